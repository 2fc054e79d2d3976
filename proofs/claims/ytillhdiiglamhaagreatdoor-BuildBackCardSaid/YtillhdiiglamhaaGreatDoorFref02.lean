/- Printed: what each function asks, and that it is sound. -/
import Derived.Test.YtillhdiiglamhaaGreatDoorFnsC
set_option linter.unusedSimpArgs false
set_option linter.unusedVariables false
set_option maxRecDepth 100000
set_option maxHeartbeats 1000000
noncomputable section
namespace Go.Proofs.YtillhdiiglamhaaGreatDoor
open Go Go.Proofs.Tryz
open Int(tmod toNat)
variable{a:zk}{b g:Int}{H:zV}{d:zW}
def bX.K0:=GC f69
def bX.pt(m:zW)(z:Int):GJ:=λH R=>
 ∀b H1,b=H.size->H1=H.push (.cells GL 127)->
 gh.C m z H1 (λv H2=> ∃x,v=vp x/\
 fY x (
 (aF H2 (ad b) 0 7)/\ ∀H3,H3=aL H2 (ad b) [vi 0,vi 0,vi 0,vi 0,vi 0,vi 0,vi 0] 0->
 ∃ac aa rN s q p r,aI H3 (ad b) 0 [vi ac,vi aa,vi rN,vi s,vi q,vi p,vi r]/\
 R (.tuple #[.agg #[vi ac,vi aa,vi rN,vi s,vi q,vi p,vi r],VF]) H3) (λxA=>
 ∃t o xN f a e d,aI H2 xA 0 [vi t,vi o,vi xN,vi f,vi a,vi e,vi d]/\
 (aF H2 (ad b) 0 7)/\ ∀H4,H4=aL H2 (ad b) [vi t,vi o,vi xN,vi f,vi a,vi e,vi d] 0->
 ∃y u ab g j k i,aI H4 (ad b) 0 [vi y,vi u,vi ab,vi g,vi j,vi k,vi i]/\
 R (.tuple #[.agg #[vi y,vi u,vi ab,vi g,vi j,vi k,vi i],VT]) H4))
theorem bX.link(h:pt d b H a):C d b H a:=by
 refine l2 K0 17 func69 ?_;intro w0 Q hQ;unfold pt at h;refine ki [(0,vp d),(1,vi b)]<|ar 0<|l1 (some 4) (λz=>vp (pa z)) (.cells GL 127)<|λz H1 e1 e2=>have h:=h z H1 e1 e2;im [] [(4,vp (pa z))]<|gi 1 [] []<|ar 1<|fd 2 [0,1] [(7,vp d),(8,vi b)]<|l5 9 [7,8] h λx H2 h=>gi 1 [9] [(6,vp x)]<|gv<|ar 2<|fd 1 [] [(10,vp x)] ?_;rcases x with _ | xA
 ·rw[Ev]at h;refine gi 1 [6,10] [(6,vp none),(11,VT)]<|l7 11<|ar 3<|fd 1 [6,11] [(12,.agg GL)]<|have⟨q4,h⟩:=h;bF 127 [vi 0,vi 0,vi 0,vi 0,vi 0,vi 0,vi 0] q4<|λH3 e3=>have h:=h H3 e3;im [12] []<|gi 1 [] [(5,VF)]<|zx ?_;show At _ _ _ _ _ (Q .ret);exact have⟨ac,aa,rN,s,q,p,r,q5,h⟩:=h;bY (fn:=f69) [.agg #[vi ac,vi aa,vi rN,vi s,vi q,vi p,vi r],VF] hQ (show bG _ _ _ [.cell 4 127,.tmp 5] _ from .cell GE (aR Et Et q5) (.tmp GE (.nil))) h
 rw[El]at h;refine gi 1 [6,10] [(6,Vq xA),(11,VF)]<|pN 11<|kT<|ar 4<|fd 3 [6,11] [(15,Vq xA)]<|have⟨t,o,xN,f,R,e,m,q6,h⟩:=h;na 16 127 q6 [15]<|have⟨q8,h⟩:=h;bF 127 [vi t,vi o,vi xN,vi f,vi R,vi e,vi m] q8<|λH4 e7=>have h:=h H4 e7;im [16] []<|gi 1 [] [(5,VT)]<|zx ?_;show At _ _ _ _ _ (Q .ret);exact have⟨y,u,ab,g,j,k,i,q9,h⟩:=h;bY (fn:=f69) [.agg #[vi y,vi u,vi ab,vi g,vi j,vi k,vi i],VT] hQ (show bG _ _ _ [.cell 4 127,.tmp 5] _ from .cell GE (aR Et Et q9) (.tmp GE (.nil))) h
def cS.K0:=GC f81
def cS.pt(m:zW)(a:Int):GJ:=λH R=>
 gI.C m a H (λv H1=> ∃x,v=vp x/\
 fY x (
 R (.tuple #[vu 0,vi 18]) H1) (λxA=>
 ∃b,hat H1 xA=some (vu b)/\
 R (.tuple #[vu b,vi 0]) H1))
theorem cS.link(h:pt d b H a):C d b H a:=by
 refine l2 K0 15 func81 ?_;intro w0 Q hQ;unfold pt at h;refine ki [(0,vp d),(1,vi b)]<|ar 0<|gi 2 [] []<|gv<|ar 1<|nb 2 [(7,vp d),(8,vi b)]<|BD 9 (λx=>[(9,vp x)]) h λx H1 h=>nx 1 [(6,vp x)]<|ar 2<|fd 1 [] [(10,vp x)] ?_;rcases x with _ | xA
 ·rw[Ev]at h;exact nx 1 [(6,vp none),(11,VF)]<|pN 11<|kT<|ar 4<|hH 2 [4,5] [vu 0,vi 18] hQ h
 rw[El]at h;exact nx 1 [(6,Vq xA),(11,VT)]<|l7 11<|ar 3<|nb 2 [(13,Vq xA)]<|have⟨R,q1,h⟩:=h;hV 14 37 q1 [13]<|hH 2 [4,5] [vu R,vi 0] hQ h
def dS.K0:=GC f82
def dS.pt(m:zW)(a wv:Int):GJ:=λH R=>
 gI.C m a H (λv H1=> ∃x,v=vp x/\
 fY x (
 R (vi 18) H1) (λxA=>
 (aF H1 xA 0 1)/\ ∀H2,H2=aL H1 xA [vu wv] 0->
 R (vi 0) H2))
theorem dS.link(h:pt d b g H a):C d b g H a:=by
 refine l2 K0 16 func82 ?_;intro w0 Q hQ;unfold pt at h;refine ki [(0,vp d),(1,vi b),(2,vu g)]<|ar 0<|gi 1 [] []<|ar 1<|fd 2 [0,1] [(8,vp d),(9,vi b)]<|l5 10 [8,9] h λx H1 h=>gi 1 [10] [(7,vp x)]<|gv<|ar 2<|fd 1 [] [(11,vp x)] ?_;rcases x with _ | xA
 ·rw[Ev]at h;exact gi 1 [7,11] [(7,vp none),(12,VT)]<|l7 12<|ar 3<|hH 1 [6] [vi 18] hQ h
 rw[El]at h;refine gi 1 [7,11] [(7,Vq xA),(12,VF)]<|pN 12<|kT<|ar 4<|nb 3 [(14,vu g),(15,Vq xA)]<|have⟨q2,h⟩:=h;fj 37 (vu g) q2<|λH2 e1=>have h:=h H2 e1;⟨[],pk,?_⟩;exact ue<|ar 5<|hH 1 [6] [vi 0] hQ h
def k9.K0:=GC f94
def k9.pt(a:Int):GJ:=λH R=>
 if((decide (a<8)) || (decide (a>1024)))=true then(
 R (.tuple #[vp none,vi 1]) H)
 else
 0<=a/\a<=a/\576*a<=2 ^ 48/\a<=9223372036854775807/\
 ∀b H1,b=H.size->H1=H.push (.cells (Builtin.zeroCells (List.replicate 8 (vi 0)++List.replicate 64 (vu 0):List Value).toArray (toNat a)) 188)->
 ∀d H2,d=H1.size->H2=H1.push (.cells #[vs (some (ad b)) (toNat a) (toNat a),vi 0,vi a] 184)->
 R (.tuple #[Vq (ad d),vi 0]) H2
theorem k9.link(h:pt b H a):C b H a:=by
 refine l2 K0 15 func94 ?_;intro w0 Q hQ;unfold pt at h;refine ki [(0,vi b)]<|ar 0<|gi 2 [] []<|gv<|ar 1<|gU [(0,vi b),(9,.bool ((decide (b<8)) || (decide (b>1024))))] ?_ ?_
 ·refine aE<|jn h (λc3 h=>?_) (λc3 h=>?_)
  ·exact aH 9 c3<|ar 2<|hH 2 [2,3] [vp none,vi 1] hQ h
  refine aG 9 (zZ c3)<|kT<|ar 3<|nb 1 [(0,vi b),(10,vi b)]<|have⟨q5,q6,q7,q8,h⟩:=h;xl (some 11) (lr 182 (vi b) (vi b)) (λv Hz=>v=Value.slice (some (Addr.mk H.size 0 none)) (toNat b) (toNat b)/\Hz=H.push (.cells (Builtin.zeroCells (List.replicate 8 (vi 0)++List.replicate 64 (vu 0):List Value).toArray (toNat b)) 188)) Et (te (T:=188) (zero:=.agg (List.replicate 8 (vi 0)++List.replicate 64 (vu 0):List Value).toArray) FL (show prog.info? 188=some t188 from GE) GE q5 q6 q7 q8 GE GG) ?_;rintro _ H1 ⟨rfl,e10⟩;obtain⟨R,e9⟩: ∃R,R=H.size:=⟨_,rfl⟩;replace h:=h R H1 e9 e10;rw[<-e9];refine im [10] [(11,vs (pa R) (toNat b) (toNat b))]<|nb 2 [(13,.agg #[vs (pa R) (toNat b) (toNat b),vi 0,vi b])]<|l1 (some 14) (λR=>vp (pa R)) (.cells #[vs (pa R) (toNat b) (toNat b),vi 0,vi b] 184)<|λd H2 e11 e12=>have h:=h d H2 e11 e12;⟨[(14,vp (pa d))],pk,?_⟩;exact hH 2 [2,3] [vp (pa d),vi 0] hQ h
 refine λhk=>nb 3 [(0,vi b),(6,.bool (decide (b<8)))] ?_;by_cases c1:b<8
 ·have b2:(decide (b<8))=true:=zX c1;exact bW [(0,vi b),(6,VT)] (by rw[b2])<|fd 3 [6] [(9,VT)]<|zq<|n7 9 (b:=true) (v:=((decide (b<8)) || (decide (b>1024)))) (by simp only[b2,BL])<|hk
 have b2:(decide (b<8))=false:=zQ c1;exact bW [(0,vi b),(6,VF)] (by rw[b2])<|fd 3 [6] [(9,.bool (decide (b>1024)))]<|zq<|n7 9 (b:=(decide (b>1024))) (v:=((decide (b<8)) || (decide (b>1024)))) (by simp only[b2,BL])<|hk
def gh.K0:=GC f122
def gh.pt(m:zW)(b:Int):GJ:=λH R=>
 fY m (
 R (vp none) H) (λmA=>
 if b<0 then(
 R (vp none) H)
 else
 ∃xB xN xC,hat H mA=some (vs xB xN xC)/\
 if b>=(xN:Int)then(
 R (vp none) H)
 else
 ∃p g o,hat H mA=some (vs p g o)/\
 ∃d,p=some d/\
 zw b g/\
 ∃x,hat H ((d.add (toNat b*72)).add 7)=some (vi x)/\
 if x=0 then(
 R (vp none) H)
 else
 ∃q f j,hat H mA=some (vs q f j)/\
 ∃e,q=some e/\
 zw b f/\
 R (Vq (e.add (toNat b*72))) H)
theorem gh.link(h:pt d b H a):C d b H a:=by
 refine l2 K0 37 func122 ?_;intro w0 Q hQ;unfold pt at h;refine ki [(0,vp d),(1,vi b)]<|ar 0<|gi 1 [] []<|gv<|ar 1<|fd 1 [] [(5,vp d)] ?_;rcases d with _ | mA
 ·rw[Ev]at h;exact gi 25 [0,5] [(0,vp none),(30,VT)]<|l7 30<|ar 2<|hH 1 [4] [vp none] hQ h
 rw[El]at h;refine fd 6 [0,5] [(0,Vq mA),(11,.bool (decide (b<0)))]<|jn h (λc1 h=>?_) (λc1 h=>?_)
 ·exact kc 11 (zX c1)<|gi 19 [11] [(30,VT)]<|l7 30<|ar 2<|hH 1 [4] [vp none] hQ h
 refine kc 11 (zQ c1)<|fd 4 [] [(12,vi b),(15,Vq mA)]<|have⟨xB,xN,xC,q3,h⟩:=h;hV 16 182 q3 [15]<|fd 4 [11,12,16] [(20,.bool (decide (b>=(xN:Int))))]<|jn h (λc4 h=>?_) (λc4 h=>?_)
 ·exact kc 20 (zX c4)<|gi 10 [20] [(30,VT)]<|l7 30<|ar 2<|hH 1 [4] [vp none] hQ h
 refine kc 20 (zQ c4)<|fd 3 [] [(23,Vq mA)]<|have⟨p,g,o,q6,h⟩:=h;hV 24 182 q6 [23]<|fd 1 [] [(25,vi b)] ?_;obtain⟨R,rfl,q7,ha⟩:=h;refine ww (some 26) 182 188 72 R g o .i64 b FL q7.1 q7.2 [24,25] [(26,Vq (R.add (toNat b*72)))]<|fd 1 [26] [(27,Vq ((R.add (toNat b*72)).add 7))]<|have⟨x,q8,h⟩:=ha;hV 28 3 q8 [27]<|gi 2 [20,28] [(30,.bool (x==0))]<|jn h (λc9 h=>?_) (λc9 h=>?_)
 ·exact aH 30 (zK c9)<|ar 2<|hH 1 [4] [vp none] hQ h
 refine aG 30 (zJ c9)<|kT<|ar 3<|fd 3 [0,30] [(33,Vq mA)]<|have⟨q,f,j,q11,h⟩:=h;hV 34 182 q11 [33]<|fd 1 [1] [(35,vi b)] ?_;obtain⟨e,rfl,q12,hb⟩:=h;exact DX (some 36) 182 188 72 e f j .i64 b FL q12.1 q12.2 [(36,Vq (e.add (toNat b*72)))]<|hH 1 [4] [Vq (e.add (toNat b*72))] hQ hb
def ia.K0:=GC f128
def ia.pt(m:zW)(e b d:Int):GJ:=λH R=>
 gh.C m e H (λv H1=> ∃x,v=vp x/\
 fY x (
 R (vi 19) H1) (λxA=>
 if((((decide (b<0)) || (decide (b>=4))) || (decide (d<0))) || (decide (d>5)))=true then(
 R (vi 1) H1)
 else
 zw b 4/\
 (aF H1 ((xA.add 3).add (toNat b*1)) 0 1)/\ ∀H2,H2=aL H1 ((xA.add 3).add (toNat b*1)) [vi d] 0->
 R (vi 0) H2))
theorem ia.link{e b m:Int}(h:pt d e b m H a):C d e b m H a:=by
 refine l2 K0 38 func128 ?_;intro w0 Q hQ;unfold pt at h;refine ki [(0,vp d),(1,vi e),(2,vi b),(3,vi m)]<|ar 0<|gi 1 [] []<|ar 1<|fd 2 [0,1] [(10,vp d),(11,vi e)]<|l5 12 [10,11] h λx H1 h=>gi 1 [12] [(9,vp x)]<|gv<|k5 0<|ar 2<|fd 1 [] [(14,vp x)] ?_;rcases x with _ | xA
 ·rw[Ev]at h;exact gi 2 [9,14] [(9,vp none),(13,VT)]<|l7 13<|ar 3<|hH 1 [8] [vi 19] hQ h
 rw[El]at h;refine gi 2 [9,14] [(9,Vq xA),(13,VF)]<|pN 13<|ar 4<|gU [(2,vi b),(3,vi m),(9,Vq xA),(16,.bool ((((decide (b<0)) || (decide (b>=4))) || (decide (m<0))) || (decide (m>5))))] ?_ ?_
 ·refine aE<|jn h (λc7 h=>?_) (λc7 h=>?_)
  ·exact aH 16 c7<|ar 5<|hH 1 [8] [vi 1] hQ h
  refine aG 16 (zZ c7)<|Bn<|aD<|aE<|ar 6<|nb 6 [(32,vi b),(33,vi m),(36,Vq (xA.add 3))]<|have⟨q9,h⟩:=h;wd 37 (bJ 116 (Vq (xA.add 3)) (vi b)) (Vq ((xA.add 3).add (toNat b*1))) (λw _=>cG (P:=prog) (t:=116) (elem:=3) (sz:=1) (n:=4) (a:=(xA.add 3)) (k:=.i64) (i:=b) FP Et q9.1 q9.2 w) [32,36]<|have⟨q11,h⟩:=h;fj 3 (vi m) q11<|λH2 e10=>have h:=h H2 e10;⟨[],pk,?_⟩;exact ue<|ar 7<|hH 1 [8] [vi 0] hQ h
 refine λhk=>nb 3 [(2,vi b),(3,vi m),(9,Vq xA),(19,.bool (decide (b<0)))] ?_;by_cases c1:b<0
 ·have b2:(decide (b<0))=true:=zX c1;exact bW [(2,vi b),(3,vi m),(9,Vq xA),(19,VT)] (by rw[b2])<|fd 12 [19] [(16,VT)]<|zq<|n7 16 (b:=true) (v:=((((decide (b<0)) || (decide (b>=4))) || (decide (m<0))) || (decide (m>5)))) (by simp only[b2,BL])<|hk
 have b2:(decide (b<0))=false:=zQ c1;refine bW [(2,vi b),(3,vi m),(9,Vq xA),(19,VF)] (by rw[b2])<|fd 4 [19] [(23,.bool (decide (b>=4)))] ?_;by_cases c3:b>=4
 ·have b4:(decide (b>=4))=true:=zX c3;exact kc 23 b4<|fd 8 [23] [(16,VT)]<|zq<|n7 16 (b:=true) (v:=((((decide (b<0)) || (decide (b>=4))) || (decide (m<0))) || (decide (m>5)))) (by simp only[b2,b4,BL])<|hk
 have b4:(decide (b>=4))=false:=zQ c3;refine kc 23 b4<|fd 4 [23] [(27,.bool (decide (m<0)))] ?_;by_cases c5:m<0
 ·have b6:(decide (m<0))=true:=zX c5;exact kc 27 b6<|fd 4 [27] [(16,VT)]<|zq<|n7 16 (b:=true) (v:=((((decide (b<0)) || (decide (b>=4))) || (decide (m<0))) || (decide (m>5)))) (by simp only[b2,b4,b6,BL])<|hk
 have b6:(decide (m<0))=false:=zQ c5;exact kc 27 b6<|fd 4 [27] [(16,.bool (decide (m>5)))]<|zq<|n7 16 (b:=(decide (m>5))) (v:=((((decide (b<0)) || (decide (b>=4))) || (decide (m<0))) || (decide (m>5)))) (by simp only[b2,b4,b6,BL])<|hk
def gH.K0:=GC f133
def gH.pt(m:zW)(a nv:Int):GJ:=λH R=>
 gh.C m a H (λv H1=> ∃x,v=vp x/\
 fY x (
 R (.tuple #[vi 0,vi 19]) H1) (λxA=>
 if nv<1 then(
 R (.tuple #[vi 0,vi 1]) H1)
 else
 ∃b,hat H1 (xA.add 2)=some (vi b)/\
 if nv>(zY (64-b))then(
 R (.tuple #[vi 0,vi 2]) H1)
 else
 ∃d,hat H1 (xA.add 2)=some (vi d)/\
 (aF H1 (xA.add 2) 0 1)/\ ∀H2,H2=aL H1 (xA.add 2) [vi (zY (d+nv))] 0->
 ∃e,hat H2 (xA.add 2)=some (vi e)/\
 R (.tuple #[vi (zY ((zY ((zY (a*64))+e))-nv)),vi 0]) H2))
theorem gH.link(h:pt d b g H a):C d b g H a:=by
 refine l2 K0 47 func133 ?_;intro w0 Q hQ;unfold pt zY at h;refine ki [(0,vp d),(1,vi b),(2,vi g)]<|ar 0<|gi 2 [] []<|ar 1<|fd 2 [0] [(9,vp d),(10,vi b)]<|l5 11 [9,10] h λx H1 h=>gi 1 [11] [(8,vp x)]<|gv<|k5 0<|ar 2<|fd 1 [] [(13,vp x)] ?_;rcases x with _ | xA
 ·rw[Ev]at h;exact gi 2 [8,13] [(8,vp none),(12,VT)]<|l7 12<|ar 3<|hH 2 [6,7] [vi 0,vi 19] hQ h
 rw[El]at h;refine gi 2 [8,13] [(8,Vq xA),(12,VF)]<|pN 12<|ar 4<|gi 3 [12] [(15,.bool (decide (g<1)))]<|jn h (λc1 h=>?_) (λc1 h=>?_)
 ·exact aH 15 (zX c1)<|ar 5<|hH 2 [6,7] [vi 0,vi 1] hQ h
 refine aG 15 (zQ c1)<|ar 6<|fd 5 [15] [(19,vi g),(23,Vq (xA.add 2))]<|have⟨R,q3,h⟩:=h;hV 24 3 q3 [23]<|gi 3 [19,24] [(18,.bool (decide (g>(zY (64-R)))))]<|jn h (λc4 h=>?_) (λc4 h=>?_)
 ·exact aH 18 (zX c4)<|ar 7<|hH 2 [6,7] [vi 0,vi 2] hQ h
 exact aG 18 (zQ c4)<|Bn<|aD<|aE<|ar 8<|fd 4 [18] [(27,Vq xA),(30,Vq (xA.add 2))]<|have⟨nv,q6,h⟩:=h;hV 31 3 q6 [30]<|fd 5 [27,31] [(33,vi (zY (nv+g))),(36,Vq (xA.add 2))]<|have⟨q8,h⟩:=h;fj 3 (vi (zY (nv+g))) q8<|λH2 e7=>have h:=h H2 e7;im [33,36] []<|ue<|ar 9<|fd 6 [1,8] [(38,vi (zY (b*64))),(42,Vq (xA.add 2))]<|have⟨e,q9,h⟩:=h;hV 43 3 q9 [42]<|hH 5 [6,7] [vi (zY ((zY ((zY (b*64))+e))-g)),vi 0] hQ h
namespace ib
def K0:=GC f134
def K2:=cb K0
def K4:=cb K2
def BR:=cb K4
def Co:=ca BR
def B4:=cb BR
def B6:=ca Co
def Ch:=ca B6
def Cx:=cb B4
def C7:=cb Cx
def CG:=ca C7
end ib
def ib.pt(m:zW)(d b:Int):GJ:=λH R=>
 fY m (
 R (.tuple #[vi 0,vi 1]) H) (λmA=>
 if d<0 then(
 R (.tuple #[vi 0,vi 1]) H)
 else
 if d>4 then(
 R (.tuple #[vi 0,vi 1]) H)
 else
 if b<0 then(
 R (.tuple #[vi 0,vi 1]) H)
 else
 if b>3 then(
 R (.tuple #[vi 0,vi 1]) H)
 else
 ∃xB xN xC,hat H mA=some (vs xB xN xC)/\
 if(xN:Int)=0 then(
 R (.tuple #[vi 0,vi 1]) H)
 else
 ∃x,hat H (mA.add 2)=some (vi x)/\
 if x=0 then(
 R (.tuple #[vi 0,vi 2]) H)
 else
 ∃(z:zv) (m24:Int->zV->Nat),z 0 H/\ ∀k H1,z k H1->
 ∃y p q,hat H1 mA=some (vs y p q)/\
 ∃o,y=some o/\
 zw k p/\
 ∃r,hat H1 ((o.add (toNat k*72)).add 7)=some (vi r)/\
 if r>0 then(
 (z (zY (k+1)) H1/\m24 (zY (k+1)) H1<m24 k H1))
 else
 ∃s,hat H1 (mA.add 1)=some (vi s)/\
 (aF H1 (mA.add 1) 0 1)/\ ∀H2,H2=aL H1 (mA.add 1) [vi (zY (s+1))] 0->
 ∃u,hat H2 (mA.add 2)=some (vi u)/\
 (aF H2 (mA.add 2) 0 1)/\ ∀H3,H3=aL H2 (mA.add 2) [vi (zY (u-1))] 0->
 ∃aa f g,hat H3 mA=some (vs aa f g)/\
 ∃j,hat H3 (mA.add 1)=some (vi j)/\
 ∃e,aa=some e/\
 zw k f/\
 (aF H3 (e.add (toNat k*72)) 0 72)/\ ∀H4,H4=aL H3 (e.add (toNat k*72)) ([vi d,vi b,vi 0,vi 5,vi 5,vi 5,vi 5,vi j]++List.replicate 64 (vu 0):List Value) 0->
 R (.tuple #[vi k,vi 0]) H4)
theorem ib.link{H:zV}(h:pt d b g H a):C d b g H a:=by
 refine l2 K0 83 func134 ?_;intro w0 Q hQ;unfold pt zY at h;refine ki [(0,vp d),(1,vi b),(2,vi g)]<|ar 0<|gi 2 [] []<|gv<|k5 0<|ar 1<|fd 1 [] [(10,vp d)] ?_;rcases d with _ | mA
 ·rw[Ev]at h;exact gi 26 [0,10] [(0,vp none),(9,VT)]<|l7 9<|ar 2<|hH 2 [6,7] [vi 0,vi 1] hQ h
 rw[El]at h;refine fd 6 [0,10] [(0,Vq mA),(16,.bool (decide (b<0)))]<|jn h (λc1 h=>?_) (λc1 h=>?_)
 ·exact kc 16 (zX c1)<|gi 20 [16] [(9,VT)]<|l7 9<|ar 2<|hH 2 [6,7] [vi 0,vi 1] hQ h
 refine kc 16 (zQ c1)<|fd 4 [16] [(20,.bool (decide (b>4)))]<|jn h (λc3 h=>?_) (λc3 h=>?_)
 ·exact kc 20 (zX c3)<|gi 16 [20] [(9,VT)]<|l7 9<|ar 2<|hH 2 [6,7] [vi 0,vi 1] hQ h
 refine kc 20 (zQ c3)<|fd 4 [20] [(24,.bool (decide (g<0)))]<|jn h (λc5 h=>?_) (λc5 h=>?_)
 ·exact kc 24 (zX c5)<|gi 12 [24] [(9,VT)]<|l7 9<|ar 2<|hH 2 [6,7] [vi 0,vi 1] hQ h
 refine kc 24 (zQ c5)<|fd 4 [24] [(28,.bool (decide (g>3)))]<|jn h (λc7 h=>?_) (λc7 h=>?_)
 ·exact kc 28 (zX c7)<|gi 8 [28] [(9,VT)]<|l7 9<|ar 2<|hH 2 [6,7] [vi 0,vi 1] hQ h
 refine kc 28 (zQ c7)<|fd 3 [] [(31,Vq mA)]<|have⟨xB,xN,xC,q9,h⟩:=h;hV 32 182 q9 [31]<|gi 4 [28,32] [(9,.bool ((xN:Int)==0))]<|jn h (λc10 h=>?_) (λc10 h=>?_)
 ·exact aH 9 (zK c10)<|ar 2<|hH 2 [6,7] [vi 0,vi 1] hQ h
 refine aG 9 (zJ c10)<|ar 3<|fd 3 [9] [(39,Vq (mA.add 2))]<|have⟨x,q12,h⟩:=h;hV 40 3 q12 [39]<|gi 2 [40] [(36,.bool (x==0))]<|jn h (λc13 h=>?_) (λc13 h=>?_)
 ·exact aH 36 (zK c13)<|ar 4<|hH 2 [6,7] [vi 0,vi 2] hQ h
 refine aG 36 (zJ c13)<|Bn<|aD<|aE<|ar 5<|gi 1 [36] [(8,vi 0)]<|gv<|k5 1<|have⟨z,m24,i15,i16⟩:=h;bI (x:=Ch) (σ:=Int) (λs_=> [(0,Vq mA),(1,vi b),(2,vi g),(8,vi s_)]) (λs_ H=>z s_ H) (λs_ H=>m24 s_ H) (0:Int) GE i15 sk ?_;rintro k H1 i17;have h:=i16 k H1 i17;refine ki [(0,Vq mA),(1,vi b),(2,vi g),(8,vi k)]<|gv<|ar 6<|fd 3 [] [(44,Vq mA)]<|have⟨y,p,q,q18,h⟩:=h;hV 45 182 q18 [44]<|fd 1 [] [(46,vi k)] ?_;obtain⟨o,rfl,q19,ha⟩:=h;refine ww (some 47) 182 188 72 o p q .i64 k FL q19.1 q19.2 [45,46] [(47,Vq (o.add (toNat k*72)))]<|fd 1 [47] [(48,Vq ((o.add (toNat k*72)).add 7))]<|have⟨r,q20,h⟩:=ha;hV 49 3 q20 [48]<|gi 1 [49] [(50,.bool (decide (r>0)))]<|jn h (λc21 h=>?_) (λc21 h=>?_)
 ·exact aH 50 (zX c21)<|kT<|k5 2<|k4 7<|fd 3 [8,50] [(8,vi (zY (k+1)))]<|zq<|aD<|aE<|aQ ((zY (k+1)):Int) sk h
 refine aG 50 (zQ c21)<|zj 1<|aA<|aA<|aJ<|aE<|ar 8<|fd 3 [50] [(53,Vq mA),(55,Vq (mA.add 1))]<|have⟨s,q23,h⟩:=h;hV 56 3 q23 [55]<|fd 3 [53,56] [(57,vi (zY (s+1))),(59,Vq (mA.add 1))]<|have⟨q25,h⟩:=h;fj 3 (vi (zY (s+1))) q25<|λH2 e24=>have h:=h H2 e24;im [57,59] []<|ue<|ar 9<|fd 3 [] [(60,Vq mA),(62,Vq (mA.add 2))]<|have⟨u,q26,h⟩:=h;hV 63 3 q26 [62]<|fd 3 [60,63] [(64,vi (zY (u-1))),(66,Vq (mA.add 2))]<|have⟨q28,h⟩:=h;fj 3 (vi (zY (u-1))) q28<|λH3 e27=>have h:=h H3 e27;im [64,66] []<|ue<|gv ?_;obtain⟨aa,f,m,q29,j,q30,e,rfl,q31,hb⟩:=h;refine yY 10 (Code.ops CG) [(15,mA,[vs (some e) f m]),(15,(mA.add 1),[vi j])] 16 (bv 16 0) (show aP _ _ _ from⟨⟨q29,GB⟩,⟨q30,GB⟩,GB⟩)<|Bp 0 (some 67) (vp (some mA)) (bv 16 1) [(0,vp (some mA)),(1,vi b),(2,vi g),(8,vi k),(67,vp (some mA))]<|aM 1 68 (vp (some mA)) (bv 16 3) [67]<|aM 2 69 (vp (some mA)) (bv 16 7) [68]<|lb 3 70 (vs (some e) f m) (bv 16 15) [69] (aZ 182 (vp (some mA))) (yW 15 yZ)<|aM 4 71 (vi k) (bv 16 31) []<|aM 5 72 (vi b) (bv 16 63) [1]<|aM 6 73 (vi g) (bv 16 127) [2]<|aM 7 74 (.agg #[vi 5,vi 5,vi 5,vi 5]) (bv 16 255) []<|aM 8 75 (.agg #[vi b,vi g,vi 0,vi 5,vi 5,vi 5,vi 5]) (bv 16 511) [72,73,74]<|aM 9 76 (vp (some mA)) (bv 16 1023) [0]<|aM 10 77 (vp (some mA)) (bv 16 2047) [76]<|aM 11 78 (vp (some (mA.add 1))) (bv 16 4095) [77]<|lb 12 79 (vi j) (bv 16 8191) [78] (aZ 3 (vp (some (mA.add 1)))) (yW 15 yX)<|aM 13 80 (.agg ([vi b,vi g,vi 0,vi 5,vi 5,vi 5,vi 5,vi j]++List.replicate 64 (vu 0):List Value).toArray) (bv 16 16383) [75,79]<|lb 14 81 (vp (some (e.add (toNat k*72)))) (bv 16 32767) [70,71] (bJ 182 (vs (some e) f m) (vi k)) (λ_ w _ _ _=>dV (P:=prog) (t:=182) (elem:=188) (sz:=72) (a:=e) (len:=f) (cap:=m) (k:=.i64) (i:=k) FL Et q31.1 q31.2 w) ?_;obtain⟨q33,h⟩:=hb;refine gR 15 none (bv 16 65535) (jR 188 (Vq (e.add (toNat k*72))) (.agg ([vi b,vi g,vi 0,vi 5,vi 5,vi 5,vi 5,vi j]++List.replicate 64 (vu 0):List Value).toArray)) (λHz=>Hz=aL H3 (e.add (toNat k*72)) ([vi b,vi g,vi 0,vi 5,vi 5,vi 5,vi 5,vi j]++List.replicate 64 (vu 0):List Value) 0) GE Et (by intro w hw;obtain⟨w1,g1,g2,g3⟩:=ji (P:=prog) (H:=H3) (t:=188) (a:=(e.add (toNat k*72))) (v:=(.agg ([vi b,vi g,vi 0,vi 5,vi 5,vi 5,vi 5,vi j]++List.replicate 64 (vu 0):List Value).toArray)) ([vi b,vi g,vi 0,vi 5,vi 5,vi 5,vi 5,vi j]++List.replicate 64 (vu 0):List Value) 72 GE GE Et GE q33 w hw;exact⟨w1,g1,g2,g3⟩) GE ?_;refine λH4 e32=>have h:=h H4 e32;⟨[(8,vi k)],pk,(show aP _ _ _ from⟨GB,GB,GB⟩),?_⟩;exact gm [(8,vi k)] sk<|yx<|aE<|ar 11<|hH 3 [6,7] [vi k,vi 0] hQ h
def gI.K0:=GC f135
def gI.pt(m:zW)(b:Int):GJ:=λH R=>
 if b<0 then(
 R (vp none) H)
 else
 gh.C m (zY (Int.tdiv b 64)) H (λv H1=> ∃x,v=vp x/\
 fY x (
 R (vp none) H1) (λxA=>
 ∃d,hat H1 (xA.add 2)=some (vi d)/\
 if(tmod b 64)>=d then(
 R (vp none) H1)
 else
 ((0:Int)<=(tmod b 64)/\(tmod b 64)< (64:Int))/\
 R (Vq ((xA.add 8).add (toNat (tmod b 64)*1))) H1))
theorem gI.link(h:pt d b H a):C d b H a:=by
 refine l2 K0 30 func135 ?_;intro w0 Q hQ;unfold pt zY at h;refine ki [(0,vp d),(1,vi b)]<|ar 0<|gi 1 [] []<|gv<|ar 1<|gi 2 [] [(7,.bool (decide (b<0)))]<|jn h (λc1 h=>?_) (λc1 h=>?_)
 ·exact aH 7 (zX c1)<|ar 2<|hH 1 [4] [vp none] hQ h
 refine aG 7 (zQ c1)<|kT<|ar 3<|fd 3 [0,7] [(8,vp d),(10,vi (zY (Int.tdiv b 64)))]<|l5 11 [8,10] h λx H1 h=>gi 1 [11] [(5,vp x)]<|gv<|ar 4<|fd 1 [] [(12,vp x)] ?_;rcases x with _ | xA
 ·rw[Ev]at h;exact gi 11 [5,12] [(5,vp none),(23,VT)]<|l7 23<|ar 5<|hH 1 [4] [vp none] hQ h
 rw[El]at h;refine fd 8 [5,12] [(5,Vq xA),(14,VF),(16,vi (tmod b 64)),(20,Vq (xA.add 2))]<|have⟨m,q3,h⟩:=h;hV 21 3 q3 [20]<|gi 2 [14,16,21] [(23,.bool (decide ((tmod b 64)>=m)))]<|jn h (λc4 h=>?_) (λc4 h=>?_)
 ·exact aH 23 (zX c4)<|ar 5<|hH 1 [4] [vp none] hQ h
 exact aG 23 (zQ c4)<|kT<|ar 6<|nb 5 [(26,vi (tmod b 64)),(28,Vq (xA.add 8))]<|have⟨q6,h⟩:=h;wd 29 (bJ 186 (Vq (xA.add 8)) (vi (tmod b 64))) (Vq ((xA.add 8).add (toNat (tmod b 64)*1))) (λw _=>cG (P:=prog) (t:=186) (elem:=37) (sz:=1) (n:=64) (a:=(xA.add 8)) (k:=.i64) (i:=(tmod b 64)) underlying186 Et q6.1 q6.2 w) [26,28]<|hH 1 [4] [Vq ((xA.add 8).add (toNat (tmod b 64)*1))] hQ h
end Go.Proofs.YtillhdiiglamhaaGreatDoor
namespace Go.Proofs.YtillhdiiglamhaaGreatDoor
open Go Go.Proofs.Tryz
variable{H:zV}{a:zk}{b:Int}
def jF.K0:=GC f20
def jF.pt(c:Int):GJ:=λH R=>
 if c<0 then(
 R (.tuple #[vu 0,vi 4]) H)
 else
 iE.C (IntKind.wrap .u64 c) H (λv H1=> ∃x,v=.bool x/\
 if x=true then(
 R (.tuple #[vu (mp .u64 (mp .u64 (k8 .u64 (IntKind.wrap .u64 c) 8) 56) 4),vi 0]) H1)
 else
 R (.tuple #[vu 0,vi 4]) H1)
theorem jF.link(h:pt b H a):C b H a:=by
 refine l2 K0 17 func20 ?_;intro w0 Q hQ;unfold pt at h;refine ki [(0,.int .i32 b)]<|ar 0<|gi 2 [] []<|gv<|ar 1<|fd 3 [] [(6,.bool (decide (b<0)))]<|jn h (λc1 h=>?_) (λc1 h=>?_)
 ·exact kc 6 (zX c1)<|gi 5 [6] [(11,VT)]<|l7 11<|ar 2<|hH 2 [2,3] [vu 0,vi 4] hQ h
 refine kc 6 (zQ c1)<|fd 2 [] [(8,vu (GD b))]<|l5 9 [8] h λx H1 h=>gi 2 [6,9] [(11,.bool (!x))]<|jn h (λc3 h=>?_) (λc3 h=>?_)
 ·exact aG 11 (Eg Bool.not (c3))<|kT<|ar 3<|hH 7 [2,3] [vu (mp .u64 (mp .u64 (k8 .u64 (GD b) 8) 56) 4),vi 0] hQ h
 exact aH 11 (Eg Bool.not (zZ c3))<|ar 2<|hH 2 [2,3] [vu 0,vi 4] hQ h
def iE.K0:=GC f43
def iE.pt(c:Int):GJ:=λH R=>
 R (.bool ((decide (c<=1114111)) && ((decide (c<55296)) || (decide (c>57343))))) H
theorem iE.link(h:pt b H a):C b H a:=by
 refine l2 K0 13 func43 ?_;intro w0 Q hQ;unfold pt at h;refine ki [(0,vu b)]<|ar 0<|gi 1 [] []<|ar 1<|gU [(2,.bool ((decide (b<=1114111)) && ((decide (b<55296)) || (decide (b>57343)))))] ?_ ?_
 ·exact aE<|ix [2] [.bool ((decide (b<=1114111)) && ((decide (b<55296)) || (decide (b>57343))))] hQ h
 refine λhk=>nb 3 [(0,vu b),(5,.bool (decide (b<=1114111)))] ?_;by_cases c1:b<=1114111
 ·have b2:(decide (b<=1114111))=true:=zX c1;refine bW [(0,vu b),(5,VT)] (by rw[b2])<|fd 3 [] [(8,.bool (decide (b<55296)))] ?_;by_cases c3:b<55296
  ·have b4:(decide (b<55296))=true:=zX c3;exact kc 8 b4<|nb 5 [(2,VT)]<|zq<|cW [(2,.bool ((decide (b<=1114111)) && ((decide (b<55296)) || (decide (b>57343)))))] (by simp only[b2,b4,BL])<|hk
  have b4:(decide (b<55296))=false:=zQ c3;exact kc 8 b4<|nb 5 [(2,.bool (decide (b>57343)))]<|zq<|cW [(2,.bool ((decide (b<=1114111)) && ((decide (b<55296)) || (decide (b>57343)))))] (by simp only[b2,b4,BL])<|hk
 have b2:(decide (b<=1114111))=false:=zQ c1;exact bW [(0,vu b),(5,VF)] (by rw[b2])<|nb 8 [(2,VF)]<|zq<|cW [(2,.bool ((decide (b<=1114111)) && ((decide (b<55296)) || (decide (b>57343)))))] (by simp only[b2,BL])<|hk
def kx.K0:=GC f46
def kx.pt(x:Int):GJ:=λH R=>
 if((decide (x< (-1152921504606846976))) || (decide (x>=1152921504606846976)))=true then(
 R (.tuple #[vu 0,vi 4]) H)
 else
 R (.tuple #[vu (IntKind.wrap .u64 (k8 .i64 x 3)),vi 0]) H
theorem kx.link(h:pt b H a):C b H a:=by
 refine l2 K0 13 func46 ?_;intro w0 Q hQ;unfold pt at h;refine ki [(0,vi b)]<|ar 0<|gi 2 [] []<|gv<|ar 1<|gU [(0,vi b),(9,.bool ((decide (b< (-1152921504606846976))) || (decide (b>=1152921504606846976))))] ?_ ?_
 ·refine aE<|jn h (λc3 h=>?_) (λc3 h=>?_)
  ·exact aH 9 c3<|ar 2<|hH 2 [2,3] [vu 0,vi 4] hQ h
  exact aG 9 (zZ c3)<|kT<|ar 3<|hH 5 [2,3] [vu (GD (k8 .i64 b 3)),vi 0] hQ h
 refine λhk=>nb 3 [(0,vi b),(6,.bool (decide (b< (-1152921504606846976))))] ?_;by_cases c1:b< (-1152921504606846976)
 ·have b2:(decide (b< (-1152921504606846976)))=true:=zX c1;exact bW [(0,vi b),(6,VT)] (by rw[b2])<|fd 3 [6] [(9,VT)]<|zq<|n7 9 (b:=true) (v:=((decide (b< (-1152921504606846976))) || (decide (b>=1152921504606846976)))) (by simp only[b2,BL])<|hk
 have b2:(decide (b< (-1152921504606846976)))=false:=zQ c1;exact bW [(0,vi b),(6,VF)] (by rw[b2])<|fd 3 [6] [(9,.bool (decide (b>=1152921504606846976)))]<|zq<|n7 9 (b:=(decide (b>=1152921504606846976))) (v:=((decide (b< (-1152921504606846976))) || (decide (b>=1152921504606846976)))) (by simp only[b2,BL])<|hk
def ik.K0:=GC f50
def ik.pt(a nv b:Int):GJ:=λH R=>
 if(((((decide (a<1)) || (decide (a>13))) || (decide (nv<0))) || (decide (nv>62))) || (decide (b>=281474976710656)))=true then(
 R (.tuple #[vu 0,vi 1]) H)
 else
 R (.tuple #[vu (mp .u64 (mp .u64 (mp .u64 (k8 .u64 b 16) (k8 .u64 (IntKind.wrap .u64 nv) 8)) (k8 .u64 (IntKind.wrap .u64 a) 3)) 5),vi 0]) H
theorem ik.link{R nv b:Int}(h:pt R nv b H a):C R nv b H a:=by
 refine l2 K0 37 func50 ?_;intro w0 Q hQ;unfold pt at h;refine ki [(0,vi R),(1,vi nv),(2,vu b)]<|ar 0<|gi 2 [] []<|gv<|ar 1<|gU [(0,vi R),(1,vi nv),(2,vu b),(25,.bool (((((decide (R<1)) || (decide (R>13))) || (decide (nv<0))) || (decide (nv>62))) || (decide (b>=281474976710656))))] ?_ ?_
 ·refine aE<|jn h (λc9 h=>?_) (λc9 h=>?_)
  ·exact aH 25 c9<|ar 2<|hH 2 [6,7] [vu 0,vi 1] hQ h
  exact aG 25 (zZ c9)<|kT<|ar 3<|hH 13 [6,7] [vu (mp .u64 (mp .u64 (mp .u64 (k8 .u64 b 16) (k8 .u64 (GD nv) 8)) (k8 .u64 (GD R) 3)) 5),vi 0] hQ h
 refine λhk=>nb 3 [(0,vi R),(1,vi nv),(2,vu b),(10,.bool (decide (R<1)))] ?_;by_cases c1:R<1
 ·have b2:(decide (R<1))=true:=zX c1;exact bW [(0,vi R),(1,vi nv),(2,vu b),(10,VT)] (by rw[b2])<|fd 15 [10] [(25,VT)]<|zq<|n7 25 (b:=true) (v:=(((((decide (R<1)) || (decide (R>13))) || (decide (nv<0))) || (decide (nv>62))) || (decide (b>=281474976710656)))) (by simp only[b2,BL])<|hk
 have b2:(decide (R<1))=false:=zQ c1;refine bW [(0,vi R),(1,vi nv),(2,vu b),(10,VF)] (by rw[b2])<|fd 4 [10] [(14,.bool (decide (R>13)))] ?_;by_cases c3:R>13
 ·have b4:(decide (R>13))=true:=zX c3;exact kc 14 b4<|fd 11 [14] [(25,VT)]<|zq<|n7 25 (b:=true) (v:=(((((decide (R<1)) || (decide (R>13))) || (decide (nv<0))) || (decide (nv>62))) || (decide (b>=281474976710656)))) (by simp only[b2,b4,BL])<|hk
 have b4:(decide (R>13))=false:=zQ c3;refine kc 14 b4<|fd 4 [14] [(18,.bool (decide (nv<0)))] ?_;by_cases c5:nv<0
 ·have b6:(decide (nv<0))=true:=zX c5;exact kc 18 b6<|fd 7 [18] [(25,VT)]<|zq<|n7 25 (b:=true) (v:=(((((decide (R<1)) || (decide (R>13))) || (decide (nv<0))) || (decide (nv>62))) || (decide (b>=281474976710656)))) (by simp only[b2,b4,b6,BL])<|hk
 have b6:(decide (nv<0))=false:=zQ c5;refine kc 18 b6<|fd 4 [18] [(22,.bool (decide (nv>62)))] ?_;by_cases c7:nv>62
 ·have b8:(decide (nv>62))=true:=zX c7;exact kc 22 b8<|fd 3 [22] [(25,VT)]<|zq<|n7 25 (b:=true) (v:=(((((decide (R<1)) || (decide (R>13))) || (decide (nv<0))) || (decide (nv>62))) || (decide (b>=281474976710656)))) (by simp only[b2,b4,b6,b8,BL])<|hk
 have b8:(decide (nv>62))=false:=zQ c7;exact kc 22 b8<|fd 3 [22] [(25,.bool (decide (b>=281474976710656)))]<|zq<|n7 25 (b:=(decide (b>=281474976710656))) (v:=(((((decide (R<1)) || (decide (R>13))) || (decide (nv<0))) || (decide (nv>62))) || (decide (b>=281474976710656)))) (by simp only[b2,b4,b6,b8,BL])<|hk
def fF.K0:=GC f64
def fF.pt(wv:Int):GJ:=λH R=>
 R (vi (zY (l3 .u64 wv 7))) H
theorem fF.link(h:pt b H a):C b H a:=by
 refine l2 K0 6 func64 ?_;intro w0 Q hQ;unfold pt zY at h;exact ki [(0,vu b)]<|ar 0<|gi 1 [] []<|ar 1<|hH 4 [2] [vi (zY (l3 .u64 b 7))] hQ h
def gO.K0:=GC f79
def gO.pt(wv:Int):GJ:=λH R=>
 fF.C wv H (λv H1=> ∃x,v=vi x/\
 jd.C x H1 (λd H2=> ∃a,d=.bool a/\
 if a=true then(
 jx.C wv H2 (λe H3=> ∃b,e=.bool b/\
 if b=true then(
 R (.tuple #[vi (zY (o0 .u64 wv 3)),VT]) H3)
 else
 R (.tuple #[vi 0,VF]) H3))
 else
 R (.tuple #[vi 0,VF]) H2))
theorem gO.link(h:pt b H a):C b H a:=by
 refine l2 K0 16 func79 ?_;intro w0 Q hQ;unfold pt zY at h;refine ki [(0,vu b)]<|ar 0<|gi 2 [] []<|gv<|ar 1<|fd 1 [] [(4,vu b)]<|l5 5 [4] h λx H1 h=>l5 6 [5] h λR H2 h=>fd 2 [6] [(8,.bool (!R))]<|jn h (λc1 h=>?_) (λc1 h=>?_)
 ·have b2:(!R)=false:=Eg Bool.not (c1);have b22:R=true:=c1;refine kc 8 (b:=(!R)) (v:=false) (by simp only[b2,b22,Es,Ep]) ?_;clear b2 b22;refine fd 1 [] [(9,vu b)]<|l5 10 [9] h λwv H3 h=>gi 2 [8,10] [(12,.bool (!wv))]<|jn h (λc3 h=>?_) (λc3 h=>?_)
  ·exact aG 12 (Eg Bool.not (c3))<|kT<|ar 3<|hH 5 [2,3] [vi (zY (o0 .u64 b 3)),VT] hQ h
  exact aH 12 (Eg Bool.not (zZ c3))<|ar 2<|hH 2 [2,3] [vi 0,VF] hQ h
 have b2:(!R)=true:=Eg Bool.not (zZ c1);have b22:R=false:=zZ c1;refine kc 8 (b:=(!R)) (v:=true) (by simp only[b2,b22,Es,Ep]) ?_;clear b2 b22;exact gi 4 [8] [(12,VT)]<|l7 12<|ar 2<|hH 2 [2,3] [vi 0,VF] hQ h
def j1.K0:=GC f83
def j1.pt(b a:Int):GJ:=λH R=>
 jd.C b H (λv H1=> ∃x,v=.bool x/\
 if x=true then(
 if((decide (a<0)) || (decide (a>=65536)))=true then(
 R (.tuple #[vu 0,vi 18]) H1)
 else
 R (.tuple #[vu (mp .u64 (k8 .u64 (IntKind.wrap .u64 a) 3) (IntKind.wrap .u64 b)),vi 0]) H1)
 else
 R (.tuple #[vu 0,vi 1]) H1)
theorem j1.link{b R:Int}(h:pt b R H a):C b R H a:=by
 refine l2 K0 23 func83 ?_;intro w0 Q hQ;unfold pt at h;refine ki [(0,vi b),(1,vi R)]<|ar 0<|gi 2 [] []<|gv<|k5 0<|ar 1<|fd 1 [] [(7,vi b)]<|l5 8 [7] h λx H1 h=>gi 2 [8] [(6,.bool (!x))]<|jn h (λc1 h=>?_) (λc1 h=>?_)
 ·refine aG 6 (Eg Bool.not (c1))<|ar 3<|gU [(0,vi b),(1,vi R),(10,.bool ((decide (R<0)) || (decide (R>=65536))))] ?_ ?_
  ·refine aE<|jn h (λc5 h=>?_) (λc5 h=>?_)
   ·exact aH 10 c5<|ar 4<|hH 2 [4,5] [vu 0,vi 18] hQ h
   exact aG 10 (zZ c5)<|Bn<|aD<|aE<|ar 5<|hH 8 [4,5] [vu (mp .u64 (k8 .u64 (GD R) 3) (GD b)),vi 0] hQ h
  refine λhk=>nb 3 [(0,vi b),(1,vi R),(13,.bool (decide (R<0)))] ?_;by_cases c3:R<0
  ·have b4:(decide (R<0))=true:=zX c3;exact bW [(0,vi b),(1,vi R),(13,VT)] (by rw[b4])<|fd 4 [13] [(10,VT)]<|zq<|n7 10 (b:=true) (v:=((decide (R<0)) || (decide (R>=65536)))) (by simp only[b4,BL])<|hk
  have b4:(decide (R<0))=false:=zQ c3;exact bW [(0,vi b),(1,vi R),(13,VF)] (by rw[b4])<|fd 4 [13] [(10,.bool (decide (R>=65536)))]<|zq<|n7 10 (b:=(decide (R>=65536))) (v:=((decide (R<0)) || (decide (R>=65536)))) (by simp only[b4,BL])<|hk
 exact aH 6 (Eg Bool.not (zZ c1))<|ar 2<|hH 2 [4,5] [vu 0,vi 1] hQ h
def jJ.K0:=GC f109
def jJ.pt(wv:Int):GJ:=λH R=>
 iq.C wv H (λv H1=> ∃ra rb rc,v=.tuple #[vi ra,vi rb,vu rc]/\
 fF.C wv H1 (λb H2=> ∃x,b=vi x/\
 if x=4 then(
 if ra=7 then(
 jx.C wv H2 (λd H3=> ∃a,d=.bool a/\
 if a=true then(
 R (.tuple #[.int .i32 (IntKind.wrap .i32 (o0 .u64 wv 8)),VT]) H3)
 else
 R (.tuple #[.int .i32 0,VF]) H3))
 else
 R (.tuple #[.int .i32 0,VF]) H2)
 else
 R (.tuple #[.int .i32 0,VF]) H2))
theorem jJ.link(h:pt b H a):C b H a:=by
 refine l2 K0 28 func109 ?_;intro w0 Q hQ;unfold pt at h;refine ki [(0,vu b)]<|ar 0<|gi 2 [] []<|gv<|ar 1<|fd 1 [] [(8,vu b)]<|BO 9 [8] h λra rb rc H1 h=>gi 7 [9] [(4,vi ra)]<|ar 2<|fd 1 [] [(13,vu b)]<|l5 14 [13] h λx H2 h=>fd 2 [14] [(16,.bool (x !=4))]<|jn h (λc1 h=>?_) (λc1 h=>?_)
 ·refine kc 16 (Em.mpr c1)<|fd 4 [4,16] [(20,.bool (ra !=7))]<|jn h (λc3 h=>?_) (λc3 h=>?_)
  ·refine kc 20 (Em.mpr c3)<|fd 1 [] [(21,vu b)]<|l5 22 [21] h λR H3 h=>gi 2 [20,22] [(24,.bool (!R))]<|jn h (λc5 h=>?_) (λc5 h=>?_)
   ·exact aG 24 (Eg Bool.not (c5))<|kT<|ar 4<|hH 5 [2,3] [.int .i32 (IntKind.wrap .i32 (o0 .u64 b 8)),VT] hQ h
   exact aH 24 (Eg Bool.not (zZ c5))<|ar 3<|hH 2 [2,3] [.int .i32 0,VF] hQ h
  exact kc 20 (En.mpr c3)<|gi 4 [20] [(24,VT)]<|l7 24<|ar 3<|hH 2 [2,3] [.int .i32 0,VF] hQ h
 exact kc 16 (En.mpr c1)<|gi 8 [4,16] [(24,VT)]<|l7 24<|ar 3<|hH 2 [2,3] [.int .i32 0,VF] hQ h
def kz.K0:=GC f110
def kz.pt(wv:Int):GJ:=λH R=>
 fF.C wv H (λv H1=> ∃x,v=vi x/\
 if x=0 then(
 R (.tuple #[vi (o0 .i64 (zY wv) 3),VT]) H1)
 else
 R (.tuple #[vi 0,VF]) H1)
theorem kz.link(h:pt b H a):C b H a:=by
 refine l2 K0 10 func110 ?_;intro w0 Q hQ;unfold pt zY at h;refine ki [(0,vu b)]<|ar 0<|gi 2 [] []<|gv<|ar 1<|fd 1 [] [(4,vu b)]<|l5 5 [4] h λx H1 h=>gi 1 [5] [(6,.bool (x !=0))]<|jn h (λc1 h=>?_) (λc1 h=>?_)
 ·exact aG 6 (Em.mpr c1)<|kT<|ar 3<|hH 5 [2,3] [vi (o0 .i64 (zY b) 3),VT] hQ h
 exact aH 6 (En.mpr c1)<|ar 2<|hH 2 [2,3] [vi 0,VF] hQ h
def jd.K0:=GC f129
def jd.pt(a:Int):GJ:=λH R=>
 R (.bool (((decide (a>=1)) && (decide (a<=3))) || (a==6))) H
theorem jd.link(h:pt b H a):C b H a:=by
 refine l2 K0 13 func129 ?_;intro w0 Q hQ;unfold pt at h;refine ki [(0,vi b)]<|ar 0<|gi 1 [] []<|ar 1<|gU [(2,.bool (((decide (b>=1)) && (decide (b<=3))) || (b==6)))] ?_ ?_
 ·exact aE<|ix [2] [.bool (((decide (b>=1)) && (decide (b<=3))) || (b==6))] hQ h
 refine λhk=>nb 3 [(0,vi b),(5,.bool (decide (b>=1)))] ?_;by_cases c1:b>=1
 ·have b2:(decide (b>=1))=true:=zX c1;refine bW [(0,vi b),(5,VT)] (by rw[b2])<|fd 4 [5] [(9,.bool (decide (b<=3)))] ?_;by_cases c3:b<=3
  ·have b4:(decide (b<=3))=true:=zX c3;exact kc 9 b4<|nb 4 [(2,VT)]<|zq<|cW [(2,.bool (((decide (b>=1)) && (decide (b<=3))) || (b==6)))] (by simp only[b2,b4,BL])<|hk
  have b4:(decide (b<=3))=false:=zQ c3;exact kc 9 b4<|nb 4 [(2,.bool (b==6))]<|zq<|cW [(2,.bool (((decide (b>=1)) && (decide (b<=3))) || (b==6)))] (by simp only[b2,b4,BL])<|hk
 have b2:(decide (b>=1))=false:=zQ c1;exact bW [(0,vi b),(5,VF)] (by rw[b2])<|nb 8 [(2,.bool (b==6))]<|zq<|cW [(2,.bool (((decide (b>=1)) && (decide (b<=3))) || (b==6)))] (by simp only[b2,BL])<|hk
def jx.K0:=GC f130
def jx.pt(wv:Int):GJ:=λH R=>
 iq.C wv H (λv H1=> ∃ra rb rc,v=.tuple #[vi ra,vi rb,vu rc]/\
 fF.C wv H1 (λb H2=> ∃x,b=vi x/\
 if x=0 then(
 R VT H2)
 else
 if x=1 then(
 R (.bool (decide ((o0 .u64 wv 3)<65536))) H2)
 else
 if x=2 then(
 R (.bool (decide ((o0 .u64 wv 3)<65536))) H2)
 else
 if x=3 then(
 R (.bool (decide ((o0 .u64 wv 3)<65536))) H2)
 else
 if x=6 then(
 R (.bool (decide ((o0 .u64 wv 3)<65536))) H2)
 else
 if x=4 then(
 if ra=7 then(
 iE.C (o0 .u64 wv 8) H2 (λd H3=> ∃a,d=.bool a/\
 R (.bool a) H3))
 else
 R (.bool (decide ((o0 .u64 wv 3)<=6))) H2)
 else
 if x=5 then(
 R (.bool (((decide (ra>=1)) && (decide (ra<=13))) && (decide (rb<=62)))) H2)
 else
 R VF H2))
theorem jx.link(h:pt b H a):C b H a:=by
 refine l2 K0 49 func130 ?_;intro w0 Q hQ;unfold pt at h;refine ki [(0,vu b)]<|ar 0<|gi 1 [] []<|ar 1<|fd 1 [] [(7,vu b)]<|BO 8 [7] h λra rb rc H1 h=>gi 7 [8] [(3,vi ra),(4,vi rb)]<|gv<|ar 2<|fd 1 [] [(12,vu b)]<|l5 13 [12] h λx H2 h=>ue<|k5 0<|gv<|k5 7<|gv<|k5 6<|gv<|k5 5<|k5 4<|k5 3<|k5 2<|gv<|k5 1<|gv<|gv<|ar 3<|gi 2 [] [(14,.bool (x==0))]<|jn h (λc1 h=>?_) (λc1 h=>?_)
 ·exact aH 14 (zK c1)<|zj 1<|aA<|aA<|aJ<|aE<|gv<|ar 10<|hH 1 [2] [VT] hQ h
 refine aG 14 (zJ c1)<|kT<|gv<|ar 4<|gi 2 [14] [(16,.bool (x==1))]<|jn h (λc3 h=>?_) (λc3 h=>?_)
 ·exact aH 16 (zK c3)<|zj 2<|aA<|aA<|zz<|aA<|aJ<|aD<|aD<|aD<|aE<|gv<|ar 11<|hH 4 [2] [.bool (decide ((o0 .u64 b 3)<65536))] hQ h
 refine aG 16 (zJ c3)<|kT<|gv<|ar 5<|gi 2 [16] [(18,.bool (x==2))]<|jn h (λc5 h=>?_) (λc5 h=>?_)
 ·exact aH 18 (zK c5)<|zj 3<|aA<|aA<|zz<|aA<|zz<|aJ<|aD<|aD<|aE<|gv<|ar 11<|hH 4 [2] [.bool (decide ((o0 .u64 b 3)<65536))] hQ h
 refine aG 18 (zJ c5)<|kT<|gv<|ar 6<|gi 2 [18] [(20,.bool (x==3))]<|jn h (λc7 h=>?_) (λc7 h=>?_)
 ·exact aH 20 (zK c7)<|zj 4<|aA<|aA<|zz<|aA<|zz<|zz<|aJ<|aD<|aE<|gv<|ar 11<|hH 4 [2] [.bool (decide ((o0 .u64 b 3)<65536))] hQ h
 refine aG 20 (zJ c7)<|kT<|gv<|ar 7<|gi 2 [20] [(22,.bool (x==6))]<|jn h (λc9 h=>?_) (λc9 h=>?_)
 ·exact aH 22 (zK c9)<|zj 5<|aA<|aA<|zz<|aA<|zz<|zz<|zz<|aJ<|aE<|gv<|ar 11<|hH 4 [2] [.bool (decide ((o0 .u64 b 3)<65536))] hQ h
 refine aG 22 (zJ c9)<|kT<|gv<|ar 8<|gi 2 [22] [(24,.bool (x==4))]<|jn h (λc11 h=>?_) (λc11 h=>?_)
 ·refine aH 24 (zK c11)<|zj 6<|aA<|aA<|zz<|aA<|zz<|zz<|zz<|zz<|aA<|aJ<|aE<|gv<|gv<|ar 12<|nx 2 [(0,vu b),(32,.bool (ra==7))]<|jn h (λc13 h=>?_) (λc13 h=>?_)
  ·exact aH 32 (zK c13)<|ar 13<|nb 2 [(34,vu (o0 .u64 b 8))]<|BD 35 (λR=>[(35,.bool R)]) h λR H3 h=>hH 1 [2] [.bool R] hQ h
  exact aG 32 (zJ c13)<|kT<|ar 14<|hH 4 [2] [.bool (decide ((o0 .u64 b 3)<=6))] hQ h
 refine aG 24 (zJ c11)<|kT<|ar 9<|gi 2 [0,13,24] [(26,.bool (x==5))]<|jn h (λc15 h=>?_) (λc15 h=>?_)
 ·refine aH 26 (zK c15)<|zj 7<|aA<|zz<|aA<|zz<|zz<|zz<|zz<|aA<|zz<|aA<|aJ<|aE<|gv<|ar 15<|gU [(2,.bool (((decide (ra>=1)) && (decide (ra<=13))) && (decide (rb<=62))))] ?_ ?_
  ·exact aE<|ix [2] [.bool (((decide (ra>=1)) && (decide (ra<=13))) && (decide (rb<=62)))] hQ h
  refine λhk=>nb 3 [(3,vi ra),(4,vi rb),(41,.bool (decide (ra>=1)))] ?_;by_cases c17:ra>=1
  ·have b18:(decide (ra>=1))=true:=zX c17;refine bW [(3,vi ra),(4,vi rb),(41,VT)] (by rw[b18])<|fd 4 [3,41] [(45,.bool (decide (ra<=13)))] ?_;by_cases c19:ra<=13
   ·have b20:(decide (ra<=13))=true:=zX c19;exact kc 45 b20<|nb 4 [(2,.bool (decide (rb<=62)))]<|zq<|cW [(2,.bool (((decide (ra>=1)) && (decide (ra<=13))) && (decide (rb<=62))))] (by simp only[b18,b20,BL])<|hk
   have b20:(decide (ra<=13))=false:=zQ c19;exact kc 45 b20<|nb 4 [(2,VF)]<|zq<|cW [(2,.bool (((decide (ra>=1)) && (decide (ra<=13))) && (decide (rb<=62))))] (by simp only[b18,b20,BL])<|hk
  have b18:(decide (ra>=1))=false:=zQ c17;exact bW [(3,vi ra),(4,vi rb),(41,VF)] (by rw[b18])<|nb 8 [(2,VF)]<|zq<|cW [(2,.bool (((decide (ra>=1)) && (decide (ra<=13))) && (decide (rb<=62))))] (by simp only[b18,BL])<|hk
 exact aG 26 (zJ c15)<|kT<|zj 0<|zz<|aA<|zz<|zz<|zz<|zz<|aA<|zz<|aA<|zz<|aA<|aJ<|aE<|ar 16<|hH 1 [2] [VF] hQ h
def iq.K0:=GC f148
def iq.pt(wv:Int):GJ:=λH R=>
 ∀b H1,b=H.size->H1=H.push (.cells #[vu wv] 37)->
 fX.C 3 5 (some (ad b)) H1 (λv H2=> ∃x,v=vu x/\
 fX.C 8 8 (some (ad b)) H2 (λe H3=> ∃a,e=vu a/\
 fX.C 16 48 (some (ad b)) H3 (λf H4=> ∃d,f=vu d/\
 R (.tuple #[vi (zY x),vi (zY a),vu d]) H4)))
theorem iq.link(h:pt b H a):C b H a:=by
 refine l2 K0 15 func148 ?_;intro w0 Q hQ;unfold pt zY at h;refine ki [(0,vu b)]<|ar 0<|l1 (some 1) (λwv=>vp (pa wv)) (.cells #[vu b] 37)<|λwv H1 e1 e2=>have h:=h wv H1 e1 e2;⟨[(1,vp (pa wv))],pk,?_⟩;exact gi 3 [] []<|ar 1<|nx 2 [(5,.func (.func 160) #[] #[vp (pa wv)])]<|ar 2<|fd 1 [] [(7,.func (.func 160) #[] #[vp (pa wv)])]<|l5 8 [7] h λx H2 h=>fd 2 [8] [(9,vi (zY x)),(10,.func (.func 160) #[] #[vp (pa wv)])]<|l5 11 [10] h λR H3 h=>fd 2 [5,11] [(12,vi (zY R)),(13,.func (.func 160) #[] #[vp (pa wv)])]<|l5 14 [13] h λd H4 h=>hH 3 [2,3,4] [vi (zY x),vi (zY R),vu d] hQ h
def jL.K0:=GC f149
def jL.pt(wv:Int):GJ:=λH R=>
 fF.C wv H (λv H1=> ∃x,v=vi x/\
 if x=5 then(
 jx.C wv H1 (λb H2=> ∃a,b=.bool a/\
 if a=true then(
 iq.C wv H2 (λd H3=> ∃ra rb rc,d=.tuple #[vi ra,vi rb,vu rc]/\
 R (.tuple #[vi ra,vi rb,vu rc,VT]) H3))
 else
 R (.tuple #[vi 0,vi 0,vu 0,VF]) H2))
 else
 R (.tuple #[vi 0,vi 0,vu 0,VF]) H1)
theorem jL.link(h:pt b H a):C b H a:=by
 refine l2 K0 23 func149 ?_;intro w0 Q hQ;unfold pt at h;refine ki [(0,vu b)]<|ar 0<|gi 4 [] []<|gv<|ar 1<|fd 1 [] [(6,vu b)]<|l5 7 [6] h λx H1 h=>fd 2 [7] [(9,.bool (x !=5))]<|jn h (λc1 h=>?_) (λc1 h=>?_)
 ·refine kc 9 (Em.mpr c1)<|fd 1 [] [(10,vu b)]<|l5 11 [10] h λR H2 h=>gi 2 [9,11] [(13,.bool (!R))]<|jn h (λc3 h=>?_) (λc3 h=>?_)
  ·exact aG 13 (Eg Bool.not (c3))<|kT<|ar 3<|nb 1 [(15,vu b)]<|Dc 16 (λra rb rc=>[(16,.tuple #[vi ra,vi rb,vu rc])]) h λra rb rc H3 h=>nx 7 [(2,vi ra),(3,vi rb),(4,vu rc)]<|ar 4<|hH 7 [2,3,4,5] [vi ra,vi rb,vu rc,VT] hQ h
  exact aH 13 (Eg Bool.not (zZ c3))<|ar 2<|hH 4 [2,3,4,5] [vi 0,vi 0,vu 0,VF] hQ h
 exact kc 9 (En.mpr c1)<|gi 4 [9] [(13,VT)]<|l7 13<|ar 2<|hH 4 [2,3,4,5] [vi 0,vi 0,vu 0,VF] hQ h
def fX.K0:=GC f160
def fX.pt(a b:Int)(d:zW):GJ:=λH R=>
 ∃e,d=some e/\
 ∃x,hat H e=some (vu x)/\
 (0<=a)/\
 (0<=b)/\
 R (vu (l3 .u64 (o0 .u64 x a) (IntKind.wrap .u64 ((k8 .u64 1 b)-1)))) H
theorem fX.link{R:Int}{d:zW}(h:pt b R d H a):C b R d H a:=by
 refine l2 K0 13 func160 ?_;intro w0 Q hQ;unfold pt at h;refine ki [(0,vi b),(1,vi R),(2,vp d)]<|ar 0<|gi 1 [] []<|gv<|mO 1 ?_;obtain⟨e,rfl,x,q1,ha⟩:=h;exact lw (some 6) 37 q1 [2] [(6,vu x)]<|hX 7 (vi b) [0]<|have⟨q2,h⟩:=ha;Bc (some 8) (Cb .shr 36 (vu x) (vi b)) (vu (o0 .u64 x b)) Et (λw _=>wm (P:=prog) (t:=36) (k:=.u64) (k':=.i64) (x:=x) (y:=b) q2 w) [(1,vi R),(8,vu (o0 .u64 x b))] pk<|BU (some 9) (vi R) [(8,vu (o0 .u64 x b)),(9,vi R)]<|have⟨q3,h⟩:=h;Bc (some 10) (Cb .shl 36 (vu 1) (vi R)) (vu (k8 .u64 1 R)) Et (λw _=>tc (P:=prog) (t:=36) (k:=.u64) (k':=.i64) (x:=1) (y:=R) q3 w) [(8,vu (o0 .u64 x b)),(10,vu (k8 .u64 1 R))] pk<|BU (some 11) (vu (GD ((k8 .u64 1 R)-1))) [(8,vu (o0 .u64 x b)),(11,vu (GD ((k8 .u64 1 R)-1)))]<|hX 12 (vu (l3 .u64 (o0 .u64 x b) (GD ((k8 .u64 1 R)-1)))) [8,11]<|hX 5 (vu (l3 .u64 (o0 .u64 x b) (GD ((k8 .u64 1 R)-1)))) [12]<|iQ [(5,vu (l3 .u64 (o0 .u64 x b) (GD ((k8 .u64 1 R)-1))))] sk<|Bk<|ix [5] [vu (l3 .u64 (o0 .u64 x b) (GD ((k8 .u64 1 R)-1)))] hQ h
end Go.Proofs.YtillhdiiglamhaaGreatDoor
namespace Go.Proofs.YtillhdiiglamhaaGreatDoor
open Go Go.Proofs.Tryz
open Int(tmod toNat)
theorem FU:type_of% @Go.Proofs.Tryz.underlying117:=@Go.Proofs.Tryz.underlying117
variable{a:zk}{H:zV}{b k:zW}{d j q:Int}{g i r u:Nat}{o:ByteArray}{v:Bool}{w:Value}
def jG.K0:=GC f40
def jG.pt(a:Int):GJ:=λH R=>
 k9.C a H (λv H1=> ∃ra rb,v=.tuple #[vp ra,vi rb]/\
 if rb=0 then(
 ∀b H2,b=H1.size->H2=H1.push (.cells #[vp ra,vi 0,vi 0,vi 0,vi 0,vi 0,vi 0,vi 0,vi 0,vi 0,vi 0,vi 0,vi 0,vi 0,vi 0,vi 0,vi 0,vi 0,vi 0,vi 0,vi 0] 119)->
 R (.tuple #[Vq (ad b),vi 0]) H2)
 else
 R (.tuple #[vp none,vi rb]) H1)
theorem jG.link(h:pt d H a):C d H a:=by
 refine l2 K0 17 func40 ?_;intro w0 Q hQ;unfold pt at h;refine ki [(0,vi d)]<|ar 0<|gi 2 [] []<|ar 1<|nb 1 [(7,vi d)]<|Bh 8 (λra rb=>[(8,.tuple #[vp ra,vi rb])]) h λra rb H1 h=>nx 5 [(4,vp ra),(5,vi rb)]<|gv<|ar 2<|gi 2 [] [(12,.bool (rb !=0))]<|jn h (λc1 h=>?_) (λc1 h=>?_)
 ·refine aG 12 (Em.mpr c1)<|kT<|ar 4<|nb 2 [(15,.agg #[vp ra,vi 0,vi 0,vi 0,vi 0,vi 0,vi 0,vi 0,vi 0,vi 0,vi 0,vi 0,vi 0,vi 0,vi 0,vi 0,vi 0,vi 0,vi 0,vi 0,vi 0])]<|l1 (some 16) (λb=>vp (pa b)) (.cells #[vp ra,vi 0,vi 0,vi 0,vi 0,vi 0,vi 0,vi 0,vi 0,vi 0,vi 0,vi 0,vi 0,vi 0,vi 0,vi 0,vi 0,vi 0,vi 0,vi 0,vi 0] 119)<|λb H2 e3 e4=>have h:=h b H2 e3 e4;⟨[(16,vp (pa b))],pk,?_⟩;exact hH 2 [2,3] [vp (pa b),vi 0] hQ h
 exact aH 12 (En.mpr c1)<|ar 3<|hH 3 [2,3] [vp none,vi rb] hQ h
def dR.K0:=GC f80
def dR.pt(s:zW)(d b nv:Int):GJ:=λH R=>
 eQ.C s H (λv H1=> ∃x,v=.bool x/\
 if x=true then(
 R (.tuple #[vi 0,vi 1]) H1)
 else
 jK.C d b nv H1 (λac H2=> ∃o,ac=.bool o/\
 if o=true then(
 dK.C s d b H2 (λae H3=> ∃ra rb,ae=.tuple #[vi ra,.bool rb]/\
 ∃J:zV->Prop,(
 if rb=true then(
 ∃g,s=some g/\
 ∃r,hat H3 g=some (vp r)/\
 gH.C r ra nv H3 (λaa H8=> ∃j m,aa=.tuple #[vi j,vi m]/\
 if m=0 then(
 R (.tuple #[vi j,vi 0]) H8)
 else
 J H8))
 else
 J H3)/\ ∀H4,J H4->
 ∃sA,s=some sA/\
 ∃u,hat H4 sA=some (vp u)/\
 ib.C u d b H4 (λab H5=> ∃e f,ab=.tuple #[vi e,vi f]/\
 if f=0 then(
 zw d 5/\
 zw b 4/\
 (aF H5 (((sA.add 1).add (toNat d*4)).add (toNat b*1)) 0 1)/\ ∀H6,H6=aL H5 (((sA.add 1).add (toNat d*4)).add (toNat b*1)) [vi (zY (e+1))] 0->
 ∃y,hat H6 sA=some (vp y)/\
 gH.C y e nv H6 (λz H7=> ∃q p,z=.tuple #[vi q,vi p]/\
 R (.tuple #[vi q,vi p]) H7))
 else
 R (.tuple #[vi 0,vi f]) H5)))
 else
 R (.tuple #[vi 0,vi 1]) H2))
theorem dR.link(h:pt b d j q H a):C b d j q H a:=by
 refine l2 K0 77 func80 ?_;intro w0 Q hQ;unfold pt zY at h;refine ki [(0,vp b),(1,vi d),(2,vi j),(3,vi q)]<|ar 0<|gi 2 [] []<|gv<|ar 1<|fd 1 [] [(16,vp b)]<|l5 17 [16] h λx H1 h=>fd 1 [17] [(18,.bool x)]<|jn h (λc1 h=>?_) (λc1 h=>?_)
 ·exact kc 18 c1<|gi 6 [18] [(24,VT)]<|l7 24<|ar 2<|hH 2 [8,9] [vi 0,vi 1] hQ h
 refine kc 18 (zZ c1)<|fd 3 [] [(19,vi d),(20,vi j),(21,vi q)]<|l5 22 [19,20,21] h λo H2 h=>gi 2 [18,22] [(24,.bool (!o))]<|jn h (λc3 h=>?_) (λc3 h=>?_)
 ·refine aG 24 (Eg Bool.not (c3))<|kT<|gv<|ar 3<|fd 3 [24] [(26,vp b),(27,vi d),(28,vi j)]<|vr 29 [26,27,28] h λra rb H3 h=>gi 5 [29] [(10,vi ra),(11,.bool rb)]<|ar 4<|nx 1 [(0,vp b),(1,vi d),(2,vi j),(3,vi q),(10,vi ra),(32,.bool rb)]<|have⟨J,h,j6⟩:=h;j2 (σ:=Unit) (λs_=> [(0,vp b),(1,vi d),(2,vi j),(3,vi q)]) (λs_ H=>J H) ?_ ?_
  ·refine λ_ H4 j7=>have h:=j6 H4 j7;ki [(0,vp b),(1,vi d),(2,vi j),(3,vi q)]<|aE<|ar 8<|fd 1 [] [(47,vp b)] ?_;obtain⟨sA,rfl,ha⟩:=h;refine fd 2 [0,47] [(0,Vq sA),(49,Vq sA)]<|have⟨u,q8,h⟩:=ha;hV 50 115 q8 [49]<|fd 2 [] [(51,vi d),(52,vi j)]<|vr 53 [50,51,52] h λe f H5 h=>gi 5 [53] [(14,vi e),(15,vi f)]<|gv<|ar 9<|gi 2 [] [(57,.bool (f !=0))]<|jn h (λc9 h=>?_) (λc9 h=>?_)
   ·exact aG 57 (Em.mpr c9)<|kT<|ar 11<|fd 7 [1,2,15,57] [(60,vi d),(61,vi j),(63,vi (zY (e+1))),(65,Vq (sA.add 1))]<|have⟨q11,h⟩:=h;wd 66 (bJ 117 (Vq (sA.add 1)) (vi d)) (Vq ((sA.add 1).add (toNat d*4))) (λw _=>cG (P:=prog) (t:=117) (elem:=116) (sz:=4) (n:=5) (a:=(sA.add 1)) (k:=.i64) (i:=d) FU Et q11.1 q11.2 w) [60,65]<|have⟨q12,h⟩:=h;wd 67 (bJ 116 (Vq ((sA.add 1).add (toNat d*4))) (vi j)) (Vq (((sA.add 1).add (toNat d*4)).add (toNat j*1))) (λw _=>cG (P:=prog) (t:=116) (elem:=3) (sz:=1) (n:=4) (a:=((sA.add 1).add (toNat d*4))) (k:=.i64) (i:=j) FP Et q12.1 q12.2 w) [61,66]<|have⟨q14,h⟩:=h;fj 3 (vi (zY (e+1))) q14<|λH6 e13=>have h:=h H6 e13;im [63,67] []<|ue<|ar 12<|fd 3 [0] [(70,Vq sA)]<|have⟨y,q15,h⟩:=h;hV 71 115 q15 [70]<|fd 2 [3,14] [(72,vi e),(73,vi q)]<|Bh 74 (λs p=>[(74,.tuple #[vi s,vi p])]) h λs p H7 h=>hH 4 [8,9] [vi s,vi p] hQ h
   exact aH 57 (En.mpr c9)<|ar 10<|hH 3 [8,9] [vi 0,vi f] hQ h
  revert h;refine CU (λc16 h=>?_) (λc16 h=>?_)
  ·have b17:rb=true:=c16;refine cW [(0,vp b),(1,vi d),(2,vi j),(3,vi q),(10,vi ra),(32,VT)] (by simp only[b17,Es,Ep]) ?_;clear b17;refine l7 32<|ar 5<|fd 1 [32] [(34,vp b)] ?_;obtain⟨g,rfl,hb⟩:=h;refine fd 2 [0,34] [(0,Vq g),(36,Vq g)]<|have⟨r,q18,h⟩:=hb;hV 37 115 q18 [36]<|fd 2 [10] [(38,vi ra),(39,vi q)]<|vr 40 [37,38,39] h λnv m H8 h=>gi 5 [40] [(12,vi nv),(13,vi m)]<|ar 6<|gi 2 [13] [(44,.bool (m==0))]<|jn h (λc19 h=>?_) (λc19 h=>?_)
   ·exact aH 44 (zK c19)<|ar 7<|hH 3 [8,9] [vi nv,vi 0] hQ h
   exact aG 44 (zJ c19)<|kT<|dL (():Unit) sk h
  have b17:rb=false:=zZ c16;refine cW [(0,vp b),(1,vi d),(2,vi j),(3,vi q),(10,vi ra),(32,VF)] (by simp only[b17,Es,Ep]) ?_;clear b17;exact pN 32<|kT<|dL (():Unit) sk h
 exact aH 24 (Eg Bool.not (zZ c3))<|ar 2<|hH 2 [8,9] [vi 0,vi 1] hQ h
def eQ.K0:=GC f124
def eQ.pt(s:zW):GJ:=λH R=>
 fY s (
 R VT H) (λsA=>
 ∃x,hat H sA=some (vp x)/\
 fY x (
 R VT H) (λxA=>
 R VF H))
theorem eQ.link(h:pt b H a):C b H a:=by
 refine l2 K0 12 func124 ?_;intro w0 Q hQ;unfold pt at h;refine ki [(0,vp b)]<|ar 0<|gi 1 [] []<|ar 1<|fd 1 [] [(3,vp b)] ?_;rcases b with _ | sA
 ·rw[Ev]at h;exact hH 9 [2] [VT] hQ h
 rw[El]at h;refine nb 5 [(5,VF),(8,Vq sA)]<|have⟨x,q1,h⟩:=h;hV 9 115 q1 [8] ?_;rcases x with _ | xA
 ·rw[Ev]at h;exact hH 3 [2] [VT] hQ h
 rw[El]at h;exact hH 3 [2] [VF] hQ h
def jK.K0:=GC f131
def jK.pt(b a nv:Int):GJ:=λH R=>
 if((decide (b<0)) || (decide (b>4)))=true then(
 R VF H)
 else
 if((a==0) || (a==1))=true then(
 R (.bool (nv==2)) H)
 else
 R (.bool ((((a==2) || (a==3)) && (decide (nv>=1))) && (decide (nv<=63)))) H
theorem jK.link{b R nv:Int}(h:pt b R nv H a):C b R nv H a:=by
 refine l2 K0 37 func131 ?_;intro w0 Q hQ;unfold pt at h;refine ki [(0,vi b),(1,vi R),(2,vi nv)]<|ar 0<|gi 1 [] []<|gv<|k5 0<|ar 1<|gU [(1,vi R),(2,vi nv),(7,.bool ((decide (b<0)) || (decide (b>4))))] ?_ ?_
 ·refine aE<|jn h (λc3 h=>?_) (λc3 h=>?_)
  ·exact aH 7 c3<|ar 2<|hH 1 [6] [VF] hQ h
  refine aG 7 (zZ c3)<|ar 3<|gU [(1,vi R),(2,vi nv),(14,.bool ((R==0) || (R==1)))] ?_ ?_
  ·refine aE<|jn h (λc7 h=>?_) (λc7 h=>?_)
   ·exact aH 14 c7<|ar 4<|hH 3 [6] [.bool (nv==2)] hQ h
   refine aG 14 (zZ c7)<|Bn<|aD<|aE<|ar 5<|gU [(6,.bool ((((R==2) || (R==3)) && (decide (nv>=1))) && (decide (nv<=63))))] ?_ ?_
   ·exact aE<|ix [6] [.bool ((((R==2) || (R==3)) && (decide (nv>=1))) && (decide (nv<=63)))] hQ h
   refine λhk=>nb 3 [(1,vi R),(2,vi nv),(25,.bool (R==2))] ?_;by_cases c9:R=2
   ·have b10:(R==2)=true:=zK c9;refine bW [(1,vi R),(2,vi nv),(25,VT)] (by rw[b10])<|fd 8 [1,25] [(33,.bool (decide (nv>=1)))] ?_;by_cases c11:nv>=1
    ·have b12:(decide (nv>=1))=true:=zX c11;exact kc 33 b12<|nb 4 [(6,.bool (decide (nv<=63)))]<|zq<|cW [(6,.bool ((((R==2) || (R==3)) && (decide (nv>=1))) && (decide (nv<=63))))] (by simp only[b10,b12,BL])<|hk
    have b12:(decide (nv>=1))=false:=zQ c11;exact kc 33 b12<|nb 4 [(6,VF)]<|zq<|cW [(6,.bool ((((R==2) || (R==3)) && (decide (nv>=1))) && (decide (nv<=63))))] (by simp only[b10,b12,BL])<|hk
   have b10:(R==2)=false:=zJ c9;refine bW [(1,vi R),(2,vi nv),(25,VF)] (by rw[b10])<|fd 4 [1,25] [(29,.bool (R==3))] ?_;by_cases c13:R=3
   ·have b14:(R==3)=true:=zK c13;refine kc 29 b14<|fd 4 [29] [(33,.bool (decide (nv>=1)))] ?_;by_cases c15:nv>=1
    ·have b16:(decide (nv>=1))=true:=zX c15;exact kc 33 b16<|nb 4 [(6,.bool (decide (nv<=63)))]<|zq<|cW [(6,.bool ((((R==2) || (R==3)) && (decide (nv>=1))) && (decide (nv<=63))))] (by simp only[b10,b14,b16,BL])<|hk
    have b16:(decide (nv>=1))=false:=zQ c15;exact kc 33 b16<|nb 4 [(6,VF)]<|zq<|cW [(6,.bool ((((R==2) || (R==3)) && (decide (nv>=1))) && (decide (nv<=63))))] (by simp only[b10,b14,b16,BL])<|hk
   have b14:(R==3)=false:=zJ c13;exact kc 29 b14<|nb 8 [(6,VF)]<|zq<|cW [(6,.bool ((((R==2) || (R==3)) && (decide (nv>=1))) && (decide (nv<=63))))] (by simp only[b10,b14,BL])<|hk
  refine λhk=>nb 3 [(1,vi R),(2,vi nv),(17,.bool (R==0))] ?_;by_cases c5:R=0
  ·have b6:(R==0)=true:=zK c5;exact bW [(1,vi R),(2,vi nv),(17,VT)] (by rw[b6])<|fd 4 [17] [(14,VT)]<|zq<|n7 14 (b:=true) (v:=((R==0) || (R==1))) (by simp only[b6,BL])<|hk
  have b6:(R==0)=false:=zJ c5;exact bW [(1,vi R),(2,vi nv),(17,VF)] (by rw[b6])<|fd 4 [17] [(14,.bool (R==1))]<|zq<|n7 14 (b:=(R==1)) (v:=((R==0) || (R==1))) (by simp only[b6,BL])<|hk
 refine λhk=>nb 3 [(0,vi b),(1,vi R),(2,vi nv),(10,.bool (decide (b<0)))] ?_;by_cases c1:b<0
 ·have b2:(decide (b<0))=true:=zX c1;exact bW [(0,vi b),(1,vi R),(2,vi nv),(10,VT)] (by rw[b2])<|fd 4 [0,10] [(7,VT)]<|zq<|n7 7 (b:=true) (v:=((decide (b<0)) || (decide (b>4)))) (by simp only[b2,BL])<|hk
 have b2:(decide (b<0))=false:=zQ c1;exact bW [(0,vi b),(1,vi R),(2,vi nv),(10,VF)] (by rw[b2])<|fd 4 [0,10] [(7,.bool (decide (b>4)))]<|zq<|n7 7 (b:=(decide (b>4))) (v:=((decide (b<0)) || (decide (b>4)))) (by simp only[b2,BL])<|hk
def dK.K0:=GC f132
def dK.pt(s:zW)(d b:Int):GJ:=λH R=>
 fY s (
 R (.tuple #[vi 0,VF]) H) (λsA=>
 if d<0 then(
 R (.tuple #[vi 0,VF]) H)
 else
 if d>4 then(
 R (.tuple #[vi 0,VF]) H)
 else
 if b<0 then(
 R (.tuple #[vi 0,VF]) H)
 else
 if b>3 then(
 R (.tuple #[vi 0,VF]) H)
 else
 zw d 5/\
 zw b 4/\
 ∃x,hat H (((sA.add 1).add (toNat d*4)).add (toNat b*1))=some (vi x)/\
 if x=0 then(
 R (.tuple #[vi 0,VF]) H)
 else
 zw d 5/\
 zw b 4/\
 ∃e,hat H (((sA.add 1).add (toNat d*4)).add (toNat b*1))=some (vi e)/\
 R (.tuple #[vi (zY (e-1)),VT]) H)
theorem dK.link(h:pt b d j H a):C b d j H a:=by
 refine l2 K0 46 func132 ?_;intro w0 Q hQ;unfold pt zY at h;refine ki [(0,vp b),(1,vi d),(2,vi j)]<|ar 0<|gi 2 [] []<|gv<|ar 1<|fd 1 [] [(8,vp b)] ?_;rcases b with _ | sA
 ·rw[Ev]at h;exact gi 28 [0,8] [(0,vp none),(36,VT)]<|l7 36<|ar 2<|hH 2 [6,7] [vi 0,VF] hQ h
 rw[El]at h;refine fd 6 [0,8] [(0,Vq sA),(14,.bool (decide (d<0)))]<|jn h (λc1 h=>?_) (λc1 h=>?_)
 ·exact kc 14 (zX c1)<|gi 22 [14] [(36,VT)]<|l7 36<|ar 2<|hH 2 [6,7] [vi 0,VF] hQ h
 refine kc 14 (zQ c1)<|fd 4 [14] [(18,.bool (decide (d>4)))]<|jn h (λc3 h=>?_) (λc3 h=>?_)
 ·exact kc 18 (zX c3)<|gi 18 [18] [(36,VT)]<|l7 36<|ar 2<|hH 2 [6,7] [vi 0,VF] hQ h
 refine kc 18 (zQ c3)<|fd 4 [18] [(22,.bool (decide (j<0)))]<|jn h (λc5 h=>?_) (λc5 h=>?_)
 ·exact kc 22 (zX c5)<|gi 14 [22] [(36,VT)]<|l7 36<|ar 2<|hH 2 [6,7] [vi 0,VF] hQ h
 refine kc 22 (zQ c5)<|fd 4 [22] [(26,.bool (decide (j>3)))]<|jn h (λc7 h=>?_) (λc7 h=>?_)
 ·exact kc 26 (zX c7)<|gi 10 [26] [(36,VT)]<|l7 36<|ar 2<|hH 2 [6,7] [vi 0,VF] hQ h
 refine kc 26 (zQ c7)<|fd 5 [] [(28,vi d),(29,vi j),(31,Vq (sA.add 1))]<|have⟨q9,h⟩:=h;wd 32 (bJ 117 (Vq (sA.add 1)) (vi d)) (Vq ((sA.add 1).add (toNat d*4))) (λw _=>cG (P:=prog) (t:=117) (elem:=116) (sz:=4) (n:=5) (a:=(sA.add 1)) (k:=.i64) (i:=d) FU Et q9.1 q9.2 w) [28,31]<|have⟨q10,h⟩:=h;wd 33 (bJ 116 (Vq ((sA.add 1).add (toNat d*4))) (vi j)) (Vq (((sA.add 1).add (toNat d*4)).add (toNat j*1))) (λw _=>cG (P:=prog) (t:=116) (elem:=3) (sz:=1) (n:=4) (a:=((sA.add 1).add (toNat d*4))) (k:=.i64) (i:=j) FP Et q10.1 q10.2 w) [29,32]<|have⟨x,q11,h⟩:=h;hV 34 3 q11 [33]<|gi 2 [26,34] [(36,.bool (x==0))]<|jn h (λc12 h=>?_) (λc12 h=>?_)
 ·exact aH 36 (zK c12)<|ar 2<|hH 2 [6,7] [vi 0,VF] hQ h
 exact aG 36 (zJ c12)<|kT<|ar 3<|nb 5 [(38,vi d),(39,vi j),(41,Vq (sA.add 1))]<|have⟨q14,h⟩:=h;wd 42 (bJ 117 (Vq (sA.add 1)) (vi d)) (Vq ((sA.add 1).add (toNat d*4))) (λw _=>cG (P:=prog) (t:=117) (elem:=116) (sz:=4) (n:=5) (a:=(sA.add 1)) (k:=.i64) (i:=d) FU Et q14.1 q14.2 w) [38,41]<|have⟨q15,h⟩:=h;wd 43 (bJ 116 (Vq ((sA.add 1).add (toNat d*4))) (vi j)) (Vq (((sA.add 1).add (toNat d*4)).add (toNat j*1))) (λw _=>cG (P:=prog) (t:=116) (elem:=3) (sz:=1) (n:=4) (a:=((sA.add 1).add (toNat d*4))) (k:=.i64) (i:=j) FP Et q15.1 q15.2 w) [39,42]<|have⟨e,q16,h⟩:=h;hV 44 3 q16 [43]<|hH 3 [6,7] [vi (zY (e-1)),VT] hQ h
def kv.K0:=GC f17
def kv.pt(a:Int):GJ:=λH R=>
 jG.C a H (λv H1=> ∃ra rb,v=.tuple #[vp ra,vi rb]/\
 if rb=0 then(
 ∀b H2,b=H1.size->H2=H1.push (.cells #[vp ra] 83)->
 R (.tuple #[Vq (ad b),vi 0]) H2)
 else
 R (.tuple #[vp none,vi rb]) H1)
theorem kv.link(h:pt d H a):C d H a:=by
 refine l2 K0 17 func17 ?_;intro w0 Q hQ;unfold pt at h;refine ki [(0,vi d)]<|ar 0<|gi 2 [] []<|ar 1<|nb 1 [(7,vi d)]<|Bh 8 (λra rb=>[(8,.tuple #[vp ra,vi rb])]) h λra rb H1 h=>nx 5 [(4,vp ra),(5,vi rb)]<|gv<|ar 2<|gi 2 [] [(12,.bool (rb !=0))]<|jn h (λc1 h=>?_) (λc1 h=>?_)
 ·refine aG 12 (Em.mpr c1)<|kT<|ar 4<|nb 2 [(15,.agg #[vp ra])]<|l1 (some 16) (λb=>vp (pa b)) (.cells #[vp ra] 83)<|λb H2 e3 e4=>have h:=h b H2 e3 e4;⟨[(16,vp (pa b))],pk,?_⟩;exact hH 2 [2,3] [vp (pa b),vi 0] hQ h
 exact aH 12 (En.mpr c1)<|ar 3<|hH 3 [2,3] [vp none,vi rb] hQ h
def eK.K0:=GC f123
def eK.pt(c:zW):GJ:=λH R=>
 fY c (
 R VT H) (λcA=>
 ∃x,hat H cA=some (vp x)/\
 fY x (
 R VT H) (λxA=>
 ∃d,hat H cA=some (vp d)/\
 ∃b,d=some b/\
 ∃a,hat H b=some (vp a)/\
 fY a (
 R VT H) (λe=>
 R VF H)))
theorem eK.link(h:pt b H a):C b H a:=by
 refine l2 K0 22 func123 ?_;intro w0 Q hQ;unfold pt at h;refine ki [(0,vp b)]<|ar 0<|gi 1 [] []<|ar 1<|fd 1 [] [(3,vp b)] ?_;rcases b with _ | cA
 ·rw[Ev]at h;exact hH 19 [2] [VT] hQ h
 rw[El]at h;refine nb 5 [(0,Vq cA),(5,VF),(8,Vq cA)]<|have⟨x,q1,h⟩:=h;hV 9 79 q1 [8] ?_;rcases x with _ | xA
 ·rw[Ev]at h;exact hH 13 [2] [VT] hQ h
 rw[El]at h;refine nb 6 [(12,VF),(15,Vq cA)]<|have⟨d,q2,h⟩:=h;hV 16 79 q2 [15] ?_;obtain⟨c,rfl,ha⟩:=h;refine fd 2 [16] [(18,Vq c)]<|have⟨R,q3,h⟩:=ha;hV 19 115 q3 [18] ?_;rcases R with _ | e
 ·rw[Ev]at h;exact hH 3 [2] [VT] hQ h
 rw[El]at h;exact hH 3 [2] [VF] hQ h
def eE.K0:=GC f127
def eE.pt(c:zW)(k i sN f g d e wv a:Int):GJ:=λH R=>
 ∀b H1,b=H.size->H1=H.push (.cells #[vi k,vi i,vi sN,vi f,vi g,vi d,vi e] 127)->
 fW.C c wv H1 (λv H2=> ∃ra rb,v=.tuple #[vi ra,.bool rb]/\
 if rb=true then(
 ∃x,hat H2 ((ad b).add 1)=some (vi x)/\
 if x=3 then(
 R (vi a) H2)
 else
 ∃j,hat H2 (ad b)=some (vi j)/\
 if ra<j then(
 R (vi (if ra<a then ra else a)) H2)
 else
 R (vi a) H2)
 else
 R (vi a) H2)
theorem eE.link{f g i e wv R:Int}(h:pt b d j q f g i e wv R H a):C b d j q f g i e wv R H a:=by
 refine l2 K0 33 func127 ?_;intro w0 Q hQ;unfold pt at h;refine ki [(0,vp b),(1,.agg #[vi d,vi j,vi q,vi f,vi g,vi i,vi e]),(2,vu wv),(3,vi R)]<|ar 0<|l1 (some 5) (λsN=>vp (pa sN)) (.cells #[vi d,vi j,vi q,vi f,vi g,vi i,vi e] 127)<|λsN H1 e1 e2=>have h:=h sN H1 e1 e2;im [1] [(5,vp (pa sN))]<|gi 1 [] []<|gv<|ar 1<|fd 2 [0,2] [(12,vp b),(13,vu wv)]<|vr 14 [12,13] h λra rb H2 h=>gi 5 [14] [(9,vi ra),(10,.bool rb)]<|ar 2<|fd 2 [10] [(18,.bool rb)]<|jn h (λc3 h=>?_) (λc3 h=>?_)
 ·refine kc 18 c3<|fd 1 [] [(19,Vq ((ad sN).add 1))]<|have⟨x,q5,h⟩:=h;hV 20 3 q5 [19]<|fd 3 [18,20] [(23,.bool (x !=3))]<|jn h (λc6 h=>?_) (λc6 h=>?_)
  ·exact kc 23 (Em.mpr c6)<|gi 5 [5,23] [(28,VF)]<|pN 28<|kT<|ar 4<|hH 2 [8] [vi R] hQ h
  refine kc 23 (En.mpr c6)<|fd 2 [5] [(24,vi ra),(25,vp (pa sN))]<|have⟨k,q8,h⟩:=h;hV 26 3 q8 [25]<|gi 2 [23,24,26] [(28,.bool (decide (ra<k)))]<|jn h (λc9 h=>?_) (λc9 h=>?_)
  ·exact aH 28 (zX c9)<|ar 3<|hH 4 [8] [vi (if ra<R then ra else R)] hQ h
  exact aG 28 (zQ c9)<|kT<|ar 4<|hH 2 [8] [vi R] hQ h
 exact kc 18 (zZ c3)<|gi 10 [5,18] [(28,VF)]<|pN 28<|kT<|ar 4<|hH 2 [8] [vi R] hQ h
def fW.K0:=GC f156
def fW.pt(c:zW)(wv:Int):GJ:=λH R=>
 gO.C wv H (λv H1=> ∃ra rb,v=.tuple #[vi ra,.bool rb]/\
 eK.C c H1 (λt H2=> ∃x,t=.bool x/\
 if x=true then(
 R (.tuple #[vi 0,VF]) H2)
 else
 if rb=true then(
 fF.C wv H2 (λu H3=> ∃m,u=vi m/\
 if m=6 then(
 R (.tuple #[vi 0,VF]) H3)
 else
 ∃cA,c=some cA/\
 ∃r,hat H3 cA=some (vp r)/\
 ∃q,r=some q/\
 ∃p,hat H3 q=some (vp p)/\
 bX.C p (zY (Int.tdiv ra 64)) H3 (λs H4=> ∃j g k f d e a i,s=.tuple #[.agg #[vi j,vi g,vi k,vi f,vi d,vi e,vi a],.bool i]/\
 ∀b H5,b=H4.size->H5=H4.push (.cells GL 127)->
 (aF H5 (ad b) 0 7)/\ ∀H6,H6=aL H5 (ad b) [vi j,vi g,vi k,vi f,vi d,vi e,vi a] 0->
 ∃o,hat H6 (ad b)=some (vi o)/\
 R (.tuple #[vi o,.bool i]) H6)))
 else
 R (.tuple #[vi 0,VF]) H2))
theorem fW.link(h:pt b d H a):C b d H a:=by
 refine l2 K0 41 func156 ?_;intro w0 Q hQ;unfold pt zY at h;refine ki [(0,vp b),(1,vu d)]<|ar 0<|gi 2 [] []<|ar 1<|fd 1 [] [(10,vu d)]<|vr 11 [10] h λra rb H1 h=>gi 5 [11] [(6,vi ra),(7,.bool rb)]<|gv<|ar 2<|fd 1 [] [(14,vp b)]<|l5 15 [14] h λx H2 h=>fd 1 [15] [(16,.bool x)]<|jn h (λc1 h=>?_) (λc1 h=>?_)
 ·exact kc 16 c1<|gi 8 [1,7,16] [(24,VT)]<|l7 24<|ar 3<|hH 2 [4,5] [vi 0,VF] hQ h
 refine kc 16 (zZ c1)<|fd 4 [7,16] [(20,.bool (!rb))]<|jn h (λc3 h=>?_) (λc3 h=>?_)
 ·have b4:(!rb)=false:=Eg Bool.not (c3);have b42:rb=true:=c3;refine kc 20 (b:=(!rb)) (v:=false) (by simp only[b4,b42,Es,Ep]) ?_;clear b4 b42;refine fd 1 [1] [(21,vu d)]<|l5 22 [21] h λm H3 h=>gi 2 [20,22] [(24,.bool (m==6))]<|jn h (λc5 h=>?_) (λc5 h=>?_)
  ·exact aH 24 (zK c5)<|ar 3<|hH 2 [4,5] [vi 0,VF] hQ h
  refine aG 24 (zJ c5)<|kT<|ar 4<|fd 1 [0,24] [(26,vp b)] ?_;obtain⟨cA,rfl,ha⟩:=h;refine fd 2 [26] [(28,Vq cA)]<|have⟨r,q7,h⟩:=ha;hV 29 79 q7 [28] ?_;obtain⟨q,rfl,hb⟩:=h;exact fd 2 [29] [(31,Vq q)]<|have⟨p,q8,h⟩:=hb;hV 32 115 q8 [31]<|fd 2 [6] [(34,vi (zY (Int.tdiv ra 64)))]<|DO 35 (λj g k f c e R i=>[(35,.tuple #[.agg #[vi j,vi g,vi k,vi f,vi c,vi e,vi R],.bool i])]) h λj g k f c e R i H4 h=>nb 3 [(36,.agg #[vi j,vi g,vi k,vi f,vi c,vi e,vi R]),(37,.bool i)]<|l1 (some 8) (λwv=>vp (pa wv)) (.cells GL 127)<|λwv H5 e9 e10=>have h:=h wv H5 e9 e10;im [] [(8,vp (pa wv))]<|have⟨q12,h⟩:=h;bF 127 [vi j,vi g,vi k,vi f,vi c,vi e,vi R] q12<|λH6 e11=>have h:=h H6 e11;im [36] []<|gi 1 [37] [(7,.bool i)]<|ar 5<|fd 1 [8] [(38,vp (pa wv))]<|have⟨o,q13,h⟩:=h;hV 39 3 q13 [38]<|hH 3 [4,5] [vi o,.bool i] hQ h
 have b4:(!rb)=true:=Eg Bool.not (zZ c3);have b42:rb=false:=zZ c3;refine kc 20 (b:=(!rb)) (v:=true) (by simp only[b4,b42,Es,Ep]) ?_;clear b4 b42;exact gi 4 [1,20] [(24,VT)]<|l7 24<|ar 3<|hH 2 [4,5] [vi 0,VF] hQ h
def gu.K0:=GC f16
def gu.pt(hv:zW)(wv:Int):GJ:=λH R=>
 fN.C hv wv 0 H (λv H1=> ∃ra rb,v=.tuple #[vu ra,vi rb]/\
 R (.tuple #[vu ra,vi rb]) H1)
theorem gu.link(h:pt b d H a):C b d H a:=by
 refine l2 K0 11 func16 ?_;intro w0 Q hQ;unfold pt at h;exact ki [(0,vp b),(1,vu d)]<|ar 0<|gi 2 [] []<|ar 1<|nb 2 [(6,vp b),(7,vu d)]<|Bh 8 (λra rb=>[(8,.tuple #[vu ra,vi rb])]) h λra rb H1 h=>hH 4 [4,5] [vu ra,vi rb] hQ h
def gy.K0:=GC f25
def gy.pt(hv:zW)(d a:Int):GJ:=λH R=>
 ∀b H1,b=H.size->H1=H.push (.cells #[vu d,vu a] 37)->
 gz.C hv 0 1 (some (ad b)) 2 2 H1 (λv H2=> ∃ra rb,v=.tuple #[vu ra,vi rb]/\
 R (.tuple #[vu ra,vi rb]) H2)
theorem gy.link(h:pt b d j H a):C b d j H a:=by
 refine l2 K0 15 func25 ?_;intro w0 Q hQ;unfold pt at h;exact ki [(0,vp b),(1,vu d),(2,vu j)]<|ar 0<|gi 2 [] []<|ar 1<|nb 3 [(8,vp b),(9,vu d),(10,vu j)]<|l1 (some 11) (λR=>vs (pa R) 2 2) (.cells #[vu d,vu j] 37)<|λR H1 e1 e2=>have h:=h R H1 e1 e2;im [9,10] [(11,vs (pa R) 2 2)]<|Bh 12 (λra rb=>[(12,.tuple #[vu ra,vi rb])]) h λra rb H2 h=>hH 4 [6,7] [vu ra,vi rb] hQ h
def fN.K0:=GC f39
def fN.pt(hv:zW)(wv i:Int):GJ:=λH R=>
 fP.C hv wv H (λv H1=> ∃ra rb,v=.tuple #[vi ra,.bool rb]/\
 if rb=true then(
 ∃e,hv=some e/\
 ∃x,hat H1 e=some (vp x)/\
 ∃xA,x=some xA/\
 ∃g,hat H1 xA=some (vp g)/\
 ∃f,g=some f/\
 ∃d,hat H1 f=some (vp d)/\
 cS.C d (zY (ra+i)) H1 (λj H2=> ∃a b,j=.tuple #[vu a,vi b]/\
 R (.tuple #[vu a,vi b]) H2))
 else
 R (.tuple #[vu 0,vi 3]) H1)
theorem fN.link(h:pt b d j H a):C b d j H a:=by
 refine l2 K0 34 func39 ?_;intro w0 Q hQ;unfold pt zY at h;refine ki [(0,vp b),(1,vu d),(2,vi j)]<|ar 0<|gi 2 [] []<|ar 1<|fd 2 [1] [(11,vp b),(12,vu d)]<|vr 13 [11,12] h λra rb H1 h=>gi 5 [13] [(8,vi ra),(9,.bool rb)]<|gv<|ar 2<|gi 2 [9] [(17,.bool (!rb))]<|jn h (λc1 h=>?_) (λc1 h=>?_)
 ·refine aG 17 (Eg Bool.not (c1))<|kT<|ar 4<|fd 1 [0,17] [(18,vp b)] ?_;obtain⟨e,rfl,ha⟩:=h;refine fd 2 [18] [(20,Vq e)]<|have⟨x,q3,h⟩:=ha;hV 21 50 q3 [20] ?_;obtain⟨xA,rfl,hb⟩:=h;refine fd 2 [21] [(23,Vq xA)]<|have⟨g,q4,h⟩:=hb;hV 24 79 q4 [23] ?_;obtain⟨f,rfl,hc⟩:=h;exact fd 2 [24] [(26,Vq f)]<|have⟨wv,q5,h⟩:=hc;hV 27 115 q5 [26]<|fd 3 [2,8] [(30,vi (zY (ra+j)))]<|Bh 31 (λR i=>[(31,.tuple #[vu R,vi i])]) h λR i H2 h=>hH 4 [6,7] [vu R,vi i] hQ h
 exact aH 17 (Eg Bool.not (zZ c1))<|ar 3<|hH 2 [6,7] [vu 0,vi 3] hQ h
def fG.K0:=GC f65
def fG.pt(hv:zW)(wv:Int):GJ:=λH R=>
 fP.C hv wv H (λv H1=> ∃ra rb,v=.tuple #[vi ra,.bool rb]/\
 R (.bool rb) H1)
theorem fG.link(h:pt b d H a):C b d H a:=by
 refine l2 K0 14 func65 ?_;intro w0 Q hQ;unfold pt at h;exact ki [(0,vp b),(1,vu d)]<|ar 0<|gi 1 [] []<|ar 1<|nb 2 [(8,vp b),(9,vu d)]<|Bh 10 (λra rb=>[(10,.tuple #[vi ra,.bool rb])]) h λra rb H1 h=>nx 5 [(6,.bool rb)]<|ar 2<|hH 2 [4] [.bool rb] hQ h
def gF.K0:=GC f78
def gF.pt(hv:zW)(wv:Int):GJ:=λH R=>
 fG.C hv wv H (λv H1=> ∃x,v=.bool x/\
 if x=true then(
 R (vi 2) H1)
 else
 cO.C hv wv H1 (λa H2=> ∃ra rb rc rd re,a=.tuple #[vi ra,vi rb,vi rc,vu rd,.bool re]/\
 if re=true then(
 R (vi (zY (rc+1))) H2)
 else
 R (vi 0) H2))
theorem gF.link(h:pt b d H a):C b d H a:=by
 refine l2 K0 25 func78 ?_;intro w0 Q hQ;unfold pt zY at h;refine ki [(0,vp b),(1,vu d)]<|ar 0<|gi 1 [] []<|gv<|ar 1<|fd 2 [] [(10,vp b),(11,vu d)]<|l5 12 [10,11] h λx H1 h=>ue<|jn h (λc1 h=>?_) (λc1 h=>?_)
 ·exact aH 12 c1<|ar 2<|hH 1 [4] [vi 2] hQ h
 refine aG 12 (zZ c1)<|kT<|gv<|ar 3<|nb 2 [(14,vp b),(15,vu d)]<|C0 16 (λra rb rc rd re=>[(16,.tuple #[vi ra,vi rb,vi rc,vu rd,.bool re])]) h λra rb rc rd re H2 h=>nx 11 [(7,vi rc),(9,.bool re)]<|ar 4<|gi 1 [9] [(22,.bool re)]<|jn h (λc3 h=>?_) (λc3 h=>?_)
 ·exact aH 22 c3<|ar 5<|hH 3 [4] [vi (zY (rc+1))] hQ h
 exact aG 22 (zZ c3)<|kT<|ar 6<|hH 1 [4] [vi 0] hQ h
def fP.K0:=GC f93
def fP.pt(hv:zW)(wv:Int):GJ:=λH R=>
 gJ.C hv wv 1 0 H (λv H1=> ∃ra rb,v=.tuple #[vi ra,.bool rb]/\
 if rb=true then(
 R (.tuple #[vi ra,.bool ((tmod ra 2)==0)]) H1)
 else
 gJ.C hv wv 2 1 H1 (λd H2=> ∃a b,d=.tuple #[vi a,.bool b]/\
 R (.tuple #[vi a,.bool (b && ((tmod a 2)==0))]) H2))
theorem fP.link(h:pt b d H a):C b d H a:=by
 refine l2 K0 29 func93 ?_;intro w0 Q hQ;unfold pt at h;refine ki [(0,vp b),(1,vu d)]<|ar 0<|gi 2 [] []<|ar 1<|fd 2 [] [(9,vp b),(10,vu d)]<|vr 11 [9,10] h λra rb H1 h=>gi 5 [11] [(6,vi ra),(7,.bool rb)]<|gv<|ar 2<|gi 2 [] [(15,.bool (!rb))]<|jn h (λc1 h=>?_) (λc1 h=>?_)
 ·have b2:(!rb)=false:=Eg Bool.not (c1);have b22:rb=true:=c1;refine n7 7 (b:=rb) (v:=true) (by simp only[b2,b22,Es,Ep])<|n7 15 (b:=(!rb)) (v:=false) (by simp only[b2,b22,Es,Ep]) ?_;clear b2 b22;exact pN 15<|kT<|ar 4<|hH 9 [4,5] [vi ra,.bool ((tmod ra 2)==0)] hQ h
 have b2:(!rb)=true:=Eg Bool.not (zZ c1);have b22:rb=false:=zZ c1;refine n7 7 (b:=rb) (v:=false) (by simp only[b2,b22,Es,Ep])<|n7 15 (b:=(!rb)) (v:=true) (by simp only[b2,b22,Es,Ep]) ?_;clear b2 b22;refine l7 15<|k4 3<|nb 2 [(17,vp b),(18,vu d)]<|Bh 19 (λR wv=>[(19,.tuple #[vi R,.bool wv])]) h λR wv H2 h=>nx 5 [(6,vi R),(7,.bool wv)]<|ar 4<|gU [(4,vi R),(5,.bool (wv && ((tmod R 2)==0)))] ?_ ?_
 ·exact aE<|ix [4,5] [vi R,.bool (wv && ((tmod R 2)==0))] hQ h
 refine λhk=>nb 3 [(6,vi R),(22,vi R),(24,.bool wv)] ?_;by_cases c3:wv=true
 ·have b4:wv=true:=c3;exact bW [(6,vi R),(22,vi R),(24,VT)] (by rw[b4])<|nb 6 [(4,vi R),(5,.bool ((tmod R 2)==0))]<|zq<|cW [(4,vi R),(5,.bool (wv && ((tmod R 2)==0)))] (by simp only[b4,BL])<|hk
 have b4:wv=false:=zZ c3;exact bW [(6,vi R),(22,vi R),(24,VF)] (by rw[b4])<|nb 6 [(4,vi R),(5,VF)]<|zq<|cW [(4,vi R),(5,.bool (wv && ((tmod R 2)==0)))] (by simp only[b4,BL])<|hk
def hZ.K0:=GC f117
def hZ.pt(hv:zW)(wv:Int):GJ:=λH R=>
 fN.C hv wv 1 H (λv H1=> ∃ra rb,v=.tuple #[vu ra,vi rb]/\
 R (.tuple #[vu ra,vi rb]) H1)
theorem hZ.link(h:pt b d H a):C b d H a:=by
 refine l2 K0 11 func117 ?_;intro w0 Q hQ;unfold pt at h;exact ki [(0,vp b),(1,vu d)]<|ar 0<|gi 2 [] []<|ar 1<|nb 2 [(6,vp b),(7,vu d)]<|Bh 8 (λra rb=>[(8,.tuple #[vu ra,vi rb])]) h λra rb H1 h=>hH 4 [4,5] [vu ra,vi rb] hQ h
def aV.K0:=GC f100
def aV.pt(sB:zW)(sN sC:Nat)(f:Value):GJ:=λH R=>
 bE.C sB sN sC f H (λv H1=> ∃x,v=vi x/\
 R (.bool (decide (x>=0))) H1)
theorem aV.link(h:pt b g i w H a):C b g i w H a:=by
 refine l2 K0 9 func100 ?_;intro w0 Q hQ;unfold pt at h;exact ki [(0,vs b g i),(1,w)]<|ar 0<|gi 1 [] []<|ar 1<|nb 2 [(5,vs b g i),(6,w)]<|BD 7 (λx=>[(7,vi x)]) h λx H1 h=>hH 2 [4] [.bool (decide (x>=0))] hQ h
def cL.K0:=GC f118
def cL.pt(sB:zW)(sN sC:Nat)(v:Int):GJ:=λH R=>
 dW.C sB sN sC v H (λa H1=> ∃x,a=vi x/\
 R (.bool (decide (x>=0))) H1)
theorem cL.link(h:pt b g i d H a):C b g i d H a:=by
 refine l2 K0 9 func118 ?_;intro w0 Q hQ;unfold pt at h;exact ki [(0,vs b g i),(1,vi d)]<|ar 0<|gi 1 [] []<|ar 1<|nb 2 [(5,vs b g i),(6,vi d)]<|BD 7 (λx=>[(7,vi x)]) h λx H1 h=>hH 2 [4] [.bool (decide (x>=0))] hQ h
namespace bU
def K0:=GC f143
def K2:=cb K0
def K4:=cb K2
def K9:=ca K4
def Bj:=cb K9
def BK:=ca Bj
def Bt:=ca BK
end bU
def bU.pt(o:zW)(b f:Nat)(m:zW)(e g:Nat):GJ:=λH R=>
 if(b:Int)=(e:Int)then(
 ∃(r:zv) (m15:Int->zV->Nat),r 0 H/\ ∀d H1,r d H1->
 if d< (b:Int)then(
 ∃j,o=some j/\
 zw d b/\
 ∃x,hat H1 (j.add (toNat d*1))=some (.int .u32 x)/\
 ∃p,m=some p/\
 zw d e/\
 ∃q,hat H1 (p.add (toNat d*1))=some (.int .u32 q)/\
 if x=q then(
 (r (zY (d+1)) H1/\m15 (zY (d+1)) H1<m15 d H1))
 else
 R VF H1)
 else
 R VT H1)
 else
 R VF H
theorem bU.link(h:pt b g i k r u H a):C b g i k r u H a:=by
 refine l2 K0 26 func143 ?_;intro w0 Q hQ;unfold pt zY at h;refine ki [(0,vs b g i),(1,vs k r u)]<|ar 0<|gi 1 [] []<|gv<|ar 1<|gi 5 [] [(10,.bool ((g:Int) !=(r:Int)))]<|jn h (λc1 h=>?_) (λc1 h=>?_)
 ·refine aG 10 (Em.mpr c1)<|kT<|gv<|ar 3<|gi 3 [10] [(12,vi g),(13,vi 0)]<|k5 0<|have⟨f,m15,i3,i4⟩:=h;bI (x:=Bt) (σ:=Int) (λs_=> [(0,vs b g i),(1,vs k r u),(12,vi g),(13,vi s_)]) (λs_ H=>f s_ H) (λs_ H=>m15 s_ H) (0:Int) GE i3 sk ?_;rintro d H1 i5;have h:=i4 d H1 i5;refine ki [(0,vs b g i),(1,vs k r u),(12,vi g),(13,vi d)]<|ar 4<|gi 1 [] [(14,.bool (decide (d< (g:Int))))]<|gv<|jn h (λc6 h=>?_) (λc6 h=>?_)
  ·refine aH 14 (zX c6)<|kT<|gv<|k5 1<|ar 5<|gi 2 [14] [(5,vi d)]<|gv<|mO 6<|hX 16 (vs b g i) []<|hX 17 (vi d) [] ?_;obtain⟨j,rfl,q8,ha⟩:=h;refine Bc (some 18) (bJ 22 (vs (some j) g i) (vi d)) (vp (some (j.add (toNat d*1)))) Et (λw _=>dV (P:=prog) (t:=22) (elem:=91) (sz:=1) (a:=j) (len:=g) (cap:=i) (k:=.i64) (i:=d) ET Et q8.1 q8.2 w) [(0,vs (some j) g i),(1,vs k r u),(5,vi d),(12,vi g),(13,vi d),(18,vp (some (j.add (toNat d*1))))] pk<|have⟨x,q9,h⟩:=ha;CM (some 19) 91 q9 [(0,vs (some j) g i),(1,vs k r u),(5,vi d),(12,vi g),(13,vi d),(19,.int .u32 x)]<|hX 20 (vs k r u) []<|hX 21 (vi d) [5] ?_;obtain⟨p,rfl,q10,hb⟩:=h;refine Bc (some 22) (bJ 22 (vs (some p) r u) (vi d)) (vp (some (p.add (toNat d*1)))) Et (λw _=>dV (P:=prog) (t:=22) (elem:=91) (sz:=1) (a:=p) (len:=r) (cap:=u) (k:=.i64) (i:=d) ET Et q10.1 q10.2 w) [(0,vs (some j) g i),(1,vs (some p) r u),(12,vi g),(13,vi d),(19,.int .u32 x),(22,vp (some (p.add (toNat d*1))))] pk<|have⟨q,q11,h⟩:=hb;CM (some 23) 91 q11 [(0,vs (some j) g i),(1,vs (some p) r u),(12,vi g),(13,vi d),(19,.int .u32 x),(23,.int .u32 q)]<|hX 24 (.bool (x !=q)) [19,23]<|iQ [(0,vs (some j) g i),(1,vs (some p) r u),(12,vi g),(13,vi d),(24,.bool (x !=q))] sk<|Bk<|jn h (λc12 h=>?_) (λc12 h=>?_)
   ·exact aG 24 (Em.mpr c12)<|Bn<|aD<|aE<|k4 8<|nx 2 [(0,vs (some j) g i),(1,vs (some p) r u),(12,vi g),(13,vi (zY (d+1)))]<|aQ ((zY (d+1)):Int) sk h
   exact aH 24 (En.mpr c12)<|ar 7<|hH 1 [4] [VF] hQ h
  exact aG 14 (zQ c6)<|zj 0<|aA<|aA<|aJ<|aE<|ar 9<|hH 1 [4] [VT] hQ h
 exact aH 10 (En.mpr c1)<|ar 2<|hH 1 [4] [VF] hQ h
def bE.K0:=GC f144
def bE.K2:=cb K0
def bE.K3:=ca K2
def bE.K6:=cb K3
def bE.K7:=ca K6
def bE.K8:=ca K7
def bE.pt(sB:zW)(sN sC:Nat)(f:Value):GJ:=λH R=>
 ∃(I9:zv) (m9:Int->zV->Nat),I9 0 H/\ ∀s8 H1,I9 s8 H1->
 if s8< (sN:Int)then(
 ∃b,sB=some b/\
 zw s8 sN/\
 ∃m xC j e g d xT q o p,aI H1 (b.add (toNat s8*6)) 0 (DR m xC j e g d xT q o p)/\
 FC prog f #[.agg (DR m xC j e g d xT q o p).toArray] H1 (λv H2=> ∃x,v=.bool x/\
 if x=true then(
 R (vi s8) H2)
 else
 (I9 (zY (s8+1)) H2/\m9 (zY (s8+1)) H2<m9 s8 H1)))
 else
 R (vi (-1)) H1
theorem bE.link(h:pt b g i w H a):C b g i w H a:=by
 refine l2 K0 19 func144 ?_;intro w0 Q hQ;unfold pt zY at h;refine ki [(0,vs b g i),(1,w)]<|ar 0<|gi 1 [] []<|gv<|ar 1<|gi 3 [] [(7,vi g),(8,vi 0)]<|k5 0<|have⟨I9,m9,i1,i2⟩:=h;bI (x:=K8) (σ:=Int) (λs_=> [(0,vs b g i),(1,w),(7,vi g),(8,vi s_)]) (λs_ H=>I9 s_ H) (λs_ H=>m9 s_ H) (0:Int) GE i1 sk ?_;rintro s8 H1 i3;have h:=i2 s8 H1 i3;refine ki [(0,vs b g i),(1,w),(7,vi g),(8,vi s8)]<|ar 2<|gi 1 [] [(9,.bool (decide (s8< (g:Int))))]<|gv<|jn h (λc4 h=>?_) (λc4 h=>?_)
 ·refine aH 9 (zX c4)<|kT<|gv<|k5 1<|ar 3<|gi 2 [9] [(5,vi s8)]<|ar 4<|fd 3 [] [(11,w),(12,vs b g i),(13,vi s8)] ?_;obtain⟨R,rfl,q6,ha⟩:=h;refine ww (some 14) 25 27 6 R g i .i64 s8 EK q6.1 q6.2 [0,12,13] [(0,vs (some R) g i),(14,Vq (R.add (toNat s8*6)))] ?_;obtain⟨m,xC,j,e,f,d,xT,q,o,p,q7,h⟩:=ha;refine na 15 27 q7 [14]<|ng (some 16) w #[.agg (DR m xC j e f d xT q o p).toArray] Et h ?_;clear h;rintro v H2 ⟨x,rfl,h⟩;refine im [11,15] [(16,.bool x)]<|ue<|jn h (λc8 h=>?_) (λc8 h=>?_)
  ·exact aH 16 c8<|ar 5<|hH 2 [4] [vi s8] hQ h
  exact aG 16 (zZ c8)<|Bn<|aD<|aE<|k4 6<|gi 2 [5,8,16] [(8,vi (zY (s8+1)))]<|aQ ((zY (s8+1)):Int) sk h
 exact aG 9 (zQ c4)<|zj 0<|aA<|aA<|aJ<|aE<|ar 7<|hH 1 [4] [vi (-1)] hQ h
def bH.K0:=GC f145
def bH.pt(sB:zW)(sN sC:Nat):GJ:=λH R=>
 fY sB (
 R VN H) (λa=>
 ∀b H1,b=H.size->H1=H.push (.cells #[] 91)->
 dY 1 91 4 [.int .u32 0] (some (ad b)) 0 0 (some a) sN H1 (λap d H2=>
 R (vs ap (0+sN) d) H2))
theorem bH.link(h:pt b g i H a):C b g i H a:=by
 refine l2 K0 8 func145 ?_;intro w0 Q hQ;unfold pt at h;refine ki [(0,vs b g i)]<|ar 0<|gi 1 [] []<|gv<|ar 1<|fd 1 [] [(3,vs b g i)] ?_;rcases b with _ | R
 ·rw[Ev]at h;exact nx 1 [(0,vs none g i),(4,VT)]<|l7 4<|ar 2<|hH 1 [2] [VN] hQ h
 rw[El]at h;refine nx 1 [(0,vs (some R) g i),(4,VF)]<|pN 4<|kT<|ar 3<|p0 [4] []<|l1 (some 5) (λsC=>vs (pa sC) 0 0) (.cells #[] 91) ?_;intro sC H1 e1 e2;replace h:=h sC H1 e1 e2;refine im [] [(5,vs (pa sC) 0 0)]<|fd 1 [0] [(6,vs (some R) g i)]<|xl (some 7) (eM #[22,22] 22 #[vs (pa sC) 0 0,vs (some R) g i]) _ Et (cT (T:=91) (sz:=1) (bytes:=4) (zero:=(.int .u32 0:Value)) ET ET rfl (show prog.info? 91=some t91 from GE) GE GE GG GE (by first | exact h | (simpa only[Value.cells,EI]using h))) ?_;clear h;rintro _ H2 ⟨ap,d,rfl,h⟩;refine⟨[(7,vs ap (0+g) d)],pk,?_⟩;exact hH 1 [2] [vs ap (0+g) d] hQ h
def dW.K0:=GC f151
def dW.K2:=cb K0
def dW.K3:=ca K2
def dW.K6:=cb K3
def dW.K7:=ca K6
def dW.K8:=ca K7
def dW.pt(sB:zW)(sN sC:Nat)(v:Int):GJ:=λH R=>
 ∃(I9:zv) (m9:Int->zV->Nat),I9 0 H/\ ∀s8 H1,I9 s8 H1->
 if s8< (sN:Int)then(
 ∃b,sB=some b/\
 zw s8 sN/\
 ∃x,hat H1 (b.add (toNat s8*1))=some (vi x)/\
 if v=x then(
 R (vi s8) H1)
 else
 (I9 (zY (s8+1)) H1/\m9 (zY (s8+1)) H1<m9 s8 H1))
 else
 R (vi (-1)) H1
theorem dW.link(h:pt b g i d H a):C b g i d H a:=by
 refine l2 K0 19 func151 ?_;intro w0 Q hQ;unfold pt zY at h;refine ki [(0,vs b g i),(1,vi d)]<|ar 0<|gi 1 [] []<|gv<|ar 1<|gi 3 [] [(7,vi g),(8,vi 0)]<|k5 0<|have⟨I9,m9,i1,i2⟩:=h;bI (x:=K8) (σ:=Int) (λs_=> [(0,vs b g i),(1,vi d),(7,vi g),(8,vi s_)]) (λs_ H=>I9 s_ H) (λs_ H=>m9 s_ H) (0:Int) GE i1 sk ?_;rintro s8 H1 i3;have h:=i2 s8 H1 i3;refine ki [(0,vs b g i),(1,vi d),(7,vi g),(8,vi s8)]<|ar 2<|gi 1 [] [(9,.bool (decide (s8< (g:Int))))]<|gv<|jn h (λc4 h=>?_) (λc4 h=>?_)
 ·refine aH 9 (zX c4)<|kT<|gv<|k5 1<|ar 3<|gi 2 [9] [(5,vi s8)]<|ar 4<|fd 3 [] [(11,vi d),(12,vs b g i),(13,vi s8)] ?_;obtain⟨R,rfl,q6,ha⟩:=h;refine ww (some 14) 28 3 1 R g i .i64 s8 EW q6.1 q6.2 [0,12,13] [(0,vs (some R) g i),(14,Vq (R.add (toNat s8*1)))]<|have⟨x,q7,h⟩:=ha;hV 15 3 q7 [14]<|gi 1 [11,15] [(16,.bool (d==x))]<|jn h (λc8 h=>?_) (λc8 h=>?_)
  ·exact aH 16 (zK c8)<|ar 5<|hH 2 [4] [vi s8] hQ h
  exact aG 16 (zJ c8)<|Bn<|aD<|aE<|k4 6<|gi 2 [5,8,16] [(8,vi (zY (s8+1)))]<|aQ ((zY (s8+1)):Int) sk h
 exact aG 9 (zQ c4)<|zj 0<|aA<|aA<|aJ<|aE<|ar 7<|hH 1 [4] [vi (-1)] hQ h
def dZ.K0:=GC f4
def dZ.pt(o dC:Int)(m:Bool)(f:zW)(g i:Nat)(dT:ByteArray)(t:zW)(u s:Nat):GJ:=λH R=>
 ∀b H1,b=H.size->H1=H.push (.cells (DR o dC m f g i dT t u s).toArray 27)->
 ∃k xC j d e a xT r p q,aI H1 (ad b) 0 (DR k xC j d e a xT r p q)/\
 dG.C k xC j d e a xT r p q 3000 H1 (λv H2=> ∃x,v=vi x/\
 R (.bool (decide (x<0))) H2)
set_option maxRecDepth 100000 in
theorem dZ.link(h:pt d j v b g i o k r u H a):C d j v b g i o k r u H a:=by
 refine l2 K0 6 func4 ?_;intro w0 Q hQ;unfold pt at h;refine ki [(0,.agg (DR d j v b g i o k r u).toArray)]<|ar 0<|l1 (some 1) (λs=>vp (pa s)) (.cells (DR d j v b g i o k r u).toArray 27)<|λs H1 e1 e2=>have h:=h s H1 e1 e2;⟨[(1,vp (pa s))],pk,?_⟩;exact gi 1 [] []<|ar 1<|have⟨f,xC,dT,t,e,R,xT,m,p,q,q3,h⟩:=h;na 3 27 q3 [1]<|BD 4 (λx=>[(4,vi x)]) h λx H2 h=>hH 2 [2] [.bool (decide (x<0))] hQ h
namespace dG
def K0:=GC f14
def K2:=cb K0
def K4:=cb K2
def K6:=cb K4
def BK:=ca K6
def BF:=cb BK
def Bu:=ca BF
def BZ:=ca Bu
end dG
def dG.pt(aa dC:Int)(z:Bool)(o:zW)(p q:Nat)(dT:ByteArray)(ak:zW)(al aj:Nat)(e:Int):GJ:=λH R=>
 ∀b H1,b=H.size->H1=H.push (.cells (DR aa dC z o p q dT ak al aj).toArray 27)->
 ∃x,hat H1 ((ad b).add 4)=some (.string x)/\
 if(x.size:Int)>1000 then(
 R (vi (-1)) H1)
 else
 ∃xB xN xC,hat H1 (((ad b).add 2).add 1)=some (vs xB xN xC)/\
 if(xN:Int)>300 then(
 R (vi (-1)) H1)
 else
 ∃(ao:Int->zv) (m19:Int->Int->zV->Nat),ao (zY (e-1)) 0 H1/\ ∀d i H2,ao d i H2->
 ∃am f an,hat H2 ((ad b).add 5)=some (vs am f an)/\
 if((decide (i< (f:Int))) && (decide (d>=0)))=true then(
 ∃ae u ab,hat H2 ((ad b).add 5)=some (vs ae u ab)/\
 ∃y,ae=some y/\
 zw i u/\
 ∃r ac s g j m xT ag ah ai,aI H2 (y.add (toNat i*6)) 0 (DR r ac s g j m xT ag ah ai)/\
 dG.C r ac s g j m xT ag ah ai d H2 (λv H3=> ∃af,v=vi af/\
 (ao af (zY (i+1)) H3/\m19 af (zY (i+1)) H3<m19 d i H2)))
 else
 R (vi d) H2
set_option maxRecDepth 100000 in
theorem dG.link(h:pt d j v b g i o k r u q H a):C d j v b g i o k r u q H a:=by
 refine l2 K0 38 func14 ?_;intro w0 Q hQ;unfold pt zY at h;refine ki [(0,.agg (DR d j v b g i o k r u).toArray),(1,vi q)]<|ar 0<|l1 (some 2) (λR=>vp (pa R)) (.cells (DR d j v b g i o k r u).toArray 27)<|λR H1 e1 e2=>have h:=h R H1 e1 e2;im [0] [(2,vp (pa R))]<|gi 1 [] []<|ar 1<|gi 3 [1] [(1,vi (zY (q-1)))]<|gv<|ar 2<|fd 1 [] [(8,Vq ((ad R).add 4))]<|have⟨x,q3,h⟩:=h;hV 9 9 q3 [8]<|fd 3 [9] [(12,.bool (decide ((x.size:Int)>1000)))]<|jn h (λc4 h=>?_) (λc4 h=>?_)
 ·exact kc 12 (zX c4)<|gi 6 [12] [(18,VT)]<|l7 18<|ar 3<|hH 1 [4] [vi (-1)] hQ h
 refine kc 12 (zQ c4)<|fd 2 [] [(14,Vq (((ad R).add 2).add 1))]<|have⟨xB,xN,xC,q6,h⟩:=h;hV 15 22 q6 [14]<|gi 3 [12,15] [(18,.bool (decide ((xN:Int)>300)))]<|jn h (λc7 h=>?_) (λc7 h=>?_)
 ·exact aH 18 (zX c7)<|ar 3<|hH 1 [4] [vi (-1)] hQ h
 refine aG 18 (zQ c7)<|kT<|gv<|ar 4<|gi 1 [18] [(5,vi 0)]<|k5 0<|have⟨ao,m19,i9,i10⟩:=h;bI (x:=BZ) (σ:=Int×Int) (λs_=> [(1,vi s_.1),(2,vp (pa R)),(5,vi s_.2)]) (λs_ H=>ao s_.1 s_.2 H) (λs_ H=>m19 s_.1 s_.2 H) (((zY (q-1)),0):Int×Int) GE i9 sk ?_;rintro⟨e,al⟩ H2 i11;have h:=i10 e al H2 i11;refine ki [(1,vi e),(2,vp (pa R)),(5,vi al)]<|gv<|ar 5<|fd 2 [] [(19,vi al),(20,Vq ((ad R).add 5))]<|have⟨am,f,an,q12,h⟩:=h;hV 21 25 q12 [20]<|fd 3 [19,21] [(24,.bool (decide (al< (f:Int))))]<|gU [(1,vi e),(2,vp (pa R)),(5,vi al),(27,.bool ((decide (al< (f:Int))) && (decide (e>=0))))] ?_ ?_
 ·refine aE<|jn h (λc15 h=>?_) (λc15 h=>?_)
  ·refine aH 27 c15<|kT<|gv<|k5 1<|k4 7<|nb 1 [(1,vi e),(2,vp (pa R)),(5,vi al),(30,Vq ((ad R).add 5))]<|have⟨ae,p,ab,q17,h⟩:=h;hV 31 25 q17 [30]<|fd 1 [] [(32,vi al)] ?_;obtain⟨y,rfl,q18,ha⟩:=h;exact ww (some 33) 25 27 6 y p ab .i64 al EK q18.1 q18.2 [31,32] [(33,Vq (y.add (toNat al*6)))]<|have⟨dT,ac,s,aj,ak,m,xT,ag,ah,ai,q19,h⟩:=ha;na 34 27 q19 [33]<|fd 1 [1] [(35,vi e)]<|l5 36 [34,35] h λaf H3 h=>fd 1 [36] [(1,vi af)]<|zq<|aD<|aE<|k4 6<|gi 3 [5] [(5,vi (zY (al+1)))]<|aQ ((af,(zY (al+1))):Int×Int) sk h
  exact aG 27 (zZ c15)<|zj 0<|aA<|aA<|aJ<|aE<|ar 8<|hH 2 [4] [vi e] hQ h
 refine λhk=>BM [(1,vi e),(2,vp (pa R)),(5,vi al),(24,.bool (decide (al< (f:Int))))] ?_;by_cases c13:al< (f:Int)
 ·have b14:(decide (al< (f:Int)))=true:=zX c13;exact bW [(1,vi e),(2,vp (pa R)),(5,vi al),(24,VT)] (by rw[b14])<|fd 3 [24] [(27,.bool (decide (e>=0)))]<|zq<|n7 27 (b:=(decide (e>=0))) (v:=((decide (al< (f:Int))) && (decide (e>=0)))) (by simp only[b14,BL])<|hk
 have b14:(decide (al< (f:Int)))=false:=zQ c13;exact bW [(1,vi e),(2,vp (pa R)),(5,vi al),(24,VF)] (by rw[b14])<|fd 3 [24] [(27,VF)]<|zq<|n7 27 (b:=false) (v:=((decide (al< (f:Int))) && (decide (e>=0)))) (by simp only[b14,BL])<|hk
def iA.K0:=GC f23
def iA.pt(hv:zW)(a:ByteArray):GJ:=λH R=>
 if a.toList=(ByteArray.mk #[]).toList then(
 R (.tuple #[vu 0,vi 1]) H)
 else
 bK.C a H (λv H1=> ∃x,v=.bool x/\
 if x=true then(
 bD.C a H1 (λq H2=> ∃j,q=vi j/\
 if j>62 then(
 R (.tuple #[vu 0,vi 6]) H2)
 else
 jH.C hv a H2 (λr H3=> ∃ra rb,r=.tuple #[vu ra,.bool rb]/\
 if rb=true then(
 R (.tuple #[vu ra,vi 0]) H3)
 else
 fY hv (
 R (.tuple #[vu 0,vi 2]) H3) (λd=>
 fi.C (some d) a H3 (λp H4=> ∃i g,p=.tuple #[vu i,vi g]/\
 if g=0 then(
 ∀b H5,b=H4.size->H5=H4.push (.cells #[vu i] 37)->
 dO.C (some d) 4 0 (some (ad b)) 1 1 H5 (λo H6=> ∃f e,o=.tuple #[vu f,vi e]/\
 if e=0 then(
 ∃xB xN xC,hat H6 (d.add 1)=some (vs xB xN xC)/\
 ∀m H7,m=H6.size->H7=H6.push (.cells #[vu f] 37)->
 dY 1 37 8 [vu 0] xB xN xC (some (ad m)) 1 H7 (λap k H8=>
 (aF H8 (d.add 1) 0 1)/\ ∀H9,H9=aL H8 (d.add 1) [vs ap (xN+1) k] 0->
 R (.tuple #[vu f,vi e]) H9))
 else
 R (.tuple #[vu f,vi e]) H6))
 else
 R (.tuple #[vu 0,vi g]) H4)))))
 else
 R (.tuple #[vu 0,vi 1]) H1)
theorem iA.link(h:pt b o H a):C b o H a:=by
 refine l2 K0 63 func23 ?_;intro w0 Q hQ;unfold pt at h;refine ki [(0,vp b),(1,.string o)]<|ar 0<|gi 2 [] []<|gv<|k5 0<|ar 1<|fd 3 [] [(14,.bool (o.toList==(ByteArray.mk #[]).toList))]<|jn h (λc1 h=>?_) (λc1 h=>?_)
 ·exact kc 14 (zK c1)<|gi 5 [14] [(11,VT)]<|l7 11<|ar 2<|hH 2 [4,5] [vu 0,vi 1] hQ h
 refine kc 14 (zJ c1)<|fd 1 [] [(15,.string o)]<|l5 16 [15] h λx H1 h=>gi 3 [14,16] [(11,.bool (!x))]<|jn h (λc3 h=>?_) (λc3 h=>?_)
 ·refine aG 11 (Eg Bool.not (c3))<|ar 3<|fd 1 [11] [(20,.string o)]<|l5 21 [20] h λj H2 h=>gi 2 [21] [(19,.bool (decide (j>62)))]<|jn h (λc5 h=>?_) (λc5 h=>?_)
  ·exact aH 19 (zX c5)<|ar 4<|hH 2 [4,5] [vu 0,vi 6] hQ h
  refine aG 19 (zQ c5)<|Bn<|aD<|aE<|gv<|ar 5<|fd 2 [19] [(24,vp b),(25,.string o)]<|vr 26 [24,25] h λra rb H3 h=>gi 5 [26] [(6,vu ra),(7,.bool rb)]<|ar 6<|gi 1 [7] [(29,.bool rb)]<|jn h (λc7 h=>?_) (λc7 h=>?_)
  ·exact aH 29 c7<|ar 7<|hH 3 [4,5] [vu ra,vi 0] hQ h
  refine aG 29 (zZ c7)<|kT<|gv<|ar 8<|fd 1 [6,29] [(31,vp b)] ?_;rcases b with _ | d
  ·rw[Ev]at h;exact gi 1 [0,31] [(0,vp none),(32,VT)]<|l7 32<|ar 9<|hH 2 [4,5] [vu 0,vi 2] hQ h
  rw[El]at h;refine gi 1 [0,31] [(0,Vq d),(32,VF)]<|pN 32<|kT<|ar 10<|fd 2 [1,32] [(34,Vq d),(35,.string o)]<|vr 36 [34,35] h λi g H4 h=>gi 5 [36] [(8,vu i),(9,vi g)]<|gv<|ar 11<|gi 2 [] [(40,.bool (g !=0))]<|jn h (λc9 h=>?_) (λc9 h=>?_)
  ·refine aG 40 (Em.mpr c9)<|kT<|ar 13<|fd 2 [8,9,40] [(43,Vq d),(44,vu i)]<|l1 (some 45) (λR=>vs (pa R) 1 1) (.cells #[vu i] 37)<|λR H5 e11 e12=>have h:=h R H5 e11 e12;im [44] [(45,vs (pa R) 1 1)]<|vr 46 [43,45] h λf e H6 h=>gi 5 [46] [(9,vi e),(10,vu f)]<|gv<|ar 14<|gi 2 [] [(50,.bool (e==0))]<|jn h (λc13 h=>?_) (λc13 h=>?_)
   ·refine aH 50 (zK c13)<|k4 15<|fd 4 [0,50] [(51,Vq d),(54,Vq (d.add 1))]<|have⟨xB,xN,xC,q15,h⟩:=h;hV 55 53 q15 [54]<|fd 1 [] [(56,vu f)]<|l1 (some 57) (λR=>vs (pa R) 1 1) (.cells #[vu f] 37) ?_;intro m H7 e16 e17;replace h:=h m H7 e16 e17;refine im [56] [(57,vs (pa m) 1 1)]<|xl (some 58) (eM #[53,53] 53 #[vs xB xN xC,vs (pa m) 1 1]) _ Et (cT (T:=37) (sz:=1) (bytes:=8) (zero:=(vu 0:Value)) EY EY rfl (show prog.info? 37=some t37 from GE) GE GE GG GE (by first | exact h | (simpa only[Value.cells,EI]using h))) ?_;clear h;rintro _ H8 ⟨ap,k,rfl,h⟩;exact im [55,57] [(58,vs ap (xN+1) k)]<|fd 2 [51] [(60,Vq (d.add 1))]<|have⟨q19,h⟩:=h;fj 53 (vs ap (xN+1) k) q19<|λH9 e18=>have h:=h H9 e18;im [58,60] []<|ue<|ar 16<|hH 4 [4,5] [vu f,vi e] hQ h
   exact aG 50 (zJ c13)<|kT<|ar 16<|hH 4 [4,5] [vu f,vi e] hQ h
  exact aH 40 (En.mpr c9)<|ar 12<|hH 3 [4,5] [vu 0,vi g] hQ h
 exact aH 11 (Eg Bool.not (zZ c3))<|ar 2<|hH 2 [4,5] [vu 0,vi 1] hQ h
namespace jH
def K0:=GC f49
def K2:=cb K0
def K4:=cb K2
def Cq:=ca K4
def Bt:=cb Cq
def B1:=ca Bt
def BF:=ca B1
def Bu:=cb B1
end jH
def jH.pt(hv:zW)(j:ByteArray):GJ:=λH R=>
 ∀b H1,b=H.size->H1=H.push (.cells #[.string j] 9)->
 ∀d H2,d=H1.size->H2=H1.push (.cells #[vu 0] 37)->
 ∀a H3,a=H2.size->H3=H2.push (.cells #[VF] 4)->
 fY hv (
 (aF H3 (ad d) 0 1)/\ ∀H4,H4=aL H3 (ad d) [vu 0] 0->
 (aF H4 (ad a) 0 1)/\ ∀H5,H5=aL H4 (ad a) [VF] 0->
 ∃r,hat H5 (ad d)=some (vu r)/\
 ∃y,hat H5 (ad a)=some (.bool y)/\
 R (.tuple #[vu r,.bool y]) H5) (λp=>
 jc.C (some p) H3 (λv H6=>v=v/\
 ∀(rc:LoopState->Option Code->Obj) (lp:Nat) (H7:zV),lp=H6.size+1->H7=(H6.push (.deferred (some []))).push (rc .ready none)->
 ∀vY,(∀(e:Int) (x_3:ByteArray) (H8:zV) (vRy:zk),H8[lp]?=some (rc .ready none)->
 (H8[lp]?=some (rc .ready none)/\ ∀H9,H9=bR H8 lp (rc .busy none)->
 ∃i,hat H9 (ad b)=some (.string i)/\
 if x_3.toList=i.toList then(
 (aF H9 (ad d) 0 1)/\ ∀m,m=aL H9 (ad d) [vu e] 0->
 (aF m (ad a) 0 1)/\ ∀o,o=aL m (ad a) [VT] 0->
 o[lp]?=some (rc .busy none)/\
 vRy VF (bR o lp (rc .done (some .ret))))
 else
 H9[lp]?=some (rc .busy none)/\
 vRy VT (bR H9 lp (rc .ready none)))->
 FC prog vY #[vu e,.string x_3] H8 vRy)->
 FE prog v #[vY] H7 (λ_ q=>
 (q[lp]?=some (rc .ready none)/\ ∀f,f=bR q lp (rc .exhausted none)->
 (aF f (ad d) 0 1)/\ ∀k,k=aL f (ad d) [vu 0] 0->
 (aF k (ad a) 0 1)/\ ∀u,u=aL k (ad a) [VF] 0->
 Shut (H6.size::[]) u (λx=>
 ∃aa,hat x (ad d)=some (vu aa)/\
 ∃s,hat x (ad a)=some (.bool s)/\
 R (.tuple #[vu aa,.bool s]) x))\/
 (q[lp]?=some (rc .done (some .ret))/\ ∀f,f=bR q lp (rc .exhausted (some .ret))->
 Shut (H6.size::[]) f (λt=>
 ∃z,hat t (ad d)=some (vu z)/\
 ∃ab,hat t (ad a)=some (.bool ab)/\
 R (.tuple #[vu z,.bool ab]) t)))))
theorem jH.link(h:pt b o H a):C b o H a:=by
 refine l2 K0 18 func49 ?_;intro w0 Q hQ;unfold pt at h;refine ki [(0,vp b),(1,.string o)]<|ar 0<|l1 (some 3) (λj=>vp (pa j)) (.cells #[.string o] 9)<|λj H1 e1 e2=>have h:=h j H1 e1 e2;im [1] [(3,vp (pa j))]<|l1 (some 4) (λj=>vp (pa j)) (.cells #[vu 0] 37)<|λd H2 e3 e4=>have h:=h d H2 e3 e4;im [] [(4,vp (pa d))]<|l1 (some 5) (λj=>vp (pa j)) (.cells #[VF] 4)<|λR H3 e5 e6=>have h:=h R H3 e5 e6;im [] [(5,vp (pa R))]<|ue<|gv<|ar 1<|fd 1 [] [(8,vp b)] ?_;rcases b with _ | p
 ·rw[Ev]at h;refine gi 1 [0,8] [(0,vp none),(9,VT)]<|l7 9<|ar 2<|p0 [0,3,9] []<|have⟨q8,h⟩:=h;fj 37 (vu 0) q8<|λH4 e7=>have h:=h H4 e7;im [] []<|have⟨q10,h⟩:=h;fj 4 VF q10<|λH5 e9=>have h:=h H5 e9;im [] []<|ue<|zx ?_;show At _ _ _ _ _ (Q .ret);exact have⟨r,q11,y,q12,h⟩:=h;bY (fn:=f49) [vu r,.bool y] hQ (show bG _ _ _ [.cell 4 37,.cell 5 4] _ from .cell GE (io Et q11) (.cell GE (io Et q12) (.nil))) h
 rw[El]at h;refine gi 1 [0,8] [(0,Vq p),(9,VF)]<|pN 9<|kT<|gv<|ar 3<|fd 1 [0,9] [(10,Vq p)]<|Bs (some 11) h ?_;clear h;rintro v H6 ⟨-,h⟩;refine im [10] [(11,v)]<|ue<|k5 0<|wx (g:=.tmp 11) (ps:= #[12,13]) (assign:=BF) (body:=Bu) (v) GE GE GE<|λrc lp H7 r13 e14 e15 y16=>FE.mono (h rc lp H7 e14 e15 (.func (.yield lp) #[] #[]) ?_) ?_
 ·clear h;refine λe x_3 H8 vRy q17 h=>y16 #[vu e,.string x_3] H8 vRy GE q17 (λw1x=>?_);refine CP [] [(12,vu e),(13,.string x_3)]<|ar 4<|gi 1 [11,12] [(6,vu e)]<|k4 5<|fd 1 [13] [(7,.string x_3)]<|zq<|have⟨q19,h⟩:=h;aE<|wu r13 q19<|λH9 e18=>have h:=h H9 e18;k5 1<|ar 6<|fd 1 [7] [(14,.string x_3)]<|have⟨i,q20,h⟩:=h;hV 15 9 q20 [3]<|gi 1 [14,15] [(16,.bool (x_3.toList==i.toList))]<|jn h (λc21 h=>?_) (λc21 h=>?_)
  ·refine aH 16 (zK c21)<|ar 7<|fd 1 [6,16] [(17,vu e)]<|have⟨q24,h⟩:=h;fj 37 (vu e) q24<|λm e23=>have h:=h m e23;im [4,17] []<|have⟨q26,h⟩:=h;fj 4 VT q26<|λhv e25=>have h:=h hv e25;⟨[],pk,?_⟩;refine ue<|zx ?_;show At _ _ _ _ _ (roundPost _ _ _ .ret);exact have⟨q27,h⟩:=h;Ao r13 q27 h
  exact aG 16 (zJ c21)<|Bn<|aD<|have⟨q28,h⟩:=h;rW r13 q28 h
 clear h y16;rintro _ q (⟨q29,h⟩ | ⟨q29,h⟩)
 ·refine .inl ⟨q29,λf e38=>?_⟩;refine have h:=h f e38;td (H6.size::[]) rfl<|CP [3,11] []<|aD<|aE<|ar 8<|have⟨q31,h⟩:=h;fj 37 (vu 0) q31<|λk e30=>have h:=h k e30;im [] []<|have⟨q33,h⟩:=h;fj 4 VF q33<|λu e32=>have h:=h u e32;im [] []<|ue<|zx ?_;show At _ _ _ _ _ (Q .ret);refine pM (fn:=f49) (H6.size::[]) hQ (Shut.mono (λx h=>?_) h);exact have⟨aa,q34,s,q35,h⟩:=h;⟨[vu aa,.bool s],(show bG _ _ _ [.cell 4 37,.cell 5 4] _ from .cell GE (io Et q34) (.cell GE (io Et q35) (.nil))),h⟩
 refine .inr ⟨_,q29,λf e38=>?_⟩;refine have h:=h f e38;td (H6.size::[]) rfl<|CP [3,11] []<|xV rfl ?_;show At _ _ _ _ _ (Q .ret);refine pM (fn:=f49) (H6.size::[]) hQ (Shut.mono (λt h=>?_) h);exact have⟨z,q36,ab,q37,h⟩:=h;⟨[vu z,.bool ab],(show bG _ _ _ [.cell 4 37,.cell 5 4] _ from .cell GE (io Et q36) (.cell GE (io Et q37) (.nil))),h⟩
def jk.K0:=GC f62
def jk.pt(hv:zW)(wv:Int):GJ:=λH R=>
 fY hv (
 R (.tuple #[.string (ByteArray.mk #[]),vi 3]) H) (λa=>
 gG.C (some a) wv 4 0 H (λv H1=> ∃ra rb,v=.tuple #[vu ra,vi rb]/\
 if rb=0 then(
 fO.C (some a) ra H1 (λe H2=> ∃b d,e=.tuple #[.string b,vi d]/\
 R (.tuple #[.string b,vi d]) H2))
 else
 R (.tuple #[.string (ByteArray.mk #[]),vi 3]) H1))
theorem jk.link(h:pt b d H a):C b d H a:=by
 refine l2 K0 23 func62 ?_;intro w0 Q hQ;unfold pt at h;refine ki [(0,vp b),(1,vu d)]<|ar 0<|gi 2 [] []<|gv<|ar 1<|fd 1 [] [(8,vp b)] ?_;rcases b with _ | R
 ·rw[Ev]at h;exact gi 1 [0,8] [(0,vp none),(9,VT)]<|l7 9<|ar 2<|hH 2 [4,5] [.string (ByteArray.mk #[]),vi 3] hQ h
 rw[El]at h;refine gi 1 [0,8] [(0,Vq R),(9,VF)]<|pN 9<|kT<|ar 3<|fd 2 [1,9] [(11,Vq R),(12,vu d)]<|vr 13 [11,12] h λra rb H1 h=>gi 5 [13] [(6,vu ra),(7,vi rb)]<|gv<|ar 4<|gi 2 [7] [(17,.bool (rb !=0))]<|jn h (λc1 h=>?_) (λc1 h=>?_)
 ·exact aG 17 (Em.mpr c1)<|kT<|ar 6<|nb 2 [(18,Vq R),(19,vu ra)]<|Bh 20 (λwv hv=>[(20,.tuple #[.string wv,vi hv])]) h λwv hv H2 h=>hH 4 [4,5] [.string wv,vi hv] hQ h
 exact aH 17 (En.mpr c1)<|ar 5<|hH 2 [4,5] [.string (ByteArray.mk #[]),vi 3] hQ h
def jc.K0:=GC f105
def jc.pt(hv:zW):GJ:=λH R=>
 ∀b H1,b=H.size->H1=H.push (.cells #[vp hv] 31)->
 R (.func (.func 146) #[] #[Vq (ad b)]) H1
theorem jc.link(h:pt b H a):C b H a:=by
 refine l2 K0 4 func105 ?_;intro w0 Q hQ;unfold pt at h;refine ki [(0,vp b)]<|ar 0<|l1 (some 1) (λR=>vp (pa R)) (.cells #[vp b] 31)<|λR H1 e1 e2=>have h:=h R H1 e1 e2;⟨[(1,vp (pa R))],pk,?_⟩;exact gi 1 [] []<|ar 1<|hH 2 [2] [.func (.func 146) #[] #[vp (pa R)]] hQ h
def iF.K0:=GC f146
def iF.K2:=cb K0
def iF.K3:=ca K2
def iF.K4:=ca K3
def iF.pt(b:Value)(o:zW):GJ:=λH R=>
 ∃d,o=some d/\
 ∃x,hat H d=some (vp x)/\
 ∃xA,x=some xA/\
 ∃xB xN xC,hat H (xA.add 1)=some (vs xB xN xC)/\
 ∃(I5:zv) (m5:Int->zV->Nat),I5 0 H/\ ∀e H1,I5 e H1->
 if e< (xN:Int)then(
 ∃f,xB=some f/\
 zw e xN/\
 ∃g,hat H1 (f.add (toNat e*1))=some (vu g)/\
 ∃m,hat H1 d=some (vp m)/\
 jk.C m g H1 (λv H2=> ∃ra rb,v=.tuple #[.string ra,vi rb]/\
 if rb=0 then(
 FC prog b #[vu g,.string ra] H2 (λp H3=> ∃j,p=.bool j/\
 if j=true then(
 (I5 (zY (e+1)) H3/\m5 (zY (e+1)) H3<m5 e H1))
 else
 R (.tuple #[]) H3))
 else
 (I5 (zY (e+1)) H2/\m5 (zY (e+1)) H2<m5 e H1)))
 else
 R (.tuple #[]) H1
theorem iF.link(h:pt w b H a):C w b H a:=by
 refine l2 K0 32 func146 ?_;intro w0 Q hQ;unfold pt zY at h;refine ki [(0,w),(1,vp b)]<|ar 0 ?_;obtain⟨d,rfl,x,q1,ha⟩:=h;refine Cp (some 7) 31 q1 [1] [(1,Vq d),(7,vp x)] ?_;obtain⟨xA,rfl,hb⟩:=ha;refine fd 2 [7] [(9,Vq (xA.add 1))]<|have⟨xB,xN,xC,q2,h⟩:=hb;hV 10 53 q2 [9]<|gi 2 [] [(11,vi xN),(12,vi 0)]<|k5 0<|have⟨I5,m5,i3,i4⟩:=h;bI (x:=K4) (σ:=Int) (λs_=> [(0,w),(1,Vq d),(10,vs xB xN xC),(11,vi xN),(12,vi s_)]) (λs_ H=>I5 s_ H) (λs_ H=>m5 s_ H) (0:Int) GE i3 sk ?_;rintro e H1 i5;have h:=i4 e H1 i5;refine ki [(0,w),(1,Vq d),(10,vs xB xN xC),(11,vi xN),(12,vi e)]<|ar 1<|gi 1 [] [(13,.bool (decide (e< (xN:Int))))]<|gv<|jn h (λc6 h=>?_) (λc6 h=>?_)
 ·refine aH 13 (zX c6)<|kT<|gv<|k5 1<|ar 2<|p0 [13] [] ?_;obtain⟨f,rfl,q8,hc⟩:=h;refine ww (some 14) 53 37 1 f xN xC .i64 e EY q8.1 q8.2 [10] [(10,vs (some f) xN xC),(14,Vq (f.add (toNat e*1)))]<|have⟨g,q9,h⟩:=hc;hV 15 37 q9 [14]<|gi 1 [15] [(4,vu g)]<|ar 3<|have⟨m,q10,h⟩:=h;hV 17 31 q10 []<|fd 1 [] [(18,vu g)]<|vr 19 [17,18] h λra rb H2 h=>gi 5 [19] [(5,.string ra),(6,vi rb)]<|ar 4<|fd 3 [6] [(24,.bool (rb==0))]<|jn h (λc11 h=>?_) (λc11 h=>?_)
  ·refine kc 24 (zK c11)<|fd 3 [4,5] [(25,w),(26,vu g),(27,.string ra)] ?_;refine ng (some 28) w #[vu g,.string ra] Et h ?_;clear h;rintro p H3 ⟨j,rfl,h⟩;refine im [25,26,27] [(28,.bool j)]<|gi 2 [24,28] [(30,.bool (!j))]<|jn h (λc13 h=>?_) (λc13 h=>?_)
   ·exact aG 30 (Eg Bool.not (c13))<|Bn<|aD<|aE<|k4 5<|gi 2 [12,30] [(12,vi (zY (e+1)))]<|aQ ((zY (e+1)):Int) sk h
   exact aH 30 (Eg Bool.not (zZ c13))<|ix [] [] hQ h
  exact kc 24 (zJ c11)<|gi 6 [4,5,24] [(30,VF)]<|pN 30<|Bn<|aD<|aE<|k4 5<|gi 2 [12,30] [(12,vi (zY (e+1)))]<|aQ ((zY (e+1)):Int) sk h
 exact aG 13 (zQ c6)<|zj 0<|aA<|aA<|aJ<|jD (fn:=f146) [] hQ (show bG _ _ _ [] _ from .nil) h
namespace eP
def K0:=GC f67
def K2:=cb K0
def K4:=cb K2
def Bj:=cb K4
def BK:=ca Bj
def BF:=cb BK
def Bu:=ca BF
def BZ:=ca Bu
end eP
def eP.pt(m f:zW)(d e:Nat):GJ:=λH R=>
 ∀b H1,b=H.size->H1=H.push (.cells #[vp m] 115)->
 ∃x,hat H1 (ad b)=some (vp x)/\
 fY x (
 R VN H1) (λxA=>
 ∃af,hat H1 (ad b)=some (vp af)/\
 ∃ah,af=some ah/\
 ∃xB xN xC,hat H1 ah=some (vs xB xN xC)/\
 ∃(y:zW->Nat->Nat->zv) (m19:zW->Nat->Nat->Int->zV->Nat),y none 0 0 0 H1/\ ∀lB lN lC s15 H2,y lB lN lC s15 H2->
 if s15< (xN:Int)then(
 ∃ag,hat H2 (ad b)=some (vp ag)/\
 ∃ae,ag=some ae/\
 ∃s o q,hat H2 ae=some (vs s o q)/\
 ∃g,s=some g/\
 zw s15 o/\
 ∃r,hat H2 ((g.add (toNat s15*72)).add 7)=some (vi r)/\
 if r>0 then(
 if(d:Int)=0 then(
 ∀ac H3,ac=H2.size->H3=H2.push (.cells #[vi s15] 3)->
 dY 1 3 8 [vi 0] lB lN lC (some (ad ac)) 1 H3 (λap z H4=>
 (y ap (lN+1) z (zY (s15+1)) H4/\m19 ap (lN+1) z (zY (s15+1)) H4<m19 lB lN lC s15 H2)))
 else
 ∃aa,hat H2 (g.add (toNat s15*72))=some (vi aa)/\
 cL.C f d e aa H2 (λv H5=> ∃u,v=.bool u/\
 if u=true then(
 ∀ab H6,ab=H5.size->H6=H5.push (.cells #[vi s15] 3)->
 dY 1 3 8 [vi 0] lB lN lC (some (ad ab)) 1 H6 (λp j H7=>
 (y p (lN+1) j (zY (s15+1)) H7/\m19 p (lN+1) j (zY (s15+1)) H7<m19 lB lN lC s15 H2)))
 else
 (y lB lN lC (zY (s15+1)) H5/\m19 lB lN lC (zY (s15+1)) H5<m19 lB lN lC s15 H2)))
 else
 (y lB lN lC (zY (s15+1)) H2/\m19 lB lN lC (zY (s15+1)) H2<m19 lB lN lC s15 H2))
 else
 slices_SortFunc_int_int.C lB lN lC (.func (.func 120) #[] #[Vq (ad b)]) H2 (λ_ H8=>
 R (vs lB lN lC) H8))
theorem eP.link(h:pt b k g i H a):C b k g i H a:=by
 refine l2 K0 52 func67 ?_;intro w0 Q hQ;unfold pt zY at h;refine ki [(0,vp b),(1,vs k g i)]<|ar 0<|l1 (some 2) (λR=>vp (pa R)) (.cells #[vp b] 115)<|λR H1 e1 e2=>have h:=h R H1 e1 e2;im [0] [(2,vp (pa R))]<|gi 1 [] []<|gv<|ar 1<|have⟨x,q3,h⟩:=h;hV 8 115 q3 [] ?_;rcases x with _ | xA
 ·rw[Ev]at h;exact gi 1 [8] [(9,VT)]<|l7 9<|ar 2<|hH 1 [4] [VN] hQ h
 rw[El]at h;refine gi 1 [8] [(9,VF)]<|pN 9<|kT<|ar 3<|gi 1 [9] [(5,VN)]<|gv<|ar 4<|have⟨af,q4,h⟩:=h;hV 10 115 q4 [] ?_;obtain⟨ah,rfl,ha⟩:=h;refine fd 2 [10] [(12,Vq ah)]<|have⟨xB,xN,xC,q5,h⟩:=ha;hV 13 182 q5 [12]<|gi 2 [13] [(14,vi xN),(15,vi 0)]<|k5 0<|have⟨y,m19,i6,i7⟩:=h;bI (x:=BZ) (σ:=zW×Nat×Nat×Int) (λs_=> [(1,vs k g i),(2,vp (pa R)),(5,vs s_.1 s_.2.1 s_.2.2.1),(14,vi xN),(15,vi s_.2.2.2)]) (λs_ H=>y s_.1 s_.2.1 s_.2.2.1 s_.2.2.2 H) (λs_ H=>m19 s_.1 s_.2.1 s_.2.2.1 s_.2.2.2 H) ((none,0,0,0):zW×Nat×Nat×Int) GE i6 sk ?_;rintro⟨lB,lN,lC,s15⟩ H2 i8;have h:=i7 lB lN lC s15 H2 i8;refine ki [(1,vs k g i),(2,vp (pa R)),(5,vs lB lN lC),(14,vi xN),(15,vi s15)]<|ar 5<|gi 1 [] [(16,.bool (decide (s15< (xN:Int))))]<|gv<|jn h (λc9 h=>?_) (λc9 h=>?_)
 ·refine aH 16 (zX c9)<|kT<|gv<|k5 1<|ar 6<|gi 2 [16] [(6,vi s15)]<|ar 7<|have⟨ag,q11,h⟩:=h;hV 18 115 q11 [] ?_;obtain⟨ae,rfl,hb⟩:=h;refine fd 2 [18] [(20,Vq ae)]<|have⟨s,o,q,q12,h⟩:=hb;hV 21 182 q12 [20]<|fd 1 [] [(22,vi s15)] ?_;obtain⟨e,rfl,q13,hc⟩:=h;refine ww (some 23) 182 188 72 e o q .i64 s15 FL q13.1 q13.2 [21,22] [(23,Vq (e.add (toNat s15*72)))]<|gi 1 [23] [(7,Vq (e.add (toNat s15*72)))]<|ar 8<|fd 3 [] [(26,Vq ((e.add (toNat s15*72)).add 7))]<|have⟨r,q14,h⟩:=hc;hV 27 3 q14 [26]<|fd 2 [27] [(29,.bool (decide (r>0)))]<|jn h (λc15 h=>?_) (λc15 h=>?_)
  ·refine kc 29 (zX c15)<|fd 4 [] [(33,.bool ((g:Int)==0))]<|jn h (λc17 h=>?_) (λc17 h=>?_)
   ·refine kc 33 (zK c17)<|gi 9 [7,29,33] [(42,VT)]<|l7 42<|k4 9<|fd 2 [5,6,42] [(43,vs lB lN lC),(44,vi s15)]<|l1 (some 45) (λR=>vs (pa R) 1 1) (.cells #[vi s15] 3) ?_;intro ac H3 e19 e20;replace h:=h ac H3 e19 e20;refine im [44] [(45,vs (pa ac) 1 1)]<|xl (some 46) (eM #[28,28] 28 #[vs lB lN lC,vs (pa ac) 1 1]) _ Et (cT (T:=3) (sz:=1) (bytes:=8) (zero:=(vi 0:Value)) EW EW rfl (show prog.info? 3=some t3 from GE) GE GE GG GE (by first | exact h | (simpa only[Value.cells,EI]using h))) ?_;clear h;rintro _ H4 ⟨ap,z,rfl,h⟩;exact im [43,45] [(46,vs ap (lN+1) z)]<|fd 1 [46] [(5,vs ap (lN+1) z)]<|zq<|aD<|aE<|k4 10<|gi 2 [15] [(15,vi (zY (s15+1)))]<|aQ ((ap,(lN+1),z,(zY (s15+1))):zW×Nat×Nat×Int) sk h
   refine kc 33 (zJ c17)<|fd 5 [7] [(34,vs k g i),(38,Vq (e.add (toNat s15*72)))]<|have⟨aa,q21,h⟩:=h;hV 39 3 q21 [38]<|l5 40 [34,39] h λu H5 h=>gi 2 [29,33,40] [(42,.bool u)]<|jn h (λc22 h=>?_) (λc22 h=>?_)
   ·refine aH 42 c22<|k4 9<|fd 2 [5,6,42] [(43,vs lB lN lC),(44,vi s15)]<|l1 (some 45) (λR=>vs (pa R) 1 1) (.cells #[vi s15] 3) ?_;intro ab H6 e24 e25;replace h:=h ab H6 e24 e25;refine im [44] [(45,vs (pa ab) 1 1)]<|xl (some 46) (eM #[28,28] 28 #[vs lB lN lC,vs (pa ab) 1 1]) _ Et (cT (T:=3) (sz:=1) (bytes:=8) (zero:=(vi 0:Value)) EW EW rfl (show prog.info? 3=some t3 from GE) GE GE GG GE (by first | exact h | (simpa only[Value.cells,EI]using h))) ?_;clear h;rintro _ H7 ⟨p,j,rfl,h⟩;exact im [43,45] [(46,vs p (lN+1) j)]<|fd 1 [46] [(5,vs p (lN+1) j)]<|zq<|aD<|aE<|k4 10<|gi 2 [15] [(15,vi (zY (s15+1)))]<|aQ ((p,(lN+1),j,(zY (s15+1))):zW×Nat×Nat×Int) sk h
   exact aG 42 (zZ c22)<|Bn<|aD<|aE<|k4 10<|gi 2 [6,15,42] [(15,vi (zY (s15+1)))]<|aQ ((lB,lN,lC,(zY (s15+1))):zW×Nat×Nat×Int) sk h
  exact kc 29 (zQ c15)<|gi 13 [7,29] [(42,VF)]<|pN 42<|Bn<|aD<|aE<|k4 10<|gi 2 [6,15,42] [(15,vi (zY (s15+1)))]<|aQ ((lB,lN,lC,(zY (s15+1))):zW×Nat×Nat×Int) sk h
 refine aG 16 (zQ c9)<|zj 0<|aA<|aA<|aJ<|aE<|ar 11<|nb 2 [(5,vs lB lN lC),(48,vs lB lN lC),(49,.func (.func 120) #[] #[vp (pa R)])]<|Bs (some 50) h ?_;clear h;exact λv_2 H8 h=>im [48,49] []<|ue<|ar 12<|hH 2 [4] [vs lB lN lC] hQ h
def gZ.K0:=GC f68
def gZ.pt(m:zW):GJ:=λH R=>
 fY m (
 R (vi 0) H) (λmA=>
 ∃x,hat H (mA.add 2)=some (vi x)/\
 R (vi x) H)
theorem gZ.link(h:pt b H a):C b H a:=by
 refine l2 K0 9 func68 ?_;intro w0 Q hQ;unfold pt at h;refine ki [(0,vp b)]<|ar 0<|gi 1 [] []<|gv<|ar 1<|fd 1 [] [(3,vp b)] ?_;rcases b with _ | mA
 ·rw[Ev]at h;exact nx 1 [(0,vp none),(4,VT)]<|l7 4<|ar 2<|hH 1 [2] [vi 0] hQ h
 rw[El]at h;exact nx 1 [(0,Vq mA),(4,VF)]<|pN 4<|kT<|ar 3<|nb 3 [(7,Vq (mA.add 2))]<|have⟨x,q1,h⟩:=h;hV 8 3 q1 [7]<|hH 1 [2] [vi x] hQ h
def gS.K0:=GC f120
def gS.K2:=cb K0
def gS.K3:=ca K2
def gS.pt(a b:Int)(q:zW):GJ:=λH R=>
 ∃d,q=some d/\
 ∃x,hat H d=some (vp x)/\
 ∃xA,x=some xA/\
 ∃xB xN xC,hat H xA=some (vs xB xN xC)/\
 ∃f,xB=some f/\
 zw a xN/\
 ∃g,hat H ((f.add (toNat a*72)).add 7)=some (vi g)/\
 ∃u,hat H d=some (vp u)/\
 ∃j,u=some j/\
 ∃s m o,hat H j=some (vs s m o)/\
 ∃e,s=some e/\
 zw b m/\
 ∃r,hat H ((e.add (toNat b*72)).add 7)=some (vi r)/\
 cmp_Compare_int.C g r H (λv H1=> ∃p,v=vi p/\
 R (vi p) H1)
theorem gS.link{R q:Int}(h:pt R q b H a):C R q b H a:=by
 refine l2 K0 23 func120 ?_;intro w0 Q hQ;unfold pt at h;refine ki [(0,vi R),(1,vi q),(2,vp b)]<|ar 0<|gi 1 [] []<|gv ?_;obtain⟨d,rfl,x,q1,xA,rfl,xB,xN,xC,q2,f,rfl,q3,g,q4,u,q5,j,rfl,s,m,o,q6,e,rfl,q7,r,q8,ha⟩:=h;refine yY 1 (Code.ops K3) [(16,d,[vp (some xA)]),(16,xA,[vs (some f) xN xC]),(16,((f.add (toNat R*72)).add 7),[vi g]),(16,d,[vp (some j)]),(16,j,[vs (some e) m o]),(16,((e.add (toNat q*72)).add 7),[vi r])] 18 (bv 18 0) (show aP _ _ _ from⟨⟨q1,GB⟩,⟨q2,GB⟩,⟨q4,GB⟩,⟨q5,GB⟩,⟨q6,GB⟩,⟨q8,GB⟩,GB⟩)<|BS 0 (some 6) (vp (some xA)) (bv 18 1) [(0,vi R),(1,vi q),(2,vp (some d)),(6,vp (some xA))] (aZ 115 (vp (some d))) (yW 16 yZ)<|aM 1 7 (vp (some xA)) (bv 18 3) [6]<|aM 2 8 (vp (some xA)) (bv 18 7) [7]<|lb 3 9 (vs (some f) xN xC) (bv 18 15) [8] (aZ 182 (vp (some xA))) (yW 16 yX)<|aM 4 10 (vi R) (bv 18 31) [0]<|lb 5 11 (vp (some (f.add (toNat R*72)))) (bv 18 63) [9,10] (bJ 182 (vs (some f) xN xC) (vi R)) (λ_ w _ _ _=>dV (P:=prog) (t:=182) (elem:=188) (sz:=72) (a:=f) (len:=xN) (cap:=xC) (k:=.i64) (i:=R) FL Et q3.1 q3.2 w)<|aM 6 12 (vp (some ((f.add (toNat R*72)).add 7))) (bv 18 127) [11]<|lb 7 13 (vi g) (bv 18 255) [12] (aZ 3 (vp (some ((f.add (toNat R*72)).add 7)))) (yW 16 yQ)<|lb 8 14 (vp (some j)) (bv 18 511) [2] (aZ 115 (vp (some d))) (yW 16 yJ)<|aM 9 15 (vp (some j)) (bv 18 1023) [14]<|aM 10 16 (vp (some j)) (bv 18 2047) [15]<|lb 11 17 (vs (some e) m o) (bv 18 4095) [16] (aZ 182 (vp (some j))) (yW 16 yK)<|aM 12 18 (vi q) (bv 18 8191) [1]<|lb 13 19 (vp (some (e.add (toNat q*72)))) (bv 18 16383) [17,18] (bJ 182 (vs (some e) m o) (vi q)) (λ_ w _ _ _=>dV (P:=prog) (t:=182) (elem:=188) (sz:=72) (a:=e) (len:=m) (cap:=o) (k:=.i64) (i:=q) FL Et q7.1 q7.2 w)<|aM 14 20 (vp (some ((e.add (toNat q*72)).add 7))) (bv 18 32767) [19]<|lb 15 21 (vi r) (bv 18 65535) [20] (aZ 3 (vp (some ((e.add (toNat q*72)).add 7)))) (yW 16 yV)<|yq 16 (some 22) (bv 18 131071) 121 #[vi g,vi r] ha ?_;clear ha;rintro v H1 ⟨p,rfl,h⟩;refine⟨[(22,vi p)],pk,(show aP _ _ _ from⟨GB,GB,GB,GB,GB,GB,GB⟩),?_⟩;exact BS 17 (some 5) (vi p) (bv 18 262143) [(5,vi p)] (pure (.value (vi p)):Sem Next) (λ_ _ _ _ _=>rfl)<|gm [(5,vi p)] sk<|yx<|aE<|ix [5] [vi p] hQ h
def fU.K0:=GC f125
def fU.pt(m:zW)(d:Int):GJ:=λH R=>
 gh.C m d H (λv H1=> ∃x,v=vp x/\
 fY x (
 R (vi 19) H1) (λxA=>
 (aF H1 xA 0 72)/\ ∀H2,H2=aL H1 xA (List.replicate 8 (vi 0)++List.replicate 64 (vu 0):List Value) 0->
 ∃mA,m=some mA/\
 ∃b,hat H2 (mA.add 2)=some (vi b)/\
 (aF H2 (mA.add 2) 0 1)/\ ∀H3,H3=aL H2 (mA.add 2) [vi (zY (b+1))] 0->
 R (vi 0) H3))
theorem fU.link{H:zV}(h:pt b d H a):C b d H a:=by
 refine l2 K0 21 func125 ?_;intro w0 Q hQ;unfold pt zY at h;refine ki [(0,vp b),(1,vi d)]<|ar 0<|gi 1 [] []<|ar 1<|fd 2 [1] [(6,vp b),(7,vi d)]<|l5 8 [6,7] h λx H1 h=>gi 1 [8] [(5,vp x)]<|gv<|ar 2<|fd 1 [] [(9,vp x)] ?_;rcases x with _ | xA
 ·rw[Ev]at h;exact gi 1 [5,9] [(5,vp none),(10,VT)]<|l7 10<|ar 3<|hH 1 [4] [vi 19] hQ h
 rw[El]at h;refine gi 1 [5,9] [(5,Vq xA),(10,VF)]<|pN 10<|kT<|ar 4<|fd 3 [5,10] [(12,.agg (List.replicate 8 (vi 0)++List.replicate 64 (vu 0):List Value).toArray),(13,Vq xA)] ?_;obtain⟨q2,h⟩:=h;refine pZ none (jR 188 (Vq xA) (.agg (List.replicate 8 (vi 0)++List.replicate 64 (vu 0):List Value).toArray)) (λHz=>Hz=aL H1 xA (List.replicate 8 (vi 0)++List.replicate 64 (vu 0):List Value) 0) Et (by intro w hw;obtain⟨w1,g1,g2,g3⟩:=ji (P:=prog) (H:=H1) (t:=188) (a:=xA) (v:=(.agg (List.replicate 8 (vi 0)++List.replicate 64 (vu 0):List Value).toArray)) (List.replicate 8 (vi 0)++List.replicate 64 (vu 0):List Value) 72 GE GE Et GE q2 w hw;exact⟨w1,g1,g2,g3⟩) ?_;refine λH2 e1=>have h:=h H2 e1;⟨[(0,vp b)],pk,?_⟩;refine ue<|ar 5<|nb 1 [(14,vp b)] ?_;obtain⟨mA,rfl,ha⟩:=h;refine nb 2 [(14,Vq mA),(16,Vq (mA.add 2))]<|have⟨m,q3,h⟩:=ha;hV 17 3 q3 [16]<|nb 3 [(18,vi (zY (m+1))),(20,Vq (mA.add 2))]<|have⟨q5,h⟩:=h;fj 3 (vi (zY (m+1))) q5<|λH3 e4=>have h:=h H3 e4;⟨[],pk,?_⟩;exact ue<|ar 6<|hH 1 [4] [vi 0] hQ h
namespace eW
def K0:=GC f70
def K2:=cb K0
def K8:=cb K2
def K9:=ca K8
def BE:=ca K9
def Bj:=cb BE
def Bt:=cb Bj
def Bu:=ca Bt
def BR:=ca Bu
def B4:=cb BR
def B6:=ca B4
def C1:=cb B6
def CO:=ca C1
def B8:=ca CO
end eW
def eW.pt(s e:zW)(b d:Nat):GJ:=λH R=>
 fY s (
 R (.tuple #[]) H) (λsA=>
 ∃(m:zv) (m11:Int->zV->Nat),m 0 H/\ ∀s9 H1,m s9 H1->
 if s9<5 then(
 ∃(j:zv) (m28:Int->zV->Nat),j 0 H1/\ ∀g H2,j g H2->
 if g< (b:Int)then(
 ∃f,e=some f/\
 zw g b/\
 ∃x,hat H2 (f.add (toNat g*1))=some (vi x)/\
 if x=s9 then(
 zw s9 5/\
 (aF H2 ((sA.add 1).add (toNat s9*4)) 0 4)/\ ∀H3,H3=aL H2 ((sA.add 1).add (toNat s9*4)) [vi 0,vi 0,vi 0,vi 0] 0->
 (j (zY (g+1)) H3/\m28 (zY (g+1)) H3<m28 g H2))
 else
 (j (zY (g+1)) H2/\m28 (zY (g+1)) H2<m28 g H2))
 else
 if(b:Int)=0 then(
 zw s9 5/\
 (aF H2 ((sA.add 1).add (toNat s9*4)) 0 4)/\ ∀H4,H4=aL H2 ((sA.add 1).add (toNat s9*4)) [vi 0,vi 0,vi 0,vi 0] 0->
 (m (zY (s9+1)) H4/\m11 (zY (s9+1)) H4<m11 s9 H1))
 else
 (m (zY (s9+1)) H2/\m11 (zY (s9+1)) H2<m11 s9 H1))
 else
 R (.tuple #[]) H1)
theorem eW.link(h:pt b k g i H a):C b k g i H a:=by
 refine l2 K0 38 func70 ?_;intro w0 Q hQ;unfold pt zY at h;refine ki [(0,vp b),(1,vs k g i)]<|gv<|ar 0<|fd 1 [] [(7,vp b)] ?_;rcases b with _ | sA
 ·rw[Ev]at h;exact gi 1 [0,7] [(0,vp none),(8,VT)]<|l7 8<|ix [] [] hQ h
 rw[El]at h;refine gi 1 [0,7] [(0,Vq sA),(8,VF)]<|pN 8<|kT<|ar 1<|gi 1 [8] [(9,vi 0)]<|k5 0<|have⟨m,m11,i1,i2⟩:=h;bI (x:=BE) (σ:=Int) (λs_=> [(0,Vq sA),(1,vs k g i),(9,vi s_)]) (λs_ H=>m s_ H) (λs_ H=>m11 s_ H) (0:Int) GE i1 sk ?_;rintro s9 H1 i3;have h:=i2 s9 H1 i3;refine ki [(0,Vq sA),(1,vs k g i),(9,vi s9)]<|ar 2<|gi 1 [] [(10,.bool (decide (s9<5)))]<|gv<|jn h (λc4 h=>?_) (λc4 h=>?_)
 ·refine aH 10 (zX c4)<|kT<|gv<|k5 1<|ar 3<|gi 2 [10] [(4,vi s9)]<|gv<|ar 4<|gi 3 [] [(12,vs k g i),(13,vi g),(14,vi 0)]<|k5 2<|have⟨j,m28,i6,i7⟩:=h;bI (x:=B8) (σ:=Int) (λs_=> [(0,Vq sA),(1,vs k g i),(4,vi s9),(9,vi s9),(12,vs k g i),(13,vi g),(14,vi s_)]) (λs_ H=>j s_ H) (λs_ H=>m28 s_ H) (0:Int) GE i6 sk ?_;rintro d H2 i8;have h:=i7 d H2 i8;refine ki [(0,Vq sA),(1,vs k g i),(4,vi s9),(9,vi s9),(12,vs k g i),(13,vi g),(14,vi d)]<|ar 5<|gi 1 [] [(15,.bool (decide (d< (g:Int))))]<|gv<|jn h (λc9 h=>?_) (λc9 h=>?_)
  ·refine aH 15 (zX c9)<|kT<|gv<|k5 3<|ar 6<|p0 [15] [] ?_;obtain⟨f,rfl,q11,ha⟩:=h;refine ww (some 16) 28 3 1 f g i .i64 d EW q11.1 q11.2 [1,12] [(1,vs (some f) g i),(12,vs (some f) g i),(16,Vq (f.add (toNat d*1)))]<|have⟨x,q12,h⟩:=ha;hV 17 3 q12 [16]<|gi 1 [17] [(6,vi x)]<|ar 7<|gi 3 [6] [(20,.bool (x==s9))]<|jn h (λc13 h=>?_) (λc13 h=>?_)
   ·exact aH 20 (zK c13)<|k4 8<|fd 5 [20] [(22,vi s9),(23,.agg #[vi 0,vi 0,vi 0,vi 0]),(25,Vq (sA.add 1))]<|have⟨q15,h⟩:=h;wd 26 (bJ 117 (Vq (sA.add 1)) (vi s9)) (Vq ((sA.add 1).add (toNat s9*4))) (λw _=>cG (P:=prog) (t:=117) (elem:=116) (sz:=4) (n:=5) (a:=(sA.add 1)) (k:=.i64) (i:=s9) FU Et q15.1 q15.2 w) [22,25]<|have⟨q17,h⟩:=h;bF 116 [vi 0,vi 0,vi 0,vi 0] q17<|λH3 e16=>have h:=h H3 e16;im [23,26] []<|zq<|aD<|aE<|k4 9<|gi 2 [14] [(14,vi (zY (d+1)))]<|aQ ((zY (d+1)):Int) sk h
   exact aG 20 (zJ c13)<|Bn<|aD<|aE<|k4 9<|gi 2 [14,20] [(14,vi (zY (d+1)))]<|aQ ((zY (d+1)):Int) sk h
  refine aG 15 (zQ c9)<|zj 2<|aA<|aA<|aJ<|aE<|ar 10<|gi 3 [12,13,14,15] [(30,.bool ((g:Int)==0))]<|jn h (λc18 h=>?_) (λc18 h=>?_)
  ·exact aH 30 (zK c18)<|k4 11<|fd 5 [4,30] [(32,vi s9),(33,.agg #[vi 0,vi 0,vi 0,vi 0]),(35,Vq (sA.add 1))]<|have⟨q20,h⟩:=h;wd 36 (bJ 117 (Vq (sA.add 1)) (vi s9)) (Vq ((sA.add 1).add (toNat s9*4))) (λw _=>cG (P:=prog) (t:=117) (elem:=116) (sz:=4) (n:=5) (a:=(sA.add 1)) (k:=.i64) (i:=s9) FU Et q20.1 q20.2 w) [32,35]<|have⟨q22,h⟩:=h;bF 116 [vi 0,vi 0,vi 0,vi 0] q22<|λH4 e21=>have h:=h H4 e21;im [33,36] []<|zq<|aD<|aE<|k4 12<|gi 2 [9] [(9,vi (zY (s9+1)))]<|aQ ((zY (s9+1)):Int) sk h
  exact aG 30 (zJ c18)<|Bn<|aD<|aE<|k4 12<|gi 2 [4,9,30] [(9,vi (zY (s9+1)))]<|aQ ((zY (s9+1)):Int) sk h
 exact aG 10 (zQ c4)<|zj 0<|aA<|aA<|aJ<|jD (fn:=f70) [] hQ (show bG _ _ _ [] _ from .nil) h
namespace fo
def K0:=GC f73
def K2:=cb K0
def K4:=cb K2
def Cq:=ca K4
def Bt:=cb Cq
def BF:=cb Bt
def Bu:=ca BF
end fo
def fo.pt(s:zW)(d:Int):GJ:=λH R=>
 eQ.C s H (λv H1=> ∃x,v=.bool x/\
 if x=true then(
 R (vi 19) H1)
 else
 ∃sA,s=some sA/\
 ∃ag,hat H1 sA=some (vp ag)/\
 bX.C ag d H1 (λak H2=> ∃r p ab j f g e rb,ak=.tuple #[.agg #[vi r,vi p,vi ab,vi j,vi f,vi g,vi e],.bool rb]/\
 ∀b H3,b=H2.size->H3=H2.push (.cells GL 127)->
 (aF H3 (ad b) 0 7)/\ ∀H4,H4=aL H3 (ad b) [vi r,vi p,vi ab,vi j,vi f,vi g,vi e] 0->
 if rb=true then(
 ∃o,hat H4 (ad b)=some (vi o)/\
 ∃y,hat H4 ((ad b).add 1)=some (vi y)/\
 zw o 5/\
 zw y 4/\
 ∃u,hat H4 (((sA.add 1).add (toNat o*4)).add (toNat y*1))=some (vi u)/\
 if u=(zY (d+1))then(
 ∃m,hat H4 (ad b)=some (vi m)/\
 ∃q,hat H4 ((ad b).add 1)=some (vi q)/\
 zw m 5/\
 zw q 4/\
 (aF H4 (((sA.add 1).add (toNat m*4)).add (toNat q*1)) 0 1)/\ ∀H5,H5=aL H4 (((sA.add 1).add (toNat m*4)).add (toNat q*1)) [vi 0] 0->
 ∃af,hat H5 sA=some (vp af)/\
 fU.C af d H5 (λal H6=> ∃ah,al=vi ah/\
 R (vi ah) H6))
 else
 ∃z,hat H4 sA=some (vp z)/\
 fU.C z d H4 (λaj H7=> ∃ac,aj=vi ac/\
 R (vi ac) H7))
 else
 ∃aa,hat H4 sA=some (vp aa)/\
 fU.C aa d H4 (λai H8=> ∃ae,ai=vi ae/\
 R (vi ae) H8)))
theorem fo.link(h:pt b d H a):C b d H a:=by
 refine l2 K0 49 func73 ?_;intro w0 Q hQ;unfold pt zY at h;refine ki [(0,vp b),(1,vi d)]<|ar 0<|gi 1 [] []<|gv<|ar 1<|fd 1 [] [(7,vp b)]<|l5 8 [7] h λx H1 h=>ue<|jn h (λc1 h=>?_) (λc1 h=>?_)
 ·exact aH 8 c1<|ar 2<|hH 1 [4] [vi 19] hQ h
 refine aG 8 (zZ c1)<|kT<|gv<|ar 3<|fd 1 [8] [(10,vp b)] ?_;obtain⟨sA,rfl,ha⟩:=h;refine fd 2 [0,10] [(0,Vq sA),(12,Vq sA)]<|have⟨ag,q3,h⟩:=ha;hV 13 115 q3 [12]<|fd 1 [] [(14,vi d)]<|B7 15 [13,14] h λr p ab j f g e rb H2 h=>fd 3 [15] [(16,.agg #[vi r,vi p,vi ab,vi j,vi f,vi g,vi e]),(17,.bool rb)]<|l1 (some 5) (λs=>vp (pa s)) (.cells GL 127)<|λs H3 e4 e5=>have h:=h s H3 e4 e5;im [] [(5,vp (pa s))]<|have⟨q7,h⟩:=h;bF 127 [vi r,vi p,vi ab,vi j,vi f,vi g,vi e] q7<|λH4 e6=>have h:=h H4 e6;im [16] []<|gi 1 [17] [(6,.bool rb)]<|gv<|mO 4<|hX 18 (.bool rb) [6]<|hX 19 (.bool rb) [18]<|jn h (λc8 h=>?_) (λc8 h=>?_)
 ·refine Bd 19 c8<|hX 20 (Vq sA) []<|hX 21 (vp (pa s)) []<|have⟨o,q10,h⟩:=h;lw (some 22) 3 q10 [21] [(22,vi o)]<|hX 23 (Vq ((ad s).add 1)) []<|have⟨y,q11,h⟩:=h;lw (some 24) 3 q11 [23] [(24,vi y)]<|hX 25 (Vq sA) [20]<|hX 26 (Vq (sA.add 1)) [25]<|have⟨q12,h⟩:=h;Bc (some 27) (bJ 117 (vp (some (sA.add 1))) (vi o)) (vp (some ((sA.add 1).add (toNat o*4)))) Et (λw _=>cG (P:=prog) (t:=117) (elem:=116) (sz:=4) (n:=5) (a:=(sA.add 1)) (k:=.i64) (i:=o) FU Et q12.1 q12.2 w) [(0,vp (some sA)),(1,vi d),(5,vp (pa s)),(19,.bool true),(24,vi y),(27,vp (some ((sA.add 1).add (toNat o*4))))] pk<|have⟨q13,h⟩:=h;Bc (some 28) (bJ 116 (vp (some ((sA.add 1).add (toNat o*4)))) (vi y)) (vp (some (((sA.add 1).add (toNat o*4)).add (toNat y*1)))) Et (λw _=>cG (P:=prog) (t:=116) (elem:=3) (sz:=1) (n:=4) (a:=((sA.add 1).add (toNat o*4))) (k:=.i64) (i:=y) FP Et q13.1 q13.2 w) [(0,vp (some sA)),(1,vi d),(5,vp (pa s)),(19,.bool true),(28,vp (some (((sA.add 1).add (toNat o*4)).add (toNat y*1))))] pk<|have⟨u,q14,h⟩:=h;CM (some 29) 3 q14 [(0,Vq sA),(1,vi d),(5,vp (pa s)),(19,VT),(29,vi u)]<|hX 30 (vi d) []<|hX 31 (vi (zY (d+1))) [30]<|hX 32 (.bool (u==(zY (d+1)))) [29,31]<|hX 33 (.bool (u==(zY (d+1)))) [19,32]<|iQ [(0,Vq sA),(1,vi d),(5,vp (pa s)),(33,.bool (u==(zY (d+1))))] sk<|Bk<|jn h (λc15 h=>?_) (λc15 h=>?_)
  ·refine aH 33 (zK c15)<|have⟨m,q17,q,q18,q19,q20,h⟩:=h;yY 5 (Code.ops Bu) [(9,(ad s),[vi m]),(9,((ad s).add 1),[vi q])] 10 (bv 10 0) (show aP _ _ _ from⟨⟨q17,GB⟩,⟨q18,GB⟩,GB⟩)<|Bp 0 (some 34) (vp (some sA)) (bv 10 1) [(0,vp (some sA)),(1,vi d),(5,vp (pa s)),(34,vp (some sA))]<|aM 1 35 (vp (pa s)) (bv 10 3) []<|lb 2 36 (vi m) (bv 10 7) [35] (aZ 3 (vp (pa s))) (yW 9 yZ)<|aM 3 37 (vp (some ((ad s).add 1))) (bv 10 15) [5]<|lb 4 38 (vi q) (bv 10 31) [37] (aZ 3 (vp (some ((ad s).add 1)))) (yW 9 yX)<|aM 5 39 (vp (some sA)) (bv 10 63) [34]<|aM 6 40 (vp (some (sA.add 1))) (bv 10 127) [39]<|lb 7 41 (vp (some ((sA.add 1).add (toNat m*4)))) (bv 10 255) [36,40] (bJ 117 (vp (some (sA.add 1))) (vi m)) (λ_ w _ _ _=>cG (P:=prog) (t:=117) (elem:=116) (sz:=4) (n:=5) (a:=(sA.add 1)) (k:=.i64) (i:=m) FU Et q19.1 q19.2 w)<|lb 8 42 (vp (some (((sA.add 1).add (toNat m*4)).add (toNat q*1)))) (bv 10 511) [38,41] (bJ 116 (vp (some ((sA.add 1).add (toNat m*4)))) (vi q)) (λ_ w _ _ _=>cG (P:=prog) (t:=116) (elem:=3) (sz:=1) (n:=4) (a:=((sA.add 1).add (toNat m*4))) (k:=.i64) (i:=q) FP Et q20.1 q20.2 w)<|have⟨q22,h⟩:=h;gR 9 none (bv 10 1023) (jR 3 (Vq (((sA.add 1).add (toNat m*4)).add (toNat q*1))) (vi 0)) (λHz=>Hz=aL H4 (((sA.add 1).add (toNat m*4)).add (toNat q*1)) [vi 0] 0) GE Et (ji [vi 0] 1 GE GE Et GE q22) GE<|λH5 e21=>have h:=h H5 e21;⟨[(0,Vq sA),(1,vi d)],pk,(show aP _ _ _ from⟨GB,GB,GB⟩),?_⟩;exact gm [(0,Vq sA),(1,vi d)] sk<|yx<|aE<|ar 6<|nb 3 [(1,vi d),(45,Vq sA)]<|have⟨af,q23,h⟩:=h;hV 46 115 q23 [45]<|fd 1 [1] [(47,vi d)]<|BD 48 (λah=>[(48,vi ah)]) h λah H6 h=>hH 1 [4] [vi ah] hQ h
  exact aG 33 (zJ c15)<|kT<|ar 6<|nb 3 [(1,vi d),(45,Vq sA)]<|have⟨z,q24,h⟩:=h;hV 46 115 q24 [45]<|fd 1 [1] [(47,vi d)]<|BD 48 (λac=>[(48,vi ac)]) h λac H7 h=>hH 1 [4] [vi ac] hQ h
 exact Bd 19 (zZ c8)<|hX 20 (undef) []<|hX 21 (undef) []<|hX 22 (undef) [21]<|hX 23 (undef) []<|hX 24 (undef) [23]<|hX 25 (undef) [20]<|hX 26 (undef) [25]<|hX 27 (undef) [22,26]<|hX 28 (undef) [24,27]<|hX 29 (undef) [28]<|hX 30 (undef) []<|hX 31 (undef) [30]<|hX 32 (undef) [29,31]<|hX 33 VF [19,32]<|iQ [(0,Vq sA),(1,vi d),(5,vp (pa s)),(33,VF)] sk<|Bk<|pN 33<|kT<|ar 6<|nb 3 [(1,vi d),(45,Vq sA)]<|have⟨aa,q25,h⟩:=h;hV 46 115 q25 [45]<|fd 1 [1] [(47,vi d)]<|BD 48 (λae=>[(48,vi ae)]) h λae H8 h=>hH 1 [4] [vi ae] hQ h
def cmp_Compare_int.K0:=GC f121
def cmp_Compare_int.pt(x y:Int):GJ:=λH R=>
 cmp_isNaN_int.C x H (λv H1=> ∃b,v=.bool b/\
 cmp_isNaN_int.C y H1 (λd H2=> ∃a,d=.bool a/\
 if b=true then(
 if a=true then(
 R (vi 0) H2)
 else
 R (vi (-1)) H2)
 else
 if a=true then(
 R (vi 1) H2)
 else
 if x<y then(
 R (vi (-1)) H2)
 else
 if x>y then(
 R (vi 1) H2)
 else
 R (vi 0) H2))
theorem cmp_Compare_int.link(h:pt d j H a):C d j H a:=by
 refine l2 K0 20 func121 ?_;intro w0 Q hQ;unfold pt at h;refine ki [(0,vi d),(1,vi j)]<|ar 0<|gi 1 [] []<|ar 1<|fd 1 [] [(7,vi d)]<|l5 8 [7] h λb H1 h=>gi 1 [8] [(5,.bool b)]<|ar 2<|fd 1 [] [(9,vi j)]<|l5 10 [9] h λR H2 h=>gi 1 [10] [(6,.bool R)]<|gv<|ar 3<|gi 1 [5] [(11,.bool b)]<|jn h (λc1 h=>?_) (λc1 h=>?_)
 ·refine aH 11 c1<|gv<|ar 4<|nx 1 [(12,.bool R)]<|jn h (λc3 h=>?_) (λc3 h=>?_)
  ·exact aH 12 c3<|ar 5<|hH 1 [4] [vi 0] hQ h
  exact aG 12 (zZ c3)<|kT<|ar 6<|hH 1 [4] [vi (-1)] hQ h
 refine aG 11 (zZ c1)<|kT<|gv<|ar 7<|gi 1 [6,11] [(13,.bool R)]<|jn h (λc5 h=>?_) (λc5 h=>?_)
 ·exact aH 13 c5<|ar 8<|hH 1 [4] [vi 1] hQ h
 refine aG 13 (zZ c5)<|kT<|gv<|ar 9<|gi 3 [13] [(16,.bool (decide (d<j)))]<|jn h (λc7 h=>?_) (λc7 h=>?_)
 ·exact aH 16 (zX c7)<|ar 10<|hH 1 [4] [vi (-1)] hQ h
 refine aG 16 (zQ c7)<|kT<|gv<|ar 11<|nx 3 [(19,.bool (decide (d>j)))]<|jn h (λc9 h=>?_) (λc9 h=>?_)
 ·exact aH 19 (zX c9)<|ar 12<|hH 1 [4] [vi 1] hQ h
 exact aG 19 (zQ c9)<|kT<|ar 13<|hH 1 [4] [vi 0] hQ h
def cmp_isNaN_int.K0:=GC f154
def cmp_isNaN_int.pt(x:Int):GJ:=λH R=>
 R (.bool (x !=x)) H
theorem cmp_isNaN_int.link(h:pt d H a):C d H a:=by
 refine l2 K0 6 func154 ?_;intro w0 Q hQ;unfold pt at h;exact ki [(0,vi d)]<|ar 0<|gi 1 [] []<|ar 1<|hH 4 [2] [.bool (d !=d)] hQ h
def bS.K0:=GC f5
def bS.pt:GJ:=λH R=>
 ku.C 16 H (λv H1=> ∃ra rb,v=.tuple #[vp ra,vi rb]/\
 if rb=0 then(
 ∀b H2,b=H1.size->H2=H1.push (.cells #[vi 1,.int .i32 0,VF,VN,.string (ByteArray.mk #[]),VN,vi 6,.int .i32 0,VF,VN,.string (ByteArray.mk #[97]),VN] 27)->
 eR.C (some (ad b)) 2 2 H2 (λbj H3=> ∃an xC ao ag ah ai xT bc bd be,bj=.agg (DR an xC ao ag ah ai xT bc bd be).toArray/\
 ∀e H4,e=H3.size->H4=H3.push (.cells GK.toArray 27)->
 (aF H4 (ad e) 0 6)/\ ∀H5,H5=aL H4 (ad e) (DR an xC ao ag ah ai xT bc bd be) 0->
 ∃am a8 aj aa af ac bb a3 a0 ay,aI H5 (ad e) 0 (DR am a8 aj aa af ac bb a3 a0 ay)/\
 gg.C ra am a8 aj aa af ac bb a3 a0 ay H5 (λbk H6=> ∃m f,bk=.tuple #[vu m,vi f]/\
 ig.C ra m H6 (λbi H7=> ∃s a6 t i k j a7 ax au av g,bi=.tuple #[.agg (DR s a6 t i k j a7 ax au av).toArray,vi g]/\
 ∀o H8,o=H7.size->H8=H7.push (.cells GK.toArray 27)->
 (aF H8 (ad o) 0 6)/\ ∀H9,H9=aL H8 (ad o) (DR s a6 t i k j a7 ax au av) 0->
 gu.C ra m H9 (λbg bf=> ∃d a,bg=.tuple #[vu d,vi a]/\
 if f=0 then(
 if g=0 then(
 ∃ae a4 u p q r a5 ap aw aq,aI bf (ad o) 0 (DR ae a4 u p q r a5 ap aw aq)/\
 ∃al ba ak z y ab a9 a1 a2 az,aI bf (ad e) 0 (DR al ba ak z y ab a9 a1 a2 az)/\
 cR.C ae a4 u p q r a5 ap aw aq al ba ak z y ab a9 a1 a2 az bf (λbl bh=> ∃x,bl=.bool x/\
 R (.bool ((x && (a==0)) && (d==12))) bh))
 else
 R VF bf)
 else
 R VF bf)))))
 else
 R VF H1)
set_option maxRecDepth 100000 in
theorem bS.link(h:pt H a):C H a:=by
 refine l2 K0 57 func5 ?_;intro w0 Q hQ;unfold pt at h;refine ki []<|ar 0<|nx 1 []<|ar 1<|Bh 11 (λra rb=>[(11,.tuple #[vp ra,vi rb])]) h λra rb H1 h=>nx 5 [(1,vp ra),(2,vi rb)]<|gv<|ar 2<|gi 2 [2] [(15,.bool (rb !=0))]<|jn h (λc1 h=>?_) (λc1 h=>?_)
 ·refine aG 15 (Em.mpr c1)<|kT<|ar 4<|fd 2 [15] [(16,.agg (DR 1 0 false none 0 0 (ByteArray.mk #[]) none 0 0).toArray),(17,.agg (DR 6 0 false none 0 0 (ByteArray.mk #[97]) none 0 0).toArray)]<|l1 (some 18) (λb=>vs (pa b) 2 2) (.cells #[vi 1,.int .i32 0,VF,VN,.string (ByteArray.mk #[]),VN,vi 6,.int .i32 0,VF,VN,.string (ByteArray.mk #[97]),VN] 27) ?_;intro b H2 e3 e4;replace h:=h b H2 e3 e4;refine im [16,17] [(18,vs (pa b) 2 2)]<|Bs (some 19) h ?_;clear h;rintro bj H3 ⟨an,xC,ao,ag,ah,ai,xT,bc,bd,be,rfl,h⟩;refine im [18] [(19,.agg (DR an xC ao ag ah ai xT bc bd be).toArray)]<|l1 (some 3) (λb=>vp (pa b)) (.cells GK.toArray 27)<|λe H4 e5 e6=>have h:=h e H4 e5 e6;im [] [(3,vp (pa e))]<|have⟨q8,h⟩:=h;bF 27 (DR an xC ao ag ah ai xT bc bd be) q8<|λH5 e7=>have h:=h H5 e7;im [19] []<|ue<|ar 5<|fd 1 [] [(21,vp ra)] ?_;obtain⟨am,a8,aj,aa,af,ac,bb,a3,a0,ay,q9,h⟩:=h;refine na 22 27 q9 []<|vr 23 [21,22] h λm f H6 h=>gi 5 [23] [(4,vu m),(5,vi f)]<|ar 6<|fd 2 [] [(27,vp ra),(28,vu m)]<|Bs (some 29) h ?_;clear h;rintro bi H7 ⟨s,a6,t,i,k,j,a7,ax,au,av,g,rfl,h⟩;refine im [27,28] [(29,.tuple #[.agg (DR s a6 t i k j a7 ax au av).toArray,vi g])]<|fd 3 [29] [(30,.agg (DR s a6 t i k j a7 ax au av).toArray),(31,vi g)]<|l1 (some 6) (λb=>vp (pa b)) (.cells GK.toArray 27)<|λo H8 e10 e11=>have h:=h o H8 e10 e11;im [] [(6,vp (pa o))]<|have⟨q13,h⟩:=h;bF 27 (DR s a6 t i k j a7 ax au av) q13<|λH9 e12=>have h:=h H9 e12;im [30] []<|gi 1 [31] [(7,vi g)]<|ar 7<|fd 2 [1,4] [(33,vp ra),(34,vu m)]<|vr 35 [33,34] h λd R bf h=>gi 5 [35] [(8,vu d),(9,vi R)]<|ar 8<|fd 3 [5] [(40,.bool (f==0))]<|jn h (λc14 h=>?_) (λc14 h=>?_)
  ·refine kc 40 (zK c14)<|fd 4 [7,40] [(44,.bool (g==0))]<|jn h (λc16 h=>?_) (λc16 h=>?_)
   ·refine kc 44 (zK c16)<|have⟨ae,a4,u,p,q,r,a5,ap,aw,aq,q18,h⟩:=h;na 45 27 q18 [6]<|have⟨al,ba,ak,z,y,ab,a9,a1,a2,az,q19,h⟩:=h;na 46 27 q19 [3]<|l5 47 [45,46] h λx bh h=>fd 2 [44,47] [(49,.bool x)]<|gU [(0,.bool ((x && (R==0)) && (d==12)))] ?_ ?_
    ·exact aE<|ix [0] [.bool ((x && (R==0)) && (d==12))] hQ h
    refine λhk=>BM [(8,vu d),(9,vi R),(49,.bool x)] ?_;by_cases c20:x=true
    ·have b21:x=true:=c20;refine bW [(8,vu d),(9,vi R),(49,VT)] (by rw[b21])<|fd 4 [9,49] [(53,.bool (R==0))] ?_;by_cases c22:R=0
     ·have b23:(R==0)=true:=zK c22;exact kc 53 b23<|nb 4 [(0,.bool (d==12))]<|zq<|cW [(0,.bool ((x && (R==0)) && (d==12)))] (by simp only[b21,b23,BL])<|hk
     have b23:(R==0)=false:=zJ c22;exact kc 53 b23<|nb 4 [(0,VF)]<|zq<|cW [(0,.bool ((x && (R==0)) && (d==12)))] (by simp only[b21,b23,BL])<|hk
    have b21:x=false:=zZ c20;exact bW [(8,vu d),(9,vi R),(49,VF)] (by rw[b21])<|nb 8 [(0,VF)]<|zq<|cW [(0,.bool ((x && (R==0)) && (d==12)))] (by simp only[b21,BL])<|hk
   exact kc 44 (zJ c16)<|hH 13 [0] [VF] hQ h
  exact kc 40 (zJ c14)<|hH 17 [0] [VF] hQ h
 exact aH 15 (En.mpr c1)<|ar 3<|hH 1 [0] [VF] hQ h
namespace iM
def K0:=GC f13
def K2:=cb K0
def K4:=cb K2
def Bj:=cb K4
def Bt:=cb Bj
def Co:=cb Bt
def B4:=ca Co
def CH:=cb B4
def C1:=ca CH
def CO:=ca C1
end iM
def iM.pt(hv:zW)(g p:Int)(j:zW)(b d:Nat):GJ:=λH R=>
 fY hv (
 R (vi 1) H) (λe=>
 k6.C (some e) H (λv H1=> ∃x,v=vi x/\
 iB.C (some e) g p x H1 (λao H2=> ∃ra rb,ao=.tuple #[vp ra,vi rb]/\
 if rb=0 then(
 ∃(ah:zv) (m27:Int->zV->Nat),ah 0 H2/\ ∀o H3,ah o H3->
 if o< (b:Int)then(
 ∃m,j=some m/\
 zw o b/\
 ∃ab,hat H3 (m.add (toNat o*1))=some (vp ab)/\
 fY ab (
 (ah (zY (o+1)) H3/\m27 (zY (o+1)) H3<m27 o H3)) (λq=>
 ∃ai,hat H3 q=some (vu ai)/\
 cH.C ra ai H3 (λap H4=> ∃ag,ap=vu ag/\
 (aF H4 q 0 1)/\ ∀H5,H5=aL H4 q [vu ag] 0->
 (ah (zY (o+1)) H5/\m27 (zY (o+1)) H5<m27 o H3))))
 else
 eS.C ra H3 (λ_ H6=>
 eV.C ra H6 (λ_ H7=>
 ∃xB xN xC,hat H7 (e.add 2)=some (vs xB xN xC)/\
 iC.C ra xB xN xC H7 (λam H8=> ∃s u y,am=vs s u y/\
 (aF H8 (e.add 2) 0 1)/\ ∀H9,H9=aL H8 (e.add 2) [vs s u y] 0->
 iD.C ra H9 (λ_ al=>
 ∃af ac ae,hat al (e.add 1)=some (vs af ac ae)/\
 ja.C ra af ac ae al (λan aj=> ∃r z aa,an=vs r z aa/\
 (aF aj (e.add 1) 0 1)/\ ∀ak,ak=aL aj (e.add 1) [vs r z aa] 0->
 eI.CD ra ak (λaq=>
 R (vi 0) aq)))))))
 else
 R (vi rb) H2)))
theorem iM.link(h:pt b d j k g i H a):C b d j k g i H a:=by
 refine l2 K0 68 func13 ?_;intro w0 Q hQ;unfold pt zY at h;refine ki [(0,vp b),(1,vi d),(2,vi j),(3,vs k g i)]<|ar 0<|gi 1 [] []<|gv<|ar 1<|fd 1 [] [(13,vp b)] ?_;rcases b with _ | e
 ·rw[Ev]at h;exact gi 1 [0,13] [(0,vp none),(14,VT)]<|l7 14<|ar 2<|hH 1 [8] [vi 1] hQ h
 rw[El]at h;refine gi 1 [0,13] [(0,Vq e),(14,VF)]<|pN 14<|kT<|ar 3<|fd 4 [1,2,14] [(16,Vq e),(17,vi d),(18,vi j),(19,Vq e)]<|l5 20 [19] h λx H1 h=>vr 21 [16,17,18,20] h λra rb H2 h=>gi 5 [21] [(9,vp ra),(10,vi rb)]<|gv<|ar 4<|gi 2 [] [(25,.bool (rb !=0))]<|jn h (λc1 h=>?_) (λc1 h=>?_)
 ·refine aG 25 (Em.mpr c1)<|kT<|ar 6<|fd 1 [10,25] [(27,vp ra)]<|zm none 32 #[vp ra] Et [(0,Vq e),(3,vs k g i),(9,vp ra)] pk<|ue<|gv<|ar 7<|nx 3 [(0,Vq e),(9,vp ra),(28,vs k g i),(29,vi g),(30,vi 0)]<|k5 0<|have⟨ah,m27,i3,i4⟩:=h;bI (x:=CO) (σ:=Int) (λs_=> [(0,Vq e),(9,vp ra),(28,vs k g i),(29,vi g),(30,vi s_)]) (λs_ H=>ah s_ H) (λs_ H=>m27 s_ H) (0:Int) GE i3 sk ?_;rintro o H3 i5;have h:=i4 o H3 i5;refine ki [(0,Vq e),(9,vp ra),(28,vs k g i),(29,vi g),(30,vi o)]<|ar 8<|gi 1 [] [(31,.bool (decide (o< (g:Int))))]<|gv<|jn h (λc6 h=>?_) (λc6 h=>?_)
  ·refine aH 31 (zX c6)<|kT<|gv<|k5 1<|ar 9<|p0 [31] [] ?_;obtain⟨m,rfl,q8,ha⟩:=h;refine ww (some 32) 69 45 1 m g i .i64 o underlying69 q8.1 q8.2 [28] [(28,vs (some m) g i),(32,Vq (m.add (toNat o*1)))]<|have⟨ab,q9,h⟩:=ha;hV 33 45 q9 [32]<|gi 1 [33] [(12,vp ab)]<|ar 10<|fd 1 [] [(34,vp ab)] ?_;rcases ab with _ | q
   ·rw[Ev]at h;exact gi 1 [12,34] [(12,vp none),(35,VF)]<|pN 35<|Bn<|aD<|aE<|k4 12<|gi 2 [12,30,35] [(30,vi (zY (o+1)))]<|aQ ((zY (o+1)):Int) sk h
   rw[El]at h;exact gi 1 [12,34] [(12,Vq q),(35,VT)]<|l7 35<|k4 11<|fd 4 [12,35] [(36,Vq q),(37,vp ra),(39,Vq q)]<|have⟨ai,q10,h⟩:=h;hV 40 37 q10 [39]<|l5 41 [37,40] h λag H4 h=>fd 1 [36] [(42,Vq q)]<|have⟨q12,h⟩:=h;fj 37 (vu ag) q12<|λH5 e11=>have h:=h H5 e11;im [41,42] []<|zq<|aD<|aE<|k4 12<|gi 2 [30] [(30,vi (zY (o+1)))]<|aQ ((zY (o+1)):Int) sk h
  refine aG 31 (zQ c6)<|zj 0<|aA<|aA<|aJ<|aE<|ar 13<|fd 1 [28,29,30,31] [(44,vp ra)]<|Bs (some 45) h ?_;clear h;intro v_4 H6 h;refine im [44] []<|ue<|ar 14<|fd 1 [] [(46,vp ra)]<|Bs (some 47) h ?_;clear h;refine λv_5 H7 h=>im [46] []<|ue<|ar 15<|fd 5 [] [(48,Vq e),(49,vp ra),(52,Vq (e.add 2))]<|have⟨xB,xN,xC,q13,h⟩:=h;hV 53 54 q13 [52]<|BO 54 [49,53] h λs u y H8 h=>fd 2 [48] [(56,Vq (e.add 2))]<|have⟨q15,h⟩:=h;fj 54 (vs s u y) q15 ?_;intro H9 e14;replace h:=h H9 e14;refine im [54,56] []<|ue<|ar 16<|fd 1 [] [(57,vp ra)]<|Bs (some 58) h ?_;clear h;refine λv_7 al h=>im [57] []<|ue<|ar 17<|nb 5 [(59,Vq e),(60,vp ra),(63,Vq (e.add 1))]<|have⟨af,ac,ae,q16,h⟩:=h;hV 64 53 q16 [63]<|BO 65 [60,64] h λr z aa aj h=>fd 2 [59] [(67,Vq (e.add 1))]<|have⟨q18,h⟩:=h;fj 53 (vs r z aa) q18<|λak e17=>have h:=h ak e17;⟨[],pk,?_⟩;refine ue<|ar 18<|nx 1 [(8,vi 0)]<|zx ?_;show At _ _ _ _ _ (Q .ret);refine zn (f:=32) (args:= #[vp ra]) (enters_of func32 GE rfl) hQ (HD.mono (h) (λaq h=>?_));exact⟨[vi 0],(show bG _ _ _ [.tmp 8] _ from .tmp GE (.nil)),h⟩
 exact aH 25 (En.mpr c1)<|ar 5<|hH 2 [8] [vi rb] hQ h
def k6.K0:=GC f31
def k6.pt(hv:zW):GJ:=λH R=>
 ∃a,hv=some a/\
 ∃xB xN xC,hat H (a.add 2)=some (vs xB xN xC)/\
 R (vi (zY ((zY (Int.tdiv (xN:Int) 32))+1))) H
theorem k6.link(h:pt b H a):C b H a:=by
 refine l2 K0 10 func31 ?_;intro w0 Q hQ;unfold pt zY at h;refine ki [(0,vp b)]<|ar 0<|gi 1 [] []<|ar 1<|nb 1 [(3,vp b)] ?_;obtain⟨R,rfl,ha⟩:=h;exact nb 2 [(5,Vq (R.add 2))]<|have⟨xB,xN,xC,q1,h⟩:=ha;hV 6 54 q1 [5]<|hH 4 [2] [vi (zY ((zY (Int.tdiv (xN:Int) 32))+1))] hQ h
namespace dA
def K0:=GC f3
def K2:=cb K0
def K4:=cb K2
def Bj:=cb K4
def Bt:=cb Bj
def B6:=cb Bt
def CH:=cb B6
def CO:=cb CH
def Cx:=cb CO
def CR:=cb Cx
def Cy:=ca CR
def Dx:=cb Cy
def C8:=ca Dx
def DQ:=ca C8
end dA
def dA.pt(db dC:Int)(da:Bool)(b1:zW)(b2 b3:Nat)(dT:ByteArray)(ej:zW)(ek ei:Nat)(j:Int)(f:zW)(d e:Nat):GJ:=λH R=>
 ∀b H1,b=H.size->H1=H.push (.cells (DR db dC da b1 b2 b3 dT ej ek ei).toArray 27)->
 ∃cu xC c9 bu bz b0 xT d9 eb d7,aI H1 (ad b) 0 (DR cu xC c9 bu bz b0 xT d9 eb d7)/\
 dZ.C cu xC c9 bu bz b0 xT d9 eb d7 H1 (λv H2=> ∃x,v=.bool x/\
 if(((x || (decide (j<8))) || (decide (j>400))) || (decide ((d:Int)>20)))=true then(
 bS.C H2 (λe5 H3=> ∃ea,e5=.bool ea/\
 R (.bool ea) H3))
 else
 ku.C j H2 (λe0 H4=> ∃ra rb,e0=.tuple #[vp ra,vi rb]/\
 if rb=0 then(
 fY ra (
 R VF H4) (λg=>
 ∃bm d1 bo a6 ax a7 dt cw c5 c2,aI H4 (ad b) 0 (DR bm d1 bo a6 ax a7 dt cw c5 c2)/\
 dM.C bm d1 bo a6 ax a7 dt cw c5 c2 H4 (λex H5=> ∃am cm ai u r s cn bq br bs,ex=.agg (DR am cm ai u r s cn bq br bs).toArray/\
 ∀an H6,an=H5.size->H6=H5.push (.cells GK.toArray 27)->
 (aF H6 (ad an) 0 6)/\ ∀H7,H7=aL H6 (ad an) (DR am cm ai u r s cn bq br bs) 0->
 ∃bp dy bk ba au av dp ct c1 cz,aI H7 (ad an) 0 (DR bp dy bk ba au av dp ct c1 cz)/\
 gg.C (some g) bp dy bk ba au av dp ct c1 cz H7 (λe8 H8=> ∃b8 o,e8=.tuple #[vu b8,vi o]/\
 ∀m H9,m=H8.size->H9=H8.push (.cells #[vu 0] 37)->
 (aF H9 (ad m) 0 1)/\ ∀eh,eh=aL H9 (ad m) [vu b8] 0->
 ∃a0 dh aw ag ac ah dg cj ci cd,aI eh (ad an) 0 (DR a0 dh aw ag ac ah dg cj ci cd)/\
 ∃bi d0 bh ay bb be du c7 cr c0,aI eh (ad b) 0 (DR bi d0 bh ay bb be du c7 cr c0)/\
 cR.C a0 dh aw ag ac ah dg cj ci cd bi d0 bh ay bb be du c7 cr c0 eh (λez em=> ∃dd,ez=.bool dd/\
 if dd=true then(
 ∃bl dw bg a5 a9 az dx cy cv cq,aI em (ad b) 0 (DR bl dw bg a5 a9 az dx cy cv cq)/\
 fk.C bl dw bg a5 a9 az dx cy cv cq em (λe9 df=> ∃dc,e9=.bool dc/\
 if dc=true then(
 if o=0 then(
 ∃(d8:zv) (m49:Int->zV->Nat),d8 0 df/\ ∀i H13,d8 i H13->
 if i<=(d:Int)then(
 ∃ee,hat H13 (ad m)=some (vu ee)/\
 ig.C (some g) ee H13 (λey en=> ∃aq dk ap aa z y dl cl b6 ch q,ey=.tuple #[.agg (DR aq dk ap aa z y dl cl b6 ch).toArray,vi q]/\
 ∀al H15,al=en.size->H15=en.push (.cells GK.toArray 27)->
 (aF H15 (ad al) 0 6)/\ ∀el,el=aL H15 (ad al) (DR aq dk ap aa z y dl cl b6 ch) 0->
 ∃bj dn bn a8 a3 bd d2 cx co cp,aI el (ad b) 0 (DR bj dn bn a8 a3 bd d2 cx co cp)/\
 dF.C bj dn bn a8 a3 bd d2 cx co cp el (λe6 d5=> ∃d3,e6=vi d3/\
 if d3>4096 then(
 ∃J:Bool->zV->Prop,(
 if q=6 then(
 bS.C d5 (λep e4=> ∃eg,ep=.bool eg/\
 J eg e4))
 else
 J false d5)/\ ∀s6 H18,J s6 H18->
 R (.bool s6) H18)
 else
 if q=0 then(
 ∃a1 dj bc ae af ab di cg cc b4,aI d5 (ad al) 0 (DR a1 dj bc ae af ab di cg cc b4)/\
 ∃a2 cs a4 ao aj ak c3 bw bx bt,aI d5 (ad b) 0 (DR a2 cs a4 ao aj ak c3 bw bx bt)/\
 cR.C a1 dj bc ae af ab di cg cc b4 a2 cs a4 ao aj ak c3 bw bx bt d5 (λeo d4=> ∃de,eo=.bool de/\
 if de=true then(
 if i< (d:Int)then(
 ∃p,f=some p/\
 zw i d/\
 ∃bf,hat d4 (p.add (toNat i*1))=some (vi bf)/\
 ∀ef H21,ef=d4.size->H21=d4.push (.cells #[Vq (ad m)] 45)->
 iM.C (some g) (tmod (zY ((tmod bf 4)+4)) 4) (if 3< (zY ((tmod (zY ((tmod bf 4)+4)) 4)+1))then 3 else(zY ((tmod (zY ((tmod bf 4)+4)) 4)+1))) (some (ad ef)) 1 1 H21 (λev eu=> ∃es,ev=vi es/\
 (d8 (zY (i+1)) eu/\m49 (zY (i+1)) eu<m49 i H13)))
 else
 (d8 (zY (i+1)) d4/\m49 (zY (i+1)) d4<m49 i H13))
 else
 R VF d4))
 else
 R VF d5)))
 else
 bS.C H13 (λet e3=> ∃dm,et=.bool dm/\
 R (.bool dm) e3))
 else
 ∃d6:Bool->zV->Prop,(
 ∃ce,hat df (ad m)=some (vu ce)/\
 if ce=0 then(
 if o=2 then(
 bS.C df (λew e7=> ∃dq,ew=.bool dq/\
 d6 dq e7))
 else
 d6 false df)
 else
 d6 false df)/\ ∀dr H24,d6 dr H24->
 R (.bool dr) H24)
 else
 ∃ec:Bool->zV->Prop,(
 ∃ck,hat df (ad m)=some (vu ck)/\
 if ck=0 then(
 if o=1 then(
 bS.C df (λer fc=> ∃dv,er=.bool dv/\
 ec dv fc))
 else
 ec false df)
 else
 ec false df)/\ ∀dz H26,ec dz H26->
 R (.bool dz) H26))
 else
 R VF em)))))
 else
 R VF H4))
theorem dA.link{f:zW}{ei e:Nat}(h:pt d j v b g i o k r u q f ei e H a):C d j v b g i o k r u q f ei e H a:=by
 refine l2 K0 125 func3 ?_;intro w0 Q hQ;unfold pt zY at h;refine ki [(0,.agg (DR d j v b g i o k r u).toArray),(1,vi q),(2,vs f ei e)]<|ar 0<|l1 (some 3) (λR=>vp (pa R)) (.cells (DR d j v b g i o k r u).toArray 27)<|λR H1 e1 e2=>have h:=h R H1 e1 e2;im [0] [(3,vp (pa R))]<|gi 1 [] []<|gv<|ar 1<|have⟨cu,xC,c9,bu,bz,b0,xT,d9,eb,d7,q3,h⟩:=h;na 16 27 q3 []<|l5 17 [16] h λx H2 h=>fd 1 [17] [(18,.bool x)]<|gU [(1,vi q),(2,vs f ei e),(3,vp (pa R)),(30,.bool (((x || (decide (q<8))) || (decide (q>400))) || (decide ((ei:Int)>20))))] ?_ ?_
 ·refine aE<|jn h (λc10 h=>?_) (λc10 h=>?_)
  ·exact aH 30 c10<|ar 2<|BM []<|BD 31 (λea=>[(31,.bool ea)]) h λea H3 h=>hH 1 [6] [.bool ea] hQ h
  refine aG 30 (zZ c10)<|kT<|ar 3<|nb 1 [(2,vs f ei e),(3,vp (pa R)),(33,vi q)]<|vr 34 [33] h λra rb H4 h=>gi 5 [34] [(7,vp ra),(8,vi rb)]<|gv<|ar 4<|fd 3 [8] [(39,.bool (rb !=0))]<|jn h (λc12 h=>?_) (λc12 h=>?_)
  ·refine kc 39 (Em.mpr c12)<|fd 1 [] [(40,vp ra)] ?_;rcases ra with _ | ek
   ·rw[Ev]at h;exact gi 2 [7,39,40] [(7,vp none),(42,VT)]<|l7 42<|ar 5<|hH 1 [6] [VF] hQ h
   rw[El]at h;refine gi 2 [7,39,40] [(7,Vq ek),(42,VF)]<|pN 42<|kT<|ar 6<|p0 [42] [] ?_;obtain⟨bm,d1,bo,a6,ax,a7,dt,cw,c5,c2,q14,h⟩:=h;refine na 43 27 q14 []<|Bs (some 44) h ?_;clear h;rintro ex H5 ⟨am,cm,ai,b1,b2,s,cn,bq,br,bs,rfl,h⟩;refine im [43] [(44,.agg (DR am cm ai b1 b2 s cn bq br bs).toArray)]<|l1 (some 9) (λR=>vp (pa R)) (.cells GK.toArray 27)<|λan H6 e15 e16=>have h:=h an H6 e15 e16;im [] [(9,vp (pa an))]<|have⟨q18,h⟩:=h;bF 27 (DR am cm ai b1 b2 s cn bq br bs) q18<|λH7 e17=>have h:=h H7 e17;im [44] []<|ue<|ar 7<|fd 1 [] [(46,Vq ek)]<|have⟨bp,dy,bk,ba,au,av,dp,ct,c1,cz,q19,h⟩:=h;na 47 27 q19 []<|vr 48 [46,47] h λb8 dT H8 h=>fd 3 [48] [(49,vu b8),(50,vi dT)]<|l1 (some 10) (λR=>vp (pa R)) (.cells #[vu 0] 37)<|λm H9 e20 e21=>have h:=h m H9 e20 e21;im [] [(10,vp (pa m))]<|have⟨q23,h⟩:=h;fj 37 (vu b8) q23<|λeh e22=>have h:=h eh e22;im [49] []<|gi 1 [50] [(11,vi dT)]<|gv<|ar 8<|have⟨a0,dh,aw,ag,ac,ah,dg,cj,ci,cd,q24,h⟩:=h;na 51 27 q24 [9]<|have⟨bi,d0,bh,ay,bb,be,du,c7,cr,c0,q25,h⟩:=h;na 52 27 q25 []<|l5 53 [51,52] h λdd em h=>gi 1 [53] [(54,.bool (!dd))]<|jn h (λc26 h=>?_) (λc26 h=>?_)
   ·refine aG 54 (Eg Bool.not (c26))<|kT<|gv<|ar 10<|p0 [54] []<|have⟨bl,dw,bg,a5,a9,az,dx,cy,cv,cq,q28,h⟩:=h;na 55 27 q28 []<|l5 56 [55] h λdc df h=>nx 1 [(2,vs f ei e),(3,vp (pa R)),(7,Vq ek),(10,vp (pa m)),(11,vi dT),(57,.bool (!dc))]<|jn h (λc29 h=>?_) (λc29 h=>?_)
    ·refine aG 57 (Eg Bool.not (c29))<|kT<|gv<|ar 12<|nx 2 [(2,vs f ei e),(3,vp (pa R)),(7,Vq ek),(10,vp (pa m)),(11,vi dT),(68,.bool (dT !=0))]<|jn h (λc31 h=>?_) (λc31 h=>?_)
     ·refine aG 68 (Em.mpr c31)<|kT<|gv<|ar 14<|gi 1 [11,68] [(12,vi 0)]<|k5 0<|have⟨d8,m49,i33,i34⟩:=h;bI (x:=DQ) (σ:=Int) (λs_=> [(2,vs f ei e),(3,vp (pa R)),(7,Vq ek),(10,vp (pa m)),(12,vi s_)]) (λs_ H=>d8 s_ H) (λs_ H=>m49 s_ H) (0:Int) GE i33 sk ?_;rintro ej H13 i35;have h:=i34 ej H13 i35;refine ki [(2,vs f ei e),(3,vp (pa R)),(7,Vq ek),(10,vp (pa m)),(12,vi ej)]<|gv<|ar 15<|gi 4 [] [(81,.bool (decide (ej<=(ei:Int))))]<|jn h (λc36 h=>?_) (λc36 h=>?_)
      ·refine aH 81 (zX c36)<|kT<|gv<|k5 1<|ar 17<|fd 1 [81] [(85,Vq ek)] ?_;obtain⟨ee,q38,h⟩:=h;refine hV 86 37 q38 []<|Bs (some 87) h ?_;clear h;rintro ey en ⟨aq,dk,ap,aa,z,y,dl,cl,b6,ch,b3,rfl,h⟩;refine im [85,86] [(87,.tuple #[.agg (DR aq dk ap aa z y dl cl b6 ch).toArray,vi b3])]<|fd 3 [87] [(88,.agg (DR aq dk ap aa z y dl cl b6 ch).toArray),(89,vi b3)]<|l1 (some 13) (λR=>vp (pa R)) (.cells GK.toArray 27)<|λal H15 e39 e40=>have h:=h al H15 e39 e40;im [] [(13,vp (pa al))]<|have⟨q42,h⟩:=h;bF 27 (DR aq dk ap aa z y dl cl b6 ch) q42<|λel e41=>have h:=h el e41;im [88] []<|gi 1 [89] [(14,vi b3)]<|gv<|ar 18<|have⟨bj,dn,bn,a8,a3,bd,d2,cx,co,cp,q43,h⟩:=h;na 90 27 q43 []<|l5 91 [90] h λd3 d5 h=>nx 1 [(2,vs f ei e),(3,vp (pa R)),(7,Vq ek),(10,vp (pa m)),(12,vi ej),(13,vp (pa al)),(14,vi b3),(92,.bool (decide (d3>4096)))]<|jn h (λc44 h=>?_) (λc44 h=>?_)
       ·refine aH 92 (zX c44)<|gv<|have⟨J,h,j47⟩:=h;j2 (σ:=Bool) (λs_=> [(6,.bool s_)]) (λs_ H=>J s_ H) ?_ ?_
        ·exact λs6 H18 j48=>have h:=j47 s6 H18 j48;ki [(6,.bool s6)]<|aE<|ix [6] [.bool s6] hQ h
        refine k4 19<|nb 3 [(95,.bool (b3==6))]<|jn h (λc49 h=>?_) (λc49 h=>?_)
        ·have b50:(b3==6)=true:=zK c49;refine bW [(95,VT)] (by rw[b50]) ?_;clear b50;exact l5 96 [] h λeg e4 h=>nx 2 [(6,.bool eg)]<|dL (eg:Bool) sk h
        have b50:(b3==6)=false:=zJ c49;refine bW [(95,VF)] (by rw[b50]) ?_;clear b50;exact nx 3 [(6,VF)]<|dL (false:Bool) sk h
       refine aG 92 (zQ c44)<|kT<|gv<|ar 20<|fd 3 [14,92] [(100,.bool (b3 !=0))]<|jn h (λc51 h=>?_) (λc51 h=>?_)
       ·refine kc 100 (Em.mpr c51)<|have⟨a1,dj,bc,ae,af,ab,di,cg,cc,b4,q53,h⟩:=h;na 101 27 q53 [13]<|have⟨a2,cs,a4,ao,aj,ak,c3,bw,bx,bt,q54,h⟩:=h;na 102 27 q54 []<|l5 103 [101,102] h λde d4 h=>gi 2 [100,103] [(105,.bool (!de))]<|jn h (λc55 h=>?_) (λc55 h=>?_)
        ·refine aG 105 (Eg Bool.not (c55))<|kT<|ar 22<|gi 4 [105] [(109,.bool (decide (ej< (ei:Int))))]<|jn h (λc57 h=>?_) (λc57 h=>?_)
         ·refine aH 109 (zX c57)<|ar 23<|fd 2 [109] [(110,vs f ei e),(111,vi ej)] ?_;obtain⟨p,rfl,q59,ha⟩:=h;refine ww (some 112) 28 3 1 p ei e .i64 ej EW q59.1 q59.2 [2,110,111] [(2,vs (some p) ei e),(112,Vq (p.add (toNat ej*1)))]<|have⟨bf,q60,h⟩:=ha;hV 113 3 q60 [112]<|gi 4 [113] [(15,vi (tmod (zY ((tmod bf 4)+4)) 4))]<|k4 24<|fd 5 [15] [(117,Vq ek),(118,vi (tmod (zY ((tmod bf 4)+4)) 4)),(121,vi (if 3< (zY ((tmod (zY ((tmod bf 4)+4)) 4)+1))then 3 else(zY ((tmod (zY ((tmod bf 4)+4)) 4)+1))))]<|l1 (some 122) (λR=>vs (pa R) 1 1) (.cells #[vp (pa m)] 45) ?_;intro ef H21 e61 e62;replace h:=h ef H21 e61 e62;refine im [] [(122,vs (pa ef) 1 1)]<|Bs (some 123) h ?_;clear h;rintro ev eu ⟨es,rfl,h⟩;exact im [117,118,121,122] []<|zq<|aD<|aE<|k4 16<|gi 3 [12] [(12,vi (zY (ej+1)))]<|aQ ((zY (ej+1)):Int) sk h
         exact aG 109 (zQ c57)<|Bn<|aD<|aE<|k4 16<|gi 3 [12,109] [(12,vi (zY (ej+1)))]<|aQ ((zY (ej+1)):Int) sk h
        exact aH 105 (Eg Bool.not (zZ c55))<|ar 21<|hH 1 [6] [VF] hQ h
       exact kc 100 (En.mpr c51)<|gi 5 [13,100] [(105,VT)]<|l7 105<|ar 21<|hH 1 [6] [VF] hQ h
      exact aG 81 (zQ c36)<|zj 0<|aA<|aA<|aJ<|aE<|ar 25<|BM []<|BD 124 (λdm=>[(124,.bool dm)]) h λdm e3 h=>hH 1 [6] [.bool dm] hQ h
     refine aH 68 (En.mpr c31)<|gv<|have⟨d6,h,j64⟩:=h;j2 (σ:=Bool) (λs_=> [(6,.bool s_)]) (λs_ H=>d6 s_ H) ?_ ?_
     ·exact λdr H24 j65=>have h:=j64 dr H24 j65;ki [(6,.bool dr)]<|aE<|ix [6] [.bool dr] hQ h
     refine k4 13<|BM [(10,vp (pa m)),(11,vi dT)]<|have⟨ce,q66,h⟩:=h;hV 69 37 q66 [10]<|fd 2 [69] [(71,.bool (ce==0))]<|jn h (λc67 h=>?_) (λc67 h=>?_)
     ·refine kc 71 (zK c67)<|nb 4 [(75,.bool (dT==2))]<|jn h (λc69 h=>?_) (λc69 h=>?_)
      ·have b70:(dT==2)=true:=zK c69;refine bW [(75,VT)] (by rw[b70]) ?_;clear b70;exact l5 76 [] h λdq e7 h=>nx 2 [(6,.bool dq)]<|dL (dq:Bool) sk h
      have b70:(dT==2)=false:=zJ c69;refine bW [(75,VF)] (by rw[b70]) ?_;clear b70;exact nx 3 [(6,VF)]<|dL (false:Bool) sk h
     exact kc 71 (zJ c67)<|nx 7 [(6,VF)]<|dL (false:Bool) sk h
    refine aH 57 (Eg Bool.not (zZ c29))<|gv<|have⟨ec,h,j72⟩:=h;j2 (σ:=Bool) (λs_=> [(6,.bool s_)]) (λs_ H=>ec s_ H) ?_ ?_
    ·exact λdz H26 j73=>have h:=j72 dz H26 j73;ki [(6,.bool dz)]<|aE<|ix [6] [.bool dz] hQ h
    refine k4 11<|BM [(10,vp (pa m)),(11,vi dT)]<|have⟨ck,q74,h⟩:=h;hV 58 37 q74 [10]<|fd 2 [58] [(60,.bool (ck==0))]<|jn h (λc75 h=>?_) (λc75 h=>?_)
    ·refine kc 60 (zK c75)<|nb 4 [(64,.bool (dT==1))]<|jn h (λc77 h=>?_) (λc77 h=>?_)
     ·have b78:(dT==1)=true:=zK c77;refine bW [(64,VT)] (by rw[b78]) ?_;clear b78;exact l5 65 [] h λdv fc h=>nx 2 [(6,.bool dv)]<|dL (dv:Bool) sk h
     have b78:(dT==1)=false:=zJ c77;refine bW [(64,VF)] (by rw[b78]) ?_;clear b78;exact nx 3 [(6,VF)]<|dL (false:Bool) sk h
    exact kc 60 (zJ c75)<|nx 7 [(6,VF)]<|dL (false:Bool) sk h
   exact aH 54 (Eg Bool.not (zZ c26))<|ar 9<|hH 1 [6] [VF] hQ h
  exact kc 39 (En.mpr c12)<|gi 3 [39] [(42,VT)]<|l7 42<|ar 5<|hH 1 [6] [VF] hQ h
 refine λhk=>BM [(1,vi q),(2,vs f ei e),(3,vp (pa R)),(18,.bool x)] ?_;by_cases c4:x=true
 ·have b5:x=true:=c4;exact bW [(1,vi q),(2,vs f ei e),(3,vp (pa R)),(18,VT)] (by rw[b5])<|fd 12 [18] [(30,VT)]<|zq<|n7 30 (b:=true) (v:=(((x || (decide (q<8))) || (decide (q>400))) || (decide ((ei:Int)>20)))) (by simp only[b5,BL])<|hk
 have b5:x=false:=zZ c4;refine bW [(1,vi q),(2,vs f ei e),(3,vp (pa R)),(18,VF)] (by rw[b5])<|fd 4 [18] [(22,.bool (decide (q<8)))] ?_;by_cases c6:q<8
 ·have b7:(decide (q<8))=true:=zX c6;exact kc 22 b7<|fd 8 [22] [(30,VT)]<|zq<|n7 30 (b:=true) (v:=(((x || (decide (q<8))) || (decide (q>400))) || (decide ((ei:Int)>20)))) (by simp only[b5,b7,BL])<|hk
 have b7:(decide (q<8))=false:=zQ c6;refine kc 22 b7<|fd 4 [22] [(26,.bool (decide (q>400)))] ?_;by_cases c8:q>400
 ·have b9:(decide (q>400))=true:=zX c8;exact kc 26 b9<|fd 4 [26] [(30,VT)]<|zq<|n7 30 (b:=true) (v:=(((x || (decide (q<8))) || (decide (q>400))) || (decide ((ei:Int)>20)))) (by simp only[b5,b7,b9,BL])<|hk
 have b9:(decide (q>400))=false:=zQ c8;exact kc 26 b9<|fd 4 [26] [(30,.bool (decide ((ei:Int)>20)))]<|zq<|n7 30 (b:=(decide ((ei:Int)>20))) (v:=(((x || (decide (q<8))) || (decide (q>400))) || (decide ((ei:Int)>20)))) (by simp only[b5,b7,b9,BL])<|hk
end Go.Proofs.YtillhdiiglamhaaGreatDoor
namespace Go.Proofs.YtillhdiiglamhaaGreatDoor
open Go Go.Proofs.Tryz
open Int(tmod)
variable{H:zV}{a:zk}{b g i:Int}{d:zW}
def ku.K0:=GC f6
def ku.pt(a:Int):GJ:=λH R=>
 kv.C a H (λv H1=> ∃ra rb,v=.tuple #[vp ra,vi rb]/\
 if rb=0 then(
 ∀b H2,b=H1.size->H2=H1.push (.cells #[vp ra,VN,VN,vu 0] 56)->
 R (.tuple #[Vq (ad b),vi 0]) H2)
 else
 R (.tuple #[vp none,vi rb]) H1)
theorem ku.link(h:pt b H a):C b H a:=by
 refine l2 K0 17 func6 ?_;intro w0 Q hQ;unfold pt at h;refine ki [(0,vi b)]<|ar 0<|gi 2 [] []<|ar 1<|nb 1 [(7,vi b)]<|Bh 8 (λra rb=>[(8,.tuple #[vp ra,vi rb])]) h λra rb H1 h=>nx 5 [(4,vp ra),(5,vi rb)]<|gv<|ar 2<|gi 2 [] [(12,.bool (rb !=0))]<|jn h (λc1 h=>?_) (λc1 h=>?_)
 ·refine aG 12 (Em.mpr c1)<|kT<|ar 4<|nb 2 [(15,.agg #[vp ra,VN,VN,vu 0])]<|l1 (some 16) (λR=>vp (pa R)) (.cells #[vp ra,VN,VN,vu 0] 56)<|λR H2 e3 e4=>have h:=h R H2 e3 e4;⟨[(16,vp (pa R))],pk,?_⟩;exact hH 2 [2,3] [vp (pa R),vi 0] hQ h
 exact aH 12 (En.mpr c1)<|ar 3<|hH 3 [2,3] [vp none,vi rb] hQ h
def dO.K0:=GC f24
def dO.pt(hv:zW)(a d:Int)(lB:zW)(lN lC:Nat):GJ:=λH R=>
 ik.C a 0 d H (λv H1=> ∃ra rb,v=.tuple #[vu ra,vi rb]/\
 if rb=0 then(
 if(lN:Int)>62 then(
 R (.tuple #[vu 0,vi 6]) H1)
 else
 ik.C a (lN:Int) d H1 (λm H2=> ∃e i,m=.tuple #[vu e,vi i]/\
 kO.C a H2 (λo H3=> ∃x,o=vi x/\
 ∀b H4,b=H3.size->H4=H3.push (.cells #[vu e] 37)->
 dY 1 37 8 [vu 0] (some (ad b)) 1 1 lB lN H4 (λap j H5=>
 gz.C hv x 3 ap (1+lN) j H5 (λk H6=> ∃g f,k=.tuple #[vu g,vi f]/\
 R (.tuple #[vu g,vi f]) H6)))))
 else
 R (.tuple #[vu 0,vi rb]) H1)
theorem dO.link{lB:zW}{lN lC:Nat}(h:pt d b g lB lN lC H a):C d b g lB lN lC H a:=by
 refine l2 K0 44 func24 ?_;intro w0 Q hQ;unfold pt at h;refine ki [(0,vp d),(1,vi b),(2,vu g),(3,vs lB lN lC)]<|ar 0<|gi 2 [] []<|gv<|ar 1<|fd 2 [] [(15,vi b),(16,vu g)]<|vr 17 [15,16] h λra rb H1 h=>gi 5 [17] [(11,vi rb)]<|ar 2<|gi 2 [] [(21,.bool (rb !=0))]<|jn h (λc1 h=>?_) (λc1 h=>?_)
 ·refine aG 21 (Em.mpr c1)<|kT<|gv<|ar 4<|gi 3 [11,21] [(25,.bool (decide ((lN:Int)>62)))]<|jn h (λc3 h=>?_) (λc3 h=>?_)
  ·exact aH 25 (zX c3)<|ar 5<|hH 2 [8,9] [vu 0,vi 6] hQ h
  refine aG 25 (zQ c3)<|kT<|ar 6<|fd 4 [2,25] [(27,vi b),(29,vi lN),(30,vu g)]<|vr 31 [27,29,30] h λe i H2 h=>gi 5 [31] [(12,vu e)]<|ar 7<|fd 2 [0,1] [(34,vp d),(35,vi b)]<|l5 36 [35] h λx H3 h=>fd 1 [12] [(37,vu e)]<|l1 (some 38) (λR=>vs (pa R) 1 1) (.cells #[vu e] 37) ?_;intro R H4 e5 e6;replace h:=h R H4 e5 e6;refine im [37] [(38,vs (pa R) 1 1)]<|fd 1 [3] [(39,vs lB lN lC)]<|xl (some 40) (eM #[53,53] 53 #[vs (pa R) 1 1,vs lB lN lC]) _ Et (cT (T:=37) (sz:=1) (bytes:=8) (zero:=(vu 0:Value)) EY EY rfl (show prog.info? 37=some t37 from GE) GE GE GG GE (by first | exact h | (simpa only[Value.cells,EI]using h))) ?_;clear h;rintro _ H5 ⟨ap,j,rfl,h⟩;exact im [38,39] [(40,vs ap (1+lN) j)]<|Bh 41 (λhv f=>[(41,.tuple #[vu hv,vi f])]) h λhv f H6 h=>hH 4 [8,9] [vu hv,vi f] hQ h
 exact aH 21 (En.mpr c1)<|ar 3<|hH 3 [8,9] [vu 0,vi rb] hQ h
namespace gz
def K0:=GC f51
def K2:=cb K0
def K4:=cb K2
def Bj:=cb K4
def Bt:=cb Bj
def BR:=ca Bt
def B6:=cb BR
def Ch:=ca B6
def CH:=ca Ch
end gz
def gz.pt(hv:zW)(f d:Int)(lB:zW)(lN lC:Nat):GJ:=λH R=>
 fH.C hv H (λv H1=> ∃x,v=.bool x/\
 if x=true then(
 R (.tuple #[vu 0,vi 2]) H1)
 else
 ∃e,hv=some e/\
 ∃z,hat H1 e=some (vp z)/\
 ∃ab,z=some ab/\
 ∃p,hat H1 ab=some (vp p)/\
 dR.C p 0 f (lN:Int) H1 (λae H2=> ∃ra rb,ae=.tuple #[vi ra,vi rb]/\
 if rb=0 then(
 ∃(u:zv) (m25:Int->zV->Nat),u 0 H2/\ ∀b H3,u b H3->
 if b< (lN:Int)then(
 ∃g,lB=some g/\
 zw b lN/\
 ∃j,hat H3 (g.add (Int.toNat b*1))=some (vu j)/\
 ∃s,hat H3 e=some (vp s)/\
 ∃r,s=some r/\
 ∃y,hat H3 r=some (vp y)/\
 ∃aa,y=some aa/\
 ∃q,hat H3 aa=some (vp q)/\
 dS.C q (zY (ra+b)) j H3 (λaf H4=> ∃ag,af=vi ag/\
 (u (zY (b+1)) H4/\m25 (zY (b+1)) H4<m25 b H3)))
 else
 j1.C d ra H3 (λac H5=> ∃o m,ac=.tuple #[vu o,vi m]/\
 R (.tuple #[vu o,vi m]) H5))
 else
 R (.tuple #[vu 0,vi rb]) H2))
theorem gz.link{lB:zW}{lN lC:Nat}(h:pt d b g lB lN lC H a):C d b g lB lN lC H a:=by
 refine l2 K0 61 func51 ?_;intro w0 Q hQ;unfold pt zY at h;refine ki [(0,vp d),(1,vi b),(2,vi g),(3,vs lB lN lC)]<|ar 0<|gi 2 [] []<|gv<|ar 1<|fd 1 [] [(14,vp d)]<|l5 15 [14] h λx H1 h=>ue<|jn h (λc1 h=>?_) (λc1 h=>?_)
 ·exact aH 15 c1<|ar 2<|hH 2 [8,9] [vu 0,vi 2] hQ h
 refine aG 15 (zZ c1)<|kT<|ar 3<|fd 1 [15] [(17,vp d)] ?_;obtain⟨e,rfl,ha⟩:=h;refine fd 2 [0,17] [(0,Vq e),(19,Vq e)]<|have⟨z,q3,h⟩:=ha;hV 20 50 q3 [19] ?_;obtain⟨ab,rfl,hb⟩:=h;refine fd 2 [20] [(22,Vq ab)]<|have⟨p,q4,h⟩:=hb;hV 23 79 q4 [22]<|fd 3 [1] [(24,vi b),(26,vi lN)]<|vr 27 [23,24,26] h λra rb H2 h=>gi 5 [27] [(10,vi ra),(11,vi rb)]<|gv<|ar 4<|gi 2 [] [(31,.bool (rb !=0))]<|jn h (λc5 h=>?_) (λc5 h=>?_)
 ·refine aG 31 (Em.mpr c5)<|kT<|gv<|ar 6<|gi 3 [3,11,31] [(33,vs lB lN lC),(34,vi lN),(35,vi 0)]<|k5 0<|have⟨u,m25,i7,i8⟩:=h;bI (x:=CH) (σ:=Int) (λs_=> [(0,Vq e),(2,vi g),(10,vi ra),(33,vs lB lN lC),(34,vi lN),(35,vi s_)]) (λs_ H=>u s_ H) (λs_ H=>m25 s_ H) (0:Int) GE i7 sk ?_;rintro R H3 i9;have h:=i8 R H3 i9;refine ki [(0,Vq e),(2,vi g),(10,vi ra),(33,vs lB lN lC),(34,vi lN),(35,vi R)]<|ar 7<|gi 1 [] [(36,.bool (decide (R< (lN:Int))))]<|gv<|jn h (λc10 h=>?_) (λc10 h=>?_)
  ·refine aH 36 (zX c10)<|kT<|gv<|k5 1<|ar 8<|fd 1 [36] [(37,vi R)] ?_;obtain⟨f,rfl,q12,hc⟩:=h;refine ww (some 38) 53 37 1 f lN lC .i64 R EY q12.1 q12.2 [33] [(33,vs (some f) lN lC),(38,Vq (f.add (Int.toNat R*1)))]<|have⟨j,q13,h⟩:=hc;hV 39 37 q13 [38]<|gi 2 [37,39] [(12,vi R),(13,vu j)]<|k4 9<|fd 3 [] [(42,Vq e)]<|have⟨s,q14,h⟩:=h;hV 43 50 q14 [42] ?_;obtain⟨r,rfl,hd⟩:=h;refine fd 2 [43] [(45,Vq r)]<|have⟨y,q15,h⟩:=hd;hV 46 79 q15 [45] ?_;obtain⟨aa,rfl,he⟩:=h;refine fd 2 [46] [(48,Vq aa)] ?_;obtain⟨q,q16,h⟩:=he;refine hV 49 115 q16 [48]<|fd 4 [12,13] [(52,vi (zY (ra+R))),(53,vu j)]<|Bs (some 54) h ?_;clear h;rintro af H4 ⟨ag,rfl,h⟩;exact im [49,52,53] []<|zq<|aD<|aE<|k4 10<|gi 2 [35] [(35,vi (zY (R+1)))]<|aQ ((zY (R+1)):Int) sk h
  exact aG 36 (zQ c10)<|zj 0<|aA<|aA<|aJ<|aE<|ar 11<|nb 2 [(56,vi g),(57,vi ra)]<|Bh 58 (λo m=>[(58,.tuple #[vu o,vi m])]) h λo m H5 h=>hH 4 [8,9] [vu o,vi m] hQ h
 exact aH 31 (En.mpr c5)<|ar 5<|hH 3 [8,9] [vu 0,vi rb] hQ h
def kO.K0:=GC f52
def kO.pt(a:Int):GJ:=λH R=>
 if((a==2) || (a==3))=true then(
 R (vi 3) H)
 else
 R (vi 2) H
theorem kO.link(h:pt b H a):C b H a:=by
 refine l2 K0 9 func52 ?_;intro w0 Q hQ;unfold pt at h;refine ki [(0,vi b)]<|ar 0<|gi 1 [] []<|gv<|ar 1<|gU [(8,.bool ((b==2) || (b==3)))] ?_ ?_
 ·refine aE<|jn h (λc3 h=>?_) (λc3 h=>?_)
  ·exact aH 8 c3<|ar 2<|hH 1 [2] [vi 3] hQ h
  exact aG 8 (zZ c3)<|kT<|ar 3<|hH 1 [2] [vi 2] hQ h
 refine λhk=>nb 3 [(0,vi b),(5,.bool (b==2))] ?_;by_cases c1:b=2
 ·have b2:(b==2)=true:=zK c1;exact bW [(0,vi b),(5,VT)] (by rw[b2])<|nb 3 [(8,VT)]<|zq<|cW [(8,.bool ((b==2) || (b==3)))] (by simp only[b2,BL])<|hk
 have b2:(b==2)=false:=zJ c1;exact bW [(0,vi b),(5,VF)] (by rw[b2])<|nb 3 [(8,.bool (b==3))]<|zq<|cW [(8,.bool ((b==2) || (b==3)))] (by simp only[b2,BL])<|hk
def gD.K0:=GC f60
def gD.pt(hv:zW)(wv:Int):GJ:=λH R=>
 cO.C hv wv H (λv H1=> ∃ra rb rc rd re,v=.tuple #[vi ra,vi rb,vi rc,vu rd,.bool re]/\
 R (vi rb) H1)
theorem gD.link(h:pt d b H a):C d b H a:=by
 refine l2 K0 20 func60 ?_;intro w0 Q hQ;unfold pt at h;exact ki [(0,vp d),(1,vu b)]<|ar 0<|gi 1 [] []<|ar 1<|nb 2 [(11,vp d),(12,vu b)]<|C0 13 (λra rb rc rd re=>[(13,.tuple #[vi ra,vi rb,vi rc,vu rd,.bool re])]) h λra rb rc rd re H1 h=>nx 11 [(6,vi rb)]<|ar 2<|hH 2 [4] [vi rb] hQ h
def fH.K0:=GC f106
def fH.pt(hv:zW):GJ:=λH R=>
 fY hv (
 R VT H) (λa=>
 ∃x,hat H a=some (vp x)/\
 fY x (
 R VT H) (λxA=>
 R VF H))
theorem fH.link(h:pt d H a):C d H a:=by
 refine l2 K0 12 func106 ?_;intro w0 Q hQ;unfold pt at h;refine ki [(0,vp d)]<|ar 0<|gi 1 [] []<|ar 1<|fd 1 [] [(3,vp d)] ?_;rcases d with _ | R
 ·rw[Ev]at h;exact hH 9 [2] [VT] hQ h
 rw[El]at h;refine nb 5 [(5,VF),(8,Vq R)]<|have⟨x,q1,h⟩:=h;hV 9 50 q1 [8] ?_;rcases x with _ | xA
 ·rw[Ev]at h;exact hH 3 [2] [VT] hQ h
 rw[El]at h;exact hH 3 [2] [VF] hQ h
def fQ.K0:=GC f113
def fQ.pt(hv:zW)(wv:Int):GJ:=λH R=>
 cO.C hv wv H (λv H1=> ∃ra rb rc rd re,v=.tuple #[vi ra,vi rb,vi rc,vu rd,.bool re]/\
 R (vu rd) H1)
theorem fQ.link(h:pt d b H a):C d b H a:=by
 refine l2 K0 20 func113 ?_;intro w0 Q hQ;unfold pt at h;exact ki [(0,vp d),(1,vu b)]<|ar 0<|gi 1 [] []<|ar 1<|nb 2 [(11,vp d),(12,vu b)]<|C0 13 (λra rb rc rd re=>[(13,.tuple #[vi ra,vi rb,vi rc,vu rd,.bool re])]) h λra rb rc rd re H1 h=>nx 11 [(8,vu rd)]<|ar 2<|hH 2 [4] [vu rd] hQ h
def cO.K0:=GC f114
def cO.K2:=cb K0
def cO.K3:=ca K2
def cO.K6:=cb K3
def cO.K7:=ca K6
def cO.K8:=ca K7
def cO.pt(hv:zW)(wv:Int):GJ:=λH R=>
 ∃(I9:zv) (m9:Int->zV->Nat),I9 0 H/\ ∀a H1,I9 a H1->
 if a<2 then(
 ∃x,((0<=a/\a< (2:Int))/\(#[vi 2,vi 3]:Array Value)[Int.toNat a]?=some (vi x))/\
 gJ.C hv wv 3 x H1 (λv H2=> ∃ra rb,v=.tuple #[vi ra,.bool rb]/\
 if rb=true then(
 ∃e,hv=some e/\
 ∃af,hat H2 e=some (vp af)/\
 ∃ai,af=some ai/\
 ∃ag,hat H2 ai=some (vp ag)/\
 ∃ae,ag=some ae/\
 ∃y,hat H2 ae=some (vp y)/\
 cS.C y ra H2 (λam H3=> ∃p aj,am=.tuple #[vu p,vi aj]/\
 jL.C p H3 (λan H4=> ∃f d rc rd,an=.tuple #[vi f,vi d,vu rc,.bool rd]/\
 ∃ab,hat H4 e=some (vp ab)/\
 ∃aa,ab=some aa/\
 ∃ac,hat H4 aa=some (vp ac)/\
 ∃ah,ac=some ah/\
 ∃z,hat H4 ah=some (vp z)/\
 bX.C z (zY (Int.tdiv ra 64)) H4 (λal H5=> ∃o m r k i j g s,al=.tuple #[.agg #[vi o,vi m,vi r,vi k,vi i,vi j,vi g],.bool s]/\
 ∀b H6,b=H5.size->H6=H5.push (.cells GL 127)->
 (aF H6 (ad b) 0 7)/\ ∀H7,H7=aL H6 (ad b) [vi o,vi m,vi r,vi k,vi i,vi j,vi g] 0->
 if rd=true then(
 kO.C f H7 (λak H8=> ∃u,ak=vi u/\
 if u=x then(
 ∃q,hat H8 ((ad b).add 2)=some (vi q)/\
 if(zY ((tmod ra 64)+d))<q then(
 R (.tuple #[vi ra,vi f,vi d,vu rc,VT]) H8)
 else
 (I9 (zY (a+1)) H8/\m9 (zY (a+1)) H8<m9 a H1))
 else
 (I9 (zY (a+1)) H8/\m9 (zY (a+1)) H8<m9 a H1)))
 else
 (I9 (zY (a+1)) H7/\m9 (zY (a+1)) H7<m9 a H1)))))
 else
 (I9 (zY (a+1)) H2/\m9 (zY (a+1)) H2<m9 a H1)))
 else
 R (.tuple #[vi 0,vi 0,vi 0,vu 0,VF]) H1
theorem cO.link(h:pt d b H a):C d b H a:=by
 refine l2 K0 87 func114 ?_;intro w0 Q hQ;unfold pt zY at h;refine ki [(0,vp d),(1,vu b)]<|ar 0<|gi 5 [] []<|gv<|ar 1<|gi 2 [] [(15,.agg #[vi 2,vi 3]),(16,vi 0)]<|k5 0<|have⟨I9,m9,i1,i2⟩:=h;bI (x:=K8) (σ:=Int) (λs_=> [(0,vp d),(1,vu b),(15,.agg #[vi 2,vi 3]),(16,vi s_)]) (λs_ H=>I9 s_ H) (λs_ H=>m9 s_ H) (0:Int) GE i1 sk ?_;rintro R H1 i3;have h:=i2 R H1 i3;refine ki [(0,vp d),(1,vu b),(15,.agg #[vi 2,vi 3]),(16,vi R)]<|ar 2<|gi 1 [] [(17,.bool (decide (R<2)))]<|gv<|jn h (λc4 h=>?_) (λc4 h=>?_)
 ·refine aH 17 (zX c4)<|kT<|gv<|k5 1<|ar 3<|p0 [17] []<|have⟨x,q6,h⟩:=h;wd 18 (fD 214 (.agg #[vi 2,vi 3]) (vi R)) (vi x) (λw _=>kX (P:=prog) (t:=214) (elem:=3) (n:=2) underlying214 Et Et q6.1.1 q6.1.2 q6.2 w) []<|gi 1 [18] [(10,vi x)]<|gv<|ar 4<|fd 3 [] [(20,vp d),(21,vu b),(22,vi x)]<|vr 23 [20,21,22] h λra rb H2 h=>gi 5 [23] [(4,vi ra),(8,.bool rb)]<|ar 5<|gi 2 [8] [(27,.bool (!rb))]<|jn h (λc7 h=>?_) (λc7 h=>?_)
  ·refine aG 27 (Eg Bool.not (c7))<|kT<|ar 6<|fd 1 [27] [(29,vp d)] ?_;obtain⟨e,rfl,ha⟩:=h;refine fd 2 [0,29] [(0,Vq e),(31,Vq e)]<|have⟨af,q9,h⟩:=ha;hV 32 50 q9 [31] ?_;obtain⟨ai,rfl,hb⟩:=h;refine fd 2 [32] [(34,Vq ai)]<|have⟨ag,q10,h⟩:=hb;hV 35 79 q10 [34] ?_;obtain⟨ae,rfl,hc⟩:=h;refine fd 2 [35] [(37,Vq ae)]<|have⟨y,q11,h⟩:=hc;hV 38 115 q11 [37]<|fd 1 [] [(39,vi ra)]<|vr 40 [38,39] h λp aj H3 h=>gi 5 [40] [(11,vu p)]<|ar 7<|fd 1 [11] [(44,vu p)]<|C4 45 [44] h λf hv rc rd H4 h=>gi 9 [45] [(5,vi f),(6,vi hv),(7,vu rc),(8,.bool rd)]<|ar 8<|fd 3 [] [(53,Vq e)]<|have⟨ab,q12,h⟩:=h;hV 54 50 q12 [53] ?_;obtain⟨aa,rfl,hd⟩:=h;refine fd 2 [54] [(56,Vq aa)]<|have⟨ac,q13,h⟩:=hd;hV 57 79 q13 [56] ?_;obtain⟨ah,rfl,he⟩:=h;refine fd 2 [57] [(59,Vq ah)]<|have⟨z,q14,h⟩:=he;hV 60 115 q14 [59]<|fd 2 [] [(62,vi (zY (Int.tdiv ra 64)))]<|B7 63 [60,62] h λo m r k i j g s H5 h=>fd 3 [63] [(64,.agg #[vi o,vi m,vi r,vi k,vi i,vi j,vi g]),(65,.bool s)]<|l1 (some 13) (λwv=>vp (pa wv)) (.cells GL 127)<|λwv H6 e15 e16=>have h:=h wv H6 e15 e16;im [] [(13,vp (pa wv))]<|have⟨q18,h⟩:=h;bF 127 [vi o,vi m,vi r,vi k,vi i,vi j,vi g] q18<|λH7 e17=>have h:=h H7 e17;im [64] []<|gi 1 [65] []<|ar 9<|fd 2 [8] [(67,.bool rd)]<|jn h (λc19 h=>?_) (λc19 h=>?_)
   ·refine kc 67 c19<|fd 1 [] [(68,vi f)]<|l5 69 [68] h λu H8 h=>fd 4 [10,67,69] [(73,.bool (u==x))]<|jn h (λc21 h=>?_) (λc21 h=>?_)
    ·refine kc 73 (zK c21)<|fd 5 [13] [(77,vi (zY ((tmod ra 64)+hv))),(78,Vq ((ad wv).add 2))]<|have⟨q,q23,h⟩:=h;hV 79 3 q23 [78]<|gi 2 [73,77,79] [(81,.bool (decide ((zY ((tmod ra 64)+hv))<q)))]<|jn h (λc24 h=>?_) (λc24 h=>?_)
     ·exact aH 81 (zX c24)<|ar 10<|hH 9 [4,5,6,7,8] [vi ra,vi f,vi hv,vu rc,VT] hQ h
     exact aG 81 (zQ c24)<|Bn<|aD<|aE<|k4 11<|gi 2 [4,5,6,7,16,81] [(16,vi (zY (R+1)))]<|aQ ((zY (R+1)):Int) sk h
    exact kc 73 (zJ c21)<|gi 8 [13,73] [(81,VF)]<|pN 81<|Bn<|aD<|aE<|k4 11<|gi 2 [4,5,6,7,16,81] [(16,vi (zY (R+1)))]<|aQ ((zY (R+1)):Int) sk h
   exact kc 67 (zZ c19)<|gi 14 [10,13,67] [(81,VF)]<|pN 81<|Bn<|aD<|aE<|k4 11<|gi 2 [4,5,6,7,16,81] [(16,vi (zY (R+1)))]<|aQ ((zY (R+1)):Int) sk h
  exact aH 27 (Eg Bool.not (zZ c7))<|zj 1<|aA<|aJ<|aE<|k4 11<|gi 2 [4,10,16,27] [(16,vi (zY (R+1)))]<|aQ ((zY (R+1)):Int) sk h
 exact aG 17 (zQ c4)<|zj 0<|aA<|aA<|aJ<|aE<|ar 12<|hH 5 [4,5,6,7,8] [vi 0,vi 0,vi 0,vu 0,VF] hQ h
def gG.K0:=GC f115
def gG.pt(hv:zW)(wv a i:Int):GJ:=λH R=>
 fV.C hv wv a i H (λv H1=> ∃ra rb,v=.tuple #[vi ra,vi rb]/\
 if rb=0 then(
 ∃f,hv=some f/\
 ∃x,hat H1 f=some (vp x)/\
 ∃xA,x=some xA/\
 ∃j,hat H1 xA=some (vp j)/\
 ∃g,j=some g/\
 ∃e,hat H1 g=some (vp e)/\
 cS.C e ra H1 (λk H2=> ∃b d,k=.tuple #[vu b,vi d]/\
 R (.tuple #[vu b,vi d]) H2))
 else
 R (.tuple #[vu 0,vi rb]) H1)
theorem gG.link(h:pt d b g i H a):C d b g i H a:=by
 refine l2 K0 37 func115 ?_;intro w0 Q hQ;unfold pt at h;refine ki [(0,vp d),(1,vu b),(2,vi g),(3,vi i)]<|ar 0<|gi 2 [] []<|ar 1<|nb 4 [(0,vp d),(13,vp d),(14,vu b),(15,vi g),(16,vi i)]<|Bh 17 (λra rb=>[(0,vp d),(17,.tuple #[vi ra,vi rb])]) h λra rb H1 h=>gi 5 [17] [(10,vi ra),(11,vi rb)]<|gv<|ar 2<|gi 2 [] [(21,.bool (rb !=0))]<|jn h (λc1 h=>?_) (λc1 h=>?_)
 ·refine aG 21 (Em.mpr c1)<|kT<|ar 4<|nb 1 [(10,vi ra),(23,vp d)] ?_;obtain⟨f,rfl,ha⟩:=h;refine fd 2 [23] [(25,Vq f)]<|have⟨x,q3,h⟩:=ha;hV 26 50 q3 [25] ?_;obtain⟨xA,rfl,hb⟩:=h;refine fd 2 [26] [(28,Vq xA)]<|have⟨j,q4,h⟩:=hb;hV 29 79 q4 [28] ?_;obtain⟨hv,rfl,hc⟩:=h;exact fd 2 [29] [(31,Vq hv)]<|have⟨e,q5,h⟩:=hc;hV 32 115 q5 [31]<|fd 1 [10] [(33,vi ra)]<|Bh 34 (λR wv=>[(34,.tuple #[vu R,vi wv])]) h λR wv H2 h=>hH 4 [8,9] [vu R,vi wv] hQ h
 exact aH 21 (En.mpr c1)<|ar 3<|hH 3 [8,9] [vu 0,vi rb] hQ h
def hU.K0:=GC f116
def hU.pt(hv:zW)(wv:Int):GJ:=λH R=>
 cO.C hv wv H (λv H1=> ∃ra rb rc rd re,v=.tuple #[vi ra,vi rb,vi rc,vu rd,.bool re]/\
 R (vi rc) H1)
theorem hU.link(h:pt d b H a):C d b H a:=by
 refine l2 K0 20 func116 ?_;intro w0 Q hQ;unfold pt at h;exact ki [(0,vp d),(1,vu b)]<|ar 0<|gi 1 [] []<|ar 1<|nb 2 [(11,vp d),(12,vu b)]<|C0 13 (λra rb rc rd re=>[(13,.tuple #[vi ra,vi rb,vi rc,vu rd,.bool re])]) h λra rb rc rd re H1 h=>nx 11 [(7,vi rc)]<|ar 2<|hH 2 [4] [vi rc] hQ h
def gJ.K0:=GC f142
def gJ.pt(hv:zW)(wv i a:Int):GJ:=λH R=>
 gO.C wv H (λv H1=> ∃ra rb,v=.tuple #[vi ra,.bool rb]/\
 fH.C hv H1 (λac H2=> ∃x,ac=.bool x/\
 if x=true then(
 R (.tuple #[vi 0,VF]) H2)
 else
 if rb=true then(
 fF.C wv H2 (λae H3=> ∃r,ae=vi r/\
 if r=i then(
 ∃t,hv=some t/\
 ∃z,hat H3 t=some (vp z)/\
 ∃u,z=some u/\
 ∃aa,hat H3 u=some (vp aa)/\
 ∃y,aa=some y/\
 ∃s,hat H3 y=some (vp s)/\
 bX.C s (zY (Int.tdiv ra 64)) H3 (λab H4=> ∃m k q g e f d j,ab=.tuple #[.agg #[vi m,vi k,vi q,vi g,vi e,vi f,vi d],.bool j]/\
 ∀b H5,b=H4.size->H5=H4.push (.cells GL 127)->
 (aF H5 (ad b) 0 7)/\ ∀H6,H6=aL H5 (ad b) [vi m,vi k,vi q,vi g,vi e,vi f,vi d] 0->
 if j=true then(
 ∃o,hat H6 ((ad b).add 1)=some (vi o)/\
 if o=a then(
 ∃p,hat H6 ((ad b).add 2)=some (vi p)/\
 R (.tuple #[vi ra,.bool (decide ((tmod ra 64)<p))]) H6)
 else
 R (.tuple #[vi ra,VF]) H6)
 else
 R (.tuple #[vi ra,VF]) H6))
 else
 R (.tuple #[vi 0,VF]) H3))
 else
 R (.tuple #[vi 0,VF]) H2))
theorem gJ.link(h:pt d b g i H a):C d b g i H a:=by
 refine l2 K0 61 func142 ?_;intro w0 Q hQ;unfold pt zY at h;refine ki [(0,vp d),(1,vu b),(2,vi g),(3,vi i)]<|ar 0<|gi 2 [] []<|ar 1<|fd 1 [] [(14,vu b)]<|vr 15 [14] h λra rb H1 h=>gi 5 [15] [(10,vi ra),(11,.bool rb)]<|gv<|ar 2<|fd 1 [] [(18,vp d)]<|l5 19 [18] h λx H2 h=>fd 1 [19] [(20,.bool x)]<|jn h (λc1 h=>?_) (λc1 h=>?_)
 ·exact kc 20 c1<|gi 9 [1,2,11,20] [(29,VT)]<|l7 29<|ar 3<|hH 2 [8,9] [vi 0,VF] hQ h
 refine kc 20 (zZ c1)<|fd 4 [11,20] [(24,.bool (!rb))]<|jn h (λc3 h=>?_) (λc3 h=>?_)
 ·have b4:(!rb)=false:=Eg Bool.not (c3);have b42:rb=true:=c3;refine kc 24 (b:=(!rb)) (v:=false) (by simp only[b4,b42,Es,Ep]) ?_;clear b4 b42;refine fd 1 [1] [(25,vu b)]<|l5 26 [25] h λr H3 h=>gi 3 [2,24,26] [(29,.bool (r !=g))]<|jn h (λc5 h=>?_) (λc5 h=>?_)
  ·refine aG 29 (Em.mpr c5)<|kT<|ar 4<|fd 1 [0,29] [(31,vp d)] ?_;obtain⟨t,rfl,ha⟩:=h;refine fd 2 [31] [(33,Vq t)]<|have⟨z,q7,h⟩:=ha;hV 34 50 q7 [33] ?_;obtain⟨u,rfl,hb⟩:=h;refine fd 2 [34] [(36,Vq u)]<|have⟨aa,q8,h⟩:=hb;hV 37 79 q8 [36] ?_;obtain⟨y,rfl,hc⟩:=h;refine fd 2 [37] [(39,Vq y)]<|have⟨s,q9,h⟩:=hc;hV 40 115 q9 [39]<|fd 2 [] [(42,vi (zY (Int.tdiv ra 64)))]<|B7 43 [40,42] h λm k q hv e f wv j H4 h=>fd 3 [43] [(44,.agg #[vi m,vi k,vi q,vi hv,vi e,vi f,vi wv]),(45,.bool j)]<|l1 (some 12) (λR=>vp (pa R)) (.cells GL 127)<|λR H5 e10 e11=>have h:=h R H5 e10 e11;im [] [(12,vp (pa R))]<|have⟨q13,h⟩:=h;bF 127 [vi m,vi k,vi q,vi hv,vi e,vi f,vi wv] q13<|λH6 e12=>have h:=h H6 e12;im [44] []<|gi 1 [45] [(11,.bool j)]<|gv<|mO 5<|hX 46 (vi ra) []<|hX 47 (.bool j) [11]<|hX 48 (.bool j) [47]<|jn h (λc14 h=>?_) (λc14 h=>?_)
   ·refine Bd 48 c14<|hX 49 (Vq ((ad R).add 1)) []<|have⟨o,q16,h⟩:=h;lw (some 50) 3 q16 [49] [(50,vi o)]<|hX 51 (vi i) [3]<|hX 52 (.bool (o==i)) [50,51]<|hX 53 (.bool (o==i)) [48,52]<|hX 54 (.bool (o==i)) [53]<|jn h (λc17 h=>?_) (λc17 h=>?_)
    ·exact Bd 54 (zK c17)<|hX 55 (vi ra) [10]<|hX 56 (vi (tmod ra 64)) [55]<|hX 57 (Vq ((ad R).add 2)) [12]<|have⟨p,q19,h⟩:=h;lw (some 58) 3 q19 [57] [(58,vi p)]<|hX 59 (.bool (decide ((tmod ra 64)<p))) [56,58]<|hX 60 (.bool (decide ((tmod ra 64)<p))) [54,59]<|hX 8 (vi ra) [46]<|hX 9 (.bool (decide ((tmod ra 64)<p))) [60]<|iQ [(8,vi ra),(9,.bool (decide ((tmod ra 64)<p)))] sk<|Bk<|ix [8,9] [vi ra,.bool (decide ((tmod ra 64)<p))] hQ h
    exact Bd 54 (zJ c17)<|hX 55 (undef) [10]<|hX 56 (undef) [55]<|hX 57 (undef) [12]<|hX 58 (undef) [57]<|hX 59 (undef) [56,58]<|hX 60 VF [54,59]<|hX 8 (vi ra) [46]<|hX 9 VF [60]<|iQ [(8,vi ra),(9,VF)] sk<|Bk<|ix [8,9] [vi ra,VF] hQ h
   exact Bd 48 (zZ c14)<|hX 49 (undef) []<|hX 50 (undef) [49]<|hX 51 (undef) [3]<|hX 52 (undef) [50,51]<|hX 53 VF [48,52]<|hX 54 VF [53]<|hX 55 (undef) [10]<|hX 56 (undef) [55]<|hX 57 (undef) [12]<|hX 58 (undef) [57]<|hX 59 (undef) [56,58]<|hX 60 VF [54,59]<|hX 8 (vi ra) [46]<|hX 9 VF [60]<|iQ [(8,vi ra),(9,VF)] sk<|Bk<|ix [8,9] [vi ra,VF] hQ h
  exact aH 29 (En.mpr c5)<|ar 3<|hH 2 [8,9] [vi 0,VF] hQ h
 have b4:(!rb)=true:=Eg Bool.not (zZ c3);have b42:rb=false:=zZ c3;refine kc 24 (b:=(!rb)) (v:=true) (by simp only[b4,b42,Es,Ep]) ?_;clear b4 b42;exact gi 5 [1,2,24] [(29,VT)]<|l7 29<|ar 3<|hH 2 [8,9] [vi 0,VF] hQ h
def fV.K0:=GC f150
def fV.pt(hv:zW)(wv a i:Int):GJ:=λH R=>
 cO.C hv wv H (λv H1=> ∃ra rb rc rd re,v=.tuple #[vi ra,vi rb,vi rc,vu rd,.bool re]/\
 if((!re) || (rb !=a))=true then(
 R (.tuple #[vi 0,vi 3]) H1)
 else
 if((decide (i<0)) || (decide (i>=rc)))=true then(
 R (.tuple #[vi 0,vi 4]) H1)
 else
 R (.tuple #[vi (zY ((zY (ra+1))+i)),vi 0]) H1)
theorem fV.link(h:pt d b g i H a):C d b g i H a:=by
 refine l2 K0 44 func150 ?_;intro w0 Q hQ;unfold pt zY at h;refine ki [(0,vp d),(1,vu b),(2,vi g),(3,vi i)]<|ar 0<|gi 2 [] []<|ar 1<|fd 2 [0,1] [(16,vp d),(17,vu b)]<|Cm 18 [16,17] h λra rb rc rd re H1 h=>gi 11 [18] [(10,vi ra),(11,vi rb),(12,vi rc),(14,.bool re)]<|gv<|k5 0<|ar 2<|gU [(3,vi i),(10,vi ra),(12,vi rc),(24,.bool ((!re) || (rb !=g)))] ?_ ?_
 ·refine aE<|jn h (λc3 h=>?_) (λc3 h=>?_)
  ·exact aH 24 c3<|ar 3<|hH 2 [8,9] [vi 0,vi 3] hQ h
  refine aG 24 (zZ c3)<|ar 4<|gU [(3,vi i),(10,vi ra),(32,.bool ((decide (i<0)) || (decide (i>=rc))))] ?_ ?_
  ·refine aE<|jn h (λc7 h=>?_) (λc7 h=>?_)
   ·exact aH 32 c7<|ar 5<|hH 2 [8,9] [vi 0,vi 4] hQ h
   exact aG 32 (zZ c7)<|Bn<|aD<|aE<|ar 6<|hH 6 [8,9] [vi (zY ((zY (ra+1))+i)),vi 0] hQ h
  refine λhk=>nb 3 [(3,vi i),(10,vi ra),(12,vi rc),(35,.bool (decide (i<0)))] ?_;by_cases c5:i<0
  ·have b6:(decide (i<0))=true:=zX c5;exact bW [(3,vi i),(10,vi ra),(12,vi rc),(35,VT)] (by rw[b6])<|fd 5 [12,35] [(32,VT)]<|zq<|n7 32 (b:=true) (v:=((decide (i<0)) || (decide (i>=rc)))) (by simp only[b6,BL])<|hk
  have b6:(decide (i<0))=false:=zQ c5;exact bW [(3,vi i),(10,vi ra),(12,vi rc),(35,VF)] (by rw[b6])<|fd 5 [12,35] [(32,.bool (decide (i>=rc)))]<|zq<|n7 32 (b:=(decide (i>=rc))) (v:=((decide (i<0)) || (decide (i>=rc)))) (by simp only[b6,BL])<|hk
 refine λhk=>nb 3 [(2,vi g),(3,vi i),(10,vi ra),(11,vi rb),(12,vi rc),(27,.bool (!re))] ?_;by_cases c1:re=true
 ·have b2:(!re)=false:=Eg Bool.not (c1);have b22:re=true:=c1;exact bW [(2,vi g),(3,vi i),(10,vi ra),(11,vi rb),(12,vi rc),(27,VF)] (by simp only[b2,b22,Es,Ep])<|fd 5 [2,11,27] [(24,.bool (rb !=g))]<|zq<|n7 24 (b:=(rb !=g)) (v:=((!re) || (rb !=g))) (by simp only[b2,BL])<|hk
 have b2:(!re)=true:=Eg Bool.not (zZ c1);have b22:re=false:=zZ c1;exact bW [(2,vi g),(3,vi i),(10,vi ra),(11,vi rb),(12,vi rc),(27,VT)] (by simp only[b2,b22,Es,Ep])<|fd 5 [2,11,27] [(24,VT)]<|zq<|n7 24 (b:=true) (v:=((!re) || (rb !=g))) (by simp only[b2,BL])<|hk
end Go.Proofs.YtillhdiiglamhaaGreatDoor
namespace Go.Proofs.YtillhdiiglamhaaGreatDoor
open Go Go.Proofs.Tryz
open Int(toNat)
variable{H:zV}{a:zW}{b:zk}{d:Int}
namespace gX
def K0:=GC f21
def K2:=cb K0
def K4:=cb K2
def K6:=cb K4
def Bj:=cb K6
def B6:=cb Bj
def Ch:=ca B6
def CO:=cb Ch
def B8:=ca CO
def CJ:=ca B8
end gX
def gX.pt(hv:zW)(al:Bool)(ac:zW)(aa ab:Nat):GJ:=λH R=>
 ∀b H1,b=H.size->H1=H.push (.cells #[.bool al,vs ac aa ab] 24)->
 ∃ak y z u,aI H1 (ad b) 0 [.bool ak,vs y z u]/\
 kw.C ak y z u H1 (λv H2=> ∃m f g e rb,v=.tuple #[.agg #[.bool m,vs f g e],vi rb]/\
 ∀d H3,d=H2.size->H3=H2.push (.cells #[VF,VN] 24)->
 (aF H3 (ad d) 0 2)/\ ∀H4,H4=aL H3 (ad d) [.bool m,vs f g e] 0->
 if rb=0 then(
 ∃r o q p,aI H4 (ad d) 0 [.bool r,vs o q p]/\
 k7.C r o q p H4 (λax H5=> ∃ra s,ax=.tuple #[vi ra,.bool s]/\
 if s=true then(
 kx.C ra H5 (λay H6=> ∃ai ag,ay=.tuple #[vu ai,vi ag]/\
 R (.tuple #[vu ai,vi ag]) H6))
 else
 ∃xB xN xC,hat H5 ((ad d).add 1)=some (vs xB xN xC)/\
 ∃(aq:zW->Nat->Nat->zv) (m29:zW->Nat->Nat->Int->zV->Nat),aq none 0 0 0 H5/\ ∀lB lN lC s35 H7,aq lB lN lC s35 H7->
 if s35< (xN:Int)then(
 ∃j,xB=some j/\
 zw s35 xN/\
 ∃x,hat H7 (j.add (toNat s35*1))=some (.int .u32 x)/\
 ∀ao H8,ao=H7.size->H8=H7.push (.cells #[vu (IntKind.wrap .u64 x)] 37)->
 dY 1 37 8 [vu 0] lB lN lC (some (ad ao)) 1 H8 (λap an H9=>
 (aq ap (lN+1) an (zY (s35+1)) H9/\m29 ap (lN+1) an (zY (s35+1)) H9<m29 lB lN lC s35 H7)))
 else
 ∃am,hat H7 (ad d)=some (.bool am)/\
 if am=true then(
 dO.C hv 3 1 lB lN lC H7 (λaw az=> ∃aj ae,aw=.tuple #[vu aj,vi ae]/\
 R (.tuple #[vu aj,vi ae]) az))
 else
 dO.C hv 3 0 lB lN lC H7 (λau av=> ∃af ah,au=.tuple #[vu af,vi ah]/\
 R (.tuple #[vu af,vi ah]) av)))
 else
 R (.tuple #[vu 0,vi rb]) H4)
theorem gX.link{al:Bool}{ac:zW}{aa ab:Nat}(h:pt a al ac aa ab H b):C a al ac aa ab H b:=by
 refine l2 K0 53 func21 ?_;intro w0 Q hQ;unfold pt zY at h;refine ki [(0,vp a),(1,.agg #[.bool al,vs ac aa ab])]<|ar 0<|l1 (some 3) (λR=>vp (pa R)) (.cells #[.bool al,vs ac aa ab] 24)<|λR H1 e1 e2=>have h:=h R H1 e1 e2;im [1] [(3,vp (pa R))]<|gi 2 [] []<|ar 1<|have⟨ak,y,z,u,q3,h⟩:=h;na 15 24 q3 [3]<|Cm 16 [15] h λm f g e rb H2 h=>fd 3 [16] [(17,.agg #[.bool m,vs f g e]),(18,vi rb)]<|l1 (some 6) (λR=>vp (pa R)) (.cells #[VF,VN] 24)<|λd H3 e4 e5=>have h:=h d H3 e4 e5;im [] [(6,vp (pa d))]<|have⟨q7,h⟩:=h;bF 24 [.bool m,vs f g e] q7<|λH4 e6=>have h:=h H4 e6;im [17] []<|gi 1 [18] [(7,vi rb)]<|gv<|ar 2<|gi 2 [] [(20,.bool (rb !=0))]<|jn h (λc8 h=>?_) (λc8 h=>?_)
 ·refine aG 20 (Em.mpr c8)<|kT<|gv<|ar 4<|p0 [7,20] []<|have⟨r,o,q,p,q10,h⟩:=h;na 23 24 q10 []<|vr 24 [23] h λra s H5 h=>gi 5 [24] [(8,vi ra),(9,.bool s)]<|ar 5<|gi 1 [9] [(27,.bool s)]<|jn h (λc11 h=>?_) (λc11 h=>?_)
  ·exact aH 27 c11<|ar 6<|nb 1 [(28,vi ra)]<|Bh 29 (λai ag=>[(29,.tuple #[vu ai,vi ag])]) h λai ag H6 h=>hH 4 [4,5] [vu ai,vi ag] hQ h
  refine aG 27 (zZ c11)<|kT<|ar 7<|gi 1 [8,27] [(10,VN)]<|gv<|ar 8<|fd 1 [] [(32,Vq ((ad d).add 1))]<|have⟨xB,xN,xC,q13,h⟩:=h;hV 33 22 q13 [32]<|gi 2 [] [(34,vi xN),(35,vi 0)]<|k5 0<|have⟨aq,m29,i14,i15⟩:=h;bI (x:=CJ) (σ:=zW×Nat×Nat×Int) (λs_=> [(0,vp a),(6,vp (pa d)),(10,vs s_.1 s_.2.1 s_.2.2.1),(33,vs xB xN xC),(34,vi xN),(35,vi s_.2.2.2)]) (λs_ H=>aq s_.1 s_.2.1 s_.2.2.1 s_.2.2.2 H) (λs_ H=>m29 s_.1 s_.2.1 s_.2.2.1 s_.2.2.2 H) ((none,0,0,0):zW×Nat×Nat×Int) GE i14 sk ?_;rintro⟨lB,lN,lC,s35⟩ H7 i16;have h:=i15 lB lN lC s35 H7 i16;refine ki [(0,vp a),(6,vp (pa d)),(10,vs lB lN lC),(33,vs xB xN xC),(34,vi xN),(35,vi s35)]<|ar 9<|gi 1 [] [(36,.bool (decide (s35< (xN:Int))))]<|gv<|jn h (λc17 h=>?_) (λc17 h=>?_)
  ·refine aH 36 (zX c17)<|kT<|gv<|k5 1<|ar 10<|p0 [36] [] ?_;obtain⟨j,rfl,q19,ha⟩:=h;refine ww (some 37) 22 91 1 j xN xC .i64 s35 ET q19.1 q19.2 [33] [(33,vs (some j) xN xC),(37,Vq (j.add (toNat s35*1)))]<|have⟨x,q20,h⟩:=ha;hV 38 91 q20 [37]<|gi 1 [38] [(12,.int .u32 x)]<|k4 11<|fd 3 [10,12] [(39,vs lB lN lC),(41,vu (GD x))]<|l1 (some 42) (λR=>vs (pa R) 1 1) (.cells #[vu (GD x)] 37) ?_;intro ao H8 e21 e22;replace h:=h ao H8 e21 e22;refine im [41] [(42,vs (pa ao) 1 1)]<|xl (some 43) (eM #[53,53] 53 #[vs lB lN lC,vs (pa ao) 1 1]) _ Et (cT (T:=37) (sz:=1) (bytes:=8) (zero:=(vu 0:Value)) EY EY rfl (show prog.info? 37=some t37 from GE) GE GE GG GE (by first | exact h | (simpa only[Value.cells,EI]using h))) ?_;clear h;rintro _ H9 ⟨ap,an,rfl,h⟩;exact im [39,42] [(43,vs ap (lN+1) an)]<|fd 1 [43] [(10,vs ap (lN+1) an)]<|zq<|aD<|aE<|k4 12<|gi 2 [35] [(35,vi (zY (s35+1)))]<|aQ ((ap,(lN+1),an,(zY (s35+1))):zW×Nat×Nat×Int) sk h
  refine aG 36 (zQ c17)<|zj 0<|aA<|aA<|aJ<|aE<|ar 13<|gi 1 [33,34,35,36] [(13,vu 0)]<|gv<|ar 14<|fd 1 [6] [(45,vp (pa d))]<|have⟨am,q23,h⟩:=h;hV 46 4 q23 [45]<|ue<|jn h (λc24 h=>?_) (λc24 h=>?_)
  ·exact aH 46 c24<|k4 15<|gi 1 [13,46] [(13,vu 1)]<|ar 16<|nb 3 [(47,vp a),(48,vu 1),(49,vs lB lN lC)]<|Bh 50 (λaj ae=>[(50,.tuple #[vu aj,vi ae])]) h λaj ae az h=>hH 4 [4,5] [vu aj,vi ae] hQ h
  exact aG 46 (zZ c24)<|kT<|ar 16<|nb 3 [(47,vp a),(48,vu 0),(49,vs lB lN lC)]<|Bh 50 (λaf ah=>[(50,.tuple #[vu af,vi ah])]) h λaf ah av h=>hH 4 [4,5] [vu af,vi ah] hQ h
 exact aH 20 (En.mpr c8)<|ar 3<|hH 3 [4,5] [vu 0,vi rb] hQ h
namespace fi
def K0:=GC f22
def K2:=cb K0
def K4:=cb K2
def K5:=ca K4
def K8:=cb K5
def K9:=ca K8
def BE:=ca K9
end fi
def fi.pt(hv:zW)(s:ByteArray):GJ:=λH R=>
 ∀b H1,b=H.size->H1=H.push (.stringIter s 0)->
 ∃(f:zW->Nat->Nat->zV->Prop) (m11:zW->Nat->Nat->zV->Nat),f none 0 0 H1/\ ∀lB lN lC H2,f lB lN lC H2->
 ∃a pos,H2[b]?=some (.stringIter a pos)/\
 if pos<a.size then(∀H3,H3=bR H2 b (.stringIter a (pos+(Utf8.decode a pos).2))->
 ∀e H4,e=H3.size->H4=H3.push (.cells #[vu (IntKind.wrap .u64 ((Utf8.decode a pos).1:Int))] 37)->
 dY 1 37 8 [vu 0] lB lN lC (some (ad e)) 1 H4 (λap d H5=>
 if((lN+1):Int)>62 then(
 R (.tuple #[vu 0,vi 6]) H5)
 else
 (f ap (lN+1) d H5/\m11 ap (lN+1) d H5<m11 lB lN lC H2)))
 else
 dO.C hv 2 0 lB lN lC H2 (λv H6=> ∃ra rb,v=.tuple #[vu ra,vi rb]/\
 R (.tuple #[vu ra,vi rb]) H6)
theorem fi.link{s:ByteArray}(h:pt a s H b):C a s H b:=by
 refine l2 K0 27 func22 ?_;intro w0 Q hQ;unfold pt at h;refine ki [(0,vp a),(1,.string s)]<|ar 0<|gi 2 [] []<|ar 1<|gi 1 [] [(6,VN)]<|gv<|ar 2<|fd 1 [1] [(9,.string s)]<|l1 (some 10) (λhv=>vp (pa hv)) (.stringIter s 0)<|λhv H1 e1 e2=>have h:=h hv H1 e1 e2;im [9] [(10,vp (pa hv))]<|ue<|k5 0<|have⟨f,m11,i3,i4⟩:=h;bI (x:=BE) (σ:=zW×Nat×Nat) (λs_=> [(0,vp a),(6,vs s_.1 s_.2.1 s_.2.2),(10,vp (pa hv))]) (λs_ H=>f s_.1 s_.2.1 s_.2.2 H) (λs_ H=>m11 s_.1 s_.2.1 s_.2.2 H) ((none,0,0):zW×Nat×Nat) GE i3 sk ?_;rintro⟨lB,lN,lC⟩ H2 i5;have h:=i4 lB lN lC H2 i5;refine ki [(0,vp a),(6,vs lB lN lC),(10,vp (pa hv))]<|ar 3<|have⟨R,pos,q6,h⟩:=h;jn h (λc7 h=>?_) (λc7 h=>?_)
 ·refine xl (some 11) (pb (vp (pa hv)) true 0) _ Et (wt q6 c7) ?_;rintro _ H3 ⟨rfl,e12⟩;refine have h:=h H3 (by assumption);im [] [(11,.tuple #[VT,vi pos,.int .i32 ((Utf8.decode R pos).1:Int)])]<|gi 1 [] [(12,VT)]<|gv<|l7 12<|kT<|k5 1<|ar 4<|gi 2 [11,12] [(8,.int .i32 ((Utf8.decode R pos).1:Int))]<|ar 5<|fd 3 [6,8] [(14,vs lB lN lC),(16,vu (GD ((Utf8.decode R pos).1:Int)))]<|l1 (some 17) (λhv=>vs (pa hv) 1 1) (.cells #[vu (GD ((Utf8.decode R pos).1:Int))] 37) ?_;intro e H4 e8 e9;replace h:=h e H4 e8 e9;refine im [16] [(17,vs (pa e) 1 1)]<|xl (some 18) (eM #[53,53] 53 #[vs lB lN lC,vs (pa e) 1 1]) _ Et (cT (T:=37) (sz:=1) (bytes:=8) (zero:=(vu 0:Value)) EY EY rfl (show prog.info? 37=some t37 from GE) GE GE GG GE (by first | exact h | (simpa only[Value.cells,EI]using h))) ?_;clear h;rintro _ H5 ⟨ap,d,rfl,h⟩;refine im [14,17] [(18,vs ap (lN+1) d)]<|gi 1 [18] [(6,vs ap (lN+1) d)]<|ar 6<|gi 3 [] [(21,.bool (decide (((lN+1):Int)>62)))]<|jn h (λc10 h=>?_) (λc10 h=>?_)
  ·exact aH 21 (zX c10)<|ar 7<|hH 2 [4,5] [vu 0,vi 6] hQ h
  exact aG 21 (zQ c10)<|Bn<|aD<|aE<|aQ ((ap,(lN+1),d):zW×Nat×Nat) sk h
 refine xl (some 11) (pb (vp (pa hv)) true 0) _ Et (tU q6 c7) ?_;rintro _ _ ⟨rfl,rfl⟩;exact im [] [(11,.tuple #[VF])]<|gi 1 [] [(12,VF)]<|gv<|pN 12<|zj 0<|aA<|aA<|aJ<|aE<|ar 8<|nb 2 [(22,vp a),(23,vs lB lN lC)]<|Bh 24 (λra rb=>[(24,.tuple #[vu ra,vi rb])]) h λra rb H6 h=>hH 4 [4,5] [vu ra,vi rb] hQ h
namespace gY
def K0:=GC f59
def K2:=cb K0
def K4:=cb K2
def Bt:=cb K4
def BF:=cb Bt
def B6:=cb BF
def Ch:=ca B6
def CO:=cb Ch
def B8:=ca CO
def CJ:=ca B8
end gY
def gY.pt(hv:zW)(wv:Int):GJ:=λH R=>
 ∀b H1,b=H.size->H1=H.push (.cells #[VF,VN] 24)->
 kz.C wv H1 (λv H2=> ∃ra rb,v=.tuple #[vi ra,.bool rb]/\
 if rb=true then(
 mf.C ra H2 (λbk H3=> ∃ax ac ae ab,bk=.agg #[.bool ax,vs ac ae ab]/\
 (aF H3 (ad b) 0 2)/\ ∀H4,H4=aL H3 (ad b) [.bool ax,vs ac ae ab] 0->
 ∃a9 a6 a4 a5,aI H4 (ad b) 0 [.bool a9,vs a6 a4 a5]/\
 R (.tuple #[.agg #[.bool a9,vs a6 a4 a5],vi 0]) H4))
 else
 fI.C hv wv 3 H2 (λbl H5=> ∃q d g z,bl=.tuple #[vs q d g,.bool z]/\
 if z=true then(
 fQ.C hv wv H5 (λbj H6=> ∃x,bj=vu x/\
 ∀e H7,e=H6.size->H7=H6.push (.cells #[VF,VN] 24)->
 (aF H7 (ad e) 0 2)/\ ∀H8,H8=aL H7 (ad e) [.bool (x==1),VN] 0->
 ∃(ba:zv) (m29:Int->zV->Nat),ba 0 H8/\ ∀f H9,ba f H9->
 if f< (d:Int)then(
 ∃j,q=some j/\
 zw f d/\
 ∃av,hat H9 (j.add (toNat f*1))=some (vu av)/\
 ∃xB xN xC,hat H9 ((ad e).add 1)=some (vs xB xN xC)/\
 ∀a8 H10,a8=H9.size->H10=H9.push (.cells #[.int .u32 (IntKind.wrap .u32 av)] 91)->
 dY 1 91 4 [.int .u32 0] xB xN xC (some (ad a8)) 1 H10 (λap a7 bh=>
 (aF bh ((ad e).add 1) 0 1)/\ ∀bf,bf=aL bh ((ad e).add 1) [vs ap (xN+1) a7] 0->
 (ba (zY (f+1)) bf/\m29 (zY (f+1)) bf<m29 f H9)))
 else
 ∃aa s y u,aI H9 (ad e) 0 [.bool aa,vs s y u]/\
 kP.C aa s y u H9 (λbi be=> ∃aw,bi=.bool aw/\
 if aw=true then(
 fQ.C hv wv be (λbm a2=> ∃a3,bm=vu a3/\
 if a3>1 then(
 (aF a2 (ad b) 0 2)/\ ∀bc,bc=aL a2 (ad b) [VF,VN] 0->
 ∃ay ao ah ai,aI bc (ad b) 0 [.bool ay,vs ao ah ai]/\
 R (.tuple #[.agg #[.bool ay,vs ao ah ai],vi 3]) bc)
 else
 ∃r m o p,aI a2 (ad e) 0 [.bool r,vs m o p]/\
 (aF a2 (ad b) 0 2)/\ ∀bd,bd=aL a2 (ad b) [.bool r,vs m o p] 0->
 ∃az ag am an,aI bd (ad b) 0 [.bool az,vs ag am an]/\
 R (.tuple #[.agg #[.bool az,vs ag am an],vi 0]) bd))
 else
 (aF be (ad b) 0 2)/\ ∀bb,bb=aL be (ad b) [VF,VN] 0->
 ∃a0 al au aj,aI bb (ad b) 0 [.bool a0,vs al au aj]/\
 R (.tuple #[.agg #[.bool a0,vs al au aj],vi 3]) bb)))
 else
 (aF H5 (ad b) 0 2)/\ ∀bg,bg=aL H5 (ad b) [VF,VN] 0->
 ∃a1 af aq ak,aI bg (ad b) 0 [.bool a1,vs af aq ak]/\
 R (.tuple #[.agg #[.bool a1,vs af aq ak],vi 3]) bg))
theorem gY.link(h:pt a d H b):C a d H b:=by
 refine l2 K0 60 func59 ?_;intro w0 Q hQ;unfold pt zY at h;refine ki [(0,vp a),(1,vu d)]<|ar 0<|l1 (some 4) (λR=>vp (pa R)) (.cells #[VF,VN] 24)<|λR H1 e1 e2=>have h:=h R H1 e1 e2;im [] [(4,vp (pa R))]<|gi 1 [] []<|gv<|ar 1<|fd 1 [] [(14,vu d)]<|vr 15 [14] h λra rb H2 h=>gi 5 [15] [(6,vi ra),(7,.bool rb)]<|ar 2<|gi 1 [7] [(18,.bool rb)]<|jn h (λc3 h=>?_) (λc3 h=>?_)
 ·refine aH 18 c3<|ar 3<|nb 1 [(4,vp (pa R)),(19,vi ra)]<|Bs (some 20) h ?_;clear h;rintro bk H3 ⟨ax,ac,ae,ab,rfl,h⟩;refine im [19] [(20,.agg #[.bool ax,vs ac ae ab])]<|have⟨q6,h⟩:=h;bF 24 [.bool ax,vs ac ae ab] q6<|λH4 e5=>have h:=h H4 e5;im [20] []<|gi 1 [] [(5,vi 0)]<|zx ?_;show At _ _ _ _ _ (Q .ret);exact have⟨a9,a6,a4,a5,q7,h⟩:=h;bY (fn:=f59) [.agg #[.bool a9,vs a6 a4 a5],vi 0] hQ (show bG _ _ _ [.cell 4 24,.tmp 5] _ from .cell GE (aR Et Et q7) (.tmp GE (.nil))) h
 refine aG 18 (zZ c3)<|kT<|ar 4<|fd 2 [6,18] [(22,vp a),(23,vu d)]<|C4 24 [22,23] h λq wv g z H5 h=>gi 5 [24] [(8,vs q wv g),(9,.bool z)]<|gv<|ar 5<|gi 2 [9] [(28,.bool (!z))]<|jn h (λc8 h=>?_) (λc8 h=>?_)
 ·refine aG 28 (Eg Bool.not (c8))<|kT<|ar 7<|fd 2 [28] [(30,vp a),(31,vu d)]<|l5 32 [30,31] h λx H6 h=>fd 2 [32] [(34,.agg #[.bool (x==1),VN])]<|l1 (some 10) (λR=>vp (pa R)) (.cells #[VF,VN] 24)<|λe H7 e10 e11=>have h:=h e H7 e10 e11;im [] [(10,vp (pa e))]<|have⟨q13,h⟩:=h;bF 24 [.bool (x==1),VN] q13<|λH8 e12=>have h:=h H8 e12;im [34] []<|ue<|gv<|ar 8<|gi 3 [8] [(35,vs q wv g),(36,vi wv),(37,vi 0)]<|k5 0<|have⟨ba,m29,i14,i15⟩:=h;bI (x:=CJ) (σ:=Int) (λs_=> [(0,vp a),(1,vu d),(4,vp (pa R)),(10,vp (pa e)),(35,vs q wv g),(36,vi wv),(37,vi s_)]) (λs_ H=>ba s_ H) (λs_ H=>m29 s_ H) (0:Int) GE i14 sk ?_;rintro f H9 i16;have h:=i15 f H9 i16;refine ki [(0,vp a),(1,vu d),(4,vp (pa R)),(10,vp (pa e)),(35,vs q wv g),(36,vi wv),(37,vi f)]<|ar 9<|gi 1 [] [(38,.bool (decide (f< (wv:Int))))]<|gv<|jn h (λc17 h=>?_) (λc17 h=>?_)
  ·refine aH 38 (zX c17)<|kT<|gv<|k5 1<|ar 10<|p0 [38] [] ?_;obtain⟨j,rfl,q19,ha⟩:=h;refine ww (some 39) 53 37 1 j wv g .i64 f EY q19.1 q19.2 [35] [(35,vs (some j) wv g),(39,Vq (j.add (toNat f*1)))]<|have⟨av,q20,h⟩:=ha;hV 40 37 q20 [39]<|gi 1 [40] [(12,vu av)]<|k4 11<|fd 1 [] [(41,Vq ((ad e).add 1))]<|have⟨xB,xN,xC,q21,h⟩:=h;hV 42 22 q21 [41]<|fd 2 [12] [(44,.int .u32 (IntKind.wrap .u32 av))]<|l1 (some 45) (λR=>vs (pa R) 1 1) (.cells #[.int .u32 (IntKind.wrap .u32 av)] 91) ?_;intro a8 H10 e22 e23;replace h:=h a8 H10 e22 e23;refine im [44] [(45,vs (pa a8) 1 1)]<|xl (some 46) (eM #[22,22] 22 #[vs xB xN xC,vs (pa a8) 1 1]) _ Et (cT (T:=91) (sz:=1) (bytes:=4) (zero:=(.int .u32 0:Value)) ET ET rfl (show prog.info? 91=some t91 from GE) GE GE GG GE (by first | exact h | (simpa only[Value.cells,EI]using h))) ?_;clear h;rintro _ bh ⟨ap,a7,rfl,h⟩;exact im [42,45] [(46,vs ap (xN+1) a7)]<|fd 1 [] [(47,Vq ((ad e).add 1))]<|have⟨q25,h⟩:=h;fj 22 (vs ap (xN+1) a7) q25<|λbf e24=>have h:=h bf e24;im [46,47] []<|zq<|aD<|aE<|k4 12<|gi 2 [37] [(37,vi (zY (f+1)))]<|aQ ((zY (f+1)):Int) sk h
  refine aG 38 (zQ c17)<|zj 0<|aA<|aA<|aJ<|aE<|gv<|ar 13<|p0 [35,36,37,38] []<|have⟨aa,s,y,u,q26,h⟩:=h;na 49 24 q26 []<|l5 50 [49] h λaw be h=>fd 2 [50] [(52,.bool (!aw))]<|jn h (λc27 h=>?_) (λc27 h=>?_)
  ·have b28:(!aw)=false:=Eg Bool.not (c27);have b282:aw=true:=c27;refine kc 52 (b:=(!aw)) (v:=false) (by simp only[b28,b282,Es,Ep]) ?_;clear b28 b282;refine fd 2 [0,1] [(53,vp a),(54,vu d)]<|l5 55 [53,54] h λa3 a2 h=>gi 2 [52,55] [(57,.bool (decide (a3>1)))]<|jn h (λc29 h=>?_) (λc29 h=>?_)
   ·refine aH 57 (zX c29)<|ar 14<|fd 1 [10,57] [(58,.agg #[VF,VN])]<|have⟨q32,h⟩:=h;bF 24 [VF,VN] q32<|λbc e31=>have h:=h bc e31;im [58] []<|gi 1 [] [(5,vi 3)]<|zx ?_;show At _ _ _ _ _ (Q .ret);exact have⟨ay,ao,ah,ai,q33,h⟩:=h;bY (fn:=f59) [.agg #[.bool ay,vs ao ah ai],vi 3] hQ (show bG _ _ _ [.cell 4 24,.tmp 5] _ from .cell GE (aR Et Et q33) (.tmp GE (.nil))) h
   refine aG 57 (zQ c29)<|kT<|ar 15<|p0 [57] []<|have⟨r,m,o,p,q34,h⟩:=h;na 59 24 q34 [10]<|have⟨q36,h⟩:=h;bF 24 [.bool r,vs m o p] q36<|λbd e35=>have h:=h bd e35;im [59] []<|gi 1 [] [(5,vi 0)]<|zx ?_;show At _ _ _ _ _ (Q .ret);exact have⟨az,ag,am,an,q37,h⟩:=h;bY (fn:=f59) [.agg #[.bool az,vs ag am an],vi 0] hQ (show bG _ _ _ [.cell 4 24,.tmp 5] _ from .cell GE (aR Et Et q37) (.tmp GE (.nil))) h
  have b28:(!aw)=true:=Eg Bool.not (zZ c27);have b282:aw=false:=zZ c27;refine kc 52 (b:=(!aw)) (v:=true) (by simp only[b28,b282,Es,Ep]) ?_;clear b28 b282;refine gi 5 [0,1,52] [(57,VT)]<|l7 57<|ar 14<|fd 1 [10,57] [(58,.agg #[VF,VN])]<|have⟨q39,h⟩:=h;bF 24 [VF,VN] q39<|λbb e38=>have h:=h bb e38;im [58] []<|gi 1 [] [(5,vi 3)]<|zx ?_;show At _ _ _ _ _ (Q .ret);exact have⟨a0,al,au,aj,q40,h⟩:=h;bY (fn:=f59) [.agg #[.bool a0,vs al au aj],vi 3] hQ (show bG _ _ _ [.cell 4 24,.tmp 5] _ from .cell GE (aR Et Et q40) (.tmp GE (.nil))) h
 refine aH 28 (Eg Bool.not (zZ c8))<|ar 6<|nb 1 [(4,vp (pa R)),(29,.agg #[VF,VN])]<|have⟨q42,h⟩:=h;bF 24 [VF,VN] q42<|λbg e41=>have h:=h bg e41;im [29] []<|gi 1 [] [(5,vi 3)]<|zx ?_;show At _ _ _ _ _ (Q .ret);exact have⟨a1,af,aq,ak,q43,h⟩:=h;bY (fn:=f59) [.agg #[.bool a1,vs af aq ak],vi 3] hQ (show bG _ _ _ [.cell 4 24,.tmp 5] _ from .cell GE (aR Et Et q43) (.tmp GE (.nil))) h
namespace fO
def K0:=GC f61
def K2:=cb K0
def K4:=cb K2
def K6:=cb K4
def Bj:=cb K6
def BK:=ca Bj
def BF:=cb BK
def Bu:=ca BF
def BZ:=ca Bu
end fO
def fO.pt(hv:zW)(wv:Int):GJ:=λH R=>
 fI.C hv wv 2 H (λv H1=> ∃g d e rb,v=.tuple #[vs g d e,.bool rb]/\
 if rb=true then(
 ∃(p:zW->Nat->Nat->zv) (m19:zW->Nat->Nat->Int->zV->Nat),p none 0 0 0 H1/\ ∀sB sN sC s21 H2,p sB sN sC s21 H2->
 if s21< (d:Int)then(
 ∃f,g=some f/\
 zw s21 d/\
 ∃x,hat H2 (f.add (toNat s21*1))=some (vu x)/\
 if x>1114111 then(
 ∀b H3,b=H2.size->H3=H2.push (.cells #[.int .i32 (IntKind.wrap .i32 65533)] 21)->
 dY 1 21 4 [.int .i32 0] sB sN sC (some (ad b)) 1 H3 (λap o H4=>
 (p ap (sN+1) o (zY (s21+1)) H4/\m19 ap (sN+1) o (zY (s21+1)) H4<m19 sB sN sC s21 H2)))
 else
 ∀q H5,q=H2.size->H5=H2.push (.cells #[.int .i32 (IntKind.wrap .i32 x)] 21)->
 dY 1 21 4 [.int .i32 0] sB sN sC (some (ad q)) 1 H5 (λm j H6=>
 (p m (sN+1) j (zY (s21+1)) H6/\m19 m (sN+1) j (zY (s21+1)) H6<m19 sB sN sC s21 H2)))
 else
 ∃rs:List Int,(bV H2 sB (rs.map (Value.int .i32))/\(sB≠none->rs.length=sN))/\
 R (.tuple #[.string (jT rs),vi 0]) H2)
 else
 R (.tuple #[.string (ByteArray.mk #[]),vi 3]) H1)
theorem fO.link(h:pt a d H b):C a d H b:=by
 refine l2 K0 35 func61 ?_;intro w0 Q hQ;unfold pt zY at h;refine ki [(0,vp a),(1,vu d)]<|ar 0<|gi 2 [] []<|ar 1<|nb 2 [(12,vp a),(13,vu d)]<|DN 14 (λg wv e rb=>[(14,.tuple #[vs g wv e,.bool rb])]) h λg wv e rb H1 h=>nx 5 [(6,vs g wv e),(7,.bool rb)]<|gv<|ar 2<|gi 2 [7] [(18,.bool (!rb))]<|jn h (λc1 h=>?_) (λc1 h=>?_)
 ·refine aG 18 (Eg Bool.not (c1))<|kT<|ar 4<|gi 1 [18] [(8,VN)]<|gv<|ar 5<|gi 3 [6] [(19,vs g wv e),(20,vi wv),(21,vi 0)]<|k5 0<|have⟨p,m19,i3,i4⟩:=h;bI (x:=BZ) (σ:=zW×Nat×Nat×Int) (λs_=> [(8,vs s_.1 s_.2.1 s_.2.2.1),(19,vs g wv e),(20,vi wv),(21,vi s_.2.2.2)]) (λs_ H=>p s_.1 s_.2.1 s_.2.2.1 s_.2.2.2 H) (λs_ H=>m19 s_.1 s_.2.1 s_.2.2.1 s_.2.2.2 H) ((none,0,0,0):zW×Nat×Nat×Int) GE i3 sk ?_;rintro⟨sB,sN,sC,s21⟩ H2 i5;have h:=i4 sB sN sC s21 H2 i5;refine ki [(8,vs sB sN sC),(19,vs g wv e),(20,vi wv),(21,vi s21)]<|ar 6<|gi 1 [] [(22,.bool (decide (s21< (wv:Int))))]<|gv<|jn h (λc6 h=>?_) (λc6 h=>?_)
  ·refine aH 22 (zX c6)<|kT<|gv<|k5 1<|ar 7<|p0 [22] [] ?_;obtain⟨f,rfl,q8,ha⟩:=h;refine ww (some 23) 53 37 1 f wv e .i64 s21 EY q8.1 q8.2 [19] [(19,vs (some f) wv e),(23,Vq (f.add (toNat s21*1)))]<|have⟨x,q9,h⟩:=ha;hV 24 37 q9 [23]<|gi 1 [24] [(10,vu x)]<|gv<|ar 8<|gi 2 [] [(26,.bool (decide (x>1114111)))]<|jn h (λc10 h=>?_) (λc10 h=>?_)
   ·refine aH 26 (zX c10)<|k4 9<|gi 1 [10,26] [(10,vu 65533)]<|k4 10<|fd 3 [8,10] [(27,vs sB sN sC),(29,.int .i32 (IntKind.wrap .i32 65533))]<|l1 (some 30) (λR=>vs (pa R) 1 1) (.cells #[.int .i32 (IntKind.wrap .i32 65533)] 21) ?_;intro R H3 e12 e13;replace h:=h R H3 e12 e13;refine im [29] [(30,vs (pa R) 1 1)]<|xl (some 31) (eM #[102,102] 102 #[vs sB sN sC,vs (pa R) 1 1]) _ Et (cT (T:=21) (sz:=1) (bytes:=4) (zero:=(.int .i32 0:Value)) Fl Fl rfl (show prog.info? 21=some t21 from GE) GE GE GG GE (by first | exact h | (simpa only[Value.cells,EI]using h))) ?_;clear h;rintro _ H4 ⟨ap,o,rfl,h⟩;exact im [27,30] [(31,vs ap (sN+1) o)]<|fd 1 [31] [(8,vs ap (sN+1) o)]<|zq<|aD<|aE<|k4 11<|gi 2 [21] [(21,vi (zY (s21+1)))]<|aQ ((ap,(sN+1),o,(zY (s21+1))):zW×Nat×Nat×Int) sk h
   refine aG 26 (zQ c10)<|kT<|k4 10<|fd 3 [8,10,26] [(27,vs sB sN sC),(29,.int .i32 (IntKind.wrap .i32 x))]<|l1 (some 30) (λR=>vs (pa R) 1 1) (.cells #[.int .i32 (IntKind.wrap .i32 x)] 21) ?_;intro q H5 e14 e15;replace h:=h q H5 e14 e15;refine im [29] [(30,vs (pa q) 1 1)]<|xl (some 31) (eM #[102,102] 102 #[vs sB sN sC,vs (pa q) 1 1]) _ Et (cT (T:=21) (sz:=1) (bytes:=4) (zero:=(.int .i32 0:Value)) Fl Fl rfl (show prog.info? 21=some t21 from GE) GE GE GG GE (by first | exact h | (simpa only[Value.cells,EI]using h))) ?_;clear h;rintro _ H6 ⟨m,j,rfl,h⟩;exact im [27,30] [(31,vs m (sN+1) j)]<|fd 1 [31] [(8,vs m (sN+1) j)]<|zq<|aD<|aE<|k4 11<|gi 2 [21] [(21,vi (zY (s21+1)))]<|aQ ((m,(sN+1),j,(zY (s21+1))):zW×Nat×Nat×Int) sk h
  refine aG 22 (zQ c6)<|zj 0<|aA<|aA<|aJ<|aE<|ar 12<|nb 1 [(33,vs sB sN sC)] ?_;obtain⟨rs,q16,h⟩:=h;exact wd 34 (qf 102 9 (vs sB sN sC)) (.string (jT rs)) (λw hw=>rp Fl EB underlying21 (by rw[hw];exact q16.1) q16.2) [33]<|hH 2 [4,5] [.string (jT rs),vi 0] hQ h
 exact aH 18 (Eg Bool.not (zZ c1))<|ar 3<|hH 2 [4,5] [.string (ByteArray.mk #[]),vi 3] hQ h
def gE.K0:=GC f75
def gE.pt(hv:zW):GJ:=λH R=>
 fH.C hv H (λv H1=> ∃x,v=.bool x/\
 if x=true then(
 R (.tuple #[]) H1)
 else
 ∃a,hv=some a/\
 ∃b,hat H1 (a.add 3)=some (vu b)/\
 (aF H1 (a.add 3) 0 1)/\ ∀H2,H2=aL H1 (a.add 3) [vu (IntKind.wrap .u64 (b+1))] 0->
 R (.tuple #[]) H2)
theorem gE.link(h:pt a H b):C a H b:=by
 refine l2 K0 12 func75 ?_;intro w0 Q hQ;unfold pt at h;refine ki [(0,vp a)]<|ar 0<|fd 1 [] [(2,vp a)]<|l5 3 [2] h λx H1 h=>gi 1 [3] [(4,.bool (!x))]<|jn h (λc1 h=>?_) (λc1 h=>?_)
 ·exact aG 4 (Eg Bool.not (c1))<|Bn<|jD (fn:=f75) [] hQ (show bG _ _ _ [] _ from .nil) h
 refine aH 4 (Eg Bool.not (zZ c1))<|k4 1<|nb 1 [(5,vp a)] ?_;obtain⟨R,rfl,ha⟩:=h;refine nb 2 [(5,Vq R),(7,Vq (R.add 3))]<|have⟨hv,q3,h⟩:=ha;hV 8 36 q3 [7]<|nb 3 [(9,vu (GD (hv+1))),(11,Vq (R.add 3))]<|have⟨q5,h⟩:=h;fj 36 (vu (GD (hv+1))) q5<|λH2 e4=>have h:=h H2 e4;⟨[],pk,?_⟩;exact zq<|jD (fn:=f75) [] hQ (show bG _ _ _ [] _ from .nil) h
namespace fI
def K0:=GC f112
def K2:=cb K0
def K4:=cb K2
def K6:=cb K4
def Bt:=cb K6
def B1:=ca Bt
def BZ:=cb B1
def BR:=ca BZ
def Co:=ca BR
end fI
def fI.pt(hv:zW)(wv e:Int):GJ:=λH R=>
 cO.C hv wv H (λv H1=> ∃ra rb rc rd re,v=.tuple #[vi ra,vi rb,vi rc,vu rd,.bool re]/\
 if((!re) || (rb !=e))=true then(
 R (.tuple #[VN,VF]) H1)
 else
 0<=rc/\rc<=rc/\8*rc<=2 ^ 48/\rc<=9223372036854775807/\
 ∀b H2,b=H1.size->H2=H1.push (.cells (Builtin.zeroCells #[vu 0] (toNat rc)) 37)->
 ∃(m:zv) (m21:Int->zV->Nat),m 0 H2/\ ∀d H3,m d H3->
 if d< ((toNat rc):Int)then(
 ∃f,hv=some f/\
 ∃x,hat H3 f=some (vp x)/\
 ∃xA,x=some xA/\
 ∃o,hat H3 xA=some (vp o)/\
 ∃p,o=some p/\
 ∃j,hat H3 p=some (vp j)/\
 cS.C j (zY ((zY (ra+1))+d)) H3 (λr H4=> ∃g q,r=.tuple #[vu g,vi q]/\
 ((0:Int)<=d/\d< ((toNat rc):Int))/\
 (aF H4 ((ad b).add (toNat d*1)) 0 1)/\ ∀H5,H5=aL H4 ((ad b).add (toNat d*1)) [vu g] 0->
 (m (zY (d+1)) H5/\m21 (zY (d+1)) H5<m21 d H3)))
 else
 R (.tuple #[vs (some (ad b)) (toNat rc) (toNat rc),VT]) H3)
theorem fI.link{e:Int}(h:pt a d e H b):C a d e H b:=by
 refine l2 K0 61 func112 ?_;intro w0 Q hQ;unfold pt zY at h;refine ki [(0,vp a),(1,vu d),(2,vi e)]<|ar 0<|gi 2 [] []<|ar 1<|fd 2 [1] [(16,vp a),(17,vu d)]<|Cm 18 [16,17] h λra rb rc rd re H1 h=>gi 11 [18] [(8,vi ra),(9,vi rb),(10,vi rc),(12,.bool re)]<|gv<|ar 2<|gU [(0,vp a),(8,vi ra),(10,vi rc),(30,.bool ((!re) || (rb !=e)))] ?_ ?_
 ·refine aE<|jn h (λc3 h=>?_) (λc3 h=>?_)
  ·exact aH 30 c3<|ar 3<|hH 2 [6,7] [VN,VF] hQ h
  refine aG 30 (zZ c3)<|kT<|ar 4<|nb 1 [(0,vp a),(8,vi ra),(31,vi rc)]<|have⟨q5,q6,q7,q8,h⟩:=h;xl (some 32) (lr 53 (vi rc) (vi rc)) (λv Hz=>v=Value.slice (some (Addr.mk H1.size 0 none)) (toNat rc) (toNat rc)/\Hz=H1.push (.cells (Builtin.zeroCells #[vu 0] (toNat rc)) 37)) Et (te (T:=37) (zero:=vu 0) EY (show prog.info? 37=some t37 from GE) GE q5 q6 q7 q8 GE GG) ?_;rintro _ H2 ⟨rfl,e10⟩;obtain⟨wv,e9⟩: ∃wv,wv=H1.size:=⟨_,rfl⟩;replace h:=h wv H2 e9 e10;rw[<-e9];refine im [31] [(32,vs (pa wv) (toNat rc) (toNat rc))]<|gi 1 [32] [(13,vs (pa wv) (toNat rc) (toNat rc))]<|gv<|ar 5<|gi 3 [] [(34,vi ((toNat rc):Int)),(35,vi 0)]<|k5 0<|have⟨m,m21,i11,i12⟩:=h;bI (x:=Co) (σ:=Int) (λs_=> [(0,vp a),(8,vi ra),(13,vs (pa wv) (toNat rc) (toNat rc)),(34,vi ((toNat rc):Int)),(35,vi s_)]) (λs_ H=>m s_ H) (λs_ H=>m21 s_ H) (0:Int) GE i11 sk ?_;rintro hv H3 i13;have h:=i12 hv H3 i13;refine ki [(0,vp a),(8,vi ra),(13,vs (pa wv) (toNat rc) (toNat rc)),(34,vi ((toNat rc):Int)),(35,vi hv)]<|ar 6<|gi 1 [] [(36,.bool (decide (hv< ((toNat rc):Int))))]<|gv<|jn h (λc14 h=>?_) (λc14 h=>?_)
  ·refine aH 36 (zX c14)<|kT<|gv<|k5 1<|ar 7<|gi 2 [36] [(14,vi hv)]<|k4 8<|fd 3 [] [(39,vs (pa wv) (toNat rc) (toNat rc)),(40,vi hv),(41,vp a)] ?_;obtain⟨f,rfl,ha⟩:=h;refine fd 2 [0,41] [(0,Vq f),(43,Vq f)]<|have⟨x,q16,h⟩:=ha;hV 44 50 q16 [43] ?_;obtain⟨xA,rfl,hb⟩:=h;refine fd 2 [44] [(46,Vq xA)]<|have⟨o,q17,h⟩:=hb;hV 47 79 q17 [46] ?_;obtain⟨p,rfl,hc⟩:=h;exact fd 2 [47] [(49,Vq p)]<|have⟨j,q18,h⟩:=hc;hV 50 115 q18 [49]<|fd 4 [14] [(54,vi (zY ((zY (ra+1))+hv)))]<|vr 55 [50,54] h λg q H4 h=>fd 3 [55] [(56,vu g)]<|have⟨q19,h⟩:=h;wd 58 (bJ 53 (vs (pa wv) (toNat rc) (toNat rc)) (vi hv)) (Vq ((ad wv).add (toNat hv*1))) (λw _=>dV (P:=prog) (t:=53) (elem:=37) (sz:=1) (a:=(ad wv)) (len:=(toNat rc)) (cap:=(toNat rc)) (k:=.i64) (i:=hv) EY Et q19.1 q19.2 w) [39,40]<|have⟨q21,h⟩:=h;fj 37 (vu g) q21<|λH5 e20=>have h:=h H5 e20;im [56,58] []<|zq<|aD<|aE<|k4 9<|gi 2 [35] [(35,vi (zY (hv+1)))]<|aQ ((zY (hv+1)):Int) sk h
  exact aG 36 (zQ c14)<|zj 0<|aA<|aA<|aJ<|aE<|ar 10<|hH 3 [6,7] [vs (pa wv) (toNat rc) (toNat rc),VT] hQ h
 refine λhk=>nb 3 [(0,vp a),(2,vi e),(8,vi ra),(9,vi rb),(10,vi rc),(26,.bool (!re))] ?_;by_cases c1:re=true
 ·have b2:(!re)=false:=Eg Bool.not (c1);have b22:re=true:=c1;exact bW [(0,vp a),(2,vi e),(8,vi ra),(9,vi rb),(10,vi rc),(26,VF)] (by simp only[b2,b22,Es,Ep])<|fd 4 [2,9,26] [(30,.bool (rb !=e))]<|zq<|n7 30 (b:=(rb !=e)) (v:=((!re) || (rb !=e))) (by simp only[b2,BL])<|hk
 have b2:(!re)=true:=Eg Bool.not (zZ c1);have b22:re=false:=zZ c1;exact bW [(0,vp a),(2,vi e),(8,vi ra),(9,vi rb),(10,vi rc),(26,VT)] (by simp only[b2,b22,Es,Ep])<|fd 4 [2,9,26] [(30,VT)]<|zq<|n7 30 (b:=true) (v:=((!re) || (rb !=e))) (by simp only[b2,BL])<|hk
end Go.Proofs.YtillhdiiglamhaaGreatDoor
namespace Go.Proofs.YtillhdiiglamhaaGreatDoor
open Go Go.Proofs.Tryz
variable{H:zV}{a:zk}{b d:Nat}{g:zW}{i:Bool}
def kw.K0:=GC f44
def kw.pt(m:Bool)(k:zW)(i j:Nat):GJ:=λH R=>
 ∀b H1,b=H.size->H1=H.push (.cells #[.bool m,vs k i j] 24)->
 ∀a H2,a=H1.size->H2=H1.push (.cells #[VF,VN] 24)->
 ∃x,hat H2 (ad b)=some (.bool x)/\
 ∃xB xN xC,hat H2 ((ad b).add 1)=some (vs xB xN xC)/\
 jj.C x xB xN xC H2 (λv H3=> ∃g e f d rb,v=.tuple #[.agg #[.bool g,vs e f d],vi rb]/\
 (aF H3 (ad a) 0 2)/\ ∀H4,H4=aL H3 (ad a) [.bool g,vs e f d] 0->
 ∃r p o q,aI H4 (ad a) 0 [.bool r,vs p o q]/\
 R (.tuple #[.agg #[.bool r,vs p o q],vi rb]) H4)
theorem kw.link(h:pt i g b d H a):C i g b d H a:=by
 refine l2 K0 11 func44 ?_;intro w0 Q hQ;unfold pt at h;refine ki [(0,.agg #[.bool i,vs g b d])]<|ar 0<|l1 (some 1) (λj=>vp (pa j)) (.cells #[.bool i,vs g b d] 24)<|λj H1 e1 e2=>have h:=h j H1 e1 e2;⟨[(1,vp (pa j))],pk,?_⟩;refine l1 (some 2) (λj=>vp (pa j)) (.cells #[VF,VN] 24)<|λR H2 e3 e4=>have h:=h R H2 e3 e4;im [] [(2,vp (pa R))]<|gi 1 [] []<|ar 1<|fd 1 [] [(4,vp (pa j))]<|have⟨x,q5,h⟩:=h;hV 5 4 q5 [4]<|fd 1 [1] [(6,Vq ((ad j).add 1))]<|have⟨xB,xN,xC,q6,h⟩:=h;hV 7 22 q6 [6]<|Cm 8 [5,7] h λm e f k rb H3 h=>fd 2 [8] [(9,.agg #[.bool m,vs e f k]),(10,vi rb)]<|have⟨q8,h⟩:=h;bF 24 [.bool m,vs e f k] q8<|λH4 e7=>have h:=h H4 e7;im [9] []<|gi 1 [10] [(3,vi rb)]<|zx ?_;show At _ _ _ _ _ (Q .ret);exact have⟨r,p,o,q,q9,h⟩:=h;bY (fn:=f44) [.agg #[.bool r,vs p o q],vi rb] hQ (show bG _ _ _ [.cell 2 24,.tmp 3] _ from .cell GE (aR Et Et q9) (.tmp GE (.nil))) h
namespace k7
def K0:=GC f45
def K2:=cb K0
def K4:=cb K2
def K6:=cb K4
def K7:=ca K6
def BE:=cb K7
def Cq:=ca BE
def Bj:=ca Cq
end k7
def k7.pt(u:Bool)(q:zW)(o p:Nat):GJ:=λH R=>
 ∀b H1,b=H.size->H1=H.push (.cells #[.bool u,vs q o p] 24)->
 ∃xB xN xC,hat H1 ((ad b).add 1)=some (vs xB xN xC)/\
 jw.C xB xN xC H1 (λv H2=> ∃f d e,v=vs f d e/\
 ∃(z:Int->zv) (m13:Int->Int->zV->Nat),z 0 0 H2/\ ∀x s13 H3,z x s13 H3->
 if s13< (if 2< (d:Int)then 2 else(d:Int))then(
 ∃g,f=some g/\
 zw s13 d/\
 ∃j,hat H3 (g.add (Int.toNat s13*1))=some (.int .u32 j)/\
 (0<=(zY (32*s13)))/\
 (z (mp .u64 x (k8 .u64 (IntKind.wrap .u64 j) (zY (32*s13)))) (zY (s13+1)) H3/\m13 (mp .u64 x (k8 .u64 (IntKind.wrap .u64 j) (zY (32*s13)))) (zY (s13+1)) H3<m13 x s13 H3))
 else
 if(d:Int)>2 then(
 R (.tuple #[vi 0,VF]) H3)
 else
 if x>1152921504606846976 then(
 R (.tuple #[vi 0,VF]) H3)
 else
 if x=1152921504606846976 then(
 ∃m,hat H3 (ad b)=some (.bool m)/\
 if m=true then(
 ∃s,hat H3 (ad b)=some (.bool s)/\
 if s=true then(
 R (.tuple #[vi (zY (0-(zY x))),VT]) H3)
 else
 R (.tuple #[vi (zY x),VT]) H3)
 else
 R (.tuple #[vi 0,VF]) H3)
 else
 ∃r,hat H3 (ad b)=some (.bool r)/\
 if r=true then(
 R (.tuple #[vi (zY (0-(zY x))),VT]) H3)
 else
 R (.tuple #[vi (zY x),VT]) H3)
theorem k7.link(h:pt i g b d H a):C i g b d H a:=by
 refine l2 K0 52 func45 ?_;intro w0 Q hQ;unfold pt zY at h;refine ki [(0,.agg #[.bool i,vs g b d])]<|ar 0<|l1 (some 1) (λR=>vp (pa R)) (.cells #[.bool i,vs g b d] 24)<|λR H1 e1 e2=>have h:=h R H1 e1 e2;⟨[(1,vp (pa R))],pk,?_⟩;refine gi 2 [] []<|ar 1<|fd 1 [] [(7,Vq ((ad R).add 1))]<|have⟨xB,xN,xC,q3,h⟩:=h;hV 8 22 q3 [7]<|BO 9 [8] h λf p e H2 h=>gi 1 [9] [(4,vs f p e)]<|ar 2<|gi 1 [] [(5,vu 0)]<|gv<|ar 3<|gi 4 [] [(12,vi (if 2< (p:Int)then 2 else(p:Int))),(13,vi 0)]<|k5 0<|have⟨z,m13,i4,i5⟩:=h;bI (x:=Bj) (σ:=Int×Int) (λs_=> [(1,vp (pa R)),(4,vs f p e),(5,vu s_.1),(12,vi (if 2< (p:Int)then 2 else(p:Int))),(13,vi s_.2)]) (λs_ H=>z s_.1 s_.2 H) (λs_ H=>m13 s_.1 s_.2 H) ((0,0):Int×Int) GE i4 sk ?_;rintro⟨x,s13⟩ H3 i6;have h:=i5 x s13 H3 i6;refine ki [(1,vp (pa R)),(4,vs f p e),(5,vu x),(12,vi (if 2< (p:Int)then 2 else(p:Int))),(13,vi s13)]<|ar 4<|gi 1 [] [(14,.bool (decide (s13< (if 2< (p:Int)then 2 else(p:Int)))))]<|gv<|jn h (λc7 h=>?_) (λc7 h=>?_)
 ·refine aH 14 (zX c7)<|kT<|gv<|k5 1<|ar 5<|gi 2 [14] [(6,vi s13)]<|k4 6<|fd 3 [5] [(16,vu x),(17,vs f p e),(18,vi s13)] ?_;obtain⟨o,rfl,q9,ha⟩:=h;exact ww (some 19) 22 91 1 o p e .i64 s13 ET q9.1 q9.2 [4,17,18] [(4,vs (some o) p e),(19,Vq (o.add (Int.toNat s13*1)))]<|have⟨j,q10,h⟩:=ha;hV 20 91 q10 [19]<|fd 3 [6,20] [(21,vu (GD j)),(23,vi (zY (32*s13)))]<|have⟨q11,h⟩:=h;wd 24 (Cb .shl 36 (vu (GD j)) (vi (zY (32*s13)))) (vu (k8 .u64 (GD j) (zY (32*s13)))) (λw _=>tc (P:=prog) (t:=36) (k:=.u64) (k':=.i64) (x:=(GD j)) (y:=(zY (32*s13))) q11 w) [21,23]<|fd 2 [16,24] [(5,vu (mp .u64 x (k8 .u64 (GD j) (zY (32*s13)))))]<|zq<|aD<|aE<|k4 7<|gi 2 [13] [(13,vi (zY (s13+1)))]<|aQ (((mp .u64 x (k8 .u64 (GD j) (zY (32*s13)))),(zY (s13+1))):Int×Int) sk h
 refine aG 14 (zQ c7)<|zj 0<|aA<|aA<|aJ<|aE<|gv<|k5 2<|ar 8<|fd 4 [4,12,13,14] [(31,.bool (decide ((p:Int)>2)))]<|jn h (λc12 h=>?_) (λc12 h=>?_)
 ·exact kc 31 (zX c12)<|gi 13 [31] [(27,VT)]<|l7 27<|ar 9<|hH 2 [2,3] [vi 0,VF] hQ h
 refine kc 31 (zQ c12)<|fd 4 [31] [(35,.bool (decide (x>1152921504606846976)))]<|jn h (λc14 h=>?_) (λc14 h=>?_)
 ·exact kc 35 (zX c14)<|gi 9 [35] [(27,VT)]<|l7 27<|ar 9<|hH 2 [2,3] [vi 0,VF] hQ h
 refine kc 35 (zQ c14)<|fd 3 [] [(38,.bool (x==1152921504606846976))]<|jn h (λc16 h=>?_) (λc16 h=>?_)
 ·refine kc 38 (zK c16)<|fd 1 [] [(39,vp (pa R))]<|have⟨m,q18,h⟩:=h;hV 40 4 q18 [39]<|gi 4 [35,38,40] [(27,.bool (!m))]<|jn h (λc19 h=>?_) (λc19 h=>?_)
  ·refine aG 27 (Eg Bool.not (c19))<|ar 10<|fd 1 [1,27] [(45,vp (pa R))]<|have⟨s,q21,h⟩:=h;hV 46 4 q21 [45]<|gi 1 [46] [(44,.bool s)]<|jn h (λc22 h=>?_) (λc22 h=>?_)
   ·exact aH 44 c22<|ar 11<|hH 5 [2,3] [vi (zY (0-(zY x))),VT] hQ h
   exact aG 44 (zZ c22)<|Bn<|aD<|aE<|ar 12<|hH 4 [2,3] [vi (zY x),VT] hQ h
  exact aH 27 (Eg Bool.not (zZ c19))<|ar 9<|hH 2 [2,3] [vi 0,VF] hQ h
 refine kc 38 (zJ c16)<|gi 6 [35,38] [(27,VF)]<|pN 27<|ar 10<|fd 1 [1,27] [(45,vp (pa R))]<|have⟨r,q24,h⟩:=h;hV 46 4 q24 [45]<|gi 1 [46] [(44,.bool r)]<|jn h (λc25 h=>?_) (λc25 h=>?_)
 ·exact aH 44 c25<|ar 11<|hH 5 [2,3] [vi (zY (0-(zY x))),VT] hQ h
 exact aG 44 (zZ c25)<|Bn<|aD<|aE<|ar 12<|hH 4 [2,3] [vi (zY x),VT] hQ h
def kP.K0:=GC f98
def kP.K2:=cb K0
def kP.K3:=ca K2
def kP.pt(s:Bool)(m:zW)(j k:Nat):GJ:=λH R=>
 ∀b H1,b=H.size->H1=H.push (.cells #[.bool s,vs m j k] 24)->
 ∃xB xN xC,hat H1 ((ad b).add 1)=some (vs xB xN xC)/\
 if(xN:Int)<=48 then(
 ∃f g i,hat H1 ((ad b).add 1)=some (vs f g i)/\
 ∃q a p,hat H1 ((ad b).add 1)=some (vs q a p)/\
 ∃x,hat H1 (ad b)=some (.bool x)/\
 ∃o d r,hat H1 ((ad b).add 1)=some (vs o d r)/\
 jw.C f g i H1 (λv H2=> ∃t e u,v=vs t e u/\aI H2 ((ad b).add 1) 0 [vs q a p]/\aI H2 (ad b) 0 [.bool x]/\aI H2 ((ad b).add 1) 0 [vs o d r]/\
 if(e:Int)=(a:Int)then(
 if x=true then(
 R (.bool (decide ((d:Int)>0))) H2)
 else
 R VT H2)
 else
 R VF H2))
 else
 R VF H1
theorem kP.link(h:pt i g b d H a):C i g b d H a:=by
 refine l2 K0 28 func98 ?_;intro w0 Q hQ;unfold pt at h;refine ki [(0,.agg #[.bool i,vs g b d])]<|ar 0<|l1 (some 1) (λk=>vp (pa k)) (.cells #[.bool i,vs g b d] 24)<|λk H1 e1 e2=>have h:=h k H1 e1 e2;⟨[(1,vp (pa k))],pk,?_⟩;refine gi 1 [] []<|gv<|have⟨xB,xN,xC,q3,h⟩:=h;jn h (λc4 h=>?_) (λc4 h=>?_)
 ·obtain⟨f,m,s,q6,q,R,p,q7,x,q8,o,j,r,q9,h⟩:=h;refine yY 1 (Code.ops K3) [(7,((ad k).add 1),[vs xB xN xC]),(7,((ad k).add 1),[vs f m s]),(26,((ad k).add 1),[vs q R p]),(26,(ad k),[.bool x]),(26,((ad k).add 1),[vs o j r])] 26 (bv 26 0) (show aP _ _ _ from⟨⟨q3,GB⟩,⟨q6,GB⟩,⟨q7,GB⟩,⟨q8,GB⟩,⟨q9,GB⟩,GB⟩)<|Bp 0 (some 3) (Vq ((ad k).add 1)) (bv 26 1) [(1,vp (pa k)),(3,Vq ((ad k).add 1))]<|lb 1 4 (vs xB xN xC) (bv 26 3) [3] (aZ 22 (Vq ((ad k).add 1))) (yW 7 yZ)<|aM 2 5 (vi xN) (bv 26 7) [4]<|aM 3 6 (.bool (decide ((xN:Int)<=48))) (bv 26 15) [5]<|aM 4 7 (.bool (decide ((xN:Int)<=48))) (bv 26 31) [6]<|BJ 7 (zX c4)<|aM 5 8 (Vq ((ad k).add 1)) (bv 26 63) []<|lb 6 9 (vs f m s) (bv 26 127) [8] (aZ 22 (Vq ((ad k).add 1))) (yW 7 yX)<|aM 9 12 (Vq ((ad k).add 1)) (bv 26 639) []<|lb 10 13 (vs q R p) (bv 26 1663) [12] (aZ 22 (Vq ((ad k).add 1))) (kR 26 Et yQ (.inr GE))<|aM 11 14 (vi R) (bv 26 3711) [13]<|yq 7 (some 10) (bv 26 3839) 103 #[vs f m s] h ?_;clear h;rintro v H2 ⟨t,e,u,rfl,f10,f11,f12,h⟩;refine⟨[(1,vp (pa k)),(7,VT),(10,vs t e u),(14,vi R)],pk,(show aP _ _ _ from⟨GB,GB,f10,f11,f12,GB⟩),?_⟩;refine BS 8 (some 11) (vi e) (bv 26 4095) [(1,vp (pa k)),(7,VT),(11,vi e),(14,vi R)] (pure (.value (vi e)):Sem Next) (λ_ _ _ _ _=>rfl)<|lb 12 15 (.bool ((e:Int)==(R:Int))) (bv 26 8191) [11,14] (pure (.value (.bool ((e:Int)==(R:Int)))):Sem Next) (λ_ _ _ _ _=>rfl)<|lb 13 16 (.bool ((e:Int)==(R:Int))) (bv 26 16383) [7,15] (pure (.value (.bool ((e:Int)==(R:Int)))):Sem Next) (λ_ _ _ _ _=>rfl)<|lb 14 17 (.bool ((e:Int)==(R:Int))) (bv 26 32767) [16] (pure (.value (.bool ((e:Int)==(R:Int)))):Sem Next) (λ_ _ _ _ _=>rfl)<|jn h (λc13 h=>?_) (λc13 h=>?_)
  ·refine BJ 17 (zK c13)<|lb 15 18 (vp (pa k)) (bv 26 65535) [] (pure (.value (vp (pa k))):Sem Next) (λ_ _ _ _ _=>rfl)<|lb 16 19 (.bool x) (bv 26 131071) [18] (aZ 4 (vp (pa k))) (kR 26 Et yJ (.inr GE))<|lb 17 20 (.bool (!x)) (bv 26 262143) [19] (pure (.value (.bool (!x))):Sem Next) (λ_ _ _ _ _=>rfl)<|lb 18 21 (.bool (!x)) (bv 26 524287) [20] (pure (.value (.bool (!x))):Sem Next) (λ_ _ _ _ _=>rfl)<|jn h (λc15 h=>?_) (λc15 h=>?_)
   ·have b16:(!x)=false:=Eg Bool.not (c15);have b162:x=true:=c15;refine BJ 21 (b:=(!x)) (v:=false) (by simp only[b16,b162,Es,Ep]) ?_;clear b16 b162;exact lb 19 22 (Vq ((ad k).add 1)) (bv 26 1048575) [1] (pure (.value (Vq ((ad k).add 1))):Sem Next) (λ_ _ _ _ _=>rfl)<|lb 20 23 (vs o j r) (bv 26 2097151) [22] (aZ 22 (Vq ((ad k).add 1))) (kR 26 Et yK (.inr GE))<|lb 21 24 (vi j) (bv 26 4194303) [23] (pure (.value (vi j)):Sem Next) (λ_ _ _ _ _=>rfl)<|lb 22 25 (.bool (decide ((j:Int)>0))) (bv 26 8388607) [24] (pure (.value (.bool (decide ((j:Int)>0)))):Sem Next) (λ_ _ _ _ _=>rfl)<|lb 23 26 (.bool (decide ((j:Int)>0))) (bv 26 16777215) [21,25] (pure (.value (.bool (decide ((j:Int)>0)))):Sem Next) (λ_ _ _ _ _=>rfl)<|lb 24 27 (.bool (decide ((j:Int)>0))) (bv 26 33554431) [17,26] (pure (.value (.bool (decide ((j:Int)>0)))):Sem Next) (λ_ _ _ _ _=>rfl)<|lb 25 2 (.bool (decide ((j:Int)>0))) (bv 26 67108863) [27] (pure (.value (.bool (decide ((j:Int)>0)))):Sem Next) (λ_ _ _ _ _=>rfl)<|gm [(2,.bool (decide ((j:Int)>0)))] sk<|yx<|aE<|ix [2] [.bool (decide ((j:Int)>0))] hQ h
   have b16:(!x)=true:=Eg Bool.not (zZ c15);have b162:x=false:=zZ c15;refine BJ 21 (b:=(!x)) (v:=true) (by simp only[b16,b162,Es,Ep]) ?_;clear b16 b162;exact cP 19 (some 22) (bv 26 1048575) [1] [(22,undef)]<|cP 20 (some 23) (bv 26 2097151) [22] [(23,undef)]<|cP 21 (some 24) (bv 26 4194303) [23] [(24,undef)]<|cP 22 (some 25) (bv 26 8388607) [24] [(25,undef)]<|lb 23 26 VT (bv 26 16777215) [21,25] (pure (.value VT):Sem Next) (λ_ _ _ _ _=>rfl)<|lb 24 27 VT (bv 26 33554431) [17,26] (pure (.value VT):Sem Next) (λ_ _ _ _ _=>rfl)<|lb 25 2 VT (bv 26 67108863) [27] (pure (.value VT):Sem Next) (λ_ _ _ _ _=>rfl)<|gm [(2,VT)] sk<|yx<|aE<|ix [2] [VT] hQ h
  exact BJ 17 (zJ c13)<|cP 15 (some 18) (bv 26 65535) [] [(18,undef)]<|cP 16 (some 19) (bv 26 131071) [18] [(19,undef)]<|cP 17 (some 20) (bv 26 262143) [19] [(20,undef)]<|cP 18 (some 21) (bv 26 524287) [20] [(21,undef)]<|cP 19 (some 22) (bv 26 1048575) [1] [(22,undef)]<|cP 20 (some 23) (bv 26 2097151) [22] [(23,undef)]<|cP 21 (some 24) (bv 26 4194303) [23] [(24,undef)]<|cP 22 (some 25) (bv 26 8388607) [24] [(25,undef)]<|cP 23 (some 26) (bv 26 16777215) [21,25] [(26,undef)]<|lb 24 27 VF (bv 26 33554431) [17,26] (pure (.value VF):Sem Next) (λ_ _ _ _ _=>rfl)<|lb 25 2 VF (bv 26 67108863) [27] (pure (.value VF):Sem Next) (λ_ _ _ _ _=>rfl)<|gm [(2,VF)] sk<|yx<|aE<|ix [2] [VF] hQ h
 exact yY 1 (Code.ops K3) [(26,((ad k).add 1),[vs xB xN xC])] 26 (bv 26 0) (show aP _ _ _ from⟨⟨q3,GB⟩,GB⟩)<|Bp 0 (some 3) (Vq ((ad k).add 1)) (bv 26 1) [(1,vp (pa k)),(3,Vq ((ad k).add 1))]<|lb 1 4 (vs xB xN xC) (bv 26 3) [3] (aZ 22 (Vq ((ad k).add 1))) (kR 26 Et yZ (.inr GE))<|aM 2 5 (vi xN) (bv 26 7) [4]<|aM 3 6 (.bool (decide ((xN:Int)<=48))) (bv 26 15) [5]<|aM 4 7 (.bool (decide ((xN:Int)<=48))) (bv 26 31) [6]<|BJ 7 (zQ c4)<|cP 5 (some 8) (bv 26 63) [] [(8,undef)]<|cP 6 (some 9) (bv 26 127) [8] [(9,undef)]<|cP 7 (some 10) (bv 26 255) [9] [(10,undef)]<|cP 8 (some 11) (bv 26 511) [10] [(11,undef)]<|cP 9 (some 12) (bv 26 1023) [] [(12,undef)]<|cP 10 (some 13) (bv 26 2047) [12] [(13,undef)]<|cP 11 (some 14) (bv 26 4095) [13] [(14,undef)]<|cP 12 (some 15) (bv 26 8191) [11,14] [(15,undef)]<|aM 13 16 VF (bv 26 16383) [7,15]<|aM 14 17 VF (bv 26 32767) [16]<|cP 15 (some 18) (bv 26 65535) [] [(18,undef)]<|cP 16 (some 19) (bv 26 131071) [18] [(19,undef)]<|cP 17 (some 20) (bv 26 262143) [19] [(20,undef)]<|cP 18 (some 21) (bv 26 524287) [20] [(21,undef)]<|cP 19 (some 22) (bv 26 1048575) [1] [(22,undef)]<|cP 20 (some 23) (bv 26 2097151) [22] [(23,undef)]<|cP 21 (some 24) (bv 26 4194303) [23] [(24,undef)]<|cP 22 (some 25) (bv 26 8388607) [24] [(25,undef)]<|cP 23 (some 26) (bv 26 16777215) [21,25] [(26,undef)]<|aM 24 27 VF (bv 26 33554431) [17,26]<|aM 25 2 VF (bv 26 67108863) [27]<|gm [(2,VF)] sk<|yx<|aE<|ix [2] [VF] hQ h
def jj.K0:=GC f102
def jj.pt(a:Bool)(mB:zW)(mN mC:Nat):GJ:=λH R=>
 ∀b H1,b=H.size->H1=H.push (.cells #[VF,VN] 24)->
 jw.C mB mN mC H1 (λv H2=> ∃xB xN xC,v=vs xB xN xC/\
 if(xN:Int)>48 then(
 (aF H2 (ad b) 0 2)/\ ∀H3,H3=aL H2 (ad b) [VF,VN] 0->
 ∃z y u x,aI H3 (ad b) 0 [.bool z,vs y u x]/\
 R (.tuple #[.agg #[.bool z,vs y u x],vi 6]) H3)
 else
 if a=true then(
 bH.C xB xN xC H2 (λaa H4=> ∃e f i,aa=vs e f i/\
 (aF H4 (ad b) 0 2)/\ ∀H5,H5=aL H4 (ad b) [.bool (decide ((xN:Int)>0)),vs e f i] 0->
 ∃s r o p,aI H5 (ad b) 0 [.bool s,vs r o p]/\
 R (.tuple #[.agg #[.bool s,vs r o p],vi 0]) H5))
 else
 bH.C xB xN xC H2 (λab H6=> ∃j d g,ab=vs j d g/\
 (aF H6 (ad b) 0 2)/\ ∀H7,H7=aL H6 (ad b) [VF,vs j d g] 0->
 ∃t k m q,aI H7 (ad b) 0 [.bool t,vs k m q]/\
 R (.tuple #[.agg #[.bool t,vs k m q],vi 0]) H7))
theorem jj.link(h:pt i g b d H a):C i g b d H a:=by
 refine l2 K0 21 func102 ?_;intro w0 Q hQ;unfold pt at h;refine ki [(0,.bool i),(1,vs g b d)]<|ar 0<|l1 (some 4) (λR=>vp (pa R)) (.cells #[VF,VN] 24)<|λR H1 e1 e2=>have h:=h R H1 e1 e2;im [] [(4,vp (pa R))]<|gi 1 [] []<|ar 1<|fd 1 [1] [(6,vs g b d)]<|BO 7 [6] h λxB xN xC H2 h=>gi 1 [7] [(1,vs xB xN xC)]<|gv<|ar 2<|gi 3 [] [(10,.bool (decide ((xN:Int)>48)))]<|jn h (λc3 h=>?_) (λc3 h=>?_)
 ·refine aH 10 (zX c3)<|ar 3<|fd 1 [0,1,10] [(11,.agg #[VF,VN])]<|have⟨q6,h⟩:=h;bF 24 [VF,VN] q6<|λH3 e5=>have h:=h H3 e5;im [11] []<|gi 1 [] [(5,vi 6)]<|zx ?_;show At _ _ _ _ _ (Q .ret);exact have⟨z,y,u,x,q7,h⟩:=h;bY (fn:=f102) [.agg #[.bool z,vs y u x],vi 6] hQ (show bG _ _ _ [.cell 4 24,.tmp 5] _ from .cell GE (aR Et Et q7) (.tmp GE (.nil))) h
 refine aG 10 (zQ c3)<|kT<|ar 4<|fd 2 [0,10] [(13,.bool i)]<|jn h (λc8 h=>?_) (λc8 h=>?_)
 ·refine kc 13 c8<|fd 5 [1,13] [(17,.bool (decide ((xN:Int)>0))),(18,vs xB xN xC)]<|BO 19 [18] h λe f mB H4 h=>fd 1 [17,19] [(20,.agg #[.bool (decide ((xN:Int)>0)),vs e f mB])]<|have⟨q11,h⟩:=h;bF 24 [.bool (decide ((xN:Int)>0)),vs e f mB] q11<|λH5 e10=>have h:=h H5 e10;im [20] []<|gi 1 [] [(5,vi 0)]<|zx ?_;show At _ _ _ _ _ (Q .ret);exact have⟨s,r,o,p,q12,h⟩:=h;bY (fn:=f102) [.agg #[.bool s,vs r o p],vi 0] hQ (show bG _ _ _ [.cell 4 24,.tmp 5] _ from .cell GE (aR Et Et q12) (.tmp GE (.nil))) h
 refine kc 13 (zZ c8)<|fd 5 [1,13] [(17,VF),(18,vs xB xN xC)]<|BO 19 [18] h λj mC mN H6 h=>fd 1 [17,19] [(20,.agg #[VF,vs j mC mN])]<|have⟨q14,h⟩:=h;bF 24 [VF,vs j mC mN] q14<|λH7 e13=>have h:=h H7 e13;im [20] []<|gi 1 [] [(5,vi 0)]<|zx ?_;show At _ _ _ _ _ (Q .ret);exact have⟨t,k,m,q,q15,h⟩:=h;bY (fn:=f102) [.agg #[.bool t,vs k m q],vi 0] hQ (show bG _ _ _ [.cell 4 24,.tmp 5] _ from .cell GE (aR Et Et q15) (.tmp GE (.nil))) h
def jw.K0:=GC f103
def jw.K2:=cb K0
def jw.K4:=cb K2
def jw.K5:=ca K4
def jw.K7:=ca K5
def jw.K8:=ca K7
def jw.pt(mB:zW)(mN mC:Nat):GJ:=λH R=>
 ∃(I9:zv) (m9:Int->zV->Nat),I9 (mN:Int) H/\ ∀nv H1,I9 nv H1->
 if nv>0 then(
 ∃d,mB=some d/\
 ((0:Int)<=(zY (nv-1))/\(zY (nv-1))< (mN:Int))/\
 ∃x,hat H1 (d.add (Int.toNat (zY (nv-1))*1))=some (.int .u32 x)/\
 if x=0 then(
 (I9 (zY (nv-1)) H1/\m9 (zY (nv-1)) H1<m9 nv H1))
 else
 ∃(lo hi:Nat),lo=0/\nv=(hi:Int)/\lo<=hi/\hi<=mC/\
 ∀sl:zW,sl=(if mC=lo then(some d)else Option.map (λa:Addr=>a.add (lo*1)) (some d))->
 R (vs sl (hi-lo) (mC-lo)) H1)
 else
 ∃(b e:Nat),b=0/\nv=(e:Int)/\b<=e/\e<=mC/\
 ∀f:zW,f=(if mC=b then mB else Option.map (λa:Addr=>a.add (b*1)) mB)->
 R (vs f (e-b) (mC-b)) H1
theorem jw.link(h:pt g b d H a):C g b d H a:=by
 refine l2 K0 21 func103 ?_;intro w0 Q hQ;unfold pt zY at h;refine ki [(0,vs g b d)]<|ar 0<|gi 1 [] []<|ar 1<|gi 3 [] [(3,vi b)]<|gv<|k5 0<|have⟨I9,m9,i1,i2⟩:=h;bI (x:=K8) (σ:=Int) (λs_=> [(0,vs g b d),(3,vi s_)]) (λs_ H=>I9 s_ H) (λs_ H=>m9 s_ H) ((b:Int):Int) GE i1 sk ?_;rintro nv H1 i3;have h:=i2 nv H1 i3;refine ki [(0,vs g b d),(3,vi nv)]<|gv<|ar 2<|fd 3 [] [(8,.bool (decide (nv>0)))]<|jn h (λc4 h=>?_) (λc4 h=>?_)
 ·refine kc 8 (zX c4)<|fd 3 [] [(9,vs g b d),(11,vi (zY (nv-1)))] ?_;obtain⟨mN,rfl,q6,ha⟩:=h;refine ww (some 12) 22 91 1 mN b d .i64 (zY (nv-1)) ET q6.1 q6.2 [0,9,11] [(0,vs (some mN) b d),(12,vp (some (mN.add (Int.toNat (zY (nv-1))*1))))]<|have⟨x,q7,h⟩:=ha;hV 13 91 q7 [12]<|gi 2 [8,13] [(15,.bool (x==0))]<|jn h (λc8 h=>?_) (λc8 h=>?_)
  ·exact aH 15 (zK c8)<|kT<|k5 1<|k4 3<|fd 3 [3,15] [(3,vi (zY (nv-1)))]<|zq<|aD<|aE<|aQ ((zY (nv-1)):Int) sk h
  refine aG 15 (zJ c8)<|zj 0<|aA<|aA<|aJ<|aE<|ar 4<|nb 2 [(18,vs (some mN) b d),(19,vi nv)] ?_;obtain⟨lo,hi,q10,q11,q12,q13,h⟩:=h;obtain⟨sl,e14⟩: ∃B,B=(if d=lo then(some mN)else Option.map (λR:Addr=>R.add (lo*1)) (some mN)):=⟨_,rfl⟩;replace h:=h sl e14;exact wd 20 (i0 22 (vs (some mN) b d) none (some (vi nv)) none) (vs sl (hi-lo) (d-lo)) (λw _=>(nf (P:=prog) (t:=22) (elem:=91) (sz:=1) (a:=(some mN)) (len:=b) (cap:=d) none (some (vi nv)) lo hi ET Et (.inl ⟨rfl,q10⟩) (.inr ⟨.i64,Eg (λq=>some (Value.int .i64 q)) q11⟩) q12 q13 w).trans (by rw[e14];try rfl)) [18,19]<|hH 1 [2] [vs sl (hi-lo) (d-lo)] hQ h
 refine kc 8 (zQ c4)<|gi 7 [8] [(15,VF)]<|pN 15<|zj 0<|aA<|aA<|aJ<|aE<|ar 4<|nb 2 [(18,vs g b d),(19,vi nv)] ?_;obtain⟨mC,e,q15,q16,q17,q18,h⟩:=h;obtain⟨f,e19⟩: ∃B,B=(if d=mC then g else Option.map (λR:Addr=>R.add (mC*1)) g):=⟨_,rfl⟩;replace h:=h f e19;exact wd 20 (i0 22 (vs g b d) none (some (vi nv)) none) (vs f (e-mC) (d-mC)) (λw _=>(nf (P:=prog) (t:=22) (elem:=91) (sz:=1) (a:=g) (len:=b) (cap:=d) none (some (vi nv)) mC e ET Et (.inl ⟨rfl,q15⟩) (.inr ⟨.i64,Eg (λq=>some (Value.int .i64 q)) q16⟩) q17 q18 w).trans (by rw[e19];try rfl)) [18,19]<|hH 1 [2] [vs f (e-mC) (d-mC)] hQ h
def mf.K0:=GC f111
def mf.pt(x:Int):GJ:=λH R=>
 ∀b H1,b=H.size->H1=H.push (.cells #[VF,VN] 24)->
 if x<0 then(
 ∀ak H2,ak=H1.size->H2=H1.push (.cells #[.int .u32 (IntKind.wrap .u32 (IntKind.wrap .u64 (0-(IntKind.wrap .u64 x)))),.int .u32 (IntKind.wrap .u32 (o0 .u64 (IntKind.wrap .u64 (0-(IntKind.wrap .u64 x))) 32))] 91)->
 jj.C (decide (x<0)) (some (ad ak)) 2 2 H2 (λv H3=> ∃q m o k rb,v=.tuple #[.agg #[.bool q,vs m o k],vi rb]/\
 ∀u H4,u=H3.size->H4=H3.push (.cells #[VF,VN] 24)->
 (aF H4 (ad u) 0 2)/\ ∀H5,H5=aL H4 (ad u) [.bool q,vs m o k] 0->
 ∃z s t r,aI H5 (ad u) 0 [.bool z,vs s t r]/\
 (aF H5 (ad b) 0 2)/\ ∀H6,H6=aL H5 (ad b) [.bool z,vs s t r] 0->
 ∃am ai ag ah,aI H6 (ad b) 0 [.bool am,vs ai ag ah]/\
 R (.agg #[.bool am,vs ai ag ah]) H6))
 else
 ∀al H7,al=H1.size->H7=H1.push (.cells #[.int .u32 (IntKind.wrap .u32 (IntKind.wrap .u64 x)),.int .u32 (IntKind.wrap .u32 (o0 .u64 (IntKind.wrap .u64 x) 32))] 91)->
 jj.C (decide (x<0)) (some (ad al)) 2 2 H7 (λao H8=> ∃f d e a af,ao=.tuple #[.agg #[.bool f,vs d e a],vi af]/\
 ∀y H9,y=H8.size->H9=H8.push (.cells #[VF,VN] 24)->
 (aF H9 (ad y) 0 2)/\ ∀aj,aj=aL H9 (ad y) [.bool f,vs d e a] 0->
 ∃p g j i,aI aj (ad y) 0 [.bool p,vs g j i]/\
 (aF aj (ad b) 0 2)/\ ∀an,an=aL aj (ad b) [.bool p,vs g j i] 0->
 ∃ae ac aa ab,aI an (ad b) 0 [.bool ae,vs ac aa ab]/\
 R (.agg #[.bool ae,vs ac aa ab]) an)
theorem mf.link{x:Int}(h:pt x H a):C x H a:=by
 refine l2 K0 25 func111 ?_;intro w0 Q hQ;unfold pt at h;refine ki [(0,vi x)]<|ar 0<|l1 (some 2) (λb=>vp (pa b)) (.cells #[VF,VN] 24)<|λb H1 e1 e2=>have h:=h b H1 e1 e2;im [] [(2,vp (pa b))]<|ue<|ar 1<|gi 3 [] [(3,vu (GD x))]<|gv<|ar 2<|gi 2 [] [(9,.bool (decide (x<0)))]<|jn h (λc3 h=>?_) (λc3 h=>?_)
 ·refine aH 9 (zX c3)<|k4 3<|gi 3 [3,9] [(3,vu (GD (0-(GD x))))]<|ar 4<|fd 7 [0,3] [(14,.bool (decide (x<0))),(16,.int .u32 (IntKind.wrap .u32 (GD (0-(GD x))))),(19,.int .u32 (IntKind.wrap .u32 (o0 .u64 (GD (0-(GD x))) 32)))]<|l1 (some 20) (λb=>vs (pa b) 2 2) (.cells #[.int .u32 (IntKind.wrap .u32 (GD (0-(GD x)))),.int .u32 (IntKind.wrap .u32 (o0 .u64 (GD (0-(GD x))) 32))] 91)<|λak H2 e5 e6=>have h:=h ak H2 e5 e6;im [16,19] [(20,vs (pa ak) 2 2)]<|Cm 21 [14,20] h λq m o k rb H3 h=>fd 3 [21] [(22,.agg #[.bool q,vs m o k]),(23,vi rb)]<|l1 (some 4) (λb=>vp (pa b)) (.cells #[VF,VN] 24)<|λu H4 e7 e8=>have h:=h u H4 e7 e8;im [] [(4,vp (pa u))]<|have⟨q10,h⟩:=h;bF 24 [.bool q,vs m o k] q10<|λH5 e9=>have h:=h H5 e9;im [22] []<|gi 1 [23] []<|ar 5<|have⟨z,s,t,r,q11,h⟩:=h;na 24 24 q11 [4]<|have⟨q13,h⟩:=h;bF 24 [.bool z,vs s t r] q13<|λH6 e12=>have h:=h H6 e12;im [24] []<|ue<|zx ?_;show At _ _ _ _ _ (Q .ret);exact have⟨am,ai,ag,ah,q14,h⟩:=h;bY (fn:=f111) [.agg #[.bool am,vs ai ag ah]] hQ (show bG _ _ _ [.cell 2 24] _ from .cell GE (aR Et Et q14) (.nil)) h
 refine aG 9 (zQ c3)<|kT<|ar 4<|fd 7 [0,3,9] [(14,.bool (decide (x<0))),(16,.int .u32 (IntKind.wrap .u32 (GD x))),(19,.int .u32 (IntKind.wrap .u32 (o0 .u64 (GD x) 32)))]<|l1 (some 20) (λb=>vs (pa b) 2 2) (.cells #[.int .u32 (IntKind.wrap .u32 (GD x)),.int .u32 (IntKind.wrap .u32 (o0 .u64 (GD x) 32))] 91)<|λal H7 e15 e16=>have h:=h al H7 e15 e16;im [16,19] [(20,vs (pa al) 2 2)]<|Cm 21 [14,20] h λf d e R af H8 h=>fd 3 [21] [(22,.agg #[.bool f,vs d e R]),(23,vi af)]<|l1 (some 4) (λb=>vp (pa b)) (.cells #[VF,VN] 24)<|λy H9 e17 e18=>have h:=h y H9 e17 e18;im [] [(4,vp (pa y))]<|have⟨q20,h⟩:=h;bF 24 [.bool f,vs d e R] q20<|λaj e19=>have h:=h aj e19;im [22] []<|gi 1 [23] []<|ar 5<|have⟨p,g,j,i,q21,h⟩:=h;na 24 24 q21 [4]<|have⟨q23,h⟩:=h;bF 24 [.bool p,vs g j i] q23<|λan e22=>have h:=h an e22;im [24] []<|ue<|zx ?_;show At _ _ _ _ _ (Q .ret);exact have⟨ae,ac,aa,ab,q24,h⟩:=h;bY (fn:=f111) [.agg #[.bool ae,vs ac aa ab]] hQ (show bG _ _ _ [.cell 2 24] _ from .cell GE (aR Et Et q24) (.nil)) h
end Go.Proofs.YtillhdiiglamhaaGreatDoor
namespace Go.Proofs.YtillhdiiglamhaaGreatDoor
open Go Go.Proofs.Tryz
open Int(tdiv tmod toNat)
theorem F9:type_of% @Go.Proofs.Tryz.underlying168:=@Go.Proofs.Tryz.underlying168
variable{a b:Nat}{H:zV}{d:zW}{g:zk}{i:Bool}
namespace dP
def K0:=GC f26
def K2:=cb K0
def K4:=cb K2
def K9:=ca K4
def Bj:=cb K9
def BK:=ca Bj
def Bt:=ca BK
end dP
def dP.pt(ah:Bool)(v:zW)(z y:Nat)(ac:Bool)(o:zW)(j m:Nat):GJ:=λH R=>
 ∀b H1,b=H.size->H1=H.push (.cells #[.bool ah,vs v z y] 24)->
 ∀d H2,d=H1.size->H2=H1.push (.cells #[.bool ac,vs o j m] 24)->
 ∃x,hat H2 (ad b)=some (.bool x)/\
 ∃ae,hat H2 (ad d)=some (.bool ae)/\
 if x=ae then(
 ∃xB xN xC,hat H2 ((ad b).add 1)=some (vs xB xN xC)/\
 ∃ai g ak,hat H2 ((ad d).add 1)=some (vs ai g ak)/\
 if(xN:Int)=(g:Int)then(
 ∃(am:zv) (m15:Int->zV->Nat),am 0 H2/\ ∀i H3,am i H3->
 ∃al f aj,hat H3 ((ad b).add 1)=some (vs al f aj)/\
 if i< (f:Int)then(
 ∃af q aa,hat H3 ((ad b).add 1)=some (vs af q aa)/\
 ∃p,af=some p/\
 zw i q/\
 ∃e,hat H3 (p.add (toNat i*1))=some (.int .u32 e)/\
 ∃ag r ab,hat H3 ((ad d).add 1)=some (vs ag r ab)/\
 ∃s,ag=some s/\
 zw i r/\
 ∃u,hat H3 (s.add (toNat i*1))=some (.int .u32 u)/\
 if e=u then(
 (am (zY (i+1)) H3/\m15 (zY (i+1)) H3<m15 i H3))
 else
 R VF H3)
 else
 R VT H3)
 else
 R VF H2)
 else
 R VF H2
theorem dP.link{ac:Bool}{o:zW}{j m:Nat}(h:pt i d a b ac o j m H g):C i d a b ac o j m H g:=by
 refine l2 K0 38 func26 ?_;intro w0 Q hQ;unfold pt zY at h;refine ki [(0,.agg #[.bool i,vs d a b]),(1,.agg #[.bool ac,vs o j m])]<|ar 0<|l1 (some 2) (λy=>vp (pa y)) (.cells #[.bool i,vs d a b] 24)<|λy H1 e1 e2=>have h:=h y H1 e1 e2;im [0] [(2,vp (pa y))]<|l1 (some 3) (λy=>vp (pa y)) (.cells #[.bool ac,vs o j m] 24)<|λz H2 e3 e4=>have h:=h z H2 e3 e4;im [1] [(3,vp (pa z))]<|gi 1 [] []<|gv<|ar 1<|fd 1 [] [(6,vp (pa y))]<|have⟨x,q5,h⟩:=h;hV 7 4 q5 [6]<|fd 1 [] [(8,vp (pa z))]<|have⟨ae,q6,h⟩:=h;hV 9 4 q6 [8]<|fd 2 [7,9] [(11,.bool (!(x==ae)))]<|jn h (λc7 h=>?_) (λc7 h=>?_)
 ·refine kc 11 (Eg Bool.not (zK c7))<|fd 1 [] [(12,Vq ((ad y).add 1))]<|have⟨xB,xN,xC,q9,h⟩:=h;hV 13 22 q9 [12]<|fd 2 [13] [(14,vi xN),(15,Vq ((ad z).add 1))]<|have⟨ai,v,ak,q10,h⟩:=h;hV 16 22 q10 [15]<|gi 3 [11,14,16] [(19,.bool ((xN:Int) !=(v:Int)))]<|jn h (λc11 h=>?_) (λc11 h=>?_)
  ·refine aG 19 (Em.mpr c11)<|kT<|gv<|ar 3<|gi 1 [19] [(5,vi 0)]<|k5 0<|have⟨am,m15,i13,i14⟩:=h;bI (x:=Bt) (σ:=Int) (λs_=> [(2,vp (pa y)),(3,vp (pa z)),(5,vi s_)]) (λs_ H=>am s_ H) (λs_ H=>m15 s_ H) (0:Int) GE i13 sk ?_;rintro ah H3 i15;have h:=i14 ah H3 i15;refine ki [(2,vp (pa y)),(3,vp (pa z)),(5,vi ah)]<|gv<|ar 4<|fd 2 [] [(20,vi ah),(21,Vq ((ad y).add 1))]<|have⟨al,f,aj,q16,h⟩:=h;hV 22 22 q16 [21]<|gi 2 [20,22] [(24,.bool (decide (ah< (f:Int))))]<|jn h (λc17 h=>?_) (λc17 h=>?_)
   ·refine aH 24 (zX c17)<|kT<|gv<|k5 1<|gv<|mO 6<|hX 27 (Vq ((ad y).add 1)) [24]<|have⟨af,q,aa,q19,h⟩:=h;lw (some 28) 22 q19 [27] [(28,vs af q aa)]<|hX 29 (vi ah) [] ?_;obtain⟨p,rfl,q20,ha⟩:=h;refine Bc (some 30) (bJ 22 (vs (some p) q aa) (vi ah)) (vp (some (p.add (toNat ah*1)))) Et (λw _=>dV (P:=prog) (t:=22) (elem:=91) (sz:=1) (a:=p) (len:=q) (cap:=aa) (k:=.i64) (i:=ah) ET Et q20.1 q20.2 w) [(2,vp (pa y)),(3,vp (pa z)),(5,vi ah),(30,vp (some (p.add (toNat ah*1))))] pk<|have⟨e,q21,h⟩:=ha;CM (some 31) 91 q21 [(2,vp (pa y)),(3,vp (pa z)),(5,vi ah),(31,.int .u32 e)]<|hX 32 (Vq ((ad z).add 1)) []<|have⟨ag,r,ab,q22,h⟩:=h;lw (some 33) 22 q22 [32] [(33,vs ag r ab)]<|hX 34 (vi ah) [] ?_;obtain⟨s,rfl,q23,hb⟩:=h;refine Bc (some 35) (bJ 22 (vs (some s) r ab) (vi ah)) (vp (some (s.add (toNat ah*1)))) Et (λw _=>dV (P:=prog) (t:=22) (elem:=91) (sz:=1) (a:=s) (len:=r) (cap:=ab) (k:=.i64) (i:=ah) ET Et q23.1 q23.2 w) [(2,vp (pa y)),(3,vp (pa z)),(5,vi ah),(31,.int .u32 e),(35,vp (some (s.add (toNat ah*1))))] pk<|have⟨u,q24,h⟩:=hb;CM (some 36) 91 q24 [(2,vp (pa y)),(3,vp (pa z)),(5,vi ah),(31,.int .u32 e),(36,.int .u32 u)]<|hX 37 (.bool (e !=u)) [31,36]<|iQ [(2,vp (pa y)),(3,vp (pa z)),(5,vi ah),(37,.bool (e !=u))] sk<|Bk<|jn h (λc25 h=>?_) (λc25 h=>?_)
    ·exact aG 37 (Em.mpr c25)<|Bn<|aD<|aE<|k4 5<|nx 3 [(2,vp (pa y)),(3,vp (pa z)),(5,vi (zY (ah+1)))]<|aQ ((zY (ah+1)):Int) sk h
    exact aH 37 (En.mpr c25)<|ar 7<|hH 1 [4] [VF] hQ h
   exact aG 24 (zQ c17)<|zj 0<|aA<|aA<|aJ<|aE<|ar 8<|hH 1 [4] [VT] hQ h
  exact aH 19 (En.mpr c11)<|ar 2<|hH 1 [4] [VF] hQ h
 exact kc 11 (Eg Bool.not (zJ c7))<|gi 8 [11] [(19,VT)]<|l7 19<|ar 2<|hH 1 [4] [VF] hQ h
def fl.K0:=GC f55
def fl.pt(ah:Bool)(af:zW)(ac ae:Nat):GJ:=λH R=>
 ∀b H1,b=H.size->H1=H.push (.cells #[.bool ah,vs af ac ae] 24)->
 ∃ag aa ab z,aI H1 (ad b) 0 [.bool ag,vs aa ab z]/\
 eD.C ag aa ab z H1 (λv H2=> ∃s u t y,v=.agg #[.bool s,vs u t y]/\
 fq.C s u t y H2 (λai H3=> ∃j d e a rb,ai=.tuple #[.agg #[.bool j,vs d e a],vi rb]/\
 ∀p H4,p=H3.size->H4=H3.push (.cells #[VF,VN] 24)->
 (aF H4 (ad p) 0 2)/\ ∀H5,H5=aL H4 (ad p) [.bool j,vs d e a] 0->
 if rb=0 then(
 ∃q f i g,aI H5 (ad p) 0 [.bool q,vs f i g]/\
 ∃r k m o,aI H5 (ad b) 0 [.bool r,vs k m o]/\
 dP.C q f i g r k m o H5 (λaj H6=> ∃x,aj=.bool x/\
 R (.bool x) H6))
 else
 R VF H5))
theorem fl.link(h:pt i d a b H g):C i d a b H g:=by
 refine l2 K0 18 func55 ?_;intro w0 Q hQ;unfold pt at h;refine ki [(0,.agg #[.bool i,vs d a b])]<|ar 0<|l1 (some 1) (λae=>vp (pa ae)) (.cells #[.bool i,vs d a b] 24)<|λae H1 e1 e2=>have h:=h ae H1 e1 e2;⟨[(1,vp (pa ae))],pk,?_⟩;refine gi 1 [] []<|ar 1<|have⟨ag,aa,ab,z,q3,h⟩:=h;na 6 24 q3 []<|C4 7 [6] h λs u t y H2 h=>Cm 8 [7] h λj ac e R rb H3 h=>fd 3 [8] [(9,.agg #[.bool j,vs ac e R]),(10,vi rb)]<|l1 (some 3) (λae=>vp (pa ae)) (.cells #[VF,VN] 24)<|λp H4 e4 e5=>have h:=h p H4 e4 e5;im [] [(3,vp (pa p))]<|have⟨q7,h⟩:=h;bF 24 [.bool j,vs ac e R] q7<|λH5 e6=>have h:=h H5 e6;im [9] []<|gi 1 [10] [(4,vi rb)]<|ar 2<|fd 3 [4] [(13,.bool (rb==0))]<|jn h (λc8 h=>?_) (λc8 h=>?_)
 ·exact kc 13 (zK c8)<|have⟨q,f,ah,af,q10,h⟩:=h;na 14 24 q10 [3]<|have⟨r,k,m,o,q11,h⟩:=h;na 15 24 q11 [1]<|l5 16 [14,15] h λx H6 h=>hH 2 [2] [.bool x] hQ h
 exact kc 13 (zJ c8)<|hH 5 [2] [VF] hQ h
namespace fq
def K0:=GC f107
def K2:=cb K0
def K4:=cb K2
def Bj:=cb K4
def BK:=ca Bj
def BF:=cb BK
def Bu:=ca BF
def BZ:=ca Bu
def Co:=cb BZ
def C1:=ca Co
def B8:=ca C1
def CN:=cb B8
def CG:=cb CN
def CY:=ca CG
end fq
def fq.pt(au:Bool)(aa:zW)(z v:Nat):GJ:=λH R=>
 ∀b H1,b=H.size->H1=H.push (.cells #[.bool au,vs aa z v] 170)->
 ∀e H2,e=H1.size->H2=H1.push (.cells #[VF,VN] 24)->
 ∃xB xN xC,hat H2 ((ad b).add 1)=some (vs xB xN xC)/\
 if(xN:Int)>1536 then(
 (aF H2 (ad e) 0 2)/\ ∀H3,H3=aL H2 (ad e) [VF,VN] 0->
 ∃a1 ax av aw,aI H3 (ad e) 0 [.bool a1,vs ax av aw]/\
 R (.tuple #[.agg #[.bool a1,vs ax av aw],vi 6]) H3)
 else
 ∃x,hat H2 (ad b)=some (.bool x)/\
 ∀d H4,d=H2.size->H4=H2.push (.cells #[VF,VN] 24)->
 (aF H4 (ad d) 0 2)/\ ∀H5,H5=aL H4 (ad d) [.bool x,VN] 0->
 ∃(az:zv) (m19:Int->zV->Nat),az 0 H5/\ ∀i H6,az i H6->
 ∃a2 ab a3,hat H6 ((ad b).add 1)=some (vs a2 ab a3)/\
 if i< (ab:Int)then(
 ∃J:zV->Prop,(
 if(tmod i 32)=0 then(
 ∃ak o am,hat H6 ((ad d).add 1)=some (vs ak o am)/\
 ∀a0 H9,a0=H6.size->H9=H6.push (.cells #[.int .u32 0] 91)->
 dY 1 91 4 [.int .u32 0] ak o am (some (ad a0)) 1 H9 (λap ay a8=>
 (aF a8 ((ad d).add 1) 0 1)/\ ∀a7,a7=aL a8 ((ad d).add 1) [vs ap (o+1) ay] 0->
 J a7))
 else
 J H6)/\ ∀H7,J H7->
 ∃aq ae al,hat H7 ((ad b).add 1)=some (vs aq ae al)/\
 ∃af,aq=some af/\
 zw i ae/\
 ∃ao,hat H7 (af.add (toNat i*1))=some (.int .u8 ao)/\
 if ao=1 then(
 ∃a5 g j,hat H7 ((ad d).add 1)=some (vs a5 g j)/\
 ∃a6 u ac,hat H7 ((ad d).add 1)=some (vs a6 u ac)/\
 ∃m,a6=some m/\
 ((0:Int)<=(zY (tdiv i 32))/\(zY (tdiv i 32))< (u:Int))/\
 ∃p,hat H7 (m.add (toNat (zY (tdiv i 32))*1))=some (.int .u32 p)/\
 (0<=(tmod i 32))/\
 ∃f,a5=some f/\
 ((0:Int)<=(zY (tdiv i 32))/\(zY (tdiv i 32))< (g:Int))/\
 (aF H7 (f.add (toNat (zY (tdiv i 32))*1)) 0 1)/\ ∀H8,H8=aL H7 (f.add (toNat (zY (tdiv i 32))*1)) [.int .u32 (mp .u32 p (k8 .u32 1 (tmod i 32)))] 0->
 (az (zY (i+1)) H8/\m19 (zY (i+1)) H8<m19 i H6))
 else
 (az (zY (i+1)) H7/\m19 (zY (i+1)) H7<m19 i H6))
 else
 ∃ag r s q,aI H6 (ad d) 0 [.bool ag,vs r s q]/\
 (aF H6 (ad e) 0 2)/\ ∀a4,a4=aL H6 (ad e) [.bool ag,vs r s q] 0->
 ∃an aj ah ai,aI a4 (ad e) 0 [.bool an,vs aj ah ai]/\
 R (.tuple #[.agg #[.bool an,vs aj ah ai],vi 0]) a4
theorem fq.link(h:pt i d a b H g):C i d a b H g:=by
 refine l2 K0 51 func107 ?_;intro w0 Q hQ;unfold pt zY at h;refine ki [(0,.agg #[.bool i,vs d a b])]<|ar 0<|l1 (some 1) (λv=>vp (pa v)) (.cells #[.bool i,vs d a b] 170)<|λv H1 e1 e2=>have h:=h v H1 e1 e2;⟨[(1,vp (pa v))],pk,?_⟩;refine l1 (some 2) (λv=>vp (pa v)) (.cells #[VF,VN] 24)<|λe H2 e3 e4=>have h:=h e H2 e3 e4;im [] [(2,vp (pa e))]<|gi 1 [] []<|gv<|ar 1<|fd 1 [] [(6,Vq ((ad v).add 1))]<|have⟨xB,xN,xC,q5,h⟩:=h;hV 7 168 q5 [6]<|gi 2 [7] [(9,.bool (decide ((xN:Int)>1536)))]<|jn h (λc6 h=>?_) (λc6 h=>?_)
 ·refine aH 9 (zX c6)<|ar 2<|fd 1 [1,9] [(10,.agg #[VF,VN])]<|have⟨q9,h⟩:=h;bF 24 [VF,VN] q9<|λH3 e8=>have h:=h H3 e8;im [10] []<|gi 1 [] [(3,vi 6)]<|zx ?_;show At _ _ _ _ _ (Q .ret);exact have⟨a1,ax,av,aw,q10,h⟩:=h;bY (fn:=f107) [.agg #[.bool a1,vs ax av aw],vi 6] hQ (show bG _ _ _ [.cell 2 24,.tmp 3] _ from .cell GE (aR Et Et q10) (.tmp GE (.nil))) h
 refine aG 9 (zQ c6)<|kT<|ar 3<|fd 1 [9] [(11,vp (pa v))]<|have⟨x,q11,h⟩:=h;hV 12 4 q11 [11]<|fd 1 [12] [(13,.agg #[.bool x,VN])]<|l1 (some 4) (λv=>vp (pa v)) (.cells #[VF,VN] 24)<|λz H4 e12 e13=>have h:=h z H4 e12 e13;im [] [(4,vp (pa z))]<|have⟨q15,h⟩:=h;bF 24 [.bool x,VN] q15<|λH5 e14=>have h:=h H5 e14;im [13] []<|ue<|gv<|ar 4<|gi 1 [] [(5,vi 0)]<|k5 0<|have⟨az,m19,i16,i17⟩:=h;bI (x:=BZ) (σ:=Int) (λs_=> [(1,vp (pa v)),(2,vp (pa e)),(4,vp (pa z)),(5,vi s_)]) (λs_ H=>az s_ H) (λs_ H=>m19 s_ H) (0:Int) GE i16 sk ?_;rintro au H6 i18;have h:=i17 au H6 i18;refine ki [(1,vp (pa v)),(2,vp (pa e)),(4,vp (pa z)),(5,vi au)]<|gv<|ar 5<|fd 2 [] [(14,vi au),(15,Vq ((ad v).add 1))]<|have⟨a2,ab,a3,q19,h⟩:=h;hV 16 168 q19 [15]<|gi 2 [14,16] [(18,.bool (decide (au< (ab:Int))))]<|jn h (λc20 h=>?_) (λc20 h=>?_)
 ·refine aH 18 (zX c20)<|kT<|gv<|k5 1<|gv<|ar 7<|nx 3 [(1,vp (pa v)),(2,vp (pa e)),(4,vp (pa z)),(5,vi au),(23,.bool ((tmod au 32)==0))]<|have⟨J,h,j23⟩:=h;j2 (σ:=Unit) (λs_=> [(1,vp (pa v)),(2,vp (pa e)),(4,vp (pa z)),(5,vi au)]) (λs_ H=>J H) ?_ ?_
  ·refine λ_ H7 j24=>have h:=j23 H7 j24;ki [(1,vp (pa v)),(2,vp (pa e)),(4,vp (pa z)),(5,vi au)]<|aE<|ar 9<|fd 1 [] [(29,Vq ((ad v).add 1))]<|have⟨aq,ae,al,q25,h⟩:=h;hV 30 168 q25 [29]<|fd 1 [] [(31,vi au)] ?_;obtain⟨af,rfl,q26,ha⟩:=h;refine ww (some 32) 168 5 1 af ae al .i64 au F9 q26.1 q26.2 [30,31] [(32,Vq (af.add (toNat au*1)))]<|have⟨ao,q27,h⟩:=ha;hV 33 5 q27 [32]<|gi 1 [33] [(34,.bool (ao==1))]<|jn h (λc28 h=>?_) (λc28 h=>?_)
   ·refine aH 34 (zK c28) ?_;obtain⟨a5,aa,j,q30,a6,u,ac,q31,m,rfl,q32,p,q33,q34,f,rfl,q35,hb⟩:=h;refine yY 10 (Code.ops CY) [(15,((ad z).add 1),[vs (some f) aa j]),(15,((ad z).add 1),[vs (some m) u ac]),(15,(m.add (toNat (zY (tdiv au 32))*1)),[.int .u32 p])] 16 (bv 16 0) (show aP _ _ _ from⟨⟨q30,GB⟩,⟨q31,GB⟩,⟨q33,GB⟩,GB⟩)<|Bp 0 (some 35) (vp (some ((ad z).add 1))) (bv 16 1) [(1,vp (pa v)),(2,vp (pa e)),(4,vp (pa z)),(5,vi au),(35,vp (some ((ad z).add 1)))]<|lb 1 36 (vs (some f) aa j) (bv 16 3) [35] (aZ 22 (vp (some ((ad z).add 1)))) (yW 15 yZ)<|aM 2 37 (vi au) (bv 16 7) []<|aM 3 38 (vi (zY (tdiv au 32))) (bv 16 15) [37]<|aM 4 39 (vp (some ((ad z).add 1))) (bv 16 31) []<|lb 5 40 (vs (some m) u ac) (bv 16 63) [39] (aZ 22 (vp (some ((ad z).add 1)))) (yW 15 yX)<|aM 6 41 (vi au) (bv 16 127) []<|aM 7 42 (vi (zY (tdiv au 32))) (bv 16 255) [41]<|lb 8 43 (vp (some (m.add (toNat (zY (tdiv au 32))*1)))) (bv 16 511) [40,42] (bJ 22 (vs (some m) u ac) (vi (zY (tdiv au 32)))) (λ_ w _ _ _=>dV (P:=prog) (t:=22) (elem:=91) (sz:=1) (a:=m) (len:=u) (cap:=ac) (k:=.i64) (i:=(zY (tdiv au 32))) ET Et q32.1 q32.2 w)<|lb 9 44 (.int .u32 p) (bv 16 1023) [43] (aZ 91 (vp (some (m.add (toNat (zY (tdiv au 32))*1))))) (yW 15 yQ)<|aM 10 45 (vi au) (bv 16 2047) []<|aM 11 46 (vi (tmod au 32)) (bv 16 4095) [45]<|lb 12 47 (.int .u32 (k8 .u32 1 (tmod au 32))) (bv 16 8191) [46] (Cb .shl 91 (.int .u32 1) (vi (tmod au 32))) (λ_ w _ _ _=>tc (P:=prog) (t:=91) (k:=.u32) (k':=.i64) (x:=1) (y:=(tmod au 32)) q34 w)<|aM 13 48 (.int .u32 (mp .u32 p (k8 .u32 1 (tmod au 32)))) (bv 16 16383) [44,47]<|lb 14 49 (vp (some (f.add (toNat (zY (tdiv au 32))*1)))) (bv 16 32767) [36,38] (bJ 22 (vs (some f) aa j) (vi (zY (tdiv au 32)))) (λ_ w _ _ _=>dV (P:=prog) (t:=22) (elem:=91) (sz:=1) (a:=f) (len:=aa) (cap:=j) (k:=.i64) (i:=(zY (tdiv au 32))) ET Et q35.1 q35.2 w)<|have⟨q37,h⟩:=hb;gR 15 none (bv 16 65535) (jR 91 (vp (some (f.add (toNat (zY (tdiv au 32))*1)))) (.int .u32 (mp .u32 p (k8 .u32 1 (tmod au 32))))) (λHz=>Hz=aL H7 (f.add (toNat (zY (tdiv au 32))*1)) [.int .u32 (mp .u32 p (k8 .u32 1 (tmod au 32)))] 0) GE Et (ji [.int .u32 (mp .u32 p (k8 .u32 1 (tmod au 32)))] 1 GE GE Et GE q37) GE<|λH8 e36=>have h:=h H8 e36;⟨[(1,vp (pa v)),(2,vp (pa e)),(4,vp (pa z)),(5,vi au)],pk,(show aP _ _ _ from⟨GB,GB,GB,GB⟩),?_⟩;exact gm [(1,vp (pa v)),(2,vp (pa e)),(4,vp (pa z)),(5,vi au)] sk<|yx<|aD<|aE<|k4 6<|nx 3 [(1,vp (pa v)),(2,vp (pa e)),(4,vp (pa z)),(5,vi (zY (au+1)))]<|aQ ((zY (au+1)):Int) sk h
   exact aG 34 (zJ c28)<|Bn<|aD<|aE<|k4 6<|gi 3 [5,34] [(5,vi (zY (au+1)))]<|aQ ((zY (au+1)):Int) sk h
  revert h;refine CU (λc38 h=>?_) (λc38 h=>?_)
  ·have b39:((tmod au 32)==0)=true:=zK c38;refine cW [(1,vp (pa v)),(2,vp (pa e)),(4,vp (pa z)),(5,vi au),(23,VT)] (by simp only[b39,Es,Ep]) ?_;clear b39;refine l7 23<|k4 8<|fd 1 [23] [(24,Vq ((ad z).add 1))]<|have⟨ak,o,am,q40,h⟩:=h;hV 25 22 q40 [24]<|l1 (some 26) (λv=>vs (pa v) 1 1) (.cells #[.int .u32 0] 91) ?_;intro a0 H9 e41 e42;replace h:=h a0 H9 e41 e42;refine im [] [(26,vs (pa a0) 1 1)]<|xl (some 27) (eM #[22,22] 22 #[vs ak o am,vs (pa a0) 1 1]) _ Et (cT (T:=91) (sz:=1) (bytes:=4) (zero:=(.int .u32 0:Value)) ET ET rfl (show prog.info? 91=some t91 from GE) GE GE GG GE (by first | exact h | (simpa only[Value.cells,EI]using h))) ?_;clear h;rintro _ a8 ⟨ap,ay,rfl,h⟩;exact im [25,26] [(27,vs ap (o+1) ay)]<|fd 1 [] [(28,Vq ((ad z).add 1))]<|have⟨q44,h⟩:=h;fj 22 (vs ap (o+1) ay) q44<|λa7 e43=>have h:=h a7 e43;im [27,28] []<|ue<|dL (():Unit) sk h
  have b39:((tmod au 32)==0)=false:=zJ c38;refine cW [(1,vp (pa v)),(2,vp (pa e)),(4,vp (pa z)),(5,vi au),(23,VF)] (by simp only[b39,Es,Ep]) ?_;clear b39;exact pN 23<|kT<|dL (():Unit) sk h
 refine aG 18 (zQ c20)<|zj 0<|aA<|aA<|aJ<|aE<|ar 11<|p0 [1,5,18] []<|have⟨ag,r,s,q,q45,h⟩:=h;na 50 24 q45 [4]<|have⟨q47,h⟩:=h;bF 24 [.bool ag,vs r s q] q47<|λa4 e46=>have h:=h a4 e46;im [50] []<|gi 1 [] [(3,vi 0)]<|zx ?_;show At _ _ _ _ _ (Q .ret);exact have⟨an,aj,ah,ai,q48,h⟩:=h;bY (fn:=f107) [.agg #[.bool an,vs aj ah ai],vi 0] hQ (show bG _ _ _ [.cell 2 24,.tmp 3] _ from .cell GE (aR Et Et q48) (.tmp GE (.nil))) h
namespace eD
def K0:=GC f108
def K2:=cb K0
def K4:=cb K2
def K5:=ca K4
def K8:=cb K5
def K9:=ca K8
def BE:=ca K9
def Bj:=cb BE
def Bu:=ca Bj
def BR:=ca Bu
def B4:=cb BR
def B6:=ca B4
def Ch:=ca B6
end eD
def eD.pt(ae:Bool)(r:zW)(p q:Nat):GJ:=λH R=>
 ∀b H1,b=H.size->H1=H.push (.cells #[.bool ae,vs r p q] 24)->
 ∀d H2,d=H1.size->H2=H1.push (.cells #[VF,VN] 170)->
 ∃(aj:zW->Nat->Nat->zv) (m11:zW->Nat->Nat->Int->zV->Nat),aj none 0 0 0 H2/\ ∀bB bN bC i H3,aj bB bN bC i H3->
 ∃xB xN xC,hat H3 ((ad b).add 1)=some (vs xB xN xC)/\
 if i< (xN:Int)then(
 ∃(ak:zW->Nat->Nat->zv) (m24:zW->Nat->Nat->Int->zV->Nat),ak bB bN bC 0 H3/\ ∀e bN_2 bC_2 k H4,ak e bN_2 bC_2 k H4->
 if k<32 then(
 ∃ac m s,hat H4 ((ad b).add 1)=some (vs ac m s)/\
 ∃o,ac=some o/\
 zw i m/\
 ∃x,hat H4 (o.add (toNat i*1))=some (.int .u32 x)/\
 (0<=k)/\
 ∀ah H5,ah=H4.size->H5=H4.push (.cells #[.int .u8 (IntKind.wrap .u8 (l3 .u32 (o0 .u32 x k) 1))] 5)->
 dY 1 5 1 [.int .u8 0] e bN_2 bC_2 (some (ad ah)) 1 H5 (λap af H6=>
 (ak ap (bN_2+1) af (zY (k+1)) H6/\m24 ap (bN_2+1) af (zY (k+1)) H6<m24 e bN_2 bC_2 k H4)))
 else
 (aj e bN_2 bC_2 (zY (i+1)) H4/\m11 e bN_2 bC_2 (zY (i+1)) H4<m11 bB bN bC i H3))
 else
 ∃ag,hat H3 (ad b)=some (.bool ag)/\
 fg.C ag bB bN bC H3 (λv H7=> ∃u g f j,v=.agg #[.bool u,vs g f j]/\
 (aF H7 (ad d) 0 2)/\ ∀H8,H8=aL H7 (ad d) [.bool u,vs g f j] 0->
 ∃ai ab z aa,aI H8 (ad d) 0 [.bool ai,vs ab z aa]/\
 R (.agg #[.bool ai,vs ab z aa]) H8)
theorem eD.link(h:pt i d a b H g):C i d a b H g:=by
 refine l2 K0 33 func108 ?_;intro w0 Q hQ;unfold pt zY at h;refine ki [(0,.agg #[.bool i,vs d a b])]<|ar 0<|l1 (some 1) (λR=>vp (pa R)) (.cells #[.bool i,vs d a b] 24)<|λR H1 e1 e2=>have h:=h R H1 e1 e2;⟨[(1,vp (pa R))],pk,?_⟩;refine l1 (some 2) (λR=>vp (pa R)) (.cells #[VF,VN] 170)<|λq H2 e3 e4=>have h:=h q H2 e3 e4;im [] [(2,vp (pa q))]<|ue<|ar 1<|gi 1 [] [(3,VN)]<|gv<|ar 2<|gi 1 [] [(4,vi 0)]<|k5 0<|have⟨aj,m11,i5,i6⟩:=h;bI (x:=BE) (σ:=zW×Nat×Nat×Int) (λs_=> [(1,vp (pa R)),(2,vp (pa q)),(3,vs s_.1 s_.2.1 s_.2.2.1),(4,vi s_.2.2.2)]) (λs_ H=>aj s_.1 s_.2.1 s_.2.2.1 s_.2.2.2 H) (λs_ H=>m11 s_.1 s_.2.1 s_.2.2.1 s_.2.2.2 H) ((none,0,0,0):zW×Nat×Nat×Int) GE i5 sk ?_;rintro⟨bB,bN,bC,r⟩ H3 i7;have h:=i6 bB bN bC r H3 i7;refine ki [(1,vp (pa R)),(2,vp (pa q)),(3,vs bB bN bC),(4,vi r)]<|gv<|ar 3<|fd 2 [] [(6,vi r),(7,Vq ((ad R).add 1))]<|have⟨xB,xN,xC,q8,h⟩:=h;hV 8 22 q8 [7]<|gi 2 [6,8] [(10,.bool (decide (r< (xN:Int))))]<|jn h (λc9 h=>?_) (λc9 h=>?_)
 ·refine aH 10 (zX c9)<|kT<|gv<|k5 1<|ar 5<|gi 1 [10] [(5,vi 0)]<|k5 2<|have⟨ak,m24,i11,i12⟩:=h;bI (x:=Ch) (σ:=zW×Nat×Nat×Int) (λs_=> [(1,vp (pa R)),(2,vp (pa q)),(3,vs s_.1 s_.2.1 s_.2.2.1),(4,vi r),(5,vi s_.2.2.2)]) (λs_ H=>ak s_.1 s_.2.1 s_.2.2.1 s_.2.2.2 H) (λs_ H=>m24 s_.1 s_.2.1 s_.2.2.1 s_.2.2.2 H) ((bB,bN,bC,0):zW×Nat×Nat×Int) GE i11 sk ?_;rintro⟨e,bN_2,bC_2,k⟩ H4 i13;have h:=i12 e bN_2 bC_2 k H4 i13;refine ki [(1,vp (pa R)),(2,vp (pa q)),(3,vs e bN_2 bC_2),(4,vi r),(5,vi k)]<|gv<|ar 6<|gi 2 [] [(14,.bool (decide (k<32)))]<|jn h (λc14 h=>?_) (λc14 h=>?_)
  ·refine aH 14 (zX c14)<|kT<|gv<|k5 3<|k4 8<|fd 2 [3,14] [(17,vs e bN_2 bC_2),(18,Vq ((ad R).add 1))]<|have⟨ac,m,s,q16,h⟩:=h;hV 19 22 q16 [18]<|fd 1 [] [(20,vi r)] ?_;obtain⟨o,rfl,q17,ha⟩:=h;refine ww (some 21) 22 91 1 o m s .i64 r ET q17.1 q17.2 [19,20] [(21,Vq (o.add (toNat r*1)))]<|have⟨x,q18,h⟩:=ha;hV 22 91 q18 [21]<|fd 1 [] [(23,vi k)]<|have⟨q19,h⟩:=h;wd 24 (Cb .shr 91 (.int .u32 x) (vi k)) (.int .u32 (o0 .u32 x k)) (λw _=>wm (P:=prog) (t:=91) (k:=.u32) (k':=.i64) (x:=x) (y:=k) q19 w) [22,23]<|fd 2 [24] [(26,.int .u8 (IntKind.wrap .u8 (l3 .u32 (o0 .u32 x k) 1)))]<|l1 (some 27) (λR=>vs (pa R) 1 1) (.cells #[.int .u8 (IntKind.wrap .u8 (l3 .u32 (o0 .u32 x k) 1))] 5) ?_;intro ah H5 e20 e21;replace h:=h ah H5 e20 e21;refine im [26] [(27,vs (pa ah) 1 1)]<|xl (some 28) (eM #[168,168] 168 #[vs e bN_2 bC_2,vs (pa ah) 1 1]) _ Et (cT (T:=5) (sz:=1) (bytes:=1) (zero:=(.int .u8 0:Value)) F9 F9 rfl (show prog.info? 5=some t5 from GE) GE GE GG GE (by first | exact h | (simpa only[Value.cells,EI]using h))) ?_;clear h;rintro _ H6 ⟨ap,af,rfl,h⟩;exact im [17,27] [(28,vs ap (bN_2+1) af)]<|fd 1 [28] [(3,vs ap (bN_2+1) af)]<|zq<|aD<|aE<|k4 7<|gi 3 [5] [(5,vi (zY (k+1)))]<|aQ ((ap,(bN_2+1),af,(zY (k+1))):zW×Nat×Nat×Int) sk h
  exact aG 14 (zQ c14)<|zj 2<|aA<|aA<|aJ<|aD<|aE<|k4 4<|gi 3 [4,5,14] [(4,vi (zY (r+1)))]<|aQ ((e,bN_2,bC_2,(zY (r+1))):zW×Nat×Nat×Int) sk h
 refine aG 10 (zQ c9)<|zj 0<|aA<|aA<|aJ<|aE<|ar 9<|fd 1 [1,4,10] [(29,vp (pa R))] ?_;obtain⟨ag,q22,h⟩:=h;refine hV 30 4 q22 [29]<|fd 1 [3] [(31,vs bB bN bC)]<|Bs (some 32) h ?_;clear h;rintro v H7 ⟨u,p,f,j,rfl,h⟩;refine im [30,31] [(32,.agg #[.bool u,vs p f j])]<|have⟨q24,h⟩:=h;bF 170 [.bool u,vs p f j] q24<|λH8 e23=>have h:=h H8 e23;im [32] []<|ue<|zx ?_;show At _ _ _ _ _ (Q .ret);exact have⟨ai,ab,z,aa,q25,h⟩:=h;bY (fn:=f108) [.agg #[.bool ai,vs ab z aa]] hQ (show bG _ _ _ [.cell 2 170] _ from .cell GE (aR Et Et q25) (.nil)) h
def fg.K0:=GC f147
def fg.pt(a:Bool)(bB:zW)(bN bC:Nat):GJ:=λH R=>
 ∀b H1,b=H.size->H1=H.push (.cells #[VF,VN] 170)->
 ft.C bB bN bC H1 (λv H2=> ∃xB xN xC,v=vs xB xN xC/\
 if a=true then(
 (aF H2 (ad b) 0 2)/\ ∀H3,H3=aL H2 (ad b) [.bool (decide ((xN:Int)>0)),vs xB xN xC] 0->
 ∃m k i j,aI H3 (ad b) 0 [.bool m,vs k i j]/\
 R (.agg #[.bool m,vs k i j]) H3)
 else
 (aF H2 (ad b) 0 2)/\ ∀H4,H4=aL H2 (ad b) [VF,vs xB xN xC] 0->
 ∃g f e d,aI H4 (ad b) 0 [.bool g,vs f e d]/\
 R (.agg #[.bool g,vs f e d]) H4)
theorem fg.link(h:pt i d a b H g):C i d a b H g:=by
 refine l2 K0 15 func147 ?_;intro w0 Q hQ;unfold pt at h;refine ki [(0,.bool i),(1,vs d a b)]<|ar 0<|l1 (some 4) (λR=>vp (pa R)) (.cells #[VF,VN] 170)<|λR H1 e1 e2=>have h:=h R H1 e1 e2;im [] [(4,vp (pa R))]<|ue<|ar 1<|fd 1 [1] [(5,vs d a b)]<|BO 6 [5] h λxB xN xC H2 h=>gi 1 [6] [(1,vs xB xN xC)]<|ar 2<|fd 2 [0] [(8,.bool i)]<|jn h (λc3 h=>?_) (λc3 h=>?_)
 ·refine kc 8 c3<|fd 6 [1,8] [(14,.agg #[.bool (decide ((xN:Int)>0)),vs xB xN xC])]<|have⟨q6,h⟩:=h;bF 170 [.bool (decide ((xN:Int)>0)),vs xB xN xC] q6<|λH3 e5=>have h:=h H3 e5;im [14] []<|ue<|zx ?_;show At _ _ _ _ _ (Q .ret);exact have⟨m,k,bB,j,q7,h⟩:=h;bY (fn:=f147) [.agg #[.bool m,vs k bB j]] hQ (show bG _ _ _ [.cell 4 170] _ from .cell GE (aR Et Et q7) (.nil)) h
 refine kc 8 (zZ c3)<|fd 6 [1,8] [(14,.agg #[VF,vs xB xN xC])]<|have⟨q9,h⟩:=h;bF 170 [VF,vs xB xN xC] q9<|λH4 e8=>have h:=h H4 e8;im [14] []<|ue<|zx ?_;show At _ _ _ _ _ (Q .ret);exact have⟨bN,f,e,bC,q10,h⟩:=h;bY (fn:=f147) [.agg #[.bool bN,vs f e bC]] hQ (show bG _ _ _ [.cell 4 170] _ from .cell GE (aR Et Et q10) (.nil)) h
def ft.K0:=GC f159
def ft.K2:=cb K0
def ft.K4:=cb K2
def ft.K5:=ca K4
def ft.K7:=ca K5
def ft.K8:=ca K7
def ft.pt(bB:zW)(bN bC:Nat):GJ:=λH R=>
 ∃(I9:zv) (m9:Int->zV->Nat),I9 (bN:Int) H/\ ∀nv H1,I9 nv H1->
 if nv>0 then(
 ∃d,bB=some d/\
 ((0:Int)<=(zY (nv-1))/\(zY (nv-1))< (bN:Int))/\
 ∃x,hat H1 (d.add (toNat (zY (nv-1))*1))=some (.int .u8 x)/\
 if x=0 then(
 (I9 (zY (nv-1)) H1/\m9 (zY (nv-1)) H1<m9 nv H1))
 else
 ∃(lo hi:Nat),lo=0/\nv=(hi:Int)/\lo<=hi/\hi<=bC/\
 ∀sl:zW,sl=(if bC=lo then(some d)else Option.map (λa:Addr=>a.add (lo*1)) (some d))->
 R (vs sl (hi-lo) (bC-lo)) H1)
 else
 ∃(b e:Nat),b=0/\nv=(e:Int)/\b<=e/\e<=bC/\
 ∀f:zW,f=(if bC=b then bB else Option.map (λa:Addr=>a.add (b*1)) bB)->
 R (vs f (e-b) (bC-b)) H1
theorem ft.link(h:pt d a b H g):C d a b H g:=by
 refine l2 K0 21 func159 ?_;intro w0 Q hQ;unfold pt zY at h;refine ki [(0,vs d a b)]<|ar 0<|gi 1 [] []<|ar 1<|gi 3 [] [(3,vi a)]<|gv<|k5 0<|have⟨I9,m9,i1,i2⟩:=h;bI (x:=K8) (σ:=Int) (λs_=> [(0,vs d a b),(3,vi s_)]) (λs_ H=>I9 s_ H) (λs_ H=>m9 s_ H) ((a:Int):Int) GE i1 sk ?_;rintro nv H1 i3;have h:=i2 nv H1 i3;refine ki [(0,vs d a b),(3,vi nv)]<|gv<|ar 2<|fd 3 [] [(8,.bool (decide (nv>0)))]<|jn h (λc4 h=>?_) (λc4 h=>?_)
 ·refine kc 8 (zX c4)<|fd 3 [] [(9,vs d a b),(11,vi (zY (nv-1)))] ?_;obtain⟨bN,rfl,q6,ha⟩:=h;refine ww (some 12) 168 5 1 bN a b .i64 (zY (nv-1)) F9 q6.1 q6.2 [0,9,11] [(0,vs (some bN) a b),(12,vp (some (bN.add (toNat (zY (nv-1))*1))))]<|have⟨x,q7,h⟩:=ha;hV 13 5 q7 [12]<|gi 2 [8,13] [(15,.bool (x==0))]<|jn h (λc8 h=>?_) (λc8 h=>?_)
  ·exact aH 15 (zK c8)<|kT<|k5 1<|k4 3<|fd 3 [3,15] [(3,vi (zY (nv-1)))]<|zq<|aD<|aE<|aQ ((zY (nv-1)):Int) sk h
  refine aG 15 (zJ c8)<|zj 0<|aA<|aA<|aJ<|aE<|ar 4<|nb 2 [(18,vs (some bN) a b),(19,vi nv)] ?_;obtain⟨lo,hi,q10,q11,q12,q13,h⟩:=h;obtain⟨sl,e14⟩: ∃B,B=(if b=lo then(some bN)else Option.map (λR:Addr=>R.add (lo*1)) (some bN)):=⟨_,rfl⟩;replace h:=h sl e14;exact wd 20 (i0 168 (vs (some bN) a b) none (some (vi nv)) none) (vs sl (hi-lo) (b-lo)) (λw _=>(nf (P:=prog) (t:=168) (elem:=5) (sz:=1) (a:=(some bN)) (len:=a) (cap:=b) none (some (vi nv)) lo hi F9 Et (.inl ⟨rfl,q10⟩) (.inr ⟨.i64,Eg (λq=>some (Value.int .i64 q)) q11⟩) q12 q13 w).trans (by rw[e14];try rfl)) [18,19]<|hH 1 [2] [vs sl (hi-lo) (b-lo)] hQ h
 refine kc 8 (zQ c4)<|gi 7 [8] [(15,VF)]<|pN 15<|zj 0<|aA<|aA<|aJ<|aE<|ar 4<|nb 2 [(18,vs d a b),(19,vi nv)] ?_;obtain⟨bC,e,q15,q16,q17,q18,h⟩:=h;obtain⟨f,e19⟩: ∃B,B=(if b=bC then d else Option.map (λR:Addr=>R.add (bC*1)) d):=⟨_,rfl⟩;replace h:=h f e19;exact wd 20 (i0 168 (vs d a b) none (some (vi nv)) none) (vs f (e-bC) (b-bC)) (λw _=>(nf (P:=prog) (t:=168) (elem:=5) (sz:=1) (a:=d) (len:=a) (cap:=b) none (some (vi nv)) bC e F9 Et (.inl ⟨rfl,q15⟩) (.inr ⟨.i64,Eg (λq=>some (Value.int .i64 q)) q16⟩) q17 q18 w).trans (by rw[e19];try rfl)) [18,19]<|hH 1 [2] [vs f (e-bC) (b-bC)] hQ h
