/- Printed: what each function asks, and that it is sound. -/
import Derived.Test.YtfhbhckhmnleoaaGreatFnsC
set_option linter.unusedSimpArgs false
set_option linter.unusedVariables false
set_option maxRecDepth 100000
set_option maxHeartbeats 1000000
noncomputable section
namespace Go.Proofs.YtfhbhckhmnleoaaGreat
open Go Go.Proofs.Tryz
open Int(tdiv tmod)
theorem Ez:type_of% @Go.Proofs.Tryz.underlying85:=@Go.Proofs.Tryz.underlying85
theorem DU:type_of% @enters_of:=@enters_of
variable{R:zv}{H:zV}{d r:zW}{i j u:Int}{k o:Nat}
def cL.K0:=EP Tryz.f53
def cL.pt(s:zW)(d b nv:Int)(H:zV)(R:zv):=
 cV.C s H (λv H1=> ∃x,v=.bool x/\
 if x=true then(
 R (.tuple #[vi 0,vi 1]) H1)
 else
 ki.C d b nv H1 (λac H2=> ∃o,ac=.bool o/\
 if o=true then(
 cT.C s d b H2 (λae H3=> ∃ra rb,ae=.tuple #[vi ra,.bool rb]/\
 ∃J:zV->Prop,(
 if rb=true then(
 ∃g,s=some g/\
 ∃r,hat H3 g=some (vp r)/\
 gU.C r ra nv H3 (λab H8=> ∃j m,ab=.tuple #[vi j,vi m]/\
 if m=0 then(
 R (.tuple #[vi j,vi 0]) H8)
 else
 J H8))
 else
 J H3)/\ ∀H4,J H4->
 ∃sA,s=some sA/\
 ∃u,hat H4 sA=some (vp u)/\
 iI.C u d b H4 (λz H5=> ∃e f,z=.tuple #[vi e,vi f]/\
 if f=0 then(
 yZ d 5/\
 yZ b 4/\
 (aH H5 (((sA.add 1).add (Int.toNat d*4)).add (Int.toNat b*1)) 0 1)/\ ∀H6,H6=aP H5 (((sA.add 1).add (Int.toNat d*4)).add (Int.toNat b*1)) [vi (zY (e+1))] 0->
 ∃y,hat H6 sA=some (vp y)/\
 gU.C y e nv H6 (λaa H7=> ∃p q,aa=.tuple #[vi p,vi q]/\
 R (.tuple #[vi p,vi q]) H7))
 else
 R (.tuple #[vi 0,vi f]) H5)))
 else
 R (.tuple #[vi 0,vi 1]) H2))
theorem cL.link(h:pt d i j u H R):C d i j u H R:=by
 refine sa K0 77 func53 ?_
 intro w0 Q hQ
 unfold pt zY at h
 refine nx [(0,vp d),(1,vi i),(2,vi j),(3,vi u)]<|ar 0<|eT 2 [] []<|ge<|ar 1<|eH 1 [] [(16,vp d)]<|sv 17 [16] h λx H1 h=>eH 1 [17] [(18,.bool x)]<|qx h (λc1 h=>?_) (λc1 h=>?_)
 ·exact o0 18 c1<|eT 6 [18] [(24,VT)]<|wc 24<|ar 2<|kb 2 [8,9] [vi 0,vi 1] hQ h
 refine o0 18 (zZ c1)<|eH 3 [] [(19,vi i),(20,vi j),(21,vi u)]<|sv 22 [19,20,21] h λo H2 h=>eT 2 [18,22] [(24,.bool (!o))]<|qx h (λc3 h=>?_) (λc3 h=>?_)
 ·refine aK 24 (CJ Bool.not (c3))<|nc<|ge<|ar 3<|eH 3 [24] [(26,vp d),(27,vi i),(28,vi j)]<|yT 29 [26,27,28] h λra rb H3 h=>eT 5 [29] [(10,vi ra),(11,.bool rb)]<|ar 4<|u5 1 [(0,vp d),(1,vi i),(2,vi j),(3,vi u),(10,vi ra),(32,.bool rb)]<|have⟨J,h,j6⟩:=h;pD (σ:=Unit) (λs_=> [(0,vp d),(1,vi i),(2,vi j),(3,vi u)]) (λs_ H=>J H) ?_ ?_
  ·refine λ_ H4 j7=>have h:=j6 H4 j7;nx [(0,vp d),(1,vi i),(2,vi j),(3,vi u)]<|aC<|ar 8<|eH 1 [] [(47,vp d)] ?_
   obtain⟨sA,rfl,ha⟩:=h
   refine eH 2 [0,47] [(0,Vq sA),(49,Vq sA)]<|have⟨s,q8,h⟩:=ha;hH 50 78 q8 [49]<|eH 2 [] [(51,vi i),(52,vi j)]<|yT 53 [50,51,52] h λe f H5 h=>eT 5 [53] [(14,vi e),(15,vi f)]<|ge<|ar 9<|eT 2 [] [(57,.bool (f !=0))]<|qx h (λc9 h=>?_) (λc9 h=>?_)
   ·exact aK 57 (CX.mpr c9)<|nc<|ar 11<|eH 7 [1,2,15,57] [(60,vi i),(61,vi j),(63,vi (zY (e+1))),(65,Vq (sA.add 1))]<|have⟨q11,h⟩:=h;zd 66 (bE 80 (Vq (sA.add 1)) (vi i)) (Vq ((sA.add 1).add (Int.toNat i*4))) (λw _=>bQ (P:=prog) (t:=80) (elem:=79) (sz:=4) (n:=5) (a:=(sA.add 1)) (k:=.i64) (i:=i) Eh (λ_=>by kernel_rfl) q11.1 q11.2 w) [60,65]<|have⟨q12,h⟩:=h;zd 67 (bE 79 (Vq ((sA.add 1).add (Int.toNat i*4))) (vi j)) (Vq (((sA.add 1).add (Int.toNat i*4)).add (Int.toNat j*1))) (λw _=>bQ (P:=prog) (t:=79) (elem:=3) (sz:=1) (n:=4) (a:=((sA.add 1).add (Int.toNat i*4))) (k:=.i64) (i:=j) DN (λ_=>by kernel_rfl) q12.1 q12.2 w) [61,66]<|have⟨q14,h⟩:=h;eQ 3 (vi (zY (e+1))) q14<|λH6 e13=>have h:=h H6 e13;kc [63,67] []<|yH<|ar 12<|eH 3 [0] [(70,Vq sA)]<|have⟨y,q15,h⟩:=h;hH 71 78 q15 [70]<|eH 2 [3,14] [(72,vi e),(73,vi u)]<|zI 74 (λp q=>[(74,.tuple #[vi p,vi q])]) h λp q H7 h=>kb 4 [8,9] [vi p,vi q] hQ h
   exact aJ 57 (CY.mpr c9)<|ar 10<|kb 3 [8,9] [vi 0,vi f] hQ h
  revert h;refine Bo (λc16 h=>?_) (λc16 h=>?_)
  ·have b17:rb=true:=c16
   refine iT [(0,vp d),(1,vi i),(2,vi j),(3,vi u),(10,vi ra),(32,VT)] (by simp only[b17,Da,C5]) ?_
   clear b17
   refine wc 32<|ar 5<|eH 1 [32] [(34,vp d)] ?_
   obtain⟨g,rfl,hb⟩:=h
   refine eH 2 [0,34] [(0,Vq g),(36,Vq g)]<|have⟨r,q18,h⟩:=hb;hH 37 78 q18 [36]<|eH 2 [10] [(38,vi ra),(39,vi u)]<|yT 40 [37,38,39] h λb m H8 h=>eT 5 [40] [(12,vi b),(13,vi m)]<|ar 6<|eT 2 [13] [(44,.bool (m==0))]<|qx h (λc19 h=>?_) (λc19 h=>?_)
   ·exact aJ 44 (zK c19)<|ar 7<|kb 3 [8,9] [vi b,vi 0] hQ h
   exact aK 44 (zJ c19)<|nc<|lr (():Unit) sk h
  have b17:rb=false:=zZ c16
  refine iT [(0,vp d),(1,vi i),(2,vi j),(3,vi u),(10,vi ra),(32,VF)] (by simp only[b17,Da,C5]) ?_
  clear b17
  exact yL 32<|nc<|lr (():Unit) sk h
 exact aJ 24 (CJ Bool.not (zZ c3))<|ar 2<|kb 2 [8,9] [vi 0,vi 1] hQ h
def cV.K0:=EP f67
def cV.pt(s:zW)(H:zV)(R:zv):=
 eU s (
 R VT H) (λsA=>
 ∃x,hat H sA=some (vp x)/\
 eU x (
 R VT H) (λxA=>
 R VF H))
theorem cV.link(h:pt d H R):C d H R:=by
 refine sa K0 12 func67 ?_
 intro w0 Q hQ
 unfold pt at h
 refine nx [(0,vp d)]<|ar 0<|eT 1 [] []<|ar 1<|eH 1 [] [(3,vp d)] ?_
 rcases d with _ | sA
 ·rw[CP]at h
  exact kb 9 [2] [VT] hQ h
 rw[CK]at h
 refine va 5 [(5,VF),(8,Vq sA)]<|have⟨x,q1,h⟩:=h;hH 9 78 q1 [8] ?_
 rcases x with _ | xA
 ·rw[CP]at h
  exact kb 3 [2] [VT] hQ h
 rw[CK]at h
 exact kb 3 [2] [VF] hQ h
def kh.K0:=EP f84
def kh.pt(a:Int)(H:zV)(R:zv):=
 lE.C a H (λv H1=> ∃ra rb,v=.tuple #[vp ra,vi rb]/\
 if rb=0 then(
 ∀b H2,b=H1.size->H2=H1.push (.cells #[vp ra,vi 0,vi 0,vi 0,vi 0,vi 0,vi 0,vi 0,vi 0,vi 0,vi 0,vi 0,vi 0,vi 0,vi 0,vi 0,vi 0,vi 0,vi 0,vi 0,vi 0] 82)->
 R (.tuple #[Vq (ad b),vi 0]) H2)
 else
 R (.tuple #[vp none,vi rb]) H1)
theorem kh.link(h:pt i H R):C i H R:=by
 refine sa K0 17 func84 ?_
 intro w0 Q hQ
 unfold pt at h
 refine nx [(0,vi i)]<|ar 0<|eT 2 [] []<|ar 1<|va 1 [(7,vi i)]<|zI 8 (λra rb=>[(8,.tuple #[vp ra,vi rb])]) h λra rb H1 h=>u5 5 [(4,vp ra),(5,vi rb)]<|ge<|ar 2<|eT 2 [] [(12,.bool (rb !=0))]<|qx h (λc1 h=>?_) (λc1 h=>?_)
 ·refine aK 12 (CX.mpr c1)<|nc<|ar 4<|va 2 [(15,.agg #[vp ra,vi 0,vi 0,vi 0,vi 0,vi 0,vi 0,vi 0,vi 0,vi 0,vi 0,vi 0,vi 0,vi 0,vi 0,vi 0,vi 0,vi 0,vi 0,vi 0,vi 0])]<|t1 (some 16) (λb=>vp (pa b)) (.cells #[vp ra,vi 0,vi 0,vi 0,vi 0,vi 0,vi 0,vi 0,vi 0,vi 0,vi 0,vi 0,vi 0,vi 0,vi 0,vi 0,vi 0,vi 0,vi 0,vi 0,vi 0] 82)<|λb H2 e3 e4=>have h:=h b H2 e3 e4;⟨[(16,vp (pa b))],pk,?_⟩
  exact kb 2 [2,3] [vp (pa b),vi 0] hQ h
 exact aJ 12 (CY.mpr c1)<|ar 3<|kb 3 [2,3] [vp none,vi rb] hQ h
def ki.K0:=EP f96
def ki.pt(b a nv:Int)(H:zV)(R:zv):=
 if((decide (b<0)) || (decide (b>4)))=true then(
 R VF H)
 else
 if((a==0) || (a==1))=true then(
 R (.bool (nv==2)) H)
 else
 R (.bool ((((a==2) || (a==3)) && (decide (nv>=1))) && (decide (nv<=63)))) H
theorem ki.link{b a nv:Int}(h:pt b a nv H R):C b a nv H R:=by
 refine sa K0 37 func96 ?_
 intro w0 Q hQ
 unfold pt at h
 refine nx [(0,vi b),(1,vi a),(2,vi nv)]<|ar 0<|eT 1 [] []<|ge<|p0 0<|ar 1<|iX [(1,vi a),(2,vi nv),(7,.bool ((decide (b<0)) || (decide (b>4))))] ?_ ?_
 ·refine aC<|qx h (λc3 h=>?_) (λc3 h=>?_)
  ·exact aJ 7 c3<|ar 2<|kb 1 [6] [VF] hQ h
  refine aK 7 (zZ c3)<|ar 3<|iX [(1,vi a),(2,vi nv),(14,.bool ((a==0) || (a==1)))] ?_ ?_
  ·refine aC<|qx h (λc7 h=>?_) (λc7 h=>?_)
   ·exact aJ 14 c7<|ar 4<|kb 3 [6] [.bool (nv==2)] hQ h
   refine aK 14 (zZ c7)<|zp<|aA<|aC<|ar 5<|iX [(6,.bool ((((a==2) || (a==3)) && (decide (nv>=1))) && (decide (nv<=63))))] ?_ ?_
   ·exact aC<|hX [6] [.bool ((((a==2) || (a==3)) && (decide (nv>=1))) && (decide (nv<=63)))] hQ h
   refine λhk=>va 3 [(1,vi a),(2,vi nv),(25,.bool (a==2))] ?_
   by_cases c9:a=2
   ·have b10:(a==2)=true:=zK c9
    refine cD [(1,vi a),(2,vi nv),(25,VT)] (by rw[b10])<|eH 8 [1,25] [(33,.bool (decide (nv>=1)))] ?_
    by_cases c11:nv>=1
    ·have b12:(decide (nv>=1))=true:=zX c11
     exact o0 33 b12<|va 4 [(6,.bool (decide (nv<=63)))]<|zq<|iT [(6,.bool ((((a==2) || (a==3)) && (decide (nv>=1))) && (decide (nv<=63))))] (by simp only[b10,b12,BL])<|hk
    have b12:(decide (nv>=1))=false:=zQ c11
    exact o0 33 b12<|va 4 [(6,VF)]<|zq<|iT [(6,.bool ((((a==2) || (a==3)) && (decide (nv>=1))) && (decide (nv<=63))))] (by simp only[b10,b12,BL])<|hk
   have b10:(a==2)=false:=zJ c9
   refine cD [(1,vi a),(2,vi nv),(25,VF)] (by rw[b10])<|eH 4 [1,25] [(29,.bool (a==3))] ?_
   by_cases c13:a=3
   ·have b14:(a==3)=true:=zK c13
    refine o0 29 b14<|eH 4 [29] [(33,.bool (decide (nv>=1)))] ?_
    by_cases c15:nv>=1
    ·have b16:(decide (nv>=1))=true:=zX c15
     exact o0 33 b16<|va 4 [(6,.bool (decide (nv<=63)))]<|zq<|iT [(6,.bool ((((a==2) || (a==3)) && (decide (nv>=1))) && (decide (nv<=63))))] (by simp only[b10,b14,b16,BL])<|hk
    have b16:(decide (nv>=1))=false:=zQ c15
    exact o0 33 b16<|va 4 [(6,VF)]<|zq<|iT [(6,.bool ((((a==2) || (a==3)) && (decide (nv>=1))) && (decide (nv<=63))))] (by simp only[b10,b14,b16,BL])<|hk
   have b14:(a==3)=false:=zJ c13
   exact o0 29 b14<|va 8 [(6,VF)]<|zq<|iT [(6,.bool ((((a==2) || (a==3)) && (decide (nv>=1))) && (decide (nv<=63))))] (by simp only[b10,b14,BL])<|hk
  refine λhk=>va 3 [(1,vi a),(2,vi nv),(17,.bool (a==0))] ?_
  by_cases c5:a=0
  ·have b6:(a==0)=true:=zK c5
   exact cD [(1,vi a),(2,vi nv),(17,VT)] (by rw[b6])<|eH 4 [17] [(14,VT)]<|zq<|xl 14 (b:=true) (v:=((a==0) || (a==1))) (by simp only[b6,BL])<|hk
  have b6:(a==0)=false:=zJ c5
  exact cD [(1,vi a),(2,vi nv),(17,VF)] (by rw[b6])<|eH 4 [17] [(14,.bool (a==1))]<|zq<|xl 14 (b:=(a==1)) (v:=((a==0) || (a==1))) (by simp only[b6,BL])<|hk
 refine λhk=>va 3 [(0,vi b),(1,vi a),(2,vi nv),(10,.bool (decide (b<0)))] ?_
 by_cases c1:b<0
 ·have b2:(decide (b<0))=true:=zX c1
  exact cD [(0,vi b),(1,vi a),(2,vi nv),(10,VT)] (by rw[b2])<|eH 4 [0,10] [(7,VT)]<|zq<|xl 7 (b:=true) (v:=((decide (b<0)) || (decide (b>4)))) (by simp only[b2,BL])<|hk
 have b2:(decide (b<0))=false:=zQ c1
 exact cD [(0,vi b),(1,vi a),(2,vi nv),(10,VF)] (by rw[b2])<|eH 4 [0,10] [(7,.bool (decide (b>4)))]<|zq<|xl 7 (b:=(decide (b>4))) (v:=((decide (b<0)) || (decide (b>4)))) (by simp only[b2,BL])<|hk
def cT.K0:=EP f97
def cT.pt(s:zW)(d b:Int)(H:zV)(R:zv):=
 eU s (
 R (.tuple #[vi 0,VF]) H) (λsA=>
 if d<0 then(
 R (.tuple #[vi 0,VF]) H)
 else
 if d>4 then(
 R (.tuple #[vi 0,VF]) H)
 else
 if b<0 then(
 R (.tuple #[vi 0,VF]) H)
 else
 if b>3 then(
 R (.tuple #[vi 0,VF]) H)
 else
 yZ d 5/\
 yZ b 4/\
 ∃x,hat H (((sA.add 1).add (Int.toNat d*4)).add (Int.toNat b*1))=some (vi x)/\
 if x=0 then(
 R (.tuple #[vi 0,VF]) H)
 else
 yZ d 5/\
 yZ b 4/\
 ∃e,hat H (((sA.add 1).add (Int.toNat d*4)).add (Int.toNat b*1))=some (vi e)/\
 R (.tuple #[vi (zY (e-1)),VT]) H)
theorem cT.link(h:pt d i j H R):C d i j H R:=by
 refine sa K0 46 func97 ?_
 intro w0 Q hQ
 unfold pt zY at h
 refine nx [(0,vp d),(1,vi i),(2,vi j)]<|ar 0<|eT 2 [] []<|ge<|ar 1<|eH 1 [] [(8,vp d)] ?_
 rcases d with _ | sA
 ·rw[CP]at h
  exact eT 28 [0,8] [(0,vp none),(36,VT)]<|wc 36<|ar 2<|kb 2 [6,7] [vi 0,VF] hQ h
 rw[CK]at h
 refine eH 6 [0,8] [(0,Vq sA),(14,.bool (decide (i<0)))]<|qx h (λc1 h=>?_) (λc1 h=>?_)
 ·exact o0 14 (zX c1)<|eT 22 [14] [(36,VT)]<|wc 36<|ar 2<|kb 2 [6,7] [vi 0,VF] hQ h
 refine o0 14 (zQ c1)<|eH 4 [14] [(18,.bool (decide (i>4)))]<|qx h (λc3 h=>?_) (λc3 h=>?_)
 ·exact o0 18 (zX c3)<|eT 18 [18] [(36,VT)]<|wc 36<|ar 2<|kb 2 [6,7] [vi 0,VF] hQ h
 refine o0 18 (zQ c3)<|eH 4 [18] [(22,.bool (decide (j<0)))]<|qx h (λc5 h=>?_) (λc5 h=>?_)
 ·exact o0 22 (zX c5)<|eT 14 [22] [(36,VT)]<|wc 36<|ar 2<|kb 2 [6,7] [vi 0,VF] hQ h
 refine o0 22 (zQ c5)<|eH 4 [22] [(26,.bool (decide (j>3)))]<|qx h (λc7 h=>?_) (λc7 h=>?_)
 ·exact o0 26 (zX c7)<|eT 10 [26] [(36,VT)]<|wc 36<|ar 2<|kb 2 [6,7] [vi 0,VF] hQ h
 refine o0 26 (zQ c7)<|eH 5 [] [(28,vi i),(29,vi j),(31,Vq (sA.add 1))]<|have⟨q9,h⟩:=h;zd 32 (bE 80 (Vq (sA.add 1)) (vi i)) (Vq ((sA.add 1).add (Int.toNat i*4))) (λw _=>bQ (P:=prog) (t:=80) (elem:=79) (sz:=4) (n:=5) (a:=(sA.add 1)) (k:=.i64) (i:=i) Eh (λ_=>by kernel_rfl) q9.1 q9.2 w) [28,31]<|have⟨q10,h⟩:=h;zd 33 (bE 79 (Vq ((sA.add 1).add (Int.toNat i*4))) (vi j)) (Vq (((sA.add 1).add (Int.toNat i*4)).add (Int.toNat j*1))) (λw _=>bQ (P:=prog) (t:=79) (elem:=3) (sz:=1) (n:=4) (a:=((sA.add 1).add (Int.toNat i*4))) (k:=.i64) (i:=j) DN (λ_=>by kernel_rfl) q10.1 q10.2 w) [29,32]<|have⟨x,q11,h⟩:=h;hH 34 3 q11 [33]<|eT 2 [26,34] [(36,.bool (x==0))]<|qx h (λc12 h=>?_) (λc12 h=>?_)
 ·exact aJ 36 (zK c12)<|ar 2<|kb 2 [6,7] [vi 0,VF] hQ h
 exact aK 36 (zJ c12)<|nc<|ar 3<|va 5 [(38,vi i),(39,vi j),(41,Vq (sA.add 1))]<|have⟨q14,h⟩:=h;zd 42 (bE 80 (Vq (sA.add 1)) (vi i)) (Vq ((sA.add 1).add (Int.toNat i*4))) (λw _=>bQ (P:=prog) (t:=80) (elem:=79) (sz:=4) (n:=5) (a:=(sA.add 1)) (k:=.i64) (i:=i) Eh (λ_=>by kernel_rfl) q14.1 q14.2 w) [38,41]<|have⟨q15,h⟩:=h;zd 43 (bE 79 (Vq ((sA.add 1).add (Int.toNat i*4))) (vi j)) (Vq (((sA.add 1).add (Int.toNat i*4)).add (Int.toNat j*1))) (λw _=>bQ (P:=prog) (t:=79) (elem:=3) (sz:=1) (n:=4) (a:=((sA.add 1).add (Int.toNat i*4))) (k:=.i64) (i:=j) DN (λ_=>by kernel_rfl) q15.1 q15.2 w) [39,42]<|have⟨e,q16,h⟩:=h;hH 44 3 q16 [43]<|kb 3 [6,7] [vi (zY (e-1)),VT] hQ h
def kN.K0:=EP Tryz.f40
def kN.pt(a:Int)(H:zV)(R:zv):=
 kh.C a H (λv H1=> ∃ra rb,v=.tuple #[vp ra,vi rb]/\
 if rb=0 then(
 ∀b H2,b=H1.size->H2=H1.push (.cells #[vp ra] 54)->
 R (.tuple #[Vq (ad b),vi 0]) H2)
 else
 R (.tuple #[vp none,vi rb]) H1)
theorem kN.link(h:pt i H R):C i H R:=by
 refine sa K0 17 func40 ?_
 intro w0 Q hQ
 unfold pt at h
 refine nx [(0,vi i)]<|ar 0<|eT 2 [] []<|ar 1<|va 1 [(7,vi i)]<|zI 8 (λra rb=>[(8,.tuple #[vp ra,vi rb])]) h λra rb H1 h=>u5 5 [(4,vp ra),(5,vi rb)]<|ge<|ar 2<|eT 2 [] [(12,.bool (rb !=0))]<|qx h (λc1 h=>?_) (λc1 h=>?_)
 ·refine aK 12 (CX.mpr c1)<|nc<|ar 4<|va 2 [(15,.agg #[vp ra])]<|t1 (some 16) (λb=>vp (pa b)) (.cells #[vp ra] 54)<|λb H2 e3 e4=>have h:=h b H2 e3 e4;⟨[(16,vp (pa b))],pk,?_⟩
  exact kb 2 [2,3] [vp (pa b),vi 0] hQ h
 exact aJ 12 (CY.mpr c1)<|ar 3<|kb 3 [2,3] [vp none,vi rb] hQ h
def eD.K0:=EP f80
def eD.pt(c:zW)(wv:Int)(H:zV)(R:zv):=
 gK.C wv H (λv H1=> ∃ra rb,v=.tuple #[vi ra,.bool rb]/\
 cU.C c H1 (λs H2=> ∃x,s=.bool x/\
 if x=true then(
 R (.tuple #[vi 0,VF]) H2)
 else
 if rb=true then(
 cM.C wv H2 (λt H3=> ∃m,t=vi m/\
 if m=6 then(
 R (.tuple #[vi 0,VF]) H3)
 else
 ∃cA,c=some cA/\
 ∃p,hat H3 cA=some (vp p)/\
 ∃q,p=some q/\
 ∃o,hat H3 q=some (vp o)/\
 bB.C o (zY (tdiv ra 64)) H3 (λr H4=> ∃j g k e f a d i,r=.tuple #[.agg #[vi j,vi g,vi k,vi e,vi f,vi a,vi d],.bool i]/\
 ∀b H5,b=H4.size->H5=H4.push (.cells #[vi 0,vi 0,vi 0,vi 0,vi 0,vi 0,vi 0] 108)->
 (aH H5 (ad b) 0 7)/\ ∀H6,H6=aP H5 (ad b) [vi j,vi g,vi k,vi e,vi f,vi a,vi d] 0->
 ∃n,hat H6 (ad b)=some (vi n)/\
 R (.tuple #[vi n,.bool i]) H6)))
 else
 R (.tuple #[vi 0,VF]) H2))
theorem eD.link(h:pt d i H R):C d i H R:=by
 refine sa K0 41 func80 ?_
 intro w0 Q hQ
 unfold pt zY at h
 refine nx [(0,vp d),(1,vu i)]<|ar 0<|eT 2 [] []<|ar 1<|eH 1 [] [(10,vu i)]<|yT 11 [10] h λra rb H1 h=>eT 5 [11] [(6,vi ra),(7,.bool rb)]<|ge<|ar 2<|eH 1 [] [(14,vp d)]<|sv 15 [14] h λx H2 h=>eH 1 [15] [(16,.bool x)]<|qx h (λc1 h=>?_) (λc1 h=>?_)
 ·exact o0 16 c1<|eT 8 [1,7,16] [(24,VT)]<|wc 24<|ar 3<|kb 2 [4,5] [vi 0,VF] hQ h
 refine o0 16 (zZ c1)<|eH 4 [7,16] [(20,.bool (!rb))]<|qx h (λc3 h=>?_) (λc3 h=>?_)
 ·have b4:(!rb)=false:=CJ Bool.not (c3)
  have b42:rb=true:=c3
  refine o0 20 (b:=(!rb)) (v:=false) (by simp only[b4,b42,Da,C5]) ?_
  clear b4 b42
  refine eH 1 [1] [(21,vu i)]<|sv 22 [21] h λm H3 h=>eT 2 [20,22] [(24,.bool (m==6))]<|qx h (λc5 h=>?_) (λc5 h=>?_)
  ·exact aJ 24 (zK c5)<|ar 3<|kb 2 [4,5] [vi 0,VF] hQ h
  refine aK 24 (zJ c5)<|nc<|ar 4<|eH 1 [0,24] [(26,vp d)] ?_
  obtain⟨cA,rfl,ha⟩:=h
  refine eH 2 [26] [(28,Vq cA)]<|have⟨p,q7,h⟩:=ha;hH 29 52 q7 [28] ?_
  obtain⟨q,rfl,hb⟩:=h
  exact eH 2 [29] [(31,Vq q)]<|have⟨o,q8,h⟩:=hb;hH 32 78 q8 [31]<|eH 2 [6] [(34,vi (zY (tdiv ra 64)))]<|Cf 35 (λj g k e f a wv c=>[(35,.tuple #[.agg #[vi j,vi g,vi k,vi e,vi f,vi a,vi wv],.bool c])]) h λj g k e f a wv c H4 h=>va 3 [(36,.agg #[vi j,vi g,vi k,vi e,vi f,vi a,vi wv]),(37,.bool c)]<|t1 (some 8) (λb=>vp (pa b)) (.cells #[vi 0,vi 0,vi 0,vi 0,vi 0,vi 0,vi 0] 108)<|λb H5 e9 e10=>have h:=h b H5 e9 e10;kc [] [(8,vp (pa b))]<|have⟨q12,h⟩:=h;fN 108 [vi j,vi g,vi k,vi e,vi f,vi a,vi wv] q12<|λH6 e11=>have h:=h H6 e11;kc [36] []<|eT 1 [37] [(7,.bool c)]<|ar 5<|eH 1 [8] [(38,vp (pa b))]<|have⟨n,q13,h⟩:=h;hH 39 3 q13 [38]<|kb 3 [4,5] [vi n,.bool c] hQ h
 have b4:(!rb)=true:=CJ Bool.not (zZ c3)
 have b42:rb=false:=zZ c3
 refine o0 20 (b:=(!rb)) (v:=true) (by simp only[b4,b42,Da,C5]) ?_
 clear b4 b42
 exact eT 4 [1,20] [(24,VT)]<|wc 24<|ar 3<|kb 2 [4,5] [vi 0,VF] hQ h
def cU.K0:=EP f92
def cU.pt(c:zW)(H:zV)(R:zv):=
 eU c (
 R VT H) (λcA=>
 ∃x,hat H cA=some (vp x)/\
 eU x (
 R VT H) (λxA=>
 ∃b,hat H cA=some (vp b)/\
 ∃d,b=some d/\
 ∃a,hat H d=some (vp a)/\
 eU a (
 R VT H) (λe=>
 R VF H)))
theorem cU.link(h:pt d H R):C d H R:=by
 refine sa K0 22 func92 ?_
 intro w0 Q hQ
 unfold pt at h
 refine nx [(0,vp d)]<|ar 0<|eT 1 [] []<|ar 1<|eH 1 [] [(3,vp d)] ?_
 rcases d with _ | cA
 ·rw[CP]at h
  exact kb 19 [2] [VT] hQ h
 rw[CK]at h
 refine va 5 [(0,Vq cA),(5,VF),(8,Vq cA)]<|have⟨x,q1,h⟩:=h;hH 9 52 q1 [8] ?_
 rcases x with _ | xA
 ·rw[CP]at h
  exact kb 13 [2] [VT] hQ h
 rw[CK]at h
 refine va 6 [(12,VF),(15,Vq cA)]<|have⟨b,q2,h⟩:=h;hH 16 52 q2 [15] ?_
 obtain⟨c,rfl,ha⟩:=h
 refine eH 2 [16] [(18,Vq c)]<|have⟨a,q3,h⟩:=ha;hH 19 78 q3 [18] ?_
 rcases a with _ | e
 ·rw[CP]at h
  exact kb 3 [2] [VT] hQ h
 rw[CK]at h
 exact kb 3 [2] [VF] hQ h
def cP.K0:=EP Tryz.f107
def cP.pt(c:zW)(k i sN d g f e wv a:Int)(H:zV)(R:zv):=
 ∀b H1,b=H.size->H1=H.push (.cells #[vi k,vi i,vi sN,vi d,vi g,vi f,vi e] 108)->
 eD.C c wv H1 (λv H2=> ∃ra rb,v=.tuple #[vi ra,.bool rb]/\
 if rb=true then(
 ∃x,hat H2 ((ad b).add 1)=some (vi x)/\
 if x=3 then(
 R (vi a) H2)
 else
 ∃j,hat H2 (ad b)=some (vi j)/\
 if ra<j then(
 R (vi (if ra<a then ra else a)) H2)
 else
 R (vi a) H2)
 else
 R (vi a) H2)
theorem cP.link{sN g f e wv a:Int}(h:pt d i j u sN g f e wv a H R):C d i j u sN g f e wv a H R:=by
 refine sa K0 33 func107 ?_
 intro w0 Q hQ
 unfold pt at h
 refine nx [(0,vp d),(1,.agg #[vi i,vi j,vi u,vi sN,vi g,vi f,vi e]),(2,vu wv),(3,vi a)]<|ar 0<|t1 (some 5) (λb=>vp (pa b)) (.cells #[vi i,vi j,vi u,vi sN,vi g,vi f,vi e] 108)<|λb H1 e1 e2=>have h:=h b H1 e1 e2;kc [1] [(5,vp (pa b))]<|eT 1 [] []<|ge<|ar 1<|eH 2 [0,2] [(12,vp d),(13,vu wv)]<|yT 14 [12,13] h λra rb H2 h=>eT 5 [14] [(9,vi ra),(10,.bool rb)]<|ar 2<|eH 2 [10] [(18,.bool rb)]<|qx h (λc3 h=>?_) (λc3 h=>?_)
 ·refine o0 18 c3<|eH 1 [] [(19,Vq ((ad b).add 1))]<|have⟨x,q5,h⟩:=h;hH 20 3 q5 [19]<|eH 3 [18,20] [(23,.bool (x !=3))]<|qx h (λc6 h=>?_) (λc6 h=>?_)
  ·exact o0 23 (CX.mpr c6)<|eT 5 [5,23] [(28,VF)]<|yL 28<|nc<|ar 4<|kb 2 [8] [vi a] hQ h
  refine o0 23 (CY.mpr c6)<|eH 2 [5] [(24,vi ra),(25,vp (pa b))]<|have⟨k,q8,h⟩:=h;hH 26 3 q8 [25]<|eT 2 [23,24,26] [(28,.bool (decide (ra<k)))]<|qx h (λc9 h=>?_) (λc9 h=>?_)
  ·exact aJ 28 (zX c9)<|ar 3<|kb 4 [8] [vi (if ra<a then ra else a)] hQ h
  exact aK 28 (zQ c9)<|nc<|ar 4<|kb 2 [8] [vi a] hQ h
 exact o0 18 (zZ c3)<|eT 10 [5,18] [(28,VF)]<|yL 28<|nc<|ar 4<|kb 2 [8] [vi a] hQ h
namespace dM
def K0:=EP f133
def K2:=cb K0
def K4:=cb K2
def zy:=cb K4
def Al:=cb zy
def Au:=cb Al
def Bf:=ca Au
end dM
def dM.pt(c:zW)(d wv:Int)(H:zV)(R:zv):=
 cU.C c H (λv H1=> ∃x,v=.bool x/\
 if x=true then(
 R (vi 18) H1)
 else
 ∃cA,c=some cA/\
 ∃ak,hat H1 cA=some (vp ak)/\
 ∃am,ak=some am/\
 ∃ah,hat H1 am=some (vp ah)/\
 bU.C ah d wv H1 (λaq H2=> ∃ab,aq=vi ab/\
 if ab=0 then(
 ∃aj,hat H2 cA=some (vp aj)/\
 ∃al,aj=some al/\
 ∃ai,hat H2 al=some (vp ai)/\
 bB.C ai (zY (tdiv d 64)) H2 (λau H3=> ∃aa s ae p q m o rb,au=.tuple #[.agg #[vi aa,vi s,vi ae,vi p,vi q,vi m,vi o],.bool rb]/\
 ∀b H4,b=H3.size->H4=H3.push (.cells #[vi 0,vi 0,vi 0,vi 0,vi 0,vi 0,vi 0] 108)->
 (aH H4 (ad b) 0 7)/\ ∀H5,H5=aP H4 (ad b) [vi aa,vi s,vi ae,vi p,vi q,vi m,vi o] 0->
 ∃an,hat H5 cA=some (vp an)/\
 ∃z,an=some z/\
 ∃u,hat H5 z=some (vp u)/\
 ∃y r xN f j g e,aL H5 (ad b) 0 [vi y,vi r,vi xN,vi f,vi j,vi g,vi e]/\
 ((0:Int)<=(zY (tdiv (tmod d 64) 16))/\(zY (tdiv (tmod d 64) 16))< (4:Int))/\
 ∃ag,hat H5 (((ad b).add 3).add (Int.toNat (zY (tdiv (tmod d 64) 16))*1))=some (vi ag)/\
 cP.C (some cA) y r xN f j g e wv ag H5 (λao H6=> ∃af,ao=vi af/\aL H6 cA 0 [Vq z]/\aL H6 z 0 [vp u]/\
 gV.C u (zY (tdiv d 64)) (zY (tdiv (tmod d 64) 16)) af H6 (λap H7=> ∃ac,ap=vi ac/\
 R (vi ac) H7))))
 else
 R (vi ab) H2))
theorem dM.link(h:pt d i j H R):C d i j H R:=by
 refine sa K0 62 func133 ?_
 intro w0 Q hQ
 unfold pt zY at h
 refine nx [(0,vp d),(1,vi i),(2,vu j)]<|ar 0<|eT 1 [] []<|ge<|ar 1<|eH 1 [] [(12,vp d)]<|sv 13 [12] h λx H1 h=>yH<|qx h (λc1 h=>?_) (λc1 h=>?_)
 ·exact aJ 13 c1<|ar 2<|kb 1 [6] [vi 18] hQ h
 refine aK 13 (zZ c1)<|nc<|ge<|ar 3<|eH 1 [13] [(14,vp d)] ?_
 obtain⟨cA,rfl,ha⟩:=h
 refine eH 2 [0,14] [(0,Vq cA),(16,Vq cA)]<|have⟨ak,q3,h⟩:=ha;hH 17 52 q3 [16] ?_
 obtain⟨am,rfl,hb⟩:=h
 refine eH 2 [17] [(19,Vq am)]<|have⟨ah,q4,h⟩:=hb;hH 20 78 q4 [19]<|eH 2 [] [(21,vi i),(22,vu j)]<|sv 23 [20,21,22] h λab H2 h=>eT 1 [23] [(7,vi ab)]<|ar 4<|eT 2 [] [(25,.bool (ab !=0))]<|qx h (λc5 h=>?_) (λc5 h=>?_)
 ·refine aK 25 (CX.mpr c5)<|nc<|ar 6<|eT 7 [1,7,25] [(8,vi (zY (tdiv i 64))),(9,vi (zY (tdiv (tmod i 64) 16)))]<|ar 7<|eH 3 [] [(35,Vq cA)]<|have⟨aj,q7,h⟩:=h;hH 36 52 q7 [35] ?_
  obtain⟨al,rfl,hc⟩:=h
  refine eH 2 [36] [(38,Vq al)]<|have⟨ai,q8,h⟩:=hc;hH 39 78 q8 [38]<|eH 1 [] [(40,vi (zY (tdiv i 64)))]<|zU 41 [39,40] h λaa s ae p q m o rb H3 h=>eH 3 [41] [(42,.agg #[vi aa,vi s,vi ae,vi p,vi q,vi m,vi o]),(43,.bool rb)]<|t1 (some 10) (λb=>vp (pa b)) (.cells #[vi 0,vi 0,vi 0,vi 0,vi 0,vi 0,vi 0] 108)<|λb H4 e9 e10=>have h:=h b H4 e9 e10;kc [] [(10,vp (pa b))]<|have⟨q12,h⟩:=h;fN 108 [vi aa,vi s,vi ae,vi p,vi q,vi m,vi o] q12<|λH5 e11=>have h:=h H5 e11;kc [42] []<|eT 1 [43] []<|ge ?_
  obtain⟨an,q13,z,rfl,u,q14,y,r,xN,f,c,g,e,q15,q16,ag,q17,hd⟩:=h
  refine yq 8 (Code.ops Bf) [(17,cA,[vp (some z)]),(17,z,[vp u]),(16,(ad b),[vi y,vi r,vi xN,vi f,vi c,vi g,vi e]),(16,(((ad b).add 3).add (Int.toNat (zY (tdiv (tmod i 64) 16))*1)),[vi ag])] 19 (bv 19 0) (show aE _ _ _ from⟨⟨q13,EO⟩,⟨q14,EO⟩,q15,⟨q17,EO⟩,EO⟩)<|zr 0 (some 44) (vp (some cA)) (bv 19 1) [(0,vp (some cA)),(2,vu j),(8,vi (zY (tdiv i 64))),(9,vi (zY (tdiv (tmod i 64) 16))),(10,vp (pa b)),(44,vp (some cA))]<|aG 1 45 (vp (some cA)) (bv 19 3) [44]<|aG 2 46 (vp (some cA)) (bv 19 7) [45]<|kT 3 47 (vp (some z)) (bv 19 15) [46] (aQ 52 (vp (some cA))) (yY 17 yX)<|aG 4 48 (vp (some z)) (bv 19 31) [47]<|aG 5 49 (vp (some z)) (bv 19 63) [48]<|kT 6 50 (vp u) (bv 19 127) [49] (aQ 78 (vp (some z))) (yY 17 yQ)<|aG 7 51 (vi (zY (tdiv i 64))) (bv 19 255) [8]<|aG 8 52 (vi (zY (tdiv (tmod i 64) 16))) (bv 19 511) []<|aG 9 53 (vp (some cA)) (bv 19 1023) [0]<|kT 10 54 (.agg #[vi y,vi r,vi xN,vi f,vi c,vi g,vi e]) (bv 19 2047) [] (aQ 108 (vp (pa b))) (lJ 16 (λ_=>by kernel_rfl) (λ_=>by kernel_rfl) yJ (.inl (by kernel_rfl)))<|aG 11 55 (vu j) (bv 19 4095) [2]<|aG 12 56 (vi (zY (tdiv (tmod i 64) 16))) (bv 19 8191) [9]<|aG 13 57 (vp (some ((ad b).add 3))) (bv 19 16383) [10]<|kT 14 58 (vp (some (((ad b).add 3).add (Int.toNat (zY (tdiv (tmod i 64) 16))*1)))) (bv 19 32767) [56,57] (bE 79 (vp (some ((ad b).add 3))) (vi (zY (tdiv (tmod i 64) 16)))) (λ_ w _ _ _=>bQ (P:=prog) (t:=79) (elem:=3) (sz:=1) (n:=4) (a:=((ad b).add 3)) (k:=.i64) (i:=(zY (tdiv (tmod i 64) 16))) DN (λ_=>by kernel_rfl) q16.1 q16.2 w)<|kT 15 59 (vi ag) (bv 19 65535) [58] (aQ 3 (vp (some (((ad b).add 3).add (Int.toNat (zY (tdiv (tmod i 64) 16))*1))))) (yY 16 yK)<|yx 16 (some 60) (bv 19 131071) 107 #[vp (some cA),.agg #[vi y,vi r,vi xN,vi f,vi c,vi g,vi e],vu j,vi ag] hd ?_;clear hd
  rintro ao H6 ⟨af,rfl,f18,f19,h⟩
  refine⟨[(50,vp u),(51,vi (zY (tdiv i 64))),(52,vi (zY (tdiv (tmod i 64) 16))),(60,vi af)],pk,(show aE _ _ _ from⟨f18,f19,EO,EO,EO⟩),?_⟩
  refine yx 17 (some 61) (bv 19 262143) 108 #[vp u,vi (zY (tdiv i 64)),vi (zY (tdiv (tmod i 64) 16)),vi af] h ?_;clear h
  rintro ap H7 ⟨ac,rfl,h⟩
  refine⟨[(61,vi ac)],pk,(show aE _ _ _ from⟨EO,EO,EO,EO,EO⟩),?_⟩
  exact zB 18 (some 6) (vi ac) (bv 19 524287) [(6,vi ac)] (pure (.value (vi ac)):Sem Next) (λ_ _ _ _ _=>rfl)<|eq [(6,vi ac)] sk<|yz<|aC<|hX [6] [vi ac] hQ h
 exact aJ 25 (CY.mpr c5)<|ar 5<|kb 2 [6] [vi ab] hQ h
def fQ.K0:=EP f11
def fQ.pt(hv:zW)(d a:Int)(H:zV)(R:zv):=
 ∀b H1,b=H.size->H1=H.push (.cells #[vu d,vu a] 28)->
 fW.C hv 0 1 (some (ad b)) 2 2 H1 (λv H2=> ∃ra rb,v=.tuple #[vu ra,vi rb]/\
 R (.tuple #[vu ra,vi rb]) H2)
theorem fQ.link(h:pt d i j H R):C d i j H R:=by
 refine sa K0 15 func11 ?_
 intro w0 Q hQ
 unfold pt at h
 exact nx [(0,vp d),(1,vu i),(2,vu j)]<|ar 0<|eT 2 [] []<|ar 1<|va 3 [(8,vp d),(9,vu i),(10,vu j)]<|t1 (some 11) (λb=>vs (pa b) 2 2) (.cells #[vu i,vu j] 28)<|λb H1 e1 e2=>have h:=h b H1 e1 e2;kc [9,10] [(11,vs (pa b) 2 2)]<|zI 12 (λra rb=>[(12,.tuple #[vu ra,vi rb])]) h λra rb H2 h=>kb 4 [6,7] [vu ra,vi rb] hQ h
def fR.K0:=EP Tryz.f19
def fR.pt(hv:zW)(d a:Int)(H:zV)(R:zv):=
 ∀b H1,b=H.size->H1=H.push (.cells #[vu d,vu a] 28)->
 fW.C hv 1 2 (some (ad b)) 2 2 H1 (λv H2=> ∃ra rb,v=.tuple #[vu ra,vi rb]/\
 R (.tuple #[vu ra,vi rb]) H2)
theorem fR.link(h:pt d i j H R):C d i j H R:=by
 refine sa K0 15 func19 ?_
 intro w0 Q hQ
 unfold pt at h
 exact nx [(0,vp d),(1,vu i),(2,vu j)]<|ar 0<|eT 2 [] []<|ar 1<|va 3 [(8,vp d),(9,vu i),(10,vu j)]<|t1 (some 11) (λb=>vs (pa b) 2 2) (.cells #[vu i,vu j] 28)<|λb H1 e1 e2=>have h:=h b H1 e1 e2;kc [9,10] [(11,vs (pa b) 2 2)]<|zI 12 (λra rb=>[(12,.tuple #[vu ra,vi rb])]) h λra rb H2 h=>kb 4 [6,7] [vu ra,vi rb] hQ h
def bO.K0:=EP Tryz.f51
def bO.pt(hv:zW)(wv:Int)(H:zV)(R:zv):=
 eX.C hv wv H (λv H1=> ∃x,v=.bool x/\
 if x=true then(
 R (vi 2) H1)
 else
 cE.C hv wv H1 (λa H2=> ∃ra rb rc rd re,a=.tuple #[vi ra,vi rb,vi rc,vu rd,.bool re]/\
 if re=true then(
 R (vi (zY (rc+1))) H2)
 else
 R (vi 0) H2))
theorem bO.link(h:pt d i H R):C d i H R:=by
 refine sa K0 25 func51 ?_
 intro w0 Q hQ
 unfold pt zY at h
 refine nx [(0,vp d),(1,vu i)]<|ar 0<|eT 1 [] []<|ge<|ar 1<|eH 2 [] [(10,vp d),(11,vu i)]<|sv 12 [10,11] h λx H1 h=>yH<|qx h (λc1 h=>?_) (λc1 h=>?_)
 ·exact aJ 12 c1<|ar 2<|kb 1 [4] [vi 2] hQ h
 refine aK 12 (zZ c1)<|nc<|ge<|ar 3<|va 2 [(14,vp d),(15,vu i)]<|Bq 16 (λra rb rc rd re=>[(16,.tuple #[vi ra,vi rb,vi rc,vu rd,.bool re])]) h λra rb rc rd re H2 h=>u5 11 [(7,vi rc),(9,.bool re)]<|ar 4<|eT 1 [9] [(22,.bool re)]<|qx h (λc3 h=>?_) (λc3 h=>?_)
 ·exact aJ 22 c3<|ar 5<|kb 3 [4] [vi (zY (rc+1))] hQ h
 exact aK 22 (zZ c3)<|nc<|ar 6<|kb 1 [4] [vi 0] hQ h
def eX.K0:=EP f93
def eX.pt(hv:zW)(wv:Int)(H:zV)(R:zv):=
 fT.C hv wv H (λv H1=> ∃ra rb,v=.tuple #[vi ra,.bool rb]/\
 R (.bool rb) H1)
theorem eX.link(h:pt d i H R):C d i H R:=by
 refine sa K0 14 func93 ?_
 intro w0 Q hQ
 unfold pt at h
 exact nx [(0,vp d),(1,vu i)]<|ar 0<|eT 1 [] []<|ar 1<|va 2 [(8,vp d),(9,vu i)]<|zI 10 (λra rb=>[(10,.tuple #[vi ra,.bool rb])]) h λra rb H1 h=>u5 5 [(6,.bool rb)]<|ar 2<|kb 2 [4] [.bool rb] hQ h
def eG.K0:=EP f103
def eG.pt(hv:zW)(wv v:Int)(H:zV)(R:zv):=
 gW.C hv wv 1 v H (λa H1=> ∃x,a=vi x/\
 R (vi x) H1)
theorem eG.link(h:pt d i j H R):C d i j H R:=by
 refine sa K0 11 func103 ?_
 intro w0 Q hQ
 unfold pt at h
 exact nx [(0,vp d),(1,vu i),(2,vu j)]<|ar 0<|eT 1 [] []<|ar 1<|va 3 [(7,vp d),(8,vu i),(9,vu j)]<|zo 10 (λx=>[(10,vi x)]) h λx H1 h=>kb 1 [6] [vi x] hQ h
def fT.K0:=EP f109
def fT.pt(hv:zW)(wv:Int)(H:zV)(R:zv):=
 gX.C hv wv 1 0 H (λv H1=> ∃ra rb,v=.tuple #[vi ra,.bool rb]/\
 if rb=true then(
 R (.tuple #[vi ra,.bool ((tmod ra 2)==0)]) H1)
 else
 gX.C hv wv 2 1 H1 (λd H2=> ∃a b,d=.tuple #[vi a,.bool b]/\
 R (.tuple #[vi a,.bool (b && ((tmod a 2)==0))]) H2))
theorem fT.link(h:pt d i H R):C d i H R:=by
 refine sa K0 29 func109 ?_
 intro w0 Q hQ
 unfold pt at h
 refine nx [(0,vp d),(1,vu i)]<|ar 0<|eT 2 [] []<|ar 1<|eH 2 [] [(9,vp d),(10,vu i)]<|yT 11 [9,10] h λra rb H1 h=>eT 5 [11] [(6,vi ra),(7,.bool rb)]<|ge<|ar 2<|eT 2 [] [(15,.bool (!rb))]<|qx h (λc1 h=>?_) (λc1 h=>?_)
 ·have b2:(!rb)=false:=CJ Bool.not (c1)
  have b22:rb=true:=c1
  refine xl 7 (b:=rb) (v:=true) (by simp only[b2,b22,Da,C5])<|xl 15 (b:=(!rb)) (v:=false) (by simp only[b2,b22,Da,C5]) ?_
  clear b2 b22
  exact yL 15<|nc<|ar 4<|kb 9 [4,5] [vi ra,.bool ((tmod ra 2)==0)] hQ h
 have b2:(!rb)=true:=CJ Bool.not (zZ c1)
 have b22:rb=false:=zZ c1
 refine xl 7 (b:=rb) (v:=false) (by simp only[b2,b22,Da,C5])<|xl 15 (b:=(!rb)) (v:=true) (by simp only[b2,b22,Da,C5]) ?_
 clear b2 b22
 refine wc 15<|oo 3<|va 2 [(17,vp d),(18,vu i)]<|zI 19 (λa b=>[(19,.tuple #[vi a,.bool b])]) h λa b H2 h=>u5 5 [(6,vi a),(7,.bool b)]<|ar 4<|iX [(4,vi a),(5,.bool (b && ((tmod a 2)==0)))] ?_ ?_
 ·exact aC<|hX [4,5] [vi a,.bool (b && ((tmod a 2)==0))] hQ h
 refine λhk=>va 3 [(6,vi a),(22,vi a),(24,.bool b)] ?_
 by_cases c3:b=true
 ·have b4:b=true:=c3
  exact cD [(6,vi a),(22,vi a),(24,VT)] (by rw[b4])<|va 6 [(4,vi a),(5,.bool ((tmod a 2)==0))]<|zq<|iT [(4,vi a),(5,.bool (b && ((tmod a 2)==0)))] (by simp only[b4,BL])<|hk
 have b4:b=false:=zZ c3
 exact cD [(6,vi a),(22,vi a),(24,VF)] (by rw[b4])<|va 6 [(4,vi a),(5,VF)]<|zq<|iT [(4,vi a),(5,.bool (b && ((tmod a 2)==0)))] (by simp only[b4,BL])<|hk
def fD.K0:=EP f111
def fD.pt(hv:zW)(wv v:Int)(H:zV)(R:zv):=
 gW.C hv wv 0 v H (λa H1=> ∃x,a=vi x/\
 R (vi x) H1)
theorem fD.link(h:pt d i j H R):C d i j H R:=by
 refine sa K0 11 func111 ?_
 intro w0 Q hQ
 unfold pt at h
 exact nx [(0,vp d),(1,vu i),(2,vu j)]<|ar 0<|eT 1 [] []<|ar 1<|va 3 [(7,vp d),(8,vu i),(9,vu j)]<|zo 10 (λx=>[(10,vi x)]) h λx H1 h=>kb 1 [6] [vi x] hQ h
def gW.K0:=EP f132
def gW.pt(hv:zW)(wv i v:Int)(H:zV)(R:zv):=
 fT.C hv wv H (λd H1=> ∃ra rb,d=.tuple #[vi ra,.bool rb]/\
 if rb=true then(
 ∃b,hv=some b/\
 ∃x,hat H1 b=some (vp x)/\
 dM.C x (zY (ra+i)) v H1 (λe H2=> ∃a,e=vi a/\
 R (vi a) H2))
 else
 R (vi 3) H1)
theorem gW.link(h:pt d i j u H R):C d i j u H R:=by
 refine sa K0 28 func132 ?_
 intro w0 Q hQ
 unfold pt zY at h
 refine nx [(0,vp d),(1,vu i),(2,vi j),(3,vu u)]<|ar 0<|eT 1 [] []<|ar 1<|eH 2 [1] [(12,vp d),(13,vu i)]<|yT 14 [12,13] h λra rb H1 h=>eT 5 [14] [(9,vi ra),(10,.bool rb)]<|ge<|ar 2<|eT 2 [10] [(18,.bool (!rb))]<|qx h (λc1 h=>?_) (λc1 h=>?_)
 ·refine aK 18 (CJ Bool.not (c1))<|nc<|ar 4<|eH 1 [0,18] [(19,vp d)] ?_
  obtain⟨b,rfl,ha⟩:=h
  exact eH 2 [19] [(21,Vq b)]<|have⟨x,q3,h⟩:=ha;hH 22 49 q3 [21]<|va 4 [(22,vp x),(25,vi (zY (ra+j))),(26,vu u)]<|zo 27 (λa=>[(27,vi a)]) h λa H2 h=>kb 1 [8] [vi a] hQ h
 exact aJ 18 (CJ Bool.not (zZ c1))<|ar 3<|kb 1 [8] [vi 3] hQ h
namespace cH
def K0:=EP f45
def K2:=cb K0
def K4:=cb K2
def zy:=cb K4
def Aq:=ca zy
def Ay:=cb Aq
def Aa:=ca Ay
def An:=ca Aa
end cH
def cH.pt(m f:zW)(d e:Nat)(H:zV)(R:zv):=
 ∀b H1,b=H.size->H1=H.push (.cells #[vp m] 78)->
 ∃x,hat H1 (ad b)=some (vp x)/\
 eU x (
 R VN H1) (λxA=>
 ∃ac,hat H1 (ad b)=some (vp ac)/\
 ∃ag,ac=some ag/\
 ∃xB xN xC,hat H1 ag=some (vs xB xN xC)/\
 ∃(u:zW->Nat->Nat->zw) (m19:zW->Nat->Nat->Int->zV->Nat),u none 0 0 0 H1/\ ∀lB lN lC s15 H2,u lB lN lC s15 H2->
 if s15< (xN:Int)then(
 ∃ae,hat H2 (ad b)=some (vp ae)/\
 ∃af,ae=some af/\
 ∃r n o,hat H2 af=some (vs r n o)/\
 ∃g,r=some g/\
 yZ s15 n/\
 ∃q,hat H2 ((g.add (Int.toNat s15*72)).add 7)=some (vi q)/\
 if q>0 then(
 if(d:Int)=0 then(
 ∀aa H3,aa=H2.size->H3=H2.push (.cells #[vi s15] 3)->
 bH 1 3 8 [vi 0] lB lN lC (some (ad aa)) 1 H3 (λap y H4=>
 (u ap (lN+1) y (zY (s15+1)) H4/\m19 ap (lN+1) y (zY (s15+1)) H4<m19 lB lN lC s15 H2)))
 else
 ∃z,hat H2 (g.add (Int.toNat s15*72))=some (vi z)/\
 bS.C f d e z H2 (λv H5=> ∃s,v=.bool s/\
 if s=true then(
 ∀ab H6,ab=H5.size->H6=H5.push (.cells #[vi s15] 3)->
 bH 1 3 8 [vi 0] lB lN lC (some (ad ab)) 1 H6 (λp j H7=>
 (u p (lN+1) j (zY (s15+1)) H7/\m19 p (lN+1) j (zY (s15+1)) H7<m19 lB lN lC s15 H2)))
 else
 (u lB lN lC (zY (s15+1)) H5/\m19 lB lN lC (zY (s15+1)) H5<m19 lB lN lC s15 H2)))
 else
 (u lB lN lC (zY (s15+1)) H2/\m19 lB lN lC (zY (s15+1)) H2<m19 lB lN lC s15 H2))
 else
 slices_SortFunc_int_int.C lB lN lC (.func (.func 89) #[] #[Vq (ad b)]) H2 (λ_ H8=>
 R (vs lB lN lC) H8))
theorem cH.link(h:pt d r k o H R):C d r k o H R:=by
 refine sa K0 52 func45 ?_
 intro w0 Q hQ
 unfold pt zY at h
 refine nx [(0,vp d),(1,vs r k o)]<|ar 0<|t1 (some 2) (λb=>vp (pa b)) (.cells #[vp d] 78)<|λb H1 e1 e2=>have h:=h b H1 e1 e2;kc [0] [(2,vp (pa b))]<|eT 1 [] []<|ge<|ar 1<|have⟨x,q3,h⟩:=h;hH 8 78 q3 [] ?_
 rcases x with _ | xA
 ·rw[CP]at h
  exact eT 1 [8] [(9,VT)]<|wc 9<|ar 2<|kb 1 [4] [VN] hQ h
 rw[CK]at h
 refine eT 1 [8] [(9,VF)]<|yL 9<|nc<|ar 3<|eT 1 [9] [(5,VN)]<|ge<|ar 4<|have⟨ac,q4,h⟩:=h;hH 10 78 q4 [] ?_
 obtain⟨ag,rfl,ha⟩:=h
 refine eH 2 [10] [(12,Vq ag)]<|have⟨xB,xN,xC,q5,h⟩:=ha;hH 13 155 q5 [12]<|eT 2 [13] [(14,vi xN),(15,vi 0)]<|p0 0<|have⟨u,m19,i6,i7⟩:=h;bL (x:=An) (σ:=zW×Nat×Nat×Int) (λs_=> [(1,vs r k o),(2,vp (pa b)),(5,vs s_.1 s_.2.1 s_.2.2.1),(14,vi xN),(15,vi s_.2.2.2)]) (λs_ H=>u s_.1 s_.2.1 s_.2.2.1 s_.2.2.2 H) (λs_ H=>m19 s_.1 s_.2.1 s_.2.2.1 s_.2.2.2 H) ((none,0,0,0):zW×Nat×Nat×Int) (by kernel_rfl) i6 sk ?_
 rintro⟨lB,lN,lC,s15⟩ H2 i8
 have h:=i7 lB lN lC s15 H2 i8
 refine nx [(1,vs r k o),(2,vp (pa b)),(5,vs lB lN lC),(14,vi xN),(15,vi s15)]<|ar 5<|eT 1 [] [(16,.bool (decide (s15< (xN:Int))))]<|ge<|qx h (λc9 h=>?_) (λc9 h=>?_)
 ·refine aJ 16 (zX c9)<|nc<|ge<|p0 1<|ar 6<|eT 2 [16] [(6,vi s15)]<|ar 7<|have⟨ae,q11,h⟩:=h;hH 18 78 q11 [] ?_
  obtain⟨af,rfl,hb⟩:=h
  refine eH 2 [18] [(20,Vq af)]<|have⟨f,n,e,q12,h⟩:=hb;hH 21 155 q12 [20]<|eH 1 [] [(22,vi s15)] ?_
  obtain⟨g,rfl,q13,hc⟩:=h
  refine yI (some 23) 155 161 72 g n e .i64 s15 DT q13.1 q13.2 [21,22] [(23,Vq (g.add (Int.toNat s15*72)))]<|eT 1 [23] [(7,Vq (g.add (Int.toNat s15*72)))]<|ar 8<|eH 3 [] [(26,Vq ((g.add (Int.toNat s15*72)).add 7))]<|have⟨q,q14,h⟩:=hc;hH 27 3 q14 [26]<|eH 2 [27] [(29,.bool (decide (q>0)))]<|qx h (λc15 h=>?_) (λc15 h=>?_)
  ·refine o0 29 (zX c15)<|eH 4 [] [(33,.bool ((k:Int)==0))]<|qx h (λc17 h=>?_) (λc17 h=>?_)
   ·refine o0 33 (zK c17)<|eT 9 [7,29,33] [(42,VT)]<|wc 42<|oo 9<|eH 2 [5,6,42] [(43,vs lB lN lC),(44,vi s15)]<|t1 (some 45) (λb=>vs (pa b) 1 1) (.cells #[vi s15] 3) ?_
    intro aa H3 e19 e20
    replace h:=h aa H3 e19 e20
    refine kc [44] [(45,vs (pa aa) 1 1)]<|zi (some 46) (cF #[75,75] 75 #[vs lB lN lC,vs (pa aa) 1 1]) _ (λ_=>by kernel_rfl) (bJ (T:=3) (sz:=1) (bytes:=8) (zero:=(vi 0:Value)) C3 C3 rfl (show prog.info? 3=some t3 from by kernel_rfl) (by kernel_rfl) (by kernel_rfl) (by decide) (by kernel_rfl) (by first | exact h | (simpa only[Value.cells,C9]using h))) ?_;clear h
    rintro _ H4 ⟨ap,y,rfl,h⟩
    exact kc [43,45] [(46,vs ap (lN+1) y)]<|eH 1 [46] [(5,vs ap (lN+1) y)]<|zq<|aA<|aC<|oo 10<|eT 2 [15] [(15,vi (zY (s15+1)))]<|aR ((ap,(lN+1),y,(zY (s15+1))):zW×Nat×Nat×Int) sk h
   refine o0 33 (zJ c17)<|eH 5 [7] [(34,vs r k o),(38,Vq (g.add (Int.toNat s15*72)))]<|have⟨z,q21,h⟩:=h;hH 39 3 q21 [38]<|sv 40 [34,39] h λs H5 h=>eT 2 [29,33,40] [(42,.bool s)]<|qx h (λc22 h=>?_) (λc22 h=>?_)
   ·refine aJ 42 c22<|oo 9<|eH 2 [5,6,42] [(43,vs lB lN lC),(44,vi s15)]<|t1 (some 45) (λb=>vs (pa b) 1 1) (.cells #[vi s15] 3) ?_
    intro ab H6 e24 e25
    replace h:=h ab H6 e24 e25
    refine kc [44] [(45,vs (pa ab) 1 1)]<|zi (some 46) (cF #[75,75] 75 #[vs lB lN lC,vs (pa ab) 1 1]) _ (λ_=>by kernel_rfl) (bJ (T:=3) (sz:=1) (bytes:=8) (zero:=(vi 0:Value)) C3 C3 rfl (show prog.info? 3=some t3 from by kernel_rfl) (by kernel_rfl) (by kernel_rfl) (by decide) (by kernel_rfl) (by first | exact h | (simpa only[Value.cells,C9]using h))) ?_;clear h
    rintro _ H7 ⟨p,j,rfl,h⟩
    exact kc [43,45] [(46,vs p (lN+1) j)]<|eH 1 [46] [(5,vs p (lN+1) j)]<|zq<|aA<|aC<|oo 10<|eT 2 [15] [(15,vi (zY (s15+1)))]<|aR ((p,(lN+1),j,(zY (s15+1))):zW×Nat×Nat×Int) sk h
   exact aK 42 (zZ c22)<|zp<|aA<|aC<|oo 10<|eT 2 [6,15,42] [(15,vi (zY (s15+1)))]<|aR ((lB,lN,lC,(zY (s15+1))):zW×Nat×Nat×Int) sk h
  exact o0 29 (zQ c15)<|eT 13 [7,29] [(42,VF)]<|yL 42<|zp<|aA<|aC<|oo 10<|eT 2 [6,15,42] [(15,vi (zY (s15+1)))]<|aR ((lB,lN,lC,(zY (s15+1))):zW×Nat×Nat×Int) sk h
 refine aK 16 (zQ c9)<|zk 0<|aB<|aB<|aN<|aC<|ar 11<|va 2 [(5,vs lB lN lC),(48,vs lB lN lC),(49,.func (.func 89) #[] #[vp (pa b)])]<|zC (some 50) h ?_;clear h
 exact λv_2 H8 h=>kc [48,49] []<|yH<|ar 12<|kb 2 [4] [vs lB lN lC] hQ h
def iH.K0:=EP Tryz.f46
def iH.pt(m:zW)(H:zV)(R:zv):=
 eU m (
 R (vi 0) H) (λmA=>
 ∃x,hat H (mA.add 2)=some (vi x)/\
 R (vi x) H)
theorem iH.link(h:pt d H R):C d H R:=by
 refine sa K0 9 func46 ?_
 intro w0 Q hQ
 unfold pt at h
 refine nx [(0,vp d)]<|ar 0<|eT 1 [] []<|ge<|ar 1<|eH 1 [] [(3,vp d)] ?_
 rcases d with _ | mA
 ·rw[CP]at h
  exact u5 1 [(0,vp none),(4,VT)]<|wc 4<|ar 2<|kb 1 [2] [vi 0] hQ h
 rw[CK]at h
 exact u5 1 [(0,Vq mA),(4,VF)]<|yL 4<|nc<|ar 3<|va 3 [(7,Vq (mA.add 2))]<|have⟨x,q1,h⟩:=h;hH 8 3 q1 [7]<|kb 1 [2] [vi x] hQ h
def iF.K0:=EP f89
def iF.K2:=cb K0
def iF.K3:=ca K2
def iF.pt(a b:Int)(p:zW)(H:zV)(R:zv):=
 ∃d,p=some d/\
 ∃x,hat H d=some (vp x)/\
 ∃xA,x=some xA/\
 ∃xB xN xC,hat H xA=some (vs xB xN xC)/\
 ∃f,xB=some f/\
 yZ a xN/\
 ∃g,hat H ((f.add (Int.toNat a*72)).add 7)=some (vi g)/\
 ∃s,hat H d=some (vp s)/\
 ∃j,s=some j/\
 ∃r m n,hat H j=some (vs r m n)/\
 ∃e,r=some e/\
 yZ b m/\
 ∃q,hat H ((e.add (Int.toNat b*72)).add 7)=some (vi q)/\
 cmp_Compare_int.C g q H (λv H1=> ∃o,v=vi o/\
 R (vi o) H1)
theorem iF.link{a b:Int}(h:pt a b d H R):C a b d H R:=by
 refine sa K0 23 func89 ?_
 intro w0 Q hQ
 unfold pt at h
 refine nx [(0,vi a),(1,vi b),(2,vp d)]<|ar 0<|eT 1 [] []<|ge ?_
 obtain⟨p,rfl,x,q1,xA,rfl,xB,xN,xC,q2,f,rfl,q3,g,q4,s,q5,j,rfl,r,m,n,q6,e,rfl,q7,q,q8,ha⟩:=h
 refine yq 1 (Code.ops K3) [(16,p,[vp (some xA)]),(16,xA,[vs (some f) xN xC]),(16,((f.add (Int.toNat a*72)).add 7),[vi g]),(16,p,[vp (some j)]),(16,j,[vs (some e) m n]),(16,((e.add (Int.toNat b*72)).add 7),[vi q])] 18 (bv 18 0) (show aE _ _ _ from⟨⟨q1,EO⟩,⟨q2,EO⟩,⟨q4,EO⟩,⟨q5,EO⟩,⟨q6,EO⟩,⟨q8,EO⟩,EO⟩)<|zB 0 (some 6) (vp (some xA)) (bv 18 1) [(0,vi a),(1,vi b),(2,vp (some p)),(6,vp (some xA))] (aQ 78 (vp (some p))) (yY 16 yX)<|aG 1 7 (vp (some xA)) (bv 18 3) [6]<|aG 2 8 (vp (some xA)) (bv 18 7) [7]<|kT 3 9 (vs (some f) xN xC) (bv 18 15) [8] (aQ 155 (vp (some xA))) (yY 16 yQ)<|aG 4 10 (vi a) (bv 18 31) [0]<|kT 5 11 (vp (some (f.add (Int.toNat a*72)))) (bv 18 63) [9,10] (bE 155 (vs (some f) xN xC) (vi a)) (λ_ w _ _ _=>dZ (P:=prog) (t:=155) (elem:=161) (sz:=72) (a:=f) (len:=xN) (cap:=xC) (k:=.i64) (i:=a) DT (λ_=>by kernel_rfl) q3.1 q3.2 w)<|aG 6 12 (vp (some ((f.add (Int.toNat a*72)).add 7))) (bv 18 127) [11]<|kT 7 13 (vi g) (bv 18 255) [12] (aQ 3 (vp (some ((f.add (Int.toNat a*72)).add 7)))) (yY 16 yJ)<|kT 8 14 (vp (some j)) (bv 18 511) [2] (aQ 78 (vp (some p))) (yY 16 yK)<|aG 9 15 (vp (some j)) (bv 18 1023) [14]<|aG 10 16 (vp (some j)) (bv 18 2047) [15]<|kT 11 17 (vs (some e) m n) (bv 18 4095) [16] (aQ 155 (vp (some j))) (yY 16 yV)<|aG 12 18 (vi b) (bv 18 8191) [1]<|kT 13 19 (vp (some (e.add (Int.toNat b*72)))) (bv 18 16383) [17,18] (bE 155 (vs (some e) m n) (vi b)) (λ_ w _ _ _=>dZ (P:=prog) (t:=155) (elem:=161) (sz:=72) (a:=e) (len:=m) (cap:=n) (k:=.i64) (i:=b) DT (λ_=>by kernel_rfl) q7.1 q7.2 w)<|aG 14 20 (vp (some ((e.add (Int.toNat b*72)).add 7))) (bv 18 32767) [19]<|kT 15 21 (vi q) (bv 18 65535) [20] (aQ 3 (vp (some ((e.add (Int.toNat b*72)).add 7)))) (yY 16 yW)<|yx 16 (some 22) (bv 18 131071) 90 #[vi g,vi q] ha ?_;clear ha
 rintro v H1 ⟨o,rfl,h⟩
 refine⟨[(22,vi o)],pk,(show aE _ _ _ from⟨EO,EO,EO,EO,EO,EO,EO⟩),?_⟩
 exact zB 17 (some 5) (vi o) (bv 18 262143) [(5,vi o)] (pure (.value (vi o)):Sem Next) (λ_ _ _ _ _=>rfl)<|eq [(5,vi o)] sk<|yz<|aC<|hX [5] [vi o] hQ h
def fX.K0:=EP f105
def fX.pt(m:zW)(d:Int)(H:zV)(R:zv):=
 gL.C m d H (λv H1=> ∃x,v=vp x/\
 eU x (
 R (vi 19) H1) (λxA=>
 (aH H1 xA 0 72)/\ ∀H2,H2=aP H1 xA (List.replicate 8 (vi 0)++List.replicate 64 (vu 0):List Value) 0->
 ∃mA,m=some mA/\
 ∃b,hat H2 (mA.add 2)=some (vi b)/\
 (aH H2 (mA.add 2) 0 1)/\ ∀H3,H3=aP H2 (mA.add 2) [vi (zY (b+1))] 0->
 R (vi 0) H3))
theorem fX.link{H:zV}(h:pt d i H R):C d i H R:=by
 refine sa K0 21 func105 ?_
 intro w0 Q hQ
 unfold pt zY at h
 refine nx [(0,vp d),(1,vi i)]<|ar 0<|eT 1 [] []<|ar 1<|eH 2 [1] [(6,vp d),(7,vi i)]<|sv 8 [6,7] h λx H1 h=>eT 1 [8] [(5,vp x)]<|ge<|ar 2<|eH 1 [] [(9,vp x)] ?_
 rcases x with _ | xA
 ·rw[CP]at h
  exact eT 1 [5,9] [(5,vp none),(10,VT)]<|wc 10<|ar 3<|kb 1 [4] [vi 19] hQ h
 rw[CK]at h
 refine eT 1 [5,9] [(5,Vq xA),(10,VF)]<|yL 10<|nc<|ar 4<|eH 3 [5,10] [(12,.agg (List.replicate 8 (vi 0)++List.replicate 64 (vu 0):List Value).toArray),(13,Vq xA)] ?_
 obtain⟨q2,h⟩:=h
 refine mK none (jJ 161 (Vq xA) (.agg (List.replicate 8 (vi 0)++List.replicate 64 (vu 0):List Value).toArray)) (λHz=>Hz=aP H1 xA (List.replicate 8 (vi 0)++List.replicate 64 (vu 0):List Value) 0) (λ_=>by kernel_rfl) (by intro w hw;obtain⟨w1,g1,g2,g3⟩:=iR (P:=prog) (H:=H1) (t:=161) (a:=xA) (v:=(.agg (List.replicate 8 (vi 0)++List.replicate 64 (vu 0):List Value).toArray)) (List.replicate 8 (vi 0)++List.replicate 64 (vu 0):List Value) 72 (by kernel_rfl) (by kernel_rfl) (λ_=>by kernel_rfl) (by kernel_rfl) q2 w hw;exact⟨w1,g1,g2,g3⟩) ?_
 refine λH2 e1=>have h:=h H2 e1;⟨[(0,vp d)],pk,?_⟩
 refine yH<|ar 5<|va 1 [(14,vp d)] ?_
 obtain⟨mA,rfl,ha⟩:=h
 refine va 2 [(14,Vq mA),(16,Vq (mA.add 2))]<|have⟨b,q3,h⟩:=ha;hH 17 3 q3 [16]<|va 3 [(18,vi (zY (b+1))),(20,Vq (mA.add 2))]<|have⟨q5,h⟩:=h;eQ 3 (vi (zY (b+1))) q5<|λH3 e4=>have h:=h H3 e4;⟨[],pk,?_⟩
 exact yH<|ar 6<|kb 1 [4] [vi 0] hQ h
def iK.K0:=EP f157
def iK.K2:=cb K0
def iK.K4:=cb K2
def iK.K11:=ca K4
def iK.pt(m:zW)(H:zV)(R:zv):=
 eU m (
 R (vp none) H) (λmA=>
 ∃xB xN xC,hat H mA=some (vs xB xN xC)/\
 ∃x,hat H (mA.add 1)=some (vi x)/\
 ∃a,hat H (mA.add 2)=some (vi a)/\
 aU.C xB xN xC H (λv H1=> ∃e d f,v=vs e d f/\aL H1 (mA.add 1) 0 [vi x]/\aL H1 (mA.add 2) 0 [vi a]/\
 ∀b H2,b=H1.size->H2=H1.push (.cells #[vs e d f,vi x,vi a] 157)->
 R (Vq (ad b)) H2))
theorem iK.link(h:pt d H R):C d H R:=by
 refine sa K0 20 func157 ?_
 intro w0 Q hQ
 unfold pt at h
 refine nx [(0,vp d)]<|ar 0<|eT 1 [] []<|ge<|ar 1<|eH 1 [] [(3,vp d)] ?_
 rcases d with _ | mA
 ·rw[CP]at h
  exact u5 1 [(0,vp none),(4,VT)]<|wc 4<|ar 2<|kb 1 [2] [vp none] hQ h
 rw[CK]at h
 refine u5 1 [(0,Vq mA),(4,VF)]<|yL 4<|nc<|ge ?_
 obtain⟨xB,xN,xC,q1,x,q2,a,q3,h⟩:=h
 refine yq 3 (Code.ops K11) [(4,mA,[vs xB xN xC]),(14,(mA.add 1),[vi x]),(14,(mA.add 2),[vi a])] 16 (bv 16 0) (show aE _ _ _ from⟨⟨q1,EO⟩,⟨q2,EO⟩,⟨q3,EO⟩,EO⟩)<|zr 0 (some 5) (Vq mA) (bv 16 1) [(0,Vq mA),(5,Vq mA)]<|aG 1 6 (Vq mA) (bv 16 3) [5]<|aG 2 7 (Vq mA) (bv 16 7) [6]<|kT 3 8 (vs xB xN xC) (bv 16 15) [7] (aQ 155 (Vq mA)) (yY 4 yX)<|aG 5 10 (Vq mA) (bv 16 47) []<|aG 6 11 (Vq mA) (bv 16 111) [10]<|aG 7 12 (Vq (mA.add 1)) (bv 16 239) [11]<|kT 8 13 (vi x) (bv 16 495) [12] (aQ 3 (Vq (mA.add 1))) (yY 14 yQ)<|aG 9 14 (Vq mA) (bv 16 1007) [0]<|aG 10 15 (Vq mA) (bv 16 2031) [14]<|aG 11 16 (Vq (mA.add 2)) (bv 16 4079) [15]<|kT 12 17 (vi a) (bv 16 8175) [16] (aQ 3 (Vq (mA.add 2))) (yY 14 yJ)<|yx 4 (some 9) (bv 16 8191) 159 #[vs xB xN xC] h ?_;clear h
 rintro v H1 ⟨e,m,f,rfl,f4,f5,h⟩
 refine⟨[(9,vs e m f),(13,vi x),(17,vi a)],pk,(show aE _ _ _ from⟨EO,f4,f5,EO⟩),?_⟩
 refine zB 13 (some 18) (.agg #[vs e m f,vi x,vi a]) (bv 16 16383) [(18,.agg #[vs e m f,vi x,vi a])] (pure (.value (.agg #[vs e m f,vi x,vi a])):Sem Next) (λ_ _ _ _ _=>rfl)<|mO 14 (some 19) (bv 16 32767) (λb=>vp (pa b)) (.cells #[vs e m f,vi x,vi a] 157) (by kernel_rfl) (λ_=>by kernel_rfl) (by kernel_rfl)<|λb H2 e6 e7=>have h:=h b H2 e6 e7;⟨[(19,vp (pa b))],pk,(show aE _ _ _ from⟨EO,EO,EO,EO⟩),?_⟩
 exact zB 15 (some 2) (vp (pa b)) (bv 16 65535) [(2,vp (pa b))] (pure (.value (vp (pa b))):Sem Next) (λ_ _ _ _ _=>rfl)<|eq [(2,vp (pa b))] sk<|yz<|aC<|hX [2] [vp (pa b)] hQ h
def cmp_Compare_int.K0:=EP f90
def cmp_Compare_int.pt(x y:Int)(H:zV)(R:zv):=
 cmp_isNaN_int.C x H (λv H1=> ∃b,v=.bool b/\
 cmp_isNaN_int.C y H1 (λd H2=> ∃a,d=.bool a/\
 if b=true then(
 if a=true then(
 R (vi 0) H2)
 else
 R (vi (-1)) H2)
 else
 if a=true then(
 R (vi 1) H2)
 else
 if x<y then(
 R (vi (-1)) H2)
 else
 if x>y then(
 R (vi 1) H2)
 else
 R (vi 0) H2))
theorem cmp_Compare_int.link(h:pt i j H R):C i j H R:=by
 refine sa K0 20 func90 ?_
 intro w0 Q hQ
 unfold pt at h
 refine nx [(0,vi i),(1,vi j)]<|ar 0<|eT 1 [] []<|ar 1<|eH 1 [] [(7,vi i)]<|sv 8 [7] h λb H1 h=>eT 1 [8] [(5,.bool b)]<|ar 2<|eH 1 [] [(9,vi j)]<|sv 10 [9] h λa H2 h=>eT 1 [10] [(6,.bool a)]<|ge<|ar 3<|eT 1 [5] [(11,.bool b)]<|qx h (λc1 h=>?_) (λc1 h=>?_)
 ·refine aJ 11 c1<|ge<|ar 4<|u5 1 [(12,.bool a)]<|qx h (λc3 h=>?_) (λc3 h=>?_)
  ·exact aJ 12 c3<|ar 5<|kb 1 [4] [vi 0] hQ h
  exact aK 12 (zZ c3)<|nc<|ar 6<|kb 1 [4] [vi (-1)] hQ h
 refine aK 11 (zZ c1)<|nc<|ge<|ar 7<|eT 1 [6,11] [(13,.bool a)]<|qx h (λc5 h=>?_) (λc5 h=>?_)
 ·exact aJ 13 c5<|ar 8<|kb 1 [4] [vi 1] hQ h
 refine aK 13 (zZ c5)<|nc<|ge<|ar 9<|eT 3 [13] [(16,.bool (decide (i<j)))]<|qx h (λc7 h=>?_) (λc7 h=>?_)
 ·exact aJ 16 (zX c7)<|ar 10<|kb 1 [4] [vi (-1)] hQ h
 refine aK 16 (zQ c7)<|nc<|ge<|ar 11<|u5 3 [(19,.bool (decide (i>j)))]<|qx h (λc9 h=>?_) (λc9 h=>?_)
 ·exact aJ 19 (zX c9)<|ar 12<|kb 1 [4] [vi 1] hQ h
 exact aK 19 (zQ c9)<|nc<|ar 13<|kb 1 [4] [vi 0] hQ h
def cmp_isNaN_int.K0:=EP f129
def cmp_isNaN_int.pt(x:Int)(H:zV)(R:zv):=
 R (.bool (x !=x)) H
theorem cmp_isNaN_int.link(h:pt i H R):C i H R:=by
 refine sa K0 6 func129 ?_
 intro w0 Q hQ
 unfold pt at h
 exact nx [(0,vi i)]<|ar 0<|eT 1 [] []<|ar 1<|kb 4 [2] [.bool (i !=i)] hQ h
def aW.K0:=EP f76
def aW.pt(sB:zW)(sN sC:Nat)(H:zV)(R:zv):=
 eU sB (
 R VN H) (λa=>
 ∀b H1,b=H.size->H1=H.push (.cells #[] 28)->
 bH 1 28 8 [vu 0] (some (ad b)) 0 0 (some a) sN H1 (λap d H2=>
 R (vs ap (0+sN) d) H2))
theorem aW.link(h:pt d k o H R):C d k o H R:=by
 refine sa K0 8 func76 ?_
 intro w0 Q hQ
 unfold pt at h
 refine nx [(0,vs d k o)]<|ar 0<|eT 1 [] []<|ge<|ar 1<|eH 1 [] [(3,vs d k o)] ?_
 rcases d with _ | a
 ·rw[CP]at h
  exact u5 1 [(0,vs none k o),(4,VT)]<|wc 4<|ar 2<|kb 1 [2] [VN] hQ h
 rw[CK]at h
 refine u5 1 [(0,vs (some a) k o),(4,VF)]<|yL 4<|nc<|ar 3<|yS [4] []<|t1 (some 5) (λb=>vs (pa b) 0 0) (.cells #[] 28) ?_
 intro b H1 e1 e2
 replace h:=h b H1 e1 e2
 refine kc [] [(5,vs (pa b) 0 0)]<|eH 1 [0] [(6,vs (some a) k o)]<|zi (some 7) (cF #[32,32] 32 #[vs (pa b) 0 0,vs (some a) k o]) _ (λ_=>by kernel_rfl) (bJ (T:=28) (sz:=1) (bytes:=8) (zero:=(vu 0:Value)) CO CO rfl (show prog.info? 28=some t28 from by kernel_rfl) (by kernel_rfl) (by kernel_rfl) (by decide) (by kernel_rfl) (by first | exact h | (simpa only[Value.cells,C9]using h))) ?_;clear h
 rintro _ H2 ⟨ap,sC,rfl,h⟩
 refine⟨[(7,vs ap (0+k) sC)],pk,?_⟩
 exact kb 1 [2] [vs ap (0+k) sC] hQ h
def bS.K0:=EP f87
def bS.pt(sB:zW)(sN sC:Nat)(v:Int)(H:zV)(R:zv):=
 dD.C sB sN sC v H (λa H1=> ∃x,a=vi x/\
 R (.bool (decide (x>=0))) H1)
theorem bS.link(h:pt d k o i H R):C d k o i H R:=by
 refine sa K0 9 func87 ?_
 intro w0 Q hQ
 unfold pt at h
 exact nx [(0,vs d k o),(1,vi i)]<|ar 0<|eT 1 [] []<|ar 1<|va 2 [(5,vs d k o),(6,vi i)]<|zo 7 (λx=>[(7,vi x)]) h λx H1 h=>kb 2 [4] [.bool (decide (x>=0))] hQ h
def dD.K0:=EP f126
def dD.K2:=cb K0
def dD.K3:=ca K2
def dD.K6:=cb K3
def dD.K7:=ca K6
def dD.K8:=ca K7
def dD.pt(sB:zW)(sN sC:Nat)(v:Int)(H:zV)(R:zv):=
 ∃(I9:zw) (m9:Int->zV->Nat),I9 0 H/\ ∀s8 H1,I9 s8 H1->
 if s8< (sN:Int)then(
 ∃b,sB=some b/\
 yZ s8 sN/\
 ∃x,hat H1 (b.add (Int.toNat s8*1))=some (vi x)/\
 if v=x then(
 R (vi s8) H1)
 else
 (I9 (zY (s8+1)) H1/\m9 (zY (s8+1)) H1<m9 s8 H1))
 else
 R (vi (-1)) H1
theorem dD.link(h:pt d k o i H R):C d k o i H R:=by
 refine sa K0 19 func126 ?_
 intro w0 Q hQ
 unfold pt zY at h
 refine nx [(0,vs d k o),(1,vi i)]<|ar 0<|eT 1 [] []<|ge<|ar 1<|eT 3 [] [(7,vi k),(8,vi 0)]<|p0 0<|have⟨I9,m9,i1,i2⟩:=h;bL (x:=K8) (σ:=Int) (λs_=> [(0,vs d k o),(1,vi i),(7,vi k),(8,vi s_)]) (λs_ H=>I9 s_ H) (λs_ H=>m9 s_ H) (0:Int) (by kernel_rfl) i1 sk ?_
 rintro s8 H1 i3
 have h:=i2 s8 H1 i3
 refine nx [(0,vs d k o),(1,vi i),(7,vi k),(8,vi s8)]<|ar 2<|eT 1 [] [(9,.bool (decide (s8< (k:Int))))]<|ge<|qx h (λc4 h=>?_) (λc4 h=>?_)
 ·refine aJ 9 (zX c4)<|nc<|ge<|p0 1<|ar 3<|eT 2 [9] [(5,vi s8)]<|ar 4<|eH 3 [] [(11,vi i),(12,vs d k o),(13,vi s8)] ?_
  obtain⟨b,rfl,q6,ha⟩:=h
  refine yI (some 14) 75 3 1 b k o .i64 s8 C3 q6.1 q6.2 [0,12,13] [(0,vs (some b) k o),(14,Vq (b.add (Int.toNat s8*1)))]<|have⟨x,q7,h⟩:=ha;hH 15 3 q7 [14]<|eT 1 [11,15] [(16,.bool (i==x))]<|qx h (λc8 h=>?_) (λc8 h=>?_)
  ·exact aJ 16 (zK c8)<|ar 5<|kb 2 [4] [vi s8] hQ h
  exact aK 16 (zJ c8)<|zp<|aA<|aC<|oo 6<|eT 2 [5,8,16] [(8,vi (zY (s8+1)))]<|aR ((zY (s8+1)):Int) sk h
 exact aK 9 (zQ c4)<|zk 0<|aB<|aB<|aN<|aC<|ar 7<|kb 1 [4] [vi (-1)] hQ h
def aU.K0:=EP f159
def aU.pt(sB:zW)(sN sC:Nat)(H:zV)(R:zv):=
 eU sB (
 R VN H) (λa=>
 ∀b H1,b=H.size->H1=H.push (.cells #[] 161)->
 bH 72 161 576 (List.replicate 8 (vi 0)++List.replicate 64 (vu 0):List Value) (some (ad b)) 0 0 (some a) sN H1 (λap d H2=>
 R (vs ap (0+sN) d) H2))
theorem aU.link(h:pt d k o H R):C d k o H R:=by
 refine sa K0 8 func159 ?_
 intro w0 Q hQ
 unfold pt at h
 refine nx [(0,vs d k o)]<|ar 0<|eT 1 [] []<|ge<|ar 1<|eH 1 [] [(3,vs d k o)] ?_
 rcases d with _ | a
 ·rw[CP]at h
  exact u5 1 [(0,vs none k o),(4,VT)]<|wc 4<|ar 2<|kb 1 [2] [VN] hQ h
 rw[CK]at h
 refine u5 1 [(0,vs (some a) k o),(4,VF)]<|yL 4<|nc<|ar 3<|yS [4] []<|t1 (some 5) (λb=>vs (pa b) 0 0) (.cells #[] 161) ?_
 intro b H1 e1 e2
 replace h:=h b H1 e1 e2
 refine kc [] [(5,vs (pa b) 0 0)]<|eH 1 [0] [(6,vs (some a) k o)]<|zi (some 7) (cF #[155,155] 155 #[vs (pa b) 0 0,vs (some a) k o]) _ (λ_=>by kernel_rfl) (bJ (T:=161) (sz:=72) (bytes:=576) (zero:=(.agg (List.replicate 8 (vi 0)++List.replicate 64 (vu 0):List Value).toArray:Value)) DT DT rfl (show prog.info? 161=some t161 from by kernel_rfl) (by kernel_rfl) (by kernel_rfl) (by decide) (by kernel_rfl) (by first | exact h | (simpa only[Value.cells,C9]using h))) ?_;clear h
 rintro _ H2 ⟨ap,sC,rfl,h⟩
 refine⟨[(7,vs ap (0+k) sC)],pk,?_⟩
 exact kb 1 [2] [vs ap (0+k) sC] hQ h
def gR.K0:=EP f65
def gR.pt(hv:zW)(H:zV)(R:zv):=
 eW.C hv H (λv H1=> ∃x,v=.bool x/\
 if x=true then(
 R (.tuple #[]) H1)
 else
 ∃a,hv=some a/\
 ∃b,hat H1 (a.add 3)=some (vu b)/\
 (aH H1 (a.add 3) 0 1)/\ ∀H2,H2=aP H1 (a.add 3) [vu (IntKind.wrap .u64 (b+1))] 0->
 R (.tuple #[]) H2)
set_option maxRecDepth 100000 in
theorem gR.link(h:pt d H R):C d H R:=by
 refine sa K0 12 func65 ?_
 intro w0 Q hQ
 unfold pt at h
 refine nx [(0,vp d)]<|ar 0<|eH 1 [] [(2,vp d)]<|sv 3 [2] h λx H1 h=>eT 1 [3] [(4,.bool (!x))]<|qx h (λc1 h=>?_) (λc1 h=>?_)
 ·exact aK 4 (CJ Bool.not (c1))<|zp<|gH (fn:=f65) [] hQ (show bV _ _ _ [] _ from .nil) h
 refine aJ 4 (CJ Bool.not (zZ c1))<|oo 1<|va 1 [(5,vp d)] ?_
 obtain⟨a,rfl,ha⟩:=h
 refine va 2 [(5,Vq a),(7,Vq (a.add 3))]<|have⟨b,q3,h⟩:=ha;hH 8 22 q3 [7]<|va 3 [(9,vu (EQ (b+1))),(11,Vq (a.add 3))]<|have⟨q5,h⟩:=h;eQ 22 (vu (EQ (b+1))) q5<|λH2 e4=>have h:=h H2 e4;⟨[],pk,?_⟩
 exact zq<|gH (fn:=f65) [] hQ (show bV _ _ _ [] _ from .nil) h
def bC.K0:=EP f68
def bC.pt(vW af:Int)(f:zW)(d e:Nat)(H:zV)(R:zv):=
 ∀b H1,b=H.size->H1=H.push (.cells #[vu vW,vi af] 65)->
 ∃x,hat H1 ((ad b).add 1)=some (vi x)/\
 if((decide (x>0)) && (decide ((d:Int)>0)))=true then(
 ∃n,hat H1 ((ad b).add 1)=some (vi n)/\
 ((d:Int)≠0)/\
 ∃m,f=some m/\
 ((0:Int)<=(tmod (zY (n-1)) (d:Int))/\(tmod (zY (n-1)) (d:Int))< (d:Int))/\
 ∃z,hat H1 (m.add (Int.toNat (tmod (zY (n-1)) (d:Int))*1))=some (vu z)/\
 R (vu z) H1)
 else
 ∃j,hat H1 (ad b)=some (vu j)/\
 if(yF .u64 j 7)=0 then(
 ∃ac,hat H1 (ad b)=some (vu ac)/\
 dK.C ac H1 (λv H2=> ∃o ai xA xX ag,v=.agg #[vi o,vi ai,vi xA,vi xX,vu ag]/\
 if o=0 then(
 ∃aa,hat H2 (ad b)=some (vu aa)/\
 R (vu (lu .u64 aa 7)) H2)
 else
 ∃ab,hat H2 (ad b)=some (vu ab)/\
 R (vu ab) H2))
 else
 if(yF .u64 j 7)=4 then(
 ∃ae,hat H1 (ad b)=some (vu ae)/\
 dK.C ae H1 (λak H3=> ∃g u ah aj r,ak=.agg #[vi g,vi u,vi ah,vi aj,vu r]/\
 if g=0 then(
 ∃s,hat H3 (ad b)=some (vu s)/\
 R (vu (lu .u64 s 7)) H3)
 else
 ∃p,hat H3 (ad b)=some (vu p)/\
 R (vu p) H3))
 else
 ∃q,hat H1 (ad b)=some (vu q)/\
 R (vu (lu .u64 q 7)) H1
set_option maxRecDepth 100000 in
theorem bC.link(h:pt i j d k o H R):C i j d k o H R:=by
 refine sa K0 44 func68 ?_
 intro w0 Q hQ
 unfold pt zY at h
 refine nx [(0,.agg #[vu i,vi j]),(1,vs d k o)]<|ar 0<|t1 (some 2) (λb=>vp (pa b)) (.cells #[vu i,vi j] 65)<|λb H1 e1 e2=>have h:=h b H1 e1 e2;kc [0] [(2,vp (pa b))]<|eT 1 [] []<|ge<|ar 1<|eH 1 [] [(6,Vq ((ad b).add 1))]<|have⟨x,q3,h⟩:=h;hH 7 3 q3 [6]<|eH 2 [7] [(9,.bool (decide (x>0)))]<|iX [(1,vs d k o),(2,vp (pa b)),(13,.bool ((decide (x>0)) && (decide ((k:Int)>0))))] ?_ ?_
 ·refine aC<|qx h (λc6 h=>?_) (λc6 h=>?_)
  ·refine aJ 13 c6<|ar 2<|va 2 [(1,vs d k o),(14,vs d k o),(15,Vq ((ad b).add 1))]<|have⟨n,q8,h⟩:=h;hH 16 3 q8 [15]<|eH 3 [1,16] [(17,vi (zY (n-1))),(19,vi k)]<|have⟨q9,h⟩:=h;zd 20 (Ap .rem 3 (vi (zY (n-1))) (vi k)) (vi (tmod (zY (n-1)) (k:Int))) (λw _=>uy (P:=prog) (t:=3) (k:=.i64) (x:=(zY (n-1))) (y:=(k:Int)) q9 w) [17,19] ?_
   obtain⟨m,rfl,q10,ha⟩:=h
   exact BH (some 21) 32 28 1 m k o .i64 (tmod (zY (n-1)) (k:Int)) CO q10.1 q10.2 [(21,vp (some (m.add (Int.toNat (tmod (zY (n-1)) (k:Int))*1))))]<|have⟨z,q11,h⟩:=ha;hH 22 28 q11 [21]<|kb 1 [4] [vu z] hQ h
  refine aK 13 (zZ c6)<|nc<|ge<|ar 3<|va 1 [(2,vp (pa b)),(23,vp (pa b))]<|have⟨e,q12,h⟩:=h;hH 24 28 q12 [23]<|eT 2 [24] [(5,vu (yF .u64 e 7))]<|ar 4<|eH 3 [] [(28,.bool ((yF .u64 e 7) !=0))]<|qx h (λc13 h=>?_) (λc13 h=>?_)
  ·refine o0 28 (CX.mpr c13)<|eH 5 [5,28] [(32,VF),(33,vp (pa b))]<|have⟨ac,q15,h⟩:=h;hH 34 28 q15 [33]<|BF 35 [34] h λaf ai xA xX ag H2 h=>eT 3 [32,35] [(38,.bool (af==0))]<|qx h (λc16 h=>?_) (λc16 h=>?_)
   ·exact aJ 38 (zK c16)<|ar 5<|va 1 [(39,vp (pa b))]<|have⟨aa,q18,h⟩:=h;hH 40 28 q18 [39]<|kb 2 [4] [vu (lu .u64 aa 7)] hQ h
   exact aK 38 (zJ c16)<|nc<|ar 6<|va 1 [(42,vp (pa b))]<|have⟨ab,q19,h⟩:=h;hH 43 28 q19 [42]<|kb 1 [4] [vu ab] hQ h
  refine o0 28 (CY.mpr c13)<|eH 4 [5,28] [(32,.bool ((yF .u64 e 7) !=4))]<|qx h (λc20 h=>?_) (λc20 h=>?_)
  ·refine o0 32 (CX.mpr c20)<|eH 1 [] [(33,vp (pa b))]<|have⟨ae,q22,h⟩:=h;hH 34 28 q22 [33]<|BF 35 [34] h λg u ah aj r H3 h=>eT 3 [32,35] [(38,.bool (g==0))]<|qx h (λc23 h=>?_) (λc23 h=>?_)
   ·exact aJ 38 (zK c23)<|ar 5<|va 1 [(39,vp (pa b))]<|have⟨s,q25,h⟩:=h;hH 40 28 q25 [39]<|kb 2 [4] [vu (lu .u64 s 7)] hQ h
   exact aK 38 (zJ c23)<|nc<|ar 6<|va 1 [(42,vp (pa b))]<|have⟨p,q26,h⟩:=h;hH 43 28 q26 [42]<|kb 1 [4] [vu p] hQ h
  exact o0 32 (CY.mpr c20)<|eT 6 [32] [(38,VT)]<|wc 38<|ar 5<|va 1 [(39,vp (pa b))]<|have⟨q,q27,h⟩:=h;hH 40 28 q27 [39]<|kb 2 [4] [vu (lu .u64 q 7)] hQ h
 refine λhk=>Ac [(1,vs d k o),(2,vp (pa b)),(9,.bool (decide (x>0)))] ?_
 by_cases c4:x>0
 ·have b5:(decide (x>0))=true:=zX c4
  exact cD [(1,vs d k o),(2,vp (pa b)),(9,VT)] (by rw[b5])<|eH 4 [9] [(13,.bool (decide ((k:Int)>0)))]<|zq<|xl 13 (b:=(decide ((k:Int)>0))) (v:=((decide (x>0)) && (decide ((k:Int)>0)))) (by simp only[b5,BL])<|hk
 have b5:(decide (x>0))=false:=zQ c4
 exact cD [(1,vs d k o),(2,vp (pa b)),(9,VF)] (by rw[b5])<|eH 4 [9] [(13,VF)]<|zq<|xl 13 (b:=false) (v:=((decide (x>0)) && (decide ((k:Int)>0)))) (by simp only[b5,BL])<|hk
namespace dG
def K0:=EP f70
def K2:=cb K0
def K4:=cb K2
def K5:=ca K4
def K8:=cb K5
def K9:=ca K8
def zS:=ca K9
end dG
def dG.pt(lB:zW)(lN lC:Nat)(f:zW)(d e:Nat)(H:zV)(R:zv):=
 ∃(o:zW->Nat->Nat->zw) (m11:zW->Nat->Nat->Int->zV->Nat),o none 0 0 0 H/\ ∀g outN outC i H1,o g outN outC i H1->
 if((decide (i< (lN:Int))) && (decide (i<62)))=true then(
 ∃j,lB=some j/\
 yZ i lN/\
 ∃xW m,aL H1 (j.add (Int.toNat i*2)) 0 [vu xW,vi m]/\
 bC.C xW m f d e H1 (λv H2=> ∃x,v=vu x/\
 ∀b H3,b=H2.size->H3=H2.push (.cells #[vu x] 28)->
 bH 1 28 8 [vu 0] g outN outC (some (ad b)) 1 H3 (λap n H4=>
 (o ap (outN+1) n (zY (i+1)) H4/\m11 ap (outN+1) n (zY (i+1)) H4<m11 g outN outC i H1))))
 else
 R (vs g outN outC) H1
set_option maxRecDepth 100000 in
theorem dG.link{f e:Nat}(h:pt d k o r f e H R):C d k o r f e H R:=by
 refine sa K0 27 func70 ?_
 intro w0 Q hQ
 unfold pt zY at h
 refine nx [(0,vs d k o),(1,vs r f e)]<|ar 0<|eT 1 [] []<|ar 1<|eT 1 [] [(5,VN)]<|ge<|ar 2<|eT 1 [] [(6,vi 0)]<|p0 0<|have⟨lC,m11,i1,i2⟩:=h;bL (x:=zS) (σ:=zW×Nat×Nat×Int) (λs_=> [(0,vs d k o),(1,vs r f e),(5,vs s_.1 s_.2.1 s_.2.2.1),(6,vi s_.2.2.2)]) (λs_ H=>lC s_.1 s_.2.1 s_.2.2.1 s_.2.2.2 H) (λs_ H=>m11 s_.1 s_.2.1 s_.2.2.1 s_.2.2.2 H) ((none,0,0,0):zW×Nat×Nat×Int) (by kernel_rfl) i1 sk ?_
 rintro⟨g,outN,outC,i⟩ H1 i3
 have h:=i2 g outN outC i H1 i3
 refine nx [(0,vs d k o),(1,vs r f e),(5,vs g outN outC),(6,vi i)]<|ge<|ar 3<|iX [(0,vs d k o),(1,vs r f e),(5,vs g outN outC),(6,vi i),(14,.bool ((decide (i< (k:Int))) && (decide (i<62))))] ?_ ?_
 ·refine aC<|qx h (λc6 h=>?_) (λc6 h=>?_)
  ·refine aJ 14 c6<|nc<|ge<|p0 1<|oo 5<|va 3 [(0,vs d k o),(1,vs r f e),(6,vi i),(17,vs g outN outC),(18,vs d k o),(19,vi i)] ?_
   obtain⟨j,rfl,q8,ha⟩:=h
   refine yI (some 20) 66 65 2 j k o .i64 i underlying66 q8.1 q8.2 [0,18,19] [(0,vs (some j) k o),(20,Vq (j.add (Int.toNat i*2)))]<|have⟨xW,m,q9,h⟩:=ha;zN 21 65 q9 [20]<|eH 1 [] [(22,vs r f e)]<|sv 23 [21,22] h λx H2 h=>t1 (some 24) (λb=>vs (pa b) 1 1) (.cells #[vu x] 28) ?_
   intro b H3 e10 e11
   replace h:=h b H3 e10 e11
   refine kc [23] [(24,vs (pa b) 1 1)]<|zi (some 25) (cF #[32,32] 32 #[vs g outN outC,vs (pa b) 1 1]) _ (λ_=>by kernel_rfl) (bJ (T:=28) (sz:=1) (bytes:=8) (zero:=(vu 0:Value)) CO CO rfl (show prog.info? 28=some t28 from by kernel_rfl) (by kernel_rfl) (by kernel_rfl) (by decide) (by kernel_rfl) (by first | exact h | (simpa only[Value.cells,C9]using h))) ?_;clear h
   rintro _ H4 ⟨ap,n,rfl,h⟩
   exact kc [17,24] [(25,vs ap (outN+1) n)]<|eH 1 [25] [(5,vs ap (outN+1) n)]<|zq<|aA<|aC<|oo 4<|eT 3 [6] [(6,vi (zY (i+1)))]<|aR ((ap,(outN+1),n,(zY (i+1))):zW×Nat×Nat×Int) sk h
  exact aK 14 (zZ c6)<|zk 0<|aB<|aB<|aN<|aC<|ar 6<|kb 2 [4] [vs g outN outC] hQ h
 refine λhk=>va 5 [(0,vs d k o),(1,vs r f e),(5,vs g outN outC),(6,vi i),(11,.bool (decide (i< (k:Int))))] ?_
 by_cases c4:i< (k:Int)
 ·have b5:(decide (i< (k:Int)))=true:=zX c4
  exact cD [(0,vs d k o),(1,vs r f e),(5,vs g outN outC),(6,vi i),(11,VT)] (by rw[b5])<|eH 3 [11] [(14,.bool (decide (i<62)))]<|zq<|xl 14 (b:=(decide (i<62))) (v:=((decide (i< (k:Int))) && (decide (i<62)))) (by simp only[b5,BL])<|hk
 have b5:(decide (i< (k:Int)))=false:=zQ c4
 exact cD [(0,vs d k o),(1,vs r f e),(5,vs g outN outC),(6,vi i),(11,VF)] (by rw[b5])<|eH 3 [11] [(14,VF)]<|zq<|xl 14 (b:=false) (v:=((decide (i< (k:Int))) && (decide (i<62)))) (by simp only[b5,BL])<|hk
def dW.K0:=EP f69
def dW.pt(nv:Int)(H:zV)(R:zv):=
 ∀b H1,b=H.size->H1=H.push (.cells #[vi 1,vi 5,vi 2] 3)->
 ((0:Int)<=(tmod (yF .i64 nv 65535) 3)/\(tmod (yF .i64 nv 65535) 3)< (3:Int))/\
 ∃x,hat H1 ((ad b).add (Int.toNat (tmod (yF .i64 nv 65535) 3)*1))=some (vi x)/\
 R (vi x) H1
set_option maxRecDepth 100000 in
theorem dW.link(h:pt i H R):C i H R:=by
 refine sa K0 9 func69 ?_
 intro w0 Q hQ
 unfold pt at h
 exact nx [(0,vi i)]<|ar 0<|eT 1 [] []<|ar 1<|t1 (some 3) (λb=>vs (pa b) 3 3) (.cells #[vi 1,vi 5,vi 2] 3)<|λb H1 e1 e2=>have h:=h b H1 e1 e2;kc [] [(3,vs (pa b) 3 3)]<|eH 3 [0] [(6,vi (tmod (yF .i64 i 65535) 3))]<|have⟨q3,h⟩:=h;BH (some 7) 75 3 1 (ad b) 3 3 .i64 (tmod (yF .i64 i 65535) 3) C3 q3.1 q3.2 [(7,vp (some ((ad b).add (Int.toNat (tmod (yF .i64 i 65535) 3)*1))))]<|have⟨x,q4,h⟩:=h;hH 8 3 q4 [7]<|kb 1 [2] [vi x] hQ h
def eM.K0:=EP f71
def eM.pt(hv:zW)(wv nv v:Int)(H:zV)(R:zv):=
 eX.C hv wv H (λac H1=> ∃x,ac=.bool x/\
 if(x && ((yF .i64 (yF .i64 nv 65535) 1)==0))=true then(
 fD.C hv wv v H1 (λag H2=> ∃m,ag=vi m/\
 R (vi m) H2))
 else
 eX.C hv wv H1 (λs H3=> ∃f,s=.bool f/\
 if f=true then(
 eG.C hv wv v H3 (λz H4=> ∃n,z=vi n/\
 R (vi n) H4))
 else
 bX.C hv wv H3 (λab H5=> ∃e,ab=vi e/\
 if e=0 then(
 R (vi 3) H5)
 else
 cO.C hv wv H5 (λaa H6=> ∃i,aa=vi i/\
 if i=0 then(
 R (vi 3) H6)
 else
 bX.C hv wv H6 (λaf H7=> ∃j,af=vi j/\
 if j=2 then(
 R (vi 3) H7)
 else
 bX.C hv wv H7 (λr H8=> ∃g,r=vi g/\
 if g=10 then(
 R (vi 3) H8)
 else
 bX.C hv wv H8 (λp H9=> ∃b,p=vi b/\
 cO.C hv wv H9 (λq u=> ∃a,q=vi a/\
 (a≠0)/\
 eN.C hv wv b (tmod (yF .i64 nv 65535) a) v u (λo ae=> ∃d,o=vi d/\
 R (vi d) ae)))))))))
set_option maxRecDepth 100000 in
theorem eM.link{wv nv v:Int}(h:pt d wv nv v H R):C d wv nv v H R:=by
 refine sa K0 67 func71 ?_
 intro w0 Q hQ
 unfold pt at h
 refine nx [(0,vp d),(1,vu wv),(2,vi nv),(3,vu v)]<|ar 0<|eT 1 [] []<|ar 1<|eT 3 [2] [(2,vi (yF .i64 nv 65535))]<|ge<|p0 0<|ar 2<|eH 2 [] [(12,vp d),(13,vu wv)]<|sv 14 [12,13] h λx H1 h=>eH 1 [14] [(15,.bool x)]<|iX [(0,vp d),(1,vu wv),(2,vi (yF .i64 nv 65535)),(3,vu v),(11,.bool (x && ((yF .i64 (yF .i64 nv 65535) 1)==0)))] ?_ ?_
 ·refine aC<|qx h (λc3 h=>?_) (λc3 h=>?_)
  ·exact aJ 11 c3<|ar 3<|va 3 [(20,vp d),(21,vu wv),(22,vu v)]<|zo 23 (λm=>[(23,vi m)]) h λm H2 h=>kb 1 [8] [vi m] hQ h
  refine aK 11 (zZ c3)<|ar 4<|va 2 [(0,vp d),(1,vu wv),(2,vi (yF .i64 nv 65535)),(3,vu v),(25,vp d),(26,vu wv)]<|sv 27 [25,26] h λf H3 h=>eT 1 [27] [(24,.bool f)]<|qx h (λc5 h=>?_) (λc5 h=>?_)
  ·exact aJ 24 c5<|ar 5<|va 3 [(28,vp d),(29,vu wv),(30,vu v)]<|zo 31 (λn=>[(31,vi n)]) h λn H4 h=>kb 1 [8] [vi n] hQ h
  refine aK 24 (zZ c5)<|ar 6<|eH 2 [24] [(33,vp d),(34,vu wv)]<|sv 35 [33,34] h λe H5 h=>eH 2 [35] [(37,.bool (e==0))]<|qx h (λc7 h=>?_) (λc7 h=>?_)
  ·exact o0 37 (zK c7)<|eT 18 [37] [(32,VT)]<|wc 32<|ar 7<|kb 1 [8] [vi 3] hQ h
  refine o0 37 (zJ c7)<|eH 2 [] [(38,vp d),(39,vu wv)]<|sv 40 [38,39] h λi H6 h=>eH 3 [37,40] [(43,.bool (i==0))]<|qx h (λc9 h=>?_) (λc9 h=>?_)
  ·exact o0 43 (zK c9)<|eT 12 [43] [(32,VT)]<|wc 32<|ar 7<|kb 1 [8] [vi 3] hQ h
  refine o0 43 (zJ c9)<|eH 2 [] [(44,vp d),(45,vu wv)]<|sv 46 [44,45] h λj H7 h=>eH 3 [43,46] [(49,.bool (j==2))]<|qx h (λc11 h=>?_) (λc11 h=>?_)
  ·exact o0 49 (zK c11)<|eT 6 [49] [(32,VT)]<|wc 32<|ar 7<|kb 1 [8] [vi 3] hQ h
  refine o0 49 (zJ c11)<|eH 2 [] [(50,vp d),(51,vu wv)]<|sv 52 [50,51] h λg H8 h=>eT 3 [49,52] [(32,.bool (g==10))]<|qx h (λc13 h=>?_) (λc13 h=>?_)
  ·exact aJ 32 (zK c13)<|ar 7<|kb 1 [8] [vi 3] hQ h
  refine aK 32 (zJ c13)<|zp<|aA<|aC<|ar 8<|eH 4 [32] [(55,vp d),(56,vu wv),(57,vp d),(58,vu wv)]<|sv 59 [57,58] h λb H9 h=>eH 3 [0,1,2] [(60,vi (yF .i64 nv 65535)),(61,vp d),(62,vu wv)]<|zC (some 63) h ?_;clear h
  rintro q u ⟨a,rfl,h⟩
  exact kc [61,62] [(63,vi a)]<|have⟨q15,h⟩:=h;zd 64 (Ap .rem 3 (vi (yF .i64 nv 65535)) (vi a)) (vi (tmod (yF .i64 nv 65535) a)) (λw _=>uy (P:=prog) (t:=3) (k:=.i64) (x:=(yF .i64 nv 65535)) (y:=a) q15 w) [60,63]<|eH 1 [3] [(65,vu v)]<|zo 66 (λhv=>[(66,vi hv)]) h λhv ae h=>kb 1 [8] [vi hv] hQ h
 refine λhk=>Ac [(0,vp d),(1,vu wv),(2,vi (yF .i64 nv 65535)),(3,vu v),(15,.bool x)] ?_
 by_cases c1:x=true
 ·have b2:x=true:=c1
  exact cD [(0,vp d),(1,vu wv),(2,vi (yF .i64 nv 65535)),(3,vu v),(15,VT)] (by rw[b2])<|eH 5 [15] [(11,.bool ((yF .i64 (yF .i64 nv 65535) 1)==0))]<|zq<|xl 11 (b:=((yF .i64 (yF .i64 nv 65535) 1)==0)) (v:=(x && ((yF .i64 (yF .i64 nv 65535) 1)==0))) (by simp only[b2,BL])<|hk
 have b2:x=false:=zZ c1
 exact cD [(0,vp d),(1,vu wv),(2,vi (yF .i64 nv 65535)),(3,vu v),(15,VF)] (by rw[b2])<|eH 5 [15] [(11,VF)]<|zq<|xl 11 (b:=false) (v:=(x && ((yF .i64 (yF .i64 nv 65535) 1)==0))) (by simp only[b2,BL])<|hk
namespace cX
def K0:=EP Tryz.f24
def K2:=cb K0
def K3:=ca K2
def K4:=cb K2
def K6:=cb K4
def K8:=cb K6
def K9:=ca K8
def zy:=cb K9
def Aq:=ca zy
def Bs:=cb Aq
def Aa:=cb Bs
def Aw:=cb Aa
def Av:=cb Aw
def Ae:=cb Av
def AO:=ca Ae
end cX
def cX.pt(hv:zW)(aw z xN ay af ax ag:Int)(a1:zW)(az a0:Nat)(e:zW)(a d:Nat)(H:zV)(R:zv):=
 ∀b H1,b=H.size->H1=H.push (.cells #[vi aw,vi z,vi xN,vu ay,vi af,vu ax,vi ag,vs a1 az a0] 68)->
 ∃xW s,aL H1 ((ad b).add 3) 0 [vu xW,vi s]/\
 ∃o k,aL H1 ((ad b).add 5) 0 [vu o,vi k]/\
 bC.C xW s e a d H1 (λv H2=> ∃x,v=vu x/\aL H2 ((ad b).add 5) 0 [vu o,vi k]/\
 bC.C o k e a d H2 (λbd H3=> ∃g,bd=vu g/\
 ∃f,hat H3 (ad b)=some (vi f)/\
 if f=0 then(
 fQ.C hv x g H3 (λbh H4=> ∃ra rb,bh=.tuple #[vu ra,vi rb]/\
 if rb=0 then(
 ∀ao H5,ao=H4.size->H5=H4.push (.cells #[vu ra] 28)->
 bH 1 28 8 [vu 0] e a d (some (ad ao)) 1 H5 (λap am H6=>
 R (vs ap (a+1) am) H6))
 else
 R (vs e a d) H4))
 else
 if f=1 then(
 fR.C hv x g H3 (λa6 H7=> ∃n q,a6=.tuple #[vu n,vi q]/\
 if q=0 then(
 ∀aq H8,aq=H7.size->H8=H7.push (.cells #[vu n] 28)->
 bH 1 28 8 [vu 0] e a d (some (ad aq)) 1 H8 (λae y H9=>
 R (vs ae (a+1) y) H9))
 else
 R (vs e a d) H7))
 else
 if f=2 then(
 ∃aa,hat H3 ((ad b).add 1)=some (vi aa)/\
 ∃xB m xC,hat H3 ((ad b).add 7)=some (vs xB m xC)/\
 dW.C aa H3 (λa9 a4=> ∃al,a9=vi al/\aL a4 ((ad b).add 7) 0 [vs xB m xC]/\
 dG.C xB m xC e a d a4 (λbc be=> ∃ah ak aj,bc=vs ah ak aj/\
 fP.C hv al 0 ah ak aj be (λba a3=> ∃i j,ba=.tuple #[vu i,vi j]/\
 if j=0 then(
 ∀au H13,au=a3.size->H13=a3.push (.cells #[vu i] 28)->
 bH 1 28 8 [vu 0] e a d (some (ad au)) 1 H13 (λab t a8=>
 R (vs ab (a+1) t) a8))
 else
 R (vs e a d) a3))))
 else
 if f=3 then(
 ∃ai,hat H3 ((ad b).add 2)=some (vi ai)/\
 eM.C hv x ai g H3 (λbf a7=> ∃bg,bf=vi bg/\
 R (vs e a d) a7))
 else
 if f=4 then(
 ∀an H16,an=H3.size->H16=H3.push (.cells #[vu 20,vu 20] 28)->
 fP.C hv 10 0 (some (ad an)) 2 2 H16 (λa5 a2=> ∃p r,a5=.tuple #[vu p,vi r]/\
 if r=0 then(
 ∀av H18,av=a2.size->H18=a2.push (.cells #[vu p] 28)->
 bH 1 28 8 [vu 0] e a d (some (ad av)) 1 H18 (λac u bb=>
 R (vs ac (a+1) u) bb))
 else
 R (vs e a d) a2))
 else
 R (vs e a d) H3))
set_option maxRecDepth 100000 in
theorem cX.link{ay af ax ag:Int}{e:zW}{a a0:Nat}(h:pt d i j u ay af ax ag r k o e a a0 H R):C d i j u ay af ax ag r k o e a a0 H R:=by
 refine sa K0 76 func24 ?_
 intro w0 Q hQ
 unfold pt at h
 refine nx [(0,vp d),(1,.agg #[vi i,vi j,vi u,vu ay,vi af,vu ax,vi ag,vs r k o]),(2,vs e a a0)]<|ar 0<|t1 (some 4) (λb=>vp (pa b)) (.cells #[vi i,vi j,vi u,vu ay,vi af,vu ax,vi ag,vs r k o] 68)<|λb H1 e1 e2=>have h:=h b H1 e1 e2;kc [1] [(4,vp (pa b))]<|eT 1 [] []<|ge ?_
 obtain⟨xW,s,q3,z,xN,q4,h⟩:=h
 refine yq 1 (Code.ops K3) [(3,((ad b).add 3),[vu xW,vi s]),(7,((ad b).add 5),[vu z,vi xN])] 10 (bv 10 0) (show aE _ _ _ from⟨q3,q4,EO⟩)<|zr 0 (some 11) (Vq ((ad b).add 3)) (bv 10 1) [(0,vp d),(2,vs e a a0),(4,vp (pa b)),(11,Vq ((ad b).add 3))]<|kT 1 12 (.agg #[vu xW,vi s]) (bv 10 3) [11] (aQ 65 (Vq ((ad b).add 3))) (lJ 3 (λ_=>by kernel_rfl) (λ_=>by kernel_rfl) yX (.inl (by kernel_rfl)))<|aG 2 13 (vs e a a0) (bv 10 7) []<|aG 4 15 (Vq ((ad b).add 5)) (bv 10 23) []<|kT 5 16 (.agg #[vu z,vi xN]) (bv 10 55) [15] (aQ 65 (Vq ((ad b).add 5))) (lJ 7 (λ_=>by kernel_rfl) (λ_=>by kernel_rfl) yQ (.inl (by kernel_rfl)))<|aG 6 17 (vs e a a0) (bv 10 119) []<|yx 3 (some 14) (bv 10 127) 68 #[.agg #[vu xW,vi s],vs e a a0] h ?_;clear h
 rintro v H2 ⟨x,rfl,f5,h⟩
 refine⟨[(0,vp d),(2,vs e a a0),(4,vp (pa b)),(14,vu x),(16,.agg #[vu z,vi xN]),(17,vs e a a0)],pk,(show aE _ _ _ from⟨EO,f5,EO⟩),?_⟩
 refine yx 7 (some 18) (bv 10 255) 68 #[.agg #[vu z,vi xN],vs e a a0] h ?_;clear h
 rintro bd H3 ⟨g,rfl,h⟩
 refine⟨[(0,vp d),(2,vs e a a0),(4,vp (pa b)),(14,vu x),(18,vu g)],pk,(show aE _ _ _ from⟨EO,EO,EO⟩),?_⟩
 refine zB 8 (some 7) (vu x) (bv 10 511) [(0,vp d),(2,vs e a a0),(4,vp (pa b)),(7,vu x),(18,vu g)] (pure (.value (vu x)):Sem Next) (λ_ _ _ _ _=>rfl)<|kT 9 8 (vu g) (bv 10 1023) [18] (pure (.value (vu g)):Sem Next) (λ_ _ _ _ _=>rfl)<|eq [(0,vp d),(2,vs e a a0),(4,vp (pa b)),(7,vu x),(8,vu g)] sk<|yz<|aC<|ar 2<|u5 1 [(0,vp d),(2,vs e a a0),(4,vp (pa b)),(7,vu x),(8,vu g),(9,vu 0)]<|ar 3<|eT 1 [] [(10,vi 1)]<|ge<|ar 4<|eH 1 [] [(19,vp (pa b))]<|have⟨f,q6,h⟩:=h;hH 20 3 q6 [19]<|yH<|p0 0<|ar 5<|eT 2 [] [(21,.bool (f==0))]<|qx h (λc7 h=>?_) (λc7 h=>?_)
 ·refine aJ 21 (zK c7)<|oo 6<|va 3 [(2,vs e a a0),(24,vp d),(25,vu x),(26,vu g)]<|zI 27 (λra rb=>[(2,vs e a a0),(27,.tuple #[vu ra,vi rb])]) h λra rb H4 h=>eH 5 [27] [(9,vu ra),(10,vi rb)]<|zq<|aA<|aC<|ge<|ar 15<|eT 2 [10] [(70,.bool (rb==0))]<|qx h (λc9 h=>?_) (λc9 h=>?_)
  ·refine aJ 70 (zK c9)<|oo 16<|va 2 [(71,vs e a a0),(72,vu ra)]<|t1 (some 73) (λb=>vs (pa b) 1 1) (.cells #[vu ra] 28) ?_
   intro ao H5 e11 e12
   replace h:=h ao H5 e11 e12
   refine kc [72] [(73,vs (pa ao) 1 1)]<|zi (some 74) (cF #[32,32] 32 #[vs e a a0,vs (pa ao) 1 1]) _ (λ_=>by kernel_rfl) (bJ (T:=28) (sz:=1) (bytes:=8) (zero:=(vu 0:Value)) CO CO rfl (show prog.info? 28=some t28 from by kernel_rfl) (by kernel_rfl) (by kernel_rfl) (by decide) (by kernel_rfl) (by first | exact h | (simpa only[Value.cells,C9]using h))) ?_;clear h
   rintro _ H6 ⟨ap,am,rfl,h⟩
   refine⟨[(74,vs ap (a+1) am)],pk,?_⟩
   exact u5 1 [(2,vs ap (a+1) am)]<|ar 17<|kb 2 [6] [vs ap (a+1) am] hQ h
  exact aK 70 (zJ c9)<|nc<|ar 17<|kb 2 [6] [vs e a a0] hQ h
 refine aK 21 (zJ c7)<|ar 7<|eT 2 [21] [(30,.bool (f==1))]<|qx h (λc13 h=>?_) (λc13 h=>?_)
 ·refine aJ 30 (zK c13)<|oo 8<|va 3 [(2,vs e a a0),(33,vp d),(34,vu x),(35,vu g)]<|zI 36 (λn q=>[(2,vs e a a0),(36,.tuple #[vu n,vi q])]) h λn q H7 h=>eH 5 [36] [(9,vu n),(10,vi q)]<|zq<|aA<|aC<|ge<|ar 15<|eT 2 [10] [(70,.bool (q==0))]<|qx h (λc15 h=>?_) (λc15 h=>?_)
  ·refine aJ 70 (zK c15)<|oo 16<|va 2 [(71,vs e a a0),(72,vu n)]<|t1 (some 73) (λb=>vs (pa b) 1 1) (.cells #[vu n] 28) ?_
   intro aq H8 e17 e18
   replace h:=h aq H8 e17 e18
   refine kc [72] [(73,vs (pa aq) 1 1)]<|zi (some 74) (cF #[32,32] 32 #[vs e a a0,vs (pa aq) 1 1]) _ (λ_=>by kernel_rfl) (bJ (T:=28) (sz:=1) (bytes:=8) (zero:=(vu 0:Value)) CO CO rfl (show prog.info? 28=some t28 from by kernel_rfl) (by kernel_rfl) (by kernel_rfl) (by decide) (by kernel_rfl) (by first | exact h | (simpa only[Value.cells,C9]using h))) ?_;clear h
   rintro _ H9 ⟨ae,y,rfl,h⟩
   refine⟨[(74,vs ae (a+1) y)],pk,?_⟩
   exact u5 1 [(2,vs ae (a+1) y)]<|ar 17<|kb 2 [6] [vs ae (a+1) y] hQ h
  exact aK 70 (zJ c15)<|nc<|ar 17<|kb 2 [6] [vs e a a0] hQ h
 refine aK 30 (zJ c13)<|ar 9<|eT 2 [30] [(39,.bool (f==2))]<|qx h (λc19 h=>?_) (λc19 h=>?_)
 ·refine aJ 39 (zK c19) ?_
  obtain⟨aa,q21,xB,m,xC,q22,h⟩:=h
  refine yq 10 (Code.ops AO) [(3,((ad b).add 1),[vi aa]),(7,((ad b).add 7),[vs xB m xC])] 14 (bv 14 0) (show aE _ _ _ from⟨⟨q21,EO⟩,⟨q22,EO⟩,EO⟩)<|zr 0 (some 42) (vp d) (bv 14 1) [(2,vs e a a0),(4,vp (pa b)),(9,vu 0),(10,vi 1),(42,vp d)]<|aG 1 43 (Vq ((ad b).add 1)) (bv 14 3) []<|kT 2 44 (vi aa) (bv 14 7) [43] (aQ 3 (Vq ((ad b).add 1))) (yY 3 yX)<|aG 4 46 (Vq ((ad b).add 7)) (bv 14 23) [4]<|kT 5 47 (vs xB m xC) (bv 14 55) [46] (aQ 66 (Vq ((ad b).add 7))) (yY 7 yQ)<|aG 6 48 (vs e a a0) (bv 14 119) []<|yx 3 (some 45) (bv 14 127) 69 #[vi aa] h ?_;clear h
  rintro a9 a4 ⟨al,rfl,f23,h⟩
  refine⟨[(2,vs e a a0),(9,vu 0),(10,vi 1),(42,vp d),(45,vi al),(47,vs xB m xC),(48,vs e a a0)],pk,(show aE _ _ _ from⟨EO,f23,EO⟩),?_⟩
  refine yx 7 (some 49) (bv 14 255) 70 #[vs xB m xC,vs e a a0] h ?_;clear h
  rintro bc be ⟨ah,ak,aj,rfl,h⟩
  refine⟨[(2,vs e a a0),(9,vu 0),(10,vi 1),(42,vp d),(45,vi al),(49,vs ah ak aj)],pk,(show aE _ _ _ from⟨EO,EO,EO⟩),?_⟩
  refine yx 8 (some 50) (bv 14 511) 10 #[vp d,vi al,vu 0,vs ah ak aj] h ?_;clear h
  rintro ba a3 ⟨az,a1,rfl,h⟩
  refine⟨[(2,vs e a a0),(9,vu 0),(10,vi 1),(50,.tuple #[vu az,vi a1])],pk,(show aE _ _ _ from⟨EO,EO,EO⟩),?_⟩
  refine zB 9 (some 41) (.tuple #[vu az,vi a1]) (bv 14 1023) [(2,vs e a a0),(9,vu 0),(10,vi 1),(41,.tuple #[vu az,vi a1])] (pure (.value (.tuple #[vu az,vi a1])):Sem Next) (λ_ _ _ _ _=>rfl)<|kT 10 51 (vu az) (bv 14 2047) [] (pure (.value (vu az)):Sem Next) (λ_ _ _ _ _=>rfl)<|kT 11 52 (vi a1) (bv 14 4095) [41] (pure (.value (vi a1)):Sem Next) (λ_ _ _ _ _=>rfl)<|kT 12 9 (vu az) (bv 14 8191) [9,51] (pure (.value (vu az)):Sem Next) (λ_ _ _ _ _=>rfl)<|kT 13 10 (vi a1) (bv 14 16383) [10,52] (pure (.value (vi a1)):Sem Next) (λ_ _ _ _ _=>rfl)<|eq [(2,vs e a a0),(9,vu az),(10,vi a1)] sk<|yz<|aA<|aC<|ge<|ar 15<|u5 2 [(2,vs e a a0),(9,vu az),(70,.bool (a1==0))]<|qx h (λc24 h=>?_) (λc24 h=>?_)
  ·refine aJ 70 (zK c24)<|oo 16<|va 2 [(71,vs e a a0),(72,vu az)]<|t1 (some 73) (λb=>vs (pa b) 1 1) (.cells #[vu az] 28) ?_
   intro au H13 e26 e27
   replace h:=h au H13 e26 e27
   refine kc [72] [(73,vs (pa au) 1 1)]<|zi (some 74) (cF #[32,32] 32 #[vs e a a0,vs (pa au) 1 1]) _ (λ_=>by kernel_rfl) (bJ (T:=28) (sz:=1) (bytes:=8) (zero:=(vu 0:Value)) CO CO rfl (show prog.info? 28=some t28 from by kernel_rfl) (by kernel_rfl) (by kernel_rfl) (by decide) (by kernel_rfl) (by first | exact h | (simpa only[Value.cells,C9]using h))) ?_;clear h
   rintro _ a8 ⟨ab,t,rfl,h⟩
   refine⟨[(74,vs ab (a+1) t)],pk,?_⟩
   exact u5 1 [(2,vs ab (a+1) t)]<|ar 17<|kb 2 [6] [vs ab (a+1) t] hQ h
  exact aK 70 (zJ c24)<|nc<|ar 17<|kb 2 [6] [vs e a a0] hQ h
 refine aK 39 (zJ c19)<|ar 11<|eT 2 [39] [(53,.bool (f==3))]<|qx h (λc28 h=>?_) (λc28 h=>?_)
 ·refine aJ 53 (zK c28)<|oo 12<|eH 3 [0,4,7,20,53] [(55,vp d),(56,vu x),(57,Vq ((ad b).add 2))] ?_
  obtain⟨ai,q30,h⟩:=h
  refine hH 58 3 q30 [57]<|eH 1 [8] [(59,vu g)]<|zC (some 60) h ?_;clear h
  rintro bf a7 ⟨bg,rfl,h⟩
  exact kc [55,56,58,59] []<|zq<|aA<|aC<|ge<|ar 15<|eT 2 [10] [(70,VF)]<|yL 70<|nc<|ar 17<|kb 2 [6] [vs e a a0] hQ h
 refine aK 53 (zJ c28)<|ar 13<|eT 2 [4,7,8,20,53] [(61,.bool (f==4))]<|qx h (λc31 h=>?_) (λc31 h=>?_)
 ·refine aJ 61 (zK c31)<|oo 14<|va 1 [(2,vs e a a0),(64,vp d)]<|t1 (some 65) (λb=>vs (pa b) 2 2) (.cells #[vu 20,vu 20] 28)<|λan H16 e33 e34=>have h:=h an H16 e33 e34;kc [] [(65,vs (pa an) 2 2)]<|yT 66 [64,65] h λp aw a2 h=>eH 5 [66] [(9,vu p),(10,vi aw)]<|zq<|aA<|aC<|ge<|ar 15<|eT 2 [10] [(70,.bool (aw==0))]<|qx h (λc35 h=>?_) (λc35 h=>?_)
  ·refine aJ 70 (zK c35)<|oo 16<|va 2 [(71,vs e a a0),(72,vu p)]<|t1 (some 73) (λb=>vs (pa b) 1 1) (.cells #[vu p] 28) ?_
   intro av H18 e37 e38
   replace h:=h av H18 e37 e38
   refine kc [72] [(73,vs (pa av) 1 1)]<|zi (some 74) (cF #[32,32] 32 #[vs e a a0,vs (pa av) 1 1]) _ (λ_=>by kernel_rfl) (bJ (T:=28) (sz:=1) (bytes:=8) (zero:=(vu 0:Value)) CO CO rfl (show prog.info? 28=some t28 from by kernel_rfl) (by kernel_rfl) (by kernel_rfl) (by decide) (by kernel_rfl) (by first | exact h | (simpa only[Value.cells,C9]using h))) ?_;clear h
   rintro _ bb ⟨ac,hv,rfl,h⟩
   refine⟨[(74,vs ac (a+1) hv)],pk,?_⟩
   exact u5 1 [(2,vs ac (a+1) hv)]<|ar 17<|kb 2 [6] [vs ac (a+1) hv] hQ h
  exact aK 70 (zJ c35)<|nc<|ar 17<|kb 2 [6] [vs e a a0] hQ h
 exact aK 61 (zJ c31)<|zp<|aA<|aC<|ge<|ar 15<|eT 2 [0,10,61] [(70,VF)]<|yL 70<|nc<|ar 17<|kb 2 [6] [vs e a a0] hQ h
namespace iC
def K0:=EP Tryz.f38
def K2:=cb K0
def K4:=cb K2
def zy:=cb K4
def Ab:=cb zy
def Al:=cb Ab
def AP:=ca Al
def AW:=cb AP
def AM:=ca AW
def AH:=ca AM
end iC
def iC.pt(hv:zW)(g o:Int)(j:zW)(b d:Nat)(H:zV)(R:zv):=
 eU hv (
 R (vi 1) H) (λe=>
 lD.C (some e) H (λv H1=> ∃x,v=vi x/\
 iZ.C (some e) g o x H1 (λan H2=> ∃ra rb,an=.tuple #[vp ra,vi rb]/\
 if rb=0 then(
 ∃(ag:zw) (m27:Int->zV->Nat),ag 0 H2/\ ∀n H3,ag n H3->
 if n< (b:Int)then(
 ∃m,j=some m/\
 yZ n b/\
 ∃aa,hat H3 (m.add (Int.toNat n*1))=some (vp aa)/\
 eU aa (
 (ag (zY (n+1)) H3/\m27 (zY (n+1)) H3<m27 n H3)) (λp=>
 ∃ah,hat H3 p=some (vu ah)/\
 bA.C ra ah H3 (λap H4=> ∃af,ap=vu af/\
 (aH H4 p 0 1)/\ ∀H5,H5=aP H4 p [vu af] 0->
 (ag (zY (n+1)) H5/\m27 (zY (n+1)) H5<m27 n H3))))
 else
 dP.C ra H3 (λ_ H6=>
 cW.C ra H6 (λ_ H7=>
 ∃xB xN xC,hat H7 (e.add 2)=some (vs xB xN xC)/\
 jo.C ra xB xN xC H7 (λam H8=> ∃r q y,am=vs r q y/\
 (aH H8 (e.add 2) 0 1)/\ ∀H9,H9=aP H8 (e.add 2) [vs r q y] 0->
 jp.C ra H9 (λ_ ak=>
 ∃ab ae ac,hat ak (e.add 1)=some (vs ab ae ac)/\
 jK.C ra ab ae ac ak (λao aj=> ∃u s z,ao=vs u s z/\
 (aH aj (e.add 1) 0 1)/\ ∀ai,ai=aP aj (e.add 1) [vs u s z] 0->
 dI.CD ra ai (λal=>
 R (vi 0) al)))))))
 else
 R (vi rb) H2)))
theorem iC.link(h:pt d i j r k o H R):C d i j r k o H R:=by
 refine sa K0 68 func38 ?_
 intro w0 Q hQ
 unfold pt zY at h
 refine nx [(0,vp d),(1,vi i),(2,vi j),(3,vs r k o)]<|ar 0<|eT 1 [] []<|ge<|ar 1<|eH 1 [] [(13,vp d)] ?_
 rcases d with _ | e
 ·rw[CP]at h
  exact eT 1 [0,13] [(0,vp none),(14,VT)]<|wc 14<|ar 2<|kb 1 [8] [vi 1] hQ h
 rw[CK]at h
 refine eT 1 [0,13] [(0,Vq e),(14,VF)]<|yL 14<|nc<|ar 3<|eH 4 [1,2,14] [(16,Vq e),(17,vi i),(18,vi j),(19,Vq e)]<|sv 20 [19] h λx H1 h=>yT 21 [16,17,18,20] h λra rb H2 h=>eT 5 [21] [(9,vp ra),(10,vi rb)]<|ge<|ar 4<|eT 2 [] [(25,.bool (rb !=0))]<|qx h (λc1 h=>?_) (λc1 h=>?_)
 ·refine aK 25 (CX.mpr c1)<|nc<|ar 6<|eH 1 [10,25] [(27,vp ra)]<|wV none 16 #[vp ra] (λ_=>by kernel_rfl) [(0,Vq e),(3,vs r k o),(9,vp ra)] pk<|yH<|ge<|ar 7<|u5 3 [(0,Vq e),(9,vp ra),(28,vs r k o),(29,vi k),(30,vi 0)]<|p0 0<|have⟨ag,m27,i3,i4⟩:=h;bL (x:=AH) (σ:=Int) (λs_=> [(0,Vq e),(9,vp ra),(28,vs r k o),(29,vi k),(30,vi s_)]) (λs_ H=>ag s_ H) (λs_ H=>m27 s_ H) (0:Int) (by kernel_rfl) i3 sk ?_
  rintro n H3 i5
  have h:=i4 n H3 i5
  refine nx [(0,Vq e),(9,vp ra),(28,vs r k o),(29,vi k),(30,vi n)]<|ar 8<|eT 1 [] [(31,.bool (decide (n< (k:Int))))]<|ge<|qx h (λc6 h=>?_) (λc6 h=>?_)
  ·refine aJ 31 (zX c6)<|nc<|ge<|p0 1<|ar 9<|yS [31] [] ?_
   obtain⟨m,rfl,q8,ha⟩:=h
   refine yI (some 32) 90 91 1 m k o .i64 n underlying90 q8.1 q8.2 [28] [(28,vs (some m) k o),(32,Vq (m.add (Int.toNat n*1)))]<|have⟨aa,q9,h⟩:=ha;hH 33 91 q9 [32]<|eT 1 [33] [(12,vp aa)]<|ar 10<|eH 1 [] [(34,vp aa)] ?_
   rcases aa with _ | p
   ·rw[CP]at h
    exact eT 1 [12,34] [(12,vp none),(35,VF)]<|yL 35<|zp<|aA<|aC<|oo 12<|eT 2 [12,30,35] [(30,vi (zY (n+1)))]<|aR ((zY (n+1)):Int) sk h
   rw[CK]at h
   exact eT 1 [12,34] [(12,Vq p),(35,VT)]<|wc 35<|oo 11<|eH 4 [12,35] [(36,Vq p),(37,vp ra),(39,Vq p)]<|have⟨ah,q10,h⟩:=h;hH 40 28 q10 [39]<|sv 41 [37,40] h λaf H4 h=>eH 1 [36] [(42,Vq p)]<|have⟨q12,h⟩:=h;eQ 28 (vu af) q12<|λH5 e11=>have h:=h H5 e11;kc [41,42] []<|zq<|aA<|aC<|oo 12<|eT 2 [30] [(30,vi (zY (n+1)))]<|aR ((zY (n+1)):Int) sk h
  refine aK 31 (zQ c6)<|zk 0<|aB<|aB<|aN<|aC<|ar 13<|eH 1 [28,29,30,31] [(44,vp ra)]<|zC (some 45) h ?_;clear h
  intro v_4 H6 h
  refine kc [44] []<|yH<|ar 14<|eH 1 [] [(46,vp ra)]<|zC (some 47) h ?_;clear h
  refine λv_5 H7 h=>kc [46] []<|yH<|ar 15<|eH 5 [] [(48,Vq e),(49,vp ra),(52,Vq (e.add 2))]<|have⟨xB,xN,xC,q13,h⟩:=h;hH 53 31 q13 [52]<|zO 54 [49,53] h λb q y H8 h=>eH 2 [48] [(56,Vq (e.add 2))]<|have⟨q15,h⟩:=h;eQ 31 (vs b q y) q15 ?_
  intro H9 e14
  replace h:=h H9 e14
  refine kc [54,56] []<|yH<|ar 16<|eH 1 [] [(57,vp ra)]<|zC (some 58) h ?_;clear h
  refine λv_7 ak h=>kc [57] []<|yH<|ar 17<|va 5 [(59,Vq e),(60,vp ra),(63,Vq (e.add 1))]<|have⟨ab,ae,ac,q16,h⟩:=h;hH 64 32 q16 [63]<|zO 65 [60,64] h λu s z aj h=>eH 2 [59] [(67,Vq (e.add 1))]<|have⟨q18,h⟩:=h;eQ 32 (vs u s z) q18<|λai e17=>have h:=h ai e17;⟨[],pk,?_⟩
  refine yH<|ar 18<|u5 1 [(8,vi 0)]<|zx ?_
  show At _ _ _ _ _ (Q .ret)
  refine wW (f:=16) (args:= #[vp ra]) (DU func16 (by kernel_rfl) rfl) hQ (HD.mono (h) (λal h=>?_))
  exact⟨[vi 0],(show bV _ _ _ [.tmp 8] _ from .tmp (by kernel_rfl) (.nil)),h⟩
 exact aJ 25 (CY.mpr c1)<|ar 5<|kb 2 [8] [vi rb] hQ h
def lD.K0:=EP f82
def lD.pt(hv:zW)(H:zV)(R:zv):=
 ∃a,hv=some a/\
 ∃xB xN xC,hat H (a.add 2)=some (vs xB xN xC)/\
 R (vi (zY ((zY (tdiv (xN:Int) 32))+1))) H
theorem lD.link(h:pt d H R):C d H R:=by
 refine sa K0 10 func82 ?_
 intro w0 Q hQ
 unfold pt zY at h
 refine nx [(0,vp d)]<|ar 0<|eT 1 [] []<|ar 1<|va 1 [(3,vp d)] ?_
 obtain⟨a,rfl,ha⟩:=h
 exact va 2 [(5,Vq (a.add 2))]<|have⟨xB,xN,xC,q1,h⟩:=ha;hH 6 31 q1 [5]<|kb 4 [2] [vi (zY ((zY (tdiv (xN:Int) 32))+1))] hQ h
namespace gY
def K0:=EP f136
def K2:=cb K0
def K8:=cb K2
def K9:=ca K8
def zS:=ca K9
def zy:=cb zS
def Ab:=cb zy
def Aa:=ca Ab
def Ar:=ca Aa
def AP:=cb Ar
def Bf:=cb AP
def AM:=cb Bf
def AH:=ca AM
def Aw:=ca AH
end gY
def gY.pt(e:Value)(aj:zW)(H:zV)(R:zv):=
 ∃d,aj=some d/\
 ∃x,hat H d=some (vp x)/\
 iV.C x H (λv H1=> ∃ai,v=.bool ai/\
 if ai=true then(
 R (.tuple #[]) H1)
 else
 ∃aq,hat H1 d=some (vp aq)/\
 ∃au,aq=some au/\
 ∃av,hat H1 au=some (vp av)/\
 ∃ay,av=some ay/\
 ∃ao,hat H1 ay=some (vp ao)/\
 ∃aw,ao=some aw/\
 ∃al,hat H1 aw=some (vp al)/\
 cH.C al none 0 0 H1 (λa8 H2=> ∃xB xN xC,a8=vs xB xN xC/\
 ∃(ak:zw) (m11:Int->zV->Nat),ak 0 H2/\ ∀f H3,ak f H3->
 if f< (xN:Int)then(
 ∃g,xB=some g/\
 yZ f xN/\
 ∃j,hat H3 (g.add (Int.toNat f*1))=some (vi j)/\
 ∃ax,hat H3 d=some (vp ax)/\
 ∃az,ax=some az/\
 ∃an,hat H3 az=some (vp an)/\
 ∃ap,an=some ap/\
 ∃ah,hat H3 ap=some (vp ah)/\
 ∃ag,ah=some ag/\
 ∃ab,hat H3 ag=some (vp ab)/\
 bB.C ab j H3 (λa3 H4=> ∃u s ac q r o p rb,a3=.tuple #[.agg #[vi u,vi s,vi ac,vi q,vi r,vi o,vi p],.bool rb]/\
 ∀b H5,b=H4.size->H5=H4.push (.cells #[vi 0,vi 0,vi 0,vi 0,vi 0,vi 0,vi 0] 108)->
 (aH H5 (ad b) 0 7)/\ ∀H6,H6=aP H5 (ad b) [vi u,vi s,vi ac,vi q,vi r,vi o,vi p] 0->
 ∃(a0:zw) (m28:Int->zV->Nat),a0 0 H6/\ ∀m H7,a0 m H7->
 ∃z,hat H7 ((ad b).add 2)=some (vi z)/\
 if m<z then(
 ∃af,hat H7 ((ad b).add 1)=some (vi af)/\
 jM.C af H7 (λa2 H8=> ∃ae,a2=vi ae/\
 jT.C ae (zY ((zY (j*64))+m)) H8 (λa5 H9=> ∃ra a1,a5=.tuple #[vu ra,vi a1]/\
 ∃aa,hat H9 d=some (vp aa)/\
 bO.C aa ra H9 (λa7 a4=> ∃n,a7=vi n/\
 FC prog e #[vu ra,vi n] a4 (λa6 am=> ∃y,a6=.bool y/\
 if y=true then(
 if n=0 then(
 (ak (zY (f+1)) am/\m11 (zY (f+1)) am<m11 f H3))
 else
 (a0 (zY (m+n)) am/\m28 (zY (m+n)) am<m28 m H7))
 else
 R (.tuple #[]) am)))))
 else
 (ak (zY (f+1)) H7/\m11 (zY (f+1)) H7<m11 f H3)))
 else
 R (.tuple #[]) H3))
theorem gY.link{e:Value}(h:pt e d H R):C e d H R:=by
 refine sa K0 73 func136 ?_
 intro w0 Q hQ
 unfold pt zY at h
 refine nx [(0,e),(1,vp d)]<|ge<|ar 0 ?_
 obtain⟨aj,rfl,x,q1,ha⟩:=h
 refine As (some 11) 23 q1 [1] [(1,Vq aj),(11,vp x)]<|sv 12 [11] ha λai H1 h=>yH<|qx h (λc2 h=>?_) (λc2 h=>?_)
 ·exact aJ 12 c2<|hX [] [] hQ h
 refine aK 12 (zZ c2)<|nc<|ar 1<|yS [12] []<|have⟨aq,q4,h⟩:=h;hH 13 23 q4 [] ?_
 obtain⟨au,rfl,hb⟩:=h
 refine eH 2 [13] [(15,Vq au)]<|have⟨av,q5,h⟩:=hb;hH 16 49 q5 [15] ?_
 obtain⟨ay,rfl,hc⟩:=h
 refine eH 2 [16] [(18,Vq ay)]<|have⟨ao,q6,h⟩:=hc;hH 19 52 q6 [18] ?_
 obtain⟨aw,rfl,hd⟩:=h
 refine eH 2 [19] [(21,Vq aw)]<|have⟨al,q7,h⟩:=hd;hH 22 78 q7 [21]<|zO 23 [22] h λxB xN xC H2 h=>eT 2 [] [(24,vi xN),(25,vi 0)]<|p0 0<|have⟨ak,m11,i8,i9⟩:=h;bL (x:=zS) (σ:=Int) (λs_=> [(0,e),(1,Vq aj),(23,vs xB xN xC),(24,vi xN),(25,vi s_)]) (λs_ H=>ak s_ H) (λs_ H=>m11 s_ H) (0:Int) (by kernel_rfl) i8 sk ?_
 rintro f H3 i10
 have h:=i9 f H3 i10
 refine nx [(0,e),(1,Vq aj),(23,vs xB xN xC),(24,vi xN),(25,vi f)]<|ar 2<|eT 1 [] [(26,.bool (decide (f< (xN:Int))))]<|ge<|qx h (λc11 h=>?_) (λc11 h=>?_)
 ·refine aJ 26 (zX c11)<|nc<|ge<|p0 1<|ar 3<|yS [26] [] ?_
  obtain⟨g,rfl,q13,he⟩:=h
  refine yI (some 27) 75 3 1 g xN xC .i64 f C3 q13.1 q13.2 [23] [(23,vs (some g) xN xC),(27,Vq (g.add (Int.toNat f*1)))]<|have⟨j,q14,h⟩:=he;hH 28 3 q14 [27]<|eT 1 [28] [(4,vi j)]<|ar 4<|have⟨ax,q15,h⟩:=h;hH 30 23 q15 [] ?_
  obtain⟨az,rfl,hf⟩:=h
  refine eH 2 [30] [(32,Vq az)]<|have⟨an,q16,h⟩:=hf;hH 33 49 q16 [32] ?_
  obtain⟨ap,rfl,hg⟩:=h
  refine eH 2 [33] [(35,Vq ap)]<|have⟨ah,q17,h⟩:=hg;hH 36 52 q17 [35] ?_
  obtain⟨ag,rfl,hh⟩:=h
  refine eH 2 [36] [(38,Vq ag)]<|have⟨ab,q18,h⟩:=hh;hH 39 78 q18 [38]<|eH 1 [] [(40,vi j)]<|zU 41 [39,40] h λu s ac q r o p rb H4 h=>eH 3 [41] [(42,.agg #[vi u,vi s,vi ac,vi q,vi r,vi o,vi p]),(43,.bool rb)]<|t1 (some 5) (λb=>vp (pa b)) (.cells #[vi 0,vi 0,vi 0,vi 0,vi 0,vi 0,vi 0] 108)<|λb H5 e19 e20=>have h:=h b H5 e19 e20;kc [] [(5,vp (pa b))]<|have⟨q22,h⟩:=h;fN 108 [vi u,vi s,vi ac,vi q,vi r,vi o,vi p] q22<|λH6 e21=>have h:=h H6 e21;kc [42] []<|eT 1 [43] []<|ar 5<|eT 1 [] [(7,vi 0)]<|p0 2<|have⟨a0,m28,i23,i24⟩:=h;bL (x:=Aw) (σ:=Int) (λs_=> [(0,e),(1,Vq aj),(4,vi j),(5,vp (pa b)),(7,vi s_),(23,vs (some g) xN xC),(24,vi xN),(25,vi f)]) (λs_ H=>a0 s_ H) (λs_ H=>m28 s_ H) (0:Int) (by kernel_rfl) i23 sk ?_
  rintro m H7 i25
  have h:=i24 m H7 i25
  refine nx [(0,e),(1,Vq aj),(4,vi j),(5,vp (pa b)),(7,vi m),(23,vs (some g) xN xC),(24,vi xN),(25,vi f)]<|ge<|ar 6<|eH 2 [] [(44,vi m),(45,Vq ((ad b).add 2))]<|have⟨z,q26,h⟩:=h;hH 46 3 q26 [45]<|eT 1 [44,46] [(47,.bool (decide (m<z)))]<|qx h (λc27 h=>?_) (λc27 h=>?_)
  ·refine aJ 47 (zX c27)<|nc<|p0 3<|ar 7<|eH 1 [47] [(49,Vq ((ad b).add 1))]<|have⟨af,q29,h⟩:=h;hH 50 3 q29 [49]<|sv 51 [50] h λae H8 h=>eH 4 [] [(55,vi (zY ((zY (j*64))+m)))]<|yT 56 [51,55] h λra a1 H9 h=>eT 5 [56] [(8,vu ra)]<|ar 8 ?_
   obtain⟨aa,q30,h⟩:=h
   refine hH 59 23 q30 []<|eH 1 [] [(60,vu ra)]<|sv 61 [59,60] h λn a4 h=>eT 1 [61] [(10,vi n)]<|ge<|ar 9<|eH 3 [8] [(62,e),(63,vu ra),(64,vi n)]<|na (some 65) e #[vu ra,vi n] (λ_=>by kernel_rfl) h ?_;clear h
   rintro a6 am ⟨y,rfl,h⟩
   refine kc [62,63,64] [(65,.bool y)]<|eT 1 [65] [(66,.bool (!y))]<|qx h (λc31 h=>?_) (λc31 h=>?_)
   ·refine aK 66 (CJ Bool.not (c31))<|nc<|ge<|ar 10<|eT 2 [66] [(68,.bool (n==0))]<|qx h (λc33 h=>?_) (λc33 h=>?_)
    ·exact aJ 68 (zK c33)<|zk 2<|aB<|zj<|aB<|aN<|aA<|aC<|oo 12<|eT 2 [4,5,7,10,25,68] [(25,vi (zY (f+1)))]<|aR ((zY (f+1)):Int) sk h
    exact aK 68 (zJ c33)<|nc<|oo 11<|eH 4 [7,10,68] [(7,vi (zY (m+n)))]<|zq<|aA<|aC<|aR ((zY (m+n)):Int) sk h
   exact aJ 66 (CJ Bool.not (zZ c31))<|hX [] [] hQ h
  exact aK 47 (zQ c27)<|zk 2<|aB<|aB<|aN<|aA<|aC<|oo 12<|eT 2 [4,5,7,25,47] [(25,vi (zY (f+1)))]<|aR ((zY (f+1)):Int) sk h
 exact aK 26 (zQ c11)<|zk 0<|aB<|aB<|aN<|gH (fn:=f136) [] hQ (show bV _ _ _ [] _ from .nil) h
def jM.K0:=EP f137
def jM.pt(a:Int)(H:zV)(R:zv):=
 ∃x,((0<=a/\a< (4:Int))/\(#[vi 1,vi 2,vi 3,vi 3]:Array Value)[Int.toNat a]?=some (vi x))/\
 R (vi x) H
theorem jM.link(h:pt i H R):C i H R:=by
 refine sa K0 6 func137 ?_
 intro w0 Q hQ
 unfold pt at h
 exact nx [(0,vi i)]<|ar 0<|eT 1 [] []<|ar 1<|va 2 [(3,.agg #[vi 1,vi 2,vi 3,vi 3]),(4,vi i)]<|have⟨x,q1,h⟩:=h;zd 5 (mL 79 (.agg #[vi 1,vi 2,vi 3,vi 3]) (vi i)) (vi x) (λw _=>kf (P:=prog) (t:=79) (elem:=3) (n:=4) DN (λ_=>by kernel_rfl) (λ_=>by kernel_rfl) q1.1.1 q1.1.2 q1.2 w) [3,4]<|kb 1 [2] [vi x] hQ h
namespace gZ
def K0:=EP f138
def K2:=cb K0
def K4:=cb K2
def zS:=cb K4
def zy:=cb zS
def An:=cb zy
def Ar:=ca An
def Al:=ca Ar
def Au:=cb Al
def Aw:=ca Au
def Av:=ca Aw
def AS:=ca Av
end gZ
def gZ.pt(d:Value)(y s:zW)(H:zV)(R:zv):=
 ∃b,y=some b/\
 ∃x,hat H b=some (vp x)/\
 ∃a,s=some a/\
 ∃aa,hat H a=some (vu aa)/\
 bX.C x aa H (λv H1=> ∃e,v=vi e/\
 if((e==2) || (e==3))=true then(
 R (.tuple #[]) H1)
 else
 ∃J:zw,(
 if e>0 then(
 J 1 H1)
 else
 J 0 H1)/\ ∀n H2,J n H2->
 ∃(ab:zw) (m21:Int->zV->Nat),ab n H2/\ ∀i H3,ab i H3->
 ∃u,hat H3 b=some (vp u)/\
 ∃z,hat H3 a=some (vu z)/\
 bO.C u z H3 (λaj H4=> ∃t,aj=vi t/\
 if i<t then(
 ∃af,hat H4 b=some (vp af)/\
 ∃j,af=some j/\
 ∃ae,hat H4 j=some (vp ae)/\
 ∃k,ae=some k/\
 ∃ac,hat H4 k=some (vp ac)/\
 ∃g,ac=some g/\
 ∃f,hat H4 g=some (vp f)/\
 ∃p,hat H4 a=some (vu p)/\
 eY.C p H4 (λak H5=> ∃o,ak=vi o/\aL H5 b 0 [Vq j]/\aL H5 j 0 [Vq k]/\aL H5 k 0 [Vq g]/\aL H5 g 0 [vp f]/\
 cG.C f (zY (o+i)) H5 (λag H6=> ∃ra rb,ag=.tuple #[vu ra,vi rb]/\
 ∃r,hat H6 a=some (vu r)/\
 eY.C r H6 (λah H7=> ∃q,ah=vi q/\
 FC prog d #[vi (zY (q+i)),vu ra] H7 (λai H8=> ∃m,ai=.bool m/\
 if m=true then(
 (ab (zY (i+1)) H8/\m21 (zY (i+1)) H8<m21 i H3))
 else
 R (.tuple #[]) H8)))))
 else
 R (.tuple #[]) H4))
theorem gZ.link{s:Value}(h:pt s d r H R):C s d r H R:=by
 refine sa K0 54 func138 ?_
 intro w0 Q hQ
 unfold pt zY at h
 refine nx [(0,s),(1,vp d),(2,vp r)]<|ar 0 ?_
 obtain⟨b,rfl,x,q1,ha⟩:=h
 refine As (some 9) 23 q1 [1] [(1,Vq b),(9,vp x)] ?_
 obtain⟨a,rfl,aa,q2,hb⟩:=ha
 refine As (some 10) 28 q2 [2] [(2,Vq a),(10,vu aa)]<|sv 11 [9,10] hb λe H1 h=>eT 1 [11] [(4,vi e)]<|ge<|ar 1<|iX [(0,s),(1,Vq b),(2,Vq a),(4,vi e),(17,.bool ((e==2) || (e==3)))] ?_ ?_
 ·refine aC<|qx h (λc5 h=>?_) (λc5 h=>?_)
  ·exact aJ 17 c5<|hX [] [] hQ h
  refine aK 17 (zZ c5)<|nc<|ar 2<|u5 1 [(0,s),(1,Vq b),(2,Vq a),(4,vi e),(5,vi 0)]<|ge<|ar 3<|u5 2 [(0,s),(1,Vq b),(2,Vq a),(5,vi 0),(19,.bool (decide (e>0)))]<|have⟨J,h,j8⟩:=h;pD (σ:=Int) (λs_=> [(0,s),(1,Vq b),(2,Vq a),(5,vi s_)]) (λs_ H=>J s_ H) ?_ ?_
  ·refine λn H2 j9=>have h:=j8 n H2 j9;nx [(0,s),(1,Vq b),(2,Vq a),(5,vi n)]<|aC<|ar 5<|eT 2 [5] [(6,vi n)]<|p0 0<|have⟨ab,m21,i10,i11⟩:=h;bL (x:=Al) (σ:=Int) (λs_=> [(0,s),(1,Vq b),(2,Vq a),(6,vi s_)]) (λs_ H=>ab s_ H) (λs_ H=>m21 s_ H) (n:Int) (by kernel_rfl) i10 sk ?_
   rintro i H3 i12
   have h:=i11 i H3 i12
   refine nx [(0,s),(1,Vq b),(2,Vq a),(6,vi i)]<|ge<|ar 6<|eH 1 [] [(21,vi i)]<|have⟨u,q13,h⟩:=h;hH 22 23 q13 []<|have⟨z,q14,h⟩:=h;hH 23 28 q14 []<|sv 24 [22,23] h λt H4 h=>eT 1 [21,24] [(25,.bool (decide (i<t)))]<|qx h (λc15 h=>?_) (λc15 h=>?_)
   ·refine aJ 25 (zX c15)<|nc<|ge<|p0 1<|ge ?_
    obtain⟨af,q17,j,rfl,ae,q18,k,rfl,ac,q19,g,rfl,f,q20,p,q21,hc⟩:=h
    refine yq 8 (Code.ops AS) [(14,b,[Vq j]),(14,j,[Vq k]),(14,k,[Vq g]),(14,g,[vp f]),(11,a,[vu p])] 20 (bv 20 0) (show aE _ _ _ from⟨⟨q17,EO⟩,⟨q18,EO⟩,⟨q19,EO⟩,⟨q20,EO⟩,⟨q21,EO⟩,EO⟩)<|zB 0 (some 29) (Vq j) (bv 20 1) [(0,s),(1,Vq b),(2,Vq a),(6,vi i),(29,Vq j)] (aQ 23 (Vq b)) (yY 14 yX)<|aG 1 30 (Vq j) (bv 20 3) [29]<|aG 2 31 (Vq j) (bv 20 7) [30]<|kT 3 32 (Vq k) (bv 20 15) [31] (aQ 49 (Vq j)) (yY 14 yQ)<|aG 4 33 (Vq k) (bv 20 31) [32]<|aG 5 34 (Vq k) (bv 20 63) [33]<|kT 6 35 (Vq g) (bv 20 127) [34] (aQ 52 (Vq k)) (yY 14 yJ)<|aG 7 36 (Vq g) (bv 20 255) [35]<|aG 8 37 (Vq g) (bv 20 511) [36]<|kT 9 38 (vp f) (bv 20 1023) [37] (aQ 78 (Vq g)) (yY 14 yK)<|kT 10 39 (vu p) (bv 20 2047) [] (aQ 28 (Vq a)) (yY 11 yV)<|aG 12 41 (vi i) (bv 20 6143) []<|yx 11 (some 40) (bv 20 8191) 116 #[vu p] hc ?_;clear hc
    rintro ak H5 ⟨o,rfl,f22,f23,f24,f25,h⟩
    refine⟨[(0,s),(1,Vq b),(2,Vq a),(6,vi i),(38,vp f),(40,vi o),(41,vi i)],pk,(show aE _ _ _ from⟨f22,f23,f24,f25,EO,EO⟩),?_⟩
    refine zB 13 (some 42) (vi (zY (o+i))) (bv 20 16383) [(0,s),(1,Vq b),(2,Vq a),(6,vi i),(38,vp f),(42,vi (zY (o+i)))] (pure (.value (vi (zY (o+i)))):Sem Next) (λ_ _ _ _ _=>rfl)<|yx 14 (some 43) (bv 20 32767) 33 #[vp f,vi (zY (o+i))] h ?_;clear h
    rintro ag H6 ⟨ra,rb,rfl,h⟩
    refine⟨[(0,s),(1,Vq b),(2,Vq a),(6,vi i),(43,.tuple #[vu ra,vi rb])],pk,(show aE _ _ _ from⟨EO,EO,EO,EO,EO,EO⟩),?_⟩
    refine zB 15 (some 28) (.tuple #[vu ra,vi rb]) (bv 20 65535) [(0,s),(1,Vq b),(2,Vq a),(6,vi i),(28,.tuple #[vu ra,vi rb])] (pure (.value (.tuple #[vu ra,vi rb])):Sem Next) (λ_ _ _ _ _=>rfl)<|kT 16 44 (vu ra) (bv 20 131071) [] (pure (.value (vu ra)):Sem Next) (λ_ _ _ _ _=>rfl)<|kT 17 45 (vi rb) (bv 20 262143) [28] (pure (.value (vi rb)):Sem Next) (λ_ _ _ _ _=>rfl)<|kT 18 7 (vu ra) (bv 20 524287) [44] (pure (.value (vu ra)):Sem Next) (λ_ _ _ _ _=>rfl)<|Ck 19 (some 8) (vi rb) (bv 20 1048575) [45] [] (pure (.value (vi rb)):Sem Next) (λ_ _ _ _ _=>rfl)<|eq [(0,s),(1,Vq b),(2,Vq a),(6,vi i),(7,vu ra)] sk<|yz<|aC<|ar 9<|va 1 [(0,s),(1,Vq b),(2,Vq a),(6,vi i),(7,vu ra),(46,s)] ?_
    obtain⟨y,q26,h⟩:=h
    refine hH 47 28 q26 []<|sv 48 [47] h λq H7 h=>eH 3 [7,48] [(50,vi (zY (q+i))),(51,vu ra)]<|na (some 52) s #[vi (zY (q+i)),vu ra] (λ_=>by kernel_rfl) h ?_;clear h
    rintro ai H8 ⟨m,rfl,h⟩
    refine kc [46,50,51] [(52,.bool m)]<|eT 1 [52] [(53,.bool (!m))]<|qx h (λc27 h=>?_) (λc27 h=>?_)
    ·exact aK 53 (CJ Bool.not (c27))<|zp<|aA<|aC<|oo 7<|eT 3 [6,53] [(6,vi (zY (i+1)))]<|aR ((zY (i+1)):Int) sk h
    exact aJ 53 (CJ Bool.not (zZ c27))<|hX [] [] hQ h
   exact aK 25 (zQ c15)<|zk 0<|aB<|aB<|aN<|gH (fn:=f138) [] hQ (show bV _ _ _ [] _ from .nil) h
  revert h;refine Bo (λc29 h=>?_) (λc29 h=>?_)
  ·have b30:(decide (e>0))=true:=zX c29
   refine iT [(0,s),(1,Vq b),(2,Vq a),(5,vi 0),(19,VT)] (by simp only[b30,Da,C5]) ?_
   clear b30
   exact wc 19<|oo 4<|eT 1 [5,19] [(5,vi 1)]<|lr (1:Int) sk h
  have b30:(decide (e>0))=false:=zQ c29
  refine iT [(0,s),(1,Vq b),(2,Vq a),(5,vi 0),(19,VF)] (by simp only[b30,Da,C5]) ?_
  clear b30
  exact yL 19<|nc<|lr (0:Int) sk h
 refine λhk=>va 3 [(0,s),(1,Vq b),(2,Vq a),(4,vi e),(14,.bool (e==2))] ?_
 by_cases c3:e=2
 ·have b4:(e==2)=true:=zK c3
  exact cD [(0,s),(1,Vq b),(2,Vq a),(4,vi e),(14,VT)] (by rw[b4])<|eH 3 [14] [(17,VT)]<|zq<|xl 17 (b:=true) (v:=((e==2) || (e==3))) (by simp only[b4,BL])<|hk
 have b4:(e==2)=false:=zJ c3
 exact cD [(0,s),(1,Vq b),(2,Vq a),(4,vi e),(14,VF)] (by rw[b4])<|eH 3 [14] [(17,.bool (e==3))]<|zq<|xl 17 (b:=(e==3)) (v:=((e==2) || (e==3))) (by simp only[b4,BL])<|hk
def cZ.K0:=EP f81
def cZ.pt(a i:Int)(H:zV)(R:zv):=
 (0<=(tmod i 32))/\
 R (.bool ((yF .u32 (zc .u32 a (tmod i 32)) 1)==1)) H
set_option maxRecDepth 100000 in
theorem cZ.link(h:pt i j H R):C i j H R:=by
 refine sa K0 11 func81 ?_
 intro w0 Q hQ
 unfold pt at h
 exact nx [(0,.int .u32 i),(1,vi j)]<|ar 0<|eT 1 [] []<|ar 1<|va 3 [(5,.int .u32 i),(7,vi (tmod j 32))]<|have⟨q1,h⟩:=h;zd 8 (Ap .shr 60 (.int .u32 i) (vi (tmod j 32))) (.int .u32 (zc .u32 i (tmod j 32))) (λw _=>uz (P:=prog) (t:=60) (k:=.u32) (k':=.i64) (x:=i) (y:=(tmod j 32)) q1 w) [5,7]<|kb 3 [4] [.bool ((yF .u32 (zc .u32 i (tmod j 32)) 1)==1)] hQ h
namespace dR
def K0:=EP Tryz.f35
def K2:=cb K0
def K4:=cb K2
def zy:=cb K4
def Aq:=ca zy
def Ay:=cb Aq
def Aa:=ca Ay
def An:=ca Aa
def Al:=cb An
def AM:=ca Al
def Aw:=ca AM
def Av:=cb Aw
def Ae:=cb Av
def AO:=ca Ae
def Af:=ca AO
end dR
def dR.pt(lB:zW)(lN lC:Nat)(H:zV)(R:zv):=
 if(lN:Int)>12 then(
 R VT H)
 else
 ∃(z:Int->zw) (m19:Int->Int->zV->Nat),z 0 0 H/\ ∀nv i H1,z nv i H1->
 if i< (lN:Int)then(
 ∃b,lB=some b/\
 yZ i lN/\
 ∃xB xN xC,hat H1 ((b.add (Int.toNat i*6)).add 1)=some (vs xB xN xC)/\
 yZ i lN/\
 ∃p e u,hat H1 ((b.add (Int.toNat i*6)).add 2)=some (vs p e u)/\
 ∃(y:Int->zw) (m34:Int->Int->zV->Nat),y (zY (nv+(zY ((xN:Int)+(e:Int))))) 0 H1/\ ∀d k H2,y d k H2->
 yZ i lN/\
 ∃q f r,hat H2 (b.add (Int.toNat i*6))=some (vs q f r)/\
 if((decide (k< (f:Int))) && (decide (d<=400)))=true then(
 yZ i lN/\
 ∃o m n,hat H2 (b.add (Int.toNat i*6))=some (vs o m n)/\
 ∃j,o=some j/\
 yZ k m/\
 ∃s g v,hat H2 ((j.add (Int.toNat k*8)).add 7)=some (vs s g v)/\
 (y (zY (d+(zY (1+(zY (tdiv (g:Int) 8)))))) (zY (k+1)) H2/\m34 (zY (d+(zY (1+(zY (tdiv (g:Int) 8)))))) (zY (k+1)) H2<m34 d k H2))
 else
 (z d (zY (i+1)) H2/\m19 d (zY (i+1)) H2<m19 nv i H1))
 else
 R (.bool (decide (nv>400))) H1
set_option maxRecDepth 100000 in
theorem dR.link(h:pt d k o H R):C d k o H R:=by
 refine sa K0 60 func35 ?_
 intro w0 Q hQ
 unfold pt zY at h
 refine nx [(0,vs d k o)]<|ar 0<|eT 1 [] []<|ge<|ar 1<|eT 3 [] [(8,.bool (decide ((k:Int)>12)))]<|qx h (λc1 h=>?_) (λc1 h=>?_)
 ·exact aJ 8 (zX c1)<|ar 2<|kb 1 [2] [VT] hQ h
 refine aK 8 (zQ c1)<|nc<|ar 3<|eT 1 [8] [(3,vi 0)]<|ge<|ar 4<|eT 1 [] [(4,vi 0)]<|p0 0<|have⟨z,m19,i3,i4⟩:=h;bL (x:=An) (σ:=Int×Int) (λs_=> [(0,vs d k o),(3,vi s_.1),(4,vi s_.2)]) (λs_ H=>z s_.1 s_.2 H) (λs_ H=>m19 s_.1 s_.2 H) ((0,0):Int×Int) (by kernel_rfl) i3 sk ?_
 rintro⟨nv,i⟩ H1 i5
 have h:=i4 nv i H1 i5
 refine nx [(0,vs d k o),(3,vi nv),(4,vi i)]<|ge<|ar 5<|eT 4 [] [(12,.bool (decide (i< (k:Int))))]<|qx h (λc6 h=>?_) (λc6 h=>?_)
 ·refine aJ 12 (zX c6)<|nc<|ge<|p0 1<|ge<|qV 7<|u8 15 (vi nv) [3,12]<|u8 16 (vs d k o) []<|u8 17 (vi i) [] ?_
  obtain⟨b,rfl,q8,ha⟩:=h
  refine AD (some 18) (bE 85 (vs (some b) k o) (vi i)) (vp (some (b.add (Int.toNat i*6)))) (λ_=>by kernel_rfl) (λw _=>dZ (P:=prog) (t:=85) (elem:=141) (sz:=6) (a:=b) (len:=k) (cap:=o) (k:=.i64) (i:=i) Ez (λ_=>by kernel_rfl) q8.1 q8.2 w) [(0,vs (some b) k o),(4,vi i),(15,vi nv),(18,vp (some (b.add (Int.toNat i*6))))] pk<|BP (some 19) (Vq ((b.add (Int.toNat i*6)).add 1)) [(0,vs (some b) k o),(4,vi i),(15,vi nv),(19,Vq ((b.add (Int.toNat i*6)).add 1))]<|have⟨xB,xN,xC,q9,h⟩:=ha;np (some 20) 59 q9 [19] [(20,vs xB xN xC)]<|u8 21 (vi xN) [20]<|u8 22 (vs (some b) k o) []<|u8 23 (vi i) []<|have⟨q10,h⟩:=h;AD (some 24) (bE 85 (vs (some b) k o) (vi i)) (vp (some (b.add (Int.toNat i*6)))) (λ_=>by kernel_rfl) (λw _=>dZ (P:=prog) (t:=85) (elem:=141) (sz:=6) (a:=b) (len:=k) (cap:=o) (k:=.i64) (i:=i) Ez (λ_=>by kernel_rfl) q10.1 q10.2 w) [(0,vs (some b) k o),(4,vi i),(15,vi nv),(21,vi xN),(24,vp (some (b.add (Int.toNat i*6))))] pk<|BP (some 25) (Vq ((b.add (Int.toNat i*6)).add 2)) [(0,vs (some b) k o),(4,vi i),(15,vi nv),(21,vi xN),(25,Vq ((b.add (Int.toNat i*6)).add 2))]<|have⟨p,e,u,q11,h⟩:=h;np (some 26) 66 q11 [25] [(26,vs p e u)]<|u8 27 (vi e) [26]<|u8 28 (vi (zY ((xN:Int)+(e:Int)))) [21,27]<|u8 29 (vi (zY (nv+(zY ((xN:Int)+(e:Int)))))) [15,28]<|u8 3 (vi (zY (nv+(zY ((xN:Int)+(e:Int)))))) [29]<|ni [(0,vs (some b) k o),(3,vi (zY (nv+(zY ((xN:Int)+(e:Int)))))),(4,vi i)] sk<|AC<|ar 8<|u5 1 [(0,vs (some b) k o),(3,vi (zY (nv+(zY ((xN:Int)+(e:Int)))))),(4,vi i),(5,vi 0)]<|p0 2<|have⟨y,m34,i12,i13⟩:=h;bL (x:=Af) (σ:=Int×Int) (λs_=> [(0,vs (some b) k o),(3,vi s_.1),(4,vi i),(5,vi s_.2)]) (λs_ H=>y s_.1 s_.2 H) (λs_ H=>m34 s_.1 s_.2 H) (((zY (nv+(zY ((xN:Int)+(e:Int))))),0):Int×Int) (by kernel_rfl) i12 sk ?_
  rintro⟨lC,lN⟩ H2 i14
  have h:=i13 lC lN H2 i14
  refine nx [(0,vs (some b) k o),(3,vi lC),(4,vi i),(5,vi lN)]<|ge<|ar 9<|eH 3 [] [(30,vi lN),(31,vs (some b) k o),(32,vi i)]<|have⟨q15,h⟩:=h;yI (some 33) 85 141 6 b k o .i64 i Ez q15.1 q15.2 [31,32] [(33,Vq (b.add (Int.toNat i*6)))]<|eH 1 [33] [(34,Vq (b.add (Int.toNat i*6)))]<|have⟨q,f,r,q16,h⟩:=h;hH 35 58 q16 [34]<|eH 3 [30,35] [(38,.bool (decide (lN< (f:Int))))]<|iX [(0,vs (some b) k o),(3,vi lC),(4,vi i),(5,vi lN),(41,.bool ((decide (lN< (f:Int))) && (decide (lC<=400))))] ?_ ?_
  ·refine aC<|qx h (λc19 h=>?_) (λc19 h=>?_)
   ·refine aJ 41 c19<|nc<|ge<|p0 3<|oo 11<|va 3 [(0,vs (some b) k o),(4,vi i),(5,vi lN),(44,vi lC),(45,vs (some b) k o),(46,vi i)]<|have⟨q21,h⟩:=h;yI (some 47) 85 141 6 b k o .i64 i Ez q21.1 q21.2 [45,46] [(47,Vq (b.add (Int.toNat i*6)))]<|eH 1 [47] [(48,Vq (b.add (Int.toNat i*6)))]<|have⟨lB,m,n,q22,h⟩:=h;hH 49 58 q22 [48]<|eH 1 [] [(50,vi lN)] ?_
    obtain⟨j,rfl,q23,hb⟩:=h
    exact yI (some 51) 58 68 8 j m n .i64 lN underlying58 q23.1 q23.2 [49,50] [(51,Vq (j.add (Int.toNat lN*8)))]<|eH 1 [51] [(52,Vq ((j.add (Int.toNat lN*8)).add 7))]<|have⟨s,g,v,q24,h⟩:=hb;hH 53 66 q24 [52]<|eH 5 [44,53] [(3,vi (zY (lC+(zY (1+(zY (tdiv (g:Int) 8)))))))]<|zq<|aA<|aC<|oo 10<|eT 3 [5] [(5,vi (zY (lN+1)))]<|aR (((zY (lC+(zY (1+(zY (tdiv (g:Int) 8)))))),(zY (lN+1))):Int×Int) sk h
   exact aK 41 (zZ c19)<|zk 2<|aB<|aB<|aN<|aA<|aC<|oo 6<|u5 3 [(0,vs (some b) k o),(3,vi lC),(4,vi (zY (i+1)))]<|aR ((lC,(zY (i+1))):Int×Int) sk h
  refine λhk=>Ac [(0,vs (some b) k o),(3,vi lC),(4,vi i),(5,vi lN),(38,.bool (decide (lN< (f:Int))))] ?_
  by_cases c17:lN< (f:Int)
  ·have b18:(decide (lN< (f:Int)))=true:=zX c17
   exact cD [(0,vs (some b) k o),(3,vi lC),(4,vi i),(5,vi lN),(38,VT)] (by rw[b18])<|eH 3 [38] [(41,.bool (decide (lC<=400)))]<|zq<|xl 41 (b:=(decide (lC<=400))) (v:=((decide (lN< (f:Int))) && (decide (lC<=400)))) (by simp only[b18,BL])<|hk
  have b18:(decide (lN< (f:Int)))=false:=zQ c17
  exact cD [(0,vs (some b) k o),(3,vi lC),(4,vi i),(5,vi lN),(38,VF)] (by rw[b18])<|eH 3 [38] [(41,VF)]<|zq<|xl 41 (b:=false) (v:=((decide (lN< (f:Int))) && (decide (lC<=400)))) (by simp only[b18,BL])<|hk
 exact aK 12 (zQ c6)<|zk 0<|aB<|aB<|aN<|aC<|ar 12<|kb 3 [2] [.bool (decide (nv>400))] hQ h
def bI.K0:=EP f36
def bI.pt(H:zV)(R:zv):=
 lg.C 8 H (λv H1=> ∃ra rb,v=.tuple #[vp ra,vi rb]/\
 if rb=0 then(
 eU ra (
 R VF H1) (λj=>
 fQ.C (some j) 8 20 H1 (λa1 H2=> ∃o au,a1=.tuple #[vu o,vi au]/\
 fR.C (some j) o 20 H2 (λa3 H3=> ∃g aq,a3=.tuple #[vu g,vi aq]/\
 gT.C (some j) H3 (λaw H4=> ∃xB xN xC,aw=vs xB xN xC/\
 ∀b H5,b=H4.size->H5=H4.push (.cells #[vu o,vu g] 28)->
 fI.C (some j) (some (ad b)) 2 2 H5 (λay H6=> ∃q p,ay=.tuple #[vi q,vi p]/\
 ∀ak H7,ak=H6.size->H7=H6.push (.cells #[vu g] 28)->
 fS.C (some j) (some (ad ak)) 1 1 H7 (λa0 H8=> ∃n d m,a0=vs n d m/\
 ∃x,hat H8 j=some (vp x)/\
 ∃xA,x=some xA/\
 ∃ao,hat H8 xA=some (vp ao)/\
 ∃ap,ao=some ap/\
 ∃aj,hat H8 ap=some (vp aj)/\
 bU.C aj 0 17 H8 (λaz H9=> ∃ax,az=vi ax/\
 fI.C (some j) none 0 0 H9 (λa2 aa=> ∃e f,a2=.tuple #[vi e,vi f]/\
 if(xN:Int)=2 then(
 ∃s,xB=some s/\
 yZ 0 xN/\
 ∃ac,hat aa (s.add (Int.toNat 0*1))=some (vu ac)/\
 if ac=o then(
 yZ 1 xN/\
 ∃ae,hat aa (s.add (Int.toNat 1*1))=some (vu ae)/\
 if ae=g then(
 if q=0 then(
 if p=0 then(
 ∀al H11,al=aa.size->H11=aa.push (.cells #[vu g] 28)->
 iE.C (some j) (some (ad al)) 1 1 H11 (λav ag=> ∃ah,av=vi ah/\
 if ah=2 then(
 if(d:Int)=2 then(
 ∃r,n=some r/\
 yZ 1 d/\
 ∃am y an,hat ag ((r.add (Int.toNat 1*5)).add 4)=some (vs am y an)/\
 if(y:Int)=2 then(
 yZ 1 d/\
 ∃ai ab af,hat ag ((r.add (Int.toNat 1*5)).add 4)=some (vs ai ab af)/\
 ∃z,ai=some z/\
 yZ 0 ab/\
 ∃u,hat ag (z.add (Int.toNat 0*1))=some (vi u)/\
 R (.bool (((u==(-1)) && (e==0)) && (f==18))) ag)
 else
 R VF ag)
 else
 R VF ag)
 else
 R VF ag))
 else
 R VF aa)
 else
 R VF aa)
 else
 R VF aa)
 else
 R VF aa)
 else
 R VF aa)))))))))
 else
 R VF H1)
set_option maxRecDepth 100000 in
theorem bI.link(h:pt H R):C H R:=by
 refine sa K0 126 func36 ?_
 intro w0 Q hQ
 unfold pt at h
 refine nx []<|ar 0<|u5 1 []<|ar 1<|zI 14 (λra rb=>[(14,.tuple #[vp ra,vi rb])]) h λra rb H1 h=>u5 5 [(1,vp ra),(2,vi rb)]<|ge<|ar 2<|eH 3 [2] [(19,.bool (rb !=0))]<|qx h (λc1 h=>?_) (λc1 h=>?_)
 ·refine o0 19 (CX.mpr c1)<|eH 1 [] [(20,vp ra)] ?_
  rcases ra with _ | j
  ·rw[CP]at h
   exact u5 2 [(1,vp none),(22,VT)]<|wc 22<|ar 3<|kb 1 [0] [VF] hQ h
  rw[CK]at h
  refine u5 2 [(1,Vq j),(22,VF)]<|yL 22<|nc<|ar 4<|eH 1 [22] [(24,Vq j)]<|yT 25 [24] h λo au H2 h=>eT 5 [25] [(3,vu o)]<|ar 5<|eH 2 [] [(29,Vq j),(30,vu o)]<|yT 31 [29,30] h λg aq H3 h=>eT 5 [31] [(5,vu g)]<|ar 6<|eH 1 [] [(34,Vq j)]<|zO 35 [34] h λxB xN xC H4 h=>eT 1 [35] [(7,vs xB xN xC)]<|ar 7<|eH 3 [] [(37,Vq j),(38,vu o),(39,vu g)]<|t1 (some 40) (λb=>vs (pa b) 2 2) (.cells #[vu o,vu g] 28)<|λb H5 e3 e4=>have h:=h b H5 e3 e4;kc [38,39] [(40,vs (pa b) 2 2)]<|yT 41 [37,40] h λq p H6 h=>eT 5 [41] [(8,vi q),(9,vi p)]<|ar 8<|eH 2 [] [(44,Vq j),(45,vu g)]<|t1 (some 46) (λb=>vs (pa b) 1 1) (.cells #[vu g] 28)<|λak H7 e5 e6=>have h:=h ak H7 e5 e6;kc [45] [(46,vs (pa ak) 1 1)]<|zO 47 [44,46] h λn d m H8 h=>eT 1 [47] [(10,vs n d m)]<|ar 9<|eH 3 [] [(50,Vq j)]<|have⟨x,q7,h⟩:=h;hH 51 49 q7 [50] ?_
  obtain⟨xA,rfl,ha⟩:=h
  refine eH 2 [51] [(53,Vq xA)]<|have⟨ao,q8,h⟩:=ha;hH 54 52 q8 [53] ?_
  obtain⟨ap,rfl,hb⟩:=h
  refine eH 2 [54] [(56,Vq ap)] ?_
  obtain⟨aj,q9,h⟩:=hb
  refine hH 57 78 q9 [56]<|zC (some 58) h ?_;clear h
  rintro az H9 ⟨ax,rfl,h⟩
  refine kc [57] []<|yH<|ar 10<|eH 1 [] [(60,Vq j)]<|yT 61 [60] h λe f aa h=>eT 5 [61] [(11,vi e),(12,vi f)]<|ar 11<|eH 4 [] [(67,.bool ((xN:Int)==2))]<|qx h (λc10 h=>?_) (λc10 h=>?_)
  ·refine o0 67 (zK c10)<|eH 1 [] [(68,vs xB xN xC)] ?_
   obtain⟨s,rfl,q12,hc⟩:=h
   refine yI (some 69) 32 28 1 s xN xC .i64 0 CO q12.1 q12.2 [7,68] [(7,vs (some s) xN xC),(69,Vq (s.add (Int.toNat 0*1)))]<|have⟨ac,q13,h⟩:=hc;hH 70 28 q13 [69]<|eH 4 [3,67,70] [(74,.bool (ac==o))]<|qx h (λc14 h=>?_) (λc14 h=>?_)
   ·refine o0 74 (zK c14)<|eH 1 [7] [(75,vs (some s) xN xC)]<|have⟨q16,h⟩:=h;yI (some 76) 32 28 1 s xN xC .i64 1 CO q16.1 q16.2 [75] [(76,Vq (s.add (Int.toNat 1*1)))]<|have⟨ae,q17,h⟩:=h;hH 77 28 q17 [76]<|eH 4 [74,77] [(81,.bool (ae==g))]<|qx h (λc18 h=>?_) (λc18 h=>?_)
    ·refine o0 81 (zK c18)<|eH 4 [8,81] [(85,.bool (q==0))]<|qx h (λc20 h=>?_) (λc20 h=>?_)
     ·refine o0 85 (zK c20)<|eH 4 [9,85] [(89,.bool (p==0))]<|qx h (λc22 h=>?_) (λc22 h=>?_)
      ·refine o0 89 (zK c22)<|eH 2 [1,5] [(90,Vq j),(91,vu g)]<|t1 (some 92) (λb=>vs (pa b) 1 1) (.cells #[vu g] 28)<|λal H11 e24 e25=>have h:=h al H11 e24 e25;kc [91] [(92,vs (pa al) 1 1)]<|sv 93 [90,92] h λah ag h=>eH 3 [89,93] [(96,.bool (ah==2))]<|qx h (λc26 h=>?_) (λc26 h=>?_)
       ·refine o0 96 (zK c26)<|eH 5 [96] [(101,.bool ((d:Int)==2))]<|qx h (λc28 h=>?_) (λc28 h=>?_)
        ·refine o0 101 (zK c28)<|eH 1 [] [(102,vs n d m)] ?_
         obtain⟨r,rfl,q30,hd⟩:=h
         refine yI (some 103) 144 147 5 r d m .i64 1 underlying144 q30.1 q30.2 [10,102] [(10,vs (some r) d m),(103,Vq (r.add (Int.toNat 1*5)))]<|eH 1 [103] [(104,Vq ((r.add (Int.toNat 1*5)).add 4))]<|have⟨am,y,an,q31,h⟩:=hd;hH 105 75 q31 [104]<|eH 4 [101,105] [(109,.bool ((y:Int)==2))]<|qx h (λc32 h=>?_) (λc32 h=>?_)
         ·refine o0 109 (zK c32)<|eH 1 [10] [(110,vs (some r) d m)]<|have⟨q34,h⟩:=h;yI (some 111) 144 147 5 r d m .i64 1 underlying144 q34.1 q34.2 [110] [(111,Vq (r.add (Int.toNat 1*5)))]<|eH 1 [111] [(112,Vq ((r.add (Int.toNat 1*5)).add 4))]<|have⟨ai,ab,af,q35,h⟩:=h;hH 113 75 q35 [112] ?_
          obtain⟨z,rfl,q36,he⟩:=h
          refine yI (some 114) 75 3 1 z ab af .i64 0 C3 q36.1 q36.2 [113] [(114,Vq (z.add (Int.toNat 0*1)))]<|have⟨u,q37,h⟩:=he;hH 115 3 q37 [114]<|eH 3 [109,115] [(118,.bool (u==(-1)))]<|iX [(0,.bool (((u==(-1)) && (e==0)) && (f==18)))] ?_ ?_
          ·exact aC<|hX [0] [.bool (((u==(-1)) && (e==0)) && (f==18))] hQ h
          refine λhk=>Ac [(11,vi e),(12,vi f),(118,.bool (u==(-1)))] ?_
          by_cases c38:u=(-1)
          ·have b39:(u==(-1))=true:=zK c38
           refine cD [(11,vi e),(12,vi f),(118,VT)] (by rw[b39])<|va 4 [(12,vi f),(122,.bool (e==0))] ?_
           by_cases c40:e=0
           ·have b41:(e==0)=true:=zK c40
            exact cD [(12,vi f),(122,VT)] (by rw[b41])<|va 4 [(0,.bool (f==18))]<|zq<|iT [(0,.bool (((u==(-1)) && (e==0)) && (f==18)))] (by simp only[b39,b41,BL])<|hk
           have b41:(e==0)=false:=zJ c40
           exact cD [(12,vi f),(122,VF)] (by rw[b41])<|va 4 [(0,VF)]<|zq<|iT [(0,.bool (((u==(-1)) && (e==0)) && (f==18)))] (by simp only[b39,b41,BL])<|hk
          have b39:(u==(-1))=false:=zJ c38
          exact cD [(11,vi e),(12,vi f),(118,VF)] (by rw[b39])<|va 8 [(0,VF)]<|zq<|iT [(0,.bool (((u==(-1)) && (e==0)) && (f==18)))] (by simp only[b39,BL])<|hk
         exact o0 109 (zJ c32)<|kb 17 [0] [VF] hQ h
        exact o0 101 (zJ c28)<|kb 25 [0] [VF] hQ h
       exact o0 96 (zJ c26)<|kb 30 [0] [VF] hQ h
      exact o0 89 (zJ c22)<|kb 37 [0] [VF] hQ h
     exact o0 85 (zJ c20)<|kb 41 [0] [VF] hQ h
    exact o0 81 (zJ c18)<|kb 45 [0] [VF] hQ h
   exact o0 74 (zJ c14)<|kb 52 [0] [VF] hQ h
  exact o0 67 (zJ c10)<|kb 59 [0] [VF] hQ h
 exact o0 19 (CY.mpr c1)<|eT 3 [19] [(22,VT)]<|wc 22<|ar 3<|kb 1 [0] [VF] hQ h
namespace dT
def K0:=EP f37
def K2:=cb K0
def K4:=cb K2
def K6:=cb K4
def zy:=cb K6
def Al:=cb zy
def AP:=ca Al
def AW:=cb AP
def AM:=ca AW
def AH:=ca AM
def Bg:=cb AH
def Af:=ca Bg
def AV:=ca Af
def Br:=cb AV
def Bm:=ca Br
def BO:=cb Br
def AN:=cb Bm
def AE:=ca AN
def AG:=ca AE
def K53:=ca BO
def BU:=cb BO
def Ca:=cb K53
def Co:=ca Ca
def K58:=ca Co
def B9:=cb K58
def K65:=ca B9
def Ch:=ca K65
def BA:=ca BU
def BZ:=cb BU
def BX:=cb BA
def Cr:=ca BX
def BQ:=ca Cr
def Ct:=cb BQ
def K80:=ca Ct
def K82:=ca K80
def K84:=cb BZ
def K92:=cb K84
def K93:=ca K92
def K94:=cb K92
def K96:=cb K93
def K97:=ca K96
def K98:=ca K97
def Cy:=cb K98
def CG:=ca Cy
def CB:=ca CG
def Cv:=ca CB
def B3:=cb K94
def Ci:=ca B3
def Cl:=cb B3
def Cm:=cb Ci
def Cq:=ca Cm
def CE:=ca Cq
def CF:=cb Cl
def CA:=cb CF
def Cd:=ca CA
end dT
def dT.pt(a4:Int)(lB:zW)(lN lC:Nat)(H:zV)(R:zv):=
 lg.C a4 H (λv H1=> ∃ra rb,v=.tuple #[vp ra,vi rb]/\
 if rb=0 then(
 eU ra (
 R (.tuple #[vp none,VN,VF]) H1) (λd=>
 ∃(c8:zW->Nat->Nat->zw) (m27:zW->Nat->Nat->Int->zV->Nat),c8 none 0 0 0 H1/\ ∀y madeN madeC i H2,c8 y madeN madeC i H2->
 if i< (lN:Int)then(
 ∃f,lB=some f/\
 yZ i lN/\
 ∃aq au ao ak ai aj aa z ab xG ah ay,aL H2 (f.add (Int.toNat i*6)) 0 [vs aq au ao,vs ak ai aj,vs aa z ab,vi xG,vi ah,.int .u32 ay]/\
 ∀b H3,b=H2.size->H3=H2.push (.cells #[VN,VN,VN,vi 0,vi 0,.int .u32 0] 141)->
 (aH H3 (ad b) 0 6)/\ ∀H4,H4=aP H3 (ad b) [vs aq au ao,vs ak ai aj,vs aa z ab,vi xG,vi ah,.int .u32 ay] 0->
 ∃(c2:zW->Nat->Nat->zw) (m44:zW->Nat->Nat->Int->zV->Nat),c2 y madeN madeC 0 H4/\ ∀e madeN_2 madeC_2 k H5,c2 e madeN_2 madeC_2 k H5->
 ∃xB xN xC,hat H5 (ad b)=some (vs xB xN xC)/\
 if k< (xN:Int)then(
 ∃b6 bk bu,hat H5 (ad b)=some (vs b6 bk bu)/\
 ∃br,b6=some br/\
 yZ k bk/\
 ∃cn bc bz cg b1 ch bx ck cl cj,aL H5 (br.add (Int.toNat k*8)) 0 [vi cn,vi bc,vi bz,vu cg,vi b1,vu ch,vi bx,vs ck cl cj]/\
 cX.C (some d) cn bc bz cg b1 ch bx ck cl cj e madeN_2 madeC_2 H5 (λdx H6=> ∃bq bn bl,dx=vs bq bn bl/\
 (c2 bq bn bl (zY (k+1)) H6/\m44 bq bn bl (zY (k+1)) H6<m44 e madeN_2 madeC_2 k H5)))
 else
 ∃(c0:zw) (m59:Int->zV->Nat),c0 0 H5/\ ∀m H7,c0 m H7->
 ∃cx al cy,hat H7 ((ad b).add 1)=some (vs cx al cy)/\
 if((decide (m< (al:Int))) && (decide ((madeN_2:Int)>0)))=true then(
 ∃s o r,hat H7 (d.add 2)=some (vs s o r)/\
 ∃da a8 bt,hat H7 ((ad b).add 1)=some (vs da a8 bt)/\
 ∃an,da=some an/\
 yZ m a8/\
 ∃xW a0,aL H7 (an.add (Int.toNat m*4)) 0 [vu xW,vi a0]/\
 ∃de a6 bi,hat H7 ((ad b).add 1)=some (vs de a6 bi)/\
 ∃ac,de=some ac/\
 yZ m a6/\
 ∃a5 av,aL H7 ((ac.add (Int.toNat m*4)).add 2) 0 [vu a5,vi av]/\
 bC.C xW a0 e madeN_2 madeC_2 H7 (λdy H8=> ∃x,dy=vu x/\aL H8 (d.add 2) 0 [vs s o r]/\aL H8 ((ad b).add 1) 0 [vs (some ac) a6 bi]/\aL H8 ((ac.add (Int.toNat m*4)).add 2) 0 [vu a5,vi av]/\
 bC.C a5 av e madeN_2 madeC_2 H8 (λd0 H9=> ∃b9,d0=vu b9/\aL H9 (d.add 2) 0 [vs s o r]/\
 ∀cu H10,cu=H9.size->H10=H9.push (.cells #[vu x,vu b9] 36)->aL H10 (d.add 2) 0 [vs s o r]/\
 bH 2 36 16 [vu 0,vu 0] s o r (some (ad cu)) 1 H10 (λap cd dg=>
 (aH dg (d.add 2) 0 1)/\ ∀c4,c4=aP dg (d.add 2) [vs ap (o+1) cd] 0->
 (c0 (zY (m+1)) c4/\m59 (zY (m+1)) c4<m59 m H7)))))
 else
 ∃(c3:zw) (m74:Int->zV->Nat),c3 0 H7/\ ∀n H13,c3 n H13->
 ∃cv bh cz,hat H13 ((ad b).add 2)=some (vs cv bh cz)/\
 if n< (bh:Int)then(
 ∃af q ae,hat H13 (d.add 1)=some (vs af q ae)/\
 ∃cw ax a1,hat H13 ((ad b).add 2)=some (vs cw ax a1)/\
 ∃ag,cw=some ag/\
 yZ n ax/\
 ∃bm a2,aL H13 (ag.add (Int.toNat n*2)) 0 [vu bm,vi a2]/\
 bC.C bm a2 e madeN_2 madeC_2 H13 (λdv dj=> ∃c7,dv=vu c7/\aL dj (d.add 1) 0 [vs af q ae]/\
 ∀cr H15,cr=dj.size->H15=dj.push (.cells #[vu c7] 28)->aL H15 (d.add 1) 0 [vs af q ae]/\
 bH 1 28 8 [vu 0] af q ae (some (ad cr)) 1 H15 (λbo a3 dh=>
 (aH dh (d.add 1) 0 1)/\ ∀c9,c9=aP dh (d.add 1) [vs bo (q+1) a3] 0->
 (c3 (zY (n+1)) c9/\m74 (zY (n+1)) c9<m74 n H13))))
 else
 fI.C (some d) e madeN_2 madeC_2 H13 (λdw dm=> ∃dd bd,dw=.tuple #[vi dd,vi bd]/\
 if bd=0 then(
 ∃(cc:zW->Nat->Nat->zw) (m99:zW->Nat->Nat->Int->zV->Nat),cc none 0 0 0 dm/\ ∀rB rN rC k_4 H19,cc rB rN rC k_4 H19->
 if k_4< (madeN_2:Int)then(
 ∃bs,hat H19 d=some (vp bs)/\
 ∃g,e=some g/\
 yZ k_4 madeN_2/\
 ∃co,hat H19 (g.add (Int.toNat k_4*1))=some (vu co)/\
 eD.C bs co H19 (λdz dt=> ∃p u,dz=.tuple #[vi p,.bool u]/\
 ∃ci,hat dt ((ad b).add 5)=some (.int .u32 ci)/\
 cZ.C ci k_4 dt (λd2 bj=> ∃ce,d2=.bool ce/\
 if ce=true then(
 yZ k_4 madeN_2/\
 ∃cp,hat bj (g.add (Int.toNat k_4*1))=some (vu cp)/\
 ∀cq H22,cq=bj.size->H22=bj.push (.cells #[vu cp] 28)->
 bH 1 28 8 [vu 0] rB rN rC (some (ad cq)) 1 H22 (λb0 a9 dn=>
 (cc b0 (rN+1) a9 (zY (k_4+1)) dn/\m99 b0 (rN+1) a9 (zY (k_4+1)) dn<m99 rB rN rC k_4 H19)))
 else
 if u=true then(
 ∃b5,hat bj ((ad b).add 3)=some (vi b5)/\
 if p>b5 then(
 yZ k_4 madeN_2/\
 ∃b8,hat bj (g.add (Int.toNat k_4*1))=some (vu b8)/\
 ∀ct H24,ct=bj.size->H24=bj.push (.cells #[vu b8] 28)->
 bH 1 28 8 [vu 0] rB rN rC (some (ad ct)) 1 H24 (λb3 be dp=>
 (cc b3 (rN+1) be (zY (k_4+1)) dp/\m99 b3 (rN+1) be (zY (k_4+1)) dp<m99 rB rN rC k_4 H19)))
 else
 (cc rB rN rC (zY (k_4+1)) bj/\m99 rB rN rC (zY (k_4+1)) bj<m99 rB rN rC k_4 H19))
 else
 (cc rB rN rC (zY (k_4+1)) bj/\m99 rB rN rC (zY (k_4+1)) bj<m99 rB rN rC k_4 H19))))
 else
 ∃(cm:zW->Nat->Nat->zw) (m122:zW->Nat->Nat->Int->zV->Nat),cm none 0 0 0 H19/\ ∀pB pN pC k_5 H26,cm pB pN pC k_5 H26->
 if k_5< (rN:Int)then(
 ∃a7,rB=some a7/\
 yZ k_5 rN/\
 ∀cs H27,cs=H26.size->H27=H26.push (.cells #[Vq (a7.add (Int.toNat k_5*1))] 91)->
 bH 1 91 8 [vp none] pB pN pC (some (ad cs)) 1 H27 (λb4 bf dl=>
 (cm b4 (pN+1) bf (zY (k_5+1)) dl/\m122 b4 (pN+1) bf (zY (k_5+1)) dl<m122 pB pN pC k_5 H26)))
 else
 ∃bb,hat H26 ((ad b).add 3)=some (vi bb)/\
 ∃bw,hat H26 ((ad b).add 4)=some (vi bw)/\
 iC.C (some d) bb bw pB pN pC H26 (λd1 dr=> ∃bp,d1=vi bp/\
 ∃J:zW->Nat->Nat->zV->Prop,(
 if bp=0 then(
 J rB rN rC dr)
 else
 J e madeN_2 madeC_2 dr)/\ ∀j madeN_3 madeC_3 H30,J j madeN_3 madeC_3 H30->
 fI.C (some d) j madeN_3 madeC_3 H30 (λdu c5=> ∃db ba,du=.tuple #[vi db,vi ba]/\
 if ba=0 then(
 ∃dc,hat c5 d=some (vp dc)/\
 ∃am,dc=some am/\
 ∃bg,hat c5 am=some (vp bg)/\
 iE.C (some d) j madeN_3 madeC_3 c5 (λdq di=> ∃aw,dq=vi aw/\aL di d 0 [Vq am]/\aL di am 0 [vp bg]/\
 bR.C bg none 0 0 di (λdk df=> ∃az,dk=vi az/\
 if aw>az then(
 R (.tuple #[vp none,VN,VF]) df)
 else
 (c8 j madeN_3 madeC_3 (zY (i+1)) df/\m27 j madeN_3 madeC_3 (zY (i+1)) df<m27 y madeN madeC i H2))))
 else
 R (.tuple #[vp none,VN,VF]) c5)))
 else
 R (.tuple #[vp none,VN,VF]) dm))
 else
 R (.tuple #[Vq d,vs y madeN madeC,VT]) H2))
 else
 R (.tuple #[vp none,VN,VT]) H1)
theorem dT.link(h:pt i d k o H R):C i d k o H R:=by
 refine sa K0 209 func37 ?_
 intro w0 Q hQ
 unfold pt zY at h
 refine nx [(0,vi i),(1,vs d k o)]<|ar 0<|eT 3 [] []<|ar 1<|eH 1 [0] [(26,vi i)]<|yT 27 [26] h λra rb H1 h=>eT 5 [27] [(7,vp ra),(8,vi rb)]<|ge<|ar 2<|eT 2 [8] [(31,.bool (rb !=0))]<|qx h (λc1 h=>?_) (λc1 h=>?_)
 ·refine aK 31 (CX.mpr c1)<|nc<|ge<|ar 4<|eH 1 [31] [(32,vp ra)] ?_
  rcases ra with _ | lC
  ·rw[CP]at h
   exact eT 1 [7,32] [(7,vp none),(33,VT)]<|wc 33<|ar 5<|kb 3 [4,5,6] [vp none,VN,VF] hQ h
  rw[CK]at h
  refine eT 1 [7,32] [(7,Vq lC),(33,VF)]<|yL 33<|nc<|ar 6<|eT 1 [33] [(9,VN)]<|ge<|ar 7<|eT 1 [] [(10,vi 0)]<|p0 0<|have⟨c8,m27,i3,i4⟩:=h;bL (x:=AH) (σ:=zW×Nat×Nat×Int) (λs_=> [(1,vs d k o),(7,Vq lC),(9,vs s_.1 s_.2.1 s_.2.2.1),(10,vi s_.2.2.2)]) (λs_ H=>c8 s_.1 s_.2.1 s_.2.2.1 s_.2.2.2 H) (λs_ H=>m27 s_.1 s_.2.1 s_.2.2.1 s_.2.2.2 H) ((none,0,0,0):zW×Nat×Nat×Int) (by kernel_rfl) i3 sk ?_
  rintro⟨y,madeN,madeC,lN⟩ H2 i5
  have h:=i4 y madeN madeC lN H2 i5
  refine nx [(1,vs d k o),(7,Vq lC),(9,vs y madeN madeC),(10,vi lN)]<|ge<|ar 8<|eT 4 [] [(37,.bool (decide (lN< (k:Int))))]<|qx h (λc6 h=>?_) (λc6 h=>?_)
  ·refine aJ 37 (zX c6)<|nc<|ge<|p0 1<|ar 10<|eH 2 [37] [(40,vs d k o),(41,vi lN)] ?_
   obtain⟨f,rfl,q8,ha⟩:=h
   refine yI (some 42) 85 141 6 f k o .i64 lN Ez q8.1 q8.2 [1,40,41] [(1,vs (some f) k o),(42,Vq (f.add (Int.toNat lN*6)))]<|have⟨aq,au,ao,ak,ai,aj,aa,z,ab,xG,ah,ay,q9,h⟩:=ha;zN 43 141 q9 [42]<|t1 (some 11) (λb=>vp (pa b)) (.cells #[VN,VN,VN,vi 0,vi 0,.int .u32 0] 141)<|λb H3 e10 e11=>have h:=h b H3 e10 e11;kc [] [(11,vp (pa b))]<|have⟨q13,h⟩:=h;fN 141 [vs aq au ao,vs ak ai aj,vs aa z ab,vi xG,vi ah,.int .u32 ay] q13<|λH4 e12=>have h:=h H4 e12;kc [43] []<|yH<|ge<|ar 11<|eT 1 [] [(12,vi 0)]<|p0 2<|have⟨c2,m44,i14,i15⟩:=h;bL (x:=AG) (σ:=zW×Nat×Nat×Int) (λs_=> [(1,vs (some f) k o),(7,Vq lC),(9,vs s_.1 s_.2.1 s_.2.2.1),(10,vi lN),(11,vp (pa b)),(12,vi s_.2.2.2)]) (λs_ H=>c2 s_.1 s_.2.1 s_.2.2.1 s_.2.2.2 H) (λs_ H=>m44 s_.1 s_.2.1 s_.2.2.1 s_.2.2.2 H) ((y,madeN,madeC,0):zW×Nat×Nat×Int) (by kernel_rfl) i14 sk ?_
   rintro⟨e,madeN_2,madeC_2,lB⟩ H5 i16
   have h:=i15 e madeN_2 madeC_2 lB H5 i16
   refine nx [(1,vs (some f) k o),(7,Vq lC),(9,vs e madeN_2 madeC_2),(10,vi lN),(11,vp (pa b)),(12,vi lB)]<|ge<|ar 12<|eH 2 [] [(44,vi lB),(45,vp (pa b))]<|have⟨xB,xN,xC,q17,h⟩:=h;hH 46 58 q17 [45]<|eT 2 [44,46] [(48,.bool (decide (lB< (xN:Int))))]<|qx h (λc18 h=>?_) (λc18 h=>?_)
   ·refine aJ 48 (zX c18)<|nc<|ge<|p0 3<|oo 14<|eH 2 [48] [(51,Vq lC),(52,vp (pa b))]<|have⟨b6,bk,bu,q20,h⟩:=h;hH 53 58 q20 [52]<|eH 1 [] [(54,vi lB)] ?_
    obtain⟨br,rfl,q21,hb⟩:=h
    exact yI (some 55) 58 68 8 br bk bu .i64 lB underlying58 q21.1 q21.2 [53,54] [(55,Vq (br.add (Int.toNat lB*8)))]<|have⟨cn,bc,bz,cg,b1,ch,bx,ck,cl,cj,q22,h⟩:=hb;zN 56 68 q22 [55]<|eH 1 [9] [(57,vs e madeN_2 madeC_2)]<|zO 58 [51,56,57] h λbq bn bl H6 h=>eH 1 [58] [(9,vs bq bn bl)]<|zq<|aA<|aC<|oo 13<|eT 3 [12] [(12,vi (zY (lB+1)))]<|aR ((bq,bn,bl,(zY (lB+1))):zW×Nat×Nat×Int) sk h
   refine aK 48 (zQ c18)<|zk 2<|aB<|aB<|aN<|aC<|ge<|ar 15<|eT 1 [12,48] [(13,vi 0)]<|p0 4<|have⟨c0,m59,i23,i24⟩:=h;bL (x:=K58) (σ:=Int) (λs_=> [(1,vs (some f) k o),(7,Vq lC),(9,vs e madeN_2 madeC_2),(10,vi lN),(11,vp (pa b)),(13,vi s_)]) (λs_ H=>c0 s_ H) (λs_ H=>m59 s_ H) (0:Int) (by kernel_rfl) i23 sk ?_
   rintro m H7 i25
   have h:=i24 m H7 i25
   refine nx [(1,vs (some f) k o),(7,Vq lC),(9,vs e madeN_2 madeC_2),(10,vi lN),(11,vp (pa b)),(13,vi m)]<|ge<|ar 16<|eH 2 [] [(59,vi m),(60,Vq ((ad b).add 1))]<|have⟨cx,al,cy,q26,h⟩:=h;hH 61 59 q26 [60]<|eH 3 [59,61] [(64,.bool (decide (m< (al:Int))))]<|iX [(1,vs (some f) k o),(7,Vq lC),(9,vs e madeN_2 madeC_2),(10,vi lN),(11,vp (pa b)),(13,vi m),(68,.bool ((decide (m< (al:Int))) && (decide ((madeN_2:Int)>0))))] ?_ ?_
   ·refine aC<|qx h (λc29 h=>?_) (λc29 h=>?_)
    ·refine aJ 68 c29<|nc<|ge<|p0 5 ?_
     obtain⟨s,a4,r,q31,da,a8,bt,q32,an,rfl,q33,xW,a0,q34,de,a6,bi,q35,ac,rfl,q36,a5,av,q37,hc⟩:=h
     refine yq 18 (Code.ops Ch) [(23,(lC.add 2),[vs s a4 r]),(12,((ad b).add 1),[vs (some an) a8 bt]),(12,(an.add (Int.toNat m*4)),[vu xW,vi a0]),(20,((ad b).add 1),[vs (some ac) a6 bi]),(20,((ac.add (Int.toNat m*4)).add 2),[vu a5,vi av])] 27 (bv 27 0) (show aE _ _ _ from⟨⟨q31,EO⟩,⟨q32,EO⟩,q34,⟨q35,EO⟩,q37,EO⟩)<|zr 0 (some 71) (vp (some lC)) (bv 27 1) [(1,vs (some f) k o),(7,vp (some lC)),(9,vs e madeN_2 madeC_2),(10,vi lN),(11,vp (pa b)),(13,vi m),(71,vp (some lC))]<|aG 1 72 (vp (some lC)) (bv 27 3) []<|aG 2 73 (vp (some lC)) (bv 27 7) [72]<|aG 3 74 (vp (some (lC.add 2))) (bv 27 15) [73]<|kT 4 75 (vs s a4 r) (bv 27 31) [74] (aQ 31 (vp (some (lC.add 2)))) (yY 23 yX)<|aG 5 76 (vp (some ((ad b).add 1))) (bv 27 63) []<|kT 6 77 (vs (some an) a8 bt) (bv 27 127) [76] (aQ 59 (vp (some ((ad b).add 1)))) (yY 12 yQ)<|aG 7 78 (vi m) (bv 27 255) []<|kT 8 79 (vp (some (an.add (Int.toNat m*4)))) (bv 27 511) [77,78] (bE 59 (vs (some an) a8 bt) (vi m)) (λ_ w _ _ _=>dZ (P:=prog) (t:=59) (elem:=133) (sz:=4) (a:=an) (len:=a8) (cap:=bt) (k:=.i64) (i:=m) underlying59 (λ_=>by kernel_rfl) q33.1 q33.2 w)<|aG 9 80 (vp (some (an.add (Int.toNat m*4)))) (bv 27 1023) [79]<|kT 10 81 (.agg #[vu xW,vi a0]) (bv 27 2047) [80] (aQ 65 (vp (some (an.add (Int.toNat m*4))))) (lJ 12 (λ_=>by kernel_rfl) (λ_=>by kernel_rfl) yJ (.inl (by kernel_rfl)))<|aG 11 82 (vs e madeN_2 madeC_2) (bv 27 4095) []<|aG 13 84 (vp (some ((ad b).add 1))) (bv 27 12287) []<|kT 14 85 (vs (some ac) a6 bi) (bv 27 28671) [84] (aQ 59 (vp (some ((ad b).add 1)))) (yY 20 yK)<|aG 15 86 (vi m) (bv 27 61439) []<|kT 16 87 (vp (some (ac.add (Int.toNat m*4)))) (bv 27 126975) [85,86] (bE 59 (vs (some ac) a6 bi) (vi m)) (λ_ w _ _ _=>dZ (P:=prog) (t:=59) (elem:=133) (sz:=4) (a:=ac) (len:=a6) (cap:=bi) (k:=.i64) (i:=m) underlying59 (λ_=>by kernel_rfl) q36.1 q36.2 w)<|aG 17 88 (vp (some ((ac.add (Int.toNat m*4)).add 2))) (bv 27 258047) [87]<|kT 18 89 (.agg #[vu a5,vi av]) (bv 27 520191) [88] (aQ 65 (vp (some ((ac.add (Int.toNat m*4)).add 2)))) (lJ 20 (λ_=>by kernel_rfl) (λ_=>by kernel_rfl) yV (.inl (by kernel_rfl)))<|aG 19 90 (vs e madeN_2 madeC_2) (bv 27 1044479) []<|yx 12 (some 83) (bv 27 1048575) 68 #[.agg #[vu xW,vi a0],vs e madeN_2 madeC_2] hc ?_;clear hc
     rintro dy H8 ⟨x,rfl,f38,f39,f40,h⟩
     refine⟨[(1,vs (some f) k o),(7,Vq lC),(9,vs e madeN_2 madeC_2),(10,vi lN),(11,vp (pa b)),(13,vi m),(71,Vq lC),(75,vs s a4 r),(83,vu x),(89,.agg #[vu a5,vi av]),(90,vs e madeN_2 madeC_2)],pk,(show aE _ _ _ from⟨f38,EO,EO,f39,f40,EO⟩),?_⟩
     refine yx 20 (some 91) (bv 27 2097151) 68 #[.agg #[vu a5,vi av],vs e madeN_2 madeC_2] h ?_;clear h
     rintro d0 H9 ⟨b9,rfl,f41,h⟩
     refine⟨[(1,vs (some f) k o),(7,Vq lC),(9,vs e madeN_2 madeC_2),(10,vi lN),(11,vp (pa b)),(13,vi m),(71,Vq lC),(75,vs s a4 r),(83,vu x),(91,vu b9)],pk,(show aE _ _ _ from⟨f41,EO,EO,EO,EO,EO⟩),?_⟩
     refine zB 21 (some 92) (.agg #[vu x,vu b9]) (bv 27 4194303) [(1,vs (some f) k o),(7,Vq lC),(9,vs e madeN_2 madeC_2),(10,vi lN),(11,vp (pa b)),(13,vi m),(71,Vq lC),(75,vs s a4 r),(92,.agg #[vu x,vu b9])] (pure (.value (.agg #[vu x,vu b9])):Sem Next) (λ_ _ _ _ _=>rfl)<|mO 22 (some 93) (bv 27 8388607) (λb=>vs (pa b) 1 1) (.cells #[vu x,vu b9] 36) (by kernel_rfl) (λ_=>by kernel_rfl) (by kernel_rfl)<|λcu H10 e43 e44=>have h:=h cu H10 e43 e44;have⟨f42,h⟩:=h;⟨[(1,vs (some f) k o),(7,Vq lC),(9,vs e madeN_2 madeC_2),(10,vi lN),(11,vp (pa b)),(13,vi m),(71,Vq lC),(75,vs s a4 r),(93,vs (pa cu) 1 1)],pk,(show aE _ _ _ from⟨f42,EO,EO,EO,EO,EO⟩),?_⟩
     refine ox 23 (some 94) (bv 27 16777215) (cF #[31,31] 31 #[vs s a4 r,vs (pa cu) 1 1]) _ (by kernel_rfl) (λ_=>by kernel_rfl) (bJ (T:=36) (sz:=2) (bytes:=16) (zero:=(.agg #[vu 0,vu 0]:Value)) D1 D1 rfl (show prog.info? 36=some t36 from by kernel_rfl) (by kernel_rfl) (by kernel_rfl) (by decide) (by kernel_rfl) (by first | exact h | (simpa only[Value.cells,C9]using h))) (by kernel_rfl) ?_;clear h
     rintro _ dg ⟨ap,cd,rfl,h⟩
     refine⟨[(1,vs (some f) k o),(7,Vq lC),(9,vs e madeN_2 madeC_2),(10,vi lN),(11,vp (pa b)),(13,vi m),(71,Vq lC),(94,vs ap (a4+1) cd)],pk,(show aE _ _ _ from⟨EO,EO,EO,EO,EO,EO⟩),?_⟩
     refine zB 24 (some 95) (Vq lC) (bv 27 33554431) [(1,vs (some f) k o),(7,Vq lC),(9,vs e madeN_2 madeC_2),(10,vi lN),(11,vp (pa b)),(13,vi m),(94,vs ap (a4+1) cd),(95,Vq lC)] (pure (.value (Vq lC)):Sem Next) (λ_ _ _ _ _=>rfl)<|kT 25 96 (Vq (lC.add 2)) (bv 27 67108863) [95] (pure (.value (Vq (lC.add 2))):Sem Next) (λ_ _ _ _ _=>rfl)<|have⟨q46,h⟩:=h;fH 26 none (bv 27 134217727) (jJ 31 (Vq (lC.add 2)) (vs ap (a4+1) cd)) (λHz=>Hz=aP dg (lC.add 2) [vs ap (a4+1) cd] 0) (by kernel_rfl) (λ_=>by kernel_rfl) (iR [vs ap (a4+1) cd] 1 (by kernel_rfl) (by kernel_rfl) (λ_=>by kernel_rfl) (by kernel_rfl) q46) (by kernel_rfl)<|λc4 e45=>have h:=h c4 e45;⟨[(1,vs (some f) k o),(7,Vq lC),(9,vs e madeN_2 madeC_2),(10,vi lN),(11,vp (pa b)),(13,vi m)],pk,(show aE _ _ _ from⟨EO,EO,EO,EO,EO,EO⟩),?_⟩
     exact eq [(1,vs (some f) k o),(7,Vq lC),(9,vs e madeN_2 madeC_2),(10,vi lN),(11,vp (pa b)),(13,vi m)] sk<|yz<|aA<|aC<|oo 17<|u5 3 [(1,vs (some f) k o),(7,Vq lC),(9,vs e madeN_2 madeC_2),(10,vi lN),(11,vp (pa b)),(13,vi (zY (m+1)))]<|aR ((zY (m+1)):Int) sk h
    refine aK 68 (zZ c29)<|zk 4<|aB<|aB<|aN<|aC<|ge<|ar 19<|u5 1 [(1,vs (some f) k o),(7,Vq lC),(9,vs e madeN_2 madeC_2),(10,vi lN),(11,vp (pa b)),(14,vi 0)]<|p0 6<|have⟨c3,m74,i47,i48⟩:=h;bL (x:=BQ) (σ:=Int) (λs_=> [(1,vs (some f) k o),(7,Vq lC),(9,vs e madeN_2 madeC_2),(10,vi lN),(11,vp (pa b)),(14,vi s_)]) (λs_ H=>c3 s_ H) (λs_ H=>m74 s_ H) (0:Int) (by kernel_rfl) i47 sk ?_
    rintro n H13 i49
    have h:=i48 n H13 i49
    refine nx [(1,vs (some f) k o),(7,Vq lC),(9,vs e madeN_2 madeC_2),(10,vi lN),(11,vp (pa b)),(14,vi n)]<|ge<|ar 20<|eH 2 [] [(97,vi n),(98,Vq ((ad b).add 2))]<|have⟨cv,bh,cz,q50,h⟩:=h;hH 99 66 q50 [98]<|eT 2 [97,99] [(101,.bool (decide (n< (bh:Int))))]<|qx h (λc51 h=>?_) (λc51 h=>?_)
    ·refine aJ 101 (zX c51)<|nc<|ge<|p0 7 ?_
     obtain⟨af,q,ae,q53,cw,ax,a1,q54,ag,rfl,q55,bm,a2,q56,hd⟩:=h
     refine yq 22 (Code.ops K82) [(13,(lC.add 1),[vs af q ae]),(11,((ad b).add 2),[vs (some ag) ax a1]),(11,(ag.add (Int.toNat n*2)),[vu bm,vi a2])] 17 (bv 17 0) (show aE _ _ _ from⟨⟨q53,EO⟩,⟨q54,EO⟩,q56,EO⟩)<|zr 0 (some 104) (vp (some lC)) (bv 17 1) [(1,vs (some f) k o),(7,vp (some lC)),(9,vs e madeN_2 madeC_2),(10,vi lN),(11,vp (pa b)),(14,vi n),(104,vp (some lC))]<|aG 1 105 (vp (some lC)) (bv 17 3) []<|aG 2 106 (vp (some lC)) (bv 17 7) [105]<|aG 3 107 (vp (some (lC.add 1))) (bv 17 15) [106]<|kT 4 108 (vs af q ae) (bv 17 31) [107] (aQ 32 (vp (some (lC.add 1)))) (yY 13 yX)<|aG 5 109 (vp (some ((ad b).add 2))) (bv 17 63) []<|kT 6 110 (vs (some ag) ax a1) (bv 17 127) [109] (aQ 66 (vp (some ((ad b).add 2)))) (yY 11 yQ)<|aG 7 111 (vi n) (bv 17 255) []<|kT 8 112 (vp (some (ag.add (Int.toNat n*2)))) (bv 17 511) [110,111] (bE 66 (vs (some ag) ax a1) (vi n)) (λ_ w _ _ _=>dZ (P:=prog) (t:=66) (elem:=65) (sz:=2) (a:=ag) (len:=ax) (cap:=a1) (k:=.i64) (i:=n) underlying66 (λ_=>by kernel_rfl) q55.1 q55.2 w)<|kT 9 113 (.agg #[vu bm,vi a2]) (bv 17 1023) [112] (aQ 65 (vp (some (ag.add (Int.toNat n*2))))) (lJ 11 (λ_=>by kernel_rfl) (λ_=>by kernel_rfl) yJ (.inl (by kernel_rfl)))<|aG 10 114 (vs e madeN_2 madeC_2) (bv 17 2047) []<|yx 11 (some 115) (bv 17 4095) 68 #[.agg #[vu bm,vi a2],vs e madeN_2 madeC_2] hd ?_;clear hd
     rintro dv dj ⟨c7,rfl,f57,h⟩
     refine⟨[(1,vs (some f) k o),(7,Vq lC),(9,vs e madeN_2 madeC_2),(10,vi lN),(11,vp (pa b)),(14,vi n),(104,Vq lC),(108,vs af q ae),(115,vu c7)],pk,(show aE _ _ _ from⟨f57,EO,EO,EO⟩),?_⟩
     refine mO 12 (some 116) (bv 17 8191) (λb=>vs (pa b) 1 1) (.cells #[vu c7] 28) (by kernel_rfl) (λ_=>by kernel_rfl) (by kernel_rfl)<|λcr H15 e59 e60=>have h:=h cr H15 e59 e60;have⟨f58,h⟩:=h;⟨[(1,vs (some f) k o),(7,Vq lC),(9,vs e madeN_2 madeC_2),(10,vi lN),(11,vp (pa b)),(14,vi n),(104,Vq lC),(108,vs af q ae),(116,vs (pa cr) 1 1)],pk,(show aE _ _ _ from⟨f58,EO,EO,EO⟩),?_⟩
     refine ox 13 (some 117) (bv 17 16383) (cF #[32,32] 32 #[vs af q ae,vs (pa cr) 1 1]) _ (by kernel_rfl) (λ_=>by kernel_rfl) (bJ (T:=28) (sz:=1) (bytes:=8) (zero:=(vu 0:Value)) CO CO rfl (show prog.info? 28=some t28 from by kernel_rfl) (by kernel_rfl) (by kernel_rfl) (by decide) (by kernel_rfl) (by first | exact h | (simpa only[Value.cells,C9]using h))) (by kernel_rfl) ?_;clear h
     rintro _ dh ⟨bo,a3,rfl,h⟩
     refine⟨[(1,vs (some f) k o),(7,Vq lC),(9,vs e madeN_2 madeC_2),(10,vi lN),(11,vp (pa b)),(14,vi n),(104,Vq lC),(117,vs bo (q+1) a3)],pk,(show aE _ _ _ from⟨EO,EO,EO,EO⟩),?_⟩
     refine zB 14 (some 118) (Vq lC) (bv 17 32767) [(1,vs (some f) k o),(7,Vq lC),(9,vs e madeN_2 madeC_2),(10,vi lN),(11,vp (pa b)),(14,vi n),(117,vs bo (q+1) a3),(118,Vq lC)] (pure (.value (Vq lC)):Sem Next) (λ_ _ _ _ _=>rfl)<|kT 15 119 (Vq (lC.add 1)) (bv 17 65535) [118] (pure (.value (Vq (lC.add 1))):Sem Next) (λ_ _ _ _ _=>rfl)<|have⟨q62,h⟩:=h;fH 16 none (bv 17 131071) (jJ 32 (Vq (lC.add 1)) (vs bo (q+1) a3)) (λHz=>Hz=aP dh (lC.add 1) [vs bo (q+1) a3] 0) (by kernel_rfl) (λ_=>by kernel_rfl) (iR [vs bo (q+1) a3] 1 (by kernel_rfl) (by kernel_rfl) (λ_=>by kernel_rfl) (by kernel_rfl) q62) (by kernel_rfl)<|λc9 e61=>have h:=h c9 e61;⟨[(1,vs (some f) k o),(7,Vq lC),(9,vs e madeN_2 madeC_2),(10,vi lN),(11,vp (pa b)),(14,vi n)],pk,(show aE _ _ _ from⟨EO,EO,EO,EO⟩),?_⟩
     exact eq [(1,vs (some f) k o),(7,Vq lC),(9,vs e madeN_2 madeC_2),(10,vi lN),(11,vp (pa b)),(14,vi n)] sk<|yz<|aA<|aC<|oo 21<|u5 3 [(1,vs (some f) k o),(7,Vq lC),(9,vs e madeN_2 madeC_2),(10,vi lN),(11,vp (pa b)),(14,vi (zY (n+1)))]<|aR ((zY (n+1)):Int) sk h
    refine aK 101 (zQ c51)<|zk 6<|aB<|aB<|aN<|aC<|ge<|ar 23<|eH 2 [14,101] [(121,Vq lC),(122,vs e madeN_2 madeC_2)]<|yT 123 [121,122] h λdd bd dm h=>eT 5 [123] [(16,vi bd)]<|ar 24<|eT 2 [16] [(127,.bool (bd !=0))]<|qx h (λc63 h=>?_) (λc63 h=>?_)
    ·refine aK 127 (CX.mpr c63)<|nc<|ar 26<|eT 1 [127] [(17,VN)]<|ge<|ar 27<|eT 1 [] [(18,vi 0)]<|p0 8<|have⟨cc,m99,i65,i66⟩:=h;bL (x:=K98) (σ:=zW×Nat×Nat×Int) (λs_=> [(1,vs (some f) k o),(7,Vq lC),(9,vs e madeN_2 madeC_2),(10,vi lN),(11,vp (pa b)),(17,vs s_.1 s_.2.1 s_.2.2.1),(18,vi s_.2.2.2)]) (λs_ H=>cc s_.1 s_.2.1 s_.2.2.1 s_.2.2.2 H) (λs_ H=>m99 s_.1 s_.2.1 s_.2.2.1 s_.2.2.2 H) ((none,0,0,0):zW×Nat×Nat×Int) (by kernel_rfl) i65 sk ?_
     rintro⟨rB,rN,rC,k_4⟩ H19 i67
     have h:=i66 rB rN rC k_4 H19 i67
     refine nx [(1,vs (some f) k o),(7,Vq lC),(9,vs e madeN_2 madeC_2),(10,vi lN),(11,vp (pa b)),(17,vs rB rN rC),(18,vi k_4)]<|ge<|ar 28<|eT 4 [] [(131,.bool (decide (k_4< (madeN_2:Int))))]<|qx h (λc68 h=>?_) (λc68 h=>?_)
     ·refine aJ 131 (zX c68)<|nc<|ge<|p0 9<|ge ?_
      obtain⟨bs,q70,g,rfl,q71,co,q72,he⟩:=h
      refine yq 30 (Code.ops Cv) [(8,lC,[vp bs]),(8,(g.add (Int.toNat k_4*1)),[vu co])] 14 (bv 14 0) (show aE _ _ _ from⟨⟨q70,EO⟩,⟨q72,EO⟩,EO⟩)<|zr 0 (some 135) (vp (some lC)) (bv 14 1) [(1,vs (some f) k o),(7,vp (some lC)),(9,vs (some g) madeN_2 madeC_2),(10,vi lN),(11,vp (pa b)),(17,vs rB rN rC),(18,vi k_4),(135,vp (some lC))]<|aG 1 136 (vp (some lC)) (bv 14 3) [135]<|aG 2 137 (vp (some lC)) (bv 14 7) [136]<|kT 3 138 (vp bs) (bv 14 15) [137] (aQ 49 (vp (some lC))) (yY 8 yX)<|aG 4 139 (vs (some g) madeN_2 madeC_2) (bv 14 31) []<|aG 5 140 (vi k_4) (bv 14 63) []<|kT 6 141 (vp (some (g.add (Int.toNat k_4*1)))) (bv 14 127) [139,140] (bE 32 (vs (some g) madeN_2 madeC_2) (vi k_4)) (λ_ w _ _ _=>dZ (P:=prog) (t:=32) (elem:=28) (sz:=1) (a:=g) (len:=madeN_2) (cap:=madeC_2) (k:=.i64) (i:=k_4) CO (λ_=>by kernel_rfl) q71.1 q71.2 w)<|kT 7 142 (vu co) (bv 14 255) [141] (aQ 28 (vp (some (g.add (Int.toNat k_4*1))))) (yY 8 yQ)<|yx 8 (some 143) (bv 14 511) 80 #[vp bs,vu co] he ?_;clear he
      rintro dz dt ⟨p,u,rfl,h⟩
      refine⟨[(1,vs (some f) k o),(7,Vq lC),(9,vs (some g) madeN_2 madeC_2),(10,vi lN),(11,vp (pa b)),(17,vs rB rN rC),(18,vi k_4),(143,.tuple #[vi p,.bool u])],pk,(show aE _ _ _ from⟨EO,EO,EO⟩),?_⟩
      refine zB 9 (some 134) (.tuple #[vi p,.bool u]) (bv 14 1023) [(1,vs (some f) k o),(7,Vq lC),(9,vs (some g) madeN_2 madeC_2),(10,vi lN),(11,vp (pa b)),(17,vs rB rN rC),(18,vi k_4),(134,.tuple #[vi p,.bool u])] (pure (.value (.tuple #[vi p,.bool u])):Sem Next) (λ_ _ _ _ _=>rfl)<|kT 10 144 (vi p) (bv 14 2047) [] (pure (.value (vi p)):Sem Next) (λ_ _ _ _ _=>rfl)<|kT 11 145 (.bool u) (bv 14 4095) [134] (pure (.value (.bool u)):Sem Next) (λ_ _ _ _ _=>rfl)<|kT 12 19 (vi p) (bv 14 8191) [144] (pure (.value (vi p)):Sem Next) (λ_ _ _ _ _=>rfl)<|kT 13 20 (.bool u) (bv 14 16383) [145] (pure (.value (.bool u)):Sem Next) (λ_ _ _ _ _=>rfl)<|eq [(1,vs (some f) k o),(7,Vq lC),(9,vs (some g) madeN_2 madeC_2),(10,vi lN),(11,vp (pa b)),(17,vs rB rN rC),(18,vi k_4),(19,vi p),(20,.bool u)] sk<|yz<|aC<|ar 31<|va 1 [(1,vs (some f) k o),(7,Vq lC),(9,vs (some g) madeN_2 madeC_2),(10,vi lN),(11,vp (pa b)),(17,vs rB rN rC),(18,vi k_4),(19,vi p),(20,.bool u),(146,Vq ((ad b).add 5))]<|have⟨ci,q73,h⟩:=h;hH 147 60 q73 [146]<|eH 1 [] [(148,vi k_4)]<|sv 149 [147,148] h λce bj h=>eH 1 [149] [(150,.bool ce)]<|qx h (λc74 h=>?_) (λc74 h=>?_)
      ·refine o0 150 c74<|eT 8 [19,20,150] [(158,VT)]<|wc 158<|oo 32<|eH 3 [17,158] [(159,vs rB rN rC),(160,vs (some g) madeN_2 madeC_2),(161,vi k_4)]<|have⟨q76,h⟩:=h;yI (some 162) 32 28 1 g madeN_2 madeC_2 .i64 k_4 CO q76.1 q76.2 [160,161] [(162,Vq (g.add (Int.toNat k_4*1)))]<|have⟨cp,q77,h⟩:=h;hH 163 28 q77 [162]<|t1 (some 164) (λb=>vs (pa b) 1 1) (.cells #[vu cp] 28) ?_
       intro cq H22 e78 e79
       replace h:=h cq H22 e78 e79
       refine kc [163] [(164,vs (pa cq) 1 1)]<|zi (some 165) (cF #[32,32] 32 #[vs rB rN rC,vs (pa cq) 1 1]) _ (λ_=>by kernel_rfl) (bJ (T:=28) (sz:=1) (bytes:=8) (zero:=(vu 0:Value)) CO CO rfl (show prog.info? 28=some t28 from by kernel_rfl) (by kernel_rfl) (by kernel_rfl) (by decide) (by kernel_rfl) (by first | exact h | (simpa only[Value.cells,C9]using h))) ?_;clear h
       rintro _ dn ⟨b0,a9,rfl,h⟩
       exact kc [159,164] [(165,vs b0 (rN+1) a9)]<|eH 1 [165] [(17,vs b0 (rN+1) a9)]<|zq<|aA<|aC<|oo 29<|eT 3 [18] [(18,vi (zY (k_4+1)))]<|aR ((b0,(rN+1),a9,(zY (k_4+1))):zW×Nat×Nat×Int) sk h
      refine o0 150 (zZ c74)<|eH 2 [20] [(152,.bool u)]<|qx h (λc80 h=>?_) (λc80 h=>?_)
      ·refine o0 152 c80<|eH 2 [19] [(153,vi p),(154,Vq ((ad b).add 3))]<|have⟨b5,q82,h⟩:=h;hH 155 3 q82 [154]<|eT 3 [150,152,153,155] [(158,.bool (decide (p>b5)))]<|qx h (λc83 h=>?_) (λc83 h=>?_)
       ·refine aJ 158 (zX c83)<|oo 32<|eH 3 [17,158] [(159,vs rB rN rC),(160,vs (some g) madeN_2 madeC_2),(161,vi k_4)]<|have⟨q85,h⟩:=h;yI (some 162) 32 28 1 g madeN_2 madeC_2 .i64 k_4 CO q85.1 q85.2 [160,161] [(162,Vq (g.add (Int.toNat k_4*1)))]<|have⟨b8,q86,h⟩:=h;hH 163 28 q86 [162]<|t1 (some 164) (λb=>vs (pa b) 1 1) (.cells #[vu b8] 28) ?_
        intro ct H24 e87 e88
        replace h:=h ct H24 e87 e88
        refine kc [163] [(164,vs (pa ct) 1 1)]<|zi (some 165) (cF #[32,32] 32 #[vs rB rN rC,vs (pa ct) 1 1]) _ (λ_=>by kernel_rfl) (bJ (T:=28) (sz:=1) (bytes:=8) (zero:=(vu 0:Value)) CO CO rfl (show prog.info? 28=some t28 from by kernel_rfl) (by kernel_rfl) (by kernel_rfl) (by decide) (by kernel_rfl) (by first | exact h | (simpa only[Value.cells,C9]using h))) ?_;clear h
        rintro _ dp ⟨b3,be,rfl,h⟩
        exact kc [159,164] [(165,vs b3 (rN+1) be)]<|eH 1 [165] [(17,vs b3 (rN+1) be)]<|zq<|aA<|aC<|oo 29<|eT 3 [18] [(18,vi (zY (k_4+1)))]<|aR ((b3,(rN+1),be,(zY (k_4+1))):zW×Nat×Nat×Int) sk h
       exact aK 158 (zQ c83)<|zp<|aA<|aC<|oo 29<|eT 3 [18,158] [(18,vi (zY (k_4+1)))]<|aR ((rB,rN,rC,(zY (k_4+1))):zW×Nat×Nat×Int) sk h
      exact o0 152 (zZ c80)<|eT 6 [19,150,152] [(158,VF)]<|yL 158<|zp<|aA<|aC<|oo 29<|eT 3 [18,158] [(18,vi (zY (k_4+1)))]<|aR ((rB,rN,rC,(zY (k_4+1))):zW×Nat×Nat×Int) sk h
     refine aK 131 (zQ c68)<|zk 8<|aB<|aB<|aN<|aC<|ar 33<|eT 1 [18,131] [(21,VN)]<|ge<|ar 34<|eT 1 [] [(22,vi 0)]<|p0 10<|have⟨cm,m122,i89,i90⟩:=h;bL (x:=CE) (σ:=zW×Nat×Nat×Int) (λs_=> [(1,vs (some f) k o),(7,Vq lC),(9,vs e madeN_2 madeC_2),(10,vi lN),(11,vp (pa b)),(17,vs rB rN rC),(21,vs s_.1 s_.2.1 s_.2.2.1),(22,vi s_.2.2.2)]) (λs_ H=>cm s_.1 s_.2.1 s_.2.2.1 s_.2.2.2 H) (λs_ H=>m122 s_.1 s_.2.1 s_.2.2.1 s_.2.2.2 H) ((none,0,0,0):zW×Nat×Nat×Int) (by kernel_rfl) i89 sk ?_
     rintro⟨pB,pN,pC,k_5⟩ H26 i91
     have h:=i90 pB pN pC k_5 H26 i91
     refine nx [(1,vs (some f) k o),(7,Vq lC),(9,vs e madeN_2 madeC_2),(10,vi lN),(11,vp (pa b)),(17,vs rB rN rC),(21,vs pB pN pC),(22,vi k_5)]<|ge<|ar 35<|eT 4 [] [(169,.bool (decide (k_5< (rN:Int))))]<|qx h (λc92 h=>?_) (λc92 h=>?_)
     ·refine aJ 169 (zX c92)<|nc<|ge<|p0 11<|oo 37<|eH 3 [21,169] [(172,vs pB pN pC),(173,vs rB rN rC),(174,vi k_5)] ?_
      obtain⟨a7,rfl,q94,hf⟩:=h
      have h:=hf
      refine yI (some 175) 32 28 1 a7 rN rC .i64 k_5 CO q94.1 q94.2 [17,173,174] [(17,vs (some a7) rN rC),(175,Vq (a7.add (Int.toNat k_5*1)))]<|t1 (some 176) (λb=>vs (pa b) 1 1) (.cells #[Vq (a7.add (Int.toNat k_5*1))] 91) ?_
      intro cs H27 e95 e96
      replace h:=h cs H27 e95 e96
      refine kc [175] [(176,vs (pa cs) 1 1)]<|zi (some 177) (cF #[90,90] 90 #[vs pB pN pC,vs (pa cs) 1 1]) _ (λ_=>by kernel_rfl) (bJ (T:=91) (sz:=1) (bytes:=8) (zero:=(vp none:Value)) underlying90 underlying90 rfl (show prog.info? 91=some t91 from by kernel_rfl) (by kernel_rfl) (by kernel_rfl) (by decide) (by kernel_rfl) (by first | exact h | (simpa only[Value.cells,C9]using h))) ?_;clear h
      rintro _ dl ⟨b4,bf,rfl,h⟩
      exact kc [172,176] [(177,vs b4 (pN+1) bf)]<|eH 1 [177] [(21,vs b4 (pN+1) bf)]<|zq<|aA<|aC<|oo 36<|eT 3 [22] [(22,vi (zY (k_5+1)))]<|aR ((b4,(pN+1),bf,(zY (k_5+1))):zW×Nat×Nat×Int) sk h
     refine aK 169 (zQ c92)<|zk 10<|aB<|aB<|aN<|aC<|ge<|ar 38<|eH 2 [22,169] [(178,Vq lC),(179,Vq ((ad b).add 3))]<|have⟨bb,q97,h⟩:=h;hH 180 3 q97 [179]<|eH 1 [11] [(181,Vq ((ad b).add 4))]<|have⟨bw,q98,h⟩:=h;hH 182 3 q98 [181]<|eH 1 [21] [(183,vs pB pN pC)]<|sv 184 [178,180,182,183] h λbp dr h=>u5 1 [(1,vs (some f) k o),(7,Vq lC),(9,vs e madeN_2 madeC_2),(10,vi lN),(17,vs rB rN rC),(185,.bool (bp==0))]<|have⟨J,h,j100⟩:=h;pD (σ:=zW×Nat×Nat) (λs_=> [(1,vs (some f) k o),(7,Vq lC),(9,vs s_.1 s_.2.1 s_.2.2),(10,vi lN)]) (λs_ H=>J s_.1 s_.2.1 s_.2.2 H) ?_ ?_
     ·rintro⟨j,madeN_3,madeC_3⟩ H30 j101
      refine have h:=j100 j madeN_3 madeC_3 H30 j101;nx [(1,vs (some f) k o),(7,Vq lC),(9,vs j madeN_3 madeC_3),(10,vi lN)]<|aC<|ge<|ar 40<|eH 2 [] [(188,Vq lC),(189,vs j madeN_3 madeC_3)]<|yT 190 [188,189] h λdb ba c5 h=>eT 5 [190] [(24,vi ba)]<|ar 41<|eT 2 [24] [(194,.bool (ba !=0))]<|qx h (λc102 h=>?_) (λc102 h=>?_)
      ·refine aK 194 (CX.mpr c102)<|nc<|ge ?_
       obtain⟨dc,q104,am,rfl,bg,q105,hg⟩:=h
       refine yq 43 (Code.ops Cd) [(10,lC,[Vq am]),(10,am,[vp bg])] 12 (bv 12 0) (show aE _ _ _ from⟨⟨q104,EO⟩,⟨q105,EO⟩,EO⟩)<|zr 0 (some 195) (Vq lC) (bv 12 1) [(1,vs (some f) k o),(7,Vq lC),(9,vs j madeN_3 madeC_3),(10,vi lN),(195,Vq lC)]<|aG 1 196 (vs j madeN_3 madeC_3) (bv 12 3) []<|aG 3 198 (Vq lC) (bv 12 11) []<|aG 4 199 (Vq lC) (bv 12 27) [198]<|aG 5 200 (Vq lC) (bv 12 59) [199]<|kT 6 201 (Vq am) (bv 12 123) [200] (aQ 49 (Vq lC)) (yY 10 yX)<|aG 7 202 (Vq am) (bv 12 251) [201]<|aG 8 203 (Vq am) (bv 12 507) [202]<|kT 9 204 (vp bg) (bv 12 1019) [203] (aQ 52 (Vq am)) (yY 10 yQ)<|yx 2 (some 197) (bv 12 1023) 39 #[Vq lC,vs j madeN_3 madeC_3] hg ?_;clear hg
       rintro dq di ⟨aw,rfl,f106,f107,h⟩
       refine⟨[(1,vs (some f) k o),(7,Vq lC),(9,vs j madeN_3 madeC_3),(10,vi lN),(197,vi aw),(204,vp bg)],pk,(show aE _ _ _ from⟨f106,f107,EO⟩),?_⟩
       refine yx 10 (some 205) (bv 12 2047) 22 #[vp bg,VN] h ?_;clear h
       rintro dk df ⟨az,rfl,h⟩
       refine⟨[(1,vs (some f) k o),(7,Vq lC),(9,vs j madeN_3 madeC_3),(10,vi lN),(197,vi aw),(205,vi az)],pk,(show aE _ _ _ from⟨EO,EO,EO⟩),?_⟩
       refine zB 11 (some 206) (.bool (decide (aw>az))) (bv 12 4095) [(1,vs (some f) k o),(7,Vq lC),(9,vs j madeN_3 madeC_3),(10,vi lN),(206,.bool (decide (aw>az)))] (pure (.value (.bool (decide (aw>az)))):Sem Next) (λ_ _ _ _ _=>rfl)<|eq [(1,vs (some f) k o),(7,Vq lC),(9,vs j madeN_3 madeC_3),(10,vi lN),(206,.bool (decide (aw>az)))] sk<|yz<|aC<|qx h (λc108 h=>?_) (λc108 h=>?_)
       ·exact aJ 206 (zX c108)<|ar 44<|kb 3 [4,5,6] [vp none,VN,VF] hQ h
       exact aK 206 (zQ c108)<|zp<|aA<|aC<|oo 9<|u5 3 [(1,vs (some f) k o),(7,Vq lC),(9,vs j madeN_3 madeC_3),(10,vi (zY (lN+1)))]<|aR ((j,madeN_3,madeC_3,(zY (lN+1))):zW×Nat×Nat×Int) sk h
      exact aJ 194 (CY.mpr c102)<|ar 42<|kb 3 [4,5,6] [vp none,VN,VF] hQ h
     revert h;refine Bo (λc110 h=>?_) (λc110 h=>?_)
     ·have b111:(bp==0)=true:=zK c110
      refine iT [(1,vs (some f) k o),(7,Vq lC),(9,vs e madeN_2 madeC_2),(10,vi lN),(17,vs rB rN rC),(185,VT)] (by simp only[b111,Da,C5]) ?_
      clear b111
      exact wc 185<|oo 39<|eT 2 [9,17,185] [(9,vs rB rN rC)]<|lr ((rB,rN,rC):zW×Nat×Nat) sk h
     have b111:(bp==0)=false:=zJ c110
     refine iT [(1,vs (some f) k o),(7,Vq lC),(9,vs e madeN_2 madeC_2),(10,vi lN),(17,vs rB rN rC),(185,VF)] (by simp only[b111,Da,C5]) ?_
     clear b111
     exact yL 185<|nc<|lr ((e,madeN_2,madeC_2):zW×Nat×Nat) sk h
    exact aJ 127 (CY.mpr c63)<|ar 25<|kb 3 [4,5,6] [vp none,VN,VF] hQ h
   refine λhk=>Ac [(1,vs (some f) k o),(7,Vq lC),(9,vs e madeN_2 madeC_2),(10,vi lN),(11,vp (pa b)),(13,vi m),(64,.bool (decide (m< (al:Int))))] ?_
   by_cases c27:m< (al:Int)
   ·have b28:(decide (m< (al:Int)))=true:=zX c27
    exact cD [(1,vs (some f) k o),(7,Vq lC),(9,vs e madeN_2 madeC_2),(10,vi lN),(11,vp (pa b)),(13,vi m),(64,VT)] (by rw[b28])<|eH 4 [64] [(68,.bool (decide ((madeN_2:Int)>0)))]<|zq<|xl 68 (b:=(decide ((madeN_2:Int)>0))) (v:=((decide (m< (al:Int))) && (decide ((madeN_2:Int)>0)))) (by simp only[b28,BL])<|hk
   have b28:(decide (m< (al:Int)))=false:=zQ c27
   exact cD [(1,vs (some f) k o),(7,Vq lC),(9,vs e madeN_2 madeC_2),(10,vi lN),(11,vp (pa b)),(13,vi m),(64,VF)] (by rw[b28])<|eH 4 [64] [(68,VF)]<|zq<|xl 68 (b:=false) (v:=((decide (m< (al:Int))) && (decide ((madeN_2:Int)>0)))) (by simp only[b28,BL])<|hk
  exact aK 37 (zQ c6)<|zk 0<|aB<|aB<|aN<|aC<|ar 45<|kb 5 [4,5,6] [Vq lC,vs y madeN madeC,VT] hQ h
 exact aJ 31 (CY.mpr c1)<|ar 3<|kb 3 [4,5,6] [vp none,VN,VT] hQ h
namespace cK
def K0:=EP f7
def K2:=cb K0
def K4:=cb K2
def zy:=cb K4
def Ab:=cb zy
def Au:=cb Ab
def AW:=cb Au
def AM:=ca AW
def AH:=cb AW
def Bg:=cb AM
def Av:=ca Bg
def AS:=ca Av
def AN:=cb AH
def Cn:=ca AN
end cK
def cK.pt(o:Int)(lB:zW)(lN lC:Nat)(H:zV)(R:zv):=
 dR.C lB lN lC H (λv H1=> ∃x,v=.bool x/\
 if x=true then(
 bI.C H1 (λbf H2=> ∃an,bf=.bool an/\
 R (.bool an) H2))
 else
 dT.C o lB lN lC H1 (λbi H3=> ∃ra g e f rc,bi=.tuple #[vp ra,vs g e f,.bool rc]/\
 eU ra (
 ∃J:Bool->zV->Prop,(
 if rc=true then(
 bI.C H3 (λba H5=> ∃ao,ba=.bool ao/\
 J ao H5))
 else
 J false H3)/\ ∀s4 H4,J s4 H4->
 R (.bool s4) H4) (λd=>
 (aH H3 (d.add 2) 0 1)/\ ∀H6,H6=aP H3 (d.add 2) [VN] 0->
 (aH H6 (d.add 1) 0 1)/\ ∀H7,H7=aP H6 (d.add 1) [VN] 0->
 ∃(az:zW->Nat->Nat->zw) (m31:zW->Nat->Nat->Int->zV->Nat),az none 0 0 0 H7/\ ∀pB pN pC k H8,az pB pN pC k H8->
 if k< (e:Int)then(
 ∃y,g=some y/\
 yZ k e/\
 ∀b H9,b=H8.size->H9=H8.push (.cells #[Vq (y.add (Int.toNat k*1))] 91)->
 bH 1 91 8 [vp none] pB pN pC (some (ad b)) 1 H9 (λap al a5=>
 (az ap (pN+1) al (zY (k+1)) a5/\m31 ap (pN+1) al (zY (k+1)) a5<m31 pB pN pC k H8)))
 else
 ∃ay,hat H8 d=some (vp ay)/\
 ∃a0,ay=some a0/\
 ∃aj,hat H8 a0=some (vp aj)/\
 ∀au H11,au=H8.size->H11=H8.push (.cells #[vi 4] 3)->
 bR.C aj (some (ad au)) 1 1 H11 (λbc a2=> ∃ai,bc=vi ai/\
 if ai>0 then(
 bI.C a2 (λbe bb=> ∃ax,be=.bool ax/\
 R (.bool ax) bb))
 else
 iC.C (some d) 3 3 pB pN pC a2 (λbd ak=> ∃ah,bd=vi ah/\
 if ah=0 then(
 ∃a3,hat ak d=some (vp a3)/\
 ∃ac,a3=some ac/\
 ∃ae,hat ak ac=some (vp ae)/\
 ∃aa,hat ak d=some (vp aa)/\
 ∃z,hat ak d=some (vp z)/\
 bR.C ae none 0 0 ak (λbg a1=> ∃r,bg=vi r/\aL a1 d 0 [vp aa]/\aL a1 d 0 [vp z]/\
 iE.C (some d) g e f a1 (λa9 ag=> ∃s,a9=vi s/\aL ag d 0 [vp aa]/\aL ag d 0 [vp z]/\
 if r=s then(
 ∃q,aa=some q/\
 ∃j,hat ag q=some (vp j)/\
 ∃p,z=some p/\
 ∃u,hat ag p=some (vp u)/\
 ∀av H17,av=ag.size->H17=ag.push (.cells #[vi 3] 3)->aL H17 p 0 [vp u]/\aL H17 q 0 [vp j]/\aL H17 d 0 [vp aa]/\aL H17 d 0 [vp z]/\
 bR.C j (some (ad av)) 1 1 H17 (λa6 aq=> ∃m,a6=vi m/\aL aq p 0 [vp u]/\aL aq q 0 [vp j]/\aL aq d 0 [vp aa]/\aL aq d 0 [vp z]/\
 bR.C u none 0 0 aq (λa7 am=> ∃n,a7=vi n/\aL am p 0 [vp u]/\aL am q 0 [vp j]/\aL am d 0 [vp aa]/\aL am d 0 [vp z]/\
 if m=n then(
 bI.C am (λa4 aw=> ∃ab,a4=.bool ab/\aL aw p 0 [vp u]/\aL aw q 0 [vp j]/\aL aw d 0 [vp aa]/\aL aw d 0 [vp z]/\
 R (.bool ab) aw))
 else
 R VF am)))
 else
 R VF ag)))
 else
 bI.C ak (λa8 bh=> ∃af,a8=.bool af/\
 R (.bool af) bh))))))
theorem cK.link(h:pt i d k o H R):C i d k o H R:=by
 refine sa K0 96 func7 ?_
 intro w0 Q hQ
 unfold pt zY at h
 refine nx [(0,vi i),(1,vs d k o)]<|ar 0<|eT 1 [] []<|ge<|ar 1<|eH 1 [] [(10,vs d k o)]<|sv 11 [10] h λx H1 h=>yH<|qx h (λc1 h=>?_) (λc1 h=>?_)
 ·exact aJ 11 c1<|ar 2<|Ac []<|zo 12 (λan=>[(12,.bool an)]) h λan H2 h=>kb 1 [4] [.bool an] hQ h
 refine aK 11 (zZ c1)<|nc<|ar 3<|va 2 [(14,vi i),(15,vs d k o)]<|Bq 16 (λra g e f rc=>[(16,.tuple #[vp ra,vs g e f,.bool rc])]) h λra g e f rc H3 h=>u5 7 [(5,vp ra),(6,vs g e f),(7,.bool rc)]<|ge<|ar 4<|eH 1 [] [(20,vp ra)] ?_
 rcases ra with _ | lC
 ·rw[CP]at h
  refine u5 1 [(5,vp none),(6,vs g e f),(7,.bool rc),(21,VT)]<|wc 21<|ge<|have⟨J,h,j4⟩:=h;pD (σ:=Bool) (λs_=> [(4,.bool s_)]) (λs_ H=>J s_ H) ?_ ?_
  ·exact λs4 H4 j5=>have h:=j4 s4 H4 j5;nx [(4,.bool s4)]<|aC<|hX [4] [.bool s4] hQ h
  refine oo 5<|va 2 [(23,.bool rc)]<|qx h (λc6 h=>?_) (λc6 h=>?_)
  ·have b7:rc=true:=c6
   refine cD [(23,VT)] (by rw[b7]) ?_
   clear b7
   exact sv 24 [] h λao H5 h=>u5 2 [(4,.bool ao)]<|lr (ao:Bool) sk h
  have b7:rc=false:=zZ c6
  refine cD [(23,VF)] (by rw[b7]) ?_
  clear b7
  exact u5 3 [(4,VF)]<|lr (false:Bool) sk h
 rw[CK]at h
 refine eT 1 [5,20] [(5,Vq lC),(21,VF)]<|yL 21<|nc<|ar 6<|eH 4 [7,21] [(27,Vq lC),(29,Vq (lC.add 2))]<|have⟨q9,h⟩:=h;eQ 31 VN q9<|λH6 e8=>have h:=h H6 e8;kc [29] []<|eH 2 [27] [(31,Vq (lC.add 1))]<|have⟨q11,h⟩:=h;eQ 32 VN q11<|λH7 e10=>have h:=h H7 e10;kc [31] []<|yH<|ar 7<|eT 1 [] [(8,VN)]<|ge<|ar 8<|eT 1 [] [(9,vi 0)]<|p0 0<|have⟨az,m31,i12,i13⟩:=h;bL (x:=AS) (σ:=zW×Nat×Nat×Int) (λs_=> [(5,Vq lC),(6,vs g e f),(8,vs s_.1 s_.2.1 s_.2.2.1),(9,vi s_.2.2.2)]) (λs_ H=>az s_.1 s_.2.1 s_.2.2.1 s_.2.2.2 H) (λs_ H=>m31 s_.1 s_.2.1 s_.2.2.1 s_.2.2.2 H) ((none,0,0,0):zW×Nat×Nat×Int) (by kernel_rfl) i12 sk ?_
 rintro⟨pB,pN,pC,lN⟩ H8 i14
 have h:=i13 pB pN pC lN H8 i14
 refine nx [(5,Vq lC),(6,vs g e f),(8,vs pB pN pC),(9,vi lN)]<|ge<|ar 9<|eT 4 [] [(35,.bool (decide (lN< (e:Int))))]<|qx h (λc15 h=>?_) (λc15 h=>?_)
 ·refine aJ 35 (zX c15)<|nc<|ge<|p0 1<|oo 11<|eH 3 [8,35] [(38,vs pB pN pC),(39,vs g e f),(40,vi lN)] ?_
  obtain⟨y,rfl,q17,ha⟩:=h
  have h:=ha
  refine yI (some 41) 32 28 1 y e f .i64 lN CO q17.1 q17.2 [6,39,40] [(6,vs (some y) e f),(41,Vq (y.add (Int.toNat lN*1)))]<|t1 (some 42) (λb=>vs (pa b) 1 1) (.cells #[Vq (y.add (Int.toNat lN*1))] 91) ?_
  intro b H9 e18 e19
  replace h:=h b H9 e18 e19
  refine kc [41] [(42,vs (pa b) 1 1)]<|zi (some 43) (cF #[90,90] 90 #[vs pB pN pC,vs (pa b) 1 1]) _ (λ_=>by kernel_rfl) (bJ (T:=91) (sz:=1) (bytes:=8) (zero:=(vp none:Value)) underlying90 underlying90 rfl (show prog.info? 91=some t91 from by kernel_rfl) (by kernel_rfl) (by kernel_rfl) (by decide) (by kernel_rfl) (by first | exact h | (simpa only[Value.cells,C9]using h))) ?_;clear h
  rintro _ a5 ⟨ap,al,rfl,h⟩
  exact kc [38,42] [(43,vs ap (pN+1) al)]<|eH 1 [43] [(8,vs ap (pN+1) al)]<|zq<|aA<|aC<|oo 10<|eT 3 [9] [(9,vi (zY (lN+1)))]<|aR ((ap,(pN+1),al,(zY (lN+1))):zW×Nat×Nat×Int) sk h
 refine aK 35 (zQ c15)<|zk 0<|aB<|aB<|aN<|aC<|ge<|ar 12<|eH 3 [9,35] [(46,Vq lC)]<|have⟨ay,q20,h⟩:=h;hH 47 49 q20 [46] ?_
 obtain⟨a0,rfl,hb⟩:=h
 refine eH 2 [47] [(49,Vq a0)]<|have⟨aj,q21,h⟩:=hb;hH 50 52 q21 [49]<|t1 (some 51) (λb=>vs (pa b) 1 1) (.cells #[vi 4] 3)<|λau H11 e22 e23=>have h:=h au H11 e22 e23;kc [] [(51,vs (pa au) 1 1)]<|sv 52 [50,51] h λai a2 h=>eH 2 [52] [(54,.bool (decide (ai>0)))]<|qx h (λc24 h=>?_) (λc24 h=>?_)
 ·exact o0 54 (zX c24)<|eT 5 [8,54] [(59,VT)]<|wc 59<|ar 13<|Ac []<|zo 60 (λax=>[(60,.bool ax)]) h λax bb h=>kb 1 [4] [.bool ax] hQ h
 refine o0 54 (zQ c24)<|eH 2 [8] [(55,Vq lC),(56,vs pB pN pC)]<|sv 57 [55,56] h λah ak h=>eT 2 [54,57] [(59,.bool (ah !=0))]<|qx h (λc26 h=>?_) (λc26 h=>?_)
 ·refine aK 59 (CX.mpr c26)<|nc<|ge ?_
  obtain⟨a3,q28,ac,rfl,ae,q29,aa,q30,z,q31,hc⟩:=h
  refine yq 14 (Code.ops Cn) [(7,lC,[Vq ac]),(7,ac,[vp ae]),(36,lC,[vp aa]),(36,lC,[vp z])] 36 (bv 36 0) (show aE _ _ _ from⟨⟨q28,EO⟩,⟨q29,EO⟩,⟨q30,EO⟩,⟨q31,EO⟩,EO⟩)<|zr 0 (some 61) (Vq lC) (bv 36 1) [(5,Vq lC),(6,vs g e f),(61,Vq lC)]<|aG 1 62 (Vq lC) (bv 36 3) [61]<|aG 2 63 (Vq lC) (bv 36 7) [62]<|kT 3 64 (Vq ac) (bv 36 15) [63] (aQ 49 (Vq lC)) (yY 7 yX)<|aG 4 65 (Vq ac) (bv 36 31) [64]<|aG 5 66 (Vq ac) (bv 36 63) [65]<|kT 6 67 (vp ae) (bv 36 127) [66] (aQ 52 (Vq ac)) (yY 7 yQ)<|aG 8 69 (Vq lC) (bv 36 383) []<|aG 9 70 (vs g e f) (bv 36 895) [6]<|yx 7 (some 68) (bv 36 1023) 22 #[vp ae,VN] hc ?_;clear hc
  rintro bg a1 ⟨r,rfl,f32,f33,h⟩
  refine⟨[(5,Vq lC),(68,vi r),(69,Vq lC),(70,vs g e f)],pk,(show aE _ _ _ from⟨EO,EO,f32,f33,EO⟩),?_⟩
  refine yx 10 (some 71) (bv 36 2047) 39 #[Vq lC,vs g e f] h ?_;clear h
  rintro a9 ag ⟨s,rfl,f34,f35,h⟩
  refine⟨[(5,Vq lC),(68,vi r),(71,vi s)],pk,(show aE _ _ _ from⟨EO,EO,f34,f35,EO⟩),?_⟩
  refine zB 11 (some 72) (.bool (r==s)) (bv 36 4095) [(5,Vq lC),(72,.bool (r==s))] (pure (.value (.bool (r==s))):Sem Next) (λ_ _ _ _ _=>rfl)<|kT 12 73 (.bool (r==s)) (bv 36 8191) [72] (pure (.value (.bool (r==s))):Sem Next) (λ_ _ _ _ _=>rfl)<|qx h (λc36 h=>?_) (λc36 h=>?_)
  ·refine Bb 73 (zK c36)<|kT 13 74 (Vq lC) (bv 36 16383) [] (pure (.value (Vq lC)):Sem Next) (λ_ _ _ _ _=>rfl)<|kT 14 75 (Vq lC) (bv 36 32767) [74] (pure (.value (Vq lC)):Sem Next) (λ_ _ _ _ _=>rfl)<|kT 15 76 (Vq lC) (bv 36 65535) [75] (pure (.value (Vq lC)):Sem Next) (λ_ _ _ _ _=>rfl)<|kT 16 77 (vp aa) (bv 36 131071) [76] (aQ 49 (Vq lC)) (jV 36 (λ_=>by kernel_rfl) yJ (.inr (by kernel_rfl))) ?_
   obtain⟨q,rfl,hd⟩:=h
   refine kT 17 78 (Vq q) (bv 36 262143) [77] (pure (.value (Vq q)):Sem Next) (λ_ _ _ _ _=>rfl)<|kT 18 79 (Vq q) (bv 36 524287) [78] (pure (.value (Vq q)):Sem Next) (λ_ _ _ _ _=>rfl)<|have⟨j,q38,h⟩:=hd;vI (36,q,[vp j]) ⟨q38,EO⟩<|kT 19 80 (vp j) (bv 36 1048575) [79] (aQ 52 (Vq q)) (jV 36 (λ_=>by kernel_rfl) yX (.inr (by kernel_rfl)))<|kT 22 83 (Vq lC) (bv 36 5242879) [5] (pure (.value (Vq lC)):Sem Next) (λ_ _ _ _ _=>rfl)<|kT 23 84 (Vq lC) (bv 36 13631487) [83] (pure (.value (Vq lC)):Sem Next) (λ_ _ _ _ _=>rfl)<|kT 24 85 (Vq lC) (bv 36 30408703) [84] (pure (.value (Vq lC)):Sem Next) (λ_ _ _ _ _=>rfl)<|kT 25 86 (vp z) (bv 36 63963135) [85] (aQ 49 (Vq lC)) (jV 36 (λ_=>by kernel_rfl) yV (.inr (by kernel_rfl))) ?_
   obtain⟨p,rfl,he⟩:=h
   refine kT 26 87 (Vq p) (bv 36 131071999) [86] (pure (.value (Vq p)):Sem Next) (λ_ _ _ _ _=>rfl)<|kT 27 88 (Vq p) (bv 36 265289727) [87] (pure (.value (Vq p)):Sem Next) (λ_ _ _ _ _=>rfl)<|have⟨u,q39,h⟩:=he;vI (36,p,[vp u]) ⟨q39,EO⟩<|kT 28 89 (vp u) (bv 36 533725183) [88] (aQ 52 (Vq p)) (jV 36 (λ_=>by kernel_rfl) yX (.inr (by kernel_rfl)))<|mO 20 (some 81) (bv 36 534773759) (λb=>vs (pa b) 1 1) (.cells #[vi 3] 3) (by kernel_rfl) (λ_=>by kernel_rfl) (by kernel_rfl)<|λav H17 e44 e45=>have h:=h av H17 e44 e45;have⟨f40,f41,f42,f43,h⟩:=h;⟨[(73,VT),(80,vp j),(81,vs (pa av) 1 1),(89,vp u)],pk,(show aE _ _ _ from⟨f40,f41,EO,EO,f42,f43,EO⟩),?_⟩
   refine yx 21 (some 82) (bv 36 536870911) 22 #[vp j,vs (pa av) 1 1] h ?_;clear h
   rintro a6 aq ⟨m,rfl,f46,f47,f48,f49,h⟩
   refine⟨[(73,VT),(82,vi m),(89,vp u)],pk,(show aE _ _ _ from⟨f46,f47,EO,EO,f48,f49,EO⟩),?_⟩
   refine yx 29 (some 90) (bv 36 1073741823) 22 #[vp u,VN] h ?_;clear h
   rintro a7 am ⟨n,rfl,f50,f51,f52,f53,h⟩
   refine⟨[(73,VT),(82,vi m),(90,vi n)],pk,(show aE _ _ _ from⟨f50,f51,EO,EO,f52,f53,EO⟩),?_⟩
   refine zB 30 (some 91) (.bool (m==n)) (bv 36 2147483647) [(73,VT),(91,.bool (m==n))] (pure (.value (.bool (m==n))):Sem Next) (λ_ _ _ _ _=>rfl)<|kT 31 92 (.bool (m==n)) (bv 36 4294967295) [73,91] (pure (.value (.bool (m==n))):Sem Next) (λ_ _ _ _ _=>rfl)<|kT 32 93 (.bool (m==n)) (bv 36 8589934591) [92] (pure (.value (.bool (m==n))):Sem Next) (λ_ _ _ _ _=>rfl)<|qx h (λc54 h=>?_) (λc54 h=>?_)
   ·refine Bb 93 (zK c54) ?_
    refine yx 33 (some 94) (bv 36 17179869183) 36 #[] h ?_;clear h
    rintro a4 aw ⟨ab,rfl,f56,f57,f58,f59,h⟩
    refine⟨[(93,VT),(94,.bool ab)],pk,(show aE _ _ _ from⟨f56,f57,EO,EO,f58,f59,EO⟩),?_⟩
    exact zB 34 (some 95) (.bool ab) (bv 36 34359738367) [(95,.bool ab)] (pure (.value (.bool ab)):Sem Next) (λ_ _ _ _ _=>rfl)<|kT 35 4 (.bool ab) (bv 36 68719476735) [95] (pure (.value (.bool ab)):Sem Next) (λ_ _ _ _ _=>rfl)<|eq [(4,.bool ab)] sk<|yz<|aC<|hX [4] [.bool ab] hQ h
   exact Bb 93 (zJ c54)<|jz 33 (some 94) (bv 36 17179869183) [] [(94,undef)]<|kT 34 95 VF (bv 36 34359738367) [93,94] (pure (.value VF):Sem Next) (λ_ _ _ _ _=>rfl)<|kT 35 4 VF (bv 36 68719476735) [95] (pure (.value VF):Sem Next) (λ_ _ _ _ _=>rfl)<|eq [(4,VF)] sk<|yz<|aC<|hX [4] [VF] hQ h
  exact Bb 73 (zJ c36)<|jz 13 (some 74) (bv 36 16383) [] [(74,undef)]<|jz 14 (some 75) (bv 36 32767) [74] [(75,undef)]<|jz 15 (some 76) (bv 36 65535) [75] [(76,undef)]<|jz 16 (some 77) (bv 36 131071) [76] [(77,undef)]<|jz 17 (some 78) (bv 36 262143) [77] [(78,undef)]<|jz 18 (some 79) (bv 36 524287) [78] [(79,undef)]<|jz 19 (some 80) (bv 36 1048575) [79] [(80,undef)]<|jz 20 (some 81) (bv 36 2097151) [] [(81,undef)]<|jz 21 (some 82) (bv 36 4194303) [80,81] [(82,undef)]<|jz 22 (some 83) (bv 36 8388607) [5] [(83,undef)]<|jz 23 (some 84) (bv 36 16777215) [83] [(84,undef)]<|jz 24 (some 85) (bv 36 33554431) [84] [(85,undef)]<|jz 25 (some 86) (bv 36 67108863) [85] [(86,undef)]<|jz 26 (some 87) (bv 36 134217727) [86] [(87,undef)]<|jz 27 (some 88) (bv 36 268435455) [87] [(88,undef)]<|jz 28 (some 89) (bv 36 536870911) [88] [(89,undef)]<|jz 29 (some 90) (bv 36 1073741823) [89] [(90,undef)]<|jz 30 (some 91) (bv 36 2147483647) [82,90] [(91,undef)]<|kT 31 92 VF (bv 36 4294967295) [73,91] (pure (.value VF):Sem Next) (λ_ _ _ _ _=>rfl)<|kT 32 93 VF (bv 36 8589934591) [92] (pure (.value VF):Sem Next) (λ_ _ _ _ _=>rfl)<|jz 33 (some 94) (bv 36 17179869183) [] [(94,undef)]<|kT 34 95 VF (bv 36 34359738367) [93,94] (pure (.value VF):Sem Next) (λ_ _ _ _ _=>rfl)<|kT 35 4 VF (bv 36 68719476735) [95] (pure (.value VF):Sem Next) (λ_ _ _ _ _=>rfl)<|eq [(4,VF)] sk<|yz<|aC<|hX [4] [VF] hQ h
 exact aJ 59 (CY.mpr c26)<|ar 13<|Ac []<|zo 60 (λaf=>[(60,.bool af)]) h λaf bh h=>kb 1 [4] [.bool af] hQ h
end Go.Proofs.YtfhbhckhmnleoaaGreat
namespace Go.Proofs.YtfhbhckhmnleoaaGreat
open Go Go.Proofs.Tryz
open Int(tmod)
variable{H:zV}{R:zv}{d j k:Int}{i:zW}
def lg.K0:=EP f8
def lg.pt(a:Int)(H:zV)(R:zv):=
 kN.C a H (λv H1=> ∃ra rb,v=.tuple #[vp ra,vi rb]/\
 if rb=0 then(
 ∀b H2,b=H1.size->H2=H1.push (.cells #[vp ra,VN,VN,vu 0] 51)->
 R (.tuple #[Vq (ad b),vi 0]) H2)
 else
 R (.tuple #[vp none,vi rb]) H1)
theorem lg.link(h:pt d H R):C d H R:=by
 refine sa K0 17 func8 ?_
 intro w0 Q hQ
 unfold pt at h
 refine nx [(0,vi d)]<|ar 0<|eT 2 [] []<|ar 1<|va 1 [(7,vi d)]<|zI 8 (λra rb=>[(8,.tuple #[vp ra,vi rb])]) h λra rb H1 h=>u5 5 [(4,vp ra),(5,vi rb)]<|ge<|ar 2<|eT 2 [] [(12,.bool (rb !=0))]<|qx h (λc1 h=>?_) (λc1 h=>?_)
 ·refine aK 12 (CX.mpr c1)<|nc<|ar 4<|va 2 [(15,.agg #[vp ra,VN,VN,vu 0])]<|t1 (some 16) (λb=>vp (pa b)) (.cells #[vp ra,VN,VN,vu 0] 51)<|λb H2 e3 e4=>have h:=h b H2 e3 e4;⟨[(16,vp (pa b))],pk,?_⟩
  exact kb 2 [2,3] [vp (pa b),vi 0] hQ h
 exact aJ 12 (CY.mpr c1)<|ar 3<|kb 3 [2,3] [vp none,vi rb] hQ h
def fP.K0:=EP f10
def fP.pt(hv:zW)(a d:Int)(lB:zW)(lN lC:Nat)(H:zV)(R:zv):=
 iP.C a 0 d H (λv H1=> ∃ra rb,v=.tuple #[vu ra,vi rb]/\
 if rb=0 then(
 if(lN:Int)>62 then(
 R (.tuple #[vu 0,vi 6]) H1)
 else
 iP.C a (lN:Int) d H1 (λm H2=> ∃e i,m=.tuple #[vu e,vi i]/\
 lh.C a H2 (λn H3=> ∃x,n=vi x/\
 ∀b H4,b=H3.size->H4=H3.push (.cells #[vu e] 28)->
 bH 1 28 8 [vu 0] (some (ad b)) 1 1 lB lN H4 (λap j H5=>
 fW.C hv x 3 ap (1+lN) j H5 (λk H6=> ∃f g,k=.tuple #[vu f,vi g]/\
 R (.tuple #[vu f,vi g]) H6)))))
 else
 R (.tuple #[vu 0,vi rb]) H1)
theorem fP.link{lB:zW}{lN lC:Nat}(h:pt i d j lB lN lC H R):C i d j lB lN lC H R:=by
 refine sa K0 44 func10 ?_
 intro w0 Q hQ
 unfold pt at h
 refine nx [(0,vp i),(1,vi d),(2,vu j),(3,vs lB lN lC)]<|ar 0<|eT 2 [] []<|ge<|ar 1<|eH 2 [] [(15,vi d),(16,vu j)]<|yT 17 [15,16] h λra rb H1 h=>eT 5 [17] [(11,vi rb)]<|ar 2<|eT 2 [] [(21,.bool (rb !=0))]<|qx h (λc1 h=>?_) (λc1 h=>?_)
 ·refine aK 21 (CX.mpr c1)<|nc<|ge<|ar 4<|eT 3 [11,21] [(25,.bool (decide ((lN:Int)>62)))]<|qx h (λc3 h=>?_) (λc3 h=>?_)
  ·exact aJ 25 (zX c3)<|ar 5<|kb 2 [8,9] [vu 0,vi 6] hQ h
  refine aK 25 (zQ c3)<|nc<|ar 6<|eH 4 [2,25] [(27,vi d),(29,vi lN),(30,vu j)]<|yT 31 [27,29,30] h λe a H2 h=>eT 5 [31] [(12,vu e)]<|ar 7<|eH 2 [0,1] [(34,vp i),(35,vi d)]<|sv 36 [35] h λx H3 h=>eH 1 [12] [(37,vu e)]<|t1 (some 38) (λb=>vs (pa b) 1 1) (.cells #[vu e] 28) ?_
  intro b H4 e5 e6
  replace h:=h b H4 e5 e6
  refine kc [37] [(38,vs (pa b) 1 1)]<|eH 1 [3] [(39,vs lB lN lC)]<|zi (some 40) (cF #[32,32] 32 #[vs (pa b) 1 1,vs lB lN lC]) _ (λ_=>by kernel_rfl) (bJ (T:=28) (sz:=1) (bytes:=8) (zero:=(vu 0:Value)) CO CO rfl (show prog.info? 28=some t28 from by kernel_rfl) (by kernel_rfl) (by kernel_rfl) (by decide) (by kernel_rfl) (by first | exact h | (simpa only[Value.cells,C9]using h))) ?_;clear h
  rintro _ H5 ⟨ap,hv,rfl,h⟩
  exact kc [38,39] [(40,vs ap (1+lN) hv)]<|zI 41 (λf g=>[(41,.tuple #[vu f,vi g])]) h λf g H6 h=>kb 4 [8,9] [vu f,vi g] hQ h
 exact aJ 21 (CY.mpr c1)<|ar 3<|kb 3 [8,9] [vu 0,vi rb] hQ h
def bX.K0:=EP f30
def bX.pt(hv:zW)(wv:Int)(H:zV)(R:zv):=
 cE.C hv wv H (λv H1=> ∃ra rb rc rd re,v=.tuple #[vi ra,vi rb,vi rc,vu rd,.bool re]/\
 R (vi rb) H1)
theorem bX.link(h:pt i d H R):C i d H R:=by
 refine sa K0 20 func30 ?_
 intro w0 Q hQ
 unfold pt at h
 exact nx [(0,vp i),(1,vu d)]<|ar 0<|eT 1 [] []<|ar 1<|va 2 [(11,vp i),(12,vu d)]<|Bq 13 (λra rb rc rd re=>[(13,.tuple #[vi ra,vi rb,vi rc,vu rd,.bool re])]) h λra rb rc rd re H1 h=>u5 11 [(6,vi rb)]<|ar 2<|kb 2 [4] [vi rb] hQ h
def dF.K0:=EP f41
def dF.pt(hv:zW)(wv a i:Int)(H:zV)(R:zv):=
 eV.C hv wv a i H (λv H1=> ∃ra rb,v=.tuple #[vi ra,vi rb]/\
 if rb=0 then(
 ∃g,hv=some g/\
 ∃x,hat H1 g=some (vp x)/\
 ∃xA,x=some xA/\
 ∃f,hat H1 xA=some (vp f)/\
 ∃j,f=some j/\
 ∃e,hat H1 j=some (vp e)/\
 cG.C e ra H1 (λk H2=> ∃d b,k=.tuple #[vu d,vi b]/\
 R (.tuple #[vu d,vi b]) H2))
 else
 R (.tuple #[vu 0,vi rb]) H1)
theorem dF.link(h:pt i d j k H R):C i d j k H R:=by
 refine sa K0 37 func41 ?_
 intro w0 Q hQ
 unfold pt at h
 refine nx [(0,vp i),(1,vu d),(2,vi j),(3,vi k)]<|ar 0<|eT 2 [] []<|ar 1<|va 4 [(0,vp i),(13,vp i),(14,vu d),(15,vi j),(16,vi k)]<|zI 17 (λra rb=>[(0,vp i),(17,.tuple #[vi ra,vi rb])]) h λra rb H1 h=>eT 5 [17] [(10,vi ra),(11,vi rb)]<|ge<|ar 2<|eT 2 [] [(21,.bool (rb !=0))]<|qx h (λc1 h=>?_) (λc1 h=>?_)
 ·refine aK 21 (CX.mpr c1)<|nc<|ar 4<|va 1 [(10,vi ra),(23,vp i)] ?_
  obtain⟨g,rfl,ha⟩:=h
  refine eH 2 [23] [(25,Vq g)]<|have⟨x,q3,h⟩:=ha;hH 26 49 q3 [25] ?_
  obtain⟨xA,rfl,hb⟩:=h
  refine eH 2 [26] [(28,Vq xA)]<|have⟨f,q4,h⟩:=hb;hH 29 52 q4 [28] ?_
  obtain⟨wv,rfl,hc⟩:=h
  exact eH 2 [29] [(31,Vq wv)]<|have⟨e,q5,h⟩:=hc;hH 32 78 q5 [31]<|eH 1 [10] [(33,vi ra)]<|zI 34 (λa b=>[(34,.tuple #[vu a,vi b])]) h λa b H2 h=>kb 4 [8,9] [vu a,vi b] hQ h
 exact aJ 21 (CY.mpr c1)<|ar 3<|kb 3 [8,9] [vu 0,vi rb] hQ h
namespace fW
def K0:=EP f43
def K2:=cb K0
def K4:=cb K2
def zy:=cb K4
def Ab:=cb zy
def Ar:=ca Ab
def Au:=cb Ar
def Bf:=ca Au
def AW:=ca Bf
end fW
def fW.pt(hv:zW)(f d:Int)(lB:zW)(lN lC:Nat)(H:zV)(R:zv):=
 eW.C hv H (λv H1=> ∃x,v=.bool x/\
 if x=true then(
 R (.tuple #[vu 0,vi 2]) H1)
 else
 ∃e,hv=some e/\
 ∃s,hat H1 e=some (vp s)/\
 ∃z,s=some z/\
 ∃o,hat H1 z=some (vp o)/\
 cL.C o 0 f (lN:Int) H1 (λae H2=> ∃ra rb,ae=.tuple #[vi ra,vi rb]/\
 if rb=0 then(
 ∃(q:zw) (m25:Int->zV->Nat),q 0 H2/\ ∀b H3,q b H3->
 if b< (lN:Int)then(
 ∃g,lB=some g/\
 yZ b lN/\
 ∃j,hat H3 (g.add (Int.toNat b*1))=some (vu j)/\
 ∃r,hat H3 e=some (vp r)/\
 ∃u,r=some u/\
 ∃y,hat H3 u=some (vp y)/\
 ∃aa,y=some aa/\
 ∃p,hat H3 aa=some (vp p)/\
 bU.C p (zY (ra+b)) j H3 (λaf H4=> ∃ac,af=vi ac/\
 (q (zY (b+1)) H4/\m25 (zY (b+1)) H4<m25 b H3)))
 else
 jT.C d ra H3 (λab H5=> ∃m n,ab=.tuple #[vu m,vi n]/\
 R (.tuple #[vu m,vi n]) H5))
 else
 R (.tuple #[vu 0,vi rb]) H2))
theorem fW.link{lB:zW}{lN lC:Nat}(h:pt i d j lB lN lC H R):C i d j lB lN lC H R:=by
 refine sa K0 61 func43 ?_
 intro w0 Q hQ
 unfold pt zY at h
 refine nx [(0,vp i),(1,vi d),(2,vi j),(3,vs lB lN lC)]<|ar 0<|eT 2 [] []<|ge<|ar 1<|eH 1 [] [(14,vp i)]<|sv 15 [14] h λx H1 h=>yH<|qx h (λc1 h=>?_) (λc1 h=>?_)
 ·exact aJ 15 c1<|ar 2<|kb 2 [8,9] [vu 0,vi 2] hQ h
 refine aK 15 (zZ c1)<|nc<|ar 3<|eH 1 [15] [(17,vp i)] ?_
 obtain⟨e,rfl,ha⟩:=h
 refine eH 2 [0,17] [(0,Vq e),(19,Vq e)]<|have⟨s,q3,h⟩:=ha;hH 20 49 q3 [19] ?_
 obtain⟨z,rfl,hb⟩:=h
 refine eH 2 [20] [(22,Vq z)]<|have⟨o,q4,h⟩:=hb;hH 23 52 q4 [22]<|eH 3 [1] [(24,vi d),(26,vi lN)]<|yT 27 [23,24,26] h λra rb H2 h=>eT 5 [27] [(10,vi ra),(11,vi rb)]<|ge<|ar 4<|eT 2 [] [(31,.bool (rb !=0))]<|qx h (λc5 h=>?_) (λc5 h=>?_)
 ·refine aK 31 (CX.mpr c5)<|nc<|ge<|ar 6<|eT 3 [3,11,31] [(33,vs lB lN lC),(34,vi lN),(35,vi 0)]<|p0 0<|have⟨q,m25,i7,i8⟩:=h;bL (x:=AW) (σ:=Int) (λs_=> [(0,Vq e),(2,vi j),(10,vi ra),(33,vs lB lN lC),(34,vi lN),(35,vi s_)]) (λs_ H=>q s_ H) (λs_ H=>m25 s_ H) (0:Int) (by kernel_rfl) i7 sk ?_
  rintro b H3 i9
  have h:=i8 b H3 i9
  refine nx [(0,Vq e),(2,vi j),(10,vi ra),(33,vs lB lN lC),(34,vi lN),(35,vi b)]<|ar 7<|eT 1 [] [(36,.bool (decide (b< (lN:Int))))]<|ge<|qx h (λc10 h=>?_) (λc10 h=>?_)
  ·refine aJ 36 (zX c10)<|nc<|ge<|p0 1<|ar 8<|eH 1 [36] [(37,vi b)] ?_
   obtain⟨g,rfl,q12,hc⟩:=h
   refine yI (some 38) 32 28 1 g lN lC .i64 b CO q12.1 q12.2 [33] [(33,vs (some g) lN lC),(38,Vq (g.add (Int.toNat b*1)))]<|have⟨f,q13,h⟩:=hc;hH 39 28 q13 [38]<|eT 2 [37,39] [(12,vi b),(13,vu f)]<|oo 9<|eH 3 [] [(42,Vq e)]<|have⟨r,q14,h⟩:=h;hH 43 49 q14 [42] ?_
   obtain⟨u,rfl,hd⟩:=h
   refine eH 2 [43] [(45,Vq u)]<|have⟨y,q15,h⟩:=hd;hH 46 52 q15 [45] ?_
   obtain⟨aa,rfl,he⟩:=h
   refine eH 2 [46] [(48,Vq aa)] ?_
   obtain⟨p,q16,h⟩:=he
   refine hH 49 78 q16 [48]<|eH 4 [12,13] [(52,vi (zY (ra+b))),(53,vu f)]<|zC (some 54) h ?_;clear h
   rintro af H4 ⟨ac,rfl,h⟩
   exact kc [49,52,53] []<|zq<|aA<|aC<|oo 10<|eT 2 [35] [(35,vi (zY (b+1)))]<|aR ((zY (b+1)):Int) sk h
  exact aK 36 (zQ c10)<|zk 0<|aB<|aB<|aN<|aC<|ar 11<|va 2 [(56,vi j),(57,vi ra)]<|zI 58 (λm n=>[(58,.tuple #[vu m,vi n])]) h λm n H5 h=>kb 4 [8,9] [vu m,vi n] hQ h
 exact aJ 31 (CY.mpr c5)<|ar 5<|kb 3 [8,9] [vu 0,vi rb] hQ h
def lh.K0:=EP f44
def lh.pt(a:Int)(H:zV)(R:zv):=
 if((a==2) || (a==3))=true then(
 R (vi 3) H)
 else
 R (vi 2) H
theorem lh.link(h:pt d H R):C d H R:=by
 refine sa K0 9 func44 ?_
 intro w0 Q hQ
 unfold pt at h
 refine nx [(0,vi d)]<|ar 0<|eT 1 [] []<|ge<|ar 1<|iX [(8,.bool ((d==2) || (d==3)))] ?_ ?_
 ·refine aC<|qx h (λc3 h=>?_) (λc3 h=>?_)
  ·exact aJ 8 c3<|ar 2<|kb 1 [2] [vi 3] hQ h
  exact aK 8 (zZ c3)<|nc<|ar 3<|kb 1 [2] [vi 2] hQ h
 refine λhk=>va 3 [(0,vi d),(5,.bool (d==2))] ?_
 by_cases c1:d=2
 ·have b2:(d==2)=true:=zK c1
  exact cD [(0,vi d),(5,VT)] (by rw[b2])<|va 3 [(8,VT)]<|zq<|iT [(8,.bool ((d==2) || (d==3)))] (by simp only[b2,BL])<|hk
 have b2:(d==2)=false:=zJ c1
 exact cD [(0,vi d),(5,VF)] (by rw[b2])<|va 3 [(8,.bool (d==3))]<|zq<|iT [(8,.bool ((d==2) || (d==3)))] (by simp only[b2,BL])<|hk
def cE.K0:=EP f73
def cE.K2:=cb K0
def cE.K3:=ca K2
def cE.K6:=cb K3
def cE.K7:=ca K6
def cE.K8:=ca K7
def cE.pt(hv:zW)(wv:Int)(H:zV)(R:zv):=
 ∃(I9:zw) (m9:Int->zV->Nat),I9 0 H/\ ∀a H1,I9 a H1->
 if a<2 then(
 ∃x,((0<=a/\a< (2:Int))/\(#[vi 2,vi 3]:Array Value)[Int.toNat a]?=some (vi x))/\
 gX.C hv wv 3 x H1 (λv H2=> ∃ra rb,v=.tuple #[vi ra,.bool rb]/\
 if rb=true then(
 ∃e,hv=some e/\
 ∃ab,hat H2 e=some (vp ab)/\
 ∃ah,ab=some ah/\
 ∃ac,hat H2 ah=some (vp ac)/\
 ∃ae,ac=some ae/\
 ∃y,hat H2 ae=some (vp y)/\
 cG.C y ra H2 (λam H3=> ∃p aj,am=.tuple #[vu p,vi aj]/\
 kj.C p H3 (λan H4=> ∃f d rc rd,an=.tuple #[vi f,vi d,vu rc,.bool rd]/\
 ∃aa,hat H4 e=some (vp aa)/\
 ∃af,aa=some af/\
 ∃ag,hat H4 af=some (vp ag)/\
 ∃ai,ag=some ai/\
 ∃z,hat H4 ai=some (vp z)/\
 bB.C z (zY (Int.tdiv ra 64)) H4 (λak H5=> ∃o m r j k g i s,ak=.tuple #[.agg #[vi o,vi m,vi r,vi j,vi k,vi g,vi i],.bool s]/\
 ∀b H6,b=H5.size->H6=H5.push (.cells #[vi 0,vi 0,vi 0,vi 0,vi 0,vi 0,vi 0] 108)->
 (aH H6 (ad b) 0 7)/\ ∀H7,H7=aP H6 (ad b) [vi o,vi m,vi r,vi j,vi k,vi g,vi i] 0->
 if rd=true then(
 lh.C f H7 (λal H8=> ∃u,al=vi u/\
 if u=x then(
 ∃q,hat H8 ((ad b).add 2)=some (vi q)/\
 if(zY ((tmod ra 64)+d))<q then(
 R (.tuple #[vi ra,vi f,vi d,vu rc,VT]) H8)
 else
 (I9 (zY (a+1)) H8/\m9 (zY (a+1)) H8<m9 a H1))
 else
 (I9 (zY (a+1)) H8/\m9 (zY (a+1)) H8<m9 a H1)))
 else
 (I9 (zY (a+1)) H7/\m9 (zY (a+1)) H7<m9 a H1)))))
 else
 (I9 (zY (a+1)) H2/\m9 (zY (a+1)) H2<m9 a H1)))
 else
 R (.tuple #[vi 0,vi 0,vi 0,vu 0,VF]) H1
theorem cE.link(h:pt i d H R):C i d H R:=by
 refine sa K0 87 func73 ?_
 intro w0 Q hQ
 unfold pt zY at h
 refine nx [(0,vp i),(1,vu d)]<|ar 0<|eT 5 [] []<|ge<|ar 1<|eT 2 [] [(15,.agg #[vi 2,vi 3]),(16,vi 0)]<|p0 0<|have⟨I9,m9,i1,i2⟩:=h;bL (x:=K8) (σ:=Int) (λs_=> [(0,vp i),(1,vu d),(15,.agg #[vi 2,vi 3]),(16,vi s_)]) (λs_ H=>I9 s_ H) (λs_ H=>m9 s_ H) (0:Int) (by kernel_rfl) i1 sk ?_
 rintro a H1 i3
 have h:=i2 a H1 i3
 refine nx [(0,vp i),(1,vu d),(15,.agg #[vi 2,vi 3]),(16,vi a)]<|ar 2<|eT 1 [] [(17,.bool (decide (a<2)))]<|ge<|qx h (λc4 h=>?_) (λc4 h=>?_)
 ·refine aJ 17 (zX c4)<|nc<|ge<|p0 1<|ar 3<|yS [17] []<|have⟨x,q6,h⟩:=h;zd 18 (mL 181 (.agg #[vi 2,vi 3]) (vi a)) (vi x) (λw _=>kf (P:=prog) (t:=181) (elem:=3) (n:=2) underlying181 (λ_=>by kernel_rfl) (λ_=>by kernel_rfl) q6.1.1 q6.1.2 q6.2 w) []<|eT 1 [18] [(10,vi x)]<|ge<|ar 4<|eH 3 [] [(20,vp i),(21,vu d),(22,vi x)]<|yT 23 [20,21,22] h λra rb H2 h=>eT 5 [23] [(4,vi ra),(8,.bool rb)]<|ar 5<|eT 2 [8] [(27,.bool (!rb))]<|qx h (λc7 h=>?_) (λc7 h=>?_)
  ·refine aK 27 (CJ Bool.not (c7))<|nc<|ar 6<|eH 1 [27] [(29,vp i)] ?_
   obtain⟨e,rfl,ha⟩:=h
   refine eH 2 [0,29] [(0,Vq e),(31,Vq e)]<|have⟨ab,q9,h⟩:=ha;hH 32 49 q9 [31] ?_
   obtain⟨ah,rfl,hb⟩:=h
   refine eH 2 [32] [(34,Vq ah)]<|have⟨ac,q10,h⟩:=hb;hH 35 52 q10 [34] ?_
   obtain⟨ae,rfl,hc⟩:=h
   refine eH 2 [35] [(37,Vq ae)]<|have⟨y,q11,h⟩:=hc;hH 38 78 q11 [37]<|eH 1 [] [(39,vi ra)]<|yT 40 [38,39] h λp aj H3 h=>eT 5 [40] [(11,vu p)]<|ar 7<|eH 1 [11] [(44,vu p)]<|BD 45 [44] h λf wv rc rd H4 h=>eT 9 [45] [(5,vi f),(6,vi wv),(7,vu rc),(8,.bool rd)]<|ar 8<|eH 3 [] [(53,Vq e)]<|have⟨aa,q12,h⟩:=h;hH 54 49 q12 [53] ?_
   obtain⟨af,rfl,hd⟩:=h
   refine eH 2 [54] [(56,Vq af)]<|have⟨ag,q13,h⟩:=hd;hH 57 52 q13 [56] ?_
   obtain⟨ai,rfl,he⟩:=h
   refine eH 2 [57] [(59,Vq ai)]<|have⟨z,q14,h⟩:=he;hH 60 78 q14 [59]<|eH 2 [] [(62,vi (zY (Int.tdiv ra 64)))]<|zU 63 [60,62] h λo m r j k g hv s H5 h=>eH 3 [63] [(64,.agg #[vi o,vi m,vi r,vi j,vi k,vi g,vi hv]),(65,.bool s)]<|t1 (some 13) (λb=>vp (pa b)) (.cells #[vi 0,vi 0,vi 0,vi 0,vi 0,vi 0,vi 0] 108)<|λb H6 e15 e16=>have h:=h b H6 e15 e16;kc [] [(13,vp (pa b))]<|have⟨q18,h⟩:=h;fN 108 [vi o,vi m,vi r,vi j,vi k,vi g,vi hv] q18<|λH7 e17=>have h:=h H7 e17;kc [64] []<|eT 1 [65] []<|ar 9<|eH 2 [8] [(67,.bool rd)]<|qx h (λc19 h=>?_) (λc19 h=>?_)
   ·refine o0 67 c19<|eH 1 [] [(68,vi f)]<|sv 69 [68] h λu H8 h=>eH 4 [10,67,69] [(73,.bool (u==x))]<|qx h (λc21 h=>?_) (λc21 h=>?_)
    ·refine o0 73 (zK c21)<|eH 5 [13] [(77,vi (zY ((tmod ra 64)+wv))),(78,Vq ((ad b).add 2))]<|have⟨q,q23,h⟩:=h;hH 79 3 q23 [78]<|eT 2 [73,77,79] [(81,.bool (decide ((zY ((tmod ra 64)+wv))<q)))]<|qx h (λc24 h=>?_) (λc24 h=>?_)
     ·exact aJ 81 (zX c24)<|ar 10<|kb 9 [4,5,6,7,8] [vi ra,vi f,vi wv,vu rc,VT] hQ h
     exact aK 81 (zQ c24)<|zp<|aA<|aC<|oo 11<|eT 2 [4,5,6,7,16,81] [(16,vi (zY (a+1)))]<|aR ((zY (a+1)):Int) sk h
    exact o0 73 (zJ c21)<|eT 8 [13,73] [(81,VF)]<|yL 81<|zp<|aA<|aC<|oo 11<|eT 2 [4,5,6,7,16,81] [(16,vi (zY (a+1)))]<|aR ((zY (a+1)):Int) sk h
   exact o0 67 (zZ c19)<|eT 14 [10,13,67] [(81,VF)]<|yL 81<|zp<|aA<|aC<|oo 11<|eT 2 [4,5,6,7,16,81] [(16,vi (zY (a+1)))]<|aR ((zY (a+1)):Int) sk h
  exact aJ 27 (CJ Bool.not (zZ c7))<|zk 1<|aB<|aN<|aC<|oo 11<|eT 2 [4,10,16,27] [(16,vi (zY (a+1)))]<|aR ((zY (a+1)):Int) sk h
 exact aK 17 (zQ c4)<|zk 0<|aB<|aB<|aN<|aC<|ar 12<|kb 5 [4,5,6,7,8] [vi 0,vi 0,vi 0,vu 0,VF] hQ h
def eV.K0:=EP f85
def eV.pt(hv:zW)(wv a i:Int)(H:zV)(R:zv):=
 cE.C hv wv H (λv H1=> ∃ra rb rc rd re,v=.tuple #[vi ra,vi rb,vi rc,vu rd,.bool re]/\
 if((!re) || (rb !=a))=true then(
 R (.tuple #[vi 0,vi 3]) H1)
 else
 if((decide (i<0)) || (decide (i>=rc)))=true then(
 R (.tuple #[vi 0,vi 4]) H1)
 else
 R (.tuple #[vi (zY ((zY (ra+1))+i)),vi 0]) H1)
theorem eV.link(h:pt i d j k H R):C i d j k H R:=by
 refine sa K0 44 func85 ?_
 intro w0 Q hQ
 unfold pt zY at h
 refine nx [(0,vp i),(1,vu d),(2,vi j),(3,vi k)]<|ar 0<|eT 2 [] []<|ar 1<|eH 2 [0,1] [(16,vp i),(17,vu d)]<|BF 18 [16,17] h λra rb rc rd re H1 h=>eT 11 [18] [(10,vi ra),(11,vi rb),(12,vi rc),(14,.bool re)]<|ge<|p0 0<|ar 2<|iX [(3,vi k),(10,vi ra),(12,vi rc),(24,.bool ((!re) || (rb !=j)))] ?_ ?_
 ·refine aC<|qx h (λc3 h=>?_) (λc3 h=>?_)
  ·exact aJ 24 c3<|ar 3<|kb 2 [8,9] [vi 0,vi 3] hQ h
  refine aK 24 (zZ c3)<|ar 4<|iX [(3,vi k),(10,vi ra),(32,.bool ((decide (k<0)) || (decide (k>=rc))))] ?_ ?_
  ·refine aC<|qx h (λc7 h=>?_) (λc7 h=>?_)
   ·exact aJ 32 c7<|ar 5<|kb 2 [8,9] [vi 0,vi 4] hQ h
   exact aK 32 (zZ c7)<|zp<|aA<|aC<|ar 6<|kb 6 [8,9] [vi (zY ((zY (ra+1))+k)),vi 0] hQ h
  refine λhk=>va 3 [(3,vi k),(10,vi ra),(12,vi rc),(35,.bool (decide (k<0)))] ?_
  by_cases c5:k<0
  ·have b6:(decide (k<0))=true:=zX c5
   exact cD [(3,vi k),(10,vi ra),(12,vi rc),(35,VT)] (by rw[b6])<|eH 5 [12,35] [(32,VT)]<|zq<|xl 32 (b:=true) (v:=((decide (k<0)) || (decide (k>=rc)))) (by simp only[b6,BL])<|hk
  have b6:(decide (k<0))=false:=zQ c5
  exact cD [(3,vi k),(10,vi ra),(12,vi rc),(35,VF)] (by rw[b6])<|eH 5 [12,35] [(32,.bool (decide (k>=rc)))]<|zq<|xl 32 (b:=(decide (k>=rc))) (v:=((decide (k<0)) || (decide (k>=rc)))) (by simp only[b6,BL])<|hk
 refine λhk=>va 3 [(2,vi j),(3,vi k),(10,vi ra),(11,vi rb),(12,vi rc),(27,.bool (!re))] ?_
 by_cases c1:re=true
 ·have b2:(!re)=false:=CJ Bool.not (c1)
  have b22:re=true:=c1
  exact cD [(2,vi j),(3,vi k),(10,vi ra),(11,vi rb),(12,vi rc),(27,VF)] (by simp only[b2,b22,Da,C5])<|eH 5 [2,11,27] [(24,.bool (rb !=j))]<|zq<|xl 24 (b:=(rb !=j)) (v:=((!re) || (rb !=j))) (by simp only[b2,BL])<|hk
 have b2:(!re)=true:=CJ Bool.not (zZ c1)
 have b22:re=false:=zZ c1
 exact cD [(2,vi j),(3,vi k),(10,vi ra),(11,vi rb),(12,vi rc),(27,VT)] (by simp only[b2,b22,Da,C5])<|eH 5 [2,11,27] [(24,VT)]<|zq<|xl 24 (b:=true) (v:=((!re) || (rb !=j))) (by simp only[b2,BL])<|hk
def eW.K0:=EP f86
def eW.pt(hv:zW)(H:zV)(R:zv):=
 eU hv (
 R VT H) (λa=>
 ∃x,hat H a=some (vp x)/\
 eU x (
 R VT H) (λxA=>
 R VF H))
theorem eW.link(h:pt i H R):C i H R:=by
 refine sa K0 12 func86 ?_
 intro w0 Q hQ
 unfold pt at h
 refine nx [(0,vp i)]<|ar 0<|eT 1 [] []<|ar 1<|eH 1 [] [(3,vp i)] ?_
 rcases i with _ | a
 ·rw[CP]at h
  exact kb 9 [2] [VT] hQ h
 rw[CK]at h
 refine va 5 [(5,VF),(8,Vq a)]<|have⟨x,q1,h⟩:=h;hH 9 49 q1 [8] ?_
 rcases x with _ | xA
 ·rw[CP]at h
  exact kb 3 [2] [VT] hQ h
 rw[CK]at h
 exact kb 3 [2] [VF] hQ h
def cO.K0:=EP f101
def cO.pt(hv:zW)(wv:Int)(H:zV)(R:zv):=
 cE.C hv wv H (λv H1=> ∃ra rb rc rd re,v=.tuple #[vi ra,vi rb,vi rc,vu rd,.bool re]/\
 R (vi rc) H1)
theorem cO.link(h:pt i d H R):C i d H R:=by
 refine sa K0 20 func101 ?_
 intro w0 Q hQ
 unfold pt at h
 exact nx [(0,vp i),(1,vu d)]<|ar 0<|eT 1 [] []<|ar 1<|va 2 [(11,vp i),(12,vu d)]<|Bq 13 (λra rb rc rd re=>[(13,.tuple #[vi ra,vi rb,vi rc,vu rd,.bool re])]) h λra rb rc rd re H1 h=>u5 11 [(7,vi rc)]<|ar 2<|kb 2 [4] [vi rc] hQ h
def eN.K0:=EP f104
def eN.pt(hv:zW)(wv a i v:Int)(H:zV)(R:zv):=
 eV.C hv wv a i H (λe H1=> ∃ra rb,e=.tuple #[vi ra,vi rb]/\
 if rb=0 then(
 ∃d,hv=some d/\
 ∃x,hat H1 d=some (vp x)/\
 dM.C x ra v H1 (λf H2=> ∃b,f=vi b/\
 R (vi b) H2))
 else
 R (vi rb) H1)
theorem eN.link{v:Int}(h:pt i d j k v H R):C i d j k v H R:=by
 refine sa K0 31 func104 ?_
 intro w0 Q hQ
 unfold pt at h
 refine nx [(0,vp i),(1,vu d),(2,vi j),(3,vi k),(4,vu v)]<|ar 0<|eT 1 [] []<|ar 1<|eH 4 [1,2,3] [(14,vp i),(15,vu d),(16,vi j),(17,vi k)]<|yT 18 [14,15,16,17] h λra rb H1 h=>eT 5 [18] [(11,vi ra),(12,vi rb)]<|ge<|ar 2<|eT 2 [] [(22,.bool (rb !=0))]<|qx h (λc1 h=>?_) (λc1 h=>?_)
 ·refine aK 22 (CX.mpr c1)<|nc<|ar 4<|eH 1 [0,12,22] [(24,vp i)] ?_
  obtain⟨a,rfl,ha⟩:=h
  exact eH 2 [24] [(26,Vq a)]<|have⟨x,q3,h⟩:=ha;hH 27 49 q3 [26]<|eH 2 [4,11] [(28,vi ra),(29,vu v)]<|zo 30 (λb=>[(30,vi b)]) h λb H2 h=>kb 1 [10] [vi b] hQ h
 exact aJ 22 (CY.mpr c1)<|ar 3<|kb 2 [10] [vi rb] hQ h
def gX.K0:=EP f113
def gX.pt(hv:zW)(wv i a:Int)(H:zV)(R:zv):=
 gK.C wv H (λv H1=> ∃ra rb,v=.tuple #[vi ra,.bool rb]/\
 eW.C hv H1 (λab H2=> ∃x,ab=.bool x/\
 if x=true then(
 R (.tuple #[vi 0,VF]) H2)
 else
 if rb=true then(
 cM.C wv H2 (λac H3=> ∃q,ac=vi q/\
 if q=i then(
 ∃y,hv=some y/\
 ∃s,hat H3 y=some (vp s)/\
 ∃t,s=some t/\
 ∃u,hat H3 t=some (vp u)/\
 ∃z,u=some z/\
 ∃r,hat H3 z=some (vp r)/\
 bB.C r (zY (Int.tdiv ra 64)) H3 (λaa H4=> ∃m k p f g d e j,aa=.tuple #[.agg #[vi m,vi k,vi p,vi f,vi g,vi d,vi e],.bool j]/\
 ∀b H5,b=H4.size->H5=H4.push (.cells #[vi 0,vi 0,vi 0,vi 0,vi 0,vi 0,vi 0] 108)->
 (aH H5 (ad b) 0 7)/\ ∀H6,H6=aP H5 (ad b) [vi m,vi k,vi p,vi f,vi g,vi d,vi e] 0->
 if j=true then(
 ∃n,hat H6 ((ad b).add 1)=some (vi n)/\
 if n=a then(
 ∃o,hat H6 ((ad b).add 2)=some (vi o)/\
 R (.tuple #[vi ra,.bool (decide ((tmod ra 64)<o))]) H6)
 else
 R (.tuple #[vi ra,VF]) H6)
 else
 R (.tuple #[vi ra,VF]) H6))
 else
 R (.tuple #[vi 0,VF]) H3))
 else
 R (.tuple #[vi 0,VF]) H2))
theorem gX.link(h:pt i d j k H R):C i d j k H R:=by
 refine sa K0 61 func113 ?_
 intro w0 Q hQ
 unfold pt zY at h
 refine nx [(0,vp i),(1,vu d),(2,vi j),(3,vi k)]<|ar 0<|eT 2 [] []<|ar 1<|eH 1 [] [(14,vu d)]<|yT 15 [14] h λra rb H1 h=>eT 5 [15] [(10,vi ra),(11,.bool rb)]<|ge<|ar 2<|eH 1 [] [(18,vp i)]<|sv 19 [18] h λx H2 h=>eH 1 [19] [(20,.bool x)]<|qx h (λc1 h=>?_) (λc1 h=>?_)
 ·exact o0 20 c1<|eT 9 [1,2,11,20] [(29,VT)]<|wc 29<|ar 3<|kb 2 [8,9] [vi 0,VF] hQ h
 refine o0 20 (zZ c1)<|eH 4 [11,20] [(24,.bool (!rb))]<|qx h (λc3 h=>?_) (λc3 h=>?_)
 ·have b4:(!rb)=false:=CJ Bool.not (c3)
  have b42:rb=true:=c3
  refine o0 24 (b:=(!rb)) (v:=false) (by simp only[b4,b42,Da,C5]) ?_
  clear b4 b42
  refine eH 1 [1] [(25,vu d)]<|sv 26 [25] h λq H3 h=>eT 3 [2,24,26] [(29,.bool (q !=j))]<|qx h (λc5 h=>?_) (λc5 h=>?_)
  ·refine aK 29 (CX.mpr c5)<|nc<|ar 4<|eH 1 [0,29] [(31,vp i)] ?_
   obtain⟨y,rfl,ha⟩:=h
   refine eH 2 [31] [(33,Vq y)]<|have⟨s,q7,h⟩:=ha;hH 34 49 q7 [33] ?_
   obtain⟨t,rfl,hb⟩:=h
   refine eH 2 [34] [(36,Vq t)]<|have⟨u,q8,h⟩:=hb;hH 37 52 q8 [36] ?_
   obtain⟨z,rfl,hc⟩:=h
   refine eH 2 [37] [(39,Vq z)]<|have⟨r,q9,h⟩:=hc;hH 40 78 q9 [39]<|eH 2 [] [(42,vi (zY (Int.tdiv ra 64)))]<|zU 43 [40,42] h λm hv p f g a e wv H4 h=>eH 3 [43] [(44,.agg #[vi m,vi hv,vi p,vi f,vi g,vi a,vi e]),(45,.bool wv)]<|t1 (some 12) (λb=>vp (pa b)) (.cells #[vi 0,vi 0,vi 0,vi 0,vi 0,vi 0,vi 0] 108)<|λb H5 e10 e11=>have h:=h b H5 e10 e11;kc [] [(12,vp (pa b))]<|have⟨q13,h⟩:=h;fN 108 [vi m,vi hv,vi p,vi f,vi g,vi a,vi e] q13<|λH6 e12=>have h:=h H6 e12;kc [44] []<|eT 1 [45] [(11,.bool wv)]<|ge<|qV 5<|u8 46 (vi ra) []<|u8 47 (.bool wv) [11]<|u8 48 (.bool wv) [47]<|qx h (λc14 h=>?_) (λc14 h=>?_)
   ·refine Ba 48 c14<|u8 49 (Vq ((ad b).add 1)) []<|have⟨n,q16,h⟩:=h;np (some 50) 3 q16 [49] [(50,vi n)]<|u8 51 (vi k) [3]<|u8 52 (.bool (n==k)) [50,51]<|u8 53 (.bool (n==k)) [48,52]<|u8 54 (.bool (n==k)) [53]<|qx h (λc17 h=>?_) (λc17 h=>?_)
    ·exact Ba 54 (zK c17)<|u8 55 (vi ra) [10]<|u8 56 (vi (tmod ra 64)) [55]<|u8 57 (Vq ((ad b).add 2)) [12]<|have⟨o,q19,h⟩:=h;np (some 58) 3 q19 [57] [(58,vi o)]<|u8 59 (.bool (decide ((tmod ra 64)<o))) [56,58]<|u8 60 (.bool (decide ((tmod ra 64)<o))) [54,59]<|u8 8 (vi ra) [46]<|u8 9 (.bool (decide ((tmod ra 64)<o))) [60]<|ni [(8,vi ra),(9,.bool (decide ((tmod ra 64)<o)))] sk<|AC<|hX [8,9] [vi ra,.bool (decide ((tmod ra 64)<o))] hQ h
    exact Ba 54 (zJ c17)<|u8 55 (undef) [10]<|u8 56 (undef) [55]<|u8 57 (undef) [12]<|u8 58 (undef) [57]<|u8 59 (undef) [56,58]<|u8 60 VF [54,59]<|u8 8 (vi ra) [46]<|u8 9 VF [60]<|ni [(8,vi ra),(9,VF)] sk<|AC<|hX [8,9] [vi ra,VF] hQ h
   exact Ba 48 (zZ c14)<|u8 49 (undef) []<|u8 50 (undef) [49]<|u8 51 (undef) [3]<|u8 52 (undef) [50,51]<|u8 53 VF [48,52]<|u8 54 VF [53]<|u8 55 (undef) [10]<|u8 56 (undef) [55]<|u8 57 (undef) [12]<|u8 58 (undef) [57]<|u8 59 (undef) [56,58]<|u8 60 VF [54,59]<|u8 8 (vi ra) [46]<|u8 9 VF [60]<|ni [(8,vi ra),(9,VF)] sk<|AC<|hX [8,9] [vi ra,VF] hQ h
  exact aJ 29 (CY.mpr c5)<|ar 3<|kb 2 [8,9] [vi 0,VF] hQ h
 have b4:(!rb)=true:=CJ Bool.not (zZ c3)
 have b42:rb=false:=zZ c3
 refine o0 24 (b:=(!rb)) (v:=true) (by simp only[b4,b42,Da,C5]) ?_
 clear b4 b42
 exact eT 5 [1,2,24] [(29,VT)]<|wc 29<|ar 3<|kb 2 [8,9] [vi 0,VF] hQ h
def eI.K0:=EP f122
def eI.pt(hv:zW)(wv:Int)(H:zV)(R:zv):=
 cE.C hv wv H (λv H1=> ∃ra rb rc rd re,v=.tuple #[vi ra,vi rb,vi rc,vu rd,.bool re]/\
 R (vu rd) H1)
theorem eI.link(h:pt i d H R):C i d H R:=by
 refine sa K0 20 func122 ?_
 intro w0 Q hQ
 unfold pt at h
 exact nx [(0,vp i),(1,vu d)]<|ar 0<|eT 1 [] []<|ar 1<|va 2 [(11,vp i),(12,vu d)]<|Bq 13 (λra rb rc rd re=>[(13,.tuple #[vi ra,vi rb,vi rc,vu rd,.bool re])]) h λra rb rc rd re H1 h=>u5 11 [(8,vu rd)]<|ar 2<|kb 2 [4] [vu rd] hQ h
end Go.Proofs.YtfhbhckhmnleoaaGreat
namespace Go.Proofs.YtfhbhckhmnleoaaGreat
open Go Go.Proofs.Tryz
variable{H:zV}{d:zW}{R:zv}
namespace bR
def K0:=EP f22
def K2:=cb K0
def K4:=cb K2
def zy:=cb K4
def Aq:=ca zy
def Ay:=cb Aq
def Aa:=ca Ay
def An:=ca Aa
end bR
def bR.pt(s o:zW)(m n:Nat)(H:zV)(R:zv):=
 cV.C s H (λv H1=> ∃x,v=.bool x/\
 if x=true then(
 R (vi 0) H1)
 else
 ∃sA,s=some sA/\
 ∃aa,hat H1 sA=some (vp aa)/\
 cH.C aa o m n H1 (λae H2=> ∃xB xN xC,ae=vs xB xN xC/\
 ∃(ac:Int->zw) (m19:Int->Int->zV->Nat),ac 0 0 H2/\ ∀d s19 H3,ac d s19 H3->
 if s19< (xN:Int)then(
 ∃p,xB=some p/\
 yZ s19 xN/\
 ∃u,hat H3 (p.add (Int.toNat s19*1))=some (vi u)/\
 ∃ab,hat H3 sA=some (vp ab)/\
 bB.C ab u H3 (λaf H4=> ∃r q z g j e f rb,af=.tuple #[.agg #[vi r,vi q,vi z,vi g,vi j,vi e,vi f],.bool rb]/\
 ∀b H5,b=H4.size->H5=H4.push (.cells #[vi 0,vi 0,vi 0,vi 0,vi 0,vi 0,vi 0] 108)->
 (aH H5 (ad b) 0 7)/\ ∀H6,H6=aP H5 (ad b) [vi r,vi q,vi z,vi g,vi j,vi e,vi f] 0->
 ∃y,hat H6 ((ad b).add 2)=some (vi y)/\
 (ac (zY (d+y)) (zY (s19+1)) H6/\m19 (zY (d+y)) (zY (s19+1)) H6<m19 d s19 H3)))
 else
 R (vi d) H3))
theorem bR.link{o:zW}{m n:Nat}(h:pt d o m n H R):C d o m n H R:=by
 refine sa K0 38 func22 ?_
 intro w0 Q hQ
 unfold pt zY at h
 refine nx [(0,vp d),(1,vs o m n)]<|ar 0<|eT 1 [] []<|ge<|ar 1<|eH 1 [] [(10,vp d)]<|sv 11 [10] h λx H1 h=>yH<|qx h (λc1 h=>?_) (λc1 h=>?_)
 ·exact aJ 11 c1<|ar 2<|kb 1 [4] [vi 0] hQ h
 refine aK 11 (zZ c1)<|nc<|ar 3<|eT 1 [11] [(5,vi 0)]<|ge<|ar 4<|eH 1 [] [(12,vp d)] ?_
 obtain⟨sA,rfl,ha⟩:=h
 refine eH 2 [0,12] [(0,Vq sA),(14,Vq sA)]<|have⟨aa,q3,h⟩:=ha;hH 15 78 q3 [14]<|eH 1 [1] [(16,vs o m n)]<|zO 17 [15,16] h λxB xN xC H2 h=>eT 2 [] [(18,vi xN),(19,vi 0)]<|p0 0<|have⟨ac,m19,i4,i5⟩:=h;bL (x:=An) (σ:=Int×Int) (λs_=> [(0,Vq sA),(5,vi s_.1),(17,vs xB xN xC),(18,vi xN),(19,vi s_.2)]) (λs_ H=>ac s_.1 s_.2 H) (λs_ H=>m19 s_.1 s_.2 H) ((0,0):Int×Int) (by kernel_rfl) i4 sk ?_
 rintro⟨s,s19⟩ H3 i6
 have h:=i5 s s19 H3 i6
 refine nx [(0,Vq sA),(5,vi s),(17,vs xB xN xC),(18,vi xN),(19,vi s19)]<|ar 5<|eT 1 [] [(20,.bool (decide (s19< (xN:Int))))]<|ge<|qx h (λc7 h=>?_) (λc7 h=>?_)
 ·refine aJ 20 (zX c7)<|nc<|ge<|p0 1<|ar 6<|yS [20] [] ?_
  obtain⟨p,rfl,q9,hb⟩:=h
  exact yI (some 21) 75 3 1 p xN xC .i64 s19 C3 q9.1 q9.2 [17] [(17,vs (some p) xN xC),(21,Vq (p.add (Int.toNat s19*1)))]<|have⟨u,q10,h⟩:=hb;hH 22 3 q10 [21]<|eT 1 [22] [(7,vi u)]<|ar 7<|eH 3 [] [(26,Vq sA)]<|have⟨ab,q11,h⟩:=h;hH 27 78 q11 [26]<|eH 1 [7] [(28,vi u)]<|zU 29 [27,28] h λr q z g j e f rb H4 h=>eH 3 [29] [(30,.agg #[vi r,vi q,vi z,vi g,vi j,vi e,vi f]),(31,.bool rb)]<|t1 (some 8) (λb=>vp (pa b)) (.cells #[vi 0,vi 0,vi 0,vi 0,vi 0,vi 0,vi 0] 108)<|λb H5 e12 e13=>have h:=h b H5 e12 e13;kc [] [(8,vp (pa b))]<|have⟨q15,h⟩:=h;fN 108 [vi r,vi q,vi z,vi g,vi j,vi e,vi f] q15<|λH6 e14=>have h:=h H6 e14;kc [30] []<|eT 1 [31] []<|oo 8<|eH 2 [5,8] [(32,vi s),(33,Vq ((ad b).add 2))]<|have⟨y,q16,h⟩:=h;hH 34 3 q16 [33]<|eH 2 [32,34] [(5,vi (zY (s+y)))]<|zq<|aA<|aC<|oo 9<|eT 2 [19] [(19,vi (zY (s19+1)))]<|aR (((zY (s+y)),(zY (s19+1))):Int×Int) sk h
 exact aK 20 (zQ c7)<|zk 0<|aB<|aB<|aN<|aC<|ar 10<|kb 2 [4] [vi s] hQ h
namespace dU
def K0:=EP f48
def K2:=cb K0
def K8:=cb K2
def K9:=ca K8
def zS:=ca K9
def zy:=cb zS
def Ab:=cb zy
def Aa:=ca Ab
def Ar:=ca Aa
def AP:=cb Ar
def Au:=ca AP
def AM:=cb Au
def AH:=ca AM
def Aw:=ca AH
end dU
def dU.pt(s e:zW)(b d:Nat)(H:zV)(R:zv):=
 eU s (
 R (.tuple #[]) H) (λsA=>
 ∃(m:zw) (m11:Int->zV->Nat),m 0 H/\ ∀s9 H1,m s9 H1->
 if s9<5 then(
 ∃(j:zw) (m28:Int->zV->Nat),j 0 H1/\ ∀g H2,j g H2->
 if g< (b:Int)then(
 ∃f,e=some f/\
 yZ g b/\
 ∃x,hat H2 (f.add (Int.toNat g*1))=some (vi x)/\
 if x=s9 then(
 yZ s9 5/\
 (aH H2 ((sA.add 1).add (Int.toNat s9*4)) 0 4)/\ ∀H3,H3=aP H2 ((sA.add 1).add (Int.toNat s9*4)) [vi 0,vi 0,vi 0,vi 0] 0->
 (j (zY (g+1)) H3/\m28 (zY (g+1)) H3<m28 g H2))
 else
 (j (zY (g+1)) H2/\m28 (zY (g+1)) H2<m28 g H2))
 else
 if(b:Int)=0 then(
 yZ s9 5/\
 (aH H2 ((sA.add 1).add (Int.toNat s9*4)) 0 4)/\ ∀H4,H4=aP H2 ((sA.add 1).add (Int.toNat s9*4)) [vi 0,vi 0,vi 0,vi 0] 0->
 (m (zY (s9+1)) H4/\m11 (zY (s9+1)) H4<m11 s9 H1))
 else
 (m (zY (s9+1)) H2/\m11 (zY (s9+1)) H2<m11 s9 H1))
 else
 R (.tuple #[]) H1)
theorem dU.link{e:zW}{b s:Nat}(h:pt d e b s H R):C d e b s H R:=by
 refine sa K0 38 func48 ?_
 intro w0 Q hQ
 unfold pt zY at h
 refine nx [(0,vp d),(1,vs e b s)]<|ge<|ar 0<|eH 1 [] [(7,vp d)] ?_
 rcases d with _ | sA
 ·rw[CP]at h
  exact eT 1 [0,7] [(0,vp none),(8,VT)]<|wc 8<|hX [] [] hQ h
 rw[CK]at h
 refine eT 1 [0,7] [(0,Vq sA),(8,VF)]<|yL 8<|nc<|ar 1<|eT 1 [8] [(9,vi 0)]<|p0 0<|have⟨m,m11,i1,i2⟩:=h;bL (x:=zS) (σ:=Int) (λs_=> [(0,Vq sA),(1,vs e b s),(9,vi s_)]) (λs_ H=>m s_ H) (λs_ H=>m11 s_ H) (0:Int) (by kernel_rfl) i1 sk ?_
 rintro s9 H1 i3
 have h:=i2 s9 H1 i3
 refine nx [(0,Vq sA),(1,vs e b s),(9,vi s9)]<|ar 2<|eT 1 [] [(10,.bool (decide (s9<5)))]<|ge<|qx h (λc4 h=>?_) (λc4 h=>?_)
 ·refine aJ 10 (zX c4)<|nc<|ge<|p0 1<|ar 3<|eT 2 [10] [(4,vi s9)]<|ge<|ar 4<|eT 3 [] [(12,vs e b s),(13,vi b),(14,vi 0)]<|p0 2<|have⟨j,m28,i6,i7⟩:=h;bL (x:=Aw) (σ:=Int) (λs_=> [(0,Vq sA),(1,vs e b s),(4,vi s9),(9,vi s9),(12,vs e b s),(13,vi b),(14,vi s_)]) (λs_ H=>j s_ H) (λs_ H=>m28 s_ H) (0:Int) (by kernel_rfl) i6 sk ?_
  rintro g H2 i8
  have h:=i7 g H2 i8
  refine nx [(0,Vq sA),(1,vs e b s),(4,vi s9),(9,vi s9),(12,vs e b s),(13,vi b),(14,vi g)]<|ar 5<|eT 1 [] [(15,.bool (decide (g< (b:Int))))]<|ge<|qx h (λc9 h=>?_) (λc9 h=>?_)
  ·refine aJ 15 (zX c9)<|nc<|ge<|p0 3<|ar 6<|yS [15] [] ?_
   obtain⟨f,rfl,q11,ha⟩:=h
   refine yI (some 16) 75 3 1 f b s .i64 g C3 q11.1 q11.2 [1,12] [(1,vs (some f) b s),(12,vs (some f) b s),(16,Vq (f.add (Int.toNat g*1)))]<|have⟨x,q12,h⟩:=ha;hH 17 3 q12 [16]<|eT 1 [17] [(6,vi x)]<|ar 7<|eT 3 [6] [(20,.bool (x==s9))]<|qx h (λc13 h=>?_) (λc13 h=>?_)
   ·exact aJ 20 (zK c13)<|oo 8<|eH 5 [20] [(22,vi s9),(23,.agg #[vi 0,vi 0,vi 0,vi 0]),(25,Vq (sA.add 1))]<|have⟨q15,h⟩:=h;zd 26 (bE 80 (Vq (sA.add 1)) (vi s9)) (Vq ((sA.add 1).add (Int.toNat s9*4))) (λw _=>bQ (P:=prog) (t:=80) (elem:=79) (sz:=4) (n:=5) (a:=(sA.add 1)) (k:=.i64) (i:=s9) Eh (λ_=>by kernel_rfl) q15.1 q15.2 w) [22,25]<|have⟨q17,h⟩:=h;fN 79 [vi 0,vi 0,vi 0,vi 0] q17<|λH3 e16=>have h:=h H3 e16;kc [23,26] []<|zq<|aA<|aC<|oo 9<|eT 2 [14] [(14,vi (zY (g+1)))]<|aR ((zY (g+1)):Int) sk h
   exact aK 20 (zJ c13)<|zp<|aA<|aC<|oo 9<|eT 2 [14,20] [(14,vi (zY (g+1)))]<|aR ((zY (g+1)):Int) sk h
  refine aK 15 (zQ c9)<|zk 2<|aB<|aB<|aN<|aC<|ar 10<|eT 3 [12,13,14,15] [(30,.bool ((b:Int)==0))]<|qx h (λc18 h=>?_) (λc18 h=>?_)
  ·exact aJ 30 (zK c18)<|oo 11<|eH 5 [4,30] [(32,vi s9),(33,.agg #[vi 0,vi 0,vi 0,vi 0]),(35,Vq (sA.add 1))]<|have⟨q20,h⟩:=h;zd 36 (bE 80 (Vq (sA.add 1)) (vi s9)) (Vq ((sA.add 1).add (Int.toNat s9*4))) (λw _=>bQ (P:=prog) (t:=80) (elem:=79) (sz:=4) (n:=5) (a:=(sA.add 1)) (k:=.i64) (i:=s9) Eh (λ_=>by kernel_rfl) q20.1 q20.2 w) [32,35]<|have⟨q22,h⟩:=h;fN 79 [vi 0,vi 0,vi 0,vi 0] q22<|λH4 e21=>have h:=h H4 e21;kc [33,36] []<|zq<|aA<|aC<|oo 12<|eT 2 [9] [(9,vi (zY (s9+1)))]<|aR ((zY (s9+1)):Int) sk h
  exact aK 30 (zJ c18)<|zp<|aA<|aC<|oo 12<|eT 2 [4,9,30] [(9,vi (zY (s9+1)))]<|aR ((zY (s9+1)):Int) sk h
 exact aK 10 (zQ c4)<|zk 0<|aB<|aB<|aN<|gH (fn:=f48) [] hQ (show bV _ _ _ [] _ from .nil) h
namespace eL
def K0:=EP f63
def K2:=cb K0
def K4:=cb K2
def K11:=ca K4
def Ab:=cb K11
def Ay:=cb Ab
def Aa:=ca Ay
end eL
def eL.pt(s:zW)(d:Int)(H:zV)(R:zv):=
 cV.C s H (λv H1=> ∃x,v=.bool x/\
 if x=true then(
 R (vi 19) H1)
 else
 ∃sA,s=some sA/\
 ∃af,hat H1 sA=some (vp af)/\
 bB.C af d H1 (λak H2=> ∃r p ab g j e f rb,ak=.tuple #[.agg #[vi r,vi p,vi ab,vi g,vi j,vi e,vi f],.bool rb]/\
 ∀b H3,b=H2.size->H3=H2.push (.cells #[vi 0,vi 0,vi 0,vi 0,vi 0,vi 0,vi 0] 108)->
 (aH H3 (ad b) 0 7)/\ ∀H4,H4=aP H3 (ad b) [vi r,vi p,vi ab,vi g,vi j,vi e,vi f] 0->
 if rb=true then(
 ∃o,hat H4 (ad b)=some (vi o)/\
 ∃y,hat H4 ((ad b).add 1)=some (vi y)/\
 yZ o 5/\
 yZ y 4/\
 ∃u,hat H4 (((sA.add 1).add (Int.toNat o*4)).add (Int.toNat y*1))=some (vi u)/\
 if u=(zY (d+1))then(
 ∃m,hat H4 (ad b)=some (vi m)/\
 ∃q,hat H4 ((ad b).add 1)=some (vi q)/\
 yZ m 5/\
 yZ q 4/\
 (aH H4 (((sA.add 1).add (Int.toNat m*4)).add (Int.toNat q*1)) 0 1)/\ ∀H5,H5=aP H4 (((sA.add 1).add (Int.toNat m*4)).add (Int.toNat q*1)) [vi 0] 0->
 ∃ag,hat H5 sA=some (vp ag)/\
 fX.C ag d H5 (λal H6=> ∃ah,al=vi ah/\
 R (vi ah) H6))
 else
 ∃z,hat H4 sA=some (vp z)/\
 fX.C z d H4 (λai H7=> ∃ae,ai=vi ae/\
 R (vi ae) H7))
 else
 ∃aa,hat H4 sA=some (vp aa)/\
 fX.C aa d H4 (λaj H8=> ∃ac,aj=vi ac/\
 R (vi ac) H8)))
theorem eL.link{s:Int}(h:pt d s H R):C d s H R:=by
 refine sa K0 49 func63 ?_
 intro w0 Q hQ
 unfold pt zY at h
 refine nx [(0,vp d),(1,vi s)]<|ar 0<|eT 1 [] []<|ge<|ar 1<|eH 1 [] [(7,vp d)]<|sv 8 [7] h λx H1 h=>yH<|qx h (λc1 h=>?_) (λc1 h=>?_)
 ·exact aJ 8 c1<|ar 2<|kb 1 [4] [vi 19] hQ h
 refine aK 8 (zZ c1)<|nc<|ge<|ar 3<|eH 1 [8] [(10,vp d)] ?_
 obtain⟨sA,rfl,ha⟩:=h
 refine eH 2 [0,10] [(0,Vq sA),(12,Vq sA)]<|have⟨af,q3,h⟩:=ha;hH 13 78 q3 [12]<|eH 1 [] [(14,vi s)]<|zU 15 [13,14] h λr p ab g j e f rb H2 h=>eH 3 [15] [(16,.agg #[vi r,vi p,vi ab,vi g,vi j,vi e,vi f]),(17,.bool rb)]<|t1 (some 5) (λb=>vp (pa b)) (.cells #[vi 0,vi 0,vi 0,vi 0,vi 0,vi 0,vi 0] 108)<|λb H3 e4 e5=>have h:=h b H3 e4 e5;kc [] [(5,vp (pa b))]<|have⟨q7,h⟩:=h;fN 108 [vi r,vi p,vi ab,vi g,vi j,vi e,vi f] q7<|λH4 e6=>have h:=h H4 e6;kc [16] []<|eT 1 [17] [(6,.bool rb)]<|ge<|qV 4<|u8 18 (.bool rb) [6]<|u8 19 (.bool rb) [18]<|qx h (λc8 h=>?_) (λc8 h=>?_)
 ·refine Ba 19 c8<|u8 20 (Vq sA) []<|u8 21 (vp (pa b)) []<|have⟨o,q10,h⟩:=h;np (some 22) 3 q10 [21] [(22,vi o)]<|u8 23 (Vq ((ad b).add 1)) []<|have⟨y,q11,h⟩:=h;np (some 24) 3 q11 [23] [(24,vi y)]<|u8 25 (Vq sA) [20]<|u8 26 (Vq (sA.add 1)) [25]<|have⟨q12,h⟩:=h;AD (some 27) (bE 80 (vp (some (sA.add 1))) (vi o)) (vp (some ((sA.add 1).add (Int.toNat o*4)))) (λ_=>by kernel_rfl) (λw _=>bQ (P:=prog) (t:=80) (elem:=79) (sz:=4) (n:=5) (a:=(sA.add 1)) (k:=.i64) (i:=o) Eh (λ_=>by kernel_rfl) q12.1 q12.2 w) [(0,vp (some sA)),(1,vi s),(5,vp (pa b)),(19,.bool true),(24,vi y),(27,vp (some ((sA.add 1).add (Int.toNat o*4))))] pk<|have⟨q13,h⟩:=h;AD (some 28) (bE 79 (vp (some ((sA.add 1).add (Int.toNat o*4)))) (vi y)) (vp (some (((sA.add 1).add (Int.toNat o*4)).add (Int.toNat y*1)))) (λ_=>by kernel_rfl) (λw _=>bQ (P:=prog) (t:=79) (elem:=3) (sz:=1) (n:=4) (a:=((sA.add 1).add (Int.toNat o*4))) (k:=.i64) (i:=y) DN (λ_=>by kernel_rfl) q13.1 q13.2 w) [(0,vp (some sA)),(1,vi s),(5,vp (pa b)),(19,.bool true),(28,vp (some (((sA.add 1).add (Int.toNat o*4)).add (Int.toNat y*1))))] pk<|have⟨u,q14,h⟩:=h;B8 (some 29) 3 q14 [(0,Vq sA),(1,vi s),(5,vp (pa b)),(19,VT),(29,vi u)]<|u8 30 (vi s) []<|u8 31 (vi (zY (s+1))) [30]<|u8 32 (.bool (u==(zY (s+1)))) [29,31]<|u8 33 (.bool (u==(zY (s+1)))) [19,32]<|ni [(0,Vq sA),(1,vi s),(5,vp (pa b)),(33,.bool (u==(zY (s+1))))] sk<|AC<|qx h (λc15 h=>?_) (λc15 h=>?_)
  ·refine aJ 33 (zK c15)<|have⟨m,q17,q,q18,q19,q20,h⟩:=h;yq 5 (Code.ops Aa) [(9,(ad b),[vi m]),(9,((ad b).add 1),[vi q])] 10 (bv 10 0) (show aE _ _ _ from⟨⟨q17,EO⟩,⟨q18,EO⟩,EO⟩)<|zr 0 (some 34) (vp (some sA)) (bv 10 1) [(0,vp (some sA)),(1,vi s),(5,vp (pa b)),(34,vp (some sA))]<|aG 1 35 (vp (pa b)) (bv 10 3) []<|kT 2 36 (vi m) (bv 10 7) [35] (aQ 3 (vp (pa b))) (yY 9 yX)<|aG 3 37 (vp (some ((ad b).add 1))) (bv 10 15) [5]<|kT 4 38 (vi q) (bv 10 31) [37] (aQ 3 (vp (some ((ad b).add 1)))) (yY 9 yQ)<|aG 5 39 (vp (some sA)) (bv 10 63) [34]<|aG 6 40 (vp (some (sA.add 1))) (bv 10 127) [39]<|kT 7 41 (vp (some ((sA.add 1).add (Int.toNat m*4)))) (bv 10 255) [36,40] (bE 80 (vp (some (sA.add 1))) (vi m)) (λ_ w _ _ _=>bQ (P:=prog) (t:=80) (elem:=79) (sz:=4) (n:=5) (a:=(sA.add 1)) (k:=.i64) (i:=m) Eh (λ_=>by kernel_rfl) q19.1 q19.2 w)<|kT 8 42 (vp (some (((sA.add 1).add (Int.toNat m*4)).add (Int.toNat q*1)))) (bv 10 511) [38,41] (bE 79 (vp (some ((sA.add 1).add (Int.toNat m*4)))) (vi q)) (λ_ w _ _ _=>bQ (P:=prog) (t:=79) (elem:=3) (sz:=1) (n:=4) (a:=((sA.add 1).add (Int.toNat m*4))) (k:=.i64) (i:=q) DN (λ_=>by kernel_rfl) q20.1 q20.2 w)<|have⟨q22,h⟩:=h;fH 9 none (bv 10 1023) (jJ 3 (Vq (((sA.add 1).add (Int.toNat m*4)).add (Int.toNat q*1))) (vi 0)) (λHz=>Hz=aP H4 (((sA.add 1).add (Int.toNat m*4)).add (Int.toNat q*1)) [vi 0] 0) (by kernel_rfl) (λ_=>by kernel_rfl) (iR [vi 0] 1 (by kernel_rfl) (by kernel_rfl) (λ_=>by kernel_rfl) (by kernel_rfl) q22) (by kernel_rfl)<|λH5 e21=>have h:=h H5 e21;⟨[(0,Vq sA),(1,vi s)],pk,(show aE _ _ _ from⟨EO,EO,EO⟩),?_⟩
   exact eq [(0,Vq sA),(1,vi s)] sk<|yz<|aC<|ar 6<|va 3 [(1,vi s),(45,Vq sA)]<|have⟨ag,q23,h⟩:=h;hH 46 78 q23 [45]<|eH 1 [1] [(47,vi s)]<|zo 48 (λah=>[(48,vi ah)]) h λah H6 h=>kb 1 [4] [vi ah] hQ h
  exact aK 33 (zJ c15)<|nc<|ar 6<|va 3 [(1,vi s),(45,Vq sA)]<|have⟨z,q24,h⟩:=h;hH 46 78 q24 [45]<|eH 1 [1] [(47,vi s)]<|zo 48 (λae=>[(48,vi ae)]) h λae H7 h=>kb 1 [4] [vi ae] hQ h
 exact Ba 19 (zZ c8)<|u8 20 (undef) []<|u8 21 (undef) []<|u8 22 (undef) [21]<|u8 23 (undef) []<|u8 24 (undef) [23]<|u8 25 (undef) [20]<|u8 26 (undef) [25]<|u8 27 (undef) [22,26]<|u8 28 (undef) [24,27]<|u8 29 (undef) [28]<|u8 30 (undef) []<|u8 31 (undef) [30]<|u8 32 (undef) [29,31]<|u8 33 VF [19,32]<|ni [(0,Vq sA),(1,vi s),(5,vp (pa b)),(33,VF)] sk<|AC<|yL 33<|nc<|ar 6<|va 3 [(1,vi s),(45,Vq sA)]<|have⟨aa,q25,h⟩:=h;hH 46 78 q25 [45]<|eH 1 [1] [(47,vi s)]<|zo 48 (λac=>[(48,vi ac)]) h λac H8 h=>kb 1 [4] [vi ac] hQ h
def eO.K0:=EP f151
def eO.K2:=cb K0
def eO.K4:=cb K2
def eO.K11:=ca K4
def eO.pt(s:zW)(H:zV)(R:zv):=
 eU s (
 R (vp none) H) (λsA=>
 ∃x,hat H sA=some (vp x)/\
 ∃y t i e n d q z g aa f r j k p o u m a ab,aL H (sA.add 1) 0 [vi y,vi t,vi i,vi e,vi n,vi d,vi q,vi z,vi g,vi aa,vi f,vi r,vi j,vi k,vi p,vi o,vi u,vi m,vi a,vi ab]/\
 iK.C x H (λv H1=> ∃ac,v=vp ac/\aL H1 (sA.add 1) 0 [vi y,vi t,vi i,vi e,vi n,vi d,vi q,vi z,vi g,vi aa,vi f,vi r,vi j,vi k,vi p,vi o,vi u,vi m,vi a,vi ab]/\
 ∀b H2,b=H1.size->H2=H1.push (.cells #[vp ac,vi y,vi t,vi i,vi e,vi n,vi d,vi q,vi z,vi g,vi aa,vi f,vi r,vi j,vi k,vi p,vi o,vi u,vi m,vi a,vi ab] 82)->
 R (Vq (ad b)) H2))
theorem eO.link(h:pt d H R):C d H R:=by
 refine sa K0 16 func151 ?_
 intro w0 Q hQ
 unfold pt at h
 refine nx [(0,vp d)]<|ar 0<|eT 1 [] []<|ge<|ar 1<|eH 1 [] [(3,vp d)] ?_
 rcases d with _ | sA
 ·rw[CP]at h
  exact u5 1 [(0,vp none),(4,VT)]<|wc 4<|ar 2<|kb 1 [2] [vp none] hQ h
 rw[CK]at h
 refine u5 1 [(0,Vq sA),(4,VF)]<|yL 4<|nc<|ge ?_
 obtain⟨x,q1,y,t,i,e,n,s,q,z,g,aa,f,r,j,k,p,o,u,m,a,ab,q2,h⟩:=h
 refine yq 3 (Code.ops K11) [(4,sA,[vp x]),(10,(sA.add 1),[vi y,vi t,vi i,vi e,vi n,vi s,vi q,vi z,vi g,vi aa,vi f,vi r,vi j,vi k,vi p,vi o,vi u,vi m,vi a,vi ab])] 12 (bv 12 0) (show aE _ _ _ from⟨⟨q1,EO⟩,q2,EO⟩)<|zr 0 (some 5) (Vq sA) (bv 12 1) [(0,Vq sA),(5,Vq sA)]<|aG 1 6 (Vq sA) (bv 12 3) [5]<|aG 2 7 (Vq sA) (bv 12 7) [6]<|kT 3 8 (vp x) (bv 12 15) [7] (aQ 78 (Vq sA)) (yY 4 yX)<|aG 5 10 (Vq sA) (bv 12 47) [0]<|aG 6 11 (Vq sA) (bv 12 111) [10]<|aG 7 12 (Vq (sA.add 1)) (bv 12 239) [11]<|kT 8 13 (.agg #[vi y,vi t,vi i,vi e,vi n,vi s,vi q,vi z,vi g,vi aa,vi f,vi r,vi j,vi k,vi p,vi o,vi u,vi m,vi a,vi ab]) (bv 12 495) [12] (aQ 80 (Vq (sA.add 1))) (lJ 10 (λ_=>by kernel_rfl) (λ_=>by kernel_rfl) yQ (.inl (by kernel_rfl)))<|yx 4 (some 9) (bv 12 511) 157 #[vp x] h ?_;clear h
 rintro v H1 ⟨ac,rfl,f3,h⟩
 refine⟨[(9,vp ac),(13,.agg #[vi y,vi t,vi i,vi e,vi n,vi s,vi q,vi z,vi g,vi aa,vi f,vi r,vi j,vi k,vi p,vi o,vi u,vi m,vi a,vi ab])],pk,(show aE _ _ _ from⟨EO,f3,EO⟩),?_⟩
 refine zB 9 (some 14) (.agg #[vp ac,vi y,vi t,vi i,vi e,vi n,vi s,vi q,vi z,vi g,vi aa,vi f,vi r,vi j,vi k,vi p,vi o,vi u,vi m,vi a,vi ab]) (bv 12 1023) [(14,.agg #[vp ac,vi y,vi t,vi i,vi e,vi n,vi s,vi q,vi z,vi g,vi aa,vi f,vi r,vi j,vi k,vi p,vi o,vi u,vi m,vi a,vi ab])] (pure (.value (.agg #[vp ac,vi y,vi t,vi i,vi e,vi n,vi s,vi q,vi z,vi g,vi aa,vi f,vi r,vi j,vi k,vi p,vi o,vi u,vi m,vi a,vi ab])):Sem Next) (λ_ _ _ _ _=>rfl)<|mO 10 (some 15) (bv 12 2047) (λb=>vp (pa b)) (.cells #[vp ac,vi y,vi t,vi i,vi e,vi n,vi s,vi q,vi z,vi g,vi aa,vi f,vi r,vi j,vi k,vi p,vi o,vi u,vi m,vi a,vi ab] 82) (by kernel_rfl) (λ_=>by kernel_rfl) (by kernel_rfl)<|λb H2 e4 e5=>have h:=h b H2 e4 e5;⟨[(15,vp (pa b))],pk,(show aE _ _ _ from⟨EO,EO,EO⟩),?_⟩
 exact zB 11 (some 2) (vp (pa b)) (bv 12 4095) [(2,vp (pa b))] (pure (.value (vp (pa b))):Sem Next) (λ_ _ _ _ _=>rfl)<|eq [(2,vp (pa b))] sk<|yz<|aC<|hX [2] [vp (pa b)] hQ h
variable{H:zV}{d:zW}{R:zv}{i:Int}
namespace eK
def K0:=EP f49
def K2:=cb K0
def K4:=cb K2
def zy:=cb K4
def Aq:=ca zy
def Ay:=cb Aq
def Aa:=ca Ay
def An:=ca Aa
def Al:=cb An
def Au:=cb Al
def AM:=ca Au
def Aw:=ca AM
def Av:=cb Aw
def Ae:=cb Av
def Af:=cb Ae
def Bv:=ca Af
def AV:=ca Bv
end eK
def eK.pt(c:zW)(g:Int)(H:zV)(R:zv):=
 cU.C c H (λv H1=> ∃x,v=.bool x/\
 if x=true then(
 R VN H1)
 else
 ∃cA,c=some cA/\
 ∃ak,hat H1 cA=some (vp ak)/\
 ∃am,ak=some am/\
 ∃ah,hat H1 am=some (vp ah)/\
 cH.C ah none 0 0 H1 (λao H2=> ∃xB xN xC,ao=vs xB xN xC/\
 ∃(an:zW->Nat->Nat->zw) (m19:zW->Nat->Nat->Int->zV->Nat),an none 0 0 0 H2/\ ∀lB lN lC s23 H3,an lB lN lC s23 H3->
 if s23< (xN:Int)then(
 ∃d,xB=some d/\
 yZ s23 xN/\
 ∃e,hat H3 (d.add (Int.toNat s23*1))=some (vi e)/\
 ∃aj,hat H3 cA=some (vp aj)/\
 ∃al,aj=some al/\
 ∃af,hat H3 al=some (vp af)/\
 bB.C af e H3 (λaq H4=> ∃ab y ac s u q r rb,aq=.tuple #[.agg #[vi ab,vi y,vi ac,vi s,vi u,vi q,vi r],.bool rb]/\
 ∀b H5,b=H4.size->H5=H4.push (.cells #[vi 0,vi 0,vi 0,vi 0,vi 0,vi 0,vi 0] 108)->
 (aH H5 (ad b) 0 7)/\ ∀H6,H6=aP H5 (ad b) [vi ab,vi y,vi ac,vi s,vi u,vi q,vi r] 0->
 ∃p m o j,aL H6 ((ad b).add 3) 0 [vi p,vi m,vi o,vi j]/\
 ∃(ag:zW->Nat->Nat->zw) (m36:zW->Nat->Nat->Int->zV->Nat),ag lB lN lC 0 H6/\ ∀f lN_2 lC_2 s41 H7,ag f lN_2 lC_2 s41 H7->
 if s41<4 then(
 ∃z,((0<=s41/\s41< (4:Int))/\(#[vi p,vi m,vi o,vi j]:Array Value)[Int.toNat s41]?=some (vi z))/\
 ∃aa,hat H7 (ad b)=some (vi aa)/\
 if((decide (aa>g)) && (decide (z<=g)))=true then(
 ∀ai H8,ai=H7.size->H8=H7.push (.cells #[vi e,vi s41] 127)->
 bH 2 127 16 [vi 0,vi 0] f lN_2 lC_2 (some (ad ai)) 1 H8 (λap ae H9=>
 (ag ap (lN_2+1) ae (zY (s41+1)) H9/\m36 ap (lN_2+1) ae (zY (s41+1)) H9<m36 f lN_2 lC_2 s41 H7)))
 else
 (ag f lN_2 lC_2 (zY (s41+1)) H7/\m36 f lN_2 lC_2 (zY (s41+1)) H7<m36 f lN_2 lC_2 s41 H7))
 else
 (an f lN_2 lC_2 (zY (s23+1)) H7/\m19 f lN_2 lC_2 (zY (s23+1)) H7<m19 lB lN lC s23 H3)))
 else
 R (vs lB lN lC) H3))
theorem eK.link(h:pt d i H R):C d i H R:=by
 refine sa K0 63 func49 ?_
 intro w0 Q hQ
 unfold pt zY at h
 refine nx [(0,vp d),(1,vi i)]<|ar 0<|eT 1 [] []<|ge<|ar 1<|eH 1 [] [(12,vp d)]<|sv 13 [12] h λx H1 h=>yH<|qx h (λc1 h=>?_) (λc1 h=>?_)
 ·exact aJ 13 c1<|ar 2<|kb 1 [4] [VN] hQ h
 refine aK 13 (zZ c1)<|nc<|ar 3<|eT 1 [13] [(5,VN)]<|ge<|ar 4<|eH 1 [] [(14,vp d)] ?_
 obtain⟨cA,rfl,ha⟩:=h
 refine eH 2 [0,14] [(0,Vq cA),(16,Vq cA)]<|have⟨ak,q3,h⟩:=ha;hH 17 52 q3 [16] ?_
 obtain⟨am,rfl,hb⟩:=h
 refine eH 2 [17] [(19,Vq am)]<|have⟨ah,q4,h⟩:=hb;hH 20 78 q4 [19]<|zO 21 [20] h λxB xN xC H2 h=>eT 2 [] [(22,vi xN),(23,vi 0)]<|p0 0<|have⟨an,m19,i5,i6⟩:=h;bL (x:=An) (σ:=zW×Nat×Nat×Int) (λs_=> [(0,Vq cA),(1,vi i),(5,vs s_.1 s_.2.1 s_.2.2.1),(21,vs xB xN xC),(22,vi xN),(23,vi s_.2.2.2)]) (λs_ H=>an s_.1 s_.2.1 s_.2.2.1 s_.2.2.2 H) (λs_ H=>m19 s_.1 s_.2.1 s_.2.2.1 s_.2.2.2 H) ((none,0,0,0):zW×Nat×Nat×Int) (by kernel_rfl) i5 sk ?_
 rintro⟨lB,lN,lC,s23⟩ H3 i7
 have h:=i6 lB lN lC s23 H3 i7
 refine nx [(0,Vq cA),(1,vi i),(5,vs lB lN lC),(21,vs xB xN xC),(22,vi xN),(23,vi s23)]<|ar 5<|eT 1 [] [(24,.bool (decide (s23< (xN:Int))))]<|ge<|qx h (λc8 h=>?_) (λc8 h=>?_)
 ·refine aJ 24 (zX c8)<|nc<|ge<|p0 1<|ar 6<|yS [24] [] ?_
  obtain⟨g,rfl,q10,hc⟩:=h
  refine yI (some 25) 75 3 1 g xN xC .i64 s23 C3 q10.1 q10.2 [21] [(21,vs (some g) xN xC),(25,Vq (g.add (Int.toNat s23*1)))]<|have⟨e,q11,h⟩:=hc;hH 26 3 q11 [25]<|eT 1 [26] [(7,vi e)]<|ar 7<|eH 3 [] [(30,Vq cA)]<|have⟨aj,q12,h⟩:=h;hH 31 52 q12 [30] ?_
  obtain⟨al,rfl,hd⟩:=h
  refine eH 2 [31] [(33,Vq al)]<|have⟨af,q13,h⟩:=hd;hH 34 78 q13 [33]<|eH 1 [] [(35,vi e)]<|zU 36 [34,35] h λab y ac s u q r rb H4 h=>eH 3 [36] [(37,.agg #[vi ab,vi y,vi ac,vi s,vi u,vi q,vi r]),(38,.bool rb)]<|t1 (some 8) (λb=>vp (pa b)) (.cells #[vi 0,vi 0,vi 0,vi 0,vi 0,vi 0,vi 0] 108)<|λb H5 e14 e15=>have h:=h b H5 e14 e15;kc [] [(8,vp (pa b))]<|have⟨q17,h⟩:=h;fN 108 [vi ab,vi y,vi ac,vi s,vi u,vi q,vi r] q17<|λH6 e16=>have h:=h H6 e16;kc [37] []<|eT 1 [38] []<|ar 8<|eH 1 [] [(39,Vq ((ad b).add 3))]<|have⟨p,m,o,j,q18,h⟩:=h;zN 40 79 q18 [39]<|eT 1 [] [(41,vi 0)]<|p0 2<|have⟨ag,m36,i19,i20⟩:=h;bL (x:=AV) (σ:=zW×Nat×Nat×Int) (λs_=> [(0,Vq cA),(1,vi i),(5,vs s_.1 s_.2.1 s_.2.2.1),(7,vi e),(8,vp (pa b)),(21,vs (some g) xN xC),(22,vi xN),(23,vi s23),(40,.agg #[vi p,vi m,vi o,vi j]),(41,vi s_.2.2.2)]) (λs_ H=>ag s_.1 s_.2.1 s_.2.2.1 s_.2.2.2 H) (λs_ H=>m36 s_.1 s_.2.1 s_.2.2.1 s_.2.2.2 H) ((lB,lN,lC,0):zW×Nat×Nat×Int) (by kernel_rfl) i19 sk ?_
  rintro⟨f,lN_2,lC_2,s41⟩ H7 i21
  have h:=i20 f lN_2 lC_2 s41 H7 i21
  refine nx [(0,Vq cA),(1,vi i),(5,vs f lN_2 lC_2),(7,vi e),(8,vp (pa b)),(21,vs (some g) xN xC),(22,vi xN),(23,vi s23),(40,.agg #[vi p,vi m,vi o,vi j]),(41,vi s41)]<|ar 9<|eT 1 [] [(42,.bool (decide (s41<4)))]<|ge<|qx h (λc22 h=>?_) (λc22 h=>?_)
  ·refine aJ 42 (zX c22)<|nc<|ge<|p0 3<|ar 10<|eH 1 [42] [(43,vi s41)]<|have⟨z,q24,h⟩:=h;zd 44 (mL 79 (.agg #[vi p,vi m,vi o,vi j]) (vi s41)) (vi z) (λw _=>kf (P:=prog) (t:=79) (elem:=3) (n:=4) DN (λ_=>by kernel_rfl) (λ_=>by kernel_rfl) q24.1.1 q24.1.2 q24.2 w) []<|eT 2 [43,44] [(10,vi s41),(11,vi z)]<|ar 11<|eH 1 [] [(45,vp (pa b))]<|have⟨aa,q25,h⟩:=h;hH 46 3 q25 [45]<|eH 3 [46] [(49,.bool (decide (aa>i)))]<|iX [(0,Vq cA),(1,vi i),(5,vs f lN_2 lC_2),(7,vi e),(8,vp (pa b)),(10,vi s41),(21,vs (some g) xN xC),(22,vi xN),(23,vi s23),(40,.agg #[vi p,vi m,vi o,vi j]),(41,vi s41),(53,.bool ((decide (aa>i)) && (decide (z<=i))))] ?_ ?_
   ·refine aC<|qx h (λc28 h=>?_) (λc28 h=>?_)
    ·refine aJ 53 c28<|oo 12<|va 4 [(0,Vq cA),(1,vi i),(7,vi e),(8,vp (pa b)),(21,vs (some g) xN xC),(22,vi xN),(23,vi s23),(40,.agg #[vi p,vi m,vi o,vi j]),(41,vi s41),(54,vs f lN_2 lC_2),(57,.agg #[vi e,vi s41])]<|t1 (some 58) (λb=>vs (pa b) 1 1) (.cells #[vi e,vi s41] 127) ?_
     intro ai H8 e30 e31
     replace h:=h ai H8 e30 e31
     refine kc [57] [(58,vs (pa ai) 1 1)]<|zi (some 59) (cF #[104,104] 104 #[vs f lN_2 lC_2,vs (pa ai) 1 1]) _ (λ_=>by kernel_rfl) (bJ (T:=127) (sz:=2) (bytes:=16) (zero:=(.agg #[vi 0,vi 0]:Value)) Et Et rfl (show prog.info? 127=some t127 from by kernel_rfl) (by kernel_rfl) (by kernel_rfl) (by decide) (by kernel_rfl) (by first | exact h | (simpa only[Value.cells,C9]using h))) ?_;clear h
     rintro _ H9 ⟨ap,ae,rfl,h⟩
     exact kc [54,58] [(59,vs ap (lN_2+1) ae)]<|eH 1 [59] [(5,vs ap (lN_2+1) ae)]<|zq<|aA<|aC<|oo 13<|eT 2 [41] [(41,vi (zY (s41+1)))]<|aR ((ap,(lN_2+1),ae,(zY (s41+1))):zW×Nat×Nat×Int) sk h
    exact aK 53 (zZ c28)<|zp<|aA<|aC<|oo 13<|u5 2 [(0,Vq cA),(1,vi i),(5,vs f lN_2 lC_2),(7,vi e),(8,vp (pa b)),(21,vs (some g) xN xC),(22,vi xN),(23,vi s23),(40,.agg #[vi p,vi m,vi o,vi j]),(41,vi (zY (s41+1)))]<|aR ((f,lN_2,lC_2,(zY (s41+1))):zW×Nat×Nat×Int) sk h
   refine λhk=>Ac [(0,Vq cA),(1,vi i),(5,vs f lN_2 lC_2),(7,vi e),(8,vp (pa b)),(10,vi s41),(11,vi z),(21,vs (some g) xN xC),(22,vi xN),(23,vi s23),(40,.agg #[vi p,vi m,vi o,vi j]),(41,vi s41),(49,.bool (decide (aa>i)))] ?_
   by_cases c26:aa>i
   ·have b27:(decide (aa>i))=true:=zX c26
    exact cD [(0,Vq cA),(1,vi i),(5,vs f lN_2 lC_2),(7,vi e),(8,vp (pa b)),(10,vi s41),(11,vi z),(21,vs (some g) xN xC),(22,vi xN),(23,vi s23),(40,.agg #[vi p,vi m,vi o,vi j]),(41,vi s41),(49,VT)] (by rw[b27])<|eH 4 [11,49] [(53,.bool (decide (z<=i)))]<|zq<|xl 53 (b:=(decide (z<=i))) (v:=((decide (aa>i)) && (decide (z<=i)))) (by simp only[b27,BL])<|hk
   have b27:(decide (aa>i))=false:=zQ c26
   exact cD [(0,Vq cA),(1,vi i),(5,vs f lN_2 lC_2),(7,vi e),(8,vp (pa b)),(10,vi s41),(11,vi z),(21,vs (some g) xN xC),(22,vi xN),(23,vi s23),(40,.agg #[vi p,vi m,vi o,vi j]),(41,vi s41),(49,VF)] (by rw[b27])<|eH 4 [11,49] [(53,VF)]<|zq<|xl 53 (b:=false) (v:=((decide (aa>i)) && (decide (z<=i)))) (by simp only[b27,BL])<|hk
  exact aK 42 (zQ c22)<|zk 2<|aB<|aB<|aN<|aA<|aC<|oo 14<|eT 2 [7,8,23,40,41,42] [(23,vi (zY (s23+1)))]<|aR ((f,lN_2,lC_2,(zY (s23+1))):zW×Nat×Nat×Int) sk h
 exact aK 24 (zQ c8)<|zk 0<|aB<|aB<|aN<|aC<|ar 15<|kb 2 [4] [vs lB lN lC] hQ h
namespace dL
def K0:=EP f64
def K2:=cb K0
def K4:=cb K2
def zy:=cb K4
def Ab:=cb zy
def Aw:=cb Ab
def Bg:=ca Aw
def Av:=cb Aw
def Ae:=cb Bg
def AO:=ca Ae
def Af:=ca AO
def Bv:=cb AO
def BJ:=ca Av
end dL
def dL.pt(c:zW)(d a:Int)(H:zV)(R:zv):=
 ∀b H1,b=H.size->H1=H.push (.cells #[vp c] 49)->
 ∃x,hat H1 (ad b)=some (vp x)/\
 cU.C x H1 (λv H2=> ∃al,v=.bool al/\
 if al=true then(
 R (vi 19) H2)
 else
 ∃ap,hat H2 (ad b)=some (vp ap)/\
 ∃aq,ap=some aq/\
 ∃au,hat H2 aq=some (vp au)/\
 ∃aw,au=some aw/\
 ∃ak,hat H2 aw=some (vp ak)/\
 bB.C ak d H2 (λa5 H3=> ∃u r ah k m i j rb,a5=.tuple #[.agg #[vi u,vi r,vi ah,vi k,vi m,vi i,vi j],.bool rb]/\
 ∀f H4,f=H3.size->H4=H3.push (.cells #[vi 0,vi 0,vi 0,vi 0,vi 0,vi 0,vi 0] 108)->
 (aH H4 (ad f) 0 7)/\ ∀H5,H5=aP H4 (ad f) [vi u,vi r,vi ah,vi k,vi m,vi i,vi j] 0->
 if rb=true then(
 if((decide (a<0)) || (decide (a>=4)))=true then(
 R (vi 1) H5)
 else
 ∀e H6,e=H5.size->H6=H5.push (.cells #[vi 0] 3)->
 (aH H6 (ad e) 0 1)/\ ∀H7,H7=aP H6 (ad e) [vi 5] 0->
 ∃am,hat H7 (ad b)=some (vp am)/\
 fJ.C am d a H7 (λao H8=>ao=ao/\
 ∀(rc:LoopState->Option Code->Obj) (lp:Nat) (H9:zV),lp=H8.size+1->H9=(H8.push (.deferred (some []))).push (rc .ready none)->
 ∀vY,(∀(ac:Int) (H10:zV) (vRy:zv),H10[lp]?=some (rc .ready none)->
 (H10[lp]?=some (rc .ready none)/\ ∀an,an=aM H10 lp (rc .busy none)->
 ∃ag,hat an (ad b)=some (vp ag)/\
 ∃ab y xN o q p n,aL an (ad f) 0 [vi ab,vi y,vi xN,vi o,vi q,vi p,vi n]/\
 ∃ai,hat an (ad e)=some (vi ai)/\
 cP.C ag ab y xN o q p n ac ai an (λa3 az=> ∃af,a3=vi af/\
 (aH az (ad e) 0 1)/\ ∀av,av=aP az (ad e) [vi af] 0->
 av[lp]?=some (rc .busy none)/\
 vRy VT (aM av lp (rc .ready none))))->
 FC prog vY #[vu ac] H10 vRy)->
 FE prog ao #[vY] H9 (λ_ a0=>
 (a0[lp]?=some (rc .ready none)/\ ∀aj,aj=aM a0 lp (rc .exhausted none)->
 ∃ay,hat aj (ad b)=some (vp ay)/\
 ∃s,ay=some s/\
 ∃ax,hat aj s=some (vp ax)/\
 ∃t,ax=some t/\
 ∃z,hat aj t=some (vp z)/\
 ∃ae,hat aj (ad e)=some (vi ae)/\
 gV.C z d a ae aj (λa4 a1=> ∃aa,a4=vi aa/\
 Shut (H8.size::[]) a1 (λa2=>
 R (vi aa) a2))))))
 else
 R (vi 19) H5))
theorem dL.link{a:Int}(h:pt d i a H R):C d i a H R:=by
 refine sa K0 56 func64 ?_
 intro w0 Q hQ
 unfold pt at h
 refine nx [(0,vp d),(1,vi i),(2,vi a)]<|ar 0<|t1 (some 3) (λb=>vp (pa b)) (.cells #[vp d] 49)<|λb H1 e1 e2=>have h:=h b H1 e1 e2;kc [0] [(3,vp (pa b))]<|eT 1 [] []<|ge<|ar 1<|have⟨x,q3,h⟩:=h;hH 11 49 q3 []<|sv 12 [11] h λal H2 h=>yH<|qx h (λc4 h=>?_) (λc4 h=>?_)
 ·exact aJ 12 c4<|ar 2<|kb 1 [6] [vi 19] hQ h
 refine aK 12 (zZ c4)<|nc<|ar 3<|yS [12] []<|have⟨ap,q6,h⟩:=h;hH 14 49 q6 [] ?_
 obtain⟨aq,rfl,ha⟩:=h
 refine eH 2 [14] [(16,Vq aq)]<|have⟨au,q7,h⟩:=ha;hH 17 52 q7 [16] ?_
 obtain⟨aw,rfl,hb⟩:=h
 refine eH 2 [17] [(19,Vq aw)]<|have⟨ak,q8,h⟩:=hb;hH 20 78 q8 [19]<|eH 1 [] [(21,vi i)]<|zU 22 [20,21] h λu r ah k m c j rb H3 h=>eH 3 [22] [(23,.agg #[vi u,vi r,vi ah,vi k,vi m,vi c,vi j]),(24,.bool rb)]<|t1 (some 7) (λb=>vp (pa b)) (.cells #[vi 0,vi 0,vi 0,vi 0,vi 0,vi 0,vi 0] 108)<|λf H4 e9 e10=>have h:=h f H4 e9 e10;kc [] [(7,vp (pa f))]<|have⟨q12,h⟩:=h;fN 108 [vi u,vi r,vi ah,vi k,vi m,vi c,vi j] q12<|λH5 e11=>have h:=h H5 e11;kc [23] []<|eT 1 [24] [(8,.bool rb)]<|ge<|p0 0<|ar 4<|eT 3 [8] [(25,.bool (!rb))]<|qx h (λc13 h=>?_) (λc13 h=>?_)
 ·refine aK 25 (CJ Bool.not (c13))<|ar 6<|iX [(1,vi i),(2,vi a),(3,vp (pa b)),(7,vp (pa f)),(28,.bool ((decide (a<0)) || (decide (a>=4))))] ?_ ?_
  ·refine aC<|qx h (λc17 h=>?_) (λc17 h=>?_)
   ·exact aJ 28 c17<|ar 7<|kb 1 [6] [vi 1] hQ h
   refine aK 28 (zZ c17)<|zp<|aA<|aC<|ar 8<|Ac [(1,vi i),(2,vi a),(3,vp (pa b)),(7,vp (pa f))]<|t1 (some 9) (λb=>vp (pa b)) (.cells #[vi 0] 3)<|λe H6 e19 e20=>have h:=h e H6 e19 e20;kc [] [(9,vp (pa e))]<|have⟨q22,h⟩:=h;eQ 3 (vi 5) q22<|λH7 e21=>have h:=h H7 e21;kc [] []<|yH<|ge<|ar 9 ?_
   obtain⟨am,q23,h⟩:=h
   refine hH 35 49 q23 []<|eH 2 [] [(36,vi i),(37,vi a)]<|zC (some 38) h ?_;clear h
   rintro ao H8 ⟨-,h⟩
   refine kc [35,36,37] [(38,ao)]<|yH<|p0 1<|lA (g:=.tmp 38) (ps:= #[39]) (assign:=Af) (body:=Bv) (ao) (by kernel_rfl) (by kernel_rfl) (by kernel_rfl)<|λrc lp H9 r24 e25 e26 y27=>FE.mono (h rc lp H9 e25 e26 (.func (.yield lp) #[] #[]) ?_) ?_
   ·clear h
    refine λac H10 vRy q28 h=>y27 #[vu ac] H10 vRy (by kernel_rfl) q28 (λw1x=>?_)
    refine Ai [] [(39,vu ac)]<|oo 10<|eH 1 [1,2,38,39] [(10,vu ac)]<|zq<|have⟨q30,h⟩:=h;aC<|lz r24 q30<|λan e29=>have h:=h an e29;p0 2<|oo 11<|have⟨ag,q31,h⟩:=h;hH 40 49 q31 [3]<|have⟨ab,y,xN,o,q,p,n,q32,h⟩:=h;zN 41 108 q32 [7]<|eH 1 [10] [(42,vu ac)] ?_
    obtain⟨ai,q33,h⟩:=h
    refine hH 43 3 q33 []<|zC (some 44) h ?_;clear h
    rintro a3 az ⟨af,rfl,h⟩
    refine⟨[(9,vp (pa e)),(44,vi af)],pk,?_⟩
    refine have⟨q35,h⟩:=h;eQ 3 (vi af) q35<|λav e34=>have h:=h av e34;⟨[],pk,?_⟩
    exact zq<|aA<|have⟨q36,h⟩:=h;bW r24 q36 h
   clear h y27
   rintro _ a0 (⟨q37,h⟩)
   refine .inl ⟨q37,λaj e42=>?_⟩
   refine have h:=h aj e42;kJ (H8.size::[]) rfl<|Ai [7,38] []<|aA<|aC<|ge ?_
   obtain⟨ay,q38,s,rfl,ax,q39,t,rfl,z,q40,ae,q41,hc⟩:=h
   refine yq 12 (Code.ops BJ) [(10,(ad b),[Vq s]),(10,s,[Vq t]),(10,t,[vp z]),(10,(ad e),[vi ae])] 12 (bv 12 0) (show aE _ _ _ from⟨⟨q38,EO⟩,⟨q39,EO⟩,⟨q40,EO⟩,⟨q41,EO⟩,EO⟩)<|zB 0 (some 45) (Vq s) (bv 12 1) [(1,vi i),(2,vi a),(9,vp (pa e)),(45,Vq s)] (aQ 49 (vp (pa b))) (yY 10 yX)<|aG 1 46 (Vq s) (bv 12 3) [45]<|aG 2 47 (Vq s) (bv 12 7) [46]<|kT 3 48 (Vq t) (bv 12 15) [47] (aQ 52 (Vq s)) (yY 10 yQ)<|aG 4 49 (Vq t) (bv 12 31) [48]<|aG 5 50 (Vq t) (bv 12 63) [49]<|kT 6 51 (vp z) (bv 12 127) [50] (aQ 78 (Vq t)) (yY 10 yJ)<|aG 7 52 (vi i) (bv 12 255) [1]<|aG 8 53 (vi a) (bv 12 511) [2]<|kT 9 54 (vi ae) (bv 12 1023) [9] (aQ 3 (vp (pa e))) (yY 10 yK)<|yx 10 (some 55) (bv 12 2047) 108 #[vp z,vi i,vi a,vi ae] hc ?_;clear hc
   rintro a4 a1 ⟨aa,rfl,h⟩
   refine⟨[(55,vi aa)],pk,(show aE _ _ _ from⟨EO,EO,EO,EO,EO⟩),?_⟩
   refine zB 11 (some 6) (vi aa) (bv 12 4095) [(6,vi aa)] (pure (.value (vi aa)):Sem Next) (λ_ _ _ _ _=>rfl)<|eq [(6,vi aa)] sk<|yz<|aC<|zx ?_
   show At _ _ _ _ _ (Q .ret)
   refine lw (fn:=f64) (H8.size::[]) hQ (DS (λa2 h=>?_) h)
   exact⟨[vi aa],(show bV _ _ _ [.tmp 6] _ from .tmp (by kernel_rfl) (.nil)),h⟩
  refine λhk=>va 3 [(1,vi i),(2,vi a),(3,vp (pa b)),(7,vp (pa f)),(31,.bool (decide (a<0)))] ?_
  by_cases c15:a<0
  ·have b16:(decide (a<0))=true:=zX c15
   exact cD [(1,vi i),(2,vi a),(3,vp (pa b)),(7,vp (pa f)),(31,VT)] (by rw[b16])<|eH 4 [31] [(28,VT)]<|zq<|xl 28 (b:=true) (v:=((decide (a<0)) || (decide (a>=4)))) (by simp only[b16,BL])<|hk
  have b16:(decide (a<0))=false:=zQ c15
  exact cD [(1,vi i),(2,vi a),(3,vp (pa b)),(7,vp (pa f)),(31,VF)] (by rw[b16])<|eH 4 [31] [(28,.bool (decide (a>=4)))]<|zq<|xl 28 (b:=(decide (a>=4))) (v:=((decide (a<0)) || (decide (a>=4)))) (by simp only[b16,BL])<|hk
 exact aJ 25 (CJ Bool.not (zZ c13))<|ar 5<|kb 1 [6] [vi 19] hQ h
def fJ.K0:=EP f106
def fJ.pt(c:zW)(f a:Int)(H:zV)(R:zv):=
 ∀b H1,b=H.size->H1=H.push (.cells #[vp c] 49)->
 ∀d H2,d=H1.size->H2=H1.push (.cells #[vi f] 3)->
 ∀e H3,e=H2.size->H3=H2.push (.cells #[vi a] 3)->
 R (.func (.func 134) #[] #[Vq (ad b),Vq (ad d),Vq (ad e)]) H3
theorem fJ.link{a:Int}(h:pt d i a H R):C d i a H R:=by
 refine sa K0 8 func106 ?_
 intro w0 Q hQ
 unfold pt at h
 exact nx [(0,vp d),(1,vi i),(2,vi a)]<|ar 0<|t1 (some 3) (λb=>vp (pa b)) (.cells #[vp d] 49)<|λb H1 e1 e2=>have h:=h b H1 e1 e2;kc [0] [(3,vp (pa b))]<|t1 (some 4) (λb=>vp (pa b)) (.cells #[vi i] 3)<|λf H2 e3 e4=>have h:=h f H2 e3 e4;kc [1] [(4,vp (pa f))]<|t1 (some 5) (λb=>vp (pa b)) (.cells #[vi a] 3)<|λe H3 e5 e6=>have h:=h e H3 e5 e6;kc [2] [(5,vp (pa e))]<|eT 1 [] []<|ar 1<|kb 2 [6] [.func (.func 134) #[] #[vp (pa b),vp (pa f),vp (pa e)]] hQ h
namespace eE
def K0:=EP f134
def K2:=cb K0
def K3:=ca K2
def K4:=ca K3
def K6:=cb K4
def K8:=cb K6
def K11:=ca K8
def Aq:=ca K11
def Bs:=cb Aq
def Ay:=ca Bs
end eE
def eE.pt(a:Value)(j i k:zW)(H:zV)(R:zv):=
 ∃(I5:zw) (m5:Int->zV->Nat),I5 0 H/\ ∀s8 H1,I5 s8 H1->
 if s8<16 then(
 ∃e,j=some e/\
 ∃x,hat H1 e=some (vp x)/\
 ∃xA,x=some xA/\
 ∃p,hat H1 xA=some (vp p)/\
 ∃n,p=some n/\
 ∃m,hat H1 n=some (vp m)/\
 ∃d,i=some d/\
 ∃f,hat H1 d=some (vi f)/\
 ∃b,k=some b/\
 ∃g,hat H1 b=some (vi g)/\
 cG.C m (zY ((zY ((zY (f*64))+(zY (g*16))))+s8)) H1 (λv H2=> ∃ra rb,v=.tuple #[vu ra,vi rb]/\
 if rb=0 then(
 FC prog a #[vu ra] H2 (λq H3=> ∃o,q=.bool o/\
 if o=true then(
 (I5 (zY (s8+1)) H3/\m5 (zY (s8+1)) H3<m5 s8 H1))
 else
 R (.tuple #[]) H3))
 else
 R (.tuple #[]) H2))
 else
 R (.tuple #[]) H1
theorem eE.link{a:Value}{i k:zW}(h:pt a d i k H R):C a d i k H R:=by
 refine sa K0 38 func134 ?_
 intro w0 Q hQ
 unfold pt zY at h
 refine nx [(0,a),(1,vp d),(2,vp i),(3,vp k)]<|ar 0<|eT 1 [] [(8,vi 0)]<|p0 0<|have⟨I5,m5,i1,i2⟩:=h;bL (x:=K4) (σ:=Int) (λs_=> [(0,a),(1,vp d),(2,vp i),(3,vp k),(8,vi s_)]) (λs_ H=>I5 s_ H) (λs_ H=>m5 s_ H) (0:Int) (by kernel_rfl) i1 sk ?_
 rintro s8 H1 i3
 have h:=i2 s8 H1 i3
 refine nx [(0,a),(1,vp d),(2,vp i),(3,vp k),(8,vi s8)]<|ar 1<|eT 1 [] [(9,.bool (decide (s8<16)))]<|ge<|qx h (λc4 h=>?_) (λc4 h=>?_)
 ·refine aJ 9 (zX c4)<|nc<|ge<|p0 1<|ar 2<|eT 2 [9] [(5,vi s8)]<|ge ?_
  obtain⟨e,rfl,x,q6,xA,rfl,p,q7,n,rfl,m,q8,j,rfl,f,q9,b,rfl,g,q10,ha⟩:=h
  refine yq 3 (Code.ops Ay) [(14,e,[Vq xA]),(14,xA,[Vq n]),(14,n,[vp m]),(14,j,[vi f]),(14,b,[vi g])] 20 (bv 20 0) (show aE _ _ _ from⟨⟨q6,EO⟩,⟨q7,EO⟩,⟨q8,EO⟩,⟨q9,EO⟩,⟨q10,EO⟩,EO⟩)<|zB 0 (some 12) (Vq xA) (bv 20 1) [(0,a),(1,Vq e),(2,Vq j),(3,Vq b),(5,vi s8),(8,vi s8),(12,Vq xA)] (aQ 49 (Vq e)) (yY 14 yX)<|aG 1 13 (Vq xA) (bv 20 3) [12]<|aG 2 14 (Vq xA) (bv 20 7) [13]<|kT 3 15 (Vq n) (bv 20 15) [14] (aQ 52 (Vq xA)) (yY 14 yQ)<|aG 4 16 (Vq n) (bv 20 31) [15]<|aG 5 17 (Vq n) (bv 20 63) [16]<|kT 6 18 (vp m) (bv 20 127) [17] (aQ 78 (Vq n)) (yY 14 yJ)<|kT 7 19 (vi f) (bv 20 255) [] (aQ 3 (Vq j)) (yY 14 yK)<|aG 8 20 (vi (zY (f*64))) (bv 20 511) [19]<|kT 9 21 (vi g) (bv 20 1023) [] (aQ 3 (Vq b)) (yY 14 yV)<|aG 10 22 (vi (zY (g*16))) (bv 20 2047) [21]<|aG 11 23 (vi (zY ((zY (f*64))+(zY (g*16))))) (bv 20 4095) [20,22]<|aG 12 24 (vi s8) (bv 20 8191) [5]<|aG 13 25 (vi (zY ((zY ((zY (f*64))+(zY (g*16))))+s8))) (bv 20 16383) [23,24]<|yx 14 (some 26) (bv 20 32767) 33 #[vp m,vi (zY ((zY ((zY (f*64))+(zY (g*16))))+s8))] ha ?_;clear ha
  rintro v H2 ⟨ra,rb,rfl,h⟩
  refine⟨[(0,a),(1,Vq e),(2,Vq j),(3,Vq b),(8,vi s8),(26,.tuple #[vu ra,vi rb])],pk,(show aE _ _ _ from⟨EO,EO,EO,EO,EO,EO⟩),?_⟩
  refine zB 15 (some 11) (.tuple #[vu ra,vi rb]) (bv 20 65535) [(0,a),(1,Vq e),(2,Vq j),(3,Vq b),(8,vi s8),(11,.tuple #[vu ra,vi rb])] (pure (.value (.tuple #[vu ra,vi rb])):Sem Next) (λ_ _ _ _ _=>rfl)<|kT 16 27 (vu ra) (bv 20 131071) [] (pure (.value (vu ra)):Sem Next) (λ_ _ _ _ _=>rfl)<|kT 17 28 (vi rb) (bv 20 262143) [11] (pure (.value (vi rb)):Sem Next) (λ_ _ _ _ _=>rfl)<|kT 18 6 (vu ra) (bv 20 524287) [27] (pure (.value (vu ra)):Sem Next) (λ_ _ _ _ _=>rfl)<|kT 19 7 (vi rb) (bv 20 1048575) [28] (pure (.value (vi rb)):Sem Next) (λ_ _ _ _ _=>rfl)<|eq [(0,a),(1,Vq e),(2,Vq j),(3,Vq b),(6,vu ra),(7,vi rb),(8,vi s8)] sk<|yz<|aC<|ar 4<|va 3 [(0,a),(1,Vq e),(2,Vq j),(3,Vq b),(6,vu ra),(8,vi s8),(31,.bool (rb !=0))]<|qx h (λc11 h=>?_) (λc11 h=>?_)
  ·have b12:(rb !=0)=false:=CX.mpr c11
   refine cD [(0,a),(1,Vq e),(2,Vq j),(3,Vq b),(6,vu ra),(8,vi s8),(31,VF)] (by rw[b12]) ?_
   clear b12
   refine eH 2 [6] [(32,a),(33,vu ra)]<|na (some 34) a #[vu ra] (λ_=>by kernel_rfl) h ?_;clear h
   rintro q H3 ⟨o,rfl,h⟩
   refine kc [32,33] [(34,.bool o)]<|eT 2 [31,34] [(36,.bool (!o))]<|qx h (λc13 h=>?_) (λc13 h=>?_)
   ·exact aK 36 (CJ Bool.not (c13))<|zp<|aA<|aC<|oo 5<|eT 2 [8,36] [(8,vi (zY (s8+1)))]<|aR ((zY (s8+1)):Int) sk h
   exact aJ 36 (CJ Bool.not (zZ c13))<|hX [] [] hQ h
  have b12:(rb !=0)=true:=CY.mpr c11
  refine cD [(0,a),(1,Vq e),(2,Vq j),(3,Vq b),(6,vu ra),(8,vi s8),(31,VT)] (by rw[b12]) ?_
  clear b12
  exact eT 5 [6,31] [(36,VT)]<|wc 36<|hX [] [] hQ h
 exact aK 9 (zQ c4)<|zk 0<|aB<|aB<|aN<|gH (fn:=f134) [] hQ (show bV _ _ _ [] _ from .nil) h
def fF.K0:=EP f139
def fF.pt(c:zW)(H:zV)(R:zv):=
 eU c (
 R (vp none) H) (λcA=>
 ∃x,hat H cA=some (vp x)/\
 eO.C x H (λv H1=> ∃a,v=vp a/\
 ∀b H2,b=H1.size->H2=H1.push (.cells #[vp a] 54)->
 R (Vq (ad b)) H2))
theorem fF.link(h:pt d H R):C d H R:=by
 refine sa K0 12 func139 ?_
 intro w0 Q hQ
 unfold pt at h
 refine nx [(0,vp d)]<|ar 0<|eT 1 [] []<|ge<|ar 1<|eH 1 [] [(3,vp d)] ?_
 rcases d with _ | cA
 ·rw[CP]at h
  exact u5 1 [(0,vp none),(4,VT)]<|wc 4<|ar 2<|kb 1 [2] [vp none] hQ h
 rw[CK]at h
 refine u5 1 [(0,Vq cA),(4,VF)]<|yL 4<|nc<|ar 3<|va 3 [(7,Vq cA)]<|have⟨x,q1,h⟩:=h;hH 8 52 q1 [7]<|zo 9 (λa=>[(9,vp a)]) h λa H1 h=>va 1 [(10,.agg #[vp a])]<|t1 (some 11) (λb=>vp (pa b)) (.cells #[vp a] 54)<|λb H2 e2 e3=>have h:=h b H2 e2 e3;⟨[(11,vp (pa b))],pk,?_⟩
 exact kb 1 [2] [vp (pa b)] hQ h
end Go.Proofs.YtfhbhckhmnleoaaGreat
namespace Go.Proofs.YtfhbhckhmnleoaaGreat
open Go Go.Proofs.Tryz
open Int(tdiv tmod)
abbrev ER(w:Int):=EQ (tdiv w 8)
abbrev ES(w:Int):=EQ (tdiv (ER w) 32)
def dK.K0:=EP f110
def dK.pt(wv:Int)(H:zV)(R:zv):=
 ∀b H1,b=H.size->H1=H.push (.cells #[vi 0,vi 0,vi 0,vi 0,vu 0] 178)->
 if(zY (tmod wv 8))=0 then(
 cQ.C 60 H1 (λv H2=> ∃x,v=vu x/\
 if(IntKind.wrap .u64 (tdiv wv 8))>=x then(
 cQ.C 61 H2 (λbe H3=> ∃ak,be=vu ak/\
 (aH H3 (ad b) 0 5)/\ ∀H4,H4=aP H3 (ad b) [vi 1,vi 0,vi 0,vi (zY (0-(zY (IntKind.wrap .u64 (ak-(IntKind.wrap .u64 (tdiv wv 8))))))),vu 0] 0->
 ∃am a3 rA rX al,aL H4 (ad b) 0 [vi am,vi a3,vi rA,vi rX,vu al]/\
 R (.agg #[vi am,vi a3,vi rA,vi rX,vu al]) H4))
 else
 (aH H2 (ad b) 0 5)/\ ∀H5,H5=aP H2 (ad b) [vi 1,vi 0,vi 0,vi (zY (IntKind.wrap .u64 (tdiv wv 8))),vu 0] 0->
 ∃t ab a6 a2 g,aL H5 (ad b) 0 [vi t,vi ab,vi a6,vi a2,vu g]/\
 R (.agg #[vi t,vi ab,vi a6,vi a2,vu g]) H5))
 else
 ∃J:Bool->zV->Prop,(
 if(zY (tmod wv 8))=1 then(
 J true H1)
 else
 if(zY (tmod wv 8))=2 then(
 J true H1)
 else
 if(zY (tmod wv 8))=3 then(
 J true H1)
 else
 J ((zY (tmod wv 8))==6) H1)/\ ∀aj H6,J aj H6->
 if aj=true then(
 if(IntKind.wrap .u64 (tdiv wv 8))<65536 then(
 (aH H6 (ad b) 0 5)/\ ∀H7,H7=aP H6 (ad b) [vi 2,vi (zY (tmod wv 8)),vi (zY (IntKind.wrap .u64 (tdiv wv 8))),vi 0,vu 0] 0->
 ∃k af aw a7 m,aL H7 (ad b) 0 [vi k,vi af,vi aw,vi a7,vu m]/\
 R (.agg #[vi k,vi af,vi aw,vi a7,vu m]) H7)
 else
 (aH H6 (ad b) 0 5)/\ ∀H8,H8=aP H6 (ad b) [vi 0,vi 0,vi 0,vi 0,vu 0] 0->
 ∃e ag aq a4 f,aL H8 (ad b) 0 [vi e,vi ag,vi aq,vi a4,vu f]/\
 R (.agg #[vi e,vi ag,vi aq,vi a4,vu f]) H8)
 else
 if(zY (tmod wv 8))=4 then(
 if((decide ((zY (tmod (IntKind.wrap .u64 (tdiv wv 8)) 32))<7)) && ((IntKind.wrap .u64 (tdiv (IntKind.wrap .u64 (tdiv wv 8)) 32))==0))=true then(
 (aH H6 (ad b) 0 5)/\ ∀H9,H9=aP H6 (ad b) [vi 3,vi 0,vi (zY (tmod (IntKind.wrap .u64 (tdiv wv 8)) 32)),vi 0,vu 0] 0->
 ∃q ae a1 au u,aL H9 (ad b) 0 [vi q,vi ae,vi a1,vi au,vu u]/\
 R (.agg #[vi q,vi ae,vi a1,vi au,vu u]) H9)
 else
 if((((zY (tmod (IntKind.wrap .u64 (tdiv wv 8)) 32))==7) && (decide ((IntKind.wrap .u64 (tdiv (IntKind.wrap .u64 (tdiv wv 8)) 32))<=1114111))) && ((decide ((IntKind.wrap .u64 (tdiv (IntKind.wrap .u64 (tdiv wv 8)) 32))<55296)) || (decide ((IntKind.wrap .u64 (tdiv (IntKind.wrap .u64 (tdiv wv 8)) 32))>57343))))=true then(
 (aH H6 (ad b) 0 5)/\ ∀bc,bc=aP H6 (ad b) [vi 4,vi 0,vi (zY (IntKind.wrap .u64 (tdiv (IntKind.wrap .u64 (tdiv wv 8)) 32))),vi 0,vu 0] 0->
 ∃j ac ay a5 y,aL bc (ad b) 0 [vi j,vi ac,vi ay,vi a5,vu y]/\
 R (.agg #[vi j,vi ac,vi ay,vi a5,vu y]) bc)
 else
 (aH H6 (ad b) 0 5)/\ ∀bd,bd=aP H6 (ad b) [vi 0,vi 0,vi 0,vi 0,vu 0] 0->
 ∃p aa a8 av r,aL bd (ad b) 0 [vi p,vi aa,vi a8,vi av,vu r]/\
 R (.agg #[vi p,vi aa,vi a8,vi av,vu r]) bd)
 else
 if(zY (tmod wv 8))=5 then(
 if(((decide ((zY (tmod (IntKind.wrap .u64 (tdiv wv 8)) 32))>=1)) && (decide ((zY (tmod (IntKind.wrap .u64 (tdiv wv 8)) 32))<=13))) && (decide ((zY (tmod (IntKind.wrap .u64 (tdiv (IntKind.wrap .u64 (tdiv wv 8)) 32)) 256))<=62)))=true then(
 (aH H6 (ad b) 0 5)/\ ∀a9,a9=aP H6 (ad b) [vi 5,vi (zY (tmod (IntKind.wrap .u64 (tdiv wv 8)) 32)),vi (zY (tmod (IntKind.wrap .u64 (tdiv (IntKind.wrap .u64 (tdiv wv 8)) 32)) 256)),vi 0,vu (IntKind.wrap .u64 (tdiv (IntKind.wrap .u64 (tdiv (IntKind.wrap .u64 (tdiv wv 8)) 32)) 256))] 0->
 ∃i ah az a0 n,aL a9 (ad b) 0 [vi i,vi ah,vi az,vi a0,vu n]/\
 R (.agg #[vi i,vi ah,vi az,vi a0,vu n]) a9)
 else
 (aH H6 (ad b) 0 5)/\ ∀bb,bb=aP H6 (ad b) [vi 0,vi 0,vi 0,vi 0,vu 0] 0->
 ∃s ai ap ax o,aL bb (ad b) 0 [vi s,vi ai,vi ap,vi ax,vu o]/\
 R (.agg #[vi s,vi ai,vi ap,vi ax,vu o]) bb)
 else
 (aH H6 (ad b) 0 5)/\ ∀ba,ba=aP H6 (ad b) [vi 0,vi 0,vi 0,vi 0,vu 0] 0->
 ∃d z ao an a,aL ba (ad b) 0 [vi d,vi z,vi ao,vi an,vu a]/\
 R (.agg #[vi d,vi z,vi ao,vi an,vu a]) ba
theorem dK.link{wv:Int}{H:zV}{R:zv}(h:pt wv H R):C wv H R:=by
 refine sa K0 94 func110 ?_
 intro w0 Q hQ
 unfold pt zY at h
 refine nx [(0,vu wv)]<|ar 0<|t1 (some 2) (λb=>vp (pa b)) (.cells #[vi 0,vi 0,vi 0,vi 0,vu 0] 178)<|λb H1 e1 e2=>have h:=h b H1 e1 e2;kc [] [(2,vp (pa b))]<|yH<|ar 1<|eT 2 [0] [(3,vu wv)]<|ar 2<|eT 7 [3] [(4,vi (zY (tmod wv 8))),(5,vu (ER wv))]<|ar 3<|eT 7 [] [(6,vi (zY (tmod (ER wv) 32))),(7,vu (ES wv))]<|ge<|ar 4<|eT 1 [] [(20,vi (zY (tmod wv 8)))]<|p0 0<|ar 5<|eT 2 [] [(21,.bool ((zY (tmod wv 8))==0))]<|qx h (λc3 h=>?_) (λc3 h=>?_)
 ·refine aJ 21 (zK c3)<|ge<|ar 6<|eH 1 [4,6,7,20,21] [(23,vu (ER wv))]<|sv 24 [] h λx H2 h=>eT 1 [23,24] [(25,.bool (decide ((ER wv)>=x)))]<|qx h (λc5 h=>?_) (λc5 h=>?_)
  ·refine aJ 25 (zX c5)<|ar 7<|yS [25] []<|sv 26 [] h λak H3 h=>eH 5 [5,26] [(31,.agg #[vi 1,vi 0,vi 0,vi (zY (0-(zY (EQ (ak-(ER wv)))))),vu 0])]<|have⟨q8,h⟩:=h;fN 178 [vi 1,vi 0,vi 0,vi (zY (0-(zY (EQ (ak-(ER wv)))))),vu 0] q8<|λH4 e7=>have h:=h H4 e7;kc [31] []<|yH<|zx ?_
   show At _ _ _ _ _ (Q .ret)
   exact have⟨am,a3,rA,rX,al,q9,h⟩:=h;kW (fn:=f110) [.agg #[vi am,vi a3,vi rA,vi rX,vu al]] hQ (show bV _ _ _ [.cell 2 178] _ from .cell (by kernel_rfl) (eR (λ_=>by kernel_rfl) (λ_=>by kernel_rfl) q9) (.nil)) h
  refine aK 25 (zQ c5)<|nc<|ar 8<|eH 3 [5,25] [(34,.agg #[vi 1,vi 0,vi 0,vi (zY (ER wv)),vu 0])]<|have⟨q11,h⟩:=h;fN 178 [vi 1,vi 0,vi 0,vi (zY (ER wv)),vu 0] q11<|λH5 e10=>have h:=h H5 e10;kc [34] []<|yH<|zx ?_
  show At _ _ _ _ _ (Q .ret)
  exact have⟨t,ab,a6,a2,g,q12,h⟩:=h;kW (fn:=f110) [.agg #[vi t,vi ab,vi a6,vi a2,vu g]] hQ (show bV _ _ _ [.cell 2 178] _ from .cell (by kernel_rfl) (eR (λ_=>by kernel_rfl) (λ_=>by kernel_rfl) q12) (.nil)) h
 refine aK 21 (zJ c3)<|ge<|ar 9<|u5 2 [(2,vp (pa b)),(4,vi (zY (tmod wv 8))),(5,vu (ER wv)),(6,vi (zY (tmod (ER wv) 32))),(7,vu (ES wv)),(20,vi (zY (tmod wv 8))),(35,.bool ((zY (tmod wv 8))==1))]<|have⟨J,h,j14⟩:=h;pD (σ:=Bool) (λs_=> [(2,vp (pa b)),(4,vi (zY (tmod wv 8))),(5,vu (ER wv)),(6,vi (zY (tmod (ER wv) 32))),(7,vu (ES wv)),(20,vi (zY (tmod wv 8))),(35,.bool s_)]) (λs_ H=>J s_ H) ?_ ?_
 ·refine λaj H6 j15=>have h:=j14 aj H6 j15;nx [(2,vp (pa b)),(4,vi (zY (tmod wv 8))),(5,vu (ER wv)),(6,vi (zY (tmod (ER wv) 32))),(7,vu (ES wv)),(20,vi (zY (tmod wv 8))),(35,.bool aj)]<|aC<|qx h (λc16 h=>?_) (λc16 h=>?_)
  ·have b17:aj=true:=c16
   refine iT [(2,vp (pa b)),(4,vi (zY (tmod wv 8))),(5,vu (ER wv)),(6,vi (zY (tmod (ER wv) 32))),(7,vu (ES wv)),(20,vi (zY (tmod wv 8))),(35,VT)] (by rw[b17]) ?_
   clear b17
   refine wc 35<|ar 13<|eT 2 [6,7,20,35] [(41,.bool (decide ((ER wv)<65536)))]<|qx h (λc18 h=>?_) (λc18 h=>?_)
   ·refine aJ 41 (zX c18)<|ar 14<|eH 4 [4,5,41] [(45,.agg #[vi 2,vi (zY (tmod wv 8)),vi (zY (ER wv)),vi 0,vu 0])]<|have⟨q21,h⟩:=h;fN 178 [vi 2,vi (zY (tmod wv 8)),vi (zY (ER wv)),vi 0,vu 0] q21<|λH7 e20=>have h:=h H7 e20;kc [45] []<|yH<|zx ?_
    show At _ _ _ _ _ (Q .ret)
    exact have⟨k,af,aw,a7,m,q22,h⟩:=h;kW (fn:=f110) [.agg #[vi k,vi af,vi aw,vi a7,vu m]] hQ (show bV _ _ _ [.cell 2 178] _ from .cell (by kernel_rfl) (eR (λ_=>by kernel_rfl) (λ_=>by kernel_rfl) q22) (.nil)) h
   refine aK 41 (zQ c18)<|zp<|aA<|aC<|ar 24<|eH 1 [4,5,41] [(93,.agg #[vi 0,vi 0,vi 0,vi 0,vu 0])]<|have⟨q24,h⟩:=h;fN 178 [vi 0,vi 0,vi 0,vi 0,vu 0] q24<|λH8 e23=>have h:=h H8 e23;kc [93] []<|yH<|zx ?_
   show At _ _ _ _ _ (Q .ret)
   exact have⟨e,ag,aq,a4,f,q25,h⟩:=h;kW (fn:=f110) [.agg #[vi e,vi ag,vi aq,vi a4,vu f]] hQ (show bV _ _ _ [.cell 2 178] _ from .cell (by kernel_rfl) (eR (λ_=>by kernel_rfl) (λ_=>by kernel_rfl) q25) (.nil)) h
  have b17:aj=false:=zZ c16
  refine iT [(2,vp (pa b)),(4,vi (zY (tmod wv 8))),(5,vu (ER wv)),(6,vi (zY (tmod (ER wv) 32))),(7,vu (ES wv)),(20,vi (zY (tmod wv 8))),(35,VF)] (by rw[b17]) ?_
  clear b17
  refine yL 35<|ar 15<|eT 2 [4,5,35] [(46,.bool ((zY (tmod wv 8))==4))]<|qx h (λc26 h=>?_) (λc26 h=>?_)
  ·refine aJ 46 (zK c26)<|ge<|ar 16<|iX [(2,vp (pa b)),(6,vi (zY (tmod (ER wv) 32))),(7,vu (ES wv)),(53,.bool ((decide ((zY (tmod (ER wv) 32))<7)) && ((ES wv)==0)))] ?_ ?_
   ·refine aC<|qx h (λc30 h=>?_) (λc30 h=>?_)
    ·refine aJ 53 c30<|ar 17<|va 2 [(2,vp (pa b)),(55,.agg #[vi 3,vi 0,vi (zY (tmod (ER wv) 32)),vi 0,vu 0])]<|have⟨q33,h⟩:=h;fN 178 [vi 3,vi 0,vi (zY (tmod (ER wv) 32)),vi 0,vu 0] q33<|λH9 e32=>have h:=h H9 e32;kc [55] []<|yH<|zx ?_
     show At _ _ _ _ _ (Q .ret)
     exact have⟨q,ae,a1,au,u,q34,h⟩:=h;kW (fn:=f110) [.agg #[vi q,vi ae,vi a1,vi au,vu u]] hQ (show bV _ _ _ [.cell 2 178] _ from .cell (by kernel_rfl) (eR (λ_=>by kernel_rfl) (λ_=>by kernel_rfl) q34) (.nil)) h
    refine aK 53 (zZ c30)<|nc<|ar 18<|iX [(2,vp (pa b)),(7,vu (ES wv)),(69,.bool ((((zY (tmod (ER wv) 32))==7) && (decide ((ES wv)<=1114111))) && ((decide ((ES wv)<55296)) || (decide ((ES wv)>57343)))))] ?_ ?_
    ·refine aC<|qx h (λc41 h=>?_) (λc41 h=>?_)
     ·refine aJ 69 c41<|ar 19<|va 3 [(2,vp (pa b)),(72,.agg #[vi 4,vi 0,vi (zY (ES wv)),vi 0,vu 0])]<|have⟨q44,h⟩:=h;fN 178 [vi 4,vi 0,vi (zY (ES wv)),vi 0,vu 0] q44<|λbc e43=>have h:=h bc e43;kc [72] []<|yH<|zx ?_
      show At _ _ _ _ _ (Q .ret)
      exact have⟨j,ac,ay,a5,y,q45,h⟩:=h;kW (fn:=f110) [.agg #[vi j,vi ac,vi ay,vi a5,vu y]] hQ (show bV _ _ _ [.cell 2 178] _ from .cell (by kernel_rfl) (eR (λ_=>by kernel_rfl) (λ_=>by kernel_rfl) q45) (.nil)) h
     refine aK 69 (zZ c41)<|zp<|aA<|aC<|ar 24<|va 1 [(2,vp (pa b)),(93,.agg #[vi 0,vi 0,vi 0,vi 0,vu 0])]<|have⟨q47,h⟩:=h;fN 178 [vi 0,vi 0,vi 0,vi 0,vu 0] q47<|λbd e46=>have h:=h bd e46;kc [93] []<|yH<|zx ?_
     show At _ _ _ _ _ (Q .ret)
     exact have⟨p,aa,a8,av,r,q48,h⟩:=h;kW (fn:=f110) [.agg #[vi p,vi aa,vi a8,vi av,vu r]] hQ (show bV _ _ _ [.cell 2 178] _ from .cell (by kernel_rfl) (eR (λ_=>by kernel_rfl) (λ_=>by kernel_rfl) q48) (.nil)) h
    refine λhk=>va 3 [(2,vp (pa b)),(7,vu (ES wv)),(58,.bool ((zY (tmod (ER wv) 32))==7))] ?_
    by_cases c35:(zY (tmod (ER wv) 32))=7
    ·have b36:((zY (tmod (ER wv) 32))==7)=true:=zK c35
     refine cD [(2,vp (pa b)),(7,vu (ES wv)),(58,VT)] (by rw[b36])<|eH 4 [58] [(62,.bool (decide ((ES wv)<=1114111)))] ?_
     by_cases c37:(ES wv)<=1114111
     ·have b38:(decide ((ES wv)<=1114111))=true:=zX c37
      refine o0 62 b38<|eH 3 [] [(65,.bool (decide ((ES wv)<55296)))] ?_
      by_cases c39:(ES wv)<55296
      ·have b40:(decide ((ES wv)<55296))=true:=zX c39
       exact o0 65 b40<|eH 4 [62,65] [(69,VT)]<|zq<|xl 69 (b:=true) (v:=((((zY (tmod (ER wv) 32))==7) && (decide ((ES wv)<=1114111))) && ((decide ((ES wv)<55296)) || (decide ((ES wv)>57343))))) (by simp only[b36,b38,b40,BL])<|hk
      have b40:(decide ((ES wv)<55296))=false:=zQ c39
      exact o0 65 b40<|eH 4 [62,65] [(69,.bool (decide ((ES wv)>57343)))]<|zq<|xl 69 (b:=(decide ((ES wv)>57343))) (v:=((((zY (tmod (ER wv) 32))==7) && (decide ((ES wv)<=1114111))) && ((decide ((ES wv)<55296)) || (decide ((ES wv)>57343))))) (by simp only[b36,b38,b40,BL])<|hk
     have b38:(decide ((ES wv)<=1114111))=false:=zQ c37
     exact o0 62 b38<|eH 7 [62] [(69,VF)]<|zq<|xl 69 (b:=false) (v:=((((zY (tmod (ER wv) 32))==7) && (decide ((ES wv)<=1114111))) && ((decide ((ES wv)<55296)) || (decide ((ES wv)>57343))))) (by simp only[b36,b38,BL])<|hk
    have b36:((zY (tmod (ER wv) 32))==7)=false:=zJ c35
    exact cD [(2,vp (pa b)),(7,vu (ES wv)),(58,VF)] (by rw[b36])<|eH 11 [58] [(69,VF)]<|zq<|xl 69 (b:=false) (v:=((((zY (tmod (ER wv) 32))==7) && (decide ((ES wv)<=1114111))) && ((decide ((ES wv)<55296)) || (decide ((ES wv)>57343))))) (by simp only[b36,BL])<|hk
   refine λhk=>va 3 [(2,vp (pa b)),(6,vi (zY (tmod (ER wv) 32))),(7,vu (ES wv)),(50,.bool (decide ((zY (tmod (ER wv) 32))<7)))] ?_
   by_cases c28:(zY (tmod (ER wv) 32))<7
   ·have b29:(decide ((zY (tmod (ER wv) 32))<7))=true:=zX c28
    exact cD [(2,vp (pa b)),(6,vi (zY (tmod (ER wv) 32))),(7,vu (ES wv)),(50,VT)] (by rw[b29])<|eH 3 [50] [(53,.bool ((ES wv)==0))]<|zq<|xl 53 (b:=((ES wv)==0)) (v:=((decide ((zY (tmod (ER wv) 32))<7)) && ((ES wv)==0))) (by simp only[b29,BL])<|hk
   have b29:(decide ((zY (tmod (ER wv) 32))<7))=false:=zQ c28
   exact cD [(2,vp (pa b)),(6,vi (zY (tmod (ER wv) 32))),(7,vu (ES wv)),(50,VF)] (by rw[b29])<|eH 3 [50] [(53,VF)]<|zq<|xl 53 (b:=false) (v:=((decide ((zY (tmod (ER wv) 32))<7)) && ((ES wv)==0))) (by simp only[b29,BL])<|hk
  refine aK 46 (zJ c26)<|ar 20<|eT 2 [20,46] [(73,.bool ((zY (tmod wv 8))==5))]<|qx h (λc49 h=>?_) (λc49 h=>?_)
  ·refine aJ 73 (zK c49)<|ar 21<|eT 4 [73] [(8,vi (zY (tmod (ES wv) 256)))]<|ar 22<|iX [(2,vp (pa b)),(6,vi (zY (tmod (ER wv) 32))),(7,vu (ES wv)),(8,vi (zY (tmod (ES wv) 256))),(87,.bool (((decide ((zY (tmod (ER wv) 32))>=1)) && (decide ((zY (tmod (ER wv) 32))<=13))) && (decide ((zY (tmod (ES wv) 256))<=62))))] ?_ ?_
   ·refine aC<|qx h (λc55 h=>?_) (λc55 h=>?_)
    ·refine aJ 87 c55<|ar 23<|va 5 [(2,vp (pa b)),(92,.agg #[vi 5,vi (zY (tmod (ER wv) 32)),vi (zY (tmod (ES wv) 256)),vi 0,vu (EQ (tdiv (ES wv) 256))])]<|have⟨q58,h⟩:=h;fN 178 [vi 5,vi (zY (tmod (ER wv) 32)),vi (zY (tmod (ES wv) 256)),vi 0,vu (EQ (tdiv (ES wv) 256))] q58<|λa9 e57=>have h:=h a9 e57;kc [92] []<|yH<|zx ?_
     show At _ _ _ _ _ (Q .ret)
     exact have⟨i,ah,az,a0,n,q59,h⟩:=h;kW (fn:=f110) [.agg #[vi i,vi ah,vi az,vi a0,vu n]] hQ (show bV _ _ _ [.cell 2 178] _ from .cell (by kernel_rfl) (eR (λ_=>by kernel_rfl) (λ_=>by kernel_rfl) q59) (.nil)) h
    refine aK 87 (zZ c55)<|zp<|aA<|aC<|ar 24<|va 1 [(2,vp (pa b)),(93,.agg #[vi 0,vi 0,vi 0,vi 0,vu 0])]<|have⟨q61,h⟩:=h;fN 178 [vi 0,vi 0,vi 0,vi 0,vu 0] q61<|λbb e60=>have h:=h bb e60;kc [93] []<|yH<|zx ?_
    show At _ _ _ _ _ (Q .ret)
    exact have⟨s,ai,ap,ax,o,q62,h⟩:=h;kW (fn:=f110) [.agg #[vi s,vi ai,vi ap,vi ax,vu o]] hQ (show bV _ _ _ [.cell 2 178] _ from .cell (by kernel_rfl) (eR (λ_=>by kernel_rfl) (λ_=>by kernel_rfl) q62) (.nil)) h
   refine λhk=>va 3 [(2,vp (pa b)),(6,vi (zY (tmod (ER wv) 32))),(7,vu (ES wv)),(8,vi (zY (tmod (ES wv) 256))),(80,.bool (decide ((zY (tmod (ER wv) 32))>=1)))] ?_
   by_cases c51:(zY (tmod (ER wv) 32))>=1
   ·have b52:(decide ((zY (tmod (ER wv) 32))>=1))=true:=zX c51
    refine cD [(2,vp (pa b)),(6,vi (zY (tmod (ER wv) 32))),(7,vu (ES wv)),(8,vi (zY (tmod (ES wv) 256))),(80,VT)] (by rw[b52])<|eH 4 [80] [(84,.bool (decide ((zY (tmod (ER wv) 32))<=13)))] ?_
    by_cases c53:(zY (tmod (ER wv) 32))<=13
    ·have b54:(decide ((zY (tmod (ER wv) 32))<=13))=true:=zX c53
     exact o0 84 b54<|eH 3 [84] [(87,.bool (decide ((zY (tmod (ES wv) 256))<=62)))]<|zq<|xl 87 (b:=(decide ((zY (tmod (ES wv) 256))<=62))) (v:=(((decide ((zY (tmod (ER wv) 32))>=1)) && (decide ((zY (tmod (ER wv) 32))<=13))) && (decide ((zY (tmod (ES wv) 256))<=62)))) (by simp only[b52,b54,BL])<|hk
    have b54:(decide ((zY (tmod (ER wv) 32))<=13))=false:=zQ c53
    exact o0 84 b54<|eH 3 [84] [(87,VF)]<|zq<|xl 87 (b:=false) (v:=(((decide ((zY (tmod (ER wv) 32))>=1)) && (decide ((zY (tmod (ER wv) 32))<=13))) && (decide ((zY (tmod (ES wv) 256))<=62)))) (by simp only[b52,b54,BL])<|hk
   have b52:(decide ((zY (tmod (ER wv) 32))>=1))=false:=zQ c51
   exact cD [(2,vp (pa b)),(6,vi (zY (tmod (ER wv) 32))),(7,vu (ES wv)),(8,vi (zY (tmod (ES wv) 256))),(80,VF)] (by rw[b52])<|eH 7 [80] [(87,VF)]<|zq<|xl 87 (b:=false) (v:=(((decide ((zY (tmod (ER wv) 32))>=1)) && (decide ((zY (tmod (ER wv) 32))<=13))) && (decide ((zY (tmod (ES wv) 256))<=62)))) (by simp only[b52,BL])<|hk
  refine aK 73 (zJ c49)<|zp<|aA<|aC<|ar 24<|eH 1 [6,7,73] [(93,.agg #[vi 0,vi 0,vi 0,vi 0,vu 0])]<|have⟨q64,h⟩:=h;fN 178 [vi 0,vi 0,vi 0,vi 0,vu 0] q64<|λba e63=>have h:=h ba e63;kc [93] []<|yH<|zx ?_
  show At _ _ _ _ _ (Q .ret)
  exact have⟨d,z,ao,an,a,q65,h⟩:=h;kW (fn:=f110) [.agg #[vi d,vi z,vi ao,vi an,vu a]] hQ (show bV _ _ _ [.cell 2 178] _ from .cell (by kernel_rfl) (eR (λ_=>by kernel_rfl) (λ_=>by kernel_rfl) q65) (.nil)) h
 revert h;refine Bo (λc66 h=>?_) (λc66 h=>?_)
 ·have b67:((zY (tmod wv 8))==1)=true:=zK c66
  refine iT [(2,vp (pa b)),(4,vi (zY (tmod wv 8))),(5,vu (ER wv)),(6,vi (zY (tmod (ER wv) 32))),(7,vu (ES wv)),(20,vi (zY (tmod wv 8))),(35,VT)] (by simp only[b67,Da,C5]) ?_
  clear b67
  exact wc 35<|nc<|lr (true:Bool) sk h
 have b67:((zY (tmod wv 8))==1)=false:=zJ c66
 refine iT [(2,vp (pa b)),(4,vi (zY (tmod wv 8))),(5,vu (ER wv)),(6,vi (zY (tmod (ER wv) 32))),(7,vu (ES wv)),(20,vi (zY (tmod wv 8))),(35,VF)] (by simp only[b67,Da,C5]) ?_
 clear b67
 refine yL 35<|ar 10<|eT 2 [35] [(35,.bool ((zY (tmod wv 8))==2))]<|qx h (λc68 h=>?_) (λc68 h=>?_)
 ·exact xl 35 (zK c68)<|wc 35<|nc<|lr (true:Bool) sk h
 refine xl 35 (zJ c68)<|yL 35<|ar 11<|eT 2 [35] [(35,.bool ((zY (tmod wv 8))==3))]<|qx h (λc70 h=>?_) (λc70 h=>?_)
 ·exact xl 35 (zK c70)<|wc 35<|nc<|lr (true:Bool) sk h
 exact xl 35 (zJ c70)<|yL 35<|oo 12<|eT 2 [35] [(35,.bool ((zY (tmod wv 8))==6))]<|lr (((zY (tmod wv 8))==6):Bool) sk h
namespace cQ
def K0:=EP f135
def K2:=cb K0
def K4:=cb K2
def K5:=ca K4
def K8:=cb K5
def K9:=ca K8
def zS:=ca K9
end cQ
def cQ.pt(nv:Int)(H:zV)(R:zv):=
 ∃(a:Int->zw) (m11:Int->Int->zV->Nat),a 1 0 H/\ ∀x i H1,a x i H1->
 if i<nv then(
 (a (IntKind.wrap .u64 (x*2)) (zY (i+1)) H1/\m11 (IntKind.wrap .u64 (x*2)) (zY (i+1)) H1<m11 x i H1))
 else
 R (vu x) H1
theorem cQ.link{nv:Int}{H:zV}{R:zv}(h:pt nv H R):C nv H R:=by
 refine sa K0 13 func135 ?_
 intro w0 Q hQ
 unfold pt zY at h
 refine nx [(0,vi nv)]<|ar 0<|eT 1 [] []<|ar 1<|eT 1 [] [(3,vu 1)]<|ge<|ar 2<|eT 1 [] [(4,vi 0)]<|p0 0<|have⟨a,m11,i1,i2⟩:=h;bL (x:=zS) (σ:=Int×Int) (λs_=> [(0,vi nv),(3,vu s_.1),(4,vi s_.2)]) (λs_ H=>a s_.1 s_.2 H) (λs_ H=>m11 s_.1 s_.2 H) ((1,0):Int×Int) (by kernel_rfl) i1 sk ?_
 rintro⟨x,i⟩ H1 i3
 have h:=i2 x i H1 i3
 refine nx [(0,vi nv),(3,vu x),(4,vi i)]<|ge<|ar 3<|eT 3 [] [(7,.bool (decide (i<nv)))]<|qx h (λc4 h=>?_) (λc4 h=>?_)
 ·exact aJ 7 (zX c4)<|nc<|ge<|p0 1<|oo 5<|eH 3 [3,7] [(3,vu (EQ (x*2)))]<|zq<|aA<|aC<|oo 4<|eT 3 [4] [(4,vi (zY (i+1)))]<|aR (((EQ (x*2)),(zY (i+1))):Int×Int) sk h
 exact aK 7 (zQ c4)<|zk 0<|aB<|aB<|aN<|aC<|ar 6<|kb 2 [2] [vu x] hQ h
