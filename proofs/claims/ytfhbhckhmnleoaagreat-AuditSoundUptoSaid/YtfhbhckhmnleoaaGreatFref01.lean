/- Printed: what each function asks, and that it is sound. -/
import Derived.Test.YtfhbhckhmnleoaaGreatFnsC
set_option linter.unusedSimpArgs false
set_option linter.unusedVariables false
set_option maxRecDepth 100000
set_option maxHeartbeats 1000000
noncomputable section
namespace Go.Proofs.YtfhbhckhmnleoaaGreat
open Go Go.Proofs.Tryz
variable{R:zv}{H:zV}{d r:zW}{i j u:Int}{k o:Nat}
def cJ.K0:=Func.code f53
def cJ.pt(s:zW)(d b nv:Int)(H:zV)(R:zv):Prop:=
 cT.C s H (λv H1=> ∃x,v=.bool x/\
 if x=true then(
 R (.tuple #[vi 0,vi 1]) H1)
 else
 j5.C d b nv H1 (λz H2=> ∃o,z=.bool o/\
 if o=true then(
 cR.C s d b H2 (λaa H3=> ∃ra rb,aa=.tuple #[vi ra,.bool rb]/\
 ∃J:zV->Prop,(
 if rb=true then(
 ∃g,s=some g/\
 ∃u,hat H3 g=some (vp u)/\
 gS.C u ra nv H3 (λab H8=> ∃j m,ab=.tuple #[vi j,vi m]/\
 if m=0 then(
 R (.tuple #[vi j,vi 0]) H8)
 else
 J H8))
 else
 J H3)/\ ∀H4,J H4->
 ∃sA,s=some sA/\
 ∃r,hat H4 sA=some (vp r)/\
 iF.C r d b H4 (λae H5=> ∃e f,ae=.tuple #[vi e,vi f]/\
 if f=0 then(
 yZ d 5/\
 yZ b 4/\
 (aH H5 (((sA.add 1).add (Int.toNat d*4)).add (Int.toNat b*1)) 0 1)/\ ∀H6,H6=aP H5 (((sA.add 1).add (Int.toNat d*4)).add (Int.toNat b*1)) [vi (zY (e+1))] 0->
 ∃y,hat H6 sA=some (vp y)/\
 gS.C y e nv H6 (λac H7=> ∃q p,ac=.tuple #[vi q,vi p]/\
 R (.tuple #[vi q,vi p]) H7))
 else
 R (.tuple #[vi 0,vi f]) H5)))
 else
 R (.tuple #[vi 0,vi 1]) H2))
theorem cJ.link(h:pt d i j u H R):C d i j u H R:=by
 refine p0 K0 77 func53 ?_
 intro w0 Q hQ
 unfold pt zY at h
 refine kT [(0,vp d),(1,vi i),(2,vi j),(3,vi u)]<|ar 0<|eT 2 [] []<|ge<|ar 1<|eH 1 [] [(16,vp d)]<|sa 17 [16] h λx H1 h=>eH 1 [17] [(18,.bool x)]<|qx h (λc1 h=>?_) (λc1 h=>?_)
 ·exact oo 18 c1<|eT 6 [18] [(24,VT)]<|wc 24<|ar 2<|hV 2 [8,9] [vi 0,vi 1] hQ h
 refine oo 18 (zZ c1)<|eH 3 [] [(19,vi i),(20,vi j),(21,vi u)]<|sa 22 [19,20,21] h λo H2 h=>eT 2 [18,22] [(24,.bool (!o))]<|qx h (λc3 h=>?_) (λc3 h=>?_)
 ·refine aK 24 (congrArg Bool.not (c3))<|kd<|ge<|ar 3<|eH 3 [24] [(26,vp d),(27,vi i),(28,vi j)]<|yD 29 [26,27,28] h λra rb H3 h=>eT 5 [29] [(10,vi ra),(11,.bool rb)]<|ar 4<|u5 1 [(0,vp d),(1,vi i),(2,vi j),(3,vi u),(10,vi ra),(32,.bool rb)]<|have⟨J,h,j6⟩:=h;rv (σ:=Unit) (λs_=> [(0,vp d),(1,vi i),(2,vi j),(3,vi u)]) (λs_ H=>J H) ?_ ?_
  ·refine λ_ H4 j7=>have h:=j6 H4 j7;kT [(0,vp d),(1,vi i),(2,vi j),(3,vi u)]<|aC<|ar 8<|eH 1 [] [(47,vp d)] ?_
   obtain⟨sA,rfl,ha⟩:=h
   refine eH 2 [0,47] [(0,Vq sA),(49,Vq sA)]<|have⟨r,q8,h⟩:=ha;hH 50 78 q8 [49]<|eH 2 [] [(51,vi i),(52,vi j)]<|yD 53 [50,51,52] h λe f H5 h=>eT 5 [53] [(14,vi e),(15,vi f)]<|ge<|ar 9<|eT 2 [] [(57,.bool (f !=0))]<|qx h (λc9 h=>?_) (λc9 h=>?_)
   ·exact aK 57 (bne_eq_false_iff_eq.mpr c9)<|kd<|ar 11<|eH 7 [1,2,15,57] [(60,vi i),(61,vi j),(63,vi (zY (e+1))),(65,Vq (sA.add 1))]<|have⟨q11,h⟩:=h;yI 66 (bD 80 (Vq (sA.add 1)) (vi i)) (Vq ((sA.add 1).add (Int.toNat i*4))) (λw _=>bO (P:=prog) (t:=80) (elem:=79) (sz:=4) (n:=5) (a:=(sA.add 1)) (k:=.i64) (i:=i) underlying80 (λ_=>by kernel_rfl) q11.1 q11.2 w) [60,65]<|have⟨q12,h⟩:=h;yI 67 (bD 79 (Vq ((sA.add 1).add (Int.toNat i*4))) (vi j)) (Vq (((sA.add 1).add (Int.toNat i*4)).add (Int.toNat j*1))) (λw _=>bO (P:=prog) (t:=79) (elem:=3) (sz:=1) (n:=4) (a:=((sA.add 1).add (Int.toNat i*4))) (k:=.i64) (i:=j) underlying79 (λ_=>by kernel_rfl) q12.1 q12.2 w) [61,66]<|have⟨q14,h⟩:=h;eQ 3 (vi (zY (e+1))) q14<|λH6 e13=>have h:=h H6 e13;kb [63,67] []<|ym<|ar 12<|eH 3 [0] [(70,Vq sA)]<|have⟨y,q15,h⟩:=h;hH 71 78 q15 [70]<|eH 2 [3,14] [(72,vi e),(73,vi u)]<|zm 74 (λq p=>[(74,.tuple #[vi q,vi p])]) h λq p H7 h=>hV 4 [8,9] [vi q,vi p] hQ h
   exact aJ 57 (bne_iff_ne.mpr c9)<|ar 10<|hV 3 [8,9] [vi 0,vi f] hQ h
  revert h;refine AV (λc16 h=>?_) (λc16 h=>?_)
  ·have b17:rb=true:=c16
   refine iP [(0,vp d),(1,vi i),(2,vi j),(3,vi u),(10,vi ra),(32,VT)] (by simp only[b17,Bool.not_true,Bool.not_false]) ?_
   clear b17
   refine wc 32<|ar 5<|eH 1 [32] [(34,vp d)] ?_
   obtain⟨g,rfl,hb⟩:=h
   refine eH 2 [0,34] [(0,Vq g),(36,Vq g)]<|have⟨s,q18,h⟩:=hb;hH 37 78 q18 [36]<|eH 2 [10] [(38,vi ra),(39,vi u)]<|yD 40 [37,38,39] h λb m H8 h=>eT 5 [40] [(12,vi b),(13,vi m)]<|ar 6<|eT 2 [13] [(44,.bool (m==0))]<|qx h (λc19 h=>?_) (λc19 h=>?_)
   ·exact aJ 44 (zK c19)<|ar 7<|hV 3 [8,9] [vi b,vi 0] hQ h
   exact aK 44 (zJ c19)<|kd<|lV (():Unit) sk h
  have b17:rb=false:=zZ c16
  refine iP [(0,vp d),(1,vi i),(2,vi j),(3,vi u),(10,vi ra),(32,VF)] (by simp only[b17,Bool.not_true,Bool.not_false]) ?_
  clear b17
  exact yn 32<|kd<|lV (():Unit) sk h
 exact aJ 24 (congrArg Bool.not (zZ c3))<|ar 2<|hV 2 [8,9] [vi 0,vi 1] hQ h
def cT.K0:=Func.code f67
def cT.pt(s:zW)(H:zV)(R:zv):Prop:=
 fE s (
 R VT H) (λsA=>
 ∃x,hat H sA=some (vp x)/\
 fE x (
 R VT H) (λxA=>
 R VF H))
theorem cT.link(h:pt d H R):C d H R:=by
 refine p0 K0 12 func67 ?_
 intro w0 Q hQ
 unfold pt at h
 refine kT [(0,vp d)]<|ar 0<|eT 1 [] []<|ar 1<|eH 1 [] [(3,vp d)] ?_
 rcases d with _ | sA
 ·rw[onPtr_none]at h
  exact hV 9 [2] [VT] hQ h
 rw[onPtr_some]at h
 refine u8 5 [(5,VF),(8,Vq sA)]<|have⟨x,q1,h⟩:=h;hH 9 78 q1 [8] ?_
 rcases x with _ | xA
 ·rw[onPtr_none]at h
  exact hV 3 [2] [VT] hQ h
 rw[onPtr_some]at h
 exact hV 3 [2] [VF] hQ h
def j4.K0:=Func.code f84
def j4.pt(a:Int)(H:zV)(R:zv):Prop:=
 lw.C a H (λv H1=> ∃ra rb,v=.tuple #[vp ra,vi rb]/\
 if rb=0 then(
 ∀b H2,b=H1.size->H2=H1.push (.cells #[vp ra,vi 0,vi 0,vi 0,vi 0,vi 0,vi 0,vi 0,vi 0,vi 0,vi 0,vi 0,vi 0,vi 0,vi 0,vi 0,vi 0,vi 0,vi 0,vi 0,vi 0] 82)->
 R (.tuple #[Vq (ad b),vi 0]) H2)
 else
 R (.tuple #[vp none,vi rb]) H1)
theorem j4.link(h:pt i H R):C i H R:=by
 refine p0 K0 17 func84 ?_
 intro w0 Q hQ
 unfold pt at h
 refine kT [(0,vi i)]<|ar 0<|eT 2 [] []<|ar 1<|u8 1 [(7,vi i)]<|zm 8 (λra rb=>[(8,.tuple #[vp ra,vi rb])]) h λra rb H1 h=>u5 5 [(4,vp ra),(5,vi rb)]<|ge<|ar 2<|eT 2 [] [(12,.bool (rb !=0))]<|qx h (λc1 h=>?_) (λc1 h=>?_)
 ·refine aK 12 (bne_eq_false_iff_eq.mpr c1)<|kd<|ar 4<|u8 2 [(15,.agg #[vp ra,vi 0,vi 0,vi 0,vi 0,vi 0,vi 0,vi 0,vi 0,vi 0,vi 0,vi 0,vi 0,vi 0,vi 0,vi 0,vi 0,vi 0,vi 0,vi 0,vi 0])]<|sv (some 16) (λb=>vp (pa b)) (.cells #[vp ra,vi 0,vi 0,vi 0,vi 0,vi 0,vi 0,vi 0,vi 0,vi 0,vi 0,vi 0,vi 0,vi 0,vi 0,vi 0,vi 0,vi 0,vi 0,vi 0,vi 0] 82)<|λb H2 e3 e4=>have h:=h b H2 e3 e4;⟨[(16,vp (pa b))],pk,?_⟩
  exact hV 2 [2,3] [vp (pa b),vi 0] hQ h
 exact aJ 12 (bne_iff_ne.mpr c1)<|ar 3<|hV 3 [2,3] [vp none,vi rb] hQ h
def j5.K0:=Func.code f96
def j5.pt(b a nv:Int)(H:zV)(R:zv):Prop:=
 if((decide (b<0)) || (decide (b>4)))=true then(
 R VF H)
 else
 if((a==0) || (a==1))=true then(
 R (.bool (nv==2)) H)
 else
 R (.bool ((((a==2) || (a==3)) && (decide (nv>=1))) && (decide (nv<=63)))) H
theorem j5.link{b a nv:Int}(h:pt b a nv H R):C b a nv H R:=by
 refine p0 K0 37 func96 ?_
 intro w0 Q hQ
 unfold pt at h
 refine kT [(0,vi b),(1,vi a),(2,vi nv)]<|ar 0<|eT 1 [] []<|ge<|o0 0<|ar 1<|iX [(1,vi a),(2,vi nv),(7,.bool ((decide (b<0)) || (decide (b>4))))] ?_ ?_
 ·refine aC<|qx h (λc3 h=>?_) (λc3 h=>?_)
  ·exact aJ 7 c3<|ar 2<|hV 1 [6] [VF] hQ h
  refine aK 7 (zZ c3)<|ar 3<|iX [(1,vi a),(2,vi nv),(14,.bool ((a==0) || (a==1)))] ?_ ?_
  ·refine aC<|qx h (λc7 h=>?_) (λc7 h=>?_)
   ·exact aJ 14 c7<|ar 4<|hV 3 [6] [.bool (nv==2)] hQ h
   refine aK 14 (zZ c7)<|yR<|aA<|aC<|ar 5<|iX [(6,.bool ((((a==2) || (a==3)) && (decide (nv>=1))) && (decide (nv<=63))))] ?_ ?_
   ·exact aC<|iV [6] [.bool ((((a==2) || (a==3)) && (decide (nv>=1))) && (decide (nv<=63)))] hQ h
   refine λhk=>u8 3 [(1,vi a),(2,vi nv),(25,.bool (a==2))] ?_
   by_cases c9:a=2
   ·have b10:(a==2)=true:=zK c9
    refine bW [(1,vi a),(2,vi nv),(25,VT)] (by rw[b10])<|eH 8 [1,25] [(33,.bool (decide (nv>=1)))] ?_
    by_cases c11:nv>=1
    ·have b12:(decide (nv>=1))=true:=zX c11
     exact oo 33 b12<|u8 4 [(6,.bool (decide (nv<=63)))]<|zq<|iP [(6,.bool ((((a==2) || (a==3)) && (decide (nv>=1))) && (decide (nv<=63))))] (by simp only[b10,b12,BL])<|hk
    have b12:(decide (nv>=1))=false:=zQ c11
    exact oo 33 b12<|u8 4 [(6,VF)]<|zq<|iP [(6,.bool ((((a==2) || (a==3)) && (decide (nv>=1))) && (decide (nv<=63))))] (by simp only[b10,b12,BL])<|hk
   have b10:(a==2)=false:=zJ c9
   refine bW [(1,vi a),(2,vi nv),(25,VF)] (by rw[b10])<|eH 4 [1,25] [(29,.bool (a==3))] ?_
   by_cases c13:a=3
   ·have b14:(a==3)=true:=zK c13
    refine oo 29 b14<|eH 4 [29] [(33,.bool (decide (nv>=1)))] ?_
    by_cases c15:nv>=1
    ·have b16:(decide (nv>=1))=true:=zX c15
     exact oo 33 b16<|u8 4 [(6,.bool (decide (nv<=63)))]<|zq<|iP [(6,.bool ((((a==2) || (a==3)) && (decide (nv>=1))) && (decide (nv<=63))))] (by simp only[b10,b14,b16,BL])<|hk
    have b16:(decide (nv>=1))=false:=zQ c15
    exact oo 33 b16<|u8 4 [(6,VF)]<|zq<|iP [(6,.bool ((((a==2) || (a==3)) && (decide (nv>=1))) && (decide (nv<=63))))] (by simp only[b10,b14,b16,BL])<|hk
   have b14:(a==3)=false:=zJ c13
   exact oo 29 b14<|u8 8 [(6,VF)]<|zq<|iP [(6,.bool ((((a==2) || (a==3)) && (decide (nv>=1))) && (decide (nv<=63))))] (by simp only[b10,b14,BL])<|hk
  refine λhk=>u8 3 [(1,vi a),(2,vi nv),(17,.bool (a==0))] ?_
  by_cases c5:a=0
  ·have b6:(a==0)=true:=zK c5
   exact bW [(1,vi a),(2,vi nv),(17,VT)] (by rw[b6])<|eH 4 [17] [(14,VT)]<|zq<|vb 14 (b:=true) (v:=((a==0) || (a==1))) (by simp only[b6,BL])<|hk
  have b6:(a==0)=false:=zJ c5
  exact bW [(1,vi a),(2,vi nv),(17,VF)] (by rw[b6])<|eH 4 [17] [(14,.bool (a==1))]<|zq<|vb 14 (b:=(a==1)) (v:=((a==0) || (a==1))) (by simp only[b6,BL])<|hk
 refine λhk=>u8 3 [(0,vi b),(1,vi a),(2,vi nv),(10,.bool (decide (b<0)))] ?_
 by_cases c1:b<0
 ·have b2:(decide (b<0))=true:=zX c1
  exact bW [(0,vi b),(1,vi a),(2,vi nv),(10,VT)] (by rw[b2])<|eH 4 [0,10] [(7,VT)]<|zq<|vb 7 (b:=true) (v:=((decide (b<0)) || (decide (b>4)))) (by simp only[b2,BL])<|hk
 have b2:(decide (b<0))=false:=zQ c1
 exact bW [(0,vi b),(1,vi a),(2,vi nv),(10,VF)] (by rw[b2])<|eH 4 [0,10] [(7,.bool (decide (b>4)))]<|zq<|vb 7 (b:=(decide (b>4))) (v:=((decide (b<0)) || (decide (b>4)))) (by simp only[b2,BL])<|hk
def cR.K0:=Func.code f97
def cR.pt(s:zW)(d b:Int)(H:zV)(R:zv):Prop:=
 fE s (
 R (.tuple #[vi 0,VF]) H) (λsA=>
 if d<0 then(
 R (.tuple #[vi 0,VF]) H)
 else
 if d>4 then(
 R (.tuple #[vi 0,VF]) H)
 else
 if b<0 then(
 R (.tuple #[vi 0,VF]) H)
 else
 if b>3 then(
 R (.tuple #[vi 0,VF]) H)
 else
 yZ d 5/\
 yZ b 4/\
 ∃x,hat H (((sA.add 1).add (Int.toNat d*4)).add (Int.toNat b*1))=some (vi x)/\
 if x=0 then(
 R (.tuple #[vi 0,VF]) H)
 else
 yZ d 5/\
 yZ b 4/\
 ∃e,hat H (((sA.add 1).add (Int.toNat d*4)).add (Int.toNat b*1))=some (vi e)/\
 R (.tuple #[vi (zY (e-1)),VT]) H)
theorem cR.link(h:pt d i j H R):C d i j H R:=by
 refine p0 K0 46 func97 ?_
 intro w0 Q hQ
 unfold pt zY at h
 refine kT [(0,vp d),(1,vi i),(2,vi j)]<|ar 0<|eT 2 [] []<|ge<|ar 1<|eH 1 [] [(8,vp d)] ?_
 rcases d with _ | sA
 ·rw[onPtr_none]at h
  exact eT 28 [0,8] [(0,vp none),(36,VT)]<|wc 36<|ar 2<|hV 2 [6,7] [vi 0,VF] hQ h
 rw[onPtr_some]at h
 refine eH 6 [0,8] [(0,Vq sA),(14,.bool (decide (i<0)))]<|qx h (λc1 h=>?_) (λc1 h=>?_)
 ·exact oo 14 (zX c1)<|eT 22 [14] [(36,VT)]<|wc 36<|ar 2<|hV 2 [6,7] [vi 0,VF] hQ h
 refine oo 14 (zQ c1)<|eH 4 [14] [(18,.bool (decide (i>4)))]<|qx h (λc3 h=>?_) (λc3 h=>?_)
 ·exact oo 18 (zX c3)<|eT 18 [18] [(36,VT)]<|wc 36<|ar 2<|hV 2 [6,7] [vi 0,VF] hQ h
 refine oo 18 (zQ c3)<|eH 4 [18] [(22,.bool (decide (j<0)))]<|qx h (λc5 h=>?_) (λc5 h=>?_)
 ·exact oo 22 (zX c5)<|eT 14 [22] [(36,VT)]<|wc 36<|ar 2<|hV 2 [6,7] [vi 0,VF] hQ h
 refine oo 22 (zQ c5)<|eH 4 [22] [(26,.bool (decide (j>3)))]<|qx h (λc7 h=>?_) (λc7 h=>?_)
 ·exact oo 26 (zX c7)<|eT 10 [26] [(36,VT)]<|wc 36<|ar 2<|hV 2 [6,7] [vi 0,VF] hQ h
 refine oo 26 (zQ c7)<|eH 5 [] [(28,vi i),(29,vi j),(31,Vq (sA.add 1))]<|have⟨q9,h⟩:=h;yI 32 (bD 80 (Vq (sA.add 1)) (vi i)) (Vq ((sA.add 1).add (Int.toNat i*4))) (λw _=>bO (P:=prog) (t:=80) (elem:=79) (sz:=4) (n:=5) (a:=(sA.add 1)) (k:=.i64) (i:=i) underlying80 (λ_=>by kernel_rfl) q9.1 q9.2 w) [28,31]<|have⟨q10,h⟩:=h;yI 33 (bD 79 (Vq ((sA.add 1).add (Int.toNat i*4))) (vi j)) (Vq (((sA.add 1).add (Int.toNat i*4)).add (Int.toNat j*1))) (λw _=>bO (P:=prog) (t:=79) (elem:=3) (sz:=1) (n:=4) (a:=((sA.add 1).add (Int.toNat i*4))) (k:=.i64) (i:=j) underlying79 (λ_=>by kernel_rfl) q10.1 q10.2 w) [29,32]<|have⟨x,q11,h⟩:=h;hH 34 3 q11 [33]<|eT 2 [26,34] [(36,.bool (x==0))]<|qx h (λc12 h=>?_) (λc12 h=>?_)
 ·exact aJ 36 (zK c12)<|ar 2<|hV 2 [6,7] [vi 0,VF] hQ h
 exact aK 36 (zJ c12)<|kd<|ar 3<|u8 5 [(38,vi i),(39,vi j),(41,Vq (sA.add 1))]<|have⟨q14,h⟩:=h;yI 42 (bD 80 (Vq (sA.add 1)) (vi i)) (Vq ((sA.add 1).add (Int.toNat i*4))) (λw _=>bO (P:=prog) (t:=80) (elem:=79) (sz:=4) (n:=5) (a:=(sA.add 1)) (k:=.i64) (i:=i) underlying80 (λ_=>by kernel_rfl) q14.1 q14.2 w) [38,41]<|have⟨q15,h⟩:=h;yI 43 (bD 79 (Vq ((sA.add 1).add (Int.toNat i*4))) (vi j)) (Vq (((sA.add 1).add (Int.toNat i*4)).add (Int.toNat j*1))) (λw _=>bO (P:=prog) (t:=79) (elem:=3) (sz:=1) (n:=4) (a:=((sA.add 1).add (Int.toNat i*4))) (k:=.i64) (i:=j) underlying79 (λ_=>by kernel_rfl) q15.1 q15.2 w) [39,42]<|have⟨e,q16,h⟩:=h;hH 44 3 q16 [43]<|hV 3 [6,7] [vi (zY (e-1)),VT] hQ h
def kE.K0:=Func.code Tryz.f40
def kE.pt(a:Int)(H:zV)(R:zv):Prop:=
 j4.C a H (λv H1=> ∃ra rb,v=.tuple #[vp ra,vi rb]/\
 if rb=0 then(
 ∀b H2,b=H1.size->H2=H1.push (.cells #[vp ra] 54)->
 R (.tuple #[Vq (ad b),vi 0]) H2)
 else
 R (.tuple #[vp none,vi rb]) H1)
theorem kE.link(h:pt i H R):C i H R:=by
 refine p0 K0 17 func40 ?_
 intro w0 Q hQ
 unfold pt at h
 refine kT [(0,vi i)]<|ar 0<|eT 2 [] []<|ar 1<|u8 1 [(7,vi i)]<|zm 8 (λra rb=>[(8,.tuple #[vp ra,vi rb])]) h λra rb H1 h=>u5 5 [(4,vp ra),(5,vi rb)]<|ge<|ar 2<|eT 2 [] [(12,.bool (rb !=0))]<|qx h (λc1 h=>?_) (λc1 h=>?_)
 ·refine aK 12 (bne_eq_false_iff_eq.mpr c1)<|kd<|ar 4<|u8 2 [(15,.agg #[vp ra])]<|sv (some 16) (λb=>vp (pa b)) (.cells #[vp ra] 54)<|λb H2 e3 e4=>have h:=h b H2 e3 e4;⟨[(16,vp (pa b))],pk,?_⟩
  exact hV 2 [2,3] [vp (pa b),vi 0] hQ h
 exact aJ 12 (bne_iff_ne.mpr c1)<|ar 3<|hV 3 [2,3] [vp none,vi rb] hQ h
def dY.K0:=Func.code f80
def dY.pt(c:zW)(wv:Int)(H:zV)(R:zv):Prop:=
 gH.C wv H (λv H1=> ∃ra rb,v=.tuple #[vi ra,.bool rb]/\
 cS.C c H1 (λr H2=> ∃x,r=.bool x/\
 if x=true then(
 R (.tuple #[vi 0,VF]) H2)
 else
 if rb=true then(
 cK.C wv H2 (λs H3=> ∃m,s=vi m/\
 if m=6 then(
 R (.tuple #[vi 0,VF]) H3)
 else
 ∃cA,c=some cA/\
 ∃p,hat H3 cA=some (vp p)/\
 ∃q,p=some q/\
 ∃o,hat H3 q=some (vp o)/\
 bA.C o (zY (Int.tdiv ra 64)) H3 (λt H4=> ∃j g k f e d a i,t=.tuple #[.agg #[vi j,vi g,vi k,vi f,vi e,vi d,vi a],.bool i]/\
 ∀b H5,b=H4.size->H5=H4.push (.cells #[vi 0,vi 0,vi 0,vi 0,vi 0,vi 0,vi 0] 108)->
 (aH H5 (ad b) 0 7)/\ ∀H6,H6=aP H5 (ad b) [vi j,vi g,vi k,vi f,vi e,vi d,vi a] 0->
 ∃n,hat H6 (ad b)=some (vi n)/\
 R (.tuple #[vi n,.bool i]) H6)))
 else
 R (.tuple #[vi 0,VF]) H2))
theorem dY.link(h:pt d i H R):C d i H R:=by
 refine p0 K0 41 func80 ?_
 intro w0 Q hQ
 unfold pt zY at h
 refine kT [(0,vp d),(1,vu i)]<|ar 0<|eT 2 [] []<|ar 1<|eH 1 [] [(10,vu i)]<|yD 11 [10] h λra rb H1 h=>eT 5 [11] [(6,vi ra),(7,.bool rb)]<|ge<|ar 2<|eH 1 [] [(14,vp d)]<|sa 15 [14] h λx H2 h=>eH 1 [15] [(16,.bool x)]<|qx h (λc1 h=>?_) (λc1 h=>?_)
 ·exact oo 16 c1<|eT 8 [1,7,16] [(24,VT)]<|wc 24<|ar 3<|hV 2 [4,5] [vi 0,VF] hQ h
 refine oo 16 (zZ c1)<|eH 4 [7,16] [(20,.bool (!rb))]<|qx h (λc3 h=>?_) (λc3 h=>?_)
 ·have b4:(!rb)=false:=congrArg Bool.not (c3)
  have b42:rb=true:=c3
  refine oo 20 (b:=(!rb)) (v:=false) (by simp only[b4,b42,Bool.not_true,Bool.not_false]) ?_
  clear b4 b42
  refine eH 1 [1] [(21,vu i)]<|sa 22 [21] h λm H3 h=>eT 2 [20,22] [(24,.bool (m==6))]<|qx h (λc5 h=>?_) (λc5 h=>?_)
  ·exact aJ 24 (zK c5)<|ar 3<|hV 2 [4,5] [vi 0,VF] hQ h
  refine aK 24 (zJ c5)<|kd<|ar 4<|eH 1 [0,24] [(26,vp d)] ?_
  obtain⟨cA,rfl,ha⟩:=h
  refine eH 2 [26] [(28,Vq cA)]<|have⟨p,q7,h⟩:=ha;hH 29 52 q7 [28] ?_
  obtain⟨q,rfl,hb⟩:=h
  exact eH 2 [29] [(31,Vq q)]<|have⟨o,q8,h⟩:=hb;hH 32 78 q8 [31]<|eH 2 [6] [(34,vi (zY (Int.tdiv ra 64)))]<|Cn 35 (λj g k f e wv a c=>[(35,.tuple #[.agg #[vi j,vi g,vi k,vi f,vi e,vi wv,vi a],.bool c])]) h λj g k f e wv a c H4 h=>u8 3 [(36,.agg #[vi j,vi g,vi k,vi f,vi e,vi wv,vi a]),(37,.bool c)]<|sv (some 8) (λb=>vp (pa b)) (.cells #[vi 0,vi 0,vi 0,vi 0,vi 0,vi 0,vi 0] 108)<|λb H5 e9 e10=>have h:=h b H5 e9 e10;kb [] [(8,vp (pa b))]<|have⟨q12,h⟩:=h;fK 108 [vi j,vi g,vi k,vi f,vi e,vi wv,vi a] q12<|λH6 e11=>have h:=h H6 e11;kb [36] []<|eT 1 [37] [(7,.bool c)]<|ar 5<|eH 1 [8] [(38,vp (pa b))]<|have⟨n,q13,h⟩:=h;hH 39 3 q13 [38]<|hV 3 [4,5] [vi n,.bool c] hQ h
 have b4:(!rb)=true:=congrArg Bool.not (zZ c3)
 have b42:rb=false:=zZ c3
 refine oo 20 (b:=(!rb)) (v:=true) (by simp only[b4,b42,Bool.not_true,Bool.not_false]) ?_
 clear b4 b42
 exact eT 4 [1,20] [(24,VT)]<|wc 24<|ar 3<|hV 2 [4,5] [vi 0,VF] hQ h
def cS.K0:=Func.code f92
def cS.pt(c:zW)(H:zV)(R:zv):Prop:=
 fE c (
 R VT H) (λcA=>
 ∃x,hat H cA=some (vp x)/\
 fE x (
 R VT H) (λxA=>
 ∃d,hat H cA=some (vp d)/\
 ∃b,d=some b/\
 ∃a,hat H b=some (vp a)/\
 fE a (
 R VT H) (λe=>
 R VF H)))
theorem cS.link(h:pt d H R):C d H R:=by
 refine p0 K0 22 func92 ?_
 intro w0 Q hQ
 unfold pt at h
 refine kT [(0,vp d)]<|ar 0<|eT 1 [] []<|ar 1<|eH 1 [] [(3,vp d)] ?_
 rcases d with _ | cA
 ·rw[onPtr_none]at h
  exact hV 19 [2] [VT] hQ h
 rw[onPtr_some]at h
 refine u8 5 [(0,Vq cA),(5,VF),(8,Vq cA)]<|have⟨x,q1,h⟩:=h;hH 9 52 q1 [8] ?_
 rcases x with _ | xA
 ·rw[onPtr_none]at h
  exact hV 13 [2] [VT] hQ h
 rw[onPtr_some]at h
 refine u8 6 [(12,VF),(15,Vq cA)]<|have⟨c,q2,h⟩:=h;hH 16 52 q2 [15] ?_
 obtain⟨b,rfl,ha⟩:=h
 refine eH 2 [16] [(18,Vq b)]<|have⟨a,q3,h⟩:=ha;hH 19 78 q3 [18] ?_
 rcases a with _ | e
 ·rw[onPtr_none]at h
  exact hV 3 [2] [VT] hQ h
 rw[onPtr_some]at h
 exact hV 3 [2] [VF] hQ h
def cM.K0:=Func.code Tryz.f107
def cM.pt(c:zW)(k i sN d g f e wv a:Int)(H:zV)(R:zv):Prop:=
 ∀b H1,b=H.size->H1=H.push (.cells #[vi k,vi i,vi sN,vi d,vi g,vi f,vi e] 108)->
 dY.C c wv H1 (λv H2=> ∃ra rb,v=.tuple #[vi ra,.bool rb]/\
 if rb=true then(
 ∃x,hat H2 ((ad b).add 1)=some (vi x)/\
 if x=3 then(
 R (vi a) H2)
 else
 ∃j,hat H2 (ad b)=some (vi j)/\
 if ra<j then(
 R (vi (if ra<a then ra else a)) H2)
 else
 R (vi a) H2)
 else
 R (vi a) H2)
theorem cM.link{sN g f e wv a:Int}(h:pt d i j u sN g f e wv a H R):C d i j u sN g f e wv a H R:=by
 refine p0 K0 33 func107 ?_
 intro w0 Q hQ
 unfold pt at h
 refine kT [(0,vp d),(1,.agg #[vi i,vi j,vi u,vi sN,vi g,vi f,vi e]),(2,vu wv),(3,vi a)]<|ar 0<|sv (some 5) (λb=>vp (pa b)) (.cells #[vi i,vi j,vi u,vi sN,vi g,vi f,vi e] 108)<|λb H1 e1 e2=>have h:=h b H1 e1 e2;kb [1] [(5,vp (pa b))]<|eT 1 [] []<|ge<|ar 1<|eH 2 [0,2] [(12,vp d),(13,vu wv)]<|yD 14 [12,13] h λra rb H2 h=>eT 5 [14] [(9,vi ra),(10,.bool rb)]<|ar 2<|eH 2 [10] [(18,.bool rb)]<|qx h (λc3 h=>?_) (λc3 h=>?_)
 ·refine oo 18 c3<|eH 1 [] [(19,Vq ((ad b).add 1))]<|have⟨x,q5,h⟩:=h;hH 20 3 q5 [19]<|eH 3 [18,20] [(23,.bool (x !=3))]<|qx h (λc6 h=>?_) (λc6 h=>?_)
  ·exact oo 23 (bne_eq_false_iff_eq.mpr c6)<|eT 5 [5,23] [(28,VF)]<|yn 28<|kd<|ar 4<|hV 2 [8] [vi a] hQ h
  refine oo 23 (bne_iff_ne.mpr c6)<|eH 2 [5] [(24,vi ra),(25,vp (pa b))]<|have⟨k,q8,h⟩:=h;hH 26 3 q8 [25]<|eT 2 [23,24,26] [(28,.bool (decide (ra<k)))]<|qx h (λc9 h=>?_) (λc9 h=>?_)
  ·exact aJ 28 (zX c9)<|ar 3<|hV 4 [8] [vi (if ra<a then ra else a)] hQ h
  exact aK 28 (zQ c9)<|kd<|ar 4<|hV 2 [8] [vi a] hQ h
 exact oo 18 (zZ c3)<|eT 10 [5,18] [(28,VF)]<|yn 28<|kd<|ar 4<|hV 2 [8] [vi a] hQ h
namespace dK
def K0:=Func.code f133
def K2:=cb K0
def K4:=cb K2
def zd:=cb K4
def zL:=cb zd
def Ak:=cb zL
def AN:=ca Ak
end dK
def dK.pt(c:zW)(d wv:Int)(H:zV)(R:zv):Prop:=
 cS.C c H (λv H1=> ∃x,v=.bool x/\
 if x=true then(
 R (vi 18) H1)
 else
 ∃cA,c=some cA/\
 ∃aj,hat H1 cA=some (vp aj)/\
 ∃al,aj=some al/\
 ∃ah,hat H1 al=some (vp ah)/\
 bR.C ah d wv H1 (λao H2=> ∃ab,ao=vi ab/\
 if ab=0 then(
 ∃ak,hat H2 cA=some (vp ak)/\
 ∃am,ak=some am/\
 ∃ag,hat H2 am=some (vp ag)/\
 bA.C ag (zY (Int.tdiv d 64)) H2 (λap H3=> ∃aa s ae q p o m rb,ap=.tuple #[.agg #[vi aa,vi s,vi ae,vi q,vi p,vi o,vi m],.bool rb]/\
 ∀b H4,b=H3.size->H4=H3.push (.cells #[vi 0,vi 0,vi 0,vi 0,vi 0,vi 0,vi 0] 108)->
 (aH H4 (ad b) 0 7)/\ ∀H5,H5=aP H4 (ad b) [vi aa,vi s,vi ae,vi q,vi p,vi o,vi m] 0->
 ∃an,hat H5 cA=some (vp an)/\
 ∃z,an=some z/\
 ∃u,hat H5 z=some (vp u)/\
 ∃y r xN e f g j,aM H5 (ad b) 0 [vi y,vi r,vi xN,vi e,vi f,vi g,vi j]/\
 ((0:Int)<=(zY (Int.tdiv (Int.tmod d 64) 16))/\(zY (Int.tdiv (Int.tmod d 64) 16))< (4:Int))/\
 ∃ai,hat H5 (((ad b).add 3).add (Int.toNat (zY (Int.tdiv (Int.tmod d 64) 16))*1))=some (vi ai)/\
 cM.C (some cA) y r xN e f g j wv ai H5 (λau H6=> ∃af,au=vi af/\aM H6 cA 0 [Vq z]/\aM H6 z 0 [vp u]/\
 gT.C u (zY (Int.tdiv d 64)) (zY (Int.tdiv (Int.tmod d 64) 16)) af H6 (λaq H7=> ∃ac,aq=vi ac/\
 R (vi ac) H7))))
 else
 R (vi ab) H2))
theorem dK.link(h:pt d i j H R):C d i j H R:=by
 refine p0 K0 62 func133 ?_
 intro w0 Q hQ
 unfold pt zY at h
 refine kT [(0,vp d),(1,vi i),(2,vu j)]<|ar 0<|eT 1 [] []<|ge<|ar 1<|eH 1 [] [(12,vp d)]<|sa 13 [12] h λx H1 h=>ym<|qx h (λc1 h=>?_) (λc1 h=>?_)
 ·exact aJ 13 c1<|ar 2<|hV 1 [6] [vi 18] hQ h
 refine aK 13 (zZ c1)<|kd<|ge<|ar 3<|eH 1 [13] [(14,vp d)] ?_
 obtain⟨cA,rfl,ha⟩:=h
 refine eH 2 [0,14] [(0,Vq cA),(16,Vq cA)]<|have⟨aj,q3,h⟩:=ha;hH 17 52 q3 [16] ?_
 obtain⟨al,rfl,hb⟩:=h
 refine eH 2 [17] [(19,Vq al)]<|have⟨ah,q4,h⟩:=hb;hH 20 78 q4 [19]<|eH 2 [] [(21,vi i),(22,vu j)]<|sa 23 [20,21,22] h λab H2 h=>eT 1 [23] [(7,vi ab)]<|ar 4<|eT 2 [] [(25,.bool (ab !=0))]<|qx h (λc5 h=>?_) (λc5 h=>?_)
 ·refine aK 25 (bne_eq_false_iff_eq.mpr c5)<|kd<|ar 6<|eT 7 [1,7,25] [(8,vi (zY (Int.tdiv i 64))),(9,vi (zY (Int.tdiv (Int.tmod i 64) 16)))]<|ar 7<|eH 3 [] [(35,Vq cA)]<|have⟨ak,q7,h⟩:=h;hH 36 52 q7 [35] ?_
  obtain⟨am,rfl,hc⟩:=h
  refine eH 2 [36] [(38,Vq am)]<|have⟨ag,q8,h⟩:=hc;hH 39 78 q8 [38]<|eH 1 [] [(40,vi (zY (Int.tdiv i 64)))]<|zE 41 [39,40] h λaa s ae q p o m rb H3 h=>eH 3 [41] [(42,.agg #[vi aa,vi s,vi ae,vi q,vi p,vi o,vi m]),(43,.bool rb)]<|sv (some 10) (λb=>vp (pa b)) (.cells #[vi 0,vi 0,vi 0,vi 0,vi 0,vi 0,vi 0] 108)<|λb H4 e9 e10=>have h:=h b H4 e9 e10;kb [] [(10,vp (pa b))]<|have⟨q12,h⟩:=h;fK 108 [vi aa,vi s,vi ae,vi q,vi p,vi o,vi m] q12<|λH5 e11=>have h:=h H5 e11;kb [42] []<|eT 1 [43] []<|ge ?_
  obtain⟨an,q13,z,rfl,u,q14,y,r,xN,e,f,g,c,q15,q16,ai,q17,hd⟩:=h
  refine yq 8 (Code.ops AN) [(17,cA,[vp (some z)]),(17,z,[vp u]),(16,(ad b),[vi y,vi r,vi xN,vi e,vi f,vi g,vi c]),(16,(((ad b).add 3).add (Int.toNat (zY (Int.tdiv (Int.tmod i 64) 16))*1)),[vi ai])] 19 (bv 19 0) (show aE _ _ _ from⟨⟨q13,trivial⟩,⟨q14,trivial⟩,q15,⟨q17,trivial⟩,trivial⟩)<|y9 0 (some 44) (vp (some cA)) (bv 19 1) [(0,vp (some cA)),(2,vu j),(8,vi (zY (Int.tdiv i 64))),(9,vi (zY (Int.tdiv (Int.tmod i 64) 16))),(10,vp (pa b)),(44,vp (some cA))]<|aG 1 45 (vp (some cA)) (bv 19 3) [44]<|aG 2 46 (vp (some cA)) (bv 19 7) [45]<|nc 3 47 (vp (some z)) (bv 19 15) [46] (aQ 52 (vp (some cA))) (yY 17 yX)<|aG 4 48 (vp (some z)) (bv 19 31) [47]<|aG 5 49 (vp (some z)) (bv 19 63) [48]<|nc 6 50 (vp u) (bv 19 127) [49] (aQ 78 (vp (some z))) (yY 17 yQ)<|aG 7 51 (vi (zY (Int.tdiv i 64))) (bv 19 255) [8]<|aG 8 52 (vi (zY (Int.tdiv (Int.tmod i 64) 16))) (bv 19 511) []<|aG 9 53 (vp (some cA)) (bv 19 1023) [0]<|nc 10 54 (.agg #[vi y,vi r,vi xN,vi e,vi f,vi g,vi c]) (bv 19 2047) [] (aQ 108 (vp (pa b))) (lE 16 (λ_=>by kernel_rfl) (λ_=>by kernel_rfl) yJ (.inl (by kernel_rfl)))<|aG 11 55 (vu j) (bv 19 4095) [2]<|aG 12 56 (vi (zY (Int.tdiv (Int.tmod i 64) 16))) (bv 19 8191) [9]<|aG 13 57 (vp (some ((ad b).add 3))) (bv 19 16383) [10]<|nc 14 58 (vp (some (((ad b).add 3).add (Int.toNat (zY (Int.tdiv (Int.tmod i 64) 16))*1)))) (bv 19 32767) [56,57] (bD 79 (vp (some ((ad b).add 3))) (vi (zY (Int.tdiv (Int.tmod i 64) 16)))) (λ_ w _ _ _=>bO (P:=prog) (t:=79) (elem:=3) (sz:=1) (n:=4) (a:=((ad b).add 3)) (k:=.i64) (i:=(zY (Int.tdiv (Int.tmod i 64) 16))) underlying79 (λ_=>by kernel_rfl) q16.1 q16.2 w)<|nc 15 59 (vi ai) (bv 19 65535) [58] (aQ 3 (vp (some (((ad b).add 3).add (Int.toNat (zY (Int.tdiv (Int.tmod i 64) 16))*1))))) (yY 16 yK)<|yx 16 (some 60) (bv 19 131071) 107 #[vp (some cA),.agg #[vi y,vi r,vi xN,vi e,vi f,vi g,vi c],vu j,vi ai] hd ?_;clear hd
  rintro au H6 ⟨af,rfl,f18,f19,h⟩
  refine⟨[(50,vp u),(51,vi (zY (Int.tdiv i 64))),(52,vi (zY (Int.tdiv (Int.tmod i 64) 16))),(60,vi af)],pk,(show aE _ _ _ from⟨f18,f19,trivial,trivial,trivial⟩),?_⟩
  refine yx 17 (some 61) (bv 19 262143) 108 #[vp u,vi (zY (Int.tdiv i 64)),vi (zY (Int.tdiv (Int.tmod i 64) 16)),vi af] h ?_;clear h
  rintro aq H7 ⟨ac,rfl,h⟩
  refine⟨[(61,vi ac)],pk,(show aE _ _ _ from⟨trivial,trivial,trivial,trivial,trivial⟩),?_⟩
  exact zh 18 (some 6) (vi ac) (bv 19 524287) [(6,vi ac)] (pure (.value (vi ac)):Sem Next) (λ_ _ _ _ _=>rfl)<|eP [(6,vi ac)] sk<|yz<|aC<|iV [6] [vi ac] hQ h
 exact aJ 25 (bne_iff_ne.mpr c5)<|ar 5<|hV 2 [6] [vi ab] hQ h
def fN.K0:=Func.code f11
def fN.pt(hv:zW)(a d:Int)(H:zV)(R:zv):Prop:=
 ∀b H1,b=H.size->H1=H.push (.cells #[vu a,vu d] 28)->
 fT.C hv 0 1 (some (ad b)) 2 2 H1 (λv H2=> ∃ra rb,v=.tuple #[vu ra,vi rb]/\
 R (.tuple #[vu ra,vi rb]) H2)
theorem fN.link(h:pt d i j H R):C d i j H R:=by
 refine p0 K0 15 func11 ?_
 intro w0 Q hQ
 unfold pt at h
 exact kT [(0,vp d),(1,vu i),(2,vu j)]<|ar 0<|eT 2 [] []<|ar 1<|u8 3 [(8,vp d),(9,vu i),(10,vu j)]<|sv (some 11) (λb=>vs (pa b) 2 2) (.cells #[vu i,vu j] 28)<|λb H1 e1 e2=>have h:=h b H1 e1 e2;kb [9,10] [(11,vs (pa b) 2 2)]<|zm 12 (λra rb=>[(12,.tuple #[vu ra,vi rb])]) h λra rb H2 h=>hV 4 [6,7] [vu ra,vi rb] hQ h
def fO.K0:=Func.code Tryz.f19
def fO.pt(hv:zW)(a d:Int)(H:zV)(R:zv):Prop:=
 ∀b H1,b=H.size->H1=H.push (.cells #[vu a,vu d] 28)->
 fT.C hv 1 2 (some (ad b)) 2 2 H1 (λv H2=> ∃ra rb,v=.tuple #[vu ra,vi rb]/\
 R (.tuple #[vu ra,vi rb]) H2)
theorem fO.link(h:pt d i j H R):C d i j H R:=by
 refine p0 K0 15 func19 ?_
 intro w0 Q hQ
 unfold pt at h
 exact kT [(0,vp d),(1,vu i),(2,vu j)]<|ar 0<|eT 2 [] []<|ar 1<|u8 3 [(8,vp d),(9,vu i),(10,vu j)]<|sv (some 11) (λb=>vs (pa b) 2 2) (.cells #[vu i,vu j] 28)<|λb H1 e1 e2=>have h:=h b H1 e1 e2;kb [9,10] [(11,vs (pa b) 2 2)]<|zm 12 (λra rb=>[(12,.tuple #[vu ra,vi rb])]) h λra rb H2 h=>hV 4 [6,7] [vu ra,vi rb] hQ h
def bN.K0:=Func.code f51
def bN.pt(hv:zW)(wv:Int)(H:zV)(R:zv):Prop:=
 eU.C hv wv H (λv H1=> ∃x,v=.bool x/\
 if x=true then(
 R (vi 2) H1)
 else
 bX.C hv wv H1 (λa H2=> ∃ra rb rc rd re,a=.tuple #[vi ra,vi rb,vi rc,vu rd,.bool re]/\
 if re=true then(
 R (vi (zY (rc+1))) H2)
 else
 R (vi 0) H2))
theorem bN.link(h:pt d i H R):C d i H R:=by
 refine p0 K0 25 func51 ?_
 intro w0 Q hQ
 unfold pt zY at h
 refine kT [(0,vp d),(1,vu i)]<|ar 0<|eT 1 [] []<|ge<|ar 1<|eH 2 [] [(10,vp d),(11,vu i)]<|sa 12 [10,11] h λx H1 h=>ym<|qx h (λc1 h=>?_) (λc1 h=>?_)
 ·exact aJ 12 c1<|ar 2<|hV 1 [4] [vi 2] hQ h
 refine aK 12 (zZ c1)<|kd<|ge<|ar 3<|u8 2 [(14,vp d),(15,vu i)]<|AW 16 (λra rb rc rd re=>[(16,.tuple #[vi ra,vi rb,vi rc,vu rd,.bool re])]) h λra rb rc rd re H2 h=>u5 11 [(7,vi rc),(9,.bool re)]<|ar 4<|eT 1 [9] [(22,.bool re)]<|qx h (λc3 h=>?_) (λc3 h=>?_)
 ·exact aJ 22 c3<|ar 5<|hV 3 [4] [vi (zY (rc+1))] hQ h
 exact aK 22 (zZ c3)<|kd<|ar 6<|hV 1 [4] [vi 0] hQ h
def eU.K0:=Func.code f93
def eU.pt(hv:zW)(wv:Int)(H:zV)(R:zv):Prop:=
 fQ.C hv wv H (λv H1=> ∃ra rb,v=.tuple #[vi ra,.bool rb]/\
 R (.bool rb) H1)
theorem eU.link(h:pt d i H R):C d i H R:=by
 refine p0 K0 14 func93 ?_
 intro w0 Q hQ
 unfold pt at h
 exact kT [(0,vp d),(1,vu i)]<|ar 0<|eT 1 [] []<|ar 1<|u8 2 [(8,vp d),(9,vu i)]<|zm 10 (λra rb=>[(10,.tuple #[vi ra,.bool rb])]) h λra rb H1 h=>u5 5 [(6,.bool rb)]<|ar 2<|hV 2 [4] [.bool rb] hQ h
def eD.K0:=Func.code f103
def eD.pt(hv:zW)(wv v:Int)(H:zV)(R:zv):Prop:=
 gU.C hv wv 1 v H (λa H1=> ∃x,a=vi x/\
 R (vi x) H1)
theorem eD.link(h:pt d i j H R):C d i j H R:=by
 refine p0 K0 11 func103 ?_
 intro w0 Q hQ
 unfold pt at h
 exact kT [(0,vp d),(1,vu i),(2,vu j)]<|ar 0<|eT 1 [] []<|ar 1<|u8 3 [(7,vp d),(8,vu i),(9,vu j)]<|yT 10 (λx=>[(10,vi x)]) h λx H1 h=>hV 1 [6] [vi x] hQ h
def fQ.K0:=Func.code f109
def fQ.pt(hv:zW)(wv:Int)(H:zV)(R:zv):Prop:=
 gV.C hv wv 1 0 H (λv H1=> ∃ra rb,v=.tuple #[vi ra,.bool rb]/\
 if rb=true then(
 R (.tuple #[vi ra,.bool ((Int.tmod ra 2)==0)]) H1)
 else
 gV.C hv wv 2 1 H1 (λd H2=> ∃a b,d=.tuple #[vi a,.bool b]/\
 R (.tuple #[vi a,.bool (b && ((Int.tmod a 2)==0))]) H2))
theorem fQ.link(h:pt d i H R):C d i H R:=by
 refine p0 K0 29 func109 ?_
 intro w0 Q hQ
 unfold pt at h
 refine kT [(0,vp d),(1,vu i)]<|ar 0<|eT 2 [] []<|ar 1<|eH 2 [] [(9,vp d),(10,vu i)]<|yD 11 [9,10] h λra rb H1 h=>eT 5 [11] [(6,vi ra),(7,.bool rb)]<|ge<|ar 2<|eT 2 [] [(15,.bool (!rb))]<|qx h (λc1 h=>?_) (λc1 h=>?_)
 ·have b2:(!rb)=false:=congrArg Bool.not (c1)
  have b22:rb=true:=c1
  refine vb 7 (b:=rb) (v:=true) (by simp only[b2,b22,Bool.not_true,Bool.not_false])<|vb 15 (b:=(!rb)) (v:=false) (by simp only[b2,b22,Bool.not_true,Bool.not_false]) ?_
  clear b2 b22
  exact yn 15<|kd<|ar 4<|hV 9 [4,5] [vi ra,.bool ((Int.tmod ra 2)==0)] hQ h
 have b2:(!rb)=true:=congrArg Bool.not (zZ c1)
 have b22:rb=false:=zZ c1
 refine vb 7 (b:=rb) (v:=false) (by simp only[b2,b22,Bool.not_true,Bool.not_false])<|vb 15 (b:=(!rb)) (v:=true) (by simp only[b2,b22,Bool.not_true,Bool.not_false]) ?_
 clear b2 b22
 refine wc 15<|nx 3<|u8 2 [(17,vp d),(18,vu i)]<|zm 19 (λa b=>[(19,.tuple #[vi a,.bool b])]) h λa b H2 h=>u5 5 [(6,vi a),(7,.bool b)]<|ar 4<|iX [(4,vi a),(5,.bool (b && ((Int.tmod a 2)==0)))] ?_ ?_
 ·exact aC<|iV [4,5] [vi a,.bool (b && ((Int.tmod a 2)==0))] hQ h
 refine λhk=>u8 3 [(6,vi a),(22,vi a),(24,.bool b)] ?_
 by_cases c3:b=true
 ·have b4:b=true:=c3
  exact bW [(6,vi a),(22,vi a),(24,VT)] (by rw[b4])<|u8 6 [(4,vi a),(5,.bool ((Int.tmod a 2)==0))]<|zq<|iP [(4,vi a),(5,.bool (b && ((Int.tmod a 2)==0)))] (by simp only[b4,BL])<|hk
 have b4:b=false:=zZ c3
 exact bW [(6,vi a),(22,vi a),(24,VF)] (by rw[b4])<|u8 6 [(4,vi a),(5,VF)]<|zq<|iP [(4,vi a),(5,.bool (b && ((Int.tmod a 2)==0)))] (by simp only[b4,BL])<|hk
def eZ.K0:=Func.code f111
def eZ.pt(hv:zW)(wv v:Int)(H:zV)(R:zv):Prop:=
 gU.C hv wv 0 v H (λa H1=> ∃x,a=vi x/\
 R (vi x) H1)
theorem eZ.link(h:pt d i j H R):C d i j H R:=by
 refine p0 K0 11 func111 ?_
 intro w0 Q hQ
 unfold pt at h
 exact kT [(0,vp d),(1,vu i),(2,vu j)]<|ar 0<|eT 1 [] []<|ar 1<|u8 3 [(7,vp d),(8,vu i),(9,vu j)]<|yT 10 (λx=>[(10,vi x)]) h λx H1 h=>hV 1 [6] [vi x] hQ h
def gU.K0:=Func.code f132
def gU.pt(hv:zW)(wv i v:Int)(H:zV)(R:zv):Prop:=
 fQ.C hv wv H (λd H1=> ∃ra rb,d=.tuple #[vi ra,.bool rb]/\
 if rb=true then(
 ∃b,hv=some b/\
 ∃x,hat H1 b=some (vp x)/\
 dK.C x (zY (ra+i)) v H1 (λe H2=> ∃a,e=vi a/\
 R (vi a) H2))
 else
 R (vi 3) H1)
theorem gU.link(h:pt d i j u H R):C d i j u H R:=by
 refine p0 K0 28 func132 ?_
 intro w0 Q hQ
 unfold pt zY at h
 refine kT [(0,vp d),(1,vu i),(2,vi j),(3,vu u)]<|ar 0<|eT 1 [] []<|ar 1<|eH 2 [1] [(12,vp d),(13,vu i)]<|yD 14 [12,13] h λra rb H1 h=>eT 5 [14] [(9,vi ra),(10,.bool rb)]<|ge<|ar 2<|eT 2 [10] [(18,.bool (!rb))]<|qx h (λc1 h=>?_) (λc1 h=>?_)
 ·refine aK 18 (congrArg Bool.not (c1))<|kd<|ar 4<|eH 1 [0,18] [(19,vp d)] ?_
  obtain⟨b,rfl,ha⟩:=h
  exact eH 2 [19] [(21,Vq b)]<|have⟨x,q3,h⟩:=ha;hH 22 49 q3 [21]<|u8 4 [(22,vp x),(25,vi (zY (ra+j))),(26,vu u)]<|yT 27 (λa=>[(27,vi a)]) h λa H2 h=>hV 1 [8] [vi a] hQ h
 exact aJ 18 (congrArg Bool.not (zZ c1))<|ar 3<|hV 1 [8] [vi 3] hQ h
namespace cF
def K0:=Func.code f45
def K2:=cb K0
def K4:=cb K2
def zd:=cb K4
def Ad:=ca zd
def Ap:=cb Ad
def zC:=ca Ap
def zT:=ca zC
end cF
def cF.pt(m f:zW)(d e:Nat)(H:zV)(R:zv):Prop:=
 ∀b H1,b=H.size->H1=H.push (.cells #[vp m] 78)->
 ∃x,hat H1 (ad b)=some (vp x)/\
 fE x (
 R VN H1) (λxA=>
 ∃ac,hat H1 (ad b)=some (vp ac)/\
 ∃ag,ac=some ag/\
 ∃xB xN xC,hat H1 ag=some (vs xB xN xC)/\
 ∃(u:zW->Nat->Nat->zw) (m19:zW->Nat->Nat->Int->zV->Nat),u none 0 0 0 H1/\ ∀lB lN lC s15 H2,u lB lN lC s15 H2->
 if s15< (xN:Int)then(
 ∃ae,hat H2 (ad b)=some (vp ae)/\
 ∃af,ae=some af/\
 ∃r n o,hat H2 af=some (vs r n o)/\
 ∃g,r=some g/\
 yZ s15 n/\
 ∃q,hat H2 ((g.add (Int.toNat s15*72)).add 7)=some (vi q)/\
 if q>0 then(
 if(d:Int)=0 then(
 ∀z H3,z=H2.size->H3=H2.push (.cells #[vi s15] 3)->
 bI 1 3 8 [vi 0] lB lN lC (some (ad z)) 1 H3 (λap y H4=>
 (u ap (lN+1) y (zY (s15+1)) H4/\m19 ap (lN+1) y (zY (s15+1)) H4<m19 lB lN lC s15 H2)))
 else
 ∃aa,hat H2 (g.add (Int.toNat s15*72))=some (vi aa)/\
 bP.C f d e aa H2 (λv H5=> ∃s,v=.bool s/\
 if s=true then(
 ∀ab H6,ab=H5.size->H6=H5.push (.cells #[vi s15] 3)->
 bI 1 3 8 [vi 0] lB lN lC (some (ad ab)) 1 H6 (λp j H7=>
 (u p (lN+1) j (zY (s15+1)) H7/\m19 p (lN+1) j (zY (s15+1)) H7<m19 lB lN lC s15 H2)))
 else
 (u lB lN lC (zY (s15+1)) H5/\m19 lB lN lC (zY (s15+1)) H5<m19 lB lN lC s15 H2)))
 else
 (u lB lN lC (zY (s15+1)) H2/\m19 lB lN lC (zY (s15+1)) H2<m19 lB lN lC s15 H2))
 else
 slices_SortFunc_int_int.C lB lN lC (.func (.func 89) #[] #[Vq (ad b)]) H2 (λ_ H8=>
 R (vs lB lN lC) H8))
theorem cF.link(h:pt d r k o H R):C d r k o H R:=by
 refine p0 K0 52 func45 ?_
 intro w0 Q hQ
 unfold pt zY at h
 refine kT [(0,vp d),(1,vs r k o)]<|ar 0<|sv (some 2) (λb=>vp (pa b)) (.cells #[vp d] 78)<|λb H1 e1 e2=>have h:=h b H1 e1 e2;kb [0] [(2,vp (pa b))]<|eT 1 [] []<|ge<|ar 1<|have⟨x,q3,h⟩:=h;hH 8 78 q3 [] ?_
 rcases x with _ | xA
 ·rw[onPtr_none]at h
  exact eT 1 [8] [(9,VT)]<|wc 9<|ar 2<|hV 1 [4] [VN] hQ h
 rw[onPtr_some]at h
 refine eT 1 [8] [(9,VF)]<|yn 9<|kd<|ar 3<|eT 1 [9] [(5,VN)]<|ge<|ar 4<|have⟨ac,q4,h⟩:=h;hH 10 78 q4 [] ?_
 obtain⟨ag,rfl,ha⟩:=h
 refine eH 2 [10] [(12,Vq ag)]<|have⟨xB,xN,xC,q5,h⟩:=ha;hH 13 155 q5 [12]<|eT 2 [13] [(14,vi xN),(15,vi 0)]<|o0 0<|have⟨u,m19,i6,i7⟩:=h;bJ (x:=zT) (σ:=zW×Nat×Nat×Int) (λs_=> [(1,vs r k o),(2,vp (pa b)),(5,vs s_.1 s_.2.1 s_.2.2.1),(14,vi xN),(15,vi s_.2.2.2)]) (λs_ H=>u s_.1 s_.2.1 s_.2.2.1 s_.2.2.2 H) (λs_ H=>m19 s_.1 s_.2.1 s_.2.2.1 s_.2.2.2 H) ((none,0,0,0):zW×Nat×Nat×Int) (by kernel_rfl) i6 sk ?_
 rintro⟨lB,lN,lC,s15⟩ H2 i8
 have h:=i7 lB lN lC s15 H2 i8
 refine kT [(1,vs r k o),(2,vp (pa b)),(5,vs lB lN lC),(14,vi xN),(15,vi s15)]<|ar 5<|eT 1 [] [(16,.bool (decide (s15< (xN:Int))))]<|ge<|qx h (λc9 h=>?_) (λc9 h=>?_)
 ·refine aJ 16 (zX c9)<|kd<|ge<|o0 1<|ar 6<|eT 2 [16] [(6,vi s15)]<|ar 7<|have⟨ae,q11,h⟩:=h;hH 18 78 q11 [] ?_
  obtain⟨af,rfl,hb⟩:=h
  refine eH 2 [18] [(20,Vq af)]<|have⟨f,n,e,q12,h⟩:=hb;hH 21 155 q12 [20]<|eH 1 [] [(22,vi s15)] ?_
  obtain⟨g,rfl,q13,hc⟩:=h
  refine yp (some 23) 155 161 72 g n e .i64 s15 underlying155 q13.1 q13.2 [21,22] [(23,Vq (g.add (Int.toNat s15*72)))]<|eT 1 [23] [(7,Vq (g.add (Int.toNat s15*72)))]<|ar 8<|eH 3 [] [(26,Vq ((g.add (Int.toNat s15*72)).add 7))]<|have⟨q,q14,h⟩:=hc;hH 27 3 q14 [26]<|eH 2 [27] [(29,.bool (decide (q>0)))]<|qx h (λc15 h=>?_) (λc15 h=>?_)
  ·refine oo 29 (zX c15)<|eH 4 [] [(33,.bool ((k:Int)==0))]<|qx h (λc17 h=>?_) (λc17 h=>?_)
   ·refine oo 33 (zK c17)<|eT 9 [7,29,33] [(42,VT)]<|wc 42<|nx 9<|eH 2 [5,6,42] [(43,vs lB lN lC),(44,vi s15)]<|sv (some 45) (λb=>vs (pa b) 1 1) (.cells #[vi s15] 3) ?_
    intro z H3 e19 e20
    replace h:=h z H3 e19 e20
    refine kb [44] [(45,vs (pa z) 1 1)]<|yO (some 46) (cG #[75,75] 75 #[vs lB lN lC,vs (pa z) 1 1]) _ (λ_=>by kernel_rfl) (bK (T:=3) (sz:=1) (bytes:=8) (zero:=(vi 0:Value)) underlying75 underlying75 rfl (show prog.info? 3=some t3 from by kernel_rfl) (by kernel_rfl) (by kernel_rfl) (by decide) (by kernel_rfl) (by first | exact h | (simpa only[Value.cells,List.toList_toArray]using h))) ?_;clear h
    rintro _ H4 ⟨ap,y,rfl,h⟩
    exact kb [43,45] [(46,vs ap (lN+1) y)]<|eH 1 [46] [(5,vs ap (lN+1) y)]<|zq<|aA<|aC<|nx 10<|eT 2 [15] [(15,vi (zY (s15+1)))]<|aR ((ap,(lN+1),y,(zY (s15+1))):zW×Nat×Nat×Int) sk h
   refine oo 33 (zJ c17)<|eH 5 [7] [(34,vs r k o),(38,Vq (g.add (Int.toNat s15*72)))]<|have⟨aa,q21,h⟩:=h;hH 39 3 q21 [38]<|sa 40 [34,39] h λs H5 h=>eT 2 [29,33,40] [(42,.bool s)]<|qx h (λc22 h=>?_) (λc22 h=>?_)
   ·refine aJ 42 c22<|nx 9<|eH 2 [5,6,42] [(43,vs lB lN lC),(44,vi s15)]<|sv (some 45) (λb=>vs (pa b) 1 1) (.cells #[vi s15] 3) ?_
    intro ab H6 e24 e25
    replace h:=h ab H6 e24 e25
    refine kb [44] [(45,vs (pa ab) 1 1)]<|yO (some 46) (cG #[75,75] 75 #[vs lB lN lC,vs (pa ab) 1 1]) _ (λ_=>by kernel_rfl) (bK (T:=3) (sz:=1) (bytes:=8) (zero:=(vi 0:Value)) underlying75 underlying75 rfl (show prog.info? 3=some t3 from by kernel_rfl) (by kernel_rfl) (by kernel_rfl) (by decide) (by kernel_rfl) (by first | exact h | (simpa only[Value.cells,List.toList_toArray]using h))) ?_;clear h
    rintro _ H7 ⟨p,j,rfl,h⟩
    exact kb [43,45] [(46,vs p (lN+1) j)]<|eH 1 [46] [(5,vs p (lN+1) j)]<|zq<|aA<|aC<|nx 10<|eT 2 [15] [(15,vi (zY (s15+1)))]<|aR ((p,(lN+1),j,(zY (s15+1))):zW×Nat×Nat×Int) sk h
   exact aK 42 (zZ c22)<|yR<|aA<|aC<|nx 10<|eT 2 [6,15,42] [(15,vi (zY (s15+1)))]<|aR ((lB,lN,lC,(zY (s15+1))):zW×Nat×Nat×Int) sk h
  exact oo 29 (zQ c15)<|eT 13 [7,29] [(42,VF)]<|yn 42<|yR<|aA<|aC<|nx 10<|eT 2 [6,15,42] [(15,vi (zY (s15+1)))]<|aR ((lB,lN,lC,(zY (s15+1))):zW×Nat×Nat×Int) sk h
 refine aK 16 (zQ c9)<|zk 0<|aB<|aB<|aN<|aC<|ar 11<|u8 2 [(5,vs lB lN lC),(48,vs lB lN lC),(49,.func (.func 89) #[] #[vp (pa b)])]<|zf (some 50) h ?_;clear h
 exact λv_2 H8 h=>kb [48,49] []<|ym<|ar 12<|hV 2 [4] [vs lB lN lC] hQ h
def iE.K0:=Func.code f46
def iE.pt(m:zW)(H:zV)(R:zv):Prop:=
 fE m (
 R (vi 0) H) (λmA=>
 ∃x,hat H (mA.add 2)=some (vi x)/\
 R (vi x) H)
theorem iE.link(h:pt d H R):C d H R:=by
 refine p0 K0 9 func46 ?_
 intro w0 Q hQ
 unfold pt at h
 refine kT [(0,vp d)]<|ar 0<|eT 1 [] []<|ge<|ar 1<|eH 1 [] [(3,vp d)] ?_
 rcases d with _ | mA
 ·rw[onPtr_none]at h
  exact u5 1 [(0,vp none),(4,VT)]<|wc 4<|ar 2<|hV 1 [2] [vi 0] hQ h
 rw[onPtr_some]at h
 exact u5 1 [(0,Vq mA),(4,VF)]<|yn 4<|kd<|ar 3<|u8 3 [(7,Vq (mA.add 2))]<|have⟨x,q1,h⟩:=h;hH 8 3 q1 [7]<|hV 1 [2] [vi x] hQ h
def hZ.K0:=Func.code f89
def hZ.K2:=cb K0
def hZ.K3:=ca K2
def hZ.pt(a b:Int)(p:zW)(H:zV)(R:zv):Prop:=
 ∃d,p=some d/\
 ∃x,hat H d=some (vp x)/\
 ∃xA,x=some xA/\
 ∃xB xN xC,hat H xA=some (vs xB xN xC)/\
 ∃f,xB=some f/\
 yZ a xN/\
 ∃g,hat H ((f.add (Int.toNat a*72)).add 7)=some (vi g)/\
 ∃s,hat H d=some (vp s)/\
 ∃j,s=some j/\
 ∃r m n,hat H j=some (vs r m n)/\
 ∃e,r=some e/\
 yZ b m/\
 ∃q,hat H ((e.add (Int.toNat b*72)).add 7)=some (vi q)/\
 cmp_Compare_int.C g q H (λv H1=> ∃o,v=vi o/\
 R (vi o) H1)
theorem hZ.link{a b:Int}(h:pt a b d H R):C a b d H R:=by
 refine p0 K0 23 func89 ?_
 intro w0 Q hQ
 unfold pt at h
 refine kT [(0,vi a),(1,vi b),(2,vp d)]<|ar 0<|eT 1 [] []<|ge ?_
 obtain⟨p,rfl,x,q1,xA,rfl,xB,xN,xC,q2,f,rfl,q3,g,q4,s,q5,j,rfl,r,m,n,q6,e,rfl,q7,q,q8,ha⟩:=h
 refine yq 1 (Code.ops K3) [(16,p,[vp (some xA)]),(16,xA,[vs (some f) xN xC]),(16,((f.add (Int.toNat a*72)).add 7),[vi g]),(16,p,[vp (some j)]),(16,j,[vs (some e) m n]),(16,((e.add (Int.toNat b*72)).add 7),[vi q])] 18 (bv 18 0) (show aE _ _ _ from⟨⟨q1,trivial⟩,⟨q2,trivial⟩,⟨q4,trivial⟩,⟨q5,trivial⟩,⟨q6,trivial⟩,⟨q8,trivial⟩,trivial⟩)<|zh 0 (some 6) (vp (some xA)) (bv 18 1) [(0,vi a),(1,vi b),(2,vp (some p)),(6,vp (some xA))] (aQ 78 (vp (some p))) (yY 16 yX)<|aG 1 7 (vp (some xA)) (bv 18 3) [6]<|aG 2 8 (vp (some xA)) (bv 18 7) [7]<|nc 3 9 (vs (some f) xN xC) (bv 18 15) [8] (aQ 155 (vp (some xA))) (yY 16 yQ)<|aG 4 10 (vi a) (bv 18 31) [0]<|nc 5 11 (vp (some (f.add (Int.toNat a*72)))) (bv 18 63) [9,10] (bD 155 (vs (some f) xN xC) (vi a)) (λ_ w _ _ _=>dX (P:=prog) (t:=155) (elem:=161) (sz:=72) (a:=f) (len:=xN) (cap:=xC) (k:=.i64) (i:=a) underlying155 (λ_=>by kernel_rfl) q3.1 q3.2 w)<|aG 6 12 (vp (some ((f.add (Int.toNat a*72)).add 7))) (bv 18 127) [11]<|nc 7 13 (vi g) (bv 18 255) [12] (aQ 3 (vp (some ((f.add (Int.toNat a*72)).add 7)))) (yY 16 yJ)<|nc 8 14 (vp (some j)) (bv 18 511) [2] (aQ 78 (vp (some p))) (yY 16 yK)<|aG 9 15 (vp (some j)) (bv 18 1023) [14]<|aG 10 16 (vp (some j)) (bv 18 2047) [15]<|nc 11 17 (vs (some e) m n) (bv 18 4095) [16] (aQ 155 (vp (some j))) (yY 16 yV)<|aG 12 18 (vi b) (bv 18 8191) [1]<|nc 13 19 (vp (some (e.add (Int.toNat b*72)))) (bv 18 16383) [17,18] (bD 155 (vs (some e) m n) (vi b)) (λ_ w _ _ _=>dX (P:=prog) (t:=155) (elem:=161) (sz:=72) (a:=e) (len:=m) (cap:=n) (k:=.i64) (i:=b) underlying155 (λ_=>by kernel_rfl) q7.1 q7.2 w)<|aG 14 20 (vp (some ((e.add (Int.toNat b*72)).add 7))) (bv 18 32767) [19]<|nc 15 21 (vi q) (bv 18 65535) [20] (aQ 3 (vp (some ((e.add (Int.toNat b*72)).add 7)))) (yY 16 yW)<|yx 16 (some 22) (bv 18 131071) 90 #[vi g,vi q] ha ?_;clear ha
 rintro v H1 ⟨o,rfl,h⟩
 refine⟨[(22,vi o)],pk,(show aE _ _ _ from⟨trivial,trivial,trivial,trivial,trivial,trivial,trivial⟩),?_⟩
 exact zh 17 (some 5) (vi o) (bv 18 262143) [(5,vi o)] (pure (.value (vi o)):Sem Next) (λ_ _ _ _ _=>rfl)<|eP [(5,vi o)] sk<|yz<|aC<|iV [5] [vi o] hQ h
def fU.K0:=Func.code f105
def fU.pt(m:zW)(d:Int)(H:zV)(R:zv):Prop:=
 gI.C m d H (λv H1=> ∃x,v=vp x/\
 fE x (
 R (vi 19) H1) (λxA=>
 (aH H1 xA 0 72)/\ ∀H2,H2=aP H1 xA (List.replicate 8 (vi 0)++List.replicate 64 (vu 0):List Value) 0->
 ∃mA,m=some mA/\
 ∃b,hat H2 (mA.add 2)=some (vi b)/\
 (aH H2 (mA.add 2) 0 1)/\ ∀H3,H3=aP H2 (mA.add 2) [vi (zY (b+1))] 0->
 R (vi 0) H3))
theorem fU.link{H:zV}(h:pt d i H R):C d i H R:=by
 refine p0 K0 21 func105 ?_
 intro w0 Q hQ
 unfold pt zY at h
 refine kT [(0,vp d),(1,vi i)]<|ar 0<|eT 1 [] []<|ar 1<|eH 2 [1] [(6,vp d),(7,vi i)]<|sa 8 [6,7] h λx H1 h=>eT 1 [8] [(5,vp x)]<|ge<|ar 2<|eH 1 [] [(9,vp x)] ?_
 rcases x with _ | xA
 ·rw[onPtr_none]at h
  exact eT 1 [5,9] [(5,vp none),(10,VT)]<|wc 10<|ar 3<|hV 1 [4] [vi 19] hQ h
 rw[onPtr_some]at h
 refine eT 1 [5,9] [(5,Vq xA),(10,VF)]<|yn 10<|kd<|ar 4<|eH 3 [5,10] [(12,.agg (List.replicate 8 (vi 0)++List.replicate 64 (vu 0):List Value).toArray),(13,Vq xA)] ?_
 obtain⟨q2,h⟩:=h
 refine mz none (jH 161 (Vq xA) (.agg (List.replicate 8 (vi 0)++List.replicate 64 (vu 0):List Value).toArray)) (λHz=>Hz=aP H1 xA (List.replicate 8 (vi 0)++List.replicate 64 (vu 0):List Value) 0) (λ_=>by kernel_rfl) (by intro w hw;obtain⟨w1,g1,g2,g3⟩:=iO (P:=prog) (H:=H1) (t:=161) (a:=xA) (v:=(.agg (List.replicate 8 (vi 0)++List.replicate 64 (vu 0):List Value).toArray)) (List.replicate 8 (vi 0)++List.replicate 64 (vu 0):List Value) 72 (by kernel_rfl) (by kernel_rfl) (λ_=>by kernel_rfl) (by kernel_rfl) q2 w hw;exact⟨w1,g1,g2,g3⟩) ?_
 refine λH2 e1=>have h:=h H2 e1;⟨[(0,vp d)],pk,?_⟩
 refine ym<|ar 5<|u8 1 [(14,vp d)] ?_
 obtain⟨mA,rfl,ha⟩:=h
 refine u8 2 [(14,Vq mA),(16,Vq (mA.add 2))]<|have⟨b,q3,h⟩:=ha;hH 17 3 q3 [16]<|u8 3 [(18,vi (zY (b+1))),(20,Vq (mA.add 2))]<|have⟨q5,h⟩:=h;eQ 3 (vi (zY (b+1))) q5<|λH3 e4=>have h:=h H3 e4;⟨[],pk,?_⟩
 exact ym<|ar 6<|hV 1 [4] [vi 0] hQ h
def iH.K0:=Func.code f157
def iH.K2:=cb K0
def iH.K4:=cb K2
def iH.K11:=ca K4
def iH.pt(m:zW)(H:zV)(R:zv):Prop:=
 fE m (
 R (vp none) H) (λmA=>
 ∃xB xN xC,hat H mA=some (vs xB xN xC)/\
 ∃x,hat H (mA.add 1)=some (vi x)/\
 ∃a,hat H (mA.add 2)=some (vi a)/\
 aU.C xB xN xC H (λv H1=> ∃e f d,v=vs e f d/\aM H1 (mA.add 1) 0 [vi x]/\aM H1 (mA.add 2) 0 [vi a]/\
 ∀b H2,b=H1.size->H2=H1.push (.cells #[vs e f d,vi x,vi a] 157)->
 R (Vq (ad b)) H2))
theorem iH.link(h:pt d H R):C d H R:=by
 refine p0 K0 20 func157 ?_
 intro w0 Q hQ
 unfold pt at h
 refine kT [(0,vp d)]<|ar 0<|eT 1 [] []<|ge<|ar 1<|eH 1 [] [(3,vp d)] ?_
 rcases d with _ | mA
 ·rw[onPtr_none]at h
  exact u5 1 [(0,vp none),(4,VT)]<|wc 4<|ar 2<|hV 1 [2] [vp none] hQ h
 rw[onPtr_some]at h
 refine u5 1 [(0,Vq mA),(4,VF)]<|yn 4<|kd<|ge ?_
 obtain⟨xB,xN,xC,q1,x,q2,a,q3,h⟩:=h
 refine yq 3 (Code.ops K11) [(4,mA,[vs xB xN xC]),(14,(mA.add 1),[vi x]),(14,(mA.add 2),[vi a])] 16 (bv 16 0) (show aE _ _ _ from⟨⟨q1,trivial⟩,⟨q2,trivial⟩,⟨q3,trivial⟩,trivial⟩)<|y9 0 (some 5) (Vq mA) (bv 16 1) [(0,Vq mA),(5,Vq mA)]<|aG 1 6 (Vq mA) (bv 16 3) [5]<|aG 2 7 (Vq mA) (bv 16 7) [6]<|nc 3 8 (vs xB xN xC) (bv 16 15) [7] (aQ 155 (Vq mA)) (yY 4 yX)<|aG 5 10 (Vq mA) (bv 16 47) []<|aG 6 11 (Vq mA) (bv 16 111) [10]<|aG 7 12 (Vq (mA.add 1)) (bv 16 239) [11]<|nc 8 13 (vi x) (bv 16 495) [12] (aQ 3 (Vq (mA.add 1))) (yY 14 yQ)<|aG 9 14 (Vq mA) (bv 16 1007) [0]<|aG 10 15 (Vq mA) (bv 16 2031) [14]<|aG 11 16 (Vq (mA.add 2)) (bv 16 4079) [15]<|nc 12 17 (vi a) (bv 16 8175) [16] (aQ 3 (Vq (mA.add 2))) (yY 14 yJ)<|yx 4 (some 9) (bv 16 8191) 159 #[vs xB xN xC] h ?_;clear h
 rintro v H1 ⟨e,f,m,rfl,f4,f5,h⟩
 refine⟨[(9,vs e f m),(13,vi x),(17,vi a)],pk,(show aE _ _ _ from⟨trivial,f4,f5,trivial⟩),?_⟩
 refine zh 13 (some 18) (.agg #[vs e f m,vi x,vi a]) (bv 16 16383) [(18,.agg #[vs e f m,vi x,vi a])] (pure (.value (.agg #[vs e f m,vi x,vi a])):Sem Next) (λ_ _ _ _ _=>rfl)<|mX 14 (some 19) (bv 16 32767) (λb=>vp (pa b)) (.cells #[vs e f m,vi x,vi a] 157) (by kernel_rfl) (λ_=>by kernel_rfl) (by kernel_rfl)<|λb H2 e6 e7=>have h:=h b H2 e6 e7;⟨[(19,vp (pa b))],pk,(show aE _ _ _ from⟨trivial,trivial,trivial,trivial⟩),?_⟩
 exact zh 15 (some 2) (vp (pa b)) (bv 16 65535) [(2,vp (pa b))] (pure (.value (vp (pa b))):Sem Next) (λ_ _ _ _ _=>rfl)<|eP [(2,vp (pa b))] sk<|yz<|aC<|iV [2] [vp (pa b)] hQ h
def cmp_Compare_int.K0:=Func.code f90
def cmp_Compare_int.pt(x y:Int)(H:zV)(R:zv):Prop:=
 cmp_isNaN_int.C x H (λv H1=> ∃b,v=.bool b/\
 cmp_isNaN_int.C y H1 (λd H2=> ∃a,d=.bool a/\
 if b=true then(
 if a=true then(
 R (vi 0) H2)
 else
 R (vi (-1)) H2)
 else
 if a=true then(
 R (vi 1) H2)
 else
 if x<y then(
 R (vi (-1)) H2)
 else
 if x>y then(
 R (vi 1) H2)
 else
 R (vi 0) H2))
theorem cmp_Compare_int.link(h:pt i j H R):C i j H R:=by
 refine p0 K0 20 func90 ?_
 intro w0 Q hQ
 unfold pt at h
 refine kT [(0,vi i),(1,vi j)]<|ar 0<|eT 1 [] []<|ar 1<|eH 1 [] [(7,vi i)]<|sa 8 [7] h λb H1 h=>eT 1 [8] [(5,.bool b)]<|ar 2<|eH 1 [] [(9,vi j)]<|sa 10 [9] h λa H2 h=>eT 1 [10] [(6,.bool a)]<|ge<|ar 3<|eT 1 [5] [(11,.bool b)]<|qx h (λc1 h=>?_) (λc1 h=>?_)
 ·refine aJ 11 c1<|ge<|ar 4<|u5 1 [(12,.bool a)]<|qx h (λc3 h=>?_) (λc3 h=>?_)
  ·exact aJ 12 c3<|ar 5<|hV 1 [4] [vi 0] hQ h
  exact aK 12 (zZ c3)<|kd<|ar 6<|hV 1 [4] [vi (-1)] hQ h
 refine aK 11 (zZ c1)<|kd<|ge<|ar 7<|eT 1 [6,11] [(13,.bool a)]<|qx h (λc5 h=>?_) (λc5 h=>?_)
 ·exact aJ 13 c5<|ar 8<|hV 1 [4] [vi 1] hQ h
 refine aK 13 (zZ c5)<|kd<|ge<|ar 9<|eT 3 [13] [(16,.bool (decide (i<j)))]<|qx h (λc7 h=>?_) (λc7 h=>?_)
 ·exact aJ 16 (zX c7)<|ar 10<|hV 1 [4] [vi (-1)] hQ h
 refine aK 16 (zQ c7)<|kd<|ge<|ar 11<|u5 3 [(19,.bool (decide (i>j)))]<|qx h (λc9 h=>?_) (λc9 h=>?_)
 ·exact aJ 19 (zX c9)<|ar 12<|hV 1 [4] [vi 1] hQ h
 exact aK 19 (zQ c9)<|kd<|ar 13<|hV 1 [4] [vi 0] hQ h
def cmp_isNaN_int.K0:=Func.code f129
def cmp_isNaN_int.pt(x:Int)(H:zV)(R:zv):Prop:=
 R (.bool (x !=x)) H
theorem cmp_isNaN_int.link(h:pt i H R):C i H R:=by
 refine p0 K0 6 func129 ?_
 intro w0 Q hQ
 unfold pt at h
 exact kT [(0,vi i)]<|ar 0<|eT 1 [] []<|ar 1<|hV 4 [2] [.bool (i !=i)] hQ h
def aW.K0:=Func.code f76
def aW.pt(sB:zW)(sN sC:Nat)(H:zV)(R:zv):Prop:=
 fE sB (
 R VN H) (λa=>
 ∀b H1,b=H.size->H1=H.push (.cells #[] 28)->
 bI 1 28 8 [vu 0] (some (ad b)) 0 0 (some a) sN H1 (λap d H2=>
 R (vs ap (0+sN) d) H2))
theorem aW.link(h:pt d k o H R):C d k o H R:=by
 refine p0 K0 8 func76 ?_
 intro w0 Q hQ
 unfold pt at h
 refine kT [(0,vs d k o)]<|ar 0<|eT 1 [] []<|ge<|ar 1<|eH 1 [] [(3,vs d k o)] ?_
 rcases d with _ | a
 ·rw[onPtr_none]at h
  exact u5 1 [(0,vs none k o),(4,VT)]<|wc 4<|ar 2<|hV 1 [2] [VN] hQ h
 rw[onPtr_some]at h
 refine u5 1 [(0,vs (some a) k o),(4,VF)]<|yn 4<|kd<|ar 3<|yA [4] []<|sv (some 5) (λb=>vs (pa b) 0 0) (.cells #[] 28) ?_
 intro b H1 e1 e2
 replace h:=h b H1 e1 e2
 refine kb [] [(5,vs (pa b) 0 0)]<|eH 1 [0] [(6,vs (some a) k o)]<|yO (some 7) (cG #[32,32] 32 #[vs (pa b) 0 0,vs (some a) k o]) _ (λ_=>by kernel_rfl) (bK (T:=28) (sz:=1) (bytes:=8) (zero:=(vu 0:Value)) underlying32 underlying32 rfl (show prog.info? 28=some t28 from by kernel_rfl) (by kernel_rfl) (by kernel_rfl) (by decide) (by kernel_rfl) (by first | exact h | (simpa only[Value.cells,List.toList_toArray]using h))) ?_;clear h
 rintro _ H2 ⟨ap,sC,rfl,h⟩
 refine⟨[(7,vs ap (0+k) sC)],pk,?_⟩
 exact hV 1 [2] [vs ap (0+k) sC] hQ h
def bP.K0:=Func.code f87
def bP.pt(sB:zW)(sN sC:Nat)(v:Int)(H:zV)(R:zv):Prop:=
 cZ.C sB sN sC v H (λa H1=> ∃x,a=vi x/\
 R (.bool (decide (x>=0))) H1)
theorem bP.link(h:pt d k o i H R):C d k o i H R:=by
 refine p0 K0 9 func87 ?_
 intro w0 Q hQ
 unfold pt at h
 exact kT [(0,vs d k o),(1,vi i)]<|ar 0<|eT 1 [] []<|ar 1<|u8 2 [(5,vs d k o),(6,vi i)]<|yT 7 (λx=>[(7,vi x)]) h λx H1 h=>hV 2 [4] [.bool (decide (x>=0))] hQ h
def cZ.K0:=Func.code f126
def cZ.K2:=cb K0
def cZ.K3:=ca K2
def cZ.K6:=cb K3
def cZ.K7:=ca K6
def cZ.K8:=ca K7
def cZ.pt(sB:zW)(sN sC:Nat)(v:Int)(H:zV)(R:zv):Prop:=
 ∃(I9:zw) (m9:Int->zV->Nat),I9 0 H/\ ∀s8 H1,I9 s8 H1->
 if s8< (sN:Int)then(
 ∃b,sB=some b/\
 yZ s8 sN/\
 ∃x,hat H1 (b.add (Int.toNat s8*1))=some (vi x)/\
 if v=x then(
 R (vi s8) H1)
 else
 (I9 (zY (s8+1)) H1/\m9 (zY (s8+1)) H1<m9 s8 H1))
 else
 R (vi (-1)) H1
theorem cZ.link(h:pt d k o i H R):C d k o i H R:=by
 refine p0 K0 19 func126 ?_
 intro w0 Q hQ
 unfold pt zY at h
 refine kT [(0,vs d k o),(1,vi i)]<|ar 0<|eT 1 [] []<|ge<|ar 1<|eT 3 [] [(7,vi k),(8,vi 0)]<|o0 0<|have⟨I9,m9,i1,i2⟩:=h;bJ (x:=K8) (σ:=Int) (λs_=> [(0,vs d k o),(1,vi i),(7,vi k),(8,vi s_)]) (λs_ H=>I9 s_ H) (λs_ H=>m9 s_ H) (0:Int) (by kernel_rfl) i1 sk ?_
 rintro s8 H1 i3
 have h:=i2 s8 H1 i3
 refine kT [(0,vs d k o),(1,vi i),(7,vi k),(8,vi s8)]<|ar 2<|eT 1 [] [(9,.bool (decide (s8< (k:Int))))]<|ge<|qx h (λc4 h=>?_) (λc4 h=>?_)
 ·refine aJ 9 (zX c4)<|kd<|ge<|o0 1<|ar 3<|eT 2 [9] [(5,vi s8)]<|ar 4<|eH 3 [] [(11,vi i),(12,vs d k o),(13,vi s8)] ?_
  obtain⟨b,rfl,q6,ha⟩:=h
  refine yp (some 14) 75 3 1 b k o .i64 s8 underlying75 q6.1 q6.2 [0,12,13] [(0,vs (some b) k o),(14,Vq (b.add (Int.toNat s8*1)))]<|have⟨x,q7,h⟩:=ha;hH 15 3 q7 [14]<|eT 1 [11,15] [(16,.bool (i==x))]<|qx h (λc8 h=>?_) (λc8 h=>?_)
  ·exact aJ 16 (zK c8)<|ar 5<|hV 2 [4] [vi s8] hQ h
  exact aK 16 (zJ c8)<|yR<|aA<|aC<|nx 6<|eT 2 [5,8,16] [(8,vi (zY (s8+1)))]<|aR ((zY (s8+1)):Int) sk h
 exact aK 9 (zQ c4)<|zk 0<|aB<|aB<|aN<|aC<|ar 7<|hV 1 [4] [vi (-1)] hQ h
def aU.K0:=Func.code f159
def aU.pt(sB:zW)(sN sC:Nat)(H:zV)(R:zv):Prop:=
 fE sB (
 R VN H) (λa=>
 ∀b H1,b=H.size->H1=H.push (.cells #[] 161)->
 bI 72 161 576 (List.replicate 8 (vi 0)++List.replicate 64 (vu 0):List Value) (some (ad b)) 0 0 (some a) sN H1 (λap d H2=>
 R (vs ap (0+sN) d) H2))
theorem aU.link(h:pt d k o H R):C d k o H R:=by
 refine p0 K0 8 func159 ?_
 intro w0 Q hQ
 unfold pt at h
 refine kT [(0,vs d k o)]<|ar 0<|eT 1 [] []<|ge<|ar 1<|eH 1 [] [(3,vs d k o)] ?_
 rcases d with _ | a
 ·rw[onPtr_none]at h
  exact u5 1 [(0,vs none k o),(4,VT)]<|wc 4<|ar 2<|hV 1 [2] [VN] hQ h
 rw[onPtr_some]at h
 refine u5 1 [(0,vs (some a) k o),(4,VF)]<|yn 4<|kd<|ar 3<|yA [4] []<|sv (some 5) (λb=>vs (pa b) 0 0) (.cells #[] 161) ?_
 intro b H1 e1 e2
 replace h:=h b H1 e1 e2
 refine kb [] [(5,vs (pa b) 0 0)]<|eH 1 [0] [(6,vs (some a) k o)]<|yO (some 7) (cG #[155,155] 155 #[vs (pa b) 0 0,vs (some a) k o]) _ (λ_=>by kernel_rfl) (bK (T:=161) (sz:=72) (bytes:=576) (zero:=(.agg (List.replicate 8 (vi 0)++List.replicate 64 (vu 0):List Value).toArray:Value)) underlying155 underlying155 rfl (show prog.info? 161=some t161 from by kernel_rfl) (by kernel_rfl) (by kernel_rfl) (by decide) (by kernel_rfl) (by first | exact h | (simpa only[Value.cells,List.toList_toArray]using h))) ?_;clear h
 rintro _ H2 ⟨ap,sC,rfl,h⟩
 refine⟨[(7,vs ap (0+k) sC)],pk,?_⟩
 exact hV 1 [2] [vs ap (0+k) sC] hQ h
def gP.K0:=Func.code f65
def gP.pt(hv:zW)(H:zV)(R:zv):Prop:=
 eS.C hv H (λv H1=> ∃x,v=.bool x/\
 if x=true then(
 R (.tuple #[]) H1)
 else
 ∃a,hv=some a/\
 ∃b,hat H1 (a.add 3)=some (vu b)/\
 (aH H1 (a.add 3) 0 1)/\ ∀H2,H2=aP H1 (a.add 3) [vu (IntKind.wrap .u64 (b+1))] 0->
 R (.tuple #[]) H2)
set_option maxRecDepth 100000 in
theorem gP.link(h:pt d H R):C d H R:=by
 refine p0 K0 12 func65 ?_
 intro w0 Q hQ
 unfold pt at h
 refine kT [(0,vp d)]<|ar 0<|eH 1 [] [(2,vp d)]<|sa 3 [2] h λx H1 h=>eT 1 [3] [(4,.bool (!x))]<|qx h (λc1 h=>?_) (λc1 h=>?_)
 ·exact aK 4 (congrArg Bool.not (c1))<|yR<|gF (fn:=f65) [] hQ (show bS _ _ _ [] _ from .nil) h
 refine aJ 4 (congrArg Bool.not (zZ c1))<|nx 1<|u8 1 [(5,vp d)] ?_
 obtain⟨a,rfl,ha⟩:=h
 refine u8 2 [(5,Vq a),(7,Vq (a.add 3))]<|have⟨b,q3,h⟩:=ha;hH 8 22 q3 [7]<|u8 3 [(9,vu (IntKind.wrap .u64 (b+1))),(11,Vq (a.add 3))]<|have⟨q5,h⟩:=h;eQ 22 (vu (IntKind.wrap .u64 (b+1))) q5<|λH2 e4=>have h:=h H2 e4;⟨[],pk,?_⟩
 exact zq<|gF (fn:=f65) [] hQ (show bS _ _ _ [] _ from .nil) h
def bB.K0:=Func.code f68
def bB.pt(vW af:Int)(f:zW)(d e:Nat)(H:zV)(R:zv):Prop:=
 ∀b H1,b=H.size->H1=H.push (.cells #[vu vW,vi af] 65)->
 ∃x,hat H1 ((ad b).add 1)=some (vi x)/\
 if((decide (x>0)) && (decide ((d:Int)>0)))=true then(
 ∃m,hat H1 ((ad b).add 1)=some (vi m)/\
 ((d:Int)≠0)/\
 ∃n,f=some n/\
 ((0:Int)<=(Int.tmod (zY (m-1)) (d:Int))/\(Int.tmod (zY (m-1)) (d:Int))< (d:Int))/\
 ∃u,hat H1 (n.add (Int.toNat (Int.tmod (zY (m-1)) (d:Int))*1))=some (vu u)/\
 R (vu u) H1)
 else
 ∃j,hat H1 (ad b)=some (vu j)/\
 if(yj .u64 j 7)=0 then(
 ∃ae,hat H1 (ad b)=some (vu ae)/\
 dI.C ae H1 (λv H2=> ∃o ai xA xX ag,v=.agg #[vi o,vi ai,vi xA,vi xX,vu ag]/\
 if o=0 then(
 ∃s,hat H2 (ad b)=some (vu s)/\
 R (vu (lj .u64 s 7)) H2)
 else
 ∃aa,hat H2 (ad b)=some (vu aa)/\
 R (vu aa) H2))
 else
 if(yj .u64 j 7)=4 then(
 ∃ac,hat H1 (ad b)=some (vu ac)/\
 dI.C ac H1 (λak H3=> ∃g ab ah aj r,ak=.agg #[vi g,vi ab,vi ah,vi aj,vu r]/\
 if g=0 then(
 ∃z,hat H3 (ad b)=some (vu z)/\
 R (vu (lj .u64 z 7)) H3)
 else
 ∃p,hat H3 (ad b)=some (vu p)/\
 R (vu p) H3))
 else
 ∃q,hat H1 (ad b)=some (vu q)/\
 R (vu (lj .u64 q 7)) H1
set_option maxRecDepth 100000 in
theorem bB.link(h:pt i j d k o H R):C i j d k o H R:=by
 refine p0 K0 44 func68 ?_
 intro w0 Q hQ
 unfold pt zY at h
 refine kT [(0,.agg #[vu i,vi j]),(1,vs d k o)]<|ar 0<|sv (some 2) (λb=>vp (pa b)) (.cells #[vu i,vi j] 65)<|λb H1 e1 e2=>have h:=h b H1 e1 e2;kb [0] [(2,vp (pa b))]<|eT 1 [] []<|ge<|ar 1<|eH 1 [] [(6,Vq ((ad b).add 1))]<|have⟨x,q3,h⟩:=h;hH 7 3 q3 [6]<|eH 2 [7] [(9,.bool (decide (x>0)))]<|iX [(1,vs d k o),(2,vp (pa b)),(13,.bool ((decide (x>0)) && (decide ((k:Int)>0))))] ?_ ?_
 ·refine aC<|qx h (λc6 h=>?_) (λc6 h=>?_)
  ·refine aJ 13 c6<|ar 2<|u8 2 [(1,vs d k o),(14,vs d k o),(15,Vq ((ad b).add 1))]<|have⟨m,q8,h⟩:=h;hH 16 3 q8 [15]<|eH 3 [1,16] [(17,vi (zY (m-1))),(19,vi k)]<|have⟨q9,h⟩:=h;yI 20 (zU .rem 3 (vi (zY (m-1))) (vi k)) (vi (Int.tmod (zY (m-1)) (k:Int))) (λw _=>ui (P:=prog) (t:=3) (k:=.i64) (x:=(zY (m-1))) (y:=(k:Int)) q9 w) [17,19] ?_
   obtain⟨n,rfl,q10,ha⟩:=h
   exact Bw (some 21) 32 28 1 n k o .i64 (Int.tmod (zY (m-1)) (k:Int)) underlying32 q10.1 q10.2 [(21,vp (some (n.add (Int.toNat (Int.tmod (zY (m-1)) (k:Int))*1))))]<|have⟨u,q11,h⟩:=ha;hH 22 28 q11 [21]<|hV 1 [4] [vu u] hQ h
  refine aK 13 (zZ c6)<|kd<|ge<|ar 3<|u8 1 [(2,vp (pa b)),(23,vp (pa b))]<|have⟨e,q12,h⟩:=h;hH 24 28 q12 [23]<|eT 2 [24] [(5,vu (yj .u64 e 7))]<|ar 4<|eH 3 [] [(28,.bool ((yj .u64 e 7) !=0))]<|qx h (λc13 h=>?_) (λc13 h=>?_)
  ·refine oo 28 (bne_eq_false_iff_eq.mpr c13)<|eH 5 [5,28] [(32,VF),(33,vp (pa b))]<|have⟨ae,q15,h⟩:=h;hH 34 28 q15 [33]<|Bu 35 [34] h λaf ai xA xX ag H2 h=>eT 3 [32,35] [(38,.bool (af==0))]<|qx h (λc16 h=>?_) (λc16 h=>?_)
   ·exact aJ 38 (zK c16)<|ar 5<|u8 1 [(39,vp (pa b))]<|have⟨s,q18,h⟩:=h;hH 40 28 q18 [39]<|hV 2 [4] [vu (lj .u64 s 7)] hQ h
   exact aK 38 (zJ c16)<|kd<|ar 6<|u8 1 [(42,vp (pa b))]<|have⟨aa,q19,h⟩:=h;hH 43 28 q19 [42]<|hV 1 [4] [vu aa] hQ h
  refine oo 28 (bne_iff_ne.mpr c13)<|eH 4 [5,28] [(32,.bool ((yj .u64 e 7) !=4))]<|qx h (λc20 h=>?_) (λc20 h=>?_)
  ·refine oo 32 (bne_eq_false_iff_eq.mpr c20)<|eH 1 [] [(33,vp (pa b))]<|have⟨ac,q22,h⟩:=h;hH 34 28 q22 [33]<|Bu 35 [34] h λg ab ah aj r H3 h=>eT 3 [32,35] [(38,.bool (g==0))]<|qx h (λc23 h=>?_) (λc23 h=>?_)
   ·exact aJ 38 (zK c23)<|ar 5<|u8 1 [(39,vp (pa b))]<|have⟨z,q25,h⟩:=h;hH 40 28 q25 [39]<|hV 2 [4] [vu (lj .u64 z 7)] hQ h
   exact aK 38 (zJ c23)<|kd<|ar 6<|u8 1 [(42,vp (pa b))]<|have⟨p,q26,h⟩:=h;hH 43 28 q26 [42]<|hV 1 [4] [vu p] hQ h
  exact oo 32 (bne_iff_ne.mpr c20)<|eT 6 [32] [(38,VT)]<|wc 38<|ar 5<|u8 1 [(39,vp (pa b))]<|have⟨q,q27,h⟩:=h;hH 40 28 q27 [39]<|hV 2 [4] [vu (lj .u64 q 7)] hQ h
 refine λhk=>Ab [(1,vs d k o),(2,vp (pa b)),(9,.bool (decide (x>0)))] ?_
 by_cases c4:x>0
 ·have b5:(decide (x>0))=true:=zX c4
  exact bW [(1,vs d k o),(2,vp (pa b)),(9,VT)] (by rw[b5])<|eH 4 [9] [(13,.bool (decide ((k:Int)>0)))]<|zq<|vb 13 (b:=(decide ((k:Int)>0))) (v:=((decide (x>0)) && (decide ((k:Int)>0)))) (by simp only[b5,BL])<|hk
 have b5:(decide (x>0))=false:=zQ c4
 exact bW [(1,vs d k o),(2,vp (pa b)),(9,VF)] (by rw[b5])<|eH 4 [9] [(13,VF)]<|zq<|vb 13 (b:=false) (v:=((decide (x>0)) && (decide ((k:Int)>0)))) (by simp only[b5,BL])<|hk
namespace dE
def K0:=Func.code f70
def K2:=cb K0
def K4:=cb K2
def K5:=ca K4
def K8:=cb K5
def K9:=ca K8
def zu:=ca K9
end dE
def dE.pt(lB:zW)(lN lC:Nat)(e:zW)(d f:Nat)(H:zV)(R:zv):Prop:=
 ∃(o:zW->Nat->Nat->zw) (m11:zW->Nat->Nat->Int->zV->Nat),o none 0 0 0 H/\ ∀g outN outC i H1,o g outN outC i H1->
 if((decide (i< (lN:Int))) && (decide (i<62)))=true then(
 ∃j,lB=some j/\
 yZ i lN/\
 ∃xW n,aM H1 (j.add (Int.toNat i*2)) 0 [vu xW,vi n]/\
 bB.C xW n e d f H1 (λv H2=> ∃x,v=vu x/\
 ∀b H3,b=H2.size->H3=H2.push (.cells #[vu x] 28)->
 bI 1 28 8 [vu 0] g outN outC (some (ad b)) 1 H3 (λap m H4=>
 (o ap (outN+1) m (zY (i+1)) H4/\m11 ap (outN+1) m (zY (i+1)) H4<m11 g outN outC i H1))))
 else
 R (vs g outN outC) H1
set_option maxRecDepth 100000 in
theorem dE.link{e f:Nat}(h:pt d k o r e f H R):C d k o r e f H R:=by
 refine p0 K0 27 func70 ?_
 intro w0 Q hQ
 unfold pt zY at h
 refine kT [(0,vs d k o),(1,vs r e f)]<|ar 0<|eT 1 [] []<|ar 1<|eT 1 [] [(5,VN)]<|ge<|ar 2<|eT 1 [] [(6,vi 0)]<|o0 0<|have⟨lC,m11,i1,i2⟩:=h;bJ (x:=zu) (σ:=zW×Nat×Nat×Int) (λs_=> [(0,vs d k o),(1,vs r e f),(5,vs s_.1 s_.2.1 s_.2.2.1),(6,vi s_.2.2.2)]) (λs_ H=>lC s_.1 s_.2.1 s_.2.2.1 s_.2.2.2 H) (λs_ H=>m11 s_.1 s_.2.1 s_.2.2.1 s_.2.2.2 H) ((none,0,0,0):zW×Nat×Nat×Int) (by kernel_rfl) i1 sk ?_
 rintro⟨g,outN,outC,i⟩ H1 i3
 have h:=i2 g outN outC i H1 i3
 refine kT [(0,vs d k o),(1,vs r e f),(5,vs g outN outC),(6,vi i)]<|ge<|ar 3<|iX [(0,vs d k o),(1,vs r e f),(5,vs g outN outC),(6,vi i),(14,.bool ((decide (i< (k:Int))) && (decide (i<62))))] ?_ ?_
 ·refine aC<|qx h (λc6 h=>?_) (λc6 h=>?_)
  ·refine aJ 14 c6<|kd<|ge<|o0 1<|nx 5<|u8 3 [(0,vs d k o),(1,vs r e f),(6,vi i),(17,vs g outN outC),(18,vs d k o),(19,vi i)] ?_
   obtain⟨j,rfl,q8,ha⟩:=h
   refine yp (some 20) 66 65 2 j k o .i64 i underlying66 q8.1 q8.2 [0,18,19] [(0,vs (some j) k o),(20,Vq (j.add (Int.toNat i*2)))]<|have⟨xW,n,q9,h⟩:=ha;zr 21 65 q9 [20]<|eH 1 [] [(22,vs r e f)]<|sa 23 [21,22] h λx H2 h=>sv (some 24) (λb=>vs (pa b) 1 1) (.cells #[vu x] 28) ?_
   intro b H3 e10 e11
   replace h:=h b H3 e10 e11
   refine kb [23] [(24,vs (pa b) 1 1)]<|yO (some 25) (cG #[32,32] 32 #[vs g outN outC,vs (pa b) 1 1]) _ (λ_=>by kernel_rfl) (bK (T:=28) (sz:=1) (bytes:=8) (zero:=(vu 0:Value)) underlying32 underlying32 rfl (show prog.info? 28=some t28 from by kernel_rfl) (by kernel_rfl) (by kernel_rfl) (by decide) (by kernel_rfl) (by first | exact h | (simpa only[Value.cells,List.toList_toArray]using h))) ?_;clear h
   rintro _ H4 ⟨ap,m,rfl,h⟩
   exact kb [17,24] [(25,vs ap (outN+1) m)]<|eH 1 [25] [(5,vs ap (outN+1) m)]<|zq<|aA<|aC<|nx 4<|eT 3 [6] [(6,vi (zY (i+1)))]<|aR ((ap,(outN+1),m,(zY (i+1))):zW×Nat×Nat×Int) sk h
  exact aK 14 (zZ c6)<|zk 0<|aB<|aB<|aN<|aC<|ar 6<|hV 2 [4] [vs g outN outC] hQ h
 refine λhk=>u8 5 [(0,vs d k o),(1,vs r e f),(5,vs g outN outC),(6,vi i),(11,.bool (decide (i< (k:Int))))] ?_
 by_cases c4:i< (k:Int)
 ·have b5:(decide (i< (k:Int)))=true:=zX c4
  exact bW [(0,vs d k o),(1,vs r e f),(5,vs g outN outC),(6,vi i),(11,VT)] (by rw[b5])<|eH 3 [11] [(14,.bool (decide (i<62)))]<|zq<|vb 14 (b:=(decide (i<62))) (v:=((decide (i< (k:Int))) && (decide (i<62)))) (by simp only[b5,BL])<|hk
 have b5:(decide (i< (k:Int)))=false:=zQ c4
 exact bW [(0,vs d k o),(1,vs r e f),(5,vs g outN outC),(6,vi i),(11,VF)] (by rw[b5])<|eH 3 [11] [(14,VF)]<|zq<|vb 14 (b:=false) (v:=((decide (i< (k:Int))) && (decide (i<62)))) (by simp only[b5,BL])<|hk
def dU.K0:=Func.code f69
def dU.pt(nv:Int)(H:zV)(R:zv):Prop:=
 ∀b H1,b=H.size->H1=H.push (.cells #[vi 1,vi 5,vi 2] 3)->
 ((0:Int)<=(Int.tmod (yj .i64 nv 65535) 3)/\(Int.tmod (yj .i64 nv 65535) 3)< (3:Int))/\
 ∃x,hat H1 ((ad b).add (Int.toNat (Int.tmod (yj .i64 nv 65535) 3)*1))=some (vi x)/\
 R (vi x) H1
set_option maxRecDepth 100000 in
theorem dU.link(h:pt i H R):C i H R:=by
 refine p0 K0 9 func69 ?_
 intro w0 Q hQ
 unfold pt at h
 exact kT [(0,vi i)]<|ar 0<|eT 1 [] []<|ar 1<|sv (some 3) (λb=>vs (pa b) 3 3) (.cells #[vi 1,vi 5,vi 2] 3)<|λb H1 e1 e2=>have h:=h b H1 e1 e2;kb [] [(3,vs (pa b) 3 3)]<|eH 3 [0] [(6,vi (Int.tmod (yj .i64 i 65535) 3))]<|have⟨q3,h⟩:=h;Bw (some 7) 75 3 1 (ad b) 3 3 .i64 (Int.tmod (yj .i64 i 65535) 3) underlying75 q3.1 q3.2 [(7,vp (some ((ad b).add (Int.toNat (Int.tmod (yj .i64 i 65535) 3)*1))))]<|have⟨x,q4,h⟩:=h;hH 8 3 q4 [7]<|hV 1 [2] [vi x] hQ h
def eK.K0:=Func.code f71
def eK.pt(hv:zW)(wv nv v:Int)(H:zV)(R:zv):Prop:=
 eU.C hv wv H (λag H1=> ∃x,ag=.bool x/\
 if(x && ((yj .i64 (yj .i64 nv 65535) 1)==0))=true then(
 eZ.C hv wv v H1 (λs H2=> ∃m,s=vi m/\
 R (vi m) H2))
 else
 eU.C hv wv H1 (λaf H3=> ∃g,af=.bool g/\
 if g=true then(
 eD.C hv wv v H3 (λaa H4=> ∃n,aa=vi n/\
 R (vi n) H4))
 else
 bU.C hv wv H3 (λu H5=> ∃i,u=vi i/\
 if i=0 then(
 R (vi 3) H5)
 else
 cL.C hv wv H5 (λae H6=> ∃f,ae=vi f/\
 if f=0 then(
 R (vi 3) H6)
 else
 bU.C hv wv H6 (λr H7=> ∃j,r=vi j/\
 if j=2 then(
 R (vi 3) H7)
 else
 bU.C hv wv H7 (λz H8=> ∃e,z=vi e/\
 if e=10 then(
 R (vi 3) H8)
 else
 bU.C hv wv H8 (λq H9=> ∃b,q=vi b/\
 cL.C hv wv H9 (λo ab=> ∃a,o=vi a/\
 (a≠0)/\
 eL.C hv wv b (Int.tmod (yj .i64 nv 65535) a) v ab (λp ac=> ∃d,p=vi d/\
 R (vi d) ac)))))))))
set_option maxRecDepth 100000 in
theorem eK.link{wv nv v:Int}(h:pt d wv nv v H R):C d wv nv v H R:=by
 refine p0 K0 67 func71 ?_
 intro w0 Q hQ
 unfold pt at h
 refine kT [(0,vp d),(1,vu wv),(2,vi nv),(3,vu v)]<|ar 0<|eT 1 [] []<|ar 1<|eT 3 [2] [(2,vi (yj .i64 nv 65535))]<|ge<|o0 0<|ar 2<|eH 2 [] [(12,vp d),(13,vu wv)]<|sa 14 [12,13] h λx H1 h=>eH 1 [14] [(15,.bool x)]<|iX [(0,vp d),(1,vu wv),(2,vi (yj .i64 nv 65535)),(3,vu v),(11,.bool (x && ((yj .i64 (yj .i64 nv 65535) 1)==0)))] ?_ ?_
 ·refine aC<|qx h (λc3 h=>?_) (λc3 h=>?_)
  ·exact aJ 11 c3<|ar 3<|u8 3 [(20,vp d),(21,vu wv),(22,vu v)]<|yT 23 (λm=>[(23,vi m)]) h λm H2 h=>hV 1 [8] [vi m] hQ h
  refine aK 11 (zZ c3)<|ar 4<|u8 2 [(0,vp d),(1,vu wv),(2,vi (yj .i64 nv 65535)),(3,vu v),(25,vp d),(26,vu wv)]<|sa 27 [25,26] h λg H3 h=>eT 1 [27] [(24,.bool g)]<|qx h (λc5 h=>?_) (λc5 h=>?_)
  ·exact aJ 24 c5<|ar 5<|u8 3 [(28,vp d),(29,vu wv),(30,vu v)]<|yT 31 (λn=>[(31,vi n)]) h λn H4 h=>hV 1 [8] [vi n] hQ h
  refine aK 24 (zZ c5)<|ar 6<|eH 2 [24] [(33,vp d),(34,vu wv)]<|sa 35 [33,34] h λi H5 h=>eH 2 [35] [(37,.bool (i==0))]<|qx h (λc7 h=>?_) (λc7 h=>?_)
  ·exact oo 37 (zK c7)<|eT 18 [37] [(32,VT)]<|wc 32<|ar 7<|hV 1 [8] [vi 3] hQ h
  refine oo 37 (zJ c7)<|eH 2 [] [(38,vp d),(39,vu wv)]<|sa 40 [38,39] h λf H6 h=>eH 3 [37,40] [(43,.bool (f==0))]<|qx h (λc9 h=>?_) (λc9 h=>?_)
  ·exact oo 43 (zK c9)<|eT 12 [43] [(32,VT)]<|wc 32<|ar 7<|hV 1 [8] [vi 3] hQ h
  refine oo 43 (zJ c9)<|eH 2 [] [(44,vp d),(45,vu wv)]<|sa 46 [44,45] h λj H7 h=>eH 3 [43,46] [(49,.bool (j==2))]<|qx h (λc11 h=>?_) (λc11 h=>?_)
  ·exact oo 49 (zK c11)<|eT 6 [49] [(32,VT)]<|wc 32<|ar 7<|hV 1 [8] [vi 3] hQ h
  refine oo 49 (zJ c11)<|eH 2 [] [(50,vp d),(51,vu wv)]<|sa 52 [50,51] h λe H8 h=>eT 3 [49,52] [(32,.bool (e==10))]<|qx h (λc13 h=>?_) (λc13 h=>?_)
  ·exact aJ 32 (zK c13)<|ar 7<|hV 1 [8] [vi 3] hQ h
  refine aK 32 (zJ c13)<|yR<|aA<|aC<|ar 8<|eH 4 [32] [(55,vp d),(56,vu wv),(57,vp d),(58,vu wv)]<|sa 59 [57,58] h λb H9 h=>eH 3 [0,1,2] [(60,vi (yj .i64 nv 65535)),(61,vp d),(62,vu wv)]<|zf (some 63) h ?_;clear h
  rintro o ab ⟨a,rfl,h⟩
  exact kb [61,62] [(63,vi a)]<|have⟨q15,h⟩:=h;yI 64 (zU .rem 3 (vi (yj .i64 nv 65535)) (vi a)) (vi (Int.tmod (yj .i64 nv 65535) a)) (λw _=>ui (P:=prog) (t:=3) (k:=.i64) (x:=(yj .i64 nv 65535)) (y:=a) q15 w) [60,63]<|eH 1 [3] [(65,vu v)]<|yT 66 (λhv=>[(66,vi hv)]) h λhv ac h=>hV 1 [8] [vi hv] hQ h
 refine λhk=>Ab [(0,vp d),(1,vu wv),(2,vi (yj .i64 nv 65535)),(3,vu v),(15,.bool x)] ?_
 by_cases c1:x=true
 ·have b2:x=true:=c1
  exact bW [(0,vp d),(1,vu wv),(2,vi (yj .i64 nv 65535)),(3,vu v),(15,VT)] (by rw[b2])<|eH 5 [15] [(11,.bool ((yj .i64 (yj .i64 nv 65535) 1)==0))]<|zq<|vb 11 (b:=((yj .i64 (yj .i64 nv 65535) 1)==0)) (v:=(x && ((yj .i64 (yj .i64 nv 65535) 1)==0))) (by simp only[b2,BL])<|hk
 have b2:x=false:=zZ c1
 exact bW [(0,vp d),(1,vu wv),(2,vi (yj .i64 nv 65535)),(3,vu v),(15,VF)] (by rw[b2])<|eH 5 [15] [(11,VF)]<|zq<|vb 11 (b:=false) (v:=(x && ((yj .i64 (yj .i64 nv 65535) 1)==0))) (by simp only[b2,BL])<|hk
namespace cV
def K0:=Func.code Tryz.f24
def K2:=cb K0
def K3:=ca K2
def K4:=cb K2
def K6:=cb K4
def K8:=cb K6
def K9:=ca K8
def zd:=cb K9
def Ad:=ca zd
def Bb:=cb Ad
def zC:=cb Bb
def Ag:=cb zC
def Am:=cb Ag
def zI:=cb Am
def AB:=ca zI
end cV
def cV.pt(hv:zW)(ay z xN az af a0 ag:Int)(a1:zW)(aw ax:Nat)(d:zW)(a e:Nat)(H:zV)(R:zv):Prop:=
 ∀b H1,b=H.size->H1=H.push (.cells #[vi ay,vi z,vi xN,vu az,vi af,vu a0,vi ag,vs a1 aw ax] 68)->
 ∃xW s,aM H1 ((ad b).add 3) 0 [vu xW,vi s]/\
 ∃m k,aM H1 ((ad b).add 5) 0 [vu m,vi k]/\
 bB.C xW s d a e H1 (λv H2=> ∃x,v=vu x/\aM H2 ((ad b).add 5) 0 [vu m,vi k]/\
 bB.C m k d a e H2 (λa5 H3=> ∃g,a5=vu g/\
 ∃f,hat H3 (ad b)=some (vi f)/\
 if f=0 then(
 fN.C hv x g H3 (λa7 H4=> ∃ra rb,a7=.tuple #[vu ra,vi rb]/\
 if rb=0 then(
 ∀am H5,am=H4.size->H5=H4.push (.cells #[vu ra] 28)->
 bI 1 28 8 [vu 0] d a e (some (ad am)) 1 H5 (λap au H6=>
 R (vs ap (a+1) au) H6))
 else
 R (vs d a e) H4))
 else
 if f=1 then(
 fO.C hv x g H3 (λbg H7=> ∃o q,bg=.tuple #[vu o,vi q]/\
 if q=0 then(
 ∀av H8,av=H7.size->H8=H7.push (.cells #[vu o] 28)->
 bI 1 28 8 [vu 0] d a e (some (ad av)) 1 H8 (λae y H9=>
 R (vs ae (a+1) y) H9))
 else
 R (vs d a e) H7))
 else
 if f=2 then(
 ∃aa,hat H3 ((ad b).add 1)=some (vi aa)/\
 ∃xB p xC,hat H3 ((ad b).add 7)=some (vs xB p xC)/\
 dU.C aa H3 (λba a4=> ∃ao,ba=vi ao/\aM a4 ((ad b).add 7) 0 [vs xB p xC]/\
 dE.C xB p xC d a e a4 (λa8 a9=> ∃ak ai aj,a8=vs ak ai aj/\
 fM.C hv ao 0 ak ai aj a9 (λbc a2=> ∃i j,bc=.tuple #[vu i,vi j]/\
 if j=0 then(
 ∀al H13,al=a2.size->H13=a2.push (.cells #[vu i] 28)->
 bI 1 28 8 [vu 0] d a e (some (ad al)) 1 H13 (λac t bf=>
 R (vs ac (a+1) t) bf))
 else
 R (vs d a e) a2))))
 else
 if f=3 then(
 ∃ah,hat H3 ((ad b).add 2)=some (vi ah)/\
 eK.C hv x ah g H3 (λa6 bh=> ∃bd,a6=vi bd/\
 R (vs d a e) bh))
 else
 if f=4 then(
 ∀an H16,an=H3.size->H16=H3.push (.cells #[vu 20,vu 20] 28)->
 fM.C hv 10 0 (some (ad an)) 2 2 H16 (λbb a3=> ∃n r,bb=.tuple #[vu n,vi r]/\
 if r=0 then(
 ∀aq H18,aq=a3.size->H18=a3.push (.cells #[vu n] 28)->
 bI 1 28 8 [vu 0] d a e (some (ad aq)) 1 H18 (λab u be=>
 R (vs ab (a+1) u) be))
 else
 R (vs d a e) a3))
 else
 R (vs d a e) H3))
set_option maxRecDepth 100000 in
theorem cV.link{az af a0 ag:Int}{ax:zW}{a e:Nat}(h:pt d i j u az af a0 ag r k o ax a e H R):C d i j u az af a0 ag r k o ax a e H R:=by
 refine p0 K0 76 func24 ?_
 intro w0 Q hQ
 unfold pt at h
 refine kT [(0,vp d),(1,.agg #[vi i,vi j,vi u,vu az,vi af,vu a0,vi ag,vs r k o]),(2,vs ax a e)]<|ar 0<|sv (some 4) (λb=>vp (pa b)) (.cells #[vi i,vi j,vi u,vu az,vi af,vu a0,vi ag,vs r k o] 68)<|λb H1 e1 e2=>have h:=h b H1 e1 e2;kb [1] [(4,vp (pa b))]<|eT 1 [] []<|ge ?_
 obtain⟨xW,s,q3,m,xN,q4,h⟩:=h
 refine yq 1 (Code.ops K3) [(3,((ad b).add 3),[vu xW,vi s]),(7,((ad b).add 5),[vu m,vi xN])] 10 (bv 10 0) (show aE _ _ _ from⟨q3,q4,trivial⟩)<|y9 0 (some 11) (Vq ((ad b).add 3)) (bv 10 1) [(0,vp d),(2,vs ax a e),(4,vp (pa b)),(11,Vq ((ad b).add 3))]<|nc 1 12 (.agg #[vu xW,vi s]) (bv 10 3) [11] (aQ 65 (Vq ((ad b).add 3))) (lE 3 (λ_=>by kernel_rfl) (λ_=>by kernel_rfl) yX (.inl (by kernel_rfl)))<|aG 2 13 (vs ax a e) (bv 10 7) []<|aG 4 15 (Vq ((ad b).add 5)) (bv 10 23) []<|nc 5 16 (.agg #[vu m,vi xN]) (bv 10 55) [15] (aQ 65 (Vq ((ad b).add 5))) (lE 7 (λ_=>by kernel_rfl) (λ_=>by kernel_rfl) yQ (.inl (by kernel_rfl)))<|aG 6 17 (vs ax a e) (bv 10 119) []<|yx 3 (some 14) (bv 10 127) 68 #[.agg #[vu xW,vi s],vs ax a e] h ?_;clear h
 rintro v H2 ⟨x,rfl,f5,h⟩
 refine⟨[(0,vp d),(2,vs ax a e),(4,vp (pa b)),(14,vu x),(16,.agg #[vu m,vi xN]),(17,vs ax a e)],pk,(show aE _ _ _ from⟨trivial,f5,trivial⟩),?_⟩
 refine yx 7 (some 18) (bv 10 255) 68 #[.agg #[vu m,vi xN],vs ax a e] h ?_;clear h
 rintro a5 H3 ⟨g,rfl,h⟩
 refine⟨[(0,vp d),(2,vs ax a e),(4,vp (pa b)),(14,vu x),(18,vu g)],pk,(show aE _ _ _ from⟨trivial,trivial,trivial⟩),?_⟩
 refine zh 8 (some 7) (vu x) (bv 10 511) [(0,vp d),(2,vs ax a e),(4,vp (pa b)),(7,vu x),(18,vu g)] (pure (.value (vu x)):Sem Next) (λ_ _ _ _ _=>rfl)<|nc 9 8 (vu g) (bv 10 1023) [18] (pure (.value (vu g)):Sem Next) (λ_ _ _ _ _=>rfl)<|eP [(0,vp d),(2,vs ax a e),(4,vp (pa b)),(7,vu x),(8,vu g)] sk<|yz<|aC<|ar 2<|u5 1 [(0,vp d),(2,vs ax a e),(4,vp (pa b)),(7,vu x),(8,vu g),(9,vu 0)]<|ar 3<|eT 1 [] [(10,vi 1)]<|ge<|ar 4<|eH 1 [] [(19,vp (pa b))]<|have⟨f,q6,h⟩:=h;hH 20 3 q6 [19]<|ym<|o0 0<|ar 5<|eT 2 [] [(21,.bool (f==0))]<|qx h (λc7 h=>?_) (λc7 h=>?_)
 ·refine aJ 21 (zK c7)<|nx 6<|u8 3 [(2,vs ax a e),(24,vp d),(25,vu x),(26,vu g)]<|zm 27 (λra rb=>[(2,vs ax a e),(27,.tuple #[vu ra,vi rb])]) h λra rb H4 h=>eH 5 [27] [(9,vu ra),(10,vi rb)]<|zq<|aA<|aC<|ge<|ar 15<|eT 2 [10] [(70,.bool (rb==0))]<|qx h (λc9 h=>?_) (λc9 h=>?_)
  ·refine aJ 70 (zK c9)<|nx 16<|u8 2 [(71,vs ax a e),(72,vu ra)]<|sv (some 73) (λb=>vs (pa b) 1 1) (.cells #[vu ra] 28) ?_
   intro am H5 e11 e12
   replace h:=h am H5 e11 e12
   refine kb [72] [(73,vs (pa am) 1 1)]<|yO (some 74) (cG #[32,32] 32 #[vs ax a e,vs (pa am) 1 1]) _ (λ_=>by kernel_rfl) (bK (T:=28) (sz:=1) (bytes:=8) (zero:=(vu 0:Value)) underlying32 underlying32 rfl (show prog.info? 28=some t28 from by kernel_rfl) (by kernel_rfl) (by kernel_rfl) (by decide) (by kernel_rfl) (by first | exact h | (simpa only[Value.cells,List.toList_toArray]using h))) ?_;clear h
   rintro _ H6 ⟨ap,au,rfl,h⟩
   refine⟨[(74,vs ap (a+1) au)],pk,?_⟩
   exact u5 1 [(2,vs ap (a+1) au)]<|ar 17<|hV 2 [6] [vs ap (a+1) au] hQ h
  exact aK 70 (zJ c9)<|kd<|ar 17<|hV 2 [6] [vs ax a e] hQ h
 refine aK 21 (zJ c7)<|ar 7<|eT 2 [21] [(30,.bool (f==1))]<|qx h (λc13 h=>?_) (λc13 h=>?_)
 ·refine aJ 30 (zK c13)<|nx 8<|u8 3 [(2,vs ax a e),(33,vp d),(34,vu x),(35,vu g)]<|zm 36 (λz q=>[(2,vs ax a e),(36,.tuple #[vu z,vi q])]) h λz q H7 h=>eH 5 [36] [(9,vu z),(10,vi q)]<|zq<|aA<|aC<|ge<|ar 15<|eT 2 [10] [(70,.bool (q==0))]<|qx h (λc15 h=>?_) (λc15 h=>?_)
  ·refine aJ 70 (zK c15)<|nx 16<|u8 2 [(71,vs ax a e),(72,vu z)]<|sv (some 73) (λb=>vs (pa b) 1 1) (.cells #[vu z] 28) ?_
   intro av H8 e17 e18
   replace h:=h av H8 e17 e18
   refine kb [72] [(73,vs (pa av) 1 1)]<|yO (some 74) (cG #[32,32] 32 #[vs ax a e,vs (pa av) 1 1]) _ (λ_=>by kernel_rfl) (bK (T:=28) (sz:=1) (bytes:=8) (zero:=(vu 0:Value)) underlying32 underlying32 rfl (show prog.info? 28=some t28 from by kernel_rfl) (by kernel_rfl) (by kernel_rfl) (by decide) (by kernel_rfl) (by first | exact h | (simpa only[Value.cells,List.toList_toArray]using h))) ?_;clear h
   rintro _ H9 ⟨ae,y,rfl,h⟩
   refine⟨[(74,vs ae (a+1) y)],pk,?_⟩
   exact u5 1 [(2,vs ae (a+1) y)]<|ar 17<|hV 2 [6] [vs ae (a+1) y] hQ h
  exact aK 70 (zJ c15)<|kd<|ar 17<|hV 2 [6] [vs ax a e] hQ h
 refine aK 30 (zJ c13)<|ar 9<|eT 2 [30] [(39,.bool (f==2))]<|qx h (λc19 h=>?_) (λc19 h=>?_)
 ·refine aJ 39 (zK c19) ?_
  obtain⟨aa,q21,xB,p,xC,q22,h⟩:=h
  refine yq 10 (Code.ops AB) [(3,((ad b).add 1),[vi aa]),(7,((ad b).add 7),[vs xB p xC])] 14 (bv 14 0) (show aE _ _ _ from⟨⟨q21,trivial⟩,⟨q22,trivial⟩,trivial⟩)<|y9 0 (some 42) (vp d) (bv 14 1) [(2,vs ax a e),(4,vp (pa b)),(9,vu 0),(10,vi 1),(42,vp d)]<|aG 1 43 (Vq ((ad b).add 1)) (bv 14 3) []<|nc 2 44 (vi aa) (bv 14 7) [43] (aQ 3 (Vq ((ad b).add 1))) (yY 3 yX)<|aG 4 46 (Vq ((ad b).add 7)) (bv 14 23) [4]<|nc 5 47 (vs xB p xC) (bv 14 55) [46] (aQ 66 (Vq ((ad b).add 7))) (yY 7 yQ)<|aG 6 48 (vs ax a e) (bv 14 119) []<|yx 3 (some 45) (bv 14 127) 69 #[vi aa] h ?_;clear h
  rintro ba a4 ⟨ao,rfl,f23,h⟩
  refine⟨[(2,vs ax a e),(9,vu 0),(10,vi 1),(42,vp d),(45,vi ao),(47,vs xB p xC),(48,vs ax a e)],pk,(show aE _ _ _ from⟨trivial,f23,trivial⟩),?_⟩
  refine yx 7 (some 49) (bv 14 255) 70 #[vs xB p xC,vs ax a e] h ?_;clear h
  rintro a8 a9 ⟨ak,ai,aj,rfl,h⟩
  refine⟨[(2,vs ax a e),(9,vu 0),(10,vi 1),(42,vp d),(45,vi ao),(49,vs ak ai aj)],pk,(show aE _ _ _ from⟨trivial,trivial,trivial⟩),?_⟩
  refine yx 8 (some 50) (bv 14 511) 10 #[vp d,vi ao,vu 0,vs ak ai aj] h ?_;clear h
  rintro bc a2 ⟨aw,a1,rfl,h⟩
  refine⟨[(2,vs ax a e),(9,vu 0),(10,vi 1),(50,.tuple #[vu aw,vi a1])],pk,(show aE _ _ _ from⟨trivial,trivial,trivial⟩),?_⟩
  refine zh 9 (some 41) (.tuple #[vu aw,vi a1]) (bv 14 1023) [(2,vs ax a e),(9,vu 0),(10,vi 1),(41,.tuple #[vu aw,vi a1])] (pure (.value (.tuple #[vu aw,vi a1])):Sem Next) (λ_ _ _ _ _=>rfl)<|nc 10 51 (vu aw) (bv 14 2047) [] (pure (.value (vu aw)):Sem Next) (λ_ _ _ _ _=>rfl)<|nc 11 52 (vi a1) (bv 14 4095) [41] (pure (.value (vi a1)):Sem Next) (λ_ _ _ _ _=>rfl)<|nc 12 9 (vu aw) (bv 14 8191) [9,51] (pure (.value (vu aw)):Sem Next) (λ_ _ _ _ _=>rfl)<|nc 13 10 (vi a1) (bv 14 16383) [10,52] (pure (.value (vi a1)):Sem Next) (λ_ _ _ _ _=>rfl)<|eP [(2,vs ax a e),(9,vu aw),(10,vi a1)] sk<|yz<|aA<|aC<|ge<|ar 15<|u5 2 [(2,vs ax a e),(9,vu aw),(70,.bool (a1==0))]<|qx h (λc24 h=>?_) (λc24 h=>?_)
  ·refine aJ 70 (zK c24)<|nx 16<|u8 2 [(71,vs ax a e),(72,vu aw)]<|sv (some 73) (λb=>vs (pa b) 1 1) (.cells #[vu aw] 28) ?_
   intro al H13 e26 e27
   replace h:=h al H13 e26 e27
   refine kb [72] [(73,vs (pa al) 1 1)]<|yO (some 74) (cG #[32,32] 32 #[vs ax a e,vs (pa al) 1 1]) _ (λ_=>by kernel_rfl) (bK (T:=28) (sz:=1) (bytes:=8) (zero:=(vu 0:Value)) underlying32 underlying32 rfl (show prog.info? 28=some t28 from by kernel_rfl) (by kernel_rfl) (by kernel_rfl) (by decide) (by kernel_rfl) (by first | exact h | (simpa only[Value.cells,List.toList_toArray]using h))) ?_;clear h
   rintro _ bf ⟨ac,t,rfl,h⟩
   refine⟨[(74,vs ac (a+1) t)],pk,?_⟩
   exact u5 1 [(2,vs ac (a+1) t)]<|ar 17<|hV 2 [6] [vs ac (a+1) t] hQ h
  exact aK 70 (zJ c24)<|kd<|ar 17<|hV 2 [6] [vs ax a e] hQ h
 refine aK 39 (zJ c19)<|ar 11<|eT 2 [39] [(53,.bool (f==3))]<|qx h (λc28 h=>?_) (λc28 h=>?_)
 ·refine aJ 53 (zK c28)<|nx 12<|eH 3 [0,4,7,20,53] [(55,vp d),(56,vu x),(57,Vq ((ad b).add 2))] ?_
  obtain⟨ah,q30,h⟩:=h
  refine hH 58 3 q30 [57]<|eH 1 [8] [(59,vu g)]<|zf (some 60) h ?_;clear h
  rintro a6 bh ⟨bd,rfl,h⟩
  exact kb [55,56,58,59] []<|zq<|aA<|aC<|ge<|ar 15<|eT 2 [10] [(70,VF)]<|yn 70<|kd<|ar 17<|hV 2 [6] [vs ax a e] hQ h
 refine aK 53 (zJ c28)<|ar 13<|eT 2 [4,7,8,20,53] [(61,.bool (f==4))]<|qx h (λc31 h=>?_) (λc31 h=>?_)
 ·refine aJ 61 (zK c31)<|nx 14<|u8 1 [(2,vs ax a e),(64,vp d)]<|sv (some 65) (λb=>vs (pa b) 2 2) (.cells #[vu 20,vu 20] 28)<|λan H16 e33 e34=>have h:=h an H16 e33 e34;kb [] [(65,vs (pa an) 2 2)]<|yD 66 [64,65] h λn ay a3 h=>eH 5 [66] [(9,vu n),(10,vi ay)]<|zq<|aA<|aC<|ge<|ar 15<|eT 2 [10] [(70,.bool (ay==0))]<|qx h (λc35 h=>?_) (λc35 h=>?_)
  ·refine aJ 70 (zK c35)<|nx 16<|u8 2 [(71,vs ax a e),(72,vu n)]<|sv (some 73) (λb=>vs (pa b) 1 1) (.cells #[vu n] 28) ?_
   intro aq H18 e37 e38
   replace h:=h aq H18 e37 e38
   refine kb [72] [(73,vs (pa aq) 1 1)]<|yO (some 74) (cG #[32,32] 32 #[vs ax a e,vs (pa aq) 1 1]) _ (λ_=>by kernel_rfl) (bK (T:=28) (sz:=1) (bytes:=8) (zero:=(vu 0:Value)) underlying32 underlying32 rfl (show prog.info? 28=some t28 from by kernel_rfl) (by kernel_rfl) (by kernel_rfl) (by decide) (by kernel_rfl) (by first | exact h | (simpa only[Value.cells,List.toList_toArray]using h))) ?_;clear h
   rintro _ be ⟨ab,hv,rfl,h⟩
   refine⟨[(74,vs ab (a+1) hv)],pk,?_⟩
   exact u5 1 [(2,vs ab (a+1) hv)]<|ar 17<|hV 2 [6] [vs ab (a+1) hv] hQ h
  exact aK 70 (zJ c35)<|kd<|ar 17<|hV 2 [6] [vs ax a e] hQ h
 exact aK 61 (zJ c31)<|yR<|aA<|aC<|ge<|ar 15<|eT 2 [0,10,61] [(70,VF)]<|yn 70<|kd<|ar 17<|hV 2 [6] [vs ax a e] hQ h
namespace iQ
def K0:=Func.code Tryz.f38
def K2:=cb K0
def K4:=cb K2
def zd:=cb K4
def zG:=cb zd
def zL:=cb zG
def AC:=ca zL
def AU:=cb AC
def Ax:=ca AU
def Aw:=ca Ax
end iQ
def iQ.pt(hv:zW)(g o:Int)(j:zW)(b d:Nat)(H:zV)(R:zv):Prop:=
 fE hv (
 R (vi 1) H) (λe=>
 lu.C (some e) H (λv H1=> ∃x,v=vi x/\
 iZ.C (some e) g o x H1 (λal H2=> ∃ra rb,al=.tuple #[vp ra,vi rb]/\
 if rb=0 then(
 ∃(ah:zw) (m27:Int->zV->Nat),ah 0 H2/\ ∀n H3,ah n H3->
 if n< (b:Int)then(
 ∃m,j=some m/\
 yZ n b/\
 ∃aa,hat H3 (m.add (Int.toNat n*1))=some (vp aa)/\
 fE aa (
 (ah (zY (n+1)) H3/\m27 (zY (n+1)) H3<m27 n H3)) (λp=>
 ∃ag,hat H3 p=some (vu ag)/\
 aZ.C ra ag H3 (λan H4=> ∃af,an=vu af/\
 (aH H4 p 0 1)/\ ∀H5,H5=aP H4 p [vu af] 0->
 (ah (zY (n+1)) H5/\m27 (zY (n+1)) H5<m27 n H3))))
 else
 dM.C ra H3 (λ_ H6=>
 cU.C ra H6 (λ_ H7=>
 ∃xB xN xC,hat H7 (e.add 2)=some (vs xB xN xC)/\
 jo.C ra xB xN xC H7 (λao H8=> ∃u z s,ao=vs u z s/\
 (aH H8 (e.add 2) 0 1)/\ ∀H9,H9=aP H8 (e.add 2) [vs u z s] 0->
 jp.C ra H9 (λ_ ak=>
 ∃ae ac ab,hat ak (e.add 1)=some (vs ae ac ab)/\
 jI.C ra ae ac ab ak (λam aj=> ∃y q r,am=vs y q r/\
 (aH aj (e.add 1) 0 1)/\ ∀ai,ai=aP aj (e.add 1) [vs y q r] 0->
 dG.CD ra ai (λap=>
 R (vi 0) ap)))))))
 else
 R (vi rb) H2)))
theorem iQ.link(h:pt d i j r k o H R):C d i j r k o H R:=by
 refine p0 K0 68 func38 ?_
 intro w0 Q hQ
 unfold pt zY at h
 refine kT [(0,vp d),(1,vi i),(2,vi j),(3,vs r k o)]<|ar 0<|eT 1 [] []<|ge<|ar 1<|eH 1 [] [(13,vp d)] ?_
 rcases d with _ | e
 ·rw[onPtr_none]at h
  exact eT 1 [0,13] [(0,vp none),(14,VT)]<|wc 14<|ar 2<|hV 1 [8] [vi 1] hQ h
 rw[onPtr_some]at h
 refine eT 1 [0,13] [(0,Vq e),(14,VF)]<|yn 14<|kd<|ar 3<|eH 4 [1,2,14] [(16,Vq e),(17,vi i),(18,vi j),(19,Vq e)]<|sa 20 [19] h λx H1 h=>yD 21 [16,17,18,20] h λra rb H2 h=>eT 5 [21] [(9,vp ra),(10,vi rb)]<|ge<|ar 4<|eT 2 [] [(25,.bool (rb !=0))]<|qx h (λc1 h=>?_) (λc1 h=>?_)
 ·refine aK 25 (bne_eq_false_iff_eq.mpr c1)<|kd<|ar 6<|eH 1 [10,25] [(27,vp ra)]<|wG none 16 #[vp ra] (λ_=>by kernel_rfl) [(0,Vq e),(3,vs r k o),(9,vp ra)] pk<|ym<|ge<|ar 7<|u5 3 [(0,Vq e),(9,vp ra),(28,vs r k o),(29,vi k),(30,vi 0)]<|o0 0<|have⟨ah,m27,i3,i4⟩:=h;bJ (x:=Aw) (σ:=Int) (λs_=> [(0,Vq e),(9,vp ra),(28,vs r k o),(29,vi k),(30,vi s_)]) (λs_ H=>ah s_ H) (λs_ H=>m27 s_ H) (0:Int) (by kernel_rfl) i3 sk ?_
  rintro n H3 i5
  have h:=i4 n H3 i5
  refine kT [(0,Vq e),(9,vp ra),(28,vs r k o),(29,vi k),(30,vi n)]<|ar 8<|eT 1 [] [(31,.bool (decide (n< (k:Int))))]<|ge<|qx h (λc6 h=>?_) (λc6 h=>?_)
  ·refine aJ 31 (zX c6)<|kd<|ge<|o0 1<|ar 9<|yA [31] [] ?_
   obtain⟨m,rfl,q8,ha⟩:=h
   refine yp (some 32) 90 91 1 m k o .i64 n underlying90 q8.1 q8.2 [28] [(28,vs (some m) k o),(32,Vq (m.add (Int.toNat n*1)))]<|have⟨aa,q9,h⟩:=ha;hH 33 91 q9 [32]<|eT 1 [33] [(12,vp aa)]<|ar 10<|eH 1 [] [(34,vp aa)] ?_
   rcases aa with _ | p
   ·rw[onPtr_none]at h
    exact eT 1 [12,34] [(12,vp none),(35,VF)]<|yn 35<|yR<|aA<|aC<|nx 12<|eT 2 [12,30,35] [(30,vi (zY (n+1)))]<|aR ((zY (n+1)):Int) sk h
   rw[onPtr_some]at h
   exact eT 1 [12,34] [(12,Vq p),(35,VT)]<|wc 35<|nx 11<|eH 4 [12,35] [(36,Vq p),(37,vp ra),(39,Vq p)]<|have⟨ag,q10,h⟩:=h;hH 40 28 q10 [39]<|sa 41 [37,40] h λaf H4 h=>eH 1 [36] [(42,Vq p)]<|have⟨q12,h⟩:=h;eQ 28 (vu af) q12<|λH5 e11=>have h:=h H5 e11;kb [41,42] []<|zq<|aA<|aC<|nx 12<|eT 2 [30] [(30,vi (zY (n+1)))]<|aR ((zY (n+1)):Int) sk h
  refine aK 31 (zQ c6)<|zk 0<|aB<|aB<|aN<|aC<|ar 13<|eH 1 [28,29,30,31] [(44,vp ra)]<|zf (some 45) h ?_;clear h
  intro v_4 H6 h
  refine kb [44] []<|ym<|ar 14<|eH 1 [] [(46,vp ra)]<|zf (some 47) h ?_;clear h
  refine λv_5 H7 h=>kb [46] []<|ym<|ar 15<|eH 5 [] [(48,Vq e),(49,vp ra),(52,Vq (e.add 2))]<|have⟨xB,xN,xC,q13,h⟩:=h;hH 53 31 q13 [52]<|zt 54 [49,53] h λu z s H8 h=>eH 2 [48] [(56,Vq (e.add 2))]<|have⟨q15,h⟩:=h;eQ 31 (vs u z s) q15 ?_
  intro H9 e14
  replace h:=h H9 e14
  refine kb [54,56] []<|ym<|ar 16<|eH 1 [] [(57,vp ra)]<|zf (some 58) h ?_;clear h
  refine λv_7 ak h=>kb [57] []<|ym<|ar 17<|u8 5 [(59,Vq e),(60,vp ra),(63,Vq (e.add 1))]<|have⟨ae,ac,ab,q16,h⟩:=h;hH 64 32 q16 [63]<|zt 65 [60,64] h λy q b aj h=>eH 2 [59] [(67,Vq (e.add 1))]<|have⟨q18,h⟩:=h;eQ 32 (vs y q b) q18<|λai e17=>have h:=h ai e17;⟨[],pk,?_⟩
  refine ym<|ar 18<|u5 1 [(8,vi 0)]<|zx ?_
  show At _ _ _ _ _ (Q .ret)
  refine wH (f:=16) (args:= #[vp ra]) (enters_of func16 (by kernel_rfl) rfl) hQ (HD.mono (h) (λap h=>?_))
  exact⟨[vi 0],(show bS _ _ _ [.tmp 8] _ from .tmp (by kernel_rfl) (.nil)),h⟩
 exact aJ 25 (bne_iff_ne.mpr c1)<|ar 5<|hV 2 [8] [vi rb] hQ h
def lu.K0:=Func.code f82
def lu.pt(hv:zW)(H:zV)(R:zv):Prop:=
 ∃a,hv=some a/\
 ∃xB xN xC,hat H (a.add 2)=some (vs xB xN xC)/\
 R (vi (zY ((zY (Int.tdiv (xN:Int) 32))+1))) H
theorem lu.link(h:pt d H R):C d H R:=by
 refine p0 K0 10 func82 ?_
 intro w0 Q hQ
 unfold pt zY at h
 refine kT [(0,vp d)]<|ar 0<|eT 1 [] []<|ar 1<|u8 1 [(3,vp d)] ?_
 obtain⟨a,rfl,ha⟩:=h
 exact u8 2 [(5,Vq (a.add 2))]<|have⟨xB,xN,xC,q1,h⟩:=ha;hH 6 31 q1 [5]<|hV 4 [2] [vi (zY ((zY (Int.tdiv (xN:Int) 32))+1))] hQ h
namespace gW
def K0:=Func.code f136
def K2:=cb K0
def K8:=cb K2
def K9:=ca K8
def zu:=ca K9
def zd:=cb zu
def zG:=cb zd
def zC:=ca zG
def Ac:=ca zC
def AC:=cb Ac
def AN:=cb AC
def Ax:=cb AN
def Aw:=ca Ax
def Ag:=ca Aw
end gW
def gW.pt(e:Value)(aj:zW)(H:zV)(R:zv):Prop:=
 ∃d,aj=some d/\
 ∃x,hat H d=some (vp x)/\
 iU.C x H (λv H1=> ∃ah,v=.bool ah/\
 if ah=true then(
 R (.tuple #[]) H1)
 else
 ∃ao,hat H1 d=some (vp ao)/\
 ∃av,ao=some av/\
 ∃ax,hat H1 av=some (vp ax)/\
 ∃az,ax=some az/\
 ∃au,hat H1 az=some (vp au)/\
 ∃a0,au=some a0/\
 ∃ak,hat H1 a0=some (vp ak)/\
 cF.C ak none 0 0 H1 (λa2 H2=> ∃xB xN xC,a2=vs xB xN xC/\
 ∃(am:zw) (m11:Int->zV->Nat),am 0 H2/\ ∀f H3,am f H3->
 if f< (xN:Int)then(
 ∃g,xB=some g/\
 yZ f xN/\
 ∃j,hat H3 (g.add (Int.toNat f*1))=some (vi j)/\
 ∃an,hat H3 d=some (vp an)/\
 ∃aq,an=some aq/\
 ∃ap,hat H3 aq=some (vp ap)/\
 ∃aw,ap=some aw/\
 ∃ag,hat H3 aw=some (vp ag)/\
 ∃ai,ag=some ai/\
 ∃aa,hat H3 ai=some (vp aa)/\
 bA.C aa j H3 (λa3 H4=> ∃u s ac r q p o rb,a3=.tuple #[.agg #[vi u,vi s,vi ac,vi r,vi q,vi p,vi o],.bool rb]/\
 ∀b H5,b=H4.size->H5=H4.push (.cells #[vi 0,vi 0,vi 0,vi 0,vi 0,vi 0,vi 0] 108)->
 (aH H5 (ad b) 0 7)/\ ∀H6,H6=aP H5 (ad b) [vi u,vi s,vi ac,vi r,vi q,vi p,vi o] 0->
 ∃(ay:zw) (m28:Int->zV->Nat),ay 0 H6/\ ∀m H7,ay m H7->
 ∃z,hat H7 ((ad b).add 2)=some (vi z)/\
 if m<z then(
 ∃af,hat H7 ((ad b).add 1)=some (vi af)/\
 jK.C af H7 (λa8 H8=> ∃ae,a8=vi ae/\
 jQ.C ae (zY ((zY (j*64))+m)) H8 (λa5 H9=> ∃ra a1,a5=.tuple #[vu ra,vi a1]/\
 ∃ab,hat H9 d=some (vp ab)/\
 bN.C ab ra H9 (λa4 a6=> ∃n,a4=vi n/\
 FC prog e #[vu ra,vi n] a6 (λa7 al=> ∃y,a7=.bool y/\
 if y=true then(
 if n=0 then(
 (am (zY (f+1)) al/\m11 (zY (f+1)) al<m11 f H3))
 else
 (ay (zY (m+n)) al/\m28 (zY (m+n)) al<m28 m H7))
 else
 R (.tuple #[]) al)))))
 else
 (am (zY (f+1)) H7/\m11 (zY (f+1)) H7<m11 f H3)))
 else
 R (.tuple #[]) H3))
theorem gW.link{e:Value}(h:pt e d H R):C e d H R:=by
 refine p0 K0 73 func136 ?_
 intro w0 Q hQ
 unfold pt zY at h
 refine kT [(0,e),(1,vp d)]<|ge<|ar 0 ?_
 obtain⟨aj,rfl,x,q1,ha⟩:=h
 refine Af (some 11) 23 q1 [1] [(1,Vq aj),(11,vp x)]<|sa 12 [11] ha λah H1 h=>ym<|qx h (λc2 h=>?_) (λc2 h=>?_)
 ·exact aJ 12 c2<|iV [] [] hQ h
 refine aK 12 (zZ c2)<|kd<|ar 1<|yA [12] []<|have⟨ao,q4,h⟩:=h;hH 13 23 q4 [] ?_
 obtain⟨av,rfl,hb⟩:=h
 refine eH 2 [13] [(15,Vq av)]<|have⟨ax,q5,h⟩:=hb;hH 16 49 q5 [15] ?_
 obtain⟨az,rfl,hc⟩:=h
 refine eH 2 [16] [(18,Vq az)]<|have⟨au,q6,h⟩:=hc;hH 19 52 q6 [18] ?_
 obtain⟨a0,rfl,hd⟩:=h
 refine eH 2 [19] [(21,Vq a0)]<|have⟨ak,q7,h⟩:=hd;hH 22 78 q7 [21]<|zt 23 [22] h λxB xN xC H2 h=>eT 2 [] [(24,vi xN),(25,vi 0)]<|o0 0<|have⟨am,m11,i8,i9⟩:=h;bJ (x:=zu) (σ:=Int) (λs_=> [(0,e),(1,Vq aj),(23,vs xB xN xC),(24,vi xN),(25,vi s_)]) (λs_ H=>am s_ H) (λs_ H=>m11 s_ H) (0:Int) (by kernel_rfl) i8 sk ?_
 rintro f H3 i10
 have h:=i9 f H3 i10
 refine kT [(0,e),(1,Vq aj),(23,vs xB xN xC),(24,vi xN),(25,vi f)]<|ar 2<|eT 1 [] [(26,.bool (decide (f< (xN:Int))))]<|ge<|qx h (λc11 h=>?_) (λc11 h=>?_)
 ·refine aJ 26 (zX c11)<|kd<|ge<|o0 1<|ar 3<|yA [26] [] ?_
  obtain⟨g,rfl,q13,he⟩:=h
  refine yp (some 27) 75 3 1 g xN xC .i64 f underlying75 q13.1 q13.2 [23] [(23,vs (some g) xN xC),(27,Vq (g.add (Int.toNat f*1)))]<|have⟨j,q14,h⟩:=he;hH 28 3 q14 [27]<|eT 1 [28] [(4,vi j)]<|ar 4<|have⟨an,q15,h⟩:=h;hH 30 23 q15 [] ?_
  obtain⟨aq,rfl,hf⟩:=h
  refine eH 2 [30] [(32,Vq aq)]<|have⟨ap,q16,h⟩:=hf;hH 33 49 q16 [32] ?_
  obtain⟨aw,rfl,hg⟩:=h
  refine eH 2 [33] [(35,Vq aw)]<|have⟨ag,q17,h⟩:=hg;hH 36 52 q17 [35] ?_
  obtain⟨ai,rfl,hh⟩:=h
  refine eH 2 [36] [(38,Vq ai)]<|have⟨aa,q18,h⟩:=hh;hH 39 78 q18 [38]<|eH 1 [] [(40,vi j)]<|zE 41 [39,40] h λu s ac r q p o rb H4 h=>eH 3 [41] [(42,.agg #[vi u,vi s,vi ac,vi r,vi q,vi p,vi o]),(43,.bool rb)]<|sv (some 5) (λb=>vp (pa b)) (.cells #[vi 0,vi 0,vi 0,vi 0,vi 0,vi 0,vi 0] 108)<|λb H5 e19 e20=>have h:=h b H5 e19 e20;kb [] [(5,vp (pa b))]<|have⟨q22,h⟩:=h;fK 108 [vi u,vi s,vi ac,vi r,vi q,vi p,vi o] q22<|λH6 e21=>have h:=h H6 e21;kb [42] []<|eT 1 [43] []<|ar 5<|eT 1 [] [(7,vi 0)]<|o0 2<|have⟨ay,m28,i23,i24⟩:=h;bJ (x:=Ag) (σ:=Int) (λs_=> [(0,e),(1,Vq aj),(4,vi j),(5,vp (pa b)),(7,vi s_),(23,vs (some g) xN xC),(24,vi xN),(25,vi f)]) (λs_ H=>ay s_ H) (λs_ H=>m28 s_ H) (0:Int) (by kernel_rfl) i23 sk ?_
  rintro m H7 i25
  have h:=i24 m H7 i25
  refine kT [(0,e),(1,Vq aj),(4,vi j),(5,vp (pa b)),(7,vi m),(23,vs (some g) xN xC),(24,vi xN),(25,vi f)]<|ge<|ar 6<|eH 2 [] [(44,vi m),(45,Vq ((ad b).add 2))]<|have⟨z,q26,h⟩:=h;hH 46 3 q26 [45]<|eT 1 [44,46] [(47,.bool (decide (m<z)))]<|qx h (λc27 h=>?_) (λc27 h=>?_)
  ·refine aJ 47 (zX c27)<|kd<|o0 3<|ar 7<|eH 1 [47] [(49,Vq ((ad b).add 1))]<|have⟨af,q29,h⟩:=h;hH 50 3 q29 [49]<|sa 51 [50] h λae H8 h=>eH 4 [] [(55,vi (zY ((zY (j*64))+m)))]<|yD 56 [51,55] h λra a1 H9 h=>eT 5 [56] [(8,vu ra)]<|ar 8 ?_
   obtain⟨ab,q30,h⟩:=h
   refine hH 59 23 q30 []<|eH 1 [] [(60,vu ra)]<|sa 61 [59,60] h λn a6 h=>eT 1 [61] [(10,vi n)]<|ge<|ar 9<|eH 3 [8] [(62,e),(63,vu ra),(64,vi n)]<|mR (some 65) e #[vu ra,vi n] (λ_=>by kernel_rfl) h ?_;clear h
   rintro a7 al ⟨y,rfl,h⟩
   refine kb [62,63,64] [(65,.bool y)]<|eT 1 [65] [(66,.bool (!y))]<|qx h (λc31 h=>?_) (λc31 h=>?_)
   ·refine aK 66 (congrArg Bool.not (c31))<|kd<|ge<|ar 10<|eT 2 [66] [(68,.bool (n==0))]<|qx h (λc33 h=>?_) (λc33 h=>?_)
    ·exact aJ 68 (zK c33)<|zk 2<|aB<|zj<|aB<|aN<|aA<|aC<|nx 12<|eT 2 [4,5,7,10,25,68] [(25,vi (zY (f+1)))]<|aR ((zY (f+1)):Int) sk h
    exact aK 68 (zJ c33)<|kd<|nx 11<|eH 4 [7,10,68] [(7,vi (zY (m+n)))]<|zq<|aA<|aC<|aR ((zY (m+n)):Int) sk h
   exact aJ 66 (congrArg Bool.not (zZ c31))<|iV [] [] hQ h
  exact aK 47 (zQ c27)<|zk 2<|aB<|aB<|aN<|aA<|aC<|nx 12<|eT 2 [4,5,7,25,47] [(25,vi (zY (f+1)))]<|aR ((zY (f+1)):Int) sk h
 exact aK 26 (zQ c11)<|zk 0<|aB<|aB<|aN<|gF (fn:=f136) [] hQ (show bS _ _ _ [] _ from .nil) h
def jK.K0:=Func.code f137
def jK.pt(a:Int)(H:zV)(R:zv):Prop:=
 ∃x,((0<=a/\a< (4:Int))/\(#[vi 1,vi 2,vi 3,vi 3]:Array Value)[Int.toNat a]?=some (vi x))/\
 R (vi x) H
theorem jK.link(h:pt i H R):C i H R:=by
 refine p0 K0 6 func137 ?_
 intro w0 Q hQ
 unfold pt at h
 exact kT [(0,vi i)]<|ar 0<|eT 1 [] []<|ar 1<|u8 2 [(3,.agg #[vi 1,vi 2,vi 3,vi 3]),(4,vi i)]<|have⟨x,q1,h⟩:=h;yI 5 (mD 79 (.agg #[vi 1,vi 2,vi 3,vi 3]) (vi i)) (vi x) (λw _=>jZ (P:=prog) (t:=79) (elem:=3) (n:=4) underlying79 (λ_=>by kernel_rfl) (λ_=>by kernel_rfl) q1.1.1 q1.1.2 q1.2 w) [3,4]<|hV 1 [2] [vi x] hQ h
namespace gX
def K0:=Func.code f138
def K2:=cb K0
def K4:=cb K2
def zu:=cb K4
def zd:=cb zu
def zT:=cb zd
def Ac:=ca zT
def zL:=ca Ac
def Ak:=cb zL
def Ag:=ca Ak
def Am:=ca Ag
def AK:=ca Am
end gX
def gX.pt(d:Value)(y s:zW)(H:zV)(R:zv):Prop:=
 ∃a,y=some a/\
 ∃x,hat H a=some (vp x)/\
 ∃b,s=some b/\
 ∃z,hat H b=some (vu z)/\
 bU.C x z H (λv H1=> ∃e,v=vi e/\
 if((e==2) || (e==3))=true then(
 R (.tuple #[]) H1)
 else
 ∃J:zw,(
 if e>0 then(
 J 1 H1)
 else
 J 0 H1)/\ ∀n H2,J n H2->
 ∃(ab:zw) (m21:Int->zV->Nat),ab n H2/\ ∀i H3,ab i H3->
 ∃u,hat H3 a=some (vp u)/\
 ∃aa,hat H3 b=some (vu aa)/\
 bN.C u aa H3 (λag H4=> ∃t,ag=vi t/\
 if i<t then(
 ∃af,hat H4 a=some (vp af)/\
 ∃j,af=some j/\
 ∃ac,hat H4 j=some (vp ac)/\
 ∃g,ac=some g/\
 ∃ae,hat H4 g=some (vp ae)/\
 ∃k,ae=some k/\
 ∃f,hat H4 k=some (vp f)/\
 ∃p,hat H4 b=some (vu p)/\
 eV.C p H4 (λah H5=> ∃o,ah=vi o/\aM H5 a 0 [Vq j]/\aM H5 j 0 [Vq g]/\aM H5 g 0 [Vq k]/\aM H5 k 0 [vp f]/\
 cD.C f (zY (o+i)) H5 (λak H6=> ∃ra rb,ak=.tuple #[vu ra,vi rb]/\
 ∃r,hat H6 b=some (vu r)/\
 eV.C r H6 (λaj H7=> ∃q,aj=vi q/\
 FC prog d #[vi (zY (q+i)),vu ra] H7 (λai H8=> ∃m,ai=.bool m/\
 if m=true then(
 (ab (zY (i+1)) H8/\m21 (zY (i+1)) H8<m21 i H3))
 else
 R (.tuple #[]) H8)))))
 else
 R (.tuple #[]) H4))
theorem gX.link{s:Value}(h:pt s d r H R):C s d r H R:=by
 refine p0 K0 54 func138 ?_
 intro w0 Q hQ
 unfold pt zY at h
 refine kT [(0,s),(1,vp d),(2,vp r)]<|ar 0 ?_
 obtain⟨a,rfl,x,q1,ha⟩:=h
 refine Af (some 9) 23 q1 [1] [(1,Vq a),(9,vp x)] ?_
 obtain⟨b,rfl,z,q2,hb⟩:=ha
 refine Af (some 10) 28 q2 [2] [(2,Vq b),(10,vu z)]<|sa 11 [9,10] hb λe H1 h=>eT 1 [11] [(4,vi e)]<|ge<|ar 1<|iX [(0,s),(1,Vq a),(2,Vq b),(4,vi e),(17,.bool ((e==2) || (e==3)))] ?_ ?_
 ·refine aC<|qx h (λc5 h=>?_) (λc5 h=>?_)
  ·exact aJ 17 c5<|iV [] [] hQ h
  refine aK 17 (zZ c5)<|kd<|ar 2<|u5 1 [(0,s),(1,Vq a),(2,Vq b),(4,vi e),(5,vi 0)]<|ge<|ar 3<|u5 2 [(0,s),(1,Vq a),(2,Vq b),(5,vi 0),(19,.bool (decide (e>0)))]<|have⟨J,h,j8⟩:=h;rv (σ:=Int) (λs_=> [(0,s),(1,Vq a),(2,Vq b),(5,vi s_)]) (λs_ H=>J s_ H) ?_ ?_
  ·refine λn H2 j9=>have h:=j8 n H2 j9;kT [(0,s),(1,Vq a),(2,Vq b),(5,vi n)]<|aC<|ar 5<|eT 2 [5] [(6,vi n)]<|o0 0<|have⟨ab,m21,i10,i11⟩:=h;bJ (x:=zL) (σ:=Int) (λs_=> [(0,s),(1,Vq a),(2,Vq b),(6,vi s_)]) (λs_ H=>ab s_ H) (λs_ H=>m21 s_ H) (n:Int) (by kernel_rfl) i10 sk ?_
   rintro i H3 i12
   have h:=i11 i H3 i12
   refine kT [(0,s),(1,Vq a),(2,Vq b),(6,vi i)]<|ge<|ar 6<|eH 1 [] [(21,vi i)]<|have⟨u,q13,h⟩:=h;hH 22 23 q13 []<|have⟨aa,q14,h⟩:=h;hH 23 28 q14 []<|sa 24 [22,23] h λt H4 h=>eT 1 [21,24] [(25,.bool (decide (i<t)))]<|qx h (λc15 h=>?_) (λc15 h=>?_)
   ·refine aJ 25 (zX c15)<|kd<|ge<|o0 1<|ge ?_
    obtain⟨af,q17,j,rfl,ac,q18,g,rfl,ae,q19,k,rfl,f,q20,p,q21,hc⟩:=h
    refine yq 8 (Code.ops AK) [(14,a,[Vq j]),(14,j,[Vq g]),(14,g,[Vq k]),(14,k,[vp f]),(11,b,[vu p])] 20 (bv 20 0) (show aE _ _ _ from⟨⟨q17,trivial⟩,⟨q18,trivial⟩,⟨q19,trivial⟩,⟨q20,trivial⟩,⟨q21,trivial⟩,trivial⟩)<|zh 0 (some 29) (Vq j) (bv 20 1) [(0,s),(1,Vq a),(2,Vq b),(6,vi i),(29,Vq j)] (aQ 23 (Vq a)) (yY 14 yX)<|aG 1 30 (Vq j) (bv 20 3) [29]<|aG 2 31 (Vq j) (bv 20 7) [30]<|nc 3 32 (Vq g) (bv 20 15) [31] (aQ 49 (Vq j)) (yY 14 yQ)<|aG 4 33 (Vq g) (bv 20 31) [32]<|aG 5 34 (Vq g) (bv 20 63) [33]<|nc 6 35 (Vq k) (bv 20 127) [34] (aQ 52 (Vq g)) (yY 14 yJ)<|aG 7 36 (Vq k) (bv 20 255) [35]<|aG 8 37 (Vq k) (bv 20 511) [36]<|nc 9 38 (vp f) (bv 20 1023) [37] (aQ 78 (Vq k)) (yY 14 yK)<|nc 10 39 (vu p) (bv 20 2047) [] (aQ 28 (Vq b)) (yY 11 yV)<|aG 12 41 (vi i) (bv 20 6143) []<|yx 11 (some 40) (bv 20 8191) 116 #[vu p] hc ?_;clear hc
    rintro ah H5 ⟨o,rfl,f22,f23,f24,f25,h⟩
    refine⟨[(0,s),(1,Vq a),(2,Vq b),(6,vi i),(38,vp f),(40,vi o),(41,vi i)],pk,(show aE _ _ _ from⟨f22,f23,f24,f25,trivial,trivial⟩),?_⟩
    refine zh 13 (some 42) (vi (zY (o+i))) (bv 20 16383) [(0,s),(1,Vq a),(2,Vq b),(6,vi i),(38,vp f),(42,vi (zY (o+i)))] (pure (.value (vi (zY (o+i)))):Sem Next) (λ_ _ _ _ _=>rfl)<|yx 14 (some 43) (bv 20 32767) 33 #[vp f,vi (zY (o+i))] h ?_;clear h
    rintro ak H6 ⟨ra,rb,rfl,h⟩
    refine⟨[(0,s),(1,Vq a),(2,Vq b),(6,vi i),(43,.tuple #[vu ra,vi rb])],pk,(show aE _ _ _ from⟨trivial,trivial,trivial,trivial,trivial,trivial⟩),?_⟩
    refine zh 15 (some 28) (.tuple #[vu ra,vi rb]) (bv 20 65535) [(0,s),(1,Vq a),(2,Vq b),(6,vi i),(28,.tuple #[vu ra,vi rb])] (pure (.value (.tuple #[vu ra,vi rb])):Sem Next) (λ_ _ _ _ _=>rfl)<|nc 16 44 (vu ra) (bv 20 131071) [] (pure (.value (vu ra)):Sem Next) (λ_ _ _ _ _=>rfl)<|nc 17 45 (vi rb) (bv 20 262143) [28] (pure (.value (vi rb)):Sem Next) (λ_ _ _ _ _=>rfl)<|nc 18 7 (vu ra) (bv 20 524287) [44] (pure (.value (vu ra)):Sem Next) (λ_ _ _ _ _=>rfl)<|Cg 19 (some 8) (vi rb) (bv 20 1048575) [45] [] (pure (.value (vi rb)):Sem Next) (λ_ _ _ _ _=>rfl)<|eP [(0,s),(1,Vq a),(2,Vq b),(6,vi i),(7,vu ra)] sk<|yz<|aC<|ar 9<|u8 1 [(0,s),(1,Vq a),(2,Vq b),(6,vi i),(7,vu ra),(46,s)] ?_
    obtain⟨y,q26,h⟩:=h
    refine hH 47 28 q26 []<|sa 48 [47] h λq H7 h=>eH 3 [7,48] [(50,vi (zY (q+i))),(51,vu ra)]<|mR (some 52) s #[vi (zY (q+i)),vu ra] (λ_=>by kernel_rfl) h ?_;clear h
    rintro ai H8 ⟨m,rfl,h⟩
    refine kb [46,50,51] [(52,.bool m)]<|eT 1 [52] [(53,.bool (!m))]<|qx h (λc27 h=>?_) (λc27 h=>?_)
    ·exact aK 53 (congrArg Bool.not (c27))<|yR<|aA<|aC<|nx 7<|eT 3 [6,53] [(6,vi (zY (i+1)))]<|aR ((zY (i+1)):Int) sk h
    exact aJ 53 (congrArg Bool.not (zZ c27))<|iV [] [] hQ h
   exact aK 25 (zQ c15)<|zk 0<|aB<|aB<|aN<|gF (fn:=f138) [] hQ (show bS _ _ _ [] _ from .nil) h
  revert h;refine AV (λc29 h=>?_) (λc29 h=>?_)
  ·have b30:(decide (e>0))=true:=zX c29
   refine iP [(0,s),(1,Vq a),(2,Vq b),(5,vi 0),(19,VT)] (by simp only[b30,Bool.not_true,Bool.not_false]) ?_
   clear b30
   exact wc 19<|nx 4<|eT 1 [5,19] [(5,vi 1)]<|lV (1:Int) sk h
  have b30:(decide (e>0))=false:=zQ c29
  refine iP [(0,s),(1,Vq a),(2,Vq b),(5,vi 0),(19,VF)] (by simp only[b30,Bool.not_true,Bool.not_false]) ?_
  clear b30
  exact yn 19<|kd<|lV (0:Int) sk h
 refine λhk=>u8 3 [(0,s),(1,Vq a),(2,Vq b),(4,vi e),(14,.bool (e==2))] ?_
 by_cases c3:e=2
 ·have b4:(e==2)=true:=zK c3
  exact bW [(0,s),(1,Vq a),(2,Vq b),(4,vi e),(14,VT)] (by rw[b4])<|eH 3 [14] [(17,VT)]<|zq<|vb 17 (b:=true) (v:=((e==2) || (e==3))) (by simp only[b4,BL])<|hk
 have b4:(e==2)=false:=zJ c3
 exact bW [(0,s),(1,Vq a),(2,Vq b),(4,vi e),(14,VF)] (by rw[b4])<|eH 3 [14] [(17,.bool (e==3))]<|zq<|vb 17 (b:=(e==3)) (v:=((e==2) || (e==3))) (by simp only[b4,BL])<|hk
def cX.K0:=Func.code f81
def cX.pt(a i:Int)(H:zV)(R:zv):Prop:=
 (0<=(Int.tmod i 32))/\
 R (.bool ((yj .u32 (yH .u32 a (Int.tmod i 32)) 1)==1)) H
set_option maxRecDepth 100000 in
theorem cX.link(h:pt i j H R):C i j H R:=by
 refine p0 K0 11 func81 ?_
 intro w0 Q hQ
 unfold pt at h
 exact kT [(0,.int .u32 i),(1,vi j)]<|ar 0<|eT 1 [] []<|ar 1<|u8 3 [(5,.int .u32 i),(7,vi (Int.tmod j 32))]<|have⟨q1,h⟩:=h;yI 8 (zU .shr 60 (.int .u32 i) (vi (Int.tmod j 32))) (.int .u32 (yH .u32 i (Int.tmod j 32))) (λw _=>uj (P:=prog) (t:=60) (k:=.u32) (k':=.i64) (x:=i) (y:=(Int.tmod j 32)) q1 w) [5,7]<|hV 3 [4] [.bool ((yj .u32 (yH .u32 i (Int.tmod j 32)) 1)==1)] hQ h
namespace dP
def K0:=Func.code f35
def K2:=cb K0
def K4:=cb K2
def zd:=cb K4
def Ad:=ca zd
def Ap:=cb Ad
def zC:=ca Ap
def zT:=ca zC
def zL:=cb zT
def Ax:=ca zL
def Ag:=ca Ax
def Am:=cb Ag
def zI:=cb Am
def AB:=ca zI
def zN:=ca AB
end dP
def dP.pt(lB:zW)(lN lC:Nat)(H:zV)(R:zv):Prop:=
 if(lN:Int)>12 then(
 R VT H)
 else
 ∃(z:Int->zw) (m19:Int->Int->zV->Nat),z 0 0 H/\ ∀nv i H1,z nv i H1->
 if i< (lN:Int)then(
 ∃b,lB=some b/\
 yZ i lN/\
 ∃xB xN xC,hat H1 ((b.add (Int.toNat i*6)).add 1)=some (vs xB xN xC)/\
 yZ i lN/\
 ∃u f r,hat H1 ((b.add (Int.toNat i*6)).add 2)=some (vs u f r)/\
 ∃(y:Int->zw) (m34:Int->Int->zV->Nat),y (zY (nv+(zY ((xN:Int)+(f:Int))))) 0 H1/\ ∀d k H2,y d k H2->
 yZ i lN/\
 ∃v e p,hat H2 (b.add (Int.toNat i*6))=some (vs v e p)/\
 if((decide (k< (e:Int))) && (decide (d<=400)))=true then(
 yZ i lN/\
 ∃o m n,hat H2 (b.add (Int.toNat i*6))=some (vs o m n)/\
 ∃g,o=some g/\
 yZ k m/\
 ∃q j s,hat H2 ((g.add (Int.toNat k*8)).add 7)=some (vs q j s)/\
 (y (zY (d+(zY (1+(zY (Int.tdiv (j:Int) 8)))))) (zY (k+1)) H2/\m34 (zY (d+(zY (1+(zY (Int.tdiv (j:Int) 8)))))) (zY (k+1)) H2<m34 d k H2))
 else
 (z d (zY (i+1)) H2/\m19 d (zY (i+1)) H2<m19 nv i H1))
 else
 R (.bool (decide (nv>400))) H1
set_option maxRecDepth 100000 in
theorem dP.link(h:pt d k o H R):C d k o H R:=by
 refine p0 K0 60 func35 ?_
 intro w0 Q hQ
 unfold pt zY at h
 refine kT [(0,vs d k o)]<|ar 0<|eT 1 [] []<|ge<|ar 1<|eT 3 [] [(8,.bool (decide ((k:Int)>12)))]<|qx h (λc1 h=>?_) (λc1 h=>?_)
 ·exact aJ 8 (zX c1)<|ar 2<|hV 1 [2] [VT] hQ h
 refine aK 8 (zQ c1)<|kd<|ar 3<|eT 1 [8] [(3,vi 0)]<|ge<|ar 4<|eT 1 [] [(4,vi 0)]<|o0 0<|have⟨z,m19,i3,i4⟩:=h;bJ (x:=zT) (σ:=Int×Int) (λs_=> [(0,vs d k o),(3,vi s_.1),(4,vi s_.2)]) (λs_ H=>z s_.1 s_.2 H) (λs_ H=>m19 s_.1 s_.2 H) ((0,0):Int×Int) (by kernel_rfl) i3 sk ?_
 rintro⟨nv,i⟩ H1 i5
 have h:=i4 nv i H1 i5
 refine kT [(0,vs d k o),(3,vi nv),(4,vi i)]<|ge<|ar 5<|eT 4 [] [(12,.bool (decide (i< (k:Int))))]<|qx h (λc6 h=>?_) (λc6 h=>?_)
 ·refine aJ 12 (zX c6)<|kd<|ge<|o0 1<|ge<|qG 7<|u3 15 (vi nv) [3,12]<|u3 16 (vs d k o) []<|u3 17 (vi i) [] ?_
  obtain⟨b,rfl,q8,ha⟩:=h
  refine Ai (some 18) (bD 85 (vs (some b) k o) (vi i)) (vp (some (b.add (Int.toNat i*6)))) (λ_=>by kernel_rfl) (λw _=>dX (P:=prog) (t:=85) (elem:=141) (sz:=6) (a:=b) (len:=k) (cap:=o) (k:=.i64) (i:=i) underlying85 (λ_=>by kernel_rfl) q8.1 q8.2 w) [(0,vs (some b) k o),(4,vi i),(15,vi nv),(18,vp (some (b.add (Int.toNat i*6))))] pk<|BE (some 19) (Vq ((b.add (Int.toNat i*6)).add 1)) [(0,vs (some b) k o),(4,vi i),(15,vi nv),(19,Vq ((b.add (Int.toNat i*6)).add 1))]<|have⟨xB,xN,xC,q9,h⟩:=ha;m7 (some 20) 59 q9 [19] [(20,vs xB xN xC)]<|u3 21 (vi xN) [20]<|u3 22 (vs (some b) k o) []<|u3 23 (vi i) []<|have⟨q10,h⟩:=h;Ai (some 24) (bD 85 (vs (some b) k o) (vi i)) (vp (some (b.add (Int.toNat i*6)))) (λ_=>by kernel_rfl) (λw _=>dX (P:=prog) (t:=85) (elem:=141) (sz:=6) (a:=b) (len:=k) (cap:=o) (k:=.i64) (i:=i) underlying85 (λ_=>by kernel_rfl) q10.1 q10.2 w) [(0,vs (some b) k o),(4,vi i),(15,vi nv),(21,vi xN),(24,vp (some (b.add (Int.toNat i*6))))] pk<|BE (some 25) (Vq ((b.add (Int.toNat i*6)).add 2)) [(0,vs (some b) k o),(4,vi i),(15,vi nv),(21,vi xN),(25,Vq ((b.add (Int.toNat i*6)).add 2))]<|have⟨u,f,r,q11,h⟩:=h;m7 (some 26) 66 q11 [25] [(26,vs u f r)]<|u3 27 (vi f) [26]<|u3 28 (vi (zY ((xN:Int)+(f:Int)))) [21,27]<|u3 29 (vi (zY (nv+(zY ((xN:Int)+(f:Int)))))) [15,28]<|u3 3 (vi (zY (nv+(zY ((xN:Int)+(f:Int)))))) [29]<|mW [(0,vs (some b) k o),(3,vi (zY (nv+(zY ((xN:Int)+(f:Int)))))),(4,vi i)] sk<|Al<|ar 8<|u5 1 [(0,vs (some b) k o),(3,vi (zY (nv+(zY ((xN:Int)+(f:Int)))))),(4,vi i),(5,vi 0)]<|o0 2<|have⟨y,m34,i12,i13⟩:=h;bJ (x:=zN) (σ:=Int×Int) (λs_=> [(0,vs (some b) k o),(3,vi s_.1),(4,vi i),(5,vi s_.2)]) (λs_ H=>y s_.1 s_.2 H) (λs_ H=>m34 s_.1 s_.2 H) (((zY (nv+(zY ((xN:Int)+(f:Int))))),0):Int×Int) (by kernel_rfl) i12 sk ?_
  rintro⟨lC,lN⟩ H2 i14
  have h:=i13 lC lN H2 i14
  refine kT [(0,vs (some b) k o),(3,vi lC),(4,vi i),(5,vi lN)]<|ge<|ar 9<|eH 3 [] [(30,vi lN),(31,vs (some b) k o),(32,vi i)]<|have⟨q15,h⟩:=h;yp (some 33) 85 141 6 b k o .i64 i underlying85 q15.1 q15.2 [31,32] [(33,Vq (b.add (Int.toNat i*6)))]<|eH 1 [33] [(34,Vq (b.add (Int.toNat i*6)))]<|have⟨v,e,p,q16,h⟩:=h;hH 35 58 q16 [34]<|eH 3 [30,35] [(38,.bool (decide (lN< (e:Int))))]<|iX [(0,vs (some b) k o),(3,vi lC),(4,vi i),(5,vi lN),(41,.bool ((decide (lN< (e:Int))) && (decide (lC<=400))))] ?_ ?_
  ·refine aC<|qx h (λc19 h=>?_) (λc19 h=>?_)
   ·refine aJ 41 c19<|kd<|ge<|o0 3<|nx 11<|u8 3 [(0,vs (some b) k o),(4,vi i),(5,vi lN),(44,vi lC),(45,vs (some b) k o),(46,vi i)]<|have⟨q21,h⟩:=h;yp (some 47) 85 141 6 b k o .i64 i underlying85 q21.1 q21.2 [45,46] [(47,Vq (b.add (Int.toNat i*6)))]<|eH 1 [47] [(48,Vq (b.add (Int.toNat i*6)))]<|have⟨lB,m,n,q22,h⟩:=h;hH 49 58 q22 [48]<|eH 1 [] [(50,vi lN)] ?_
    obtain⟨g,rfl,q23,hb⟩:=h
    exact yp (some 51) 58 68 8 g m n .i64 lN underlying58 q23.1 q23.2 [49,50] [(51,Vq (g.add (Int.toNat lN*8)))]<|eH 1 [51] [(52,Vq ((g.add (Int.toNat lN*8)).add 7))]<|have⟨q,j,s,q24,h⟩:=hb;hH 53 66 q24 [52]<|eH 5 [44,53] [(3,vi (zY (lC+(zY (1+(zY (Int.tdiv (j:Int) 8)))))))]<|zq<|aA<|aC<|nx 10<|eT 3 [5] [(5,vi (zY (lN+1)))]<|aR (((zY (lC+(zY (1+(zY (Int.tdiv (j:Int) 8)))))),(zY (lN+1))):Int×Int) sk h
   exact aK 41 (zZ c19)<|zk 2<|aB<|aB<|aN<|aA<|aC<|nx 6<|u5 3 [(0,vs (some b) k o),(3,vi lC),(4,vi (zY (i+1)))]<|aR ((lC,(zY (i+1))):Int×Int) sk h
  refine λhk=>Ab [(0,vs (some b) k o),(3,vi lC),(4,vi i),(5,vi lN),(38,.bool (decide (lN< (e:Int))))] ?_
  by_cases c17:lN< (e:Int)
  ·have b18:(decide (lN< (e:Int)))=true:=zX c17
   exact bW [(0,vs (some b) k o),(3,vi lC),(4,vi i),(5,vi lN),(38,VT)] (by rw[b18])<|eH 3 [38] [(41,.bool (decide (lC<=400)))]<|zq<|vb 41 (b:=(decide (lC<=400))) (v:=((decide (lN< (e:Int))) && (decide (lC<=400)))) (by simp only[b18,BL])<|hk
  have b18:(decide (lN< (e:Int)))=false:=zQ c17
  exact bW [(0,vs (some b) k o),(3,vi lC),(4,vi i),(5,vi lN),(38,VF)] (by rw[b18])<|eH 3 [38] [(41,VF)]<|zq<|vb 41 (b:=false) (v:=((decide (lN< (e:Int))) && (decide (lC<=400)))) (by simp only[b18,BL])<|hk
 exact aK 12 (zQ c6)<|zk 0<|aB<|aB<|aN<|aC<|ar 12<|hV 3 [2] [.bool (decide (nv>400))] hQ h
def bZ.K0:=Func.code f36
def bZ.pt(H:zV)(R:zv):Prop:=
 kY.C 8 H (λv H1=> ∃ra rb,v=.tuple #[vp ra,vi rb]/\
 if rb=0 then(
 fE ra (
 R VF H1) (λj=>
 fN.C (some j) 8 20 H1 (λav H2=> ∃o aq,av=.tuple #[vu o,vi aq]/\
 fO.C (some j) o 20 H2 (λax H3=> ∃g au,ax=.tuple #[vu g,vi au]/\
 gR.C (some j) H3 (λa3 H4=> ∃xB xN xC,a3=vs xB xN xC/\
 ∀b H5,b=H4.size->H5=H4.push (.cells #[vu o,vu g] 28)->
 fG.C (some j) (some (ad b)) 2 2 H5 (λa0 H6=> ∃q p,a0=.tuple #[vi q,vi p]/\
 ∀aj H7,aj=H6.size->H7=H6.push (.cells #[vu g] 28)->
 fP.C (some j) (some (ad aj)) 1 1 H7 (λay H8=> ∃n d m,ay=vs n d m/\
 ∃x,hat H8 j=some (vp x)/\
 ∃xA,x=some xA/\
 ∃ao,hat H8 xA=some (vp ao)/\
 ∃ap,ao=some ap/\
 ∃ak,hat H8 ap=some (vp ak)/\
 bR.C ak 0 17 H8 (λa1 H9=> ∃a2,a1=vi a2/\
 fG.C (some j) none 0 0 H9 (λaw aa=> ∃e f,aw=.tuple #[vi e,vi f]/\
 if(xN:Int)=2 then(
 ∃s,xB=some s/\
 yZ 0 xN/\
 ∃ae,hat aa (s.add (Int.toNat 0*1))=some (vu ae)/\
 if ae=o then(
 yZ 1 xN/\
 ∃ac,hat aa (s.add (Int.toNat 1*1))=some (vu ac)/\
 if ac=g then(
 if q=0 then(
 if p=0 then(
 ∀al H11,al=aa.size->H11=aa.push (.cells #[vu g] 28)->
 iR.C (some j) (some (ad al)) 1 1 H11 (λaz ag=> ∃ah,az=vi ah/\
 if ah=2 then(
 if(d:Int)=2 then(
 ∃r,n=some r/\
 yZ 1 d/\
 ∃an y am,hat ag ((r.add (Int.toNat 1*5)).add 4)=some (vs an y am)/\
 if(y:Int)=2 then(
 yZ 1 d/\
 ∃ai ab af,hat ag ((r.add (Int.toNat 1*5)).add 4)=some (vs ai ab af)/\
 ∃z,ai=some z/\
 yZ 0 ab/\
 ∃u,hat ag (z.add (Int.toNat 0*1))=some (vi u)/\
 R (.bool (((u==(-1)) && (e==0)) && (f==18))) ag)
 else
 R VF ag)
 else
 R VF ag)
 else
 R VF ag))
 else
 R VF aa)
 else
 R VF aa)
 else
 R VF aa)
 else
 R VF aa)
 else
 R VF aa)))))))))
 else
 R VF H1)
set_option maxRecDepth 100000 in
theorem bZ.link(h:pt H R):C H R:=by
 refine p0 K0 126 func36 ?_
 intro w0 Q hQ
 unfold pt at h
 refine kT []<|ar 0<|u5 1 []<|ar 1<|zm 14 (λra rb=>[(14,.tuple #[vp ra,vi rb])]) h λra rb H1 h=>u5 5 [(1,vp ra),(2,vi rb)]<|ge<|ar 2<|eH 3 [2] [(19,.bool (rb !=0))]<|qx h (λc1 h=>?_) (λc1 h=>?_)
 ·refine oo 19 (bne_eq_false_iff_eq.mpr c1)<|eH 1 [] [(20,vp ra)] ?_
  rcases ra with _ | j
  ·rw[onPtr_none]at h
   exact u5 2 [(1,vp none),(22,VT)]<|wc 22<|ar 3<|hV 1 [0] [VF] hQ h
  rw[onPtr_some]at h
  refine u5 2 [(1,Vq j),(22,VF)]<|yn 22<|kd<|ar 4<|eH 1 [22] [(24,Vq j)]<|yD 25 [24] h λo aq H2 h=>eT 5 [25] [(3,vu o)]<|ar 5<|eH 2 [] [(29,Vq j),(30,vu o)]<|yD 31 [29,30] h λg au H3 h=>eT 5 [31] [(5,vu g)]<|ar 6<|eH 1 [] [(34,Vq j)]<|zt 35 [34] h λxB xN xC H4 h=>eT 1 [35] [(7,vs xB xN xC)]<|ar 7<|eH 3 [] [(37,Vq j),(38,vu o),(39,vu g)]<|sv (some 40) (λb=>vs (pa b) 2 2) (.cells #[vu o,vu g] 28)<|λb H5 e3 e4=>have h:=h b H5 e3 e4;kb [38,39] [(40,vs (pa b) 2 2)]<|yD 41 [37,40] h λq p H6 h=>eT 5 [41] [(8,vi q),(9,vi p)]<|ar 8<|eH 2 [] [(44,Vq j),(45,vu g)]<|sv (some 46) (λb=>vs (pa b) 1 1) (.cells #[vu g] 28)<|λaj H7 e5 e6=>have h:=h aj H7 e5 e6;kb [45] [(46,vs (pa aj) 1 1)]<|zt 47 [44,46] h λn d m H8 h=>eT 1 [47] [(10,vs n d m)]<|ar 9<|eH 3 [] [(50,Vq j)]<|have⟨x,q7,h⟩:=h;hH 51 49 q7 [50] ?_
  obtain⟨xA,rfl,ha⟩:=h
  refine eH 2 [51] [(53,Vq xA)]<|have⟨ao,q8,h⟩:=ha;hH 54 52 q8 [53] ?_
  obtain⟨ap,rfl,hb⟩:=h
  refine eH 2 [54] [(56,Vq ap)] ?_
  obtain⟨ak,q9,h⟩:=hb
  refine hH 57 78 q9 [56]<|zf (some 58) h ?_;clear h
  rintro a1 H9 ⟨a2,rfl,h⟩
  refine kb [57] []<|ym<|ar 10<|eH 1 [] [(60,Vq j)]<|yD 61 [60] h λe f aa h=>eT 5 [61] [(11,vi e),(12,vi f)]<|ar 11<|eH 4 [] [(67,.bool ((xN:Int)==2))]<|qx h (λc10 h=>?_) (λc10 h=>?_)
  ·refine oo 67 (zK c10)<|eH 1 [] [(68,vs xB xN xC)] ?_
   obtain⟨s,rfl,q12,hc⟩:=h
   refine yp (some 69) 32 28 1 s xN xC .i64 0 underlying32 q12.1 q12.2 [7,68] [(7,vs (some s) xN xC),(69,Vq (s.add (Int.toNat 0*1)))]<|have⟨ae,q13,h⟩:=hc;hH 70 28 q13 [69]<|eH 4 [3,67,70] [(74,.bool (ae==o))]<|qx h (λc14 h=>?_) (λc14 h=>?_)
   ·refine oo 74 (zK c14)<|eH 1 [7] [(75,vs (some s) xN xC)]<|have⟨q16,h⟩:=h;yp (some 76) 32 28 1 s xN xC .i64 1 underlying32 q16.1 q16.2 [75] [(76,Vq (s.add (Int.toNat 1*1)))]<|have⟨ac,q17,h⟩:=h;hH 77 28 q17 [76]<|eH 4 [74,77] [(81,.bool (ac==g))]<|qx h (λc18 h=>?_) (λc18 h=>?_)
    ·refine oo 81 (zK c18)<|eH 4 [8,81] [(85,.bool (q==0))]<|qx h (λc20 h=>?_) (λc20 h=>?_)
     ·refine oo 85 (zK c20)<|eH 4 [9,85] [(89,.bool (p==0))]<|qx h (λc22 h=>?_) (λc22 h=>?_)
      ·refine oo 89 (zK c22)<|eH 2 [1,5] [(90,Vq j),(91,vu g)]<|sv (some 92) (λb=>vs (pa b) 1 1) (.cells #[vu g] 28)<|λal H11 e24 e25=>have h:=h al H11 e24 e25;kb [91] [(92,vs (pa al) 1 1)]<|sa 93 [90,92] h λah ag h=>eH 3 [89,93] [(96,.bool (ah==2))]<|qx h (λc26 h=>?_) (λc26 h=>?_)
       ·refine oo 96 (zK c26)<|eH 5 [96] [(101,.bool ((d:Int)==2))]<|qx h (λc28 h=>?_) (λc28 h=>?_)
        ·refine oo 101 (zK c28)<|eH 1 [] [(102,vs n d m)] ?_
         obtain⟨r,rfl,q30,hd⟩:=h
         refine yp (some 103) 144 147 5 r d m .i64 1 underlying144 q30.1 q30.2 [10,102] [(10,vs (some r) d m),(103,Vq (r.add (Int.toNat 1*5)))]<|eH 1 [103] [(104,Vq ((r.add (Int.toNat 1*5)).add 4))]<|have⟨an,y,am,q31,h⟩:=hd;hH 105 75 q31 [104]<|eH 4 [101,105] [(109,.bool ((y:Int)==2))]<|qx h (λc32 h=>?_) (λc32 h=>?_)
         ·refine oo 109 (zK c32)<|eH 1 [10] [(110,vs (some r) d m)]<|have⟨q34,h⟩:=h;yp (some 111) 144 147 5 r d m .i64 1 underlying144 q34.1 q34.2 [110] [(111,Vq (r.add (Int.toNat 1*5)))]<|eH 1 [111] [(112,Vq ((r.add (Int.toNat 1*5)).add 4))]<|have⟨ai,ab,af,q35,h⟩:=h;hH 113 75 q35 [112] ?_
          obtain⟨z,rfl,q36,he⟩:=h
          refine yp (some 114) 75 3 1 z ab af .i64 0 underlying75 q36.1 q36.2 [113] [(114,Vq (z.add (Int.toNat 0*1)))]<|have⟨u,q37,h⟩:=he;hH 115 3 q37 [114]<|eH 3 [109,115] [(118,.bool (u==(-1)))]<|iX [(0,.bool (((u==(-1)) && (e==0)) && (f==18)))] ?_ ?_
          ·exact aC<|iV [0] [.bool (((u==(-1)) && (e==0)) && (f==18))] hQ h
          refine λhk=>Ab [(11,vi e),(12,vi f),(118,.bool (u==(-1)))] ?_
          by_cases c38:u=(-1)
          ·have b39:(u==(-1))=true:=zK c38
           refine bW [(11,vi e),(12,vi f),(118,VT)] (by rw[b39])<|u8 4 [(12,vi f),(122,.bool (e==0))] ?_
           by_cases c40:e=0
           ·have b41:(e==0)=true:=zK c40
            exact bW [(12,vi f),(122,VT)] (by rw[b41])<|u8 4 [(0,.bool (f==18))]<|zq<|iP [(0,.bool (((u==(-1)) && (e==0)) && (f==18)))] (by simp only[b39,b41,BL])<|hk
           have b41:(e==0)=false:=zJ c40
           exact bW [(12,vi f),(122,VF)] (by rw[b41])<|u8 4 [(0,VF)]<|zq<|iP [(0,.bool (((u==(-1)) && (e==0)) && (f==18)))] (by simp only[b39,b41,BL])<|hk
          have b39:(u==(-1))=false:=zJ c38
          exact bW [(11,vi e),(12,vi f),(118,VF)] (by rw[b39])<|u8 8 [(0,VF)]<|zq<|iP [(0,.bool (((u==(-1)) && (e==0)) && (f==18)))] (by simp only[b39,BL])<|hk
         exact oo 109 (zJ c32)<|hV 17 [0] [VF] hQ h
        exact oo 101 (zJ c28)<|hV 25 [0] [VF] hQ h
       exact oo 96 (zJ c26)<|hV 30 [0] [VF] hQ h
      exact oo 89 (zJ c22)<|hV 37 [0] [VF] hQ h
     exact oo 85 (zJ c20)<|hV 41 [0] [VF] hQ h
    exact oo 81 (zJ c18)<|hV 45 [0] [VF] hQ h
   exact oo 74 (zJ c14)<|hV 52 [0] [VF] hQ h
  exact oo 67 (zJ c10)<|hV 59 [0] [VF] hQ h
 exact oo 19 (bne_iff_ne.mpr c1)<|eT 3 [19] [(22,VT)]<|wc 22<|ar 3<|hV 1 [0] [VF] hQ h
namespace dQ
def K0:=Func.code f37
def K2:=cb K0
def K4:=cb K2
def K6:=cb K4
def zd:=cb K6
def zL:=cb zd
def AC:=ca zL
def AU:=cb AC
def Ax:=ca AU
def Aw:=ca Ax
def Bc:=cb Aw
def zN:=ca Bc
def AD:=ca zN
def Be:=cb AD
def AR:=ca Be
def BD:=cb Be
def AJ:=cb AR
def Ao:=ca AJ
def As:=ca Ao
def K53:=ca BD
def BA:=cb BD
def BT:=cb K53
def Cm:=ca BT
def K58:=ca Cm
def BK:=cb K58
def K65:=ca BK
def Cr:=ca K65
def Bm:=ca BA
def BP:=cb BA
def BR:=cb Bm
def BX:=ca BR
def BC:=ca BX
def Ci:=cb BC
def K80:=ca Ci
def K82:=ca K80
def K84:=cb BP
def K92:=cb K84
def K93:=ca K92
def K94:=cb K92
def K96:=cb K93
def K97:=ca K96
def K98:=ca K97
def BW:=cb K98
def Cl:=ca BW
def Cp:=ca Cl
def Cq:=ca Cp
def BJ:=cb K94
def Cb:=ca BJ
def B7:=cb BJ
def Cj:=cb Cb
def B6:=ca Cj
def Ca:=ca B6
def B4:=cb B7
def B5:=cb B4
def BZ:=ca B5
end dQ
def dQ.pt(a4:Int)(lB:zW)(lN lC:Nat)(H:zV)(R:zv):Prop:=
 kY.C a4 H (λv H1=> ∃ra rb,v=.tuple #[vp ra,vi rb]/\
 if rb=0 then(
 fE ra (
 R (.tuple #[vp none,VN,VF]) H1) (λd=>
 ∃(c8:zW->Nat->Nat->zw) (m27:zW->Nat->Nat->Int->zV->Nat),c8 none 0 0 0 H1/\ ∀y madeN madeC i H2,c8 y madeN madeC i H2->
 if i< (lN:Int)then(
 ∃f,lB=some f/\
 yZ i lN/\
 ∃au ao aq ak ah aj aa z ab xG ai ax,aM H2 (f.add (Int.toNat i*6)) 0 [vs au ao aq,vs ak ah aj,vs aa z ab,vi xG,vi ai,.int .u32 ax]/\
 ∀b H3,b=H2.size->H3=H2.push (.cells #[VN,VN,VN,vi 0,vi 0,.int .u32 0] 141)->
 (aH H3 (ad b) 0 6)/\ ∀H4,H4=aP H3 (ad b) [vs au ao aq,vs ak ah aj,vs aa z ab,vi xG,vi ai,.int .u32 ax] 0->
 ∃(c3:zW->Nat->Nat->zw) (m44:zW->Nat->Nat->Int->zV->Nat),c3 y madeN madeC 0 H4/\ ∀e madeN_2 madeC_2 k H5,c3 e madeN_2 madeC_2 k H5->
 ∃xB xN xC,hat H5 (ad b)=some (vs xB xN xC)/\
 if k< (xN:Int)then(
 ∃b8 bk b0,hat H5 (ad b)=some (vs b8 bk b0)/\
 ∃bp,b8=some bp/\
 yZ k bk/\
 ∃cj bb bw ch bu cl bz ci cn cg,aM H5 (bp.add (Int.toNat k*8)) 0 [vi cj,vi bb,vi bw,vu ch,vi bu,vu cl,vi bz,vs ci cn cg]/\
 cV.C (some d) cj bb bw ch bu cl bz ci cn cg e madeN_2 madeC_2 H5 (λdy H6=> ∃bt bl bo,dy=vs bt bl bo/\
 (c3 bt bl bo (zY (k+1)) H6/\m44 bt bl bo (zY (k+1)) H6<m44 e madeN_2 madeC_2 k H5)))
 else
 ∃(c9:zw) (m59:Int->zV->Nat),c9 0 H5/\ ∀m H7,c9 m H7->
 ∃cy am cx,hat H7 ((ad b).add 1)=some (vs cy am cx)/\
 if((decide (m< (am:Int))) && (decide ((madeN_2:Int)>0)))=true then(
 ∃r o s,hat H7 (d.add 2)=some (vs r o s)/\
 ∃dc a9 bm,hat H7 ((ad b).add 1)=some (vs dc a9 bm)/\
 ∃an,dc=some an/\
 yZ m a9/\
 ∃xW a0,aM H7 (an.add (Int.toNat m*4)) 0 [vu xW,vi a0]/\
 ∃de a6 be,hat H7 ((ad b).add 1)=some (vs de a6 be)/\
 ∃ac,de=some ac/\
 yZ m a6/\
 ∃a5 av,aM H7 ((ac.add (Int.toNat m*4)).add 2) 0 [vu a5,vi av]/\
 bB.C xW a0 e madeN_2 madeC_2 H7 (λd1 H8=> ∃x,d1=vu x/\aM H8 (d.add 2) 0 [vs r o s]/\aM H8 ((ad b).add 1) 0 [vs (some ac) a6 be]/\aM H8 ((ac.add (Int.toNat m*4)).add 2) 0 [vu a5,vi av]/\
 bB.C a5 av e madeN_2 madeC_2 H8 (λd2 H9=> ∃cc,d2=vu cc/\aM H9 (d.add 2) 0 [vs r o s]/\
 ∀cs H10,cs=H9.size->H10=H9.push (.cells #[vu x,vu cc] 36)->aM H10 (d.add 2) 0 [vs r o s]/\
 bI 2 36 16 [vu 0,vu 0] r o s (some (ad cs)) 1 H10 (λap cd df=>
 (aH df (d.add 2) 0 1)/\ ∀c0,c0=aP df (d.add 2) [vs ap (o+1) cd] 0->
 (c9 (zY (m+1)) c0/\m59 (zY (m+1)) c0<m59 m H7)))))
 else
 ∃(c7:zw) (m74:Int->zV->Nat),c7 0 H7/\ ∀n H13,c7 n H13->
 ∃cv bd cz,hat H13 ((ad b).add 2)=some (vs cv bd cz)/\
 if n< (bd:Int)then(
 ∃af q ae,hat H13 (d.add 1)=some (vs af q ae)/\
 ∃cw ay a1,hat H13 ((ad b).add 2)=some (vs cw ay a1)/\
 ∃ag,cw=some ag/\
 yZ n ay/\
 ∃bq a2,aM H13 (ag.add (Int.toNat n*2)) 0 [vu bq,vi a2]/\
 bB.C bq a2 e madeN_2 madeC_2 H13 (λdw dh=> ∃c5,dw=vu c5/\aM dh (d.add 1) 0 [vs af q ae]/\
 ∀cq H15,cq=dh.size->H15=dh.push (.cells #[vu c5] 28)->aM H15 (d.add 1) 0 [vs af q ae]/\
 bI 1 28 8 [vu 0] af q ae (some (ad cq)) 1 H15 (λbs a3 dj=>
 (aH dj (d.add 1) 0 1)/\ ∀c4,c4=aP dj (d.add 1) [vs bs (q+1) a3] 0->
 (c7 (zY (n+1)) c4/\m74 (zY (n+1)) c4<m74 n H13))))
 else
 fG.C (some d) e madeN_2 madeC_2 H13 (λdv dk=> ∃dd bc,dv=.tuple #[vi dd,vi bc]/\
 if bc=0 then(
 ∃(b9:zW->Nat->Nat->zw) (m99:zW->Nat->Nat->Int->zV->Nat),b9 none 0 0 0 dk/\ ∀rB rN rC k_4 H19,b9 rB rN rC k_4 H19->
 if k_4< (madeN_2:Int)then(
 ∃bn,hat H19 d=some (vp bn)/\
 ∃g,e=some g/\
 yZ k_4 madeN_2/\
 ∃cm,hat H19 (g.add (Int.toNat k_4*1))=some (vu cm)/\
 dY.C bn cm H19 (λdx dl=> ∃p u,dx=.tuple #[vi p,.bool u]/\
 ∃ck,hat dl ((ad b).add 5)=some (.int .u32 ck)/\
 cX.C ck k_4 dl (λdz bj=> ∃ce,dz=.bool ce/\
 if ce=true then(
 yZ k_4 madeN_2/\
 ∃cr,hat bj (g.add (Int.toNat k_4*1))=some (vu cr)/\
 ∀ct H22,ct=bj.size->H22=bj.push (.cells #[vu cr] 28)->
 bI 1 28 8 [vu 0] rB rN rC (some (ad ct)) 1 H22 (λb4 bg dm=>
 (b9 b4 (rN+1) bg (zY (k_4+1)) dm/\m99 b4 (rN+1) bg (zY (k_4+1)) dm<m99 rB rN rC k_4 H19)))
 else
 if u=true then(
 ∃b5,hat bj ((ad b).add 3)=some (vi b5)/\
 if p>b5 then(
 yZ k_4 madeN_2/\
 ∃b6,hat bj (g.add (Int.toNat k_4*1))=some (vu b6)/\
 ∀cu H24,cu=bj.size->H24=bj.push (.cells #[vu b6] 28)->
 bI 1 28 8 [vu 0] rB rN rC (some (ad cu)) 1 H24 (λb3 a8 dt=>
 (b9 b3 (rN+1) a8 (zY (k_4+1)) dt/\m99 b3 (rN+1) a8 (zY (k_4+1)) dt<m99 rB rN rC k_4 H19)))
 else
 (b9 rB rN rC (zY (k_4+1)) bj/\m99 rB rN rC (zY (k_4+1)) bj<m99 rB rN rC k_4 H19))
 else
 (b9 rB rN rC (zY (k_4+1)) bj/\m99 rB rN rC (zY (k_4+1)) bj<m99 rB rN rC k_4 H19))))
 else
 ∃(co:zW->Nat->Nat->zw) (m122:zW->Nat->Nat->Int->zV->Nat),co none 0 0 0 H19/\ ∀pB pN pC k_5 H26,co pB pN pC k_5 H26->
 if k_5< (rN:Int)then(
 ∃a7,rB=some a7/\
 yZ k_5 rN/\
 ∀cp H27,cp=H26.size->H27=H26.push (.cells #[Vq (a7.add (Int.toNat k_5*1))] 91)->
 bI 1 91 8 [vp none] pB pN pC (some (ad cp)) 1 H27 (λb1 bi dn=>
 (co b1 (pN+1) bi (zY (k_5+1)) dn/\m122 b1 (pN+1) bi (zY (k_5+1)) dn<m122 pB pN pC k_5 H26)))
 else
 ∃bh,hat H26 ((ad b).add 3)=some (vi bh)/\
 ∃bx,hat H26 ((ad b).add 4)=some (vi bx)/\
 iQ.C (some d) bh bx pB pN pC H26 (λd0 dp=> ∃br,d0=vi br/\
 ∃J:zW->Nat->Nat->zV->Prop,(
 if br=0 then(
 J rB rN rC dp)
 else
 J e madeN_2 madeC_2 dp)/\ ∀j madeN_3 madeC_3 H30,J j madeN_3 madeC_3 H30->
 fG.C (some d) j madeN_3 madeC_3 H30 (λdu c2=> ∃db ba,du=.tuple #[vi db,vi ba]/\
 if ba=0 then(
 ∃da,hat c2 d=some (vp da)/\
 ∃al,da=some al/\
 ∃bf,hat c2 al=some (vp bf)/\
 iR.C (some d) j madeN_3 madeC_3 c2 (λdq di=> ∃aw,dq=vi aw/\aM di d 0 [Vq al]/\aM di al 0 [vp bf]/\
 dL.C bf none 0 0 di (λdr dg=> ∃az,dr=vi az/\
 if aw>az then(
 R (.tuple #[vp none,VN,VF]) dg)
 else
 (c8 j madeN_3 madeC_3 (zY (i+1)) dg/\m27 j madeN_3 madeC_3 (zY (i+1)) dg<m27 y madeN madeC i H2))))
 else
 R (.tuple #[vp none,VN,VF]) c2)))
 else
 R (.tuple #[vp none,VN,VF]) dk))
 else
 R (.tuple #[Vq d,vs y madeN madeC,VT]) H2))
 else
 R (.tuple #[vp none,VN,VT]) H1)
theorem dQ.link(h:pt i d k o H R):C i d k o H R:=by
 refine p0 K0 209 func37 ?_
 intro w0 Q hQ
 unfold pt zY at h
 refine kT [(0,vi i),(1,vs d k o)]<|ar 0<|eT 3 [] []<|ar 1<|eH 1 [0] [(26,vi i)]<|yD 27 [26] h λra rb H1 h=>eT 5 [27] [(7,vp ra),(8,vi rb)]<|ge<|ar 2<|eT 2 [8] [(31,.bool (rb !=0))]<|qx h (λc1 h=>?_) (λc1 h=>?_)
 ·refine aK 31 (bne_eq_false_iff_eq.mpr c1)<|kd<|ge<|ar 4<|eH 1 [31] [(32,vp ra)] ?_
  rcases ra with _ | lC
  ·rw[onPtr_none]at h
   exact eT 1 [7,32] [(7,vp none),(33,VT)]<|wc 33<|ar 5<|hV 3 [4,5,6] [vp none,VN,VF] hQ h
  rw[onPtr_some]at h
  refine eT 1 [7,32] [(7,Vq lC),(33,VF)]<|yn 33<|kd<|ar 6<|eT 1 [33] [(9,VN)]<|ge<|ar 7<|eT 1 [] [(10,vi 0)]<|o0 0<|have⟨c8,m27,i3,i4⟩:=h;bJ (x:=Aw) (σ:=zW×Nat×Nat×Int) (λs_=> [(1,vs d k o),(7,Vq lC),(9,vs s_.1 s_.2.1 s_.2.2.1),(10,vi s_.2.2.2)]) (λs_ H=>c8 s_.1 s_.2.1 s_.2.2.1 s_.2.2.2 H) (λs_ H=>m27 s_.1 s_.2.1 s_.2.2.1 s_.2.2.2 H) ((none,0,0,0):zW×Nat×Nat×Int) (by kernel_rfl) i3 sk ?_
  rintro⟨y,madeN,madeC,lN⟩ H2 i5
  have h:=i4 y madeN madeC lN H2 i5
  refine kT [(1,vs d k o),(7,Vq lC),(9,vs y madeN madeC),(10,vi lN)]<|ge<|ar 8<|eT 4 [] [(37,.bool (decide (lN< (k:Int))))]<|qx h (λc6 h=>?_) (λc6 h=>?_)
  ·refine aJ 37 (zX c6)<|kd<|ge<|o0 1<|ar 10<|eH 2 [37] [(40,vs d k o),(41,vi lN)] ?_
   obtain⟨f,rfl,q8,ha⟩:=h
   refine yp (some 42) 85 141 6 f k o .i64 lN underlying85 q8.1 q8.2 [1,40,41] [(1,vs (some f) k o),(42,Vq (f.add (Int.toNat lN*6)))]<|have⟨au,ao,aq,ak,ah,aj,aa,z,ab,xG,ai,ax,q9,h⟩:=ha;zr 43 141 q9 [42]<|sv (some 11) (λb=>vp (pa b)) (.cells #[VN,VN,VN,vi 0,vi 0,.int .u32 0] 141)<|λb H3 e10 e11=>have h:=h b H3 e10 e11;kb [] [(11,vp (pa b))]<|have⟨q13,h⟩:=h;fK 141 [vs au ao aq,vs ak ah aj,vs aa z ab,vi xG,vi ai,.int .u32 ax] q13<|λH4 e12=>have h:=h H4 e12;kb [43] []<|ym<|ge<|ar 11<|eT 1 [] [(12,vi 0)]<|o0 2<|have⟨c3,m44,i14,i15⟩:=h;bJ (x:=As) (σ:=zW×Nat×Nat×Int) (λs_=> [(1,vs (some f) k o),(7,Vq lC),(9,vs s_.1 s_.2.1 s_.2.2.1),(10,vi lN),(11,vp (pa b)),(12,vi s_.2.2.2)]) (λs_ H=>c3 s_.1 s_.2.1 s_.2.2.1 s_.2.2.2 H) (λs_ H=>m44 s_.1 s_.2.1 s_.2.2.1 s_.2.2.2 H) ((y,madeN,madeC,0):zW×Nat×Nat×Int) (by kernel_rfl) i14 sk ?_
   rintro⟨e,madeN_2,madeC_2,lB⟩ H5 i16
   have h:=i15 e madeN_2 madeC_2 lB H5 i16
   refine kT [(1,vs (some f) k o),(7,Vq lC),(9,vs e madeN_2 madeC_2),(10,vi lN),(11,vp (pa b)),(12,vi lB)]<|ge<|ar 12<|eH 2 [] [(44,vi lB),(45,vp (pa b))]<|have⟨xB,xN,xC,q17,h⟩:=h;hH 46 58 q17 [45]<|eT 2 [44,46] [(48,.bool (decide (lB< (xN:Int))))]<|qx h (λc18 h=>?_) (λc18 h=>?_)
   ·refine aJ 48 (zX c18)<|kd<|ge<|o0 3<|nx 14<|eH 2 [48] [(51,Vq lC),(52,vp (pa b))]<|have⟨b8,bk,b0,q20,h⟩:=h;hH 53 58 q20 [52]<|eH 1 [] [(54,vi lB)] ?_
    obtain⟨bp,rfl,q21,hb⟩:=h
    exact yp (some 55) 58 68 8 bp bk b0 .i64 lB underlying58 q21.1 q21.2 [53,54] [(55,Vq (bp.add (Int.toNat lB*8)))]<|have⟨cj,bb,bw,ch,bu,cl,bz,ci,cn,cg,q22,h⟩:=hb;zr 56 68 q22 [55]<|eH 1 [9] [(57,vs e madeN_2 madeC_2)]<|zt 58 [51,56,57] h λbt bl bo H6 h=>eH 1 [58] [(9,vs bt bl bo)]<|zq<|aA<|aC<|nx 13<|eT 3 [12] [(12,vi (zY (lB+1)))]<|aR ((bt,bl,bo,(zY (lB+1))):zW×Nat×Nat×Int) sk h
   refine aK 48 (zQ c18)<|zk 2<|aB<|aB<|aN<|aC<|ge<|ar 15<|eT 1 [12,48] [(13,vi 0)]<|o0 4<|have⟨c9,m59,i23,i24⟩:=h;bJ (x:=K58) (σ:=Int) (λs_=> [(1,vs (some f) k o),(7,Vq lC),(9,vs e madeN_2 madeC_2),(10,vi lN),(11,vp (pa b)),(13,vi s_)]) (λs_ H=>c9 s_ H) (λs_ H=>m59 s_ H) (0:Int) (by kernel_rfl) i23 sk ?_
   rintro m H7 i25
   have h:=i24 m H7 i25
   refine kT [(1,vs (some f) k o),(7,Vq lC),(9,vs e madeN_2 madeC_2),(10,vi lN),(11,vp (pa b)),(13,vi m)]<|ge<|ar 16<|eH 2 [] [(59,vi m),(60,Vq ((ad b).add 1))]<|have⟨cy,am,cx,q26,h⟩:=h;hH 61 59 q26 [60]<|eH 3 [59,61] [(64,.bool (decide (m< (am:Int))))]<|iX [(1,vs (some f) k o),(7,Vq lC),(9,vs e madeN_2 madeC_2),(10,vi lN),(11,vp (pa b)),(13,vi m),(68,.bool ((decide (m< (am:Int))) && (decide ((madeN_2:Int)>0))))] ?_ ?_
   ·refine aC<|qx h (λc29 h=>?_) (λc29 h=>?_)
    ·refine aJ 68 c29<|kd<|ge<|o0 5 ?_
     obtain⟨r,a4,s,q31,dc,a9,bm,q32,an,rfl,q33,xW,a0,q34,de,a6,be,q35,ac,rfl,q36,a5,av,q37,hc⟩:=h
     refine yq 18 (Code.ops Cr) [(23,(lC.add 2),[vs r a4 s]),(12,((ad b).add 1),[vs (some an) a9 bm]),(12,(an.add (Int.toNat m*4)),[vu xW,vi a0]),(20,((ad b).add 1),[vs (some ac) a6 be]),(20,((ac.add (Int.toNat m*4)).add 2),[vu a5,vi av])] 27 (bv 27 0) (show aE _ _ _ from⟨⟨q31,trivial⟩,⟨q32,trivial⟩,q34,⟨q35,trivial⟩,q37,trivial⟩)<|y9 0 (some 71) (vp (some lC)) (bv 27 1) [(1,vs (some f) k o),(7,vp (some lC)),(9,vs e madeN_2 madeC_2),(10,vi lN),(11,vp (pa b)),(13,vi m),(71,vp (some lC))]<|aG 1 72 (vp (some lC)) (bv 27 3) []<|aG 2 73 (vp (some lC)) (bv 27 7) [72]<|aG 3 74 (vp (some (lC.add 2))) (bv 27 15) [73]<|nc 4 75 (vs r a4 s) (bv 27 31) [74] (aQ 31 (vp (some (lC.add 2)))) (yY 23 yX)<|aG 5 76 (vp (some ((ad b).add 1))) (bv 27 63) []<|nc 6 77 (vs (some an) a9 bm) (bv 27 127) [76] (aQ 59 (vp (some ((ad b).add 1)))) (yY 12 yQ)<|aG 7 78 (vi m) (bv 27 255) []<|nc 8 79 (vp (some (an.add (Int.toNat m*4)))) (bv 27 511) [77,78] (bD 59 (vs (some an) a9 bm) (vi m)) (λ_ w _ _ _=>dX (P:=prog) (t:=59) (elem:=133) (sz:=4) (a:=an) (len:=a9) (cap:=bm) (k:=.i64) (i:=m) underlying59 (λ_=>by kernel_rfl) q33.1 q33.2 w)<|aG 9 80 (vp (some (an.add (Int.toNat m*4)))) (bv 27 1023) [79]<|nc 10 81 (.agg #[vu xW,vi a0]) (bv 27 2047) [80] (aQ 65 (vp (some (an.add (Int.toNat m*4))))) (lE 12 (λ_=>by kernel_rfl) (λ_=>by kernel_rfl) yJ (.inl (by kernel_rfl)))<|aG 11 82 (vs e madeN_2 madeC_2) (bv 27 4095) []<|aG 13 84 (vp (some ((ad b).add 1))) (bv 27 12287) []<|nc 14 85 (vs (some ac) a6 be) (bv 27 28671) [84] (aQ 59 (vp (some ((ad b).add 1)))) (yY 20 yK)<|aG 15 86 (vi m) (bv 27 61439) []<|nc 16 87 (vp (some (ac.add (Int.toNat m*4)))) (bv 27 126975) [85,86] (bD 59 (vs (some ac) a6 be) (vi m)) (λ_ w _ _ _=>dX (P:=prog) (t:=59) (elem:=133) (sz:=4) (a:=ac) (len:=a6) (cap:=be) (k:=.i64) (i:=m) underlying59 (λ_=>by kernel_rfl) q36.1 q36.2 w)<|aG 17 88 (vp (some ((ac.add (Int.toNat m*4)).add 2))) (bv 27 258047) [87]<|nc 18 89 (.agg #[vu a5,vi av]) (bv 27 520191) [88] (aQ 65 (vp (some ((ac.add (Int.toNat m*4)).add 2)))) (lE 20 (λ_=>by kernel_rfl) (λ_=>by kernel_rfl) yV (.inl (by kernel_rfl)))<|aG 19 90 (vs e madeN_2 madeC_2) (bv 27 1044479) []<|yx 12 (some 83) (bv 27 1048575) 68 #[.agg #[vu xW,vi a0],vs e madeN_2 madeC_2] hc ?_;clear hc
     rintro d1 H8 ⟨x,rfl,f38,f39,f40,h⟩
     refine⟨[(1,vs (some f) k o),(7,Vq lC),(9,vs e madeN_2 madeC_2),(10,vi lN),(11,vp (pa b)),(13,vi m),(71,Vq lC),(75,vs r a4 s),(83,vu x),(89,.agg #[vu a5,vi av]),(90,vs e madeN_2 madeC_2)],pk,(show aE _ _ _ from⟨f38,trivial,trivial,f39,f40,trivial⟩),?_⟩
     refine yx 20 (some 91) (bv 27 2097151) 68 #[.agg #[vu a5,vi av],vs e madeN_2 madeC_2] h ?_;clear h
     rintro d2 H9 ⟨cc,rfl,f41,h⟩
     refine⟨[(1,vs (some f) k o),(7,Vq lC),(9,vs e madeN_2 madeC_2),(10,vi lN),(11,vp (pa b)),(13,vi m),(71,Vq lC),(75,vs r a4 s),(83,vu x),(91,vu cc)],pk,(show aE _ _ _ from⟨f41,trivial,trivial,trivial,trivial,trivial⟩),?_⟩
     refine zh 21 (some 92) (.agg #[vu x,vu cc]) (bv 27 4194303) [(1,vs (some f) k o),(7,Vq lC),(9,vs e madeN_2 madeC_2),(10,vi lN),(11,vp (pa b)),(13,vi m),(71,Vq lC),(75,vs r a4 s),(92,.agg #[vu x,vu cc])] (pure (.value (.agg #[vu x,vu cc])):Sem Next) (λ_ _ _ _ _=>rfl)<|mX 22 (some 93) (bv 27 8388607) (λb=>vs (pa b) 1 1) (.cells #[vu x,vu cc] 36) (by kernel_rfl) (λ_=>by kernel_rfl) (by kernel_rfl)<|λcs H10 e43 e44=>have h:=h cs H10 e43 e44;have⟨f42,h⟩:=h;⟨[(1,vs (some f) k o),(7,Vq lC),(9,vs e madeN_2 madeC_2),(10,vi lN),(11,vp (pa b)),(13,vi m),(71,Vq lC),(75,vs r a4 s),(93,vs (pa cs) 1 1)],pk,(show aE _ _ _ from⟨f42,trivial,trivial,trivial,trivial,trivial⟩),?_⟩
     refine ob 23 (some 94) (bv 27 16777215) (cG #[31,31] 31 #[vs r a4 s,vs (pa cs) 1 1]) _ (by kernel_rfl) (λ_=>by kernel_rfl) (bK (T:=36) (sz:=2) (bytes:=16) (zero:=(.agg #[vu 0,vu 0]:Value)) underlying31 underlying31 rfl (show prog.info? 36=some t36 from by kernel_rfl) (by kernel_rfl) (by kernel_rfl) (by decide) (by kernel_rfl) (by first | exact h | (simpa only[Value.cells,List.toList_toArray]using h))) (by kernel_rfl) ?_;clear h
     rintro _ df ⟨ap,cd,rfl,h⟩
     refine⟨[(1,vs (some f) k o),(7,Vq lC),(9,vs e madeN_2 madeC_2),(10,vi lN),(11,vp (pa b)),(13,vi m),(71,Vq lC),(94,vs ap (a4+1) cd)],pk,(show aE _ _ _ from⟨trivial,trivial,trivial,trivial,trivial,trivial⟩),?_⟩
     refine zh 24 (some 95) (Vq lC) (bv 27 33554431) [(1,vs (some f) k o),(7,Vq lC),(9,vs e madeN_2 madeC_2),(10,vi lN),(11,vp (pa b)),(13,vi m),(94,vs ap (a4+1) cd),(95,Vq lC)] (pure (.value (Vq lC)):Sem Next) (λ_ _ _ _ _=>rfl)<|nc 25 96 (Vq (lC.add 2)) (bv 27 67108863) [95] (pure (.value (Vq (lC.add 2))):Sem Next) (λ_ _ _ _ _=>rfl)<|have⟨q46,h⟩:=h;fF 26 none (bv 27 134217727) (jH 31 (Vq (lC.add 2)) (vs ap (a4+1) cd)) (λHz=>Hz=aP df (lC.add 2) [vs ap (a4+1) cd] 0) (by kernel_rfl) (λ_=>by kernel_rfl) (iO [vs ap (a4+1) cd] 1 (by kernel_rfl) (by kernel_rfl) (λ_=>by kernel_rfl) (by kernel_rfl) q46) (by kernel_rfl)<|λc0 e45=>have h:=h c0 e45;⟨[(1,vs (some f) k o),(7,Vq lC),(9,vs e madeN_2 madeC_2),(10,vi lN),(11,vp (pa b)),(13,vi m)],pk,(show aE _ _ _ from⟨trivial,trivial,trivial,trivial,trivial,trivial⟩),?_⟩
     exact eP [(1,vs (some f) k o),(7,Vq lC),(9,vs e madeN_2 madeC_2),(10,vi lN),(11,vp (pa b)),(13,vi m)] sk<|yz<|aA<|aC<|nx 17<|u5 3 [(1,vs (some f) k o),(7,Vq lC),(9,vs e madeN_2 madeC_2),(10,vi lN),(11,vp (pa b)),(13,vi (zY (m+1)))]<|aR ((zY (m+1)):Int) sk h
    refine aK 68 (zZ c29)<|zk 4<|aB<|aB<|aN<|aC<|ge<|ar 19<|u5 1 [(1,vs (some f) k o),(7,Vq lC),(9,vs e madeN_2 madeC_2),(10,vi lN),(11,vp (pa b)),(14,vi 0)]<|o0 6<|have⟨c7,m74,i47,i48⟩:=h;bJ (x:=BC) (σ:=Int) (λs_=> [(1,vs (some f) k o),(7,Vq lC),(9,vs e madeN_2 madeC_2),(10,vi lN),(11,vp (pa b)),(14,vi s_)]) (λs_ H=>c7 s_ H) (λs_ H=>m74 s_ H) (0:Int) (by kernel_rfl) i47 sk ?_
    rintro n H13 i49
    have h:=i48 n H13 i49
    refine kT [(1,vs (some f) k o),(7,Vq lC),(9,vs e madeN_2 madeC_2),(10,vi lN),(11,vp (pa b)),(14,vi n)]<|ge<|ar 20<|eH 2 [] [(97,vi n),(98,Vq ((ad b).add 2))]<|have⟨cv,bd,cz,q50,h⟩:=h;hH 99 66 q50 [98]<|eT 2 [97,99] [(101,.bool (decide (n< (bd:Int))))]<|qx h (λc51 h=>?_) (λc51 h=>?_)
    ·refine aJ 101 (zX c51)<|kd<|ge<|o0 7 ?_
     obtain⟨af,q,ae,q53,cw,ay,a1,q54,ag,rfl,q55,bq,a2,q56,hd⟩:=h
     refine yq 22 (Code.ops K82) [(13,(lC.add 1),[vs af q ae]),(11,((ad b).add 2),[vs (some ag) ay a1]),(11,(ag.add (Int.toNat n*2)),[vu bq,vi a2])] 17 (bv 17 0) (show aE _ _ _ from⟨⟨q53,trivial⟩,⟨q54,trivial⟩,q56,trivial⟩)<|y9 0 (some 104) (vp (some lC)) (bv 17 1) [(1,vs (some f) k o),(7,vp (some lC)),(9,vs e madeN_2 madeC_2),(10,vi lN),(11,vp (pa b)),(14,vi n),(104,vp (some lC))]<|aG 1 105 (vp (some lC)) (bv 17 3) []<|aG 2 106 (vp (some lC)) (bv 17 7) [105]<|aG 3 107 (vp (some (lC.add 1))) (bv 17 15) [106]<|nc 4 108 (vs af q ae) (bv 17 31) [107] (aQ 32 (vp (some (lC.add 1)))) (yY 13 yX)<|aG 5 109 (vp (some ((ad b).add 2))) (bv 17 63) []<|nc 6 110 (vs (some ag) ay a1) (bv 17 127) [109] (aQ 66 (vp (some ((ad b).add 2)))) (yY 11 yQ)<|aG 7 111 (vi n) (bv 17 255) []<|nc 8 112 (vp (some (ag.add (Int.toNat n*2)))) (bv 17 511) [110,111] (bD 66 (vs (some ag) ay a1) (vi n)) (λ_ w _ _ _=>dX (P:=prog) (t:=66) (elem:=65) (sz:=2) (a:=ag) (len:=ay) (cap:=a1) (k:=.i64) (i:=n) underlying66 (λ_=>by kernel_rfl) q55.1 q55.2 w)<|nc 9 113 (.agg #[vu bq,vi a2]) (bv 17 1023) [112] (aQ 65 (vp (some (ag.add (Int.toNat n*2))))) (lE 11 (λ_=>by kernel_rfl) (λ_=>by kernel_rfl) yJ (.inl (by kernel_rfl)))<|aG 10 114 (vs e madeN_2 madeC_2) (bv 17 2047) []<|yx 11 (some 115) (bv 17 4095) 68 #[.agg #[vu bq,vi a2],vs e madeN_2 madeC_2] hd ?_;clear hd
     rintro dw dh ⟨c5,rfl,f57,h⟩
     refine⟨[(1,vs (some f) k o),(7,Vq lC),(9,vs e madeN_2 madeC_2),(10,vi lN),(11,vp (pa b)),(14,vi n),(104,Vq lC),(108,vs af q ae),(115,vu c5)],pk,(show aE _ _ _ from⟨f57,trivial,trivial,trivial⟩),?_⟩
     refine mX 12 (some 116) (bv 17 8191) (λb=>vs (pa b) 1 1) (.cells #[vu c5] 28) (by kernel_rfl) (λ_=>by kernel_rfl) (by kernel_rfl)<|λcq H15 e59 e60=>have h:=h cq H15 e59 e60;have⟨f58,h⟩:=h;⟨[(1,vs (some f) k o),(7,Vq lC),(9,vs e madeN_2 madeC_2),(10,vi lN),(11,vp (pa b)),(14,vi n),(104,Vq lC),(108,vs af q ae),(116,vs (pa cq) 1 1)],pk,(show aE _ _ _ from⟨f58,trivial,trivial,trivial⟩),?_⟩
     refine ob 13 (some 117) (bv 17 16383) (cG #[32,32] 32 #[vs af q ae,vs (pa cq) 1 1]) _ (by kernel_rfl) (λ_=>by kernel_rfl) (bK (T:=28) (sz:=1) (bytes:=8) (zero:=(vu 0:Value)) underlying32 underlying32 rfl (show prog.info? 28=some t28 from by kernel_rfl) (by kernel_rfl) (by kernel_rfl) (by decide) (by kernel_rfl) (by first | exact h | (simpa only[Value.cells,List.toList_toArray]using h))) (by kernel_rfl) ?_;clear h
     rintro _ dj ⟨bs,a3,rfl,h⟩
     refine⟨[(1,vs (some f) k o),(7,Vq lC),(9,vs e madeN_2 madeC_2),(10,vi lN),(11,vp (pa b)),(14,vi n),(104,Vq lC),(117,vs bs (q+1) a3)],pk,(show aE _ _ _ from⟨trivial,trivial,trivial,trivial⟩),?_⟩
     refine zh 14 (some 118) (Vq lC) (bv 17 32767) [(1,vs (some f) k o),(7,Vq lC),(9,vs e madeN_2 madeC_2),(10,vi lN),(11,vp (pa b)),(14,vi n),(117,vs bs (q+1) a3),(118,Vq lC)] (pure (.value (Vq lC)):Sem Next) (λ_ _ _ _ _=>rfl)<|nc 15 119 (Vq (lC.add 1)) (bv 17 65535) [118] (pure (.value (Vq (lC.add 1))):Sem Next) (λ_ _ _ _ _=>rfl)<|have⟨q62,h⟩:=h;fF 16 none (bv 17 131071) (jH 32 (Vq (lC.add 1)) (vs bs (q+1) a3)) (λHz=>Hz=aP dj (lC.add 1) [vs bs (q+1) a3] 0) (by kernel_rfl) (λ_=>by kernel_rfl) (iO [vs bs (q+1) a3] 1 (by kernel_rfl) (by kernel_rfl) (λ_=>by kernel_rfl) (by kernel_rfl) q62) (by kernel_rfl)<|λc4 e61=>have h:=h c4 e61;⟨[(1,vs (some f) k o),(7,Vq lC),(9,vs e madeN_2 madeC_2),(10,vi lN),(11,vp (pa b)),(14,vi n)],pk,(show aE _ _ _ from⟨trivial,trivial,trivial,trivial⟩),?_⟩
     exact eP [(1,vs (some f) k o),(7,Vq lC),(9,vs e madeN_2 madeC_2),(10,vi lN),(11,vp (pa b)),(14,vi n)] sk<|yz<|aA<|aC<|nx 21<|u5 3 [(1,vs (some f) k o),(7,Vq lC),(9,vs e madeN_2 madeC_2),(10,vi lN),(11,vp (pa b)),(14,vi (zY (n+1)))]<|aR ((zY (n+1)):Int) sk h
    refine aK 101 (zQ c51)<|zk 6<|aB<|aB<|aN<|aC<|ge<|ar 23<|eH 2 [14,101] [(121,Vq lC),(122,vs e madeN_2 madeC_2)]<|yD 123 [121,122] h λdd bc dk h=>eT 5 [123] [(16,vi bc)]<|ar 24<|eT 2 [16] [(127,.bool (bc !=0))]<|qx h (λc63 h=>?_) (λc63 h=>?_)
    ·refine aK 127 (bne_eq_false_iff_eq.mpr c63)<|kd<|ar 26<|eT 1 [127] [(17,VN)]<|ge<|ar 27<|eT 1 [] [(18,vi 0)]<|o0 8<|have⟨b9,m99,i65,i66⟩:=h;bJ (x:=K98) (σ:=zW×Nat×Nat×Int) (λs_=> [(1,vs (some f) k o),(7,Vq lC),(9,vs e madeN_2 madeC_2),(10,vi lN),(11,vp (pa b)),(17,vs s_.1 s_.2.1 s_.2.2.1),(18,vi s_.2.2.2)]) (λs_ H=>b9 s_.1 s_.2.1 s_.2.2.1 s_.2.2.2 H) (λs_ H=>m99 s_.1 s_.2.1 s_.2.2.1 s_.2.2.2 H) ((none,0,0,0):zW×Nat×Nat×Int) (by kernel_rfl) i65 sk ?_
     rintro⟨rB,rN,rC,k_4⟩ H19 i67
     have h:=i66 rB rN rC k_4 H19 i67
     refine kT [(1,vs (some f) k o),(7,Vq lC),(9,vs e madeN_2 madeC_2),(10,vi lN),(11,vp (pa b)),(17,vs rB rN rC),(18,vi k_4)]<|ge<|ar 28<|eT 4 [] [(131,.bool (decide (k_4< (madeN_2:Int))))]<|qx h (λc68 h=>?_) (λc68 h=>?_)
     ·refine aJ 131 (zX c68)<|kd<|ge<|o0 9<|ge ?_
      obtain⟨bn,q70,g,rfl,q71,cm,q72,he⟩:=h
      refine yq 30 (Code.ops Cq) [(8,lC,[vp bn]),(8,(g.add (Int.toNat k_4*1)),[vu cm])] 14 (bv 14 0) (show aE _ _ _ from⟨⟨q70,trivial⟩,⟨q72,trivial⟩,trivial⟩)<|y9 0 (some 135) (vp (some lC)) (bv 14 1) [(1,vs (some f) k o),(7,vp (some lC)),(9,vs (some g) madeN_2 madeC_2),(10,vi lN),(11,vp (pa b)),(17,vs rB rN rC),(18,vi k_4),(135,vp (some lC))]<|aG 1 136 (vp (some lC)) (bv 14 3) [135]<|aG 2 137 (vp (some lC)) (bv 14 7) [136]<|nc 3 138 (vp bn) (bv 14 15) [137] (aQ 49 (vp (some lC))) (yY 8 yX)<|aG 4 139 (vs (some g) madeN_2 madeC_2) (bv 14 31) []<|aG 5 140 (vi k_4) (bv 14 63) []<|nc 6 141 (vp (some (g.add (Int.toNat k_4*1)))) (bv 14 127) [139,140] (bD 32 (vs (some g) madeN_2 madeC_2) (vi k_4)) (λ_ w _ _ _=>dX (P:=prog) (t:=32) (elem:=28) (sz:=1) (a:=g) (len:=madeN_2) (cap:=madeC_2) (k:=.i64) (i:=k_4) underlying32 (λ_=>by kernel_rfl) q71.1 q71.2 w)<|nc 7 142 (vu cm) (bv 14 255) [141] (aQ 28 (vp (some (g.add (Int.toNat k_4*1))))) (yY 8 yQ)<|yx 8 (some 143) (bv 14 511) 80 #[vp bn,vu cm] he ?_;clear he
      rintro dx dl ⟨p,u,rfl,h⟩
      refine⟨[(1,vs (some f) k o),(7,Vq lC),(9,vs (some g) madeN_2 madeC_2),(10,vi lN),(11,vp (pa b)),(17,vs rB rN rC),(18,vi k_4),(143,.tuple #[vi p,.bool u])],pk,(show aE _ _ _ from⟨trivial,trivial,trivial⟩),?_⟩
      refine zh 9 (some 134) (.tuple #[vi p,.bool u]) (bv 14 1023) [(1,vs (some f) k o),(7,Vq lC),(9,vs (some g) madeN_2 madeC_2),(10,vi lN),(11,vp (pa b)),(17,vs rB rN rC),(18,vi k_4),(134,.tuple #[vi p,.bool u])] (pure (.value (.tuple #[vi p,.bool u])):Sem Next) (λ_ _ _ _ _=>rfl)<|nc 10 144 (vi p) (bv 14 2047) [] (pure (.value (vi p)):Sem Next) (λ_ _ _ _ _=>rfl)<|nc 11 145 (.bool u) (bv 14 4095) [134] (pure (.value (.bool u)):Sem Next) (λ_ _ _ _ _=>rfl)<|nc 12 19 (vi p) (bv 14 8191) [144] (pure (.value (vi p)):Sem Next) (λ_ _ _ _ _=>rfl)<|nc 13 20 (.bool u) (bv 14 16383) [145] (pure (.value (.bool u)):Sem Next) (λ_ _ _ _ _=>rfl)<|eP [(1,vs (some f) k o),(7,Vq lC),(9,vs (some g) madeN_2 madeC_2),(10,vi lN),(11,vp (pa b)),(17,vs rB rN rC),(18,vi k_4),(19,vi p),(20,.bool u)] sk<|yz<|aC<|ar 31<|u8 1 [(1,vs (some f) k o),(7,Vq lC),(9,vs (some g) madeN_2 madeC_2),(10,vi lN),(11,vp (pa b)),(17,vs rB rN rC),(18,vi k_4),(19,vi p),(20,.bool u),(146,Vq ((ad b).add 5))]<|have⟨ck,q73,h⟩:=h;hH 147 60 q73 [146]<|eH 1 [] [(148,vi k_4)]<|sa 149 [147,148] h λce bj h=>eH 1 [149] [(150,.bool ce)]<|qx h (λc74 h=>?_) (λc74 h=>?_)
      ·refine oo 150 c74<|eT 8 [19,20,150] [(158,VT)]<|wc 158<|nx 32<|eH 3 [17,158] [(159,vs rB rN rC),(160,vs (some g) madeN_2 madeC_2),(161,vi k_4)]<|have⟨q76,h⟩:=h;yp (some 162) 32 28 1 g madeN_2 madeC_2 .i64 k_4 underlying32 q76.1 q76.2 [160,161] [(162,Vq (g.add (Int.toNat k_4*1)))]<|have⟨cr,q77,h⟩:=h;hH 163 28 q77 [162]<|sv (some 164) (λb=>vs (pa b) 1 1) (.cells #[vu cr] 28) ?_
       intro ct H22 e78 e79
       replace h:=h ct H22 e78 e79
       refine kb [163] [(164,vs (pa ct) 1 1)]<|yO (some 165) (cG #[32,32] 32 #[vs rB rN rC,vs (pa ct) 1 1]) _ (λ_=>by kernel_rfl) (bK (T:=28) (sz:=1) (bytes:=8) (zero:=(vu 0:Value)) underlying32 underlying32 rfl (show prog.info? 28=some t28 from by kernel_rfl) (by kernel_rfl) (by kernel_rfl) (by decide) (by kernel_rfl) (by first | exact h | (simpa only[Value.cells,List.toList_toArray]using h))) ?_;clear h
       rintro _ dm ⟨b4,bg,rfl,h⟩
       exact kb [159,164] [(165,vs b4 (rN+1) bg)]<|eH 1 [165] [(17,vs b4 (rN+1) bg)]<|zq<|aA<|aC<|nx 29<|eT 3 [18] [(18,vi (zY (k_4+1)))]<|aR ((b4,(rN+1),bg,(zY (k_4+1))):zW×Nat×Nat×Int) sk h
      refine oo 150 (zZ c74)<|eH 2 [20] [(152,.bool u)]<|qx h (λc80 h=>?_) (λc80 h=>?_)
      ·refine oo 152 c80<|eH 2 [19] [(153,vi p),(154,Vq ((ad b).add 3))]<|have⟨b5,q82,h⟩:=h;hH 155 3 q82 [154]<|eT 3 [150,152,153,155] [(158,.bool (decide (p>b5)))]<|qx h (λc83 h=>?_) (λc83 h=>?_)
       ·refine aJ 158 (zX c83)<|nx 32<|eH 3 [17,158] [(159,vs rB rN rC),(160,vs (some g) madeN_2 madeC_2),(161,vi k_4)]<|have⟨q85,h⟩:=h;yp (some 162) 32 28 1 g madeN_2 madeC_2 .i64 k_4 underlying32 q85.1 q85.2 [160,161] [(162,Vq (g.add (Int.toNat k_4*1)))]<|have⟨b6,q86,h⟩:=h;hH 163 28 q86 [162]<|sv (some 164) (λb=>vs (pa b) 1 1) (.cells #[vu b6] 28) ?_
        intro cu H24 e87 e88
        replace h:=h cu H24 e87 e88
        refine kb [163] [(164,vs (pa cu) 1 1)]<|yO (some 165) (cG #[32,32] 32 #[vs rB rN rC,vs (pa cu) 1 1]) _ (λ_=>by kernel_rfl) (bK (T:=28) (sz:=1) (bytes:=8) (zero:=(vu 0:Value)) underlying32 underlying32 rfl (show prog.info? 28=some t28 from by kernel_rfl) (by kernel_rfl) (by kernel_rfl) (by decide) (by kernel_rfl) (by first | exact h | (simpa only[Value.cells,List.toList_toArray]using h))) ?_;clear h
        rintro _ dt ⟨b3,a8,rfl,h⟩
        exact kb [159,164] [(165,vs b3 (rN+1) a8)]<|eH 1 [165] [(17,vs b3 (rN+1) a8)]<|zq<|aA<|aC<|nx 29<|eT 3 [18] [(18,vi (zY (k_4+1)))]<|aR ((b3,(rN+1),a8,(zY (k_4+1))):zW×Nat×Nat×Int) sk h
       exact aK 158 (zQ c83)<|yR<|aA<|aC<|nx 29<|eT 3 [18,158] [(18,vi (zY (k_4+1)))]<|aR ((rB,rN,rC,(zY (k_4+1))):zW×Nat×Nat×Int) sk h
      exact oo 152 (zZ c80)<|eT 6 [19,150,152] [(158,VF)]<|yn 158<|yR<|aA<|aC<|nx 29<|eT 3 [18,158] [(18,vi (zY (k_4+1)))]<|aR ((rB,rN,rC,(zY (k_4+1))):zW×Nat×Nat×Int) sk h
     refine aK 131 (zQ c68)<|zk 8<|aB<|aB<|aN<|aC<|ar 33<|eT 1 [18,131] [(21,VN)]<|ge<|ar 34<|eT 1 [] [(22,vi 0)]<|o0 10<|have⟨co,m122,i89,i90⟩:=h;bJ (x:=Ca) (σ:=zW×Nat×Nat×Int) (λs_=> [(1,vs (some f) k o),(7,Vq lC),(9,vs e madeN_2 madeC_2),(10,vi lN),(11,vp (pa b)),(17,vs rB rN rC),(21,vs s_.1 s_.2.1 s_.2.2.1),(22,vi s_.2.2.2)]) (λs_ H=>co s_.1 s_.2.1 s_.2.2.1 s_.2.2.2 H) (λs_ H=>m122 s_.1 s_.2.1 s_.2.2.1 s_.2.2.2 H) ((none,0,0,0):zW×Nat×Nat×Int) (by kernel_rfl) i89 sk ?_
     rintro⟨pB,pN,pC,k_5⟩ H26 i91
     have h:=i90 pB pN pC k_5 H26 i91
     refine kT [(1,vs (some f) k o),(7,Vq lC),(9,vs e madeN_2 madeC_2),(10,vi lN),(11,vp (pa b)),(17,vs rB rN rC),(21,vs pB pN pC),(22,vi k_5)]<|ge<|ar 35<|eT 4 [] [(169,.bool (decide (k_5< (rN:Int))))]<|qx h (λc92 h=>?_) (λc92 h=>?_)
     ·refine aJ 169 (zX c92)<|kd<|ge<|o0 11<|nx 37<|eH 3 [21,169] [(172,vs pB pN pC),(173,vs rB rN rC),(174,vi k_5)] ?_
      obtain⟨a7,rfl,q94,hf⟩:=h
      have h:=hf
      refine yp (some 175) 32 28 1 a7 rN rC .i64 k_5 underlying32 q94.1 q94.2 [17,173,174] [(17,vs (some a7) rN rC),(175,Vq (a7.add (Int.toNat k_5*1)))]<|sv (some 176) (λb=>vs (pa b) 1 1) (.cells #[Vq (a7.add (Int.toNat k_5*1))] 91) ?_
      intro cp H27 e95 e96
      replace h:=h cp H27 e95 e96
      refine kb [175] [(176,vs (pa cp) 1 1)]<|yO (some 177) (cG #[90,90] 90 #[vs pB pN pC,vs (pa cp) 1 1]) _ (λ_=>by kernel_rfl) (bK (T:=91) (sz:=1) (bytes:=8) (zero:=(vp none:Value)) underlying90 underlying90 rfl (show prog.info? 91=some t91 from by kernel_rfl) (by kernel_rfl) (by kernel_rfl) (by decide) (by kernel_rfl) (by first | exact h | (simpa only[Value.cells,List.toList_toArray]using h))) ?_;clear h
      rintro _ dn ⟨b1,bi,rfl,h⟩
      exact kb [172,176] [(177,vs b1 (pN+1) bi)]<|eH 1 [177] [(21,vs b1 (pN+1) bi)]<|zq<|aA<|aC<|nx 36<|eT 3 [22] [(22,vi (zY (k_5+1)))]<|aR ((b1,(pN+1),bi,(zY (k_5+1))):zW×Nat×Nat×Int) sk h
     refine aK 169 (zQ c92)<|zk 10<|aB<|aB<|aN<|aC<|ge<|ar 38<|eH 2 [22,169] [(178,Vq lC),(179,Vq ((ad b).add 3))]<|have⟨bh,q97,h⟩:=h;hH 180 3 q97 [179]<|eH 1 [11] [(181,Vq ((ad b).add 4))]<|have⟨bx,q98,h⟩:=h;hH 182 3 q98 [181]<|eH 1 [21] [(183,vs pB pN pC)]<|sa 184 [178,180,182,183] h λbr dp h=>u5 1 [(1,vs (some f) k o),(7,Vq lC),(9,vs e madeN_2 madeC_2),(10,vi lN),(17,vs rB rN rC),(185,.bool (br==0))]<|have⟨J,h,j100⟩:=h;rv (σ:=zW×Nat×Nat) (λs_=> [(1,vs (some f) k o),(7,Vq lC),(9,vs s_.1 s_.2.1 s_.2.2),(10,vi lN)]) (λs_ H=>J s_.1 s_.2.1 s_.2.2 H) ?_ ?_
     ·rintro⟨j,madeN_3,madeC_3⟩ H30 j101
      refine have h:=j100 j madeN_3 madeC_3 H30 j101;kT [(1,vs (some f) k o),(7,Vq lC),(9,vs j madeN_3 madeC_3),(10,vi lN)]<|aC<|ge<|ar 40<|eH 2 [] [(188,Vq lC),(189,vs j madeN_3 madeC_3)]<|yD 190 [188,189] h λdb ba c2 h=>eT 5 [190] [(24,vi ba)]<|ar 41<|eT 2 [24] [(194,.bool (ba !=0))]<|qx h (λc102 h=>?_) (λc102 h=>?_)
      ·refine aK 194 (bne_eq_false_iff_eq.mpr c102)<|kd<|ge ?_
       obtain⟨da,q104,al,rfl,bf,q105,hg⟩:=h
       refine yq 43 (Code.ops BZ) [(10,lC,[Vq al]),(10,al,[vp bf])] 12 (bv 12 0) (show aE _ _ _ from⟨⟨q104,trivial⟩,⟨q105,trivial⟩,trivial⟩)<|y9 0 (some 195) (Vq lC) (bv 12 1) [(1,vs (some f) k o),(7,Vq lC),(9,vs j madeN_3 madeC_3),(10,vi lN),(195,Vq lC)]<|aG 1 196 (vs j madeN_3 madeC_3) (bv 12 3) []<|aG 3 198 (Vq lC) (bv 12 11) []<|aG 4 199 (Vq lC) (bv 12 27) [198]<|aG 5 200 (Vq lC) (bv 12 59) [199]<|nc 6 201 (Vq al) (bv 12 123) [200] (aQ 49 (Vq lC)) (yY 10 yX)<|aG 7 202 (Vq al) (bv 12 251) [201]<|aG 8 203 (Vq al) (bv 12 507) [202]<|nc 9 204 (vp bf) (bv 12 1019) [203] (aQ 52 (Vq al)) (yY 10 yQ)<|yx 2 (some 197) (bv 12 1023) 39 #[Vq lC,vs j madeN_3 madeC_3] hg ?_;clear hg
       rintro dq di ⟨aw,rfl,f106,f107,h⟩
       refine⟨[(1,vs (some f) k o),(7,Vq lC),(9,vs j madeN_3 madeC_3),(10,vi lN),(197,vi aw),(204,vp bf)],pk,(show aE _ _ _ from⟨f106,f107,trivial⟩),?_⟩
       refine yx 10 (some 205) (bv 12 2047) 22 #[vp bf,VN] h ?_;clear h
       rintro dr dg ⟨az,rfl,h⟩
       refine⟨[(1,vs (some f) k o),(7,Vq lC),(9,vs j madeN_3 madeC_3),(10,vi lN),(197,vi aw),(205,vi az)],pk,(show aE _ _ _ from⟨trivial,trivial,trivial⟩),?_⟩
       refine zh 11 (some 206) (.bool (decide (aw>az))) (bv 12 4095) [(1,vs (some f) k o),(7,Vq lC),(9,vs j madeN_3 madeC_3),(10,vi lN),(206,.bool (decide (aw>az)))] (pure (.value (.bool (decide (aw>az)))):Sem Next) (λ_ _ _ _ _=>rfl)<|eP [(1,vs (some f) k o),(7,Vq lC),(9,vs j madeN_3 madeC_3),(10,vi lN),(206,.bool (decide (aw>az)))] sk<|yz<|aC<|qx h (λc108 h=>?_) (λc108 h=>?_)
       ·exact aJ 206 (zX c108)<|ar 44<|hV 3 [4,5,6] [vp none,VN,VF] hQ h
       exact aK 206 (zQ c108)<|yR<|aA<|aC<|nx 9<|u5 3 [(1,vs (some f) k o),(7,Vq lC),(9,vs j madeN_3 madeC_3),(10,vi (zY (lN+1)))]<|aR ((j,madeN_3,madeC_3,(zY (lN+1))):zW×Nat×Nat×Int) sk h
      exact aJ 194 (bne_iff_ne.mpr c102)<|ar 42<|hV 3 [4,5,6] [vp none,VN,VF] hQ h
     revert h;refine AV (λc110 h=>?_) (λc110 h=>?_)
     ·have b111:(br==0)=true:=zK c110
      refine iP [(1,vs (some f) k o),(7,Vq lC),(9,vs e madeN_2 madeC_2),(10,vi lN),(17,vs rB rN rC),(185,VT)] (by simp only[b111,Bool.not_true,Bool.not_false]) ?_
      clear b111
      exact wc 185<|nx 39<|eT 2 [9,17,185] [(9,vs rB rN rC)]<|lV ((rB,rN,rC):zW×Nat×Nat) sk h
     have b111:(br==0)=false:=zJ c110
     refine iP [(1,vs (some f) k o),(7,Vq lC),(9,vs e madeN_2 madeC_2),(10,vi lN),(17,vs rB rN rC),(185,VF)] (by simp only[b111,Bool.not_true,Bool.not_false]) ?_
     clear b111
     exact yn 185<|kd<|lV ((e,madeN_2,madeC_2):zW×Nat×Nat) sk h
    exact aJ 127 (bne_iff_ne.mpr c63)<|ar 25<|hV 3 [4,5,6] [vp none,VN,VF] hQ h
   refine λhk=>Ab [(1,vs (some f) k o),(7,Vq lC),(9,vs e madeN_2 madeC_2),(10,vi lN),(11,vp (pa b)),(13,vi m),(64,.bool (decide (m< (am:Int))))] ?_
   by_cases c27:m< (am:Int)
   ·have b28:(decide (m< (am:Int)))=true:=zX c27
    exact bW [(1,vs (some f) k o),(7,Vq lC),(9,vs e madeN_2 madeC_2),(10,vi lN),(11,vp (pa b)),(13,vi m),(64,VT)] (by rw[b28])<|eH 4 [64] [(68,.bool (decide ((madeN_2:Int)>0)))]<|zq<|vb 68 (b:=(decide ((madeN_2:Int)>0))) (v:=((decide (m< (am:Int))) && (decide ((madeN_2:Int)>0)))) (by simp only[b28,BL])<|hk
   have b28:(decide (m< (am:Int)))=false:=zQ c27
   exact bW [(1,vs (some f) k o),(7,Vq lC),(9,vs e madeN_2 madeC_2),(10,vi lN),(11,vp (pa b)),(13,vi m),(64,VF)] (by rw[b28])<|eH 4 [64] [(68,VF)]<|zq<|vb 68 (b:=false) (v:=((decide (m< (am:Int))) && (decide ((madeN_2:Int)>0)))) (by simp only[b28,BL])<|hk
  exact aK 37 (zQ c6)<|zk 0<|aB<|aB<|aN<|aC<|ar 45<|hV 5 [4,5,6] [Vq lC,vs y madeN madeC,VT] hQ h
 exact aJ 31 (bne_iff_ne.mpr c1)<|ar 3<|hV 3 [4,5,6] [vp none,VN,VT] hQ h
def cE.K0:=Func.code f6
def cE.pt(a:Int)(lB:zW)(lN lC:Nat)(H:zV)(R:zv):Prop:=
 dP.C lB lN lC H (λv H1=> ∃x,v=.bool x/\
 if x=true then(
 bZ.C H1 (λi H2=> ∃d,i=.bool d/\
 R (.bool d) H2))
 else
 dQ.C a lB lN lC H1 (λk H3=> ∃ra g f e rc,k=.tuple #[vp ra,vs g f e,.bool rc]/\
 if rc=true then(
 bZ.C H3 (λj H4=> ∃b,j=.bool b/\
 R (.bool b) H4))
 else
 R VF H3))
set_option maxRecDepth 100000 in
theorem cE.link(h:pt i d k o H R):C i d k o H R:=by
 refine p0 K0 22 func6 ?_
 intro w0 Q hQ
 unfold pt at h
 refine kT [(0,vi i),(1,vs d k o)]<|ar 0<|eT 1 [] []<|ge<|ar 1<|eH 1 [] [(8,vs d k o)]<|sa 9 [8] h λx H1 h=>ym<|qx h (λc1 h=>?_) (λc1 h=>?_)
 ·exact aJ 9 c1<|ar 2<|Ab []<|yT 10 (λlC=>[(10,.bool lC)]) h λlC H2 h=>hV 1 [4] [.bool lC] hQ h
 refine aK 9 (zZ c1)<|kd<|ar 3<|u8 2 [(12,vi i),(13,vs d k o)]<|AW 14 (λra g f e rc=>[(14,.tuple #[vp ra,vs g f e,.bool rc])]) h λra g f e rc H3 h=>u5 7 [(7,.bool rc)]<|ar 4<|u8 2 [(19,.bool rc)]<|qx h (λc3 h=>?_) (λc3 h=>?_)
 ·have b4:rc=true:=c3
  refine bW [(19,VT)] (by rw[b4]) ?_
  clear b4
  exact sa 20 [] h λb H4 h=>hV 2 [4] [.bool b] hQ h
 have b4:rc=false:=zZ c3
 refine bW [(19,VF)] (by rw[b4]) ?_
 clear b4
 exact hV 3 [4] [VF] hQ h
variable{H:zV}{R:zv}{d j k:Int}{i:zW}
def kY.K0:=Func.code f8
def kY.pt(a:Int)(H:zV)(R:zv):Prop:=
 kE.C a H (λv H1=> ∃ra rb,v=.tuple #[vp ra,vi rb]/\
 if rb=0 then(
 ∀b H2,b=H1.size->H2=H1.push (.cells #[vp ra,VN,VN,vu 0] 51)->
 R (.tuple #[Vq (ad b),vi 0]) H2)
 else
 R (.tuple #[vp none,vi rb]) H1)
theorem kY.link(h:pt d H R):C d H R:=by
 refine p0 K0 17 func8 ?_
 intro w0 Q hQ
 unfold pt at h
 refine kT [(0,vi d)]<|ar 0<|eT 2 [] []<|ar 1<|u8 1 [(7,vi d)]<|zm 8 (λra rb=>[(8,.tuple #[vp ra,vi rb])]) h λra rb H1 h=>u5 5 [(4,vp ra),(5,vi rb)]<|ge<|ar 2<|eT 2 [] [(12,.bool (rb !=0))]<|qx h (λc1 h=>?_) (λc1 h=>?_)
 ·refine aK 12 (bne_eq_false_iff_eq.mpr c1)<|kd<|ar 4<|u8 2 [(15,.agg #[vp ra,VN,VN,vu 0])]<|sv (some 16) (λb=>vp (pa b)) (.cells #[vp ra,VN,VN,vu 0] 51)<|λb H2 e3 e4=>have h:=h b H2 e3 e4;⟨[(16,vp (pa b))],pk,?_⟩
  exact hV 2 [2,3] [vp (pa b),vi 0] hQ h
 exact aJ 12 (bne_iff_ne.mpr c1)<|ar 3<|hV 3 [2,3] [vp none,vi rb] hQ h
def fM.K0:=Func.code f10
def fM.pt(hv:zW)(a d:Int)(lB:zW)(lN lC:Nat)(H:zV)(R:zv):Prop:=
 iM.C a 0 d H (λv H1=> ∃ra rb,v=.tuple #[vu ra,vi rb]/\
 if rb=0 then(
 if(lN:Int)>62 then(
 R (.tuple #[vu 0,vi 6]) H1)
 else
 iM.C a (lN:Int) d H1 (λn H2=> ∃e i,n=.tuple #[vu e,vi i]/\
 kZ.C a H2 (λk H3=> ∃x,k=vi x/\
 ∀b H4,b=H3.size->H4=H3.push (.cells #[vu e] 28)->
 bI 1 28 8 [vu 0] (some (ad b)) 1 1 lB lN H4 (λap j H5=>
 fT.C hv x 3 ap (1+lN) j H5 (λm H6=> ∃g f,m=.tuple #[vu g,vi f]/\
 R (.tuple #[vu g,vi f]) H6)))))
 else
 R (.tuple #[vu 0,vi rb]) H1)
theorem fM.link{lB:zW}{lN lC:Nat}(h:pt i d j lB lN lC H R):C i d j lB lN lC H R:=by
 refine p0 K0 44 func10 ?_
 intro w0 Q hQ
 unfold pt at h
 refine kT [(0,vp i),(1,vi d),(2,vu j),(3,vs lB lN lC)]<|ar 0<|eT 2 [] []<|ge<|ar 1<|eH 2 [] [(15,vi d),(16,vu j)]<|yD 17 [15,16] h λra rb H1 h=>eT 5 [17] [(11,vi rb)]<|ar 2<|eT 2 [] [(21,.bool (rb !=0))]<|qx h (λc1 h=>?_) (λc1 h=>?_)
 ·refine aK 21 (bne_eq_false_iff_eq.mpr c1)<|kd<|ge<|ar 4<|eT 3 [11,21] [(25,.bool (decide ((lN:Int)>62)))]<|qx h (λc3 h=>?_) (λc3 h=>?_)
  ·exact aJ 25 (zX c3)<|ar 5<|hV 2 [8,9] [vu 0,vi 6] hQ h
  refine aK 25 (zQ c3)<|kd<|ar 6<|eH 4 [2,25] [(27,vi d),(29,vi lN),(30,vu j)]<|yD 31 [27,29,30] h λe a H2 h=>eT 5 [31] [(12,vu e)]<|ar 7<|eH 2 [0,1] [(34,vp i),(35,vi d)]<|sa 36 [35] h λx H3 h=>eH 1 [12] [(37,vu e)]<|sv (some 38) (λb=>vs (pa b) 1 1) (.cells #[vu e] 28) ?_
  intro b H4 e5 e6
  replace h:=h b H4 e5 e6
  refine kb [37] [(38,vs (pa b) 1 1)]<|eH 1 [3] [(39,vs lB lN lC)]<|yO (some 40) (cG #[32,32] 32 #[vs (pa b) 1 1,vs lB lN lC]) _ (λ_=>by kernel_rfl) (bK (T:=28) (sz:=1) (bytes:=8) (zero:=(vu 0:Value)) underlying32 underlying32 rfl (show prog.info? 28=some t28 from by kernel_rfl) (by kernel_rfl) (by kernel_rfl) (by decide) (by kernel_rfl) (by first | exact h | (simpa only[Value.cells,List.toList_toArray]using h))) ?_;clear h
  rintro _ H5 ⟨ap,hv,rfl,h⟩
  exact kb [38,39] [(40,vs ap (1+lN) hv)]<|zm 41 (λg f=>[(41,.tuple #[vu g,vi f])]) h λg f H6 h=>hV 4 [8,9] [vu g,vi f] hQ h
 exact aJ 21 (bne_iff_ne.mpr c1)<|ar 3<|hV 3 [8,9] [vu 0,vi rb] hQ h
def bU.K0:=Func.code f30
def bU.pt(hv:zW)(wv:Int)(H:zV)(R:zv):Prop:=
 bX.C hv wv H (λv H1=> ∃ra rb rc rd re,v=.tuple #[vi ra,vi rb,vi rc,vu rd,.bool re]/\
 R (vi rb) H1)
theorem bU.link(h:pt i d H R):C i d H R:=by
 refine p0 K0 20 func30 ?_
 intro w0 Q hQ
 unfold pt at h
 exact kT [(0,vp i),(1,vu d)]<|ar 0<|eT 1 [] []<|ar 1<|u8 2 [(11,vp i),(12,vu d)]<|AW 13 (λra rb rc rd re=>[(13,.tuple #[vi ra,vi rb,vi rc,vu rd,.bool re])]) h λra rb rc rd re H1 h=>u5 11 [(6,vi rb)]<|ar 2<|hV 2 [4] [vi rb] hQ h
def dD.K0:=Func.code f41
def dD.pt(hv:zW)(wv a i:Int)(H:zV)(R:zv):Prop:=
 eR.C hv wv a i H (λv H1=> ∃ra rb,v=.tuple #[vi ra,vi rb]/\
 if rb=0 then(
 ∃g,hv=some g/\
 ∃x,hat H1 g=some (vp x)/\
 ∃xA,x=some xA/\
 ∃j,hat H1 xA=some (vp j)/\
 ∃f,j=some f/\
 ∃e,hat H1 f=some (vp e)/\
 cD.C e ra H1 (λk H2=> ∃d b,k=.tuple #[vu d,vi b]/\
 R (.tuple #[vu d,vi b]) H2))
 else
 R (.tuple #[vu 0,vi rb]) H1)
theorem dD.link(h:pt i d j k H R):C i d j k H R:=by
 refine p0 K0 37 func41 ?_
 intro w0 Q hQ
 unfold pt at h
 refine kT [(0,vp i),(1,vu d),(2,vi j),(3,vi k)]<|ar 0<|eT 2 [] []<|ar 1<|u8 4 [(0,vp i),(13,vp i),(14,vu d),(15,vi j),(16,vi k)]<|zm 17 (λra rb=>[(0,vp i),(17,.tuple #[vi ra,vi rb])]) h λra rb H1 h=>eT 5 [17] [(10,vi ra),(11,vi rb)]<|ge<|ar 2<|eT 2 [] [(21,.bool (rb !=0))]<|qx h (λc1 h=>?_) (λc1 h=>?_)
 ·refine aK 21 (bne_eq_false_iff_eq.mpr c1)<|kd<|ar 4<|u8 1 [(10,vi ra),(23,vp i)] ?_
  obtain⟨g,rfl,ha⟩:=h
  refine eH 2 [23] [(25,Vq g)]<|have⟨x,q3,h⟩:=ha;hH 26 49 q3 [25] ?_
  obtain⟨xA,rfl,hb⟩:=h
  refine eH 2 [26] [(28,Vq xA)]<|have⟨wv,q4,h⟩:=hb;hH 29 52 q4 [28] ?_
  obtain⟨f,rfl,hc⟩:=h
  exact eH 2 [29] [(31,Vq f)]<|have⟨e,q5,h⟩:=hc;hH 32 78 q5 [31]<|eH 1 [10] [(33,vi ra)]<|zm 34 (λa b=>[(34,.tuple #[vu a,vi b])]) h λa b H2 h=>hV 4 [8,9] [vu a,vi b] hQ h
 exact aJ 21 (bne_iff_ne.mpr c1)<|ar 3<|hV 3 [8,9] [vu 0,vi rb] hQ h
namespace fT
def K0:=Func.code f43
def K2:=cb K0
def K4:=cb K2
def zd:=cb K4
def zG:=cb zd
def Ac:=ca zG
def Ak:=cb Ac
def AN:=ca Ak
def AU:=ca AN
end fT
def fT.pt(hv:zW)(f d:Int)(lB:zW)(lN lC:Nat)(H:zV)(R:zv):Prop:=
 eS.C hv H (λv H1=> ∃x,v=.bool x/\
 if x=true then(
 R (.tuple #[vu 0,vi 2]) H1)
 else
 ∃e,hv=some e/\
 ∃s,hat H1 e=some (vp s)/\
 ∃z,s=some z/\
 ∃o,hat H1 z=some (vp o)/\
 cJ.C o 0 f (lN:Int) H1 (λac H2=> ∃ra rb,ac=.tuple #[vi ra,vi rb]/\
 if rb=0 then(
 ∃(y:zw) (m25:Int->zV->Nat),y 0 H2/\ ∀b H3,y b H3->
 if b< (lN:Int)then(
 ∃g,lB=some g/\
 yZ b lN/\
 ∃j,hat H3 (g.add (Int.toNat b*1))=some (vu j)/\
 ∃u,hat H3 e=some (vp u)/\
 ∃aa,u=some aa/\
 ∃r,hat H3 aa=some (vp r)/\
 ∃q,r=some q/\
 ∃p,hat H3 q=some (vp p)/\
 bR.C p (zY (ra+b)) j H3 (λae H4=> ∃ab,ae=vi ab/\
 (y (zY (b+1)) H4/\m25 (zY (b+1)) H4<m25 b H3)))
 else
 jQ.C d ra H3 (λaf H5=> ∃n m,af=.tuple #[vu n,vi m]/\
 R (.tuple #[vu n,vi m]) H5))
 else
 R (.tuple #[vu 0,vi rb]) H2))
theorem fT.link{lB:zW}{lN lC:Nat}(h:pt i d j lB lN lC H R):C i d j lB lN lC H R:=by
 refine p0 K0 61 func43 ?_
 intro w0 Q hQ
 unfold pt zY at h
 refine kT [(0,vp i),(1,vi d),(2,vi j),(3,vs lB lN lC)]<|ar 0<|eT 2 [] []<|ge<|ar 1<|eH 1 [] [(14,vp i)]<|sa 15 [14] h λx H1 h=>ym<|qx h (λc1 h=>?_) (λc1 h=>?_)
 ·exact aJ 15 c1<|ar 2<|hV 2 [8,9] [vu 0,vi 2] hQ h
 refine aK 15 (zZ c1)<|kd<|ar 3<|eH 1 [15] [(17,vp i)] ?_
 obtain⟨e,rfl,ha⟩:=h
 refine eH 2 [0,17] [(0,Vq e),(19,Vq e)]<|have⟨s,q3,h⟩:=ha;hH 20 49 q3 [19] ?_
 obtain⟨z,rfl,hb⟩:=h
 refine eH 2 [20] [(22,Vq z)]<|have⟨o,q4,h⟩:=hb;hH 23 52 q4 [22]<|eH 3 [1] [(24,vi d),(26,vi lN)]<|yD 27 [23,24,26] h λra rb H2 h=>eT 5 [27] [(10,vi ra),(11,vi rb)]<|ge<|ar 4<|eT 2 [] [(31,.bool (rb !=0))]<|qx h (λc5 h=>?_) (λc5 h=>?_)
 ·refine aK 31 (bne_eq_false_iff_eq.mpr c5)<|kd<|ge<|ar 6<|eT 3 [3,11,31] [(33,vs lB lN lC),(34,vi lN),(35,vi 0)]<|o0 0<|have⟨y,m25,i7,i8⟩:=h;bJ (x:=AU) (σ:=Int) (λs_=> [(0,Vq e),(2,vi j),(10,vi ra),(33,vs lB lN lC),(34,vi lN),(35,vi s_)]) (λs_ H=>y s_ H) (λs_ H=>m25 s_ H) (0:Int) (by kernel_rfl) i7 sk ?_
  rintro b H3 i9
  have h:=i8 b H3 i9
  refine kT [(0,Vq e),(2,vi j),(10,vi ra),(33,vs lB lN lC),(34,vi lN),(35,vi b)]<|ar 7<|eT 1 [] [(36,.bool (decide (b< (lN:Int))))]<|ge<|qx h (λc10 h=>?_) (λc10 h=>?_)
  ·refine aJ 36 (zX c10)<|kd<|ge<|o0 1<|ar 8<|eH 1 [36] [(37,vi b)] ?_
   obtain⟨g,rfl,q12,hc⟩:=h
   refine yp (some 38) 32 28 1 g lN lC .i64 b underlying32 q12.1 q12.2 [33] [(33,vs (some g) lN lC),(38,Vq (g.add (Int.toNat b*1)))]<|have⟨f,q13,h⟩:=hc;hH 39 28 q13 [38]<|eT 2 [37,39] [(12,vi b),(13,vu f)]<|nx 9<|eH 3 [] [(42,Vq e)]<|have⟨u,q14,h⟩:=h;hH 43 49 q14 [42] ?_
   obtain⟨aa,rfl,hd⟩:=h
   refine eH 2 [43] [(45,Vq aa)]<|have⟨r,q15,h⟩:=hd;hH 46 52 q15 [45] ?_
   obtain⟨q,rfl,he⟩:=h
   refine eH 2 [46] [(48,Vq q)] ?_
   obtain⟨p,q16,h⟩:=he
   refine hH 49 78 q16 [48]<|eH 4 [12,13] [(52,vi (zY (ra+b))),(53,vu f)]<|zf (some 54) h ?_;clear h
   rintro ae H4 ⟨ab,rfl,h⟩
   exact kb [49,52,53] []<|zq<|aA<|aC<|nx 10<|eT 2 [35] [(35,vi (zY (b+1)))]<|aR ((zY (b+1)):Int) sk h
  exact aK 36 (zQ c10)<|zk 0<|aB<|aB<|aN<|aC<|ar 11<|u8 2 [(56,vi j),(57,vi ra)]<|zm 58 (λn m=>[(58,.tuple #[vu n,vi m])]) h λn m H5 h=>hV 4 [8,9] [vu n,vi m] hQ h
 exact aJ 31 (bne_iff_ne.mpr c5)<|ar 5<|hV 3 [8,9] [vu 0,vi rb] hQ h
def kZ.K0:=Func.code f44
def kZ.pt(a:Int)(H:zV)(R:zv):Prop:=
 if((a==2) || (a==3))=true then(
 R (vi 3) H)
 else
 R (vi 2) H
theorem kZ.link(h:pt d H R):C d H R:=by
 refine p0 K0 9 func44 ?_
 intro w0 Q hQ
 unfold pt at h
 refine kT [(0,vi d)]<|ar 0<|eT 1 [] []<|ge<|ar 1<|iX [(8,.bool ((d==2) || (d==3)))] ?_ ?_
 ·refine aC<|qx h (λc3 h=>?_) (λc3 h=>?_)
  ·exact aJ 8 c3<|ar 2<|hV 1 [2] [vi 3] hQ h
  exact aK 8 (zZ c3)<|kd<|ar 3<|hV 1 [2] [vi 2] hQ h
 refine λhk=>u8 3 [(0,vi d),(5,.bool (d==2))] ?_
 by_cases c1:d=2
 ·have b2:(d==2)=true:=zK c1
  exact bW [(0,vi d),(5,VT)] (by rw[b2])<|u8 3 [(8,VT)]<|zq<|iP [(8,.bool ((d==2) || (d==3)))] (by simp only[b2,BL])<|hk
 have b2:(d==2)=false:=zJ c1
 exact bW [(0,vi d),(5,VF)] (by rw[b2])<|u8 3 [(8,.bool (d==3))]<|zq<|iP [(8,.bool ((d==2) || (d==3)))] (by simp only[b2,BL])<|hk
def bX.K0:=Func.code f73
def bX.K2:=cb K0
def bX.K3:=ca K2
def bX.K6:=cb K3
def bX.K7:=ca K6
def bX.K8:=ca K7
def bX.pt(hv:zW)(wv:Int)(H:zV)(R:zv):Prop:=
 ∃(I9:zw) (m9:Int->zV->Nat),I9 0 H/\ ∀a H1,I9 a H1->
 if a<2 then(
 ∃x,((0<=a/\a< (2:Int))/\(#[vi 2,vi 3]:Array Value)[Int.toNat a]?=some (vi x))/\
 gV.C hv wv 3 x H1 (λv H2=> ∃ra rb,v=.tuple #[vi ra,.bool rb]/\
 if rb=true then(
 ∃e,hv=some e/\
 ∃ac,hat H2 e=some (vp ac)/\
 ∃ah,ac=some ah/\
 ∃ae,hat H2 ah=some (vp ae)/\
 ∃ag,ae=some ag/\
 ∃z,hat H2 ag=some (vp z)/\
 cD.C z ra H2 (λak H3=> ∃p aj,ak=.tuple #[vu p,vi aj]/\
 ke.C p H3 (λal H4=> ∃f d rc rd,al=.tuple #[vi f,vi d,vu rc,.bool rd]/\
 ∃af,hat H4 e=some (vp af)/\
 ∃ai,af=some ai/\
 ∃ab,hat H4 ai=some (vp ab)/\
 ∃aa,ab=some aa/\
 ∃y,hat H4 aa=some (vp y)/\
 bA.C y (zY (Int.tdiv ra 64)) H4 (λan H5=> ∃o m r k j i g s,an=.tuple #[.agg #[vi o,vi m,vi r,vi k,vi j,vi i,vi g],.bool s]/\
 ∀b H6,b=H5.size->H6=H5.push (.cells #[vi 0,vi 0,vi 0,vi 0,vi 0,vi 0,vi 0] 108)->
 (aH H6 (ad b) 0 7)/\ ∀H7,H7=aP H6 (ad b) [vi o,vi m,vi r,vi k,vi j,vi i,vi g] 0->
 if rd=true then(
 kZ.C f H7 (λam H8=> ∃u,am=vi u/\
 if u=x then(
 ∃q,hat H8 ((ad b).add 2)=some (vi q)/\
 if(zY ((Int.tmod ra 64)+d))<q then(
 R (.tuple #[vi ra,vi f,vi d,vu rc,VT]) H8)
 else
 (I9 (zY (a+1)) H8/\m9 (zY (a+1)) H8<m9 a H1))
 else
 (I9 (zY (a+1)) H8/\m9 (zY (a+1)) H8<m9 a H1)))
 else
 (I9 (zY (a+1)) H7/\m9 (zY (a+1)) H7<m9 a H1)))))
 else
 (I9 (zY (a+1)) H2/\m9 (zY (a+1)) H2<m9 a H1)))
 else
 R (.tuple #[vi 0,vi 0,vi 0,vu 0,VF]) H1
theorem bX.link(h:pt i d H R):C i d H R:=by
 refine p0 K0 87 func73 ?_
 intro w0 Q hQ
 unfold pt zY at h
 refine kT [(0,vp i),(1,vu d)]<|ar 0<|eT 5 [] []<|ge<|ar 1<|eT 2 [] [(15,.agg #[vi 2,vi 3]),(16,vi 0)]<|o0 0<|have⟨I9,m9,i1,i2⟩:=h;bJ (x:=K8) (σ:=Int) (λs_=> [(0,vp i),(1,vu d),(15,.agg #[vi 2,vi 3]),(16,vi s_)]) (λs_ H=>I9 s_ H) (λs_ H=>m9 s_ H) (0:Int) (by kernel_rfl) i1 sk ?_
 rintro a H1 i3
 have h:=i2 a H1 i3
 refine kT [(0,vp i),(1,vu d),(15,.agg #[vi 2,vi 3]),(16,vi a)]<|ar 2<|eT 1 [] [(17,.bool (decide (a<2)))]<|ge<|qx h (λc4 h=>?_) (λc4 h=>?_)
 ·refine aJ 17 (zX c4)<|kd<|ge<|o0 1<|ar 3<|yA [17] []<|have⟨x,q6,h⟩:=h;yI 18 (mD 181 (.agg #[vi 2,vi 3]) (vi a)) (vi x) (λw _=>jZ (P:=prog) (t:=181) (elem:=3) (n:=2) underlying181 (λ_=>by kernel_rfl) (λ_=>by kernel_rfl) q6.1.1 q6.1.2 q6.2 w) []<|eT 1 [18] [(10,vi x)]<|ge<|ar 4<|eH 3 [] [(20,vp i),(21,vu d),(22,vi x)]<|yD 23 [20,21,22] h λra rb H2 h=>eT 5 [23] [(4,vi ra),(8,.bool rb)]<|ar 5<|eT 2 [8] [(27,.bool (!rb))]<|qx h (λc7 h=>?_) (λc7 h=>?_)
  ·refine aK 27 (congrArg Bool.not (c7))<|kd<|ar 6<|eH 1 [27] [(29,vp i)] ?_
   obtain⟨e,rfl,ha⟩:=h
   refine eH 2 [0,29] [(0,Vq e),(31,Vq e)]<|have⟨ac,q9,h⟩:=ha;hH 32 49 q9 [31] ?_
   obtain⟨ah,rfl,hb⟩:=h
   refine eH 2 [32] [(34,Vq ah)]<|have⟨ae,q10,h⟩:=hb;hH 35 52 q10 [34] ?_
   obtain⟨ag,rfl,hc⟩:=h
   refine eH 2 [35] [(37,Vq ag)]<|have⟨z,q11,h⟩:=hc;hH 38 78 q11 [37]<|eH 1 [] [(39,vi ra)]<|yD 40 [38,39] h λp aj H3 h=>eT 5 [40] [(11,vu p)]<|ar 7<|eH 1 [11] [(44,vu p)]<|Bt 45 [44] h λf wv rc rd H4 h=>eT 9 [45] [(5,vi f),(6,vi wv),(7,vu rc),(8,.bool rd)]<|ar 8<|eH 3 [] [(53,Vq e)]<|have⟨af,q12,h⟩:=h;hH 54 49 q12 [53] ?_
   obtain⟨ai,rfl,hd⟩:=h
   refine eH 2 [54] [(56,Vq ai)]<|have⟨ab,q13,h⟩:=hd;hH 57 52 q13 [56] ?_
   obtain⟨aa,rfl,he⟩:=h
   refine eH 2 [57] [(59,Vq aa)]<|have⟨y,q14,h⟩:=he;hH 60 78 q14 [59]<|eH 2 [] [(62,vi (zY (Int.tdiv ra 64)))]<|zE 63 [60,62] h λo m r k j hv g s H5 h=>eH 3 [63] [(64,.agg #[vi o,vi m,vi r,vi k,vi j,vi hv,vi g]),(65,.bool s)]<|sv (some 13) (λb=>vp (pa b)) (.cells #[vi 0,vi 0,vi 0,vi 0,vi 0,vi 0,vi 0] 108)<|λb H6 e15 e16=>have h:=h b H6 e15 e16;kb [] [(13,vp (pa b))]<|have⟨q18,h⟩:=h;fK 108 [vi o,vi m,vi r,vi k,vi j,vi hv,vi g] q18<|λH7 e17=>have h:=h H7 e17;kb [64] []<|eT 1 [65] []<|ar 9<|eH 2 [8] [(67,.bool rd)]<|qx h (λc19 h=>?_) (λc19 h=>?_)
   ·refine oo 67 c19<|eH 1 [] [(68,vi f)]<|sa 69 [68] h λu H8 h=>eH 4 [10,67,69] [(73,.bool (u==x))]<|qx h (λc21 h=>?_) (λc21 h=>?_)
    ·refine oo 73 (zK c21)<|eH 5 [13] [(77,vi (zY ((Int.tmod ra 64)+wv))),(78,Vq ((ad b).add 2))]<|have⟨q,q23,h⟩:=h;hH 79 3 q23 [78]<|eT 2 [73,77,79] [(81,.bool (decide ((zY ((Int.tmod ra 64)+wv))<q)))]<|qx h (λc24 h=>?_) (λc24 h=>?_)
     ·exact aJ 81 (zX c24)<|ar 10<|hV 9 [4,5,6,7,8] [vi ra,vi f,vi wv,vu rc,VT] hQ h
     exact aK 81 (zQ c24)<|yR<|aA<|aC<|nx 11<|eT 2 [4,5,6,7,16,81] [(16,vi (zY (a+1)))]<|aR ((zY (a+1)):Int) sk h
    exact oo 73 (zJ c21)<|eT 8 [13,73] [(81,VF)]<|yn 81<|yR<|aA<|aC<|nx 11<|eT 2 [4,5,6,7,16,81] [(16,vi (zY (a+1)))]<|aR ((zY (a+1)):Int) sk h
   exact oo 67 (zZ c19)<|eT 14 [10,13,67] [(81,VF)]<|yn 81<|yR<|aA<|aC<|nx 11<|eT 2 [4,5,6,7,16,81] [(16,vi (zY (a+1)))]<|aR ((zY (a+1)):Int) sk h
  exact aJ 27 (congrArg Bool.not (zZ c7))<|zk 1<|aB<|aN<|aC<|nx 11<|eT 2 [4,10,16,27] [(16,vi (zY (a+1)))]<|aR ((zY (a+1)):Int) sk h
 exact aK 17 (zQ c4)<|zk 0<|aB<|aB<|aN<|aC<|ar 12<|hV 5 [4,5,6,7,8] [vi 0,vi 0,vi 0,vu 0,VF] hQ h
def eR.K0:=Func.code f85
def eR.pt(hv:zW)(wv a i:Int)(H:zV)(R:zv):Prop:=
 bX.C hv wv H (λv H1=> ∃ra rb rc rd re,v=.tuple #[vi ra,vi rb,vi rc,vu rd,.bool re]/\
 if((!re) || (rb !=a))=true then(
 R (.tuple #[vi 0,vi 3]) H1)
 else
 if((decide (i<0)) || (decide (i>=rc)))=true then(
 R (.tuple #[vi 0,vi 4]) H1)
 else
 R (.tuple #[vi (zY ((zY (ra+1))+i)),vi 0]) H1)
theorem eR.link(h:pt i d j k H R):C i d j k H R:=by
 refine p0 K0 44 func85 ?_
 intro w0 Q hQ
 unfold pt zY at h
 refine kT [(0,vp i),(1,vu d),(2,vi j),(3,vi k)]<|ar 0<|eT 2 [] []<|ar 1<|eH 2 [0,1] [(16,vp i),(17,vu d)]<|Bu 18 [16,17] h λra rb rc rd re H1 h=>eT 11 [18] [(10,vi ra),(11,vi rb),(12,vi rc),(14,.bool re)]<|ge<|o0 0<|ar 2<|iX [(3,vi k),(10,vi ra),(12,vi rc),(24,.bool ((!re) || (rb !=j)))] ?_ ?_
 ·refine aC<|qx h (λc3 h=>?_) (λc3 h=>?_)
  ·exact aJ 24 c3<|ar 3<|hV 2 [8,9] [vi 0,vi 3] hQ h
  refine aK 24 (zZ c3)<|ar 4<|iX [(3,vi k),(10,vi ra),(32,.bool ((decide (k<0)) || (decide (k>=rc))))] ?_ ?_
  ·refine aC<|qx h (λc7 h=>?_) (λc7 h=>?_)
   ·exact aJ 32 c7<|ar 5<|hV 2 [8,9] [vi 0,vi 4] hQ h
   exact aK 32 (zZ c7)<|yR<|aA<|aC<|ar 6<|hV 6 [8,9] [vi (zY ((zY (ra+1))+k)),vi 0] hQ h
  refine λhk=>u8 3 [(3,vi k),(10,vi ra),(12,vi rc),(35,.bool (decide (k<0)))] ?_
  by_cases c5:k<0
  ·have b6:(decide (k<0))=true:=zX c5
   exact bW [(3,vi k),(10,vi ra),(12,vi rc),(35,VT)] (by rw[b6])<|eH 5 [12,35] [(32,VT)]<|zq<|vb 32 (b:=true) (v:=((decide (k<0)) || (decide (k>=rc)))) (by simp only[b6,BL])<|hk
  have b6:(decide (k<0))=false:=zQ c5
  exact bW [(3,vi k),(10,vi ra),(12,vi rc),(35,VF)] (by rw[b6])<|eH 5 [12,35] [(32,.bool (decide (k>=rc)))]<|zq<|vb 32 (b:=(decide (k>=rc))) (v:=((decide (k<0)) || (decide (k>=rc)))) (by simp only[b6,BL])<|hk
 refine λhk=>u8 3 [(2,vi j),(3,vi k),(10,vi ra),(11,vi rb),(12,vi rc),(27,.bool (!re))] ?_
 by_cases c1:re=true
 ·have b2:(!re)=false:=congrArg Bool.not (c1)
  have b22:re=true:=c1
  exact bW [(2,vi j),(3,vi k),(10,vi ra),(11,vi rb),(12,vi rc),(27,VF)] (by simp only[b2,b22,Bool.not_true,Bool.not_false])<|eH 5 [2,11,27] [(24,.bool (rb !=j))]<|zq<|vb 24 (b:=(rb !=j)) (v:=((!re) || (rb !=j))) (by simp only[b2,BL])<|hk
 have b2:(!re)=true:=congrArg Bool.not (zZ c1)
 have b22:re=false:=zZ c1
 exact bW [(2,vi j),(3,vi k),(10,vi ra),(11,vi rb),(12,vi rc),(27,VT)] (by simp only[b2,b22,Bool.not_true,Bool.not_false])<|eH 5 [2,11,27] [(24,VT)]<|zq<|vb 24 (b:=true) (v:=((!re) || (rb !=j))) (by simp only[b2,BL])<|hk
def eS.K0:=Func.code f86
def eS.pt(hv:zW)(H:zV)(R:zv):Prop:=
 fE hv (
 R VT H) (λa=>
 ∃x,hat H a=some (vp x)/\
 fE x (
 R VT H) (λxA=>
 R VF H))
theorem eS.link(h:pt i H R):C i H R:=by
 refine p0 K0 12 func86 ?_
 intro w0 Q hQ
 unfold pt at h
 refine kT [(0,vp i)]<|ar 0<|eT 1 [] []<|ar 1<|eH 1 [] [(3,vp i)] ?_
 rcases i with _ | a
 ·rw[onPtr_none]at h
  exact hV 9 [2] [VT] hQ h
 rw[onPtr_some]at h
 refine u8 5 [(5,VF),(8,Vq a)]<|have⟨x,q1,h⟩:=h;hH 9 49 q1 [8] ?_
 rcases x with _ | xA
 ·rw[onPtr_none]at h
  exact hV 3 [2] [VT] hQ h
 rw[onPtr_some]at h
 exact hV 3 [2] [VF] hQ h
def cL.K0:=Func.code f101
def cL.pt(hv:zW)(wv:Int)(H:zV)(R:zv):Prop:=
 bX.C hv wv H (λv H1=> ∃ra rb rc rd re,v=.tuple #[vi ra,vi rb,vi rc,vu rd,.bool re]/\
 R (vi rc) H1)
theorem cL.link(h:pt i d H R):C i d H R:=by
 refine p0 K0 20 func101 ?_
 intro w0 Q hQ
 unfold pt at h
 exact kT [(0,vp i),(1,vu d)]<|ar 0<|eT 1 [] []<|ar 1<|u8 2 [(11,vp i),(12,vu d)]<|AW 13 (λra rb rc rd re=>[(13,.tuple #[vi ra,vi rb,vi rc,vu rd,.bool re])]) h λra rb rc rd re H1 h=>u5 11 [(7,vi rc)]<|ar 2<|hV 2 [4] [vi rc] hQ h
def eL.K0:=Func.code f104
def eL.pt(hv:zW)(wv a i v:Int)(H:zV)(R:zv):Prop:=
 eR.C hv wv a i H (λe H1=> ∃ra rb,e=.tuple #[vi ra,vi rb]/\
 if rb=0 then(
 ∃d,hv=some d/\
 ∃x,hat H1 d=some (vp x)/\
 dK.C x ra v H1 (λf H2=> ∃b,f=vi b/\
 R (vi b) H2))
 else
 R (vi rb) H1)
theorem eL.link{v:Int}(h:pt i d j k v H R):C i d j k v H R:=by
 refine p0 K0 31 func104 ?_
 intro w0 Q hQ
 unfold pt at h
 refine kT [(0,vp i),(1,vu d),(2,vi j),(3,vi k),(4,vu v)]<|ar 0<|eT 1 [] []<|ar 1<|eH 4 [1,2,3] [(14,vp i),(15,vu d),(16,vi j),(17,vi k)]<|yD 18 [14,15,16,17] h λra rb H1 h=>eT 5 [18] [(11,vi ra),(12,vi rb)]<|ge<|ar 2<|eT 2 [] [(22,.bool (rb !=0))]<|qx h (λc1 h=>?_) (λc1 h=>?_)
 ·refine aK 22 (bne_eq_false_iff_eq.mpr c1)<|kd<|ar 4<|eH 1 [0,12,22] [(24,vp i)] ?_
  obtain⟨a,rfl,ha⟩:=h
  exact eH 2 [24] [(26,Vq a)]<|have⟨x,q3,h⟩:=ha;hH 27 49 q3 [26]<|eH 2 [4,11] [(28,vi ra),(29,vu v)]<|yT 30 (λb=>[(30,vi b)]) h λb H2 h=>hV 1 [10] [vi b] hQ h
 exact aJ 22 (bne_iff_ne.mpr c1)<|ar 3<|hV 2 [10] [vi rb] hQ h
def gV.K0:=Func.code f113
def gV.pt(hv:zW)(wv i a:Int)(H:zV)(R:zv):Prop:=
 gH.C wv H (λv H1=> ∃ra rb,v=.tuple #[vi ra,.bool rb]/\
 eS.C hv H1 (λaa H2=> ∃x,aa=.bool x/\
 if x=true then(
 R (.tuple #[vi 0,VF]) H2)
 else
 if rb=true then(
 cK.C wv H2 (λab H3=> ∃q,ab=vi q/\
 if q=i then(
 ∃t,hv=some t/\
 ∃s,hat H3 t=some (vp s)/\
 ∃u,s=some u/\
 ∃y,hat H3 u=some (vp y)/\
 ∃z,y=some z/\
 ∃r,hat H3 z=some (vp r)/\
 bA.C r (zY (Int.tdiv ra 64)) H3 (λac H4=> ∃m k p g f e d j,ac=.tuple #[.agg #[vi m,vi k,vi p,vi g,vi f,vi e,vi d],.bool j]/\
 ∀b H5,b=H4.size->H5=H4.push (.cells #[vi 0,vi 0,vi 0,vi 0,vi 0,vi 0,vi 0] 108)->
 (aH H5 (ad b) 0 7)/\ ∀H6,H6=aP H5 (ad b) [vi m,vi k,vi p,vi g,vi f,vi e,vi d] 0->
 if j=true then(
 ∃n,hat H6 ((ad b).add 1)=some (vi n)/\
 if n=a then(
 ∃o,hat H6 ((ad b).add 2)=some (vi o)/\
 R (.tuple #[vi ra,.bool (decide ((Int.tmod ra 64)<o))]) H6)
 else
 R (.tuple #[vi ra,VF]) H6)
 else
 R (.tuple #[vi ra,VF]) H6))
 else
 R (.tuple #[vi 0,VF]) H3))
 else
 R (.tuple #[vi 0,VF]) H2))
theorem gV.link(h:pt i d j k H R):C i d j k H R:=by
 refine p0 K0 61 func113 ?_
 intro w0 Q hQ
 unfold pt zY at h
 refine kT [(0,vp i),(1,vu d),(2,vi j),(3,vi k)]<|ar 0<|eT 2 [] []<|ar 1<|eH 1 [] [(14,vu d)]<|yD 15 [14] h λra rb H1 h=>eT 5 [15] [(10,vi ra),(11,.bool rb)]<|ge<|ar 2<|eH 1 [] [(18,vp i)]<|sa 19 [18] h λx H2 h=>eH 1 [19] [(20,.bool x)]<|qx h (λc1 h=>?_) (λc1 h=>?_)
 ·exact oo 20 c1<|eT 9 [1,2,11,20] [(29,VT)]<|wc 29<|ar 3<|hV 2 [8,9] [vi 0,VF] hQ h
 refine oo 20 (zZ c1)<|eH 4 [11,20] [(24,.bool (!rb))]<|qx h (λc3 h=>?_) (λc3 h=>?_)
 ·have b4:(!rb)=false:=congrArg Bool.not (c3)
  have b42:rb=true:=c3
  refine oo 24 (b:=(!rb)) (v:=false) (by simp only[b4,b42,Bool.not_true,Bool.not_false]) ?_
  clear b4 b42
  refine eH 1 [1] [(25,vu d)]<|sa 26 [25] h λq H3 h=>eT 3 [2,24,26] [(29,.bool (q !=j))]<|qx h (λc5 h=>?_) (λc5 h=>?_)
  ·refine aK 29 (bne_eq_false_iff_eq.mpr c5)<|kd<|ar 4<|eH 1 [0,29] [(31,vp i)] ?_
   obtain⟨t,rfl,ha⟩:=h
   refine eH 2 [31] [(33,Vq t)]<|have⟨s,q7,h⟩:=ha;hH 34 49 q7 [33] ?_
   obtain⟨u,rfl,hb⟩:=h
   refine eH 2 [34] [(36,Vq u)]<|have⟨y,q8,h⟩:=hb;hH 37 52 q8 [36] ?_
   obtain⟨z,rfl,hc⟩:=h
   refine eH 2 [37] [(39,Vq z)]<|have⟨r,q9,h⟩:=hc;hH 40 78 q9 [39]<|eH 2 [] [(42,vi (zY (Int.tdiv ra 64)))]<|zE 43 [40,42] h λm hv p g f e a wv H4 h=>eH 3 [43] [(44,.agg #[vi m,vi hv,vi p,vi g,vi f,vi e,vi a]),(45,.bool wv)]<|sv (some 12) (λb=>vp (pa b)) (.cells #[vi 0,vi 0,vi 0,vi 0,vi 0,vi 0,vi 0] 108)<|λb H5 e10 e11=>have h:=h b H5 e10 e11;kb [] [(12,vp (pa b))]<|have⟨q13,h⟩:=h;fK 108 [vi m,vi hv,vi p,vi g,vi f,vi e,vi a] q13<|λH6 e12=>have h:=h H6 e12;kb [44] []<|eT 1 [45] [(11,.bool wv)]<|ge<|qG 5<|u3 46 (vi ra) []<|u3 47 (.bool wv) [11]<|u3 48 (.bool wv) [47]<|qx h (λc14 h=>?_) (λc14 h=>?_)
   ·refine AO 48 c14<|u3 49 (Vq ((ad b).add 1)) []<|have⟨n,q16,h⟩:=h;m7 (some 50) 3 q16 [49] [(50,vi n)]<|u3 51 (vi k) [3]<|u3 52 (.bool (n==k)) [50,51]<|u3 53 (.bool (n==k)) [48,52]<|u3 54 (.bool (n==k)) [53]<|qx h (λc17 h=>?_) (λc17 h=>?_)
    ·exact AO 54 (zK c17)<|u3 55 (vi ra) [10]<|u3 56 (vi (Int.tmod ra 64)) [55]<|u3 57 (Vq ((ad b).add 2)) [12]<|have⟨o,q19,h⟩:=h;m7 (some 58) 3 q19 [57] [(58,vi o)]<|u3 59 (.bool (decide ((Int.tmod ra 64)<o))) [56,58]<|u3 60 (.bool (decide ((Int.tmod ra 64)<o))) [54,59]<|u3 8 (vi ra) [46]<|u3 9 (.bool (decide ((Int.tmod ra 64)<o))) [60]<|mW [(8,vi ra),(9,.bool (decide ((Int.tmod ra 64)<o)))] sk<|Al<|iV [8,9] [vi ra,.bool (decide ((Int.tmod ra 64)<o))] hQ h
    exact AO 54 (zJ c17)<|u3 55 (undef) [10]<|u3 56 (undef) [55]<|u3 57 (undef) [12]<|u3 58 (undef) [57]<|u3 59 (undef) [56,58]<|u3 60 VF [54,59]<|u3 8 (vi ra) [46]<|u3 9 VF [60]<|mW [(8,vi ra),(9,VF)] sk<|Al<|iV [8,9] [vi ra,VF] hQ h
   exact AO 48 (zZ c14)<|u3 49 (undef) []<|u3 50 (undef) [49]<|u3 51 (undef) [3]<|u3 52 (undef) [50,51]<|u3 53 VF [48,52]<|u3 54 VF [53]<|u3 55 (undef) [10]<|u3 56 (undef) [55]<|u3 57 (undef) [12]<|u3 58 (undef) [57]<|u3 59 (undef) [56,58]<|u3 60 VF [54,59]<|u3 8 (vi ra) [46]<|u3 9 VF [60]<|mW [(8,vi ra),(9,VF)] sk<|Al<|iV [8,9] [vi ra,VF] hQ h
  exact aJ 29 (bne_iff_ne.mpr c5)<|ar 3<|hV 2 [8,9] [vi 0,VF] hQ h
 have b4:(!rb)=true:=congrArg Bool.not (zZ c3)
 have b42:rb=false:=zZ c3
 refine oo 24 (b:=(!rb)) (v:=true) (by simp only[b4,b42,Bool.not_true,Bool.not_false]) ?_
 clear b4 b42
 exact eT 5 [1,2,24] [(29,VT)]<|wc 29<|ar 3<|hV 2 [8,9] [vi 0,VF] hQ h
def eE.K0:=Func.code f122
def eE.pt(hv:zW)(wv:Int)(H:zV)(R:zv):Prop:=
 bX.C hv wv H (λv H1=> ∃ra rb rc rd re,v=.tuple #[vi ra,vi rb,vi rc,vu rd,.bool re]/\
 R (vu rd) H1)
theorem eE.link(h:pt i d H R):C i d H R:=by
 refine p0 K0 20 func122 ?_
 intro w0 Q hQ
 unfold pt at h
 exact kT [(0,vp i),(1,vu d)]<|ar 0<|eT 1 [] []<|ar 1<|u8 2 [(11,vp i),(12,vu d)]<|AW 13 (λra rb rc rd re=>[(13,.tuple #[vi ra,vi rb,vi rc,vu rd,.bool re])]) h λra rb rc rd re H1 h=>u5 11 [(8,vu rd)]<|ar 2<|hV 2 [4] [vu rd] hQ h
variable{H:zV}{d:zW}{R:zv}
namespace dL
def K0:=Func.code f22
def K2:=cb K0
def K4:=cb K2
def zd:=cb K4
def Ad:=ca zd
def Ap:=cb Ad
def zC:=ca Ap
def zT:=ca zC
end dL
def dL.pt(s n:zW)(o m:Nat)(H:zV)(R:zv):Prop:=
 cT.C s H (λv H1=> ∃x,v=.bool x/\
 if x=true then(
 R (vi 0) H1)
 else
 ∃sA,s=some sA/\
 ∃aa,hat H1 sA=some (vp aa)/\
 cF.C aa n o m H1 (λae H2=> ∃xB xN xC,ae=vs xB xN xC/\
 ∃(ac:Int->zw) (m19:Int->Int->zV->Nat),ac 0 0 H2/\ ∀d s19 H3,ac d s19 H3->
 if s19< (xN:Int)then(
 ∃p,xB=some p/\
 yZ s19 xN/\
 ∃u,hat H3 (p.add (Int.toNat s19*1))=some (vi u)/\
 ∃ab,hat H3 sA=some (vp ab)/\
 bA.C ab u H3 (λaf H4=> ∃r q z j g f e rb,af=.tuple #[.agg #[vi r,vi q,vi z,vi j,vi g,vi f,vi e],.bool rb]/\
 ∀b H5,b=H4.size->H5=H4.push (.cells #[vi 0,vi 0,vi 0,vi 0,vi 0,vi 0,vi 0] 108)->
 (aH H5 (ad b) 0 7)/\ ∀H6,H6=aP H5 (ad b) [vi r,vi q,vi z,vi j,vi g,vi f,vi e] 0->
 ∃y,hat H6 ((ad b).add 2)=some (vi y)/\
 (ac (zY (d+y)) (zY (s19+1)) H6/\m19 (zY (d+y)) (zY (s19+1)) H6<m19 d s19 H3)))
 else
 R (vi d) H3))
theorem dL.link{n:zW}{o m:Nat}(h:pt d n o m H R):C d n o m H R:=by
 refine p0 K0 38 func22 ?_
 intro w0 Q hQ
 unfold pt zY at h
 refine kT [(0,vp d),(1,vs n o m)]<|ar 0<|eT 1 [] []<|ge<|ar 1<|eH 1 [] [(10,vp d)]<|sa 11 [10] h λx H1 h=>ym<|qx h (λc1 h=>?_) (λc1 h=>?_)
 ·exact aJ 11 c1<|ar 2<|hV 1 [4] [vi 0] hQ h
 refine aK 11 (zZ c1)<|kd<|ar 3<|eT 1 [11] [(5,vi 0)]<|ge<|ar 4<|eH 1 [] [(12,vp d)] ?_
 obtain⟨sA,rfl,ha⟩:=h
 refine eH 2 [0,12] [(0,Vq sA),(14,Vq sA)]<|have⟨aa,q3,h⟩:=ha;hH 15 78 q3 [14]<|eH 1 [1] [(16,vs n o m)]<|zt 17 [15,16] h λxB xN xC H2 h=>eT 2 [] [(18,vi xN),(19,vi 0)]<|o0 0<|have⟨ac,m19,i4,i5⟩:=h;bJ (x:=zT) (σ:=Int×Int) (λs_=> [(0,Vq sA),(5,vi s_.1),(17,vs xB xN xC),(18,vi xN),(19,vi s_.2)]) (λs_ H=>ac s_.1 s_.2 H) (λs_ H=>m19 s_.1 s_.2 H) ((0,0):Int×Int) (by kernel_rfl) i4 sk ?_
 rintro⟨s,s19⟩ H3 i6
 have h:=i5 s s19 H3 i6
 refine kT [(0,Vq sA),(5,vi s),(17,vs xB xN xC),(18,vi xN),(19,vi s19)]<|ar 5<|eT 1 [] [(20,.bool (decide (s19< (xN:Int))))]<|ge<|qx h (λc7 h=>?_) (λc7 h=>?_)
 ·refine aJ 20 (zX c7)<|kd<|ge<|o0 1<|ar 6<|yA [20] [] ?_
  obtain⟨p,rfl,q9,hb⟩:=h
  exact yp (some 21) 75 3 1 p xN xC .i64 s19 underlying75 q9.1 q9.2 [17] [(17,vs (some p) xN xC),(21,Vq (p.add (Int.toNat s19*1)))]<|have⟨u,q10,h⟩:=hb;hH 22 3 q10 [21]<|eT 1 [22] [(7,vi u)]<|ar 7<|eH 3 [] [(26,Vq sA)]<|have⟨ab,q11,h⟩:=h;hH 27 78 q11 [26]<|eH 1 [7] [(28,vi u)]<|zE 29 [27,28] h λr q z j g f e rb H4 h=>eH 3 [29] [(30,.agg #[vi r,vi q,vi z,vi j,vi g,vi f,vi e]),(31,.bool rb)]<|sv (some 8) (λb=>vp (pa b)) (.cells #[vi 0,vi 0,vi 0,vi 0,vi 0,vi 0,vi 0] 108)<|λb H5 e12 e13=>have h:=h b H5 e12 e13;kb [] [(8,vp (pa b))]<|have⟨q15,h⟩:=h;fK 108 [vi r,vi q,vi z,vi j,vi g,vi f,vi e] q15<|λH6 e14=>have h:=h H6 e14;kb [30] []<|eT 1 [31] []<|nx 8<|eH 2 [5,8] [(32,vi s),(33,Vq ((ad b).add 2))]<|have⟨y,q16,h⟩:=h;hH 34 3 q16 [33]<|eH 2 [32,34] [(5,vi (zY (s+y)))]<|zq<|aA<|aC<|nx 9<|eT 2 [19] [(19,vi (zY (s19+1)))]<|aR (((zY (s+y)),(zY (s19+1))):Int×Int) sk h
 exact aK 20 (zQ c7)<|zk 0<|aB<|aB<|aN<|aC<|ar 10<|hV 2 [4] [vi s] hQ h
namespace dR
def K0:=Func.code f48
def K2:=cb K0
def K8:=cb K2
def K9:=ca K8
def zu:=ca K9
def zd:=cb zu
def zG:=cb zd
def zC:=ca zG
def Ac:=ca zC
def AC:=cb Ac
def Ak:=ca AC
def Ax:=cb Ak
def Aw:=ca Ax
def Ag:=ca Aw
end dR
def dR.pt(s e:zW)(b d:Nat)(H:zV)(R:zv):Prop:=
 fE s (
 R (.tuple #[]) H) (λsA=>
 ∃(m:zw) (m11:Int->zV->Nat),m 0 H/\ ∀s9 H1,m s9 H1->
 if s9<5 then(
 ∃(j:zw) (m28:Int->zV->Nat),j 0 H1/\ ∀g H2,j g H2->
 if g< (b:Int)then(
 ∃f,e=some f/\
 yZ g b/\
 ∃x,hat H2 (f.add (Int.toNat g*1))=some (vi x)/\
 if x=s9 then(
 yZ s9 5/\
 (aH H2 ((sA.add 1).add (Int.toNat s9*4)) 0 4)/\ ∀H3,H3=aP H2 ((sA.add 1).add (Int.toNat s9*4)) [vi 0,vi 0,vi 0,vi 0] 0->
 (j (zY (g+1)) H3/\m28 (zY (g+1)) H3<m28 g H2))
 else
 (j (zY (g+1)) H2/\m28 (zY (g+1)) H2<m28 g H2))
 else
 if(b:Int)=0 then(
 yZ s9 5/\
 (aH H2 ((sA.add 1).add (Int.toNat s9*4)) 0 4)/\ ∀H4,H4=aP H2 ((sA.add 1).add (Int.toNat s9*4)) [vi 0,vi 0,vi 0,vi 0] 0->
 (m (zY (s9+1)) H4/\m11 (zY (s9+1)) H4<m11 s9 H1))
 else
 (m (zY (s9+1)) H2/\m11 (zY (s9+1)) H2<m11 s9 H1))
 else
 R (.tuple #[]) H1)
theorem dR.link{e:zW}{b s:Nat}(h:pt d e b s H R):C d e b s H R:=by
 refine p0 K0 38 func48 ?_
 intro w0 Q hQ
 unfold pt zY at h
 refine kT [(0,vp d),(1,vs e b s)]<|ge<|ar 0<|eH 1 [] [(7,vp d)] ?_
 rcases d with _ | sA
 ·rw[onPtr_none]at h
  exact eT 1 [0,7] [(0,vp none),(8,VT)]<|wc 8<|iV [] [] hQ h
 rw[onPtr_some]at h
 refine eT 1 [0,7] [(0,Vq sA),(8,VF)]<|yn 8<|kd<|ar 1<|eT 1 [8] [(9,vi 0)]<|o0 0<|have⟨m,m11,i1,i2⟩:=h;bJ (x:=zu) (σ:=Int) (λs_=> [(0,Vq sA),(1,vs e b s),(9,vi s_)]) (λs_ H=>m s_ H) (λs_ H=>m11 s_ H) (0:Int) (by kernel_rfl) i1 sk ?_
 rintro s9 H1 i3
 have h:=i2 s9 H1 i3
 refine kT [(0,Vq sA),(1,vs e b s),(9,vi s9)]<|ar 2<|eT 1 [] [(10,.bool (decide (s9<5)))]<|ge<|qx h (λc4 h=>?_) (λc4 h=>?_)
 ·refine aJ 10 (zX c4)<|kd<|ge<|o0 1<|ar 3<|eT 2 [10] [(4,vi s9)]<|ge<|ar 4<|eT 3 [] [(12,vs e b s),(13,vi b),(14,vi 0)]<|o0 2<|have⟨j,m28,i6,i7⟩:=h;bJ (x:=Ag) (σ:=Int) (λs_=> [(0,Vq sA),(1,vs e b s),(4,vi s9),(9,vi s9),(12,vs e b s),(13,vi b),(14,vi s_)]) (λs_ H=>j s_ H) (λs_ H=>m28 s_ H) (0:Int) (by kernel_rfl) i6 sk ?_
  rintro g H2 i8
  have h:=i7 g H2 i8
  refine kT [(0,Vq sA),(1,vs e b s),(4,vi s9),(9,vi s9),(12,vs e b s),(13,vi b),(14,vi g)]<|ar 5<|eT 1 [] [(15,.bool (decide (g< (b:Int))))]<|ge<|qx h (λc9 h=>?_) (λc9 h=>?_)
  ·refine aJ 15 (zX c9)<|kd<|ge<|o0 3<|ar 6<|yA [15] [] ?_
   obtain⟨f,rfl,q11,ha⟩:=h
   refine yp (some 16) 75 3 1 f b s .i64 g underlying75 q11.1 q11.2 [1,12] [(1,vs (some f) b s),(12,vs (some f) b s),(16,Vq (f.add (Int.toNat g*1)))]<|have⟨x,q12,h⟩:=ha;hH 17 3 q12 [16]<|eT 1 [17] [(6,vi x)]<|ar 7<|eT 3 [6] [(20,.bool (x==s9))]<|qx h (λc13 h=>?_) (λc13 h=>?_)
   ·exact aJ 20 (zK c13)<|nx 8<|eH 5 [20] [(22,vi s9),(23,.agg #[vi 0,vi 0,vi 0,vi 0]),(25,Vq (sA.add 1))]<|have⟨q15,h⟩:=h;yI 26 (bD 80 (Vq (sA.add 1)) (vi s9)) (Vq ((sA.add 1).add (Int.toNat s9*4))) (λw _=>bO (P:=prog) (t:=80) (elem:=79) (sz:=4) (n:=5) (a:=(sA.add 1)) (k:=.i64) (i:=s9) underlying80 (λ_=>by kernel_rfl) q15.1 q15.2 w) [22,25]<|have⟨q17,h⟩:=h;fK 79 [vi 0,vi 0,vi 0,vi 0] q17<|λH3 e16=>have h:=h H3 e16;kb [23,26] []<|zq<|aA<|aC<|nx 9<|eT 2 [14] [(14,vi (zY (g+1)))]<|aR ((zY (g+1)):Int) sk h
   exact aK 20 (zJ c13)<|yR<|aA<|aC<|nx 9<|eT 2 [14,20] [(14,vi (zY (g+1)))]<|aR ((zY (g+1)):Int) sk h
  refine aK 15 (zQ c9)<|zk 2<|aB<|aB<|aN<|aC<|ar 10<|eT 3 [12,13,14,15] [(30,.bool ((b:Int)==0))]<|qx h (λc18 h=>?_) (λc18 h=>?_)
  ·exact aJ 30 (zK c18)<|nx 11<|eH 5 [4,30] [(32,vi s9),(33,.agg #[vi 0,vi 0,vi 0,vi 0]),(35,Vq (sA.add 1))]<|have⟨q20,h⟩:=h;yI 36 (bD 80 (Vq (sA.add 1)) (vi s9)) (Vq ((sA.add 1).add (Int.toNat s9*4))) (λw _=>bO (P:=prog) (t:=80) (elem:=79) (sz:=4) (n:=5) (a:=(sA.add 1)) (k:=.i64) (i:=s9) underlying80 (λ_=>by kernel_rfl) q20.1 q20.2 w) [32,35]<|have⟨q22,h⟩:=h;fK 79 [vi 0,vi 0,vi 0,vi 0] q22<|λH4 e21=>have h:=h H4 e21;kb [33,36] []<|zq<|aA<|aC<|nx 12<|eT 2 [9] [(9,vi (zY (s9+1)))]<|aR ((zY (s9+1)):Int) sk h
  exact aK 30 (zJ c18)<|yR<|aA<|aC<|nx 12<|eT 2 [4,9,30] [(9,vi (zY (s9+1)))]<|aR ((zY (s9+1)):Int) sk h
 exact aK 10 (zQ c4)<|zk 0<|aB<|aB<|aN<|gF (fn:=f48) [] hQ (show bS _ _ _ [] _ from .nil) h
namespace eJ
def K0:=Func.code f63
def K2:=cb K0
def K4:=cb K2
def K11:=ca K4
def zG:=cb K11
def Ap:=cb zG
def zC:=ca Ap
end eJ
def eJ.pt(s:zW)(d:Int)(H:zV)(R:zv):Prop:=
 cT.C s H (λv H1=> ∃x,v=.bool x/\
 if x=true then(
 R (vi 19) H1)
 else
 ∃sA,s=some sA/\
 ∃ag,hat H1 sA=some (vp ag)/\
 bA.C ag d H1 (λai H2=> ∃r p ab j g f e rb,ai=.tuple #[.agg #[vi r,vi p,vi ab,vi j,vi g,vi f,vi e],.bool rb]/\
 ∀b H3,b=H2.size->H3=H2.push (.cells #[vi 0,vi 0,vi 0,vi 0,vi 0,vi 0,vi 0] 108)->
 (aH H3 (ad b) 0 7)/\ ∀H4,H4=aP H3 (ad b) [vi r,vi p,vi ab,vi j,vi g,vi f,vi e] 0->
 if rb=true then(
 ∃o,hat H4 (ad b)=some (vi o)/\
 ∃y,hat H4 ((ad b).add 1)=some (vi y)/\
 yZ o 5/\
 yZ y 4/\
 ∃u,hat H4 (((sA.add 1).add (Int.toNat o*4)).add (Int.toNat y*1))=some (vi u)/\
 if u=(zY (d+1))then(
 ∃m,hat H4 (ad b)=some (vi m)/\
 ∃q,hat H4 ((ad b).add 1)=some (vi q)/\
 yZ m 5/\
 yZ q 4/\
 (aH H4 (((sA.add 1).add (Int.toNat m*4)).add (Int.toNat q*1)) 0 1)/\ ∀H5,H5=aP H4 (((sA.add 1).add (Int.toNat m*4)).add (Int.toNat q*1)) [vi 0] 0->
 ∃af,hat H5 sA=some (vp af)/\
 fU.C af d H5 (λaj H6=> ∃ah,aj=vi ah/\
 R (vi ah) H6))
 else
 ∃z,hat H4 sA=some (vp z)/\
 fU.C z d H4 (λal H7=> ∃ae,al=vi ae/\
 R (vi ae) H7))
 else
 ∃aa,hat H4 sA=some (vp aa)/\
 fU.C aa d H4 (λak H8=> ∃ac,ak=vi ac/\
 R (vi ac) H8)))
theorem eJ.link{s:Int}(h:pt d s H R):C d s H R:=by
 refine p0 K0 49 func63 ?_
 intro w0 Q hQ
 unfold pt zY at h
 refine kT [(0,vp d),(1,vi s)]<|ar 0<|eT 1 [] []<|ge<|ar 1<|eH 1 [] [(7,vp d)]<|sa 8 [7] h λx H1 h=>ym<|qx h (λc1 h=>?_) (λc1 h=>?_)
 ·exact aJ 8 c1<|ar 2<|hV 1 [4] [vi 19] hQ h
 refine aK 8 (zZ c1)<|kd<|ge<|ar 3<|eH 1 [8] [(10,vp d)] ?_
 obtain⟨sA,rfl,ha⟩:=h
 refine eH 2 [0,10] [(0,Vq sA),(12,Vq sA)]<|have⟨ag,q3,h⟩:=ha;hH 13 78 q3 [12]<|eH 1 [] [(14,vi s)]<|zE 15 [13,14] h λr p ab j g f e rb H2 h=>eH 3 [15] [(16,.agg #[vi r,vi p,vi ab,vi j,vi g,vi f,vi e]),(17,.bool rb)]<|sv (some 5) (λb=>vp (pa b)) (.cells #[vi 0,vi 0,vi 0,vi 0,vi 0,vi 0,vi 0] 108)<|λb H3 e4 e5=>have h:=h b H3 e4 e5;kb [] [(5,vp (pa b))]<|have⟨q7,h⟩:=h;fK 108 [vi r,vi p,vi ab,vi j,vi g,vi f,vi e] q7<|λH4 e6=>have h:=h H4 e6;kb [16] []<|eT 1 [17] [(6,.bool rb)]<|ge<|qG 4<|u3 18 (.bool rb) [6]<|u3 19 (.bool rb) [18]<|qx h (λc8 h=>?_) (λc8 h=>?_)
 ·refine AO 19 c8<|u3 20 (Vq sA) []<|u3 21 (vp (pa b)) []<|have⟨o,q10,h⟩:=h;m7 (some 22) 3 q10 [21] [(22,vi o)]<|u3 23 (Vq ((ad b).add 1)) []<|have⟨y,q11,h⟩:=h;m7 (some 24) 3 q11 [23] [(24,vi y)]<|u3 25 (Vq sA) [20]<|u3 26 (Vq (sA.add 1)) [25]<|have⟨q12,h⟩:=h;Ai (some 27) (bD 80 (vp (some (sA.add 1))) (vi o)) (vp (some ((sA.add 1).add (Int.toNat o*4)))) (λ_=>by kernel_rfl) (λw _=>bO (P:=prog) (t:=80) (elem:=79) (sz:=4) (n:=5) (a:=(sA.add 1)) (k:=.i64) (i:=o) underlying80 (λ_=>by kernel_rfl) q12.1 q12.2 w) [(0,vp (some sA)),(1,vi s),(5,vp (pa b)),(19,.bool true),(24,vi y),(27,vp (some ((sA.add 1).add (Int.toNat o*4))))] pk<|have⟨q13,h⟩:=h;Ai (some 28) (bD 79 (vp (some ((sA.add 1).add (Int.toNat o*4)))) (vi y)) (vp (some (((sA.add 1).add (Int.toNat o*4)).add (Int.toNat y*1)))) (λ_=>by kernel_rfl) (λw _=>bO (P:=prog) (t:=79) (elem:=3) (sz:=1) (n:=4) (a:=((sA.add 1).add (Int.toNat o*4))) (k:=.i64) (i:=y) underlying79 (λ_=>by kernel_rfl) q13.1 q13.2 w) [(0,vp (some sA)),(1,vi s),(5,vp (pa b)),(19,.bool true),(28,vp (some (((sA.add 1).add (Int.toNat o*4)).add (Int.toNat y*1))))] pk<|have⟨u,q14,h⟩:=h;BS (some 29) 3 q14 [(0,Vq sA),(1,vi s),(5,vp (pa b)),(19,VT),(29,vi u)]<|u3 30 (vi s) []<|u3 31 (vi (zY (s+1))) [30]<|u3 32 (.bool (u==(zY (s+1)))) [29,31]<|u3 33 (.bool (u==(zY (s+1)))) [19,32]<|mW [(0,Vq sA),(1,vi s),(5,vp (pa b)),(33,.bool (u==(zY (s+1))))] sk<|Al<|qx h (λc15 h=>?_) (λc15 h=>?_)
  ·refine aJ 33 (zK c15)<|have⟨m,q17,q,q18,q19,q20,h⟩:=h;yq 5 (Code.ops zC) [(9,(ad b),[vi m]),(9,((ad b).add 1),[vi q])] 10 (bv 10 0) (show aE _ _ _ from⟨⟨q17,trivial⟩,⟨q18,trivial⟩,trivial⟩)<|y9 0 (some 34) (vp (some sA)) (bv 10 1) [(0,vp (some sA)),(1,vi s),(5,vp (pa b)),(34,vp (some sA))]<|aG 1 35 (vp (pa b)) (bv 10 3) []<|nc 2 36 (vi m) (bv 10 7) [35] (aQ 3 (vp (pa b))) (yY 9 yX)<|aG 3 37 (vp (some ((ad b).add 1))) (bv 10 15) [5]<|nc 4 38 (vi q) (bv 10 31) [37] (aQ 3 (vp (some ((ad b).add 1)))) (yY 9 yQ)<|aG 5 39 (vp (some sA)) (bv 10 63) [34]<|aG 6 40 (vp (some (sA.add 1))) (bv 10 127) [39]<|nc 7 41 (vp (some ((sA.add 1).add (Int.toNat m*4)))) (bv 10 255) [36,40] (bD 80 (vp (some (sA.add 1))) (vi m)) (λ_ w _ _ _=>bO (P:=prog) (t:=80) (elem:=79) (sz:=4) (n:=5) (a:=(sA.add 1)) (k:=.i64) (i:=m) underlying80 (λ_=>by kernel_rfl) q19.1 q19.2 w)<|nc 8 42 (vp (some (((sA.add 1).add (Int.toNat m*4)).add (Int.toNat q*1)))) (bv 10 511) [38,41] (bD 79 (vp (some ((sA.add 1).add (Int.toNat m*4)))) (vi q)) (λ_ w _ _ _=>bO (P:=prog) (t:=79) (elem:=3) (sz:=1) (n:=4) (a:=((sA.add 1).add (Int.toNat m*4))) (k:=.i64) (i:=q) underlying79 (λ_=>by kernel_rfl) q20.1 q20.2 w)<|have⟨q22,h⟩:=h;fF 9 none (bv 10 1023) (jH 3 (Vq (((sA.add 1).add (Int.toNat m*4)).add (Int.toNat q*1))) (vi 0)) (λHz=>Hz=aP H4 (((sA.add 1).add (Int.toNat m*4)).add (Int.toNat q*1)) [vi 0] 0) (by kernel_rfl) (λ_=>by kernel_rfl) (iO [vi 0] 1 (by kernel_rfl) (by kernel_rfl) (λ_=>by kernel_rfl) (by kernel_rfl) q22) (by kernel_rfl)<|λH5 e21=>have h:=h H5 e21;⟨[(0,Vq sA),(1,vi s)],pk,(show aE _ _ _ from⟨trivial,trivial,trivial⟩),?_⟩
   exact eP [(0,Vq sA),(1,vi s)] sk<|yz<|aC<|ar 6<|u8 3 [(1,vi s),(45,Vq sA)]<|have⟨af,q23,h⟩:=h;hH 46 78 q23 [45]<|eH 1 [1] [(47,vi s)]<|yT 48 (λah=>[(48,vi ah)]) h λah H6 h=>hV 1 [4] [vi ah] hQ h
  exact aK 33 (zJ c15)<|kd<|ar 6<|u8 3 [(1,vi s),(45,Vq sA)]<|have⟨z,q24,h⟩:=h;hH 46 78 q24 [45]<|eH 1 [1] [(47,vi s)]<|yT 48 (λae=>[(48,vi ae)]) h λae H7 h=>hV 1 [4] [vi ae] hQ h
 exact AO 19 (zZ c8)<|u3 20 (undef) []<|u3 21 (undef) []<|u3 22 (undef) [21]<|u3 23 (undef) []<|u3 24 (undef) [23]<|u3 25 (undef) [20]<|u3 26 (undef) [25]<|u3 27 (undef) [22,26]<|u3 28 (undef) [24,27]<|u3 29 (undef) [28]<|u3 30 (undef) []<|u3 31 (undef) [30]<|u3 32 (undef) [29,31]<|u3 33 VF [19,32]<|mW [(0,Vq sA),(1,vi s),(5,vp (pa b)),(33,VF)] sk<|Al<|yn 33<|kd<|ar 6<|u8 3 [(1,vi s),(45,Vq sA)]<|have⟨aa,q25,h⟩:=h;hH 46 78 q25 [45]<|eH 1 [1] [(47,vi s)]<|yT 48 (λac=>[(48,vi ac)]) h λac H8 h=>hV 1 [4] [vi ac] hQ h
def eM.K0:=Func.code f151
def eM.K2:=cb K0
def eM.K4:=cb K2
def eM.K11:=ca K4
def eM.pt(s:zW)(H:zV)(R:zv):Prop:=
 fE s (
 R (vp none) H) (λsA=>
 ∃x,hat H sA=some (vp x)/\
 ∃n r t f a aa m p i k g j e z y ab d q o u,aM H (sA.add 1) 0 [vi n,vi r,vi t,vi f,vi a,vi aa,vi m,vi p,vi i,vi k,vi g,vi j,vi e,vi z,vi y,vi ab,vi d,vi q,vi o,vi u]/\
 iH.C x H (λv H1=> ∃ac,v=vp ac/\aM H1 (sA.add 1) 0 [vi n,vi r,vi t,vi f,vi a,vi aa,vi m,vi p,vi i,vi k,vi g,vi j,vi e,vi z,vi y,vi ab,vi d,vi q,vi o,vi u]/\
 ∀b H2,b=H1.size->H2=H1.push (.cells #[vp ac,vi n,vi r,vi t,vi f,vi a,vi aa,vi m,vi p,vi i,vi k,vi g,vi j,vi e,vi z,vi y,vi ab,vi d,vi q,vi o,vi u] 82)->
 R (Vq (ad b)) H2))
theorem eM.link(h:pt d H R):C d H R:=by
 refine p0 K0 16 func151 ?_
 intro w0 Q hQ
 unfold pt at h
 refine kT [(0,vp d)]<|ar 0<|eT 1 [] []<|ge<|ar 1<|eH 1 [] [(3,vp d)] ?_
 rcases d with _ | sA
 ·rw[onPtr_none]at h
  exact u5 1 [(0,vp none),(4,VT)]<|wc 4<|ar 2<|hV 1 [2] [vp none] hQ h
 rw[onPtr_some]at h
 refine u5 1 [(0,Vq sA),(4,VF)]<|yn 4<|kd<|ge ?_
 obtain⟨x,q1,n,r,t,f,a,aa,m,p,i,k,g,j,e,z,y,ab,s,q,o,u,q2,h⟩:=h
 refine yq 3 (Code.ops K11) [(4,sA,[vp x]),(10,(sA.add 1),[vi n,vi r,vi t,vi f,vi a,vi aa,vi m,vi p,vi i,vi k,vi g,vi j,vi e,vi z,vi y,vi ab,vi s,vi q,vi o,vi u])] 12 (bv 12 0) (show aE _ _ _ from⟨⟨q1,trivial⟩,q2,trivial⟩)<|y9 0 (some 5) (Vq sA) (bv 12 1) [(0,Vq sA),(5,Vq sA)]<|aG 1 6 (Vq sA) (bv 12 3) [5]<|aG 2 7 (Vq sA) (bv 12 7) [6]<|nc 3 8 (vp x) (bv 12 15) [7] (aQ 78 (Vq sA)) (yY 4 yX)<|aG 5 10 (Vq sA) (bv 12 47) [0]<|aG 6 11 (Vq sA) (bv 12 111) [10]<|aG 7 12 (Vq (sA.add 1)) (bv 12 239) [11]<|nc 8 13 (.agg #[vi n,vi r,vi t,vi f,vi a,vi aa,vi m,vi p,vi i,vi k,vi g,vi j,vi e,vi z,vi y,vi ab,vi s,vi q,vi o,vi u]) (bv 12 495) [12] (aQ 80 (Vq (sA.add 1))) (lE 10 (λ_=>by kernel_rfl) (λ_=>by kernel_rfl) yQ (.inl (by kernel_rfl)))<|yx 4 (some 9) (bv 12 511) 157 #[vp x] h ?_;clear h
 rintro v H1 ⟨ac,rfl,f3,h⟩
 refine⟨[(9,vp ac),(13,.agg #[vi n,vi r,vi t,vi f,vi a,vi aa,vi m,vi p,vi i,vi k,vi g,vi j,vi e,vi z,vi y,vi ab,vi s,vi q,vi o,vi u])],pk,(show aE _ _ _ from⟨trivial,f3,trivial⟩),?_⟩
 refine zh 9 (some 14) (.agg #[vp ac,vi n,vi r,vi t,vi f,vi a,vi aa,vi m,vi p,vi i,vi k,vi g,vi j,vi e,vi z,vi y,vi ab,vi s,vi q,vi o,vi u]) (bv 12 1023) [(14,.agg #[vp ac,vi n,vi r,vi t,vi f,vi a,vi aa,vi m,vi p,vi i,vi k,vi g,vi j,vi e,vi z,vi y,vi ab,vi s,vi q,vi o,vi u])] (pure (.value (.agg #[vp ac,vi n,vi r,vi t,vi f,vi a,vi aa,vi m,vi p,vi i,vi k,vi g,vi j,vi e,vi z,vi y,vi ab,vi s,vi q,vi o,vi u])):Sem Next) (λ_ _ _ _ _=>rfl)<|mX 10 (some 15) (bv 12 2047) (λb=>vp (pa b)) (.cells #[vp ac,vi n,vi r,vi t,vi f,vi a,vi aa,vi m,vi p,vi i,vi k,vi g,vi j,vi e,vi z,vi y,vi ab,vi s,vi q,vi o,vi u] 82) (by kernel_rfl) (λ_=>by kernel_rfl) (by kernel_rfl)<|λb H2 e4 e5=>have h:=h b H2 e4 e5;⟨[(15,vp (pa b))],pk,(show aE _ _ _ from⟨trivial,trivial,trivial⟩),?_⟩
 exact zh 11 (some 2) (vp (pa b)) (bv 12 4095) [(2,vp (pa b))] (pure (.value (vp (pa b))):Sem Next) (λ_ _ _ _ _=>rfl)<|eP [(2,vp (pa b))] sk<|yz<|aC<|iV [2] [vp (pa b)] hQ h
variable{H:zV}{d:zW}{R:zv}{i:Int}
namespace eI
def K0:=Func.code f49
def K2:=cb K0
def K4:=cb K2
def zd:=cb K4
def Ad:=ca zd
def Ap:=cb Ad
def zC:=ca Ap
def zT:=ca zC
def zL:=cb zT
def Ak:=cb zL
def Ax:=ca Ak
def Ag:=ca Ax
def Am:=cb Ag
def zI:=cb Am
def zN:=cb zI
def Bf:=ca zN
def AD:=ca Bf
end eI
def eI.pt(c:zW)(g:Int)(H:zV)(R:zv):Prop:=
 cS.C c H (λv H1=> ∃x,v=.bool x/\
 if x=true then(
 R VN H1)
 else
 ∃cA,c=some cA/\
 ∃aj,hat H1 cA=some (vp aj)/\
 ∃al,aj=some al/\
 ∃ah,hat H1 al=some (vp ah)/\
 cF.C ah none 0 0 H1 (λao H2=> ∃xB xN xC,ao=vs xB xN xC/\
 ∃(am:zW->Nat->Nat->zw) (m19:zW->Nat->Nat->Int->zV->Nat),am none 0 0 0 H2/\ ∀lB lN lC s23 H3,am lB lN lC s23 H3->
 if s23< (xN:Int)then(
 ∃d,xB=some d/\
 yZ s23 xN/\
 ∃e,hat H3 (d.add (Int.toNat s23*1))=some (vi e)/\
 ∃ak,hat H3 cA=some (vp ak)/\
 ∃an,ak=some an/\
 ∃ae,hat H3 an=some (vp ae)/\
 bA.C ae e H3 (λaq H4=> ∃ab y ac u s r q rb,aq=.tuple #[.agg #[vi ab,vi y,vi ac,vi u,vi s,vi r,vi q],.bool rb]/\
 ∀b H5,b=H4.size->H5=H4.push (.cells #[vi 0,vi 0,vi 0,vi 0,vi 0,vi 0,vi 0] 108)->
 (aH H5 (ad b) 0 7)/\ ∀H6,H6=aP H5 (ad b) [vi ab,vi y,vi ac,vi u,vi s,vi r,vi q] 0->
 ∃p j m o,aM H6 ((ad b).add 3) 0 [vi p,vi j,vi m,vi o]/\
 ∃(ai:zW->Nat->Nat->zw) (m36:zW->Nat->Nat->Int->zV->Nat),ai lB lN lC 0 H6/\ ∀f lN_2 lC_2 s41 H7,ai f lN_2 lC_2 s41 H7->
 if s41<4 then(
 ∃z,((0<=s41/\s41< (4:Int))/\(#[vi p,vi j,vi m,vi o]:Array Value)[Int.toNat s41]?=some (vi z))/\
 ∃aa,hat H7 (ad b)=some (vi aa)/\
 if((decide (aa>g)) && (decide (z<=g)))=true then(
 ∀ag H8,ag=H7.size->H8=H7.push (.cells #[vi e,vi s41] 127)->
 bI 2 127 16 [vi 0,vi 0] f lN_2 lC_2 (some (ad ag)) 1 H8 (λap af H9=>
 (ai ap (lN_2+1) af (zY (s41+1)) H9/\m36 ap (lN_2+1) af (zY (s41+1)) H9<m36 f lN_2 lC_2 s41 H7)))
 else
 (ai f lN_2 lC_2 (zY (s41+1)) H7/\m36 f lN_2 lC_2 (zY (s41+1)) H7<m36 f lN_2 lC_2 s41 H7))
 else
 (am f lN_2 lC_2 (zY (s23+1)) H7/\m19 f lN_2 lC_2 (zY (s23+1)) H7<m19 lB lN lC s23 H3)))
 else
 R (vs lB lN lC) H3))
theorem eI.link(h:pt d i H R):C d i H R:=by
 refine p0 K0 63 func49 ?_
 intro w0 Q hQ
 unfold pt zY at h
 refine kT [(0,vp d),(1,vi i)]<|ar 0<|eT 1 [] []<|ge<|ar 1<|eH 1 [] [(12,vp d)]<|sa 13 [12] h λx H1 h=>ym<|qx h (λc1 h=>?_) (λc1 h=>?_)
 ·exact aJ 13 c1<|ar 2<|hV 1 [4] [VN] hQ h
 refine aK 13 (zZ c1)<|kd<|ar 3<|eT 1 [13] [(5,VN)]<|ge<|ar 4<|eH 1 [] [(14,vp d)] ?_
 obtain⟨cA,rfl,ha⟩:=h
 refine eH 2 [0,14] [(0,Vq cA),(16,Vq cA)]<|have⟨aj,q3,h⟩:=ha;hH 17 52 q3 [16] ?_
 obtain⟨al,rfl,hb⟩:=h
 refine eH 2 [17] [(19,Vq al)]<|have⟨ah,q4,h⟩:=hb;hH 20 78 q4 [19]<|zt 21 [20] h λxB xN xC H2 h=>eT 2 [] [(22,vi xN),(23,vi 0)]<|o0 0<|have⟨am,m19,i5,i6⟩:=h;bJ (x:=zT) (σ:=zW×Nat×Nat×Int) (λs_=> [(0,Vq cA),(1,vi i),(5,vs s_.1 s_.2.1 s_.2.2.1),(21,vs xB xN xC),(22,vi xN),(23,vi s_.2.2.2)]) (λs_ H=>am s_.1 s_.2.1 s_.2.2.1 s_.2.2.2 H) (λs_ H=>m19 s_.1 s_.2.1 s_.2.2.1 s_.2.2.2 H) ((none,0,0,0):zW×Nat×Nat×Int) (by kernel_rfl) i5 sk ?_
 rintro⟨lB,lN,lC,s23⟩ H3 i7
 have h:=i6 lB lN lC s23 H3 i7
 refine kT [(0,Vq cA),(1,vi i),(5,vs lB lN lC),(21,vs xB xN xC),(22,vi xN),(23,vi s23)]<|ar 5<|eT 1 [] [(24,.bool (decide (s23< (xN:Int))))]<|ge<|qx h (λc8 h=>?_) (λc8 h=>?_)
 ·refine aJ 24 (zX c8)<|kd<|ge<|o0 1<|ar 6<|yA [24] [] ?_
  obtain⟨g,rfl,q10,hc⟩:=h
  refine yp (some 25) 75 3 1 g xN xC .i64 s23 underlying75 q10.1 q10.2 [21] [(21,vs (some g) xN xC),(25,Vq (g.add (Int.toNat s23*1)))]<|have⟨e,q11,h⟩:=hc;hH 26 3 q11 [25]<|eT 1 [26] [(7,vi e)]<|ar 7<|eH 3 [] [(30,Vq cA)]<|have⟨ak,q12,h⟩:=h;hH 31 52 q12 [30] ?_
  obtain⟨an,rfl,hd⟩:=h
  refine eH 2 [31] [(33,Vq an)]<|have⟨ae,q13,h⟩:=hd;hH 34 78 q13 [33]<|eH 1 [] [(35,vi e)]<|zE 36 [34,35] h λab y ac u s r q rb H4 h=>eH 3 [36] [(37,.agg #[vi ab,vi y,vi ac,vi u,vi s,vi r,vi q]),(38,.bool rb)]<|sv (some 8) (λb=>vp (pa b)) (.cells #[vi 0,vi 0,vi 0,vi 0,vi 0,vi 0,vi 0] 108)<|λb H5 e14 e15=>have h:=h b H5 e14 e15;kb [] [(8,vp (pa b))]<|have⟨q17,h⟩:=h;fK 108 [vi ab,vi y,vi ac,vi u,vi s,vi r,vi q] q17<|λH6 e16=>have h:=h H6 e16;kb [37] []<|eT 1 [38] []<|ar 8<|eH 1 [] [(39,Vq ((ad b).add 3))]<|have⟨p,j,m,o,q18,h⟩:=h;zr 40 79 q18 [39]<|eT 1 [] [(41,vi 0)]<|o0 2<|have⟨ai,m36,i19,i20⟩:=h;bJ (x:=AD) (σ:=zW×Nat×Nat×Int) (λs_=> [(0,Vq cA),(1,vi i),(5,vs s_.1 s_.2.1 s_.2.2.1),(7,vi e),(8,vp (pa b)),(21,vs (some g) xN xC),(22,vi xN),(23,vi s23),(40,.agg #[vi p,vi j,vi m,vi o]),(41,vi s_.2.2.2)]) (λs_ H=>ai s_.1 s_.2.1 s_.2.2.1 s_.2.2.2 H) (λs_ H=>m36 s_.1 s_.2.1 s_.2.2.1 s_.2.2.2 H) ((lB,lN,lC,0):zW×Nat×Nat×Int) (by kernel_rfl) i19 sk ?_
  rintro⟨f,lN_2,lC_2,s41⟩ H7 i21
  have h:=i20 f lN_2 lC_2 s41 H7 i21
  refine kT [(0,Vq cA),(1,vi i),(5,vs f lN_2 lC_2),(7,vi e),(8,vp (pa b)),(21,vs (some g) xN xC),(22,vi xN),(23,vi s23),(40,.agg #[vi p,vi j,vi m,vi o]),(41,vi s41)]<|ar 9<|eT 1 [] [(42,.bool (decide (s41<4)))]<|ge<|qx h (λc22 h=>?_) (λc22 h=>?_)
  ·refine aJ 42 (zX c22)<|kd<|ge<|o0 3<|ar 10<|eH 1 [42] [(43,vi s41)]<|have⟨z,q24,h⟩:=h;yI 44 (mD 79 (.agg #[vi p,vi j,vi m,vi o]) (vi s41)) (vi z) (λw _=>jZ (P:=prog) (t:=79) (elem:=3) (n:=4) underlying79 (λ_=>by kernel_rfl) (λ_=>by kernel_rfl) q24.1.1 q24.1.2 q24.2 w) []<|eT 2 [43,44] [(10,vi s41),(11,vi z)]<|ar 11<|eH 1 [] [(45,vp (pa b))]<|have⟨aa,q25,h⟩:=h;hH 46 3 q25 [45]<|eH 3 [46] [(49,.bool (decide (aa>i)))]<|iX [(0,Vq cA),(1,vi i),(5,vs f lN_2 lC_2),(7,vi e),(8,vp (pa b)),(10,vi s41),(21,vs (some g) xN xC),(22,vi xN),(23,vi s23),(40,.agg #[vi p,vi j,vi m,vi o]),(41,vi s41),(53,.bool ((decide (aa>i)) && (decide (z<=i))))] ?_ ?_
   ·refine aC<|qx h (λc28 h=>?_) (λc28 h=>?_)
    ·refine aJ 53 c28<|nx 12<|u8 4 [(0,Vq cA),(1,vi i),(7,vi e),(8,vp (pa b)),(21,vs (some g) xN xC),(22,vi xN),(23,vi s23),(40,.agg #[vi p,vi j,vi m,vi o]),(41,vi s41),(54,vs f lN_2 lC_2),(57,.agg #[vi e,vi s41])]<|sv (some 58) (λb=>vs (pa b) 1 1) (.cells #[vi e,vi s41] 127) ?_
     intro ag H8 e30 e31
     replace h:=h ag H8 e30 e31
     refine kb [57] [(58,vs (pa ag) 1 1)]<|yO (some 59) (cG #[104,104] 104 #[vs f lN_2 lC_2,vs (pa ag) 1 1]) _ (λ_=>by kernel_rfl) (bK (T:=127) (sz:=2) (bytes:=16) (zero:=(.agg #[vi 0,vi 0]:Value)) underlying104 underlying104 rfl (show prog.info? 127=some t127 from by kernel_rfl) (by kernel_rfl) (by kernel_rfl) (by decide) (by kernel_rfl) (by first | exact h | (simpa only[Value.cells,List.toList_toArray]using h))) ?_;clear h
     rintro _ H9 ⟨ap,af,rfl,h⟩
     exact kb [54,58] [(59,vs ap (lN_2+1) af)]<|eH 1 [59] [(5,vs ap (lN_2+1) af)]<|zq<|aA<|aC<|nx 13<|eT 2 [41] [(41,vi (zY (s41+1)))]<|aR ((ap,(lN_2+1),af,(zY (s41+1))):zW×Nat×Nat×Int) sk h
    exact aK 53 (zZ c28)<|yR<|aA<|aC<|nx 13<|u5 2 [(0,Vq cA),(1,vi i),(5,vs f lN_2 lC_2),(7,vi e),(8,vp (pa b)),(21,vs (some g) xN xC),(22,vi xN),(23,vi s23),(40,.agg #[vi p,vi j,vi m,vi o]),(41,vi (zY (s41+1)))]<|aR ((f,lN_2,lC_2,(zY (s41+1))):zW×Nat×Nat×Int) sk h
   refine λhk=>Ab [(0,Vq cA),(1,vi i),(5,vs f lN_2 lC_2),(7,vi e),(8,vp (pa b)),(10,vi s41),(11,vi z),(21,vs (some g) xN xC),(22,vi xN),(23,vi s23),(40,.agg #[vi p,vi j,vi m,vi o]),(41,vi s41),(49,.bool (decide (aa>i)))] ?_
   by_cases c26:aa>i
   ·have b27:(decide (aa>i))=true:=zX c26
    exact bW [(0,Vq cA),(1,vi i),(5,vs f lN_2 lC_2),(7,vi e),(8,vp (pa b)),(10,vi s41),(11,vi z),(21,vs (some g) xN xC),(22,vi xN),(23,vi s23),(40,.agg #[vi p,vi j,vi m,vi o]),(41,vi s41),(49,VT)] (by rw[b27])<|eH 4 [11,49] [(53,.bool (decide (z<=i)))]<|zq<|vb 53 (b:=(decide (z<=i))) (v:=((decide (aa>i)) && (decide (z<=i)))) (by simp only[b27,BL])<|hk
   have b27:(decide (aa>i))=false:=zQ c26
   exact bW [(0,Vq cA),(1,vi i),(5,vs f lN_2 lC_2),(7,vi e),(8,vp (pa b)),(10,vi s41),(11,vi z),(21,vs (some g) xN xC),(22,vi xN),(23,vi s23),(40,.agg #[vi p,vi j,vi m,vi o]),(41,vi s41),(49,VF)] (by rw[b27])<|eH 4 [11,49] [(53,VF)]<|zq<|vb 53 (b:=false) (v:=((decide (aa>i)) && (decide (z<=i)))) (by simp only[b27,BL])<|hk
  exact aK 42 (zQ c22)<|zk 2<|aB<|aB<|aN<|aA<|aC<|nx 14<|eT 2 [7,8,23,40,41,42] [(23,vi (zY (s23+1)))]<|aR ((f,lN_2,lC_2,(zY (s23+1))):zW×Nat×Nat×Int) sk h
 exact aK 24 (zQ c8)<|zk 0<|aB<|aB<|aN<|aC<|ar 15<|hV 2 [4] [vs lB lN lC] hQ h
namespace dJ
def K0:=Func.code f64
def K2:=cb K0
def K4:=cb K2
def zd:=cb K4
def zG:=cb zd
def Ag:=cb zG
def Bc:=ca Ag
def Am:=cb Ag
def zI:=cb Bc
def AB:=ca zI
def zN:=ca AB
def Bf:=cb AB
def Bp:=ca Am
end dJ
def dJ.pt(c:zW)(d a:Int)(H:zV)(R:zv):Prop:=
 ∀b H1,b=H.size->H1=H.push (.cells #[vp c] 49)->
 ∃x,hat H1 (ad b)=some (vp x)/\
 cS.C x H1 (λv H2=> ∃am,v=.bool am/\
 if am=true then(
 R (vi 19) H2)
 else
 ∃ap,hat H2 (ad b)=some (vp ap)/\
 ∃aq,ap=some aq/\
 ∃au,hat H2 aq=some (vp au)/\
 ∃av,au=some av/\
 ∃ao,hat H2 av=some (vp ao)/\
 bA.C ao d H2 (λa1 H3=> ∃u r ah m k j i rb,a1=.tuple #[.agg #[vi u,vi r,vi ah,vi m,vi k,vi j,vi i],.bool rb]/\
 ∀f H4,f=H3.size->H4=H3.push (.cells #[vi 0,vi 0,vi 0,vi 0,vi 0,vi 0,vi 0] 108)->
 (aH H4 (ad f) 0 7)/\ ∀H5,H5=aP H4 (ad f) [vi u,vi r,vi ah,vi m,vi k,vi j,vi i] 0->
 if rb=true then(
 if((decide (a<0)) || (decide (a>=4)))=true then(
 R (vi 1) H5)
 else
 ∀e H6,e=H5.size->H6=H5.push (.cells #[vi 0] 3)->
 (aH H6 (ad e) 0 1)/\ ∀H7,H7=aP H6 (ad e) [vi 5] 0->
 ∃al,hat H7 (ad b)=some (vp al)/\
 fH.C al d a H7 (λak H8=>ak=ak/\
 ∀(rc:LoopState->Option Code->Obj) (lp:Nat) (H9:zV),lp=H8.size+1->H9=(H8.push (.deferred (some []))).push (rc .ready none)->
 ∀vY,(∀(ab:Int) (H10:zV) (vRy:zv),H10[lp]?=some (rc .ready none)->
 (H10[lp]?=some (rc .ready none)/\ ∀an,an=aL H10 lp (rc .busy none)->
 ∃ag,hat an (ad b)=some (vp ag)/\
 ∃ac y xN n o p q,aM an (ad f) 0 [vi ac,vi y,vi xN,vi n,vi o,vi p,vi q]/\
 ∃ai,hat an (ad e)=some (vi ai)/\
 cM.C ag ac y xN n o p q ab ai an (λa5 az=> ∃ae,a5=vi ae/\
 (aH az (ad e) 0 1)/\ ∀aw,aw=aP az (ad e) [vi ae] 0->
 aw[lp]?=some (rc .busy none)/\
 vRy VT (aL aw lp (rc .ready none))))->
 FC prog vY #[vu ab] H10 vRy)->
 FE prog ak #[vY] H9 (λ_ a0=>
 (a0[lp]?=some (rc .ready none)/\ ∀aj,aj=aL a0 lp (rc .exhausted none)->
 ∃ay,hat aj (ad b)=some (vp ay)/\
 ∃t,ay=some t/\
 ∃ax,hat aj t=some (vp ax)/\
 ∃s,ax=some s/\
 ∃z,hat aj s=some (vp z)/\
 ∃af,hat aj (ad e)=some (vi af)/\
 gT.C z d a af aj (λa2 a4=> ∃aa,a2=vi aa/\
 Shut (H8.size::[]) a4 (λa3=>
 R (vi aa) a3))))))
 else
 R (vi 19) H5))
theorem dJ.link{a:Int}(h:pt d i a H R):C d i a H R:=by
 refine p0 K0 56 func64 ?_
 intro w0 Q hQ
 unfold pt at h
 refine kT [(0,vp d),(1,vi i),(2,vi a)]<|ar 0<|sv (some 3) (λb=>vp (pa b)) (.cells #[vp d] 49)<|λb H1 e1 e2=>have h:=h b H1 e1 e2;kb [0] [(3,vp (pa b))]<|eT 1 [] []<|ge<|ar 1<|have⟨x,q3,h⟩:=h;hH 11 49 q3 []<|sa 12 [11] h λam H2 h=>ym<|qx h (λc4 h=>?_) (λc4 h=>?_)
 ·exact aJ 12 c4<|ar 2<|hV 1 [6] [vi 19] hQ h
 refine aK 12 (zZ c4)<|kd<|ar 3<|yA [12] []<|have⟨ap,q6,h⟩:=h;hH 14 49 q6 [] ?_
 obtain⟨aq,rfl,ha⟩:=h
 refine eH 2 [14] [(16,Vq aq)]<|have⟨au,q7,h⟩:=ha;hH 17 52 q7 [16] ?_
 obtain⟨av,rfl,hb⟩:=h
 refine eH 2 [17] [(19,Vq av)]<|have⟨ao,q8,h⟩:=hb;hH 20 78 q8 [19]<|eH 1 [] [(21,vi i)]<|zE 22 [20,21] h λu r ah m k j c rb H3 h=>eH 3 [22] [(23,.agg #[vi u,vi r,vi ah,vi m,vi k,vi j,vi c]),(24,.bool rb)]<|sv (some 7) (λb=>vp (pa b)) (.cells #[vi 0,vi 0,vi 0,vi 0,vi 0,vi 0,vi 0] 108)<|λf H4 e9 e10=>have h:=h f H4 e9 e10;kb [] [(7,vp (pa f))]<|have⟨q12,h⟩:=h;fK 108 [vi u,vi r,vi ah,vi m,vi k,vi j,vi c] q12<|λH5 e11=>have h:=h H5 e11;kb [23] []<|eT 1 [24] [(8,.bool rb)]<|ge<|o0 0<|ar 4<|eT 3 [8] [(25,.bool (!rb))]<|qx h (λc13 h=>?_) (λc13 h=>?_)
 ·refine aK 25 (congrArg Bool.not (c13))<|ar 6<|iX [(1,vi i),(2,vi a),(3,vp (pa b)),(7,vp (pa f)),(28,.bool ((decide (a<0)) || (decide (a>=4))))] ?_ ?_
  ·refine aC<|qx h (λc17 h=>?_) (λc17 h=>?_)
   ·exact aJ 28 c17<|ar 7<|hV 1 [6] [vi 1] hQ h
   refine aK 28 (zZ c17)<|yR<|aA<|aC<|ar 8<|Ab [(1,vi i),(2,vi a),(3,vp (pa b)),(7,vp (pa f))]<|sv (some 9) (λb=>vp (pa b)) (.cells #[vi 0] 3)<|λe H6 e19 e20=>have h:=h e H6 e19 e20;kb [] [(9,vp (pa e))]<|have⟨q22,h⟩:=h;eQ 3 (vi 5) q22<|λH7 e21=>have h:=h H7 e21;kb [] []<|ym<|ge<|ar 9 ?_
   obtain⟨al,q23,h⟩:=h
   refine hH 35 49 q23 []<|eH 2 [] [(36,vi i),(37,vi a)]<|zf (some 38) h ?_;clear h
   rintro ak H8 ⟨-,h⟩
   refine kb [35,36,37] [(38,ak)]<|ym<|o0 1<|ls (g:=.tmp 38) (ps:= #[39]) (assign:=zN) (body:=Bf) (ak) (by kernel_rfl) (by kernel_rfl) (by kernel_rfl)<|λrc lp H9 r24 e25 e26 y27=>FE.mono (h rc lp H9 e25 e26 (.func (.yield lp) #[] #[]) ?_) ?_
   ·clear h
    refine λab H10 vRy q28 h=>y27 #[vu ab] H10 vRy (by kernel_rfl) q28 (λw1x=>?_)
    refine zP [] [(39,vu ab)]<|nx 10<|eH 1 [1,2,38,39] [(10,vu ab)]<|zq<|have⟨q30,h⟩:=h;aC<|lr r24 q30<|λan e29=>have h:=h an e29;o0 2<|nx 11<|have⟨ag,q31,h⟩:=h;hH 40 49 q31 [3]<|have⟨ac,y,xN,n,o,p,q,q32,h⟩:=h;zr 41 108 q32 [7]<|eH 1 [10] [(42,vu ab)] ?_
    obtain⟨ai,q33,h⟩:=h
    refine hH 43 3 q33 []<|zf (some 44) h ?_;clear h
    rintro a5 az ⟨ae,rfl,h⟩
    refine⟨[(9,vp (pa e)),(44,vi ae)],pk,?_⟩
    refine have⟨q35,h⟩:=h;eQ 3 (vi ae) q35<|λaw e34=>have h:=h aw e34;⟨[],pk,?_⟩
    exact zq<|aA<|have⟨q36,h⟩:=h;bT r24 q36 h
   clear h y27
   rintro _ a0 (⟨q37,h⟩)
   refine .inl ⟨q37,λaj e42=>?_⟩
   refine have h:=h aj e42;kB (H8.size::[]) rfl<|zP [7,38] []<|aA<|aC<|ge ?_
   obtain⟨ay,q38,t,rfl,ax,q39,s,rfl,z,q40,af,q41,hc⟩:=h
   refine yq 12 (Code.ops Bp) [(10,(ad b),[Vq t]),(10,t,[Vq s]),(10,s,[vp z]),(10,(ad e),[vi af])] 12 (bv 12 0) (show aE _ _ _ from⟨⟨q38,trivial⟩,⟨q39,trivial⟩,⟨q40,trivial⟩,⟨q41,trivial⟩,trivial⟩)<|zh 0 (some 45) (Vq t) (bv 12 1) [(1,vi i),(2,vi a),(9,vp (pa e)),(45,Vq t)] (aQ 49 (vp (pa b))) (yY 10 yX)<|aG 1 46 (Vq t) (bv 12 3) [45]<|aG 2 47 (Vq t) (bv 12 7) [46]<|nc 3 48 (Vq s) (bv 12 15) [47] (aQ 52 (Vq t)) (yY 10 yQ)<|aG 4 49 (Vq s) (bv 12 31) [48]<|aG 5 50 (Vq s) (bv 12 63) [49]<|nc 6 51 (vp z) (bv 12 127) [50] (aQ 78 (Vq s)) (yY 10 yJ)<|aG 7 52 (vi i) (bv 12 255) [1]<|aG 8 53 (vi a) (bv 12 511) [2]<|nc 9 54 (vi af) (bv 12 1023) [9] (aQ 3 (vp (pa e))) (yY 10 yK)<|yx 10 (some 55) (bv 12 2047) 108 #[vp z,vi i,vi a,vi af] hc ?_;clear hc
   rintro a2 a4 ⟨aa,rfl,h⟩
   refine⟨[(55,vi aa)],pk,(show aE _ _ _ from⟨trivial,trivial,trivial,trivial,trivial⟩),?_⟩
   refine zh 11 (some 6) (vi aa) (bv 12 4095) [(6,vi aa)] (pure (.value (vi aa)):Sem Next) (λ_ _ _ _ _=>rfl)<|eP [(6,vi aa)] sk<|yz<|aC<|zx ?_
   show At _ _ _ _ _ (Q .ret)
   refine lk (fn:=f64) (H8.size::[]) hQ (Shut.mono (λa3 h=>?_) h)
   exact⟨[vi aa],(show bS _ _ _ [.tmp 6] _ from .tmp (by kernel_rfl) (.nil)),h⟩
  refine λhk=>u8 3 [(1,vi i),(2,vi a),(3,vp (pa b)),(7,vp (pa f)),(31,.bool (decide (a<0)))] ?_
  by_cases c15:a<0
  ·have b16:(decide (a<0))=true:=zX c15
   exact bW [(1,vi i),(2,vi a),(3,vp (pa b)),(7,vp (pa f)),(31,VT)] (by rw[b16])<|eH 4 [31] [(28,VT)]<|zq<|vb 28 (b:=true) (v:=((decide (a<0)) || (decide (a>=4)))) (by simp only[b16,BL])<|hk
  have b16:(decide (a<0))=false:=zQ c15
  exact bW [(1,vi i),(2,vi a),(3,vp (pa b)),(7,vp (pa f)),(31,VF)] (by rw[b16])<|eH 4 [31] [(28,.bool (decide (a>=4)))]<|zq<|vb 28 (b:=(decide (a>=4))) (v:=((decide (a<0)) || (decide (a>=4)))) (by simp only[b16,BL])<|hk
 exact aJ 25 (congrArg Bool.not (zZ c13))<|ar 5<|hV 1 [6] [vi 19] hQ h
def fH.K0:=Func.code f106
def fH.pt(c:zW)(f a:Int)(H:zV)(R:zv):Prop:=
 ∀b H1,b=H.size->H1=H.push (.cells #[vp c] 49)->
 ∀d H2,d=H1.size->H2=H1.push (.cells #[vi f] 3)->
 ∀e H3,e=H2.size->H3=H2.push (.cells #[vi a] 3)->
 R (.func (.func 134) #[] #[Vq (ad b),Vq (ad d),Vq (ad e)]) H3
theorem fH.link{a:Int}(h:pt d i a H R):C d i a H R:=by
 refine p0 K0 8 func106 ?_
 intro w0 Q hQ
 unfold pt at h
 exact kT [(0,vp d),(1,vi i),(2,vi a)]<|ar 0<|sv (some 3) (λb=>vp (pa b)) (.cells #[vp d] 49)<|λb H1 e1 e2=>have h:=h b H1 e1 e2;kb [0] [(3,vp (pa b))]<|sv (some 4) (λb=>vp (pa b)) (.cells #[vi i] 3)<|λf H2 e3 e4=>have h:=h f H2 e3 e4;kb [1] [(4,vp (pa f))]<|sv (some 5) (λb=>vp (pa b)) (.cells #[vi a] 3)<|λe H3 e5 e6=>have h:=h e H3 e5 e6;kb [2] [(5,vp (pa e))]<|eT 1 [] []<|ar 1<|hV 2 [6] [.func (.func 134) #[] #[vp (pa b),vp (pa f),vp (pa e)]] hQ h
namespace dZ
def K0:=Func.code f134
def K2:=cb K0
def K3:=ca K2
def K4:=ca K3
def K6:=cb K4
def K8:=cb K6
def K11:=ca K8
def Ad:=ca K11
def Bb:=cb Ad
def Ap:=ca Bb
end dZ
def dZ.pt(a:Value)(j i k:zW)(H:zV)(R:zv):Prop:=
 ∃(I5:zw) (m5:Int->zV->Nat),I5 0 H/\ ∀s8 H1,I5 s8 H1->
 if s8<16 then(
 ∃b,j=some b/\
 ∃x,hat H1 b=some (vp x)/\
 ∃xA,x=some xA/\
 ∃p,hat H1 xA=some (vp p)/\
 ∃n,p=some n/\
 ∃m,hat H1 n=some (vp m)/\
 ∃d,i=some d/\
 ∃f,hat H1 d=some (vi f)/\
 ∃e,k=some e/\
 ∃g,hat H1 e=some (vi g)/\
 cD.C m (zY ((zY ((zY (f*64))+(zY (g*16))))+s8)) H1 (λv H2=> ∃ra rb,v=.tuple #[vu ra,vi rb]/\
 if rb=0 then(
 FC prog a #[vu ra] H2 (λq H3=> ∃o,q=.bool o/\
 if o=true then(
 (I5 (zY (s8+1)) H3/\m5 (zY (s8+1)) H3<m5 s8 H1))
 else
 R (.tuple #[]) H3))
 else
 R (.tuple #[]) H2))
 else
 R (.tuple #[]) H1
theorem dZ.link{a:Value}{i k:zW}(h:pt a d i k H R):C a d i k H R:=by
 refine p0 K0 38 func134 ?_
 intro w0 Q hQ
 unfold pt zY at h
 refine kT [(0,a),(1,vp d),(2,vp i),(3,vp k)]<|ar 0<|eT 1 [] [(8,vi 0)]<|o0 0<|have⟨I5,m5,i1,i2⟩:=h;bJ (x:=K4) (σ:=Int) (λs_=> [(0,a),(1,vp d),(2,vp i),(3,vp k),(8,vi s_)]) (λs_ H=>I5 s_ H) (λs_ H=>m5 s_ H) (0:Int) (by kernel_rfl) i1 sk ?_
 rintro s8 H1 i3
 have h:=i2 s8 H1 i3
 refine kT [(0,a),(1,vp d),(2,vp i),(3,vp k),(8,vi s8)]<|ar 1<|eT 1 [] [(9,.bool (decide (s8<16)))]<|ge<|qx h (λc4 h=>?_) (λc4 h=>?_)
 ·refine aJ 9 (zX c4)<|kd<|ge<|o0 1<|ar 2<|eT 2 [9] [(5,vi s8)]<|ge ?_
  obtain⟨b,rfl,x,q6,xA,rfl,p,q7,n,rfl,m,q8,j,rfl,f,q9,e,rfl,g,q10,ha⟩:=h
  refine yq 3 (Code.ops Ap) [(14,b,[Vq xA]),(14,xA,[Vq n]),(14,n,[vp m]),(14,j,[vi f]),(14,e,[vi g])] 20 (bv 20 0) (show aE _ _ _ from⟨⟨q6,trivial⟩,⟨q7,trivial⟩,⟨q8,trivial⟩,⟨q9,trivial⟩,⟨q10,trivial⟩,trivial⟩)<|zh 0 (some 12) (Vq xA) (bv 20 1) [(0,a),(1,Vq b),(2,Vq j),(3,Vq e),(5,vi s8),(8,vi s8),(12,Vq xA)] (aQ 49 (Vq b)) (yY 14 yX)<|aG 1 13 (Vq xA) (bv 20 3) [12]<|aG 2 14 (Vq xA) (bv 20 7) [13]<|nc 3 15 (Vq n) (bv 20 15) [14] (aQ 52 (Vq xA)) (yY 14 yQ)<|aG 4 16 (Vq n) (bv 20 31) [15]<|aG 5 17 (Vq n) (bv 20 63) [16]<|nc 6 18 (vp m) (bv 20 127) [17] (aQ 78 (Vq n)) (yY 14 yJ)<|nc 7 19 (vi f) (bv 20 255) [] (aQ 3 (Vq j)) (yY 14 yK)<|aG 8 20 (vi (zY (f*64))) (bv 20 511) [19]<|nc 9 21 (vi g) (bv 20 1023) [] (aQ 3 (Vq e)) (yY 14 yV)<|aG 10 22 (vi (zY (g*16))) (bv 20 2047) [21]<|aG 11 23 (vi (zY ((zY (f*64))+(zY (g*16))))) (bv 20 4095) [20,22]<|aG 12 24 (vi s8) (bv 20 8191) [5]<|aG 13 25 (vi (zY ((zY ((zY (f*64))+(zY (g*16))))+s8))) (bv 20 16383) [23,24]<|yx 14 (some 26) (bv 20 32767) 33 #[vp m,vi (zY ((zY ((zY (f*64))+(zY (g*16))))+s8))] ha ?_;clear ha
  rintro v H2 ⟨ra,rb,rfl,h⟩
  refine⟨[(0,a),(1,Vq b),(2,Vq j),(3,Vq e),(8,vi s8),(26,.tuple #[vu ra,vi rb])],pk,(show aE _ _ _ from⟨trivial,trivial,trivial,trivial,trivial,trivial⟩),?_⟩
  refine zh 15 (some 11) (.tuple #[vu ra,vi rb]) (bv 20 65535) [(0,a),(1,Vq b),(2,Vq j),(3,Vq e),(8,vi s8),(11,.tuple #[vu ra,vi rb])] (pure (.value (.tuple #[vu ra,vi rb])):Sem Next) (λ_ _ _ _ _=>rfl)<|nc 16 27 (vu ra) (bv 20 131071) [] (pure (.value (vu ra)):Sem Next) (λ_ _ _ _ _=>rfl)<|nc 17 28 (vi rb) (bv 20 262143) [11] (pure (.value (vi rb)):Sem Next) (λ_ _ _ _ _=>rfl)<|nc 18 6 (vu ra) (bv 20 524287) [27] (pure (.value (vu ra)):Sem Next) (λ_ _ _ _ _=>rfl)<|nc 19 7 (vi rb) (bv 20 1048575) [28] (pure (.value (vi rb)):Sem Next) (λ_ _ _ _ _=>rfl)<|eP [(0,a),(1,Vq b),(2,Vq j),(3,Vq e),(6,vu ra),(7,vi rb),(8,vi s8)] sk<|yz<|aC<|ar 4<|u8 3 [(0,a),(1,Vq b),(2,Vq j),(3,Vq e),(6,vu ra),(8,vi s8),(31,.bool (rb !=0))]<|qx h (λc11 h=>?_) (λc11 h=>?_)
  ·have b12:(rb !=0)=false:=bne_eq_false_iff_eq.mpr c11
   refine bW [(0,a),(1,Vq b),(2,Vq j),(3,Vq e),(6,vu ra),(8,vi s8),(31,VF)] (by rw[b12]) ?_
   clear b12
   refine eH 2 [6] [(32,a),(33,vu ra)]<|mR (some 34) a #[vu ra] (λ_=>by kernel_rfl) h ?_;clear h
   rintro q H3 ⟨o,rfl,h⟩
   refine kb [32,33] [(34,.bool o)]<|eT 2 [31,34] [(36,.bool (!o))]<|qx h (λc13 h=>?_) (λc13 h=>?_)
   ·exact aK 36 (congrArg Bool.not (c13))<|yR<|aA<|aC<|nx 5<|eT 2 [8,36] [(8,vi (zY (s8+1)))]<|aR ((zY (s8+1)):Int) sk h
   exact aJ 36 (congrArg Bool.not (zZ c13))<|iV [] [] hQ h
  have b12:(rb !=0)=true:=bne_iff_ne.mpr c11
  refine bW [(0,a),(1,Vq b),(2,Vq j),(3,Vq e),(6,vu ra),(8,vi s8),(31,VT)] (by rw[b12]) ?_
  clear b12
  exact eT 5 [6,31] [(36,VT)]<|wc 36<|iV [] [] hQ h
 exact aK 9 (zQ c4)<|zk 0<|aB<|aB<|aN<|gF (fn:=f134) [] hQ (show bS _ _ _ [] _ from .nil) h
def fC.K0:=Func.code f139
def fC.pt(c:zW)(H:zV)(R:zv):Prop:=
 fE c (
 R (vp none) H) (λcA=>
 ∃x,hat H cA=some (vp x)/\
 eM.C x H (λv H1=> ∃a,v=vp a/\
 ∀b H2,b=H1.size->H2=H1.push (.cells #[vp a] 54)->
 R (Vq (ad b)) H2))
theorem fC.link(h:pt d H R):C d H R:=by
 refine p0 K0 12 func139 ?_
 intro w0 Q hQ
 unfold pt at h
 refine kT [(0,vp d)]<|ar 0<|eT 1 [] []<|ge<|ar 1<|eH 1 [] [(3,vp d)] ?_
 rcases d with _ | cA
 ·rw[onPtr_none]at h
  exact u5 1 [(0,vp none),(4,VT)]<|wc 4<|ar 2<|hV 1 [2] [vp none] hQ h
 rw[onPtr_some]at h
 refine u5 1 [(0,Vq cA),(4,VF)]<|yn 4<|kd<|ar 3<|u8 3 [(7,Vq cA)]<|have⟨x,q1,h⟩:=h;hH 8 52 q1 [7]<|yT 9 (λa=>[(9,vp a)]) h λa H1 h=>u8 1 [(10,.agg #[vp a])]<|sv (some 11) (λb=>vp (pa b)) (.cells #[vp a] 54)<|λb H2 e2 e3=>have h:=h b H2 e2 e3;⟨[(11,vp (pa b))],pk,?_⟩
 exact hV 1 [2] [vp (pa b)] hQ h
def dI.K0:=Func.code f110
def dI.pt(wv:Int)(H:zV)(R:zv):Prop:=
 ∀b H1,b=H.size->H1=H.push (.cells #[vi 0,vi 0,vi 0,vi 0,vu 0] 178)->
 if(zY (Int.tmod wv 8))=0 then(
 cO.C 60 H1 (λv H2=> ∃x,v=vu x/\
 if(IntKind.wrap .u64 (Int.tdiv wv 8))>=x then(
 cO.C 61 H2 (λbe H3=> ∃ak,be=vu ak/\
 (aH H3 (ad b) 0 5)/\ ∀H4,H4=aP H3 (ad b) [vi 1,vi 0,vi 0,vi (zY (0-(zY (IntKind.wrap .u64 (ak-(IntKind.wrap .u64 (Int.tdiv wv 8))))))),vu 0] 0->
 ∃am az rA rX an,aM H4 (ad b) 0 [vi am,vi az,vi rA,vi rX,vu an]/\
 R (.agg #[vi am,vi az,vi rA,vi rX,vu an]) H4))
 else
 (aH H2 (ad b) 0 5)/\ ∀H5,H5=aP H2 (ad b) [vi 1,vi 0,vi 0,vi (zY (IntKind.wrap .u64 (Int.tdiv wv 8))),vu 0] 0->
 ∃i ab a2 a7 s,aM H5 (ad b) 0 [vi i,vi ab,vi a2,vi a7,vu s]/\
 R (.agg #[vi i,vi ab,vi a2,vi a7,vu s]) H5))
 else
 ∃J:Bool->zV->Prop,(
 if(zY (Int.tmod wv 8))=1 then(
 J true H1)
 else
 if(zY (Int.tmod wv 8))=2 then(
 J true H1)
 else
 if(zY (Int.tmod wv 8))=3 then(
 J true H1)
 else
 J ((zY (Int.tmod wv 8))==6) H1)/\ ∀aj H6,J aj H6->
 if aj=true then(
 if(IntKind.wrap .u64 (Int.tdiv wv 8))<65536 then(
 (aH H6 (ad b) 0 5)/\ ∀H7,H7=aP H6 (ad b) [vi 2,vi (zY (Int.tmod wv 8)),vi (zY (IntKind.wrap .u64 (Int.tdiv wv 8))),vi 0,vu 0] 0->
 ∃g ah aw a3 y,aM H7 (ad b) 0 [vi g,vi ah,vi aw,vi a3,vu y]/\
 R (.agg #[vi g,vi ah,vi aw,vi a3,vu y]) H7)
 else
 (aH H6 (ad b) 0 5)/\ ∀H8,H8=aP H6 (ad b) [vi 0,vi 0,vi 0,vi 0,vu 0] 0->
 ∃j af aq ay o,aM H8 (ad b) 0 [vi j,vi af,vi aq,vi ay,vu o]/\
 R (.agg #[vi j,vi af,vi aq,vi ay,vu o]) H8)
 else
 if(zY (Int.tmod wv 8))=4 then(
 if((decide ((zY (Int.tmod (IntKind.wrap .u64 (Int.tdiv wv 8)) 32))<7)) && ((IntKind.wrap .u64 (Int.tdiv (IntKind.wrap .u64 (Int.tdiv wv 8)) 32))==0))=true then(
 (aH H6 (ad b) 0 5)/\ ∀H9,H9=aP H6 (ad b) [vi 3,vi 0,vi (zY (Int.tmod (IntKind.wrap .u64 (Int.tdiv wv 8)) 32)),vi 0,vu 0] 0->
 ∃z ag av a0 n,aM H9 (ad b) 0 [vi z,vi ag,vi av,vi a0,vu n]/\
 R (.agg #[vi z,vi ag,vi av,vi a0,vu n]) H9)
 else
 if((((zY (Int.tmod (IntKind.wrap .u64 (Int.tdiv wv 8)) 32))==7) && (decide ((IntKind.wrap .u64 (Int.tdiv (IntKind.wrap .u64 (Int.tdiv wv 8)) 32))<=1114111))) && ((decide ((IntKind.wrap .u64 (Int.tdiv (IntKind.wrap .u64 (Int.tdiv wv 8)) 32))<55296)) || (decide ((IntKind.wrap .u64 (Int.tdiv (IntKind.wrap .u64 (Int.tdiv wv 8)) 32))>57343))))=true then(
 (aH H6 (ad b) 0 5)/\ ∀bb,bb=aP H6 (ad b) [vi 4,vi 0,vi (zY (IntKind.wrap .u64 (Int.tdiv (IntKind.wrap .u64 (Int.tdiv wv 8)) 32))),vi 0,vu 0] 0->
 ∃q aa ax a8 u,aM bb (ad b) 0 [vi q,vi aa,vi ax,vi a8,vu u]/\
 R (.agg #[vi q,vi aa,vi ax,vi a8,vu u]) bb)
 else
 (aH H6 (ad b) 0 5)/\ ∀ba,ba=aP H6 (ad b) [vi 0,vi 0,vi 0,vi 0,vu 0] 0->
 ∃p ae a4 a5 k,aM ba (ad b) 0 [vi p,vi ae,vi a4,vi a5,vu k]/\
 R (.agg #[vi p,vi ae,vi a4,vi a5,vu k]) ba)
 else
 if(zY (Int.tmod wv 8))=5 then(
 if(((decide ((zY (Int.tmod (IntKind.wrap .u64 (Int.tdiv wv 8)) 32))>=1)) && (decide ((zY (Int.tmod (IntKind.wrap .u64 (Int.tdiv wv 8)) 32))<=13))) && (decide ((zY (Int.tmod (IntKind.wrap .u64 (Int.tdiv (IntKind.wrap .u64 (Int.tdiv wv 8)) 32)) 256))<=62)))=true then(
 (aH H6 (ad b) 0 5)/\ ∀a9,a9=aP H6 (ad b) [vi 5,vi (zY (Int.tmod (IntKind.wrap .u64 (Int.tdiv wv 8)) 32)),vi (zY (Int.tmod (IntKind.wrap .u64 (Int.tdiv (IntKind.wrap .u64 (Int.tdiv wv 8)) 32)) 256)),vi 0,vu (IntKind.wrap .u64 (Int.tdiv (IntKind.wrap .u64 (Int.tdiv (IntKind.wrap .u64 (Int.tdiv wv 8)) 32)) 256))] 0->
 ∃t ai a1 a6 m,aM a9 (ad b) 0 [vi t,vi ai,vi a1,vi a6,vu m]/\
 R (.agg #[vi t,vi ai,vi a1,vi a6,vu m]) a9)
 else
 (aH H6 (ad b) 0 5)/\ ∀bd,bd=aP H6 (ad b) [vi 0,vi 0,vi 0,vi 0,vu 0] 0->
 ∃f ac ap au r,aM bd (ad b) 0 [vi f,vi ac,vi ap,vi au,vu r]/\
 R (.agg #[vi f,vi ac,vi ap,vi au,vu r]) bd)
 else
 (aH H6 (ad b) 0 5)/\ ∀bc,bc=aP H6 (ad b) [vi 0,vi 0,vi 0,vi 0,vu 0] 0->
 ∃d e al ao a,aM bc (ad b) 0 [vi d,vi e,vi al,vi ao,vu a]/\
 R (.agg #[vi d,vi e,vi al,vi ao,vu a]) bc
theorem dI.link{wv:Int}{H:zV}{R:zv}(h:pt wv H R):C wv H R:=by
 refine p0 K0 94 func110 ?_
 intro w0 Q hQ
 unfold pt zY at h
 refine kT [(0,vu wv)]<|ar 0<|sv (some 2) (λb=>vp (pa b)) (.cells #[vi 0,vi 0,vi 0,vi 0,vu 0] 178)<|λb H1 e1 e2=>have h:=h b H1 e1 e2;kb [] [(2,vp (pa b))]<|ym<|ar 1<|eT 2 [0] [(3,vu wv)]<|ar 2<|eT 7 [3] [(4,vi (zY (Int.tmod wv 8))),(5,vu (IntKind.wrap .u64 (Int.tdiv wv 8)))]<|ar 3<|eT 7 [] [(6,vi (zY (Int.tmod (IntKind.wrap .u64 (Int.tdiv wv 8)) 32))),(7,vu (IntKind.wrap .u64 (Int.tdiv (IntKind.wrap .u64 (Int.tdiv wv 8)) 32)))]<|ge<|ar 4<|eT 1 [] [(20,vi (zY (Int.tmod wv 8)))]<|o0 0<|ar 5<|eT 2 [] [(21,.bool ((zY (Int.tmod wv 8))==0))]<|qx h (λc3 h=>?_) (λc3 h=>?_)
 ·refine aJ 21 (zK c3)<|ge<|ar 6<|eH 1 [4,6,7,20,21] [(23,vu (IntKind.wrap .u64 (Int.tdiv wv 8)))]<|sa 24 [] h λx H2 h=>eT 1 [23,24] [(25,.bool (decide ((IntKind.wrap .u64 (Int.tdiv wv 8))>=x)))]<|qx h (λc5 h=>?_) (λc5 h=>?_)
  ·refine aJ 25 (zX c5)<|ar 7<|yA [25] []<|sa 26 [] h λak H3 h=>eH 5 [5,26] [(31,.agg #[vi 1,vi 0,vi 0,vi (zY (0-(zY (IntKind.wrap .u64 (ak-(IntKind.wrap .u64 (Int.tdiv wv 8))))))),vu 0])]<|have⟨q8,h⟩:=h;fK 178 [vi 1,vi 0,vi 0,vi (zY (0-(zY (IntKind.wrap .u64 (ak-(IntKind.wrap .u64 (Int.tdiv wv 8))))))),vu 0] q8<|λH4 e7=>have h:=h H4 e7;kb [31] []<|ym<|zx ?_
   show At _ _ _ _ _ (Q .ret)
   exact have⟨am,az,rA,rX,an,q9,h⟩:=h;kO (fn:=f110) [.agg #[vi am,vi az,vi rA,vi rX,vu an]] hQ (show bS _ _ _ [.cell 2 178] _ from .cell (by kernel_rfl) (eO (λ_=>by kernel_rfl) (λ_=>by kernel_rfl) q9) (.nil)) h
  refine aK 25 (zQ c5)<|kd<|ar 8<|eH 3 [5,25] [(34,.agg #[vi 1,vi 0,vi 0,vi (zY (IntKind.wrap .u64 (Int.tdiv wv 8))),vu 0])]<|have⟨q11,h⟩:=h;fK 178 [vi 1,vi 0,vi 0,vi (zY (IntKind.wrap .u64 (Int.tdiv wv 8))),vu 0] q11<|λH5 e10=>have h:=h H5 e10;kb [34] []<|ym<|zx ?_
  show At _ _ _ _ _ (Q .ret)
  exact have⟨i,ab,a2,a7,s,q12,h⟩:=h;kO (fn:=f110) [.agg #[vi i,vi ab,vi a2,vi a7,vu s]] hQ (show bS _ _ _ [.cell 2 178] _ from .cell (by kernel_rfl) (eO (λ_=>by kernel_rfl) (λ_=>by kernel_rfl) q12) (.nil)) h
 refine aK 21 (zJ c3)<|ge<|ar 9<|u5 2 [(2,vp (pa b)),(4,vi (zY (Int.tmod wv 8))),(5,vu (IntKind.wrap .u64 (Int.tdiv wv 8))),(6,vi (zY (Int.tmod (IntKind.wrap .u64 (Int.tdiv wv 8)) 32))),(7,vu (IntKind.wrap .u64 (Int.tdiv (IntKind.wrap .u64 (Int.tdiv wv 8)) 32))),(20,vi (zY (Int.tmod wv 8))),(35,.bool ((zY (Int.tmod wv 8))==1))]<|have⟨J,h,j14⟩:=h;rv (σ:=Bool) (λs_=> [(2,vp (pa b)),(4,vi (zY (Int.tmod wv 8))),(5,vu (IntKind.wrap .u64 (Int.tdiv wv 8))),(6,vi (zY (Int.tmod (IntKind.wrap .u64 (Int.tdiv wv 8)) 32))),(7,vu (IntKind.wrap .u64 (Int.tdiv (IntKind.wrap .u64 (Int.tdiv wv 8)) 32))),(20,vi (zY (Int.tmod wv 8))),(35,.bool s_)]) (λs_ H=>J s_ H) ?_ ?_
 ·refine λaj H6 j15=>have h:=j14 aj H6 j15;kT [(2,vp (pa b)),(4,vi (zY (Int.tmod wv 8))),(5,vu (IntKind.wrap .u64 (Int.tdiv wv 8))),(6,vi (zY (Int.tmod (IntKind.wrap .u64 (Int.tdiv wv 8)) 32))),(7,vu (IntKind.wrap .u64 (Int.tdiv (IntKind.wrap .u64 (Int.tdiv wv 8)) 32))),(20,vi (zY (Int.tmod wv 8))),(35,.bool aj)]<|aC<|qx h (λc16 h=>?_) (λc16 h=>?_)
  ·have b17:aj=true:=c16
   refine iP [(2,vp (pa b)),(4,vi (zY (Int.tmod wv 8))),(5,vu (IntKind.wrap .u64 (Int.tdiv wv 8))),(6,vi (zY (Int.tmod (IntKind.wrap .u64 (Int.tdiv wv 8)) 32))),(7,vu (IntKind.wrap .u64 (Int.tdiv (IntKind.wrap .u64 (Int.tdiv wv 8)) 32))),(20,vi (zY (Int.tmod wv 8))),(35,VT)] (by rw[b17]) ?_
   clear b17
   refine wc 35<|ar 13<|eT 2 [6,7,20,35] [(41,.bool (decide ((IntKind.wrap .u64 (Int.tdiv wv 8))<65536)))]<|qx h (λc18 h=>?_) (λc18 h=>?_)
   ·refine aJ 41 (zX c18)<|ar 14<|eH 4 [4,5,41] [(45,.agg #[vi 2,vi (zY (Int.tmod wv 8)),vi (zY (IntKind.wrap .u64 (Int.tdiv wv 8))),vi 0,vu 0])]<|have⟨q21,h⟩:=h;fK 178 [vi 2,vi (zY (Int.tmod wv 8)),vi (zY (IntKind.wrap .u64 (Int.tdiv wv 8))),vi 0,vu 0] q21<|λH7 e20=>have h:=h H7 e20;kb [45] []<|ym<|zx ?_
    show At _ _ _ _ _ (Q .ret)
    exact have⟨g,ah,aw,a3,y,q22,h⟩:=h;kO (fn:=f110) [.agg #[vi g,vi ah,vi aw,vi a3,vu y]] hQ (show bS _ _ _ [.cell 2 178] _ from .cell (by kernel_rfl) (eO (λ_=>by kernel_rfl) (λ_=>by kernel_rfl) q22) (.nil)) h
   refine aK 41 (zQ c18)<|yR<|aA<|aC<|ar 24<|eH 1 [4,5,41] [(93,.agg #[vi 0,vi 0,vi 0,vi 0,vu 0])]<|have⟨q24,h⟩:=h;fK 178 [vi 0,vi 0,vi 0,vi 0,vu 0] q24<|λH8 e23=>have h:=h H8 e23;kb [93] []<|ym<|zx ?_
   show At _ _ _ _ _ (Q .ret)
   exact have⟨j,af,aq,ay,o,q25,h⟩:=h;kO (fn:=f110) [.agg #[vi j,vi af,vi aq,vi ay,vu o]] hQ (show bS _ _ _ [.cell 2 178] _ from .cell (by kernel_rfl) (eO (λ_=>by kernel_rfl) (λ_=>by kernel_rfl) q25) (.nil)) h
  have b17:aj=false:=zZ c16
  refine iP [(2,vp (pa b)),(4,vi (zY (Int.tmod wv 8))),(5,vu (IntKind.wrap .u64 (Int.tdiv wv 8))),(6,vi (zY (Int.tmod (IntKind.wrap .u64 (Int.tdiv wv 8)) 32))),(7,vu (IntKind.wrap .u64 (Int.tdiv (IntKind.wrap .u64 (Int.tdiv wv 8)) 32))),(20,vi (zY (Int.tmod wv 8))),(35,VF)] (by rw[b17]) ?_
  clear b17
  refine yn 35<|ar 15<|eT 2 [4,5,35] [(46,.bool ((zY (Int.tmod wv 8))==4))]<|qx h (λc26 h=>?_) (λc26 h=>?_)
  ·refine aJ 46 (zK c26)<|ge<|ar 16<|iX [(2,vp (pa b)),(6,vi (zY (Int.tmod (IntKind.wrap .u64 (Int.tdiv wv 8)) 32))),(7,vu (IntKind.wrap .u64 (Int.tdiv (IntKind.wrap .u64 (Int.tdiv wv 8)) 32))),(53,.bool ((decide ((zY (Int.tmod (IntKind.wrap .u64 (Int.tdiv wv 8)) 32))<7)) && ((IntKind.wrap .u64 (Int.tdiv (IntKind.wrap .u64 (Int.tdiv wv 8)) 32))==0)))] ?_ ?_
   ·refine aC<|qx h (λc30 h=>?_) (λc30 h=>?_)
    ·refine aJ 53 c30<|ar 17<|u8 2 [(2,vp (pa b)),(55,.agg #[vi 3,vi 0,vi (zY (Int.tmod (IntKind.wrap .u64 (Int.tdiv wv 8)) 32)),vi 0,vu 0])]<|have⟨q33,h⟩:=h;fK 178 [vi 3,vi 0,vi (zY (Int.tmod (IntKind.wrap .u64 (Int.tdiv wv 8)) 32)),vi 0,vu 0] q33<|λH9 e32=>have h:=h H9 e32;kb [55] []<|ym<|zx ?_
     show At _ _ _ _ _ (Q .ret)
     exact have⟨z,ag,av,a0,n,q34,h⟩:=h;kO (fn:=f110) [.agg #[vi z,vi ag,vi av,vi a0,vu n]] hQ (show bS _ _ _ [.cell 2 178] _ from .cell (by kernel_rfl) (eO (λ_=>by kernel_rfl) (λ_=>by kernel_rfl) q34) (.nil)) h
    refine aK 53 (zZ c30)<|kd<|ar 18<|iX [(2,vp (pa b)),(7,vu (IntKind.wrap .u64 (Int.tdiv (IntKind.wrap .u64 (Int.tdiv wv 8)) 32))),(69,.bool ((((zY (Int.tmod (IntKind.wrap .u64 (Int.tdiv wv 8)) 32))==7) && (decide ((IntKind.wrap .u64 (Int.tdiv (IntKind.wrap .u64 (Int.tdiv wv 8)) 32))<=1114111))) && ((decide ((IntKind.wrap .u64 (Int.tdiv (IntKind.wrap .u64 (Int.tdiv wv 8)) 32))<55296)) || (decide ((IntKind.wrap .u64 (Int.tdiv (IntKind.wrap .u64 (Int.tdiv wv 8)) 32))>57343)))))] ?_ ?_
    ·refine aC<|qx h (λc41 h=>?_) (λc41 h=>?_)
     ·refine aJ 69 c41<|ar 19<|u8 3 [(2,vp (pa b)),(72,.agg #[vi 4,vi 0,vi (zY (IntKind.wrap .u64 (Int.tdiv (IntKind.wrap .u64 (Int.tdiv wv 8)) 32))),vi 0,vu 0])]<|have⟨q44,h⟩:=h;fK 178 [vi 4,vi 0,vi (zY (IntKind.wrap .u64 (Int.tdiv (IntKind.wrap .u64 (Int.tdiv wv 8)) 32))),vi 0,vu 0] q44<|λbb e43=>have h:=h bb e43;kb [72] []<|ym<|zx ?_
      show At _ _ _ _ _ (Q .ret)
      exact have⟨q,aa,ax,a8,u,q45,h⟩:=h;kO (fn:=f110) [.agg #[vi q,vi aa,vi ax,vi a8,vu u]] hQ (show bS _ _ _ [.cell 2 178] _ from .cell (by kernel_rfl) (eO (λ_=>by kernel_rfl) (λ_=>by kernel_rfl) q45) (.nil)) h
     refine aK 69 (zZ c41)<|yR<|aA<|aC<|ar 24<|u8 1 [(2,vp (pa b)),(93,.agg #[vi 0,vi 0,vi 0,vi 0,vu 0])]<|have⟨q47,h⟩:=h;fK 178 [vi 0,vi 0,vi 0,vi 0,vu 0] q47<|λba e46=>have h:=h ba e46;kb [93] []<|ym<|zx ?_
     show At _ _ _ _ _ (Q .ret)
     exact have⟨p,ae,a4,a5,k,q48,h⟩:=h;kO (fn:=f110) [.agg #[vi p,vi ae,vi a4,vi a5,vu k]] hQ (show bS _ _ _ [.cell 2 178] _ from .cell (by kernel_rfl) (eO (λ_=>by kernel_rfl) (λ_=>by kernel_rfl) q48) (.nil)) h
    refine λhk=>u8 3 [(2,vp (pa b)),(7,vu (IntKind.wrap .u64 (Int.tdiv (IntKind.wrap .u64 (Int.tdiv wv 8)) 32))),(58,.bool ((zY (Int.tmod (IntKind.wrap .u64 (Int.tdiv wv 8)) 32))==7))] ?_
    by_cases c35:(zY (Int.tmod (IntKind.wrap .u64 (Int.tdiv wv 8)) 32))=7
    ·have b36:((zY (Int.tmod (IntKind.wrap .u64 (Int.tdiv wv 8)) 32))==7)=true:=zK c35
     refine bW [(2,vp (pa b)),(7,vu (IntKind.wrap .u64 (Int.tdiv (IntKind.wrap .u64 (Int.tdiv wv 8)) 32))),(58,VT)] (by rw[b36])<|eH 4 [58] [(62,.bool (decide ((IntKind.wrap .u64 (Int.tdiv (IntKind.wrap .u64 (Int.tdiv wv 8)) 32))<=1114111)))] ?_
     by_cases c37:(IntKind.wrap .u64 (Int.tdiv (IntKind.wrap .u64 (Int.tdiv wv 8)) 32))<=1114111
     ·have b38:(decide ((IntKind.wrap .u64 (Int.tdiv (IntKind.wrap .u64 (Int.tdiv wv 8)) 32))<=1114111))=true:=zX c37
      refine oo 62 b38<|eH 3 [] [(65,.bool (decide ((IntKind.wrap .u64 (Int.tdiv (IntKind.wrap .u64 (Int.tdiv wv 8)) 32))<55296)))] ?_
      by_cases c39:(IntKind.wrap .u64 (Int.tdiv (IntKind.wrap .u64 (Int.tdiv wv 8)) 32))<55296
      ·have b40:(decide ((IntKind.wrap .u64 (Int.tdiv (IntKind.wrap .u64 (Int.tdiv wv 8)) 32))<55296))=true:=zX c39
       exact oo 65 b40<|eH 4 [62,65] [(69,VT)]<|zq<|vb 69 (b:=true) (v:=((((zY (Int.tmod (IntKind.wrap .u64 (Int.tdiv wv 8)) 32))==7) && (decide ((IntKind.wrap .u64 (Int.tdiv (IntKind.wrap .u64 (Int.tdiv wv 8)) 32))<=1114111))) && ((decide ((IntKind.wrap .u64 (Int.tdiv (IntKind.wrap .u64 (Int.tdiv wv 8)) 32))<55296)) || (decide ((IntKind.wrap .u64 (Int.tdiv (IntKind.wrap .u64 (Int.tdiv wv 8)) 32))>57343))))) (by simp only[b36,b38,b40,BL])<|hk
      have b40:(decide ((IntKind.wrap .u64 (Int.tdiv (IntKind.wrap .u64 (Int.tdiv wv 8)) 32))<55296))=false:=zQ c39
      exact oo 65 b40<|eH 4 [62,65] [(69,.bool (decide ((IntKind.wrap .u64 (Int.tdiv (IntKind.wrap .u64 (Int.tdiv wv 8)) 32))>57343)))]<|zq<|vb 69 (b:=(decide ((IntKind.wrap .u64 (Int.tdiv (IntKind.wrap .u64 (Int.tdiv wv 8)) 32))>57343))) (v:=((((zY (Int.tmod (IntKind.wrap .u64 (Int.tdiv wv 8)) 32))==7) && (decide ((IntKind.wrap .u64 (Int.tdiv (IntKind.wrap .u64 (Int.tdiv wv 8)) 32))<=1114111))) && ((decide ((IntKind.wrap .u64 (Int.tdiv (IntKind.wrap .u64 (Int.tdiv wv 8)) 32))<55296)) || (decide ((IntKind.wrap .u64 (Int.tdiv (IntKind.wrap .u64 (Int.tdiv wv 8)) 32))>57343))))) (by simp only[b36,b38,b40,BL])<|hk
     have b38:(decide ((IntKind.wrap .u64 (Int.tdiv (IntKind.wrap .u64 (Int.tdiv wv 8)) 32))<=1114111))=false:=zQ c37
     exact oo 62 b38<|eH 7 [62] [(69,VF)]<|zq<|vb 69 (b:=false) (v:=((((zY (Int.tmod (IntKind.wrap .u64 (Int.tdiv wv 8)) 32))==7) && (decide ((IntKind.wrap .u64 (Int.tdiv (IntKind.wrap .u64 (Int.tdiv wv 8)) 32))<=1114111))) && ((decide ((IntKind.wrap .u64 (Int.tdiv (IntKind.wrap .u64 (Int.tdiv wv 8)) 32))<55296)) || (decide ((IntKind.wrap .u64 (Int.tdiv (IntKind.wrap .u64 (Int.tdiv wv 8)) 32))>57343))))) (by simp only[b36,b38,BL])<|hk
    have b36:((zY (Int.tmod (IntKind.wrap .u64 (Int.tdiv wv 8)) 32))==7)=false:=zJ c35
    exact bW [(2,vp (pa b)),(7,vu (IntKind.wrap .u64 (Int.tdiv (IntKind.wrap .u64 (Int.tdiv wv 8)) 32))),(58,VF)] (by rw[b36])<|eH 11 [58] [(69,VF)]<|zq<|vb 69 (b:=false) (v:=((((zY (Int.tmod (IntKind.wrap .u64 (Int.tdiv wv 8)) 32))==7) && (decide ((IntKind.wrap .u64 (Int.tdiv (IntKind.wrap .u64 (Int.tdiv wv 8)) 32))<=1114111))) && ((decide ((IntKind.wrap .u64 (Int.tdiv (IntKind.wrap .u64 (Int.tdiv wv 8)) 32))<55296)) || (decide ((IntKind.wrap .u64 (Int.tdiv (IntKind.wrap .u64 (Int.tdiv wv 8)) 32))>57343))))) (by simp only[b36,BL])<|hk
   refine λhk=>u8 3 [(2,vp (pa b)),(6,vi (zY (Int.tmod (IntKind.wrap .u64 (Int.tdiv wv 8)) 32))),(7,vu (IntKind.wrap .u64 (Int.tdiv (IntKind.wrap .u64 (Int.tdiv wv 8)) 32))),(50,.bool (decide ((zY (Int.tmod (IntKind.wrap .u64 (Int.tdiv wv 8)) 32))<7)))] ?_
   by_cases c28:(zY (Int.tmod (IntKind.wrap .u64 (Int.tdiv wv 8)) 32))<7
   ·have b29:(decide ((zY (Int.tmod (IntKind.wrap .u64 (Int.tdiv wv 8)) 32))<7))=true:=zX c28
    exact bW [(2,vp (pa b)),(6,vi (zY (Int.tmod (IntKind.wrap .u64 (Int.tdiv wv 8)) 32))),(7,vu (IntKind.wrap .u64 (Int.tdiv (IntKind.wrap .u64 (Int.tdiv wv 8)) 32))),(50,VT)] (by rw[b29])<|eH 3 [50] [(53,.bool ((IntKind.wrap .u64 (Int.tdiv (IntKind.wrap .u64 (Int.tdiv wv 8)) 32))==0))]<|zq<|vb 53 (b:=((IntKind.wrap .u64 (Int.tdiv (IntKind.wrap .u64 (Int.tdiv wv 8)) 32))==0)) (v:=((decide ((zY (Int.tmod (IntKind.wrap .u64 (Int.tdiv wv 8)) 32))<7)) && ((IntKind.wrap .u64 (Int.tdiv (IntKind.wrap .u64 (Int.tdiv wv 8)) 32))==0))) (by simp only[b29,BL])<|hk
   have b29:(decide ((zY (Int.tmod (IntKind.wrap .u64 (Int.tdiv wv 8)) 32))<7))=false:=zQ c28
   exact bW [(2,vp (pa b)),(6,vi (zY (Int.tmod (IntKind.wrap .u64 (Int.tdiv wv 8)) 32))),(7,vu (IntKind.wrap .u64 (Int.tdiv (IntKind.wrap .u64 (Int.tdiv wv 8)) 32))),(50,VF)] (by rw[b29])<|eH 3 [50] [(53,VF)]<|zq<|vb 53 (b:=false) (v:=((decide ((zY (Int.tmod (IntKind.wrap .u64 (Int.tdiv wv 8)) 32))<7)) && ((IntKind.wrap .u64 (Int.tdiv (IntKind.wrap .u64 (Int.tdiv wv 8)) 32))==0))) (by simp only[b29,BL])<|hk
  refine aK 46 (zJ c26)<|ar 20<|eT 2 [20,46] [(73,.bool ((zY (Int.tmod wv 8))==5))]<|qx h (λc49 h=>?_) (λc49 h=>?_)
  ·refine aJ 73 (zK c49)<|ar 21<|eT 4 [73] [(8,vi (zY (Int.tmod (IntKind.wrap .u64 (Int.tdiv (IntKind.wrap .u64 (Int.tdiv wv 8)) 32)) 256)))]<|ar 22<|iX [(2,vp (pa b)),(6,vi (zY (Int.tmod (IntKind.wrap .u64 (Int.tdiv wv 8)) 32))),(7,vu (IntKind.wrap .u64 (Int.tdiv (IntKind.wrap .u64 (Int.tdiv wv 8)) 32))),(8,vi (zY (Int.tmod (IntKind.wrap .u64 (Int.tdiv (IntKind.wrap .u64 (Int.tdiv wv 8)) 32)) 256))),(87,.bool (((decide ((zY (Int.tmod (IntKind.wrap .u64 (Int.tdiv wv 8)) 32))>=1)) && (decide ((zY (Int.tmod (IntKind.wrap .u64 (Int.tdiv wv 8)) 32))<=13))) && (decide ((zY (Int.tmod (IntKind.wrap .u64 (Int.tdiv (IntKind.wrap .u64 (Int.tdiv wv 8)) 32)) 256))<=62))))] ?_ ?_
   ·refine aC<|qx h (λc55 h=>?_) (λc55 h=>?_)
    ·refine aJ 87 c55<|ar 23<|u8 5 [(2,vp (pa b)),(92,.agg #[vi 5,vi (zY (Int.tmod (IntKind.wrap .u64 (Int.tdiv wv 8)) 32)),vi (zY (Int.tmod (IntKind.wrap .u64 (Int.tdiv (IntKind.wrap .u64 (Int.tdiv wv 8)) 32)) 256)),vi 0,vu (IntKind.wrap .u64 (Int.tdiv (IntKind.wrap .u64 (Int.tdiv (IntKind.wrap .u64 (Int.tdiv wv 8)) 32)) 256))])]<|have⟨q58,h⟩:=h;fK 178 [vi 5,vi (zY (Int.tmod (IntKind.wrap .u64 (Int.tdiv wv 8)) 32)),vi (zY (Int.tmod (IntKind.wrap .u64 (Int.tdiv (IntKind.wrap .u64 (Int.tdiv wv 8)) 32)) 256)),vi 0,vu (IntKind.wrap .u64 (Int.tdiv (IntKind.wrap .u64 (Int.tdiv (IntKind.wrap .u64 (Int.tdiv wv 8)) 32)) 256))] q58<|λa9 e57=>have h:=h a9 e57;kb [92] []<|ym<|zx ?_
     show At _ _ _ _ _ (Q .ret)
     exact have⟨t,ai,a1,a6,m,q59,h⟩:=h;kO (fn:=f110) [.agg #[vi t,vi ai,vi a1,vi a6,vu m]] hQ (show bS _ _ _ [.cell 2 178] _ from .cell (by kernel_rfl) (eO (λ_=>by kernel_rfl) (λ_=>by kernel_rfl) q59) (.nil)) h
    refine aK 87 (zZ c55)<|yR<|aA<|aC<|ar 24<|u8 1 [(2,vp (pa b)),(93,.agg #[vi 0,vi 0,vi 0,vi 0,vu 0])]<|have⟨q61,h⟩:=h;fK 178 [vi 0,vi 0,vi 0,vi 0,vu 0] q61<|λbd e60=>have h:=h bd e60;kb [93] []<|ym<|zx ?_
    show At _ _ _ _ _ (Q .ret)
    exact have⟨f,ac,ap,au,r,q62,h⟩:=h;kO (fn:=f110) [.agg #[vi f,vi ac,vi ap,vi au,vu r]] hQ (show bS _ _ _ [.cell 2 178] _ from .cell (by kernel_rfl) (eO (λ_=>by kernel_rfl) (λ_=>by kernel_rfl) q62) (.nil)) h
   refine λhk=>u8 3 [(2,vp (pa b)),(6,vi (zY (Int.tmod (IntKind.wrap .u64 (Int.tdiv wv 8)) 32))),(7,vu (IntKind.wrap .u64 (Int.tdiv (IntKind.wrap .u64 (Int.tdiv wv 8)) 32))),(8,vi (zY (Int.tmod (IntKind.wrap .u64 (Int.tdiv (IntKind.wrap .u64 (Int.tdiv wv 8)) 32)) 256))),(80,.bool (decide ((zY (Int.tmod (IntKind.wrap .u64 (Int.tdiv wv 8)) 32))>=1)))] ?_
   by_cases c51:(zY (Int.tmod (IntKind.wrap .u64 (Int.tdiv wv 8)) 32))>=1
   ·have b52:(decide ((zY (Int.tmod (IntKind.wrap .u64 (Int.tdiv wv 8)) 32))>=1))=true:=zX c51
    refine bW [(2,vp (pa b)),(6,vi (zY (Int.tmod (IntKind.wrap .u64 (Int.tdiv wv 8)) 32))),(7,vu (IntKind.wrap .u64 (Int.tdiv (IntKind.wrap .u64 (Int.tdiv wv 8)) 32))),(8,vi (zY (Int.tmod (IntKind.wrap .u64 (Int.tdiv (IntKind.wrap .u64 (Int.tdiv wv 8)) 32)) 256))),(80,VT)] (by rw[b52])<|eH 4 [80] [(84,.bool (decide ((zY (Int.tmod (IntKind.wrap .u64 (Int.tdiv wv 8)) 32))<=13)))] ?_
    by_cases c53:(zY (Int.tmod (IntKind.wrap .u64 (Int.tdiv wv 8)) 32))<=13
    ·have b54:(decide ((zY (Int.tmod (IntKind.wrap .u64 (Int.tdiv wv 8)) 32))<=13))=true:=zX c53
     exact oo 84 b54<|eH 3 [84] [(87,.bool (decide ((zY (Int.tmod (IntKind.wrap .u64 (Int.tdiv (IntKind.wrap .u64 (Int.tdiv wv 8)) 32)) 256))<=62)))]<|zq<|vb 87 (b:=(decide ((zY (Int.tmod (IntKind.wrap .u64 (Int.tdiv (IntKind.wrap .u64 (Int.tdiv wv 8)) 32)) 256))<=62))) (v:=(((decide ((zY (Int.tmod (IntKind.wrap .u64 (Int.tdiv wv 8)) 32))>=1)) && (decide ((zY (Int.tmod (IntKind.wrap .u64 (Int.tdiv wv 8)) 32))<=13))) && (decide ((zY (Int.tmod (IntKind.wrap .u64 (Int.tdiv (IntKind.wrap .u64 (Int.tdiv wv 8)) 32)) 256))<=62)))) (by simp only[b52,b54,BL])<|hk
    have b54:(decide ((zY (Int.tmod (IntKind.wrap .u64 (Int.tdiv wv 8)) 32))<=13))=false:=zQ c53
    exact oo 84 b54<|eH 3 [84] [(87,VF)]<|zq<|vb 87 (b:=false) (v:=(((decide ((zY (Int.tmod (IntKind.wrap .u64 (Int.tdiv wv 8)) 32))>=1)) && (decide ((zY (Int.tmod (IntKind.wrap .u64 (Int.tdiv wv 8)) 32))<=13))) && (decide ((zY (Int.tmod (IntKind.wrap .u64 (Int.tdiv (IntKind.wrap .u64 (Int.tdiv wv 8)) 32)) 256))<=62)))) (by simp only[b52,b54,BL])<|hk
   have b52:(decide ((zY (Int.tmod (IntKind.wrap .u64 (Int.tdiv wv 8)) 32))>=1))=false:=zQ c51
   exact bW [(2,vp (pa b)),(6,vi (zY (Int.tmod (IntKind.wrap .u64 (Int.tdiv wv 8)) 32))),(7,vu (IntKind.wrap .u64 (Int.tdiv (IntKind.wrap .u64 (Int.tdiv wv 8)) 32))),(8,vi (zY (Int.tmod (IntKind.wrap .u64 (Int.tdiv (IntKind.wrap .u64 (Int.tdiv wv 8)) 32)) 256))),(80,VF)] (by rw[b52])<|eH 7 [80] [(87,VF)]<|zq<|vb 87 (b:=false) (v:=(((decide ((zY (Int.tmod (IntKind.wrap .u64 (Int.tdiv wv 8)) 32))>=1)) && (decide ((zY (Int.tmod (IntKind.wrap .u64 (Int.tdiv wv 8)) 32))<=13))) && (decide ((zY (Int.tmod (IntKind.wrap .u64 (Int.tdiv (IntKind.wrap .u64 (Int.tdiv wv 8)) 32)) 256))<=62)))) (by simp only[b52,BL])<|hk
  refine aK 73 (zJ c49)<|yR<|aA<|aC<|ar 24<|eH 1 [6,7,73] [(93,.agg #[vi 0,vi 0,vi 0,vi 0,vu 0])]<|have⟨q64,h⟩:=h;fK 178 [vi 0,vi 0,vi 0,vi 0,vu 0] q64<|λbc e63=>have h:=h bc e63;kb [93] []<|ym<|zx ?_
  show At _ _ _ _ _ (Q .ret)
  exact have⟨d,e,al,ao,a,q65,h⟩:=h;kO (fn:=f110) [.agg #[vi d,vi e,vi al,vi ao,vu a]] hQ (show bS _ _ _ [.cell 2 178] _ from .cell (by kernel_rfl) (eO (λ_=>by kernel_rfl) (λ_=>by kernel_rfl) q65) (.nil)) h
 revert h;refine AV (λc66 h=>?_) (λc66 h=>?_)
 ·have b67:((zY (Int.tmod wv 8))==1)=true:=zK c66
  refine iP [(2,vp (pa b)),(4,vi (zY (Int.tmod wv 8))),(5,vu (IntKind.wrap .u64 (Int.tdiv wv 8))),(6,vi (zY (Int.tmod (IntKind.wrap .u64 (Int.tdiv wv 8)) 32))),(7,vu (IntKind.wrap .u64 (Int.tdiv (IntKind.wrap .u64 (Int.tdiv wv 8)) 32))),(20,vi (zY (Int.tmod wv 8))),(35,VT)] (by simp only[b67,Bool.not_true,Bool.not_false]) ?_
  clear b67
  exact wc 35<|kd<|lV (true:Bool) sk h
 have b67:((zY (Int.tmod wv 8))==1)=false:=zJ c66
 refine iP [(2,vp (pa b)),(4,vi (zY (Int.tmod wv 8))),(5,vu (IntKind.wrap .u64 (Int.tdiv wv 8))),(6,vi (zY (Int.tmod (IntKind.wrap .u64 (Int.tdiv wv 8)) 32))),(7,vu (IntKind.wrap .u64 (Int.tdiv (IntKind.wrap .u64 (Int.tdiv wv 8)) 32))),(20,vi (zY (Int.tmod wv 8))),(35,VF)] (by simp only[b67,Bool.not_true,Bool.not_false]) ?_
 clear b67
 refine yn 35<|ar 10<|eT 2 [35] [(35,.bool ((zY (Int.tmod wv 8))==2))]<|qx h (λc68 h=>?_) (λc68 h=>?_)
 ·exact vb 35 (zK c68)<|wc 35<|kd<|lV (true:Bool) sk h
 refine vb 35 (zJ c68)<|yn 35<|ar 11<|eT 2 [35] [(35,.bool ((zY (Int.tmod wv 8))==3))]<|qx h (λc70 h=>?_) (λc70 h=>?_)
 ·exact vb 35 (zK c70)<|wc 35<|kd<|lV (true:Bool) sk h
 exact vb 35 (zJ c70)<|yn 35<|nx 12<|eT 2 [35] [(35,.bool ((zY (Int.tmod wv 8))==6))]<|lV (((zY (Int.tmod wv 8))==6):Bool) sk h
namespace cO
def K0:=Func.code f135
def K2:=cb K0
def K4:=cb K2
def K5:=ca K4
def K8:=cb K5
def K9:=ca K8
def zu:=ca K9
end cO
def cO.pt(nv:Int)(H:zV)(R:zv):Prop:=
 ∃(a:Int->zw) (m11:Int->Int->zV->Nat),a 1 0 H/\ ∀x i H1,a x i H1->
 if i<nv then(
 (a (IntKind.wrap .u64 (x*2)) (zY (i+1)) H1/\m11 (IntKind.wrap .u64 (x*2)) (zY (i+1)) H1<m11 x i H1))
 else
 R (vu x) H1
theorem cO.link{nv:Int}{H:zV}{R:zv}(h:pt nv H R):C nv H R:=by
 refine p0 K0 13 func135 ?_
 intro w0 Q hQ
 unfold pt zY at h
 refine kT [(0,vi nv)]<|ar 0<|eT 1 [] []<|ar 1<|eT 1 [] [(3,vu 1)]<|ge<|ar 2<|eT 1 [] [(4,vi 0)]<|o0 0<|have⟨a,m11,i1,i2⟩:=h;bJ (x:=zu) (σ:=Int×Int) (λs_=> [(0,vi nv),(3,vu s_.1),(4,vi s_.2)]) (λs_ H=>a s_.1 s_.2 H) (λs_ H=>m11 s_.1 s_.2 H) ((1,0):Int×Int) (by kernel_rfl) i1 sk ?_
 rintro⟨x,i⟩ H1 i3
 have h:=i2 x i H1 i3
 refine kT [(0,vi nv),(3,vu x),(4,vi i)]<|ge<|ar 3<|eT 3 [] [(7,.bool (decide (i<nv)))]<|qx h (λc4 h=>?_) (λc4 h=>?_)
 ·exact aJ 7 (zX c4)<|kd<|ge<|o0 1<|nx 5<|eH 3 [3,7] [(3,vu (IntKind.wrap .u64 (x*2)))]<|zq<|aA<|aC<|nx 4<|eT 3 [4] [(4,vi (zY (i+1)))]<|aR (((IntKind.wrap .u64 (x*2)),(zY (i+1))):Int×Int) sk h
 exact aK 7 (zQ c4)<|zk 0<|aB<|aB<|aN<|aC<|ar 6<|hV 2 [2] [vu x] hQ h
