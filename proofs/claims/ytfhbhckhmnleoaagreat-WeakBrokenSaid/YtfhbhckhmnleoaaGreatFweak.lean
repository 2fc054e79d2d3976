/- Printed: what each function asks, and that it is sound. -/
import Derived.Test.YtfhbhckhmnleoaaGreatFnsC
set_option linter.unusedSimpArgs false
set_option linter.unusedVariables false
set_option maxRecDepth 100000
set_option maxHeartbeats 1000000
noncomputable section
namespace Go.Proofs.YtfhbhckhmnleoaaGreat
open Go Go.Proofs.Tryz
variable{a:zj}{H:zV}{b o:zW}{d g k:Int}{i j:Nat}
/-! (*moraine/space.Space).Alloc -/
namespace bO
def K0:=Func.code f53
end bO
def bO.pt(s:zW)(d b nv:Int)(H:zV)(R:zj):Prop:=
 bV.C s H (λv H1=> ∃x,v=.bool x/\
 if x=true then(
 R (.tuple #[vi 0,vi 1]) H1)
 else
 fG.C d b nv H1 (λac H2=> ∃o,ac=.bool o/\
 if o=true then(
 bT.C s d b H2 (λab H3=> ∃ra rb,ab=.tuple #[vi ra,.bool rb]/\
 ∃J:zV->Prop,(
 if rb=true then(
 ∃g,s=some g/\
 ∃u,hat H3 g=some (vp u)/\
 dR.C u ra nv H3 (λae H8=> ∃j m,ae=.tuple #[vi j,vi m]/\
 if m=0 then(
 R (.tuple #[vi j,vi 0]) H8)
 else
 J H8))
 else
 J H3)/\ ∀H4,J H4->
 ∃sA,s=some sA/\
 ∃y,hat H4 sA=some (vp y)/\
 eh.C y d b H4 (λaa H5=> ∃e f,aa=.tuple #[vi e,vi f]/\
 if f=0 then(
 zv d 5/\
 zv b 4/\
 (aL H5 (((sA.add 1).add (Int.toNat d*4)).add (Int.toNat b*1)) 0 1)/\ ∀H6,H6=aN H5 (((sA.add 1).add (Int.toNat d*4)).add (Int.toNat b*1)) [vi (zY (e+1))] 0->
 ∃r,hat H6 sA=some (vp r)/\
 dR.C r e nv H6 (λz H7=> ∃p q,z=.tuple #[vi p,vi q]/\
 R (.tuple #[vi p,vi q]) H7))
 else
 R (.tuple #[vi 0,vi f]) H5)))
 else
 R (.tuple #[vi 0,vi 1]) H2))
namespace bO
theorem link(h:pt b d g k H a):C b d g k H a:=by
 refine T_en K0 77 func53 ?_
 intro w0 Q hQ
 unfold pt zY at h
 refine T_su [(0,vp b),(1,vi d),(2,vi g),(3,vi k)]<|ar 0<|T_ed 2 [] []<|T_sz<|ar 1<|T_nd 1 [] [(16,vp b)]<|T_c (some 17) h ?_;clear h
 rintro v H1 ⟨x,rfl,h⟩
 refine T_pd [16] [(17,.bool x)]<|T_nd 1 [17] [(18,.bool x)] ?_
 revert h;refine iO_ (λc1 h=>?_) (λc1 h=>?_)
 ·exact N_bd 18 c1<|T_ed 6 [18] [(24,vT)]<|T_tz 24<|ar 2<|T_nr 2 [8,9] [vi 0,vi 1] hQ h
 refine N_bd 18 (zZ c1)<|T_nd 3 [] [(19,vi d),(20,vi g),(21,vi k)] ?_
 refine T_c (some 22) h ?_;clear h
 rintro ac H2 ⟨o,rfl,h⟩
 refine T_pd [19,20,21] [(22,.bool o)]<|T_ed 2 [18,22] [(24,.bool (!o))] ?_
 revert h;refine iO_ (λc3 h=>?_) (λc3 h=>?_)
 ·refine aJ 24 (congrArg Bool.not (c3))<|T_kt<|T_sz<|ar 3<|T_nd 3 [24] [(26,vp b),(27,vi d),(28,vi g)]<|T_c (some 29) h ?_;clear h
  rintro ab H3 ⟨ra,rb,rfl,h⟩
  refine T_pd [26,27,28] [(29,.tuple #[vi ra,.bool rb])]<|T_ed 5 [29] [(10,vi ra),(11,.bool rb)]<|ar 4<|T_ne 1 [(0,vp b),(1,vi d),(2,vi g),(3,vi k),(10,vi ra),(32,.bool rb)] ?_
  obtain⟨J,h,j6⟩:=h
  refine l5 (σ:=Unit) (λs_=> [(0,vp b),(1,vi d),(2,vi g),(3,vi k)]) (λs_ H=>J H) ?_ ?_
  ·rintro _ H4 j7
   replace h:=j6 H4 j7
   refine T_su [(0,vp b),(1,vi d),(2,vi g),(3,vi k)]<|aC<|ar 8<|T_nd 1 [] [(47,vp b)] ?_
   obtain⟨sA,rfl,h⟩:=h
   refine T_nd 2 [0,47] [(0,vq sA),(49,vq sA)] ?_
   obtain⟨y,q8,h⟩:=h
   refine T_l1 50 78 q8 [49]<|T_nd 2 [] [(51,vi d),(52,vi g)]<|T_c (some 53) h ?_;clear h
   rintro aa H5 ⟨e,f,rfl,h⟩
   refine T_pd [50,51,52] [(53,.tuple #[vi e,vi f])]<|T_ed 5 [53] [(14,vi e),(15,vi f)]<|T_sz<|ar 9<|T_ed 2 [] [(57,.bool (f !=0))] ?_
   revert h;refine iO_ (λc9 h=>?_) (λc9 h=>?_)
   ·refine aJ 57 (bne_eq_false_iff_eq.mpr c9)<|T_kt<|ar 11<|T_nd 7 [1,2,15,57] [(60,vi d),(61,vi g),(63,vi (zY (e+1))),(65,vq (sA.add 1))] ?_
    obtain⟨q11,h⟩:=h
    refine T_v1 66 (bE 80 (vq (sA.add 1)) (vi d)) (vq ((sA.add 1).add (Int.toNat d*4))) (λw _=>bF (P:=prog) (t:=80) (elem:=79) (sz:=4) (n:=5) (a:=(sA.add 1)) (k:=.i64) (i:=d) underlying80 (λ_=>by kernel_rfl) q11.1 q11.2 w) [60,65] ?_
    obtain⟨q12,h⟩:=h
    refine T_v1 67 (bE 79 (vq ((sA.add 1).add (Int.toNat d*4))) (vi g)) (vq (((sA.add 1).add (Int.toNat d*4)).add (Int.toNat g*1))) (λw _=>bF (P:=prog) (t:=79) (elem:=3) (sz:=1) (n:=4) (a:=((sA.add 1).add (Int.toNat d*4))) (k:=.i64) (i:=g) underlying79 (λ_=>by kernel_rfl) q12.1 q12.2 w) [61,66] ?_
    obtain⟨q14,h⟩:=h
    refine gD 3 (vi (zY (e+1))) q14 ?_
    intro H6 e13
    replace h:=h H6 e13
    refine T_pd [63,67] []<|T_e<|ar 12<|T_nd 3 [0] [(70,vq sA)] ?_
    obtain⟨r,q15,h⟩:=h
    refine T_l1 71 78 q15 [70]<|T_nd 2 [3,14] [(72,vi e),(73,vi k)]<|T_c (some 74) h ?_;clear h
    rintro z H7 ⟨p,q,rfl,h⟩
    refine⟨[(74,.tuple #[vi p,vi q])],pk,?_⟩
    exact T_nr 4 [8,9] [vi p,vi q] hQ h
   exact aI 57 (bne_iff_ne.mpr c9)<|ar 10<|T_nr 3 [8,9] [vi 0,vi f] hQ h
  revert h;refine iO_ (λc16 h=>?_) (λc16 h=>?_)
  ·have b17:rb=true:=c16
   refine eJ [(0,vp b),(1,vi d),(2,vi g),(3,vi k),(10,vi ra),(32,vT)] (by simp only[b17,Bool.not_true,Bool.not_false]) ?_
   clear b17
   refine T_tz 32<|ar 5<|T_nd 1 [32] [(34,vp b)] ?_
   obtain⟨nv,rfl,h⟩:=h
   refine T_nd 2 [0,34] [(0,vq nv),(36,vq nv)] ?_
   obtain⟨u,q18,h⟩:=h
   refine T_l1 37 78 q18 [36]<|T_nd 2 [10] [(38,vi ra),(39,vi k)]<|T_c (some 40) h ?_;clear h
   rintro ae H8 ⟨j,m,rfl,h⟩
   refine T_pd [37,38,39] [(40,.tuple #[vi j,vi m])]<|T_ed 5 [40] [(12,vi j),(13,vi m)]<|ar 6<|T_ed 2 [13] [(44,.bool (m==0))] ?_
   revert h;refine iO_ (λc19 h=>?_) (λc19 h=>?_)
   ·exact aI 44 (zK c19)<|ar 7<|T_nr 3 [8,9] [vi j,vi 0] hQ h
   exact aJ 44 (zJ c19)<|T_kt<|iF (():Unit) sk h
  have b17:rb=false:=zZ c16
  refine eJ [(0,vp b),(1,vi d),(2,vi g),(3,vi k),(10,vi ra),(32,vF)] (by simp only[b17,Bool.not_true,Bool.not_false]) ?_
  clear b17
  exact T_fz 32<|T_kt<|iF (():Unit) sk h
 exact aI 24 (congrArg Bool.not (zZ c3))<|ar 2<|T_nr 2 [8,9] [vi 0,vi 1] hQ h
end bO
/-! (*moraine/space.Space).none -/
namespace bV
def K0:=Func.code f67
end bV
def bV.pt(s:zW)(H:zV)(R:zj):Prop:=
 eK s (
 R vT H) (λsA=>
 ∃x,hat H sA=some (vp x)/\
 eK x (
 R vT H) (λxA=>
 R vF H))
namespace bV
theorem link(h:pt b H a):C b H a:=by
 refine T_en K0 12 func67 ?_
 intro w0 Q hQ
 unfold pt at h
 refine T_su [(0,vp b)]<|ar 0<|T_ed 1 [] []<|ar 1<|T_nd 1 [] [(3,vp b)] ?_
 rcases b with _ | sA
 ·rw[onPtr_none]at h
  exact T_nr 9 [2] [vT] hQ h
 rw[onPtr_some]at h
 refine T_n 5 [(5,vF),(8,vq sA)] ?_
 obtain⟨x,q1,h⟩:=h
 refine T_l1 9 78 q1 [8] ?_
 rcases x with _ | xA
 ·rw[onPtr_none]at h
  exact T_nr 3 [2] [vT] hQ h
 rw[onPtr_some]at h
 exact T_nr 3 [2] [vF] hQ h
end bV
/-! moraine/space.New -/
namespace fF
def K0:=Func.code f84
end fF
def fF.pt(a:Int)(H:zV)(R:zj):Prop:=
 gJ.C a H (λv H1=> ∃ra rb,v=.tuple #[vp ra,vi rb]/\
 if rb=0 then(
 ∀b H2,b=H1.size->H2=H1.push (.cells #[vp ra,vi 0,vi 0,vi 0,vi 0,vi 0,vi 0,vi 0,vi 0,vi 0,vi 0,vi 0,vi 0,vi 0,vi 0,vi 0,vi 0,vi 0,vi 0,vi 0,vi 0] 82)->
 R (.tuple #[vq (ad b),vi 0]) H2)
 else
 R (.tuple #[vp none,vi rb]) H1)
namespace fF
theorem link(h:pt d H a):C d H a:=by
 refine T_en K0 17 func84 ?_
 intro w0 Q hQ
 unfold pt at h
 refine T_su [(0,vi d)]<|ar 0<|T_ed 2 [] []<|ar 1<|T_n 1 [(7,vi d)]<|T_c (some 8) h ?_;clear h
 rintro v H1 ⟨ra,rb,rfl,h⟩
 refine⟨[(8,.tuple #[vp ra,vi rb])],pk,?_⟩
 refine T_ne 5 [(4,vp ra),(5,vi rb)]<|T_sz<|ar 2<|T_ed 2 [] [(12,.bool (rb !=0))] ?_
 revert h;refine iO_ (λc1 h=>?_) (λc1 h=>?_)
 ·refine aJ 12 (bne_eq_false_iff_eq.mpr c1)<|T_kt<|ar 4<|T_n 2 [(15,.agg #[vp ra,vi 0,vi 0,vi 0,vi 0,vi 0,vi 0,vi 0,vi 0,vi 0,vi 0,vi 0,vi 0,vi 0,vi 0,vi 0,vi 0,vi 0,vi 0,vi 0,vi 0])]<|T_nw (some 16) (λb=>vp (pa b)) (.cells #[vp ra,vi 0,vi 0,vi 0,vi 0,vi 0,vi 0,vi 0,vi 0,vi 0,vi 0,vi 0,vi 0,vi 0,vi 0,vi 0,vi 0,vi 0,vi 0,vi 0,vi 0] 82) ?_
  intro b H2 e3 e4
  replace h:=h b H2 e3 e4
  refine⟨[(16,vp (pa b))],pk,?_⟩
  exact T_nr 2 [2,3] [vp (pa b),vi 0] hQ h
 exact aI 12 (bne_iff_ne.mpr c1)<|ar 3<|T_nr 3 [2,3] [vp none,vi rb] hQ h
end fF
/-! moraine/space.may -/
namespace fG
def K0:=Func.code f96
end fG
def fG.pt(b a nv:Int)(H:zV)(R:zj):Prop:=
 if((decide (b<0)) || (decide (b>4)))=true then(
 R vF H)
 else
 if((a==0) || (a==1))=true then(
 R (.bool (nv==2)) H)
 else
 R (.bool ((((a==2) || (a==3)) && (decide (nv>=1))) && (decide (nv<=63)))) H
namespace fG
theorem link{b R nv:Int}(h:pt b R nv H a):C b R nv H a:=by
 refine T_en K0 37 func96 ?_
 intro w0 Q hQ
 unfold pt at h
 refine T_su [(0,vi b),(1,vi R),(2,vi nv)]<|ar 0<|T_ed 1 [] []<|T_sz<|T_bz 0<|ar 1 ?_
 refine fe [(1,vi R),(2,vi nv),(7,.bool ((decide (b<0)) || (decide (b>4))))] ?_ ?_
 ·refine aC ?_
  revert h;refine iO_ (λc3 h=>?_) (λc3 h=>?_)
  ·exact aI 7 c3<|ar 2<|T_nr 1 [6] [vF] hQ h
  refine aJ 7 (zZ c3)<|ar 3 ?_
  refine fe [(1,vi R),(2,vi nv),(14,.bool ((R==0) || (R==1)))] ?_ ?_
  ·refine aC ?_
   revert h;refine iO_ (λc7 h=>?_) (λc7 h=>?_)
   ·exact aI 14 c7<|ar 4<|T_nr 3 [6] [.bool (nv==2)] hQ h
   refine aJ 14 (zZ c7)<|T_k<|aD<|aC<|ar 5 ?_
   refine fe [(6,.bool ((((R==2) || (R==3)) && (decide (nv>=1))) && (decide (nv<=63))))] ?_ ?_
   ·exact aC<|ff [6] [.bool ((((R==2) || (R==3)) && (decide (nv>=1))) && (decide (nv<=63)))] hQ h
   intro hk
   refine T_n 3 [(1,vi R),(2,vi nv),(25,.bool (R==2))] ?_
   by_cases c9:R=2
   ·have b10:(R==2)=true:=zK c9
    refine bI [(1,vi R),(2,vi nv),(25,vT)] (by rw[b10]) ?_
    refine T_nd 8 [1,25] [(33,.bool (decide (nv>=1)))] ?_
    by_cases c11:nv>=1
    ·have b12:(decide (nv>=1))=true:=zX c11
     refine N_bd 33 b12<|T_n 4 [(6,.bool (decide (nv<=63)))] ?_
     refine zq<|eJ [(6,.bool ((((R==2) || (R==3)) && (decide (nv>=1))) && (decide (nv<=63))))] (by simp only[b10,b12,BL]) ?_
     exact hk
    have b12:(decide (nv>=1))=false:=zQ c11
    refine N_bd 33 b12<|T_n 4 [(6,vF)] ?_
    refine zq<|eJ [(6,.bool ((((R==2) || (R==3)) && (decide (nv>=1))) && (decide (nv<=63))))] (by simp only[b10,b12,BL]) ?_
    exact hk
   have b10:(R==2)=false:=zJ c9
   refine bI [(1,vi R),(2,vi nv),(25,vF)] (by rw[b10]) ?_
   refine T_nd 4 [1,25] [(29,.bool (R==3))] ?_
   by_cases c13:R=3
   ·have b14:(R==3)=true:=zK c13
    refine N_bd 29 b14<|T_nd 4 [29] [(33,.bool (decide (nv>=1)))] ?_
    by_cases c15:nv>=1
    ·have b16:(decide (nv>=1))=true:=zX c15
     refine N_bd 33 b16<|T_n 4 [(6,.bool (decide (nv<=63)))] ?_
     refine zq<|eJ [(6,.bool ((((R==2) || (R==3)) && (decide (nv>=1))) && (decide (nv<=63))))] (by simp only[b10,b14,b16,BL]) ?_
     exact hk
    have b16:(decide (nv>=1))=false:=zQ c15
    refine N_bd 33 b16<|T_n 4 [(6,vF)] ?_
    refine zq<|eJ [(6,.bool ((((R==2) || (R==3)) && (decide (nv>=1))) && (decide (nv<=63))))] (by simp only[b10,b14,b16,BL]) ?_
    exact hk
   have b14:(R==3)=false:=zJ c13
   refine N_bd 29 b14<|T_n 8 [(6,vF)] ?_
   refine zq<|eJ [(6,.bool ((((R==2) || (R==3)) && (decide (nv>=1))) && (decide (nv<=63))))] (by simp only[b10,b14,BL]) ?_
   exact hk
  intro hk
  refine T_n 3 [(1,vi R),(2,vi nv),(17,.bool (R==0))] ?_
  by_cases c5:R=0
  ·have b6:(R==0)=true:=zK c5
   refine bI [(1,vi R),(2,vi nv),(17,vT)] (by rw[b6]) ?_
   refine T_nd 4 [17] [(14,vT)]<|zq<|S_bd 14 (b:=true) (v:=((R==0) || (R==1))) (by simp only[b6,BL]) ?_
   exact hk
  have b6:(R==0)=false:=zJ c5
  refine bI [(1,vi R),(2,vi nv),(17,vF)] (by rw[b6]) ?_
  refine T_nd 4 [17] [(14,.bool (R==1))]<|zq<|S_bd 14 (b:=(R==1)) (v:=((R==0) || (R==1))) (by simp only[b6,BL]) ?_
  exact hk
 intro hk
 refine T_n 3 [(0,vi b),(1,vi R),(2,vi nv),(10,.bool (decide (b<0)))] ?_
 by_cases c1:b<0
 ·have b2:(decide (b<0))=true:=zX c1
  refine bI [(0,vi b),(1,vi R),(2,vi nv),(10,vT)] (by rw[b2]) ?_
  refine T_nd 4 [0,10] [(7,vT)]<|zq<|S_bd 7 (b:=true) (v:=((decide (b<0)) || (decide (b>4)))) (by simp only[b2,BL]) ?_
  exact hk
 have b2:(decide (b<0))=false:=zQ c1
 refine bI [(0,vi b),(1,vi R),(2,vi nv),(10,vF)] (by rw[b2]) ?_
 refine T_nd 4 [0,10] [(7,.bool (decide (b>4)))]<|zq<|S_bd 7 (b:=(decide (b>4))) (v:=((decide (b<0)) || (decide (b>4)))) (by simp only[b2,BL]) ?_
 exact hk
end fG
/-! (*moraine/space.Space).Current -/
namespace bT
def K0:=Func.code f97
end bT
def bT.pt(s:zW)(d b:Int)(H:zV)(R:zj):Prop:=
 eK s (
 R (.tuple #[vi 0,vF]) H) (λsA=>
 if d<0 then(
 R (.tuple #[vi 0,vF]) H)
 else
 if d>4 then(
 R (.tuple #[vi 0,vF]) H)
 else
 if b<0 then(
 R (.tuple #[vi 0,vF]) H)
 else
 if b>3 then(
 R (.tuple #[vi 0,vF]) H)
 else
 zv d 5/\
 zv b 4/\
 ∃x,hat H (((sA.add 1).add (Int.toNat d*4)).add (Int.toNat b*1))=some (vi x)/\
 if x=0 then(
 R (.tuple #[vi 0,vF]) H)
 else
 zv d 5/\
 zv b 4/\
 ∃e,hat H (((sA.add 1).add (Int.toNat d*4)).add (Int.toNat b*1))=some (vi e)/\
 R (.tuple #[vi (zY (e-1)),vT]) H)
namespace bT
theorem link(h:pt b d g H a):C b d g H a:=by
 refine T_en K0 46 func97 ?_
 intro w0 Q hQ
 unfold pt zY at h
 refine T_su [(0,vp b),(1,vi d),(2,vi g)]<|ar 0<|T_ed 2 [] []<|T_sz<|ar 1<|T_nd 1 [] [(8,vp b)] ?_
 rcases b with _ | sA
 ·rw[onPtr_none]at h
  exact T_ed 28 [0,8] [(0,vp none),(36,vT)]<|T_tz 36<|ar 2<|T_nr 2 [6,7] [vi 0,vF] hQ h
 rw[onPtr_some]at h
 refine T_nd 6 [0,8] [(0,vq sA),(14,.bool (decide (d<0)))] ?_
 revert h;refine iO_ (λc1 h=>?_) (λc1 h=>?_)
 ·exact N_bd 14 (zX c1)<|T_ed 22 [14] [(36,vT)]<|T_tz 36<|ar 2<|T_nr 2 [6,7] [vi 0,vF] hQ h
 refine N_bd 14 (zQ c1)<|T_nd 4 [14] [(18,.bool (decide (d>4)))] ?_
 revert h;refine iO_ (λc3 h=>?_) (λc3 h=>?_)
 ·exact N_bd 18 (zX c3)<|T_ed 18 [18] [(36,vT)]<|T_tz 36<|ar 2<|T_nr 2 [6,7] [vi 0,vF] hQ h
 refine N_bd 18 (zQ c3)<|T_nd 4 [18] [(22,.bool (decide (g<0)))] ?_
 revert h;refine iO_ (λc5 h=>?_) (λc5 h=>?_)
 ·exact N_bd 22 (zX c5)<|T_ed 14 [22] [(36,vT)]<|T_tz 36<|ar 2<|T_nr 2 [6,7] [vi 0,vF] hQ h
 refine N_bd 22 (zQ c5)<|T_nd 4 [22] [(26,.bool (decide (g>3)))] ?_
 revert h;refine iO_ (λc7 h=>?_) (λc7 h=>?_)
 ·exact N_bd 26 (zX c7)<|T_ed 10 [26] [(36,vT)]<|T_tz 36<|ar 2<|T_nr 2 [6,7] [vi 0,vF] hQ h
 refine N_bd 26 (zQ c7)<|T_nd 5 [] [(28,vi d),(29,vi g),(31,vq (sA.add 1))] ?_
 obtain⟨q9,h⟩:=h
 refine T_v1 32 (bE 80 (vq (sA.add 1)) (vi d)) (vq ((sA.add 1).add (Int.toNat d*4))) (λw _=>bF (P:=prog) (t:=80) (elem:=79) (sz:=4) (n:=5) (a:=(sA.add 1)) (k:=.i64) (i:=d) underlying80 (λ_=>by kernel_rfl) q9.1 q9.2 w) [28,31] ?_
 obtain⟨q10,h⟩:=h
 refine T_v1 33 (bE 79 (vq ((sA.add 1).add (Int.toNat d*4))) (vi g)) (vq (((sA.add 1).add (Int.toNat d*4)).add (Int.toNat g*1))) (λw _=>bF (P:=prog) (t:=79) (elem:=3) (sz:=1) (n:=4) (a:=((sA.add 1).add (Int.toNat d*4))) (k:=.i64) (i:=g) underlying79 (λ_=>by kernel_rfl) q10.1 q10.2 w) [29,32] ?_
 obtain⟨x,q11,h⟩:=h
 refine T_l1 34 3 q11 [33]<|T_ed 2 [26,34] [(36,.bool (x==0))] ?_
 revert h;refine iO_ (λc12 h=>?_) (λc12 h=>?_)
 ·exact aI 36 (zK c12)<|ar 2<|T_nr 2 [6,7] [vi 0,vF] hQ h
 refine aJ 36 (zJ c12)<|T_kt<|ar 3<|T_n 5 [(38,vi d),(39,vi g),(41,vq (sA.add 1))] ?_
 obtain⟨q14,h⟩:=h
 refine T_v1 42 (bE 80 (vq (sA.add 1)) (vi d)) (vq ((sA.add 1).add (Int.toNat d*4))) (λw _=>bF (P:=prog) (t:=80) (elem:=79) (sz:=4) (n:=5) (a:=(sA.add 1)) (k:=.i64) (i:=d) underlying80 (λ_=>by kernel_rfl) q14.1 q14.2 w) [38,41] ?_
 obtain⟨q15,h⟩:=h
 refine T_v1 43 (bE 79 (vq ((sA.add 1).add (Int.toNat d*4))) (vi g)) (vq (((sA.add 1).add (Int.toNat d*4)).add (Int.toNat g*1))) (λw _=>bF (P:=prog) (t:=79) (elem:=3) (sz:=1) (n:=4) (a:=((sA.add 1).add (Int.toNat d*4))) (k:=.i64) (i:=g) underlying79 (λ_=>by kernel_rfl) q15.1 q15.2 w) [39,42] ?_
 obtain⟨e,q16,h⟩:=h
 exact T_l1 44 3 q16 [43]<|T_nr 3 [6,7] [vi (zY (e-1)),vT] hQ h
end bT
/-! moraine/card.New -/
namespace fX
def K0:=Func.code f40
end fX
def fX.pt(a:Int)(H:zV)(R:zj):Prop:=
 fF.C a H (λv H1=> ∃ra rb,v=.tuple #[vp ra,vi rb]/\
 if rb=0 then(
 ∀b H2,b=H1.size->H2=H1.push (.cells #[vp ra] 54)->
 R (.tuple #[vq (ad b),vi 0]) H2)
 else
 R (.tuple #[vp none,vi rb]) H1)
namespace fX
theorem link(h:pt d H a):C d H a:=by
 refine T_en K0 17 func40 ?_
 intro w0 Q hQ
 unfold pt at h
 refine T_su [(0,vi d)]<|ar 0<|T_ed 2 [] []<|ar 1<|T_n 1 [(7,vi d)]<|T_c (some 8) h ?_;clear h
 rintro v H1 ⟨ra,rb,rfl,h⟩
 refine⟨[(8,.tuple #[vp ra,vi rb])],pk,?_⟩
 refine T_ne 5 [(4,vp ra),(5,vi rb)]<|T_sz<|ar 2<|T_ed 2 [] [(12,.bool (rb !=0))] ?_
 revert h;refine iO_ (λc1 h=>?_) (λc1 h=>?_)
 ·refine aJ 12 (bne_eq_false_iff_eq.mpr c1)<|T_kt<|ar 4<|T_n 2 [(15,.agg #[vp ra])]<|T_nw (some 16) (λb=>vp (pa b)) (.cells #[vp ra] 54) ?_
  intro b H2 e3 e4
  replace h:=h b H2 e3 e4
  refine⟨[(16,vp (pa b))],pk,?_⟩
  exact T_nr 2 [2,3] [vp (pa b),vi 0] hQ h
 exact aI 12 (bne_iff_ne.mpr c1)<|ar 3<|T_nr 3 [2,3] [vp none,vi rb] hQ h
end fX
/-! (*moraine/card.Cards).Gen -/
namespace dF
def K0:=Func.code f80
end dF
def dF.pt(c:zW)(wv:Int)(H:zV)(R:zj):Prop:=
 dW.C wv H (λv H1=> ∃ra rb,v=.tuple #[vi ra,.bool rb]/\
 bU.C c H1 (λt H2=> ∃x,t=.bool x/\
 if x=true then(
 R (.tuple #[vi 0,vF]) H2)
 else
 if rb=true then(
 dT.C wv H2 (λs H3=> ∃m,s=vi m/\
 if m=6 then(
 R (.tuple #[vi 0,vF]) H3)
 else
 ∃cA,c=some cA/\
 ∃q,hat H3 cA=some (vp q)/\
 ∃p,q=some p/\
 ∃n,hat H3 p=some (vp n)/\
 aV.C n (zY (Int.tdiv ra 64)) H3 (λr H4=> ∃j g k d a f e i,r=.tuple #[.agg #[vi j,vi g,vi k,vi d,vi a,vi f,vi e],.bool i]/\
 ∀b H5,b=H4.size->H5=H4.push (.cells #[vi 0,vi 0,vi 0,vi 0,vi 0,vi 0,vi 0] 108)->
 (aL H5 (ad b) 0 7)/\ ∀H6,H6=aN H5 (ad b) [vi j,vi g,vi k,vi d,vi a,vi f,vi e] 0->
 ∃o,hat H6 (ad b)=some (vi o)/\
 R (.tuple #[vi o,.bool i]) H6)))
 else
 R (.tuple #[vi 0,vF]) H2))
namespace dF
theorem link(h:pt b d H a):C b d H a:=by
 refine T_en K0 41 func80 ?_
 intro w0 Q hQ
 unfold pt zY at h
 refine T_su [(0,vp b),(1,vu d)]<|ar 0<|T_ed 2 [] []<|ar 1<|T_nd 1 [] [(10,vu d)]<|T_c (some 11) h ?_;clear h
 rintro v H1 ⟨ra,rb,rfl,h⟩
 refine T_pd [10] [(11,.tuple #[vi ra,.bool rb])]<|T_ed 5 [11] [(6,vi ra),(7,.bool rb)]<|T_sz<|ar 2<|T_nd 1 [] [(14,vp b)]<|T_c (some 15) h ?_;clear h
 rintro t H2 ⟨x,rfl,h⟩
 refine T_pd [14] [(15,.bool x)]<|T_nd 1 [15] [(16,.bool x)] ?_
 revert h;refine iO_ (λc1 h=>?_) (λc1 h=>?_)
 ·exact N_bd 16 c1<|T_ed 8 [1,7,16] [(24,vT)]<|T_tz 24<|ar 3<|T_nr 2 [4,5] [vi 0,vF] hQ h
 refine N_bd 16 (zZ c1)<|T_nd 4 [7,16] [(20,.bool (!rb))] ?_
 revert h;refine iO_ (λc3 h=>?_) (λc3 h=>?_)
 ·have b4:(!rb)=false:=congrArg Bool.not (c3)
  have b42:rb=true:=c3
  refine N_bd 20 (b:=(!rb)) (v:=false) (by simp only[b4,b42,Bool.not_true,Bool.not_false]) ?_
  clear b4 b42
  refine T_nd 1 [1] [(21,vu d)]<|T_c (some 22) h ?_;clear h
  rintro s H3 ⟨m,rfl,h⟩
  refine T_pd [21] [(22,vi m)]<|T_ed 2 [20,22] [(24,.bool (m==6))] ?_
  revert h;refine iO_ (λc5 h=>?_) (λc5 h=>?_)
  ·exact aI 24 (zK c5)<|ar 3<|T_nr 2 [4,5] [vi 0,vF] hQ h
  refine aJ 24 (zJ c5)<|T_kt<|ar 4<|T_nd 1 [0,24] [(26,vp b)] ?_
  obtain⟨cA,rfl,h⟩:=h
  refine T_nd 2 [26] [(28,vq cA)] ?_
  obtain⟨q,q7,h⟩:=h
  refine T_l1 29 52 q7 [28] ?_
  obtain⟨p,rfl,h⟩:=h
  refine T_nd 2 [29] [(31,vq p)] ?_
  obtain⟨n,q8,h⟩:=h
  refine T_l1 32 78 q8 [31]<|T_nd 2 [6] [(34,vi (zY (Int.tdiv ra 64)))]<|T_c (some 35) h ?_;clear h
  rintro r H4 ⟨j,g,k,c,R,f,e,i,rfl,h⟩
  refine⟨[(35,.tuple #[.agg #[vi j,vi g,vi k,vi c,vi R,vi f,vi e],.bool i])],pk,?_⟩
  refine T_n 3 [(36,.agg #[vi j,vi g,vi k,vi c,vi R,vi f,vi e]),(37,.bool i)]<|T_nw (some 8) (λwv=>vp (pa wv)) (.cells #[vi 0,vi 0,vi 0,vi 0,vi 0,vi 0,vi 0] 108) ?_
  intro wv H5 e9 e10
  replace h:=h wv H5 e9 e10
  refine T_pd [] [(8,vp (pa wv))] ?_
  obtain⟨q12,h⟩:=h
  refine fp 108 [vi j,vi g,vi k,vi c,vi R,vi f,vi e] q12 ?_
  intro H6 e11
  replace h:=h H6 e11
  refine T_pd [36] []<|T_ed 1 [37] [(7,.bool i)]<|ar 5<|T_nd 1 [8] [(38,vp (pa wv))] ?_
  obtain⟨o,q13,h⟩:=h
  exact T_l1 39 3 q13 [38]<|T_nr 3 [4,5] [vi o,.bool i] hQ h
 have b4:(!rb)=true:=congrArg Bool.not (zZ c3)
 have b42:rb=false:=zZ c3
 refine N_bd 20 (b:=(!rb)) (v:=true) (by simp only[b4,b42,Bool.not_true,Bool.not_false]) ?_
 clear b4 b42
 exact T_ed 4 [1,20] [(24,vT)]<|T_tz 24<|ar 3<|T_nr 2 [4,5] [vi 0,vF] hQ h
end dF
/-! (*moraine/card.Cards).none -/
namespace bU
def K0:=Func.code f92
end bU
def bU.pt(c:zW)(H:zV)(R:zj):Prop:=
 eK c (
 R vT H) (λcA=>
 ∃x,hat H cA=some (vp x)/\
 eK x (
 R vT H) (λxA=>
 ∃d,hat H cA=some (vp d)/\
 ∃b,d=some b/\
 ∃a,hat H b=some (vp a)/\
 eK a (
 R vT H) (λe=>
 R vF H)))
namespace bU
theorem link(h:pt b H a):C b H a:=by
 refine T_en K0 22 func92 ?_
 intro w0 Q hQ
 unfold pt at h
 refine T_su [(0,vp b)]<|ar 0<|T_ed 1 [] []<|ar 1<|T_nd 1 [] [(3,vp b)] ?_
 rcases b with _ | cA
 ·rw[onPtr_none]at h
  exact T_nr 19 [2] [vT] hQ h
 rw[onPtr_some]at h
 refine T_n 5 [(0,vq cA),(5,vF),(8,vq cA)] ?_
 obtain⟨x,q1,h⟩:=h
 refine T_l1 9 52 q1 [8] ?_
 rcases x with _ | xA
 ·rw[onPtr_none]at h
  exact T_nr 13 [2] [vT] hQ h
 rw[onPtr_some]at h
 refine T_n 6 [(12,vF),(15,vq cA)] ?_
 obtain⟨d,q2,h⟩:=h
 refine T_l1 16 52 q2 [15] ?_
 obtain⟨c,rfl,h⟩:=h
 refine T_nd 2 [16] [(18,vq c)] ?_
 obtain⟨R,q3,h⟩:=h
 refine T_l1 19 78 q3 [18] ?_
 rcases R with _ | e
 ·rw[onPtr_none]at h
  exact T_nr 3 [2] [vT] hQ h
 rw[onPtr_some]at h
 exact T_nr 3 [2] [vF] hQ h
end bU
/-! (*moraine/card.Cards).younger -/
namespace bQ
def K0:=Func.code f107
end bQ
def bQ.pt(c:zW)(k i sN e g f d wv a:Int)(H:zV)(R:zj):Prop:=
 ∀b H1,b=H.size->H1=H.push (.cells #[vi k,vi i,vi sN,vi e,vi g,vi f,vi d] 108)->
 dF.C c wv H1 (λv H2=> ∃ra rb,v=.tuple #[vi ra,.bool rb]/\
 if rb=true then(
 ∃x,hat H2 ((ad b).add 1)=some (vi x)/\
 if x=3 then(
 R (vi a) H2)
 else
 ∃j,hat H2 (ad b)=some (vi j)/\
 if ra<j then(
 R (vi (if ra<a then ra else a)) H2)
 else
 R (vi a) H2)
 else
 R (vi a) H2)
namespace bQ
theorem link{e c f i wv R:Int}(h:pt b d g k e c f i wv R H a):C b d g k e c f i wv R H a:=by
 refine T_en K0 33 func107 ?_
 intro w0 Q hQ
 unfold pt at h
 refine T_su [(0,vp b),(1,.agg #[vi d,vi g,vi k,vi e,vi c,vi f,vi i]),(2,vu wv),(3,vi R)]<|ar 0<|T_nw (some 5) (λsN=>vp (pa sN)) (.cells #[vi d,vi g,vi k,vi e,vi c,vi f,vi i] 108) ?_
 intro sN H1 e1 e2
 replace h:=h sN H1 e1 e2
 refine T_pd [1] [(5,vp (pa sN))]<|T_ed 1 [] []<|T_sz<|ar 1<|T_nd 2 [0,2] [(12,vp b),(13,vu wv)]<|T_c (some 14) h ?_;clear h
 rintro v H2 ⟨ra,rb,rfl,h⟩
 refine T_pd [12,13] [(14,.tuple #[vi ra,.bool rb])]<|T_ed 5 [14] [(9,vi ra),(10,.bool rb)]<|ar 2<|T_nd 2 [10] [(18,.bool rb)] ?_
 revert h;refine iO_ (λc3 h=>?_) (λc3 h=>?_)
 ·refine N_bd 18 c3<|T_nd 1 [] [(19,vq ((ad sN).add 1))] ?_
  obtain⟨x,q5,h⟩:=h
  refine T_l1 20 3 q5 [19]<|T_nd 3 [18,20] [(23,.bool (x !=3))] ?_
  revert h;refine iO_ (λc6 h=>?_) (λc6 h=>?_)
  ·exact N_bd 23 (bne_eq_false_iff_eq.mpr c6)<|T_ed 5 [5,23] [(28,vF)]<|T_fz 28<|T_kt<|ar 4<|T_nr 2 [8] [vi R] hQ h
  refine N_bd 23 (bne_iff_ne.mpr c6)<|T_nd 2 [5] [(24,vi ra),(25,vp (pa sN))] ?_
  obtain⟨j,q8,h⟩:=h
  refine T_l1 26 3 q8 [25]<|T_ed 2 [23,24,26] [(28,.bool (decide (ra<j)))] ?_
  revert h;refine iO_ (λc9 h=>?_) (λc9 h=>?_)
  ·exact aI 28 (zX c9)<|ar 3<|T_nr 4 [8] [vi (if ra<R then ra else R)] hQ h
  exact aJ 28 (zQ c9)<|T_kt<|ar 4<|T_nr 2 [8] [vi R] hQ h
 exact N_bd 18 (zZ c3)<|T_ed 10 [5,18] [(28,vF)]<|T_fz 28<|T_kt<|ar 4<|T_nr 2 [8] [vi R] hQ h
end bQ
/-! (*moraine/card.Cards).Store -/
namespace cH
def K0:=Func.code f133
def K2:=cb K0
def K4:=cb K2
def K12:=cb K4
def K20:=cb K12
def K22:=cb K20
def K23:=ca K22
end cH
def cH.pt(c:zW)(d wv:Int)(H:zV)(R:zj):Prop:=
 bU.C c H (λv H1=> ∃x,v=.bool x/\
 if x=true then(
 R (vi 18) H1)
 else
 ∃cA,c=some cA/\
 ∃am,hat H1 cA=some (vp am)/\
 ∃al,am=some al/\
 ∃ah,hat H1 al=some (vp ah)/\
 bG.C ah d wv H1 (λau H2=> ∃ab,au=vi ab/\
 if ab=0 then(
 ∃aj,hat H2 cA=some (vp aj)/\
 ∃ak,aj=some ak/\
 ∃ag,hat H2 ak=some (vp ag)/\
 aV.C ag (zY (Int.tdiv d 64)) H2 (λaq H3=> ∃aa s ae o m q p rb,aq=.tuple #[.agg #[vi aa,vi s,vi ae,vi o,vi m,vi q,vi p],.bool rb]/\
 ∀b H4,b=H3.size->H4=H3.push (.cells #[vi 0,vi 0,vi 0,vi 0,vi 0,vi 0,vi 0] 108)->
 (aL H4 (ad b) 0 7)/\ ∀H5,H5=aN H4 (ad b) [vi aa,vi s,vi ae,vi o,vi m,vi q,vi p] 0->
 ∃an,hat H5 cA=some (vp an)/\
 ∃z,an=some z/\
 ∃u,hat H5 z=some (vp u)/\
 ∃y r xN e g j f,aS H5 (ad b) 0 [vi y,vi r,vi xN,vi e,vi g,vi j,vi f]/\
 ((0:Int)<=(zY (Int.tdiv (Int.tmod d 64) 16))/\(zY (Int.tdiv (Int.tmod d 64) 16))< (4:Int))/\
 ∃af,hat H5 (((ad b).add 3).add (Int.toNat (zY (Int.tdiv (Int.tmod d 64) 16))*1))=some (vi af)/\
 bQ.C (some cA) y r xN e g j f wv af H5 (λap H6=> ∃ai,ap=vi ai/\aS H6 cA 0 [vq z]/\aS H6 z 0 [vp u]/\
 dS.C u (zY (Int.tdiv d 64)) (zY (Int.tdiv (Int.tmod d 64) 16)) ai H6 (λao H7=> ∃ac,ao=vi ac/\
 R (vi ac) H7))))
 else
 R (vi ab) H2))
namespace cH
theorem link(h:pt b d g H a):C b d g H a:=by
 refine T_en K0 62 func133 ?_
 intro w0 Q hQ
 unfold pt zY at h
 refine T_su [(0,vp b),(1,vi d),(2,vu g)]<|ar 0<|T_ed 1 [] []<|T_sz<|ar 1<|T_nd 1 [] [(12,vp b)]<|T_c (some 13) h ?_;clear h
 rintro v H1 ⟨x,rfl,h⟩
 refine T_pd [12] [(13,.bool x)]<|T_e ?_
 revert h;refine iO_ (λc1 h=>?_) (λc1 h=>?_)
 ·exact aI 13 c1<|ar 2<|T_nr 1 [6] [vi 18] hQ h
 refine aJ 13 (zZ c1)<|T_kt<|T_sz<|ar 3<|T_nd 1 [13] [(14,vp b)] ?_
 obtain⟨cA,rfl,h⟩:=h
 refine T_nd 2 [0,14] [(0,vq cA),(16,vq cA)] ?_
 obtain⟨am,q3,h⟩:=h
 refine T_l1 17 52 q3 [16] ?_
 obtain⟨al,rfl,h⟩:=h
 refine T_nd 2 [17] [(19,vq al)] ?_
 obtain⟨ah,q4,h⟩:=h
 refine T_l1 20 78 q4 [19]<|T_nd 2 [] [(21,vi d),(22,vu g)]<|T_c (some 23) h ?_;clear h
 rintro au H2 ⟨ab,rfl,h⟩
 refine T_pd [20,21,22] [(23,vi ab)]<|T_ed 1 [23] [(7,vi ab)]<|ar 4<|T_ed 2 [] [(25,.bool (ab !=0))] ?_
 revert h;refine iO_ (λc5 h=>?_) (λc5 h=>?_)
 ·refine aJ 25 (bne_eq_false_iff_eq.mpr c5)<|T_kt<|ar 6<|T_ed 7 [1,7,25] [(8,vi (zY (Int.tdiv d 64))),(9,vi (zY (Int.tdiv (Int.tmod d 64) 16)))]<|ar 7<|T_nd 3 [] [(35,vq cA)] ?_
  obtain⟨aj,q7,h⟩:=h
  refine T_l1 36 52 q7 [35] ?_
  obtain⟨ak,rfl,h⟩:=h
  refine T_nd 2 [36] [(38,vq ak)] ?_
  obtain⟨ag,q8,h⟩:=h
  refine T_l1 39 78 q8 [38]<|T_nd 1 [] [(40,vi (zY (Int.tdiv d 64)))]<|T_c (some 41) h ?_;clear h
  rintro aq H3 ⟨aa,s,ae,o,m,q,p,rb,rfl,h⟩
  refine T_pd [39,40] [(41,.tuple #[.agg #[vi aa,vi s,vi ae,vi o,vi m,vi q,vi p],.bool rb])]<|T_nd 3 [41] [(42,.agg #[vi aa,vi s,vi ae,vi o,vi m,vi q,vi p]),(43,.bool rb)]<|T_nw (some 10) (λwv=>vp (pa wv)) (.cells #[vi 0,vi 0,vi 0,vi 0,vi 0,vi 0,vi 0] 108) ?_
  intro wv H4 e9 e10
  replace h:=h wv H4 e9 e10
  refine T_pd [] [(10,vp (pa wv))] ?_
  obtain⟨q12,h⟩:=h
  refine fp 108 [vi aa,vi s,vi ae,vi o,vi m,vi q,vi p] q12 ?_
  intro H5 e11
  replace h:=h H5 e11
  refine T_pd [42] []<|T_ed 1 [43] []<|T_sz ?_
  obtain⟨an,q13,z,rfl,u,q14,y,r,xN,e,c,j,f,q15,q16,af,q17,h⟩:=h
  refine yW 8 (Code.ops K23) [(17,cA,[vp (some z)]),(17,z,[vp u]),(16,(ad wv),[vi y,vi r,vi xN,vi e,vi c,vi j,vi f]),(16,(((ad wv).add 3).add (Int.toNat (zY (Int.tdiv (Int.tmod d 64) 16))*1)),[vi af])] 19 (bv 19 0) (show aH _ _ _ from⟨⟨q13,trivial⟩,⟨q14,trivial⟩,q15,⟨q17,trivial⟩,trivial⟩)<|T_gp 0 (some 44) (vp (some cA)) (bv 19 1) [(0,vp (some cA)),(2,vu g),(8,vi (zY (Int.tdiv d 64))),(9,vi (zY (Int.tdiv (Int.tmod d 64) 16))),(10,vp (pa wv)),(44,vp (some cA))]<|aF 1 45 (vp (some cA)) (bv 19 3) [44]<|aF 2 46 (vp (some cA)) (bv 19 7) [45]<|T_g1 3 47 (vp (some z)) (bv 19 15) [46] (aP 52 (vp (some cA))) (yV 17 zw)<|aF 4 48 (vp (some z)) (bv 19 31) [47]<|aF 5 49 (vp (some z)) (bv 19 63) [48]<|T_g1 6 50 (vp u) (bv 19 127) [49] (aP 78 (vp (some z))) (yV 17 yZ)<|aF 7 51 (vi (zY (Int.tdiv d 64))) (bv 19 255) [8]<|aF 8 52 (vi (zY (Int.tdiv (Int.tmod d 64) 16))) (bv 19 511) []<|aF 9 53 (vp (some cA)) (bv 19 1023) [0]<|T_g1 10 54 (.agg #[vi y,vi r,vi xN,vi e,vi c,vi j,vi f]) (bv 19 2047) [] (aP 108 (vp (pa wv))) (oP 16 (λ_=>by kernel_rfl) (λ_=>by kernel_rfl) yX (.inl (by kernel_rfl)))<|aF 11 55 (vu g) (bv 19 4095) [2]<|aF 12 56 (vi (zY (Int.tdiv (Int.tmod d 64) 16))) (bv 19 8191) [9]<|aF 13 57 (vp (some ((ad wv).add 3))) (bv 19 16383) [10]<|T_g1 14 58 (vp (some (((ad wv).add 3).add (Int.toNat (zY (Int.tdiv (Int.tmod d 64) 16))*1)))) (bv 19 32767) [56,57] (bE 79 (vp (some ((ad wv).add 3))) (vi (zY (Int.tdiv (Int.tmod d 64) 16)))) (λ_ w _ _ _=>bF (P:=prog) (t:=79) (elem:=3) (sz:=1) (n:=4) (a:=((ad wv).add 3)) (k:=.i64) (i:=(zY (Int.tdiv (Int.tmod d 64) 16))) underlying79 (λ_=>by kernel_rfl) q16.1 q16.2 w)<|T_g1 15 59 (vi af) (bv 19 65535) [58] (aP 3 (vp (some (((ad wv).add 3).add (Int.toNat (zY (Int.tdiv (Int.tmod d 64) 16))*1))))) (yV 16 yQ)<|yY 16 (some 60) (bv 19 131071) 107 #[vp (some cA),.agg #[vi y,vi r,vi xN,vi e,vi c,vi j,vi f],vu g,vi af] h ?_;clear h
  rintro ap H6 ⟨ai,rfl,f18,f19,h⟩
  refine⟨[(50,vp u),(51,vi (zY (Int.tdiv d 64))),(52,vi (zY (Int.tdiv (Int.tmod d 64) 16))),(60,vi ai)],pk,(show aH _ _ _ from⟨f18,f19,trivial,trivial,trivial⟩),?_⟩
  refine yY 17 (some 61) (bv 19 262143) 108 #[vp u,vi (zY (Int.tdiv d 64)),vi (zY (Int.tdiv (Int.tmod d 64) 16)),vi ai] h ?_;clear h
  rintro ao H7 ⟨ac,rfl,h⟩
  refine⟨[(61,vi ac)],pk,(show aH _ _ _ from⟨trivial,trivial,trivial,trivial,trivial⟩),?_⟩
  exact T_g 18 (some 6) (vi ac) (bv 19 524287) [(6,vi ac)] (pure (.value (vi ac)):Sem Next) (λ_ _ _ _ _=>rfl)<|fm [(6,vi ac)] sk<|yq<|aC<|ff [6] [vi ac] hQ h
 exact aI 25 (bne_iff_ne.mpr c5)<|ar 5<|T_nr 2 [6] [vi ab] hQ h
end cH
/-! (*moraine/obj.Heap).Cons -/
namespace cR
def K0:=Func.code f11
end cR
def cR.pt(hv:zW)(d a:Int)(H:zV)(R:zj):Prop:=
 ∀b H1,b=H.size->H1=H.push (.cells #[vu d,vu a] 28)->
 dE.C hv 0 1 (some (ad b)) 2 2 H1 (λv H2=> ∃ra rb,v=.tuple #[vu ra,vi rb]/\
 R (.tuple #[vu ra,vi rb]) H2)
namespace cR
theorem link(h:pt b d g H a):C b d g H a:=by
 refine T_en K0 15 func11 ?_
 intro w0 Q hQ
 unfold pt at h
 refine T_su [(0,vp b),(1,vu d),(2,vu g)]<|ar 0<|T_ed 2 [] []<|ar 1<|T_n 3 [(8,vp b),(9,vu d),(10,vu g)]<|T_nw (some 11) (λR=>vs (pa R) 2 2) (.cells #[vu d,vu g] 28) ?_
 intro R H1 e1 e2
 replace h:=h R H1 e1 e2
 refine T_pd [9,10] [(11,vs (pa R) 2 2)]<|T_c (some 12) h ?_;clear h
 rintro v H2 ⟨ra,rb,rfl,h⟩
 refine⟨[(12,.tuple #[vu ra,vi rb])],pk,?_⟩
 exact T_nr 4 [6,7] [vu ra,vi rb] hQ h
end cR
/-! (*moraine/obj.Heap).Car -/
namespace bS
def K0:=Func.code Tryz.f18
end bS
def bS.pt(hv:zW)(wv:Int)(H:zV)(R:zj):Prop:=
 dA.C hv wv 0 H (λv H1=> ∃ra rb,v=.tuple #[vu ra,vi rb]/\
 R (.tuple #[vu ra,vi rb]) H1)
namespace bS
theorem link(h:pt b d H a):C b d H a:=by
 refine T_en K0 11 func18 ?_
 intro w0 Q hQ
 unfold pt at h
 refine T_su [(0,vp b),(1,vu d)]<|ar 0<|T_ed 2 [] []<|ar 1<|T_n 2 [(6,vp b),(7,vu d)]<|T_c (some 8) h ?_;clear h
 rintro v H1 ⟨ra,rb,rfl,h⟩
 refine⟨[(8,.tuple #[vu ra,vi rb])],pk,?_⟩
 exact T_nr 4 [4,5] [vu ra,vi rb] hQ h
end bS
/-! (*moraine/obj.Heap).Weak -/
namespace dg
def K0:=Func.code Tryz.f19
end dg
def dg.pt(hv:zW)(d a:Int)(H:zV)(R:zj):Prop:=
 ∀b H1,b=H.size->H1=H.push (.cells #[vu d,vu a] 28)->
 dE.C hv 1 2 (some (ad b)) 2 2 H1 (λv H2=> ∃ra rb,v=.tuple #[vu ra,vi rb]/\
 R (.tuple #[vu ra,vi rb]) H2)
namespace dg
theorem link(h:pt b d g H a):C b d g H a:=by
 refine T_en K0 15 func19 ?_
 intro w0 Q hQ
 unfold pt at h
 refine T_su [(0,vp b),(1,vu d),(2,vu g)]<|ar 0<|T_ed 2 [] []<|ar 1<|T_n 3 [(8,vp b),(9,vu d),(10,vu g)]<|T_nw (some 11) (λR=>vs (pa R) 2 2) (.cells #[vu d,vu g] 28) ?_
 intro R H1 e1 e2
 replace h:=h R H1 e1 e2
 refine T_pd [9,10] [(11,vs (pa R) 2 2)]<|T_c (some 12) h ?_;clear h
 rintro v H2 ⟨ra,rb,rfl,h⟩
 refine⟨[(12,.tuple #[vu ra,vi rb])],pk,?_⟩
 exact T_nr 4 [6,7] [vu ra,vi rb] hQ h
end dg
/-! (*moraine/obj.Heap).Cdr -/
namespace cI
def K0:=Func.code f21
end cI
def cI.pt(hv:zW)(wv:Int)(H:zV)(R:zj):Prop:=
 dA.C hv wv 1 H (λv H1=> ∃ra rb,v=.tuple #[vu ra,vi rb]/\
 R (.tuple #[vu ra,vi rb]) H1)
namespace cI
theorem link(h:pt b d H a):C b d H a:=by
 refine T_en K0 11 func21 ?_
 intro w0 Q hQ
 unfold pt at h
 refine T_su [(0,vp b),(1,vu d)]<|ar 0<|T_ed 2 [] []<|ar 1<|T_n 2 [(6,vp b),(7,vu d)]<|T_c (some 8) h ?_;clear h
 rintro v H1 ⟨ra,rb,rfl,h⟩
 refine⟨[(8,.tuple #[vu ra,vi rb])],pk,?_⟩
 exact T_nr 4 [4,5] [vu ra,vi rb] hQ h
end cI
/-! (*moraine/obj.Heap).Size -/
namespace dM
def K0:=Func.code f51
end dM
def dM.pt(hv:zW)(wv:Int)(H:zV)(R:zj):Prop:=
 dQ.C hv wv H (λv H1=> ∃x,v=.bool x/\
 if x=true then(
 R (vi 2) H1)
 else
 bL.C hv wv H1 (λa H2=> ∃ra rb rc rd re,a=.tuple #[vi ra,vi rb,vi rc,vu rd,.bool re]/\
 if re=true then(
 R (vi (zY (rc+1))) H2)
 else
 R (vi 0) H2))
namespace dM
theorem link(h:pt b d H a):C b d H a:=by
 refine T_en K0 25 func51 ?_
 intro w0 Q hQ
 unfold pt zY at h
 refine T_su [(0,vp b),(1,vu d)]<|ar 0<|T_ed 1 [] []<|T_sz<|ar 1<|T_nd 2 [] [(10,vp b),(11,vu d)]<|T_c (some 12) h ?_;clear h
 rintro v H1 ⟨x,rfl,h⟩
 refine T_pd [10,11] [(12,.bool x)]<|T_e ?_
 revert h;refine iO_ (λc1 h=>?_) (λc1 h=>?_)
 ·exact aI 12 c1<|ar 2<|T_nr 1 [4] [vi 2] hQ h
 refine aJ 12 (zZ c1)<|T_kt<|T_sz<|ar 3<|T_n 2 [(14,vp b),(15,vu d)]<|T_c (some 16) h ?_;clear h
 rintro R H2 ⟨ra,rb,rc,rd,re,rfl,h⟩
 refine⟨[(16,.tuple #[vi ra,vi rb,vi rc,vu rd,.bool re])],pk,?_⟩
 refine T_ne 11 [(7,vi rc),(9,.bool re)]<|ar 4<|T_ed 1 [9] [(22,.bool re)] ?_
 revert h;refine iO_ (λc3 h=>?_) (λc3 h=>?_)
 ·exact aI 22 c3<|ar 5<|T_nr 3 [4] [vi (zY (rc+1))] hQ h
 exact aJ 22 (zZ c3)<|T_kt<|ar 6<|T_nr 1 [4] [vi 0] hQ h
end dM
/-! (*moraine/obj.Heap).half -/
namespace dA
def K0:=Func.code f66
end dA
def dA.pt(hv:zW)(wv i:Int)(H:zV)(R:zj):Prop:=
 dj.C hv wv H (λv H1=> ∃ra rb,v=.tuple #[vi ra,.bool rb]/\
 if rb=true then(
 ∃e,hv=some e/\
 ∃x,hat H1 e=some (vp x)/\
 ∃xA,x=some xA/\
 ∃g,hat H1 xA=some (vp g)/\
 ∃f,g=some f/\
 ∃d,hat H1 f=some (vp d)/\
 bN.C d (zY (ra+i)) H1 (λj H2=> ∃a b,j=.tuple #[vu a,vi b]/\
 R (.tuple #[vu a,vi b]) H2))
 else
 R (.tuple #[vu 0,vi 3]) H1)
namespace dA
theorem link(h:pt b d g H a):C b d g H a:=by
 refine T_en K0 34 func66 ?_
 intro w0 Q hQ
 unfold pt zY at h
 refine T_su [(0,vp b),(1,vu d),(2,vi g)]<|ar 0<|T_ed 2 [] []<|ar 1<|T_nd 2 [1] [(11,vp b),(12,vu d)]<|T_c (some 13) h ?_;clear h
 rintro v H1 ⟨ra,rb,rfl,h⟩
 refine T_pd [11,12] [(13,.tuple #[vi ra,.bool rb])]<|T_ed 5 [13] [(8,vi ra),(9,.bool rb)]<|T_sz<|ar 2<|T_ed 2 [9] [(17,.bool (!rb))] ?_
 revert h;refine iO_ (λc1 h=>?_) (λc1 h=>?_)
 ·refine aJ 17 (congrArg Bool.not (c1))<|T_kt<|ar 4<|T_nd 1 [0,17] [(18,vp b)] ?_
  obtain⟨e,rfl,h⟩:=h
  refine T_nd 2 [18] [(20,vq e)] ?_
  obtain⟨x,q3,h⟩:=h
  refine T_l1 21 49 q3 [20] ?_
  obtain⟨xA,rfl,h⟩:=h
  refine T_nd 2 [21] [(23,vq xA)] ?_
  obtain⟨hv,q4,h⟩:=h
  refine T_l1 24 52 q4 [23] ?_
  obtain⟨f,rfl,h⟩:=h
  refine T_nd 2 [24] [(26,vq f)] ?_
  obtain⟨wv,q5,h⟩:=h
  refine T_l1 27 78 q5 [26]<|T_nd 3 [2,8] [(30,vi (zY (ra+g)))]<|T_c (some 31) h ?_;clear h
  rintro j H2 ⟨R,i,rfl,h⟩
  refine⟨[(31,.tuple #[vu R,vi i])],pk,?_⟩
  exact T_nr 4 [6,7] [vu R,vi i] hQ h
 exact aI 17 (congrArg Bool.not (zZ c1))<|ar 3<|T_nr 2 [6,7] [vu 0,vi 3] hQ h
end dA
/-! (*moraine/obj.Heap).Pair -/
namespace dQ
def K0:=Func.code f93
end dQ
def dQ.pt(hv:zW)(wv:Int)(H:zV)(R:zj):Prop:=
 dj.C hv wv H (λv H1=> ∃ra rb,v=.tuple #[vi ra,.bool rb]/\
 R (.bool rb) H1)
namespace dQ
theorem link(h:pt b d H a):C b d H a:=by
 refine T_en K0 14 func93 ?_
 intro w0 Q hQ
 unfold pt at h
 refine T_su [(0,vp b),(1,vu d)]<|ar 0<|T_ed 1 [] []<|ar 1<|T_n 2 [(8,vp b),(9,vu d)]<|T_c (some 10) h ?_;clear h
 rintro v H1 ⟨ra,rb,rfl,h⟩
 refine⟨[(10,.tuple #[vi ra,.bool rb])],pk,?_⟩
 exact T_ne 5 [(6,.bool rb)]<|ar 2<|T_nr 2 [4] [.bool rb] hQ h
end dQ
/-! (*moraine/obj.Heap).SetCdr -/
namespace dq
def K0:=Func.code f103
end dq
def dq.pt(hv:zW)(wv v:Int)(H:zV)(R:zj):Prop:=
 eq.C hv wv 1 v H (λa H1=> ∃x,a=vi x/\
 R (vi x) H1)
namespace dq
theorem link(h:pt b d g H a):C b d g H a:=by
 refine T_en K0 11 func103 ?_
 intro w0 Q hQ
 unfold pt at h
 refine T_su [(0,vp b),(1,vu d),(2,vu g)]<|ar 0<|T_ed 1 [] []<|ar 1<|T_n 3 [(7,vp b),(8,vu d),(9,vu g)]<|T_c (some 10) h ?_;clear h
 rintro R H1 ⟨x,rfl,h⟩
 refine⟨[(10,vi x)],pk,?_⟩
 exact T_nr 1 [6] [vi x] hQ h
end dq
/-! (*moraine/obj.Heap).pair -/
namespace dj
def K0:=Func.code f109
end dj
def dj.pt(hv:zW)(wv:Int)(H:zV)(R:zj):Prop:=
 dU.C hv wv 1 0 H (λv H1=> ∃ra rb,v=.tuple #[vi ra,.bool rb]/\
 if rb=true then(
 R (.tuple #[vi ra,.bool ((Int.tmod ra 2)==0)]) H1)
 else
 dU.C hv wv 2 1 H1 (λd H2=> ∃a b,d=.tuple #[vi a,.bool b]/\
 R (.tuple #[vi a,.bool (b && ((Int.tmod a 2)==0))]) H2))
namespace dj
theorem link(h:pt b d H a):C b d H a:=by
 refine T_en K0 29 func109 ?_
 intro w0 Q hQ
 unfold pt at h
 refine T_su [(0,vp b),(1,vu d)]<|ar 0<|T_ed 2 [] []<|ar 1<|T_nd 2 [] [(9,vp b),(10,vu d)]<|T_c (some 11) h ?_;clear h
 rintro v H1 ⟨ra,rb,rfl,h⟩
 refine T_pd [9,10] [(11,.tuple #[vi ra,.bool rb])]<|T_ed 5 [11] [(6,vi ra),(7,.bool rb)]<|T_sz<|ar 2<|T_ed 2 [] [(15,.bool (!rb))] ?_
 revert h;refine iO_ (λc1 h=>?_) (λc1 h=>?_)
 ·have b2:(!rb)=false:=congrArg Bool.not (c1)
  have b22:rb=true:=c1
  refine S_bd 7 (b:=rb) (v:=true) (by simp only[b2,b22,Bool.not_true,Bool.not_false])<|S_bd 15 (b:=(!rb)) (v:=false) (by simp only[b2,b22,Bool.not_true,Bool.not_false]) ?_
  clear b2 b22
  exact T_fz 15<|T_kt<|ar 4<|T_nr 9 [4,5] [vi ra,.bool ((Int.tmod ra 2)==0)] hQ h
 have b2:(!rb)=true:=congrArg Bool.not (zZ c1)
 have b22:rb=false:=zZ c1
 refine S_bd 7 (b:=rb) (v:=false) (by simp only[b2,b22,Bool.not_true,Bool.not_false])<|S_bd 15 (b:=(!rb)) (v:=true) (by simp only[b2,b22,Bool.not_true,Bool.not_false]) ?_
 clear b2 b22
 refine T_tz 15<|T_rz 3<|T_n 2 [(17,vp b),(18,vu d)]<|T_c (some 19) h ?_;clear h
 rintro hv H2 ⟨R,wv,rfl,h⟩
 refine⟨[(19,.tuple #[vi R,.bool wv])],pk,?_⟩
 refine T_ne 5 [(6,vi R),(7,.bool wv)]<|ar 4 ?_
 refine fe [(4,vi R),(5,.bool (wv && ((Int.tmod R 2)==0)))] ?_ ?_
 ·exact aC<|ff [4,5] [vi R,.bool (wv && ((Int.tmod R 2)==0))] hQ h
 intro hk
 refine T_n 3 [(6,vi R),(22,vi R),(24,.bool wv)] ?_
 by_cases c3:wv=true
 ·have b4:wv=true:=c3
  refine bI [(6,vi R),(22,vi R),(24,vT)] (by rw[b4]) ?_
  refine T_n 6 [(4,vi R),(5,.bool ((Int.tmod R 2)==0))]<|zq<|eJ [(4,vi R),(5,.bool (wv && ((Int.tmod R 2)==0)))] (by simp only[b4,BL]) ?_
  exact hk
 have b4:wv=false:=zZ c3
 refine bI [(6,vi R),(22,vi R),(24,vF)] (by rw[b4]) ?_
 refine T_n 6 [(4,vi R),(5,vF)]<|zq<|eJ [(4,vi R),(5,.bool (wv && ((Int.tmod R 2)==0)))] (by simp only[b4,BL]) ?_
 exact hk
end dj
/-! (*moraine/obj.Heap).SetCar -/
namespace eq
def K0:=Func.code f132
end eq
def eq.pt(hv:zW)(wv i v:Int)(H:zV)(R:zj):Prop:=
 dj.C hv wv H (λd H1=> ∃ra rb,d=.tuple #[vi ra,.bool rb]/\
 if rb=true then(
 ∃b,hv=some b/\
 ∃x,hat H1 b=some (vp x)/\
 cH.C x (zY (ra+i)) v H1 (λe H2=> ∃a,e=vi a/\
 R (vi a) H2))
 else
 R (vi 3) H1)
namespace eq
theorem link(h:pt b d g k H a):C b d g k H a:=by
 refine T_en K0 28 func132 ?_
 intro w0 Q hQ
 unfold pt zY at h
 refine T_su [(0,vp b),(1,vu d),(2,vi g),(3,vu k)]<|ar 0<|T_ed 1 [] []<|ar 1<|T_nd 2 [1] [(12,vp b),(13,vu d)]<|T_c (some 14) h ?_;clear h
 rintro i H1 ⟨ra,rb,rfl,h⟩
 refine T_pd [12,13] [(14,.tuple #[vi ra,.bool rb])]<|T_ed 5 [14] [(9,vi ra),(10,.bool rb)]<|T_sz<|ar 2<|T_ed 2 [10] [(18,.bool (!rb))] ?_
 revert h;refine iO_ (λc1 h=>?_) (λc1 h=>?_)
 ·refine aJ 18 (congrArg Bool.not (c1))<|T_kt<|ar 4<|T_nd 1 [0,18] [(19,vp b)] ?_
  obtain⟨v,rfl,h⟩:=h
  refine T_nd 2 [19] [(21,vq v)] ?_
  obtain⟨x,q3,h⟩:=h
  refine T_l1 22 49 q3 [21]<|T_n 4 [(22,vp x),(25,vi (zY (ra+g))),(26,vu k)]<|T_c (some 27) h ?_;clear h
  rintro e H2 ⟨R,rfl,h⟩
  refine⟨[(27,vi R)],pk,?_⟩
  exact T_nr 1 [8] [vi R] hQ h
 exact aI 18 (congrArg Bool.not (zZ c1))<|ar 3<|T_nr 1 [8] [vi 3] hQ h
end eq
/-! (*moraine/seg.Mem).Taken -/
namespace bW
def K0:=Func.code f45
def K2:=cb K0
def K4:=cb K2
def K12:=cb K4
def K13:=ca K12
def K16:=cb K13
def K17:=ca K16
def K18:=ca K17
end bW
def bW.pt(m f:zW)(d e:Nat)(H:zV)(R:zj):Prop:=
 ∀b H1,b=H.size->H1=H.push (.cells #[vp m] 78)->
 ∃x,hat H1 (ad b)=some (vp x)/\
 eK x (
 R vN H1) (λxA=>
 ∃af,hat H1 (ad b)=some (vp af)/\
 ∃ae,af=some ae/\
 ∃xB xN xC,hat H1 ae=some (vs xB xN xC)/\
 ∃(s:zW->Nat->Nat->zk) (m19:zW->Nat->Nat->Int->zV->Nat),s none 0 0 0 H1/\ ∀lB lN lC s15 H2,s lB lN lC s15 H2->
 if s15< (xN:Int)then(
 ∃ag,hat H2 (ad b)=some (vp ag)/\
 ∃ac,ag=some ac/\
 ∃r n o,hat H2 ac=some (vs r n o)/\
 ∃g,r=some g/\
 zv s15 n/\
 ∃q,hat H2 ((g.add (Int.toNat s15*72)).add 7)=some (vi q)/\
 if q>0 then(
 if(d:Int)=0 then(
 ∀z H3,z=H2.size->H3=H2.push (.cells #[vi s15] 3)->
 fO 1 3 8 [vi 0] lB lN lC (some (ad z)) 1 H3 (λap y H4=>
 (s ap (lN+1) y (zY (s15+1)) H4/\m19 ap (lN+1) y (zY (s15+1)) H4<m19 lB lN lC s15 H2)))
 else
 ∃ab,hat H2 (g.add (Int.toNat s15*72))=some (vi ab)/\
 bC.C f d e ab H2 (λv H5=> ∃u,v=.bool u/\
 if u=true then(
 ∀aa H6,aa=H5.size->H6=H5.push (.cells #[vi s15] 3)->
 fO 1 3 8 [vi 0] lB lN lC (some (ad aa)) 1 H6 (λp j H7=>
 (s p (lN+1) j (zY (s15+1)) H7/\m19 p (lN+1) j (zY (s15+1)) H7<m19 lB lN lC s15 H2)))
 else
 (s lB lN lC (zY (s15+1)) H5/\m19 lB lN lC (zY (s15+1)) H5<m19 lB lN lC s15 H2)))
 else
 (s lB lN lC (zY (s15+1)) H2/\m19 lB lN lC (zY (s15+1)) H2<m19 lB lN lC s15 H2))
 else
 slices_SortFunc_int_int.C lB lN lC (.func (.func 89) #[] #[vq (ad b)]) H2 (λ_ H8=>
 R (vs lB lN lC) H8))
namespace bW
theorem link(h:pt b o i j H a):C b o i j H a:=by
 refine T_en K0 52 func45 ?_
 intro w0 Q hQ
 unfold pt zY at h
 refine T_su [(0,vp b),(1,vs o i j)]<|ar 0<|T_nw (some 2) (λR=>vp (pa R)) (.cells #[vp b] 78) ?_
 intro R H1 e1 e2
 replace h:=h R H1 e1 e2
 refine T_pd [0] [(2,vp (pa R))]<|T_ed 1 [] []<|T_sz<|ar 1 ?_
 obtain⟨x,q3,h⟩:=h
 refine T_l1 8 78 q3 [] ?_
 rcases x with _ | xA
 ·rw[onPtr_none]at h
  exact T_ed 1 [8] [(9,vT)]<|T_tz 9<|ar 2<|T_nr 1 [4] [vN] hQ h
 rw[onPtr_some]at h
 refine T_ed 1 [8] [(9,vF)]<|T_fz 9<|T_kt<|ar 3<|T_ed 1 [9] [(5,vN)]<|T_sz<|ar 4 ?_
 obtain⟨af,q4,h⟩:=h
 refine T_l1 10 78 q4 [] ?_
 obtain⟨ae,rfl,h⟩:=h
 refine T_nd 2 [10] [(12,vq ae)] ?_
 obtain⟨xB,xN,xC,q5,h⟩:=h
 refine T_l1 13 155 q5 [12]<|T_ed 2 [13] [(14,vi xN),(15,vi 0)]<|T_bz 0 ?_
 obtain⟨s,m19,i6,i7⟩:=h
 refine db (x:=K18) (σ:=zW×Nat×Nat×Int) (λs_=> [(1,vs o i j),(2,vp (pa R)),(5,vs s_.1 s_.2.1 s_.2.2.1),(14,vi xN),(15,vi s_.2.2.2)]) (λs_ H=>s s_.1 s_.2.1 s_.2.2.1 s_.2.2.2 H) (λs_ H=>m19 s_.1 s_.2.1 s_.2.2.1 s_.2.2.2 H) ((none,0,0,0):zW×Nat×Nat×Int) (by kernel_rfl) i6 sk ?_
 rintro⟨lB,lN,lC,s15⟩ H2 i8
 have h:=i7 lB lN lC s15 H2 i8
 refine T_su [(1,vs o i j),(2,vp (pa R)),(5,vs lB lN lC),(14,vi xN),(15,vi s15)]<|ar 5<|T_ed 1 [] [(16,.bool (decide (s15< (xN:Int))))]<|T_sz ?_
 revert h;refine iO_ (λc9 h=>?_) (λc9 h=>?_)
 ·refine aI 16 (zX c9)<|T_kt<|T_sz<|T_bz 1<|ar 6<|T_ed 2 [16] [(6,vi s15)]<|ar 7 ?_
  obtain⟨ag,q11,h⟩:=h
  refine T_l1 18 78 q11 [] ?_
  obtain⟨ac,rfl,h⟩:=h
  refine T_nd 2 [18] [(20,vq ac)] ?_
  obtain⟨r,n,d,q12,h⟩:=h
  refine T_l1 21 155 q12 [20]<|T_nd 1 [] [(22,vi s15)] ?_
  obtain⟨g,rfl,q13,h⟩:=h
  refine T_xd (some 23) 155 161 72 g n d .i64 s15 underlying155 q13.1 q13.2 [21,22] [(23,vq (g.add (Int.toNat s15*72)))]<|T_ed 1 [23] [(7,vq (g.add (Int.toNat s15*72)))]<|ar 8<|T_nd 3 [] [(26,vq ((g.add (Int.toNat s15*72)).add 7))] ?_
  obtain⟨q,q14,h⟩:=h
  refine T_l1 27 3 q14 [26]<|T_nd 2 [27] [(29,.bool (decide (q>0)))] ?_
  revert h;refine iO_ (λc15 h=>?_) (λc15 h=>?_)
  ·refine N_bd 29 (zX c15)<|T_nd 4 [] [(33,.bool ((i:Int)==0))] ?_
   revert h;refine iO_ (λc17 h=>?_) (λc17 h=>?_)
   ·refine N_bd 33 (zK c17)<|T_ed 9 [7,29,33] [(42,vT)]<|T_tz 42<|T_rz 9<|T_nd 2 [5,6,42] [(43,vs lB lN lC),(44,vi s15)]<|T_nw (some 45) (λR=>vs (pa R) 1 1) (.cells #[vi s15] 3) ?_
    intro z H3 e19 e20
    replace h:=h z H3 e19 e20
    refine T_pd [44] [(45,vs (pa z) 1 1)]<|N_op (some 46) (fy #[75,75] 75 #[vs lB lN lC,vs (pa z) 1 1]) _ (λ_=>by kernel_rfl) (fB (T:=3) (sz:=1) (bytes:=8) (zero:=(vi 0:Value)) underlying75 underlying75 rfl (show prog.info? 3=some t3 from by kernel_rfl) (by kernel_rfl) (by kernel_rfl) (by decide) (by kernel_rfl) (by first | exact h | (simpa only[Value.cells,List.toList_toArray]using h))) ?_;clear h
    rintro _ H4 ⟨ap,y,rfl,h⟩
    exact T_pd [43,45] [(46,vs ap (lN+1) y)]<|T_nd 1 [46] [(5,vs ap (lN+1) y)]<|zq<|aD<|aC<|T_rz 10<|T_ed 2 [15] [(15,vi (zY (s15+1)))]<|aR ((ap,(lN+1),y,(zY (s15+1))):zW×Nat×Nat×Int) sk h
   refine N_bd 33 (zJ c17)<|T_nd 5 [7] [(34,vs o i j),(38,vq (g.add (Int.toNat s15*72)))] ?_
   obtain⟨ab,q21,h⟩:=h
   refine T_l1 39 3 q21 [38]<|T_c (some 40) h ?_;clear h
   rintro v H5 ⟨u,rfl,h⟩
   refine T_pd [34,39] [(40,.bool u)]<|T_ed 2 [29,33,40] [(42,.bool u)] ?_
   revert h;refine iO_ (λc22 h=>?_) (λc22 h=>?_)
   ·refine aI 42 c22<|T_rz 9<|T_nd 2 [5,6,42] [(43,vs lB lN lC),(44,vi s15)]<|T_nw (some 45) (λR=>vs (pa R) 1 1) (.cells #[vi s15] 3) ?_
    intro aa H6 e24 e25
    replace h:=h aa H6 e24 e25
    refine T_pd [44] [(45,vs (pa aa) 1 1)]<|N_op (some 46) (fy #[75,75] 75 #[vs lB lN lC,vs (pa aa) 1 1]) _ (λ_=>by kernel_rfl) (fB (T:=3) (sz:=1) (bytes:=8) (zero:=(vi 0:Value)) underlying75 underlying75 rfl (show prog.info? 3=some t3 from by kernel_rfl) (by kernel_rfl) (by kernel_rfl) (by decide) (by kernel_rfl) (by first | exact h | (simpa only[Value.cells,List.toList_toArray]using h))) ?_;clear h
    rintro _ H7 ⟨p,e,rfl,h⟩
    exact T_pd [43,45] [(46,vs p (lN+1) e)]<|T_nd 1 [46] [(5,vs p (lN+1) e)]<|zq<|aD<|aC<|T_rz 10<|T_ed 2 [15] [(15,vi (zY (s15+1)))]<|aR ((p,(lN+1),e,(zY (s15+1))):zW×Nat×Nat×Int) sk h
   exact aJ 42 (zZ c22)<|T_k<|aD<|aC<|T_rz 10<|T_ed 2 [6,15,42] [(15,vi (zY (s15+1)))]<|aR ((lB,lN,lC,(zY (s15+1))):zW×Nat×Nat×Int) sk h
  refine N_bd 29 (zQ c15)<|T_ed 13 [7,29] [(42,vF)]<|T_fz 42<|T_k ?_
  exact aD<|aC<|T_rz 10<|T_ed 2 [6,15,42] [(15,vi (zY (s15+1)))]<|aR ((lB,lN,lC,(zY (s15+1))):zW×Nat×Nat×Int) sk h
 refine aJ 16 (zQ c9)<|zz 0<|aA<|aA<|aM<|aC<|ar 11<|T_n 2 [(5,vs lB lN lC),(48,vs lB lN lC),(49,.func (.func 89) #[] #[vp (pa R)])]<|T_c (some 50) h ?_;clear h
 intro v_2 H8 h
 exact T_pd [48,49] []<|T_e<|ar 12<|T_nr 2 [4] [vs lB lN lC] hQ h
end bW
/-! (*moraine/seg.Mem).Free -/
namespace ef
def K0:=Func.code f46
end ef
def ef.pt(m:zW)(H:zV)(R:zj):Prop:=
 eK m (
 R (vi 0) H) (λmA=>
 ∃x,hat H (mA.add 2)=some (vi x)/\
 R (vi x) H)
namespace ef
theorem link(h:pt b H a):C b H a:=by
 refine T_en K0 9 func46 ?_
 intro w0 Q hQ
 unfold pt at h
 refine T_su [(0,vp b)]<|ar 0<|T_ed 1 [] []<|T_sz<|ar 1<|T_nd 1 [] [(3,vp b)] ?_
 rcases b with _ | mA
 ·rw[onPtr_none]at h
  exact T_ne 1 [(0,vp none),(4,vT)]<|T_tz 4<|ar 2<|T_nr 1 [2] [vi 0] hQ h
 rw[onPtr_some]at h
 refine T_ne 1 [(0,vq mA),(4,vF)]<|T_fz 4<|T_kt<|ar 3<|T_n 3 [(7,vq (mA.add 2))] ?_
 obtain⟨x,q1,h⟩:=h
 exact T_l1 8 3 q1 [7]<|T_nr 1 [2] [vi x] hQ h
end ef
/-! (*moraine/seg.Mem).Taken.1 -/
namespace dY
def K0:=Func.code f89
def K2:=cb K0
def K3:=ca K2
end dY
def dY.pt(a b:Int)(p:zW)(H:zV)(R:zj):Prop:=
 ∃d,p=some d/\
 ∃x,hat H d=some (vp x)/\
 ∃xA,x=some xA/\
 ∃xB xN xC,hat H xA=some (vs xB xN xC)/\
 ∃f,xB=some f/\
 zv a xN/\
 ∃g,hat H ((f.add (Int.toNat a*72)).add 7)=some (vi g)/\
 ∃s,hat H d=some (vp s)/\
 ∃j,s=some j/\
 ∃r m n,hat H j=some (vs r m n)/\
 ∃e,r=some e/\
 zv b m/\
 ∃q,hat H ((e.add (Int.toNat b*72)).add 7)=some (vi q)/\
 cmp_Compare_int.C g q H (λv H1=> ∃o,v=vi o/\
 R (vi o) H1)
namespace dY
theorem link{R p:Int}(h:pt R p b H a):C R p b H a:=by
 refine T_en K0 23 func89 ?_
 intro w0 Q hQ
 unfold pt at h
 refine T_su [(0,vi R),(1,vi p),(2,vp b)]<|ar 0<|T_ed 1 [] []<|T_sz ?_
 obtain⟨d,rfl,x,q1,xA,rfl,xB,xN,xC,q2,f,rfl,q3,g,q4,s,q5,j,rfl,r,m,n,q6,e,rfl,q7,q,q8,h⟩:=h
 refine yW 1 (Code.ops K3) [(16,d,[vp (some xA)]),(16,xA,[vs (some f) xN xC]),(16,((f.add (Int.toNat R*72)).add 7),[vi g]),(16,d,[vp (some j)]),(16,j,[vs (some e) m n]),(16,((e.add (Int.toNat p*72)).add 7),[vi q])] 18 (bv 18 0) (show aH _ _ _ from⟨⟨q1,trivial⟩,⟨q2,trivial⟩,⟨q4,trivial⟩,⟨q5,trivial⟩,⟨q6,trivial⟩,⟨q8,trivial⟩,trivial⟩)<|T_g 0 (some 6) (vp (some xA)) (bv 18 1) [(0,vi R),(1,vi p),(2,vp (some d)),(6,vp (some xA))] (aP 78 (vp (some d))) (yV 16 zw)<|aF 1 7 (vp (some xA)) (bv 18 3) [6]<|aF 2 8 (vp (some xA)) (bv 18 7) [7]<|T_g1 3 9 (vs (some f) xN xC) (bv 18 15) [8] (aP 155 (vp (some xA))) (yV 16 yZ)<|aF 4 10 (vi R) (bv 18 31) [0]<|T_g1 5 11 (vp (some (f.add (Int.toNat R*72)))) (bv 18 63) [9,10] (bE 155 (vs (some f) xN xC) (vi R)) (λ_ w _ _ _=>eW (P:=prog) (t:=155) (elem:=161) (sz:=72) (a:=f) (len:=xN) (cap:=xC) (k:=.i64) (i:=R) underlying155 (λ_=>by kernel_rfl) q3.1 q3.2 w)<|aF 6 12 (vp (some ((f.add (Int.toNat R*72)).add 7))) (bv 18 127) [11]<|T_g1 7 13 (vi g) (bv 18 255) [12] (aP 3 (vp (some ((f.add (Int.toNat R*72)).add 7)))) (yV 16 yX)<|T_g1 8 14 (vp (some j)) (bv 18 511) [2] (aP 78 (vp (some d))) (yV 16 yQ)<|aF 9 15 (vp (some j)) (bv 18 1023) [14]<|aF 10 16 (vp (some j)) (bv 18 2047) [15]<|T_g1 11 17 (vs (some e) m n) (bv 18 4095) [16] (aP 155 (vp (some j))) (yV 16 yJ)<|aF 12 18 (vi p) (bv 18 8191) [1]<|T_g1 13 19 (vp (some (e.add (Int.toNat p*72)))) (bv 18 16383) [17,18] (bE 155 (vs (some e) m n) (vi p)) (λ_ w _ _ _=>eW (P:=prog) (t:=155) (elem:=161) (sz:=72) (a:=e) (len:=m) (cap:=n) (k:=.i64) (i:=p) underlying155 (λ_=>by kernel_rfl) q7.1 q7.2 w)<|aF 14 20 (vp (some ((e.add (Int.toNat p*72)).add 7))) (bv 18 32767) [19]<|T_g1 15 21 (vi q) (bv 18 65535) [20] (aP 3 (vp (some ((e.add (Int.toNat p*72)).add 7)))) (yV 16 yK)<|yY 16 (some 22) (bv 18 131071) 90 #[vi g,vi q] h ?_;clear h
 rintro v H1 ⟨o,rfl,h⟩
 refine⟨[(22,vi o)],pk,(show aH _ _ _ from⟨trivial,trivial,trivial,trivial,trivial,trivial,trivial⟩),?_⟩
 exact T_g 17 (some 5) (vi o) (bv 18 262143) [(5,vi o)] (pure (.value (vi o)):Sem Next) (λ_ _ _ _ _=>rfl)<|fm [(5,vi o)] sk<|yq<|aC<|ff [5] [vi o] hQ h
end dY
/-! (*moraine/seg.Mem).Give -/
namespace dG
def K0:=Func.code f105
end dG
def dG.pt(m:zW)(d:Int)(H:zV)(R:zj):Prop:=
 dJ.C m d H (λv H1=> ∃x,v=vp x/\
 eK x (
 R (vi 19) H1) (λxA=>
 (aL H1 xA 0 72)/\ ∀H2,H2=aN H1 xA (List.replicate 8 (vi 0)++List.replicate 64 (vu 0):List Value) 0->
 ∃mA,m=some mA/\
 ∃b,hat H2 (mA.add 2)=some (vi b)/\
 (aL H2 (mA.add 2) 0 1)/\ ∀H3,H3=aN H2 (mA.add 2) [vi (zY (b+1))] 0->
 R (vi 0) H3))
namespace dG
theorem link{H:zV}(h:pt b d H a):C b d H a:=by
 refine T_en K0 21 func105 ?_
 intro w0 Q hQ
 unfold pt zY at h
 refine T_su [(0,vp b),(1,vi d)]<|ar 0<|T_ed 1 [] []<|ar 1<|T_nd 2 [1] [(6,vp b),(7,vi d)]<|T_c (some 8) h ?_;clear h
 rintro v H1 ⟨x,rfl,h⟩
 refine T_pd [6,7] [(8,vp x)]<|T_ed 1 [8] [(5,vp x)]<|T_sz<|ar 2<|T_nd 1 [] [(9,vp x)] ?_
 rcases x with _ | xA
 ·rw[onPtr_none]at h
  exact T_ed 1 [5,9] [(5,vp none),(10,vT)]<|T_tz 10<|ar 3<|T_nr 1 [4] [vi 19] hQ h
 rw[onPtr_some]at h
 refine T_ed 1 [5,9] [(5,vq xA),(10,vF)]<|T_fz 10<|T_kt<|ar 4<|T_nd 3 [5,10] [(12,.agg (List.replicate 8 (vi 0)++List.replicate 64 (vu 0):List Value).toArray),(13,vq xA)] ?_
 obtain⟨q2,h⟩:=h
 refine km none (gQ 161 (vq xA) (.agg (List.replicate 8 (vi 0)++List.replicate 64 (vu 0):List Value).toArray)) (λHz=>Hz=aN H1 xA (List.replicate 8 (vi 0)++List.replicate 64 (vu 0):List Value) 0) (λ_=>by kernel_rfl) (by intro w hw;obtain⟨w1,g1,g2,g3⟩:=gR (P:=prog) (H:=H1) (t:=161) (a:=xA) (v:=(.agg (List.replicate 8 (vi 0)++List.replicate 64 (vu 0):List Value).toArray)) (List.replicate 8 (vi 0)++List.replicate 64 (vu 0):List Value) 72 (by kernel_rfl) (by kernel_rfl) (λ_=>by kernel_rfl) (by kernel_rfl) q2 w hw;exact⟨w1,g1,g2,g3⟩) ?_
 intro H2 e1
 replace h:=h H2 e1
 refine⟨[(0,vp b)],pk,?_⟩
 refine T_e<|ar 5<|T_n 1 [(14,vp b)] ?_
 obtain⟨mA,rfl,h⟩:=h
 refine T_n 2 [(14,vq mA),(16,vq (mA.add 2))] ?_
 obtain⟨m,q3,h⟩:=h
 refine T_l1 17 3 q3 [16]<|T_n 3 [(18,vi (zY (m+1))),(20,vq (mA.add 2))] ?_
 obtain⟨q5,h⟩:=h
 refine gD 3 (vi (zY (m+1))) q5 ?_
 intro H3 e4
 replace h:=h H3 e4
 refine⟨[],pk,?_⟩
 exact T_e<|ar 6<|T_nr 1 [4] [vi 0] hQ h
end dG
/-! (*moraine/space.Space).Words -/
namespace cJ
def K0:=Func.code f22
def K2:=cb K0
def K4:=cb K2
def K12:=cb K4
def K13:=ca K12
def K16:=cb K13
def K17:=ca K16
def K18:=ca K17
end cJ
def cJ.pt(s o:zW)(m n:Nat)(H:zV)(R:zj):Prop:=
 bV.C s H (λv H1=> ∃x,v=.bool x/\
 if x=true then(
 R (vi 0) H1)
 else
 ∃sA,s=some sA/\
 ∃ab,hat H1 sA=some (vp ab)/\
 bW.C ab o m n H1 (λaf H2=> ∃xB xN xC,af=vs xB xN xC/\
 ∃(ac:Int->zk) (m19:Int->Int->zV->Nat),ac 0 0 H2/\ ∀d s19 H3,ac d s19 H3->
 if s19< (xN:Int)then(
 ∃p,xB=some p/\
 zv s19 xN/\
 ∃u,hat H3 (p.add (Int.toNat s19*1))=some (vi u)/\
 ∃aa,hat H3 sA=some (vp aa)/\
 aV.C aa u H3 (λae H4=> ∃r q y f e j g rb,ae=.tuple #[.agg #[vi r,vi q,vi y,vi f,vi e,vi j,vi g],.bool rb]/\
 ∀b H5,b=H4.size->H5=H4.push (.cells #[vi 0,vi 0,vi 0,vi 0,vi 0,vi 0,vi 0] 108)->
 (aL H5 (ad b) 0 7)/\ ∀H6,H6=aN H5 (ad b) [vi r,vi q,vi y,vi f,vi e,vi j,vi g] 0->
 ∃z,hat H6 ((ad b).add 2)=some (vi z)/\
 (ac (zY (d+z)) (zY (s19+1)) H6/\m19 (zY (d+z)) (zY (s19+1)) H6<m19 d s19 H3)))
 else
 R (vi d) H3))
namespace cJ
theorem link(h:pt b o i j H a):C b o i j H a:=by
 refine T_en K0 38 func22 ?_
 intro w0 Q hQ
 unfold pt zY at h
 refine T_su [(0,vp b),(1,vs o i j)]<|ar 0<|T_ed 1 [] []<|T_sz<|ar 1<|T_nd 1 [] [(10,vp b)]<|T_c (some 11) h ?_;clear h
 rintro v H1 ⟨x,rfl,h⟩
 refine T_pd [10] [(11,.bool x)]<|T_e ?_
 revert h;refine iO_ (λc1 h=>?_) (λc1 h=>?_)
 ·exact aI 11 c1<|ar 2<|T_nr 1 [4] [vi 0] hQ h
 refine aJ 11 (zZ c1)<|T_kt<|ar 3<|T_ed 1 [11] [(5,vi 0)]<|T_sz<|ar 4<|T_nd 1 [] [(12,vp b)] ?_
 obtain⟨sA,rfl,h⟩:=h
 refine T_nd 2 [0,12] [(0,vq sA),(14,vq sA)] ?_
 obtain⟨ab,q3,h⟩:=h
 refine T_l1 15 78 q3 [14]<|T_nd 1 [1] [(16,vs o i j)]<|T_c (some 17) h ?_;clear h
 rintro af H2 ⟨xB,xN,xC,rfl,h⟩
 refine T_pd [15,16] [(17,vs xB xN xC)]<|T_ed 2 [] [(18,vi xN),(19,vi 0)]<|T_bz 0 ?_
 obtain⟨ac,m19,i4,i5⟩:=h
 refine db (x:=K18) (σ:=Int×Int) (λs_=> [(0,vq sA),(5,vi s_.1),(17,vs xB xN xC),(18,vi xN),(19,vi s_.2)]) (λs_ H=>ac s_.1 s_.2 H) (λs_ H=>m19 s_.1 s_.2 H) ((0,0):Int×Int) (by kernel_rfl) i4 sk ?_
 rintro⟨d,s19⟩ H3 i6
 have h:=i5 d s19 H3 i6
 refine T_su [(0,vq sA),(5,vi d),(17,vs xB xN xC),(18,vi xN),(19,vi s19)]<|ar 5<|T_ed 1 [] [(20,.bool (decide (s19< (xN:Int))))]<|T_sz ?_
 revert h;refine iO_ (λc7 h=>?_) (λc7 h=>?_)
 ·refine aI 20 (zX c7)<|T_kt<|T_sz<|T_bz 1<|ar 6<|T_ud [20] [] ?_
  obtain⟨p,rfl,q9,h⟩:=h
  refine T_xd (some 21) 75 3 1 p xN xC .i64 s19 underlying75 q9.1 q9.2 [17] [(17,vs (some p) xN xC),(21,vq (p.add (Int.toNat s19*1)))] ?_
  obtain⟨u,q10,h⟩:=h
  refine T_l1 22 3 q10 [21]<|T_ed 1 [22] [(7,vi u)]<|ar 7<|T_nd 3 [] [(26,vq sA)] ?_
  obtain⟨aa,q11,h⟩:=h
  refine T_l1 27 78 q11 [26]<|T_nd 1 [7] [(28,vi u)]<|T_c (some 29) h ?_;clear h
  rintro ae H4 ⟨r,q,y,f,e,n,g,rb,rfl,h⟩
  refine T_pd [27,28] [(29,.tuple #[.agg #[vi r,vi q,vi y,vi f,vi e,vi n,vi g],.bool rb])]<|T_nd 3 [29] [(30,.agg #[vi r,vi q,vi y,vi f,vi e,vi n,vi g]),(31,.bool rb)]<|T_nw (some 8) (λR=>vp (pa R)) (.cells #[vi 0,vi 0,vi 0,vi 0,vi 0,vi 0,vi 0] 108) ?_
  intro R H5 e12 e13
  replace h:=h R H5 e12 e13
  refine T_pd [] [(8,vp (pa R))] ?_
  obtain⟨q15,h⟩:=h
  refine fp 108 [vi r,vi q,vi y,vi f,vi e,vi n,vi g] q15 ?_
  intro H6 e14
  replace h:=h H6 e14
  refine T_pd [30] []<|T_ed 1 [31] []<|T_rz 8<|T_nd 2 [5,8] [(32,vi d),(33,vq ((ad R).add 2))] ?_
  obtain⟨z,q16,h⟩:=h
  exact T_l1 34 3 q16 [33]<|T_nd 2 [32,34] [(5,vi (zY (d+z)))]<|zq<|aD<|aC<|T_rz 9<|T_ed 2 [19] [(19,vi (zY (s19+1)))]<|aR (((zY (d+z)),(zY (s19+1))):Int×Int) sk h
 exact aJ 20 (zQ c7)<|zz 0<|aA<|aA<|aM<|aC<|ar 10<|T_nr 2 [4] [vi d] hQ h
end cJ
/-! (*moraine/space.Space).Fresh -/
namespace cL
def K0:=Func.code f48
def K2:=cb K0
def K8:=cb K2
def K9:=ca K8
def K10:=ca K9
def K12:=cb K10
def K14:=cb K12
def K17:=ca K14
def K19:=ca K17
def K21:=cb K19
def K22:=ca K21
def K25:=cb K22
def K26:=ca K25
def K27:=ca K26
end cL
def cL.pt(s e:zW)(b d:Nat)(H:zV)(R:zj):Prop:=
 eK s (
 R (.tuple #[]) H) (λsA=>
 ∃(m:zk) (m11:Int->zV->Nat),m 0 H/\ ∀s9 H1,m s9 H1->
 if s9<5 then(
 ∃(j:zk) (m28:Int->zV->Nat),j 0 H1/\ ∀g H2,j g H2->
 if g< (b:Int)then(
 ∃f,e=some f/\
 zv g b/\
 ∃x,hat H2 (f.add (Int.toNat g*1))=some (vi x)/\
 if x=s9 then(
 zv s9 5/\
 (aL H2 ((sA.add 1).add (Int.toNat s9*4)) 0 4)/\ ∀H3,H3=aN H2 ((sA.add 1).add (Int.toNat s9*4)) [vi 0,vi 0,vi 0,vi 0] 0->
 (j (zY (g+1)) H3/\m28 (zY (g+1)) H3<m28 g H2))
 else
 (j (zY (g+1)) H2/\m28 (zY (g+1)) H2<m28 g H2))
 else
 if(b:Int)=0 then(
 zv s9 5/\
 (aL H2 ((sA.add 1).add (Int.toNat s9*4)) 0 4)/\ ∀H4,H4=aN H2 ((sA.add 1).add (Int.toNat s9*4)) [vi 0,vi 0,vi 0,vi 0] 0->
 (m (zY (s9+1)) H4/\m11 (zY (s9+1)) H4<m11 s9 H1))
 else
 (m (zY (s9+1)) H2/\m11 (zY (s9+1)) H2<m11 s9 H1))
 else
 R (.tuple #[]) H1)
namespace cL
theorem link(h:pt b o i j H a):C b o i j H a:=by
 refine T_en K0 38 func48 ?_
 intro w0 Q hQ
 unfold pt zY at h
 refine T_su [(0,vp b),(1,vs o i j)]<|T_sz<|ar 0<|T_nd 1 [] [(7,vp b)] ?_
 rcases b with _ | sA
 ·rw[onPtr_none]at h
  exact T_ed 1 [0,7] [(0,vp none),(8,vT)]<|T_tz 8<|ff [] [] hQ h
 rw[onPtr_some]at h
 refine T_ed 1 [0,7] [(0,vq sA),(8,vF)]<|T_fz 8<|T_kt<|ar 1<|T_ed 1 [8] [(9,vi 0)]<|T_bz 0 ?_
 obtain⟨m,m11,i1,i2⟩:=h
 refine db (x:=K10) (σ:=Int) (λs_=> [(0,vq sA),(1,vs o i j),(9,vi s_)]) (λs_ H=>m s_ H) (λs_ H=>m11 s_ H) (0:Int) (by kernel_rfl) i1 sk ?_
 rintro s9 H1 i3
 have h:=i2 s9 H1 i3
 refine T_su [(0,vq sA),(1,vs o i j),(9,vi s9)]<|ar 2<|T_ed 1 [] [(10,.bool (decide (s9<5)))]<|T_sz ?_
 revert h;refine iO_ (λc4 h=>?_) (λc4 h=>?_)
 ·refine aI 10 (zX c4)<|T_kt<|T_sz<|T_bz 1<|ar 3<|T_ed 2 [10] [(4,vi s9)]<|T_sz<|ar 4<|T_ed 3 [] [(12,vs o i j),(13,vi i),(14,vi 0)]<|T_bz 2 ?_
  obtain⟨e,m28,i6,i7⟩:=h
  refine db (x:=K27) (σ:=Int) (λs_=> [(0,vq sA),(1,vs o i j),(4,vi s9),(9,vi s9),(12,vs o i j),(13,vi i),(14,vi s_)]) (λs_ H=>e s_ H) (λs_ H=>m28 s_ H) (0:Int) (by kernel_rfl) i6 sk ?_
  rintro g H2 i8
  have h:=i7 g H2 i8
  refine T_su [(0,vq sA),(1,vs o i j),(4,vi s9),(9,vi s9),(12,vs o i j),(13,vi i),(14,vi g)]<|ar 5<|T_ed 1 [] [(15,.bool (decide (g< (i:Int))))]<|T_sz ?_
  revert h;refine iO_ (λc9 h=>?_) (λc9 h=>?_)
  ·refine aI 15 (zX c9)<|T_kt<|T_sz<|T_bz 3<|ar 6<|T_ud [15] [] ?_
   obtain⟨f,rfl,q11,h⟩:=h
   refine T_xd (some 16) 75 3 1 f i j .i64 g underlying75 q11.1 q11.2 [1,12] [(1,vs (some f) i j),(12,vs (some f) i j),(16,vq (f.add (Int.toNat g*1)))] ?_
   obtain⟨x,q12,h⟩:=h
   refine T_l1 17 3 q12 [16]<|T_ed 1 [17] [(6,vi x)]<|ar 7<|T_ed 3 [6] [(20,.bool (x==s9))] ?_
   revert h;refine iO_ (λc13 h=>?_) (λc13 h=>?_)
   ·refine aI 20 (zK c13)<|T_rz 8<|T_nd 5 [20] [(22,vi s9),(23,.agg #[vi 0,vi 0,vi 0,vi 0]),(25,vq (sA.add 1))] ?_
    obtain⟨q15,h⟩:=h
    refine T_v1 26 (bE 80 (vq (sA.add 1)) (vi s9)) (vq ((sA.add 1).add (Int.toNat s9*4))) (λw _=>bF (P:=prog) (t:=80) (elem:=79) (sz:=4) (n:=5) (a:=(sA.add 1)) (k:=.i64) (i:=s9) underlying80 (λ_=>by kernel_rfl) q15.1 q15.2 w) [22,25] ?_
    obtain⟨q17,h⟩:=h
    refine fp 79 [vi 0,vi 0,vi 0,vi 0] q17 ?_
    intro H3 e16
    replace h:=h H3 e16
    exact T_pd [23,26] []<|zq<|aD<|aC<|T_rz 9<|T_ed 2 [14] [(14,vi (zY (g+1)))]<|aR ((zY (g+1)):Int) sk h
   exact aJ 20 (zJ c13)<|T_k<|aD<|aC<|T_rz 9<|T_ed 2 [14,20] [(14,vi (zY (g+1)))]<|aR ((zY (g+1)):Int) sk h
  refine aJ 15 (zQ c9)<|zz 2<|aA<|aA<|aM<|aC<|ar 10<|T_ed 3 [12,13,14,15] [(30,.bool ((i:Int)==0))] ?_
  revert h;refine iO_ (λc18 h=>?_) (λc18 h=>?_)
  ·refine aI 30 (zK c18)<|T_rz 11<|T_nd 5 [4,30] [(32,vi s9),(33,.agg #[vi 0,vi 0,vi 0,vi 0]),(35,vq (sA.add 1))] ?_
   obtain⟨q20,h⟩:=h
   refine T_v1 36 (bE 80 (vq (sA.add 1)) (vi s9)) (vq ((sA.add 1).add (Int.toNat s9*4))) (λw _=>bF (P:=prog) (t:=80) (elem:=79) (sz:=4) (n:=5) (a:=(sA.add 1)) (k:=.i64) (i:=s9) underlying80 (λ_=>by kernel_rfl) q20.1 q20.2 w) [32,35] ?_
   obtain⟨q22,h⟩:=h
   refine fp 79 [vi 0,vi 0,vi 0,vi 0] q22 ?_
   intro H4 e21
   replace h:=h H4 e21
   exact T_pd [33,36] []<|zq<|aD<|aC<|T_rz 12<|T_ed 2 [9] [(9,vi (zY (s9+1)))]<|aR ((zY (s9+1)):Int) sk h
  exact aJ 30 (zJ c18)<|T_k<|aD<|aC<|T_rz 12<|T_ed 2 [4,9,30] [(9,vi (zY (s9+1)))]<|aR ((zY (s9+1)):Int) sk h
 exact aJ 10 (zQ c4)<|zz 0<|aA<|aA<|aM<|fx (fn:=f48) [] hQ (show dV _ _ _ [] _ from .nil) h
end cL
/-! (*moraine/space.Space).Give -/
namespace cW
def K0:=Func.code f63
def K2:=cb K0
def K4:=cb K2
def K11:=ca K4
def K14:=cb K11
def K16:=cb K14
def K17:=ca K16
end cW
def cW.pt(s:zW)(d:Int)(H:zV)(R:zj):Prop:=
 bV.C s H (λv H1=> ∃x,v=.bool x/\
 if x=true then(
 R (vi 19) H1)
 else
 ∃sA,s=some sA/\
 ∃af,hat H1 sA=some (vp af)/\
 aV.C af d H1 (λal H2=> ∃r p ab f e j g rb,al=.tuple #[.agg #[vi r,vi p,vi ab,vi f,vi e,vi j,vi g],.bool rb]/\
 ∀b H3,b=H2.size->H3=H2.push (.cells #[vi 0,vi 0,vi 0,vi 0,vi 0,vi 0,vi 0] 108)->
 (aL H3 (ad b) 0 7)/\ ∀H4,H4=aN H3 (ad b) [vi r,vi p,vi ab,vi f,vi e,vi j,vi g] 0->
 if rb=true then(
 ∃o,hat H4 (ad b)=some (vi o)/\
 ∃u,hat H4 ((ad b).add 1)=some (vi u)/\
 zv o 5/\
 zv u 4/\
 ∃y,hat H4 (((sA.add 1).add (Int.toNat o*4)).add (Int.toNat u*1))=some (vi y)/\
 if y=(zY (d+1))then(
 ∃m,hat H4 (ad b)=some (vi m)/\
 ∃q,hat H4 ((ad b).add 1)=some (vi q)/\
 zv m 5/\
 zv q 4/\
 (aL H4 (((sA.add 1).add (Int.toNat m*4)).add (Int.toNat q*1)) 0 1)/\ ∀H5,H5=aN H4 (((sA.add 1).add (Int.toNat m*4)).add (Int.toNat q*1)) [vi 0] 0->
 ∃ag,hat H5 sA=some (vp ag)/\
 dG.C ag d H5 (λak H6=> ∃ah,ak=vi ah/\
 R (vi ah) H6))
 else
 ∃aa,hat H4 sA=some (vp aa)/\
 dG.C aa d H4 (λaj H7=> ∃ae,aj=vi ae/\
 R (vi ae) H7))
 else
 ∃z,hat H4 sA=some (vp z)/\
 dG.C z d H4 (λai H8=> ∃ac,ai=vi ac/\
 R (vi ac) H8)))
namespace cW
theorem link(h:pt b d H a):C b d H a:=by
 refine T_en K0 49 func63 ?_
 intro w0 Q hQ
 unfold pt zY at h
 refine T_su [(0,vp b),(1,vi d)]<|ar 0<|T_ed 1 [] []<|T_sz<|ar 1<|T_nd 1 [] [(7,vp b)]<|T_c (some 8) h ?_;clear h
 rintro v H1 ⟨x,rfl,h⟩
 refine T_pd [7] [(8,.bool x)]<|T_e ?_
 revert h;refine iO_ (λc1 h=>?_) (λc1 h=>?_)
 ·exact aI 8 c1<|ar 2<|T_nr 1 [4] [vi 19] hQ h
 refine aJ 8 (zZ c1)<|T_kt<|T_sz<|ar 3<|T_nd 1 [8] [(10,vp b)] ?_
 obtain⟨sA,rfl,h⟩:=h
 refine T_nd 2 [0,10] [(0,vq sA),(12,vq sA)] ?_
 obtain⟨af,q3,h⟩:=h
 refine T_l1 13 78 q3 [12]<|T_nd 1 [] [(14,vi d)]<|T_c (some 15) h ?_;clear h
 rintro al H2 ⟨r,p,ab,f,e,j,g,rb,rfl,h⟩
 refine T_pd [13,14] [(15,.tuple #[.agg #[vi r,vi p,vi ab,vi f,vi e,vi j,vi g],.bool rb])]<|T_nd 3 [15] [(16,.agg #[vi r,vi p,vi ab,vi f,vi e,vi j,vi g]),(17,.bool rb)]<|T_nw (some 5) (λs=>vp (pa s)) (.cells #[vi 0,vi 0,vi 0,vi 0,vi 0,vi 0,vi 0] 108) ?_
 intro s H3 e4 e5
 replace h:=h s H3 e4 e5
 refine T_pd [] [(5,vp (pa s))] ?_
 obtain⟨q7,h⟩:=h
 refine fp 108 [vi r,vi p,vi ab,vi f,vi e,vi j,vi g] q7 ?_
 intro H4 e6
 replace h:=h H4 e6
 refine T_pd [16] []<|T_ed 1 [17] [(6,.bool rb)]<|T_sz<|nT 4<|T_q1 18 (.bool rb) [6]<|T_q1 19 (.bool rb) [18] ?_
 revert h;refine iO_ (λc8 h=>?_) (λc8 h=>?_)
 ·refine Q_bd 19 c8<|T_q1 20 (vq sA) []<|T_q1 21 (vp (pa s)) [] ?_
  obtain⟨o,q10,h⟩:=h
  refine kw (some 22) 3 q10 [21] [(22,vi o)]<|T_q1 23 (vq ((ad s).add 1)) [] ?_
  obtain⟨u,q11,h⟩:=h
  refine kw (some 24) 3 q11 [23] [(24,vi u)]<|T_q1 25 (vq sA) [20]<|T_q1 26 (vq (sA.add 1)) [25] ?_
  obtain⟨q12,h⟩:=h
  refine Q_op (some 27) (bE 80 (vp (some (sA.add 1))) (vi o)) (vp (some ((sA.add 1).add (Int.toNat o*4)))) (λ_=>by kernel_rfl) (λw _=>bF (P:=prog) (t:=80) (elem:=79) (sz:=4) (n:=5) (a:=(sA.add 1)) (k:=.i64) (i:=o) underlying80 (λ_=>by kernel_rfl) q12.1 q12.2 w) [(0,vp (some sA)),(1,vi d),(5,vp (pa s)),(19,.bool true),(24,vi u),(27,vp (some ((sA.add 1).add (Int.toNat o*4))))] pk ?_
  obtain⟨q13,h⟩:=h
  refine Q_op (some 28) (bE 79 (vp (some ((sA.add 1).add (Int.toNat o*4)))) (vi u)) (vp (some (((sA.add 1).add (Int.toNat o*4)).add (Int.toNat u*1)))) (λ_=>by kernel_rfl) (λw _=>bF (P:=prog) (t:=79) (elem:=3) (sz:=1) (n:=4) (a:=((sA.add 1).add (Int.toNat o*4))) (k:=.i64) (i:=u) underlying79 (λ_=>by kernel_rfl) q13.1 q13.2 w) [(0,vp (some sA)),(1,vi d),(5,vp (pa s)),(19,.bool true),(28,vp (some (((sA.add 1).add (Int.toNat o*4)).add (Int.toNat u*1))))] pk ?_
  obtain⟨y,q14,h⟩:=h
  refine T_ql (some 29) 3 q14 [(0,vq sA),(1,vi d),(5,vp (pa s)),(19,vT),(29,vi y)]<|T_q1 30 (vi d) []<|T_q1 31 (vi (zY (d+1))) [30]<|T_q1 32 (.bool (y==(zY (d+1)))) [29,31]<|T_q1 33 (.bool (y==(zY (d+1)))) [19,32]<|jM [(0,vq sA),(1,vi d),(5,vp (pa s)),(33,.bool (y==(zY (d+1))))] sk<|T_qe ?_
  revert h;refine iO_ (λc15 h=>?_) (λc15 h=>?_)
  ·refine aI 33 (zK c15) ?_
   obtain⟨m,q17,q,q18,q19,q20,h⟩:=h
   refine yW 5 (Code.ops K17) [(9,(ad s),[vi m]),(9,((ad s).add 1),[vi q])] 10 (bv 10 0) (show aH _ _ _ from⟨⟨q17,trivial⟩,⟨q18,trivial⟩,trivial⟩)<|T_gp 0 (some 34) (vp (some sA)) (bv 10 1) [(0,vp (some sA)),(1,vi d),(5,vp (pa s)),(34,vp (some sA))]<|aF 1 35 (vp (pa s)) (bv 10 3) []<|T_g1 2 36 (vi m) (bv 10 7) [35] (aP 3 (vp (pa s))) (yV 9 zw)<|aF 3 37 (vp (some ((ad s).add 1))) (bv 10 15) [5]<|T_g1 4 38 (vi q) (bv 10 31) [37] (aP 3 (vp (some ((ad s).add 1)))) (yV 9 yZ)<|aF 5 39 (vp (some sA)) (bv 10 63) [34]<|aF 6 40 (vp (some (sA.add 1))) (bv 10 127) [39]<|T_g1 7 41 (vp (some ((sA.add 1).add (Int.toNat m*4)))) (bv 10 255) [36,40] (bE 80 (vp (some (sA.add 1))) (vi m)) (λ_ w _ _ _=>bF (P:=prog) (t:=80) (elem:=79) (sz:=4) (n:=5) (a:=(sA.add 1)) (k:=.i64) (i:=m) underlying80 (λ_=>by kernel_rfl) q19.1 q19.2 w)<|T_g1 8 42 (vp (some (((sA.add 1).add (Int.toNat m*4)).add (Int.toNat q*1)))) (bv 10 511) [38,41] (bE 79 (vp (some ((sA.add 1).add (Int.toNat m*4)))) (vi q)) (λ_ w _ _ _=>bF (P:=prog) (t:=79) (elem:=3) (sz:=1) (n:=4) (a:=((sA.add 1).add (Int.toNat m*4))) (k:=.i64) (i:=q) underlying79 (λ_=>by kernel_rfl) q20.1 q20.2 w) ?_
   obtain⟨q22,h⟩:=h
   refine fQ 9 none (bv 10 1023) (gQ 3 (vq (((sA.add 1).add (Int.toNat m*4)).add (Int.toNat q*1))) (vi 0)) (λHz=>Hz=aN H4 (((sA.add 1).add (Int.toNat m*4)).add (Int.toNat q*1)) [vi 0] 0) (by kernel_rfl) (λ_=>by kernel_rfl) (gR [vi 0] 1 (by kernel_rfl) (by kernel_rfl) (λ_=>by kernel_rfl) (by kernel_rfl) q22) (by kernel_rfl) ?_
   intro H5 e21
   replace h:=h H5 e21
   refine⟨[(0,vq sA),(1,vi d)],pk,(show aH _ _ _ from⟨trivial,trivial,trivial⟩),?_⟩
   refine fm [(0,vq sA),(1,vi d)] sk ?_
   refine yq<|aC<|ar 6<|T_n 3 [(1,vi d),(45,vq sA)] ?_
   obtain⟨ag,q23,h⟩:=h
   refine T_l1 46 78 q23 [45]<|T_nd 1 [1] [(47,vi d)]<|T_c (some 48) h ?_;clear h
   rintro ak H6 ⟨ah,rfl,h⟩
   refine⟨[(48,vi ah)],pk,?_⟩
   exact T_nr 1 [4] [vi ah] hQ h
  refine aJ 33 (zJ c15)<|T_kt<|ar 6<|T_n 3 [(1,vi d),(45,vq sA)] ?_
  obtain⟨aa,q24,h⟩:=h
  refine T_l1 46 78 q24 [45]<|T_nd 1 [1] [(47,vi d)]<|T_c (some 48) h ?_;clear h
  rintro aj H7 ⟨ae,rfl,h⟩
  refine⟨[(48,vi ae)],pk,?_⟩
  exact T_nr 1 [4] [vi ae] hQ h
 refine Q_bd 19 (zZ c8)<|T_q1 20 (undef) []<|T_q1 21 (undef) []<|T_q1 22 (undef) [21]<|T_q1 23 (undef) []<|T_q1 24 (undef) [23]<|T_q1 25 (undef) [20]<|T_q1 26 (undef) [25]<|T_q1 27 (undef) [22,26] ?_
 refine T_q1 28 (undef) [24,27]<|T_q1 29 (undef) [28]<|T_q1 30 (undef) []<|T_q1 31 (undef) [30]<|T_q1 32 (undef) [29,31]<|T_q1 33 vF [19,32]<|jM [(0,vq sA),(1,vi d),(5,vp (pa s)),(33,vF)] sk<|T_qe<|T_fz 33<|T_kt<|ar 6<|T_n 3 [(1,vi d),(45,vq sA)] ?_
 obtain⟨z,q25,h⟩:=h
 refine T_l1 46 78 q25 [45]<|T_nd 1 [1] [(47,vi d)]<|T_c (some 48) h ?_;clear h
 rintro ai H8 ⟨ac,rfl,h⟩
 refine⟨[(48,vi ac)],pk,?_⟩
 exact T_nr 1 [4] [vi ac] hQ h
end cW
/-! cmp.Compare[int] -/
namespace cmp_Compare_int
def K0:=Func.code f90
end cmp_Compare_int
def cmp_Compare_int.pt(x y:Int)(H:zV)(R:zj):Prop:=
 cmp_isNaN_int.C x H (λv H1=> ∃b,v=.bool b/\
 cmp_isNaN_int.C y H1 (λd H2=> ∃a,d=.bool a/\
 if b=true then(
 if a=true then(
 R (vi 0) H2)
 else
 R (vi (-1)) H2)
 else
 if a=true then(
 R (vi 1) H2)
 else
 if x<y then(
 R (vi (-1)) H2)
 else
 if x>y then(
 R (vi 1) H2)
 else
 R (vi 0) H2))
namespace cmp_Compare_int
theorem link(h:pt d g H a):C d g H a:=by
 refine T_en K0 20 func90 ?_
 intro w0 Q hQ
 unfold pt at h
 refine T_su [(0,vi d),(1,vi g)]<|ar 0<|T_ed 1 [] []<|ar 1<|T_nd 1 [] [(7,vi d)]<|T_c (some 8) h ?_;clear h
 rintro v H1 ⟨b,rfl,h⟩
 refine T_pd [7] [(8,.bool b)]<|T_ed 1 [8] [(5,.bool b)]<|ar 2<|T_nd 1 [] [(9,vi g)]<|T_c (some 10) h ?_;clear h
 rintro y H2 ⟨R,rfl,h⟩
 refine T_pd [9] [(10,.bool R)]<|T_ed 1 [10] [(6,.bool R)]<|T_sz<|ar 3<|T_ed 1 [5] [(11,.bool b)] ?_
 revert h;refine iO_ (λc1 h=>?_) (λc1 h=>?_)
 ·refine aI 11 c1<|T_sz<|ar 4<|T_ne 1 [(12,.bool R)] ?_
  revert h;refine iO_ (λc3 h=>?_) (λc3 h=>?_)
  ·exact aI 12 c3<|ar 5<|T_nr 1 [4] [vi 0] hQ h
  exact aJ 12 (zZ c3)<|T_kt<|ar 6<|T_nr 1 [4] [vi (-1)] hQ h
 refine aJ 11 (zZ c1)<|T_kt<|T_sz<|ar 7<|T_ed 1 [6,11] [(13,.bool R)] ?_
 revert h;refine iO_ (λc5 h=>?_) (λc5 h=>?_)
 ·exact aI 13 c5<|ar 8<|T_nr 1 [4] [vi 1] hQ h
 refine aJ 13 (zZ c5)<|T_kt<|T_sz<|ar 9<|T_ed 3 [13] [(16,.bool (decide (d<g)))] ?_
 revert h;refine iO_ (λc7 h=>?_) (λc7 h=>?_)
 ·exact aI 16 (zX c7)<|ar 10<|T_nr 1 [4] [vi (-1)] hQ h
 refine aJ 16 (zQ c7)<|T_kt<|T_sz<|ar 11<|T_ne 3 [(19,.bool (decide (d>g)))] ?_
 revert h;refine iO_ (λc9 h=>?_) (λc9 h=>?_)
 ·exact aI 19 (zX c9)<|ar 12<|T_nr 1 [4] [vi 1] hQ h
 exact aJ 19 (zQ c9)<|T_kt<|ar 13<|T_nr 1 [4] [vi 0] hQ h
end cmp_Compare_int
/-! cmp.isNaN[int] -/
namespace cmp_isNaN_int
def K0:=Func.code f129
end cmp_isNaN_int
def cmp_isNaN_int.pt(x:Int)(H:zV)(R:zj):Prop:=
 R (.bool (x !=x)) H
namespace cmp_isNaN_int
theorem link(h:pt d H a):C d H a:=by
 refine T_en K0 6 func129 ?_
 intro w0 Q hQ
 unfold pt at h
 exact T_su [(0,vi d)]<|ar 0<|T_ed 1 [] []<|ar 1<|T_nr 4 [2] [.bool (d !=d)] hQ h
end cmp_isNaN_int
/-! slices.Clone[[]moraine/api.Entry,moraine/api.Entry] -/
namespace bC
def K0:=Func.code f87
end bC
def bC.pt(sB:zW)(sN sC:Nat)(v:Int)(H:zV)(R:zj):Prop:=
 bY.C sB sN sC v H (λa H1=> ∃x,a=vi x/\
 R (.bool (decide (x>=0))) H1)
namespace bC
theorem link(h:pt b i j d H a):C b i j d H a:=by
 refine T_en K0 9 func87 ?_
 intro w0 Q hQ
 unfold pt at h
 refine T_su [(0,vs b i j),(1,vi d)]<|ar 0<|T_ed 1 [] []<|ar 1<|T_n 2 [(5,vs b i j),(6,vi d)]<|T_c (some 7) h ?_;clear h
 rintro R H1 ⟨x,rfl,h⟩
 refine⟨[(7,vi x)],pk,?_⟩
 exact T_nr 2 [4] [.bool (decide (x>=0))] hQ h
end bC
/-! slices.Index[[]int,int] -/
namespace bY
def K0:=Func.code f126
def K2:=cb K0
def K3:=ca K2
def K6:=cb K3
def K7:=ca K6
def K8:=ca K7
end bY
def bY.pt(sB:zW)(sN sC:Nat)(v:Int)(H:zV)(R:zj):Prop:=
 ∃(I9:zk) (m9:Int->zV->Nat),I9 0 H/\ ∀s8 H1,I9 s8 H1->
 if s8< (sN:Int)then(
 ∃b,sB=some b/\
 zv s8 sN/\
 ∃x,hat H1 (b.add (Int.toNat s8*1))=some (vi x)/\
 if v=x then(
 R (vi s8) H1)
 else
 (I9 (zY (s8+1)) H1/\m9 (zY (s8+1)) H1<m9 s8 H1))
 else
 R (vi (-1)) H1
namespace bY
theorem link(h:pt b i j d H a):C b i j d H a:=by
 refine T_en K0 19 func126 ?_
 intro w0 Q hQ
 unfold pt zY at h
 refine T_su [(0,vs b i j),(1,vi d)]<|ar 0<|T_ed 1 [] []<|T_sz<|ar 1<|T_ed 3 [] [(7,vi i),(8,vi 0)]<|T_bz 0 ?_
 obtain⟨I9,m9,i1,i2⟩:=h
 refine db (x:=K8) (σ:=Int) (λs_=> [(0,vs b i j),(1,vi d),(7,vi i),(8,vi s_)]) (λs_ H=>I9 s_ H) (λs_ H=>m9 s_ H) (0:Int) (by kernel_rfl) i1 sk ?_
 rintro s8 H1 i3
 have h:=i2 s8 H1 i3
 refine T_su [(0,vs b i j),(1,vi d),(7,vi i),(8,vi s8)]<|ar 2<|T_ed 1 [] [(9,.bool (decide (s8< (i:Int))))]<|T_sz ?_
 revert h;refine iO_ (λc4 h=>?_) (λc4 h=>?_)
 ·refine aI 9 (zX c4)<|T_kt<|T_sz<|T_bz 1<|ar 3<|T_ed 2 [9] [(5,vi s8)]<|ar 4<|T_nd 3 [] [(11,vi d),(12,vs b i j),(13,vi s8)] ?_
  obtain⟨R,rfl,q6,h⟩:=h
  refine T_xd (some 14) 75 3 1 R i j .i64 s8 underlying75 q6.1 q6.2 [0,12,13] [(0,vs (some R) i j),(14,vq (R.add (Int.toNat s8*1)))] ?_
  obtain⟨x,q7,h⟩:=h
  refine T_l1 15 3 q7 [14]<|T_ed 1 [11,15] [(16,.bool (d==x))] ?_
  revert h;refine iO_ (λc8 h=>?_) (λc8 h=>?_)
  ·exact aI 16 (zK c8)<|ar 5<|T_nr 2 [4] [vi s8] hQ h
  exact aJ 16 (zJ c8)<|T_k<|aD<|aC<|T_rz 6<|T_ed 2 [5,8,16] [(8,vi (zY (s8+1)))]<|aR ((zY (s8+1)):Int) sk h
 exact aJ 9 (zQ c4)<|zz 0<|aA<|aA<|aM<|aC<|ar 7<|T_nr 1 [4] [vi (-1)] hQ h
end bY
/-! (*moraine/obj.Heap).Next -/
namespace dO
def K0:=Func.code f65
end dO
def dO.pt(hv:zW)(H:zV)(R:zj):Prop:=
 di.C hv H (λv H1=> ∃x,v=.bool x/\
 if x=true then(
 R (.tuple #[]) H1)
 else
 ∃a,hv=some a/\
 ∃b,hat H1 (a.add 3)=some (vu b)/\
 (aL H1 (a.add 3) 0 1)/\ ∀H2,H2=aN H1 (a.add 3) [vu (IntKind.wrap .u64 (b+1))] 0->
 R (.tuple #[]) H2)
namespace dO
set_option maxRecDepth 100000 in
theorem link(h:pt b H a):C b H a:=by
 refine T_en K0 12 func65 ?_
 intro w0 Q hQ
 unfold pt at h
 refine T_su [(0,vp b)]<|ar 0<|T_nd 1 [] [(2,vp b)]<|T_c (some 3) h ?_;clear h
 rintro v H1 ⟨x,rfl,h⟩
 refine T_pd [2] [(3,.bool x)]<|T_ed 1 [3] [(4,.bool (!x))] ?_
 revert h;refine iO_ (λc1 h=>?_) (λc1 h=>?_)
 ·exact aJ 4 (congrArg Bool.not (c1))<|T_k<|fx (fn:=f65) [] hQ (show dV _ _ _ [] _ from .nil) h
 refine aI 4 (congrArg Bool.not (zZ c1))<|T_rz 1<|T_n 1 [(5,vp b)] ?_
 obtain⟨R,rfl,h⟩:=h
 refine T_n 2 [(5,vq R),(7,vq (R.add 3))] ?_
 obtain⟨hv,q3,h⟩:=h
 refine T_l1 8 22 q3 [7]<|T_n 3 [(9,vu (IntKind.wrap .u64 (hv+1))),(11,vq (R.add 3))] ?_
 obtain⟨q5,h⟩:=h
 refine gD 22 (vu (IntKind.wrap .u64 (hv+1))) q5 ?_
 intro H2 e4
 replace h:=h H2 e4
 refine⟨[],pk,?_⟩
 exact zq<|fx (fn:=f65) [] hQ (show dV _ _ _ [] _ from .nil) h
end dO
/-! moraine/morainelaw12.queue -/
namespace bP
def K0:=Func.code f17
def K2:=cb K0
def K4:=cb K2
def K6:=cb K4
def K8:=cb K6
def K10:=cb K8
def K17:=ca K10
def K19:=ca K17
def K20:=ca K19
end bP
def bP.pt(hv:zW)(e:Int)(H:zV)(R:zj):Prop:=
 dm.C hv e 10 0 H (λv H1=> ∃ra rb,v=.tuple #[vu ra,vi rb]/\
 dm.C hv e 10 1 H1 (λq H2=> ∃a j,q=.tuple #[vu a,vi j]/\
 if(((rb !=0) || (j !=0)) || (!((ra==20)==(a==20))))=true then(
 R (.tuple #[vN,vF]) H2)
 else
 ∃(m:zW->Nat->Nat->zk) (m21:zW->Nat->Nat->Int->zV->Nat),m none 0 0 ra H2/\ ∀lB lN lC p H3,m lB lN lC p H3->
 if p=20 then(
 R (.tuple #[vs lB lN lC,vT]) H3)
 else
 bS.C hv p H3 (λo H4=> ∃f i,o=.tuple #[vu f,vi i]/\
 cI.C hv p H4 (λn H5=> ∃d g,n=.tuple #[vu d,vi g]/\
 if((((i !=0) || (g !=0)) || (decide ((lN:Int)>100000))) || (!((d==20)==(p==a))))=true then(
 R (.tuple #[vN,vF]) H5)
 else
 ∀b H6,b=H5.size->H6=H5.push (.cells #[vu f] 28)->
 fO 1 28 8 [vu 0] lB lN lC (some (ad b)) 1 H6 (λap k H7=>
 (m ap (lN+1) k d H7/\m21 ap (lN+1) k d H7<m21 lB lN lC p H3))))))
namespace bP
set_option maxRecDepth 100000 in
theorem link(h:pt b d H a):C b d H a:=by
 refine T_en K0 79 func17 ?_
 intro w0 Q hQ
 unfold pt at h
 refine T_su [(0,vp b),(1,vu d)]<|ar 0<|T_ed 2 [] []<|ar 1<|T_ed 1 [] [(6,vN)]<|ar 2<|T_nd 2 [] [(16,vp b),(17,vu d)]<|T_c (some 18) h ?_;clear h
 rintro v H1 ⟨ra,rb,rfl,h⟩
 refine T_pd [16,17] [(18,.tuple #[vu ra,vi rb])]<|T_ed 5 [18] [(7,vu ra),(8,vi rb)]<|ar 3<|T_nd 2 [1] [(22,vp b),(23,vu d)]<|T_c (some 24) h ?_;clear h
 rintro q H2 ⟨R,j,rfl,h⟩
 refine T_pd [22,23] [(24,.tuple #[vu R,vi j])]<|T_ed 5 [24] [(9,vu R),(10,vi j)]<|T_sz<|ar 4 ?_
 refine fe [(0,vp b),(6,vN),(7,vu ra),(9,vu R),(39,.bool (((rb !=0) || (j !=0)) || (!((ra==20)==(R==20)))))] ?_ ?_
 ·refine aC ?_
  revert h;refine iO_ (λc5 h=>?_) (λc5 h=>?_)
  ·exact aI 39 c5<|ar 5<|T_nr 2 [4,5] [vN,vF] hQ h
  refine aJ 39 (zZ c5)<|T_kt<|T_sz<|T_bz 0 ?_
  obtain⟨m,m21,i7,i8⟩:=h
  refine db (x:=K20) (σ:=zW×Nat×Nat×Int) (λs_=> [(0,vp b),(6,vs s_.1 s_.2.1 s_.2.2.1),(7,vu s_.2.2.2),(9,vu R)]) (λs_ H=>m s_.1 s_.2.1 s_.2.2.1 s_.2.2.2 H) (λs_ H=>m21 s_.1 s_.2.1 s_.2.2.1 s_.2.2.2 H) ((none,0,0,ra):zW×Nat×Nat×Int) (by kernel_rfl) i7 sk ?_
  rintro⟨lB,lN,lC,p⟩ H3 i9
  have h:=i8 lB lN lC p H3 i9
  refine T_su [(0,vp b),(6,vs lB lN lC),(7,vu p),(9,vu R)]<|T_sz<|ar 6<|T_ed 2 [] [(41,.bool (p !=20))] ?_
  revert h;refine iO_ (λc10 h=>?_) (λc10 h=>?_)
  ·exact aJ 41 (bne_eq_false_iff_eq.mpr c10)<|zz 0<|aA<|aA<|aM<|aC<|ar 13<|T_nr 3 [4,5] [vs lB lN lC,vT] hQ h
  refine aI 41 (bne_iff_ne.mpr c10)<|T_kt<|T_bz 1<|ar 7<|T_nd 2 [41] [(43,vp b),(44,vu p)]<|T_c (some 45) h ?_;clear h
  rintro o H4 ⟨f,i,rfl,h⟩
  refine T_pd [43,44] [(45,.tuple #[vu f,vi i])]<|T_ed 5 [45] [(11,vu f),(12,vi i)]<|ar 8<|T_nd 2 [] [(49,vp b),(50,vu p)]<|T_c (some 51) h ?_;clear h
  rintro n H5 ⟨hv,g,rfl,h⟩
  refine T_pd [49,50] [(51,.tuple #[vu hv,vi g])]<|T_ed 5 [51] [(13,vu hv),(14,vi g)]<|T_sz<|ar 9 ?_
  refine fe [(0,vp b),(6,vs lB lN lC),(9,vu R),(11,vu f),(13,vu hv),(72,.bool ((((i !=0) || (g !=0)) || (decide ((lN:Int)>100000))) || (!((hv==20)==(p==R)))))] ?_ ?_
  ·refine aC ?_
   revert h;refine iO_ (λc18 h=>?_) (λc18 h=>?_)
   ·exact aI 72 c18<|ar 10<|T_nr 2 [4,5] [vN,vF] hQ h
   refine aJ 72 (zZ c18)<|T_kt<|ar 11<|T_n 2 [(0,vp b),(9,vu R),(13,vu hv),(73,vs lB lN lC),(74,vu f)]<|T_nw (some 75) (λe=>vs (pa e) 1 1) (.cells #[vu f] 28) ?_
   intro e H6 e20 e21
   replace h:=h e H6 e20 e21
   refine T_pd [74] [(75,vs (pa e) 1 1)]<|N_op (some 76) (fy #[32,32] 32 #[vs lB lN lC,vs (pa e) 1 1]) _ (λ_=>by kernel_rfl) (fB (T:=28) (sz:=1) (bytes:=8) (zero:=(vu 0:Value)) underlying32 underlying32 rfl (show prog.info? 28=some t28 from by kernel_rfl) (by kernel_rfl) (by kernel_rfl) (by decide) (by kernel_rfl) (by first | exact h | (simpa only[Value.cells,List.toList_toArray]using h))) ?_;clear h
   rintro _ H7 ⟨ap,k,rfl,h⟩
   exact T_pd [73,75] [(76,vs ap (lN+1) k)]<|T_ed 1 [76] [(6,vs ap (lN+1) k)]<|T_rz 12<|T_nd 2 [13] [(7,vu hv)]<|zq<|aD<|aC<|aR ((ap,(lN+1),k,hv):zW×Nat×Nat×Int) sk h
  intro hk
  refine T_n 3 [(0,vp b),(6,vs lB lN lC),(7,vu p),(9,vu R),(11,vu f),(13,vu hv),(14,vi g),(56,.bool (i !=0))] ?_
  by_cases c12:i=0
  ·have b13:(i !=0)=false:=bne_eq_false_iff_eq.mpr c12
   refine bI [(0,vp b),(6,vs lB lN lC),(7,vu p),(9,vu R),(11,vu f),(13,vu hv),(14,vi g),(56,vF)] (by rw[b13]) ?_
   refine T_nd 4 [14,56] [(60,.bool (g !=0))] ?_
   by_cases c14:g=0
   ·have b15:(g !=0)=false:=bne_eq_false_iff_eq.mpr c14
    refine N_bd 60 b15<|T_nd 5 [60] [(65,.bool (decide ((lN:Int)>100000)))] ?_
    by_cases c16:(lN:Int)>100000
    ·have b17:(decide ((lN:Int)>100000))=true:=zX c16
     refine N_bd 65 b17<|T_nd 7 [7,65] [(72,vT)] ?_
     refine zq<|S_bd 72 (b:=true) (v:=((((i !=0) || (g !=0)) || (decide ((lN:Int)>100000))) || (!((hv==20)==(p==R))))) (by simp only[b13,b15,b17,BL]) ?_
     exact hk
    have b17:(decide ((lN:Int)>100000))=false:=zQ c16
    refine N_bd 65 b17<|T_nd 7 [7,65] [(72,.bool (!((hv==20)==(p==R))))] ?_
    refine zq<|S_bd 72 (b:=(!((hv==20)==(p==R)))) (v:=((((i !=0) || (g !=0)) || (decide ((lN:Int)>100000))) || (!((hv==20)==(p==R))))) (by simp only[b13,b15,b17,BL]) ?_
    exact hk
   have b15:(g !=0)=true:=bne_iff_ne.mpr c14
   refine N_bd 60 b15<|T_nd 12 [7,60] [(72,vT)] ?_
   refine zq<|S_bd 72 (b:=true) (v:=((((i !=0) || (g !=0)) || (decide ((lN:Int)>100000))) || (!((hv==20)==(p==R))))) (by simp only[b13,b15,BL]) ?_
   exact hk
  have b13:(i !=0)=true:=bne_iff_ne.mpr c12
  refine bI [(0,vp b),(6,vs lB lN lC),(7,vu p),(9,vu R),(11,vu f),(13,vu hv),(14,vi g),(56,vT)] (by rw[b13]) ?_
  refine T_nd 16 [7,14,56] [(72,vT)]<|zq<|S_bd 72 (b:=true) (v:=((((i !=0) || (g !=0)) || (decide ((lN:Int)>100000))) || (!((hv==20)==(p==R))))) (by simp only[b13,BL]) ?_
  exact hk
 intro hk
 refine T_n 3 [(0,vp b),(6,vN),(7,vu ra),(9,vu R),(10,vi j),(29,.bool (rb !=0))] ?_
 by_cases c1:rb=0
 ·have b2:(rb !=0)=false:=bne_eq_false_iff_eq.mpr c1
  refine bI [(0,vp b),(6,vN),(7,vu ra),(9,vu R),(10,vi j),(29,vF)] (by rw[b2]) ?_
  refine T_nd 4 [10,29] [(33,.bool (j !=0))] ?_
  by_cases c3:j=0
  ·have b4:(j !=0)=false:=bne_eq_false_iff_eq.mpr c3
   refine N_bd 33 b4<|T_nd 6 [33] [(39,.bool (!((ra==20)==(R==20))))] ?_
   refine zq<|S_bd 39 (b:=(!((ra==20)==(R==20)))) (v:=(((rb !=0) || (j !=0)) || (!((ra==20)==(R==20))))) (by simp only[b2,b4,BL]) ?_
   exact hk
  have b4:(j !=0)=true:=bne_iff_ne.mpr c3
  refine N_bd 33 b4<|T_nd 6 [33] [(39,vT)] ?_
  refine zq<|S_bd 39 (b:=true) (v:=(((rb !=0) || (j !=0)) || (!((ra==20)==(R==20))))) (by simp only[b2,b4,BL]) ?_
  exact hk
 have b2:(rb !=0)=true:=bne_iff_ne.mpr c1
 refine bI [(0,vp b),(6,vN),(7,vu ra),(9,vu R),(10,vi j),(29,vT)] (by rw[b2]) ?_
 refine T_nd 10 [10,29] [(39,vT)]<|zq<|S_bd 39 (b:=true) (v:=(((rb !=0) || (j !=0)) || (!((ra==20)==(R==20))))) (by simp only[b2,BL]) ?_
 exact hk
end bP
/-! moraine/morainelaw12.awake -/
namespace bD
def K0:=Func.code f9
end bD
def bD.pt(H:zV)(R:zj):Prop:=
 gl.C 40 H (λv H1=> ∃ra rb,v=.tuple #[vp ra,vi rb]/\
 if rb=0 then(
 eK ra (
 R vF H1) (λa=>
 ∀b H2,b=H1.size->H2=H1.push (.cells #[vu 20,vu 20] 28)->
 df.C (some a) 10 0 (some (ad b)) 2 2 H2 (λaq H3=> ∃o y,aq=.tuple #[vu o,vi y]/\
 cR.C (some a) 8 20 H3 (λal H4=> ∃n z,al=.tuple #[vu n,vi z]/\
 dg.C (some a) n 20 H4 (λak H5=> ∃q u,ak=.tuple #[vu q,vi u]/\
 eF.C (some a) 0 0 1 H5 (λag H6=> ∃d r,ag=.tuple #[vp d,vi r]/\
 if r=0 then(
 aQ.C d o H6 (λav H7=> ∃x,av=vu x/\
 aQ.C d q H7 (λaf H8=> ∃p,af=vu p/\
 bM.C d H8 (λ_ H9=>
 ∀t H10,t=H9.size->H10=H9.push (.cells #[vu n,vu x] 36)->
 du.C d (some (ad t)) 1 1 H10 (λah am=> ∃xB xN xC,ah=vs xB xN xC/\
 eG.C d am (λ_ ap=>
 cF.C d ap (λ_ ai=>
 dm.C (some a) x 10 0 ai (λab ao=> ∃s j,ab=.tuple #[vu s,vi j]/\
 bS.C (some a) s ao (λaa au=> ∃f k,aa=.tuple #[vu f,vi k]/\
 bS.C (some a) p au (λae an=> ∃e m,ae=.tuple #[vu e,vi m]/\
 bS.C (some a) e an (λac aj=> ∃g i,ac=.tuple #[vu g,vi i]/\
 R (.bool ((((((((xN:Int)==0) && (j==0)) && (k==0)) && (m==0)) && (f==e)) && (g==8)) && (i==0))) aj)))))))))))
 else
 R vF H6))))))
 else
 R vF H1)
namespace bD
set_option maxRecDepth 100000 in
theorem link(h:pt H a):C H a:=by
 refine T_en K0 124 func9 ?_
 intro w0 Q hQ
 unfold pt at h
 refine T_su []<|ar 0<|T_ne 1 []<|ar 1<|T_c (some 21) h ?_;clear h
 rintro v H1 ⟨ra,rb,rfl,h⟩
 refine⟨[(21,.tuple #[vp ra,vi rb])],pk,?_⟩
 refine T_ne 5 [(1,vp ra),(2,vi rb)]<|T_sz<|ar 2<|T_nd 3 [2] [(26,.bool (rb !=0))] ?_
 revert h;refine iO_ (λc1 h=>?_) (λc1 h=>?_)
 ·refine N_bd 26 (bne_eq_false_iff_eq.mpr c1)<|T_nd 1 [] [(27,vp ra)] ?_
  rcases ra with _ | R
  ·rw[onPtr_none]at h
   exact T_ne 2 [(1,vp none),(29,vT)]<|T_tz 29<|ar 3<|T_nr 1 [0] [vF] hQ h
  rw[onPtr_some]at h
  refine T_ne 2 [(1,vq R),(29,vF)]<|T_fz 29<|T_kt<|ar 4<|T_nd 1 [29] [(31,vq R)]<|T_nw (some 32) (λb=>vs (pa b) 2 2) (.cells #[vu 20,vu 20] 28) ?_
  intro b H2 e3 e4
  replace h:=h b H2 e3 e4
  refine T_pd [] [(32,vs (pa b) 2 2)]<|T_c (some 33) h ?_;clear h
  rintro aq H3 ⟨o,y,rfl,h⟩
  refine T_pd [31,32] [(33,.tuple #[vu o,vi y])]<|T_ed 5 [33] [(3,vu o)]<|ar 5<|T_nd 1 [] [(37,vq R)]<|T_c (some 38) h ?_;clear h
  rintro al H4 ⟨n,z,rfl,h⟩
  refine T_pd [37] [(38,.tuple #[vu n,vi z])]<|T_ed 5 [38] [(5,vu n)]<|ar 6<|T_nd 2 [] [(42,vq R),(43,vu n)]<|T_c (some 44) h ?_;clear h
  rintro ak H5 ⟨q,u,rfl,h⟩
  refine T_pd [42,43] [(44,.tuple #[vu q,vi u])]<|T_ed 5 [44] [(7,vu q)]<|ar 7<|T_nd 1 [] [(48,vq R)]<|T_c (some 49) h ?_;clear h
  rintro ag H6 ⟨d,r,rfl,h⟩
  refine T_pd [48] [(49,.tuple #[vp d,vi r])]<|T_ed 5 [49] [(9,vp d),(10,vi r)]<|T_sz<|ar 8<|T_ed 2 [10] [(53,.bool (r !=0))] ?_
  revert h;refine iO_ (λc5 h=>?_) (λc5 h=>?_)
  ·refine aJ 53 (bne_eq_false_iff_eq.mpr c5)<|T_kt<|ar 10<|T_nd 2 [3,53] [(54,vp d),(55,vu o)]<|T_c (some 56) h ?_;clear h
   rintro av H7 ⟨x,rfl,h⟩
   refine T_pd [54,55] [(56,vu x)]<|T_nd 2 [7] [(57,vp d),(58,vu q)]<|T_c (some 59) h ?_;clear h
   rintro af H8 ⟨p,rfl,h⟩
   refine T_pd [57,58] [(59,vu p)]<|T_ed 2 [56,59] [(3,vu x),(7,vu p)]<|ar 11<|T_nd 1 [] [(60,vp d)]<|T_c (some 61) h ?_;clear h
   intro v_8 H9 h
   refine T_pd [60] []<|T_e<|ar 12<|T_nd 4 [5] [(62,vp d),(65,.agg #[vu n,vu x])]<|T_nw (some 66) (λb=>vs (pa b) 1 1) (.cells #[vu n,vu x] 36) ?_
   intro t H10 e7 e8
   replace h:=h t H10 e7 e8
   refine T_pd [65] [(66,vs (pa t) 1 1)]<|T_c (some 67) h ?_;clear h
   rintro ah am ⟨xB,xN,xC,rfl,h⟩
   refine T_pd [62,66] [(67,vs xB xN xC)]<|T_ed 1 [67] [(11,vs xB xN xC)]<|ar 13<|T_nd 1 [] [(68,vp d)]<|T_c (some 69) h ?_;clear h
   intro v_10 ap h
   refine T_pd [68] []<|T_e<|ar 14<|T_nd 1 [9] [(70,vp d)]<|T_c (some 71) h ?_;clear h
   intro v_11 ai h
   refine T_pd [70] []<|T_e<|ar 15<|T_nd 2 [3] [(73,vq R),(74,vu x)]<|T_c (some 75) h ?_;clear h
   rintro ab ao ⟨s,j,rfl,h⟩
   refine T_pd [73,74] [(75,.tuple #[vu s,vi j])]<|T_ed 5 [75] [(12,vu s),(13,vi j)]<|ar 16<|T_nd 2 [12] [(79,vq R),(80,vu s)]<|T_c (some 81) h ?_;clear h
   rintro aa au ⟨f,k,rfl,h⟩
   refine T_pd [79,80] [(81,.tuple #[vu f,vi k])]<|T_ed 5 [81] [(14,vu f),(15,vi k)]<|ar 17<|T_nd 2 [7] [(85,vq R),(86,vu p)]<|T_c (some 87) h ?_;clear h
   rintro ae an ⟨e,m,rfl,h⟩
   refine T_pd [85,86] [(87,.tuple #[vu e,vi m])]<|T_ed 5 [87] [(16,vu e),(17,vi m)]<|ar 18<|T_nd 2 [1] [(91,vq R),(92,vu e)]<|T_c (some 93) h ?_;clear h
   rintro ac aj ⟨g,i,rfl,h⟩
   refine T_pd [91,92] [(93,.tuple #[vu g,vi i])]<|T_ed 5 [93] [(18,vu g),(19,vi i)]<|ar 19 ?_
   refine fe [(0,.bool ((((((((xN:Int)==0) && (j==0)) && (k==0)) && (m==0)) && (f==e)) && (g==8)) && (i==0)))] ?_ ?_
   ·exact aC<|ff [0] [.bool ((((((((xN:Int)==0) && (j==0)) && (k==0)) && (m==0)) && (f==e)) && (g==8)) && (i==0))] hQ h
   intro hk
   refine T_n 4 [(13,vi j),(14,vu f),(15,vi k),(16,vu e),(17,vi m),(18,vu g),(19,vi i),(99,.bool ((xN:Int)==0))] ?_
   by_cases c9:(xN:Int)=0
   ·have b10:((xN:Int)==0)=true:=zK c9
    refine bI [(13,vi j),(14,vu f),(15,vi k),(16,vu e),(17,vi m),(18,vu g),(19,vi i),(99,vT)] (by rw[b10]) ?_
    refine T_nd 4 [13,99] [(103,.bool (j==0))] ?_
    by_cases c11:j=0
    ·have b12:(j==0)=true:=zK c11
     refine N_bd 103 b12<|T_nd 4 [15,103] [(107,.bool (k==0))] ?_
     by_cases c13:k=0
     ·have b14:(k==0)=true:=zK c13
      refine N_bd 107 b14<|T_nd 4 [17,107] [(111,.bool (m==0))] ?_
      by_cases c15:m=0
      ·have b16:(m==0)=true:=zK c15
       refine N_bd 111 b16<|T_nd 5 [14,16,111] [(116,.bool (f==e))] ?_
       by_cases c17:f=e
       ·have b18:(f==e)=true:=zK c17
        refine N_bd 116 b18<|T_n 4 [(19,vi i),(120,.bool (g==8))] ?_
        by_cases c19:g=8
        ·have b20:(g==8)=true:=zK c19
         refine bI [(19,vi i),(120,vT)] (by rw[b20]) ?_
         refine T_n 4 [(0,.bool (i==0))]<|zq<|eJ [(0,.bool ((((((((xN:Int)==0) && (j==0)) && (k==0)) && (m==0)) && (f==e)) && (g==8)) && (i==0)))] (by simp only[b10,b12,b14,b16,b18,b20,BL]) ?_
         exact hk
        have b20:(g==8)=false:=zJ c19
        refine bI [(19,vi i),(120,vF)] (by rw[b20]) ?_
        refine T_n 4 [(0,vF)]<|zq<|eJ [(0,.bool ((((((((xN:Int)==0) && (j==0)) && (k==0)) && (m==0)) && (f==e)) && (g==8)) && (i==0)))] (by simp only[b10,b12,b14,b16,b18,b20,BL]) ?_
        exact hk
       have b18:(f==e)=false:=zJ c17
       refine N_bd 116 b18<|T_n 8 [(0,vF)] ?_
       refine zq<|eJ [(0,.bool ((((((((xN:Int)==0) && (j==0)) && (k==0)) && (m==0)) && (f==e)) && (g==8)) && (i==0)))] (by simp only[b10,b12,b14,b16,b18,BL]) ?_
       exact hk
      have b16:(m==0)=false:=zJ c15
      refine N_bd 111 b16<|T_n 13 [(0,vF)] ?_
      refine zq<|eJ [(0,.bool ((((((((xN:Int)==0) && (j==0)) && (k==0)) && (m==0)) && (f==e)) && (g==8)) && (i==0)))] (by simp only[b10,b12,b14,b16,BL]) ?_
      exact hk
     have b14:(k==0)=false:=zJ c13
     refine N_bd 107 b14<|T_n 17 [(0,vF)] ?_
     refine zq<|eJ [(0,.bool ((((((((xN:Int)==0) && (j==0)) && (k==0)) && (m==0)) && (f==e)) && (g==8)) && (i==0)))] (by simp only[b10,b12,b14,BL]) ?_
     exact hk
    have b12:(j==0)=false:=zJ c11
    refine N_bd 103 b12<|T_n 21 [(0,vF)] ?_
    refine zq<|eJ [(0,.bool ((((((((xN:Int)==0) && (j==0)) && (k==0)) && (m==0)) && (f==e)) && (g==8)) && (i==0)))] (by simp only[b10,b12,BL]) ?_
    exact hk
   have b10:((xN:Int)==0)=false:=zJ c9
   refine bI [(13,vi j),(14,vu f),(15,vi k),(16,vu e),(17,vi m),(18,vu g),(19,vi i),(99,vF)] (by rw[b10]) ?_
   refine T_n 25 [(0,vF)]<|zq<|eJ [(0,.bool ((((((((xN:Int)==0) && (j==0)) && (k==0)) && (m==0)) && (f==e)) && (g==8)) && (i==0)))] (by simp only[b10,BL]) ?_
   exact hk
  exact aI 53 (bne_iff_ne.mpr c5)<|ar 9<|T_nr 1 [0] [vF] hQ h
 exact N_bd 26 (bne_iff_ne.mpr c1)<|T_ed 3 [26] [(29,vT)]<|T_tz 29<|ar 3<|T_nr 1 [0] [vF] hQ h
end bD
/-! moraine/morainelaw12.WeakBroken -/
namespace bJ
def K0:=Func.code f4
def K2:=cb K0
def K4:=cb K2
def K6:=cb K4
def K14:=cb K6
def K15:=ca K14
def K16:=cb K14
def K18:=cb K15
def K19:=ca K18
def K20:=ca K19
def K31:=cb K16
def K33:=cb K31
def K35:=cb K33
def K36:=ca K35
def K37:=cb K35
def K39:=cb K36
def K40:=ca K39
def K41:=ca K40
def K52:=cb K37
def K54:=cb K52
def K60:=cb K54
def K62:=cb K60
def K68:=cb K62
def K70:=cb K68
def K72:=cb K70
def K74:=cb K72
def K76:=cb K74
def K78:=cb K76
def K80:=cb K78
def K87:=ca K80
def K88:=cb K80
def K90:=cb K87
def K91:=ca K90
def K92:=ca K91
def K113:=cb K88
def K119:=cb K113
def K121:=cb K119
def K122:=ca K121
def K125:=cb K122
def K126:=ca K125
def K127:=ca K126
end bJ
def bJ.pt(j:Int)(f:zW)(d e:Nat)(g:Bool)(H:zV)(R:zj):Prop:=
 gl.C 400 H (λv H1=> ∃ra rb,v=.tuple #[vp ra,vi rb]/\
 if((((rb !=0) || (decide (j<0))) || (decide (j>1000))) || (decide ((d:Int)>1000)))=true then(
 ∃J:Bool->zV->Prop,(
 if rb=0 then(
 bD.C H1 (λc2 H3=> ∃x,c2=.bool x/\
 J x H3))
 else
 J false H1)/\ ∀s6 H2,J s6 H2->
 R (.bool s6) H2)
 else
 ∃(bp:Int->zk) (m21:Int->Int->zV->Nat),bp 20 0 H1/\ ∀ak i H4,bp ak i H4->
 if i< (d:Int)then(
 ∃af,f=some af/\
 zv i d/\
 ∃a7,hat H4 (af.add (Int.toNat i*1))=some (vi a7)/\
 cR.C ra (ishl .u64 (IntKind.wrap .u64 a7) 3) ak H4 (λct H5=> ∃ay br,ct=.tuple #[vu ay,vi br]/\
 (bp ay (zY (i+1)) H5/\m21 ay (zY (i+1)) H5<m21 ak i H4)))
 else
 cR.C ra 12 ak H4 (λcr H6=> ∃aa bs,cr=.tuple #[vu aa,vi bs]/\
 ∀b H7,b=H6.size->H7=H6.push (.cells #[vu 20,vu 20] 28)->
 df.C ra 10 0 (some (ad b)) 2 2 H7 (λc8 H8=> ∃s bq,c8=.tuple #[vu s,vi bq]/\
 ∃(bj:Int->zk) (m42:Int->Int->zV->Nat),bj 20 0 H8/\ ∀ah i_2 H9,bj ah i_2 H9->
 if i_2<j then(
 dg.C ra aa ah H9 (λc6 cm=> ∃aw bw,c6=.tuple #[vu aw,vi bw]/\
 (bj aw (zY (i_2+1)) cm/\m42 aw (zY (i_2+1)) cm<m42 ah i_2 H9)))
 else
 ∃bo:zW->Nat->Nat->zV->Prop,(
 if g=true then(
 ∀ba H34,ba=H9.size->H34=H9.push (.cells #[vu aa,vu s] 36)->
 fO 2 36 16 [vu 0,vu 0] none 0 0 (some (ad ba)) 1 H34 (λap bl cw=>
 bo ap (0+1) bl cw))
 else
 bo none 0 0 H9)/\ ∀q entriesN entriesC H11,bo q entriesN entriesC H11->
 eF.C ra 0 1 1 H11 (λcp ck=> ∃u aq,cp=.tuple #[vp u,vi aq]/\
 if aq=0 then(
 aQ.C u ah ck (λcv cz=> ∃ac,cv=vu ac/\
 aQ.C u s cz (λc9 c0=> ∃al,c9=vu al/\
 bM.C u c0 (λ_ cy=>
 du.C u q entriesN entriesC cy (λch cx=> ∃xB xN xC,ch=vs xB xN xC/\
 eG.C u cx (λ_ cq=>
 cF.C u cq (λ_ cu=>
 bP.C ra al cu (λb5 b9=> ∃y n o aj,b5=.tuple #[vs y n o,.bool aj]/\
 if(((!aj) || ((xN:Int) !=0)) || (!(g==((n:Int)==1))))=true then(
 R vF b9)
 else
 ∃(a8:Int->zk) (m93:Int->Int->zV->Nat),a8 ac 0 b9/\ ∀m i_3 H20,a8 m i_3 H20->
 if i_3<j then(
 bS.C ra m H20 (λb1 bd=> ∃z bt,b1=.tuple #[vu z,vi bt]/\
 if g=true then(
 ∃ag,y=some ag/\
 zv 0 n/\
 ∃am,hat bd (ag.add (Int.toNat 0*1))=some (vu am)/\
 if z=am then(
 cI.C ra m bd (λcc co=> ∃av bu,cc=.tuple #[vu av,vi bu]/\
 (a8 av (zY (i_3+1)) co/\m93 av (zY (i_3+1)) co<m93 m i_3 H20)))
 else
 R vF bd)
 else
 if z=44 then(
 cI.C ra m bd (λcg bx=> ∃az bg,cg=.tuple #[vu az,vi bg]/\
 (a8 az (zY (i_3+1)) bx/\m93 az (zY (i_3+1)) bx<m93 m i_3 H20)))
 else
 R vF bd))
 else
 if g=true then(
 ∃ab,y=some ab/\
 zv 0 n/\
 ∃be,hat H20 (ab.add (Int.toNat 0*1))=some (vu be)/\
 bS.C ra be H20 (λcn b0=> ∃p bi,cn=.tuple #[vu p,vi bi]/\
 zv 0 n/\
 ∃bc,hat b0 (ab.add (Int.toNat 0*1))=some (vu bc)/\
 cI.C ra bc b0 (λcl c4=> ∃au bf,cl=.tuple #[vu au,vi bf]/\
 ∃(a6:Int->zk) (m128:Int->Int->zV->Nat),a6 au (zY ((d:Int)-1)) c4/\ ∀ae i_4 H26,a6 ae i_4 H26->
 if i_4>=0 then(
 bS.C ra ae H26 (λci bm=> ∃ai an,ci=.tuple #[vu ai,vi an]/\
 if an=0 then(
 ∃r,f=some r/\
 zv i_4 d/\
 ∃a1,hat bm (r.add (Int.toNat i_4*1))=some (vi a1)/\
 if ai=(ishl .u64 (IntKind.wrap .u64 a1) 3)then(
 cI.C ra ae bm (λcj ce=> ∃ao bh,cj=.tuple #[vu ao,vi bh]/\
 (a6 ao (zY (i_4-1)) ce/\m128 ao (zY (i_4-1)) ce<m128 ae i_4 H26)))
 else
 R vF bm)
 else
 R vF bm))
 else
 if p=12 then(
 if ae=20 then(
 if m=20 then(
 bD.C H26 (λb7 da=> ∃a9,b7=.bool a9/\
 R (.bool a9) da))
 else
 R vF H26)
 else
 R vF H26)
 else
 R vF H26)))
 else
 ∃bk:Bool->zV->Prop,(
 ∃bn,ra=some bn/\
 ∃a5,hat H20 bn=some (vp a5)/\
 ∃a4,a5=some a4/\
 ∃a0,hat H20 a4=some (vp a0)/\
 ∀bb H31,bb=H20.size->H31=H20.push (.cells #[vi 1] 3)->
 cJ.C a0 (some (ad bb)) 1 1 H31 (λbz b3=> ∃ax,bz=vi ax/\
 if ax=(zY ((zY (2*j))+3))then(
 bD.C b3 (λcd cs=> ∃a3,cd=.bool a3/\
 bk a3 cs))
 else
 bk false b3))/\ ∀a2 H30,bk a2 H30->
 R (.bool a2) H30))))))))
 else
 R vF ck))))
namespace bJ
theorem link{g:Bool}(h:pt d b i j g H a):C d b i j g H a:=by
 refine T_en K0 259 func4 ?_
 intro w0 Q hQ
 unfold pt zY at h
 refine T_su [(0,vi d),(1,vs b i j),(2,.bool g)]<|ar 0<|T_ed 1 [] []<|ar 1<|T_c (some 34) h ?_;clear h
 rintro v H1 ⟨ra,rb,rfl,h⟩
 refine T_pd [] [(34,.tuple #[vp ra,vi rb])]<|T_ed 5 [34] [(7,vp ra),(8,vi rb)]<|T_sz<|ar 2 ?_
 refine fe [(0,vi d),(1,vs b i j),(2,.bool g),(7,vp ra),(8,vi rb),(51,.bool ((((rb !=0) || (decide (d<0))) || (decide (d>1000))) || (decide ((i:Int)>1000))))] ?_ ?_
 ·refine aC ?_
  revert h;refine iO_ (λc7 h=>?_) (λc7 h=>?_)
  ·refine aI 51 c7<|T_sz ?_
   obtain⟨J,h,j10⟩:=h
   refine l5 (σ:=Bool) (λs_=> [(6,.bool s_)]) (λs_ H=>J s_ H) ?_ ?_
   ·rintro s6 H2 j11
    replace h:=j10 s6 H2 j11
    exact T_su [(6,.bool s6)]<|aC<|ff [6] [.bool s6] hQ h
   refine T_rz 3<|T_n 3 [(54,.bool (rb==0))] ?_
   revert h;refine iO_ (λc12 h=>?_) (λc12 h=>?_)
   ·have b13:(rb==0)=true:=zK c12
    refine bI [(54,vT)] (by rw[b13]) ?_
    clear b13
    refine T_c (some 55) h ?_;clear h
    rintro c2 H3 ⟨x,rfl,h⟩
    exact T_pd [] [(55,.bool x)]<|T_ne 2 [(6,.bool x)]<|iF (x:Bool) sk h
   have b13:(rb==0)=false:=zJ c12
   refine bI [(54,vF)] (by rw[b13]) ?_
   clear b13
   exact T_ne 3 [(6,vF)]<|iF (false:Bool) sk h
  refine aJ 51 (zZ c7)<|T_kt<|ar 4<|T_ne 1 [(0,vi d),(1,vs b i j),(2,.bool g),(7,vp ra),(9,vu 20)]<|T_sz<|ar 5<|T_ed 1 [] [(10,vi 0)]<|T_bz 0 ?_
  obtain⟨bp,m21,i14,i15⟩:=h
  refine db (x:=K20) (σ:=Int×Int) (λs_=> [(0,vi d),(1,vs b i j),(2,.bool g),(7,vp ra),(9,vu s_.1),(10,vi s_.2)]) (λs_ H=>bp s_.1 s_.2 H) (λs_ H=>m21 s_.1 s_.2 H) ((20,0):Int×Int) (by kernel_rfl) i14 sk ?_
  rintro⟨ak,e⟩ H4 i16
  have h:=i15 ak e H4 i16
  refine T_su [(0,vi d),(1,vs b i j),(2,.bool g),(7,vp ra),(9,vu ak),(10,vi e)]<|T_sz<|ar 6<|T_ed 4 [] [(60,.bool (decide (e< (i:Int))))] ?_
  revert h;refine iO_ (λc17 h=>?_) (λc17 h=>?_)
  ·refine aI 60 (zX c17)<|T_kt<|T_sz<|T_bz 1<|T_rz 8<|T_nd 3 [60] [(64,vp ra),(65,vs b i j),(66,vi e)] ?_
   obtain⟨af,rfl,q19,h⟩:=h
   refine T_xd (some 67) 46 2 1 af i j .i64 e underlying46 q19.1 q19.2 [1,65,66] [(1,vs (some af) i j),(67,vq (af.add (Int.toNat e*1)))] ?_
   obtain⟨a7,q20,h⟩:=h
   refine T_l1 68 2 q20 [67]<|T_nd 3 [9,68] [(70,vu (ishl .u64 (IntKind.wrap .u64 a7) 3)),(71,vu ak)]<|T_c (some 72) h ?_;clear h
   rintro ct H5 ⟨ay,br,rfl,h⟩
   exact T_pd [64,70,71] [(72,.tuple #[vu ay,vi br])]<|T_nd 4 [72] [(9,vu ay)]<|zq<|aD<|aC<|T_rz 7<|T_ed 3 [10] [(10,vi (zY (e+1)))]<|aR ((ay,(zY (e+1))):Int×Int) sk h
  refine aJ 60 (zQ c17)<|zz 0<|aA<|aA<|aM<|aC<|ar 9<|T_nd 2 [9,10,60] [(76,vp ra),(77,vu ak)]<|T_c (some 78) h ?_;clear h
  rintro cr H6 ⟨aa,bs,rfl,h⟩
  refine T_pd [76,77] [(78,.tuple #[vu aa,vi bs])]<|T_ed 5 [78] [(11,vu aa)]<|ar 10<|T_nd 1 [] [(82,vp ra)]<|T_nw (some 83) (λR=>vs (pa R) 2 2) (.cells #[vu 20,vu 20] 28) ?_
  intro R H7 e21 e22
  replace h:=h R H7 e21 e22
  refine T_pd [] [(83,vs (pa R) 2 2)]<|T_c (some 84) h ?_;clear h
  rintro c8 H8 ⟨s,bq,rfl,h⟩
  refine T_pd [82,83] [(84,.tuple #[vu s,vi bq])]<|T_ed 5 [84] [(13,vu s)]<|ar 11<|T_ed 1 [] [(15,vu 20)]<|T_sz<|ar 12<|T_ed 1 [] [(16,vi 0)]<|T_bz 2 ?_
  obtain⟨bj,m42,i23,i24⟩:=h
  refine db (x:=K41) (σ:=Int×Int) (λs_=> [(0,vi d),(1,vs b i j),(2,.bool g),(7,vp ra),(11,vu aa),(13,vu s),(15,vu s_.1),(16,vi s_.2)]) (λs_ H=>bj s_.1 s_.2 H) (λs_ H=>m42 s_.1 s_.2 H) ((20,0):Int×Int) (by kernel_rfl) i23 sk ?_
  rintro⟨ah,i_2⟩ H9 i25
  have h:=i24 ah i_2 H9 i25
  refine T_su [(0,vi d),(1,vs b i j),(2,.bool g),(7,vp ra),(11,vu aa),(13,vu s),(15,vu ah),(16,vi i_2)]<|T_sz<|ar 13<|T_ed 3 [] [(89,.bool (decide (i_2<d)))] ?_
  revert h;refine iO_ (λc26 h=>?_) (λc26 h=>?_)
  ·refine aI 89 (zX c26)<|T_kt<|T_sz<|T_bz 3<|T_rz 15<|T_nd 3 [15,89] [(93,vp ra),(94,vu aa),(95,vu ah)]<|T_c (some 96) h ?_;clear h
   rintro c6 cm ⟨aw,bw,rfl,h⟩
   exact T_pd [93,94,95] [(96,.tuple #[vu aw,vi bw])]<|T_nd 4 [96] [(15,vu aw)]<|zq<|aD<|aC<|T_rz 14<|T_ed 3 [16] [(16,vi (zY (i_2+1)))]<|aR ((aw,(zY (i_2+1))):Int×Int) sk h
  refine aJ 89 (zQ c26)<|zz 2<|aA<|aA<|aM<|aC<|ar 16<|T_ed 1 [16,89] [(17,vN)]<|T_sz<|ar 17<|T_ne 1 [(0,vi d),(1,vs b i j),(2,.bool g),(7,vp ra),(11,vu aa),(13,vu s),(15,vu ah),(17,vN),(99,.bool g)] ?_
  obtain⟨bo,h,j29⟩:=h
  refine l5 (σ:=zW×Nat×Nat) (λs_=> [(0,vi d),(1,vs b i j),(2,.bool g),(7,vp ra),(13,vu s),(15,vu ah),(17,vs s_.1 s_.2.1 s_.2.2)]) (λs_ H=>bo s_.1 s_.2.1 s_.2.2 H) ?_ ?_
  ·rintro⟨q,entriesN,entriesC⟩ H11 j30
   replace h:=j29 q entriesN entriesC H11 j30
   refine T_su [(0,vi d),(1,vs b i j),(2,.bool g),(7,vp ra),(13,vu s),(15,vu ah),(17,vs q entriesN entriesC)]<|aC<|ar 19<|T_nd 1 [] [(107,vp ra)]<|T_c (some 108) h ?_;clear h
   rintro cp ck ⟨u,aq,rfl,h⟩
   refine T_pd [107] [(108,.tuple #[vp u,vi aq])]<|T_ed 5 [108] [(18,vp u),(19,vi aq)]<|T_sz<|ar 20<|T_ed 2 [19] [(112,.bool (aq !=0))] ?_
   revert h;refine iO_ (λc31 h=>?_) (λc31 h=>?_)
   ·refine aJ 112 (bne_eq_false_iff_eq.mpr c31)<|T_kt<|ar 22<|T_nd 2 [15,112] [(113,vp u),(114,vu ah)]<|T_c (some 115) h ?_;clear h
    rintro cv cz ⟨ac,rfl,h⟩
    refine T_pd [113,114] [(115,vu ac)]<|T_nd 2 [13] [(116,vp u),(117,vu s)]<|T_c (some 118) h ?_;clear h
    rintro c9 c0 ⟨al,rfl,h⟩
    refine T_pd [116,117] [(118,vu al)]<|T_ed 2 [115,118] [(13,vu al),(15,vu ac)]<|ar 23<|T_nd 1 [] [(119,vp u)]<|T_c (some 120) h ?_;clear h
    intro v_10 cy h
    refine T_pd [119] []<|T_e<|ar 24<|T_nd 2 [17] [(121,vp u),(122,vs q entriesN entriesC)]<|T_c (some 123) h ?_;clear h
    rintro ch cx ⟨xB,xN,xC,rfl,h⟩
    refine T_pd [121,122] [(123,vs xB xN xC)]<|T_ed 1 [123] [(20,vs xB xN xC)]<|ar 25<|T_nd 1 [] [(124,vp u)]<|T_c (some 125) h ?_;clear h
    intro v_12 cq h
    refine T_pd [124] []<|T_e<|ar 26<|T_nd 1 [18] [(126,vp u)]<|T_c (some 127) h ?_;clear h
    intro v_13 cu h
    refine T_pd [126] []<|T_e<|ar 27<|T_nd 2 [13] [(129,vp ra),(130,vu al)]<|T_c (some 131) h ?_;clear h
    rintro b5 b9 ⟨y,n,o,aj,rfl,h⟩
    refine T_pd [129,130] [(131,.tuple #[vs y n o,.bool aj])]<|T_ed 5 [131] [(21,vs y n o),(22,.bool aj)]<|T_sz<|ar 28 ?_
    refine fe [(0,vi d),(1,vs b i j),(2,.bool g),(7,vp ra),(15,vu ac),(21,vs y n o),(147,.bool (((!aj) || ((xN:Int) !=0)) || (!(g==((n:Int)==1)))))] ?_ ?_
    ·refine aC ?_
     revert h;refine iO_ (λc37 h=>?_) (λc37 h=>?_)
     ·exact aI 147 c37<|ar 29<|T_nr 1 [6] [vF] hQ h
     refine aJ 147 (zZ c37)<|T_kt<|T_sz<|ar 30<|T_ne 1 [(0,vi d),(1,vs b i j),(2,.bool g),(7,vp ra),(15,vu ac),(21,vs y n o),(23,vi 0)]<|T_bz 4 ?_
     obtain⟨a8,m93,i39,i40⟩:=h
     refine db (x:=K92) (σ:=Int×Int) (λs_=> [(0,vi d),(1,vs b i j),(2,.bool g),(7,vp ra),(15,vu s_.1),(21,vs y n o),(23,vi s_.2)]) (λs_ H=>a8 s_.1 s_.2 H) (λs_ H=>m93 s_.1 s_.2 H) ((ac,0):Int×Int) (by kernel_rfl) i39 sk ?_
     rintro⟨m,i_3⟩ H20 i41
     have h:=i40 m i_3 H20 i41
     refine T_su [(0,vi d),(1,vs b i j),(2,.bool g),(7,vp ra),(15,vu m),(21,vs y n o),(23,vi i_3)]<|T_sz<|ar 31<|T_ed 3 [] [(150,.bool (decide (i_3<d)))] ?_
     revert h;refine iO_ (λc42 h=>?_) (λc42 h=>?_)
     ·refine aI 150 (zX c42)<|T_kt<|T_sz<|T_bz 5<|ar 33<|T_nd 2 [150] [(154,vp ra),(155,vu m)]<|T_c (some 156) h ?_;clear h
      rintro b1 bd ⟨z,bt,rfl,h⟩
      refine T_pd [154,155] [(156,.tuple #[vu z,vi bt])]<|T_ed 5 [156] [(24,vu z)]<|T_sz<|ar 34<|T_nd 2 [] [(160,.bool g)] ?_
      revert h;refine iO_ (λc44 h=>?_) (λc44 h=>?_)
      ·refine N_bd 2 c44<|N_bd 160 c44 ?_
       have hsc44:g=true:=c44
       subst hsc44
       refine T_nd 2 [] [(161,vu z),(162,vs y n o)] ?_
       obtain⟨ag,rfl,q46,h⟩:=h
       refine T_xd (some 163) 32 28 1 ag n o .i64 0 underlying32 q46.1 q46.2 [21,162] [(21,vs (some ag) n o),(163,vq (ag.add (Int.toNat 0*1)))] ?_
       obtain⟨am,q47,h⟩:=h
       refine T_l1 164 28 q47 [163]<|T_nd 3 [160,161,164] [(167,.bool (z !=am))] ?_
       refine fe [(0,vi d),(1,vs b i j),(2,vT),(7,vp ra),(15,vu m),(21,vs (some ag) n o),(23,vi i_3),(174,.bool (z !=am))] ?_ ?_
       ·refine aC ?_
        revert h;refine iO_ (λc50 h=>?_) (λc50 h=>?_)
        ·refine aJ 174 (bne_eq_false_iff_eq.mpr c50)<|T_kt<|T_rz 36<|T_n 2 [(0,vi d),(1,vs b i j),(2,vT),(7,vp ra),(21,vs (some ag) n o),(23,vi i_3),(176,vp ra),(177,vu m)]<|T_c (some 178) h ?_;clear h
         rintro cc co ⟨av,bu,rfl,h⟩
         exact T_pd [176,177] [(178,.tuple #[vu av,vi bu])]<|T_nd 4 [178] [(15,vu av)]<|zq<|aD<|aC<|T_rz 32<|T_ed 3 [23] [(23,vi (zY (i_3+1)))]<|aR ((av,(zY (i_3+1))):Int×Int) sk h
        exact aI 174 (bne_iff_ne.mpr c50)<|ar 35<|T_nr 1 [6] [vF] hQ h
       intro hk
       refine T_nu [(0,vi d),(1,vs b i j),(2,vT),(7,vp ra),(15,vu m),(21,vs (some ag) n o),(23,vi i_3),(24,vu z),(167,.bool (z !=am))] ?_
       by_cases c48:z=am
       ·have b49:(z !=am)=false:=bne_eq_false_iff_eq.mpr c48
        refine bI [(0,vi d),(1,vs b i j),(2,vT),(7,vp ra),(15,vu m),(21,vs (some ag) n o),(23,vi i_3),(24,vu z),(167,vF)] (by rw[b49]) ?_
        refine T_nd 7 [24,167] [(174,vF)]<|zq<|S_bd 174 (b:=false) (v:=(z !=am)) (by simp only[b49,BL]) ?_
        exact hk
       have b49:(z !=am)=true:=bne_iff_ne.mpr c48
       refine bI [(0,vi d),(1,vs b i j),(2,vT),(7,vp ra),(15,vu m),(21,vs (some ag) n o),(23,vi i_3),(24,vu z),(167,vT)] (by rw[b49]) ?_
       refine T_nd 7 [24,167] [(174,vT)]<|zq<|S_bd 174 (b:=true) (v:=(z !=am)) (by simp only[b49,BL]) ?_
       exact hk
      refine N_bd 2 (zZ c44)<|N_bd 160 (zZ c44) ?_
      have hsc44:g=false:=zZ c44
      subst hsc44
      refine T_ed 14 [24,160] [(174,.bool (z !=44))] ?_
      revert h;refine iO_ (λc52 h=>?_) (λc52 h=>?_)
      ·refine aJ 174 (bne_eq_false_iff_eq.mpr c52)<|T_kt<|T_rz 36<|T_nd 2 [15,174] [(176,vp ra),(177,vu m)]<|T_c (some 178) h ?_;clear h
       rintro cg bx ⟨az,bg,rfl,h⟩
       exact T_pd [176,177] [(178,.tuple #[vu az,vi bg])]<|T_nd 4 [178] [(15,vu az)]<|zq<|aD<|aC<|T_rz 32<|T_ed 3 [23] [(23,vi (zY (i_3+1)))]<|aR ((az,(zY (i_3+1))):Int×Int) sk h
      exact aI 174 (bne_iff_ne.mpr c52)<|ar 35<|T_nr 1 [6] [vF] hQ h
     refine aJ 150 (zQ c42)<|zz 4<|aA<|aA<|aM<|aC<|T_sz<|ar 37<|T_ne 2 [(0,vi d),(1,vs b i j),(7,vp ra),(15,vu m),(21,vs y n o),(182,.bool (!g))] ?_
     revert h;refine iO_ (λc54 h=>?_) (λc54 h=>?_)
     ·have b55:(!g)=false:=congrArg Bool.not (c54)
      have b552:g=true:=c54
      refine eJ [(0,vi d),(1,vs b i j),(7,vp ra),(15,vu m),(21,vs y n o),(182,vF)] (by simp only[b55,b552,Bool.not_true,Bool.not_false]) ?_
      clear b55 b552
      have hsc54:g=true:=c54
      subst hsc54
      refine T_fz 182<|T_kt<|ar 39<|T_nd 2 [0,182] [(200,vp ra),(201,vs y n o)] ?_
      obtain⟨ab,rfl,q56,h⟩:=h
      refine T_xd (some 202) 32 28 1 ab n o .i64 0 underlying32 q56.1 q56.2 [21,201] [(21,vs (some ab) n o),(202,vq (ab.add (Int.toNat 0*1)))] ?_
      obtain⟨be,q57,h⟩:=h
      refine T_l1 203 28 q57 [202]<|T_c (some 204) h ?_;clear h
      rintro cn b0 ⟨p,bi,rfl,h⟩
      refine T_pd [200,203] [(204,.tuple #[vu p,vi bi])]<|T_ed 5 [204] [(26,vu p)]<|ar 40<|T_nd 2 [21] [(208,vp ra),(209,vs (some ab) n o)] ?_
      obtain⟨q58,h⟩:=h
      refine T_xd (some 210) 32 28 1 ab n o .i64 0 underlying32 q58.1 q58.2 [209] [(210,vq (ab.add (Int.toNat 0*1)))] ?_
      obtain⟨bc,q59,h⟩:=h
      refine T_l1 211 28 q59 [210]<|T_c (some 212) h ?_;clear h
      rintro cl c4 ⟨au,bf,rfl,h⟩
      refine T_pd [208,211] [(212,.tuple #[vu au,vi bf])]<|T_ed 5 [212] [(28,vu au)]<|T_sz<|ar 41<|T_ed 4 [] [(30,vi (zY ((i:Int)-1)))]<|T_bz 6 ?_
      obtain⟨a6,m128,i60,i61⟩:=h
      refine db (x:=K127) (σ:=Int×Int) (λs_=> [(1,vs b i j),(7,vp ra),(15,vu m),(26,vu p),(28,vu s_.1),(30,vi s_.2)]) (λs_ H=>a6 s_.1 s_.2 H) (λs_ H=>m128 s_.1 s_.2 H) ((au,(zY ((i:Int)-1))):Int×Int) (by kernel_rfl) i60 sk ?_
      rintro⟨ae,i_4⟩ H26 i62
      have h:=i61 ae i_4 H26 i62
      refine T_su [(1,vs b i j),(7,vp ra),(15,vu m),(26,vu p),(28,vu ae),(30,vi i_4)]<|T_sz<|ar 42<|T_ed 2 [] [(219,.bool (decide (i_4>=0)))] ?_
      revert h;refine iO_ (λc63 h=>?_) (λc63 h=>?_)
      ·refine aI 219 (zX c63)<|T_kt<|T_sz<|T_bz 7<|ar 44<|T_nd 2 [219] [(223,vp ra),(224,vu ae)]<|T_c (some 225) h ?_;clear h
       rintro ci bm ⟨ai,an,rfl,h⟩
       refine T_pd [223,224] [(225,.tuple #[vu ai,vi an])]<|T_ed 5 [225] [(31,vu ai),(32,vi an)]<|T_sz<|ar 45<|T_nd 3 [32] [(230,.bool (an !=0))] ?_
       revert h;refine iO_ (λc65 h=>?_) (λc65 h=>?_)
       ·refine N_bd 230 (bne_eq_false_iff_eq.mpr c65)<|T_nd 3 [31] [(231,vu ai),(232,vs b i j),(233,vi i_4)] ?_
        obtain⟨r,rfl,q67,h⟩:=h
        refine T_xd (some 234) 46 2 1 r i j .i64 i_4 underlying46 q67.1 q67.2 [1,232,233] [(1,vs (some r) i j),(234,vq (r.add (Int.toNat i_4*1)))] ?_
        obtain⟨a1,q68,h⟩:=h
        refine T_l1 235 2 q68 [234]<|T_ed 4 [230,231,235] [(239,.bool (ai !=(ishl .u64 (IntKind.wrap .u64 a1) 3)))] ?_
        revert h;refine iO_ (λc69 h=>?_) (λc69 h=>?_)
        ·refine aJ 239 (bne_eq_false_iff_eq.mpr c69)<|T_kt<|T_rz 47<|T_nd 2 [28,239] [(241,vp ra),(242,vu ae)]<|T_c (some 243) h ?_;clear h
         rintro cj ce ⟨ao,bh,rfl,h⟩
         exact T_pd [241,242] [(243,.tuple #[vu ao,vi bh])]<|T_nd 4 [243] [(28,vu ao)]<|zq<|aD<|aC<|T_rz 43<|T_ed 3 [30] [(30,vi (zY (i_4-1)))]<|aR ((ao,(zY (i_4-1))):Int×Int) sk h
        exact aI 239 (bne_iff_ne.mpr c69)<|ar 46<|T_nr 1 [6] [vF] hQ h
       exact N_bd 230 (bne_iff_ne.mpr c65)<|T_ed 9 [31,230] [(239,vT)]<|T_tz 239<|ar 46<|T_nr 1 [6] [vF] hQ h
      refine aJ 219 (zQ c63)<|zz 6<|aA<|aA<|aM<|aC<|ar 48<|T_nd 3 [1,7,26,30,219] [(248,.bool (p==12))] ?_
      revert h;refine iO_ (λc71 h=>?_) (λc71 h=>?_)
      ·refine N_bd 248 (zK c71)<|T_n 4 [(15,vu m),(252,.bool (ae==20))] ?_
       revert h;refine iO_ (λc73 h=>?_) (λc73 h=>?_)
       ·have b74:(ae==20)=true:=zK c73
        refine bI [(15,vu m),(252,vT)] (by rw[b74]) ?_
        clear b74
        refine T_n 4 [(256,.bool (m==20))] ?_
        revert h;refine iO_ (λc75 h=>?_) (λc75 h=>?_)
        ·have b76:(m==20)=true:=zK c75
         refine bI [(256,vT)] (by rw[b76]) ?_
         clear b76
         refine T_c (some 257) h ?_;clear h
         rintro b7 da ⟨a9,rfl,h⟩
         exact T_pd [] [(257,.bool a9)]<|T_nr 2 [6] [.bool a9] hQ h
        have b76:(m==20)=false:=zJ c75
        refine bI [(256,vF)] (by rw[b76]) ?_
        clear b76
        exact T_nr 3 [6] [vF] hQ h
       have b74:(ae==20)=false:=zJ c73
       refine bI [(15,vu m),(252,vF)] (by rw[b74]) ?_
       clear b74
       exact T_nr 7 [6] [vF] hQ h
      exact N_bd 248 (zJ c71)<|T_nr 11 [6] [vF] hQ h
     have b55:(!g)=true:=congrArg Bool.not (zZ c54)
     have b552:g=false:=zZ c54
     refine eJ [(0,vi d),(1,vs b i j),(7,vp ra),(15,vu m),(21,vs y n o),(182,vT)] (by simp only[b55,b552,Bool.not_true,Bool.not_false]) ?_
     clear b55 b552
     have hsc54:g=false:=zZ c54
     subst hsc54
     refine T_tz 182<|T_sz ?_
     obtain⟨bk,h,j78⟩:=h
     refine l5 (σ:=Bool) (λs_=> [(6,.bool s_)]) (λs_ H=>bk s_ H) ?_ ?_
     ·rintro a2 H30 j79
      replace h:=j78 a2 H30 j79
      exact T_su [(6,.bool a2)]<|aC<|ff [6] [.bool a2] hQ h
     refine T_rz 38<|T_n 1 [(0,vi d),(183,vp ra)] ?_
     obtain⟨bn,rfl,h⟩:=h
     refine T_nd 2 [183] [(185,vq bn)] ?_
     obtain⟨a5,q80,h⟩:=h
     refine T_l1 186 49 q80 [185] ?_
     obtain⟨a4,rfl,h⟩:=h
     refine T_nd 2 [186] [(188,vq a4)] ?_
     obtain⟨a0,q81,h⟩:=h
     refine T_l1 189 52 q81 [188]<|T_nw (some 190) (λR=>vs (pa R) 1 1) (.cells #[vi 1] 3) ?_
     intro bb H31 e82 e83
     replace h:=h bb H31 e82 e83
     refine T_pd [] [(190,vs (pa bb) 1 1)]<|T_c (some 191) h ?_;clear h
     rintro bz b3 ⟨ax,rfl,h⟩
     refine⟨[(0,vi d),(191,vi ax)],pk,?_⟩
     refine T_n 5 [(196,.bool (ax==(zY ((zY (2*d))+3))))] ?_
     revert h;refine iO_ (λc84 h=>?_) (λc84 h=>?_)
     ·have b85:(ax==(zY ((zY (2*d))+3)))=true:=zK c84
      refine bI [(196,vT)] (by rw[b85]) ?_
      clear b85
      refine T_c (some 197) h ?_;clear h
      rintro cd cs ⟨a3,rfl,h⟩
      exact T_pd [] [(197,.bool a3)]<|T_ne 2 [(6,.bool a3)]<|iF (a3:Bool) sk h
     have b85:(ax==(zY ((zY (2*d))+3)))=false:=zJ c84
     refine bI [(196,vF)] (by rw[b85]) ?_
     clear b85
     exact T_ne 3 [(6,vF)]<|iF (false:Bool) sk h
    intro hk
    refine T_n 3 [(0,vi d),(1,vs b i j),(2,.bool g),(7,vp ra),(15,vu ac),(20,vs xB xN xC),(21,vs y n o),(136,.bool (!aj))] ?_
    by_cases c33:aj=true
    ·have b34:(!aj)=false:=congrArg Bool.not (c33)
     have b342:aj=true:=c33
     refine bI [(0,vi d),(1,vs b i j),(2,.bool g),(7,vp ra),(15,vu ac),(20,vs xB xN xC),(21,vs y n o),(136,vF)] (by simp only[b34,b342,Bool.not_true,Bool.not_false]) ?_
     refine T_nd 5 [20,136] [(141,.bool ((xN:Int) !=0))] ?_
     by_cases c35:(xN:Int)=0
     ·have b36:((xN:Int) !=0)=false:=bne_eq_false_iff_eq.mpr c35
      refine N_bd 141 b36<|T_nd 6 [141] [(147,.bool (!(g==((n:Int)==1))))] ?_
      refine zq<|S_bd 147 (b:=(!(g==((n:Int)==1)))) (v:=(((!aj) || ((xN:Int) !=0)) || (!(g==((n:Int)==1))))) (by simp only[b34,b36,BL]) ?_
      exact hk
     have b36:((xN:Int) !=0)=true:=bne_iff_ne.mpr c35
     refine N_bd 141 b36<|T_nd 6 [141] [(147,vT)] ?_
     refine zq<|S_bd 147 (b:=true) (v:=(((!aj) || ((xN:Int) !=0)) || (!(g==((n:Int)==1))))) (by simp only[b34,b36,BL]) ?_
     exact hk
    have b34:(!aj)=true:=congrArg Bool.not (zZ c33)
    have b342:aj=false:=zZ c33
    refine bI [(0,vi d),(1,vs b i j),(2,.bool g),(7,vp ra),(15,vu ac),(20,vs xB xN xC),(21,vs y n o),(136,vT)] (by simp only[b34,b342,Bool.not_true,Bool.not_false]) ?_
    refine T_nd 11 [20,136] [(147,vT)]<|zq<|S_bd 147 (b:=true) (v:=(((!aj) || ((xN:Int) !=0)) || (!(g==((n:Int)==1))))) (by simp only[b34,BL]) ?_
    exact hk
   exact aI 112 (bne_iff_ne.mpr c31)<|ar 21<|T_nr 1 [6] [vF] hQ h
  revert h;refine iO_ (λc86 h=>?_) (λc86 h=>?_)
  ·have b87:g=true:=c86
   refine eJ [(0,vi d),(1,vs b i j),(2,vT),(7,vp ra),(11,vu aa),(13,vu s),(15,vu ah),(17,vN),(99,vT)] (by simp only[b87,Bool.not_true,Bool.not_false]) ?_
   clear b87
   have hsc86:g=true:=c86
   subst hsc86
   refine T_tz 99<|T_rz 18<|T_nd 4 [11,17,99] [(100,vN),(103,.agg #[vu aa,vu s])]<|T_nw (some 104) (λR=>vs (pa R) 1 1) (.cells #[vu aa,vu s] 36) ?_
   intro ba H34 e88 e89
   replace h:=h ba H34 e88 e89
   refine T_pd [103] [(104,vs (pa ba) 1 1)]<|N_op (some 105) (fy #[31,31] 31 #[vN,vs (pa ba) 1 1]) _ (λ_=>by kernel_rfl) (fB (T:=36) (sz:=2) (bytes:=16) (zero:=(.agg #[vu 0,vu 0]:Value)) underlying31 underlying31 rfl (show prog.info? 36=some t36 from by kernel_rfl) (by kernel_rfl) (by kernel_rfl) (by decide) (by kernel_rfl) (by first | exact h | (simpa only[Value.cells,List.toList_toArray]using h))) ?_;clear h
   rintro _ cw ⟨ap,bl,rfl,h⟩
   exact T_pd [100,104] [(105,vs ap (0+1) bl)]<|T_ed 1 [105] [(17,vs ap (0+1) bl)]<|iF ((ap,(0+1),bl):zW×Nat×Nat) sk h
  have b87:g=false:=zZ c86
  refine eJ [(0,vi d),(1,vs b i j),(2,vF),(7,vp ra),(11,vu aa),(13,vu s),(15,vu ah),(17,vN),(99,vF)] (by simp only[b87,Bool.not_true,Bool.not_false]) ?_
  clear b87
  have hsc86:g=false:=zZ c86
  subst hsc86
  exact T_fz 99<|T_kt<|iF ((none,0,0):zW×Nat×Nat) sk h
 intro hk
 refine T_n 3 [(0,vi d),(1,vs b i j),(2,.bool g),(7,vp ra),(8,vi rb),(39,.bool (rb !=0))] ?_
 by_cases c1:rb=0
 ·have b2:(rb !=0)=false:=bne_eq_false_iff_eq.mpr c1
  refine bI [(0,vi d),(1,vs b i j),(2,.bool g),(7,vp ra),(8,vi rb),(39,vF)] (by rw[b2]) ?_
  refine T_nd 4 [39] [(43,.bool (decide (d<0)))] ?_
  by_cases c3:d<0
  ·have b4:(decide (d<0))=true:=zX c3
   refine N_bd 43 b4<|T_nd 8 [43] [(51,vT)] ?_
   refine zq<|S_bd 51 (b:=true) (v:=((((rb !=0) || (decide (d<0))) || (decide (d>1000))) || (decide ((i:Int)>1000)))) (by simp only[b2,b4,BL]) ?_
   exact hk
  have b4:(decide (d<0))=false:=zQ c3
  refine N_bd 43 b4<|T_nd 4 [43] [(47,.bool (decide (d>1000)))] ?_
  by_cases c5:d>1000
  ·have b6:(decide (d>1000))=true:=zX c5
   refine N_bd 47 b6<|T_nd 4 [47] [(51,vT)] ?_
   refine zq<|S_bd 51 (b:=true) (v:=((((rb !=0) || (decide (d<0))) || (decide (d>1000))) || (decide ((i:Int)>1000)))) (by simp only[b2,b4,b6,BL]) ?_
   exact hk
  have b6:(decide (d>1000))=false:=zQ c5
  refine N_bd 47 b6<|T_nd 4 [47] [(51,.bool (decide ((i:Int)>1000)))] ?_
  refine zq<|S_bd 51 (b:=(decide ((i:Int)>1000))) (v:=((((rb !=0) || (decide (d<0))) || (decide (d>1000))) || (decide ((i:Int)>1000)))) (by simp only[b2,b4,b6,BL]) ?_
  exact hk
 have b2:(rb !=0)=true:=bne_iff_ne.mpr c1
 refine bI [(0,vi d),(1,vs b i j),(2,.bool g),(7,vp ra),(8,vi rb),(39,vT)] (by rw[b2]) ?_
 refine T_nd 12 [39] [(51,vT)]<|zq<|S_bd 51 (b:=true) (v:=((((rb !=0) || (decide (d<0))) || (decide (d>1000))) || (decide ((i:Int)>1000)))) (by simp only[b2,BL]) ?_
 exact hk
end bJ
variable{H:zV}{a:zj}{b g i:Int}{d:zW}
/-! moraine/obj.New -/
namespace gl
def K0:=Func.code f8
end gl
def gl.pt(a:Int)(H:zV)(R:zj):Prop:=
 fX.C a H (λv H1=> ∃ra rb,v=.tuple #[vp ra,vi rb]/\
 if rb=0 then(
 ∀b H2,b=H1.size->H2=H1.push (.cells #[vp ra,vN,vN,vu 0] 51)->
 R (.tuple #[vq (ad b),vi 0]) H2)
 else
 R (.tuple #[vp none,vi rb]) H1)
namespace gl
theorem link(h:pt b H a):C b H a:=by
 refine T_en K0 17 func8 ?_
 intro w0 Q hQ
 unfold pt at h
 refine T_su [(0,vi b)]<|ar 0<|T_ed 2 [] []<|ar 1<|T_n 1 [(7,vi b)]<|T_c (some 8) h ?_;clear h
 rintro v H1 ⟨ra,rb,rfl,h⟩
 refine⟨[(8,.tuple #[vp ra,vi rb])],pk,?_⟩
 refine T_ne 5 [(4,vp ra),(5,vi rb)]<|T_sz<|ar 2<|T_ed 2 [] [(12,.bool (rb !=0))] ?_
 revert h;refine iO_ (λc1 h=>?_) (λc1 h=>?_)
 ·refine aJ 12 (bne_eq_false_iff_eq.mpr c1)<|T_kt<|ar 4<|T_n 2 [(15,.agg #[vp ra,vN,vN,vu 0])]<|T_nw (some 16) (λR=>vp (pa R)) (.cells #[vp ra,vN,vN,vu 0] 51) ?_
  intro R H2 e3 e4
  replace h:=h R H2 e3 e4
  refine⟨[(16,vp (pa R))],pk,?_⟩
  exact T_nr 2 [2,3] [vp (pa R),vi 0] hQ h
 exact aI 12 (bne_iff_ne.mpr c1)<|ar 3<|T_nr 3 [2,3] [vp none,vi rb] hQ h
end gl
/-! (*moraine/obj.Heap).Make -/
namespace df
def K0:=Func.code f10
end df
def df.pt(hv:zW)(a d:Int)(lB:zW)(lN lC:Nat)(H:zV)(R:zj):Prop:=
 eI.C a 0 d H (λv H1=> ∃ra rb,v=.tuple #[vu ra,vi rb]/\
 if rb=0 then(
 if(lN:Int)>62 then(
 R (.tuple #[vu 0,vi 6]) H1)
 else
 eI.C a (lN:Int) d H1 (λn H2=> ∃e i,n=.tuple #[vu e,vi i]/\
 gm.C a H2 (λm H3=> ∃x,m=vi x/\
 ∀b H4,b=H3.size->H4=H3.push (.cells #[vu e] 28)->
 fO 1 28 8 [vu 0] (some (ad b)) 1 1 lB lN H4 (λap j H5=>
 dE.C hv x 3 ap (1+lN) j H5 (λk H6=> ∃f g,k=.tuple #[vu f,vi g]/\
 R (.tuple #[vu f,vi g]) H6)))))
 else
 R (.tuple #[vu 0,vi rb]) H1)
namespace df
theorem link{lB:zW}{lN lC:Nat}(h:pt d b g lB lN lC H a):C d b g lB lN lC H a:=by
 refine T_en K0 44 func10 ?_
 intro w0 Q hQ
 unfold pt at h
 refine T_su [(0,vp d),(1,vi b),(2,vu g),(3,vs lB lN lC)]<|ar 0<|T_ed 2 [] []<|T_sz<|ar 1<|T_nd 2 [] [(15,vi b),(16,vu g)]<|T_c (some 17) h ?_;clear h
 rintro v H1 ⟨ra,rb,rfl,h⟩
 refine T_pd [15,16] [(17,.tuple #[vu ra,vi rb])]<|T_ed 5 [17] [(11,vi rb)]<|ar 2<|T_ed 2 [] [(21,.bool (rb !=0))] ?_
 revert h;refine iO_ (λc1 h=>?_) (λc1 h=>?_)
 ·refine aJ 21 (bne_eq_false_iff_eq.mpr c1)<|T_kt<|T_sz<|ar 4<|T_ed 3 [11,21] [(25,.bool (decide ((lN:Int)>62)))] ?_
  revert h;refine iO_ (λc3 h=>?_) (λc3 h=>?_)
  ·exact aI 25 (zX c3)<|ar 5<|T_nr 2 [8,9] [vu 0,vi 6] hQ h
  refine aJ 25 (zQ c3)<|T_kt<|ar 6<|T_nd 4 [2,25] [(27,vi b),(29,vi lN),(30,vu g)]<|T_c (some 31) h ?_;clear h
  rintro n H2 ⟨e,i,rfl,h⟩
  refine T_pd [27,29,30] [(31,.tuple #[vu e,vi i])]<|T_ed 5 [31] [(12,vu e)]<|ar 7<|T_nd 2 [0,1] [(34,vp d),(35,vi b)]<|T_c (some 36) h ?_;clear h
  rintro m H3 ⟨x,rfl,h⟩
  refine T_pd [35] [(36,vi x)]<|T_nd 1 [12] [(37,vu e)]<|T_nw (some 38) (λR=>vs (pa R) 1 1) (.cells #[vu e] 28) ?_
  intro R H4 e5 e6
  replace h:=h R H4 e5 e6
  refine T_pd [37] [(38,vs (pa R) 1 1)]<|T_nd 1 [3] [(39,vs lB lN lC)]<|N_op (some 40) (fy #[32,32] 32 #[vs (pa R) 1 1,vs lB lN lC]) _ (λ_=>by kernel_rfl) (fB (T:=28) (sz:=1) (bytes:=8) (zero:=(vu 0:Value)) underlying32 underlying32 rfl (show prog.info? 28=some t28 from by kernel_rfl) (by kernel_rfl) (by kernel_rfl) (by decide) (by kernel_rfl) (by first | exact h | (simpa only[Value.cells,List.toList_toArray]using h))) ?_;clear h
  rintro _ H5 ⟨ap,j,rfl,h⟩
  refine T_pd [38,39] [(40,vs ap (1+lN) j)]<|T_c (some 41) h ?_;clear h
  rintro k H6 ⟨f,hv,rfl,h⟩
  refine⟨[(41,.tuple #[vu f,vi hv])],pk,?_⟩
  exact T_nr 4 [8,9] [vu f,vi hv] hQ h
 exact aI 21 (bne_iff_ne.mpr c1)<|ar 3<|T_nr 3 [8,9] [vu 0,vi rb] hQ h
end df
/-! (*moraine/obj.Heap).Type -/
namespace dL
def K0:=Func.code f30
end dL
def dL.pt(hv:zW)(wv:Int)(H:zV)(R:zj):Prop:=
 bL.C hv wv H (λv H1=> ∃ra rb rc rd re,v=.tuple #[vi ra,vi rb,vi rc,vu rd,.bool re]/\
 R (vi rb) H1)
namespace dL
theorem link(h:pt d b H a):C d b H a:=by
 refine T_en K0 20 func30 ?_
 intro w0 Q hQ
 unfold pt at h
 refine T_su [(0,vp d),(1,vu b)]<|ar 0<|T_ed 1 [] []<|ar 1<|T_n 2 [(11,vp d),(12,vu b)]<|T_c (some 13) h ?_;clear h
 rintro v H1 ⟨ra,rb,rc,rd,re,rfl,h⟩
 refine⟨[(13,.tuple #[vi ra,vi rb,vi rc,vu rd,.bool re])],pk,?_⟩
 exact T_ne 11 [(6,vi rb)]<|ar 2<|T_nr 2 [4] [vi rb] hQ h
end dL
/-! (*moraine/obj.Heap).Get -/
namespace dm
def K0:=Func.code f41
end dm
def dm.pt(hv:zW)(wv a i:Int)(H:zV)(R:zj):Prop:=
 dh.C hv wv a i H (λv H1=> ∃ra rb,v=.tuple #[vi ra,vi rb]/\
 if rb=0 then(
 ∃f,hv=some f/\
 ∃x,hat H1 f=some (vp x)/\
 ∃xA,x=some xA/\
 ∃j,hat H1 xA=some (vp j)/\
 ∃g,j=some g/\
 ∃e,hat H1 g=some (vp e)/\
 bN.C e ra H1 (λk H2=> ∃b d,k=.tuple #[vu b,vi d]/\
 R (.tuple #[vu b,vi d]) H2))
 else
 R (.tuple #[vu 0,vi rb]) H1)
namespace dm
theorem link(h:pt d b g i H a):C d b g i H a:=by
 refine T_en K0 37 func41 ?_
 intro w0 Q hQ
 unfold pt at h
 refine T_su [(0,vp d),(1,vu b),(2,vi g),(3,vi i)]<|ar 0<|T_ed 2 [] []<|ar 1<|T_n 4 [(0,vp d),(13,vp d),(14,vu b),(15,vi g),(16,vi i)]<|T_c (some 17) h ?_;clear h
 rintro v H1 ⟨ra,rb,rfl,h⟩
 refine⟨[(0,vp d),(17,.tuple #[vi ra,vi rb])],pk,?_⟩
 refine T_ed 5 [17] [(10,vi ra),(11,vi rb)]<|T_sz<|ar 2<|T_ed 2 [] [(21,.bool (rb !=0))] ?_
 revert h;refine iO_ (λc1 h=>?_) (λc1 h=>?_)
 ·refine aJ 21 (bne_eq_false_iff_eq.mpr c1)<|T_kt<|ar 4<|T_n 1 [(10,vi ra),(23,vp d)] ?_
  obtain⟨f,rfl,h⟩:=h
  refine T_nd 2 [23] [(25,vq f)] ?_
  obtain⟨x,q3,h⟩:=h
  refine T_l1 26 49 q3 [25] ?_
  obtain⟨xA,rfl,h⟩:=h
  refine T_nd 2 [26] [(28,vq xA)] ?_
  obtain⟨j,q4,h⟩:=h
  refine T_l1 29 52 q4 [28] ?_
  obtain⟨hv,rfl,h⟩:=h
  refine T_nd 2 [29] [(31,vq hv)] ?_
  obtain⟨e,q5,h⟩:=h
  refine T_l1 32 78 q5 [31]<|T_nd 1 [10] [(33,vi ra)]<|T_c (some 34) h ?_;clear h
  rintro k H2 ⟨R,wv,rfl,h⟩
  refine⟨[(34,.tuple #[vu R,vi wv])],pk,?_⟩
  exact T_nr 4 [8,9] [vu R,vi wv] hQ h
 exact aI 21 (bne_iff_ne.mpr c1)<|ar 3<|T_nr 3 [8,9] [vu 0,vi rb] hQ h
end dm
/-! (*moraine/obj.Heap).put -/
namespace dE
def K0:=Func.code f43
def K2:=cb K0
def K4:=cb K2
def K12:=cb K4
def K14:=cb K12
def K19:=ca K14
def K22:=cb K19
def K23:=ca K22
def K24:=ca K23
end dE
def dE.pt(hv:zW)(f d:Int)(lB:zW)(lN lC:Nat)(H:zV)(R:zj):Prop:=
 di.C hv H (λv H1=> ∃x,v=.bool x/\
 if x=true then(
 R (.tuple #[vu 0,vi 2]) H1)
 else
 ∃e,hv=some e/\
 ∃z,hat H1 e=some (vp z)/\
 ∃y,z=some y/\
 ∃p,hat H1 y=some (vp p)/\
 bO.C p 0 f (lN:Int) H1 (λae H2=> ∃ra rb,ae=.tuple #[vi ra,vi rb]/\
 if rb=0 then(
 ∃(q:zk) (m25:Int->zV->Nat),q 0 H2/\ ∀b H3,q b H3->
 if b< (lN:Int)then(
 ∃g,lB=some g/\
 zv b lN/\
 ∃j,hat H3 (g.add (Int.toNat b*1))=some (vu j)/\
 ∃r,hat H3 e=some (vp r)/\
 ∃u,r=some u/\
 ∃aa,hat H3 u=some (vp aa)/\
 ∃s,aa=some s/\
 ∃o,hat H3 s=some (vp o)/\
 bG.C o (zY (ra+b)) j H3 (λac H4=> ∃af,ac=vi af/\
 (q (zY (b+1)) H4/\m25 (zY (b+1)) H4<m25 b H3)))
 else
 fD.C d ra H3 (λab H5=> ∃n m,ab=.tuple #[vu n,vi m]/\
 R (.tuple #[vu n,vi m]) H5))
 else
 R (.tuple #[vu 0,vi rb]) H2))
namespace dE
theorem link{lB:zW}{lN lC:Nat}(h:pt d b g lB lN lC H a):C d b g lB lN lC H a:=by
 refine T_en K0 61 func43 ?_
 intro w0 Q hQ
 unfold pt zY at h
 refine T_su [(0,vp d),(1,vi b),(2,vi g),(3,vs lB lN lC)]<|ar 0<|T_ed 2 [] []<|T_sz<|ar 1<|T_nd 1 [] [(14,vp d)]<|T_c (some 15) h ?_;clear h
 rintro v H1 ⟨x,rfl,h⟩
 refine T_pd [14] [(15,.bool x)]<|T_e ?_
 revert h;refine iO_ (λc1 h=>?_) (λc1 h=>?_)
 ·exact aI 15 c1<|ar 2<|T_nr 2 [8,9] [vu 0,vi 2] hQ h
 refine aJ 15 (zZ c1)<|T_kt<|ar 3<|T_nd 1 [15] [(17,vp d)] ?_
 obtain⟨e,rfl,h⟩:=h
 refine T_nd 2 [0,17] [(0,vq e),(19,vq e)] ?_
 obtain⟨z,q3,h⟩:=h
 refine T_l1 20 49 q3 [19] ?_
 obtain⟨y,rfl,h⟩:=h
 refine T_nd 2 [20] [(22,vq y)] ?_
 obtain⟨p,q4,h⟩:=h
 refine T_l1 23 52 q4 [22]<|T_nd 3 [1] [(24,vi b),(26,vi lN)]<|T_c (some 27) h ?_;clear h
 rintro ae H2 ⟨ra,rb,rfl,h⟩
 refine T_pd [23,24,26] [(27,.tuple #[vi ra,vi rb])]<|T_ed 5 [27] [(10,vi ra),(11,vi rb)]<|T_sz<|ar 4<|T_ed 2 [] [(31,.bool (rb !=0))] ?_
 revert h;refine iO_ (λc5 h=>?_) (λc5 h=>?_)
 ·refine aJ 31 (bne_eq_false_iff_eq.mpr c5)<|T_kt<|T_sz<|ar 6<|T_ed 3 [3,11,31] [(33,vs lB lN lC),(34,vi lN),(35,vi 0)]<|T_bz 0 ?_
  obtain⟨q,m25,i7,i8⟩:=h
  refine db (x:=K24) (σ:=Int) (λs_=> [(0,vq e),(2,vi g),(10,vi ra),(33,vs lB lN lC),(34,vi lN),(35,vi s_)]) (λs_ H=>q s_ H) (λs_ H=>m25 s_ H) (0:Int) (by kernel_rfl) i7 sk ?_
  rintro R H3 i9
  have h:=i8 R H3 i9
  refine T_su [(0,vq e),(2,vi g),(10,vi ra),(33,vs lB lN lC),(34,vi lN),(35,vi R)]<|ar 7<|T_ed 1 [] [(36,.bool (decide (R< (lN:Int))))]<|T_sz ?_
  revert h;refine iO_ (λc10 h=>?_) (λc10 h=>?_)
  ·refine aI 36 (zX c10)<|T_kt<|T_sz<|T_bz 1<|ar 8<|T_nd 1 [36] [(37,vi R)] ?_
   obtain⟨f,rfl,q12,h⟩:=h
   refine T_xd (some 38) 32 28 1 f lN lC .i64 R underlying32 q12.1 q12.2 [33] [(33,vs (some f) lN lC),(38,vq (f.add (Int.toNat R*1)))] ?_
   obtain⟨j,q13,h⟩:=h
   refine T_l1 39 28 q13 [38]<|T_ed 2 [37,39] [(12,vi R),(13,vu j)]<|T_rz 9<|T_nd 3 [] [(42,vq e)] ?_
   obtain⟨r,q14,h⟩:=h
   refine T_l1 43 49 q14 [42] ?_
   obtain⟨u,rfl,h⟩:=h
   refine T_nd 2 [43] [(45,vq u)] ?_
   obtain⟨aa,q15,h⟩:=h
   refine T_l1 46 52 q15 [45] ?_
   obtain⟨s,rfl,h⟩:=h
   refine T_nd 2 [46] [(48,vq s)] ?_
   obtain⟨o,q16,h⟩:=h
   refine T_l1 49 78 q16 [48]<|T_nd 4 [12,13] [(52,vi (zY (ra+R))),(53,vu j)]<|T_c (some 54) h ?_;clear h
   rintro ac H4 ⟨af,rfl,h⟩
   exact T_pd [49,52,53] []<|zq<|aD<|aC<|T_rz 10<|T_ed 2 [35] [(35,vi (zY (R+1)))]<|aR ((zY (R+1)):Int) sk h
  refine aJ 36 (zQ c10)<|zz 0<|aA<|aA<|aM<|aC<|ar 11<|T_n 2 [(56,vi g),(57,vi ra)]<|T_c (some 58) h ?_;clear h
  rintro ab H5 ⟨n,m,rfl,h⟩
  refine⟨[(58,.tuple #[vu n,vi m])],pk,?_⟩
  exact T_nr 4 [8,9] [vu n,vi m] hQ h
 exact aI 31 (bne_iff_ne.mpr c5)<|ar 5<|T_nr 3 [8,9] [vu 0,vi rb] hQ h
end dE
/-! moraine/obj.raw -/
namespace gm
def K0:=Func.code f44
end gm
def gm.pt(a:Int)(H:zV)(R:zj):Prop:=
 if((a==2) || (a==3))=true then(
 R (vi 3) H)
 else
 R (vi 2) H
namespace gm
theorem link(h:pt b H a):C b H a:=by
 refine T_en K0 9 func44 ?_
 intro w0 Q hQ
 unfold pt at h
 refine T_su [(0,vi b)]<|ar 0<|T_ed 1 [] []<|T_sz<|ar 1 ?_
 refine fe [(8,.bool ((b==2) || (b==3)))] ?_ ?_
 ·refine aC ?_
  revert h;refine iO_ (λc3 h=>?_) (λc3 h=>?_)
  ·exact aI 8 c3<|ar 2<|T_nr 1 [2] [vi 3] hQ h
  exact aJ 8 (zZ c3)<|T_kt<|ar 3<|T_nr 1 [2] [vi 2] hQ h
 intro hk
 refine T_n 3 [(0,vi b),(5,.bool (b==2))] ?_
 by_cases c1:b=2
 ·have b2:(b==2)=true:=zK c1
  refine bI [(0,vi b),(5,vT)] (by rw[b2]) ?_
  refine T_n 3 [(8,vT)]<|zq<|eJ [(8,.bool ((b==2) || (b==3)))] (by simp only[b2,BL]) ?_
  exact hk
 have b2:(b==2)=false:=zJ c1
 refine bI [(0,vi b),(5,vF)] (by rw[b2]) ?_
 refine T_n 3 [(8,.bool (b==3))]<|zq<|eJ [(8,.bool ((b==2) || (b==3)))] (by simp only[b2,BL]) ?_
 exact hk
end gm
/-! (*moraine/obj.Heap).object -/
namespace bL
def K0:=Func.code f73
def K2:=cb K0
def K3:=ca K2
def K6:=cb K3
def K7:=ca K6
def K8:=ca K7
end bL
def bL.pt(hv:zW)(wv:Int)(H:zV)(R:zj):Prop:=
 ∃(I9:zk) (m9:Int->zV->Nat),I9 0 H/\ ∀a H1,I9 a H1->
 if a<2 then(
 ∃x,((0<=a/\a< (2:Int))/\(#[vi 2,vi 3]:Array Value)[Int.toNat a]?=some (vi x))/\
 dU.C hv wv 3 x H1 (λv H2=> ∃ra rb,v=.tuple #[vi ra,.bool rb]/\
 if rb=true then(
 ∃e,hv=some e/\
 ∃ag,hat H2 e=some (vp ag)/\
 ∃af,ag=some af/\
 ∃ai,hat H2 af=some (vp ai)/\
 ∃aa,ai=some aa/\
 ∃y,hat H2 aa=some (vp y)/\
 bN.C y ra H2 (λan H3=> ∃p aj,an=.tuple #[vu p,vi aj]/\
 fH.C p H3 (λam H4=> ∃f d rc rd,am=.tuple #[vi f,vi d,vu rc,.bool rd]/\
 ∃ab,hat H4 e=some (vp ab)/\
 ∃ae,ab=some ae/\
 ∃ah,hat H4 ae=some (vp ah)/\
 ∃ac,ah=some ac/\
 ∃z,hat H4 ac=some (vp z)/\
 aV.C z (zY (Int.tdiv ra 64)) H4 (λal H5=> ∃o m q i g k j s,al=.tuple #[.agg #[vi o,vi m,vi q,vi i,vi g,vi k,vi j],.bool s]/\
 ∀b H6,b=H5.size->H6=H5.push (.cells #[vi 0,vi 0,vi 0,vi 0,vi 0,vi 0,vi 0] 108)->
 (aL H6 (ad b) 0 7)/\ ∀H7,H7=aN H6 (ad b) [vi o,vi m,vi q,vi i,vi g,vi k,vi j] 0->
 if rd=true then(
 gm.C f H7 (λak H8=> ∃u,ak=vi u/\
 if u=x then(
 ∃r,hat H8 ((ad b).add 2)=some (vi r)/\
 if(zY ((Int.tmod ra 64)+d))<r then(
 R (.tuple #[vi ra,vi f,vi d,vu rc,vT]) H8)
 else
 (I9 (zY (a+1)) H8/\m9 (zY (a+1)) H8<m9 a H1))
 else
 (I9 (zY (a+1)) H8/\m9 (zY (a+1)) H8<m9 a H1)))
 else
 (I9 (zY (a+1)) H7/\m9 (zY (a+1)) H7<m9 a H1)))))
 else
 (I9 (zY (a+1)) H2/\m9 (zY (a+1)) H2<m9 a H1)))
 else
 R (.tuple #[vi 0,vi 0,vi 0,vu 0,vF]) H1
namespace bL
theorem link(h:pt d b H a):C d b H a:=by
 refine T_en K0 87 func73 ?_
 intro w0 Q hQ
 unfold pt zY at h
 refine T_su [(0,vp d),(1,vu b)]<|ar 0<|T_ed 5 [] []<|T_sz<|ar 1<|T_ed 2 [] [(15,.agg #[vi 2,vi 3]),(16,vi 0)]<|T_bz 0 ?_
 obtain⟨I9,m9,i1,i2⟩:=h
 refine db (x:=K8) (σ:=Int) (λs_=> [(0,vp d),(1,vu b),(15,.agg #[vi 2,vi 3]),(16,vi s_)]) (λs_ H=>I9 s_ H) (λs_ H=>m9 s_ H) (0:Int) (by kernel_rfl) i1 sk ?_
 rintro R H1 i3
 have h:=i2 R H1 i3
 refine T_su [(0,vp d),(1,vu b),(15,.agg #[vi 2,vi 3]),(16,vi R)]<|ar 2<|T_ed 1 [] [(17,.bool (decide (R<2)))]<|T_sz ?_
 revert h;refine iO_ (λc4 h=>?_) (λc4 h=>?_)
 ·refine aI 17 (zX c4)<|T_kt<|T_sz<|T_bz 1<|ar 3<|T_ud [17] [] ?_
  obtain⟨x,q6,h⟩:=h
  refine T_v1 18 (kq 181 (.agg #[vi 2,vi 3]) (vi R)) (vi x) (λw _=>ip (P:=prog) (t:=181) (elem:=3) (n:=2) underlying181 (λ_=>by kernel_rfl) (λ_=>by kernel_rfl) q6.1.1 q6.1.2 q6.2 w) []<|T_ed 1 [18] [(10,vi x)]<|T_sz<|ar 4<|T_nd 3 [] [(20,vp d),(21,vu b),(22,vi x)]<|T_c (some 23) h ?_;clear h
  rintro v H2 ⟨ra,rb,rfl,h⟩
  refine T_pd [20,21,22] [(23,.tuple #[vi ra,.bool rb])]<|T_ed 5 [23] [(4,vi ra),(8,.bool rb)]<|ar 5<|T_ed 2 [8] [(27,.bool (!rb))] ?_
  revert h;refine iO_ (λc7 h=>?_) (λc7 h=>?_)
  ·refine aJ 27 (congrArg Bool.not (c7))<|T_kt<|ar 6<|T_nd 1 [27] [(29,vp d)] ?_
   obtain⟨e,rfl,h⟩:=h
   refine T_nd 2 [0,29] [(0,vq e),(31,vq e)] ?_
   obtain⟨ag,q9,h⟩:=h
   refine T_l1 32 49 q9 [31] ?_
   obtain⟨af,rfl,h⟩:=h
   refine T_nd 2 [32] [(34,vq af)] ?_
   obtain⟨ai,q10,h⟩:=h
   refine T_l1 35 52 q10 [34] ?_
   obtain⟨aa,rfl,h⟩:=h
   refine T_nd 2 [35] [(37,vq aa)] ?_
   obtain⟨y,q11,h⟩:=h
   refine T_l1 38 78 q11 [37]<|T_nd 1 [] [(39,vi ra)]<|T_c (some 40) h ?_;clear h
   rintro an H3 ⟨p,aj,rfl,h⟩
   refine T_pd [38,39] [(40,.tuple #[vu p,vi aj])]<|T_ed 5 [40] [(11,vu p)]<|ar 7<|T_nd 1 [11] [(44,vu p)]<|T_c (some 45) h ?_;clear h
   rintro am H4 ⟨f,hv,rc,rd,rfl,h⟩
   refine T_pd [44] [(45,.tuple #[vi f,vi hv,vu rc,.bool rd])]<|T_ed 9 [45] [(5,vi f),(6,vi hv),(7,vu rc),(8,.bool rd)]<|ar 8<|T_nd 3 [] [(53,vq e)] ?_
   obtain⟨ab,q12,h⟩:=h
   refine T_l1 54 49 q12 [53] ?_
   obtain⟨ae,rfl,h⟩:=h
   refine T_nd 2 [54] [(56,vq ae)] ?_
   obtain⟨ah,q13,h⟩:=h
   refine T_l1 57 52 q13 [56] ?_
   obtain⟨ac,rfl,h⟩:=h
   refine T_nd 2 [57] [(59,vq ac)] ?_
   obtain⟨z,q14,h⟩:=h
   refine T_l1 60 78 q14 [59]<|T_nd 2 [] [(62,vi (zY (Int.tdiv ra 64)))]<|T_c (some 63) h ?_;clear h
   rintro al H5 ⟨o,m,q,i,g,k,j,s,rfl,h⟩
   refine T_pd [60,62] [(63,.tuple #[.agg #[vi o,vi m,vi q,vi i,vi g,vi k,vi j],.bool s])]<|T_nd 3 [63] [(64,.agg #[vi o,vi m,vi q,vi i,vi g,vi k,vi j]),(65,.bool s)]<|T_nw (some 13) (λwv=>vp (pa wv)) (.cells #[vi 0,vi 0,vi 0,vi 0,vi 0,vi 0,vi 0] 108) ?_
   intro wv H6 e15 e16
   replace h:=h wv H6 e15 e16
   refine T_pd [] [(13,vp (pa wv))] ?_
   obtain⟨q18,h⟩:=h
   refine fp 108 [vi o,vi m,vi q,vi i,vi g,vi k,vi j] q18 ?_
   intro H7 e17
   replace h:=h H7 e17
   refine T_pd [64] []<|T_ed 1 [65] []<|ar 9<|T_nd 2 [8] [(67,.bool rd)] ?_
   revert h;refine iO_ (λc19 h=>?_) (λc19 h=>?_)
   ·refine N_bd 67 c19<|T_nd 1 [] [(68,vi f)] ?_
    refine T_c (some 69) h ?_;clear h
    rintro ak H8 ⟨u,rfl,h⟩
    refine T_pd [68] [(69,vi u)]<|T_nd 4 [10,67,69] [(73,.bool (u==x))] ?_
    revert h;refine iO_ (λc21 h=>?_) (λc21 h=>?_)
    ·refine N_bd 73 (zK c21)<|T_nd 5 [13] [(77,vi (zY ((Int.tmod ra 64)+hv))),(78,vq ((ad wv).add 2))] ?_
     obtain⟨r,q23,h⟩:=h
     refine T_l1 79 3 q23 [78]<|T_ed 2 [73,77,79] [(81,.bool (decide ((zY ((Int.tmod ra 64)+hv))<r)))] ?_
     revert h;refine iO_ (λc24 h=>?_) (λc24 h=>?_)
     ·exact aI 81 (zX c24)<|ar 10<|T_nr 9 [4,5,6,7,8] [vi ra,vi f,vi hv,vu rc,vT] hQ h
     exact aJ 81 (zQ c24)<|T_k<|aD<|aC<|T_rz 11<|T_ed 2 [4,5,6,7,16,81] [(16,vi (zY (R+1)))]<|aR ((zY (R+1)):Int) sk h
    refine N_bd 73 (zJ c21)<|T_ed 8 [13,73] [(81,vF)]<|T_fz 81<|T_k ?_
    exact aD<|aC<|T_rz 11<|T_ed 2 [4,5,6,7,16,81] [(16,vi (zY (R+1)))]<|aR ((zY (R+1)):Int) sk h
   refine N_bd 67 (zZ c19)<|T_ed 14 [10,13,67] [(81,vF)]<|T_fz 81<|T_k ?_
   exact aD<|aC<|T_rz 11<|T_ed 2 [4,5,6,7,16,81] [(16,vi (zY (R+1)))]<|aR ((zY (R+1)):Int) sk h
  exact aI 27 (congrArg Bool.not (zZ c7))<|zz 1<|aA<|aM<|aC<|T_rz 11<|T_ed 2 [4,10,16,27] [(16,vi (zY (R+1)))]<|aR ((zY (R+1)):Int) sk h
 exact aJ 17 (zQ c4)<|zz 0<|aA<|aA<|aM<|aC<|ar 12<|T_nr 5 [4,5,6,7,8] [vi 0,vi 0,vi 0,vu 0,vF] hQ h
end bL
/-! (*moraine/obj.Heap).field -/
namespace dh
def K0:=Func.code f85
end dh
def dh.pt(hv:zW)(wv a i:Int)(H:zV)(R:zj):Prop:=
 bL.C hv wv H (λv H1=> ∃ra rb rc rd re,v=.tuple #[vi ra,vi rb,vi rc,vu rd,.bool re]/\
 if((!re) || (rb !=a))=true then(
 R (.tuple #[vi 0,vi 3]) H1)
 else
 if((decide (i<0)) || (decide (i>=rc)))=true then(
 R (.tuple #[vi 0,vi 4]) H1)
 else
 R (.tuple #[vi (zY ((zY (ra+1))+i)),vi 0]) H1)
namespace dh
theorem link(h:pt d b g i H a):C d b g i H a:=by
 refine T_en K0 44 func85 ?_
 intro w0 Q hQ
 unfold pt zY at h
 refine T_su [(0,vp d),(1,vu b),(2,vi g),(3,vi i)]<|ar 0<|T_ed 2 [] []<|ar 1<|T_nd 2 [0,1] [(16,vp d),(17,vu b)]<|T_c (some 18) h ?_;clear h
 rintro v H1 ⟨ra,rb,rc,rd,re,rfl,h⟩
 refine T_pd [16,17] [(18,.tuple #[vi ra,vi rb,vi rc,vu rd,.bool re])]<|T_ed 11 [18] [(10,vi ra),(11,vi rb),(12,vi rc),(14,.bool re)]<|T_sz<|T_bz 0<|ar 2 ?_
 refine fe [(3,vi i),(10,vi ra),(12,vi rc),(24,.bool ((!re) || (rb !=g)))] ?_ ?_
 ·refine aC ?_
  revert h;refine iO_ (λc3 h=>?_) (λc3 h=>?_)
  ·exact aI 24 c3<|ar 3<|T_nr 2 [8,9] [vi 0,vi 3] hQ h
  refine aJ 24 (zZ c3)<|ar 4 ?_
  refine fe [(3,vi i),(10,vi ra),(32,.bool ((decide (i<0)) || (decide (i>=rc))))] ?_ ?_
  ·refine aC ?_
   revert h;refine iO_ (λc7 h=>?_) (λc7 h=>?_)
   ·exact aI 32 c7<|ar 5<|T_nr 2 [8,9] [vi 0,vi 4] hQ h
   exact aJ 32 (zZ c7)<|T_k<|aD<|aC<|ar 6<|T_nr 6 [8,9] [vi (zY ((zY (ra+1))+i)),vi 0] hQ h
  intro hk
  refine T_n 3 [(3,vi i),(10,vi ra),(12,vi rc),(35,.bool (decide (i<0)))] ?_
  by_cases c5:i<0
  ·have b6:(decide (i<0))=true:=zX c5
   refine bI [(3,vi i),(10,vi ra),(12,vi rc),(35,vT)] (by rw[b6]) ?_
   refine T_nd 5 [12,35] [(32,vT)]<|zq<|S_bd 32 (b:=true) (v:=((decide (i<0)) || (decide (i>=rc)))) (by simp only[b6,BL]) ?_
   exact hk
  have b6:(decide (i<0))=false:=zQ c5
  refine bI [(3,vi i),(10,vi ra),(12,vi rc),(35,vF)] (by rw[b6]) ?_
  refine T_nd 5 [12,35] [(32,.bool (decide (i>=rc)))]<|zq<|S_bd 32 (b:=(decide (i>=rc))) (v:=((decide (i<0)) || (decide (i>=rc)))) (by simp only[b6,BL]) ?_
  exact hk
 intro hk
 refine T_n 3 [(2,vi g),(3,vi i),(10,vi ra),(11,vi rb),(12,vi rc),(27,.bool (!re))] ?_
 by_cases c1:re=true
 ·have b2:(!re)=false:=congrArg Bool.not (c1)
  have b22:re=true:=c1
  refine bI [(2,vi g),(3,vi i),(10,vi ra),(11,vi rb),(12,vi rc),(27,vF)] (by simp only[b2,b22,Bool.not_true,Bool.not_false]) ?_
  refine T_nd 5 [2,11,27] [(24,.bool (rb !=g))]<|zq<|S_bd 24 (b:=(rb !=g)) (v:=((!re) || (rb !=g))) (by simp only[b2,BL]) ?_
  exact hk
 have b2:(!re)=true:=congrArg Bool.not (zZ c1)
 have b22:re=false:=zZ c1
 refine bI [(2,vi g),(3,vi i),(10,vi ra),(11,vi rb),(12,vi rc),(27,vT)] (by simp only[b2,b22,Bool.not_true,Bool.not_false]) ?_
 refine T_nd 5 [2,11,27] [(24,vT)]<|zq<|S_bd 24 (b:=true) (v:=((!re) || (rb !=g))) (by simp only[b2,BL]) ?_
 exact hk
end dh
/-! (*moraine/obj.Heap).none -/
namespace di
def K0:=Func.code f86
end di
def di.pt(hv:zW)(H:zV)(R:zj):Prop:=
 eK hv (
 R vT H) (λa=>
 ∃x,hat H a=some (vp x)/\
 eK x (
 R vT H) (λxA=>
 R vF H))
namespace di
theorem link(h:pt d H a):C d H a:=by
 refine T_en K0 12 func86 ?_
 intro w0 Q hQ
 unfold pt at h
 refine T_su [(0,vp d)]<|ar 0<|T_ed 1 [] []<|ar 1<|T_nd 1 [] [(3,vp d)] ?_
 rcases d with _ | R
 ·rw[onPtr_none]at h
  exact T_nr 9 [2] [vT] hQ h
 rw[onPtr_some]at h
 refine T_n 5 [(5,vF),(8,vq R)] ?_
 obtain⟨x,q1,h⟩:=h
 refine T_l1 9 49 q1 [8] ?_
 rcases x with _ | xA
 ·rw[onPtr_none]at h
  exact T_nr 3 [2] [vT] hQ h
 rw[onPtr_some]at h
 exact T_nr 3 [2] [vF] hQ h
end di
/-! (*moraine/obj.Heap).Len -/
namespace ej
def K0:=Func.code f101
end ej
def ej.pt(hv:zW)(wv:Int)(H:zV)(R:zj):Prop:=
 bL.C hv wv H (λv H1=> ∃ra rb rc rd re,v=.tuple #[vi ra,vi rb,vi rc,vu rd,.bool re]/\
 R (vi rc) H1)
namespace ej
theorem link(h:pt d b H a):C d b H a:=by
 refine T_en K0 20 func101 ?_
 intro w0 Q hQ
 unfold pt at h
 refine T_su [(0,vp d),(1,vu b)]<|ar 0<|T_ed 1 [] []<|ar 1<|T_n 2 [(11,vp d),(12,vu b)]<|T_c (some 13) h ?_;clear h
 rintro v H1 ⟨ra,rb,rc,rd,re,rfl,h⟩
 refine⟨[(13,.tuple #[vi ra,vi rb,vi rc,vu rd,.bool re])],pk,?_⟩
 exact T_ne 11 [(7,vi rc)]<|ar 2<|T_nr 2 [4] [vi rc] hQ h
end ej
/-! (*moraine/obj.Heap).Set -/
namespace dt
def K0:=Func.code f104
end dt
def dt.pt(hv:zW)(wv a i v:Int)(H:zV)(R:zj):Prop:=
 dh.C hv wv a i H (λe H1=> ∃ra rb,e=.tuple #[vi ra,vi rb]/\
 if rb=0 then(
 ∃d,hv=some d/\
 ∃x,hat H1 d=some (vp x)/\
 cH.C x ra v H1 (λf H2=> ∃b,f=vi b/\
 R (vi b) H2))
 else
 R (vi rb) H1)
namespace dt
theorem link{v:Int}(h:pt d b g i v H a):C d b g i v H a:=by
 refine T_en K0 31 func104 ?_
 intro w0 Q hQ
 unfold pt at h
 refine T_su [(0,vp d),(1,vu b),(2,vi g),(3,vi i),(4,vu v)]<|ar 0<|T_ed 1 [] []<|ar 1<|T_nd 4 [1,2,3] [(14,vp d),(15,vu b),(16,vi g),(17,vi i)]<|T_c (some 18) h ?_;clear h
 rintro e H1 ⟨ra,rb,rfl,h⟩
 refine T_pd [14,15,16,17] [(18,.tuple #[vi ra,vi rb])]<|T_ed 5 [18] [(11,vi ra),(12,vi rb)]<|T_sz<|ar 2<|T_ed 2 [] [(22,.bool (rb !=0))] ?_
 revert h;refine iO_ (λc1 h=>?_) (λc1 h=>?_)
 ·refine aJ 22 (bne_eq_false_iff_eq.mpr c1)<|T_kt<|ar 4<|T_nd 1 [0,12,22] [(24,vp d)] ?_
  obtain⟨wv,rfl,h⟩:=h
  refine T_nd 2 [24] [(26,vq wv)] ?_
  obtain⟨x,q3,h⟩:=h
  refine T_l1 27 49 q3 [26]<|T_nd 2 [4,11] [(28,vi ra),(29,vu v)]<|T_c (some 30) h ?_;clear h
  rintro f H2 ⟨R,rfl,h⟩
  refine⟨[(30,vi R)],pk,?_⟩
  exact T_nr 1 [10] [vi R] hQ h
 exact aI 22 (bne_iff_ne.mpr c1)<|ar 3<|T_nr 2 [10] [vi rb] hQ h
end dt
/-! (*moraine/obj.Heap).at -/
namespace dU
def K0:=Func.code f113
end dU
def dU.pt(hv:zW)(wv i a:Int)(H:zV)(R:zj):Prop:=
 dW.C wv H (λv H1=> ∃ra rb,v=.tuple #[vi ra,.bool rb]/\
 di.C hv H1 (λac H2=> ∃x,ac=.bool x/\
 if x=true then(
 R (.tuple #[vi 0,vF]) H2)
 else
 if rb=true then(
 dT.C wv H2 (λab H3=> ∃q,ab=vi q/\
 if q=i then(
 ∃z,hv=some z/\
 ∃y,hat H3 z=some (vp y)/\
 ∃s,y=some s/\
 ∃t,hat H3 s=some (vp t)/\
 ∃u,t=some u/\
 ∃r,hat H3 u=some (vp r)/\
 aV.C r (zY (Int.tdiv ra 64)) H3 (λaa H4=> ∃m k p e d g f j,aa=.tuple #[.agg #[vi m,vi k,vi p,vi e,vi d,vi g,vi f],.bool j]/\
 ∀b H5,b=H4.size->H5=H4.push (.cells #[vi 0,vi 0,vi 0,vi 0,vi 0,vi 0,vi 0] 108)->
 (aL H5 (ad b) 0 7)/\ ∀H6,H6=aN H5 (ad b) [vi m,vi k,vi p,vi e,vi d,vi g,vi f] 0->
 if j=true then(
 ∃n,hat H6 ((ad b).add 1)=some (vi n)/\
 if n=a then(
 ∃o,hat H6 ((ad b).add 2)=some (vi o)/\
 R (.tuple #[vi ra,.bool (decide ((Int.tmod ra 64)<o))]) H6)
 else
 R (.tuple #[vi ra,vF]) H6)
 else
 R (.tuple #[vi ra,vF]) H6))
 else
 R (.tuple #[vi 0,vF]) H3))
 else
 R (.tuple #[vi 0,vF]) H2))
namespace dU
theorem link(h:pt d b g i H a):C d b g i H a:=by
 refine T_en K0 61 func113 ?_
 intro w0 Q hQ
 unfold pt zY at h
 refine T_su [(0,vp d),(1,vu b),(2,vi g),(3,vi i)]<|ar 0<|T_ed 2 [] []<|ar 1<|T_nd 1 [] [(14,vu b)]<|T_c (some 15) h ?_;clear h
 rintro v H1 ⟨ra,rb,rfl,h⟩
 refine T_pd [14] [(15,.tuple #[vi ra,.bool rb])]<|T_ed 5 [15] [(10,vi ra),(11,.bool rb)]<|T_sz<|ar 2<|T_nd 1 [] [(18,vp d)]<|T_c (some 19) h ?_;clear h
 rintro ac H2 ⟨x,rfl,h⟩
 refine T_pd [18] [(19,.bool x)]<|T_nd 1 [19] [(20,.bool x)] ?_
 revert h;refine iO_ (λc1 h=>?_) (λc1 h=>?_)
 ·exact N_bd 20 c1<|T_ed 9 [1,2,11,20] [(29,vT)]<|T_tz 29<|ar 3<|T_nr 2 [8,9] [vi 0,vF] hQ h
 refine N_bd 20 (zZ c1)<|T_nd 4 [11,20] [(24,.bool (!rb))] ?_
 revert h;refine iO_ (λc3 h=>?_) (λc3 h=>?_)
 ·have b4:(!rb)=false:=congrArg Bool.not (c3)
  have b42:rb=true:=c3
  refine N_bd 24 (b:=(!rb)) (v:=false) (by simp only[b4,b42,Bool.not_true,Bool.not_false]) ?_
  clear b4 b42
  refine T_nd 1 [1] [(25,vu b)]<|T_c (some 26) h ?_;clear h
  rintro ab H3 ⟨q,rfl,h⟩
  refine T_pd [25] [(26,vi q)]<|T_ed 3 [2,24,26] [(29,.bool (q !=g))] ?_
  revert h;refine iO_ (λc5 h=>?_) (λc5 h=>?_)
  ·refine aJ 29 (bne_eq_false_iff_eq.mpr c5)<|T_kt<|ar 4<|T_nd 1 [0,29] [(31,vp d)] ?_
   obtain⟨z,rfl,h⟩:=h
   refine T_nd 2 [31] [(33,vq z)] ?_
   obtain⟨y,q7,h⟩:=h
   refine T_l1 34 49 q7 [33] ?_
   obtain⟨s,rfl,h⟩:=h
   refine T_nd 2 [34] [(36,vq s)] ?_
   obtain⟨t,q8,h⟩:=h
   refine T_l1 37 52 q8 [36] ?_
   obtain⟨u,rfl,h⟩:=h
   refine T_nd 2 [37] [(39,vq u)] ?_
   obtain⟨r,q9,h⟩:=h
   refine T_l1 40 78 q9 [39]<|T_nd 2 [] [(42,vi (zY (Int.tdiv ra 64)))]<|T_c (some 43) h ?_;clear h
   rintro aa H4 ⟨m,k,p,e,wv,hv,f,j,rfl,h⟩
   refine T_pd [40,42] [(43,.tuple #[.agg #[vi m,vi k,vi p,vi e,vi wv,vi hv,vi f],.bool j])]<|T_nd 3 [43] [(44,.agg #[vi m,vi k,vi p,vi e,vi wv,vi hv,vi f]),(45,.bool j)]<|T_nw (some 12) (λR=>vp (pa R)) (.cells #[vi 0,vi 0,vi 0,vi 0,vi 0,vi 0,vi 0] 108) ?_
   intro R H5 e10 e11
   replace h:=h R H5 e10 e11
   refine T_pd [] [(12,vp (pa R))] ?_
   obtain⟨q13,h⟩:=h
   refine fp 108 [vi m,vi k,vi p,vi e,vi wv,vi hv,vi f] q13 ?_
   intro H6 e12
   replace h:=h H6 e12
   refine T_pd [44] []<|T_ed 1 [45] [(11,.bool j)]<|T_sz<|nT 5<|T_q1 46 (vi ra) []<|T_q1 47 (.bool j) [11]<|T_q1 48 (.bool j) [47] ?_
   revert h;refine iO_ (λc14 h=>?_) (λc14 h=>?_)
   ·refine Q_bd 48 c14<|T_q1 49 (vq ((ad R).add 1)) [] ?_
    obtain⟨n,q16,h⟩:=h
    refine kw (some 50) 3 q16 [49] [(50,vi n)]<|T_q1 51 (vi i) [3]<|T_q1 52 (.bool (n==i)) [50,51]<|T_q1 53 (.bool (n==i)) [48,52]<|T_q1 54 (.bool (n==i)) [53] ?_
    revert h;refine iO_ (λc17 h=>?_) (λc17 h=>?_)
    ·refine Q_bd 54 (zK c17)<|T_q1 55 (vi ra) [10]<|T_q1 56 (vi (Int.tmod ra 64)) [55]<|T_q1 57 (vq ((ad R).add 2)) [12] ?_
     obtain⟨o,q19,h⟩:=h
     exact kw (some 58) 3 q19 [57] [(58,vi o)]<|T_q1 59 (.bool (decide ((Int.tmod ra 64)<o))) [56,58]<|T_q1 60 (.bool (decide ((Int.tmod ra 64)<o))) [54,59]<|T_q1 8 (vi ra) [46]<|T_q1 9 (.bool (decide ((Int.tmod ra 64)<o))) [60]<|jM [(8,vi ra),(9,.bool (decide ((Int.tmod ra 64)<o)))] sk<|T_qe<|ff [8,9] [vi ra,.bool (decide ((Int.tmod ra 64)<o))] hQ h
    refine Q_bd 54 (zJ c17)<|T_q1 55 (undef) [10]<|T_q1 56 (undef) [55]<|T_q1 57 (undef) [12]<|T_q1 58 (undef) [57]<|T_q1 59 (undef) [56,58]<|T_q1 60 vF [54,59]<|T_q1 8 (vi ra) [46]<|T_q1 9 vF [60] ?_
    refine jM [(8,vi ra),(9,vF)] sk ?_
    exact T_qe<|ff [8,9] [vi ra,vF] hQ h
   refine Q_bd 48 (zZ c14)<|T_q1 49 (undef) []<|T_q1 50 (undef) [49]<|T_q1 51 (undef) [3]<|T_q1 52 (undef) [50,51]<|T_q1 53 vF [48,52]<|T_q1 54 vF [53]<|T_q1 55 (undef) [10]<|T_q1 56 (undef) [55] ?_
   exact T_q1 57 (undef) [12]<|T_q1 58 (undef) [57]<|T_q1 59 (undef) [56,58]<|T_q1 60 vF [54,59]<|T_q1 8 (vi ra) [46]<|T_q1 9 vF [60]<|jM [(8,vi ra),(9,vF)] sk<|T_qe<|ff [8,9] [vi ra,vF] hQ h
  exact aI 29 (bne_iff_ne.mpr c5)<|ar 3<|T_nr 2 [8,9] [vi 0,vF] hQ h
 have b4:(!rb)=true:=congrArg Bool.not (zZ c3)
 have b42:rb=false:=zZ c3
 refine N_bd 24 (b:=(!rb)) (v:=true) (by simp only[b4,b42,Bool.not_true,Bool.not_false]) ?_
 clear b4 b42
 exact T_ed 5 [1,2,24] [(29,vT)]<|T_tz 29<|ar 3<|T_nr 2 [8,9] [vi 0,vF] hQ h
end dU
variable{H:zV}{a:zW}{b:zj}{d:Int}
/-! (*moraine/card.Cards).Dirty -/
namespace cU
def K0:=Func.code f49
def K2:=cb K0
def K4:=cb K2
def K12:=cb K4
def K13:=ca K12
def K16:=cb K13
def K17:=ca K16
def K18:=ca K17
def K20:=cb K18
def K22:=cb K20
def K25:=ca K22
def K27:=ca K25
def K29:=cb K27
def K31:=cb K29
def K33:=cb K31
def K34:=ca K33
def K35:=ca K34
end cU
def cU.pt(c:zW)(g:Int)(H:zV)(R:zj):Prop:=
 bU.C c H (λv H1=> ∃x,v=.bool x/\
 if x=true then(
 R vN H1)
 else
 ∃cA,c=some cA/\
 ∃an,hat H1 cA=some (vp an)/\
 ∃am,an=some am/\
 ∃ai,hat H1 am=some (vp ai)/\
 bW.C ai none 0 0 H1 (λaq H2=> ∃xB xN xC,aq=vs xB xN xC/\
 ∃(al:zW->Nat->Nat->zk) (m19:zW->Nat->Nat->Int->zV->Nat),al none 0 0 0 H2/\ ∀lB lN lC s23 H3,al lB lN lC s23 H3->
 if s23< (xN:Int)then(
 ∃d,xB=some d/\
 zv s23 xN/\
 ∃e,hat H3 (d.add (Int.toNat s23*1))=some (vi e)/\
 ∃aj,hat H3 cA=some (vp aj)/\
 ∃ak,aj=some ak/\
 ∃af,hat H3 ak=some (vp af)/\
 aV.C af e H3 (λao H4=> ∃ab y ac r q u s rb,ao=.tuple #[.agg #[vi ab,vi y,vi ac,vi r,vi q,vi u,vi s],.bool rb]/\
 ∀b H5,b=H4.size->H5=H4.push (.cells #[vi 0,vi 0,vi 0,vi 0,vi 0,vi 0,vi 0] 108)->
 (aL H5 (ad b) 0 7)/\ ∀H6,H6=aN H5 (ad b) [vi ab,vi y,vi ac,vi r,vi q,vi u,vi s] 0->
 ∃j o m p,aS H6 ((ad b).add 3) 0 [vi j,vi o,vi m,vi p]/\
 ∃(ah:zW->Nat->Nat->zk) (m36:zW->Nat->Nat->Int->zV->Nat),ah lB lN lC 0 H6/\ ∀f lN_2 lC_2 s41 H7,ah f lN_2 lC_2 s41 H7->
 if s41<4 then(
 ∃z,((0<=s41/\s41< (4:Int))/\(#[vi j,vi o,vi m,vi p]:Array Value)[Int.toNat s41]?=some (vi z))/\
 ∃aa,hat H7 (ad b)=some (vi aa)/\
 if((decide (aa>g)) && (decide (z<=g)))=true then(
 ∀ag H8,ag=H7.size->H8=H7.push (.cells #[vi e,vi s41] 127)->
 fO 2 127 16 [vi 0,vi 0] f lN_2 lC_2 (some (ad ag)) 1 H8 (λap ae H9=>
 (ah ap (lN_2+1) ae (zY (s41+1)) H9/\m36 ap (lN_2+1) ae (zY (s41+1)) H9<m36 f lN_2 lC_2 s41 H7)))
 else
 (ah f lN_2 lC_2 (zY (s41+1)) H7/\m36 f lN_2 lC_2 (zY (s41+1)) H7<m36 f lN_2 lC_2 s41 H7))
 else
 (al f lN_2 lC_2 (zY (s23+1)) H7/\m19 f lN_2 lC_2 (zY (s23+1)) H7<m19 lB lN lC s23 H3)))
 else
 R (vs lB lN lC) H3))
namespace cU
theorem link(h:pt a d H b):C a d H b:=by
 refine T_en K0 63 func49 ?_
 intro w0 Q hQ
 unfold pt zY at h
 refine T_su [(0,vp a),(1,vi d)]<|ar 0<|T_ed 1 [] []<|T_sz<|ar 1<|T_nd 1 [] [(12,vp a)]<|T_c (some 13) h ?_;clear h
 rintro v H1 ⟨x,rfl,h⟩
 refine T_pd [12] [(13,.bool x)]<|T_e ?_
 revert h;refine iO_ (λc1 h=>?_) (λc1 h=>?_)
 ·exact aI 13 c1<|ar 2<|T_nr 1 [4] [vN] hQ h
 refine aJ 13 (zZ c1)<|T_kt<|ar 3<|T_ed 1 [13] [(5,vN)]<|T_sz<|ar 4<|T_nd 1 [] [(14,vp a)] ?_
 obtain⟨cA,rfl,h⟩:=h
 refine T_nd 2 [0,14] [(0,vq cA),(16,vq cA)] ?_
 obtain⟨an,q3,h⟩:=h
 refine T_l1 17 52 q3 [16] ?_
 obtain⟨am,rfl,h⟩:=h
 refine T_nd 2 [17] [(19,vq am)] ?_
 obtain⟨ai,q4,h⟩:=h
 refine T_l1 20 78 q4 [19]<|T_c (some 21) h ?_;clear h
 rintro aq H2 ⟨xB,xN,xC,rfl,h⟩
 refine T_pd [20] [(21,vs xB xN xC)]<|T_ed 2 [] [(22,vi xN),(23,vi 0)]<|T_bz 0 ?_
 obtain⟨al,m19,i5,i6⟩:=h
 refine db (x:=K18) (σ:=zW×Nat×Nat×Int) (λs_=> [(0,vq cA),(1,vi d),(5,vs s_.1 s_.2.1 s_.2.2.1),(21,vs xB xN xC),(22,vi xN),(23,vi s_.2.2.2)]) (λs_ H=>al s_.1 s_.2.1 s_.2.2.1 s_.2.2.2 H) (λs_ H=>m19 s_.1 s_.2.1 s_.2.2.1 s_.2.2.2 H) ((none,0,0,0):zW×Nat×Nat×Int) (by kernel_rfl) i5 sk ?_
 rintro⟨lB,lN,lC,s23⟩ H3 i7
 have h:=i6 lB lN lC s23 H3 i7
 refine T_su [(0,vq cA),(1,vi d),(5,vs lB lN lC),(21,vs xB xN xC),(22,vi xN),(23,vi s23)]<|ar 5<|T_ed 1 [] [(24,.bool (decide (s23< (xN:Int))))]<|T_sz ?_
 revert h;refine iO_ (λc8 h=>?_) (λc8 h=>?_)
 ·refine aI 24 (zX c8)<|T_kt<|T_sz<|T_bz 1<|ar 6<|T_ud [24] [] ?_
  obtain⟨g,rfl,q10,h⟩:=h
  refine T_xd (some 25) 75 3 1 g xN xC .i64 s23 underlying75 q10.1 q10.2 [21] [(21,vs (some g) xN xC),(25,vq (g.add (Int.toNat s23*1)))] ?_
  obtain⟨e,q11,h⟩:=h
  refine T_l1 26 3 q11 [25]<|T_ed 1 [26] [(7,vi e)]<|ar 7<|T_nd 3 [] [(30,vq cA)] ?_
  obtain⟨aj,q12,h⟩:=h
  refine T_l1 31 52 q12 [30] ?_
  obtain⟨ak,rfl,h⟩:=h
  refine T_nd 2 [31] [(33,vq ak)] ?_
  obtain⟨af,q13,h⟩:=h
  refine T_l1 34 78 q13 [33]<|T_nd 1 [] [(35,vi e)]<|T_c (some 36) h ?_;clear h
  rintro ao H4 ⟨ab,y,ac,r,q,u,s,rb,rfl,h⟩
  refine T_pd [34,35] [(36,.tuple #[.agg #[vi ab,vi y,vi ac,vi r,vi q,vi u,vi s],.bool rb])]<|T_nd 3 [36] [(37,.agg #[vi ab,vi y,vi ac,vi r,vi q,vi u,vi s]),(38,.bool rb)]<|T_nw (some 8) (λR=>vp (pa R)) (.cells #[vi 0,vi 0,vi 0,vi 0,vi 0,vi 0,vi 0] 108) ?_
  intro R H5 e14 e15
  replace h:=h R H5 e14 e15
  refine T_pd [] [(8,vp (pa R))] ?_
  obtain⟨q17,h⟩:=h
  refine fp 108 [vi ab,vi y,vi ac,vi r,vi q,vi u,vi s] q17 ?_
  intro H6 e16
  replace h:=h H6 e16
  refine T_pd [37] []<|T_ed 1 [38] []<|ar 8<|T_nd 1 [] [(39,vq ((ad R).add 3))] ?_
  obtain⟨j,o,m,p,q18,h⟩:=h
  refine T_lr 40 79 q18 [39]<|T_ed 1 [] [(41,vi 0)]<|T_bz 2 ?_
  obtain⟨ah,m36,i19,i20⟩:=h
  refine db (x:=K35) (σ:=zW×Nat×Nat×Int) (λs_=> [(0,vq cA),(1,vi d),(5,vs s_.1 s_.2.1 s_.2.2.1),(7,vi e),(8,vp (pa R)),(21,vs (some g) xN xC),(22,vi xN),(23,vi s23),(40,.agg #[vi j,vi o,vi m,vi p]),(41,vi s_.2.2.2)]) (λs_ H=>ah s_.1 s_.2.1 s_.2.2.1 s_.2.2.2 H) (λs_ H=>m36 s_.1 s_.2.1 s_.2.2.1 s_.2.2.2 H) ((lB,lN,lC,0):zW×Nat×Nat×Int) (by kernel_rfl) i19 sk ?_
  rintro⟨f,lN_2,lC_2,s41⟩ H7 i21
  have h:=i20 f lN_2 lC_2 s41 H7 i21
  refine T_su [(0,vq cA),(1,vi d),(5,vs f lN_2 lC_2),(7,vi e),(8,vp (pa R)),(21,vs (some g) xN xC),(22,vi xN),(23,vi s23),(40,.agg #[vi j,vi o,vi m,vi p]),(41,vi s41)]<|ar 9<|T_ed 1 [] [(42,.bool (decide (s41<4)))]<|T_sz ?_
  revert h;refine iO_ (λc22 h=>?_) (λc22 h=>?_)
  ·refine aI 42 (zX c22)<|T_kt<|T_sz<|T_bz 3<|ar 10<|T_nd 1 [42] [(43,vi s41)] ?_
   obtain⟨z,q24,h⟩:=h
   refine T_v1 44 (kq 79 (.agg #[vi j,vi o,vi m,vi p]) (vi s41)) (vi z) (λw _=>ip (P:=prog) (t:=79) (elem:=3) (n:=4) underlying79 (λ_=>by kernel_rfl) (λ_=>by kernel_rfl) q24.1.1 q24.1.2 q24.2 w) []<|T_ed 2 [43,44] [(10,vi s41),(11,vi z)]<|ar 11<|T_nd 1 [] [(45,vp (pa R))] ?_
   obtain⟨aa,q25,h⟩:=h
   refine T_l1 46 3 q25 [45]<|T_nd 3 [46] [(49,.bool (decide (aa>d)))] ?_
   refine fe [(0,vq cA),(1,vi d),(5,vs f lN_2 lC_2),(7,vi e),(8,vp (pa R)),(10,vi s41),(21,vs (some g) xN xC),(22,vi xN),(23,vi s23),(40,.agg #[vi j,vi o,vi m,vi p]),(41,vi s41),(53,.bool ((decide (aa>d)) && (decide (z<=d))))] ?_ ?_
   ·refine aC ?_
    revert h;refine iO_ (λc28 h=>?_) (λc28 h=>?_)
    ·refine aI 53 c28<|T_rz 12<|T_n 4 [(0,vq cA),(1,vi d),(7,vi e),(8,vp (pa R)),(21,vs (some g) xN xC),(22,vi xN),(23,vi s23),(40,.agg #[vi j,vi o,vi m,vi p]),(41,vi s41),(54,vs f lN_2 lC_2),(57,.agg #[vi e,vi s41])]<|T_nw (some 58) (λR=>vs (pa R) 1 1) (.cells #[vi e,vi s41] 127) ?_
     intro ag H8 e30 e31
     replace h:=h ag H8 e30 e31
     refine T_pd [57] [(58,vs (pa ag) 1 1)]<|N_op (some 59) (fy #[104,104] 104 #[vs f lN_2 lC_2,vs (pa ag) 1 1]) _ (λ_=>by kernel_rfl) (fB (T:=127) (sz:=2) (bytes:=16) (zero:=(.agg #[vi 0,vi 0]:Value)) underlying104 underlying104 rfl (show prog.info? 127=some t127 from by kernel_rfl) (by kernel_rfl) (by kernel_rfl) (by decide) (by kernel_rfl) (by first | exact h | (simpa only[Value.cells,List.toList_toArray]using h))) ?_;clear h
     rintro _ H9 ⟨ap,ae,rfl,h⟩
     exact T_pd [54,58] [(59,vs ap (lN_2+1) ae)]<|T_nd 1 [59] [(5,vs ap (lN_2+1) ae)]<|zq<|aD<|aC<|T_rz 13<|T_ed 2 [41] [(41,vi (zY (s41+1)))]<|aR ((ap,(lN_2+1),ae,(zY (s41+1))):zW×Nat×Nat×Int) sk h
    exact aJ 53 (zZ c28)<|T_k<|aD<|aC<|T_rz 13<|T_ne 2 [(0,vq cA),(1,vi d),(5,vs f lN_2 lC_2),(7,vi e),(8,vp (pa R)),(21,vs (some g) xN xC),(22,vi xN),(23,vi s23),(40,.agg #[vi j,vi o,vi m,vi p]),(41,vi (zY (s41+1)))]<|aR ((f,lN_2,lC_2,(zY (s41+1))):zW×Nat×Nat×Int) sk h
   intro hk
   refine T_nu [(0,vq cA),(1,vi d),(5,vs f lN_2 lC_2),(7,vi e),(8,vp (pa R)),(10,vi s41),(11,vi z),(21,vs (some g) xN xC),(22,vi xN),(23,vi s23),(40,.agg #[vi j,vi o,vi m,vi p]),(41,vi s41),(49,.bool (decide (aa>d)))] ?_
   by_cases c26:aa>d
   ·have b27:(decide (aa>d))=true:=zX c26
    refine bI [(0,vq cA),(1,vi d),(5,vs f lN_2 lC_2),(7,vi e),(8,vp (pa R)),(10,vi s41),(11,vi z),(21,vs (some g) xN xC),(22,vi xN),(23,vi s23),(40,.agg #[vi j,vi o,vi m,vi p]),(41,vi s41),(49,vT)] (by rw[b27]) ?_
    refine T_nd 4 [11,49] [(53,.bool (decide (z<=d)))]<|zq<|S_bd 53 (b:=(decide (z<=d))) (v:=((decide (aa>d)) && (decide (z<=d)))) (by simp only[b27,BL]) ?_
    exact hk
   have b27:(decide (aa>d))=false:=zQ c26
   refine bI [(0,vq cA),(1,vi d),(5,vs f lN_2 lC_2),(7,vi e),(8,vp (pa R)),(10,vi s41),(11,vi z),(21,vs (some g) xN xC),(22,vi xN),(23,vi s23),(40,.agg #[vi j,vi o,vi m,vi p]),(41,vi s41),(49,vF)] (by rw[b27]) ?_
   refine T_nd 4 [11,49] [(53,vF)]<|zq<|S_bd 53 (b:=false) (v:=((decide (aa>d)) && (decide (z<=d)))) (by simp only[b27,BL]) ?_
   exact hk
  exact aJ 42 (zQ c22)<|zz 2<|aA<|aA<|aM<|aD<|aC<|T_rz 14<|T_ed 2 [7,8,23,40,41,42] [(23,vi (zY (s23+1)))]<|aR ((f,lN_2,lC_2,(zY (s23+1))):zW×Nat×Nat×Int) sk h
 exact aJ 24 (zQ c8)<|zz 0<|aA<|aA<|aM<|aC<|ar 15<|T_nr 2 [4] [vs lB lN lC] hQ h
end cU
/-! (*moraine/card.Cards).Again -/
namespace cX
def K0:=Func.code f64
def K2:=cb K0
def K4:=cb K2
def K12:=cb K4
def K14:=cb K12
def K27:=cb K14
def K28:=ca K27
def K29:=cb K27
def K31:=cb K28
def K32:=ca K31
def K33:=ca K32
def K34:=cb K32
def K36:=ca K29
end cX
def cX.pt(c:zW)(d a:Int)(H:zV)(R:zj):Prop:=
 ∀b H1,b=H.size->H1=H.push (.cells #[vp c] 49)->
 ∃x,hat H1 (ad b)=some (vp x)/\
 bU.C x H1 (λv H2=> ∃an,v=.bool an/\
 if an=true then(
 R (vi 19) H2)
 else
 ∃aw,hat H2 (ad b)=some (vp aw)/\
 ∃aq,aw=some aq/\
 ∃au,hat H2 aq=some (vp au)/\
 ∃av,au=some av/\
 ∃al,hat H2 av=some (vp al)/\
 aV.C al d H2 (λa5 H3=> ∃u s ag j i m k rb,a5=.tuple #[.agg #[vi u,vi s,vi ag,vi j,vi i,vi m,vi k],.bool rb]/\
 ∀f H4,f=H3.size->H4=H3.push (.cells #[vi 0,vi 0,vi 0,vi 0,vi 0,vi 0,vi 0] 108)->
 (aL H4 (ad f) 0 7)/\ ∀H5,H5=aN H4 (ad f) [vi u,vi s,vi ag,vi j,vi i,vi m,vi k] 0->
 if rb=true then(
 if((decide (a<0)) || (decide (a>=4)))=true then(
 R (vi 1) H5)
 else
 ∀e H6,e=H5.size->H6=H5.push (.cells #[vi 0] 3)->
 (aL H6 (ad e) 0 1)/\ ∀H7,H7=aN H6 (ad e) [vi 5] 0->
 ∃ao,hat H7 (ad b)=some (vp ao)/\
 dv.C ao d a H7 (λak H8=>ak=ak/\
 ∀(rc:LoopState->Option Code->Obj) (lp:Nat) (H9:zV),lp=H8.size+1->H9=(H8.push (.deferred (some []))).push (rc .ready none)->
 ∀vY,(∀(ac:Int) (H10:zV) (vRy:zj),H10[lp]?=some (rc .ready none)->
 (H10[lp]?=some (rc .ready none)/\ ∀am,am=bH H10 lp (rc .busy none)->
 ∃ah,hat am (ad b)=some (vp ah)/\
 ∃ab y xN n p q o,aS am (ad f) 0 [vi ab,vi y,vi xN,vi n,vi p,vi q,vi o]/\
 ∃ai,hat am (ad e)=some (vi ai)/\
 bQ.C ah ab y xN n p q o ac ai am (λa3 az=> ∃af,a3=vi af/\
 (aL az (ad e) 0 1)/\ ∀ap,ap=aN az (ad e) [vi af] 0->
 ap[lp]?=some (rc .busy none)/\
 vRy vT (bH ap lp (rc .ready none))))->
 FC prog vY #[vu ac] H10 vRy)->
 FE prog ak #[vY] H9 (λ_ a0=>
 (a0[lp]?=some (rc .ready none)/\ ∀aj,aj=bH a0 lp (rc .exhausted none)->
 ∃ay,hat aj (ad b)=some (vp ay)/\
 ∃r,ay=some r/\
 ∃ax,hat aj r=some (vp ax)/\
 ∃t,ax=some t/\
 ∃z,hat aj t=some (vp z)/\
 ∃ae,hat aj (ad e)=some (vi ae)/\
 dS.C z d a ae aj (λa1 a4=> ∃aa,a1=vi aa/\
 Shut (H8.size::[]) a4 (λa2=>
 R (vi aa) a2))))))
 else
 R (vi 19) H5))
namespace cX
theorem link{R:Int}(h:pt a d R H b):C a d R H b:=by
 refine T_en K0 56 func64 ?_
 intro w0 Q hQ
 unfold pt at h
 refine T_su [(0,vp a),(1,vi d),(2,vi R)]<|ar 0<|T_nw (some 3) (λc=>vp (pa c)) (.cells #[vp a] 49) ?_
 intro c H1 e1 e2
 replace h:=h c H1 e1 e2
 refine T_pd [0] [(3,vp (pa c))]<|T_ed 1 [] []<|T_sz<|ar 1 ?_
 obtain⟨x,q3,h⟩:=h
 refine T_l1 11 49 q3 []<|T_c (some 12) h ?_;clear h
 rintro v H2 ⟨an,rfl,h⟩
 refine T_pd [11] [(12,.bool an)]<|T_e ?_
 revert h;refine iO_ (λc4 h=>?_) (λc4 h=>?_)
 ·exact aI 12 c4<|ar 2<|T_nr 1 [6] [vi 19] hQ h
 refine aJ 12 (zZ c4)<|T_kt<|ar 3<|T_ud [12] [] ?_
 obtain⟨aw,q6,h⟩:=h
 refine T_l1 14 49 q6 [] ?_
 obtain⟨aq,rfl,h⟩:=h
 refine T_nd 2 [14] [(16,vq aq)] ?_
 obtain⟨au,q7,h⟩:=h
 refine T_l1 17 52 q7 [16] ?_
 obtain⟨av,rfl,h⟩:=h
 refine T_nd 2 [17] [(19,vq av)] ?_
 obtain⟨al,q8,h⟩:=h
 refine T_l1 20 78 q8 [19]<|T_nd 1 [] [(21,vi d)]<|T_c (some 22) h ?_;clear h
 rintro a5 H3 ⟨u,s,ag,j,i,m,k,rb,rfl,h⟩
 refine T_pd [20,21] [(22,.tuple #[.agg #[vi u,vi s,vi ag,vi j,vi i,vi m,vi k],.bool rb])]<|T_nd 3 [22] [(23,.agg #[vi u,vi s,vi ag,vi j,vi i,vi m,vi k]),(24,.bool rb)]<|T_nw (some 7) (λc=>vp (pa c)) (.cells #[vi 0,vi 0,vi 0,vi 0,vi 0,vi 0,vi 0] 108) ?_
 intro f H4 e9 e10
 replace h:=h f H4 e9 e10
 refine T_pd [] [(7,vp (pa f))] ?_
 obtain⟨q12,h⟩:=h
 refine fp 108 [vi u,vi s,vi ag,vi j,vi i,vi m,vi k] q12 ?_
 intro H5 e11
 replace h:=h H5 e11
 refine T_pd [23] []<|T_ed 1 [24] [(8,.bool rb)]<|T_sz<|T_bz 0<|ar 4<|T_ed 3 [8] [(25,.bool (!rb))] ?_
 revert h;refine iO_ (λc13 h=>?_) (λc13 h=>?_)
 ·refine aJ 25 (congrArg Bool.not (c13))<|ar 6 ?_
  refine fe [(1,vi d),(2,vi R),(3,vp (pa c)),(7,vp (pa f)),(28,.bool ((decide (R<0)) || (decide (R>=4))))] ?_ ?_
  ·refine aC ?_
   revert h;refine iO_ (λc17 h=>?_) (λc17 h=>?_)
   ·exact aI 28 c17<|ar 7<|T_nr 1 [6] [vi 1] hQ h
   refine aJ 28 (zZ c17)<|T_k<|aD<|aC<|ar 8<|T_nu [(1,vi d),(2,vi R),(3,vp (pa c)),(7,vp (pa f))]<|T_nw (some 9) (λc=>vp (pa c)) (.cells #[vi 0] 3) ?_
   intro e H6 e19 e20
   replace h:=h e H6 e19 e20
   refine T_pd [] [(9,vp (pa e))] ?_
   obtain⟨q22,h⟩:=h
   refine gD 3 (vi 5) q22 ?_
   intro H7 e21
   replace h:=h H7 e21
   refine T_pd [] []<|T_e<|T_sz<|ar 9 ?_
   obtain⟨ao,q23,h⟩:=h
   refine T_l1 35 49 q23 []<|T_nd 2 [] [(36,vi d),(37,vi R)]<|T_c (some 38) h ?_;clear h
   rintro ak H8 ⟨-,h⟩
   refine T_pd [35,36,37] [(38,ak)]<|T_e<|T_bz 1<|pN (g:=.tmp 38) (ps:= #[39]) (assign:=K33) (body:=K34) (ak) (by kernel_rfl) (by kernel_rfl) (by kernel_rfl) ?_
   intro rc lp H9 r24 e25 e26 y27
   refine FE.mono (h rc lp H9 e25 e26 (.func (.yield lp) #[] #[]) ?_) ?_
   ·clear h
    intro ac H10 vRy q28 h
    refine y27 #[vu ac] H10 vRy (by kernel_rfl) q28 (λw1x=>?_)
    refine T_sd [] [(39,vu ac)]<|T_rz 10<|T_nd 1 [1,2,38,39] [(10,vu ac)]<|zq ?_
    obtain⟨q30,h⟩:=h
    refine aC<|pM r24 q30 ?_
    intro am e29
    replace h:=h am e29
    refine T_bz 2<|T_rz 11 ?_
    obtain⟨ah,q31,h⟩:=h
    refine T_l1 40 49 q31 [3] ?_
    obtain⟨ab,y,xN,n,p,q,o,q32,h⟩:=h
    refine T_lr 41 108 q32 [7]<|T_nd 1 [10] [(42,vu ac)] ?_
    obtain⟨ai,q33,h⟩:=h
    refine T_l1 43 3 q33 []<|T_c (some 44) h ?_;clear h
    rintro a3 az ⟨af,rfl,h⟩
    refine⟨[(9,vp (pa e)),(44,vi af)],pk,?_⟩
    obtain⟨q35,h⟩:=h
    refine gD 3 (vi af) q35 ?_
    intro ap e34
    replace h:=h ap e34
    refine⟨[],pk,?_⟩
    refine zq<|aD ?_
    obtain⟨q36,h⟩:=h
    exact oe r24 q36 h
   clear h y27
   rintro _ a0 (⟨q37,h⟩)
   refine .inl ⟨q37,λaj e42=>?_⟩
   replace h:=h aj e42
   refine pI (H8.size::[]) rfl ?_
   refine T_sd [7,38] []<|aD<|aC<|T_sz ?_
   obtain⟨ay,q38,r,rfl,ax,q39,t,rfl,z,q40,ae,q41,h⟩:=h
   refine yW 12 (Code.ops K36) [(10,(ad c),[vq r]),(10,r,[vq t]),(10,t,[vp z]),(10,(ad e),[vi ae])] 12 (bv 12 0) (show aH _ _ _ from⟨⟨q38,trivial⟩,⟨q39,trivial⟩,⟨q40,trivial⟩,⟨q41,trivial⟩,trivial⟩)<|T_g 0 (some 45) (vq r) (bv 12 1) [(1,vi d),(2,vi R),(9,vp (pa e)),(45,vq r)] (aP 49 (vp (pa c))) (yV 10 zw)<|aF 1 46 (vq r) (bv 12 3) [45]<|aF 2 47 (vq r) (bv 12 7) [46]<|T_g1 3 48 (vq t) (bv 12 15) [47] (aP 52 (vq r)) (yV 10 yZ)<|aF 4 49 (vq t) (bv 12 31) [48]<|aF 5 50 (vq t) (bv 12 63) [49]<|T_g1 6 51 (vp z) (bv 12 127) [50] (aP 78 (vq t)) (yV 10 yX)<|aF 7 52 (vi d) (bv 12 255) [1]<|aF 8 53 (vi R) (bv 12 511) [2]<|T_g1 9 54 (vi ae) (bv 12 1023) [9] (aP 3 (vp (pa e))) (yV 10 yQ)<|yY 10 (some 55) (bv 12 2047) 108 #[vp z,vi d,vi R,vi ae] h ?_;clear h
   rintro a1 a4 ⟨aa,rfl,h⟩
   refine⟨[(55,vi aa)],pk,(show aH _ _ _ from⟨trivial,trivial,trivial,trivial,trivial⟩),?_⟩
   refine T_g 11 (some 6) (vi aa) (bv 12 4095) [(6,vi aa)] (pure (.value (vi aa)):Sem Next) (λ_ _ _ _ _=>rfl)<|fm [(6,vi aa)] sk<|yq<|aC<|nI (by kernel_rfl) ?_
   show At _ _ _ _ _ (Q .ret)
   refine nM (fn:=f64) (H8.size::[]) hQ (Shut.mono (λa2 h=>?_) h)
   exact⟨[vi aa],(show dV _ _ _ [.tmp 6] _ from .tmp (by kernel_rfl) (.nil)),h⟩
  intro hk
  refine T_n 3 [(1,vi d),(2,vi R),(3,vp (pa c)),(7,vp (pa f)),(31,.bool (decide (R<0)))] ?_
  by_cases c15:R<0
  ·have b16:(decide (R<0))=true:=zX c15
   refine bI [(1,vi d),(2,vi R),(3,vp (pa c)),(7,vp (pa f)),(31,vT)] (by rw[b16]) ?_
   refine T_nd 4 [31] [(28,vT)]<|zq<|S_bd 28 (b:=true) (v:=((decide (R<0)) || (decide (R>=4)))) (by simp only[b16,BL]) ?_
   exact hk
  have b16:(decide (R<0))=false:=zQ c15
  refine bI [(1,vi d),(2,vi R),(3,vp (pa c)),(7,vp (pa f)),(31,vF)] (by rw[b16]) ?_
  refine T_nd 4 [31] [(28,.bool (decide (R>=4)))]<|zq<|S_bd 28 (b:=(decide (R>=4))) (v:=((decide (R<0)) || (decide (R>=4)))) (by simp only[b16,BL]) ?_
  exact hk
 exact aI 25 (congrArg Bool.not (zZ c13))<|ar 5<|T_nr 1 [6] [vi 19] hQ h
end cX
/-! (*moraine/card.Cards).words -/
namespace dv
def K0:=Func.code f106
end dv
def dv.pt(c:zW)(f a:Int)(H:zV)(R:zj):Prop:=
 ∀b H1,b=H.size->H1=H.push (.cells #[vp c] 49)->
 ∀d H2,d=H1.size->H2=H1.push (.cells #[vi f] 3)->
 ∀e H3,e=H2.size->H3=H2.push (.cells #[vi a] 3)->
 R (.func (.func 134) #[] #[vq (ad b),vq (ad d),vq (ad e)]) H3
namespace dv
theorem link{R:Int}(h:pt a d R H b):C a d R H b:=by
 refine T_en K0 8 func106 ?_
 intro w0 Q hQ
 unfold pt at h
 refine T_su [(0,vp a),(1,vi d),(2,vi R)]<|ar 0<|T_nw (some 3) (λf=>vp (pa f)) (.cells #[vp a] 49) ?_
 intro f H1 e1 e2
 replace h:=h f H1 e1 e2
 refine T_pd [0] [(3,vp (pa f))]<|T_nw (some 4) (λf=>vp (pa f)) (.cells #[vi d] 3) ?_
 intro c H2 e3 e4
 replace h:=h c H2 e3 e4
 refine T_pd [1] [(4,vp (pa c))]<|T_nw (some 5) (λf=>vp (pa f)) (.cells #[vi R] 3) ?_
 intro e H3 e5 e6
 replace h:=h e H3 e5 e6
 exact T_pd [2] [(5,vp (pa e))]<|T_ed 1 [] []<|ar 1<|T_nr 2 [6] [.func (.func 134) #[] #[vp (pa f),vp (pa c),vp (pa e)]] hQ h
end dv
/-! (*moraine/card.Cards).words.1 -/
namespace cP
def K0:=Func.code f134
def K2:=cb K0
def K3:=ca K2
def K4:=ca K3
def K6:=cb K4
def K8:=cb K6
def K11:=ca K8
def K13:=ca K11
def K15:=cb K13
def K16:=ca K15
end cP
def cP.pt(a:Value)(i j k:zW)(H:zV)(R:zj):Prop:=
 ∃(I5:zk) (m5:Int->zV->Nat),I5 0 H/\ ∀s8 H1,I5 s8 H1->
 if s8<16 then(
 ∃b,i=some b/\
 ∃x,hat H1 b=some (vp x)/\
 ∃xA,x=some xA/\
 ∃p,hat H1 xA=some (vp p)/\
 ∃m,p=some m/\
 ∃n,hat H1 m=some (vp n)/\
 ∃e,j=some e/\
 ∃f,hat H1 e=some (vi f)/\
 ∃d,k=some d/\
 ∃g,hat H1 d=some (vi g)/\
 bN.C n (zY ((zY ((zY (f*64))+(zY (g*16))))+s8)) H1 (λv H2=> ∃ra rb,v=.tuple #[vu ra,vi rb]/\
 if rb=0 then(
 FC prog a #[vu ra] H2 (λq H3=> ∃o,q=.bool o/\
 if o=true then(
 (I5 (zY (s8+1)) H3/\m5 (zY (s8+1)) H3<m5 s8 H1))
 else
 R (.tuple #[]) H3))
 else
 R (.tuple #[]) H2))
 else
 R (.tuple #[]) H1
namespace cP
theorem link{R:Value}{j k:zW}(h:pt R a j k H b):C R a j k H b:=by
 refine T_en K0 38 func134 ?_
 intro w0 Q hQ
 unfold pt zY at h
 refine T_su [(0,R),(1,vp a),(2,vp j),(3,vp k)]<|ar 0<|T_ed 1 [] [(8,vi 0)]<|T_bz 0 ?_
 obtain⟨I5,m5,i1,i2⟩:=h
 refine db (x:=K4) (σ:=Int) (λs_=> [(0,R),(1,vp a),(2,vp j),(3,vp k),(8,vi s_)]) (λs_ H=>I5 s_ H) (λs_ H=>m5 s_ H) (0:Int) (by kernel_rfl) i1 sk ?_
 rintro s8 H1 i3
 have h:=i2 s8 H1 i3
 refine T_su [(0,R),(1,vp a),(2,vp j),(3,vp k),(8,vi s8)]<|ar 1<|T_ed 1 [] [(9,.bool (decide (s8<16)))]<|T_sz ?_
 revert h;refine iO_ (λc4 h=>?_) (λc4 h=>?_)
 ·refine aI 9 (zX c4)<|T_kt<|T_sz<|T_bz 1<|ar 2<|T_ed 2 [9] [(5,vi s8)]<|T_sz ?_
  obtain⟨i,rfl,x,q6,xA,rfl,p,q7,m,rfl,n,q8,e,rfl,f,q9,d,rfl,g,q10,h⟩:=h
  refine yW 3 (Code.ops K16) [(14,i,[vq xA]),(14,xA,[vq m]),(14,m,[vp n]),(14,e,[vi f]),(14,d,[vi g])] 20 (bv 20 0) (show aH _ _ _ from⟨⟨q6,trivial⟩,⟨q7,trivial⟩,⟨q8,trivial⟩,⟨q9,trivial⟩,⟨q10,trivial⟩,trivial⟩)<|T_g 0 (some 12) (vq xA) (bv 20 1) [(0,R),(1,vq i),(2,vq e),(3,vq d),(5,vi s8),(8,vi s8),(12,vq xA)] (aP 49 (vq i)) (yV 14 zw)<|aF 1 13 (vq xA) (bv 20 3) [12]<|aF 2 14 (vq xA) (bv 20 7) [13]<|T_g1 3 15 (vq m) (bv 20 15) [14] (aP 52 (vq xA)) (yV 14 yZ)<|aF 4 16 (vq m) (bv 20 31) [15]<|aF 5 17 (vq m) (bv 20 63) [16]<|T_g1 6 18 (vp n) (bv 20 127) [17] (aP 78 (vq m)) (yV 14 yX)<|T_g1 7 19 (vi f) (bv 20 255) [] (aP 3 (vq e)) (yV 14 yQ)<|aF 8 20 (vi (zY (f*64))) (bv 20 511) [19]<|T_g1 9 21 (vi g) (bv 20 1023) [] (aP 3 (vq d)) (yV 14 yJ)<|aF 10 22 (vi (zY (g*16))) (bv 20 2047) [21]<|aF 11 23 (vi (zY ((zY (f*64))+(zY (g*16))))) (bv 20 4095) [20,22]<|aF 12 24 (vi s8) (bv 20 8191) [5]<|aF 13 25 (vi (zY ((zY ((zY (f*64))+(zY (g*16))))+s8))) (bv 20 16383) [23,24]<|yY 14 (some 26) (bv 20 32767) 33 #[vp n,vi (zY ((zY ((zY (f*64))+(zY (g*16))))+s8))] h ?_;clear h
  rintro v H2 ⟨ra,rb,rfl,h⟩
  refine⟨[(0,R),(1,vq i),(2,vq e),(3,vq d),(8,vi s8),(26,.tuple #[vu ra,vi rb])],pk,(show aH _ _ _ from⟨trivial,trivial,trivial,trivial,trivial,trivial⟩),?_⟩
  refine T_g 15 (some 11) (.tuple #[vu ra,vi rb]) (bv 20 65535) [(0,R),(1,vq i),(2,vq e),(3,vq d),(8,vi s8),(11,.tuple #[vu ra,vi rb])] (pure (.value (.tuple #[vu ra,vi rb])):Sem Next) (λ_ _ _ _ _=>rfl)<|T_g1 16 27 (vu ra) (bv 20 131071) [] (pure (.value (vu ra)):Sem Next) (λ_ _ _ _ _=>rfl)<|T_g1 17 28 (vi rb) (bv 20 262143) [11] (pure (.value (vi rb)):Sem Next) (λ_ _ _ _ _=>rfl)<|T_g1 18 6 (vu ra) (bv 20 524287) [27] (pure (.value (vu ra)):Sem Next) (λ_ _ _ _ _=>rfl)<|T_g1 19 7 (vi rb) (bv 20 1048575) [28] (pure (.value (vi rb)):Sem Next) (λ_ _ _ _ _=>rfl)<|fm [(0,R),(1,vq i),(2,vq e),(3,vq d),(6,vu ra),(7,vi rb),(8,vi s8)] sk<|yq<|aC<|ar 4<|T_n 3 [(0,R),(1,vq i),(2,vq e),(3,vq d),(6,vu ra),(8,vi s8),(31,.bool (rb !=0))] ?_
  revert h;refine iO_ (λc11 h=>?_) (λc11 h=>?_)
  ·have b12:(rb !=0)=false:=bne_eq_false_iff_eq.mpr c11
   refine bI [(0,R),(1,vq i),(2,vq e),(3,vq d),(6,vu ra),(8,vi s8),(31,vF)] (by rw[b12]) ?_
   clear b12
   refine T_nd 2 [6] [(32,R),(33,vu ra)]<|pL (some 34) R #[vu ra] (λ_=>by kernel_rfl) h ?_;clear h
   rintro q H3 ⟨o,rfl,h⟩
   refine T_pd [32,33] [(34,.bool o)]<|T_ed 2 [31,34] [(36,.bool (!o))] ?_
   revert h;refine iO_ (λc13 h=>?_) (λc13 h=>?_)
   ·exact aJ 36 (congrArg Bool.not (c13))<|T_k<|aD<|aC<|T_rz 5<|T_ed 2 [8,36] [(8,vi (zY (s8+1)))]<|aR ((zY (s8+1)):Int) sk h
   exact aI 36 (congrArg Bool.not (zZ c13))<|ff [] [] hQ h
  have b12:(rb !=0)=true:=bne_iff_ne.mpr c11
  refine bI [(0,R),(1,vq i),(2,vq e),(3,vq d),(6,vu ra),(8,vi s8),(31,vT)] (by rw[b12]) ?_
  clear b12
  exact T_ed 5 [6,31] [(36,vT)]<|T_tz 36<|ff [] [] hQ h
 exact aJ 9 (zQ c4)<|zz 0<|aA<|aA<|aM<|fx (fn:=f134) [] hQ (show dV _ _ _ [] _ from .nil) h
end cP
variable{H:zV}{a:zW}{b:zj}
/-! moraine/weak.Guards -/
namespace du
def K0:=Func.code f15
def K2:=cb K0
def K3:=ca K2
def K5:=cb K3
def K13:=cb K5
def K14:=ca K13
def K15:=cb K13
def K17:=cb K14
def K18:=ca K17
def K19:=ca K18
def K36:=cb K15
def K37:=cb K36
def K38:=ca K37
def K39:=cb K37
def K41:=cb K38
def K42:=ca K41
def K43:=ca K42
def K45:=cb K43
def K47:=cb K45
def K50:=ca K47
def K52:=ca K50
def K54:=cb K52
def K56:=cb K54
def K57:=ca K56
def K60:=cb K57
def K62:=cb K60
def K63:=ca K62
def K68:=cb K39
def K69:=ca K68
def K72:=cb K69
def K73:=ca K72
def K74:=ca K73
def K76:=cb K74
def K78:=cb K76
def K81:=ca K78
def K83:=ca K81
def K85:=cb K83
def K87:=cb K85
def K88:=ca K87
end du
def du.pt(tv lB:zW)(lN lC:Nat)(H:zV)(R:zj):Prop:=
 ∀b H1,b=H.size->H1=H.push (.cells #[vp tv] 37)->
 ∀e H2,e=H1.size->H2=H1.push (.cells #[vs lB lN lC] 31)->
 ∃x,hat H2 (ad b)=some (vp x)/\
 eP.C x H2 (λv H3=> ∃bx,v=.bool bx/\
 if bx=true then(
 ∃xB xN xC,hat H3 (ad e)=some (vs xB xN xC)/\
 fY.C xB xN xC H3 (λcs H4=> ∃bn bk bi,cs=vs bn bk bi/\
 R (vs bn bk bi) H4))
 else
 ∃b9 z b8,hat H3 (ad e)=some (vs b9 z b8)/\
 0<=(z:Int)/\(z:Int)<=(z:Int)/\8*(z:Int)<=2 ^ 48/\(z:Int)<=9223372036854775807/\
 ∀bg H5,bg=H3.size->H5=H3.push (.cells (Builtin.zeroCells #[vi 0] (Int.toNat (z:Int))) 3)->
 ∀d H6,d=H5.size->H6=H5.push (.cells #[vN] 75)->
 (aL H6 (ad d) 0 1)/\ ∀H7,H7=aN H6 (ad d) [vs (some (ad bg)) (Int.toNat (z:Int)) (Int.toNat (z:Int))] 0->
 ∃ak j s,hat H7 (ad e)=some (vs ak j s)/\
 ∃(b2:zk) (m20:Int->zV->Nat),b2 0 H7/\ ∀m H8,b2 m H8->
 if m< (j:Int)then(
 ∃aa,ak=some aa/\
 zv m j/\
 ∃ax ac,aS H8 (aa.add (Int.toNat m*2)) 0 [vu ax,vu ac]/\
 ∀aq H9,aq=H8.size->H9=H8.push (.cells #[vu 0,vu 0] 36)->
 (aL H9 (ad aq) 0 2)/\ ∀b5,b5=aN H9 (ad aq) [vu ax,vu ac] 0->
 ∃bq,hat b5 (ad b)=some (vp bq)/\
 ∃b0,hat b5 (ad aq)=some (vu b0)/\
 aX.C bq b0 b5 (λcr bt=> ∃bc,cr=.bool bc/\
 if bc=true then(
 (b2 (zY (m+1)) bt/\m20 (zY (m+1)) bt<m20 m H8))
 else
 ∃bj a6 be,hat bt (ad d)=some (vs bj a6 be)/\
 ∃aw,bj=some aw/\
 zv m a6/\
 (aL bt (aw.add (Int.toNat m*1)) 0 1)/\ ∀ce,ce=aN bt (aw.add (Int.toNat m*1)) [vi 1] 0->
 (b2 (zY (m+1)) ce/\m20 (zY (m+1)) ce<m20 m H8)))
 else
 ∃(cg:zV->Prop) (m38:zV->Nat),cg H8/\ ∀b3,cg b3->
 ∃al o ae,hat b3 (ad e)=some (vs al o ae)/\
 ∃(cc:zk) (m44:Int->zV->Nat),cc 0 b3/\ ∀p H14,cc p H14->
 if p< (o:Int)then(
 ∃af,al=some af/\
 zv p o/\
 ∃ah y,aS H14 (af.add (Int.toNat p*2)) 0 [vu ah,vu y]/\
 ∀ab H15,ab=H14.size->H15=H14.push (.cells #[vu 0,vu 0] 36)->
 (aL H15 (ad ab) 0 2)/\ ∀ci,ci=aN H15 (ad ab) [vu ah,vu y] 0->
 cS.C p (some (ad d)) (some (ad b)) (some (ad e)) ci (λcq bs=> ∃bz,cq=.bool bz/\
 if bz=true then(
 ∃bm a9 bf,hat bs (ad d)=some (vs bm a9 bf)/\
 ∃au,bm=some au/\
 zv p a9/\
 (aL bs (au.add (Int.toNat p*1)) 0 1)/\ ∀b1,b1=aN bs (au.add (Int.toNat p*1)) [vi 2] 0->
 ∃br,hat b1 (ad b)=some (vp br)/\
 ∃b6,hat b1 (ad ab)=some (vu b6)/\
 aQ.C br b6 b1 (λcu cd=> ∃ao,cu=vu ao/\
 ∃ai,hat cd (ad b)=some (vp ai)/\
 ∃av,hat cd (ad b)=some (vp av)/\
 ∃a3,hat cd ((ad ab).add 1)=some (vu a3)/\
 aQ.C av a3 cd (λct cn=> ∃bw,ct=vu bw/\aS cn (ad b) 0 [vp ai]/\
 fE.C ai bw ao cn (λ_ co=>
 ∃bl,hat co (ad b)=some (vp bl)/\
 bM.C bl co (λ_ cp=>
 (cg cp/\m38 cp<m38 b3))))))
 else
 (cc (zY (p+1)) bs/\m44 (zY (p+1)) bs<m44 p H14)))
 else
 ∃am f n,hat H14 (ad e)=some (vs am f n)/\
 ∃(bu:zW->Nat->Nat->zk) (m75:zW->Nat->Nat->Int->zV->Nat),bu none 0 0 0 H14/\ ∀g outN outC s68 H23,bu g outN outC s68 H23->
 if s68< (f:Int)then(
 ∃q,am=some q/\
 zv s68 f/\
 ∃ag u,aS H23 (q.add (Int.toNat s68*2)) 0 [vu ag,vu u]/\
 ∀r H24,r=H23.size->H24=H23.push (.cells #[vu 0,vu 0] 36)->
 (aL H24 (ad r) 0 2)/\ ∀bb,bb=aN H24 (ad r) [vu ag,vu u] 0->
 ∃bo a2 bd,hat bb (ad d)=some (vs bo a2 bd)/\
 ∃a5,bo=some a5/\
 zv s68 a2/\
 ∃a0,hat bb (a5.add (Int.toNat s68*1))=some (vi a0)/\
 if a0<2 then(
 ∃a4,hat bb (ad b)=some (vp a4)/\
 ∃bh,hat bb ((ad r).add 1)=some (vu bh)/\
 aX.C a4 bh bb (λcv bp=> ∃a8,cv=.bool a8/\
 if a8=true then(
 ∃aj,hat bp (ad b)=some (vp aj)/\
 ∃ay,hat bp (ad r)=some (vu ay)/\
 ∃an,hat bp (ad b)=some (vp an)/\
 ∃a1,hat bp ((ad r).add 1)=some (vu a1)/\
 aQ.C aj ay bp (λcm ch=> ∃az,cm=vu az/\aS ch (ad b) 0 [vp an]/\aS ch ((ad r).add 1) 0 [vu a1]/\
 aQ.C an a1 ch (λcl ck=> ∃a7,cl=vu a7/\
 ∀b4 H29,b4=ck.size->H29=ck.push (.cells #[vu az,vu a7] 36)->
 fO 2 36 16 [vu 0,vu 0] g outN outC (some (ad b4)) 1 H29 (λap ba cj=>
 (bu ap (outN+1) ba (zY (s68+1)) cj/\m75 ap (outN+1) ba (zY (s68+1)) cj<m75 g outN outC s68 H23)))))
 else
 (bu g outN outC (zY (s68+1)) bp/\m75 g outN outC (zY (s68+1)) bp<m75 g outN outC s68 H23)))
 else
 (bu g outN outC (zY (s68+1)) bb/\m75 g outN outC (zY (s68+1)) bb<m75 g outN outC s68 H23))
 else
 R (vs g outN outC) H23)
namespace du
theorem link{lB:zW}{lN lC:Nat}(h:pt a lB lN lC H b):C a lB lN lC H b:=by
 refine T_en K0 98 func15 ?_
 intro w0 Q hQ
 unfold pt zY at h
 refine T_su [(0,vp a),(1,vs lB lN lC)]<|ar 0<|T_nw (some 2) (λR=>vp (pa R)) (.cells #[vp a] 37) ?_
 intro R H1 e1 e2
 replace h:=h R H1 e1 e2
 refine T_pd [0] [(2,vp (pa R))]<|T_nw (some 3) (λR=>vp (pa R)) (.cells #[vs lB lN lC] 31) ?_
 intro e H2 e3 e4
 replace h:=h e H2 e3 e4
 refine T_pd [1] [(3,vp (pa e))]<|T_ed 1 [] []<|oT K3 0 (by kernel_rfl) (by kernel_rfl)<|T_sz<|ar 1 ?_
 obtain⟨x,q5,h⟩:=h
 refine T_l1 15 37 q5 []<|T_c (some 16) h ?_;clear h
 rintro v H3 ⟨bx,rfl,h⟩
 refine T_pd [15] [(16,.bool bx)]<|T_e ?_
 revert h;refine iO_ (λc6 h=>?_) (λc6 h=>?_)
 ·refine aI 16 c6<|ar 2<|T_ud [2,16] [] ?_
  obtain⟨xB,xN,xC,q8,h⟩:=h
  refine T_l1 17 31 q8 [3]<|T_c (some 18) h ?_;clear h
  rintro cs H4 ⟨bn,bk,bi,rfl,h⟩
  refine⟨[(18,vs bn bk bi)],pk,?_⟩
  exact T_nr 1 [4] [vs bn bk bi] hQ h
 refine aJ 16 (zZ c6)<|T_kt<|ar 3<|T_ud [16] [] ?_
 obtain⟨b9,z,b8,q9,h⟩:=h
 refine T_l1 19 31 q9 []<|T_nd 1 [19] [(20,vi z)] ?_
 obtain⟨q10,q11,q12,q13,h⟩:=h
 refine N_op (some 21) (iq 75 (vi z) (vi z)) (λv Hz=>v=Value.slice (some (Addr.mk H3.size 0 none)) (Int.toNat (z:Int)) (Int.toNat (z:Int))/\Hz=H3.push (.cells (Builtin.zeroCells #[vi 0] (Int.toNat (z:Int))) 3)) (λ_=>by kernel_rfl) (nP (T:=3) (zero:=vi 0) underlying75 (show prog.info? 3=some t3 from by kernel_rfl) (by kernel_rfl) q10 q11 q12 q13 (by kernel_rfl) (by decide)) ?_
 rintro _ H5 ⟨rfl,e15⟩
 obtain⟨bg,e14⟩: ∃R,R=H3.size:=⟨_,rfl⟩
 replace h:=h bg H5 e14 e15
 rw[<-e14]
 refine T_pd [20] [(21,vs (pa bg) (Int.toNat (z:Int)) (Int.toNat (z:Int)))]<|T_nw (some 5) (λR=>vp (pa R)) (.cells #[vN] 75) ?_
 intro d H6 e16 e17
 replace h:=h d H6 e16 e17
 refine T_pd [] [(5,vp (pa d))] ?_
 obtain⟨q19,h⟩:=h
 refine gD 75 (vs (pa bg) (Int.toNat (z:Int)) (Int.toNat (z:Int))) q19 ?_
 intro H7 e18
 replace h:=h H7 e18
 refine T_pd [21] []<|T_e<|T_sz<|ar 4 ?_
 obtain⟨ak,j,s,q20,h⟩:=h
 refine T_l1 22 31 q20 []<|T_ed 2 [] [(23,vi j),(24,vi 0)]<|T_bz 0 ?_
 obtain⟨b2,m20,i21,i22⟩:=h
 refine db (x:=K19) (σ:=Int) (λs_=> [(2,vp (pa R)),(3,vp (pa e)),(5,vp (pa d)),(22,vs ak j s),(23,vi j),(24,vi s_)]) (λs_ H=>b2 s_ H) (λs_ H=>m20 s_ H) (0:Int) (by kernel_rfl) i21 sk ?_
 rintro m H8 i23
 have h:=i22 m H8 i23
 refine T_su [(2,vp (pa R)),(3,vp (pa e)),(5,vp (pa d)),(22,vs ak j s),(23,vi j),(24,vi m)]<|ar 5<|T_ed 1 [] [(25,.bool (decide (m< (j:Int))))]<|T_sz ?_
 revert h;refine iO_ (λc24 h=>?_) (λc24 h=>?_)
 ·refine aI 25 (zX c24)<|T_kt<|T_sz<|T_bz 1<|ar 6<|T_nd 1 [25] [(26,vi m)] ?_
  obtain⟨aa,rfl,q26,h⟩:=h
  refine T_xd (some 27) 31 36 2 aa j s .i64 m underlying31 q26.1 q26.2 [22] [(22,vs (some aa) j s),(27,vq (aa.add (Int.toNat m*2)))] ?_
  obtain⟨ax,ac,q27,h⟩:=h
  refine T_lr 28 36 q27 [27]<|T_nw (some 7) (λR=>vp (pa R)) (.cells #[vu 0,vu 0] 36) ?_
  intro aq H9 e28 e29
  replace h:=h aq H9 e28 e29
  refine T_pd [] [(7,vp (pa aq))]<|T_nd 1 [26] [(6,vi m)] ?_
  obtain⟨q31,h⟩:=h
  refine fp 36 [vu ax,vu ac] q31 ?_
  intro b5 e30
  replace h:=h b5 e30
  refine T_pd [28] []<|T_e<|ar 7 ?_
  obtain⟨bq,q32,h⟩:=h
  refine T_l1 29 37 q32 []<|T_nd 1 [7] [(30,vp (pa aq))] ?_
  obtain⟨b0,q33,h⟩:=h
  refine T_l1 31 28 q33 [30]<|T_c (some 32) h ?_;clear h
  rintro cr bt ⟨bc,rfl,h⟩
  refine T_pd [29,31] [(32,.bool bc)]<|T_ed 1 [32] [(33,.bool (!bc))] ?_
  revert h;refine iO_ (λc34 h=>?_) (λc34 h=>?_)
  ·exact aJ 33 (congrArg Bool.not (c34))<|T_k<|aD<|aC<|T_rz 9<|T_ed 2 [6,24,33] [(24,vi (zY (m+1)))]<|aR ((zY (m+1)):Int) sk h
  refine aI 33 (congrArg Bool.not (zZ c34))<|T_rz 8<|T_ud [33] [] ?_
  obtain⟨bj,a6,be,q36,h⟩:=h
  refine T_l1 34 75 q36 []<|T_nd 1 [6] [(35,vi m)] ?_
  obtain⟨aw,rfl,q37,h⟩:=h
  refine T_xd (some 36) 75 3 1 aw a6 be .i64 m underlying75 q37.1 q37.2 [34,35] [(36,vq (aw.add (Int.toNat m*1)))] ?_
  obtain⟨q39,h⟩:=h
  refine gD 3 (vi 1) q39 ?_
  intro ce e38
  replace h:=h ce e38
  exact T_pd [36] []<|zq<|aD<|aC<|T_rz 9<|T_ed 2 [24] [(24,vi (zY (m+1)))]<|aR ((zY (m+1)):Int) sk h
 refine aJ 25 (zQ c24)<|zz 0<|aA<|aA<|aM<|aC<|ar 10<|T_ed 2 [22,23,24,25] [(8,.func (.func 61) #[] #[vp (pa d),vp (pa R),vp (pa e)])] ?_
 obtain⟨cg,m38,i40,i41⟩:=h
 refine oU 0 K37 [(2,vp (pa R)),(3,vp (pa e)),(5,vp (pa d)),(8,.func (.func 61) #[] #[vp (pa d),vp (pa R),vp (pa e)])] cg m38 (by kernel_rfl) (by kernel_rfl) i40 sk ?_
 rintro b3 i42
 have h:=i41 b3 i42
 refine T_sz<|ar 11 ?_
 obtain⟨al,o,ae,q43,h⟩:=h
 refine T_l (some 39) 31 q43 [(2,vp (pa R)),(3,vp (pa e)),(5,vp (pa d)),(8,.func (.func 61) #[] #[vp (pa d),vp (pa R),vp (pa e)]),(39,vs al o ae)]<|T_ed 2 [] [(40,vi o),(41,vi 0)]<|T_bz 2 ?_
 obtain⟨cc,m44,i44,i45⟩:=h
 refine db (x:=K43) (σ:=Int) (λs_=> [(2,vp (pa R)),(3,vp (pa e)),(5,vp (pa d)),(8,.func (.func 61) #[] #[vp (pa d),vp (pa R),vp (pa e)]),(39,vs al o ae),(40,vi o),(41,vi s_)]) (λs_ H=>cc s_ H) (λs_ H=>m44 s_ H) (0:Int) (by kernel_rfl) i44 sk ?_
 rintro p H14 i46
 have h:=i45 p H14 i46
 refine T_su [(2,vp (pa R)),(3,vp (pa e)),(5,vp (pa d)),(8,.func (.func 61) #[] #[vp (pa d),vp (pa R),vp (pa e)]),(39,vs al o ae),(40,vi o),(41,vi p)]<|ar 12<|T_ed 1 [] [(42,.bool (decide (p< (o:Int))))]<|T_sz ?_
 revert h;refine iO_ (λc47 h=>?_) (λc47 h=>?_)
 ·refine aI 42 (zX c47)<|T_kt<|T_sz<|T_bz 3<|ar 13<|T_nd 1 [42] [(43,vi p)] ?_
  obtain⟨af,rfl,q49,h⟩:=h
  refine T_xd (some 44) 31 36 2 af o ae .i64 p underlying31 q49.1 q49.2 [39] [(39,vs (some af) o ae),(44,vq (af.add (Int.toNat p*2)))] ?_
  obtain⟨ah,y,q50,h⟩:=h
  refine T_lr 45 36 q50 [44]<|T_nw (some 10) (λR=>vp (pa R)) (.cells #[vu 0,vu 0] 36) ?_
  intro ab H15 e51 e52
  replace h:=h ab H15 e51 e52
  refine T_pd [] [(10,vp (pa ab))]<|T_nd 1 [43] [(9,vi p)] ?_
  obtain⟨q54,h⟩:=h
  refine fp 36 [vu ah,vu y] q54 ?_
  intro ci e53
  replace h:=h ci e53
  refine T_pd [45] []<|T_e<|ar 14<|T_nd 2 [] [(46,.func (.func 61) #[] #[vp (pa d),vp (pa R),vp (pa e)]),(47,vi p)]<|T_c (some 48) h ?_;clear h
  rintro cq bs ⟨bz,rfl,h⟩
  refine T_pd [46,47] [(48,.bool bz)]<|T_e ?_
  revert h;refine iO_ (λc55 h=>?_) (λc55 h=>?_)
  ·refine aI 48 c55<|ar 15<|T_ud [39,40,41,48] [] ?_
   obtain⟨bm,a9,bf,q57,h⟩:=h
   refine T_l1 49 75 q57 []<|T_nd 1 [9] [(50,vi p)] ?_
   obtain⟨au,rfl,q58,h⟩:=h
   refine T_xd (some 51) 75 3 1 au a9 bf .i64 p underlying75 q58.1 q58.2 [49,50] [(51,vq (au.add (Int.toNat p*1)))] ?_
   obtain⟨q60,h⟩:=h
   refine gD 3 (vi 2) q60 ?_
   intro b1 e59
   replace h:=h b1 e59
   refine T_pd [51] []<|T_e<|ar 16 ?_
   obtain⟨br,q61,h⟩:=h
   refine T_l1 52 37 q61 []<|T_nd 1 [] [(53,vp (pa ab))] ?_
   obtain⟨b6,q62,h⟩:=h
   refine T_l1 54 28 q62 [53]<|T_c (some 55) h ?_;clear h
   rintro cu cd ⟨ao,rfl,h⟩
   refine T_pd [52,54] [(55,vu ao)]<|T_ed 1 [55] [(11,vu ao)]<|T_sz ?_
   obtain⟨ai,q63,av,q64,a3,q65,h⟩:=h
   refine yW 17 (Code.ops K63) [(6,(ad R),[vp ai]),(4,(ad R),[vp av]),(4,((ad ab).add 1),[vu a3])] 7 (bv 7 0) (show aH _ _ _ from⟨⟨q63,trivial⟩,⟨q64,trivial⟩,⟨q65,trivial⟩,trivial⟩)<|T_g 0 (some 56) (vp ai) (bv 7 1) [(2,vp (pa R)),(3,vp (pa e)),(5,vp (pa d)),(8,.func (.func 61) #[] #[vp (pa d),vp (pa R),vp (pa e)]),(10,vp (pa ab)),(11,vu ao),(56,vp ai)] (aP 37 (vp (pa R))) (yV 6 zw)<|T_g1 1 57 (vp av) (bv 7 3) [] (aP 37 (vp (pa R))) (yV 4 yZ)<|aF 2 58 (vq ((ad ab).add 1)) (bv 7 7) [10]<|T_g1 3 59 (vu a3) (bv 7 15) [58] (aP 28 (vq ((ad ab).add 1))) (yV 4 yX)<|aF 5 61 (vu ao) (bv 7 47) [11]<|yY 4 (some 60) (bv 7 63) 13 #[vp av,vu a3] h ?_;clear h
   rintro ct cn ⟨bw,rfl,f66,h⟩
   refine⟨[(2,vp (pa R)),(3,vp (pa e)),(5,vp (pa d)),(8,.func (.func 61) #[] #[vp (pa d),vp (pa R),vp (pa e)]),(56,vp ai),(60,vu bw),(61,vu ao)],pk,(show aH _ _ _ from⟨f66,trivial,trivial,trivial⟩),?_⟩
   refine yY 6 (some 62) (bv 7 127) 62 #[vp ai,vu bw,vu ao] h ?_;clear h
   intro v_7 co h
   refine⟨[(2,vp (pa R)),(3,vp (pa e)),(5,vp (pa d)),(8,.func (.func 61) #[] #[vp (pa d),vp (pa R),vp (pa e)])],pk,(show aH _ _ _ from⟨trivial,trivial,trivial,trivial⟩),?_⟩
   refine fm [(2,vp (pa R)),(3,vp (pa e)),(5,vp (pa d)),(8,.func (.func 61) #[] #[vp (pa d),vp (pa R),vp (pa e)])] sk ?_
   refine yq<|aC<|ar 18 ?_
   obtain⟨bl,q67,h⟩:=h
   refine T_l (some 63) 37 q67 [(2,vp (pa R)),(3,vp (pa e)),(5,vp (pa d)),(8,.func (.func 61) #[] #[vp (pa d),vp (pa R),vp (pa e)]),(63,vp bl)]<|T_c (some 64) h ?_;clear h
   intro v_8 cp h
   exact T_pd [63] []<|T_e<|qx 0 (by kernel_rfl)<|jQ<|jb<|jb<|jQ<|jb<|qy sk h
  exact aJ 48 (zZ c55)<|T_k<|aD<|aC<|T_rz 19<|T_ed 2 [9,10,41,48] [(41,vi (zY (p+1)))]<|aR ((zY (p+1)):Int) sk h
 refine aJ 42 (zQ c47)<|zz 2<|aA<|aA<|aM<|aC<|ar 20<|T_ed 1 [8,39,40,41,42] [(12,vN)]<|T_sz<|ar 21 ?_
 obtain⟨am,f,n,q68,h⟩:=h
 refine T_l1 66 31 q68 [3]<|T_ed 2 [] [(67,vi f),(68,vi 0)]<|T_bz 4 ?_
 obtain⟨bu,m75,i69,i70⟩:=h
 refine db (x:=K74) (σ:=zW×Nat×Nat×Int) (λs_=> [(2,vp (pa R)),(5,vp (pa d)),(12,vs s_.1 s_.2.1 s_.2.2.1),(66,vs am f n),(67,vi f),(68,vi s_.2.2.2)]) (λs_ H=>bu s_.1 s_.2.1 s_.2.2.1 s_.2.2.2 H) (λs_ H=>m75 s_.1 s_.2.1 s_.2.2.1 s_.2.2.2 H) ((none,0,0,0):zW×Nat×Nat×Int) (by kernel_rfl) i69 sk ?_
 rintro⟨g,outN,outC,s68⟩ H23 i71
 have h:=i70 g outN outC s68 H23 i71
 refine T_su [(2,vp (pa R)),(5,vp (pa d)),(12,vs g outN outC),(66,vs am f n),(67,vi f),(68,vi s68)]<|ar 22<|T_ed 1 [] [(69,.bool (decide (s68< (f:Int))))]<|T_sz ?_
 revert h;refine iO_ (λc72 h=>?_) (λc72 h=>?_)
 ·refine aI 69 (zX c72)<|T_kt<|T_sz<|T_bz 5<|ar 23<|T_nd 1 [69] [(70,vi s68)] ?_
  obtain⟨q,rfl,q74,h⟩:=h
  refine T_xd (some 71) 31 36 2 q f n .i64 s68 underlying31 q74.1 q74.2 [66] [(66,vs (some q) f n),(71,vq (q.add (Int.toNat s68*2)))] ?_
  obtain⟨ag,u,q75,h⟩:=h
  refine T_lr 72 36 q75 [71]<|T_nw (some 14) (λR=>vp (pa R)) (.cells #[vu 0,vu 0] 36) ?_
  intro r H24 e76 e77
  replace h:=h r H24 e76 e77
  refine T_pd [] [(14,vp (pa r))]<|T_nd 1 [70] [(13,vi s68)] ?_
  obtain⟨q79,h⟩:=h
  refine fp 36 [vu ag,vu u] q79 ?_
  intro bb e78
  replace h:=h bb e78
  refine T_pd [72] []<|T_e<|ar 24 ?_
  obtain⟨bo,a2,bd,q80,h⟩:=h
  refine T_l1 73 75 q80 []<|T_nd 1 [13] [(74,vi s68)] ?_
  obtain⟨a5,rfl,q81,h⟩:=h
  refine T_xd (some 75) 75 3 1 a5 a2 bd .i64 s68 underlying75 q81.1 q81.2 [73,74] [(75,vq (a5.add (Int.toNat s68*1)))] ?_
  obtain⟨a0,q82,h⟩:=h
  refine T_l1 76 3 q82 [75]<|T_nd 2 [76] [(78,.bool (decide (a0<2)))] ?_
  revert h;refine iO_ (λc83 h=>?_) (λc83 h=>?_)
  ·refine N_bd 78 (zX c83) ?_
   obtain⟨a4,q85,h⟩:=h
   refine T_l1 79 37 q85 []<|T_nd 1 [] [(80,vq ((ad r).add 1))] ?_
   obtain⟨bh,q86,h⟩:=h
   refine T_l1 81 28 q86 [80]<|T_c (some 82) h ?_;clear h
   rintro cv bp ⟨a8,rfl,h⟩
   refine T_pd [79,81] [(82,.bool a8)]<|T_ed 1 [78,82] [(83,.bool a8)] ?_
   revert h;refine iO_ (λc87 h=>?_) (λc87 h=>?_)
   ·refine aI 83 c87 ?_
    obtain⟨aj,q89,ay,q90,an,q91,a1,q92,h⟩:=h
    refine yW 25 (Code.ops K88) [(4,(ad R),[vp aj]),(4,(ad r),[vu ay]),(8,(ad R),[vp an]),(8,((ad r).add 1),[vu a1])] 13 (bv 13 0) (show aH _ _ _ from⟨⟨q89,trivial⟩,⟨q90,trivial⟩,⟨q91,trivial⟩,⟨q92,trivial⟩,trivial⟩)<|T_gp 0 (some 84) (vs g outN outC) (bv 13 1) [(2,vp (pa R)),(5,vp (pa d)),(12,vs g outN outC),(14,vp (pa r)),(66,vs (some q) f n),(67,vi f),(68,vi s68),(84,vs g outN outC)]<|T_g1 1 85 (vp aj) (bv 13 3) [] (aP 37 (vp (pa R))) (yV 4 zw)<|aF 2 86 (vp (pa r)) (bv 13 7) []<|T_g1 3 87 (vu ay) (bv 13 15) [86] (aP 28 (vp (pa r))) (yV 4 yZ)<|T_g1 5 89 (vp an) (bv 13 47) [] (aP 37 (vp (pa R))) (yV 8 yX)<|aF 6 90 (vq ((ad r).add 1)) (bv 13 111) [14]<|T_g1 7 91 (vu a1) (bv 13 239) [90] (aP 28 (vq ((ad r).add 1))) (yV 8 yQ)<|yY 4 (some 88) (bv 13 255) 13 #[vp aj,vu ay] h ?_;clear h
    rintro cm ch ⟨az,rfl,f93,f94,h⟩
    refine⟨[(2,vp (pa R)),(5,vp (pa d)),(12,vs g outN outC),(66,vs (some q) f n),(67,vi f),(68,vi s68),(84,vs g outN outC),(88,vu az),(89,vp an),(91,vu a1)],pk,(show aH _ _ _ from⟨trivial,trivial,f93,f94,trivial⟩),?_⟩
    refine yY 8 (some 92) (bv 13 511) 13 #[vp an,vu a1] h ?_;clear h
    rintro cl ck ⟨a7,rfl,h⟩
    refine⟨[(2,vp (pa R)),(5,vp (pa d)),(12,vs g outN outC),(66,vs (some q) f n),(67,vi f),(68,vi s68),(84,vs g outN outC),(88,vu az),(92,vu a7)],pk,(show aH _ _ _ from⟨trivial,trivial,trivial,trivial,trivial⟩),?_⟩
    refine T_g 9 (some 93) (.agg #[vu az,vu a7]) (bv 13 1023) [(2,vp (pa R)),(5,vp (pa d)),(12,vs g outN outC),(66,vs (some q) f n),(67,vi f),(68,vi s68),(84,vs g outN outC),(93,.agg #[vu az,vu a7])] (pure (.value (.agg #[vu az,vu a7])):Sem Next) (λ_ _ _ _ _=>rfl)<|nN 10 (some 94) (bv 13 2047) (λR=>vs (pa R) 1 1) (.cells #[vu az,vu a7] 36) (by kernel_rfl) (λ_=>by kernel_rfl) (by kernel_rfl) ?_
    intro b4 H29 e95 e96
    replace h:=h b4 H29 e95 e96
    refine⟨[(2,vp (pa R)),(5,vp (pa d)),(12,vs g outN outC),(66,vs (some q) f n),(67,vi f),(68,vi s68),(84,vs g outN outC),(94,vs (pa b4) 1 1)],pk,(show aH _ _ _ from⟨trivial,trivial,trivial,trivial,trivial⟩),?_⟩
    refine l6 11 (some 95) (bv 13 4095) (fy #[31,31] 31 #[vs g outN outC,vs (pa b4) 1 1]) _ (by kernel_rfl) (λ_=>by kernel_rfl) (fB (T:=36) (sz:=2) (bytes:=16) (zero:=(.agg #[vu 0,vu 0]:Value)) underlying31 underlying31 rfl (show prog.info? 36=some t36 from by kernel_rfl) (by kernel_rfl) (by kernel_rfl) (by decide) (by kernel_rfl) (by first | exact h | (simpa only[Value.cells,List.toList_toArray]using h))) (by kernel_rfl) ?_;clear h
    rintro _ cj ⟨ap,ba,rfl,h⟩
    refine⟨[(2,vp (pa R)),(5,vp (pa d)),(12,vs g outN outC),(66,vs (some q) f n),(67,vi f),(68,vi s68),(95,vs ap (outN+1) ba)],pk,(show aH _ _ _ from⟨trivial,trivial,trivial,trivial,trivial⟩),?_⟩
    exact T_g 12 (some 12) (vs ap (outN+1) ba) (bv 13 8191) [(2,vp (pa R)),(5,vp (pa d)),(12,vs ap (outN+1) ba),(66,vs (some q) f n),(67,vi f),(68,vi s68)] (pure (.value (vs ap (outN+1) ba)):Sem Next) (λ_ _ _ _ _=>rfl)<|fm [(2,vp (pa R)),(5,vp (pa d)),(12,vs ap (outN+1) ba),(66,vs (some q) f n),(67,vi f),(68,vi s68)] sk<|yq<|aD<|aC<|T_rz 26<|T_ne 2 [(2,vp (pa R)),(5,vp (pa d)),(12,vs ap (outN+1) ba),(66,vs (some q) f n),(67,vi f),(68,vi (zY (s68+1)))]<|aR ((ap,(outN+1),ba,(zY (s68+1))):zW×Nat×Nat×Int) sk h
   exact aJ 83 (zZ c87)<|T_k<|aD<|aC<|T_rz 26<|T_ed 2 [14,68,83] [(68,vi (zY (s68+1)))]<|aR ((g,outN,outC,(zY (s68+1))):zW×Nat×Nat×Int) sk h
  refine N_bd 78 (zQ c83)<|T_ed 5 [78] [(83,vF)]<|T_fz 83<|T_k ?_
  exact aD<|aC<|T_rz 26<|T_ed 2 [14,68,83] [(68,vi (zY (s68+1)))]<|aR ((g,outN,outC,(zY (s68+1))):zW×Nat×Nat×Int) sk h
 exact aJ 69 (zQ c72)<|zz 4<|aA<|aA<|aM<|aC<|ar 27<|T_nr 2 [4] [vs g outN outC] hQ h
end du
/-! moraine/weak.Breaks -/
namespace eG
def K0:=Func.code f20
def K2:=cb K0
def K8:=cb K2
def K9:=ca K8
def K10:=ca K9
def K12:=cb K10
def K14:=cb K12
def K17:=ca K14
def K19:=ca K17
def K21:=cb K19
def K23:=cb K21
def K24:=ca K23
def K26:=cb K24
def K28:=cb K26
def K30:=cb K28
def K31:=ca K30
end eG
def eG.pt(tv:zW)(H:zV)(R:zj):Prop:=
 eP.C tv H (λv H1=> ∃x,v=.bool x/\
 if x=true then(
 R (.tuple #[]) H1)
 else
 cK.C tv H1 (λay H2=> ∃xB xN xC,ay=vs xB xN xC/\
 ∃(ae:zk) (m11:Int->zV->Nat),ae 0 H2/\ ∀b H3,ae b H3->
 if b< (xN:Int)then(
 ∃e,xB=some e/\
 zv b xN/\
 ∃f,hat H3 (e.add (Int.toNat b*1))=some (vi f)/\
 ∃d,tv=some d/\
 ∃ak,hat H3 d=some (vp ak)/\
 ∃af,ak=some af/\
 ∃ag,hat H3 af=some (vp ag)/\
 ∃ai,ag=some ai/\
 ∃ah,hat H3 ai=some (vp ah)/\
 ∃aj,ah=some aj/\
 ∃ab,hat H3 aj=some (vp ab)/\
 bN.C ab f H3 (λaw H4=> ∃ra rb,aw=.tuple #[vu ra,vi rb]/\
 cG.C (some d) ra H4 (λav H5=> ∃o,av=.bool o/\
 if o=true then(
 aX.C (some d) ra H5 (λau H6=> ∃q,au=.bool q/\
 if q=true then(
 ∃ap,hat H6 d=some (vp ap)/\
 ∃n,ap=some n/\
 ∃am,hat H6 n=some (vp am)/\
 ∃j,am=some j/\
 ∃al,hat H6 j=some (vp al)/\
 ∃g,al=some g/\
 ∃m,hat H6 g=some (vp m)/\
 aQ.C (some d) ra H6 (λaz H7=> ∃y,az=vu y/\aS H7 d 0 [vq n]/\aS H7 n 0 [vq j]/\aS H7 j 0 [vq g]/\aS H7 g 0 [vp m]/\
 bG.C m f y H7 (λaq H8=> ∃an,aq=vi an/\
 (ae (zY (b+1)) H8/\m11 (zY (b+1)) H8<m11 b H3))))
 else
 ∃s,hat H6 d=some (vp s)/\
 ∃ac,s=some ac/\
 ∃aa,hat H6 ac=some (vp aa)/\
 ∃r,aa=some r/\
 ∃u,hat H6 r=some (vp u)/\
 ∃z,u=some z/\
 ∃p,hat H6 z=some (vp p)/\
 bG.C p f 44 H6 (λax H9=> ∃ao,ax=vi ao/\
 (ae (zY (b+1)) H9/\m11 (zY (b+1)) H9<m11 b H3))))
 else
 (ae (zY (b+1)) H5/\m11 (zY (b+1)) H5<m11 b H3))))
 else
 R (.tuple #[]) H3))
namespace eG
theorem link(h:pt a H b):C a H b:=by
 refine T_en K0 76 func20 ?_
 intro w0 Q hQ
 unfold pt zY at h
 refine T_su [(0,vp a)]<|T_sz<|ar 0<|T_nd 1 [] [(6,vp a)]<|T_c (some 7) h ?_;clear h
 rintro v H1 ⟨x,rfl,h⟩
 refine T_pd [6] [(7,.bool x)]<|T_e ?_
 revert h;refine iO_ (λc1 h=>?_) (λc1 h=>?_)
 ·exact aI 7 c1<|ff [] [] hQ h
 refine aJ 7 (zZ c1)<|T_kt<|ar 1<|T_nd 1 [7] [(8,vp a)]<|T_c (some 9) h ?_;clear h
 rintro ay H2 ⟨xB,xN,xC,rfl,h⟩
 refine T_pd [8] [(9,vs xB xN xC)]<|T_ed 2 [] [(10,vi xN),(11,vi 0)]<|T_bz 0 ?_
 obtain⟨ae,m11,i3,i4⟩:=h
 refine db (x:=K10) (σ:=Int) (λs_=> [(0,vp a),(9,vs xB xN xC),(10,vi xN),(11,vi s_)]) (λs_ H=>ae s_ H) (λs_ H=>m11 s_ H) (0:Int) (by kernel_rfl) i3 sk ?_
 rintro R H3 i5
 have h:=i4 R H3 i5
 refine T_su [(0,vp a),(9,vs xB xN xC),(10,vi xN),(11,vi R)]<|ar 2<|T_ed 1 [] [(12,.bool (decide (R< (xN:Int))))]<|T_sz ?_
 revert h;refine iO_ (λc6 h=>?_) (λc6 h=>?_)
 ·refine aI 12 (zX c6)<|T_kt<|T_sz<|T_bz 1<|ar 3<|T_ud [12] [] ?_
  obtain⟨e,rfl,q8,h⟩:=h
  refine T_xd (some 13) 75 3 1 e xN xC .i64 R underlying75 q8.1 q8.2 [9] [(9,vs (some e) xN xC),(13,vq (e.add (Int.toNat R*1)))] ?_
  obtain⟨f,q9,h⟩:=h
  refine T_l1 14 3 q9 [13]<|T_ed 1 [14] [(3,vi f)]<|ar 4<|T_nd 1 [] [(16,vp a)] ?_
  obtain⟨d,rfl,h⟩:=h
  refine T_nd 2 [0,16] [(0,vq d),(18,vq d)] ?_
  obtain⟨ak,q10,h⟩:=h
  refine T_l1 19 23 q10 [18] ?_
  obtain⟨af,rfl,h⟩:=h
  refine T_nd 2 [19] [(21,vq af)] ?_
  obtain⟨ag,q11,h⟩:=h
  refine T_l1 22 49 q11 [21] ?_
  obtain⟨ai,rfl,h⟩:=h
  refine T_nd 2 [22] [(24,vq ai)] ?_
  obtain⟨ah,q12,h⟩:=h
  refine T_l1 25 52 q12 [24] ?_
  obtain⟨aj,rfl,h⟩:=h
  refine T_nd 2 [25] [(27,vq aj)] ?_
  obtain⟨ab,q13,h⟩:=h
  refine T_l1 28 78 q13 [27]<|T_nd 1 [] [(29,vi f)]<|T_c (some 30) h ?_;clear h
  rintro aw H4 ⟨ra,rb,rfl,h⟩
  refine T_pd [28,29] [(30,.tuple #[vu ra,vi rb])]<|T_ed 5 [30] [(4,vu ra)]<|T_bz 2<|ar 6<|T_nd 2 [] [(49,vq d),(50,vu ra)]<|T_c (some 51) h ?_;clear h
  rintro av H5 ⟨o,rfl,h⟩
  refine T_pd [49,50] [(51,.bool o)]<|T_ed 2 [51] [(48,.bool (!o))] ?_
  revert h;refine iO_ (λc14 h=>?_) (λc14 h=>?_)
  ·refine aJ 48 (congrArg Bool.not (c14))<|ar 7<|T_nd 2 [48] [(54,vq d),(55,vu ra)]<|T_c (some 56) h ?_;clear h
   rintro au H6 ⟨q,rfl,h⟩
   refine T_pd [54,55] [(56,.bool q)]<|T_ed 1 [56] [(53,.bool q)] ?_
   revert h;refine iO_ (λc16 h=>?_) (λc16 h=>?_)
   ·refine aI 53 c16 ?_
    obtain⟨ap,q18,n,rfl,am,q19,j,rfl,al,q20,g,rfl,m,q21,h⟩:=h
    refine yW 8 (Code.ops K31) [(17,d,[vq n]),(17,n,[vq j]),(17,j,[vq g]),(17,g,[vp m])] 18 (bv 18 0) (show aH _ _ _ from⟨⟨q18,trivial⟩,⟨q19,trivial⟩,⟨q20,trivial⟩,⟨q21,trivial⟩,trivial⟩)<|T_gp 0 (some 57) (vq d) (bv 18 1) [(0,vq d),(3,vi f),(4,vu ra),(9,vs (some e) xN xC),(10,vi xN),(11,vi R),(57,vq d)]<|aF 1 58 (vq d) (bv 18 3) [57]<|aF 2 59 (vq d) (bv 18 7) [58]<|T_g1 3 60 (vq n) (bv 18 15) [59] (aP 23 (vq d)) (yV 17 zw)<|aF 4 61 (vq n) (bv 18 31) [60]<|aF 5 62 (vq n) (bv 18 63) [61]<|T_g1 6 63 (vq j) (bv 18 127) [62] (aP 49 (vq n)) (yV 17 yZ)<|aF 7 64 (vq j) (bv 18 255) [63]<|aF 8 65 (vq j) (bv 18 511) [64]<|T_g1 9 66 (vq g) (bv 18 1023) [65] (aP 52 (vq j)) (yV 17 yX)<|aF 10 67 (vq g) (bv 18 2047) [66]<|aF 11 68 (vq g) (bv 18 4095) [67]<|T_g1 12 69 (vp m) (bv 18 8191) [68] (aP 78 (vq g)) (yV 17 yQ)<|aF 13 70 (vi f) (bv 18 16383) [3]<|aF 14 71 (vq d) (bv 18 32767) []<|aF 15 72 (vu ra) (bv 18 65535) [4]<|yY 16 (some 73) (bv 18 131071) 13 #[vq d,vu ra] h ?_;clear h
    rintro az H7 ⟨y,rfl,f22,f23,f24,f25,h⟩
    refine⟨[(0,vq d),(9,vs (some e) xN xC),(10,vi xN),(11,vi R),(69,vp m),(70,vi f),(73,vu y)],pk,(show aH _ _ _ from⟨f22,f23,f24,f25,trivial⟩),?_⟩
    refine yY 17 (some 74) (bv 18 262143) 54 #[vp m,vi f,vu y] h ?_;clear h
    rintro aq H8 ⟨an,rfl,h⟩
    refine⟨[(0,vq d),(9,vs (some e) xN xC),(10,vi xN),(11,vi R)],pk,(show aH _ _ _ from⟨trivial,trivial,trivial,trivial,trivial⟩),?_⟩
    refine fm [(0,vq d),(9,vs (some e) xN xC),(10,vi xN),(11,vi R)] sk ?_
    exact yq<|aD<|aD<|aC<|T_rz 9<|T_ne 2 [(0,vq d),(9,vs (some e) xN xC),(10,vi xN),(11,vi (zY (R+1)))]<|aR ((zY (R+1)):Int) sk h
   refine aJ 53 (zZ c16)<|T_rz 5<|T_nd 3 [4,53] [(35,vq d)] ?_
   obtain⟨s,q26,h⟩:=h
   refine T_l1 36 23 q26 [35] ?_
   obtain⟨ac,rfl,h⟩:=h
   refine T_nd 2 [36] [(38,vq ac)] ?_
   obtain⟨aa,q27,h⟩:=h
   refine T_l1 39 49 q27 [38] ?_
   obtain⟨r,rfl,h⟩:=h
   refine T_nd 2 [39] [(41,vq r)] ?_
   obtain⟨u,q28,h⟩:=h
   refine T_l1 42 52 q28 [41] ?_
   obtain⟨z,rfl,h⟩:=h
   refine T_nd 2 [42] [(44,vq z)] ?_
   obtain⟨p,q29,h⟩:=h
   refine T_l1 45 78 q29 [44]<|T_nd 1 [3] [(46,vi f)]<|T_c (some 47) h ?_;clear h
   rintro ax H9 ⟨ao,rfl,h⟩
   exact T_pd [45,46] []<|zq<|aD<|aD<|aC<|T_rz 9<|T_ed 2 [11] [(11,vi (zY (R+1)))]<|aR ((zY (R+1)):Int) sk h
  exact aI 48 (congrArg Bool.not (zZ c14))<|T_k<|aD<|aD<|aC<|T_rz 9<|T_ed 2 [3,4,11,48] [(11,vi (zY (R+1)))]<|aR ((zY (R+1)):Int) sk h
 exact aJ 12 (zQ c6)<|zz 0<|aA<|aA<|aM<|fx (fn:=f20) [] hQ (show dV _ _ _ [] _ from .nil) h
end eG
/-! moraine/weak.Prune -/
namespace eP
def K0:=Func.code f59
end eP
def eP.pt(tv:zW)(H:zV)(R:zj):Prop:=
 eK tv (
 R vT H) (λa=>
 cO.C (some a) H (λv H1=> ∃x,v=.bool x/\
 R (.bool x) H1))
namespace eP
theorem link(h:pt a H b):C a H b:=by
 refine T_en K0 9 func59 ?_
 intro w0 Q hQ
 unfold pt at h
 refine T_su [(0,vp a)]<|ar 0<|T_ed 1 [] []<|ar 1<|T_nd 1 [] [(3,vp a)] ?_
 rcases a with _ | R
 ·rw[onPtr_none]at h
  exact T_nr 6 [2] [vT] hQ h
 rw[onPtr_some]at h
 refine T_n 3 [(5,vF),(6,vq R)]<|T_c (some 7) h ?_;clear h
 rintro v H1 ⟨x,rfl,h⟩
 exact T_pd [6] [(7,.bool x)]<|T_nr 2 [2] [.bool x] hQ h
end eP
/-! moraine/weak.Guards.1 -/
namespace cS
def K0:=Func.code f61
def K2:=cb K0
def K3:=ca K2
end cS
def cS.pt(i:Int)(r j g:zW)(H:zV)(R:zj):Prop:=
 ∃m,r=some m/\
 ∃xB xN xC,hat H m=some (vs xB xN xC)/\
 ∃b,xB=some b/\
 zv i xN/\
 ∃x,hat H (b.add (Int.toNat i*1))=some (vi x)/\
 if x=1 then(
 ∃f,j=some f/\
 ∃p,hat H f=some (vp p)/\
 ∃d,g=some d/\
 ∃u n q,hat H d=some (vs u n q)/\
 ∃e,u=some e/\
 zv i n/\
 ∃s,hat H ((e.add (Int.toNat i*2)).add 1)=some (vu s)/\
 aX.C p s H (λv H1=> ∃o,v=.bool o/\
 R (.bool o) H1))
 else
 R vF H
namespace cS
theorem link{i:Int}{j g:zW}(h:pt i a j g H b):C i a j g H b:=by
 refine T_en K0 20 func61 ?_
 intro w0 Q hQ
 unfold pt at h
 refine T_su [(0,vi i),(1,vp a),(2,vp j),(3,vp g)]<|ar 0<|T_ed 1 [] []<|T_sz ?_
 obtain⟨m,rfl,xB,xN,xC,q1,r,rfl,q2,x,q3,h⟩:=h
 revert h;refine iO_ (λc4 h=>?_) (λc4 h=>?_)
 ·obtain⟨f,rfl,p,q6,d,rfl,u,n,q,q7,e,rfl,q8,s,q9,h⟩:=h
  refine yW 1 (Code.ops K3) [(12,m,[vs (some r) xN xC]),(12,(r.add (Int.toNat i*1)),[vi x]),(12,f,[vp p]),(12,d,[vs (some e) n q]),(12,((e.add (Int.toNat i*2)).add 1),[vu s])] 15 (bv 15 0) (show aH _ _ _ from⟨⟨q1,trivial⟩,⟨q3,trivial⟩,⟨q6,trivial⟩,⟨q7,trivial⟩,⟨q9,trivial⟩,trivial⟩)<|T_g 0 (some 6) (vs (some r) xN xC) (bv 15 1) [(0,vi i),(2,vp (some f)),(3,vp (some d)),(6,vs (some r) xN xC)] (aP 75 (vp (some m))) (yV 12 zw)<|aF 1 7 (vi i) (bv 15 3) []<|T_g1 2 8 (vp (some (r.add (Int.toNat i*1)))) (bv 15 7) [6,7] (bE 75 (vs (some r) xN xC) (vi i)) (λ_ w _ _ _=>eW (P:=prog) (t:=75) (elem:=3) (sz:=1) (a:=r) (len:=xN) (cap:=xC) (k:=.i64) (i:=i) underlying75 (λ_=>by kernel_rfl) q2.1 q2.2 w)<|T_g1 3 9 (vi x) (bv 15 15) [8] (aP 3 (vp (some (r.add (Int.toNat i*1))))) (yV 12 yZ)<|aF 4 10 (.bool (x==1)) (bv 15 31) [9]<|aF 5 11 (.bool (x==1)) (bv 15 63) [10]<|G_bd 11 (zK c4)<|T_g1 6 12 (vp p) (bv 15 127) [2] (aP 37 (vp (some f))) (yV 12 yX)<|T_g1 7 13 (vs (some e) n q) (bv 15 255) [3] (aP 31 (vp (some d))) (yV 12 yQ)<|aF 8 14 (vi i) (bv 15 511) [0]<|T_g1 9 15 (vp (some (e.add (Int.toNat i*2)))) (bv 15 1023) [13,14] (bE 31 (vs (some e) n q) (vi i)) (λ_ w _ _ _=>eW (P:=prog) (t:=31) (elem:=36) (sz:=2) (a:=e) (len:=n) (cap:=q) (k:=.i64) (i:=i) underlying31 (λ_=>by kernel_rfl) q8.1 q8.2 w)<|aF 10 16 (vp (some ((e.add (Int.toNat i*2)).add 1))) (bv 15 2047) [15]<|T_g1 11 17 (vu s) (bv 15 4095) [16] (aP 28 (vp (some ((e.add (Int.toNat i*2)).add 1)))) (yV 12 yJ)<|yY 12 (some 18) (bv 15 8191) 28 #[vp p,vu s] h ?_;clear h
  rintro v H1 ⟨o,rfl,h⟩
  refine⟨[(11,vT),(18,.bool o)],pk,(show aH _ _ _ from⟨trivial,trivial,trivial,trivial,trivial,trivial⟩),?_⟩
  exact T_g 13 (some 19) (.bool o) (bv 15 16383) [(19,.bool o)] (pure (.value (.bool o)):Sem Next) (λ_ _ _ _ _=>rfl)<|T_g1 14 5 (.bool o) (bv 15 32767) [19] (pure (.value (.bool o)):Sem Next) (λ_ _ _ _ _=>rfl)<|fm [(5,.bool o)] sk<|yq<|aC<|ff [5] [.bool o] hQ h
 exact yW 1 (Code.ops K3) [(15,m,[vs (some r) xN xC]),(15,(r.add (Int.toNat i*1)),[vi x])] 15 (bv 15 0) (show aH _ _ _ from⟨⟨q1,trivial⟩,⟨q3,trivial⟩,trivial⟩)<|T_g 0 (some 6) (vs (some r) xN xC) (bv 15 1) [(0,vi i),(2,vp j),(3,vp g),(6,vs (some r) xN xC)] (aP 75 (vp (some m))) (kt 15 (λ_=>by kernel_rfl) zw (.inr (by kernel_rfl)))<|aF 1 7 (vi i) (bv 15 3) []<|T_g1 2 8 (vp (some (r.add (Int.toNat i*1)))) (bv 15 7) [6,7] (bE 75 (vs (some r) xN xC) (vi i)) (λ_ w _ _ _=>eW (P:=prog) (t:=75) (elem:=3) (sz:=1) (a:=r) (len:=xN) (cap:=xC) (k:=.i64) (i:=i) underlying75 (λ_=>by kernel_rfl) q2.1 q2.2 w)<|T_g1 3 9 (vi x) (bv 15 15) [8] (aP 3 (vp (some (r.add (Int.toNat i*1))))) (kt 15 (λ_=>by kernel_rfl) yZ (.inr (by kernel_rfl)))<|aF 4 10 (.bool (x==1)) (bv 15 31) [9]<|aF 5 11 (.bool (x==1)) (bv 15 63) [10]<|G_bd 11 (zJ c4)<|kx 6 (some 12) (bv 15 127) [2] [(12,undef)]<|kx 7 (some 13) (bv 15 255) [3] [(13,undef)]<|kx 8 (some 14) (bv 15 511) [0] [(14,undef)]<|kx 9 (some 15) (bv 15 1023) [13,14] [(15,undef)]<|kx 10 (some 16) (bv 15 2047) [15] [(16,undef)]<|kx 11 (some 17) (bv 15 4095) [16] [(17,undef)]<|kx 12 (some 18) (bv 15 8191) [12,17] [(18,undef)]<|aF 13 19 (.bool false) (bv 15 16383) [11,18]<|aF 14 5 (.bool false) (bv 15 32767) [19]<|fm [(5,.bool false)] sk<|yq<|aC<|ff [5] [.bool false] hQ h
end cS
/-! moraine/weak.puts -/
namespace fE
def K0:=Func.code f62
end fE
def fE.pt(tv:zW)(a e:Int)(H:zV)(R:zj):Prop:=
 ∃b,tv=some b/\
 ∃x,hat H b=some (vp x)/\
 dL.C x a H (λv H1=> ∃j,v=vi j/\
 if j=10 then(
 ∃p,hat H1 b=some (vp p)/\
 ej.C p a H1 (λab H2=> ∃i,ab=vi i/\
 if i=2 then(
 dp.C (some b) e 20 H2 (λz H3=> ∃d,z=vu d/\
 if d=20 then(
 R (.tuple #[]) H3)
 else
 ∃o,hat H3 b=some (vp o)/\
 dm.C o a 10 1 H3 (λy H4=> ∃ra rb,y=.tuple #[vu ra,vi rb]/\
 ∃n,hat H4 b=some (vp n)/\
 dq.C n ra d H4 (λu H5=> ∃k,u=vi k/\
 if k=0 then(
 ∃m,hat H5 b=some (vp m)/\
 dt.C m a 10 1 d H5 (λac H6=> ∃s,ac=vi s/\
 R (.tuple #[]) H6))
 else
 ∃g,hat H5 b=some (vp g)/\
 dt.C g a 10 0 d H5 (λt H7=> ∃r,t=vi r/\
 ∃f,hat H7 b=some (vp f)/\
 dt.C f a 10 1 d H7 (λaa H8=> ∃q,aa=vi q/\
 R (.tuple #[]) H8))))))
 else
 R (.tuple #[]) H2))
 else
 R (.tuple #[]) H1)
namespace fE
theorem link{R e:Int}(h:pt a R e H b):C a R e H b:=by
 refine T_en K0 61 func62 ?_
 intro w0 Q hQ
 unfold pt at h
 refine T_su [(0,vp a),(1,vu R),(2,vu e)]<|T_sz<|ar 0<|T_nd 1 [] [(9,vp a)] ?_
 obtain⟨tv,rfl,h⟩:=h
 refine T_nd 2 [0,9] [(0,vq tv),(11,vq tv)] ?_
 obtain⟨x,q1,h⟩:=h
 refine T_l1 12 23 q1 [11]<|T_nd 1 [] [(13,vu R)]<|T_c (some 14) h ?_;clear h
 rintro v H1 ⟨j,rfl,h⟩
 refine T_pd [12,13] [(14,vi j)]<|T_nd 2 [14] [(16,.bool (j !=10))] ?_
 revert h;refine iO_ (λc2 h=>?_) (λc2 h=>?_)
 ·refine N_bd 16 (bne_eq_false_iff_eq.mpr c2)<|T_nd 3 [] [(19,vq tv)] ?_
  obtain⟨p,q4,h⟩:=h
  refine T_l1 20 23 q4 [19]<|T_nd 1 [] [(21,vu R)]<|T_c (some 22) h ?_;clear h
  rintro ab H2 ⟨i,rfl,h⟩
  refine T_pd [20,21] [(22,vi i)]<|T_ed 2 [16,22] [(24,.bool (i !=2))] ?_
  revert h;refine iO_ (λc5 h=>?_) (λc5 h=>?_)
  ·refine aJ 24 (bne_eq_false_iff_eq.mpr c5)<|T_kt<|ar 1<|T_nd 2 [2,24] [(25,vq tv),(26,vu e)]<|T_c (some 27) h ?_;clear h
   rintro z H3 ⟨d,rfl,h⟩
   refine T_pd [25,26] [(27,vu d)]<|T_ed 1 [27] [(6,vu d)]<|T_sz<|ar 2<|T_ed 2 [] [(29,.bool (d==20))] ?_
   revert h;refine iO_ (λc7 h=>?_) (λc7 h=>?_)
   ·exact aI 29 (zK c7)<|ff [] [] hQ h
   refine aJ 29 (zJ c7)<|T_kt<|T_sz<|ar 3<|T_nd 3 [29] [(33,vq tv)] ?_
   obtain⟨o,q9,h⟩:=h
   refine T_l1 34 23 q9 [33]<|T_nd 1 [] [(35,vu R)]<|T_c (some 36) h ?_;clear h
   rintro y H4 ⟨ra,rb,rfl,h⟩
   refine T_pd [34,35] [(36,.tuple #[vu ra,vi rb])]<|T_ed 5 [36] [(7,vu ra)]<|ar 4<|T_nd 3 [] [(41,vq tv)] ?_
   obtain⟨n,q10,h⟩:=h
   refine T_l1 42 23 q10 [41]<|T_nd 2 [7] [(43,vu ra),(44,vu d)]<|T_c (some 45) h ?_;clear h
   rintro u H5 ⟨k,rfl,h⟩
   refine T_pd [42,43,44] [(45,vi k)]<|T_ed 1 [45] [(46,.bool (k !=0))] ?_
   revert h;refine iO_ (λc11 h=>?_) (λc11 h=>?_)
   ·refine aJ 46 (bne_eq_false_iff_eq.mpr c11)<|T_kt<|T_rz 6<|T_nd 3 [0,46] [(56,vq tv)] ?_
    obtain⟨m,q13,h⟩:=h
    refine T_l1 57 23 q13 [56]<|T_nd 2 [1,6] [(58,vu R),(59,vu d)]<|T_c (some 60) h ?_;clear h
    rintro ac H6 ⟨s,rfl,h⟩
    refine⟨[],pk,?_⟩
    exact zq<|fx (fn:=f62) [] hQ (show dV _ _ _ [] _ from .nil) h
   refine aI 46 (bne_iff_ne.mpr c11)<|T_rz 5<|T_nd 3 [46] [(49,vq tv)] ?_
   obtain⟨g,q14,h⟩:=h
   refine T_l1 50 23 q14 [49]<|T_nd 2 [] [(51,vu R),(52,vu d)]<|T_c (some 53) h ?_;clear h
   rintro t H7 ⟨r,rfl,h⟩
   refine T_pd [50,51,52] []<|T_e<|T_rz 6<|T_nd 3 [0] [(56,vq tv)] ?_
   obtain⟨f,q15,h⟩:=h
   refine T_l1 57 23 q15 [56]<|T_nd 2 [1,6] [(58,vu R),(59,vu d)]<|T_c (some 60) h ?_;clear h
   rintro aa H8 ⟨q,rfl,h⟩
   refine⟨[],pk,?_⟩
   exact zq<|fx (fn:=f62) [] hQ (show dV _ _ _ [] _ from .nil) h
  exact aI 24 (bne_iff_ne.mpr c5)<|ff [] [] hQ h
 exact N_bd 16 (bne_iff_ne.mpr c2)<|T_ed 8 [16] [(24,vT)]<|T_tz 24<|ff [] [] hQ h
end fE
