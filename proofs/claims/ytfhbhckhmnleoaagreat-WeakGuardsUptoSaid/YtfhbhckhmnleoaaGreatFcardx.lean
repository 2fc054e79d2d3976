/- Printed: what each function asks, and that it is sound. -/
import Derived.Test.YtfhbhckhmnleoaaGreatFnsC
set_option linter.unusedSimpArgs false
set_option linter.unusedVariables false
set_option maxRecDepth 100000
set_option maxHeartbeats 1000000
noncomputable section
namespace Go.Proofs.YtfhbhckhmnleoaaGreat
open Go Go.Proofs.Tryz
variable{d:zk}{H:zV}{i z:zW}{j k v:Int}{o u A B:Nat}
/-! (*moraine/space.Space).Alloc -/
namespace bU
def K0:=Func.code f53
end bU
def bU.pt(s:zW)(d b nv:Int)(H:zV)(R:zk):Prop:=
 cX.C s H (λv H1=> ∃x,v=.bool x/\
 if x=true then(
 R (.tuple #[vi 0,vi 1]) H1)
 else
 iq.C d b nv H1 (λz H2=> ∃o,z=.bool o/\
 if o=true then(
 cE.C s d b H2 (λab H3=> ∃ra rb,ab=.tuple #[vi ra,.bool rb]/\
 ∃J:zV->Prop,(
 if rb=true then(
 ∃g,s=some g/\
 ∃r,hat H3 g=some (vp r)/\
 fI.C r ra nv H3 (λaa H8=> ∃j m,aa=.tuple #[vi j,vi m]/\
 if m=0 then(
 R (.tuple #[vi j,vi 0]) H8)
 else
 J H8))
 else
 J H3)/\ ∀H4,J H4->
 ∃sA,s=some sA/\
 ∃y,hat H4 sA=some (vp y)/\
 fY.C y d b H4 (λae H5=> ∃e f,ae=.tuple #[vi e,vi f]/\
 if f=0 then(
 zw d 5/\
 zw b 4/\
 (aN H5 (((sA.add 1).add (Int.toNat d*4)).add (Int.toNat b*1)) 0 1)/\ ∀H6,H6=aV H5 (((sA.add 1).add (Int.toNat d*4)).add (Int.toNat b*1)) [vi (zY (e+1))] 0->
 ∃u,hat H6 sA=some (vp u)/\
 fI.C u e nv H6 (λac H7=> ∃q p,ac=.tuple #[vi q,vi p]/\
 R (.tuple #[vi q,vi p]) H7))
 else
 R (.tuple #[vi 0,vi f]) H5)))
 else
 R (.tuple #[vi 0,vi 1]) H2))
namespace bU
theorem link(h:pt i j k v H d):C i j k v H d:=by
 refine T_en K0 77 func53 ?_
 intro w0 Q hQ
 unfold pt zY at h
 refine T_su [(0,vp i),(1,vi j),(2,vi k),(3,vi v)]<|aA 0<|T_ed 2 [] []<|T_sz<|aA 1<|T_nd 1 [] [(16,vp i)]<|T_c (some 17) h ?_;clear h
 rintro s H1 ⟨x,rfl,h⟩
 refine T_pd [16] [(17,.bool x)]<|T_nd 1 [17] [(18,.bool x)] ?_
 revert h;refine iO_ (λc1 h=>?_) (λc1 h=>?_)
 ·exact N_bd 18 c1<|T_ed 6 [18] [(24,vT)]<|T_tz 24<|aA 2<|T_nr 2 [8,9] [vi 0,vi 1] hQ h
 refine N_bd 18 (zZ c1)<|T_nd 3 [] [(19,vi j),(20,vi k),(21,vi v)] ?_
 refine T_c (some 22) h ?_;clear h
 rintro z H2 ⟨o,rfl,h⟩
 refine T_pd [19,20,21] [(22,.bool o)]<|T_ed 2 [18,22] [(24,.bool (!o))] ?_
 revert h;refine iO_ (λc3 h=>?_) (λc3 h=>?_)
 ·refine aJ 24 (congrArg Bool.not (c3))<|T_kt<|T_sz<|aA 3<|T_nd 3 [24] [(26,vp i),(27,vi j),(28,vi k)]<|T_c (some 29) h ?_;clear h
  rintro ab H3 ⟨ra,rb,rfl,h⟩
  refine T_pd [26,27,28] [(29,.tuple #[vi ra,.bool rb])]<|T_ed 5 [29] [(10,vi ra),(11,.bool rb)]<|aA 4<|T_ne 1 [(0,vp i),(1,vi j),(2,vi k),(3,vi v),(10,vi ra),(32,.bool rb)] ?_
  obtain⟨J,h,j6⟩:=h
  refine p8 (σ:=Unit) (λs_=> [(0,vp i),(1,vi j),(2,vi k),(3,vi v)]) (λs_ H=>J H) ?_ ?_
  ·rintro _ H4 j7
   replace h:=j6 H4 j7
   refine T_su [(0,vp i),(1,vi j),(2,vi k),(3,vi v)]<|aD<|aA 8<|T_nd 1 [] [(47,vp i)] ?_
   obtain⟨sA,rfl,h⟩:=h
   refine T_nd 2 [0,47] [(0,vq sA),(49,vq sA)] ?_
   obtain⟨y,q8,h⟩:=h
   refine T_l1 50 78 q8 [49]<|T_nd 2 [] [(51,vi j),(52,vi k)]<|T_c (some 53) h ?_;clear h
   rintro ae H5 ⟨e,f,rfl,h⟩
   refine T_pd [50,51,52] [(53,.tuple #[vi e,vi f])]<|T_ed 5 [53] [(14,vi e),(15,vi f)]<|T_sz<|aA 9<|T_ed 2 [] [(57,.bool (f !=0))] ?_
   revert h;refine iO_ (λc9 h=>?_) (λc9 h=>?_)
   ·refine aJ 57 (bne_eq_false_iff_eq.mpr c9)<|T_kt<|aA 11<|T_nd 7 [1,2,15,57] [(60,vi j),(61,vi k),(63,vi (zY (e+1))),(65,vq (sA.add 1))] ?_
    obtain⟨q11,h⟩:=h
    refine T_v1 66 (bA 80 (vq (sA.add 1)) (vi j)) (vq ((sA.add 1).add (Int.toNat j*4))) (λw _=>bK (P:=prog) (t:=80) (elem:=79) (sz:=4) (n:=5) (a:=(sA.add 1)) (k:=.i64) (i:=j) underlying80 (λ_=>by kernel_rfl) q11.1 q11.2 w) [60,65] ?_
    obtain⟨q12,h⟩:=h
    refine T_v1 67 (bA 79 (vq ((sA.add 1).add (Int.toNat j*4))) (vi k)) (vq (((sA.add 1).add (Int.toNat j*4)).add (Int.toNat k*1))) (λw _=>bK (P:=prog) (t:=79) (elem:=3) (sz:=1) (n:=4) (a:=((sA.add 1).add (Int.toNat j*4))) (k:=.i64) (i:=k) underlying79 (λ_=>by kernel_rfl) q12.1 q12.2 w) [61,66] ?_
    obtain⟨q14,h⟩:=h
    refine jf 3 (vi (zY (e+1))) q14 ?_
    intro H6 e13
    replace h:=h H6 e13
    refine T_pd [63,67] []<|T_e<|aA 12<|T_nd 3 [0] [(70,vq sA)] ?_
    obtain⟨u,q15,h⟩:=h
    refine T_l1 71 78 q15 [70]<|T_nd 2 [3,14] [(72,vi e),(73,vi v)]<|T_c (some 74) h ?_;clear h
    rintro ac H7 ⟨q,p,rfl,h⟩
    refine⟨[(74,.tuple #[vi q,vi p])],pk,?_⟩
    exact T_nr 4 [8,9] [vi q,vi p] hQ h
   exact aI 57 (bne_iff_ne.mpr c9)<|aA 10<|T_nr 3 [8,9] [vi 0,vi f] hQ h
  revert h;refine iO_ (λc16 h=>?_) (λc16 h=>?_)
  ·have b17:rb=true:=c16
   refine gD [(0,vp i),(1,vi j),(2,vi k),(3,vi v),(10,vi ra),(32,vT)] (by simp only[b17,Bool.not_true,Bool.not_false]) ?_
   clear b17
   refine T_tz 32<|aA 5<|T_nd 1 [32] [(34,vp i)] ?_
   obtain⟨g,rfl,h⟩:=h
   refine T_nd 2 [0,34] [(0,vq g),(36,vq g)] ?_
   obtain⟨r,q18,h⟩:=h
   refine T_l1 37 78 q18 [36]<|T_nd 2 [10] [(38,vi ra),(39,vi v)]<|T_c (some 40) h ?_;clear h
   rintro aa H8 ⟨nv,m,rfl,h⟩
   refine T_pd [37,38,39] [(40,.tuple #[vi nv,vi m])]<|T_ed 5 [40] [(12,vi nv),(13,vi m)]<|aA 6<|T_ed 2 [13] [(44,.bool (m==0))] ?_
   revert h;refine iO_ (λc19 h=>?_) (λc19 h=>?_)
   ·exact aI 44 (zK c19)<|aA 7<|T_nr 3 [8,9] [vi nv,vi 0] hQ h
   exact aJ 44 (zJ c19)<|T_kt<|jZ (():Unit) sk h
  have b17:rb=false:=zZ c16
  refine gD [(0,vp i),(1,vi j),(2,vi k),(3,vi v),(10,vi ra),(32,vF)] (by simp only[b17,Bool.not_true,Bool.not_false]) ?_
  clear b17
  exact T_fz 32<|T_kt<|jZ (():Unit) sk h
 exact aI 24 (congrArg Bool.not (zZ c3))<|aA 2<|T_nr 2 [8,9] [vi 0,vi 1] hQ h
end bU
/-! (*moraine/space.Space).none -/
namespace cX
def K0:=Func.code f67
end cX
def cX.pt(s:zW)(H:zV)(R:zk):Prop:=
 gM s (
 R vT H) (λsA=>
 ∃x,hat H sA=some (vp x)/\
 gM x (
 R vT H) (λxA=>
 R vF H))
namespace cX
theorem link(h:pt i H d):C i H d:=by
 refine T_en K0 12 func67 ?_
 intro w0 Q hQ
 unfold pt at h
 refine T_su [(0,vp i)]<|aA 0<|T_ed 1 [] []<|aA 1<|T_nd 1 [] [(3,vp i)] ?_
 rcases i with _ | sA
 ·rw[onPtr_none]at h
  exact T_nr 9 [2] [vT] hQ h
 rw[onPtr_some]at h
 refine T_n 5 [(5,vF),(8,vq sA)] ?_
 obtain⟨x,q1,h⟩:=h
 refine T_l1 9 78 q1 [8] ?_
 rcases x with _ | xA
 ·rw[onPtr_none]at h
  exact T_nr 3 [2] [vT] hQ h
 rw[onPtr_some]at h
 exact T_nr 3 [2] [vF] hQ h
end cX
/-! moraine/space.New -/
namespace ip
def K0:=Func.code f84
end ip
def ip.pt(a:Int)(H:zV)(R:zk):Prop:=
 jp.C a H (λv H1=> ∃ra rb,v=.tuple #[vp ra,vi rb]/\
 if rb=0 then(
 ∀b H2,b=H1.size->H2=H1.push (.cells #[vp ra,vi 0,vi 0,vi 0,vi 0,vi 0,vi 0,vi 0,vi 0,vi 0,vi 0,vi 0,vi 0,vi 0,vi 0,vi 0,vi 0,vi 0,vi 0,vi 0,vi 0] 82)->
 R (.tuple #[vq (ad b),vi 0]) H2)
 else
 R (.tuple #[vp none,vi rb]) H1)
namespace ip
theorem link(h:pt j H d):C j H d:=by
 refine T_en K0 17 func84 ?_
 intro w0 Q hQ
 unfold pt at h
 refine T_su [(0,vi j)]<|aA 0<|T_ed 2 [] []<|aA 1<|T_n 1 [(7,vi j)]<|T_c (some 8) h ?_;clear h
 rintro v H1 ⟨ra,rb,rfl,h⟩
 refine⟨[(8,.tuple #[vp ra,vi rb])],pk,?_⟩
 refine T_ne 5 [(4,vp ra),(5,vi rb)]<|T_sz<|aA 2<|T_ed 2 [] [(12,.bool (rb !=0))] ?_
 revert h;refine iO_ (λc1 h=>?_) (λc1 h=>?_)
 ·refine aJ 12 (bne_eq_false_iff_eq.mpr c1)<|T_kt<|aA 4<|T_n 2 [(15,.agg #[vp ra,vi 0,vi 0,vi 0,vi 0,vi 0,vi 0,vi 0,vi 0,vi 0,vi 0,vi 0,vi 0,vi 0,vi 0,vi 0,vi 0,vi 0,vi 0,vi 0,vi 0])]<|T_nw (some 16) (λb=>vp (pa b)) (.cells #[vp ra,vi 0,vi 0,vi 0,vi 0,vi 0,vi 0,vi 0,vi 0,vi 0,vi 0,vi 0,vi 0,vi 0,vi 0,vi 0,vi 0,vi 0,vi 0,vi 0,vi 0] 82) ?_
  intro b H2 e3 e4
  replace h:=h b H2 e3 e4
  refine⟨[(16,vp (pa b))],pk,?_⟩
  exact T_nr 2 [2,3] [vp (pa b),vi 0] hQ h
 exact aI 12 (bne_iff_ne.mpr c1)<|aA 3<|T_nr 3 [2,3] [vp none,vi rb] hQ h
end ip
/-! moraine/space.may -/
namespace iq
def K0:=Func.code f96
end iq
def iq.pt(b a nv:Int)(H:zV)(R:zk):Prop:=
 if((decide (b<0)) || (decide (b>4)))=true then(
 R vF H)
 else
 if((a==0) || (a==1))=true then(
 R (.bool (nv==2)) H)
 else
 R (.bool ((((a==2) || (a==3)) && (decide (nv>=1))) && (decide (nv<=63)))) H
namespace iq
theorem link{b a nv:Int}(h:pt b a nv H d):C b a nv H d:=by
 refine T_en K0 37 func96 ?_
 intro w0 Q hQ
 unfold pt at h
 refine T_su [(0,vi b),(1,vi a),(2,vi nv)]<|aA 0<|T_ed 1 [] []<|T_sz<|T_bz 0<|aA 1 ?_
 refine gz [(1,vi a),(2,vi nv),(7,.bool ((decide (b<0)) || (decide (b>4))))] ?_ ?_
 ·refine aD ?_
  revert h;refine iO_ (λc3 h=>?_) (λc3 h=>?_)
  ·exact aI 7 c3<|aA 2<|T_nr 1 [6] [vF] hQ h
  refine aJ 7 (zZ c3)<|aA 3 ?_
  refine gz [(1,vi a),(2,vi nv),(14,.bool ((a==0) || (a==1)))] ?_ ?_
  ·refine aD ?_
   revert h;refine iO_ (λc7 h=>?_) (λc7 h=>?_)
   ·exact aI 14 c7<|aA 4<|T_nr 3 [6] [.bool (nv==2)] hQ h
   refine aJ 14 (zZ c7)<|T_k<|aE<|aD<|aA 5 ?_
   refine gz [(6,.bool ((((a==2) || (a==3)) && (decide (nv>=1))) && (decide (nv<=63))))] ?_ ?_
   ·exact aD<|ia [6] [.bool ((((a==2) || (a==3)) && (decide (nv>=1))) && (decide (nv<=63)))] hQ h
   intro hk
   refine T_n 3 [(1,vi a),(2,vi nv),(25,.bool (a==2))] ?_
   by_cases c9:a=2
   ·have b10:(a==2)=true:=zK c9
    refine bG [(1,vi a),(2,vi nv),(25,vT)] (by rw[b10]) ?_
    refine T_nd 8 [1,25] [(33,.bool (decide (nv>=1)))] ?_
    by_cases c11:nv>=1
    ·have b12:(decide (nv>=1))=true:=zX c11
     refine N_bd 33 b12<|T_n 4 [(6,.bool (decide (nv<=63)))] ?_
     refine zq<|gD [(6,.bool ((((a==2) || (a==3)) && (decide (nv>=1))) && (decide (nv<=63))))] (by simp only[b10,b12,BL]) ?_
     exact hk
    have b12:(decide (nv>=1))=false:=zQ c11
    refine N_bd 33 b12<|T_n 4 [(6,vF)] ?_
    refine zq<|gD [(6,.bool ((((a==2) || (a==3)) && (decide (nv>=1))) && (decide (nv<=63))))] (by simp only[b10,b12,BL]) ?_
    exact hk
   have b10:(a==2)=false:=zJ c9
   refine bG [(1,vi a),(2,vi nv),(25,vF)] (by rw[b10]) ?_
   refine T_nd 4 [1,25] [(29,.bool (a==3))] ?_
   by_cases c13:a=3
   ·have b14:(a==3)=true:=zK c13
    refine N_bd 29 b14<|T_nd 4 [29] [(33,.bool (decide (nv>=1)))] ?_
    by_cases c15:nv>=1
    ·have b16:(decide (nv>=1))=true:=zX c15
     refine N_bd 33 b16<|T_n 4 [(6,.bool (decide (nv<=63)))] ?_
     refine zq<|gD [(6,.bool ((((a==2) || (a==3)) && (decide (nv>=1))) && (decide (nv<=63))))] (by simp only[b10,b14,b16,BL]) ?_
     exact hk
    have b16:(decide (nv>=1))=false:=zQ c15
    refine N_bd 33 b16<|T_n 4 [(6,vF)] ?_
    refine zq<|gD [(6,.bool ((((a==2) || (a==3)) && (decide (nv>=1))) && (decide (nv<=63))))] (by simp only[b10,b14,b16,BL]) ?_
    exact hk
   have b14:(a==3)=false:=zJ c13
   refine N_bd 29 b14<|T_n 8 [(6,vF)] ?_
   refine zq<|gD [(6,.bool ((((a==2) || (a==3)) && (decide (nv>=1))) && (decide (nv<=63))))] (by simp only[b10,b14,BL]) ?_
   exact hk
  intro hk
  refine T_n 3 [(1,vi a),(2,vi nv),(17,.bool (a==0))] ?_
  by_cases c5:a=0
  ·have b6:(a==0)=true:=zK c5
   refine bG [(1,vi a),(2,vi nv),(17,vT)] (by rw[b6]) ?_
   refine T_nd 4 [17] [(14,vT)]<|zq<|S_bd 14 (b:=true) (v:=((a==0) || (a==1))) (by simp only[b6,BL]) ?_
   exact hk
  have b6:(a==0)=false:=zJ c5
  refine bG [(1,vi a),(2,vi nv),(17,vF)] (by rw[b6]) ?_
  refine T_nd 4 [17] [(14,.bool (a==1))]<|zq<|S_bd 14 (b:=(a==1)) (v:=((a==0) || (a==1))) (by simp only[b6,BL]) ?_
  exact hk
 intro hk
 refine T_n 3 [(0,vi b),(1,vi a),(2,vi nv),(10,.bool (decide (b<0)))] ?_
 by_cases c1:b<0
 ·have b2:(decide (b<0))=true:=zX c1
  refine bG [(0,vi b),(1,vi a),(2,vi nv),(10,vT)] (by rw[b2]) ?_
  refine T_nd 4 [0,10] [(7,vT)]<|zq<|S_bd 7 (b:=true) (v:=((decide (b<0)) || (decide (b>4)))) (by simp only[b2,BL]) ?_
  exact hk
 have b2:(decide (b<0))=false:=zQ c1
 refine bG [(0,vi b),(1,vi a),(2,vi nv),(10,vF)] (by rw[b2]) ?_
 refine T_nd 4 [0,10] [(7,.bool (decide (b>4)))]<|zq<|S_bd 7 (b:=(decide (b>4))) (v:=((decide (b<0)) || (decide (b>4)))) (by simp only[b2,BL]) ?_
 exact hk
end iq
/-! (*moraine/space.Space).Current -/
namespace cE
def K0:=Func.code f97
end cE
def cE.pt(s:zW)(d b:Int)(H:zV)(R:zk):Prop:=
 gM s (
 R (.tuple #[vi 0,vF]) H) (λsA=>
 if d<0 then(
 R (.tuple #[vi 0,vF]) H)
 else
 if d>4 then(
 R (.tuple #[vi 0,vF]) H)
 else
 if b<0 then(
 R (.tuple #[vi 0,vF]) H)
 else
 if b>3 then(
 R (.tuple #[vi 0,vF]) H)
 else
 zw d 5/\
 zw b 4/\
 ∃x,hat H (((sA.add 1).add (Int.toNat d*4)).add (Int.toNat b*1))=some (vi x)/\
 if x=0 then(
 R (.tuple #[vi 0,vF]) H)
 else
 zw d 5/\
 zw b 4/\
 ∃e,hat H (((sA.add 1).add (Int.toNat d*4)).add (Int.toNat b*1))=some (vi e)/\
 R (.tuple #[vi (zY (e-1)),vT]) H)
namespace cE
theorem link(h:pt i j k H d):C i j k H d:=by
 refine T_en K0 46 func97 ?_
 intro w0 Q hQ
 unfold pt zY at h
 refine T_su [(0,vp i),(1,vi j),(2,vi k)]<|aA 0<|T_ed 2 [] []<|T_sz<|aA 1<|T_nd 1 [] [(8,vp i)] ?_
 rcases i with _ | sA
 ·rw[onPtr_none]at h
  exact T_ed 28 [0,8] [(0,vp none),(36,vT)]<|T_tz 36<|aA 2<|T_nr 2 [6,7] [vi 0,vF] hQ h
 rw[onPtr_some]at h
 refine T_nd 6 [0,8] [(0,vq sA),(14,.bool (decide (j<0)))] ?_
 revert h;refine iO_ (λc1 h=>?_) (λc1 h=>?_)
 ·exact N_bd 14 (zX c1)<|T_ed 22 [14] [(36,vT)]<|T_tz 36<|aA 2<|T_nr 2 [6,7] [vi 0,vF] hQ h
 refine N_bd 14 (zQ c1)<|T_nd 4 [14] [(18,.bool (decide (j>4)))] ?_
 revert h;refine iO_ (λc3 h=>?_) (λc3 h=>?_)
 ·exact N_bd 18 (zX c3)<|T_ed 18 [18] [(36,vT)]<|T_tz 36<|aA 2<|T_nr 2 [6,7] [vi 0,vF] hQ h
 refine N_bd 18 (zQ c3)<|T_nd 4 [18] [(22,.bool (decide (k<0)))] ?_
 revert h;refine iO_ (λc5 h=>?_) (λc5 h=>?_)
 ·exact N_bd 22 (zX c5)<|T_ed 14 [22] [(36,vT)]<|T_tz 36<|aA 2<|T_nr 2 [6,7] [vi 0,vF] hQ h
 refine N_bd 22 (zQ c5)<|T_nd 4 [22] [(26,.bool (decide (k>3)))] ?_
 revert h;refine iO_ (λc7 h=>?_) (λc7 h=>?_)
 ·exact N_bd 26 (zX c7)<|T_ed 10 [26] [(36,vT)]<|T_tz 36<|aA 2<|T_nr 2 [6,7] [vi 0,vF] hQ h
 refine N_bd 26 (zQ c7)<|T_nd 5 [] [(28,vi j),(29,vi k),(31,vq (sA.add 1))] ?_
 obtain⟨q9,h⟩:=h
 refine T_v1 32 (bA 80 (vq (sA.add 1)) (vi j)) (vq ((sA.add 1).add (Int.toNat j*4))) (λw _=>bK (P:=prog) (t:=80) (elem:=79) (sz:=4) (n:=5) (a:=(sA.add 1)) (k:=.i64) (i:=j) underlying80 (λ_=>by kernel_rfl) q9.1 q9.2 w) [28,31] ?_
 obtain⟨q10,h⟩:=h
 refine T_v1 33 (bA 79 (vq ((sA.add 1).add (Int.toNat j*4))) (vi k)) (vq (((sA.add 1).add (Int.toNat j*4)).add (Int.toNat k*1))) (λw _=>bK (P:=prog) (t:=79) (elem:=3) (sz:=1) (n:=4) (a:=((sA.add 1).add (Int.toNat j*4))) (k:=.i64) (i:=k) underlying79 (λ_=>by kernel_rfl) q10.1 q10.2 w) [29,32] ?_
 obtain⟨x,q11,h⟩:=h
 refine T_l1 34 3 q11 [33]<|T_ed 2 [26,34] [(36,.bool (x==0))] ?_
 revert h;refine iO_ (λc12 h=>?_) (λc12 h=>?_)
 ·exact aI 36 (zK c12)<|aA 2<|T_nr 2 [6,7] [vi 0,vF] hQ h
 refine aJ 36 (zJ c12)<|T_kt<|aA 3<|T_n 5 [(38,vi j),(39,vi k),(41,vq (sA.add 1))] ?_
 obtain⟨q14,h⟩:=h
 refine T_v1 42 (bA 80 (vq (sA.add 1)) (vi j)) (vq ((sA.add 1).add (Int.toNat j*4))) (λw _=>bK (P:=prog) (t:=80) (elem:=79) (sz:=4) (n:=5) (a:=(sA.add 1)) (k:=.i64) (i:=j) underlying80 (λ_=>by kernel_rfl) q14.1 q14.2 w) [38,41] ?_
 obtain⟨q15,h⟩:=h
 refine T_v1 43 (bA 79 (vq ((sA.add 1).add (Int.toNat j*4))) (vi k)) (vq (((sA.add 1).add (Int.toNat j*4)).add (Int.toNat k*1))) (λw _=>bK (P:=prog) (t:=79) (elem:=3) (sz:=1) (n:=4) (a:=((sA.add 1).add (Int.toNat j*4))) (k:=.i64) (i:=k) underlying79 (λ_=>by kernel_rfl) q15.1 q15.2 w) [39,42] ?_
 obtain⟨e,q16,h⟩:=h
 exact T_l1 44 3 q16 [43]<|T_nr 3 [6,7] [vi (zY (e-1)),vT] hQ h
end cE
/-! moraine/card.New -/
namespace iM
def K0:=Func.code f40
end iM
def iM.pt(a:Int)(H:zV)(R:zk):Prop:=
 ip.C a H (λv H1=> ∃ra rb,v=.tuple #[vp ra,vi rb]/\
 if rb=0 then(
 ∀b H2,b=H1.size->H2=H1.push (.cells #[vp ra] 54)->
 R (.tuple #[vq (ad b),vi 0]) H2)
 else
 R (.tuple #[vp none,vi rb]) H1)
namespace iM
theorem link(h:pt j H d):C j H d:=by
 refine T_en K0 17 func40 ?_
 intro w0 Q hQ
 unfold pt at h
 refine T_su [(0,vi j)]<|aA 0<|T_ed 2 [] []<|aA 1<|T_n 1 [(7,vi j)]<|T_c (some 8) h ?_;clear h
 rintro v H1 ⟨ra,rb,rfl,h⟩
 refine⟨[(8,.tuple #[vp ra,vi rb])],pk,?_⟩
 refine T_ne 5 [(4,vp ra),(5,vi rb)]<|T_sz<|aA 2<|T_ed 2 [] [(12,.bool (rb !=0))] ?_
 revert h;refine iO_ (λc1 h=>?_) (λc1 h=>?_)
 ·refine aJ 12 (bne_eq_false_iff_eq.mpr c1)<|T_kt<|aA 4<|T_n 2 [(15,.agg #[vp ra])]<|T_nw (some 16) (λb=>vp (pa b)) (.cells #[vp ra] 54) ?_
  intro b H2 e3 e4
  replace h:=h b H2 e3 e4
  refine⟨[(16,vp (pa b))],pk,?_⟩
  exact T_nr 2 [2,3] [vp (pa b),vi 0] hQ h
 exact aI 12 (bne_iff_ne.mpr c1)<|aA 3<|T_nr 3 [2,3] [vp none,vi rb] hQ h
end iM
/-! (*moraine/card.Cards).Gen -/
namespace fj
def K0:=Func.code f80
end fj
def fj.pt(c:zW)(wv:Int)(H:zV)(R:zk):Prop:=
 fS.C wv H (λv H1=> ∃ra rb,v=.tuple #[vi ra,.bool rb]/\
 cF.C c H1 (λr H2=> ∃x,r=.bool x/\
 if x=true then(
 R (.tuple #[vi 0,vF]) H2)
 else
 if rb=true then(
 fM.C wv H2 (λs H3=> ∃m,s=vi m/\
 if m=6 then(
 R (.tuple #[vi 0,vF]) H3)
 else
 ∃cA,c=some cA/\
 ∃q,hat H3 cA=some (vp q)/\
 ∃p,q=some p/\
 ∃o,hat H3 p=some (vp o)/\
 bB.C o (zY (Int.tdiv ra 64)) H3 (λt H4=> ∃j g k e f a d i,t=.tuple #[.agg #[vi j,vi g,vi k,vi e,vi f,vi a,vi d],.bool i]/\
 ∀b H5,b=H4.size->H5=H4.push (.cells #[vi 0,vi 0,vi 0,vi 0,vi 0,vi 0,vi 0] 108)->
 (aN H5 (ad b) 0 7)/\ ∀H6,H6=aV H5 (ad b) [vi j,vi g,vi k,vi e,vi f,vi a,vi d] 0->
 ∃n,hat H6 (ad b)=some (vi n)/\
 R (.tuple #[vi n,.bool i]) H6)))
 else
 R (.tuple #[vi 0,vF]) H2))
namespace fj
theorem link(h:pt i j H d):C i j H d:=by
 refine T_en K0 41 func80 ?_
 intro w0 Q hQ
 unfold pt zY at h
 refine T_su [(0,vp i),(1,vu j)]<|aA 0<|T_ed 2 [] []<|aA 1<|T_nd 1 [] [(10,vu j)]<|T_c (some 11) h ?_;clear h
 rintro v H1 ⟨ra,rb,rfl,h⟩
 refine T_pd [10] [(11,.tuple #[vi ra,.bool rb])]<|T_ed 5 [11] [(6,vi ra),(7,.bool rb)]<|T_sz<|aA 2<|T_nd 1 [] [(14,vp i)]<|T_c (some 15) h ?_;clear h
 rintro r H2 ⟨x,rfl,h⟩
 refine T_pd [14] [(15,.bool x)]<|T_nd 1 [15] [(16,.bool x)] ?_
 revert h;refine iO_ (λc1 h=>?_) (λc1 h=>?_)
 ·exact N_bd 16 c1<|T_ed 8 [1,7,16] [(24,vT)]<|T_tz 24<|aA 3<|T_nr 2 [4,5] [vi 0,vF] hQ h
 refine N_bd 16 (zZ c1)<|T_nd 4 [7,16] [(20,.bool (!rb))] ?_
 revert h;refine iO_ (λc3 h=>?_) (λc3 h=>?_)
 ·have b4:(!rb)=false:=congrArg Bool.not (c3)
  have b42:rb=true:=c3
  refine N_bd 20 (b:=(!rb)) (v:=false) (by simp only[b4,b42,Bool.not_true,Bool.not_false]) ?_
  clear b4 b42
  refine T_nd 1 [1] [(21,vu j)]<|T_c (some 22) h ?_;clear h
  rintro s H3 ⟨m,rfl,h⟩
  refine T_pd [21] [(22,vi m)]<|T_ed 2 [20,22] [(24,.bool (m==6))] ?_
  revert h;refine iO_ (λc5 h=>?_) (λc5 h=>?_)
  ·exact aI 24 (zK c5)<|aA 3<|T_nr 2 [4,5] [vi 0,vF] hQ h
  refine aJ 24 (zJ c5)<|T_kt<|aA 4<|T_nd 1 [0,24] [(26,vp i)] ?_
  obtain⟨cA,rfl,h⟩:=h
  refine T_nd 2 [26] [(28,vq cA)] ?_
  obtain⟨q,q7,h⟩:=h
  refine T_l1 29 52 q7 [28] ?_
  obtain⟨p,rfl,h⟩:=h
  refine T_nd 2 [29] [(31,vq p)] ?_
  obtain⟨o,q8,h⟩:=h
  refine T_l1 32 78 q8 [31]<|T_nd 2 [6] [(34,vi (zY (Int.tdiv ra 64)))]<|T_c (some 35) h ?_;clear h
  rintro t H4 ⟨c,g,k,e,f,a,R,wv,rfl,h⟩
  refine⟨[(35,.tuple #[.agg #[vi c,vi g,vi k,vi e,vi f,vi a,vi R],.bool wv])],pk,?_⟩
  refine T_n 3 [(36,.agg #[vi c,vi g,vi k,vi e,vi f,vi a,vi R]),(37,.bool wv)]<|T_nw (some 8) (λb=>vp (pa b)) (.cells #[vi 0,vi 0,vi 0,vi 0,vi 0,vi 0,vi 0] 108) ?_
  intro b H5 e9 e10
  replace h:=h b H5 e9 e10
  refine T_pd [] [(8,vp (pa b))] ?_
  obtain⟨q12,h⟩:=h
  refine fL 108 [vi c,vi g,vi k,vi e,vi f,vi a,vi R] q12 ?_
  intro H6 e11
  replace h:=h H6 e11
  refine T_pd [36] []<|T_ed 1 [37] [(7,.bool wv)]<|aA 5<|T_nd 1 [8] [(38,vp (pa b))] ?_
  obtain⟨n,q13,h⟩:=h
  exact T_l1 39 3 q13 [38]<|T_nr 3 [4,5] [vi n,.bool wv] hQ h
 have b4:(!rb)=true:=congrArg Bool.not (zZ c3)
 have b42:rb=false:=zZ c3
 refine N_bd 20 (b:=(!rb)) (v:=true) (by simp only[b4,b42,Bool.not_true,Bool.not_false]) ?_
 clear b4 b42
 exact T_ed 4 [1,20] [(24,vT)]<|T_tz 24<|aA 3<|T_nr 2 [4,5] [vi 0,vF] hQ h
end fj
/-! (*moraine/card.Cards).none -/
namespace cF
def K0:=Func.code f92
end cF
def cF.pt(c:zW)(H:zV)(R:zk):Prop:=
 gM c (
 R vT H) (λcA=>
 ∃x,hat H cA=some (vp x)/\
 gM x (
 R vT H) (λxA=>
 ∃b,hat H cA=some (vp b)/\
 ∃d,b=some d/\
 ∃a,hat H d=some (vp a)/\
 gM a (
 R vT H) (λe=>
 R vF H)))
namespace cF
theorem link(h:pt i H d):C i H d:=by
 refine T_en K0 22 func92 ?_
 intro w0 Q hQ
 unfold pt at h
 refine T_su [(0,vp i)]<|aA 0<|T_ed 1 [] []<|aA 1<|T_nd 1 [] [(3,vp i)] ?_
 rcases i with _ | cA
 ·rw[onPtr_none]at h
  exact T_nr 19 [2] [vT] hQ h
 rw[onPtr_some]at h
 refine T_n 5 [(0,vq cA),(5,vF),(8,vq cA)] ?_
 obtain⟨x,q1,h⟩:=h
 refine T_l1 9 52 q1 [8] ?_
 rcases x with _ | xA
 ·rw[onPtr_none]at h
  exact T_nr 13 [2] [vT] hQ h
 rw[onPtr_some]at h
 refine T_n 6 [(12,vF),(15,vq cA)] ?_
 obtain⟨b,q2,h⟩:=h
 refine T_l1 16 52 q2 [15] ?_
 obtain⟨R,rfl,h⟩:=h
 refine T_nd 2 [16] [(18,vq R)] ?_
 obtain⟨a,q3,h⟩:=h
 refine T_l1 19 78 q3 [18] ?_
 rcases a with _ | e
 ·rw[onPtr_none]at h
  exact T_nr 3 [2] [vT] hQ h
 rw[onPtr_some]at h
 exact T_nr 3 [2] [vF] hQ h
end cF
/-! (*moraine/card.Cards).younger -/
namespace bY
def K0:=Func.code f107
end bY
def bY.pt(c:zW)(k i sN d g e f wv a:Int)(H:zV)(R:zk):Prop:=
 ∀b H1,b=H.size->H1=H.push (.cells #[vi k,vi i,vi sN,vi d,vi g,vi e,vi f] 108)->
 fj.C c wv H1 (λv H2=> ∃ra rb,v=.tuple #[vi ra,.bool rb]/\
 if rb=true then(
 ∃x,hat H2 ((ad b).add 1)=some (vi x)/\
 if x=3 then(
 R (vi a) H2)
 else
 ∃j,hat H2 (ad b)=some (vi j)/\
 if ra<j then(
 R (vi (if ra<a then ra else a)) H2)
 else
 R (vi a) H2)
 else
 R (vi a) H2)
namespace bY
theorem link{R g e f wv a:Int}(h:pt i j k v R g e f wv a H d):C i j k v R g e f wv a H d:=by
 refine T_en K0 33 func107 ?_
 intro w0 Q hQ
 unfold pt at h
 refine T_su [(0,vp i),(1,.agg #[vi j,vi k,vi v,vi R,vi g,vi e,vi f]),(2,vu wv),(3,vi a)]<|aA 0<|T_nw (some 5) (λb=>vp (pa b)) (.cells #[vi j,vi k,vi v,vi R,vi g,vi e,vi f] 108) ?_
 intro b H1 e1 e2
 replace h:=h b H1 e1 e2
 refine T_pd [1] [(5,vp (pa b))]<|T_ed 1 [] []<|T_sz<|aA 1<|T_nd 2 [0,2] [(12,vp i),(13,vu wv)]<|T_c (some 14) h ?_;clear h
 rintro c H2 ⟨ra,rb,rfl,h⟩
 refine T_pd [12,13] [(14,.tuple #[vi ra,.bool rb])]<|T_ed 5 [14] [(9,vi ra),(10,.bool rb)]<|aA 2<|T_nd 2 [10] [(18,.bool rb)] ?_
 revert h;refine iO_ (λc3 h=>?_) (λc3 h=>?_)
 ·refine N_bd 18 c3<|T_nd 1 [] [(19,vq ((ad b).add 1))] ?_
  obtain⟨x,q5,h⟩:=h
  refine T_l1 20 3 q5 [19]<|T_nd 3 [18,20] [(23,.bool (x !=3))] ?_
  revert h;refine iO_ (λc6 h=>?_) (λc6 h=>?_)
  ·exact N_bd 23 (bne_eq_false_iff_eq.mpr c6)<|T_ed 5 [5,23] [(28,vF)]<|T_fz 28<|T_kt<|aA 4<|T_nr 2 [8] [vi a] hQ h
  refine N_bd 23 (bne_iff_ne.mpr c6)<|T_nd 2 [5] [(24,vi ra),(25,vp (pa b))] ?_
  obtain⟨sN,q8,h⟩:=h
  refine T_l1 26 3 q8 [25]<|T_ed 2 [23,24,26] [(28,.bool (decide (ra<sN)))] ?_
  revert h;refine iO_ (λc9 h=>?_) (λc9 h=>?_)
  ·exact aI 28 (zX c9)<|aA 3<|T_nr 4 [8] [vi (if ra<a then ra else a)] hQ h
  exact aJ 28 (zQ c9)<|T_kt<|aA 4<|T_nr 2 [8] [vi a] hQ h
 exact N_bd 18 (zZ c3)<|T_ed 10 [5,18] [(28,vF)]<|T_fz 28<|T_kt<|aA 4<|T_nr 2 [8] [vi a] hQ h
end bY
/-! (*moraine/card.Cards).Store -/
namespace cY
def K0:=Func.code f133
def K2:=cb K0
def K4:=cb K2
def K12:=cb K4
def K20:=cb K12
def K22:=cb K20
def K23:=ca K22
end cY
def cY.pt(c:zW)(d wv:Int)(H:zV)(R:zk):Prop:=
 cF.C c H (λv H1=> ∃x,v=.bool x/\
 if x=true then(
 R (vi 18) H1)
 else
 ∃cA,c=some cA/\
 ∃aj,hat H1 cA=some (vp aj)/\
 ∃ak,aj=some ak/\
 ∃ai,hat H1 ak=some (vp ai)/\
 bM.C ai d wv H1 (λao H2=> ∃ab,ao=vi ab/\
 if ab=0 then(
 ∃al,hat H2 cA=some (vp al)/\
 ∃am,al=some am/\
 ∃af,hat H2 am=some (vp af)/\
 bB.C af (zY (Int.tdiv d 64)) H2 (λap H3=> ∃aa s ae p q m o rb,ap=.tuple #[.agg #[vi aa,vi s,vi ae,vi p,vi q,vi m,vi o],.bool rb]/\
 ∀b H4,b=H3.size->H4=H3.push (.cells #[vi 0,vi 0,vi 0,vi 0,vi 0,vi 0,vi 0] 108)->
 (aN H4 (ad b) 0 7)/\ ∀H5,H5=aV H4 (ad b) [vi aa,vi s,vi ae,vi p,vi q,vi m,vi o] 0->
 ∃an,hat H5 cA=some (vp an)/\
 ∃z,an=some z/\
 ∃u,hat H5 z=some (vp u)/\
 ∃y r xN f j g e,aP H5 (ad b) 0 [vi y,vi r,vi xN,vi f,vi j,vi g,vi e]/\
 ((0:Int)<=(zY (Int.tdiv (Int.tmod d 64) 16))/\(zY (Int.tdiv (Int.tmod d 64) 16))< (4:Int))/\
 ∃ag,hat H5 (((ad b).add 3).add (Int.toNat (zY (Int.tdiv (Int.tmod d 64) 16))*1))=some (vi ag)/\
 bY.C (some cA) y r xN f j g e wv ag H5 (λaq H6=> ∃ah,aq=vi ah/\aP H6 cA 0 [vq z]/\aP H6 z 0 [vp u]/\
 fJ.C u (zY (Int.tdiv d 64)) (zY (Int.tdiv (Int.tmod d 64) 16)) ah H6 (λau H7=> ∃ac,au=vi ac/\
 R (vi ac) H7))))
 else
 R (vi ab) H2))
namespace cY
theorem link(h:pt i j k H d):C i j k H d:=by
 refine T_en K0 62 func133 ?_
 intro w0 Q hQ
 unfold pt zY at h
 refine T_su [(0,vp i),(1,vi j),(2,vu k)]<|aA 0<|T_ed 1 [] []<|T_sz<|aA 1<|T_nd 1 [] [(12,vp i)]<|T_c (some 13) h ?_;clear h
 rintro v H1 ⟨x,rfl,h⟩
 refine T_pd [12] [(13,.bool x)]<|T_e ?_
 revert h;refine iO_ (λc1 h=>?_) (λc1 h=>?_)
 ·exact aI 13 c1<|aA 2<|T_nr 1 [6] [vi 18] hQ h
 refine aJ 13 (zZ c1)<|T_kt<|T_sz<|aA 3<|T_nd 1 [13] [(14,vp i)] ?_
 obtain⟨cA,rfl,h⟩:=h
 refine T_nd 2 [0,14] [(0,vq cA),(16,vq cA)] ?_
 obtain⟨aj,q3,h⟩:=h
 refine T_l1 17 52 q3 [16] ?_
 obtain⟨ak,rfl,h⟩:=h
 refine T_nd 2 [17] [(19,vq ak)] ?_
 obtain⟨ai,q4,h⟩:=h
 refine T_l1 20 78 q4 [19]<|T_nd 2 [] [(21,vi j),(22,vu k)]<|T_c (some 23) h ?_;clear h
 rintro ao H2 ⟨ab,rfl,h⟩
 refine T_pd [20,21,22] [(23,vi ab)]<|T_ed 1 [23] [(7,vi ab)]<|aA 4<|T_ed 2 [] [(25,.bool (ab !=0))] ?_
 revert h;refine iO_ (λc5 h=>?_) (λc5 h=>?_)
 ·refine aJ 25 (bne_eq_false_iff_eq.mpr c5)<|T_kt<|aA 6<|T_ed 7 [1,7,25] [(8,vi (zY (Int.tdiv j 64))),(9,vi (zY (Int.tdiv (Int.tmod j 64) 16)))]<|aA 7<|T_nd 3 [] [(35,vq cA)] ?_
  obtain⟨al,q7,h⟩:=h
  refine T_l1 36 52 q7 [35] ?_
  obtain⟨am,rfl,h⟩:=h
  refine T_nd 2 [36] [(38,vq am)] ?_
  obtain⟨af,q8,h⟩:=h
  refine T_l1 39 78 q8 [38]<|T_nd 1 [] [(40,vi (zY (Int.tdiv j 64)))]<|T_c (some 41) h ?_;clear h
  rintro ap H3 ⟨aa,s,ae,p,q,m,o,rb,rfl,h⟩
  refine T_pd [39,40] [(41,.tuple #[.agg #[vi aa,vi s,vi ae,vi p,vi q,vi m,vi o],.bool rb])]<|T_nd 3 [41] [(42,.agg #[vi aa,vi s,vi ae,vi p,vi q,vi m,vi o]),(43,.bool rb)]<|T_nw (some 10) (λb=>vp (pa b)) (.cells #[vi 0,vi 0,vi 0,vi 0,vi 0,vi 0,vi 0] 108) ?_
  intro b H4 e9 e10
  replace h:=h b H4 e9 e10
  refine T_pd [] [(10,vp (pa b))] ?_
  obtain⟨q12,h⟩:=h
  refine fL 108 [vi aa,vi s,vi ae,vi p,vi q,vi m,vi o] q12 ?_
  intro H5 e11
  replace h:=h H5 e11
  refine T_pd [42] []<|T_ed 1 [43] []<|T_sz ?_
  obtain⟨an,q13,z,rfl,u,q14,y,r,xN,f,wv,g,e,q15,q16,ag,q17,h⟩:=h
  refine yY 8 (Code.ops K23) [(17,cA,[vp (some z)]),(17,z,[vp u]),(16,(ad b),[vi y,vi r,vi xN,vi f,vi wv,vi g,vi e]),(16,(((ad b).add 3).add (Int.toNat (zY (Int.tdiv (Int.tmod j 64) 16))*1)),[vi ag])] 19 (bv 19 0) (show aH _ _ _ from⟨⟨q13,trivial⟩,⟨q14,trivial⟩,q15,⟨q17,trivial⟩,trivial⟩)<|T_gp 0 (some 44) (vp (some cA)) (bv 19 1) [(0,vp (some cA)),(2,vu k),(8,vi (zY (Int.tdiv j 64))),(9,vi (zY (Int.tdiv (Int.tmod j 64) 16))),(10,vp (pa b)),(44,vp (some cA))]<|aF 1 45 (vp (some cA)) (bv 19 3) [44]<|aF 2 46 (vp (some cA)) (bv 19 7) [45]<|T_g1 3 47 (vp (some z)) (bv 19 15) [46] (aR 52 (vp (some cA))) (yW 17 yZ)<|aF 4 48 (vp (some z)) (bv 19 31) [47]<|aF 5 49 (vp (some z)) (bv 19 63) [48]<|T_g1 6 50 (vp u) (bv 19 127) [49] (aR 78 (vp (some z))) (yW 17 yX)<|aF 7 51 (vi (zY (Int.tdiv j 64))) (bv 19 255) [8]<|aF 8 52 (vi (zY (Int.tdiv (Int.tmod j 64) 16))) (bv 19 511) []<|aF 9 53 (vp (some cA)) (bv 19 1023) [0]<|T_g1 10 54 (.agg #[vi y,vi r,vi xN,vi f,vi wv,vi g,vi e]) (bv 19 2047) [] (aR 108 (vp (pa b))) (kr 16 (λ_=>by kernel_rfl) (λ_=>by kernel_rfl) yQ (.inl (by kernel_rfl)))<|aF 11 55 (vu k) (bv 19 4095) [2]<|aF 12 56 (vi (zY (Int.tdiv (Int.tmod j 64) 16))) (bv 19 8191) [9]<|aF 13 57 (vp (some ((ad b).add 3))) (bv 19 16383) [10]<|T_g1 14 58 (vp (some (((ad b).add 3).add (Int.toNat (zY (Int.tdiv (Int.tmod j 64) 16))*1)))) (bv 19 32767) [56,57] (bA 79 (vp (some ((ad b).add 3))) (vi (zY (Int.tdiv (Int.tmod j 64) 16)))) (λ_ w _ _ _=>bK (P:=prog) (t:=79) (elem:=3) (sz:=1) (n:=4) (a:=((ad b).add 3)) (k:=.i64) (i:=(zY (Int.tdiv (Int.tmod j 64) 16))) underlying79 (λ_=>by kernel_rfl) q16.1 q16.2 w)<|T_g1 15 59 (vi ag) (bv 19 65535) [58] (aR 3 (vp (some (((ad b).add 3).add (Int.toNat (zY (Int.tdiv (Int.tmod j 64) 16))*1))))) (yW 16 yJ)<|yq 16 (some 60) (bv 19 131071) 107 #[vp (some cA),.agg #[vi y,vi r,vi xN,vi f,vi wv,vi g,vi e],vu k,vi ag] h ?_;clear h
  rintro aq H6 ⟨ah,rfl,f18,f19,h⟩
  refine⟨[(50,vp u),(51,vi (zY (Int.tdiv j 64))),(52,vi (zY (Int.tdiv (Int.tmod j 64) 16))),(60,vi ah)],pk,(show aH _ _ _ from⟨f18,f19,trivial,trivial,trivial⟩),?_⟩
  refine yq 17 (some 61) (bv 19 262143) 108 #[vp u,vi (zY (Int.tdiv j 64)),vi (zY (Int.tdiv (Int.tmod j 64) 16)),vi ah] h ?_;clear h
  rintro au H7 ⟨ac,rfl,h⟩
  refine⟨[(61,vi ac)],pk,(show aH _ _ _ from⟨trivial,trivial,trivial,trivial,trivial⟩),?_⟩
  exact T_g 18 (some 6) (vi ac) (bv 19 524287) [(6,vi ac)] (pure (.value (vi ac)):Sem Next) (λ_ _ _ _ _=>rfl)<|fQ [(6,vi ac)] sk<|yx<|aD<|ia [6] [vi ac] hQ h
 exact aI 25 (bne_iff_ne.mpr c5)<|aA 5<|T_nr 2 [6] [vi ab] hQ h
end cY
/-! (*moraine/obj.Heap).Cons -/
namespace eV
def K0:=Func.code f11
end eV
def eV.pt(hv:zW)(d a:Int)(H:zV)(R:zk):Prop:=
 ∀b H1,b=H.size->H1=H.push (.cells #[vu d,vu a] 28)->
 eZ.C hv 0 1 (some (ad b)) 2 2 H1 (λv H2=> ∃ra rb,v=.tuple #[vu ra,vi rb]/\
 R (.tuple #[vu ra,vi rb]) H2)
namespace eV
theorem link(h:pt i j k H d):C i j k H d:=by
 refine T_en K0 15 func11 ?_
 intro w0 Q hQ
 unfold pt at h
 refine T_su [(0,vp i),(1,vu j),(2,vu k)]<|aA 0<|T_ed 2 [] []<|aA 1<|T_n 3 [(8,vp i),(9,vu j),(10,vu k)]<|T_nw (some 11) (λb=>vs (pa b) 2 2) (.cells #[vu j,vu k] 28) ?_
 intro b H1 e1 e2
 replace h:=h b H1 e1 e2
 refine T_pd [9,10] [(11,vs (pa b) 2 2)]<|T_c (some 12) h ?_;clear h
 rintro v H2 ⟨ra,rb,rfl,h⟩
 refine⟨[(12,.tuple #[vu ra,vi rb])],pk,?_⟩
 exact T_nr 4 [6,7] [vu ra,vi rb] hQ h
end eV
/-! (*moraine/obj.Heap).Car -/
namespace eF
def K0:=Func.code Tryz.f18
end eF
def eF.pt(hv:zW)(wv:Int)(H:zV)(R:zk):Prop:=
 eX.C hv wv 0 H (λv H1=> ∃ra rb,v=.tuple #[vu ra,vi rb]/\
 R (.tuple #[vu ra,vi rb]) H1)
namespace eF
theorem link(h:pt i j H d):C i j H d:=by
 refine T_en K0 11 func18 ?_
 intro w0 Q hQ
 unfold pt at h
 refine T_su [(0,vp i),(1,vu j)]<|aA 0<|T_ed 2 [] []<|aA 1<|T_n 2 [(6,vp i),(7,vu j)]<|T_c (some 8) h ?_;clear h
 rintro v H1 ⟨ra,rb,rfl,h⟩
 refine⟨[(8,.tuple #[vu ra,vi rb])],pk,?_⟩
 exact T_nr 4 [4,5] [vu ra,vi rb] hQ h
end eF
/-! (*moraine/obj.Heap).Weak -/
namespace eW
def K0:=Func.code Tryz.f19
end eW
def eW.pt(hv:zW)(d a:Int)(H:zV)(R:zk):Prop:=
 ∀b H1,b=H.size->H1=H.push (.cells #[vu d,vu a] 28)->
 eZ.C hv 1 2 (some (ad b)) 2 2 H1 (λv H2=> ∃ra rb,v=.tuple #[vu ra,vi rb]/\
 R (.tuple #[vu ra,vi rb]) H2)
namespace eW
theorem link(h:pt i j k H d):C i j k H d:=by
 refine T_en K0 15 func19 ?_
 intro w0 Q hQ
 unfold pt at h
 refine T_su [(0,vp i),(1,vu j),(2,vu k)]<|aA 0<|T_ed 2 [] []<|aA 1<|T_n 3 [(8,vp i),(9,vu j),(10,vu k)]<|T_nw (some 11) (λb=>vs (pa b) 2 2) (.cells #[vu j,vu k] 28) ?_
 intro b H1 e1 e2
 replace h:=h b H1 e1 e2
 refine T_pd [9,10] [(11,vs (pa b) 2 2)]<|T_c (some 12) h ?_;clear h
 rintro v H2 ⟨ra,rb,rfl,h⟩
 refine⟨[(12,.tuple #[vu ra,vi rb])],pk,?_⟩
 exact T_nr 4 [6,7] [vu ra,vi rb] hQ h
end eW
/-! (*moraine/obj.Heap).Cdr -/
namespace fW
def K0:=Func.code f21
end fW
def fW.pt(hv:zW)(wv:Int)(H:zV)(R:zk):Prop:=
 eX.C hv wv 1 H (λv H1=> ∃ra rb,v=.tuple #[vu ra,vi rb]/\
 R (.tuple #[vu ra,vi rb]) H1)
namespace fW
theorem link(h:pt i j H d):C i j H d:=by
 refine T_en K0 11 func21 ?_
 intro w0 Q hQ
 unfold pt at h
 refine T_su [(0,vp i),(1,vu j)]<|aA 0<|T_ed 2 [] []<|aA 1<|T_n 2 [(6,vp i),(7,vu j)]<|T_c (some 8) h ?_;clear h
 rintro v H1 ⟨ra,rb,rfl,h⟩
 refine⟨[(8,.tuple #[vu ra,vi rb])],pk,?_⟩
 exact T_nr 4 [4,5] [vu ra,vi rb] hQ h
end fW
/-! (*moraine/obj.Heap).Size -/
namespace fF
def K0:=Func.code f51
end fF
def fF.pt(hv:zW)(wv:Int)(H:zV)(R:zk):Prop:=
 eD.C hv wv H (λv H1=> ∃x,v=.bool x/\
 if x=true then(
 R (vi 2) H1)
 else
 bQ.C hv wv H1 (λa H2=> ∃ra rb rc rd re,a=.tuple #[vi ra,vi rb,vi rc,vu rd,.bool re]/\
 if re=true then(
 R (vi (zY (rc+1))) H2)
 else
 R (vi 0) H2))
namespace fF
theorem link(h:pt i j H d):C i j H d:=by
 refine T_en K0 25 func51 ?_
 intro w0 Q hQ
 unfold pt zY at h
 refine T_su [(0,vp i),(1,vu j)]<|aA 0<|T_ed 1 [] []<|T_sz<|aA 1<|T_nd 2 [] [(10,vp i),(11,vu j)]<|T_c (some 12) h ?_;clear h
 rintro v H1 ⟨x,rfl,h⟩
 refine T_pd [10,11] [(12,.bool x)]<|T_e ?_
 revert h;refine iO_ (λc1 h=>?_) (λc1 h=>?_)
 ·exact aI 12 c1<|aA 2<|T_nr 1 [4] [vi 2] hQ h
 refine aJ 12 (zZ c1)<|T_kt<|T_sz<|aA 3<|T_n 2 [(14,vp i),(15,vu j)]<|T_c (some 16) h ?_;clear h
 rintro a H2 ⟨ra,rb,rc,rd,re,rfl,h⟩
 refine⟨[(16,.tuple #[vi ra,vi rb,vi rc,vu rd,.bool re])],pk,?_⟩
 refine T_ne 11 [(7,vi rc),(9,.bool re)]<|aA 4<|T_ed 1 [9] [(22,.bool re)] ?_
 revert h;refine iO_ (λc3 h=>?_) (λc3 h=>?_)
 ·exact aI 22 c3<|aA 5<|T_nr 3 [4] [vi (zY (rc+1))] hQ h
 exact aJ 22 (zZ c3)<|T_kt<|aA 6<|T_nr 1 [4] [vi 0] hQ h
end fF
/-! (*moraine/obj.Heap).half -/
namespace eX
def K0:=Func.code f66
end eX
def eX.pt(hv:zW)(wv i:Int)(H:zV)(R:zk):Prop:=
 eE.C hv wv H (λv H1=> ∃ra rb,v=.tuple #[vi ra,.bool rb]/\
 if rb=true then(
 ∃f,hv=some f/\
 ∃x,hat H1 f=some (vp x)/\
 ∃xA,x=some xA/\
 ∃e,hat H1 xA=some (vp e)/\
 ∃g,e=some g/\
 ∃d,hat H1 g=some (vp d)/\
 bL.C d (zY (ra+i)) H1 (λj H2=> ∃a b,j=.tuple #[vu a,vi b]/\
 R (.tuple #[vu a,vi b]) H2))
 else
 R (.tuple #[vu 0,vi 3]) H1)
namespace eX
theorem link(h:pt i j k H d):C i j k H d:=by
 refine T_en K0 34 func66 ?_
 intro w0 Q hQ
 unfold pt zY at h
 refine T_su [(0,vp i),(1,vu j),(2,vi k)]<|aA 0<|T_ed 2 [] []<|aA 1<|T_nd 2 [1] [(11,vp i),(12,vu j)]<|T_c (some 13) h ?_;clear h
 rintro v H1 ⟨ra,rb,rfl,h⟩
 refine T_pd [11,12] [(13,.tuple #[vi ra,.bool rb])]<|T_ed 5 [13] [(8,vi ra),(9,.bool rb)]<|T_sz<|aA 2<|T_ed 2 [9] [(17,.bool (!rb))] ?_
 revert h;refine iO_ (λc1 h=>?_) (λc1 h=>?_)
 ·refine aJ 17 (congrArg Bool.not (c1))<|T_kt<|aA 4<|T_nd 1 [0,17] [(18,vp i)] ?_
  obtain⟨f,rfl,h⟩:=h
  refine T_nd 2 [18] [(20,vq f)] ?_
  obtain⟨x,q3,h⟩:=h
  refine T_l1 21 49 q3 [20] ?_
  obtain⟨xA,rfl,h⟩:=h
  refine T_nd 2 [21] [(23,vq xA)] ?_
  obtain⟨e,q4,h⟩:=h
  refine T_l1 24 52 q4 [23] ?_
  obtain⟨g,rfl,h⟩:=h
  refine T_nd 2 [24] [(26,vq g)] ?_
  obtain⟨R,q5,h⟩:=h
  refine T_l1 27 78 q5 [26]<|T_nd 3 [2,8] [(30,vi (zY (ra+k)))]<|T_c (some 31) h ?_;clear h
  rintro wv H2 ⟨a,b,rfl,h⟩
  refine⟨[(31,.tuple #[vu a,vi b])],pk,?_⟩
  exact T_nr 4 [6,7] [vu a,vi b] hQ h
 exact aI 17 (congrArg Bool.not (zZ c1))<|aA 3<|T_nr 2 [6,7] [vu 0,vi 3] hQ h
end eX
/-! (*moraine/obj.Heap).Pair -/
namespace eD
def K0:=Func.code f93
end eD
def eD.pt(hv:zW)(wv:Int)(H:zV)(R:zk):Prop:=
 eE.C hv wv H (λv H1=> ∃ra rb,v=.tuple #[vi ra,.bool rb]/\
 R (.bool rb) H1)
namespace eD
theorem link(h:pt i j H d):C i j H d:=by
 refine T_en K0 14 func93 ?_
 intro w0 Q hQ
 unfold pt at h
 refine T_su [(0,vp i),(1,vu j)]<|aA 0<|T_ed 1 [] []<|aA 1<|T_n 2 [(8,vp i),(9,vu j)]<|T_c (some 10) h ?_;clear h
 rintro v H1 ⟨ra,rb,rfl,h⟩
 refine⟨[(10,.tuple #[vi ra,.bool rb])],pk,?_⟩
 exact T_ne 5 [(6,.bool rb)]<|aA 2<|T_nr 2 [4] [.bool rb] hQ h
end eD
/-! (*moraine/obj.Heap).SetCdr -/
namespace dM
def K0:=Func.code f103
end dM
def dM.pt(hv:zW)(wv v:Int)(H:zV)(R:zk):Prop:=
 fK.C hv wv 1 v H (λa H1=> ∃x,a=vi x/\
 R (vi x) H1)
namespace dM
theorem link(h:pt i j k H d):C i j k H d:=by
 refine T_en K0 11 func103 ?_
 intro w0 Q hQ
 unfold pt at h
 refine T_su [(0,vp i),(1,vu j),(2,vu k)]<|aA 0<|T_ed 1 [] []<|aA 1<|T_n 3 [(7,vp i),(8,vu j),(9,vu k)]<|T_c (some 10) h ?_;clear h
 rintro a H1 ⟨x,rfl,h⟩
 refine⟨[(10,vi x)],pk,?_⟩
 exact T_nr 1 [6] [vi x] hQ h
end dM
/-! (*moraine/obj.Heap).pair -/
namespace eE
def K0:=Func.code f109
end eE
def eE.pt(hv:zW)(wv:Int)(H:zV)(R:zk):Prop:=
 fN.C hv wv 1 0 H (λv H1=> ∃ra rb,v=.tuple #[vi ra,.bool rb]/\
 if rb=true then(
 R (.tuple #[vi ra,.bool ((Int.tmod ra 2)==0)]) H1)
 else
 fN.C hv wv 2 1 H1 (λd H2=> ∃a b,d=.tuple #[vi a,.bool b]/\
 R (.tuple #[vi a,.bool (b && ((Int.tmod a 2)==0))]) H2))
namespace eE
theorem link(h:pt i j H d):C i j H d:=by
 refine T_en K0 29 func109 ?_
 intro w0 Q hQ
 unfold pt at h
 refine T_su [(0,vp i),(1,vu j)]<|aA 0<|T_ed 2 [] []<|aA 1<|T_nd 2 [] [(9,vp i),(10,vu j)]<|T_c (some 11) h ?_;clear h
 rintro v H1 ⟨ra,rb,rfl,h⟩
 refine T_pd [9,10] [(11,.tuple #[vi ra,.bool rb])]<|T_ed 5 [11] [(6,vi ra),(7,.bool rb)]<|T_sz<|aA 2<|T_ed 2 [] [(15,.bool (!rb))] ?_
 revert h;refine iO_ (λc1 h=>?_) (λc1 h=>?_)
 ·have b2:(!rb)=false:=congrArg Bool.not (c1)
  have b22:rb=true:=c1
  refine S_bd 7 (b:=rb) (v:=true) (by simp only[b2,b22,Bool.not_true,Bool.not_false])<|S_bd 15 (b:=(!rb)) (v:=false) (by simp only[b2,b22,Bool.not_true,Bool.not_false]) ?_
  clear b2 b22
  exact T_fz 15<|T_kt<|aA 4<|T_nr 9 [4,5] [vi ra,.bool ((Int.tmod ra 2)==0)] hQ h
 have b2:(!rb)=true:=congrArg Bool.not (zZ c1)
 have b22:rb=false:=zZ c1
 refine S_bd 7 (b:=rb) (v:=false) (by simp only[b2,b22,Bool.not_true,Bool.not_false])<|S_bd 15 (b:=(!rb)) (v:=true) (by simp only[b2,b22,Bool.not_true,Bool.not_false]) ?_
 clear b2 b22
 refine T_tz 15<|T_rz 3<|T_n 2 [(17,vp i),(18,vu j)]<|T_c (some 19) h ?_;clear h
 rintro R H2 ⟨a,b,rfl,h⟩
 refine⟨[(19,.tuple #[vi a,.bool b])],pk,?_⟩
 refine T_ne 5 [(6,vi a),(7,.bool b)]<|aA 4 ?_
 refine gz [(4,vi a),(5,.bool (b && ((Int.tmod a 2)==0)))] ?_ ?_
 ·exact aD<|ia [4,5] [vi a,.bool (b && ((Int.tmod a 2)==0))] hQ h
 intro hk
 refine T_n 3 [(6,vi a),(22,vi a),(24,.bool b)] ?_
 by_cases c3:b=true
 ·have b4:b=true:=c3
  refine bG [(6,vi a),(22,vi a),(24,vT)] (by rw[b4]) ?_
  refine T_n 6 [(4,vi a),(5,.bool ((Int.tmod a 2)==0))]<|zq<|gD [(4,vi a),(5,.bool (b && ((Int.tmod a 2)==0)))] (by simp only[b4,BL]) ?_
  exact hk
 have b4:b=false:=zZ c3
 refine bG [(6,vi a),(22,vi a),(24,vF)] (by rw[b4]) ?_
 refine T_n 6 [(4,vi a),(5,vF)]<|zq<|gD [(4,vi a),(5,.bool (b && ((Int.tmod a 2)==0)))] (by simp only[b4,BL]) ?_
 exact hk
end eE
/-! (*moraine/obj.Heap).SetCar -/
namespace eJ
def K0:=Func.code f111
end eJ
def eJ.pt(hv:zW)(wv v:Int)(H:zV)(R:zk):Prop:=
 fK.C hv wv 0 v H (λa H1=> ∃x,a=vi x/\
 R (vi x) H1)
namespace eJ
theorem link(h:pt i j k H d):C i j k H d:=by
 refine T_en K0 11 func111 ?_
 intro w0 Q hQ
 unfold pt at h
 refine T_su [(0,vp i),(1,vu j),(2,vu k)]<|aA 0<|T_ed 1 [] []<|aA 1<|T_n 3 [(7,vp i),(8,vu j),(9,vu k)]<|T_c (some 10) h ?_;clear h
 rintro a H1 ⟨x,rfl,h⟩
 refine⟨[(10,vi x)],pk,?_⟩
 exact T_nr 1 [6] [vi x] hQ h
end eJ
/-! (*moraine/obj.Heap).set -/
namespace fK
def K0:=Func.code f132
end fK
def fK.pt(hv:zW)(wv i v:Int)(H:zV)(R:zk):Prop:=
 eE.C hv wv H (λd H1=> ∃ra rb,d=.tuple #[vi ra,.bool rb]/\
 if rb=true then(
 ∃b,hv=some b/\
 ∃x,hat H1 b=some (vp x)/\
 cY.C x (zY (ra+i)) v H1 (λe H2=> ∃a,e=vi a/\
 R (vi a) H2))
 else
 R (vi 3) H1)
namespace fK
theorem link(h:pt i j k v H d):C i j k v H d:=by
 refine T_en K0 28 func132 ?_
 intro w0 Q hQ
 unfold pt zY at h
 refine T_su [(0,vp i),(1,vu j),(2,vi k),(3,vu v)]<|aA 0<|T_ed 1 [] []<|aA 1<|T_nd 2 [1] [(12,vp i),(13,vu j)]<|T_c (some 14) h ?_;clear h
 rintro R H1 ⟨ra,rb,rfl,h⟩
 refine T_pd [12,13] [(14,.tuple #[vi ra,.bool rb])]<|T_ed 5 [14] [(9,vi ra),(10,.bool rb)]<|T_sz<|aA 2<|T_ed 2 [10] [(18,.bool (!rb))] ?_
 revert h;refine iO_ (λc1 h=>?_) (λc1 h=>?_)
 ·refine aJ 18 (congrArg Bool.not (c1))<|T_kt<|aA 4<|T_nd 1 [0,18] [(19,vp i)] ?_
  obtain⟨b,rfl,h⟩:=h
  refine T_nd 2 [19] [(21,vq b)] ?_
  obtain⟨x,q3,h⟩:=h
  refine T_l1 22 49 q3 [21]<|T_n 4 [(22,vp x),(25,vi (zY (ra+k))),(26,vu v)]<|T_c (some 27) h ?_;clear h
  rintro e H2 ⟨a,rfl,h⟩
  refine⟨[(27,vi a)],pk,?_⟩
  exact T_nr 1 [8] [vi a] hQ h
 exact aI 18 (congrArg Bool.not (zZ c1))<|aA 3<|T_nr 1 [8] [vi 3] hQ h
end fK
/-! (*moraine/seg.Mem).Taken -/
namespace cW
def K0:=Func.code f45
def K2:=cb K0
def K4:=cb K2
def K12:=cb K4
def K13:=ca K12
def K16:=cb K13
def K17:=ca K16
def K18:=ca K17
end cW
def cW.pt(m e:zW)(d f:Nat)(H:zV)(R:zk):Prop:=
 ∀b H1,b=H.size->H1=H.push (.cells #[vp m] 78)->
 ∃x,hat H1 (ad b)=some (vp x)/\
 gM x (
 R vN H1) (λxA=>
 ∃ac,hat H1 (ad b)=some (vp ac)/\
 ∃ae,ac=some ae/\
 ∃xB xN xC,hat H1 ae=some (vs xB xN xC)/\
 ∃(u:zW->Nat->Nat->zv) (m19:zW->Nat->Nat->Int->zV->Nat),u none 0 0 0 H1/\ ∀lB lN lC s15 H2,u lB lN lC s15 H2->
 if s15< (xN:Int)then(
 ∃ag,hat H2 (ad b)=some (vp ag)/\
 ∃af,ag=some af/\
 ∃r n o,hat H2 af=some (vs r n o)/\
 ∃g,r=some g/\
 zw s15 n/\
 ∃q,hat H2 ((g.add (Int.toNat s15*72)).add 7)=some (vi q)/\
 if q>0 then(
 if(d:Int)=0 then(
 ∀aa H3,aa=H2.size->H3=H2.push (.cells #[vi s15] 3)->
 fE 1 3 8 [vi 0] lB lN lC (some (ad aa)) 1 H3 (λap y H4=>
 (u ap (lN+1) y (zY (s15+1)) H4/\m19 ap (lN+1) y (zY (s15+1)) H4<m19 lB lN lC s15 H2)))
 else
 ∃z,hat H2 (g.add (Int.toNat s15*72))=some (vi z)/\
 bI.C e d f z H2 (λv H5=> ∃s,v=.bool s/\
 if s=true then(
 ∀ab H6,ab=H5.size->H6=H5.push (.cells #[vi s15] 3)->
 fE 1 3 8 [vi 0] lB lN lC (some (ad ab)) 1 H6 (λp j H7=>
 (u p (lN+1) j (zY (s15+1)) H7/\m19 p (lN+1) j (zY (s15+1)) H7<m19 lB lN lC s15 H2)))
 else
 (u lB lN lC (zY (s15+1)) H5/\m19 lB lN lC (zY (s15+1)) H5<m19 lB lN lC s15 H2)))
 else
 (u lB lN lC (zY (s15+1)) H2/\m19 lB lN lC (zY (s15+1)) H2<m19 lB lN lC s15 H2))
 else
 slices_SortFunc_int_int.C lB lN lC (.func (.func 89) #[] #[vq (ad b)]) H2 (λ_ H8=>
 R (vs lB lN lC) H8))
namespace cW
theorem link(h:pt i z o u H d):C i z o u H d:=by
 refine T_en K0 52 func45 ?_
 intro w0 Q hQ
 unfold pt zY at h
 refine T_su [(0,vp i),(1,vs z o u)]<|aA 0<|T_nw (some 2) (λb=>vp (pa b)) (.cells #[vp i] 78) ?_
 intro b H1 e1 e2
 replace h:=h b H1 e1 e2
 refine T_pd [0] [(2,vp (pa b))]<|T_ed 1 [] []<|T_sz<|aA 1 ?_
 obtain⟨x,q3,h⟩:=h
 refine T_l1 8 78 q3 [] ?_
 rcases x with _ | xA
 ·rw[onPtr_none]at h
  exact T_ed 1 [8] [(9,vT)]<|T_tz 9<|aA 2<|T_nr 1 [4] [vN] hQ h
 rw[onPtr_some]at h
 refine T_ed 1 [8] [(9,vF)]<|T_fz 9<|T_kt<|aA 3<|T_ed 1 [9] [(5,vN)]<|T_sz<|aA 4 ?_
 obtain⟨ac,q4,h⟩:=h
 refine T_l1 10 78 q4 [] ?_
 obtain⟨ae,rfl,h⟩:=h
 refine T_nd 2 [10] [(12,vq ae)] ?_
 obtain⟨xB,xN,xC,q5,h⟩:=h
 refine T_l1 13 155 q5 [12]<|T_ed 2 [13] [(14,vi xN),(15,vi 0)]<|T_bz 0 ?_
 obtain⟨f,m19,i6,i7⟩:=h
 refine bR (x:=K18) (σ:=zW×Nat×Nat×Int) (λs_=> [(1,vs z o u),(2,vp (pa b)),(5,vs s_.1 s_.2.1 s_.2.2.1),(14,vi xN),(15,vi s_.2.2.2)]) (λs_ H=>f s_.1 s_.2.1 s_.2.2.1 s_.2.2.2 H) (λs_ H=>m19 s_.1 s_.2.1 s_.2.2.1 s_.2.2.2 H) ((none,0,0,0):zW×Nat×Nat×Int) (by kernel_rfl) i6 sk ?_
 rintro⟨lB,lN,lC,s15⟩ H2 i8
 have h:=i7 lB lN lC s15 H2 i8
 refine T_su [(1,vs z o u),(2,vp (pa b)),(5,vs lB lN lC),(14,vi xN),(15,vi s15)]<|aA 5<|T_ed 1 [] [(16,.bool (decide (s15< (xN:Int))))]<|T_sz ?_
 revert h;refine iO_ (λc9 h=>?_) (λc9 h=>?_)
 ·refine aI 16 (zX c9)<|T_kt<|T_sz<|T_bz 1<|aA 6<|T_ed 2 [16] [(6,vi s15)]<|aA 7 ?_
  obtain⟨ag,q11,h⟩:=h
  refine T_l1 18 78 q11 [] ?_
  obtain⟨af,rfl,h⟩:=h
  refine T_nd 2 [18] [(20,vq af)] ?_
  obtain⟨r,n,R,q12,h⟩:=h
  refine T_l1 21 155 q12 [20]<|T_nd 1 [] [(22,vi s15)] ?_
  obtain⟨g,rfl,q13,h⟩:=h
  refine T_xd (some 23) 155 161 72 g n R .i64 s15 underlying155 q13.1 q13.2 [21,22] [(23,vq (g.add (Int.toNat s15*72)))]<|T_ed 1 [23] [(7,vq (g.add (Int.toNat s15*72)))]<|aA 8<|T_nd 3 [] [(26,vq ((g.add (Int.toNat s15*72)).add 7))] ?_
  obtain⟨q,q14,h⟩:=h
  refine T_l1 27 3 q14 [26]<|T_nd 2 [27] [(29,.bool (decide (q>0)))] ?_
  revert h;refine iO_ (λc15 h=>?_) (λc15 h=>?_)
  ·refine N_bd 29 (zX c15)<|T_nd 4 [] [(33,.bool ((o:Int)==0))] ?_
   revert h;refine iO_ (λc17 h=>?_) (λc17 h=>?_)
   ·refine N_bd 33 (zK c17)<|T_ed 9 [7,29,33] [(42,vT)]<|T_tz 42<|T_rz 9<|T_nd 2 [5,6,42] [(43,vs lB lN lC),(44,vi s15)]<|T_nw (some 45) (λb=>vs (pa b) 1 1) (.cells #[vi s15] 3) ?_
    intro aa H3 e19 e20
    replace h:=h aa H3 e19 e20
    refine T_pd [44] [(45,vs (pa aa) 1 1)]<|N_op (some 46) (fR #[75,75] 75 #[vs lB lN lC,vs (pa aa) 1 1]) _ (λ_=>by kernel_rfl) (fu (T:=3) (sz:=1) (bytes:=8) (zero:=(vi 0:Value)) underlying75 underlying75 rfl (show prog.info? 3=some t3 from by kernel_rfl) (by kernel_rfl) (by kernel_rfl) (by decide) (by kernel_rfl) (by first | exact h | (simpa only[Value.cells,List.toList_toArray]using h))) ?_;clear h
    rintro _ H4 ⟨ap,y,rfl,h⟩
    exact T_pd [43,45] [(46,vs ap (lN+1) y)]<|T_nd 1 [46] [(5,vs ap (lN+1) y)]<|zq<|aE<|aD<|T_rz 10<|T_ed 2 [15] [(15,vi (zY (s15+1)))]<|aQ ((ap,(lN+1),y,(zY (s15+1))):zW×Nat×Nat×Int) sk h
   refine N_bd 33 (zJ c17)<|T_nd 5 [7] [(34,vs z o u),(38,vq (g.add (Int.toNat s15*72)))] ?_
   obtain⟨e,q21,h⟩:=h
   refine T_l1 39 3 q21 [38]<|T_c (some 40) h ?_;clear h
   rintro v H5 ⟨s,rfl,h⟩
   refine T_pd [34,39] [(40,.bool s)]<|T_ed 2 [29,33,40] [(42,.bool s)] ?_
   revert h;refine iO_ (λc22 h=>?_) (λc22 h=>?_)
   ·refine aI 42 c22<|T_rz 9<|T_nd 2 [5,6,42] [(43,vs lB lN lC),(44,vi s15)]<|T_nw (some 45) (λb=>vs (pa b) 1 1) (.cells #[vi s15] 3) ?_
    intro ab H6 e24 e25
    replace h:=h ab H6 e24 e25
    refine T_pd [44] [(45,vs (pa ab) 1 1)]<|N_op (some 46) (fR #[75,75] 75 #[vs lB lN lC,vs (pa ab) 1 1]) _ (λ_=>by kernel_rfl) (fu (T:=3) (sz:=1) (bytes:=8) (zero:=(vi 0:Value)) underlying75 underlying75 rfl (show prog.info? 3=some t3 from by kernel_rfl) (by kernel_rfl) (by kernel_rfl) (by decide) (by kernel_rfl) (by first | exact h | (simpa only[Value.cells,List.toList_toArray]using h))) ?_;clear h
    rintro _ H7 ⟨p,j,rfl,h⟩
    exact T_pd [43,45] [(46,vs p (lN+1) j)]<|T_nd 1 [46] [(5,vs p (lN+1) j)]<|zq<|aE<|aD<|T_rz 10<|T_ed 2 [15] [(15,vi (zY (s15+1)))]<|aQ ((p,(lN+1),j,(zY (s15+1))):zW×Nat×Nat×Int) sk h
   exact aJ 42 (zZ c22)<|T_k<|aE<|aD<|T_rz 10<|T_ed 2 [6,15,42] [(15,vi (zY (s15+1)))]<|aQ ((lB,lN,lC,(zY (s15+1))):zW×Nat×Nat×Int) sk h
  refine N_bd 29 (zQ c15)<|T_ed 13 [7,29] [(42,vF)]<|T_fz 42<|T_k ?_
  exact aE<|aD<|T_rz 10<|T_ed 2 [6,15,42] [(15,vi (zY (s15+1)))]<|aQ ((lB,lN,lC,(zY (s15+1))):zW×Nat×Nat×Int) sk h
 refine aJ 16 (zQ c9)<|zj 0<|aB<|aB<|aM<|aD<|aA 11<|T_n 2 [(5,vs lB lN lC),(48,vs lB lN lC),(49,.func (.func 89) #[] #[vp (pa b)])]<|T_c (some 50) h ?_;clear h
 intro v_2 H8 h
 exact T_pd [48,49] []<|T_e<|aA 12<|T_nr 2 [4] [vs lB lN lC] hQ h
end cW
/-! (*moraine/seg.Mem).Free -/
namespace fX
def K0:=Func.code f46
end fX
def fX.pt(m:zW)(H:zV)(R:zk):Prop:=
 gM m (
 R (vi 0) H) (λmA=>
 ∃x,hat H (mA.add 2)=some (vi x)/\
 R (vi x) H)
namespace fX
theorem link(h:pt i H d):C i H d:=by
 refine T_en K0 9 func46 ?_
 intro w0 Q hQ
 unfold pt at h
 refine T_su [(0,vp i)]<|aA 0<|T_ed 1 [] []<|T_sz<|aA 1<|T_nd 1 [] [(3,vp i)] ?_
 rcases i with _ | mA
 ·rw[onPtr_none]at h
  exact T_ne 1 [(0,vp none),(4,vT)]<|T_tz 4<|aA 2<|T_nr 1 [2] [vi 0] hQ h
 rw[onPtr_some]at h
 refine T_ne 1 [(0,vq mA),(4,vF)]<|T_fz 4<|T_kt<|aA 3<|T_n 3 [(7,vq (mA.add 2))] ?_
 obtain⟨x,q1,h⟩:=h
 exact T_l1 8 3 q1 [7]<|T_nr 1 [2] [vi x] hQ h
end fX
/-! (*moraine/seg.Mem).Taken.1 -/
namespace fV
def K0:=Func.code f89
def K2:=cb K0
def K3:=ca K2
end fV
def fV.pt(a b:Int)(p:zW)(H:zV)(R:zk):Prop:=
 ∃d,p=some d/\
 ∃x,hat H d=some (vp x)/\
 ∃xA,x=some xA/\
 ∃xB xN xC,hat H xA=some (vs xB xN xC)/\
 ∃f,xB=some f/\
 zw a xN/\
 ∃g,hat H ((f.add (Int.toNat a*72)).add 7)=some (vi g)/\
 ∃s,hat H d=some (vp s)/\
 ∃j,s=some j/\
 ∃r m n,hat H j=some (vs r m n)/\
 ∃e,r=some e/\
 zw b m/\
 ∃q,hat H ((e.add (Int.toNat b*72)).add 7)=some (vi q)/\
 cmp_Compare_int.C g q H (λv H1=> ∃o,v=vi o/\
 R (vi o) H1)
namespace fV
theorem link{a b:Int}(h:pt a b i H d):C a b i H d:=by
 refine T_en K0 23 func89 ?_
 intro w0 Q hQ
 unfold pt at h
 refine T_su [(0,vi a),(1,vi b),(2,vp i)]<|aA 0<|T_ed 1 [] []<|T_sz ?_
 obtain⟨R,rfl,x,q1,xA,rfl,xB,xN,xC,q2,f,rfl,q3,g,q4,s,q5,j,rfl,r,m,n,q6,e,rfl,q7,q,q8,h⟩:=h
 refine yY 1 (Code.ops K3) [(16,R,[vp (some xA)]),(16,xA,[vs (some f) xN xC]),(16,((f.add (Int.toNat a*72)).add 7),[vi g]),(16,R,[vp (some j)]),(16,j,[vs (some e) m n]),(16,((e.add (Int.toNat b*72)).add 7),[vi q])] 18 (bv 18 0) (show aH _ _ _ from⟨⟨q1,trivial⟩,⟨q2,trivial⟩,⟨q4,trivial⟩,⟨q5,trivial⟩,⟨q6,trivial⟩,⟨q8,trivial⟩,trivial⟩)<|T_g 0 (some 6) (vp (some xA)) (bv 18 1) [(0,vi a),(1,vi b),(2,vp (some R)),(6,vp (some xA))] (aR 78 (vp (some R))) (yW 16 yZ)<|aF 1 7 (vp (some xA)) (bv 18 3) [6]<|aF 2 8 (vp (some xA)) (bv 18 7) [7]<|T_g1 3 9 (vs (some f) xN xC) (bv 18 15) [8] (aR 155 (vp (some xA))) (yW 16 yX)<|aF 4 10 (vi a) (bv 18 31) [0]<|T_g1 5 11 (vp (some (f.add (Int.toNat a*72)))) (bv 18 63) [9,10] (bA 155 (vs (some f) xN xC) (vi a)) (λ_ w _ _ _=>cZ (P:=prog) (t:=155) (elem:=161) (sz:=72) (a:=f) (len:=xN) (cap:=xC) (k:=.i64) (i:=a) underlying155 (λ_=>by kernel_rfl) q3.1 q3.2 w)<|aF 6 12 (vp (some ((f.add (Int.toNat a*72)).add 7))) (bv 18 127) [11]<|T_g1 7 13 (vi g) (bv 18 255) [12] (aR 3 (vp (some ((f.add (Int.toNat a*72)).add 7)))) (yW 16 yQ)<|T_g1 8 14 (vp (some j)) (bv 18 511) [2] (aR 78 (vp (some R))) (yW 16 yJ)<|aF 9 15 (vp (some j)) (bv 18 1023) [14]<|aF 10 16 (vp (some j)) (bv 18 2047) [15]<|T_g1 11 17 (vs (some e) m n) (bv 18 4095) [16] (aR 155 (vp (some j))) (yW 16 yK)<|aF 12 18 (vi b) (bv 18 8191) [1]<|T_g1 13 19 (vp (some (e.add (Int.toNat b*72)))) (bv 18 16383) [17,18] (bA 155 (vs (some e) m n) (vi b)) (λ_ w _ _ _=>cZ (P:=prog) (t:=155) (elem:=161) (sz:=72) (a:=e) (len:=m) (cap:=n) (k:=.i64) (i:=b) underlying155 (λ_=>by kernel_rfl) q7.1 q7.2 w)<|aF 14 20 (vp (some ((e.add (Int.toNat b*72)).add 7))) (bv 18 32767) [19]<|T_g1 15 21 (vi q) (bv 18 65535) [20] (aR 3 (vp (some ((e.add (Int.toNat b*72)).add 7)))) (yW 16 yV)<|yq 16 (some 22) (bv 18 131071) 90 #[vi g,vi q] h ?_;clear h
 rintro v H1 ⟨o,rfl,h⟩
 refine⟨[(22,vi o)],pk,(show aH _ _ _ from⟨trivial,trivial,trivial,trivial,trivial,trivial,trivial⟩),?_⟩
 exact T_g 17 (some 5) (vi o) (bv 18 262143) [(5,vi o)] (pure (.value (vi o)):Sem Next) (λ_ _ _ _ _=>rfl)<|fQ [(5,vi o)] sk<|yx<|aD<|ia [5] [vi o] hQ h
end fV
/-! (*moraine/seg.Mem).Give -/
namespace fm
def K0:=Func.code f105
end fm
def fm.pt(m:zW)(d:Int)(H:zV)(R:zk):Prop:=
 fB.C m d H (λv H1=> ∃x,v=vp x/\
 gM x (
 R (vi 19) H1) (λxA=>
 (aN H1 xA 0 72)/\ ∀H2,H2=aV H1 xA (List.replicate 8 (vi 0)++List.replicate 64 (vu 0):List Value) 0->
 ∃mA,m=some mA/\
 ∃b,hat H2 (mA.add 2)=some (vi b)/\
 (aN H2 (mA.add 2) 0 1)/\ ∀H3,H3=aV H2 (mA.add 2) [vi (zY (b+1))] 0->
 R (vi 0) H3))
namespace fm
theorem link{H:zV}(h:pt i j H d):C i j H d:=by
 refine T_en K0 21 func105 ?_
 intro w0 Q hQ
 unfold pt zY at h
 refine T_su [(0,vp i),(1,vi j)]<|aA 0<|T_ed 1 [] []<|aA 1<|T_nd 2 [1] [(6,vp i),(7,vi j)]<|T_c (some 8) h ?_;clear h
 rintro v H1 ⟨x,rfl,h⟩
 refine T_pd [6,7] [(8,vp x)]<|T_ed 1 [8] [(5,vp x)]<|T_sz<|aA 2<|T_nd 1 [] [(9,vp x)] ?_
 rcases x with _ | xA
 ·rw[onPtr_none]at h
  exact T_ed 1 [5,9] [(5,vp none),(10,vT)]<|T_tz 10<|aA 3<|T_nr 1 [4] [vi 19] hQ h
 rw[onPtr_some]at h
 refine T_ed 1 [5,9] [(5,vq xA),(10,vF)]<|T_fz 10<|T_kt<|aA 4<|T_nd 3 [5,10] [(12,.agg (List.replicate 8 (vi 0)++List.replicate 64 (vu 0):List Value).toArray),(13,vq xA)] ?_
 obtain⟨q2,h⟩:=h
 refine mK none (iR 161 (vq xA) (.agg (List.replicate 8 (vi 0)++List.replicate 64 (vu 0):List Value).toArray)) (λHz=>Hz=aV H1 xA (List.replicate 8 (vi 0)++List.replicate 64 (vu 0):List Value) 0) (λ_=>by kernel_rfl) (by intro w hw;obtain⟨w1,g1,g2,g3⟩:=iK (P:=prog) (H:=H1) (t:=161) (a:=xA) (v:=(.agg (List.replicate 8 (vi 0)++List.replicate 64 (vu 0):List Value).toArray)) (List.replicate 8 (vi 0)++List.replicate 64 (vu 0):List Value) 72 (by kernel_rfl) (by kernel_rfl) (λ_=>by kernel_rfl) (by kernel_rfl) q2 w hw;exact⟨w1,g1,g2,g3⟩) ?_
 intro H2 e1
 replace h:=h H2 e1
 refine⟨[(0,vp i)],pk,?_⟩
 refine T_e<|aA 5<|T_n 1 [(14,vp i)] ?_
 obtain⟨mA,rfl,h⟩:=h
 refine T_n 2 [(14,vq mA),(16,vq (mA.add 2))] ?_
 obtain⟨b,q3,h⟩:=h
 refine T_l1 17 3 q3 [16]<|T_n 3 [(18,vi (zY (b+1))),(20,vq (mA.add 2))] ?_
 obtain⟨q5,h⟩:=h
 refine jf 3 (vi (zY (b+1))) q5 ?_
 intro H3 e4
 replace h:=h H3 e4
 refine⟨[],pk,?_⟩
 exact T_e<|aA 6<|T_nr 1 [4] [vi 0] hQ h
end fm
/-! (*moraine/space.Space).Words -/
namespace dE
def K0:=Func.code f48
def K2:=cb K0
def K8:=cb K2
def K9:=ca K8
def K10:=ca K9
def K12:=cb K10
def K14:=cb K12
def K17:=ca K14
def K19:=ca K17
def K21:=cb K19
def K22:=ca K21
def K25:=cb K22
def K26:=ca K25
def K27:=ca K26
end dE
def dE.pt(s e:zW)(b d:Nat)(H:zV)(R:zk):Prop:=
 gM s (
 R (.tuple #[]) H) (λsA=>
 ∃(j:zv) (m11:Int->zV->Nat),j 0 H/\ ∀s9 H1,j s9 H1->
 if s9<5 then(
 ∃(m:zv) (m28:Int->zV->Nat),m 0 H1/\ ∀g H2,m g H2->
 if g< (b:Int)then(
 ∃f,e=some f/\
 zw g b/\
 ∃x,hat H2 (f.add (Int.toNat g*1))=some (vi x)/\
 if x=s9 then(
 zw s9 5/\
 (aN H2 ((sA.add 1).add (Int.toNat s9*4)) 0 4)/\ ∀H3,H3=aV H2 ((sA.add 1).add (Int.toNat s9*4)) [vi 0,vi 0,vi 0,vi 0] 0->
 (m (zY (g+1)) H3/\m28 (zY (g+1)) H3<m28 g H2))
 else
 (m (zY (g+1)) H2/\m28 (zY (g+1)) H2<m28 g H2))
 else
 if(b:Int)=0 then(
 zw s9 5/\
 (aN H2 ((sA.add 1).add (Int.toNat s9*4)) 0 4)/\ ∀H4,H4=aV H2 ((sA.add 1).add (Int.toNat s9*4)) [vi 0,vi 0,vi 0,vi 0] 0->
 (j (zY (s9+1)) H4/\m11 (zY (s9+1)) H4<m11 s9 H1))
 else
 (j (zY (s9+1)) H2/\m11 (zY (s9+1)) H2<m11 s9 H1))
 else
 R (.tuple #[]) H1)
namespace dE
theorem link(h:pt i z o u H d):C i z o u H d:=by
 refine T_en K0 38 func48 ?_
 intro w0 Q hQ
 unfold pt zY at h
 refine T_su [(0,vp i),(1,vs z o u)]<|T_sz<|aA 0<|T_nd 1 [] [(7,vp i)] ?_
 rcases i with _ | sA
 ·rw[onPtr_none]at h
  exact T_ed 1 [0,7] [(0,vp none),(8,vT)]<|T_tz 8<|ia [] [] hQ h
 rw[onPtr_some]at h
 refine T_ed 1 [0,7] [(0,vq sA),(8,vF)]<|T_fz 8<|T_kt<|aA 1<|T_ed 1 [8] [(9,vi 0)]<|T_bz 0 ?_
 obtain⟨j,m11,i1,i2⟩:=h
 refine bR (x:=K10) (σ:=Int) (λs_=> [(0,vq sA),(1,vs z o u),(9,vi s_)]) (λs_ H=>j s_ H) (λs_ H=>m11 s_ H) (0:Int) (by kernel_rfl) i1 sk ?_
 rintro s9 H1 i3
 have h:=i2 s9 H1 i3
 refine T_su [(0,vq sA),(1,vs z o u),(9,vi s9)]<|aA 2<|T_ed 1 [] [(10,.bool (decide (s9<5)))]<|T_sz ?_
 revert h;refine iO_ (λc4 h=>?_) (λc4 h=>?_)
 ·refine aI 10 (zX c4)<|T_kt<|T_sz<|T_bz 1<|aA 3<|T_ed 2 [10] [(4,vi s9)]<|T_sz<|aA 4<|T_ed 3 [] [(12,vs z o u),(13,vi o),(14,vi 0)]<|T_bz 2 ?_
  obtain⟨m,m28,i6,i7⟩:=h
  refine bR (x:=K27) (σ:=Int) (λs_=> [(0,vq sA),(1,vs z o u),(4,vi s9),(9,vi s9),(12,vs z o u),(13,vi o),(14,vi s_)]) (λs_ H=>m s_ H) (λs_ H=>m28 s_ H) (0:Int) (by kernel_rfl) i6 sk ?_
  rintro g H2 i8
  have h:=i7 g H2 i8
  refine T_su [(0,vq sA),(1,vs z o u),(4,vi s9),(9,vi s9),(12,vs z o u),(13,vi o),(14,vi g)]<|aA 5<|T_ed 1 [] [(15,.bool (decide (g< (o:Int))))]<|T_sz ?_
  revert h;refine iO_ (λc9 h=>?_) (λc9 h=>?_)
  ·refine aI 15 (zX c9)<|T_kt<|T_sz<|T_bz 3<|aA 6<|T_ud [15] [] ?_
   obtain⟨f,rfl,q11,h⟩:=h
   refine T_xd (some 16) 75 3 1 f o u .i64 g underlying75 q11.1 q11.2 [1,12] [(1,vs (some f) o u),(12,vs (some f) o u),(16,vq (f.add (Int.toNat g*1)))] ?_
   obtain⟨x,q12,h⟩:=h
   refine T_l1 17 3 q12 [16]<|T_ed 1 [17] [(6,vi x)]<|aA 7<|T_ed 3 [6] [(20,.bool (x==s9))] ?_
   revert h;refine iO_ (λc13 h=>?_) (λc13 h=>?_)
   ·refine aI 20 (zK c13)<|T_rz 8<|T_nd 5 [20] [(22,vi s9),(23,.agg #[vi 0,vi 0,vi 0,vi 0]),(25,vq (sA.add 1))] ?_
    obtain⟨q15,h⟩:=h
    refine T_v1 26 (bA 80 (vq (sA.add 1)) (vi s9)) (vq ((sA.add 1).add (Int.toNat s9*4))) (λw _=>bK (P:=prog) (t:=80) (elem:=79) (sz:=4) (n:=5) (a:=(sA.add 1)) (k:=.i64) (i:=s9) underlying80 (λ_=>by kernel_rfl) q15.1 q15.2 w) [22,25] ?_
    obtain⟨q17,h⟩:=h
    refine fL 79 [vi 0,vi 0,vi 0,vi 0] q17 ?_
    intro H3 e16
    replace h:=h H3 e16
    exact T_pd [23,26] []<|zq<|aE<|aD<|T_rz 9<|T_ed 2 [14] [(14,vi (zY (g+1)))]<|aQ ((zY (g+1)):Int) sk h
   exact aJ 20 (zJ c13)<|T_k<|aE<|aD<|T_rz 9<|T_ed 2 [14,20] [(14,vi (zY (g+1)))]<|aQ ((zY (g+1)):Int) sk h
  refine aJ 15 (zQ c9)<|zj 2<|aB<|aB<|aM<|aD<|aA 10<|T_ed 3 [12,13,14,15] [(30,.bool ((o:Int)==0))] ?_
  revert h;refine iO_ (λc18 h=>?_) (λc18 h=>?_)
  ·refine aI 30 (zK c18)<|T_rz 11<|T_nd 5 [4,30] [(32,vi s9),(33,.agg #[vi 0,vi 0,vi 0,vi 0]),(35,vq (sA.add 1))] ?_
   obtain⟨q20,h⟩:=h
   refine T_v1 36 (bA 80 (vq (sA.add 1)) (vi s9)) (vq ((sA.add 1).add (Int.toNat s9*4))) (λw _=>bK (P:=prog) (t:=80) (elem:=79) (sz:=4) (n:=5) (a:=(sA.add 1)) (k:=.i64) (i:=s9) underlying80 (λ_=>by kernel_rfl) q20.1 q20.2 w) [32,35] ?_
   obtain⟨q22,h⟩:=h
   refine fL 79 [vi 0,vi 0,vi 0,vi 0] q22 ?_
   intro H4 e21
   replace h:=h H4 e21
   exact T_pd [33,36] []<|zq<|aE<|aD<|T_rz 12<|T_ed 2 [9] [(9,vi (zY (s9+1)))]<|aQ ((zY (s9+1)):Int) sk h
  exact aJ 30 (zJ c18)<|T_k<|aE<|aD<|T_rz 12<|T_ed 2 [4,9,30] [(9,vi (zY (s9+1)))]<|aQ ((zY (s9+1)):Int) sk h
 exact aJ 10 (zQ c4)<|zj 0<|aB<|aB<|aM<|ie (fn:=f48) [] hQ (show dW _ _ _ [] _ from .nil) h
end dE
/-! (*moraine/space.Space).Give -/
namespace dQ
def K0:=Func.code f63
def K2:=cb K0
def K4:=cb K2
def K11:=ca K4
def K14:=cb K11
def K16:=cb K14
def K17:=ca K16
end dQ
def dQ.pt(s:zW)(d:Int)(H:zV)(R:zk):Prop:=
 cX.C s H (λv H1=> ∃x,v=.bool x/\
 if x=true then(
 R (vi 19) H1)
 else
 ∃sA,s=some sA/\
 ∃af,hat H1 sA=some (vp af)/\
 bB.C af d H1 (λai H2=> ∃r p ab g j e f rb,ai=.tuple #[.agg #[vi r,vi p,vi ab,vi g,vi j,vi e,vi f],.bool rb]/\
 ∀b H3,b=H2.size->H3=H2.push (.cells #[vi 0,vi 0,vi 0,vi 0,vi 0,vi 0,vi 0] 108)->
 (aN H3 (ad b) 0 7)/\ ∀H4,H4=aV H3 (ad b) [vi r,vi p,vi ab,vi g,vi j,vi e,vi f] 0->
 if rb=true then(
 ∃o,hat H4 (ad b)=some (vi o)/\
 ∃y,hat H4 ((ad b).add 1)=some (vi y)/\
 zw o 5/\
 zw y 4/\
 ∃u,hat H4 (((sA.add 1).add (Int.toNat o*4)).add (Int.toNat y*1))=some (vi u)/\
 if u=(zY (d+1))then(
 ∃m,hat H4 (ad b)=some (vi m)/\
 ∃q,hat H4 ((ad b).add 1)=some (vi q)/\
 zw m 5/\
 zw q 4/\
 (aN H4 (((sA.add 1).add (Int.toNat m*4)).add (Int.toNat q*1)) 0 1)/\ ∀H5,H5=aV H4 (((sA.add 1).add (Int.toNat m*4)).add (Int.toNat q*1)) [vi 0] 0->
 ∃ag,hat H5 sA=some (vp ag)/\
 fm.C ag d H5 (λaj H6=> ∃ah,aj=vi ah/\
 R (vi ah) H6))
 else
 ∃aa,hat H4 sA=some (vp aa)/\
 fm.C aa d H4 (λal H7=> ∃ae,al=vi ae/\
 R (vi ae) H7))
 else
 ∃z,hat H4 sA=some (vp z)/\
 fm.C z d H4 (λak H8=> ∃ac,ak=vi ac/\
 R (vi ac) H8)))
namespace dQ
theorem link(h:pt i j H d):C i j H d:=by
 refine T_en K0 49 func63 ?_
 intro w0 Q hQ
 unfold pt zY at h
 refine T_su [(0,vp i),(1,vi j)]<|aA 0<|T_ed 1 [] []<|T_sz<|aA 1<|T_nd 1 [] [(7,vp i)]<|T_c (some 8) h ?_;clear h
 rintro v H1 ⟨x,rfl,h⟩
 refine T_pd [7] [(8,.bool x)]<|T_e ?_
 revert h;refine iO_ (λc1 h=>?_) (λc1 h=>?_)
 ·exact aI 8 c1<|aA 2<|T_nr 1 [4] [vi 19] hQ h
 refine aJ 8 (zZ c1)<|T_kt<|T_sz<|aA 3<|T_nd 1 [8] [(10,vp i)] ?_
 obtain⟨sA,rfl,h⟩:=h
 refine T_nd 2 [0,10] [(0,vq sA),(12,vq sA)] ?_
 obtain⟨af,q3,h⟩:=h
 refine T_l1 13 78 q3 [12]<|T_nd 1 [] [(14,vi j)]<|T_c (some 15) h ?_;clear h
 rintro ai H2 ⟨r,p,ab,g,s,e,f,rb,rfl,h⟩
 refine T_pd [13,14] [(15,.tuple #[.agg #[vi r,vi p,vi ab,vi g,vi s,vi e,vi f],.bool rb])]<|T_nd 3 [15] [(16,.agg #[vi r,vi p,vi ab,vi g,vi s,vi e,vi f]),(17,.bool rb)]<|T_nw (some 5) (λb=>vp (pa b)) (.cells #[vi 0,vi 0,vi 0,vi 0,vi 0,vi 0,vi 0] 108) ?_
 intro b H3 e4 e5
 replace h:=h b H3 e4 e5
 refine T_pd [] [(5,vp (pa b))] ?_
 obtain⟨q7,h⟩:=h
 refine fL 108 [vi r,vi p,vi ab,vi g,vi s,vi e,vi f] q7 ?_
 intro H4 e6
 replace h:=h H4 e6
 refine T_pd [16] []<|T_ed 1 [17] [(6,.bool rb)]<|T_sz<|qZ 4<|T_q1 18 (.bool rb) [6]<|T_q1 19 (.bool rb) [18] ?_
 revert h;refine iO_ (λc8 h=>?_) (λc8 h=>?_)
 ·refine Q_bd 19 c8<|T_q1 20 (vq sA) []<|T_q1 21 (vp (pa b)) [] ?_
  obtain⟨o,q10,h⟩:=h
  refine mX (some 22) 3 q10 [21] [(22,vi o)]<|T_q1 23 (vq ((ad b).add 1)) [] ?_
  obtain⟨y,q11,h⟩:=h
  refine mX (some 24) 3 q11 [23] [(24,vi y)]<|T_q1 25 (vq sA) [20]<|T_q1 26 (vq (sA.add 1)) [25] ?_
  obtain⟨q12,h⟩:=h
  refine Q_op (some 27) (bA 80 (vp (some (sA.add 1))) (vi o)) (vp (some ((sA.add 1).add (Int.toNat o*4)))) (λ_=>by kernel_rfl) (λw _=>bK (P:=prog) (t:=80) (elem:=79) (sz:=4) (n:=5) (a:=(sA.add 1)) (k:=.i64) (i:=o) underlying80 (λ_=>by kernel_rfl) q12.1 q12.2 w) [(0,vp (some sA)),(1,vi j),(5,vp (pa b)),(19,.bool true),(24,vi y),(27,vp (some ((sA.add 1).add (Int.toNat o*4))))] pk ?_
  obtain⟨q13,h⟩:=h
  refine Q_op (some 28) (bA 79 (vp (some ((sA.add 1).add (Int.toNat o*4)))) (vi y)) (vp (some (((sA.add 1).add (Int.toNat o*4)).add (Int.toNat y*1)))) (λ_=>by kernel_rfl) (λw _=>bK (P:=prog) (t:=79) (elem:=3) (sz:=1) (n:=4) (a:=((sA.add 1).add (Int.toNat o*4))) (k:=.i64) (i:=y) underlying79 (λ_=>by kernel_rfl) q13.1 q13.2 w) [(0,vp (some sA)),(1,vi j),(5,vp (pa b)),(19,.bool true),(28,vp (some (((sA.add 1).add (Int.toNat o*4)).add (Int.toNat y*1))))] pk ?_
  obtain⟨u,q14,h⟩:=h
  refine T_ql (some 29) 3 q14 [(0,vq sA),(1,vi j),(5,vp (pa b)),(19,vT),(29,vi u)]<|T_q1 30 (vi j) []<|T_q1 31 (vi (zY (j+1))) [30]<|T_q1 32 (.bool (u==(zY (j+1)))) [29,31]<|T_q1 33 (.bool (u==(zY (j+1)))) [19,32]<|me [(0,vq sA),(1,vi j),(5,vp (pa b)),(33,.bool (u==(zY (j+1))))] sk<|T_qe ?_
  revert h;refine iO_ (λc15 h=>?_) (λc15 h=>?_)
  ·refine aI 33 (zK c15) ?_
   obtain⟨m,q17,q,q18,q19,q20,h⟩:=h
   refine yY 5 (Code.ops K17) [(9,(ad b),[vi m]),(9,((ad b).add 1),[vi q])] 10 (bv 10 0) (show aH _ _ _ from⟨⟨q17,trivial⟩,⟨q18,trivial⟩,trivial⟩)<|T_gp 0 (some 34) (vp (some sA)) (bv 10 1) [(0,vp (some sA)),(1,vi j),(5,vp (pa b)),(34,vp (some sA))]<|aF 1 35 (vp (pa b)) (bv 10 3) []<|T_g1 2 36 (vi m) (bv 10 7) [35] (aR 3 (vp (pa b))) (yW 9 yZ)<|aF 3 37 (vp (some ((ad b).add 1))) (bv 10 15) [5]<|T_g1 4 38 (vi q) (bv 10 31) [37] (aR 3 (vp (some ((ad b).add 1)))) (yW 9 yX)<|aF 5 39 (vp (some sA)) (bv 10 63) [34]<|aF 6 40 (vp (some (sA.add 1))) (bv 10 127) [39]<|T_g1 7 41 (vp (some ((sA.add 1).add (Int.toNat m*4)))) (bv 10 255) [36,40] (bA 80 (vp (some (sA.add 1))) (vi m)) (λ_ w _ _ _=>bK (P:=prog) (t:=80) (elem:=79) (sz:=4) (n:=5) (a:=(sA.add 1)) (k:=.i64) (i:=m) underlying80 (λ_=>by kernel_rfl) q19.1 q19.2 w)<|T_g1 8 42 (vp (some (((sA.add 1).add (Int.toNat m*4)).add (Int.toNat q*1)))) (bv 10 511) [38,41] (bA 79 (vp (some ((sA.add 1).add (Int.toNat m*4)))) (vi q)) (λ_ w _ _ _=>bK (P:=prog) (t:=79) (elem:=3) (sz:=1) (n:=4) (a:=((sA.add 1).add (Int.toNat m*4))) (k:=.i64) (i:=q) underlying79 (λ_=>by kernel_rfl) q20.1 q20.2 w) ?_
   obtain⟨q22,h⟩:=h
   refine gY 9 none (bv 10 1023) (iR 3 (vq (((sA.add 1).add (Int.toNat m*4)).add (Int.toNat q*1))) (vi 0)) (λHz=>Hz=aV H4 (((sA.add 1).add (Int.toNat m*4)).add (Int.toNat q*1)) [vi 0] 0) (by kernel_rfl) (λ_=>by kernel_rfl) (iK [vi 0] 1 (by kernel_rfl) (by kernel_rfl) (λ_=>by kernel_rfl) (by kernel_rfl) q22) (by kernel_rfl) ?_
   intro H5 e21
   replace h:=h H5 e21
   refine⟨[(0,vq sA),(1,vi j)],pk,(show aH _ _ _ from⟨trivial,trivial,trivial⟩),?_⟩
   refine fQ [(0,vq sA),(1,vi j)] sk ?_
   refine yx<|aD<|aA 6<|T_n 3 [(1,vi j),(45,vq sA)] ?_
   obtain⟨ag,q23,h⟩:=h
   refine T_l1 46 78 q23 [45]<|T_nd 1 [1] [(47,vi j)]<|T_c (some 48) h ?_;clear h
   rintro aj H6 ⟨ah,rfl,h⟩
   refine⟨[(48,vi ah)],pk,?_⟩
   exact T_nr 1 [4] [vi ah] hQ h
  refine aJ 33 (zJ c15)<|T_kt<|aA 6<|T_n 3 [(1,vi j),(45,vq sA)] ?_
  obtain⟨aa,q24,h⟩:=h
  refine T_l1 46 78 q24 [45]<|T_nd 1 [1] [(47,vi j)]<|T_c (some 48) h ?_;clear h
  rintro al H7 ⟨ae,rfl,h⟩
  refine⟨[(48,vi ae)],pk,?_⟩
  exact T_nr 1 [4] [vi ae] hQ h
 refine Q_bd 19 (zZ c8)<|T_q1 20 (undef) []<|T_q1 21 (undef) []<|T_q1 22 (undef) [21]<|T_q1 23 (undef) []<|T_q1 24 (undef) [23]<|T_q1 25 (undef) [20]<|T_q1 26 (undef) [25]<|T_q1 27 (undef) [22,26] ?_
 refine T_q1 28 (undef) [24,27]<|T_q1 29 (undef) [28]<|T_q1 30 (undef) []<|T_q1 31 (undef) [30]<|T_q1 32 (undef) [29,31]<|T_q1 33 vF [19,32]<|me [(0,vq sA),(1,vi j),(5,vp (pa b)),(33,vF)] sk<|T_qe<|T_fz 33<|T_kt<|aA 6<|T_n 3 [(1,vi j),(45,vq sA)] ?_
 obtain⟨z,q25,h⟩:=h
 refine T_l1 46 78 q25 [45]<|T_nd 1 [1] [(47,vi j)]<|T_c (some 48) h ?_;clear h
 rintro ak H8 ⟨ac,rfl,h⟩
 refine⟨[(48,vi ac)],pk,?_⟩
 exact T_nr 1 [4] [vi ac] hQ h
end dQ
/-! cmp.Compare[int] -/
namespace cmp_Compare_int
def K0:=Func.code f90
end cmp_Compare_int
def cmp_Compare_int.pt(x y:Int)(H:zV)(R:zk):Prop:=
 cmp_isNaN_int.C x H (λv H1=> ∃b,v=.bool b/\
 cmp_isNaN_int.C y H1 (λd H2=> ∃a,d=.bool a/\
 if b=true then(
 if a=true then(
 R (vi 0) H2)
 else
 R (vi (-1)) H2)
 else
 if a=true then(
 R (vi 1) H2)
 else
 if x<y then(
 R (vi (-1)) H2)
 else
 if x>y then(
 R (vi 1) H2)
 else
 R (vi 0) H2))
namespace cmp_Compare_int
theorem link(h:pt j k H d):C j k H d:=by
 refine T_en K0 20 func90 ?_
 intro w0 Q hQ
 unfold pt at h
 refine T_su [(0,vi j),(1,vi k)]<|aA 0<|T_ed 1 [] []<|aA 1<|T_nd 1 [] [(7,vi j)]<|T_c (some 8) h ?_;clear h
 rintro v H1 ⟨b,rfl,h⟩
 refine T_pd [7] [(8,.bool b)]<|T_ed 1 [8] [(5,.bool b)]<|aA 2<|T_nd 1 [] [(9,vi k)]<|T_c (some 10) h ?_;clear h
 rintro R H2 ⟨a,rfl,h⟩
 refine T_pd [9] [(10,.bool a)]<|T_ed 1 [10] [(6,.bool a)]<|T_sz<|aA 3<|T_ed 1 [5] [(11,.bool b)] ?_
 revert h;refine iO_ (λc1 h=>?_) (λc1 h=>?_)
 ·refine aI 11 c1<|T_sz<|aA 4<|T_ne 1 [(12,.bool a)] ?_
  revert h;refine iO_ (λc3 h=>?_) (λc3 h=>?_)
  ·exact aI 12 c3<|aA 5<|T_nr 1 [4] [vi 0] hQ h
  exact aJ 12 (zZ c3)<|T_kt<|aA 6<|T_nr 1 [4] [vi (-1)] hQ h
 refine aJ 11 (zZ c1)<|T_kt<|T_sz<|aA 7<|T_ed 1 [6,11] [(13,.bool a)] ?_
 revert h;refine iO_ (λc5 h=>?_) (λc5 h=>?_)
 ·exact aI 13 c5<|aA 8<|T_nr 1 [4] [vi 1] hQ h
 refine aJ 13 (zZ c5)<|T_kt<|T_sz<|aA 9<|T_ed 3 [13] [(16,.bool (decide (j<k)))] ?_
 revert h;refine iO_ (λc7 h=>?_) (λc7 h=>?_)
 ·exact aI 16 (zX c7)<|aA 10<|T_nr 1 [4] [vi (-1)] hQ h
 refine aJ 16 (zQ c7)<|T_kt<|T_sz<|aA 11<|T_ne 3 [(19,.bool (decide (j>k)))] ?_
 revert h;refine iO_ (λc9 h=>?_) (λc9 h=>?_)
 ·exact aI 19 (zX c9)<|aA 12<|T_nr 1 [4] [vi 1] hQ h
 exact aJ 19 (zQ c9)<|T_kt<|aA 13<|T_nr 1 [4] [vi 0] hQ h
end cmp_Compare_int
/-! cmp.isNaN[int] -/
namespace cmp_isNaN_int
def K0:=Func.code f129
end cmp_isNaN_int
def cmp_isNaN_int.pt(x:Int)(H:zV)(R:zk):Prop:=
 R (.bool (x !=x)) H
namespace cmp_isNaN_int
theorem link(h:pt j H d):C j H d:=by
 refine T_en K0 6 func129 ?_
 intro w0 Q hQ
 unfold pt at h
 exact T_su [(0,vi j)]<|aA 0<|T_ed 1 [] []<|aA 1<|T_nr 4 [2] [.bool (j !=j)] hQ h
end cmp_isNaN_int
/-! slices.Clone[[]moraine/api.Entry,moraine/api.Entry] -/
namespace bI
def K0:=Func.code f87
end bI
def bI.pt(sB:zW)(sN sC:Nat)(v:Int)(H:zV)(R:zk):Prop:=
 cM.C sB sN sC v H (λa H1=> ∃x,a=vi x/\
 R (.bool (decide (x>=0))) H1)
namespace bI
theorem link(h:pt i o u j H d):C i o u j H d:=by
 refine T_en K0 9 func87 ?_
 intro w0 Q hQ
 unfold pt at h
 refine T_su [(0,vs i o u),(1,vi j)]<|aA 0<|T_ed 1 [] []<|aA 1<|T_n 2 [(5,vs i o u),(6,vi j)]<|T_c (some 7) h ?_;clear h
 rintro a H1 ⟨x,rfl,h⟩
 refine⟨[(7,vi x)],pk,?_⟩
 exact T_nr 2 [4] [.bool (decide (x>=0))] hQ h
end bI
/-! slices.Index[[]int,int] -/
namespace cM
def K0:=Func.code f126
def K2:=cb K0
def K3:=ca K2
def K6:=cb K3
def K7:=ca K6
def K8:=ca K7
end cM
def cM.pt(sB:zW)(sN sC:Nat)(v:Int)(H:zV)(R:zk):Prop:=
 ∃(I9:zv) (m9:Int->zV->Nat),I9 0 H/\ ∀s8 H1,I9 s8 H1->
 if s8< (sN:Int)then(
 ∃b,sB=some b/\
 zw s8 sN/\
 ∃x,hat H1 (b.add (Int.toNat s8*1))=some (vi x)/\
 if v=x then(
 R (vi s8) H1)
 else
 (I9 (zY (s8+1)) H1/\m9 (zY (s8+1)) H1<m9 s8 H1))
 else
 R (vi (-1)) H1
namespace cM
theorem link(h:pt i o u j H d):C i o u j H d:=by
 refine T_en K0 19 func126 ?_
 intro w0 Q hQ
 unfold pt zY at h
 refine T_su [(0,vs i o u),(1,vi j)]<|aA 0<|T_ed 1 [] []<|T_sz<|aA 1<|T_ed 3 [] [(7,vi o),(8,vi 0)]<|T_bz 0 ?_
 obtain⟨I9,m9,i1,i2⟩:=h
 refine bR (x:=K8) (σ:=Int) (λs_=> [(0,vs i o u),(1,vi j),(7,vi o),(8,vi s_)]) (λs_ H=>I9 s_ H) (λs_ H=>m9 s_ H) (0:Int) (by kernel_rfl) i1 sk ?_
 rintro s8 H1 i3
 have h:=i2 s8 H1 i3
 refine T_su [(0,vs i o u),(1,vi j),(7,vi o),(8,vi s8)]<|aA 2<|T_ed 1 [] [(9,.bool (decide (s8< (o:Int))))]<|T_sz ?_
 revert h;refine iO_ (λc4 h=>?_) (λc4 h=>?_)
 ·refine aI 9 (zX c4)<|T_kt<|T_sz<|T_bz 1<|aA 3<|T_ed 2 [9] [(5,vi s8)]<|aA 4<|T_nd 3 [] [(11,vi j),(12,vs i o u),(13,vi s8)] ?_
  obtain⟨b,rfl,q6,h⟩:=h
  refine T_xd (some 14) 75 3 1 b o u .i64 s8 underlying75 q6.1 q6.2 [0,12,13] [(0,vs (some b) o u),(14,vq (b.add (Int.toNat s8*1)))] ?_
  obtain⟨x,q7,h⟩:=h
  refine T_l1 15 3 q7 [14]<|T_ed 1 [11,15] [(16,.bool (j==x))] ?_
  revert h;refine iO_ (λc8 h=>?_) (λc8 h=>?_)
  ·exact aI 16 (zK c8)<|aA 5<|T_nr 2 [4] [vi s8] hQ h
  exact aJ 16 (zJ c8)<|T_k<|aE<|aD<|T_rz 6<|T_ed 2 [5,8,16] [(8,vi (zY (s8+1)))]<|aQ ((zY (s8+1)):Int) sk h
 exact aJ 9 (zQ c4)<|zj 0<|aB<|aB<|aM<|aD<|aA 7<|T_nr 1 [4] [vi (-1)] hQ h
end cM
/-! (*moraine/obj.Heap).Next -/
namespace fG
def K0:=Func.code f65
end fG
def fG.pt(hv:zW)(H:zV)(R:zk):Prop:=
 eq.C hv H (λv H1=> ∃x,v=.bool x/\
 if x=true then(
 R (.tuple #[]) H1)
 else
 ∃a,hv=some a/\
 ∃b,hat H1 (a.add 3)=some (vu b)/\
 (aN H1 (a.add 3) 0 1)/\ ∀H2,H2=aV H1 (a.add 3) [vu (IntKind.wrap .u64 (b+1))] 0->
 R (.tuple #[]) H2)
namespace fG
set_option maxRecDepth 100000 in
theorem link(h:pt i H d):C i H d:=by
 refine T_en K0 12 func65 ?_
 intro w0 Q hQ
 unfold pt at h
 refine T_su [(0,vp i)]<|aA 0<|T_nd 1 [] [(2,vp i)]<|T_c (some 3) h ?_;clear h
 rintro v H1 ⟨x,rfl,h⟩
 refine T_pd [2] [(3,.bool x)]<|T_ed 1 [3] [(4,.bool (!x))] ?_
 revert h;refine iO_ (λc1 h=>?_) (λc1 h=>?_)
 ·exact aJ 4 (congrArg Bool.not (c1))<|T_k<|ie (fn:=f65) [] hQ (show dW _ _ _ [] _ from .nil) h
 refine aI 4 (congrArg Bool.not (zZ c1))<|T_rz 1<|T_n 1 [(5,vp i)] ?_
 obtain⟨a,rfl,h⟩:=h
 refine T_n 2 [(5,vq a),(7,vq (a.add 3))] ?_
 obtain⟨b,q3,h⟩:=h
 refine T_l1 8 22 q3 [7]<|T_n 3 [(9,vu (IntKind.wrap .u64 (b+1))),(11,vq (a.add 3))] ?_
 obtain⟨q5,h⟩:=h
 refine jf 22 (vu (IntKind.wrap .u64 (b+1))) q5 ?_
 intro H2 e4
 replace h:=h H2 e4
 refine⟨[],pk,?_⟩
 exact zq<|ie (fn:=f65) [] hQ (show dW _ _ _ [] _ from .nil) h
end fG
/-! moraine/morainelaw11.Word -/
namespace bH
def K0:=Func.code f68
end bH
def bH.pt(vW af:Int)(f:zW)(d e:Nat)(H:zV)(R:zk):Prop:=
 ∀b H1,b=H.size->H1=H.push (.cells #[vu vW,vi af] 65)->
 ∃x,hat H1 ((ad b).add 1)=some (vi x)/\
 if((decide (x>0)) && (decide ((d:Int)>0)))=true then(
 ∃m,hat H1 ((ad b).add 1)=some (vi m)/\
 ((d:Int)≠0)/\
 ∃n,f=some n/\
 ((0:Int)<=(Int.tmod (zY (m-1)) (d:Int))/\(Int.tmod (zY (m-1)) (d:Int))< (d:Int))/\
 ∃ab,hat H1 (n.add (Int.toNat (Int.tmod (zY (m-1)) (d:Int))*1))=some (vu ab)/\
 R (vu ab) H1)
 else
 ∃j,hat H1 (ad b)=some (vu j)/\
 if(iand .u64 j 7)=0 then(
 ∃ac,hat H1 (ad b)=some (vu ac)/\
 cT.C ac H1 (λv H2=> ∃o aj xA xX ag,v=.agg #[vi o,vi aj,vi xA,vi xX,vu ag]/\
 if o=0 then(
 ∃z,hat H2 (ad b)=some (vu z)/\
 R (vu (jl .u64 z 7)) H2)
 else
 ∃s,hat H2 (ad b)=some (vu s)/\
 R (vu s) H2))
 else
 if(iand .u64 j 7)=4 then(
 ∃ae,hat H1 (ad b)=some (vu ae)/\
 cT.C ae H1 (λak H3=> ∃g u ah ai r,ak=.agg #[vi g,vi u,vi ah,vi ai,vu r]/\
 if g=0 then(
 ∃aa,hat H3 (ad b)=some (vu aa)/\
 R (vu (jl .u64 aa 7)) H3)
 else
 ∃q,hat H3 (ad b)=some (vu q)/\
 R (vu q) H3))
 else
 ∃p,hat H1 (ad b)=some (vu p)/\
 R (vu (jl .u64 p 7)) H1
namespace bH
set_option maxRecDepth 100000 in
theorem link(h:pt j k i o u H d):C j k i o u H d:=by
 refine T_en K0 44 func68 ?_
 intro w0 Q hQ
 unfold pt zY at h
 refine T_su [(0,.agg #[vu j,vi k]),(1,vs i o u)]<|aA 0<|T_nw (some 2) (λb=>vp (pa b)) (.cells #[vu j,vi k] 65) ?_
 intro b H1 e1 e2
 replace h:=h b H1 e1 e2
 refine T_pd [0] [(2,vp (pa b))]<|T_ed 1 [] []<|T_sz<|aA 1<|T_nd 1 [] [(6,vq ((ad b).add 1))] ?_
 obtain⟨x,q3,h⟩:=h
 refine T_l1 7 3 q3 [6]<|T_nd 2 [7] [(9,.bool (decide (x>0)))] ?_
 refine gz [(1,vs i o u),(2,vp (pa b)),(13,.bool ((decide (x>0)) && (decide ((o:Int)>0))))] ?_ ?_
 ·refine aD ?_
  revert h;refine iO_ (λc6 h=>?_) (λc6 h=>?_)
  ·refine aI 13 c6<|aA 2<|T_n 2 [(1,vs i o u),(14,vs i o u),(15,vq ((ad b).add 1))] ?_
   obtain⟨m,q8,h⟩:=h
   refine T_l1 16 3 q8 [15]<|T_nd 3 [1,16] [(17,vi (zY (m-1))),(19,vi o)] ?_
   obtain⟨q9,h⟩:=h
   refine T_v1 20 (binN .rem 3 (vi (zY (m-1))) (vi o)) (vi (Int.tmod (zY (m-1)) (o:Int))) (λw _=>qQ (P:=prog) (t:=3) (k:=.i64) (x:=(zY (m-1))) (y:=(o:Int)) q9 w) [17,19] ?_
   obtain⟨n,rfl,q10,h⟩:=h
   refine T_ix (some 21) 32 28 1 n o u .i64 (Int.tmod (zY (m-1)) (o:Int)) underlying32 q10.1 q10.2 [(21,vp (some (n.add (Int.toNat (Int.tmod (zY (m-1)) (o:Int))*1))))] ?_
   obtain⟨ab,q11,h⟩:=h
   exact T_l1 22 28 q11 [21]<|T_nr 1 [4] [vu ab] hQ h
  refine aJ 13 (zZ c6)<|T_kt<|T_sz<|aA 3<|T_n 1 [(2,vp (pa b)),(23,vp (pa b))] ?_
  obtain⟨R,q12,h⟩:=h
  refine T_l1 24 28 q12 [23]<|T_ed 2 [24] [(5,vu (iand .u64 R 7))]<|aA 4<|T_nd 3 [] [(28,.bool ((iand .u64 R 7) !=0))] ?_
  revert h;refine iO_ (λc13 h=>?_) (λc13 h=>?_)
  ·refine N_bd 28 (bne_eq_false_iff_eq.mpr c13)<|T_nd 5 [5,28] [(32,vF),(33,vp (pa b))] ?_
   obtain⟨ac,q15,h⟩:=h
   refine T_l1 34 28 q15 [33]<|T_c (some 35) h ?_;clear h
   rintro v H2 ⟨f,aj,xA,xX,ag,rfl,h⟩
   refine T_pd [34] [(35,.agg #[vi f,vi aj,vi xA,vi xX,vu ag])]<|T_ed 3 [32,35] [(38,.bool (f==0))] ?_
   revert h;refine iO_ (λc16 h=>?_) (λc16 h=>?_)
   ·refine aI 38 (zK c16)<|aA 5<|T_n 1 [(39,vp (pa b))] ?_
    obtain⟨z,q18,h⟩:=h
    exact T_l1 40 28 q18 [39]<|T_nr 2 [4] [vu (jl .u64 z 7)] hQ h
   refine aJ 38 (zJ c16)<|T_kt<|aA 6<|T_n 1 [(42,vp (pa b))] ?_
   obtain⟨s,q19,h⟩:=h
   exact T_l1 43 28 q19 [42]<|T_nr 1 [4] [vu s] hQ h
  refine N_bd 28 (bne_iff_ne.mpr c13)<|T_nd 4 [5,28] [(32,.bool ((iand .u64 R 7) !=4))] ?_
  revert h;refine iO_ (λc20 h=>?_) (λc20 h=>?_)
  ·refine N_bd 32 (bne_eq_false_iff_eq.mpr c20)<|T_nd 1 [] [(33,vp (pa b))] ?_
   obtain⟨ae,q22,h⟩:=h
   refine T_l1 34 28 q22 [33]<|T_c (some 35) h ?_;clear h
   rintro ak H3 ⟨g,af,ah,ai,r,rfl,h⟩
   refine T_pd [34] [(35,.agg #[vi g,vi af,vi ah,vi ai,vu r])]<|T_ed 3 [32,35] [(38,.bool (g==0))] ?_
   revert h;refine iO_ (λc23 h=>?_) (λc23 h=>?_)
   ·refine aI 38 (zK c23)<|aA 5<|T_n 1 [(39,vp (pa b))] ?_
    obtain⟨aa,q25,h⟩:=h
    exact T_l1 40 28 q25 [39]<|T_nr 2 [4] [vu (jl .u64 aa 7)] hQ h
   refine aJ 38 (zJ c23)<|T_kt<|aA 6<|T_n 1 [(42,vp (pa b))] ?_
   obtain⟨q,q26,h⟩:=h
   exact T_l1 43 28 q26 [42]<|T_nr 1 [4] [vu q] hQ h
  refine N_bd 32 (bne_iff_ne.mpr c20)<|T_ed 6 [32] [(38,vT)]<|T_tz 38<|aA 5<|T_n 1 [(39,vp (pa b))] ?_
  obtain⟨p,q27,h⟩:=h
  exact T_l1 40 28 q27 [39]<|T_nr 2 [4] [vu (jl .u64 p 7)] hQ h
 intro hk
 refine T_nu [(1,vs i o u),(2,vp (pa b)),(9,.bool (decide (x>0)))] ?_
 by_cases c4:x>0
 ·have b5:(decide (x>0))=true:=zX c4
  refine bG [(1,vs i o u),(2,vp (pa b)),(9,vT)] (by rw[b5]) ?_
  refine T_nd 4 [9] [(13,.bool (decide ((o:Int)>0)))]<|zq<|S_bd 13 (b:=(decide ((o:Int)>0))) (v:=((decide (x>0)) && (decide ((o:Int)>0)))) (by simp only[b5,BL]) ?_
  exact hk
 have b5:(decide (x>0))=false:=zQ c4
 refine bG [(1,vs i o u),(2,vp (pa b)),(9,vF)] (by rw[b5]) ?_
 refine T_nd 4 [9] [(13,vF)]<|zq<|S_bd 13 (b:=false) (v:=((decide (x>0)) && (decide ((o:Int)>0)))) (by simp only[b5,BL]) ?_
 exact hk
end bH
/-! moraine/morainelaw11.words -/
namespace cP
def K0:=Func.code f70
def K2:=cb K0
def K4:=cb K2
def K5:=ca K4
def K8:=cb K5
def K9:=ca K8
def K10:=ca K9
end cP
def cP.pt(lB:zW)(lN lC:Nat)(e:zW)(d f:Nat)(H:zV)(R:zk):Prop:=
 ∃(o:zW->Nat->Nat->zv) (m11:zW->Nat->Nat->Int->zV->Nat),o none 0 0 0 H/\ ∀g outN outC i H1,o g outN outC i H1->
 if((decide (i< (lN:Int))) && (decide (i<62)))=true then(
 ∃j,lB=some j/\
 zw i lN/\
 ∃xW m,aP H1 (j.add (Int.toNat i*2)) 0 [vu xW,vi m]/\
 bH.C xW m e d f H1 (λv H2=> ∃x,v=vu x/\
 ∀b H3,b=H2.size->H3=H2.push (.cells #[vu x] 28)->
 fE 1 28 8 [vu 0] g outN outC (some (ad b)) 1 H3 (λap n H4=>
 (o ap (outN+1) n (zY (i+1)) H4/\m11 ap (outN+1) n (zY (i+1)) H4<m11 g outN outC i H1))))
 else
 R (vs g outN outC) H1
namespace cP
set_option maxRecDepth 100000 in
theorem link(h:pt i o u z A B H d):C i o u z A B H d:=by
 refine T_en K0 27 func70 ?_
 intro w0 Q hQ
 unfold pt zY at h
 refine T_su [(0,vs i o u),(1,vs z A B)]<|aA 0<|T_ed 1 [] []<|aA 1<|T_ed 1 [] [(5,vN)]<|T_sz<|aA 2<|T_ed 1 [] [(6,vi 0)]<|T_bz 0 ?_
 obtain⟨f,m11,i1,i2⟩:=h
 refine bR (x:=K10) (σ:=zW×Nat×Nat×Int) (λs_=> [(0,vs i o u),(1,vs z A B),(5,vs s_.1 s_.2.1 s_.2.2.1),(6,vi s_.2.2.2)]) (λs_ H=>f s_.1 s_.2.1 s_.2.2.1 s_.2.2.2 H) (λs_ H=>m11 s_.1 s_.2.1 s_.2.2.1 s_.2.2.2 H) ((none,0,0,0):zW×Nat×Nat×Int) (by kernel_rfl) i1 sk ?_
 rintro⟨g,outN,outC,R⟩ H1 i3
 have h:=i2 g outN outC R H1 i3
 refine T_su [(0,vs i o u),(1,vs z A B),(5,vs g outN outC),(6,vi R)]<|T_sz<|aA 3 ?_
 refine gz [(0,vs i o u),(1,vs z A B),(5,vs g outN outC),(6,vi R),(14,.bool ((decide (R< (o:Int))) && (decide (R<62))))] ?_ ?_
 ·refine aD ?_
  revert h;refine iO_ (λc6 h=>?_) (λc6 h=>?_)
  ·refine aI 14 c6<|T_kt<|T_sz<|T_bz 1<|T_rz 5<|T_n 3 [(0,vs i o u),(1,vs z A B),(6,vi R),(17,vs g outN outC),(18,vs i o u),(19,vi R)] ?_
   obtain⟨j,rfl,q8,h⟩:=h
   refine T_xd (some 20) 66 65 2 j o u .i64 R underlying66 q8.1 q8.2 [0,18,19] [(0,vs (some j) o u),(20,vq (j.add (Int.toNat R*2)))] ?_
   obtain⟨xW,m,q9,h⟩:=h
   refine T_lr 21 65 q9 [20]<|T_nd 1 [] [(22,vs z A B)]<|T_c (some 23) h ?_;clear h
   rintro v H2 ⟨x,rfl,h⟩
   refine T_pd [21,22] [(23,vu x)]<|T_nw (some 24) (λb=>vs (pa b) 1 1) (.cells #[vu x] 28) ?_
   intro b H3 e10 e11
   replace h:=h b H3 e10 e11
   refine T_pd [23] [(24,vs (pa b) 1 1)]<|N_op (some 25) (fR #[32,32] 32 #[vs g outN outC,vs (pa b) 1 1]) _ (λ_=>by kernel_rfl) (fu (T:=28) (sz:=1) (bytes:=8) (zero:=(vu 0:Value)) underlying32 underlying32 rfl (show prog.info? 28=some t28 from by kernel_rfl) (by kernel_rfl) (by kernel_rfl) (by decide) (by kernel_rfl) (by first | exact h | (simpa only[Value.cells,List.toList_toArray]using h))) ?_;clear h
   rintro _ H4 ⟨ap,n,rfl,h⟩
   exact T_pd [17,24] [(25,vs ap (outN+1) n)]<|T_nd 1 [25] [(5,vs ap (outN+1) n)]<|zq<|aE<|aD<|T_rz 4<|T_ed 3 [6] [(6,vi (zY (R+1)))]<|aQ ((ap,(outN+1),n,(zY (R+1))):zW×Nat×Nat×Int) sk h
  exact aJ 14 (zZ c6)<|zj 0<|aB<|aB<|aM<|aD<|aA 6<|T_nr 2 [4] [vs g outN outC] hQ h
 intro hk
 refine T_n 5 [(0,vs i o u),(1,vs z A B),(5,vs g outN outC),(6,vi R),(11,.bool (decide (R< (o:Int))))] ?_
 by_cases c4:R< (o:Int)
 ·have b5:(decide (R< (o:Int)))=true:=zX c4
  refine bG [(0,vs i o u),(1,vs z A B),(5,vs g outN outC),(6,vi R),(11,vT)] (by rw[b5]) ?_
  refine T_nd 3 [11] [(14,.bool (decide (R<62)))]<|zq<|S_bd 14 (b:=(decide (R<62))) (v:=((decide (R< (o:Int))) && (decide (R<62)))) (by simp only[b5,BL]) ?_
  exact hk
 have b5:(decide (R< (o:Int)))=false:=zQ c4
 refine bG [(0,vs i o u),(1,vs z A B),(5,vs g outN outC),(6,vi R),(11,vF)] (by rw[b5]) ?_
 refine T_nd 3 [11] [(14,vF)]<|zq<|S_bd 14 (b:=false) (v:=((decide (R< (o:Int))) && (decide (R<62)))) (by simp only[b5,BL]) ?_
 exact hk
end cP
/-! moraine/morainelaw11.kind -/
namespace dG
def K0:=Func.code f69
end dG
def dG.pt(nv:Int)(H:zV)(R:zk):Prop:=
 ∀b H1,b=H.size->H1=H.push (.cells #[vi 1,vi 5,vi 2] 3)->
 ((0:Int)<=(Int.tmod (iand .i64 nv 65535) 3)/\(Int.tmod (iand .i64 nv 65535) 3)< (3:Int))/\
 ∃x,hat H1 ((ad b).add (Int.toNat (Int.tmod (iand .i64 nv 65535) 3)*1))=some (vi x)/\
 R (vi x) H1
namespace dG
set_option maxRecDepth 100000 in
theorem link(h:pt j H d):C j H d:=by
 refine T_en K0 9 func69 ?_
 intro w0 Q hQ
 unfold pt at h
 refine T_su [(0,vi j)]<|aA 0<|T_ed 1 [] []<|aA 1<|T_nw (some 3) (λb=>vs (pa b) 3 3) (.cells #[vi 1,vi 5,vi 2] 3) ?_
 intro b H1 e1 e2
 replace h:=h b H1 e1 e2
 refine T_pd [] [(3,vs (pa b) 3 3)]<|T_nd 3 [0] [(6,vi (Int.tmod (iand .i64 j 65535) 3))] ?_
 obtain⟨q3,h⟩:=h
 refine T_ix (some 7) 75 3 1 (ad b) 3 3 .i64 (Int.tmod (iand .i64 j 65535) 3) underlying75 q3.1 q3.2 [(7,vp (some ((ad b).add (Int.toNat (Int.tmod (iand .i64 j 65535) 3)*1))))] ?_
 obtain⟨x,q4,h⟩:=h
 exact T_l1 8 3 q4 [7]<|T_nr 1 [2] [vi x] hQ h
end dG
/-! moraine/morainelaw11.Set -/
namespace dT
def K0:=Func.code f71
end dT
def dT.pt(hv:zW)(wv nv v:Int)(H:zV)(R:zk):Prop:=
 eD.C hv wv H (λs H1=> ∃x,s=.bool x/\
 if(x && ((iand .i64 (iand .i64 nv 65535) 1)==0))=true then(
 eJ.C hv wv v H1 (λaa H2=> ∃m,aa=vi m/\
 R (vi m) H2))
 else
 eD.C hv wv H1 (λaf H3=> ∃j,af=.bool j/\
 if j=true then(
 dM.C hv wv v H3 (λac H4=> ∃n,ac=vi n/\
 R (vi n) H4))
 else
 bW.C hv wv H3 (λz H5=> ∃f,z=vi f/\
 if f=0 then(
 R (vi 3) H5)
 else
 fk.C hv wv H5 (λu H6=> ∃i,u=vi i/\
 if i=0 then(
 R (vi 3) H6)
 else
 bW.C hv wv H6 (λae H7=> ∃e,ae=vi e/\
 if e=2 then(
 R (vi 3) H7)
 else
 bW.C hv wv H7 (λag H8=> ∃g,ag=vi g/\
 if g=10 then(
 R (vi 3) H8)
 else
 bW.C hv wv H8 (λq H9=> ∃b,q=vi b/\
 fk.C hv wv H9 (λo ab=> ∃a,o=vi a/\
 (a≠0)/\
 dU.C hv wv b (Int.tmod (iand .i64 nv 65535) a) v ab (λp r=> ∃d,p=vi d/\
 R (vi d) r)))))))))
namespace dT
set_option maxRecDepth 100000 in
theorem link{wv nv v:Int}(h:pt i wv nv v H d):C i wv nv v H d:=by
 refine T_en K0 67 func71 ?_
 intro w0 Q hQ
 unfold pt at h
 refine T_su [(0,vp i),(1,vu wv),(2,vi nv),(3,vu v)]<|aA 0<|T_ed 1 [] []<|aA 1<|T_ed 3 [2] [(2,vi (iand .i64 nv 65535))]<|T_sz<|T_bz 0<|aA 2<|T_nd 2 [] [(12,vp i),(13,vu wv)]<|T_c (some 14) h ?_;clear h
 rintro s H1 ⟨x,rfl,h⟩
 refine T_pd [12,13] [(14,.bool x)]<|T_nd 1 [14] [(15,.bool x)] ?_
 refine gz [(0,vp i),(1,vu wv),(2,vi (iand .i64 nv 65535)),(3,vu v),(11,.bool (x && ((iand .i64 (iand .i64 nv 65535) 1)==0)))] ?_ ?_
 ·refine aD ?_
  revert h;refine iO_ (λc3 h=>?_) (λc3 h=>?_)
  ·refine aI 11 c3<|aA 3<|T_n 3 [(20,vp i),(21,vu wv),(22,vu v)]<|T_c (some 23) h ?_;clear h
   rintro aa H2 ⟨m,rfl,h⟩
   refine⟨[(23,vi m)],pk,?_⟩
   exact T_nr 1 [8] [vi m] hQ h
  refine aJ 11 (zZ c3)<|aA 4<|T_n 2 [(0,vp i),(1,vu wv),(2,vi (iand .i64 nv 65535)),(3,vu v),(25,vp i),(26,vu wv)]<|T_c (some 27) h ?_;clear h
  rintro af H3 ⟨j,rfl,h⟩
  refine T_pd [25,26] [(27,.bool j)]<|T_ed 1 [27] [(24,.bool j)] ?_
  revert h;refine iO_ (λc5 h=>?_) (λc5 h=>?_)
  ·refine aI 24 c5<|aA 5<|T_n 3 [(28,vp i),(29,vu wv),(30,vu v)]<|T_c (some 31) h ?_;clear h
   rintro ac H4 ⟨n,rfl,h⟩
   refine⟨[(31,vi n)],pk,?_⟩
   exact T_nr 1 [8] [vi n] hQ h
  refine aJ 24 (zZ c5)<|aA 6<|T_nd 2 [24] [(33,vp i),(34,vu wv)]<|T_c (some 35) h ?_;clear h
  rintro z H5 ⟨f,rfl,h⟩
  refine T_pd [33,34] [(35,vi f)]<|T_nd 2 [35] [(37,.bool (f==0))] ?_
  revert h;refine iO_ (λc7 h=>?_) (λc7 h=>?_)
  ·exact N_bd 37 (zK c7)<|T_ed 18 [37] [(32,vT)]<|T_tz 32<|aA 7<|T_nr 1 [8] [vi 3] hQ h
  refine N_bd 37 (zJ c7)<|T_nd 2 [] [(38,vp i),(39,vu wv)] ?_
  refine T_c (some 40) h ?_;clear h
  rintro u H6 ⟨hv,rfl,h⟩
  refine T_pd [38,39] [(40,vi hv)]<|T_nd 3 [37,40] [(43,.bool (hv==0))] ?_
  revert h;refine iO_ (λc9 h=>?_) (λc9 h=>?_)
  ·exact N_bd 43 (zK c9)<|T_ed 12 [43] [(32,vT)]<|T_tz 32<|aA 7<|T_nr 1 [8] [vi 3] hQ h
  refine N_bd 43 (zJ c9)<|T_nd 2 [] [(44,vp i),(45,vu wv)] ?_
  refine T_c (some 46) h ?_;clear h
  rintro ae H7 ⟨e,rfl,h⟩
  refine T_pd [44,45] [(46,vi e)]<|T_nd 3 [43,46] [(49,.bool (e==2))] ?_
  revert h;refine iO_ (λc11 h=>?_) (λc11 h=>?_)
  ·exact N_bd 49 (zK c11)<|T_ed 6 [49] [(32,vT)]<|T_tz 32<|aA 7<|T_nr 1 [8] [vi 3] hQ h
  refine N_bd 49 (zJ c11)<|T_nd 2 [] [(50,vp i),(51,vu wv)] ?_
  refine T_c (some 52) h ?_;clear h
  rintro ag H8 ⟨g,rfl,h⟩
  refine T_pd [50,51] [(52,vi g)]<|T_ed 3 [49,52] [(32,.bool (g==10))] ?_
  revert h;refine iO_ (λc13 h=>?_) (λc13 h=>?_)
  ·exact aI 32 (zK c13)<|aA 7<|T_nr 1 [8] [vi 3] hQ h
  refine aJ 32 (zJ c13)<|T_k<|aE<|aD<|aA 8<|T_nd 4 [32] [(55,vp i),(56,vu wv),(57,vp i),(58,vu wv)]<|T_c (some 59) h ?_;clear h
  rintro q H9 ⟨b,rfl,h⟩
  refine T_pd [57,58] [(59,vi b)]<|T_nd 3 [0,1,2] [(60,vi (iand .i64 nv 65535)),(61,vp i),(62,vu wv)]<|T_c (some 63) h ?_;clear h
  rintro o ab ⟨a,rfl,h⟩
  refine T_pd [61,62] [(63,vi a)] ?_
  obtain⟨q15,h⟩:=h
  refine T_v1 64 (binN .rem 3 (vi (iand .i64 nv 65535)) (vi a)) (vi (Int.tmod (iand .i64 nv 65535) a)) (λw _=>qQ (P:=prog) (t:=3) (k:=.i64) (x:=(iand .i64 nv 65535)) (y:=a) q15 w) [60,63]<|T_nd 1 [3] [(65,vu v)]<|T_c (some 66) h ?_;clear h
  rintro p r ⟨R,rfl,h⟩
  refine⟨[(66,vi R)],pk,?_⟩
  exact T_nr 1 [8] [vi R] hQ h
 intro hk
 refine T_nu [(0,vp i),(1,vu wv),(2,vi (iand .i64 nv 65535)),(3,vu v),(15,.bool x)] ?_
 by_cases c1:x=true
 ·have b2:x=true:=c1
  refine bG [(0,vp i),(1,vu wv),(2,vi (iand .i64 nv 65535)),(3,vu v),(15,vT)] (by rw[b2]) ?_
  refine T_nd 5 [15] [(11,.bool ((iand .i64 (iand .i64 nv 65535) 1)==0))]<|zq<|S_bd 11 (b:=((iand .i64 (iand .i64 nv 65535) 1)==0)) (v:=(x && ((iand .i64 (iand .i64 nv 65535) 1)==0))) (by simp only[b2,BL]) ?_
  exact hk
 have b2:x=false:=zZ c1
 refine bG [(0,vp i),(1,vu wv),(2,vi (iand .i64 nv 65535)),(3,vu v),(15,vF)] (by rw[b2]) ?_
 refine T_nd 5 [15] [(11,vF)]<|zq<|S_bd 11 (b:=false) (v:=(x && ((iand .i64 (iand .i64 nv 65535) 1)==0))) (by simp only[b2,BL]) ?_
 exact hk
end dT
/-! moraine/morainelaw11.Made -/
namespace cI
def K0:=Func.code f24
def K2:=cb K0
def K3:=ca K2
def K4:=cb K2
def K6:=cb K4
def K8:=cb K6
def K9:=ca K8
def K12:=cb K9
def K13:=ca K12
def K15:=cb K13
def K17:=cb K15
def K27:=cb K17
def K29:=cb K27
def K31:=cb K29
def K32:=ca K31
end cI
def cI.pt(hv:zW)(aw z xN az ag a1 af:Int)(ax:zW)(ay a0:Nat)(d:zW)(a e:Nat)(H:zV)(R:zk):Prop:=
 ∀b H1,b=H.size->H1=H.push (.cells #[vi aw,vi z,vi xN,vu az,vi ag,vu a1,vi af,vs ax ay a0] 68)->
 ∃xW s,aP H1 ((ad b).add 3) 0 [vu xW,vi s]/\
 ∃n k,aP H1 ((ad b).add 5) 0 [vu n,vi k]/\
 bH.C xW s d a e H1 (λv H2=> ∃x,v=vu x/\aP H2 ((ad b).add 5) 0 [vu n,vi k]/\
 bH.C n k d a e H2 (λa6 H3=> ∃g,a6=vu g/\
 ∃f,hat H3 (ad b)=some (vi f)/\
 if f=0 then(
 eV.C hv x g H3 (λbb H4=> ∃ra rb,bb=.tuple #[vu ra,vi rb]/\
 if rb=0 then(
 ∀aq H5,aq=H4.size->H5=H4.push (.cells #[vu ra] 28)->
 fE 1 28 8 [vu 0] d a e (some (ad aq)) 1 H5 (λap am H6=>
 R (vs ap (a+1) am) H6))
 else
 R (vs d a e) H4))
 else
 if f=1 then(
 eW.C hv x g H3 (λbf H7=> ∃o r,bf=.tuple #[vu o,vi r]/\
 if r=0 then(
 ∀av H8,av=H7.size->H8=H7.push (.cells #[vu o] 28)->
 fE 1 28 8 [vu 0] d a e (some (ad av)) 1 H8 (λac t H9=>
 R (vs ac (a+1) t) H9))
 else
 R (vs d a e) H7))
 else
 if f=2 then(
 ∃aa,hat H3 ((ad b).add 1)=some (vi aa)/\
 ∃xB m xC,hat H3 ((ad b).add 7)=some (vs xB m xC)/\
 dG.C aa H3 (λbd a4=> ∃ao,bd=vi ao/\aP a4 ((ad b).add 7) 0 [vs xB m xC]/\
 cP.C xB m xC d a e a4 (λba a5=> ∃ak ai ah,ba=vs ak ai ah/\
 dK.C hv ao 0 ak ai ah a5 (λa9 a2=> ∃i j,a9=.tuple #[vu i,vi j]/\
 if j=0 then(
 ∀au H13,au=a2.size->H13=a2.push (.cells #[vu i] 28)->
 fE 1 28 8 [vu 0] d a e (some (ad au)) 1 H13 (λae u bc=>
 R (vs ae (a+1) u) bc))
 else
 R (vs d a e) a2))))
 else
 if f=3 then(
 ∃aj,hat H3 ((ad b).add 2)=some (vi aj)/\
 dT.C hv x aj g H3 (λbe bg=> ∃a7,be=vi a7/\
 R (vs d a e) bg))
 else
 if f=4 then(
 ∀al H16,al=H3.size->H16=H3.push (.cells #[vu 20,vu 20] 28)->
 dK.C hv 10 0 (some (ad al)) 2 2 H16 (λbh a3=> ∃p q,bh=.tuple #[vu p,vi q]/\
 if q=0 then(
 ∀an H18,an=a3.size->H18=a3.push (.cells #[vu p] 28)->
 fE 1 28 8 [vu 0] d a e (some (ad an)) 1 H18 (λab y a8=>
 R (vs ab (a+1) y) a8))
 else
 R (vs d a e) a3))
 else
 R (vs d a e) H3))
namespace cI
set_option maxRecDepth 100000 in
theorem link{az ag a1 af:Int}{R:zW}(h:pt i j k v az ag a1 af z o u R A B H d):C i j k v az ag a1 af z o u R A B H d:=by
 refine T_en K0 76 func24 ?_
 intro w0 Q hQ
 unfold pt at h
 refine T_su [(0,vp i),(1,.agg #[vi j,vi k,vi v,vu az,vi ag,vu a1,vi af,vs z o u]),(2,vs R A B)]<|aA 0<|T_nw (some 4) (λb=>vp (pa b)) (.cells #[vi j,vi k,vi v,vu az,vi ag,vu a1,vi af,vs z o u] 68) ?_
 intro b H1 e1 e2
 replace h:=h b H1 e1 e2
 refine T_pd [1] [(4,vp (pa b))]<|T_ed 1 [] []<|T_sz ?_
 obtain⟨xW,s,q3,n,a0,q4,h⟩:=h
 refine yY 1 (Code.ops K3) [(3,((ad b).add 3),[vu xW,vi s]),(7,((ad b).add 5),[vu n,vi a0])] 10 (bv 10 0) (show aH _ _ _ from⟨q3,q4,trivial⟩)<|T_gp 0 (some 11) (vq ((ad b).add 3)) (bv 10 1) [(0,vp i),(2,vs R A B),(4,vp (pa b)),(11,vq ((ad b).add 3))]<|T_g1 1 12 (.agg #[vu xW,vi s]) (bv 10 3) [11] (aR 65 (vq ((ad b).add 3))) (kr 3 (λ_=>by kernel_rfl) (λ_=>by kernel_rfl) yZ (.inl (by kernel_rfl)))<|aF 2 13 (vs R A B) (bv 10 7) []<|aF 4 15 (vq ((ad b).add 5)) (bv 10 23) []<|T_g1 5 16 (.agg #[vu n,vi a0]) (bv 10 55) [15] (aR 65 (vq ((ad b).add 5))) (kr 7 (λ_=>by kernel_rfl) (λ_=>by kernel_rfl) yX (.inl (by kernel_rfl)))<|aF 6 17 (vs R A B) (bv 10 119) []<|yq 3 (some 14) (bv 10 127) 68 #[.agg #[vu xW,vi s],vs R A B] h ?_;clear h
 rintro xN H2 ⟨x,rfl,f5,h⟩
 refine⟨[(0,vp i),(2,vs R A B),(4,vp (pa b)),(14,vu x),(16,.agg #[vu n,vi a0]),(17,vs R A B)],pk,(show aH _ _ _ from⟨trivial,f5,trivial⟩),?_⟩
 refine yq 7 (some 18) (bv 10 255) 68 #[.agg #[vu n,vi a0],vs R A B] h ?_;clear h
 rintro a6 H3 ⟨g,rfl,h⟩
 refine⟨[(0,vp i),(2,vs R A B),(4,vp (pa b)),(14,vu x),(18,vu g)],pk,(show aH _ _ _ from⟨trivial,trivial,trivial⟩),?_⟩
 refine T_g 8 (some 7) (vu x) (bv 10 511) [(0,vp i),(2,vs R A B),(4,vp (pa b)),(7,vu x),(18,vu g)] (pure (.value (vu x)):Sem Next) (λ_ _ _ _ _=>rfl)<|T_g1 9 8 (vu g) (bv 10 1023) [18] (pure (.value (vu g)):Sem Next) (λ_ _ _ _ _=>rfl)<|fQ [(0,vp i),(2,vs R A B),(4,vp (pa b)),(7,vu x),(8,vu g)] sk<|yx<|aD<|aA 2<|T_ne 1 [(0,vp i),(2,vs R A B),(4,vp (pa b)),(7,vu x),(8,vu g),(9,vu 0)]<|aA 3<|T_ed 1 [] [(10,vi 1)]<|T_sz<|aA 4<|T_nd 1 [] [(19,vp (pa b))] ?_
 obtain⟨f,q6,h⟩:=h
 refine T_l1 20 3 q6 [19]<|T_e<|T_bz 0<|aA 5<|T_ed 2 [] [(21,.bool (f==0))] ?_
 revert h;refine iO_ (λc7 h=>?_) (λc7 h=>?_)
 ·refine aI 21 (zK c7)<|T_rz 6<|T_n 3 [(2,vs R A B),(24,vp i),(25,vu x),(26,vu g)]<|T_c (some 27) h ?_;clear h
  rintro bb H4 ⟨ra,rb,rfl,h⟩
  refine⟨[(2,vs R A B),(27,.tuple #[vu ra,vi rb])],pk,?_⟩
  refine T_nd 5 [27] [(9,vu ra),(10,vi rb)]<|zq<|aE<|aD<|T_sz<|aA 15<|T_ed 2 [10] [(70,.bool (rb==0))] ?_
  revert h;refine iO_ (λc9 h=>?_) (λc9 h=>?_)
  ·refine aI 70 (zK c9)<|T_rz 16<|T_n 2 [(71,vs R A B),(72,vu ra)]<|T_nw (some 73) (λb=>vs (pa b) 1 1) (.cells #[vu ra] 28) ?_
   intro aq H5 e11 e12
   replace h:=h aq H5 e11 e12
   refine T_pd [72] [(73,vs (pa aq) 1 1)]<|N_op (some 74) (fR #[32,32] 32 #[vs R A B,vs (pa aq) 1 1]) _ (λ_=>by kernel_rfl) (fu (T:=28) (sz:=1) (bytes:=8) (zero:=(vu 0:Value)) underlying32 underlying32 rfl (show prog.info? 28=some t28 from by kernel_rfl) (by kernel_rfl) (by kernel_rfl) (by decide) (by kernel_rfl) (by first | exact h | (simpa only[Value.cells,List.toList_toArray]using h))) ?_;clear h
   rintro _ H6 ⟨ap,am,rfl,h⟩
   refine⟨[(74,vs ap (A+1) am)],pk,?_⟩
   exact T_ne 1 [(2,vs ap (A+1) am)]<|aA 17<|T_nr 2 [6] [vs ap (A+1) am] hQ h
  exact aJ 70 (zJ c9)<|T_kt<|aA 17<|T_nr 2 [6] [vs R A B] hQ h
 refine aJ 21 (zJ c7)<|aA 7<|T_ed 2 [21] [(30,.bool (f==1))] ?_
 revert h;refine iO_ (λc13 h=>?_) (λc13 h=>?_)
 ·refine aI 30 (zK c13)<|T_rz 8<|T_n 3 [(2,vs R A B),(33,vp i),(34,vu x),(35,vu g)]<|T_c (some 36) h ?_;clear h
  rintro bf H7 ⟨ay,r,rfl,h⟩
  refine⟨[(2,vs R A B),(36,.tuple #[vu ay,vi r])],pk,?_⟩
  refine T_nd 5 [36] [(9,vu ay),(10,vi r)]<|zq<|aE<|aD<|T_sz<|aA 15<|T_ed 2 [10] [(70,.bool (r==0))] ?_
  revert h;refine iO_ (λc15 h=>?_) (λc15 h=>?_)
  ·refine aI 70 (zK c15)<|T_rz 16<|T_n 2 [(71,vs R A B),(72,vu ay)]<|T_nw (some 73) (λb=>vs (pa b) 1 1) (.cells #[vu ay] 28) ?_
   intro av H8 e17 e18
   replace h:=h av H8 e17 e18
   refine T_pd [72] [(73,vs (pa av) 1 1)]<|N_op (some 74) (fR #[32,32] 32 #[vs R A B,vs (pa av) 1 1]) _ (λ_=>by kernel_rfl) (fu (T:=28) (sz:=1) (bytes:=8) (zero:=(vu 0:Value)) underlying32 underlying32 rfl (show prog.info? 28=some t28 from by kernel_rfl) (by kernel_rfl) (by kernel_rfl) (by decide) (by kernel_rfl) (by first | exact h | (simpa only[Value.cells,List.toList_toArray]using h))) ?_;clear h
   rintro _ H9 ⟨ac,t,rfl,h⟩
   refine⟨[(74,vs ac (A+1) t)],pk,?_⟩
   exact T_ne 1 [(2,vs ac (A+1) t)]<|aA 17<|T_nr 2 [6] [vs ac (A+1) t] hQ h
  exact aJ 70 (zJ c15)<|T_kt<|aA 17<|T_nr 2 [6] [vs R A B] hQ h
 refine aJ 30 (zJ c13)<|aA 9<|T_ed 2 [30] [(39,.bool (f==2))] ?_
 revert h;refine iO_ (λc19 h=>?_) (λc19 h=>?_)
 ·refine aI 39 (zK c19) ?_
  obtain⟨aa,q21,xB,m,xC,q22,h⟩:=h
  refine yY 10 (Code.ops K32) [(3,((ad b).add 1),[vi aa]),(7,((ad b).add 7),[vs xB m xC])] 14 (bv 14 0) (show aH _ _ _ from⟨⟨q21,trivial⟩,⟨q22,trivial⟩,trivial⟩)<|T_gp 0 (some 42) (vp i) (bv 14 1) [(2,vs R A B),(4,vp (pa b)),(9,vu 0),(10,vi 1),(42,vp i)]<|aF 1 43 (vq ((ad b).add 1)) (bv 14 3) []<|T_g1 2 44 (vi aa) (bv 14 7) [43] (aR 3 (vq ((ad b).add 1))) (yW 3 yZ)<|aF 4 46 (vq ((ad b).add 7)) (bv 14 23) [4]<|T_g1 5 47 (vs xB m xC) (bv 14 55) [46] (aR 66 (vq ((ad b).add 7))) (yW 7 yX)<|aF 6 48 (vs R A B) (bv 14 119) []<|yq 3 (some 45) (bv 14 127) 69 #[vi aa] h ?_;clear h
  rintro bd a4 ⟨ao,rfl,f23,h⟩
  refine⟨[(2,vs R A B),(9,vu 0),(10,vi 1),(42,vp i),(45,vi ao),(47,vs xB m xC),(48,vs R A B)],pk,(show aH _ _ _ from⟨trivial,f23,trivial⟩),?_⟩
  refine yq 7 (some 49) (bv 14 255) 70 #[vs xB m xC,vs R A B] h ?_;clear h
  rintro ba a5 ⟨ak,ai,ah,rfl,h⟩
  refine⟨[(2,vs R A B),(9,vu 0),(10,vi 1),(42,vp i),(45,vi ao),(49,vs ak ai ah)],pk,(show aH _ _ _ from⟨trivial,trivial,trivial⟩),?_⟩
  refine yq 8 (some 50) (bv 14 511) 10 #[vp i,vi ao,vu 0,vs ak ai ah] h ?_;clear h
  rintro a9 a2 ⟨e,a,rfl,h⟩
  refine⟨[(2,vs R A B),(9,vu 0),(10,vi 1),(50,.tuple #[vu e,vi a])],pk,(show aH _ _ _ from⟨trivial,trivial,trivial⟩),?_⟩
  refine T_g 9 (some 41) (.tuple #[vu e,vi a]) (bv 14 1023) [(2,vs R A B),(9,vu 0),(10,vi 1),(41,.tuple #[vu e,vi a])] (pure (.value (.tuple #[vu e,vi a])):Sem Next) (λ_ _ _ _ _=>rfl)<|T_g1 10 51 (vu e) (bv 14 2047) [] (pure (.value (vu e)):Sem Next) (λ_ _ _ _ _=>rfl)<|T_g1 11 52 (vi a) (bv 14 4095) [41] (pure (.value (vi a)):Sem Next) (λ_ _ _ _ _=>rfl)<|T_g1 12 9 (vu e) (bv 14 8191) [9,51] (pure (.value (vu e)):Sem Next) (λ_ _ _ _ _=>rfl)<|T_g1 13 10 (vi a) (bv 14 16383) [10,52] (pure (.value (vi a)):Sem Next) (λ_ _ _ _ _=>rfl)<|fQ [(2,vs R A B),(9,vu e),(10,vi a)] sk<|yx<|aE<|aD<|T_sz<|aA 15<|T_ne 2 [(2,vs R A B),(9,vu e),(70,.bool (a==0))] ?_
  revert h;refine iO_ (λc24 h=>?_) (λc24 h=>?_)
  ·refine aI 70 (zK c24)<|T_rz 16<|T_n 2 [(71,vs R A B),(72,vu e)]<|T_nw (some 73) (λb=>vs (pa b) 1 1) (.cells #[vu e] 28) ?_
   intro au H13 e26 e27
   replace h:=h au H13 e26 e27
   refine T_pd [72] [(73,vs (pa au) 1 1)]<|N_op (some 74) (fR #[32,32] 32 #[vs R A B,vs (pa au) 1 1]) _ (λ_=>by kernel_rfl) (fu (T:=28) (sz:=1) (bytes:=8) (zero:=(vu 0:Value)) underlying32 underlying32 rfl (show prog.info? 28=some t28 from by kernel_rfl) (by kernel_rfl) (by kernel_rfl) (by decide) (by kernel_rfl) (by first | exact h | (simpa only[Value.cells,List.toList_toArray]using h))) ?_;clear h
   rintro _ bc ⟨ae,ax,rfl,h⟩
   refine⟨[(74,vs ae (A+1) ax)],pk,?_⟩
   exact T_ne 1 [(2,vs ae (A+1) ax)]<|aA 17<|T_nr 2 [6] [vs ae (A+1) ax] hQ h
  exact aJ 70 (zJ c24)<|T_kt<|aA 17<|T_nr 2 [6] [vs R A B] hQ h
 refine aJ 39 (zJ c19)<|aA 11<|T_ed 2 [39] [(53,.bool (f==3))] ?_
 revert h;refine iO_ (λc28 h=>?_) (λc28 h=>?_)
 ·refine aI 53 (zK c28)<|T_rz 12<|T_nd 3 [0,4,7,20,53] [(55,vp i),(56,vu x),(57,vq ((ad b).add 2))] ?_
  obtain⟨aj,q30,h⟩:=h
  refine T_l1 58 3 q30 [57]<|T_nd 1 [8] [(59,vu g)]<|T_c (some 60) h ?_;clear h
  rintro be bg ⟨a7,rfl,h⟩
  exact T_pd [55,56,58,59] []<|zq<|aE<|aD<|T_sz<|aA 15<|T_ed 2 [10] [(70,vF)]<|T_fz 70<|T_kt<|aA 17<|T_nr 2 [6] [vs R A B] hQ h
 refine aJ 53 (zJ c28)<|aA 13<|T_ed 2 [4,7,8,20,53] [(61,.bool (f==4))] ?_
 revert h;refine iO_ (λc31 h=>?_) (λc31 h=>?_)
 ·refine aI 61 (zK c31)<|T_rz 14<|T_n 1 [(2,vs R A B),(64,vp i)]<|T_nw (some 65) (λb=>vs (pa b) 2 2) (.cells #[vu 20,vu 20] 28) ?_
  intro al H16 e33 e34
  replace h:=h al H16 e33 e34
  refine T_pd [] [(65,vs (pa al) 2 2)]<|T_c (some 66) h ?_;clear h
  rintro bh a3 ⟨p,q,rfl,h⟩
  refine T_pd [64,65] [(66,.tuple #[vu p,vi q])]<|T_nd 5 [66] [(9,vu p),(10,vi q)]<|zq<|aE<|aD<|T_sz<|aA 15<|T_ed 2 [10] [(70,.bool (q==0))] ?_
  revert h;refine iO_ (λc35 h=>?_) (λc35 h=>?_)
  ·refine aI 70 (zK c35)<|T_rz 16<|T_n 2 [(71,vs R A B),(72,vu p)]<|T_nw (some 73) (λb=>vs (pa b) 1 1) (.cells #[vu p] 28) ?_
   intro an H18 e37 e38
   replace h:=h an H18 e37 e38
   refine T_pd [72] [(73,vs (pa an) 1 1)]<|N_op (some 74) (fR #[32,32] 32 #[vs R A B,vs (pa an) 1 1]) _ (λ_=>by kernel_rfl) (fu (T:=28) (sz:=1) (bytes:=8) (zero:=(vu 0:Value)) underlying32 underlying32 rfl (show prog.info? 28=some t28 from by kernel_rfl) (by kernel_rfl) (by kernel_rfl) (by decide) (by kernel_rfl) (by first | exact h | (simpa only[Value.cells,List.toList_toArray]using h))) ?_;clear h
   rintro _ a8 ⟨ab,y,rfl,h⟩
   refine⟨[(74,vs ab (A+1) y)],pk,?_⟩
   exact T_ne 1 [(2,vs ab (A+1) y)]<|aA 17<|T_nr 2 [6] [vs ab (A+1) y] hQ h
  exact aJ 70 (zJ c35)<|T_kt<|aA 17<|T_nr 2 [6] [vs R A B] hQ h
 exact aJ 61 (zJ c31)<|T_k<|aE<|aD<|T_sz<|aA 15<|T_ed 2 [0,10,61] [(70,vF)]<|T_fz 70<|T_kt<|aA 17<|T_nr 2 [6] [vs R A B] hQ h
end cI
/-! moraine/morainelaw12.queue -/
namespace bV
def K0:=Func.code Tryz.f17
def K2:=cb K0
def K4:=cb K2
def K6:=cb K4
def K8:=cb K6
def K10:=cb K8
def K17:=ca K10
def K19:=ca K17
def K20:=ca K19
end bV
def bV.pt(hv:zW)(e:Int)(H:zV)(R:zk):Prop:=
 eG.C hv e 10 0 H (λv H1=> ∃ra rb,v=.tuple #[vu ra,vi rb]/\
 eG.C hv e 10 1 H1 (λn H2=> ∃a j,n=.tuple #[vu a,vi j]/\
 if(((rb !=0) || (j !=0)) || (!((ra==20)==(a==20))))=true then(
 R (.tuple #[vN,vF]) H2)
 else
 ∃(m:zW->Nat->Nat->zv) (m21:zW->Nat->Nat->Int->zV->Nat),m none 0 0 ra H2/\ ∀lB lN lC p H3,m lB lN lC p H3->
 if p=20 then(
 R (.tuple #[vs lB lN lC,vT]) H3)
 else
 eF.C hv p H3 (λo H4=> ∃f g,o=.tuple #[vu f,vi g]/\
 fW.C hv p H4 (λq H5=> ∃d i,q=.tuple #[vu d,vi i]/\
 if((((g !=0) || (i !=0)) || (decide ((lN:Int)>100000))) || (!((d==20)==(p==a))))=true then(
 R (.tuple #[vN,vF]) H5)
 else
 ∀b H6,b=H5.size->H6=H5.push (.cells #[vu f] 28)->
 fE 1 28 8 [vu 0] lB lN lC (some (ad b)) 1 H6 (λap k H7=>
 (m ap (lN+1) k d H7/\m21 ap (lN+1) k d H7<m21 lB lN lC p H3))))))
namespace bV
set_option maxRecDepth 100000 in
theorem link(h:pt i j H d):C i j H d:=by
 refine T_en K0 79 func17 ?_
 intro w0 Q hQ
 unfold pt at h
 refine T_su [(0,vp i),(1,vu j)]<|aA 0<|T_ed 2 [] []<|aA 1<|T_ed 1 [] [(6,vN)]<|aA 2<|T_nd 2 [] [(16,vp i),(17,vu j)]<|T_c (some 18) h ?_;clear h
 rintro v H1 ⟨ra,rb,rfl,h⟩
 refine T_pd [16,17] [(18,.tuple #[vu ra,vi rb])]<|T_ed 5 [18] [(7,vu ra),(8,vi rb)]<|aA 3<|T_nd 2 [1] [(22,vp i),(23,vu j)]<|T_c (some 24) h ?_;clear h
 rintro n H2 ⟨a,hv,rfl,h⟩
 refine T_pd [22,23] [(24,.tuple #[vu a,vi hv])]<|T_ed 5 [24] [(9,vu a),(10,vi hv)]<|T_sz<|aA 4 ?_
 refine gz [(0,vp i),(6,vN),(7,vu ra),(9,vu a),(39,.bool (((rb !=0) || (hv !=0)) || (!((ra==20)==(a==20)))))] ?_ ?_
 ·refine aD ?_
  revert h;refine iO_ (λc5 h=>?_) (λc5 h=>?_)
  ·exact aI 39 c5<|aA 5<|T_nr 2 [4,5] [vN,vF] hQ h
  refine aJ 39 (zZ c5)<|T_kt<|T_sz<|T_bz 0 ?_
  obtain⟨m,m21,i7,i8⟩:=h
  refine bR (x:=K20) (σ:=zW×Nat×Nat×Int) (λs_=> [(0,vp i),(6,vs s_.1 s_.2.1 s_.2.2.1),(7,vu s_.2.2.2),(9,vu a)]) (λs_ H=>m s_.1 s_.2.1 s_.2.2.1 s_.2.2.2 H) (λs_ H=>m21 s_.1 s_.2.1 s_.2.2.1 s_.2.2.2 H) ((none,0,0,ra):zW×Nat×Nat×Int) (by kernel_rfl) i7 sk ?_
  rintro⟨lB,lN,lC,p⟩ H3 i9
  have h:=i8 lB lN lC p H3 i9
  refine T_su [(0,vp i),(6,vs lB lN lC),(7,vu p),(9,vu a)]<|T_sz<|aA 6<|T_ed 2 [] [(41,.bool (p !=20))] ?_
  revert h;refine iO_ (λc10 h=>?_) (λc10 h=>?_)
  ·exact aJ 41 (bne_eq_false_iff_eq.mpr c10)<|zj 0<|aB<|aB<|aM<|aD<|aA 13<|T_nr 3 [4,5] [vs lB lN lC,vT] hQ h
  refine aI 41 (bne_iff_ne.mpr c10)<|T_kt<|T_bz 1<|aA 7<|T_nd 2 [41] [(43,vp i),(44,vu p)]<|T_c (some 45) h ?_;clear h
  rintro o H4 ⟨f,g,rfl,h⟩
  refine T_pd [43,44] [(45,.tuple #[vu f,vi g])]<|T_ed 5 [45] [(11,vu f),(12,vi g)]<|aA 8<|T_nd 2 [] [(49,vp i),(50,vu p)]<|T_c (some 51) h ?_;clear h
  rintro q H5 ⟨R,e,rfl,h⟩
  refine T_pd [49,50] [(51,.tuple #[vu R,vi e])]<|T_ed 5 [51] [(13,vu R),(14,vi e)]<|T_sz<|aA 9 ?_
  refine gz [(0,vp i),(6,vs lB lN lC),(9,vu a),(11,vu f),(13,vu R),(72,.bool ((((g !=0) || (e !=0)) || (decide ((lN:Int)>100000))) || (!((R==20)==(p==a)))))] ?_ ?_
  ·refine aD ?_
   revert h;refine iO_ (λc18 h=>?_) (λc18 h=>?_)
   ·exact aI 72 c18<|aA 10<|T_nr 2 [4,5] [vN,vF] hQ h
   refine aJ 72 (zZ c18)<|T_kt<|aA 11<|T_n 2 [(0,vp i),(9,vu a),(13,vu R),(73,vs lB lN lC),(74,vu f)]<|T_nw (some 75) (λb=>vs (pa b) 1 1) (.cells #[vu f] 28) ?_
   intro b H6 e20 e21
   replace h:=h b H6 e20 e21
   refine T_pd [74] [(75,vs (pa b) 1 1)]<|N_op (some 76) (fR #[32,32] 32 #[vs lB lN lC,vs (pa b) 1 1]) _ (λ_=>by kernel_rfl) (fu (T:=28) (sz:=1) (bytes:=8) (zero:=(vu 0:Value)) underlying32 underlying32 rfl (show prog.info? 28=some t28 from by kernel_rfl) (by kernel_rfl) (by kernel_rfl) (by decide) (by kernel_rfl) (by first | exact h | (simpa only[Value.cells,List.toList_toArray]using h))) ?_;clear h
   rintro _ H7 ⟨ap,k,rfl,h⟩
   exact T_pd [73,75] [(76,vs ap (lN+1) k)]<|T_ed 1 [76] [(6,vs ap (lN+1) k)]<|T_rz 12<|T_nd 2 [13] [(7,vu R)]<|zq<|aE<|aD<|aQ ((ap,(lN+1),k,R):zW×Nat×Nat×Int) sk h
  intro hk
  refine T_n 3 [(0,vp i),(6,vs lB lN lC),(7,vu p),(9,vu a),(11,vu f),(13,vu R),(14,vi e),(56,.bool (g !=0))] ?_
  by_cases c12:g=0
  ·have b13:(g !=0)=false:=bne_eq_false_iff_eq.mpr c12
   refine bG [(0,vp i),(6,vs lB lN lC),(7,vu p),(9,vu a),(11,vu f),(13,vu R),(14,vi e),(56,vF)] (by rw[b13]) ?_
   refine T_nd 4 [14,56] [(60,.bool (e !=0))] ?_
   by_cases c14:e=0
   ·have b15:(e !=0)=false:=bne_eq_false_iff_eq.mpr c14
    refine N_bd 60 b15<|T_nd 5 [60] [(65,.bool (decide ((lN:Int)>100000)))] ?_
    by_cases c16:(lN:Int)>100000
    ·have b17:(decide ((lN:Int)>100000))=true:=zX c16
     refine N_bd 65 b17<|T_nd 7 [7,65] [(72,vT)] ?_
     refine zq<|S_bd 72 (b:=true) (v:=((((g !=0) || (e !=0)) || (decide ((lN:Int)>100000))) || (!((R==20)==(p==a))))) (by simp only[b13,b15,b17,BL]) ?_
     exact hk
    have b17:(decide ((lN:Int)>100000))=false:=zQ c16
    refine N_bd 65 b17<|T_nd 7 [7,65] [(72,.bool (!((R==20)==(p==a))))] ?_
    refine zq<|S_bd 72 (b:=(!((R==20)==(p==a)))) (v:=((((g !=0) || (e !=0)) || (decide ((lN:Int)>100000))) || (!((R==20)==(p==a))))) (by simp only[b13,b15,b17,BL]) ?_
    exact hk
   have b15:(e !=0)=true:=bne_iff_ne.mpr c14
   refine N_bd 60 b15<|T_nd 12 [7,60] [(72,vT)] ?_
   refine zq<|S_bd 72 (b:=true) (v:=((((g !=0) || (e !=0)) || (decide ((lN:Int)>100000))) || (!((R==20)==(p==a))))) (by simp only[b13,b15,BL]) ?_
   exact hk
  have b13:(g !=0)=true:=bne_iff_ne.mpr c12
  refine bG [(0,vp i),(6,vs lB lN lC),(7,vu p),(9,vu a),(11,vu f),(13,vu R),(14,vi e),(56,vT)] (by rw[b13]) ?_
  refine T_nd 16 [7,14,56] [(72,vT)]<|zq<|S_bd 72 (b:=true) (v:=((((g !=0) || (e !=0)) || (decide ((lN:Int)>100000))) || (!((R==20)==(p==a))))) (by simp only[b13,BL]) ?_
  exact hk
 intro hk
 refine T_n 3 [(0,vp i),(6,vN),(7,vu ra),(9,vu a),(10,vi hv),(29,.bool (rb !=0))] ?_
 by_cases c1:rb=0
 ·have b2:(rb !=0)=false:=bne_eq_false_iff_eq.mpr c1
  refine bG [(0,vp i),(6,vN),(7,vu ra),(9,vu a),(10,vi hv),(29,vF)] (by rw[b2]) ?_
  refine T_nd 4 [10,29] [(33,.bool (hv !=0))] ?_
  by_cases c3:hv=0
  ·have b4:(hv !=0)=false:=bne_eq_false_iff_eq.mpr c3
   refine N_bd 33 b4<|T_nd 6 [33] [(39,.bool (!((ra==20)==(a==20))))] ?_
   refine zq<|S_bd 39 (b:=(!((ra==20)==(a==20)))) (v:=(((rb !=0) || (hv !=0)) || (!((ra==20)==(a==20))))) (by simp only[b2,b4,BL]) ?_
   exact hk
  have b4:(hv !=0)=true:=bne_iff_ne.mpr c3
  refine N_bd 33 b4<|T_nd 6 [33] [(39,vT)] ?_
  refine zq<|S_bd 39 (b:=true) (v:=(((rb !=0) || (hv !=0)) || (!((ra==20)==(a==20))))) (by simp only[b2,b4,BL]) ?_
  exact hk
 have b2:(rb !=0)=true:=bne_iff_ne.mpr c1
 refine bG [(0,vp i),(6,vN),(7,vu ra),(9,vu a),(10,vi hv),(29,vT)] (by rw[b2]) ?_
 refine T_nd 10 [10,29] [(39,vT)]<|zq<|S_bd 39 (b:=true) (v:=(((rb !=0) || (hv !=0)) || (!((ra==20)==(a==20))))) (by simp only[b2,BL]) ?_
 exact hk
end bV
/-! moraine/morainelaw12.awake -/
namespace bJ
def K0:=Func.code f9
end bJ
def bJ.pt(H:zV)(R:zk):Prop:=
 iZ.C 40 H (λv H1=> ∃ra rb,v=.tuple #[vp ra,vi rb]/\
 if rb=0 then(
 gM ra (
 R vF H1) (λa=>
 ∀b H2,b=H1.size->H2=H1.push (.cells #[vu 20,vu 20] 28)->
 dK.C (some a) 10 0 (some (ad b)) 2 2 H2 (λai H3=> ∃o z,ai=.tuple #[vu o,vi z]/\
 eV.C (some a) 8 20 H3 (λan H4=> ∃n u,an=.tuple #[vu n,vi u]/\
 eW.C (some a) n 20 H4 (λaq H5=> ∃q y,aq=.tuple #[vu q,vi y]/\
 gj.C (some a) 0 0 1 H5 (λap H6=> ∃d r,ap=.tuple #[vp d,vi r]/\
 if r=0 then(
 aT.C d o H6 (λam H7=> ∃x,am=vu x/\
 aT.C d q H7 (λal H8=> ∃p,al=vu p/\
 bS.C d H8 (λ_ H9=>
 ∀t H10,t=H9.size->H10=H9.push (.cells #[vu n,vu x] 36)->
 eO.C d (some (ad t)) 1 1 H10 (λav af=> ∃xB xN xC,av=vs xB xN xC/\
 gl.C d af (λ_ ag=>
 cS.C d ag (λ_ ah=>
 eG.C (some a) x 10 0 ah (λab ao=> ∃s j,ab=.tuple #[vu s,vi j]/\
 eF.C (some a) s ao (λac au=> ∃e m,ac=.tuple #[vu e,vi m]/\
 eF.C (some a) p au (λae ak=> ∃f k,ae=.tuple #[vu f,vi k]/\
 eF.C (some a) f ak (λaa aj=> ∃g i,aa=.tuple #[vu g,vi i]/\
 R (.bool ((((((((xN:Int)==0) && (j==0)) && (m==0)) && (k==0)) && (e==f)) && (g==8)) && (i==0))) aj)))))))))))
 else
 R vF H6))))))
 else
 R vF H1)
namespace bJ
set_option maxRecDepth 100000 in
theorem link(h:pt H d):C H d:=by
 refine T_en K0 124 func9 ?_
 intro w0 Q hQ
 unfold pt at h
 refine T_su []<|aA 0<|T_ne 1 []<|aA 1<|T_c (some 21) h ?_;clear h
 rintro v H1 ⟨ra,rb,rfl,h⟩
 refine⟨[(21,.tuple #[vp ra,vi rb])],pk,?_⟩
 refine T_ne 5 [(1,vp ra),(2,vi rb)]<|T_sz<|aA 2<|T_nd 3 [2] [(26,.bool (rb !=0))] ?_
 revert h;refine iO_ (λc1 h=>?_) (λc1 h=>?_)
 ·refine N_bd 26 (bne_eq_false_iff_eq.mpr c1)<|T_nd 1 [] [(27,vp ra)] ?_
  rcases ra with _ | a
  ·rw[onPtr_none]at h
   exact T_ne 2 [(1,vp none),(29,vT)]<|T_tz 29<|aA 3<|T_nr 1 [0] [vF] hQ h
  rw[onPtr_some]at h
  refine T_ne 2 [(1,vq a),(29,vF)]<|T_fz 29<|T_kt<|aA 4<|T_nd 1 [29] [(31,vq a)]<|T_nw (some 32) (λb=>vs (pa b) 2 2) (.cells #[vu 20,vu 20] 28) ?_
  intro b H2 e3 e4
  replace h:=h b H2 e3 e4
  refine T_pd [] [(32,vs (pa b) 2 2)]<|T_c (some 33) h ?_;clear h
  rintro ai H3 ⟨o,z,rfl,h⟩
  refine T_pd [31,32] [(33,.tuple #[vu o,vi z])]<|T_ed 5 [33] [(3,vu o)]<|aA 5<|T_nd 1 [] [(37,vq a)]<|T_c (some 38) h ?_;clear h
  rintro an H4 ⟨n,u,rfl,h⟩
  refine T_pd [37] [(38,.tuple #[vu n,vi u])]<|T_ed 5 [38] [(5,vu n)]<|aA 6<|T_nd 2 [] [(42,vq a),(43,vu n)]<|T_c (some 44) h ?_;clear h
  rintro aq H5 ⟨q,y,rfl,h⟩
  refine T_pd [42,43] [(44,.tuple #[vu q,vi y])]<|T_ed 5 [44] [(7,vu q)]<|aA 7<|T_nd 1 [] [(48,vq a)]<|T_c (some 49) h ?_;clear h
  rintro ap H6 ⟨R,r,rfl,h⟩
  refine T_pd [48] [(49,.tuple #[vp R,vi r])]<|T_ed 5 [49] [(9,vp R),(10,vi r)]<|T_sz<|aA 8<|T_ed 2 [10] [(53,.bool (r !=0))] ?_
  revert h;refine iO_ (λc5 h=>?_) (λc5 h=>?_)
  ·refine aJ 53 (bne_eq_false_iff_eq.mpr c5)<|T_kt<|aA 10<|T_nd 2 [3,53] [(54,vp R),(55,vu o)]<|T_c (some 56) h ?_;clear h
   rintro am H7 ⟨x,rfl,h⟩
   refine T_pd [54,55] [(56,vu x)]<|T_nd 2 [7] [(57,vp R),(58,vu q)]<|T_c (some 59) h ?_;clear h
   rintro al H8 ⟨p,rfl,h⟩
   refine T_pd [57,58] [(59,vu p)]<|T_ed 2 [56,59] [(3,vu x),(7,vu p)]<|aA 11<|T_nd 1 [] [(60,vp R)]<|T_c (some 61) h ?_;clear h
   intro v_8 H9 h
   refine T_pd [60] []<|T_e<|aA 12<|T_nd 4 [5] [(62,vp R),(65,.agg #[vu n,vu x])]<|T_nw (some 66) (λb=>vs (pa b) 1 1) (.cells #[vu n,vu x] 36) ?_
   intro t H10 e7 e8
   replace h:=h t H10 e7 e8
   refine T_pd [65] [(66,vs (pa t) 1 1)]<|T_c (some 67) h ?_;clear h
   rintro av af ⟨xB,xN,xC,rfl,h⟩
   refine T_pd [62,66] [(67,vs xB xN xC)]<|T_ed 1 [67] [(11,vs xB xN xC)]<|aA 13<|T_nd 1 [] [(68,vp R)]<|T_c (some 69) h ?_;clear h
   intro v_10 ag h
   refine T_pd [68] []<|T_e<|aA 14<|T_nd 1 [9] [(70,vp R)]<|T_c (some 71) h ?_;clear h
   intro v_11 ah h
   refine T_pd [70] []<|T_e<|aA 15<|T_nd 2 [3] [(73,vq a),(74,vu x)]<|T_c (some 75) h ?_;clear h
   rintro ab ao ⟨s,j,rfl,h⟩
   refine T_pd [73,74] [(75,.tuple #[vu s,vi j])]<|T_ed 5 [75] [(12,vu s),(13,vi j)]<|aA 16<|T_nd 2 [12] [(79,vq a),(80,vu s)]<|T_c (some 81) h ?_;clear h
   rintro ac au ⟨e,m,rfl,h⟩
   refine T_pd [79,80] [(81,.tuple #[vu e,vi m])]<|T_ed 5 [81] [(14,vu e),(15,vi m)]<|aA 17<|T_nd 2 [7] [(85,vq a),(86,vu p)]<|T_c (some 87) h ?_;clear h
   rintro ae ak ⟨f,k,rfl,h⟩
   refine T_pd [85,86] [(87,.tuple #[vu f,vi k])]<|T_ed 5 [87] [(16,vu f),(17,vi k)]<|aA 18<|T_nd 2 [1] [(91,vq a),(92,vu f)]<|T_c (some 93) h ?_;clear h
   rintro aa aj ⟨g,i,rfl,h⟩
   refine T_pd [91,92] [(93,.tuple #[vu g,vi i])]<|T_ed 5 [93] [(18,vu g),(19,vi i)]<|aA 19 ?_
   refine gz [(0,.bool ((((((((xN:Int)==0) && (j==0)) && (m==0)) && (k==0)) && (e==f)) && (g==8)) && (i==0)))] ?_ ?_
   ·exact aD<|ia [0] [.bool ((((((((xN:Int)==0) && (j==0)) && (m==0)) && (k==0)) && (e==f)) && (g==8)) && (i==0))] hQ h
   intro hk
   refine T_n 4 [(13,vi j),(14,vu e),(15,vi m),(16,vu f),(17,vi k),(18,vu g),(19,vi i),(99,.bool ((xN:Int)==0))] ?_
   by_cases c9:(xN:Int)=0
   ·have b10:((xN:Int)==0)=true:=zK c9
    refine bG [(13,vi j),(14,vu e),(15,vi m),(16,vu f),(17,vi k),(18,vu g),(19,vi i),(99,vT)] (by rw[b10]) ?_
    refine T_nd 4 [13,99] [(103,.bool (j==0))] ?_
    by_cases c11:j=0
    ·have b12:(j==0)=true:=zK c11
     refine N_bd 103 b12<|T_nd 4 [15,103] [(107,.bool (m==0))] ?_
     by_cases c13:m=0
     ·have b14:(m==0)=true:=zK c13
      refine N_bd 107 b14<|T_nd 4 [17,107] [(111,.bool (k==0))] ?_
      by_cases c15:k=0
      ·have b16:(k==0)=true:=zK c15
       refine N_bd 111 b16<|T_nd 5 [14,16,111] [(116,.bool (e==f))] ?_
       by_cases c17:e=f
       ·have b18:(e==f)=true:=zK c17
        refine N_bd 116 b18<|T_n 4 [(19,vi i),(120,.bool (g==8))] ?_
        by_cases c19:g=8
        ·have b20:(g==8)=true:=zK c19
         refine bG [(19,vi i),(120,vT)] (by rw[b20]) ?_
         refine T_n 4 [(0,.bool (i==0))]<|zq<|gD [(0,.bool ((((((((xN:Int)==0) && (j==0)) && (m==0)) && (k==0)) && (e==f)) && (g==8)) && (i==0)))] (by simp only[b10,b12,b14,b16,b18,b20,BL]) ?_
         exact hk
        have b20:(g==8)=false:=zJ c19
        refine bG [(19,vi i),(120,vF)] (by rw[b20]) ?_
        refine T_n 4 [(0,vF)]<|zq<|gD [(0,.bool ((((((((xN:Int)==0) && (j==0)) && (m==0)) && (k==0)) && (e==f)) && (g==8)) && (i==0)))] (by simp only[b10,b12,b14,b16,b18,b20,BL]) ?_
        exact hk
       have b18:(e==f)=false:=zJ c17
       refine N_bd 116 b18<|T_n 8 [(0,vF)] ?_
       refine zq<|gD [(0,.bool ((((((((xN:Int)==0) && (j==0)) && (m==0)) && (k==0)) && (e==f)) && (g==8)) && (i==0)))] (by simp only[b10,b12,b14,b16,b18,BL]) ?_
       exact hk
      have b16:(k==0)=false:=zJ c15
      refine N_bd 111 b16<|T_n 13 [(0,vF)] ?_
      refine zq<|gD [(0,.bool ((((((((xN:Int)==0) && (j==0)) && (m==0)) && (k==0)) && (e==f)) && (g==8)) && (i==0)))] (by simp only[b10,b12,b14,b16,BL]) ?_
      exact hk
     have b14:(m==0)=false:=zJ c13
     refine N_bd 107 b14<|T_n 17 [(0,vF)] ?_
     refine zq<|gD [(0,.bool ((((((((xN:Int)==0) && (j==0)) && (m==0)) && (k==0)) && (e==f)) && (g==8)) && (i==0)))] (by simp only[b10,b12,b14,BL]) ?_
     exact hk
    have b12:(j==0)=false:=zJ c11
    refine N_bd 103 b12<|T_n 21 [(0,vF)] ?_
    refine zq<|gD [(0,.bool ((((((((xN:Int)==0) && (j==0)) && (m==0)) && (k==0)) && (e==f)) && (g==8)) && (i==0)))] (by simp only[b10,b12,BL]) ?_
    exact hk
   have b10:((xN:Int)==0)=false:=zJ c9
   refine bG [(13,vi j),(14,vu e),(15,vi m),(16,vu f),(17,vi k),(18,vu g),(19,vi i),(99,vF)] (by rw[b10]) ?_
   refine T_n 25 [(0,vF)]<|zq<|gD [(0,.bool ((((((((xN:Int)==0) && (j==0)) && (m==0)) && (k==0)) && (e==f)) && (g==8)) && (i==0)))] (by simp only[b10,BL]) ?_
   exact hk
  exact aI 53 (bne_iff_ne.mpr c5)<|aA 9<|T_nr 1 [0] [vF] hQ h
 exact N_bd 26 (bne_iff_ne.mpr c1)<|T_ed 3 [26] [(29,vT)]<|T_tz 29<|aA 3<|T_nr 1 [0] [vF] hQ h
end bJ
/-! moraine/morainelaw12.many -/
namespace dA
def K0:=Func.code Tryz.f23
def K2:=cb K0
def K4:=cb K2
def K12:=cb K4
def K13:=ca K12
def K16:=cb K13
def K17:=ca K16
def K18:=ca K17
def K20:=cb K18
def K25:=ca K20
def K27:=ca K25
def K29:=cb K27
def K31:=cb K29
def K32:=ca K31
def K33:=ca K32
end dA
def dA.pt(lB:zW)(lN lC:Nat)(H:zV)(R:zk):Prop:=
 if(lN:Int)>12 then(
 R vT H)
 else
 ∃(s:Int->zv) (m19:Int->Int->zV->Nat),s 0 0 H/\ ∀nv i H1,s nv i H1->
 if i< (lN:Int)then(
 ∃d,lB=some d/\
 zw i lN/\
 ∃xB xN xC,hat H1 ((d.add (Int.toNat i*5)).add 1)=some (vs xB xN xC)/\
 ∃(u:Int->zv) (m34:Int->Int->zV->Nat),u (zY (nv+(xN:Int))) 0 H1/\ ∀b k H2,u b k H2->
 zw i lN/\
 ∃q e o,hat H2 (d.add (Int.toNat i*5))=some (vs q e o)/\
 if((decide (k< (e:Int))) && (decide (b<=400)))=true then(
 zw i lN/\
 ∃n j m,hat H2 (d.add (Int.toNat i*5))=some (vs n j m)/\
 ∃f,n=some f/\
 zw k j/\
 ∃p g r,hat H2 ((f.add (Int.toNat k*8)).add 7)=some (vs p g r)/\
 (u (zY (b+(zY (1+(zY (Int.tdiv (g:Int) 8)))))) (zY (k+1)) H2/\m34 (zY (b+(zY (1+(zY (Int.tdiv (g:Int) 8)))))) (zY (k+1)) H2<m34 b k H2))
 else
 (s b (zY (i+1)) H2/\m19 b (zY (i+1)) H2<m19 nv i H1))
 else
 R (.bool (decide (nv>400))) H1
namespace dA
set_option maxRecDepth 100000 in
theorem link(h:pt i o u H d):C i o u H d:=by
 refine T_en K0 53 func23 ?_
 intro w0 Q hQ
 unfold pt zY at h
 refine T_su [(0,vs i o u)]<|aA 0<|T_ed 1 [] []<|T_sz<|aA 1<|T_ed 3 [] [(8,.bool (decide ((o:Int)>12)))] ?_
 revert h;refine iO_ (λc1 h=>?_) (λc1 h=>?_)
 ·exact aI 8 (zX c1)<|aA 2<|T_nr 1 [2] [vT] hQ h
 refine aJ 8 (zQ c1)<|T_kt<|aA 3<|T_ed 1 [8] [(3,vi 0)]<|T_sz<|aA 4<|T_ed 1 [] [(4,vi 0)]<|T_bz 0 ?_
 obtain⟨s,m19,i3,i4⟩:=h
 refine bR (x:=K18) (σ:=Int×Int) (λs_=> [(0,vs i o u),(3,vi s_.1),(4,vi s_.2)]) (λs_ H=>s s_.1 s_.2 H) (λs_ H=>m19 s_.1 s_.2 H) ((0,0):Int×Int) (by kernel_rfl) i3 sk ?_
 rintro⟨nv,lC⟩ H1 i5
 have h:=i4 nv lC H1 i5
 refine T_su [(0,vs i o u),(3,vi nv),(4,vi lC)]<|T_sz<|aA 5<|T_ed 4 [] [(12,.bool (decide (lC< (o:Int))))] ?_
 revert h;refine iO_ (λc6 h=>?_) (λc6 h=>?_)
 ·refine aI 12 (zX c6)<|T_kt<|T_sz<|T_bz 1<|aA 7<|T_nd 3 [3,12] [(15,vi nv),(16,vs i o u),(17,vi lC)] ?_
  obtain⟨R,rfl,q8,h⟩:=h
  refine T_xd (some 18) 56 62 5 R o u .i64 lC underlying56 q8.1 q8.2 [0,16,17] [(0,vs (some R) o u),(18,vq (R.add (Int.toNat lC*5)))]<|T_nd 1 [18] [(19,vq ((R.add (Int.toNat lC*5)).add 1))] ?_
  obtain⟨xB,xN,xC,q9,h⟩:=h
  refine T_l1 20 59 q9 [19]<|T_ed 3 [15,20] [(3,vi (zY (nv+(xN:Int))))]<|aA 8<|T_ed 1 [] [(5,vi 0)]<|T_bz 2 ?_
  obtain⟨lB,m34,i10,i11⟩:=h
  refine bR (x:=K33) (σ:=Int×Int) (λs_=> [(0,vs (some R) o u),(3,vi s_.1),(4,vi lC),(5,vi s_.2)]) (λs_ H=>lB s_.1 s_.2 H) (λs_ H=>m34 s_.1 s_.2 H) (((zY (nv+(xN:Int))),0):Int×Int) (by kernel_rfl) i10 sk ?_
  rintro⟨b,k⟩ H2 i12
  have h:=i11 b k H2 i12
  refine T_su [(0,vs (some R) o u),(3,vi b),(4,vi lC),(5,vi k)]<|T_sz<|aA 9<|T_nd 3 [] [(23,vi k),(24,vs (some R) o u),(25,vi lC)] ?_
  obtain⟨q13,h⟩:=h
  refine T_xd (some 26) 56 62 5 R o u .i64 lC underlying56 q13.1 q13.2 [24,25] [(26,vq (R.add (Int.toNat lC*5)))]<|T_nd 1 [26] [(27,vq (R.add (Int.toNat lC*5)))] ?_
  obtain⟨q,e,lN,q14,h⟩:=h
  refine T_l1 28 58 q14 [27]<|T_nd 3 [23,28] [(31,.bool (decide (k< (e:Int))))] ?_
  refine gz [(0,vs (some R) o u),(3,vi b),(4,vi lC),(5,vi k),(34,.bool ((decide (k< (e:Int))) && (decide (b<=400))))] ?_ ?_
  ·refine aD ?_
   revert h;refine iO_ (λc17 h=>?_) (λc17 h=>?_)
   ·refine aI 34 c17<|T_kt<|T_sz<|T_bz 3<|T_rz 11<|T_n 3 [(0,vs (some R) o u),(4,vi lC),(5,vi k),(37,vi b),(38,vs (some R) o u),(39,vi lC)] ?_
    obtain⟨q19,h⟩:=h
    refine T_xd (some 40) 56 62 5 R o u .i64 lC underlying56 q19.1 q19.2 [38,39] [(40,vq (R.add (Int.toNat lC*5)))]<|T_nd 1 [40] [(41,vq (R.add (Int.toNat lC*5)))] ?_
    obtain⟨n,j,m,q20,h⟩:=h
    refine T_l1 42 58 q20 [41]<|T_nd 1 [] [(43,vi k)] ?_
    obtain⟨f,rfl,q21,h⟩:=h
    refine T_xd (some 44) 58 68 8 f j m .i64 k underlying58 q21.1 q21.2 [42,43] [(44,vq (f.add (Int.toNat k*8)))]<|T_nd 1 [44] [(45,vq ((f.add (Int.toNat k*8)).add 7))] ?_
    obtain⟨p,g,r,q22,h⟩:=h
    exact T_l1 46 66 q22 [45]<|T_nd 5 [37,46] [(3,vi (zY (b+(zY (1+(zY (Int.tdiv (g:Int) 8)))))))]<|zq<|aE<|aD<|T_rz 10<|T_ed 3 [5] [(5,vi (zY (k+1)))]<|aQ (((zY (b+(zY (1+(zY (Int.tdiv (g:Int) 8)))))),(zY (k+1))):Int×Int) sk h
   exact aJ 34 (zZ c17)<|zj 2<|aB<|aB<|aM<|aE<|aD<|T_rz 6<|T_ne 3 [(0,vs (some R) o u),(3,vi b),(4,vi (zY (lC+1)))]<|aQ ((b,(zY (lC+1))):Int×Int) sk h
  intro hk
  refine T_nu [(0,vs (some R) o u),(3,vi b),(4,vi lC),(5,vi k),(31,.bool (decide (k< (e:Int))))] ?_
  by_cases c15:k< (e:Int)
  ·have b16:(decide (k< (e:Int)))=true:=zX c15
   refine bG [(0,vs (some R) o u),(3,vi b),(4,vi lC),(5,vi k),(31,vT)] (by rw[b16]) ?_
   refine T_nd 3 [31] [(34,.bool (decide (b<=400)))]<|zq<|S_bd 34 (b:=(decide (b<=400))) (v:=((decide (k< (e:Int))) && (decide (b<=400)))) (by simp only[b16,BL]) ?_
   exact hk
  have b16:(decide (k< (e:Int)))=false:=zQ c15
  refine bG [(0,vs (some R) o u),(3,vi b),(4,vi lC),(5,vi k),(31,vF)] (by rw[b16]) ?_
  refine T_nd 3 [31] [(34,vF)]<|zq<|S_bd 34 (b:=false) (v:=((decide (k< (e:Int))) && (decide (b<=400)))) (by simp only[b16,BL]) ?_
  exact hk
 exact aJ 12 (zQ c6)<|zj 0<|aB<|aB<|aM<|aD<|aA 12<|T_nr 3 [2] [.bool (decide (nv>400))] hQ h
end dA
/-! moraine/morainelaw12.guarded -/
namespace bT
def K0:=Func.code f25
def K2:=cb K0
def K3:=ca K2
def K6:=cb K3
def K7:=ca K6
def K8:=ca K7
def K10:=cb K8
def K15:=ca K10
def K17:=ca K15
end bT
def bT.pt(lB:zW)(lN lC:Nat)(ab:zW)(z aa:Nat)(o:zW)(p r:Nat)(xG q ag:Int)(e:zW)(d f:Nat)(H:zV)(R:zk):Prop:=
 ∀b H1,b=H.size->H1=H.push (.cells #[vs ab z aa,vs o p r,vi xG,vi q,.int .u32 ag] 62)->
 ∃(I9:zW->Nat->Nat->zv) (m9:zW->Nat->Nat->Int->zV->Nat),I9 lB lN lC 0 H1/\ ∀g lN_2 lC_2 i H2,I9 g lN_2 lC_2 i H2->
 ∃xB xN xC,hat H2 ((ad b).add 1)=some (vs xB xN xC)/\
 if((decide (i< (xN:Int))) && (decide ((d:Int)>0)))=true then(
 ∃ak ac af,hat H2 ((ad b).add 1)=some (vs ak ac af)/\
 ∃m,ak=some m/\
 zw i ac/\
 ∃xW s,aP H2 (m.add (Int.toNat i*4)) 0 [vu xW,vi s]/\
 ∃al y ae,hat H2 ((ad b).add 1)=some (vs al y ae)/\
 ∃j,al=some j/\
 zw i y/\
 ∃u n,aP H2 ((j.add (Int.toNat i*4)).add 2) 0 [vu u,vi n]/\
 bH.C xW s e d f H2 (λv H3=> ∃x,v=vu x/\aP H3 ((ad b).add 1) 0 [vs (some j) y ae]/\aP H3 ((j.add (Int.toNat i*4)).add 2) 0 [vu u,vi n]/\
 bH.C u n e d f H3 (λam H4=> ∃ai,am=vu ai/\
 ∀aj H5,aj=H4.size->H5=H4.push (.cells #[vu x,vu ai] 36)->
 fE 2 36 16 [vu 0,vu 0] g lN_2 lC_2 (some (ad aj)) 1 H5 (λap ah H6=>
 (I9 ap (lN_2+1) ah (zY (i+1)) H6/\m9 ap (lN_2+1) ah (zY (i+1)) H6<m9 g lN_2 lC_2 i H2)))))
 else
 R (vs g lN_2 lC_2) H2
namespace bT
set_option maxRecDepth 100000 in
theorem link{aa:zW}{p r:Nat}{e:zW}{R f:Nat}(h:pt i o u z A B aa p r j k v e R f H d):C i o u z A B aa p r j k v e R f H d:=by
 refine T_en K0 41 func25 ?_
 intro w0 Q hQ
 unfold pt zY at h
 refine T_su [(0,vs i o u),(1,.agg #[vs z A B,vs aa p r,vi j,vi k,.int .u32 v]),(2,vs e R f)]<|aA 0<|T_nw (some 4) (λb=>vp (pa b)) (.cells #[vs z A B,vs aa p r,vi j,vi k,.int .u32 v] 62) ?_
 intro b H1 e1 e2
 replace h:=h b H1 e1 e2
 refine T_pd [1] [(4,vp (pa b))]<|T_ed 1 [] []<|T_sz<|aA 1<|T_ed 1 [] [(7,vi 0)]<|T_bz 0 ?_
 obtain⟨I9,m9,i3,i4⟩:=h
 refine bR (x:=K8) (σ:=zW×Nat×Nat×Int) (λs_=> [(0,vs s_.1 s_.2.1 s_.2.2.1),(2,vs e R f),(4,vp (pa b)),(7,vi s_.2.2.2)]) (λs_ H=>I9 s_.1 s_.2.1 s_.2.2.1 s_.2.2.2 H) (λs_ H=>m9 s_.1 s_.2.1 s_.2.2.1 s_.2.2.2 H) ((i,o,u,0):zW×Nat×Nat×Int) (by kernel_rfl) i3 sk ?_
 rintro⟨g,lN_2,lC_2,ag⟩ H2 i5
 have h:=i4 g lN_2 lC_2 ag H2 i5
 refine T_su [(0,vs g lN_2 lC_2),(2,vs e R f),(4,vp (pa b)),(7,vi ag)]<|T_sz<|aA 2<|T_nd 2 [] [(8,vi ag),(9,vq ((ad b).add 1))] ?_
 obtain⟨xB,xN,xC,q6,h⟩:=h
 refine T_l1 10 59 q6 [9]<|T_nd 3 [8,10] [(13,.bool (decide (ag< (xN:Int))))] ?_
 refine gz [(0,vs g lN_2 lC_2),(2,vs e R f),(4,vp (pa b)),(7,vi ag),(17,.bool ((decide (ag< (xN:Int))) && (decide ((R:Int)>0))))] ?_ ?_
 ·refine aD ?_
  revert h;refine iO_ (λc9 h=>?_) (λc9 h=>?_)
  ·refine aI 17 c9<|T_kt<|T_sz<|T_bz 1 ?_
   obtain⟨ak,ac,af,q11,m,rfl,q12,xW,s,q13,al,y,ae,q14,q,rfl,q15,ab,n,q16,h⟩:=h
   refine yY 4 (Code.ops K17) [(8,((ad b).add 1),[vs (some m) ac af]),(8,(m.add (Int.toNat ag*4)),[vu xW,vi s]),(16,((ad b).add 1),[vs (some q) y ae]),(16,((q.add (Int.toNat ag*4)).add 2),[vu ab,vi n])] 21 (bv 21 0) (show aH _ _ _ from⟨⟨q11,trivial⟩,q13,⟨q14,trivial⟩,q16,trivial⟩)<|T_gp 0 (some 20) (vs g lN_2 lC_2) (bv 21 1) [(0,vs g lN_2 lC_2),(2,vs e R f),(4,vp (pa b)),(7,vi ag),(20,vs g lN_2 lC_2)]<|aF 1 21 (vp (some ((ad b).add 1))) (bv 21 3) []<|T_g1 2 22 (vs (some m) ac af) (bv 21 7) [21] (aR 59 (vp (some ((ad b).add 1)))) (yW 8 yZ)<|aF 3 23 (vi ag) (bv 21 15) []<|T_g1 4 24 (vp (some (m.add (Int.toNat ag*4)))) (bv 21 31) [22,23] (bA 59 (vs (some m) ac af) (vi ag)) (λ_ w _ _ _=>cZ (P:=prog) (t:=59) (elem:=133) (sz:=4) (a:=m) (len:=ac) (cap:=af) (k:=.i64) (i:=ag) underlying59 (λ_=>by kernel_rfl) q12.1 q12.2 w)<|aF 5 25 (vp (some (m.add (Int.toNat ag*4)))) (bv 21 63) [24]<|T_g1 6 26 (.agg #[vu xW,vi s]) (bv 21 127) [25] (aR 65 (vp (some (m.add (Int.toNat ag*4))))) (kr 8 (λ_=>by kernel_rfl) (λ_=>by kernel_rfl) yX (.inl (by kernel_rfl)))<|aF 7 27 (vs e R f) (bv 21 255) []<|aF 9 29 (vp (some ((ad b).add 1))) (bv 21 767) []<|T_g1 10 30 (vs (some q) y ae) (bv 21 1791) [29] (aR 59 (vp (some ((ad b).add 1)))) (yW 16 yQ)<|aF 11 31 (vi ag) (bv 21 3839) []<|T_g1 12 32 (vp (some (q.add (Int.toNat ag*4)))) (bv 21 7935) [30,31] (bA 59 (vs (some q) y ae) (vi ag)) (λ_ w _ _ _=>cZ (P:=prog) (t:=59) (elem:=133) (sz:=4) (a:=q) (len:=y) (cap:=ae) (k:=.i64) (i:=ag) underlying59 (λ_=>by kernel_rfl) q15.1 q15.2 w)<|aF 13 33 (vp (some ((q.add (Int.toNat ag*4)).add 2))) (bv 21 16127) [32]<|T_g1 14 34 (.agg #[vu ab,vi n]) (bv 21 32511) [33] (aR 65 (vp (some ((q.add (Int.toNat ag*4)).add 2)))) (kr 16 (λ_=>by kernel_rfl) (λ_=>by kernel_rfl) yJ (.inl (by kernel_rfl)))<|aF 15 35 (vs e R f) (bv 21 65279) []<|yq 8 (some 28) (bv 21 65535) 68 #[.agg #[vu xW,vi s],vs e R f] h ?_;clear h
   rintro lC H3 ⟨x,rfl,f17,f18,h⟩
   refine⟨[(0,vs g lN_2 lC_2),(2,vs e R f),(4,vp (pa b)),(7,vi ag),(20,vs g lN_2 lC_2),(28,vu x),(34,.agg #[vu ab,vi n]),(35,vs e R f)],pk,(show aH _ _ _ from⟨trivial,trivial,f17,f18,trivial⟩),?_⟩
   refine yq 16 (some 36) (bv 21 131071) 68 #[.agg #[vu ab,vi n],vs e R f] h ?_;clear h
   rintro am H4 ⟨ai,rfl,h⟩
   refine⟨[(0,vs g lN_2 lC_2),(2,vs e R f),(4,vp (pa b)),(7,vi ag),(20,vs g lN_2 lC_2),(28,vu x),(36,vu ai)],pk,(show aH _ _ _ from⟨trivial,trivial,trivial,trivial,trivial⟩),?_⟩
   refine T_g 17 (some 37) (.agg #[vu x,vu ai]) (bv 21 262143) [(0,vs g lN_2 lC_2),(2,vs e R f),(4,vp (pa b)),(7,vi ag),(20,vs g lN_2 lC_2),(37,.agg #[vu x,vu ai])] (pure (.value (.agg #[vu x,vu ai])):Sem Next) (λ_ _ _ _ _=>rfl)<|nT 18 (some 38) (bv 21 524287) (λb=>vs (pa b) 1 1) (.cells #[vu x,vu ai] 36) (by kernel_rfl) (λ_=>by kernel_rfl) (by kernel_rfl) ?_
   intro aj H5 e19 e20
   replace h:=h aj H5 e19 e20
   refine⟨[(0,vs g lN_2 lC_2),(2,vs e R f),(4,vp (pa b)),(7,vi ag),(20,vs g lN_2 lC_2),(38,vs (pa aj) 1 1)],pk,(show aH _ _ _ from⟨trivial,trivial,trivial,trivial,trivial⟩),?_⟩
   refine mS 19 (some 39) (bv 21 1048575) (fR #[31,31] 31 #[vs g lN_2 lC_2,vs (pa aj) 1 1]) _ (by kernel_rfl) (λ_=>by kernel_rfl) (fu (T:=36) (sz:=2) (bytes:=16) (zero:=(.agg #[vu 0,vu 0]:Value)) underlying31 underlying31 rfl (show prog.info? 36=some t36 from by kernel_rfl) (by kernel_rfl) (by kernel_rfl) (by decide) (by kernel_rfl) (by first | exact h | (simpa only[Value.cells,List.toList_toArray]using h))) (by kernel_rfl) ?_;clear h
   rintro _ H6 ⟨ap,ah,rfl,h⟩
   refine⟨[(0,vs g lN_2 lC_2),(2,vs e R f),(4,vp (pa b)),(7,vi ag),(39,vs ap (lN_2+1) ah)],pk,(show aH _ _ _ from⟨trivial,trivial,trivial,trivial,trivial⟩),?_⟩
   exact T_g 20 (some 0) (vs ap (lN_2+1) ah) (bv 21 2097151) [(0,vs ap (lN_2+1) ah),(2,vs e R f),(4,vp (pa b)),(7,vi ag)] (pure (.value (vs ap (lN_2+1) ah)):Sem Next) (λ_ _ _ _ _=>rfl)<|fQ [(0,vs ap (lN_2+1) ah),(2,vs e R f),(4,vp (pa b)),(7,vi ag)] sk<|yx<|aE<|aD<|T_rz 3<|T_ne 3 [(0,vs ap (lN_2+1) ah),(2,vs e R f),(4,vp (pa b)),(7,vi (zY (ag+1)))]<|aQ ((ap,(lN_2+1),ah,(zY (ag+1))):zW×Nat×Nat×Int) sk h
  exact aJ 17 (zZ c9)<|zj 0<|aB<|aB<|aM<|aD<|aA 5<|T_nr 2 [6] [vs g lN_2 lC_2] hQ h
 intro hk
 refine T_nu [(0,vs g lN_2 lC_2),(2,vs e R f),(4,vp (pa b)),(7,vi ag),(13,.bool (decide (ag< (xN:Int))))] ?_
 by_cases c7:ag< (xN:Int)
 ·have b8:(decide (ag< (xN:Int)))=true:=zX c7
  refine bG [(0,vs g lN_2 lC_2),(2,vs e R f),(4,vp (pa b)),(7,vi ag),(13,vT)] (by rw[b8]) ?_
  refine T_nd 4 [13] [(17,.bool (decide ((R:Int)>0)))]<|zq<|S_bd 17 (b:=(decide ((R:Int)>0))) (v:=((decide (ag< (xN:Int))) && (decide ((R:Int)>0)))) (by simp only[b8,BL]) ?_
  exact hk
 have b8:(decide (ag< (xN:Int)))=false:=zQ c7
 refine bG [(0,vs g lN_2 lC_2),(2,vs e R f),(4,vp (pa b)),(7,vi ag),(13,vF)] (by rw[b8]) ?_
 refine T_nd 4 [13] [(17,vF)]<|zq<|S_bd 17 (b:=false) (v:=((decide (ag< (xN:Int))) && (decide ((R:Int)>0)))) (by simp only[b8,BL]) ?_
 exact hk
end bT
/-! moraine/morainelaw12.kept -/
namespace cJ
def K0:=Func.code f26
end cJ
def cJ.pt(a i:Int)(H:zV)(R:zk):Prop:=
 (0<=(Int.tmod i 32))/\
 R (.bool ((iand .u32 (ishr .u32 a (Int.tmod i 32)) 1)==1)) H
namespace cJ
set_option maxRecDepth 100000 in
theorem link(h:pt j k H d):C j k H d:=by
 refine T_en K0 11 func26 ?_
 intro w0 Q hQ
 unfold pt at h
 refine T_su [(0,.int .u32 j),(1,vi k)]<|aA 0<|T_ed 1 [] []<|aA 1<|T_n 3 [(5,.int .u32 j),(7,vi (Int.tmod k 32))] ?_
 obtain⟨q1,h⟩:=h
 exact T_v1 8 (binN .shr 60 (.int .u32 j) (vi (Int.tmod k 32))) (.int .u32 (ishr .u32 j (Int.tmod k 32))) (λw _=>qR (P:=prog) (t:=60) (k:=.u32) (k':=.i64) (x:=j) (y:=(Int.tmod k 32)) q1 w) [5,7]<|T_nr 3 [4] [.bool ((iand .u32 (ishr .u32 j (Int.tmod k 32)) 1)==1)] hQ h
end cJ
/-! moraine/morainelaw12.count -/
namespace bX
def K0:=Func.code f31
def K2:=cb K0
def K4:=cb K2
def K5:=ca K4
def K8:=cb K5
def K9:=ca K8
def K10:=ca K9
end bX
def bX.pt(lB:zW)(lN lC:Nat)(wv:Int)(H:zV)(R:zk):Prop:=
 ∃(d:Int->zv) (m11:Int->Int->zV->Nat),d 0 0 H/\ ∀nv i H1,d nv i H1->
 if i< (lN:Int)then(
 ∃b,lB=some b/\
 zw i lN/\
 ∃x,hat H1 (b.add (Int.toNat i*1))=some (vu x)/\
 if x=wv then(
 (d (zY (nv+1)) (zY (i+1)) H1/\m11 (zY (nv+1)) (zY (i+1)) H1<m11 nv i H1))
 else
 (d nv (zY (i+1)) H1/\m11 nv (zY (i+1)) H1<m11 nv i H1))
 else
 R (vi nv) H1
namespace bX
set_option maxRecDepth 100000 in
theorem link(h:pt i o u j H d):C i o u j H d:=by
 refine T_en K0 22 func31 ?_
 intro w0 Q hQ
 unfold pt zY at h
 refine T_su [(0,vs i o u),(1,vu j)]<|aA 0<|T_ed 1 [] []<|aA 1<|T_ed 1 [] [(5,vi 0)]<|T_sz<|aA 2<|T_ed 1 [] [(6,vi 0)]<|T_bz 0 ?_
 obtain⟨R,m11,i1,i2⟩:=h
 refine bR (x:=K10) (σ:=Int×Int) (λs_=> [(0,vs i o u),(1,vu j),(5,vi s_.1),(6,vi s_.2)]) (λs_ H=>R s_.1 s_.2 H) (λs_ H=>m11 s_.1 s_.2 H) ((0,0):Int×Int) (by kernel_rfl) i1 sk ?_
 rintro⟨nv,wv⟩ H1 i3
 have h:=i2 nv wv H1 i3
 refine T_su [(0,vs i o u),(1,vu j),(5,vi nv),(6,vi wv)]<|T_sz<|aA 3<|T_ed 4 [] [(10,.bool (decide (wv< (o:Int))))] ?_
 revert h;refine iO_ (λc4 h=>?_) (λc4 h=>?_)
 ·refine aI 10 (zX c4)<|T_kt<|T_sz<|T_bz 1<|aA 5<|T_nd 2 [10] [(13,vs i o u),(14,vi wv)] ?_
  obtain⟨b,rfl,q6,h⟩:=h
  refine T_xd (some 15) 32 28 1 b o u .i64 wv underlying32 q6.1 q6.2 [0,13,14] [(0,vs (some b) o u),(15,vq (b.add (Int.toNat wv*1)))] ?_
  obtain⟨x,q7,h⟩:=h
  refine T_l1 16 28 q7 [15]<|T_ed 2 [16] [(18,.bool (x==j))] ?_
  revert h;refine iO_ (λc8 h=>?_) (λc8 h=>?_)
  ·exact aI 18 (zK c8)<|T_rz 6<|T_nd 3 [5,18] [(5,vi (zY (nv+1)))]<|zq<|aE<|aD<|T_rz 4<|T_ed 3 [6] [(6,vi (zY (wv+1)))]<|aQ (((zY (nv+1)),(zY (wv+1))):Int×Int) sk h
  exact aJ 18 (zJ c8)<|T_k<|aE<|aD<|T_rz 4<|T_ed 3 [6,18] [(6,vi (zY (wv+1)))]<|aQ ((nv,(zY (wv+1))):Int×Int) sk h
 exact aJ 10 (zQ c4)<|zj 0<|aB<|aB<|aM<|aD<|aA 7<|T_nr 2 [4] [vi nv] hQ h
end bX
/-! moraine/morainelaw12.WeakGuards -/
namespace bO
def K0:=Func.code Tryz.f5
def K2:=cb K0
def K4:=cb K2
def K6:=cb K4
def K14:=cb K6
def K16:=cb K14
def K17:=ca K16
def K20:=cb K17
def K21:=ca K20
def K22:=ca K21
def K24:=cb K22
def K29:=ca K24
def K31:=ca K29
def K33:=cb K31
def K34:=ca K33
def K35:=cb K33
def K37:=cb K34
def K38:=ca K37
def K39:=ca K38
def K50:=cb K35
def K52:=cb K50
def K54:=cb K52
def K59:=ca K54
def K60:=cb K54
def K62:=cb K59
def K63:=ca K62
def K64:=ca K63
def K79:=cb K60
def K81:=cb K79
def K83:=cb K81
def K84:=ca K83
def K85:=cb K83
def K87:=cb K84
def K88:=ca K87
def K89:=ca K88
def K100:=cb K85
def K102:=cb K100
def K104:=cb K102
def K105:=ca K104
def K106:=cb K104
def K108:=cb K105
def K109:=ca K108
def K110:=ca K109
def K112:=cb K110
def K117:=ca K112
def K119:=ca K117
def K121:=cb K119
def K123:=cb K121
def K128:=ca K123
def K129:=cb K123
def K131:=cb K129
def K139:=cb K131
def K145:=cb K139
def K151:=cb K145
def K153:=cb K151
def K154:=ca K153
def K157:=cb K154
def K158:=ca K157
def K159:=ca K158
def K161:=cb K159
def K166:=ca K161
def K168:=ca K166
def K169:=ca K168
def K190:=cb K106
def K196:=cb K190
def K197:=ca K196
def K198:=cb K196
def K200:=cb K197
def K201:=ca K200
def K202:=ca K201
def K204:=cb K202
def K209:=ca K204
def K211:=ca K209
def K212:=ca K211
def K221:=cb K198
def K222:=ca K221
def K225:=cb K222
def K226:=ca K225
def K227:=ca K226
end bO
def bO.pt(bu:Int)(lB:zW)(lN lC:Nat)(H:zV)(R:zk):Prop:=
 iZ.C bu H (λv H1=> ∃ra rb,v=.tuple #[vp ra,vi rb]/\
 dA.C lB lN lC H1 (λff H2=> ∃x,ff=.bool x/\
 if(x || (rb !=0))=true then(
 ∃J:Bool->zV->Prop,(
 if rb=0 then(
 bJ.C H2 (λfc H4=> ∃dq,fc=.bool dq/\
 J dq H4))
 else
 if rb=1 then(
 bJ.C H2 (λe8 H5=> ∃dr,e8=.bool dr/\
 J dr H5))
 else
 J false H2)/\ ∀s4 H3,J s4 H3->
 R (.bool s4) H3)
 else
 ∃(dp:zW->Nat->Nat->zW->Nat->Nat->zv) (m23:zW->Nat->Nat->zW->Nat->Nat->Int->zV->Nat),dp none 0 0 none 0 0 0 H2/\ ∀ax madeN madeC entriesB entriesN entriesC i H6,dp ax madeN madeC entriesB entriesN entriesC i H6->
 if i< (lN:Int)then(
 ∃q,lB=some q/\
 zw i lN/\
 ∃bj bm bn bd be bb xG bc bq,aP H6 (q.add (Int.toNat i*5)) 0 [vs bj bm bn,vs bd be bb,vi xG,vi bc,.int .u32 bq]/\
 ∀b H7,b=H6.size->H7=H6.push (.cells #[vN,vN,vi 0,vi 0,.int .u32 0] 62)->
 (aN H7 (ad b) 0 5)/\ ∀H8,H8=aV H7 (ad b) [vs bj bm bn,vs bd be bb,vi xG,vi bc,.int .u32 bq] 0->
 ∃(dx:zW->Nat->Nat->zv) (m40:zW->Nat->Nat->Int->zV->Nat),dx ax madeN madeC 0 H8/\ ∀d madeN_2 madeC_2 k H9,dx d madeN_2 madeC_2 k H9->
 ∃xB xN xC,hat H9 (ad b)=some (vs xB xN xC)/\
 if k< (xN:Int)then(
 ∃c5 cg cs,hat H9 (ad b)=some (vs c5 cg cs)/\
 ∃ch,c5=some ch/\
 zw k cg/\
 ∃di b1 cr dd cx da cw dj dg df,aP H9 (ch.add (Int.toNat k*8)) 0 [vi di,vi b1,vi cr,vu dd,vi cx,vu da,vi cw,vs dj dg df]/\
 cI.C ra di b1 cr dd cx da cw dj dg df d madeN_2 madeC_2 H9 (λfh ei=> ∃cp ce cm,fh=vs cp ce cm/\
 (dx cp ce cm (zY (k+1)) ei/\m40 cp ce cm (zY (k+1)) ei<m40 d madeN_2 madeC_2 k H9)))
 else
 ∃bg bh bf ba a9 a7 ct a6 bp,aP H9 (ad b) 0 [vs bg bh bf,vs ba a9 a7,vi ct,vi a6,.int .u32 bp]/\
 bT.C entriesB entriesN entriesC bg bh bf ba a9 a7 ct a6 bp d madeN_2 madeC_2 H9 (λe1 d1=> ∃af g n,e1=vs af g n/\
 ∃c7,hat d1 ((ad b).add 2)=some (vi c7)/\
 ∃dn,hat d1 ((ad b).add 3)=some (vi dn)/\
 gj.C ra c7 dn 20 d1 (λe9 d2=> ∃e b5,e9=.tuple #[vp e,vi b5]/\
 if b5=0 then(
 ∃(dt:zv) (m65:Int->zV->Nat),dt 0 d2/\ ∀ao H13,dt ao H13->
 if ao< (madeN_2:Int)then(
 ∃dc,hat H13 ((ad b).add 4)=some (.int .u32 dc)/\
 cJ.C dc ao H13 (λfi du=> ∃c9,fi=.bool c9/\
 if c9=true then(
 ∃aw,d=some aw/\
 zw ao madeN_2/\
 ∃dl,hat du (aw.add (Int.toNat ao*1))=some (vu dl)/\
 aT.C e dl du (λfe ew=> ∃e7,fe=vu e7/\
 (dt (zY (ao+1)) ew/\m65 (zY (ao+1)) ew<m65 ao H13)))
 else
 (dt (zY (ao+1)) du/\m65 (zY (ao+1)) du<m65 ao H13)))
 else
 dD.C e H13 (λ_ e4=>
 bS.C e e4 (λ_ e3=>
 ∃(dv:zW->Nat->Nat->zv) (m90:zW->Nat->Nat->Int->zV->Nat),dv none 0 0 0 e3/\ ∀ae lostN lostC k_3 H18,dv ae lostN lostC k_3 H18->
 if k_3< (g:Int)then(
 ∃a3,af=some a3/\
 zw k_3 g/\
 ∃c2,hat H18 (a3.add (Int.toNat k_3*2))=some (vu c2)/\
 aU.C e c2 H18 (λd7 er=> ∃cz,d7=.bool cz/\
 ∀dk H20,dk=er.size->H20=er.push (.cells #[.bool (!cz)] 4)->
 fE 1 4 1 [vF] ae lostN lostC (some (ad dk)) 1 H20 (λap de eb=>
 (dv ap (lostN+1) de (zY (k_3+1)) eb/\m90 ap (lostN+1) de (zY (k_3+1)) eb<m90 ae lostN lostC k_3 H18))))
 else
 eO.C e af g n H18 (λel e0=> ∃r m o,el=vs r m o/\
 gl.C e e0 (λ_ fd=>
 ∃(co:Int->zv) (m111:Int->Int->zV->Nat),co 0 0 fd/\ ∀nv k_4 H24,co nv k_4 H24->
 if k_4< (g:Int)then(
 ∃f,af=some f/\
 zw k_4 g/\
 ∃b7 ay,aP H24 (f.add (Int.toNat k_4*2)) 0 [vu b7,vu ay]/\
 ∀u H25,u=H24.size->H25=H24.push (.cells #[vu 0,vu 0] 36)->
 (aN H25 (ad u) 0 2)/\ ∀dw,dw=aV H25 (ad u) [vu b7,vu ay] 0->
 ∃cy,hat dw ((ad u).add 1)=some (vu cy)/\
 aU.C e cy dw (λep dm=> ∃bz,ep=.bool bz/\
 if bz=true then(
 ∃bw,hat dm (ad u)=some (vu bw)/\
 ∃b6,hat dm ((ad u).add 1)=some (vu b6)/\
 aT.C e bw dm (λes eu=> ∃s,es=vu s/\aP eu ((ad u).add 1) 0 [vu b6]/\
 aT.C e b6 eu (λex d9=> ∃ag,ex=vu ag/\
 ∃c0,hat d9 (ad u)=some (vu c0)/\
 aU.C e c0 d9 (λd8 et=> ∃bx,d8=.bool bx/\
 if bx=true then(
 aZ.C e s et (λea ey=> ∃ck,ea=.bool ck/\
 if ck=true then(
 R vF ey)
 else
 aZ.C e ag ey (λen cn=> ∃ci,en=.bool ci/\
 if ci=true then(
 R vF cn)
 else
 ∃p,ae=some p/\
 zw k_4 lostN/\
 ∃br,hat cn (p.add (Int.toNat k_4*1))=some (.bool br)/\
 if br=true then(
 bW.C ra ag cn (λej d3=> ∃cd,ej=vi cd/\
 if cd=10 then(
 bV.C ra ag d3 (λd6 e5=> ∃aa ac ab z,d6=.tuple #[vs aa ac ab,.bool z]/\
 ∃(b3:Int->zv) (m160:Int->Int->zV->Nat),b3 0 0 e5/\ ∀y j H35,b3 y j H35->
 if j< (g:Int)then(
 zw j lostN/\
 ∃a4,hat H35 (p.add (Int.toNat j*1))=some (.bool a4)/\
 if a4=true then(
 zw j g/\
 ∃cv,hat H35 ((f.add (Int.toNat j*2)).add 1)=some (vu cv)/\
 ∃a2,hat H35 (ad u)=some (vu a2)/\
 ∃a8,hat H35 ((ad u).add 1)=some (vu a8)/\
 aU.C e cv H35 (λem b0=> ∃bo,em=.bool bo/\aP b0 (ad u) 0 [vu a2]/\aP b0 ((ad u).add 1) 0 [vu a8]/\
 if bo=true then(
 zw j g/\
 ∃a0,hat b0 (f.add (Int.toNat j*2))=some (vu a0)/\
 if a0=a2 then(
 zw j g/\
 ∃a5,hat b0 ((f.add (Int.toNat j*2)).add 1)=some (vu a5)/\
 if a5=a8 then(
 (b3 (zY (y+1)) (zY (j+1)) b0/\m160 (zY (y+1)) (zY (j+1)) b0<m160 y j H35))
 else
 (b3 y (zY (j+1)) b0/\m160 y (zY (j+1)) b0<m160 y j H35))
 else
 (b3 y (zY (j+1)) b0/\m160 y (zY (j+1)) b0<m160 y j H35))
 else
 (b3 y (zY (j+1)) b0/\m160 y (zY (j+1)) b0<m160 y j H35)))
 else
 (b3 y (zY (j+1)) H35/\m160 y (zY (j+1)) H35<m160 y j H35))
 else
 if z=true then(
 bX.C aa ac ab s H35 (λeh d4=> ∃cj,eh=vi cj/\
 if cj<y then(
 R vF d4)
 else
 (co nv (zY (k_4+1)) d4/\m111 nv (zY (k_4+1)) d4<m111 nv k_4 H24)))
 else
 R vF H35))
 else
 (co nv (zY (k_4+1)) d3/\m111 nv (zY (k_4+1)) d3<m111 nv k_4 H24)))
 else
 if nv>=(m:Int)then(
 R vF cn)
 else
 ∃an,r=some an/\
 zw nv m/\
 ∃b8,hat cn (an.add (Int.toNat nv*2))=some (vu b8)/\
 if b8=s then(
 zw nv m/\
 ∃cc,hat cn ((an.add (Int.toNat nv*2)).add 1)=some (vu cc)/\
 if cc=ag then(
 (co (zY (nv+1)) (zY (k_4+1)) cn/\m111 (zY (nv+1)) (zY (k_4+1)) cn<m111 nv k_4 H24))
 else
 R vF cn)
 else
 R vF cn)))
 else
 R vF et))))
 else
 (co nv (zY (k_4+1)) dm/\m111 nv (zY (k_4+1)) dm<m111 nv k_4 H24)))
 else
 if nv=(m:Int)then(
 cK.C e H24 (λek e2=> ∃bs ah ai,ek=vs bs ah ai/\
 ∃(dh:zv) (m203:Int->zV->Nat),dh 0 e2/\ ∀ak H39,dh ak H39->
 if ak< (ah:Int)then(
 ∃al,ra=some al/\
 ∃dz,hat H39 al=some (vp dz)/\
 ∃bi,dz=some bi/\
 ∃dy,hat H39 bi=some (vp dy)/\
 ∃bk,dy=some bk/\
 ∃bt,hat H39 bk=some (vp bt)/\
 ∃aj,bs=some aj/\
 zw ak ah/\
 ∃cq,hat H39 (aj.add (Int.toNat ak*1))=some (vi cq)/\
 bL.C bt cq H39 (λez ec=> ∃av az,ez=.tuple #[vu av,vi az]/\
 if az=0 then(
 aZ.C e av ec (λeg d0=> ∃cl,eg=.bool cl/\
 if cl=true then(
 R vF d0)
 else
 (dh (zY (ak+1)) d0/\m203 (zY (ak+1)) d0<m203 ak H39)))
 else
 R vF ec))
 else
 gZ.C e d madeN_2 madeC_2 H39 (λee fg=> ∃a1 am aq,ee=vs a1 am aq/\
 ∃(db:zv) (m228:Int->zV->Nat),db 0 fg/\ ∀au H43,db au H43->
 if au< (am:Int)then(
 ∃bl,a1=some bl/\
 zw au am/\
 ∃c6,hat H43 (bl.add (Int.toNat au*1))=some (vu c6)/\
 aZ.C e c6 H43 (λef d5=> ∃cu,ef=.bool cu/\
 if cu=true then(
 R vF d5)
 else
 (db (zY (au+1)) d5/\m228 (zY (au+1)) d5<m228 au H43)))
 else
 cS.C e H43 (λ_ eo=>
 (dp a1 am aq r m o (zY (i+1)) eo/\m23 a1 am aq r m o (zY (i+1)) eo<m23 ax madeN madeC entriesB entriesN entriesC i H6)))))
 else
 R vF H24)))))
 else
 (dp d madeN_2 madeC_2 af g n (zY (i+1)) d2/\m23 d madeN_2 madeC_2 af g n (zY (i+1)) d2<m23 ax madeN madeC entriesB entriesN entriesC i H6))))
 else
 bJ.C H6 (λev e6=> ∃c4,ev=.bool c4/\
 R (.bool c4) e6)))
namespace bO
theorem link(h:pt j i o u H d):C j i o u H d:=by
 refine T_en K0 317 func5 ?_
 intro w0 Q hQ
 unfold pt zY at h
 refine T_su [(0,vi j),(1,vs i o u)]<|aA 0<|T_ed 1 [] []<|aA 1<|T_nd 1 [0] [(33,vi j)]<|T_c (some 34) h ?_;clear h
 rintro v H1 ⟨ra,rb,rfl,h⟩
 refine T_pd [33] [(34,.tuple #[vp ra,vi rb])]<|T_ed 5 [34] [(5,vp ra),(6,vi rb)]<|T_sz<|aA 2<|T_nd 1 [] [(37,vs i o u)]<|T_c (some 38) h ?_;clear h
 rintro ff H2 ⟨x,rfl,h⟩
 refine T_pd [37] [(38,.bool x)]<|T_nd 1 [38] [(39,.bool x)] ?_
 refine gz [(1,vs i o u),(5,vp ra),(6,vi rb),(42,.bool (x || (rb !=0)))] ?_ ?_
 ·refine aD ?_
  revert h;refine iO_ (λc3 h=>?_) (λc3 h=>?_)
  ·refine aI 42 c3<|T_sz ?_
   obtain⟨J,h,j6⟩:=h
   refine p8 (σ:=Bool) (λs_=> [(4,.bool s_)]) (λs_ H=>J s_ H) ?_ ?_
   ·rintro s4 H3 j7
    replace h:=j6 s4 H3 j7
    exact T_su [(4,.bool s4)]<|aD<|ia [4] [.bool s4] hQ h
   refine T_rz 3<|T_n 3 [(6,vi rb),(45,.bool (rb==0))] ?_
   revert h;refine iO_ (λc8 h=>?_) (λc8 h=>?_)
   ·have b9:(rb==0)=true:=zK c8
    refine bG [(6,vi rb),(45,vT)] (by rw[b9]) ?_
    clear b9
    refine T_n 4 [(49,vT)]<|T_c (some 50) h ?_;clear h
    rintro fc H4 ⟨dq,rfl,h⟩
    exact T_pd [] [(50,.bool dq)]<|T_ne 2 [(4,.bool dq)]<|jZ (dq:Bool) sk h
   have b9:(rb==0)=false:=zJ c8
   refine bG [(6,vi rb),(45,vF)] (by rw[b9]) ?_
   clear b9
   refine T_n 4 [(49,.bool (rb==1))] ?_
   revert h;refine iO_ (λc10 h=>?_) (λc10 h=>?_)
   ·have b11:(rb==1)=true:=zK c10
    refine bG [(49,vT)] (by rw[b11]) ?_
    clear b11
    refine T_c (some 50) h ?_;clear h
    rintro e8 H5 ⟨dr,rfl,h⟩
    exact T_pd [] [(50,.bool dr)]<|T_ne 2 [(4,.bool dr)]<|jZ (dr:Bool) sk h
   have b11:(rb==1)=false:=zJ c10
   refine bG [(49,vF)] (by rw[b11]) ?_
   clear b11
   exact T_ne 3 [(4,vF)]<|jZ (false:Bool) sk h
  refine aJ 42 (zZ c3)<|T_kt<|aA 4<|T_ne 1 [(1,vs i o u),(5,vp ra),(7,vN)]<|aA 5<|T_ed 1 [] [(8,vN)]<|T_sz<|aA 6<|T_ed 1 [] [(9,vi 0)]<|T_bz 0 ?_
  obtain⟨dp,m23,i12,i13⟩:=h
  refine bR (x:=K22) (σ:=zW×Nat×Nat×zW×Nat×Nat×Int) (λs_=> [(1,vs i o u),(5,vp ra),(7,vs s_.1 s_.2.1 s_.2.2.1),(8,vs s_.2.2.2.1 s_.2.2.2.2.1 s_.2.2.2.2.2.1),(9,vi s_.2.2.2.2.2.2)]) (λs_ H=>dp s_.1 s_.2.1 s_.2.2.1 s_.2.2.2.1 s_.2.2.2.2.1 s_.2.2.2.2.2.1 s_.2.2.2.2.2.2 H) (λs_ H=>m23 s_.1 s_.2.1 s_.2.2.1 s_.2.2.2.1 s_.2.2.2.2.1 s_.2.2.2.2.2.1 s_.2.2.2.2.2.2 H) ((none,0,0,none,0,0,0):zW×Nat×Nat×zW×Nat×Nat×Int) (by kernel_rfl) i12 sk ?_
  rintro⟨ax,madeN,madeC,entriesB,entriesN,entriesC,lC⟩ H6 i14
  have h:=i13 ax madeN madeC entriesB entriesN entriesC lC H6 i14
  refine T_su [(1,vs i o u),(5,vp ra),(7,vs ax madeN madeC),(8,vs entriesB entriesN entriesC),(9,vi lC)]<|T_sz<|aA 7<|T_ed 4 [] [(55,.bool (decide (lC< (o:Int))))] ?_
  revert h;refine iO_ (λc15 h=>?_) (λc15 h=>?_)
  ·refine aI 55 (zX c15)<|T_kt<|T_sz<|T_bz 1<|aA 9<|T_nd 2 [55] [(58,vs i o u),(59,vi lC)] ?_
   obtain⟨q,rfl,q17,h⟩:=h
   refine T_xd (some 60) 56 62 5 q o u .i64 lC underlying56 q17.1 q17.2 [1,58,59] [(1,vs (some q) o u),(60,vq (q.add (Int.toNat lC*5)))] ?_
   obtain⟨bj,bm,bn,bd,be,bb,xG,bc,bq,q18,h⟩:=h
   refine T_lr 61 62 q18 [60]<|T_nw (some 10) (λb=>vp (pa b)) (.cells #[vN,vN,vi 0,vi 0,.int .u32 0] 62) ?_
   intro b H7 e19 e20
   replace h:=h b H7 e19 e20
   refine T_pd [] [(10,vp (pa b))] ?_
   obtain⟨q22,h⟩:=h
   refine fL 62 [vs bj bm bn,vs bd be bb,vi xG,vi bc,.int .u32 bq] q22 ?_
   intro H8 e21
   replace h:=h H8 e21
   refine T_pd [61] []<|T_e<|T_sz<|aA 10<|T_ed 1 [] [(11,vi 0)]<|T_bz 2 ?_
   obtain⟨dx,m40,i23,i24⟩:=h
   refine bR (x:=K39) (σ:=zW×Nat×Nat×Int) (λs_=> [(1,vs (some q) o u),(5,vp ra),(7,vs s_.1 s_.2.1 s_.2.2.1),(8,vs entriesB entriesN entriesC),(9,vi lC),(10,vp (pa b)),(11,vi s_.2.2.2)]) (λs_ H=>dx s_.1 s_.2.1 s_.2.2.1 s_.2.2.2 H) (λs_ H=>m40 s_.1 s_.2.1 s_.2.2.1 s_.2.2.2 H) ((ax,madeN,madeC,0):zW×Nat×Nat×Int) (by kernel_rfl) i23 sk ?_
   rintro⟨R,madeN_2,madeC_2,k⟩ H9 i25
   have h:=i24 R madeN_2 madeC_2 k H9 i25
   refine T_su [(1,vs (some q) o u),(5,vp ra),(7,vs R madeN_2 madeC_2),(8,vs entriesB entriesN entriesC),(9,vi lC),(10,vp (pa b)),(11,vi k)]<|T_sz<|aA 11<|T_nd 2 [] [(62,vi k),(63,vp (pa b))] ?_
   obtain⟨xB,xN,xC,q26,h⟩:=h
   refine T_l1 64 58 q26 [63]<|T_ed 2 [62,64] [(66,.bool (decide (k< (xN:Int))))] ?_
   revert h;refine iO_ (λc27 h=>?_) (λc27 h=>?_)
   ·refine aI 66 (zX c27)<|T_kt<|T_sz<|T_bz 3<|T_rz 13<|T_nd 2 [66] [(69,vp ra),(70,vp (pa b))] ?_
    obtain⟨c5,cg,cs,q29,h⟩:=h
    refine T_l1 71 58 q29 [70]<|T_nd 1 [] [(72,vi k)] ?_
    obtain⟨ch,rfl,q30,h⟩:=h
    refine T_xd (some 73) 58 68 8 ch cg cs .i64 k underlying58 q30.1 q30.2 [71,72] [(73,vq (ch.add (Int.toNat k*8)))] ?_
    obtain⟨di,b1,cr,dd,cx,da,cw,dj,dg,df,q31,h⟩:=h
    refine T_lr 74 68 q31 [73]<|T_nd 1 [7] [(75,vs R madeN_2 madeC_2)]<|T_c (some 76) h ?_;clear h
    rintro fh ei ⟨cp,ce,cm,rfl,h⟩
    exact T_pd [69,74,75] [(76,vs cp ce cm)]<|T_nd 1 [76] [(7,vs cp ce cm)]<|zq<|aE<|aD<|T_rz 12<|T_ed 3 [11] [(11,vi (zY (k+1)))]<|aQ ((cp,ce,cm,(zY (k+1))):zW×Nat×Nat×Int) sk h
   refine aJ 66 (zQ c27)<|zj 2<|aB<|aB<|aM<|aD<|aA 14<|T_nd 1 [8,11,66] [(77,vs entriesB entriesN entriesC)] ?_
   obtain⟨bg,bh,bf,ba,a9,a7,ct,a6,bp,q32,h⟩:=h
   refine T_lr 78 62 q32 []<|T_nd 1 [] [(79,vs R madeN_2 madeC_2)]<|T_c (some 80) h ?_;clear h
   rintro e1 d1 ⟨af,g,n,rfl,h⟩
   refine T_pd [77,78,79] [(80,vs af g n)]<|T_ed 1 [80] [(8,vs af g n)]<|aA 15<|T_nd 2 [] [(82,vp ra),(83,vq ((ad b).add 2))] ?_
   obtain⟨c7,q33,h⟩:=h
   refine T_l1 84 3 q33 [83]<|T_nd 1 [] [(85,vq ((ad b).add 3))] ?_
   obtain⟨dn,q34,h⟩:=h
   refine T_l1 86 3 q34 [85]<|T_c (some 87) h ?_;clear h
   rintro e9 d2 ⟨e,b5,rfl,h⟩
   refine T_pd [82,84,86] [(87,.tuple #[vp e,vi b5])]<|T_ed 5 [87] [(12,vp e),(13,vi b5)]<|T_sz<|aA 16<|T_ed 2 [13] [(91,.bool (b5 !=0))] ?_
   revert h;refine iO_ (λc35 h=>?_) (λc35 h=>?_)
   ·refine aJ 91 (bne_eq_false_iff_eq.mpr c35)<|T_kt<|T_sz<|aA 17<|T_ed 1 [91] [(14,vi 0)]<|T_bz 4 ?_
    obtain⟨dt,m65,i37,i38⟩:=h
    refine bR (x:=K64) (σ:=Int) (λs_=> [(1,vs (some q) o u),(5,vp ra),(7,vs R madeN_2 madeC_2),(8,vs af g n),(9,vi lC),(10,vp (pa b)),(12,vp e),(14,vi s_)]) (λs_ H=>dt s_ H) (λs_ H=>m65 s_ H) (0:Int) (by kernel_rfl) i37 sk ?_
    rintro ao H13 i39
    have h:=i38 ao H13 i39
    refine T_su [(1,vs (some q) o u),(5,vp ra),(7,vs R madeN_2 madeC_2),(8,vs af g n),(9,vi lC),(10,vp (pa b)),(12,vp e),(14,vi ao)]<|T_sz<|aA 18<|T_ed 4 [] [(95,.bool (decide (ao< (madeN_2:Int))))] ?_
    revert h;refine iO_ (λc40 h=>?_) (λc40 h=>?_)
    ·refine aI 95 (zX c40)<|T_kt<|T_sz<|T_bz 5<|aA 20<|T_nd 1 [95] [(98,vq ((ad b).add 4))] ?_
     obtain⟨dc,q42,h⟩:=h
     refine T_l1 99 60 q42 [98]<|T_nd 1 [] [(100,vi ao)]<|T_c (some 101) h ?_;clear h
     rintro fi du ⟨c9,rfl,h⟩
     refine T_pd [99,100] [(101,.bool c9)]<|T_e ?_
     revert h;refine iO_ (λc43 h=>?_) (λc43 h=>?_)
     ·refine aI 101 c43<|T_rz 21<|T_nd 3 [101] [(102,vp e),(103,vs R madeN_2 madeC_2),(104,vi ao)] ?_
      obtain⟨aw,rfl,q45,h⟩:=h
      refine T_xd (some 105) 32 28 1 aw madeN_2 madeC_2 .i64 ao underlying32 q45.1 q45.2 [7,103,104] [(7,vs (some aw) madeN_2 madeC_2),(105,vq (aw.add (Int.toNat ao*1)))] ?_
      obtain⟨dl,q46,h⟩:=h
      refine T_l1 106 28 q46 [105]<|T_c (some 107) h ?_;clear h
      rintro fe ew ⟨e7,rfl,h⟩
      exact T_pd [102,106] []<|zq<|aE<|aD<|T_rz 19<|T_ed 3 [14] [(14,vi (zY (ao+1)))]<|aQ ((zY (ao+1)):Int) sk h
     exact aJ 101 (zZ c43)<|T_k<|aE<|aD<|T_rz 19<|T_ed 3 [14,101] [(14,vi (zY (ao+1)))]<|aQ ((zY (ao+1)):Int) sk h
    refine aJ 95 (zQ c40)<|zj 4<|aB<|aB<|aM<|aD<|aA 22<|T_nd 1 [10,14,95] [(108,vp e)]<|T_c (some 109) h ?_;clear h
    intro v_10 e4 h
    refine T_pd [108] []<|T_e<|aA 23<|T_nd 1 [] [(110,vp e)]<|T_c (some 111) h ?_;clear h
    intro v_11 e3 h
    refine T_pd [110] []<|T_e<|aA 24<|T_ed 1 [] [(15,vN)]<|T_sz<|aA 25<|T_ed 1 [] [(16,vi 0)]<|T_bz 6 ?_
    obtain⟨dv,m90,i47,i48⟩:=h
    refine bR (x:=K89) (σ:=zW×Nat×Nat×Int) (λs_=> [(1,vs (some q) o u),(5,vp ra),(7,vs R madeN_2 madeC_2),(8,vs af g n),(9,vi lC),(12,vp e),(15,vs s_.1 s_.2.1 s_.2.2.1),(16,vi s_.2.2.2)]) (λs_ H=>dv s_.1 s_.2.1 s_.2.2.1 s_.2.2.2 H) (λs_ H=>m90 s_.1 s_.2.1 s_.2.2.1 s_.2.2.2 H) ((none,0,0,0):zW×Nat×Nat×Int) (by kernel_rfl) i47 sk ?_
    rintro⟨ae,lostN,lostC,k_3⟩ H18 i49
    have h:=i48 ae lostN lostC k_3 H18 i49
    refine T_su [(1,vs (some q) o u),(5,vp ra),(7,vs R madeN_2 madeC_2),(8,vs af g n),(9,vi lC),(12,vp e),(15,vs ae lostN lostC),(16,vi k_3)]<|T_sz<|aA 26<|T_ed 4 [] [(115,.bool (decide (k_3< (g:Int))))] ?_
    revert h;refine iO_ (λc50 h=>?_) (λc50 h=>?_)
    ·refine aI 115 (zX c50)<|T_kt<|T_sz<|T_bz 7<|T_rz 28<|T_nd 4 [15,115] [(118,vs ae lostN lostC),(119,vp e),(120,vs af g n),(121,vi k_3)] ?_
     obtain⟨a3,rfl,q52,h⟩:=h
     refine T_xd (some 122) 31 36 2 a3 g n .i64 k_3 underlying31 q52.1 q52.2 [8,120,121] [(8,vs (some a3) g n),(122,vq (a3.add (Int.toNat k_3*2)))]<|T_nd 1 [122] [(123,vq (a3.add (Int.toNat k_3*2)))] ?_
     obtain⟨c2,q53,h⟩:=h
     refine T_l1 124 28 q53 [123]<|T_c (some 125) h ?_;clear h
     rintro d7 er ⟨cz,rfl,h⟩
     refine T_pd [119,124] [(125,.bool cz)]<|T_nd 1 [125] [(126,.bool (!cz))]<|T_nw (some 127) (λb=>vs (pa b) 1 1) (.cells #[.bool (!cz)] 4) ?_
     intro dk H20 e54 e55
     replace h:=h dk H20 e54 e55
     refine T_pd [126] [(127,vs (pa dk) 1 1)]<|N_op (some 128) (fR #[71,71] 71 #[vs ae lostN lostC,vs (pa dk) 1 1]) _ (λ_=>by kernel_rfl) (fu (T:=4) (sz:=1) (bytes:=1) (zero:=(vF:Value)) underlying71 underlying71 rfl (show prog.info? 4=some t4 from by kernel_rfl) (by kernel_rfl) (by kernel_rfl) (by decide) (by kernel_rfl) (by first | exact h | (simpa only[Value.cells,List.toList_toArray]using h))) ?_;clear h
     rintro _ eb ⟨ap,de,rfl,h⟩
     exact T_pd [118,127] [(128,vs ap (lostN+1) de)]<|T_nd 1 [128] [(15,vs ap (lostN+1) de)]<|zq<|aE<|aD<|T_rz 27<|T_ed 3 [16] [(16,vi (zY (k_3+1)))]<|aQ ((ap,(lostN+1),de,(zY (k_3+1))):zW×Nat×Nat×Int) sk h
    refine aJ 115 (zQ c50)<|zj 6<|aB<|aB<|aM<|aD<|aA 29<|T_nd 2 [16,115] [(129,vp e),(130,vs af g n)]<|T_c (some 131) h ?_;clear h
    rintro el e0 ⟨r,m,lB,rfl,h⟩
    refine T_pd [129,130] [(131,vs r m lB)]<|T_ed 1 [131] [(17,vs r m lB)]<|aA 30<|T_nd 1 [] [(132,vp e)]<|T_c (some 133) h ?_;clear h
    intro v_14 fd h
    refine T_pd [132] []<|T_e<|aA 31<|T_ed 1 [] [(18,vi 0)]<|T_sz<|aA 32<|T_ed 1 [] [(19,vi 0)]<|T_bz 8 ?_
    obtain⟨co,m111,i56,i57⟩:=h
    refine bR (x:=K110) (σ:=Int×Int) (λs_=> [(1,vs (some q) o u),(5,vp ra),(7,vs R madeN_2 madeC_2),(8,vs af g n),(9,vi lC),(12,vp e),(15,vs ae lostN lostC),(17,vs r m lB),(18,vi s_.1),(19,vi s_.2)]) (λs_ H=>co s_.1 s_.2 H) (λs_ H=>m111 s_.1 s_.2 H) ((0,0):Int×Int) (by kernel_rfl) i56 sk ?_
    rintro⟨nv,k_4⟩ H24 i58
    have h:=i57 nv k_4 H24 i58
    refine T_su [(1,vs (some q) o u),(5,vp ra),(7,vs R madeN_2 madeC_2),(8,vs af g n),(9,vi lC),(12,vp e),(15,vs ae lostN lostC),(17,vs r m lB),(18,vi nv),(19,vi k_4)]<|T_sz<|aA 33<|T_ed 4 [] [(137,.bool (decide (k_4< (g:Int))))] ?_
    revert h;refine iO_ (λc59 h=>?_) (λc59 h=>?_)
    ·refine aI 137 (zX c59)<|T_kt<|T_sz<|T_bz 9<|aA 35<|T_nd 2 [137] [(140,vs af g n),(141,vi k_4)] ?_
     obtain⟨f,rfl,q61,h⟩:=h
     refine T_xd (some 142) 31 36 2 f g n .i64 k_4 underlying31 q61.1 q61.2 [8,140,141] [(8,vs (some f) g n),(142,vq (f.add (Int.toNat k_4*2)))] ?_
     obtain⟨b7,ay,q62,h⟩:=h
     refine T_lr 143 36 q62 [142]<|T_nw (some 20) (λb=>vp (pa b)) (.cells #[vu 0,vu 0] 36) ?_
     intro bu H25 e63 e64
     replace h:=h bu H25 e63 e64
     refine T_pd [] [(20,vp (pa bu))] ?_
     obtain⟨q66,h⟩:=h
     refine fL 36 [vu b7,vu ay] q66 ?_
     intro dw e65
     replace h:=h dw e65
     refine T_pd [143] []<|T_e<|T_sz<|aA 36<|T_nd 2 [] [(144,vp e),(145,vq ((ad bu).add 1))] ?_
     obtain⟨cy,q67,h⟩:=h
     refine T_l1 146 28 q67 [145]<|T_c (some 147) h ?_;clear h
     rintro ep dm ⟨bz,rfl,h⟩
     refine T_pd [144,146] [(147,.bool bz)]<|T_ed 1 [147] [(148,.bool (!bz))] ?_
     revert h;refine iO_ (λc68 h=>?_) (λc68 h=>?_)
     ·refine aJ 148 (congrArg Bool.not (c68))<|T_kt<|T_sz ?_
      obtain⟨bw,q70,b6,q71,h⟩:=h
      refine yY 37 (Code.ops K128) [(3,(ad bu),[vu bw]),(7,((ad bu).add 1),[vu b6])] 10 (bv 10 0) (show aH _ _ _ from⟨⟨q70,trivial⟩,⟨q71,trivial⟩,trivial⟩)<|T_gp 0 (some 149) (vp e) (bv 10 1) [(1,vs (some q) o u),(5,vp ra),(7,vs R madeN_2 madeC_2),(8,vs (some f) g n),(9,vi lC),(12,vp e),(15,vs ae lostN lostC),(17,vs r m lB),(18,vi nv),(19,vi k_4),(20,vp (pa bu)),(149,vp e)]<|aF 1 150 (vp (pa bu)) (bv 10 3) []<|T_g1 2 151 (vu bw) (bv 10 7) [150] (aR 28 (vp (pa bu))) (yW 3 yZ)<|aF 4 153 (vp e) (bv 10 23) []<|aF 5 154 (vq ((ad bu).add 1)) (bv 10 55) []<|T_g1 6 155 (vu b6) (bv 10 119) [154] (aR 28 (vq ((ad bu).add 1))) (yW 7 yX)<|yq 3 (some 152) (bv 10 127) 13 #[vp e,vu bw] h ?_;clear h
      rintro es eu ⟨s,rfl,f72,h⟩
      refine⟨[(1,vs (some q) o u),(5,vp ra),(7,vs R madeN_2 madeC_2),(8,vs (some f) g n),(9,vi lC),(12,vp e),(15,vs ae lostN lostC),(17,vs r m lB),(18,vi nv),(19,vi k_4),(20,vp (pa bu)),(152,vu s),(153,vp e),(155,vu b6)],pk,(show aH _ _ _ from⟨trivial,f72,trivial⟩),?_⟩
      refine yq 7 (some 156) (bv 10 255) 13 #[vp e,vu b6] h ?_;clear h
      rintro ex d9 ⟨ag,rfl,h⟩
      refine⟨[(1,vs (some q) o u),(5,vp ra),(7,vs R madeN_2 madeC_2),(8,vs (some f) g n),(9,vi lC),(12,vp e),(15,vs ae lostN lostC),(17,vs r m lB),(18,vi nv),(19,vi k_4),(20,vp (pa bu)),(152,vu s),(156,vu ag)],pk,(show aH _ _ _ from⟨trivial,trivial,trivial⟩),?_⟩
      refine T_g 8 (some 21) (vu s) (bv 10 511) [(1,vs (some q) o u),(5,vp ra),(7,vs R madeN_2 madeC_2),(8,vs (some f) g n),(9,vi lC),(12,vp e),(15,vs ae lostN lostC),(17,vs r m lB),(18,vi nv),(19,vi k_4),(20,vp (pa bu)),(21,vu s),(156,vu ag)] (pure (.value (vu s)):Sem Next) (λ_ _ _ _ _=>rfl)<|T_g1 9 22 (vu ag) (bv 10 1023) [156] (pure (.value (vu ag)):Sem Next) (λ_ _ _ _ _=>rfl)<|fQ [(1,vs (some q) o u),(5,vp ra),(7,vs R madeN_2 madeC_2),(8,vs (some f) g n),(9,vi lC),(12,vp e),(15,vs ae lostN lostC),(17,vs r m lB),(18,vi nv),(19,vi k_4),(20,vp (pa bu)),(21,vu s),(22,vu ag)] sk<|yx<|aD<|T_sz<|aA 38<|T_n 2 [(1,vs (some q) o u),(5,vp ra),(7,vs R madeN_2 madeC_2),(8,vs (some f) g n),(9,vi lC),(12,vp e),(15,vs ae lostN lostC),(17,vs r m lB),(18,vi nv),(19,vi k_4),(20,vp (pa bu)),(21,vu s),(22,vu ag),(157,vp e),(158,vp (pa bu))] ?_
      obtain⟨c0,q73,h⟩:=h
      refine T_l1 159 28 q73 [158]<|T_c (some 160) h ?_;clear h
      rintro d8 et ⟨bx,rfl,h⟩
      refine T_pd [157,159] [(160,.bool bx)]<|T_nd 2 [160] [(162,.bool (!bx))] ?_
      revert h;refine iO_ (λc74 h=>?_) (λc74 h=>?_)
      ·have b75:(!bx)=false:=congrArg Bool.not (c74)
       have b752:bx=true:=c74
       refine N_bd 162 (b:=(!bx)) (v:=false) (by simp only[b75,b752,Bool.not_true,Bool.not_false]) ?_
       clear b75 b752
       refine T_nd 2 [] [(163,vp e),(164,vu s)]<|T_c (some 165) h ?_;clear h
       rintro ea ey ⟨ck,rfl,h⟩
       refine T_pd [163,164] [(165,.bool ck)]<|T_nd 2 [162,165] [(167,.bool ck)] ?_
       revert h;refine iO_ (λc76 h=>?_) (λc76 h=>?_)
       ·exact N_bd 167 c76<|T_ed 4 [167] [(171,vT)]<|T_tz 171<|aA 39<|T_nr 1 [4] [vF] hQ h
       refine N_bd 167 (zZ c76)<|T_nd 2 [] [(168,vp e),(169,vu ag)] ?_
       refine T_c (some 170) h ?_;clear h
       rintro en cn ⟨ci,rfl,h⟩
       refine T_pd [168,169] [(170,.bool ci)]<|T_ed 1 [167,170] [(171,.bool ci)] ?_
       revert h;refine iO_ (λc78 h=>?_) (λc78 h=>?_)
       ·exact aI 171 c78<|aA 39<|T_nr 1 [4] [vF] hQ h
       refine aJ 171 (zZ c78)<|T_kt<|T_sz<|aA 40<|T_nd 2 [171] [(172,vs ae lostN lostC),(173,vi k_4)] ?_
       obtain⟨p,rfl,q80,h⟩:=h
       refine T_xd (some 174) 71 4 1 p lostN lostC .i64 k_4 underlying71 q80.1 q80.2 [15,172,173] [(15,vs (some p) lostN lostC),(174,vq (p.add (Int.toNat k_4*1)))] ?_
       obtain⟨br,q81,h⟩:=h
       refine T_l1 175 4 q81 [174]<|T_ed 1 [175] [(176,.bool (!br))] ?_
       revert h;refine iO_ (λc82 h=>?_) (λc82 h=>?_)
       ·refine aJ 176 (congrArg Bool.not (c82))<|T_kt<|T_sz<|aA 44<|T_nd 2 [176] [(201,vp ra),(202,vu ag)]<|T_c (some 203) h ?_;clear h
        rintro ej d3 ⟨cd,rfl,h⟩
        refine T_pd [201,202] [(203,vi cd)]<|T_ed 1 [203] [(204,.bool (cd !=10))] ?_
        revert h;refine iO_ (λc84 h=>?_) (λc84 h=>?_)
        ·refine aJ 204 (bne_eq_false_iff_eq.mpr c84)<|T_kt<|aA 45<|T_nd 2 [22,204] [(206,vp ra),(207,vu ag)]<|T_c (some 208) h ?_;clear h
         rintro d6 e5 ⟨aa,ac,ab,z,rfl,h⟩
         refine T_pd [206,207] [(208,.tuple #[vs aa ac ab,.bool z])]<|T_ed 5 [208] [(23,vs aa ac ab),(24,.bool z)]<|aA 46<|T_ed 1 [] [(25,vi 0)]<|T_sz<|aA 47<|T_ed 1 [] [(26,vi 0)]<|T_bz 10 ?_
         obtain⟨b3,m160,i86,i87⟩:=h
         refine bR (x:=K159) (σ:=Int×Int) (λs_=> [(1,vs (some q) o u),(5,vp ra),(7,vs R madeN_2 madeC_2),(8,vs (some f) g n),(9,vi lC),(12,vp e),(15,vs (some p) lostN lostC),(17,vs r m lB),(18,vi nv),(19,vi k_4),(20,vp (pa bu)),(21,vu s),(23,vs aa ac ab),(24,.bool z),(25,vi s_.1),(26,vi s_.2)]) (λs_ H=>b3 s_.1 s_.2 H) (λs_ H=>m160 s_.1 s_.2 H) ((0,0):Int×Int) (by kernel_rfl) i86 sk ?_
         rintro⟨y,lN⟩ H35 i88
         have h:=i87 y lN H35 i88
         refine T_su [(1,vs (some q) o u),(5,vp ra),(7,vs R madeN_2 madeC_2),(8,vs (some f) g n),(9,vi lC),(12,vp e),(15,vs (some p) lostN lostC),(17,vs r m lB),(18,vi nv),(19,vi k_4),(20,vp (pa bu)),(21,vu s),(23,vs aa ac ab),(24,.bool z),(25,vi y),(26,vi lN)]<|T_sz<|aA 48<|T_ed 4 [] [(214,.bool (decide (lN< (g:Int))))] ?_
         revert h;refine iO_ (λc89 h=>?_) (λc89 h=>?_)
         ·refine aI 214 (zX c89)<|T_kt<|T_sz<|T_bz 11<|T_sz ?_
          obtain⟨q91,a4,q92,h⟩:=h
          revert h;refine iO_ (λc93 h=>?_) (λc93 h=>?_)
          ·obtain⟨q95,cv,q96,a2,q97,a8,q98,h⟩:=h
           refine yY 50 (Code.ops K169) [(11,(p.add (Int.toNat lN*1)),[.bool a4]),(11,((f.add (Int.toNat lN*2)).add 1),[vu cv]),(33,(ad bu),[vu a2]),(33,((ad bu).add 1),[vu a8])] 33 (bv 33 0) (show aH _ _ _ from⟨⟨q92,trivial⟩,⟨q96,trivial⟩,⟨q97,trivial⟩,⟨q98,trivial⟩,trivial⟩)<|T_gp 0 (some 217) (vs (some p) lostN lostC) (bv 33 1) [(1,vs (some q) o u),(5,vp ra),(7,vs R madeN_2 madeC_2),(8,vs (some f) g n),(9,vi lC),(12,vp e),(15,vs (some p) lostN lostC),(17,vs r m lB),(18,vi nv),(19,vi k_4),(20,vp (pa bu)),(21,vu s),(23,vs aa ac ab),(24,.bool z),(25,vi y),(26,vi lN),(217,vs (some p) lostN lostC)]<|aF 1 218 (vi lN) (bv 33 3) []<|T_g1 2 219 (vp (some (p.add (Int.toNat lN*1)))) (bv 33 7) [217,218] (bA 71 (vs (some p) lostN lostC) (vi lN)) (λ_ w _ _ _=>cZ (P:=prog) (t:=71) (elem:=4) (sz:=1) (a:=p) (len:=lostN) (cap:=lostC) (k:=.i64) (i:=lN) underlying71 (λ_=>by kernel_rfl) q91.1 q91.2 w)<|T_g1 3 220 (.bool a4) (bv 33 15) [219] (aR 4 (vp (some (p.add (Int.toNat lN*1))))) (yW 11 yZ)<|aF 4 221 (.bool a4) (bv 33 31) [220]<|G_bd 221 c93<|aF 5 222 (vp e) (bv 33 63) []<|aF 6 223 (vs (some f) g n) (bv 33 127) []<|aF 7 224 (vi lN) (bv 33 255) []<|T_g1 8 225 (vp (some (f.add (Int.toNat lN*2)))) (bv 33 511) [223,224] (bA 31 (vs (some f) g n) (vi lN)) (λ_ w _ _ _=>cZ (P:=prog) (t:=31) (elem:=36) (sz:=2) (a:=f) (len:=g) (cap:=n) (k:=.i64) (i:=lN) underlying31 (λ_=>by kernel_rfl) q95.1 q95.2 w)<|aF 9 226 (vp (some ((f.add (Int.toNat lN*2)).add 1))) (bv 33 1023) [225]<|T_g1 10 227 (vu cv) (bv 33 2047) [226] (aR 28 (vp (some ((f.add (Int.toNat lN*2)).add 1)))) (yW 11 yX)<|yq 11 (some 228) (bv 33 4095) 28 #[vp e,vu cv] h ?_;clear h
           rintro em b0 ⟨bo,rfl,f99,f100,h⟩
           refine⟨[(1,vs (some q) o u),(5,vp ra),(7,vs R madeN_2 madeC_2),(8,vs (some f) g n),(9,vi lC),(12,vp e),(15,vs (some p) lostN lostC),(17,vs r m lB),(18,vi nv),(19,vi k_4),(20,vp (pa bu)),(21,vu s),(23,vs aa ac ab),(24,.bool z),(25,vi y),(26,vi lN),(221,vT),(228,.bool bo)],pk,(show aH _ _ _ from⟨trivial,trivial,f99,f100,trivial⟩),?_⟩
           refine T_g 12 (some 229) (.bool bo) (bv 33 8191) [(1,vs (some q) o u),(5,vp ra),(7,vs R madeN_2 madeC_2),(8,vs (some f) g n),(9,vi lC),(12,vp e),(15,vs (some p) lostN lostC),(17,vs r m lB),(18,vi nv),(19,vi k_4),(20,vp (pa bu)),(21,vu s),(23,vs aa ac ab),(24,.bool z),(25,vi y),(26,vi lN),(229,.bool bo)] (pure (.value (.bool bo)):Sem Next) (λ_ _ _ _ _=>rfl)<|T_g1 13 230 (.bool bo) (bv 33 16383) [229] (pure (.value (.bool bo)):Sem Next) (λ_ _ _ _ _=>rfl) ?_
           revert h;refine iO_ (λc101 h=>?_) (λc101 h=>?_)
           ·refine G_bd 230 c101 ?_
            refine T_g1 14 231 (vs (some f) g n) (bv 33 32767) [] (pure (.value (vs (some f) g n)):Sem Next) (λ_ _ _ _ _=>rfl)<|T_g1 15 232 (vi lN) (bv 33 65535) [] (pure (.value (vi lN)):Sem Next) (λ_ _ _ _ _=>rfl) ?_
            obtain⟨q103,h⟩:=h
            refine T_g1 16 233 (vq (f.add (Int.toNat lN*2))) (bv 33 131071) [231,232] (bA 31 (vs (some f) g n) (vi lN)) (λ_ w _ _ _=>cZ (P:=prog) (t:=31) (elem:=36) (sz:=2) (a:=f) (len:=g) (cap:=n) (k:=.i64) (i:=lN) underlying31 (λ_=>by kernel_rfl) q103.1 q103.2 w)<|T_g1 17 234 (vq (f.add (Int.toNat lN*2))) (bv 33 262143) [233] (pure (.value (vq (f.add (Int.toNat lN*2)))):Sem Next) (λ_ _ _ _ _=>rfl) ?_
            obtain⟨a0,q104,h⟩:=h
            refine sE (33,(f.add (Int.toNat lN*2)),[vu a0]) ⟨q104,trivial⟩ ?_
            refine T_g1 18 235 (vu a0) (bv 33 524287) [234] (aR 28 (vq (f.add (Int.toNat lN*2)))) (jb 33 (λ_=>by kernel_rfl) yZ (.inr (by kernel_rfl)))<|T_g1 19 236 (vp (pa bu)) (bv 33 1048575) [] (pure (.value (vp (pa bu))):Sem Next) (λ_ _ _ _ _=>rfl)<|T_g1 20 237 (vu a2) (bv 33 2097151) [236] (aR 28 (vp (pa bu))) (jb 33 (λ_=>by kernel_rfl) yJ (.inr (by kernel_rfl)))<|T_g1 21 238 (.bool (a0==a2)) (bv 33 4194303) [235,237] (pure (.value (.bool (a0==a2))):Sem Next) (λ_ _ _ _ _=>rfl)<|T_g1 22 239 (.bool (a0==a2)) (bv 33 8388607) [230,238] (pure (.value (.bool (a0==a2))):Sem Next) (λ_ _ _ _ _=>rfl)<|T_g1 23 240 (.bool (a0==a2)) (bv 33 16777215) [239] (pure (.value (.bool (a0==a2))):Sem Next) (λ_ _ _ _ _=>rfl) ?_
            revert h;refine iO_ (λc105 h=>?_) (λc105 h=>?_)
            ·refine G_bd 240 (zK c105) ?_
             refine T_g1 24 241 (vs (some f) g n) (bv 33 33554431) [] (pure (.value (vs (some f) g n)):Sem Next) (λ_ _ _ _ _=>rfl)<|T_g1 25 242 (vi lN) (bv 33 67108863) [] (pure (.value (vi lN)):Sem Next) (λ_ _ _ _ _=>rfl) ?_
             obtain⟨q107,h⟩:=h
             refine T_g1 26 243 (vq (f.add (Int.toNat lN*2))) (bv 33 134217727) [241,242] (bA 31 (vs (some f) g n) (vi lN)) (λ_ w _ _ _=>cZ (P:=prog) (t:=31) (elem:=36) (sz:=2) (a:=f) (len:=g) (cap:=n) (k:=.i64) (i:=lN) underlying31 (λ_=>by kernel_rfl) q107.1 q107.2 w)<|T_g1 27 244 (vq ((f.add (Int.toNat lN*2)).add 1)) (bv 33 268435455) [243] (pure (.value (vq ((f.add (Int.toNat lN*2)).add 1))):Sem Next) (λ_ _ _ _ _=>rfl) ?_
             obtain⟨a5,q108,h⟩:=h
             refine sE (33,((f.add (Int.toNat lN*2)).add 1),[vu a5]) ⟨q108,trivial⟩ ?_
             refine T_g1 28 245 (vu a5) (bv 33 536870911) [244] (aR 28 (vq ((f.add (Int.toNat lN*2)).add 1))) (jb 33 (λ_=>by kernel_rfl) yZ (.inr (by kernel_rfl)))<|T_g1 29 246 (vq ((ad bu).add 1)) (bv 33 1073741823) [] (pure (.value (vq ((ad bu).add 1))):Sem Next) (λ_ _ _ _ _=>rfl)<|T_g1 30 247 (vu a8) (bv 33 2147483647) [246] (aR 28 (vq ((ad bu).add 1))) (jb 33 (λ_=>by kernel_rfl) yV (.inr (by kernel_rfl)))<|T_g1 31 248 (.bool (a5==a8)) (bv 33 4294967295) [245,247] (pure (.value (.bool (a5==a8))):Sem Next) (λ_ _ _ _ _=>rfl)<|T_g1 32 249 (.bool (a5==a8)) (bv 33 8589934591) [240,248] (pure (.value (.bool (a5==a8))):Sem Next) (λ_ _ _ _ _=>rfl)<|fQ [(1,vs (some q) o u),(5,vp ra),(7,vs R madeN_2 madeC_2),(8,vs (some f) g n),(9,vi lC),(12,vp e),(15,vs (some p) lostN lostC),(17,vs r m lB),(18,vi nv),(19,vi k_4),(20,vp (pa bu)),(21,vu s),(23,vs aa ac ab),(24,.bool z),(25,vi y),(26,vi lN),(249,.bool (a5==a8))] sk<|yx<|aD ?_
             revert h;refine iO_ (λc109 h=>?_) (λc109 h=>?_)
             ·exact aI 249 (zK c109)<|T_rz 51<|T_n 3 [(1,vs (some q) o u),(5,vp ra),(7,vs R madeN_2 madeC_2),(8,vs (some f) g n),(9,vi lC),(12,vp e),(15,vs (some p) lostN lostC),(17,vs r m lB),(18,vi nv),(19,vi k_4),(20,vp (pa bu)),(21,vu s),(23,vs aa ac ab),(24,.bool z),(25,vi (zY (y+1))),(26,vi lN)]<|zq<|aE<|aD<|T_rz 49<|T_ed 3 [26] [(26,vi (zY (lN+1)))]<|aQ (((zY (y+1)),(zY (lN+1))):Int×Int) sk h
             exact aJ 249 (zJ c109)<|T_k<|aE<|aD<|T_rz 49<|T_ne 3 [(1,vs (some q) o u),(5,vp ra),(7,vs R madeN_2 madeC_2),(8,vs (some f) g n),(9,vi lC),(12,vp e),(15,vs (some p) lostN lostC),(17,vs r m lB),(18,vi nv),(19,vi k_4),(20,vp (pa bu)),(21,vu s),(23,vs aa ac ab),(24,.bool z),(25,vi y),(26,vi (zY (lN+1)))]<|aQ ((y,(zY (lN+1))):Int×Int) sk h
            refine G_bd 240 (zJ c105) ?_
            exact cH 24 (some 241) (bv 33 33554431) [] [(241,undef)]<|cH 25 (some 242) (bv 33 67108863) [] [(242,undef)]<|cH 26 (some 243) (bv 33 134217727) [241,242] [(243,undef)]<|cH 27 (some 244) (bv 33 268435455) [243] [(244,undef)]<|cH 28 (some 245) (bv 33 536870911) [244] [(245,undef)]<|cH 29 (some 246) (bv 33 1073741823) [] [(246,undef)]<|cH 30 (some 247) (bv 33 2147483647) [246] [(247,undef)]<|cH 31 (some 248) (bv 33 4294967295) [245,247] [(248,undef)]<|T_g1 32 249 vF (bv 33 8589934591) [240,248] (pure (.value vF):Sem Next) (λ_ _ _ _ _=>rfl)<|fQ [(1,vs (some q) o u),(5,vp ra),(7,vs R madeN_2 madeC_2),(8,vs (some f) g n),(9,vi lC),(12,vp e),(15,vs (some p) lostN lostC),(17,vs r m lB),(18,vi nv),(19,vi k_4),(20,vp (pa bu)),(21,vu s),(23,vs aa ac ab),(24,.bool z),(25,vi y),(26,vi lN),(249,vF)] sk<|yx<|aD<|T_fz 249<|T_k<|aE<|aD<|T_rz 49<|T_ne 3 [(1,vs (some q) o u),(5,vp ra),(7,vs R madeN_2 madeC_2),(8,vs (some f) g n),(9,vi lC),(12,vp e),(15,vs (some p) lostN lostC),(17,vs r m lB),(18,vi nv),(19,vi k_4),(20,vp (pa bu)),(21,vu s),(23,vs aa ac ab),(24,.bool z),(25,vi y),(26,vi (zY (lN+1)))]<|aQ ((y,(zY (lN+1))):Int×Int) sk h
           refine G_bd 230 (zZ c101) ?_
           exact cH 14 (some 231) (bv 33 32767) [] [(231,undef)]<|cH 15 (some 232) (bv 33 65535) [] [(232,undef)]<|cH 16 (some 233) (bv 33 131071) [231,232] [(233,undef)]<|cH 17 (some 234) (bv 33 262143) [233] [(234,undef)]<|cH 18 (some 235) (bv 33 524287) [234] [(235,undef)]<|cH 19 (some 236) (bv 33 1048575) [] [(236,undef)]<|cH 20 (some 237) (bv 33 2097151) [236] [(237,undef)]<|cH 21 (some 238) (bv 33 4194303) [235,237] [(238,undef)]<|T_g1 22 239 vF (bv 33 8388607) [230,238] (pure (.value vF):Sem Next) (λ_ _ _ _ _=>rfl)<|T_g1 23 240 vF (bv 33 16777215) [239] (pure (.value vF):Sem Next) (λ_ _ _ _ _=>rfl)<|cH 24 (some 241) (bv 33 33554431) [] [(241,undef)]<|cH 25 (some 242) (bv 33 67108863) [] [(242,undef)]<|cH 26 (some 243) (bv 33 134217727) [241,242] [(243,undef)]<|cH 27 (some 244) (bv 33 268435455) [243] [(244,undef)]<|cH 28 (some 245) (bv 33 536870911) [244] [(245,undef)]<|cH 29 (some 246) (bv 33 1073741823) [] [(246,undef)]<|cH 30 (some 247) (bv 33 2147483647) [246] [(247,undef)]<|cH 31 (some 248) (bv 33 4294967295) [245,247] [(248,undef)]<|T_g1 32 249 vF (bv 33 8589934591) [240,248] (pure (.value vF):Sem Next) (λ_ _ _ _ _=>rfl)<|fQ [(1,vs (some q) o u),(5,vp ra),(7,vs R madeN_2 madeC_2),(8,vs (some f) g n),(9,vi lC),(12,vp e),(15,vs (some p) lostN lostC),(17,vs r m lB),(18,vi nv),(19,vi k_4),(20,vp (pa bu)),(21,vu s),(23,vs aa ac ab),(24,.bool z),(25,vi y),(26,vi lN),(249,vF)] sk<|yx<|aD<|T_fz 249<|T_k<|aE<|aD<|T_rz 49<|T_ne 3 [(1,vs (some q) o u),(5,vp ra),(7,vs R madeN_2 madeC_2),(8,vs (some f) g n),(9,vi lC),(12,vp e),(15,vs (some p) lostN lostC),(17,vs r m lB),(18,vi nv),(19,vi k_4),(20,vp (pa bu)),(21,vu s),(23,vs aa ac ab),(24,.bool z),(25,vi y),(26,vi (zY (lN+1)))]<|aQ ((y,(zY (lN+1))):Int×Int) sk h
          exact yY 50 (Code.ops K169) [(33,(p.add (Int.toNat lN*1)),[.bool a4])] 33 (bv 33 0) (show aH _ _ _ from⟨⟨q92,trivial⟩,trivial⟩)<|T_gp 0 (some 217) (vs (some p) lostN lostC) (bv 33 1) [(1,vs (some q) o u),(5,vp ra),(7,vs R madeN_2 madeC_2),(8,vs (some f) g n),(9,vi lC),(12,vp e),(15,vs (some p) lostN lostC),(17,vs r m lB),(18,vi nv),(19,vi k_4),(20,vp (pa bu)),(21,vu s),(23,vs aa ac ab),(24,.bool z),(25,vi y),(26,vi lN),(217,vs (some p) lostN lostC)]<|aF 1 218 (vi lN) (bv 33 3) []<|T_g1 2 219 (vp (some (p.add (Int.toNat lN*1)))) (bv 33 7) [217,218] (bA 71 (vs (some p) lostN lostC) (vi lN)) (λ_ w _ _ _=>cZ (P:=prog) (t:=71) (elem:=4) (sz:=1) (a:=p) (len:=lostN) (cap:=lostC) (k:=.i64) (i:=lN) underlying71 (λ_=>by kernel_rfl) q91.1 q91.2 w)<|T_g1 3 220 (.bool a4) (bv 33 15) [219] (aR 4 (vp (some (p.add (Int.toNat lN*1))))) (jb 33 (λ_=>by kernel_rfl) yZ (.inr (by kernel_rfl)))<|aF 4 221 (.bool a4) (bv 33 31) [220]<|G_bd 221 (zZ c93)<|cH 5 (some 222) (bv 33 63) [] [(222,undef)]<|cH 6 (some 223) (bv 33 127) [] [(223,undef)]<|cH 7 (some 224) (bv 33 255) [] [(224,undef)]<|cH 8 (some 225) (bv 33 511) [223,224] [(225,undef)]<|cH 9 (some 226) (bv 33 1023) [225] [(226,undef)]<|cH 10 (some 227) (bv 33 2047) [226] [(227,undef)]<|cH 11 (some 228) (bv 33 4095) [222,227] [(228,undef)]<|aF 12 229 (.bool false) (bv 33 8191) [221,228]<|aF 13 230 (.bool false) (bv 33 16383) [229]<|cH 14 (some 231) (bv 33 32767) [] [(231,undef)]<|cH 15 (some 232) (bv 33 65535) [] [(232,undef)]<|cH 16 (some 233) (bv 33 131071) [231,232] [(233,undef)]<|cH 17 (some 234) (bv 33 262143) [233] [(234,undef)]<|cH 18 (some 235) (bv 33 524287) [234] [(235,undef)]<|cH 19 (some 236) (bv 33 1048575) [] [(236,undef)]<|cH 20 (some 237) (bv 33 2097151) [236] [(237,undef)]<|cH 21 (some 238) (bv 33 4194303) [235,237] [(238,undef)]<|aF 22 239 (.bool false) (bv 33 8388607) [230,238]<|aF 23 240 (.bool false) (bv 33 16777215) [239]<|cH 24 (some 241) (bv 33 33554431) [] [(241,undef)]<|cH 25 (some 242) (bv 33 67108863) [] [(242,undef)]<|cH 26 (some 243) (bv 33 134217727) [241,242] [(243,undef)]<|cH 27 (some 244) (bv 33 268435455) [243] [(244,undef)]<|cH 28 (some 245) (bv 33 536870911) [244] [(245,undef)]<|cH 29 (some 246) (bv 33 1073741823) [] [(246,undef)]<|cH 30 (some 247) (bv 33 2147483647) [246] [(247,undef)]<|cH 31 (some 248) (bv 33 4294967295) [245,247] [(248,undef)]<|aF 32 249 (.bool false) (bv 33 8589934591) [240,248]<|fQ [(1,vs (some q) o u),(5,vp ra),(7,vs R madeN_2 madeC_2),(8,vs (some f) g n),(9,vi lC),(12,vp e),(15,vs (some p) lostN lostC),(17,vs r m lB),(18,vi nv),(19,vi k_4),(20,vp (pa bu)),(21,vu s),(23,vs aa ac ab),(24,.bool z),(25,vi y),(26,vi lN),(249,.bool false)] sk<|yx<|aD<|T_fz 249<|T_k<|aE<|aD<|T_rz 49<|T_ne 3 [(1,vs (some q) o u),(5,vp ra),(7,vs R madeN_2 madeC_2),(8,vs (some f) g n),(9,vi lC),(12,vp e),(15,vs (some p) lostN lostC),(17,vs r m lB),(18,vi nv),(19,vi k_4),(20,vp (pa bu)),(21,vu s),(23,vs aa ac ab),(24,.bool z),(25,vi y),(26,vi (zY (lN+1)))]<|aQ ((y,(zY (lN+1))):Int×Int) sk h
         refine aJ 214 (zQ c89)<|zj 10<|aB<|aB<|aM<|aD<|aA 52<|T_nd 3 [20,24,26,214] [(254,.bool (!z))] ?_
         revert h;refine iO_ (λc111 h=>?_) (λc111 h=>?_)
         ·have b112:(!z)=false:=congrArg Bool.not (c111)
          have b1122:z=true:=c111
          refine N_bd 254 (b:=(!z)) (v:=false) (by simp only[b112,b1122,Bool.not_true,Bool.not_false]) ?_
          clear b112 b1122
          refine T_nd 2 [21,23] [(255,vs aa ac ab),(256,vu s)]<|T_c (some 257) h ?_;clear h
          rintro eh d4 ⟨cj,rfl,h⟩
          refine T_pd [255,256] [(257,vi cj)]<|T_ed 3 [25,254,257] [(260,.bool (decide (cj<y)))] ?_
          revert h;refine iO_ (λc113 h=>?_) (λc113 h=>?_)
          ·exact aI 260 (zX c113)<|aA 53<|T_nr 1 [4] [vF] hQ h
          exact aJ 260 (zQ c113)<|T_k<|aE<|aD<|T_rz 34<|T_ed 3 [19,260] [(19,vi (zY (k_4+1)))]<|aQ ((nv,(zY (k_4+1))):Int×Int) sk h
         have b112:(!z)=true:=congrArg Bool.not (zZ c111)
         have b1122:z=false:=zZ c111
         refine N_bd 254 (b:=(!z)) (v:=true) (by simp only[b112,b1122,Bool.not_true,Bool.not_false]) ?_
         clear b112 b1122
         exact T_ed 6 [21,23,25,254] [(260,vT)]<|T_tz 260<|aA 53<|T_nr 1 [4] [vF] hQ h
        exact aI 204 (bne_iff_ne.mpr c84)<|zj 9<|aB<|aM<|aD<|T_rz 34<|T_ed 3 [19,20,21,22,204] [(19,vi (zY (k_4+1)))]<|aQ ((nv,(zY (k_4+1))):Int×Int) sk h
       refine aI 176 (congrArg Bool.not (zZ c82))<|T_sz<|aA 41<|T_nd 5 [20,176] [(181,.bool (decide (nv>=(m:Int))))] ?_
       revert h;refine iO_ (λc115 h=>?_) (λc115 h=>?_)
       ·exact N_bd 181 (zX c115)<|T_ed 17 [21,22,181] [(198,vT)]<|T_tz 198<|aA 42<|T_nr 1 [4] [vF] hQ h
       refine N_bd 181 (zQ c115)<|T_nd 2 [] [(182,vs r m lB),(183,vi nv)] ?_
       obtain⟨an,rfl,q117,h⟩:=h
       refine T_xd (some 184) 31 36 2 an m lB .i64 nv underlying31 q117.1 q117.2 [17,182,183] [(17,vs (some an) m lB),(184,vq (an.add (Int.toNat nv*2)))]<|T_nd 1 [184] [(185,vq (an.add (Int.toNat nv*2)))] ?_
       obtain⟨b8,q118,h⟩:=h
       refine T_l1 186 28 q118 [185]<|T_nd 4 [21,181,186] [(190,.bool (b8 !=s))] ?_
       revert h;refine iO_ (λc119 h=>?_) (λc119 h=>?_)
       ·refine N_bd 190 (bne_eq_false_iff_eq.mpr c119)<|T_nd 2 [] [(191,vs (some an) m lB),(192,vi nv)] ?_
        obtain⟨q121,h⟩:=h
        refine T_xd (some 193) 31 36 2 an m lB .i64 nv underlying31 q121.1 q121.2 [191,192] [(193,vq (an.add (Int.toNat nv*2)))]<|T_nd 1 [193] [(194,vq ((an.add (Int.toNat nv*2)).add 1))] ?_
        obtain⟨cc,q122,h⟩:=h
        refine T_l1 195 28 q122 [194]<|T_ed 3 [22,190,195] [(198,.bool (cc !=ag))] ?_
        revert h;refine iO_ (λc123 h=>?_) (λc123 h=>?_)
        ·exact aJ 198 (bne_eq_false_iff_eq.mpr c123)<|T_kt<|aA 43<|T_ed 3 [18,198] [(18,vi (zY (nv+1)))]<|zj 9<|aB<|aM<|aD<|T_rz 34<|T_ed 3 [19] [(19,vi (zY (k_4+1)))]<|aQ (((zY (nv+1)),(zY (k_4+1))):Int×Int) sk h
        exact aI 198 (bne_iff_ne.mpr c123)<|aA 42<|T_nr 1 [4] [vF] hQ h
       exact N_bd 190 (bne_iff_ne.mpr c119)<|T_ed 8 [22,190] [(198,vT)]<|T_tz 198<|aA 42<|T_nr 1 [4] [vF] hQ h
      have b75:(!bx)=true:=congrArg Bool.not (zZ c74)
      have b752:bx=false:=zZ c74
      refine N_bd 162 (b:=(!bx)) (v:=true) (by simp only[b75,b752,Bool.not_true,Bool.not_false]) ?_
      clear b75 b752
      exact T_ed 9 [162] [(171,vT)]<|T_tz 171<|aA 39<|T_nr 1 [4] [vF] hQ h
     exact aI 148 (congrArg Bool.not (zZ c68))<|zj 9<|aB<|aM<|aD<|T_rz 34<|T_ed 3 [19,20,148] [(19,vi (zY (k_4+1)))]<|aQ ((nv,(zY (k_4+1))):Int×Int) sk h
    refine aJ 137 (zQ c59)<|zj 8<|aB<|aB<|aM<|aD<|T_sz<|aA 54<|T_ed 4 [8,15,18,19,137] [(264,.bool (nv !=(m:Int)))] ?_
    revert h;refine iO_ (λc125 h=>?_) (λc125 h=>?_)
    ·refine aJ 264 (bne_eq_false_iff_eq.mpr c125)<|T_kt<|aA 56<|T_nd 1 [264] [(265,vp e)]<|T_c (some 266) h ?_;clear h
     rintro ek e2 ⟨bs,ah,ai,rfl,h⟩
     refine T_pd [265] [(266,vs bs ah ai)]<|T_ed 1 [266] [(27,vs bs ah ai)]<|T_sz<|aA 57<|T_ed 1 [] [(28,vi 0)]<|T_bz 12 ?_
     obtain⟨dh,m203,i127,i128⟩:=h
     refine bR (x:=K202) (σ:=Int) (λs_=> [(1,vs (some q) o u),(5,vp ra),(7,vs R madeN_2 madeC_2),(9,vi lC),(12,vp e),(17,vs r m lB),(27,vs bs ah ai),(28,vi s_)]) (λs_ H=>dh s_ H) (λs_ H=>m203 s_ H) (0:Int) (by kernel_rfl) i127 sk ?_
     rintro ak H39 i129
     have h:=i128 ak H39 i129
     refine T_su [(1,vs (some q) o u),(5,vp ra),(7,vs R madeN_2 madeC_2),(9,vi lC),(12,vp e),(17,vs r m lB),(27,vs bs ah ai),(28,vi ak)]<|T_sz<|aA 58<|T_ed 4 [] [(270,.bool (decide (ak< (ah:Int))))] ?_
     revert h;refine iO_ (λc130 h=>?_) (λc130 h=>?_)
     ·refine aI 270 (zX c130)<|T_kt<|T_sz<|T_bz 13<|T_sz ?_
      obtain⟨al,rfl,dz,q132,bi,rfl,dy,q133,bk,rfl,bt,q134,aj,rfl,q135,cq,q136,h⟩:=h
      refine yY 60 (Code.ops K212) [(14,al,[vp (some bi)]),(14,bi,[vp (some bk)]),(14,bk,[vp bt]),(14,(aj.add (Int.toNat ak*1)),[vi cq])] 20 (bv 20 0) (show aH _ _ _ from⟨⟨q132,trivial⟩,⟨q133,trivial⟩,⟨q134,trivial⟩,⟨q136,trivial⟩,trivial⟩)<|T_gp 0 (some 274) (vp (some al)) (bv 20 1) [(1,vs (some q) o u),(5,vp (some al)),(7,vs R madeN_2 madeC_2),(9,vi lC),(12,vp e),(17,vs r m lB),(27,vs (some aj) ah ai),(28,vi ak),(274,vp (some al))]<|aF 1 275 (vp (some al)) (bv 20 3) [274]<|aF 2 276 (vp (some al)) (bv 20 7) [275]<|T_g1 3 277 (vp (some bi)) (bv 20 15) [276] (aR 49 (vp (some al))) (yW 14 yZ)<|aF 4 278 (vp (some bi)) (bv 20 31) [277]<|aF 5 279 (vp (some bi)) (bv 20 63) [278]<|T_g1 6 280 (vp (some bk)) (bv 20 127) [279] (aR 52 (vp (some bi))) (yW 14 yX)<|aF 7 281 (vp (some bk)) (bv 20 255) [280]<|aF 8 282 (vp (some bk)) (bv 20 511) [281]<|T_g1 9 283 (vp bt) (bv 20 1023) [282] (aR 78 (vp (some bk))) (yW 14 yQ)<|aF 10 284 (vs (some aj) ah ai) (bv 20 2047) []<|aF 11 285 (vi ak) (bv 20 4095) []<|T_g1 12 286 (vp (some (aj.add (Int.toNat ak*1)))) (bv 20 8191) [284,285] (bA 75 (vs (some aj) ah ai) (vi ak)) (λ_ w _ _ _=>cZ (P:=prog) (t:=75) (elem:=3) (sz:=1) (a:=aj) (len:=ah) (cap:=ai) (k:=.i64) (i:=ak) underlying75 (λ_=>by kernel_rfl) q135.1 q135.2 w)<|T_g1 13 287 (vi cq) (bv 20 16383) [286] (aR 3 (vp (some (aj.add (Int.toNat ak*1))))) (yW 14 yJ)<|yq 14 (some 288) (bv 20 32767) 33 #[vp bt,vi cq] h ?_;clear h
      rintro ez ec ⟨av,az,rfl,h⟩
      refine⟨[(1,vs (some q) o u),(5,vq al),(7,vs R madeN_2 madeC_2),(9,vi lC),(12,vp e),(17,vs r m lB),(27,vs (some aj) ah ai),(28,vi ak),(288,.tuple #[vu av,vi az])],pk,(show aH _ _ _ from⟨trivial,trivial,trivial,trivial,trivial⟩),?_⟩
      refine T_g 15 (some 273) (.tuple #[vu av,vi az]) (bv 20 65535) [(1,vs (some q) o u),(5,vq al),(7,vs R madeN_2 madeC_2),(9,vi lC),(12,vp e),(17,vs r m lB),(27,vs (some aj) ah ai),(28,vi ak),(273,.tuple #[vu av,vi az])] (pure (.value (.tuple #[vu av,vi az])):Sem Next) (λ_ _ _ _ _=>rfl)<|T_g1 16 289 (vu av) (bv 20 131071) [] (pure (.value (vu av)):Sem Next) (λ_ _ _ _ _=>rfl)<|T_g1 17 290 (vi az) (bv 20 262143) [273] (pure (.value (vi az)):Sem Next) (λ_ _ _ _ _=>rfl)<|T_g1 18 29 (vu av) (bv 20 524287) [289] (pure (.value (vu av)):Sem Next) (λ_ _ _ _ _=>rfl)<|T_g1 19 30 (vi az) (bv 20 1048575) [290] (pure (.value (vi az)):Sem Next) (λ_ _ _ _ _=>rfl)<|fQ [(1,vs (some q) o u),(5,vq al),(7,vs R madeN_2 madeC_2),(9,vi lC),(12,vp e),(17,vs r m lB),(27,vs (some aj) ah ai),(28,vi ak),(29,vu av),(30,vi az)] sk<|yx<|aD<|aA 61<|T_n 3 [(1,vs (some q) o u),(5,vq al),(7,vs R madeN_2 madeC_2),(9,vi lC),(12,vp e),(17,vs r m lB),(27,vs (some aj) ah ai),(28,vi ak),(29,vu av),(293,.bool (az !=0))] ?_
      revert h;refine iO_ (λc137 h=>?_) (λc137 h=>?_)
      ·have b138:(az !=0)=false:=bne_eq_false_iff_eq.mpr c137
       refine bG [(1,vs (some q) o u),(5,vq al),(7,vs R madeN_2 madeC_2),(9,vi lC),(12,vp e),(17,vs r m lB),(27,vs (some aj) ah ai),(28,vi ak),(29,vu av),(293,vF)] (by rw[b138]) ?_
       clear b138
       refine T_nd 2 [29] [(294,vp e),(295,vu av)]<|T_c (some 296) h ?_;clear h
       rintro eg d0 ⟨cl,rfl,h⟩
       refine T_pd [294,295] [(296,.bool cl)]<|T_ed 1 [293,296] [(297,.bool cl)] ?_
       revert h;refine iO_ (λc139 h=>?_) (λc139 h=>?_)
       ·exact aI 297 c139<|aA 62<|T_nr 1 [4] [vF] hQ h
       exact aJ 297 (zZ c139)<|T_k<|aE<|aD<|T_rz 59<|T_ed 3 [28,297] [(28,vi (zY (ak+1)))]<|aQ ((zY (ak+1)):Int) sk h
      have b138:(az !=0)=true:=bne_iff_ne.mpr c137
      refine bG [(1,vs (some q) o u),(5,vq al),(7,vs R madeN_2 madeC_2),(9,vi lC),(12,vp e),(17,vs r m lB),(27,vs (some aj) ah ai),(28,vi ak),(29,vu av),(293,vT)] (by rw[b138]) ?_
      clear b138
      exact T_ed 4 [29,293] [(297,vT)]<|T_tz 297<|aA 62<|T_nr 1 [4] [vF] hQ h
     refine aJ 270 (zQ c130)<|zj 12<|aB<|aB<|aM<|aD<|aA 63<|T_nd 2 [7,27,28,270] [(298,vp e),(299,vs R madeN_2 madeC_2)]<|T_c (some 300) h ?_;clear h
     rintro ee fg ⟨a1,am,aq,rfl,h⟩
     refine T_pd [298,299] [(300,vs a1 am aq)]<|T_ed 1 [300] [(7,vs a1 am aq)]<|T_sz<|aA 64<|T_ed 1 [] [(31,vi 0)]<|T_bz 14 ?_
     obtain⟨db,m228,i141,i142⟩:=h
     refine bR (x:=K227) (σ:=Int) (λs_=> [(1,vs (some q) o u),(5,vp ra),(7,vs a1 am aq),(9,vi lC),(12,vp e),(17,vs r m lB),(31,vi s_)]) (λs_ H=>db s_ H) (λs_ H=>m228 s_ H) (0:Int) (by kernel_rfl) i141 sk ?_
     rintro au H43 i143
     have h:=i142 au H43 i143
     refine T_su [(1,vs (some q) o u),(5,vp ra),(7,vs a1 am aq),(9,vi lC),(12,vp e),(17,vs r m lB),(31,vi au)]<|T_sz<|aA 65<|T_ed 4 [] [(304,.bool (decide (au< (am:Int))))] ?_
     revert h;refine iO_ (λc144 h=>?_) (λc144 h=>?_)
     ·refine aI 304 (zX c144)<|T_kt<|T_sz<|T_bz 15<|aA 67<|T_nd 3 [304] [(307,vp e),(308,vs a1 am aq),(309,vi au)] ?_
      obtain⟨bl,rfl,q146,h⟩:=h
      refine T_xd (some 310) 32 28 1 bl am aq .i64 au underlying32 q146.1 q146.2 [7,308,309] [(7,vs (some bl) am aq),(310,vq (bl.add (Int.toNat au*1)))] ?_
      obtain⟨c6,q147,h⟩:=h
      refine T_l1 311 28 q147 [310]<|T_c (some 312) h ?_;clear h
      rintro ef d5 ⟨cu,rfl,h⟩
      refine T_pd [307,311] [(312,.bool cu)]<|T_e ?_
      revert h;refine iO_ (λc148 h=>?_) (λc148 h=>?_)
      ·exact aI 312 c148<|aA 68<|T_nr 1 [4] [vF] hQ h
      exact aJ 312 (zZ c148)<|T_k<|aE<|aD<|T_rz 66<|T_ed 3 [31,312] [(31,vi (zY (au+1)))]<|aQ ((zY (au+1)):Int) sk h
     refine aJ 304 (zQ c144)<|zj 14<|aB<|aB<|aM<|aD<|aA 69<|T_nd 1 [12,31,304] [(313,vp e)]<|T_c (some 314) h ?_;clear h
     intro v_30 eo h
     exact T_pd [313] []<|T_e<|T_rz 70<|T_nd 2 [17] [(8,vs r m lB)]<|zq<|aE<|aD<|T_rz 8<|T_ed 3 [9] [(9,vi (zY (lC+1)))]<|aQ ((a1,am,aq,r,m,lB,(zY (lC+1))):zW×Nat×Nat×zW×Nat×Nat×Int) sk h
    exact aI 264 (bne_iff_ne.mpr c125)<|aA 55<|T_nr 1 [4] [vF] hQ h
   exact aI 91 (bne_iff_ne.mpr c35)<|zj 1<|aB<|aM<|aD<|T_rz 8<|T_ed 3 [9,10,12,91] [(9,vi (zY (lC+1)))]<|aQ ((R,madeN_2,madeC_2,af,g,n,(zY (lC+1))):zW×Nat×Nat×zW×Nat×Nat×Int) sk h
  refine aJ 55 (zQ c15)<|zj 0<|aB<|aB<|aM<|aD<|aA 71<|T_nu []<|T_c (some 316) h ?_;clear h
  rintro ev e6 ⟨c4,rfl,h⟩
  refine⟨[(316,.bool c4)],pk,?_⟩
  exact T_nr 1 [4] [.bool c4] hQ h
 intro hk
 refine T_nu [(1,vs i o u),(5,vp ra),(6,vi rb),(39,.bool x)] ?_
 by_cases c1:x=true
 ·have b2:x=true:=c1
  refine bG [(1,vs i o u),(5,vp ra),(6,vi rb),(39,vT)] (by rw[b2]) ?_
  refine T_nd 3 [39] [(42,vT)]<|zq<|S_bd 42 (b:=true) (v:=(x || (rb !=0))) (by simp only[b2,BL]) ?_
  exact hk
 have b2:x=false:=zZ c1
 refine bG [(1,vs i o u),(5,vp ra),(6,vi rb),(39,vF)] (by rw[b2]) ?_
 refine T_nd 3 [39] [(42,.bool (rb !=0))]<|zq<|S_bd 42 (b:=(rb !=0)) (v:=(x || (rb !=0))) (by simp only[b2,BL]) ?_
 exact hk
end bO
variable{H:zV}{d:zk}{i k o:Int}{j:zW}
/-! moraine/obj.New -/
namespace iZ
def K0:=Func.code f8
end iZ
def iZ.pt(a:Int)(H:zV)(R:zk):Prop:=
 iM.C a H (λv H1=> ∃ra rb,v=.tuple #[vp ra,vi rb]/\
 if rb=0 then(
 ∀b H2,b=H1.size->H2=H1.push (.cells #[vp ra,vN,vN,vu 0] 51)->
 R (.tuple #[vq (ad b),vi 0]) H2)
 else
 R (.tuple #[vp none,vi rb]) H1)
namespace iZ
theorem link(h:pt i H d):C i H d:=by
 refine T_en K0 17 func8 ?_
 intro w0 Q hQ
 unfold pt at h
 refine T_su [(0,vi i)]<|aA 0<|T_ed 2 [] []<|aA 1<|T_n 1 [(7,vi i)]<|T_c (some 8) h ?_;clear h
 rintro v H1 ⟨ra,rb,rfl,h⟩
 refine⟨[(8,.tuple #[vp ra,vi rb])],pk,?_⟩
 refine T_ne 5 [(4,vp ra),(5,vi rb)]<|T_sz<|aA 2<|T_ed 2 [] [(12,.bool (rb !=0))] ?_
 revert h;refine iO_ (λc1 h=>?_) (λc1 h=>?_)
 ·refine aJ 12 (bne_eq_false_iff_eq.mpr c1)<|T_kt<|aA 4<|T_n 2 [(15,.agg #[vp ra,vN,vN,vu 0])]<|T_nw (some 16) (λb=>vp (pa b)) (.cells #[vp ra,vN,vN,vu 0] 51) ?_
  intro b H2 e3 e4
  replace h:=h b H2 e3 e4
  refine⟨[(16,vp (pa b))],pk,?_⟩
  exact T_nr 2 [2,3] [vp (pa b),vi 0] hQ h
 exact aI 12 (bne_iff_ne.mpr c1)<|aA 3<|T_nr 3 [2,3] [vp none,vi rb] hQ h
end iZ
/-! (*moraine/obj.Heap).Make -/
namespace dK
def K0:=Func.code f10
end dK
def dK.pt(hv:zW)(a d:Int)(lB:zW)(lN lC:Nat)(H:zV)(R:zk):Prop:=
 gm.C a 0 d H (λv H1=> ∃ra rb,v=.tuple #[vu ra,vi rb]/\
 if rb=0 then(
 if(lN:Int)>62 then(
 R (.tuple #[vu 0,vi 6]) H1)
 else
 gm.C a (lN:Int) d H1 (λk H2=> ∃e i,k=.tuple #[vu e,vi i]/\
 i0.C a H2 (λm H3=> ∃x,m=vi x/\
 ∀b H4,b=H3.size->H4=H3.push (.cells #[vu e] 28)->
 fE 1 28 8 [vu 0] (some (ad b)) 1 1 lB lN H4 (λap j H5=>
 eZ.C hv x 3 ap (1+lN) j H5 (λn H6=> ∃g f,n=.tuple #[vu g,vi f]/\
 R (.tuple #[vu g,vi f]) H6)))))
 else
 R (.tuple #[vu 0,vi rb]) H1)
namespace dK
theorem link{lB:zW}{lN lC:Nat}(h:pt j i k lB lN lC H d):C j i k lB lN lC H d:=by
 refine T_en K0 44 func10 ?_
 intro w0 Q hQ
 unfold pt at h
 refine T_su [(0,vp j),(1,vi i),(2,vu k),(3,vs lB lN lC)]<|aA 0<|T_ed 2 [] []<|T_sz<|aA 1<|T_nd 2 [] [(15,vi i),(16,vu k)]<|T_c (some 17) h ?_;clear h
 rintro v H1 ⟨ra,rb,rfl,h⟩
 refine T_pd [15,16] [(17,.tuple #[vu ra,vi rb])]<|T_ed 5 [17] [(11,vi rb)]<|aA 2<|T_ed 2 [] [(21,.bool (rb !=0))] ?_
 revert h;refine iO_ (λc1 h=>?_) (λc1 h=>?_)
 ·refine aJ 21 (bne_eq_false_iff_eq.mpr c1)<|T_kt<|T_sz<|aA 4<|T_ed 3 [11,21] [(25,.bool (decide ((lN:Int)>62)))] ?_
  revert h;refine iO_ (λc3 h=>?_) (λc3 h=>?_)
  ·exact aI 25 (zX c3)<|aA 5<|T_nr 2 [8,9] [vu 0,vi 6] hQ h
  refine aJ 25 (zQ c3)<|T_kt<|aA 6<|T_nd 4 [2,25] [(27,vi i),(29,vi lN),(30,vu k)]<|T_c (some 31) h ?_;clear h
  rintro hv H2 ⟨e,R,rfl,h⟩
  refine T_pd [27,29,30] [(31,.tuple #[vu e,vi R])]<|T_ed 5 [31] [(12,vu e)]<|aA 7<|T_nd 2 [0,1] [(34,vp j),(35,vi i)]<|T_c (some 36) h ?_;clear h
  rintro m H3 ⟨x,rfl,h⟩
  refine T_pd [35] [(36,vi x)]<|T_nd 1 [12] [(37,vu e)]<|T_nw (some 38) (λb=>vs (pa b) 1 1) (.cells #[vu e] 28) ?_
  intro b H4 e5 e6
  replace h:=h b H4 e5 e6
  refine T_pd [37] [(38,vs (pa b) 1 1)]<|T_nd 1 [3] [(39,vs lB lN lC)]<|N_op (some 40) (fR #[32,32] 32 #[vs (pa b) 1 1,vs lB lN lC]) _ (λ_=>by kernel_rfl) (fu (T:=28) (sz:=1) (bytes:=8) (zero:=(vu 0:Value)) underlying32 underlying32 rfl (show prog.info? 28=some t28 from by kernel_rfl) (by kernel_rfl) (by kernel_rfl) (by decide) (by kernel_rfl) (by first | exact h | (simpa only[Value.cells,List.toList_toArray]using h))) ?_;clear h
  rintro _ H5 ⟨ap,a,rfl,h⟩
  refine T_pd [38,39] [(40,vs ap (1+lN) a)]<|T_c (some 41) h ?_;clear h
  rintro n H6 ⟨g,f,rfl,h⟩
  refine⟨[(41,.tuple #[vu g,vi f])],pk,?_⟩
  exact T_nr 4 [8,9] [vu g,vi f] hQ h
 exact aI 21 (bne_iff_ne.mpr c1)<|aA 3<|T_nr 3 [8,9] [vu 0,vi rb] hQ h
end dK
/-! (*moraine/obj.Heap).Type -/
namespace bW
def K0:=Func.code f30
end bW
def bW.pt(hv:zW)(wv:Int)(H:zV)(R:zk):Prop:=
 bQ.C hv wv H (λv H1=> ∃ra rb rc rd re,v=.tuple #[vi ra,vi rb,vi rc,vu rd,.bool re]/\
 R (vi rb) H1)
namespace bW
theorem link(h:pt j i H d):C j i H d:=by
 refine T_en K0 20 func30 ?_
 intro w0 Q hQ
 unfold pt at h
 refine T_su [(0,vp j),(1,vu i)]<|aA 0<|T_ed 1 [] []<|aA 1<|T_n 2 [(11,vp j),(12,vu i)]<|T_c (some 13) h ?_;clear h
 rintro v H1 ⟨ra,rb,rc,rd,re,rfl,h⟩
 refine⟨[(13,.tuple #[vi ra,vi rb,vi rc,vu rd,.bool re])],pk,?_⟩
 exact T_ne 11 [(6,vi rb)]<|aA 2<|T_nr 2 [4] [vi rb] hQ h
end bW
/-! (*moraine/obj.Heap).Get -/
namespace eG
def K0:=Func.code f41
end eG
def eG.pt(hv:zW)(wv a i:Int)(H:zV)(R:zk):Prop:=
 dZ.C hv wv a i H (λv H1=> ∃ra rb,v=.tuple #[vi ra,vi rb]/\
 if rb=0 then(
 ∃g,hv=some g/\
 ∃x,hat H1 g=some (vp x)/\
 ∃xA,x=some xA/\
 ∃f,hat H1 xA=some (vp f)/\
 ∃j,f=some j/\
 ∃e,hat H1 j=some (vp e)/\
 bL.C e ra H1 (λk H2=> ∃b d,k=.tuple #[vu b,vi d]/\
 R (.tuple #[vu b,vi d]) H2))
 else
 R (.tuple #[vu 0,vi rb]) H1)
namespace eG
theorem link(h:pt j i k o H d):C j i k o H d:=by
 refine T_en K0 37 func41 ?_
 intro w0 Q hQ
 unfold pt at h
 refine T_su [(0,vp j),(1,vu i),(2,vi k),(3,vi o)]<|aA 0<|T_ed 2 [] []<|aA 1<|T_n 4 [(0,vp j),(13,vp j),(14,vu i),(15,vi k),(16,vi o)]<|T_c (some 17) h ?_;clear h
 rintro v H1 ⟨ra,rb,rfl,h⟩
 refine⟨[(0,vp j),(17,.tuple #[vi ra,vi rb])],pk,?_⟩
 refine T_ed 5 [17] [(10,vi ra),(11,vi rb)]<|T_sz<|aA 2<|T_ed 2 [] [(21,.bool (rb !=0))] ?_
 revert h;refine iO_ (λc1 h=>?_) (λc1 h=>?_)
 ·refine aJ 21 (bne_eq_false_iff_eq.mpr c1)<|T_kt<|aA 4<|T_n 1 [(10,vi ra),(23,vp j)] ?_
  obtain⟨g,rfl,h⟩:=h
  refine T_nd 2 [23] [(25,vq g)] ?_
  obtain⟨x,q3,h⟩:=h
  refine T_l1 26 49 q3 [25] ?_
  obtain⟨xA,rfl,h⟩:=h
  refine T_nd 2 [26] [(28,vq xA)] ?_
  obtain⟨f,q4,h⟩:=h
  refine T_l1 29 52 q4 [28] ?_
  obtain⟨a,rfl,h⟩:=h
  refine T_nd 2 [29] [(31,vq a)] ?_
  obtain⟨e,q5,h⟩:=h
  refine T_l1 32 78 q5 [31]<|T_nd 1 [10] [(33,vi ra)]<|T_c (some 34) h ?_;clear h
  rintro wv H2 ⟨b,R,rfl,h⟩
  refine⟨[(34,.tuple #[vu b,vi R])],pk,?_⟩
  exact T_nr 4 [8,9] [vu b,vi R] hQ h
 exact aI 21 (bne_iff_ne.mpr c1)<|aA 3<|T_nr 3 [8,9] [vu 0,vi rb] hQ h
end eG
/-! (*moraine/obj.Heap).put -/
namespace eZ
def K0:=Func.code f43
def K2:=cb K0
def K4:=cb K2
def K12:=cb K4
def K14:=cb K12
def K19:=ca K14
def K22:=cb K19
def K23:=ca K22
def K24:=ca K23
end eZ
def eZ.pt(hv:zW)(f d:Int)(lB:zW)(lN lC:Nat)(H:zV)(R:zk):Prop:=
 eq.C hv H (λv H1=> ∃x,v=.bool x/\
 if x=true then(
 R (.tuple #[vu 0,vi 2]) H1)
 else
 ∃e,hv=some e/\
 ∃q,hat H1 e=some (vp q)/\
 ∃r,q=some r/\
 ∃p,hat H1 r=some (vp p)/\
 bU.C p 0 f (lN:Int) H1 (λab H2=> ∃ra rb,ab=.tuple #[vi ra,vi rb]/\
 if rb=0 then(
 ∃(y:zv) (m25:Int->zV->Nat),y 0 H2/\ ∀b H3,y b H3->
 if b< (lN:Int)then(
 ∃g,lB=some g/\
 zw b lN/\
 ∃j,hat H3 (g.add (Int.toNat b*1))=some (vu j)/\
 ∃s,hat H3 e=some (vp s)/\
 ∃aa,s=some aa/\
 ∃u,hat H3 aa=some (vp u)/\
 ∃z,u=some z/\
 ∃o,hat H3 z=some (vp o)/\
 bM.C o (zY (ra+b)) j H3 (λac H4=> ∃ae,ac=vi ae/\
 (y (zY (b+1)) H4/\m25 (zY (b+1)) H4<m25 b H3)))
 else
 il.C d ra H3 (λaf H5=> ∃m n,af=.tuple #[vu m,vi n]/\
 R (.tuple #[vu m,vi n]) H5))
 else
 R (.tuple #[vu 0,vi rb]) H2))
namespace eZ
theorem link{lB:zW}{lN lC:Nat}(h:pt j i k lB lN lC H d):C j i k lB lN lC H d:=by
 refine T_en K0 61 func43 ?_
 intro w0 Q hQ
 unfold pt zY at h
 refine T_su [(0,vp j),(1,vi i),(2,vi k),(3,vs lB lN lC)]<|aA 0<|T_ed 2 [] []<|T_sz<|aA 1<|T_nd 1 [] [(14,vp j)]<|T_c (some 15) h ?_;clear h
 rintro v H1 ⟨x,rfl,h⟩
 refine T_pd [14] [(15,.bool x)]<|T_e ?_
 revert h;refine iO_ (λc1 h=>?_) (λc1 h=>?_)
 ·exact aI 15 c1<|aA 2<|T_nr 2 [8,9] [vu 0,vi 2] hQ h
 refine aJ 15 (zZ c1)<|T_kt<|aA 3<|T_nd 1 [15] [(17,vp j)] ?_
 obtain⟨e,rfl,h⟩:=h
 refine T_nd 2 [0,17] [(0,vq e),(19,vq e)] ?_
 obtain⟨q,q3,h⟩:=h
 refine T_l1 20 49 q3 [19] ?_
 obtain⟨r,rfl,h⟩:=h
 refine T_nd 2 [20] [(22,vq r)] ?_
 obtain⟨p,q4,h⟩:=h
 refine T_l1 23 52 q4 [22]<|T_nd 3 [1] [(24,vi i),(26,vi lN)]<|T_c (some 27) h ?_;clear h
 rintro ab H2 ⟨ra,rb,rfl,h⟩
 refine T_pd [23,24,26] [(27,.tuple #[vi ra,vi rb])]<|T_ed 5 [27] [(10,vi ra),(11,vi rb)]<|T_sz<|aA 4<|T_ed 2 [] [(31,.bool (rb !=0))] ?_
 revert h;refine iO_ (λc5 h=>?_) (λc5 h=>?_)
 ·refine aJ 31 (bne_eq_false_iff_eq.mpr c5)<|T_kt<|T_sz<|aA 6<|T_ed 3 [3,11,31] [(33,vs lB lN lC),(34,vi lN),(35,vi 0)]<|T_bz 0 ?_
  obtain⟨y,m25,i7,i8⟩:=h
  refine bR (x:=K24) (σ:=Int) (λs_=> [(0,vq e),(2,vi k),(10,vi ra),(33,vs lB lN lC),(34,vi lN),(35,vi s_)]) (λs_ H=>y s_ H) (λs_ H=>m25 s_ H) (0:Int) (by kernel_rfl) i7 sk ?_
  rintro b H3 i9
  have h:=i8 b H3 i9
  refine T_su [(0,vq e),(2,vi k),(10,vi ra),(33,vs lB lN lC),(34,vi lN),(35,vi b)]<|aA 7<|T_ed 1 [] [(36,.bool (decide (b< (lN:Int))))]<|T_sz ?_
  revert h;refine iO_ (λc10 h=>?_) (λc10 h=>?_)
  ·refine aI 36 (zX c10)<|T_kt<|T_sz<|T_bz 1<|aA 8<|T_nd 1 [36] [(37,vi b)] ?_
   obtain⟨g,rfl,q12,h⟩:=h
   refine T_xd (some 38) 32 28 1 g lN lC .i64 b underlying32 q12.1 q12.2 [33] [(33,vs (some g) lN lC),(38,vq (g.add (Int.toNat b*1)))] ?_
   obtain⟨R,q13,h⟩:=h
   refine T_l1 39 28 q13 [38]<|T_ed 2 [37,39] [(12,vi b),(13,vu R)]<|T_rz 9<|T_nd 3 [] [(42,vq e)] ?_
   obtain⟨s,q14,h⟩:=h
   refine T_l1 43 49 q14 [42] ?_
   obtain⟨aa,rfl,h⟩:=h
   refine T_nd 2 [43] [(45,vq aa)] ?_
   obtain⟨u,q15,h⟩:=h
   refine T_l1 46 52 q15 [45] ?_
   obtain⟨z,rfl,h⟩:=h
   refine T_nd 2 [46] [(48,vq z)] ?_
   obtain⟨o,q16,h⟩:=h
   refine T_l1 49 78 q16 [48]<|T_nd 4 [12,13] [(52,vi (zY (ra+b))),(53,vu R)]<|T_c (some 54) h ?_;clear h
   rintro ac H4 ⟨ae,rfl,h⟩
   exact T_pd [49,52,53] []<|zq<|aE<|aD<|T_rz 10<|T_ed 2 [35] [(35,vi (zY (b+1)))]<|aQ ((zY (b+1)):Int) sk h
  refine aJ 36 (zQ c10)<|zj 0<|aB<|aB<|aM<|aD<|aA 11<|T_n 2 [(56,vi k),(57,vi ra)]<|T_c (some 58) h ?_;clear h
  rintro af H5 ⟨m,n,rfl,h⟩
  refine⟨[(58,.tuple #[vu m,vi n])],pk,?_⟩
  exact T_nr 4 [8,9] [vu m,vi n] hQ h
 exact aI 31 (bne_iff_ne.mpr c5)<|aA 5<|T_nr 3 [8,9] [vu 0,vi rb] hQ h
end eZ
/-! moraine/obj.raw -/
namespace i0
def K0:=Func.code f44
end i0
def i0.pt(a:Int)(H:zV)(R:zk):Prop:=
 if((a==2) || (a==3))=true then(
 R (vi 3) H)
 else
 R (vi 2) H
namespace i0
theorem link(h:pt i H d):C i H d:=by
 refine T_en K0 9 func44 ?_
 intro w0 Q hQ
 unfold pt at h
 refine T_su [(0,vi i)]<|aA 0<|T_ed 1 [] []<|T_sz<|aA 1 ?_
 refine gz [(8,.bool ((i==2) || (i==3)))] ?_ ?_
 ·refine aD ?_
  revert h;refine iO_ (λc3 h=>?_) (λc3 h=>?_)
  ·exact aI 8 c3<|aA 2<|T_nr 1 [2] [vi 3] hQ h
  exact aJ 8 (zZ c3)<|T_kt<|aA 3<|T_nr 1 [2] [vi 2] hQ h
 intro hk
 refine T_n 3 [(0,vi i),(5,.bool (i==2))] ?_
 by_cases c1:i=2
 ·have b2:(i==2)=true:=zK c1
  refine bG [(0,vi i),(5,vT)] (by rw[b2]) ?_
  refine T_n 3 [(8,vT)]<|zq<|gD [(8,.bool ((i==2) || (i==3)))] (by simp only[b2,BL]) ?_
  exact hk
 have b2:(i==2)=false:=zJ c1
 refine bG [(0,vi i),(5,vF)] (by rw[b2]) ?_
 refine T_n 3 [(8,.bool (i==3))]<|zq<|gD [(8,.bool ((i==2) || (i==3)))] (by simp only[b2,BL]) ?_
 exact hk
end i0
/-! (*moraine/obj.Heap).object -/
namespace bQ
def K0:=Func.code f73
def K2:=cb K0
def K3:=ca K2
def K6:=cb K3
def K7:=ca K6
def K8:=ca K7
end bQ
def bQ.pt(hv:zW)(wv:Int)(H:zV)(R:zk):Prop:=
 ∃(I9:zv) (m9:Int->zV->Nat),I9 0 H/\ ∀a H1,I9 a H1->
 if a<2 then(
 ∃x,((0<=a/\a< (2:Int))/\(#[vi 2,vi 3]:Array Value)[Int.toNat a]?=some (vi x))/\
 fN.C hv wv 3 x H1 (λv H2=> ∃ra rb,v=.tuple #[vi ra,.bool rb]/\
 if rb=true then(
 ∃e,hv=some e/\
 ∃aa,hat H2 e=some (vp aa)/\
 ∃ab,aa=some ab/\
 ∃ai,hat H2 ab=some (vp ai)/\
 ∃ae,ai=some ae/\
 ∃z,hat H2 ae=some (vp z)/\
 bL.C z ra H2 (λak H3=> ∃p aj,ak=.tuple #[vu p,vi aj]/\
 ir.C p H3 (λal H4=> ∃f d rc rd,al=.tuple #[vi f,vi d,vu rc,.bool rd]/\
 ∃ac,hat H4 e=some (vp ac)/\
 ∃ah,ac=some ah/\
 ∃af,hat H4 ah=some (vp af)/\
 ∃ag,af=some ag/\
 ∃y,hat H4 ag=some (vp y)/\
 bB.C y (zY (Int.tdiv ra 64)) H4 (λam H5=> ∃o m q j k g i s,am=.tuple #[.agg #[vi o,vi m,vi q,vi j,vi k,vi g,vi i],.bool s]/\
 ∀b H6,b=H5.size->H6=H5.push (.cells #[vi 0,vi 0,vi 0,vi 0,vi 0,vi 0,vi 0] 108)->
 (aN H6 (ad b) 0 7)/\ ∀H7,H7=aV H6 (ad b) [vi o,vi m,vi q,vi j,vi k,vi g,vi i] 0->
 if rd=true then(
 i0.C f H7 (λan H8=> ∃u,an=vi u/\
 if u=x then(
 ∃r,hat H8 ((ad b).add 2)=some (vi r)/\
 if(zY ((Int.tmod ra 64)+d))<r then(
 R (.tuple #[vi ra,vi f,vi d,vu rc,vT]) H8)
 else
 (I9 (zY (a+1)) H8/\m9 (zY (a+1)) H8<m9 a H1))
 else
 (I9 (zY (a+1)) H8/\m9 (zY (a+1)) H8<m9 a H1)))
 else
 (I9 (zY (a+1)) H7/\m9 (zY (a+1)) H7<m9 a H1)))))
 else
 (I9 (zY (a+1)) H2/\m9 (zY (a+1)) H2<m9 a H1)))
 else
 R (.tuple #[vi 0,vi 0,vi 0,vu 0,vF]) H1
namespace bQ
theorem link(h:pt j i H d):C j i H d:=by
 refine T_en K0 87 func73 ?_
 intro w0 Q hQ
 unfold pt zY at h
 refine T_su [(0,vp j),(1,vu i)]<|aA 0<|T_ed 5 [] []<|T_sz<|aA 1<|T_ed 2 [] [(15,.agg #[vi 2,vi 3]),(16,vi 0)]<|T_bz 0 ?_
 obtain⟨I9,m9,i1,i2⟩:=h
 refine bR (x:=K8) (σ:=Int) (λs_=> [(0,vp j),(1,vu i),(15,.agg #[vi 2,vi 3]),(16,vi s_)]) (λs_ H=>I9 s_ H) (λs_ H=>m9 s_ H) (0:Int) (by kernel_rfl) i1 sk ?_
 rintro a H1 i3
 have h:=i2 a H1 i3
 refine T_su [(0,vp j),(1,vu i),(15,.agg #[vi 2,vi 3]),(16,vi a)]<|aA 2<|T_ed 1 [] [(17,.bool (decide (a<2)))]<|T_sz ?_
 revert h;refine iO_ (λc4 h=>?_) (λc4 h=>?_)
 ·refine aI 17 (zX c4)<|T_kt<|T_sz<|T_bz 1<|aA 3<|T_ud [17] [] ?_
  obtain⟨x,q6,h⟩:=h
  refine T_v1 18 (mP 181 (.agg #[vi 2,vi 3]) (vi a)) (vi x) (λw _=>jY (P:=prog) (t:=181) (elem:=3) (n:=2) underlying181 (λ_=>by kernel_rfl) (λ_=>by kernel_rfl) q6.1.1 q6.1.2 q6.2 w) []<|T_ed 1 [18] [(10,vi x)]<|T_sz<|aA 4<|T_nd 3 [] [(20,vp j),(21,vu i),(22,vi x)]<|T_c (some 23) h ?_;clear h
  rintro v H2 ⟨ra,rb,rfl,h⟩
  refine T_pd [20,21,22] [(23,.tuple #[vi ra,.bool rb])]<|T_ed 5 [23] [(4,vi ra),(8,.bool rb)]<|aA 5<|T_ed 2 [8] [(27,.bool (!rb))] ?_
  revert h;refine iO_ (λc7 h=>?_) (λc7 h=>?_)
  ·refine aJ 27 (congrArg Bool.not (c7))<|T_kt<|aA 6<|T_nd 1 [27] [(29,vp j)] ?_
   obtain⟨e,rfl,h⟩:=h
   refine T_nd 2 [0,29] [(0,vq e),(31,vq e)] ?_
   obtain⟨aa,q9,h⟩:=h
   refine T_l1 32 49 q9 [31] ?_
   obtain⟨ab,rfl,h⟩:=h
   refine T_nd 2 [32] [(34,vq ab)] ?_
   obtain⟨ai,q10,h⟩:=h
   refine T_l1 35 52 q10 [34] ?_
   obtain⟨ae,rfl,h⟩:=h
   refine T_nd 2 [35] [(37,vq ae)] ?_
   obtain⟨z,q11,h⟩:=h
   refine T_l1 38 78 q11 [37]<|T_nd 1 [] [(39,vi ra)]<|T_c (some 40) h ?_;clear h
   rintro ak H3 ⟨p,aj,rfl,h⟩
   refine T_pd [38,39] [(40,.tuple #[vu p,vi aj])]<|T_ed 5 [40] [(11,vu p)]<|aA 7<|T_nd 1 [11] [(44,vu p)]<|T_c (some 45) h ?_;clear h
   rintro al H4 ⟨f,R,rc,rd,rfl,h⟩
   refine T_pd [44] [(45,.tuple #[vi f,vi R,vu rc,.bool rd])]<|T_ed 9 [45] [(5,vi f),(6,vi R),(7,vu rc),(8,.bool rd)]<|aA 8<|T_nd 3 [] [(53,vq e)] ?_
   obtain⟨ac,q12,h⟩:=h
   refine T_l1 54 49 q12 [53] ?_
   obtain⟨ah,rfl,h⟩:=h
   refine T_nd 2 [54] [(56,vq ah)] ?_
   obtain⟨af,q13,h⟩:=h
   refine T_l1 57 52 q13 [56] ?_
   obtain⟨ag,rfl,h⟩:=h
   refine T_nd 2 [57] [(59,vq ag)] ?_
   obtain⟨y,q14,h⟩:=h
   refine T_l1 60 78 q14 [59]<|T_nd 2 [] [(62,vi (zY (Int.tdiv ra 64)))]<|T_c (some 63) h ?_;clear h
   rintro am H5 ⟨o,m,q,hv,k,g,wv,s,rfl,h⟩
   refine T_pd [60,62] [(63,.tuple #[.agg #[vi o,vi m,vi q,vi hv,vi k,vi g,vi wv],.bool s])]<|T_nd 3 [63] [(64,.agg #[vi o,vi m,vi q,vi hv,vi k,vi g,vi wv]),(65,.bool s)]<|T_nw (some 13) (λb=>vp (pa b)) (.cells #[vi 0,vi 0,vi 0,vi 0,vi 0,vi 0,vi 0] 108) ?_
   intro b H6 e15 e16
   replace h:=h b H6 e15 e16
   refine T_pd [] [(13,vp (pa b))] ?_
   obtain⟨q18,h⟩:=h
   refine fL 108 [vi o,vi m,vi q,vi hv,vi k,vi g,vi wv] q18 ?_
   intro H7 e17
   replace h:=h H7 e17
   refine T_pd [64] []<|T_ed 1 [65] []<|aA 9<|T_nd 2 [8] [(67,.bool rd)] ?_
   revert h;refine iO_ (λc19 h=>?_) (λc19 h=>?_)
   ·refine N_bd 67 c19<|T_nd 1 [] [(68,vi f)] ?_
    refine T_c (some 69) h ?_;clear h
    rintro an H8 ⟨u,rfl,h⟩
    refine T_pd [68] [(69,vi u)]<|T_nd 4 [10,67,69] [(73,.bool (u==x))] ?_
    revert h;refine iO_ (λc21 h=>?_) (λc21 h=>?_)
    ·refine N_bd 73 (zK c21)<|T_nd 5 [13] [(77,vi (zY ((Int.tmod ra 64)+R))),(78,vq ((ad b).add 2))] ?_
     obtain⟨r,q23,h⟩:=h
     refine T_l1 79 3 q23 [78]<|T_ed 2 [73,77,79] [(81,.bool (decide ((zY ((Int.tmod ra 64)+R))<r)))] ?_
     revert h;refine iO_ (λc24 h=>?_) (λc24 h=>?_)
     ·exact aI 81 (zX c24)<|aA 10<|T_nr 9 [4,5,6,7,8] [vi ra,vi f,vi R,vu rc,vT] hQ h
     exact aJ 81 (zQ c24)<|T_k<|aE<|aD<|T_rz 11<|T_ed 2 [4,5,6,7,16,81] [(16,vi (zY (a+1)))]<|aQ ((zY (a+1)):Int) sk h
    refine N_bd 73 (zJ c21)<|T_ed 8 [13,73] [(81,vF)]<|T_fz 81<|T_k ?_
    exact aE<|aD<|T_rz 11<|T_ed 2 [4,5,6,7,16,81] [(16,vi (zY (a+1)))]<|aQ ((zY (a+1)):Int) sk h
   refine N_bd 67 (zZ c19)<|T_ed 14 [10,13,67] [(81,vF)]<|T_fz 81<|T_k ?_
   exact aE<|aD<|T_rz 11<|T_ed 2 [4,5,6,7,16,81] [(16,vi (zY (a+1)))]<|aQ ((zY (a+1)):Int) sk h
  exact aI 27 (congrArg Bool.not (zZ c7))<|zj 1<|aB<|aM<|aD<|T_rz 11<|T_ed 2 [4,10,16,27] [(16,vi (zY (a+1)))]<|aQ ((zY (a+1)):Int) sk h
 exact aJ 17 (zQ c4)<|zj 0<|aB<|aB<|aM<|aD<|aA 12<|T_nr 5 [4,5,6,7,8] [vi 0,vi 0,vi 0,vu 0,vF] hQ h
end bQ
/-! (*moraine/obj.Heap).field -/
namespace dZ
def K0:=Func.code f85
end dZ
def dZ.pt(hv:zW)(wv a i:Int)(H:zV)(R:zk):Prop:=
 bQ.C hv wv H (λv H1=> ∃ra rb rc rd re,v=.tuple #[vi ra,vi rb,vi rc,vu rd,.bool re]/\
 if((!re) || (rb !=a))=true then(
 R (.tuple #[vi 0,vi 3]) H1)
 else
 if((decide (i<0)) || (decide (i>=rc)))=true then(
 R (.tuple #[vi 0,vi 4]) H1)
 else
 R (.tuple #[vi (zY ((zY (ra+1))+i)),vi 0]) H1)
namespace dZ
theorem link(h:pt j i k o H d):C j i k o H d:=by
 refine T_en K0 44 func85 ?_
 intro w0 Q hQ
 unfold pt zY at h
 refine T_su [(0,vp j),(1,vu i),(2,vi k),(3,vi o)]<|aA 0<|T_ed 2 [] []<|aA 1<|T_nd 2 [0,1] [(16,vp j),(17,vu i)]<|T_c (some 18) h ?_;clear h
 rintro v H1 ⟨ra,rb,rc,rd,re,rfl,h⟩
 refine T_pd [16,17] [(18,.tuple #[vi ra,vi rb,vi rc,vu rd,.bool re])]<|T_ed 11 [18] [(10,vi ra),(11,vi rb),(12,vi rc),(14,.bool re)]<|T_sz<|T_bz 0<|aA 2 ?_
 refine gz [(3,vi o),(10,vi ra),(12,vi rc),(24,.bool ((!re) || (rb !=k)))] ?_ ?_
 ·refine aD ?_
  revert h;refine iO_ (λc3 h=>?_) (λc3 h=>?_)
  ·exact aI 24 c3<|aA 3<|T_nr 2 [8,9] [vi 0,vi 3] hQ h
  refine aJ 24 (zZ c3)<|aA 4 ?_
  refine gz [(3,vi o),(10,vi ra),(32,.bool ((decide (o<0)) || (decide (o>=rc))))] ?_ ?_
  ·refine aD ?_
   revert h;refine iO_ (λc7 h=>?_) (λc7 h=>?_)
   ·exact aI 32 c7<|aA 5<|T_nr 2 [8,9] [vi 0,vi 4] hQ h
   exact aJ 32 (zZ c7)<|T_k<|aE<|aD<|aA 6<|T_nr 6 [8,9] [vi (zY ((zY (ra+1))+o)),vi 0] hQ h
  intro hk
  refine T_n 3 [(3,vi o),(10,vi ra),(12,vi rc),(35,.bool (decide (o<0)))] ?_
  by_cases c5:o<0
  ·have b6:(decide (o<0))=true:=zX c5
   refine bG [(3,vi o),(10,vi ra),(12,vi rc),(35,vT)] (by rw[b6]) ?_
   refine T_nd 5 [12,35] [(32,vT)]<|zq<|S_bd 32 (b:=true) (v:=((decide (o<0)) || (decide (o>=rc)))) (by simp only[b6,BL]) ?_
   exact hk
  have b6:(decide (o<0))=false:=zQ c5
  refine bG [(3,vi o),(10,vi ra),(12,vi rc),(35,vF)] (by rw[b6]) ?_
  refine T_nd 5 [12,35] [(32,.bool (decide (o>=rc)))]<|zq<|S_bd 32 (b:=(decide (o>=rc))) (v:=((decide (o<0)) || (decide (o>=rc)))) (by simp only[b6,BL]) ?_
  exact hk
 intro hk
 refine T_n 3 [(2,vi k),(3,vi o),(10,vi ra),(11,vi rb),(12,vi rc),(27,.bool (!re))] ?_
 by_cases c1:re=true
 ·have b2:(!re)=false:=congrArg Bool.not (c1)
  have b22:re=true:=c1
  refine bG [(2,vi k),(3,vi o),(10,vi ra),(11,vi rb),(12,vi rc),(27,vF)] (by simp only[b2,b22,Bool.not_true,Bool.not_false]) ?_
  refine T_nd 5 [2,11,27] [(24,.bool (rb !=k))]<|zq<|S_bd 24 (b:=(rb !=k)) (v:=((!re) || (rb !=k))) (by simp only[b2,BL]) ?_
  exact hk
 have b2:(!re)=true:=congrArg Bool.not (zZ c1)
 have b22:re=false:=zZ c1
 refine bG [(2,vi k),(3,vi o),(10,vi ra),(11,vi rb),(12,vi rc),(27,vT)] (by simp only[b2,b22,Bool.not_true,Bool.not_false]) ?_
 refine T_nd 5 [2,11,27] [(24,vT)]<|zq<|S_bd 24 (b:=true) (v:=((!re) || (rb !=k))) (by simp only[b2,BL]) ?_
 exact hk
end dZ
/-! (*moraine/obj.Heap).none -/
namespace eq
def K0:=Func.code f86
end eq
def eq.pt(hv:zW)(H:zV)(R:zk):Prop:=
 gM hv (
 R vT H) (λa=>
 ∃x,hat H a=some (vp x)/\
 gM x (
 R vT H) (λxA=>
 R vF H))
namespace eq
theorem link(h:pt j H d):C j H d:=by
 refine T_en K0 12 func86 ?_
 intro w0 Q hQ
 unfold pt at h
 refine T_su [(0,vp j)]<|aA 0<|T_ed 1 [] []<|aA 1<|T_nd 1 [] [(3,vp j)] ?_
 rcases j with _ | a
 ·rw[onPtr_none]at h
  exact T_nr 9 [2] [vT] hQ h
 rw[onPtr_some]at h
 refine T_n 5 [(5,vF),(8,vq a)] ?_
 obtain⟨x,q1,h⟩:=h
 refine T_l1 9 49 q1 [8] ?_
 rcases x with _ | xA
 ·rw[onPtr_none]at h
  exact T_nr 3 [2] [vT] hQ h
 rw[onPtr_some]at h
 exact T_nr 3 [2] [vF] hQ h
end eq
/-! (*moraine/obj.Heap).Len -/
namespace fk
def K0:=Func.code f101
end fk
def fk.pt(hv:zW)(wv:Int)(H:zV)(R:zk):Prop:=
 bQ.C hv wv H (λv H1=> ∃ra rb rc rd re,v=.tuple #[vi ra,vi rb,vi rc,vu rd,.bool re]/\
 R (vi rc) H1)
namespace fk
theorem link(h:pt j i H d):C j i H d:=by
 refine T_en K0 20 func101 ?_
 intro w0 Q hQ
 unfold pt at h
 refine T_su [(0,vp j),(1,vu i)]<|aA 0<|T_ed 1 [] []<|aA 1<|T_n 2 [(11,vp j),(12,vu i)]<|T_c (some 13) h ?_;clear h
 rintro v H1 ⟨ra,rb,rc,rd,re,rfl,h⟩
 refine⟨[(13,.tuple #[vi ra,vi rb,vi rc,vu rd,.bool re])],pk,?_⟩
 exact T_ne 11 [(7,vi rc)]<|aA 2<|T_nr 2 [4] [vi rc] hQ h
end fk
/-! (*moraine/obj.Heap).Set -/
namespace dU
def K0:=Func.code f104
end dU
def dU.pt(hv:zW)(wv a i v:Int)(H:zV)(R:zk):Prop:=
 dZ.C hv wv a i H (λe H1=> ∃ra rb,e=.tuple #[vi ra,vi rb]/\
 if rb=0 then(
 ∃d,hv=some d/\
 ∃x,hat H1 d=some (vp x)/\
 cY.C x ra v H1 (λf H2=> ∃b,f=vi b/\
 R (vi b) H2))
 else
 R (vi rb) H1)
namespace dU
theorem link{v:Int}(h:pt j i k o v H d):C j i k o v H d:=by
 refine T_en K0 31 func104 ?_
 intro w0 Q hQ
 unfold pt at h
 refine T_su [(0,vp j),(1,vu i),(2,vi k),(3,vi o),(4,vu v)]<|aA 0<|T_ed 1 [] []<|aA 1<|T_nd 4 [1,2,3] [(14,vp j),(15,vu i),(16,vi k),(17,vi o)]<|T_c (some 18) h ?_;clear h
 rintro e H1 ⟨ra,rb,rfl,h⟩
 refine T_pd [14,15,16,17] [(18,.tuple #[vi ra,vi rb])]<|T_ed 5 [18] [(11,vi ra),(12,vi rb)]<|T_sz<|aA 2<|T_ed 2 [] [(22,.bool (rb !=0))] ?_
 revert h;refine iO_ (λc1 h=>?_) (λc1 h=>?_)
 ·refine aJ 22 (bne_eq_false_iff_eq.mpr c1)<|T_kt<|aA 4<|T_nd 1 [0,12,22] [(24,vp j)] ?_
  obtain⟨R,rfl,h⟩:=h
  refine T_nd 2 [24] [(26,vq R)] ?_
  obtain⟨x,q3,h⟩:=h
  refine T_l1 27 49 q3 [26]<|T_nd 2 [4,11] [(28,vi ra),(29,vu v)]<|T_c (some 30) h ?_;clear h
  rintro f H2 ⟨b,rfl,h⟩
  refine⟨[(30,vi b)],pk,?_⟩
  exact T_nr 1 [10] [vi b] hQ h
 exact aI 22 (bne_iff_ne.mpr c1)<|aA 3<|T_nr 2 [10] [vi rb] hQ h
end dU
/-! (*moraine/obj.Heap).at -/
namespace fN
def K0:=Func.code f113
end fN
def fN.pt(hv:zW)(wv i a:Int)(H:zV)(R:zk):Prop:=
 fS.C wv H (λv H1=> ∃ra rb,v=.tuple #[vi ra,.bool rb]/\
 eq.C hv H1 (λaa H2=> ∃x,aa=.bool x/\
 if x=true then(
 R (.tuple #[vi 0,vF]) H2)
 else
 if rb=true then(
 fM.C wv H2 (λab H3=> ∃q,ab=vi q/\
 if q=i then(
 ∃t,hv=some t/\
 ∃z,hat H3 t=some (vp z)/\
 ∃s,z=some s/\
 ∃u,hat H3 s=some (vp u)/\
 ∃y,u=some y/\
 ∃r,hat H3 y=some (vp r)/\
 bB.C r (zY (Int.tdiv ra 64)) H3 (λac H4=> ∃m k p f g d e j,ac=.tuple #[.agg #[vi m,vi k,vi p,vi f,vi g,vi d,vi e],.bool j]/\
 ∀b H5,b=H4.size->H5=H4.push (.cells #[vi 0,vi 0,vi 0,vi 0,vi 0,vi 0,vi 0] 108)->
 (aN H5 (ad b) 0 7)/\ ∀H6,H6=aV H5 (ad b) [vi m,vi k,vi p,vi f,vi g,vi d,vi e] 0->
 if j=true then(
 ∃n,hat H6 ((ad b).add 1)=some (vi n)/\
 if n=a then(
 ∃o,hat H6 ((ad b).add 2)=some (vi o)/\
 R (.tuple #[vi ra,.bool (decide ((Int.tmod ra 64)<o))]) H6)
 else
 R (.tuple #[vi ra,vF]) H6)
 else
 R (.tuple #[vi ra,vF]) H6))
 else
 R (.tuple #[vi 0,vF]) H3))
 else
 R (.tuple #[vi 0,vF]) H2))
namespace fN
theorem link(h:pt j i k o H d):C j i k o H d:=by
 refine T_en K0 61 func113 ?_
 intro w0 Q hQ
 unfold pt zY at h
 refine T_su [(0,vp j),(1,vu i),(2,vi k),(3,vi o)]<|aA 0<|T_ed 2 [] []<|aA 1<|T_nd 1 [] [(14,vu i)]<|T_c (some 15) h ?_;clear h
 rintro v H1 ⟨ra,rb,rfl,h⟩
 refine T_pd [14] [(15,.tuple #[vi ra,.bool rb])]<|T_ed 5 [15] [(10,vi ra),(11,.bool rb)]<|T_sz<|aA 2<|T_nd 1 [] [(18,vp j)]<|T_c (some 19) h ?_;clear h
 rintro aa H2 ⟨x,rfl,h⟩
 refine T_pd [18] [(19,.bool x)]<|T_nd 1 [19] [(20,.bool x)] ?_
 revert h;refine iO_ (λc1 h=>?_) (λc1 h=>?_)
 ·exact N_bd 20 c1<|T_ed 9 [1,2,11,20] [(29,vT)]<|T_tz 29<|aA 3<|T_nr 2 [8,9] [vi 0,vF] hQ h
 refine N_bd 20 (zZ c1)<|T_nd 4 [11,20] [(24,.bool (!rb))] ?_
 revert h;refine iO_ (λc3 h=>?_) (λc3 h=>?_)
 ·have b4:(!rb)=false:=congrArg Bool.not (c3)
  have b42:rb=true:=c3
  refine N_bd 24 (b:=(!rb)) (v:=false) (by simp only[b4,b42,Bool.not_true,Bool.not_false]) ?_
  clear b4 b42
  refine T_nd 1 [1] [(25,vu i)]<|T_c (some 26) h ?_;clear h
  rintro ab H3 ⟨q,rfl,h⟩
  refine T_pd [25] [(26,vi q)]<|T_ed 3 [2,24,26] [(29,.bool (q !=k))] ?_
  revert h;refine iO_ (λc5 h=>?_) (λc5 h=>?_)
  ·refine aJ 29 (bne_eq_false_iff_eq.mpr c5)<|T_kt<|aA 4<|T_nd 1 [0,29] [(31,vp j)] ?_
   obtain⟨t,rfl,h⟩:=h
   refine T_nd 2 [31] [(33,vq t)] ?_
   obtain⟨z,q7,h⟩:=h
   refine T_l1 34 49 q7 [33] ?_
   obtain⟨s,rfl,h⟩:=h
   refine T_nd 2 [34] [(36,vq s)] ?_
   obtain⟨u,q8,h⟩:=h
   refine T_l1 37 52 q8 [36] ?_
   obtain⟨y,rfl,h⟩:=h
   refine T_nd 2 [37] [(39,vq y)] ?_
   obtain⟨r,q9,h⟩:=h
   refine T_l1 40 78 q9 [39]<|T_nd 2 [] [(42,vi (zY (Int.tdiv ra 64)))]<|T_c (some 43) h ?_;clear h
   rintro ac H4 ⟨m,wv,p,f,g,R,e,a,rfl,h⟩
   refine T_pd [40,42] [(43,.tuple #[.agg #[vi m,vi wv,vi p,vi f,vi g,vi R,vi e],.bool a])]<|T_nd 3 [43] [(44,.agg #[vi m,vi wv,vi p,vi f,vi g,vi R,vi e]),(45,.bool a)]<|T_nw (some 12) (λb=>vp (pa b)) (.cells #[vi 0,vi 0,vi 0,vi 0,vi 0,vi 0,vi 0] 108) ?_
   intro b H5 e10 e11
   replace h:=h b H5 e10 e11
   refine T_pd [] [(12,vp (pa b))] ?_
   obtain⟨q13,h⟩:=h
   refine fL 108 [vi m,vi wv,vi p,vi f,vi g,vi R,vi e] q13 ?_
   intro H6 e12
   replace h:=h H6 e12
   refine T_pd [44] []<|T_ed 1 [45] [(11,.bool a)]<|T_sz<|qZ 5<|T_q1 46 (vi ra) []<|T_q1 47 (.bool a) [11]<|T_q1 48 (.bool a) [47] ?_
   revert h;refine iO_ (λc14 h=>?_) (λc14 h=>?_)
   ·refine Q_bd 48 c14<|T_q1 49 (vq ((ad b).add 1)) [] ?_
    obtain⟨n,q16,h⟩:=h
    refine mX (some 50) 3 q16 [49] [(50,vi n)]<|T_q1 51 (vi o) [3]<|T_q1 52 (.bool (n==o)) [50,51]<|T_q1 53 (.bool (n==o)) [48,52]<|T_q1 54 (.bool (n==o)) [53] ?_
    revert h;refine iO_ (λc17 h=>?_) (λc17 h=>?_)
    ·refine Q_bd 54 (zK c17)<|T_q1 55 (vi ra) [10]<|T_q1 56 (vi (Int.tmod ra 64)) [55]<|T_q1 57 (vq ((ad b).add 2)) [12] ?_
     obtain⟨hv,q19,h⟩:=h
     exact mX (some 58) 3 q19 [57] [(58,vi hv)]<|T_q1 59 (.bool (decide ((Int.tmod ra 64)<hv))) [56,58]<|T_q1 60 (.bool (decide ((Int.tmod ra 64)<hv))) [54,59]<|T_q1 8 (vi ra) [46]<|T_q1 9 (.bool (decide ((Int.tmod ra 64)<hv))) [60]<|me [(8,vi ra),(9,.bool (decide ((Int.tmod ra 64)<hv)))] sk<|T_qe<|ia [8,9] [vi ra,.bool (decide ((Int.tmod ra 64)<hv))] hQ h
    refine Q_bd 54 (zJ c17)<|T_q1 55 (undef) [10]<|T_q1 56 (undef) [55]<|T_q1 57 (undef) [12]<|T_q1 58 (undef) [57]<|T_q1 59 (undef) [56,58]<|T_q1 60 vF [54,59]<|T_q1 8 (vi ra) [46]<|T_q1 9 vF [60] ?_
    refine me [(8,vi ra),(9,vF)] sk ?_
    exact T_qe<|ia [8,9] [vi ra,vF] hQ h
   refine Q_bd 48 (zZ c14)<|T_q1 49 (undef) []<|T_q1 50 (undef) [49]<|T_q1 51 (undef) [3]<|T_q1 52 (undef) [50,51]<|T_q1 53 vF [48,52]<|T_q1 54 vF [53]<|T_q1 55 (undef) [10]<|T_q1 56 (undef) [55] ?_
   exact T_q1 57 (undef) [12]<|T_q1 58 (undef) [57]<|T_q1 59 (undef) [56,58]<|T_q1 60 vF [54,59]<|T_q1 8 (vi ra) [46]<|T_q1 9 vF [60]<|me [(8,vi ra),(9,vF)] sk<|T_qe<|ia [8,9] [vi ra,vF] hQ h
  exact aI 29 (bne_iff_ne.mpr c5)<|aA 3<|T_nr 2 [8,9] [vi 0,vF] hQ h
 have b4:(!rb)=true:=congrArg Bool.not (zZ c3)
 have b42:rb=false:=zZ c3
 refine N_bd 24 (b:=(!rb)) (v:=true) (by simp only[b4,b42,Bool.not_true,Bool.not_false]) ?_
 clear b4 b42
 exact T_ed 5 [1,2,24] [(29,vT)]<|T_tz 29<|aA 3<|T_nr 2 [8,9] [vi 0,vF] hQ h
end fN
variable{H:zV}{d:zW}{i:zk}{j:Int}
/-! (*moraine/card.Cards).Dirty -/
namespace dP
def K0:=Func.code f49
def K2:=cb K0
def K4:=cb K2
def K12:=cb K4
def K13:=ca K12
def K16:=cb K13
def K17:=ca K16
def K18:=ca K17
def K20:=cb K18
def K22:=cb K20
def K25:=ca K22
def K27:=ca K25
def K29:=cb K27
def K31:=cb K29
def K33:=cb K31
def K34:=ca K33
def K35:=ca K34
end dP
def dP.pt(c:zW)(g:Int)(H:zV)(R:zk):Prop:=
 cF.C c H (λv H1=> ∃x,v=.bool x/\
 if x=true then(
 R vN H1)
 else
 ∃cA,c=some cA/\
 ∃aj,hat H1 cA=some (vp aj)/\
 ∃ak,aj=some ak/\
 ∃ai,hat H1 ak=some (vp ai)/\
 cW.C ai none 0 0 H1 (λao H2=> ∃xB xN xC,ao=vs xB xN xC/\
 ∃(am:zW->Nat->Nat->zv) (m19:zW->Nat->Nat->Int->zV->Nat),am none 0 0 0 H2/\ ∀lB lN lC s23 H3,am lB lN lC s23 H3->
 if s23< (xN:Int)then(
 ∃d,xB=some d/\
 zw s23 xN/\
 ∃e,hat H3 (d.add (Int.toNat s23*1))=some (vi e)/\
 ∃al,hat H3 cA=some (vp al)/\
 ∃an,al=some an/\
 ∃af,hat H3 an=some (vp af)/\
 bB.C af e H3 (λaq H4=> ∃ab z ac s u q r rb,aq=.tuple #[.agg #[vi ab,vi z,vi ac,vi s,vi u,vi q,vi r],.bool rb]/\
 ∀b H5,b=H4.size->H5=H4.push (.cells #[vi 0,vi 0,vi 0,vi 0,vi 0,vi 0,vi 0] 108)->
 (aN H5 (ad b) 0 7)/\ ∀H6,H6=aV H5 (ad b) [vi ab,vi z,vi ac,vi s,vi u,vi q,vi r] 0->
 ∃o j p m,aP H6 ((ad b).add 3) 0 [vi o,vi j,vi p,vi m]/\
 ∃(ag:zW->Nat->Nat->zv) (m36:zW->Nat->Nat->Int->zV->Nat),ag lB lN lC 0 H6/\ ∀f lN_2 lC_2 s41 H7,ag f lN_2 lC_2 s41 H7->
 if s41<4 then(
 ∃y,((0<=s41/\s41< (4:Int))/\(#[vi o,vi j,vi p,vi m]:Array Value)[Int.toNat s41]?=some (vi y))/\
 ∃aa,hat H7 (ad b)=some (vi aa)/\
 if((decide (aa>g)) && (decide (y<=g)))=true then(
 ∀ah H8,ah=H7.size->H8=H7.push (.cells #[vi e,vi s41] 127)->
 fE 2 127 16 [vi 0,vi 0] f lN_2 lC_2 (some (ad ah)) 1 H8 (λap ae H9=>
 (ag ap (lN_2+1) ae (zY (s41+1)) H9/\m36 ap (lN_2+1) ae (zY (s41+1)) H9<m36 f lN_2 lC_2 s41 H7)))
 else
 (ag f lN_2 lC_2 (zY (s41+1)) H7/\m36 f lN_2 lC_2 (zY (s41+1)) H7<m36 f lN_2 lC_2 s41 H7))
 else
 (am f lN_2 lC_2 (zY (s23+1)) H7/\m19 f lN_2 lC_2 (zY (s23+1)) H7<m19 lB lN lC s23 H3)))
 else
 R (vs lB lN lC) H3))
namespace dP
theorem link(h:pt d j H i):C d j H i:=by
 refine T_en K0 63 func49 ?_
 intro w0 Q hQ
 unfold pt zY at h
 refine T_su [(0,vp d),(1,vi j)]<|aA 0<|T_ed 1 [] []<|T_sz<|aA 1<|T_nd 1 [] [(12,vp d)]<|T_c (some 13) h ?_;clear h
 rintro v H1 ⟨x,rfl,h⟩
 refine T_pd [12] [(13,.bool x)]<|T_e ?_
 revert h;refine iO_ (λc1 h=>?_) (λc1 h=>?_)
 ·exact aI 13 c1<|aA 2<|T_nr 1 [4] [vN] hQ h
 refine aJ 13 (zZ c1)<|T_kt<|aA 3<|T_ed 1 [13] [(5,vN)]<|T_sz<|aA 4<|T_nd 1 [] [(14,vp d)] ?_
 obtain⟨cA,rfl,h⟩:=h
 refine T_nd 2 [0,14] [(0,vq cA),(16,vq cA)] ?_
 obtain⟨aj,q3,h⟩:=h
 refine T_l1 17 52 q3 [16] ?_
 obtain⟨ak,rfl,h⟩:=h
 refine T_nd 2 [17] [(19,vq ak)] ?_
 obtain⟨ai,q4,h⟩:=h
 refine T_l1 20 78 q4 [19]<|T_c (some 21) h ?_;clear h
 rintro ao H2 ⟨xB,xN,xC,rfl,h⟩
 refine T_pd [20] [(21,vs xB xN xC)]<|T_ed 2 [] [(22,vi xN),(23,vi 0)]<|T_bz 0 ?_
 obtain⟨am,m19,i5,i6⟩:=h
 refine bR (x:=K18) (σ:=zW×Nat×Nat×Int) (λs_=> [(0,vq cA),(1,vi j),(5,vs s_.1 s_.2.1 s_.2.2.1),(21,vs xB xN xC),(22,vi xN),(23,vi s_.2.2.2)]) (λs_ H=>am s_.1 s_.2.1 s_.2.2.1 s_.2.2.2 H) (λs_ H=>m19 s_.1 s_.2.1 s_.2.2.1 s_.2.2.2 H) ((none,0,0,0):zW×Nat×Nat×Int) (by kernel_rfl) i5 sk ?_
 rintro⟨lB,lN,lC,s23⟩ H3 i7
 have h:=i6 lB lN lC s23 H3 i7
 refine T_su [(0,vq cA),(1,vi j),(5,vs lB lN lC),(21,vs xB xN xC),(22,vi xN),(23,vi s23)]<|aA 5<|T_ed 1 [] [(24,.bool (decide (s23< (xN:Int))))]<|T_sz ?_
 revert h;refine iO_ (λc8 h=>?_) (λc8 h=>?_)
 ·refine aI 24 (zX c8)<|T_kt<|T_sz<|T_bz 1<|aA 6<|T_ud [24] [] ?_
  obtain⟨R,rfl,q10,h⟩:=h
  refine T_xd (some 25) 75 3 1 R xN xC .i64 s23 underlying75 q10.1 q10.2 [21] [(21,vs (some R) xN xC),(25,vq (R.add (Int.toNat s23*1)))] ?_
  obtain⟨e,q11,h⟩:=h
  refine T_l1 26 3 q11 [25]<|T_ed 1 [26] [(7,vi e)]<|aA 7<|T_nd 3 [] [(30,vq cA)] ?_
  obtain⟨al,q12,h⟩:=h
  refine T_l1 31 52 q12 [30] ?_
  obtain⟨an,rfl,h⟩:=h
  refine T_nd 2 [31] [(33,vq an)] ?_
  obtain⟨af,q13,h⟩:=h
  refine T_l1 34 78 q13 [33]<|T_nd 1 [] [(35,vi e)]<|T_c (some 36) h ?_;clear h
  rintro aq H4 ⟨ab,z,ac,s,u,q,r,rb,rfl,h⟩
  refine T_pd [34,35] [(36,.tuple #[.agg #[vi ab,vi z,vi ac,vi s,vi u,vi q,vi r],.bool rb])]<|T_nd 3 [36] [(37,.agg #[vi ab,vi z,vi ac,vi s,vi u,vi q,vi r]),(38,.bool rb)]<|T_nw (some 8) (λb=>vp (pa b)) (.cells #[vi 0,vi 0,vi 0,vi 0,vi 0,vi 0,vi 0] 108) ?_
  intro b H5 e14 e15
  replace h:=h b H5 e14 e15
  refine T_pd [] [(8,vp (pa b))] ?_
  obtain⟨q17,h⟩:=h
  refine fL 108 [vi ab,vi z,vi ac,vi s,vi u,vi q,vi r] q17 ?_
  intro H6 e16
  replace h:=h H6 e16
  refine T_pd [37] []<|T_ed 1 [38] []<|aA 8<|T_nd 1 [] [(39,vq ((ad b).add 3))] ?_
  obtain⟨o,g,p,m,q18,h⟩:=h
  refine T_lr 40 79 q18 [39]<|T_ed 1 [] [(41,vi 0)]<|T_bz 2 ?_
  obtain⟨ag,m36,i19,i20⟩:=h
  refine bR (x:=K35) (σ:=zW×Nat×Nat×Int) (λs_=> [(0,vq cA),(1,vi j),(5,vs s_.1 s_.2.1 s_.2.2.1),(7,vi e),(8,vp (pa b)),(21,vs (some R) xN xC),(22,vi xN),(23,vi s23),(40,.agg #[vi o,vi g,vi p,vi m]),(41,vi s_.2.2.2)]) (λs_ H=>ag s_.1 s_.2.1 s_.2.2.1 s_.2.2.2 H) (λs_ H=>m36 s_.1 s_.2.1 s_.2.2.1 s_.2.2.2 H) ((lB,lN,lC,0):zW×Nat×Nat×Int) (by kernel_rfl) i19 sk ?_
  rintro⟨f,lN_2,lC_2,s41⟩ H7 i21
  have h:=i20 f lN_2 lC_2 s41 H7 i21
  refine T_su [(0,vq cA),(1,vi j),(5,vs f lN_2 lC_2),(7,vi e),(8,vp (pa b)),(21,vs (some R) xN xC),(22,vi xN),(23,vi s23),(40,.agg #[vi o,vi g,vi p,vi m]),(41,vi s41)]<|aA 9<|T_ed 1 [] [(42,.bool (decide (s41<4)))]<|T_sz ?_
  revert h;refine iO_ (λc22 h=>?_) (λc22 h=>?_)
  ·refine aI 42 (zX c22)<|T_kt<|T_sz<|T_bz 3<|aA 10<|T_nd 1 [42] [(43,vi s41)] ?_
   obtain⟨y,q24,h⟩:=h
   refine T_v1 44 (mP 79 (.agg #[vi o,vi g,vi p,vi m]) (vi s41)) (vi y) (λw _=>jY (P:=prog) (t:=79) (elem:=3) (n:=4) underlying79 (λ_=>by kernel_rfl) (λ_=>by kernel_rfl) q24.1.1 q24.1.2 q24.2 w) []<|T_ed 2 [43,44] [(10,vi s41),(11,vi y)]<|aA 11<|T_nd 1 [] [(45,vp (pa b))] ?_
   obtain⟨aa,q25,h⟩:=h
   refine T_l1 46 3 q25 [45]<|T_nd 3 [46] [(49,.bool (decide (aa>j)))] ?_
   refine gz [(0,vq cA),(1,vi j),(5,vs f lN_2 lC_2),(7,vi e),(8,vp (pa b)),(10,vi s41),(21,vs (some R) xN xC),(22,vi xN),(23,vi s23),(40,.agg #[vi o,vi g,vi p,vi m]),(41,vi s41),(53,.bool ((decide (aa>j)) && (decide (y<=j))))] ?_ ?_
   ·refine aD ?_
    revert h;refine iO_ (λc28 h=>?_) (λc28 h=>?_)
    ·refine aI 53 c28<|T_rz 12<|T_n 4 [(0,vq cA),(1,vi j),(7,vi e),(8,vp (pa b)),(21,vs (some R) xN xC),(22,vi xN),(23,vi s23),(40,.agg #[vi o,vi g,vi p,vi m]),(41,vi s41),(54,vs f lN_2 lC_2),(57,.agg #[vi e,vi s41])]<|T_nw (some 58) (λb=>vs (pa b) 1 1) (.cells #[vi e,vi s41] 127) ?_
     intro ah H8 e30 e31
     replace h:=h ah H8 e30 e31
     refine T_pd [57] [(58,vs (pa ah) 1 1)]<|N_op (some 59) (fR #[104,104] 104 #[vs f lN_2 lC_2,vs (pa ah) 1 1]) _ (λ_=>by kernel_rfl) (fu (T:=127) (sz:=2) (bytes:=16) (zero:=(.agg #[vi 0,vi 0]:Value)) underlying104 underlying104 rfl (show prog.info? 127=some t127 from by kernel_rfl) (by kernel_rfl) (by kernel_rfl) (by decide) (by kernel_rfl) (by first | exact h | (simpa only[Value.cells,List.toList_toArray]using h))) ?_;clear h
     rintro _ H9 ⟨ap,ae,rfl,h⟩
     exact T_pd [54,58] [(59,vs ap (lN_2+1) ae)]<|T_nd 1 [59] [(5,vs ap (lN_2+1) ae)]<|zq<|aE<|aD<|T_rz 13<|T_ed 2 [41] [(41,vi (zY (s41+1)))]<|aQ ((ap,(lN_2+1),ae,(zY (s41+1))):zW×Nat×Nat×Int) sk h
    exact aJ 53 (zZ c28)<|T_k<|aE<|aD<|T_rz 13<|T_ne 2 [(0,vq cA),(1,vi j),(5,vs f lN_2 lC_2),(7,vi e),(8,vp (pa b)),(21,vs (some R) xN xC),(22,vi xN),(23,vi s23),(40,.agg #[vi o,vi g,vi p,vi m]),(41,vi (zY (s41+1)))]<|aQ ((f,lN_2,lC_2,(zY (s41+1))):zW×Nat×Nat×Int) sk h
   intro hk
   refine T_nu [(0,vq cA),(1,vi j),(5,vs f lN_2 lC_2),(7,vi e),(8,vp (pa b)),(10,vi s41),(11,vi y),(21,vs (some R) xN xC),(22,vi xN),(23,vi s23),(40,.agg #[vi o,vi g,vi p,vi m]),(41,vi s41),(49,.bool (decide (aa>j)))] ?_
   by_cases c26:aa>j
   ·have b27:(decide (aa>j))=true:=zX c26
    refine bG [(0,vq cA),(1,vi j),(5,vs f lN_2 lC_2),(7,vi e),(8,vp (pa b)),(10,vi s41),(11,vi y),(21,vs (some R) xN xC),(22,vi xN),(23,vi s23),(40,.agg #[vi o,vi g,vi p,vi m]),(41,vi s41),(49,vT)] (by rw[b27]) ?_
    refine T_nd 4 [11,49] [(53,.bool (decide (y<=j)))]<|zq<|S_bd 53 (b:=(decide (y<=j))) (v:=((decide (aa>j)) && (decide (y<=j)))) (by simp only[b27,BL]) ?_
    exact hk
   have b27:(decide (aa>j))=false:=zQ c26
   refine bG [(0,vq cA),(1,vi j),(5,vs f lN_2 lC_2),(7,vi e),(8,vp (pa b)),(10,vi s41),(11,vi y),(21,vs (some R) xN xC),(22,vi xN),(23,vi s23),(40,.agg #[vi o,vi g,vi p,vi m]),(41,vi s41),(49,vF)] (by rw[b27]) ?_
   refine T_nd 4 [11,49] [(53,vF)]<|zq<|S_bd 53 (b:=false) (v:=((decide (aa>j)) && (decide (y<=j)))) (by simp only[b27,BL]) ?_
   exact hk
  exact aJ 42 (zQ c22)<|zj 2<|aB<|aB<|aM<|aE<|aD<|T_rz 14<|T_ed 2 [7,8,23,40,41,42] [(23,vi (zY (s23+1)))]<|aQ ((f,lN_2,lC_2,(zY (s23+1))):zW×Nat×Nat×Int) sk h
 exact aJ 24 (zQ c8)<|zj 0<|aB<|aB<|aM<|aD<|aA 15<|T_nr 2 [4] [vs lB lN lC] hQ h
end dP
/-! (*moraine/card.Cards).Again -/
namespace dS
def K0:=Func.code f64
def K2:=cb K0
def K4:=cb K2
def K12:=cb K4
def K14:=cb K12
def K27:=cb K14
def K28:=ca K27
def K29:=cb K27
def K31:=cb K28
def K32:=ca K31
def K33:=ca K32
def K34:=cb K32
def K36:=ca K29
end dS
def dS.pt(c:zW)(d a:Int)(H:zV)(R:zk):Prop:=
 ∀b H1,b=H.size->H1=H.push (.cells #[vp c] 49)->
 ∃x,hat H1 (ad b)=some (vp x)/\
 cF.C x H1 (λv H2=> ∃al,v=.bool al/\
 if al=true then(
 R (vi 19) H2)
 else
 ∃aw,hat H2 (ad b)=some (vp aw)/\
 ∃aq,aw=some aq/\
 ∃au,hat H2 aq=some (vp au)/\
 ∃av,au=some av/\
 ∃am,hat H2 av=some (vp am)/\
 bB.C am d H2 (λa1 H3=> ∃u t ag k m i j rb,a1=.tuple #[.agg #[vi u,vi t,vi ag,vi k,vi m,vi i,vi j],.bool rb]/\
 ∀f H4,f=H3.size->H4=H3.push (.cells #[vi 0,vi 0,vi 0,vi 0,vi 0,vi 0,vi 0] 108)->
 (aN H4 (ad f) 0 7)/\ ∀H5,H5=aV H4 (ad f) [vi u,vi t,vi ag,vi k,vi m,vi i,vi j] 0->
 if rb=true then(
 if((decide (a<0)) || (decide (a>=4)))=true then(
 R (vi 1) H5)
 else
 ∀e H6,e=H5.size->H6=H5.push (.cells #[vi 0] 3)->
 (aN H6 (ad e) 0 1)/\ ∀H7,H7=aV H6 (ad e) [vi 5] 0->
 ∃ao,hat H7 (ad b)=some (vp ao)/\
 eP.C ao d a H7 (λan H8=>an=an/\
 ∀(rc:LoopState->Option Code->Obj) (lp:Nat) (H9:zV),lp=H8.size+1->H9=(H8.push (.deferred (some []))).push (rc .ready none)->
 ∀vY,(∀(ab:Int) (H10:zV) (vRy:zk),H10[lp]?=some (rc .ready none)->
 (H10[lp]?=some (rc .ready none)/\ ∀ak,ak=bN H10 lp (rc .busy none)->
 ∃ah,hat ak (ad b)=some (vp ah)/\
 ∃ac y xN o q p n,aP ak (ad f) 0 [vi ac,vi y,vi xN,vi o,vi q,vi p,vi n]/\
 ∃ai,hat ak (ad e)=some (vi ai)/\
 bY.C ah ac y xN o q p n ab ai ak (λa4 az=> ∃ae,a4=vi ae/\
 (aN az (ad e) 0 1)/\ ∀ap,ap=aV az (ad e) [vi ae] 0->
 ap[lp]?=some (rc .busy none)/\
 vRy vT (bN ap lp (rc .ready none))))->
 FC prog vY #[vu ab] H10 vRy)->
 FE prog an #[vY] H9 (λ_ a0=>
 (a0[lp]?=some (rc .ready none)/\ ∀aj,aj=bN a0 lp (rc .exhausted none)->
 ∃ay,hat aj (ad b)=some (vp ay)/\
 ∃r,ay=some r/\
 ∃ax,hat aj r=some (vp ax)/\
 ∃s,ax=some s/\
 ∃z,hat aj s=some (vp z)/\
 ∃af,hat aj (ad e)=some (vi af)/\
 fJ.C z d a af aj (λa5 a3=> ∃aa,a5=vi aa/\
 Shut (H8.size::[]) a3 (λa2=>
 R (vi aa) a2))))))
 else
 R (vi 19) H5))
namespace dS
theorem link{a:Int}(h:pt d j a H i):C d j a H i:=by
 refine T_en K0 56 func64 ?_
 intro w0 Q hQ
 unfold pt at h
 refine T_su [(0,vp d),(1,vi j),(2,vi a)]<|aA 0<|T_nw (some 3) (λb=>vp (pa b)) (.cells #[vp d] 49) ?_
 intro b H1 e1 e2
 replace h:=h b H1 e1 e2
 refine T_pd [0] [(3,vp (pa b))]<|T_ed 1 [] []<|T_sz<|aA 1 ?_
 obtain⟨x,q3,h⟩:=h
 refine T_l1 11 49 q3 []<|T_c (some 12) h ?_;clear h
 rintro v H2 ⟨al,rfl,h⟩
 refine T_pd [11] [(12,.bool al)]<|T_e ?_
 revert h;refine iO_ (λc4 h=>?_) (λc4 h=>?_)
 ·exact aI 12 c4<|aA 2<|T_nr 1 [6] [vi 19] hQ h
 refine aJ 12 (zZ c4)<|T_kt<|aA 3<|T_ud [12] [] ?_
 obtain⟨aw,q6,h⟩:=h
 refine T_l1 14 49 q6 [] ?_
 obtain⟨aq,rfl,h⟩:=h
 refine T_nd 2 [14] [(16,vq aq)] ?_
 obtain⟨au,q7,h⟩:=h
 refine T_l1 17 52 q7 [16] ?_
 obtain⟨av,rfl,h⟩:=h
 refine T_nd 2 [17] [(19,vq av)] ?_
 obtain⟨am,q8,h⟩:=h
 refine T_l1 20 78 q8 [19]<|T_nd 1 [] [(21,vi j)]<|T_c (some 22) h ?_;clear h
 rintro a1 H3 ⟨u,t,ag,k,m,R,c,rb,rfl,h⟩
 refine T_pd [20,21] [(22,.tuple #[.agg #[vi u,vi t,vi ag,vi k,vi m,vi R,vi c],.bool rb])]<|T_nd 3 [22] [(23,.agg #[vi u,vi t,vi ag,vi k,vi m,vi R,vi c]),(24,.bool rb)]<|T_nw (some 7) (λb=>vp (pa b)) (.cells #[vi 0,vi 0,vi 0,vi 0,vi 0,vi 0,vi 0] 108) ?_
 intro f H4 e9 e10
 replace h:=h f H4 e9 e10
 refine T_pd [] [(7,vp (pa f))] ?_
 obtain⟨q12,h⟩:=h
 refine fL 108 [vi u,vi t,vi ag,vi k,vi m,vi R,vi c] q12 ?_
 intro H5 e11
 replace h:=h H5 e11
 refine T_pd [23] []<|T_ed 1 [24] [(8,.bool rb)]<|T_sz<|T_bz 0<|aA 4<|T_ed 3 [8] [(25,.bool (!rb))] ?_
 revert h;refine iO_ (λc13 h=>?_) (λc13 h=>?_)
 ·refine aJ 25 (congrArg Bool.not (c13))<|aA 6 ?_
  refine gz [(1,vi j),(2,vi a),(3,vp (pa b)),(7,vp (pa f)),(28,.bool ((decide (a<0)) || (decide (a>=4))))] ?_ ?_
  ·refine aD ?_
   revert h;refine iO_ (λc17 h=>?_) (λc17 h=>?_)
   ·exact aI 28 c17<|aA 7<|T_nr 1 [6] [vi 1] hQ h
   refine aJ 28 (zZ c17)<|T_k<|aE<|aD<|aA 8<|T_nu [(1,vi j),(2,vi a),(3,vp (pa b)),(7,vp (pa f))]<|T_nw (some 9) (λb=>vp (pa b)) (.cells #[vi 0] 3) ?_
   intro e H6 e19 e20
   replace h:=h e H6 e19 e20
   refine T_pd [] [(9,vp (pa e))] ?_
   obtain⟨q22,h⟩:=h
   refine jf 3 (vi 5) q22 ?_
   intro H7 e21
   replace h:=h H7 e21
   refine T_pd [] []<|T_e<|T_sz<|aA 9 ?_
   obtain⟨ao,q23,h⟩:=h
   refine T_l1 35 49 q23 []<|T_nd 2 [] [(36,vi j),(37,vi a)]<|T_c (some 38) h ?_;clear h
   rintro an H8 ⟨-,h⟩
   refine T_pd [35,36,37] [(38,an)]<|T_e<|T_bz 1<|tJ (g:=.tmp 38) (ps:= #[39]) (assign:=K33) (body:=K34) (an) (by kernel_rfl) (by kernel_rfl) (by kernel_rfl) ?_
   intro rc lp H9 r24 e25 e26 y27
   refine FE.mono (h rc lp H9 e25 e26 (.func (.yield lp) #[] #[]) ?_) ?_
   ·clear h
    intro ab H10 vRy q28 h
    refine y27 #[vu ab] H10 vRy (by kernel_rfl) q28 (λw1x=>?_)
    refine T_sd [] [(39,vu ab)]<|T_rz 10<|T_nd 1 [1,2,38,39] [(10,vu ab)]<|zq ?_
    obtain⟨q30,h⟩:=h
    refine aD<|tI r24 q30 ?_
    intro ak e29
    replace h:=h ak e29
    refine T_bz 2<|T_rz 11 ?_
    obtain⟨ah,q31,h⟩:=h
    refine T_l1 40 49 q31 [3] ?_
    obtain⟨ac,y,xN,o,q,p,n,q32,h⟩:=h
    refine T_lr 41 108 q32 [7]<|T_nd 1 [10] [(42,vu ab)] ?_
    obtain⟨ai,q33,h⟩:=h
    refine T_l1 43 3 q33 []<|T_c (some 44) h ?_;clear h
    rintro a4 az ⟨ae,rfl,h⟩
    refine⟨[(9,vp (pa e)),(44,vi ae)],pk,?_⟩
    obtain⟨q35,h⟩:=h
    refine jf 3 (vi ae) q35 ?_
    intro ap e34
    replace h:=h ap e34
    refine⟨[],pk,?_⟩
    refine zq<|aE ?_
    obtain⟨q36,h⟩:=h
    exact rG r24 q36 h
   clear h y27
   rintro _ a0 (⟨q37,h⟩)
   refine .inl ⟨q37,λaj e42=>?_⟩
   replace h:=h aj e42
   refine tD (H8.size::[]) rfl ?_
   refine T_sd [7,38] []<|aE<|aD<|T_sz ?_
   obtain⟨ay,q38,r,rfl,ax,q39,s,rfl,z,q40,af,q41,h⟩:=h
   refine yY 12 (Code.ops K36) [(10,(ad b),[vq r]),(10,r,[vq s]),(10,s,[vp z]),(10,(ad e),[vi af])] 12 (bv 12 0) (show aH _ _ _ from⟨⟨q38,trivial⟩,⟨q39,trivial⟩,⟨q40,trivial⟩,⟨q41,trivial⟩,trivial⟩)<|T_g 0 (some 45) (vq r) (bv 12 1) [(1,vi j),(2,vi a),(9,vp (pa e)),(45,vq r)] (aR 49 (vp (pa b))) (yW 10 yZ)<|aF 1 46 (vq r) (bv 12 3) [45]<|aF 2 47 (vq r) (bv 12 7) [46]<|T_g1 3 48 (vq s) (bv 12 15) [47] (aR 52 (vq r)) (yW 10 yX)<|aF 4 49 (vq s) (bv 12 31) [48]<|aF 5 50 (vq s) (bv 12 63) [49]<|T_g1 6 51 (vp z) (bv 12 127) [50] (aR 78 (vq s)) (yW 10 yQ)<|aF 7 52 (vi j) (bv 12 255) [1]<|aF 8 53 (vi a) (bv 12 511) [2]<|T_g1 9 54 (vi af) (bv 12 1023) [9] (aR 3 (vp (pa e))) (yW 10 yJ)<|yq 10 (some 55) (bv 12 2047) 108 #[vp z,vi j,vi a,vi af] h ?_;clear h
   rintro a5 a3 ⟨aa,rfl,h⟩
   refine⟨[(55,vi aa)],pk,(show aH _ _ _ from⟨trivial,trivial,trivial,trivial,trivial⟩),?_⟩
   refine T_g 11 (some 6) (vi aa) (bv 12 4095) [(6,vi aa)] (pure (.value (vi aa)):Sem Next) (λ_ _ _ _ _=>rfl)<|fQ [(6,vi aa)] sk<|yx<|aD<|zx ?_
   show At _ _ _ _ _ (Q .ret)
   refine qS (fn:=f64) (H8.size::[]) hQ (Shut.mono (λa2 h=>?_) h)
   exact⟨[vi aa],(show dW _ _ _ [.tmp 6] _ from .tmp (by kernel_rfl) (.nil)),h⟩
  intro hk
  refine T_n 3 [(1,vi j),(2,vi a),(3,vp (pa b)),(7,vp (pa f)),(31,.bool (decide (a<0)))] ?_
  by_cases c15:a<0
  ·have b16:(decide (a<0))=true:=zX c15
   refine bG [(1,vi j),(2,vi a),(3,vp (pa b)),(7,vp (pa f)),(31,vT)] (by rw[b16]) ?_
   refine T_nd 4 [31] [(28,vT)]<|zq<|S_bd 28 (b:=true) (v:=((decide (a<0)) || (decide (a>=4)))) (by simp only[b16,BL]) ?_
   exact hk
  have b16:(decide (a<0))=false:=zQ c15
  refine bG [(1,vi j),(2,vi a),(3,vp (pa b)),(7,vp (pa f)),(31,vF)] (by rw[b16]) ?_
  refine T_nd 4 [31] [(28,.bool (decide (a>=4)))]<|zq<|S_bd 28 (b:=(decide (a>=4))) (v:=((decide (a<0)) || (decide (a>=4)))) (by simp only[b16,BL]) ?_
  exact hk
 exact aI 25 (congrArg Bool.not (zZ c13))<|aA 5<|T_nr 1 [6] [vi 19] hQ h
end dS
/-! (*moraine/card.Cards).words -/
namespace eP
def K0:=Func.code f106
end eP
def eP.pt(c:zW)(f a:Int)(H:zV)(R:zk):Prop:=
 ∀b H1,b=H.size->H1=H.push (.cells #[vp c] 49)->
 ∀d H2,d=H1.size->H2=H1.push (.cells #[vi f] 3)->
 ∀e H3,e=H2.size->H3=H2.push (.cells #[vi a] 3)->
 R (.func (.func 134) #[] #[vq (ad b),vq (ad d),vq (ad e)]) H3
namespace eP
theorem link{a:Int}(h:pt d j a H i):C d j a H i:=by
 refine T_en K0 8 func106 ?_
 intro w0 Q hQ
 unfold pt at h
 refine T_su [(0,vp d),(1,vi j),(2,vi a)]<|aA 0<|T_nw (some 3) (λb=>vp (pa b)) (.cells #[vp d] 49) ?_
 intro b H1 e1 e2
 replace h:=h b H1 e1 e2
 refine T_pd [0] [(3,vp (pa b))]<|T_nw (some 4) (λb=>vp (pa b)) (.cells #[vi j] 3) ?_
 intro R H2 e3 e4
 replace h:=h R H2 e3 e4
 refine T_pd [1] [(4,vp (pa R))]<|T_nw (some 5) (λb=>vp (pa b)) (.cells #[vi a] 3) ?_
 intro e H3 e5 e6
 replace h:=h e H3 e5 e6
 exact T_pd [2] [(5,vp (pa e))]<|T_ed 1 [] []<|aA 1<|T_nr 2 [6] [.func (.func 134) #[] #[vp (pa b),vp (pa R),vp (pa e)]] hQ h
end eP
/-! (*moraine/card.Cards).words.1 -/
namespace dI
def K0:=Func.code f134
def K2:=cb K0
def K3:=ca K2
def K4:=ca K3
def K6:=cb K4
def K8:=cb K6
def K11:=ca K8
def K13:=ca K11
def K15:=cb K13
def K16:=ca K15
end dI
def dI.pt(a:Value)(j k i:zW)(H:zV)(R:zk):Prop:=
 ∃(I5:zv) (m5:Int->zV->Nat),I5 0 H/\ ∀s8 H1,I5 s8 H1->
 if s8<16 then(
 ∃d,j=some d/\
 ∃x,hat H1 d=some (vp x)/\
 ∃xA,x=some xA/\
 ∃p,hat H1 xA=some (vp p)/\
 ∃m,p=some m/\
 ∃n,hat H1 m=some (vp n)/\
 ∃e,k=some e/\
 ∃f,hat H1 e=some (vi f)/\
 ∃b,i=some b/\
 ∃g,hat H1 b=some (vi g)/\
 bL.C n (zY ((zY ((zY (f*64))+(zY (g*16))))+s8)) H1 (λv H2=> ∃ra rb,v=.tuple #[vu ra,vi rb]/\
 if rb=0 then(
 FC prog a #[vu ra] H2 (λq H3=> ∃o,q=.bool o/\
 if o=true then(
 (I5 (zY (s8+1)) H3/\m5 (zY (s8+1)) H3<m5 s8 H1))
 else
 R (.tuple #[]) H3))
 else
 R (.tuple #[]) H2))
 else
 R (.tuple #[]) H1
namespace dI
theorem link{a:Value}{k j:zW}(h:pt a d k j H i):C a d k j H i:=by
 refine T_en K0 38 func134 ?_
 intro w0 Q hQ
 unfold pt zY at h
 refine T_su [(0,a),(1,vp d),(2,vp k),(3,vp j)]<|aA 0<|T_ed 1 [] [(8,vi 0)]<|T_bz 0 ?_
 obtain⟨I5,m5,i1,i2⟩:=h
 refine bR (x:=K4) (σ:=Int) (λs_=> [(0,a),(1,vp d),(2,vp k),(3,vp j),(8,vi s_)]) (λs_ H=>I5 s_ H) (λs_ H=>m5 s_ H) (0:Int) (by kernel_rfl) i1 sk ?_
 rintro s8 H1 i3
 have h:=i2 s8 H1 i3
 refine T_su [(0,a),(1,vp d),(2,vp k),(3,vp j),(8,vi s8)]<|aA 1<|T_ed 1 [] [(9,.bool (decide (s8<16)))]<|T_sz ?_
 revert h;refine iO_ (λc4 h=>?_) (λc4 h=>?_)
 ·refine aI 9 (zX c4)<|T_kt<|T_sz<|T_bz 1<|aA 2<|T_ed 2 [9] [(5,vi s8)]<|T_sz ?_
  obtain⟨R,rfl,x,q6,xA,rfl,p,q7,m,rfl,n,q8,e,rfl,f,q9,b,rfl,g,q10,h⟩:=h
  refine yY 3 (Code.ops K16) [(14,R,[vq xA]),(14,xA,[vq m]),(14,m,[vp n]),(14,e,[vi f]),(14,b,[vi g])] 20 (bv 20 0) (show aH _ _ _ from⟨⟨q6,trivial⟩,⟨q7,trivial⟩,⟨q8,trivial⟩,⟨q9,trivial⟩,⟨q10,trivial⟩,trivial⟩)<|T_g 0 (some 12) (vq xA) (bv 20 1) [(0,a),(1,vq R),(2,vq e),(3,vq b),(5,vi s8),(8,vi s8),(12,vq xA)] (aR 49 (vq R)) (yW 14 yZ)<|aF 1 13 (vq xA) (bv 20 3) [12]<|aF 2 14 (vq xA) (bv 20 7) [13]<|T_g1 3 15 (vq m) (bv 20 15) [14] (aR 52 (vq xA)) (yW 14 yX)<|aF 4 16 (vq m) (bv 20 31) [15]<|aF 5 17 (vq m) (bv 20 63) [16]<|T_g1 6 18 (vp n) (bv 20 127) [17] (aR 78 (vq m)) (yW 14 yQ)<|T_g1 7 19 (vi f) (bv 20 255) [] (aR 3 (vq e)) (yW 14 yJ)<|aF 8 20 (vi (zY (f*64))) (bv 20 511) [19]<|T_g1 9 21 (vi g) (bv 20 1023) [] (aR 3 (vq b)) (yW 14 yK)<|aF 10 22 (vi (zY (g*16))) (bv 20 2047) [21]<|aF 11 23 (vi (zY ((zY (f*64))+(zY (g*16))))) (bv 20 4095) [20,22]<|aF 12 24 (vi s8) (bv 20 8191) [5]<|aF 13 25 (vi (zY ((zY ((zY (f*64))+(zY (g*16))))+s8))) (bv 20 16383) [23,24]<|yq 14 (some 26) (bv 20 32767) 33 #[vp n,vi (zY ((zY ((zY (f*64))+(zY (g*16))))+s8))] h ?_;clear h
  rintro v H2 ⟨ra,rb,rfl,h⟩
  refine⟨[(0,a),(1,vq R),(2,vq e),(3,vq b),(8,vi s8),(26,.tuple #[vu ra,vi rb])],pk,(show aH _ _ _ from⟨trivial,trivial,trivial,trivial,trivial,trivial⟩),?_⟩
  refine T_g 15 (some 11) (.tuple #[vu ra,vi rb]) (bv 20 65535) [(0,a),(1,vq R),(2,vq e),(3,vq b),(8,vi s8),(11,.tuple #[vu ra,vi rb])] (pure (.value (.tuple #[vu ra,vi rb])):Sem Next) (λ_ _ _ _ _=>rfl)<|T_g1 16 27 (vu ra) (bv 20 131071) [] (pure (.value (vu ra)):Sem Next) (λ_ _ _ _ _=>rfl)<|T_g1 17 28 (vi rb) (bv 20 262143) [11] (pure (.value (vi rb)):Sem Next) (λ_ _ _ _ _=>rfl)<|T_g1 18 6 (vu ra) (bv 20 524287) [27] (pure (.value (vu ra)):Sem Next) (λ_ _ _ _ _=>rfl)<|T_g1 19 7 (vi rb) (bv 20 1048575) [28] (pure (.value (vi rb)):Sem Next) (λ_ _ _ _ _=>rfl)<|fQ [(0,a),(1,vq R),(2,vq e),(3,vq b),(6,vu ra),(7,vi rb),(8,vi s8)] sk<|yx<|aD<|aA 4<|T_n 3 [(0,a),(1,vq R),(2,vq e),(3,vq b),(6,vu ra),(8,vi s8),(31,.bool (rb !=0))] ?_
  revert h;refine iO_ (λc11 h=>?_) (λc11 h=>?_)
  ·have b12:(rb !=0)=false:=bne_eq_false_iff_eq.mpr c11
   refine bG [(0,a),(1,vq R),(2,vq e),(3,vq b),(6,vu ra),(8,vi s8),(31,vF)] (by rw[b12]) ?_
   clear b12
   refine T_nd 2 [6] [(32,a),(33,vu ra)]<|tH (some 34) a #[vu ra] (λ_=>by kernel_rfl) h ?_;clear h
   rintro q H3 ⟨o,rfl,h⟩
   refine T_pd [32,33] [(34,.bool o)]<|T_ed 2 [31,34] [(36,.bool (!o))] ?_
   revert h;refine iO_ (λc13 h=>?_) (λc13 h=>?_)
   ·exact aJ 36 (congrArg Bool.not (c13))<|T_k<|aE<|aD<|T_rz 5<|T_ed 2 [8,36] [(8,vi (zY (s8+1)))]<|aQ ((zY (s8+1)):Int) sk h
   exact aI 36 (congrArg Bool.not (zZ c13))<|ia [] [] hQ h
  have b12:(rb !=0)=true:=bne_iff_ne.mpr c11
  refine bG [(0,a),(1,vq R),(2,vq e),(3,vq b),(6,vu ra),(8,vi s8),(31,vT)] (by rw[b12]) ?_
  clear b12
  exact T_ed 5 [6,31] [(36,vT)]<|T_tz 36<|ia [] [] hQ h
 exact aJ 9 (zQ c4)<|zj 0<|aB<|aB<|aM<|ie (fn:=f134) [] hQ (show dW _ _ _ [] _ from .nil) h
end dI
