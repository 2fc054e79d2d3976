/- Printed: what each function asks, and that it is sound. -/
import Derived.Test.YtojbbgcjiaphjaaGreatFnsC
set_option linter.unusedSimpArgs false
set_option linter.unusedVariables false
set_option maxRecDepth 100000
set_option maxHeartbeats 1000000
noncomputable section
namespace Go.Proofs.YtojbbgcjiaphjaaGreat
open Go Go.Proofs.Tryz
variable{R:zv}{H:zV}{a k:zW}{b j r:Int}{d i o q:Nat}
/-! (*moraine/space.Space).none -/
namespace dE
def K0:=Func.code f31
end dE
def dE.pt(s:zW)(H:zV)(R:zv):Prop:=
 fE s (
 R VT H) (λsA=>
 ∃x,hat H sA=some (vp x)/\
 fE x (
 R VT H) (λxA=>
 R VF H))
namespace dE
theorem link(h:pt a H R):C a H R:=by
 refine T_en K0 12 func31 ?_
 intro w0 Q hQ
 unfold pt at h
 refine T_su [(0,vp a)]<|ar 0<|T_ed 1 [] []<|ar 1<|T_nd 1 [] [(3,vp a)] ?_
 rcases a with _ | sA
 ·rw[onPtr_none]at h
  exact T_nr 9 [2] [VT] hQ h
 rw[onPtr_some]at h
 refine T_n 5 [(5,VF),(8,Vq sA)] ?_
 obtain⟨x,q1,h⟩:=h
 refine T_l1 9 70 q1 [8] ?_
 rcases x with _ | xA
 ·rw[onPtr_none]at h
  exact T_nr 3 [2] [VT] hQ h
 rw[onPtr_some]at h
 exact T_nr 3 [2] [VF] hQ h
end dE
/-! (*moraine/space.Space).Alloc -/
namespace dJ
def K0:=Func.code f81
end dJ
def dJ.pt(s:zW)(d b nv:Int)(H:zV)(R:zv):Prop:=
 dE.C s H (λv H1=> ∃x,v=.bool x/\
 if x=true then(
 R (.tuple #[vi 0,vi 1]) H1)
 else
 j5.C d b nv H1 (λab H2=> ∃m,ab=.bool m/\
 if m=true then(
 cZ.C s d b H2 (λz H3=> ∃ra rb,z=.tuple #[vi ra,.bool rb]/\
 ∃J:zV->Prop,(
 if rb=true then(
 ∃g,s=some g/\
 ∃u,hat H3 g=some (vp u)/\
 hX.C u ra nv H3 (λac H8=> ∃j l,ac=.tuple #[vi j,vi l]/\
 if l=0 then(
 R (.tuple #[vi j,vi 0]) H8)
 else
 J H8))
 else
 J H3)/\ ∀H4,J H4->
 ∃sA,s=some sA/\
 ∃r,hat H4 sA=some (vp r)/\
 iO.C r d b H4 (λaa H5=> ∃e f,aa=.tuple #[vi e,vi f]/\
 if f=0 then(
 yZ d 5/\
 yZ b 4/\
 (aK H5 (((sA.add 1).add (Int.toNat d*4)).add (Int.toNat b*1)) 0 1)/\ ∀H6,H6=aR H5 (((sA.add 1).add (Int.toNat d*4)).add (Int.toNat b*1)) [vi (zY (e+1))] 0->
 ∃q,hat H6 sA=some (vp q)/\
 hX.C q e nv H6 (λy H7=> ∃o p,y=.tuple #[vi o,vi p]/\
 R (.tuple #[vi o,vi p]) H7))
 else
 R (.tuple #[vi 0,vi f]) H5)))
 else
 R (.tuple #[vi 0,vi 1]) H2))
namespace dJ
theorem link(h:pt a b j r H R):C a b j r H R:=by
 refine T_en K0 77 func81 ?_
 intro w0 Q hQ
 unfold pt zY at h
 refine T_su [(0,vp a),(1,vi b),(2,vi j),(3,vi r)]<|ar 0<|T_ed 2 [] []<|T_sz<|ar 1<|T_nd 1 [] [(16,vp a)]<|T_c (some 17) h ?_;clear h
 rintro v H1 ⟨x,rfl,h⟩
 refine T_pd [16] [(17,.bool x)]<|T_nd 1 [17] [(18,.bool x)] ?_
 by_cases c1:x=true
 ·rw[if_pos c1]at h
  exact N_bd 18 c1<|T_ed 6 [18] [(24,VT)]<|T_tz 24<|ar 2<|T_nr 2 [8,9] [vi 0,vi 1] hQ h
 rw[if_neg c1]at h
 refine N_bd 18 (zZ c1)<|T_nd 3 [] [(19,vi b),(20,vi j),(21,vi r)] ?_
 refine T_c (some 22) h ?_;clear h
 rintro ab H2 ⟨m,rfl,h⟩
 refine T_pd [19,20,21] [(22,.bool m)]<|T_ed 2 [18,22] [(24,.bool (!m))] ?_
 by_cases c3:m=true
 ·rw[if_pos c3]at h
  refine aJ 24 (congrArg Bool.not (c3))<|T_kt<|T_sz<|ar 3<|T_nd 3 [24] [(26,vp a),(27,vi b),(28,vi j)]<|T_c (some 29) h ?_;clear h
  rintro z H3 ⟨ra,rb,rfl,h⟩
  refine T_pd [26,27,28] [(29,.tuple #[vi ra,.bool rb])]<|T_ed 5 [29] [(10,vi ra),(11,.bool rb)]<|ar 4<|T_ne 1 [(0,vp a),(1,vi b),(2,vi j),(3,vi r),(10,vi ra),(32,.bool rb)] ?_
  obtain⟨J,h,j6⟩:=h
  refine pr (σ:=Unit) (λs_=> [(0,vp a),(1,vi b),(2,vi j),(3,vi r)]) (λs_ H=>J H) ?_ ?_
  ·rintro _ H4 j7
   replace h:=j6 H4 j7
   refine T_su [(0,vp a),(1,vi b),(2,vi j),(3,vi r)]<|aE<|ar 8<|T_nd 1 [] [(47,vp a)] ?_
   obtain⟨sA,rfl,h⟩:=h
   refine T_nd 2 [0,47] [(0,Vq sA),(49,Vq sA)] ?_
   obtain⟨s,q8,h⟩:=h
   refine T_l1 50 70 q8 [49]<|T_nd 2 [] [(51,vi b),(52,vi j)]<|T_c (some 53) h ?_;clear h
   rintro aa H5 ⟨e,f,rfl,h⟩
   refine T_pd [50,51,52] [(53,.tuple #[vi e,vi f])]<|T_ed 5 [53] [(14,vi e),(15,vi f)]<|T_sz<|ar 9<|T_ed 2 [] [(57,.bool (f !=0))] ?_
   by_cases c9:f=0
   ·rw[if_pos c9]at h
    refine aJ 57 (bne_eq_false_iff_eq.mpr c9)<|T_kt<|ar 11<|T_nd 7 [1,2,15,57] [(60,vi b),(61,vi j),(63,vi (zY (e+1))),(65,Vq (sA.add 1))] ?_
    obtain⟨q11,h⟩:=h
    refine T_v1 66 (bK 72 (Vq (sA.add 1)) (vi b)) (Vq ((sA.add 1).add (Int.toNat b*4))) (λw _=>bX (P:=prog) (t:=72) (elem:=71) (sz:=4) (n:=5) (a:=(sA.add 1)) (k:=.i64) (i:=b) underlying72 (λ_=>by kernel_rfl) q11.1 q11.2 w) [60,65] ?_
    obtain⟨q12,h⟩:=h
    refine T_v1 67 (bK 71 (Vq ((sA.add 1).add (Int.toNat b*4))) (vi j)) (Vq (((sA.add 1).add (Int.toNat b*4)).add (Int.toNat j*1))) (λw _=>bX (P:=prog) (t:=71) (elem:=3) (sz:=1) (n:=4) (a:=((sA.add 1).add (Int.toNat b*4))) (k:=.i64) (i:=j) underlying71 (λ_=>by kernel_rfl) q12.1 q12.2 w) [61,66] ?_
    obtain⟨q14,h⟩:=h
    refine fH 3 (vi (zY (e+1))) q14 ?_
    intro H6 e13
    replace h:=h H6 e13
    refine T_pd [63,67] []<|T_e<|ar 12<|T_nd 3 [0] [(70,Vq sA)] ?_
    obtain⟨q,q15,h⟩:=h
    refine T_l1 71 70 q15 [70]<|T_nd 2 [3,14] [(72,vi e),(73,vi r)]<|T_c (some 74) h ?_;clear h
    rintro y H7 ⟨o,p,rfl,h⟩
    refine⟨[(74,.tuple #[vi o,vi p])],pk,?_⟩
    exact T_nr 4 [8,9] [vi o,vi p] hQ h
   rw[if_neg c9]at h
   exact aI 57 (bne_iff_ne.mpr c9)<|ar 10<|T_nr 3 [8,9] [vi 0,vi f] hQ h
  by_cases c16:rb=true
  ·rw[if_pos c16]at h
   have b17:rb=true:=c16
   refine iU [(0,vp a),(1,vi b),(2,vi j),(3,vi r),(10,vi ra),(32,VT)] (by simp only[b17,Bool.not_true,Bool.not_false]) ?_
   clear b17
   refine T_tz 32<|ar 5<|T_nd 1 [32] [(34,vp a)] ?_
   obtain⟨g,rfl,h⟩:=h
   refine T_nd 2 [0,34] [(0,Vq g),(36,Vq g)] ?_
   obtain⟨u,q18,h⟩:=h
   refine T_l1 37 70 q18 [36]<|T_nd 2 [10] [(38,vi ra),(39,vi r)]<|T_c (some 40) h ?_;clear h
   rintro ac H8 ⟨d,l,rfl,h⟩
   refine T_pd [37,38,39] [(40,.tuple #[vi d,vi l])]<|T_ed 5 [40] [(12,vi d),(13,vi l)]<|ar 6<|T_ed 2 [13] [(44,.bool (l==0))] ?_
   by_cases c19:l=0
   ·rw[if_pos c19]at h
    exact aI 44 (zK c19)<|ar 7<|T_nr 3 [8,9] [vi d,vi 0] hQ h
   rw[if_neg c19]at h
   exact aJ 44 (zJ c19)<|T_kt<|k7 (():Unit) sk h
  rw[if_neg c16]at h
  have b17:rb=false:=zZ c16
  refine iU [(0,vp a),(1,vi b),(2,vi j),(3,vi r),(10,vi ra),(32,VF)] (by simp only[b17,Bool.not_true,Bool.not_false]) ?_
  clear b17
  exact T_fz 32<|T_kt<|k7 (():Unit) sk h
 rw[if_neg c3]at h
 exact aI 24 (congrArg Bool.not (zZ c3))<|ar 2<|T_nr 2 [8,9] [vi 0,vi 1] hQ h
end dJ
/-! moraine/space.New -/
namespace j4
def K0:=Func.code f99
end j4
def j4.pt(a:Int)(H:zV)(R:zv):Prop:=
 lq.C a H (λv H1=> ∃ra rb,v=.tuple #[vp ra,vi rb]/\
 if rb=0 then(
 ∀b H2,b=H1.size->H2=H1.push (.cells #[vp ra,vi 0,vi 0,vi 0,vi 0,vi 0,vi 0,vi 0,vi 0,vi 0,vi 0,vi 0,vi 0,vi 0,vi 0,vi 0,vi 0,vi 0,vi 0,vi 0,vi 0] 74)->
 R (.tuple #[Vq (ad b),vi 0]) H2)
 else
 R (.tuple #[vp none,vi rb]) H1)
namespace j4
theorem link(h:pt b H R):C b H R:=by
 refine T_en K0 17 func99 ?_
 intro w0 Q hQ
 unfold pt at h
 refine T_su [(0,vi b)]<|ar 0<|T_ed 2 [] []<|ar 1<|T_n 1 [(7,vi b)]<|T_c (some 8) h ?_;clear h
 rintro v H1 ⟨ra,rb,rfl,h⟩
 refine⟨[(8,.tuple #[vp ra,vi rb])],pk,?_⟩
 refine T_ne 5 [(4,vp ra),(5,vi rb)]<|T_sz<|ar 2<|T_ed 2 [] [(12,.bool (rb !=0))] ?_
 by_cases c1:rb=0
 ·rw[if_pos c1]at h
  refine aJ 12 (bne_eq_false_iff_eq.mpr c1)<|T_kt<|ar 4<|T_n 2 [(15,.agg #[vp ra,vi 0,vi 0,vi 0,vi 0,vi 0,vi 0,vi 0,vi 0,vi 0,vi 0,vi 0,vi 0,vi 0,vi 0,vi 0,vi 0,vi 0,vi 0,vi 0,vi 0])]<|T_nw (some 16) (λa=>vp (pa a)) (.cells #[vp ra,vi 0,vi 0,vi 0,vi 0,vi 0,vi 0,vi 0,vi 0,vi 0,vi 0,vi 0,vi 0,vi 0,vi 0,vi 0,vi 0,vi 0,vi 0,vi 0,vi 0] 74) ?_
  intro a H2 e3 e4
  replace h:=h a H2 e3 e4
  refine⟨[(16,vp (pa a))],pk,?_⟩
  exact T_nr 2 [2,3] [vp (pa a),vi 0] hQ h
 rw[if_neg c1]at h
 exact aI 12 (bne_iff_ne.mpr c1)<|ar 3<|T_nr 3 [2,3] [vp none,vi rb] hQ h
end j4
/-! moraine/space.may -/
namespace j5
def K0:=Func.code f120
end j5
def j5.pt(b a nv:Int)(H:zV)(R:zv):Prop:=
 if((decide (b<0)) || (decide (b>4)))=true then(
 R VF H)
 else
 if((a==0) || (a==1))=true then(
 R (.bool (nv==2)) H)
 else
 R (.bool ((((a==2) || (a==3)) && (decide (nv>=1))) && (decide (nv<=63)))) H
namespace j5
theorem link{b a nv:Int}(h:pt b a nv H R):C b a nv H R:=by
 refine T_en K0 37 func120 ?_
 intro w0 Q hQ
 unfold pt at h
 refine T_su [(0,vi b),(1,vi a),(2,vi nv)]<|ar 0<|T_ed 1 [] []<|T_sz<|T_bz 0<|ar 1 ?_
 refine iT [(1,vi a),(2,vi nv),(7,.bool ((decide (b<0)) || (decide (b>4))))] ?_ ?_
 ·refine aE ?_
  by_cases c3:((decide (b<0)) || (decide (b>4)))=true
  ·rw[if_pos c3]at h
   exact aI 7 c3<|ar 2<|T_nr 1 [6] [VF] hQ h
  rw[if_neg c3]at h
  refine aJ 7 (zZ c3)<|ar 3 ?_
  refine iT [(1,vi a),(2,vi nv),(14,.bool ((a==0) || (a==1)))] ?_ ?_
  ·refine aE ?_
   by_cases c7:((a==0) || (a==1))=true
   ·rw[if_pos c7]at h
    exact aI 14 c7<|ar 4<|T_nr 3 [6] [.bool (nv==2)] hQ h
   rw[if_neg c7]at h
   refine aJ 14 (zZ c7)<|T_k<|aA<|aE<|ar 5 ?_
   refine iT [(6,.bool ((((a==2) || (a==3)) && (decide (nv>=1))) && (decide (nv<=63))))] ?_ ?_
   ·exact aE<|jF [6] [.bool ((((a==2) || (a==3)) && (decide (nv>=1))) && (decide (nv<=63)))] hQ h
   intro hk
   refine T_n 3 [(1,vi a),(2,vi nv),(25,.bool (a==2))] ?_
   by_cases c9:a=2
   ·have b10:(a==2)=true:=zK c9
    refine bW [(1,vi a),(2,vi nv),(25,VT)] (by rw[b10]) ?_
    refine T_nd 8 [1,25] [(33,.bool (decide (nv>=1)))] ?_
    by_cases c11:nv>=1
    ·have b12:(decide (nv>=1))=true:=zX c11
     refine N_bd 33 b12<|T_n 4 [(6,.bool (decide (nv<=63)))] ?_
     refine zq<|iU [(6,.bool ((((a==2) || (a==3)) && (decide (nv>=1))) && (decide (nv<=63))))] (by simp only[b10,b12,BL]) ?_
     exact hk
    have b12:(decide (nv>=1))=false:=zQ c11
    refine N_bd 33 b12<|T_n 4 [(6,VF)] ?_
    refine zq<|iU [(6,.bool ((((a==2) || (a==3)) && (decide (nv>=1))) && (decide (nv<=63))))] (by simp only[b10,b12,BL]) ?_
    exact hk
   have b10:(a==2)=false:=zJ c9
   refine bW [(1,vi a),(2,vi nv),(25,VF)] (by rw[b10]) ?_
   refine T_nd 4 [1,25] [(29,.bool (a==3))] ?_
   by_cases c13:a=3
   ·have b14:(a==3)=true:=zK c13
    refine N_bd 29 b14<|T_nd 4 [29] [(33,.bool (decide (nv>=1)))] ?_
    by_cases c15:nv>=1
    ·have b16:(decide (nv>=1))=true:=zX c15
     refine N_bd 33 b16<|T_n 4 [(6,.bool (decide (nv<=63)))] ?_
     refine zq<|iU [(6,.bool ((((a==2) || (a==3)) && (decide (nv>=1))) && (decide (nv<=63))))] (by simp only[b10,b14,b16,BL]) ?_
     exact hk
    have b16:(decide (nv>=1))=false:=zQ c15
    refine N_bd 33 b16<|T_n 4 [(6,VF)] ?_
    refine zq<|iU [(6,.bool ((((a==2) || (a==3)) && (decide (nv>=1))) && (decide (nv<=63))))] (by simp only[b10,b14,b16,BL]) ?_
    exact hk
   have b14:(a==3)=false:=zJ c13
   refine N_bd 29 b14<|T_n 8 [(6,VF)] ?_
   refine zq<|iU [(6,.bool ((((a==2) || (a==3)) && (decide (nv>=1))) && (decide (nv<=63))))] (by simp only[b10,b14,BL]) ?_
   exact hk
  intro hk
  refine T_n 3 [(1,vi a),(2,vi nv),(17,.bool (a==0))] ?_
  by_cases c5:a=0
  ·have b6:(a==0)=true:=zK c5
   refine bW [(1,vi a),(2,vi nv),(17,VT)] (by rw[b6]) ?_
   refine T_nd 4 [17] [(14,VT)]<|zq<|S_bd 14 (b:=true) (v:=((a==0) || (a==1))) (by simp only[b6,BL]) ?_
   exact hk
  have b6:(a==0)=false:=zJ c5
  refine bW [(1,vi a),(2,vi nv),(17,VF)] (by rw[b6]) ?_
  refine T_nd 4 [17] [(14,.bool (a==1))]<|zq<|S_bd 14 (b:=(a==1)) (v:=((a==0) || (a==1))) (by simp only[b6,BL]) ?_
  exact hk
 intro hk
 refine T_n 3 [(0,vi b),(1,vi a),(2,vi nv),(10,.bool (decide (b<0)))] ?_
 by_cases c1:b<0
 ·have b2:(decide (b<0))=true:=zX c1
  refine bW [(0,vi b),(1,vi a),(2,vi nv),(10,VT)] (by rw[b2]) ?_
  refine T_nd 4 [0,10] [(7,VT)]<|zq<|S_bd 7 (b:=true) (v:=((decide (b<0)) || (decide (b>4)))) (by simp only[b2,BL]) ?_
  exact hk
 have b2:(decide (b<0))=false:=zQ c1
 refine bW [(0,vi b),(1,vi a),(2,vi nv),(10,VF)] (by rw[b2]) ?_
 refine T_nd 4 [0,10] [(7,.bool (decide (b>4)))]<|zq<|S_bd 7 (b:=(decide (b>4))) (v:=((decide (b<0)) || (decide (b>4)))) (by simp only[b2,BL]) ?_
 exact hk
end j5
/-! (*moraine/space.Space).Current -/
namespace cZ
def K0:=Func.code f121
end cZ
def cZ.pt(s:zW)(d b:Int)(H:zV)(R:zv):Prop:=
 fE s (
 R (.tuple #[vi 0,VF]) H) (λsA=>
 if d<0 then(
 R (.tuple #[vi 0,VF]) H)
 else
 if d>4 then(
 R (.tuple #[vi 0,VF]) H)
 else
 if b<0 then(
 R (.tuple #[vi 0,VF]) H)
 else
 if b>3 then(
 R (.tuple #[vi 0,VF]) H)
 else
 yZ d 5/\
 yZ b 4/\
 ∃x,hat H (((sA.add 1).add (Int.toNat d*4)).add (Int.toNat b*1))=some (vi x)/\
 if x=0 then(
 R (.tuple #[vi 0,VF]) H)
 else
 yZ d 5/\
 yZ b 4/\
 ∃e,hat H (((sA.add 1).add (Int.toNat d*4)).add (Int.toNat b*1))=some (vi e)/\
 R (.tuple #[vi (zY (e-1)),VT]) H)
namespace cZ
theorem link(h:pt a b j H R):C a b j H R:=by
 refine T_en K0 46 func121 ?_
 intro w0 Q hQ
 unfold pt zY at h
 refine T_su [(0,vp a),(1,vi b),(2,vi j)]<|ar 0<|T_ed 2 [] []<|T_sz<|ar 1<|T_nd 1 [] [(8,vp a)] ?_
 rcases a with _ | sA
 ·rw[onPtr_none]at h
  exact T_ed 28 [0,8] [(0,vp none),(36,VT)]<|T_tz 36<|ar 2<|T_nr 2 [6,7] [vi 0,VF] hQ h
 rw[onPtr_some]at h
 refine T_nd 6 [0,8] [(0,Vq sA),(14,.bool (decide (b<0)))] ?_
 by_cases c1:b<0
 ·rw[if_pos c1]at h
  exact N_bd 14 (zX c1)<|T_ed 22 [14] [(36,VT)]<|T_tz 36<|ar 2<|T_nr 2 [6,7] [vi 0,VF] hQ h
 rw[if_neg c1]at h
 refine N_bd 14 (zQ c1)<|T_nd 4 [14] [(18,.bool (decide (b>4)))] ?_
 by_cases c3:b>4
 ·rw[if_pos c3]at h
  exact N_bd 18 (zX c3)<|T_ed 18 [18] [(36,VT)]<|T_tz 36<|ar 2<|T_nr 2 [6,7] [vi 0,VF] hQ h
 rw[if_neg c3]at h
 refine N_bd 18 (zQ c3)<|T_nd 4 [18] [(22,.bool (decide (j<0)))] ?_
 by_cases c5:j<0
 ·rw[if_pos c5]at h
  exact N_bd 22 (zX c5)<|T_ed 14 [22] [(36,VT)]<|T_tz 36<|ar 2<|T_nr 2 [6,7] [vi 0,VF] hQ h
 rw[if_neg c5]at h
 refine N_bd 22 (zQ c5)<|T_nd 4 [22] [(26,.bool (decide (j>3)))] ?_
 by_cases c7:j>3
 ·rw[if_pos c7]at h
  exact N_bd 26 (zX c7)<|T_ed 10 [26] [(36,VT)]<|T_tz 36<|ar 2<|T_nr 2 [6,7] [vi 0,VF] hQ h
 rw[if_neg c7]at h
 refine N_bd 26 (zQ c7)<|T_nd 5 [] [(28,vi b),(29,vi j),(31,Vq (sA.add 1))] ?_
 obtain⟨q9,h⟩:=h
 refine T_v1 32 (bK 72 (Vq (sA.add 1)) (vi b)) (Vq ((sA.add 1).add (Int.toNat b*4))) (λw _=>bX (P:=prog) (t:=72) (elem:=71) (sz:=4) (n:=5) (a:=(sA.add 1)) (k:=.i64) (i:=b) underlying72 (λ_=>by kernel_rfl) q9.1 q9.2 w) [28,31] ?_
 obtain⟨q10,h⟩:=h
 refine T_v1 33 (bK 71 (Vq ((sA.add 1).add (Int.toNat b*4))) (vi j)) (Vq (((sA.add 1).add (Int.toNat b*4)).add (Int.toNat j*1))) (λw _=>bX (P:=prog) (t:=71) (elem:=3) (sz:=1) (n:=4) (a:=((sA.add 1).add (Int.toNat b*4))) (k:=.i64) (i:=j) underlying71 (λ_=>by kernel_rfl) q10.1 q10.2 w) [29,32] ?_
 obtain⟨x,q11,h⟩:=h
 refine T_l1 34 3 q11 [33]<|T_ed 2 [26,34] [(36,.bool (x==0))] ?_
 by_cases c12:x=0
 ·rw[if_pos c12]at h
  exact aI 36 (zK c12)<|ar 2<|T_nr 2 [6,7] [vi 0,VF] hQ h
 rw[if_neg c12]at h
 refine aJ 36 (zJ c12)<|T_kt<|ar 3<|T_n 5 [(38,vi b),(39,vi j),(41,Vq (sA.add 1))] ?_
 obtain⟨q14,h⟩:=h
 refine T_v1 42 (bK 72 (Vq (sA.add 1)) (vi b)) (Vq ((sA.add 1).add (Int.toNat b*4))) (λw _=>bX (P:=prog) (t:=72) (elem:=71) (sz:=4) (n:=5) (a:=(sA.add 1)) (k:=.i64) (i:=b) underlying72 (λ_=>by kernel_rfl) q14.1 q14.2 w) [38,41] ?_
 obtain⟨q15,h⟩:=h
 refine T_v1 43 (bK 71 (Vq ((sA.add 1).add (Int.toNat b*4))) (vi j)) (Vq (((sA.add 1).add (Int.toNat b*4)).add (Int.toNat j*1))) (λw _=>bX (P:=prog) (t:=71) (elem:=3) (sz:=1) (n:=4) (a:=((sA.add 1).add (Int.toNat b*4))) (k:=.i64) (i:=j) underlying71 (λ_=>by kernel_rfl) q15.1 q15.2 w) [39,42] ?_
 obtain⟨e,q16,h⟩:=h
 exact T_l1 44 3 q16 [43]<|T_nr 3 [6,7] [vi (zY (e-1)),VT] hQ h
end cZ
/-! (*moraine/card.Cards).Gen -/
namespace eP
def K0:=Func.code f29
end eP
def eP.pt(c:zW)(wv:Int)(H:zV)(R:zv):Prop:=
 gR.C wv H (λv H1=> ∃ra rb,v=.tuple #[vi ra,.bool rb]/\
 dA.C c H1 (λs H2=> ∃x,s=.bool x/\
 if x=true then(
 R (.tuple #[vi 0,VF]) H2)
 else
 if rb=true then(
 cS.C wv H2 (λq H3=> ∃l,q=vi l/\
 if l=6 then(
 R (.tuple #[vi 0,VF]) H3)
 else
 ∃cA,c=some cA/\
 ∃o,hat H3 cA=some (vp o)/\
 ∃p,o=some p/\
 ∃m,hat H3 p=some (vp m)/\
 bH.C m (zY (Int.tdiv ra 64)) H3 (λr H4=> ∃j g k a f d e i,r=.tuple #[.agg #[vi j,vi g,vi k,vi a,vi f,vi d,vi e],.bool i]/\
 ∀b H5,b=H4.size->H5=H4.push (.cells #[vi 0,vi 0,vi 0,vi 0,vi 0,vi 0,vi 0] 89)->
 (aK H5 (ad b) 0 7)/\ ∀H6,H6=aR H5 (ad b) [vi j,vi g,vi k,vi a,vi f,vi d,vi e] 0->
 ∃n,hat H6 (ad b)=some (vi n)/\
 R (.tuple #[vi n,.bool i]) H6)))
 else
 R (.tuple #[vi 0,VF]) H2))
namespace eP
theorem link(h:pt a b H R):C a b H R:=by
 refine T_en K0 41 func29 ?_
 intro w0 Q hQ
 unfold pt zY at h
 refine T_su [(0,vp a),(1,vu b)]<|ar 0<|T_ed 2 [] []<|ar 1<|T_nd 1 [] [(10,vu b)]<|T_c (some 11) h ?_;clear h
 rintro v H1 ⟨ra,rb,rfl,h⟩
 refine T_pd [10] [(11,.tuple #[vi ra,.bool rb])]<|T_ed 5 [11] [(6,vi ra),(7,.bool rb)]<|T_sz<|ar 2<|T_nd 1 [] [(14,vp a)]<|T_c (some 15) h ?_;clear h
 rintro s H2 ⟨x,rfl,h⟩
 refine T_pd [14] [(15,.bool x)]<|T_nd 1 [15] [(16,.bool x)] ?_
 by_cases c1:x=true
 ·rw[if_pos c1]at h
  exact N_bd 16 c1<|T_ed 8 [1,7,16] [(24,VT)]<|T_tz 24<|ar 3<|T_nr 2 [4,5] [vi 0,VF] hQ h
 rw[if_neg c1]at h
 refine N_bd 16 (zZ c1)<|T_nd 4 [7,16] [(20,.bool (!rb))] ?_
 by_cases c3:rb=true
 ·rw[if_pos c3]at h
  have b4:(!rb)=false:=congrArg Bool.not (c3)
  have b42:rb=true:=c3
  refine N_bd 20 (b:=(!rb)) (v:=false) (by simp only[b4,b42,Bool.not_true,Bool.not_false]) ?_
  clear b4 b42
  refine T_nd 1 [1] [(21,vu b)]<|T_c (some 22) h ?_;clear h
  rintro q H3 ⟨l,rfl,h⟩
  refine T_pd [21] [(22,vi l)]<|T_ed 2 [20,22] [(24,.bool (l==6))] ?_
  by_cases c5:l=6
  ·rw[if_pos c5]at h
   exact aI 24 (zK c5)<|ar 3<|T_nr 2 [4,5] [vi 0,VF] hQ h
  rw[if_neg c5]at h
  refine aJ 24 (zJ c5)<|T_kt<|ar 4<|T_nd 1 [0,24] [(26,vp a)] ?_
  obtain⟨cA,rfl,h⟩:=h
  refine T_nd 2 [26] [(28,Vq cA)] ?_
  obtain⟨o,q7,h⟩:=h
  refine T_l1 29 42 q7 [28] ?_
  obtain⟨p,rfl,h⟩:=h
  refine T_nd 2 [29] [(31,Vq p)] ?_
  obtain⟨m,q8,h⟩:=h
  refine T_l1 32 70 q8 [31]<|T_nd 2 [6] [(34,vi (zY (Int.tdiv ra 64)))]<|T_c (some 35) h ?_;clear h
  rintro r H4 ⟨j,g,k,wv,f,d,e,i,rfl,h⟩
  refine⟨[(35,.tuple #[.agg #[vi j,vi g,vi k,vi wv,vi f,vi d,vi e],.bool i])],pk,?_⟩
  refine T_n 3 [(36,.agg #[vi j,vi g,vi k,vi wv,vi f,vi d,vi e]),(37,.bool i)]<|T_nw (some 8) (λc=>vp (pa c)) (.cells #[vi 0,vi 0,vi 0,vi 0,vi 0,vi 0,vi 0] 89) ?_
  intro c H5 e9 e10
  replace h:=h c H5 e9 e10
  refine T_pd [] [(8,vp (pa c))] ?_
  obtain⟨q12,h⟩:=h
  refine fG 89 [vi j,vi g,vi k,vi wv,vi f,vi d,vi e] q12 ?_
  intro H6 e11
  replace h:=h H6 e11
  refine T_pd [36] []<|T_ed 1 [37] [(7,.bool i)]<|ar 5<|T_nd 1 [8] [(38,vp (pa c))] ?_
  obtain⟨n,q13,h⟩:=h
  exact T_l1 39 3 q13 [38]<|T_nr 3 [4,5] [vi n,.bool i] hQ h
 rw[if_neg c3]at h
 have b4:(!rb)=true:=congrArg Bool.not (zZ c3)
 have b42:rb=false:=zZ c3
 refine N_bd 20 (b:=(!rb)) (v:=true) (by simp only[b4,b42,Bool.not_true,Bool.not_false]) ?_
 clear b4 b42
 exact T_ed 4 [1,20] [(24,VT)]<|T_tz 24<|ar 3<|T_nr 2 [4,5] [vi 0,VF] hQ h
end eP
/-! moraine/card.New -/
namespace kF
def K0:=Func.code f53
end kF
def kF.pt(a:Int)(H:zV)(R:zv):Prop:=
 j4.C a H (λv H1=> ∃ra rb,v=.tuple #[vp ra,vi rb]/\
 if rb=0 then(
 ∀b H2,b=H1.size->H2=H1.push (.cells #[vp ra] 44)->
 R (.tuple #[Vq (ad b),vi 0]) H2)
 else
 R (.tuple #[vp none,vi rb]) H1)
namespace kF
theorem link(h:pt b H R):C b H R:=by
 refine T_en K0 17 func53 ?_
 intro w0 Q hQ
 unfold pt at h
 refine T_su [(0,vi b)]<|ar 0<|T_ed 2 [] []<|ar 1<|T_n 1 [(7,vi b)]<|T_c (some 8) h ?_;clear h
 rintro v H1 ⟨ra,rb,rfl,h⟩
 refine⟨[(8,.tuple #[vp ra,vi rb])],pk,?_⟩
 refine T_ne 5 [(4,vp ra),(5,vi rb)]<|T_sz<|ar 2<|T_ed 2 [] [(12,.bool (rb !=0))] ?_
 by_cases c1:rb=0
 ·rw[if_pos c1]at h
  refine aJ 12 (bne_eq_false_iff_eq.mpr c1)<|T_kt<|ar 4<|T_n 2 [(15,.agg #[vp ra])]<|T_nw (some 16) (λa=>vp (pa a)) (.cells #[vp ra] 44) ?_
  intro a H2 e3 e4
  replace h:=h a H2 e3 e4
  refine⟨[(16,vp (pa a))],pk,?_⟩
  exact T_nr 2 [2,3] [vp (pa a),vi 0] hQ h
 rw[if_neg c1]at h
 exact aI 12 (bne_iff_ne.mpr c1)<|ar 3<|T_nr 3 [2,3] [vp none,vi rb] hQ h
end kF
/-! (*moraine/card.Cards).none -/
namespace dA
def K0:=Func.code f66
end dA
def dA.pt(c:zW)(H:zV)(R:zv):Prop:=
 fE c (
 R VT H) (λcA=>
 ∃x,hat H cA=some (vp x)/\
 fE x (
 R VT H) (λxA=>
 ∃b,hat H cA=some (vp b)/\
 ∃d,b=some d/\
 ∃a,hat H d=some (vp a)/\
 fE a (
 R VT H) (λe=>
 R VF H)))
namespace dA
theorem link(h:pt a H R):C a H R:=by
 refine T_en K0 22 func66 ?_
 intro w0 Q hQ
 unfold pt at h
 refine T_su [(0,vp a)]<|ar 0<|T_ed 1 [] []<|ar 1<|T_nd 1 [] [(3,vp a)] ?_
 rcases a with _ | cA
 ·rw[onPtr_none]at h
  exact T_nr 19 [2] [VT] hQ h
 rw[onPtr_some]at h
 refine T_n 5 [(0,Vq cA),(5,VF),(8,Vq cA)] ?_
 obtain⟨x,q1,h⟩:=h
 refine T_l1 9 42 q1 [8] ?_
 rcases x with _ | xA
 ·rw[onPtr_none]at h
  exact T_nr 13 [2] [VT] hQ h
 rw[onPtr_some]at h
 refine T_n 6 [(12,VF),(15,Vq cA)] ?_
 obtain⟨b,q2,h⟩:=h
 refine T_l1 16 42 q2 [15] ?_
 obtain⟨d,rfl,h⟩:=h
 refine T_nd 2 [16] [(18,Vq d)] ?_
 obtain⟨c,q3,h⟩:=h
 refine T_l1 19 70 q3 [18] ?_
 rcases c with _ | e
 ·rw[onPtr_none]at h
  exact T_nr 3 [2] [VT] hQ h
 rw[onPtr_some]at h
 exact T_nr 3 [2] [VF] hQ h
end dA
/-! (*moraine/card.Cards).younger -/
namespace cU
def K0:=Func.code f118
end cU
def cU.pt(c:zW)(k i sN g e d f wv a:Int)(H:zV)(R:zv):Prop:=
 ∀b H1,b=H.size->H1=H.push (.cells #[vi k,vi i,vi sN,vi g,vi e,vi d,vi f] 89)->
 eP.C c wv H1 (λv H2=> ∃ra rb,v=.tuple #[vi ra,.bool rb]/\
 if rb=true then(
 ∃x,hat H2 ((ad b).add 1)=some (vi x)/\
 if x=3 then(
 R (vi a) H2)
 else
 ∃j,hat H2 (ad b)=some (vi j)/\
 if ra<j then(
 R (vi (if ra<a then ra else a)) H2)
 else
 R (vi a) H2)
 else
 R (vi a) H2)
namespace cU
theorem link{g e d f wv sN:Int}(h:pt a b j r g e d f wv sN H R):C a b j r g e d f wv sN H R:=by
 refine T_en K0 33 func118 ?_
 intro w0 Q hQ
 unfold pt at h
 refine T_su [(0,vp a),(1,.agg #[vi b,vi j,vi r,vi g,vi e,vi d,vi f]),(2,vu wv),(3,vi sN)]<|ar 0<|T_nw (some 5) (λi=>vp (pa i)) (.cells #[vi b,vi j,vi r,vi g,vi e,vi d,vi f] 89) ?_
 intro i H1 e1 e2
 replace h:=h i H1 e1 e2
 refine T_pd [1] [(5,vp (pa i))]<|T_ed 1 [] []<|T_sz<|ar 1<|T_nd 2 [0,2] [(12,vp a),(13,vu wv)]<|T_c (some 14) h ?_;clear h
 rintro v H2 ⟨ra,rb,rfl,h⟩
 refine T_pd [12,13] [(14,.tuple #[vi ra,.bool rb])]<|T_ed 5 [14] [(9,vi ra),(10,.bool rb)]<|ar 2<|T_nd 2 [10] [(18,.bool rb)] ?_
 by_cases c3:rb=true
 ·rw[if_pos c3]at h
  refine N_bd 18 c3<|T_nd 1 [] [(19,Vq ((ad i).add 1))] ?_
  obtain⟨x,q5,h⟩:=h
  refine T_l1 20 3 q5 [19]<|T_nd 3 [18,20] [(23,.bool (x !=3))] ?_
  by_cases c6:x=3
  ·rw[if_pos c6]at h
   exact N_bd 23 (bne_eq_false_iff_eq.mpr c6)<|T_ed 5 [5,23] [(28,VF)]<|T_fz 28<|T_kt<|ar 4<|T_nr 2 [8] [vi sN] hQ h
  rw[if_neg c6]at h
  refine N_bd 23 (bne_iff_ne.mpr c6)<|T_nd 2 [5] [(24,vi ra),(25,vp (pa i))] ?_
  obtain⟨k,q8,h⟩:=h
  refine T_l1 26 3 q8 [25]<|T_ed 2 [23,24,26] [(28,.bool (decide (ra<k)))] ?_
  by_cases c9:ra<k
  ·rw[if_pos c9]at h
   exact aI 28 (zX c9)<|ar 3<|T_nr 4 [8] [vi (if ra<sN then ra else sN)] hQ h
  rw[if_neg c9]at h
  exact aJ 28 (zQ c9)<|T_kt<|ar 4<|T_nr 2 [8] [vi sN] hQ h
 rw[if_neg c3]at h
 exact N_bd 18 (zZ c3)<|T_ed 10 [5,18] [(28,VF)]<|T_fz 28<|T_kt<|ar 4<|T_nr 2 [8] [vi sN] hQ h
end cU
/-! (*moraine/card.Cards).Store -/
namespace dX
def K0:=Func.code f136
def K2:=cb K0
def K4:=cb K2
def K12:=cb K4
def K20:=cb K12
def K22:=cb K20
def K23:=ca K22
end dX
def dX.pt(c:zW)(d wv:Int)(H:zV)(R:zv):Prop:=
 dA.C c H (λv H1=> ∃x,v=.bool x/\
 if x=true then(
 R (vi 18) H1)
 else
 ∃cA,c=some cA/\
 ∃aj,hat H1 cA=some (vp aj)/\
 ∃al,aj=some al/\
 ∃ae,hat H1 al=some (vp ae)/\
 cM.C ae d wv H1 (λaq H2=> ∃aa,aq=vi aa/\
 if aa=0 then(
 ∃ak,hat H2 cA=some (vp ak)/\
 ∃ai,ak=some ai/\
 ∃ag,hat H2 ai=some (vp ag)/\
 bH.C ag (zY (Int.tdiv d 64)) H2 (λao H3=> ∃z r ac l p m o rb,ao=.tuple #[.agg #[vi z,vi r,vi ac,vi l,vi p,vi m,vi o],.bool rb]/\
 ∀b H4,b=H3.size->H4=H3.push (.cells #[vi 0,vi 0,vi 0,vi 0,vi 0,vi 0,vi 0] 89)->
 (aK H4 (ad b) 0 7)/\ ∀H5,H5=aR H4 (ad b) [vi z,vi r,vi ac,vi l,vi p,vi m,vi o] 0->
 ∃am,hat H5 cA=some (vp am)/\
 ∃y,am=some y/\
 ∃s,hat H5 y=some (vp s)/\
 ∃u q xN f g j e,aQ H5 (ad b) 0 [vi u,vi q,vi xN,vi f,vi g,vi j,vi e]/\
 ((0:Int)<=(zY (Int.tdiv (Int.tmod d 64) 16))/\(zY (Int.tdiv (Int.tmod d 64) 16))< (4:Int))/\
 ∃af,hat H5 (((ad b).add 3).add (Int.toNat (zY (Int.tdiv (Int.tmod d 64) 16))*1))=some (vi af)/\
 cU.C (some cA) u q xN f g j e wv af H5 (λap H6=> ∃ah,ap=vi ah/\aQ H6 cA 0 [Vq y]/\aQ H6 y 0 [vp s]/\
 hC.C s (zY (Int.tdiv d 64)) (zY (Int.tdiv (Int.tmod d 64) 16)) ah H6 (λan H7=> ∃ab,an=vi ab/\
 R (vi ab) H7))))
 else
 R (vi aa) H2))
namespace dX
theorem link(h:pt a b j H R):C a b j H R:=by
 refine T_en K0 62 func136 ?_
 intro w0 Q hQ
 unfold pt zY at h
 refine T_su [(0,vp a),(1,vi b),(2,vu j)]<|ar 0<|T_ed 1 [] []<|T_sz<|ar 1<|T_nd 1 [] [(12,vp a)]<|T_c (some 13) h ?_;clear h
 rintro v H1 ⟨x,rfl,h⟩
 refine T_pd [12] [(13,.bool x)]<|T_e ?_
 by_cases c1:x=true
 ·rw[if_pos c1]at h
  exact aI 13 c1<|ar 2<|T_nr 1 [6] [vi 18] hQ h
 rw[if_neg c1]at h
 refine aJ 13 (zZ c1)<|T_kt<|T_sz<|ar 3<|T_nd 1 [13] [(14,vp a)] ?_
 obtain⟨cA,rfl,h⟩:=h
 refine T_nd 2 [0,14] [(0,Vq cA),(16,Vq cA)] ?_
 obtain⟨aj,q3,h⟩:=h
 refine T_l1 17 42 q3 [16] ?_
 obtain⟨al,rfl,h⟩:=h
 refine T_nd 2 [17] [(19,Vq al)] ?_
 obtain⟨ae,q4,h⟩:=h
 refine T_l1 20 70 q4 [19]<|T_nd 2 [] [(21,vi b),(22,vu j)]<|T_c (some 23) h ?_;clear h
 rintro aq H2 ⟨aa,rfl,h⟩
 refine T_pd [20,21,22] [(23,vi aa)]<|T_ed 1 [23] [(7,vi aa)]<|ar 4<|T_ed 2 [] [(25,.bool (aa !=0))] ?_
 by_cases c5:aa=0
 ·rw[if_pos c5]at h
  refine aJ 25 (bne_eq_false_iff_eq.mpr c5)<|T_kt<|ar 6<|T_ed 7 [1,7,25] [(8,vi (zY (Int.tdiv b 64))),(9,vi (zY (Int.tdiv (Int.tmod b 64) 16)))]<|ar 7<|T_nd 3 [] [(35,Vq cA)] ?_
  obtain⟨ak,q7,h⟩:=h
  refine T_l1 36 42 q7 [35] ?_
  obtain⟨ai,rfl,h⟩:=h
  refine T_nd 2 [36] [(38,Vq ai)] ?_
  obtain⟨ag,q8,h⟩:=h
  refine T_l1 39 70 q8 [38]<|T_nd 1 [] [(40,vi (zY (Int.tdiv b 64)))]<|T_c (some 41) h ?_;clear h
  rintro ao H3 ⟨z,r,ac,l,p,m,o,rb,rfl,h⟩
  refine T_pd [39,40] [(41,.tuple #[.agg #[vi z,vi r,vi ac,vi l,vi p,vi m,vi o],.bool rb])]<|T_nd 3 [41] [(42,.agg #[vi z,vi r,vi ac,vi l,vi p,vi m,vi o]),(43,.bool rb)]<|T_nw (some 10) (λd=>vp (pa d)) (.cells #[vi 0,vi 0,vi 0,vi 0,vi 0,vi 0,vi 0] 89) ?_
  intro d H4 e9 e10
  replace h:=h d H4 e9 e10
  refine T_pd [] [(10,vp (pa d))] ?_
  obtain⟨q12,h⟩:=h
  refine fG 89 [vi z,vi r,vi ac,vi l,vi p,vi m,vi o] q12 ?_
  intro H5 e11
  replace h:=h H5 e11
  refine T_pd [42] []<|T_ed 1 [43] []<|T_sz ?_
  obtain⟨am,q13,y,rfl,s,q14,u,q,xN,f,g,c,e,q15,q16,af,q17,h⟩:=h
  refine yq 8 (Code.ops K23) [(17,cA,[vp (some y)]),(17,y,[vp s]),(16,(ad d),[vi u,vi q,vi xN,vi f,vi g,vi c,vi e]),(16,(((ad d).add 3).add (Int.toNat (zY (Int.tdiv (Int.tmod b 64) 16))*1)),[vi af])] 19 (bv 19 0) (show aF _ _ _ from⟨⟨q13,trivial⟩,⟨q14,trivial⟩,q15,⟨q17,trivial⟩,trivial⟩)<|T_gp 0 (some 44) (vp (some cA)) (bv 19 1) [(0,vp (some cA)),(2,vu j),(8,vi (zY (Int.tdiv b 64))),(9,vi (zY (Int.tdiv (Int.tmod b 64) 16))),(10,vp (pa d)),(44,vp (some cA))]<|aL 1 45 (vp (some cA)) (bv 19 3) [44]<|aL 2 46 (vp (some cA)) (bv 19 7) [45]<|T_g1 3 47 (vp (some y)) (bv 19 15) [46] (aU 42 (vp (some cA))) (yY 17 yX)<|aL 4 48 (vp (some y)) (bv 19 31) [47]<|aL 5 49 (vp (some y)) (bv 19 63) [48]<|T_g1 6 50 (vp s) (bv 19 127) [49] (aU 70 (vp (some y))) (yY 17 yQ)<|aL 7 51 (vi (zY (Int.tdiv b 64))) (bv 19 255) [8]<|aL 8 52 (vi (zY (Int.tdiv (Int.tmod b 64) 16))) (bv 19 511) []<|aL 9 53 (vp (some cA)) (bv 19 1023) [0]<|T_g1 10 54 (.agg #[vi u,vi q,vi xN,vi f,vi g,vi c,vi e]) (bv 19 2047) [] (aU 89 (vp (pa d))) (lz 16 (λ_=>by kernel_rfl) (λ_=>by kernel_rfl) yJ (.inl (by kernel_rfl)))<|aL 11 55 (vu j) (bv 19 4095) [2]<|aL 12 56 (vi (zY (Int.tdiv (Int.tmod b 64) 16))) (bv 19 8191) [9]<|aL 13 57 (vp (some ((ad d).add 3))) (bv 19 16383) [10]<|T_g1 14 58 (vp (some (((ad d).add 3).add (Int.toNat (zY (Int.tdiv (Int.tmod b 64) 16))*1)))) (bv 19 32767) [56,57] (bK 71 (vp (some ((ad d).add 3))) (vi (zY (Int.tdiv (Int.tmod b 64) 16)))) (λ_ w _ _ _=>bX (P:=prog) (t:=71) (elem:=3) (sz:=1) (n:=4) (a:=((ad d).add 3)) (k:=.i64) (i:=(zY (Int.tdiv (Int.tmod b 64) 16))) underlying71 (λ_=>by kernel_rfl) q16.1 q16.2 w)<|T_g1 15 59 (vi af) (bv 19 65535) [58] (aU 3 (vp (some (((ad d).add 3).add (Int.toNat (zY (Int.tdiv (Int.tmod b 64) 16))*1))))) (yY 16 yK)<|yx 16 (some 60) (bv 19 131071) 118 #[vp (some cA),.agg #[vi u,vi q,vi xN,vi f,vi g,vi c,vi e],vu j,vi af] h ?_;clear h
  rintro ap H6 ⟨ah,rfl,f18,f19,h⟩
  refine⟨[(50,vp s),(51,vi (zY (Int.tdiv b 64))),(52,vi (zY (Int.tdiv (Int.tmod b 64) 16))),(60,vi ah)],pk,(show aF _ _ _ from⟨f18,f19,trivial,trivial,trivial⟩),?_⟩
  refine yx 17 (some 61) (bv 19 262143) 119 #[vp s,vi (zY (Int.tdiv b 64)),vi (zY (Int.tdiv (Int.tmod b 64) 16)),vi ah] h ?_;clear h
  rintro an H7 ⟨ab,rfl,h⟩
  refine⟨[(61,vi ab)],pk,(show aF _ _ _ from⟨trivial,trivial,trivial,trivial,trivial⟩),?_⟩
  exact T_g 18 (some 6) (vi ab) (bv 19 524287) [(6,vi ab)] (pure (.value (vi ab)):Sem Next) (λ_ _ _ _ _=>rfl)<|fU [(6,vi ab)] sk<|yz<|aE<|jF [6] [vi ab] hQ h
 rw[if_neg c5]at h
 exact aI 25 (bne_iff_ne.mpr c5)<|ar 5<|T_nr 2 [6] [vi aa] hQ h
end dX
/-! (*moraine/obj.Heap).Cons -/
namespace fY
def K0:=Func.code Tryz.f18
end fY
def fY.pt(hv:zW)(d a:Int)(H:zV)(R:zv):Prop:=
 ∀b H1,b=H.size->H1=H.push (.cells #[vu d,vu a] 40)->
 gH.C hv 0 1 (some (ad b)) 2 2 H1 (λv H2=> ∃ra rb,v=.tuple #[vu ra,vi rb]/\
 R (.tuple #[vu ra,vi rb]) H2)
namespace fY
theorem link(h:pt a b j H R):C a b j H R:=by
 refine T_en K0 15 func18 ?_
 intro w0 Q hQ
 unfold pt at h
 refine T_su [(0,vp a),(1,vu b),(2,vu j)]<|ar 0<|T_ed 2 [] []<|ar 1<|T_n 3 [(8,vp a),(9,vu b),(10,vu j)]<|T_nw (some 11) (λd=>vs (pa d) 2 2) (.cells #[vu b,vu j] 40) ?_
 intro d H1 e1 e2
 replace h:=h d H1 e1 e2
 refine T_pd [9,10] [(11,vs (pa d) 2 2)]<|T_c (some 12) h ?_;clear h
 rintro v H2 ⟨ra,rb,rfl,h⟩
 refine⟨[(12,.tuple #[vu ra,vi rb])],pk,?_⟩
 exact T_nr 4 [6,7] [vu ra,vi rb] hQ h
end fY
/-! (*moraine/obj.Heap).Weak -/
namespace fZ
def K0:=Func.code Tryz.f19
end fZ
def fZ.pt(hv:zW)(d a:Int)(H:zV)(R:zv):Prop:=
 ∀b H1,b=H.size->H1=H.push (.cells #[vu d,vu a] 40)->
 gH.C hv 1 2 (some (ad b)) 2 2 H1 (λv H2=> ∃ra rb,v=.tuple #[vu ra,vi rb]/\
 R (.tuple #[vu ra,vi rb]) H2)
namespace fZ
theorem link(h:pt a b j H R):C a b j H R:=by
 refine T_en K0 15 func19 ?_
 intro w0 Q hQ
 unfold pt at h
 refine T_su [(0,vp a),(1,vu b),(2,vu j)]<|ar 0<|T_ed 2 [] []<|ar 1<|T_n 3 [(8,vp a),(9,vu b),(10,vu j)]<|T_nw (some 11) (λd=>vs (pa d) 2 2) (.cells #[vu b,vu j] 40) ?_
 intro d H1 e1 e2
 replace h:=h d H1 e1 e2
 refine T_pd [9,10] [(11,vs (pa d) 2 2)]<|T_c (some 12) h ?_;clear h
 rintro v H2 ⟨ra,rb,rfl,h⟩
 refine⟨[(12,.tuple #[vu ra,vi rb])],pk,?_⟩
 exact T_nr 4 [6,7] [vu ra,vi rb] hQ h
end fZ
/-! (*moraine/obj.Heap).Size -/
namespace bV
def K0:=Func.code f44
end bV
def bV.pt(hv:zW)(wv:Int)(H:zV)(R:zv):Prop:=
 fJ.C hv wv H (λv H1=> ∃x,v=.bool x/\
 if x=true then(
 R (vi 2) H1)
 else
 cI.C hv wv H1 (λa H2=> ∃ra rb rc rd re,a=.tuple #[vi ra,vi rb,vi rc,vu rd,.bool re]/\
 if re=true then(
 R (vi (zY (rc+1))) H2)
 else
 R (vi 0) H2))
namespace bV
theorem link(h:pt a b H R):C a b H R:=by
 refine T_en K0 25 func44 ?_
 intro w0 Q hQ
 unfold pt zY at h
 refine T_su [(0,vp a),(1,vu b)]<|ar 0<|T_ed 1 [] []<|T_sz<|ar 1<|T_nd 2 [] [(10,vp a),(11,vu b)]<|T_c (some 12) h ?_;clear h
 rintro v H1 ⟨x,rfl,h⟩
 refine T_pd [10,11] [(12,.bool x)]<|T_e ?_
 by_cases c1:x=true
 ·rw[if_pos c1]at h
  exact aI 12 c1<|ar 2<|T_nr 1 [4] [vi 2] hQ h
 rw[if_neg c1]at h
 refine aJ 12 (zZ c1)<|T_kt<|T_sz<|ar 3<|T_n 2 [(14,vp a),(15,vu b)]<|T_c (some 16) h ?_;clear h
 rintro wv H2 ⟨ra,rb,rc,rd,re,rfl,h⟩
 refine⟨[(16,.tuple #[vi ra,vi rb,vi rc,vu rd,.bool re])],pk,?_⟩
 refine T_ne 11 [(7,vi rc),(9,.bool re)]<|ar 4<|T_ed 1 [9] [(22,.bool re)] ?_
 by_cases c3:re=true
 ·rw[if_pos c3]at h
  exact aI 22 c3<|ar 5<|T_nr 3 [4] [vi (zY (rc+1))] hQ h
 rw[if_neg c3]at h
 exact aJ 22 (zZ c3)<|T_kt<|ar 6<|T_nr 1 [4] [vi 0] hQ h
end bV
/-! (*moraine/obj.Heap).Pair -/
namespace fJ
def K0:=Func.code f95
end fJ
def fJ.pt(hv:zW)(wv:Int)(H:zV)(R:zv):Prop:=
 gE.C hv wv H (λv H1=> ∃ra rb,v=.tuple #[vi ra,.bool rb]/\
 R (.bool rb) H1)
namespace fJ
theorem link(h:pt a b H R):C a b H R:=by
 refine T_en K0 14 func95 ?_
 intro w0 Q hQ
 unfold pt at h
 refine T_su [(0,vp a),(1,vu b)]<|ar 0<|T_ed 1 [] []<|ar 1<|T_n 2 [(8,vp a),(9,vu b)]<|T_c (some 10) h ?_;clear h
 rintro v H1 ⟨ra,rb,rfl,h⟩
 refine⟨[(10,.tuple #[vi ra,.bool rb])],pk,?_⟩
 exact T_ne 5 [(6,.bool rb)]<|ar 2<|T_nr 2 [4] [.bool rb] hQ h
end fJ
/-! (*moraine/obj.Heap).SetCar -/
namespace fR
def K0:=Func.code Tryz.f107
end fR
def fR.pt(hv:zW)(wv v:Int)(H:zV)(R:zv):Prop:=
 hZ.C hv wv 0 v H (λa H1=> ∃x,a=vi x/\
 R (vi x) H1)
namespace fR
theorem link(h:pt a b j H R):C a b j H R:=by
 refine T_en K0 11 func107 ?_
 intro w0 Q hQ
 unfold pt at h
 refine T_su [(0,vp a),(1,vu b),(2,vu j)]<|ar 0<|T_ed 1 [] []<|ar 1<|T_n 3 [(7,vp a),(8,vu b),(9,vu j)]<|T_c (some 10) h ?_;clear h
 rintro v H1 ⟨x,rfl,h⟩
 refine⟨[(10,vi x)],pk,?_⟩
 exact T_nr 1 [6] [vi x] hQ h
end fR
/-! (*moraine/obj.Heap).SetCdr -/
namespace fS
def K0:=Func.code f108
end fS
def fS.pt(hv:zW)(wv v:Int)(H:zV)(R:zv):Prop:=
 hZ.C hv wv 1 v H (λa H1=> ∃x,a=vi x/\
 R (vi x) H1)
namespace fS
theorem link(h:pt a b j H R):C a b j H R:=by
 refine T_en K0 11 func108 ?_
 intro w0 Q hQ
 unfold pt at h
 refine T_su [(0,vp a),(1,vu b),(2,vu j)]<|ar 0<|T_ed 1 [] []<|ar 1<|T_n 3 [(7,vp a),(8,vu b),(9,vu j)]<|T_c (some 10) h ?_;clear h
 rintro v H1 ⟨x,rfl,h⟩
 refine⟨[(10,vi x)],pk,?_⟩
 exact T_nr 1 [6] [vi x] hQ h
end fS
/-! (*moraine/obj.Heap).pair -/
namespace gE
def K0:=Func.code f128
end gE
def gE.pt(hv:zW)(wv:Int)(H:zV)(R:zv):Prop:=
 iE.C hv wv 1 0 H (λv H1=> ∃ra rb,v=.tuple #[vi ra,.bool rb]/\
 if rb=true then(
 R (.tuple #[vi ra,.bool ((Int.tmod ra 2)==0)]) H1)
 else
 iE.C hv wv 2 1 H1 (λd H2=> ∃a b,d=.tuple #[vi a,.bool b]/\
 R (.tuple #[vi a,.bool (b && ((Int.tmod a 2)==0))]) H2))
namespace gE
theorem link(h:pt a b H R):C a b H R:=by
 refine T_en K0 29 func128 ?_
 intro w0 Q hQ
 unfold pt at h
 refine T_su [(0,vp a),(1,vu b)]<|ar 0<|T_ed 2 [] []<|ar 1<|T_nd 2 [] [(9,vp a),(10,vu b)]<|T_c (some 11) h ?_;clear h
 rintro v H1 ⟨ra,rb,rfl,h⟩
 refine T_pd [9,10] [(11,.tuple #[vi ra,.bool rb])]<|T_ed 5 [11] [(6,vi ra),(7,.bool rb)]<|T_sz<|ar 2<|T_ed 2 [] [(15,.bool (!rb))] ?_
 by_cases c1:rb=true
 ·rw[if_pos c1]at h
  have b2:(!rb)=false:=congrArg Bool.not (c1)
  have b22:rb=true:=c1
  refine S_bd 7 (b:=rb) (v:=true) (by simp only[b2,b22,Bool.not_true,Bool.not_false])<|S_bd 15 (b:=(!rb)) (v:=false) (by simp only[b2,b22,Bool.not_true,Bool.not_false]) ?_
  clear b2 b22
  exact T_fz 15<|T_kt<|ar 4<|T_nr 9 [4,5] [vi ra,.bool ((Int.tmod ra 2)==0)] hQ h
 rw[if_neg c1]at h
 have b2:(!rb)=true:=congrArg Bool.not (zZ c1)
 have b22:rb=false:=zZ c1
 refine S_bd 7 (b:=rb) (v:=false) (by simp only[b2,b22,Bool.not_true,Bool.not_false])<|S_bd 15 (b:=(!rb)) (v:=true) (by simp only[b2,b22,Bool.not_true,Bool.not_false]) ?_
 clear b2 b22
 refine T_tz 15<|T_rz 3<|T_n 2 [(17,vp a),(18,vu b)]<|T_c (some 19) h ?_;clear h
 rintro d H2 ⟨wv,hv,rfl,h⟩
 refine⟨[(19,.tuple #[vi wv,.bool hv])],pk,?_⟩
 refine T_ne 5 [(6,vi wv),(7,.bool hv)]<|ar 4 ?_
 refine iT [(4,vi wv),(5,.bool (hv && ((Int.tmod wv 2)==0)))] ?_ ?_
 ·exact aE<|jF [4,5] [vi wv,.bool (hv && ((Int.tmod wv 2)==0))] hQ h
 intro hk
 refine T_n 3 [(6,vi wv),(22,vi wv),(24,.bool hv)] ?_
 by_cases c3:hv=true
 ·have b4:hv=true:=c3
  refine bW [(6,vi wv),(22,vi wv),(24,VT)] (by rw[b4]) ?_
  refine T_n 6 [(4,vi wv),(5,.bool ((Int.tmod wv 2)==0))]<|zq<|iU [(4,vi wv),(5,.bool (hv && ((Int.tmod wv 2)==0)))] (by simp only[b4,BL]) ?_
  exact hk
 have b4:hv=false:=zZ c3
 refine bW [(6,vi wv),(22,vi wv),(24,VF)] (by rw[b4]) ?_
 refine T_n 6 [(4,vi wv),(5,VF)]<|zq<|iU [(4,vi wv),(5,.bool (hv && ((Int.tmod wv 2)==0)))] (by simp only[b4,BL]) ?_
 exact hk
end gE
/-! (*moraine/obj.Heap).set -/
namespace hZ
def K0:=Func.code f135
end hZ
def hZ.pt(hv:zW)(wv i v:Int)(H:zV)(R:zv):Prop:=
 gE.C hv wv H (λd H1=> ∃ra rb,d=.tuple #[vi ra,.bool rb]/\
 if rb=true then(
 ∃b,hv=some b/\
 ∃x,hat H1 b=some (vp x)/\
 dX.C x (zY (ra+i)) v H1 (λe H2=> ∃a,e=vi a/\
 R (vi a) H2))
 else
 R (vi 3) H1)
namespace hZ
theorem link(h:pt a b j r H R):C a b j r H R:=by
 refine T_en K0 28 func135 ?_
 intro w0 Q hQ
 unfold pt zY at h
 refine T_su [(0,vp a),(1,vu b),(2,vi j),(3,vu r)]<|ar 0<|T_ed 1 [] []<|ar 1<|T_nd 2 [1] [(12,vp a),(13,vu b)]<|T_c (some 14) h ?_;clear h
 rintro d H1 ⟨ra,rb,rfl,h⟩
 refine T_pd [12,13] [(14,.tuple #[vi ra,.bool rb])]<|T_ed 5 [14] [(9,vi ra),(10,.bool rb)]<|T_sz<|ar 2<|T_ed 2 [10] [(18,.bool (!rb))] ?_
 by_cases c1:rb=true
 ·rw[if_pos c1]at h
  refine aJ 18 (congrArg Bool.not (c1))<|T_kt<|ar 4<|T_nd 1 [0,18] [(19,vp a)] ?_
  obtain⟨i,rfl,h⟩:=h
  refine T_nd 2 [19] [(21,Vq i)] ?_
  obtain⟨x,q3,h⟩:=h
  refine T_l1 22 33 q3 [21]<|T_n 4 [(22,vp x),(25,vi (zY (ra+j))),(26,vu r)]<|T_c (some 27) h ?_;clear h
  rintro e H2 ⟨v,rfl,h⟩
  refine⟨[(27,vi v)],pk,?_⟩
  exact T_nr 1 [8] [vi v] hQ h
 rw[if_neg c1]at h
 exact aI 18 (congrArg Bool.not (zZ c1))<|ar 3<|T_nr 1 [8] [vi 3] hQ h
end hZ
/-! (*moraine/seg.Mem).Taken -/
namespace cO
def K0:=Func.code f32
def K2:=cb K0
def K4:=cb K2
def K12:=cb K4
def K13:=ca K12
def K16:=cb K13
def K17:=ca K16
def K18:=ca K17
end cO
def cO.pt(m f:zW)(d e:Nat)(H:zV)(R:zv):Prop:=
 ∀b H1,b=H.size->H1=H.push (.cells #[vp m] 70)->
 ∃x,hat H1 (ad b)=some (vp x)/\
 fE x (
 R VN H1) (λxA=>
 ∃ae,hat H1 (ad b)=some (vp ae)/\
 ∃af,ae=some af/\
 ∃xB xN xC,hat H1 af=some (vs xB xN xC)/\
 ∃(r:zW->Nat->Nat->zw) (m19:zW->Nat->Nat->Int->zV->Nat),r none 0 0 0 H1/\ ∀lB lN lC s15 H2,r lB lN lC s15 H2->
 if s15< (xN:Int)then(
 ∃ab,hat H2 (ad b)=some (vp ab)/\
 ∃ac,ab=some ac/\
 ∃q l o,hat H2 ac=some (vs q l o)/\
 ∃g,q=some g/\
 yZ s15 l/\
 ∃p,hat H2 ((g.add (Int.toNat s15*72)).add 7)=some (vi p)/\
 if p>0 then(
 if(d:Int)=0 then(
 ∀y H3,y=H2.size->H3=H2.push (.cells #[vi s15] 3)->
 bR 1 3 8 [vi 0] lB lN lC (some (ad y)) 1 H3 (λap u H4=>
 (r ap (lN+1) u (zY (s15+1)) H4/\m19 ap (lN+1) u (zY (s15+1)) H4<m19 lB lN lC s15 H2)))
 else
 ∃z,hat H2 (g.add (Int.toNat s15*72))=some (vi z)/\
 bZ.C f d e z H2 (λv H5=> ∃s,v=.bool s/\
 if s=true then(
 ∀aa H6,aa=H5.size->H6=H5.push (.cells #[vi s15] 3)->
 bR 1 3 8 [vi 0] lB lN lC (some (ad aa)) 1 H6 (λn j H7=>
 (r n (lN+1) j (zY (s15+1)) H7/\m19 n (lN+1) j (zY (s15+1)) H7<m19 lB lN lC s15 H2)))
 else
 (r lB lN lC (zY (s15+1)) H5/\m19 lB lN lC (zY (s15+1)) H5<m19 lB lN lC s15 H2)))
 else
 (r lB lN lC (zY (s15+1)) H2/\m19 lB lN lC (zY (s15+1)) H2<m19 lB lN lC s15 H2))
 else
 slices_SortFunc_int_int.C lB lN lC (.func (.func 69) #[] #[Vq (ad b)]) H2 (λ_ H8=>
 R (vs lB lN lC) H8))
namespace cO
theorem link(h:pt a k d i H R):C a k d i H R:=by
 refine T_en K0 52 func32 ?_
 intro w0 Q hQ
 unfold pt zY at h
 refine T_su [(0,vp a),(1,vs k d i)]<|ar 0<|T_nw (some 2) (λb=>vp (pa b)) (.cells #[vp a] 70) ?_
 intro b H1 e1 e2
 replace h:=h b H1 e1 e2
 refine T_pd [0] [(2,vp (pa b))]<|T_ed 1 [] []<|T_sz<|ar 1 ?_
 obtain⟨x,q3,h⟩:=h
 refine T_l1 8 70 q3 [] ?_
 rcases x with _ | xA
 ·rw[onPtr_none]at h
  exact T_ed 1 [8] [(9,VT)]<|T_tz 9<|ar 2<|T_nr 1 [4] [VN] hQ h
 rw[onPtr_some]at h
 refine T_ed 1 [8] [(9,VF)]<|T_fz 9<|T_kt<|ar 3<|T_ed 1 [9] [(5,VN)]<|T_sz<|ar 4 ?_
 obtain⟨ae,q4,h⟩:=h
 refine T_l1 10 70 q4 [] ?_
 obtain⟨af,rfl,h⟩:=h
 refine T_nd 2 [10] [(12,Vq af)] ?_
 obtain⟨xB,xN,xC,q5,h⟩:=h
 refine T_l1 13 128 q5 [12]<|T_ed 2 [13] [(14,vi xN),(15,vi 0)]<|T_bz 0 ?_
 obtain⟨r,m19,i6,i7⟩:=h
 refine bL (x:=K18) (σ:=zW×Nat×Nat×Int) (λs_=> [(1,vs k d i),(2,vp (pa b)),(5,vs s_.1 s_.2.1 s_.2.2.1),(14,vi xN),(15,vi s_.2.2.2)]) (λs_ H=>r s_.1 s_.2.1 s_.2.2.1 s_.2.2.2 H) (λs_ H=>m19 s_.1 s_.2.1 s_.2.2.1 s_.2.2.2 H) ((none,0,0,0):zW×Nat×Nat×Int) (by kernel_rfl) i6 sk ?_
 rintro⟨lB,lN,lC,s15⟩ H2 i8
 have h:=i7 lB lN lC s15 H2 i8
 refine T_su [(1,vs k d i),(2,vp (pa b)),(5,vs lB lN lC),(14,vi xN),(15,vi s15)]<|ar 5<|T_ed 1 [] [(16,.bool (decide (s15< (xN:Int))))]<|T_sz ?_
 by_cases c9:s15< (xN:Int)
 ·rw[if_pos c9]at h
  refine aI 16 (zX c9)<|T_kt<|T_sz<|T_bz 1<|ar 6<|T_ed 2 [16] [(6,vi s15)]<|ar 7 ?_
  obtain⟨ab,q11,h⟩:=h
  refine T_l1 18 70 q11 [] ?_
  obtain⟨ac,rfl,h⟩:=h
  refine T_nd 2 [18] [(20,Vq ac)] ?_
  obtain⟨q,l,o,q12,h⟩:=h
  refine T_l1 21 128 q12 [20]<|T_nd 1 [] [(22,vi s15)] ?_
  obtain⟨g,rfl,q13,h⟩:=h
  refine T_xd (some 23) 128 134 72 g l o .i64 s15 underlying128 q13.1 q13.2 [21,22] [(23,Vq (g.add (Int.toNat s15*72)))]<|T_ed 1 [23] [(7,Vq (g.add (Int.toNat s15*72)))]<|ar 8<|T_nd 3 [] [(26,Vq ((g.add (Int.toNat s15*72)).add 7))] ?_
  obtain⟨p,q14,h⟩:=h
  refine T_l1 27 3 q14 [26]<|T_nd 2 [27] [(29,.bool (decide (p>0)))] ?_
  by_cases c15:p>0
  ·rw[if_pos c15]at h
   refine N_bd 29 (zX c15)<|T_nd 4 [] [(33,.bool ((d:Int)==0))] ?_
   by_cases c17:(d:Int)=0
   ·rw[if_pos c17]at h
    refine N_bd 33 (zK c17)<|T_ed 9 [7,29,33] [(42,VT)]<|T_tz 42<|T_rz 9<|T_nd 2 [5,6,42] [(43,vs lB lN lC),(44,vi s15)]<|T_nw (some 45) (λb=>vs (pa b) 1 1) (.cells #[vi s15] 3) ?_
    intro y H3 e19 e20
    replace h:=h y H3 e19 e20
    refine T_pd [44] [(45,vs (pa y) 1 1)]<|N_op (some 46) (cJ #[59,59] 59 #[vs lB lN lC,vs (pa y) 1 1]) _ (λ_=>by kernel_rfl) (bQ (T:=3) (sz:=1) (bytes:=8) (zero:=(vi 0:Value)) underlying59 underlying59 rfl (show prog.info? 3=some t3 from by kernel_rfl) (by kernel_rfl) (by kernel_rfl) (by decide) (by kernel_rfl) (by first | exact h | (simpa only[Value.cells,List.toList_toArray]using h))) ?_;clear h
    rintro _ H4 ⟨ap,u,rfl,h⟩
    exact T_pd [43,45] [(46,vs ap (lN+1) u)]<|T_nd 1 [46] [(5,vs ap (lN+1) u)]<|zq<|aA<|aE<|T_rz 10<|T_ed 2 [15] [(15,vi (zY (s15+1)))]<|aS ((ap,(lN+1),u,(zY (s15+1))):zW×Nat×Nat×Int) sk h
   rw[if_neg c17]at h
   refine N_bd 33 (zJ c17)<|T_nd 5 [7] [(34,vs k d i),(38,Vq (g.add (Int.toNat s15*72)))] ?_
   obtain⟨z,q21,h⟩:=h
   refine T_l1 39 3 q21 [38]<|T_c (some 40) h ?_;clear h
   rintro v H5 ⟨s,rfl,h⟩
   refine T_pd [34,39] [(40,.bool s)]<|T_ed 2 [29,33,40] [(42,.bool s)] ?_
   by_cases c22:s=true
   ·rw[if_pos c22]at h
    refine aI 42 c22<|T_rz 9<|T_nd 2 [5,6,42] [(43,vs lB lN lC),(44,vi s15)]<|T_nw (some 45) (λb=>vs (pa b) 1 1) (.cells #[vi s15] 3) ?_
    intro aa H6 e24 e25
    replace h:=h aa H6 e24 e25
    refine T_pd [44] [(45,vs (pa aa) 1 1)]<|N_op (some 46) (cJ #[59,59] 59 #[vs lB lN lC,vs (pa aa) 1 1]) _ (λ_=>by kernel_rfl) (bQ (T:=3) (sz:=1) (bytes:=8) (zero:=(vi 0:Value)) underlying59 underlying59 rfl (show prog.info? 3=some t3 from by kernel_rfl) (by kernel_rfl) (by kernel_rfl) (by decide) (by kernel_rfl) (by first | exact h | (simpa only[Value.cells,List.toList_toArray]using h))) ?_;clear h
    rintro _ H7 ⟨n,j,rfl,h⟩
    exact T_pd [43,45] [(46,vs n (lN+1) j)]<|T_nd 1 [46] [(5,vs n (lN+1) j)]<|zq<|aA<|aE<|T_rz 10<|T_ed 2 [15] [(15,vi (zY (s15+1)))]<|aS ((n,(lN+1),j,(zY (s15+1))):zW×Nat×Nat×Int) sk h
   rw[if_neg c22]at h
   exact aJ 42 (zZ c22)<|T_k<|aA<|aE<|T_rz 10<|T_ed 2 [6,15,42] [(15,vi (zY (s15+1)))]<|aS ((lB,lN,lC,(zY (s15+1))):zW×Nat×Nat×Int) sk h
  rw[if_neg c15]at h
  refine N_bd 29 (zQ c15)<|T_ed 13 [7,29] [(42,VF)]<|T_fz 42<|T_k ?_
  exact aA<|aE<|T_rz 10<|T_ed 2 [6,15,42] [(15,vi (zY (s15+1)))]<|aS ((lB,lN,lC,(zY (s15+1))):zW×Nat×Nat×Int) sk h
 rw[if_neg c9]at h
 refine aJ 16 (zQ c9)<|zk 0<|aD<|aD<|aM<|aE<|ar 11<|T_n 2 [(5,vs lB lN lC),(48,vs lB lN lC),(49,.func (.func 69) #[] #[vp (pa b)])]<|T_c (some 50) h ?_;clear h
 intro v_2 H8 h
 exact T_pd [48,49] []<|T_e<|ar 12<|T_nr 2 [4] [vs lB lN lC] hQ h
end cO
/-! (*moraine/seg.Mem).Taken.1 -/
namespace iJ
def K0:=Func.code f69
def K2:=cb K0
def K3:=ca K2
end iJ
def iJ.pt(a b:Int)(o:zW)(H:zV)(R:zv):Prop:=
 ∃d,o=some d/\
 ∃x,hat H d=some (vp x)/\
 ∃xA,x=some xA/\
 ∃xB xN xC,hat H xA=some (vs xB xN xC)/\
 ∃f,xB=some f/\
 yZ a xN/\
 ∃g,hat H ((f.add (Int.toNat a*72)).add 7)=some (vi g)/\
 ∃r,hat H d=some (vp r)/\
 ∃j,r=some j/\
 ∃q l m,hat H j=some (vs q l m)/\
 ∃e,q=some e/\
 yZ b l/\
 ∃p,hat H ((e.add (Int.toNat b*72)).add 7)=some (vi p)/\
 cmp_Compare_int.C g p H (λv H1=> ∃n,v=vi n/\
 R (vi n) H1)
namespace iJ
theorem link{o b:Int}(h:pt o b a H R):C o b a H R:=by
 refine T_en K0 23 func69 ?_
 intro w0 Q hQ
 unfold pt at h
 refine T_su [(0,vi o),(1,vi b),(2,vp a)]<|ar 0<|T_ed 1 [] []<|T_sz ?_
 obtain⟨d,rfl,x,q1,xA,rfl,xB,xN,xC,q2,f,rfl,q3,g,q4,r,q5,j,rfl,q,l,m,q6,e,rfl,q7,p,q8,h⟩:=h
 refine yq 1 (Code.ops K3) [(16,d,[vp (some xA)]),(16,xA,[vs (some f) xN xC]),(16,((f.add (Int.toNat o*72)).add 7),[vi g]),(16,d,[vp (some j)]),(16,j,[vs (some e) l m]),(16,((e.add (Int.toNat b*72)).add 7),[vi p])] 18 (bv 18 0) (show aF _ _ _ from⟨⟨q1,trivial⟩,⟨q2,trivial⟩,⟨q4,trivial⟩,⟨q5,trivial⟩,⟨q6,trivial⟩,⟨q8,trivial⟩,trivial⟩)<|T_g 0 (some 6) (vp (some xA)) (bv 18 1) [(0,vi o),(1,vi b),(2,vp (some d)),(6,vp (some xA))] (aU 70 (vp (some d))) (yY 16 yX)<|aL 1 7 (vp (some xA)) (bv 18 3) [6]<|aL 2 8 (vp (some xA)) (bv 18 7) [7]<|T_g1 3 9 (vs (some f) xN xC) (bv 18 15) [8] (aU 128 (vp (some xA))) (yY 16 yQ)<|aL 4 10 (vi o) (bv 18 31) [0]<|T_g1 5 11 (vp (some (f.add (Int.toNat o*72)))) (bv 18 63) [9,10] (bK 128 (vs (some f) xN xC) (vi o)) (λ_ w _ _ _=>dY (P:=prog) (t:=128) (elem:=134) (sz:=72) (a:=f) (len:=xN) (cap:=xC) (k:=.i64) (i:=o) underlying128 (λ_=>by kernel_rfl) q3.1 q3.2 w)<|aL 6 12 (vp (some ((f.add (Int.toNat o*72)).add 7))) (bv 18 127) [11]<|T_g1 7 13 (vi g) (bv 18 255) [12] (aU 3 (vp (some ((f.add (Int.toNat o*72)).add 7)))) (yY 16 yJ)<|T_g1 8 14 (vp (some j)) (bv 18 511) [2] (aU 70 (vp (some d))) (yY 16 yK)<|aL 9 15 (vp (some j)) (bv 18 1023) [14]<|aL 10 16 (vp (some j)) (bv 18 2047) [15]<|T_g1 11 17 (vs (some e) l m) (bv 18 4095) [16] (aU 128 (vp (some j))) (yY 16 yV)<|aL 12 18 (vi b) (bv 18 8191) [1]<|T_g1 13 19 (vp (some (e.add (Int.toNat b*72)))) (bv 18 16383) [17,18] (bK 128 (vs (some e) l m) (vi b)) (λ_ w _ _ _=>dY (P:=prog) (t:=128) (elem:=134) (sz:=72) (a:=e) (len:=l) (cap:=m) (k:=.i64) (i:=b) underlying128 (λ_=>by kernel_rfl) q7.1 q7.2 w)<|aL 14 20 (vp (some ((e.add (Int.toNat b*72)).add 7))) (bv 18 32767) [19]<|T_g1 15 21 (vi p) (bv 18 65535) [20] (aU 3 (vp (some ((e.add (Int.toNat b*72)).add 7)))) (yY 16 yW)<|yx 16 (some 22) (bv 18 131071) 70 #[vi g,vi p] h ?_;clear h
 rintro v H1 ⟨n,rfl,h⟩
 refine⟨[(22,vi n)],pk,(show aF _ _ _ from⟨trivial,trivial,trivial,trivial,trivial,trivial,trivial⟩),?_⟩
 exact T_g 17 (some 5) (vi n) (bv 18 262143) [(5,vi n)] (pure (.value (vi n)):Sem Next) (λ_ _ _ _ _=>rfl)<|fU [(5,vi n)] sk<|yz<|aE<|jF [5] [vi n] hQ h
end iJ
/-! (*moraine/seg.Mem).Free -/
namespace iM
def K0:=Func.code f72
end iM
def iM.pt(m:zW)(H:zV)(R:zv):Prop:=
 fE m (
 R (vi 0) H) (λmA=>
 ∃x,hat H (mA.add 2)=some (vi x)/\
 R (vi x) H)
namespace iM
theorem link(h:pt a H R):C a H R:=by
 refine T_en K0 9 func72 ?_
 intro w0 Q hQ
 unfold pt at h
 refine T_su [(0,vp a)]<|ar 0<|T_ed 1 [] []<|T_sz<|ar 1<|T_nd 1 [] [(3,vp a)] ?_
 rcases a with _ | mA
 ·rw[onPtr_none]at h
  exact T_ne 1 [(0,vp none),(4,VT)]<|T_tz 4<|ar 2<|T_nr 1 [2] [vi 0] hQ h
 rw[onPtr_some]at h
 refine T_ne 1 [(0,Vq mA),(4,VF)]<|T_fz 4<|T_kt<|ar 3<|T_n 3 [(7,Vq (mA.add 2))] ?_
 obtain⟨x,q1,h⟩:=h
 exact T_l1 8 3 q1 [7]<|T_nr 1 [2] [vi x] hQ h
end iM
/-! (*moraine/seg.Mem).Give -/
namespace gI
def K0:=Func.code f116
end gI
def gI.pt(m:zW)(d:Int)(H:zV)(R:zv):Prop:=
 gS.C m d H (λv H1=> ∃x,v=vp x/\
 fE x (
 R (vi 19) H1) (λxA=>
 (aK H1 xA 0 72)/\ ∀H2,H2=aR H1 xA (List.replicate 8 (vi 0)++List.replicate 64 (vu 0):List Value) 0->
 ∃mA,m=some mA/\
 ∃b,hat H2 (mA.add 2)=some (vi b)/\
 (aK H2 (mA.add 2) 0 1)/\ ∀H3,H3=aR H2 (mA.add 2) [vi (zY (b+1))] 0->
 R (vi 0) H3))
namespace gI
theorem link{H:zV}(h:pt a b H R):C a b H R:=by
 refine T_en K0 21 func116 ?_
 intro w0 Q hQ
 unfold pt zY at h
 refine T_su [(0,vp a),(1,vi b)]<|ar 0<|T_ed 1 [] []<|ar 1<|T_nd 2 [1] [(6,vp a),(7,vi b)]<|T_c (some 8) h ?_;clear h
 rintro v H1 ⟨x,rfl,h⟩
 refine T_pd [6,7] [(8,vp x)]<|T_ed 1 [8] [(5,vp x)]<|T_sz<|ar 2<|T_nd 1 [] [(9,vp x)] ?_
 rcases x with _ | xA
 ·rw[onPtr_none]at h
  exact T_ed 1 [5,9] [(5,vp none),(10,VT)]<|T_tz 10<|ar 3<|T_nr 1 [4] [vi 19] hQ h
 rw[onPtr_some]at h
 refine T_ed 1 [5,9] [(5,Vq xA),(10,VF)]<|T_fz 10<|T_kt<|ar 4<|T_nd 3 [5,10] [(12,.agg (List.replicate 8 (vi 0)++List.replicate 64 (vu 0):List Value).toArray),(13,Vq xA)] ?_
 obtain⟨q2,h⟩:=h
 refine mz none (jK 134 (Vq xA) (.agg (List.replicate 8 (vi 0)++List.replicate 64 (vu 0):List Value).toArray)) (λHz=>Hz=aR H1 xA (List.replicate 8 (vi 0)++List.replicate 64 (vu 0):List Value) 0) (λ_=>by kernel_rfl) (by intro w hw;obtain⟨w1,g1,g2,g3⟩:=iR (P:=prog) (H:=H1) (t:=134) (a:=xA) (v:=(.agg (List.replicate 8 (vi 0)++List.replicate 64 (vu 0):List Value).toArray)) (List.replicate 8 (vi 0)++List.replicate 64 (vu 0):List Value) 72 (by kernel_rfl) (by kernel_rfl) (λ_=>by kernel_rfl) (by kernel_rfl) q2 w hw;exact⟨w1,g1,g2,g3⟩) ?_
 intro H2 e1
 replace h:=h H2 e1
 refine⟨[(0,vp a)],pk,?_⟩
 refine T_e<|ar 5<|T_n 1 [(14,vp a)] ?_
 obtain⟨mA,rfl,h⟩:=h
 refine T_n 2 [(14,Vq mA),(16,Vq (mA.add 2))] ?_
 obtain⟨m,q3,h⟩:=h
 refine T_l1 17 3 q3 [16]<|T_n 3 [(18,vi (zY (m+1))),(20,Vq (mA.add 2))] ?_
 obtain⟨q5,h⟩:=h
 refine fH 3 (vi (zY (m+1))) q5 ?_
 intro H3 e4
 replace h:=h H3 e4
 refine⟨[],pk,?_⟩
 exact T_e<|ar 6<|T_nr 1 [4] [vi 0] hQ h
end gI
/-! (*moraine/seg.Mem).Copy -/
namespace iP
def K0:=Func.code f149
def K2:=cb K0
def K4:=cb K2
def K11:=ca K4
end iP
def iP.pt(m:zW)(H:zV)(R:zv):Prop:=
 fE m (
 R (vp none) H) (λmA=>
 ∃xB xN xC,hat H mA=some (vs xB xN xC)/\
 ∃x,hat H (mA.add 1)=some (vi x)/\
 ∃a,hat H (mA.add 2)=some (vi a)/\
 aZ.C xB xN xC H (λv H1=> ∃f e d,v=vs f e d/\aQ H1 (mA.add 1) 0 [vi x]/\aQ H1 (mA.add 2) 0 [vi a]/\
 ∀b H2,b=H1.size->H2=H1.push (.cells #[vs f e d,vi x,vi a] 130)->
 R (Vq (ad b)) H2))
namespace iP
theorem link(h:pt a H R):C a H R:=by
 refine T_en K0 20 func149 ?_
 intro w0 Q hQ
 unfold pt at h
 refine T_su [(0,vp a)]<|ar 0<|T_ed 1 [] []<|T_sz<|ar 1<|T_nd 1 [] [(3,vp a)] ?_
 rcases a with _ | mA
 ·rw[onPtr_none]at h
  exact T_ne 1 [(0,vp none),(4,VT)]<|T_tz 4<|ar 2<|T_nr 1 [2] [vp none] hQ h
 rw[onPtr_some]at h
 refine T_ne 1 [(0,Vq mA),(4,VF)]<|T_fz 4<|T_kt<|T_sz ?_
 obtain⟨xB,xN,xC,q1,x,q2,m,q3,h⟩:=h
 refine yq 3 (Code.ops K11) [(4,mA,[vs xB xN xC]),(14,(mA.add 1),[vi x]),(14,(mA.add 2),[vi m])] 16 (bv 16 0) (show aF _ _ _ from⟨⟨q1,trivial⟩,⟨q2,trivial⟩,⟨q3,trivial⟩,trivial⟩)<|T_gp 0 (some 5) (Vq mA) (bv 16 1) [(0,Vq mA),(5,Vq mA)]<|aL 1 6 (Vq mA) (bv 16 3) [5]<|aL 2 7 (Vq mA) (bv 16 7) [6]<|T_g1 3 8 (vs xB xN xC) (bv 16 15) [7] (aU 128 (Vq mA)) (yY 4 yX)<|aL 5 10 (Vq mA) (bv 16 47) []<|aL 6 11 (Vq mA) (bv 16 111) [10]<|aL 7 12 (Vq (mA.add 1)) (bv 16 239) [11]<|T_g1 8 13 (vi x) (bv 16 495) [12] (aU 3 (Vq (mA.add 1))) (yY 14 yQ)<|aL 9 14 (Vq mA) (bv 16 1007) [0]<|aL 10 15 (Vq mA) (bv 16 2031) [14]<|aL 11 16 (Vq (mA.add 2)) (bv 16 4079) [15]<|T_g1 12 17 (vi m) (bv 16 8175) [16] (aU 3 (Vq (mA.add 2))) (yY 14 yJ)<|yx 4 (some 9) (bv 16 8191) 155 #[vs xB xN xC] h ?_;clear h
 rintro v H1 ⟨f,e,d,rfl,f4,f5,h⟩
 refine⟨[(9,vs f e d),(13,vi x),(17,vi m)],pk,(show aF _ _ _ from⟨trivial,f4,f5,trivial⟩),?_⟩
 refine T_g 13 (some 18) (.agg #[vs f e d,vi x,vi m]) (bv 16 16383) [(18,.agg #[vs f e d,vi x,vi m])] (pure (.value (.agg #[vs f e d,vi x,vi m])):Sem Next) (λ_ _ _ _ _=>rfl)<|na 14 (some 19) (bv 16 32767) (λb=>vp (pa b)) (.cells #[vs f e d,vi x,vi m] 130) (by kernel_rfl) (λ_=>by kernel_rfl) (by kernel_rfl) ?_
 intro b H2 e6 e7
 replace h:=h b H2 e6 e7
 refine⟨[(19,vp (pa b))],pk,(show aF _ _ _ from⟨trivial,trivial,trivial,trivial⟩),?_⟩
 exact T_g 15 (some 2) (vp (pa b)) (bv 16 65535) [(2,vp (pa b))] (pure (.value (vp (pa b))):Sem Next) (λ_ _ _ _ _=>rfl)<|fU [(2,vp (pa b))] sk<|yz<|aE<|jF [2] [vp (pa b)] hQ h
end iP
/-! cmp.Compare[int] -/
namespace cmp_Compare_int
def K0:=Func.code f70
end cmp_Compare_int
def cmp_Compare_int.pt(x y:Int)(H:zV)(R:zv):Prop:=
 cmp_isNaN_int.C x H (λv H1=> ∃b,v=.bool b/\
 cmp_isNaN_int.C y H1 (λd H2=> ∃a,d=.bool a/\
 if b=true then(
 if a=true then(
 R (vi 0) H2)
 else
 R (vi (-1)) H2)
 else
 if a=true then(
 R (vi 1) H2)
 else
 if x<y then(
 R (vi (-1)) H2)
 else
 if x>y then(
 R (vi 1) H2)
 else
 R (vi 0) H2))
namespace cmp_Compare_int
theorem link(h:pt b j H R):C b j H R:=by
 refine T_en K0 20 func70 ?_
 intro w0 Q hQ
 unfold pt at h
 refine T_su [(0,vi b),(1,vi j)]<|ar 0<|T_ed 1 [] []<|ar 1<|T_nd 1 [] [(7,vi b)]<|T_c (some 8) h ?_;clear h
 rintro v H1 ⟨y,rfl,h⟩
 refine T_pd [7] [(8,.bool y)]<|T_ed 1 [8] [(5,.bool y)]<|ar 2<|T_nd 1 [] [(9,vi j)]<|T_c (some 10) h ?_;clear h
 rintro d H2 ⟨a,rfl,h⟩
 refine T_pd [9] [(10,.bool a)]<|T_ed 1 [10] [(6,.bool a)]<|T_sz<|ar 3<|T_ed 1 [5] [(11,.bool y)] ?_
 by_cases c1:y=true
 ·rw[if_pos c1]at h
  refine aI 11 c1<|T_sz<|ar 4<|T_ne 1 [(12,.bool a)] ?_
  by_cases c3:a=true
  ·rw[if_pos c3]at h
   exact aI 12 c3<|ar 5<|T_nr 1 [4] [vi 0] hQ h
  rw[if_neg c3]at h
  exact aJ 12 (zZ c3)<|T_kt<|ar 6<|T_nr 1 [4] [vi (-1)] hQ h
 rw[if_neg c1]at h
 refine aJ 11 (zZ c1)<|T_kt<|T_sz<|ar 7<|T_ed 1 [6,11] [(13,.bool a)] ?_
 by_cases c5:a=true
 ·rw[if_pos c5]at h
  exact aI 13 c5<|ar 8<|T_nr 1 [4] [vi 1] hQ h
 rw[if_neg c5]at h
 refine aJ 13 (zZ c5)<|T_kt<|T_sz<|ar 9<|T_ed 3 [13] [(16,.bool (decide (b<j)))] ?_
 by_cases c7:b<j
 ·rw[if_pos c7]at h
  exact aI 16 (zX c7)<|ar 10<|T_nr 1 [4] [vi (-1)] hQ h
 rw[if_neg c7]at h
 refine aJ 16 (zQ c7)<|T_kt<|T_sz<|ar 11<|T_ne 3 [(19,.bool (decide (b>j)))] ?_
 by_cases c9:b>j
 ·rw[if_pos c9]at h
  exact aI 19 (zX c9)<|ar 12<|T_nr 1 [4] [vi 1] hQ h
 rw[if_neg c9]at h
 exact aJ 19 (zQ c9)<|T_kt<|ar 13<|T_nr 1 [4] [vi 0] hQ h
end cmp_Compare_int
/-! cmp.isNaN[int] -/
namespace cmp_isNaN_int
def K0:=Func.code f115
end cmp_isNaN_int
def cmp_isNaN_int.pt(x:Int)(H:zV)(R:zv):Prop:=
 R (.bool (x !=x)) H
namespace cmp_isNaN_int
theorem link(h:pt b H R):C b H R:=by
 refine T_en K0 6 func115 ?_
 intro w0 Q hQ
 unfold pt at h
 exact T_su [(0,vi b)]<|ar 0<|T_ed 1 [] []<|ar 1<|T_nr 4 [2] [.bool (b !=b)] hQ h
end cmp_isNaN_int
/-! slices.EqualFunc[[]moraine/api.Knot,[]moraine/api.Knot,moraine/api.Knot,moraine/api.Knot] -/
namespace aT
def K0:=Func.code Tryz.f23
def K2:=cb K0
def K4:=cb K2
def K9:=ca K4
def K12:=cb K9
def K13:=ca K12
def K14:=ca K13
end aT
def aT.pt(ap:zW)(d l:Nat)(aa:zW)(f g:Nat)(eq:Value)(H:zV)(R:zv):Prop:=
 if(d:Int)=(f:Int)then(
 ∃(a8:zw) (m15:Int->zV->Nat),a8 0 H/\ ∀e H1,a8 e H1->
 if e< (d:Int)then(
 ∃j,ap=some j/\
 yZ e d/\
 ∃a2 an ao s r q a1 az a0,aQ H1 (j.add (Int.toNat e*5)) 0 [vi a2,vi an,vu ao,vs s r q,vs a1 az a0]/\
 ∀b H2,b=H1.size->H2=H1.push (.cells #[vi 0,vi 0,vu 0,VN,VN] 61)->
 (aK H2 (ad b) 0 5)/\ ∀H3,H3=aR H2 (ad b) [vi a2,vi an,vu ao,vs s r q,vs a1 az a0] 0->
 ∃p,aa=some p/\
 yZ e f/\
 ∃ai ab ac m n o aj ak ah,aQ H3 (p.add (Int.toNat e*5)) 0 [vi ai,vi ab,vu ac,vs m n o,vs aj ak ah]/\
 ∀a3 H4,a3=H3.size->H4=H3.push (.cells #[vi 0,vi 0,vu 0,VN,VN] 61)->
 (aK H4 (ad a3) 0 5)/\ ∀H5,H5=aR H4 (ad a3) [vi ai,vi ab,vu ac,vs m n o,vs aj ak ah] 0->
 ∃ax am al u y z aw ay av,aQ H5 (ad b) 0 [vi ax,vi am,vu al,vs u y z,vs aw ay av]/\
 ∃a6 aq au af ag ae a7 a4 a5,aQ H5 (ad a3) 0 [vi a6,vi aq,vu au,vs af ag ae,vs a7 a4 a5]/\
 FC prog eq #[.agg #[vi ax,vi am,vu al,vs u y z,vs aw ay av],.agg #[vi a6,vi aq,vu au,vs af ag ae,vs a7 a4 a5]] H5 (λv H6=> ∃x,v=.bool x/\
 if x=true then(
 (a8 (zY (e+1)) H6/\m15 (zY (e+1)) H6<m15 e H1))
 else
 R VF H6))
 else
 R VT H1)
 else
 R VF H
namespace aT
theorem link{eq:Value}(h:pt a d i k o q eq H R):C a d i k o q eq H R:=by
 refine T_en K0 32 func23 ?_
 intro w0 Q hQ
 unfold pt zY at h
 refine T_su [(0,vs a d i),(1,vs k o q),(2,eq)]<|ar 0<|T_ed 1 [] []<|T_sz<|ar 1<|T_ed 5 [] [(14,.bool ((d:Int) !=(o:Int)))] ?_
 by_cases c1:(d:Int)=(o:Int)
 ·rw[if_pos c1]at h
  refine aJ 14 (bne_eq_false_iff_eq.mpr c1)<|T_kt<|T_sz<|ar 3<|T_ed 3 [0,14] [(15,vs a d i),(16,vi d),(17,vi 0)]<|T_bz 0 ?_
  obtain⟨a8,m15,i3,i4⟩:=h
  refine bL (x:=K14) (σ:=Int) (λs_=> [(1,vs k o q),(2,eq),(15,vs a d i),(16,vi d),(17,vi s_)]) (λs_ H=>a8 s_ H) (λs_ H=>m15 s_ H) (0:Int) (by kernel_rfl) i3 sk ?_
  rintro e H1 i5
  have h:=i4 e H1 i5
  refine T_su [(1,vs k o q),(2,eq),(15,vs a d i),(16,vi d),(17,vi e)]<|ar 4<|T_ed 1 [] [(18,.bool (decide (e< (d:Int))))]<|T_sz ?_
  by_cases c6:e< (d:Int)
  ·rw[if_pos c6]at h
   refine aI 18 (zX c6)<|T_kt<|T_sz<|T_bz 1<|ar 5<|T_nd 1 [18] [(19,vi e)] ?_
   obtain⟨j,rfl,q8,h⟩:=h
   refine T_xd (some 20) 22 61 5 j d i .i64 e underlying22 q8.1 q8.2 [15] [(15,vs (some j) d i),(20,Vq (j.add (Int.toNat e*5)))] ?_
   obtain⟨a2,an,ao,s,r,f,a1,az,a0,q9,h⟩:=h
   refine T_lr 21 61 q9 [20]<|T_nw (some 8) (λb=>vp (pa b)) (.cells #[vi 0,vi 0,vu 0,VN,VN] 61) ?_
   intro b H2 e10 e11
   replace h:=h b H2 e10 e11
   refine T_pd [] [(8,vp (pa b))]<|T_nd 1 [19] [(7,vi e)] ?_
   obtain⟨q13,h⟩:=h
   refine fG 61 [vi a2,vi an,vu ao,vs s r f,vs a1 az a0] q13 ?_
   intro H3 e12
   replace h:=h H3 e12
   refine T_pd [21] []<|T_e<|ar 6<|T_nd 2 [7] [(22,vs k o q),(23,vi e)] ?_
   obtain⟨p,rfl,q14,h⟩:=h
   refine T_xd (some 24) 22 61 5 p o q .i64 e underlying22 q14.1 q14.2 [1,22,23] [(1,vs (some p) o q),(24,Vq (p.add (Int.toNat e*5)))] ?_
   obtain⟨ai,ab,ac,m,n,g,aj,ak,ah,q15,h⟩:=h
   refine T_lr 25 61 q15 [24]<|T_nw (some 9) (λb=>vp (pa b)) (.cells #[vi 0,vi 0,vu 0,VN,VN] 61) ?_
   intro a3 H4 e16 e17
   replace h:=h a3 H4 e16 e17
   refine T_pd [] [(9,vp (pa a3))] ?_
   obtain⟨q19,h⟩:=h
   refine fG 61 [vi ai,vi ab,vu ac,vs m n g,vs aj ak ah] q19 ?_
   intro H5 e18
   replace h:=h H5 e18
   refine T_pd [25] []<|T_e<|ar 7<|T_nd 1 [] [(26,eq)] ?_
   obtain⟨ax,am,al,u,y,z,aw,ay,av,q20,h⟩:=h
   refine T_lr 27 61 q20 [8] ?_
   obtain⟨a6,aq,au,af,ag,ae,a7,a4,a5,q21,h⟩:=h
   refine T_lr 28 61 q21 [9]<|l9 (some 29) eq #[.agg #[vi ax,vi am,vu al,vs u y z,vs aw ay av],.agg #[vi a6,vi aq,vu au,vs af ag ae,vs a7 a4 a5]] (λ_=>by kernel_rfl) h ?_;clear h
   rintro v H6 ⟨x,rfl,h⟩
   refine T_pd [26,27,28] [(29,.bool x)]<|T_ed 1 [29] [(30,.bool (!x))] ?_
   by_cases c22:x=true
   ·rw[if_pos c22]at h
    exact aJ 30 (congrArg Bool.not (c22))<|T_k<|aA<|aE<|T_rz 9<|T_ed 2 [17,30] [(17,vi (zY (e+1)))]<|aS ((zY (e+1)):Int) sk h
   rw[if_neg c22]at h
   exact aI 30 (congrArg Bool.not (zZ c22))<|ar 8<|T_nr 1 [6] [VF] hQ h
  rw[if_neg c6]at h
  exact aJ 18 (zQ c6)<|zk 0<|aD<|aD<|aM<|aE<|ar 10<|T_nr 1 [6] [VT] hQ h
 rw[if_neg c1]at h
 exact aI 14 (bne_iff_ne.mpr c1)<|ar 2<|T_nr 1 [6] [VF] hQ h
end aT
/-! slices.Equal[[]moraine/api.Word,moraine/api.Word] -/
namespace bG
def K0:=Func.code f25
def K2:=cb K0
def K4:=cb K2
def K9:=ca K4
def K12:=cb K9
def K13:=ca K12
def K14:=ca K13
end bG
def bG.pt(m:zW)(b g:Nat)(l:zW)(e f:Nat)(H:zV)(R:zv):Prop:=
 if(b:Int)=(e:Int)then(
 ∃(p:zw) (m15:Int->zV->Nat),p 0 H/\ ∀d H1,p d H1->
 if d< (b:Int)then(
 ∃j,m=some j/\
 yZ d b/\
 ∃x,hat H1 (j.add (Int.toNat d*1))=some (vu x)/\
 ∃n,l=some n/\
 yZ d e/\
 ∃o,hat H1 (n.add (Int.toNat d*1))=some (vu o)/\
 if x=o then(
 (p (zY (d+1)) H1/\m15 (zY (d+1)) H1<m15 d H1))
 else
 R VF H1)
 else
 R VT H1)
 else
 R VF H
namespace bG
theorem link(h:pt a d i k o q H R):C a d i k o q H R:=by
 refine T_en K0 26 func25 ?_
 intro w0 Q hQ
 unfold pt zY at h
 refine T_su [(0,vs a d i),(1,vs k o q)]<|ar 0<|T_ed 1 [] []<|T_sz<|ar 1<|T_ed 5 [] [(10,.bool ((d:Int) !=(o:Int)))] ?_
 by_cases c1:(d:Int)=(o:Int)
 ·rw[if_pos c1]at h
  refine aJ 10 (bne_eq_false_iff_eq.mpr c1)<|T_kt<|T_sz<|ar 3<|T_ed 3 [10] [(12,vi d),(13,vi 0)]<|T_bz 0 ?_
  obtain⟨p,m15,i3,i4⟩:=h
  refine bL (x:=K14) (σ:=Int) (λs_=> [(0,vs a d i),(1,vs k o q),(12,vi d),(13,vi s_)]) (λs_ H=>p s_ H) (λs_ H=>m15 s_ H) (0:Int) (by kernel_rfl) i3 sk ?_
  rintro e H1 i5
  have h:=i4 e H1 i5
  refine T_su [(0,vs a d i),(1,vs k o q),(12,vi d),(13,vi e)]<|ar 4<|T_ed 1 [] [(14,.bool (decide (e< (d:Int))))]<|T_sz ?_
  by_cases c6:e< (d:Int)
  ·rw[if_pos c6]at h
   refine aI 14 (zX c6)<|T_kt<|T_sz<|T_bz 1<|ar 5<|T_ed 2 [14] [(5,vi e)]<|T_sz<|oJ 6<|T_q1 16 (vs a d i) []<|T_q1 17 (vi e) [] ?_
   obtain⟨j,rfl,q8,h⟩:=h
   refine Q_op (some 18) (bK 29 (vs (some j) d i) (vi e)) (vp (some (j.add (Int.toNat e*1)))) (λ_=>by kernel_rfl) (λw _=>dY (P:=prog) (t:=29) (elem:=40) (sz:=1) (a:=j) (len:=d) (cap:=i) (k:=.i64) (i:=e) underlying29 (λ_=>by kernel_rfl) q8.1 q8.2 w) [(0,vs (some j) d i),(1,vs k o q),(5,vi e),(12,vi d),(13,vi e),(18,vp (some (j.add (Int.toNat e*1))))] pk ?_
   obtain⟨x,q9,h⟩:=h
   refine T_ql (some 19) 40 q9 [(0,vs (some j) d i),(1,vs k o q),(5,vi e),(12,vi d),(13,vi e),(19,vu x)]<|T_q1 20 (vs k o q) []<|T_q1 21 (vi e) [5] ?_
   obtain⟨n,rfl,q10,h⟩:=h
   refine Q_op (some 22) (bK 29 (vs (some n) o q) (vi e)) (vp (some (n.add (Int.toNat e*1)))) (λ_=>by kernel_rfl) (λw _=>dY (P:=prog) (t:=29) (elem:=40) (sz:=1) (a:=n) (len:=o) (cap:=q) (k:=.i64) (i:=e) underlying29 (λ_=>by kernel_rfl) q10.1 q10.2 w) [(0,vs (some j) d i),(1,vs (some n) o q),(12,vi d),(13,vi e),(19,vu x),(22,vp (some (n.add (Int.toNat e*1))))] pk ?_
   obtain⟨b,q11,h⟩:=h
   refine T_ql (some 23) 40 q11 [(0,vs (some j) d i),(1,vs (some n) o q),(12,vi d),(13,vi e),(19,vu x),(23,vu b)]<|T_q1 24 (.bool (x !=b)) [19,23]<|mv [(0,vs (some j) d i),(1,vs (some n) o q),(12,vi d),(13,vi e),(24,.bool (x !=b))] sk<|T_qe ?_
   by_cases c12:x=b
   ·rw[if_pos c12]at h
    exact aJ 24 (bne_eq_false_iff_eq.mpr c12)<|T_k<|aA<|aE<|T_rz 8<|T_ne 2 [(0,vs (some j) d i),(1,vs (some n) o q),(12,vi d),(13,vi (zY (e+1)))]<|aS ((zY (e+1)):Int) sk h
   rw[if_neg c12]at h
   exact aI 24 (bne_iff_ne.mpr c12)<|ar 7<|T_nr 1 [4] [VF] hQ h
  rw[if_neg c6]at h
  exact aJ 14 (zQ c6)<|zk 0<|aD<|aD<|aM<|aE<|ar 9<|T_nr 1 [4] [VT] hQ h
 rw[if_neg c1]at h
 exact aI 10 (bne_iff_ne.mpr c1)<|ar 2<|T_nr 1 [4] [VF] hQ h
end bG
/-! slices.Equal[[]int,int] -/
namespace cR
def K0:=Func.code f26
def K2:=cb K0
def K4:=cb K2
def K9:=ca K4
def K12:=cb K9
def K13:=ca K12
def K14:=ca K13
end cR
def cR.pt(m:zW)(b g:Nat)(l:zW)(e f:Nat)(H:zV)(R:zv):Prop:=
 if(b:Int)=(e:Int)then(
 ∃(p:zw) (m15:Int->zV->Nat),p 0 H/\ ∀d H1,p d H1->
 if d< (b:Int)then(
 ∃j,m=some j/\
 yZ d b/\
 ∃x,hat H1 (j.add (Int.toNat d*1))=some (vi x)/\
 ∃n,l=some n/\
 yZ d e/\
 ∃o,hat H1 (n.add (Int.toNat d*1))=some (vi o)/\
 if x=o then(
 (p (zY (d+1)) H1/\m15 (zY (d+1)) H1<m15 d H1))
 else
 R VF H1)
 else
 R VT H1)
 else
 R VF H
namespace cR
theorem link(h:pt a d i k o q H R):C a d i k o q H R:=by
 refine T_en K0 26 func26 ?_
 intro w0 Q hQ
 unfold pt zY at h
 refine T_su [(0,vs a d i),(1,vs k o q)]<|ar 0<|T_ed 1 [] []<|T_sz<|ar 1<|T_ed 5 [] [(10,.bool ((d:Int) !=(o:Int)))] ?_
 by_cases c1:(d:Int)=(o:Int)
 ·rw[if_pos c1]at h
  refine aJ 10 (bne_eq_false_iff_eq.mpr c1)<|T_kt<|T_sz<|ar 3<|T_ed 3 [10] [(12,vi d),(13,vi 0)]<|T_bz 0 ?_
  obtain⟨p,m15,i3,i4⟩:=h
  refine bL (x:=K14) (σ:=Int) (λs_=> [(0,vs a d i),(1,vs k o q),(12,vi d),(13,vi s_)]) (λs_ H=>p s_ H) (λs_ H=>m15 s_ H) (0:Int) (by kernel_rfl) i3 sk ?_
  rintro e H1 i5
  have h:=i4 e H1 i5
  refine T_su [(0,vs a d i),(1,vs k o q),(12,vi d),(13,vi e)]<|ar 4<|T_ed 1 [] [(14,.bool (decide (e< (d:Int))))]<|T_sz ?_
  by_cases c6:e< (d:Int)
  ·rw[if_pos c6]at h
   refine aI 14 (zX c6)<|T_kt<|T_sz<|T_bz 1<|ar 5<|T_ed 2 [14] [(5,vi e)]<|T_sz<|oJ 6<|T_q1 16 (vs a d i) []<|T_q1 17 (vi e) [] ?_
   obtain⟨j,rfl,q8,h⟩:=h
   refine Q_op (some 18) (bK 59 (vs (some j) d i) (vi e)) (vp (some (j.add (Int.toNat e*1)))) (λ_=>by kernel_rfl) (λw _=>dY (P:=prog) (t:=59) (elem:=3) (sz:=1) (a:=j) (len:=d) (cap:=i) (k:=.i64) (i:=e) underlying59 (λ_=>by kernel_rfl) q8.1 q8.2 w) [(0,vs (some j) d i),(1,vs k o q),(5,vi e),(12,vi d),(13,vi e),(18,vp (some (j.add (Int.toNat e*1))))] pk ?_
   obtain⟨x,q9,h⟩:=h
   refine T_ql (some 19) 3 q9 [(0,vs (some j) d i),(1,vs k o q),(5,vi e),(12,vi d),(13,vi e),(19,vi x)]<|T_q1 20 (vs k o q) []<|T_q1 21 (vi e) [5] ?_
   obtain⟨n,rfl,q10,h⟩:=h
   refine Q_op (some 22) (bK 59 (vs (some n) o q) (vi e)) (vp (some (n.add (Int.toNat e*1)))) (λ_=>by kernel_rfl) (λw _=>dY (P:=prog) (t:=59) (elem:=3) (sz:=1) (a:=n) (len:=o) (cap:=q) (k:=.i64) (i:=e) underlying59 (λ_=>by kernel_rfl) q10.1 q10.2 w) [(0,vs (some j) d i),(1,vs (some n) o q),(12,vi d),(13,vi e),(19,vi x),(22,vp (some (n.add (Int.toNat e*1))))] pk ?_
   obtain⟨b,q11,h⟩:=h
   refine T_ql (some 23) 3 q11 [(0,vs (some j) d i),(1,vs (some n) o q),(12,vi d),(13,vi e),(19,vi x),(23,vi b)]<|T_q1 24 (.bool (x !=b)) [19,23]<|mv [(0,vs (some j) d i),(1,vs (some n) o q),(12,vi d),(13,vi e),(24,.bool (x !=b))] sk<|T_qe ?_
   by_cases c12:x=b
   ·rw[if_pos c12]at h
    exact aJ 24 (bne_eq_false_iff_eq.mpr c12)<|T_k<|aA<|aE<|T_rz 8<|T_ne 2 [(0,vs (some j) d i),(1,vs (some n) o q),(12,vi d),(13,vi (zY (e+1)))]<|aS ((zY (e+1)):Int) sk h
   rw[if_neg c12]at h
   exact aI 24 (bne_iff_ne.mpr c12)<|ar 7<|T_nr 1 [4] [VF] hQ h
  rw[if_neg c6]at h
  exact aJ 14 (zQ c6)<|zk 0<|aD<|aD<|aM<|aE<|ar 9<|T_nr 1 [4] [VT] hQ h
 rw[if_neg c1]at h
 exact aI 10 (bne_iff_ne.mpr c1)<|ar 2<|T_nr 1 [4] [VF] hQ h
end cR
/-! slices.Contains[[]int,int] -/
namespace bZ
def K0:=Func.code f67
end bZ
def bZ.pt(sB:zW)(sN sC:Nat)(v:Int)(H:zV)(R:zv):Prop:=
 dL.C sB sN sC v H (λa H1=> ∃x,a=vi x/\
 R (.bool (decide (x>=0))) H1)
namespace bZ
theorem link(h:pt a d i b H R):C a d i b H R:=by
 refine T_en K0 9 func67 ?_
 intro w0 Q hQ
 unfold pt at h
 refine T_su [(0,vs a d i),(1,vi b)]<|ar 0<|T_ed 1 [] []<|ar 1<|T_n 2 [(5,vs a d i),(6,vi b)]<|T_c (some 7) h ?_;clear h
 rintro v H1 ⟨x,rfl,h⟩
 refine⟨[(7,vi x)],pk,?_⟩
 exact T_nr 2 [4] [.bool (decide (x>=0))] hQ h
end bZ
/-! slices.Clone[[]moraine/api.Entry,moraine/api.Entry] -/
namespace bE
def K0:=Func.code f92
end bE
def bE.pt(sB:zW)(sN sC:Nat)(H:zV)(R:zv):Prop:=
 fE sB (
 R VN H) (λa=>
 ∀b H1,b=H.size->H1=H.push (.cells #[] 40)->
 bR 1 40 8 [vu 0] (some (ad b)) 0 0 (some a) sN H1 (λap d H2=>
 R (vs ap (0+sN) d) H2))
namespace bE
theorem link(h:pt a d i H R):C a d i H R:=by
 refine T_en K0 8 func92 ?_
 intro w0 Q hQ
 unfold pt at h
 refine T_su [(0,vs a d i)]<|ar 0<|T_ed 1 [] []<|T_sz<|ar 1<|T_nd 1 [] [(3,vs a d i)] ?_
 rcases a with _ | sC
 ·rw[onPtr_none]at h
  exact T_ne 1 [(0,vs none d i),(4,VT)]<|T_tz 4<|ar 2<|T_nr 1 [2] [VN] hQ h
 rw[onPtr_some]at h
 refine T_ne 1 [(0,vs (some sC) d i),(4,VF)]<|T_fz 4<|T_kt<|ar 3<|T_ud [4] []<|T_nw (some 5) (λb=>vs (pa b) 0 0) (.cells #[] 40) ?_
 intro b H1 e1 e2
 replace h:=h b H1 e1 e2
 refine T_pd [] [(5,vs (pa b) 0 0)]<|T_nd 1 [0] [(6,vs (some sC) d i)]<|N_op (some 7) (cJ #[29,29] 29 #[vs (pa b) 0 0,vs (some sC) d i]) _ (λ_=>by kernel_rfl) (bQ (T:=40) (sz:=1) (bytes:=8) (zero:=(vu 0:Value)) underlying29 underlying29 rfl (show prog.info? 40=some t40 from by kernel_rfl) (by kernel_rfl) (by kernel_rfl) (by decide) (by kernel_rfl) (by first | exact h | (simpa only[Value.cells,List.toList_toArray]using h))) ?_;clear h
 rintro _ H2 ⟨ap,sN,rfl,h⟩
 refine⟨[(7,vs ap (0+d) sN)],pk,?_⟩
 exact T_nr 1 [2] [vs ap (0+d) sN] hQ h
end bE
/-! slices.Index[[]int,int] -/
namespace dL
def K0:=Func.code f112
def K2:=cb K0
def K3:=ca K2
def K6:=cb K3
def K7:=ca K6
def K8:=ca K7
end dL
def dL.pt(sB:zW)(sN sC:Nat)(v:Int)(H:zV)(R:zv):Prop:=
 ∃(I9:zw) (m9:Int->zV->Nat),I9 0 H/\ ∀s8 H1,I9 s8 H1->
 if s8< (sN:Int)then(
 ∃b,sB=some b/\
 yZ s8 sN/\
 ∃x,hat H1 (b.add (Int.toNat s8*1))=some (vi x)/\
 if v=x then(
 R (vi s8) H1)
 else
 (I9 (zY (s8+1)) H1/\m9 (zY (s8+1)) H1<m9 s8 H1))
 else
 R (vi (-1)) H1
namespace dL
theorem link(h:pt a d i b H R):C a d i b H R:=by
 refine T_en K0 19 func112 ?_
 intro w0 Q hQ
 unfold pt zY at h
 refine T_su [(0,vs a d i),(1,vi b)]<|ar 0<|T_ed 1 [] []<|T_sz<|ar 1<|T_ed 3 [] [(7,vi d),(8,vi 0)]<|T_bz 0 ?_
 obtain⟨I9,m9,i1,i2⟩:=h
 refine bL (x:=K8) (σ:=Int) (λs_=> [(0,vs a d i),(1,vi b),(7,vi d),(8,vi s_)]) (λs_ H=>I9 s_ H) (λs_ H=>m9 s_ H) (0:Int) (by kernel_rfl) i1 sk ?_
 rintro s8 H1 i3
 have h:=i2 s8 H1 i3
 refine T_su [(0,vs a d i),(1,vi b),(7,vi d),(8,vi s8)]<|ar 2<|T_ed 1 [] [(9,.bool (decide (s8< (d:Int))))]<|T_sz ?_
 by_cases c4:s8< (d:Int)
 ·rw[if_pos c4]at h
  refine aI 9 (zX c4)<|T_kt<|T_sz<|T_bz 1<|ar 3<|T_ed 2 [9] [(5,vi s8)]<|ar 4<|T_nd 3 [] [(11,vi b),(12,vs a d i),(13,vi s8)] ?_
  obtain⟨v,rfl,q6,h⟩:=h
  refine T_xd (some 14) 59 3 1 v d i .i64 s8 underlying59 q6.1 q6.2 [0,12,13] [(0,vs (some v) d i),(14,Vq (v.add (Int.toNat s8*1)))] ?_
  obtain⟨x,q7,h⟩:=h
  refine T_l1 15 3 q7 [14]<|T_ed 1 [11,15] [(16,.bool (b==x))] ?_
  by_cases c8:b=x
  ·rw[if_pos c8]at h
   exact aI 16 (zK c8)<|ar 5<|T_nr 2 [4] [vi s8] hQ h
  rw[if_neg c8]at h
  exact aJ 16 (zJ c8)<|T_k<|aA<|aE<|T_rz 6<|T_ed 2 [5,8,16] [(8,vi (zY (s8+1)))]<|aS ((zY (s8+1)):Int) sk h
 rw[if_neg c4]at h
 exact aJ 9 (zQ c4)<|zk 0<|aD<|aD<|aM<|aE<|ar 7<|T_nr 1 [4] [vi (-1)] hQ h
end dL
/-! slices.Clone[[]moraine/seg.segment,moraine/seg.segment] -/
namespace aZ
def K0:=Func.code f155
end aZ
def aZ.pt(sB:zW)(sN sC:Nat)(H:zV)(R:zv):Prop:=
 fE sB (
 R VN H) (λa=>
 ∀b H1,b=H.size->H1=H.push (.cells #[] 134)->
 bR 72 134 576 (List.replicate 8 (vi 0)++List.replicate 64 (vu 0):List Value) (some (ad b)) 0 0 (some a) sN H1 (λap d H2=>
 R (vs ap (0+sN) d) H2))
namespace aZ
theorem link(h:pt a d i H R):C a d i H R:=by
 refine T_en K0 8 func155 ?_
 intro w0 Q hQ
 unfold pt at h
 refine T_su [(0,vs a d i)]<|ar 0<|T_ed 1 [] []<|T_sz<|ar 1<|T_nd 1 [] [(3,vs a d i)] ?_
 rcases a with _ | sC
 ·rw[onPtr_none]at h
  exact T_ne 1 [(0,vs none d i),(4,VT)]<|T_tz 4<|ar 2<|T_nr 1 [2] [VN] hQ h
 rw[onPtr_some]at h
 refine T_ne 1 [(0,vs (some sC) d i),(4,VF)]<|T_fz 4<|T_kt<|ar 3<|T_ud [4] []<|T_nw (some 5) (λb=>vs (pa b) 0 0) (.cells #[] 134) ?_
 intro b H1 e1 e2
 replace h:=h b H1 e1 e2
 refine T_pd [] [(5,vs (pa b) 0 0)]<|T_nd 1 [0] [(6,vs (some sC) d i)]<|N_op (some 7) (cJ #[128,128] 128 #[vs (pa b) 0 0,vs (some sC) d i]) _ (λ_=>by kernel_rfl) (bQ (T:=134) (sz:=72) (bytes:=576) (zero:=(.agg (List.replicate 8 (vi 0)++List.replicate 64 (vu 0):List Value).toArray:Value)) underlying128 underlying128 rfl (show prog.info? 134=some t134 from by kernel_rfl) (by kernel_rfl) (by kernel_rfl) (by decide) (by kernel_rfl) (by first | exact h | (simpa only[Value.cells,List.toList_toArray]using h))) ?_;clear h
 rintro _ H2 ⟨ap,sN,rfl,h⟩
 refine⟨[(7,vs ap (0+d) sN)],pk,?_⟩
 exact T_nr 1 [2] [vs ap (0+d) sN] hQ h
end aZ
/-! (*moraine/obj.Heap).Next -/
namespace gZ
def K0:=Func.code f78
end gZ
def gZ.pt(hv:zW)(H:zV)(R:zv):Prop:=
 fL.C hv H (λv H1=> ∃x,v=.bool x/\
 if x=true then(
 R (.tuple #[]) H1)
 else
 ∃a,hv=some a/\
 ∃b,hat H1 (a.add 3)=some (vu b)/\
 (aK H1 (a.add 3) 0 1)/\ ∀H2,H2=aR H1 (a.add 3) [vu (IntKind.wrap .u64 (b+1))] 0->
 R (.tuple #[]) H2)
namespace gZ
set_option maxRecDepth 100000 in
theorem link(h:pt a H R):C a H R:=by
 refine T_en K0 12 func78 ?_
 intro w0 Q hQ
 unfold pt at h
 refine T_su [(0,vp a)]<|ar 0<|T_nd 1 [] [(2,vp a)]<|T_c (some 3) h ?_;clear h
 rintro v H1 ⟨x,rfl,h⟩
 refine T_pd [2] [(3,.bool x)]<|T_ed 1 [3] [(4,.bool (!x))] ?_
 by_cases c1:x=true
 ·rw[if_pos c1]at h
  exact aJ 4 (congrArg Bool.not (c1))<|T_k<|iG (fn:=f78) [] hQ (show cG _ _ _ [] _ from .nil) h
 rw[if_neg c1]at h
 refine aI 4 (congrArg Bool.not (zZ c1))<|T_rz 1<|T_n 1 [(5,vp a)] ?_
 obtain⟨hv,rfl,h⟩:=h
 refine T_n 2 [(5,Vq hv),(7,Vq (hv.add 3))] ?_
 obtain⟨b,q3,h⟩:=h
 refine T_l1 8 35 q3 [7]<|T_n 3 [(9,vu (IntKind.wrap .u64 (b+1))),(11,Vq (hv.add 3))] ?_
 obtain⟨q5,h⟩:=h
 refine fH 35 (vu (IntKind.wrap .u64 (b+1))) q5 ?_
 intro H2 e4
 replace h:=h H2 e4
 refine⟨[],pk,?_⟩
 exact zq<|iG (fn:=f78) [] hQ (show cG _ _ _ [] _ from .nil) h
end gZ
/-! moraine/morainelaw11.Word -/
namespace bP
def K0:=Func.code f28
end bP
def bP.pt(vW ae:Int)(f:zW)(d e:Nat)(H:zV)(R:zv):Prop:=
 ∀b H1,b=H.size->H1=H.push (.cells #[vu vW,vi ae] 55)->
 ∃x,hat H1 ((ad b).add 1)=some (vi x)/\
 if((decide (x>0)) && (decide ((d:Int)>0)))=true then(
 ∃m,hat H1 ((ad b).add 1)=some (vi m)/\
 ((d:Int)≠0)/\
 ∃l,f=some l/\
 ((0:Int)<=(Int.tmod (zY (m-1)) (d:Int))/\(Int.tmod (zY (m-1)) (d:Int))< (d:Int))/\
 ∃s,hat H1 (l.add (Int.toNat (Int.tmod (zY (m-1)) (d:Int))*1))=some (vu s)/\
 R (vu s) H1)
 else
 ∃j,hat H1 (ad b)=some (vu j)/\
 if(iand .u64 j 7)=0 then(
 ∃ab,hat H1 (ad b)=some (vu ab)/\
 dR.C ab H1 (λv H2=> ∃n ai xA xX af,v=.agg #[vi n,vi ai,vi xA,vi xX,vu af]/\
 if n=0 then(
 ∃z,hat H2 (ad b)=some (vu z)/\
 R (vu (lf .u64 z 7)) H2)
 else
 ∃aa,hat H2 (ad b)=some (vu aa)/\
 R (vu aa) H2))
 else
 if(iand .u64 j 7)=4 then(
 ∃ac,hat H1 (ad b)=some (vu ac)/\
 dR.C ac H1 (λaj H3=> ∃g r ag ah q,aj=.agg #[vi g,vi r,vi ag,vi ah,vu q]/\
 if g=0 then(
 ∃u,hat H3 (ad b)=some (vu u)/\
 R (vu (lf .u64 u 7)) H3)
 else
 ∃p,hat H3 (ad b)=some (vu p)/\
 R (vu p) H3))
 else
 ∃o,hat H1 (ad b)=some (vu o)/\
 R (vu (lf .u64 o 7)) H1
namespace bP
set_option maxRecDepth 100000 in
theorem link(h:pt b j a d i H R):C b j a d i H R:=by
 refine T_en K0 44 func28 ?_
 intro w0 Q hQ
 unfold pt zY at h
 refine T_su [(0,.agg #[vu b,vi j]),(1,vs a d i)]<|ar 0<|T_nw (some 2) (λe=>vp (pa e)) (.cells #[vu b,vi j] 55) ?_
 intro e H1 e1 e2
 replace h:=h e H1 e1 e2
 refine T_pd [0] [(2,vp (pa e))]<|T_ed 1 [] []<|T_sz<|ar 1<|T_nd 1 [] [(6,Vq ((ad e).add 1))] ?_
 obtain⟨x,q3,h⟩:=h
 refine T_l1 7 3 q3 [6]<|T_nd 2 [7] [(9,.bool (decide (x>0)))] ?_
 refine iT [(1,vs a d i),(2,vp (pa e)),(13,.bool ((decide (x>0)) && (decide ((d:Int)>0))))] ?_ ?_
 ·refine aE ?_
  by_cases c6:((decide (x>0)) && (decide ((d:Int)>0)))=true
  ·rw[if_pos c6]at h
   refine aI 13 c6<|ar 2<|T_n 2 [(1,vs a d i),(14,vs a d i),(15,Vq ((ad e).add 1))] ?_
   obtain⟨m,q8,h⟩:=h
   refine T_l1 16 3 q8 [15]<|T_nd 3 [1,16] [(17,vi (zY (m-1))),(19,vi d)] ?_
   obtain⟨q9,h⟩:=h
   refine T_v1 20 (binN .rem 3 (vi (zY (m-1))) (vi d)) (vi (Int.tmod (zY (m-1)) (d:Int))) (λw _=>tV (P:=prog) (t:=3) (k:=.i64) (x:=(zY (m-1))) (y:=(d:Int)) q9 w) [17,19] ?_
   obtain⟨l,rfl,q10,h⟩:=h
   refine T_ix (some 21) 29 40 1 l d i .i64 (Int.tmod (zY (m-1)) (d:Int)) underlying29 q10.1 q10.2 [(21,vp (some (l.add (Int.toNat (Int.tmod (zY (m-1)) (d:Int))*1))))] ?_
   obtain⟨s,q11,h⟩:=h
   exact T_l1 22 40 q11 [21]<|T_nr 1 [4] [vu s] hQ h
  rw[if_neg c6]at h
  refine aJ 13 (zZ c6)<|T_kt<|T_sz<|ar 3<|T_n 1 [(2,vp (pa e)),(23,vp (pa e))] ?_
  obtain⟨f,q12,h⟩:=h
  refine T_l1 24 40 q12 [23]<|T_ed 2 [24] [(5,vu (iand .u64 f 7))]<|ar 4<|T_nd 3 [] [(28,.bool ((iand .u64 f 7) !=0))] ?_
  by_cases c13:(iand .u64 f 7)=0
  ·rw[if_pos c13]at h
   refine N_bd 28 (bne_eq_false_iff_eq.mpr c13)<|T_nd 5 [5,28] [(32,VF),(33,vp (pa e))] ?_
   obtain⟨ab,q15,h⟩:=h
   refine T_l1 34 40 q15 [33]<|T_c (some 35) h ?_;clear h
   rintro v H2 ⟨n,ai,xA,xX,af,rfl,h⟩
   refine T_pd [34] [(35,.agg #[vi n,vi ai,vi xA,vi xX,vu af])]<|T_ed 3 [32,35] [(38,.bool (n==0))] ?_
   by_cases c16:n=0
   ·rw[if_pos c16]at h
    refine aI 38 (zK c16)<|ar 5<|T_n 1 [(39,vp (pa e))] ?_
    obtain⟨z,q18,h⟩:=h
    exact T_l1 40 40 q18 [39]<|T_nr 2 [4] [vu (lf .u64 z 7)] hQ h
   rw[if_neg c16]at h
   refine aJ 38 (zJ c16)<|T_kt<|ar 6<|T_n 1 [(42,vp (pa e))] ?_
   obtain⟨aa,q19,h⟩:=h
   exact T_l1 43 40 q19 [42]<|T_nr 1 [4] [vu aa] hQ h
  rw[if_neg c13]at h
  refine N_bd 28 (bne_iff_ne.mpr c13)<|T_nd 4 [5,28] [(32,.bool ((iand .u64 f 7) !=4))] ?_
  by_cases c20:(iand .u64 f 7)=4
  ·rw[if_pos c20]at h
   refine N_bd 32 (bne_eq_false_iff_eq.mpr c20)<|T_nd 1 [] [(33,vp (pa e))] ?_
   obtain⟨ac,q22,h⟩:=h
   refine T_l1 34 40 q22 [33]<|T_c (some 35) h ?_;clear h
   rintro aj H3 ⟨g,r,ag,ah,q,rfl,h⟩
   refine T_pd [34] [(35,.agg #[vi g,vi r,vi ag,vi ah,vu q])]<|T_ed 3 [32,35] [(38,.bool (g==0))] ?_
   by_cases c23:g=0
   ·rw[if_pos c23]at h
    refine aI 38 (zK c23)<|ar 5<|T_n 1 [(39,vp (pa e))] ?_
    obtain⟨u,q25,h⟩:=h
    exact T_l1 40 40 q25 [39]<|T_nr 2 [4] [vu (lf .u64 u 7)] hQ h
   rw[if_neg c23]at h
   refine aJ 38 (zJ c23)<|T_kt<|ar 6<|T_n 1 [(42,vp (pa e))] ?_
   obtain⟨p,q26,h⟩:=h
   exact T_l1 43 40 q26 [42]<|T_nr 1 [4] [vu p] hQ h
  rw[if_neg c20]at h
  refine N_bd 32 (bne_iff_ne.mpr c20)<|T_ed 6 [32] [(38,VT)]<|T_tz 38<|ar 5<|T_n 1 [(39,vp (pa e))] ?_
  obtain⟨o,q27,h⟩:=h
  exact T_l1 40 40 q27 [39]<|T_nr 2 [4] [vu (lf .u64 o 7)] hQ h
 intro hk
 refine T_nu [(1,vs a d i),(2,vp (pa e)),(9,.bool (decide (x>0)))] ?_
 by_cases c4:x>0
 ·have b5:(decide (x>0))=true:=zX c4
  refine bW [(1,vs a d i),(2,vp (pa e)),(9,VT)] (by rw[b5]) ?_
  refine T_nd 4 [9] [(13,.bool (decide ((d:Int)>0)))]<|zq<|S_bd 13 (b:=(decide ((d:Int)>0))) (v:=((decide (x>0)) && (decide ((d:Int)>0)))) (by simp only[b5,BL]) ?_
  exact hk
 have b5:(decide (x>0))=false:=zQ c4
 refine bW [(1,vs a d i),(2,vp (pa e)),(9,VF)] (by rw[b5]) ?_
 refine T_nd 4 [9] [(13,VF)]<|zq<|S_bd 13 (b:=false) (v:=((decide (x>0)) && (decide ((d:Int)>0)))) (by simp only[b5,BL]) ?_
 exact hk
end bP
/-! moraine/morainelaw11.words -/
namespace dO
def K0:=Func.code f62
def K2:=cb K0
def K4:=cb K2
def K5:=ca K4
def K8:=cb K5
def K9:=ca K8
def K10:=ca K9
end dO
def dO.pt(lB:zW)(lN lC:Nat)(f:zW)(d e:Nat)(H:zV)(R:zv):Prop:=
 ∃(n:zW->Nat->Nat->zw) (m11:zW->Nat->Nat->Int->zV->Nat),n none 0 0 0 H/\ ∀g outN outC i H1,n g outN outC i H1->
 if((decide (i< (lN:Int))) && (decide (i<62)))=true then(
 ∃j,lB=some j/\
 yZ i lN/\
 ∃xW m,aQ H1 (j.add (Int.toNat i*2)) 0 [vu xW,vi m]/\
 bP.C xW m f d e H1 (λv H2=> ∃x,v=vu x/\
 ∀b H3,b=H2.size->H3=H2.push (.cells #[vu x] 40)->
 bR 1 40 8 [vu 0] g outN outC (some (ad b)) 1 H3 (λap l H4=>
 (n ap (outN+1) l (zY (i+1)) H4/\m11 ap (outN+1) l (zY (i+1)) H4<m11 g outN outC i H1))))
 else
 R (vs g outN outC) H1
namespace dO
set_option maxRecDepth 100000 in
theorem link(h:pt a d i k o q H R):C a d i k o q H R:=by
 refine T_en K0 27 func62 ?_
 intro w0 Q hQ
 unfold pt zY at h
 refine T_su [(0,vs a d i),(1,vs k o q)]<|ar 0<|T_ed 1 [] []<|ar 1<|T_ed 1 [] [(5,VN)]<|T_sz<|ar 2<|T_ed 1 [] [(6,vi 0)]<|T_bz 0 ?_
 obtain⟨n,m11,i1,i2⟩:=h
 refine bL (x:=K10) (σ:=zW×Nat×Nat×Int) (λs_=> [(0,vs a d i),(1,vs k o q),(5,vs s_.1 s_.2.1 s_.2.2.1),(6,vi s_.2.2.2)]) (λs_ H=>n s_.1 s_.2.1 s_.2.2.1 s_.2.2.2 H) (λs_ H=>m11 s_.1 s_.2.1 s_.2.2.1 s_.2.2.2 H) ((none,0,0,0):zW×Nat×Nat×Int) (by kernel_rfl) i1 sk ?_
 rintro⟨g,outN,outC,e⟩ H1 i3
 have h:=i2 g outN outC e H1 i3
 refine T_su [(0,vs a d i),(1,vs k o q),(5,vs g outN outC),(6,vi e)]<|T_sz<|ar 3 ?_
 refine iT [(0,vs a d i),(1,vs k o q),(5,vs g outN outC),(6,vi e),(14,.bool ((decide (e< (d:Int))) && (decide (e<62))))] ?_ ?_
 ·refine aE ?_
  by_cases c6:((decide (e< (d:Int))) && (decide (e<62)))=true
  ·rw[if_pos c6]at h
   refine aI 14 c6<|T_kt<|T_sz<|T_bz 1<|T_rz 5<|T_n 3 [(0,vs a d i),(1,vs k o q),(6,vi e),(17,vs g outN outC),(18,vs a d i),(19,vi e)] ?_
   obtain⟨j,rfl,q8,h⟩:=h
   refine T_xd (some 20) 50 55 2 j d i .i64 e underlying50 q8.1 q8.2 [0,18,19] [(0,vs (some j) d i),(20,Vq (j.add (Int.toNat e*2)))] ?_
   obtain⟨xW,m,q9,h⟩:=h
   refine T_lr 21 55 q9 [20]<|T_nd 1 [] [(22,vs k o q)]<|T_c (some 23) h ?_;clear h
   rintro v H2 ⟨x,rfl,h⟩
   refine T_pd [21,22] [(23,vu x)]<|T_nw (some 24) (λb=>vs (pa b) 1 1) (.cells #[vu x] 40) ?_
   intro b H3 e10 e11
   replace h:=h b H3 e10 e11
   refine T_pd [23] [(24,vs (pa b) 1 1)]<|N_op (some 25) (cJ #[29,29] 29 #[vs g outN outC,vs (pa b) 1 1]) _ (λ_=>by kernel_rfl) (bQ (T:=40) (sz:=1) (bytes:=8) (zero:=(vu 0:Value)) underlying29 underlying29 rfl (show prog.info? 40=some t40 from by kernel_rfl) (by kernel_rfl) (by kernel_rfl) (by decide) (by kernel_rfl) (by first | exact h | (simpa only[Value.cells,List.toList_toArray]using h))) ?_;clear h
   rintro _ H4 ⟨ap,l,rfl,h⟩
   exact T_pd [17,24] [(25,vs ap (outN+1) l)]<|T_nd 1 [25] [(5,vs ap (outN+1) l)]<|zq<|aA<|aE<|T_rz 4<|T_ed 3 [6] [(6,vi (zY (e+1)))]<|aS ((ap,(outN+1),l,(zY (e+1))):zW×Nat×Nat×Int) sk h
  rw[if_neg c6]at h
  exact aJ 14 (zZ c6)<|zk 0<|aD<|aD<|aM<|aE<|ar 6<|T_nr 2 [4] [vs g outN outC] hQ h
 intro hk
 refine T_n 5 [(0,vs a d i),(1,vs k o q),(5,vs g outN outC),(6,vi e),(11,.bool (decide (e< (d:Int))))] ?_
 by_cases c4:e< (d:Int)
 ·have b5:(decide (e< (d:Int)))=true:=zX c4
  refine bW [(0,vs a d i),(1,vs k o q),(5,vs g outN outC),(6,vi e),(11,VT)] (by rw[b5]) ?_
  refine T_nd 3 [11] [(14,.bool (decide (e<62)))]<|zq<|S_bd 14 (b:=(decide (e<62))) (v:=((decide (e< (d:Int))) && (decide (e<62)))) (by simp only[b5,BL]) ?_
  exact hk
 have b5:(decide (e< (d:Int)))=false:=zQ c4
 refine bW [(0,vs a d i),(1,vs k o q),(5,vs g outN outC),(6,vi e),(11,VF)] (by rw[b5]) ?_
 refine T_nd 3 [11] [(14,VF)]<|zq<|S_bd 14 (b:=false) (v:=((decide (e< (d:Int))) && (decide (e<62)))) (by simp only[b5,BL]) ?_
 exact hk
end dO
/-! moraine/morainelaw11.kind -/
namespace eI
def K0:=Func.code f61
end eI
def eI.pt(nv:Int)(H:zV)(R:zv):Prop:=
 ∀b H1,b=H.size->H1=H.push (.cells #[vi 1,vi 5,vi 2] 3)->
 ((0:Int)<=(Int.tmod (iand .i64 nv 65535) 3)/\(Int.tmod (iand .i64 nv 65535) 3)< (3:Int))/\
 ∃x,hat H1 ((ad b).add (Int.toNat (Int.tmod (iand .i64 nv 65535) 3)*1))=some (vi x)/\
 R (vi x) H1
namespace eI
set_option maxRecDepth 100000 in
theorem link(h:pt b H R):C b H R:=by
 refine T_en K0 9 func61 ?_
 intro w0 Q hQ
 unfold pt at h
 refine T_su [(0,vi b)]<|ar 0<|T_ed 1 [] []<|ar 1<|T_nw (some 3) (λnv=>vs (pa nv) 3 3) (.cells #[vi 1,vi 5,vi 2] 3) ?_
 intro nv H1 e1 e2
 replace h:=h nv H1 e1 e2
 refine T_pd [] [(3,vs (pa nv) 3 3)]<|T_nd 3 [0] [(6,vi (Int.tmod (iand .i64 b 65535) 3))] ?_
 obtain⟨q3,h⟩:=h
 refine T_ix (some 7) 59 3 1 (ad nv) 3 3 .i64 (Int.tmod (iand .i64 b 65535) 3) underlying59 q3.1 q3.2 [(7,vp (some ((ad nv).add (Int.toNat (Int.tmod (iand .i64 b 65535) 3)*1))))] ?_
 obtain⟨x,q4,h⟩:=h
 exact T_l1 8 3 q4 [7]<|T_nr 1 [2] [vi x] hQ h
end eI
/-! moraine/morainelaw11.Set -/
namespace eU
def K0:=Func.code f63
end eU
def eU.pt(hv:zW)(wv nv v:Int)(H:zV)(R:zv):Prop:=
 fJ.C hv wv H (λaa H1=> ∃x,aa=.bool x/\
 if(x && ((iand .i64 (iand .i64 nv 65535) 1)==0))=true then(
 fR.C hv wv v H1 (λu H2=> ∃m,u=vi m/\
 R (vi m) H2))
 else
 fJ.C hv wv H1 (λz H3=> ∃e,z=.bool e/\
 if e=true then(
 fS.C hv wv v H3 (λq H4=> ∃l,q=vi l/\
 R (vi l) H4))
 else
 cP.C hv wv H3 (λac H5=> ∃g,ac=vi g/\
 if g=0 then(
 R (vi 3) H5)
 else
 cY.C hv wv H5 (λab H6=> ∃f,ab=vi f/\
 if f=0 then(
 R (vi 3) H6)
 else
 cP.C hv wv H6 (λae H7=> ∃i,ae=vi i/\
 if i=2 then(
 R (vi 3) H7)
 else
 cP.C hv wv H7 (λr H8=> ∃j,r=vi j/\
 if j=10 then(
 R (vi 3) H8)
 else
 cP.C hv wv H8 (λo H9=> ∃b,o=vi b/\
 cY.C hv wv H9 (λp s=> ∃a,p=vi a/\
 (a≠0)/\
 iN.C hv wv b (Int.tmod (iand .i64 nv 65535) a) v s (λn af=> ∃d,n=vi d/\
 R (vi d) af)))))))))
namespace eU
set_option maxRecDepth 100000 in
theorem link{wv nv v:Int}(h:pt a wv nv v H R):C a wv nv v H R:=by
 refine T_en K0 67 func63 ?_
 intro w0 Q hQ
 unfold pt at h
 refine T_su [(0,vp a),(1,vu wv),(2,vi nv),(3,vu v)]<|ar 0<|T_ed 1 [] []<|ar 1<|T_ed 3 [2] [(2,vi (iand .i64 nv 65535))]<|T_sz<|T_bz 0<|ar 2<|T_nd 2 [] [(12,vp a),(13,vu wv)]<|T_c (some 14) h ?_;clear h
 rintro aa H1 ⟨x,rfl,h⟩
 refine T_pd [12,13] [(14,.bool x)]<|T_nd 1 [14] [(15,.bool x)] ?_
 refine iT [(0,vp a),(1,vu wv),(2,vi (iand .i64 nv 65535)),(3,vu v),(11,.bool (x && ((iand .i64 (iand .i64 nv 65535) 1)==0)))] ?_ ?_
 ·refine aE ?_
  by_cases c3:(x && ((iand .i64 (iand .i64 nv 65535) 1)==0))=true
  ·rw[if_pos c3]at h
   refine aI 11 c3<|ar 3<|T_n 3 [(20,vp a),(21,vu wv),(22,vu v)]<|T_c (some 23) h ?_;clear h
   rintro u H2 ⟨m,rfl,h⟩
   refine⟨[(23,vi m)],pk,?_⟩
   exact T_nr 1 [8] [vi m] hQ h
  rw[if_neg c3]at h
  refine aJ 11 (zZ c3)<|ar 4<|T_n 2 [(0,vp a),(1,vu wv),(2,vi (iand .i64 nv 65535)),(3,vu v),(25,vp a),(26,vu wv)]<|T_c (some 27) h ?_;clear h
  rintro z H3 ⟨e,rfl,h⟩
  refine T_pd [25,26] [(27,.bool e)]<|T_ed 1 [27] [(24,.bool e)] ?_
  by_cases c5:e=true
  ·rw[if_pos c5]at h
   refine aI 24 c5<|ar 5<|T_n 3 [(28,vp a),(29,vu wv),(30,vu v)]<|T_c (some 31) h ?_;clear h
   rintro q H4 ⟨l,rfl,h⟩
   refine⟨[(31,vi l)],pk,?_⟩
   exact T_nr 1 [8] [vi l] hQ h
  rw[if_neg c5]at h
  refine aJ 24 (zZ c5)<|ar 6<|T_nd 2 [24] [(33,vp a),(34,vu wv)]<|T_c (some 35) h ?_;clear h
  rintro ac H5 ⟨g,rfl,h⟩
  refine T_pd [33,34] [(35,vi g)]<|T_nd 2 [35] [(37,.bool (g==0))] ?_
  by_cases c7:g=0
  ·rw[if_pos c7]at h
   exact N_bd 37 (zK c7)<|T_ed 18 [37] [(32,VT)]<|T_tz 32<|ar 7<|T_nr 1 [8] [vi 3] hQ h
  rw[if_neg c7]at h
  refine N_bd 37 (zJ c7)<|T_nd 2 [] [(38,vp a),(39,vu wv)] ?_
  refine T_c (some 40) h ?_;clear h
  rintro ab H6 ⟨f,rfl,h⟩
  refine T_pd [38,39] [(40,vi f)]<|T_nd 3 [37,40] [(43,.bool (f==0))] ?_
  by_cases c9:f=0
  ·rw[if_pos c9]at h
   exact N_bd 43 (zK c9)<|T_ed 12 [43] [(32,VT)]<|T_tz 32<|ar 7<|T_nr 1 [8] [vi 3] hQ h
  rw[if_neg c9]at h
  refine N_bd 43 (zJ c9)<|T_nd 2 [] [(44,vp a),(45,vu wv)] ?_
  refine T_c (some 46) h ?_;clear h
  rintro ae H7 ⟨i,rfl,h⟩
  refine T_pd [44,45] [(46,vi i)]<|T_nd 3 [43,46] [(49,.bool (i==2))] ?_
  by_cases c11:i=2
  ·rw[if_pos c11]at h
   exact N_bd 49 (zK c11)<|T_ed 6 [49] [(32,VT)]<|T_tz 32<|ar 7<|T_nr 1 [8] [vi 3] hQ h
  rw[if_neg c11]at h
  refine N_bd 49 (zJ c11)<|T_nd 2 [] [(50,vp a),(51,vu wv)] ?_
  refine T_c (some 52) h ?_;clear h
  rintro r H8 ⟨j,rfl,h⟩
  refine T_pd [50,51] [(52,vi j)]<|T_ed 3 [49,52] [(32,.bool (j==10))] ?_
  by_cases c13:j=10
  ·rw[if_pos c13]at h
   exact aI 32 (zK c13)<|ar 7<|T_nr 1 [8] [vi 3] hQ h
  rw[if_neg c13]at h
  refine aJ 32 (zJ c13)<|T_k<|aA<|aE<|ar 8<|T_nd 4 [32] [(55,vp a),(56,vu wv),(57,vp a),(58,vu wv)]<|T_c (some 59) h ?_;clear h
  rintro o H9 ⟨b,rfl,h⟩
  refine T_pd [57,58] [(59,vi b)]<|T_nd 3 [0,1,2] [(60,vi (iand .i64 nv 65535)),(61,vp a),(62,vu wv)]<|T_c (some 63) h ?_;clear h
  rintro p s ⟨hv,rfl,h⟩
  refine T_pd [61,62] [(63,vi hv)] ?_
  obtain⟨q15,h⟩:=h
  refine T_v1 64 (binN .rem 3 (vi (iand .i64 nv 65535)) (vi hv)) (vi (Int.tmod (iand .i64 nv 65535) hv)) (λw _=>tV (P:=prog) (t:=3) (k:=.i64) (x:=(iand .i64 nv 65535)) (y:=hv) q15 w) [60,63]<|T_nd 1 [3] [(65,vu v)]<|T_c (some 66) h ?_;clear h
  rintro n af ⟨d,rfl,h⟩
  refine⟨[(66,vi d)],pk,?_⟩
  exact T_nr 1 [8] [vi d] hQ h
 intro hk
 refine T_nu [(0,vp a),(1,vu wv),(2,vi (iand .i64 nv 65535)),(3,vu v),(15,.bool x)] ?_
 by_cases c1:x=true
 ·have b2:x=true:=c1
  refine bW [(0,vp a),(1,vu wv),(2,vi (iand .i64 nv 65535)),(3,vu v),(15,VT)] (by rw[b2]) ?_
  refine T_nd 5 [15] [(11,.bool ((iand .i64 (iand .i64 nv 65535) 1)==0))]<|zq<|S_bd 11 (b:=((iand .i64 (iand .i64 nv 65535) 1)==0)) (v:=(x && ((iand .i64 (iand .i64 nv 65535) 1)==0))) (by simp only[b2,BL]) ?_
  exact hk
 have b2:x=false:=zZ c1
 refine bW [(0,vp a),(1,vu wv),(2,vi (iand .i64 nv 65535)),(3,vu v),(15,VF)] (by rw[b2]) ?_
 refine T_nd 5 [15] [(11,VF)]<|zq<|S_bd 11 (b:=false) (v:=(x && ((iand .i64 (iand .i64 nv 65535) 1)==0))) (by simp only[b2,BL]) ?_
 exact hk
end eU
/-! moraine/morainelaw11.Made -/
namespace dF
def K0:=Func.code f27
def K2:=cb K0
def K3:=ca K2
def K4:=cb K2
def K6:=cb K4
def K8:=cb K6
def K9:=ca K8
def K12:=cb K9
def K13:=ca K12
def K15:=cb K13
def K17:=cb K15
def K27:=cb K17
def K29:=cb K27
def K31:=cb K29
def K32:=ca K31
end dF
def dF.pt(hv:zW)(ay y xN av af aw ae:Int)(az:zW)(a0 ax:Nat)(e:zW)(a d:Nat)(H:zV)(R:zv):Prop:=
 ∀b H1,b=H.size->H1=H.push (.cells #[vi ay,vi y,vi xN,vu av,vi af,vu aw,vi ae,vs az a0 ax] 57)->
 ∃xW r,aQ H1 ((ad b).add 3) 0 [vu xW,vi r]/\
 ∃n k,aQ H1 ((ad b).add 5) 0 [vu n,vi k]/\
 bP.C xW r e a d H1 (λv H2=> ∃x,v=vu x/\aQ H2 ((ad b).add 5) 0 [vu n,vi k]/\
 bP.C n k e a d H2 (λba H3=> ∃g,ba=vu g/\
 ∃f,hat H3 (ad b)=some (vi f)/\
 if f=0 then(
 fY.C hv x g H3 (λa8 H4=> ∃ra rb,a8=.tuple #[vu ra,vi rb]/\
 if rb=0 then(
 ∀al H5,al=H4.size->H5=H4.push (.cells #[vu ra] 40)->
 bR 1 40 8 [vu 0] e a d (some (ad al)) 1 H5 (λap ak H6=>
 R (vs ap (a+1) ak) H6))
 else
 R (vs e a d) H4))
 else
 if f=1 then(
 fZ.C hv x g H3 (λa9 H7=> ∃l q,a9=.tuple #[vu l,vi q]/\
 if q=0 then(
 ∀aq H8,aq=H7.size->H8=H7.push (.cells #[vu l] 40)->
 bR 1 40 8 [vu 0] e a d (some (ad aq)) 1 H8 (λab u H9=>
 R (vs ab (a+1) u) H9))
 else
 R (vs e a d) H7))
 else
 if f=2 then(
 ∃z,hat H3 ((ad b).add 1)=some (vi z)/\
 ∃xB m xC,hat H3 ((ad b).add 7)=some (vs xB m xC)/\
 eI.C z H3 (λa4 a3=> ∃ao,a4=vi ao/\aQ a3 ((ad b).add 7) 0 [vs xB m xC]/\
 dO.C xB m xC e a d a3 (λbc bf=> ∃ah ag aj,bc=vs ah ag aj/\
 gt.C hv ao 0 ah ag aj bf (λbb a2=> ∃i j,bb=.tuple #[vu i,vi j]/\
 if j=0 then(
 ∀am H13,am=a2.size->H13=a2.push (.cells #[vu i] 40)->
 bR 1 40 8 [vu 0] e a d (some (ad am)) 1 H13 (λaa s a6=>
 R (vs aa (a+1) s) a6))
 else
 R (vs e a d) a2))))
 else
 if f=3 then(
 ∃ai,hat H3 ((ad b).add 2)=some (vi ai)/\
 eU.C hv x ai g H3 (λbe a7=> ∃bd,be=vi bd/\
 R (vs e a d) a7))
 else
 if f=4 then(
 ∀an H16,an=H3.size->H16=H3.push (.cells #[vu 20,vu 20] 40)->
 gt.C hv 10 0 (some (ad an)) 2 2 H16 (λa5 a1=> ∃o p,a5=.tuple #[vu o,vi p]/\
 if p=0 then(
 ∀au H18,au=a1.size->H18=a1.push (.cells #[vu o] 40)->
 bR 1 40 8 [vu 0] e a d (some (ad au)) 1 H18 (λac t bg=>
 R (vs ac (a+1) t) bg))
 else
 R (vs e a d) a1))
 else
 R (vs e a d) H3))
namespace dF
set_option maxRecDepth 100000 in
theorem link{av af aw ae:Int}{e:zW}(h:pt a b j r av af aw ae k d i e o q H R):C a b j r av af aw ae k d i e o q H R:=by
 refine T_en K0 76 func27 ?_
 intro w0 Q hQ
 unfold pt at h
 refine T_su [(0,vp a),(1,.agg #[vi b,vi j,vi r,vu av,vi af,vu aw,vi ae,vs k d i]),(2,vs e o q)]<|ar 0<|T_nw (some 4) (λax=>vp (pa ax)) (.cells #[vi b,vi j,vi r,vu av,vi af,vu aw,vi ae,vs k d i] 57) ?_
 intro ax H1 e1 e2
 replace h:=h ax H1 e1 e2
 refine T_pd [1] [(4,vp (pa ax))]<|T_ed 1 [] []<|T_sz ?_
 obtain⟨xW,hv,q3,n,xN,q4,h⟩:=h
 refine yq 1 (Code.ops K3) [(3,((ad ax).add 3),[vu xW,vi hv]),(7,((ad ax).add 5),[vu n,vi xN])] 10 (bv 10 0) (show aF _ _ _ from⟨q3,q4,trivial⟩)<|T_gp 0 (some 11) (Vq ((ad ax).add 3)) (bv 10 1) [(0,vp a),(2,vs e o q),(4,vp (pa ax)),(11,Vq ((ad ax).add 3))]<|T_g1 1 12 (.agg #[vu xW,vi hv]) (bv 10 3) [11] (aU 55 (Vq ((ad ax).add 3))) (lz 3 (λ_=>by kernel_rfl) (λ_=>by kernel_rfl) yX (.inl (by kernel_rfl)))<|aL 2 13 (vs e o q) (bv 10 7) []<|aL 4 15 (Vq ((ad ax).add 5)) (bv 10 23) []<|T_g1 5 16 (.agg #[vu n,vi xN]) (bv 10 55) [15] (aU 55 (Vq ((ad ax).add 5))) (lz 7 (λ_=>by kernel_rfl) (λ_=>by kernel_rfl) yQ (.inl (by kernel_rfl)))<|aL 6 17 (vs e o q) (bv 10 119) []<|yx 3 (some 14) (bv 10 127) 28 #[.agg #[vu xW,vi hv],vs e o q] h ?_;clear h
 rintro v H2 ⟨x,rfl,f5,h⟩
 refine⟨[(0,vp a),(2,vs e o q),(4,vp (pa ax)),(14,vu x),(16,.agg #[vu n,vi xN]),(17,vs e o q)],pk,(show aF _ _ _ from⟨trivial,f5,trivial⟩),?_⟩
 refine yx 7 (some 18) (bv 10 255) 28 #[.agg #[vu n,vi xN],vs e o q] h ?_;clear h
 rintro ba H3 ⟨g,rfl,h⟩
 refine⟨[(0,vp a),(2,vs e o q),(4,vp (pa ax)),(14,vu x),(18,vu g)],pk,(show aF _ _ _ from⟨trivial,trivial,trivial⟩),?_⟩
 refine T_g 8 (some 7) (vu x) (bv 10 511) [(0,vp a),(2,vs e o q),(4,vp (pa ax)),(7,vu x),(18,vu g)] (pure (.value (vu x)):Sem Next) (λ_ _ _ _ _=>rfl)<|T_g1 9 8 (vu g) (bv 10 1023) [18] (pure (.value (vu g)):Sem Next) (λ_ _ _ _ _=>rfl)<|fU [(0,vp a),(2,vs e o q),(4,vp (pa ax)),(7,vu x),(8,vu g)] sk<|yz<|aE<|ar 2<|T_ne 1 [(0,vp a),(2,vs e o q),(4,vp (pa ax)),(7,vu x),(8,vu g),(9,vu 0)]<|ar 3<|T_ed 1 [] [(10,vi 1)]<|T_sz<|ar 4<|T_nd 1 [] [(19,vp (pa ax))] ?_
 obtain⟨f,q6,h⟩:=h
 refine T_l1 20 3 q6 [19]<|T_e<|T_bz 0<|ar 5<|T_ed 2 [] [(21,.bool (f==0))] ?_
 by_cases c7:f=0
 ·rw[if_pos c7]at h
  refine aI 21 (zK c7)<|T_rz 6<|T_n 3 [(2,vs e o q),(24,vp a),(25,vu x),(26,vu g)]<|T_c (some 27) h ?_;clear h
  rintro a8 H4 ⟨ra,rb,rfl,h⟩
  refine⟨[(2,vs e o q),(27,.tuple #[vu ra,vi rb])],pk,?_⟩
  refine T_nd 5 [27] [(9,vu ra),(10,vi rb)]<|zq<|aA<|aE<|T_sz<|ar 15<|T_ed 2 [10] [(70,.bool (rb==0))] ?_
  by_cases c9:rb=0
  ·rw[if_pos c9]at h
   refine aI 70 (zK c9)<|T_rz 16<|T_n 2 [(71,vs e o q),(72,vu ra)]<|T_nw (some 73) (λax=>vs (pa ax) 1 1) (.cells #[vu ra] 40) ?_
   intro al H5 e11 e12
   replace h:=h al H5 e11 e12
   refine T_pd [72] [(73,vs (pa al) 1 1)]<|N_op (some 74) (cJ #[29,29] 29 #[vs e o q,vs (pa al) 1 1]) _ (λ_=>by kernel_rfl) (bQ (T:=40) (sz:=1) (bytes:=8) (zero:=(vu 0:Value)) underlying29 underlying29 rfl (show prog.info? 40=some t40 from by kernel_rfl) (by kernel_rfl) (by kernel_rfl) (by decide) (by kernel_rfl) (by first | exact h | (simpa only[Value.cells,List.toList_toArray]using h))) ?_;clear h
   rintro _ H6 ⟨ap,ak,rfl,h⟩
   refine⟨[(74,vs ap (o+1) ak)],pk,?_⟩
   exact T_ne 1 [(2,vs ap (o+1) ak)]<|ar 17<|T_nr 2 [6] [vs ap (o+1) ak] hQ h
  rw[if_neg c9]at h
  exact aJ 70 (zJ c9)<|T_kt<|ar 17<|T_nr 2 [6] [vs e o q] hQ h
 rw[if_neg c7]at h
 refine aJ 21 (zJ c7)<|ar 7<|T_ed 2 [21] [(30,.bool (f==1))] ?_
 by_cases c13:f=1
 ·rw[if_pos c13]at h
  refine aI 30 (zK c13)<|T_rz 8<|T_n 3 [(2,vs e o q),(33,vp a),(34,vu x),(35,vu g)]<|T_c (some 36) h ?_;clear h
  rintro a9 H7 ⟨l,ay,rfl,h⟩
  refine⟨[(2,vs e o q),(36,.tuple #[vu l,vi ay])],pk,?_⟩
  refine T_nd 5 [36] [(9,vu l),(10,vi ay)]<|zq<|aA<|aE<|T_sz<|ar 15<|T_ed 2 [10] [(70,.bool (ay==0))] ?_
  by_cases c15:ay=0
  ·rw[if_pos c15]at h
   refine aI 70 (zK c15)<|T_rz 16<|T_n 2 [(71,vs e o q),(72,vu l)]<|T_nw (some 73) (λax=>vs (pa ax) 1 1) (.cells #[vu l] 40) ?_
   intro aq H8 e17 e18
   replace h:=h aq H8 e17 e18
   refine T_pd [72] [(73,vs (pa aq) 1 1)]<|N_op (some 74) (cJ #[29,29] 29 #[vs e o q,vs (pa aq) 1 1]) _ (λ_=>by kernel_rfl) (bQ (T:=40) (sz:=1) (bytes:=8) (zero:=(vu 0:Value)) underlying29 underlying29 rfl (show prog.info? 40=some t40 from by kernel_rfl) (by kernel_rfl) (by kernel_rfl) (by decide) (by kernel_rfl) (by first | exact h | (simpa only[Value.cells,List.toList_toArray]using h))) ?_;clear h
   rintro _ H9 ⟨ab,u,rfl,h⟩
   refine⟨[(74,vs ab (o+1) u)],pk,?_⟩
   exact T_ne 1 [(2,vs ab (o+1) u)]<|ar 17<|T_nr 2 [6] [vs ab (o+1) u] hQ h
  rw[if_neg c15]at h
  exact aJ 70 (zJ c15)<|T_kt<|ar 17<|T_nr 2 [6] [vs e o q] hQ h
 rw[if_neg c13]at h
 refine aJ 30 (zJ c13)<|ar 9<|T_ed 2 [30] [(39,.bool (f==2))] ?_
 by_cases c19:f=2
 ·rw[if_pos c19]at h
  refine aI 39 (zK c19) ?_
  obtain⟨z,q21,xB,m,xC,q22,h⟩:=h
  refine yq 10 (Code.ops K32) [(3,((ad ax).add 1),[vi z]),(7,((ad ax).add 7),[vs xB m xC])] 14 (bv 14 0) (show aF _ _ _ from⟨⟨q21,trivial⟩,⟨q22,trivial⟩,trivial⟩)<|T_gp 0 (some 42) (vp a) (bv 14 1) [(2,vs e o q),(4,vp (pa ax)),(9,vu 0),(10,vi 1),(42,vp a)]<|aL 1 43 (Vq ((ad ax).add 1)) (bv 14 3) []<|T_g1 2 44 (vi z) (bv 14 7) [43] (aU 3 (Vq ((ad ax).add 1))) (yY 3 yX)<|aL 4 46 (Vq ((ad ax).add 7)) (bv 14 23) [4]<|T_g1 5 47 (vs xB m xC) (bv 14 55) [46] (aU 50 (Vq ((ad ax).add 7))) (yY 7 yQ)<|aL 6 48 (vs e o q) (bv 14 119) []<|yx 3 (some 45) (bv 14 127) 61 #[vi z] h ?_;clear h
  rintro a4 a3 ⟨ao,rfl,f23,h⟩
  refine⟨[(2,vs e o q),(9,vu 0),(10,vi 1),(42,vp a),(45,vi ao),(47,vs xB m xC),(48,vs e o q)],pk,(show aF _ _ _ from⟨trivial,f23,trivial⟩),?_⟩
  refine yx 7 (some 49) (bv 14 255) 62 #[vs xB m xC,vs e o q] h ?_;clear h
  rintro bc bf ⟨ah,ag,aj,rfl,h⟩
  refine⟨[(2,vs e o q),(9,vu 0),(10,vi 1),(42,vp a),(45,vi ao),(49,vs ah ag aj)],pk,(show aF _ _ _ from⟨trivial,trivial,trivial⟩),?_⟩
  refine yx 8 (some 50) (bv 14 511) 60 #[vp a,vi ao,vu 0,vs ah ag aj] h ?_;clear h
  rintro bb a2 ⟨a0,az,rfl,h⟩
  refine⟨[(2,vs e o q),(9,vu 0),(10,vi 1),(50,.tuple #[vu a0,vi az])],pk,(show aF _ _ _ from⟨trivial,trivial,trivial⟩),?_⟩
  refine T_g 9 (some 41) (.tuple #[vu a0,vi az]) (bv 14 1023) [(2,vs e o q),(9,vu 0),(10,vi 1),(41,.tuple #[vu a0,vi az])] (pure (.value (.tuple #[vu a0,vi az])):Sem Next) (λ_ _ _ _ _=>rfl)<|T_g1 10 51 (vu a0) (bv 14 2047) [] (pure (.value (vu a0)):Sem Next) (λ_ _ _ _ _=>rfl)<|T_g1 11 52 (vi az) (bv 14 4095) [41] (pure (.value (vi az)):Sem Next) (λ_ _ _ _ _=>rfl)<|T_g1 12 9 (vu a0) (bv 14 8191) [9,51] (pure (.value (vu a0)):Sem Next) (λ_ _ _ _ _=>rfl)<|T_g1 13 10 (vi az) (bv 14 16383) [10,52] (pure (.value (vi az)):Sem Next) (λ_ _ _ _ _=>rfl)<|fU [(2,vs e o q),(9,vu a0),(10,vi az)] sk<|yz<|aA<|aE<|T_sz<|ar 15<|T_ne 2 [(2,vs e o q),(9,vu a0),(70,.bool (az==0))] ?_
  by_cases c24:az=0
  ·rw[if_pos c24]at h
   refine aI 70 (zK c24)<|T_rz 16<|T_n 2 [(71,vs e o q),(72,vu a0)]<|T_nw (some 73) (λax=>vs (pa ax) 1 1) (.cells #[vu a0] 40) ?_
   intro am H13 e26 e27
   replace h:=h am H13 e26 e27
   refine T_pd [72] [(73,vs (pa am) 1 1)]<|N_op (some 74) (cJ #[29,29] 29 #[vs e o q,vs (pa am) 1 1]) _ (λ_=>by kernel_rfl) (bQ (T:=40) (sz:=1) (bytes:=8) (zero:=(vu 0:Value)) underlying29 underlying29 rfl (show prog.info? 40=some t40 from by kernel_rfl) (by kernel_rfl) (by kernel_rfl) (by decide) (by kernel_rfl) (by first | exact h | (simpa only[Value.cells,List.toList_toArray]using h))) ?_;clear h
   rintro _ a6 ⟨aa,s,rfl,h⟩
   refine⟨[(74,vs aa (o+1) s)],pk,?_⟩
   exact T_ne 1 [(2,vs aa (o+1) s)]<|ar 17<|T_nr 2 [6] [vs aa (o+1) s] hQ h
  rw[if_neg c24]at h
  exact aJ 70 (zJ c24)<|T_kt<|ar 17<|T_nr 2 [6] [vs e o q] hQ h
 rw[if_neg c19]at h
 refine aJ 39 (zJ c19)<|ar 11<|T_ed 2 [39] [(53,.bool (f==3))] ?_
 by_cases c28:f=3
 ·rw[if_pos c28]at h
  refine aI 53 (zK c28)<|T_rz 12<|T_nd 3 [0,4,7,20,53] [(55,vp a),(56,vu x),(57,Vq ((ad ax).add 2))] ?_
  obtain⟨ai,q30,h⟩:=h
  refine T_l1 58 3 q30 [57]<|T_nd 1 [8] [(59,vu g)]<|T_c (some 60) h ?_;clear h
  rintro be a7 ⟨bd,rfl,h⟩
  exact T_pd [55,56,58,59] []<|zq<|aA<|aE<|T_sz<|ar 15<|T_ed 2 [10] [(70,VF)]<|T_fz 70<|T_kt<|ar 17<|T_nr 2 [6] [vs e o q] hQ h
 rw[if_neg c28]at h
 refine aJ 53 (zJ c28)<|ar 13<|T_ed 2 [4,7,8,20,53] [(61,.bool (f==4))] ?_
 by_cases c31:f=4
 ·rw[if_pos c31]at h
  refine aI 61 (zK c31)<|T_rz 14<|T_n 1 [(2,vs e o q),(64,vp a)]<|T_nw (some 65) (λax=>vs (pa ax) 2 2) (.cells #[vu 20,vu 20] 40) ?_
  intro an H16 e33 e34
  replace h:=h an H16 e33 e34
  refine T_pd [] [(65,vs (pa an) 2 2)]<|T_c (some 66) h ?_;clear h
  rintro a5 a1 ⟨y,p,rfl,h⟩
  refine T_pd [64,65] [(66,.tuple #[vu y,vi p])]<|T_nd 5 [66] [(9,vu y),(10,vi p)]<|zq<|aA<|aE<|T_sz<|ar 15<|T_ed 2 [10] [(70,.bool (p==0))] ?_
  by_cases c35:p=0
  ·rw[if_pos c35]at h
   refine aI 70 (zK c35)<|T_rz 16<|T_n 2 [(71,vs e o q),(72,vu y)]<|T_nw (some 73) (λax=>vs (pa ax) 1 1) (.cells #[vu y] 40) ?_
   intro au H18 e37 e38
   replace h:=h au H18 e37 e38
   refine T_pd [72] [(73,vs (pa au) 1 1)]<|N_op (some 74) (cJ #[29,29] 29 #[vs e o q,vs (pa au) 1 1]) _ (λ_=>by kernel_rfl) (bQ (T:=40) (sz:=1) (bytes:=8) (zero:=(vu 0:Value)) underlying29 underlying29 rfl (show prog.info? 40=some t40 from by kernel_rfl) (by kernel_rfl) (by kernel_rfl) (by decide) (by kernel_rfl) (by first | exact h | (simpa only[Value.cells,List.toList_toArray]using h))) ?_;clear h
   rintro _ bg ⟨ac,t,rfl,h⟩
   refine⟨[(74,vs ac (o+1) t)],pk,?_⟩
   exact T_ne 1 [(2,vs ac (o+1) t)]<|ar 17<|T_nr 2 [6] [vs ac (o+1) t] hQ h
  rw[if_neg c35]at h
  exact aJ 70 (zJ c35)<|T_kt<|ar 17<|T_nr 2 [6] [vs e o q] hQ h
 rw[if_neg c31]at h
 exact aJ 61 (zJ c31)<|T_k<|aA<|aE<|T_sz<|ar 15<|T_ed 2 [0,10,61] [(70,VF)]<|T_fz 70<|T_kt<|ar 17<|T_nr 2 [6] [vs e o q] hQ h
end dF
/-! moraine/gc.Collect -/
namespace iV
def K0:=Func.code f14
def K2:=cb K0
def K4:=cb K2
def K12:=cb K4
def K14:=cb K12
def K20:=cb K14
def K21:=ca K20
def K24:=cb K21
def K25:=ca K24
def K26:=ca K25
end iV
def iV.pt(hv:zW)(g n:Int)(j:zW)(b d:Nat)(H:zV)(R:zv):Prop:=
 fE hv (
 R (vi 1) H) (λe=>
 ln.C (some e) H (λv H1=> ∃x,v=vi x/\
 jp.C (some e) g n x H1 (λal H2=> ∃ra rb,al=.tuple #[vp ra,vi rb]/\
 if rb=0 then(
 ∃(af:zw) (m27:Int->zV->Nat),af 0 H2/\ ∀m H3,af m H3->
 if m< (b:Int)then(
 ∃l,j=some l/\
 yZ m b/\
 ∃z,hat H3 (l.add (Int.toNat m*1))=some (vp z)/\
 fE z (
 (af (zY (m+1)) H3/\m27 (zY (m+1)) H3<m27 m H3)) (λo=>
 ∃ag,hat H3 o=some (vu ag)/\
 bI.C ra ag H3 (λak H4=> ∃ae,ak=vu ae/\
 (aK H4 o 0 1)/\ ∀H5,H5=aR H4 o [vu ae] 0->
 (af (zY (m+1)) H5/\m27 (zY (m+1)) H5<m27 m H3))))
 else
 eF.C ra H3 (λ_ H6=>
 dH.C ra H6 (λ_ H7=>
 ∃xB xN xC,hat H7 (e.add 2)=some (vs xB xN xC)/\
 jq.C ra xB xN xC H7 (λan H8=> ∃r y u,an=vs r y u/\
 (aK H8 (e.add 2) 0 1)/\ ∀H9,H9=aR H8 (e.add 2) [vs r y u] 0->
 jr.C ra H9 (λ_ aj=>
 ∃ac aa ab,hat aj (e.add 1)=some (vs ac aa ab)/\
 jM.C ra ac aa ab aj (λao ai=> ∃p s q,ao=vs p s q/\
 (aK ai (e.add 1) 0 1)/\ ∀ah,ah=aR ai (e.add 1) [vs p s q] 0->
 dQ.CD ra ah (λam=>
 R (vi 0) am)))))))
 else
 R (vi rb) H2)))
namespace iV
theorem link(h:pt a b j k d i H R):C a b j k d i H R:=by
 refine T_en K0 68 func14 ?_
 intro w0 Q hQ
 unfold pt zY at h
 refine T_su [(0,vp a),(1,vi b),(2,vi j),(3,vs k d i)]<|ar 0<|T_ed 1 [] []<|T_sz<|ar 1<|T_nd 1 [] [(13,vp a)] ?_
 rcases a with _ | e
 ·rw[onPtr_none]at h
  exact T_ed 1 [0,13] [(0,vp none),(14,VT)]<|T_tz 14<|ar 2<|T_nr 1 [8] [vi 1] hQ h
 rw[onPtr_some]at h
 refine T_ed 1 [0,13] [(0,Vq e),(14,VF)]<|T_fz 14<|T_kt<|ar 3<|T_nd 4 [1,2,14] [(16,Vq e),(17,vi b),(18,vi j),(19,Vq e)]<|T_c (some 20) h ?_;clear h
 rintro v H1 ⟨x,rfl,h⟩
 refine T_pd [19] [(20,vi x)]<|T_c (some 21) h ?_;clear h
 rintro al H2 ⟨ra,rb,rfl,h⟩
 refine T_pd [16,17,18,20] [(21,.tuple #[vp ra,vi rb])]<|T_ed 5 [21] [(9,vp ra),(10,vi rb)]<|T_sz<|ar 4<|T_ed 2 [] [(25,.bool (rb !=0))] ?_
 by_cases c1:rb=0
 ·rw[if_pos c1]at h
  refine aJ 25 (bne_eq_false_iff_eq.mpr c1)<|T_kt<|ar 6<|T_nd 1 [10,25] [(27,vp ra)]<|we none 36 #[vp ra] (λ_=>by kernel_rfl) [(0,Vq e),(3,vs k d i),(9,vp ra)] pk<|T_e<|T_sz<|ar 7<|T_ne 3 [(0,Vq e),(9,vp ra),(28,vs k d i),(29,vi d),(30,vi 0)]<|T_bz 0 ?_
  obtain⟨af,m27,i3,i4⟩:=h
  refine bL (x:=K26) (σ:=Int) (λs_=> [(0,Vq e),(9,vp ra),(28,vs k d i),(29,vi d),(30,vi s_)]) (λs_ H=>af s_ H) (λs_ H=>m27 s_ H) (0:Int) (by kernel_rfl) i3 sk ?_
  rintro m H3 i5
  have h:=i4 m H3 i5
  refine T_su [(0,Vq e),(9,vp ra),(28,vs k d i),(29,vi d),(30,vi m)]<|ar 8<|T_ed 1 [] [(31,.bool (decide (m< (d:Int))))]<|T_sz ?_
  by_cases c6:m< (d:Int)
  ·rw[if_pos c6]at h
   refine aI 31 (zX c6)<|T_kt<|T_sz<|T_bz 1<|ar 9<|T_ud [31] [] ?_
   obtain⟨l,rfl,q8,h⟩:=h
   refine T_xd (some 32) 38 39 1 l d i .i64 m underlying38 q8.1 q8.2 [28] [(28,vs (some l) d i),(32,Vq (l.add (Int.toNat m*1)))] ?_
   obtain⟨z,q9,h⟩:=h
   refine T_l1 33 39 q9 [32]<|T_ed 1 [33] [(12,vp z)]<|ar 10<|T_nd 1 [] [(34,vp z)] ?_
   rcases z with _ | o
   ·rw[onPtr_none]at h
    exact T_ed 1 [12,34] [(12,vp none),(35,VF)]<|T_fz 35<|T_k<|aA<|aE<|T_rz 12<|T_ed 2 [12,30,35] [(30,vi (zY (m+1)))]<|aS ((zY (m+1)):Int) sk h
   rw[onPtr_some]at h
   refine T_ed 1 [12,34] [(12,Vq o),(35,VT)]<|T_tz 35<|T_rz 11<|T_nd 4 [12,35] [(36,Vq o),(37,vp ra),(39,Vq o)] ?_
   obtain⟨ag,q10,h⟩:=h
   refine T_l1 40 40 q10 [39]<|T_c (some 41) h ?_;clear h
   rintro ak H4 ⟨ae,rfl,h⟩
   refine T_pd [37,40] [(41,vu ae)]<|T_nd 1 [36] [(42,Vq o)] ?_
   obtain⟨q12,h⟩:=h
   refine fH 40 (vu ae) q12 ?_
   intro H5 e11
   replace h:=h H5 e11
   exact T_pd [41,42] []<|zq<|aA<|aE<|T_rz 12<|T_ed 2 [30] [(30,vi (zY (m+1)))]<|aS ((zY (m+1)):Int) sk h
  rw[if_neg c6]at h
  refine aJ 31 (zQ c6)<|zk 0<|aD<|aD<|aM<|aE<|ar 13<|T_nd 1 [28,29,30,31] [(44,vp ra)]<|T_c (some 45) h ?_;clear h
  intro v_4 H6 h
  refine T_pd [44] []<|T_e<|ar 14<|T_nd 1 [] [(46,vp ra)]<|T_c (some 47) h ?_;clear h
  intro v_5 H7 h
  refine T_pd [46] []<|T_e<|ar 15<|T_nd 5 [] [(48,Vq e),(49,vp ra),(52,Vq (e.add 2))] ?_
  obtain⟨xB,xN,xC,q13,h⟩:=h
  refine T_l1 53 34 q13 [52]<|T_c (some 54) h ?_;clear h
  rintro an H8 ⟨r,y,u,rfl,h⟩
  refine T_pd [49,53] [(54,vs r y u)]<|T_nd 2 [48] [(56,Vq (e.add 2))] ?_
  obtain⟨q15,h⟩:=h
  refine fH 34 (vs r y u) q15 ?_
  intro H9 e14
  replace h:=h H9 e14
  refine T_pd [54,56] []<|T_e<|ar 16<|T_nd 1 [] [(57,vp ra)]<|T_c (some 58) h ?_;clear h
  intro v_7 aj h
  refine T_pd [57] []<|T_e<|ar 17<|T_n 5 [(59,Vq e),(60,vp ra),(63,Vq (e.add 1))] ?_
  obtain⟨ac,aa,ab,q16,h⟩:=h
  refine T_l1 64 29 q16 [63]<|T_c (some 65) h ?_;clear h
  rintro ao ai ⟨p,s,q,rfl,h⟩
  refine T_pd [60,64] [(65,vs p s q)]<|T_nd 2 [59] [(67,Vq (e.add 1))] ?_
  obtain⟨q18,h⟩:=h
  refine fH 29 (vs p s q) q18 ?_
  intro ah e17
  replace h:=h ah e17
  refine⟨[],pk,?_⟩
  refine T_e<|ar 18<|T_ne 1 [(8,vi 0)]<|zx ?_
  show At _ _ _ _ _ (Q .ret)
  refine wh (f:=36) (args:= #[vp ra]) (enters_of func36 (by kernel_rfl) rfl) hQ (HD.mono (h) (λam h=>?_))
  exact⟨[vi 0],(show cG _ _ _ [.tmp 8] _ from .tmp (by kernel_rfl) (.nil)),h⟩
 rw[if_neg c1]at h
 exact aI 25 (bne_iff_ne.mpr c1)<|ar 5<|T_nr 2 [8] [vi rb] hQ h
end iV
/-! moraine/gc.more -/
namespace ln
def K0:=Func.code f35
end ln
def ln.pt(hv:zW)(H:zV)(R:zv):Prop:=
 ∃a,hv=some a/\
 ∃xB xN xC,hat H (a.add 2)=some (vs xB xN xC)/\
 R (vi (zY ((zY (Int.tdiv (xN:Int) 32))+1))) H
namespace ln
theorem link(h:pt a H R):C a H R:=by
 refine T_en K0 10 func35 ?_
 intro w0 Q hQ
 unfold pt zY at h
 refine T_su [(0,vp a)]<|ar 0<|T_ed 1 [] []<|ar 1<|T_n 1 [(3,vp a)] ?_
 obtain⟨hv,rfl,h⟩:=h
 refine T_n 2 [(5,Vq (hv.add 2))] ?_
 obtain⟨xB,xN,xC,q1,h⟩:=h
 exact T_l1 6 34 q1 [5]<|T_nr 4 [2] [vi (zY ((zY (Int.tdiv (xN:Int) 32))+1))] hQ h
end ln
/-! moraine/audit.Same -/
namespace jL
def K0:=Func.code f9
end jL
def jL.pt(aB:zW)(aN aC:Nat)(bB:zW)(bN bC:Nat)(H:zV)(R:zv):Prop:=
 aT.C aB aN aC bB bN bC (.func (.func 24) #[] #[]) H (λv H1=> ∃x,v=.bool x/\
 R (.bool x) H1)
namespace jL
theorem link(h:pt a d i k o q H R):C a d i k o q H R:=by
 refine T_en K0 8 func9 ?_
 intro w0 Q hQ
 unfold pt at h
 refine T_su [(0,vs a d i),(1,vs k o q)]<|ar 0<|T_ed 1 [] []<|ar 1<|T_n 2 [(5,vs a d i),(6,vs k o q)]<|T_c (some 7) h ?_;clear h
 rintro v H1 ⟨x,rfl,h⟩
 refine⟨[(7,.bool x)],pk,?_⟩
 exact T_nr 1 [4] [.bool x] hQ h
end jL
/-! moraine/audit.Live -/
namespace gQ
def K0:=Func.code f15
def K2:=cb K0
def K4:=cb K2
def K6:=cb K4
def K7:=ca K6
def K10:=cb K7
def K11:=ca K10
def K12:=ca K11
end gQ
def gQ.pt(hv l:zW)(j g:Nat)(H:zV)(R:zv):Prop:=
 jw.C hv l j g H (λv H1=> ∃m b e rb,v=.tuple #[vs m b e,.map rb]/\
 ∃(o:Int->zw) (m13:Int->Int->zV->Nat),o 0 0 H1/\ ∀d s18 H2,o d s18 H2->
 if s18< (b:Int)then(
 ∃f,m=some f/\
 yZ s18 b/\
 ∃x,hat H2 (f.add (Int.toNat s18*1))=some (vu x)/\
 bV.C hv x H2 (λp H3=> ∃n,p=vi n/\
 (o (zY (d+n)) (zY (s18+1)) H3/\m13 (zY (d+n)) (zY (s18+1)) H3<m13 d s18 H2)))
 else
 R (vi d) H2)
namespace gQ
theorem link(h:pt a k d i H R):C a k d i H R:=by
 refine T_en K0 29 func15 ?_
 intro w0 Q hQ
 unfold pt zY at h
 refine T_su [(0,vp a),(1,vs k d i)]<|ar 0<|T_ed 1 [] []<|ar 1<|T_nd 2 [1] [(11,vp a),(12,vs k d i)]<|T_c (some 13) h ?_;clear h
 rintro v H1 ⟨m,b,e,rb,rfl,h⟩
 refine T_pd [11,12] [(13,.tuple #[vs m b e,.map rb])]<|T_ed 5 [13] [(5,vs m b e)]<|ar 2<|T_ed 1 [] [(7,vi 0)]<|T_sz<|ar 3<|T_ed 3 [5] [(16,vs m b e),(17,vi b),(18,vi 0)]<|T_bz 0 ?_
 obtain⟨o,m13,i1,i2⟩:=h
 refine bL (x:=K12) (σ:=Int×Int) (λs_=> [(0,vp a),(7,vi s_.1),(16,vs m b e),(17,vi b),(18,vi s_.2)]) (λs_ H=>o s_.1 s_.2 H) (λs_ H=>m13 s_.1 s_.2 H) ((0,0):Int×Int) (by kernel_rfl) i1 sk ?_
 rintro⟨g,s18⟩ H2 i3
 have h:=i2 g s18 H2 i3
 refine T_su [(0,vp a),(7,vi g),(16,vs m b e),(17,vi b),(18,vi s18)]<|ar 4<|T_ed 1 [] [(19,.bool (decide (s18< (b:Int))))]<|T_sz ?_
 by_cases c4:s18< (b:Int)
 ·rw[if_pos c4]at h
  refine aI 19 (zX c4)<|T_kt<|T_sz<|T_bz 1<|ar 5<|T_ud [19] [] ?_
  obtain⟨f,rfl,q6,h⟩:=h
  refine T_xd (some 20) 29 40 1 f b e .i64 s18 underlying29 q6.1 q6.2 [16] [(16,vs (some f) b e),(20,Vq (f.add (Int.toNat s18*1)))] ?_
  obtain⟨x,q7,h⟩:=h
  refine T_l1 21 40 q7 [20]<|T_ed 1 [21] [(9,vu x)]<|T_rz 6<|T_nd 3 [7,9] [(22,vi g),(23,vp a),(24,vu x)]<|T_c (some 25) h ?_;clear h
  rintro p H3 ⟨n,rfl,h⟩
  exact T_pd [23,24] [(25,vi n)]<|T_nd 2 [22,25] [(7,vi (zY (g+n)))]<|zq<|aA<|aE<|T_rz 7<|T_ed 2 [18] [(18,vi (zY (s18+1)))]<|aS (((zY (g+n)),(zY (s18+1))):Int×Int) sk h
 rw[if_neg c4]at h
 exact aJ 19 (zQ c4)<|zk 0<|aD<|aD<|aM<|aE<|ar 8<|T_nr 2 [4] [vi g] hQ h
end gQ
/-! moraine/morainelaw14.kept -/
namespace dG
def K0:=Func.code f30
end dG
def dG.pt(a i:Int)(H:zV)(R:zv):Prop:=
 (0<=(Int.tmod i 32))/\
 R (.bool ((iand .u32 (ishr .u32 a (Int.tmod i 32)) 1)==1)) H
namespace dG
set_option maxRecDepth 100000 in
theorem link(h:pt b j H R):C b j H R:=by
 refine T_en K0 11 func30 ?_
 intro w0 Q hQ
 unfold pt at h
 refine T_su [(0,.int .u32 b),(1,vi j)]<|ar 0<|T_ed 1 [] []<|ar 1<|T_n 3 [(5,.int .u32 b),(7,vi (Int.tmod j 32))] ?_
 obtain⟨q1,h⟩:=h
 exact T_v1 8 (binN .shr 51 (.int .u32 b) (vi (Int.tmod j 32))) (.int .u32 (ishr .u32 b (Int.tmod j 32))) (λw _=>tW (P:=prog) (t:=51) (k:=.u32) (k':=.i64) (x:=b) (y:=(Int.tmod j 32)) q1 w) [5,7]<|T_nr 3 [4] [.bool ((iand .u32 (ishr .u32 b (Int.tmod j 32)) 1)==1)] hQ h
end dG
/-! moraine/morainelaw14.many -/
namespace dZ
def K0:=Func.code f11
def K2:=cb K0
def K4:=cb K2
def K12:=cb K4
def K13:=ca K12
def K16:=cb K13
def K17:=ca K16
def K18:=ca K17
def K20:=cb K18
def K25:=ca K20
def K27:=ca K25
def K29:=cb K27
def K31:=cb K29
def K32:=ca K31
def K33:=ca K32
end dZ
def dZ.pt(lB:zW)(lN lC:Nat)(H:zV)(R:zv):Prop:=
 if(lN:Int)>12 then(
 R VT H)
 else
 ∃(v:Int->zw) (m19:Int->Int->zV->Nat),v 0 0 H/\ ∀nv i H1,v nv i H1->
 if i< (lN:Int)then(
 ∃b,lB=some b/\
 yZ i lN/\
 ∃xB xN xC,hat H1 ((b.add (Int.toNat i*6)).add 1)=some (vs xB xN xC)/\
 yZ i lN/\
 ∃o f s,hat H1 ((b.add (Int.toNat i*6)).add 2)=some (vs o f s)/\
 ∃(y:Int->zw) (m34:Int->Int->zV->Nat),y (zY (nv+(zY ((xN:Int)+(f:Int))))) 0 H1/\ ∀d k H2,y d k H2->
 yZ i lN/\
 ∃r e q,hat H2 (b.add (Int.toNat i*6))=some (vs r e q)/\
 if((decide (k< (e:Int))) && (decide (d<=400)))=true then(
 yZ i lN/\
 ∃n l m,hat H2 (b.add (Int.toNat i*6))=some (vs n l m)/\
 ∃j,n=some j/\
 yZ k l/\
 ∃p g u,hat H2 ((j.add (Int.toNat k*8)).add 7)=some (vs p g u)/\
 (y (zY (d+(zY (1+(zY (Int.tdiv (g:Int) 8)))))) (zY (k+1)) H2/\m34 (zY (d+(zY (1+(zY (Int.tdiv (g:Int) 8)))))) (zY (k+1)) H2<m34 d k H2))
 else
 (v d (zY (i+1)) H2/\m19 d (zY (i+1)) H2<m19 nv i H1))
 else
 R (.bool (decide (nv>400))) H1
namespace dZ
set_option maxRecDepth 100000 in
theorem link(h:pt a d i H R):C a d i H R:=by
 refine T_en K0 60 func11 ?_
 intro w0 Q hQ
 unfold pt zY at h
 refine T_su [(0,vs a d i)]<|ar 0<|T_ed 1 [] []<|T_sz<|ar 1<|T_ed 3 [] [(8,.bool (decide ((d:Int)>12)))] ?_
 by_cases c1:(d:Int)>12
 ·rw[if_pos c1]at h
  exact aI 8 (zX c1)<|ar 2<|T_nr 1 [2] [VT] hQ h
 rw[if_neg c1]at h
 refine aJ 8 (zQ c1)<|T_kt<|ar 3<|T_ed 1 [8] [(3,vi 0)]<|T_sz<|ar 4<|T_ed 1 [] [(4,vi 0)]<|T_bz 0 ?_
 obtain⟨v,m19,i3,i4⟩:=h
 refine bL (x:=K18) (σ:=Int×Int) (λs_=> [(0,vs a d i),(3,vi s_.1),(4,vi s_.2)]) (λs_ H=>v s_.1 s_.2 H) (λs_ H=>m19 s_.1 s_.2 H) ((0,0):Int×Int) (by kernel_rfl) i3 sk ?_
 rintro⟨nv,lB⟩ H1 i5
 have h:=i4 nv lB H1 i5
 refine T_su [(0,vs a d i),(3,vi nv),(4,vi lB)]<|T_sz<|ar 5<|T_ed 4 [] [(12,.bool (decide (lB< (d:Int))))] ?_
 by_cases c6:lB< (d:Int)
 ·rw[if_pos c6]at h
  refine aI 12 (zX c6)<|T_kt<|T_sz<|T_bz 1<|T_sz<|oJ 7<|T_q1 15 (vi nv) [3,12]<|T_q1 16 (vs a d i) []<|T_q1 17 (vi lB) [] ?_
  obtain⟨b,rfl,q8,h⟩:=h
  refine Q_op (some 18) (bK 26 (vs (some b) d i) (vi lB)) (vp (some (b.add (Int.toNat lB*6)))) (λ_=>by kernel_rfl) (λw _=>dY (P:=prog) (t:=26) (elem:=53) (sz:=6) (a:=b) (len:=d) (cap:=i) (k:=.i64) (i:=lB) underlying26 (λ_=>by kernel_rfl) q8.1 q8.2 w) [(0,vs (some b) d i),(4,vi lB),(15,vi nv),(18,vp (some (b.add (Int.toNat lB*6))))] pk ?_
  refine T_q (some 19) (Vq ((b.add (Int.toNat lB*6)).add 1)) [(0,vs (some b) d i),(4,vi lB),(15,vi nv),(19,Vq ((b.add (Int.toNat lB*6)).add 1))] ?_
  obtain⟨xB,xN,xC,q9,h⟩:=h
  refine nh (some 20) 49 q9 [19] [(20,vs xB xN xC)]<|T_q1 21 (vi xN) [20]<|T_q1 22 (vs (some b) d i) []<|T_q1 23 (vi lB) [] ?_
  obtain⟨q10,h⟩:=h
  refine Q_op (some 24) (bK 26 (vs (some b) d i) (vi lB)) (vp (some (b.add (Int.toNat lB*6)))) (λ_=>by kernel_rfl) (λw _=>dY (P:=prog) (t:=26) (elem:=53) (sz:=6) (a:=b) (len:=d) (cap:=i) (k:=.i64) (i:=lB) underlying26 (λ_=>by kernel_rfl) q10.1 q10.2 w) [(0,vs (some b) d i),(4,vi lB),(15,vi nv),(21,vi xN),(24,vp (some (b.add (Int.toNat lB*6))))] pk ?_
  refine T_q (some 25) (Vq ((b.add (Int.toNat lB*6)).add 2)) [(0,vs (some b) d i),(4,vi lB),(15,vi nv),(21,vi xN),(25,Vq ((b.add (Int.toNat lB*6)).add 2))] ?_
  obtain⟨o,f,s,q11,h⟩:=h
  refine nh (some 26) 50 q11 [25] [(26,vs o f s)]<|T_q1 27 (vi f) [26]<|T_q1 28 (vi (zY ((xN:Int)+(f:Int)))) [21,27]<|T_q1 29 (vi (zY (nv+(zY ((xN:Int)+(f:Int)))))) [15,28]<|T_q1 3 (vi (zY (nv+(zY ((xN:Int)+(f:Int)))))) [29]<|mv [(0,vs (some b) d i),(3,vi (zY (nv+(zY ((xN:Int)+(f:Int)))))),(4,vi lB)] sk<|T_qe<|ar 8<|T_ne 1 [(0,vs (some b) d i),(3,vi (zY (nv+(zY ((xN:Int)+(f:Int)))))),(4,vi lB),(5,vi 0)]<|T_bz 2 ?_
  obtain⟨y,m34,i12,i13⟩:=h
  refine bL (x:=K33) (σ:=Int×Int) (λs_=> [(0,vs (some b) d i),(3,vi s_.1),(4,vi lB),(5,vi s_.2)]) (λs_ H=>y s_.1 s_.2 H) (λs_ H=>m34 s_.1 s_.2 H) (((zY (nv+(zY ((xN:Int)+(f:Int))))),0):Int×Int) (by kernel_rfl) i12 sk ?_
  rintro⟨lN,k⟩ H2 i14
  have h:=i13 lN k H2 i14
  refine T_su [(0,vs (some b) d i),(3,vi lN),(4,vi lB),(5,vi k)]<|T_sz<|ar 9<|T_nd 3 [] [(30,vi k),(31,vs (some b) d i),(32,vi lB)] ?_
  obtain⟨q15,h⟩:=h
  refine T_xd (some 33) 26 53 6 b d i .i64 lB underlying26 q15.1 q15.2 [31,32] [(33,Vq (b.add (Int.toNat lB*6)))]<|T_nd 1 [33] [(34,Vq (b.add (Int.toNat lB*6)))] ?_
  obtain⟨r,e,q,q16,h⟩:=h
  refine T_l1 35 48 q16 [34]<|T_nd 3 [30,35] [(38,.bool (decide (k< (e:Int))))] ?_
  refine iT [(0,vs (some b) d i),(3,vi lN),(4,vi lB),(5,vi k),(41,.bool ((decide (k< (e:Int))) && (decide (lN<=400))))] ?_ ?_
  ·refine aE ?_
   by_cases c19:((decide (k< (e:Int))) && (decide (lN<=400)))=true
   ·rw[if_pos c19]at h
    refine aI 41 c19<|T_kt<|T_sz<|T_bz 3<|T_rz 11<|T_n 3 [(0,vs (some b) d i),(4,vi lB),(5,vi k),(44,vi lN),(45,vs (some b) d i),(46,vi lB)] ?_
    obtain⟨q21,h⟩:=h
    refine T_xd (some 47) 26 53 6 b d i .i64 lB underlying26 q21.1 q21.2 [45,46] [(47,Vq (b.add (Int.toNat lB*6)))]<|T_nd 1 [47] [(48,Vq (b.add (Int.toNat lB*6)))] ?_
    obtain⟨n,l,m,q22,h⟩:=h
    refine T_l1 49 48 q22 [48]<|T_nd 1 [] [(50,vi k)] ?_
    obtain⟨j,rfl,q23,h⟩:=h
    refine T_xd (some 51) 48 57 8 j l m .i64 k underlying48 q23.1 q23.2 [49,50] [(51,Vq (j.add (Int.toNat k*8)))]<|T_nd 1 [51] [(52,Vq ((j.add (Int.toNat k*8)).add 7))] ?_
    obtain⟨p,g,u,q24,h⟩:=h
    exact T_l1 53 50 q24 [52]<|T_nd 5 [44,53] [(3,vi (zY (lN+(zY (1+(zY (Int.tdiv (g:Int) 8)))))))]<|zq<|aA<|aE<|T_rz 10<|T_ed 3 [5] [(5,vi (zY (k+1)))]<|aS (((zY (lN+(zY (1+(zY (Int.tdiv (g:Int) 8)))))),(zY (k+1))):Int×Int) sk h
   rw[if_neg c19]at h
   exact aJ 41 (zZ c19)<|zk 2<|aD<|aD<|aM<|aA<|aE<|T_rz 6<|T_ne 3 [(0,vs (some b) d i),(3,vi lN),(4,vi (zY (lB+1)))]<|aS ((lN,(zY (lB+1))):Int×Int) sk h
  intro hk
  refine T_nu [(0,vs (some b) d i),(3,vi lN),(4,vi lB),(5,vi k),(38,.bool (decide (k< (e:Int))))] ?_
  by_cases c17:k< (e:Int)
  ·have b18:(decide (k< (e:Int)))=true:=zX c17
   refine bW [(0,vs (some b) d i),(3,vi lN),(4,vi lB),(5,vi k),(38,VT)] (by rw[b18]) ?_
   refine T_nd 3 [38] [(41,.bool (decide (lN<=400)))]<|zq<|S_bd 41 (b:=(decide (lN<=400))) (v:=((decide (k< (e:Int))) && (decide (lN<=400)))) (by simp only[b18,BL]) ?_
   exact hk
  have b18:(decide (k< (e:Int)))=false:=zQ c17
  refine bW [(0,vs (some b) d i),(3,vi lN),(4,vi lB),(5,vi k),(38,VF)] (by rw[b18]) ?_
  refine T_nd 3 [38] [(41,VF)]<|zq<|S_bd 41 (b:=false) (v:=((decide (k< (e:Int))) && (decide (lN<=400)))) (by simp only[b18,BL]) ?_
  exact hk
 rw[if_neg c6]at h
 exact aJ 12 (zQ c6)<|zk 0<|aD<|aD<|aM<|aE<|ar 12<|T_nr 3 [2] [.bool (decide (nv>400))] hQ h
end dZ
/-! moraine/morainelaw14.awake -/
namespace bM
def K0:=Func.code f8
end bM
def bM.pt(H:zV)(R:zv):Prop:=
 kR.C 8 H (λv H1=> ∃ra rb,v=.tuple #[vp ra,vi rb]/\
 if rb=0 then(
 fE ra (
 R VF H1) (λj=>
 fY.C (some j) 8 20 H1 (λaz H2=> ∃n aq,az=.tuple #[vu n,vi aq]/\
 fZ.C (some j) n 20 H2 (λax H3=> ∃g ap,ax=.tuple #[vu g,vi ap]/\
 gX.C (some j) H3 (λay H4=> ∃xB xN xC,ay=vs xB xN xC/\
 ∀b H5,b=H4.size->H5=H4.push (.cells #[vu n,vu g] 40)->
 fV.C (some j) (some (ad b)) 2 2 H5 (λau H6=> ∃p o,au=.tuple #[vi p,vi o]/\
 ∀ai H7,ai=H6.size->H7=H6.push (.cells #[vu g] 40)->
 eR.C (some j) (some (ad ai)) 1 1 H7 (λa1 H8=> ∃m d l,a1=vs m d l/\
 ∃x,hat H8 j=some (vp x)/\
 ∃xA,x=some xA/\
 ∃an,hat H8 xA=some (vp an)/\
 ∃ao,an=some ao/\
 ∃aj,hat H8 ao=some (vp aj)/\
 cM.C aj 0 17 H8 (λa0 H9=> ∃aw,a0=vi aw/\
 fV.C (some j) none 0 0 H9 (λa2 z=> ∃e f,a2=.tuple #[vi e,vi f]/\
 if(xN:Int)=2 then(
 ∃r,xB=some r/\
 yZ 0 xN/\
 ∃ac,hat z (r.add (Int.toNat 0*1))=some (vu ac)/\
 if ac=n then(
 yZ 1 xN/\
 ∃ab,hat z (r.add (Int.toNat 1*1))=some (vu ab)/\
 if ab=g then(
 if p=0 then(
 if o=0 then(
 ∀ak H11,ak=z.size->H11=z.push (.cells #[vu g] 40)->
 gQ.C (some j) (some (ad ak)) 1 1 H11 (λav af=> ∃ag,av=vi ag/\
 if ag=2 then(
 if(d:Int)=2 then(
 ∃q,m=some q/\
 yZ 1 d/\
 ∃am u al,hat af ((q.add (Int.toNat 1*5)).add 4)=some (vs am u al)/\
 if(u:Int)=2 then(
 yZ 1 d/\
 ∃ah aa ae,hat af ((q.add (Int.toNat 1*5)).add 4)=some (vs ah aa ae)/\
 ∃y,ah=some y/\
 yZ 0 aa/\
 ∃s,hat af (y.add (Int.toNat 0*1))=some (vi s)/\
 R (.bool (((s==(-1)) && (e==0)) && (f==18))) af)
 else
 R VF af)
 else
 R VF af)
 else
 R VF af))
 else
 R VF z)
 else
 R VF z)
 else
 R VF z)
 else
 R VF z)
 else
 R VF z)))))))))
 else
 R VF H1)
namespace bM
set_option maxRecDepth 100000 in
theorem link(h:pt H R):C H R:=by
 refine T_en K0 126 func8 ?_
 intro w0 Q hQ
 unfold pt at h
 refine T_su []<|ar 0<|T_ne 1 []<|ar 1<|T_c (some 14) h ?_;clear h
 rintro v H1 ⟨ra,rb,rfl,h⟩
 refine⟨[(14,.tuple #[vp ra,vi rb])],pk,?_⟩
 refine T_ne 5 [(1,vp ra),(2,vi rb)]<|T_sz<|ar 2<|T_nd 3 [2] [(19,.bool (rb !=0))] ?_
 by_cases c1:rb=0
 ·rw[if_pos c1]at h
  refine N_bd 19 (bne_eq_false_iff_eq.mpr c1)<|T_nd 1 [] [(20,vp ra)] ?_
  rcases ra with _ | j
  ·rw[onPtr_none]at h
   exact T_ne 2 [(1,vp none),(22,VT)]<|T_tz 22<|ar 3<|T_nr 1 [0] [VF] hQ h
  rw[onPtr_some]at h
  refine T_ne 2 [(1,Vq j),(22,VF)]<|T_fz 22<|T_kt<|ar 4<|T_nd 1 [22] [(24,Vq j)]<|T_c (some 25) h ?_;clear h
  rintro az H2 ⟨n,aq,rfl,h⟩
  refine T_pd [24] [(25,.tuple #[vu n,vi aq])]<|T_ed 5 [25] [(3,vu n)]<|ar 5<|T_nd 2 [] [(29,Vq j),(30,vu n)]<|T_c (some 31) h ?_;clear h
  rintro ax H3 ⟨g,ap,rfl,h⟩
  refine T_pd [29,30] [(31,.tuple #[vu g,vi ap])]<|T_ed 5 [31] [(5,vu g)]<|ar 6<|T_nd 1 [] [(34,Vq j)]<|T_c (some 35) h ?_;clear h
  rintro ay H4 ⟨xB,xN,xC,rfl,h⟩
  refine T_pd [34] [(35,vs xB xN xC)]<|T_ed 1 [35] [(7,vs xB xN xC)]<|ar 7<|T_nd 3 [] [(37,Vq j),(38,vu n),(39,vu g)]<|T_nw (some 40) (λb=>vs (pa b) 2 2) (.cells #[vu n,vu g] 40) ?_
  intro b H5 e3 e4
  replace h:=h b H5 e3 e4
  refine T_pd [38,39] [(40,vs (pa b) 2 2)]<|T_c (some 41) h ?_;clear h
  rintro au H6 ⟨p,o,rfl,h⟩
  refine T_pd [37,40] [(41,.tuple #[vi p,vi o])]<|T_ed 5 [41] [(8,vi p),(9,vi o)]<|ar 8<|T_nd 2 [] [(44,Vq j),(45,vu g)]<|T_nw (some 46) (λb=>vs (pa b) 1 1) (.cells #[vu g] 40) ?_
  intro ai H7 e5 e6
  replace h:=h ai H7 e5 e6
  refine T_pd [45] [(46,vs (pa ai) 1 1)]<|T_c (some 47) h ?_;clear h
  rintro a1 H8 ⟨m,d,l,rfl,h⟩
  refine T_pd [44,46] [(47,vs m d l)]<|T_ed 1 [47] [(10,vs m d l)]<|ar 9<|T_nd 3 [] [(50,Vq j)] ?_
  obtain⟨x,q7,h⟩:=h
  refine T_l1 51 33 q7 [50] ?_
  obtain⟨xA,rfl,h⟩:=h
  refine T_nd 2 [51] [(53,Vq xA)] ?_
  obtain⟨an,q8,h⟩:=h
  refine T_l1 54 42 q8 [53] ?_
  obtain⟨ao,rfl,h⟩:=h
  refine T_nd 2 [54] [(56,Vq ao)] ?_
  obtain⟨aj,q9,h⟩:=h
  refine T_l1 57 70 q9 [56]<|T_c (some 58) h ?_;clear h
  rintro a0 H9 ⟨aw,rfl,h⟩
  refine T_pd [57] []<|T_e<|ar 10<|T_nd 1 [] [(60,Vq j)]<|T_c (some 61) h ?_;clear h
  rintro a2 z ⟨e,f,rfl,h⟩
  refine T_pd [60] [(61,.tuple #[vi e,vi f])]<|T_ed 5 [61] [(11,vi e),(12,vi f)]<|ar 11<|T_nd 4 [] [(67,.bool ((xN:Int)==2))] ?_
  by_cases c10:(xN:Int)=2
  ·rw[if_pos c10]at h
   refine N_bd 67 (zK c10)<|T_nd 1 [] [(68,vs xB xN xC)] ?_
   obtain⟨r,rfl,q12,h⟩:=h
   refine T_xd (some 69) 29 40 1 r xN xC .i64 0 underlying29 q12.1 q12.2 [7,68] [(7,vs (some r) xN xC),(69,Vq (r.add (Int.toNat 0*1)))] ?_
   obtain⟨ac,q13,h⟩:=h
   refine T_l1 70 40 q13 [69]<|T_nd 4 [3,67,70] [(74,.bool (ac==n))] ?_
   by_cases c14:ac=n
   ·rw[if_pos c14]at h
    refine N_bd 74 (zK c14)<|T_nd 1 [7] [(75,vs (some r) xN xC)] ?_
    obtain⟨q16,h⟩:=h
    refine T_xd (some 76) 29 40 1 r xN xC .i64 1 underlying29 q16.1 q16.2 [75] [(76,Vq (r.add (Int.toNat 1*1)))] ?_
    obtain⟨ab,q17,h⟩:=h
    refine T_l1 77 40 q17 [76]<|T_nd 4 [74,77] [(81,.bool (ab==g))] ?_
    by_cases c18:ab=g
    ·rw[if_pos c18]at h
     refine N_bd 81 (zK c18)<|T_nd 4 [8,81] [(85,.bool (p==0))] ?_
     by_cases c20:p=0
     ·rw[if_pos c20]at h
      refine N_bd 85 (zK c20)<|T_nd 4 [9,85] [(89,.bool (o==0))] ?_
      by_cases c22:o=0
      ·rw[if_pos c22]at h
       refine N_bd 89 (zK c22)<|T_nd 2 [1,5] [(90,Vq j),(91,vu g)]<|T_nw (some 92) (λb=>vs (pa b) 1 1) (.cells #[vu g] 40) ?_
       intro ak H11 e24 e25
       replace h:=h ak H11 e24 e25
       refine T_pd [91] [(92,vs (pa ak) 1 1)]<|T_c (some 93) h ?_;clear h
       rintro av af ⟨ag,rfl,h⟩
       refine T_pd [90,92] [(93,vi ag)]<|T_nd 3 [89,93] [(96,.bool (ag==2))] ?_
       by_cases c26:ag=2
       ·rw[if_pos c26]at h
        refine N_bd 96 (zK c26)<|T_nd 5 [96] [(101,.bool ((d:Int)==2))] ?_
        by_cases c28:(d:Int)=2
        ·rw[if_pos c28]at h
         refine N_bd 101 (zK c28)<|T_nd 1 [] [(102,vs m d l)] ?_
         obtain⟨q,rfl,q30,h⟩:=h
         refine T_xd (some 103) 22 61 5 q d l .i64 1 underlying22 q30.1 q30.2 [10,102] [(10,vs (some q) d l),(103,Vq (q.add (Int.toNat 1*5)))]<|T_nd 1 [103] [(104,Vq ((q.add (Int.toNat 1*5)).add 4))] ?_
         obtain⟨am,u,al,q31,h⟩:=h
         refine T_l1 105 59 q31 [104]<|T_nd 4 [101,105] [(109,.bool ((u:Int)==2))] ?_
         by_cases c32:(u:Int)=2
         ·rw[if_pos c32]at h
          refine N_bd 109 (zK c32)<|T_nd 1 [10] [(110,vs (some q) d l)] ?_
          obtain⟨q34,h⟩:=h
          refine T_xd (some 111) 22 61 5 q d l .i64 1 underlying22 q34.1 q34.2 [110] [(111,Vq (q.add (Int.toNat 1*5)))]<|T_nd 1 [111] [(112,Vq ((q.add (Int.toNat 1*5)).add 4))] ?_
          obtain⟨ah,aa,ae,q35,h⟩:=h
          refine T_l1 113 59 q35 [112] ?_
          obtain⟨y,rfl,q36,h⟩:=h
          refine T_xd (some 114) 59 3 1 y aa ae .i64 0 underlying59 q36.1 q36.2 [113] [(114,Vq (y.add (Int.toNat 0*1)))] ?_
          obtain⟨s,q37,h⟩:=h
          refine T_l1 115 3 q37 [114]<|T_nd 3 [109,115] [(118,.bool (s==(-1)))] ?_
          refine iT [(0,.bool (((s==(-1)) && (e==0)) && (f==18)))] ?_ ?_
          ·exact aE<|jF [0] [.bool (((s==(-1)) && (e==0)) && (f==18))] hQ h
          intro hk
          refine T_nu [(11,vi e),(12,vi f),(118,.bool (s==(-1)))] ?_
          by_cases c38:s=(-1)
          ·have b39:(s==(-1))=true:=zK c38
           refine bW [(11,vi e),(12,vi f),(118,VT)] (by rw[b39]) ?_
           refine T_n 4 [(12,vi f),(122,.bool (e==0))] ?_
           by_cases c40:e=0
           ·have b41:(e==0)=true:=zK c40
            refine bW [(12,vi f),(122,VT)] (by rw[b41]) ?_
            refine T_n 4 [(0,.bool (f==18))]<|zq<|iU [(0,.bool (((s==(-1)) && (e==0)) && (f==18)))] (by simp only[b39,b41,BL]) ?_
            exact hk
           have b41:(e==0)=false:=zJ c40
           refine bW [(12,vi f),(122,VF)] (by rw[b41]) ?_
           refine T_n 4 [(0,VF)]<|zq<|iU [(0,.bool (((s==(-1)) && (e==0)) && (f==18)))] (by simp only[b39,b41,BL]) ?_
           exact hk
          have b39:(s==(-1))=false:=zJ c38
          refine bW [(11,vi e),(12,vi f),(118,VF)] (by rw[b39]) ?_
          refine T_n 8 [(0,VF)]<|zq<|iU [(0,.bool (((s==(-1)) && (e==0)) && (f==18)))] (by simp only[b39,BL]) ?_
          exact hk
         rw[if_neg c32]at h
         exact N_bd 109 (zJ c32)<|T_nr 17 [0] [VF] hQ h
        rw[if_neg c28]at h
        exact N_bd 101 (zJ c28)<|T_nr 25 [0] [VF] hQ h
       rw[if_neg c26]at h
       exact N_bd 96 (zJ c26)<|T_nr 30 [0] [VF] hQ h
      rw[if_neg c22]at h
      exact N_bd 89 (zJ c22)<|T_nr 37 [0] [VF] hQ h
     rw[if_neg c20]at h
     exact N_bd 85 (zJ c20)<|T_nr 41 [0] [VF] hQ h
    rw[if_neg c18]at h
    exact N_bd 81 (zJ c18)<|T_nr 45 [0] [VF] hQ h
   rw[if_neg c14]at h
   exact N_bd 74 (zJ c14)<|T_nr 52 [0] [VF] hQ h
  rw[if_neg c10]at h
  exact N_bd 67 (zJ c10)<|T_nr 59 [0] [VF] hQ h
 rw[if_neg c1]at h
 exact N_bd 19 (bne_iff_ne.mpr c1)<|T_ed 3 [19] [(22,VT)]<|T_tz 22<|ar 3<|T_nr 1 [0] [VF] hQ h
end bM
/-! moraine/morainelaw14.goes -/
namespace eD
def K0:=Func.code f12
def K2:=cb K0
def K4:=cb K2
def K6:=cb K4
def K12:=cb K6
def K20:=cb K12
def K21:=ca K20
def K24:=cb K21
def K25:=ca K24
def K26:=ca K25
def K28:=cb K26
def K33:=ca K28
def K35:=ca K33
def K37:=cb K35
def K38:=ca K37
def K39:=cb K37
def K41:=cb K38
def K42:=ca K41
def K43:=ca K42
def K53:=ca K39
def K54:=cb K39
def K56:=cb K53
def K57:=ca K56
def K58:=ca K57
def K60:=cb K58
def K65:=ca K60
def K67:=ca K65
def K68:=ca K54
def K69:=cb K54
def K71:=cb K68
def K72:=ca K71
def K73:=ca K72
def K75:=cb K73
def K80:=ca K75
def K82:=ca K80
def K84:=cb K69
def K92:=cb K84
def K93:=ca K92
def K94:=cb K92
def K96:=cb K93
def K97:=ca K96
def K98:=ca K97
def K100:=cb K98
def K105:=ca K100
def K107:=ca K105
def K108:=ca K107
def K115:=cb K94
def K116:=ca K115
def K117:=cb K115
def K119:=cb K116
def K120:=ca K119
def K121:=ca K120
def K132:=cb K117
def K138:=cb K132
def K145:=ca K138
end eD
def eD.pt(a3:Int)(lB:zW)(lN lC:Nat)(H:zV)(R:zv):Prop:=
 kR.C a3 H (λv H1=> ∃ra rb,v=.tuple #[vp ra,vi rb]/\
 if rb=0 then(
 fE ra (
 R (.tuple #[vp none,VN,VF]) H1) (λd=>
 ∃(cz:zW->Nat->Nat->zw) (m27:zW->Nat->Nat->Int->zV->Nat),cz none 0 0 0 H1/\ ∀u madeN madeC i H2,cz u madeN madeC i H2->
 if i< (lN:Int)then(
 ∃f,lB=some f/\
 yZ i lN/\
 ∃aq an ao aj ah ai z y aa xG af aw,aQ H2 (f.add (Int.toNat i*6)) 0 [vs aq an ao,vs aj ah ai,vs z y aa,vi xG,vi af,.int .u32 aw]/\
 ∀b H3,b=H2.size->H3=H2.push (.cells #[VN,VN,VN,vi 0,vi 0,.int .u32 0] 53)->
 (aK H3 (ad b) 0 6)/\ ∀H4,H4=aR H3 (ad b) [vs aq an ao,vs aj ah ai,vs z y aa,vi xG,vi af,.int .u32 aw] 0->
 ∃(c2:zW->Nat->Nat->zw) (m44:zW->Nat->Nat->Int->zV->Nat),c2 u madeN madeC 0 H4/\ ∀e madeN_2 madeC_2 k H5,c2 e madeN_2 madeC_2 k H5->
 ∃xB xN xC,hat H5 (ad b)=some (vs xB xN xC)/\
 if k< (xN:Int)then(
 ∃b5 bp bw,hat H5 (ad b)=some (vs b5 bp bw)/\
 ∃bq,b5=some bq/\
 yZ k bp/\
 ∃cm be bx cl bu cj bz ch cg ce,aQ H5 (bq.add (Int.toNat k*8)) 0 [vi cm,vi be,vi bx,vu cl,vi bu,vu cj,vi bz,vs ch cg ce]/\
 dF.C (some d) cm be bx cl bu cj bz ch cg ce e madeN_2 madeC_2 H5 (λdx H6=> ∃bs br bo,dx=vs bs br bo/\
 (c2 bs br bo (zY (k+1)) H6/\m44 bs br bo (zY (k+1)) H6<m44 e madeN_2 madeC_2 k H5)))
 else
 ∃(c5:zw) (m59:Int->zV->Nat),c5 0 H5/\ ∀l H7,c5 l H7->
 ∃cy al cx,hat H7 ((ad b).add 1)=some (vs cy al cx)/\
 if((decide (l< (al:Int))) && (decide ((madeN_2:Int)>0)))=true then(
 ∃r n q,hat H7 (d.add 2)=some (vs r n q)/\
 ∃c9 a8 bl,hat H7 ((ad b).add 1)=some (vs c9 a8 bl)/\
 ∃am,c9=some am/\
 yZ l a8/\
 ∃xW az,aQ H7 (am.add (Int.toNat l*4)) 0 [vu xW,vi az]/\
 ∃dd a5 bd,hat H7 ((ad b).add 1)=some (vs dd a5 bd)/\
 ∃ab,dd=some ab/\
 yZ l a5/\
 ∃a4 au,aQ H7 ((ab.add (Int.toNat l*4)).add 2) 0 [vu a4,vi au]/\
 bP.C xW az e madeN_2 madeC_2 H7 (λdv H8=> ∃x,dv=vu x/\aQ H8 (d.add 2) 0 [vs r n q]/\aQ H8 ((ad b).add 1) 0 [vs (some ab) a5 bd]/\aQ H8 ((ab.add (Int.toNat l*4)).add 2) 0 [vu a4,vi au]/\
 bP.C a4 au e madeN_2 madeC_2 H8 (λdz H9=> ∃cc,dz=vu cc/\aQ H9 (d.add 2) 0 [vs r n q]/\
 ∀cq H10,cq=H9.size->H10=H9.push (.cells #[vu x,vu cc] 83)->aQ H10 (d.add 2) 0 [vs r n q]/\
 bR 2 83 16 [vu 0,vu 0] r n q (some (ad cq)) 1 H10 (λap b8 de=>
 (aK de (d.add 2) 0 1)/\ ∀c4,c4=aR de (d.add 2) [vs ap (n+1) b8] 0->
 (c5 (zY (l+1)) c4/\m59 (zY (l+1)) c4<m59 l H7)))))
 else
 ∃(c7:zw) (m74:Int->zV->Nat),c7 0 H7/\ ∀m H13,c7 m H13->
 ∃cw a9 cv,hat H13 ((ad b).add 2)=some (vs cw a9 cv)/\
 if m< (a9:Int)then(
 ∃ac p ae,hat H13 (d.add 1)=some (vs ac p ae)/\
 ∃cu ax a0,hat H13 ((ad b).add 2)=some (vs cu ax a0)/\
 ∃ag,cu=some ag/\
 yZ m ax/\
 ∃bn a2,aQ H13 (ag.add (Int.toNat m*2)) 0 [vu bn,vi a2]/\
 bP.C bn a2 e madeN_2 madeC_2 H13 (λdu di=> ∃c8,du=vu c8/\aQ di (d.add 1) 0 [vs ac p ae]/\
 ∀cr H15,cr=di.size->H15=di.push (.cells #[vu c8] 40)->aQ H15 (d.add 1) 0 [vs ac p ae]/\
 bR 1 40 8 [vu 0] ac p ae (some (ad cr)) 1 H15 (λbk a1 dg=>
 (aK dg (d.add 1) 0 1)/\ ∀c0,c0=aR dg (d.add 1) [vs bk (p+1) a1] 0->
 (c7 (zY (m+1)) c0/\m74 (zY (m+1)) c0<m74 m H13))))
 else
 fV.C (some d) e madeN_2 madeC_2 H13 (λd1 dp=> ∃dc a7,d1=.tuple #[vi dc,vi a7]/\
 if a7=0 then(
 ∃(b9:zW->Nat->Nat->zw) (m99:zW->Nat->Nat->Int->zV->Nat),b9 none 0 0 0 dp/\ ∀rB rN rC k_4 H19,b9 rB rN rC k_4 H19->
 if k_4< (madeN_2:Int)then(
 ∃bm,hat H19 d=some (vp bm)/\
 ∃g,e=some g/\
 yZ k_4 madeN_2/\
 ∃ck,hat H19 (g.add (Int.toNat k_4*1))=some (vu ck)/\
 eP.C bm ck H19 (λd0 dt=> ∃o s,d0=.tuple #[vi o,.bool s]/\
 ∃cn,hat dt ((ad b).add 5)=some (.int .u32 cn)/\
 dG.C cn k_4 dt (λdy bi=> ∃cd,dy=.bool cd/\
 if cd=true then(
 yZ k_4 madeN_2/\
 ∃cp,hat bi (g.add (Int.toNat k_4*1))=some (vu cp)/\
 ∀co H22,co=bi.size->H22=bi.push (.cells #[vu cp] 40)->
 bR 1 40 8 [vu 0] rB rN rC (some (ad co)) 1 H22 (λb3 bc dl=>
 (b9 b3 (rN+1) bc (zY (k_4+1)) dl/\m99 b3 (rN+1) bc (zY (k_4+1)) dl<m99 rB rN rC k_4 H19)))
 else
 if s=true then(
 ∃b4,hat bi ((ad b).add 3)=some (vi b4)/\
 if o>b4 then(
 yZ k_4 madeN_2/\
 ∃b6,hat bi (g.add (Int.toNat k_4*1))=some (vu b6)/\
 ∀ct H24,ct=bi.size->H24=bi.push (.cells #[vu b6] 40)->
 bR 1 40 8 [vu 0] rB rN rC (some (ad ct)) 1 H24 (λbt bh dk=>
 (b9 bt (rN+1) bh (zY (k_4+1)) dk/\m99 bt (rN+1) bh (zY (k_4+1)) dk<m99 rB rN rC k_4 H19)))
 else
 (b9 rB rN rC (zY (k_4+1)) bi/\m99 rB rN rC (zY (k_4+1)) bi<m99 rB rN rC k_4 H19))
 else
 (b9 rB rN rC (zY (k_4+1)) bi/\m99 rB rN rC (zY (k_4+1)) bi<m99 rB rN rC k_4 H19))))
 else
 ∃(ci:zW->Nat->Nat->zw) (m122:zW->Nat->Nat->Int->zV->Nat),ci none 0 0 0 H19/\ ∀pB pN pC k_5 H26,ci pB pN pC k_5 H26->
 if k_5< (rN:Int)then(
 ∃a6,rB=some a6/\
 yZ k_5 rN/\
 ∀cs H27,cs=H26.size->H27=H26.push (.cells #[Vq (a6.add (Int.toNat k_5*1))] 39)->
 bR 1 39 8 [vp none] pB pN pC (some (ad cs)) 1 H27 (λb1 bf dr=>
 (ci b1 (pN+1) bf (zY (k_5+1)) dr/\m122 b1 (pN+1) bf (zY (k_5+1)) dr<m122 pB pN pC k_5 H26)))
 else
 ∃bb,hat H26 ((ad b).add 3)=some (vi bb)/\
 ∃b0,hat H26 ((ad b).add 4)=some (vi b0)/\
 iV.C (some d) bb b0 pB pN pC H26 (λdw dj=> ∃bj,dw=vi bj/\
 ∃J:zW->Nat->Nat->zV->Prop,(
 if bj=0 then(
 J rB rN rC dj)
 else
 J e madeN_2 madeC_2 dj)/\ ∀j madeN_3 madeC_3 H30,J j madeN_3 madeC_3 H30->
 fV.C (some d) j madeN_3 madeC_3 H30 (λdm c3=> ∃da ba,dm=.tuple #[vi da,vi ba]/\
 if ba=0 then(
 ∃db,hat c3 d=some (vp db)/\
 ∃ak,db=some ak/\
 ∃bg,hat c3 ak=some (vp bg)/\
 gQ.C (some d) j madeN_3 madeC_3 c3 (λdn dh=> ∃av,dn=vi av/\aQ dh d 0 [Vq ak]/\aQ dh ak 0 [vp bg]/\
 eE.C bg none 0 0 dh (λdq df=> ∃ay,dq=vi ay/\
 if av>ay then(
 R (.tuple #[vp none,VN,VF]) df)
 else
 (cz j madeN_3 madeC_3 (zY (i+1)) df/\m27 j madeN_3 madeC_3 (zY (i+1)) df<m27 u madeN madeC i H2))))
 else
 R (.tuple #[vp none,VN,VF]) c3)))
 else
 R (.tuple #[vp none,VN,VF]) dp))
 else
 R (.tuple #[Vq d,vs u madeN madeC,VT]) H2))
 else
 R (.tuple #[vp none,VN,VT]) H1)
namespace eD
theorem link(h:pt b a d i H R):C b a d i H R:=by
 refine T_en K0 209 func12 ?_
 intro w0 Q hQ
 unfold pt zY at h
 refine T_su [(0,vi b),(1,vs a d i)]<|ar 0<|T_ed 3 [] []<|ar 1<|T_nd 1 [0] [(26,vi b)]<|T_c (some 27) h ?_;clear h
 rintro v H1 ⟨ra,rb,rfl,h⟩
 refine T_pd [26] [(27,.tuple #[vp ra,vi rb])]<|T_ed 5 [27] [(7,vp ra),(8,vi rb)]<|T_sz<|ar 2<|T_ed 2 [8] [(31,.bool (rb !=0))] ?_
 by_cases c1:rb=0
 ·rw[if_pos c1]at h
  refine aJ 31 (bne_eq_false_iff_eq.mpr c1)<|T_kt<|T_sz<|ar 4<|T_nd 1 [31] [(32,vp ra)] ?_
  rcases ra with _ | lB
  ·rw[onPtr_none]at h
   exact T_ed 1 [7,32] [(7,vp none),(33,VT)]<|T_tz 33<|ar 5<|T_nr 3 [4,5,6] [vp none,VN,VF] hQ h
  rw[onPtr_some]at h
  refine T_ed 1 [7,32] [(7,Vq lB),(33,VF)]<|T_fz 33<|T_kt<|ar 6<|T_ed 1 [33] [(9,VN)]<|T_sz<|ar 7<|T_ed 1 [] [(10,vi 0)]<|T_bz 0 ?_
  obtain⟨cz,m27,i3,i4⟩:=h
  refine bL (x:=K26) (σ:=zW×Nat×Nat×Int) (λs_=> [(1,vs a d i),(7,Vq lB),(9,vs s_.1 s_.2.1 s_.2.2.1),(10,vi s_.2.2.2)]) (λs_ H=>cz s_.1 s_.2.1 s_.2.2.1 s_.2.2.2 H) (λs_ H=>m27 s_.1 s_.2.1 s_.2.2.1 s_.2.2.2 H) ((none,0,0,0):zW×Nat×Nat×Int) (by kernel_rfl) i3 sk ?_
  rintro⟨u,madeN,madeC,a3⟩ H2 i5
  have h:=i4 u madeN madeC a3 H2 i5
  refine T_su [(1,vs a d i),(7,Vq lB),(9,vs u madeN madeC),(10,vi a3)]<|T_sz<|ar 8<|T_ed 4 [] [(37,.bool (decide (a3< (d:Int))))] ?_
  by_cases c6:a3< (d:Int)
  ·rw[if_pos c6]at h
   refine aI 37 (zX c6)<|T_kt<|T_sz<|T_bz 1<|ar 10<|T_nd 2 [37] [(40,vs a d i),(41,vi a3)] ?_
   obtain⟨f,rfl,q8,h⟩:=h
   refine T_xd (some 42) 26 53 6 f d i .i64 a3 underlying26 q8.1 q8.2 [1,40,41] [(1,vs (some f) d i),(42,Vq (f.add (Int.toNat a3*6)))] ?_
   obtain⟨aq,an,ao,aj,ah,ai,z,y,aa,xG,af,aw,q9,h⟩:=h
   refine T_lr 43 53 q9 [42]<|T_nw (some 11) (λlN=>vp (pa lN)) (.cells #[VN,VN,VN,vi 0,vi 0,.int .u32 0] 53) ?_
   intro lN H3 e10 e11
   replace h:=h lN H3 e10 e11
   refine T_pd [] [(11,vp (pa lN))] ?_
   obtain⟨q13,h⟩:=h
   refine fG 53 [vs aq an ao,vs aj ah ai,vs z y aa,vi xG,vi af,.int .u32 aw] q13 ?_
   intro H4 e12
   replace h:=h H4 e12
   refine T_pd [43] []<|T_e<|T_sz<|ar 11<|T_ed 1 [] [(12,vi 0)]<|T_bz 2 ?_
   obtain⟨c2,m44,i14,i15⟩:=h
   refine bL (x:=K43) (σ:=zW×Nat×Nat×Int) (λs_=> [(1,vs (some f) d i),(7,Vq lB),(9,vs s_.1 s_.2.1 s_.2.2.1),(10,vi a3),(11,vp (pa lN)),(12,vi s_.2.2.2)]) (λs_ H=>c2 s_.1 s_.2.1 s_.2.2.1 s_.2.2.2 H) (λs_ H=>m44 s_.1 s_.2.1 s_.2.2.1 s_.2.2.2 H) ((u,madeN,madeC,0):zW×Nat×Nat×Int) (by kernel_rfl) i14 sk ?_
   rintro⟨e,madeN_2,madeC_2,k⟩ H5 i16
   have h:=i15 e madeN_2 madeC_2 k H5 i16
   refine T_su [(1,vs (some f) d i),(7,Vq lB),(9,vs e madeN_2 madeC_2),(10,vi a3),(11,vp (pa lN)),(12,vi k)]<|T_sz<|ar 12<|T_nd 2 [] [(44,vi k),(45,vp (pa lN))] ?_
   obtain⟨xB,xN,xC,q17,h⟩:=h
   refine T_l1 46 48 q17 [45]<|T_ed 2 [44,46] [(48,.bool (decide (k< (xN:Int))))] ?_
   by_cases c18:k< (xN:Int)
   ·rw[if_pos c18]at h
    refine aI 48 (zX c18)<|T_kt<|T_sz<|T_bz 3<|T_rz 14<|T_nd 2 [48] [(51,Vq lB),(52,vp (pa lN))] ?_
    obtain⟨b5,bp,bw,q20,h⟩:=h
    refine T_l1 53 48 q20 [52]<|T_nd 1 [] [(54,vi k)] ?_
    obtain⟨bq,rfl,q21,h⟩:=h
    refine T_xd (some 55) 48 57 8 bq bp bw .i64 k underlying48 q21.1 q21.2 [53,54] [(55,Vq (bq.add (Int.toNat k*8)))] ?_
    obtain⟨cm,be,bx,cl,bu,cj,bz,ch,cg,ce,q22,h⟩:=h
    refine T_lr 56 57 q22 [55]<|T_nd 1 [9] [(57,vs e madeN_2 madeC_2)]<|T_c (some 58) h ?_;clear h
    rintro dx H6 ⟨bs,br,bo,rfl,h⟩
    exact T_pd [51,56,57] [(58,vs bs br bo)]<|T_nd 1 [58] [(9,vs bs br bo)]<|zq<|aA<|aE<|T_rz 13<|T_ed 3 [12] [(12,vi (zY (k+1)))]<|aS ((bs,br,bo,(zY (k+1))):zW×Nat×Nat×Int) sk h
   rw[if_neg c18]at h
   refine aJ 48 (zQ c18)<|zk 2<|aD<|aD<|aM<|aE<|T_sz<|ar 15<|T_ed 1 [12,48] [(13,vi 0)]<|T_bz 4 ?_
   obtain⟨c5,m59,i23,i24⟩:=h
   refine bL (x:=K58) (σ:=Int) (λs_=> [(1,vs (some f) d i),(7,Vq lB),(9,vs e madeN_2 madeC_2),(10,vi a3),(11,vp (pa lN)),(13,vi s_)]) (λs_ H=>c5 s_ H) (λs_ H=>m59 s_ H) (0:Int) (by kernel_rfl) i23 sk ?_
   rintro l H7 i25
   have h:=i24 l H7 i25
   refine T_su [(1,vs (some f) d i),(7,Vq lB),(9,vs e madeN_2 madeC_2),(10,vi a3),(11,vp (pa lN)),(13,vi l)]<|T_sz<|ar 16<|T_nd 2 [] [(59,vi l),(60,Vq ((ad lN).add 1))] ?_
   obtain⟨cy,al,cx,q26,h⟩:=h
   refine T_l1 61 49 q26 [60]<|T_nd 3 [59,61] [(64,.bool (decide (l< (al:Int))))] ?_
   refine iT [(1,vs (some f) d i),(7,Vq lB),(9,vs e madeN_2 madeC_2),(10,vi a3),(11,vp (pa lN)),(13,vi l),(68,.bool ((decide (l< (al:Int))) && (decide ((madeN_2:Int)>0))))] ?_ ?_
   ·refine aE ?_
    by_cases c29:((decide (l< (al:Int))) && (decide ((madeN_2:Int)>0)))=true
    ·rw[if_pos c29]at h
     refine aI 68 c29<|T_kt<|T_sz<|T_bz 5 ?_
     obtain⟨r,n,q,q31,c9,a8,bl,q32,am,rfl,q33,xW,az,q34,dd,a5,bd,q35,ab,rfl,q36,a4,au,q37,h⟩:=h
     refine yq 18 (Code.ops K67) [(23,(lB.add 2),[vs r n q]),(12,((ad lN).add 1),[vs (some am) a8 bl]),(12,(am.add (Int.toNat l*4)),[vu xW,vi az]),(20,((ad lN).add 1),[vs (some ab) a5 bd]),(20,((ab.add (Int.toNat l*4)).add 2),[vu a4,vi au])] 27 (bv 27 0) (show aF _ _ _ from⟨⟨q31,trivial⟩,⟨q32,trivial⟩,q34,⟨q35,trivial⟩,q37,trivial⟩)<|T_gp 0 (some 71) (vp (some lB)) (bv 27 1) [(1,vs (some f) d i),(7,vp (some lB)),(9,vs e madeN_2 madeC_2),(10,vi a3),(11,vp (pa lN)),(13,vi l),(71,vp (some lB))]<|aL 1 72 (vp (some lB)) (bv 27 3) []<|aL 2 73 (vp (some lB)) (bv 27 7) [72]<|aL 3 74 (vp (some (lB.add 2))) (bv 27 15) [73]<|T_g1 4 75 (vs r n q) (bv 27 31) [74] (aU 34 (vp (some (lB.add 2)))) (yY 23 yX)<|aL 5 76 (vp (some ((ad lN).add 1))) (bv 27 63) []<|T_g1 6 77 (vs (some am) a8 bl) (bv 27 127) [76] (aU 49 (vp (some ((ad lN).add 1)))) (yY 12 yQ)<|aL 7 78 (vi l) (bv 27 255) []<|T_g1 8 79 (vp (some (am.add (Int.toNat l*4)))) (bv 27 511) [77,78] (bK 49 (vs (some am) a8 bl) (vi l)) (λ_ w _ _ _=>dY (P:=prog) (t:=49) (elem:=81) (sz:=4) (a:=am) (len:=a8) (cap:=bl) (k:=.i64) (i:=l) underlying49 (λ_=>by kernel_rfl) q33.1 q33.2 w)<|aL 9 80 (vp (some (am.add (Int.toNat l*4)))) (bv 27 1023) [79]<|T_g1 10 81 (.agg #[vu xW,vi az]) (bv 27 2047) [80] (aU 55 (vp (some (am.add (Int.toNat l*4))))) (lz 12 (λ_=>by kernel_rfl) (λ_=>by kernel_rfl) yJ (.inl (by kernel_rfl)))<|aL 11 82 (vs e madeN_2 madeC_2) (bv 27 4095) []<|aL 13 84 (vp (some ((ad lN).add 1))) (bv 27 12287) []<|T_g1 14 85 (vs (some ab) a5 bd) (bv 27 28671) [84] (aU 49 (vp (some ((ad lN).add 1)))) (yY 20 yK)<|aL 15 86 (vi l) (bv 27 61439) []<|T_g1 16 87 (vp (some (ab.add (Int.toNat l*4)))) (bv 27 126975) [85,86] (bK 49 (vs (some ab) a5 bd) (vi l)) (λ_ w _ _ _=>dY (P:=prog) (t:=49) (elem:=81) (sz:=4) (a:=ab) (len:=a5) (cap:=bd) (k:=.i64) (i:=l) underlying49 (λ_=>by kernel_rfl) q36.1 q36.2 w)<|aL 17 88 (vp (some ((ab.add (Int.toNat l*4)).add 2))) (bv 27 258047) [87]<|T_g1 18 89 (.agg #[vu a4,vi au]) (bv 27 520191) [88] (aU 55 (vp (some ((ab.add (Int.toNat l*4)).add 2)))) (lz 20 (λ_=>by kernel_rfl) (λ_=>by kernel_rfl) yV (.inl (by kernel_rfl)))<|aL 19 90 (vs e madeN_2 madeC_2) (bv 27 1044479) []<|yx 12 (some 83) (bv 27 1048575) 28 #[.agg #[vu xW,vi az],vs e madeN_2 madeC_2] h ?_;clear h
     rintro dv H8 ⟨x,rfl,f38,f39,f40,h⟩
     refine⟨[(1,vs (some f) d i),(7,Vq lB),(9,vs e madeN_2 madeC_2),(10,vi a3),(11,vp (pa lN)),(13,vi l),(71,Vq lB),(75,vs r n q),(83,vu x),(89,.agg #[vu a4,vi au]),(90,vs e madeN_2 madeC_2)],pk,(show aF _ _ _ from⟨f38,trivial,trivial,f39,f40,trivial⟩),?_⟩
     refine yx 20 (some 91) (bv 27 2097151) 28 #[.agg #[vu a4,vi au],vs e madeN_2 madeC_2] h ?_;clear h
     rintro dz H9 ⟨cc,rfl,f41,h⟩
     refine⟨[(1,vs (some f) d i),(7,Vq lB),(9,vs e madeN_2 madeC_2),(10,vi a3),(11,vp (pa lN)),(13,vi l),(71,Vq lB),(75,vs r n q),(83,vu x),(91,vu cc)],pk,(show aF _ _ _ from⟨f41,trivial,trivial,trivial,trivial,trivial⟩),?_⟩
     refine T_g 21 (some 92) (.agg #[vu x,vu cc]) (bv 27 4194303) [(1,vs (some f) d i),(7,Vq lB),(9,vs e madeN_2 madeC_2),(10,vi a3),(11,vp (pa lN)),(13,vi l),(71,Vq lB),(75,vs r n q),(92,.agg #[vu x,vu cc])] (pure (.value (.agg #[vu x,vu cc])):Sem Next) (λ_ _ _ _ _=>rfl)<|na 22 (some 93) (bv 27 8388607) (λlN=>vs (pa lN) 1 1) (.cells #[vu x,vu cc] 83) (by kernel_rfl) (λ_=>by kernel_rfl) (by kernel_rfl) ?_
     intro cq H10 e43 e44
     replace h:=h cq H10 e43 e44
     obtain⟨f42,h⟩:=h
     refine⟨[(1,vs (some f) d i),(7,Vq lB),(9,vs e madeN_2 madeC_2),(10,vi a3),(11,vp (pa lN)),(13,vi l),(71,Vq lB),(75,vs r n q),(93,vs (pa cq) 1 1)],pk,(show aF _ _ _ from⟨f42,trivial,trivial,trivial,trivial,trivial⟩),?_⟩
     refine od 23 (some 94) (bv 27 16777215) (cJ #[34,34] 34 #[vs r n q,vs (pa cq) 1 1]) _ (by kernel_rfl) (λ_=>by kernel_rfl) (bQ (T:=83) (sz:=2) (bytes:=16) (zero:=(.agg #[vu 0,vu 0]:Value)) underlying34 underlying34 rfl (show prog.info? 83=some t83 from by kernel_rfl) (by kernel_rfl) (by kernel_rfl) (by decide) (by kernel_rfl) (by first | exact h | (simpa only[Value.cells,List.toList_toArray]using h))) (by kernel_rfl) ?_;clear h
     rintro _ de ⟨ap,b8,rfl,h⟩
     refine⟨[(1,vs (some f) d i),(7,Vq lB),(9,vs e madeN_2 madeC_2),(10,vi a3),(11,vp (pa lN)),(13,vi l),(71,Vq lB),(94,vs ap (n+1) b8)],pk,(show aF _ _ _ from⟨trivial,trivial,trivial,trivial,trivial,trivial⟩),?_⟩
     refine T_g 24 (some 95) (Vq lB) (bv 27 33554431) [(1,vs (some f) d i),(7,Vq lB),(9,vs e madeN_2 madeC_2),(10,vi a3),(11,vp (pa lN)),(13,vi l),(94,vs ap (n+1) b8),(95,Vq lB)] (pure (.value (Vq lB)):Sem Next) (λ_ _ _ _ _=>rfl)<|T_g1 25 96 (Vq (lB.add 2)) (bv 27 67108863) [95] (pure (.value (Vq (lB.add 2))):Sem Next) (λ_ _ _ _ _=>rfl) ?_
     obtain⟨q46,h⟩:=h
     refine fT 26 none (bv 27 134217727) (jK 34 (Vq (lB.add 2)) (vs ap (n+1) b8)) (λHz=>Hz=aR de (lB.add 2) [vs ap (n+1) b8] 0) (by kernel_rfl) (λ_=>by kernel_rfl) (iR [vs ap (n+1) b8] 1 (by kernel_rfl) (by kernel_rfl) (λ_=>by kernel_rfl) (by kernel_rfl) q46) (by kernel_rfl) ?_
     intro c4 e45
     replace h:=h c4 e45
     refine⟨[(1,vs (some f) d i),(7,Vq lB),(9,vs e madeN_2 madeC_2),(10,vi a3),(11,vp (pa lN)),(13,vi l)],pk,(show aF _ _ _ from⟨trivial,trivial,trivial,trivial,trivial,trivial⟩),?_⟩
     refine fU [(1,vs (some f) d i),(7,Vq lB),(9,vs e madeN_2 madeC_2),(10,vi a3),(11,vp (pa lN)),(13,vi l)] sk ?_
     exact yz<|aA<|aE<|T_rz 17<|T_ne 3 [(1,vs (some f) d i),(7,Vq lB),(9,vs e madeN_2 madeC_2),(10,vi a3),(11,vp (pa lN)),(13,vi (zY (l+1)))]<|aS ((zY (l+1)):Int) sk h
    rw[if_neg c29]at h
    refine aJ 68 (zZ c29)<|zk 4<|aD<|aD<|aM<|aE<|T_sz<|ar 19<|T_ne 1 [(1,vs (some f) d i),(7,Vq lB),(9,vs e madeN_2 madeC_2),(10,vi a3),(11,vp (pa lN)),(14,vi 0)]<|T_bz 6 ?_
    obtain⟨c7,m74,i47,i48⟩:=h
    refine bL (x:=K73) (σ:=Int) (λs_=> [(1,vs (some f) d i),(7,Vq lB),(9,vs e madeN_2 madeC_2),(10,vi a3),(11,vp (pa lN)),(14,vi s_)]) (λs_ H=>c7 s_ H) (λs_ H=>m74 s_ H) (0:Int) (by kernel_rfl) i47 sk ?_
    rintro m H13 i49
    have h:=i48 m H13 i49
    refine T_su [(1,vs (some f) d i),(7,Vq lB),(9,vs e madeN_2 madeC_2),(10,vi a3),(11,vp (pa lN)),(14,vi m)]<|T_sz<|ar 20<|T_nd 2 [] [(97,vi m),(98,Vq ((ad lN).add 2))] ?_
    obtain⟨cw,a9,cv,q50,h⟩:=h
    refine T_l1 99 50 q50 [98]<|T_ed 2 [97,99] [(101,.bool (decide (m< (a9:Int))))] ?_
    by_cases c51:m< (a9:Int)
    ·rw[if_pos c51]at h
     refine aI 101 (zX c51)<|T_kt<|T_sz<|T_bz 7 ?_
     obtain⟨ac,p,ae,q53,cu,ax,a0,q54,ag,rfl,q55,bn,a2,q56,h⟩:=h
     refine yq 22 (Code.ops K82) [(13,(lB.add 1),[vs ac p ae]),(11,((ad lN).add 2),[vs (some ag) ax a0]),(11,(ag.add (Int.toNat m*2)),[vu bn,vi a2])] 17 (bv 17 0) (show aF _ _ _ from⟨⟨q53,trivial⟩,⟨q54,trivial⟩,q56,trivial⟩)<|T_gp 0 (some 104) (vp (some lB)) (bv 17 1) [(1,vs (some f) d i),(7,vp (some lB)),(9,vs e madeN_2 madeC_2),(10,vi a3),(11,vp (pa lN)),(14,vi m),(104,vp (some lB))]<|aL 1 105 (vp (some lB)) (bv 17 3) []<|aL 2 106 (vp (some lB)) (bv 17 7) [105]<|aL 3 107 (vp (some (lB.add 1))) (bv 17 15) [106]<|T_g1 4 108 (vs ac p ae) (bv 17 31) [107] (aU 29 (vp (some (lB.add 1)))) (yY 13 yX)<|aL 5 109 (vp (some ((ad lN).add 2))) (bv 17 63) []<|T_g1 6 110 (vs (some ag) ax a0) (bv 17 127) [109] (aU 50 (vp (some ((ad lN).add 2)))) (yY 11 yQ)<|aL 7 111 (vi m) (bv 17 255) []<|T_g1 8 112 (vp (some (ag.add (Int.toNat m*2)))) (bv 17 511) [110,111] (bK 50 (vs (some ag) ax a0) (vi m)) (λ_ w _ _ _=>dY (P:=prog) (t:=50) (elem:=55) (sz:=2) (a:=ag) (len:=ax) (cap:=a0) (k:=.i64) (i:=m) underlying50 (λ_=>by kernel_rfl) q55.1 q55.2 w)<|T_g1 9 113 (.agg #[vu bn,vi a2]) (bv 17 1023) [112] (aU 55 (vp (some (ag.add (Int.toNat m*2))))) (lz 11 (λ_=>by kernel_rfl) (λ_=>by kernel_rfl) yJ (.inl (by kernel_rfl)))<|aL 10 114 (vs e madeN_2 madeC_2) (bv 17 2047) []<|yx 11 (some 115) (bv 17 4095) 28 #[.agg #[vu bn,vi a2],vs e madeN_2 madeC_2] h ?_;clear h
     rintro du di ⟨c8,rfl,f57,h⟩
     refine⟨[(1,vs (some f) d i),(7,Vq lB),(9,vs e madeN_2 madeC_2),(10,vi a3),(11,vp (pa lN)),(14,vi m),(104,Vq lB),(108,vs ac p ae),(115,vu c8)],pk,(show aF _ _ _ from⟨f57,trivial,trivial,trivial⟩),?_⟩
     refine na 12 (some 116) (bv 17 8191) (λlN=>vs (pa lN) 1 1) (.cells #[vu c8] 40) (by kernel_rfl) (λ_=>by kernel_rfl) (by kernel_rfl) ?_
     intro cr H15 e59 e60
     replace h:=h cr H15 e59 e60
     obtain⟨f58,h⟩:=h
     refine⟨[(1,vs (some f) d i),(7,Vq lB),(9,vs e madeN_2 madeC_2),(10,vi a3),(11,vp (pa lN)),(14,vi m),(104,Vq lB),(108,vs ac p ae),(116,vs (pa cr) 1 1)],pk,(show aF _ _ _ from⟨f58,trivial,trivial,trivial⟩),?_⟩
     refine od 13 (some 117) (bv 17 16383) (cJ #[29,29] 29 #[vs ac p ae,vs (pa cr) 1 1]) _ (by kernel_rfl) (λ_=>by kernel_rfl) (bQ (T:=40) (sz:=1) (bytes:=8) (zero:=(vu 0:Value)) underlying29 underlying29 rfl (show prog.info? 40=some t40 from by kernel_rfl) (by kernel_rfl) (by kernel_rfl) (by decide) (by kernel_rfl) (by first | exact h | (simpa only[Value.cells,List.toList_toArray]using h))) (by kernel_rfl) ?_;clear h
     rintro _ dg ⟨bk,a1,rfl,h⟩
     refine⟨[(1,vs (some f) d i),(7,Vq lB),(9,vs e madeN_2 madeC_2),(10,vi a3),(11,vp (pa lN)),(14,vi m),(104,Vq lB),(117,vs bk (p+1) a1)],pk,(show aF _ _ _ from⟨trivial,trivial,trivial,trivial⟩),?_⟩
     refine T_g 14 (some 118) (Vq lB) (bv 17 32767) [(1,vs (some f) d i),(7,Vq lB),(9,vs e madeN_2 madeC_2),(10,vi a3),(11,vp (pa lN)),(14,vi m),(117,vs bk (p+1) a1),(118,Vq lB)] (pure (.value (Vq lB)):Sem Next) (λ_ _ _ _ _=>rfl)<|T_g1 15 119 (Vq (lB.add 1)) (bv 17 65535) [118] (pure (.value (Vq (lB.add 1))):Sem Next) (λ_ _ _ _ _=>rfl) ?_
     obtain⟨q62,h⟩:=h
     refine fT 16 none (bv 17 131071) (jK 29 (Vq (lB.add 1)) (vs bk (p+1) a1)) (λHz=>Hz=aR dg (lB.add 1) [vs bk (p+1) a1] 0) (by kernel_rfl) (λ_=>by kernel_rfl) (iR [vs bk (p+1) a1] 1 (by kernel_rfl) (by kernel_rfl) (λ_=>by kernel_rfl) (by kernel_rfl) q62) (by kernel_rfl) ?_
     intro c0 e61
     replace h:=h c0 e61
     refine⟨[(1,vs (some f) d i),(7,Vq lB),(9,vs e madeN_2 madeC_2),(10,vi a3),(11,vp (pa lN)),(14,vi m)],pk,(show aF _ _ _ from⟨trivial,trivial,trivial,trivial⟩),?_⟩
     refine fU [(1,vs (some f) d i),(7,Vq lB),(9,vs e madeN_2 madeC_2),(10,vi a3),(11,vp (pa lN)),(14,vi m)] sk ?_
     exact yz<|aA<|aE<|T_rz 21<|T_ne 3 [(1,vs (some f) d i),(7,Vq lB),(9,vs e madeN_2 madeC_2),(10,vi a3),(11,vp (pa lN)),(14,vi (zY (m+1)))]<|aS ((zY (m+1)):Int) sk h
    rw[if_neg c51]at h
    refine aJ 101 (zQ c51)<|zk 6<|aD<|aD<|aM<|aE<|T_sz<|ar 23<|T_nd 2 [14,101] [(121,Vq lB),(122,vs e madeN_2 madeC_2)]<|T_c (some 123) h ?_;clear h
    rintro d1 dp ⟨dc,a7,rfl,h⟩
    refine T_pd [121,122] [(123,.tuple #[vi dc,vi a7])]<|T_ed 5 [123] [(16,vi a7)]<|ar 24<|T_ed 2 [16] [(127,.bool (a7 !=0))] ?_
    by_cases c63:a7=0
    ·rw[if_pos c63]at h
     refine aJ 127 (bne_eq_false_iff_eq.mpr c63)<|T_kt<|ar 26<|T_ed 1 [127] [(17,VN)]<|T_sz<|ar 27<|T_ed 1 [] [(18,vi 0)]<|T_bz 8 ?_
     obtain⟨b9,m99,i65,i66⟩:=h
     refine bL (x:=K98) (σ:=zW×Nat×Nat×Int) (λs_=> [(1,vs (some f) d i),(7,Vq lB),(9,vs e madeN_2 madeC_2),(10,vi a3),(11,vp (pa lN)),(17,vs s_.1 s_.2.1 s_.2.2.1),(18,vi s_.2.2.2)]) (λs_ H=>b9 s_.1 s_.2.1 s_.2.2.1 s_.2.2.2 H) (λs_ H=>m99 s_.1 s_.2.1 s_.2.2.1 s_.2.2.2 H) ((none,0,0,0):zW×Nat×Nat×Int) (by kernel_rfl) i65 sk ?_
     rintro⟨rB,rN,rC,k_4⟩ H19 i67
     have h:=i66 rB rN rC k_4 H19 i67
     refine T_su [(1,vs (some f) d i),(7,Vq lB),(9,vs e madeN_2 madeC_2),(10,vi a3),(11,vp (pa lN)),(17,vs rB rN rC),(18,vi k_4)]<|T_sz<|ar 28<|T_ed 4 [] [(131,.bool (decide (k_4< (madeN_2:Int))))] ?_
     by_cases c68:k_4< (madeN_2:Int)
     ·rw[if_pos c68]at h
      refine aI 131 (zX c68)<|T_kt<|T_sz<|T_bz 9<|T_sz ?_
      obtain⟨bm,q70,g,rfl,q71,ck,q72,h⟩:=h
      refine yq 30 (Code.ops K108) [(8,lB,[vp bm]),(8,(g.add (Int.toNat k_4*1)),[vu ck])] 14 (bv 14 0) (show aF _ _ _ from⟨⟨q70,trivial⟩,⟨q72,trivial⟩,trivial⟩)<|T_gp 0 (some 135) (vp (some lB)) (bv 14 1) [(1,vs (some f) d i),(7,vp (some lB)),(9,vs (some g) madeN_2 madeC_2),(10,vi a3),(11,vp (pa lN)),(17,vs rB rN rC),(18,vi k_4),(135,vp (some lB))]<|aL 1 136 (vp (some lB)) (bv 14 3) [135]<|aL 2 137 (vp (some lB)) (bv 14 7) [136]<|T_g1 3 138 (vp bm) (bv 14 15) [137] (aU 33 (vp (some lB))) (yY 8 yX)<|aL 4 139 (vs (some g) madeN_2 madeC_2) (bv 14 31) []<|aL 5 140 (vi k_4) (bv 14 63) []<|T_g1 6 141 (vp (some (g.add (Int.toNat k_4*1)))) (bv 14 127) [139,140] (bK 29 (vs (some g) madeN_2 madeC_2) (vi k_4)) (λ_ w _ _ _=>dY (P:=prog) (t:=29) (elem:=40) (sz:=1) (a:=g) (len:=madeN_2) (cap:=madeC_2) (k:=.i64) (i:=k_4) underlying29 (λ_=>by kernel_rfl) q71.1 q71.2 w)<|T_g1 7 142 (vu ck) (bv 14 255) [141] (aU 40 (vp (some (g.add (Int.toNat k_4*1))))) (yY 8 yQ)<|yx 8 (some 143) (bv 14 511) 29 #[vp bm,vu ck] h ?_;clear h
      rintro d0 dt ⟨o,s,rfl,h⟩
      refine⟨[(1,vs (some f) d i),(7,Vq lB),(9,vs (some g) madeN_2 madeC_2),(10,vi a3),(11,vp (pa lN)),(17,vs rB rN rC),(18,vi k_4),(143,.tuple #[vi o,.bool s])],pk,(show aF _ _ _ from⟨trivial,trivial,trivial⟩),?_⟩
      refine T_g 9 (some 134) (.tuple #[vi o,.bool s]) (bv 14 1023) [(1,vs (some f) d i),(7,Vq lB),(9,vs (some g) madeN_2 madeC_2),(10,vi a3),(11,vp (pa lN)),(17,vs rB rN rC),(18,vi k_4),(134,.tuple #[vi o,.bool s])] (pure (.value (.tuple #[vi o,.bool s])):Sem Next) (λ_ _ _ _ _=>rfl)<|T_g1 10 144 (vi o) (bv 14 2047) [] (pure (.value (vi o)):Sem Next) (λ_ _ _ _ _=>rfl)<|T_g1 11 145 (.bool s) (bv 14 4095) [134] (pure (.value (.bool s)):Sem Next) (λ_ _ _ _ _=>rfl)<|T_g1 12 19 (vi o) (bv 14 8191) [144] (pure (.value (vi o)):Sem Next) (λ_ _ _ _ _=>rfl)<|T_g1 13 20 (.bool s) (bv 14 16383) [145] (pure (.value (.bool s)):Sem Next) (λ_ _ _ _ _=>rfl)<|fU [(1,vs (some f) d i),(7,Vq lB),(9,vs (some g) madeN_2 madeC_2),(10,vi a3),(11,vp (pa lN)),(17,vs rB rN rC),(18,vi k_4),(19,vi o),(20,.bool s)] sk<|yz<|aE<|ar 31<|T_n 1 [(1,vs (some f) d i),(7,Vq lB),(9,vs (some g) madeN_2 madeC_2),(10,vi a3),(11,vp (pa lN)),(17,vs rB rN rC),(18,vi k_4),(19,vi o),(20,.bool s),(146,Vq ((ad lN).add 5))] ?_
      obtain⟨cn,q73,h⟩:=h
      refine T_l1 147 51 q73 [146]<|T_nd 1 [] [(148,vi k_4)]<|T_c (some 149) h ?_;clear h
      rintro dy bi ⟨cd,rfl,h⟩
      refine T_pd [147,148] [(149,.bool cd)]<|T_nd 1 [149] [(150,.bool cd)] ?_
      by_cases c74:cd=true
      ·rw[if_pos c74]at h
       refine N_bd 150 c74<|T_ed 8 [19,20,150] [(158,VT)]<|T_tz 158<|T_rz 32<|T_nd 3 [17,158] [(159,vs rB rN rC),(160,vs (some g) madeN_2 madeC_2),(161,vi k_4)] ?_
       obtain⟨q76,h⟩:=h
       refine T_xd (some 162) 29 40 1 g madeN_2 madeC_2 .i64 k_4 underlying29 q76.1 q76.2 [160,161] [(162,Vq (g.add (Int.toNat k_4*1)))] ?_
       obtain⟨cp,q77,h⟩:=h
       refine T_l1 163 40 q77 [162]<|T_nw (some 164) (λlN=>vs (pa lN) 1 1) (.cells #[vu cp] 40) ?_
       intro co H22 e78 e79
       replace h:=h co H22 e78 e79
       refine T_pd [163] [(164,vs (pa co) 1 1)]<|N_op (some 165) (cJ #[29,29] 29 #[vs rB rN rC,vs (pa co) 1 1]) _ (λ_=>by kernel_rfl) (bQ (T:=40) (sz:=1) (bytes:=8) (zero:=(vu 0:Value)) underlying29 underlying29 rfl (show prog.info? 40=some t40 from by kernel_rfl) (by kernel_rfl) (by kernel_rfl) (by decide) (by kernel_rfl) (by first | exact h | (simpa only[Value.cells,List.toList_toArray]using h))) ?_;clear h
       rintro _ dl ⟨b3,bc,rfl,h⟩
       exact T_pd [159,164] [(165,vs b3 (rN+1) bc)]<|T_nd 1 [165] [(17,vs b3 (rN+1) bc)]<|zq<|aA<|aE<|T_rz 29<|T_ed 3 [18] [(18,vi (zY (k_4+1)))]<|aS ((b3,(rN+1),bc,(zY (k_4+1))):zW×Nat×Nat×Int) sk h
      rw[if_neg c74]at h
      refine N_bd 150 (zZ c74)<|T_nd 2 [20] [(152,.bool s)] ?_
      by_cases c80:s=true
      ·rw[if_pos c80]at h
       refine N_bd 152 c80<|T_nd 2 [19] [(153,vi o),(154,Vq ((ad lN).add 3))] ?_
       obtain⟨b4,q82,h⟩:=h
       refine T_l1 155 3 q82 [154]<|T_ed 3 [150,152,153,155] [(158,.bool (decide (o>b4)))] ?_
       by_cases c83:o>b4
       ·rw[if_pos c83]at h
        refine aI 158 (zX c83)<|T_rz 32<|T_nd 3 [17,158] [(159,vs rB rN rC),(160,vs (some g) madeN_2 madeC_2),(161,vi k_4)] ?_
        obtain⟨q85,h⟩:=h
        refine T_xd (some 162) 29 40 1 g madeN_2 madeC_2 .i64 k_4 underlying29 q85.1 q85.2 [160,161] [(162,Vq (g.add (Int.toNat k_4*1)))] ?_
        obtain⟨b6,q86,h⟩:=h
        refine T_l1 163 40 q86 [162]<|T_nw (some 164) (λlN=>vs (pa lN) 1 1) (.cells #[vu b6] 40) ?_
        intro ct H24 e87 e88
        replace h:=h ct H24 e87 e88
        refine T_pd [163] [(164,vs (pa ct) 1 1)]<|N_op (some 165) (cJ #[29,29] 29 #[vs rB rN rC,vs (pa ct) 1 1]) _ (λ_=>by kernel_rfl) (bQ (T:=40) (sz:=1) (bytes:=8) (zero:=(vu 0:Value)) underlying29 underlying29 rfl (show prog.info? 40=some t40 from by kernel_rfl) (by kernel_rfl) (by kernel_rfl) (by decide) (by kernel_rfl) (by first | exact h | (simpa only[Value.cells,List.toList_toArray]using h))) ?_;clear h
        rintro _ dk ⟨bt,bh,rfl,h⟩
        exact T_pd [159,164] [(165,vs bt (rN+1) bh)]<|T_nd 1 [165] [(17,vs bt (rN+1) bh)]<|zq<|aA<|aE<|T_rz 29<|T_ed 3 [18] [(18,vi (zY (k_4+1)))]<|aS ((bt,(rN+1),bh,(zY (k_4+1))):zW×Nat×Nat×Int) sk h
       rw[if_neg c83]at h
       exact aJ 158 (zQ c83)<|T_k<|aA<|aE<|T_rz 29<|T_ed 3 [18,158] [(18,vi (zY (k_4+1)))]<|aS ((rB,rN,rC,(zY (k_4+1))):zW×Nat×Nat×Int) sk h
      rw[if_neg c80]at h
      refine N_bd 152 (zZ c80)<|T_ed 6 [19,150,152] [(158,VF)]<|T_fz 158<|T_k ?_
      exact aA<|aE<|T_rz 29<|T_ed 3 [18,158] [(18,vi (zY (k_4+1)))]<|aS ((rB,rN,rC,(zY (k_4+1))):zW×Nat×Nat×Int) sk h
     rw[if_neg c68]at h
     refine aJ 131 (zQ c68)<|zk 8<|aD<|aD<|aM<|aE<|ar 33<|T_ed 1 [18,131] [(21,VN)]<|T_sz<|ar 34<|T_ed 1 [] [(22,vi 0)]<|T_bz 10 ?_
     obtain⟨ci,m122,i89,i90⟩:=h
     refine bL (x:=K121) (σ:=zW×Nat×Nat×Int) (λs_=> [(1,vs (some f) d i),(7,Vq lB),(9,vs e madeN_2 madeC_2),(10,vi a3),(11,vp (pa lN)),(17,vs rB rN rC),(21,vs s_.1 s_.2.1 s_.2.2.1),(22,vi s_.2.2.2)]) (λs_ H=>ci s_.1 s_.2.1 s_.2.2.1 s_.2.2.2 H) (λs_ H=>m122 s_.1 s_.2.1 s_.2.2.1 s_.2.2.2 H) ((none,0,0,0):zW×Nat×Nat×Int) (by kernel_rfl) i89 sk ?_
     rintro⟨pB,pN,pC,k_5⟩ H26 i91
     have h:=i90 pB pN pC k_5 H26 i91
     refine T_su [(1,vs (some f) d i),(7,Vq lB),(9,vs e madeN_2 madeC_2),(10,vi a3),(11,vp (pa lN)),(17,vs rB rN rC),(21,vs pB pN pC),(22,vi k_5)]<|T_sz<|ar 35<|T_ed 4 [] [(169,.bool (decide (k_5< (rN:Int))))] ?_
     by_cases c92:k_5< (rN:Int)
     ·rw[if_pos c92]at h
      refine aI 169 (zX c92)<|T_kt<|T_sz<|T_bz 11<|T_rz 37<|T_nd 3 [21,169] [(172,vs pB pN pC),(173,vs rB rN rC),(174,vi k_5)] ?_
      obtain⟨a6,rfl,q94,h⟩:=h
      refine T_xd (some 175) 29 40 1 a6 rN rC .i64 k_5 underlying29 q94.1 q94.2 [17,173,174] [(17,vs (some a6) rN rC),(175,Vq (a6.add (Int.toNat k_5*1)))]<|T_nw (some 176) (λlN=>vs (pa lN) 1 1) (.cells #[Vq (a6.add (Int.toNat k_5*1))] 39) ?_
      intro cs H27 e95 e96
      replace h:=h cs H27 e95 e96
      refine T_pd [175] [(176,vs (pa cs) 1 1)]<|N_op (some 177) (cJ #[38,38] 38 #[vs pB pN pC,vs (pa cs) 1 1]) _ (λ_=>by kernel_rfl) (bQ (T:=39) (sz:=1) (bytes:=8) (zero:=(vp none:Value)) underlying38 underlying38 rfl (show prog.info? 39=some t39 from by kernel_rfl) (by kernel_rfl) (by kernel_rfl) (by decide) (by kernel_rfl) (by first | exact h | (simpa only[Value.cells,List.toList_toArray]using h))) ?_;clear h
      rintro _ dr ⟨b1,bf,rfl,h⟩
      exact T_pd [172,176] [(177,vs b1 (pN+1) bf)]<|T_nd 1 [177] [(21,vs b1 (pN+1) bf)]<|zq<|aA<|aE<|T_rz 36<|T_ed 3 [22] [(22,vi (zY (k_5+1)))]<|aS ((b1,(pN+1),bf,(zY (k_5+1))):zW×Nat×Nat×Int) sk h
     rw[if_neg c92]at h
     refine aJ 169 (zQ c92)<|zk 10<|aD<|aD<|aM<|aE<|T_sz<|ar 38<|T_nd 2 [22,169] [(178,Vq lB),(179,Vq ((ad lN).add 3))] ?_
     obtain⟨bb,q97,h⟩:=h
     refine T_l1 180 3 q97 [179]<|T_nd 1 [11] [(181,Vq ((ad lN).add 4))] ?_
     obtain⟨b0,q98,h⟩:=h
     refine T_l1 182 3 q98 [181]<|T_nd 1 [21] [(183,vs pB pN pC)]<|T_c (some 184) h ?_;clear h
     rintro dw dj ⟨bj,rfl,h⟩
     refine T_pd [178,180,182,183] [(184,vi bj)]<|T_ne 1 [(1,vs (some f) d i),(7,Vq lB),(9,vs e madeN_2 madeC_2),(10,vi a3),(17,vs rB rN rC),(185,.bool (bj==0))] ?_
     obtain⟨J,h,j100⟩:=h
     refine pr (σ:=zW×Nat×Nat) (λs_=> [(1,vs (some f) d i),(7,Vq lB),(9,vs s_.1 s_.2.1 s_.2.2),(10,vi a3)]) (λs_ H=>J s_.1 s_.2.1 s_.2.2 H) ?_ ?_
     ·rintro⟨j,madeN_3,madeC_3⟩ H30 j101
      replace h:=j100 j madeN_3 madeC_3 H30 j101
      refine T_su [(1,vs (some f) d i),(7,Vq lB),(9,vs j madeN_3 madeC_3),(10,vi a3)]<|aE<|T_sz<|ar 40<|T_nd 2 [] [(188,Vq lB),(189,vs j madeN_3 madeC_3)]<|T_c (some 190) h ?_;clear h
      rintro dm c3 ⟨da,ba,rfl,h⟩
      refine T_pd [188,189] [(190,.tuple #[vi da,vi ba])]<|T_ed 5 [190] [(24,vi ba)]<|ar 41<|T_ed 2 [24] [(194,.bool (ba !=0))] ?_
      by_cases c102:ba=0
      ·rw[if_pos c102]at h
       refine aJ 194 (bne_eq_false_iff_eq.mpr c102)<|T_kt<|T_sz ?_
       obtain⟨db,q104,ak,rfl,bg,q105,h⟩:=h
       refine yq 43 (Code.ops K145) [(10,lB,[Vq ak]),(10,ak,[vp bg])] 12 (bv 12 0) (show aF _ _ _ from⟨⟨q104,trivial⟩,⟨q105,trivial⟩,trivial⟩)<|T_gp 0 (some 195) (Vq lB) (bv 12 1) [(1,vs (some f) d i),(7,Vq lB),(9,vs j madeN_3 madeC_3),(10,vi a3),(195,Vq lB)]<|aL 1 196 (vs j madeN_3 madeC_3) (bv 12 3) []<|aL 3 198 (Vq lB) (bv 12 11) []<|aL 4 199 (Vq lB) (bv 12 27) [198]<|aL 5 200 (Vq lB) (bv 12 59) [199]<|T_g1 6 201 (Vq ak) (bv 12 123) [200] (aU 33 (Vq lB)) (yY 10 yX)<|aL 7 202 (Vq ak) (bv 12 251) [201]<|aL 8 203 (Vq ak) (bv 12 507) [202]<|T_g1 9 204 (vp bg) (bv 12 1019) [203] (aU 42 (Vq ak)) (yY 10 yQ)<|yx 2 (some 197) (bv 12 1023) 15 #[Vq lB,vs j madeN_3 madeC_3] h ?_;clear h
       rintro dn dh ⟨av,rfl,f106,f107,h⟩
       refine⟨[(1,vs (some f) d i),(7,Vq lB),(9,vs j madeN_3 madeC_3),(10,vi a3),(197,vi av),(204,vp bg)],pk,(show aF _ _ _ from⟨f106,f107,trivial⟩),?_⟩
       refine yx 10 (some 205) (bv 12 2047) 13 #[vp bg,VN] h ?_;clear h
       rintro dq df ⟨ay,rfl,h⟩
       refine⟨[(1,vs (some f) d i),(7,Vq lB),(9,vs j madeN_3 madeC_3),(10,vi a3),(197,vi av),(205,vi ay)],pk,(show aF _ _ _ from⟨trivial,trivial,trivial⟩),?_⟩
       refine T_g 11 (some 206) (.bool (decide (av>ay))) (bv 12 4095) [(1,vs (some f) d i),(7,Vq lB),(9,vs j madeN_3 madeC_3),(10,vi a3),(206,.bool (decide (av>ay)))] (pure (.value (.bool (decide (av>ay)))):Sem Next) (λ_ _ _ _ _=>rfl)<|fU [(1,vs (some f) d i),(7,Vq lB),(9,vs j madeN_3 madeC_3),(10,vi a3),(206,.bool (decide (av>ay)))] sk<|yz<|aE ?_
       by_cases c108:av>ay
       ·rw[if_pos c108]at h
        exact aI 206 (zX c108)<|ar 44<|T_nr 3 [4,5,6] [vp none,VN,VF] hQ h
       rw[if_neg c108]at h
       exact aJ 206 (zQ c108)<|T_k<|aA<|aE<|T_rz 9<|T_ne 3 [(1,vs (some f) d i),(7,Vq lB),(9,vs j madeN_3 madeC_3),(10,vi (zY (a3+1)))]<|aS ((j,madeN_3,madeC_3,(zY (a3+1))):zW×Nat×Nat×Int) sk h
      rw[if_neg c102]at h
      exact aI 194 (bne_iff_ne.mpr c102)<|ar 42<|T_nr 3 [4,5,6] [vp none,VN,VF] hQ h
     by_cases c110:bj=0
     ·rw[if_pos c110]at h
      have b111:(bj==0)=true:=zK c110
      refine iU [(1,vs (some f) d i),(7,Vq lB),(9,vs e madeN_2 madeC_2),(10,vi a3),(17,vs rB rN rC),(185,VT)] (by simp only[b111,Bool.not_true,Bool.not_false]) ?_
      clear b111
      exact T_tz 185<|T_rz 39<|T_ed 2 [9,17,185] [(9,vs rB rN rC)]<|k7 ((rB,rN,rC):zW×Nat×Nat) sk h
     rw[if_neg c110]at h
     have b111:(bj==0)=false:=zJ c110
     refine iU [(1,vs (some f) d i),(7,Vq lB),(9,vs e madeN_2 madeC_2),(10,vi a3),(17,vs rB rN rC),(185,VF)] (by simp only[b111,Bool.not_true,Bool.not_false]) ?_
     clear b111
     exact T_fz 185<|T_kt<|k7 ((e,madeN_2,madeC_2):zW×Nat×Nat) sk h
    rw[if_neg c63]at h
    exact aI 127 (bne_iff_ne.mpr c63)<|ar 25<|T_nr 3 [4,5,6] [vp none,VN,VF] hQ h
   intro hk
   refine T_nu [(1,vs (some f) d i),(7,Vq lB),(9,vs e madeN_2 madeC_2),(10,vi a3),(11,vp (pa lN)),(13,vi l),(64,.bool (decide (l< (al:Int))))] ?_
   by_cases c27:l< (al:Int)
   ·have b28:(decide (l< (al:Int)))=true:=zX c27
    refine bW [(1,vs (some f) d i),(7,Vq lB),(9,vs e madeN_2 madeC_2),(10,vi a3),(11,vp (pa lN)),(13,vi l),(64,VT)] (by rw[b28]) ?_
    refine T_nd 4 [64] [(68,.bool (decide ((madeN_2:Int)>0)))]<|zq<|S_bd 68 (b:=(decide ((madeN_2:Int)>0))) (v:=((decide (l< (al:Int))) && (decide ((madeN_2:Int)>0)))) (by simp only[b28,BL]) ?_
    exact hk
   have b28:(decide (l< (al:Int)))=false:=zQ c27
   refine bW [(1,vs (some f) d i),(7,Vq lB),(9,vs e madeN_2 madeC_2),(10,vi a3),(11,vp (pa lN)),(13,vi l),(64,VF)] (by rw[b28]) ?_
   refine T_nd 4 [64] [(68,VF)]<|zq<|S_bd 68 (b:=false) (v:=((decide (l< (al:Int))) && (decide ((madeN_2:Int)>0)))) (by simp only[b28,BL]) ?_
   exact hk
  rw[if_neg c6]at h
  exact aJ 37 (zQ c6)<|zk 0<|aD<|aD<|aM<|aE<|ar 45<|T_nr 5 [4,5,6] [Vq lB,vs u madeN madeC,VT] hQ h
 rw[if_neg c1]at h
 exact aI 31 (bne_iff_ne.mpr c1)<|ar 3<|T_nr 3 [4,5,6] [vp none,VN,VT] hQ h
end eD
/-! moraine/morainelaw14.AuditMoves -/
namespace cL
def K0:=Func.code f6
def K2:=cb K0
def K4:=cb K2
def K11:=ca K4
def K12:=cb K4
def K14:=cb K11
def K15:=ca K14
def K16:=ca K15
def K18:=cb K16
def K23:=ca K18
def K25:=ca K23
def K26:=ca K25
def K29:=cb K26
def K30:=ca K29
def K31:=ca K30
def K54:=cb K12
def K56:=cb K54
def K64:=cb K56
def K66:=cb K64
def K68:=cb K66
def K69:=ca K68
def K72:=cb K69
def K73:=ca K72
def K74:=ca K73
end cL
def cL.pt(d:Int)(lB:zW)(lN lC:Nat)(H:zV)(R:zv):Prop:=
 dZ.C lB lN lC H (λv H1=> ∃x,v=.bool x/\
 if(x || ((lN:Int)==0))=true then(
 bM.C H1 (λb0 H2=> ∃ba,b0=.bool ba/\
 R (.bool ba) H2))
 else
 ∃(bh:zw) (m17:Int->zV->Nat),bh 0 H1/\ ∀i H3,bh i H3->
 if i< (lN:Int)then(
 ∃(bf:zw) (m32:Int->zV->Nat),bf 0 H3/\ ∀k H4,bf k H4->
 ∃j,lB=some j/\
 yZ i lN/\
 ∃xB xN xC,hat H4 (j.add (Int.toNat i*6))=some (vs xB xN xC)/\
 if k< (xN:Int)then(
 yZ i lN/\
 ∃a2 au av,hat H4 (j.add (Int.toNat i*6))=some (vs a2 au av)/\
 ∃ak,a2=some ak/\
 yZ k au/\
 ∃az,hat H4 (ak.add (Int.toNat k*8))=some (vi az)/\
 if az=1 then(
 bM.C H4 (λbu H5=> ∃a9,bu=.bool a9/\
 R (.bool a9) H5))
 else
 yZ i lN/\
 ∃a5 aq ax,hat H4 (j.add (Int.toNat i*6))=some (vs a5 aq ax)/\
 ∃aj,a5=some aj/\
 yZ k aq/\
 ∃ay,hat H4 (aj.add (Int.toNat k*8))=some (vi ay)/\
 if ay=4 then(
 bM.C H4 (λb3 H6=> ∃bb,b3=.bool bb/\
 R (.bool bb) H6))
 else
 (bf (zY (k+1)) H4/\m32 (zY (k+1)) H4<m32 k H4))
 else
 yZ i lN/\
 ∃be al bd,hat H4 ((j.add (Int.toNat i*6)).add 1)=some (vs be al bd)/\
 if(al:Int)>0 then(
 bM.C H4 (λbs H7=> ∃bc,bs=.bool bc/\
 R (.bool bc) H7))
 else
 (bh (zY (i+1)) H4/\m17 (zY (i+1)) H4<m17 i H3))
 else
 eD.C d lB lN lC H3 (λb6 H8=> ∃ra l e f rc,b6=.tuple #[vp ra,vs l e f,.bool rc]/\
 fE ra (
 ∃J:Bool->zV->Prop,(
 if rc=true then(
 bM.C H8 (λb5 bz=> ∃a7,b5=.bool a7/\
 J a7 bz))
 else
 J false H8)/\ ∀s4 H9,J s4 H9->
 R (.bool s4) H9) (λg=>
 ∃ai,lB=some ai/\
 ((0:Int)<=(zY ((lN:Int)-1))/\(zY ((lN:Int)-1))< (lN:Int))/\
 ∃af ac ae ab z aa s r u xG y ah,aQ H8 (ai.add (Int.toNat (zY ((lN:Int)-1))*6)) 0 [vs af ac ae,vs ab z aa,vs s r u,vi xG,vi y,.int .u32 ah]/\
 ∀b H11,b=H8.size->H11=H8.push (.cells #[VN,VN,VN,vi 0,vi 0,.int .u32 0] 53)->
 (aK H11 (ad b) 0 6)/\ ∀bi,bi=aR H11 (ad b) [vs af ac ae,vs ab z aa,vs s r u,vi xG,vi y,.int .u32 ah] 0->
 eR.C (some g) l e f bi (λb1 bw=> ∃o m n,b1=vs o m n/\
 gQ.C (some g) l e f bw (λbx b7=> ∃q,bx=vi q/\
 ∃(bg:zW->Nat->Nat->zw) (m75:zW->Nat->Nat->Int->zV->Nat),bg none 0 0 0 b7/\ ∀pB pN pC k_2 H15,bg pB pN pC k_2 H15->
 if k_2< (e:Int)then(
 ∃ag,l=some ag/\
 yZ k_2 e/\
 ∀a8 H16,a8=H15.size->H16=H15.push (.cells #[Vq (ag.add (Int.toNat k_2*1))] 39)->
 bR 1 39 8 [vp none] pB pN pC (some (ad a8)) 1 H16 (λap a6 bl=>
 (bg ap (pN+1) a6 (zY (k_2+1)) bl/\m75 ap (pN+1) a6 (zY (k_2+1)) bl<m75 pB pN pC k_2 H15)))
 else
 ∃am,hat H15 ((ad b).add 3)=some (vi am)/\
 ∃aw,hat H15 ((ad b).add 4)=some (vi aw)/\
 iV.C (some g) am aw pB pN pC H15 (λbj bo=> ∃p,bj=vi p/\
 if(((p !=0) && (p !=2)) && (p !=1))=true then(
 R VF bo)
 else
 eR.C (some g) l e f bo (λbk b8=> ∃a1 a0 a3,bk=vs a1 a0 a3/\
 jL.C a1 a0 a3 o m n b8 (λbp br=> ∃an,bp=.bool an/\
 if an=true then(
 gQ.C (some g) l e f br (λbm bn=> ∃ao,bm=vi ao/\
 if ao=q then(
 bM.C bn (λbq bt=> ∃a4,bq=.bool a4/\
 R (.bool a4) bt))
 else
 R VF bn))
 else
 R VF br))))))))
namespace cL
theorem link(h:pt b a d i H R):C b a d i H R:=by
 refine T_en K0 140 func6 ?_
 intro w0 Q hQ
 unfold pt zY at h
 refine T_su [(0,vi b),(1,vs a d i)]<|ar 0<|T_ed 1 [] []<|T_sz<|ar 1<|T_nd 1 [] [(16,vs a d i)]<|T_c (some 17) h ?_;clear h
 rintro v H1 ⟨x,rfl,h⟩
 refine T_pd [16] [(17,.bool x)]<|T_nd 1 [17] [(18,.bool x)] ?_
 refine iT [(0,vi b),(1,vs a d i),(22,.bool (x || ((d:Int)==0)))] ?_ ?_
 ·refine aE ?_
  by_cases c3:(x || ((d:Int)==0))=true
  ·rw[if_pos c3]at h
   refine aI 22 c3<|ar 2<|T_nu []<|T_c (some 23) h ?_;clear h
   rintro b0 H2 ⟨ba,rfl,h⟩
   refine⟨[(23,.bool ba)],pk,?_⟩
   exact T_nr 1 [4] [.bool ba] hQ h
  rw[if_neg c3]at h
  refine aJ 22 (zZ c3)<|T_kt<|T_sz<|ar 3<|T_ne 1 [(0,vi b),(1,vs a d i),(5,vi 0)]<|T_bz 0 ?_
  obtain⟨bh,m17,i5,i6⟩:=h
  refine bL (x:=K16) (σ:=Int) (λs_=> [(0,vi b),(1,vs a d i),(5,vi s_)]) (λs_ H=>bh s_ H) (λs_ H=>m17 s_ H) (0:Int) (by kernel_rfl) i5 sk ?_
  rintro lN H3 i7
  have h:=i6 lN H3 i7
  refine T_su [(0,vi b),(1,vs a d i),(5,vi lN)]<|T_sz<|ar 4<|T_ed 4 [] [(27,.bool (decide (lN< (d:Int))))] ?_
  by_cases c8:lN< (d:Int)
  ·rw[if_pos c8]at h
   refine aI 27 (zX c8)<|T_kt<|T_sz<|T_bz 1<|T_sz<|ar 6<|T_ed 1 [27] [(6,vi 0)]<|T_bz 2 ?_
   obtain⟨bf,m32,i10,i11⟩:=h
   refine bL (x:=K31) (σ:=Int) (λs_=> [(0,vi b),(1,vs a d i),(5,vi lN),(6,vi s_)]) (λs_ H=>bf s_ H) (λs_ H=>m32 s_ H) (0:Int) (by kernel_rfl) i10 sk ?_
   rintro k H4 i12
   have h:=i11 k H4 i12
   refine T_su [(0,vi b),(1,vs a d i),(5,vi lN),(6,vi k)]<|T_sz<|ar 7<|T_nd 3 [] [(30,vi k),(31,vs a d i),(32,vi lN)] ?_
   obtain⟨j,rfl,q13,h⟩:=h
   refine T_xd (some 33) 26 53 6 j d i .i64 lN underlying26 q13.1 q13.2 [1,31,32] [(1,vs (some j) d i),(33,Vq (j.add (Int.toNat lN*6)))]<|T_nd 1 [33] [(34,Vq (j.add (Int.toNat lN*6)))] ?_
   obtain⟨xB,xN,xC,q14,h⟩:=h
   refine T_l1 35 48 q14 [34]<|T_ed 2 [30,35] [(37,.bool (decide (k< (xN:Int))))] ?_
   by_cases c15:k< (xN:Int)
   ·rw[if_pos c15]at h
    refine aI 37 (zX c15)<|T_kt<|T_sz<|T_bz 3<|ar 9<|T_nd 2 [37] [(40,vs (some j) d i),(41,vi lN)] ?_
    obtain⟨q17,h⟩:=h
    refine T_xd (some 42) 26 53 6 j d i .i64 lN underlying26 q17.1 q17.2 [40,41] [(42,Vq (j.add (Int.toNat lN*6)))]<|T_nd 1 [42] [(43,Vq (j.add (Int.toNat lN*6)))] ?_
    obtain⟨a2,au,av,q18,h⟩:=h
    refine T_l1 44 48 q18 [43]<|T_nd 1 [] [(45,vi k)] ?_
    obtain⟨ak,rfl,q19,h⟩:=h
    refine T_xd (some 46) 48 57 8 ak au av .i64 k underlying48 q19.1 q19.2 [44,45] [(46,Vq (ak.add (Int.toNat k*8)))]<|T_nd 1 [46] [(47,Vq (ak.add (Int.toNat k*8)))] ?_
    obtain⟨az,q20,h⟩:=h
    refine T_l1 48 3 q20 [47]<|T_nd 2 [48] [(50,.bool (az==1))] ?_
    by_cases c21:az=1
    ·rw[if_pos c21]at h
     refine N_bd 50 (zK c21)<|T_ed 11 [50] [(61,VT)]<|T_tz 61<|ar 10<|T_nu [] ?_
     refine T_c (some 62) h ?_;clear h
     rintro bu H5 ⟨a9,rfl,h⟩
     refine⟨[(62,.bool a9)],pk,?_⟩
     exact T_nr 1 [4] [.bool a9] hQ h
    rw[if_neg c21]at h
    refine N_bd 50 (zJ c21)<|T_nd 2 [] [(51,vs (some j) d i),(52,vi lN)] ?_
    obtain⟨q23,h⟩:=h
    refine T_xd (some 53) 26 53 6 j d i .i64 lN underlying26 q23.1 q23.2 [51,52] [(53,Vq (j.add (Int.toNat lN*6)))]<|T_nd 1 [53] [(54,Vq (j.add (Int.toNat lN*6)))] ?_
    obtain⟨a5,aq,ax,q24,h⟩:=h
    refine T_l1 55 48 q24 [54]<|T_nd 1 [] [(56,vi k)] ?_
    obtain⟨aj,rfl,q25,h⟩:=h
    refine T_xd (some 57) 48 57 8 aj aq ax .i64 k underlying48 q25.1 q25.2 [55,56] [(57,Vq (aj.add (Int.toNat k*8)))]<|T_nd 1 [57] [(58,Vq (aj.add (Int.toNat k*8)))] ?_
    obtain⟨ay,q26,h⟩:=h
    refine T_l1 59 3 q26 [58]<|T_ed 2 [50,59] [(61,.bool (ay==4))] ?_
    by_cases c27:ay=4
    ·rw[if_pos c27]at h
     refine aI 61 (zK c27)<|ar 10<|T_nu []<|T_c (some 62) h ?_;clear h
     rintro b3 H6 ⟨bb,rfl,h⟩
     refine⟨[(62,.bool bb)],pk,?_⟩
     exact T_nr 1 [4] [.bool bb] hQ h
    rw[if_neg c27]at h
    exact aJ 61 (zJ c27)<|T_k<|aA<|aE<|T_rz 8<|T_ed 3 [6,61] [(6,vi (zY (k+1)))]<|aS ((zY (k+1)):Int) sk h
   rw[if_neg c15]at h
   refine aJ 37 (zQ c15)<|zk 2<|aD<|aD<|aM<|aE<|ar 11<|T_nd 2 [6,37] [(63,vs (some j) d i),(64,vi lN)] ?_
   obtain⟨q29,h⟩:=h
   refine T_xd (some 65) 26 53 6 j d i .i64 lN underlying26 q29.1 q29.2 [63,64] [(65,Vq (j.add (Int.toNat lN*6)))]<|T_nd 1 [65] [(66,Vq ((j.add (Int.toNat lN*6)).add 1))] ?_
   obtain⟨be,al,bd,q30,h⟩:=h
   refine T_l1 67 49 q30 [66]<|T_ed 2 [67] [(69,.bool (decide ((al:Int)>0)))] ?_
   by_cases c31:(al:Int)>0
   ·rw[if_pos c31]at h
    refine aI 69 (zX c31)<|ar 12<|T_nu []<|T_c (some 70) h ?_;clear h
    rintro bs H7 ⟨bc,rfl,h⟩
    refine⟨[(70,.bool bc)],pk,?_⟩
    exact T_nr 1 [4] [.bool bc] hQ h
   rw[if_neg c31]at h
   exact aJ 69 (zQ c31)<|T_k<|aA<|aE<|T_rz 5<|T_ed 3 [5,69] [(5,vi (zY (lN+1)))]<|aS ((zY (lN+1)):Int) sk h
  rw[if_neg c8]at h
  refine aJ 27 (zQ c8)<|zk 0<|aD<|aD<|aM<|aE<|ar 13<|T_nd 2 [0,5,27] [(72,vi b),(73,vs a d i)]<|T_c (some 74) h ?_;clear h
  rintro b6 H8 ⟨ra,l,e,f,rc,rfl,h⟩
  refine T_pd [72,73] [(74,.tuple #[vp ra,vs l e f,.bool rc])]<|T_ed 7 [74] [(7,vp ra),(8,vs l e f),(9,.bool rc)]<|T_sz<|ar 14<|T_nd 1 [] [(78,vp ra)] ?_
  rcases ra with _ | g
  ·rw[onPtr_none]at h
   refine T_ne 1 [(1,vs a d i),(7,vp none),(8,vs l e f),(9,.bool rc),(79,VT)]<|T_tz 79<|T_sz ?_
   obtain⟨J,h,j34⟩:=h
   refine pr (σ:=Bool) (λs_=> [(4,.bool s_)]) (λs_ H=>J s_ H) ?_ ?_
   ·rintro s4 H9 j35
    replace h:=j34 s4 H9 j35
    exact T_su [(4,.bool s4)]<|aE<|jF [4] [.bool s4] hQ h
   refine T_rz 15<|T_n 2 [(81,.bool rc)] ?_
   by_cases c36:rc=true
   ·rw[if_pos c36]at h
    have b37:rc=true:=c36
    refine bW [(81,VT)] (by rw[b37]) ?_
    clear b37
    refine T_c (some 82) h ?_;clear h
    rintro b5 bz ⟨a7,rfl,h⟩
    exact T_pd [] [(82,.bool a7)]<|T_ne 2 [(4,.bool a7)]<|k7 (a7:Bool) sk h
   rw[if_neg c36]at h
   have b37:rc=false:=zZ c36
   refine bW [(81,VF)] (by rw[b37]) ?_
   clear b37
   exact T_ne 3 [(4,VF)]<|k7 (false:Bool) sk h
  rw[onPtr_some]at h
  refine T_ed 1 [7,78] [(7,Vq g),(79,VF)]<|T_fz 79<|T_kt<|ar 16<|T_nd 4 [1,9,79] [(84,vs a d i),(87,vi (zY ((d:Int)-1)))] ?_
  obtain⟨ai,rfl,q38,h⟩:=h
  refine T_xd (some 88) 26 53 6 ai d i .i64 (zY ((d:Int)-1)) underlying26 q38.1 q38.2 [84,87] [(88,vp (some (ai.add (Int.toNat (zY ((d:Int)-1))*6))))] ?_
  obtain⟨af,ac,ae,ab,z,aa,s,r,u,xG,y,ah,q39,h⟩:=h
  refine T_lr 89 53 q39 [88]<|T_nw (some 10) (λlC=>vp (pa lC)) (.cells #[VN,VN,VN,vi 0,vi 0,.int .u32 0] 53) ?_
  intro lC H11 e40 e41
  replace h:=h lC H11 e40 e41
  refine T_pd [] [(10,vp (pa lC))] ?_
  obtain⟨q43,h⟩:=h
  refine fG 53 [vs af ac ae,vs ab z aa,vs s r u,vi xG,vi y,.int .u32 ah] q43 ?_
  intro bi e42
  replace h:=h bi e42
  refine T_pd [89] []<|T_e<|ar 17<|T_nd 2 [] [(90,Vq g),(91,vs l e f)]<|T_c (some 92) h ?_;clear h
  rintro b1 bw ⟨o,m,n,rfl,h⟩
  refine T_pd [90,91] [(92,vs o m n)]<|T_nd 2 [] [(93,Vq g),(94,vs l e f)]<|T_c (some 95) h ?_;clear h
  rintro bx b7 ⟨q,rfl,h⟩
  refine T_pd [93,94] [(95,vi q)]<|T_ed 2 [92,95] [(11,vs o m n),(12,vi q)]<|ar 18<|T_ed 1 [] [(13,VN)]<|T_sz<|ar 19<|T_ed 1 [] [(14,vi 0)]<|T_bz 4 ?_
  obtain⟨bg,m75,i44,i45⟩:=h
  refine bL (x:=K74) (σ:=zW×Nat×Nat×Int) (λs_=> [(7,Vq g),(8,vs l e f),(10,vp (pa lC)),(11,vs o m n),(12,vi q),(13,vs s_.1 s_.2.1 s_.2.2.1),(14,vi s_.2.2.2)]) (λs_ H=>bg s_.1 s_.2.1 s_.2.2.1 s_.2.2.2 H) (λs_ H=>m75 s_.1 s_.2.1 s_.2.2.1 s_.2.2.2 H) ((none,0,0,0):zW×Nat×Nat×Int) (by kernel_rfl) i44 sk ?_
  rintro⟨pB,pN,pC,k_2⟩ H15 i46
  have h:=i45 pB pN pC k_2 H15 i46
  refine T_su [(7,Vq g),(8,vs l e f),(10,vp (pa lC)),(11,vs o m n),(12,vi q),(13,vs pB pN pC),(14,vi k_2)]<|T_sz<|ar 20<|T_ed 4 [] [(99,.bool (decide (k_2< (e:Int))))] ?_
  by_cases c47:k_2< (e:Int)
  ·rw[if_pos c47]at h
   refine aI 99 (zX c47)<|T_kt<|T_sz<|T_bz 5<|T_rz 22<|T_nd 3 [13,99] [(102,vs pB pN pC),(103,vs l e f),(104,vi k_2)] ?_
   obtain⟨ag,rfl,q49,h⟩:=h
   refine T_xd (some 105) 29 40 1 ag e f .i64 k_2 underlying29 q49.1 q49.2 [8,103,104] [(8,vs (some ag) e f),(105,Vq (ag.add (Int.toNat k_2*1)))]<|T_nw (some 106) (λlC=>vs (pa lC) 1 1) (.cells #[Vq (ag.add (Int.toNat k_2*1))] 39) ?_
   intro a8 H16 e50 e51
   replace h:=h a8 H16 e50 e51
   refine T_pd [105] [(106,vs (pa a8) 1 1)]<|N_op (some 107) (cJ #[38,38] 38 #[vs pB pN pC,vs (pa a8) 1 1]) _ (λ_=>by kernel_rfl) (bQ (T:=39) (sz:=1) (bytes:=8) (zero:=(vp none:Value)) underlying38 underlying38 rfl (show prog.info? 39=some t39 from by kernel_rfl) (by kernel_rfl) (by kernel_rfl) (by decide) (by kernel_rfl) (by first | exact h | (simpa only[Value.cells,List.toList_toArray]using h))) ?_;clear h
   rintro _ bl ⟨ap,a6,rfl,h⟩
   exact T_pd [102,106] [(107,vs ap (pN+1) a6)]<|T_nd 1 [107] [(13,vs ap (pN+1) a6)]<|zq<|aA<|aE<|T_rz 21<|T_ed 3 [14] [(14,vi (zY (k_2+1)))]<|aS ((ap,(pN+1),a6,(zY (k_2+1))):zW×Nat×Nat×Int) sk h
  rw[if_neg c47]at h
  refine aJ 99 (zQ c47)<|zk 4<|aD<|aD<|aM<|aE<|ar 23<|T_nd 2 [14,99] [(108,Vq g),(109,Vq ((ad lC).add 3))] ?_
  obtain⟨am,q52,h⟩:=h
  refine T_l1 110 3 q52 [109]<|T_nd 1 [10] [(111,Vq ((ad lC).add 4))] ?_
  obtain⟨aw,q53,h⟩:=h
  refine T_l1 112 3 q53 [111]<|T_nd 1 [13] [(113,vs pB pN pC)]<|T_c (some 114) h ?_;clear h
  rintro bj bo ⟨p,rfl,h⟩
  refine T_pd [108,110,112,113] [(114,vi p)]<|T_ed 1 [114] [(15,vi p)]<|T_sz<|ar 24 ?_
  refine iT [(7,Vq g),(8,vs l e f),(11,vs o m n),(12,vi q),(124,.bool (((p !=0) && (p !=2)) && (p !=1)))] ?_ ?_
  ·refine aE ?_
   by_cases c58:(((p !=0) && (p !=2)) && (p !=1))=true
   ·rw[if_pos c58]at h
    exact aI 124 c58<|ar 25<|T_nr 1 [4] [VF] hQ h
   rw[if_neg c58]at h
   refine aJ 124 (zZ c58)<|T_kt<|ar 26<|T_n 2 [(7,Vq g),(8,vs l e f),(11,vs o m n),(12,vi q),(125,Vq g),(126,vs l e f)]<|T_c (some 127) h ?_;clear h
   rintro bk b8 ⟨a1,a0,a3,rfl,h⟩
   refine T_pd [125,126] [(127,vs a1 a0 a3)]<|T_nd 1 [11] [(128,vs o m n)]<|T_c (some 129) h ?_;clear h
   rintro bp br ⟨an,rfl,h⟩
   refine T_pd [127,128] [(129,.bool an)]<|T_nd 1 [129] [(130,.bool an)] ?_
   by_cases c60:an=true
   ·rw[if_pos c60]at h
    refine N_bd 130 c60<|T_nd 2 [7,8] [(131,Vq g),(132,vs l e f)] ?_
    refine T_c (some 133) h ?_;clear h
    rintro bm bn ⟨ao,rfl,h⟩
    refine T_pd [131,132] [(133,vi ao)]<|T_n 4 [(137,.bool (ao==q))] ?_
    by_cases c62:ao=q
    ·rw[if_pos c62]at h
     have b63:(ao==q)=true:=zK c62
     refine bW [(137,VT)] (by rw[b63]) ?_
     clear b63
     refine T_c (some 138) h ?_;clear h
     rintro bq bt ⟨a4,rfl,h⟩
     exact T_pd [] [(138,.bool a4)]<|T_nr 2 [4] [.bool a4] hQ h
    rw[if_neg c62]at h
    have b63:(ao==q)=false:=zJ c62
    refine bW [(137,VF)] (by rw[b63]) ?_
    clear b63
    exact T_nr 3 [4] [VF] hQ h
   rw[if_neg c60]at h
   exact N_bd 130 (zZ c60)<|T_nr 10 [4] [VF] hQ h
  intro hk
  refine T_n 3 [(7,Vq g),(8,vs l e f),(11,vs o m n),(12,vi q),(15,vi p),(117,.bool (p !=0))] ?_
  by_cases c54:p=0
  ·have b55:(p !=0)=false:=bne_eq_false_iff_eq.mpr c54
   refine bW [(7,Vq g),(8,vs l e f),(11,vs o m n),(12,vi q),(15,vi p),(117,VF)] (by rw[b55]) ?_
   refine T_nd 7 [15,117] [(124,VF)]<|zq<|S_bd 124 (b:=false) (v:=(((p !=0) && (p !=2)) && (p !=1))) (by simp only[b55,BL]) ?_
   exact hk
  have b55:(p !=0)=true:=bne_iff_ne.mpr c54
  refine bW [(7,Vq g),(8,vs l e f),(11,vs o m n),(12,vi q),(15,vi p),(117,VT)] (by rw[b55]) ?_
  refine T_nd 4 [117] [(121,.bool (p !=2))] ?_
  by_cases c56:p=2
  ·have b57:(p !=2)=false:=bne_eq_false_iff_eq.mpr c56
   refine N_bd 121 b57<|T_nd 3 [15,121] [(124,VF)] ?_
   refine zq<|S_bd 124 (b:=false) (v:=(((p !=0) && (p !=2)) && (p !=1))) (by simp only[b55,b57,BL]) ?_
   exact hk
  have b57:(p !=2)=true:=bne_iff_ne.mpr c56
  refine N_bd 121 b57<|T_nd 3 [15,121] [(124,.bool (p !=1))] ?_
  refine zq<|S_bd 124 (b:=(p !=1)) (v:=(((p !=0) && (p !=2)) && (p !=1))) (by simp only[b55,b57,BL]) ?_
  exact hk
 intro hk
 refine T_nu [(0,vi b),(1,vs a d i),(18,.bool x)] ?_
 by_cases c1:x=true
 ·have b2:x=true:=c1
  refine bW [(0,vi b),(1,vs a d i),(18,VT)] (by rw[b2]) ?_
  refine T_nd 4 [18] [(22,VT)]<|zq<|S_bd 22 (b:=true) (v:=(x || ((d:Int)==0))) (by simp only[b2,BL]) ?_
  exact hk
 have b2:x=false:=zZ c1
 refine bW [(0,vi b),(1,vs a d i),(18,VF)] (by rw[b2]) ?_
 refine T_nd 4 [18] [(22,.bool ((d:Int)==0))]<|zq<|S_bd 22 (b:=((d:Int)==0)) (v:=(x || ((d:Int)==0))) (by simp only[b2,BL]) ?_
 exact hk
end cL
variable{H:zV}{R:zv}{a d i:Int}{b:zW}
/-! moraine/obj.New -/
namespace kR
def K0:=Func.code f17
end kR
def kR.pt(a:Int)(H:zV)(R:zv):Prop:=
 kF.C a H (λv H1=> ∃ra rb,v=.tuple #[vp ra,vi rb]/\
 if rb=0 then(
 ∀b H2,b=H1.size->H2=H1.push (.cells #[vp ra,VN,VN,vu 0] 37)->
 R (.tuple #[Vq (ad b),vi 0]) H2)
 else
 R (.tuple #[vp none,vi rb]) H1)
namespace kR
theorem link(h:pt a H R):C a H R:=by
 refine T_en K0 17 func17 ?_
 intro w0 Q hQ
 unfold pt at h
 refine T_su [(0,vi a)]<|ar 0<|T_ed 2 [] []<|ar 1<|T_n 1 [(7,vi a)]<|T_c (some 8) h ?_;clear h
 rintro v H1 ⟨ra,rb,rfl,h⟩
 refine⟨[(8,.tuple #[vp ra,vi rb])],pk,?_⟩
 refine T_ne 5 [(4,vp ra),(5,vi rb)]<|T_sz<|ar 2<|T_ed 2 [] [(12,.bool (rb !=0))] ?_
 by_cases c1:rb=0
 ·rw[if_pos c1]at h
  refine aJ 12 (bne_eq_false_iff_eq.mpr c1)<|T_kt<|ar 4<|T_n 2 [(15,.agg #[vp ra,VN,VN,vu 0])]<|T_nw (some 16) (λb=>vp (pa b)) (.cells #[vp ra,VN,VN,vu 0] 37) ?_
  intro b H2 e3 e4
  replace h:=h b H2 e3 e4
  refine⟨[(16,vp (pa b))],pk,?_⟩
  exact T_nr 2 [2,3] [vp (pa b),vi 0] hQ h
 rw[if_neg c1]at h
 exact aI 12 (bne_iff_ne.mpr c1)<|ar 3<|T_nr 3 [2,3] [vp none,vi rb] hQ h
end kR
/-! (*moraine/obj.Heap).Type -/
namespace cP
def K0:=Func.code f47
end cP
def cP.pt(hv:zW)(wv:Int)(H:zV)(R:zv):Prop:=
 cI.C hv wv H (λv H1=> ∃ra rb rc rd re,v=.tuple #[vi ra,vi rb,vi rc,vu rd,.bool re]/\
 R (vi rb) H1)
namespace cP
theorem link(h:pt b a H R):C b a H R:=by
 refine T_en K0 20 func47 ?_
 intro w0 Q hQ
 unfold pt at h
 refine T_su [(0,vp b),(1,vu a)]<|ar 0<|T_ed 1 [] []<|ar 1<|T_n 2 [(11,vp b),(12,vu a)]<|T_c (some 13) h ?_;clear h
 rintro v H1 ⟨ra,rb,rc,rd,re,rfl,h⟩
 refine⟨[(13,.tuple #[vi ra,vi rb,vi rc,vu rd,.bool re])],pk,?_⟩
 exact T_ne 11 [(6,vi rb)]<|ar 2<|T_nr 2 [4] [vi rb] hQ h
end cP
/-! (*moraine/obj.Heap).More -/
namespace eS
def K0:=Func.code f48
end eS
def eS.pt(hv:zW)(wv:Int)(H:zV)(R:zv):Prop:=
 cI.C hv wv H (λv H1=> ∃ra rb rc rd re,v=.tuple #[vi ra,vi rb,vi rc,vu rd,.bool re]/\
 R (vu rd) H1)
namespace eS
theorem link(h:pt b a H R):C b a H R:=by
 refine T_en K0 20 func48 ?_
 intro w0 Q hQ
 unfold pt at h
 refine T_su [(0,vp b),(1,vu a)]<|ar 0<|T_ed 1 [] []<|ar 1<|T_n 2 [(11,vp b),(12,vu a)]<|T_c (some 13) h ?_;clear h
 rintro v H1 ⟨ra,rb,rc,rd,re,rfl,h⟩
 refine⟨[(13,.tuple #[vi ra,vi rb,vi rc,vu rd,.bool re])],pk,?_⟩
 exact T_ne 11 [(8,vu rd)]<|ar 2<|T_nr 2 [4] [vu rd] hQ h
end eS
/-! (*moraine/obj.Heap).Len -/
namespace cY
def K0:=Func.code f51
end cY
def cY.pt(hv:zW)(wv:Int)(H:zV)(R:zv):Prop:=
 cI.C hv wv H (λv H1=> ∃ra rb rc rd re,v=.tuple #[vi ra,vi rb,vi rc,vu rd,.bool re]/\
 R (vi rc) H1)
namespace cY
theorem link(h:pt b a H R):C b a H R:=by
 refine T_en K0 20 func51 ?_
 intro w0 Q hQ
 unfold pt at h
 refine T_su [(0,vp b),(1,vu a)]<|ar 0<|T_ed 1 [] []<|ar 1<|T_n 2 [(11,vp b),(12,vu a)]<|T_c (some 13) h ?_;clear h
 rintro v H1 ⟨ra,rb,rc,rd,re,rfl,h⟩
 refine⟨[(13,.tuple #[vi ra,vi rb,vi rc,vu rd,.bool re])],pk,?_⟩
 exact T_ne 11 [(7,vi rc)]<|ar 2<|T_nr 2 [4] [vi rc] hQ h
end cY
/-! (*moraine/obj.Heap).Get -/
namespace eG
def K0:=Func.code f52
end eG
def eG.pt(hv:zW)(wv a i:Int)(H:zV)(R:zv):Prop:=
 fK.C hv wv a i H (λv H1=> ∃ra rb,v=.tuple #[vi ra,vi rb]/\
 if rb=0 then(
 ∃g,hv=some g/\
 ∃x,hat H1 g=some (vp x)/\
 ∃xA,x=some xA/\
 ∃f,hat H1 xA=some (vp f)/\
 ∃j,f=some j/\
 ∃e,hat H1 j=some (vp e)/\
 cK.C e ra H1 (λk H2=> ∃b d,k=.tuple #[vu b,vi d]/\
 R (.tuple #[vu b,vi d]) H2))
 else
 R (.tuple #[vu 0,vi rb]) H1)
namespace eG
theorem link(h:pt b a d i H R):C b a d i H R:=by
 refine T_en K0 37 func52 ?_
 intro w0 Q hQ
 unfold pt at h
 refine T_su [(0,vp b),(1,vu a),(2,vi d),(3,vi i)]<|ar 0<|T_ed 2 [] []<|ar 1<|T_n 4 [(0,vp b),(13,vp b),(14,vu a),(15,vi d),(16,vi i)]<|T_c (some 17) h ?_;clear h
 rintro v H1 ⟨ra,rb,rfl,h⟩
 refine⟨[(0,vp b),(17,.tuple #[vi ra,vi rb])],pk,?_⟩
 refine T_ed 5 [17] [(10,vi ra),(11,vi rb)]<|T_sz<|ar 2<|T_ed 2 [] [(21,.bool (rb !=0))] ?_
 by_cases c1:rb=0
 ·rw[if_pos c1]at h
  refine aJ 21 (bne_eq_false_iff_eq.mpr c1)<|T_kt<|ar 4<|T_n 1 [(10,vi ra),(23,vp b)] ?_
  obtain⟨g,rfl,h⟩:=h
  refine T_nd 2 [23] [(25,Vq g)] ?_
  obtain⟨x,q3,h⟩:=h
  refine T_l1 26 33 q3 [25] ?_
  obtain⟨xA,rfl,h⟩:=h
  refine T_nd 2 [26] [(28,Vq xA)] ?_
  obtain⟨f,q4,h⟩:=h
  refine T_l1 29 42 q4 [28] ?_
  obtain⟨j,rfl,h⟩:=h
  refine T_nd 2 [29] [(31,Vq j)] ?_
  obtain⟨e,q5,h⟩:=h
  refine T_l1 32 70 q5 [31]<|T_nd 1 [10] [(33,vi ra)]<|T_c (some 34) h ?_;clear h
  rintro k H2 ⟨wv,hv,rfl,h⟩
  refine⟨[(34,.tuple #[vu wv,vi hv])],pk,?_⟩
  exact T_nr 4 [8,9] [vu wv,vi hv] hQ h
 rw[if_neg c1]at h
 exact aI 21 (bne_iff_ne.mpr c1)<|ar 3<|T_nr 3 [8,9] [vu 0,vi rb] hQ h
end eG
/-! (*moraine/obj.Heap).put -/
namespace gH
def K0:=Func.code f54
def K2:=cb K0
def K4:=cb K2
def K12:=cb K4
def K14:=cb K12
def K19:=ca K14
def K22:=cb K19
def K23:=ca K22
def K24:=ca K23
end gH
def gH.pt(hv:zW)(f d:Int)(lB:zW)(lN lC:Nat)(H:zV)(R:zv):Prop:=
 fL.C hv H (λv H1=> ∃x,v=.bool x/\
 if x=true then(
 R (.tuple #[vu 0,vi 2]) H1)
 else
 ∃e,hv=some e/\
 ∃u,hat H1 e=some (vp u)/\
 ∃z,u=some z/\
 ∃n,hat H1 z=some (vp n)/\
 dJ.C n 0 f (lN:Int) H1 (λac H2=> ∃ra rb,ac=.tuple #[vi ra,vi rb]/\
 if rb=0 then(
 ∃(p:zw) (m25:Int->zV->Nat),p 0 H2/\ ∀b H3,p b H3->
 if b< (lN:Int)then(
 ∃g,lB=some g/\
 yZ b lN/\
 ∃j,hat H3 (g.add (Int.toNat b*1))=some (vu j)/\
 ∃y,hat H3 e=some (vp y)/\
 ∃r,y=some r/\
 ∃q,hat H3 r=some (vp q)/\
 ∃s,q=some s/\
 ∃o,hat H3 s=some (vp o)/\
 cM.C o (zY (ra+b)) j H3 (λaa H4=> ∃ae,aa=vi ae/\
 (p (zY (b+1)) H4/\m25 (zY (b+1)) H4<m25 b H3)))
 else
 j3.C d ra H3 (λab H5=> ∃l m,ab=.tuple #[vu l,vi m]/\
 R (.tuple #[vu l,vi m]) H5))
 else
 R (.tuple #[vu 0,vi rb]) H2))
namespace gH
theorem link{lB:zW}{lN lC:Nat}(h:pt b a d lB lN lC H R):C b a d lB lN lC H R:=by
 refine T_en K0 61 func54 ?_
 intro w0 Q hQ
 unfold pt zY at h
 refine T_su [(0,vp b),(1,vi a),(2,vi d),(3,vs lB lN lC)]<|ar 0<|T_ed 2 [] []<|T_sz<|ar 1<|T_nd 1 [] [(14,vp b)]<|T_c (some 15) h ?_;clear h
 rintro v H1 ⟨x,rfl,h⟩
 refine T_pd [14] [(15,.bool x)]<|T_e ?_
 by_cases c1:x=true
 ·rw[if_pos c1]at h
  exact aI 15 c1<|ar 2<|T_nr 2 [8,9] [vu 0,vi 2] hQ h
 rw[if_neg c1]at h
 refine aJ 15 (zZ c1)<|T_kt<|ar 3<|T_nd 1 [15] [(17,vp b)] ?_
 obtain⟨e,rfl,h⟩:=h
 refine T_nd 2 [0,17] [(0,Vq e),(19,Vq e)] ?_
 obtain⟨u,q3,h⟩:=h
 refine T_l1 20 33 q3 [19] ?_
 obtain⟨z,rfl,h⟩:=h
 refine T_nd 2 [20] [(22,Vq z)] ?_
 obtain⟨n,q4,h⟩:=h
 refine T_l1 23 42 q4 [22]<|T_nd 3 [1] [(24,vi a),(26,vi lN)]<|T_c (some 27) h ?_;clear h
 rintro ac H2 ⟨ra,rb,rfl,h⟩
 refine T_pd [23,24,26] [(27,.tuple #[vi ra,vi rb])]<|T_ed 5 [27] [(10,vi ra),(11,vi rb)]<|T_sz<|ar 4<|T_ed 2 [] [(31,.bool (rb !=0))] ?_
 by_cases c5:rb=0
 ·rw[if_pos c5]at h
  refine aJ 31 (bne_eq_false_iff_eq.mpr c5)<|T_kt<|T_sz<|ar 6<|T_ed 3 [3,11,31] [(33,vs lB lN lC),(34,vi lN),(35,vi 0)]<|T_bz 0 ?_
  obtain⟨p,m25,i7,i8⟩:=h
  refine bL (x:=K24) (σ:=Int) (λs_=> [(0,Vq e),(2,vi d),(10,vi ra),(33,vs lB lN lC),(34,vi lN),(35,vi s_)]) (λs_ H=>p s_ H) (λs_ H=>m25 s_ H) (0:Int) (by kernel_rfl) i7 sk ?_
  rintro f H3 i9
  have h:=i8 f H3 i9
  refine T_su [(0,Vq e),(2,vi d),(10,vi ra),(33,vs lB lN lC),(34,vi lN),(35,vi f)]<|ar 7<|T_ed 1 [] [(36,.bool (decide (f< (lN:Int))))]<|T_sz ?_
  by_cases c10:f< (lN:Int)
  ·rw[if_pos c10]at h
   refine aI 36 (zX c10)<|T_kt<|T_sz<|T_bz 1<|ar 8<|T_nd 1 [36] [(37,vi f)] ?_
   obtain⟨g,rfl,q12,h⟩:=h
   refine T_xd (some 38) 29 40 1 g lN lC .i64 f underlying29 q12.1 q12.2 [33] [(33,vs (some g) lN lC),(38,Vq (g.add (Int.toNat f*1)))] ?_
   obtain⟨j,q13,h⟩:=h
   refine T_l1 39 40 q13 [38]<|T_ed 2 [37,39] [(12,vi f),(13,vu j)]<|T_rz 9<|T_nd 3 [] [(42,Vq e)] ?_
   obtain⟨y,q14,h⟩:=h
   refine T_l1 43 33 q14 [42] ?_
   obtain⟨r,rfl,h⟩:=h
   refine T_nd 2 [43] [(45,Vq r)] ?_
   obtain⟨q,q15,h⟩:=h
   refine T_l1 46 42 q15 [45] ?_
   obtain⟨s,rfl,h⟩:=h
   refine T_nd 2 [46] [(48,Vq s)] ?_
   obtain⟨o,q16,h⟩:=h
   refine T_l1 49 70 q16 [48]<|T_nd 4 [12,13] [(52,vi (zY (ra+f))),(53,vu j)]<|T_c (some 54) h ?_;clear h
   rintro aa H4 ⟨ae,rfl,h⟩
   exact T_pd [49,52,53] []<|zq<|aA<|aE<|T_rz 10<|T_ed 2 [35] [(35,vi (zY (f+1)))]<|aS ((zY (f+1)):Int) sk h
  rw[if_neg c10]at h
  refine aJ 36 (zQ c10)<|zk 0<|aD<|aD<|aM<|aE<|ar 11<|T_n 2 [(56,vi d),(57,vi ra)]<|T_c (some 58) h ?_;clear h
  rintro ab H5 ⟨l,m,rfl,h⟩
  refine⟨[(58,.tuple #[vu l,vi m])],pk,?_⟩
  exact T_nr 4 [8,9] [vu l,vi m] hQ h
 rw[if_neg c5]at h
 exact aI 31 (bne_iff_ne.mpr c5)<|ar 5<|T_nr 3 [8,9] [vu 0,vi rb] hQ h
end gH
/-! (*moraine/obj.Heap).Make -/
namespace gt
def K0:=Func.code f60
end gt
def gt.pt(hv:zW)(a d:Int)(lB:zW)(lN lC:Nat)(H:zV)(R:zv):Prop:=
 iQ.C a 0 d H (λv H1=> ∃ra rb,v=.tuple #[vu ra,vi rb]/\
 if rb=0 then(
 if(lN:Int)>62 then(
 R (.tuple #[vu 0,vi 6]) H1)
 else
 iQ.C a (lN:Int) d H1 (λm H2=> ∃e i,m=.tuple #[vu e,vi i]/\
 kS.C a H2 (λk H3=> ∃x,k=vi x/\
 ∀b H4,b=H3.size->H4=H3.push (.cells #[vu e] 40)->
 bR 1 40 8 [vu 0] (some (ad b)) 1 1 lB lN H4 (λap j H5=>
 gH.C hv x 3 ap (1+lN) j H5 (λl H6=> ∃f g,l=.tuple #[vu f,vi g]/\
 R (.tuple #[vu f,vi g]) H6)))))
 else
 R (.tuple #[vu 0,vi rb]) H1)
namespace gt
theorem link{lB:zW}{lN lC:Nat}(h:pt b a d lB lN lC H R):C b a d lB lN lC H R:=by
 refine T_en K0 44 func60 ?_
 intro w0 Q hQ
 unfold pt at h
 refine T_su [(0,vp b),(1,vi a),(2,vu d),(3,vs lB lN lC)]<|ar 0<|T_ed 2 [] []<|T_sz<|ar 1<|T_nd 2 [] [(15,vi a),(16,vu d)]<|T_c (some 17) h ?_;clear h
 rintro v H1 ⟨ra,rb,rfl,h⟩
 refine T_pd [15,16] [(17,.tuple #[vu ra,vi rb])]<|T_ed 5 [17] [(11,vi rb)]<|ar 2<|T_ed 2 [] [(21,.bool (rb !=0))] ?_
 by_cases c1:rb=0
 ·rw[if_pos c1]at h
  refine aJ 21 (bne_eq_false_iff_eq.mpr c1)<|T_kt<|T_sz<|ar 4<|T_ed 3 [11,21] [(25,.bool (decide ((lN:Int)>62)))] ?_
  by_cases c3:(lN:Int)>62
  ·rw[if_pos c3]at h
   exact aI 25 (zX c3)<|ar 5<|T_nr 2 [8,9] [vu 0,vi 6] hQ h
  rw[if_neg c3]at h
  refine aJ 25 (zQ c3)<|T_kt<|ar 6<|T_nd 4 [2,25] [(27,vi a),(29,vi lN),(30,vu d)]<|T_c (some 31) h ?_;clear h
  rintro m H2 ⟨e,i,rfl,h⟩
  refine T_pd [27,29,30] [(31,.tuple #[vu e,vi i])]<|T_ed 5 [31] [(12,vu e)]<|ar 7<|T_nd 2 [0,1] [(34,vp b),(35,vi a)]<|T_c (some 36) h ?_;clear h
  rintro k H3 ⟨x,rfl,h⟩
  refine T_pd [35] [(36,vi x)]<|T_nd 1 [12] [(37,vu e)]<|T_nw (some 38) (λhv=>vs (pa hv) 1 1) (.cells #[vu e] 40) ?_
  intro hv H4 e5 e6
  replace h:=h hv H4 e5 e6
  refine T_pd [37] [(38,vs (pa hv) 1 1)]<|T_nd 1 [3] [(39,vs lB lN lC)]<|N_op (some 40) (cJ #[29,29] 29 #[vs (pa hv) 1 1,vs lB lN lC]) _ (λ_=>by kernel_rfl) (bQ (T:=40) (sz:=1) (bytes:=8) (zero:=(vu 0:Value)) underlying29 underlying29 rfl (show prog.info? 40=some t40 from by kernel_rfl) (by kernel_rfl) (by kernel_rfl) (by decide) (by kernel_rfl) (by first | exact h | (simpa only[Value.cells,List.toList_toArray]using h))) ?_;clear h
  rintro _ H5 ⟨ap,j,rfl,h⟩
  refine T_pd [38,39] [(40,vs ap (1+lN) j)]<|T_c (some 41) h ?_;clear h
  rintro l H6 ⟨f,g,rfl,h⟩
  refine⟨[(41,.tuple #[vu f,vi g])],pk,?_⟩
  exact T_nr 4 [8,9] [vu f,vi g] hQ h
 rw[if_neg c1]at h
 exact aI 21 (bne_iff_ne.mpr c1)<|ar 3<|T_nr 3 [8,9] [vu 0,vi rb] hQ h
end gt
/-! (*moraine/obj.Heap).object -/
namespace cI
def K0:=Func.code f96
def K2:=cb K0
def K3:=ca K2
def K6:=cb K3
def K7:=ca K6
def K8:=ca K7
end cI
def cI.pt(hv:zW)(wv:Int)(H:zV)(R:zv):Prop:=
 ∃(I9:zw) (m9:Int->zV->Nat),I9 0 H/\ ∀a H1,I9 a H1->
 if a<2 then(
 ∃x,((0<=a/\a< (2:Int))/\(#[vi 2,vi 3]:Array Value)[Int.toNat a]?=some (vi x))/\
 iE.C hv wv 3 x H1 (λv H2=> ∃ra rb,v=.tuple #[vi ra,.bool rb]/\
 if rb=true then(
 ∃e,hv=some e/\
 ∃af,hat H2 e=some (vp af)/\
 ∃ah,af=some ah/\
 ∃z,hat H2 ah=some (vp z)/\
 ∃aa,z=some aa/\
 ∃u,hat H2 aa=some (vp u)/\
 cK.C u ra H2 (λam H3=> ∃o ai,am=.tuple #[vu o,vi ai]/\
 ke.C o H3 (λak H4=> ∃f d rc rd,ak=.tuple #[vi f,vi d,vu rc,.bool rd]/\
 ∃ag,hat H4 e=some (vp ag)/\
 ∃ab,ag=some ab/\
 ∃ac,hat H4 ab=some (vp ac)/\
 ∃ae,ac=some ae/\
 ∃y,hat H4 ae=some (vp y)/\
 bH.C y (zY (Int.tdiv ra 64)) H4 (λal H5=> ∃m l q g k i j r,al=.tuple #[.agg #[vi m,vi l,vi q,vi g,vi k,vi i,vi j],.bool r]/\
 ∀b H6,b=H5.size->H6=H5.push (.cells #[vi 0,vi 0,vi 0,vi 0,vi 0,vi 0,vi 0] 89)->
 (aK H6 (ad b) 0 7)/\ ∀H7,H7=aR H6 (ad b) [vi m,vi l,vi q,vi g,vi k,vi i,vi j] 0->
 if rd=true then(
 kS.C f H7 (λaj H8=> ∃s,aj=vi s/\
 if s=x then(
 ∃p,hat H8 ((ad b).add 2)=some (vi p)/\
 if(zY ((Int.tmod ra 64)+d))<p then(
 R (.tuple #[vi ra,vi f,vi d,vu rc,VT]) H8)
 else
 (I9 (zY (a+1)) H8/\m9 (zY (a+1)) H8<m9 a H1))
 else
 (I9 (zY (a+1)) H8/\m9 (zY (a+1)) H8<m9 a H1)))
 else
 (I9 (zY (a+1)) H7/\m9 (zY (a+1)) H7<m9 a H1)))))
 else
 (I9 (zY (a+1)) H2/\m9 (zY (a+1)) H2<m9 a H1)))
 else
 R (.tuple #[vi 0,vi 0,vi 0,vu 0,VF]) H1
namespace cI
theorem link(h:pt b a H R):C b a H R:=by
 refine T_en K0 87 func96 ?_
 intro w0 Q hQ
 unfold pt zY at h
 refine T_su [(0,vp b),(1,vu a)]<|ar 0<|T_ed 5 [] []<|T_sz<|ar 1<|T_ed 2 [] [(15,.agg #[vi 2,vi 3]),(16,vi 0)]<|T_bz 0 ?_
 obtain⟨I9,m9,i1,i2⟩:=h
 refine bL (x:=K8) (σ:=Int) (λs_=> [(0,vp b),(1,vu a),(15,.agg #[vi 2,vi 3]),(16,vi s_)]) (λs_ H=>I9 s_ H) (λs_ H=>m9 s_ H) (0:Int) (by kernel_rfl) i1 sk ?_
 rintro wv H1 i3
 have h:=i2 wv H1 i3
 refine T_su [(0,vp b),(1,vu a),(15,.agg #[vi 2,vi 3]),(16,vi wv)]<|ar 2<|T_ed 1 [] [(17,.bool (decide (wv<2)))]<|T_sz ?_
 by_cases c4:wv<2
 ·rw[if_pos c4]at h
  refine aI 17 (zX c4)<|T_kt<|T_sz<|T_bz 1<|ar 3<|T_ud [17] [] ?_
  obtain⟨x,q6,h⟩:=h
  refine T_v1 18 (mD 193 (.agg #[vi 2,vi 3]) (vi wv)) (vi x) (λw _=>j2 (P:=prog) (t:=193) (elem:=3) (n:=2) underlying193 (λ_=>by kernel_rfl) (λ_=>by kernel_rfl) q6.1.1 q6.1.2 q6.2 w) []<|T_ed 1 [18] [(10,vi x)]<|T_sz<|ar 4<|T_nd 3 [] [(20,vp b),(21,vu a),(22,vi x)]<|T_c (some 23) h ?_;clear h
  rintro v H2 ⟨ra,rb,rfl,h⟩
  refine T_pd [20,21,22] [(23,.tuple #[vi ra,.bool rb])]<|T_ed 5 [23] [(4,vi ra),(8,.bool rb)]<|ar 5<|T_ed 2 [8] [(27,.bool (!rb))] ?_
  by_cases c7:rb=true
  ·rw[if_pos c7]at h
   refine aJ 27 (congrArg Bool.not (c7))<|T_kt<|ar 6<|T_nd 1 [27] [(29,vp b)] ?_
   obtain⟨e,rfl,h⟩:=h
   refine T_nd 2 [0,29] [(0,Vq e),(31,Vq e)] ?_
   obtain⟨af,q9,h⟩:=h
   refine T_l1 32 33 q9 [31] ?_
   obtain⟨ah,rfl,h⟩:=h
   refine T_nd 2 [32] [(34,Vq ah)] ?_
   obtain⟨z,q10,h⟩:=h
   refine T_l1 35 42 q10 [34] ?_
   obtain⟨aa,rfl,h⟩:=h
   refine T_nd 2 [35] [(37,Vq aa)] ?_
   obtain⟨u,q11,h⟩:=h
   refine T_l1 38 70 q11 [37]<|T_nd 1 [] [(39,vi ra)]<|T_c (some 40) h ?_;clear h
   rintro am H3 ⟨o,ai,rfl,h⟩
   refine T_pd [38,39] [(40,.tuple #[vu o,vi ai])]<|T_ed 5 [40] [(11,vu o)]<|ar 7<|T_nd 1 [11] [(44,vu o)]<|T_c (some 45) h ?_;clear h
   rintro ak H4 ⟨f,d,rc,rd,rfl,h⟩
   refine T_pd [44] [(45,.tuple #[vi f,vi d,vu rc,.bool rd])]<|T_ed 9 [45] [(5,vi f),(6,vi d),(7,vu rc),(8,.bool rd)]<|ar 8<|T_nd 3 [] [(53,Vq e)] ?_
   obtain⟨ag,q12,h⟩:=h
   refine T_l1 54 33 q12 [53] ?_
   obtain⟨ab,rfl,h⟩:=h
   refine T_nd 2 [54] [(56,Vq ab)] ?_
   obtain⟨ac,q13,h⟩:=h
   refine T_l1 57 42 q13 [56] ?_
   obtain⟨ae,rfl,h⟩:=h
   refine T_nd 2 [57] [(59,Vq ae)] ?_
   obtain⟨y,q14,h⟩:=h
   refine T_l1 60 70 q14 [59]<|T_nd 2 [] [(62,vi (zY (Int.tdiv ra 64)))]<|T_c (some 63) h ?_;clear h
   rintro al H5 ⟨m,l,q,g,k,i,j,r,rfl,h⟩
   refine T_pd [60,62] [(63,.tuple #[.agg #[vi m,vi l,vi q,vi g,vi k,vi i,vi j],.bool r])]<|T_nd 3 [63] [(64,.agg #[vi m,vi l,vi q,vi g,vi k,vi i,vi j]),(65,.bool r)]<|T_nw (some 13) (λhv=>vp (pa hv)) (.cells #[vi 0,vi 0,vi 0,vi 0,vi 0,vi 0,vi 0] 89) ?_
   intro hv H6 e15 e16
   replace h:=h hv H6 e15 e16
   refine T_pd [] [(13,vp (pa hv))] ?_
   obtain⟨q18,h⟩:=h
   refine fG 89 [vi m,vi l,vi q,vi g,vi k,vi i,vi j] q18 ?_
   intro H7 e17
   replace h:=h H7 e17
   refine T_pd [64] []<|T_ed 1 [65] []<|ar 9<|T_nd 2 [8] [(67,.bool rd)] ?_
   by_cases c19:rd=true
   ·rw[if_pos c19]at h
    refine N_bd 67 c19<|T_nd 1 [] [(68,vi f)] ?_
    refine T_c (some 69) h ?_;clear h
    rintro aj H8 ⟨s,rfl,h⟩
    refine T_pd [68] [(69,vi s)]<|T_nd 4 [10,67,69] [(73,.bool (s==x))] ?_
    by_cases c21:s=x
    ·rw[if_pos c21]at h
     refine N_bd 73 (zK c21)<|T_nd 5 [13] [(77,vi (zY ((Int.tmod ra 64)+d))),(78,Vq ((ad hv).add 2))] ?_
     obtain⟨p,q23,h⟩:=h
     refine T_l1 79 3 q23 [78]<|T_ed 2 [73,77,79] [(81,.bool (decide ((zY ((Int.tmod ra 64)+d))<p)))] ?_
     by_cases c24:(zY ((Int.tmod ra 64)+d))<p
     ·rw[if_pos c24]at h
      exact aI 81 (zX c24)<|ar 10<|T_nr 9 [4,5,6,7,8] [vi ra,vi f,vi d,vu rc,VT] hQ h
     rw[if_neg c24]at h
     exact aJ 81 (zQ c24)<|T_k<|aA<|aE<|T_rz 11<|T_ed 2 [4,5,6,7,16,81] [(16,vi (zY (wv+1)))]<|aS ((zY (wv+1)):Int) sk h
    rw[if_neg c21]at h
    refine N_bd 73 (zJ c21)<|T_ed 8 [13,73] [(81,VF)]<|T_fz 81<|T_k ?_
    exact aA<|aE<|T_rz 11<|T_ed 2 [4,5,6,7,16,81] [(16,vi (zY (wv+1)))]<|aS ((zY (wv+1)):Int) sk h
   rw[if_neg c19]at h
   refine N_bd 67 (zZ c19)<|T_ed 14 [10,13,67] [(81,VF)]<|T_fz 81<|T_k ?_
   exact aA<|aE<|T_rz 11<|T_ed 2 [4,5,6,7,16,81] [(16,vi (zY (wv+1)))]<|aS ((zY (wv+1)):Int) sk h
  rw[if_neg c7]at h
  exact aI 27 (congrArg Bool.not (zZ c7))<|zk 1<|aD<|aM<|aE<|T_rz 11<|T_ed 2 [4,10,16,27] [(16,vi (zY (wv+1)))]<|aS ((zY (wv+1)):Int) sk h
 rw[if_neg c4]at h
 exact aJ 17 (zQ c4)<|zk 0<|aD<|aD<|aM<|aE<|ar 12<|T_nr 5 [4,5,6,7,8] [vi 0,vi 0,vi 0,vu 0,VF] hQ h
end cI
/-! (*moraine/obj.Heap).field -/
namespace fK
def K0:=Func.code f98
end fK
def fK.pt(hv:zW)(wv a i:Int)(H:zV)(R:zv):Prop:=
 cI.C hv wv H (λv H1=> ∃ra rb rc rd re,v=.tuple #[vi ra,vi rb,vi rc,vu rd,.bool re]/\
 if((!re) || (rb !=a))=true then(
 R (.tuple #[vi 0,vi 3]) H1)
 else
 if((decide (i<0)) || (decide (i>=rc)))=true then(
 R (.tuple #[vi 0,vi 4]) H1)
 else
 R (.tuple #[vi (zY ((zY (ra+1))+i)),vi 0]) H1)
namespace fK
theorem link(h:pt b a d i H R):C b a d i H R:=by
 refine T_en K0 44 func98 ?_
 intro w0 Q hQ
 unfold pt zY at h
 refine T_su [(0,vp b),(1,vu a),(2,vi d),(3,vi i)]<|ar 0<|T_ed 2 [] []<|ar 1<|T_nd 2 [0,1] [(16,vp b),(17,vu a)]<|T_c (some 18) h ?_;clear h
 rintro v H1 ⟨ra,rb,rc,rd,re,rfl,h⟩
 refine T_pd [16,17] [(18,.tuple #[vi ra,vi rb,vi rc,vu rd,.bool re])]<|T_ed 11 [18] [(10,vi ra),(11,vi rb),(12,vi rc),(14,.bool re)]<|T_sz<|T_bz 0<|ar 2 ?_
 refine iT [(3,vi i),(10,vi ra),(12,vi rc),(24,.bool ((!re) || (rb !=d)))] ?_ ?_
 ·refine aE ?_
  by_cases c3:((!re) || (rb !=d))=true
  ·rw[if_pos c3]at h
   exact aI 24 c3<|ar 3<|T_nr 2 [8,9] [vi 0,vi 3] hQ h
  rw[if_neg c3]at h
  refine aJ 24 (zZ c3)<|ar 4 ?_
  refine iT [(3,vi i),(10,vi ra),(32,.bool ((decide (i<0)) || (decide (i>=rc))))] ?_ ?_
  ·refine aE ?_
   by_cases c7:((decide (i<0)) || (decide (i>=rc)))=true
   ·rw[if_pos c7]at h
    exact aI 32 c7<|ar 5<|T_nr 2 [8,9] [vi 0,vi 4] hQ h
   rw[if_neg c7]at h
   exact aJ 32 (zZ c7)<|T_k<|aA<|aE<|ar 6<|T_nr 6 [8,9] [vi (zY ((zY (ra+1))+i)),vi 0] hQ h
  intro hk
  refine T_n 3 [(3,vi i),(10,vi ra),(12,vi rc),(35,.bool (decide (i<0)))] ?_
  by_cases c5:i<0
  ·have b6:(decide (i<0))=true:=zX c5
   refine bW [(3,vi i),(10,vi ra),(12,vi rc),(35,VT)] (by rw[b6]) ?_
   refine T_nd 5 [12,35] [(32,VT)]<|zq<|S_bd 32 (b:=true) (v:=((decide (i<0)) || (decide (i>=rc)))) (by simp only[b6,BL]) ?_
   exact hk
  have b6:(decide (i<0))=false:=zQ c5
  refine bW [(3,vi i),(10,vi ra),(12,vi rc),(35,VF)] (by rw[b6]) ?_
  refine T_nd 5 [12,35] [(32,.bool (decide (i>=rc)))]<|zq<|S_bd 32 (b:=(decide (i>=rc))) (v:=((decide (i<0)) || (decide (i>=rc)))) (by simp only[b6,BL]) ?_
  exact hk
 intro hk
 refine T_n 3 [(2,vi d),(3,vi i),(10,vi ra),(11,vi rb),(12,vi rc),(27,.bool (!re))] ?_
 by_cases c1:re=true
 ·have b2:(!re)=false:=congrArg Bool.not (c1)
  have b22:re=true:=c1
  refine bW [(2,vi d),(3,vi i),(10,vi ra),(11,vi rb),(12,vi rc),(27,VF)] (by simp only[b2,b22,Bool.not_true,Bool.not_false]) ?_
  refine T_nd 5 [2,11,27] [(24,.bool (rb !=d))]<|zq<|S_bd 24 (b:=(rb !=d)) (v:=((!re) || (rb !=d))) (by simp only[b2,BL]) ?_
  exact hk
 have b2:(!re)=true:=congrArg Bool.not (zZ c1)
 have b22:re=false:=zZ c1
 refine bW [(2,vi d),(3,vi i),(10,vi ra),(11,vi rb),(12,vi rc),(27,VT)] (by simp only[b2,b22,Bool.not_true,Bool.not_false]) ?_
 refine T_nd 5 [2,11,27] [(24,VT)]<|zq<|S_bd 24 (b:=true) (v:=((!re) || (rb !=d))) (by simp only[b2,BL]) ?_
 exact hk
end fK
/-! (*moraine/obj.Heap).none -/
namespace fL
def K0:=Func.code f100
end fL
def fL.pt(hv:zW)(H:zV)(R:zv):Prop:=
 fE hv (
 R VT H) (λa=>
 ∃x,hat H a=some (vp x)/\
 fE x (
 R VT H) (λxA=>
 R VF H))
namespace fL
theorem link(h:pt b H R):C b H R:=by
 refine T_en K0 12 func100 ?_
 intro w0 Q hQ
 unfold pt at h
 refine T_su [(0,vp b)]<|ar 0<|T_ed 1 [] []<|ar 1<|T_nd 1 [] [(3,vp b)] ?_
 rcases b with _ | a
 ·rw[onPtr_none]at h
  exact T_nr 9 [2] [VT] hQ h
 rw[onPtr_some]at h
 refine T_n 5 [(5,VF),(8,Vq a)] ?_
 obtain⟨x,q1,h⟩:=h
 refine T_l1 9 33 q1 [8] ?_
 rcases x with _ | xA
 ·rw[onPtr_none]at h
  exact T_nr 3 [2] [VT] hQ h
 rw[onPtr_some]at h
 exact T_nr 3 [2] [VF] hQ h
end fL
/-! moraine/obj.raw -/
namespace kS
def K0:=Func.code f106
end kS
def kS.pt(a:Int)(H:zV)(R:zv):Prop:=
 if((a==2) || (a==3))=true then(
 R (vi 3) H)
 else
 R (vi 2) H
namespace kS
theorem link(h:pt a H R):C a H R:=by
 refine T_en K0 9 func106 ?_
 intro w0 Q hQ
 unfold pt at h
 refine T_su [(0,vi a)]<|ar 0<|T_ed 1 [] []<|T_sz<|ar 1 ?_
 refine iT [(8,.bool ((a==2) || (a==3)))] ?_ ?_
 ·refine aE ?_
  by_cases c3:((a==2) || (a==3))=true
  ·rw[if_pos c3]at h
   exact aI 8 c3<|ar 2<|T_nr 1 [2] [vi 3] hQ h
  rw[if_neg c3]at h
  exact aJ 8 (zZ c3)<|T_kt<|ar 3<|T_nr 1 [2] [vi 2] hQ h
 intro hk
 refine T_n 3 [(0,vi a),(5,.bool (a==2))] ?_
 by_cases c1:a=2
 ·have b2:(a==2)=true:=zK c1
  refine bW [(0,vi a),(5,VT)] (by rw[b2]) ?_
  refine T_n 3 [(8,VT)]<|zq<|iU [(8,.bool ((a==2) || (a==3)))] (by simp only[b2,BL]) ?_
  exact hk
 have b2:(a==2)=false:=zJ c1
 refine bW [(0,vi a),(5,VF)] (by rw[b2]) ?_
 refine T_n 3 [(8,.bool (a==3))]<|zq<|iU [(8,.bool ((a==2) || (a==3)))] (by simp only[b2,BL]) ?_
 exact hk
end kS
/-! (*moraine/obj.Heap).Set -/
namespace iN
def K0:=Func.code f109
end iN
def iN.pt(hv:zW)(wv a i v:Int)(H:zV)(R:zv):Prop:=
 fK.C hv wv a i H (λe H1=> ∃ra rb,e=.tuple #[vi ra,vi rb]/\
 if rb=0 then(
 ∃d,hv=some d/\
 ∃x,hat H1 d=some (vp x)/\
 dX.C x ra v H1 (λf H2=> ∃b,f=vi b/\
 R (vi b) H2))
 else
 R (vi rb) H1)
namespace iN
theorem link{v:Int}(h:pt b a d i v H R):C b a d i v H R:=by
 refine T_en K0 31 func109 ?_
 intro w0 Q hQ
 unfold pt at h
 refine T_su [(0,vp b),(1,vu a),(2,vi d),(3,vi i),(4,vu v)]<|ar 0<|T_ed 1 [] []<|ar 1<|T_nd 4 [1,2,3] [(14,vp b),(15,vu a),(16,vi d),(17,vi i)]<|T_c (some 18) h ?_;clear h
 rintro e H1 ⟨ra,rb,rfl,h⟩
 refine T_pd [14,15,16,17] [(18,.tuple #[vi ra,vi rb])]<|T_ed 5 [18] [(11,vi ra),(12,vi rb)]<|T_sz<|ar 2<|T_ed 2 [] [(22,.bool (rb !=0))] ?_
 by_cases c1:rb=0
 ·rw[if_pos c1]at h
  refine aJ 22 (bne_eq_false_iff_eq.mpr c1)<|T_kt<|ar 4<|T_nd 1 [0,12,22] [(24,vp b)] ?_
  obtain⟨hv,rfl,h⟩:=h
  refine T_nd 2 [24] [(26,Vq hv)] ?_
  obtain⟨x,q3,h⟩:=h
  refine T_l1 27 33 q3 [26]<|T_nd 2 [4,11] [(28,vi ra),(29,vu v)]<|T_c (some 30) h ?_;clear h
  rintro f H2 ⟨wv,rfl,h⟩
  refine⟨[(30,vi wv)],pk,?_⟩
  exact T_nr 1 [10] [vi wv] hQ h
 rw[if_neg c1]at h
 exact aI 22 (bne_iff_ne.mpr c1)<|ar 3<|T_nr 2 [10] [vi rb] hQ h
end iN
/-! (*moraine/obj.Heap).at -/
namespace iE
def K0:=Func.code f129
end iE
def iE.pt(hv:zW)(wv i a:Int)(H:zV)(R:zv):Prop:=
 gR.C wv H (λv H1=> ∃ra rb,v=.tuple #[vi ra,.bool rb]/\
 fL.C hv H1 (λab H2=> ∃x,ab=.bool x/\
 if x=true then(
 R (.tuple #[vi 0,VF]) H2)
 else
 if rb=true then(
 cS.C wv H2 (λz H3=> ∃p,z=vi p/\
 if p=i then(
 ∃s,hv=some s/\
 ∃t,hat H3 s=some (vp t)/\
 ∃u,t=some u/\
 ∃r,hat H3 u=some (vp r)/\
 ∃y,r=some y/\
 ∃q,hat H3 y=some (vp q)/\
 bH.C q (zY (Int.tdiv ra 64)) H3 (λaa H4=> ∃l k o d g e f j,aa=.tuple #[.agg #[vi l,vi k,vi o,vi d,vi g,vi e,vi f],.bool j]/\
 ∀b H5,b=H4.size->H5=H4.push (.cells #[vi 0,vi 0,vi 0,vi 0,vi 0,vi 0,vi 0] 89)->
 (aK H5 (ad b) 0 7)/\ ∀H6,H6=aR H5 (ad b) [vi l,vi k,vi o,vi d,vi g,vi e,vi f] 0->
 if j=true then(
 ∃m,hat H6 ((ad b).add 1)=some (vi m)/\
 if m=a then(
 ∃n,hat H6 ((ad b).add 2)=some (vi n)/\
 R (.tuple #[vi ra,.bool (decide ((Int.tmod ra 64)<n))]) H6)
 else
 R (.tuple #[vi ra,VF]) H6)
 else
 R (.tuple #[vi ra,VF]) H6))
 else
 R (.tuple #[vi 0,VF]) H3))
 else
 R (.tuple #[vi 0,VF]) H2))
namespace iE
theorem link(h:pt b a d i H R):C b a d i H R:=by
 refine T_en K0 61 func129 ?_
 intro w0 Q hQ
 unfold pt zY at h
 refine T_su [(0,vp b),(1,vu a),(2,vi d),(3,vi i)]<|ar 0<|T_ed 2 [] []<|ar 1<|T_nd 1 [] [(14,vu a)]<|T_c (some 15) h ?_;clear h
 rintro v H1 ⟨ra,rb,rfl,h⟩
 refine T_pd [14] [(15,.tuple #[vi ra,.bool rb])]<|T_ed 5 [15] [(10,vi ra),(11,.bool rb)]<|T_sz<|ar 2<|T_nd 1 [] [(18,vp b)]<|T_c (some 19) h ?_;clear h
 rintro ab H2 ⟨x,rfl,h⟩
 refine T_pd [18] [(19,.bool x)]<|T_nd 1 [19] [(20,.bool x)] ?_
 by_cases c1:x=true
 ·rw[if_pos c1]at h
  exact N_bd 20 c1<|T_ed 9 [1,2,11,20] [(29,VT)]<|T_tz 29<|ar 3<|T_nr 2 [8,9] [vi 0,VF] hQ h
 rw[if_neg c1]at h
 refine N_bd 20 (zZ c1)<|T_nd 4 [11,20] [(24,.bool (!rb))] ?_
 by_cases c3:rb=true
 ·rw[if_pos c3]at h
  have b4:(!rb)=false:=congrArg Bool.not (c3)
  have b42:rb=true:=c3
  refine N_bd 24 (b:=(!rb)) (v:=false) (by simp only[b4,b42,Bool.not_true,Bool.not_false]) ?_
  clear b4 b42
  refine T_nd 1 [1] [(25,vu a)]<|T_c (some 26) h ?_;clear h
  rintro z H3 ⟨p,rfl,h⟩
  refine T_pd [25] [(26,vi p)]<|T_ed 3 [2,24,26] [(29,.bool (p !=d))] ?_
  by_cases c5:p=d
  ·rw[if_pos c5]at h
   refine aJ 29 (bne_eq_false_iff_eq.mpr c5)<|T_kt<|ar 4<|T_nd 1 [0,29] [(31,vp b)] ?_
   obtain⟨s,rfl,h⟩:=h
   refine T_nd 2 [31] [(33,Vq s)] ?_
   obtain⟨t,q7,h⟩:=h
   refine T_l1 34 33 q7 [33] ?_
   obtain⟨u,rfl,h⟩:=h
   refine T_nd 2 [34] [(36,Vq u)] ?_
   obtain⟨r,q8,h⟩:=h
   refine T_l1 37 42 q8 [36] ?_
   obtain⟨y,rfl,h⟩:=h
   refine T_nd 2 [37] [(39,Vq y)] ?_
   obtain⟨q,q9,h⟩:=h
   refine T_l1 40 70 q9 [39]<|T_nd 2 [] [(42,vi (zY (Int.tdiv ra 64)))]<|T_c (some 43) h ?_;clear h
   rintro aa H4 ⟨l,k,o,hv,g,e,f,j,rfl,h⟩
   refine T_pd [40,42] [(43,.tuple #[.agg #[vi l,vi k,vi o,vi hv,vi g,vi e,vi f],.bool j])]<|T_nd 3 [43] [(44,.agg #[vi l,vi k,vi o,vi hv,vi g,vi e,vi f]),(45,.bool j)]<|T_nw (some 12) (λwv=>vp (pa wv)) (.cells #[vi 0,vi 0,vi 0,vi 0,vi 0,vi 0,vi 0] 89) ?_
   intro wv H5 e10 e11
   replace h:=h wv H5 e10 e11
   refine T_pd [] [(12,vp (pa wv))] ?_
   obtain⟨q13,h⟩:=h
   refine fG 89 [vi l,vi k,vi o,vi hv,vi g,vi e,vi f] q13 ?_
   intro H6 e12
   replace h:=h H6 e12
   refine T_pd [44] []<|T_ed 1 [45] [(11,.bool j)]<|T_sz<|oJ 5<|T_q1 46 (vi ra) []<|T_q1 47 (.bool j) [11]<|T_q1 48 (.bool j) [47] ?_
   by_cases c14:j=true
   ·rw[if_pos c14]at h
    refine Q_bd 48 c14<|T_q1 49 (Vq ((ad wv).add 1)) [] ?_
    obtain⟨m,q16,h⟩:=h
    refine nh (some 50) 3 q16 [49] [(50,vi m)]<|T_q1 51 (vi i) [3]<|T_q1 52 (.bool (m==i)) [50,51]<|T_q1 53 (.bool (m==i)) [48,52]<|T_q1 54 (.bool (m==i)) [53] ?_
    by_cases c17:m=i
    ·rw[if_pos c17]at h
     refine Q_bd 54 (zK c17)<|T_q1 55 (vi ra) [10]<|T_q1 56 (vi (Int.tmod ra 64)) [55]<|T_q1 57 (Vq ((ad wv).add 2)) [12] ?_
     obtain⟨n,q19,h⟩:=h
     exact nh (some 58) 3 q19 [57] [(58,vi n)]<|T_q1 59 (.bool (decide ((Int.tmod ra 64)<n))) [56,58]<|T_q1 60 (.bool (decide ((Int.tmod ra 64)<n))) [54,59]<|T_q1 8 (vi ra) [46]<|T_q1 9 (.bool (decide ((Int.tmod ra 64)<n))) [60]<|mv [(8,vi ra),(9,.bool (decide ((Int.tmod ra 64)<n)))] sk<|T_qe<|jF [8,9] [vi ra,.bool (decide ((Int.tmod ra 64)<n))] hQ h
    rw[if_neg c17]at h
    refine Q_bd 54 (zJ c17)<|T_q1 55 (undef) [10]<|T_q1 56 (undef) [55]<|T_q1 57 (undef) [12]<|T_q1 58 (undef) [57]<|T_q1 59 (undef) [56,58]<|T_q1 60 VF [54,59]<|T_q1 8 (vi ra) [46]<|T_q1 9 VF [60] ?_
    refine mv [(8,vi ra),(9,VF)] sk ?_
    exact T_qe<|jF [8,9] [vi ra,VF] hQ h
   rw[if_neg c14]at h
   refine Q_bd 48 (zZ c14)<|T_q1 49 (undef) []<|T_q1 50 (undef) [49]<|T_q1 51 (undef) [3]<|T_q1 52 (undef) [50,51]<|T_q1 53 VF [48,52]<|T_q1 54 VF [53]<|T_q1 55 (undef) [10]<|T_q1 56 (undef) [55] ?_
   exact T_q1 57 (undef) [12]<|T_q1 58 (undef) [57]<|T_q1 59 (undef) [56,58]<|T_q1 60 VF [54,59]<|T_q1 8 (vi ra) [46]<|T_q1 9 VF [60]<|mv [(8,vi ra),(9,VF)] sk<|T_qe<|jF [8,9] [vi ra,VF] hQ h
  rw[if_neg c5]at h
  exact aI 29 (bne_iff_ne.mpr c5)<|ar 3<|T_nr 2 [8,9] [vi 0,VF] hQ h
 rw[if_neg c3]at h
 have b4:(!rb)=true:=congrArg Bool.not (zZ c3)
 have b42:rb=false:=zZ c3
 refine N_bd 24 (b:=(!rb)) (v:=true) (by simp only[b4,b42,Bool.not_true,Bool.not_false]) ?_
 clear b4 b42
 exact T_ed 5 [1,2,24] [(29,VT)]<|T_tz 29<|ar 3<|T_nr 2 [8,9] [vi 0,VF] hQ h
end iE
variable{H:zV}{a:zW}{R:zv}
/-! (*moraine/space.Space).Words -/
namespace eE
def K0:=Func.code f13
def K2:=cb K0
def K4:=cb K2
def K12:=cb K4
def K13:=ca K12
def K16:=cb K13
def K17:=ca K16
def K18:=ca K17
end eE
def eE.pt(s m:zW)(n l:Nat)(H:zV)(R:zv):Prop:=
 dE.C s H (λv H1=> ∃x,v=.bool x/\
 if x=true then(
 R (vi 0) H1)
 else
 ∃sA,s=some sA/\
 ∃aa,hat H1 sA=some (vp aa)/\
 cO.C aa m n l H1 (λae H2=> ∃xB xN xC,ae=vs xB xN xC/\
 ∃(ab:Int->zw) (m19:Int->Int->zV->Nat),ab 0 0 H2/\ ∀d s19 H3,ab d s19 H3->
 if s19< (xN:Int)then(
 ∃o,xB=some o/\
 yZ s19 xN/\
 ∃r,hat H3 (o.add (Int.toNat s19*1))=some (vi r)/\
 ∃z,hat H3 sA=some (vp z)/\
 bH.C z r H3 (λac H4=> ∃q p u e j f g rb,ac=.tuple #[.agg #[vi q,vi p,vi u,vi e,vi j,vi f,vi g],.bool rb]/\
 ∀b H5,b=H4.size->H5=H4.push (.cells #[vi 0,vi 0,vi 0,vi 0,vi 0,vi 0,vi 0] 89)->
 (aK H5 (ad b) 0 7)/\ ∀H6,H6=aR H5 (ad b) [vi q,vi p,vi u,vi e,vi j,vi f,vi g] 0->
 ∃y,hat H6 ((ad b).add 2)=some (vi y)/\
 (ab (zY (d+y)) (zY (s19+1)) H6/\m19 (zY (d+y)) (zY (s19+1)) H6<m19 d s19 H3)))
 else
 R (vi d) H3))
namespace eE
theorem link{m:zW}{n l:Nat}(h:pt a m n l H R):C a m n l H R:=by
 refine T_en K0 38 func13 ?_
 intro w0 Q hQ
 unfold pt zY at h
 refine T_su [(0,vp a),(1,vs m n l)]<|ar 0<|T_ed 1 [] []<|T_sz<|ar 1<|T_nd 1 [] [(10,vp a)]<|T_c (some 11) h ?_;clear h
 rintro v H1 ⟨x,rfl,h⟩
 refine T_pd [10] [(11,.bool x)]<|T_e ?_
 by_cases c1:x=true
 ·rw[if_pos c1]at h
  exact aI 11 c1<|ar 2<|T_nr 1 [4] [vi 0] hQ h
 rw[if_neg c1]at h
 refine aJ 11 (zZ c1)<|T_kt<|ar 3<|T_ed 1 [11] [(5,vi 0)]<|T_sz<|ar 4<|T_nd 1 [] [(12,vp a)] ?_
 obtain⟨sA,rfl,h⟩:=h
 refine T_nd 2 [0,12] [(0,Vq sA),(14,Vq sA)] ?_
 obtain⟨aa,q3,h⟩:=h
 refine T_l1 15 70 q3 [14]<|T_nd 1 [1] [(16,vs m n l)]<|T_c (some 17) h ?_;clear h
 rintro ae H2 ⟨xB,xN,xC,rfl,h⟩
 refine T_pd [15,16] [(17,vs xB xN xC)]<|T_ed 2 [] [(18,vi xN),(19,vi 0)]<|T_bz 0 ?_
 obtain⟨ab,m19,i4,i5⟩:=h
 refine bL (x:=K18) (σ:=Int×Int) (λs_=> [(0,Vq sA),(5,vi s_.1),(17,vs xB xN xC),(18,vi xN),(19,vi s_.2)]) (λs_ H=>ab s_.1 s_.2 H) (λs_ H=>m19 s_.1 s_.2 H) ((0,0):Int×Int) (by kernel_rfl) i4 sk ?_
 rintro⟨d,s19⟩ H3 i6
 have h:=i5 d s19 H3 i6
 refine T_su [(0,Vq sA),(5,vi d),(17,vs xB xN xC),(18,vi xN),(19,vi s19)]<|ar 5<|T_ed 1 [] [(20,.bool (decide (s19< (xN:Int))))]<|T_sz ?_
 by_cases c7:s19< (xN:Int)
 ·rw[if_pos c7]at h
  refine aI 20 (zX c7)<|T_kt<|T_sz<|T_bz 1<|ar 6<|T_ud [20] [] ?_
  obtain⟨o,rfl,q9,h⟩:=h
  refine T_xd (some 21) 59 3 1 o xN xC .i64 s19 underlying59 q9.1 q9.2 [17] [(17,vs (some o) xN xC),(21,Vq (o.add (Int.toNat s19*1)))] ?_
  obtain⟨r,q10,h⟩:=h
  refine T_l1 22 3 q10 [21]<|T_ed 1 [22] [(7,vi r)]<|ar 7<|T_nd 3 [] [(26,Vq sA)] ?_
  obtain⟨z,q11,h⟩:=h
  refine T_l1 27 70 q11 [26]<|T_nd 1 [7] [(28,vi r)]<|T_c (some 29) h ?_;clear h
  rintro ac H4 ⟨q,p,u,e,j,f,g,rb,rfl,h⟩
  refine T_pd [27,28] [(29,.tuple #[.agg #[vi q,vi p,vi u,vi e,vi j,vi f,vi g],.bool rb])]<|T_nd 3 [29] [(30,.agg #[vi q,vi p,vi u,vi e,vi j,vi f,vi g]),(31,.bool rb)]<|T_nw (some 8) (λb=>vp (pa b)) (.cells #[vi 0,vi 0,vi 0,vi 0,vi 0,vi 0,vi 0] 89) ?_
  intro b H5 e12 e13
  replace h:=h b H5 e12 e13
  refine T_pd [] [(8,vp (pa b))] ?_
  obtain⟨q15,h⟩:=h
  refine fG 89 [vi q,vi p,vi u,vi e,vi j,vi f,vi g] q15 ?_
  intro H6 e14
  replace h:=h H6 e14
  refine T_pd [30] []<|T_ed 1 [31] []<|T_rz 8<|T_nd 2 [5,8] [(32,vi d),(33,Vq ((ad b).add 2))] ?_
  obtain⟨y,q16,h⟩:=h
  exact T_l1 34 3 q16 [33]<|T_nd 2 [32,34] [(5,vi (zY (d+y)))]<|zq<|aA<|aE<|T_rz 9<|T_ed 2 [19] [(19,vi (zY (s19+1)))]<|aS (((zY (d+y)),(zY (s19+1))):Int×Int) sk h
 rw[if_neg c7]at h
 exact aJ 20 (zQ c7)<|zk 0<|aD<|aD<|aM<|aE<|ar 10<|T_nr 2 [4] [vi d] hQ h
end eE
/-! (*moraine/space.Space).Fresh -/
namespace eJ
def K0:=Func.code f73
def K2:=cb K0
def K8:=cb K2
def K9:=ca K8
def K10:=ca K9
def K12:=cb K10
def K14:=cb K12
def K17:=ca K14
def K19:=ca K17
def K21:=cb K19
def K22:=ca K21
def K25:=cb K22
def K26:=ca K25
def K27:=ca K26
end eJ
def eJ.pt(s e:zW)(b d:Nat)(H:zV)(R:zv):Prop:=
 fE s (
 R (.tuple #[]) H) (λsA=>
 ∃(j:zw) (m11:Int->zV->Nat),j 0 H/\ ∀s9 H1,j s9 H1->
 if s9<5 then(
 ∃(l:zw) (m28:Int->zV->Nat),l 0 H1/\ ∀g H2,l g H2->
 if g< (b:Int)then(
 ∃f,e=some f/\
 yZ g b/\
 ∃x,hat H2 (f.add (Int.toNat g*1))=some (vi x)/\
 if x=s9 then(
 yZ s9 5/\
 (aK H2 ((sA.add 1).add (Int.toNat s9*4)) 0 4)/\ ∀H3,H3=aR H2 ((sA.add 1).add (Int.toNat s9*4)) [vi 0,vi 0,vi 0,vi 0] 0->
 (l (zY (g+1)) H3/\m28 (zY (g+1)) H3<m28 g H2))
 else
 (l (zY (g+1)) H2/\m28 (zY (g+1)) H2<m28 g H2))
 else
 if(b:Int)=0 then(
 yZ s9 5/\
 (aK H2 ((sA.add 1).add (Int.toNat s9*4)) 0 4)/\ ∀H4,H4=aR H2 ((sA.add 1).add (Int.toNat s9*4)) [vi 0,vi 0,vi 0,vi 0] 0->
 (j (zY (s9+1)) H4/\m11 (zY (s9+1)) H4<m11 s9 H1))
 else
 (j (zY (s9+1)) H2/\m11 (zY (s9+1)) H2<m11 s9 H1))
 else
 R (.tuple #[]) H1)
namespace eJ
theorem link{e:zW}{b d:Nat}(h:pt a e b d H R):C a e b d H R:=by
 refine T_en K0 38 func73 ?_
 intro w0 Q hQ
 unfold pt zY at h
 refine T_su [(0,vp a),(1,vs e b d)]<|T_sz<|ar 0<|T_nd 1 [] [(7,vp a)] ?_
 rcases a with _ | sA
 ·rw[onPtr_none]at h
  exact T_ed 1 [0,7] [(0,vp none),(8,VT)]<|T_tz 8<|jF [] [] hQ h
 rw[onPtr_some]at h
 refine T_ed 1 [0,7] [(0,Vq sA),(8,VF)]<|T_fz 8<|T_kt<|ar 1<|T_ed 1 [8] [(9,vi 0)]<|T_bz 0 ?_
 obtain⟨j,m11,i1,i2⟩:=h
 refine bL (x:=K10) (σ:=Int) (λs_=> [(0,Vq sA),(1,vs e b d),(9,vi s_)]) (λs_ H=>j s_ H) (λs_ H=>m11 s_ H) (0:Int) (by kernel_rfl) i1 sk ?_
 rintro s9 H1 i3
 have h:=i2 s9 H1 i3
 refine T_su [(0,Vq sA),(1,vs e b d),(9,vi s9)]<|ar 2<|T_ed 1 [] [(10,.bool (decide (s9<5)))]<|T_sz ?_
 by_cases c4:s9<5
 ·rw[if_pos c4]at h
  refine aI 10 (zX c4)<|T_kt<|T_sz<|T_bz 1<|ar 3<|T_ed 2 [10] [(4,vi s9)]<|T_sz<|ar 4<|T_ed 3 [] [(12,vs e b d),(13,vi b),(14,vi 0)]<|T_bz 2 ?_
  obtain⟨l,m28,i6,i7⟩:=h
  refine bL (x:=K27) (σ:=Int) (λs_=> [(0,Vq sA),(1,vs e b d),(4,vi s9),(9,vi s9),(12,vs e b d),(13,vi b),(14,vi s_)]) (λs_ H=>l s_ H) (λs_ H=>m28 s_ H) (0:Int) (by kernel_rfl) i6 sk ?_
  rintro g H2 i8
  have h:=i7 g H2 i8
  refine T_su [(0,Vq sA),(1,vs e b d),(4,vi s9),(9,vi s9),(12,vs e b d),(13,vi b),(14,vi g)]<|ar 5<|T_ed 1 [] [(15,.bool (decide (g< (b:Int))))]<|T_sz ?_
  by_cases c9:g< (b:Int)
  ·rw[if_pos c9]at h
   refine aI 15 (zX c9)<|T_kt<|T_sz<|T_bz 3<|ar 6<|T_ud [15] [] ?_
   obtain⟨f,rfl,q11,h⟩:=h
   refine T_xd (some 16) 59 3 1 f b d .i64 g underlying59 q11.1 q11.2 [1,12] [(1,vs (some f) b d),(12,vs (some f) b d),(16,Vq (f.add (Int.toNat g*1)))] ?_
   obtain⟨x,q12,h⟩:=h
   refine T_l1 17 3 q12 [16]<|T_ed 1 [17] [(6,vi x)]<|ar 7<|T_ed 3 [6] [(20,.bool (x==s9))] ?_
   by_cases c13:x=s9
   ·rw[if_pos c13]at h
    refine aI 20 (zK c13)<|T_rz 8<|T_nd 5 [20] [(22,vi s9),(23,.agg #[vi 0,vi 0,vi 0,vi 0]),(25,Vq (sA.add 1))] ?_
    obtain⟨q15,h⟩:=h
    refine T_v1 26 (bK 72 (Vq (sA.add 1)) (vi s9)) (Vq ((sA.add 1).add (Int.toNat s9*4))) (λw _=>bX (P:=prog) (t:=72) (elem:=71) (sz:=4) (n:=5) (a:=(sA.add 1)) (k:=.i64) (i:=s9) underlying72 (λ_=>by kernel_rfl) q15.1 q15.2 w) [22,25] ?_
    obtain⟨q17,h⟩:=h
    refine fG 71 [vi 0,vi 0,vi 0,vi 0] q17 ?_
    intro H3 e16
    replace h:=h H3 e16
    exact T_pd [23,26] []<|zq<|aA<|aE<|T_rz 9<|T_ed 2 [14] [(14,vi (zY (g+1)))]<|aS ((zY (g+1)):Int) sk h
   rw[if_neg c13]at h
   exact aJ 20 (zJ c13)<|T_k<|aA<|aE<|T_rz 9<|T_ed 2 [14,20] [(14,vi (zY (g+1)))]<|aS ((zY (g+1)):Int) sk h
  rw[if_neg c9]at h
  refine aJ 15 (zQ c9)<|zk 2<|aD<|aD<|aM<|aE<|ar 10<|T_ed 3 [12,13,14,15] [(30,.bool ((b:Int)==0))] ?_
  by_cases c18:(b:Int)=0
  ·rw[if_pos c18]at h
   refine aI 30 (zK c18)<|T_rz 11<|T_nd 5 [4,30] [(32,vi s9),(33,.agg #[vi 0,vi 0,vi 0,vi 0]),(35,Vq (sA.add 1))] ?_
   obtain⟨q20,h⟩:=h
   refine T_v1 36 (bK 72 (Vq (sA.add 1)) (vi s9)) (Vq ((sA.add 1).add (Int.toNat s9*4))) (λw _=>bX (P:=prog) (t:=72) (elem:=71) (sz:=4) (n:=5) (a:=(sA.add 1)) (k:=.i64) (i:=s9) underlying72 (λ_=>by kernel_rfl) q20.1 q20.2 w) [32,35] ?_
   obtain⟨q22,h⟩:=h
   refine fG 71 [vi 0,vi 0,vi 0,vi 0] q22 ?_
   intro H4 e21
   replace h:=h H4 e21
   exact T_pd [33,36] []<|zq<|aA<|aE<|T_rz 12<|T_ed 2 [9] [(9,vi (zY (s9+1)))]<|aS ((zY (s9+1)):Int) sk h
  rw[if_neg c18]at h
  exact aJ 30 (zJ c18)<|T_k<|aA<|aE<|T_rz 12<|T_ed 2 [4,9,30] [(9,vi (zY (s9+1)))]<|aS ((zY (s9+1)):Int) sk h
 rw[if_neg c4]at h
 exact aJ 10 (zQ c4)<|zk 0<|aD<|aD<|aM<|iG (fn:=f73) [] hQ (show cG _ _ _ [] _ from .nil) h
end eJ
/-! (*moraine/space.Space).Give -/
namespace eW
def K0:=Func.code f76
def K2:=cb K0
def K4:=cb K2
def K11:=ca K4
def K14:=cb K11
def K16:=cb K14
def K17:=ca K16
end eW
def eW.pt(s:zW)(d:Int)(H:zV)(R:zv):Prop:=
 dE.C s H (λv H1=> ∃x,v=.bool x/\
 if x=true then(
 R (vi 19) H1)
 else
 ∃sA,s=some sA/\
 ∃ae,hat H1 sA=some (vp ae)/\
 bH.C ae d H1 (λak H2=> ∃q o aa e j f g rb,ak=.tuple #[.agg #[vi q,vi o,vi aa,vi e,vi j,vi f,vi g],.bool rb]/\
 ∀b H3,b=H2.size->H3=H2.push (.cells #[vi 0,vi 0,vi 0,vi 0,vi 0,vi 0,vi 0] 89)->
 (aK H3 (ad b) 0 7)/\ ∀H4,H4=aR H3 (ad b) [vi q,vi o,vi aa,vi e,vi j,vi f,vi g] 0->
 if rb=true then(
 ∃m,hat H4 (ad b)=some (vi m)/\
 ∃r,hat H4 ((ad b).add 1)=some (vi r)/\
 yZ m 5/\
 yZ r 4/\
 ∃u,hat H4 (((sA.add 1).add (Int.toNat m*4)).add (Int.toNat r*1))=some (vi u)/\
 if u=(zY (d+1))then(
 ∃l,hat H4 (ad b)=some (vi l)/\
 ∃p,hat H4 ((ad b).add 1)=some (vi p)/\
 yZ l 5/\
 yZ p 4/\
 (aK H4 (((sA.add 1).add (Int.toNat l*4)).add (Int.toNat p*1)) 0 1)/\ ∀H5,H5=aR H4 (((sA.add 1).add (Int.toNat l*4)).add (Int.toNat p*1)) [vi 0] 0->
 ∃af,hat H5 sA=some (vp af)/\
 gI.C af d H5 (λai H6=> ∃ag,ai=vi ag/\
 R (vi ag) H6))
 else
 ∃y,hat H4 sA=some (vp y)/\
 gI.C y d H4 (λaj H7=> ∃ab,aj=vi ab/\
 R (vi ab) H7))
 else
 ∃z,hat H4 sA=some (vp z)/\
 gI.C z d H4 (λah H8=> ∃ac,ah=vi ac/\
 R (vi ac) H8)))
namespace eW
theorem link{d:Int}(h:pt a d H R):C a d H R:=by
 refine T_en K0 49 func76 ?_
 intro w0 Q hQ
 unfold pt zY at h
 refine T_su [(0,vp a),(1,vi d)]<|ar 0<|T_ed 1 [] []<|T_sz<|ar 1<|T_nd 1 [] [(7,vp a)]<|T_c (some 8) h ?_;clear h
 rintro v H1 ⟨x,rfl,h⟩
 refine T_pd [7] [(8,.bool x)]<|T_e ?_
 by_cases c1:x=true
 ·rw[if_pos c1]at h
  exact aI 8 c1<|ar 2<|T_nr 1 [4] [vi 19] hQ h
 rw[if_neg c1]at h
 refine aJ 8 (zZ c1)<|T_kt<|T_sz<|ar 3<|T_nd 1 [8] [(10,vp a)] ?_
 obtain⟨sA,rfl,h⟩:=h
 refine T_nd 2 [0,10] [(0,Vq sA),(12,Vq sA)] ?_
 obtain⟨ae,q3,h⟩:=h
 refine T_l1 13 70 q3 [12]<|T_nd 1 [] [(14,vi d)]<|T_c (some 15) h ?_;clear h
 rintro ak H2 ⟨q,o,aa,e,j,f,g,rb,rfl,h⟩
 refine T_pd [13,14] [(15,.tuple #[.agg #[vi q,vi o,vi aa,vi e,vi j,vi f,vi g],.bool rb])]<|T_nd 3 [15] [(16,.agg #[vi q,vi o,vi aa,vi e,vi j,vi f,vi g]),(17,.bool rb)]<|T_nw (some 5) (λb=>vp (pa b)) (.cells #[vi 0,vi 0,vi 0,vi 0,vi 0,vi 0,vi 0] 89) ?_
 intro b H3 e4 e5
 replace h:=h b H3 e4 e5
 refine T_pd [] [(5,vp (pa b))] ?_
 obtain⟨q7,h⟩:=h
 refine fG 89 [vi q,vi o,vi aa,vi e,vi j,vi f,vi g] q7 ?_
 intro H4 e6
 replace h:=h H4 e6
 refine T_pd [16] []<|T_ed 1 [17] [(6,.bool rb)]<|T_sz<|oJ 4<|T_q1 18 (.bool rb) [6]<|T_q1 19 (.bool rb) [18] ?_
 by_cases c8:rb=true
 ·rw[if_pos c8]at h
  refine Q_bd 19 c8<|T_q1 20 (Vq sA) []<|T_q1 21 (vp (pa b)) [] ?_
  obtain⟨m,q10,h⟩:=h
  refine nh (some 22) 3 q10 [21] [(22,vi m)]<|T_q1 23 (Vq ((ad b).add 1)) [] ?_
  obtain⟨r,q11,h⟩:=h
  refine nh (some 24) 3 q11 [23] [(24,vi r)]<|T_q1 25 (Vq sA) [20]<|T_q1 26 (Vq (sA.add 1)) [25] ?_
  obtain⟨q12,h⟩:=h
  refine Q_op (some 27) (bK 72 (vp (some (sA.add 1))) (vi m)) (vp (some ((sA.add 1).add (Int.toNat m*4)))) (λ_=>by kernel_rfl) (λw _=>bX (P:=prog) (t:=72) (elem:=71) (sz:=4) (n:=5) (a:=(sA.add 1)) (k:=.i64) (i:=m) underlying72 (λ_=>by kernel_rfl) q12.1 q12.2 w) [(0,vp (some sA)),(1,vi d),(5,vp (pa b)),(19,.bool true),(24,vi r),(27,vp (some ((sA.add 1).add (Int.toNat m*4))))] pk ?_
  obtain⟨q13,h⟩:=h
  refine Q_op (some 28) (bK 71 (vp (some ((sA.add 1).add (Int.toNat m*4)))) (vi r)) (vp (some (((sA.add 1).add (Int.toNat m*4)).add (Int.toNat r*1)))) (λ_=>by kernel_rfl) (λw _=>bX (P:=prog) (t:=71) (elem:=3) (sz:=1) (n:=4) (a:=((sA.add 1).add (Int.toNat m*4))) (k:=.i64) (i:=r) underlying71 (λ_=>by kernel_rfl) q13.1 q13.2 w) [(0,vp (some sA)),(1,vi d),(5,vp (pa b)),(19,.bool true),(28,vp (some (((sA.add 1).add (Int.toNat m*4)).add (Int.toNat r*1))))] pk ?_
  obtain⟨u,q14,h⟩:=h
  refine T_ql (some 29) 3 q14 [(0,Vq sA),(1,vi d),(5,vp (pa b)),(19,VT),(29,vi u)]<|T_q1 30 (vi d) []<|T_q1 31 (vi (zY (d+1))) [30]<|T_q1 32 (.bool (u==(zY (d+1)))) [29,31]<|T_q1 33 (.bool (u==(zY (d+1)))) [19,32]<|mv [(0,Vq sA),(1,vi d),(5,vp (pa b)),(33,.bool (u==(zY (d+1))))] sk<|T_qe ?_
  by_cases c15:u=(zY (d+1))
  ·rw[if_pos c15]at h
   refine aI 33 (zK c15) ?_
   obtain⟨l,q17,p,q18,q19,q20,h⟩:=h
   refine yq 5 (Code.ops K17) [(9,(ad b),[vi l]),(9,((ad b).add 1),[vi p])] 10 (bv 10 0) (show aF _ _ _ from⟨⟨q17,trivial⟩,⟨q18,trivial⟩,trivial⟩)<|T_gp 0 (some 34) (vp (some sA)) (bv 10 1) [(0,vp (some sA)),(1,vi d),(5,vp (pa b)),(34,vp (some sA))]<|aL 1 35 (vp (pa b)) (bv 10 3) []<|T_g1 2 36 (vi l) (bv 10 7) [35] (aU 3 (vp (pa b))) (yY 9 yX)<|aL 3 37 (vp (some ((ad b).add 1))) (bv 10 15) [5]<|T_g1 4 38 (vi p) (bv 10 31) [37] (aU 3 (vp (some ((ad b).add 1)))) (yY 9 yQ)<|aL 5 39 (vp (some sA)) (bv 10 63) [34]<|aL 6 40 (vp (some (sA.add 1))) (bv 10 127) [39]<|T_g1 7 41 (vp (some ((sA.add 1).add (Int.toNat l*4)))) (bv 10 255) [36,40] (bK 72 (vp (some (sA.add 1))) (vi l)) (λ_ w _ _ _=>bX (P:=prog) (t:=72) (elem:=71) (sz:=4) (n:=5) (a:=(sA.add 1)) (k:=.i64) (i:=l) underlying72 (λ_=>by kernel_rfl) q19.1 q19.2 w)<|T_g1 8 42 (vp (some (((sA.add 1).add (Int.toNat l*4)).add (Int.toNat p*1)))) (bv 10 511) [38,41] (bK 71 (vp (some ((sA.add 1).add (Int.toNat l*4)))) (vi p)) (λ_ w _ _ _=>bX (P:=prog) (t:=71) (elem:=3) (sz:=1) (n:=4) (a:=((sA.add 1).add (Int.toNat l*4))) (k:=.i64) (i:=p) underlying71 (λ_=>by kernel_rfl) q20.1 q20.2 w) ?_
   obtain⟨q22,h⟩:=h
   refine fT 9 none (bv 10 1023) (jK 3 (Vq (((sA.add 1).add (Int.toNat l*4)).add (Int.toNat p*1))) (vi 0)) (λHz=>Hz=aR H4 (((sA.add 1).add (Int.toNat l*4)).add (Int.toNat p*1)) [vi 0] 0) (by kernel_rfl) (λ_=>by kernel_rfl) (iR [vi 0] 1 (by kernel_rfl) (by kernel_rfl) (λ_=>by kernel_rfl) (by kernel_rfl) q22) (by kernel_rfl) ?_
   intro H5 e21
   replace h:=h H5 e21
   refine⟨[(0,Vq sA),(1,vi d)],pk,(show aF _ _ _ from⟨trivial,trivial,trivial⟩),?_⟩
   refine fU [(0,Vq sA),(1,vi d)] sk ?_
   refine yz<|aE<|ar 6<|T_n 3 [(1,vi d),(45,Vq sA)] ?_
   obtain⟨af,q23,h⟩:=h
   refine T_l1 46 70 q23 [45]<|T_nd 1 [1] [(47,vi d)]<|T_c (some 48) h ?_;clear h
   rintro ai H6 ⟨ag,rfl,h⟩
   refine⟨[(48,vi ag)],pk,?_⟩
   exact T_nr 1 [4] [vi ag] hQ h
  rw[if_neg c15]at h
  refine aJ 33 (zJ c15)<|T_kt<|ar 6<|T_n 3 [(1,vi d),(45,Vq sA)] ?_
  obtain⟨y,q24,h⟩:=h
  refine T_l1 46 70 q24 [45]<|T_nd 1 [1] [(47,vi d)]<|T_c (some 48) h ?_;clear h
  rintro aj H7 ⟨ab,rfl,h⟩
  refine⟨[(48,vi ab)],pk,?_⟩
  exact T_nr 1 [4] [vi ab] hQ h
 rw[if_neg c8]at h
 refine Q_bd 19 (zZ c8)<|T_q1 20 (undef) []<|T_q1 21 (undef) []<|T_q1 22 (undef) [21]<|T_q1 23 (undef) []<|T_q1 24 (undef) [23]<|T_q1 25 (undef) [20]<|T_q1 26 (undef) [25]<|T_q1 27 (undef) [22,26] ?_
 refine T_q1 28 (undef) [24,27]<|T_q1 29 (undef) [28]<|T_q1 30 (undef) []<|T_q1 31 (undef) [30]<|T_q1 32 (undef) [29,31]<|T_q1 33 VF [19,32]<|mv [(0,Vq sA),(1,vi d),(5,vp (pa b)),(33,VF)] sk<|T_qe<|T_fz 33<|T_kt<|ar 6<|T_n 3 [(1,vi d),(45,Vq sA)] ?_
 obtain⟨z,q25,h⟩:=h
 refine T_l1 46 70 q25 [45]<|T_nd 1 [1] [(47,vi d)]<|T_c (some 48) h ?_;clear h
 rintro ah H8 ⟨ac,rfl,h⟩
 refine⟨[(48,vi ac)],pk,?_⟩
 exact T_nr 1 [4] [vi ac] hQ h
end eW
/-! (*moraine/space.Space).Copy -/
namespace eX
def K0:=Func.code f134
def K2:=cb K0
def K4:=cb K2
def K11:=ca K4
end eX
def eX.pt(s:zW)(H:zV)(R:zv):Prop:=
 fE s (
 R (vp none) H) (λsA=>
 ∃x,hat H sA=some (vp x)/\
 ∃u d f o y p k n j e a m q r i g l z t aa,aQ H (sA.add 1) 0 [vi u,vi d,vi f,vi o,vi y,vi p,vi k,vi n,vi j,vi e,vi a,vi m,vi q,vi r,vi i,vi g,vi l,vi z,vi t,vi aa]/\
 iP.C x H (λv H1=> ∃ab,v=vp ab/\aQ H1 (sA.add 1) 0 [vi u,vi d,vi f,vi o,vi y,vi p,vi k,vi n,vi j,vi e,vi a,vi m,vi q,vi r,vi i,vi g,vi l,vi z,vi t,vi aa]/\
 ∀b H2,b=H1.size->H2=H1.push (.cells #[vp ab,vi u,vi d,vi f,vi o,vi y,vi p,vi k,vi n,vi j,vi e,vi a,vi m,vi q,vi r,vi i,vi g,vi l,vi z,vi t,vi aa] 74)->
 R (Vq (ad b)) H2))
namespace eX
theorem link(h:pt a H R):C a H R:=by
 refine T_en K0 16 func134 ?_
 intro w0 Q hQ
 unfold pt at h
 refine T_su [(0,vp a)]<|ar 0<|T_ed 1 [] []<|T_sz<|ar 1<|T_nd 1 [] [(3,vp a)] ?_
 rcases a with _ | sA
 ·rw[onPtr_none]at h
  exact T_ne 1 [(0,vp none),(4,VT)]<|T_tz 4<|ar 2<|T_nr 1 [2] [vp none] hQ h
 rw[onPtr_some]at h
 refine T_ne 1 [(0,Vq sA),(4,VF)]<|T_fz 4<|T_kt<|T_sz ?_
 obtain⟨x,q1,u,d,f,o,y,p,k,n,j,e,s,m,q,r,i,g,l,z,t,aa,q2,h⟩:=h
 refine yq 3 (Code.ops K11) [(4,sA,[vp x]),(10,(sA.add 1),[vi u,vi d,vi f,vi o,vi y,vi p,vi k,vi n,vi j,vi e,vi s,vi m,vi q,vi r,vi i,vi g,vi l,vi z,vi t,vi aa])] 12 (bv 12 0) (show aF _ _ _ from⟨⟨q1,trivial⟩,q2,trivial⟩)<|T_gp 0 (some 5) (Vq sA) (bv 12 1) [(0,Vq sA),(5,Vq sA)]<|aL 1 6 (Vq sA) (bv 12 3) [5]<|aL 2 7 (Vq sA) (bv 12 7) [6]<|T_g1 3 8 (vp x) (bv 12 15) [7] (aU 70 (Vq sA)) (yY 4 yX)<|aL 5 10 (Vq sA) (bv 12 47) [0]<|aL 6 11 (Vq sA) (bv 12 111) [10]<|aL 7 12 (Vq (sA.add 1)) (bv 12 239) [11]<|T_g1 8 13 (.agg #[vi u,vi d,vi f,vi o,vi y,vi p,vi k,vi n,vi j,vi e,vi s,vi m,vi q,vi r,vi i,vi g,vi l,vi z,vi t,vi aa]) (bv 12 495) [12] (aU 72 (Vq (sA.add 1))) (lz 10 (λ_=>by kernel_rfl) (λ_=>by kernel_rfl) yQ (.inl (by kernel_rfl)))<|yx 4 (some 9) (bv 12 511) 149 #[vp x] h ?_;clear h
 rintro v H1 ⟨ab,rfl,f3,h⟩
 refine⟨[(9,vp ab),(13,.agg #[vi u,vi d,vi f,vi o,vi y,vi p,vi k,vi n,vi j,vi e,vi s,vi m,vi q,vi r,vi i,vi g,vi l,vi z,vi t,vi aa])],pk,(show aF _ _ _ from⟨trivial,f3,trivial⟩),?_⟩
 refine T_g 9 (some 14) (.agg #[vp ab,vi u,vi d,vi f,vi o,vi y,vi p,vi k,vi n,vi j,vi e,vi s,vi m,vi q,vi r,vi i,vi g,vi l,vi z,vi t,vi aa]) (bv 12 1023) [(14,.agg #[vp ab,vi u,vi d,vi f,vi o,vi y,vi p,vi k,vi n,vi j,vi e,vi s,vi m,vi q,vi r,vi i,vi g,vi l,vi z,vi t,vi aa])] (pure (.value (.agg #[vp ab,vi u,vi d,vi f,vi o,vi y,vi p,vi k,vi n,vi j,vi e,vi s,vi m,vi q,vi r,vi i,vi g,vi l,vi z,vi t,vi aa])):Sem Next) (λ_ _ _ _ _=>rfl)<|na 10 (some 15) (bv 12 2047) (λb=>vp (pa b)) (.cells #[vp ab,vi u,vi d,vi f,vi o,vi y,vi p,vi k,vi n,vi j,vi e,vi s,vi m,vi q,vi r,vi i,vi g,vi l,vi z,vi t,vi aa] 74) (by kernel_rfl) (λ_=>by kernel_rfl) (by kernel_rfl) ?_
 intro b H2 e4 e5
 replace h:=h b H2 e4 e5
 refine⟨[(15,vp (pa b))],pk,(show aF _ _ _ from⟨trivial,trivial,trivial⟩),?_⟩
 exact T_g 11 (some 2) (vp (pa b)) (bv 12 4095) [(2,vp (pa b))] (pure (.value (vp (pa b))):Sem Next) (λ_ _ _ _ _=>rfl)<|fU [(2,vp (pa b))] sk<|yz<|aE<|jF [2] [vp (pa b)] hQ h
end eX
variable{H:zV}{a:zW}{R:zv}{b:Int}
/-! (*moraine/card.Cards).Dirty -/
namespace eV
def K0:=Func.code f74
def K2:=cb K0
def K4:=cb K2
def K12:=cb K4
def K13:=ca K12
def K16:=cb K13
def K17:=ca K16
def K18:=ca K17
def K20:=cb K18
def K22:=cb K20
def K25:=ca K22
def K27:=ca K25
def K29:=cb K27
def K31:=cb K29
def K33:=cb K31
def K34:=ca K33
def K35:=ca K34
end eV
def eV.pt(c:zW)(g:Int)(H:zV)(R:zv):Prop:=
 dA.C c H (λv H1=> ∃x,v=.bool x/\
 if x=true then(
 R VN H1)
 else
 ∃cA,c=some cA/\
 ∃ak,hat H1 cA=some (vp ak)/\
 ∃am,ak=some am/\
 ∃ag,hat H1 am=some (vp ag)/\
 cO.C ag none 0 0 H1 (λao H2=> ∃xB xN xC,ao=vs xB xN xC/\
 ∃(ai:zW->Nat->Nat->zw) (m19:zW->Nat->Nat->Int->zV->Nat),ai none 0 0 0 H2/\ ∀lB lN lC s23 H3,ai lB lN lC s23 H3->
 if s23< (xN:Int)then(
 ∃d,xB=some d/\
 yZ s23 xN/\
 ∃e,hat H3 (d.add (Int.toNat s23*1))=some (vi e)/\
 ∃al,hat H3 cA=some (vp al)/\
 ∃aj,al=some aj/\
 ∃ae,hat H3 aj=some (vp ae)/\
 bH.C ae e H3 (λan H4=> ∃aa u ab p s q r rb,an=.tuple #[.agg #[vi aa,vi u,vi ab,vi p,vi s,vi q,vi r],.bool rb]/\
 ∀b H5,b=H4.size->H5=H4.push (.cells #[vi 0,vi 0,vi 0,vi 0,vi 0,vi 0,vi 0] 89)->
 (aK H5 (ad b) 0 7)/\ ∀H6,H6=aR H5 (ad b) [vi aa,vi u,vi ab,vi p,vi s,vi q,vi r] 0->
 ∃o m j l,aQ H6 ((ad b).add 3) 0 [vi o,vi m,vi j,vi l]/\
 ∃(ah:zW->Nat->Nat->zw) (m36:zW->Nat->Nat->Int->zV->Nat),ah lB lN lC 0 H6/\ ∀f lN_2 lC_2 s41 H7,ah f lN_2 lC_2 s41 H7->
 if s41<4 then(
 ∃y,((0<=s41/\s41< (4:Int))/\(#[vi o,vi m,vi j,vi l]:Array Value)[Int.toNat s41]?=some (vi y))/\
 ∃z,hat H7 (ad b)=some (vi z)/\
 if((decide (z>g)) && (decide (y<=g)))=true then(
 ∀af H8,af=H7.size->H8=H7.push (.cells #[vi e,vi s41] 149)->
 bR 2 149 16 [vi 0,vi 0] f lN_2 lC_2 (some (ad af)) 1 H8 (λap ac H9=>
 (ah ap (lN_2+1) ac (zY (s41+1)) H9/\m36 ap (lN_2+1) ac (zY (s41+1)) H9<m36 f lN_2 lC_2 s41 H7)))
 else
 (ah f lN_2 lC_2 (zY (s41+1)) H7/\m36 f lN_2 lC_2 (zY (s41+1)) H7<m36 f lN_2 lC_2 s41 H7))
 else
 (ai f lN_2 lC_2 (zY (s23+1)) H7/\m19 f lN_2 lC_2 (zY (s23+1)) H7<m19 lB lN lC s23 H3)))
 else
 R (vs lB lN lC) H3))
namespace eV
theorem link(h:pt a b H R):C a b H R:=by
 refine T_en K0 63 func74 ?_
 intro w0 Q hQ
 unfold pt zY at h
 refine T_su [(0,vp a),(1,vi b)]<|ar 0<|T_ed 1 [] []<|T_sz<|ar 1<|T_nd 1 [] [(12,vp a)]<|T_c (some 13) h ?_;clear h
 rintro v H1 ⟨x,rfl,h⟩
 refine T_pd [12] [(13,.bool x)]<|T_e ?_
 by_cases c1:x=true
 ·rw[if_pos c1]at h
  exact aI 13 c1<|ar 2<|T_nr 1 [4] [VN] hQ h
 rw[if_neg c1]at h
 refine aJ 13 (zZ c1)<|T_kt<|ar 3<|T_ed 1 [13] [(5,VN)]<|T_sz<|ar 4<|T_nd 1 [] [(14,vp a)] ?_
 obtain⟨cA,rfl,h⟩:=h
 refine T_nd 2 [0,14] [(0,Vq cA),(16,Vq cA)] ?_
 obtain⟨ak,q3,h⟩:=h
 refine T_l1 17 42 q3 [16] ?_
 obtain⟨am,rfl,h⟩:=h
 refine T_nd 2 [17] [(19,Vq am)] ?_
 obtain⟨ag,q4,h⟩:=h
 refine T_l1 20 70 q4 [19]<|T_c (some 21) h ?_;clear h
 rintro ao H2 ⟨xB,xN,xC,rfl,h⟩
 refine T_pd [20] [(21,vs xB xN xC)]<|T_ed 2 [] [(22,vi xN),(23,vi 0)]<|T_bz 0 ?_
 obtain⟨ai,m19,i5,i6⟩:=h
 refine bL (x:=K18) (σ:=zW×Nat×Nat×Int) (λs_=> [(0,Vq cA),(1,vi b),(5,vs s_.1 s_.2.1 s_.2.2.1),(21,vs xB xN xC),(22,vi xN),(23,vi s_.2.2.2)]) (λs_ H=>ai s_.1 s_.2.1 s_.2.2.1 s_.2.2.2 H) (λs_ H=>m19 s_.1 s_.2.1 s_.2.2.1 s_.2.2.2 H) ((none,0,0,0):zW×Nat×Nat×Int) (by kernel_rfl) i5 sk ?_
 rintro⟨lB,lN,lC,s23⟩ H3 i7
 have h:=i6 lB lN lC s23 H3 i7
 refine T_su [(0,Vq cA),(1,vi b),(5,vs lB lN lC),(21,vs xB xN xC),(22,vi xN),(23,vi s23)]<|ar 5<|T_ed 1 [] [(24,.bool (decide (s23< (xN:Int))))]<|T_sz ?_
 by_cases c8:s23< (xN:Int)
 ·rw[if_pos c8]at h
  refine aI 24 (zX c8)<|T_kt<|T_sz<|T_bz 1<|ar 6<|T_ud [24] [] ?_
  obtain⟨d,rfl,q10,h⟩:=h
  refine T_xd (some 25) 59 3 1 d xN xC .i64 s23 underlying59 q10.1 q10.2 [21] [(21,vs (some d) xN xC),(25,Vq (d.add (Int.toNat s23*1)))] ?_
  obtain⟨e,q11,h⟩:=h
  refine T_l1 26 3 q11 [25]<|T_ed 1 [26] [(7,vi e)]<|ar 7<|T_nd 3 [] [(30,Vq cA)] ?_
  obtain⟨al,q12,h⟩:=h
  refine T_l1 31 42 q12 [30] ?_
  obtain⟨aj,rfl,h⟩:=h
  refine T_nd 2 [31] [(33,Vq aj)] ?_
  obtain⟨ae,q13,h⟩:=h
  refine T_l1 34 70 q13 [33]<|T_nd 1 [] [(35,vi e)]<|T_c (some 36) h ?_;clear h
  rintro an H4 ⟨aa,u,ab,p,s,q,r,rb,rfl,h⟩
  refine T_pd [34,35] [(36,.tuple #[.agg #[vi aa,vi u,vi ab,vi p,vi s,vi q,vi r],.bool rb])]<|T_nd 3 [36] [(37,.agg #[vi aa,vi u,vi ab,vi p,vi s,vi q,vi r]),(38,.bool rb)]<|T_nw (some 8) (λg=>vp (pa g)) (.cells #[vi 0,vi 0,vi 0,vi 0,vi 0,vi 0,vi 0] 89) ?_
  intro g H5 e14 e15
  replace h:=h g H5 e14 e15
  refine T_pd [] [(8,vp (pa g))] ?_
  obtain⟨q17,h⟩:=h
  refine fG 89 [vi aa,vi u,vi ab,vi p,vi s,vi q,vi r] q17 ?_
  intro H6 e16
  replace h:=h H6 e16
  refine T_pd [37] []<|T_ed 1 [38] []<|ar 8<|T_nd 1 [] [(39,Vq ((ad g).add 3))] ?_
  obtain⟨o,m,j,l,q18,h⟩:=h
  refine T_lr 40 71 q18 [39]<|T_ed 1 [] [(41,vi 0)]<|T_bz 2 ?_
  obtain⟨ah,m36,i19,i20⟩:=h
  refine bL (x:=K35) (σ:=zW×Nat×Nat×Int) (λs_=> [(0,Vq cA),(1,vi b),(5,vs s_.1 s_.2.1 s_.2.2.1),(7,vi e),(8,vp (pa g)),(21,vs (some d) xN xC),(22,vi xN),(23,vi s23),(40,.agg #[vi o,vi m,vi j,vi l]),(41,vi s_.2.2.2)]) (λs_ H=>ah s_.1 s_.2.1 s_.2.2.1 s_.2.2.2 H) (λs_ H=>m36 s_.1 s_.2.1 s_.2.2.1 s_.2.2.2 H) ((lB,lN,lC,0):zW×Nat×Nat×Int) (by kernel_rfl) i19 sk ?_
  rintro⟨f,lN_2,lC_2,s41⟩ H7 i21
  have h:=i20 f lN_2 lC_2 s41 H7 i21
  refine T_su [(0,Vq cA),(1,vi b),(5,vs f lN_2 lC_2),(7,vi e),(8,vp (pa g)),(21,vs (some d) xN xC),(22,vi xN),(23,vi s23),(40,.agg #[vi o,vi m,vi j,vi l]),(41,vi s41)]<|ar 9<|T_ed 1 [] [(42,.bool (decide (s41<4)))]<|T_sz ?_
  by_cases c22:s41<4
  ·rw[if_pos c22]at h
   refine aI 42 (zX c22)<|T_kt<|T_sz<|T_bz 3<|ar 10<|T_nd 1 [42] [(43,vi s41)] ?_
   obtain⟨y,q24,h⟩:=h
   refine T_v1 44 (mD 71 (.agg #[vi o,vi m,vi j,vi l]) (vi s41)) (vi y) (λw _=>j2 (P:=prog) (t:=71) (elem:=3) (n:=4) underlying71 (λ_=>by kernel_rfl) (λ_=>by kernel_rfl) q24.1.1 q24.1.2 q24.2 w) []<|T_ed 2 [43,44] [(10,vi s41),(11,vi y)]<|ar 11<|T_nd 1 [] [(45,vp (pa g))] ?_
   obtain⟨z,q25,h⟩:=h
   refine T_l1 46 3 q25 [45]<|T_nd 3 [46] [(49,.bool (decide (z>b)))] ?_
   refine iT [(0,Vq cA),(1,vi b),(5,vs f lN_2 lC_2),(7,vi e),(8,vp (pa g)),(10,vi s41),(21,vs (some d) xN xC),(22,vi xN),(23,vi s23),(40,.agg #[vi o,vi m,vi j,vi l]),(41,vi s41),(53,.bool ((decide (z>b)) && (decide (y<=b))))] ?_ ?_
   ·refine aE ?_
    by_cases c28:((decide (z>b)) && (decide (y<=b)))=true
    ·rw[if_pos c28]at h
     refine aI 53 c28<|T_rz 12<|T_n 4 [(0,Vq cA),(1,vi b),(7,vi e),(8,vp (pa g)),(21,vs (some d) xN xC),(22,vi xN),(23,vi s23),(40,.agg #[vi o,vi m,vi j,vi l]),(41,vi s41),(54,vs f lN_2 lC_2),(57,.agg #[vi e,vi s41])]<|T_nw (some 58) (λg=>vs (pa g) 1 1) (.cells #[vi e,vi s41] 149) ?_
     intro af H8 e30 e31
     replace h:=h af H8 e30 e31
     refine T_pd [57] [(58,vs (pa af) 1 1)]<|N_op (some 59) (cJ #[142,142] 142 #[vs f lN_2 lC_2,vs (pa af) 1 1]) _ (λ_=>by kernel_rfl) (bQ (T:=149) (sz:=2) (bytes:=16) (zero:=(.agg #[vi 0,vi 0]:Value)) underlying142 underlying142 rfl (show prog.info? 149=some t149 from by kernel_rfl) (by kernel_rfl) (by kernel_rfl) (by decide) (by kernel_rfl) (by first | exact h | (simpa only[Value.cells,List.toList_toArray]using h))) ?_;clear h
     rintro _ H9 ⟨ap,ac,rfl,h⟩
     exact T_pd [54,58] [(59,vs ap (lN_2+1) ac)]<|T_nd 1 [59] [(5,vs ap (lN_2+1) ac)]<|zq<|aA<|aE<|T_rz 13<|T_ed 2 [41] [(41,vi (zY (s41+1)))]<|aS ((ap,(lN_2+1),ac,(zY (s41+1))):zW×Nat×Nat×Int) sk h
    rw[if_neg c28]at h
    exact aJ 53 (zZ c28)<|T_k<|aA<|aE<|T_rz 13<|T_ne 2 [(0,Vq cA),(1,vi b),(5,vs f lN_2 lC_2),(7,vi e),(8,vp (pa g)),(21,vs (some d) xN xC),(22,vi xN),(23,vi s23),(40,.agg #[vi o,vi m,vi j,vi l]),(41,vi (zY (s41+1)))]<|aS ((f,lN_2,lC_2,(zY (s41+1))):zW×Nat×Nat×Int) sk h
   intro hk
   refine T_nu [(0,Vq cA),(1,vi b),(5,vs f lN_2 lC_2),(7,vi e),(8,vp (pa g)),(10,vi s41),(11,vi y),(21,vs (some d) xN xC),(22,vi xN),(23,vi s23),(40,.agg #[vi o,vi m,vi j,vi l]),(41,vi s41),(49,.bool (decide (z>b)))] ?_
   by_cases c26:z>b
   ·have b27:(decide (z>b))=true:=zX c26
    refine bW [(0,Vq cA),(1,vi b),(5,vs f lN_2 lC_2),(7,vi e),(8,vp (pa g)),(10,vi s41),(11,vi y),(21,vs (some d) xN xC),(22,vi xN),(23,vi s23),(40,.agg #[vi o,vi m,vi j,vi l]),(41,vi s41),(49,VT)] (by rw[b27]) ?_
    refine T_nd 4 [11,49] [(53,.bool (decide (y<=b)))]<|zq<|S_bd 53 (b:=(decide (y<=b))) (v:=((decide (z>b)) && (decide (y<=b)))) (by simp only[b27,BL]) ?_
    exact hk
   have b27:(decide (z>b))=false:=zQ c26
   refine bW [(0,Vq cA),(1,vi b),(5,vs f lN_2 lC_2),(7,vi e),(8,vp (pa g)),(10,vi s41),(11,vi y),(21,vs (some d) xN xC),(22,vi xN),(23,vi s23),(40,.agg #[vi o,vi m,vi j,vi l]),(41,vi s41),(49,VF)] (by rw[b27]) ?_
   refine T_nd 4 [11,49] [(53,VF)]<|zq<|S_bd 53 (b:=false) (v:=((decide (z>b)) && (decide (y<=b)))) (by simp only[b27,BL]) ?_
   exact hk
  rw[if_neg c22]at h
  exact aJ 42 (zQ c22)<|zk 2<|aD<|aD<|aM<|aA<|aE<|T_rz 14<|T_ed 2 [7,8,23,40,41,42] [(23,vi (zY (s23+1)))]<|aS ((f,lN_2,lC_2,(zY (s23+1))):zW×Nat×Nat×Int) sk h
 rw[if_neg c8]at h
 exact aJ 24 (zQ c8)<|zk 0<|aD<|aD<|aM<|aE<|ar 15<|T_nr 2 [4] [vs lB lN lC] hQ h
end eV
/-! (*moraine/card.Cards).Again -/
namespace dW
def K0:=Func.code f77
def K2:=cb K0
def K4:=cb K2
def K12:=cb K4
def K14:=cb K12
def K27:=cb K14
def K28:=ca K27
def K29:=cb K27
def K31:=cb K28
def K32:=ca K31
def K33:=ca K32
def K34:=cb K32
def K36:=ca K29
end dW
def dW.pt(c:zW)(d a:Int)(H:zV)(R:zv):Prop:=
 ∀b H1,b=H.size->H1=H.push (.cells #[vp c] 33)->
 ∃x,hat H1 (ad b)=some (vp x)/\
 dA.C x H1 (λv H2=> ∃al,v=.bool al/\
 if al=true then(
 R (vi 19) H2)
 else
 ∃ap,hat H2 (ad b)=some (vp ap)/\
 ∃aq,ap=some aq/\
 ∃ao,hat H2 aq=some (vp ao)/\
 ∃au,ao=some au/\
 ∃am,hat H2 au=some (vp am)/\
 bH.C am d H2 (λa3 H3=> ∃t q ag i l j k rb,a3=.tuple #[.agg #[vi t,vi q,vi ag,vi i,vi l,vi j,vi k],.bool rb]/\
 ∀f H4,f=H3.size->H4=H3.push (.cells #[vi 0,vi 0,vi 0,vi 0,vi 0,vi 0,vi 0] 89)->
 (aK H4 (ad f) 0 7)/\ ∀H5,H5=aR H4 (ad f) [vi t,vi q,vi ag,vi i,vi l,vi j,vi k] 0->
 if rb=true then(
 if((decide (a<0)) || (decide (a>=4)))=true then(
 R (vi 1) H5)
 else
 ∀e H6,e=H5.size->H6=H5.push (.cells #[vi 0] 3)->
 (aK H6 (ad e) 0 1)/\ ∀H7,H7=aR H6 (ad e) [vi 5] 0->
 ∃ak,hat H7 (ad b)=some (vp ak)/\
 fX.C ak d a H7 (λaj H8=>aj=aj/\
 ∀(rc:LoopState->Option Code->Obj) (lp:Nat) (H9:zV),lp=H8.size+1->H9=(H8.push (.deferred (some []))).push (rc .ready none)->
 ∀vY,(∀(ab:Int) (H10:zV) (vRy:zv),H10[lp]?=some (rc .ready none)->
 (H10[lp]?=some (rc .ready none)/\ ∀an,an=aO H10 lp (rc .busy none)->
 ∃af,hat an (ad b)=some (vp af)/\
 ∃aa u xN n o p m,aQ an (ad f) 0 [vi aa,vi u,vi xN,vi n,vi o,vi p,vi m]/\
 ∃ah,hat an (ad e)=some (vi ah)/\
 cU.C af aa u xN n o p m ab ah an (λa2 ay=> ∃ac,a2=vi ac/\
 (aK ay (ad e) 0 1)/\ ∀av,av=aR ay (ad e) [vi ac] 0->
 av[lp]?=some (rc .busy none)/\
 vRy VT (aO av lp (rc .ready none))))->
 FC prog vY #[vu ab] H10 vRy)->
 FE prog aj #[vY] H9 (λ_ az=>
 (az[lp]?=some (rc .ready none)/\ ∀ai,ai=aO az lp (rc .exhausted none)->
 ∃ax,hat ai (ad b)=some (vp ax)/\
 ∃s,ax=some s/\
 ∃aw,hat ai s=some (vp aw)/\
 ∃r,aw=some r/\
 ∃y,hat ai r=some (vp y)/\
 ∃ae,hat ai (ad e)=some (vi ae)/\
 hC.C y d a ae ai (λa0 a4=> ∃z,a0=vi z/\
 Shut (H8.size::[]) a4 (λa1=>
 R (vi z) a1))))))
 else
 R (vi 19) H5))
namespace dW
theorem link{d:Int}(h:pt a b d H R):C a b d H R:=by
 refine T_en K0 56 func77 ?_
 intro w0 Q hQ
 unfold pt at h
 refine T_su [(0,vp a),(1,vi b),(2,vi d)]<|ar 0<|T_nw (some 3) (λc=>vp (pa c)) (.cells #[vp a] 33) ?_
 intro c H1 e1 e2
 replace h:=h c H1 e1 e2
 refine T_pd [0] [(3,vp (pa c))]<|T_ed 1 [] []<|T_sz<|ar 1 ?_
 obtain⟨x,q3,h⟩:=h
 refine T_l1 11 33 q3 []<|T_c (some 12) h ?_;clear h
 rintro v H2 ⟨al,rfl,h⟩
 refine T_pd [11] [(12,.bool al)]<|T_e ?_
 by_cases c4:al=true
 ·rw[if_pos c4]at h
  exact aI 12 c4<|ar 2<|T_nr 1 [6] [vi 19] hQ h
 rw[if_neg c4]at h
 refine aJ 12 (zZ c4)<|T_kt<|ar 3<|T_ud [12] [] ?_
 obtain⟨ap,q6,h⟩:=h
 refine T_l1 14 33 q6 [] ?_
 obtain⟨aq,rfl,h⟩:=h
 refine T_nd 2 [14] [(16,Vq aq)] ?_
 obtain⟨ao,q7,h⟩:=h
 refine T_l1 17 42 q7 [16] ?_
 obtain⟨au,rfl,h⟩:=h
 refine T_nd 2 [17] [(19,Vq au)] ?_
 obtain⟨am,q8,h⟩:=h
 refine T_l1 20 70 q8 [19]<|T_nd 1 [] [(21,vi b)]<|T_c (some 22) h ?_;clear h
 rintro a3 H3 ⟨t,q,ag,i,l,j,k,rb,rfl,h⟩
 refine T_pd [20,21] [(22,.tuple #[.agg #[vi t,vi q,vi ag,vi i,vi l,vi j,vi k],.bool rb])]<|T_nd 3 [22] [(23,.agg #[vi t,vi q,vi ag,vi i,vi l,vi j,vi k]),(24,.bool rb)]<|T_nw (some 7) (λc=>vp (pa c)) (.cells #[vi 0,vi 0,vi 0,vi 0,vi 0,vi 0,vi 0] 89) ?_
 intro f H4 e9 e10
 replace h:=h f H4 e9 e10
 refine T_pd [] [(7,vp (pa f))] ?_
 obtain⟨q12,h⟩:=h
 refine fG 89 [vi t,vi q,vi ag,vi i,vi l,vi j,vi k] q12 ?_
 intro H5 e11
 replace h:=h H5 e11
 refine T_pd [23] []<|T_ed 1 [24] [(8,.bool rb)]<|T_sz<|T_bz 0<|ar 4<|T_ed 3 [8] [(25,.bool (!rb))] ?_
 by_cases c13:rb=true
 ·rw[if_pos c13]at h
  refine aJ 25 (congrArg Bool.not (c13))<|ar 6 ?_
  refine iT [(1,vi b),(2,vi d),(3,vp (pa c)),(7,vp (pa f)),(28,.bool ((decide (d<0)) || (decide (d>=4))))] ?_ ?_
  ·refine aE ?_
   by_cases c17:((decide (d<0)) || (decide (d>=4)))=true
   ·rw[if_pos c17]at h
    exact aI 28 c17<|ar 7<|T_nr 1 [6] [vi 1] hQ h
   rw[if_neg c17]at h
   refine aJ 28 (zZ c17)<|T_k<|aA<|aE<|ar 8<|T_nu [(1,vi b),(2,vi d),(3,vp (pa c)),(7,vp (pa f))]<|T_nw (some 9) (λc=>vp (pa c)) (.cells #[vi 0] 3) ?_
   intro e H6 e19 e20
   replace h:=h e H6 e19 e20
   refine T_pd [] [(9,vp (pa e))] ?_
   obtain⟨q22,h⟩:=h
   refine fH 3 (vi 5) q22 ?_
   intro H7 e21
   replace h:=h H7 e21
   refine T_pd [] []<|T_e<|T_sz<|ar 9 ?_
   obtain⟨ak,q23,h⟩:=h
   refine T_l1 35 33 q23 []<|T_nd 2 [] [(36,vi b),(37,vi d)]<|T_c (some 38) h ?_;clear h
   rintro aj H8 ⟨-,h⟩
   refine T_pd [35,36,37] [(38,aj)]<|T_e<|T_bz 1<|lk (g:=.tmp 38) (ps:= #[39]) (assign:=K33) (body:=K34) (aj) (by kernel_rfl) (by kernel_rfl) (by kernel_rfl) ?_
   intro rc lp H9 r24 e25 e26 y27
   refine FE.mono (h rc lp H9 e25 e26 (.func (.yield lp) #[] #[]) ?_) ?_
   ·clear h
    intro ab H10 vRy q28 h
    refine y27 #[vu ab] H10 vRy (by kernel_rfl) q28 (λw1x=>?_)
    refine T_sd [] [(39,vu ab)]<|T_rz 10<|T_nd 1 [1,2,38,39] [(10,vu ab)]<|zq ?_
    obtain⟨q30,h⟩:=h
    refine aE<|lj r24 q30 ?_
    intro an e29
    replace h:=h an e29
    refine T_bz 2<|T_rz 11 ?_
    obtain⟨af,q31,h⟩:=h
    refine T_l1 40 33 q31 [3] ?_
    obtain⟨aa,u,xN,n,o,p,m,q32,h⟩:=h
    refine T_lr 41 89 q32 [7]<|T_nd 1 [10] [(42,vu ab)] ?_
    obtain⟨ah,q33,h⟩:=h
    refine T_l1 43 3 q33 []<|T_c (some 44) h ?_;clear h
    rintro a2 ay ⟨ac,rfl,h⟩
    refine⟨[(9,vp (pa e)),(44,vi ac)],pk,?_⟩
    obtain⟨q35,h⟩:=h
    refine fH 3 (vi ac) q35 ?_
    intro av e34
    replace h:=h av e34
    refine⟨[],pk,?_⟩
    refine zq<|aA ?_
    obtain⟨q36,h⟩:=h
    exact cF r24 q36 h
   clear h y27
   rintro _ az (⟨q37,h⟩)
   refine .inl ⟨q37,λai e42=>?_⟩
   replace h:=h ai e42
   refine kC (H8.size::[]) rfl ?_
   refine T_sd [7,38] []<|aA<|aE<|T_sz ?_
   obtain⟨ax,q38,s,rfl,aw,q39,r,rfl,y,q40,ae,q41,h⟩:=h
   refine yq 12 (Code.ops K36) [(10,(ad c),[Vq s]),(10,s,[Vq r]),(10,r,[vp y]),(10,(ad e),[vi ae])] 12 (bv 12 0) (show aF _ _ _ from⟨⟨q38,trivial⟩,⟨q39,trivial⟩,⟨q40,trivial⟩,⟨q41,trivial⟩,trivial⟩)<|T_g 0 (some 45) (Vq s) (bv 12 1) [(1,vi b),(2,vi d),(9,vp (pa e)),(45,Vq s)] (aU 33 (vp (pa c))) (yY 10 yX)<|aL 1 46 (Vq s) (bv 12 3) [45]<|aL 2 47 (Vq s) (bv 12 7) [46]<|T_g1 3 48 (Vq r) (bv 12 15) [47] (aU 42 (Vq s)) (yY 10 yQ)<|aL 4 49 (Vq r) (bv 12 31) [48]<|aL 5 50 (Vq r) (bv 12 63) [49]<|T_g1 6 51 (vp y) (bv 12 127) [50] (aU 70 (Vq r)) (yY 10 yJ)<|aL 7 52 (vi b) (bv 12 255) [1]<|aL 8 53 (vi d) (bv 12 511) [2]<|T_g1 9 54 (vi ae) (bv 12 1023) [9] (aU 3 (vp (pa e))) (yY 10 yK)<|yx 10 (some 55) (bv 12 2047) 119 #[vp y,vi b,vi d,vi ae] h ?_;clear h
   rintro a0 a4 ⟨z,rfl,h⟩
   refine⟨[(55,vi z)],pk,(show aF _ _ _ from⟨trivial,trivial,trivial,trivial,trivial⟩),?_⟩
   refine T_g 11 (some 6) (vi z) (bv 12 4095) [(6,vi z)] (pure (.value (vi z)):Sem Next) (λ_ _ _ _ _=>rfl)<|fU [(6,vi z)] sk<|yz<|aE<|zx ?_
   show At _ _ _ _ _ (Q .ret)
   refine lg (fn:=f77) (H8.size::[]) hQ (Shut.mono (λa1 h=>?_) h)
   exact⟨[vi z],(show cG _ _ _ [.tmp 6] _ from .tmp (by kernel_rfl) (.nil)),h⟩
  intro hk
  refine T_n 3 [(1,vi b),(2,vi d),(3,vp (pa c)),(7,vp (pa f)),(31,.bool (decide (d<0)))] ?_
  by_cases c15:d<0
  ·have b16:(decide (d<0))=true:=zX c15
   refine bW [(1,vi b),(2,vi d),(3,vp (pa c)),(7,vp (pa f)),(31,VT)] (by rw[b16]) ?_
   refine T_nd 4 [31] [(28,VT)]<|zq<|S_bd 28 (b:=true) (v:=((decide (d<0)) || (decide (d>=4)))) (by simp only[b16,BL]) ?_
   exact hk
  have b16:(decide (d<0))=false:=zQ c15
  refine bW [(1,vi b),(2,vi d),(3,vp (pa c)),(7,vp (pa f)),(31,VF)] (by rw[b16]) ?_
  refine T_nd 4 [31] [(28,.bool (decide (d>=4)))]<|zq<|S_bd 28 (b:=(decide (d>=4))) (v:=((decide (d<0)) || (decide (d>=4)))) (by simp only[b16,BL]) ?_
  exact hk
 rw[if_neg c13]at h
 exact aI 25 (congrArg Bool.not (zZ c13))<|ar 5<|T_nr 1 [6] [vi 19] hQ h
end dW
/-! (*moraine/card.Cards).Copy -/
namespace fQ
def K0:=Func.code f104
end fQ
def fQ.pt(c:zW)(H:zV)(R:zv):Prop:=
 fE c (
 R (vp none) H) (λcA=>
 ∃x,hat H cA=some (vp x)/\
 eX.C x H (λv H1=> ∃a,v=vp a/\
 ∀b H2,b=H1.size->H2=H1.push (.cells #[vp a] 44)->
 R (Vq (ad b)) H2))
namespace fQ
theorem link(h:pt a H R):C a H R:=by
 refine T_en K0 12 func104 ?_
 intro w0 Q hQ
 unfold pt at h
 refine T_su [(0,vp a)]<|ar 0<|T_ed 1 [] []<|T_sz<|ar 1<|T_nd 1 [] [(3,vp a)] ?_
 rcases a with _ | cA
 ·rw[onPtr_none]at h
  exact T_ne 1 [(0,vp none),(4,VT)]<|T_tz 4<|ar 2<|T_nr 1 [2] [vp none] hQ h
 rw[onPtr_some]at h
 refine T_ne 1 [(0,Vq cA),(4,VF)]<|T_fz 4<|T_kt<|ar 3<|T_n 3 [(7,Vq cA)] ?_
 obtain⟨x,q1,h⟩:=h
 refine T_l1 8 42 q1 [7]<|T_c (some 9) h ?_;clear h
 rintro v H1 ⟨c,rfl,h⟩
 refine⟨[(9,vp c)],pk,?_⟩
 refine T_n 1 [(10,.agg #[vp c])]<|T_nw (some 11) (λb=>vp (pa b)) (.cells #[vp c] 44) ?_
 intro b H2 e2 e3
 replace h:=h b H2 e2 e3
 refine⟨[(11,vp (pa b))],pk,?_⟩
 exact T_nr 1 [2] [vp (pa b)] hQ h
end fQ
/-! (*moraine/card.Cards).words -/
namespace fX
def K0:=Func.code f117
end fX
def fX.pt(c:zW)(f a:Int)(H:zV)(R:zv):Prop:=
 ∀b H1,b=H.size->H1=H.push (.cells #[vp c] 33)->
 ∀d H2,d=H1.size->H2=H1.push (.cells #[vi f] 3)->
 ∀e H3,e=H2.size->H3=H2.push (.cells #[vi a] 3)->
 R (.func (.func 147) #[] #[Vq (ad b),Vq (ad d),Vq (ad e)]) H3
namespace fX
theorem link{f:Int}(h:pt a b f H R):C a b f H R:=by
 refine T_en K0 8 func117 ?_
 intro w0 Q hQ
 unfold pt at h
 refine T_su [(0,vp a),(1,vi b),(2,vi f)]<|ar 0<|T_nw (some 3) (λc=>vp (pa c)) (.cells #[vp a] 33) ?_
 intro c H1 e1 e2
 replace h:=h c H1 e1 e2
 refine T_pd [0] [(3,vp (pa c))]<|T_nw (some 4) (λc=>vp (pa c)) (.cells #[vi b] 3) ?_
 intro d H2 e3 e4
 replace h:=h d H2 e3 e4
 refine T_pd [1] [(4,vp (pa d))]<|T_nw (some 5) (λc=>vp (pa c)) (.cells #[vi f] 3) ?_
 intro e H3 e5 e6
 replace h:=h e H3 e5 e6
 exact T_pd [2] [(5,vp (pa e))]<|T_ed 1 [] []<|ar 1<|T_nr 2 [6] [.func (.func 147) #[] #[vp (pa c),vp (pa d),vp (pa e)]] hQ h
end fX
/-! (*moraine/card.Cards).words.1 -/
namespace eQ
def K0:=Func.code f147
def K2:=cb K0
def K3:=ca K2
def K4:=ca K3
def K6:=cb K4
def K8:=cb K6
def K11:=ca K8
def K13:=ca K11
def K15:=cb K13
def K16:=ca K15
end eQ
def eQ.pt(a:Value)(i k j:zW)(H:zV)(R:zv):Prop:=
 ∃(I5:zw) (m5:Int->zV->Nat),I5 0 H/\ ∀s8 H1,I5 s8 H1->
 if s8<16 then(
 ∃b,i=some b/\
 ∃x,hat H1 b=some (vp x)/\
 ∃xA,x=some xA/\
 ∃o,hat H1 xA=some (vp o)/\
 ∃m,o=some m/\
 ∃l,hat H1 m=some (vp l)/\
 ∃e,k=some e/\
 ∃f,hat H1 e=some (vi f)/\
 ∃d,j=some d/\
 ∃g,hat H1 d=some (vi g)/\
 cK.C l (zY ((zY ((zY (f*64))+(zY (g*16))))+s8)) H1 (λv H2=> ∃ra rb,v=.tuple #[vu ra,vi rb]/\
 if rb=0 then(
 FC prog a #[vu ra] H2 (λp H3=> ∃n,p=.bool n/\
 if n=true then(
 (I5 (zY (s8+1)) H3/\m5 (zY (s8+1)) H3<m5 s8 H1))
 else
 R (.tuple #[]) H3))
 else
 R (.tuple #[]) H2))
 else
 R (.tuple #[]) H1
namespace eQ
theorem link{i:Value}{k j:zW}(h:pt i a k j H R):C i a k j H R:=by
 refine T_en K0 38 func147 ?_
 intro w0 Q hQ
 unfold pt zY at h
 refine T_su [(0,i),(1,vp a),(2,vp k),(3,vp j)]<|ar 0<|T_ed 1 [] [(8,vi 0)]<|T_bz 0 ?_
 obtain⟨I5,m5,i1,i2⟩:=h
 refine bL (x:=K4) (σ:=Int) (λs_=> [(0,i),(1,vp a),(2,vp k),(3,vp j),(8,vi s_)]) (λs_ H=>I5 s_ H) (λs_ H=>m5 s_ H) (0:Int) (by kernel_rfl) i1 sk ?_
 rintro s8 H1 i3
 have h:=i2 s8 H1 i3
 refine T_su [(0,i),(1,vp a),(2,vp k),(3,vp j),(8,vi s8)]<|ar 1<|T_ed 1 [] [(9,.bool (decide (s8<16)))]<|T_sz ?_
 by_cases c4:s8<16
 ·rw[if_pos c4]at h
  refine aI 9 (zX c4)<|T_kt<|T_sz<|T_bz 1<|ar 2<|T_ed 2 [9] [(5,vi s8)]<|T_sz ?_
  obtain⟨b,rfl,x,q6,xA,rfl,o,q7,m,rfl,l,q8,e,rfl,f,q9,d,rfl,g,q10,h⟩:=h
  refine yq 3 (Code.ops K16) [(14,b,[Vq xA]),(14,xA,[Vq m]),(14,m,[vp l]),(14,e,[vi f]),(14,d,[vi g])] 20 (bv 20 0) (show aF _ _ _ from⟨⟨q6,trivial⟩,⟨q7,trivial⟩,⟨q8,trivial⟩,⟨q9,trivial⟩,⟨q10,trivial⟩,trivial⟩)<|T_g 0 (some 12) (Vq xA) (bv 20 1) [(0,i),(1,Vq b),(2,Vq e),(3,Vq d),(5,vi s8),(8,vi s8),(12,Vq xA)] (aU 33 (Vq b)) (yY 14 yX)<|aL 1 13 (Vq xA) (bv 20 3) [12]<|aL 2 14 (Vq xA) (bv 20 7) [13]<|T_g1 3 15 (Vq m) (bv 20 15) [14] (aU 42 (Vq xA)) (yY 14 yQ)<|aL 4 16 (Vq m) (bv 20 31) [15]<|aL 5 17 (Vq m) (bv 20 63) [16]<|T_g1 6 18 (vp l) (bv 20 127) [17] (aU 70 (Vq m)) (yY 14 yJ)<|T_g1 7 19 (vi f) (bv 20 255) [] (aU 3 (Vq e)) (yY 14 yK)<|aL 8 20 (vi (zY (f*64))) (bv 20 511) [19]<|T_g1 9 21 (vi g) (bv 20 1023) [] (aU 3 (Vq d)) (yY 14 yV)<|aL 10 22 (vi (zY (g*16))) (bv 20 2047) [21]<|aL 11 23 (vi (zY ((zY (f*64))+(zY (g*16))))) (bv 20 4095) [20,22]<|aL 12 24 (vi s8) (bv 20 8191) [5]<|aL 13 25 (vi (zY ((zY ((zY (f*64))+(zY (g*16))))+s8))) (bv 20 16383) [23,24]<|yx 14 (some 26) (bv 20 32767) 82 #[vp l,vi (zY ((zY ((zY (f*64))+(zY (g*16))))+s8))] h ?_;clear h
  rintro v H2 ⟨ra,rb,rfl,h⟩
  refine⟨[(0,i),(1,Vq b),(2,Vq e),(3,Vq d),(8,vi s8),(26,.tuple #[vu ra,vi rb])],pk,(show aF _ _ _ from⟨trivial,trivial,trivial,trivial,trivial,trivial⟩),?_⟩
  refine T_g 15 (some 11) (.tuple #[vu ra,vi rb]) (bv 20 65535) [(0,i),(1,Vq b),(2,Vq e),(3,Vq d),(8,vi s8),(11,.tuple #[vu ra,vi rb])] (pure (.value (.tuple #[vu ra,vi rb])):Sem Next) (λ_ _ _ _ _=>rfl)<|T_g1 16 27 (vu ra) (bv 20 131071) [] (pure (.value (vu ra)):Sem Next) (λ_ _ _ _ _=>rfl)<|T_g1 17 28 (vi rb) (bv 20 262143) [11] (pure (.value (vi rb)):Sem Next) (λ_ _ _ _ _=>rfl)<|T_g1 18 6 (vu ra) (bv 20 524287) [27] (pure (.value (vu ra)):Sem Next) (λ_ _ _ _ _=>rfl)<|T_g1 19 7 (vi rb) (bv 20 1048575) [28] (pure (.value (vi rb)):Sem Next) (λ_ _ _ _ _=>rfl)<|fU [(0,i),(1,Vq b),(2,Vq e),(3,Vq d),(6,vu ra),(7,vi rb),(8,vi s8)] sk<|yz<|aE<|ar 4<|T_n 3 [(0,i),(1,Vq b),(2,Vq e),(3,Vq d),(6,vu ra),(8,vi s8),(31,.bool (rb !=0))] ?_
  by_cases c11:rb=0
  ·rw[if_pos c11]at h
   have b12:(rb !=0)=false:=bne_eq_false_iff_eq.mpr c11
   refine bW [(0,i),(1,Vq b),(2,Vq e),(3,Vq d),(6,vu ra),(8,vi s8),(31,VF)] (by rw[b12]) ?_
   clear b12
   refine T_nd 2 [6] [(32,i),(33,vu ra)]<|l9 (some 34) i #[vu ra] (λ_=>by kernel_rfl) h ?_;clear h
   rintro p H3 ⟨n,rfl,h⟩
   refine T_pd [32,33] [(34,.bool n)]<|T_ed 2 [31,34] [(36,.bool (!n))] ?_
   by_cases c13:n=true
   ·rw[if_pos c13]at h
    exact aJ 36 (congrArg Bool.not (c13))<|T_k<|aA<|aE<|T_rz 5<|T_ed 2 [8,36] [(8,vi (zY (s8+1)))]<|aS ((zY (s8+1)):Int) sk h
   rw[if_neg c13]at h
   exact aI 36 (congrArg Bool.not (zZ c13))<|jF [] [] hQ h
  rw[if_neg c11]at h
  have b12:(rb !=0)=true:=bne_iff_ne.mpr c11
  refine bW [(0,i),(1,Vq b),(2,Vq e),(3,Vq d),(6,vu ra),(8,vi s8),(31,VT)] (by rw[b12]) ?_
  clear b12
  exact T_ed 5 [6,31] [(36,VT)]<|T_tz 36<|jF [] [] hQ h
 rw[if_neg c4]at h
 exact aJ 9 (zQ c4)<|zk 0<|aD<|aD<|aM<|iG (fn:=f147) [] hQ (show cG _ _ _ [] _ from .nil) h
end eQ
