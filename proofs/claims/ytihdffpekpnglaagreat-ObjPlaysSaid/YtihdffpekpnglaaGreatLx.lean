/- Printed: what each function asks, and that it is sound. -/
import Derived.Test.YtihdffpekpnglaaGreatFnsC
set_option linter.unusedSimpArgs false
set_option linter.unusedVariables false
set_option maxRecDepth 100000
set_option maxHeartbeats 1000000
noncomputable section
namespace Go.Proofs.YtihdffpekpnglaaGreat
open Go
/-! moraine/space.New -/
namespace iE
def K0:=Func.code Tryz.f70
end iE
def iE.pt(a:Int)(H:zW)(R:zv):Prop:=
 jx.C a H (λv H1=> ∃(ra:zY) (rb:Int),v=.tuple #[.pointer ra,.int .i64 rb]/\
 if rb=0 then(
 ∀(b:Nat) (H2:zW),b=H1.size->H2=H1.push (.cells #[.pointer ra,.int .i64 0,.int .i64 0,.int .i64 0,.int .i64 0,.int .i64 0,.int .i64 0,.int .i64 0,.int .i64 0,.int .i64 0,.int .i64 0,.int .i64 0,.int .i64 0,.int .i64 0,.int .i64 0,.int .i64 0,.int .i64 0,.int .i64 0,.int .i64 0,.int .i64 0,.int .i64 0] 62)->
 R (.tuple #[.pointer (some (ad b)),.int .i64 0]) H2)
 else
 R (.tuple #[.pointer none,.int .i64 rb]) H1)
namespace iE
theorem link{a:Int}{H:zW}{R:zv}(h:pt a H R):C a H R:=by
 refine T_en K0 17 Tryz.func70 ?_
 intro w0 Q hQ
 unfold pt at h
 refine T_su [(0,vi a)]<| ar 0<| T_ed 2 [] []<| ar 1<| T_n 1 [(7,vi a)]<| T_c (some 8) h ?_;clear h
 rintro v H1 ⟨ra,rb,rfl,h⟩
 refine⟨[(8,.tuple #[vp ra,vi rb])],pk,?_⟩
 refine T_ne 5 [(4,vp ra),(5,vi rb)]<| T_sz<| ar 2<| T_ed 2 [] [(12,.bool (rb !=0))] ?_
 by_cases c1:rb=0
 ·rw[if_pos c1]at h
  refine aI 12 (bne_eq_false_iff_eq.mpr c1)<| T_kt<| ar 4<| T_n 2 [(15,.agg #[vp ra,vi 0,vi 0,vi 0,vi 0,vi 0,vi 0,vi 0,vi 0,vi 0,vi 0,vi 0,vi 0,vi 0,vi 0,vi 0,vi 0,vi 0,vi 0,vi 0,vi 0])]<| T_nw (some 16) (λb=>vp (pa b)) (.cells #[vp ra,vi 0,vi 0,vi 0,vi 0,vi 0,vi 0,vi 0,vi 0,vi 0,vi 0,vi 0,vi 0,vi 0,vi 0,vi 0,vi 0,vi 0,vi 0,vi 0,vi 0] 62) ?_
  intro b H2 e3 e4
  replace h:=h b H2 e3 e4
  refine⟨[(16,vp (pa b))],pk,?_⟩
  exact T_nr 2 [2,3] [vp (pa b),vi 0] hQ h
 rw[if_neg c1]at h
 exact aH 12 (bne_iff_ne.mpr c1)<| ar 3<| T_nr 3 [2,3] [vp none,vi rb] hQ h
end iE

/-! (*moraine/space.Space).Alloc -/
namespace eL
def K0:=Func.code Tryz.f73
end eL
def eL.pt(s:zY)(d b nv:Int)(H:zW)(R:zv):Prop:=
 fB.C s H (λv H1=> ∃x:Bool,v=.bool x/\
 if x=true then(
 R (.tuple #[.int .i64 0,.int .i64 1]) H1)
 else
 iG.C d b nv H1 (λz H2=> ∃o:Bool,z=.bool o/\
 if o=true then(
 dM.C s d b H2 (λae H3=> ∃(ra:Int) (rb:Bool),ae=.tuple #[.int .i64 ra,.bool rb]/\
 ∃J:zW->Prop,(
 if rb=true then(
 ∃j:Addr,s=some j/\
 ∃u:zY,hat H3 j=some (.pointer u)/\
 gD.C u ra nv H3 (λaa H8=> ∃l m:Int,aa=.tuple #[.int .i64 l,.int .i64 m]/\
 if m=0 then(
 R (.tuple #[.int .i64 l,.int .i64 0]) H8)
 else
 J H8))
 else
 J H3)/\ ∀(H4:zW),J H4->
 ∃sA:Addr,s=some sA/\
 ∃y:zY,hat H4 sA=some (.pointer y)/\
 gV.C y d b H4 (λab H5=> ∃e f:Int,ab=.tuple #[.int .i64 e,.int .i64 f]/\
 if f=0 then(
 yZ d 5/\
 yZ b 4/\
 (aJ H5 (((sA.add 1).add (Int.toNat d*4)).add (Int.toNat b*1)) 0 1)/\ ∀H6,H6=aP H5 (((sA.add 1).add (Int.toNat d*4)).add (Int.toNat b*1)) [.int .i64 (zq (e+1))] 0->
 ∃r:zY,hat H6 sA=some (.pointer r)/\
 gD.C r e nv H6 (λac H7=> ∃p q:Int,ac=.tuple #[.int .i64 p,.int .i64 q]/\
 R (.tuple #[.int .i64 p,.int .i64 q]) H7))
 else
 R (.tuple #[.int .i64 0,.int .i64 f]) H5)))
 else
 R (.tuple #[.int .i64 0,.int .i64 1]) H2))
namespace eL
theorem link{s:zY}{d b nv:Int}{H:zW}{R:zv}(h:pt s d b nv H R):C s d b nv H R:=by
 refine T_en K0 77 Tryz.func73 ?_
 intro w0 Q hQ
 unfold pt zq at h
 refine T_su [(0,vp s),(1,vi d),(2,vi b),(3,vi nv)]<| ar 0<| T_ed 2 [] []<| T_sz<| ar 1<| T_nd 1 [] [(16,vp s)]<| T_c (some 17) h ?_;clear h
 rintro v H1 ⟨x,rfl,h⟩
 refine T_pd [16] [(17,.bool x)]<| T_nd 1 [17] [(18,.bool x)] ?_
 by_cases c1:x=true
 ·rw[if_pos c1]at h
  exact N_bd 18 c1<| T_ed 6 [18] [(24,.bool true)]<| T_tz 24<| ar 2<| T_nr 2 [8,9] [vi 0,vi 1] hQ h
 rw[if_neg c1]at h
 refine N_bd 18 (zZ c1)<| T_nd 3 [] [(19,vi d),(20,vi b),(21,vi nv)] ?_
 refine T_c (some 22) h ?_;clear h
 rintro z H2 ⟨o,rfl,h⟩
 refine T_pd [19,20,21] [(22,.bool o)]<| T_ed 2 [18,22] [(24,.bool (!o))] ?_
 by_cases c3:o=true
 ·rw[if_pos c3]at h
  refine aI 24 (congrArg Bool.not (c3))<| T_kt<| T_sz<| ar 3<| T_nd 3 [24] [(26,vp s),(27,vi d),(28,vi b)]<| T_c (some 29) h ?_;clear h
  rintro ae H3 ⟨ra,rb,rfl,h⟩
  refine T_pd [26,27,28] [(29,.tuple #[vi ra,.bool rb])]<| T_ed 5 [29] [(10,vi ra),(11,.bool rb)]<| ar 4<| T_ne 1 [(0,vp s),(1,vi d),(2,vi b),(3,vi nv),(10,vi ra),(32,.bool rb)] ?_
  obtain⟨J,h,j6⟩:=h
  refine kb (σ:=Unit) (λs_=> [(0,vp s),(1,vi d),(2,vi b),(3,vi nv)]) (λs_ H=>J H) ?_ ?_
  ·rintro _ H4 j7
   replace h:=j6 H4 j7
   refine T_su [(0,vp s),(1,vi d),(2,vi b),(3,vi nv)]<| aE<| ar 8<| T_nd 1 [] [(47,vp s)] ?_
   obtain⟨sA,rfl,h⟩:=h
   refine T_nd 2 [0,47] [(0,vp (some sA)),(49,vp (some sA))] ?_
   obtain⟨y,q8,h⟩:=h
   refine T_l1 50 58 q8 [49]<| T_nd 2 [] [(51,vi d),(52,vi b)]<| T_c (some 53) h ?_;clear h
   rintro ab H5 ⟨e,f,rfl,h⟩
   refine T_pd [50,51,52] [(53,.tuple #[vi e,vi f])]<| T_ed 5 [53] [(14,vi e),(15,vi f)]<| T_sz<| ar 9<| T_ed 2 [] [(57,.bool (f !=0))] ?_
   by_cases c9:f=0
   ·rw[if_pos c9]at h
    refine aI 57 (bne_eq_false_iff_eq.mpr c9)<| T_kt<| ar 11<| T_nd 7 [1,2,15,57] [(60,vi d),(61,vi b),(63,vi (zq (e+1))),(65,vp (some (sA.add 1)))] ?_
    obtain⟨q11,h⟩:=h
    refine T_v1 66 (bD 60 (vp (some (sA.add 1))) (vi d)) (vp (some ((sA.add 1).add (Int.toNat d*4)))) (λw _=>dK (P:=Tryz.prog) (t:=60) (elem:=59) (sz:=4) (n:=5) (a:=(sA.add 1)) (k:=.i64) (i:=d) Tryz.underlying60 (λ_=>by kernel_rfl) q11.1 q11.2 w) [60,65] ?_
    obtain⟨q12,h⟩:=h
    refine T_v1 67 (bD 59 (vp (some ((sA.add 1).add (Int.toNat d*4)))) (vi b)) (vp (some (((sA.add 1).add (Int.toNat d*4)).add (Int.toNat b*1)))) (λw _=>dK (P:=Tryz.prog) (t:=59) (elem:=3) (sz:=1) (n:=4) (a:=((sA.add 1).add (Int.toNat d*4))) (k:=.i64) (i:=b) Tryz.underlying59 (λ_=>by kernel_rfl) q12.1 q12.2 w) [61,66] ?_
    obtain⟨q14,h⟩:=h
    refine je 3 (vi (zq (e+1))) q14 ?_
    intro H6 e13
    replace h:=h H6 e13
    refine T_pd [63,67] []<| T_e<| ar 12<| T_nd 3 [0] [(70,vp (some sA))] ?_
    obtain⟨r,q15,h⟩:=h
    refine T_l1 71 58 q15 [70]<| T_nd 2 [3,14] [(72,vi e),(73,vi nv)]<| T_c (some 74) h ?_;clear h
    rintro ac H7 ⟨p,q,rfl,h⟩
    refine⟨[(74,.tuple #[vi p,vi q])],pk,?_⟩
    exact T_nr 4 [8,9] [vi p,vi q] hQ h
   rw[if_neg c9]at h
   exact aH 57 (bne_iff_ne.mpr c9)<| ar 10<| T_nr 3 [8,9] [vi 0,vi f] hQ h
  by_cases c16:rb=true
  ·rw[if_pos c16]at h
   have b17:rb=true:=c16
   refine eT [(0,vp s),(1,vi d),(2,vi b),(3,vi nv),(10,vi ra),(32,.bool true)] (by simp only[b17,Bool.not_true,Bool.not_false]) ?_
   clear b17
   refine T_tz 32<| ar 5<| T_nd 1 [32] [(34,vp s)] ?_
   obtain⟨j,rfl,h⟩:=h
   refine T_nd 2 [0,34] [(0,vp (some j)),(36,vp (some j))] ?_
   obtain⟨u,q18,h⟩:=h
   refine T_l1 37 58 q18 [36]<| T_nd 2 [10] [(38,vi ra),(39,vi nv)]<| T_c (some 40) h ?_;clear h
   rintro aa H8 ⟨l,m,rfl,h⟩
   refine T_pd [37,38,39] [(40,.tuple #[vi l,vi m])]<| T_ed 5 [40] [(12,vi l),(13,vi m)]<| ar 6<| T_ed 2 [13] [(44,.bool (m==0))] ?_
   by_cases c19:m=0
   ·rw[if_pos c19]at h
    exact aH 44 (zV c19)<| ar 7<| T_nr 3 [8,9] [vi l,vi 0] hQ h
   rw[if_neg c19]at h
   exact aI 44 (zK c19)<| T_kt<| fH (():Unit) sk h
  rw[if_neg c16]at h
  have b17:rb=false:=zZ c16
  refine eT [(0,vp s),(1,vi d),(2,vi b),(3,vi nv),(10,vi ra),(32,.bool false)] (by simp only[b17,Bool.not_true,Bool.not_false]) ?_
  clear b17
  exact T_fz 32<| T_kt<| fH (():Unit) sk h
 rw[if_neg c3]at h
 exact aH 24 (congrArg Bool.not (zZ c3))<| ar 2<| T_nr 2 [8,9] [vi 0,vi 1] hQ h
end eL

/-! (*moraine/space.Space).none -/
namespace fB
def K0:=Func.code Tryz.f114
end fB
def fB.pt(s:zY)(H:zW)(R:zv):Prop:=
 gk s (
 R (.bool true) H) (λsA=>
 ∃x:zY,hat H sA=some (.pointer x)/\
 gk x (
 R (.bool true) H) (λxA=>
 R (.bool false) H))
namespace fB
theorem link{s:zY}{H:zW}{R:zv}(h:pt s H R):C s H R:=by
 refine T_en K0 12 Tryz.func114 ?_
 intro w0 Q hQ
 unfold pt at h
 refine T_su [(0,vp s)]<| ar 0<| T_ed 1 [] []<| ar 1<| T_nd 1 [] [(3,vp s)] ?_
 rcases s with _ | sA
 ·rw[onPtr_none]at h
  exact T_nr 9 [2] [.bool true] hQ h
 rw[onPtr_some]at h
 refine T_n 5 [(5,.bool false),(8,vp (some sA))] ?_
 obtain⟨x,q1,h⟩:=h
 refine T_l1 9 58 q1 [8] ?_
 rcases x with _ | xA
 ·rw[onPtr_none]at h
  exact T_nr 3 [2] [.bool true] hQ h
 rw[onPtr_some]at h
 exact T_nr 3 [2] [.bool false] hQ h
end fB

/-! moraine/space.may -/
namespace iG
def K0:=Func.code Tryz.f115
end iG
def iG.pt(b a nv:Int)(H:zW)(R:zv):Prop:=
 if((decide (b<0)) || (decide (b>4)))=true then(
 R (.bool false) H)
 else
 if((a==0) || (a==1))=true then(
 R (.bool (nv==2)) H)
 else
 R (.bool ((((a==2) || (a==3)) && (decide (nv>=1))) && (decide (nv<=63)))) H
namespace iG
theorem link{b a nv:Int}{H:zW}{R:zv}(h:pt b a nv H R):C b a nv H R:=by
 refine T_en K0 37 Tryz.func115 ?_
 intro w0 Q hQ
 unfold pt at h
 refine T_su [(0,vi b),(1,vi a),(2,vi nv)]<| ar 0<| T_ed 1 [] []<| T_sz<| T_bz 0<| ar 1 ?_
 refine gp [(1,vi a),(2,vi nv),(7,.bool ((decide (b<0)) || (decide (b>4))))] ?_ ?_
 ·refine aE ?_
  by_cases c3:((decide (b<0)) || (decide (b>4)))=true
  ·rw[if_pos c3]at h
   exact aH 7 c3<| ar 2<| T_nr 1 [6] [.bool false] hQ h
  rw[if_neg c3]at h
  refine aI 7 (zZ c3)<| ar 3 ?_
  refine gp [(1,vi a),(2,vi nv),(14,.bool ((a==0) || (a==1)))] ?_ ?_
  ·refine aE ?_
   by_cases c7:((a==0) || (a==1))=true
   ·rw[if_pos c7]at h
    exact aH 14 c7<| ar 4<| T_nr 3 [6] [.bool (nv==2)] hQ h
   rw[if_neg c7]at h
   refine aI 14 (zZ c7)<| T_k<| aL<| aE<| ar 5 ?_
   refine gp [(6,.bool ((((a==2) || (a==3)) && (decide (nv>=1))) && (decide (nv<=63))))] ?_ ?_
   ·exact aE<| ie [6] [.bool ((((a==2) || (a==3)) && (decide (nv>=1))) && (decide (nv<=63)))] hQ h
   intro hk
   refine T_n 3 [(1,vi a),(2,vi nv),(25,.bool (a==2))] ?_
   by_cases c9:a=2
   ·have b10:(a==2)=true:=zV c9
    refine bV [(1,vi a),(2,vi nv),(25,.bool true)] (by rw[b10]) ?_
    refine T_nd 8 [1,25] [(33,.bool (decide (nv>=1)))] ?_
    by_cases c11:nv>=1
    ·have b12:(decide (nv>=1))=true:=zQ c11
     refine N_bd 33 b12<| T_n 4 [(6,.bool (decide (nv<=63)))] ?_
     refine zx<| eT [(6,.bool ((((a==2) || (a==3)) && (decide (nv>=1))) && (decide (nv<=63))))] (by simp only[b10,b12,BL]) ?_
     exact hk
    have b12:(decide (nv>=1))=false:=zJ c11
    refine N_bd 33 b12<| T_n 4 [(6,.bool false)] ?_
    refine zx<| eT [(6,.bool ((((a==2) || (a==3)) && (decide (nv>=1))) && (decide (nv<=63))))] (by simp only[b10,b12,BL]) ?_
    exact hk
   have b10:(a==2)=false:=zK c9
   refine bV [(1,vi a),(2,vi nv),(25,.bool false)] (by rw[b10]) ?_
   refine T_nd 4 [1,25] [(29,.bool (a==3))] ?_
   by_cases c13:a=3
   ·have b14:(a==3)=true:=zV c13
    refine N_bd 29 b14<| T_nd 4 [29] [(33,.bool (decide (nv>=1)))] ?_
    by_cases c15:nv>=1
    ·have b16:(decide (nv>=1))=true:=zQ c15
     refine N_bd 33 b16<| T_n 4 [(6,.bool (decide (nv<=63)))] ?_
     refine zx<| eT [(6,.bool ((((a==2) || (a==3)) && (decide (nv>=1))) && (decide (nv<=63))))] (by simp only[b10,b14,b16,BL]) ?_
     exact hk
    have b16:(decide (nv>=1))=false:=zJ c15
    refine N_bd 33 b16<| T_n 4 [(6,.bool false)] ?_
    refine zx<| eT [(6,.bool ((((a==2) || (a==3)) && (decide (nv>=1))) && (decide (nv<=63))))] (by simp only[b10,b14,b16,BL]) ?_
    exact hk
   have b14:(a==3)=false:=zK c13
   refine N_bd 29 b14<| T_n 8 [(6,.bool false)] ?_
   refine zx<| eT [(6,.bool ((((a==2) || (a==3)) && (decide (nv>=1))) && (decide (nv<=63))))] (by simp only[b10,b14,BL]) ?_
   exact hk
  intro hk
  refine T_n 3 [(1,vi a),(2,vi nv),(17,.bool (a==0))] ?_
  by_cases c5:a=0
  ·have b6:(a==0)=true:=zV c5
   refine bV [(1,vi a),(2,vi nv),(17,.bool true)] (by rw[b6]) ?_
   refine T_nd 4 [17] [(14,.bool true)]<| zx<| S_bd 14 (b:=true) (v:=((a==0) || (a==1))) (by simp only[b6,BL]) ?_
   exact hk
  have b6:(a==0)=false:=zK c5
  refine bV [(1,vi a),(2,vi nv),(17,.bool false)] (by rw[b6]) ?_
  refine T_nd 4 [17] [(14,.bool (a==1))]<| zx<| S_bd 14 (b:=(a==1)) (v:=((a==0) || (a==1))) (by simp only[b6,BL]) ?_
  exact hk
 intro hk
 refine T_n 3 [(0,vi b),(1,vi a),(2,vi nv),(10,.bool (decide (b<0)))] ?_
 by_cases c1:b<0
 ·have b2:(decide (b<0))=true:=zQ c1
  refine bV [(0,vi b),(1,vi a),(2,vi nv),(10,.bool true)] (by rw[b2]) ?_
  refine T_nd 4 [0,10] [(7,.bool true)]<| zx<| S_bd 7 (b:=true) (v:=((decide (b<0)) || (decide (b>4)))) (by simp only[b2,BL]) ?_
  exact hk
 have b2:(decide (b<0))=false:=zJ c1
 refine bV [(0,vi b),(1,vi a),(2,vi nv),(10,.bool false)] (by rw[b2]) ?_
 refine T_nd 4 [0,10] [(7,.bool (decide (b>4)))]<| zx<| S_bd 7 (b:=(decide (b>4))) (v:=((decide (b<0)) || (decide (b>4)))) (by simp only[b2,BL]) ?_
 exact hk
end iG

/-! (*moraine/space.Space).Current -/
namespace dM
def K0:=Func.code Tryz.f116
end dM
def dM.pt(s:zY)(d b:Int)(H:zW)(R:zv):Prop:=
 gk s (
 R (.tuple #[.int .i64 0,.bool false]) H) (λsA=>
 if d<0 then(
 R (.tuple #[.int .i64 0,.bool false]) H)
 else
 if d>4 then(
 R (.tuple #[.int .i64 0,.bool false]) H)
 else
 if b<0 then(
 R (.tuple #[.int .i64 0,.bool false]) H)
 else
 if b>3 then(
 R (.tuple #[.int .i64 0,.bool false]) H)
 else
 yZ d 5/\
 yZ b 4/\
 ∃x:Int,hat H (((sA.add 1).add (Int.toNat d*4)).add (Int.toNat b*1))=some (.int .i64 x)/\
 if x=0 then(
 R (.tuple #[.int .i64 0,.bool false]) H)
 else
 yZ d 5/\
 yZ b 4/\
 ∃e:Int,hat H (((sA.add 1).add (Int.toNat d*4)).add (Int.toNat b*1))=some (.int .i64 e)/\
 R (.tuple #[.int .i64 (zq (e-1)),.bool true]) H)
namespace dM
theorem link{s:zY}{d b:Int}{H:zW}{R:zv}(h:pt s d b H R):C s d b H R:=by
 refine T_en K0 46 Tryz.func116 ?_
 intro w0 Q hQ
 unfold pt zq at h
 refine T_su [(0,vp s),(1,vi d),(2,vi b)]<| ar 0<| T_ed 2 [] []<| T_sz<| ar 1<| T_nd 1 [] [(8,vp s)] ?_
 rcases s with _ | sA
 ·rw[onPtr_none]at h
  exact T_ed 28 [0,8] [(0,vp none),(36,.bool true)]<| T_tz 36<| ar 2<| T_nr 2 [6,7] [vi 0,.bool false] hQ h
 rw[onPtr_some]at h
 refine T_nd 6 [0,8] [(0,vp (some sA)),(14,.bool (decide (d<0)))] ?_
 by_cases c1:d<0
 ·rw[if_pos c1]at h
  exact N_bd 14 (zQ c1)<| T_ed 22 [14] [(36,.bool true)]<| T_tz 36<| ar 2<| T_nr 2 [6,7] [vi 0,.bool false] hQ h
 rw[if_neg c1]at h
 refine N_bd 14 (zJ c1)<| T_nd 4 [14] [(18,.bool (decide (d>4)))] ?_
 by_cases c3:d>4
 ·rw[if_pos c3]at h
  exact N_bd 18 (zQ c3)<| T_ed 18 [18] [(36,.bool true)]<| T_tz 36<| ar 2<| T_nr 2 [6,7] [vi 0,.bool false] hQ h
 rw[if_neg c3]at h
 refine N_bd 18 (zJ c3)<| T_nd 4 [18] [(22,.bool (decide (b<0)))] ?_
 by_cases c5:b<0
 ·rw[if_pos c5]at h
  exact N_bd 22 (zQ c5)<| T_ed 14 [22] [(36,.bool true)]<| T_tz 36<| ar 2<| T_nr 2 [6,7] [vi 0,.bool false] hQ h
 rw[if_neg c5]at h
 refine N_bd 22 (zJ c5)<| T_nd 4 [22] [(26,.bool (decide (b>3)))] ?_
 by_cases c7:b>3
 ·rw[if_pos c7]at h
  exact N_bd 26 (zQ c7)<| T_ed 10 [26] [(36,.bool true)]<| T_tz 36<| ar 2<| T_nr 2 [6,7] [vi 0,.bool false] hQ h
 rw[if_neg c7]at h
 refine N_bd 26 (zJ c7)<| T_nd 5 [] [(28,vi d),(29,vi b),(31,vp (some (sA.add 1)))] ?_
 obtain⟨q9,h⟩:=h
 refine T_v1 32 (bD 60 (vp (some (sA.add 1))) (vi d)) (vp (some ((sA.add 1).add (Int.toNat d*4)))) (λw _=>dK (P:=Tryz.prog) (t:=60) (elem:=59) (sz:=4) (n:=5) (a:=(sA.add 1)) (k:=.i64) (i:=d) Tryz.underlying60 (λ_=>by kernel_rfl) q9.1 q9.2 w) [28,31] ?_
 obtain⟨q10,h⟩:=h
 refine T_v1 33 (bD 59 (vp (some ((sA.add 1).add (Int.toNat d*4)))) (vi b)) (vp (some (((sA.add 1).add (Int.toNat d*4)).add (Int.toNat b*1)))) (λw _=>dK (P:=Tryz.prog) (t:=59) (elem:=3) (sz:=1) (n:=4) (a:=((sA.add 1).add (Int.toNat d*4))) (k:=.i64) (i:=b) Tryz.underlying59 (λ_=>by kernel_rfl) q10.1 q10.2 w) [29,32] ?_
 obtain⟨x,q11,h⟩:=h
 refine T_l1 34 3 q11 [33]<| T_ed 2 [26,34] [(36,.bool (x==0))] ?_
 by_cases c12:x=0
 ·rw[if_pos c12]at h
  exact aH 36 (zV c12)<| ar 2<| T_nr 2 [6,7] [vi 0,.bool false] hQ h
 rw[if_neg c12]at h
 refine aI 36 (zK c12)<| T_kt<| ar 3<| T_n 5 [(38,vi d),(39,vi b),(41,vp (some (sA.add 1)))] ?_
 obtain⟨q14,h⟩:=h
 refine T_v1 42 (bD 60 (vp (some (sA.add 1))) (vi d)) (vp (some ((sA.add 1).add (Int.toNat d*4)))) (λw _=>dK (P:=Tryz.prog) (t:=60) (elem:=59) (sz:=4) (n:=5) (a:=(sA.add 1)) (k:=.i64) (i:=d) Tryz.underlying60 (λ_=>by kernel_rfl) q14.1 q14.2 w) [38,41] ?_
 obtain⟨q15,h⟩:=h
 refine T_v1 43 (bD 59 (vp (some ((sA.add 1).add (Int.toNat d*4)))) (vi b)) (vp (some (((sA.add 1).add (Int.toNat d*4)).add (Int.toNat b*1)))) (λw _=>dK (P:=Tryz.prog) (t:=59) (elem:=3) (sz:=1) (n:=4) (a:=((sA.add 1).add (Int.toNat d*4))) (k:=.i64) (i:=b) Tryz.underlying59 (λ_=>by kernel_rfl) q15.1 q15.2 w) [39,42] ?_
 obtain⟨e,q16,h⟩:=h
 exact T_l1 44 3 q16 [43]<| T_nr 3 [6,7] [vi (zq (e-1)),.bool true] hQ h
end dM

/-! moraine/card.New -/
namespace iZ
def K0:=Func.code Tryz.f26
end iZ
def iZ.pt(a:Int)(H:zW)(R:zv):Prop:=
 iE.C a H (λv H1=> ∃(ra:zY) (rb:Int),v=.tuple #[.pointer ra,.int .i64 rb]/\
 if rb=0 then(
 ∀(b:Nat) (H2:zW),b=H1.size->H2=H1.push (.cells #[.pointer ra] 57)->
 R (.tuple #[.pointer (some (ad b)),.int .i64 0]) H2)
 else
 R (.tuple #[.pointer none,.int .i64 rb]) H1)
namespace iZ
theorem link{a:Int}{H:zW}{R:zv}(h:pt a H R):C a H R:=by
 refine T_en K0 17 Tryz.func26 ?_
 intro w0 Q hQ
 unfold pt at h
 refine T_su [(0,vi a)]<| ar 0<| T_ed 2 [] []<| ar 1<| T_n 1 [(7,vi a)]<| T_c (some 8) h ?_;clear h
 rintro v H1 ⟨ra,rb,rfl,h⟩
 refine⟨[(8,.tuple #[vp ra,vi rb])],pk,?_⟩
 refine T_ne 5 [(4,vp ra),(5,vi rb)]<| T_sz<| ar 2<| T_ed 2 [] [(12,.bool (rb !=0))] ?_
 by_cases c1:rb=0
 ·rw[if_pos c1]at h
  refine aI 12 (bne_eq_false_iff_eq.mpr c1)<| T_kt<| ar 4<| T_n 2 [(15,.agg #[vp ra])]<| T_nw (some 16) (λb=>vp (pa b)) (.cells #[vp ra] 57) ?_
  intro b H2 e3 e4
  replace h:=h b H2 e3 e4
  refine⟨[(16,vp (pa b))],pk,?_⟩
  exact T_nr 2 [2,3] [vp (pa b),vi 0] hQ h
 rw[if_neg c1]at h
 exact aH 12 (bne_iff_ne.mpr c1)<| ar 3<| T_nr 3 [2,3] [vp none,vi rb] hQ h
end iZ

/-! (*moraine/card.Cards).Store -/
namespace eH
def K0:=Func.code Tryz.f91
def K2:=cb K0
def K4:=cb K2
def K12:=cb K4
def K20:=cb K12
def K22:=cb K20
def K23:=ca K22
end eH
def eH.pt(c:zY)(d wv:Int)(H:zW)(R:zv):Prop:=
 eS.C c H (λv H1=> ∃x:Bool,v=.bool x/\
 if x=true then(
 R (.int .i64 18) H1)
 else
 ∃cA:Addr,c=some cA/\
 ∃am:zY,hat H1 cA=some (.pointer am)/\
 ∃ak:Addr,am=some ak/\
 ∃ah:zY,hat H1 ak=some (.pointer ah)/\
 fY.C ah d wv H1 (λao H2=> ∃ab:Int,ao=.int .i64 ab/\
 if ab=0 then(
 ∃aj:zY,hat H2 cA=some (.pointer aj)/\
 ∃al:Addr,aj=some al/\
 ∃ai:zY,hat H2 al=some (.pointer ai)/\
 fF.C ai (zq (Int.tdiv d 64)) H2 (λau H3=> ∃(aa s ae m p o q:Int) (rb:Bool),au=.tuple #[.agg #[.int .i64 aa,.int .i64 s,.int .i64 ae,.int .i64 m,.int .i64 p,.int .i64 o,.int .i64 q],.bool rb]/\
 ∀(b:Nat) (H4:zW),b=H3.size->H4=H3.push (.cells #[.int .i64 0,.int .i64 0,.int .i64 0,.int .i64 0,.int .i64 0,.int .i64 0,.int .i64 0] 79)->
 (aJ H4 (ad b) 0 7)/\ ∀H5,H5=aP H4 (ad b) [.int .i64 aa,.int .i64 s,.int .i64 ae,.int .i64 m,.int .i64 p,.int .i64 o,.int .i64 q] 0->
 ∃an:zY,hat H5 cA=some (.pointer an)/\
 ∃z:Addr,an=some z/\
 ∃u:zY,hat H5 z=some (.pointer u)/\
 ∃y r xN j f e l:Int,aG H5 (ad b) 0 [.int .i64 y,.int .i64 r,.int .i64 xN,.int .i64 j,.int .i64 f,.int .i64 e,.int .i64 l]/\
 ((0:Int)<=(zq (Int.tdiv (Int.tmod d 64) 16))/\(zq (Int.tdiv (Int.tmod d 64) 16))< (4:Int))/\
 ∃af:Int,hat H5 (((ad b).add 3).add (Int.toNat (zq (Int.tdiv (Int.tmod d 64) 16))*1))=some (.int .i64 af)/\
 dX.C (some cA) y r xN j f e l wv af H5 (λap H6=> ∃ag:Int,ap=.int .i64 ag/\aG H6 cA 0 [.pointer (some z)]/\aG H6 z 0 [.pointer u]/\
 gW.C u (zq (Int.tdiv d 64)) (zq (Int.tdiv (Int.tmod d 64) 16)) ag H6 (λaq H7=> ∃ac:Int,aq=.int .i64 ac/\
 R (.int .i64 ac) H7))))
 else
 R (.int .i64 ab) H2))
namespace eH
theorem link{c:zY}{d wv:Int}{H:zW}{R:zv}(h:pt c d wv H R):C c d wv H R:=by
 refine T_en K0 62 Tryz.func91 ?_
 intro w0 Q hQ
 unfold pt zq at h
 refine T_su [(0,vp c),(1,vi d),(2,vu wv)]<| ar 0<| T_ed 1 [] []<| T_sz<| ar 1<| T_nd 1 [] [(12,vp c)]<| T_c (some 13) h ?_;clear h
 rintro v H1 ⟨x,rfl,h⟩
 refine T_pd [12] [(13,.bool x)]<| T_e ?_
 by_cases c1:x=true
 ·rw[if_pos c1]at h
  exact aH 13 c1<| ar 2<| T_nr 1 [6] [vi 18] hQ h
 rw[if_neg c1]at h
 refine aI 13 (zZ c1)<| T_kt<| T_sz<| ar 3<| T_nd 1 [13] [(14,vp c)] ?_
 obtain⟨cA,rfl,h⟩:=h
 refine T_nd 2 [0,14] [(0,vp (some cA)),(16,vp (some cA))] ?_
 obtain⟨am,q3,h⟩:=h
 refine T_l1 17 55 q3 [16] ?_
 obtain⟨ak,rfl,h⟩:=h
 refine T_nd 2 [17] [(19,vp (some ak))] ?_
 obtain⟨ah,q4,h⟩:=h
 refine T_l1 20 58 q4 [19]<| T_nd 2 [] [(21,vi d),(22,vu wv)]<| T_c (some 23) h ?_;clear h
 rintro ao H2 ⟨ab,rfl,h⟩
 refine T_pd [20,21,22] [(23,vi ab)]<| T_ed 1 [23] [(7,vi ab)]<| ar 4<| T_ed 2 [] [(25,.bool (ab !=0))] ?_
 by_cases c5:ab=0
 ·rw[if_pos c5]at h
  refine aI 25 (bne_eq_false_iff_eq.mpr c5)<| T_kt<| ar 6<| T_ed 7 [1,7,25] [(8,vi (zq (Int.tdiv d 64))),(9,vi (zq (Int.tdiv (Int.tmod d 64) 16)))]<| ar 7<| T_nd 3 [] [(35,vp (some cA))] ?_
  obtain⟨aj,q7,h⟩:=h
  refine T_l1 36 55 q7 [35] ?_
  obtain⟨al,rfl,h⟩:=h
  refine T_nd 2 [36] [(38,vp (some al))] ?_
  obtain⟨ai,q8,h⟩:=h
  refine T_l1 39 58 q8 [38]<| T_nd 1 [] [(40,vi (zq (Int.tdiv d 64)))]<| T_c (some 41) h ?_;clear h
  rintro au H3 ⟨aa,s,ae,m,p,o,q,rb,rfl,h⟩
  refine T_pd [39,40] [(41,.tuple #[.agg #[vi aa,vi s,vi ae,vi m,vi p,vi o,vi q],.bool rb])]<| T_nd 3 [41] [(42,.agg #[vi aa,vi s,vi ae,vi m,vi p,vi o,vi q]),(43,.bool rb)]<| T_nw (some 10) (λb=>vp (pa b)) (.cells #[vi 0,vi 0,vi 0,vi 0,vi 0,vi 0,vi 0] 79) ?_
  intro b H4 e9 e10
  replace h:=h b H4 e9 e10
  refine T_pd [] [(10,vp (pa b))] ?_
  obtain⟨q12,h⟩:=h
  refine bX 79 [vi aa,vi s,vi ae,vi m,vi p,vi o,vi q] q12 ?_
  intro H5 e11
  replace h:=h H5 e11
  refine T_pd [42] []<| T_ed 1 [43] []<| T_sz ?_
  obtain⟨an,q13,z,rfl,u,q14,y,r,xN,j,f,e,l,q15,q16,af,q17,h⟩:=h
  refine yq 8 (Code.ops K23) [(17,cA,[vp (some z)]),(17,z,[vp u]),(16,(ad b),[vi y,vi r,vi xN,vi j,vi f,vi e,vi l]),(16,(((ad b).add 3).add (Int.toNat (zq (Int.tdiv (Int.tmod d 64) 16))*1)),[vi af])] 19 (bv 19 0) (show aK _ _ _ from⟨⟨q13,trivial⟩,⟨q14,trivial⟩,q15,⟨q17,trivial⟩,trivial⟩)<| T_gp 0 (some 44) (vp (some cA)) (bv 19 1) [(0,vp (some cA)),(2,vu wv),(8,vi (zq (Int.tdiv d 64))),(9,vi (zq (Int.tdiv (Int.tmod d 64) 16))),(10,vp (pa b)),(44,vp (some cA))]<| aF 1 45 (vp (some cA)) (bv 19 3) [44]<| aF 2 46 (vp (some cA)) (bv 19 7) [45]<| T_g1 3 47 (vp (some z)) (bv 19 15) [46] (aT 55 (vp (some cA))) (yY 17 yX)<| aF 4 48 (vp (some z)) (bv 19 31) [47]<| aF 5 49 (vp (some z)) (bv 19 63) [48]<| T_g1 6 50 (vp u) (bv 19 127) [49] (aT 58 (vp (some z))) (yY 17 yQ)<| aF 7 51 (vi (zq (Int.tdiv d 64))) (bv 19 255) [8]<| aF 8 52 (vi (zq (Int.tdiv (Int.tmod d 64) 16))) (bv 19 511) []<| aF 9 53 (vp (some cA)) (bv 19 1023) [0]<| T_g1 10 54 (.agg #[vi y,vi r,vi xN,vi j,vi f,vi e,vi l]) (bv 19 2047) [] (aT 79 (vp (pa b))) (iY 16 (λ_=>by kernel_rfl) (λ_=>by kernel_rfl) yJ (.inl (by kernel_rfl)))<| aF 11 55 (vu wv) (bv 19 4095) [2]<| aF 12 56 (vi (zq (Int.tdiv (Int.tmod d 64) 16))) (bv 19 8191) [9]<| aF 13 57 (vp (some ((ad b).add 3))) (bv 19 16383) [10]<| T_g1 14 58 (vp (some (((ad b).add 3).add (Int.toNat (zq (Int.tdiv (Int.tmod d 64) 16))*1)))) (bv 19 32767) [56,57] (bD 59 (vp (some ((ad b).add 3))) (vi (zq (Int.tdiv (Int.tmod d 64) 16)))) (λ_ w _ _ _=>dK (P:=Tryz.prog) (t:=59) (elem:=3) (sz:=1) (n:=4) (a:=((ad b).add 3)) (k:=.i64) (i:=(zq (Int.tdiv (Int.tmod d 64) 16))) Tryz.underlying59 (λ_=>by kernel_rfl) q16.1 q16.2 w)<| T_g1 15 59 (vi af) (bv 19 65535) [58] (aT 3 (vp (some (((ad b).add 3).add (Int.toNat (zq (Int.tdiv (Int.tmod d 64) 16))*1))))) (yY 16 yK)<| yx 16 (some 60) (bv 19 131071) 132 #[vp (some cA),.agg #[vi y,vi r,vi xN,vi j,vi f,vi e,vi l],vu wv,vi af] h ?_;clear h
  rintro ap H6 ⟨ag,rfl,f18,f19,h⟩
  refine⟨[(50,vp u),(51,vi (zq (Int.tdiv d 64))),(52,vi (zq (Int.tdiv (Int.tmod d 64) 16))),(60,vi ag)],pk,(show aK _ _ _ from⟨f18,f19,trivial,trivial,trivial⟩),?_⟩
  refine yx 17 (some 61) (bv 19 262143) 131 #[vp u,vi (zq (Int.tdiv d 64)),vi (zq (Int.tdiv (Int.tmod d 64) 16)),vi ag] h ?_;clear h
  rintro aq H7 ⟨ac,rfl,h⟩
  refine⟨[(61,vi ac)],pk,(show aK _ _ _ from⟨trivial,trivial,trivial,trivial,trivial⟩),?_⟩
  exact T_g 18 (some 6) (vi ac) (bv 19 524287) [(6,vi ac)] (pure (.value (vi ac)):Sem Next) (λ_ _ _ _ _=>rfl)<| eI [(6,vi ac)] sk<| yz<| aE<| ie [6] [vi ac] hQ h
 rw[if_neg c5]at h
 exact aH 25 (bne_iff_ne.mpr c5)<| ar 5<| T_nr 2 [6] [vi ab] hQ h
end eH

/-! (*moraine/card.Cards).none -/
namespace eS
def K0:=Func.code Tryz.f130
end eS
def eS.pt(c:zY)(H:zW)(R:zv):Prop:=
 gk c (
 R (.bool true) H) (λcA=>
 ∃x:zY,hat H cA=some (.pointer x)/\
 gk x (
 R (.bool true) H) (λxA=>
 ∃d:zY,hat H cA=some (.pointer d)/\
 ∃b:Addr,d=some b/\
 ∃a:zY,hat H b=some (.pointer a)/\
 gk a (
 R (.bool true) H) (λe=>
 R (.bool false) H)))
namespace eS
theorem link{c:zY}{H:zW}{R:zv}(h:pt c H R):C c H R:=by
 refine T_en K0 22 Tryz.func130 ?_
 intro w0 Q hQ
 unfold pt at h
 refine T_su [(0,vp c)]<| ar 0<| T_ed 1 [] []<| ar 1<| T_nd 1 [] [(3,vp c)] ?_
 rcases c with _ | cA
 ·rw[onPtr_none]at h
  exact T_nr 19 [2] [.bool true] hQ h
 rw[onPtr_some]at h
 refine T_n 5 [(0,vp (some cA)),(5,.bool false),(8,vp (some cA))] ?_
 obtain⟨x,q1,h⟩:=h
 refine T_l1 9 55 q1 [8] ?_
 rcases x with _ | xA
 ·rw[onPtr_none]at h
  exact T_nr 13 [2] [.bool true] hQ h
 rw[onPtr_some]at h
 refine T_n 6 [(12,.bool false),(15,vp (some cA))] ?_
 obtain⟨d,q2,h⟩:=h
 refine T_l1 16 55 q2 [15] ?_
 obtain⟨b,rfl,h⟩:=h
 refine T_nd 2 [16] [(18,vp (some b))] ?_
 obtain⟨a,q3,h⟩:=h
 refine T_l1 19 58 q3 [18] ?_
 rcases a with _ | e
 ·rw[onPtr_none]at h
  exact T_nr 3 [2] [.bool true] hQ h
 rw[onPtr_some]at h
 exact T_nr 3 [2] [.bool false] hQ h
end eS

/-! (*moraine/card.Cards).younger -/
namespace dX
def K0:=Func.code Tryz.f132
end dX
def dX.pt(c:zY)(l j sN i e d f wv a:Int)(H:zW)(R:zv):Prop:=
 ∀(b:Nat) (H1:zW),b=H.size->H1=H.push (.cells #[.int .i64 l,.int .i64 j,.int .i64 sN,.int .i64 i,.int .i64 e,.int .i64 d,.int .i64 f] 79)->
 gf.C c wv H1 (λv H2=> ∃(ra:Int) (rb:Bool),v=.tuple #[.int .i64 ra,.bool rb]/\
 if rb=true then(
 ∃x:Int,hat H2 ((ad b).add 1)=some (.int .i64 x)/\
 if x=3 then(
 R (.int .i64 a) H2)
 else
 ∃k:Int,hat H2 (ad b)=some (.int .i64 k)/\
 if ra<k then(
 R (.int .i64 (if ra<a then ra else a)) H2)
 else
 R (.int .i64 a) H2)
 else
 R (.int .i64 a) H2)
namespace dX
theorem link{c:zY}{l j sN i e d f wv a:Int}{H:zW}{R:zv}(h:pt c l j sN i e d f wv a H R):C c l j sN i e d f wv a H R:=by
 refine T_en K0 33 Tryz.func132 ?_
 intro w0 Q hQ
 unfold pt at h
 refine T_su [(0,vp c),(1,.agg #[vi l,vi j,vi sN,vi i,vi e,vi d,vi f]),(2,vu wv),(3,vi a)]<| ar 0<| T_nw (some 5) (λb=>vp (pa b)) (.cells #[vi l,vi j,vi sN,vi i,vi e,vi d,vi f] 79) ?_
 intro b H1 e1 e2
 replace h:=h b H1 e1 e2
 refine T_pd [1] [(5,vp (pa b))]<| T_ed 1 [] []<| T_sz<| ar 1<| T_nd 2 [0,2] [(12,vp c),(13,vu wv)]<| T_c (some 14) h ?_;clear h
 rintro v H2 ⟨ra,rb,rfl,h⟩
 refine T_pd [12,13] [(14,.tuple #[vi ra,.bool rb])]<| T_ed 5 [14] [(9,vi ra),(10,.bool rb)]<| ar 2<| T_nd 2 [10] [(18,.bool rb)] ?_
 by_cases c3:rb=true
 ·rw[if_pos c3]at h
  refine N_bd 18 c3<| T_nd 1 [] [(19,vp (some ((ad b).add 1)))] ?_
  obtain⟨x,q5,h⟩:=h
  refine T_l1 20 3 q5 [19]<| T_nd 3 [18,20] [(23,.bool (x !=3))] ?_
  by_cases c6:x=3
  ·rw[if_pos c6]at h
   exact N_bd 23 (bne_eq_false_iff_eq.mpr c6)<| T_ed 5 [5,23] [(28,.bool false)]<| T_fz 28<| T_kt<| ar 4<| T_nr 2 [8] [vi a] hQ h
  rw[if_neg c6]at h
  refine N_bd 23 (bne_iff_ne.mpr c6)<| T_nd 2 [5] [(24,vi ra),(25,vp (pa b))] ?_
  obtain⟨k,q8,h⟩:=h
  refine T_l1 26 3 q8 [25]<| T_ed 2 [23,24,26] [(28,.bool (decide (ra<k)))] ?_
  by_cases c9:ra<k
  ·rw[if_pos c9]at h
   exact aH 28 (zQ c9)<| ar 3<| T_nr 4 [8] [vi (if ra<a then ra else a)] hQ h
  rw[if_neg c9]at h
  exact aI 28 (zJ c9)<| T_kt<| ar 4<| T_nr 2 [8] [vi a] hQ h
 rw[if_neg c3]at h
 exact N_bd 18 (zZ c3)<| T_ed 10 [5,18] [(28,.bool false)]<| T_fz 28<| T_kt<| ar 4<| T_nr 2 [8] [vi a] hQ h
end dX

/-! (*moraine/card.Cards).Gen -/
namespace gf
def K0:=Func.code Tryz.f155
end gf
def gf.pt(c:zY)(wv:Int)(H:zW)(R:zv):Prop:=
 io.C wv H (λv H1=> ∃(ra:Int) (rb:Bool),v=.tuple #[.int .i64 ra,.bool rb]/\
 eS.C c H1 (λr H2=> ∃x:Bool,r=.bool x/\
 if x=true then(
 R (.tuple #[.int .i64 0,.bool false]) H2)
 else
 if rb=true then(
 hN.C wv H2 (λt H3=> ∃m:Int,t=.int .i64 m/\
 if m=6 then(
 R (.tuple #[.int .i64 0,.bool false]) H3)
 else
 ∃cA:Addr,c=some cA/\
 ∃q:zY,hat H3 cA=some (.pointer q)/\
 ∃p:Addr,q=some p/\
 ∃n:zY,hat H3 p=some (.pointer n)/\
 fF.C n (zq (Int.tdiv ra 64)) H3 (λs H4=> ∃(k i l a e d f:Int) (j:Bool),s=.tuple #[.agg #[.int .i64 k,.int .i64 i,.int .i64 l,.int .i64 a,.int .i64 e,.int .i64 d,.int .i64 f],.bool j]/\
 ∀(b:Nat) (H5:zW),b=H4.size->H5=H4.push (.cells #[.int .i64 0,.int .i64 0,.int .i64 0,.int .i64 0,.int .i64 0,.int .i64 0,.int .i64 0] 79)->
 (aJ H5 (ad b) 0 7)/\ ∀H6,H6=aP H5 (ad b) [.int .i64 k,.int .i64 i,.int .i64 l,.int .i64 a,.int .i64 e,.int .i64 d,.int .i64 f] 0->
 ∃o:Int,hat H6 (ad b)=some (.int .i64 o)/\
 R (.tuple #[.int .i64 o,.bool j]) H6)))
 else
 R (.tuple #[.int .i64 0,.bool false]) H2))
namespace gf
theorem link{c:zY}{wv:Int}{H:zW}{R:zv}(h:pt c wv H R):C c wv H R:=by
 refine T_en K0 41 Tryz.func155 ?_
 intro w0 Q hQ
 unfold pt zq at h
 refine T_su [(0,vp c),(1,vu wv)]<| ar 0<| T_ed 2 [] []<| ar 1<| T_nd 1 [] [(10,vu wv)]<| T_c (some 11) h ?_;clear h
 rintro v H1 ⟨ra,rb,rfl,h⟩
 refine T_pd [10] [(11,.tuple #[vi ra,.bool rb])]<| T_ed 5 [11] [(6,vi ra),(7,.bool rb)]<| T_sz<| ar 2<| T_nd 1 [] [(14,vp c)]<| T_c (some 15) h ?_;clear h
 rintro r H2 ⟨x,rfl,h⟩
 refine T_pd [14] [(15,.bool x)]<| T_nd 1 [15] [(16,.bool x)] ?_
 by_cases c1:x=true
 ·rw[if_pos c1]at h
  exact N_bd 16 c1<| T_ed 8 [1,7,16] [(24,.bool true)]<| T_tz 24<| ar 3<| T_nr 2 [4,5] [vi 0,.bool false] hQ h
 rw[if_neg c1]at h
 refine N_bd 16 (zZ c1)<| T_nd 4 [7,16] [(20,.bool (!rb))] ?_
 by_cases c3:rb=true
 ·rw[if_pos c3]at h
  have b4:(!rb)=false:=congrArg Bool.not (c3)
  have b42:rb=true:=c3
  refine N_bd 20 (b:=(!rb)) (v:=false) (by simp only[b4,b42,Bool.not_true,Bool.not_false]) ?_
  clear b4 b42
  refine T_nd 1 [1] [(21,vu wv)]<| T_c (some 22) h ?_;clear h
  rintro t H3 ⟨m,rfl,h⟩
  refine T_pd [21] [(22,vi m)]<| T_ed 2 [20,22] [(24,.bool (m==6))] ?_
  by_cases c5:m=6
  ·rw[if_pos c5]at h
   exact aH 24 (zV c5)<| ar 3<| T_nr 2 [4,5] [vi 0,.bool false] hQ h
  rw[if_neg c5]at h
  refine aI 24 (zK c5)<| T_kt<| ar 4<| T_nd 1 [0,24] [(26,vp c)] ?_
  obtain⟨cA,rfl,h⟩:=h
  refine T_nd 2 [26] [(28,vp (some cA))] ?_
  obtain⟨q,q7,h⟩:=h
  refine T_l1 29 55 q7 [28] ?_
  obtain⟨p,rfl,h⟩:=h
  refine T_nd 2 [29] [(31,vp (some p))] ?_
  obtain⟨n,q8,h⟩:=h
  refine T_l1 32 58 q8 [31]<| T_nd 2 [6] [(34,vi (zq (Int.tdiv ra 64)))]<| T_c (some 35) h ?_;clear h
  rintro s H4 ⟨k,i,l,a,e,d,f,j,rfl,h⟩
  refine⟨[(35,.tuple #[.agg #[vi k,vi i,vi l,vi a,vi e,vi d,vi f],.bool j])],pk,?_⟩
  refine T_n 3 [(36,.agg #[vi k,vi i,vi l,vi a,vi e,vi d,vi f]),(37,.bool j)]<| T_nw (some 8) (λb=>vp (pa b)) (.cells #[vi 0,vi 0,vi 0,vi 0,vi 0,vi 0,vi 0] 79) ?_
  intro b H5 e9 e10
  replace h:=h b H5 e9 e10
  refine T_pd [] [(8,vp (pa b))] ?_
  obtain⟨q12,h⟩:=h
  refine bX 79 [vi k,vi i,vi l,vi a,vi e,vi d,vi f] q12 ?_
  intro H6 e11
  replace h:=h H6 e11
  refine T_pd [36] []<| T_ed 1 [37] [(7,.bool j)]<| ar 5<| T_nd 1 [8] [(38,vp (pa b))] ?_
  obtain⟨o,q13,h⟩:=h
  exact T_l1 39 3 q13 [38]<| T_nr 3 [4,5] [vi o,.bool j] hQ h
 rw[if_neg c3]at h
 have b4:(!rb)=true:=congrArg Bool.not (zZ c3)
 have b42:rb=false:=zZ c3
 refine N_bd 20 (b:=(!rb)) (v:=true) (by simp only[b4,b42,Bool.not_true,Bool.not_false]) ?_
 clear b4 b42
 exact T_ed 4 [1,20] [(24,.bool true)]<| T_tz 24<| ar 3<| T_nr 2 [4,5] [vi 0,.bool false] hQ h
end gf

/-! moraine/moraineref09.New -/
namespace eW
def K0:=Func.code Tryz.f27
end eW
def eW.pt(a:Int)(H:zW)(R:zv):Prop:=
 eX.C a H (λv H1=> ∃x:zY,v=.pointer x/\
 gk x (
 R (.pointer none) H1) (λxA=>
 ∀(b:Nat) (H2:zW),b=H1.size->H2=H1.push (.cells #[.pointer (some xA)] 68)->
 R (.pointer (some (ad b))) H2))
namespace eW
theorem link{a:Int}{H:zW}{R:zv}(h:pt a H R):C a H R:=by
 refine T_en K0 11 Tryz.func27 ?_
 intro w0 Q hQ
 unfold pt at h
 refine T_su [(0,vi a)]<| ar 0<| T_ed 1 [] []<| ar 1<| T_n 1 [(4,vi a)]<| T_c (some 5) h ?_;clear h
 rintro v H1 ⟨x,rfl,h⟩
 refine⟨[(5,vp x)],pk,?_⟩
 refine T_ne 1 [(3,vp x)]<| T_sz<| ar 2<| T_nd 1 [] [(6,vp x)] ?_
 rcases x with _ | xA
 ·rw[onPtr_none]at h
  exact T_ne 1 [(3,vp none),(7,.bool true)]<| T_tz 7<| ar 3<| T_nr 1 [2] [vp none] hQ h
 rw[onPtr_some]at h
 refine T_ne 1 [(3,vp (some xA)),(7,.bool false)]<| T_fz 7<| T_kt<| ar 4<| T_n 2 [(9,.agg #[vp (some xA)])]<| T_nw (some 10) (λb=>vp (pa b)) (.cells #[vp (some xA)] 68) ?_
 intro b H2 e1 e2
 replace h:=h b H2 e1 e2
 refine⟨[(10,vp (pa b))],pk,?_⟩
 exact T_nr 1 [2] [vp (pa b)] hQ h
end eW

/-! (*moraine/moraineref09.Cards).Store -/
namespace bO
def K0:=Func.code Tryz.f90
def K2:=cb K0
def K4:=cb K2
def K11:=ca K4
end bO
def bO.pt(c:zY)(b wv:Int)(H:zW)(R:zv):Prop:=
 ∃cA:Addr,c=some cA/\
 ∃x:zY,hat H cA=some (.pointer x)/\
 ∃xA:Addr,x=some xA/\
 ∃s:zY,hat H xA=some (.pointer s)/\
 cD.C s b wv H (λv H1=> ∃l:Int,v=.int .i64 l/\
 if l=0 then(
 ∃u:zY,hat H1 cA=some (.pointer u)/\
 ∃j:Addr,u=some j/\
 ∃y:zY,hat H1 j=some (.pointer y)/\
 ∃f:Addr,y=some f/\
 ∃(xB:zY) (xN xC:Nat),hat H1 (f.add 1)=some (.slice xB xN xC)/\
 ∃z:zY,hat H1 cA=some (.pointer z)/\
 ∃m:Addr,z=some m/\
 ∃r:zY,hat H1 m=some (.pointer r)/\
 aZ.C r (zq (Int.tdiv b 64)) H1 (λaa H2=> ∃d:Int,aa=.int .i64 d/\aG H2 cA 0 [.pointer (some j)]/\aG H2 j 0 [.pointer (some f)]/\aG H2 (f.add 1) 0 [.slice xB xN xC]/\
 ∃e:Addr,xB=some e/\
 yZ d xN/\
 cO.C (some cA) wv H2 (λab H3=> ∃(ra:Int) (rb:Bool),ab=.tuple #[.int .i64 ra,.bool rb]/\
 if rb=true then(
 ∃q:Int,hat H3 (((e.add (Int.toNat d*9)).add 1).add 1)=some (.int .i64 q)/\
 if q=3 then(
 R (.int .i64 0) H3)
 else
 ∃o:Int,hat H3 ((e.add (Int.toNat d*9)).add 1)=some (.int .i64 o)/\
 if ra<o then(
 ((0:Int)<=(zq (Int.tdiv (Int.tmod b 64) 16))/\(zq (Int.tdiv (Int.tmod b 64) 16))< (4:Int))/\
 ∃p:Int,hat H3 ((((e.add (Int.toNat d*9)).add 1).add 3).add (Int.toNat (zq (Int.tdiv (Int.tmod b 64) 16))*1))=some (.int .i64 p)/\
 if ra<p then(
 ((0:Int)<=(zq (Int.tdiv (Int.tmod b 64) 16))/\(zq (Int.tdiv (Int.tmod b 64) 16))< (4:Int))/\
 (aJ H3 ((((e.add (Int.toNat d*9)).add 1).add 3).add (Int.toNat (zq (Int.tdiv (Int.tmod b 64) 16))*1)) 0 1)/\ ∀H4,H4=aP H3 ((((e.add (Int.toNat d*9)).add 1).add 3).add (Int.toNat (zq (Int.tdiv (Int.tmod b 64) 16))*1)) [.int .i64 ra] 0->
 R (.int .i64 0) H4)
 else
 R (.int .i64 0) H3)
 else
 R (.int .i64 0) H3)
 else
 R (.int .i64 0) H3)))
 else
 R (.int .i64 l) H1)
namespace bO
theorem link{c:zY}{b wv:Int}{H:zW}{R:zv}(h:pt c b wv H R):C c b wv H R:=by
 refine T_en K0 88 Tryz.func90 ?_
 intro w0 Q hQ
 unfold pt zq at h
 refine T_su [(0,vp c),(1,vi b),(2,vu wv)]<| ar 0<| T_ed 1 [] []<| T_sz<| ar 1<| T_nd 1 [] [(12,vp c)] ?_
 obtain⟨cA,rfl,h⟩:=h
 refine T_nd 2 [0,12] [(0,vp (some cA)),(14,vp (some cA))] ?_
 obtain⟨x,q1,h⟩:=h
 refine T_l1 15 66 q1 [14] ?_
 obtain⟨xA,rfl,h⟩:=h
 refine T_nd 2 [15] [(17,vp (some xA))] ?_
 obtain⟨s,q2,h⟩:=h
 refine T_l1 18 63 q2 [17]<| T_nd 2 [] [(19,vi b),(20,vu wv)]<| T_c (some 21) h ?_;clear h
 rintro v H1 ⟨l,rfl,h⟩
 refine T_pd [18,19,20] [(21,vi l)]<| T_ed 1 [21] [(7,vi l)]<| ar 2<| T_ed 2 [] [(23,.bool (l !=0))] ?_
 by_cases c3:l=0
 ·rw[if_pos c3]at h
  refine S_bd 23 (bne_eq_false_iff_eq.mpr c3)<| T_fz 23<| T_kt<| T_sz ?_
  obtain⟨u,q5,j,rfl,y,q6,f,rfl,xB,xN,xC,q7,z,q8,m,rfl,r,q9,h⟩:=h
  refine yq 4 (Code.ops K11) [(23,cA,[vp (some j)]),(23,j,[vp (some f)]),(23,(f.add 1),[vs xB xN xC]),(19,cA,[vp (some m)]),(19,m,[vp r])] 23 (bv 23 0) (show aK _ _ _ from⟨⟨q5,trivial⟩,⟨q6,trivial⟩,⟨q7,trivial⟩,⟨q8,trivial⟩,⟨q9,trivial⟩,trivial⟩)<| T_gp 0 (some 25) (vp (some cA)) (bv 23 1) [(0,vp (some cA)),(1,vi b),(2,vu wv),(25,vp (some cA))]<| aF 1 26 (vp (some cA)) (bv 23 3) [25]<| aF 2 27 (vp (some cA)) (bv 23 7) [26]<| T_g1 3 28 (vp (some j)) (bv 23 15) [27] (aT 66 (vp (some cA))) (dI 23 (λ_=>by kernel_rfl) yX (.inr (by kernel_rfl)))<| aF 4 29 (vp (some j)) (bv 23 31) [28]<| aF 5 30 (vp (some j)) (bv 23 63) [29]<| T_g1 6 31 (vp (some f)) (bv 23 127) [30] (aT 63 (vp (some j))) (dI 23 (λ_=>by kernel_rfl) yQ (.inr (by kernel_rfl)))<| aF 7 32 (vp (some f)) (bv 23 255) [31]<| aF 8 33 (vp (some (f.add 1))) (bv 23 511) [32]<| T_g1 9 34 (vs xB xN xC) (bv 23 1023) [33] (aT 75 (vp (some (f.add 1)))) (dI 23 (λ_=>by kernel_rfl) yJ (.inr (by kernel_rfl)))<| aF 10 35 (vp (some cA)) (bv 23 2047) []<| aF 11 36 (vp (some cA)) (bv 23 4095) [35]<| aF 12 37 (vp (some cA)) (bv 23 8191) [36]<| T_g1 13 38 (vp (some m)) (bv 23 16383) [37] (aT 66 (vp (some cA))) (yY 19 yK)<| aF 14 39 (vp (some m)) (bv 23 32767) [38]<| aF 15 40 (vp (some m)) (bv 23 65535) [39]<| T_g1 16 41 (vp r) (bv 23 131071) [40] (aT 63 (vp (some m))) (yY 19 yV)<| aF 17 42 (vi b) (bv 23 262143) []<| aF 18 43 (vi (zq (Int.tdiv b 64))) (bv 23 524287) [42]<| yx 19 (some 44) (bv 23 1048575) 128 #[vp r,vi (zq (Int.tdiv b 64))] h ?_;clear h
  rintro aa H2 ⟨d,rfl,f10,f11,f12,h⟩
  refine⟨[(0,vp (some cA)),(1,vi b),(2,vu wv),(34,vs xB xN xC),(44,vi d)],pk,(show aK _ _ _ from⟨f10,f11,f12,trivial,trivial,trivial⟩),?_⟩
  obtain⟨e,rfl,q13,h⟩:=h
  refine T_g 20 (some 45) (vp (some (e.add (Int.toNat d*9)))) (bv 23 2097151) [(0,vp (some cA)),(1,vi b),(2,vu wv),(45,vp (some (e.add (Int.toNat d*9))))] (bD 75 (vs (some e) xN xC) (vi d)) (λ_ w _ _ _=>bR (P:=Tryz.prog) (t:=75) (elem:=83) (sz:=9) (a:=e) (len:=xN) (cap:=xC) (k:=.i64) (i:=d) Tryz.underlying75 (λ_=>by kernel_rfl) q13.1 q13.2 w)<| T_g1 21 46 (vp (some ((e.add (Int.toNat d*9)).add 1))) (bv 23 4194303) [45] (pure (.value (vp (some ((e.add (Int.toNat d*9)).add 1)))):Sem Next) (λ_ _ _ _ _=>rfl)<| T_g1 22 8 (vp (some ((e.add (Int.toNat d*9)).add 1))) (bv 23 8388607) [46] (pure (.value (vp (some ((e.add (Int.toNat d*9)).add 1)))):Sem Next) (λ_ _ _ _ _=>rfl)<| eI [(0,vp (some cA)),(1,vi b),(2,vu wv),(8,vp (some ((e.add (Int.toNat d*9)).add 1)))] sk<| yz<| aE<| ar 5<| T_n 2 [(1,vi b),(8,vp (some ((e.add (Int.toNat d*9)).add 1))),(48,vp (some cA)),(49,vu wv)]<| T_c (some 50) h ?_;clear h
  rintro ab H3 ⟨ra,rb,rfl,h⟩
  refine T_pd [48,49] [(50,.tuple #[vi ra,.bool rb])]<| T_ed 5 [50] [(9,vi ra),(10,.bool rb)]<| ar 6<| T_ed 4 [1] [(11,vi (zq (Int.tdiv (Int.tmod b 64) 16)))]<| T_sz<| ar 7<| T_nd 2 [10] [(57,.bool rb)] ?_
  by_cases c14:rb=true
  ·rw[if_pos c14]at h
   refine N_bd 57 c14<| T_nd 3 [] [(60,vp (some (((e.add (Int.toNat d*9)).add 1).add 1)))] ?_
   obtain⟨q,q16,h⟩:=h
   refine T_l1 61 3 q16 [60]<| T_nd 3 [57,61] [(64,.bool (q !=3))] ?_
   by_cases c17:q=3
   ·rw[if_pos c17]at h
    exact N_bd 64 (bne_eq_false_iff_eq.mpr c17)<| T_ed 17 [64] [(81,.bool false)]<| T_fz 81<| T_kt<| ar 9<| T_nr 1 [6] [vi 0] hQ h
   rw[if_neg c17]at h
   refine N_bd 64 (bne_iff_ne.mpr c17)<| T_nd 4 [] [(65,vi ra),(68,vp (some ((e.add (Int.toNat d*9)).add 1)))] ?_
   obtain⟨o,q19,h⟩:=h
   refine T_l1 69 3 q19 [68]<| T_nd 3 [64,65,69] [(72,.bool (decide (ra<o)))] ?_
   by_cases c20:ra<o
   ·rw[if_pos c20]at h
    refine N_bd 72 (zQ c20)<| T_nd 5 [] [(73,vi ra),(75,vi (zq (Int.tdiv (Int.tmod b 64) 16))),(77,vp (some (((e.add (Int.toNat d*9)).add 1).add 3)))] ?_
    obtain⟨q22,h⟩:=h
    refine T_v1 78 (bD 59 (vp (some (((e.add (Int.toNat d*9)).add 1).add 3))) (vi (zq (Int.tdiv (Int.tmod b 64) 16)))) (vp (some ((((e.add (Int.toNat d*9)).add 1).add 3).add (Int.toNat (zq (Int.tdiv (Int.tmod b 64) 16))*1)))) (λw _=>dK (P:=Tryz.prog) (t:=59) (elem:=3) (sz:=1) (n:=4) (a:=(((e.add (Int.toNat d*9)).add 1).add 3)) (k:=.i64) (i:=(zq (Int.tdiv (Int.tmod b 64) 16))) Tryz.underlying59 (λ_=>by kernel_rfl) q22.1 q22.2 w) [75,77] ?_
    obtain⟨p,q23,h⟩:=h
    refine T_l1 79 3 q23 [78]<| T_ed 2 [72,73,79] [(81,.bool (decide (ra<p)))] ?_
    by_cases c24:ra<p
    ·rw[if_pos c24]at h
     refine aH 81 (zQ c24)<| T_rz 8<| T_n 5 [(83,vi (zq (Int.tdiv (Int.tmod b 64) 16))),(84,vi ra),(86,vp (some (((e.add (Int.toNat d*9)).add 1).add 3)))] ?_
     obtain⟨q26,h⟩:=h
     refine T_v1 87 (bD 59 (vp (some (((e.add (Int.toNat d*9)).add 1).add 3))) (vi (zq (Int.tdiv (Int.tmod b 64) 16)))) (vp (some ((((e.add (Int.toNat d*9)).add 1).add 3).add (Int.toNat (zq (Int.tdiv (Int.tmod b 64) 16))*1)))) (λw _=>dK (P:=Tryz.prog) (t:=59) (elem:=3) (sz:=1) (n:=4) (a:=(((e.add (Int.toNat d*9)).add 1).add 3)) (k:=.i64) (i:=(zq (Int.tdiv (Int.tmod b 64) 16))) Tryz.underlying59 (λ_=>by kernel_rfl) q26.1 q26.2 w) [83,86] ?_
     obtain⟨q28,h⟩:=h
     refine je 3 (vi ra) q28 ?_
     intro H4 e27
     replace h:=h H4 e27
     refine⟨[],pk,?_⟩
     exact T_e<| ar 9<| T_nr 1 [6] [vi 0] hQ h
    rw[if_neg c24]at h
    exact aI 81 (zJ c24)<| T_kt<| ar 9<| T_nr 1 [6] [vi 0] hQ h
   rw[if_neg c20]at h
   exact N_bd 72 (zJ c20)<| T_ed 9 [72] [(81,.bool false)]<| T_fz 81<| T_kt<| ar 9<| T_nr 1 [6] [vi 0] hQ h
  rw[if_neg c14]at h
  exact N_bd 57 (zZ c14)<| T_ed 24 [57] [(81,.bool false)]<| T_fz 81<| T_kt<| ar 9<| T_nr 1 [6] [vi 0] hQ h
 rw[if_neg c3]at h
 exact aH 23 (bne_iff_ne.mpr c3)<| ar 3<| T_nr 2 [6] [vi l] hQ h
end bO

/-! (*moraine/moraineref09.Cards).Gen -/
namespace cO
def K0:=Func.code Tryz.f129
def K2:=cb K0
def K4:=cb K2
def K6:=cb K4
def K13:=ca K6
end cO
def cO.pt(c:zY)(wv:Int)(H:zW)(R:zv):Prop:=
 dB.C wv H (λv H1=> ∃f l xA xX j:Int,v=.agg #[.int .i64 f,.int .i64 l,.int .i64 xA,.int .i64 xX,.int .u64 j]/\
 ∀(b:Nat) (H2:zW),b=H1.size->H2=H1.push (.cells #[.int .i64 0,.int .i64 0,.int .i64 0,.int .i64 0,.int .u64 0] 111)->
 (aJ H2 (ad b) 0 5)/\ ∀H3,H3=aP H2 (ad b) [.int .i64 f,.int .i64 l,.int .i64 xA,.int .i64 xX,.int .u64 j] 0->
 ∃x:Int,hat H3 (ad b)=some (.int .i64 x)/\
 if x=2 then(
 ∃p:Int,hat H3 ((ad b).add 1)=some (.int .i64 p)/\
 if p=6 then(
 R (.tuple #[.int .i64 0,.bool false]) H3)
 else
 ∃cA:Addr,c=some cA/\
 ∃z:zY,hat H3 cA=some (.pointer z)/\
 ∃e:Addr,z=some e/\
 ∃m:zY,hat H3 e=some (.pointer m)/\
 ∃n:Int,hat H3 ((ad b).add 2)=some (.int .i64 n)/\
 aZ.C m (zq (Int.tdiv n 64)) H3 (λaa H4=> ∃d:Int,aa=.int .i64 d/\
 if d<0 then(
 R (.tuple #[.int .i64 0,.bool false]) H4)
 else
 ∃u:zY,hat H4 cA=some (.pointer u)/\
 ∃y:Addr,u=some y/\
 ∃s:zY,hat H4 y=some (.pointer s)/\
 ∃r:Addr,s=some r/\
 ∃(xB:zY) (xN xC:Nat),hat H4 (r.add 1)=some (.slice xB xN xC)/\
 ∃o:Addr,xB=some o/\
 yZ d xN/\
 ∃q:Int,hat H4 ((o.add (Int.toNat d*9)).add 1)=some (.int .i64 q)/\
 R (.tuple #[.int .i64 q,.bool true]) H4))
 else
 R (.tuple #[.int .i64 0,.bool false]) H3)
namespace cO
theorem link{c:zY}{wv:Int}{H:zW}{R:zv}(h:pt c wv H R):C c wv H R:=by
 refine T_en K0 46 Tryz.func129 ?_
 intro w0 Q hQ
 unfold pt zq at h
 refine T_su [(0,vp c),(1,vu wv)]<| ar 0<| T_ed 2 [] []<| ar 1<| T_nd 1 [1] [(8,vu wv)]<| T_c (some 9) h ?_;clear h
 rintro v H1 ⟨f,l,xA,xX,j,rfl,h⟩
 refine T_pd [8] [(9,.agg #[vi f,vi l,vi xA,vi xX,vu j])]<| T_nw (some 6) (λb=>vp (pa b)) (.cells #[vi 0,vi 0,vi 0,vi 0,vu 0] 111) ?_
 intro b H2 e1 e2
 replace h:=h b H2 e1 e2
 refine T_pd [] [(6,vp (pa b))] ?_
 obtain⟨q4,h⟩:=h
 refine bX 111 [vi f,vi l,vi xA,vi xX,vu j] q4 ?_
 intro H3 e3
 replace h:=h H3 e3
 refine T_pd [9] []<| T_e<| T_sz<| ar 2<| T_nd 1 [] [(10,vp (pa b))] ?_
 obtain⟨x,q5,h⟩:=h
 refine T_l1 11 3 q5 [10]<| T_nd 2 [11] [(13,.bool (x !=2))] ?_
 by_cases c6:x=2
 ·rw[if_pos c6]at h
  refine N_bd 13 (bne_eq_false_iff_eq.mpr c6)<| T_nd 1 [] [(14,vp (some ((ad b).add 1)))] ?_
  obtain⟨p,q8,h⟩:=h
  refine T_l1 15 3 q8 [14]<| T_ed 2 [13,15] [(17,.bool (p==6))] ?_
  by_cases c9:p=6
  ·rw[if_pos c9]at h
   exact aH 17 (zV c9)<| ar 3<| T_nr 2 [4,5] [vi 0,.bool false] hQ h
  rw[if_neg c9]at h
  refine aI 17 (zK c9)<| T_kt<| T_sz ?_
  obtain⟨cA,rfl,z,q11,e,rfl,m,q12,n,q13,h⟩:=h
  refine yq 4 (Code.ops K13) [(10,cA,[vp (some e)]),(10,e,[vp m]),(10,((ad b).add 2),[vi n])] 12 (bv 12 0) (show aK _ _ _ from⟨⟨q11,trivial⟩,⟨q12,trivial⟩,⟨q13,trivial⟩,trivial⟩)<| T_gp 0 (some 18) (vp (some cA)) (bv 12 1) [(0,vp (some cA)),(6,vp (pa b)),(18,vp (some cA))]<| aF 1 19 (vp (some cA)) (bv 12 3) [18]<| aF 2 20 (vp (some cA)) (bv 12 7) [19]<| T_g1 3 21 (vp (some e)) (bv 12 15) [20] (aT 66 (vp (some cA))) (yY 10 yX)<| aF 4 22 (vp (some e)) (bv 12 31) [21]<| aF 5 23 (vp (some e)) (bv 12 63) [22]<| T_g1 6 24 (vp m) (bv 12 127) [23] (aT 63 (vp (some e))) (yY 10 yQ)<| aF 7 25 (vp (some ((ad b).add 2))) (bv 12 255) [6]<| T_g1 8 26 (vi n) (bv 12 511) [25] (aT 3 (vp (some ((ad b).add 2)))) (yY 10 yJ)<| aF 9 27 (vi (zq (Int.tdiv n 64))) (bv 12 1023) [26]<| yx 10 (some 28) (bv 12 2047) 128 #[vp m,vi (zq (Int.tdiv n 64))] h ?_;clear h
  rintro aa H4 ⟨d,rfl,h⟩
  refine⟨[(0,vp (some cA)),(28,vi d)],pk,(show aK _ _ _ from⟨trivial,trivial,trivial,trivial⟩),?_⟩
  refine T_g 11 (some 7) (vi d) (bv 12 4095) [(0,vp (some cA)),(7,vi d)] (pure (.value (vi d)):Sem Next) (λ_ _ _ _ _=>rfl)<| eI [(0,vp (some cA)),(7,vi d)] sk<| yz<| aE<| T_sz<| ar 5<| T_ne 2 [(0,vp (some cA)),(7,vi d),(30,.bool (decide (d<0)))] ?_
  by_cases c14:d<0
  ·rw[if_pos c14]at h
   exact aH 30 (zQ c14)<| ar 6<| T_nr 2 [4,5] [vi 0,.bool false] hQ h
  rw[if_neg c14]at h
  refine aI 30 (zJ c14)<| T_kt<| ar 7<| T_nd 3 [0,30] [(33,vp (some cA))] ?_
  obtain⟨u,q16,h⟩:=h
  refine T_l1 34 66 q16 [33] ?_
  obtain⟨y,rfl,h⟩:=h
  refine T_nd 2 [34] [(36,vp (some y))] ?_
  obtain⟨s,q17,h⟩:=h
  refine T_l1 37 63 q17 [36] ?_
  obtain⟨r,rfl,h⟩:=h
  refine T_nd 2 [37] [(39,vp (some (r.add 1)))] ?_
  obtain⟨xB,xN,xC,q18,h⟩:=h
  refine T_l1 40 75 q18 [39]<| T_nd 1 [7] [(41,vi d)] ?_
  obtain⟨o,rfl,q19,h⟩:=h
  refine T_ix (some 42) 75 83 9 o xN xC .i64 d Tryz.underlying75 q19.1 q19.2 [(42,vp (some (o.add (Int.toNat d*9))))]<| T_n 2 [(44,vp (some ((o.add (Int.toNat d*9)).add 1)))] ?_
  obtain⟨q,q20,h⟩:=h
  exact T_l1 45 3 q20 [44]<| T_nr 2 [4,5] [vi q,.bool true] hQ h
 rw[if_neg c6]at h
 exact N_bd 13 (bne_iff_ne.mpr c6)<| T_ed 4 [13] [(17,.bool true)]<| T_tz 17<| ar 3<| T_nr 2 [4,5] [vi 0,.bool false] hQ h
end cO

/-! (*moraine/obj.Heap).Cons -/
namespace fI
def K0:=Func.code Tryz.f9
end fI
def fI.pt(hv:zY)(d a:Int)(H:zW)(R:zv):Prop:=
 ∀(b:Nat) (H1:zW),b=H.size->H1=H.push (.cells #[.int .u64 d,.int .u64 a] 33)->
 ge.C hv 0 1 (some (ad b)) 2 2 H1 (λv H2=> ∃ra rb:Int,v=.tuple #[.int .u64 ra,.int .i64 rb]/\
 R (.tuple #[.int .u64 ra,.int .i64 rb]) H2)
namespace fI
theorem link{hv:zY}{d a:Int}{H:zW}{R:zv}(h:pt hv d a H R):C hv d a H R:=by
 refine T_en K0 15 Tryz.func9 ?_
 intro w0 Q hQ
 unfold pt at h
 refine T_su [(0,vp hv),(1,vu d),(2,vu a)]<| ar 0<| T_ed 2 [] []<| ar 1<| T_n 3 [(8,vp hv),(9,vu d),(10,vu a)]<| T_nw (some 11) (λb=>vs (pa b) 2 2) (.cells #[vu d,vu a] 33) ?_
 intro b H1 e1 e2
 replace h:=h b H1 e1 e2
 refine T_pd [9,10] [(11,vs (pa b) 2 2)]<| T_c (some 12) h ?_;clear h
 rintro v H2 ⟨ra,rb,rfl,h⟩
 refine⟨[(12,.tuple #[vu ra,vi rb])],pk,?_⟩
 exact T_nr 4 [6,7] [vu ra,vi rb] hQ h
end fI

/-! (*moraine/obj.Heap).Car -/
namespace gc
def K0:=Func.code Tryz.f19
end gc
def gc.pt(hv:zY)(wv:Int)(H:zW)(R:zv):Prop:=
 fX.C hv wv 0 H (λv H1=> ∃ra rb:Int,v=.tuple #[.int .u64 ra,.int .i64 rb]/\
 R (.tuple #[.int .u64 ra,.int .i64 rb]) H1)
namespace gc
theorem link{hv:zY}{wv:Int}{H:zW}{R:zv}(h:pt hv wv H R):C hv wv H R:=by
 refine T_en K0 11 Tryz.func19 ?_
 intro w0 Q hQ
 unfold pt at h
 refine T_su [(0,vp hv),(1,vu wv)]<| ar 0<| T_ed 2 [] []<| ar 1<| T_n 2 [(6,vp hv),(7,vu wv)]<| T_c (some 8) h ?_;clear h
 rintro v H1 ⟨ra,rb,rfl,h⟩
 refine⟨[(8,.tuple #[vu ra,vi rb])],pk,?_⟩
 exact T_nr 4 [4,5] [vu ra,vi rb] hQ h
end gc

/-! (*moraine/obj.Heap).Cdr -/
namespace gd
def K0:=Func.code Tryz.f20
end gd
def gd.pt(hv:zY)(wv:Int)(H:zW)(R:zv):Prop:=
 fX.C hv wv 1 H (λv H1=> ∃ra rb:Int,v=.tuple #[.int .u64 ra,.int .i64 rb]/\
 R (.tuple #[.int .u64 ra,.int .i64 rb]) H1)
namespace gd
theorem link{hv:zY}{wv:Int}{H:zW}{R:zv}(h:pt hv wv H R):C hv wv H R:=by
 refine T_en K0 11 Tryz.func20 ?_
 intro w0 Q hQ
 unfold pt at h
 refine T_su [(0,vp hv),(1,vu wv)]<| ar 0<| T_ed 2 [] []<| ar 1<| T_n 2 [(6,vp hv),(7,vu wv)]<| T_c (some 8) h ?_;clear h
 rintro v H1 ⟨ra,rb,rfl,h⟩
 refine⟨[(8,.tuple #[vu ra,vi rb])],pk,?_⟩
 exact T_nr 4 [4,5] [vu ra,vi rb] hQ h
end gd

/-! (*moraine/obj.Heap).Weak -/
namespace gw
def K0:=Func.code Tryz.f35
end gw
def gw.pt(hv:zY)(d a:Int)(H:zW)(R:zv):Prop:=
 ∀(b:Nat) (H1:zW),b=H.size->H1=H.push (.cells #[.int .u64 d,.int .u64 a] 33)->
 ge.C hv 1 2 (some (ad b)) 2 2 H1 (λv H2=> ∃ra rb:Int,v=.tuple #[.int .u64 ra,.int .i64 rb]/\
 R (.tuple #[.int .u64 ra,.int .i64 rb]) H2)
namespace gw
theorem link{hv:zY}{d a:Int}{H:zW}{R:zv}(h:pt hv d a H R):C hv d a H R:=by
 refine T_en K0 15 Tryz.func35 ?_
 intro w0 Q hQ
 unfold pt at h
 refine T_su [(0,vp hv),(1,vu d),(2,vu a)]<| ar 0<| T_ed 2 [] []<| ar 1<| T_n 3 [(8,vp hv),(9,vu d),(10,vu a)]<| T_nw (some 11) (λb=>vs (pa b) 2 2) (.cells #[vu d,vu a] 33) ?_
 intro b H1 e1 e2
 replace h:=h b H1 e1 e2
 refine T_pd [9,10] [(11,vs (pa b) 2 2)]<| T_c (some 12) h ?_;clear h
 rintro v H2 ⟨ra,rb,rfl,h⟩
 refine⟨[(12,.tuple #[vu ra,vi rb])],pk,?_⟩
 exact T_nr 4 [6,7] [vu ra,vi rb] hQ h
end gw

/-! (*moraine/obj.Heap).Pair -/
namespace fW
def K0:=Func.code Tryz.f49
end fW
def fW.pt(hv:zY)(wv:Int)(H:zW)(R:zv):Prop:=
 fL.C hv wv H (λv H1=> ∃(ra:Int) (rb:Bool),v=.tuple #[.int .i64 ra,.bool rb]/\
 R (.bool rb) H1)
namespace fW
theorem link{hv:zY}{wv:Int}{H:zW}{R:zv}(h:pt hv wv H R):C hv wv H R:=by
 refine T_en K0 14 Tryz.func49 ?_
 intro w0 Q hQ
 unfold pt at h
 refine T_su [(0,vp hv),(1,vu wv)]<| ar 0<| T_ed 1 [] []<| ar 1<| T_n 2 [(8,vp hv),(9,vu wv)]<| T_c (some 10) h ?_;clear h
 rintro v H1 ⟨ra,rb,rfl,h⟩
 refine⟨[(10,.tuple #[vi ra,.bool rb])],pk,?_⟩
 exact T_ne 5 [(6,.bool rb)]<| ar 2<| T_nr 2 [4] [.bool rb] hQ h
end fW

/-! (*moraine/obj.Heap).Size -/
namespace gx
def K0:=Func.code Tryz.f51
end gx
def gx.pt(hv:zY)(wv:Int)(H:zW)(R:zv):Prop:=
 fW.C hv wv H (λv H1=> ∃x:Bool,v=.bool x/\
 if x=true then(
 R (.int .i64 2) H1)
 else
 cH.C hv wv H1 (λa H2=> ∃(ra rb rc rd:Int) (re:Bool),a=.tuple #[.int .i64 ra,.int .i64 rb,.int .i64 rc,.int .u64 rd,.bool re]/\
 if re=true then(
 R (.int .i64 (zq (rc+1))) H2)
 else
 R (.int .i64 0) H2))
namespace gx
theorem link{hv:zY}{wv:Int}{H:zW}{R:zv}(h:pt hv wv H R):C hv wv H R:=by
 refine T_en K0 25 Tryz.func51 ?_
 intro w0 Q hQ
 unfold pt zq at h
 refine T_su [(0,vp hv),(1,vu wv)]<| ar 0<| T_ed 1 [] []<| T_sz<| ar 1<| T_nd 2 [] [(10,vp hv),(11,vu wv)]<| T_c (some 12) h ?_;clear h
 rintro v H1 ⟨x,rfl,h⟩
 refine T_pd [10,11] [(12,.bool x)]<| T_e ?_
 by_cases c1:x=true
 ·rw[if_pos c1]at h
  exact aH 12 c1<| ar 2<| T_nr 1 [4] [vi 2] hQ h
 rw[if_neg c1]at h
 refine aI 12 (zZ c1)<| T_kt<| T_sz<| ar 3<| T_n 2 [(14,vp hv),(15,vu wv)]<| T_c (some 16) h ?_;clear h
 rintro a H2 ⟨ra,rb,rc,rd,re,rfl,h⟩
 refine⟨[(16,.tuple #[vi ra,vi rb,vi rc,vu rd,.bool re])],pk,?_⟩
 refine T_ne 11 [(7,vi rc),(9,.bool re)]<| ar 4<| T_ed 1 [9] [(22,.bool re)] ?_
 by_cases c3:re=true
 ·rw[if_pos c3]at h
  exact aH 22 c3<| ar 5<| T_nr 3 [4] [vi (zq (rc+1))] hQ h
 rw[if_neg c3]at h
 exact aI 22 (zZ c3)<| T_kt<| ar 6<| T_nr 1 [4] [vi 0] hQ h
end gx

/-! (*moraine/obj.Heap).half -/
namespace fX
def K0:=Func.code Tryz.f65
end fX
def fX.pt(hv:zY)(wv i:Int)(H:zW)(R:zv):Prop:=
 fL.C hv wv H (λv H1=> ∃(ra:Int) (rb:Bool),v=.tuple #[.int .i64 ra,.bool rb]/\
 if rb=true then(
 ∃f:Addr,hv=some f/\
 ∃x:zY,hat H1 f=some (.pointer x)/\
 ∃xA:Addr,x=some xA/\
 ∃j:zY,hat H1 xA=some (.pointer j)/\
 ∃e:Addr,j=some e/\
 ∃d:zY,hat H1 e=some (.pointer d)/\
 fQ.C d (zq (ra+i)) H1 (λk H2=> ∃a b:Int,k=.tuple #[.int .u64 a,.int .i64 b]/\
 R (.tuple #[.int .u64 a,.int .i64 b]) H2))
 else
 R (.tuple #[.int .u64 0,.int .i64 3]) H1)
namespace fX
theorem link{hv:zY}{wv i:Int}{H:zW}{R:zv}(h:pt hv wv i H R):C hv wv i H R:=by
 refine T_en K0 34 Tryz.func65 ?_
 intro w0 Q hQ
 unfold pt zq at h
 refine T_su [(0,vp hv),(1,vu wv),(2,vi i)]<| ar 0<| T_ed 2 [] []<| ar 1<| T_nd 2 [1] [(11,vp hv),(12,vu wv)]<| T_c (some 13) h ?_;clear h
 rintro v H1 ⟨ra,rb,rfl,h⟩
 refine T_pd [11,12] [(13,.tuple #[vi ra,.bool rb])]<| T_ed 5 [13] [(8,vi ra),(9,.bool rb)]<| T_sz<| ar 2<| T_ed 2 [9] [(17,.bool (!rb))] ?_
 by_cases c1:rb=true
 ·rw[if_pos c1]at h
  refine aI 17 (congrArg Bool.not (c1))<| T_kt<| ar 4<| T_nd 1 [0,17] [(18,vp hv)] ?_
  obtain⟨f,rfl,h⟩:=h
  refine T_nd 2 [18] [(20,vp (some f))] ?_
  obtain⟨x,q3,h⟩:=h
  refine T_l1 21 51 q3 [20] ?_
  obtain⟨xA,rfl,h⟩:=h
  refine T_nd 2 [21] [(23,vp (some xA))] ?_
  obtain⟨j,q4,h⟩:=h
  refine T_l1 24 55 q4 [23] ?_
  obtain⟨e,rfl,h⟩:=h
  refine T_nd 2 [24] [(26,vp (some e))] ?_
  obtain⟨d,q5,h⟩:=h
  refine T_l1 27 58 q5 [26]<| T_nd 3 [2,8] [(30,vi (zq (ra+i)))]<| T_c (some 31) h ?_;clear h
  rintro k H2 ⟨a,b,rfl,h⟩
  refine⟨[(31,.tuple #[vu a,vi b])],pk,?_⟩
  exact T_nr 4 [6,7] [vu a,vi b] hQ h
 rw[if_neg c1]at h
 exact aH 17 (congrArg Bool.not (zZ c1))<| ar 3<| T_nr 2 [6,7] [vu 0,vi 3] hQ h
end fX

/-! (*moraine/obj.Heap).SetCar -/
namespace fR
def K0:=Func.code Tryz.f88
end fR
def fR.pt(hv:zY)(wv v:Int)(H:zW)(R:zv):Prop:=
 gE.C hv wv 0 v H (λa H1=> ∃x:Int,a=.int .i64 x/\
 R (.int .i64 x) H1)
namespace fR
theorem link{hv:zY}{wv v:Int}{H:zW}{R:zv}(h:pt hv wv v H R):C hv wv v H R:=by
 refine T_en K0 11 Tryz.func88 ?_
 intro w0 Q hQ
 unfold pt at h
 refine T_su [(0,vp hv),(1,vu wv),(2,vu v)]<| ar 0<| T_ed 1 [] []<| ar 1<| T_n 3 [(7,vp hv),(8,vu wv),(9,vu v)]<| T_c (some 10) h ?_;clear h
 rintro a H1 ⟨x,rfl,h⟩
 refine⟨[(10,vi x)],pk,?_⟩
 exact T_nr 1 [6] [vi x] hQ h
end fR

/-! (*moraine/obj.Heap).SetCdr -/
namespace fS
def K0:=Func.code Tryz.f89
end fS
def fS.pt(hv:zY)(wv v:Int)(H:zW)(R:zv):Prop:=
 gE.C hv wv 1 v H (λa H1=> ∃x:Int,a=.int .i64 x/\
 R (.int .i64 x) H1)
namespace fS
theorem link{hv:zY}{wv v:Int}{H:zW}{R:zv}(h:pt hv wv v H R):C hv wv v H R:=by
 refine T_en K0 11 Tryz.func89 ?_
 intro w0 Q hQ
 unfold pt at h
 refine T_su [(0,vp hv),(1,vu wv),(2,vu v)]<| ar 0<| T_ed 1 [] []<| ar 1<| T_n 3 [(7,vp hv),(8,vu wv),(9,vu v)]<| T_c (some 10) h ?_;clear h
 rintro a H1 ⟨x,rfl,h⟩
 refine⟨[(10,vi x)],pk,?_⟩
 exact T_nr 1 [6] [vi x] hQ h
end fS

/-! (*moraine/obj.Heap).pair -/
namespace fL
def K0:=Func.code Tryz.f96
end fL
def fL.pt(hv:zY)(wv:Int)(H:zW)(R:zv):Prop:=
 gG.C hv wv 1 0 H (λv H1=> ∃(ra:Int) (rb:Bool),v=.tuple #[.int .i64 ra,.bool rb]/\
 if rb=true then(
 R (.tuple #[.int .i64 ra,.bool ((Int.tmod ra 2)==0)]) H1)
 else
 gG.C hv wv 2 1 H1 (λd H2=> ∃(a:Int) (b:Bool),d=.tuple #[.int .i64 a,.bool b]/\
 R (.tuple #[.int .i64 a,.bool (b && ((Int.tmod a 2)==0))]) H2))
namespace fL
theorem link{hv:zY}{wv:Int}{H:zW}{R:zv}(h:pt hv wv H R):C hv wv H R:=by
 refine T_en K0 29 Tryz.func96 ?_
 intro w0 Q hQ
 unfold pt at h
 refine T_su [(0,vp hv),(1,vu wv)]<| ar 0<| T_ed 2 [] []<| ar 1<| T_nd 2 [] [(9,vp hv),(10,vu wv)]<| T_c (some 11) h ?_;clear h
 rintro v H1 ⟨ra,rb,rfl,h⟩
 refine T_pd [9,10] [(11,.tuple #[vi ra,.bool rb])]<| T_ed 5 [11] [(6,vi ra),(7,.bool rb)]<| T_sz<| ar 2<| T_ed 2 [] [(15,.bool (!rb))] ?_
 by_cases c1:rb=true
 ·rw[if_pos c1]at h
  have b2:(!rb)=false:=congrArg Bool.not (c1)
  have b22:rb=true:=c1
  refine S_bd 7 (b:=rb) (v:=true) (by simp only[b2,b22,Bool.not_true,Bool.not_false])<| S_bd 15 (b:=(!rb)) (v:=false) (by simp only[b2,b22,Bool.not_true,Bool.not_false]) ?_
  clear b2 b22
  exact T_fz 15<| T_kt<| ar 4<| T_nr 9 [4,5] [vi ra,.bool ((Int.tmod ra 2)==0)] hQ h
 rw[if_neg c1]at h
 have b2:(!rb)=true:=congrArg Bool.not (zZ c1)
 have b22:rb=false:=zZ c1
 refine S_bd 7 (b:=rb) (v:=false) (by simp only[b2,b22,Bool.not_true,Bool.not_false])<| S_bd 15 (b:=(!rb)) (v:=true) (by simp only[b2,b22,Bool.not_true,Bool.not_false]) ?_
 clear b2 b22
 refine T_tz 15<| T_rz 3<| T_n 2 [(17,vp hv),(18,vu wv)]<| T_c (some 19) h ?_;clear h
 rintro d H2 ⟨a,b,rfl,h⟩
 refine⟨[(19,.tuple #[vi a,.bool b])],pk,?_⟩
 refine T_ne 5 [(6,vi a),(7,.bool b)]<| ar 4 ?_
 refine gp [(4,vi a),(5,.bool (b && ((Int.tmod a 2)==0)))] ?_ ?_
 ·exact aE<| ie [4,5] [vi a,.bool (b && ((Int.tmod a 2)==0))] hQ h
 intro hk
 refine T_n 3 [(6,vi a),(22,vi a),(24,.bool b)] ?_
 by_cases c3:b=true
 ·have b4:b=true:=c3
  refine bV [(6,vi a),(22,vi a),(24,.bool true)] (by rw[b4]) ?_
  refine T_n 6 [(4,vi a),(5,.bool ((Int.tmod a 2)==0))]<| zx<| eT [(4,vi a),(5,.bool (b && ((Int.tmod a 2)==0)))] (by simp only[b4,BL]) ?_
  exact hk
 have b4:b=false:=zZ c3
 refine bV [(6,vi a),(22,vi a),(24,.bool false)] (by rw[b4]) ?_
 refine T_n 6 [(4,vi a),(5,.bool false)]<| zx<| eT [(4,vi a),(5,.bool (b && ((Int.tmod a 2)==0)))] (by simp only[b4,BL]) ?_
 exact hk
end fL

/-! (*moraine/obj.Heap).set -/
namespace gE
def K0:=Func.code Tryz.f127
end gE
def gE.pt(hv:zY)(wv i v:Int)(H:zW)(R:zv):Prop:=
 fL.C hv wv H (λd H1=> ∃(ra:Int) (rb:Bool),d=.tuple #[.int .i64 ra,.bool rb]/\
 if rb=true then(
 ∃b:Addr,hv=some b/\
 ∃x:zY,hat H1 b=some (.pointer x)/\
 eH.C x (zq (ra+i)) v H1 (λe H2=> ∃a:Int,e=.int .i64 a/\
 R (.int .i64 a) H2))
 else
 R (.int .i64 3) H1)
namespace gE
theorem link{hv:zY}{wv i v:Int}{H:zW}{R:zv}(h:pt hv wv i v H R):C hv wv i v H R:=by
 refine T_en K0 28 Tryz.func127 ?_
 intro w0 Q hQ
 unfold pt zq at h
 refine T_su [(0,vp hv),(1,vu wv),(2,vi i),(3,vu v)]<| ar 0<| T_ed 1 [] []<| ar 1<| T_nd 2 [1] [(12,vp hv),(13,vu wv)]<| T_c (some 14) h ?_;clear h
 rintro d H1 ⟨ra,rb,rfl,h⟩
 refine T_pd [12,13] [(14,.tuple #[vi ra,.bool rb])]<| T_ed 5 [14] [(9,vi ra),(10,.bool rb)]<| T_sz<| ar 2<| T_ed 2 [10] [(18,.bool (!rb))] ?_
 by_cases c1:rb=true
 ·rw[if_pos c1]at h
  refine aI 18 (congrArg Bool.not (c1))<| T_kt<| ar 4<| T_nd 1 [0,18] [(19,vp hv)] ?_
  obtain⟨b,rfl,h⟩:=h
  refine T_nd 2 [19] [(21,vp (some b))] ?_
  obtain⟨x,q3,h⟩:=h
  refine T_l1 22 51 q3 [21]<| T_n 4 [(22,vp x),(25,vi (zq (ra+i))),(26,vu v)]<| T_c (some 27) h ?_;clear h
  rintro e H2 ⟨a,rfl,h⟩
  refine⟨[(27,vi a)],pk,?_⟩
  exact T_nr 1 [8] [vi a] hQ h
 rw[if_neg c1]at h
 exact aH 18 (congrArg Bool.not (zZ c1))<| ar 3<| T_nr 1 [8] [vi 3] hQ h
end gE

/-! slices.Clone[[]moraine/api.Word,moraine/api.Word] -/
namespace bH
def K0:=Func.code Tryz.f29
end bH
def bH.pt(sB:zY)(sN sC:Nat)(H:zW)(R:zv):Prop:=
 gk sB (
 R (.slice none 0 0) H) (λa=>
 ∀(b:Nat) (H1:zW),b=H.size->H1=H.push (.cells #[] 33)->
 bW 1 33 8 [.int .u64 0] (some (ad b)) 0 0 (some a) sN H1 (λap d H2=>
 R (.slice ap (0+sN) d) H2))
namespace bH
theorem link{sB:zY}{sN sC:Nat}{H:zW}{R:zv}(h:pt sB sN sC H R):C sB sN sC H R:=by
 refine T_en K0 8 Tryz.func29 ?_
 intro w0 Q hQ
 unfold pt at h
 refine T_su [(0,vs sB sN sC)]<| ar 0<| T_ed 1 [] []<| T_sz<| ar 1<| T_nd 1 [] [(3,vs sB sN sC)] ?_
 rcases sB with _ | a
 ·rw[onPtr_none]at h
  exact T_ne 1 [(0,vs none sN sC),(4,.bool true)]<| T_tz 4<| ar 2<| T_nr 1 [2] [vs none 0 0] hQ h
 rw[onPtr_some]at h
 refine T_ne 1 [(0,vs (some a) sN sC),(4,.bool false)]<| T_fz 4<| T_kt<| ar 3<| T_ud [4] []<| T_nw (some 5) (λb=>vs (pa b) 0 0) (.cells #[] 33) ?_
 intro b H1 e1 e2
 replace h:=h b H1 e1 e2
 refine T_pd [] [(5,vs (pa b) 0 0)]<| T_nd 1 [0] [(6,vs (some a) sN sC)]<| N_op (some 7) (cS #[31,31] 31 #[vs (pa b) 0 0,vs (some a) sN sC]) _ (λ_=>by kernel_rfl) (bP (T:=33) (sz:=1) (bytes:=8) (zero:=(vu 0:Value)) Tryz.underlying31 Tryz.underlying31 rfl (show Tryz.prog.info? 33=some Tryz.t33 from by kernel_rfl) (by kernel_rfl) (by kernel_rfl) (by decide) (by kernel_rfl) (by first | exact h | (simpa only[Value.cells,List.toList_toArray]using h))) ?_;clear h
 rintro _ H2 ⟨ap,d,rfl,h⟩
 refine⟨[(7,vs ap (0+sN) d)],pk,?_⟩
 exact T_nr 1 [2] [vs ap (0+sN) d] hQ h
end bH

/-! slices.Clone[[]moraine/api.Entry,moraine/api.Entry] -/
namespace aX
def K0:=Func.code Tryz.f30
end aX
def aX.pt(sB:zY)(sN sC:Nat)(H:zW)(R:zv):Prop:=
 gk sB (
 R (.slice none 0 0) H) (λa=>
 ∀(b:Nat) (H1:zW),b=H.size->H1=H.push (.cells #[] 98)->
 bW 2 98 16 [.int .u64 0,.int .u64 0] (some (ad b)) 0 0 (some a) sN H1 (λap d H2=>
 R (.slice ap (0+sN) d) H2))
namespace aX
theorem link{sB:zY}{sN sC:Nat}{H:zW}{R:zv}(h:pt sB sN sC H R):C sB sN sC H R:=by
 refine T_en K0 8 Tryz.func30 ?_
 intro w0 Q hQ
 unfold pt at h
 refine T_su [(0,vs sB sN sC)]<| ar 0<| T_ed 1 [] []<| T_sz<| ar 1<| T_nd 1 [] [(3,vs sB sN sC)] ?_
 rcases sB with _ | a
 ·rw[onPtr_none]at h
  exact T_ne 1 [(0,vs none sN sC),(4,.bool true)]<| T_tz 4<| ar 2<| T_nr 1 [2] [vs none 0 0] hQ h
 rw[onPtr_some]at h
 refine T_ne 1 [(0,vs (some a) sN sC),(4,.bool false)]<| T_fz 4<| T_kt<| ar 3<| T_ud [4] []<| T_nw (some 5) (λb=>vs (pa b) 0 0) (.cells #[] 98) ?_
 intro b H1 e1 e2
 replace h:=h b H1 e1 e2
 refine T_pd [] [(5,vs (pa b) 0 0)]<| T_nd 1 [0] [(6,vs (some a) sN sC)]<| N_op (some 7) (cS #[52,52] 52 #[vs (pa b) 0 0,vs (some a) sN sC]) _ (λ_=>by kernel_rfl) (bP (T:=98) (sz:=2) (bytes:=16) (zero:=(.agg #[vu 0,vu 0]:Value)) Tryz.underlying52 Tryz.underlying52 rfl (show Tryz.prog.info? 98=some Tryz.t98 from by kernel_rfl) (by kernel_rfl) (by kernel_rfl) (by decide) (by kernel_rfl) (by first | exact h | (simpa only[Value.cells,List.toList_toArray]using h))) ?_;clear h
 rintro _ H2 ⟨ap,d,rfl,h⟩
 refine⟨[(7,vs ap (0+sN) d)],pk,?_⟩
 exact T_nr 1 [2] [vs ap (0+sN) d] hQ h
end aX

/-! slices.Contains[[]int,int] -/
namespace cE
def K0:=Func.code Tryz.f60
end cE
def cE.pt(sB:zY)(sN sC:Nat)(v:Int)(H:zW)(R:zv):Prop:=
 dR.C sB sN sC v H (λa H1=> ∃x:Int,a=.int .i64 x/\
 R (.bool (decide (x>=0))) H1)
namespace cE
theorem link{sB:zY}{sN sC:Nat}{v:Int}{H:zW}{R:zv}(h:pt sB sN sC v H R):C sB sN sC v H R:=by
 refine T_en K0 9 Tryz.func60 ?_
 intro w0 Q hQ
 unfold pt at h
 refine T_su [(0,vs sB sN sC),(1,vi v)]<| ar 0<| T_ed 1 [] []<| ar 1<| T_n 2 [(5,vs sB sN sC),(6,vi v)]<| T_c (some 7) h ?_;clear h
 rintro a H1 ⟨x,rfl,h⟩
 refine⟨[(7,vi x)],pk,?_⟩
 exact T_nr 2 [4] [.bool (decide (x>=0))] hQ h
end cE

/-! slices.Repeat[[]moraine/api.Word,moraine/api.Word] -/
namespace bA
def K0:=Func.code Tryz.f66
def K2:=cb K0
def K4:=cb K2
def K10:=cb K4
def K12:=cb K10
def K18:=cb K12
def K20:=cb K18
def K21:=ca K20
def K23:=ca K21
def K24:=ca K23
def K26:=cb K24
def K31:=ca K26
end bA
def bA.pt(xB:zY)(xN xC:Nat)(d:Int)(H:zW)(R:zv):Prop:=
 if d<0 then(
 False)
 else
 gy.C (IntKind.wrap .u64 (xN:Int)) (IntKind.wrap .u64 d) H (λv H1=> ∃ra rb:Int,v=.tuple #[.int .u64 ra,.int .u64 rb]/\
 if((decide (ra>0)) || (decide (rb>9223372036854775807)))=true then(
 False)
 else
 0<=(zq rb)/\(zq rb)<=(zq rb)/\8*(zq rb)<=2 ^ 48/\(zq rb)<=9223372036854775807/\
 ∀(b:Nat) (H2:zW),b=H1.size->H2=H1.push (.cells (Builtin.zeroCells #[.int .u64 0] (Int.toNat (zq rb))) 33)->
 qE 1 (some (ad b)) (Int.toNat (zq rb)) xB xN H2 (λcn H3=>
 ∃(k:zw) (m25:Int->zW->Nat),k (cn:Int) H3/\ ∀(nv:Int) (H4:zW),k nv H4->
 if nv< ((Int.toNat (zq rb)):Int)then(
 ∃(lo hi:Nat),nv=(lo:Int)/\hi=(Int.toNat (zq rb))/\lo<=hi/\hi<=(Int.toNat (zq rb))/\
 ∀sl:zY,sl=(if(Int.toNat (zq rb))=lo then(some (ad b))else Option.map (λa:Addr=>a.add (lo*1)) (some (ad b)))->
 ∃(e i:Nat),e=0/\nv=(i:Int)/\e<=i/\i<=(Int.toNat (zq rb))/\
 ∀j:zY,j=(if(Int.toNat (zq rb))=e then(some (ad b))else Option.map (λa:Addr=>a.add (e*1)) (some (ad b)))->
 qE 1 sl (hi-lo) j (i-e) H4 (λf H5=>
 (k (zq (nv+(f:Int))) H5/\m25 (zq (nv+(f:Int))) H5<m25 nv H4)))
 else
 R (.slice (some (ad b)) (Int.toNat (zq rb)) (Int.toNat (zq rb))) H4))
namespace bA
theorem link{xB:zY}{xN xC:Nat}{d:Int}{H:zW}{R:zv}(h:pt xB xN xC d H R):C xB xN xC d H R:=by
 refine T_en K0 48 Tryz.func66 ?_
 intro w0 Q hQ
 unfold pt zq at h
 refine T_su [(0,vs xB xN xC),(1,vi d)]<| ar 0<| T_ed 1 [] []<| T_sz<| ar 1<| T_ed 2 [] [(10,.bool (decide (d<0)))] ?_
 by_cases c1:d<0
 ·rw[if_pos c1]at h
  refine aH 10 (zQ c1)<| T_rz 2<| T_ud [10] [] ?_
  exact h.elim
 rw[if_neg c1]at h
 refine aI 10 (zJ c1)<| T_kt<| ar 3<| T_nd 5 [1,10] [(15,vu (IntKind.wrap .u64 (xN:Int))),(17,vu (IntKind.wrap .u64 d))]<| T_c (some 18) h ?_;clear h
 rintro v H1 ⟨ra,rb,rfl,h⟩
 refine T_pd [15,17] [(18,.tuple #[vu ra,vu rb])]<| T_ed 5 [18] [(5,vu ra),(6,vu rb)]<| T_sz<| ar 4 ?_
 refine gp [(0,vs xB xN xC),(6,vu rb),(26,.bool ((decide (ra>0)) || (decide (rb>9223372036854775807))))] ?_ ?_
 ·refine aE ?_
  by_cases c5:((decide (ra>0)) || (decide (rb>9223372036854775807)))=true
  ·rw[if_pos c5]at h
   refine aH 26 c5<| T_rz 5<| T_nu [(0,vs xB xN xC),(6,vu rb)] ?_
   exact h.elim
  rw[if_neg c5]at h
  refine aI 26 (zZ c5)<| T_kt<| ar 6<| T_n 2 [(0,vs xB xN xC),(29,vi (zq rb))] ?_
  obtain⟨q7,q8,q9,q10,h⟩:=h
  refine N_op (some 30) (jI 31 (vi (zq rb)) (vi (zq rb))) (λv Hz=>v=Value.slice (some (Addr.mk H1.size 0 none)) (Int.toNat (zq rb)) (Int.toNat (zq rb))/\Hz=H1.push (.cells (Builtin.zeroCells #[vu 0] (Int.toNat (zq rb))) 33)) (λ_=>by kernel_rfl) (oa (T:=33) (zero:=vu 0) Tryz.underlying31 (show Tryz.prog.info? 33=some Tryz.t33 from by kernel_rfl) (by kernel_rfl) q7 q8 q9 q10 (by kernel_rfl) (by decide)) ?_
  rintro _ H2 ⟨rfl,e12⟩
  obtain⟨b,e11⟩: ∃b,b=H1.size:=⟨_,rfl⟩
  replace h:=h b H2 e11 e12
  rw[<-e11]
  refine T_pd [29] [(30,vs (pa b) (Int.toNat (zq rb)) (Int.toNat (zq rb)))]<| T_ed 1 [30] [(7,vs (pa b) (Int.toNat (zq rb)) (Int.toNat (zq rb)))]<| ar 7<| T_nd 2 [0] [(31,vs (pa b) (Int.toNat (zq rb)) (Int.toNat (zq rb))),(32,vs xB xN xC)]<| N_op (some 33) (oH #[31,31] 3 #[vs (pa b) (Int.toNat (zq rb)) (Int.toNat (zq rb)),vs xB xN xC]) _ (λ_=>by kernel_rfl) (qF (T:=33) (sz:=1) Tryz.underlying31 (λ_=>by kernel_rfl) h) ?_;clear h
  rintro _ H3 ⟨cn,rfl,h⟩
  refine T_pd [31,32] [(33,vi cn)]<| T_ed 1 [33] [(8,vi cn)]<| T_sz<| T_bz 0 ?_
  obtain⟨k,m25,i13,i14⟩:=h
  refine dS (x:=K24) (σ:=Int) (λs_=> [(7,vs (pa b) (Int.toNat (zq rb)) (Int.toNat (zq rb))),(8,vi s_)]) (λs_ H=>k s_ H) (λs_ H=>m25 s_ H) ((cn:Int):Int) (by kernel_rfl) i13 sk ?_
  rintro nv H4 i15
  have h:=i14 nv H4 i15
  refine T_su [(7,vs (pa b) (Int.toNat (zq rb)) (Int.toNat (zq rb))),(8,vi nv)]<| T_sz<| ar 8<| T_ed 4 [] [(37,.bool (decide (nv< ((Int.toNat (zq rb)):Int))))] ?_
  by_cases c16:nv< ((Int.toNat (zq rb)):Int)
  ·rw[if_pos c16]at h
   refine aH 37 (zQ c16)<| T_kt<| T_bz 1 ?_
   obtain⟨lo,hi,q18,q19,q20,q21,h⟩:=h
   obtain⟨sl,e22⟩: ∃B,B=(if(Int.toNat (zq rb))=lo then(pa b)else Option.map (λa:Addr=>a.add (lo*1)) (pa b)):=⟨_,rfl⟩
   replace h:=h sl e22
   obtain⟨e,i,q23,q24,q25,q26,h⟩:=h
   obtain⟨j,e27⟩: ∃B,B=(if(Int.toNat (zq rb))=e then(pa b)else Option.map (λa:Addr=>a.add (e*1)) (pa b)):=⟨_,rfl⟩
   replace h:=h j e27
   refine yq 9 (Code.ops K31) [] 10 (bv 10 0) (show aK _ _ _ from trivial) ?_
   refine aF 0 38 (vi nv) (bv 10 1) [37]<| aF 1 39 (vs (pa b) (Int.toNat (zq rb)) (Int.toNat (zq rb))) (bv 10 3) []<| aF 2 40 (vi nv) (bv 10 7) []<| T_g1 3 41 (vs sl (hi-lo) ((Int.toNat (zq rb))-lo)) (bv 10 15) [39,40] (ku 31 (vs (pa b) (Int.toNat (zq rb)) (Int.toNat (zq rb))) (some (vi nv)) none none) (λ_ w _ _ _=>(jD (P:=Tryz.prog) (t:=31) (elem:=33) (sz:=1) (a:=(pa b)) (len:=(Int.toNat (zq rb))) (cap:=(Int.toNat (zq rb))) (some (vi nv)) none lo hi Tryz.underlying31 (λ_=>by kernel_rfl) (.inr ⟨.i64,congrArg (λq=>some (Value.int .i64 q)) q18⟩) (.inl ⟨rfl,q19⟩) q20 q21 w).trans (by rw[e22];try rfl)) ?_
   refine aF 4 42 (vs (pa b) (Int.toNat (zq rb)) (Int.toNat (zq rb))) (bv 10 31) []<| aF 5 43 (vi nv) (bv 10 63) []<| T_g1 6 44 (vs j (i-e) ((Int.toNat (zq rb))-e)) (bv 10 127) [42,43] (ku 31 (vs (pa b) (Int.toNat (zq rb)) (Int.toNat (zq rb))) none (some (vi nv)) none) (λ_ w _ _ _=>(jD (P:=Tryz.prog) (t:=31) (elem:=33) (sz:=1) (a:=(pa b)) (len:=(Int.toNat (zq rb))) (cap:=(Int.toNat (zq rb))) none (some (vi nv)) e i Tryz.underlying31 (λ_=>by kernel_rfl) (.inl ⟨rfl,q23⟩) (.inr ⟨.i64,congrArg (λq=>some (Value.int .i64 q)) q24⟩) q25 q26 w).trans (by rw[e27];try rfl))<| pS 7 (some 45) (bv 10 255) (oH #[31,31] 3 #[vs sl (hi-lo) ((Int.toNat (zq rb))-lo),vs j (i-e) ((Int.toNat (zq rb))-e)]) _ (by kernel_rfl) (λ_=>by kernel_rfl) (qF (T:=33) (sz:=1) Tryz.underlying31 (λ_=>by kernel_rfl) h) (by kernel_rfl) ?_;clear h
   rintro _ H5 ⟨f,rfl,h⟩
   refine⟨[(7,vs (pa b) (Int.toNat (zq rb)) (Int.toNat (zq rb))),(8,vi nv),(38,vi nv),(45,vi f)],pk,(show aK _ _ _ from trivial),?_⟩
   exact T_g 8 (some 46) (vi (zq (nv+(f:Int)))) (bv 10 511) [(7,vs (pa b) (Int.toNat (zq rb)) (Int.toNat (zq rb))),(8,vi nv),(46,vi (zq (nv+(f:Int))))] (pure (.value (vi (zq (nv+(f:Int))))):Sem Next) (λ_ _ _ _ _=>rfl)<| T_g1 9 8 (vi (zq (nv+(f:Int)))) (bv 10 1023) [8,46] (pure (.value (vi (zq (nv+(f:Int))))):Sem Next) (λ_ _ _ _ _=>rfl)<| eI [(7,vs (pa b) (Int.toNat (zq rb)) (Int.toNat (zq rb))),(8,vi (zq (nv+(f:Int))))] sk<| yz<| aL<| aE<| bG ((zq (nv+(f:Int))):Int) sk h
  rw[if_neg c16]at h
  exact aI 37 (zJ c16)<| zk 0<| aD<| aD<| aR<| aE<| ar 10<| T_nr 2 [4] [vs (pa b) (Int.toNat (zq rb)) (Int.toNat (zq rb))] hQ h
 intro hk
 refine T_n 3 [(0,vs xB xN xC),(6,vu rb),(23,.bool (decide (ra>0)))] ?_
 by_cases c3:ra>0
 ·have b4:(decide (ra>0))=true:=zQ c3
  refine bV [(0,vs xB xN xC),(6,vu rb),(23,.bool true)] (by rw[b4]) ?_
  refine T_nd 3 [23] [(26,.bool true)]<| zx<| S_bd 26 (b:=true) (v:=((decide (ra>0)) || (decide (rb>9223372036854775807)))) (by simp only[b4,BL]) ?_
  exact hk
 have b4:(decide (ra>0))=false:=zJ c3
 refine bV [(0,vs xB xN xC),(6,vu rb),(23,.bool false)] (by rw[b4]) ?_
 refine T_nd 3 [23] [(26,.bool (decide (rb>9223372036854775807)))]<| zx<| S_bd 26 (b:=(decide (rb>9223372036854775807))) (v:=((decide (ra>0)) || (decide (rb>9223372036854775807)))) (by simp only[b4,BL]) ?_
 exact hk
end bA

/-! slices.Index[[]int,int] -/
namespace dR
def K0:=Func.code Tryz.f104
def K2:=cb K0
def K3:=ca K2
def K6:=cb K3
def K7:=ca K6
def K8:=ca K7
end dR
def dR.pt(sB:zY)(sN sC:Nat)(v:Int)(H:zW)(R:zv):Prop:=
 ∃(I9:zw) (m9:Int->zW->Nat),I9 0 H/\ ∀(s8:Int) (H1:zW),I9 s8 H1->
 if s8< (sN:Int)then(
 ∃b:Addr,sB=some b/\
 yZ s8 sN/\
 ∃x:Int,hat H1 (b.add (Int.toNat s8*1))=some (.int .i64 x)/\
 if v=x then(
 R (.int .i64 s8) H1)
 else
 (I9 (zq (s8+1)) H1/\m9 (zq (s8+1)) H1<m9 s8 H1))
 else
 R (.int .i64 (-1)) H1
namespace dR
theorem link{sB:zY}{sN sC:Nat}{v:Int}{H:zW}{R:zv}(h:pt sB sN sC v H R):C sB sN sC v H R:=by
 refine T_en K0 19 Tryz.func104 ?_
 intro w0 Q hQ
 unfold pt zq at h
 refine T_su [(0,vs sB sN sC),(1,vi v)]<| ar 0<| T_ed 1 [] []<| T_sz<| ar 1<| T_ed 3 [] [(7,vi sN),(8,vi 0)]<| T_bz 0 ?_
 obtain⟨I9,m9,i1,i2⟩:=h
 refine dS (x:=K8) (σ:=Int) (λs_=> [(0,vs sB sN sC),(1,vi v),(7,vi sN),(8,vi s_)]) (λs_ H=>I9 s_ H) (λs_ H=>m9 s_ H) (0:Int) (by kernel_rfl) i1 sk ?_
 rintro s8 H1 i3
 have h:=i2 s8 H1 i3
 refine T_su [(0,vs sB sN sC),(1,vi v),(7,vi sN),(8,vi s8)]<| ar 2<| T_ed 1 [] [(9,.bool (decide (s8< (sN:Int))))]<| T_sz ?_
 by_cases c4:s8< (sN:Int)
 ·rw[if_pos c4]at h
  refine aH 9 (zQ c4)<| T_kt<| T_sz<| T_bz 1<| ar 3<| T_ed 2 [9] [(5,vi s8)]<| ar 4<| T_nd 3 [] [(11,vi v),(12,vs sB sN sC),(13,vi s8)] ?_
  obtain⟨b,rfl,q6,h⟩:=h
  refine T_xd (some 14) 49 3 1 b sN sC .i64 s8 Tryz.underlying49 q6.1 q6.2 [0,12,13] [(0,vs (some b) sN sC),(14,vp (some (b.add (Int.toNat s8*1))))] ?_
  obtain⟨x,q7,h⟩:=h
  refine T_l1 15 3 q7 [14]<| T_ed 1 [11,15] [(16,.bool (v==x))] ?_
  by_cases c8:v=x
  ·rw[if_pos c8]at h
   exact aH 16 (zV c8)<| ar 5<| T_nr 2 [4] [vi s8] hQ h
  rw[if_neg c8]at h
  exact aI 16 (zK c8)<| T_k<| aL<| aE<| T_rz 6<| T_ed 2 [5,8,16] [(8,vi (zq (s8+1)))]<| bG ((zq (s8+1)):Int) sk h
 rw[if_neg c4]at h
 exact aI 9 (zJ c4)<| zk 0<| aD<| aD<| aR<| aE<| ar 7<| T_nr 1 [4] [vi (-1)] hQ h
end dR

/-! slices.Clone[[]moraine/seg.segment,moraine/seg.segment] -/
namespace aV
def K0:=Func.code Tryz.f149
end aV
def aV.pt(sB:zY)(sN sC:Nat)(H:zW)(R:zv):Prop:=
 gk sB (
 R (.slice none 0 0) H) (λa=>
 ∀(b:Nat) (H1:zW),b=H.size->H1=H.push (.cells #[] 127)->
 bW 72 127 576 (List.replicate 8 (.int .i64 0)++List.replicate 64 (.int .u64 0):List Value) (some (ad b)) 0 0 (some a) sN H1 (λap d H2=>
 R (.slice ap (0+sN) d) H2))
namespace aV
theorem link{sB:zY}{sN sC:Nat}{H:zW}{R:zv}(h:pt sB sN sC H R):C sB sN sC H R:=by
 refine T_en K0 8 Tryz.func149 ?_
 intro w0 Q hQ
 unfold pt at h
 refine T_su [(0,vs sB sN sC)]<| ar 0<| T_ed 1 [] []<| T_sz<| ar 1<| T_nd 1 [] [(3,vs sB sN sC)] ?_
 rcases sB with _ | a
 ·rw[onPtr_none]at h
  exact T_ne 1 [(0,vs none sN sC),(4,.bool true)]<| T_tz 4<| ar 2<| T_nr 1 [2] [vs none 0 0] hQ h
 rw[onPtr_some]at h
 refine T_ne 1 [(0,vs (some a) sN sC),(4,.bool false)]<| T_fz 4<| T_kt<| ar 3<| T_ud [4] []<| T_nw (some 5) (λb=>vs (pa b) 0 0) (.cells #[] 127) ?_
 intro b H1 e1 e2
 replace h:=h b H1 e1 e2
 refine T_pd [] [(5,vs (pa b) 0 0)]<| T_nd 1 [0] [(6,vs (some a) sN sC)]<| N_op (some 7) (cS #[121,121] 121 #[vs (pa b) 0 0,vs (some a) sN sC]) _ (λ_=>by kernel_rfl) (bP (T:=127) (sz:=72) (bytes:=576) (zero:=(.agg (List.replicate 8 (vi 0)++List.replicate 64 (vu 0):List Value).toArray:Value)) Tryz.underlying121 Tryz.underlying121 rfl (show Tryz.prog.info? 127=some Tryz.t127 from by kernel_rfl) (by kernel_rfl) (by kernel_rfl) (by decide) (by kernel_rfl) (by first | exact h | (simpa only[Value.cells,List.toList_toArray]using h))) ?_;clear h
 rintro _ H2 ⟨ap,d,rfl,h⟩
 refine⟨[(7,vs ap (0+sN) d)],pk,?_⟩
 exact T_nr 1 [2] [vs ap (0+sN) d] hQ h
end aV

/-! slices.Clone[[]uint32,uint32] -/
namespace bE
def K0:=Func.code Tryz.f153
end bE
def bE.pt(sB:zY)(sN sC:Nat)(H:zW)(R:zv):Prop:=
 gk sB (
 R (.slice none 0 0) H) (λa=>
 ∀(b:Nat) (H1:zW),b=H.size->H1=H.push (.cells #[] 154)->
 bW 1 154 4 [.int .u32 0] (some (ad b)) 0 0 (some a) sN H1 (λap d H2=>
 R (.slice ap (0+sN) d) H2))
namespace bE
theorem link{sB:zY}{sN sC:Nat}{H:zW}{R:zv}(h:pt sB sN sC H R):C sB sN sC H R:=by
 refine T_en K0 8 Tryz.func153 ?_
 intro w0 Q hQ
 unfold pt at h
 refine T_su [(0,vs sB sN sC)]<| ar 0<| T_ed 1 [] []<| T_sz<| ar 1<| T_nd 1 [] [(3,vs sB sN sC)] ?_
 rcases sB with _ | a
 ·rw[onPtr_none]at h
  exact T_ne 1 [(0,vs none sN sC),(4,.bool true)]<| T_tz 4<| ar 2<| T_nr 1 [2] [vs none 0 0] hQ h
 rw[onPtr_some]at h
 refine T_ne 1 [(0,vs (some a) sN sC),(4,.bool false)]<| T_fz 4<| T_kt<| ar 3<| T_ud [4] []<| T_nw (some 5) (λb=>vs (pa b) 0 0) (.cells #[] 154) ?_
 intro b H1 e1 e2
 replace h:=h b H1 e1 e2
 refine T_pd [] [(5,vs (pa b) 0 0)]<| T_nd 1 [0] [(6,vs (some a) sN sC)]<| N_op (some 7) (cS #[37,37] 37 #[vs (pa b) 0 0,vs (some a) sN sC]) _ (λ_=>by kernel_rfl) (bP (T:=154) (sz:=1) (bytes:=4) (zero:=(.int .u32 0:Value)) Tryz.underlying37 Tryz.underlying37 rfl (show Tryz.prog.info? 154=some Tryz.t154 from by kernel_rfl) (by kernel_rfl) (by kernel_rfl) (by decide) (by kernel_rfl) (by first | exact h | (simpa only[Value.cells,List.toList_toArray]using h))) ?_;clear h
 rintro _ H2 ⟨ap,d,rfl,h⟩
 refine⟨[(7,vs ap (0+sN) d)],pk,?_⟩
 exact T_nr 1 [2] [vs ap (0+sN) d] hQ h
end bE

/-! math/bits.Mul -/
namespace gy
def K0:=Func.code Tryz.f108
def K2:=cb K0
def K3:=ca K2
def K5:=ca K3
def K6:=cb K3
end gy
def gy.pt(x y:Int)(H:zW)(R:zv):Prop:=
 gl.C x y H (λv H1=> ∃ra rb:Int,v=.tuple #[.int .u64 ra,.int .u64 rb]/\
 R (.tuple #[.int .u64 ra,.int .u64 rb]) H1)
namespace gy
theorem link{x y:Int}{H:zW}{R:zv}(h:pt x y H R):C x y H R:=by
 refine T_en K0 30 Tryz.func108 ?_
 intro w0 Q hQ
 unfold pt at h
 refine T_su [(0,vu x),(1,vu y)]<| ar 0<| T_ed 2 [] []<| T_sz<| ka (.const (.bool false)) K5 K6 (by kernel_rfl) (by kernel_rfl)<| T_kt<| ar 3<| T_n 2 [(23,vu x),(24,vu y)]<| T_c (some 25) h ?_;clear h
 rintro v H1 ⟨ra,rb,rfl,h⟩
 refine⟨[(25,.tuple #[vu ra,vu rb])],pk,?_⟩
 exact T_ne 5 [(8,vu ra),(9,vu rb)]<| ar 4<| T_nr 4 [4,5] [vu ra,vu rb] hQ h
end gy

/-! math/bits.Mul32 -/
namespace gl
def K0:=Func.code Tryz.f148
end gl
def gl.pt(x y:Int)(H:zW)(R:zv):Prop:=
 R (.tuple #[.int .u64 (IntKind.wrap .u64 ((IntKind.wrap .u64 ((IntKind.wrap .u64 ((ishr .u64 x 32)*(ishr .u64 y 32)))+(ishr .u64 (IntKind.wrap .u64 ((IntKind.wrap .u64 ((ishr .u64 x 32)*(iand .u64 y 4294967295)))+(ishr .u64 (IntKind.wrap .u64 ((iand .u64 x 4294967295)*(iand .u64 y 4294967295))) 32))) 32)))+(ishr .u64 (IntKind.wrap .u64 ((iand .u64 (IntKind.wrap .u64 ((IntKind.wrap .u64 ((ishr .u64 x 32)*(iand .u64 y 4294967295)))+(ishr .u64 (IntKind.wrap .u64 ((iand .u64 x 4294967295)*(iand .u64 y 4294967295))) 32))) 4294967295)+(IntKind.wrap .u64 ((iand .u64 x 4294967295)*(ishr .u64 y 32))))) 32))),.int .u64 (IntKind.wrap .u64 (x*y))]) H
namespace gl
theorem link{x y:Int}{H:zW}{R:zv}(h:pt x y H R):C x y H R:=by
 refine T_en K0 51 Tryz.func148 ?_
 intro w0 Q hQ
 unfold pt at h
 exact T_su [(0,vu x),(1,vu y)]<| ar 0<| T_ed 2 [] []<| ar 1<| T_ed 3 [] [(6,vu (iand .u64 x 4294967295))]<| ar 2<| T_ed 3 [] [(7,vu (ishr .u64 x 32))]<| ar 3<| T_ed 3 [] [(8,vu (iand .u64 y 4294967295))]<| ar 4<| T_ed 3 [] [(9,vu (ishr .u64 y 32))]<| ar 5<| T_ed 4 [] [(10,vu (IntKind.wrap .u64 ((iand .u64 x 4294967295)*(iand .u64 y 4294967295))))]<| ar 6<| T_ed 7 [8,10] [(11,vu (IntKind.wrap .u64 ((IntKind.wrap .u64 ((ishr .u64 x 32)*(iand .u64 y 4294967295)))+(ishr .u64 (IntKind.wrap .u64 ((iand .u64 x 4294967295)*(iand .u64 y 4294967295))) 32))))]<| ar 7<| T_ed 3 [] [(12,vu (iand .u64 (IntKind.wrap .u64 ((IntKind.wrap .u64 ((ishr .u64 x 32)*(iand .u64 y 4294967295)))+(ishr .u64 (IntKind.wrap .u64 ((iand .u64 x 4294967295)*(iand .u64 y 4294967295))) 32))) 4294967295))]<| ar 8<| T_ed 3 [11] [(13,vu (ishr .u64 (IntKind.wrap .u64 ((IntKind.wrap .u64 ((ishr .u64 x 32)*(iand .u64 y 4294967295)))+(ishr .u64 (IntKind.wrap .u64 ((iand .u64 x 4294967295)*(iand .u64 y 4294967295))) 32))) 32))]<| ar 9<| T_ed 6 [6,12] [(12,vu (IntKind.wrap .u64 ((iand .u64 (IntKind.wrap .u64 ((IntKind.wrap .u64 ((ishr .u64 x 32)*(iand .u64 y 4294967295)))+(ishr .u64 (IntKind.wrap .u64 ((iand .u64 x 4294967295)*(iand .u64 y 4294967295))) 32))) 4294967295)+(IntKind.wrap .u64 ((iand .u64 x 4294967295)*(ishr .u64 y 32))))))]<| ar 10<| T_ed 9 [7,9,12,13] [(4,vu (IntKind.wrap .u64 ((IntKind.wrap .u64 ((IntKind.wrap .u64 ((ishr .u64 x 32)*(ishr .u64 y 32)))+(ishr .u64 (IntKind.wrap .u64 ((IntKind.wrap .u64 ((ishr .u64 x 32)*(iand .u64 y 4294967295)))+(ishr .u64 (IntKind.wrap .u64 ((iand .u64 x 4294967295)*(iand .u64 y 4294967295))) 32))) 32)))+(ishr .u64 (IntKind.wrap .u64 ((iand .u64 (IntKind.wrap .u64 ((IntKind.wrap .u64 ((ishr .u64 x 32)*(iand .u64 y 4294967295)))+(ishr .u64 (IntKind.wrap .u64 ((iand .u64 x 4294967295)*(iand .u64 y 4294967295))) 32))) 4294967295)+(IntKind.wrap .u64 ((iand .u64 x 4294967295)*(ishr .u64 y 32))))) 32))))]<| ar 11<| T_nr 4 [4,5] [vu (IntKind.wrap .u64 ((IntKind.wrap .u64 ((IntKind.wrap .u64 ((ishr .u64 x 32)*(ishr .u64 y 32)))+(ishr .u64 (IntKind.wrap .u64 ((IntKind.wrap .u64 ((ishr .u64 x 32)*(iand .u64 y 4294967295)))+(ishr .u64 (IntKind.wrap .u64 ((iand .u64 x 4294967295)*(iand .u64 y 4294967295))) 32))) 32)))+(ishr .u64 (IntKind.wrap .u64 ((iand .u64 (IntKind.wrap .u64 ((IntKind.wrap .u64 ((ishr .u64 x 32)*(iand .u64 y 4294967295)))+(ishr .u64 (IntKind.wrap .u64 ((iand .u64 x 4294967295)*(iand .u64 y 4294967295))) 32))) 4294967295)+(IntKind.wrap .u64 ((iand .u64 x 4294967295)*(ishr .u64 y 32))))) 32))),vu (IntKind.wrap .u64 (x*y))] hQ h
end gl

/-! (*moraine/space.Space).Copy -/
namespace eY
def K0:=Func.code Tryz.f72
def K2:=cb K0
def K4:=cb K2
def K11:=ca K4
end eY
def eY.pt(s:zY)(H:zW)(R:zv):Prop:=
 gk s (
 R (.pointer none) H) (λsA=>
 ∃x:zY,hat H sA=some (.pointer x)/\
 ∃d aa p m a l i ab k f j e u q y r o z n t:Int,aG H (sA.add 1) 0 [.int .i64 d,.int .i64 aa,.int .i64 p,.int .i64 m,.int .i64 a,.int .i64 l,.int .i64 i,.int .i64 ab,.int .i64 k,.int .i64 f,.int .i64 j,.int .i64 e,.int .i64 u,.int .i64 q,.int .i64 y,.int .i64 r,.int .i64 o,.int .i64 z,.int .i64 n,.int .i64 t]/\
 gU.C x H (λv H1=> ∃ac:zY,v=.pointer ac/\aG H1 (sA.add 1) 0 [.int .i64 d,.int .i64 aa,.int .i64 p,.int .i64 m,.int .i64 a,.int .i64 l,.int .i64 i,.int .i64 ab,.int .i64 k,.int .i64 f,.int .i64 j,.int .i64 e,.int .i64 u,.int .i64 q,.int .i64 y,.int .i64 r,.int .i64 o,.int .i64 z,.int .i64 n,.int .i64 t]/\
 ∀(b:Nat) (H2:zW),b=H1.size->H2=H1.push (.cells #[.pointer ac,.int .i64 d,.int .i64 aa,.int .i64 p,.int .i64 m,.int .i64 a,.int .i64 l,.int .i64 i,.int .i64 ab,.int .i64 k,.int .i64 f,.int .i64 j,.int .i64 e,.int .i64 u,.int .i64 q,.int .i64 y,.int .i64 r,.int .i64 o,.int .i64 z,.int .i64 n,.int .i64 t] 62)->
 R (.pointer (some (ad b))) H2))
namespace eY
set_option maxRecDepth 100000 in
theorem link{s:zY}{H:zW}{R:zv}(h:pt s H R):C s H R:=by
 refine T_en K0 16 Tryz.func72 ?_
 intro w0 Q hQ
 unfold pt at h
 refine T_su [(0,vp s)]<| ar 0<| T_ed 1 [] []<| T_sz<| ar 1<| T_nd 1 [] [(3,vp s)] ?_
 rcases s with _ | sA
 ·rw[onPtr_none]at h
  exact T_ne 1 [(0,vp none),(4,.bool true)]<| T_tz 4<| ar 2<| T_nr 1 [2] [vp none] hQ h
 rw[onPtr_some]at h
 refine T_ne 1 [(0,vp (some sA)),(4,.bool false)]<| T_fz 4<| T_kt<| T_sz ?_
 obtain⟨x,q1,d,aa,p,m,a,l,i,ab,k,f,j,e,u,q,y,r,o,z,n,t,q2,h⟩:=h
 refine yq 3 (Code.ops K11) [(4,sA,[vp x]),(10,(sA.add 1),[vi d,vi aa,vi p,vi m,vi a,vi l,vi i,vi ab,vi k,vi f,vi j,vi e,vi u,vi q,vi y,vi r,vi o,vi z,vi n,vi t])] 12 (bv 12 0) (show aK _ _ _ from⟨⟨q1,trivial⟩,q2,trivial⟩)<| T_gp 0 (some 5) (vp (some sA)) (bv 12 1) [(0,vp (some sA)),(5,vp (some sA))]<| aF 1 6 (vp (some sA)) (bv 12 3) [5]<| aF 2 7 (vp (some sA)) (bv 12 7) [6]<| T_g1 3 8 (vp x) (bv 12 15) [7] (aT 58 (vp (some sA))) (yY 4 yX)<| aF 5 10 (vp (some sA)) (bv 12 47) [0]<| aF 6 11 (vp (some sA)) (bv 12 111) [10]<| aF 7 12 (vp (some (sA.add 1))) (bv 12 239) [11]<| T_g1 8 13 (.agg #[vi d,vi aa,vi p,vi m,vi a,vi l,vi i,vi ab,vi k,vi f,vi j,vi e,vi u,vi q,vi y,vi r,vi o,vi z,vi n,vi t]) (bv 12 495) [12] (aT 60 (vp (some (sA.add 1)))) (iY 10 (λ_=>by kernel_rfl) (λ_=>by kernel_rfl) yQ (.inl (by kernel_rfl)))<| yx 4 (some 9) (bv 12 511) 113 #[vp x] h ?_;clear h
 rintro v H1 ⟨ac,rfl,f3,h⟩
 refine⟨[(9,vp ac),(13,.agg #[vi d,vi aa,vi p,vi m,vi a,vi l,vi i,vi ab,vi k,vi f,vi j,vi e,vi u,vi q,vi y,vi r,vi o,vi z,vi n,vi t])],pk,(show aK _ _ _ from⟨trivial,f3,trivial⟩),?_⟩
 refine T_g 9 (some 14) (.agg #[vp ac,vi d,vi aa,vi p,vi m,vi a,vi l,vi i,vi ab,vi k,vi f,vi j,vi e,vi u,vi q,vi y,vi r,vi o,vi z,vi n,vi t]) (bv 12 1023) [(14,.agg #[vp ac,vi d,vi aa,vi p,vi m,vi a,vi l,vi i,vi ab,vi k,vi f,vi j,vi e,vi u,vi q,vi y,vi r,vi o,vi z,vi n,vi t])] (pure (.value (.agg #[vp ac,vi d,vi aa,vi p,vi m,vi a,vi l,vi i,vi ab,vi k,vi f,vi j,vi e,vi u,vi q,vi y,vi r,vi o,vi z,vi n,vi t])):Sem Next) (λ_ _ _ _ _=>rfl)<| oG 10 (some 15) (bv 12 2047) (λb=>vp (pa b)) (.cells #[vp ac,vi d,vi aa,vi p,vi m,vi a,vi l,vi i,vi ab,vi k,vi f,vi j,vi e,vi u,vi q,vi y,vi r,vi o,vi z,vi n,vi t] 62) (by kernel_rfl) (λ_=>by kernel_rfl) (by kernel_rfl) ?_
 intro b H2 e4 e5
 replace h:=h b H2 e4 e5
 refine⟨[(15,vp (pa b))],pk,(show aK _ _ _ from⟨trivial,trivial,trivial⟩),?_⟩
 exact T_g 11 (some 2) (vp (pa b)) (bv 12 4095) [(2,vp (pa b))] (pure (.value (vp (pa b))):Sem Next) (λ_ _ _ _ _=>rfl)<| eI [(2,vp (pa b))] sk<| yz<| aE<| ie [2] [vp (pa b)] hQ h
end eY

/-! (*moraine/seg.Mem).Taken -/
namespace gu
def K0:=Func.code Tryz.f14
def K2:=cb K0
def K4:=cb K2
def K12:=cb K4
def K13:=ca K12
def K16:=cb K13
def K17:=ca K16
def K18:=ca K17
end gu
def gu.pt(m f:zY)(d e:Nat)(H:zW)(R:zv):Prop:=
 ∀(b:Nat) (H1:zW),b=H.size->H1=H.push (.cells #[.pointer m] 58)->
 ∃x:zY,hat H1 (ad b)=some (.pointer x)/\
 gk x (
 R (.slice none 0 0) H1) (λxA=>
 ∃ag:zY,hat H1 (ad b)=some (.pointer ag)/\
 ∃ae:Addr,ag=some ae/\
 ∃(xB:zY) (xN xC:Nat),hat H1 ae=some (.slice xB xN xC)/\
 ∃(s:zY->Nat->Nat->zw) (m19:zY->Nat->Nat->Int->zW->Nat),s none 0 0 0 H1/\ ∀(lB:zY) (lN:Nat) (lC:Nat) (s15:Int) (H2:zW),s lB lN lC s15 H2->
 if s15< (xN:Int)then(
 ∃af:zY,hat H2 (ad b)=some (.pointer af)/\
 ∃ac:Addr,af=some ac/\
 ∃(r:zY) (n o:Nat),hat H2 ac=some (.slice r n o)/\
 ∃j:Addr,r=some j/\
 yZ s15 n/\
 ∃q:Int,hat H2 ((j.add (Int.toNat s15*72)).add 7)=some (.int .i64 q)/\
 if q>0 then(
 if(d:Int)=0 then(
 ∀(ab:Nat) (H3:zW),ab=H2.size->H3=H2.push (.cells #[.int .i64 s15] 3)->
 bW 1 3 8 [.int .i64 0] lB lN lC (some (ad ab)) 1 H3 (λap y H4=>
 (s ap (lN+1) y (zq (s15+1)) H4/\m19 ap (lN+1) y (zq (s15+1)) H4<m19 lB lN lC s15 H2)))
 else
 ∃aa:Int,hat H2 (j.add (Int.toNat s15*72))=some (.int .i64 aa)/\
 cE.C f d e aa H2 (λv H5=> ∃u:Bool,v=.bool u/\
 if u=true then(
 ∀(z:Nat) (H6:zW),z=H5.size->H6=H5.push (.cells #[.int .i64 s15] 3)->
 bW 1 3 8 [.int .i64 0] lB lN lC (some (ad z)) 1 H6 (λp l H7=>
 (s p (lN+1) l (zq (s15+1)) H7/\m19 p (lN+1) l (zq (s15+1)) H7<m19 lB lN lC s15 H2)))
 else
 (s lB lN lC (zq (s15+1)) H5/\m19 lB lN lC (zq (s15+1)) H5<m19 lB lN lC s15 H2)))
 else
 (s lB lN lC (zq (s15+1)) H2/\m19 lB lN lC (zq (s15+1)) H2<m19 lB lN lC s15 H2))
 else
 slices_SortFunc_int_int.C lB lN lC (.func (.func 62) #[] #[.pointer (some (ad b))]) H2 (λ_ H8=>
 R (.slice lB lN lC) H8))
namespace gu
theorem link{m f:zY}{d e:Nat}{H:zW}{R:zv}(h:pt m f d e H R):C m f d e H R:=by
 refine T_en K0 52 Tryz.func14 ?_
 intro w0 Q hQ
 unfold pt zq at h
 refine T_su [(0,vp m),(1,vs f d e)]<| ar 0<| T_nw (some 2) (λb=>vp (pa b)) (.cells #[vp m] 58) ?_
 intro b H1 e1 e2
 replace h:=h b H1 e1 e2
 refine T_pd [0] [(2,vp (pa b))]<| T_ed 1 [] []<| T_sz<| ar 1 ?_
 obtain⟨x,q3,h⟩:=h
 refine T_l1 8 58 q3 [] ?_
 rcases x with _ | xA
 ·rw[onPtr_none]at h
  exact T_ed 1 [8] [(9,.bool true)]<| T_tz 9<| ar 2<| T_nr 1 [4] [vs none 0 0] hQ h
 rw[onPtr_some]at h
 refine T_ed 1 [8] [(9,.bool false)]<| T_fz 9<| T_kt<| ar 3<| T_ed 1 [9] [(5,vs none 0 0)]<| T_sz<| ar 4 ?_
 obtain⟨ag,q4,h⟩:=h
 refine T_l1 10 58 q4 [] ?_
 obtain⟨ae,rfl,h⟩:=h
 refine T_nd 2 [10] [(12,vp (some ae))] ?_
 obtain⟨xB,xN,xC,q5,h⟩:=h
 refine T_l1 13 121 q5 [12]<| T_ed 2 [13] [(14,vi xN),(15,vi 0)]<| T_bz 0 ?_
 obtain⟨s,m19,i6,i7⟩:=h
 refine dS (x:=K18) (σ:=zY×Nat×Nat×Int) (λs_=> [(1,vs f d e),(2,vp (pa b)),(5,vs s_.1 s_.2.1 s_.2.2.1),(14,vi xN),(15,vi s_.2.2.2)]) (λs_ H=>s s_.1 s_.2.1 s_.2.2.1 s_.2.2.2 H) (λs_ H=>m19 s_.1 s_.2.1 s_.2.2.1 s_.2.2.2 H) ((none,0,0,0):zY×Nat×Nat×Int) (by kernel_rfl) i6 sk ?_
 rintro⟨lB,lN,lC,s15⟩ H2 i8
 have h:=i7 lB lN lC s15 H2 i8
 refine T_su [(1,vs f d e),(2,vp (pa b)),(5,vs lB lN lC),(14,vi xN),(15,vi s15)]<| ar 5<| T_ed 1 [] [(16,.bool (decide (s15< (xN:Int))))]<| T_sz ?_
 by_cases c9:s15< (xN:Int)
 ·rw[if_pos c9]at h
  refine aH 16 (zQ c9)<| T_kt<| T_sz<| T_bz 1<| ar 6<| T_ed 2 [16] [(6,vi s15)]<| ar 7 ?_
  obtain⟨af,q11,h⟩:=h
  refine T_l1 18 58 q11 [] ?_
  obtain⟨ac,rfl,h⟩:=h
  refine T_nd 2 [18] [(20,vp (some ac))] ?_
  obtain⟨r,n,o,q12,h⟩:=h
  refine T_l1 21 121 q12 [20]<| T_nd 1 [] [(22,vi s15)] ?_
  obtain⟨j,rfl,q13,h⟩:=h
  refine T_xd (some 23) 121 127 72 j n o .i64 s15 Tryz.underlying121 q13.1 q13.2 [21,22] [(23,vp (some (j.add (Int.toNat s15*72))))]<| T_ed 1 [23] [(7,vp (some (j.add (Int.toNat s15*72))))]<| ar 8<| T_nd 3 [] [(26,vp (some ((j.add (Int.toNat s15*72)).add 7)))] ?_
  obtain⟨q,q14,h⟩:=h
  refine T_l1 27 3 q14 [26]<| T_nd 2 [27] [(29,.bool (decide (q>0)))] ?_
  by_cases c15:q>0
  ·rw[if_pos c15]at h
   refine N_bd 29 (zQ c15)<| T_nd 4 [] [(33,.bool ((d:Int)==0))] ?_
   by_cases c17:(d:Int)=0
   ·rw[if_pos c17]at h
    refine N_bd 33 (zV c17)<| T_ed 9 [7,29,33] [(42,.bool true)]<| T_tz 42<| T_rz 9<| T_nd 2 [5,6,42] [(43,vs lB lN lC),(44,vi s15)]<| T_nw (some 45) (λb=>vs (pa b) 1 1) (.cells #[vi s15] 3) ?_
    intro ab H3 e19 e20
    replace h:=h ab H3 e19 e20
    refine T_pd [44] [(45,vs (pa ab) 1 1)]<| N_op (some 46) (cS #[49,49] 49 #[vs lB lN lC,vs (pa ab) 1 1]) _ (λ_=>by kernel_rfl) (bP (T:=3) (sz:=1) (bytes:=8) (zero:=(vi 0:Value)) Tryz.underlying49 Tryz.underlying49 rfl (show Tryz.prog.info? 3=some Tryz.t3 from by kernel_rfl) (by kernel_rfl) (by kernel_rfl) (by decide) (by kernel_rfl) (by first | exact h | (simpa only[Value.cells,List.toList_toArray]using h))) ?_;clear h
    rintro _ H4 ⟨ap,y,rfl,h⟩
    exact T_pd [43,45] [(46,vs ap (lN+1) y)]<| T_nd 1 [46] [(5,vs ap (lN+1) y)]<| zx<| aL<| aE<| T_rz 10<| T_ed 2 [15] [(15,vi (zq (s15+1)))]<| bG ((ap,(lN+1),y,(zq (s15+1))):zY×Nat×Nat×Int) sk h
   rw[if_neg c17]at h
   refine N_bd 33 (zK c17)<| T_nd 5 [7] [(34,vs f d e),(38,vp (some (j.add (Int.toNat s15*72))))] ?_
   obtain⟨aa,q21,h⟩:=h
   refine T_l1 39 3 q21 [38]<| T_c (some 40) h ?_;clear h
   rintro v H5 ⟨u,rfl,h⟩
   refine T_pd [34,39] [(40,.bool u)]<| T_ed 2 [29,33,40] [(42,.bool u)] ?_
   by_cases c22:u=true
   ·rw[if_pos c22]at h
    refine aH 42 c22<| T_rz 9<| T_nd 2 [5,6,42] [(43,vs lB lN lC),(44,vi s15)]<| T_nw (some 45) (λb=>vs (pa b) 1 1) (.cells #[vi s15] 3) ?_
    intro z H6 e24 e25
    replace h:=h z H6 e24 e25
    refine T_pd [44] [(45,vs (pa z) 1 1)]<| N_op (some 46) (cS #[49,49] 49 #[vs lB lN lC,vs (pa z) 1 1]) _ (λ_=>by kernel_rfl) (bP (T:=3) (sz:=1) (bytes:=8) (zero:=(vi 0:Value)) Tryz.underlying49 Tryz.underlying49 rfl (show Tryz.prog.info? 3=some Tryz.t3 from by kernel_rfl) (by kernel_rfl) (by kernel_rfl) (by decide) (by kernel_rfl) (by first | exact h | (simpa only[Value.cells,List.toList_toArray]using h))) ?_;clear h
    rintro _ H7 ⟨p,l,rfl,h⟩
    exact T_pd [43,45] [(46,vs p (lN+1) l)]<| T_nd 1 [46] [(5,vs p (lN+1) l)]<| zx<| aL<| aE<| T_rz 10<| T_ed 2 [15] [(15,vi (zq (s15+1)))]<| bG ((p,(lN+1),l,(zq (s15+1))):zY×Nat×Nat×Int) sk h
   rw[if_neg c22]at h
   exact aI 42 (zZ c22)<| T_k<| aL<| aE<| T_rz 10<| T_ed 2 [6,15,42] [(15,vi (zq (s15+1)))]<| bG ((lB,lN,lC,(zq (s15+1))):zY×Nat×Nat×Int) sk h
  rw[if_neg c15]at h
  refine N_bd 29 (zJ c15)<| T_ed 13 [7,29] [(42,.bool false)]<| T_fz 42<| T_k ?_
  exact aL<| aE<| T_rz 10<| T_ed 2 [6,15,42] [(15,vi (zq (s15+1)))]<| bG ((lB,lN,lC,(zq (s15+1))):zY×Nat×Nat×Int) sk h
 rw[if_neg c9]at h
 refine aI 16 (zJ c9)<| zk 0<| aD<| aD<| aR<| aE<| ar 11<| T_n 2 [(5,vs lB lN lC),(48,vs lB lN lC),(49,.func (.func 62) #[] #[vp (pa b)])]<| T_c (some 50) h ?_;clear h
 intro v_2 H8 h
 exact T_pd [48,49] []<| T_e<| ar 12<| T_nr 2 [4] [vs lB lN lC] hQ h
end gu

/-! (*moraine/seg.Mem).Free -/
namespace gQ
def K0:=Func.code Tryz.f17
end gQ
def gQ.pt(m:zY)(H:zW)(R:zv):Prop:=
 gk m (
 R (.int .i64 0) H) (λmA=>
 ∃x:Int,hat H (mA.add 2)=some (.int .i64 x)/\
 R (.int .i64 x) H)
namespace gQ
theorem link{m:zY}{H:zW}{R:zv}(h:pt m H R):C m H R:=by
 refine T_en K0 9 Tryz.func17 ?_
 intro w0 Q hQ
 unfold pt at h
 refine T_su [(0,vp m)]<| ar 0<| T_ed 1 [] []<| T_sz<| ar 1<| T_nd 1 [] [(3,vp m)] ?_
 rcases m with _ | mA
 ·rw[onPtr_none]at h
  exact T_ne 1 [(0,vp none),(4,.bool true)]<| T_tz 4<| ar 2<| T_nr 1 [2] [vi 0] hQ h
 rw[onPtr_some]at h
 refine T_ne 1 [(0,vp (some mA)),(4,.bool false)]<| T_fz 4<| T_kt<| ar 3<| T_n 3 [(7,vp (some (mA.add 2)))] ?_
 obtain⟨x,q1,h⟩:=h
 exact T_l1 8 3 q1 [7]<| T_nr 1 [2] [vi x] hQ h
end gQ

/-! (*moraine/seg.Mem).Taken.1 -/
namespace gK
def K0:=Func.code Tryz.f62
def K2:=cb K0
def K3:=ca K2
end gK
def gK.pt(a b:Int)(p:zY)(H:zW)(R:zv):Prop:=
 ∃d:Addr,p=some d/\
 ∃x:zY,hat H d=some (.pointer x)/\
 ∃xA:Addr,x=some xA/\
 ∃(xB:zY) (xN xC:Nat),hat H xA=some (.slice xB xN xC)/\
 ∃f:Addr,xB=some f/\
 yZ a xN/\
 ∃j:Int,hat H ((f.add (Int.toNat a*72)).add 7)=some (.int .i64 j)/\
 ∃s:zY,hat H d=some (.pointer s)/\
 ∃l:Addr,s=some l/\
 ∃(r:zY) (m n:Nat),hat H l=some (.slice r m n)/\
 ∃e:Addr,r=some e/\
 yZ b m/\
 ∃q:Int,hat H ((e.add (Int.toNat b*72)).add 7)=some (.int .i64 q)/\
 cmp_Compare_int.C j q H (λv H1=> ∃o:Int,v=.int .i64 o/\
 R (.int .i64 o) H1)
namespace gK
theorem link{a b:Int}{p:zY}{H:zW}{R:zv}(h:pt a b p H R):C a b p H R:=by
 refine T_en K0 23 Tryz.func62 ?_
 intro w0 Q hQ
 unfold pt at h
 refine T_su [(0,vi a),(1,vi b),(2,vp p)]<| ar 0<| T_ed 1 [] []<| T_sz ?_
 obtain⟨d,rfl,x,q1,xA,rfl,xB,xN,xC,q2,f,rfl,q3,j,q4,s,q5,l,rfl,r,m,n,q6,e,rfl,q7,q,q8,h⟩:=h
 refine yq 1 (Code.ops K3) [(16,d,[vp (some xA)]),(16,xA,[vs (some f) xN xC]),(16,((f.add (Int.toNat a*72)).add 7),[vi j]),(16,d,[vp (some l)]),(16,l,[vs (some e) m n]),(16,((e.add (Int.toNat b*72)).add 7),[vi q])] 18 (bv 18 0) (show aK _ _ _ from⟨⟨q1,trivial⟩,⟨q2,trivial⟩,⟨q4,trivial⟩,⟨q5,trivial⟩,⟨q6,trivial⟩,⟨q8,trivial⟩,trivial⟩)<| T_g 0 (some 6) (vp (some xA)) (bv 18 1) [(0,vi a),(1,vi b),(2,vp (some d)),(6,vp (some xA))] (aT 58 (vp (some d))) (yY 16 yX)<| aF 1 7 (vp (some xA)) (bv 18 3) [6]<| aF 2 8 (vp (some xA)) (bv 18 7) [7]<| T_g1 3 9 (vs (some f) xN xC) (bv 18 15) [8] (aT 121 (vp (some xA))) (yY 16 yQ)<| aF 4 10 (vi a) (bv 18 31) [0]<| T_g1 5 11 (vp (some (f.add (Int.toNat a*72)))) (bv 18 63) [9,10] (bD 121 (vs (some f) xN xC) (vi a)) (λ_ w _ _ _=>bR (P:=Tryz.prog) (t:=121) (elem:=127) (sz:=72) (a:=f) (len:=xN) (cap:=xC) (k:=.i64) (i:=a) Tryz.underlying121 (λ_=>by kernel_rfl) q3.1 q3.2 w)<| aF 6 12 (vp (some ((f.add (Int.toNat a*72)).add 7))) (bv 18 127) [11]<| T_g1 7 13 (vi j) (bv 18 255) [12] (aT 3 (vp (some ((f.add (Int.toNat a*72)).add 7)))) (yY 16 yJ)<| T_g1 8 14 (vp (some l)) (bv 18 511) [2] (aT 58 (vp (some d))) (yY 16 yK)<| aF 9 15 (vp (some l)) (bv 18 1023) [14]<| aF 10 16 (vp (some l)) (bv 18 2047) [15]<| T_g1 11 17 (vs (some e) m n) (bv 18 4095) [16] (aT 121 (vp (some l))) (yY 16 yV)<| aF 12 18 (vi b) (bv 18 8191) [1]<| T_g1 13 19 (vp (some (e.add (Int.toNat b*72)))) (bv 18 16383) [17,18] (bD 121 (vs (some e) m n) (vi b)) (λ_ w _ _ _=>bR (P:=Tryz.prog) (t:=121) (elem:=127) (sz:=72) (a:=e) (len:=m) (cap:=n) (k:=.i64) (i:=b) Tryz.underlying121 (λ_=>by kernel_rfl) q7.1 q7.2 w)<| aF 14 20 (vp (some ((e.add (Int.toNat b*72)).add 7))) (bv 18 32767) [19]<| T_g1 15 21 (vi q) (bv 18 65535) [20] (aT 3 (vp (some ((e.add (Int.toNat b*72)).add 7)))) (yY 16 yW)<| yx 16 (some 22) (bv 18 131071) 63 #[vi j,vi q] h ?_;clear h
 rintro v H1 ⟨o,rfl,h⟩
 refine⟨[(22,vi o)],pk,(show aK _ _ _ from⟨trivial,trivial,trivial,trivial,trivial,trivial,trivial⟩),?_⟩
 exact T_g 17 (some 5) (vi o) (bv 18 262143) [(5,vi o)] (pure (.value (vi o)):Sem Next) (λ_ _ _ _ _=>rfl)<| eI [(5,vi o)] sk<| yz<| aE<| ie [5] [vi o] hQ h
end gK

/-! (*moraine/seg.Mem).Copy -/
namespace gU
def K0:=Func.code Tryz.f113
def K2:=cb K0
def K4:=cb K2
def K11:=ca K4
end gU
def gU.pt(m:zY)(H:zW)(R:zv):Prop:=
 gk m (
 R (.pointer none) H) (λmA=>
 ∃(xB:zY) (xN xC:Nat),hat H mA=some (.slice xB xN xC)/\
 ∃x:Int,hat H (mA.add 1)=some (.int .i64 x)/\
 ∃a:Int,hat H (mA.add 2)=some (.int .i64 a)/\
 aV.C xB xN xC H (λv H1=> ∃(f:zY) (e d:Nat),v=.slice f e d/\aG H1 (mA.add 1) 0 [.int .i64 x]/\aG H1 (mA.add 2) 0 [.int .i64 a]/\
 ∀(b:Nat) (H2:zW),b=H1.size->H2=H1.push (.cells #[.slice f e d,.int .i64 x,.int .i64 a] 123)->
 R (.pointer (some (ad b))) H2))
namespace gU
theorem link{m:zY}{H:zW}{R:zv}(h:pt m H R):C m H R:=by
 refine T_en K0 20 Tryz.func113 ?_
 intro w0 Q hQ
 unfold pt at h
 refine T_su [(0,vp m)]<| ar 0<| T_ed 1 [] []<| T_sz<| ar 1<| T_nd 1 [] [(3,vp m)] ?_
 rcases m with _ | mA
 ·rw[onPtr_none]at h
  exact T_ne 1 [(0,vp none),(4,.bool true)]<| T_tz 4<| ar 2<| T_nr 1 [2] [vp none] hQ h
 rw[onPtr_some]at h
 refine T_ne 1 [(0,vp (some mA)),(4,.bool false)]<| T_fz 4<| T_kt<| T_sz ?_
 obtain⟨xB,xN,xC,q1,x,q2,a,q3,h⟩:=h
 refine yq 3 (Code.ops K11) [(4,mA,[vs xB xN xC]),(14,(mA.add 1),[vi x]),(14,(mA.add 2),[vi a])] 16 (bv 16 0) (show aK _ _ _ from⟨⟨q1,trivial⟩,⟨q2,trivial⟩,⟨q3,trivial⟩,trivial⟩)<| T_gp 0 (some 5) (vp (some mA)) (bv 16 1) [(0,vp (some mA)),(5,vp (some mA))]<| aF 1 6 (vp (some mA)) (bv 16 3) [5]<| aF 2 7 (vp (some mA)) (bv 16 7) [6]<| T_g1 3 8 (vs xB xN xC) (bv 16 15) [7] (aT 121 (vp (some mA))) (yY 4 yX)<| aF 5 10 (vp (some mA)) (bv 16 47) []<| aF 6 11 (vp (some mA)) (bv 16 111) [10]<| aF 7 12 (vp (some (mA.add 1))) (bv 16 239) [11]<| T_g1 8 13 (vi x) (bv 16 495) [12] (aT 3 (vp (some (mA.add 1)))) (yY 14 yQ)<| aF 9 14 (vp (some mA)) (bv 16 1007) [0]<| aF 10 15 (vp (some mA)) (bv 16 2031) [14]<| aF 11 16 (vp (some (mA.add 2))) (bv 16 4079) [15]<| T_g1 12 17 (vi a) (bv 16 8175) [16] (aT 3 (vp (some (mA.add 2)))) (yY 14 yJ)<| yx 4 (some 9) (bv 16 8191) 149 #[vs xB xN xC] h ?_;clear h
 rintro v H1 ⟨f,e,d,rfl,f4,f5,h⟩
 refine⟨[(9,vs f e d),(13,vi x),(17,vi a)],pk,(show aK _ _ _ from⟨trivial,f4,f5,trivial⟩),?_⟩
 refine T_g 13 (some 18) (.agg #[vs f e d,vi x,vi a]) (bv 16 16383) [(18,.agg #[vs f e d,vi x,vi a])] (pure (.value (.agg #[vs f e d,vi x,vi a])):Sem Next) (λ_ _ _ _ _=>rfl)<| oG 14 (some 19) (bv 16 32767) (λb=>vp (pa b)) (.cells #[vs f e d,vi x,vi a] 123) (by kernel_rfl) (λ_=>by kernel_rfl) (by kernel_rfl) ?_
 intro b H2 e6 e7
 replace h:=h b H2 e6 e7
 refine⟨[(19,vp (pa b))],pk,(show aK _ _ _ from⟨trivial,trivial,trivial,trivial⟩),?_⟩
 exact T_g 15 (some 2) (vp (pa b)) (bv 16 65535) [(2,vp (pa b))] (pure (.value (vp (pa b))):Sem Next) (λ_ _ _ _ _=>rfl)<| eI [(2,vp (pa b))] sk<| yz<| aE<| ie [2] [vp (pa b)] hQ h
end gU

/-! (*moraine/card.Cards).Copy -/
namespace fP
def K0:=Func.code Tryz.f28
end fP
def fP.pt(c:zY)(H:zW)(R:zv):Prop:=
 gk c (
 R (.pointer none) H) (λcA=>
 ∃x:zY,hat H cA=some (.pointer x)/\
 eY.C x H (λv H1=> ∃a:zY,v=.pointer a/\
 ∀(b:Nat) (H2:zW),b=H1.size->H2=H1.push (.cells #[.pointer a] 57)->
 R (.pointer (some (ad b))) H2))
namespace fP
set_option maxRecDepth 100000 in
theorem link{c:zY}{H:zW}{R:zv}(h:pt c H R):C c H R:=by
 refine T_en K0 12 Tryz.func28 ?_
 intro w0 Q hQ
 unfold pt at h
 refine T_su [(0,vp c)]<| ar 0<| T_ed 1 [] []<| T_sz<| ar 1<| T_nd 1 [] [(3,vp c)] ?_
 rcases c with _ | cA
 ·rw[onPtr_none]at h
  exact T_ne 1 [(0,vp none),(4,.bool true)]<| T_tz 4<| ar 2<| T_nr 1 [2] [vp none] hQ h
 rw[onPtr_some]at h
 refine T_ne 1 [(0,vp (some cA)),(4,.bool false)]<| T_fz 4<| T_kt<| ar 3<| T_n 3 [(7,vp (some cA))] ?_
 obtain⟨x,q1,h⟩:=h
 refine T_l1 8 55 q1 [7]<| T_c (some 9) h ?_;clear h
 rintro v H1 ⟨a,rfl,h⟩
 refine⟨[(9,vp a)],pk,?_⟩
 refine T_n 1 [(10,.agg #[vp a])]<| T_nw (some 11) (λb=>vp (pa b)) (.cells #[vp a] 57) ?_
 intro b H2 e2 e3
 replace h:=h b H2 e2 e3
 refine⟨[(11,vp (pa b))],pk,?_⟩
 exact T_nr 1 [2] [vp (pa b)] hQ h
end fP

/-! moraine/morainelaw10.many -/
namespace eK
def K0:=Func.code Tryz.f4
def K2:=cb K0
def K4:=cb K2
def K11:=ca K4
def K14:=cb K11
def K15:=ca K14
def K16:=ca K15
end eK
def eK.pt(lB:zY)(lN lC:Nat)(H:zW)(R:zv):Prop:=
 if(lN:Int)>200 then(
 R (.bool true) H)
 else
 ∃(j:zw) (m17:Int->zW->Nat),j 0 H/\ ∀(i:Int) (H1:zW),j i H1->
 if i< (lN:Int)then(
 ∃b:Addr,lB=some b/\
 yZ i lN/\
 ∃(xB:zY) (xN xC:Nat),hat H1 ((b.add (Int.toNat i*12)).add 8)=some (.slice xB xN xC)/\
 if(xN:Int)>200 then(
 R (.bool true) H1)
 else
 yZ i lN/\
 ∃x:ByteArray,hat H1 ((b.add (Int.toNat i*12)).add 9)=some (.string x)/\
 if(x.size:Int)>1000 then(
 R (.bool true) H1)
 else
 yZ i lN/\
 ∃(f:zY) (d e:Nat),hat H1 (((b.add (Int.toNat i*12)).add 10).add 1)=some (.slice f d e)/\
 if(d:Int)>60 then(
 R (.bool true) H1)
 else
 (j (zq (i+1)) H1/\m17 (zq (i+1)) H1<m17 i H1))
 else
 R (.bool false) H1
namespace eK
set_option maxRecDepth 100000 in
theorem link{lB:zY}{lN lC:Nat}{H:zW}{R:zv}(h:pt lB lN lC H R):C lB lN lC H R:=by
 refine T_en K0 39 Tryz.func4 ?_
 intro w0 Q hQ
 unfold pt zq at h
 refine T_su [(0,vs lB lN lC)]<| ar 0<| T_ed 1 [] []<| T_sz<| ar 1<| T_ed 3 [] [(6,.bool (decide ((lN:Int)>200)))] ?_
 by_cases c1:(lN:Int)>200
 ·rw[if_pos c1]at h
  exact aH 6 (zQ c1)<| ar 2<| T_nr 1 [2] [.bool true] hQ h
 rw[if_neg c1]at h
 refine aI 6 (zJ c1)<| T_kt<| T_sz<| ar 3<| T_ed 1 [6] [(3,vi 0)]<| T_bz 0 ?_
 obtain⟨j,m17,i3,i4⟩:=h
 refine dS (x:=K16) (σ:=Int) (λs_=> [(0,vs lB lN lC),(3,vi s_)]) (λs_ H=>j s_ H) (λs_ H=>m17 s_ H) (0:Int) (by kernel_rfl) i3 sk ?_
 rintro i H1 i5
 have h:=i4 i H1 i5
 refine T_su [(0,vs lB lN lC),(3,vi i)]<| T_sz<| ar 4<| T_ed 4 [] [(10,.bool (decide (i< (lN:Int))))] ?_
 by_cases c6:i< (lN:Int)
 ·rw[if_pos c6]at h
  refine aH 10 (zQ c6)<| T_kt<| T_sz<| T_bz 1<| ar 6<| T_nd 2 [10] [(13,vs lB lN lC),(14,vi i)] ?_
  obtain⟨b,rfl,q8,h⟩:=h
  refine T_ix (some 15) 22 41 12 b lN lC .i64 i Tryz.underlying22 q8.1 q8.2 [(0,vs (some b) lN lC),(3,vi i),(15,vp (some (b.add (Int.toNat i*12))))]<| T_nd 1 [15] [(16,vp (some ((b.add (Int.toNat i*12)).add 8)))] ?_
  obtain⟨xB,xN,xC,q9,h⟩:=h
  refine T_l1 17 36 q9 [16]<| T_nd 3 [17] [(20,.bool (decide ((xN:Int)>200)))] ?_
  by_cases c10:(xN:Int)>200
  ·rw[if_pos c10]at h
   exact N_bd 20 (zQ c10)<| T_ed 18 [20] [(38,.bool true)]<| T_tz 38<| ar 7<| T_nr 1 [2] [.bool true] hQ h
  rw[if_neg c10]at h
  refine N_bd 20 (zJ c10)<| T_nd 2 [] [(21,vs (some b) lN lC),(22,vi i)] ?_
  obtain⟨q12,h⟩:=h
  refine T_xd (some 23) 22 41 12 b lN lC .i64 i Tryz.underlying22 q12.1 q12.2 [21,22] [(23,vp (some (b.add (Int.toNat i*12))))]<| T_nd 1 [23] [(24,vp (some ((b.add (Int.toNat i*12)).add 9)))] ?_
  obtain⟨x,q13,h⟩:=h
  refine T_l1 25 9 q13 [24]<| T_nd 4 [20,25] [(29,.bool (decide ((x.size:Int)>1000)))] ?_
  by_cases c14:(x.size:Int)>1000
  ·rw[if_pos c14]at h
   exact N_bd 29 (zQ c14)<| T_ed 9 [29] [(38,.bool true)]<| T_tz 38<| ar 7<| T_nr 1 [2] [.bool true] hQ h
  rw[if_neg c14]at h
  refine N_bd 29 (zJ c14)<| T_nd 2 [] [(30,vs (some b) lN lC),(31,vi i)] ?_
  obtain⟨q16,h⟩:=h
  refine T_xd (some 32) 22 41 12 b lN lC .i64 i Tryz.underlying22 q16.1 q16.2 [30,31] [(32,vp (some (b.add (Int.toNat i*12))))]<| T_nd 2 [32] [(34,vp (some (((b.add (Int.toNat i*12)).add 10).add 1)))] ?_
  obtain⟨f,d,e,q17,h⟩:=h
  refine T_l1 35 37 q17 [34]<| T_ed 3 [29,35] [(38,.bool (decide ((d:Int)>60)))] ?_
  by_cases c18:(d:Int)>60
  ·rw[if_pos c18]at h
   exact aH 38 (zQ c18)<| ar 7<| T_nr 1 [2] [.bool true] hQ h
  rw[if_neg c18]at h
  exact aI 38 (zJ c18)<| T_k<| aL<| aE<| T_rz 5<| T_ed 3 [3,38] [(3,vi (zq (i+1)))]<| bG ((zq (i+1)):Int) sk h
 rw[if_neg c6]at h
 exact aI 10 (zJ c6)<| zk 0<| aD<| aD<| aR<| aE<| ar 8<| T_nr 1 [2] [.bool false] hQ h
end eK

/-! moraine/morainelaw10.word -/
namespace dC
def K0:=Func.code Tryz.f33
end dC
def dC.pt(vW o:Int)(f:zY)(d e:Nat)(H:zW)(R:zv):Prop:=
 ∀(b:Nat) (H1:zW),b=H.size->H1=H.push (.cells #[.int .u64 vW,.int .i64 o] 35)->
 ∃x:Int,hat H1 ((ad b).add 1)=some (.int .i64 x)/\
 if((decide (x>0)) && (decide ((d:Int)>0)))=true then(
 ∃j:Int,hat H1 ((ad b).add 1)=some (.int .i64 j)/\
 ((d:Int)≠0)/\
 ∃l:Addr,f=some l/\
 ((0:Int)<=(Int.tmod (zq (j-1)) (d:Int))/\(Int.tmod (zq (j-1)) (d:Int))< (d:Int))/\
 ∃m:Int,hat H1 (l.add (Int.toNat (Int.tmod (zq (j-1)) (d:Int))*1))=some (.int .u64 m)/\
 R (.int .u64 m) H1)
 else
 ∃n:Int,hat H1 (ad b)=some (.int .u64 n)/\
 R (.int .u64 n) H1
namespace dC
set_option maxRecDepth 100000 in
theorem link{vW o:Int}{f:zY}{d e:Nat}{H:zW}{R:zv}(h:pt vW o f d e H R):C vW o f d e H R:=by
 refine T_en K0 24 Tryz.func33 ?_
 intro w0 Q hQ
 unfold pt zq at h
 refine T_su [(0,.agg #[vu vW,vi o]),(1,vs f d e)]<| ar 0<| T_nw (some 2) (λb=>vp (pa b)) (.cells #[vu vW,vi o] 35) ?_
 intro b H1 e1 e2
 replace h:=h b H1 e1 e2
 refine T_pd [0] [(2,vp (pa b))]<| T_ed 1 [] []<| T_sz<| ar 1<| T_nd 1 [] [(5,vp (some ((ad b).add 1)))] ?_
 obtain⟨x,q3,h⟩:=h
 refine T_l1 6 3 q3 [5]<| T_nd 2 [6] [(8,.bool (decide (x>0)))] ?_
 refine gp [(1,vs f d e),(2,vp (pa b)),(12,.bool ((decide (x>0)) && (decide ((d:Int)>0))))] ?_ ?_
 ·refine aE ?_
  by_cases c6:((decide (x>0)) && (decide ((d:Int)>0)))=true
  ·rw[if_pos c6]at h
   refine aH 12 c6<| ar 2<| T_n 2 [(1,vs f d e),(13,vs f d e),(14,vp (some ((ad b).add 1)))] ?_
   obtain⟨j,q8,h⟩:=h
   refine T_l1 15 3 q8 [14]<| T_nd 3 [1,15] [(16,vi (zq (j-1))),(18,vi d)] ?_
   obtain⟨q9,h⟩:=h
   refine T_v1 19 (binN .rem 3 (vi (zq (j-1))) (vi d)) (vi (Int.tmod (zq (j-1)) (d:Int))) (λw _=>sE (P:=Tryz.prog) (t:=3) (k:=.i64) (x:=(zq (j-1))) (y:=(d:Int)) q9 w) [16,18] ?_
   obtain⟨l,rfl,q10,h⟩:=h
   refine T_ix (some 20) 31 33 1 l d e .i64 (Int.tmod (zq (j-1)) (d:Int)) Tryz.underlying31 q10.1 q10.2 [(20,vp (some (l.add (Int.toNat (Int.tmod (zq (j-1)) (d:Int))*1))))] ?_
   obtain⟨m,q11,h⟩:=h
   exact T_l1 21 33 q11 [20]<| T_nr 1 [4] [vu m] hQ h
  rw[if_neg c6]at h
  refine aI 12 (zZ c6)<| T_kt<| ar 3<| T_n 1 [(22,vp (pa b))] ?_
  obtain⟨n,q12,h⟩:=h
  exact T_l1 23 33 q12 [22]<| T_nr 1 [4] [vu n] hQ h
 intro hk
 refine T_nu [(1,vs f d e),(2,vp (pa b)),(8,.bool (decide (x>0)))] ?_
 by_cases c4:x>0
 ·have b5:(decide (x>0))=true:=zQ c4
  refine bV [(1,vs f d e),(2,vp (pa b)),(8,.bool true)] (by rw[b5]) ?_
  refine T_nd 4 [8] [(12,.bool (decide ((d:Int)>0)))]<| zx<| S_bd 12 (b:=(decide ((d:Int)>0))) (v:=((decide (x>0)) && (decide ((d:Int)>0)))) (by simp only[b5,BL]) ?_
  exact hk
 have b5:(decide (x>0))=false:=zJ c4
 refine bV [(1,vs f d e),(2,vp (pa b)),(8,.bool false)] (by rw[b5]) ?_
 refine T_nd 4 [8] [(12,.bool false)]<| zx<| S_bd 12 (b:=false) (v:=((decide (x>0)) && (decide ((d:Int)>0)))) (by simp only[b5,BL]) ?_
 exact hk
end dC

/-! moraine/morainelaw10.words -/
namespace dV
def K0:=Func.code Tryz.f36
def K2:=cb K0
def K4:=cb K2
def K5:=ca K4
def K8:=cb K5
def K9:=ca K8
def K10:=ca K9
end dV
def dV.pt(lB:zY)(lN lC:Nat)(d:zY)(f e:Nat)(H:zW)(R:zv):Prop:=
 ∃(o:zY->Nat->Nat->zw) (m11:zY->Nat->Nat->Int->zW->Nat),o none 0 0 0 H/\ ∀(j:zY) (outN:Nat) (outC:Nat) (i:Int) (H1:zW),o j outN outC i H1->
 if i< (lN:Int)then(
 ∃l:Addr,lB=some l/\
 yZ i lN/\
 ∃xW m:Int,aG H1 (l.add (Int.toNat i*2)) 0 [.int .u64 xW,.int .i64 m]/\
 dC.C xW m d f e H1 (λv H2=> ∃x:Int,v=.int .u64 x/\
 ∀(b:Nat) (H3:zW),b=H2.size->H3=H2.push (.cells #[.int .u64 x] 33)->
 bW 1 33 8 [.int .u64 0] j outN outC (some (ad b)) 1 H3 (λap n H4=>
 (o ap (outN+1) n (zq (i+1)) H4/\m11 ap (outN+1) n (zq (i+1)) H4<m11 j outN outC i H1))))
 else
 R (.slice j outN outC) H1
namespace dV
set_option maxRecDepth 100000 in
theorem link{lB:zY}{lN lC:Nat}{d:zY}{f e:Nat}{H:zW}{R:zv}(h:pt lB lN lC d f e H R):C lB lN lC d f e H R:=by
 refine T_en K0 23 Tryz.func36 ?_
 intro w0 Q hQ
 unfold pt zq at h
 refine T_su [(0,vs lB lN lC),(1,vs d f e)]<| ar 0<| T_ed 1 [] []<| ar 1<| T_ed 1 [] [(5,vs none 0 0)]<| T_sz<| ar 2<| T_ed 1 [] [(6,vi 0)]<| T_bz 0 ?_
 obtain⟨o,m11,i1,i2⟩:=h
 refine dS (x:=K10) (σ:=zY×Nat×Nat×Int) (λs_=> [(0,vs lB lN lC),(1,vs d f e),(5,vs s_.1 s_.2.1 s_.2.2.1),(6,vi s_.2.2.2)]) (λs_ H=>o s_.1 s_.2.1 s_.2.2.1 s_.2.2.2 H) (λs_ H=>m11 s_.1 s_.2.1 s_.2.2.1 s_.2.2.2 H) ((none,0,0,0):zY×Nat×Nat×Int) (by kernel_rfl) i1 sk ?_
 rintro⟨j,outN,outC,i⟩ H1 i3
 have h:=i2 j outN outC i H1 i3
 refine T_su [(0,vs lB lN lC),(1,vs d f e),(5,vs j outN outC),(6,vi i)]<| T_sz<| ar 3<| T_ed 4 [] [(10,.bool (decide (i< (lN:Int))))] ?_
 by_cases c4:i< (lN:Int)
 ·rw[if_pos c4]at h
  refine aH 10 (zQ c4)<| T_kt<| T_sz<| T_bz 1<| T_rz 5<| T_nd 3 [5,10] [(13,vs j outN outC),(14,vs lB lN lC),(15,vi i)] ?_
  obtain⟨l,rfl,q6,h⟩:=h
  refine T_xd (some 16) 36 35 2 l lN lC .i64 i Tryz.underlying36 q6.1 q6.2 [0,14,15] [(0,vs (some l) lN lC),(16,vp (some (l.add (Int.toNat i*2))))] ?_
  obtain⟨xW,m,q7,h⟩:=h
  refine T_lr 17 35 q7 [16]<| T_nd 1 [] [(18,vs d f e)]<| T_c (some 19) h ?_;clear h
  rintro v H2 ⟨x,rfl,h⟩
  refine T_pd [17,18] [(19,vu x)]<| T_nw (some 20) (λb=>vs (pa b) 1 1) (.cells #[vu x] 33) ?_
  intro b H3 e8 e9
  replace h:=h b H3 e8 e9
  refine T_pd [19] [(20,vs (pa b) 1 1)]<| N_op (some 21) (cS #[31,31] 31 #[vs j outN outC,vs (pa b) 1 1]) _ (λ_=>by kernel_rfl) (bP (T:=33) (sz:=1) (bytes:=8) (zero:=(vu 0:Value)) Tryz.underlying31 Tryz.underlying31 rfl (show Tryz.prog.info? 33=some Tryz.t33 from by kernel_rfl) (by kernel_rfl) (by kernel_rfl) (by decide) (by kernel_rfl) (by first | exact h | (simpa only[Value.cells,List.toList_toArray]using h))) ?_;clear h
  rintro _ H4 ⟨ap,n,rfl,h⟩
  exact T_pd [13,20] [(21,vs ap (outN+1) n)]<| T_nd 1 [21] [(5,vs ap (outN+1) n)]<| zx<| aL<| aE<| T_rz 4<| T_ed 3 [6] [(6,vi (zq (i+1)))]<| bG ((ap,(outN+1),n,(zq (i+1))):zY×Nat×Nat×Int) sk h
 rw[if_neg c4]at h
 exact aI 10 (zJ c4)<| zk 0<| aD<| aD<| aR<| aE<| ar 6<| T_nr 2 [4] [vs j outN outC] hQ h
end dV

/-! moraine/morainelaw10.setHalf -/
namespace dD
def K0:=Func.code Tryz.f43
end dD
def dD.pt(hv:zY)(a wv v:Int)(H:zW)(R:zv):Prop:=
 if a=6 then(
 fR.C hv wv v H (λe H1=> ∃x:Int,e=.int .i64 x/\
 R (.int .i64 x) H1))
 else
 fS.C hv wv v H (λd H2=> ∃b:Int,d=.int .i64 b/\
 R (.int .i64 b) H2)
namespace dD
set_option maxRecDepth 100000 in
theorem link{hv:zY}{a wv v:Int}{H:zW}{R:zv}(h:pt hv a wv v H R):C hv a wv v H R:=by
 refine T_en K0 19 Tryz.func43 ?_
 intro w0 Q hQ
 unfold pt at h
 refine T_su [(0,vp hv),(1,vi a),(2,vu wv),(3,vu v)]<| ar 0<| T_ed 1 [] []<| T_sz<| ar 1<| T_ed 2 [1] [(10,.bool (a==6))] ?_
 by_cases c1:a=6
 ·rw[if_pos c1]at h
  refine aH 10 (zV c1)<| ar 2<| T_n 3 [(11,vp hv),(12,vu wv),(13,vu v)]<| T_c (some 14) h ?_;clear h
  rintro e H1 ⟨x,rfl,h⟩
  refine⟨[(14,vi x)],pk,?_⟩
  exact T_nr 1 [8] [vi x] hQ h
 rw[if_neg c1]at h
 refine aI 10 (zK c1)<| T_kt<| ar 3<| T_n 3 [(15,vp hv),(16,vu wv),(17,vu v)]<| T_c (some 18) h ?_;clear h
 rintro d H2 ⟨b,rfl,h⟩
 refine⟨[(18,vi b)],pk,?_⟩
 exact T_nr 1 [8] [vi b] hQ h
end dD

/-! moraine/morainelaw10.tells -/
namespace dG
def K0:=Func.code Tryz.f12
def K2:=cb K0
def K4:=cb K2
def K6:=cb K4
def K8:=cb K6
def K10:=cb K8
def K12:=cb K10
def K14:=cb K12
def K19:=ca K14
def K21:=ca K19
end dG
def dG.pt(hv m:zY)(wv a i:Int)(H:zW)(R:zv):Prop:=
 gc.C hv wv H (λv H1=> ∃ra rb:Int,v=.tuple #[.int .u64 ra,.int .i64 rb]/\
 cf.C m wv 0 H1 (λco H2=> ∃ac z:Int,co=.tuple #[.int .u64 ac,.int .i64 z]/\
 gd.C hv wv H2 (λcz H3=> ∃t s:Int,cz=.tuple #[.int .u64 t,.int .i64 s]/\
 cf.C m wv 1 H3 (λcu H4=> ∃ae u:Int,cu=.tuple #[.int .u64 ae,.int .i64 u]/\
 aW.C m wv H4 (λcy H5=> ∃d ax a4 bj bi ay:Int,cy=.tuple #[.int .i64 d,.agg #[.int .i64 ax,.int .i64 a4,.int .i64 bj,.int .i64 bi,.int .u64 ay]]/\
 ∀(b:Nat) (H6:zW),b=H5.size->H6=H5.push (.cells #[.int .i64 0,.int .i64 0,.int .i64 0,.int .i64 0,.int .u64 0] 111)->
 (aJ H6 (ad b) 0 5)/\ ∀H7,H7=aP H6 (ad b) [.int .i64 ax,.int .i64 a4,.int .i64 bj,.int .i64 bi,.int .u64 ay] 0->
 if ra=ac then(
 if rb=z then(
 if t=ae then(
 if s=u then(
 fW.C hv wv H7 (λcw H8=> ∃x:Bool,cw=.bool x/\
 bJ.C m wv H8 (λc1 H9=> ∃bn:Int,c1=.int .i64 bn/\
 if x=(decide (bn>=0))then(
 gx.C hv wv H9 (λcq cp=> ∃bk:Int,cq=.int .i64 bk/\
 cM.C m wv cp (λcs bg=> ∃bm:Int,cs=.int .i64 bm/\
 if bk=bm then(
 ∃J:Bool->zW->Prop,(
 if d<0 then(
 ∃aq:Int,hat bg ((ad b).add 1)=some (.int .i64 aq)/\
 ∃am:Int,hat bg ((ad b).add 2)=some (.int .i64 am)/\
 ∃af:Int,hat bg ((ad b).add 4)=some (.int .u64 af)/\
 eQ.C hv wv bg (λcc bq=> ∃ba:Int,cc=.int .i64 ba/\aG bq ((ad b).add 1) 0 [.int .i64 aq]/\aG bq ((ad b).add 2) 0 [.int .i64 am]/\aG bq ((ad b).add 4) 0 [.int .u64 af]/\
 if ba=0 then(
 fO.C hv wv bq (λci bp=> ∃av:Int,ci=.int .i64 av/\aG bp ((ad b).add 1) 0 [.int .i64 aq]/\aG bp ((ad b).add 2) 0 [.int .i64 am]/\aG bp ((ad b).add 4) 0 [.int .u64 af]/\
 if av=0 then(
 eF.C hv wv bp (λcm bo=> ∃ak:Int,cm=.int .u64 ak/\aG bo ((ad b).add 1) 0 [.int .i64 aq]/\aG bo ((ad b).add 2) 0 [.int .i64 am]/\aG bo ((ad b).add 4) 0 [.int .u64 af]/\
 if ak=0 then(
 if d>=0 then(
 eQ.C hv wv bo (λch bw=> ∃a2:Int,ch=.int .i64 a2/\aG bw ((ad b).add 1) 0 [.int .i64 aq]/\aG bw ((ad b).add 2) 0 [.int .i64 am]/\aG bw ((ad b).add 4) 0 [.int .u64 af]/\
 if a2=aq then(
 fO.C hv wv bw (λce br=> ∃au:Int,ce=.int .i64 au/\aG br ((ad b).add 1) 0 [.int .i64 aq]/\aG br ((ad b).add 2) 0 [.int .i64 am]/\aG br ((ad b).add 4) 0 [.int .u64 af]/\
 if au=am then(
 eF.C hv wv br (λcd bx=> ∃an:Int,cd=.int .u64 an/\aG bx ((ad b).add 1) 0 [.int .i64 aq]/\aG bx ((ad b).add 2) 0 [.int .i64 am]/\aG bx ((ad b).add 4) 0 [.int .u64 af]/\
 J (an !=af) bx))
 else
 J true br))
 else
 J true bw))
 else
 J false bo)
 else
 J true bo))
 else
 J true bp))
 else
 J true bq))
 else
 if d>=0 then(
 ∃ai:Int,hat bg ((ad b).add 1)=some (.int .i64 ai)/\
 ∃ab:Int,hat bg ((ad b).add 2)=some (.int .i64 ab)/\
 ∃y:Int,hat bg ((ad b).add 4)=some (.int .u64 y)/\
 eQ.C hv wv bg (λb3 bu=> ∃a3:Int,b3=.int .i64 a3/\aG bu ((ad b).add 1) 0 [.int .i64 ai]/\aG bu ((ad b).add 2) 0 [.int .i64 ab]/\aG bu ((ad b).add 4) 0 [.int .u64 y]/\
 if a3=ai then(
 fO.C hv wv bu (λcg bt=> ∃aw:Int,cg=.int .i64 aw/\aG bt ((ad b).add 1) 0 [.int .i64 ai]/\aG bt ((ad b).add 2) 0 [.int .i64 ab]/\aG bt ((ad b).add 4) 0 [.int .u64 y]/\
 if aw=ab then(
 eF.C hv wv bt (λb1 bz=> ∃ao:Int,b1=.int .u64 ao/\aG bz ((ad b).add 1) 0 [.int .i64 ai]/\aG bz ((ad b).add 2) 0 [.int .i64 ab]/\aG bz ((ad b).add 4) 0 [.int .u64 y]/\
 J (ao !=y) bz))
 else
 J true bt))
 else
 J true bu))
 else
 J false bg)/\ ∀(bf:Bool) (H12:zW),J bf H12->
 if bf=true then(
 R (.bool false) H12)
 else
 fN.C hv wv a i H12 (λb7 cv=> ∃o j:Int,b7=.tuple #[.int .u64 o,.int .i64 j]/\
 cV.C m wv a i cv (λb2 cx=> ∃r l:Int,b2=.tuple #[.int .u64 r,.int .i64 l]/\
 fV.C hv wv cx (λcl cr=> ∃(p:ByteArray) (k:Int),cl=.tuple #[.string p,.int .i64 k]/\
 cN.C m wv cr (λck ct=> ∃(q:ByteArray) (n:Int),ck=.tuple #[.string q,.int .i64 n]/\
 gT.C hv wv ct (λb9 cn=> ∃(a5:Bool) (a0:zY) (a1 az:Nat) (f:Int),b9=.tuple #[.agg #[.bool a5,.slice a0 a1 az],.int .i64 f]/\
 ∀(aa:Nat) (H18:zW),aa=cn.size->H18=cn.push (.cells #[.bool false,.slice none 0 0] 39)->
 (aJ H18 (ad aa) 0 2)/\ ∀b0,b0=aP H18 (ad aa) [.bool a5,.slice a0 a1 az] 0->
 cW.C m wv b0 (λb4 b5=> ∃(ap:Bool) (ah:zY) (aj ag:Nat) (e:Int),b4=.tuple #[.agg #[.bool ap,.slice ah aj ag],.int .i64 e]/\
 ∀(al:Nat) (H21:zW),al=b5.size->H21=b5.push (.cells #[.bool false,.slice none 0 0] 39)->
 (aJ H21 (ad al) 0 2)/\ ∀bh,bh=aP H21 (ad al) [.bool ap,.slice ah aj ag] 0->
 if o=r then(
 if j=l then(
 if p.toList=q.toList then(
 if k=n then(
 ∃(bl:Bool) (bd:zY) (bc be:Nat),aG bh (ad aa) 0 [.bool bl,.slice bd bc be]/\
 ∃(a9:Bool) (a6:zY) (a7 a8:Nat),aG bh (ad al) 0 [.bool a9,.slice a6 a7 a8]/\
 dP.C bl bd bc be a9 a6 a7 a8 bh (λcj c0=> ∃bb:Bool,cj=.bool bb/\
 R (.bool (bb && (f==e))) c0))
 else
 R (.bool false) bh)
 else
 R (.bool false) bh)
 else
 R (.bool false) bh)
 else
 R (.bool false) bh)))))))
 else
 R (.bool false) bg)))
 else
 R (.bool false) H9)))
 else
 R (.bool false) H7)
 else
 R (.bool false) H7)
 else
 R (.bool false) H7)
 else
 R (.bool false) H7)))))
namespace dG
theorem link{hv m:zY}{wv a i:Int}{H:zW}{R:zv}(h:pt hv m wv a i H R):C hv m wv a i H R:=by
 refine T_en K0 216 Tryz.func12 ?_
 intro w0 Q hQ
 unfold pt at h
 refine T_su [(0,vp hv),(1,vp m),(2,vu wv),(3,vi a),(4,vi i)]<| ar 0<| T_ed 1 [] []<| ar 1<| T_nd 2 [] [(34,vp hv),(35,vu wv)]<| T_c (some 36) h ?_;clear h
 rintro v H1 ⟨ra,rb,rfl,h⟩
 refine T_pd [34,35] [(36,.tuple #[vu ra,vi rb])]<| T_ed 5 [36] [(11,vu ra),(12,vi rb)]<| ar 2<| T_nd 2 [] [(40,vp m),(41,vu wv)]<| T_c (some 42) h ?_;clear h
 rintro co H2 ⟨ac,z,rfl,h⟩
 refine T_pd [40,41] [(42,.tuple #[vu ac,vi z])]<| T_ed 5 [42] [(13,vu ac),(14,vi z)]<| ar 3<| T_nd 2 [] [(46,vp hv),(47,vu wv)]<| T_c (some 48) h ?_;clear h
 rintro cz H3 ⟨t,s,rfl,h⟩
 refine T_pd [46,47] [(48,.tuple #[vu t,vi s])]<| T_ed 5 [48] [(15,vu t),(16,vi s)]<| ar 4<| T_nd 2 [] [(52,vp m),(53,vu wv)]<| T_c (some 54) h ?_;clear h
 rintro cu H4 ⟨ae,u,rfl,h⟩
 refine T_pd [52,53] [(54,.tuple #[vu ae,vi u])]<| T_ed 5 [54] [(17,vu ae),(18,vi u)]<| ar 5<| T_nd 2 [] [(58,vp m),(59,vu wv)]<| T_c (some 60) h ?_;clear h
 rintro cy H5 ⟨d,ax,a4,bj,bi,ay,rfl,h⟩
 refine T_pd [58,59] [(60,.tuple #[vi d,.agg #[vi ax,vi a4,vi bj,vi bi,vu ay]])]<| T_nd 3 [60] [(61,vi d),(62,.agg #[vi ax,vi a4,vi bj,vi bi,vu ay])]<| T_nw (some 20) (λb=>vp (pa b)) (.cells #[vi 0,vi 0,vi 0,vi 0,vu 0] 111) ?_
 intro b H6 e1 e2
 replace h:=h b H6 e1 e2
 refine T_pd [] [(20,vp (pa b))]<| T_nd 1 [61] [(19,vi d)] ?_
 obtain⟨q4,h⟩:=h
 refine bX 111 [vi ax,vi a4,vi bj,vi bi,vu ay] q4 ?_
 intro H7 e3
 replace h:=h H7 e3
 refine T_pd [62] []<| T_e<| T_sz<| ar 6<| T_nd 4 [11,13] [(66,.bool (ra !=ac))] ?_
 by_cases c5:ra=ac
 ·rw[if_pos c5]at h
  refine N_bd 66 (bne_eq_false_iff_eq.mpr c5)<| T_nd 5 [12,14,66] [(71,.bool (rb !=z))] ?_
  by_cases c7:rb=z
  ·rw[if_pos c7]at h
   refine N_bd 71 (bne_eq_false_iff_eq.mpr c7)<| T_nd 5 [15,17,71] [(76,.bool (t !=ae))] ?_
   by_cases c9:t=ae
   ·rw[if_pos c9]at h
    refine N_bd 76 (bne_eq_false_iff_eq.mpr c9)<| T_nd 5 [16,18,76] [(81,.bool (s !=u))] ?_
    by_cases c11:s=u
    ·rw[if_pos c11]at h
     refine N_bd 81 (bne_eq_false_iff_eq.mpr c11)<| T_nd 2 [] [(82,vp hv),(83,vu wv)] ?_
     refine T_c (some 84) h ?_;clear h
     rintro cw H8 ⟨x,rfl,h⟩
     refine T_pd [82,83] [(84,.bool x)]<| T_nd 2 [] [(85,vp m),(86,vu wv)]<| T_c (some 87) h ?_;clear h
     rintro c1 H9 ⟨bn,rfl,h⟩
     refine T_pd [85,86] [(87,vi bn)]<| T_nd 4 [81,84,87] [(91,.bool (!(x==(decide (bn>=0)))))] ?_
     by_cases c13:x=(decide (bn>=0))
     ·rw[if_pos c13]at h
      refine N_bd 91 (congrArg Bool.not (zV c13))<| T_nd 2 [] [(92,vp hv),(93,vu wv)] ?_
      refine T_c (some 94) h ?_;clear h
      rintro cq cp ⟨bk,rfl,h⟩
      refine T_pd [92,93] [(94,vi bk)]<| T_nd 2 [] [(95,vp m),(96,vu wv)]<| T_c (some 97) h ?_;clear h
      rintro cs bg ⟨bm,rfl,h⟩
      refine T_pd [95,96] [(97,vi bm)]<| T_ne 2 [(0,vp hv),(1,vp m),(2,vu wv),(3,vi a),(4,vi i),(19,vi d),(20,vp (pa b)),(99,.bool (bk !=bm))] ?_
      by_cases c15:bk=bm
      ·rw[if_pos c15]at h
       refine aI 99 (bne_eq_false_iff_eq.mpr c15)<| T_kt<| T_sz<| T_sz ?_
       obtain⟨J,h,j18⟩:=h
       refine kb (σ:=Bool) (λs_=> [(0,vp hv),(1,vp m),(2,vu wv),(3,vi a),(4,vi i),(147,.bool s_)]) (λs_ H=>J s_ H) ?_ ?_
       ·rintro bf H12 j19
        replace h:=j18 bf H12 j19
        refine T_su [(0,vp hv),(1,vp m),(2,vu wv),(3,vi a),(4,vi i),(147,.bool bf)]<| aE ?_
        by_cases c20:bf=true
        ·rw[if_pos c20]at h
         have b21:bf=true:=c20
         refine eT [(0,vp hv),(1,vp m),(2,vu wv),(3,vi a),(4,vi i),(147,.bool true)] (by rw[b21]) ?_
         clear b21
         exact T_tz 147<| ar 9<| T_nr 1 [10] [.bool false] hQ h
        rw[if_neg c20]at h
        have b21:bf=false:=zZ c20
        refine eT [(0,vp hv),(1,vp m),(2,vu wv),(3,vi a),(4,vi i),(147,.bool false)] (by rw[b21]) ?_
        clear b21
        refine T_fz 147<| T_kt<| ar 10<| T_nd 4 [147] [(149,vp hv),(150,vu wv),(151,vi a),(152,vi i)]<| T_c (some 153) h ?_;clear h
        rintro b7 cv ⟨o,j,rfl,h⟩
        refine T_pd [149,150,151,152] [(153,.tuple #[vu o,vi j])]<| T_ed 5 [153] [(21,vu o),(22,vi j)]<| ar 11<| T_nd 4 [3,4] [(157,vp m),(158,vu wv),(159,vi a),(160,vi i)]<| T_c (some 161) h ?_;clear h
        rintro b2 cx ⟨r,l,rfl,h⟩
        refine T_pd [157,158,159,160] [(161,.tuple #[vu r,vi l])]<| T_ed 5 [161] [(23,vu r),(24,vi l)]<| ar 12<| T_nd 2 [] [(165,vp hv),(166,vu wv)]<| T_c (some 167) h ?_;clear h
        rintro cl cr ⟨p,k,rfl,h⟩
        refine T_pd [165,166] [(167,.tuple #[.string p,vi k])]<| T_ed 5 [167] [(25,.string p),(26,vi k)]<| ar 13<| T_nd 2 [] [(171,vp m),(172,vu wv)]<| T_c (some 173) h ?_;clear h
        rintro ck ct ⟨q,n,rfl,h⟩
        refine T_pd [171,172] [(173,.tuple #[.string q,vi n])]<| T_ed 5 [173] [(27,.string q),(28,vi n)]<| ar 14<| T_nd 2 [0] [(177,vp hv),(178,vu wv)]<| T_c (some 179) h ?_;clear h
        rintro b9 cn ⟨a5,a0,a1,az,f,rfl,h⟩
        refine T_pd [177,178] [(179,.tuple #[.agg #[.bool a5,vs a0 a1 az],vi f])]<| T_nd 3 [179] [(180,.agg #[.bool a5,vs a0 a1 az]),(181,vi f)]<| T_nw (some 29) (λb=>vp (pa b)) (.cells #[.bool false,vs none 0 0] 39) ?_
        intro aa H18 e22 e23
        replace h:=h aa H18 e22 e23
        refine T_pd [] [(29,vp (pa aa))] ?_
        obtain⟨q25,h⟩:=h
        refine bX 39 [.bool a5,vs a0 a1 az] q25 ?_
        intro b0 e24
        replace h:=h b0 e24
        refine T_pd [180] []<| T_ed 1 [181] [(30,vi f)]<| ar 15<| T_nd 2 [1,2] [(183,vp m),(184,vu wv)]<| T_c (some 185) h ?_;clear h
        rintro b4 b5 ⟨ap,ah,aj,ag,e,rfl,h⟩
        refine T_pd [183,184] [(185,.tuple #[.agg #[.bool ap,vs ah aj ag],vi e])]<| T_nd 3 [185] [(186,.agg #[.bool ap,vs ah aj ag]),(187,vi e)]<| T_nw (some 31) (λb=>vp (pa b)) (.cells #[.bool false,vs none 0 0] 39) ?_
        intro al H21 e26 e27
        replace h:=h al H21 e26 e27
        refine T_pd [] [(31,vp (pa al))] ?_
        obtain⟨q29,h⟩:=h
        refine bX 39 [.bool ap,vs ah aj ag] q29 ?_
        intro bh e28
        replace h:=h bh e28
        refine T_pd [186] []<| T_ed 1 [187] [(32,vi e)]<| ar 16<| T_nd 4 [21,23] [(191,.bool (o==r))] ?_
        by_cases c30:o=r
        ·rw[if_pos c30]at h
         refine N_bd 191 (zV c30)<| T_nd 5 [22,24,191] [(196,.bool (j==l))] ?_
         by_cases c32:j=l
         ·rw[if_pos c32]at h
          refine N_bd 196 (zV c32)<| T_nd 5 [25,27,196] [(201,.bool (p.toList==q.toList))] ?_
          by_cases c34:p.toList=q.toList
          ·rw[if_pos c34]at h
           refine N_bd 201 (zV c34)<| T_nd 5 [26,28,201] [(206,.bool (k==n))] ?_
           by_cases c36:k=n
           ·rw[if_pos c36]at h
            refine N_bd 206 (zV c36) ?_
            obtain⟨bl,bd,bc,be,q38,h⟩:=h
            refine T_lr 207 39 q38 [29] ?_
            obtain⟨a9,a6,a7,a8,q39,h⟩:=h
            refine T_lr 208 39 q39 [31]<| T_c (some 209) h ?_;clear h
            rintro cj c0 ⟨bb,rfl,h⟩
            refine T_pd [207,208] [(209,.bool bb)]<| T_nd 2 [206,209] [(211,.bool bb)] ?_
            refine gp [(10,.bool (bb && (f==e)))] ?_ ?_
            ·exact aE<| ie [10] [.bool (bb && (f==e))] hQ h
            intro hk
            refine T_nu [(30,vi f),(32,vi e),(211,.bool bb)] ?_
            by_cases c40:bb=true
            ·have b41:bb=true:=c40
             refine bV [(30,vi f),(32,vi e),(211,.bool true)] (by rw[b41]) ?_
             refine T_n 5 [(10,.bool (f==e))]<| zx<| eT [(10,.bool (bb && (f==e)))] (by simp only[b41,BL]) ?_
             exact hk
            have b41:bb=false:=zZ c40
            refine bV [(30,vi f),(32,vi e),(211,.bool false)] (by rw[b41]) ?_
            refine T_n 5 [(10,.bool false)]<| zx<| eT [(10,.bool (bb && (f==e)))] (by simp only[b41,BL]) ?_
            exact hk
           rw[if_neg c36]at h
           exact N_bd 206 (zK c36)<| T_nr 10 [10] [.bool false] hQ h
          rw[if_neg c34]at h
          exact N_bd 201 (zK c34)<| T_nr 15 [10] [.bool false] hQ h
         rw[if_neg c32]at h
         exact N_bd 196 (zK c32)<| T_nr 20 [10] [.bool false] hQ h
        rw[if_neg c30]at h
        exact N_bd 191 (zK c30)<| T_nr 25 [10] [.bool false] hQ h
       by_cases c42:d<0
       ·rw[if_pos c42]at h
        obtain⟨aq,q44,am,q45,af,q46,h⟩:=h
        refine yq 8 (Code.ops K21) [(48,((ad b).add 1),[vi aq]),(48,((ad b).add 2),[vi am]),(48,((ad b).add 4),[vu af])] 48 (bv 48 0) (show aK _ _ _ from⟨⟨q44,trivial⟩,⟨q45,trivial⟩,⟨q46,trivial⟩,trivial⟩)<| T_gp 0 (some 100) (vi d) (bv 48 1) [(0,vp hv),(1,vp m),(2,vu wv),(3,vi a),(4,vi i),(19,vi d),(20,vp (pa b)),(100,vi d)]<| aF 1 101 (.bool (decide (d<0))) (bv 48 3) [100]<| aF 2 102 (.bool (decide (d<0))) (bv 48 7) [101]<| G_bd 102 (zQ c42)<| aF 3 103 (vp hv) (bv 48 15) []<| aF 4 104 (vu wv) (bv 48 31) []<| yx 5 (some 105) (bv 48 63) 13 #[vp hv,vu wv] h ?_;clear h
        rintro cc bq ⟨ba,rfl,f47,f48,f49,h⟩
        refine⟨[(0,vp hv),(1,vp m),(2,vu wv),(3,vi a),(4,vi i),(19,vi d),(20,vp (pa b)),(102,.bool true),(105,vi ba)],pk,(show aK _ _ _ from⟨f47,f48,f49,trivial⟩),?_⟩
        refine T_g 6 (some 106) (.bool (ba !=0)) (bv 48 127) [(0,vp hv),(1,vp m),(2,vu wv),(3,vi a),(4,vi i),(19,vi d),(20,vp (pa b)),(102,.bool true),(106,.bool (ba !=0))] (pure (.value (.bool (ba !=0))):Sem Next) (λ_ _ _ _ _=>rfl)<| T_g1 7 107 (.bool (ba !=0)) (bv 48 255) [106] (pure (.value (.bool (ba !=0))):Sem Next) (λ_ _ _ _ _=>rfl) ?_
        by_cases c50:ba=0
        ·rw[if_pos c50]at h
         refine G_bd 107 (bne_eq_false_iff_eq.mpr c50) ?_
         refine T_g1 8 108 (vp hv) (bv 48 511) [] (pure (.value (vp hv)):Sem Next) (λ_ _ _ _ _=>rfl)<| T_g1 9 109 (vu wv) (bv 48 1023) [] (pure (.value (vu wv)):Sem Next) (λ_ _ _ _ _=>rfl)<| yx 10 (some 110) (bv 48 2047) 25 #[vp hv,vu wv] h ?_;clear h
         rintro ci bp ⟨av,rfl,f52,f53,f54,h⟩
         refine⟨[(0,vp hv),(1,vp m),(2,vu wv),(3,vi a),(4,vi i),(19,vi d),(20,vp (pa b)),(102,.bool true),(107,.bool false),(110,vi av)],pk,(show aK _ _ _ from⟨f52,f53,f54,trivial⟩),?_⟩
         refine T_g 11 (some 111) (.bool (av !=0)) (bv 48 4095) [(0,vp hv),(1,vp m),(2,vu wv),(3,vi a),(4,vi i),(19,vi d),(20,vp (pa b)),(102,.bool true),(107,.bool false),(111,.bool (av !=0))] (pure (.value (.bool (av !=0))):Sem Next) (λ_ _ _ _ _=>rfl)<| T_g1 12 112 (.bool (av !=0)) (bv 48 8191) [107,111] (pure (.value (.bool (av !=0))):Sem Next) (λ_ _ _ _ _=>rfl)<| T_g1 13 113 (.bool (av !=0)) (bv 48 16383) [112] (pure (.value (.bool (av !=0))):Sem Next) (λ_ _ _ _ _=>rfl) ?_
         by_cases c55:av=0
         ·rw[if_pos c55]at h
          refine G_bd 113 (bne_eq_false_iff_eq.mpr c55) ?_
          refine T_g1 14 114 (vp hv) (bv 48 32767) [] (pure (.value (vp hv)):Sem Next) (λ_ _ _ _ _=>rfl)<| T_g1 15 115 (vu wv) (bv 48 65535) [] (pure (.value (vu wv)):Sem Next) (λ_ _ _ _ _=>rfl)<| yx 16 (some 116) (bv 48 131071) 53 #[vp hv,vu wv] h ?_;clear h
          rintro cm bo ⟨ak,rfl,f57,f58,f59,h⟩
          refine⟨[(0,vp hv),(1,vp m),(2,vu wv),(3,vi a),(4,vi i),(19,vi d),(20,vp (pa b)),(102,.bool true),(113,.bool false),(116,vu ak)],pk,(show aK _ _ _ from⟨f57,f58,f59,trivial⟩),?_⟩
          refine T_g 17 (some 117) (.bool (ak !=0)) (bv 48 262143) [(0,vp hv),(1,vp m),(2,vu wv),(3,vi a),(4,vi i),(19,vi d),(20,vp (pa b)),(102,.bool true),(113,.bool false),(117,.bool (ak !=0))] (pure (.value (.bool (ak !=0))):Sem Next) (λ_ _ _ _ _=>rfl)<| T_g1 18 118 (.bool (ak !=0)) (bv 48 524287) [113,117] (pure (.value (.bool (ak !=0))):Sem Next) (λ_ _ _ _ _=>rfl)<| T_g1 19 119 (.bool (ak !=0)) (bv 48 1048575) [102,118] (pure (.value (.bool (ak !=0))):Sem Next) (λ_ _ _ _ _=>rfl)<| T_g1 20 120 (.bool (ak !=0)) (bv 48 2097151) [119] (pure (.value (.bool (ak !=0))):Sem Next) (λ_ _ _ _ _=>rfl) ?_
          by_cases c60:ak=0
          ·rw[if_pos c60]at h
           refine G_bd 120 (bne_eq_false_iff_eq.mpr c60) ?_
           refine T_g1 21 121 (vi d) (bv 48 4194303) [19] (pure (.value (vi d)):Sem Next) (λ_ _ _ _ _=>rfl)<| T_g1 22 122 (.bool (decide (d>=0))) (bv 48 8388607) [121] (pure (.value (.bool (decide (d>=0)))):Sem Next) (λ_ _ _ _ _=>rfl)<| T_g1 23 123 (.bool (decide (d>=0))) (bv 48 16777215) [122] (pure (.value (.bool (decide (d>=0)))):Sem Next) (λ_ _ _ _ _=>rfl) ?_
           by_cases c62:d>=0
           ·rw[if_pos c62]at h
            refine G_bd 123 (zQ c62) ?_
            refine T_g1 24 124 (vp hv) (bv 48 33554431) [] (pure (.value (vp hv)):Sem Next) (λ_ _ _ _ _=>rfl)<| T_g1 25 125 (vu wv) (bv 48 67108863) [] (pure (.value (vu wv)):Sem Next) (λ_ _ _ _ _=>rfl)<| T_g1 27 127 (vp (some ((ad b).add 1))) (bv 48 201326591) [] (pure (.value (vp (some ((ad b).add 1)))):Sem Next) (λ_ _ _ _ _=>rfl)<| T_g1 28 128 (vi aq) (bv 48 469762047) [127] (aT 3 (vp (some ((ad b).add 1)))) (dI 48 (λ_=>by kernel_rfl) yX (.inr (by kernel_rfl)))<| yx 26 (some 126) (bv 48 536870911) 13 #[vp hv,vu wv] h ?_;clear h
            rintro ch bw ⟨a2,rfl,f64,f65,f66,h⟩
            refine⟨[(0,vp hv),(1,vp m),(2,vu wv),(3,vi a),(4,vi i),(20,vp (pa b)),(120,.bool false),(123,.bool true),(126,vi a2),(128,vi aq)],pk,(show aK _ _ _ from⟨f64,f65,f66,trivial⟩),?_⟩
            refine T_g 29 (some 129) (.bool (a2 !=aq)) (bv 48 1073741823) [(0,vp hv),(1,vp m),(2,vu wv),(3,vi a),(4,vi i),(20,vp (pa b)),(120,.bool false),(123,.bool true),(129,.bool (a2 !=aq))] (pure (.value (.bool (a2 !=aq))):Sem Next) (λ_ _ _ _ _=>rfl)<| T_g1 30 130 (.bool (a2 !=aq)) (bv 48 2147483647) [129] (pure (.value (.bool (a2 !=aq))):Sem Next) (λ_ _ _ _ _=>rfl) ?_
            by_cases c67:a2=aq
            ·rw[if_pos c67]at h
             refine G_bd 130 (bne_eq_false_iff_eq.mpr c67) ?_
             refine T_g1 31 131 (vp hv) (bv 48 4294967295) [] (pure (.value (vp hv)):Sem Next) (λ_ _ _ _ _=>rfl)<| T_g1 32 132 (vu wv) (bv 48 8589934591) [] (pure (.value (vu wv)):Sem Next) (λ_ _ _ _ _=>rfl)<| T_g1 34 134 (vp (some ((ad b).add 2))) (bv 48 25769803775) [] (pure (.value (vp (some ((ad b).add 2)))):Sem Next) (λ_ _ _ _ _=>rfl)<| T_g1 35 135 (vi am) (bv 48 60129542143) [134] (aT 3 (vp (some ((ad b).add 2)))) (dI 48 (λ_=>by kernel_rfl) yQ (.inr (by kernel_rfl)))<| yx 33 (some 133) (bv 48 68719476735) 25 #[vp hv,vu wv] h ?_;clear h
             rintro ce br ⟨au,rfl,f69,f70,f71,h⟩
             refine⟨[(0,vp hv),(1,vp m),(2,vu wv),(3,vi a),(4,vi i),(20,vp (pa b)),(120,.bool false),(123,.bool true),(130,.bool false),(133,vi au),(135,vi am)],pk,(show aK _ _ _ from⟨f69,f70,f71,trivial⟩),?_⟩
             refine T_g 36 (some 136) (.bool (au !=am)) (bv 48 137438953471) [(0,vp hv),(1,vp m),(2,vu wv),(3,vi a),(4,vi i),(20,vp (pa b)),(120,.bool false),(123,.bool true),(130,.bool false),(136,.bool (au !=am))] (pure (.value (.bool (au !=am))):Sem Next) (λ_ _ _ _ _=>rfl)<| T_g1 37 137 (.bool (au !=am)) (bv 48 274877906943) [130,136] (pure (.value (.bool (au !=am))):Sem Next) (λ_ _ _ _ _=>rfl)<| T_g1 38 138 (.bool (au !=am)) (bv 48 549755813887) [137] (pure (.value (.bool (au !=am))):Sem Next) (λ_ _ _ _ _=>rfl) ?_
             by_cases c72:au=am
             ·rw[if_pos c72]at h
              refine G_bd 138 (bne_eq_false_iff_eq.mpr c72) ?_
              refine T_g1 39 139 (vp hv) (bv 48 1099511627775) [] (pure (.value (vp hv)):Sem Next) (λ_ _ _ _ _=>rfl)<| T_g1 40 140 (vu wv) (bv 48 2199023255551) [] (pure (.value (vu wv)):Sem Next) (λ_ _ _ _ _=>rfl)<| T_g1 42 142 (vp (some ((ad b).add 4))) (bv 48 6597069766655) [20] (pure (.value (vp (some ((ad b).add 4)))):Sem Next) (λ_ _ _ _ _=>rfl)<| T_g1 43 143 (vu af) (bv 48 15393162788863) [142] (aT 32 (vp (some ((ad b).add 4)))) (dI 48 (λ_=>by kernel_rfl) yJ (.inr (by kernel_rfl)))<| yx 41 (some 141) (bv 48 17592186044415) 53 #[vp hv,vu wv] h ?_;clear h
              rintro cd bx ⟨an,rfl,f74,f75,f76,h⟩
              refine⟨[(0,vp hv),(1,vp m),(2,vu wv),(3,vi a),(4,vi i),(120,.bool false),(123,.bool true),(138,.bool false),(141,vu an),(143,vu af)],pk,(show aK _ _ _ from⟨f74,f75,f76,trivial⟩),?_⟩
              exact T_g 44 (some 144) (.bool (an !=af)) (bv 48 35184372088831) [(0,vp hv),(1,vp m),(2,vu wv),(3,vi a),(4,vi i),(120,.bool false),(123,.bool true),(138,.bool false),(144,.bool (an !=af))] (pure (.value (.bool (an !=af))):Sem Next) (λ_ _ _ _ _=>rfl)<| T_g1 45 145 (.bool (an !=af)) (bv 48 70368744177663) [138,144] (pure (.value (.bool (an !=af))):Sem Next) (λ_ _ _ _ _=>rfl)<| T_g1 46 146 (.bool (an !=af)) (bv 48 140737488355327) [123,145] (pure (.value (.bool (an !=af))):Sem Next) (λ_ _ _ _ _=>rfl)<| T_g1 47 147 (.bool (an !=af)) (bv 48 281474976710655) [120,146] (pure (.value (.bool (an !=af))):Sem Next) (λ_ _ _ _ _=>rfl)<| eI [(0,vp hv),(1,vp m),(2,vu wv),(3,vi a),(4,vi i),(147,.bool (an !=af))] sk<| yz<| aE<| fH ((an !=af):Bool) sk h
             rw[if_neg c72]at h
             refine G_bd 138 (bne_iff_ne.mpr c72) ?_
             exact aA 39 (some 139) (bv 48 1099511627775) [] [(139,undef)]<| aA 40 (some 140) (bv 48 2199023255551) [] [(140,undef)]<| aA 41 (some 141) (bv 48 4398046511103) [139,140] [(141,undef)]<| aA 42 (some 142) (bv 48 8796093022207) [20] [(142,undef)]<| aA 43 (some 143) (bv 48 17592186044415) [142] [(143,undef)]<| aA 44 (some 144) (bv 48 35184372088831) [141,143] [(144,undef)]<| T_g1 45 145 (.bool true) (bv 48 70368744177663) [138,144] (pure (.value (.bool true)):Sem Next) (λ_ _ _ _ _=>rfl)<| T_g1 46 146 (.bool true) (bv 48 140737488355327) [123,145] (pure (.value (.bool true)):Sem Next) (λ_ _ _ _ _=>rfl)<| T_g1 47 147 (.bool true) (bv 48 281474976710655) [120,146] (pure (.value (.bool true)):Sem Next) (λ_ _ _ _ _=>rfl)<| eI [(0,vp hv),(1,vp m),(2,vu wv),(3,vi a),(4,vi i),(147,.bool true)] sk<| yz<| aE<| fH (true:Bool) sk h
            rw[if_neg c67]at h
            refine G_bd 130 (bne_iff_ne.mpr c67) ?_
            exact aA 31 (some 131) (bv 48 4294967295) [] [(131,undef)]<| aA 32 (some 132) (bv 48 8589934591) [] [(132,undef)]<| aA 33 (some 133) (bv 48 17179869183) [131,132] [(133,undef)]<| aA 34 (some 134) (bv 48 34359738367) [] [(134,undef)]<| aA 35 (some 135) (bv 48 68719476735) [134] [(135,undef)]<| aA 36 (some 136) (bv 48 137438953471) [133,135] [(136,undef)]<| T_g1 37 137 (.bool true) (bv 48 274877906943) [130,136] (pure (.value (.bool true)):Sem Next) (λ_ _ _ _ _=>rfl)<| T_g1 38 138 (.bool true) (bv 48 549755813887) [137] (pure (.value (.bool true)):Sem Next) (λ_ _ _ _ _=>rfl)<| aA 39 (some 139) (bv 48 1099511627775) [] [(139,undef)]<| aA 40 (some 140) (bv 48 2199023255551) [] [(140,undef)]<| aA 41 (some 141) (bv 48 4398046511103) [139,140] [(141,undef)]<| aA 42 (some 142) (bv 48 8796093022207) [20] [(142,undef)]<| aA 43 (some 143) (bv 48 17592186044415) [142] [(143,undef)]<| aA 44 (some 144) (bv 48 35184372088831) [141,143] [(144,undef)]<| T_g1 45 145 (.bool true) (bv 48 70368744177663) [138,144] (pure (.value (.bool true)):Sem Next) (λ_ _ _ _ _=>rfl)<| T_g1 46 146 (.bool true) (bv 48 140737488355327) [123,145] (pure (.value (.bool true)):Sem Next) (λ_ _ _ _ _=>rfl)<| T_g1 47 147 (.bool true) (bv 48 281474976710655) [120,146] (pure (.value (.bool true)):Sem Next) (λ_ _ _ _ _=>rfl)<| eI [(0,vp hv),(1,vp m),(2,vu wv),(3,vi a),(4,vi i),(147,.bool true)] sk<| yz<| aE<| fH (true:Bool) sk h
           rw[if_neg c62]at h
           refine G_bd 123 (zJ c62) ?_
           exact aA 24 (some 124) (bv 48 33554431) [] [(124,undef)]<| aA 25 (some 125) (bv 48 67108863) [] [(125,undef)]<| aA 26 (some 126) (bv 48 134217727) [124,125] [(126,undef)]<| aA 27 (some 127) (bv 48 268435455) [] [(127,undef)]<| aA 28 (some 128) (bv 48 536870911) [127] [(128,undef)]<| aA 29 (some 129) (bv 48 1073741823) [126,128] [(129,undef)]<| aA 30 (some 130) (bv 48 2147483647) [129] [(130,undef)]<| aA 31 (some 131) (bv 48 4294967295) [] [(131,undef)]<| aA 32 (some 132) (bv 48 8589934591) [] [(132,undef)]<| aA 33 (some 133) (bv 48 17179869183) [131,132] [(133,undef)]<| aA 34 (some 134) (bv 48 34359738367) [] [(134,undef)]<| aA 35 (some 135) (bv 48 68719476735) [134] [(135,undef)]<| aA 36 (some 136) (bv 48 137438953471) [133,135] [(136,undef)]<| aA 37 (some 137) (bv 48 274877906943) [130,136] [(137,undef)]<| aA 38 (some 138) (bv 48 549755813887) [137] [(138,undef)]<| aA 39 (some 139) (bv 48 1099511627775) [] [(139,undef)]<| aA 40 (some 140) (bv 48 2199023255551) [] [(140,undef)]<| aA 41 (some 141) (bv 48 4398046511103) [139,140] [(141,undef)]<| aA 42 (some 142) (bv 48 8796093022207) [20] [(142,undef)]<| aA 43 (some 143) (bv 48 17592186044415) [142] [(143,undef)]<| aA 44 (some 144) (bv 48 35184372088831) [141,143] [(144,undef)]<| aA 45 (some 145) (bv 48 70368744177663) [138,144] [(145,undef)]<| T_g1 46 146 (.bool false) (bv 48 140737488355327) [123,145] (pure (.value (.bool false)):Sem Next) (λ_ _ _ _ _=>rfl)<| T_g1 47 147 (.bool false) (bv 48 281474976710655) [120,146] (pure (.value (.bool false)):Sem Next) (λ_ _ _ _ _=>rfl)<| eI [(0,vp hv),(1,vp m),(2,vu wv),(3,vi a),(4,vi i),(147,.bool false)] sk<| yz<| aE<| fH (false:Bool) sk h
          rw[if_neg c60]at h
          refine G_bd 120 (bne_iff_ne.mpr c60) ?_
          exact aA 21 (some 121) (bv 48 4194303) [19] [(121,undef)]<| aA 22 (some 122) (bv 48 8388607) [121] [(122,undef)]<| aA 23 (some 123) (bv 48 16777215) [122] [(123,undef)]<| aA 24 (some 124) (bv 48 33554431) [] [(124,undef)]<| aA 25 (some 125) (bv 48 67108863) [] [(125,undef)]<| aA 26 (some 126) (bv 48 134217727) [124,125] [(126,undef)]<| aA 27 (some 127) (bv 48 268435455) [] [(127,undef)]<| aA 28 (some 128) (bv 48 536870911) [127] [(128,undef)]<| aA 29 (some 129) (bv 48 1073741823) [126,128] [(129,undef)]<| aA 30 (some 130) (bv 48 2147483647) [129] [(130,undef)]<| aA 31 (some 131) (bv 48 4294967295) [] [(131,undef)]<| aA 32 (some 132) (bv 48 8589934591) [] [(132,undef)]<| aA 33 (some 133) (bv 48 17179869183) [131,132] [(133,undef)]<| aA 34 (some 134) (bv 48 34359738367) [] [(134,undef)]<| aA 35 (some 135) (bv 48 68719476735) [134] [(135,undef)]<| aA 36 (some 136) (bv 48 137438953471) [133,135] [(136,undef)]<| aA 37 (some 137) (bv 48 274877906943) [130,136] [(137,undef)]<| aA 38 (some 138) (bv 48 549755813887) [137] [(138,undef)]<| aA 39 (some 139) (bv 48 1099511627775) [] [(139,undef)]<| aA 40 (some 140) (bv 48 2199023255551) [] [(140,undef)]<| aA 41 (some 141) (bv 48 4398046511103) [139,140] [(141,undef)]<| aA 42 (some 142) (bv 48 8796093022207) [20] [(142,undef)]<| aA 43 (some 143) (bv 48 17592186044415) [142] [(143,undef)]<| aA 44 (some 144) (bv 48 35184372088831) [141,143] [(144,undef)]<| aA 45 (some 145) (bv 48 70368744177663) [138,144] [(145,undef)]<| aA 46 (some 146) (bv 48 140737488355327) [123,145] [(146,undef)]<| T_g1 47 147 (.bool true) (bv 48 281474976710655) [120,146] (pure (.value (.bool true)):Sem Next) (λ_ _ _ _ _=>rfl)<| eI [(0,vp hv),(1,vp m),(2,vu wv),(3,vi a),(4,vi i),(147,.bool true)] sk<| yz<| aE<| fH (true:Bool) sk h
         rw[if_neg c55]at h
         refine G_bd 113 (bne_iff_ne.mpr c55) ?_
         exact aA 14 (some 114) (bv 48 32767) [] [(114,undef)]<| aA 15 (some 115) (bv 48 65535) [] [(115,undef)]<| aA 16 (some 116) (bv 48 131071) [114,115] [(116,undef)]<| aA 17 (some 117) (bv 48 262143) [116] [(117,undef)]<| T_g1 18 118 (.bool true) (bv 48 524287) [113,117] (pure (.value (.bool true)):Sem Next) (λ_ _ _ _ _=>rfl)<| T_g1 19 119 (.bool true) (bv 48 1048575) [102,118] (pure (.value (.bool true)):Sem Next) (λ_ _ _ _ _=>rfl)<| T_g1 20 120 (.bool true) (bv 48 2097151) [119] (pure (.value (.bool true)):Sem Next) (λ_ _ _ _ _=>rfl)<| aA 21 (some 121) (bv 48 4194303) [19] [(121,undef)]<| aA 22 (some 122) (bv 48 8388607) [121] [(122,undef)]<| aA 23 (some 123) (bv 48 16777215) [122] [(123,undef)]<| aA 24 (some 124) (bv 48 33554431) [] [(124,undef)]<| aA 25 (some 125) (bv 48 67108863) [] [(125,undef)]<| aA 26 (some 126) (bv 48 134217727) [124,125] [(126,undef)]<| aA 27 (some 127) (bv 48 268435455) [] [(127,undef)]<| aA 28 (some 128) (bv 48 536870911) [127] [(128,undef)]<| aA 29 (some 129) (bv 48 1073741823) [126,128] [(129,undef)]<| aA 30 (some 130) (bv 48 2147483647) [129] [(130,undef)]<| aA 31 (some 131) (bv 48 4294967295) [] [(131,undef)]<| aA 32 (some 132) (bv 48 8589934591) [] [(132,undef)]<| aA 33 (some 133) (bv 48 17179869183) [131,132] [(133,undef)]<| aA 34 (some 134) (bv 48 34359738367) [] [(134,undef)]<| aA 35 (some 135) (bv 48 68719476735) [134] [(135,undef)]<| aA 36 (some 136) (bv 48 137438953471) [133,135] [(136,undef)]<| aA 37 (some 137) (bv 48 274877906943) [130,136] [(137,undef)]<| aA 38 (some 138) (bv 48 549755813887) [137] [(138,undef)]<| aA 39 (some 139) (bv 48 1099511627775) [] [(139,undef)]<| aA 40 (some 140) (bv 48 2199023255551) [] [(140,undef)]<| aA 41 (some 141) (bv 48 4398046511103) [139,140] [(141,undef)]<| aA 42 (some 142) (bv 48 8796093022207) [20] [(142,undef)]<| aA 43 (some 143) (bv 48 17592186044415) [142] [(143,undef)]<| aA 44 (some 144) (bv 48 35184372088831) [141,143] [(144,undef)]<| aA 45 (some 145) (bv 48 70368744177663) [138,144] [(145,undef)]<| aA 46 (some 146) (bv 48 140737488355327) [123,145] [(146,undef)]<| T_g1 47 147 (.bool true) (bv 48 281474976710655) [120,146] (pure (.value (.bool true)):Sem Next) (λ_ _ _ _ _=>rfl)<| eI [(0,vp hv),(1,vp m),(2,vu wv),(3,vi a),(4,vi i),(147,.bool true)] sk<| yz<| aE<| fH (true:Bool) sk h
        rw[if_neg c50]at h
        refine G_bd 107 (bne_iff_ne.mpr c50) ?_
        exact aA 8 (some 108) (bv 48 511) [] [(108,undef)]<| aA 9 (some 109) (bv 48 1023) [] [(109,undef)]<| aA 10 (some 110) (bv 48 2047) [108,109] [(110,undef)]<| aA 11 (some 111) (bv 48 4095) [110] [(111,undef)]<| T_g1 12 112 (.bool true) (bv 48 8191) [107,111] (pure (.value (.bool true)):Sem Next) (λ_ _ _ _ _=>rfl)<| T_g1 13 113 (.bool true) (bv 48 16383) [112] (pure (.value (.bool true)):Sem Next) (λ_ _ _ _ _=>rfl)<| aA 14 (some 114) (bv 48 32767) [] [(114,undef)]<| aA 15 (some 115) (bv 48 65535) [] [(115,undef)]<| aA 16 (some 116) (bv 48 131071) [114,115] [(116,undef)]<| aA 17 (some 117) (bv 48 262143) [116] [(117,undef)]<| T_g1 18 118 (.bool true) (bv 48 524287) [113,117] (pure (.value (.bool true)):Sem Next) (λ_ _ _ _ _=>rfl)<| T_g1 19 119 (.bool true) (bv 48 1048575) [102,118] (pure (.value (.bool true)):Sem Next) (λ_ _ _ _ _=>rfl)<| T_g1 20 120 (.bool true) (bv 48 2097151) [119] (pure (.value (.bool true)):Sem Next) (λ_ _ _ _ _=>rfl)<| aA 21 (some 121) (bv 48 4194303) [19] [(121,undef)]<| aA 22 (some 122) (bv 48 8388607) [121] [(122,undef)]<| aA 23 (some 123) (bv 48 16777215) [122] [(123,undef)]<| aA 24 (some 124) (bv 48 33554431) [] [(124,undef)]<| aA 25 (some 125) (bv 48 67108863) [] [(125,undef)]<| aA 26 (some 126) (bv 48 134217727) [124,125] [(126,undef)]<| aA 27 (some 127) (bv 48 268435455) [] [(127,undef)]<| aA 28 (some 128) (bv 48 536870911) [127] [(128,undef)]<| aA 29 (some 129) (bv 48 1073741823) [126,128] [(129,undef)]<| aA 30 (some 130) (bv 48 2147483647) [129] [(130,undef)]<| aA 31 (some 131) (bv 48 4294967295) [] [(131,undef)]<| aA 32 (some 132) (bv 48 8589934591) [] [(132,undef)]<| aA 33 (some 133) (bv 48 17179869183) [131,132] [(133,undef)]<| aA 34 (some 134) (bv 48 34359738367) [] [(134,undef)]<| aA 35 (some 135) (bv 48 68719476735) [134] [(135,undef)]<| aA 36 (some 136) (bv 48 137438953471) [133,135] [(136,undef)]<| aA 37 (some 137) (bv 48 274877906943) [130,136] [(137,undef)]<| aA 38 (some 138) (bv 48 549755813887) [137] [(138,undef)]<| aA 39 (some 139) (bv 48 1099511627775) [] [(139,undef)]<| aA 40 (some 140) (bv 48 2199023255551) [] [(140,undef)]<| aA 41 (some 141) (bv 48 4398046511103) [139,140] [(141,undef)]<| aA 42 (some 142) (bv 48 8796093022207) [20] [(142,undef)]<| aA 43 (some 143) (bv 48 17592186044415) [142] [(143,undef)]<| aA 44 (some 144) (bv 48 35184372088831) [141,143] [(144,undef)]<| aA 45 (some 145) (bv 48 70368744177663) [138,144] [(145,undef)]<| aA 46 (some 146) (bv 48 140737488355327) [123,145] [(146,undef)]<| T_g1 47 147 (.bool true) (bv 48 281474976710655) [120,146] (pure (.value (.bool true)):Sem Next) (λ_ _ _ _ _=>rfl)<| eI [(0,vp hv),(1,vp m),(2,vu wv),(3,vi a),(4,vi i),(147,.bool true)] sk<| yz<| aE<| fH (true:Bool) sk h
       rw[if_neg c42]at h
       by_cases c77:d>=0
       ·rw[if_pos c77]at h
        obtain⟨ai,q79,ab,q80,y,q81,h⟩:=h
        refine yq 8 (Code.ops K21) [(48,((ad b).add 1),[vi ai]),(48,((ad b).add 2),[vi ab]),(48,((ad b).add 4),[vu y])] 48 (bv 48 0) (show aK _ _ _ from⟨⟨q79,trivial⟩,⟨q80,trivial⟩,⟨q81,trivial⟩,trivial⟩)<| T_gp 0 (some 100) (vi d) (bv 48 1) [(0,vp hv),(1,vp m),(2,vu wv),(3,vi a),(4,vi i),(19,vi d),(20,vp (pa b)),(100,vi d)]<| aF 1 101 (.bool (decide (d<0))) (bv 48 3) [100]<| aF 2 102 (.bool (decide (d<0))) (bv 48 7) [101]<| G_bd 102 (zJ c42)<| aA 3 (some 103) (bv 48 15) [] [(103,undef)]<| aA 4 (some 104) (bv 48 31) [] [(104,undef)]<| aA 5 (some 105) (bv 48 63) [103,104] [(105,undef)]<| aA 6 (some 106) (bv 48 127) [105] [(106,undef)]<| aA 7 (some 107) (bv 48 255) [106] [(107,undef)]<| aA 8 (some 108) (bv 48 511) [] [(108,undef)]<| aA 9 (some 109) (bv 48 1023) [] [(109,undef)]<| aA 10 (some 110) (bv 48 2047) [108,109] [(110,undef)]<| aA 11 (some 111) (bv 48 4095) [110] [(111,undef)]<| aA 12 (some 112) (bv 48 8191) [107,111] [(112,undef)]<| aA 13 (some 113) (bv 48 16383) [112] [(113,undef)]<| aA 14 (some 114) (bv 48 32767) [] [(114,undef)]<| aA 15 (some 115) (bv 48 65535) [] [(115,undef)]<| aA 16 (some 116) (bv 48 131071) [114,115] [(116,undef)]<| aA 17 (some 117) (bv 48 262143) [116] [(117,undef)]<| aA 18 (some 118) (bv 48 524287) [113,117] [(118,undef)]<| aF 19 119 (.bool false) (bv 48 1048575) [102,118]<| aF 20 120 (.bool false) (bv 48 2097151) [119]<| aF 21 121 (vi d) (bv 48 4194303) [19]<| aF 22 122 (.bool (decide (d>=0))) (bv 48 8388607) [121]<| aF 23 123 (.bool (decide (d>=0))) (bv 48 16777215) [122]<| G_bd 123 (zQ c77)<| aF 24 124 (vp hv) (bv 48 33554431) []<| aF 25 125 (vu wv) (bv 48 67108863) []<| aF 27 127 (vp (some ((ad b).add 1))) (bv 48 201326591) []<| T_g1 28 128 (vi ai) (bv 48 469762047) [127] (aT 3 (vp (some ((ad b).add 1)))) (dI 48 (λ_=>by kernel_rfl) yX (.inr (by kernel_rfl)))<| yx 26 (some 126) (bv 48 536870911) 13 #[vp hv,vu wv] h ?_;clear h
        rintro b3 bu ⟨a3,rfl,f82,f83,f84,h⟩
        refine⟨[(0,vp hv),(1,vp m),(2,vu wv),(3,vi a),(4,vi i),(20,vp (pa b)),(120,.bool false),(123,.bool true),(126,vi a3),(128,vi ai)],pk,(show aK _ _ _ from⟨f82,f83,f84,trivial⟩),?_⟩
        refine T_g 29 (some 129) (.bool (a3 !=ai)) (bv 48 1073741823) [(0,vp hv),(1,vp m),(2,vu wv),(3,vi a),(4,vi i),(20,vp (pa b)),(120,.bool false),(123,.bool true),(129,.bool (a3 !=ai))] (pure (.value (.bool (a3 !=ai))):Sem Next) (λ_ _ _ _ _=>rfl)<| T_g1 30 130 (.bool (a3 !=ai)) (bv 48 2147483647) [129] (pure (.value (.bool (a3 !=ai))):Sem Next) (λ_ _ _ _ _=>rfl) ?_
        by_cases c85:a3=ai
        ·rw[if_pos c85]at h
         refine G_bd 130 (bne_eq_false_iff_eq.mpr c85) ?_
         refine T_g1 31 131 (vp hv) (bv 48 4294967295) [] (pure (.value (vp hv)):Sem Next) (λ_ _ _ _ _=>rfl)<| T_g1 32 132 (vu wv) (bv 48 8589934591) [] (pure (.value (vu wv)):Sem Next) (λ_ _ _ _ _=>rfl)<| T_g1 34 134 (vp (some ((ad b).add 2))) (bv 48 25769803775) [] (pure (.value (vp (some ((ad b).add 2)))):Sem Next) (λ_ _ _ _ _=>rfl)<| T_g1 35 135 (vi ab) (bv 48 60129542143) [134] (aT 3 (vp (some ((ad b).add 2)))) (dI 48 (λ_=>by kernel_rfl) yQ (.inr (by kernel_rfl)))<| yx 33 (some 133) (bv 48 68719476735) 25 #[vp hv,vu wv] h ?_;clear h
         rintro cg bt ⟨aw,rfl,f87,f88,f89,h⟩
         refine⟨[(0,vp hv),(1,vp m),(2,vu wv),(3,vi a),(4,vi i),(20,vp (pa b)),(120,.bool false),(123,.bool true),(130,.bool false),(133,vi aw),(135,vi ab)],pk,(show aK _ _ _ from⟨f87,f88,f89,trivial⟩),?_⟩
         refine T_g 36 (some 136) (.bool (aw !=ab)) (bv 48 137438953471) [(0,vp hv),(1,vp m),(2,vu wv),(3,vi a),(4,vi i),(20,vp (pa b)),(120,.bool false),(123,.bool true),(130,.bool false),(136,.bool (aw !=ab))] (pure (.value (.bool (aw !=ab))):Sem Next) (λ_ _ _ _ _=>rfl)<| T_g1 37 137 (.bool (aw !=ab)) (bv 48 274877906943) [130,136] (pure (.value (.bool (aw !=ab))):Sem Next) (λ_ _ _ _ _=>rfl)<| T_g1 38 138 (.bool (aw !=ab)) (bv 48 549755813887) [137] (pure (.value (.bool (aw !=ab))):Sem Next) (λ_ _ _ _ _=>rfl) ?_
         by_cases c90:aw=ab
         ·rw[if_pos c90]at h
          refine G_bd 138 (bne_eq_false_iff_eq.mpr c90) ?_
          refine T_g1 39 139 (vp hv) (bv 48 1099511627775) [] (pure (.value (vp hv)):Sem Next) (λ_ _ _ _ _=>rfl)<| T_g1 40 140 (vu wv) (bv 48 2199023255551) [] (pure (.value (vu wv)):Sem Next) (λ_ _ _ _ _=>rfl)<| T_g1 42 142 (vp (some ((ad b).add 4))) (bv 48 6597069766655) [20] (pure (.value (vp (some ((ad b).add 4)))):Sem Next) (λ_ _ _ _ _=>rfl)<| T_g1 43 143 (vu y) (bv 48 15393162788863) [142] (aT 32 (vp (some ((ad b).add 4)))) (dI 48 (λ_=>by kernel_rfl) yJ (.inr (by kernel_rfl)))<| yx 41 (some 141) (bv 48 17592186044415) 53 #[vp hv,vu wv] h ?_;clear h
          rintro b1 bz ⟨ao,rfl,f92,f93,f94,h⟩
          refine⟨[(0,vp hv),(1,vp m),(2,vu wv),(3,vi a),(4,vi i),(120,.bool false),(123,.bool true),(138,.bool false),(141,vu ao),(143,vu y)],pk,(show aK _ _ _ from⟨f92,f93,f94,trivial⟩),?_⟩
          exact T_g 44 (some 144) (.bool (ao !=y)) (bv 48 35184372088831) [(0,vp hv),(1,vp m),(2,vu wv),(3,vi a),(4,vi i),(120,.bool false),(123,.bool true),(138,.bool false),(144,.bool (ao !=y))] (pure (.value (.bool (ao !=y))):Sem Next) (λ_ _ _ _ _=>rfl)<| T_g1 45 145 (.bool (ao !=y)) (bv 48 70368744177663) [138,144] (pure (.value (.bool (ao !=y))):Sem Next) (λ_ _ _ _ _=>rfl)<| T_g1 46 146 (.bool (ao !=y)) (bv 48 140737488355327) [123,145] (pure (.value (.bool (ao !=y))):Sem Next) (λ_ _ _ _ _=>rfl)<| T_g1 47 147 (.bool (ao !=y)) (bv 48 281474976710655) [120,146] (pure (.value (.bool (ao !=y))):Sem Next) (λ_ _ _ _ _=>rfl)<| eI [(0,vp hv),(1,vp m),(2,vu wv),(3,vi a),(4,vi i),(147,.bool (ao !=y))] sk<| yz<| aE<| fH ((ao !=y):Bool) sk h
         rw[if_neg c90]at h
         refine G_bd 138 (bne_iff_ne.mpr c90) ?_
         exact aA 39 (some 139) (bv 48 1099511627775) [] [(139,undef)]<| aA 40 (some 140) (bv 48 2199023255551) [] [(140,undef)]<| aA 41 (some 141) (bv 48 4398046511103) [139,140] [(141,undef)]<| aA 42 (some 142) (bv 48 8796093022207) [20] [(142,undef)]<| aA 43 (some 143) (bv 48 17592186044415) [142] [(143,undef)]<| aA 44 (some 144) (bv 48 35184372088831) [141,143] [(144,undef)]<| T_g1 45 145 (.bool true) (bv 48 70368744177663) [138,144] (pure (.value (.bool true)):Sem Next) (λ_ _ _ _ _=>rfl)<| T_g1 46 146 (.bool true) (bv 48 140737488355327) [123,145] (pure (.value (.bool true)):Sem Next) (λ_ _ _ _ _=>rfl)<| T_g1 47 147 (.bool true) (bv 48 281474976710655) [120,146] (pure (.value (.bool true)):Sem Next) (λ_ _ _ _ _=>rfl)<| eI [(0,vp hv),(1,vp m),(2,vu wv),(3,vi a),(4,vi i),(147,.bool true)] sk<| yz<| aE<| fH (true:Bool) sk h
        rw[if_neg c85]at h
        refine G_bd 130 (bne_iff_ne.mpr c85) ?_
        exact aA 31 (some 131) (bv 48 4294967295) [] [(131,undef)]<| aA 32 (some 132) (bv 48 8589934591) [] [(132,undef)]<| aA 33 (some 133) (bv 48 17179869183) [131,132] [(133,undef)]<| aA 34 (some 134) (bv 48 34359738367) [] [(134,undef)]<| aA 35 (some 135) (bv 48 68719476735) [134] [(135,undef)]<| aA 36 (some 136) (bv 48 137438953471) [133,135] [(136,undef)]<| T_g1 37 137 (.bool true) (bv 48 274877906943) [130,136] (pure (.value (.bool true)):Sem Next) (λ_ _ _ _ _=>rfl)<| T_g1 38 138 (.bool true) (bv 48 549755813887) [137] (pure (.value (.bool true)):Sem Next) (λ_ _ _ _ _=>rfl)<| aA 39 (some 139) (bv 48 1099511627775) [] [(139,undef)]<| aA 40 (some 140) (bv 48 2199023255551) [] [(140,undef)]<| aA 41 (some 141) (bv 48 4398046511103) [139,140] [(141,undef)]<| aA 42 (some 142) (bv 48 8796093022207) [20] [(142,undef)]<| aA 43 (some 143) (bv 48 17592186044415) [142] [(143,undef)]<| aA 44 (some 144) (bv 48 35184372088831) [141,143] [(144,undef)]<| T_g1 45 145 (.bool true) (bv 48 70368744177663) [138,144] (pure (.value (.bool true)):Sem Next) (λ_ _ _ _ _=>rfl)<| T_g1 46 146 (.bool true) (bv 48 140737488355327) [123,145] (pure (.value (.bool true)):Sem Next) (λ_ _ _ _ _=>rfl)<| T_g1 47 147 (.bool true) (bv 48 281474976710655) [120,146] (pure (.value (.bool true)):Sem Next) (λ_ _ _ _ _=>rfl)<| eI [(0,vp hv),(1,vp m),(2,vu wv),(3,vi a),(4,vi i),(147,.bool true)] sk<| yz<| aE<| fH (true:Bool) sk h
       rw[if_neg c77]at h
       exact yq 8 (Code.ops K21) [] 48 (bv 48 0) (show aK _ _ _ from trivial)<| T_gp 0 (some 100) (vi d) (bv 48 1) [(0,vp hv),(1,vp m),(2,vu wv),(3,vi a),(4,vi i),(19,vi d),(20,vp (pa b)),(100,vi d)]<| aF 1 101 (.bool (decide (d<0))) (bv 48 3) [100]<| aF 2 102 (.bool (decide (d<0))) (bv 48 7) [101]<| G_bd 102 (zJ c42)<| aA 3 (some 103) (bv 48 15) [] [(103,undef)]<| aA 4 (some 104) (bv 48 31) [] [(104,undef)]<| aA 5 (some 105) (bv 48 63) [103,104] [(105,undef)]<| aA 6 (some 106) (bv 48 127) [105] [(106,undef)]<| aA 7 (some 107) (bv 48 255) [106] [(107,undef)]<| aA 8 (some 108) (bv 48 511) [] [(108,undef)]<| aA 9 (some 109) (bv 48 1023) [] [(109,undef)]<| aA 10 (some 110) (bv 48 2047) [108,109] [(110,undef)]<| aA 11 (some 111) (bv 48 4095) [110] [(111,undef)]<| aA 12 (some 112) (bv 48 8191) [107,111] [(112,undef)]<| aA 13 (some 113) (bv 48 16383) [112] [(113,undef)]<| aA 14 (some 114) (bv 48 32767) [] [(114,undef)]<| aA 15 (some 115) (bv 48 65535) [] [(115,undef)]<| aA 16 (some 116) (bv 48 131071) [114,115] [(116,undef)]<| aA 17 (some 117) (bv 48 262143) [116] [(117,undef)]<| aA 18 (some 118) (bv 48 524287) [113,117] [(118,undef)]<| aF 19 119 (.bool false) (bv 48 1048575) [102,118]<| aF 20 120 (.bool false) (bv 48 2097151) [119]<| aF 21 121 (vi d) (bv 48 4194303) [19]<| aF 22 122 (.bool (decide (d>=0))) (bv 48 8388607) [121]<| aF 23 123 (.bool (decide (d>=0))) (bv 48 16777215) [122]<| G_bd 123 (zJ c77)<| aA 24 (some 124) (bv 48 33554431) [] [(124,undef)]<| aA 25 (some 125) (bv 48 67108863) [] [(125,undef)]<| aA 26 (some 126) (bv 48 134217727) [124,125] [(126,undef)]<| aA 27 (some 127) (bv 48 268435455) [] [(127,undef)]<| aA 28 (some 128) (bv 48 536870911) [127] [(128,undef)]<| aA 29 (some 129) (bv 48 1073741823) [126,128] [(129,undef)]<| aA 30 (some 130) (bv 48 2147483647) [129] [(130,undef)]<| aA 31 (some 131) (bv 48 4294967295) [] [(131,undef)]<| aA 32 (some 132) (bv 48 8589934591) [] [(132,undef)]<| aA 33 (some 133) (bv 48 17179869183) [131,132] [(133,undef)]<| aA 34 (some 134) (bv 48 34359738367) [] [(134,undef)]<| aA 35 (some 135) (bv 48 68719476735) [134] [(135,undef)]<| aA 36 (some 136) (bv 48 137438953471) [133,135] [(136,undef)]<| aA 37 (some 137) (bv 48 274877906943) [130,136] [(137,undef)]<| aA 38 (some 138) (bv 48 549755813887) [137] [(138,undef)]<| aA 39 (some 139) (bv 48 1099511627775) [] [(139,undef)]<| aA 40 (some 140) (bv 48 2199023255551) [] [(140,undef)]<| aA 41 (some 141) (bv 48 4398046511103) [139,140] [(141,undef)]<| aA 42 (some 142) (bv 48 8796093022207) [20] [(142,undef)]<| aA 43 (some 143) (bv 48 17592186044415) [142] [(143,undef)]<| aA 44 (some 144) (bv 48 35184372088831) [141,143] [(144,undef)]<| aA 45 (some 145) (bv 48 70368744177663) [138,144] [(145,undef)]<| aF 46 146 (.bool false) (bv 48 140737488355327) [123,145]<| aF 47 147 (.bool false) (bv 48 281474976710655) [120,146]<| eI [(0,vp hv),(1,vp m),(2,vu wv),(3,vi a),(4,vi i),(147,.bool false)] sk<| yz<| aE<| fH (false:Bool) sk h
      rw[if_neg c15]at h
      exact aH 99 (bne_iff_ne.mpr c15)<| ar 7<| T_nr 1 [10] [.bool false] hQ h
     rw[if_neg c13]at h
     exact N_bd 91 (congrArg Bool.not (zK c13))<| T_ed 8 [91] [(99,.bool true)]<| T_tz 99<| ar 7<| T_nr 1 [10] [.bool false] hQ h
    rw[if_neg c11]at h
    exact N_bd 81 (bne_iff_ne.mpr c11)<| T_ed 18 [81] [(99,.bool true)]<| T_tz 99<| ar 7<| T_nr 1 [10] [.bool false] hQ h
   rw[if_neg c9]at h
   exact N_bd 76 (bne_iff_ne.mpr c9)<| T_ed 23 [16,18,76] [(99,.bool true)]<| T_tz 99<| ar 7<| T_nr 1 [10] [.bool false] hQ h
  rw[if_neg c7]at h
  exact N_bd 71 (bne_iff_ne.mpr c7)<| T_ed 28 [15,16,17,18,71] [(99,.bool true)]<| T_tz 99<| ar 7<| T_nr 1 [10] [.bool false] hQ h
 rw[if_neg c5]at h
 exact N_bd 66 (bne_iff_ne.mpr c5)<| T_ed 33 [12,14,15,16,17,18,66] [(99,.bool true)]<| T_tz 99<| ar 7<| T_nr 1 [10] [.bool false] hQ h
end dG

/-! moraine/morainelaw10.does -/
namespace dN
def K0:=Func.code Tryz.f11
def K2:=cb K0
def K3:=ca K2
def K4:=cb K2
def K6:=cb K4
def K8:=cb K6
def K9:=ca K8
def K12:=cb K9
def K13:=ca K12
def K15:=cb K13
def K17:=cb K15
def K37:=cb K17
def K39:=cb K37
def K43:=cb K39
def K44:=ca K43
def K45:=cb K43
def K47:=cb K44
def K48:=ca K47
def K51:=cb K45
def K53:=cb K51
def K57:=cb K53
def K59:=cb K57
def K63:=cb K59
def K65:=cb K63
def K69:=cb K65
def K74:=ca K69
def K75:=cb K69
def K76:=ca K74
def K79:=cb K75
def K80:=ca K79
def K82:=ca K80
end dN
def dN.pt(hv m:zY)(cr ct b6 cp b7 bp xN bq:Int)(cs:zY)(co cq:Nat)(xS:ByteArray)(a7:Bool)(a0:zY)(az a1:Nat)(d:zY)(a e:Nat)(H:zW)(R:zv):Prop:=
 ∀(b:Nat) (H1:zW),b=H.size->H1=H.push (.cells #[.int .i64 cr,.int .u64 ct,.int .i64 b6,.int .u64 cp,.int .i64 b7,.int .i64 bp,.int .i64 xN,.int .u64 bq,.slice cs co cq,.string xS,.bool a7,.slice a0 az a1] 41)->
 ∃xW be:Int,aG H1 ((ad b).add 1) 0 [.int .u64 xW,.int .i64 be]/\
 ∃ba a2:Int,aG H1 ((ad b).add 3) 0 [.int .u64 ba,.int .i64 a2]/\
 dC.C xW be d a e H1 (λv H2=> ∃x:Int,v=.int .u64 x/\aG H2 ((ad b).add 3) 0 [.int .u64 ba,.int .i64 a2]/\
 dC.C ba a2 d a e H2 (λdm H3=> ∃f:Int,dm=.int .u64 f/\
 ∃i:Int,hat H3 (ad b)=some (.int .i64 i)/\
 if i=0 then(
 fI.C hv x f H3 (λd0 H4=> ∃ra rb:Int,d0=.tuple #[.int .u64 ra,.int .i64 rb]/\
 cG.C m false x f H4 (λdv H5=> ∃ag aq:Int,dv=.tuple #[.int .u64 ag,.int .i64 aq]/\
 if((ra !=ag) || (rb !=aq))=true then(
 R (.tuple #[.slice d a e,.bool false]) H5)
 else
 if rb=0 then(
 ∀(cj:Nat) (H6:zW),cj=H5.size->H6=H5.push (.cells #[.int .u64 ra] 33)->
 bW 1 33 8 [.int .u64 0] d a e (some (ad cj)) 1 H6 (λap ci H7=>
 R (.tuple #[.slice ap (a+1) ci,.bool true]) H7))
 else
 R (.tuple #[.slice d a e,.bool true]) H5)))
 else
 if i=1 then(
 gw.C hv x f H3 (λdz H8=> ∃r z:Int,dz=.tuple #[.int .u64 r,.int .i64 z]/\
 cG.C m true x f H8 (λdx H9=> ∃am an:Int,dx=.tuple #[.int .u64 am,.int .i64 an]/\
 if((r !=am) || (z !=an))=true then(
 R (.tuple #[.slice d a e,.bool false]) H9)
 else
 if z=0 then(
 ∀(cg:Nat) (H10:zW),cg=H9.size->H10=H9.push (.cells #[.int .u64 r] 33)->
 bW 1 33 8 [.int .u64 0] d a e (some (ad cg)) 1 H10 (λb0 bm d3=>
 R (.tuple #[.slice b0 (a+1) bm,.bool true]) d3))
 else
 R (.tuple #[.slice d a e,.bool true]) H9)))
 else
 if i=2 then(
 ∃(xB:zY) (br xC:Nat),hat H3 ((ad b).add 8)=some (.slice xB br xC)/\
 dV.C xB br xC d a e H3 (λd2 c0=> ∃(t:zY) (q u:Nat),d2=.slice t q u/\
 ∃a8:Int,hat c0 ((ad b).add 5)=some (.int .i64 a8)/\
 ∃bd:Int,hat c0 ((ad b).add 7)=some (.int .u64 bd)/\
 ∀(ch:Nat) (H13:zW),ch=c0.size->H13=c0.push (.cells #[] 33)->aG H13 ((ad b).add 5) 0 [.int .i64 a8]/\aG H13 ((ad b).add 7) 0 [.int .u64 bd]/\
 bW 1 33 8 [.int .u64 0] (some (ad ch)) 0 0 t q H13 (λcu b9 c4=>
 aG c4 ((ad b).add 5) 0 [.int .i64 a8]/\aG c4 ((ad b).add 7) 0 [.int .u64 bd]/\dO.C hv a8 bd cu (0+q) b9 c4 (λdp c2=> ∃j k:Int,dp=.tuple #[.int .u64 j,.int .i64 k]/\
 ∃bt:Int,hat c2 ((ad b).add 5)=some (.int .i64 bt)/\
 ∃cd:Int,hat c2 ((ad b).add 7)=some (.int .u64 cd)/\
 aY.C m bt cd t q u c2 (λdu cx=> ∃ak ai:Int,du=.tuple #[.int .u64 ak,.int .i64 ai]/\
 if((j !=ak) || (k !=ai))=true then(
 R (.tuple #[.slice d a e,.bool false]) cx)
 else
 if k=0 then(
 ∀(cl:Nat) (H17:zW),cl=cx.size->H17=cx.push (.cells #[.int .u64 j] 33)->
 bW 1 33 8 [.int .u64 0] d a e (some (ad cl)) 1 H17 (λb4 bl dr=>
 R (.tuple #[.slice b4 (a+1) bl,.bool true]) dr))
 else
 R (.tuple #[.slice d a e,.bool true]) cx)))))
 else
 if i=3 then(
 ∃cc:Int,hat H3 ((ad b).add 6)=some (.int .i64 cc)/\
 dZ.C hv cc x H3 (λc8 db=> ∃o s:Int,c8=.tuple #[.int .u64 o,.int .i64 s]/\
 ∃ce:Int,hat db ((ad b).add 6)=some (.int .i64 ce)/\
 bY.C m ce x db (λc5 cv=> ∃al aj:Int,c5=.tuple #[.int .u64 al,.int .i64 aj]/\
 if((o !=al) || (s !=aj))=true then(
 R (.tuple #[.slice d a e,.bool false]) cv)
 else
 if s=0 then(
 ∀(ck:Nat) (H21:zW),ck=cv.size->H21=cv.push (.cells #[.int .u64 o] 33)->
 bW 1 33 8 [.int .u64 0] d a e (some (ad ck)) 1 H21 (λb2 bi dq=>
 R (.tuple #[.slice b2 (a+1) bi,.bool true]) dq))
 else
 R (.tuple #[.slice d a e,.bool true]) cv)))
 else
 if i=4 then(
 ∃bu:ByteArray,hat H3 ((ad b).add 9)=some (.string bu)/\
 eq.C hv bu H3 (λdh di=> ∃p y:Int,dh=.tuple #[.int .u64 p,.int .i64 y]/\
 ∃b5:ByteArray,hat di ((ad b).add 9)=some (.string b5)/\
 bZ.C m b5 di (λdg cw=> ∃aa ab:Int,dg=.tuple #[.int .u64 aa,.int .i64 ab]/\
 if((p !=aa) || (y !=ab))=true then(
 R (.tuple #[.slice d a e,.bool false]) cw)
 else
 if y=0 then(
 ∀(cm:Nat) (H25:zW),cm=cw.size->H25=cw.push (.cells #[.int .u64 p] 33)->
 bW 1 33 8 [.int .u64 0] d a e (some (ad cm)) 1 H25 (λb1 bn dt=>
 R (.tuple #[.slice b1 (a+1) bn,.bool true]) dt))
 else
 R (.tuple #[.slice d a e,.bool true]) cw)))
 else
 if i=5 then(
 ∃(bz:Bool) (bk:zY) (bj bo:Nat),aG H3 ((ad b).add 10) 0 [.bool bz,.slice bk bj bo]/\
 gR.C hv bz bk bj bo H3 (λda dl=> ∃l n:Int,da=.tuple #[.int .u64 l,.int .i64 n]/\
 ∃(bb:Bool) (a4:zY) (a5 a6:Nat),aG dl ((ad b).add 10) 0 [.bool bb,.slice a4 a5 a6]/\
 cT.C m bb a4 a5 a6 dl (λc6 cy=> ∃ac ae:Int,c6=.tuple #[.int .u64 ac,.int .i64 ae]/\
 if((l !=ac) || (n !=ae))=true then(
 R (.tuple #[.slice d a e,.bool false]) cy)
 else
 if n=0 then(
 ∀(cn:Nat) (H29:zW),cn=cy.size->H29=cy.push (.cells #[.int .u64 l] 33)->
 bW 1 33 8 [.int .u64 0] d a e (some (ad cn)) 1 H29 (λbx bh d1=>
 R (.tuple #[.slice bx (a+1) bh,.bool true]) d1))
 else
 R (.tuple #[.slice d a e,.bool true]) cy)))
 else
 ∃J:Bool->zW->Prop,(
 if i=6 then(
 J true H3)
 else
 J (i==7) H3)/\ ∀(bg:Bool) (H31:zW),J bg H31->
 if bg=true then(
 ∃ah:Int,hat H31 (ad b)=some (.int .i64 ah)/\
 ∃aw:Int,hat H31 (ad b)=some (.int .i64 aw)/\
 dD.C hv ah x f H31 (λdf dj=> ∃au:Int,df=.int .i64 au/\aG dj (ad b) 0 [.int .i64 aw]/\
 bT.C m x (zq (aw-6)) f dj (λdc dn=> ∃ax:Int,dc=.int .i64 ax/\
 R (.tuple #[.slice d a e,.bool (au==ax)]) dn)))
 else
 if i=8 then(
 ∃af:Int,hat H31 ((ad b).add 5)=some (.int .i64 af)/\
 ∃ao:Int,hat H31 ((ad b).add 6)=some (.int .i64 ao)/\
 ∃a3:Int,hat H31 ((ad b).add 5)=some (.int .i64 a3)/\
 ∃a9:Int,hat H31 ((ad b).add 6)=some (.int .i64 a9)/\
 gS.C hv x af ao f H31 (λde c1=> ∃av:Int,de=.int .i64 av/\aG c1 ((ad b).add 5) 0 [.int .i64 a3]/\aG c1 ((ad b).add 6) 0 [.int .i64 a9]/\
 cU.C m x a3 a9 f c1 (λdk dy=> ∃ay:Int,dk=.int .i64 ay/\
 R (.tuple #[.slice d a e,.bool (av==ay)]) dy)))
 else
 if i=9 then(
 ∃bf:Int,hat H31 ((ad b).add 5)=some (.int .i64 bf)/\
 ∃b3:Int,hat H31 ((ad b).add 6)=some (.int .i64 b3)/\
 dG.C hv m x bf b3 H31 (λdd dw=> ∃bw:Bool,dd=.bool bw/\
 R (.tuple #[.slice d a e,.bool bw]) dw))
 else
 if i=11 then(
 fU.C hv H31 (λ_ cz=>
 ∃mA:Addr,m=some mA/\
 ∃bc:Int,hat cz (mA.add 1)=some (.int .u64 bc)/\
 (aJ cz (mA.add 1) 0 1)/\ ∀c3,c3=aP cz (mA.add 1) [.int .u64 (IntKind.wrap .u64 (bc+1))] 0->
 R (.tuple #[.slice d a e,.bool true]) c3))
 else
 R (.tuple #[.slice d a e,.bool true]) H31))
namespace dN
theorem link{hv m:zY}{cr ct b6 cp b7 bp xN bq:Int}{cs:zY}{co cq:Nat}{xS:ByteArray}{a7:Bool}{a0:zY}{az a1:Nat}{d:zY}{a e:Nat}{H:zW}{R:zv}(h:pt hv m cr ct b6 cp b7 bp xN bq cs co cq xS a7 a0 az a1 d a e H R):C hv m cr ct b6 cp b7 bp xN bq cs co cq xS a7 a0 az a1 d a e H R:=by
 refine T_en K0 215 Tryz.func11 ?_
 intro w0 Q hQ
 unfold pt zq at h
 refine T_su [(0,vp hv),(1,vp m),(2,.agg #[vi cr,vu ct,vi b6,vu cp,vi b7,vi bp,vi xN,vu bq,vs cs co cq,.string xS,.bool a7,vs a0 az a1]),(3,vs d a e)]<| ar 0<| T_nw (some 6) (λb=>vp (pa b)) (.cells #[vi cr,vu ct,vi b6,vu cp,vi b7,vi bp,vi xN,vu bq,vs cs co cq,.string xS,.bool a7,vs a0 az a1] 41) ?_
 intro b H1 e1 e2
 replace h:=h b H1 e1 e2
 refine T_pd [2] [(6,vp (pa b))]<| T_ed 2 [] []<| T_sz ?_
 obtain⟨xW,be,q3,ba,a2,q4,h⟩:=h
 refine yq 1 (Code.ops K3) [(3,((ad b).add 1),[vu xW,vi be]),(7,((ad b).add 3),[vu ba,vi a2])] 10 (bv 10 0) (show aK _ _ _ from⟨q3,q4,trivial⟩)<| T_gp 0 (some 17) (vp (some ((ad b).add 1))) (bv 10 1) [(0,vp hv),(1,vp m),(3,vs d a e),(6,vp (pa b)),(17,vp (some ((ad b).add 1)))]<| T_g1 1 18 (.agg #[vu xW,vi be]) (bv 10 3) [17] (aT 35 (vp (some ((ad b).add 1)))) (iY 3 (λ_=>by kernel_rfl) (λ_=>by kernel_rfl) yX (.inl (by kernel_rfl)))<| aF 2 19 (vs d a e) (bv 10 7) []<| aF 4 21 (vp (some ((ad b).add 3))) (bv 10 23) []<| T_g1 5 22 (.agg #[vu ba,vi a2]) (bv 10 55) [21] (aT 35 (vp (some ((ad b).add 3)))) (iY 7 (λ_=>by kernel_rfl) (λ_=>by kernel_rfl) yQ (.inl (by kernel_rfl)))<| aF 6 23 (vs d a e) (bv 10 119) []<| yx 3 (some 20) (bv 10 127) 33 #[.agg #[vu xW,vi be],vs d a e] h ?_;clear h
 rintro v H2 ⟨x,rfl,f5,h⟩
 refine⟨[(0,vp hv),(1,vp m),(3,vs d a e),(6,vp (pa b)),(20,vu x),(22,.agg #[vu ba,vi a2]),(23,vs d a e)],pk,(show aK _ _ _ from⟨trivial,f5,trivial⟩),?_⟩
 refine yx 7 (some 24) (bv 10 255) 33 #[.agg #[vu ba,vi a2],vs d a e] h ?_;clear h
 rintro dm H3 ⟨f,rfl,h⟩
 refine⟨[(0,vp hv),(1,vp m),(3,vs d a e),(6,vp (pa b)),(20,vu x),(24,vu f)],pk,(show aK _ _ _ from⟨trivial,trivial,trivial⟩),?_⟩
 refine T_g 8 (some 10) (vu x) (bv 10 511) [(0,vp hv),(1,vp m),(3,vs d a e),(6,vp (pa b)),(10,vu x),(24,vu f)] (pure (.value (vu x)):Sem Next) (λ_ _ _ _ _=>rfl)<| T_g1 9 11 (vu f) (bv 10 1023) [24] (pure (.value (vu f)):Sem Next) (λ_ _ _ _ _=>rfl)<| eI [(0,vp hv),(1,vp m),(3,vs d a e),(6,vp (pa b)),(10,vu x),(11,vu f)] sk<| yz<| aE<| ar 2<| T_ne 2 [(0,vp hv),(1,vp m),(3,vs d a e),(6,vp (pa b)),(10,vu x),(11,vu f)]<| ar 3<| T_ed 2 [] []<| T_sz<| ar 4<| T_nd 1 [] [(25,vp (pa b))] ?_
 obtain⟨i,q6,h⟩:=h
 refine T_l1 26 3 q6 [25]<| T_e<| T_bz 0<| ar 6<| T_ed 2 [] [(28,.bool (i==0))] ?_
 by_cases c7:i=0
 ·rw[if_pos c7]at h
  refine aH 28 (zV c7)<| ar 7<| T_nd 3 [0,6,26,28] [(31,vp hv),(32,vu x),(33,vu f)]<| T_c (some 34) h ?_;clear h
  rintro d0 H4 ⟨ra,rb,rfl,h⟩
  refine T_pd [31,32,33] [(34,.tuple #[vu ra,vi rb])]<| T_ed 5 [34] [(12,vu ra),(14,vi rb)]<| T_rz 8<| T_nd 3 [1,10,11] [(38,vp m),(39,vu x),(40,vu f)]<| T_c (some 41) h ?_;clear h
  rintro dv H5 ⟨ag,aq,rfl,h⟩
  refine T_pd [38,39,40] [(41,.tuple #[vu ag,vi aq])]<| T_nd 5 [41] [(13,vu ag),(15,vi aq)]<| zx<| aL<| aE<| T_sz<| ar 36 ?_
  refine gp [(3,vs d a e),(12,vu ra),(14,vi rb),(206,.bool ((ra !=ag) || (rb !=aq)))] ?_ ?_
  ·refine aE ?_
   by_cases c11:((ra !=ag) || (rb !=aq))=true
   ·rw[if_pos c11]at h
    exact aH 206 c11<| ar 37<| T_nr 3 [8,9] [vs d a e,.bool false] hQ h
   rw[if_neg c11]at h
   refine aI 206 (zZ c11)<| T_kt<| T_sz<| ar 38<| T_ne 2 [(3,vs d a e),(12,vu ra),(209,.bool (rb==0))] ?_
   by_cases c13:rb=0
   ·rw[if_pos c13]at h
    refine aH 209 (zV c13)<| T_rz 39<| T_n 2 [(210,vs d a e),(211,vu ra)]<| T_nw (some 212) (λb=>vs (pa b) 1 1) (.cells #[vu ra] 33) ?_
    intro cj H6 e15 e16
    replace h:=h cj H6 e15 e16
    refine T_pd [211] [(212,vs (pa cj) 1 1)]<| N_op (some 213) (cS #[31,31] 31 #[vs d a e,vs (pa cj) 1 1]) _ (λ_=>by kernel_rfl) (bP (T:=33) (sz:=1) (bytes:=8) (zero:=(vu 0:Value)) Tryz.underlying31 Tryz.underlying31 rfl (show Tryz.prog.info? 33=some Tryz.t33 from by kernel_rfl) (by kernel_rfl) (by kernel_rfl) (by decide) (by kernel_rfl) (by first | exact h | (simpa only[Value.cells,List.toList_toArray]using h))) ?_;clear h
    rintro _ H7 ⟨ap,ci,rfl,h⟩
    refine⟨[(213,vs ap (a+1) ci)],pk,?_⟩
    exact T_ne 1 [(3,vs ap (a+1) ci)]<| ar 40<| T_nr 3 [8,9] [vs ap (a+1) ci,.bool true] hQ h
   rw[if_neg c13]at h
   exact aI 209 (zK c13)<| T_kt<| ar 40<| T_nr 3 [8,9] [vs d a e,.bool true] hQ h
  intro hk
  refine T_n 4 [(3,vs d a e),(12,vu ra),(14,vi rb),(15,vi aq),(202,.bool (ra !=ag))] ?_
  by_cases c9:ra=ag
  ·have b10:(ra !=ag)=false:=bne_eq_false_iff_eq.mpr c9
   refine bV [(3,vs d a e),(12,vu ra),(14,vi rb),(15,vi aq),(202,.bool false)] (by rw[b10]) ?_
   refine T_nd 4 [15,202] [(206,.bool (rb !=aq))]<| zx<| S_bd 206 (b:=(rb !=aq)) (v:=((ra !=ag) || (rb !=aq))) (by simp only[b10,BL]) ?_
   exact hk
  have b10:(ra !=ag)=true:=bne_iff_ne.mpr c9
  refine bV [(3,vs d a e),(12,vu ra),(14,vi rb),(15,vi aq),(202,.bool true)] (by rw[b10]) ?_
  refine T_nd 4 [15,202] [(206,.bool true)]<| zx<| S_bd 206 (b:=true) (v:=((ra !=ag) || (rb !=aq))) (by simp only[b10,BL]) ?_
  exact hk
 rw[if_neg c7]at h
 refine aI 28 (zK c7)<| ar 9<| T_ed 2 [28] [(44,.bool (i==1))] ?_
 by_cases c17:i=1
 ·rw[if_pos c17]at h
  refine aH 44 (zV c17)<| ar 10<| T_nd 3 [0,6,26,44] [(47,vp hv),(48,vu x),(49,vu f)]<| T_c (some 50) h ?_;clear h
  rintro dz H8 ⟨r,z,rfl,h⟩
  refine T_pd [47,48,49] [(50,.tuple #[vu r,vi z])]<| T_ed 5 [50] [(12,vu r),(14,vi z)]<| T_rz 11<| T_nd 3 [1,10,11] [(54,vp m),(55,vu x),(56,vu f)]<| T_c (some 57) h ?_;clear h
  rintro dx H9 ⟨am,an,rfl,h⟩
  refine T_pd [54,55,56] [(57,.tuple #[vu am,vi an])]<| T_nd 5 [57] [(13,vu am),(15,vi an)]<| zx<| aL<| aE<| T_sz<| ar 36 ?_
  refine gp [(3,vs d a e),(12,vu r),(14,vi z),(206,.bool ((r !=am) || (z !=an)))] ?_ ?_
  ·refine aE ?_
   by_cases c21:((r !=am) || (z !=an))=true
   ·rw[if_pos c21]at h
    exact aH 206 c21<| ar 37<| T_nr 3 [8,9] [vs d a e,.bool false] hQ h
   rw[if_neg c21]at h
   refine aI 206 (zZ c21)<| T_kt<| T_sz<| ar 38<| T_ne 2 [(3,vs d a e),(12,vu r),(209,.bool (z==0))] ?_
   by_cases c23:z=0
   ·rw[if_pos c23]at h
    refine aH 209 (zV c23)<| T_rz 39<| T_n 2 [(210,vs d a e),(211,vu r)]<| T_nw (some 212) (λb=>vs (pa b) 1 1) (.cells #[vu r] 33) ?_
    intro cg H10 e25 e26
    replace h:=h cg H10 e25 e26
    refine T_pd [211] [(212,vs (pa cg) 1 1)]<| N_op (some 213) (cS #[31,31] 31 #[vs d a e,vs (pa cg) 1 1]) _ (λ_=>by kernel_rfl) (bP (T:=33) (sz:=1) (bytes:=8) (zero:=(vu 0:Value)) Tryz.underlying31 Tryz.underlying31 rfl (show Tryz.prog.info? 33=some Tryz.t33 from by kernel_rfl) (by kernel_rfl) (by kernel_rfl) (by decide) (by kernel_rfl) (by first | exact h | (simpa only[Value.cells,List.toList_toArray]using h))) ?_;clear h
    rintro _ d3 ⟨b0,bm,rfl,h⟩
    refine⟨[(213,vs b0 (a+1) bm)],pk,?_⟩
    exact T_ne 1 [(3,vs b0 (a+1) bm)]<| ar 40<| T_nr 3 [8,9] [vs b0 (a+1) bm,.bool true] hQ h
   rw[if_neg c23]at h
   exact aI 209 (zK c23)<| T_kt<| ar 40<| T_nr 3 [8,9] [vs d a e,.bool true] hQ h
  intro hk
  refine T_n 4 [(3,vs d a e),(12,vu r),(14,vi z),(15,vi an),(202,.bool (r !=am))] ?_
  by_cases c19:r=am
  ·have b20:(r !=am)=false:=bne_eq_false_iff_eq.mpr c19
   refine bV [(3,vs d a e),(12,vu r),(14,vi z),(15,vi an),(202,.bool false)] (by rw[b20]) ?_
   refine T_nd 4 [15,202] [(206,.bool (z !=an))]<| zx<| S_bd 206 (b:=(z !=an)) (v:=((r !=am) || (z !=an))) (by simp only[b20,BL]) ?_
   exact hk
  have b20:(r !=am)=true:=bne_iff_ne.mpr c19
  refine bV [(3,vs d a e),(12,vu r),(14,vi z),(15,vi an),(202,.bool true)] (by rw[b20]) ?_
  refine T_nd 4 [15,202] [(206,.bool true)]<| zx<| S_bd 206 (b:=true) (v:=((r !=am) || (z !=an))) (by simp only[b20,BL]) ?_
  exact hk
 rw[if_neg c17]at h
 refine aI 44 (zK c17)<| ar 12<| T_ed 2 [44] [(60,.bool (i==2))] ?_
 by_cases c27:i=2
 ·rw[if_pos c27]at h
  refine aH 60 (zV c27)<| ar 13<| T_nd 1 [10,11,26,60] [(62,vp (some ((ad b).add 8)))] ?_
  obtain⟨xB,br,xC,q29,h⟩:=h
  refine T_l1 63 36 q29 [62]<| T_nd 1 [] [(64,vs d a e)]<| T_c (some 65) h ?_;clear h
  rintro d2 c0 ⟨t,q,u,rfl,h⟩
  refine T_pd [63,64] [(65,vs t q u)]<| T_ed 1 [65] [(16,vs t q u)]<| T_sz ?_
  obtain⟨a8,q30,bd,q31,h⟩:=h
  refine yq 14 (Code.ops K48) [(8,((ad b).add 5),[vi a8]),(8,((ad b).add 7),[vu bd])] 14 (bv 14 0) (show aK _ _ _ from⟨⟨q30,trivial⟩,⟨q31,trivial⟩,trivial⟩)<| T_gp 0 (some 67) (vp hv) (bv 14 1) [(1,vp m),(3,vs d a e),(6,vp (pa b)),(16,vs t q u),(67,vp hv)]<| aF 1 68 (vp (some ((ad b).add 5))) (bv 14 3) []<| T_g1 2 69 (vi a8) (bv 14 7) [68] (aT 3 (vp (some ((ad b).add 5)))) (yY 8 yX)<| aF 3 70 (vp (some ((ad b).add 7))) (bv 14 15) []<| T_g1 4 71 (vu bd) (bv 14 31) [70] (aT 32 (vp (some ((ad b).add 7)))) (yY 8 yQ)<| aF 6 73 (vs t q u) (bv 14 95) []<| oG 5 (some 72) (bv 14 127) (λb=>vs (pa b) 0 0) (.cells #[] 33) (by kernel_rfl) (λ_=>by kernel_rfl) (by kernel_rfl) ?_
  intro ch H13 e34 e35
  replace h:=h ch H13 e34 e35
  obtain⟨f32,f33,h⟩:=h
  refine⟨[(1,vp m),(3,vs d a e),(6,vp (pa b)),(16,vs t q u),(67,vp hv),(69,vi a8),(71,vu bd),(72,vs (pa ch) 0 0),(73,vs t q u)],pk,(show aK _ _ _ from⟨f32,f33,trivial⟩),?_⟩
  refine pS 7 (some 74) (bv 14 255) (cS #[31,31] 31 #[vs (pa ch) 0 0,vs t q u]) _ (by kernel_rfl) (λ_=>by kernel_rfl) (bP (T:=33) (sz:=1) (bytes:=8) (zero:=(vu 0:Value)) Tryz.underlying31 Tryz.underlying31 rfl (show Tryz.prog.info? 33=some Tryz.t33 from by kernel_rfl) (by kernel_rfl) (by kernel_rfl) (by decide) (by kernel_rfl) (by first | exact h | (simpa only[Value.cells,List.toList_toArray]using h))) (by kernel_rfl) ?_;clear h
  rintro _ c4 ⟨cu,b9,rfl,f36,f37,h⟩
  refine⟨[(1,vp m),(3,vs d a e),(6,vp (pa b)),(16,vs t q u),(67,vp hv),(69,vi a8),(71,vu bd),(74,vs cu (0+q) b9)],pk,(show aK _ _ _ from⟨f36,f37,trivial⟩),?_⟩
  refine yx 8 (some 75) (bv 14 511) 37 #[vp hv,vi a8,vu bd,vs cu (0+q) b9] h ?_;clear h
  rintro dp c2 ⟨j,k,rfl,h⟩
  refine⟨[(1,vp m),(3,vs d a e),(6,vp (pa b)),(16,vs t q u),(75,.tuple #[vu j,vi k])],pk,(show aK _ _ _ from⟨trivial,trivial,trivial⟩),?_⟩
  refine T_g 9 (some 66) (.tuple #[vu j,vi k]) (bv 14 1023) [(1,vp m),(3,vs d a e),(6,vp (pa b)),(16,vs t q u),(66,.tuple #[vu j,vi k])] (pure (.value (.tuple #[vu j,vi k])):Sem Next) (λ_ _ _ _ _=>rfl)<| T_g1 10 76 (vu j) (bv 14 2047) [] (pure (.value (vu j)):Sem Next) (λ_ _ _ _ _=>rfl)<| T_g1 11 77 (vi k) (bv 14 4095) [66] (pure (.value (vi k)):Sem Next) (λ_ _ _ _ _=>rfl)<| T_g1 12 12 (vu j) (bv 14 8191) [76] (pure (.value (vu j)):Sem Next) (λ_ _ _ _ _=>rfl)<| T_g1 13 14 (vi k) (bv 14 16383) [77] (pure (.value (vi k)):Sem Next) (λ_ _ _ _ _=>rfl)<| eI [(1,vp m),(3,vs d a e),(6,vp (pa b)),(12,vu j),(14,vi k),(16,vs t q u)] sk<| yz<| aE<| T_rz 15<| T_n 2 [(3,vs d a e),(6,vp (pa b)),(12,vu j),(14,vi k),(16,vs t q u),(79,vp m),(80,vp (some ((ad b).add 5)))] ?_
  obtain⟨bt,q38,h⟩:=h
  refine T_l1 81 3 q38 [80]<| T_nd 1 [6] [(82,vp (some ((ad b).add 7)))] ?_
  obtain⟨cd,q39,h⟩:=h
  refine T_l1 83 32 q39 [82]<| T_nd 1 [16] [(84,vs t q u)]<| T_c (some 85) h ?_;clear h
  rintro du cx ⟨ak,ai,rfl,h⟩
  refine T_pd [79,81,83,84] [(85,.tuple #[vu ak,vi ai])]<| T_nd 5 [85] [(13,vu ak),(15,vi ai)]<| zx<| aL<| aE<| T_sz<| ar 36 ?_
  refine gp [(3,vs d a e),(12,vu j),(14,vi k),(206,.bool ((j !=ak) || (k !=ai)))] ?_ ?_
  ·refine aE ?_
   by_cases c42:((j !=ak) || (k !=ai))=true
   ·rw[if_pos c42]at h
    exact aH 206 c42<| ar 37<| T_nr 3 [8,9] [vs d a e,.bool false] hQ h
   rw[if_neg c42]at h
   refine aI 206 (zZ c42)<| T_kt<| T_sz<| ar 38<| T_ne 2 [(3,vs d a e),(12,vu j),(209,.bool (k==0))] ?_
   by_cases c44:k=0
   ·rw[if_pos c44]at h
    refine aH 209 (zV c44)<| T_rz 39<| T_n 2 [(210,vs d a e),(211,vu j)]<| T_nw (some 212) (λb=>vs (pa b) 1 1) (.cells #[vu j] 33) ?_
    intro cl H17 e46 e47
    replace h:=h cl H17 e46 e47
    refine T_pd [211] [(212,vs (pa cl) 1 1)]<| N_op (some 213) (cS #[31,31] 31 #[vs d a e,vs (pa cl) 1 1]) _ (λ_=>by kernel_rfl) (bP (T:=33) (sz:=1) (bytes:=8) (zero:=(vu 0:Value)) Tryz.underlying31 Tryz.underlying31 rfl (show Tryz.prog.info? 33=some Tryz.t33 from by kernel_rfl) (by kernel_rfl) (by kernel_rfl) (by decide) (by kernel_rfl) (by first | exact h | (simpa only[Value.cells,List.toList_toArray]using h))) ?_;clear h
    rintro _ dr ⟨b4,bl,rfl,h⟩
    refine⟨[(213,vs b4 (a+1) bl)],pk,?_⟩
    exact T_ne 1 [(3,vs b4 (a+1) bl)]<| ar 40<| T_nr 3 [8,9] [vs b4 (a+1) bl,.bool true] hQ h
   rw[if_neg c44]at h
   exact aI 209 (zK c44)<| T_kt<| ar 40<| T_nr 3 [8,9] [vs d a e,.bool true] hQ h
  intro hk
  refine T_n 4 [(3,vs d a e),(12,vu j),(14,vi k),(15,vi ai),(202,.bool (j !=ak))] ?_
  by_cases c40:j=ak
  ·have b41:(j !=ak)=false:=bne_eq_false_iff_eq.mpr c40
   refine bV [(3,vs d a e),(12,vu j),(14,vi k),(15,vi ai),(202,.bool false)] (by rw[b41]) ?_
   refine T_nd 4 [15,202] [(206,.bool (k !=ai))]<| zx<| S_bd 206 (b:=(k !=ai)) (v:=((j !=ak) || (k !=ai))) (by simp only[b41,BL]) ?_
   exact hk
  have b41:(j !=ak)=true:=bne_iff_ne.mpr c40
  refine bV [(3,vs d a e),(12,vu j),(14,vi k),(15,vi ai),(202,.bool true)] (by rw[b41]) ?_
  refine T_nd 4 [15,202] [(206,.bool true)]<| zx<| S_bd 206 (b:=true) (v:=((j !=ak) || (k !=ai))) (by simp only[b41,BL]) ?_
  exact hk
 rw[if_neg c27]at h
 refine aI 60 (zK c27)<| ar 16<| T_ed 2 [60] [(88,.bool (i==3))] ?_
 by_cases c48:i=3
 ·rw[if_pos c48]at h
  refine aH 88 (zV c48)<| ar 17<| T_nd 2 [0,11,26,88] [(91,vp hv),(92,vp (some ((ad b).add 6)))] ?_
  obtain⟨cc,q50,h⟩:=h
  refine T_l1 93 3 q50 [92]<| T_nd 1 [] [(94,vu x)]<| T_c (some 95) h ?_;clear h
  rintro c8 db ⟨o,s,rfl,h⟩
  refine T_pd [91,93,94] [(95,.tuple #[vu o,vi s])]<| T_ed 5 [95] [(12,vu o),(14,vi s)]<| T_rz 18<| T_nd 2 [1,6] [(99,vp m),(100,vp (some ((ad b).add 6)))] ?_
  obtain⟨ce,q51,h⟩:=h
  refine T_l1 101 3 q51 [100]<| T_nd 1 [10] [(102,vu x)]<| T_c (some 103) h ?_;clear h
  rintro c5 cv ⟨al,aj,rfl,h⟩
  refine T_pd [99,101,102] [(103,.tuple #[vu al,vi aj])]<| T_nd 5 [103] [(13,vu al),(15,vi aj)]<| zx<| aL<| aE<| T_sz<| ar 36 ?_
  refine gp [(3,vs d a e),(12,vu o),(14,vi s),(206,.bool ((o !=al) || (s !=aj)))] ?_ ?_
  ·refine aE ?_
   by_cases c54:((o !=al) || (s !=aj))=true
   ·rw[if_pos c54]at h
    exact aH 206 c54<| ar 37<| T_nr 3 [8,9] [vs d a e,.bool false] hQ h
   rw[if_neg c54]at h
   refine aI 206 (zZ c54)<| T_kt<| T_sz<| ar 38<| T_ne 2 [(3,vs d a e),(12,vu o),(209,.bool (s==0))] ?_
   by_cases c56:s=0
   ·rw[if_pos c56]at h
    refine aH 209 (zV c56)<| T_rz 39<| T_n 2 [(210,vs d a e),(211,vu o)]<| T_nw (some 212) (λb=>vs (pa b) 1 1) (.cells #[vu o] 33) ?_
    intro ck H21 e58 e59
    replace h:=h ck H21 e58 e59
    refine T_pd [211] [(212,vs (pa ck) 1 1)]<| N_op (some 213) (cS #[31,31] 31 #[vs d a e,vs (pa ck) 1 1]) _ (λ_=>by kernel_rfl) (bP (T:=33) (sz:=1) (bytes:=8) (zero:=(vu 0:Value)) Tryz.underlying31 Tryz.underlying31 rfl (show Tryz.prog.info? 33=some Tryz.t33 from by kernel_rfl) (by kernel_rfl) (by kernel_rfl) (by decide) (by kernel_rfl) (by first | exact h | (simpa only[Value.cells,List.toList_toArray]using h))) ?_;clear h
    rintro _ dq ⟨b2,bi,rfl,h⟩
    refine⟨[(213,vs b2 (a+1) bi)],pk,?_⟩
    exact T_ne 1 [(3,vs b2 (a+1) bi)]<| ar 40<| T_nr 3 [8,9] [vs b2 (a+1) bi,.bool true] hQ h
   rw[if_neg c56]at h
   exact aI 209 (zK c56)<| T_kt<| ar 40<| T_nr 3 [8,9] [vs d a e,.bool true] hQ h
  intro hk
  refine T_n 4 [(3,vs d a e),(12,vu o),(14,vi s),(15,vi aj),(202,.bool (o !=al))] ?_
  by_cases c52:o=al
  ·have b53:(o !=al)=false:=bne_eq_false_iff_eq.mpr c52
   refine bV [(3,vs d a e),(12,vu o),(14,vi s),(15,vi aj),(202,.bool false)] (by rw[b53]) ?_
   refine T_nd 4 [15,202] [(206,.bool (s !=aj))]<| zx<| S_bd 206 (b:=(s !=aj)) (v:=((o !=al) || (s !=aj))) (by simp only[b53,BL]) ?_
   exact hk
  have b53:(o !=al)=true:=bne_iff_ne.mpr c52
  refine bV [(3,vs d a e),(12,vu o),(14,vi s),(15,vi aj),(202,.bool true)] (by rw[b53]) ?_
  refine T_nd 4 [15,202] [(206,.bool true)]<| zx<| S_bd 206 (b:=true) (v:=((o !=al) || (s !=aj))) (by simp only[b53,BL]) ?_
  exact hk
 rw[if_neg c48]at h
 refine aI 88 (zK c48)<| ar 19<| T_ed 2 [88] [(106,.bool (i==4))] ?_
 by_cases c60:i=4
 ·rw[if_pos c60]at h
  refine aH 106 (zV c60)<| ar 20<| T_nd 2 [0,10,11,26,106] [(109,vp hv),(110,vp (some ((ad b).add 9)))] ?_
  obtain⟨bu,q62,h⟩:=h
  refine T_l1 111 9 q62 [110]<| T_c (some 112) h ?_;clear h
  rintro dh di ⟨p,y,rfl,h⟩
  refine T_pd [109,111] [(112,.tuple #[vu p,vi y])]<| T_ed 5 [112] [(12,vu p),(14,vi y)]<| T_rz 21<| T_nd 2 [1,6] [(116,vp m),(117,vp (some ((ad b).add 9)))] ?_
  obtain⟨b5,q63,h⟩:=h
  refine T_l1 118 9 q63 [117]<| T_c (some 119) h ?_;clear h
  rintro dg cw ⟨aa,ab,rfl,h⟩
  refine T_pd [116,118] [(119,.tuple #[vu aa,vi ab])]<| T_nd 5 [119] [(13,vu aa),(15,vi ab)]<| zx<| aL<| aE<| T_sz<| ar 36 ?_
  refine gp [(3,vs d a e),(12,vu p),(14,vi y),(206,.bool ((p !=aa) || (y !=ab)))] ?_ ?_
  ·refine aE ?_
   by_cases c66:((p !=aa) || (y !=ab))=true
   ·rw[if_pos c66]at h
    exact aH 206 c66<| ar 37<| T_nr 3 [8,9] [vs d a e,.bool false] hQ h
   rw[if_neg c66]at h
   refine aI 206 (zZ c66)<| T_kt<| T_sz<| ar 38<| T_ne 2 [(3,vs d a e),(12,vu p),(209,.bool (y==0))] ?_
   by_cases c68:y=0
   ·rw[if_pos c68]at h
    refine aH 209 (zV c68)<| T_rz 39<| T_n 2 [(210,vs d a e),(211,vu p)]<| T_nw (some 212) (λb=>vs (pa b) 1 1) (.cells #[vu p] 33) ?_
    intro cm H25 e70 e71
    replace h:=h cm H25 e70 e71
    refine T_pd [211] [(212,vs (pa cm) 1 1)]<| N_op (some 213) (cS #[31,31] 31 #[vs d a e,vs (pa cm) 1 1]) _ (λ_=>by kernel_rfl) (bP (T:=33) (sz:=1) (bytes:=8) (zero:=(vu 0:Value)) Tryz.underlying31 Tryz.underlying31 rfl (show Tryz.prog.info? 33=some Tryz.t33 from by kernel_rfl) (by kernel_rfl) (by kernel_rfl) (by decide) (by kernel_rfl) (by first | exact h | (simpa only[Value.cells,List.toList_toArray]using h))) ?_;clear h
    rintro _ dt ⟨b1,bn,rfl,h⟩
    refine⟨[(213,vs b1 (a+1) bn)],pk,?_⟩
    exact T_ne 1 [(3,vs b1 (a+1) bn)]<| ar 40<| T_nr 3 [8,9] [vs b1 (a+1) bn,.bool true] hQ h
   rw[if_neg c68]at h
   exact aI 209 (zK c68)<| T_kt<| ar 40<| T_nr 3 [8,9] [vs d a e,.bool true] hQ h
  intro hk
  refine T_n 4 [(3,vs d a e),(12,vu p),(14,vi y),(15,vi ab),(202,.bool (p !=aa))] ?_
  by_cases c64:p=aa
  ·have b65:(p !=aa)=false:=bne_eq_false_iff_eq.mpr c64
   refine bV [(3,vs d a e),(12,vu p),(14,vi y),(15,vi ab),(202,.bool false)] (by rw[b65]) ?_
   refine T_nd 4 [15,202] [(206,.bool (y !=ab))]<| zx<| S_bd 206 (b:=(y !=ab)) (v:=((p !=aa) || (y !=ab))) (by simp only[b65,BL]) ?_
   exact hk
  have b65:(p !=aa)=true:=bne_iff_ne.mpr c64
  refine bV [(3,vs d a e),(12,vu p),(14,vi y),(15,vi ab),(202,.bool true)] (by rw[b65]) ?_
  refine T_nd 4 [15,202] [(206,.bool true)]<| zx<| S_bd 206 (b:=true) (v:=((p !=aa) || (y !=ab))) (by simp only[b65,BL]) ?_
  exact hk
 rw[if_neg c60]at h
 refine aI 106 (zK c60)<| ar 22<| T_ed 2 [106] [(122,.bool (i==5))] ?_
 by_cases c72:i=5
 ·rw[if_pos c72]at h
  refine aH 122 (zV c72)<| ar 23<| T_nd 2 [0,10,11,26,122] [(125,vp hv),(126,vp (some ((ad b).add 10)))] ?_
  obtain⟨bz,bk,bj,bo,q74,h⟩:=h
  refine T_lr 127 39 q74 [126]<| T_c (some 128) h ?_;clear h
  rintro da dl ⟨l,n,rfl,h⟩
  refine T_pd [125,127] [(128,.tuple #[vu l,vi n])]<| T_ed 5 [128] [(12,vu l),(14,vi n)]<| T_rz 24<| T_nd 2 [1,6] [(132,vp m),(133,vp (some ((ad b).add 10)))] ?_
  obtain⟨bb,a4,a5,a6,q75,h⟩:=h
  refine T_lr 134 39 q75 [133]<| T_c (some 135) h ?_;clear h
  rintro c6 cy ⟨ac,ae,rfl,h⟩
  refine T_pd [132,134] [(135,.tuple #[vu ac,vi ae])]<| T_nd 5 [135] [(13,vu ac),(15,vi ae)]<| zx<| aL<| aE<| T_sz<| ar 36 ?_
  refine gp [(3,vs d a e),(12,vu l),(14,vi n),(206,.bool ((l !=ac) || (n !=ae)))] ?_ ?_
  ·refine aE ?_
   by_cases c78:((l !=ac) || (n !=ae))=true
   ·rw[if_pos c78]at h
    exact aH 206 c78<| ar 37<| T_nr 3 [8,9] [vs d a e,.bool false] hQ h
   rw[if_neg c78]at h
   refine aI 206 (zZ c78)<| T_kt<| T_sz<| ar 38<| T_ne 2 [(3,vs d a e),(12,vu l),(209,.bool (n==0))] ?_
   by_cases c80:n=0
   ·rw[if_pos c80]at h
    refine aH 209 (zV c80)<| T_rz 39<| T_n 2 [(210,vs d a e),(211,vu l)]<| T_nw (some 212) (λb=>vs (pa b) 1 1) (.cells #[vu l] 33) ?_
    intro cn H29 e82 e83
    replace h:=h cn H29 e82 e83
    refine T_pd [211] [(212,vs (pa cn) 1 1)]<| N_op (some 213) (cS #[31,31] 31 #[vs d a e,vs (pa cn) 1 1]) _ (λ_=>by kernel_rfl) (bP (T:=33) (sz:=1) (bytes:=8) (zero:=(vu 0:Value)) Tryz.underlying31 Tryz.underlying31 rfl (show Tryz.prog.info? 33=some Tryz.t33 from by kernel_rfl) (by kernel_rfl) (by kernel_rfl) (by decide) (by kernel_rfl) (by first | exact h | (simpa only[Value.cells,List.toList_toArray]using h))) ?_;clear h
    rintro _ d1 ⟨bx,bh,rfl,h⟩
    refine⟨[(213,vs bx (a+1) bh)],pk,?_⟩
    exact T_ne 1 [(3,vs bx (a+1) bh)]<| ar 40<| T_nr 3 [8,9] [vs bx (a+1) bh,.bool true] hQ h
   rw[if_neg c80]at h
   exact aI 209 (zK c80)<| T_kt<| ar 40<| T_nr 3 [8,9] [vs d a e,.bool true] hQ h
  intro hk
  refine T_n 4 [(3,vs d a e),(12,vu l),(14,vi n),(15,vi ae),(202,.bool (l !=ac))] ?_
  by_cases c76:l=ac
  ·have b77:(l !=ac)=false:=bne_eq_false_iff_eq.mpr c76
   refine bV [(3,vs d a e),(12,vu l),(14,vi n),(15,vi ae),(202,.bool false)] (by rw[b77]) ?_
   refine T_nd 4 [15,202] [(206,.bool (n !=ae))]<| zx<| S_bd 206 (b:=(n !=ae)) (v:=((l !=ac) || (n !=ae))) (by simp only[b77,BL]) ?_
   exact hk
  have b77:(l !=ac)=true:=bne_iff_ne.mpr c76
  refine bV [(3,vs d a e),(12,vu l),(14,vi n),(15,vi ae),(202,.bool true)] (by rw[b77]) ?_
  refine T_nd 4 [15,202] [(206,.bool true)]<| zx<| S_bd 206 (b:=true) (v:=((l !=ac) || (n !=ae))) (by simp only[b77,BL]) ?_
  exact hk
 rw[if_neg c72]at h
 refine aI 122 (zK c72)<| T_sz<| ar 25<| T_ne 2 [(0,vp hv),(1,vp m),(3,vs d a e),(6,vp (pa b)),(10,vu x),(11,vu f),(26,vi i),(138,.bool (i==6))] ?_
 obtain⟨J,h,j85⟩:=h
 refine kb (σ:=Bool) (λs_=> [(0,vp hv),(1,vp m),(3,vs d a e),(6,vp (pa b)),(10,vu x),(11,vu f),(26,vi i),(138,.bool s_)]) (λs_ H=>J s_ H) ?_ ?_
 ·rintro bg H31 j86
  replace h:=j85 bg H31 j86
  refine T_su [(0,vp hv),(1,vp m),(3,vs d a e),(6,vp (pa b)),(10,vu x),(11,vu f),(26,vi i),(138,.bool bg)]<| aE ?_
  by_cases c87:bg=true
  ·rw[if_pos c87]at h
   have b88:bg=true:=c87
   refine eT [(0,vp hv),(1,vp m),(3,vs d a e),(6,vp (pa b)),(10,vu x),(11,vu f),(26,vi i),(138,.bool true)] (by rw[b88]) ?_
   clear b88
   refine T_tz 138<| T_sz ?_
   obtain⟨ah,q89,aw,q90,h⟩:=h
   refine yq 27 (Code.ops K76) [(6,(ad b),[vi ah]),(13,(ad b),[vi aw])] 17 (bv 17 0) (show aK _ _ _ from⟨⟨q89,trivial⟩,⟨q90,trivial⟩,trivial⟩)<| T_gp 0 (some 141) (vs d a e) (bv 17 1) [(0,vp hv),(1,vp m),(6,vp (pa b)),(10,vu x),(11,vu f),(141,vs d a e)]<| aF 1 142 (vp hv) (bv 17 3) [0]<| aF 2 143 (vp (pa b)) (bv 17 7) []<| T_g1 3 144 (vi ah) (bv 17 15) [143] (aT 3 (vp (pa b))) (yY 6 yX)<| aF 4 145 (vu x) (bv 17 31) []<| aF 5 146 (vu f) (bv 17 63) []<| aF 7 148 (vp m) (bv 17 191) [1]<| aF 8 149 (vu x) (bv 17 447) [10]<| aF 9 150 (vp (pa b)) (bv 17 959) [6]<| T_g1 10 151 (vi aw) (bv 17 1983) [150] (aT 3 (vp (pa b))) (yY 13 yQ)<| aF 11 152 (vi (zq (aw-6))) (bv 17 4031) [151]<| aF 12 153 (vu f) (bv 17 8127) [11]<| yx 6 (some 147) (bv 17 8191) 43 #[vp hv,vi ah,vu x,vu f] h ?_;clear h
   rintro df dj ⟨au,rfl,f91,h⟩
   refine⟨[(141,vs d a e),(147,vi au),(148,vp m),(149,vu x),(152,vi (zq (aw-6))),(153,vu f)],pk,(show aK _ _ _ from⟨trivial,f91,trivial⟩),?_⟩
   refine yx 13 (some 154) (bv 17 16383) 44 #[vp m,vu x,vi (zq (aw-6)),vu f] h ?_;clear h
   rintro dc dn ⟨ax,rfl,h⟩
   refine⟨[(141,vs d a e),(147,vi au),(154,vi ax)],pk,(show aK _ _ _ from⟨trivial,trivial,trivial⟩),?_⟩
   exact T_g 14 (some 155) (.bool (au==ax)) (bv 17 32767) [(141,vs d a e),(155,.bool (au==ax))] (pure (.value (.bool (au==ax))):Sem Next) (λ_ _ _ _ _=>rfl)<| T_g1 15 8 (vs d a e) (bv 17 65535) [141] (pure (.value (vs d a e)):Sem Next) (λ_ _ _ _ _=>rfl)<| T_g1 16 9 (.bool (au==ax)) (bv 17 131071) [155] (pure (.value (.bool (au==ax))):Sem Next) (λ_ _ _ _ _=>rfl)<| eI [(8,vs d a e),(9,.bool (au==ax))] sk<| yz<| aE<| ie [8,9] [vs d a e,.bool (au==ax)] hQ h
  rw[if_neg c87]at h
  have b88:bg=false:=zZ c87
  refine eT [(0,vp hv),(1,vp m),(3,vs d a e),(6,vp (pa b)),(10,vu x),(11,vu f),(26,vi i),(138,.bool false)] (by rw[b88]) ?_
  clear b88
  refine T_fz 138<| ar 28<| T_ed 2 [138] [(156,.bool (i==8))] ?_
  by_cases c92:i=8
  ·rw[if_pos c92]at h
   refine aH 156 (zV c92)<| T_sz ?_
   obtain⟨af,q94,ao,q95,a3,q96,a9,q97,h⟩:=h
   refine yq 29 (Code.ops K82) [(8,((ad b).add 5),[vi af]),(8,((ad b).add 6),[vi ao]),(16,((ad b).add 5),[vi a3]),(16,((ad b).add 6),[vi a9])] 20 (bv 20 0) (show aK _ _ _ from⟨⟨q94,trivial⟩,⟨q95,trivial⟩,⟨q96,trivial⟩,⟨q97,trivial⟩,trivial⟩)<| T_gp 0 (some 158) (vs d a e) (bv 20 1) [(0,vp hv),(1,vp m),(6,vp (pa b)),(10,vu x),(11,vu f),(158,vs d a e)]<| aF 1 159 (vp hv) (bv 20 3) [0]<| aF 2 160 (vu x) (bv 20 7) []<| aF 3 161 (vp (some ((ad b).add 5))) (bv 20 15) []<| T_g1 4 162 (vi af) (bv 20 31) [161] (aT 3 (vp (some ((ad b).add 5)))) (yY 8 yX)<| aF 5 163 (vp (some ((ad b).add 6))) (bv 20 63) []<| T_g1 6 164 (vi ao) (bv 20 127) [163] (aT 3 (vp (some ((ad b).add 6)))) (yY 8 yQ)<| aF 7 165 (vu f) (bv 20 255) []<| aF 9 167 (vp m) (bv 20 767) [1]<| aF 10 168 (vu x) (bv 20 1791) [10]<| aF 11 169 (vp (some ((ad b).add 5))) (bv 20 3839) []<| T_g1 12 170 (vi a3) (bv 20 7935) [169] (aT 3 (vp (some ((ad b).add 5)))) (yY 16 yJ)<| aF 13 171 (vp (some ((ad b).add 6))) (bv 20 16127) [6]<| T_g1 14 172 (vi a9) (bv 20 32511) [171] (aT 3 (vp (some ((ad b).add 6)))) (yY 16 yK)<| aF 15 173 (vu f) (bv 20 65279) [11]<| yx 8 (some 166) (bv 20 65535) 45 #[vp hv,vu x,vi af,vi ao,vu f] h ?_;clear h
   rintro de c1 ⟨av,rfl,f98,f99,h⟩
   refine⟨[(158,vs d a e),(166,vi av),(167,vp m),(168,vu x),(170,vi a3),(172,vi a9),(173,vu f)],pk,(show aK _ _ _ from⟨trivial,trivial,f98,f99,trivial⟩),?_⟩
   refine yx 16 (some 174) (bv 20 131071) 46 #[vp m,vu x,vi a3,vi a9,vu f] h ?_;clear h
   rintro dk dy ⟨ay,rfl,h⟩
   refine⟨[(158,vs d a e),(166,vi av),(174,vi ay)],pk,(show aK _ _ _ from⟨trivial,trivial,trivial,trivial,trivial⟩),?_⟩
   exact T_g 17 (some 175) (.bool (av==ay)) (bv 20 262143) [(158,vs d a e),(175,.bool (av==ay))] (pure (.value (.bool (av==ay))):Sem Next) (λ_ _ _ _ _=>rfl)<| T_g1 18 8 (vs d a e) (bv 20 524287) [158] (pure (.value (vs d a e)):Sem Next) (λ_ _ _ _ _=>rfl)<| T_g1 19 9 (.bool (av==ay)) (bv 20 1048575) [175] (pure (.value (.bool (av==ay))):Sem Next) (λ_ _ _ _ _=>rfl)<| eI [(8,vs d a e),(9,.bool (av==ay))] sk<| yz<| aE<| ie [8,9] [vs d a e,.bool (av==ay)] hQ h
  rw[if_neg c92]at h
  refine aI 156 (zK c92)<| ar 30<| T_ed 2 [11,156] [(176,.bool (i==9))] ?_
  by_cases c100:i=9
  ·rw[if_pos c100]at h
   refine aH 176 (zV c100)<| ar 31<| T_n 5 [(6,vp (pa b)),(178,vs d a e),(179,vp hv),(180,vp m),(181,vu x),(182,vp (some ((ad b).add 5)))] ?_
   obtain⟨bf,q102,h⟩:=h
   refine T_l1 183 3 q102 [182]<| T_nd 1 [6] [(184,vp (some ((ad b).add 6)))] ?_
   obtain⟨b3,q103,h⟩:=h
   refine T_l1 185 3 q103 [184]<| T_c (some 186) h ?_;clear h
   rintro dd dw ⟨bw,rfl,h⟩
   refine⟨[(178,vs d a e),(186,.bool bw)],pk,?_⟩
   exact T_nr 2 [8,9] [vs d a e,.bool bw] hQ h
  rw[if_neg c100]at h
  refine aI 176 (zK c100)<| ar 32<| T_ed 2 [6,10,26,176] [(187,.bool (i==11))] ?_
  by_cases c104:i=11
  ·rw[if_pos c104]at h
   refine aH 187 (zV c104)<| ar 33<| T_nd 1 [0,187] [(189,vp hv)]<| T_c (some 190) h ?_;clear h
   intro v_21 cz h
   refine T_pd [189] []<| T_e<| ar 34<| T_nd 1 [1] [(191,vp m)] ?_
   obtain⟨mA,rfl,h⟩:=h
   refine T_nd 2 [191] [(191,vp (some mA)),(193,vp (some (mA.add 1)))] ?_
   obtain⟨bc,q106,h⟩:=h
   refine T_l1 194 32 q106 [193]<| T_nd 3 [191,194] [(195,vu (IntKind.wrap .u64 (bc+1))),(197,vp (some (mA.add 1)))] ?_
   obtain⟨q108,h⟩:=h
   refine je 32 (vu (IntKind.wrap .u64 (bc+1))) q108 ?_
   intro c3 e107
   replace h:=h c3 e107
   refine⟨[(3,vs d a e)],pk,?_⟩
   exact T_e<| ar 35<| T_nr 3 [8,9] [vs d a e,.bool true] hQ h
  rw[if_neg c104]at h
  exact aI 187 (zK c104)<| ar 5<| T_nr 3 [8,9] [vs d a e,.bool true] hQ h
 by_cases c109:i=6
 ·rw[if_pos c109]at h
  have b110:(i==6)=true:=zV c109
  refine eT [(0,vp hv),(1,vp m),(3,vs d a e),(6,vp (pa b)),(10,vu x),(11,vu f),(26,vi i),(138,.bool true)] (by simp only[b110,Bool.not_true,Bool.not_false]) ?_
  clear b110
  exact T_tz 138<| T_kt<| fH (true:Bool) sk h
 rw[if_neg c109]at h
 have b110:(i==6)=false:=zK c109
 refine eT [(0,vp hv),(1,vp m),(3,vs d a e),(6,vp (pa b)),(10,vu x),(11,vu f),(26,vi i),(138,.bool false)] (by simp only[b110,Bool.not_true,Bool.not_false]) ?_
 clear b110
 exact T_fz 138<| T_rz 26<| T_ed 2 [138] [(138,.bool (i==7))]<| fH ((i==7):Bool) sk h
end dN

/-! cmp.Compare[int] -/
namespace cmp_Compare_int
def K0:=Func.code Tryz.f63
end cmp_Compare_int
def cmp_Compare_int.pt(x y:Int)(H:zW)(R:zv):Prop:=
 cmp_isNaN_int.C x H (λv H1=> ∃b:Bool,v=.bool b/\
 cmp_isNaN_int.C y H1 (λd H2=> ∃a:Bool,d=.bool a/\
 if b=true then(
 if a=true then(
 R (.int .i64 0) H2)
 else
 R (.int .i64 (-1)) H2)
 else
 if a=true then(
 R (.int .i64 1) H2)
 else
 if x<y then(
 R (.int .i64 (-1)) H2)
 else
 if x>y then(
 R (.int .i64 1) H2)
 else
 R (.int .i64 0) H2))
namespace cmp_Compare_int
theorem link{x y:Int}{H:zW}{R:zv}(h:pt x y H R):C x y H R:=by
 refine T_en K0 20 Tryz.func63 ?_
 intro w0 Q hQ
 unfold pt at h
 refine T_su [(0,vi x),(1,vi y)]<| ar 0<| T_ed 1 [] []<| ar 1<| T_nd 1 [] [(7,vi x)]<| T_c (some 8) h ?_;clear h
 rintro v H1 ⟨b,rfl,h⟩
 refine T_pd [7] [(8,.bool b)]<| T_ed 1 [8] [(5,.bool b)]<| ar 2<| T_nd 1 [] [(9,vi y)]<| T_c (some 10) h ?_;clear h
 rintro d H2 ⟨a,rfl,h⟩
 refine T_pd [9] [(10,.bool a)]<| T_ed 1 [10] [(6,.bool a)]<| T_sz<| ar 3<| T_ed 1 [5] [(11,.bool b)] ?_
 by_cases c1:b=true
 ·rw[if_pos c1]at h
  refine aH 11 c1<| T_sz<| ar 4<| T_ne 1 [(12,.bool a)] ?_
  by_cases c3:a=true
  ·rw[if_pos c3]at h
   exact aH 12 c3<| ar 5<| T_nr 1 [4] [vi 0] hQ h
  rw[if_neg c3]at h
  exact aI 12 (zZ c3)<| T_kt<| ar 6<| T_nr 1 [4] [vi (-1)] hQ h
 rw[if_neg c1]at h
 refine aI 11 (zZ c1)<| T_kt<| T_sz<| ar 7<| T_ed 1 [6,11] [(13,.bool a)] ?_
 by_cases c5:a=true
 ·rw[if_pos c5]at h
  exact aH 13 c5<| ar 8<| T_nr 1 [4] [vi 1] hQ h
 rw[if_neg c5]at h
 refine aI 13 (zZ c5)<| T_kt<| T_sz<| ar 9<| T_ed 3 [13] [(16,.bool (decide (x<y)))] ?_
 by_cases c7:x<y
 ·rw[if_pos c7]at h
  exact aH 16 (zQ c7)<| ar 10<| T_nr 1 [4] [vi (-1)] hQ h
 rw[if_neg c7]at h
 refine aI 16 (zJ c7)<| T_kt<| T_sz<| ar 11<| T_ne 3 [(19,.bool (decide (x>y)))] ?_
 by_cases c9:x>y
 ·rw[if_pos c9]at h
  exact aH 19 (zQ c9)<| ar 12<| T_nr 1 [4] [vi 1] hQ h
 rw[if_neg c9]at h
 exact aI 19 (zJ c9)<| T_kt<| ar 13<| T_nr 1 [4] [vi 0] hQ h
end cmp_Compare_int

/-! cmp.isNaN[int] -/
namespace cmp_isNaN_int
def K0:=Func.code Tryz.f107
end cmp_isNaN_int
def cmp_isNaN_int.pt(x:Int)(H:zW)(R:zv):Prop:=
 R (.bool (x !=x)) H
namespace cmp_isNaN_int
theorem link{x:Int}{H:zW}{R:zv}(h:pt x H R):C x H R:=by
 refine T_en K0 6 Tryz.func107 ?_
 intro w0 Q hQ
 unfold pt at h
 exact T_su [(0,vi x)]<| ar 0<| T_ed 1 [] []<| ar 1<| T_nr 4 [2] [.bool (x !=x)] hQ h
end cmp_isNaN_int

/-! moraine/morainelaw10.awake -/
namespace cR
def K0:=Func.code Tryz.f5
end cR
def cR.pt(H:zW)(R:zv):Prop:=
 jn.C 8 H (λv H1=> ∃(ra:zY) (rb:Int),v=.tuple #[.pointer ra,.int .i64 rb]/\
 if rb=0 then(
 gk ra (
 R (.bool false) H1) (λa=>
 fI.C (some a) 8 20 H1 (λy H2=> ∃n r:Int,y=.tuple #[.int .u64 n,.int .i64 r]/\
 gc.C (some a) n H2 (λah H3=> ∃q p:Int,ah=.tuple #[.int .u64 q,.int .i64 p]/\
 gd.C (some a) n H3 (λaf H4=> ∃o m:Int,af=.tuple #[.int .u64 o,.int .i64 m]/\
 dZ.C (some a) 3 12 H4 (λag H5=> ∃s k:Int,ag=.tuple #[.int .u64 s,.int .i64 k]/\
 fN.C (some a) s 1 2 H5 (λz H6=> ∃l e:Int,z=.tuple #[.int .u64 l,.int .i64 e]/\
 fN.C (some a) s 1 3 H6 (λac H7=> ∃t j:Int,ac=.tuple #[.int .u64 t,.int .i64 j]/\
 eq.C (some a) (ByteArray.mk #[97,195,177]) H7 (λae H8=> ∃b i:Int,ae=.tuple #[.int .u64 b,.int .i64 i]/\
 fV.C (some a) b H8 (λaa H9=> ∃(f:ByteArray) (d:Int),aa=.tuple #[.string f,.int .i64 d]/\
 if n=1 then(
 if r=0 then(
 if q=8 then(
 if p=0 then(
 if o=20 then(
 if m=0 then(
 if k=0 then(
 if l=12 then(
 if e=0 then(
 if j=4 then(
 if i=0 then(
 if f.toList=(ByteArray.mk #[97,195,177]).toList then(
 if d=0 then(
 fO.C (some a) b H9 (λu ab=> ∃x:Int,u=.int .i64 x/\
 R (.bool (x==2)) ab))
 else
 R (.bool false) H9)
 else
 R (.bool false) H9)
 else
 R (.bool false) H9)
 else
 R (.bool false) H9)
 else
 R (.bool false) H9)
 else
 R (.bool false) H9)
 else
 R (.bool false) H9)
 else
 R (.bool false) H9)
 else
 R (.bool false) H9)
 else
 R (.bool false) H9)
 else
 R (.bool false) H9)
 else
 R (.bool false) H9)
 else
 R (.bool false) H9))))))))))
 else
 R (.bool false) H1)
namespace cR
set_option maxRecDepth 100000 in
theorem link{H:zW}{R:zv}(h:pt H R):C H R:=by
 refine T_en K0 130 Tryz.func5 ?_
 intro w0 Q hQ
 unfold pt at h
 refine T_su []<| ar 0<| T_ne 1 []<| ar 1<| T_c (some 20) h ?_;clear h
 rintro v H1 ⟨ra,rb,rfl,h⟩
 refine⟨[(20,.tuple #[vp ra,vi rb])],pk,?_⟩
 refine T_ne 5 [(1,vp ra),(2,vi rb)]<| T_sz<| ar 2<| T_nd 3 [2] [(25,.bool (rb !=0))] ?_
 by_cases c1:rb=0
 ·rw[if_pos c1]at h
  refine N_bd 25 (bne_eq_false_iff_eq.mpr c1)<| T_nd 1 [] [(26,vp ra)] ?_
  rcases ra with _ | a
  ·rw[onPtr_none]at h
   exact T_ne 2 [(1,vp none),(28,.bool true)]<| T_tz 28<| ar 3<| T_nr 1 [0] [.bool false] hQ h
  rw[onPtr_some]at h
  refine T_ne 2 [(1,vp (some a)),(28,.bool false)]<| T_fz 28<| T_kt<| ar 4<| T_nd 1 [28] [(30,vp (some a))]<| T_c (some 31) h ?_;clear h
  rintro y H2 ⟨n,r,rfl,h⟩
  refine T_pd [30] [(31,.tuple #[vu n,vi r])]<| T_ed 5 [31] [(3,vu n),(4,vi r)]<| ar 5<| T_nd 2 [] [(35,vp (some a)),(36,vu n)]<| T_c (some 37) h ?_;clear h
  rintro ah H3 ⟨q,p,rfl,h⟩
  refine T_pd [35,36] [(37,.tuple #[vu q,vi p])]<| T_ed 5 [37] [(5,vu q),(6,vi p)]<| ar 6<| T_nd 2 [] [(41,vp (some a)),(42,vu n)]<| T_c (some 43) h ?_;clear h
  rintro af H4 ⟨o,m,rfl,h⟩
  refine T_pd [41,42] [(43,.tuple #[vu o,vi m])]<| T_ed 5 [43] [(7,vu o),(8,vi m)]<| ar 7<| T_nd 1 [] [(47,vp (some a))]<| T_c (some 48) h ?_;clear h
  rintro ag H5 ⟨s,k,rfl,h⟩
  refine T_pd [47] [(48,.tuple #[vu s,vi k])]<| T_ed 5 [48] [(9,vu s),(10,vi k)]<| ar 8<| T_nd 2 [] [(52,vp (some a)),(53,vu s)]<| T_c (some 54) h ?_;clear h
  rintro z H6 ⟨l,e,rfl,h⟩
  refine T_pd [52,53] [(54,.tuple #[vu l,vi e])]<| T_ed 5 [54] [(11,vu l),(12,vi e)]<| ar 9<| T_nd 2 [9] [(58,vp (some a)),(59,vu s)]<| T_c (some 60) h ?_;clear h
  rintro ac H7 ⟨t,j,rfl,h⟩
  refine T_pd [58,59] [(60,.tuple #[vu t,vi j])]<| T_ed 5 [60] [(14,vi j)]<| ar 10<| T_nd 1 [] [(64,vp (some a))]<| T_c (some 65) h ?_;clear h
  rintro ae H8 ⟨b,i,rfl,h⟩
  refine T_pd [64] [(65,.tuple #[vu b,vi i])]<| T_ed 5 [65] [(15,vu b),(16,vi i)]<| ar 11<| T_nd 2 [] [(69,vp (some a)),(70,vu b)]<| T_c (some 71) h ?_;clear h
  rintro aa H9 ⟨f,d,rfl,h⟩
  refine T_pd [69,70] [(71,.tuple #[.string f,vi d])]<| T_ed 5 [71] [(17,.string f),(18,vi d)]<| ar 12<| T_nd 3 [3] [(76,.bool (n==1))] ?_
  by_cases c3:n=1
  ·rw[if_pos c3]at h
   refine N_bd 76 (zV c3)<| T_nd 4 [4,76] [(80,.bool (r==0))] ?_
   by_cases c5:r=0
   ·rw[if_pos c5]at h
    refine N_bd 80 (zV c5)<| T_nd 4 [5,80] [(84,.bool (q==8))] ?_
    by_cases c7:q=8
    ·rw[if_pos c7]at h
     refine N_bd 84 (zV c7)<| T_nd 4 [6,84] [(88,.bool (p==0))] ?_
     by_cases c9:p=0
     ·rw[if_pos c9]at h
      refine N_bd 88 (zV c9)<| T_nd 4 [7,88] [(92,.bool (o==20))] ?_
      by_cases c11:o=20
      ·rw[if_pos c11]at h
       refine N_bd 92 (zV c11)<| T_nd 4 [8,92] [(96,.bool (m==0))] ?_
       by_cases c13:m=0
       ·rw[if_pos c13]at h
        refine N_bd 96 (zV c13)<| T_nd 4 [10,96] [(100,.bool (k==0))] ?_
        by_cases c15:k=0
        ·rw[if_pos c15]at h
         refine N_bd 100 (zV c15)<| T_nd 4 [11,100] [(104,.bool (l==12))] ?_
         by_cases c17:l=12
         ·rw[if_pos c17]at h
          refine N_bd 104 (zV c17)<| T_nd 4 [12,104] [(108,.bool (e==0))] ?_
          by_cases c19:e=0
          ·rw[if_pos c19]at h
           refine N_bd 108 (zV c19)<| T_nd 4 [14,108] [(112,.bool (j==4))] ?_
           by_cases c21:j=4
           ·rw[if_pos c21]at h
            refine N_bd 112 (zV c21)<| T_nd 4 [16,112] [(116,.bool (i==0))] ?_
            by_cases c23:i=0
            ·rw[if_pos c23]at h
             refine N_bd 116 (zV c23)<| T_nd 4 [17,116] [(120,.bool (f.toList==(ByteArray.mk #[97,195,177]).toList))] ?_
             by_cases c25:f.toList=(ByteArray.mk #[97,195,177]).toList
             ·rw[if_pos c25]at h
              refine N_bd 120 (zV c25)<| T_nd 4 [18,120] [(124,.bool (d==0))] ?_
              by_cases c27:d=0
              ·rw[if_pos c27]at h
               refine N_bd 124 (zV c27)<| T_nd 2 [1,15] [(125,vp (some a)),(126,vu b)] ?_
               refine T_c (some 127) h ?_;clear h
               rintro u ab ⟨x,rfl,h⟩
               exact T_pd [125,126] [(127,vi x)]<| T_nr 3 [0] [.bool (x==2)] hQ h
              rw[if_neg c27]at h
              exact N_bd 124 (zK c27)<| T_nr 6 [0] [.bool false] hQ h
             rw[if_neg c25]at h
             exact N_bd 120 (zK c25)<| T_nr 10 [0] [.bool false] hQ h
            rw[if_neg c23]at h
            exact N_bd 116 (zK c23)<| T_nr 14 [0] [.bool false] hQ h
           rw[if_neg c21]at h
           exact N_bd 112 (zK c21)<| T_nr 18 [0] [.bool false] hQ h
          rw[if_neg c19]at h
          exact N_bd 108 (zK c19)<| T_nr 22 [0] [.bool false] hQ h
         rw[if_neg c17]at h
         exact N_bd 104 (zK c17)<| T_nr 26 [0] [.bool false] hQ h
        rw[if_neg c15]at h
        exact N_bd 100 (zK c15)<| T_nr 30 [0] [.bool false] hQ h
       rw[if_neg c13]at h
       exact N_bd 96 (zK c13)<| T_nr 34 [0] [.bool false] hQ h
      rw[if_neg c11]at h
      exact N_bd 92 (zK c11)<| T_nr 38 [0] [.bool false] hQ h
     rw[if_neg c9]at h
     exact N_bd 88 (zK c9)<| T_nr 42 [0] [.bool false] hQ h
    rw[if_neg c7]at h
    exact N_bd 84 (zK c7)<| T_nr 46 [0] [.bool false] hQ h
   rw[if_neg c5]at h
   exact N_bd 80 (zK c5)<| T_nr 50 [0] [.bool false] hQ h
  rw[if_neg c3]at h
  exact N_bd 76 (zK c3)<| T_nr 54 [0] [.bool false] hQ h
 rw[if_neg c1]at h
 exact N_bd 25 (bne_iff_ne.mpr c1)<| T_ed 3 [25] [(28,.bool true)]<| T_tz 28<| ar 3<| T_nr 1 [0] [.bool false] hQ h
end cR

