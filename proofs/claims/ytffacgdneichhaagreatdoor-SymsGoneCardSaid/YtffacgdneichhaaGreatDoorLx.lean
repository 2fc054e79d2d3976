/- Printed: what each function asks, and that it is sound. -/
import Derived.Test.YtffacgdneichhaaGreatDoorFnsC
set_option linter.unusedSimpArgs false
set_option linter.unusedVariables false
set_option maxRecDepth 100000
set_option maxHeartbeats 1000000
noncomputable section
namespace Go.Proofs.YtffacgdneichhaaGreatDoor
open Go
/-! (*moraine/space.Space).Alloc -/
namespace cy
def K0:=Func.code Tryz.f48
end cy
def cy.pt(s:zW)(d b nv:Int)(H:zV)(R:zk):Prop:=
 cT.C s H (λv H1=> ∃x:Bool,v=.bool x/\
 if x=true then(
 R (.tuple #[.int .i64 0,.int .i64 1]) H1)
 else
 fP.C d b nv H1 (λae H2=> ∃o:Bool,ae=.bool o/\
 if o=true then(
 bV.C s d b H2 (λab H3=> ∃(ra:Int) (rb:Bool),ab=.tuple #[.int .i64 ra,.bool rb]/\
 ∃J:zV->Prop,(
 if rb=true then(
 ∃j:Addr,s=some j/\
 ∃y:zW,hat H3 j=some (.pointer y)/\
 dV.C y ra nv H3 (λaa H8=> ∃l m:Int,aa=.tuple #[.int .i64 l,.int .i64 m]/\
 if m=0 then(
 R (.tuple #[.int .i64 l,.int .i64 0]) H8)
 else
 J H8))
 else
 J H3)/\ ∀(H4:zV),J H4->
 ∃sA:Addr,s=some sA/\
 ∃u:zW,hat H4 sA=some (.pointer u)/\
 eI.C u d b H4 (λz H5=> ∃f g:Int,z=.tuple #[.int .i64 f,.int .i64 g]/\
 if g=0 then(
 zw d 5/\
 zw b 4/\
 (aI H5 (((sA.add 1).add (Int.toNat d*4)).add (Int.toNat b*1)) 0 1)/\ ∀H6,H6=aO H5 (((sA.add 1).add (Int.toNat d*4)).add (Int.toNat b*1)) [.int .i64 (zY (f+1))] 0->
 ∃r:zW,hat H6 sA=some (.pointer r)/\
 dV.C r f nv H6 (λac H7=> ∃p q:Int,ac=.tuple #[.int .i64 p,.int .i64 q]/\
 R (.tuple #[.int .i64 p,.int .i64 q]) H7))
 else
 R (.tuple #[.int .i64 0,.int .i64 g]) H5)))
 else
 R (.tuple #[.int .i64 0,.int .i64 1]) H2))
namespace cy
theorem link{s:zW}{d b nv:Int}{H:zV}{R:zk}(h:pt s d b nv H R):C s d b nv H R:=by
 refine T_en K0 77 Tryz.func48 ?_
 intro w0 Q hQ
 unfold pt zY at h
 refine T_su [(0,vp s),(1,vi d),(2,vi b),(3,vi nv)]<| ar 0<| T_ed 2 [] []<| T_sz<| ar 1<| T_nd 1 [] [(16,vp s)]<| T_c (some 17) h ?_;clear h
 rintro v H1 ⟨x,rfl,h⟩
 refine T_pd [16] [(17,.bool x)]<| T_nd 1 [17] [(18,.bool x)] ?_
 by_cases c1:x=true
 ·rw[if_pos c1]at h
  exact N_bd 18 c1<| T_ed 6 [18] [(24,.bool true)]<| T_tz 24<| ar 2<| T_nr 2 [8,9] [vi 0,vi 1] hQ h
 rw[if_neg c1]at h
 refine N_bd 18 (zZ c1)<| T_nd 3 [] [(19,vi d),(20,vi b),(21,vi nv)] ?_
 refine T_c (some 22) h ?_;clear h
 rintro ae H2 ⟨o,rfl,h⟩
 refine T_pd [19,20,21] [(22,.bool o)]<| T_ed 2 [18,22] [(24,.bool (!o))] ?_
 by_cases c3:o=true
 ·rw[if_pos c3]at h
  refine aE 24 (congrArg Bool.not (c3))<| T_kt<| T_sz<| ar 3<| T_nd 3 [24] [(26,vp s),(27,vi d),(28,vi b)]<| T_c (some 29) h ?_;clear h
  rintro ab H3 ⟨ra,rb,rfl,h⟩
  refine T_pd [26,27,28] [(29,.tuple #[vi ra,.bool rb])]<| T_ed 5 [29] [(10,vi ra),(11,.bool rb)]<| ar 4<| T_ne 1 [(0,vp s),(1,vi d),(2,vi b),(3,vi nv),(10,vi ra),(32,.bool rb)] ?_
  obtain⟨J,h,j6⟩:=h
  refine kB (σ:=Unit) (λs_=> [(0,vp s),(1,vi d),(2,vi b),(3,vi nv)]) (λs_ H=>J H) ?_ ?_
  ·rintro _ H4 j7
   replace h:=j6 H4 j7
   refine T_su [(0,vp s),(1,vi d),(2,vi b),(3,vi nv)]<| aC<| ar 8<| T_nd 1 [] [(47,vp s)] ?_
   obtain⟨sA,rfl,h⟩:=h
   refine T_nd 2 [0,47] [(0,vp (some sA)),(49,vp (some sA))] ?_
   obtain⟨u,q8,h⟩:=h
   refine T_l1 50 84 q8 [49]<| T_nd 2 [] [(51,vi d),(52,vi b)]<| T_c (some 53) h ?_;clear h
   rintro z H5 ⟨f,g,rfl,h⟩
   refine T_pd [50,51,52] [(53,.tuple #[vi f,vi g])]<| T_ed 5 [53] [(14,vi f),(15,vi g)]<| T_sz<| ar 9<| T_ed 2 [] [(57,.bool (g !=0))] ?_
   by_cases c9:g=0
   ·rw[if_pos c9]at h
    refine aE 57 (bne_eq_false_iff_eq.mpr c9)<| T_kt<| ar 11<| T_nd 7 [1,2,15,57] [(60,vi d),(61,vi b),(63,vi (zY (f+1))),(65,vp (some (sA.add 1)))] ?_
    obtain⟨q11,h⟩:=h
    refine T_v1 66 (aR 86 (vp (some (sA.add 1))) (vi d)) (vp (some ((sA.add 1).add (Int.toNat d*4)))) (λw _=>aN (P:=Tryz.prog) (t:=86) (elem:=85) (sz:=4) (n:=5) (a:=(sA.add 1)) (k:=.i64) (i:=d) Tryz.underlying86 (λ_=>by kernel_rfl) q11.1 q11.2 w) [60,65] ?_
    obtain⟨q12,h⟩:=h
    refine T_v1 67 (aR 85 (vp (some ((sA.add 1).add (Int.toNat d*4)))) (vi b)) (vp (some (((sA.add 1).add (Int.toNat d*4)).add (Int.toNat b*1)))) (λw _=>aN (P:=Tryz.prog) (t:=85) (elem:=3) (sz:=1) (n:=4) (a:=((sA.add 1).add (Int.toNat d*4))) (k:=.i64) (i:=b) Tryz.underlying85 (λ_=>by kernel_rfl) q12.1 q12.2 w) [61,66] ?_
    obtain⟨q14,h⟩:=h
    refine eq 3 (vi (zY (f+1))) q14 ?_
    intro H6 e13
    replace h:=h H6 e13
    refine T_pd [63,67] []<| T_e<| ar 12<| T_nd 3 [0] [(70,vp (some sA))] ?_
    obtain⟨r,q15,h⟩:=h
    refine T_l1 71 84 q15 [70]<| T_nd 2 [3,14] [(72,vi f),(73,vi nv)]<| T_c (some 74) h ?_;clear h
    rintro ac H7 ⟨p,q,rfl,h⟩
    refine⟨[(74,.tuple #[vi p,vi q])],pk,?_⟩
    exact T_nr 4 [8,9] [vi p,vi q] hQ h
   rw[if_neg c9]at h
   exact aF 57 (bne_iff_ne.mpr c9)<| ar 10<| T_nr 3 [8,9] [vi 0,vi g] hQ h
  by_cases c16:rb=true
  ·rw[if_pos c16]at h
   have b17:rb=true:=c16
   refine dI [(0,vp s),(1,vi d),(2,vi b),(3,vi nv),(10,vi ra),(32,.bool true)] (by simp only[b17,Bool.not_true,Bool.not_false]) ?_
   clear b17
   refine T_tz 32<| ar 5<| T_nd 1 [32] [(34,vp s)] ?_
   obtain⟨j,rfl,h⟩:=h
   refine T_nd 2 [0,34] [(0,vp (some j)),(36,vp (some j))] ?_
   obtain⟨y,q18,h⟩:=h
   refine T_l1 37 84 q18 [36]<| T_nd 2 [10] [(38,vi ra),(39,vi nv)]<| T_c (some 40) h ?_;clear h
   rintro aa H8 ⟨l,m,rfl,h⟩
   refine T_pd [37,38,39] [(40,.tuple #[vi l,vi m])]<| T_ed 5 [40] [(12,vi l),(13,vi m)]<| ar 6<| T_ed 2 [13] [(44,.bool (m==0))] ?_
   by_cases c19:m=0
   ·rw[if_pos c19]at h
    exact aF 44 (zK c19)<| ar 7<| T_nr 3 [8,9] [vi l,vi 0] hQ h
   rw[if_neg c19]at h
   exact aE 44 (zJ c19)<| T_kt<| fW (():Unit) sk h
  rw[if_neg c16]at h
  have b17:rb=false:=zZ c16
  refine dI [(0,vp s),(1,vi d),(2,vi b),(3,vi nv),(10,vi ra),(32,.bool false)] (by simp only[b17,Bool.not_true,Bool.not_false]) ?_
  clear b17
  exact T_fz 32<| T_kt<| fW (():Unit) sk h
 rw[if_neg c3]at h
 exact aF 24 (congrArg Bool.not (zZ c3))<| ar 2<| T_nr 2 [8,9] [vi 0,vi 1] hQ h
end cy

/-! moraine/space.New -/
namespace fO
def K0:=Func.code Tryz.f67
end fO
def fO.pt(a:Int)(H:zV)(R:zk):Prop:=
 io.C a H (λv H1=> ∃(ra:zW) (rb:Int),v=.tuple #[.pointer ra,.int .i64 rb]/\
 if rb=0 then(
 ∀(b:Nat) (H2:zV),b=H1.size->H2=H1.push (.cells #[.pointer ra,.int .i64 0,.int .i64 0,.int .i64 0,.int .i64 0,.int .i64 0,.int .i64 0,.int .i64 0,.int .i64 0,.int .i64 0,.int .i64 0,.int .i64 0,.int .i64 0,.int .i64 0,.int .i64 0,.int .i64 0,.int .i64 0,.int .i64 0,.int .i64 0,.int .i64 0,.int .i64 0] 88)->
 R (.tuple #[.pointer (some (ad b)),.int .i64 0]) H2)
 else
 R (.tuple #[.pointer none,.int .i64 rb]) H1)
namespace fO
theorem link{a:Int}{H:zV}{R:zk}(h:pt a H R):C a H R:=by
 refine T_en K0 17 Tryz.func67 ?_
 intro w0 Q hQ
 unfold pt at h
 refine T_su [(0,vi a)]<| ar 0<| T_ed 2 [] []<| ar 1<| T_n 1 [(7,vi a)]<| T_c (some 8) h ?_;clear h
 rintro v H1 ⟨ra,rb,rfl,h⟩
 refine⟨[(8,.tuple #[vp ra,vi rb])],pk,?_⟩
 refine T_ne 5 [(4,vp ra),(5,vi rb)]<| T_sz<| ar 2<| T_ed 2 [] [(12,.bool (rb !=0))] ?_
 by_cases c1:rb=0
 ·rw[if_pos c1]at h
  refine aE 12 (bne_eq_false_iff_eq.mpr c1)<| T_kt<| ar 4<| T_n 2 [(15,.agg #[vp ra,vi 0,vi 0,vi 0,vi 0,vi 0,vi 0,vi 0,vi 0,vi 0,vi 0,vi 0,vi 0,vi 0,vi 0,vi 0,vi 0,vi 0,vi 0,vi 0,vi 0])]<| T_nw (some 16) (λb=>vp (pa b)) (.cells #[vp ra,vi 0,vi 0,vi 0,vi 0,vi 0,vi 0,vi 0,vi 0,vi 0,vi 0,vi 0,vi 0,vi 0,vi 0,vi 0,vi 0,vi 0,vi 0,vi 0,vi 0] 88) ?_
  intro b H2 e3 e4
  replace h:=h b H2 e3 e4
  refine⟨[(16,vp (pa b))],pk,?_⟩
  exact T_nr 2 [2,3] [vp (pa b),vi 0] hQ h
 rw[if_neg c1]at h
 exact aF 12 (bne_iff_ne.mpr c1)<| ar 3<| T_nr 3 [2,3] [vp none,vi rb] hQ h
end fO

/-! (*moraine/space.Space).none -/
namespace cT
def K0:=Func.code Tryz.f77
end cT
def cT.pt(s:zW)(H:zV)(R:zk):Prop:=
 dM s (
 R (.bool true) H) (λsA=>
 ∃x:zW,hat H sA=some (.pointer x)/\
 dM x (
 R (.bool true) H) (λxA=>
 R (.bool false) H))
namespace cT
theorem link{s:zW}{H:zV}{R:zk}(h:pt s H R):C s H R:=by
 refine T_en K0 12 Tryz.func77 ?_
 intro w0 Q hQ
 unfold pt at h
 refine T_su [(0,vp s)]<| ar 0<| T_ed 1 [] []<| ar 1<| T_nd 1 [] [(3,vp s)] ?_
 rcases s with _ | sA
 ·rw[onPtr_none]at h
  exact T_nr 9 [2] [.bool true] hQ h
 rw[onPtr_some]at h
 refine T_n 5 [(5,.bool false),(8,vp (some sA))] ?_
 obtain⟨x,q1,h⟩:=h
 refine T_l1 9 84 q1 [8] ?_
 rcases x with _ | xA
 ·rw[onPtr_none]at h
  exact T_nr 3 [2] [.bool true] hQ h
 rw[onPtr_some]at h
 exact T_nr 3 [2] [.bool false] hQ h
end cT

/-! moraine/space.may -/
namespace fP
def K0:=Func.code Tryz.f87
end fP
def fP.pt(b a nv:Int)(H:zV)(R:zk):Prop:=
 if((decide (b<0)) || (decide (b>4)))=true then(
 R (.bool false) H)
 else
 if((a==0) || (a==1))=true then(
 R (.bool (nv==2)) H)
 else
 R (.bool ((((a==2) || (a==3)) && (decide (nv>=1))) && (decide (nv<=63)))) H
namespace fP
theorem link{b a nv:Int}{H:zV}{R:zk}(h:pt b a nv H R):C b a nv H R:=by
 refine T_en K0 37 Tryz.func87 ?_
 intro w0 Q hQ
 unfold pt at h
 refine T_su [(0,vi b),(1,vi a),(2,vi nv)]<| ar 0<| T_ed 1 [] []<| T_sz<| T_bz 0<| ar 1 ?_
 refine eQ [(1,vi a),(2,vi nv),(7,.bool ((decide (b<0)) || (decide (b>4))))] ?_ ?_
 ·refine aC ?_
  by_cases c3:((decide (b<0)) || (decide (b>4)))=true
  ·rw[if_pos c3]at h
   exact aF 7 c3<| ar 2<| T_nr 1 [6] [.bool false] hQ h
  rw[if_neg c3]at h
  refine aE 7 (zZ c3)<| ar 3 ?_
  refine eQ [(1,vi a),(2,vi nv),(14,.bool ((a==0) || (a==1)))] ?_ ?_
  ·refine aC ?_
   by_cases c7:((a==0) || (a==1))=true
   ·rw[if_pos c7]at h
    exact aF 14 c7<| ar 4<| T_nr 3 [6] [.bool (nv==2)] hQ h
   rw[if_neg c7]at h
   refine aE 14 (zZ c7)<| T_k<| aB<| aC<| ar 5 ?_
   refine eQ [(6,.bool ((((a==2) || (a==3)) && (decide (nv>=1))) && (decide (nv<=63))))] ?_ ?_
   ·exact aC<| fF [6] [.bool ((((a==2) || (a==3)) && (decide (nv>=1))) && (decide (nv<=63)))] hQ h
   intro hk
   refine T_n 3 [(1,vi a),(2,vi nv),(25,.bool (a==2))] ?_
   by_cases c9:a=2
   ·have b10:(a==2)=true:=zK c9
    refine bJ [(1,vi a),(2,vi nv),(25,.bool true)] (by rw[b10]) ?_
    refine T_nd 8 [1,25] [(33,.bool (decide (nv>=1)))] ?_
    by_cases c11:nv>=1
    ·have b12:(decide (nv>=1))=true:=zX c11
     refine N_bd 33 b12<| T_n 4 [(6,.bool (decide (nv<=63)))] ?_
     refine zq<| dI [(6,.bool ((((a==2) || (a==3)) && (decide (nv>=1))) && (decide (nv<=63))))] (by simp only[b10,b12,BL]) ?_
     exact hk
    have b12:(decide (nv>=1))=false:=zQ c11
    refine N_bd 33 b12<| T_n 4 [(6,.bool false)] ?_
    refine zq<| dI [(6,.bool ((((a==2) || (a==3)) && (decide (nv>=1))) && (decide (nv<=63))))] (by simp only[b10,b12,BL]) ?_
    exact hk
   have b10:(a==2)=false:=zJ c9
   refine bJ [(1,vi a),(2,vi nv),(25,.bool false)] (by rw[b10]) ?_
   refine T_nd 4 [1,25] [(29,.bool (a==3))] ?_
   by_cases c13:a=3
   ·have b14:(a==3)=true:=zK c13
    refine N_bd 29 b14<| T_nd 4 [29] [(33,.bool (decide (nv>=1)))] ?_
    by_cases c15:nv>=1
    ·have b16:(decide (nv>=1))=true:=zX c15
     refine N_bd 33 b16<| T_n 4 [(6,.bool (decide (nv<=63)))] ?_
     refine zq<| dI [(6,.bool ((((a==2) || (a==3)) && (decide (nv>=1))) && (decide (nv<=63))))] (by simp only[b10,b14,b16,BL]) ?_
     exact hk
    have b16:(decide (nv>=1))=false:=zQ c15
    refine N_bd 33 b16<| T_n 4 [(6,.bool false)] ?_
    refine zq<| dI [(6,.bool ((((a==2) || (a==3)) && (decide (nv>=1))) && (decide (nv<=63))))] (by simp only[b10,b14,b16,BL]) ?_
    exact hk
   have b14:(a==3)=false:=zJ c13
   refine N_bd 29 b14<| T_n 8 [(6,.bool false)] ?_
   refine zq<| dI [(6,.bool ((((a==2) || (a==3)) && (decide (nv>=1))) && (decide (nv<=63))))] (by simp only[b10,b14,BL]) ?_
   exact hk
  intro hk
  refine T_n 3 [(1,vi a),(2,vi nv),(17,.bool (a==0))] ?_
  by_cases c5:a=0
  ·have b6:(a==0)=true:=zK c5
   refine bJ [(1,vi a),(2,vi nv),(17,.bool true)] (by rw[b6]) ?_
   refine T_nd 4 [17] [(14,.bool true)]<| zq<| S_bd 14 (b:=true) (v:=((a==0) || (a==1))) (by simp only[b6,BL]) ?_
   exact hk
  have b6:(a==0)=false:=zJ c5
  refine bJ [(1,vi a),(2,vi nv),(17,.bool false)] (by rw[b6]) ?_
  refine T_nd 4 [17] [(14,.bool (a==1))]<| zq<| S_bd 14 (b:=(a==1)) (v:=((a==0) || (a==1))) (by simp only[b6,BL]) ?_
  exact hk
 intro hk
 refine T_n 3 [(0,vi b),(1,vi a),(2,vi nv),(10,.bool (decide (b<0)))] ?_
 by_cases c1:b<0
 ·have b2:(decide (b<0))=true:=zX c1
  refine bJ [(0,vi b),(1,vi a),(2,vi nv),(10,.bool true)] (by rw[b2]) ?_
  refine T_nd 4 [0,10] [(7,.bool true)]<| zq<| S_bd 7 (b:=true) (v:=((decide (b<0)) || (decide (b>4)))) (by simp only[b2,BL]) ?_
  exact hk
 have b2:(decide (b<0))=false:=zQ c1
 refine bJ [(0,vi b),(1,vi a),(2,vi nv),(10,.bool false)] (by rw[b2]) ?_
 refine T_nd 4 [0,10] [(7,.bool (decide (b>4)))]<| zq<| S_bd 7 (b:=(decide (b>4))) (v:=((decide (b<0)) || (decide (b>4)))) (by simp only[b2,BL]) ?_
 exact hk
end fP

/-! (*moraine/space.Space).Current -/
namespace bV
def K0:=Func.code Tryz.f88
end bV
def bV.pt(s:zW)(d b:Int)(H:zV)(R:zk):Prop:=
 dM s (
 R (.tuple #[.int .i64 0,.bool false]) H) (λsA=>
 if d<0 then(
 R (.tuple #[.int .i64 0,.bool false]) H)
 else
 if d>4 then(
 R (.tuple #[.int .i64 0,.bool false]) H)
 else
 if b<0 then(
 R (.tuple #[.int .i64 0,.bool false]) H)
 else
 if b>3 then(
 R (.tuple #[.int .i64 0,.bool false]) H)
 else
 zw d 5/\
 zw b 4/\
 ∃x:Int,hat H (((sA.add 1).add (Int.toNat d*4)).add (Int.toNat b*1))=some (.int .i64 x)/\
 if x=0 then(
 R (.tuple #[.int .i64 0,.bool false]) H)
 else
 zw d 5/\
 zw b 4/\
 ∃f:Int,hat H (((sA.add 1).add (Int.toNat d*4)).add (Int.toNat b*1))=some (.int .i64 f)/\
 R (.tuple #[.int .i64 (zY (f-1)),.bool true]) H)
namespace bV
theorem link{s:zW}{d b:Int}{H:zV}{R:zk}(h:pt s d b H R):C s d b H R:=by
 refine T_en K0 46 Tryz.func88 ?_
 intro w0 Q hQ
 unfold pt zY at h
 refine T_su [(0,vp s),(1,vi d),(2,vi b)]<| ar 0<| T_ed 2 [] []<| T_sz<| ar 1<| T_nd 1 [] [(8,vp s)] ?_
 rcases s with _ | sA
 ·rw[onPtr_none]at h
  exact T_ed 28 [0,8] [(0,vp none),(36,.bool true)]<| T_tz 36<| ar 2<| T_nr 2 [6,7] [vi 0,.bool false] hQ h
 rw[onPtr_some]at h
 refine T_nd 6 [0,8] [(0,vp (some sA)),(14,.bool (decide (d<0)))] ?_
 by_cases c1:d<0
 ·rw[if_pos c1]at h
  exact N_bd 14 (zX c1)<| T_ed 22 [14] [(36,.bool true)]<| T_tz 36<| ar 2<| T_nr 2 [6,7] [vi 0,.bool false] hQ h
 rw[if_neg c1]at h
 refine N_bd 14 (zQ c1)<| T_nd 4 [14] [(18,.bool (decide (d>4)))] ?_
 by_cases c3:d>4
 ·rw[if_pos c3]at h
  exact N_bd 18 (zX c3)<| T_ed 18 [18] [(36,.bool true)]<| T_tz 36<| ar 2<| T_nr 2 [6,7] [vi 0,.bool false] hQ h
 rw[if_neg c3]at h
 refine N_bd 18 (zQ c3)<| T_nd 4 [18] [(22,.bool (decide (b<0)))] ?_
 by_cases c5:b<0
 ·rw[if_pos c5]at h
  exact N_bd 22 (zX c5)<| T_ed 14 [22] [(36,.bool true)]<| T_tz 36<| ar 2<| T_nr 2 [6,7] [vi 0,.bool false] hQ h
 rw[if_neg c5]at h
 refine N_bd 22 (zQ c5)<| T_nd 4 [22] [(26,.bool (decide (b>3)))] ?_
 by_cases c7:b>3
 ·rw[if_pos c7]at h
  exact N_bd 26 (zX c7)<| T_ed 10 [26] [(36,.bool true)]<| T_tz 36<| ar 2<| T_nr 2 [6,7] [vi 0,.bool false] hQ h
 rw[if_neg c7]at h
 refine N_bd 26 (zQ c7)<| T_nd 5 [] [(28,vi d),(29,vi b),(31,vp (some (sA.add 1)))] ?_
 obtain⟨q9,h⟩:=h
 refine T_v1 32 (aR 86 (vp (some (sA.add 1))) (vi d)) (vp (some ((sA.add 1).add (Int.toNat d*4)))) (λw _=>aN (P:=Tryz.prog) (t:=86) (elem:=85) (sz:=4) (n:=5) (a:=(sA.add 1)) (k:=.i64) (i:=d) Tryz.underlying86 (λ_=>by kernel_rfl) q9.1 q9.2 w) [28,31] ?_
 obtain⟨q10,h⟩:=h
 refine T_v1 33 (aR 85 (vp (some ((sA.add 1).add (Int.toNat d*4)))) (vi b)) (vp (some (((sA.add 1).add (Int.toNat d*4)).add (Int.toNat b*1)))) (λw _=>aN (P:=Tryz.prog) (t:=85) (elem:=3) (sz:=1) (n:=4) (a:=((sA.add 1).add (Int.toNat d*4))) (k:=.i64) (i:=b) Tryz.underlying85 (λ_=>by kernel_rfl) q10.1 q10.2 w) [29,32] ?_
 obtain⟨x,q11,h⟩:=h
 refine T_l1 34 3 q11 [33]<| T_ed 2 [26,34] [(36,.bool (x==0))] ?_
 by_cases c12:x=0
 ·rw[if_pos c12]at h
  exact aF 36 (zK c12)<| ar 2<| T_nr 2 [6,7] [vi 0,.bool false] hQ h
 rw[if_neg c12]at h
 refine aE 36 (zJ c12)<| T_kt<| ar 3<| T_n 5 [(38,vi d),(39,vi b),(41,vp (some (sA.add 1)))] ?_
 obtain⟨q14,h⟩:=h
 refine T_v1 42 (aR 86 (vp (some (sA.add 1))) (vi d)) (vp (some ((sA.add 1).add (Int.toNat d*4)))) (λw _=>aN (P:=Tryz.prog) (t:=86) (elem:=85) (sz:=4) (n:=5) (a:=(sA.add 1)) (k:=.i64) (i:=d) Tryz.underlying86 (λ_=>by kernel_rfl) q14.1 q14.2 w) [38,41] ?_
 obtain⟨q15,h⟩:=h
 refine T_v1 43 (aR 85 (vp (some ((sA.add 1).add (Int.toNat d*4)))) (vi b)) (vp (some (((sA.add 1).add (Int.toNat d*4)).add (Int.toNat b*1)))) (λw _=>aN (P:=Tryz.prog) (t:=85) (elem:=3) (sz:=1) (n:=4) (a:=((sA.add 1).add (Int.toNat d*4))) (k:=.i64) (i:=b) Tryz.underlying85 (λ_=>by kernel_rfl) q15.1 q15.2 w) [39,42] ?_
 obtain⟨f,q16,h⟩:=h
 exact T_l1 44 3 q16 [43]<| T_nr 3 [6,7] [vi (zY (f-1)),.bool true] hQ h
end bV

/-! moraine/card.New -/
namespace gK
def K0:=Func.code Tryz.f31
end gK
def gK.pt(a:Int)(H:zV)(R:zk):Prop:=
 fO.C a H (λv H1=> ∃(ra:zW) (rb:Int),v=.tuple #[.pointer ra,.int .i64 rb]/\
 if rb=0 then(
 ∀(b:Nat) (H2:zV),b=H1.size->H2=H1.push (.cells #[.pointer ra] 83)->
 R (.tuple #[.pointer (some (ad b)),.int .i64 0]) H2)
 else
 R (.tuple #[.pointer none,.int .i64 rb]) H1)
namespace gK
theorem link{a:Int}{H:zV}{R:zk}(h:pt a H R):C a H R:=by
 refine T_en K0 17 Tryz.func31 ?_
 intro w0 Q hQ
 unfold pt at h
 refine T_su [(0,vi a)]<| ar 0<| T_ed 2 [] []<| ar 1<| T_n 1 [(7,vi a)]<| T_c (some 8) h ?_;clear h
 rintro v H1 ⟨ra,rb,rfl,h⟩
 refine⟨[(8,.tuple #[vp ra,vi rb])],pk,?_⟩
 refine T_ne 5 [(4,vp ra),(5,vi rb)]<| T_sz<| ar 2<| T_ed 2 [] [(12,.bool (rb !=0))] ?_
 by_cases c1:rb=0
 ·rw[if_pos c1]at h
  refine aE 12 (bne_eq_false_iff_eq.mpr c1)<| T_kt<| ar 4<| T_n 2 [(15,.agg #[vp ra])]<| T_nw (some 16) (λb=>vp (pa b)) (.cells #[vp ra] 83) ?_
  intro b H2 e3 e4
  replace h:=h b H2 e3 e4
  refine⟨[(16,vp (pa b))],pk,?_⟩
  exact T_nr 2 [2,3] [vp (pa b),vi 0] hQ h
 rw[if_neg c1]at h
 exact aF 12 (bne_iff_ne.mpr c1)<| ar 3<| T_nr 3 [2,3] [vp none,vi rb] hQ h
end gK

/-! (*moraine/card.Cards).none -/
namespace cP
def K0:=Func.code Tryz.f76
end cP
def cP.pt(c:zW)(H:zV)(R:zk):Prop:=
 dM c (
 R (.bool true) H) (λcA=>
 ∃x:zW,hat H cA=some (.pointer x)/\
 dM x (
 R (.bool true) H) (λxA=>
 ∃b:zW,hat H cA=some (.pointer b)/\
 ∃d:Addr,b=some d/\
 ∃a:zW,hat H d=some (.pointer a)/\
 dM a (
 R (.bool true) H) (λf=>
 R (.bool false) H)))
namespace cP
theorem link{c:zW}{H:zV}{R:zk}(h:pt c H R):C c H R:=by
 refine T_en K0 22 Tryz.func76 ?_
 intro w0 Q hQ
 unfold pt at h
 refine T_su [(0,vp c)]<| ar 0<| T_ed 1 [] []<| ar 1<| T_nd 1 [] [(3,vp c)] ?_
 rcases c with _ | cA
 ·rw[onPtr_none]at h
  exact T_nr 19 [2] [.bool true] hQ h
 rw[onPtr_some]at h
 refine T_n 5 [(0,vp (some cA)),(5,.bool false),(8,vp (some cA))] ?_
 obtain⟨x,q1,h⟩:=h
 refine T_l1 9 81 q1 [8] ?_
 rcases x with _ | xA
 ·rw[onPtr_none]at h
  exact T_nr 13 [2] [.bool true] hQ h
 rw[onPtr_some]at h
 refine T_n 6 [(12,.bool false),(15,vp (some cA))] ?_
 obtain⟨b,q2,h⟩:=h
 refine T_l1 16 81 q2 [15] ?_
 obtain⟨d,rfl,h⟩:=h
 refine T_nd 2 [16] [(18,vp (some d))] ?_
 obtain⟨a,q3,h⟩:=h
 refine T_l1 19 84 q3 [18] ?_
 rcases a with _ | f
 ·rw[onPtr_none]at h
  exact T_nr 3 [2] [.bool true] hQ h
 rw[onPtr_some]at h
 exact T_nr 3 [2] [.bool false] hQ h
end cP

/-! (*moraine/card.Cards).younger -/
namespace cI
def K0:=Func.code Tryz.f80
end cI
def cI.pt(c:zW)(l j sN d f i g wv a:Int)(H:zV)(R:zk):Prop:=
 ∀(b:Nat) (H1:zV),b=H.size->H1=H.push (.cells #[.int .i64 l,.int .i64 j,.int .i64 sN,.int .i64 d,.int .i64 f,.int .i64 i,.int .i64 g] 96)->
 dF.C c wv H1 (λv H2=> ∃(ra:Int) (rb:Bool),v=.tuple #[.int .i64 ra,.bool rb]/\
 if rb=true then(
 ∃x:Int,hat H2 ((ad b).add 1)=some (.int .i64 x)/\
 if x=3 then(
 R (.int .i64 a) H2)
 else
 ∃k:Int,hat H2 (ad b)=some (.int .i64 k)/\
 if ra<k then(
 R (.int .i64 (if ra<a then ra else a)) H2)
 else
 R (.int .i64 a) H2)
 else
 R (.int .i64 a) H2)
namespace cI
theorem link{c:zW}{l j sN d f i g wv a:Int}{H:zV}{R:zk}(h:pt c l j sN d f i g wv a H R):C c l j sN d f i g wv a H R:=by
 refine T_en K0 33 Tryz.func80 ?_
 intro w0 Q hQ
 unfold pt at h
 refine T_su [(0,vp c),(1,.agg #[vi l,vi j,vi sN,vi d,vi f,vi i,vi g]),(2,vu wv),(3,vi a)]<| ar 0<| T_nw (some 5) (λb=>vp (pa b)) (.cells #[vi l,vi j,vi sN,vi d,vi f,vi i,vi g] 96) ?_
 intro b H1 e1 e2
 replace h:=h b H1 e1 e2
 refine T_pd [1] [(5,vp (pa b))]<| T_ed 1 [] []<| T_sz<| ar 1<| T_nd 2 [0,2] [(12,vp c),(13,vu wv)]<| T_c (some 14) h ?_;clear h
 rintro v H2 ⟨ra,rb,rfl,h⟩
 refine T_pd [12,13] [(14,.tuple #[vi ra,.bool rb])]<| T_ed 5 [14] [(9,vi ra),(10,.bool rb)]<| ar 2<| T_nd 2 [10] [(18,.bool rb)] ?_
 by_cases c3:rb=true
 ·rw[if_pos c3]at h
  refine N_bd 18 c3<| T_nd 1 [] [(19,vp (some ((ad b).add 1)))] ?_
  obtain⟨x,q5,h⟩:=h
  refine T_l1 20 3 q5 [19]<| T_nd 3 [18,20] [(23,.bool (x !=3))] ?_
  by_cases c6:x=3
  ·rw[if_pos c6]at h
   exact N_bd 23 (bne_eq_false_iff_eq.mpr c6)<| T_ed 5 [5,23] [(28,.bool false)]<| T_fz 28<| T_kt<| ar 4<| T_nr 2 [8] [vi a] hQ h
  rw[if_neg c6]at h
  refine N_bd 23 (bne_iff_ne.mpr c6)<| T_nd 2 [5] [(24,vi ra),(25,vp (pa b))] ?_
  obtain⟨k,q8,h⟩:=h
  refine T_l1 26 3 q8 [25]<| T_ed 2 [23,24,26] [(28,.bool (decide (ra<k)))] ?_
  by_cases c9:ra<k
  ·rw[if_pos c9]at h
   exact aF 28 (zX c9)<| ar 3<| T_nr 4 [8] [vi (if ra<a then ra else a)] hQ h
  rw[if_neg c9]at h
  exact aE 28 (zQ c9)<| T_kt<| ar 4<| T_nr 2 [8] [vi a] hQ h
 rw[if_neg c3]at h
 exact N_bd 18 (zZ c3)<| T_ed 10 [5,18] [(28,.bool false)]<| T_fz 28<| T_kt<| ar 4<| T_nr 2 [8] [vi a] hQ h
end cI

/-! (*moraine/card.Cards).Gen -/
namespace dF
def K0:=Func.code Tryz.f106
end dF
def dF.pt(c:zW)(wv:Int)(H:zV)(R:zk):Prop:=
 ec.C wv H (λv H1=> ∃(ra:Int) (rb:Bool),v=.tuple #[.int .i64 ra,.bool rb]/\
 cP.C c H1 (λu H2=> ∃x:Bool,u=.bool x/\
 if x=true then(
 R (.tuple #[.int .i64 0,.bool false]) H2)
 else
 if rb=true then(
 dY.C wv H2 (λt H3=> ∃m:Int,t=.int .i64 m/\
 if m=6 then(
 R (.tuple #[.int .i64 0,.bool false]) H3)
 else
 ∃cA:Addr,c=some cA/\
 ∃r:zW,hat H3 cA=some (.pointer r)/\
 ∃q:Addr,r=some q/\
 ∃o:zW,hat H3 q=some (.pointer o)/\
 bE.C o (zY (Int.tdiv ra 64)) H3 (λs H4=> ∃(k i l a g d f:Int) (j:Bool),s=.tuple #[.agg #[.int .i64 k,.int .i64 i,.int .i64 l,.int .i64 a,.int .i64 g,.int .i64 d,.int .i64 f],.bool j]/\
 ∀(b:Nat) (H5:zV),b=H4.size->H5=H4.push (.cells #[.int .i64 0,.int .i64 0,.int .i64 0,.int .i64 0,.int .i64 0,.int .i64 0,.int .i64 0] 96)->
 (aI H5 (ad b) 0 7)/\ ∀H6,H6=aO H5 (ad b) [.int .i64 k,.int .i64 i,.int .i64 l,.int .i64 a,.int .i64 g,.int .i64 d,.int .i64 f] 0->
 ∃p:Int,hat H6 (ad b)=some (.int .i64 p)/\
 R (.tuple #[.int .i64 p,.bool j]) H6)))
 else
 R (.tuple #[.int .i64 0,.bool false]) H2))
namespace dF
theorem link{c:zW}{wv:Int}{H:zV}{R:zk}(h:pt c wv H R):C c wv H R:=by
 refine T_en K0 41 Tryz.func106 ?_
 intro w0 Q hQ
 unfold pt zY at h
 refine T_su [(0,vp c),(1,vu wv)]<| ar 0<| T_ed 2 [] []<| ar 1<| T_nd 1 [] [(10,vu wv)]<| T_c (some 11) h ?_;clear h
 rintro v H1 ⟨ra,rb,rfl,h⟩
 refine T_pd [10] [(11,.tuple #[vi ra,.bool rb])]<| T_ed 5 [11] [(6,vi ra),(7,.bool rb)]<| T_sz<| ar 2<| T_nd 1 [] [(14,vp c)]<| T_c (some 15) h ?_;clear h
 rintro u H2 ⟨x,rfl,h⟩
 refine T_pd [14] [(15,.bool x)]<| T_nd 1 [15] [(16,.bool x)] ?_
 by_cases c1:x=true
 ·rw[if_pos c1]at h
  exact N_bd 16 c1<| T_ed 8 [1,7,16] [(24,.bool true)]<| T_tz 24<| ar 3<| T_nr 2 [4,5] [vi 0,.bool false] hQ h
 rw[if_neg c1]at h
 refine N_bd 16 (zZ c1)<| T_nd 4 [7,16] [(20,.bool (!rb))] ?_
 by_cases c3:rb=true
 ·rw[if_pos c3]at h
  have b4:(!rb)=false:=congrArg Bool.not (c3)
  have b42:rb=true:=c3
  refine N_bd 20 (b:=(!rb)) (v:=false) (by simp only[b4,b42,Bool.not_true,Bool.not_false]) ?_
  clear b4 b42
  refine T_nd 1 [1] [(21,vu wv)]<| T_c (some 22) h ?_;clear h
  rintro t H3 ⟨m,rfl,h⟩
  refine T_pd [21] [(22,vi m)]<| T_ed 2 [20,22] [(24,.bool (m==6))] ?_
  by_cases c5:m=6
  ·rw[if_pos c5]at h
   exact aF 24 (zK c5)<| ar 3<| T_nr 2 [4,5] [vi 0,.bool false] hQ h
  rw[if_neg c5]at h
  refine aE 24 (zJ c5)<| T_kt<| ar 4<| T_nd 1 [0,24] [(26,vp c)] ?_
  obtain⟨cA,rfl,h⟩:=h
  refine T_nd 2 [26] [(28,vp (some cA))] ?_
  obtain⟨r,q7,h⟩:=h
  refine T_l1 29 81 q7 [28] ?_
  obtain⟨q,rfl,h⟩:=h
  refine T_nd 2 [29] [(31,vp (some q))] ?_
  obtain⟨o,q8,h⟩:=h
  refine T_l1 32 84 q8 [31]<| T_nd 2 [6] [(34,vi (zY (Int.tdiv ra 64)))]<| T_c (some 35) h ?_;clear h
  rintro s H4 ⟨k,i,l,a,g,d,f,j,rfl,h⟩
  refine⟨[(35,.tuple #[.agg #[vi k,vi i,vi l,vi a,vi g,vi d,vi f],.bool j])],pk,?_⟩
  refine T_n 3 [(36,.agg #[vi k,vi i,vi l,vi a,vi g,vi d,vi f]),(37,.bool j)]<| T_nw (some 8) (λb=>vp (pa b)) (.cells #[vi 0,vi 0,vi 0,vi 0,vi 0,vi 0,vi 0] 96) ?_
  intro b H5 e9 e10
  replace h:=h b H5 e9 e10
  refine T_pd [] [(8,vp (pa b))] ?_
  obtain⟨q12,h⟩:=h
  refine fH 96 [vi k,vi i,vi l,vi a,vi g,vi d,vi f] q12 ?_
  intro H6 e11
  replace h:=h H6 e11
  refine T_pd [36] []<| T_ed 1 [37] [(7,.bool j)]<| ar 5<| T_nd 1 [8] [(38,vp (pa b))] ?_
  obtain⟨p,q13,h⟩:=h
  exact T_l1 39 3 q13 [38]<| T_nr 3 [4,5] [vi p,.bool j] hQ h
 rw[if_neg c3]at h
 have b4:(!rb)=true:=congrArg Bool.not (zZ c3)
 have b42:rb=false:=zZ c3
 refine N_bd 20 (b:=(!rb)) (v:=true) (by simp only[b4,b42,Bool.not_true,Bool.not_false]) ?_
 clear b4 b42
 exact T_ed 4 [1,20] [(24,.bool true)]<| T_tz 24<| ar 3<| T_nr 2 [4,5] [vi 0,.bool false] hQ h
end dF

/-! (*moraine/card.Cards).Store -/
/-! (*moraine/obj.Heap).Size -/
namespace dS
def K0:=Func.code Tryz.f46
end dS
def dS.pt(hv:zW)(wv:Int)(H:zV)(R:zk):Prop:=
 dU.C hv wv H (λv H1=> ∃x:Bool,v=.bool x/\
 if x=true then(
 R (.int .i64 2) H1)
 else
 bX.C hv wv H1 (λa H2=> ∃(ra rb rc rd:Int) (re:Bool),a=.tuple #[.int .i64 ra,.int .i64 rb,.int .i64 rc,.int .u64 rd,.bool re]/\
 if re=true then(
 R (.int .i64 (zY (rc+1))) H2)
 else
 R (.int .i64 0) H2))
namespace dS
theorem link{hv:zW}{wv:Int}{H:zV}{R:zk}(h:pt hv wv H R):C hv wv H R:=by
 refine T_en K0 25 Tryz.func46 ?_
 intro w0 Q hQ
 unfold pt zY at h
 refine T_su [(0,vp hv),(1,vu wv)]<| ar 0<| T_ed 1 [] []<| T_sz<| ar 1<| T_nd 2 [] [(10,vp hv),(11,vu wv)]<| T_c (some 12) h ?_;clear h
 rintro v H1 ⟨x,rfl,h⟩
 refine T_pd [10,11] [(12,.bool x)]<| T_e ?_
 by_cases c1:x=true
 ·rw[if_pos c1]at h
  exact aF 12 c1<| ar 2<| T_nr 1 [4] [vi 2] hQ h
 rw[if_neg c1]at h
 refine aE 12 (zZ c1)<| T_kt<| T_sz<| ar 3<| T_n 2 [(14,vp hv),(15,vu wv)]<| T_c (some 16) h ?_;clear h
 rintro a H2 ⟨ra,rb,rc,rd,re,rfl,h⟩
 refine⟨[(16,.tuple #[vi ra,vi rb,vi rc,vu rd,.bool re])],pk,?_⟩
 refine T_ne 11 [(7,vi rc),(9,.bool re)]<| ar 4<| T_ed 1 [9] [(22,.bool re)] ?_
 by_cases c3:re=true
 ·rw[if_pos c3]at h
  exact aF 22 c3<| ar 5<| T_nr 3 [4] [vi (zY (rc+1))] hQ h
 rw[if_neg c3]at h
 exact aE 22 (zZ c3)<| T_kt<| ar 6<| T_nr 1 [4] [vi 0] hQ h
end dS

/-! (*moraine/obj.Heap).Pair -/
namespace dU
def K0:=Func.code Tryz.f83
end dU
def dU.pt(hv:zW)(wv:Int)(H:zV)(R:zk):Prop:=
 dX.C hv wv H (λv H1=> ∃(ra:Int) (rb:Bool),v=.tuple #[.int .i64 ra,.bool rb]/\
 R (.bool rb) H1)
namespace dU
theorem link{hv:zW}{wv:Int}{H:zV}{R:zk}(h:pt hv wv H R):C hv wv H R:=by
 refine T_en K0 14 Tryz.func83 ?_
 intro w0 Q hQ
 unfold pt at h
 refine T_su [(0,vp hv),(1,vu wv)]<| ar 0<| T_ed 1 [] []<| ar 1<| T_n 2 [(8,vp hv),(9,vu wv)]<| T_c (some 10) h ?_;clear h
 rintro v H1 ⟨ra,rb,rfl,h⟩
 refine⟨[(10,.tuple #[vi ra,.bool rb])],pk,?_⟩
 exact T_ne 5 [(6,.bool rb)]<| ar 2<| T_nr 2 [4] [.bool rb] hQ h
end dU

/-! (*moraine/obj.Heap).SetCdr -/
namespace dX
def K0:=Func.code Tryz.f107
end dX
def dX.pt(hv:zW)(wv:Int)(H:zV)(R:zk):Prop:=
 dZ.C hv wv 1 0 H (λv H1=> ∃(ra:Int) (rb:Bool),v=.tuple #[.int .i64 ra,.bool rb]/\
 if rb=true then(
 R (.tuple #[.int .i64 ra,.bool ((Int.tmod ra 2)==0)]) H1)
 else
 dZ.C hv wv 2 1 H1 (λd H2=> ∃(a:Int) (b:Bool),d=.tuple #[.int .i64 a,.bool b]/\
 R (.tuple #[.int .i64 a,.bool (b && ((Int.tmod a 2)==0))]) H2))
namespace dX
theorem link{hv:zW}{wv:Int}{H:zV}{R:zk}(h:pt hv wv H R):C hv wv H R:=by
 refine T_en K0 29 Tryz.func107 ?_
 intro w0 Q hQ
 unfold pt at h
 refine T_su [(0,vp hv),(1,vu wv)]<| ar 0<| T_ed 2 [] []<| ar 1<| T_nd 2 [] [(9,vp hv),(10,vu wv)]<| T_c (some 11) h ?_;clear h
 rintro v H1 ⟨ra,rb,rfl,h⟩
 refine T_pd [9,10] [(11,.tuple #[vi ra,.bool rb])]<| T_ed 5 [11] [(6,vi ra),(7,.bool rb)]<| T_sz<| ar 2<| T_ed 2 [] [(15,.bool (!rb))] ?_
 by_cases c1:rb=true
 ·rw[if_pos c1]at h
  have b2:(!rb)=false:=congrArg Bool.not (c1)
  have b22:rb=true:=c1
  refine S_bd 7 (b:=rb) (v:=true) (by simp only[b2,b22,Bool.not_true,Bool.not_false])<| S_bd 15 (b:=(!rb)) (v:=false) (by simp only[b2,b22,Bool.not_true,Bool.not_false]) ?_
  clear b2 b22
  exact T_fz 15<| T_kt<| ar 4<| T_nr 9 [4,5] [vi ra,.bool ((Int.tmod ra 2)==0)] hQ h
 rw[if_neg c1]at h
 have b2:(!rb)=true:=congrArg Bool.not (zZ c1)
 have b22:rb=false:=zZ c1
 refine S_bd 7 (b:=rb) (v:=false) (by simp only[b2,b22,Bool.not_true,Bool.not_false])<| S_bd 15 (b:=(!rb)) (v:=true) (by simp only[b2,b22,Bool.not_true,Bool.not_false]) ?_
 clear b2 b22
 refine T_tz 15<| T_rz 3<| T_n 2 [(17,vp hv),(18,vu wv)]<| T_c (some 19) h ?_;clear h
 rintro d H2 ⟨a,b,rfl,h⟩
 refine⟨[(19,.tuple #[vi a,.bool b])],pk,?_⟩
 refine T_ne 5 [(6,vi a),(7,.bool b)]<| ar 4 ?_
 refine eQ [(4,vi a),(5,.bool (b && ((Int.tmod a 2)==0)))] ?_ ?_
 ·exact aC<| fF [4,5] [vi a,.bool (b && ((Int.tmod a 2)==0))] hQ h
 intro hk
 refine T_n 3 [(6,vi a),(22,vi a),(24,.bool b)] ?_
 by_cases c3:b=true
 ·have b4:b=true:=c3
  refine bJ [(6,vi a),(22,vi a),(24,.bool true)] (by rw[b4]) ?_
  refine T_n 6 [(4,vi a),(5,.bool ((Int.tmod a 2)==0))]<| zq<| dI [(4,vi a),(5,.bool (b && ((Int.tmod a 2)==0)))] (by simp only[b4,BL]) ?_
  exact hk
 have b4:b=false:=zZ c3
 refine bJ [(6,vi a),(22,vi a),(24,.bool false)] (by rw[b4]) ?_
 refine T_n 6 [(4,vi a),(5,.bool false)]<| zq<| dI [(4,vi a),(5,.bool (b && ((Int.tmod a 2)==0)))] (by simp only[b4,BL]) ?_
 exact hk
end dX

/-! (*moraine/obj.Heap).set -/
/-! (*moraine/obj.Heap).String -/
namespace cM
def K0:=Func.code Tryz.f29
def K2:=cb K0
def K4:=cb K2
def K5:=ca K4
def K8:=cb K5
def K9:=ca K8
def K10:=ca K9
end cM
def cM.pt(hv:zW)(s:ByteArray)(H:zV)(R:zk):Prop:=
 ∀(b:Nat) (H1:zV),b=H.size->H1=H.push (.stringIter s 0)->
 ∃(g:zW->Nat->Nat->zV->Prop) (m11:zW->Nat->Nat->zV->Nat),g none 0 0 H1/\ ∀(lB:zW) (lN:Nat) (lC:Nat) (H2:zV),g lB lN lC H2->
 ∃(a:ByteArray) (pos:Nat),H2[b]?=some (.stringIter a pos)/\
 if pos<a.size then(∀H3:zV,H3=bC H2 b (.stringIter a (pos+(Utf8.decode a pos).2))->
 ∀(f:Nat) (H4:zV),f=H3.size->H4=H3.push (.cells #[.int .u64 (IntKind.wrap .u64 ((Utf8.decode a pos).1:Int))] 33)->
 dw 1 33 8 [.int .u64 0] lB lN lC (some (ad f)) 1 H4 (λap d H5=>
 if((lN+1):Int)>62 then(
 R (.tuple #[.int .u64 0,.int .i64 6]) H5)
 else
 (g ap (lN+1) d H5/\m11 ap (lN+1) d H5<m11 lB lN lC H2)))
 else
 dp.C hv 2 0 lB lN lC H2 (λv H6=> ∃ra rb:Int,v=.tuple #[.int .u64 ra,.int .i64 rb]/\
 R (.tuple #[.int .u64 ra,.int .i64 rb]) H6)
namespace cM
theorem link{hv:zW}{s:ByteArray}{H:zV}{R:zk}(h:pt hv s H R):C hv s H R:=by
 refine T_en K0 27 Tryz.func29 ?_
 intro w0 Q hQ
 unfold pt at h
 refine T_su [(0,vp hv),(1,.string s)]<| ar 0<| T_ed 2 [] []<| ar 1<| T_ed 1 [] [(6,vs none 0 0)]<| T_sz<| ar 2<| T_nd 1 [1] [(9,.string s)]<| T_nw (some 10) (λb=>vp (pa b)) (.stringIter s 0) ?_
 intro b H1 e1 e2
 replace h:=h b H1 e1 e2
 refine T_pd [9] [(10,vp (pa b))]<| T_e<| T_bz 0 ?_
 obtain⟨g,m11,i3,i4⟩:=h
 refine bO (x:=K10) (σ:=zW×Nat×Nat) (λs_=> [(0,vp hv),(6,vs s_.1 s_.2.1 s_.2.2),(10,vp (pa b))]) (λs_ H=>g s_.1 s_.2.1 s_.2.2 H) (λs_ H=>m11 s_.1 s_.2.1 s_.2.2 H) ((none,0,0):zW×Nat×Nat) (by kernel_rfl) i3 sk ?_
 rintro⟨lB,lN,lC⟩ H2 i5
 have h:=i4 lB lN lC H2 i5
 refine T_su [(0,vp hv),(6,vs lB lN lC),(10,vp (pa b))]<| ar 3 ?_
 obtain⟨a,pos,q6,h⟩:=h
 by_cases c7:pos<a.size
 ·rw[if_pos c7]at h
  refine N_op (some 11) (kO (vp (pa b)) true 0) _ (λ_=>by kernel_rfl) (pI q6 c7) ?_
  rintro _ H3 ⟨rfl,e12⟩
  replace h:=h H3 (by assumption)
  refine T_pd [] [(11,.tuple #[.bool true,vi pos,.int .i32 ((Utf8.decode a pos).1:Int)])]<| T_ed 1 [] [(12,.bool true)]<| T_sz<| T_tz 12<| T_kt<| T_bz 1<| ar 4<| T_ed 2 [11,12] [(8,.int .i32 ((Utf8.decode a pos).1:Int))]<| ar 5<| T_nd 3 [6,8] [(14,vs lB lN lC),(16,vu (IntKind.wrap .u64 ((Utf8.decode a pos).1:Int)))]<| T_nw (some 17) (λb=>vs (pa b) 1 1) (.cells #[vu (IntKind.wrap .u64 ((Utf8.decode a pos).1:Int))] 33) ?_
  intro f H4 e8 e9
  replace h:=h f H4 e8 e9
  refine T_pd [16] [(17,vs (pa f) 1 1)]<| N_op (some 18) (dJ #[45,45] 45 #[vs lB lN lC,vs (pa f) 1 1]) _ (λ_=>by kernel_rfl) (di (T:=33) (sz:=1) (bytes:=8) (zero:=(vu 0:Value)) Tryz.underlying45 Tryz.underlying45 rfl (show Tryz.prog.info? 33=some Tryz.t33 from by kernel_rfl) (by kernel_rfl) (by kernel_rfl) (by decide) (by kernel_rfl) (by first | exact h | (simpa only[Value.cells,List.toList_toArray]using h))) ?_;clear h
  rintro _ H5 ⟨ap,d,rfl,h⟩
  refine T_pd [14,17] [(18,vs ap (lN+1) d)]<| T_ed 1 [18] [(6,vs ap (lN+1) d)]<| ar 6<| T_ed 3 [] [(21,.bool (decide (((lN+1):Int)>62)))] ?_
  by_cases c10:((lN+1):Int)>62
  ·rw[if_pos c10]at h
   exact aF 21 (zX c10)<| ar 7<| T_nr 2 [4,5] [vu 0,vi 6] hQ h
  rw[if_neg c10]at h
  exact aE 21 (zQ c10)<| T_k<| aB<| aC<| aK ((ap,(lN+1),d):zW×Nat×Nat) sk h
 rw[if_neg c7]at h
 refine N_op (some 11) (kO (vp (pa b)) true 0) _ (λ_=>by kernel_rfl) (nR q6 c7) ?_
 rintro _ _ ⟨rfl,rfl⟩
 refine T_pd [] [(11,.tuple #[.bool false])]<| T_ed 1 [] [(12,.bool false)]<| T_sz<| T_fz 12<| zj 0<| aA<| aA<| aH<| aC<| ar 8<| T_n 2 [(22,vp hv),(23,vs lB lN lC)]<| T_c (some 24) h ?_;clear h
 rintro v H6 ⟨ra,rb,rfl,h⟩
 refine⟨[(24,.tuple #[vu ra,vi rb])],pk,?_⟩
 exact T_nr 4 [4,5] [vu ra,vi rb] hQ h
end cM

/-! (*moraine/obj.Heap).Text -/
namespace dQ
def K0:=Func.code Tryz.f34
def K2:=cb K0
def K4:=cb K2
def K6:=cb K4
def K12:=cb K6
def K13:=ca K12
def K16:=cb K13
def K17:=ca K16
def K18:=ca K17
end dQ
def dQ.pt(hv:zW)(wv:Int)(H:zV)(R:zk):Prop:=
 dD.C hv wv 2 H (λv H1=> ∃(j:zW) (d f:Nat) (rb:Bool),v=.tuple #[.slice j d f,.bool rb]/\
 if rb=true then(
 ∃(p:zW->Nat->Nat->zv) (m19:zW->Nat->Nat->Int->zV->Nat),p none 0 0 0 H1/\ ∀(sB:zW) (sN:Nat) (sC:Nat) (s21:Int) (H2:zV),p sB sN sC s21 H2->
 if s21< (d:Int)then(
 ∃g:Addr,j=some g/\
 zw s21 d/\
 ∃x:Int,hat H2 (g.add (Int.toNat s21*1))=some (.int .u64 x)/\
 if x>1114111 then(
 ∀(b:Nat) (H3:zV),b=H2.size->H3=H2.push (.cells #[.int .i32 (IntKind.wrap .i32 65533)] 21)->
 dw 1 21 4 [.int .i32 0] sB sN sC (some (ad b)) 1 H3 (λap o H4=>
 (p ap (sN+1) o (zY (s21+1)) H4/\m19 ap (sN+1) o (zY (s21+1)) H4<m19 sB sN sC s21 H2)))
 else
 ∀(q:Nat) (H5:zV),q=H2.size->H5=H2.push (.cells #[.int .i32 (IntKind.wrap .i32 x)] 21)->
 dw 1 21 4 [.int .i32 0] sB sN sC (some (ad q)) 1 H5 (λm l H6=>
 (p m (sN+1) l (zY (s21+1)) H6/\m19 m (sN+1) l (zY (s21+1)) H6<m19 sB sN sC s21 H2)))
 else
 ∃rs:List Int,(db H2 sB (rs.map (Value.int .i32))/\(sB≠none->rs.length=sN))/\
 R (.tuple #[.string (fY rs),.int .i64 0]) H2)
 else
 R (.tuple #[.string (ByteArray.mk #[]),.int .i64 3]) H1)
namespace dQ
theorem link{hv:zW}{wv:Int}{H:zV}{R:zk}(h:pt hv wv H R):C hv wv H R:=by
 refine T_en K0 35 Tryz.func34 ?_
 intro w0 Q hQ
 unfold pt zY at h
 refine T_su [(0,vp hv),(1,vu wv)]<| ar 0<| T_ed 2 [] []<| ar 1<| T_n 2 [(12,vp hv),(13,vu wv)]<| T_c (some 14) h ?_;clear h
 rintro v H1 ⟨j,d,f,rb,rfl,h⟩
 refine⟨[(14,.tuple #[vs j d f,.bool rb])],pk,?_⟩
 refine T_ne 5 [(6,vs j d f),(7,.bool rb)]<| T_sz<| ar 2<| T_ed 2 [7] [(18,.bool (!rb))] ?_
 by_cases c1:rb=true
 ·rw[if_pos c1]at h
  refine aE 18 (congrArg Bool.not (c1))<| T_kt<| ar 4<| T_ed 1 [18] [(8,vs none 0 0)]<| T_sz<| ar 5<| T_ed 3 [6] [(19,vs j d f),(20,vi d),(21,vi 0)]<| T_bz 0 ?_
  obtain⟨p,m19,i3,i4⟩:=h
  refine bO (x:=K18) (σ:=zW×Nat×Nat×Int) (λs_=> [(8,vs s_.1 s_.2.1 s_.2.2.1),(19,vs j d f),(20,vi d),(21,vi s_.2.2.2)]) (λs_ H=>p s_.1 s_.2.1 s_.2.2.1 s_.2.2.2 H) (λs_ H=>m19 s_.1 s_.2.1 s_.2.2.1 s_.2.2.2 H) ((none,0,0,0):zW×Nat×Nat×Int) (by kernel_rfl) i3 sk ?_
  rintro⟨sB,sN,sC,s21⟩ H2 i5
  have h:=i4 sB sN sC s21 H2 i5
  refine T_su [(8,vs sB sN sC),(19,vs j d f),(20,vi d),(21,vi s21)]<| ar 6<| T_ed 1 [] [(22,.bool (decide (s21< (d:Int))))]<| T_sz ?_
  by_cases c6:s21< (d:Int)
  ·rw[if_pos c6]at h
   refine aF 22 (zX c6)<| T_kt<| T_sz<| T_bz 1<| ar 7<| T_ud [22] [] ?_
   obtain⟨g,rfl,q8,h⟩:=h
   refine T_xd (some 23) 45 33 1 g d f .i64 s21 Tryz.underlying45 q8.1 q8.2 [19] [(19,vs (some g) d f),(23,vp (some (g.add (Int.toNat s21*1))))] ?_
   obtain⟨x,q9,h⟩:=h
   refine T_l1 24 33 q9 [23]<| T_ed 1 [24] [(10,vu x)]<| T_sz<| ar 8<| T_ed 2 [] [(26,.bool (decide (x>1114111)))] ?_
   by_cases c10:x>1114111
   ·rw[if_pos c10]at h
    refine aF 26 (zX c10)<| T_rz 9<| T_ed 1 [10,26] [(10,vu 65533)]<| T_rz 10<| T_nd 3 [8,10] [(27,vs sB sN sC),(29,.int .i32 (IntKind.wrap .i32 65533))]<| T_nw (some 30) (λb=>vs (pa b) 1 1) (.cells #[.int .i32 (IntKind.wrap .i32 65533)] 21) ?_
    intro b H3 e12 e13
    replace h:=h b H3 e12 e13
    refine T_pd [29] [(30,vs (pa b) 1 1)]<| N_op (some 31) (dJ #[74,74] 74 #[vs sB sN sC,vs (pa b) 1 1]) _ (λ_=>by kernel_rfl) (di (T:=21) (sz:=1) (bytes:=4) (zero:=(.int .i32 0:Value)) Tryz.underlying74 Tryz.underlying74 rfl (show Tryz.prog.info? 21=some Tryz.t21 from by kernel_rfl) (by kernel_rfl) (by kernel_rfl) (by decide) (by kernel_rfl) (by first | exact h | (simpa only[Value.cells,List.toList_toArray]using h))) ?_;clear h
    rintro _ H4 ⟨ap,o,rfl,h⟩
    exact T_pd [27,30] [(31,vs ap (sN+1) o)]<| T_nd 1 [31] [(8,vs ap (sN+1) o)]<| zq<| aB<| aC<| T_rz 11<| T_ed 2 [21] [(21,vi (zY (s21+1)))]<| aK ((ap,(sN+1),o,(zY (s21+1))):zW×Nat×Nat×Int) sk h
   rw[if_neg c10]at h
   refine aE 26 (zQ c10)<| T_kt<| T_rz 10<| T_nd 3 [8,10,26] [(27,vs sB sN sC),(29,.int .i32 (IntKind.wrap .i32 x))]<| T_nw (some 30) (λb=>vs (pa b) 1 1) (.cells #[.int .i32 (IntKind.wrap .i32 x)] 21) ?_
   intro q H5 e14 e15
   replace h:=h q H5 e14 e15
   refine T_pd [29] [(30,vs (pa q) 1 1)]<| N_op (some 31) (dJ #[74,74] 74 #[vs sB sN sC,vs (pa q) 1 1]) _ (λ_=>by kernel_rfl) (di (T:=21) (sz:=1) (bytes:=4) (zero:=(.int .i32 0:Value)) Tryz.underlying74 Tryz.underlying74 rfl (show Tryz.prog.info? 21=some Tryz.t21 from by kernel_rfl) (by kernel_rfl) (by kernel_rfl) (by decide) (by kernel_rfl) (by first | exact h | (simpa only[Value.cells,List.toList_toArray]using h))) ?_;clear h
   rintro _ H6 ⟨m,l,rfl,h⟩
   exact T_pd [27,30] [(31,vs m (sN+1) l)]<| T_nd 1 [31] [(8,vs m (sN+1) l)]<| zq<| aB<| aC<| T_rz 11<| T_ed 2 [21] [(21,vi (zY (s21+1)))]<| aK ((m,(sN+1),l,(zY (s21+1))):zW×Nat×Nat×Int) sk h
  rw[if_neg c6]at h
  refine aE 22 (zQ c6)<| zj 0<| aA<| aA<| aH<| aC<| ar 12<| T_n 1 [(33,vs sB sN sC)] ?_
  obtain⟨rs,q16,h⟩:=h
  exact T_v1 34 (lD 74 9 (vs sB sN sC)) (.string (fY rs)) (λw hw=>mm Tryz.underlying74 Tryz.underlying9 Tryz.underlying21 (by rw[hw];exact q16.1) q16.2) [33]<| T_nr 2 [4,5] [.string (fY rs),vi 0] hQ h
 rw[if_neg c1]at h
 exact aF 18 (congrArg Bool.not (zZ c1))<| ar 3<| T_nr 2 [4,5] [.string (ByteArray.mk #[]),vi 3] hQ h
end dQ

/-! (*moraine/obj.Heap).Next -/
namespace dR
def K0:=Func.code Tryz.f43
end dR
def dR.pt(hv:zW)(H:zV)(R:zk):Prop:=
 dq.C hv H (λv H1=> ∃x:Bool,v=.bool x/\
 if x=true then(
 R (.tuple #[]) H1)
 else
 ∃a:Addr,hv=some a/\
 ∃b:Int,hat H1 (a.add 3)=some (.int .u64 b)/\
 (aI H1 (a.add 3) 0 1)/\ ∀H2,H2=aO H1 (a.add 3) [.int .u64 (IntKind.wrap .u64 (b+1))] 0->
 R (.tuple #[]) H2)
namespace dR
theorem link{hv:zW}{H:zV}{R:zk}(h:pt hv H R):C hv H R:=by
 refine T_en K0 12 Tryz.func43 ?_
 intro w0 Q hQ
 unfold pt at h
 refine T_su [(0,vp hv)]<| ar 0<| T_nd 1 [] [(2,vp hv)]<| T_c (some 3) h ?_;clear h
 rintro v H1 ⟨x,rfl,h⟩
 refine T_pd [2] [(3,.bool x)]<| T_ed 1 [3] [(4,.bool (!x))] ?_
 by_cases c1:x=true
 ·rw[if_pos c1]at h
  exact aE 4 (congrArg Bool.not (c1))<| T_k<| fN (fn:=Tryz.f43) [] hQ (show dh _ _ _ [] _ from .nil) h
 rw[if_neg c1]at h
 refine aF 4 (congrArg Bool.not (zZ c1))<| T_rz 1<| T_n 1 [(5,vp hv)] ?_
 obtain⟨a,rfl,h⟩:=h
 refine T_n 2 [(5,vp (some a)),(7,vp (some (a.add 3)))] ?_
 obtain⟨b,q3,h⟩:=h
 refine T_l1 8 32 q3 [7]<| T_n 3 [(9,vu (IntKind.wrap .u64 (b+1))),(11,vp (some (a.add 3)))] ?_
 obtain⟨q5,h⟩:=h
 refine eq 32 (vu (IntKind.wrap .u64 (b+1))) q5 ?_
 intro H2 e4
 replace h:=h H2 e4
 refine⟨[],pk,?_⟩
 exact zq<| fN (fn:=Tryz.f43) [] hQ (show dh _ _ _ [] _ from .nil) h
end dR

/-! (*moraine/obj.Heap).words -/
namespace dD
def K0:=Func.code Tryz.f70
def K2:=cb K0
def K4:=cb K2
def K6:=cb K4
def K14:=cb K6
def K15:=ca K14
def K18:=cb K15
def K19:=ca K18
def K20:=ca K19
end dD
def dD.pt(hv:zW)(wv f:Int)(H:zV)(R:zk):Prop:=
 bX.C hv wv H (λv H1=> ∃(ra rb rc rd:Int) (re:Bool),v=.tuple #[.int .i64 ra,.int .i64 rb,.int .i64 rc,.int .u64 rd,.bool re]/\
 if((!re) || (rb !=f))=true then(
 R (.tuple #[.slice none 0 0,.bool false]) H1)
 else
 0<=rc/\rc<=rc/\8*rc<=2 ^ 48/\rc<=9223372036854775807/\
 ∀(b:Nat) (H2:zV),b=H1.size->H2=H1.push (.cells (Builtin.zeroCells #[.int .u64 0] (Int.toNat rc)) 33)->
 ∃(o:zv) (m21:Int->zV->Nat),o 0 H2/\ ∀(d:Int) (H3:zV),o d H3->
 if d< ((Int.toNat rc):Int)then(
 ∃g:Addr,hv=some g/\
 ∃x:zW,hat H3 g=some (.pointer x)/\
 ∃xA:Addr,x=some xA/\
 ∃m:zW,hat H3 xA=some (.pointer m)/\
 ∃p:Addr,m=some p/\
 ∃l:zW,hat H3 p=some (.pointer l)/\
 bR.C l (zY ((zY (ra+1))+d)) H3 (λr H4=> ∃j q:Int,r=.tuple #[.int .u64 j,.int .i64 q]/\
 ((0:Int)<=d/\d< ((Int.toNat rc):Int))/\
 (aI H4 ((ad b).add (Int.toNat d*1)) 0 1)/\ ∀H5,H5=aO H4 ((ad b).add (Int.toNat d*1)) [.int .u64 j] 0->
 (o (zY (d+1)) H5/\m21 (zY (d+1)) H5<m21 d H3)))
 else
 R (.tuple #[.slice (some (ad b)) (Int.toNat rc) (Int.toNat rc),.bool true]) H3)
namespace dD
theorem link{hv:zW}{wv f:Int}{H:zV}{R:zk}(h:pt hv wv f H R):C hv wv f H R:=by
 refine T_en K0 61 Tryz.func70 ?_
 intro w0 Q hQ
 unfold pt zY at h
 refine T_su [(0,vp hv),(1,vu wv),(2,vi f)]<| ar 0<| T_ed 2 [] []<| ar 1<| T_nd 2 [1] [(16,vp hv),(17,vu wv)]<| T_c (some 18) h ?_;clear h
 rintro v H1 ⟨ra,rb,rc,rd,re,rfl,h⟩
 refine T_pd [16,17] [(18,.tuple #[vi ra,vi rb,vi rc,vu rd,.bool re])]<| T_ed 11 [18] [(8,vi ra),(9,vi rb),(10,vi rc),(12,.bool re)]<| T_sz<| ar 2 ?_
 refine eQ [(0,vp hv),(8,vi ra),(10,vi rc),(30,.bool ((!re) || (rb !=f)))] ?_ ?_
 ·refine aC ?_
  by_cases c3:((!re) || (rb !=f))=true
  ·rw[if_pos c3]at h
   exact aF 30 c3<| ar 3<| T_nr 2 [6,7] [vs none 0 0,.bool false] hQ h
  rw[if_neg c3]at h
  refine aE 30 (zZ c3)<| T_kt<| ar 4<| T_n 1 [(0,vp hv),(8,vi ra),(31,vi rc)] ?_
  obtain⟨q5,q6,q7,q8,h⟩:=h
  refine N_op (some 32) (iy 45 (vi rc) (vi rc)) (λv Hz=>v=Value.slice (some (Addr.mk H1.size 0 none)) (Int.toNat rc) (Int.toNat rc)/\Hz=H1.push (.cells (Builtin.zeroCells #[vu 0] (Int.toNat rc)) 33)) (λ_=>by kernel_rfl) (nk (T:=33) (zero:=vu 0) Tryz.underlying45 (show Tryz.prog.info? 33=some Tryz.t33 from by kernel_rfl) (by kernel_rfl) q5 q6 q7 q8 (by kernel_rfl) (by decide)) ?_
  rintro _ H2 ⟨rfl,e10⟩
  obtain⟨b,e9⟩: ∃b,b=H1.size:=⟨_,rfl⟩
  replace h:=h b H2 e9 e10
  rw[<-e9]
  refine T_pd [31] [(32,vs (pa b) (Int.toNat rc) (Int.toNat rc))]<| T_ed 1 [32] [(13,vs (pa b) (Int.toNat rc) (Int.toNat rc))]<| T_sz<| ar 5<| T_ed 3 [] [(34,vi ((Int.toNat rc):Int)),(35,vi 0)]<| T_bz 0 ?_
  obtain⟨o,m21,i11,i12⟩:=h
  refine bO (x:=K20) (σ:=Int) (λs_=> [(0,vp hv),(8,vi ra),(13,vs (pa b) (Int.toNat rc) (Int.toNat rc)),(34,vi ((Int.toNat rc):Int)),(35,vi s_)]) (λs_ H=>o s_ H) (λs_ H=>m21 s_ H) (0:Int) (by kernel_rfl) i11 sk ?_
  rintro d H3 i13
  have h:=i12 d H3 i13
  refine T_su [(0,vp hv),(8,vi ra),(13,vs (pa b) (Int.toNat rc) (Int.toNat rc)),(34,vi ((Int.toNat rc):Int)),(35,vi d)]<| ar 6<| T_ed 1 [] [(36,.bool (decide (d< ((Int.toNat rc):Int))))]<| T_sz ?_
  by_cases c14:d< ((Int.toNat rc):Int)
  ·rw[if_pos c14]at h
   refine aF 36 (zX c14)<| T_kt<| T_sz<| T_bz 1<| ar 7<| T_ed 2 [36] [(14,vi d)]<| T_rz 8<| T_nd 3 [] [(39,vs (pa b) (Int.toNat rc) (Int.toNat rc)),(40,vi d),(41,vp hv)] ?_
   obtain⟨g,rfl,h⟩:=h
   refine T_nd 2 [0,41] [(0,vp (some g)),(43,vp (some g))] ?_
   obtain⟨x,q16,h⟩:=h
   refine T_l1 44 44 q16 [43] ?_
   obtain⟨xA,rfl,h⟩:=h
   refine T_nd 2 [44] [(46,vp (some xA))] ?_
   obtain⟨m,q17,h⟩:=h
   refine T_l1 47 81 q17 [46] ?_
   obtain⟨p,rfl,h⟩:=h
   refine T_nd 2 [47] [(49,vp (some p))] ?_
   obtain⟨l,q18,h⟩:=h
   refine T_l1 50 84 q18 [49]<| T_nd 4 [14] [(54,vi (zY ((zY (ra+1))+d)))]<| T_c (some 55) h ?_;clear h
   rintro r H4 ⟨j,q,rfl,h⟩
   refine T_pd [50,54] [(55,.tuple #[vu j,vi q])]<| T_nd 3 [55] [(56,vu j)] ?_
   obtain⟨q19,h⟩:=h
   refine T_v1 58 (aR 45 (vs (pa b) (Int.toNat rc) (Int.toNat rc)) (vi d)) (vp (some ((ad b).add (Int.toNat d*1)))) (λw _=>gu (P:=Tryz.prog) (t:=45) (elem:=33) (sz:=1) (a:=(ad b)) (len:=(Int.toNat rc)) (cap:=(Int.toNat rc)) (k:=.i64) (i:=d) Tryz.underlying45 (λ_=>by kernel_rfl) q19.1 q19.2 w) [39,40] ?_
   obtain⟨q21,h⟩:=h
   refine eq 33 (vu j) q21 ?_
   intro H5 e20
   replace h:=h H5 e20
   exact T_pd [56,58] []<| zq<| aB<| aC<| T_rz 9<| T_ed 2 [35] [(35,vi (zY (d+1)))]<| aK ((zY (d+1)):Int) sk h
  rw[if_neg c14]at h
  exact aE 36 (zQ c14)<| zj 0<| aA<| aA<| aH<| aC<| ar 10<| T_nr 3 [6,7] [vs (pa b) (Int.toNat rc) (Int.toNat rc),.bool true] hQ h
 intro hk
 refine T_n 3 [(0,vp hv),(2,vi f),(8,vi ra),(9,vi rb),(10,vi rc),(26,.bool (!re))] ?_
 by_cases c1:re=true
 ·have b2:(!re)=false:=congrArg Bool.not (c1)
  have b22:re=true:=c1
  refine bJ [(0,vp hv),(2,vi f),(8,vi ra),(9,vi rb),(10,vi rc),(26,.bool false)] (by simp only[b2,b22,Bool.not_true,Bool.not_false]) ?_
  refine T_nd 4 [2,9,26] [(30,.bool (rb !=f))]<| zq<| S_bd 30 (b:=(rb !=f)) (v:=((!re) || (rb !=f))) (by simp only[b2,BL]) ?_
  exact hk
 have b2:(!re)=true:=congrArg Bool.not (zZ c1)
 have b22:re=false:=zZ c1
 refine bJ [(0,vp hv),(2,vi f),(8,vi ra),(9,vi rb),(10,vi rc),(26,.bool true)] (by simp only[b2,b22,Bool.not_true,Bool.not_false]) ?_
 refine T_nd 4 [2,9,26] [(30,.bool true)]<| zq<| S_bd 30 (b:=true) (v:=((!re) || (rb !=f))) (by simp only[b2,BL]) ?_
 exact hk
end dD

/-! slices.Clone[[]moraine/api.Entry,moraine/api.Entry] -/
namespace bL
def K0:=Func.code Tryz.f71
end bL
def bL.pt(sB:zW)(sN sC:Nat)(v:Int)(H:zV)(R:zk):Prop:=
 cD.C sB sN sC v H (λa H1=> ∃x:Int,a=.int .i64 x/\
 R (.bool (decide (x>=0))) H1)
namespace bL
theorem link{sB:zW}{sN sC:Nat}{v:Int}{H:zV}{R:zk}(h:pt sB sN sC v H R):C sB sN sC v H R:=by
 refine T_en K0 9 Tryz.func71 ?_
 intro w0 Q hQ
 unfold pt at h
 refine T_su [(0,vs sB sN sC),(1,vi v)]<| ar 0<| T_ed 1 [] []<| ar 1<| T_n 2 [(5,vs sB sN sC),(6,vi v)]<| T_c (some 7) h ?_;clear h
 rintro a H1 ⟨x,rfl,h⟩
 refine⟨[(7,vi x)],pk,?_⟩
 exact T_nr 2 [4] [.bool (decide (x>=0))] hQ h
end bL

/-! slices.Index[[]int,int] -/
namespace cD
def K0:=Func.code Tryz.f101
def K2:=cb K0
def K3:=ca K2
def K6:=cb K3
def K7:=ca K6
def K8:=ca K7
end cD
def cD.pt(sB:zW)(sN sC:Nat)(v:Int)(H:zV)(R:zk):Prop:=
 ∃(I9:zv) (m9:Int->zV->Nat),I9 0 H/\ ∀(s8:Int) (H1:zV),I9 s8 H1->
 if s8< (sN:Int)then(
 ∃b:Addr,sB=some b/\
 zw s8 sN/\
 ∃x:Int,hat H1 (b.add (Int.toNat s8*1))=some (.int .i64 x)/\
 if v=x then(
 R (.int .i64 s8) H1)
 else
 (I9 (zY (s8+1)) H1/\m9 (zY (s8+1)) H1<m9 s8 H1))
 else
 R (.int .i64 (-1)) H1
namespace cD
theorem link{sB:zW}{sN sC:Nat}{v:Int}{H:zV}{R:zk}(h:pt sB sN sC v H R):C sB sN sC v H R:=by
 refine T_en K0 19 Tryz.func101 ?_
 intro w0 Q hQ
 unfold pt zY at h
 refine T_su [(0,vs sB sN sC),(1,vi v)]<| ar 0<| T_ed 1 [] []<| T_sz<| ar 1<| T_ed 3 [] [(7,vi sN),(8,vi 0)]<| T_bz 0 ?_
 obtain⟨I9,m9,i1,i2⟩:=h
 refine bO (x:=K8) (σ:=Int) (λs_=> [(0,vs sB sN sC),(1,vi v),(7,vi sN),(8,vi s_)]) (λs_ H=>I9 s_ H) (λs_ H=>m9 s_ H) (0:Int) (by kernel_rfl) i1 sk ?_
 rintro s8 H1 i3
 have h:=i2 s8 H1 i3
 refine T_su [(0,vs sB sN sC),(1,vi v),(7,vi sN),(8,vi s8)]<| ar 2<| T_ed 1 [] [(9,.bool (decide (s8< (sN:Int))))]<| T_sz ?_
 by_cases c4:s8< (sN:Int)
 ·rw[if_pos c4]at h
  refine aF 9 (zX c4)<| T_kt<| T_sz<| T_bz 1<| ar 3<| T_ed 2 [9] [(5,vi s8)]<| ar 4<| T_nd 3 [] [(11,vi v),(12,vs sB sN sC),(13,vi s8)] ?_
  obtain⟨b,rfl,q6,h⟩:=h
  refine T_xd (some 14) 79 3 1 b sN sC .i64 s8 Tryz.underlying79 q6.1 q6.2 [0,12,13] [(0,vs (some b) sN sC),(14,vp (some (b.add (Int.toNat s8*1))))] ?_
  obtain⟨x,q7,h⟩:=h
  refine T_l1 15 3 q7 [14]<| T_ed 1 [11,15] [(16,.bool (v==x))] ?_
  by_cases c8:v=x
  ·rw[if_pos c8]at h
   exact aF 16 (zK c8)<| ar 5<| T_nr 2 [4] [vi s8] hQ h
  rw[if_neg c8]at h
  exact aE 16 (zJ c8)<| T_k<| aB<| aC<| T_rz 6<| T_ed 2 [5,8,16] [(8,vi (zY (s8+1)))]<| aK ((zY (s8+1)):Int) sk h
 rw[if_neg c4]at h
 exact aE 9 (zQ c4)<| zj 0<| aA<| aA<| aH<| aC<| ar 7<| T_nr 1 [4] [vi (-1)] hQ h
end cD

/-! moraine/syms.Find -/
namespace eS
def K0:=Func.code Tryz.f11
def K2:=cb K0
def K4:=cb K2
def K11:=ca K4
def K14:=cb K11
def K15:=ca K14
def K16:=ca K15
def K17:=cb K15
end eS
def eS.pt(hv:zW)(k:ByteArray)(H:zV)(R:zk):Prop:=
 ∀(b:Nat) (H1:zV),b=H.size->H1=H.push (.cells #[.string k] 9)->
 ∀(a:Nat) (H2:zV),a=H1.size->H2=H1.push (.cells #[.int .u64 0] 33)->
 ∀(d:Nat) (H3:zV),d=H2.size->H3=H2.push (.cells #[.bool false] 4)->
 dM hv (
 (aI H3 (ad a) 0 1)/\ ∀H4,H4=aO H3 (ad a) [.int .u64 0] 0->
 (aI H4 (ad d) 0 1)/\ ∀H5,H5=aO H4 (ad d) [.bool false] 0->
 ∃r:Int,hat H5 (ad a)=some (.int .u64 r)/\
 ∃y:Bool,hat H5 (ad d)=some (.bool y)/\
 R (.tuple #[.int .u64 r,.bool y]) H5) (λq=>
 fq.C (some q) H3 (λv H6=>v=v/\
 ∀(rc:LoopState->Option Code->Obj) (lp:Nat) (H7:zV),lp=H6.size+1->H7=(H6.push (.deferred (some []))).push (rc .ready none)->
 ∀vY:Value,(∀(f:Int) (x_3:ByteArray) (H8:zV) (vRy:zk),H8[lp]?=some (rc .ready none)->
 (H8[lp]?=some (rc .ready none)/\ ∀H9:zV,H9=bC H8 lp (rc .busy none)->
 ∃j:ByteArray,hat H9 (ad b)=some (.string j)/\
 if x_3.toList=j.toList then(
 (aI H9 (ad a) 0 1)/\ ∀l,l=aO H9 (ad a) [.int .u64 f] 0->
 (aI l (ad d) 0 1)/\ ∀o,o=aO l (ad d) [.bool true] 0->
 o[lp]?=some (rc .busy none)/\
 vRy (.bool false) (bC o lp (rc .done (some .ret))))
 else
 H9[lp]?=some (rc .busy none)/\
 vRy (.bool true) (bC H9 lp (rc .ready none)))->
 FC Tryz.prog vY #[.int .u64 f,.string x_3] H8 vRy)->
 FE Tryz.prog v #[vY] H7 (λ_ p=>
 (p[lp]?=some (rc .ready none)/\ ∀i:zV,i=bC p lp (rc .exhausted none)->
 (aI i (ad a) 0 1)/\ ∀m,m=aO i (ad a) [.int .u64 0] 0->
 (aI m (ad d) 0 1)/\ ∀aa,aa=aO m (ad d) [.bool false] 0->
 Shut (H6.size::[]) aa (λs=>
 ∃t:Int,hat s (ad a)=some (.int .u64 t)/\
 ∃z:Bool,hat s (ad d)=some (.bool z)/\
 R (.tuple #[.int .u64 t,.bool z]) s))\/
 (p[lp]?=some (rc .done (some .ret))/\ ∀i:zV,i=bC p lp (rc .exhausted (some .ret))->
 Shut (H6.size::[]) i (λab=>
 ∃u:Int,hat ab (ad a)=some (.int .u64 u)/\
 ∃x:Bool,hat ab (ad d)=some (.bool x)/\
 R (.tuple #[.int .u64 u,.bool x]) ab)))))
namespace eS
theorem link{hv:zW}{k:ByteArray}{H:zV}{R:zk}(h:pt hv k H R):C hv k H R:=by
 refine T_en K0 18 Tryz.func11 ?_
 intro w0 Q hQ
 unfold pt at h
 refine T_su [(0,vp hv),(1,.string k)]<| ar 0<| T_nw (some 3) (λb=>vp (pa b)) (.cells #[.string k] 9) ?_
 intro b H1 e1 e2
 replace h:=h b H1 e1 e2
 refine T_pd [1] [(3,vp (pa b))]<| T_nw (some 4) (λb=>vp (pa b)) (.cells #[vu 0] 33) ?_
 intro a H2 e3 e4
 replace h:=h a H2 e3 e4
 refine T_pd [] [(4,vp (pa a))]<| T_nw (some 5) (λb=>vp (pa b)) (.cells #[.bool false] 4) ?_
 intro d H3 e5 e6
 replace h:=h d H3 e5 e6
 refine T_pd [] [(5,vp (pa d))]<| T_e<| T_sz<| ar 1<| T_nd 1 [] [(8,vp hv)] ?_
 rcases hv with _ | q
 ·rw[onPtr_none]at h
  refine T_ed 1 [0,8] [(0,vp none),(9,.bool true)]<| T_tz 9<| ar 2<| T_ud [0,3,9] [] ?_
  obtain⟨q8,h⟩:=h
  refine eq 33 (vu 0) q8 ?_
  intro H4 e7
  replace h:=h H4 e7
  refine T_pd [] [] ?_
  obtain⟨q10,h⟩:=h
  refine eq 4 (.bool false) q10 ?_
  intro H5 e9
  replace h:=h H5 e9
  refine T_pd [] []<| T_e<| zx ?_
  show At _ _ _ _ _ (Q .ret)
  obtain⟨r,q11,y,q12,h⟩:=h
  exact nh (fn:=Tryz.f11) [vu r,.bool y] hQ (show dh _ _ _ [.cell 4 33,.cell 5 4] _ from .cell (by kernel_rfl) (eL (λ_=>by kernel_rfl) q11) (.cell (by kernel_rfl) (eL (λ_=>by kernel_rfl) q12) (.nil))) h
 rw[onPtr_some]at h
 refine T_ed 1 [0,8] [(0,vp (some q)),(9,.bool false)]<| T_fz 9<| T_kt<| T_sz<| ar 3<| T_nd 1 [0,9] [(10,vp (some q))]<| T_c (some 11) h ?_;clear h
 rintro v H6 ⟨-,h⟩
 refine T_pd [10] [(11,v)]<| T_e<| T_bz 0<| pL (g:=.tmp 11) (ps:= #[12,13]) (assign:=K16) (body:=K17) (v) (by kernel_rfl) (by kernel_rfl) (by kernel_rfl) ?_
 intro rc lp H7 r13 e14 e15 y16
 refine FE.mono (h rc lp H7 e14 e15 (.func (.yield lp) #[] #[]) ?_) ?_
 ·clear h
  intro f x_3 H8 vRy q17 h
  refine y16 #[vu f,.string x_3] H8 vRy (by kernel_rfl) q17 (λw1x=>?_)
  refine T_sd [] [(12,vu f),(13,.string x_3)]<| ar 4<| T_ed 1 [11,12] [(6,vu f)]<| T_rz 5<| T_nd 1 [13] [(7,.string x_3)]<| zq ?_
  obtain⟨q19,h⟩:=h
  refine aC<| pK r13 q19 ?_
  intro H9 e18
  replace h:=h H9 e18
  refine T_bz 1<| ar 6<| T_nd 1 [7] [(14,.string x_3)] ?_
  obtain⟨j,q20,h⟩:=h
  refine T_l1 15 9 q20 [3]<| T_ed 1 [14,15] [(16,.bool (x_3.toList==j.toList))] ?_
  by_cases c21:x_3.toList=j.toList
  ·rw[if_pos c21]at h
   refine aF 16 (zK c21)<| ar 7<| T_nd 1 [6,16] [(17,vu f)] ?_
   obtain⟨q24,h⟩:=h
   refine eq 33 (vu f) q24 ?_
   intro l e23
   replace h:=h l e23
   refine T_pd [4,17] [] ?_
   obtain⟨q26,h⟩:=h
   refine eq 4 (.bool true) q26 ?_
   intro o e25
   replace h:=h o e25
   refine⟨[],pk,?_⟩
   refine T_e<| zx ?_
   show At _ _ _ _ _ (roundPost _ _ _ .ret)
   obtain⟨q27,h⟩:=h
   exact sl r13 q27 h
  rw[if_neg c21]at h
  refine aE 16 (zJ c21)<| T_k<| aB ?_
  obtain⟨q28,h⟩:=h
  exact mJ r13 q28 h
 clear h y16
 rintro _ p (⟨q29,h⟩ | ⟨q29,h⟩)
 ·refine .inl ⟨q29,λi e38=>?_⟩
  replace h:=h i e38
  refine ni (H6.size::[]) rfl ?_
  refine T_sd [3,11] []<| aB<| aC<| ar 8 ?_
  obtain⟨q31,h⟩:=h
  refine eq 33 (vu 0) q31 ?_
  intro m e30
  replace h:=h m e30
  refine T_pd [] [] ?_
  obtain⟨q33,h⟩:=h
  refine eq 4 (.bool false) q33 ?_
  intro aa e32
  replace h:=h aa e32
  refine T_pd [] []<| T_e<| zx ?_
  show At _ _ _ _ _ (Q .ret)
  refine lc (fn:=Tryz.f11) (H6.size::[]) hQ (Shut.mono (λs h=>?_) h)
  obtain⟨t,q34,z,q35,h⟩:=h
  exact⟨[vu t,.bool z],(show dh _ _ _ [.cell 4 33,.cell 5 4] _ from .cell (by kernel_rfl) (eL (λ_=>by kernel_rfl) q34) (.cell (by kernel_rfl) (eL (λ_=>by kernel_rfl) q35) (.nil))),h⟩
 refine .inr ⟨_,q29,λi e38=>?_⟩
 replace h:=h i e38
 refine ni (H6.size::[]) rfl ?_
 refine T_sd [3,11] []<| qq rfl ?_
 show At _ _ _ _ _ (Q .ret)
 refine lc (fn:=Tryz.f11) (H6.size::[]) hQ (Shut.mono (λab h=>?_) h)
 obtain⟨u,q36,x,q37,h⟩:=h
 exact⟨[vu u,.bool x],(show dh _ _ _ [.cell 4 33,.cell 5 4] _ from .cell (by kernel_rfl) (eL (λ_=>by kernel_rfl) q36) (.cell (by kernel_rfl) (eL (λ_=>by kernel_rfl) q37) (.nil))),h⟩
end eS

/-! moraine/syms.Intern -/
namespace bU
def K0:=Func.code Tryz.f12
end bU
def bU.pt(hv:zW)(a:ByteArray)(H:zV)(R:zk):Prop:=
 if a.toList=(ByteArray.mk #[]).toList then(
 R (.tuple #[.int .u64 0,.int .i64 1]) H)
 else
 aP.C a H (λv H1=> ∃x:Bool,v=.bool x/\
 if x=true then(
 aV.C a H1 (λr H2=> ∃k:Int,r=.int .i64 k/\
 if k>62 then(
 R (.tuple #[.int .u64 0,.int .i64 6]) H2)
 else
 eS.C hv a H2 (λp H3=> ∃(ra:Int) (rb:Bool),p=.tuple #[.int .u64 ra,.bool rb]/\
 if rb=true then(
 R (.tuple #[.int .u64 ra,.int .i64 0]) H3)
 else
 dM hv (
 R (.tuple #[.int .u64 0,.int .i64 2]) H3) (λd=>
 cM.C (some d) a H3 (λo H4=> ∃j i:Int,o=.tuple #[.int .u64 j,.int .i64 i]/\
 if i=0 then(
 ∀(b:Nat) (H5:zV),b=H4.size->H5=H4.push (.cells #[.int .u64 j] 33)->
 dp.C (some d) 4 0 (some (ad b)) 1 1 H5 (λq H6=> ∃g f:Int,q=.tuple #[.int .u64 g,.int .i64 f]/\
 if f=0 then(
 ∃(xB:zW) (xN xC:Nat),hat H6 (d.add 1)=some (.slice xB xN xC)/\
 ∀(m:Nat) (H7:zV),m=H6.size->H7=H6.push (.cells #[.int .u64 g] 33)->
 dw 1 33 8 [.int .u64 0] xB xN xC (some (ad m)) 1 H7 (λap l H8=>
 (aI H8 (d.add 1) 0 1)/\ ∀H9,H9=aO H8 (d.add 1) [.slice ap (xN+1) l] 0->
 R (.tuple #[.int .u64 g,.int .i64 f]) H9))
 else
 R (.tuple #[.int .u64 g,.int .i64 f]) H6))
 else
 R (.tuple #[.int .u64 0,.int .i64 i]) H4)))))
 else
 R (.tuple #[.int .u64 0,.int .i64 1]) H1)
namespace bU
theorem link{hv:zW}{a:ByteArray}{H:zV}{R:zk}(h:pt hv a H R):C hv a H R:=by
 refine T_en K0 63 Tryz.func12 ?_
 intro w0 Q hQ
 unfold pt at h
 refine T_su [(0,vp hv),(1,.string a)]<| ar 0<| T_ed 2 [] []<| T_sz<| T_bz 0<| ar 1<| T_nd 3 [] [(14,.bool (a.toList==(ByteArray.mk #[]).toList))] ?_
 by_cases c1:a.toList=(ByteArray.mk #[]).toList
 ·rw[if_pos c1]at h
  exact N_bd 14 (zK c1)<| T_ed 5 [14] [(11,.bool true)]<| T_tz 11<| ar 2<| T_nr 2 [4,5] [vu 0,vi 1] hQ h
 rw[if_neg c1]at h
 refine N_bd 14 (zJ c1)<| T_nd 1 [] [(15,.string a)] ?_
 refine T_c (some 16) h ?_;clear h
 rintro v H1 ⟨x,rfl,h⟩
 refine T_pd [15] [(16,.bool x)]<| T_ed 3 [14,16] [(11,.bool (!x))] ?_
 by_cases c3:x=true
 ·rw[if_pos c3]at h
  refine aE 11 (congrArg Bool.not (c3))<| ar 3<| T_nd 1 [11] [(20,.string a)]<| T_c (some 21) h ?_;clear h
  rintro r H2 ⟨k,rfl,h⟩
  refine T_pd [20] [(21,vi k)]<| T_ed 2 [21] [(19,.bool (decide (k>62)))] ?_
  by_cases c5:k>62
  ·rw[if_pos c5]at h
   exact aF 19 (zX c5)<| ar 4<| T_nr 2 [4,5] [vu 0,vi 6] hQ h
  rw[if_neg c5]at h
  refine aE 19 (zQ c5)<| T_k<| aB<| aC<| T_sz<| ar 5<| T_nd 2 [19] [(24,vp hv),(25,.string a)]<| T_c (some 26) h ?_;clear h
  rintro p H3 ⟨ra,rb,rfl,h⟩
  refine T_pd [24,25] [(26,.tuple #[vu ra,.bool rb])]<| T_ed 5 [26] [(6,vu ra),(7,.bool rb)]<| ar 6<| T_ed 1 [7] [(29,.bool rb)] ?_
  by_cases c7:rb=true
  ·rw[if_pos c7]at h
   exact aF 29 c7<| ar 7<| T_nr 3 [4,5] [vu ra,vi 0] hQ h
  rw[if_neg c7]at h
  refine aE 29 (zZ c7)<| T_kt<| T_sz<| ar 8<| T_nd 1 [6,29] [(31,vp hv)] ?_
  rcases hv with _ | d
  ·rw[onPtr_none]at h
   exact T_ed 1 [0,31] [(0,vp none),(32,.bool true)]<| T_tz 32<| ar 9<| T_nr 2 [4,5] [vu 0,vi 2] hQ h
  rw[onPtr_some]at h
  refine T_ed 1 [0,31] [(0,vp (some d)),(32,.bool false)]<| T_fz 32<| T_kt<| ar 10<| T_nd 2 [1,32] [(34,vp (some d)),(35,.string a)]<| T_c (some 36) h ?_;clear h
  rintro o H4 ⟨j,i,rfl,h⟩
  refine T_pd [34,35] [(36,.tuple #[vu j,vi i])]<| T_ed 5 [36] [(8,vu j),(9,vi i)]<| T_sz<| ar 11<| T_ed 2 [] [(40,.bool (i !=0))] ?_
  by_cases c9:i=0
  ·rw[if_pos c9]at h
   refine aE 40 (bne_eq_false_iff_eq.mpr c9)<| T_kt<| ar 13<| T_nd 2 [8,9,40] [(43,vp (some d)),(44,vu j)]<| T_nw (some 45) (λb=>vs (pa b) 1 1) (.cells #[vu j] 33) ?_
   intro b H5 e11 e12
   replace h:=h b H5 e11 e12
   refine T_pd [44] [(45,vs (pa b) 1 1)]<| T_c (some 46) h ?_;clear h
   rintro q H6 ⟨g,f,rfl,h⟩
   refine T_pd [43,45] [(46,.tuple #[vu g,vi f])]<| T_ed 5 [46] [(9,vi f),(10,vu g)]<| T_sz<| ar 14<| T_ed 2 [] [(50,.bool (f==0))] ?_
   by_cases c13:f=0
   ·rw[if_pos c13]at h
    refine aF 50 (zK c13)<| T_rz 15<| T_nd 4 [0,50] [(51,vp (some d)),(54,vp (some (d.add 1)))] ?_
    obtain⟨xB,xN,xC,q15,h⟩:=h
    refine T_l1 55 45 q15 [54]<| T_nd 1 [] [(56,vu g)]<| T_nw (some 57) (λb=>vs (pa b) 1 1) (.cells #[vu g] 33) ?_
    intro m H7 e16 e17
    replace h:=h m H7 e16 e17
    refine T_pd [56] [(57,vs (pa m) 1 1)]<| N_op (some 58) (dJ #[45,45] 45 #[vs xB xN xC,vs (pa m) 1 1]) _ (λ_=>by kernel_rfl) (di (T:=33) (sz:=1) (bytes:=8) (zero:=(vu 0:Value)) Tryz.underlying45 Tryz.underlying45 rfl (show Tryz.prog.info? 33=some Tryz.t33 from by kernel_rfl) (by kernel_rfl) (by kernel_rfl) (by decide) (by kernel_rfl) (by first | exact h | (simpa only[Value.cells,List.toList_toArray]using h))) ?_;clear h
    rintro _ H8 ⟨ap,l,rfl,h⟩
    refine T_pd [55,57] [(58,vs ap (xN+1) l)]<| T_nd 2 [51] [(60,vp (some (d.add 1)))] ?_
    obtain⟨q19,h⟩:=h
    refine eq 45 (vs ap (xN+1) l) q19 ?_
    intro H9 e18
    replace h:=h H9 e18
    exact T_pd [58,60] []<| T_e<| ar 16<| T_nr 4 [4,5] [vu g,vi f] hQ h
   rw[if_neg c13]at h
   exact aE 50 (zJ c13)<| T_kt<| ar 16<| T_nr 4 [4,5] [vu g,vi f] hQ h
  rw[if_neg c9]at h
  exact aF 40 (bne_iff_ne.mpr c9)<| ar 12<| T_nr 3 [4,5] [vu 0,vi i] hQ h
 rw[if_neg c3]at h
 exact aF 11 (congrArg Bool.not (zZ c3))<| ar 2<| T_nr 2 [4,5] [vu 0,vi 1] hQ h
end bU

/-! moraine/syms.Name -/
namespace fC
def K0:=Func.code Tryz.f16
end fC
def fC.pt(hv:zW)(wv:Int)(H:zV)(R:zk):Prop:=
 dM hv (
 R (.tuple #[.string (ByteArray.mk #[]),.int .i64 3]) H) (λa=>
 eD.C (some a) wv 4 0 H (λv H1=> ∃ra rb:Int,v=.tuple #[.int .u64 ra,.int .i64 rb]/\
 if rb=0 then(
 dQ.C (some a) ra H1 (λf H2=> ∃(d:ByteArray) (b:Int),f=.tuple #[.string d,.int .i64 b]/\
 R (.tuple #[.string d,.int .i64 b]) H2))
 else
 R (.tuple #[.string (ByteArray.mk #[]),.int .i64 3]) H1))
namespace fC
theorem link{hv:zW}{wv:Int}{H:zV}{R:zk}(h:pt hv wv H R):C hv wv H R:=by
 refine T_en K0 23 Tryz.func16 ?_
 intro w0 Q hQ
 unfold pt at h
 refine T_su [(0,vp hv),(1,vu wv)]<| ar 0<| T_ed 2 [] []<| T_sz<| ar 1<| T_nd 1 [] [(8,vp hv)] ?_
 rcases hv with _ | a
 ·rw[onPtr_none]at h
  exact T_ed 1 [0,8] [(0,vp none),(9,.bool true)]<| T_tz 9<| ar 2<| T_nr 2 [4,5] [.string (ByteArray.mk #[]),vi 3] hQ h
 rw[onPtr_some]at h
 refine T_ed 1 [0,8] [(0,vp (some a)),(9,.bool false)]<| T_fz 9<| T_kt<| ar 3<| T_nd 2 [1,9] [(11,vp (some a)),(12,vu wv)]<| T_c (some 13) h ?_;clear h
 rintro v H1 ⟨ra,rb,rfl,h⟩
 refine T_pd [11,12] [(13,.tuple #[vu ra,vi rb])]<| T_ed 5 [13] [(6,vu ra),(7,vi rb)]<| T_sz<| ar 4<| T_ed 2 [7] [(17,.bool (rb !=0))] ?_
 by_cases c1:rb=0
 ·rw[if_pos c1]at h
  refine aE 17 (bne_eq_false_iff_eq.mpr c1)<| T_kt<| ar 6<| T_n 2 [(18,vp (some a)),(19,vu ra)]<| T_c (some 20) h ?_;clear h
  rintro f H2 ⟨d,b,rfl,h⟩
  refine⟨[(20,.tuple #[.string d,vi b])],pk,?_⟩
  exact T_nr 4 [4,5] [.string d,vi b] hQ h
 rw[if_neg c1]at h
 exact aF 17 (bne_iff_ne.mpr c1)<| ar 5<| T_nr 2 [4,5] [.string (ByteArray.mk #[]),vi 3] hQ h
end fC

/-! moraine/syms.named -/
namespace fq
def K0:=Func.code Tryz.f26
end fq
def fq.pt(hv:zW)(H:zV)(R:zk):Prop:=
 ∀(b:Nat) (H1:zV),b=H.size->H1=H.push (.cells #[.pointer hv] 34)->
 R (.func (.func 62) #[] #[.pointer (some (ad b))]) H1
namespace fq
theorem link{hv:zW}{H:zV}{R:zk}(h:pt hv H R):C hv H R:=by
 refine T_en K0 4 Tryz.func26 ?_
 intro w0 Q hQ
 unfold pt at h
 refine T_su [(0,vp hv)]<| ar 0<| T_nw (some 1) (λb=>vp (pa b)) (.cells #[vp hv] 34) ?_
 intro b H1 e1 e2
 replace h:=h b H1 e1 e2
 refine⟨[(1,vp (pa b))],pk,?_⟩
 exact T_ed 1 [] []<| ar 1<| T_nr 2 [2] [.func (.func 62) #[] #[vp (pa b)]] hQ h
end fq

/-! moraine/syms.named.1 -/
namespace fc
def K0:=Func.code Tryz.f62
def K2:=cb K0
def K3:=ca K2
def K4:=ca K3
end fc
def fc.pt(b:Value)(o:zW)(H:zV)(R:zk):Prop:=
 ∃d:Addr,o=some d/\
 ∃x:zW,hat H d=some (.pointer x)/\
 ∃xA:Addr,x=some xA/\
 ∃(xB:zW) (xN xC:Nat),hat H (xA.add 1)=some (.slice xB xN xC)/\
 ∃(I5:zv) (m5:Int->zV->Nat),I5 0 H/\ ∀(f:Int) (H1:zV),I5 f H1->
 if f< (xN:Int)then(
 ∃g:Addr,xB=some g/\
 zw f xN/\
 ∃j:Int,hat H1 (g.add (Int.toNat f*1))=some (.int .u64 j)/\
 ∃m:zW,hat H1 d=some (.pointer m)/\
 fC.C m j H1 (λv H2=> ∃(ra:ByteArray) (rb:Int),v=.tuple #[.string ra,.int .i64 rb]/\
 if rb=0 then(
 FC Tryz.prog b #[.int .u64 j,.string ra] H2 (λp H3=> ∃l:Bool,p=.bool l/\
 if l=true then(
 (I5 (zY (f+1)) H3/\m5 (zY (f+1)) H3<m5 f H1))
 else
 R (.tuple #[]) H3))
 else
 (I5 (zY (f+1)) H2/\m5 (zY (f+1)) H2<m5 f H1)))
 else
 R (.tuple #[]) H1
namespace fc
theorem link{b:Value}{o:zW}{H:zV}{R:zk}(h:pt b o H R):C b o H R:=by
 refine T_en K0 32 Tryz.func62 ?_
 intro w0 Q hQ
 unfold pt zY at h
 refine T_su [(0,b),(1,vp o)]<| ar 0 ?_
 obtain⟨d,rfl,x,q1,h⟩:=h
 refine T_ld (some 7) 34 q1 [1] [(1,vp (some d)),(7,vp x)] ?_
 obtain⟨xA,rfl,h⟩:=h
 refine T_nd 2 [7] [(9,vp (some (xA.add 1)))] ?_
 obtain⟨xB,xN,xC,q2,h⟩:=h
 refine T_l1 10 45 q2 [9]<| T_ed 2 [] [(11,vi xN),(12,vi 0)]<| T_bz 0 ?_
 obtain⟨I5,m5,i3,i4⟩:=h
 refine bO (x:=K4) (σ:=Int) (λs_=> [(0,b),(1,vp (some d)),(10,vs xB xN xC),(11,vi xN),(12,vi s_)]) (λs_ H=>I5 s_ H) (λs_ H=>m5 s_ H) (0:Int) (by kernel_rfl) i3 sk ?_
 rintro f H1 i5
 have h:=i4 f H1 i5
 refine T_su [(0,b),(1,vp (some d)),(10,vs xB xN xC),(11,vi xN),(12,vi f)]<| ar 1<| T_ed 1 [] [(13,.bool (decide (f< (xN:Int))))]<| T_sz ?_
 by_cases c6:f< (xN:Int)
 ·rw[if_pos c6]at h
  refine aF 13 (zX c6)<| T_kt<| T_sz<| T_bz 1<| ar 2<| T_ud [13] [] ?_
  obtain⟨g,rfl,q8,h⟩:=h
  refine T_xd (some 14) 45 33 1 g xN xC .i64 f Tryz.underlying45 q8.1 q8.2 [10] [(10,vs (some g) xN xC),(14,vp (some (g.add (Int.toNat f*1))))] ?_
  obtain⟨j,q9,h⟩:=h
  refine T_l1 15 33 q9 [14]<| T_ed 1 [15] [(4,vu j)]<| ar 3 ?_
  obtain⟨m,q10,h⟩:=h
  refine T_l1 17 34 q10 []<| T_nd 1 [] [(18,vu j)]<| T_c (some 19) h ?_;clear h
  rintro v H2 ⟨ra,rb,rfl,h⟩
  refine T_pd [17,18] [(19,.tuple #[.string ra,vi rb])]<| T_ed 5 [19] [(5,.string ra),(6,vi rb)]<| ar 4<| T_nd 3 [6] [(24,.bool (rb==0))] ?_
  by_cases c11:rb=0
  ·rw[if_pos c11]at h
   refine N_bd 24 (zK c11)<| T_nd 3 [4,5] [(25,b),(26,vu j),(27,.string ra)] ?_
   refine pJ (some 28) b #[vu j,.string ra] (λ_=>by kernel_rfl) h ?_;clear h
   rintro p H3 ⟨l,rfl,h⟩
   refine T_pd [25,26,27] [(28,.bool l)]<| T_ed 2 [24,28] [(30,.bool (!l))] ?_
   by_cases c13:l=true
   ·rw[if_pos c13]at h
    exact aE 30 (congrArg Bool.not (c13))<| T_k<| aB<| aC<| T_rz 5<| T_ed 2 [12,30] [(12,vi (zY (f+1)))]<| aK ((zY (f+1)):Int) sk h
   rw[if_neg c13]at h
   exact aF 30 (congrArg Bool.not (zZ c13))<| fF [] [] hQ h
  rw[if_neg c11]at h
  refine N_bd 24 (zJ c11)<| T_ed 6 [4,5,24] [(30,.bool false)]<| T_fz 30<| T_k ?_
  exact aB<| aC<| T_rz 5<| T_ed 2 [12,30] [(12,vi (zY (f+1)))]<| aK ((zY (f+1)):Int) sk h
 rw[if_neg c6]at h
 exact aE 13 (zQ c6)<| zj 0<| aA<| aA<| aH<| fN (fn:=Tryz.f62) [] hQ (show dh _ _ _ [] _ from .nil) h
end fc

/-! (*moraine/seg.Mem).Taken -/
namespace cS
def K0:=Func.code Tryz.f35
def K2:=cb K0
def K4:=cb K2
def K12:=cb K4
def K13:=ca K12
def K16:=cb K13
def K17:=ca K16
def K18:=ca K17
end cS
def cS.pt(m g:zW)(d f:Nat)(H:zV)(R:zk):Prop:=
 ∀(b:Nat) (H1:zV),b=H.size->H1=H.push (.cells #[.pointer m] 84)->
 ∃x:zW,hat H1 (ad b)=some (.pointer x)/\
 dM x (
 R (.slice none 0 0) H1) (λxA=>
 ∃ae:zW,hat H1 (ad b)=some (.pointer ae)/\
 ∃ah:Addr,ae=some ah/\
 ∃(xB:zW) (xN xC:Nat),hat H1 ah=some (.slice xB xN xC)/\
 ∃(u:zW->Nat->Nat->zv) (m19:zW->Nat->Nat->Int->zV->Nat),u none 0 0 0 H1/\ ∀(lB:zW) (lN:Nat) (lC:Nat) (s15:Int) (H2:zV),u lB lN lC s15 H2->
 if s15< (xN:Int)then(
 ∃ag:zW,hat H2 (ad b)=some (.pointer ag)/\
 ∃af:Addr,ag=some af/\
 ∃(s:zW) (o p:Nat),hat H2 af=some (.slice s o p)/\
 ∃j:Addr,s=some j/\
 zw s15 o/\
 ∃r:Int,hat H2 ((j.add (Int.toNat s15*72)).add 7)=some (.int .i64 r)/\
 if r>0 then(
 if(d:Int)=0 then(
 ∀(aa:Nat) (H3:zV),aa=H2.size->H3=H2.push (.cells #[.int .i64 s15] 3)->
 dw 1 3 8 [.int .i64 0] lB lN lC (some (ad aa)) 1 H3 (λap z H4=>
 (u ap (lN+1) z (zY (s15+1)) H4/\m19 ap (lN+1) z (zY (s15+1)) H4<m19 lB lN lC s15 H2)))
 else
 ∃ac:Int,hat H2 (j.add (Int.toNat s15*72))=some (.int .i64 ac)/\
 bL.C g d f ac H2 (λv H5=> ∃y:Bool,v=.bool y/\
 if y=true then(
 ∀(ab:Nat) (H6:zV),ab=H5.size->H6=H5.push (.cells #[.int .i64 s15] 3)->
 dw 1 3 8 [.int .i64 0] lB lN lC (some (ad ab)) 1 H6 (λq l H7=>
 (u q (lN+1) l (zY (s15+1)) H7/\m19 q (lN+1) l (zY (s15+1)) H7<m19 lB lN lC s15 H2)))
 else
 (u lB lN lC (zY (s15+1)) H5/\m19 lB lN lC (zY (s15+1)) H5<m19 lB lN lC s15 H2)))
 else
 (u lB lN lC (zY (s15+1)) H2/\m19 lB lN lC (zY (s15+1)) H2<m19 lB lN lC s15 H2))
 else
 slices_SortFunc_int_int.C lB lN lC (.func (.func 73) #[] #[.pointer (some (ad b))]) H2 (λ_ H8=>
 R (.slice lB lN lC) H8))
namespace cS
theorem link{m g:zW}{d f:Nat}{H:zV}{R:zk}(h:pt m g d f H R):C m g d f H R:=by
 refine T_en K0 52 Tryz.func35 ?_
 intro w0 Q hQ
 unfold pt zY at h
 refine T_su [(0,vp m),(1,vs g d f)]<| ar 0<| T_nw (some 2) (λb=>vp (pa b)) (.cells #[vp m] 84) ?_
 intro b H1 e1 e2
 replace h:=h b H1 e1 e2
 refine T_pd [0] [(2,vp (pa b))]<| T_ed 1 [] []<| T_sz<| ar 1 ?_
 obtain⟨x,q3,h⟩:=h
 refine T_l1 8 84 q3 [] ?_
 rcases x with _ | xA
 ·rw[onPtr_none]at h
  exact T_ed 1 [8] [(9,.bool true)]<| T_tz 9<| ar 2<| T_nr 1 [4] [vs none 0 0] hQ h
 rw[onPtr_some]at h
 refine T_ed 1 [8] [(9,.bool false)]<| T_fz 9<| T_kt<| ar 3<| T_ed 1 [9] [(5,vs none 0 0)]<| T_sz<| ar 4 ?_
 obtain⟨ae,q4,h⟩:=h
 refine T_l1 10 84 q4 [] ?_
 obtain⟨ah,rfl,h⟩:=h
 refine T_nd 2 [10] [(12,vp (some ah))] ?_
 obtain⟨xB,xN,xC,q5,h⟩:=h
 refine T_l1 13 140 q5 [12]<| T_ed 2 [13] [(14,vi xN),(15,vi 0)]<| T_bz 0 ?_
 obtain⟨u,m19,i6,i7⟩:=h
 refine bO (x:=K18) (σ:=zW×Nat×Nat×Int) (λs_=> [(1,vs g d f),(2,vp (pa b)),(5,vs s_.1 s_.2.1 s_.2.2.1),(14,vi xN),(15,vi s_.2.2.2)]) (λs_ H=>u s_.1 s_.2.1 s_.2.2.1 s_.2.2.2 H) (λs_ H=>m19 s_.1 s_.2.1 s_.2.2.1 s_.2.2.2 H) ((none,0,0,0):zW×Nat×Nat×Int) (by kernel_rfl) i6 sk ?_
 rintro⟨lB,lN,lC,s15⟩ H2 i8
 have h:=i7 lB lN lC s15 H2 i8
 refine T_su [(1,vs g d f),(2,vp (pa b)),(5,vs lB lN lC),(14,vi xN),(15,vi s15)]<| ar 5<| T_ed 1 [] [(16,.bool (decide (s15< (xN:Int))))]<| T_sz ?_
 by_cases c9:s15< (xN:Int)
 ·rw[if_pos c9]at h
  refine aF 16 (zX c9)<| T_kt<| T_sz<| T_bz 1<| ar 6<| T_ed 2 [16] [(6,vi s15)]<| ar 7 ?_
  obtain⟨ag,q11,h⟩:=h
  refine T_l1 18 84 q11 [] ?_
  obtain⟨af,rfl,h⟩:=h
  refine T_nd 2 [18] [(20,vp (some af))] ?_
  obtain⟨s,o,p,q12,h⟩:=h
  refine T_l1 21 140 q12 [20]<| T_nd 1 [] [(22,vi s15)] ?_
  obtain⟨j,rfl,q13,h⟩:=h
  refine T_xd (some 23) 140 146 72 j o p .i64 s15 Tryz.underlying140 q13.1 q13.2 [21,22] [(23,vp (some (j.add (Int.toNat s15*72))))]<| T_ed 1 [23] [(7,vp (some (j.add (Int.toNat s15*72))))]<| ar 8<| T_nd 3 [] [(26,vp (some ((j.add (Int.toNat s15*72)).add 7)))] ?_
  obtain⟨r,q14,h⟩:=h
  refine T_l1 27 3 q14 [26]<| T_nd 2 [27] [(29,.bool (decide (r>0)))] ?_
  by_cases c15:r>0
  ·rw[if_pos c15]at h
   refine N_bd 29 (zX c15)<| T_nd 4 [] [(33,.bool ((d:Int)==0))] ?_
   by_cases c17:(d:Int)=0
   ·rw[if_pos c17]at h
    refine N_bd 33 (zK c17)<| T_ed 9 [7,29,33] [(42,.bool true)]<| T_tz 42<| T_rz 9<| T_nd 2 [5,6,42] [(43,vs lB lN lC),(44,vi s15)]<| T_nw (some 45) (λb=>vs (pa b) 1 1) (.cells #[vi s15] 3) ?_
    intro aa H3 e19 e20
    replace h:=h aa H3 e19 e20
    refine T_pd [44] [(45,vs (pa aa) 1 1)]<| N_op (some 46) (dJ #[79,79] 79 #[vs lB lN lC,vs (pa aa) 1 1]) _ (λ_=>by kernel_rfl) (di (T:=3) (sz:=1) (bytes:=8) (zero:=(vi 0:Value)) Tryz.underlying79 Tryz.underlying79 rfl (show Tryz.prog.info? 3=some Tryz.t3 from by kernel_rfl) (by kernel_rfl) (by kernel_rfl) (by decide) (by kernel_rfl) (by first | exact h | (simpa only[Value.cells,List.toList_toArray]using h))) ?_;clear h
    rintro _ H4 ⟨ap,z,rfl,h⟩
    exact T_pd [43,45] [(46,vs ap (lN+1) z)]<| T_nd 1 [46] [(5,vs ap (lN+1) z)]<| zq<| aB<| aC<| T_rz 10<| T_ed 2 [15] [(15,vi (zY (s15+1)))]<| aK ((ap,(lN+1),z,(zY (s15+1))):zW×Nat×Nat×Int) sk h
   rw[if_neg c17]at h
   refine N_bd 33 (zJ c17)<| T_nd 5 [7] [(34,vs g d f),(38,vp (some (j.add (Int.toNat s15*72))))] ?_
   obtain⟨ac,q21,h⟩:=h
   refine T_l1 39 3 q21 [38]<| T_c (some 40) h ?_;clear h
   rintro v H5 ⟨y,rfl,h⟩
   refine T_pd [34,39] [(40,.bool y)]<| T_ed 2 [29,33,40] [(42,.bool y)] ?_
   by_cases c22:y=true
   ·rw[if_pos c22]at h
    refine aF 42 c22<| T_rz 9<| T_nd 2 [5,6,42] [(43,vs lB lN lC),(44,vi s15)]<| T_nw (some 45) (λb=>vs (pa b) 1 1) (.cells #[vi s15] 3) ?_
    intro ab H6 e24 e25
    replace h:=h ab H6 e24 e25
    refine T_pd [44] [(45,vs (pa ab) 1 1)]<| N_op (some 46) (dJ #[79,79] 79 #[vs lB lN lC,vs (pa ab) 1 1]) _ (λ_=>by kernel_rfl) (di (T:=3) (sz:=1) (bytes:=8) (zero:=(vi 0:Value)) Tryz.underlying79 Tryz.underlying79 rfl (show Tryz.prog.info? 3=some Tryz.t3 from by kernel_rfl) (by kernel_rfl) (by kernel_rfl) (by decide) (by kernel_rfl) (by first | exact h | (simpa only[Value.cells,List.toList_toArray]using h))) ?_;clear h
    rintro _ H7 ⟨q,l,rfl,h⟩
    exact T_pd [43,45] [(46,vs q (lN+1) l)]<| T_nd 1 [46] [(5,vs q (lN+1) l)]<| zq<| aB<| aC<| T_rz 10<| T_ed 2 [15] [(15,vi (zY (s15+1)))]<| aK ((q,(lN+1),l,(zY (s15+1))):zW×Nat×Nat×Int) sk h
   rw[if_neg c22]at h
   exact aE 42 (zZ c22)<| T_k<| aB<| aC<| T_rz 10<| T_ed 2 [6,15,42] [(15,vi (zY (s15+1)))]<| aK ((lB,lN,lC,(zY (s15+1))):zW×Nat×Nat×Int) sk h
  rw[if_neg c15]at h
  refine N_bd 29 (zQ c15)<| T_ed 13 [7,29] [(42,.bool false)]<| T_fz 42<| T_k ?_
  exact aB<| aC<| T_rz 10<| T_ed 2 [6,15,42] [(15,vi (zY (s15+1)))]<| aK ((lB,lN,lC,(zY (s15+1))):zW×Nat×Nat×Int) sk h
 rw[if_neg c9]at h
 refine aE 16 (zQ c9)<| zj 0<| aA<| aA<| aH<| aC<| ar 11<| T_n 2 [(5,vs lB lN lC),(48,vs lB lN lC),(49,.func (.func 73) #[] #[vp (pa b)])]<| T_c (some 50) h ?_;clear h
 intro v_2 H8 h
 exact T_pd [48,49] []<| T_e<| ar 12<| T_nr 2 [4] [vs lB lN lC] hQ h
end cS

/-! (*moraine/seg.Mem).Free -/
namespace eE
def K0:=Func.code Tryz.f36
end eE
def eE.pt(m:zW)(H:zV)(R:zk):Prop:=
 dM m (
 R (.int .i64 0) H) (λmA=>
 ∃x:Int,hat H (mA.add 2)=some (.int .i64 x)/\
 R (.int .i64 x) H)
namespace eE
theorem link{m:zW}{H:zV}{R:zk}(h:pt m H R):C m H R:=by
 refine T_en K0 9 Tryz.func36 ?_
 intro w0 Q hQ
 unfold pt at h
 refine T_su [(0,vp m)]<| ar 0<| T_ed 1 [] []<| T_sz<| ar 1<| T_nd 1 [] [(3,vp m)] ?_
 rcases m with _ | mA
 ·rw[onPtr_none]at h
  exact T_ne 1 [(0,vp none),(4,.bool true)]<| T_tz 4<| ar 2<| T_nr 1 [2] [vi 0] hQ h
 rw[onPtr_some]at h
 refine T_ne 1 [(0,vp (some mA)),(4,.bool false)]<| T_fz 4<| T_kt<| ar 3<| T_n 3 [(7,vp (some (mA.add 2)))] ?_
 obtain⟨x,q1,h⟩:=h
 exact T_l1 8 3 q1 [7]<| T_nr 1 [2] [vi x] hQ h
end eE

/-! (*moraine/seg.Mem).Taken.1 -/
namespace ej
def K0:=Func.code Tryz.f73
def K2:=cb K0
def K3:=ca K2
end ej
def ej.pt(a b:Int)(q:zW)(H:zV)(R:zk):Prop:=
 ∃d:Addr,q=some d/\
 ∃x:zW,hat H d=some (.pointer x)/\
 ∃xA:Addr,x=some xA/\
 ∃(xB:zW) (xN xC:Nat),hat H xA=some (.slice xB xN xC)/\
 ∃g:Addr,xB=some g/\
 zw a xN/\
 ∃j:Int,hat H ((g.add (Int.toNat a*72)).add 7)=some (.int .i64 j)/\
 ∃u:zW,hat H d=some (.pointer u)/\
 ∃l:Addr,u=some l/\
 ∃(s:zW) (m o:Nat),hat H l=some (.slice s m o)/\
 ∃f:Addr,s=some f/\
 zw b m/\
 ∃r:Int,hat H ((f.add (Int.toNat b*72)).add 7)=some (.int .i64 r)/\
 cmp_Compare_int.C j r H (λv H1=> ∃p:Int,v=.int .i64 p/\
 R (.int .i64 p) H1)
namespace ej
theorem link{a b:Int}{q:zW}{H:zV}{R:zk}(h:pt a b q H R):C a b q H R:=by
 refine T_en K0 23 Tryz.func73 ?_
 intro w0 Q hQ
 unfold pt at h
 refine T_su [(0,vi a),(1,vi b),(2,vp q)]<| ar 0<| T_ed 1 [] []<| T_sz ?_
 obtain⟨d,rfl,x,q1,xA,rfl,xB,xN,xC,q2,g,rfl,q3,j,q4,u,q5,l,rfl,s,m,o,q6,f,rfl,q7,r,q8,h⟩:=h
 refine yY 1 (Code.ops K3) [(16,d,[vp (some xA)]),(16,xA,[vs (some g) xN xC]),(16,((g.add (Int.toNat a*72)).add 7),[vi j]),(16,d,[vp (some l)]),(16,l,[vs (some f) m o]),(16,((f.add (Int.toNat b*72)).add 7),[vi r])] 18 (bv 18 0) (show aG _ _ _ from⟨⟨q1,trivial⟩,⟨q2,trivial⟩,⟨q4,trivial⟩,⟨q5,trivial⟩,⟨q6,trivial⟩,⟨q8,trivial⟩,trivial⟩)<| T_g 0 (some 6) (vp (some xA)) (bv 18 1) [(0,vi a),(1,vi b),(2,vp (some d)),(6,vp (some xA))] (aS 84 (vp (some d))) (yW 16 yZ)<| aD 1 7 (vp (some xA)) (bv 18 3) [6]<| aD 2 8 (vp (some xA)) (bv 18 7) [7]<| T_g1 3 9 (vs (some g) xN xC) (bv 18 15) [8] (aS 140 (vp (some xA))) (yW 16 yX)<| aD 4 10 (vi a) (bv 18 31) [0]<| T_g1 5 11 (vp (some (g.add (Int.toNat a*72)))) (bv 18 63) [9,10] (aR 140 (vs (some g) xN xC) (vi a)) (λ_ w _ _ _=>gu (P:=Tryz.prog) (t:=140) (elem:=146) (sz:=72) (a:=g) (len:=xN) (cap:=xC) (k:=.i64) (i:=a) Tryz.underlying140 (λ_=>by kernel_rfl) q3.1 q3.2 w)<| aD 6 12 (vp (some ((g.add (Int.toNat a*72)).add 7))) (bv 18 127) [11]<| T_g1 7 13 (vi j) (bv 18 255) [12] (aS 3 (vp (some ((g.add (Int.toNat a*72)).add 7)))) (yW 16 yQ)<| T_g1 8 14 (vp (some l)) (bv 18 511) [2] (aS 84 (vp (some d))) (yW 16 yJ)<| aD 9 15 (vp (some l)) (bv 18 1023) [14]<| aD 10 16 (vp (some l)) (bv 18 2047) [15]<| T_g1 11 17 (vs (some f) m o) (bv 18 4095) [16] (aS 140 (vp (some l))) (yW 16 yK)<| aD 12 18 (vi b) (bv 18 8191) [1]<| T_g1 13 19 (vp (some (f.add (Int.toNat b*72)))) (bv 18 16383) [17,18] (aR 140 (vs (some f) m o) (vi b)) (λ_ w _ _ _=>gu (P:=Tryz.prog) (t:=140) (elem:=146) (sz:=72) (a:=f) (len:=m) (cap:=o) (k:=.i64) (i:=b) Tryz.underlying140 (λ_=>by kernel_rfl) q7.1 q7.2 w)<| aD 14 20 (vp (some ((f.add (Int.toNat b*72)).add 7))) (bv 18 32767) [19]<| T_g1 15 21 (vi r) (bv 18 65535) [20] (aS 3 (vp (some ((f.add (Int.toNat b*72)).add 7)))) (yW 16 yV)<| yq 16 (some 22) (bv 18 131071) 74 #[vi j,vi r] h ?_;clear h
 rintro v H1 ⟨p,rfl,h⟩
 refine⟨[(22,vi p)],pk,(show aG _ _ _ from⟨trivial,trivial,trivial,trivial,trivial,trivial,trivial⟩),?_⟩
 exact T_g 17 (some 5) (vi p) (bv 18 262143) [(5,vi p)] (pure (.value (vi p)):Sem Next) (λ_ _ _ _ _=>rfl)<| eR [(5,vi p)] sk<| yx<| aC<| fF [5] [vi p] hQ h
end ej

/-! (*moraine/seg.Mem).Give -/
namespace dE
def K0:=Func.code Tryz.f78
end dE
def dE.pt(m:zW)(d:Int)(H:zV)(R:zk):Prop:=
 dL.C m d H (λv H1=> ∃x:zW,v=.pointer x/\
 dM x (
 R (.int .i64 19) H1) (λxA=>
 (aI H1 xA 0 72)/\ ∀H2,H2=aO H1 xA (List.replicate 8 (.int .i64 0)++List.replicate 64 (.int .u64 0):List Value) 0->
 ∃mA:Addr,m=some mA/\
 ∃b:Int,hat H2 (mA.add 2)=some (.int .i64 b)/\
 (aI H2 (mA.add 2) 0 1)/\ ∀H3,H3=aO H2 (mA.add 2) [.int .i64 (zY (b+1))] 0->
 R (.int .i64 0) H3))
namespace dE
theorem link{m:zW}{d:Int}{H:zV}{R:zk}(h:pt m d H R):C m d H R:=by
 refine T_en K0 21 Tryz.func78 ?_
 intro w0 Q hQ
 unfold pt zY at h
 refine T_su [(0,vp m),(1,vi d)]<| ar 0<| T_ed 1 [] []<| ar 1<| T_nd 2 [1] [(6,vp m),(7,vi d)]<| T_c (some 8) h ?_;clear h
 rintro v H1 ⟨x,rfl,h⟩
 refine T_pd [6,7] [(8,vp x)]<| T_ed 1 [8] [(5,vp x)]<| T_sz<| ar 2<| T_nd 1 [] [(9,vp x)] ?_
 rcases x with _ | xA
 ·rw[onPtr_none]at h
  exact T_ed 1 [5,9] [(5,vp none),(10,.bool true)]<| T_tz 10<| ar 3<| T_nr 1 [4] [vi 19] hQ h
 rw[onPtr_some]at h
 refine T_ed 1 [5,9] [(5,vp (some xA)),(10,.bool false)]<| T_fz 10<| T_kt<| ar 4<| T_nd 3 [5,10] [(12,.agg (List.replicate 8 (vi 0)++List.replicate 64 (vu 0):List Value).toArray),(13,vp (some xA))] ?_
 obtain⟨q2,h⟩:=h
 refine lv none (gH 146 (vp (some xA)) (.agg (List.replicate 8 (vi 0)++List.replicate 64 (vu 0):List Value).toArray)) (λHz=>Hz=aO H1 xA (List.replicate 8 (vi 0)++List.replicate 64 (vu 0):List Value) 0) (λ_=>by kernel_rfl) (by intro w hw;obtain⟨w1,g1,g2,g3⟩:=fX (P:=Tryz.prog) (H:=H1) (t:=146) (a:=xA) (v:=(.agg (List.replicate 8 (vi 0)++List.replicate 64 (vu 0):List Value).toArray)) (List.replicate 8 (vi 0)++List.replicate 64 (vu 0):List Value) 72 (by kernel_rfl) (by kernel_rfl) (λ_=>by kernel_rfl) (by kernel_rfl) q2 w hw;exact⟨w1,g1,g2,g3⟩) ?_
 intro H2 e1
 replace h:=h H2 e1
 refine⟨[(0,vp m)],pk,?_⟩
 refine T_e<| ar 5<| T_n 1 [(14,vp m)] ?_
 obtain⟨mA,rfl,h⟩:=h
 refine T_n 2 [(14,vp (some mA)),(16,vp (some (mA.add 2)))] ?_
 obtain⟨b,q3,h⟩:=h
 refine T_l1 17 3 q3 [16]<| T_n 3 [(18,vi (zY (b+1))),(20,vp (some (mA.add 2)))] ?_
 obtain⟨q5,h⟩:=h
 refine eq 3 (vi (zY (b+1))) q5 ?_
 intro H3 e4
 replace h:=h H3 e4
 refine⟨[],pk,?_⟩
 exact T_e<| ar 6<| T_nr 1 [4] [vi 0] hQ h
end dE

/-! (*moraine/space.Space).Fresh -/
namespace cV
def K0:=Func.code Tryz.f38
def K2:=cb K0
def K8:=cb K2
def K9:=ca K8
def K10:=ca K9
def K12:=cb K10
def K14:=cb K12
def K17:=ca K14
def K19:=ca K17
def K21:=cb K19
def K22:=ca K21
def K25:=cb K22
def K26:=ca K25
def K27:=ca K26
end cV
def cV.pt(s f:zW)(b d:Nat)(H:zV)(R:zk):Prop:=
 dM s (
 R (.tuple #[]) H) (λsA=>
 ∃(l:zv) (m11:Int->zV->Nat),l 0 H/\ ∀(s9:Int) (H1:zV),l s9 H1->
 if s9<5 then(
 ∃(m:zv) (m28:Int->zV->Nat),m 0 H1/\ ∀(j:Int) (H2:zV),m j H2->
 if j< (b:Int)then(
 ∃g:Addr,f=some g/\
 zw j b/\
 ∃x:Int,hat H2 (g.add (Int.toNat j*1))=some (.int .i64 x)/\
 if x=s9 then(
 zw s9 5/\
 (aI H2 ((sA.add 1).add (Int.toNat s9*4)) 0 4)/\ ∀H3,H3=aO H2 ((sA.add 1).add (Int.toNat s9*4)) [.int .i64 0,.int .i64 0,.int .i64 0,.int .i64 0] 0->
 (m (zY (j+1)) H3/\m28 (zY (j+1)) H3<m28 j H2))
 else
 (m (zY (j+1)) H2/\m28 (zY (j+1)) H2<m28 j H2))
 else
 if(b:Int)=0 then(
 zw s9 5/\
 (aI H2 ((sA.add 1).add (Int.toNat s9*4)) 0 4)/\ ∀H4,H4=aO H2 ((sA.add 1).add (Int.toNat s9*4)) [.int .i64 0,.int .i64 0,.int .i64 0,.int .i64 0] 0->
 (l (zY (s9+1)) H4/\m11 (zY (s9+1)) H4<m11 s9 H1))
 else
 (l (zY (s9+1)) H2/\m11 (zY (s9+1)) H2<m11 s9 H1))
 else
 R (.tuple #[]) H1)
namespace cV
theorem link{s f:zW}{b d:Nat}{H:zV}{R:zk}(h:pt s f b d H R):C s f b d H R:=by
 refine T_en K0 38 Tryz.func38 ?_
 intro w0 Q hQ
 unfold pt zY at h
 refine T_su [(0,vp s),(1,vs f b d)]<| T_sz<| ar 0<| T_nd 1 [] [(7,vp s)] ?_
 rcases s with _ | sA
 ·rw[onPtr_none]at h
  exact T_ed 1 [0,7] [(0,vp none),(8,.bool true)]<| T_tz 8<| fF [] [] hQ h
 rw[onPtr_some]at h
 refine T_ed 1 [0,7] [(0,vp (some sA)),(8,.bool false)]<| T_fz 8<| T_kt<| ar 1<| T_ed 1 [8] [(9,vi 0)]<| T_bz 0 ?_
 obtain⟨l,m11,i1,i2⟩:=h
 refine bO (x:=K10) (σ:=Int) (λs_=> [(0,vp (some sA)),(1,vs f b d),(9,vi s_)]) (λs_ H=>l s_ H) (λs_ H=>m11 s_ H) (0:Int) (by kernel_rfl) i1 sk ?_
 rintro s9 H1 i3
 have h:=i2 s9 H1 i3
 refine T_su [(0,vp (some sA)),(1,vs f b d),(9,vi s9)]<| ar 2<| T_ed 1 [] [(10,.bool (decide (s9<5)))]<| T_sz ?_
 by_cases c4:s9<5
 ·rw[if_pos c4]at h
  refine aF 10 (zX c4)<| T_kt<| T_sz<| T_bz 1<| ar 3<| T_ed 2 [10] [(4,vi s9)]<| T_sz<| ar 4<| T_ed 3 [] [(12,vs f b d),(13,vi b),(14,vi 0)]<| T_bz 2 ?_
  obtain⟨m,m28,i6,i7⟩:=h
  refine bO (x:=K27) (σ:=Int) (λs_=> [(0,vp (some sA)),(1,vs f b d),(4,vi s9),(9,vi s9),(12,vs f b d),(13,vi b),(14,vi s_)]) (λs_ H=>m s_ H) (λs_ H=>m28 s_ H) (0:Int) (by kernel_rfl) i6 sk ?_
  rintro j H2 i8
  have h:=i7 j H2 i8
  refine T_su [(0,vp (some sA)),(1,vs f b d),(4,vi s9),(9,vi s9),(12,vs f b d),(13,vi b),(14,vi j)]<| ar 5<| T_ed 1 [] [(15,.bool (decide (j< (b:Int))))]<| T_sz ?_
  by_cases c9:j< (b:Int)
  ·rw[if_pos c9]at h
   refine aF 15 (zX c9)<| T_kt<| T_sz<| T_bz 3<| ar 6<| T_ud [15] [] ?_
   obtain⟨g,rfl,q11,h⟩:=h
   refine T_xd (some 16) 79 3 1 g b d .i64 j Tryz.underlying79 q11.1 q11.2 [1,12] [(1,vs (some g) b d),(12,vs (some g) b d),(16,vp (some (g.add (Int.toNat j*1))))] ?_
   obtain⟨x,q12,h⟩:=h
   refine T_l1 17 3 q12 [16]<| T_ed 1 [17] [(6,vi x)]<| ar 7<| T_ed 3 [6] [(20,.bool (x==s9))] ?_
   by_cases c13:x=s9
   ·rw[if_pos c13]at h
    refine aF 20 (zK c13)<| T_rz 8<| T_nd 5 [20] [(22,vi s9),(23,.agg #[vi 0,vi 0,vi 0,vi 0]),(25,vp (some (sA.add 1)))] ?_
    obtain⟨q15,h⟩:=h
    refine T_v1 26 (aR 86 (vp (some (sA.add 1))) (vi s9)) (vp (some ((sA.add 1).add (Int.toNat s9*4)))) (λw _=>aN (P:=Tryz.prog) (t:=86) (elem:=85) (sz:=4) (n:=5) (a:=(sA.add 1)) (k:=.i64) (i:=s9) Tryz.underlying86 (λ_=>by kernel_rfl) q15.1 q15.2 w) [22,25] ?_
    obtain⟨q17,h⟩:=h
    refine fH 85 [vi 0,vi 0,vi 0,vi 0] q17 ?_
    intro H3 e16
    replace h:=h H3 e16
    exact T_pd [23,26] []<| zq<| aB<| aC<| T_rz 9<| T_ed 2 [14] [(14,vi (zY (j+1)))]<| aK ((zY (j+1)):Int) sk h
   rw[if_neg c13]at h
   exact aE 20 (zJ c13)<| T_k<| aB<| aC<| T_rz 9<| T_ed 2 [14,20] [(14,vi (zY (j+1)))]<| aK ((zY (j+1)):Int) sk h
  rw[if_neg c9]at h
  refine aE 15 (zQ c9)<| zj 2<| aA<| aA<| aH<| aC<| ar 10<| T_ed 3 [12,13,14,15] [(30,.bool ((b:Int)==0))] ?_
  by_cases c18:(b:Int)=0
  ·rw[if_pos c18]at h
   refine aF 30 (zK c18)<| T_rz 11<| T_nd 5 [4,30] [(32,vi s9),(33,.agg #[vi 0,vi 0,vi 0,vi 0]),(35,vp (some (sA.add 1)))] ?_
   obtain⟨q20,h⟩:=h
   refine T_v1 36 (aR 86 (vp (some (sA.add 1))) (vi s9)) (vp (some ((sA.add 1).add (Int.toNat s9*4)))) (λw _=>aN (P:=Tryz.prog) (t:=86) (elem:=85) (sz:=4) (n:=5) (a:=(sA.add 1)) (k:=.i64) (i:=s9) Tryz.underlying86 (λ_=>by kernel_rfl) q20.1 q20.2 w) [32,35] ?_
   obtain⟨q22,h⟩:=h
   refine fH 85 [vi 0,vi 0,vi 0,vi 0] q22 ?_
   intro H4 e21
   replace h:=h H4 e21
   exact T_pd [33,36] []<| zq<| aB<| aC<| T_rz 12<| T_ed 2 [9] [(9,vi (zY (s9+1)))]<| aK ((zY (s9+1)):Int) sk h
  rw[if_neg c18]at h
  exact aE 30 (zJ c18)<| T_k<| aB<| aC<| T_rz 12<| T_ed 2 [4,9,30] [(9,vi (zY (s9+1)))]<| aK ((zY (s9+1)):Int) sk h
 rw[if_neg c4]at h
 exact aE 10 (zQ c4)<| zj 0<| aA<| aA<| aH<| fN (fn:=Tryz.f38) [] hQ (show dh _ _ _ [] _ from .nil) h
end cV

/-! (*moraine/space.Space).Give -/
namespace dd
def K0:=Func.code Tryz.f41
def K2:=cb K0
def K4:=cb K2
def K11:=ca K4
def K14:=cb K11
def K16:=cb K14
def K17:=ca K16
end dd
def dd.pt(s:zW)(d:Int)(H:zV)(R:zk):Prop:=
 cT.C s H (λv H1=> ∃x:Bool,v=.bool x/\
 if x=true then(
 R (.int .i64 19) H1)
 else
 ∃sA:Addr,s=some sA/\
 ∃af:zW,hat H1 sA=some (.pointer af)/\
 bE.C af d H1 (λal H2=> ∃(r p ab f l g j:Int) (rb:Bool),al=.tuple #[.agg #[.int .i64 r,.int .i64 p,.int .i64 ab,.int .i64 f,.int .i64 l,.int .i64 g,.int .i64 j],.bool rb]/\
 ∀(b:Nat) (H3:zV),b=H2.size->H3=H2.push (.cells #[.int .i64 0,.int .i64 0,.int .i64 0,.int .i64 0,.int .i64 0,.int .i64 0,.int .i64 0] 96)->
 (aI H3 (ad b) 0 7)/\ ∀H4,H4=aO H3 (ad b) [.int .i64 r,.int .i64 p,.int .i64 ab,.int .i64 f,.int .i64 l,.int .i64 g,.int .i64 j] 0->
 if rb=true then(
 ∃o:Int,hat H4 (ad b)=some (.int .i64 o)/\
 ∃u:Int,hat H4 ((ad b).add 1)=some (.int .i64 u)/\
 zw o 5/\
 zw u 4/\
 ∃y:Int,hat H4 (((sA.add 1).add (Int.toNat o*4)).add (Int.toNat u*1))=some (.int .i64 y)/\
 if y=(zY (d+1))then(
 ∃m:Int,hat H4 (ad b)=some (.int .i64 m)/\
 ∃q:Int,hat H4 ((ad b).add 1)=some (.int .i64 q)/\
 zw m 5/\
 zw q 4/\
 (aI H4 (((sA.add 1).add (Int.toNat m*4)).add (Int.toNat q*1)) 0 1)/\ ∀H5,H5=aO H4 (((sA.add 1).add (Int.toNat m*4)).add (Int.toNat q*1)) [.int .i64 0] 0->
 ∃ag:zW,hat H5 sA=some (.pointer ag)/\
 dE.C ag d H5 (λaj H6=> ∃ah:Int,aj=.int .i64 ah/\
 R (.int .i64 ah) H6))
 else
 ∃z:zW,hat H4 sA=some (.pointer z)/\
 dE.C z d H4 (λai H7=> ∃ae:Int,ai=.int .i64 ae/\
 R (.int .i64 ae) H7))
 else
 ∃aa:zW,hat H4 sA=some (.pointer aa)/\
 dE.C aa d H4 (λak H8=> ∃ac:Int,ak=.int .i64 ac/\
 R (.int .i64 ac) H8)))
namespace dd
theorem link{s:zW}{d:Int}{H:zV}{R:zk}(h:pt s d H R):C s d H R:=by
 refine T_en K0 49 Tryz.func41 ?_
 intro w0 Q hQ
 unfold pt zY at h
 refine T_su [(0,vp s),(1,vi d)]<| ar 0<| T_ed 1 [] []<| T_sz<| ar 1<| T_nd 1 [] [(7,vp s)]<| T_c (some 8) h ?_;clear h
 rintro v H1 ⟨x,rfl,h⟩
 refine T_pd [7] [(8,.bool x)]<| T_e ?_
 by_cases c1:x=true
 ·rw[if_pos c1]at h
  exact aF 8 c1<| ar 2<| T_nr 1 [4] [vi 19] hQ h
 rw[if_neg c1]at h
 refine aE 8 (zZ c1)<| T_kt<| T_sz<| ar 3<| T_nd 1 [8] [(10,vp s)] ?_
 obtain⟨sA,rfl,h⟩:=h
 refine T_nd 2 [0,10] [(0,vp (some sA)),(12,vp (some sA))] ?_
 obtain⟨af,q3,h⟩:=h
 refine T_l1 13 84 q3 [12]<| T_nd 1 [] [(14,vi d)]<| T_c (some 15) h ?_;clear h
 rintro al H2 ⟨r,p,ab,f,l,g,j,rb,rfl,h⟩
 refine T_pd [13,14] [(15,.tuple #[.agg #[vi r,vi p,vi ab,vi f,vi l,vi g,vi j],.bool rb])]<| T_nd 3 [15] [(16,.agg #[vi r,vi p,vi ab,vi f,vi l,vi g,vi j]),(17,.bool rb)]<| T_nw (some 5) (λb=>vp (pa b)) (.cells #[vi 0,vi 0,vi 0,vi 0,vi 0,vi 0,vi 0] 96) ?_
 intro b H3 e4 e5
 replace h:=h b H3 e4 e5
 refine T_pd [] [(5,vp (pa b))] ?_
 obtain⟨q7,h⟩:=h
 refine fH 96 [vi r,vi p,vi ab,vi f,vi l,vi g,vi j] q7 ?_
 intro H4 e6
 replace h:=h H4 e6
 refine T_pd [16] []<| T_ed 1 [17] [(6,.bool rb)]<| T_sz<| jm 4<| T_q1 18 (.bool rb) [6]<| T_q1 19 (.bool rb) [18] ?_
 by_cases c8:rb=true
 ·rw[if_pos c8]at h
  refine Q_bd 19 c8<| T_q1 20 (vp (some sA)) []<| T_q1 21 (vp (pa b)) [] ?_
  obtain⟨o,q10,h⟩:=h
  refine iQ (some 22) 3 q10 [21] [(22,vi o)]<| T_q1 23 (vp (some ((ad b).add 1))) [] ?_
  obtain⟨u,q11,h⟩:=h
  refine iQ (some 24) 3 q11 [23] [(24,vi u)]<| T_q1 25 (vp (some sA)) [20]<| T_q1 26 (vp (some (sA.add 1))) [25] ?_
  obtain⟨q12,h⟩:=h
  refine Q_op (some 27) (aR 86 (vp (some (sA.add 1))) (vi o)) (vp (some ((sA.add 1).add (Int.toNat o*4)))) (λ_=>by kernel_rfl) (λw _=>aN (P:=Tryz.prog) (t:=86) (elem:=85) (sz:=4) (n:=5) (a:=(sA.add 1)) (k:=.i64) (i:=o) Tryz.underlying86 (λ_=>by kernel_rfl) q12.1 q12.2 w) [(0,vp (some sA)),(1,vi d),(5,vp (pa b)),(19,.bool true),(24,vi u),(27,vp (some ((sA.add 1).add (Int.toNat o*4))))] pk ?_
  obtain⟨q13,h⟩:=h
  refine Q_op (some 28) (aR 85 (vp (some ((sA.add 1).add (Int.toNat o*4)))) (vi u)) (vp (some (((sA.add 1).add (Int.toNat o*4)).add (Int.toNat u*1)))) (λ_=>by kernel_rfl) (λw _=>aN (P:=Tryz.prog) (t:=85) (elem:=3) (sz:=1) (n:=4) (a:=((sA.add 1).add (Int.toNat o*4))) (k:=.i64) (i:=u) Tryz.underlying85 (λ_=>by kernel_rfl) q13.1 q13.2 w) [(0,vp (some sA)),(1,vi d),(5,vp (pa b)),(19,.bool true),(28,vp (some (((sA.add 1).add (Int.toNat o*4)).add (Int.toNat u*1))))] pk ?_
  obtain⟨y,q14,h⟩:=h
  refine T_ql (some 29) 3 q14 [(0,vp (some sA)),(1,vi d),(5,vp (pa b)),(19,.bool true),(29,vi y)]<| T_q1 30 (vi d) []<| T_q1 31 (vi (zY (d+1))) [30]<| T_q1 32 (.bool (y==(zY (d+1)))) [29,31]<| T_q1 33 (.bool (y==(zY (d+1)))) [19,32]<| eV [(0,vp (some sA)),(1,vi d),(5,vp (pa b)),(33,.bool (y==(zY (d+1))))] sk<| T_qe ?_
  by_cases c15:y=(zY (d+1))
  ·rw[if_pos c15]at h
   refine aF 33 (zK c15) ?_
   obtain⟨m,q17,q,q18,q19,q20,h⟩:=h
   refine yY 5 (Code.ops K17) [(9,(ad b),[vi m]),(9,((ad b).add 1),[vi q])] 10 (bv 10 0) (show aG _ _ _ from⟨⟨q17,trivial⟩,⟨q18,trivial⟩,trivial⟩)<| T_gp 0 (some 34) (vp (some sA)) (bv 10 1) [(0,vp (some sA)),(1,vi d),(5,vp (pa b)),(34,vp (some sA))]<| aD 1 35 (vp (pa b)) (bv 10 3) []<| T_g1 2 36 (vi m) (bv 10 7) [35] (aS 3 (vp (pa b))) (yW 9 yZ)<| aD 3 37 (vp (some ((ad b).add 1))) (bv 10 15) [5]<| T_g1 4 38 (vi q) (bv 10 31) [37] (aS 3 (vp (some ((ad b).add 1)))) (yW 9 yX)<| aD 5 39 (vp (some sA)) (bv 10 63) [34]<| aD 6 40 (vp (some (sA.add 1))) (bv 10 127) [39]<| T_g1 7 41 (vp (some ((sA.add 1).add (Int.toNat m*4)))) (bv 10 255) [36,40] (aR 86 (vp (some (sA.add 1))) (vi m)) (λ_ w _ _ _=>aN (P:=Tryz.prog) (t:=86) (elem:=85) (sz:=4) (n:=5) (a:=(sA.add 1)) (k:=.i64) (i:=m) Tryz.underlying86 (λ_=>by kernel_rfl) q19.1 q19.2 w)<| T_g1 8 42 (vp (some (((sA.add 1).add (Int.toNat m*4)).add (Int.toNat q*1)))) (bv 10 511) [38,41] (aR 85 (vp (some ((sA.add 1).add (Int.toNat m*4)))) (vi q)) (λ_ w _ _ _=>aN (P:=Tryz.prog) (t:=85) (elem:=3) (sz:=1) (n:=4) (a:=((sA.add 1).add (Int.toNat m*4))) (k:=.i64) (i:=q) Tryz.underlying85 (λ_=>by kernel_rfl) q20.1 q20.2 w) ?_
   obtain⟨q22,h⟩:=h
   refine fg 9 none (bv 10 1023) (gH 3 (vp (some (((sA.add 1).add (Int.toNat m*4)).add (Int.toNat q*1)))) (vi 0)) (λHz=>Hz=aO H4 (((sA.add 1).add (Int.toNat m*4)).add (Int.toNat q*1)) [vi 0] 0) (by kernel_rfl) (λ_=>by kernel_rfl) (fX [vi 0] 1 (by kernel_rfl) (by kernel_rfl) (λ_=>by kernel_rfl) (by kernel_rfl) q22) (by kernel_rfl) ?_
   intro H5 e21
   replace h:=h H5 e21
   refine⟨[(0,vp (some sA)),(1,vi d)],pk,(show aG _ _ _ from⟨trivial,trivial,trivial⟩),?_⟩
   refine eR [(0,vp (some sA)),(1,vi d)] sk ?_
   refine yx<| aC<| ar 6<| T_n 3 [(1,vi d),(45,vp (some sA))] ?_
   obtain⟨ag,q23,h⟩:=h
   refine T_l1 46 84 q23 [45]<| T_nd 1 [1] [(47,vi d)]<| T_c (some 48) h ?_;clear h
   rintro aj H6 ⟨ah,rfl,h⟩
   refine⟨[(48,vi ah)],pk,?_⟩
   exact T_nr 1 [4] [vi ah] hQ h
  rw[if_neg c15]at h
  refine aE 33 (zJ c15)<| T_kt<| ar 6<| T_n 3 [(1,vi d),(45,vp (some sA))] ?_
  obtain⟨z,q24,h⟩:=h
  refine T_l1 46 84 q24 [45]<| T_nd 1 [1] [(47,vi d)]<| T_c (some 48) h ?_;clear h
  rintro ai H7 ⟨ae,rfl,h⟩
  refine⟨[(48,vi ae)],pk,?_⟩
  exact T_nr 1 [4] [vi ae] hQ h
 rw[if_neg c8]at h
 refine Q_bd 19 (zZ c8)<| T_q1 20 (undef) []<| T_q1 21 (undef) []<| T_q1 22 (undef) [21]<| T_q1 23 (undef) []<| T_q1 24 (undef) [23]<| T_q1 25 (undef) [20]<| T_q1 26 (undef) [25]<| T_q1 27 (undef) [22,26] ?_
 refine T_q1 28 (undef) [24,27]<| T_q1 29 (undef) [28]<| T_q1 30 (undef) []<| T_q1 31 (undef) [30]<| T_q1 32 (undef) [29,31]<| T_q1 33 (.bool false) [19,32]<| eV [(0,vp (some sA)),(1,vi d),(5,vp (pa b)),(33,.bool false)] sk<| T_qe<| T_fz 33<| T_kt<| ar 6<| T_n 3 [(1,vi d),(45,vp (some sA))] ?_
 obtain⟨aa,q25,h⟩:=h
 refine T_l1 46 84 q25 [45]<| T_nd 1 [1] [(47,vi d)]<| T_c (some 48) h ?_;clear h
 rintro ak H8 ⟨ac,rfl,h⟩
 refine⟨[(48,vi ac)],pk,?_⟩
 exact T_nr 1 [4] [vi ac] hQ h
end dd

/-! cmp.Compare[int] -/
namespace cmp_Compare_int
def K0:=Func.code Tryz.f74
end cmp_Compare_int
def cmp_Compare_int.pt(x y:Int)(H:zV)(R:zk):Prop:=
 cmp_isNaN_int.C x H (λv H1=> ∃b:Bool,v=.bool b/\
 cmp_isNaN_int.C y H1 (λd H2=> ∃a:Bool,d=.bool a/\
 if b=true then(
 if a=true then(
 R (.int .i64 0) H2)
 else
 R (.int .i64 (-1)) H2)
 else
 if a=true then(
 R (.int .i64 1) H2)
 else
 if x<y then(
 R (.int .i64 (-1)) H2)
 else
 if x>y then(
 R (.int .i64 1) H2)
 else
 R (.int .i64 0) H2))
namespace cmp_Compare_int
theorem link{x y:Int}{H:zV}{R:zk}(h:pt x y H R):C x y H R:=by
 refine T_en K0 20 Tryz.func74 ?_
 intro w0 Q hQ
 unfold pt at h
 refine T_su [(0,vi x),(1,vi y)]<| ar 0<| T_ed 1 [] []<| ar 1<| T_nd 1 [] [(7,vi x)]<| T_c (some 8) h ?_;clear h
 rintro v H1 ⟨b,rfl,h⟩
 refine T_pd [7] [(8,.bool b)]<| T_ed 1 [8] [(5,.bool b)]<| ar 2<| T_nd 1 [] [(9,vi y)]<| T_c (some 10) h ?_;clear h
 rintro d H2 ⟨a,rfl,h⟩
 refine T_pd [9] [(10,.bool a)]<| T_ed 1 [10] [(6,.bool a)]<| T_sz<| ar 3<| T_ed 1 [5] [(11,.bool b)] ?_
 by_cases c1:b=true
 ·rw[if_pos c1]at h
  refine aF 11 c1<| T_sz<| ar 4<| T_ne 1 [(12,.bool a)] ?_
  by_cases c3:a=true
  ·rw[if_pos c3]at h
   exact aF 12 c3<| ar 5<| T_nr 1 [4] [vi 0] hQ h
  rw[if_neg c3]at h
  exact aE 12 (zZ c3)<| T_kt<| ar 6<| T_nr 1 [4] [vi (-1)] hQ h
 rw[if_neg c1]at h
 refine aE 11 (zZ c1)<| T_kt<| T_sz<| ar 7<| T_ed 1 [6,11] [(13,.bool a)] ?_
 by_cases c5:a=true
 ·rw[if_pos c5]at h
  exact aF 13 c5<| ar 8<| T_nr 1 [4] [vi 1] hQ h
 rw[if_neg c5]at h
 refine aE 13 (zZ c5)<| T_kt<| T_sz<| ar 9<| T_ed 3 [13] [(16,.bool (decide (x<y)))] ?_
 by_cases c7:x<y
 ·rw[if_pos c7]at h
  exact aF 16 (zX c7)<| ar 10<| T_nr 1 [4] [vi (-1)] hQ h
 rw[if_neg c7]at h
 refine aE 16 (zQ c7)<| T_kt<| T_sz<| ar 11<| T_ne 3 [(19,.bool (decide (x>y)))] ?_
 by_cases c9:x>y
 ·rw[if_pos c9]at h
  exact aF 19 (zX c9)<| ar 12<| T_nr 1 [4] [vi 1] hQ h
 rw[if_neg c9]at h
 exact aE 19 (zQ c9)<| T_kt<| ar 13<| T_nr 1 [4] [vi 0] hQ h
end cmp_Compare_int

/-! cmp.isNaN[int] -/
namespace cmp_isNaN_int
def K0:=Func.code Tryz.f104
end cmp_isNaN_int
def cmp_isNaN_int.pt(x:Int)(H:zV)(R:zk):Prop:=
 R (.bool (x !=x)) H
namespace cmp_isNaN_int
theorem link{x:Int}{H:zV}{R:zk}(h:pt x H R):C x H R:=by
 refine T_en K0 6 Tryz.func104 ?_
 intro w0 Q hQ
 unfold pt at h
 exact T_su [(0,vi x)]<| ar 0<| T_ed 1 [] []<| ar 1<| T_nr 4 [2] [.bool (x !=x)] hQ h
end cmp_isNaN_int

/-! moraine/gc.Collect -/
namespace ei
def K0:=Func.code Tryz.f10
def K2:=cb K0
def K4:=cb K2
def K12:=cb K4
def K14:=cb K12
def K20:=cb K14
def K21:=ca K20
def K24:=cb K21
def K25:=ca K24
def K26:=ca K25
end ei
def ei.pt(hv:zW)(g p:Int)(l:zW)(b d:Nat)(H:zV)(R:zk):Prop:=
 dM hv (
 R (.int .i64 1) H) (λj=>
 il.C (some j) H (λv H1=> ∃x:Int,v=.int .i64 x/\
 eX.C (some j) g p x H1 (λaq H2=> ∃(ra:zW) (rb:Int),aq=.tuple #[.pointer ra,.int .i64 rb]/\
 if rb=0 then(
 ∃(ai:zv) (m27:Int->zV->Nat),ai 0 H2/\ ∀(o:Int) (H3:zV),ai o H3->
 if o< (b:Int)then(
 ∃m:Addr,l=some m/\
 zw o b/\
 ∃ab:zW,hat H3 (m.add (Int.toNat o*1))=some (.pointer ab)/\
 dM ab (
 (ai (zY (o+1)) H3/\m27 (zY (o+1)) H3<m27 o H3)) (λq=>
 ∃ah:Int,hat H3 q=some (.int .u64 ah)/\
 aW.C ra ah H3 (λao H4=> ∃ag:Int,ao=.int .u64 ag/\
 (aI H4 q 0 1)/\ ∀H5,H5=aO H4 q [.int .u64 ag] 0->
 (ai (zY (o+1)) H5/\m27 (zY (o+1)) H5<m27 o H3))))
 else
 cU.C ra H3 (λ_ H6=>
 bZ.C ra H6 (λ_ H7=>
 ∃(xB:zW) (xN xC:Nat),hat H7 (j.add 2)=some (.slice xB xN xC)/\
 eY.C ra xB xN xC H7 (λan H8=> ∃(z:zW) (y u:Nat),an=.slice z y u/\
 (aI H8 (j.add 2) 0 1)/\ ∀H9,H9=aO H8 (j.add 2) [.slice z y u] 0->
 eZ.C ra H9 (λ_ al=>
 ∃(af:zW) (ae ac:Nat),hat al (j.add 1)=some (.slice af ae ac)/\
 fp.C ra af ae ac al (λam aj=> ∃(aa:zW) (r s:Nat),am=.slice aa r s/\
 (aI aj (j.add 1) 0 1)/\ ∀ak,ak=aO aj (j.add 1) [.slice aa r s] 0->
 cL.CD ra ak (λap=>
 R (.int .i64 0) ap)))))))
 else
 R (.int .i64 rb) H2)))
namespace ei
theorem link{hv:zW}{g p:Int}{l:zW}{b d:Nat}{H:zV}{R:zk}(h:pt hv g p l b d H R):C hv g p l b d H R:=by
 refine T_en K0 68 Tryz.func10 ?_
 intro w0 Q hQ
 unfold pt zY at h
 refine T_su [(0,vp hv),(1,vi g),(2,vi p),(3,vs l b d)]<| ar 0<| T_ed 1 [] []<| T_sz<| ar 1<| T_nd 1 [] [(13,vp hv)] ?_
 rcases hv with _ | j
 ·rw[onPtr_none]at h
  exact T_ed 1 [0,13] [(0,vp none),(14,.bool true)]<| T_tz 14<| ar 2<| T_nr 1 [8] [vi 1] hQ h
 rw[onPtr_some]at h
 refine T_ed 1 [0,13] [(0,vp (some j)),(14,.bool false)]<| T_fz 14<| T_kt<| ar 3<| T_nd 4 [1,2,14] [(16,vp (some j)),(17,vi g),(18,vi p),(19,vp (some j))]<| T_c (some 20) h ?_;clear h
 rintro v H1 ⟨x,rfl,h⟩
 refine T_pd [19] [(20,vi x)]<| T_c (some 21) h ?_;clear h
 rintro aq H2 ⟨ra,rb,rfl,h⟩
 refine T_pd [16,17,18,20] [(21,.tuple #[vp ra,vi rb])]<| T_ed 5 [21] [(9,vp ra),(10,vi rb)]<| T_sz<| ar 4<| T_ed 2 [] [(25,.bool (rb !=0))] ?_
 by_cases c1:rb=0
 ·rw[if_pos c1]at h
  refine aE 25 (bne_eq_false_iff_eq.mpr c1)<| T_kt<| ar 6<| T_nd 1 [10,25] [(27,vp ra)]<| rE none 19 #[vp ra] (λ_=>by kernel_rfl) [(0,vp (some j)),(3,vs l b d),(9,vp ra)] pk<| T_e<| T_sz<| ar 7<| T_ne 3 [(0,vp (some j)),(9,vp ra),(28,vs l b d),(29,vi b),(30,vi 0)]<| T_bz 0 ?_
  obtain⟨ai,m27,i3,i4⟩:=h
  refine bO (x:=K26) (σ:=Int) (λs_=> [(0,vp (some j)),(9,vp ra),(28,vs l b d),(29,vi b),(30,vi s_)]) (λs_ H=>ai s_ H) (λs_ H=>m27 s_ H) (0:Int) (by kernel_rfl) i3 sk ?_
  rintro o H3 i5
  have h:=i4 o H3 i5
  refine T_su [(0,vp (some j)),(9,vp ra),(28,vs l b d),(29,vi b),(30,vi o)]<| ar 8<| T_ed 1 [] [(31,.bool (decide (o< (b:Int))))]<| T_sz ?_
  by_cases c6:o< (b:Int)
  ·rw[if_pos c6]at h
   refine aF 31 (zX c6)<| T_kt<| T_sz<| T_bz 1<| ar 9<| T_ud [31] [] ?_
   obtain⟨m,rfl,q8,h⟩:=h
   refine T_xd (some 32) 30 31 1 m b d .i64 o Tryz.underlying30 q8.1 q8.2 [28] [(28,vs (some m) b d),(32,vp (some (m.add (Int.toNat o*1))))] ?_
   obtain⟨ab,q9,h⟩:=h
   refine T_l1 33 31 q9 [32]<| T_ed 1 [33] [(12,vp ab)]<| ar 10<| T_nd 1 [] [(34,vp ab)] ?_
   rcases ab with _ | q
   ·rw[onPtr_none]at h
    exact T_ed 1 [12,34] [(12,vp none),(35,.bool false)]<| T_fz 35<| T_k<| aB<| aC<| T_rz 12<| T_ed 2 [12,30,35] [(30,vi (zY (o+1)))]<| aK ((zY (o+1)):Int) sk h
   rw[onPtr_some]at h
   refine T_ed 1 [12,34] [(12,vp (some q)),(35,.bool true)]<| T_tz 35<| T_rz 11<| T_nd 4 [12,35] [(36,vp (some q)),(37,vp ra),(39,vp (some q))] ?_
   obtain⟨ah,q10,h⟩:=h
   refine T_l1 40 33 q10 [39]<| T_c (some 41) h ?_;clear h
   rintro ao H4 ⟨ag,rfl,h⟩
   refine T_pd [37,40] [(41,vu ag)]<| T_nd 1 [36] [(42,vp (some q))] ?_
   obtain⟨q12,h⟩:=h
   refine eq 33 (vu ag) q12 ?_
   intro H5 e11
   replace h:=h H5 e11
   exact T_pd [41,42] []<| zq<| aB<| aC<| T_rz 12<| T_ed 2 [30] [(30,vi (zY (o+1)))]<| aK ((zY (o+1)):Int) sk h
  rw[if_neg c6]at h
  refine aE 31 (zQ c6)<| zj 0<| aA<| aA<| aH<| aC<| ar 13<| T_nd 1 [28,29,30,31] [(44,vp ra)]<| T_c (some 45) h ?_;clear h
  intro v_4 H6 h
  refine T_pd [44] []<| T_e<| ar 14<| T_nd 1 [] [(46,vp ra)]<| T_c (some 47) h ?_;clear h
  intro v_5 H7 h
  refine T_pd [46] []<| T_e<| ar 15<| T_nd 5 [] [(48,vp (some j)),(49,vp ra),(52,vp (some (j.add 2)))] ?_
  obtain⟨xB,xN,xC,q13,h⟩:=h
  refine T_l1 53 46 q13 [52]<| T_c (some 54) h ?_;clear h
  rintro an H8 ⟨z,y,u,rfl,h⟩
  refine T_pd [49,53] [(54,vs z y u)]<| T_nd 2 [48] [(56,vp (some (j.add 2)))] ?_
  obtain⟨q15,h⟩:=h
  refine eq 46 (vs z y u) q15 ?_
  intro H9 e14
  replace h:=h H9 e14
  refine T_pd [54,56] []<| T_e<| ar 16<| T_nd 1 [] [(57,vp ra)]<| T_c (some 58) h ?_;clear h
  intro v_7 al h
  refine T_pd [57] []<| T_e<| ar 17<| T_n 5 [(59,vp (some j)),(60,vp ra),(63,vp (some (j.add 1)))] ?_
  obtain⟨af,ae,ac,q16,h⟩:=h
  refine T_l1 64 45 q16 [63]<| T_c (some 65) h ?_;clear h
  rintro am aj ⟨aa,r,s,rfl,h⟩
  refine T_pd [60,64] [(65,vs aa r s)]<| T_nd 2 [59] [(67,vp (some (j.add 1)))] ?_
  obtain⟨q18,h⟩:=h
  refine eq 45 (vs aa r s) q18 ?_
  intro ak e17
  replace h:=h ak e17
  refine⟨[],pk,?_⟩
  refine T_e<| ar 18<| T_ne 1 [(8,vi 0)]<| zx ?_
  show At _ _ _ _ _ (Q .ret)
  refine rF (f:=19) (args:= #[vp ra]) (enters_of Tryz.func19 (by kernel_rfl) rfl) hQ (HD.mono (h) (λap h=>?_))
  exact⟨[vi 0],(show dh _ _ _ [.tmp 8] _ from .tmp (by kernel_rfl) (.nil)),h⟩
 rw[if_neg c1]at h
 exact aF 25 (bne_iff_ne.mpr c1)<| ar 5<| T_nr 2 [8] [vi rb] hQ h
end ei

/-! moraine/gc.more -/
namespace il
def K0:=Func.code Tryz.f18
end il
def il.pt(hv:zW)(H:zV)(R:zk):Prop:=
 ∃a:Addr,hv=some a/\
 ∃(xB:zW) (xN xC:Nat),hat H (a.add 2)=some (.slice xB xN xC)/\
 R (.int .i64 (zY ((zY (Int.tdiv (xN:Int) 32))+1))) H
namespace il
theorem link{hv:zW}{H:zV}{R:zk}(h:pt hv H R):C hv H R:=by
 refine T_en K0 10 Tryz.func18 ?_
 intro w0 Q hQ
 unfold pt zY at h
 refine T_su [(0,vp hv)]<| ar 0<| T_ed 1 [] []<| ar 1<| T_n 1 [(3,vp hv)] ?_
 obtain⟨a,rfl,h⟩:=h
 refine T_n 2 [(5,vp (some (a.add 2)))] ?_
 obtain⟨xB,xN,xC,q1,h⟩:=h
 exact T_l1 6 46 q1 [5]<| T_nr 4 [2] [vi (zY ((zY (Int.tdiv (xN:Int) 32))+1))] hQ h
end il

/-! moraine/morainelaw16.good -/
namespace bY
def K0:=Func.code Tryz.f15
end bY
def bY.pt(s:ByteArray)(H:zV)(R:zk):Prop:=
 cH.C s H (λv H1=> ∃(b:zW) (a d:Nat) (rb:Bool),v=.tuple #[.slice b a d,.bool rb]/\
 if((!rb) || ((a:Int)==0))=true then(
 R (.int .i64 2) H1)
 else
 if(a:Int)>62 then(
 R (.int .i64 1) H1)
 else
 R (.int .i64 0) H1)
namespace bY
set_option maxRecDepth 100000 in
theorem link{s:ByteArray}{H:zV}{R:zk}(h:pt s H R):C s H R:=by
 refine T_en K0 20 Tryz.func15 ?_
 intro w0 Q hQ
 unfold pt at h
 refine T_su [(0,.string s)]<| ar 0<| T_ed 1 [] []<| ar 1<| T_n 1 [(6,.string s)]<| T_c (some 7) h ?_;clear h
 rintro v H1 ⟨b,a,d,rb,rfl,h⟩
 refine⟨[(7,.tuple #[vs b a d,.bool rb])],pk,?_⟩
 refine T_ne 5 [(3,vs b a d),(4,.bool rb)]<| T_sz<| ar 2 ?_
 refine eQ [(3,vs b a d),(16,.bool ((!rb) || ((a:Int)==0)))] ?_ ?_
 ·refine aC ?_
  by_cases c3:((!rb) || ((a:Int)==0))=true
  ·rw[if_pos c3]at h
   exact aF 16 c3<| ar 3<| T_nr 1 [2] [vi 2] hQ h
  rw[if_neg c3]at h
  refine aE 16 (zZ c3)<| T_kt<| T_sz<| ar 4<| T_ne 3 [(19,.bool (decide ((a:Int)>62)))] ?_
  by_cases c5:(a:Int)>62
  ·rw[if_pos c5]at h
   exact aF 19 (zX c5)<| ar 5<| T_nr 1 [2] [vi 1] hQ h
  rw[if_neg c5]at h
  exact aE 19 (zQ c5)<| T_kt<| ar 6<| T_nr 1 [2] [vi 0] hQ h
 intro hk
 refine T_n 3 [(3,vs b a d),(12,.bool (!rb))] ?_
 by_cases c1:rb=true
 ·have b2:(!rb)=false:=congrArg Bool.not (c1)
  have b22:rb=true:=c1
  refine bJ [(3,vs b a d),(12,.bool false)] (by simp only[b2,b22,Bool.not_true,Bool.not_false]) ?_
  refine T_nd 4 [12] [(16,.bool ((a:Int)==0))]<| zq<| S_bd 16 (b:=((a:Int)==0)) (v:=((!rb) || ((a:Int)==0))) (by simp only[b2,BL]) ?_
  exact hk
 have b2:(!rb)=true:=congrArg Bool.not (zZ c1)
 have b22:rb=false:=zZ c1
 refine bJ [(3,vs b a d),(12,.bool true)] (by simp only[b2,b22,Bool.not_true,Bool.not_false]) ?_
 refine T_nd 4 [12] [(16,.bool true)]<| zq<| S_bd 16 (b:=true) (v:=((!rb) || ((a:Int)==0))) (by simp only[b2,BL]) ?_
 exact hk
end bY

/-! moraine/morainelaw16.begun -/
namespace bF
def K0:=Func.code Tryz.f7
def K2:=cb K0
def K4:=cb K2
def K6:=cb K4
def K14:=cb K6
def K15:=ca K14
def K18:=cb K15
def K19:=ca K18
def K20:=ca K19
end bF
def bF.pt(H:zV)(R:zk):Prop:=
 ik.C 100 H (λv H1=> ∃(ra:zW) (rb:Int),v=.tuple #[.pointer ra,.int .i64 rb]/\
 if rb=0 then(
 dM ra (
 R (.pointer none) H1) (λd=>
 ∀(b:Nat) (H2:zV),b=H1.size->H2=H1.push (.cells #[.pointer (some d),.int .u64 0,.int .u64 0,.int .u64 0,.int .u64 0,.int .u64 0,.int .u64 0,.int .u64 0,.int .u64 0,.string (ByteArray.mk #[]),.string (ByteArray.mk #[]),.string (ByteArray.mk #[]),.string (ByteArray.mk #[]),.string (ByteArray.mk #[]),.string (ByteArray.mk #[]),.string (ByteArray.mk #[]),.string (ByteArray.mk #[]),.slice none 0 0] 39)->
 ∃(f:zv) (m21:Int->zV->Nat),f 0 H2/\ ∀(i:Int) (H3:zV),f i H3->
 if i<8 then(
 zw i 8/\
 (aI H3 (((ad b).add 1).add (Int.toNat i*1)) 0 1)/\ ∀H4,H4=aO H3 (((ad b).add 1).add (Int.toNat i*1)) [.int .u64 20] 0->
 (f (zY (i+1)) H4/\m21 (zY (i+1)) H4<m21 i H3))
 else
 R (.pointer (some (ad b))) H3))
 else
 R (.pointer none) H1)
namespace bF
set_option maxRecDepth 100000 in
theorem link{H:zV}{R:zk}(h:pt H R):C H R:=by
 refine T_en K0 28 Tryz.func7 ?_
 intro w0 Q hQ
 unfold pt zY at h
 refine T_su []<| ar 0<| T_ne 1 []<| ar 1<| T_c (some 6) h ?_;clear h
 rintro v H1 ⟨ra,rb,rfl,h⟩
 refine⟨[(6,.tuple #[vp ra,vi rb])],pk,?_⟩
 refine T_ne 5 [(1,vp ra),(2,vi rb)]<| T_sz<| ar 2<| T_nd 3 [2] [(11,.bool (rb !=0))] ?_
 by_cases c1:rb=0
 ·rw[if_pos c1]at h
  refine N_bd 11 (bne_eq_false_iff_eq.mpr c1)<| T_nd 1 [] [(12,vp ra)] ?_
  rcases ra with _ | d
  ·rw[onPtr_none]at h
   exact T_ne 2 [(1,vp none),(14,.bool true)]<| T_tz 14<| ar 3<| T_nr 1 [0] [vp none] hQ h
  rw[onPtr_some]at h
  refine T_ne 2 [(1,vp (some d)),(14,.bool false)]<| T_fz 14<| T_kt<| ar 4<| T_n 2 [(16,.agg #[vp (some d),vu 0,vu 0,vu 0,vu 0,vu 0,vu 0,vu 0,vu 0,.string (ByteArray.mk #[]),.string (ByteArray.mk #[]),.string (ByteArray.mk #[]),.string (ByteArray.mk #[]),.string (ByteArray.mk #[]),.string (ByteArray.mk #[]),.string (ByteArray.mk #[]),.string (ByteArray.mk #[]),vs none 0 0])]<| T_nw (some 17) (λb=>vp (pa b)) (.cells #[vp (some d),vu 0,vu 0,vu 0,vu 0,vu 0,vu 0,vu 0,vu 0,.string (ByteArray.mk #[]),.string (ByteArray.mk #[]),.string (ByteArray.mk #[]),.string (ByteArray.mk #[]),.string (ByteArray.mk #[]),.string (ByteArray.mk #[]),.string (ByteArray.mk #[]),.string (ByteArray.mk #[]),vs none 0 0] 39) ?_
  intro b H2 e3 e4
  replace h:=h b H2 e3 e4
  refine⟨[(17,vp (pa b))],pk,?_⟩
  refine T_ne 1 [(3,vp (pa b))]<| T_sz<| ar 5<| T_ed 1 [] [(4,vi 0)]<| T_bz 0 ?_
  obtain⟨f,m21,i5,i6⟩:=h
  refine bO (x:=K20) (σ:=Int) (λs_=> [(3,vp (pa b)),(4,vi s_)]) (λs_ H=>f s_ H) (λs_ H=>m21 s_ H) (0:Int) (by kernel_rfl) i5 sk ?_
  rintro i H3 i7
  have h:=i6 i H3 i7
  refine T_su [(3,vp (pa b)),(4,vi i)]<| T_sz<| ar 6<| T_ed 2 [] [(19,.bool (decide (i<8)))] ?_
  by_cases c8:i<8
  ·rw[if_pos c8]at h
   refine aF 19 (zX c8)<| T_kt<| T_sz<| T_bz 1<| T_rz 8<| T_nd 4 [19] [(23,vi i),(25,vp (some ((ad b).add 1)))] ?_
   obtain⟨q10,h⟩:=h
   refine T_v1 26 (aR 35 (vp (some ((ad b).add 1))) (vi i)) (vp (some (((ad b).add 1).add (Int.toNat i*1)))) (λw _=>aN (P:=Tryz.prog) (t:=35) (elem:=33) (sz:=1) (n:=8) (a:=((ad b).add 1)) (k:=.i64) (i:=i) Tryz.underlying35 (λ_=>by kernel_rfl) q10.1 q10.2 w) [23,25] ?_
   obtain⟨q12,h⟩:=h
   refine eq 33 (vu 20) q12 ?_
   intro H4 e11
   replace h:=h H4 e11
   exact T_pd [26] []<| zq<| aB<| aC<| T_rz 7<| T_ed 3 [4] [(4,vi (zY (i+1)))]<| aK ((zY (i+1)):Int) sk h
  rw[if_neg c8]at h
  exact aE 19 (zQ c8)<| zj 0<| aA<| aA<| aH<| aC<| ar 9<| T_nr 2 [0] [vp (pa b)] hQ h
 rw[if_neg c1]at h
 exact N_bd 11 (bne_iff_ne.mpr c1)<| T_ed 3 [11] [(14,.bool true)]<| T_tz 14<| ar 3<| T_nr 1 [0] [vp none] hQ h
end bF

/-! moraine/morainelaw16.awake -/
namespace bN
def K0:=Func.code Tryz.f6
end bN
def bN.pt(H:zV)(R:zk):Prop:=
 bF.C H (λv H1=> ∃x:zW,v=.pointer x/\
 dM x (
 R (.bool false) H1) (λxA=>
 ∃g:zW,hat H1 xA=some (.pointer g)/\
 bU.C g (ByteArray.mk #[97]) H1 (λp H2=> ∃ra rb:Int,p=.tuple #[.int .u64 ra,.int .i64 rb]/\
 ∃j:zW,hat H2 xA=some (.pointer j)/\
 bU.C j (ByteArray.mk #[98]) H2 (λo H3=> ∃a d:Int,o=.tuple #[.int .u64 a,.int .i64 d]/\
 ∃i:zW,hat H3 xA=some (.pointer i)/\
 bU.C i (ByteArray.mk #[97]) H3 (λm H4=> ∃b f:Int,m=.tuple #[.int .u64 b,.int .i64 f]/\
 if rb=0 then(
 if d=0 then(
 if f=0 then(
 if ra=b then(
 if ra=a then(
 R (.bool false) H4)
 else
 ∃l:zW,hat H4 xA=some (.pointer l)/\
 ∃k:Addr,l=some k/\
 ∃(xB:zW) (xN xC:Nat),hat H4 (k.add 1)=some (.slice xB xN xC)/\
 R (.bool ((xN:Int)==2)) H4)
 else
 R (.bool false) H4)
 else
 R (.bool false) H4)
 else
 R (.bool false) H4)
 else
 R (.bool false) H4)))))
namespace bN
set_option maxRecDepth 100000 in
theorem link{H:zV}{R:zk}(h:pt H R):C H R:=by
 refine T_en K0 66 Tryz.func6 ?_
 intro w0 Q hQ
 unfold pt at h
 refine T_su []<| ar 0<| T_ne 1 []<| ar 1<| T_c (some 8) h ?_;clear h
 rintro v H1 ⟨x,rfl,h⟩
 refine⟨[(8,vp x)],pk,?_⟩
 refine T_ne 1 [(1,vp x)]<| T_sz<| ar 2<| T_nd 1 [] [(9,vp x)] ?_
 rcases x with _ | xA
 ·rw[onPtr_none]at h
  exact T_ne 1 [(1,vp none),(10,.bool true)]<| T_tz 10<| ar 3<| T_nr 1 [0] [.bool false] hQ h
 rw[onPtr_some]at h
 refine T_ne 1 [(1,vp (some xA)),(10,.bool false)]<| T_fz 10<| T_kt<| ar 4<| T_nd 3 [10] [(14,vp (some xA))] ?_
 obtain⟨g,q1,h⟩:=h
 refine T_l1 15 34 q1 [14]<| T_c (some 16) h ?_;clear h
 rintro p H2 ⟨ra,rb,rfl,h⟩
 refine T_pd [15] [(16,.tuple #[vu ra,vi rb])]<| T_ed 5 [16] [(2,vu ra),(3,vi rb)]<| ar 5<| T_nd 3 [] [(22,vp (some xA))] ?_
 obtain⟨j,q2,h⟩:=h
 refine T_l1 23 34 q2 [22]<| T_c (some 24) h ?_;clear h
 rintro o H3 ⟨a,d,rfl,h⟩
 refine T_pd [23] [(24,.tuple #[vu a,vi d])]<| T_ed 5 [24] [(4,vu a),(5,vi d)]<| ar 6<| T_nd 3 [] [(30,vp (some xA))] ?_
 obtain⟨i,q3,h⟩:=h
 refine T_l1 31 34 q3 [30]<| T_c (some 32) h ?_;clear h
 rintro m H4 ⟨b,f,rfl,h⟩
 refine T_pd [31] [(32,.tuple #[vu b,vi f])]<| T_ed 5 [32] [(6,vu b),(7,vi f)]<| ar 7<| T_nd 3 [3] [(37,.bool (rb==0))] ?_
 by_cases c4:rb=0
 ·rw[if_pos c4]at h
  refine N_bd 37 (zK c4)<| T_nd 4 [5,37] [(41,.bool (d==0))] ?_
  by_cases c6:d=0
  ·rw[if_pos c6]at h
   refine N_bd 41 (zK c6)<| T_nd 4 [7,41] [(45,.bool (f==0))] ?_
   by_cases c8:f=0
   ·rw[if_pos c8]at h
    refine N_bd 45 (zK c8)<| T_nd 5 [6,45] [(50,.bool (ra==b))] ?_
    by_cases c10:ra=b
    ·rw[if_pos c10]at h
     refine N_bd 50 (zK c10)<| T_nd 5 [2,4,50] [(55,.bool (ra !=a))] ?_
     by_cases c12:ra=a
     ·rw[if_pos c12]at h
      exact N_bd 55 (bne_eq_false_iff_eq.mpr c12)<| T_nr 11 [0] [.bool false] hQ h
     rw[if_neg c12]at h
     refine N_bd 55 (bne_iff_ne.mpr c12)<| T_nd 3 [1] [(58,vp (some xA))] ?_
     obtain⟨l,q14,h⟩:=h
     refine T_l1 59 34 q14 [58] ?_
     obtain⟨k,rfl,h⟩:=h
     refine T_nd 2 [59] [(61,vp (some (k.add 1)))] ?_
     obtain⟨xB,xN,xC,q15,h⟩:=h
     exact T_l1 62 45 q15 [61]<| T_nr 4 [0] [.bool ((xN:Int)==2)] hQ h
    rw[if_neg c10]at h
    exact N_bd 50 (zJ c10)<| T_nr 16 [0] [.bool false] hQ h
   rw[if_neg c8]at h
   exact N_bd 45 (zJ c8)<| T_nr 21 [0] [.bool false] hQ h
  rw[if_neg c6]at h
  exact N_bd 41 (zJ c6)<| T_nr 25 [0] [.bool false] hQ h
 rw[if_neg c4]at h
 exact N_bd 37 (zJ c4)<| T_nr 29 [0] [.bool false] hQ h
end bN

/-! moraine/morainelaw16.at -/
namespace bW
def K0:=Func.code Tryz.f14
end bW
def bW.pt(x nv:Int)(H:zV)(R:zk):Prop:=
 (nv≠0)/\
 (nv≠0)/\
 R (.int .i64 (Int.tmod (zY ((Int.tmod x nv)+nv)) nv)) H
namespace bW
set_option maxRecDepth 100000 in
theorem link{x nv:Int}{H:zV}{R:zk}(h:pt x nv H R):C x nv H R:=by
 refine T_en K0 12 Tryz.func14 ?_
 intro w0 Q hQ
 unfold pt zY at h
 refine T_su [(0,vi x),(1,vi nv)]<| ar 0<| T_ed 1 [] []<| ar 1<| T_nd 2 [0] [(5,vi x),(6,vi nv)] ?_
 obtain⟨q1,h⟩:=h
 refine T_v1 7 (binN .rem 3 (vi x) (vi nv)) (vi (Int.tmod x nv)) (λw _=>pE (P:=Tryz.prog) (t:=3) (k:=.i64) (x:=x) (y:=nv) q1 w) [5,6]<| T_n 3 [(9,vi (zY ((Int.tmod x nv)+nv))),(10,vi nv)] ?_
 obtain⟨q2,h⟩:=h
 exact T_v1 11 (binN .rem 3 (vi (zY ((Int.tmod x nv)+nv))) (vi nv)) (vi (Int.tmod (zY ((Int.tmod x nv)+nv)) nv)) (λw _=>pE (P:=Tryz.prog) (t:=3) (k:=.i64) (x:=(zY ((Int.tmod x nv)+nv))) (y:=nv) q2 w) [9,10]<| T_nr 1 [4] [vi (Int.tmod (zY ((Int.tmod x nv)+nv)) nv)] hQ h
end bW

/-! moraine/morainelaw16.heavy -/
namespace cG
def K0:=Func.code Tryz.f5
def K2:=cb K0
def K4:=cb K2
def K11:=ca K4
def K14:=cb K11
def K15:=ca K14
def K16:=ca K15
end cG
def cG.pt(lB:zW)(lN lC:Nat)(H:zV)(R:zk):Prop:=
 if(lN:Int)>150 then(
 R (.bool true) H)
 else
 ∃(d:zv) (m17:Int->zV->Nat),d 0 H/\ ∀(i:Int) (H1:zV),d i H1->
 if i< (lN:Int)then(
 ∃b:Addr,lB=some b/\
 zw i lN/\
 ∃x:ByteArray,hat H1 ((b.add (Int.toNat i*4)).add 3)=some (.string x)/\
 if(x.size:Int)>500 then(
 R (.bool true) H1)
 else
 (d (zY (i+1)) H1/\m17 (zY (i+1)) H1<m17 i H1))
 else
 R (.bool false) H1
namespace cG
set_option maxRecDepth 100000 in
theorem link{lB:zW}{lN lC:Nat}{H:zV}{R:zk}(h:pt lB lN lC H R):C lB lN lC H R:=by
 refine T_en K0 20 Tryz.func5 ?_
 intro w0 Q hQ
 unfold pt zY at h
 refine T_su [(0,vs lB lN lC)]<| ar 0<| T_ed 1 [] []<| T_sz<| ar 1<| T_ed 3 [] [(6,.bool (decide ((lN:Int)>150)))] ?_
 by_cases c1:(lN:Int)>150
 ·rw[if_pos c1]at h
  exact aF 6 (zX c1)<| ar 2<| T_nr 1 [2] [.bool true] hQ h
 rw[if_neg c1]at h
 refine aE 6 (zQ c1)<| T_kt<| T_sz<| ar 3<| T_ed 1 [6] [(3,vi 0)]<| T_bz 0 ?_
 obtain⟨d,m17,i3,i4⟩:=h
 refine bO (x:=K16) (σ:=Int) (λs_=> [(0,vs lB lN lC),(3,vi s_)]) (λs_ H=>d s_ H) (λs_ H=>m17 s_ H) (0:Int) (by kernel_rfl) i3 sk ?_
 rintro i H1 i5
 have h:=i4 i H1 i5
 refine T_su [(0,vs lB lN lC),(3,vi i)]<| T_sz<| ar 4<| T_ed 4 [] [(10,.bool (decide (i< (lN:Int))))] ?_
 by_cases c6:i< (lN:Int)
 ·rw[if_pos c6]at h
  refine aF 10 (zX c6)<| T_kt<| T_sz<| T_bz 1<| ar 6<| T_nd 2 [10] [(13,vs lB lN lC),(14,vi i)] ?_
  obtain⟨b,rfl,q8,h⟩:=h
  refine T_ix (some 15) 22 29 4 b lN lC .i64 i Tryz.underlying22 q8.1 q8.2 [(0,vs (some b) lN lC),(3,vi i),(15,vp (some (b.add (Int.toNat i*4))))]<| T_nd 1 [15] [(16,vp (some ((b.add (Int.toNat i*4)).add 3)))] ?_
  obtain⟨x,q9,h⟩:=h
  refine T_l1 17 9 q9 [16]<| T_ed 2 [17] [(19,.bool (decide ((x.size:Int)>500)))] ?_
  by_cases c10:(x.size:Int)>500
  ·rw[if_pos c10]at h
   exact aF 19 (zX c10)<| ar 7<| T_nr 1 [2] [.bool true] hQ h
  rw[if_neg c10]at h
  exact aE 19 (zQ c10)<| T_k<| aB<| aC<| T_rz 5<| T_ed 3 [3,19] [(3,vi (zY (i+1)))]<| aK ((zY (i+1)):Int) sk h
 rw[if_neg c6]at h
 exact aE 10 (zQ c6)<| zj 0<| aA<| aA<| aH<| aC<| ar 8<| T_nr 1 [2] [.bool false] hQ h
end cG

/-! moraine/morainelaw16.SymsGone -/
namespace bT
def K0:=Func.code Tryz.f4
def K2:=cb K0
def K4:=cb K2
def K12:=cb K4
def K14:=cb K12
def K21:=ca K14
def K22:=cb K14
def K24:=cb K21
def K25:=ca K24
def K26:=ca K25
def K43:=cb K22
def K44:=ca K43
def K45:=cb K43
def K47:=cb K44
def K48:=ca K47
def K49:=ca K48
def K60:=cb K45
def K66:=cb K60
def K68:=cb K66
def K69:=ca K68
def K72:=cb K69
def K73:=ca K72
def K74:=ca K73
def K76:=cb K74
def K81:=ca K76
def K83:=ca K81
def K85:=cb K83
def K91:=cb K85
def K93:=cb K91
def K94:=ca K93
def K97:=cb K94
def K98:=ca K97
def K99:=ca K98
end bT
def bT.pt(lB:zW)(lN lC:Nat)(d:ByteArray)(H:zV)(R:zk):Prop:=
 cG.C lB lN lC H (λv H1=> ∃x:Bool,v=.bool x/\
 if(x || (decide ((d.size:Int)>500)))=true then(
 bN.C H1 (λa7 H2=> ∃ao:Bool,a7=.bool ao/\
 R (.bool ao) H2))
 else
 bF.C H1 (λa4 H3=> ∃ah:zW,a4=.pointer ah/\
 dM ah (
 R (.bool false) H3) (λf=>
 ∃(av:zv) (m27:Int->zV->Nat),av 0 H3/\ ∀(i:Int) (H4:zV),av i H4->
 if i< (lN:Int)then(
 ∃p:Addr,lB=some p/\
 zw i lN/\
 ∃(u au ag:Int) (s:ByteArray),aU H4 (p.add (Int.toNat i*4)) 0 [.int .i64 u,.int .i64 au,.int .i64 ag,.string s]/\
 bI.C (some f) u au ag s H4 (λay H5=> ∃y:Bool,ay=.bool y/\
 if y=true then(
 (av (zY (i+1)) H5/\m27 (zY (i+1)) H5<m27 i H4))
 else
 R (.bool false) H5))
 else
 ∃(aw:zW->Nat->Nat->zv) (m50:zW->Nat->Nat->Int->zV->Nat),aw none 0 0 0 H4/\ ∀(m:zW) (rootsN:Nat) (rootsC:Nat) (i_2:Int) (H6:zV),aw m rootsN rootsC i_2 H6->
 if i_2<8 then(
 zw i_2 8/\
 ∀(b:Nat) (H7:zV),b=H6.size->H7=H6.push (.cells #[.pointer (some ((f.add 1).add (Int.toNat i_2*1)))] 31)->
 dw 1 31 8 [.pointer none] m rootsN rootsC (some (ad b)) 1 H7 (λap aj H8=>
 (aw ap (rootsN+1) aj (zY (i_2+1)) H8/\m50 ap (rootsN+1) aj (zY (i_2+1)) H8<m50 m rootsN rootsC i_2 H6)))
 else
 ∃an:zW,hat H6 f=some (.pointer an)/\
 ei.C an 3 3 m rootsN rootsC H6 (λa5 H9=> ∃ai:Int,a5=.int .i64 ai/\
 if ai=0 then(
 ∃(ak:Int->Bool->zv) (m75:Int->Bool->Int->zV->Nat),ak 0 false 0 H9/\ ∀(g:Int) (held:Bool) (i_3:Int) (H10:zV),ak g held i_3 H10->
 if i_3<8 then(
 zw i_3 8/\
 ∃ab:ByteArray,hat H10 ((f.add 9).add (Int.toNat i_3*1))=some (.string ab)/\
 if ab.toList=(ByteArray.mk #[]).toList then(
 (ak g held (zY (i_3+1)) H10/\m75 g held (zY (i_3+1)) H10<m75 g held i_3 H10))
 else
 ∃J:Bool->zV->Prop,(
 if held=true then(
 J true H10)
 else
 zw i_3 8/\
 ∃z:ByteArray,hat H10 ((f.add 9).add (Int.toNat i_3*1))=some (.string z)/\
 J (z.toList==d.toList) H10)/\ ∀(j:Bool) (H11:zV),J j H11->
 ∃(ac:Bool->zv) (m100:Bool->Int->zV->Nat),ac true 0 H11/\ ∀(l:Bool) (k:Int) (H12:zV),ac l k H12->
 if k<i_3 then(
 if l=true then(
 zw k 8/\
 ∃o:ByteArray,hat H12 ((f.add 9).add (Int.toNat k*1))=some (.string o)/\
 zw i_3 8/\
 ∃q:ByteArray,hat H12 ((f.add 9).add (Int.toNat i_3*1))=some (.string q)/\
 (ac (!(o.toList==q.toList)) (zY (k+1)) H12/\m100 (!(o.toList==q.toList)) (zY (k+1)) H12<m100 l k H12))
 else
 (ac false (zY (k+1)) H12/\m100 false (zY (k+1)) H12<m100 l k H12))
 else
 if l=true then(
 (ak (zY (g+1)) j (zY (i_3+1)) H12/\m75 (zY (g+1)) j (zY (i_3+1)) H12<m75 g held i_3 H10))
 else
 (ak g j (zY (i_3+1)) H12/\m75 g j (zY (i_3+1)) H12<m75 g held i_3 H10))
 else
 ∃aa:zW,hat H10 f=some (.pointer aa)/\
 eS.C aa d H10 (λa2 aq=> ∃(ra:Int) (rb:Bool),a2=.tuple #[.int .u64 ra,.bool rb]/\
 ∃al:zW,hat aq f=some (.pointer al)/\
 ∃am:Addr,al=some am/\
 ∃(xB:zW) (xN xC:Nat),hat aq (am.add 1)=some (.slice xB xN xC)/\
 if(xN:Int)=g then(
 if rb=held then(
 bM.C (some f) aq (λa3 ax=> ∃r:Bool,a3=.bool r/\
 if r=true then(
 bN.C ax (λa0 a6=> ∃af:Bool,a0=.bool af/\
 R (.bool af) a6))
 else
 R (.bool false) ax))
 else
 R (.bool false) aq)
 else
 R (.bool false) aq))
 else
 bN.C H9 (λa1 az=> ∃ae:Bool,a1=.bool ae/\
 R (.bool ae) az)))))
namespace bT
theorem link{lB:zW}{lN lC:Nat}{d:ByteArray}{H:zV}{R:zk}(h:pt lB lN lC d H R):C lB lN lC d H R:=by
 refine T_en K0 137 Tryz.func4 ?_
 intro w0 Q hQ
 unfold pt zY at h
 refine T_su [(0,vs lB lN lC),(1,.string d)]<| ar 0<| T_ed 1 [] []<| T_sz<| ar 1<| T_nd 1 [] [(16,vs lB lN lC)]<| T_c (some 17) h ?_;clear h
 rintro v H1 ⟨x,rfl,h⟩
 refine T_pd [16] [(17,.bool x)]<| T_nd 1 [17] [(18,.bool x)] ?_
 refine eQ [(0,vs lB lN lC),(1,.string d),(22,.bool (x || (decide ((d.size:Int)>500))))] ?_ ?_
 ·refine aC ?_
  by_cases c3:(x || (decide ((d.size:Int)>500)))=true
  ·rw[if_pos c3]at h
   refine aF 22 c3<| ar 2<| T_nu []<| T_c (some 23) h ?_;clear h
   rintro a7 H2 ⟨ao,rfl,h⟩
   refine⟨[(23,.bool ao)],pk,?_⟩
   exact T_nr 1 [4] [.bool ao] hQ h
  rw[if_neg c3]at h
  refine aE 22 (zZ c3)<| T_kt<| ar 3<| T_nu [(0,vs lB lN lC),(1,.string d)]<| T_c (some 24) h ?_;clear h
  rintro a4 H3 ⟨ah,rfl,h⟩
  refine T_pd [] [(24,vp ah)]<| T_ed 1 [24] [(5,vp ah)]<| T_sz<| ar 4<| T_nd 1 [] [(25,vp ah)] ?_
  rcases ah with _ | f
  ·rw[onPtr_none]at h
   exact T_ed 1 [5,25] [(5,vp none),(26,.bool true)]<| T_tz 26<| ar 5<| T_nr 1 [4] [.bool false] hQ h
  rw[onPtr_some]at h
  refine T_ed 1 [5,25] [(5,vp (some f)),(26,.bool false)]<| T_fz 26<| T_kt<| T_sz<| ar 6<| T_ed 1 [26] [(6,vi 0)]<| T_bz 0 ?_
  obtain⟨av,m27,i5,i6⟩:=h
  refine bO (x:=K26) (σ:=Int) (λs_=> [(0,vs lB lN lC),(1,.string d),(5,vp (some f)),(6,vi s_)]) (λs_ H=>av s_ H) (λs_ H=>m27 s_ H) (0:Int) (by kernel_rfl) i5 sk ?_
  rintro i H4 i7
  have h:=i6 i H4 i7
  refine T_su [(0,vs lB lN lC),(1,.string d),(5,vp (some f)),(6,vi i)]<| T_sz<| ar 7<| T_ed 4 [] [(30,.bool (decide (i< (lN:Int))))] ?_
  by_cases c8:i< (lN:Int)
  ·rw[if_pos c8]at h
   refine aF 30 (zX c8)<| T_kt<| T_sz<| T_bz 1<| ar 9<| T_nd 3 [30] [(33,vp (some f)),(34,vs lB lN lC),(35,vi i)] ?_
   obtain⟨p,rfl,q10,h⟩:=h
   refine T_xd (some 36) 22 29 4 p lN lC .i64 i Tryz.underlying22 q10.1 q10.2 [0,34,35] [(0,vs (some p) lN lC),(36,vp (some (p.add (Int.toNat i*4))))] ?_
   obtain⟨u,au,ag,s,q11,h⟩:=h
   refine T_lr 37 29 q11 [36]<| T_c (some 38) h ?_;clear h
   rintro ay H5 ⟨y,rfl,h⟩
   refine T_pd [33,37] [(38,.bool y)]<| T_ed 1 [38] [(39,.bool (!y))] ?_
   by_cases c12:y=true
   ·rw[if_pos c12]at h
    exact aE 39 (congrArg Bool.not (c12))<| T_k<| aB<| aC<| T_rz 8<| T_ed 3 [6,39] [(6,vi (zY (i+1)))]<| aK ((zY (i+1)):Int) sk h
   rw[if_neg c12]at h
   exact aF 39 (congrArg Bool.not (zZ c12))<| ar 10<| T_nr 1 [4] [.bool false] hQ h
  rw[if_neg c8]at h
  refine aE 30 (zQ c8)<| zj 0<| aA<| aA<| aH<| aC<| ar 11<| T_ed 1 [0,6,30] [(7,vs none 0 0)]<| T_sz<| ar 12<| T_ed 1 [] [(8,vi 0)]<| T_bz 2 ?_
  obtain⟨aw,m50,i14,i15⟩:=h
  refine bO (x:=K49) (σ:=zW×Nat×Nat×Int) (λs_=> [(1,.string d),(5,vp (some f)),(7,vs s_.1 s_.2.1 s_.2.2.1),(8,vi s_.2.2.2)]) (λs_ H=>aw s_.1 s_.2.1 s_.2.2.1 s_.2.2.2 H) (λs_ H=>m50 s_.1 s_.2.1 s_.2.2.1 s_.2.2.2 H) ((none,0,0,0):zW×Nat×Nat×Int) (by kernel_rfl) i14 sk ?_
  rintro⟨m,rootsN,rootsC,i_2⟩ H6 i16
  have h:=i15 m rootsN rootsC i_2 H6 i16
  refine T_su [(1,.string d),(5,vp (some f)),(7,vs m rootsN rootsC),(8,vi i_2)]<| T_sz<| ar 13<| T_ed 2 [] [(41,.bool (decide (i_2<8)))] ?_
  by_cases c17:i_2<8
  ·rw[if_pos c17]at h
   refine aF 41 (zX c17)<| T_kt<| T_sz<| T_bz 3<| T_rz 15<| T_nd 5 [7,41] [(44,vs m rootsN rootsC),(46,vi i_2),(48,vp (some (f.add 1)))] ?_
   obtain⟨q19,h⟩:=h
   refine T_v1 49 (aR 35 (vp (some (f.add 1))) (vi i_2)) (vp (some ((f.add 1).add (Int.toNat i_2*1)))) (λw _=>aN (P:=Tryz.prog) (t:=35) (elem:=33) (sz:=1) (n:=8) (a:=(f.add 1)) (k:=.i64) (i:=i_2) Tryz.underlying35 (λ_=>by kernel_rfl) q19.1 q19.2 w) [46,48]<| T_nw (some 50) (λb=>vs (pa b) 1 1) (.cells #[vp (some ((f.add 1).add (Int.toNat i_2*1)))] 31) ?_
   intro b H7 e20 e21
   replace h:=h b H7 e20 e21
   refine T_pd [49] [(50,vs (pa b) 1 1)]<| N_op (some 51) (dJ #[30,30] 30 #[vs m rootsN rootsC,vs (pa b) 1 1]) _ (λ_=>by kernel_rfl) (di (T:=31) (sz:=1) (bytes:=8) (zero:=(vp none:Value)) Tryz.underlying30 Tryz.underlying30 rfl (show Tryz.prog.info? 31=some Tryz.t31 from by kernel_rfl) (by kernel_rfl) (by kernel_rfl) (by decide) (by kernel_rfl) (by first | exact h | (simpa only[Value.cells,List.toList_toArray]using h))) ?_;clear h
   rintro _ H8 ⟨ap,aj,rfl,h⟩
   exact T_pd [44,50] [(51,vs ap (rootsN+1) aj)]<| T_nd 1 [51] [(7,vs ap (rootsN+1) aj)]<| zq<| aB<| aC<| T_rz 14<| T_ed 3 [8] [(8,vi (zY (i_2+1)))]<| aK ((ap,(rootsN+1),aj,(zY (i_2+1))):zW×Nat×Nat×Int) sk h
  rw[if_neg c17]at h
  refine aE 41 (zQ c17)<| zj 2<| aA<| aA<| aH<| aC<| T_sz<| ar 16<| T_nd 3 [8,41] [(54,vp (some f))] ?_
  obtain⟨an,q22,h⟩:=h
  refine T_l1 55 34 q22 [54]<| T_nd 1 [7] [(56,vs m rootsN rootsC)]<| T_c (some 57) h ?_;clear h
  rintro a5 H9 ⟨ai,rfl,h⟩
  refine T_pd [55,56] [(57,vi ai)]<| T_ed 1 [57] [(58,.bool (ai !=0))] ?_
  by_cases c23:ai=0
  ·rw[if_pos c23]at h
   refine aE 58 (bne_eq_false_iff_eq.mpr c23)<| T_kt<| ar 18<| T_ed 1 [58] [(9,vi 0)]<| ar 19<| T_ed 1 [] [(10,.bool false)]<| T_sz<| ar 20<| T_ed 1 [] [(11,vi 0)]<| T_bz 4 ?_
   obtain⟨ak,m75,i25,i26⟩:=h
   refine bO (x:=K74) (σ:=Int×Bool×Int) (λs_=> [(1,.string d),(5,vp (some f)),(9,vi s_.1),(10,.bool s_.2.1),(11,vi s_.2.2)]) (λs_ H=>ak s_.1 s_.2.1 s_.2.2 H) (λs_ H=>m75 s_.1 s_.2.1 s_.2.2 H) ((0,false,0):Int×Bool×Int) (by kernel_rfl) i25 sk ?_
   rintro⟨g,held,i_3⟩ H10 i27
   have h:=i26 g held i_3 H10 i27
   refine T_su [(1,.string d),(5,vp (some f)),(9,vi g),(10,.bool held),(11,vi i_3)]<| T_sz<| ar 21<| T_ed 2 [] [(61,.bool (decide (i_3<8)))] ?_
   by_cases c28:i_3<8
   ·rw[if_pos c28]at h
    refine aF 61 (zX c28)<| T_kt<| T_sz<| T_bz 5<| T_sz<| ar 23<| T_nd 4 [61] [(65,vi i_3),(67,vp (some (f.add 9)))] ?_
    obtain⟨q30,h⟩:=h
    refine T_v1 68 (aR 36 (vp (some (f.add 9))) (vi i_3)) (vp (some ((f.add 9).add (Int.toNat i_3*1)))) (λw _=>aN (P:=Tryz.prog) (t:=36) (elem:=9) (sz:=1) (n:=8) (a:=(f.add 9)) (k:=.i64) (i:=i_3) Tryz.underlying36 (λ_=>by kernel_rfl) q30.1 q30.2 w) [65,67] ?_
    obtain⟨ab,q31,h⟩:=h
    refine T_l1 69 9 q31 [68]<| T_ne 1 [(1,.string d),(5,vp (some f)),(9,vi g),(10,.bool held),(11,vi i_3),(70,.bool (ab.toList==(ByteArray.mk #[]).toList))] ?_
    by_cases c32:ab.toList=(ByteArray.mk #[]).toList
    ·rw[if_pos c32]at h
     exact aF 70 (zK c32)<| zj 5<| aA<| aH<| aC<| T_rz 22<| T_ed 3 [11,70] [(11,vi (zY (i_3+1)))]<| aK ((g,held,(zY (i_3+1))):Int×Bool×Int) sk h
    rw[if_neg c32]at h
    refine aE 70 (zJ c32)<| T_kt<| T_sz ?_
    obtain⟨J,h,j35⟩:=h
    refine kB (σ:=Bool) (λs_=> [(1,.string d),(5,vp (some f)),(9,vi g),(10,.bool s_),(11,vi i_3)]) (λs_ H=>J s_ H) ?_ ?_
    ·rintro j H11 j36
     replace h:=j35 j H11 j36
     refine T_su [(1,.string d),(5,vp (some f)),(9,vi g),(10,.bool j),(11,vi i_3)]<| aC<| ar 25<| T_ed 1 [] [(12,.bool true)]<| T_sz<| ar 26<| T_ed 1 [] [(13,vi 0)]<| T_bz 6 ?_
     obtain⟨ac,m100,i37,i38⟩:=h
     refine bO (x:=K99) (σ:=Bool×Int) (λs_=> [(1,.string d),(5,vp (some f)),(9,vi g),(10,.bool j),(11,vi i_3),(12,.bool s_.1),(13,vi s_.2)]) (λs_ H=>ac s_.1 s_.2 H) (λs_ H=>m100 s_.1 s_.2 H) ((true,0):Bool×Int) (by kernel_rfl) i37 sk ?_
     rintro⟨l,k⟩ H12 i39
     have h:=i38 l k H12 i39
     refine T_su [(1,.string d),(5,vp (some f)),(9,vi g),(10,.bool j),(11,vi i_3),(12,.bool l),(13,vi k)]<| T_sz<| ar 27<| T_ed 3 [] [(84,.bool (decide (k<i_3)))] ?_
     by_cases c40:k<i_3
     ·rw[if_pos c40]at h
      refine aF 84 (zX c40)<| T_kt<| T_sz<| T_bz 7<| jm 29<| T_q1 87 (.bool l) [12,84]<| T_q1 88 (.bool l) [87] ?_
      by_cases c42:l=true
      ·rw[if_pos c42]at h
       refine Q_bd 88 c42<| T_q1 89 (vp (some f)) []<| T_q1 90 (vi k) []<| T_q1 91 (vp (some f)) [89]<| T_q1 92 (vp (some (f.add 9))) [91] ?_
       obtain⟨q44,h⟩:=h
       refine Q_op (some 93) (aR 36 (vp (some (f.add 9))) (vi k)) (vp (some ((f.add 9).add (Int.toNat k*1)))) (λ_=>by kernel_rfl) (λw _=>aN (P:=Tryz.prog) (t:=36) (elem:=9) (sz:=1) (n:=8) (a:=(f.add 9)) (k:=.i64) (i:=k) Tryz.underlying36 (λ_=>by kernel_rfl) q44.1 q44.2 w) [(1,.string d),(5,vp (some f)),(9,vi g),(10,.bool j),(11,vi i_3),(13,vi k),(88,.bool true),(93,vp (some ((f.add 9).add (Int.toNat k*1))))] pk ?_
       obtain⟨o,q45,h⟩:=h
       refine T_ql (some 94) 9 q45 [(1,.string d),(5,vp (some f)),(9,vi g),(10,.bool j),(11,vi i_3),(13,vi k),(88,.bool true),(94,.string o)]<| T_q1 95 (vp (some f)) []<| T_q1 96 (vi i_3) []<| T_q1 97 (vp (some f)) [95]<| T_q1 98 (vp (some (f.add 9))) [97] ?_
       obtain⟨q46,h⟩:=h
       refine Q_op (some 99) (aR 36 (vp (some (f.add 9))) (vi i_3)) (vp (some ((f.add 9).add (Int.toNat i_3*1)))) (λ_=>by kernel_rfl) (λw _=>aN (P:=Tryz.prog) (t:=36) (elem:=9) (sz:=1) (n:=8) (a:=(f.add 9)) (k:=.i64) (i:=i_3) Tryz.underlying36 (λ_=>by kernel_rfl) q46.1 q46.2 w) [(1,.string d),(5,vp (some f)),(9,vi g),(10,.bool j),(11,vi i_3),(13,vi k),(88,.bool true),(94,.string o),(99,vp (some ((f.add 9).add (Int.toNat i_3*1))))] pk ?_
       obtain⟨q,q47,h⟩:=h
       exact T_ql (some 100) 9 q47 [(1,.string d),(5,vp (some f)),(9,vi g),(10,.bool j),(11,vi i_3),(13,vi k),(88,.bool true),(94,.string o),(100,.string q)]<| T_q1 101 (.bool (!(o.toList==q.toList))) [94,100]<| T_q1 102 (.bool (!(o.toList==q.toList))) [88,101]<| T_q1 12 (.bool (!(o.toList==q.toList))) [102]<| eV [(1,.string d),(5,vp (some f)),(9,vi g),(10,.bool j),(11,vi i_3),(12,.bool (!(o.toList==q.toList))),(13,vi k)] sk<| qr (by kernel_rfl)<| aB<| aC<| T_rz 28<| T_ne 3 [(1,.string d),(5,vp (some f)),(9,vi g),(10,.bool j),(11,vi i_3),(12,.bool (!(o.toList==q.toList))),(13,vi (zY (k+1)))]<| aK (((!(o.toList==q.toList)),(zY (k+1))):Bool×Int) sk h
      rw[if_neg c42]at h
      refine Q_bd 88 (zZ c42)<| T_q1 89 (undef) []<| T_q1 90 (undef) []<| T_q1 91 (undef) [89]<| T_q1 92 (undef) [91]<| T_q1 93 (undef) [90,92]<| T_q1 94 (undef) [93]<| T_q1 95 (undef) []<| T_q1 96 (undef) [] ?_
      exact T_q1 97 (undef) [95]<| T_q1 98 (undef) [97]<| T_q1 99 (undef) [96,98]<| T_q1 100 (undef) [99]<| T_q1 101 (undef) [94,100]<| T_q1 102 (.bool false) [88,101]<| T_q1 12 (.bool false) [102]<| eV [(1,.string d),(5,vp (some f)),(9,vi g),(10,.bool j),(11,vi i_3),(12,.bool false),(13,vi k)] sk<| qr (by kernel_rfl)<| aB<| aC<| T_rz 28<| T_ne 3 [(1,.string d),(5,vp (some f)),(9,vi g),(10,.bool j),(11,vi i_3),(12,.bool false),(13,vi (zY (k+1)))]<| aK ((false,(zY (k+1))):Bool×Int) sk h
     rw[if_neg c40]at h
     refine aE 84 (zQ c40)<| zj 6<| aA<| aA<| aH<| aC<| ar 30<| T_ed 1 [12,13,84] [(103,.bool l)] ?_
     by_cases c48:l=true
     ·rw[if_pos c48]at h
      exact aF 103 c48<| T_rz 31<| T_nd 3 [9,103] [(9,vi (zY (g+1)))]<| zq<| aB<| aC<| T_rz 22<| T_ed 3 [11] [(11,vi (zY (i_3+1)))]<| aK (((zY (g+1)),j,(zY (i_3+1))):Int×Bool×Int) sk h
     rw[if_neg c48]at h
     exact aE 103 (zZ c48)<| T_k<| aB<| aC<| T_rz 22<| T_ed 3 [11,103] [(11,vi (zY (i_3+1)))]<| aK ((g,j,(zY (i_3+1))):Int×Bool×Int) sk h
    refine T_rz 24<| T_n 2 [(1,.string d),(5,vp (some f)),(9,vi g),(11,vi i_3),(72,.bool held)] ?_
    by_cases c50:held=true
    ·rw[if_pos c50]at h
     have b51:held=true:=c50
     refine bJ [(1,.string d),(5,vp (some f)),(9,vi g),(11,vi i_3),(72,.bool true)] (by rw[b51]) ?_
     clear b51
     exact T_ed 10 [72] [(10,.bool true)]<| fW (true:Bool) sk h
    rw[if_neg c50]at h
    have b51:held=false:=zZ c50
    refine bJ [(1,.string d),(5,vp (some f)),(9,vi g),(11,vi i_3),(72,.bool false)] (by rw[b51]) ?_
    clear b51
    refine T_nd 4 [] [(74,vi i_3),(76,vp (some (f.add 9)))] ?_
    obtain⟨q52,h⟩:=h
    refine T_v1 77 (aR 36 (vp (some (f.add 9))) (vi i_3)) (vp (some ((f.add 9).add (Int.toNat i_3*1)))) (λw _=>aN (P:=Tryz.prog) (t:=36) (elem:=9) (sz:=1) (n:=8) (a:=(f.add 9)) (k:=.i64) (i:=i_3) Tryz.underlying36 (λ_=>by kernel_rfl) q52.1 q52.2 w) [74,76] ?_
    obtain⟨z,q53,h⟩:=h
    exact T_l1 78 9 q53 [77]<| T_ed 4 [72,78] [(10,.bool (z.toList==d.toList))]<| fW ((z.toList==d.toList):Bool) sk h
   rw[if_neg c28]at h
   refine aE 61 (zQ c28)<| zj 4<| aA<| aA<| aH<| aC<| ar 32<| T_nd 3 [11,61] [(109,vp (some f))] ?_
   obtain⟨aa,q54,h⟩:=h
   refine T_l1 110 34 q54 [109]<| T_nd 1 [1] [(111,.string d)]<| T_c (some 112) h ?_;clear h
   rintro a2 aq ⟨ra,rb,rfl,h⟩
   refine T_pd [110,111] [(112,.tuple #[vu ra,.bool rb])]<| T_ed 5 [112] [(15,.bool rb)]<| ar 33<| T_nd 3 [] [(117,vp (some f))] ?_
   obtain⟨al,q55,h⟩:=h
   refine T_l1 118 34 q55 [117] ?_
   obtain⟨am,rfl,h⟩:=h
   refine T_nd 2 [118] [(120,vp (some (am.add 1)))] ?_
   obtain⟨xB,xN,xC,q56,h⟩:=h
   refine T_l1 121 45 q56 [120]<| T_nd 4 [9,121] [(125,.bool ((xN:Int)==g))] ?_
   by_cases c57:(xN:Int)=g
   ·rw[if_pos c57]at h
    refine N_bd 125 (zK c57)<| T_nd 5 [10,15,125] [(130,.bool (rb==held))] ?_
    by_cases c59:rb=held
    ·rw[if_pos c59]at h
     refine N_bd 130 (zK c59)<| T_nd 1 [5] [(131,vp (some f))] ?_
     refine T_c (some 132) h ?_;clear h
     rintro a3 ax ⟨r,rfl,h⟩
     refine T_pd [131] [(132,.bool r)]<| T_n 2 [(134,.bool r)] ?_
     by_cases c61:r=true
     ·rw[if_pos c61]at h
      have b62:r=true:=c61
      refine bJ [(134,.bool true)] (by rw[b62]) ?_
      clear b62
      refine T_c (some 135) h ?_;clear h
      rintro a0 a6 ⟨af,rfl,h⟩
      exact T_pd [] [(135,.bool af)]<| T_nr 2 [4] [.bool af] hQ h
     rw[if_neg c61]at h
     have b62:r=false:=zZ c61
     refine bJ [(134,.bool false)] (by rw[b62]) ?_
     clear b62
     exact T_nr 3 [4] [.bool false] hQ h
    rw[if_neg c59]at h
    exact N_bd 130 (zJ c59)<| T_nr 7 [4] [.bool false] hQ h
   rw[if_neg c57]at h
   exact N_bd 125 (zJ c57)<| T_nr 12 [4] [.bool false] hQ h
  rw[if_neg c23]at h
  refine aF 58 (bne_iff_ne.mpr c23)<| ar 17<| T_nu []<| T_c (some 59) h ?_;clear h
  rintro a1 az ⟨ae,rfl,h⟩
  refine⟨[(59,.bool ae)],pk,?_⟩
  exact T_nr 1 [4] [.bool ae] hQ h
 intro hk
 refine T_nu [(0,vs lB lN lC),(1,.string d),(18,.bool x)] ?_
 by_cases c1:x=true
 ·have b2:x=true:=c1
  refine bJ [(0,vs lB lN lC),(1,.string d),(18,.bool true)] (by rw[b2]) ?_
  refine T_nd 4 [18] [(22,.bool true)]<| zq<| S_bd 22 (b:=true) (v:=(x || (decide ((d.size:Int)>500)))) (by simp only[b2,BL]) ?_
  exact hk
 have b2:x=false:=zZ c1
 refine bJ [(0,vs lB lN lC),(1,.string d),(18,.bool false)] (by rw[b2]) ?_
 refine T_nd 4 [18] [(22,.bool (decide ((d.size:Int)>500)))]<| zq<| S_bd 22 (b:=(decide ((d.size:Int)>500))) (v:=(x || (decide ((d.size:Int)>500)))) (by simp only[b2,BL]) ?_
 exact hk
end bT

