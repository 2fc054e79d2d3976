/- Printed: what each function asks, and that it is sound. -/
import Derived.Test.YtmlhlkbpglcccaaGreatFnsC
set_option linter.unusedSimpArgs false
set_option linter.unusedVariables false
set_option maxRecDepth 100000
set_option maxHeartbeats 1000000
noncomputable section
namespace Go.Proofs.YtmlhlkbpglcccaaGreat
open Go
/-! (*moraine/space.Space).Alloc -/
namespace bR
def K0:=Func.code Tryz.f49
end bR
def bR.pt(s:zW)(d b nv:Int)(H:zV)(R:zj):Prop:=
 cD.C s H (λv H1=> ∃x:Bool,v=.bool x/\
 if x=true then(
 R (.tuple #[.int .i64 0,.int .i64 1]) H1)
 else
 fh.C d b nv H1 (λac H2=> ∃m:Bool,ac=.bool m/\
 if m=true then(
 bU.C s d b H2 (λz H3=> ∃(ra:Int) (rb:Bool),z=.tuple #[.int .i64 ra,.bool rb]/\
 ∃J:zV->Prop,(
 if rb=true then(
 ∃g:Addr,s=some g/\
 ∃q:zW,hat H3 g=some (.pointer q)/\
 dM.C q ra nv H3 (λy H8=> ∃j l:Int,y=.tuple #[.int .i64 j,.int .i64 l]/\
 if l=0 then(
 R (.tuple #[.int .i64 j,.int .i64 0]) H8)
 else
 J H8))
 else
 J H3)/\ ∀(H4:zV),J H4->
 ∃sA:Addr,s=some sA/\
 ∃r:zW,hat H4 sA=some (.pointer r)/\
 dZ.C r d b H4 (λaa H5=> ∃e f:Int,aa=.tuple #[.int .i64 e,.int .i64 f]/\
 if f=0 then(
 zv d 5/\
 zv b 4/\
 (aK H5 (((sA.add 1).add (Int.toNat d*4)).add (Int.toNat b*1)) 0 1)/\ ∀H6,H6=aS H5 (((sA.add 1).add (Int.toNat d*4)).add (Int.toNat b*1)) [.int .i64 (zY (e+1))] 0->
 ∃u:zW,hat H6 sA=some (.pointer u)/\
 dM.C u e nv H6 (λab H7=> ∃o p:Int,ab=.tuple #[.int .i64 o,.int .i64 p]/\
 R (.tuple #[.int .i64 o,.int .i64 p]) H7))
 else
 R (.tuple #[.int .i64 0,.int .i64 f]) H5)))
 else
 R (.tuple #[.int .i64 0,.int .i64 1]) H2))
namespace bR
theorem link{s:zW}{d b nv:Int}{H:zV}{R:zj}(h:pt s d b nv H R):C s d b nv H R:=by
 refine T_en K0 77 Tryz.func49 ?_
 intro w0 Q hQ
 unfold pt zY at h
 refine T_su [(0,vp s),(1,vi d),(2,vi b),(3,vi nv)]<| ar 0<| T_ed 2 [] []<| T_sz<| ar 1<| T_nd 1 [] [(16,vp s)]<| T_c (some 17) h ?_;clear h
 rintro v H1 ⟨x,rfl,h⟩
 refine T_pd [16] [(17,.bool x)]<| T_nd 1 [17] [(18,.bool x)] ?_
 by_cases c1:x=true
 ·rw[if_pos c1]at h
  exact N_bd 18 c1<| T_ed 6 [18] [(24,.bool true)]<| T_tz 24<| ar 2<| T_nr 2 [8,9] [vi 0,vi 1] hQ h
 rw[if_neg c1]at h
 refine N_bd 18 (zZ c1)<| T_nd 3 [] [(19,vi d),(20,vi b),(21,vi nv)] ?_
 refine T_c (some 22) h ?_;clear h
 rintro ac H2 ⟨m,rfl,h⟩
 refine T_pd [19,20,21] [(22,.bool m)]<| T_ed 2 [18,22] [(24,.bool (!m))] ?_
 by_cases c3:m=true
 ·rw[if_pos c3]at h
  refine aJ 24 (congrArg Bool.not (c3))<| T_kt<| T_sz<| ar 3<| T_nd 3 [24] [(26,vp s),(27,vi d),(28,vi b)]<| T_c (some 29) h ?_;clear h
  rintro z H3 ⟨ra,rb,rfl,h⟩
  refine T_pd [26,27,28] [(29,.tuple #[vi ra,.bool rb])]<| T_ed 5 [29] [(10,vi ra),(11,.bool rb)]<| ar 4<| T_ne 1 [(0,vp s),(1,vi d),(2,vi b),(3,vi nv),(10,vi ra),(32,.bool rb)] ?_
  obtain⟨J,h,j6⟩:=h
  refine oK (σ:=Unit) (λs_=> [(0,vp s),(1,vi d),(2,vi b),(3,vi nv)]) (λs_ H=>J H) ?_ ?_
  ·rintro _ H4 j7
   replace h:=j6 H4 j7
   refine T_su [(0,vp s),(1,vi d),(2,vi b),(3,vi nv)]<| aE<| ar 8<| T_nd 1 [] [(47,vp s)] ?_
   obtain⟨sA,rfl,h⟩:=h
   refine T_nd 2 [0,47] [(0,vp (some sA)),(49,vp (some sA))] ?_
   obtain⟨r,q8,h⟩:=h
   refine T_l1 50 82 q8 [49]<| T_nd 2 [] [(51,vi d),(52,vi b)]<| T_c (some 53) h ?_;clear h
   rintro aa H5 ⟨e,f,rfl,h⟩
   refine T_pd [50,51,52] [(53,.tuple #[vi e,vi f])]<| T_ed 5 [53] [(14,vi e),(15,vi f)]<| T_sz<| ar 9<| T_ed 2 [] [(57,.bool (f !=0))] ?_
   by_cases c9:f=0
   ·rw[if_pos c9]at h
    refine aJ 57 (bne_eq_false_iff_eq.mpr c9)<| T_kt<| ar 11<| T_nd 7 [1,2,15,57] [(60,vi d),(61,vi b),(63,vi (zY (e+1))),(65,vp (some (sA.add 1)))] ?_
    obtain⟨q11,h⟩:=h
    refine T_v1 66 (aX 84 (vp (some (sA.add 1))) (vi d)) (vp (some ((sA.add 1).add (Int.toNat d*4)))) (λw _=>bJ (P:=Tryz.prog) (t:=84) (elem:=83) (sz:=4) (n:=5) (a:=(sA.add 1)) (k:=.i64) (i:=d) Tryz.underlying84 (λ_=>by kernel_rfl) q11.1 q11.2 w) [60,65] ?_
    obtain⟨q12,h⟩:=h
    refine T_v1 67 (aX 83 (vp (some ((sA.add 1).add (Int.toNat d*4)))) (vi b)) (vp (some (((sA.add 1).add (Int.toNat d*4)).add (Int.toNat b*1)))) (λw _=>bJ (P:=Tryz.prog) (t:=83) (elem:=3) (sz:=1) (n:=4) (a:=((sA.add 1).add (Int.toNat d*4))) (k:=.i64) (i:=b) Tryz.underlying83 (λ_=>by kernel_rfl) q12.1 q12.2 w) [61,66] ?_
    obtain⟨q14,h⟩:=h
    refine fE 3 (vi (zY (e+1))) q14 ?_
    intro H6 e13
    replace h:=h H6 e13
    refine T_pd [63,67] []<| T_e<| ar 12<| T_nd 3 [0] [(70,vp (some sA))] ?_
    obtain⟨u,q15,h⟩:=h
    refine T_l1 71 82 q15 [70]<| T_nd 2 [3,14] [(72,vi e),(73,vi nv)]<| T_c (some 74) h ?_;clear h
    rintro ab H7 ⟨o,p,rfl,h⟩
    refine⟨[(74,.tuple #[vi o,vi p])],pk,?_⟩
    exact T_nr 4 [8,9] [vi o,vi p] hQ h
   rw[if_neg c9]at h
   exact aI 57 (bne_iff_ne.mpr c9)<| ar 10<| T_nr 3 [8,9] [vi 0,vi f] hQ h
  by_cases c16:rb=true
  ·rw[if_pos c16]at h
   have b17:rb=true:=c16
   refine eD [(0,vp s),(1,vi d),(2,vi b),(3,vi nv),(10,vi ra),(32,.bool true)] (by simp only[b17,Bool.not_true,Bool.not_false]) ?_
   clear b17
   refine T_tz 32<| ar 5<| T_nd 1 [32] [(34,vp s)] ?_
   obtain⟨g,rfl,h⟩:=h
   refine T_nd 2 [0,34] [(0,vp (some g)),(36,vp (some g))] ?_
   obtain⟨q,q18,h⟩:=h
   refine T_l1 37 82 q18 [36]<| T_nd 2 [10] [(38,vi ra),(39,vi nv)]<| T_c (some 40) h ?_;clear h
   rintro y H8 ⟨j,l,rfl,h⟩
   refine T_pd [37,38,39] [(40,.tuple #[vi j,vi l])]<| T_ed 5 [40] [(12,vi j),(13,vi l)]<| ar 6<| T_ed 2 [13] [(44,.bool (l==0))] ?_
   by_cases c19:l=0
   ·rw[if_pos c19]at h
    exact aI 44 (zK c19)<| ar 7<| T_nr 3 [8,9] [vi j,vi 0] hQ h
   rw[if_neg c19]at h
   exact aJ 44 (zJ c19)<| T_kt<| ns (():Unit) sk h
  rw[if_neg c16]at h
  have b17:rb=false:=zZ c16
  refine eD [(0,vp s),(1,vi d),(2,vi b),(3,vi nv),(10,vi ra),(32,.bool false)] (by simp only[b17,Bool.not_true,Bool.not_false]) ?_
  clear b17
  exact T_fz 32<| T_kt<| ns (():Unit) sk h
 rw[if_neg c3]at h
 exact aI 24 (congrArg Bool.not (zZ c3))<| ar 2<| T_nr 2 [8,9] [vi 0,vi 1] hQ h
end bR

/-! (*moraine/space.Space).none -/
namespace cD
def K0:=Func.code Tryz.f64
end cD
def cD.pt(s:zW)(H:zV)(R:zj):Prop:=
 ei s (
 R (.bool true) H) (λsA=>
 ∃x:zW,hat H sA=some (.pointer x)/\
 ei x (
 R (.bool true) H) (λxA=>
 R (.bool false) H))
namespace cD
theorem link{s:zW}{H:zV}{R:zj}(h:pt s H R):C s H R:=by
 refine T_en K0 12 Tryz.func64 ?_
 intro w0 Q hQ
 unfold pt at h
 refine T_su [(0,vp s)]<| ar 0<| T_ed 1 [] []<| ar 1<| T_nd 1 [] [(3,vp s)] ?_
 rcases s with _ | sA
 ·rw[onPtr_none]at h
  exact T_nr 9 [2] [.bool true] hQ h
 rw[onPtr_some]at h
 refine T_n 5 [(5,.bool false),(8,vp (some sA))] ?_
 obtain⟨x,q1,h⟩:=h
 refine T_l1 9 82 q1 [8] ?_
 rcases x with _ | xA
 ·rw[onPtr_none]at h
  exact T_nr 3 [2] [.bool true] hQ h
 rw[onPtr_some]at h
 exact T_nr 3 [2] [.bool false] hQ h
end cD

/-! moraine/space.New -/
namespace fg
def K0:=Func.code Tryz.f73
end fg
def fg.pt(a:Int)(H:zV)(R:zj):Prop:=
 fX.C a H (λv H1=> ∃(ra:zW) (rb:Int),v=.tuple #[.pointer ra,.int .i64 rb]/\
 if rb=0 then(
 ∀(b:Nat) (H2:zV),b=H1.size->H2=H1.push (.cells #[.pointer ra,.int .i64 0,.int .i64 0,.int .i64 0,.int .i64 0,.int .i64 0,.int .i64 0,.int .i64 0,.int .i64 0,.int .i64 0,.int .i64 0,.int .i64 0,.int .i64 0,.int .i64 0,.int .i64 0,.int .i64 0,.int .i64 0,.int .i64 0,.int .i64 0,.int .i64 0,.int .i64 0] 86)->
 R (.tuple #[.pointer (some (ad b)),.int .i64 0]) H2)
 else
 R (.tuple #[.pointer none,.int .i64 rb]) H1)
namespace fg
theorem link{a:Int}{H:zV}{R:zj}(h:pt a H R):C a H R:=by
 refine T_en K0 17 Tryz.func73 ?_
 intro w0 Q hQ
 unfold pt at h
 refine T_su [(0,vi a)]<| ar 0<| T_ed 2 [] []<| ar 1<| T_n 1 [(7,vi a)]<| T_c (some 8) h ?_;clear h
 rintro v H1 ⟨ra,rb,rfl,h⟩
 refine⟨[(8,.tuple #[vp ra,vi rb])],pk,?_⟩
 refine T_ne 5 [(4,vp ra),(5,vi rb)]<| T_sz<| ar 2<| T_ed 2 [] [(12,.bool (rb !=0))] ?_
 by_cases c1:rb=0
 ·rw[if_pos c1]at h
  refine aJ 12 (bne_eq_false_iff_eq.mpr c1)<| T_kt<| ar 4<| T_n 2 [(15,.agg #[vp ra,vi 0,vi 0,vi 0,vi 0,vi 0,vi 0,vi 0,vi 0,vi 0,vi 0,vi 0,vi 0,vi 0,vi 0,vi 0,vi 0,vi 0,vi 0,vi 0,vi 0])]<| T_nw (some 16) (λb=>vp (pa b)) (.cells #[vp ra,vi 0,vi 0,vi 0,vi 0,vi 0,vi 0,vi 0,vi 0,vi 0,vi 0,vi 0,vi 0,vi 0,vi 0,vi 0,vi 0,vi 0,vi 0,vi 0,vi 0] 86) ?_
  intro b H2 e3 e4
  replace h:=h b H2 e3 e4
  refine⟨[(16,vp (pa b))],pk,?_⟩
  exact T_nr 2 [2,3] [vp (pa b),vi 0] hQ h
 rw[if_neg c1]at h
 exact aI 12 (bne_iff_ne.mpr c1)<| ar 3<| T_nr 3 [2,3] [vp none,vi rb] hQ h
end fg

/-! moraine/space.may -/
namespace fh
def K0:=Func.code Tryz.f85
end fh
def fh.pt(b a nv:Int)(H:zV)(R:zj):Prop:=
 if((decide (b<0)) || (decide (b>4)))=true then(
 R (.bool false) H)
 else
 if((a==0) || (a==1))=true then(
 R (.bool (nv==2)) H)
 else
 R (.bool ((((a==2) || (a==3)) && (decide (nv>=1))) && (decide (nv<=63)))) H
namespace fh
theorem link{b a nv:Int}{H:zV}{R:zj}(h:pt b a nv H R):C b a nv H R:=by
 refine T_en K0 37 Tryz.func85 ?_
 intro w0 Q hQ
 unfold pt at h
 refine T_su [(0,vi b),(1,vi a),(2,vi nv)]<| ar 0<| T_ed 1 [] []<| T_sz<| T_bz 0<| ar 1 ?_
 refine fm [(1,vi a),(2,vi nv),(7,.bool ((decide (b<0)) || (decide (b>4))))] ?_ ?_
 ·refine aE ?_
  by_cases c3:((decide (b<0)) || (decide (b>4)))=true
  ·rw[if_pos c3]at h
   exact aI 7 c3<| ar 2<| T_nr 1 [6] [.bool false] hQ h
  rw[if_neg c3]at h
  refine aJ 7 (zZ c3)<| ar 3 ?_
  refine fm [(1,vi a),(2,vi nv),(14,.bool ((a==0) || (a==1)))] ?_ ?_
  ·refine aE ?_
   by_cases c7:((a==0) || (a==1))=true
   ·rw[if_pos c7]at h
    exact aI 14 c7<| ar 4<| T_nr 3 [6] [.bool (nv==2)] hQ h
   rw[if_neg c7]at h
   refine aJ 14 (zZ c7)<| T_k<| aD<| aE<| ar 5 ?_
   refine fm [(6,.bool ((((a==2) || (a==3)) && (decide (nv>=1))) && (decide (nv<=63))))] ?_ ?_
   ·exact aE<| eW [6] [.bool ((((a==2) || (a==3)) && (decide (nv>=1))) && (decide (nv<=63)))] hQ h
   intro hk
   refine T_n 3 [(1,vi a),(2,vi nv),(25,.bool (a==2))] ?_
   by_cases c9:a=2
   ·have b10:(a==2)=true:=zK c9
    refine cO [(1,vi a),(2,vi nv),(25,.bool true)] (by rw[b10]) ?_
    refine T_nd 8 [1,25] [(33,.bool (decide (nv>=1)))] ?_
    by_cases c11:nv>=1
    ·have b12:(decide (nv>=1))=true:=zX c11
     refine N_bd 33 b12<| T_n 4 [(6,.bool (decide (nv<=63)))] ?_
     refine zq<| eD [(6,.bool ((((a==2) || (a==3)) && (decide (nv>=1))) && (decide (nv<=63))))] (by simp only[b10,b12,BL]) ?_
     exact hk
    have b12:(decide (nv>=1))=false:=zQ c11
    refine N_bd 33 b12<| T_n 4 [(6,.bool false)] ?_
    refine zq<| eD [(6,.bool ((((a==2) || (a==3)) && (decide (nv>=1))) && (decide (nv<=63))))] (by simp only[b10,b12,BL]) ?_
    exact hk
   have b10:(a==2)=false:=zJ c9
   refine cO [(1,vi a),(2,vi nv),(25,.bool false)] (by rw[b10]) ?_
   refine T_nd 4 [1,25] [(29,.bool (a==3))] ?_
   by_cases c13:a=3
   ·have b14:(a==3)=true:=zK c13
    refine N_bd 29 b14<| T_nd 4 [29] [(33,.bool (decide (nv>=1)))] ?_
    by_cases c15:nv>=1
    ·have b16:(decide (nv>=1))=true:=zX c15
     refine N_bd 33 b16<| T_n 4 [(6,.bool (decide (nv<=63)))] ?_
     refine zq<| eD [(6,.bool ((((a==2) || (a==3)) && (decide (nv>=1))) && (decide (nv<=63))))] (by simp only[b10,b14,b16,BL]) ?_
     exact hk
    have b16:(decide (nv>=1))=false:=zQ c15
    refine N_bd 33 b16<| T_n 4 [(6,.bool false)] ?_
    refine zq<| eD [(6,.bool ((((a==2) || (a==3)) && (decide (nv>=1))) && (decide (nv<=63))))] (by simp only[b10,b14,b16,BL]) ?_
    exact hk
   have b14:(a==3)=false:=zJ c13
   refine N_bd 29 b14<| T_n 8 [(6,.bool false)] ?_
   refine zq<| eD [(6,.bool ((((a==2) || (a==3)) && (decide (nv>=1))) && (decide (nv<=63))))] (by simp only[b10,b14,BL]) ?_
   exact hk
  intro hk
  refine T_n 3 [(1,vi a),(2,vi nv),(17,.bool (a==0))] ?_
  by_cases c5:a=0
  ·have b6:(a==0)=true:=zK c5
   refine cO [(1,vi a),(2,vi nv),(17,.bool true)] (by rw[b6]) ?_
   refine T_nd 4 [17] [(14,.bool true)]<| zq<| S_bd 14 (b:=true) (v:=((a==0) || (a==1))) (by simp only[b6,BL]) ?_
   exact hk
  have b6:(a==0)=false:=zJ c5
  refine cO [(1,vi a),(2,vi nv),(17,.bool false)] (by rw[b6]) ?_
  refine T_nd 4 [17] [(14,.bool (a==1))]<| zq<| S_bd 14 (b:=(a==1)) (v:=((a==0) || (a==1))) (by simp only[b6,BL]) ?_
  exact hk
 intro hk
 refine T_n 3 [(0,vi b),(1,vi a),(2,vi nv),(10,.bool (decide (b<0)))] ?_
 by_cases c1:b<0
 ·have b2:(decide (b<0))=true:=zX c1
  refine cO [(0,vi b),(1,vi a),(2,vi nv),(10,.bool true)] (by rw[b2]) ?_
  refine T_nd 4 [0,10] [(7,.bool true)]<| zq<| S_bd 7 (b:=true) (v:=((decide (b<0)) || (decide (b>4)))) (by simp only[b2,BL]) ?_
  exact hk
 have b2:(decide (b<0))=false:=zQ c1
 refine cO [(0,vi b),(1,vi a),(2,vi nv),(10,.bool false)] (by rw[b2]) ?_
 refine T_nd 4 [0,10] [(7,.bool (decide (b>4)))]<| zq<| S_bd 7 (b:=(decide (b>4))) (v:=((decide (b<0)) || (decide (b>4)))) (by simp only[b2,BL]) ?_
 exact hk
end fh

/-! (*moraine/space.Space).Current -/
namespace bU
def K0:=Func.code Tryz.f86
end bU
def bU.pt(s:zW)(d b:Int)(H:zV)(R:zj):Prop:=
 ei s (
 R (.tuple #[.int .i64 0,.bool false]) H) (λsA=>
 if d<0 then(
 R (.tuple #[.int .i64 0,.bool false]) H)
 else
 if d>4 then(
 R (.tuple #[.int .i64 0,.bool false]) H)
 else
 if b<0 then(
 R (.tuple #[.int .i64 0,.bool false]) H)
 else
 if b>3 then(
 R (.tuple #[.int .i64 0,.bool false]) H)
 else
 zv d 5/\
 zv b 4/\
 ∃x:Int,hat H (((sA.add 1).add (Int.toNat d*4)).add (Int.toNat b*1))=some (.int .i64 x)/\
 if x=0 then(
 R (.tuple #[.int .i64 0,.bool false]) H)
 else
 zv d 5/\
 zv b 4/\
 ∃e:Int,hat H (((sA.add 1).add (Int.toNat d*4)).add (Int.toNat b*1))=some (.int .i64 e)/\
 R (.tuple #[.int .i64 (zY (e-1)),.bool true]) H)
namespace bU
theorem link{s:zW}{d b:Int}{H:zV}{R:zj}(h:pt s d b H R):C s d b H R:=by
 refine T_en K0 46 Tryz.func86 ?_
 intro w0 Q hQ
 unfold pt zY at h
 refine T_su [(0,vp s),(1,vi d),(2,vi b)]<| ar 0<| T_ed 2 [] []<| T_sz<| ar 1<| T_nd 1 [] [(8,vp s)] ?_
 rcases s with _ | sA
 ·rw[onPtr_none]at h
  exact T_ed 28 [0,8] [(0,vp none),(36,.bool true)]<| T_tz 36<| ar 2<| T_nr 2 [6,7] [vi 0,.bool false] hQ h
 rw[onPtr_some]at h
 refine T_nd 6 [0,8] [(0,vp (some sA)),(14,.bool (decide (d<0)))] ?_
 by_cases c1:d<0
 ·rw[if_pos c1]at h
  exact N_bd 14 (zX c1)<| T_ed 22 [14] [(36,.bool true)]<| T_tz 36<| ar 2<| T_nr 2 [6,7] [vi 0,.bool false] hQ h
 rw[if_neg c1]at h
 refine N_bd 14 (zQ c1)<| T_nd 4 [14] [(18,.bool (decide (d>4)))] ?_
 by_cases c3:d>4
 ·rw[if_pos c3]at h
  exact N_bd 18 (zX c3)<| T_ed 18 [18] [(36,.bool true)]<| T_tz 36<| ar 2<| T_nr 2 [6,7] [vi 0,.bool false] hQ h
 rw[if_neg c3]at h
 refine N_bd 18 (zQ c3)<| T_nd 4 [18] [(22,.bool (decide (b<0)))] ?_
 by_cases c5:b<0
 ·rw[if_pos c5]at h
  exact N_bd 22 (zX c5)<| T_ed 14 [22] [(36,.bool true)]<| T_tz 36<| ar 2<| T_nr 2 [6,7] [vi 0,.bool false] hQ h
 rw[if_neg c5]at h
 refine N_bd 22 (zQ c5)<| T_nd 4 [22] [(26,.bool (decide (b>3)))] ?_
 by_cases c7:b>3
 ·rw[if_pos c7]at h
  exact N_bd 26 (zX c7)<| T_ed 10 [26] [(36,.bool true)]<| T_tz 36<| ar 2<| T_nr 2 [6,7] [vi 0,.bool false] hQ h
 rw[if_neg c7]at h
 refine N_bd 26 (zQ c7)<| T_nd 5 [] [(28,vi d),(29,vi b),(31,vp (some (sA.add 1)))] ?_
 obtain⟨q9,h⟩:=h
 refine T_v1 32 (aX 84 (vp (some (sA.add 1))) (vi d)) (vp (some ((sA.add 1).add (Int.toNat d*4)))) (λw _=>bJ (P:=Tryz.prog) (t:=84) (elem:=83) (sz:=4) (n:=5) (a:=(sA.add 1)) (k:=.i64) (i:=d) Tryz.underlying84 (λ_=>by kernel_rfl) q9.1 q9.2 w) [28,31] ?_
 obtain⟨q10,h⟩:=h
 refine T_v1 33 (aX 83 (vp (some ((sA.add 1).add (Int.toNat d*4)))) (vi b)) (vp (some (((sA.add 1).add (Int.toNat d*4)).add (Int.toNat b*1)))) (λw _=>bJ (P:=Tryz.prog) (t:=83) (elem:=3) (sz:=1) (n:=4) (a:=((sA.add 1).add (Int.toNat d*4))) (k:=.i64) (i:=b) Tryz.underlying83 (λ_=>by kernel_rfl) q10.1 q10.2 w) [29,32] ?_
 obtain⟨x,q11,h⟩:=h
 refine T_l1 34 3 q11 [33]<| T_ed 2 [26,34] [(36,.bool (x==0))] ?_
 by_cases c12:x=0
 ·rw[if_pos c12]at h
  exact aI 36 (zK c12)<| ar 2<| T_nr 2 [6,7] [vi 0,.bool false] hQ h
 rw[if_neg c12]at h
 refine aJ 36 (zJ c12)<| T_kt<| ar 3<| T_n 5 [(38,vi d),(39,vi b),(41,vp (some (sA.add 1)))] ?_
 obtain⟨q14,h⟩:=h
 refine T_v1 42 (aX 84 (vp (some (sA.add 1))) (vi d)) (vp (some ((sA.add 1).add (Int.toNat d*4)))) (λw _=>bJ (P:=Tryz.prog) (t:=84) (elem:=83) (sz:=4) (n:=5) (a:=(sA.add 1)) (k:=.i64) (i:=d) Tryz.underlying84 (λ_=>by kernel_rfl) q14.1 q14.2 w) [38,41] ?_
 obtain⟨q15,h⟩:=h
 refine T_v1 43 (aX 83 (vp (some ((sA.add 1).add (Int.toNat d*4)))) (vi b)) (vp (some (((sA.add 1).add (Int.toNat d*4)).add (Int.toNat b*1)))) (λw _=>bJ (P:=Tryz.prog) (t:=83) (elem:=3) (sz:=1) (n:=4) (a:=((sA.add 1).add (Int.toNat d*4))) (k:=.i64) (i:=b) Tryz.underlying83 (λ_=>by kernel_rfl) q15.1 q15.2 w) [39,42] ?_
 obtain⟨e,q16,h⟩:=h
 exact T_l1 44 3 q16 [43]<| T_nr 3 [6,7] [vi (zY (e-1)),.bool true] hQ h
end bU

