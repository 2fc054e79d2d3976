/- Printed: what each function asks, and that it is sound. -/
import Derived.Test.YtihdffpekpnglaaGreatFnsC
set_option linter.unusedSimpArgs false
set_option linter.unusedVariables false
set_option maxRecDepth 100000
set_option maxHeartbeats 1000000
noncomputable section
namespace Go.Proofs.YtihdffpekpnglaaGreat
open Go
/-! moraine/word.At -/
namespace ju
def K0:=Func.code Tryz.f75
end ju
def ju.pt(b a:Int)(H:zW)(R:zv):Prop:=
 ij.C b H (λv H1=> ∃x:Bool,v=.bool x/\
 if x=true then(
 if((decide (a<0)) || (decide (a>=65536)))=true then(
 R (.tuple #[.int .u64 0,.int .i64 18]) H1)
 else
 R (.tuple #[.int .u64 (ior .u64 (ishl .u64 (IntKind.wrap .u64 a) 3) (IntKind.wrap .u64 b)),.int .i64 0]) H1)
 else
 R (.tuple #[.int .u64 0,.int .i64 1]) H1)
namespace ju
theorem link{b a:Int}{H:zW}{R:zv}(h:pt b a H R):C b a H R:=by
 refine T_en K0 23 Tryz.func75 ?_
 intro w0 Q hQ
 unfold pt at h
 refine T_su [(0,vi b),(1,vi a)]<| ar 0<| T_ed 2 [] []<| T_sz<| T_bz 0<| ar 1<| T_nd 1 [] [(7,vi b)]<| T_c (some 8) h ?_;clear h
 rintro v H1 ⟨x,rfl,h⟩
 refine T_pd [7] [(8,.bool x)]<| T_ed 2 [8] [(6,.bool (!x))] ?_
 by_cases c1:x=true
 ·rw[if_pos c1]at h
  refine aI 6 (congrArg Bool.not (c1))<| ar 3 ?_
  refine gp [(0,vi b),(1,vi a),(10,.bool ((decide (a<0)) || (decide (a>=65536))))] ?_ ?_
  ·refine aE ?_
   by_cases c5:((decide (a<0)) || (decide (a>=65536)))=true
   ·rw[if_pos c5]at h
    exact aH 10 c5<| ar 4<| T_nr 2 [4,5] [vu 0,vi 18] hQ h
   rw[if_neg c5]at h
   exact aI 10 (zZ c5)<| T_k<| aL<| aE<| ar 5<| T_nr 8 [4,5] [vu (ior .u64 (ishl .u64 (IntKind.wrap .u64 a) 3) (IntKind.wrap .u64 b)),vi 0] hQ h
  intro hk
  refine T_n 3 [(0,vi b),(1,vi a),(13,.bool (decide (a<0)))] ?_
  by_cases c3:a<0
  ·have b4:(decide (a<0))=true:=zQ c3
   refine bV [(0,vi b),(1,vi a),(13,.bool true)] (by rw[b4]) ?_
   refine T_nd 4 [13] [(10,.bool true)]<| zx<| S_bd 10 (b:=true) (v:=((decide (a<0)) || (decide (a>=65536)))) (by simp only[b4,BL]) ?_
   exact hk
  have b4:(decide (a<0))=false:=zJ c3
  refine bV [(0,vi b),(1,vi a),(13,.bool false)] (by rw[b4]) ?_
  refine T_nd 4 [13] [(10,.bool (decide (a>=65536)))]<| zx<| S_bd 10 (b:=(decide (a>=65536))) (v:=((decide (a<0)) || (decide (a>=65536)))) (by simp only[b4,BL]) ?_
  exact hk
 rw[if_neg c1]at h
 exact aH 6 (congrArg Bool.not (zZ c1))<| ar 2<| T_nr 2 [4,5] [vu 0,vi 1] hQ h
end ju

/-! moraine/word.Header -/
namespace gY
def K0:=Func.code Tryz.f77
end gY
def gY.pt(a nv b:Int)(H:zW)(R:zv):Prop:=
 if(((((decide (a<1)) || (decide (a>13))) || (decide (nv<0))) || (decide (nv>62))) || (decide (b>=281474976710656)))=true then(
 R (.tuple #[.int .u64 0,.int .i64 1]) H)
 else
 R (.tuple #[.int .u64 (ior .u64 (ior .u64 (ior .u64 (ishl .u64 b 16) (ishl .u64 (IntKind.wrap .u64 nv) 8)) (ishl .u64 (IntKind.wrap .u64 a) 3)) 5),.int .i64 0]) H
namespace gY
theorem link{a nv b:Int}{H:zW}{R:zv}(h:pt a nv b H R):C a nv b H R:=by
 refine T_en K0 37 Tryz.func77 ?_
 intro w0 Q hQ
 unfold pt at h
 refine T_su [(0,vi a),(1,vi nv),(2,vu b)]<| ar 0<| T_ed 2 [] []<| T_sz<| ar 1 ?_
 refine gp [(0,vi a),(1,vi nv),(2,vu b),(25,.bool (((((decide (a<1)) || (decide (a>13))) || (decide (nv<0))) || (decide (nv>62))) || (decide (b>=281474976710656))))] ?_ ?_
 ·refine aE ?_
  by_cases c9:(((((decide (a<1)) || (decide (a>13))) || (decide (nv<0))) || (decide (nv>62))) || (decide (b>=281474976710656)))=true
  ·rw[if_pos c9]at h
   exact aH 25 c9<| ar 2<| T_nr 2 [6,7] [vu 0,vi 1] hQ h
  rw[if_neg c9]at h
  exact aI 25 (zZ c9)<| T_kt<| ar 3<| T_nr 13 [6,7] [vu (ior .u64 (ior .u64 (ior .u64 (ishl .u64 b 16) (ishl .u64 (IntKind.wrap .u64 nv) 8)) (ishl .u64 (IntKind.wrap .u64 a) 3)) 5),vi 0] hQ h
 intro hk
 refine T_n 3 [(0,vi a),(1,vi nv),(2,vu b),(10,.bool (decide (a<1)))] ?_
 by_cases c1:a<1
 ·have b2:(decide (a<1))=true:=zQ c1
  refine bV [(0,vi a),(1,vi nv),(2,vu b),(10,.bool true)] (by rw[b2]) ?_
  refine T_nd 15 [10] [(25,.bool true)]<| zx<| S_bd 25 (b:=true) (v:=(((((decide (a<1)) || (decide (a>13))) || (decide (nv<0))) || (decide (nv>62))) || (decide (b>=281474976710656)))) (by simp only[b2,BL]) ?_
  exact hk
 have b2:(decide (a<1))=false:=zJ c1
 refine bV [(0,vi a),(1,vi nv),(2,vu b),(10,.bool false)] (by rw[b2]) ?_
 refine T_nd 4 [10] [(14,.bool (decide (a>13)))] ?_
 by_cases c3:a>13
 ·have b4:(decide (a>13))=true:=zQ c3
  refine N_bd 14 b4<| T_nd 11 [14] [(25,.bool true)] ?_
  refine zx<| S_bd 25 (b:=true) (v:=(((((decide (a<1)) || (decide (a>13))) || (decide (nv<0))) || (decide (nv>62))) || (decide (b>=281474976710656)))) (by simp only[b2,b4,BL]) ?_
  exact hk
 have b4:(decide (a>13))=false:=zJ c3
 refine N_bd 14 b4<| T_nd 4 [14] [(18,.bool (decide (nv<0)))] ?_
 by_cases c5:nv<0
 ·have b6:(decide (nv<0))=true:=zQ c5
  refine N_bd 18 b6<| T_nd 7 [18] [(25,.bool true)] ?_
  refine zx<| S_bd 25 (b:=true) (v:=(((((decide (a<1)) || (decide (a>13))) || (decide (nv<0))) || (decide (nv>62))) || (decide (b>=281474976710656)))) (by simp only[b2,b4,b6,BL]) ?_
  exact hk
 have b6:(decide (nv<0))=false:=zJ c5
 refine N_bd 18 b6<| T_nd 4 [18] [(22,.bool (decide (nv>62)))] ?_
 by_cases c7:nv>62
 ·have b8:(decide (nv>62))=true:=zQ c7
  refine N_bd 22 b8<| T_nd 3 [22] [(25,.bool true)] ?_
  refine zx<| S_bd 25 (b:=true) (v:=(((((decide (a<1)) || (decide (a>13))) || (decide (nv<0))) || (decide (nv>62))) || (decide (b>=281474976710656)))) (by simp only[b2,b4,b6,b8,BL]) ?_
  exact hk
 have b8:(decide (nv>62))=false:=zJ c7
 refine N_bd 22 b8<| T_nd 3 [22] [(25,.bool (decide (b>=281474976710656)))] ?_
 refine zx<| S_bd 25 (b:=(decide (b>=281474976710656))) (v:=(((((decide (a<1)) || (decide (a>13))) || (decide (nv<0))) || (decide (nv>62))) || (decide (b>=281474976710656)))) (by simp only[b2,b4,b6,b8,BL]) ?_
 exact hk
end gY

/-! moraine/word.Fix -/
namespace ja
def K0:=Func.code Tryz.f83
end ja
def ja.pt(x:Int)(H:zW)(R:zv):Prop:=
 if((decide (x< (-1152921504606846976))) || (decide (x>=1152921504606846976)))=true then(
 R (.tuple #[.int .u64 0,.int .i64 4]) H)
 else
 R (.tuple #[.int .u64 (IntKind.wrap .u64 (ishl .i64 x 3)),.int .i64 0]) H
namespace ja
theorem link{x:Int}{H:zW}{R:zv}(h:pt x H R):C x H R:=by
 refine T_en K0 13 Tryz.func83 ?_
 intro w0 Q hQ
 unfold pt at h
 refine T_su [(0,vi x)]<| ar 0<| T_ed 2 [] []<| T_sz<| ar 1 ?_
 refine gp [(0,vi x),(9,.bool ((decide (x< (-1152921504606846976))) || (decide (x>=1152921504606846976))))] ?_ ?_
 ·refine aE ?_
  by_cases c3:((decide (x< (-1152921504606846976))) || (decide (x>=1152921504606846976)))=true
  ·rw[if_pos c3]at h
   exact aH 9 c3<| ar 2<| T_nr 2 [2,3] [vu 0,vi 4] hQ h
  rw[if_neg c3]at h
  exact aI 9 (zZ c3)<| T_kt<| ar 3<| T_nr 5 [2,3] [vu (IntKind.wrap .u64 (ishl .i64 x 3)),vi 0] hQ h
 intro hk
 refine T_n 3 [(0,vi x),(6,.bool (decide (x< (-1152921504606846976))))] ?_
 by_cases c1:x< (-1152921504606846976)
 ·have b2:(decide (x< (-1152921504606846976)))=true:=zQ c1
  refine bV [(0,vi x),(6,.bool true)] (by rw[b2]) ?_
  refine T_nd 3 [6] [(9,.bool true)]<| zx<| S_bd 9 (b:=true) (v:=((decide (x< (-1152921504606846976))) || (decide (x>=1152921504606846976)))) (by simp only[b2,BL]) ?_
  exact hk
 have b2:(decide (x< (-1152921504606846976)))=false:=zJ c1
 refine bV [(0,vi x),(6,.bool false)] (by rw[b2]) ?_
 refine T_nd 3 [6] [(9,.bool (decide (x>=1152921504606846976)))]<| zx<| S_bd 9 (b:=(decide (x>=1152921504606846976))) (v:=((decide (x< (-1152921504606846976))) || (decide (x>=1152921504606846976)))) (by simp only[b2,BL]) ?_
 exact hk
end ja

/-! moraine/word.Int -/
namespace jb
def K0:=Func.code Tryz.f98
end jb
def jb.pt(wv:Int)(H:zW)(R:zv):Prop:=
 hN.C wv H (λv H1=> ∃x:Int,v=.int .i64 x/\
 if x=0 then(
 R (.tuple #[.int .i64 (ishr .i64 (zq wv) 3),.bool true]) H1)
 else
 R (.tuple #[.int .i64 0,.bool false]) H1)
namespace jb
theorem link{wv:Int}{H:zW}{R:zv}(h:pt wv H R):C wv H R:=by
 refine T_en K0 10 Tryz.func98 ?_
 intro w0 Q hQ
 unfold pt zq at h
 refine T_su [(0,vu wv)]<| ar 0<| T_ed 2 [] []<| T_sz<| ar 1<| T_nd 1 [] [(4,vu wv)]<| T_c (some 5) h ?_;clear h
 rintro v H1 ⟨x,rfl,h⟩
 refine T_pd [4] [(5,vi x)]<| T_ed 1 [5] [(6,.bool (x !=0))] ?_
 by_cases c1:x=0
 ·rw[if_pos c1]at h
  exact aI 6 (bne_eq_false_iff_eq.mpr c1)<| T_kt<| ar 3<| T_nr 5 [2,3] [vi (ishr .i64 (zq wv) 3),.bool true] hQ h
 rw[if_neg c1]at h
 exact aH 6 (bne_iff_ne.mpr c1)<| ar 2<| T_nr 2 [2,3] [vi 0,.bool false] hQ h
end jb

/-! moraine/word.Head -/
namespace iF
def K0:=Func.code Tryz.f103
end iF
def iF.pt(wv:Int)(H:zW)(R:zv):Prop:=
 hN.C wv H (λv H1=> ∃x:Int,v=.int .i64 x/\
 if x=5 then(
 iP.C wv H1 (λb H2=> ∃a:Bool,b=.bool a/\
 if a=true then(
 hY.C wv H2 (λd H3=> ∃ra rb rc:Int,d=.tuple #[.int .i64 ra,.int .i64 rb,.int .u64 rc]/\
 R (.tuple #[.int .i64 ra,.int .i64 rb,.int .u64 rc,.bool true]) H3))
 else
 R (.tuple #[.int .i64 0,.int .i64 0,.int .u64 0,.bool false]) H2))
 else
 R (.tuple #[.int .i64 0,.int .i64 0,.int .u64 0,.bool false]) H1)
namespace iF
theorem link{wv:Int}{H:zW}{R:zv}(h:pt wv H R):C wv H R:=by
 refine T_en K0 23 Tryz.func103 ?_
 intro w0 Q hQ
 unfold pt at h
 refine T_su [(0,vu wv)]<| ar 0<| T_ed 4 [] []<| T_sz<| ar 1<| T_nd 1 [] [(6,vu wv)]<| T_c (some 7) h ?_;clear h
 rintro v H1 ⟨x,rfl,h⟩
 refine T_pd [6] [(7,vi x)]<| T_nd 2 [7] [(9,.bool (x !=5))] ?_
 by_cases c1:x=5
 ·rw[if_pos c1]at h
  refine N_bd 9 (bne_eq_false_iff_eq.mpr c1)<| T_nd 1 [] [(10,vu wv)] ?_
  refine T_c (some 11) h ?_;clear h
  rintro b H2 ⟨a,rfl,h⟩
  refine T_pd [10] [(11,.bool a)]<| T_ed 2 [9,11] [(13,.bool (!a))] ?_
  by_cases c3:a=true
  ·rw[if_pos c3]at h
   refine aI 13 (congrArg Bool.not (c3))<| T_kt<| ar 3<| T_n 1 [(15,vu wv)]<| T_c (some 16) h ?_;clear h
   rintro d H3 ⟨ra,rb,rc,rfl,h⟩
   refine⟨[(16,.tuple #[vi ra,vi rb,vu rc])],pk,?_⟩
   exact T_ne 7 [(2,vi ra),(3,vi rb),(4,vu rc)]<| ar 4<| T_nr 7 [2,3,4,5] [vi ra,vi rb,vu rc,.bool true] hQ h
  rw[if_neg c3]at h
  exact aH 13 (congrArg Bool.not (zZ c3))<| ar 2<| T_nr 4 [2,3,4,5] [vi 0,vi 0,vu 0,.bool false] hQ h
 rw[if_neg c1]at h
 exact N_bd 9 (bne_iff_ne.mpr c1)<| T_ed 4 [9] [(13,.bool true)]<| T_tz 13<| ar 2<| T_nr 4 [2,3,4,5] [vi 0,vi 0,vu 0,.bool false] hQ h
end iF

/-! moraine/word.place -/
namespace ij
def K0:=Func.code Tryz.f119
end ij
def ij.pt(a:Int)(H:zW)(R:zv):Prop:=
 R (.bool (((decide (a>=1)) && (decide (a<=3))) || (a==6))) H
namespace ij
theorem link{a:Int}{H:zW}{R:zv}(h:pt a H R):C a H R:=by
 refine T_en K0 13 Tryz.func119 ?_
 intro w0 Q hQ
 unfold pt at h
 refine T_su [(0,vi a)]<| ar 0<| T_ed 1 [] []<| ar 1 ?_
 refine gp [(2,.bool (((decide (a>=1)) && (decide (a<=3))) || (a==6)))] ?_ ?_
 ·exact aE<| ie [2] [.bool (((decide (a>=1)) && (decide (a<=3))) || (a==6))] hQ h
 intro hk
 refine T_n 3 [(0,vi a),(5,.bool (decide (a>=1)))] ?_
 by_cases c1:a>=1
 ·have b2:(decide (a>=1))=true:=zQ c1
  refine bV [(0,vi a),(5,.bool true)] (by rw[b2]) ?_
  refine T_nd 4 [5] [(9,.bool (decide (a<=3)))] ?_
  by_cases c3:a<=3
  ·have b4:(decide (a<=3))=true:=zQ c3
   refine N_bd 9 b4<| T_n 4 [(2,.bool true)] ?_
   refine zx<| eT [(2,.bool (((decide (a>=1)) && (decide (a<=3))) || (a==6)))] (by simp only[b2,b4,BL]) ?_
   exact hk
  have b4:(decide (a<=3))=false:=zJ c3
  refine N_bd 9 b4<| T_n 4 [(2,.bool (a==6))] ?_
  refine zx<| eT [(2,.bool (((decide (a>=1)) && (decide (a<=3))) || (a==6)))] (by simp only[b2,b4,BL]) ?_
  exact hk
 have b2:(decide (a>=1))=false:=zJ c1
 refine bV [(0,vi a),(5,.bool false)] (by rw[b2]) ?_
 refine T_n 8 [(2,.bool (a==6))]<| zx<| eT [(2,.bool (((decide (a>=1)) && (decide (a<=3))) || (a==6)))] (by simp only[b2,BL]) ?_
 exact hk
end ij

/-! moraine/word.Tag -/
namespace hN
def K0:=Func.code Tryz.f133
end hN
def hN.pt(wv:Int)(H:zW)(R:zv):Prop:=
 R (.int .i64 (zq (iand .u64 wv 7))) H
namespace hN
theorem link{wv:Int}{H:zW}{R:zv}(h:pt wv H R):C wv H R:=by
 refine T_en K0 6 Tryz.func133 ?_
 intro w0 Q hQ
 unfold pt zq at h
 exact T_su [(0,vu wv)]<| ar 0<| T_ed 1 [] []<| ar 1<| T_nr 4 [2] [vi (zq (iand .u64 wv 7))] hQ h
end hN

/-! moraine/word.Addr -/
namespace io
def K0:=Func.code Tryz.f134
end io
def io.pt(wv:Int)(H:zW)(R:zv):Prop:=
 hN.C wv H (λv H1=> ∃x:Int,v=.int .i64 x/\
 ij.C x H1 (λd H2=> ∃b:Bool,d=.bool b/\
 if b=true then(
 iP.C wv H2 (λe H3=> ∃a:Bool,e=.bool a/\
 if a=true then(
 R (.tuple #[.int .i64 (zq (ishr .u64 wv 3)),.bool true]) H3)
 else
 R (.tuple #[.int .i64 0,.bool false]) H3))
 else
 R (.tuple #[.int .i64 0,.bool false]) H2))
namespace io
theorem link{wv:Int}{H:zW}{R:zv}(h:pt wv H R):C wv H R:=by
 refine T_en K0 16 Tryz.func134 ?_
 intro w0 Q hQ
 unfold pt zq at h
 refine T_su [(0,vu wv)]<| ar 0<| T_ed 2 [] []<| T_sz<| ar 1<| T_nd 1 [] [(4,vu wv)]<| T_c (some 5) h ?_;clear h
 rintro v H1 ⟨x,rfl,h⟩
 refine T_pd [4] [(5,vi x)]<| T_c (some 6) h ?_;clear h
 rintro d H2 ⟨b,rfl,h⟩
 refine T_pd [5] [(6,.bool b)]<| T_nd 2 [6] [(8,.bool (!b))] ?_
 by_cases c1:b=true
 ·rw[if_pos c1]at h
  have b2:(!b)=false:=congrArg Bool.not (c1)
  have b22:b=true:=c1
  refine N_bd 8 (b:=(!b)) (v:=false) (by simp only[b2,b22,Bool.not_true,Bool.not_false]) ?_
  clear b2 b22
  refine T_nd 1 [] [(9,vu wv)]<| T_c (some 10) h ?_;clear h
  rintro e H3 ⟨a,rfl,h⟩
  refine T_pd [9] [(10,.bool a)]<| T_ed 2 [8,10] [(12,.bool (!a))] ?_
  by_cases c3:a=true
  ·rw[if_pos c3]at h
   exact aI 12 (congrArg Bool.not (c3))<| T_kt<| ar 3<| T_nr 5 [2,3] [vi (zq (ishr .u64 wv 3)),.bool true] hQ h
  rw[if_neg c3]at h
  exact aH 12 (congrArg Bool.not (zZ c3))<| ar 2<| T_nr 2 [2,3] [vi 0,.bool false] hQ h
 rw[if_neg c1]at h
 have b2:(!b)=true:=congrArg Bool.not (zZ c1)
 have b22:b=false:=zZ c1
 refine N_bd 8 (b:=(!b)) (v:=true) (by simp only[b2,b22,Bool.not_true,Bool.not_false]) ?_
 clear b2 b22
 exact T_ed 4 [8] [(12,.bool true)]<| T_tz 12<| ar 2<| T_nr 2 [2,3] [vi 0,.bool false] hQ h
end io

/-! moraine/word.May -/
namespace iP
def K0:=Func.code Tryz.f135
end iP
def iP.pt(wv:Int)(H:zW)(R:zv):Prop:=
 hY.C wv H (λv H1=> ∃ra rb rc:Int,v=.tuple #[.int .i64 ra,.int .i64 rb,.int .u64 rc]/\
 hN.C wv H1 (λb H2=> ∃x:Int,b=.int .i64 x/\
 if x=0 then(
 R (.bool true) H2)
 else
 if x=1 then(
 R (.bool (decide ((ishr .u64 wv 3)<65536))) H2)
 else
 if x=2 then(
 R (.bool (decide ((ishr .u64 wv 3)<65536))) H2)
 else
 if x=3 then(
 R (.bool (decide ((ishr .u64 wv 3)<65536))) H2)
 else
 if x=6 then(
 R (.bool (decide ((ishr .u64 wv 3)<65536))) H2)
 else
 if x=4 then(
 if ra=7 then(
 ig.C (ishr .u64 wv 8) H2 (λd H3=> ∃a:Bool,d=.bool a/\
 R (.bool a) H3))
 else
 R (.bool (decide ((ishr .u64 wv 3)<=6))) H2)
 else
 if x=5 then(
 R (.bool (((decide (ra>=1)) && (decide (ra<=13))) && (decide (rb<=62)))) H2)
 else
 R (.bool false) H2))
namespace iP
theorem link{wv:Int}{H:zW}{R:zv}(h:pt wv H R):C wv H R:=by
 refine T_en K0 49 Tryz.func135 ?_
 intro w0 Q hQ
 unfold pt at h
 refine T_su [(0,vu wv)]<| ar 0<| T_ed 1 [] []<| ar 1<| T_nd 1 [] [(7,vu wv)]<| T_c (some 8) h ?_;clear h
 rintro v H1 ⟨ra,rb,rc,rfl,h⟩
 refine T_pd [7] [(8,.tuple #[vi ra,vi rb,vu rc])]<| T_ed 7 [8] [(3,vi ra),(4,vi rb)]<| T_sz<| ar 2<| T_nd 1 [] [(12,vu wv)]<| T_c (some 13) h ?_;clear h
 rintro b H2 ⟨x,rfl,h⟩
 refine T_pd [12] [(13,vi x)]<| T_e<| T_bz 0<| T_sz<| T_bz 7<| T_sz<| T_bz 6<| T_sz<| T_bz 5<| T_bz 4<| T_bz 3<| T_bz 2<| T_sz<| T_bz 1<| T_sz<| T_sz<| ar 3<| T_ed 2 [] [(14,.bool (x==0))] ?_
 by_cases c1:x=0
 ·rw[if_pos c1]at h
  exact aH 14 (zV c1)<| zk 1<| aD<| aD<| aR<| aE<| T_sz<| ar 10<| T_nr 1 [2] [.bool true] hQ h
 rw[if_neg c1]at h
 refine aI 14 (zK c1)<| T_kt<| T_sz<| ar 4<| T_ed 2 [14] [(16,.bool (x==1))] ?_
 by_cases c3:x=1
 ·rw[if_pos c3]at h
  exact aH 16 (zV c3)<| zk 2<| aD<| aD<| zj<| aD<| aR<| aL<| aL<| aL<| aE<| T_sz<| ar 11<| T_nr 4 [2] [.bool (decide ((ishr .u64 wv 3)<65536))] hQ h
 rw[if_neg c3]at h
 refine aI 16 (zK c3)<| T_kt<| T_sz<| ar 5<| T_ed 2 [16] [(18,.bool (x==2))] ?_
 by_cases c5:x=2
 ·rw[if_pos c5]at h
  exact aH 18 (zV c5)<| zk 3<| aD<| aD<| zj<| aD<| zj<| aR<| aL<| aL<| aE<| T_sz<| ar 11<| T_nr 4 [2] [.bool (decide ((ishr .u64 wv 3)<65536))] hQ h
 rw[if_neg c5]at h
 refine aI 18 (zK c5)<| T_kt<| T_sz<| ar 6<| T_ed 2 [18] [(20,.bool (x==3))] ?_
 by_cases c7:x=3
 ·rw[if_pos c7]at h
  exact aH 20 (zV c7)<| zk 4<| aD<| aD<| zj<| aD<| zj<| zj<| aR<| aL<| aE<| T_sz<| ar 11<| T_nr 4 [2] [.bool (decide ((ishr .u64 wv 3)<65536))] hQ h
 rw[if_neg c7]at h
 refine aI 20 (zK c7)<| T_kt<| T_sz<| ar 7<| T_ed 2 [20] [(22,.bool (x==6))] ?_
 by_cases c9:x=6
 ·rw[if_pos c9]at h
  exact aH 22 (zV c9)<| zk 5<| aD<| aD<| zj<| aD<| zj<| zj<| zj<| aR<| aE<| T_sz<| ar 11<| T_nr 4 [2] [.bool (decide ((ishr .u64 wv 3)<65536))] hQ h
 rw[if_neg c9]at h
 refine aI 22 (zK c9)<| T_kt<| T_sz<| ar 8<| T_ed 2 [22] [(24,.bool (x==4))] ?_
 by_cases c11:x=4
 ·rw[if_pos c11]at h
  refine aH 24 (zV c11)<| zk 6<| aD<| aD<| zj<| aD<| zj<| zj<| zj<| zj<| aD<| aR<| aE<| T_sz<| T_sz<| ar 12<| T_ne 2 [(0,vu wv),(32,.bool (ra==7))] ?_
  by_cases c13:ra=7
  ·rw[if_pos c13]at h
   refine aH 32 (zV c13)<| ar 13<| T_n 2 [(34,vu (ishr .u64 wv 8))]<| T_c (some 35) h ?_;clear h
   rintro d H3 ⟨a,rfl,h⟩
   refine⟨[(35,.bool a)],pk,?_⟩
   exact T_nr 1 [2] [.bool a] hQ h
  rw[if_neg c13]at h
  exact aI 32 (zK c13)<| T_kt<| ar 14<| T_nr 4 [2] [.bool (decide ((ishr .u64 wv 3)<=6))] hQ h
 rw[if_neg c11]at h
 refine aI 24 (zK c11)<| T_kt<| ar 9<| T_ed 2 [0,13,24] [(26,.bool (x==5))] ?_
 by_cases c15:x=5
 ·rw[if_pos c15]at h
  refine aH 26 (zV c15)<| zk 7<| aD<| zj<| aD<| zj<| zj<| zj<| zj<| aD<| zj<| aD<| aR<| aE<| T_sz<| ar 15 ?_
  refine gp [(2,.bool (((decide (ra>=1)) && (decide (ra<=13))) && (decide (rb<=62))))] ?_ ?_
  ·exact aE<| ie [2] [.bool (((decide (ra>=1)) && (decide (ra<=13))) && (decide (rb<=62)))] hQ h
  intro hk
  refine T_n 3 [(3,vi ra),(4,vi rb),(41,.bool (decide (ra>=1)))] ?_
  by_cases c17:ra>=1
  ·have b18:(decide (ra>=1))=true:=zQ c17
   refine bV [(3,vi ra),(4,vi rb),(41,.bool true)] (by rw[b18]) ?_
   refine T_nd 4 [3,41] [(45,.bool (decide (ra<=13)))] ?_
   by_cases c19:ra<=13
   ·have b20:(decide (ra<=13))=true:=zQ c19
    refine N_bd 45 b20<| T_n 4 [(2,.bool (decide (rb<=62)))] ?_
    refine zx<| eT [(2,.bool (((decide (ra>=1)) && (decide (ra<=13))) && (decide (rb<=62))))] (by simp only[b18,b20,BL]) ?_
    exact hk
   have b20:(decide (ra<=13))=false:=zJ c19
   refine N_bd 45 b20<| T_n 4 [(2,.bool false)] ?_
   refine zx<| eT [(2,.bool (((decide (ra>=1)) && (decide (ra<=13))) && (decide (rb<=62))))] (by simp only[b18,b20,BL]) ?_
   exact hk
  have b18:(decide (ra>=1))=false:=zJ c17
  refine bV [(3,vi ra),(4,vi rb),(41,.bool false)] (by rw[b18]) ?_
  refine T_n 8 [(2,.bool false)]<| zx<| eT [(2,.bool (((decide (ra>=1)) && (decide (ra<=13))) && (decide (rb<=62))))] (by simp only[b18,BL]) ?_
  exact hk
 rw[if_neg c15]at h
 exact aI 26 (zK c15)<| T_kt<| zk 0<| zj<| aD<| zj<| zj<| zj<| zj<| aD<| zj<| aD<| zj<| aD<| aR<| aE<| ar 16<| T_nr 1 [2] [.bool false] hQ h
end iP

/-! moraine/word.parts -/
namespace hY
def K0:=Func.code Tryz.f136
end hY
def hY.pt(wv:Int)(H:zW)(R:zv):Prop:=
 ∀(b:Nat) (H1:zW),b=H.size->H1=H.push (.cells #[.int .u64 wv] 33)->
 gh.C 3 5 (some (ad b)) H1 (λv H2=> ∃x:Int,v=.int .u64 x/\
 gh.C 8 8 (some (ad b)) H2 (λe H3=> ∃a:Int,e=.int .u64 a/\
 gh.C 16 48 (some (ad b)) H3 (λf H4=> ∃d:Int,f=.int .u64 d/\
 R (.tuple #[.int .i64 (zq x),.int .i64 (zq a),.int .u64 d]) H4)))
namespace hY
theorem link{wv:Int}{H:zW}{R:zv}(h:pt wv H R):C wv H R:=by
 refine T_en K0 15 Tryz.func136 ?_
 intro w0 Q hQ
 unfold pt zq at h
 refine T_su [(0,vu wv)]<| ar 0<| T_nw (some 1) (λb=>vp (pa b)) (.cells #[vu wv] 33) ?_
 intro b H1 e1 e2
 replace h:=h b H1 e1 e2
 refine⟨[(1,vp (pa b))],pk,?_⟩
 refine T_ed 3 [] []<| ar 1<| T_ne 2 [(5,.func (.func 157) #[] #[vp (pa b)])]<| ar 2<| T_nd 1 [] [(7,.func (.func 157) #[] #[vp (pa b)])]<| T_c (some 8) h ?_;clear h
 rintro v H2 ⟨x,rfl,h⟩
 refine T_pd [7] [(8,vu x)]<| T_nd 2 [8] [(9,vi (zq x)),(10,.func (.func 157) #[] #[vp (pa b)])]<| T_c (some 11) h ?_;clear h
 rintro e H3 ⟨a,rfl,h⟩
 refine T_pd [10] [(11,vu a)]<| T_nd 2 [5,11] [(12,vi (zq a)),(13,.func (.func 157) #[] #[vp (pa b)])]<| T_c (some 14) h ?_;clear h
 rintro f H4 ⟨d,rfl,h⟩
 exact T_pd [13] [(14,vu d)]<| T_nr 3 [2,3,4] [vi (zq x),vi (zq a),vu d] hQ h
end hY

/-! moraine/word.letter -/
namespace ig
def K0:=Func.code Tryz.f156
end ig
def ig.pt(c:Int)(H:zW)(R:zv):Prop:=
 R (.bool ((decide (c<=1114111)) && ((decide (c<55296)) || (decide (c>57343))))) H
namespace ig
theorem link{c:Int}{H:zW}{R:zv}(h:pt c H R):C c H R:=by
 refine T_en K0 13 Tryz.func156 ?_
 intro w0 Q hQ
 unfold pt at h
 refine T_su [(0,vu c)]<| ar 0<| T_ed 1 [] []<| ar 1 ?_
 refine gp [(2,.bool ((decide (c<=1114111)) && ((decide (c<55296)) || (decide (c>57343)))))] ?_ ?_
 ·exact aE<| ie [2] [.bool ((decide (c<=1114111)) && ((decide (c<55296)) || (decide (c>57343))))] hQ h
 intro hk
 refine T_n 3 [(0,vu c),(5,.bool (decide (c<=1114111)))] ?_
 by_cases c1:c<=1114111
 ·have b2:(decide (c<=1114111))=true:=zQ c1
  refine bV [(0,vu c),(5,.bool true)] (by rw[b2]) ?_
  refine T_nd 3 [] [(8,.bool (decide (c<55296)))] ?_
  by_cases c3:c<55296
  ·have b4:(decide (c<55296))=true:=zQ c3
   refine N_bd 8 b4<| T_n 5 [(2,.bool true)] ?_
   refine zx<| eT [(2,.bool ((decide (c<=1114111)) && ((decide (c<55296)) || (decide (c>57343)))))] (by simp only[b2,b4,BL]) ?_
   exact hk
  have b4:(decide (c<55296))=false:=zJ c3
  refine N_bd 8 b4<| T_n 5 [(2,.bool (decide (c>57343)))] ?_
  refine zx<| eT [(2,.bool ((decide (c<=1114111)) && ((decide (c<55296)) || (decide (c>57343)))))] (by simp only[b2,b4,BL]) ?_
  exact hk
 have b2:(decide (c<=1114111))=false:=zJ c1
 refine bV [(0,vu c),(5,.bool false)] (by rw[b2]) ?_
 refine T_n 8 [(2,.bool false)]<| zx<| eT [(2,.bool ((decide (c<=1114111)) && ((decide (c<55296)) || (decide (c>57343)))))] (by simp only[b2,BL]) ?_
 exact hk
end ig

/-! moraine/word.parts.1 -/
namespace gh
def K0:=Func.code Tryz.f157
end gh
def gh.pt(a b:Int)(d:zY)(H:zW)(R:zv):Prop:=
 ∃e:Addr,d=some e/\
 ∃x:Int,hat H e=some (.int .u64 x)/\
 (0<=a)/\
 (0<=b)/\
 R (.int .u64 (iand .u64 (ishr .u64 x a) (IntKind.wrap .u64 ((ishl .u64 1 b)-1)))) H
namespace gh
theorem link{a b:Int}{d:zY}{H:zW}{R:zv}(h:pt a b d H R):C a b d H R:=by
 refine T_en K0 13 Tryz.func157 ?_
 intro w0 Q hQ
 unfold pt at h
 refine T_su [(0,vi a),(1,vi b),(2,vp d)]<| ar 0<| T_ed 1 [] []<| T_sz<| ll 1 ?_
 obtain⟨e,rfl,x,q1,h⟩:=h
 refine iL (some 6) 33 q1 [2] [(6,vu x)]<| T_q1 7 (vi a) [0] ?_
 obtain⟨q2,h⟩:=h
 refine Q_op (some 8) (binN .shr 32 (vu x) (vi a)) (vu (ishr .u64 x a)) (λ_=>by kernel_rfl) (λw _=>qC (P:=Tryz.prog) (t:=32) (k:=.u64) (k':=.i64) (x:=x) (y:=a) q2 w) [(1,vi b),(8,vu (ishr .u64 x a))] pk ?_
 refine T_q (some 9) (vi b) [(8,vu (ishr .u64 x a)),(9,vi b)] ?_
 obtain⟨q3,h⟩:=h
 refine Q_op (some 10) (binN .shl 32 (vu 1) (vi b)) (vu (ishl .u64 1 b)) (λ_=>by kernel_rfl) (λw _=>mp (P:=Tryz.prog) (t:=32) (k:=.u64) (k':=.i64) (x:=1) (y:=b) q3 w) [(8,vu (ishr .u64 x a)),(10,vu (ishl .u64 1 b))] pk ?_
 exact T_q (some 11) (vu (IntKind.wrap .u64 ((ishl .u64 1 b)-1))) [(8,vu (ishr .u64 x a)),(11,vu (IntKind.wrap .u64 ((ishl .u64 1 b)-1)))]<| T_q1 12 (vu (iand .u64 (ishr .u64 x a) (IntKind.wrap .u64 ((ishl .u64 1 b)-1)))) [8,11]<| T_q1 5 (vu (iand .u64 (ishr .u64 x a) (IntKind.wrap .u64 ((ishl .u64 1 b)-1)))) [12]<| jp [(5,vu (iand .u64 (ishr .u64 x a) (IntKind.wrap .u64 ((ishl .u64 1 b)-1))))] sk<| T_qe<| ie [5] [vu (iand .u64 (ishr .u64 x a) (IntKind.wrap .u64 ((ishl .u64 1 b)-1)))] hQ h
end gh

