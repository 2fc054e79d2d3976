/- Printed: what each function asks, and that it is sound. -/
import Derived.Test.YtiebboaeaoobmaaGreatFnsC
set_option linter.unusedSimpArgs false
set_option linter.unusedVariables false
set_option maxRecDepth 100000
set_option maxHeartbeats 1000000
noncomputable section
namespace Go.Proofs.YtiebboaeaoobmaaGreat
open Go
/-! moraine/word.Int -/
namespace gQ
def K0:=Func.code Tryz.f36
end gQ
def gQ.pt(wv:Int)(H:zV)(R:zk):Prop:=
 eI.C wv H (λv H1=> ∃x:Int,v=.int .i64 x/\
 if x=0 then(
 R (.tuple #[.int .i64 (ishr .i64 (zY wv) 3),.bool true]) H1)
 else
 R (.tuple #[.int .i64 0,.bool false]) H1)
namespace gQ
theorem link{wv:Int}{H:zV}{R:zk}(h:pt wv H R):C wv H R:=by
 refine T_en K0 10 Tryz.func36 ?_
 intro w0 Q hQ
 unfold pt zY at h
 refine T_su [(0,vu wv)]<| ar 0<| T_ed 2 [] []<| T_sz<| ar 1<| T_nd 1 [] [(4,vu wv)]<| T_c (some 5) h ?_;clear h
 rintro v H1 ⟨x,rfl,h⟩
 refine T_pd [4] [(5,vi x)]<| T_ed 1 [5] [(6,.bool (x !=0))] ?_
 by_cases c1:x=0
 ·rw[if_pos c1]at h
  exact aI 6 (bne_eq_false_iff_eq.mpr c1)<| T_kt<| ar 3<| T_nr 5 [2,3] [vi (ishr .i64 (zY wv) 3),.bool true] hQ h
 rw[if_neg c1]at h
 exact aH 6 (bne_iff_ne.mpr c1)<| ar 2<| T_nr 2 [2,3] [vi 0,.bool false] hQ h
end gQ

/-! moraine/word.At -/
namespace ia
def K0:=Func.code Tryz.f55
end ia
def ia.pt(b a:Int)(H:zV)(R:zk):Prop:=
 gG.C b H (λv H1=> ∃x:Bool,v=.bool x/\
 if x=true then(
 if((decide (a<0)) || (decide (a>=65536)))=true then(
 R (.tuple #[.int .u64 0,.int .i64 18]) H1)
 else
 R (.tuple #[.int .u64 (ior .u64 (ishl .u64 (IntKind.wrap .u64 a) 3) (IntKind.wrap .u64 b)),.int .i64 0]) H1)
 else
 R (.tuple #[.int .u64 0,.int .i64 1]) H1)
namespace ia
theorem link{b a:Int}{H:zV}{R:zk}(h:pt b a H R):C b a H R:=by
 refine T_en K0 23 Tryz.func55 ?_
 intro w0 Q hQ
 unfold pt at h
 refine T_su [(0,vi b),(1,vi a)]<| ar 0<| T_ed 2 [] []<| T_sz<| T_bz 0<| ar 1<| T_nd 1 [] [(7,vi b)]<| T_c (some 8) h ?_;clear h
 rintro v H1 ⟨x,rfl,h⟩
 refine T_pd [7] [(8,.bool x)]<| T_ed 2 [8] [(6,.bool (!x))] ?_
 by_cases c1:x=true
 ·rw[if_pos c1]at h
  refine aI 6 (congrArg Bool.not (c1))<| ar 3 ?_
  refine gm [(0,vi b),(1,vi a),(10,.bool ((decide (a<0)) || (decide (a>=65536))))] ?_ ?_
  ·refine aB ?_
   by_cases c5:((decide (a<0)) || (decide (a>=65536)))=true
   ·rw[if_pos c5]at h
    exact aH 10 c5<| ar 4<| T_nr 2 [4,5] [vu 0,vi 18] hQ h
   rw[if_neg c5]at h
   exact aI 10 (zZ c5)<| T_k<| aC<| aB<| ar 5<| T_nr 8 [4,5] [vu (ior .u64 (ishl .u64 (IntKind.wrap .u64 a) 3) (IntKind.wrap .u64 b)),vi 0] hQ h
  intro hk
  refine T_n 3 [(0,vi b),(1,vi a),(13,.bool (decide (a<0)))] ?_
  by_cases c3:a<0
  ·have b4:(decide (a<0))=true:=zX c3
   refine bV [(0,vi b),(1,vi a),(13,.bool true)] (by rw[b4]) ?_
   refine T_nd 4 [13] [(10,.bool true)]<| zq<| S_bd 10 (b:=true) (v:=((decide (a<0)) || (decide (a>=65536)))) (by simp only[b4,BL]) ?_
   exact hk
  have b4:(decide (a<0))=false:=zQ c3
  refine bV [(0,vi b),(1,vi a),(13,.bool false)] (by rw[b4]) ?_
  refine T_nd 4 [13] [(10,.bool (decide (a>=65536)))]<| zq<| S_bd 10 (b:=(decide (a>=65536))) (v:=((decide (a<0)) || (decide (a>=65536)))) (by simp only[b4,BL]) ?_
  exact hk
 rw[if_neg c1]at h
 exact aH 6 (congrArg Bool.not (zZ c1))<| ar 2<| T_nr 2 [4,5] [vu 0,vi 1] hQ h
end ia

/-! moraine/word.Tag -/
namespace eI
def K0:=Func.code Tryz.f63
end eI
def eI.pt(wv:Int)(H:zV)(R:zk):Prop:=
 R (.int .i64 (zY (iand .u64 wv 7))) H
namespace eI
theorem link{wv:Int}{H:zV}{R:zk}(h:pt wv H R):C wv H R:=by
 refine T_en K0 6 Tryz.func63 ?_
 intro w0 Q hQ
 unfold pt zY at h
 exact T_su [(0,vu wv)]<| ar 0<| T_ed 1 [] []<| ar 1<| T_nr 4 [2] [vi (zY (iand .u64 wv 7))] hQ h
end eI

/-! moraine/word.Fix -/
namespace iq
def K0:=Func.code Tryz.f65
end iq
def iq.pt(x:Int)(H:zV)(R:zk):Prop:=
 if((decide (x< (-1152921504606846976))) || (decide (x>=1152921504606846976)))=true then(
 R (.tuple #[.int .u64 0,.int .i64 4]) H)
 else
 R (.tuple #[.int .u64 (IntKind.wrap .u64 (ishl .i64 x 3)),.int .i64 0]) H
namespace iq
theorem link{x:Int}{H:zV}{R:zk}(h:pt x H R):C x H R:=by
 refine T_en K0 13 Tryz.func65 ?_
 intro w0 Q hQ
 unfold pt at h
 refine T_su [(0,vi x)]<| ar 0<| T_ed 2 [] []<| T_sz<| ar 1 ?_
 refine gm [(0,vi x),(9,.bool ((decide (x< (-1152921504606846976))) || (decide (x>=1152921504606846976))))] ?_ ?_
 ·refine aB ?_
  by_cases c3:((decide (x< (-1152921504606846976))) || (decide (x>=1152921504606846976)))=true
  ·rw[if_pos c3]at h
   exact aH 9 c3<| ar 2<| T_nr 2 [2,3] [vu 0,vi 4] hQ h
  rw[if_neg c3]at h
  exact aI 9 (zZ c3)<| T_kt<| ar 3<| T_nr 5 [2,3] [vu (IntKind.wrap .u64 (ishl .i64 x 3)),vi 0] hQ h
 intro hk
 refine T_n 3 [(0,vi x),(6,.bool (decide (x< (-1152921504606846976))))] ?_
 by_cases c1:x< (-1152921504606846976)
 ·have b2:(decide (x< (-1152921504606846976)))=true:=zX c1
  refine bV [(0,vi x),(6,.bool true)] (by rw[b2]) ?_
  refine T_nd 3 [6] [(9,.bool true)]<| zq<| S_bd 9 (b:=true) (v:=((decide (x< (-1152921504606846976))) || (decide (x>=1152921504606846976)))) (by simp only[b2,BL]) ?_
  exact hk
 have b2:(decide (x< (-1152921504606846976)))=false:=zQ c1
 refine bV [(0,vi x),(6,.bool false)] (by rw[b2]) ?_
 refine T_nd 3 [6] [(9,.bool (decide (x>=1152921504606846976)))]<| zq<| S_bd 9 (b:=(decide (x>=1152921504606846976))) (v:=((decide (x< (-1152921504606846976))) || (decide (x>=1152921504606846976)))) (by simp only[b2,BL]) ?_
 exact hk
end iq

/-! moraine/word.Header -/
namespace fG
def K0:=Func.code Tryz.f71
end fG
def fG.pt(a nv b:Int)(H:zV)(R:zk):Prop:=
 if(((((decide (a<1)) || (decide (a>13))) || (decide (nv<0))) || (decide (nv>62))) || (decide (b>=281474976710656)))=true then(
 R (.tuple #[.int .u64 0,.int .i64 1]) H)
 else
 R (.tuple #[.int .u64 (ior .u64 (ior .u64 (ior .u64 (ishl .u64 b 16) (ishl .u64 (IntKind.wrap .u64 nv) 8)) (ishl .u64 (IntKind.wrap .u64 a) 3)) 5),.int .i64 0]) H
namespace fG
theorem link{a nv b:Int}{H:zV}{R:zk}(h:pt a nv b H R):C a nv b H R:=by
 refine T_en K0 37 Tryz.func71 ?_
 intro w0 Q hQ
 unfold pt at h
 refine T_su [(0,vi a),(1,vi nv),(2,vu b)]<| ar 0<| T_ed 2 [] []<| T_sz<| ar 1 ?_
 refine gm [(0,vi a),(1,vi nv),(2,vu b),(25,.bool (((((decide (a<1)) || (decide (a>13))) || (decide (nv<0))) || (decide (nv>62))) || (decide (b>=281474976710656))))] ?_ ?_
 ·refine aB ?_
  by_cases c9:(((((decide (a<1)) || (decide (a>13))) || (decide (nv<0))) || (decide (nv>62))) || (decide (b>=281474976710656)))=true
  ·rw[if_pos c9]at h
   exact aH 25 c9<| ar 2<| T_nr 2 [6,7] [vu 0,vi 1] hQ h
  rw[if_neg c9]at h
  exact aI 25 (zZ c9)<| T_kt<| ar 3<| T_nr 13 [6,7] [vu (ior .u64 (ior .u64 (ior .u64 (ishl .u64 b 16) (ishl .u64 (IntKind.wrap .u64 nv) 8)) (ishl .u64 (IntKind.wrap .u64 a) 3)) 5),vi 0] hQ h
 intro hk
 refine T_n 3 [(0,vi a),(1,vi nv),(2,vu b),(10,.bool (decide (a<1)))] ?_
 by_cases c1:a<1
 ·have b2:(decide (a<1))=true:=zX c1
  refine bV [(0,vi a),(1,vi nv),(2,vu b),(10,.bool true)] (by rw[b2]) ?_
  refine T_nd 15 [10] [(25,.bool true)]<| zq<| S_bd 25 (b:=true) (v:=(((((decide (a<1)) || (decide (a>13))) || (decide (nv<0))) || (decide (nv>62))) || (decide (b>=281474976710656)))) (by simp only[b2,BL]) ?_
  exact hk
 have b2:(decide (a<1))=false:=zQ c1
 refine bV [(0,vi a),(1,vi nv),(2,vu b),(10,.bool false)] (by rw[b2]) ?_
 refine T_nd 4 [10] [(14,.bool (decide (a>13)))] ?_
 by_cases c3:a>13
 ·have b4:(decide (a>13))=true:=zX c3
  refine N_bd 14 b4<| T_nd 11 [14] [(25,.bool true)] ?_
  refine zq<| S_bd 25 (b:=true) (v:=(((((decide (a<1)) || (decide (a>13))) || (decide (nv<0))) || (decide (nv>62))) || (decide (b>=281474976710656)))) (by simp only[b2,b4,BL]) ?_
  exact hk
 have b4:(decide (a>13))=false:=zQ c3
 refine N_bd 14 b4<| T_nd 4 [14] [(18,.bool (decide (nv<0)))] ?_
 by_cases c5:nv<0
 ·have b6:(decide (nv<0))=true:=zX c5
  refine N_bd 18 b6<| T_nd 7 [18] [(25,.bool true)] ?_
  refine zq<| S_bd 25 (b:=true) (v:=(((((decide (a<1)) || (decide (a>13))) || (decide (nv<0))) || (decide (nv>62))) || (decide (b>=281474976710656)))) (by simp only[b2,b4,b6,BL]) ?_
  exact hk
 have b6:(decide (nv<0))=false:=zQ c5
 refine N_bd 18 b6<| T_nd 4 [18] [(22,.bool (decide (nv>62)))] ?_
 by_cases c7:nv>62
 ·have b8:(decide (nv>62))=true:=zX c7
  refine N_bd 22 b8<| T_nd 3 [22] [(25,.bool true)] ?_
  refine zq<| S_bd 25 (b:=true) (v:=(((((decide (a<1)) || (decide (a>13))) || (decide (nv<0))) || (decide (nv>62))) || (decide (b>=281474976710656)))) (by simp only[b2,b4,b6,b8,BL]) ?_
  exact hk
 have b8:(decide (nv>62))=false:=zQ c7
 refine N_bd 22 b8<| T_nd 3 [22] [(25,.bool (decide (b>=281474976710656)))] ?_
 refine zq<| S_bd 25 (b:=(decide (b>=281474976710656))) (v:=(((((decide (a<1)) || (decide (a>13))) || (decide (nv<0))) || (decide (nv>62))) || (decide (b>=281474976710656)))) (by simp only[b2,b4,b6,b8,BL]) ?_
 exact hk
end fG

/-! moraine/word.place -/
namespace gG
def K0:=Func.code Tryz.f88
end gG
def gG.pt(a:Int)(H:zV)(R:zk):Prop:=
 R (.bool (((decide (a>=1)) && (decide (a<=3))) || (a==6))) H
namespace gG
theorem link{a:Int}{H:zV}{R:zk}(h:pt a H R):C a H R:=by
 refine T_en K0 13 Tryz.func88 ?_
 intro w0 Q hQ
 unfold pt at h
 refine T_su [(0,vi a)]<| ar 0<| T_ed 1 [] []<| ar 1 ?_
 refine gm [(2,.bool (((decide (a>=1)) && (decide (a<=3))) || (a==6)))] ?_ ?_
 ·exact aB<| gi [2] [.bool (((decide (a>=1)) && (decide (a<=3))) || (a==6))] hQ h
 intro hk
 refine T_n 3 [(0,vi a),(5,.bool (decide (a>=1)))] ?_
 by_cases c1:a>=1
 ·have b2:(decide (a>=1))=true:=zX c1
  refine bV [(0,vi a),(5,.bool true)] (by rw[b2]) ?_
  refine T_nd 4 [5] [(9,.bool (decide (a<=3)))] ?_
  by_cases c3:a<=3
  ·have b4:(decide (a<=3))=true:=zX c3
   refine N_bd 9 b4<| T_n 4 [(2,.bool true)] ?_
   refine zq<| fl [(2,.bool (((decide (a>=1)) && (decide (a<=3))) || (a==6)))] (by simp only[b2,b4,BL]) ?_
   exact hk
  have b4:(decide (a<=3))=false:=zQ c3
  refine N_bd 9 b4<| T_n 4 [(2,.bool (a==6))] ?_
  refine zq<| fl [(2,.bool (((decide (a>=1)) && (decide (a<=3))) || (a==6)))] (by simp only[b2,b4,BL]) ?_
  exact hk
 have b2:(decide (a>=1))=false:=zQ c1
 refine bV [(0,vi a),(5,.bool false)] (by rw[b2]) ?_
 refine T_n 8 [(2,.bool (a==6))]<| zq<| fl [(2,.bool (((decide (a>=1)) && (decide (a<=3))) || (a==6)))] (by simp only[b2,BL]) ?_
 exact hk
end gG

/-! moraine/word.Addr -/
namespace ff
def K0:=Func.code Tryz.f112
end ff
def ff.pt(wv:Int)(H:zV)(R:zk):Prop:=
 eI.C wv H (λv H1=> ∃x:Int,v=.int .i64 x/\
 gG.C x H1 (λf H2=> ∃b:Bool,f=.bool b/\
 if b=true then(
 hU.C wv H2 (λd H3=> ∃a:Bool,d=.bool a/\
 if a=true then(
 R (.tuple #[.int .i64 (zY (ishr .u64 wv 3)),.bool true]) H3)
 else
 R (.tuple #[.int .i64 0,.bool false]) H3))
 else
 R (.tuple #[.int .i64 0,.bool false]) H2))
namespace ff
theorem link{wv:Int}{H:zV}{R:zk}(h:pt wv H R):C wv H R:=by
 refine T_en K0 16 Tryz.func112 ?_
 intro w0 Q hQ
 unfold pt zY at h
 refine T_su [(0,vu wv)]<| ar 0<| T_ed 2 [] []<| T_sz<| ar 1<| T_nd 1 [] [(4,vu wv)]<| T_c (some 5) h ?_;clear h
 rintro v H1 ⟨x,rfl,h⟩
 refine T_pd [4] [(5,vi x)]<| T_c (some 6) h ?_;clear h
 rintro f H2 ⟨b,rfl,h⟩
 refine T_pd [5] [(6,.bool b)]<| T_nd 2 [6] [(8,.bool (!b))] ?_
 by_cases c1:b=true
 ·rw[if_pos c1]at h
  have b2:(!b)=false:=congrArg Bool.not (c1)
  have b22:b=true:=c1
  refine N_bd 8 (b:=(!b)) (v:=false) (by simp only[b2,b22,Bool.not_true,Bool.not_false]) ?_
  clear b2 b22
  refine T_nd 1 [] [(9,vu wv)]<| T_c (some 10) h ?_;clear h
  rintro d H3 ⟨a,rfl,h⟩
  refine T_pd [9] [(10,.bool a)]<| T_ed 2 [8,10] [(12,.bool (!a))] ?_
  by_cases c3:a=true
  ·rw[if_pos c3]at h
   exact aI 12 (congrArg Bool.not (c3))<| T_kt<| ar 3<| T_nr 5 [2,3] [vi (zY (ishr .u64 wv 3)),.bool true] hQ h
  rw[if_neg c3]at h
  exact aH 12 (congrArg Bool.not (zZ c3))<| ar 2<| T_nr 2 [2,3] [vi 0,.bool false] hQ h
 rw[if_neg c1]at h
 have b2:(!b)=true:=congrArg Bool.not (zZ c1)
 have b22:b=false:=zZ c1
 refine N_bd 8 (b:=(!b)) (v:=true) (by simp only[b2,b22,Bool.not_true,Bool.not_false]) ?_
 clear b2 b22
 exact T_ed 4 [8] [(12,.bool true)]<| T_tz 12<| ar 2<| T_nr 2 [2,3] [vi 0,.bool false] hQ h
end ff

/-! moraine/word.Head -/
namespace gY
def K0:=Func.code Tryz.f124
end gY
def gY.pt(wv:Int)(H:zV)(R:zk):Prop:=
 eI.C wv H (λv H1=> ∃x:Int,v=.int .i64 x/\
 if x=5 then(
 hU.C wv H1 (λd H2=> ∃a:Bool,d=.bool a/\
 if a=true then(
 fY.C wv H2 (λb H3=> ∃ra rb rc:Int,b=.tuple #[.int .i64 ra,.int .i64 rb,.int .u64 rc]/\
 R (.tuple #[.int .i64 ra,.int .i64 rb,.int .u64 rc,.bool true]) H3))
 else
 R (.tuple #[.int .i64 0,.int .i64 0,.int .u64 0,.bool false]) H2))
 else
 R (.tuple #[.int .i64 0,.int .i64 0,.int .u64 0,.bool false]) H1)
namespace gY
theorem link{wv:Int}{H:zV}{R:zk}(h:pt wv H R):C wv H R:=by
 refine T_en K0 23 Tryz.func124 ?_
 intro w0 Q hQ
 unfold pt at h
 refine T_su [(0,vu wv)]<| ar 0<| T_ed 4 [] []<| T_sz<| ar 1<| T_nd 1 [] [(6,vu wv)]<| T_c (some 7) h ?_;clear h
 rintro v H1 ⟨x,rfl,h⟩
 refine T_pd [6] [(7,vi x)]<| T_nd 2 [7] [(9,.bool (x !=5))] ?_
 by_cases c1:x=5
 ·rw[if_pos c1]at h
  refine N_bd 9 (bne_eq_false_iff_eq.mpr c1)<| T_nd 1 [] [(10,vu wv)] ?_
  refine T_c (some 11) h ?_;clear h
  rintro d H2 ⟨a,rfl,h⟩
  refine T_pd [10] [(11,.bool a)]<| T_ed 2 [9,11] [(13,.bool (!a))] ?_
  by_cases c3:a=true
  ·rw[if_pos c3]at h
   refine aI 13 (congrArg Bool.not (c3))<| T_kt<| ar 3<| T_n 1 [(15,vu wv)]<| T_c (some 16) h ?_;clear h
   rintro b H3 ⟨ra,rb,rc,rfl,h⟩
   refine⟨[(16,.tuple #[vi ra,vi rb,vu rc])],pk,?_⟩
   exact T_ne 7 [(2,vi ra),(3,vi rb),(4,vu rc)]<| ar 4<| T_nr 7 [2,3,4,5] [vi ra,vi rb,vu rc,.bool true] hQ h
  rw[if_neg c3]at h
  exact aH 13 (congrArg Bool.not (zZ c3))<| ar 2<| T_nr 4 [2,3,4,5] [vi 0,vi 0,vu 0,.bool false] hQ h
 rw[if_neg c1]at h
 exact N_bd 9 (bne_iff_ne.mpr c1)<| T_ed 4 [9] [(13,.bool true)]<| T_tz 13<| ar 2<| T_nr 4 [2,3,4,5] [vi 0,vi 0,vu 0,.bool false] hQ h
end gY

/-! moraine/word.May -/
namespace hU
def K0:=Func.code Tryz.f136
end hU
def hU.pt(wv:Int)(H:zV)(R:zk):Prop:=
 fY.C wv H (λv H1=> ∃ra rb rc:Int,v=.tuple #[.int .i64 ra,.int .i64 rb,.int .u64 rc]/\
 eI.C wv H1 (λd H2=> ∃x:Int,d=.int .i64 x/\
 if x=0 then(
 R (.bool true) H2)
 else
 if x=1 then(
 R (.bool (decide ((ishr .u64 wv 3)<65536))) H2)
 else
 if x=2 then(
 R (.bool (decide ((ishr .u64 wv 3)<65536))) H2)
 else
 if x=3 then(
 R (.bool (decide ((ishr .u64 wv 3)<65536))) H2)
 else
 if x=6 then(
 R (.bool (decide ((ishr .u64 wv 3)<65536))) H2)
 else
 if x=4 then(
 if ra=7 then(
 gx.C (ishr .u64 wv 8) H2 (λb H3=> ∃a:Bool,b=.bool a/\
 R (.bool a) H3))
 else
 R (.bool (decide ((ishr .u64 wv 3)<=6))) H2)
 else
 if x=5 then(
 R (.bool (((decide (ra>=1)) && (decide (ra<=13))) && (decide (rb<=62)))) H2)
 else
 R (.bool false) H2))
namespace hU
theorem link{wv:Int}{H:zV}{R:zk}(h:pt wv H R):C wv H R:=by
 refine T_en K0 49 Tryz.func136 ?_
 intro w0 Q hQ
 unfold pt at h
 refine T_su [(0,vu wv)]<| ar 0<| T_ed 1 [] []<| ar 1<| T_nd 1 [] [(7,vu wv)]<| T_c (some 8) h ?_;clear h
 rintro v H1 ⟨ra,rb,rc,rfl,h⟩
 refine T_pd [7] [(8,.tuple #[vi ra,vi rb,vu rc])]<| T_ed 7 [8] [(3,vi ra),(4,vi rb)]<| T_sz<| ar 2<| T_nd 1 [] [(12,vu wv)]<| T_c (some 13) h ?_;clear h
 rintro d H2 ⟨x,rfl,h⟩
 refine T_pd [12] [(13,vi x)]<| T_e<| T_bz 0<| T_sz<| T_bz 7<| T_sz<| T_bz 6<| T_sz<| T_bz 5<| T_bz 4<| T_bz 3<| T_bz 2<| T_sz<| T_bz 1<| T_sz<| T_sz<| ar 3<| T_ed 2 [] [(14,.bool (x==0))] ?_
 by_cases c1:x=0
 ·rw[if_pos c1]at h
  exact aH 14 (zK c1)<| zj 1<| aA<| aA<| aN<| aB<| T_sz<| ar 10<| T_nr 1 [2] [.bool true] hQ h
 rw[if_neg c1]at h
 refine aI 14 (zJ c1)<| T_kt<| T_sz<| ar 4<| T_ed 2 [14] [(16,.bool (x==1))] ?_
 by_cases c3:x=1
 ·rw[if_pos c3]at h
  exact aH 16 (zK c3)<| zj 2<| aA<| aA<| zz<| aA<| aN<| aC<| aC<| aC<| aB<| T_sz<| ar 11<| T_nr 4 [2] [.bool (decide ((ishr .u64 wv 3)<65536))] hQ h
 rw[if_neg c3]at h
 refine aI 16 (zJ c3)<| T_kt<| T_sz<| ar 5<| T_ed 2 [16] [(18,.bool (x==2))] ?_
 by_cases c5:x=2
 ·rw[if_pos c5]at h
  exact aH 18 (zK c5)<| zj 3<| aA<| aA<| zz<| aA<| zz<| aN<| aC<| aC<| aB<| T_sz<| ar 11<| T_nr 4 [2] [.bool (decide ((ishr .u64 wv 3)<65536))] hQ h
 rw[if_neg c5]at h
 refine aI 18 (zJ c5)<| T_kt<| T_sz<| ar 6<| T_ed 2 [18] [(20,.bool (x==3))] ?_
 by_cases c7:x=3
 ·rw[if_pos c7]at h
  exact aH 20 (zK c7)<| zj 4<| aA<| aA<| zz<| aA<| zz<| zz<| aN<| aC<| aB<| T_sz<| ar 11<| T_nr 4 [2] [.bool (decide ((ishr .u64 wv 3)<65536))] hQ h
 rw[if_neg c7]at h
 refine aI 20 (zJ c7)<| T_kt<| T_sz<| ar 7<| T_ed 2 [20] [(22,.bool (x==6))] ?_
 by_cases c9:x=6
 ·rw[if_pos c9]at h
  exact aH 22 (zK c9)<| zj 5<| aA<| aA<| zz<| aA<| zz<| zz<| zz<| aN<| aB<| T_sz<| ar 11<| T_nr 4 [2] [.bool (decide ((ishr .u64 wv 3)<65536))] hQ h
 rw[if_neg c9]at h
 refine aI 22 (zJ c9)<| T_kt<| T_sz<| ar 8<| T_ed 2 [22] [(24,.bool (x==4))] ?_
 by_cases c11:x=4
 ·rw[if_pos c11]at h
  refine aH 24 (zK c11)<| zj 6<| aA<| aA<| zz<| aA<| zz<| zz<| zz<| zz<| aA<| aN<| aB<| T_sz<| T_sz<| ar 12<| T_ne 2 [(0,vu wv),(32,.bool (ra==7))] ?_
  by_cases c13:ra=7
  ·rw[if_pos c13]at h
   refine aH 32 (zK c13)<| ar 13<| T_n 2 [(34,vu (ishr .u64 wv 8))]<| T_c (some 35) h ?_;clear h
   rintro b H3 ⟨a,rfl,h⟩
   refine⟨[(35,.bool a)],pk,?_⟩
   exact T_nr 1 [2] [.bool a] hQ h
  rw[if_neg c13]at h
  exact aI 32 (zJ c13)<| T_kt<| ar 14<| T_nr 4 [2] [.bool (decide ((ishr .u64 wv 3)<=6))] hQ h
 rw[if_neg c11]at h
 refine aI 24 (zJ c11)<| T_kt<| ar 9<| T_ed 2 [0,13,24] [(26,.bool (x==5))] ?_
 by_cases c15:x=5
 ·rw[if_pos c15]at h
  refine aH 26 (zK c15)<| zj 7<| aA<| zz<| aA<| zz<| zz<| zz<| zz<| aA<| zz<| aA<| aN<| aB<| T_sz<| ar 15 ?_
  refine gm [(2,.bool (((decide (ra>=1)) && (decide (ra<=13))) && (decide (rb<=62))))] ?_ ?_
  ·exact aB<| gi [2] [.bool (((decide (ra>=1)) && (decide (ra<=13))) && (decide (rb<=62)))] hQ h
  intro hk
  refine T_n 3 [(3,vi ra),(4,vi rb),(41,.bool (decide (ra>=1)))] ?_
  by_cases c17:ra>=1
  ·have b18:(decide (ra>=1))=true:=zX c17
   refine bV [(3,vi ra),(4,vi rb),(41,.bool true)] (by rw[b18]) ?_
   refine T_nd 4 [3,41] [(45,.bool (decide (ra<=13)))] ?_
   by_cases c19:ra<=13
   ·have b20:(decide (ra<=13))=true:=zX c19
    refine N_bd 45 b20<| T_n 4 [(2,.bool (decide (rb<=62)))] ?_
    refine zq<| fl [(2,.bool (((decide (ra>=1)) && (decide (ra<=13))) && (decide (rb<=62))))] (by simp only[b18,b20,BL]) ?_
    exact hk
   have b20:(decide (ra<=13))=false:=zQ c19
   refine N_bd 45 b20<| T_n 4 [(2,.bool false)] ?_
   refine zq<| fl [(2,.bool (((decide (ra>=1)) && (decide (ra<=13))) && (decide (rb<=62))))] (by simp only[b18,b20,BL]) ?_
   exact hk
  have b18:(decide (ra>=1))=false:=zQ c17
  refine bV [(3,vi ra),(4,vi rb),(41,.bool false)] (by rw[b18]) ?_
  refine T_n 8 [(2,.bool false)]<| zq<| fl [(2,.bool (((decide (ra>=1)) && (decide (ra<=13))) && (decide (rb<=62))))] (by simp only[b18,BL]) ?_
  exact hk
 rw[if_neg c15]at h
 exact aI 26 (zJ c15)<| T_kt<| zj 0<| zz<| aA<| zz<| zz<| zz<| zz<| aA<| zz<| aA<| zz<| aA<| aN<| aB<| ar 16<| T_nr 1 [2] [.bool false] hQ h
end hU

/-! moraine/word.parts -/
namespace fY
def K0:=Func.code Tryz.f141
end fY
def fY.pt(wv:Int)(H:zV)(R:zk):Prop:=
 ∀(b:Nat) (H1:zV),b=H.size->H1=H.push (.cells #[.int .u64 wv] 31)->
 eB.C 3 5 (some (ad b)) H1 (λv H2=> ∃x:Int,v=.int .u64 x/\
 eB.C 8 8 (some (ad b)) H2 (λg H3=> ∃a:Int,g=.int .u64 a/\
 eB.C 16 48 (some (ad b)) H3 (λf H4=> ∃d:Int,f=.int .u64 d/\
 R (.tuple #[.int .i64 (zY x),.int .i64 (zY a),.int .u64 d]) H4)))
namespace fY
theorem link{wv:Int}{H:zV}{R:zk}(h:pt wv H R):C wv H R:=by
 refine T_en K0 15 Tryz.func141 ?_
 intro w0 Q hQ
 unfold pt zY at h
 refine T_su [(0,vu wv)]<| ar 0<| T_nw (some 1) (λb=>vp (pa b)) (.cells #[vu wv] 31) ?_
 intro b H1 e1 e2
 replace h:=h b H1 e1 e2
 refine⟨[(1,vp (pa b))],pk,?_⟩
 refine T_ed 3 [] []<| ar 1<| T_ne 2 [(5,.func (.func 149) #[] #[vp (pa b)])]<| ar 2<| T_nd 1 [] [(7,.func (.func 149) #[] #[vp (pa b)])]<| T_c (some 8) h ?_;clear h
 rintro v H2 ⟨x,rfl,h⟩
 refine T_pd [7] [(8,vu x)]<| T_nd 2 [8] [(9,vi (zY x)),(10,.func (.func 149) #[] #[vp (pa b)])]<| T_c (some 11) h ?_;clear h
 rintro g H3 ⟨a,rfl,h⟩
 refine T_pd [10] [(11,vu a)]<| T_nd 2 [5,11] [(12,vi (zY a)),(13,.func (.func 149) #[] #[vp (pa b)])]<| T_c (some 14) h ?_;clear h
 rintro f H4 ⟨d,rfl,h⟩
 exact T_pd [13] [(14,vu d)]<| T_nr 3 [2,3,4] [vi (zY x),vi (zY a),vu d] hQ h
end fY

/-! moraine/word.letter -/
namespace gx
def K0:=Func.code Tryz.f148
end gx
def gx.pt(c:Int)(H:zV)(R:zk):Prop:=
 R (.bool ((decide (c<=1114111)) && ((decide (c<55296)) || (decide (c>57343))))) H
namespace gx
theorem link{c:Int}{H:zV}{R:zk}(h:pt c H R):C c H R:=by
 refine T_en K0 13 Tryz.func148 ?_
 intro w0 Q hQ
 unfold pt at h
 refine T_su [(0,vu c)]<| ar 0<| T_ed 1 [] []<| ar 1 ?_
 refine gm [(2,.bool ((decide (c<=1114111)) && ((decide (c<55296)) || (decide (c>57343)))))] ?_ ?_
 ·exact aB<| gi [2] [.bool ((decide (c<=1114111)) && ((decide (c<55296)) || (decide (c>57343))))] hQ h
 intro hk
 refine T_n 3 [(0,vu c),(5,.bool (decide (c<=1114111)))] ?_
 by_cases c1:c<=1114111
 ·have b2:(decide (c<=1114111))=true:=zX c1
  refine bV [(0,vu c),(5,.bool true)] (by rw[b2]) ?_
  refine T_nd 3 [] [(8,.bool (decide (c<55296)))] ?_
  by_cases c3:c<55296
  ·have b4:(decide (c<55296))=true:=zX c3
   refine N_bd 8 b4<| T_n 5 [(2,.bool true)] ?_
   refine zq<| fl [(2,.bool ((decide (c<=1114111)) && ((decide (c<55296)) || (decide (c>57343)))))] (by simp only[b2,b4,BL]) ?_
   exact hk
  have b4:(decide (c<55296))=false:=zQ c3
  refine N_bd 8 b4<| T_n 5 [(2,.bool (decide (c>57343)))] ?_
  refine zq<| fl [(2,.bool ((decide (c<=1114111)) && ((decide (c<55296)) || (decide (c>57343)))))] (by simp only[b2,b4,BL]) ?_
  exact hk
 have b2:(decide (c<=1114111))=false:=zQ c1
 refine bV [(0,vu c),(5,.bool false)] (by rw[b2]) ?_
 refine T_n 8 [(2,.bool false)]<| zq<| fl [(2,.bool ((decide (c<=1114111)) && ((decide (c<55296)) || (decide (c>57343)))))] (by simp only[b2,BL]) ?_
 exact hk
end gx

/-! moraine/word.parts.1 -/
namespace eB
def K0:=Func.code Tryz.f149
end eB
def eB.pt(a b:Int)(d:zW)(H:zV)(R:zk):Prop:=
 ∃f:Addr,d=some f/\
 ∃x:Int,hat H f=some (.int .u64 x)/\
 (0<=a)/\
 (0<=b)/\
 R (.int .u64 (iand .u64 (ishr .u64 x a) (IntKind.wrap .u64 ((ishl .u64 1 b)-1)))) H
namespace eB
theorem link{a b:Int}{d:zW}{H:zV}{R:zk}(h:pt a b d H R):C a b d H R:=by
 refine T_en K0 13 Tryz.func149 ?_
 intro w0 Q hQ
 unfold pt at h
 refine T_su [(0,vi a),(1,vi b),(2,vp d)]<| ar 0<| T_ed 1 [] []<| T_sz<| qe 1 ?_
 obtain⟨f,rfl,x,q1,h⟩:=h
 refine mj (some 6) 31 q1 [2] [(6,vu x)]<| T_q1 7 (vi a) [0] ?_
 obtain⟨q2,h⟩:=h
 refine Q_op (some 8) (binN .shr 30 (vu x) (vi a)) (vu (ishr .u64 x a)) (λ_=>by kernel_rfl) (λw _=>sq (P:=Tryz.prog) (t:=30) (k:=.u64) (k':=.i64) (x:=x) (y:=a) q2 w) [(1,vi b),(8,vu (ishr .u64 x a))] pk ?_
 refine T_q (some 9) (vi b) [(8,vu (ishr .u64 x a)),(9,vi b)] ?_
 obtain⟨q3,h⟩:=h
 refine Q_op (some 10) (binN .shl 30 (vu 1) (vi b)) (vu (ishl .u64 1 b)) (λ_=>by kernel_rfl) (λw _=>so (P:=Tryz.prog) (t:=30) (k:=.u64) (k':=.i64) (x:=1) (y:=b) q3 w) [(8,vu (ishr .u64 x a)),(10,vu (ishl .u64 1 b))] pk ?_
 exact T_q (some 11) (vu (IntKind.wrap .u64 ((ishl .u64 1 b)-1))) [(8,vu (ishr .u64 x a)),(11,vu (IntKind.wrap .u64 ((ishl .u64 1 b)-1)))]<| T_q1 12 (vu (iand .u64 (ishr .u64 x a) (IntKind.wrap .u64 ((ishl .u64 1 b)-1)))) [8,11]<| T_q1 5 (vu (iand .u64 (ishr .u64 x a) (IntKind.wrap .u64 ((ishl .u64 1 b)-1)))) [12]<| lx [(5,vu (iand .u64 (ishr .u64 x a) (IntKind.wrap .u64 ((ishl .u64 1 b)-1))))] sk<| T_qe<| gi [5] [vu (iand .u64 (ishr .u64 x a) (IntKind.wrap .u64 ((ishl .u64 1 b)-1)))] hQ h
end eB

