/- Printed: what each function asks, and that it is sound. -/
import Derived.Test.YtmlhlkbpglcccaaGreatFnsC
set_option linter.unusedSimpArgs false
set_option linter.unusedVariables false
set_option maxRecDepth 100000
set_option maxHeartbeats 1000000
noncomputable section
namespace Go.Proofs.YtmlhlkbpglcccaaGreat
open Go
/-! (*moraine/obj.Heap).Cons -/
namespace dA
def K0:=Func.code Tryz.f10
end dA
def dA.pt(hv:zW)(d a:Int)(H:zV)(R:zj):Prop:=
 ∀(b:Nat) (H1:zV),b=H.size->H1=H.push (.cells #[.int .u64 d,.int .u64 a] 28)->
 dp.C hv 0 1 (some (ad b)) 2 2 H1 (λv H2=> ∃ra rb:Int,v=.tuple #[.int .u64 ra,.int .i64 rb]/\
 R (.tuple #[.int .u64 ra,.int .i64 rb]) H2)
namespace dA
theorem link{hv:zW}{d a:Int}{H:zV}{R:zj}(h:pt hv d a H R):C hv d a H R:=by
 refine T_en K0 15 Tryz.func10 ?_
 intro w0 Q hQ
 unfold pt at h
 refine T_su [(0,vp hv),(1,vu d),(2,vu a)]<| ar 0<| T_ed 2 [] []<| ar 1<| T_n 3 [(8,vp hv),(9,vu d),(10,vu a)]<| T_nw (some 11) (λb=>vs (pa b) 2 2) (.cells #[vu d,vu a] 28) ?_
 intro b H1 e1 e2
 replace h:=h b H1 e1 e2
 refine T_pd [9,10] [(11,vs (pa b) 2 2)]<| T_c (some 12) h ?_;clear h
 rintro v H2 ⟨ra,rb,rfl,h⟩
 refine⟨[(12,.tuple #[vu ra,vi rb])],pk,?_⟩
 exact T_nr 4 [6,7] [vu ra,vi rb] hQ h
end dA

/-! (*moraine/obj.Heap).Car -/
namespace dm
def K0:=Func.code Tryz.f17
end dm
def dm.pt(hv:zW)(wv:Int)(H:zV)(R:zj):Prop:=
 dJ.C hv wv 0 H (λv H1=> ∃ra rb:Int,v=.tuple #[.int .u64 ra,.int .i64 rb]/\
 R (.tuple #[.int .u64 ra,.int .i64 rb]) H1)
namespace dm
theorem link{hv:zW}{wv:Int}{H:zV}{R:zj}(h:pt hv wv H R):C hv wv H R:=by
 refine T_en K0 11 Tryz.func17 ?_
 intro w0 Q hQ
 unfold pt at h
 refine T_su [(0,vp hv),(1,vu wv)]<| ar 0<| T_ed 2 [] []<| ar 1<| T_n 2 [(6,vp hv),(7,vu wv)]<| T_c (some 8) h ?_;clear h
 rintro v H1 ⟨ra,rb,rfl,h⟩
 refine⟨[(8,.tuple #[vu ra,vi rb])],pk,?_⟩
 exact T_nr 4 [4,5] [vu ra,vi rb] hQ h
end dm

/-! (*moraine/obj.Heap).Weak -/
namespace dD
def K0:=Func.code Tryz.f22
end dD
def dD.pt(hv:zW)(d a:Int)(H:zV)(R:zj):Prop:=
 ∀(b:Nat) (H1:zV),b=H.size->H1=H.push (.cells #[.int .u64 d,.int .u64 a] 28)->
 dp.C hv 1 2 (some (ad b)) 2 2 H1 (λv H2=> ∃ra rb:Int,v=.tuple #[.int .u64 ra,.int .i64 rb]/\
 R (.tuple #[.int .u64 ra,.int .i64 rb]) H2)
namespace dD
theorem link{hv:zW}{d a:Int}{H:zV}{R:zj}(h:pt hv d a H R):C hv d a H R:=by
 refine T_en K0 15 Tryz.func22 ?_
 intro w0 Q hQ
 unfold pt at h
 refine T_su [(0,vp hv),(1,vu d),(2,vu a)]<| ar 0<| T_ed 2 [] []<| ar 1<| T_n 3 [(8,vp hv),(9,vu d),(10,vu a)]<| T_nw (some 11) (λb=>vs (pa b) 2 2) (.cells #[vu d,vu a] 28) ?_
 intro b H1 e1 e2
 replace h:=h b H1 e1 e2
 refine T_pd [9,10] [(11,vs (pa b) 2 2)]<| T_c (some 12) h ?_;clear h
 rintro v H2 ⟨ra,rb,rfl,h⟩
 refine⟨[(12,.tuple #[vu ra,vi rb])],pk,?_⟩
 exact T_nr 4 [6,7] [vu ra,vi rb] hQ h
end dD

/-! (*moraine/obj.Heap).Cdr -/
namespace dG
def K0:=Func.code Tryz.f47
end dG
def dG.pt(hv:zW)(wv:Int)(H:zV)(R:zj):Prop:=
 dL.C hv wv H (λv H1=> ∃x:Bool,v=.bool x/\
 if x=true then(
 R (.int .i64 2) H1)
 else
 bP.C hv wv H1 (λa H2=> ∃(ra rb rc rd:Int) (re:Bool),a=.tuple #[.int .i64 ra,.int .i64 rb,.int .i64 rc,.int .u64 rd,.bool re]/\
 if re=true then(
 R (.int .i64 (zY (rc+1))) H2)
 else
 R (.int .i64 0) H2))
namespace dG
theorem link{hv:zW}{wv:Int}{H:zV}{R:zj}(h:pt hv wv H R):C hv wv H R:=by
 refine T_en K0 25 Tryz.func47 ?_
 intro w0 Q hQ
 unfold pt zY at h
 refine T_su [(0,vp hv),(1,vu wv)]<| ar 0<| T_ed 1 [] []<| T_sz<| ar 1<| T_nd 2 [] [(10,vp hv),(11,vu wv)]<| T_c (some 12) h ?_;clear h
 rintro v H1 ⟨x,rfl,h⟩
 refine T_pd [10,11] [(12,.bool x)]<| T_e ?_
 by_cases c1:x=true
 ·rw[if_pos c1]at h
  exact aI 12 c1<| ar 2<| T_nr 1 [4] [vi 2] hQ h
 rw[if_neg c1]at h
 refine aJ 12 (zZ c1)<| T_kt<| T_sz<| ar 3<| T_n 2 [(14,vp hv),(15,vu wv)]<| T_c (some 16) h ?_;clear h
 rintro a H2 ⟨ra,rb,rc,rd,re,rfl,h⟩
 refine⟨[(16,.tuple #[vi ra,vi rb,vi rc,vu rd,.bool re])],pk,?_⟩
 refine T_ne 11 [(7,vi rc),(9,.bool re)]<| ar 4<| T_ed 1 [9] [(22,.bool re)] ?_
 by_cases c3:re=true
 ·rw[if_pos c3]at h
  exact aI 22 c3<| ar 5<| T_nr 3 [4] [vi (zY (rc+1))] hQ h
 rw[if_neg c3]at h
 exact aJ 22 (zZ c3)<| T_kt<| ar 6<| T_nr 1 [4] [vi 0] hQ h
end dG

/-! (*moraine/obj.Heap).half -/
namespace dJ
def K0:=Func.code Tryz.f62
end dJ
def dJ.pt(hv:zW)(wv i:Int)(H:zV)(R:zj):Prop:=
 cZ.C hv wv H (λv H1=> ∃(ra:Int) (rb:Bool),v=.tuple #[.int .i64 ra,.bool rb]/\
 if rb=true then(
 ∃e:Addr,hv=some e/\
 ∃x:zW,hat H1 e=some (.pointer x)/\
 ∃xA:Addr,x=some xA/\
 ∃f:zW,hat H1 xA=some (.pointer f)/\
 ∃g:Addr,f=some g/\
 ∃d:zW,hat H1 g=some (.pointer d)/\
 bQ.C d (zY (ra+i)) H1 (λj H2=> ∃b a:Int,j=.tuple #[.int .u64 b,.int .i64 a]/\
 R (.tuple #[.int .u64 b,.int .i64 a]) H2))
 else
 R (.tuple #[.int .u64 0,.int .i64 3]) H1)
namespace dJ
theorem link{hv:zW}{wv i:Int}{H:zV}{R:zj}(h:pt hv wv i H R):C hv wv i H R:=by
 refine T_en K0 34 Tryz.func62 ?_
 intro w0 Q hQ
 unfold pt zY at h
 refine T_su [(0,vp hv),(1,vu wv),(2,vi i)]<| ar 0<| T_ed 2 [] []<| ar 1<| T_nd 2 [1] [(11,vp hv),(12,vu wv)]<| T_c (some 13) h ?_;clear h
 rintro v H1 ⟨ra,rb,rfl,h⟩
 refine T_pd [11,12] [(13,.tuple #[vi ra,.bool rb])]<| T_ed 5 [13] [(8,vi ra),(9,.bool rb)]<| T_sz<| ar 2<| T_ed 2 [9] [(17,.bool (!rb))] ?_
 by_cases c1:rb=true
 ·rw[if_pos c1]at h
  refine aJ 17 (congrArg Bool.not (c1))<| T_kt<| ar 4<| T_nd 1 [0,17] [(18,vp hv)] ?_
  obtain⟨e,rfl,h⟩:=h
  refine T_nd 2 [18] [(20,vp (some e))] ?_
  obtain⟨x,q3,h⟩:=h
  refine T_l1 21 53 q3 [20] ?_
  obtain⟨xA,rfl,h⟩:=h
  refine T_nd 2 [21] [(23,vp (some xA))] ?_
  obtain⟨f,q4,h⟩:=h
  refine T_l1 24 56 q4 [23] ?_
  obtain⟨g,rfl,h⟩:=h
  refine T_nd 2 [24] [(26,vp (some g))] ?_
  obtain⟨d,q5,h⟩:=h
  refine T_l1 27 82 q5 [26]<| T_nd 3 [2,8] [(30,vi (zY (ra+i)))]<| T_c (some 31) h ?_;clear h
  rintro j H2 ⟨b,a,rfl,h⟩
  refine⟨[(31,.tuple #[vu b,vi a])],pk,?_⟩
  exact T_nr 4 [6,7] [vu b,vi a] hQ h
 rw[if_neg c1]at h
 exact aI 17 (congrArg Bool.not (zZ c1))<| ar 3<| T_nr 2 [6,7] [vu 0,vi 3] hQ h
end dJ

/-! (*moraine/obj.Heap).Pair -/
namespace dL
def K0:=Func.code Tryz.f82
end dL
def dL.pt(hv:zW)(wv:Int)(H:zV)(R:zj):Prop:=
 cZ.C hv wv H (λv H1=> ∃(ra:Int) (rb:Bool),v=.tuple #[.int .i64 ra,.bool rb]/\
 R (.bool rb) H1)
namespace dL
theorem link{hv:zW}{wv:Int}{H:zV}{R:zj}(h:pt hv wv H R):C hv wv H R:=by
 refine T_en K0 14 Tryz.func82 ?_
 intro w0 Q hQ
 unfold pt at h
 refine T_su [(0,vp hv),(1,vu wv)]<| ar 0<| T_ed 1 [] []<| ar 1<| T_n 2 [(8,vp hv),(9,vu wv)]<| T_c (some 10) h ?_;clear h
 rintro v H1 ⟨ra,rb,rfl,h⟩
 refine⟨[(10,.tuple #[vi ra,.bool rb])],pk,?_⟩
 exact T_ne 5 [(6,.bool rb)]<| ar 2<| T_nr 2 [4] [.bool rb] hQ h
end dL

/-! (*moraine/obj.Heap).SetCdr -/
namespace db
def K0:=Func.code Tryz.f92
end db
def db.pt(hv:zW)(wv v:Int)(H:zV)(R:zj):Prop:=
 ee.C hv wv 1 v H (λa H1=> ∃x:Int,a=.int .i64 x/\
 R (.int .i64 x) H1)
namespace db
theorem link{hv:zW}{wv v:Int}{H:zV}{R:zj}(h:pt hv wv v H R):C hv wv v H R:=by
 refine T_en K0 11 Tryz.func92 ?_
 intro w0 Q hQ
 unfold pt at h
 refine T_su [(0,vp hv),(1,vu wv),(2,vu v)]<| ar 0<| T_ed 1 [] []<| ar 1<| T_n 3 [(7,vp hv),(8,vu wv),(9,vu v)]<| T_c (some 10) h ?_;clear h
 rintro a H1 ⟨x,rfl,h⟩
 refine⟨[(10,vi x)],pk,?_⟩
 exact T_nr 1 [6] [vi x] hQ h
end db

/-! (*moraine/obj.Heap).pair -/
namespace cZ
def K0:=Func.code Tryz.f98
end cZ
def cZ.pt(hv:zW)(wv:Int)(H:zV)(R:zj):Prop:=
 dR.C hv wv 1 0 H (λv H1=> ∃(ra:Int) (rb:Bool),v=.tuple #[.int .i64 ra,.bool rb]/\
 if rb=true then(
 R (.tuple #[.int .i64 ra,.bool ((Int.tmod ra 2)==0)]) H1)
 else
 dR.C hv wv 2 1 H1 (λd H2=> ∃(a:Int) (b:Bool),d=.tuple #[.int .i64 a,.bool b]/\
 R (.tuple #[.int .i64 a,.bool (b && ((Int.tmod a 2)==0))]) H2))
namespace cZ
theorem link{hv:zW}{wv:Int}{H:zV}{R:zj}(h:pt hv wv H R):C hv wv H R:=by
 refine T_en K0 29 Tryz.func98 ?_
 intro w0 Q hQ
 unfold pt at h
 refine T_su [(0,vp hv),(1,vu wv)]<| ar 0<| T_ed 2 [] []<| ar 1<| T_nd 2 [] [(9,vp hv),(10,vu wv)]<| T_c (some 11) h ?_;clear h
 rintro v H1 ⟨ra,rb,rfl,h⟩
 refine T_pd [9,10] [(11,.tuple #[vi ra,.bool rb])]<| T_ed 5 [11] [(6,vi ra),(7,.bool rb)]<| T_sz<| ar 2<| T_ed 2 [] [(15,.bool (!rb))] ?_
 by_cases c1:rb=true
 ·rw[if_pos c1]at h
  have b2:(!rb)=false:=congrArg Bool.not (c1)
  have b22:rb=true:=c1
  refine S_bd 7 (b:=rb) (v:=true) (by simp only[b2,b22,Bool.not_true,Bool.not_false])<| S_bd 15 (b:=(!rb)) (v:=false) (by simp only[b2,b22,Bool.not_true,Bool.not_false]) ?_
  clear b2 b22
  exact T_fz 15<| T_kt<| ar 4<| T_nr 9 [4,5] [vi ra,.bool ((Int.tmod ra 2)==0)] hQ h
 rw[if_neg c1]at h
 have b2:(!rb)=true:=congrArg Bool.not (zZ c1)
 have b22:rb=false:=zZ c1
 refine S_bd 7 (b:=rb) (v:=false) (by simp only[b2,b22,Bool.not_true,Bool.not_false])<| S_bd 15 (b:=(!rb)) (v:=true) (by simp only[b2,b22,Bool.not_true,Bool.not_false]) ?_
 clear b2 b22
 refine T_tz 15<| T_rz 3<| T_n 2 [(17,vp hv),(18,vu wv)]<| T_c (some 19) h ?_;clear h
 rintro d H2 ⟨a,b,rfl,h⟩
 refine⟨[(19,.tuple #[vi a,.bool b])],pk,?_⟩
 refine T_ne 5 [(6,vi a),(7,.bool b)]<| ar 4 ?_
 refine fm [(4,vi a),(5,.bool (b && ((Int.tmod a 2)==0)))] ?_ ?_
 ·exact aE<| eW [4,5] [vi a,.bool (b && ((Int.tmod a 2)==0))] hQ h
 intro hk
 refine T_n 3 [(6,vi a),(22,vi a),(24,.bool b)] ?_
 by_cases c3:b=true
 ·have b4:b=true:=c3
  refine cO [(6,vi a),(22,vi a),(24,.bool true)] (by rw[b4]) ?_
  refine T_n 6 [(4,vi a),(5,.bool ((Int.tmod a 2)==0))]<| zq<| eD [(4,vi a),(5,.bool (b && ((Int.tmod a 2)==0)))] (by simp only[b4,BL]) ?_
  exact hk
 have b4:b=false:=zZ c3
 refine cO [(6,vi a),(22,vi a),(24,.bool false)] (by rw[b4]) ?_
 refine T_n 6 [(4,vi a),(5,.bool false)]<| zq<| eD [(4,vi a),(5,.bool (b && ((Int.tmod a 2)==0)))] (by simp only[b4,BL]) ?_
 exact hk
end cZ

/-! (*moraine/obj.Heap).SetCar -/
namespace ee
def K0:=Func.code Tryz.f111
end ee
def ee.pt(hv:zW)(wv i v:Int)(H:zV)(R:zj):Prop:=
 cZ.C hv wv H (λd H1=> ∃(ra:Int) (rb:Bool),d=.tuple #[.int .i64 ra,.bool rb]/\
 if rb=true then(
 ∃b:Addr,hv=some b/\
 ∃x:zW,hat H1 b=some (.pointer x)/\
 cE.C x (zY (ra+i)) v H1 (λe H2=> ∃a:Int,e=.int .i64 a/\
 R (.int .i64 a) H2))
 else
 R (.int .i64 3) H1)
namespace ee
theorem link{hv:zW}{wv i v:Int}{H:zV}{R:zj}(h:pt hv wv i v H R):C hv wv i v H R:=by
 refine T_en K0 28 Tryz.func111 ?_
 intro w0 Q hQ
 unfold pt zY at h
 refine T_su [(0,vp hv),(1,vu wv),(2,vi i),(3,vu v)]<| ar 0<| T_ed 1 [] []<| ar 1<| T_nd 2 [1] [(12,vp hv),(13,vu wv)]<| T_c (some 14) h ?_;clear h
 rintro d H1 ⟨ra,rb,rfl,h⟩
 refine T_pd [12,13] [(14,.tuple #[vi ra,.bool rb])]<| T_ed 5 [14] [(9,vi ra),(10,.bool rb)]<| T_sz<| ar 2<| T_ed 2 [10] [(18,.bool (!rb))] ?_
 by_cases c1:rb=true
 ·rw[if_pos c1]at h
  refine aJ 18 (congrArg Bool.not (c1))<| T_kt<| ar 4<| T_nd 1 [0,18] [(19,vp hv)] ?_
  obtain⟨b,rfl,h⟩:=h
  refine T_nd 2 [19] [(21,vp (some b))] ?_
  obtain⟨x,q3,h⟩:=h
  refine T_l1 22 53 q3 [21]<| T_n 4 [(22,vp x),(25,vi (zY (ra+i))),(26,vu v)]<| T_c (some 27) h ?_;clear h
  rintro e H2 ⟨a,rfl,h⟩
  refine⟨[(27,vi a)],pk,?_⟩
  exact T_nr 1 [8] [vi a] hQ h
 rw[if_neg c1]at h
 exact aI 18 (congrArg Bool.not (zZ c1))<| ar 3<| T_nr 1 [8] [vi 3] hQ h
end ee

