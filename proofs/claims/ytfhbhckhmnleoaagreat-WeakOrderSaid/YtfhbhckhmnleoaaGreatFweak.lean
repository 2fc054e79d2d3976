/- Printed: what each function asks, and that it is sound. -/
import Derived.Test.YtfhbhckhmnleoaaGreatFnsC
set_option linter.unusedSimpArgs false
set_option linter.unusedVariables false
set_option maxRecDepth 100000
set_option maxHeartbeats 1000000
noncomputable section
namespace Go.Proofs.YtfhbhckhmnleoaaGreat
open Go Go.Proofs.Tryz
variable{H:zV}{a:zj}{b g i:Int}{d:zW}
/-! moraine/obj.New -/
namespace gG
def K0:=Func.code f8
end gG
def gG.pt(a:Int)(H:zV)(R:zj):Prop:=
 gi.C a H (λv H1=> ∃ra rb,v=.tuple #[vp ra,vi rb]/\
 if rb=0 then(
 ∀b H2,b=H1.size->H2=H1.push (.cells #[vp ra,vN,vN,vu 0] 51)->
 R (.tuple #[vq (ad b),vi 0]) H2)
 else
 R (.tuple #[vp none,vi rb]) H1)
namespace gG
theorem link(h:pt b H a):C b H a:=by
 refine T_en K0 17 func8 ?_
 intro w0 Q hQ
 unfold pt at h
 refine T_su [(0,vi b)]<|aA 0<|T_ed 2 [] []<|aA 1<|T_n 1 [(7,vi b)]<|T_c (some 8) h ?_;clear h
 rintro v H1 ⟨ra,rb,rfl,h⟩
 refine⟨[(8,.tuple #[vp ra,vi rb])],pk,?_⟩
 refine T_ne 5 [(4,vp ra),(5,vi rb)]<|T_sz<|aA 2<|T_ed 2 [] [(12,.bool (rb !=0))] ?_
 revert h;refine iO_ (λc1 h=>?_) (λc1 h=>?_)
 ·refine aK 12 (bne_eq_false_iff_eq.mpr c1)<|T_kt<|aA 4<|T_n 2 [(15,.agg #[vp ra,vN,vN,vu 0])]<|T_nw (some 16) (λR=>vp (pa R)) (.cells #[vp ra,vN,vN,vu 0] 51) ?_
  intro R H2 e3 e4
  replace h:=h R H2 e3 e4
  refine⟨[(16,vp (pa R))],pk,?_⟩
  exact T_nr 2 [2,3] [vp (pa R),vi 0] hQ h
 exact aJ 12 (bne_iff_ne.mpr c1)<|aA 3<|T_nr 3 [2,3] [vp none,vi rb] hQ h
end gG
/-! (*moraine/obj.Heap).Make -/
namespace cY
def K0:=Func.code f10
end cY
def cY.pt(hv:zW)(a d:Int)(lB:zW)(lN lC:Nat)(H:zV)(R:zj):Prop:=
 eJ.C a 0 d H (λv H1=> ∃ra rb,v=.tuple #[vu ra,vi rb]/\
 if rb=0 then(
 if(lN:Int)>62 then(
 R (.tuple #[vu 0,vi 6]) H1)
 else
 eJ.C a (lN:Int) d H1 (λk H2=> ∃e i,k=.tuple #[vu e,vi i]/\
 gH.C a H2 (λn H3=> ∃x,n=vi x/\
 ∀b H4,b=H3.size->H4=H3.push (.cells #[vu e] 28)->
 fy 1 28 8 [vu 0] (some (ad b)) 1 1 lB lN H4 (λap j H5=>
 dy.C hv x 3 ap (1+lN) j H5 (λm H6=> ∃g f,m=.tuple #[vu g,vi f]/\
 R (.tuple #[vu g,vi f]) H6)))))
 else
 R (.tuple #[vu 0,vi rb]) H1)
namespace cY
theorem link{lB:zW}{lN lC:Nat}(h:pt d b g lB lN lC H a):C d b g lB lN lC H a:=by
 refine T_en K0 44 func10 ?_
 intro w0 Q hQ
 unfold pt at h
 refine T_su [(0,vp d),(1,vi b),(2,vu g),(3,vs lB lN lC)]<|aA 0<|T_ed 2 [] []<|T_sz<|aA 1<|T_nd 2 [] [(15,vi b),(16,vu g)]<|T_c (some 17) h ?_;clear h
 rintro v H1 ⟨ra,rb,rfl,h⟩
 refine T_pd [15,16] [(17,.tuple #[vu ra,vi rb])]<|T_ed 5 [17] [(11,vi rb)]<|aA 2<|T_ed 2 [] [(21,.bool (rb !=0))] ?_
 revert h;refine iO_ (λc1 h=>?_) (λc1 h=>?_)
 ·refine aK 21 (bne_eq_false_iff_eq.mpr c1)<|T_kt<|T_sz<|aA 4<|T_ed 3 [11,21] [(25,.bool (decide ((lN:Int)>62)))] ?_
  revert h;refine iO_ (λc3 h=>?_) (λc3 h=>?_)
  ·exact aJ 25 (zX c3)<|aA 5<|T_nr 2 [8,9] [vu 0,vi 6] hQ h
  refine aK 25 (zQ c3)<|T_kt<|aA 6<|T_nd 4 [2,25] [(27,vi b),(29,vi lN),(30,vu g)]<|T_c (some 31) h ?_;clear h
  rintro k H2 ⟨e,i,rfl,h⟩
  refine T_pd [27,29,30] [(31,.tuple #[vu e,vi i])]<|T_ed 5 [31] [(12,vu e)]<|aA 7<|T_nd 2 [0,1] [(34,vp d),(35,vi b)]<|T_c (some 36) h ?_;clear h
  rintro n H3 ⟨x,rfl,h⟩
  refine T_pd [35] [(36,vi x)]<|T_nd 1 [12] [(37,vu e)]<|T_nw (some 38) (λR=>vs (pa R) 1 1) (.cells #[vu e] 28) ?_
  intro R H4 e5 e6
  replace h:=h R H4 e5 e6
  refine T_pd [37] [(38,vs (pa R) 1 1)]<|T_nd 1 [3] [(39,vs lB lN lC)]<|N_op (some 40) (fl #[32,32] 32 #[vs (pa R) 1 1,vs lB lN lC]) _ (λ_=>by kernel_rfl) (fd (T:=28) (sz:=1) (bytes:=8) (zero:=(vu 0:Value)) underlying32 underlying32 rfl (show prog.info? 28=some t28 from by kernel_rfl) (by kernel_rfl) (by kernel_rfl) (by decide) (by kernel_rfl) (by first | exact h | (simpa only[Value.cells,List.toList_toArray]using h))) ?_;clear h
  rintro _ H5 ⟨ap,j,rfl,h⟩
  refine T_pd [38,39] [(40,vs ap (1+lN) j)]<|T_c (some 41) h ?_;clear h
  rintro m H6 ⟨hv,f,rfl,h⟩
  refine⟨[(41,.tuple #[vu hv,vi f])],pk,?_⟩
  exact T_nr 4 [8,9] [vu hv,vi f] hQ h
 exact aJ 21 (bne_iff_ne.mpr c1)<|aA 3<|T_nr 3 [8,9] [vu 0,vi rb] hQ h
end cY
/-! (*moraine/obj.Heap).Type -/
namespace dJ
def K0:=Func.code f30
end dJ
def dJ.pt(hv:zW)(wv:Int)(H:zV)(R:zj):Prop:=
 bK.C hv wv H (λv H1=> ∃ra rb rc rd re,v=.tuple #[vi ra,vi rb,vi rc,vu rd,.bool re]/\
 R (vi rb) H1)
namespace dJ
theorem link(h:pt d b H a):C d b H a:=by
 refine T_en K0 20 func30 ?_
 intro w0 Q hQ
 unfold pt at h
 refine T_su [(0,vp d),(1,vu b)]<|aA 0<|T_ed 1 [] []<|aA 1<|T_n 2 [(11,vp d),(12,vu b)]<|T_c (some 13) h ?_;clear h
 rintro v H1 ⟨ra,rb,rc,rd,re,rfl,h⟩
 refine⟨[(13,.tuple #[vi ra,vi rb,vi rc,vu rd,.bool re])],pk,?_⟩
 exact T_ne 11 [(6,vi rb)]<|aA 2<|T_nr 2 [4] [vi rb] hQ h
end dJ
/-! (*moraine/obj.Heap).Get -/
namespace dd
def K0:=Func.code f41
end dd
def dd.pt(hv:zW)(wv a i:Int)(H:zV)(R:zj):Prop:=
 cZ.C hv wv a i H (λv H1=> ∃ra rb,v=.tuple #[vi ra,vi rb]/\
 if rb=0 then(
 ∃f,hv=some f/\
 ∃x,hat H1 f=some (vp x)/\
 ∃xA,x=some xA/\
 ∃j,hat H1 xA=some (vp j)/\
 ∃g,j=some g/\
 ∃e,hat H1 g=some (vp e)/\
 bN.C e ra H1 (λk H2=> ∃b d,k=.tuple #[vu b,vi d]/\
 R (.tuple #[vu b,vi d]) H2))
 else
 R (.tuple #[vu 0,vi rb]) H1)
namespace dd
theorem link(h:pt d b g i H a):C d b g i H a:=by
 refine T_en K0 37 func41 ?_
 intro w0 Q hQ
 unfold pt at h
 refine T_su [(0,vp d),(1,vu b),(2,vi g),(3,vi i)]<|aA 0<|T_ed 2 [] []<|aA 1<|T_n 4 [(0,vp d),(13,vp d),(14,vu b),(15,vi g),(16,vi i)]<|T_c (some 17) h ?_;clear h
 rintro v H1 ⟨ra,rb,rfl,h⟩
 refine⟨[(0,vp d),(17,.tuple #[vi ra,vi rb])],pk,?_⟩
 refine T_ed 5 [17] [(10,vi ra),(11,vi rb)]<|T_sz<|aA 2<|T_ed 2 [] [(21,.bool (rb !=0))] ?_
 revert h;refine iO_ (λc1 h=>?_) (λc1 h=>?_)
 ·refine aK 21 (bne_eq_false_iff_eq.mpr c1)<|T_kt<|aA 4<|T_n 1 [(10,vi ra),(23,vp d)] ?_
  obtain⟨f,rfl,h⟩:=h
  refine T_nd 2 [23] [(25,vq f)] ?_
  obtain⟨x,q3,h⟩:=h
  refine T_l1 26 49 q3 [25] ?_
  obtain⟨xA,rfl,h⟩:=h
  refine T_nd 2 [26] [(28,vq xA)] ?_
  obtain⟨j,q4,h⟩:=h
  refine T_l1 29 52 q4 [28] ?_
  obtain⟨hv,rfl,h⟩:=h
  refine T_nd 2 [29] [(31,vq hv)] ?_
  obtain⟨e,q5,h⟩:=h
  refine T_l1 32 78 q5 [31]<|T_nd 1 [10] [(33,vi ra)]<|T_c (some 34) h ?_;clear h
  rintro k H2 ⟨R,wv,rfl,h⟩
  refine⟨[(34,.tuple #[vu R,vi wv])],pk,?_⟩
  exact T_nr 4 [8,9] [vu R,vi wv] hQ h
 exact aJ 21 (bne_iff_ne.mpr c1)<|aA 3<|T_nr 3 [8,9] [vu 0,vi rb] hQ h
end dd
/-! (*moraine/obj.Heap).put -/
namespace dy
def K0:=Func.code f43
def K2:=cb K0
def K4:=cb K2
def K12:=cb K4
def K14:=cb K12
def K19:=ca K14
def K22:=cb K19
def K23:=ca K22
def K24:=ca K23
end dy
def dy.pt(hv:zW)(f d:Int)(lB:zW)(lN lC:Nat)(H:zV)(R:zj):Prop:=
 da.C hv H (λv H1=> ∃x,v=.bool x/\
 if x=true then(
 R (.tuple #[vu 0,vi 2]) H1)
 else
 ∃e,hv=some e/\
 ∃y,hat H1 e=some (vp y)/\
 ∃u,y=some u/\
 ∃p,hat H1 u=some (vp p)/\
 bO.C p 0 f (lN:Int) H1 (λab H2=> ∃ra rb,ab=.tuple #[vi ra,vi rb]/\
 if rb=0 then(
 ∃(s:zk) (m25:Int->zV->Nat),s 0 H2/\ ∀b H3,s b H3->
 if b< (lN:Int)then(
 ∃g,lB=some g/\
 zv b lN/\
 ∃j,hat H3 (g.add (Int.toNat b*1))=some (vu j)/\
 ∃r,hat H3 e=some (vp r)/\
 ∃z,r=some z/\
 ∃q,hat H3 z=some (vp q)/\
 ∃aa,q=some aa/\
 ∃o,hat H3 aa=some (vp o)/\
 bG.C o (zY (ra+b)) j H3 (λaf H4=> ∃ae,af=vi ae/\
 (s (zY (b+1)) H4/\m25 (zY (b+1)) H4<m25 b H3)))
 else
 fK.C d ra H3 (λac H5=> ∃n m,ac=.tuple #[vu n,vi m]/\
 R (.tuple #[vu n,vi m]) H5))
 else
 R (.tuple #[vu 0,vi rb]) H2))
namespace dy
theorem link{lB:zW}{lN lC:Nat}(h:pt d b g lB lN lC H a):C d b g lB lN lC H a:=by
 refine T_en K0 61 func43 ?_
 intro w0 Q hQ
 unfold pt zY at h
 refine T_su [(0,vp d),(1,vi b),(2,vi g),(3,vs lB lN lC)]<|aA 0<|T_ed 2 [] []<|T_sz<|aA 1<|T_nd 1 [] [(14,vp d)]<|T_c (some 15) h ?_;clear h
 rintro v H1 ⟨x,rfl,h⟩
 refine T_pd [14] [(15,.bool x)]<|T_e ?_
 revert h;refine iO_ (λc1 h=>?_) (λc1 h=>?_)
 ·exact aJ 15 c1<|aA 2<|T_nr 2 [8,9] [vu 0,vi 2] hQ h
 refine aK 15 (zZ c1)<|T_kt<|aA 3<|T_nd 1 [15] [(17,vp d)] ?_
 obtain⟨e,rfl,h⟩:=h
 refine T_nd 2 [0,17] [(0,vq e),(19,vq e)] ?_
 obtain⟨y,q3,h⟩:=h
 refine T_l1 20 49 q3 [19] ?_
 obtain⟨u,rfl,h⟩:=h
 refine T_nd 2 [20] [(22,vq u)] ?_
 obtain⟨p,q4,h⟩:=h
 refine T_l1 23 52 q4 [22]<|T_nd 3 [1] [(24,vi b),(26,vi lN)]<|T_c (some 27) h ?_;clear h
 rintro ab H2 ⟨ra,rb,rfl,h⟩
 refine T_pd [23,24,26] [(27,.tuple #[vi ra,vi rb])]<|T_ed 5 [27] [(10,vi ra),(11,vi rb)]<|T_sz<|aA 4<|T_ed 2 [] [(31,.bool (rb !=0))] ?_
 revert h;refine iO_ (λc5 h=>?_) (λc5 h=>?_)
 ·refine aK 31 (bne_eq_false_iff_eq.mpr c5)<|T_kt<|T_sz<|aA 6<|T_ed 3 [3,11,31] [(33,vs lB lN lC),(34,vi lN),(35,vi 0)]<|T_bz 0 ?_
  obtain⟨s,m25,i7,i8⟩:=h
  refine cX (x:=K24) (σ:=Int) (λs_=> [(0,vq e),(2,vi g),(10,vi ra),(33,vs lB lN lC),(34,vi lN),(35,vi s_)]) (λs_ H=>s s_ H) (λs_ H=>m25 s_ H) (0:Int) (by kernel_rfl) i7 sk ?_
  rintro R H3 i9
  have h:=i8 R H3 i9
  refine T_su [(0,vq e),(2,vi g),(10,vi ra),(33,vs lB lN lC),(34,vi lN),(35,vi R)]<|aA 7<|T_ed 1 [] [(36,.bool (decide (R< (lN:Int))))]<|T_sz ?_
  revert h;refine iO_ (λc10 h=>?_) (λc10 h=>?_)
  ·refine aJ 36 (zX c10)<|T_kt<|T_sz<|T_bz 1<|aA 8<|T_nd 1 [36] [(37,vi R)] ?_
   obtain⟨f,rfl,q12,h⟩:=h
   refine T_xd (some 38) 32 28 1 f lN lC .i64 R underlying32 q12.1 q12.2 [33] [(33,vs (some f) lN lC),(38,vq (f.add (Int.toNat R*1)))] ?_
   obtain⟨j,q13,h⟩:=h
   refine T_l1 39 28 q13 [38]<|T_ed 2 [37,39] [(12,vi R),(13,vu j)]<|T_rz 9<|T_nd 3 [] [(42,vq e)] ?_
   obtain⟨r,q14,h⟩:=h
   refine T_l1 43 49 q14 [42] ?_
   obtain⟨z,rfl,h⟩:=h
   refine T_nd 2 [43] [(45,vq z)] ?_
   obtain⟨q,q15,h⟩:=h
   refine T_l1 46 52 q15 [45] ?_
   obtain⟨aa,rfl,h⟩:=h
   refine T_nd 2 [46] [(48,vq aa)] ?_
   obtain⟨o,q16,h⟩:=h
   refine T_l1 49 78 q16 [48]<|T_nd 4 [12,13] [(52,vi (zY (ra+R))),(53,vu j)]<|T_c (some 54) h ?_;clear h
   rintro af H4 ⟨ae,rfl,h⟩
   exact T_pd [49,52,53] []<|zq<|aD<|aE<|T_rz 10<|T_ed 2 [35] [(35,vi (zY (R+1)))]<|aT ((zY (R+1)):Int) sk h
  refine aK 36 (zQ c10)<|zz 0<|aB<|aB<|aN<|aE<|aA 11<|T_n 2 [(56,vi g),(57,vi ra)]<|T_c (some 58) h ?_;clear h
  rintro ac H5 ⟨n,m,rfl,h⟩
  refine⟨[(58,.tuple #[vu n,vi m])],pk,?_⟩
  exact T_nr 4 [8,9] [vu n,vi m] hQ h
 exact aJ 31 (bne_iff_ne.mpr c5)<|aA 5<|T_nr 3 [8,9] [vu 0,vi rb] hQ h
end dy
/-! moraine/obj.raw -/
namespace gH
def K0:=Func.code f44
end gH
def gH.pt(a:Int)(H:zV)(R:zj):Prop:=
 if((a==2) || (a==3))=true then(
 R (vi 3) H)
 else
 R (vi 2) H
namespace gH
theorem link(h:pt b H a):C b H a:=by
 refine T_en K0 9 func44 ?_
 intro w0 Q hQ
 unfold pt at h
 refine T_su [(0,vi b)]<|aA 0<|T_ed 1 [] []<|T_sz<|aA 1 ?_
 refine fx [(8,.bool ((b==2) || (b==3)))] ?_ ?_
 ·refine aE ?_
  revert h;refine iO_ (λc3 h=>?_) (λc3 h=>?_)
  ·exact aJ 8 c3<|aA 2<|T_nr 1 [2] [vi 3] hQ h
  exact aK 8 (zZ c3)<|T_kt<|aA 3<|T_nr 1 [2] [vi 2] hQ h
 intro hk
 refine T_n 3 [(0,vi b),(5,.bool (b==2))] ?_
 by_cases c1:b=2
 ·have b2:(b==2)=true:=zK c1
  refine bT [(0,vi b),(5,vT)] (by rw[b2]) ?_
  refine T_n 3 [(8,vT)]<|zq<|fc [(8,.bool ((b==2) || (b==3)))] (by simp only[b2,BL]) ?_
  exact hk
 have b2:(b==2)=false:=zJ c1
 refine bT [(0,vi b),(5,vF)] (by rw[b2]) ?_
 refine T_n 3 [(8,.bool (b==3))]<|zq<|fc [(8,.bool ((b==2) || (b==3)))] (by simp only[b2,BL]) ?_
 exact hk
end gH
/-! (*moraine/obj.Heap).object -/
namespace bK
def K0:=Func.code f73
def K2:=cb K0
def K3:=ca K2
def K6:=cb K3
def K7:=ca K6
def K8:=ca K7
end bK
def bK.pt(hv:zW)(wv:Int)(H:zV)(R:zj):Prop:=
 ∃(I9:zk) (m9:Int->zV->Nat),I9 0 H/\ ∀a H1,I9 a H1->
 if a<2 then(
 ∃x,((0<=a/\a< (2:Int))/\(#[vi 2,vi 3]:Array Value)[Int.toNat a]?=some (vi x))/\
 dV.C hv wv 3 x H1 (λv H2=> ∃ra rb,v=.tuple #[vi ra,.bool rb]/\
 if rb=true then(
 ∃e,hv=some e/\
 ∃af,hat H2 e=some (vp af)/\
 ∃ae,af=some ae/\
 ∃ag,hat H2 ae=some (vp ag)/\
 ∃ab,ag=some ab/\
 ∃z,hat H2 ab=some (vp z)/\
 bN.C z ra H2 (λak H3=> ∃p aj,ak=.tuple #[vu p,vi aj]/\
 fO.C p H3 (λan H4=> ∃f d rc rd,an=.tuple #[vi f,vi d,vu rc,.bool rd]/\
 ∃ac,hat H4 e=some (vp ac)/\
 ∃ah,ac=some ah/\
 ∃aa,hat H4 ah=some (vp aa)/\
 ∃ai,aa=some ai/\
 ∃y,hat H4 ai=some (vp y)/\
 bA.C y (zY (Int.tdiv ra 64)) H4 (λam H5=> ∃o m r g k j i s,am=.tuple #[.agg #[vi o,vi m,vi r,vi g,vi k,vi j,vi i],.bool s]/\
 ∀b H6,b=H5.size->H6=H5.push (.cells #[vi 0,vi 0,vi 0,vi 0,vi 0,vi 0,vi 0] 108)->
 (aM H6 (ad b) 0 7)/\ ∀H7,H7=aP H6 (ad b) [vi o,vi m,vi r,vi g,vi k,vi j,vi i] 0->
 if rd=true then(
 gH.C f H7 (λal H8=> ∃u,al=vi u/\
 if u=x then(
 ∃q,hat H8 ((ad b).add 2)=some (vi q)/\
 if(zY ((Int.tmod ra 64)+d))<q then(
 R (.tuple #[vi ra,vi f,vi d,vu rc,vT]) H8)
 else
 (I9 (zY (a+1)) H8/\m9 (zY (a+1)) H8<m9 a H1))
 else
 (I9 (zY (a+1)) H8/\m9 (zY (a+1)) H8<m9 a H1)))
 else
 (I9 (zY (a+1)) H7/\m9 (zY (a+1)) H7<m9 a H1)))))
 else
 (I9 (zY (a+1)) H2/\m9 (zY (a+1)) H2<m9 a H1)))
 else
 R (.tuple #[vi 0,vi 0,vi 0,vu 0,vF]) H1
namespace bK
theorem link(h:pt d b H a):C d b H a:=by
 refine T_en K0 87 func73 ?_
 intro w0 Q hQ
 unfold pt zY at h
 refine T_su [(0,vp d),(1,vu b)]<|aA 0<|T_ed 5 [] []<|T_sz<|aA 1<|T_ed 2 [] [(15,.agg #[vi 2,vi 3]),(16,vi 0)]<|T_bz 0 ?_
 obtain⟨I9,m9,i1,i2⟩:=h
 refine cX (x:=K8) (σ:=Int) (λs_=> [(0,vp d),(1,vu b),(15,.agg #[vi 2,vi 3]),(16,vi s_)]) (λs_ H=>I9 s_ H) (λs_ H=>m9 s_ H) (0:Int) (by kernel_rfl) i1 sk ?_
 rintro R H1 i3
 have h:=i2 R H1 i3
 refine T_su [(0,vp d),(1,vu b),(15,.agg #[vi 2,vi 3]),(16,vi R)]<|aA 2<|T_ed 1 [] [(17,.bool (decide (R<2)))]<|T_sz ?_
 revert h;refine iO_ (λc4 h=>?_) (λc4 h=>?_)
 ·refine aJ 17 (zX c4)<|T_kt<|T_sz<|T_bz 1<|aA 3<|T_ud [17] [] ?_
  obtain⟨x,q6,h⟩:=h
  refine T_v1 18 (kG 181 (.agg #[vi 2,vi 3]) (vi R)) (vi x) (λw _=>iB (P:=prog) (t:=181) (elem:=3) (n:=2) underlying181 (λ_=>by kernel_rfl) (λ_=>by kernel_rfl) q6.1.1 q6.1.2 q6.2 w) []<|T_ed 1 [18] [(10,vi x)]<|T_sz<|aA 4<|T_nd 3 [] [(20,vp d),(21,vu b),(22,vi x)]<|T_c (some 23) h ?_;clear h
  rintro v H2 ⟨ra,rb,rfl,h⟩
  refine T_pd [20,21,22] [(23,.tuple #[vi ra,.bool rb])]<|T_ed 5 [23] [(4,vi ra),(8,.bool rb)]<|aA 5<|T_ed 2 [8] [(27,.bool (!rb))] ?_
  revert h;refine iO_ (λc7 h=>?_) (λc7 h=>?_)
  ·refine aK 27 (congrArg Bool.not (c7))<|T_kt<|aA 6<|T_nd 1 [27] [(29,vp d)] ?_
   obtain⟨e,rfl,h⟩:=h
   refine T_nd 2 [0,29] [(0,vq e),(31,vq e)] ?_
   obtain⟨af,q9,h⟩:=h
   refine T_l1 32 49 q9 [31] ?_
   obtain⟨ae,rfl,h⟩:=h
   refine T_nd 2 [32] [(34,vq ae)] ?_
   obtain⟨ag,q10,h⟩:=h
   refine T_l1 35 52 q10 [34] ?_
   obtain⟨ab,rfl,h⟩:=h
   refine T_nd 2 [35] [(37,vq ab)] ?_
   obtain⟨z,q11,h⟩:=h
   refine T_l1 38 78 q11 [37]<|T_nd 1 [] [(39,vi ra)]<|T_c (some 40) h ?_;clear h
   rintro ak H3 ⟨p,aj,rfl,h⟩
   refine T_pd [38,39] [(40,.tuple #[vu p,vi aj])]<|T_ed 5 [40] [(11,vu p)]<|aA 7<|T_nd 1 [11] [(44,vu p)]<|T_c (some 45) h ?_;clear h
   rintro an H4 ⟨f,hv,rc,rd,rfl,h⟩
   refine T_pd [44] [(45,.tuple #[vi f,vi hv,vu rc,.bool rd])]<|T_ed 9 [45] [(5,vi f),(6,vi hv),(7,vu rc),(8,.bool rd)]<|aA 8<|T_nd 3 [] [(53,vq e)] ?_
   obtain⟨ac,q12,h⟩:=h
   refine T_l1 54 49 q12 [53] ?_
   obtain⟨ah,rfl,h⟩:=h
   refine T_nd 2 [54] [(56,vq ah)] ?_
   obtain⟨aa,q13,h⟩:=h
   refine T_l1 57 52 q13 [56] ?_
   obtain⟨ai,rfl,h⟩:=h
   refine T_nd 2 [57] [(59,vq ai)] ?_
   obtain⟨y,q14,h⟩:=h
   refine T_l1 60 78 q14 [59]<|T_nd 2 [] [(62,vi (zY (Int.tdiv ra 64)))]<|T_c (some 63) h ?_;clear h
   rintro am H5 ⟨o,m,r,g,k,j,i,s,rfl,h⟩
   refine T_pd [60,62] [(63,.tuple #[.agg #[vi o,vi m,vi r,vi g,vi k,vi j,vi i],.bool s])]<|T_nd 3 [63] [(64,.agg #[vi o,vi m,vi r,vi g,vi k,vi j,vi i]),(65,.bool s)]<|T_nw (some 13) (λwv=>vp (pa wv)) (.cells #[vi 0,vi 0,vi 0,vi 0,vi 0,vi 0,vi 0] 108) ?_
   intro wv H6 e15 e16
   replace h:=h wv H6 e15 e16
   refine T_pd [] [(13,vp (pa wv))] ?_
   obtain⟨q18,h⟩:=h
   refine fT 108 [vi o,vi m,vi r,vi g,vi k,vi j,vi i] q18 ?_
   intro H7 e17
   replace h:=h H7 e17
   refine T_pd [64] []<|T_ed 1 [65] []<|aA 9<|T_nd 2 [8] [(67,.bool rd)] ?_
   revert h;refine iO_ (λc19 h=>?_) (λc19 h=>?_)
   ·refine N_bd 67 c19<|T_nd 1 [] [(68,vi f)] ?_
    refine T_c (some 69) h ?_;clear h
    rintro al H8 ⟨u,rfl,h⟩
    refine T_pd [68] [(69,vi u)]<|T_nd 4 [10,67,69] [(73,.bool (u==x))] ?_
    revert h;refine iO_ (λc21 h=>?_) (λc21 h=>?_)
    ·refine N_bd 73 (zK c21)<|T_nd 5 [13] [(77,vi (zY ((Int.tmod ra 64)+hv))),(78,vq ((ad wv).add 2))] ?_
     obtain⟨q,q23,h⟩:=h
     refine T_l1 79 3 q23 [78]<|T_ed 2 [73,77,79] [(81,.bool (decide ((zY ((Int.tmod ra 64)+hv))<q)))] ?_
     revert h;refine iO_ (λc24 h=>?_) (λc24 h=>?_)
     ·exact aJ 81 (zX c24)<|aA 10<|T_nr 9 [4,5,6,7,8] [vi ra,vi f,vi hv,vu rc,vT] hQ h
     exact aK 81 (zQ c24)<|T_k<|aD<|aE<|T_rz 11<|T_ed 2 [4,5,6,7,16,81] [(16,vi (zY (R+1)))]<|aT ((zY (R+1)):Int) sk h
    refine N_bd 73 (zJ c21)<|T_ed 8 [13,73] [(81,vF)]<|T_fz 81<|T_k ?_
    exact aD<|aE<|T_rz 11<|T_ed 2 [4,5,6,7,16,81] [(16,vi (zY (R+1)))]<|aT ((zY (R+1)):Int) sk h
   refine N_bd 67 (zZ c19)<|T_ed 14 [10,13,67] [(81,vF)]<|T_fz 81<|T_k ?_
   exact aD<|aE<|T_rz 11<|T_ed 2 [4,5,6,7,16,81] [(16,vi (zY (R+1)))]<|aT ((zY (R+1)):Int) sk h
  exact aJ 27 (congrArg Bool.not (zZ c7))<|zz 1<|aB<|aN<|aE<|T_rz 11<|T_ed 2 [4,10,16,27] [(16,vi (zY (R+1)))]<|aT ((zY (R+1)):Int) sk h
 exact aK 17 (zQ c4)<|zz 0<|aB<|aB<|aN<|aE<|aA 12<|T_nr 5 [4,5,6,7,8] [vi 0,vi 0,vi 0,vu 0,vF] hQ h
end bK
/-! (*moraine/obj.Heap).field -/
namespace cZ
def K0:=Func.code f85
end cZ
def cZ.pt(hv:zW)(wv a i:Int)(H:zV)(R:zj):Prop:=
 bK.C hv wv H (λv H1=> ∃ra rb rc rd re,v=.tuple #[vi ra,vi rb,vi rc,vu rd,.bool re]/\
 if((!re) || (rb !=a))=true then(
 R (.tuple #[vi 0,vi 3]) H1)
 else
 if((decide (i<0)) || (decide (i>=rc)))=true then(
 R (.tuple #[vi 0,vi 4]) H1)
 else
 R (.tuple #[vi (zY ((zY (ra+1))+i)),vi 0]) H1)
namespace cZ
theorem link(h:pt d b g i H a):C d b g i H a:=by
 refine T_en K0 44 func85 ?_
 intro w0 Q hQ
 unfold pt zY at h
 refine T_su [(0,vp d),(1,vu b),(2,vi g),(3,vi i)]<|aA 0<|T_ed 2 [] []<|aA 1<|T_nd 2 [0,1] [(16,vp d),(17,vu b)]<|T_c (some 18) h ?_;clear h
 rintro v H1 ⟨ra,rb,rc,rd,re,rfl,h⟩
 refine T_pd [16,17] [(18,.tuple #[vi ra,vi rb,vi rc,vu rd,.bool re])]<|T_ed 11 [18] [(10,vi ra),(11,vi rb),(12,vi rc),(14,.bool re)]<|T_sz<|T_bz 0<|aA 2 ?_
 refine fx [(3,vi i),(10,vi ra),(12,vi rc),(24,.bool ((!re) || (rb !=g)))] ?_ ?_
 ·refine aE ?_
  revert h;refine iO_ (λc3 h=>?_) (λc3 h=>?_)
  ·exact aJ 24 c3<|aA 3<|T_nr 2 [8,9] [vi 0,vi 3] hQ h
  refine aK 24 (zZ c3)<|aA 4 ?_
  refine fx [(3,vi i),(10,vi ra),(32,.bool ((decide (i<0)) || (decide (i>=rc))))] ?_ ?_
  ·refine aE ?_
   revert h;refine iO_ (λc7 h=>?_) (λc7 h=>?_)
   ·exact aJ 32 c7<|aA 5<|T_nr 2 [8,9] [vi 0,vi 4] hQ h
   exact aK 32 (zZ c7)<|T_k<|aD<|aE<|aA 6<|T_nr 6 [8,9] [vi (zY ((zY (ra+1))+i)),vi 0] hQ h
  intro hk
  refine T_n 3 [(3,vi i),(10,vi ra),(12,vi rc),(35,.bool (decide (i<0)))] ?_
  by_cases c5:i<0
  ·have b6:(decide (i<0))=true:=zX c5
   refine bT [(3,vi i),(10,vi ra),(12,vi rc),(35,vT)] (by rw[b6]) ?_
   refine T_nd 5 [12,35] [(32,vT)]<|zq<|S_bd 32 (b:=true) (v:=((decide (i<0)) || (decide (i>=rc)))) (by simp only[b6,BL]) ?_
   exact hk
  have b6:(decide (i<0))=false:=zQ c5
  refine bT [(3,vi i),(10,vi ra),(12,vi rc),(35,vF)] (by rw[b6]) ?_
  refine T_nd 5 [12,35] [(32,.bool (decide (i>=rc)))]<|zq<|S_bd 32 (b:=(decide (i>=rc))) (v:=((decide (i<0)) || (decide (i>=rc)))) (by simp only[b6,BL]) ?_
  exact hk
 intro hk
 refine T_n 3 [(2,vi g),(3,vi i),(10,vi ra),(11,vi rb),(12,vi rc),(27,.bool (!re))] ?_
 by_cases c1:re=true
 ·have b2:(!re)=false:=congrArg Bool.not (c1)
  have b22:re=true:=c1
  refine bT [(2,vi g),(3,vi i),(10,vi ra),(11,vi rb),(12,vi rc),(27,vF)] (by simp only[b2,b22,Bool.not_true,Bool.not_false]) ?_
  refine T_nd 5 [2,11,27] [(24,.bool (rb !=g))]<|zq<|S_bd 24 (b:=(rb !=g)) (v:=((!re) || (rb !=g))) (by simp only[b2,BL]) ?_
  exact hk
 have b2:(!re)=true:=congrArg Bool.not (zZ c1)
 have b22:re=false:=zZ c1
 refine bT [(2,vi g),(3,vi i),(10,vi ra),(11,vi rb),(12,vi rc),(27,vT)] (by simp only[b2,b22,Bool.not_true,Bool.not_false]) ?_
 refine T_nd 5 [2,11,27] [(24,vT)]<|zq<|S_bd 24 (b:=true) (v:=((!re) || (rb !=g))) (by simp only[b2,BL]) ?_
 exact hk
end cZ
/-! (*moraine/obj.Heap).none -/
namespace da
def K0:=Func.code f86
end da
def da.pt(hv:zW)(H:zV)(R:zj):Prop:=
 eM hv (
 R vT H) (λa=>
 ∃x,hat H a=some (vp x)/\
 eM x (
 R vT H) (λxA=>
 R vF H))
namespace da
theorem link(h:pt d H a):C d H a:=by
 refine T_en K0 12 func86 ?_
 intro w0 Q hQ
 unfold pt at h
 refine T_su [(0,vp d)]<|aA 0<|T_ed 1 [] []<|aA 1<|T_nd 1 [] [(3,vp d)] ?_
 rcases d with _ | R
 ·rw[onPtr_none]at h
  exact T_nr 9 [2] [vT] hQ h
 rw[onPtr_some]at h
 refine T_n 5 [(5,vF),(8,vq R)] ?_
 obtain⟨x,q1,h⟩:=h
 refine T_l1 9 49 q1 [8] ?_
 rcases x with _ | xA
 ·rw[onPtr_none]at h
  exact T_nr 3 [2] [vT] hQ h
 rw[onPtr_some]at h
 exact T_nr 3 [2] [vF] hQ h
end da
/-! (*moraine/obj.Heap).Len -/
namespace eD
def K0:=Func.code f101
end eD
def eD.pt(hv:zW)(wv:Int)(H:zV)(R:zj):Prop:=
 bK.C hv wv H (λv H1=> ∃ra rb rc rd re,v=.tuple #[vi ra,vi rb,vi rc,vu rd,.bool re]/\
 R (vi rc) H1)
namespace eD
theorem link(h:pt d b H a):C d b H a:=by
 refine T_en K0 20 func101 ?_
 intro w0 Q hQ
 unfold pt at h
 refine T_su [(0,vp d),(1,vu b)]<|aA 0<|T_ed 1 [] []<|aA 1<|T_n 2 [(11,vp d),(12,vu b)]<|T_c (some 13) h ?_;clear h
 rintro v H1 ⟨ra,rb,rc,rd,re,rfl,h⟩
 refine⟨[(13,.tuple #[vi ra,vi rb,vi rc,vu rd,.bool re])],pk,?_⟩
 exact T_ne 11 [(7,vi rc)]<|aA 2<|T_nr 2 [4] [vi rc] hQ h
end eD
/-! (*moraine/obj.Heap).Set -/
namespace di
def K0:=Func.code f104
end di
def di.pt(hv:zW)(wv a i v:Int)(H:zV)(R:zj):Prop:=
 cZ.C hv wv a i H (λe H1=> ∃ra rb,e=.tuple #[vi ra,vi rb]/\
 if rb=0 then(
 ∃d,hv=some d/\
 ∃x,hat H1 d=some (vp x)/\
 cE.C x ra v H1 (λf H2=> ∃b,f=vi b/\
 R (vi b) H2))
 else
 R (vi rb) H1)
namespace di
theorem link{v:Int}(h:pt d b g i v H a):C d b g i v H a:=by
 refine T_en K0 31 func104 ?_
 intro w0 Q hQ
 unfold pt at h
 refine T_su [(0,vp d),(1,vu b),(2,vi g),(3,vi i),(4,vu v)]<|aA 0<|T_ed 1 [] []<|aA 1<|T_nd 4 [1,2,3] [(14,vp d),(15,vu b),(16,vi g),(17,vi i)]<|T_c (some 18) h ?_;clear h
 rintro e H1 ⟨ra,rb,rfl,h⟩
 refine T_pd [14,15,16,17] [(18,.tuple #[vi ra,vi rb])]<|T_ed 5 [18] [(11,vi ra),(12,vi rb)]<|T_sz<|aA 2<|T_ed 2 [] [(22,.bool (rb !=0))] ?_
 revert h;refine iO_ (λc1 h=>?_) (λc1 h=>?_)
 ·refine aK 22 (bne_eq_false_iff_eq.mpr c1)<|T_kt<|aA 4<|T_nd 1 [0,12,22] [(24,vp d)] ?_
  obtain⟨wv,rfl,h⟩:=h
  refine T_nd 2 [24] [(26,vq wv)] ?_
  obtain⟨x,q3,h⟩:=h
  refine T_l1 27 49 q3 [26]<|T_nd 2 [4,11] [(28,vi ra),(29,vu v)]<|T_c (some 30) h ?_;clear h
  rintro f H2 ⟨R,rfl,h⟩
  refine⟨[(30,vi R)],pk,?_⟩
  exact T_nr 1 [10] [vi R] hQ h
 exact aJ 22 (bne_iff_ne.mpr c1)<|aA 3<|T_nr 2 [10] [vi rb] hQ h
end di
/-! (*moraine/obj.Heap).at -/
namespace dV
def K0:=Func.code f113
end dV
def dV.pt(hv:zW)(wv i a:Int)(H:zV)(R:zj):Prop:=
 dZ.C wv H (λv H1=> ∃ra rb,v=.tuple #[vi ra,.bool rb]/\
 da.C hv H1 (λaa H2=> ∃x,aa=.bool x/\
 if x=true then(
 R (.tuple #[vi 0,vF]) H2)
 else
 if rb=true then(
 dU.C wv H2 (λac H3=> ∃q,ac=vi q/\
 if q=i then(
 ∃t,hv=some t/\
 ∃y,hat H3 t=some (vp y)/\
 ∃s,y=some s/\
 ∃z,hat H3 s=some (vp z)/\
 ∃u,z=some u/\
 ∃r,hat H3 u=some (vp r)/\
 bA.C r (zY (Int.tdiv ra 64)) H3 (λab H4=> ∃m k p d g f e j,ab=.tuple #[.agg #[vi m,vi k,vi p,vi d,vi g,vi f,vi e],.bool j]/\
 ∀b H5,b=H4.size->H5=H4.push (.cells #[vi 0,vi 0,vi 0,vi 0,vi 0,vi 0,vi 0] 108)->
 (aM H5 (ad b) 0 7)/\ ∀H6,H6=aP H5 (ad b) [vi m,vi k,vi p,vi d,vi g,vi f,vi e] 0->
 if j=true then(
 ∃n,hat H6 ((ad b).add 1)=some (vi n)/\
 if n=a then(
 ∃o,hat H6 ((ad b).add 2)=some (vi o)/\
 R (.tuple #[vi ra,.bool (decide ((Int.tmod ra 64)<o))]) H6)
 else
 R (.tuple #[vi ra,vF]) H6)
 else
 R (.tuple #[vi ra,vF]) H6))
 else
 R (.tuple #[vi 0,vF]) H3))
 else
 R (.tuple #[vi 0,vF]) H2))
namespace dV
theorem link(h:pt d b g i H a):C d b g i H a:=by
 refine T_en K0 61 func113 ?_
 intro w0 Q hQ
 unfold pt zY at h
 refine T_su [(0,vp d),(1,vu b),(2,vi g),(3,vi i)]<|aA 0<|T_ed 2 [] []<|aA 1<|T_nd 1 [] [(14,vu b)]<|T_c (some 15) h ?_;clear h
 rintro v H1 ⟨ra,rb,rfl,h⟩
 refine T_pd [14] [(15,.tuple #[vi ra,.bool rb])]<|T_ed 5 [15] [(10,vi ra),(11,.bool rb)]<|T_sz<|aA 2<|T_nd 1 [] [(18,vp d)]<|T_c (some 19) h ?_;clear h
 rintro aa H2 ⟨x,rfl,h⟩
 refine T_pd [18] [(19,.bool x)]<|T_nd 1 [19] [(20,.bool x)] ?_
 revert h;refine iO_ (λc1 h=>?_) (λc1 h=>?_)
 ·exact N_bd 20 c1<|T_ed 9 [1,2,11,20] [(29,vT)]<|T_tz 29<|aA 3<|T_nr 2 [8,9] [vi 0,vF] hQ h
 refine N_bd 20 (zZ c1)<|T_nd 4 [11,20] [(24,.bool (!rb))] ?_
 revert h;refine iO_ (λc3 h=>?_) (λc3 h=>?_)
 ·have b4:(!rb)=false:=congrArg Bool.not (c3)
  have b42:rb=true:=c3
  refine N_bd 24 (b:=(!rb)) (v:=false) (by simp only[b4,b42,Bool.not_true,Bool.not_false]) ?_
  clear b4 b42
  refine T_nd 1 [1] [(25,vu b)]<|T_c (some 26) h ?_;clear h
  rintro ac H3 ⟨q,rfl,h⟩
  refine T_pd [25] [(26,vi q)]<|T_ed 3 [2,24,26] [(29,.bool (q !=g))] ?_
  revert h;refine iO_ (λc5 h=>?_) (λc5 h=>?_)
  ·refine aK 29 (bne_eq_false_iff_eq.mpr c5)<|T_kt<|aA 4<|T_nd 1 [0,29] [(31,vp d)] ?_
   obtain⟨t,rfl,h⟩:=h
   refine T_nd 2 [31] [(33,vq t)] ?_
   obtain⟨y,q7,h⟩:=h
   refine T_l1 34 49 q7 [33] ?_
   obtain⟨s,rfl,h⟩:=h
   refine T_nd 2 [34] [(36,vq s)] ?_
   obtain⟨z,q8,h⟩:=h
   refine T_l1 37 52 q8 [36] ?_
   obtain⟨u,rfl,h⟩:=h
   refine T_nd 2 [37] [(39,vq u)] ?_
   obtain⟨r,q9,h⟩:=h
   refine T_l1 40 78 q9 [39]<|T_nd 2 [] [(42,vi (zY (Int.tdiv ra 64)))]<|T_c (some 43) h ?_;clear h
   rintro ab H4 ⟨m,k,p,wv,hv,f,e,j,rfl,h⟩
   refine T_pd [40,42] [(43,.tuple #[.agg #[vi m,vi k,vi p,vi wv,vi hv,vi f,vi e],.bool j])]<|T_nd 3 [43] [(44,.agg #[vi m,vi k,vi p,vi wv,vi hv,vi f,vi e]),(45,.bool j)]<|T_nw (some 12) (λR=>vp (pa R)) (.cells #[vi 0,vi 0,vi 0,vi 0,vi 0,vi 0,vi 0] 108) ?_
   intro R H5 e10 e11
   replace h:=h R H5 e10 e11
   refine T_pd [] [(12,vp (pa R))] ?_
   obtain⟨q13,h⟩:=h
   refine fT 108 [vi m,vi k,vi p,vi wv,vi hv,vi f,vi e] q13 ?_
   intro H6 e12
   replace h:=h H6 e12
   refine T_pd [44] []<|T_ed 1 [45] [(11,.bool j)]<|T_sz<|oG 5<|T_q1 46 (vi ra) []<|T_q1 47 (.bool j) [11]<|T_q1 48 (.bool j) [47] ?_
   revert h;refine iO_ (λc14 h=>?_) (λc14 h=>?_)
   ·refine Q_bd 48 c14<|T_q1 49 (vq ((ad R).add 1)) [] ?_
    obtain⟨n,q16,h⟩:=h
    refine kL (some 50) 3 q16 [49] [(50,vi n)]<|T_q1 51 (vi i) [3]<|T_q1 52 (.bool (n==i)) [50,51]<|T_q1 53 (.bool (n==i)) [48,52]<|T_q1 54 (.bool (n==i)) [53] ?_
    revert h;refine iO_ (λc17 h=>?_) (λc17 h=>?_)
    ·refine Q_bd 54 (zK c17)<|T_q1 55 (vi ra) [10]<|T_q1 56 (vi (Int.tmod ra 64)) [55]<|T_q1 57 (vq ((ad R).add 2)) [12] ?_
     obtain⟨o,q19,h⟩:=h
     exact kL (some 58) 3 q19 [57] [(58,vi o)]<|T_q1 59 (.bool (decide ((Int.tmod ra 64)<o))) [56,58]<|T_q1 60 (.bool (decide ((Int.tmod ra 64)<o))) [54,59]<|T_q1 8 (vi ra) [46]<|T_q1 9 (.bool (decide ((Int.tmod ra 64)<o))) [60]<|j4 [(8,vi ra),(9,.bool (decide ((Int.tmod ra 64)<o)))] sk<|T_qe<|fB [8,9] [vi ra,.bool (decide ((Int.tmod ra 64)<o))] hQ h
    refine Q_bd 54 (zJ c17)<|T_q1 55 (undef) [10]<|T_q1 56 (undef) [55]<|T_q1 57 (undef) [12]<|T_q1 58 (undef) [57]<|T_q1 59 (undef) [56,58]<|T_q1 60 vF [54,59]<|T_q1 8 (vi ra) [46]<|T_q1 9 vF [60] ?_
    refine j4 [(8,vi ra),(9,vF)] sk ?_
    exact T_qe<|fB [8,9] [vi ra,vF] hQ h
   refine Q_bd 48 (zZ c14)<|T_q1 49 (undef) []<|T_q1 50 (undef) [49]<|T_q1 51 (undef) [3]<|T_q1 52 (undef) [50,51]<|T_q1 53 vF [48,52]<|T_q1 54 vF [53]<|T_q1 55 (undef) [10]<|T_q1 56 (undef) [55] ?_
   exact T_q1 57 (undef) [12]<|T_q1 58 (undef) [57]<|T_q1 59 (undef) [56,58]<|T_q1 60 vF [54,59]<|T_q1 8 (vi ra) [46]<|T_q1 9 vF [60]<|j4 [(8,vi ra),(9,vF)] sk<|T_qe<|fB [8,9] [vi ra,vF] hQ h
  exact aJ 29 (bne_iff_ne.mpr c5)<|aA 3<|T_nr 2 [8,9] [vi 0,vF] hQ h
 have b4:(!rb)=true:=congrArg Bool.not (zZ c3)
 have b42:rb=false:=zZ c3
 refine N_bd 24 (b:=(!rb)) (v:=true) (by simp only[b4,b42,Bool.not_true,Bool.not_false]) ?_
 clear b4 b42
 exact T_ed 5 [1,2,24] [(29,vT)]<|T_tz 29<|aA 3<|T_nr 2 [8,9] [vi 0,vF] hQ h
end dV
variable{H:zV}{a:zW}{b:zj}{d:Int}
/-! (*moraine/card.Cards).Dirty -/
namespace cP
def K0:=Func.code f49
def K2:=cb K0
def K4:=cb K2
def K12:=cb K4
def K13:=ca K12
def K16:=cb K13
def K17:=ca K16
def K18:=ca K17
def K20:=cb K18
def K22:=cb K20
def K25:=ca K22
def K27:=ca K25
def K29:=cb K27
def K31:=cb K29
def K33:=cb K31
def K34:=ca K33
def K35:=ca K34
end cP
def cP.pt(c:zW)(g:Int)(H:zV)(R:zj):Prop:=
 bS.C c H (λv H1=> ∃x,v=.bool x/\
 if x=true then(
 R vN H1)
 else
 ∃cA,c=some cA/\
 ∃am,hat H1 cA=some (vp am)/\
 ∃al,am=some al/\
 ∃ai,hat H1 al=some (vp ai)/\
 cz.C ai none 0 0 H1 (λao H2=> ∃xB xN xC,ao=vs xB xN xC/\
 ∃(ak:zW->Nat->Nat->zk) (m19:zW->Nat->Nat->Int->zV->Nat),ak none 0 0 0 H2/\ ∀lB lN lC s23 H3,ak lB lN lC s23 H3->
 if s23< (xN:Int)then(
 ∃d,xB=some d/\
 zv s23 xN/\
 ∃e,hat H3 (d.add (Int.toNat s23*1))=some (vi e)/\
 ∃aj,hat H3 cA=some (vp aj)/\
 ∃an,aj=some an/\
 ∃ae,hat H3 an=some (vp ae)/\
 bA.C ae e H3 (λaq H4=> ∃ab y ac q u s r rb,aq=.tuple #[.agg #[vi ab,vi y,vi ac,vi q,vi u,vi s,vi r],.bool rb]/\
 ∀b H5,b=H4.size->H5=H4.push (.cells #[vi 0,vi 0,vi 0,vi 0,vi 0,vi 0,vi 0] 108)->
 (aM H5 (ad b) 0 7)/\ ∀H6,H6=aP H5 (ad b) [vi ab,vi y,vi ac,vi q,vi u,vi s,vi r] 0->
 ∃j o m p,aU H6 ((ad b).add 3) 0 [vi j,vi o,vi m,vi p]/\
 ∃(ag:zW->Nat->Nat->zk) (m36:zW->Nat->Nat->Int->zV->Nat),ag lB lN lC 0 H6/\ ∀f lN_2 lC_2 s41 H7,ag f lN_2 lC_2 s41 H7->
 if s41<4 then(
 ∃z,((0<=s41/\s41< (4:Int))/\(#[vi j,vi o,vi m,vi p]:Array Value)[Int.toNat s41]?=some (vi z))/\
 ∃aa,hat H7 (ad b)=some (vi aa)/\
 if((decide (aa>g)) && (decide (z<=g)))=true then(
 ∀ah H8,ah=H7.size->H8=H7.push (.cells #[vi e,vi s41] 127)->
 fy 2 127 16 [vi 0,vi 0] f lN_2 lC_2 (some (ad ah)) 1 H8 (λap af H9=>
 (ag ap (lN_2+1) af (zY (s41+1)) H9/\m36 ap (lN_2+1) af (zY (s41+1)) H9<m36 f lN_2 lC_2 s41 H7)))
 else
 (ag f lN_2 lC_2 (zY (s41+1)) H7/\m36 f lN_2 lC_2 (zY (s41+1)) H7<m36 f lN_2 lC_2 s41 H7))
 else
 (ak f lN_2 lC_2 (zY (s23+1)) H7/\m19 f lN_2 lC_2 (zY (s23+1)) H7<m19 lB lN lC s23 H3)))
 else
 R (vs lB lN lC) H3))
namespace cP
theorem link(h:pt a d H b):C a d H b:=by
 refine T_en K0 63 func49 ?_
 intro w0 Q hQ
 unfold pt zY at h
 refine T_su [(0,vp a),(1,vi d)]<|aA 0<|T_ed 1 [] []<|T_sz<|aA 1<|T_nd 1 [] [(12,vp a)]<|T_c (some 13) h ?_;clear h
 rintro v H1 ⟨x,rfl,h⟩
 refine T_pd [12] [(13,.bool x)]<|T_e ?_
 revert h;refine iO_ (λc1 h=>?_) (λc1 h=>?_)
 ·exact aJ 13 c1<|aA 2<|T_nr 1 [4] [vN] hQ h
 refine aK 13 (zZ c1)<|T_kt<|aA 3<|T_ed 1 [13] [(5,vN)]<|T_sz<|aA 4<|T_nd 1 [] [(14,vp a)] ?_
 obtain⟨cA,rfl,h⟩:=h
 refine T_nd 2 [0,14] [(0,vq cA),(16,vq cA)] ?_
 obtain⟨am,q3,h⟩:=h
 refine T_l1 17 52 q3 [16] ?_
 obtain⟨al,rfl,h⟩:=h
 refine T_nd 2 [17] [(19,vq al)] ?_
 obtain⟨ai,q4,h⟩:=h
 refine T_l1 20 78 q4 [19]<|T_c (some 21) h ?_;clear h
 rintro ao H2 ⟨xB,xN,xC,rfl,h⟩
 refine T_pd [20] [(21,vs xB xN xC)]<|T_ed 2 [] [(22,vi xN),(23,vi 0)]<|T_bz 0 ?_
 obtain⟨ak,m19,i5,i6⟩:=h
 refine cX (x:=K18) (σ:=zW×Nat×Nat×Int) (λs_=> [(0,vq cA),(1,vi d),(5,vs s_.1 s_.2.1 s_.2.2.1),(21,vs xB xN xC),(22,vi xN),(23,vi s_.2.2.2)]) (λs_ H=>ak s_.1 s_.2.1 s_.2.2.1 s_.2.2.2 H) (λs_ H=>m19 s_.1 s_.2.1 s_.2.2.1 s_.2.2.2 H) ((none,0,0,0):zW×Nat×Nat×Int) (by kernel_rfl) i5 sk ?_
 rintro⟨lB,lN,lC,s23⟩ H3 i7
 have h:=i6 lB lN lC s23 H3 i7
 refine T_su [(0,vq cA),(1,vi d),(5,vs lB lN lC),(21,vs xB xN xC),(22,vi xN),(23,vi s23)]<|aA 5<|T_ed 1 [] [(24,.bool (decide (s23< (xN:Int))))]<|T_sz ?_
 revert h;refine iO_ (λc8 h=>?_) (λc8 h=>?_)
 ·refine aJ 24 (zX c8)<|T_kt<|T_sz<|T_bz 1<|aA 6<|T_ud [24] [] ?_
  obtain⟨g,rfl,q10,h⟩:=h
  refine T_xd (some 25) 75 3 1 g xN xC .i64 s23 underlying75 q10.1 q10.2 [21] [(21,vs (some g) xN xC),(25,vq (g.add (Int.toNat s23*1)))] ?_
  obtain⟨e,q11,h⟩:=h
  refine T_l1 26 3 q11 [25]<|T_ed 1 [26] [(7,vi e)]<|aA 7<|T_nd 3 [] [(30,vq cA)] ?_
  obtain⟨aj,q12,h⟩:=h
  refine T_l1 31 52 q12 [30] ?_
  obtain⟨an,rfl,h⟩:=h
  refine T_nd 2 [31] [(33,vq an)] ?_
  obtain⟨ae,q13,h⟩:=h
  refine T_l1 34 78 q13 [33]<|T_nd 1 [] [(35,vi e)]<|T_c (some 36) h ?_;clear h
  rintro aq H4 ⟨ab,y,ac,q,u,s,r,rb,rfl,h⟩
  refine T_pd [34,35] [(36,.tuple #[.agg #[vi ab,vi y,vi ac,vi q,vi u,vi s,vi r],.bool rb])]<|T_nd 3 [36] [(37,.agg #[vi ab,vi y,vi ac,vi q,vi u,vi s,vi r]),(38,.bool rb)]<|T_nw (some 8) (λR=>vp (pa R)) (.cells #[vi 0,vi 0,vi 0,vi 0,vi 0,vi 0,vi 0] 108) ?_
  intro R H5 e14 e15
  replace h:=h R H5 e14 e15
  refine T_pd [] [(8,vp (pa R))] ?_
  obtain⟨q17,h⟩:=h
  refine fT 108 [vi ab,vi y,vi ac,vi q,vi u,vi s,vi r] q17 ?_
  intro H6 e16
  replace h:=h H6 e16
  refine T_pd [37] []<|T_ed 1 [38] []<|aA 8<|T_nd 1 [] [(39,vq ((ad R).add 3))] ?_
  obtain⟨j,o,m,p,q18,h⟩:=h
  refine T_lr 40 79 q18 [39]<|T_ed 1 [] [(41,vi 0)]<|T_bz 2 ?_
  obtain⟨ag,m36,i19,i20⟩:=h
  refine cX (x:=K35) (σ:=zW×Nat×Nat×Int) (λs_=> [(0,vq cA),(1,vi d),(5,vs s_.1 s_.2.1 s_.2.2.1),(7,vi e),(8,vp (pa R)),(21,vs (some g) xN xC),(22,vi xN),(23,vi s23),(40,.agg #[vi j,vi o,vi m,vi p]),(41,vi s_.2.2.2)]) (λs_ H=>ag s_.1 s_.2.1 s_.2.2.1 s_.2.2.2 H) (λs_ H=>m36 s_.1 s_.2.1 s_.2.2.1 s_.2.2.2 H) ((lB,lN,lC,0):zW×Nat×Nat×Int) (by kernel_rfl) i19 sk ?_
  rintro⟨f,lN_2,lC_2,s41⟩ H7 i21
  have h:=i20 f lN_2 lC_2 s41 H7 i21
  refine T_su [(0,vq cA),(1,vi d),(5,vs f lN_2 lC_2),(7,vi e),(8,vp (pa R)),(21,vs (some g) xN xC),(22,vi xN),(23,vi s23),(40,.agg #[vi j,vi o,vi m,vi p]),(41,vi s41)]<|aA 9<|T_ed 1 [] [(42,.bool (decide (s41<4)))]<|T_sz ?_
  revert h;refine iO_ (λc22 h=>?_) (λc22 h=>?_)
  ·refine aJ 42 (zX c22)<|T_kt<|T_sz<|T_bz 3<|aA 10<|T_nd 1 [42] [(43,vi s41)] ?_
   obtain⟨z,q24,h⟩:=h
   refine T_v1 44 (kG 79 (.agg #[vi j,vi o,vi m,vi p]) (vi s41)) (vi z) (λw _=>iB (P:=prog) (t:=79) (elem:=3) (n:=4) underlying79 (λ_=>by kernel_rfl) (λ_=>by kernel_rfl) q24.1.1 q24.1.2 q24.2 w) []<|T_ed 2 [43,44] [(10,vi s41),(11,vi z)]<|aA 11<|T_nd 1 [] [(45,vp (pa R))] ?_
   obtain⟨aa,q25,h⟩:=h
   refine T_l1 46 3 q25 [45]<|T_nd 3 [46] [(49,.bool (decide (aa>d)))] ?_
   refine fx [(0,vq cA),(1,vi d),(5,vs f lN_2 lC_2),(7,vi e),(8,vp (pa R)),(10,vi s41),(21,vs (some g) xN xC),(22,vi xN),(23,vi s23),(40,.agg #[vi j,vi o,vi m,vi p]),(41,vi s41),(53,.bool ((decide (aa>d)) && (decide (z<=d))))] ?_ ?_
   ·refine aE ?_
    revert h;refine iO_ (λc28 h=>?_) (λc28 h=>?_)
    ·refine aJ 53 c28<|T_rz 12<|T_n 4 [(0,vq cA),(1,vi d),(7,vi e),(8,vp (pa R)),(21,vs (some g) xN xC),(22,vi xN),(23,vi s23),(40,.agg #[vi j,vi o,vi m,vi p]),(41,vi s41),(54,vs f lN_2 lC_2),(57,.agg #[vi e,vi s41])]<|T_nw (some 58) (λR=>vs (pa R) 1 1) (.cells #[vi e,vi s41] 127) ?_
     intro ah H8 e30 e31
     replace h:=h ah H8 e30 e31
     refine T_pd [57] [(58,vs (pa ah) 1 1)]<|N_op (some 59) (fl #[104,104] 104 #[vs f lN_2 lC_2,vs (pa ah) 1 1]) _ (λ_=>by kernel_rfl) (fd (T:=127) (sz:=2) (bytes:=16) (zero:=(.agg #[vi 0,vi 0]:Value)) underlying104 underlying104 rfl (show prog.info? 127=some t127 from by kernel_rfl) (by kernel_rfl) (by kernel_rfl) (by decide) (by kernel_rfl) (by first | exact h | (simpa only[Value.cells,List.toList_toArray]using h))) ?_;clear h
     rintro _ H9 ⟨ap,af,rfl,h⟩
     exact T_pd [54,58] [(59,vs ap (lN_2+1) af)]<|T_nd 1 [59] [(5,vs ap (lN_2+1) af)]<|zq<|aD<|aE<|T_rz 13<|T_ed 2 [41] [(41,vi (zY (s41+1)))]<|aT ((ap,(lN_2+1),af,(zY (s41+1))):zW×Nat×Nat×Int) sk h
    exact aK 53 (zZ c28)<|T_k<|aD<|aE<|T_rz 13<|T_ne 2 [(0,vq cA),(1,vi d),(5,vs f lN_2 lC_2),(7,vi e),(8,vp (pa R)),(21,vs (some g) xN xC),(22,vi xN),(23,vi s23),(40,.agg #[vi j,vi o,vi m,vi p]),(41,vi (zY (s41+1)))]<|aT ((f,lN_2,lC_2,(zY (s41+1))):zW×Nat×Nat×Int) sk h
   intro hk
   refine T_nu [(0,vq cA),(1,vi d),(5,vs f lN_2 lC_2),(7,vi e),(8,vp (pa R)),(10,vi s41),(11,vi z),(21,vs (some g) xN xC),(22,vi xN),(23,vi s23),(40,.agg #[vi j,vi o,vi m,vi p]),(41,vi s41),(49,.bool (decide (aa>d)))] ?_
   by_cases c26:aa>d
   ·have b27:(decide (aa>d))=true:=zX c26
    refine bT [(0,vq cA),(1,vi d),(5,vs f lN_2 lC_2),(7,vi e),(8,vp (pa R)),(10,vi s41),(11,vi z),(21,vs (some g) xN xC),(22,vi xN),(23,vi s23),(40,.agg #[vi j,vi o,vi m,vi p]),(41,vi s41),(49,vT)] (by rw[b27]) ?_
    refine T_nd 4 [11,49] [(53,.bool (decide (z<=d)))]<|zq<|S_bd 53 (b:=(decide (z<=d))) (v:=((decide (aa>d)) && (decide (z<=d)))) (by simp only[b27,BL]) ?_
    exact hk
   have b27:(decide (aa>d))=false:=zQ c26
   refine bT [(0,vq cA),(1,vi d),(5,vs f lN_2 lC_2),(7,vi e),(8,vp (pa R)),(10,vi s41),(11,vi z),(21,vs (some g) xN xC),(22,vi xN),(23,vi s23),(40,.agg #[vi j,vi o,vi m,vi p]),(41,vi s41),(49,vF)] (by rw[b27]) ?_
   refine T_nd 4 [11,49] [(53,vF)]<|zq<|S_bd 53 (b:=false) (v:=((decide (aa>d)) && (decide (z<=d)))) (by simp only[b27,BL]) ?_
   exact hk
  exact aK 42 (zQ c22)<|zz 2<|aB<|aB<|aN<|aD<|aE<|T_rz 14<|T_ed 2 [7,8,23,40,41,42] [(23,vi (zY (s23+1)))]<|aT ((f,lN_2,lC_2,(zY (s23+1))):zW×Nat×Nat×Int) sk h
 exact aK 24 (zQ c8)<|zz 0<|aB<|aB<|aN<|aE<|aA 15<|T_nr 2 [4] [vs lB lN lC] hQ h
end cP
/-! (*moraine/card.Cards).Again -/
namespace cR
def K0:=Func.code f64
def K2:=cb K0
def K4:=cb K2
def K12:=cb K4
def K14:=cb K12
def K27:=cb K14
def K28:=ca K27
def K29:=cb K27
def K31:=cb K28
def K32:=ca K31
def K33:=ca K32
def K34:=cb K32
def K36:=ca K29
end cR
def cR.pt(c:zW)(d a:Int)(H:zV)(R:zj):Prop:=
 ∀b H1,b=H.size->H1=H.push (.cells #[vp c] 49)->
 ∃x,hat H1 (ad b)=some (vp x)/\
 bS.C x H1 (λv H2=> ∃am,v=.bool am/\
 if am=true then(
 R (vi 19) H2)
 else
 ∃au,hat H2 (ad b)=some (vp au)/\
 ∃ap,au=some ap/\
 ∃av,hat H2 ap=some (vp av)/\
 ∃aq,av=some aq/\
 ∃al,hat H2 aq=some (vp al)/\
 bA.C al d H2 (λa2 H3=> ∃u r ah i m k j rb,a2=.tuple #[.agg #[vi u,vi r,vi ah,vi i,vi m,vi k,vi j],.bool rb]/\
 ∀f H4,f=H3.size->H4=H3.push (.cells #[vi 0,vi 0,vi 0,vi 0,vi 0,vi 0,vi 0] 108)->
 (aM H4 (ad f) 0 7)/\ ∀H5,H5=aP H4 (ad f) [vi u,vi r,vi ah,vi i,vi m,vi k,vi j] 0->
 if rb=true then(
 if((decide (a<0)) || (decide (a>=4)))=true then(
 R (vi 1) H5)
 else
 ∀e H6,e=H5.size->H6=H5.push (.cells #[vi 0] 3)->
 (aM H6 (ad e) 0 1)/\ ∀H7,H7=aP H6 (ad e) [vi 5] 0->
 ∃ak,hat H7 (ad b)=some (vp ak)/\
 dq.C ak d a H7 (λao H8=>ao=ao/\
 ∀(rc:LoopState->Option Code->Obj) (lp:Nat) (H9:zV),lp=H8.size+1->H9=(H8.push (.deferred (some []))).push (rc .ready none)->
 ∀vY,(∀(ac:Int) (H10:zV) (vRy:zj),H10[lp]?=some (rc .ready none)->
 (H10[lp]?=some (rc .ready none)/\ ∀an,an=bH H10 lp (rc .busy none)->
 ∃ag,hat an (ad b)=some (vp ag)/\
 ∃ab y xN n o p q,aU an (ad f) 0 [vi ab,vi y,vi xN,vi n,vi o,vi p,vi q]/\
 ∃ai,hat an (ad e)=some (vi ai)/\
 bQ.C ag ab y xN n o p q ac ai an (λa5 az=> ∃af,a5=vi af/\
 (aM az (ad e) 0 1)/\ ∀aw,aw=aP az (ad e) [vi af] 0->
 aw[lp]?=some (rc .busy none)/\
 vRy vT (bH aw lp (rc .ready none))))->
 FC prog vY #[vu ac] H10 vRy)->
 FE prog ao #[vY] H9 (λ_ a0=>
 (a0[lp]?=some (rc .ready none)/\ ∀aj,aj=bH a0 lp (rc .exhausted none)->
 ∃ay,hat aj (ad b)=some (vp ay)/\
 ∃s,ay=some s/\
 ∃ax,hat aj s=some (vp ax)/\
 ∃t,ax=some t/\
 ∃z,hat aj t=some (vp z)/\
 ∃ae,hat aj (ad e)=some (vi ae)/\
 dS.C z d a ae aj (λa4 a3=> ∃aa,a4=vi aa/\
 Shut (H8.size::[]) a3 (λa1=>
 R (vi aa) a1))))))
 else
 R (vi 19) H5))
namespace cR
theorem link{R:Int}(h:pt a d R H b):C a d R H b:=by
 refine T_en K0 56 func64 ?_
 intro w0 Q hQ
 unfold pt at h
 refine T_su [(0,vp a),(1,vi d),(2,vi R)]<|aA 0<|T_nw (some 3) (λc=>vp (pa c)) (.cells #[vp a] 49) ?_
 intro c H1 e1 e2
 replace h:=h c H1 e1 e2
 refine T_pd [0] [(3,vp (pa c))]<|T_ed 1 [] []<|T_sz<|aA 1 ?_
 obtain⟨x,q3,h⟩:=h
 refine T_l1 11 49 q3 []<|T_c (some 12) h ?_;clear h
 rintro v H2 ⟨am,rfl,h⟩
 refine T_pd [11] [(12,.bool am)]<|T_e ?_
 revert h;refine iO_ (λc4 h=>?_) (λc4 h=>?_)
 ·exact aJ 12 c4<|aA 2<|T_nr 1 [6] [vi 19] hQ h
 refine aK 12 (zZ c4)<|T_kt<|aA 3<|T_ud [12] [] ?_
 obtain⟨au,q6,h⟩:=h
 refine T_l1 14 49 q6 [] ?_
 obtain⟨ap,rfl,h⟩:=h
 refine T_nd 2 [14] [(16,vq ap)] ?_
 obtain⟨av,q7,h⟩:=h
 refine T_l1 17 52 q7 [16] ?_
 obtain⟨aq,rfl,h⟩:=h
 refine T_nd 2 [17] [(19,vq aq)] ?_
 obtain⟨al,q8,h⟩:=h
 refine T_l1 20 78 q8 [19]<|T_nd 1 [] [(21,vi d)]<|T_c (some 22) h ?_;clear h
 rintro a2 H3 ⟨u,r,ah,i,m,k,j,rb,rfl,h⟩
 refine T_pd [20,21] [(22,.tuple #[.agg #[vi u,vi r,vi ah,vi i,vi m,vi k,vi j],.bool rb])]<|T_nd 3 [22] [(23,.agg #[vi u,vi r,vi ah,vi i,vi m,vi k,vi j]),(24,.bool rb)]<|T_nw (some 7) (λc=>vp (pa c)) (.cells #[vi 0,vi 0,vi 0,vi 0,vi 0,vi 0,vi 0] 108) ?_
 intro f H4 e9 e10
 replace h:=h f H4 e9 e10
 refine T_pd [] [(7,vp (pa f))] ?_
 obtain⟨q12,h⟩:=h
 refine fT 108 [vi u,vi r,vi ah,vi i,vi m,vi k,vi j] q12 ?_
 intro H5 e11
 replace h:=h H5 e11
 refine T_pd [23] []<|T_ed 1 [24] [(8,.bool rb)]<|T_sz<|T_bz 0<|aA 4<|T_ed 3 [8] [(25,.bool (!rb))] ?_
 revert h;refine iO_ (λc13 h=>?_) (λc13 h=>?_)
 ·refine aK 25 (congrArg Bool.not (c13))<|aA 6 ?_
  refine fx [(1,vi d),(2,vi R),(3,vp (pa c)),(7,vp (pa f)),(28,.bool ((decide (R<0)) || (decide (R>=4))))] ?_ ?_
  ·refine aE ?_
   revert h;refine iO_ (λc17 h=>?_) (λc17 h=>?_)
   ·exact aJ 28 c17<|aA 7<|T_nr 1 [6] [vi 1] hQ h
   refine aK 28 (zZ c17)<|T_k<|aD<|aE<|aA 8<|T_nu [(1,vi d),(2,vi R),(3,vp (pa c)),(7,vp (pa f))]<|T_nw (some 9) (λc=>vp (pa c)) (.cells #[vi 0] 3) ?_
   intro e H6 e19 e20
   replace h:=h e H6 e19 e20
   refine T_pd [] [(9,vp (pa e))] ?_
   obtain⟨q22,h⟩:=h
   refine gL 3 (vi 5) q22 ?_
   intro H7 e21
   replace h:=h H7 e21
   refine T_pd [] []<|T_e<|T_sz<|aA 9 ?_
   obtain⟨ak,q23,h⟩:=h
   refine T_l1 35 49 q23 []<|T_nd 2 [] [(36,vi d),(37,vi R)]<|T_c (some 38) h ?_;clear h
   rintro ao H8 ⟨-,h⟩
   refine T_pd [35,36,37] [(38,ao)]<|T_e<|T_bz 1<|qA (g:=.tmp 38) (ps:= #[39]) (assign:=K33) (body:=K34) (ao) (by kernel_rfl) (by kernel_rfl) (by kernel_rfl) ?_
   intro rc lp H9 r24 e25 e26 y27
   refine FE.mono (h rc lp H9 e25 e26 (.func (.yield lp) #[] #[]) ?_) ?_
   ·clear h
    intro ac H10 vRy q28 h
    refine y27 #[vu ac] H10 vRy (by kernel_rfl) q28 (λw1x=>?_)
    refine T_sd [] [(39,vu ac)]<|T_rz 10<|T_nd 1 [1,2,38,39] [(10,vu ac)]<|zq ?_
    obtain⟨q30,h⟩:=h
    refine aE<|qy r24 q30 ?_
    intro an e29
    replace h:=h an e29
    refine T_bz 2<|T_rz 11 ?_
    obtain⟨ag,q31,h⟩:=h
    refine T_l1 40 49 q31 [3] ?_
    obtain⟨ab,y,xN,n,o,p,q,q32,h⟩:=h
    refine T_lr 41 108 q32 [7]<|T_nd 1 [10] [(42,vu ac)] ?_
    obtain⟨ai,q33,h⟩:=h
    refine T_l1 43 3 q33 []<|T_c (some 44) h ?_;clear h
    rintro a5 az ⟨af,rfl,h⟩
    refine⟨[(9,vp (pa e)),(44,vi af)],pk,?_⟩
    obtain⟨q35,h⟩:=h
    refine gL 3 (vi af) q35 ?_
    intro aw e34
    replace h:=h aw e34
    refine⟨[],pk,?_⟩
    refine zq<|aD ?_
    obtain⟨q36,h⟩:=h
    exact oX r24 q36 h
   clear h y27
   rintro _ a0 (⟨q37,h⟩)
   refine .inl ⟨q37,λaj e42=>?_⟩
   replace h:=h aj e42
   refine qu (H8.size::[]) rfl ?_
   refine T_sd [7,38] []<|aD<|aE<|T_sz ?_
   obtain⟨ay,q38,s,rfl,ax,q39,t,rfl,z,q40,ae,q41,h⟩:=h
   refine yW 12 (Code.ops K36) [(10,(ad c),[vq s]),(10,s,[vq t]),(10,t,[vp z]),(10,(ad e),[vi ae])] 12 (bv 12 0) (show aI _ _ _ from⟨⟨q38,trivial⟩,⟨q39,trivial⟩,⟨q40,trivial⟩,⟨q41,trivial⟩,trivial⟩)<|T_g 0 (some 45) (vq s) (bv 12 1) [(1,vi d),(2,vi R),(9,vp (pa e)),(45,vq s)] (aQ 49 (vp (pa c))) (yV 10 zw)<|aG 1 46 (vq s) (bv 12 3) [45]<|aG 2 47 (vq s) (bv 12 7) [46]<|T_g1 3 48 (vq t) (bv 12 15) [47] (aQ 52 (vq s)) (yV 10 yZ)<|aG 4 49 (vq t) (bv 12 31) [48]<|aG 5 50 (vq t) (bv 12 63) [49]<|T_g1 6 51 (vp z) (bv 12 127) [50] (aQ 78 (vq t)) (yV 10 yX)<|aG 7 52 (vi d) (bv 12 255) [1]<|aG 8 53 (vi R) (bv 12 511) [2]<|T_g1 9 54 (vi ae) (bv 12 1023) [9] (aQ 3 (vp (pa e))) (yV 10 yQ)<|yY 10 (some 55) (bv 12 2047) 108 #[vp z,vi d,vi R,vi ae] h ?_;clear h
   rintro a4 a3 ⟨aa,rfl,h⟩
   refine⟨[(55,vi aa)],pk,(show aI _ _ _ from⟨trivial,trivial,trivial,trivial,trivial⟩),?_⟩
   refine T_g 11 (some 6) (vi aa) (bv 12 4095) [(6,vi aa)] (pure (.value (vi aa)):Sem Next) (λ_ _ _ _ _=>rfl)<|fE [(6,vi aa)] sk<|yq<|aE<|oq (by kernel_rfl) ?_
   show At _ _ _ _ _ (Q .ret)
   refine ox (fn:=f64) (H8.size::[]) hQ (Shut.mono (λa1 h=>?_) h)
   exact⟨[vi aa],(show dY _ _ _ [.tmp 6] _ from .tmp (by kernel_rfl) (.nil)),h⟩
  intro hk
  refine T_n 3 [(1,vi d),(2,vi R),(3,vp (pa c)),(7,vp (pa f)),(31,.bool (decide (R<0)))] ?_
  by_cases c15:R<0
  ·have b16:(decide (R<0))=true:=zX c15
   refine bT [(1,vi d),(2,vi R),(3,vp (pa c)),(7,vp (pa f)),(31,vT)] (by rw[b16]) ?_
   refine T_nd 4 [31] [(28,vT)]<|zq<|S_bd 28 (b:=true) (v:=((decide (R<0)) || (decide (R>=4)))) (by simp only[b16,BL]) ?_
   exact hk
  have b16:(decide (R<0))=false:=zQ c15
  refine bT [(1,vi d),(2,vi R),(3,vp (pa c)),(7,vp (pa f)),(31,vF)] (by rw[b16]) ?_
  refine T_nd 4 [31] [(28,.bool (decide (R>=4)))]<|zq<|S_bd 28 (b:=(decide (R>=4))) (v:=((decide (R<0)) || (decide (R>=4)))) (by simp only[b16,BL]) ?_
  exact hk
 exact aJ 25 (congrArg Bool.not (zZ c13))<|aA 5<|T_nr 1 [6] [vi 19] hQ h
end cR
/-! (*moraine/card.Cards).words -/
namespace dq
def K0:=Func.code f106
end dq
def dq.pt(c:zW)(f a:Int)(H:zV)(R:zj):Prop:=
 ∀b H1,b=H.size->H1=H.push (.cells #[vp c] 49)->
 ∀d H2,d=H1.size->H2=H1.push (.cells #[vi f] 3)->
 ∀e H3,e=H2.size->H3=H2.push (.cells #[vi a] 3)->
 R (.func (.func 134) #[] #[vq (ad b),vq (ad d),vq (ad e)]) H3
namespace dq
theorem link{R:Int}(h:pt a d R H b):C a d R H b:=by
 refine T_en K0 8 func106 ?_
 intro w0 Q hQ
 unfold pt at h
 refine T_su [(0,vp a),(1,vi d),(2,vi R)]<|aA 0<|T_nw (some 3) (λf=>vp (pa f)) (.cells #[vp a] 49) ?_
 intro f H1 e1 e2
 replace h:=h f H1 e1 e2
 refine T_pd [0] [(3,vp (pa f))]<|T_nw (some 4) (λf=>vp (pa f)) (.cells #[vi d] 3) ?_
 intro c H2 e3 e4
 replace h:=h c H2 e3 e4
 refine T_pd [1] [(4,vp (pa c))]<|T_nw (some 5) (λf=>vp (pa f)) (.cells #[vi R] 3) ?_
 intro e H3 e5 e6
 replace h:=h e H3 e5 e6
 exact T_pd [2] [(5,vp (pa e))]<|T_ed 1 [] []<|aA 1<|T_nr 2 [6] [.func (.func 134) #[] #[vp (pa f),vp (pa c),vp (pa e)]] hQ h
end dq
/-! (*moraine/card.Cards).words.1 -/
namespace cK
def K0:=Func.code f134
def K2:=cb K0
def K3:=ca K2
def K4:=ca K3
def K6:=cb K4
def K8:=cb K6
def K11:=ca K8
def K13:=ca K11
def K15:=cb K13
def K16:=ca K15
end cK
def cK.pt(a:Value)(j k i:zW)(H:zV)(R:zj):Prop:=
 ∃(I5:zk) (m5:Int->zV->Nat),I5 0 H/\ ∀s8 H1,I5 s8 H1->
 if s8<16 then(
 ∃d,j=some d/\
 ∃x,hat H1 d=some (vp x)/\
 ∃xA,x=some xA/\
 ∃p,hat H1 xA=some (vp p)/\
 ∃m,p=some m/\
 ∃n,hat H1 m=some (vp n)/\
 ∃b,k=some b/\
 ∃f,hat H1 b=some (vi f)/\
 ∃e,i=some e/\
 ∃g,hat H1 e=some (vi g)/\
 bN.C n (zY ((zY ((zY (f*64))+(zY (g*16))))+s8)) H1 (λv H2=> ∃ra rb,v=.tuple #[vu ra,vi rb]/\
 if rb=0 then(
 FC prog a #[vu ra] H2 (λq H3=> ∃o,q=.bool o/\
 if o=true then(
 (I5 (zY (s8+1)) H3/\m5 (zY (s8+1)) H3<m5 s8 H1))
 else
 R (.tuple #[]) H3))
 else
 R (.tuple #[]) H2))
 else
 R (.tuple #[]) H1
namespace cK
theorem link{R:Value}{k i:zW}(h:pt R a k i H b):C R a k i H b:=by
 refine T_en K0 38 func134 ?_
 intro w0 Q hQ
 unfold pt zY at h
 refine T_su [(0,R),(1,vp a),(2,vp k),(3,vp i)]<|aA 0<|T_ed 1 [] [(8,vi 0)]<|T_bz 0 ?_
 obtain⟨I5,m5,i1,i2⟩:=h
 refine cX (x:=K4) (σ:=Int) (λs_=> [(0,R),(1,vp a),(2,vp k),(3,vp i),(8,vi s_)]) (λs_ H=>I5 s_ H) (λs_ H=>m5 s_ H) (0:Int) (by kernel_rfl) i1 sk ?_
 rintro s8 H1 i3
 have h:=i2 s8 H1 i3
 refine T_su [(0,R),(1,vp a),(2,vp k),(3,vp i),(8,vi s8)]<|aA 1<|T_ed 1 [] [(9,.bool (decide (s8<16)))]<|T_sz ?_
 revert h;refine iO_ (λc4 h=>?_) (λc4 h=>?_)
 ·refine aJ 9 (zX c4)<|T_kt<|T_sz<|T_bz 1<|aA 2<|T_ed 2 [9] [(5,vi s8)]<|T_sz ?_
  obtain⟨d,rfl,x,q6,xA,rfl,p,q7,m,rfl,n,q8,j,rfl,f,q9,e,rfl,g,q10,h⟩:=h
  refine yW 3 (Code.ops K16) [(14,d,[vq xA]),(14,xA,[vq m]),(14,m,[vp n]),(14,j,[vi f]),(14,e,[vi g])] 20 (bv 20 0) (show aI _ _ _ from⟨⟨q6,trivial⟩,⟨q7,trivial⟩,⟨q8,trivial⟩,⟨q9,trivial⟩,⟨q10,trivial⟩,trivial⟩)<|T_g 0 (some 12) (vq xA) (bv 20 1) [(0,R),(1,vq d),(2,vq j),(3,vq e),(5,vi s8),(8,vi s8),(12,vq xA)] (aQ 49 (vq d)) (yV 14 zw)<|aG 1 13 (vq xA) (bv 20 3) [12]<|aG 2 14 (vq xA) (bv 20 7) [13]<|T_g1 3 15 (vq m) (bv 20 15) [14] (aQ 52 (vq xA)) (yV 14 yZ)<|aG 4 16 (vq m) (bv 20 31) [15]<|aG 5 17 (vq m) (bv 20 63) [16]<|T_g1 6 18 (vp n) (bv 20 127) [17] (aQ 78 (vq m)) (yV 14 yX)<|T_g1 7 19 (vi f) (bv 20 255) [] (aQ 3 (vq j)) (yV 14 yQ)<|aG 8 20 (vi (zY (f*64))) (bv 20 511) [19]<|T_g1 9 21 (vi g) (bv 20 1023) [] (aQ 3 (vq e)) (yV 14 yJ)<|aG 10 22 (vi (zY (g*16))) (bv 20 2047) [21]<|aG 11 23 (vi (zY ((zY (f*64))+(zY (g*16))))) (bv 20 4095) [20,22]<|aG 12 24 (vi s8) (bv 20 8191) [5]<|aG 13 25 (vi (zY ((zY ((zY (f*64))+(zY (g*16))))+s8))) (bv 20 16383) [23,24]<|yY 14 (some 26) (bv 20 32767) 33 #[vp n,vi (zY ((zY ((zY (f*64))+(zY (g*16))))+s8))] h ?_;clear h
  rintro v H2 ⟨ra,rb,rfl,h⟩
  refine⟨[(0,R),(1,vq d),(2,vq j),(3,vq e),(8,vi s8),(26,.tuple #[vu ra,vi rb])],pk,(show aI _ _ _ from⟨trivial,trivial,trivial,trivial,trivial,trivial⟩),?_⟩
  refine T_g 15 (some 11) (.tuple #[vu ra,vi rb]) (bv 20 65535) [(0,R),(1,vq d),(2,vq j),(3,vq e),(8,vi s8),(11,.tuple #[vu ra,vi rb])] (pure (.value (.tuple #[vu ra,vi rb])):Sem Next) (λ_ _ _ _ _=>rfl)<|T_g1 16 27 (vu ra) (bv 20 131071) [] (pure (.value (vu ra)):Sem Next) (λ_ _ _ _ _=>rfl)<|T_g1 17 28 (vi rb) (bv 20 262143) [11] (pure (.value (vi rb)):Sem Next) (λ_ _ _ _ _=>rfl)<|T_g1 18 6 (vu ra) (bv 20 524287) [27] (pure (.value (vu ra)):Sem Next) (λ_ _ _ _ _=>rfl)<|T_g1 19 7 (vi rb) (bv 20 1048575) [28] (pure (.value (vi rb)):Sem Next) (λ_ _ _ _ _=>rfl)<|fE [(0,R),(1,vq d),(2,vq j),(3,vq e),(6,vu ra),(7,vi rb),(8,vi s8)] sk<|yq<|aE<|aA 4<|T_n 3 [(0,R),(1,vq d),(2,vq j),(3,vq e),(6,vu ra),(8,vi s8),(31,.bool (rb !=0))] ?_
  revert h;refine iO_ (λc11 h=>?_) (λc11 h=>?_)
  ·have b12:(rb !=0)=false:=bne_eq_false_iff_eq.mpr c11
   refine bT [(0,R),(1,vq d),(2,vq j),(3,vq e),(6,vu ra),(8,vi s8),(31,vF)] (by rw[b12]) ?_
   clear b12
   refine T_nd 2 [6] [(32,R),(33,vu ra)]<|qx (some 34) R #[vu ra] (λ_=>by kernel_rfl) h ?_;clear h
   rintro q H3 ⟨o,rfl,h⟩
   refine T_pd [32,33] [(34,.bool o)]<|T_ed 2 [31,34] [(36,.bool (!o))] ?_
   revert h;refine iO_ (λc13 h=>?_) (λc13 h=>?_)
   ·exact aK 36 (congrArg Bool.not (c13))<|T_k<|aD<|aE<|T_rz 5<|T_ed 2 [8,36] [(8,vi (zY (s8+1)))]<|aT ((zY (s8+1)):Int) sk h
   exact aJ 36 (congrArg Bool.not (zZ c13))<|fB [] [] hQ h
  have b12:(rb !=0)=true:=bne_iff_ne.mpr c11
  refine bT [(0,R),(1,vq d),(2,vq j),(3,vq e),(6,vu ra),(8,vi s8),(31,vT)] (by rw[b12]) ?_
  clear b12
  exact T_ed 5 [6,31] [(36,vT)]<|T_tz 36<|fB [] [] hQ h
 exact aK 9 (zQ c4)<|zz 0<|aB<|aB<|aN<|fI (fn:=f134) [] hQ (show dY _ _ _ [] _ from .nil) h
end cK
variable{H:zV}{a:zW}{b:zj}
/-! moraine/weak.Guards -/
namespace dp
def K0:=Func.code f15
def K2:=cb K0
def K3:=ca K2
def K5:=cb K3
def K13:=cb K5
def K14:=ca K13
def K15:=cb K13
def K17:=cb K14
def K18:=ca K17
def K19:=ca K18
def K36:=cb K15
def K37:=cb K36
def K38:=ca K37
def K39:=cb K37
def K41:=cb K38
def K42:=ca K41
def K43:=ca K42
def K45:=cb K43
def K47:=cb K45
def K50:=ca K47
def K52:=ca K50
def K54:=cb K52
def K56:=cb K54
def K57:=ca K56
def K60:=cb K57
def K62:=cb K60
def K63:=ca K62
def K68:=cb K39
def K69:=ca K68
def K72:=cb K69
def K73:=ca K72
def K74:=ca K73
def K76:=cb K74
def K78:=cb K76
def K81:=ca K78
def K83:=ca K81
def K85:=cb K83
def K87:=cb K85
def K88:=ca K87
end dp
def dp.pt(tv lB:zW)(lN lC:Nat)(H:zV)(R:zj):Prop:=
 ∀b H1,b=H.size->H1=H.push (.cells #[vp tv] 37)->
 ∀e H2,e=H1.size->H2=H1.push (.cells #[vs lB lN lC] 31)->
 ∃x,hat H2 (ad b)=some (vp x)/\
 eW.C x H2 (λv H3=> ∃bz,v=.bool bz/\
 if bz=true then(
 ∃xB xN xC,hat H3 (ad e)=some (vs xB xN xC)/\
 gj.C xB xN xC H3 (λcs H4=> ∃bl bo bi,cs=vs bl bo bi/\
 R (vs bl bo bi) H4))
 else
 ∃b9 z b8,hat H3 (ad e)=some (vs b9 z b8)/\
 0<=(z:Int)/\(z:Int)<=(z:Int)/\8*(z:Int)<=2 ^ 48/\(z:Int)<=9223372036854775807/\
 ∀bg H5,bg=H3.size->H5=H3.push (.cells (Builtin.zeroCells #[vi 0] (Int.toNat (z:Int))) 3)->
 ∀d H6,d=H5.size->H6=H5.push (.cells #[vN] 75)->
 (aM H6 (ad d) 0 1)/\ ∀H7,H7=aP H6 (ad d) [vs (some (ad bg)) (Int.toNat (z:Int)) (Int.toNat (z:Int))] 0->
 ∃aj j s,hat H7 (ad e)=some (vs aj j s)/\
 ∃(b6:zk) (m20:Int->zV->Nat),b6 0 H7/\ ∀m H8,b6 m H8->
 if m< (j:Int)then(
 ∃aa,aj=some aa/\
 zv m j/\
 ∃av ac,aU H8 (aa.add (Int.toNat m*2)) 0 [vu av,vu ac]/\
 ∀aq H9,aq=H8.size->H9=H8.push (.cells #[vu 0,vu 0] 36)->
 (aM H9 (ad aq) 0 2)/\ ∀b3,b3=aP H9 (ad aq) [vu av,vu ac] 0->
 ∃bp,hat b3 (ad b)=some (vp bp)/\
 ∃b5,hat b3 (ad aq)=some (vu b5)/\
 aX.C bp b5 b3 (λcu bw=> ∃bb,cu=.bool bb/\
 if bb=true then(
 (b6 (zY (m+1)) bw/\m20 (zY (m+1)) bw<m20 m H8))
 else
 ∃bj a5 be,hat bw (ad d)=some (vs bj a5 be)/\
 ∃ax,bj=some ax/\
 zv m a5/\
 (aM bw (ax.add (Int.toNat m*1)) 0 1)/\ ∀cd,cd=aP bw (ax.add (Int.toNat m*1)) [vi 1] 0->
 (b6 (zY (m+1)) cd/\m20 (zY (m+1)) cd<m20 m H8)))
 else
 ∃(ce:zV->Prop) (m38:zV->Nat),ce H8/\ ∀b2,ce b2->
 ∃am o ae,hat b2 (ad e)=some (vs am o ae)/\
 ∃(cc:zk) (m44:Int->zV->Nat),cc 0 b2/\ ∀p H14,cc p H14->
 if p< (o:Int)then(
 ∃af,am=some af/\
 zv p o/\
 ∃ag y,aU H14 (af.add (Int.toNat p*2)) 0 [vu ag,vu y]/\
 ∀ab H15,ab=H14.size->H15=H14.push (.cells #[vu 0,vu 0] 36)->
 (aM H15 (ad ab) 0 2)/\ ∀ch,ch=aP H15 (ad ab) [vu ag,vu y] 0->
 cO.C p (some (ad d)) (some (ad b)) (some (ad e)) ch (λcr bt=> ∃bs,cr=.bool bs/\
 if bs=true then(
 ∃bm a8 bf,hat bt (ad d)=some (vs bm a8 bf)/\
 ∃ay,bm=some ay/\
 zv p a8/\
 (aM bt (ay.add (Int.toNat p*1)) 0 1)/\ ∀b4,b4=aP bt (ay.add (Int.toNat p*1)) [vi 2] 0->
 ∃br,hat b4 (ad b)=some (vp br)/\
 ∃b1,hat b4 (ad ab)=some (vu b1)/\
 aR.C br b1 b4 (λct cg=> ∃ao,ct=vu ao/\
 ∃ai,hat cg (ad b)=some (vp ai)/\
 ∃aw,hat cg (ad b)=some (vp aw)/\
 ∃a7,hat cg ((ad ab).add 1)=some (vu a7)/\
 aR.C aw a7 cg (λcv cm=> ∃bu,cv=vu bu/\aU cm (ad b) 0 [vp ai]/\
 fL.C ai bu ao cm (λ_ cn=>
 ∃bk,hat cn (ad b)=some (vp bk)/\
 bM.C bk cn (λ_ co=>
 (ce co/\m38 co<m38 b2))))))
 else
 (cc (zY (p+1)) bt/\m44 (zY (p+1)) bt<m44 p H14)))
 else
 ∃al f n,hat H14 (ad e)=some (vs al f n)/\
 ∃(bx:zW->Nat->Nat->zk) (m75:zW->Nat->Nat->Int->zV->Nat),bx none 0 0 0 H14/\ ∀g outN outC s68 H23,bx g outN outC s68 H23->
 if s68< (f:Int)then(
 ∃q,al=some q/\
 zv s68 f/\
 ∃ah u,aU H23 (q.add (Int.toNat s68*2)) 0 [vu ah,vu u]/\
 ∀r H24,r=H23.size->H24=H23.push (.cells #[vu 0,vu 0] 36)->
 (aM H24 (ad r) 0 2)/\ ∀ba,ba=aP H24 (ad r) [vu ah,vu u] 0->
 ∃bh a6 bd,hat ba (ad d)=some (vs bh a6 bd)/\
 ∃a3,bh=some a3/\
 zv s68 a6/\
 ∃a0,hat ba (a3.add (Int.toNat s68*1))=some (vi a0)/\
 if a0<2 then(
 ∃a4,hat ba (ad b)=some (vp a4)/\
 ∃bn,hat ba ((ad r).add 1)=some (vu bn)/\
 aX.C a4 bn ba (λcq bq=> ∃a9,cq=.bool a9/\
 if a9=true then(
 ∃ak,hat bq (ad b)=some (vp ak)/\
 ∃au,hat bq (ad r)=some (vu au)/\
 ∃an,hat bq (ad b)=some (vp an)/\
 ∃az,hat bq ((ad r).add 1)=some (vu az)/\
 aR.C ak au bq (λcj ci=> ∃a1,cj=vu a1/\aU ci (ad b) 0 [vp an]/\aU ci ((ad r).add 1) 0 [vu az]/\
 aR.C an az ci (λck cl=> ∃a2,ck=vu a2/\
 ∀b0 H29,b0=cl.size->H29=cl.push (.cells #[vu a1,vu a2] 36)->
 fy 2 36 16 [vu 0,vu 0] g outN outC (some (ad b0)) 1 H29 (λap bc cp=>
 (bx ap (outN+1) bc (zY (s68+1)) cp/\m75 ap (outN+1) bc (zY (s68+1)) cp<m75 g outN outC s68 H23)))))
 else
 (bx g outN outC (zY (s68+1)) bq/\m75 g outN outC (zY (s68+1)) bq<m75 g outN outC s68 H23)))
 else
 (bx g outN outC (zY (s68+1)) ba/\m75 g outN outC (zY (s68+1)) ba<m75 g outN outC s68 H23))
 else
 R (vs g outN outC) H23)
namespace dp
theorem link{lB:zW}{lN lC:Nat}(h:pt a lB lN lC H b):C a lB lN lC H b:=by
 refine T_en K0 98 func15 ?_
 intro w0 Q hQ
 unfold pt zY at h
 refine T_su [(0,vp a),(1,vs lB lN lC)]<|aA 0<|T_nw (some 2) (λR=>vp (pa R)) (.cells #[vp a] 37) ?_
 intro R H1 e1 e2
 replace h:=h R H1 e1 e2
 refine T_pd [0] [(2,vp (pa R))]<|T_nw (some 3) (λR=>vp (pa R)) (.cells #[vs lB lN lC] 31) ?_
 intro e H2 e3 e4
 replace h:=h e H2 e3 e4
 refine T_pd [1] [(3,vp (pa e))]<|T_ed 1 [] []<|pJ K3 0 (by kernel_rfl) (by kernel_rfl)<|T_sz<|aA 1 ?_
 obtain⟨x,q5,h⟩:=h
 refine T_l1 15 37 q5 []<|T_c (some 16) h ?_;clear h
 rintro v H3 ⟨bz,rfl,h⟩
 refine T_pd [15] [(16,.bool bz)]<|T_e ?_
 revert h;refine iO_ (λc6 h=>?_) (λc6 h=>?_)
 ·refine aJ 16 c6<|aA 2<|T_ud [2,16] [] ?_
  obtain⟨xB,xN,xC,q8,h⟩:=h
  refine T_l1 17 31 q8 [3]<|T_c (some 18) h ?_;clear h
  rintro cs H4 ⟨bl,bo,bi,rfl,h⟩
  refine⟨[(18,vs bl bo bi)],pk,?_⟩
  exact T_nr 1 [4] [vs bl bo bi] hQ h
 refine aK 16 (zZ c6)<|T_kt<|aA 3<|T_ud [16] [] ?_
 obtain⟨b9,z,b8,q9,h⟩:=h
 refine T_l1 19 31 q9 []<|T_nd 1 [19] [(20,vi z)] ?_
 obtain⟨q10,q11,q12,q13,h⟩:=h
 refine N_op (some 21) (iC 75 (vi z) (vi z)) (λv Hz=>v=Value.slice (some (Addr.mk H3.size 0 none)) (Int.toNat (z:Int)) (Int.toNat (z:Int))/\Hz=H3.push (.cells (Builtin.zeroCells #[vi 0] (Int.toNat (z:Int))) 3)) (λ_=>by kernel_rfl) (oA (T:=3) (zero:=vi 0) underlying75 (show prog.info? 3=some t3 from by kernel_rfl) (by kernel_rfl) q10 q11 q12 q13 (by kernel_rfl) (by decide)) ?_
 rintro _ H5 ⟨rfl,e15⟩
 obtain⟨bg,e14⟩: ∃R,R=H3.size:=⟨_,rfl⟩
 replace h:=h bg H5 e14 e15
 rw[<-e14]
 refine T_pd [20] [(21,vs (pa bg) (Int.toNat (z:Int)) (Int.toNat (z:Int)))]<|T_nw (some 5) (λR=>vp (pa R)) (.cells #[vN] 75) ?_
 intro d H6 e16 e17
 replace h:=h d H6 e16 e17
 refine T_pd [] [(5,vp (pa d))] ?_
 obtain⟨q19,h⟩:=h
 refine gL 75 (vs (pa bg) (Int.toNat (z:Int)) (Int.toNat (z:Int))) q19 ?_
 intro H7 e18
 replace h:=h H7 e18
 refine T_pd [21] []<|T_e<|T_sz<|aA 4 ?_
 obtain⟨aj,j,s,q20,h⟩:=h
 refine T_l1 22 31 q20 []<|T_ed 2 [] [(23,vi j),(24,vi 0)]<|T_bz 0 ?_
 obtain⟨b6,m20,i21,i22⟩:=h
 refine cX (x:=K19) (σ:=Int) (λs_=> [(2,vp (pa R)),(3,vp (pa e)),(5,vp (pa d)),(22,vs aj j s),(23,vi j),(24,vi s_)]) (λs_ H=>b6 s_ H) (λs_ H=>m20 s_ H) (0:Int) (by kernel_rfl) i21 sk ?_
 rintro m H8 i23
 have h:=i22 m H8 i23
 refine T_su [(2,vp (pa R)),(3,vp (pa e)),(5,vp (pa d)),(22,vs aj j s),(23,vi j),(24,vi m)]<|aA 5<|T_ed 1 [] [(25,.bool (decide (m< (j:Int))))]<|T_sz ?_
 revert h;refine iO_ (λc24 h=>?_) (λc24 h=>?_)
 ·refine aJ 25 (zX c24)<|T_kt<|T_sz<|T_bz 1<|aA 6<|T_nd 1 [25] [(26,vi m)] ?_
  obtain⟨aa,rfl,q26,h⟩:=h
  refine T_xd (some 27) 31 36 2 aa j s .i64 m underlying31 q26.1 q26.2 [22] [(22,vs (some aa) j s),(27,vq (aa.add (Int.toNat m*2)))] ?_
  obtain⟨av,ac,q27,h⟩:=h
  refine T_lr 28 36 q27 [27]<|T_nw (some 7) (λR=>vp (pa R)) (.cells #[vu 0,vu 0] 36) ?_
  intro aq H9 e28 e29
  replace h:=h aq H9 e28 e29
  refine T_pd [] [(7,vp (pa aq))]<|T_nd 1 [26] [(6,vi m)] ?_
  obtain⟨q31,h⟩:=h
  refine fT 36 [vu av,vu ac] q31 ?_
  intro b3 e30
  replace h:=h b3 e30
  refine T_pd [28] []<|T_e<|aA 7 ?_
  obtain⟨bp,q32,h⟩:=h
  refine T_l1 29 37 q32 []<|T_nd 1 [7] [(30,vp (pa aq))] ?_
  obtain⟨b5,q33,h⟩:=h
  refine T_l1 31 28 q33 [30]<|T_c (some 32) h ?_;clear h
  rintro cu bw ⟨bb,rfl,h⟩
  refine T_pd [29,31] [(32,.bool bb)]<|T_ed 1 [32] [(33,.bool (!bb))] ?_
  revert h;refine iO_ (λc34 h=>?_) (λc34 h=>?_)
  ·exact aK 33 (congrArg Bool.not (c34))<|T_k<|aD<|aE<|T_rz 9<|T_ed 2 [6,24,33] [(24,vi (zY (m+1)))]<|aT ((zY (m+1)):Int) sk h
  refine aJ 33 (congrArg Bool.not (zZ c34))<|T_rz 8<|T_ud [33] [] ?_
  obtain⟨bj,a5,be,q36,h⟩:=h
  refine T_l1 34 75 q36 []<|T_nd 1 [6] [(35,vi m)] ?_
  obtain⟨ax,rfl,q37,h⟩:=h
  refine T_xd (some 36) 75 3 1 ax a5 be .i64 m underlying75 q37.1 q37.2 [34,35] [(36,vq (ax.add (Int.toNat m*1)))] ?_
  obtain⟨q39,h⟩:=h
  refine gL 3 (vi 1) q39 ?_
  intro cd e38
  replace h:=h cd e38
  exact T_pd [36] []<|zq<|aD<|aE<|T_rz 9<|T_ed 2 [24] [(24,vi (zY (m+1)))]<|aT ((zY (m+1)):Int) sk h
 refine aK 25 (zQ c24)<|zz 0<|aB<|aB<|aN<|aE<|aA 10<|T_ed 2 [22,23,24,25] [(8,.func (.func 61) #[] #[vp (pa d),vp (pa R),vp (pa e)])] ?_
 obtain⟨ce,m38,i40,i41⟩:=h
 refine pK 0 K37 [(2,vp (pa R)),(3,vp (pa e)),(5,vp (pa d)),(8,.func (.func 61) #[] #[vp (pa d),vp (pa R),vp (pa e)])] ce m38 (by kernel_rfl) (by kernel_rfl) i40 sk ?_
 rintro b2 i42
 have h:=i41 b2 i42
 refine T_sz<|aA 11 ?_
 obtain⟨am,o,ae,q43,h⟩:=h
 refine T_l (some 39) 31 q43 [(2,vp (pa R)),(3,vp (pa e)),(5,vp (pa d)),(8,.func (.func 61) #[] #[vp (pa d),vp (pa R),vp (pa e)]),(39,vs am o ae)]<|T_ed 2 [] [(40,vi o),(41,vi 0)]<|T_bz 2 ?_
 obtain⟨cc,m44,i44,i45⟩:=h
 refine cX (x:=K43) (σ:=Int) (λs_=> [(2,vp (pa R)),(3,vp (pa e)),(5,vp (pa d)),(8,.func (.func 61) #[] #[vp (pa d),vp (pa R),vp (pa e)]),(39,vs am o ae),(40,vi o),(41,vi s_)]) (λs_ H=>cc s_ H) (λs_ H=>m44 s_ H) (0:Int) (by kernel_rfl) i44 sk ?_
 rintro p H14 i46
 have h:=i45 p H14 i46
 refine T_su [(2,vp (pa R)),(3,vp (pa e)),(5,vp (pa d)),(8,.func (.func 61) #[] #[vp (pa d),vp (pa R),vp (pa e)]),(39,vs am o ae),(40,vi o),(41,vi p)]<|aA 12<|T_ed 1 [] [(42,.bool (decide (p< (o:Int))))]<|T_sz ?_
 revert h;refine iO_ (λc47 h=>?_) (λc47 h=>?_)
 ·refine aJ 42 (zX c47)<|T_kt<|T_sz<|T_bz 3<|aA 13<|T_nd 1 [42] [(43,vi p)] ?_
  obtain⟨af,rfl,q49,h⟩:=h
  refine T_xd (some 44) 31 36 2 af o ae .i64 p underlying31 q49.1 q49.2 [39] [(39,vs (some af) o ae),(44,vq (af.add (Int.toNat p*2)))] ?_
  obtain⟨ag,y,q50,h⟩:=h
  refine T_lr 45 36 q50 [44]<|T_nw (some 10) (λR=>vp (pa R)) (.cells #[vu 0,vu 0] 36) ?_
  intro ab H15 e51 e52
  replace h:=h ab H15 e51 e52
  refine T_pd [] [(10,vp (pa ab))]<|T_nd 1 [43] [(9,vi p)] ?_
  obtain⟨q54,h⟩:=h
  refine fT 36 [vu ag,vu y] q54 ?_
  intro ch e53
  replace h:=h ch e53
  refine T_pd [45] []<|T_e<|aA 14<|T_nd 2 [] [(46,.func (.func 61) #[] #[vp (pa d),vp (pa R),vp (pa e)]),(47,vi p)]<|T_c (some 48) h ?_;clear h
  rintro cr bt ⟨bs,rfl,h⟩
  refine T_pd [46,47] [(48,.bool bs)]<|T_e ?_
  revert h;refine iO_ (λc55 h=>?_) (λc55 h=>?_)
  ·refine aJ 48 c55<|aA 15<|T_ud [39,40,41,48] [] ?_
   obtain⟨bm,a8,bf,q57,h⟩:=h
   refine T_l1 49 75 q57 []<|T_nd 1 [9] [(50,vi p)] ?_
   obtain⟨ay,rfl,q58,h⟩:=h
   refine T_xd (some 51) 75 3 1 ay a8 bf .i64 p underlying75 q58.1 q58.2 [49,50] [(51,vq (ay.add (Int.toNat p*1)))] ?_
   obtain⟨q60,h⟩:=h
   refine gL 3 (vi 2) q60 ?_
   intro b4 e59
   replace h:=h b4 e59
   refine T_pd [51] []<|T_e<|aA 16 ?_
   obtain⟨br,q61,h⟩:=h
   refine T_l1 52 37 q61 []<|T_nd 1 [] [(53,vp (pa ab))] ?_
   obtain⟨b1,q62,h⟩:=h
   refine T_l1 54 28 q62 [53]<|T_c (some 55) h ?_;clear h
   rintro ct cg ⟨ao,rfl,h⟩
   refine T_pd [52,54] [(55,vu ao)]<|T_ed 1 [55] [(11,vu ao)]<|T_sz ?_
   obtain⟨ai,q63,aw,q64,a7,q65,h⟩:=h
   refine yW 17 (Code.ops K63) [(6,(ad R),[vp ai]),(4,(ad R),[vp aw]),(4,((ad ab).add 1),[vu a7])] 7 (bv 7 0) (show aI _ _ _ from⟨⟨q63,trivial⟩,⟨q64,trivial⟩,⟨q65,trivial⟩,trivial⟩)<|T_g 0 (some 56) (vp ai) (bv 7 1) [(2,vp (pa R)),(3,vp (pa e)),(5,vp (pa d)),(8,.func (.func 61) #[] #[vp (pa d),vp (pa R),vp (pa e)]),(10,vp (pa ab)),(11,vu ao),(56,vp ai)] (aQ 37 (vp (pa R))) (yV 6 zw)<|T_g1 1 57 (vp aw) (bv 7 3) [] (aQ 37 (vp (pa R))) (yV 4 yZ)<|aG 2 58 (vq ((ad ab).add 1)) (bv 7 7) [10]<|T_g1 3 59 (vu a7) (bv 7 15) [58] (aQ 28 (vq ((ad ab).add 1))) (yV 4 yX)<|aG 5 61 (vu ao) (bv 7 47) [11]<|yY 4 (some 60) (bv 7 63) 13 #[vp aw,vu a7] h ?_;clear h
   rintro cv cm ⟨bu,rfl,f66,h⟩
   refine⟨[(2,vp (pa R)),(3,vp (pa e)),(5,vp (pa d)),(8,.func (.func 61) #[] #[vp (pa d),vp (pa R),vp (pa e)]),(56,vp ai),(60,vu bu),(61,vu ao)],pk,(show aI _ _ _ from⟨f66,trivial,trivial,trivial⟩),?_⟩
   refine yY 6 (some 62) (bv 7 127) 62 #[vp ai,vu bu,vu ao] h ?_;clear h
   intro v_7 cn h
   refine⟨[(2,vp (pa R)),(3,vp (pa e)),(5,vp (pa d)),(8,.func (.func 61) #[] #[vp (pa d),vp (pa R),vp (pa e)])],pk,(show aI _ _ _ from⟨trivial,trivial,trivial,trivial⟩),?_⟩
   refine fE [(2,vp (pa R)),(3,vp (pa e)),(5,vp (pa d)),(8,.func (.func 61) #[] #[vp (pa d),vp (pa R),vp (pa e)])] sk ?_
   refine yq<|aE<|aA 18 ?_
   obtain⟨bk,q67,h⟩:=h
   refine T_l (some 63) 37 q67 [(2,vp (pa R)),(3,vp (pa e)),(5,vp (pa d)),(8,.func (.func 61) #[] #[vp (pa d),vp (pa R),vp (pa e)]),(63,vp bk)]<|T_c (some 64) h ?_;clear h
   intro v_8 co h
   exact T_pd [63] []<|T_e<|rm 0 (by kernel_rfl)<|kh<|jj<|jj<|kh<|jj<|rn sk h
  exact aK 48 (zZ c55)<|T_k<|aD<|aE<|T_rz 19<|T_ed 2 [9,10,41,48] [(41,vi (zY (p+1)))]<|aT ((zY (p+1)):Int) sk h
 refine aK 42 (zQ c47)<|zz 2<|aB<|aB<|aN<|aE<|aA 20<|T_ed 1 [8,39,40,41,42] [(12,vN)]<|T_sz<|aA 21 ?_
 obtain⟨al,f,n,q68,h⟩:=h
 refine T_l1 66 31 q68 [3]<|T_ed 2 [] [(67,vi f),(68,vi 0)]<|T_bz 4 ?_
 obtain⟨bx,m75,i69,i70⟩:=h
 refine cX (x:=K74) (σ:=zW×Nat×Nat×Int) (λs_=> [(2,vp (pa R)),(5,vp (pa d)),(12,vs s_.1 s_.2.1 s_.2.2.1),(66,vs al f n),(67,vi f),(68,vi s_.2.2.2)]) (λs_ H=>bx s_.1 s_.2.1 s_.2.2.1 s_.2.2.2 H) (λs_ H=>m75 s_.1 s_.2.1 s_.2.2.1 s_.2.2.2 H) ((none,0,0,0):zW×Nat×Nat×Int) (by kernel_rfl) i69 sk ?_
 rintro⟨g,outN,outC,s68⟩ H23 i71
 have h:=i70 g outN outC s68 H23 i71
 refine T_su [(2,vp (pa R)),(5,vp (pa d)),(12,vs g outN outC),(66,vs al f n),(67,vi f),(68,vi s68)]<|aA 22<|T_ed 1 [] [(69,.bool (decide (s68< (f:Int))))]<|T_sz ?_
 revert h;refine iO_ (λc72 h=>?_) (λc72 h=>?_)
 ·refine aJ 69 (zX c72)<|T_kt<|T_sz<|T_bz 5<|aA 23<|T_nd 1 [69] [(70,vi s68)] ?_
  obtain⟨q,rfl,q74,h⟩:=h
  refine T_xd (some 71) 31 36 2 q f n .i64 s68 underlying31 q74.1 q74.2 [66] [(66,vs (some q) f n),(71,vq (q.add (Int.toNat s68*2)))] ?_
  obtain⟨ah,u,q75,h⟩:=h
  refine T_lr 72 36 q75 [71]<|T_nw (some 14) (λR=>vp (pa R)) (.cells #[vu 0,vu 0] 36) ?_
  intro r H24 e76 e77
  replace h:=h r H24 e76 e77
  refine T_pd [] [(14,vp (pa r))]<|T_nd 1 [70] [(13,vi s68)] ?_
  obtain⟨q79,h⟩:=h
  refine fT 36 [vu ah,vu u] q79 ?_
  intro ba e78
  replace h:=h ba e78
  refine T_pd [72] []<|T_e<|aA 24 ?_
  obtain⟨bh,a6,bd,q80,h⟩:=h
  refine T_l1 73 75 q80 []<|T_nd 1 [13] [(74,vi s68)] ?_
  obtain⟨a3,rfl,q81,h⟩:=h
  refine T_xd (some 75) 75 3 1 a3 a6 bd .i64 s68 underlying75 q81.1 q81.2 [73,74] [(75,vq (a3.add (Int.toNat s68*1)))] ?_
  obtain⟨a0,q82,h⟩:=h
  refine T_l1 76 3 q82 [75]<|T_nd 2 [76] [(78,.bool (decide (a0<2)))] ?_
  revert h;refine iO_ (λc83 h=>?_) (λc83 h=>?_)
  ·refine N_bd 78 (zX c83) ?_
   obtain⟨a4,q85,h⟩:=h
   refine T_l1 79 37 q85 []<|T_nd 1 [] [(80,vq ((ad r).add 1))] ?_
   obtain⟨bn,q86,h⟩:=h
   refine T_l1 81 28 q86 [80]<|T_c (some 82) h ?_;clear h
   rintro cq bq ⟨a9,rfl,h⟩
   refine T_pd [79,81] [(82,.bool a9)]<|T_ed 1 [78,82] [(83,.bool a9)] ?_
   revert h;refine iO_ (λc87 h=>?_) (λc87 h=>?_)
   ·refine aJ 83 c87 ?_
    obtain⟨ak,q89,au,q90,an,q91,az,q92,h⟩:=h
    refine yW 25 (Code.ops K88) [(4,(ad R),[vp ak]),(4,(ad r),[vu au]),(8,(ad R),[vp an]),(8,((ad r).add 1),[vu az])] 13 (bv 13 0) (show aI _ _ _ from⟨⟨q89,trivial⟩,⟨q90,trivial⟩,⟨q91,trivial⟩,⟨q92,trivial⟩,trivial⟩)<|T_gp 0 (some 84) (vs g outN outC) (bv 13 1) [(2,vp (pa R)),(5,vp (pa d)),(12,vs g outN outC),(14,vp (pa r)),(66,vs (some q) f n),(67,vi f),(68,vi s68),(84,vs g outN outC)]<|T_g1 1 85 (vp ak) (bv 13 3) [] (aQ 37 (vp (pa R))) (yV 4 zw)<|aG 2 86 (vp (pa r)) (bv 13 7) []<|T_g1 3 87 (vu au) (bv 13 15) [86] (aQ 28 (vp (pa r))) (yV 4 yZ)<|T_g1 5 89 (vp an) (bv 13 47) [] (aQ 37 (vp (pa R))) (yV 8 yX)<|aG 6 90 (vq ((ad r).add 1)) (bv 13 111) [14]<|T_g1 7 91 (vu az) (bv 13 239) [90] (aQ 28 (vq ((ad r).add 1))) (yV 8 yQ)<|yY 4 (some 88) (bv 13 255) 13 #[vp ak,vu au] h ?_;clear h
    rintro cj ci ⟨a1,rfl,f93,f94,h⟩
    refine⟨[(2,vp (pa R)),(5,vp (pa d)),(12,vs g outN outC),(66,vs (some q) f n),(67,vi f),(68,vi s68),(84,vs g outN outC),(88,vu a1),(89,vp an),(91,vu az)],pk,(show aI _ _ _ from⟨trivial,trivial,f93,f94,trivial⟩),?_⟩
    refine yY 8 (some 92) (bv 13 511) 13 #[vp an,vu az] h ?_;clear h
    rintro ck cl ⟨a2,rfl,h⟩
    refine⟨[(2,vp (pa R)),(5,vp (pa d)),(12,vs g outN outC),(66,vs (some q) f n),(67,vi f),(68,vi s68),(84,vs g outN outC),(88,vu a1),(92,vu a2)],pk,(show aI _ _ _ from⟨trivial,trivial,trivial,trivial,trivial⟩),?_⟩
    refine T_g 9 (some 93) (.agg #[vu a1,vu a2]) (bv 13 1023) [(2,vp (pa R)),(5,vp (pa d)),(12,vs g outN outC),(66,vs (some q) f n),(67,vi f),(68,vi s68),(84,vs g outN outC),(93,.agg #[vu a1,vu a2])] (pure (.value (.agg #[vu a1,vu a2])):Sem Next) (λ_ _ _ _ _=>rfl)<|oy 10 (some 94) (bv 13 2047) (λR=>vs (pa R) 1 1) (.cells #[vu a1,vu a2] 36) (by kernel_rfl) (λ_=>by kernel_rfl) (by kernel_rfl) ?_
    intro b0 H29 e95 e96
    replace h:=h b0 H29 e95 e96
    refine⟨[(2,vp (pa R)),(5,vp (pa d)),(12,vs g outN outC),(66,vs (some q) f n),(67,vi f),(68,vi s68),(84,vs g outN outC),(94,vs (pa b0) 1 1)],pk,(show aI _ _ _ from⟨trivial,trivial,trivial,trivial,trivial⟩),?_⟩
    refine mp 11 (some 95) (bv 13 4095) (fl #[31,31] 31 #[vs g outN outC,vs (pa b0) 1 1]) _ (by kernel_rfl) (λ_=>by kernel_rfl) (fd (T:=36) (sz:=2) (bytes:=16) (zero:=(.agg #[vu 0,vu 0]:Value)) underlying31 underlying31 rfl (show prog.info? 36=some t36 from by kernel_rfl) (by kernel_rfl) (by kernel_rfl) (by decide) (by kernel_rfl) (by first | exact h | (simpa only[Value.cells,List.toList_toArray]using h))) (by kernel_rfl) ?_;clear h
    rintro _ cp ⟨ap,bc,rfl,h⟩
    refine⟨[(2,vp (pa R)),(5,vp (pa d)),(12,vs g outN outC),(66,vs (some q) f n),(67,vi f),(68,vi s68),(95,vs ap (outN+1) bc)],pk,(show aI _ _ _ from⟨trivial,trivial,trivial,trivial,trivial⟩),?_⟩
    exact T_g 12 (some 12) (vs ap (outN+1) bc) (bv 13 8191) [(2,vp (pa R)),(5,vp (pa d)),(12,vs ap (outN+1) bc),(66,vs (some q) f n),(67,vi f),(68,vi s68)] (pure (.value (vs ap (outN+1) bc)):Sem Next) (λ_ _ _ _ _=>rfl)<|fE [(2,vp (pa R)),(5,vp (pa d)),(12,vs ap (outN+1) bc),(66,vs (some q) f n),(67,vi f),(68,vi s68)] sk<|yq<|aD<|aE<|T_rz 26<|T_ne 2 [(2,vp (pa R)),(5,vp (pa d)),(12,vs ap (outN+1) bc),(66,vs (some q) f n),(67,vi f),(68,vi (zY (s68+1)))]<|aT ((ap,(outN+1),bc,(zY (s68+1))):zW×Nat×Nat×Int) sk h
   exact aK 83 (zZ c87)<|T_k<|aD<|aE<|T_rz 26<|T_ed 2 [14,68,83] [(68,vi (zY (s68+1)))]<|aT ((g,outN,outC,(zY (s68+1))):zW×Nat×Nat×Int) sk h
  refine N_bd 78 (zQ c83)<|T_ed 5 [78] [(83,vF)]<|T_fz 83<|T_k ?_
  exact aD<|aE<|T_rz 26<|T_ed 2 [14,68,83] [(68,vi (zY (s68+1)))]<|aT ((g,outN,outC,(zY (s68+1))):zW×Nat×Nat×Int) sk h
 exact aK 69 (zQ c72)<|zz 4<|aB<|aB<|aN<|aE<|aA 27<|T_nr 2 [4] [vs g outN outC] hQ h
end dp
/-! moraine/weak.Breaks -/
namespace eP
def K0:=Func.code f20
def K2:=cb K0
def K8:=cb K2
def K9:=ca K8
def K10:=ca K9
def K12:=cb K10
def K14:=cb K12
def K17:=ca K14
def K19:=ca K17
def K21:=cb K19
def K23:=cb K21
def K24:=ca K23
def K26:=cb K24
def K28:=cb K26
def K30:=cb K28
def K31:=ca K30
end eP
def eP.pt(tv:zW)(H:zV)(R:zj):Prop:=
 eW.C tv H (λv H1=> ∃x,v=.bool x/\
 if x=true then(
 R (.tuple #[]) H1)
 else
 cF.C tv H1 (λaq H2=> ∃xB xN xC,aq=vs xB xN xC/\
 ∃(ae:zk) (m11:Int->zV->Nat),ae 0 H2/\ ∀b H3,ae b H3->
 if b< (xN:Int)then(
 ∃e,xB=some e/\
 zv b xN/\
 ∃f,hat H3 (e.add (Int.toNat b*1))=some (vi f)/\
 ∃d,tv=some d/\
 ∃ai,hat H3 d=some (vp ai)/\
 ∃af,ai=some af/\
 ∃ak,hat H3 af=some (vp ak)/\
 ∃ah,ak=some ah/\
 ∃ag,hat H3 ah=some (vp ag)/\
 ∃aj,ag=some aj/\
 ∃r,hat H3 aj=some (vp r)/\
 bN.C r f H3 (λaz H4=> ∃ra rb,az=.tuple #[vu ra,vi rb]/\
 cy.C (some d) ra H4 (λay H5=> ∃o,ay=.bool o/\
 if o=true then(
 aX.C (some d) ra H5 (λav H6=> ∃q,av=.bool q/\
 if q=true then(
 ∃ap,hat H6 d=some (vp ap)/\
 ∃n,ap=some n/\
 ∃am,hat H6 n=some (vp am)/\
 ∃j,am=some j/\
 ∃al,hat H6 j=some (vp al)/\
 ∃g,al=some g/\
 ∃m,hat H6 g=some (vp m)/\
 aR.C (some d) ra H6 (λau H7=> ∃aa,au=vu aa/\aU H7 d 0 [vq n]/\aU H7 n 0 [vq j]/\aU H7 j 0 [vq g]/\aU H7 g 0 [vp m]/\
 bG.C m f aa H7 (λax H8=> ∃ao,ax=vi ao/\
 (ae (zY (b+1)) H8/\m11 (zY (b+1)) H8<m11 b H3))))
 else
 ∃s,hat H6 d=some (vp s)/\
 ∃y,s=some y/\
 ∃ac,hat H6 y=some (vp ac)/\
 ∃u,ac=some u/\
 ∃ab,hat H6 u=some (vp ab)/\
 ∃z,ab=some z/\
 ∃p,hat H6 z=some (vp p)/\
 bG.C p f 44 H6 (λaw H9=> ∃an,aw=vi an/\
 (ae (zY (b+1)) H9/\m11 (zY (b+1)) H9<m11 b H3))))
 else
 (ae (zY (b+1)) H5/\m11 (zY (b+1)) H5<m11 b H3))))
 else
 R (.tuple #[]) H3))
namespace eP
theorem link(h:pt a H b):C a H b:=by
 refine T_en K0 76 func20 ?_
 intro w0 Q hQ
 unfold pt zY at h
 refine T_su [(0,vp a)]<|T_sz<|aA 0<|T_nd 1 [] [(6,vp a)]<|T_c (some 7) h ?_;clear h
 rintro v H1 ⟨x,rfl,h⟩
 refine T_pd [6] [(7,.bool x)]<|T_e ?_
 revert h;refine iO_ (λc1 h=>?_) (λc1 h=>?_)
 ·exact aJ 7 c1<|fB [] [] hQ h
 refine aK 7 (zZ c1)<|T_kt<|aA 1<|T_nd 1 [7] [(8,vp a)]<|T_c (some 9) h ?_;clear h
 rintro aq H2 ⟨xB,xN,xC,rfl,h⟩
 refine T_pd [8] [(9,vs xB xN xC)]<|T_ed 2 [] [(10,vi xN),(11,vi 0)]<|T_bz 0 ?_
 obtain⟨ae,m11,i3,i4⟩:=h
 refine cX (x:=K10) (σ:=Int) (λs_=> [(0,vp a),(9,vs xB xN xC),(10,vi xN),(11,vi s_)]) (λs_ H=>ae s_ H) (λs_ H=>m11 s_ H) (0:Int) (by kernel_rfl) i3 sk ?_
 rintro R H3 i5
 have h:=i4 R H3 i5
 refine T_su [(0,vp a),(9,vs xB xN xC),(10,vi xN),(11,vi R)]<|aA 2<|T_ed 1 [] [(12,.bool (decide (R< (xN:Int))))]<|T_sz ?_
 revert h;refine iO_ (λc6 h=>?_) (λc6 h=>?_)
 ·refine aJ 12 (zX c6)<|T_kt<|T_sz<|T_bz 1<|aA 3<|T_ud [12] [] ?_
  obtain⟨e,rfl,q8,h⟩:=h
  refine T_xd (some 13) 75 3 1 e xN xC .i64 R underlying75 q8.1 q8.2 [9] [(9,vs (some e) xN xC),(13,vq (e.add (Int.toNat R*1)))] ?_
  obtain⟨f,q9,h⟩:=h
  refine T_l1 14 3 q9 [13]<|T_ed 1 [14] [(3,vi f)]<|aA 4<|T_nd 1 [] [(16,vp a)] ?_
  obtain⟨d,rfl,h⟩:=h
  refine T_nd 2 [0,16] [(0,vq d),(18,vq d)] ?_
  obtain⟨ai,q10,h⟩:=h
  refine T_l1 19 23 q10 [18] ?_
  obtain⟨af,rfl,h⟩:=h
  refine T_nd 2 [19] [(21,vq af)] ?_
  obtain⟨ak,q11,h⟩:=h
  refine T_l1 22 49 q11 [21] ?_
  obtain⟨ah,rfl,h⟩:=h
  refine T_nd 2 [22] [(24,vq ah)] ?_
  obtain⟨ag,q12,h⟩:=h
  refine T_l1 25 52 q12 [24] ?_
  obtain⟨aj,rfl,h⟩:=h
  refine T_nd 2 [25] [(27,vq aj)] ?_
  obtain⟨r,q13,h⟩:=h
  refine T_l1 28 78 q13 [27]<|T_nd 1 [] [(29,vi f)]<|T_c (some 30) h ?_;clear h
  rintro az H4 ⟨ra,rb,rfl,h⟩
  refine T_pd [28,29] [(30,.tuple #[vu ra,vi rb])]<|T_ed 5 [30] [(4,vu ra)]<|T_bz 2<|aA 6<|T_nd 2 [] [(49,vq d),(50,vu ra)]<|T_c (some 51) h ?_;clear h
  rintro ay H5 ⟨o,rfl,h⟩
  refine T_pd [49,50] [(51,.bool o)]<|T_ed 2 [51] [(48,.bool (!o))] ?_
  revert h;refine iO_ (λc14 h=>?_) (λc14 h=>?_)
  ·refine aK 48 (congrArg Bool.not (c14))<|aA 7<|T_nd 2 [48] [(54,vq d),(55,vu ra)]<|T_c (some 56) h ?_;clear h
   rintro av H6 ⟨q,rfl,h⟩
   refine T_pd [54,55] [(56,.bool q)]<|T_ed 1 [56] [(53,.bool q)] ?_
   revert h;refine iO_ (λc16 h=>?_) (λc16 h=>?_)
   ·refine aJ 53 c16 ?_
    obtain⟨ap,q18,n,rfl,am,q19,j,rfl,al,q20,g,rfl,m,q21,h⟩:=h
    refine yW 8 (Code.ops K31) [(17,d,[vq n]),(17,n,[vq j]),(17,j,[vq g]),(17,g,[vp m])] 18 (bv 18 0) (show aI _ _ _ from⟨⟨q18,trivial⟩,⟨q19,trivial⟩,⟨q20,trivial⟩,⟨q21,trivial⟩,trivial⟩)<|T_gp 0 (some 57) (vq d) (bv 18 1) [(0,vq d),(3,vi f),(4,vu ra),(9,vs (some e) xN xC),(10,vi xN),(11,vi R),(57,vq d)]<|aG 1 58 (vq d) (bv 18 3) [57]<|aG 2 59 (vq d) (bv 18 7) [58]<|T_g1 3 60 (vq n) (bv 18 15) [59] (aQ 23 (vq d)) (yV 17 zw)<|aG 4 61 (vq n) (bv 18 31) [60]<|aG 5 62 (vq n) (bv 18 63) [61]<|T_g1 6 63 (vq j) (bv 18 127) [62] (aQ 49 (vq n)) (yV 17 yZ)<|aG 7 64 (vq j) (bv 18 255) [63]<|aG 8 65 (vq j) (bv 18 511) [64]<|T_g1 9 66 (vq g) (bv 18 1023) [65] (aQ 52 (vq j)) (yV 17 yX)<|aG 10 67 (vq g) (bv 18 2047) [66]<|aG 11 68 (vq g) (bv 18 4095) [67]<|T_g1 12 69 (vp m) (bv 18 8191) [68] (aQ 78 (vq g)) (yV 17 yQ)<|aG 13 70 (vi f) (bv 18 16383) [3]<|aG 14 71 (vq d) (bv 18 32767) []<|aG 15 72 (vu ra) (bv 18 65535) [4]<|yY 16 (some 73) (bv 18 131071) 13 #[vq d,vu ra] h ?_;clear h
    rintro au H7 ⟨aa,rfl,f22,f23,f24,f25,h⟩
    refine⟨[(0,vq d),(9,vs (some e) xN xC),(10,vi xN),(11,vi R),(69,vp m),(70,vi f),(73,vu aa)],pk,(show aI _ _ _ from⟨f22,f23,f24,f25,trivial⟩),?_⟩
    refine yY 17 (some 74) (bv 18 262143) 54 #[vp m,vi f,vu aa] h ?_;clear h
    rintro ax H8 ⟨ao,rfl,h⟩
    refine⟨[(0,vq d),(9,vs (some e) xN xC),(10,vi xN),(11,vi R)],pk,(show aI _ _ _ from⟨trivial,trivial,trivial,trivial,trivial⟩),?_⟩
    refine fE [(0,vq d),(9,vs (some e) xN xC),(10,vi xN),(11,vi R)] sk ?_
    exact yq<|aD<|aD<|aE<|T_rz 9<|T_ne 2 [(0,vq d),(9,vs (some e) xN xC),(10,vi xN),(11,vi (zY (R+1)))]<|aT ((zY (R+1)):Int) sk h
   refine aK 53 (zZ c16)<|T_rz 5<|T_nd 3 [4,53] [(35,vq d)] ?_
   obtain⟨s,q26,h⟩:=h
   refine T_l1 36 23 q26 [35] ?_
   obtain⟨y,rfl,h⟩:=h
   refine T_nd 2 [36] [(38,vq y)] ?_
   obtain⟨ac,q27,h⟩:=h
   refine T_l1 39 49 q27 [38] ?_
   obtain⟨u,rfl,h⟩:=h
   refine T_nd 2 [39] [(41,vq u)] ?_
   obtain⟨ab,q28,h⟩:=h
   refine T_l1 42 52 q28 [41] ?_
   obtain⟨z,rfl,h⟩:=h
   refine T_nd 2 [42] [(44,vq z)] ?_
   obtain⟨p,q29,h⟩:=h
   refine T_l1 45 78 q29 [44]<|T_nd 1 [3] [(46,vi f)]<|T_c (some 47) h ?_;clear h
   rintro aw H9 ⟨an,rfl,h⟩
   exact T_pd [45,46] []<|zq<|aD<|aD<|aE<|T_rz 9<|T_ed 2 [11] [(11,vi (zY (R+1)))]<|aT ((zY (R+1)):Int) sk h
  exact aJ 48 (congrArg Bool.not (zZ c14))<|T_k<|aD<|aD<|aE<|T_rz 9<|T_ed 2 [3,4,11,48] [(11,vi (zY (R+1)))]<|aT ((zY (R+1)):Int) sk h
 exact aK 12 (zQ c6)<|zz 0<|aB<|aB<|aN<|fI (fn:=f20) [] hQ (show dY _ _ _ [] _ from .nil) h
end eP
/-! moraine/weak.Prune -/
namespace eW
def K0:=Func.code f59
end eW
def eW.pt(tv:zW)(H:zV)(R:zj):Prop:=
 eM tv (
 R vT H) (λa=>
 cI.C (some a) H (λv H1=> ∃x,v=.bool x/\
 R (.bool x) H1))
namespace eW
theorem link(h:pt a H b):C a H b:=by
 refine T_en K0 9 func59 ?_
 intro w0 Q hQ
 unfold pt at h
 refine T_su [(0,vp a)]<|aA 0<|T_ed 1 [] []<|aA 1<|T_nd 1 [] [(3,vp a)] ?_
 rcases a with _ | R
 ·rw[onPtr_none]at h
  exact T_nr 6 [2] [vT] hQ h
 rw[onPtr_some]at h
 refine T_n 3 [(5,vF),(6,vq R)]<|T_c (some 7) h ?_;clear h
 rintro v H1 ⟨x,rfl,h⟩
 exact T_pd [6] [(7,.bool x)]<|T_nr 2 [2] [.bool x] hQ h
end eW
/-! moraine/weak.Guards.1 -/
namespace cO
def K0:=Func.code f61
def K2:=cb K0
def K3:=ca K2
end cO
def cO.pt(i:Int)(r j g:zW)(H:zV)(R:zj):Prop:=
 ∃m,r=some m/\
 ∃xB xN xC,hat H m=some (vs xB xN xC)/\
 ∃b,xB=some b/\
 zv i xN/\
 ∃x,hat H (b.add (Int.toNat i*1))=some (vi x)/\
 if x=1 then(
 ∃f,j=some f/\
 ∃p,hat H f=some (vp p)/\
 ∃d,g=some d/\
 ∃u n q,hat H d=some (vs u n q)/\
 ∃e,u=some e/\
 zv i n/\
 ∃s,hat H ((e.add (Int.toNat i*2)).add 1)=some (vu s)/\
 aX.C p s H (λv H1=> ∃o,v=.bool o/\
 R (.bool o) H1))
 else
 R vF H
namespace cO
theorem link{i:Int}{j g:zW}(h:pt i a j g H b):C i a j g H b:=by
 refine T_en K0 20 func61 ?_
 intro w0 Q hQ
 unfold pt at h
 refine T_su [(0,vi i),(1,vp a),(2,vp j),(3,vp g)]<|aA 0<|T_ed 1 [] []<|T_sz ?_
 obtain⟨m,rfl,xB,xN,xC,q1,r,rfl,q2,x,q3,h⟩:=h
 revert h;refine iO_ (λc4 h=>?_) (λc4 h=>?_)
 ·obtain⟨f,rfl,p,q6,d,rfl,u,n,q,q7,e,rfl,q8,s,q9,h⟩:=h
  refine yW 1 (Code.ops K3) [(12,m,[vs (some r) xN xC]),(12,(r.add (Int.toNat i*1)),[vi x]),(12,f,[vp p]),(12,d,[vs (some e) n q]),(12,((e.add (Int.toNat i*2)).add 1),[vu s])] 15 (bv 15 0) (show aI _ _ _ from⟨⟨q1,trivial⟩,⟨q3,trivial⟩,⟨q6,trivial⟩,⟨q7,trivial⟩,⟨q9,trivial⟩,trivial⟩)<|T_g 0 (some 6) (vs (some r) xN xC) (bv 15 1) [(0,vi i),(2,vp (some f)),(3,vp (some d)),(6,vs (some r) xN xC)] (aQ 75 (vp (some m))) (yV 12 zw)<|aG 1 7 (vi i) (bv 15 3) []<|T_g1 2 8 (vp (some (r.add (Int.toNat i*1)))) (bv 15 7) [6,7] (bE 75 (vs (some r) xN xC) (vi i)) (λ_ w _ _ _=>fg (P:=prog) (t:=75) (elem:=3) (sz:=1) (a:=r) (len:=xN) (cap:=xC) (k:=.i64) (i:=i) underlying75 (λ_=>by kernel_rfl) q2.1 q2.2 w)<|T_g1 3 9 (vi x) (bv 15 15) [8] (aQ 3 (vp (some (r.add (Int.toNat i*1))))) (yV 12 yZ)<|aG 4 10 (.bool (x==1)) (bv 15 31) [9]<|aG 5 11 (.bool (x==1)) (bv 15 63) [10]<|G_bd 11 (zK c4)<|T_g1 6 12 (vp p) (bv 15 127) [2] (aQ 37 (vp (some f))) (yV 12 yX)<|T_g1 7 13 (vs (some e) n q) (bv 15 255) [3] (aQ 31 (vp (some d))) (yV 12 yQ)<|aG 8 14 (vi i) (bv 15 511) [0]<|T_g1 9 15 (vp (some (e.add (Int.toNat i*2)))) (bv 15 1023) [13,14] (bE 31 (vs (some e) n q) (vi i)) (λ_ w _ _ _=>fg (P:=prog) (t:=31) (elem:=36) (sz:=2) (a:=e) (len:=n) (cap:=q) (k:=.i64) (i:=i) underlying31 (λ_=>by kernel_rfl) q8.1 q8.2 w)<|aG 10 16 (vp (some ((e.add (Int.toNat i*2)).add 1))) (bv 15 2047) [15]<|T_g1 11 17 (vu s) (bv 15 4095) [16] (aQ 28 (vp (some ((e.add (Int.toNat i*2)).add 1)))) (yV 12 yJ)<|yY 12 (some 18) (bv 15 8191) 28 #[vp p,vu s] h ?_;clear h
  rintro v H1 ⟨o,rfl,h⟩
  refine⟨[(11,vT),(18,.bool o)],pk,(show aI _ _ _ from⟨trivial,trivial,trivial,trivial,trivial,trivial⟩),?_⟩
  exact T_g 13 (some 19) (.bool o) (bv 15 16383) [(19,.bool o)] (pure (.value (.bool o)):Sem Next) (λ_ _ _ _ _=>rfl)<|T_g1 14 5 (.bool o) (bv 15 32767) [19] (pure (.value (.bool o)):Sem Next) (λ_ _ _ _ _=>rfl)<|fE [(5,.bool o)] sk<|yq<|aE<|fB [5] [.bool o] hQ h
 exact yW 1 (Code.ops K3) [(15,m,[vs (some r) xN xC]),(15,(r.add (Int.toNat i*1)),[vi x])] 15 (bv 15 0) (show aI _ _ _ from⟨⟨q1,trivial⟩,⟨q3,trivial⟩,trivial⟩)<|T_g 0 (some 6) (vs (some r) xN xC) (bv 15 1) [(0,vi i),(2,vp j),(3,vp g),(6,vs (some r) xN xC)] (aQ 75 (vp (some m))) (kI 15 (λ_=>by kernel_rfl) zw (.inr (by kernel_rfl)))<|aG 1 7 (vi i) (bv 15 3) []<|T_g1 2 8 (vp (some (r.add (Int.toNat i*1)))) (bv 15 7) [6,7] (bE 75 (vs (some r) xN xC) (vi i)) (λ_ w _ _ _=>fg (P:=prog) (t:=75) (elem:=3) (sz:=1) (a:=r) (len:=xN) (cap:=xC) (k:=.i64) (i:=i) underlying75 (λ_=>by kernel_rfl) q2.1 q2.2 w)<|T_g1 3 9 (vi x) (bv 15 15) [8] (aQ 3 (vp (some (r.add (Int.toNat i*1))))) (kI 15 (λ_=>by kernel_rfl) yZ (.inr (by kernel_rfl)))<|aG 4 10 (.bool (x==1)) (bv 15 31) [9]<|aG 5 11 (.bool (x==1)) (bv 15 63) [10]<|G_bd 11 (zJ c4)<|kM 6 (some 12) (bv 15 127) [2] [(12,undef)]<|kM 7 (some 13) (bv 15 255) [3] [(13,undef)]<|kM 8 (some 14) (bv 15 511) [0] [(14,undef)]<|kM 9 (some 15) (bv 15 1023) [13,14] [(15,undef)]<|kM 10 (some 16) (bv 15 2047) [15] [(16,undef)]<|kM 11 (some 17) (bv 15 4095) [16] [(17,undef)]<|kM 12 (some 18) (bv 15 8191) [12,17] [(18,undef)]<|aG 13 19 (.bool false) (bv 15 16383) [11,18]<|aG 14 5 (.bool false) (bv 15 32767) [19]<|fE [(5,.bool false)] sk<|yq<|aE<|fB [5] [.bool false] hQ h
end cO
/-! moraine/weak.puts -/
namespace fL
def K0:=Func.code f62
end fL
def fL.pt(tv:zW)(a e:Int)(H:zV)(R:zj):Prop:=
 ∃b,tv=some b/\
 ∃x,hat H b=some (vp x)/\
 dJ.C x a H (λv H1=> ∃i,v=vi i/\
 if i=10 then(
 ∃o,hat H1 b=some (vp o)/\
 eD.C o a H1 (λt H2=> ∃k,t=vi k/\
 if k=2 then(
 de.C (some b) e 20 H2 (λac H3=> ∃d,ac=vu d/\
 if d=20 then(
 R (.tuple #[]) H3)
 else
 ∃m,hat H3 b=some (vp m)/\
 dd.C m a 10 1 H3 (λab H4=> ∃ra rb,ab=.tuple #[vu ra,vi rb]/\
 ∃n,hat H4 b=some (vp n)/\
 df.C n ra d H4 (λy H5=> ∃j,y=vi j/\
 if j=0 then(
 ∃p,hat H5 b=some (vp p)/\
 di.C p a 10 1 d H5 (λu H6=> ∃r,u=vi r/\
 R (.tuple #[]) H6))
 else
 ∃f,hat H5 b=some (vp f)/\
 di.C f a 10 0 d H5 (λaa H7=> ∃q,aa=vi q/\
 ∃g,hat H7 b=some (vp g)/\
 di.C g a 10 1 d H7 (λz H8=> ∃s,z=vi s/\
 R (.tuple #[]) H8))))))
 else
 R (.tuple #[]) H2))
 else
 R (.tuple #[]) H1)
namespace fL
theorem link{R e:Int}(h:pt a R e H b):C a R e H b:=by
 refine T_en K0 61 func62 ?_
 intro w0 Q hQ
 unfold pt at h
 refine T_su [(0,vp a),(1,vu R),(2,vu e)]<|T_sz<|aA 0<|T_nd 1 [] [(9,vp a)] ?_
 obtain⟨tv,rfl,h⟩:=h
 refine T_nd 2 [0,9] [(0,vq tv),(11,vq tv)] ?_
 obtain⟨x,q1,h⟩:=h
 refine T_l1 12 23 q1 [11]<|T_nd 1 [] [(13,vu R)]<|T_c (some 14) h ?_;clear h
 rintro v H1 ⟨i,rfl,h⟩
 refine T_pd [12,13] [(14,vi i)]<|T_nd 2 [14] [(16,.bool (i !=10))] ?_
 revert h;refine iO_ (λc2 h=>?_) (λc2 h=>?_)
 ·refine N_bd 16 (bne_eq_false_iff_eq.mpr c2)<|T_nd 3 [] [(19,vq tv)] ?_
  obtain⟨o,q4,h⟩:=h
  refine T_l1 20 23 q4 [19]<|T_nd 1 [] [(21,vu R)]<|T_c (some 22) h ?_;clear h
  rintro t H2 ⟨k,rfl,h⟩
  refine T_pd [20,21] [(22,vi k)]<|T_ed 2 [16,22] [(24,.bool (k !=2))] ?_
  revert h;refine iO_ (λc5 h=>?_) (λc5 h=>?_)
  ·refine aK 24 (bne_eq_false_iff_eq.mpr c5)<|T_kt<|aA 1<|T_nd 2 [2,24] [(25,vq tv),(26,vu e)]<|T_c (some 27) h ?_;clear h
   rintro ac H3 ⟨d,rfl,h⟩
   refine T_pd [25,26] [(27,vu d)]<|T_ed 1 [27] [(6,vu d)]<|T_sz<|aA 2<|T_ed 2 [] [(29,.bool (d==20))] ?_
   revert h;refine iO_ (λc7 h=>?_) (λc7 h=>?_)
   ·exact aJ 29 (zK c7)<|fB [] [] hQ h
   refine aK 29 (zJ c7)<|T_kt<|T_sz<|aA 3<|T_nd 3 [29] [(33,vq tv)] ?_
   obtain⟨m,q9,h⟩:=h
   refine T_l1 34 23 q9 [33]<|T_nd 1 [] [(35,vu R)]<|T_c (some 36) h ?_;clear h
   rintro ab H4 ⟨ra,rb,rfl,h⟩
   refine T_pd [34,35] [(36,.tuple #[vu ra,vi rb])]<|T_ed 5 [36] [(7,vu ra)]<|aA 4<|T_nd 3 [] [(41,vq tv)] ?_
   obtain⟨n,q10,h⟩:=h
   refine T_l1 42 23 q10 [41]<|T_nd 2 [7] [(43,vu ra),(44,vu d)]<|T_c (some 45) h ?_;clear h
   rintro y H5 ⟨j,rfl,h⟩
   refine T_pd [42,43,44] [(45,vi j)]<|T_ed 1 [45] [(46,.bool (j !=0))] ?_
   revert h;refine iO_ (λc11 h=>?_) (λc11 h=>?_)
   ·refine aK 46 (bne_eq_false_iff_eq.mpr c11)<|T_kt<|T_rz 6<|T_nd 3 [0,46] [(56,vq tv)] ?_
    obtain⟨p,q13,h⟩:=h
    refine T_l1 57 23 q13 [56]<|T_nd 2 [1,6] [(58,vu R),(59,vu d)]<|T_c (some 60) h ?_;clear h
    rintro u H6 ⟨r,rfl,h⟩
    refine⟨[],pk,?_⟩
    exact zq<|fI (fn:=f62) [] hQ (show dY _ _ _ [] _ from .nil) h
   refine aJ 46 (bne_iff_ne.mpr c11)<|T_rz 5<|T_nd 3 [46] [(49,vq tv)] ?_
   obtain⟨f,q14,h⟩:=h
   refine T_l1 50 23 q14 [49]<|T_nd 2 [] [(51,vu R),(52,vu d)]<|T_c (some 53) h ?_;clear h
   rintro aa H7 ⟨q,rfl,h⟩
   refine T_pd [50,51,52] []<|T_e<|T_rz 6<|T_nd 3 [0] [(56,vq tv)] ?_
   obtain⟨g,q15,h⟩:=h
   refine T_l1 57 23 q15 [56]<|T_nd 2 [1,6] [(58,vu R),(59,vu d)]<|T_c (some 60) h ?_;clear h
   rintro z H8 ⟨s,rfl,h⟩
   refine⟨[],pk,?_⟩
   exact zq<|fI (fn:=f62) [] hQ (show dY _ _ _ [] _ from .nil) h
  exact aJ 24 (bne_iff_ne.mpr c5)<|fB [] [] hQ h
 exact N_bd 16 (bne_iff_ne.mpr c2)<|T_ed 8 [16] [(24,vT)]<|T_tz 24<|fB [] [] hQ h
end fL
