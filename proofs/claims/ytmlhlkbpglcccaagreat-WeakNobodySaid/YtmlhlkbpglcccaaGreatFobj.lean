/- Printed: what each function asks, and that it is sound. -/
import Derived.Test.YtmlhlkbpglcccaaGreatFnsC
set_option linter.unusedSimpArgs false
set_option linter.unusedVariables false
set_option maxRecDepth 100000
set_option maxHeartbeats 1000000
noncomputable section
namespace Go.Proofs.YtmlhlkbpglcccaaGreat
open Go
/-! moraine/obj.New -/
namespace fW
def K0:=Func.code Tryz.f7
end fW
def fW.pt(a:Int)(H:zV)(R:zj):Prop:=
 fC.C a H (λv H1=> ∃(ra:zW) (rb:Int),v=.tuple #[.pointer ra,.int .i64 rb]/\
 if rb=0 then(
 ∀(b:Nat) (H2:zV),b=H1.size->H2=H1.push (.cells #[.pointer ra,.slice none 0 0,.slice none 0 0,.int .u64 0] 55)->
 R (.tuple #[.pointer (some (ad b)),.int .i64 0]) H2)
 else
 R (.tuple #[.pointer none,.int .i64 rb]) H1)
namespace fW
theorem link{a:Int}{H:zV}{R:zj}(h:pt a H R):C a H R:=by
 refine T_en K0 17 Tryz.func7 ?_
 intro w0 Q hQ
 unfold pt at h
 refine T_su [(0,vi a)]<| ar 0<| T_ed 2 [] []<| ar 1<| T_n 1 [(7,vi a)]<| T_c (some 8) h ?_;clear h
 rintro v H1 ⟨ra,rb,rfl,h⟩
 refine⟨[(8,.tuple #[vp ra,vi rb])],pk,?_⟩
 refine T_ne 5 [(4,vp ra),(5,vi rb)]<| T_sz<| ar 2<| T_ed 2 [] [(12,.bool (rb !=0))] ?_
 by_cases c1:rb=0
 ·rw[if_pos c1]at h
  refine aJ 12 (bne_eq_false_iff_eq.mpr c1)<| T_kt<| ar 4<| T_n 2 [(15,.agg #[vp ra,vs none 0 0,vs none 0 0,vu 0])]<| T_nw (some 16) (λb=>vp (pa b)) (.cells #[vp ra,vs none 0 0,vs none 0 0,vu 0] 55) ?_
  intro b H2 e3 e4
  replace h:=h b H2 e3 e4
  refine⟨[(16,vp (pa b))],pk,?_⟩
  exact T_nr 2 [2,3] [vp (pa b),vi 0] hQ h
 rw[if_neg c1]at h
 exact aI 12 (bne_iff_ne.mpr c1)<| ar 3<| T_nr 3 [2,3] [vp none,vi rb] hQ h
end fW

/-! (*moraine/obj.Heap).Make -/
namespace dz
def K0:=Func.code Tryz.f9
end dz
def dz.pt(hv:zW)(a d:Int)(lB:zW)(lN lC:Nat)(H:zV)(R:zj):Prop:=
 eh.C a 0 d H (λv H1=> ∃ra rb:Int,v=.tuple #[.int .u64 ra,.int .i64 rb]/\
 if rb=0 then(
 if(lN:Int)>62 then(
 R (.tuple #[.int .u64 0,.int .i64 6]) H1)
 else
 eh.C a (lN:Int) d H1 (λm H2=> ∃e i:Int,m=.tuple #[.int .u64 e,.int .i64 i]/\
 fM.C a H2 (λk H3=> ∃x:Int,k=.int .i64 x/\
 ∀(b:Nat) (H4:zV),b=H3.size->H4=H3.push (.cells #[.int .u64 e] 28)->
 fc 1 28 8 [.int .u64 0] (some (ad b)) 1 1 lB lN H4 (λap j H5=>
 dp.C hv x 3 ap (1+lN) j H5 (λl H6=> ∃f g:Int,l=.tuple #[.int .u64 f,.int .i64 g]/\
 R (.tuple #[.int .u64 f,.int .i64 g]) H6)))))
 else
 R (.tuple #[.int .u64 0,.int .i64 rb]) H1)
namespace dz
theorem link{hv:zW}{a d:Int}{lB:zW}{lN lC:Nat}{H:zV}{R:zj}(h:pt hv a d lB lN lC H R):C hv a d lB lN lC H R:=by
 refine T_en K0 44 Tryz.func9 ?_
 intro w0 Q hQ
 unfold pt at h
 refine T_su [(0,vp hv),(1,vi a),(2,vu d),(3,vs lB lN lC)]<| ar 0<| T_ed 2 [] []<| T_sz<| ar 1<| T_nd 2 [] [(15,vi a),(16,vu d)]<| T_c (some 17) h ?_;clear h
 rintro v H1 ⟨ra,rb,rfl,h⟩
 refine T_pd [15,16] [(17,.tuple #[vu ra,vi rb])]<| T_ed 5 [17] [(11,vi rb)]<| ar 2<| T_ed 2 [] [(21,.bool (rb !=0))] ?_
 by_cases c1:rb=0
 ·rw[if_pos c1]at h
  refine aJ 21 (bne_eq_false_iff_eq.mpr c1)<| T_kt<| T_sz<| ar 4<| T_ed 3 [11,21] [(25,.bool (decide ((lN:Int)>62)))] ?_
  by_cases c3:(lN:Int)>62
  ·rw[if_pos c3]at h
   exact aI 25 (zX c3)<| ar 5<| T_nr 2 [8,9] [vu 0,vi 6] hQ h
  rw[if_neg c3]at h
  refine aJ 25 (zQ c3)<| T_kt<| ar 6<| T_nd 4 [2,25] [(27,vi a),(29,vi lN),(30,vu d)]<| T_c (some 31) h ?_;clear h
  rintro m H2 ⟨e,i,rfl,h⟩
  refine T_pd [27,29,30] [(31,.tuple #[vu e,vi i])]<| T_ed 5 [31] [(12,vu e)]<| ar 7<| T_nd 2 [0,1] [(34,vp hv),(35,vi a)]<| T_c (some 36) h ?_;clear h
  rintro k H3 ⟨x,rfl,h⟩
  refine T_pd [35] [(36,vi x)]<| T_nd 1 [12] [(37,vu e)]<| T_nw (some 38) (λb=>vs (pa b) 1 1) (.cells #[vu e] 28) ?_
  intro b H4 e5 e6
  replace h:=h b H4 e5 e6
  refine T_pd [37] [(38,vs (pa b) 1 1)]<| T_nd 1 [3] [(39,vs lB lN lC)]<| N_op (some 40) (eS #[32,32] 32 #[vs (pa b) 1 1,vs lB lN lC]) _ (λ_=>by kernel_rfl) (eQ (T:=28) (sz:=1) (bytes:=8) (zero:=(vu 0:Value)) Tryz.underlying32 Tryz.underlying32 rfl (show Tryz.prog.info? 28=some Tryz.t28 from by kernel_rfl) (by kernel_rfl) (by kernel_rfl) (by decide) (by kernel_rfl) (by first | exact h | (simpa only[Value.cells,List.toList_toArray]using h))) ?_;clear h
  rintro _ H5 ⟨ap,j,rfl,h⟩
  refine T_pd [38,39] [(40,vs ap (1+lN) j)]<| T_c (some 41) h ?_;clear h
  rintro l H6 ⟨f,g,rfl,h⟩
  refine⟨[(41,.tuple #[vu f,vi g])],pk,?_⟩
  exact T_nr 4 [8,9] [vu f,vi g] hQ h
 rw[if_neg c1]at h
 exact aI 21 (bne_iff_ne.mpr c1)<| ar 3<| T_nr 3 [8,9] [vu 0,vi rb] hQ h
end dz

/-! (*moraine/obj.Heap).Type -/
namespace dE
def K0:=Func.code Tryz.f32
end dE
def dE.pt(hv:zW)(wv:Int)(H:zV)(R:zj):Prop:=
 bP.C hv wv H (λv H1=> ∃(ra rb rc rd:Int) (re:Bool),v=.tuple #[.int .i64 ra,.int .i64 rb,.int .i64 rc,.int .u64 rd,.bool re]/\
 R (.int .i64 rb) H1)
namespace dE
theorem link{hv:zW}{wv:Int}{H:zV}{R:zj}(h:pt hv wv H R):C hv wv H R:=by
 refine T_en K0 20 Tryz.func32 ?_
 intro w0 Q hQ
 unfold pt at h
 refine T_su [(0,vp hv),(1,vu wv)]<| ar 0<| T_ed 1 [] []<| ar 1<| T_n 2 [(11,vp hv),(12,vu wv)]<| T_c (some 13) h ?_;clear h
 rintro v H1 ⟨ra,rb,rc,rd,re,rfl,h⟩
 refine⟨[(13,.tuple #[vi ra,vi rb,vi rc,vu rd,.bool re])],pk,?_⟩
 exact T_ne 11 [(6,vi rb)]<| ar 2<| T_nr 2 [4] [vi rb] hQ h
end dE

/-! (*moraine/obj.Heap).Get -/
namespace dF
def K0:=Func.code Tryz.f37
end dF
def dF.pt(hv:zW)(wv a i:Int)(H:zV)(R:zj):Prop:=
 cX.C hv wv a i H (λv H1=> ∃ra rb:Int,v=.tuple #[.int .i64 ra,.int .i64 rb]/\
 if rb=0 then(
 ∃f:Addr,hv=some f/\
 ∃x:zW,hat H1 f=some (.pointer x)/\
 ∃xA:Addr,x=some xA/\
 ∃g:zW,hat H1 xA=some (.pointer g)/\
 ∃j:Addr,g=some j/\
 ∃e:zW,hat H1 j=some (.pointer e)/\
 bQ.C e ra H1 (λk H2=> ∃d b:Int,k=.tuple #[.int .u64 d,.int .i64 b]/\
 R (.tuple #[.int .u64 d,.int .i64 b]) H2))
 else
 R (.tuple #[.int .u64 0,.int .i64 rb]) H1)
namespace dF
theorem link{hv:zW}{wv a i:Int}{H:zV}{R:zj}(h:pt hv wv a i H R):C hv wv a i H R:=by
 refine T_en K0 37 Tryz.func37 ?_
 intro w0 Q hQ
 unfold pt at h
 refine T_su [(0,vp hv),(1,vu wv),(2,vi a),(3,vi i)]<| ar 0<| T_ed 2 [] []<| ar 1<| T_n 4 [(0,vp hv),(13,vp hv),(14,vu wv),(15,vi a),(16,vi i)]<| T_c (some 17) h ?_;clear h
 rintro v H1 ⟨ra,rb,rfl,h⟩
 refine⟨[(0,vp hv),(17,.tuple #[vi ra,vi rb])],pk,?_⟩
 refine T_ed 5 [17] [(10,vi ra),(11,vi rb)]<| T_sz<| ar 2<| T_ed 2 [] [(21,.bool (rb !=0))] ?_
 by_cases c1:rb=0
 ·rw[if_pos c1]at h
  refine aJ 21 (bne_eq_false_iff_eq.mpr c1)<| T_kt<| ar 4<| T_n 1 [(10,vi ra),(23,vp hv)] ?_
  obtain⟨f,rfl,h⟩:=h
  refine T_nd 2 [23] [(25,vp (some f))] ?_
  obtain⟨x,q3,h⟩:=h
  refine T_l1 26 53 q3 [25] ?_
  obtain⟨xA,rfl,h⟩:=h
  refine T_nd 2 [26] [(28,vp (some xA))] ?_
  obtain⟨g,q4,h⟩:=h
  refine T_l1 29 56 q4 [28] ?_
  obtain⟨j,rfl,h⟩:=h
  refine T_nd 2 [29] [(31,vp (some j))] ?_
  obtain⟨e,q5,h⟩:=h
  refine T_l1 32 82 q5 [31]<| T_nd 1 [10] [(33,vi ra)]<| T_c (some 34) h ?_;clear h
  rintro k H2 ⟨d,b,rfl,h⟩
  refine⟨[(34,.tuple #[vu d,vi b])],pk,?_⟩
  exact T_nr 4 [8,9] [vu d,vi b] hQ h
 rw[if_neg c1]at h
 exact aI 21 (bne_iff_ne.mpr c1)<| ar 3<| T_nr 3 [8,9] [vu 0,vi rb] hQ h
end dF

/-! (*moraine/obj.Heap).put -/
namespace dp
def K0:=Func.code Tryz.f39
def K2:=cb K0
def K4:=cb K2
def K12:=cb K4
def K14:=cb K12
def K19:=ca K14
def K22:=cb K19
def K23:=ca K22
def K24:=ca K23
end dp
def dp.pt(hv:zW)(f d:Int)(lB:zW)(lN lC:Nat)(H:zV)(R:zj):Prop:=
 cY.C hv H (λv H1=> ∃x:Bool,v=.bool x/\
 if x=true then(
 R (.tuple #[.int .u64 0,.int .i64 2]) H1)
 else
 ∃e:Addr,hv=some e/\
 ∃p:zW,hat H1 e=some (.pointer p)/\
 ∃z:Addr,p=some z/\
 ∃o:zW,hat H1 z=some (.pointer o)/\
 bR.C o 0 f (lN:Int) H1 (λae H2=> ∃ra rb:Int,ae=.tuple #[.int .i64 ra,.int .i64 rb]/\
 if rb=0 then(
 ∃(s:zk) (m25:Int->zV->Nat),s 0 H2/\ ∀(b:Int) (H3:zV),s b H3->
 if b< (lN:Int)then(
 ∃g:Addr,lB=some g/\
 zv b lN/\
 ∃j:Int,hat H3 (g.add (Int.toNat b*1))=some (.int .u64 j)/\
 ∃q:zW,hat H3 e=some (.pointer q)/\
 ∃y:Addr,q=some y/\
 ∃u:zW,hat H3 y=some (.pointer u)/\
 ∃r:Addr,u=some r/\
 ∃n:zW,hat H3 r=some (.pointer n)/\
 bK.C n (zY (ra+b)) j H3 (λaa H4=> ∃ac:Int,aa=.int .i64 ac/\
 (s (zY (b+1)) H4/\m25 (zY (b+1)) H4<m25 b H3)))
 else
 fe.C d ra H3 (λab H5=> ∃l m:Int,ab=.tuple #[.int .u64 l,.int .i64 m]/\
 R (.tuple #[.int .u64 l,.int .i64 m]) H5))
 else
 R (.tuple #[.int .u64 0,.int .i64 rb]) H2))
namespace dp
theorem link{hv:zW}{f d:Int}{lB:zW}{lN lC:Nat}{H:zV}{R:zj}(h:pt hv f d lB lN lC H R):C hv f d lB lN lC H R:=by
 refine T_en K0 61 Tryz.func39 ?_
 intro w0 Q hQ
 unfold pt zY at h
 refine T_su [(0,vp hv),(1,vi f),(2,vi d),(3,vs lB lN lC)]<| ar 0<| T_ed 2 [] []<| T_sz<| ar 1<| T_nd 1 [] [(14,vp hv)]<| T_c (some 15) h ?_;clear h
 rintro v H1 ⟨x,rfl,h⟩
 refine T_pd [14] [(15,.bool x)]<| T_e ?_
 by_cases c1:x=true
 ·rw[if_pos c1]at h
  exact aI 15 c1<| ar 2<| T_nr 2 [8,9] [vu 0,vi 2] hQ h
 rw[if_neg c1]at h
 refine aJ 15 (zZ c1)<| T_kt<| ar 3<| T_nd 1 [15] [(17,vp hv)] ?_
 obtain⟨e,rfl,h⟩:=h
 refine T_nd 2 [0,17] [(0,vp (some e)),(19,vp (some e))] ?_
 obtain⟨p,q3,h⟩:=h
 refine T_l1 20 53 q3 [19] ?_
 obtain⟨z,rfl,h⟩:=h
 refine T_nd 2 [20] [(22,vp (some z))] ?_
 obtain⟨o,q4,h⟩:=h
 refine T_l1 23 56 q4 [22]<| T_nd 3 [1] [(24,vi f),(26,vi lN)]<| T_c (some 27) h ?_;clear h
 rintro ae H2 ⟨ra,rb,rfl,h⟩
 refine T_pd [23,24,26] [(27,.tuple #[vi ra,vi rb])]<| T_ed 5 [27] [(10,vi ra),(11,vi rb)]<| T_sz<| ar 4<| T_ed 2 [] [(31,.bool (rb !=0))] ?_
 by_cases c5:rb=0
 ·rw[if_pos c5]at h
  refine aJ 31 (bne_eq_false_iff_eq.mpr c5)<| T_kt<| T_sz<| ar 6<| T_ed 3 [3,11,31] [(33,vs lB lN lC),(34,vi lN),(35,vi 0)]<| T_bz 0 ?_
  obtain⟨s,m25,i7,i8⟩:=h
  refine de (x:=K24) (σ:=Int) (λs_=> [(0,vp (some e)),(2,vi d),(10,vi ra),(33,vs lB lN lC),(34,vi lN),(35,vi s_)]) (λs_ H=>s s_ H) (λs_ H=>m25 s_ H) (0:Int) (by kernel_rfl) i7 sk ?_
  rintro b H3 i9
  have h:=i8 b H3 i9
  refine T_su [(0,vp (some e)),(2,vi d),(10,vi ra),(33,vs lB lN lC),(34,vi lN),(35,vi b)]<| ar 7<| T_ed 1 [] [(36,.bool (decide (b< (lN:Int))))]<| T_sz ?_
  by_cases c10:b< (lN:Int)
  ·rw[if_pos c10]at h
   refine aI 36 (zX c10)<| T_kt<| T_sz<| T_bz 1<| ar 8<| T_nd 1 [36] [(37,vi b)] ?_
   obtain⟨g,rfl,q12,h⟩:=h
   refine T_xd (some 38) 32 28 1 g lN lC .i64 b Tryz.underlying32 q12.1 q12.2 [33] [(33,vs (some g) lN lC),(38,vp (some (g.add (Int.toNat b*1))))] ?_
   obtain⟨j,q13,h⟩:=h
   refine T_l1 39 28 q13 [38]<| T_ed 2 [37,39] [(12,vi b),(13,vu j)]<| T_rz 9<| T_nd 3 [] [(42,vp (some e))] ?_
   obtain⟨q,q14,h⟩:=h
   refine T_l1 43 53 q14 [42] ?_
   obtain⟨y,rfl,h⟩:=h
   refine T_nd 2 [43] [(45,vp (some y))] ?_
   obtain⟨u,q15,h⟩:=h
   refine T_l1 46 56 q15 [45] ?_
   obtain⟨r,rfl,h⟩:=h
   refine T_nd 2 [46] [(48,vp (some r))] ?_
   obtain⟨n,q16,h⟩:=h
   refine T_l1 49 82 q16 [48]<| T_nd 4 [12,13] [(52,vi (zY (ra+b))),(53,vu j)]<| T_c (some 54) h ?_;clear h
   rintro aa H4 ⟨ac,rfl,h⟩
   exact T_pd [49,52,53] []<| zq<| aD<| aE<| T_rz 10<| T_ed 2 [35] [(35,vi (zY (b+1)))]<| aW ((zY (b+1)):Int) sk h
  rw[if_neg c10]at h
  refine aJ 36 (zQ c10)<| zz 0<| aA<| aA<| aO<| aE<| ar 11<| T_n 2 [(56,vi d),(57,vi ra)]<| T_c (some 58) h ?_;clear h
  rintro ab H5 ⟨l,m,rfl,h⟩
  refine⟨[(58,.tuple #[vu l,vi m])],pk,?_⟩
  exact T_nr 4 [8,9] [vu l,vi m] hQ h
 rw[if_neg c5]at h
 exact aI 31 (bne_iff_ne.mpr c5)<| ar 5<| T_nr 3 [8,9] [vu 0,vi rb] hQ h
end dp

/-! moraine/obj.raw -/
namespace fM
def K0:=Func.code Tryz.f40
end fM
def fM.pt(a:Int)(H:zV)(R:zj):Prop:=
 if((a==2) || (a==3))=true then(
 R (.int .i64 3) H)
 else
 R (.int .i64 2) H
namespace fM
theorem link{a:Int}{H:zV}{R:zj}(h:pt a H R):C a H R:=by
 refine T_en K0 9 Tryz.func40 ?_
 intro w0 Q hQ
 unfold pt at h
 refine T_su [(0,vi a)]<| ar 0<| T_ed 1 [] []<| T_sz<| ar 1 ?_
 refine fm [(8,.bool ((a==2) || (a==3)))] ?_ ?_
 ·refine aE ?_
  by_cases c3:((a==2) || (a==3))=true
  ·rw[if_pos c3]at h
   exact aI 8 c3<| ar 2<| T_nr 1 [2] [vi 3] hQ h
  rw[if_neg c3]at h
  exact aJ 8 (zZ c3)<| T_kt<| ar 3<| T_nr 1 [2] [vi 2] hQ h
 intro hk
 refine T_n 3 [(0,vi a),(5,.bool (a==2))] ?_
 by_cases c1:a=2
 ·have b2:(a==2)=true:=zK c1
  refine cO [(0,vi a),(5,.bool true)] (by rw[b2]) ?_
  refine T_n 3 [(8,.bool true)]<| zq<| eD [(8,.bool ((a==2) || (a==3)))] (by simp only[b2,BL]) ?_
  exact hk
 have b2:(a==2)=false:=zJ c1
 refine cO [(0,vi a),(5,.bool false)] (by rw[b2]) ?_
 refine T_n 3 [(8,.bool (a==3))]<| zq<| eD [(8,.bool ((a==2) || (a==3)))] (by simp only[b2,BL]) ?_
 exact hk
end fM

/-! (*moraine/obj.Heap).object -/
namespace bP
def K0:=Func.code Tryz.f70
def K2:=cb K0
def K3:=ca K2
def K6:=cb K3
def K7:=ca K6
def K8:=ca K7
end bP
def bP.pt(hv:zW)(wv:Int)(H:zV)(R:zj):Prop:=
 ∃(I9:zk) (m9:Int->zV->Nat),I9 0 H/\ ∀(a:Int) (H1:zV),I9 a H1->
 if a<2 then(
 ∃x:Int,((0<=a/\a< (2:Int))/\(#[.int .i64 2,.int .i64 3]:Array Value)[Int.toNat a]?=some (.int .i64 x))/\
 dR.C hv wv 3 x H1 (λv H2=> ∃(ra:Int) (rb:Bool),v=.tuple #[.int .i64 ra,.bool rb]/\
 if rb=true then(
 ∃e:Addr,hv=some e/\
 ∃z:zW,hat H2 e=some (.pointer z)/\
 ∃ah:Addr,z=some ah/\
 ∃ab:zW,hat H2 ah=some (.pointer ab)/\
 ∃ac:Addr,ab=some ac/\
 ∃y:zW,hat H2 ac=some (.pointer y)/\
 bQ.C y ra H2 (λam H3=> ∃o ai:Int,am=.tuple #[.int .u64 o,.int .i64 ai]/\
 fi.C o H3 (λaj H4=> ∃(f d rc:Int) (rd:Bool),aj=.tuple #[.int .i64 f,.int .i64 d,.int .u64 rc,.bool rd]/\
 ∃aa:zW,hat H4 e=some (.pointer aa)/\
 ∃ag:Addr,aa=some ag/\
 ∃af:zW,hat H4 ag=some (.pointer af)/\
 ∃ae:Addr,af=some ae/\
 ∃u:zW,hat H4 ae=some (.pointer u)/\
 bE.C u (zY (Int.tdiv ra 64)) H4 (λak H5=> ∃(m l q j k g i:Int) (r:Bool),ak=.tuple #[.agg #[.int .i64 m,.int .i64 l,.int .i64 q,.int .i64 j,.int .i64 k,.int .i64 g,.int .i64 i],.bool r]/\
 ∀(b:Nat) (H6:zV),b=H5.size->H6=H5.push (.cells #[.int .i64 0,.int .i64 0,.int .i64 0,.int .i64 0,.int .i64 0,.int .i64 0,.int .i64 0] 102)->
 (aK H6 (ad b) 0 7)/\ ∀H7,H7=aS H6 (ad b) [.int .i64 m,.int .i64 l,.int .i64 q,.int .i64 j,.int .i64 k,.int .i64 g,.int .i64 i] 0->
 if rd=true then(
 fM.C f H7 (λal H8=> ∃s:Int,al=.int .i64 s/\
 if s=x then(
 ∃p:Int,hat H8 ((ad b).add 2)=some (.int .i64 p)/\
 if(zY ((Int.tmod ra 64)+d))<p then(
 R (.tuple #[.int .i64 ra,.int .i64 f,.int .i64 d,.int .u64 rc,.bool true]) H8)
 else
 (I9 (zY (a+1)) H8/\m9 (zY (a+1)) H8<m9 a H1))
 else
 (I9 (zY (a+1)) H8/\m9 (zY (a+1)) H8<m9 a H1)))
 else
 (I9 (zY (a+1)) H7/\m9 (zY (a+1)) H7<m9 a H1)))))
 else
 (I9 (zY (a+1)) H2/\m9 (zY (a+1)) H2<m9 a H1)))
 else
 R (.tuple #[.int .i64 0,.int .i64 0,.int .i64 0,.int .u64 0,.bool false]) H1
namespace bP
theorem link{hv:zW}{wv:Int}{H:zV}{R:zj}(h:pt hv wv H R):C hv wv H R:=by
 refine T_en K0 87 Tryz.func70 ?_
 intro w0 Q hQ
 unfold pt zY at h
 refine T_su [(0,vp hv),(1,vu wv)]<| ar 0<| T_ed 5 [] []<| T_sz<| ar 1<| T_ed 2 [] [(15,.agg #[vi 2,vi 3]),(16,vi 0)]<| T_bz 0 ?_
 obtain⟨I9,m9,i1,i2⟩:=h
 refine de (x:=K8) (σ:=Int) (λs_=> [(0,vp hv),(1,vu wv),(15,.agg #[vi 2,vi 3]),(16,vi s_)]) (λs_ H=>I9 s_ H) (λs_ H=>m9 s_ H) (0:Int) (by kernel_rfl) i1 sk ?_
 rintro a H1 i3
 have h:=i2 a H1 i3
 refine T_su [(0,vp hv),(1,vu wv),(15,.agg #[vi 2,vi 3]),(16,vi a)]<| ar 2<| T_ed 1 [] [(17,.bool (decide (a<2)))]<| T_sz ?_
 by_cases c4:a<2
 ·rw[if_pos c4]at h
  refine aI 17 (zX c4)<| T_kt<| T_sz<| T_bz 1<| ar 3<| T_ud [17] [] ?_
  obtain⟨x,q6,h⟩:=h
  refine T_v1 18 (jy 164 (.agg #[vi 2,vi 3]) (vi a)) (vi x) (λw _=>gG (P:=Tryz.prog) (t:=164) (elem:=3) (n:=2) Tryz.underlying164 (λ_=>by kernel_rfl) (λ_=>by kernel_rfl) q6.1.1 q6.1.2 q6.2 w) []<| T_ed 1 [18] [(10,vi x)]<| T_sz<| ar 4<| T_nd 3 [] [(20,vp hv),(21,vu wv),(22,vi x)]<| T_c (some 23) h ?_;clear h
  rintro v H2 ⟨ra,rb,rfl,h⟩
  refine T_pd [20,21,22] [(23,.tuple #[vi ra,.bool rb])]<| T_ed 5 [23] [(4,vi ra),(8,.bool rb)]<| ar 5<| T_ed 2 [8] [(27,.bool (!rb))] ?_
  by_cases c7:rb=true
  ·rw[if_pos c7]at h
   refine aJ 27 (congrArg Bool.not (c7))<| T_kt<| ar 6<| T_nd 1 [27] [(29,vp hv)] ?_
   obtain⟨e,rfl,h⟩:=h
   refine T_nd 2 [0,29] [(0,vp (some e)),(31,vp (some e))] ?_
   obtain⟨z,q9,h⟩:=h
   refine T_l1 32 53 q9 [31] ?_
   obtain⟨ah,rfl,h⟩:=h
   refine T_nd 2 [32] [(34,vp (some ah))] ?_
   obtain⟨ab,q10,h⟩:=h
   refine T_l1 35 56 q10 [34] ?_
   obtain⟨ac,rfl,h⟩:=h
   refine T_nd 2 [35] [(37,vp (some ac))] ?_
   obtain⟨y,q11,h⟩:=h
   refine T_l1 38 82 q11 [37]<| T_nd 1 [] [(39,vi ra)]<| T_c (some 40) h ?_;clear h
   rintro am H3 ⟨o,ai,rfl,h⟩
   refine T_pd [38,39] [(40,.tuple #[vu o,vi ai])]<| T_ed 5 [40] [(11,vu o)]<| ar 7<| T_nd 1 [11] [(44,vu o)]<| T_c (some 45) h ?_;clear h
   rintro aj H4 ⟨f,d,rc,rd,rfl,h⟩
   refine T_pd [44] [(45,.tuple #[vi f,vi d,vu rc,.bool rd])]<| T_ed 9 [45] [(5,vi f),(6,vi d),(7,vu rc),(8,.bool rd)]<| ar 8<| T_nd 3 [] [(53,vp (some e))] ?_
   obtain⟨aa,q12,h⟩:=h
   refine T_l1 54 53 q12 [53] ?_
   obtain⟨ag,rfl,h⟩:=h
   refine T_nd 2 [54] [(56,vp (some ag))] ?_
   obtain⟨af,q13,h⟩:=h
   refine T_l1 57 56 q13 [56] ?_
   obtain⟨ae,rfl,h⟩:=h
   refine T_nd 2 [57] [(59,vp (some ae))] ?_
   obtain⟨u,q14,h⟩:=h
   refine T_l1 60 82 q14 [59]<| T_nd 2 [] [(62,vi (zY (Int.tdiv ra 64)))]<| T_c (some 63) h ?_;clear h
   rintro ak H5 ⟨m,l,q,j,k,g,i,r,rfl,h⟩
   refine T_pd [60,62] [(63,.tuple #[.agg #[vi m,vi l,vi q,vi j,vi k,vi g,vi i],.bool r])]<| T_nd 3 [63] [(64,.agg #[vi m,vi l,vi q,vi j,vi k,vi g,vi i]),(65,.bool r)]<| T_nw (some 13) (λb=>vp (pa b)) (.cells #[vi 0,vi 0,vi 0,vi 0,vi 0,vi 0,vi 0] 102) ?_
   intro b H6 e15 e16
   replace h:=h b H6 e15 e16
   refine T_pd [] [(13,vp (pa b))] ?_
   obtain⟨q18,h⟩:=h
   refine fl 102 [vi m,vi l,vi q,vi j,vi k,vi g,vi i] q18 ?_
   intro H7 e17
   replace h:=h H7 e17
   refine T_pd [64] []<| T_ed 1 [65] []<| ar 9<| T_nd 2 [8] [(67,.bool rd)] ?_
   by_cases c19:rd=true
   ·rw[if_pos c19]at h
    refine N_bd 67 c19<| T_nd 1 [] [(68,vi f)] ?_
    refine T_c (some 69) h ?_;clear h
    rintro al H8 ⟨s,rfl,h⟩
    refine T_pd [68] [(69,vi s)]<| T_nd 4 [10,67,69] [(73,.bool (s==x))] ?_
    by_cases c21:s=x
    ·rw[if_pos c21]at h
     refine N_bd 73 (zK c21)<| T_nd 5 [13] [(77,vi (zY ((Int.tmod ra 64)+d))),(78,vp (some ((ad b).add 2)))] ?_
     obtain⟨p,q23,h⟩:=h
     refine T_l1 79 3 q23 [78]<| T_ed 2 [73,77,79] [(81,.bool (decide ((zY ((Int.tmod ra 64)+d))<p)))] ?_
     by_cases c24:(zY ((Int.tmod ra 64)+d))<p
     ·rw[if_pos c24]at h
      exact aI 81 (zX c24)<| ar 10<| T_nr 9 [4,5,6,7,8] [vi ra,vi f,vi d,vu rc,.bool true] hQ h
     rw[if_neg c24]at h
     exact aJ 81 (zQ c24)<| T_k<| aD<| aE<| T_rz 11<| T_ed 2 [4,5,6,7,16,81] [(16,vi (zY (a+1)))]<| aW ((zY (a+1)):Int) sk h
    rw[if_neg c21]at h
    refine N_bd 73 (zJ c21)<| T_ed 8 [13,73] [(81,.bool false)]<| T_fz 81<| T_k ?_
    exact aD<| aE<| T_rz 11<| T_ed 2 [4,5,6,7,16,81] [(16,vi (zY (a+1)))]<| aW ((zY (a+1)):Int) sk h
   rw[if_neg c19]at h
   refine N_bd 67 (zZ c19)<| T_ed 14 [10,13,67] [(81,.bool false)]<| T_fz 81<| T_k ?_
   exact aD<| aE<| T_rz 11<| T_ed 2 [4,5,6,7,16,81] [(16,vi (zY (a+1)))]<| aW ((zY (a+1)):Int) sk h
  rw[if_neg c7]at h
  exact aI 27 (congrArg Bool.not (zZ c7))<| zz 1<| aA<| aO<| aE<| T_rz 11<| T_ed 2 [4,10,16,27] [(16,vi (zY (a+1)))]<| aW ((zY (a+1)):Int) sk h
 rw[if_neg c4]at h
 exact aJ 17 (zQ c4)<| zz 0<| aA<| aA<| aO<| aE<| ar 12<| T_nr 5 [4,5,6,7,8] [vi 0,vi 0,vi 0,vu 0,.bool false] hQ h
end bP

/-! (*moraine/obj.Heap).field -/
namespace cX
def K0:=Func.code Tryz.f74
end cX
def cX.pt(hv:zW)(wv a i:Int)(H:zV)(R:zj):Prop:=
 bP.C hv wv H (λv H1=> ∃(ra rb rc rd:Int) (re:Bool),v=.tuple #[.int .i64 ra,.int .i64 rb,.int .i64 rc,.int .u64 rd,.bool re]/\
 if((!re) || (rb !=a))=true then(
 R (.tuple #[.int .i64 0,.int .i64 3]) H1)
 else
 if((decide (i<0)) || (decide (i>=rc)))=true then(
 R (.tuple #[.int .i64 0,.int .i64 4]) H1)
 else
 R (.tuple #[.int .i64 (zY ((zY (ra+1))+i)),.int .i64 0]) H1)
namespace cX
theorem link{hv:zW}{wv a i:Int}{H:zV}{R:zj}(h:pt hv wv a i H R):C hv wv a i H R:=by
 refine T_en K0 44 Tryz.func74 ?_
 intro w0 Q hQ
 unfold pt zY at h
 refine T_su [(0,vp hv),(1,vu wv),(2,vi a),(3,vi i)]<| ar 0<| T_ed 2 [] []<| ar 1<| T_nd 2 [0,1] [(16,vp hv),(17,vu wv)]<| T_c (some 18) h ?_;clear h
 rintro v H1 ⟨ra,rb,rc,rd,re,rfl,h⟩
 refine T_pd [16,17] [(18,.tuple #[vi ra,vi rb,vi rc,vu rd,.bool re])]<| T_ed 11 [18] [(10,vi ra),(11,vi rb),(12,vi rc),(14,.bool re)]<| T_sz<| T_bz 0<| ar 2 ?_
 refine fm [(3,vi i),(10,vi ra),(12,vi rc),(24,.bool ((!re) || (rb !=a)))] ?_ ?_
 ·refine aE ?_
  by_cases c3:((!re) || (rb !=a))=true
  ·rw[if_pos c3]at h
   exact aI 24 c3<| ar 3<| T_nr 2 [8,9] [vi 0,vi 3] hQ h
  rw[if_neg c3]at h
  refine aJ 24 (zZ c3)<| ar 4 ?_
  refine fm [(3,vi i),(10,vi ra),(32,.bool ((decide (i<0)) || (decide (i>=rc))))] ?_ ?_
  ·refine aE ?_
   by_cases c7:((decide (i<0)) || (decide (i>=rc)))=true
   ·rw[if_pos c7]at h
    exact aI 32 c7<| ar 5<| T_nr 2 [8,9] [vi 0,vi 4] hQ h
   rw[if_neg c7]at h
   exact aJ 32 (zZ c7)<| T_k<| aD<| aE<| ar 6<| T_nr 6 [8,9] [vi (zY ((zY (ra+1))+i)),vi 0] hQ h
  intro hk
  refine T_n 3 [(3,vi i),(10,vi ra),(12,vi rc),(35,.bool (decide (i<0)))] ?_
  by_cases c5:i<0
  ·have b6:(decide (i<0))=true:=zX c5
   refine cO [(3,vi i),(10,vi ra),(12,vi rc),(35,.bool true)] (by rw[b6]) ?_
   refine T_nd 5 [12,35] [(32,.bool true)]<| zq<| S_bd 32 (b:=true) (v:=((decide (i<0)) || (decide (i>=rc)))) (by simp only[b6,BL]) ?_
   exact hk
  have b6:(decide (i<0))=false:=zQ c5
  refine cO [(3,vi i),(10,vi ra),(12,vi rc),(35,.bool false)] (by rw[b6]) ?_
  refine T_nd 5 [12,35] [(32,.bool (decide (i>=rc)))]<| zq<| S_bd 32 (b:=(decide (i>=rc))) (v:=((decide (i<0)) || (decide (i>=rc)))) (by simp only[b6,BL]) ?_
  exact hk
 intro hk
 refine T_n 3 [(2,vi a),(3,vi i),(10,vi ra),(11,vi rb),(12,vi rc),(27,.bool (!re))] ?_
 by_cases c1:re=true
 ·have b2:(!re)=false:=congrArg Bool.not (c1)
  have b22:re=true:=c1
  refine cO [(2,vi a),(3,vi i),(10,vi ra),(11,vi rb),(12,vi rc),(27,.bool false)] (by simp only[b2,b22,Bool.not_true,Bool.not_false]) ?_
  refine T_nd 5 [2,11,27] [(24,.bool (rb !=a))]<| zq<| S_bd 24 (b:=(rb !=a)) (v:=((!re) || (rb !=a))) (by simp only[b2,BL]) ?_
  exact hk
 have b2:(!re)=true:=congrArg Bool.not (zZ c1)
 have b22:re=false:=zZ c1
 refine cO [(2,vi a),(3,vi i),(10,vi ra),(11,vi rb),(12,vi rc),(27,.bool true)] (by simp only[b2,b22,Bool.not_true,Bool.not_false]) ?_
 refine T_nd 5 [2,11,27] [(24,.bool true)]<| zq<| S_bd 24 (b:=true) (v:=((!re) || (rb !=a))) (by simp only[b2,BL]) ?_
 exact hk
end cX

/-! (*moraine/obj.Heap).none -/
namespace cY
def K0:=Func.code Tryz.f75
end cY
def cY.pt(hv:zW)(H:zV)(R:zj):Prop:=
 ei hv (
 R (.bool true) H) (λa=>
 ∃x:zW,hat H a=some (.pointer x)/\
 ei x (
 R (.bool true) H) (λxA=>
 R (.bool false) H))
namespace cY
theorem link{hv:zW}{H:zV}{R:zj}(h:pt hv H R):C hv H R:=by
 refine T_en K0 12 Tryz.func75 ?_
 intro w0 Q hQ
 unfold pt at h
 refine T_su [(0,vp hv)]<| ar 0<| T_ed 1 [] []<| ar 1<| T_nd 1 [] [(3,vp hv)] ?_
 rcases hv with _ | a
 ·rw[onPtr_none]at h
  exact T_nr 9 [2] [.bool true] hQ h
 rw[onPtr_some]at h
 refine T_n 5 [(5,.bool false),(8,vp (some a))] ?_
 obtain⟨x,q1,h⟩:=h
 refine T_l1 9 53 q1 [8] ?_
 rcases x with _ | xA
 ·rw[onPtr_none]at h
  exact T_nr 3 [2] [.bool true] hQ h
 rw[onPtr_some]at h
 exact T_nr 3 [2] [.bool false] hQ h
end cY

/-! (*moraine/obj.Heap).Len -/
namespace ec
def K0:=Func.code Tryz.f90
end ec
def ec.pt(hv:zW)(wv:Int)(H:zV)(R:zj):Prop:=
 bP.C hv wv H (λv H1=> ∃(ra rb rc rd:Int) (re:Bool),v=.tuple #[.int .i64 ra,.int .i64 rb,.int .i64 rc,.int .u64 rd,.bool re]/\
 R (.int .i64 rc) H1)
namespace ec
theorem link{hv:zW}{wv:Int}{H:zV}{R:zj}(h:pt hv wv H R):C hv wv H R:=by
 refine T_en K0 20 Tryz.func90 ?_
 intro w0 Q hQ
 unfold pt at h
 refine T_su [(0,vp hv),(1,vu wv)]<| ar 0<| T_ed 1 [] []<| ar 1<| T_n 2 [(11,vp hv),(12,vu wv)]<| T_c (some 13) h ?_;clear h
 rintro v H1 ⟨ra,rb,rc,rd,re,rfl,h⟩
 refine⟨[(13,.tuple #[vi ra,vi rb,vi rc,vu rd,.bool re])],pk,?_⟩
 exact T_ne 11 [(7,vi rc)]<| ar 2<| T_nr 2 [4] [vi rc] hQ h
end ec

/-! (*moraine/obj.Heap).Set -/
namespace dc
def K0:=Func.code Tryz.f93
end dc
def dc.pt(hv:zW)(wv a i v:Int)(H:zV)(R:zj):Prop:=
 cX.C hv wv a i H (λe H1=> ∃ra rb:Int,e=.tuple #[.int .i64 ra,.int .i64 rb]/\
 if rb=0 then(
 ∃d:Addr,hv=some d/\
 ∃x:zW,hat H1 d=some (.pointer x)/\
 cE.C x ra v H1 (λf H2=> ∃b:Int,f=.int .i64 b/\
 R (.int .i64 b) H2))
 else
 R (.int .i64 rb) H1)
namespace dc
theorem link{hv:zW}{wv a i v:Int}{H:zV}{R:zj}(h:pt hv wv a i v H R):C hv wv a i v H R:=by
 refine T_en K0 31 Tryz.func93 ?_
 intro w0 Q hQ
 unfold pt at h
 refine T_su [(0,vp hv),(1,vu wv),(2,vi a),(3,vi i),(4,vu v)]<| ar 0<| T_ed 1 [] []<| ar 1<| T_nd 4 [1,2,3] [(14,vp hv),(15,vu wv),(16,vi a),(17,vi i)]<| T_c (some 18) h ?_;clear h
 rintro e H1 ⟨ra,rb,rfl,h⟩
 refine T_pd [14,15,16,17] [(18,.tuple #[vi ra,vi rb])]<| T_ed 5 [18] [(11,vi ra),(12,vi rb)]<| T_sz<| ar 2<| T_ed 2 [] [(22,.bool (rb !=0))] ?_
 by_cases c1:rb=0
 ·rw[if_pos c1]at h
  refine aJ 22 (bne_eq_false_iff_eq.mpr c1)<| T_kt<| ar 4<| T_nd 1 [0,12,22] [(24,vp hv)] ?_
  obtain⟨d,rfl,h⟩:=h
  refine T_nd 2 [24] [(26,vp (some d))] ?_
  obtain⟨x,q3,h⟩:=h
  refine T_l1 27 53 q3 [26]<| T_nd 2 [4,11] [(28,vi ra),(29,vu v)]<| T_c (some 30) h ?_;clear h
  rintro f H2 ⟨b,rfl,h⟩
  refine⟨[(30,vi b)],pk,?_⟩
  exact T_nr 1 [10] [vi b] hQ h
 rw[if_neg c1]at h
 exact aI 22 (bne_iff_ne.mpr c1)<| ar 3<| T_nr 2 [10] [vi rb] hQ h
end dc

/-! (*moraine/obj.Heap).at -/
namespace dR
def K0:=Func.code Tryz.f102
end dR
def dR.pt(hv:zW)(wv i a:Int)(H:zV)(R:zj):Prop:=
 dV.C wv H (λv H1=> ∃(ra:Int) (rb:Bool),v=.tuple #[.int .i64 ra,.bool rb]/\
 cY.C hv H1 (λab H2=> ∃x:Bool,ab=.bool x/\
 if x=true then(
 R (.tuple #[.int .i64 0,.bool false]) H2)
 else
 if rb=true then(
 dQ.C wv H2 (λz H3=> ∃p:Int,z=.int .i64 p/\
 if p=i then(
 ∃r:Addr,hv=some r/\
 ∃t:zW,hat H3 r=some (.pointer t)/\
 ∃y:Addr,t=some y/\
 ∃u:zW,hat H3 y=some (.pointer u)/\
 ∃s:Addr,u=some s/\
 ∃q:zW,hat H3 s=some (.pointer q)/\
 bE.C q (zY (Int.tdiv ra 64)) H3 (λaa H4=> ∃(l k o f g d e:Int) (j:Bool),aa=.tuple #[.agg #[.int .i64 l,.int .i64 k,.int .i64 o,.int .i64 f,.int .i64 g,.int .i64 d,.int .i64 e],.bool j]/\
 ∀(b:Nat) (H5:zV),b=H4.size->H5=H4.push (.cells #[.int .i64 0,.int .i64 0,.int .i64 0,.int .i64 0,.int .i64 0,.int .i64 0,.int .i64 0] 102)->
 (aK H5 (ad b) 0 7)/\ ∀H6,H6=aS H5 (ad b) [.int .i64 l,.int .i64 k,.int .i64 o,.int .i64 f,.int .i64 g,.int .i64 d,.int .i64 e] 0->
 if j=true then(
 ∃m:Int,hat H6 ((ad b).add 1)=some (.int .i64 m)/\
 if m=a then(
 ∃n:Int,hat H6 ((ad b).add 2)=some (.int .i64 n)/\
 R (.tuple #[.int .i64 ra,.bool (decide ((Int.tmod ra 64)<n))]) H6)
 else
 R (.tuple #[.int .i64 ra,.bool false]) H6)
 else
 R (.tuple #[.int .i64 ra,.bool false]) H6))
 else
 R (.tuple #[.int .i64 0,.bool false]) H3))
 else
 R (.tuple #[.int .i64 0,.bool false]) H2))
namespace dR
theorem link{hv:zW}{wv i a:Int}{H:zV}{R:zj}(h:pt hv wv i a H R):C hv wv i a H R:=by
 refine T_en K0 61 Tryz.func102 ?_
 intro w0 Q hQ
 unfold pt zY at h
 refine T_su [(0,vp hv),(1,vu wv),(2,vi i),(3,vi a)]<| ar 0<| T_ed 2 [] []<| ar 1<| T_nd 1 [] [(14,vu wv)]<| T_c (some 15) h ?_;clear h
 rintro v H1 ⟨ra,rb,rfl,h⟩
 refine T_pd [14] [(15,.tuple #[vi ra,.bool rb])]<| T_ed 5 [15] [(10,vi ra),(11,.bool rb)]<| T_sz<| ar 2<| T_nd 1 [] [(18,vp hv)]<| T_c (some 19) h ?_;clear h
 rintro ab H2 ⟨x,rfl,h⟩
 refine T_pd [18] [(19,.bool x)]<| T_nd 1 [19] [(20,.bool x)] ?_
 by_cases c1:x=true
 ·rw[if_pos c1]at h
  exact N_bd 20 c1<| T_ed 9 [1,2,11,20] [(29,.bool true)]<| T_tz 29<| ar 3<| T_nr 2 [8,9] [vi 0,.bool false] hQ h
 rw[if_neg c1]at h
 refine N_bd 20 (zZ c1)<| T_nd 4 [11,20] [(24,.bool (!rb))] ?_
 by_cases c3:rb=true
 ·rw[if_pos c3]at h
  have b4:(!rb)=false:=congrArg Bool.not (c3)
  have b42:rb=true:=c3
  refine N_bd 24 (b:=(!rb)) (v:=false) (by simp only[b4,b42,Bool.not_true,Bool.not_false]) ?_
  clear b4 b42
  refine T_nd 1 [1] [(25,vu wv)]<| T_c (some 26) h ?_;clear h
  rintro z H3 ⟨p,rfl,h⟩
  refine T_pd [25] [(26,vi p)]<| T_ed 3 [2,24,26] [(29,.bool (p !=i))] ?_
  by_cases c5:p=i
  ·rw[if_pos c5]at h
   refine aJ 29 (bne_eq_false_iff_eq.mpr c5)<| T_kt<| ar 4<| T_nd 1 [0,29] [(31,vp hv)] ?_
   obtain⟨r,rfl,h⟩:=h
   refine T_nd 2 [31] [(33,vp (some r))] ?_
   obtain⟨t,q7,h⟩:=h
   refine T_l1 34 53 q7 [33] ?_
   obtain⟨y,rfl,h⟩:=h
   refine T_nd 2 [34] [(36,vp (some y))] ?_
   obtain⟨u,q8,h⟩:=h
   refine T_l1 37 56 q8 [36] ?_
   obtain⟨s,rfl,h⟩:=h
   refine T_nd 2 [37] [(39,vp (some s))] ?_
   obtain⟨q,q9,h⟩:=h
   refine T_l1 40 82 q9 [39]<| T_nd 2 [] [(42,vi (zY (Int.tdiv ra 64)))]<| T_c (some 43) h ?_;clear h
   rintro aa H4 ⟨l,k,o,f,g,d,e,j,rfl,h⟩
   refine T_pd [40,42] [(43,.tuple #[.agg #[vi l,vi k,vi o,vi f,vi g,vi d,vi e],.bool j])]<| T_nd 3 [43] [(44,.agg #[vi l,vi k,vi o,vi f,vi g,vi d,vi e]),(45,.bool j)]<| T_nw (some 12) (λb=>vp (pa b)) (.cells #[vi 0,vi 0,vi 0,vi 0,vi 0,vi 0,vi 0] 102) ?_
   intro b H5 e10 e11
   replace h:=h b H5 e10 e11
   refine T_pd [] [(12,vp (pa b))] ?_
   obtain⟨q13,h⟩:=h
   refine fl 102 [vi l,vi k,vi o,vi f,vi g,vi d,vi e] q13 ?_
   intro H6 e12
   replace h:=h H6 e12
   refine T_pd [44] []<| T_ed 1 [45] [(11,.bool j)]<| T_sz<| jF 5<| T_q1 46 (vi ra) []<| T_q1 47 (.bool j) [11]<| T_q1 48 (.bool j) [47] ?_
   by_cases c14:j=true
   ·rw[if_pos c14]at h
    refine Q_bd 48 c14<| T_q1 49 (vp (some ((ad b).add 1))) [] ?_
    obtain⟨m,q16,h⟩:=h
    refine jD (some 50) 3 q16 [49] [(50,vi m)]<| T_q1 51 (vi a) [3]<| T_q1 52 (.bool (m==a)) [50,51]<| T_q1 53 (.bool (m==a)) [48,52]<| T_q1 54 (.bool (m==a)) [53] ?_
    by_cases c17:m=a
    ·rw[if_pos c17]at h
     refine Q_bd 54 (zK c17)<| T_q1 55 (vi ra) [10]<| T_q1 56 (vi (Int.tmod ra 64)) [55]<| T_q1 57 (vp (some ((ad b).add 2))) [12] ?_
     obtain⟨n,q19,h⟩:=h
     exact jD (some 58) 3 q19 [57] [(58,vi n)]<| T_q1 59 (.bool (decide ((Int.tmod ra 64)<n))) [56,58]<| T_q1 60 (.bool (decide ((Int.tmod ra 64)<n))) [54,59]<| T_q1 8 (vi ra) [46]<| T_q1 9 (.bool (decide ((Int.tmod ra 64)<n))) [60]<| gT [(8,vi ra),(9,.bool (decide ((Int.tmod ra 64)<n)))] sk<| T_qe<| eW [8,9] [vi ra,.bool (decide ((Int.tmod ra 64)<n))] hQ h
    rw[if_neg c17]at h
    refine Q_bd 54 (zJ c17)<| T_q1 55 (undef) [10]<| T_q1 56 (undef) [55]<| T_q1 57 (undef) [12]<| T_q1 58 (undef) [57]<| T_q1 59 (undef) [56,58]<| T_q1 60 (.bool false) [54,59]<| T_q1 8 (vi ra) [46]<| T_q1 9 (.bool false) [60] ?_
    refine gT [(8,vi ra),(9,.bool false)] sk ?_
    exact T_qe<| eW [8,9] [vi ra,.bool false] hQ h
   rw[if_neg c14]at h
   refine Q_bd 48 (zZ c14)<| T_q1 49 (undef) []<| T_q1 50 (undef) [49]<| T_q1 51 (undef) [3]<| T_q1 52 (undef) [50,51]<| T_q1 53 (.bool false) [48,52]<| T_q1 54 (.bool false) [53]<| T_q1 55 (undef) [10]<| T_q1 56 (undef) [55] ?_
   exact T_q1 57 (undef) [12]<| T_q1 58 (undef) [57]<| T_q1 59 (undef) [56,58]<| T_q1 60 (.bool false) [54,59]<| T_q1 8 (vi ra) [46]<| T_q1 9 (.bool false) [60]<| gT [(8,vi ra),(9,.bool false)] sk<| T_qe<| eW [8,9] [vi ra,.bool false] hQ h
  rw[if_neg c5]at h
  exact aI 29 (bne_iff_ne.mpr c5)<| ar 3<| T_nr 2 [8,9] [vi 0,.bool false] hQ h
 rw[if_neg c3]at h
 have b4:(!rb)=true:=congrArg Bool.not (zZ c3)
 have b42:rb=false:=zZ c3
 refine N_bd 24 (b:=(!rb)) (v:=true) (by simp only[b4,b42,Bool.not_true,Bool.not_false]) ?_
 clear b4 b42
 exact T_ed 5 [1,2,24] [(29,.bool true)]<| T_tz 29<| ar 3<| T_nr 2 [8,9] [vi 0,.bool false] hQ h
end dR

