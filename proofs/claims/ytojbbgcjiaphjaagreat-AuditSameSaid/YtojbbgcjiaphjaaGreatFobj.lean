/- Printed: what each function asks, and that it is sound. -/
import Derived.Test.YtojbbgcjiaphjaaGreatFnsC
set_option linter.unusedSimpArgs false
set_option linter.unusedVariables false
set_option maxRecDepth 100000
set_option maxHeartbeats 1000000
noncomputable section
namespace Go.Proofs.YtojbbgcjiaphjaaGreat
open Go
/-! moraine/obj.New -/
namespace iP
def K0:=Func.code Tryz.f17
end iP
def iP.pt(a:Int)(H:zV)(R:zv):Prop:=
 gW.C a H (λv H1=> ∃(ra:zW) (rb:Int),v=.tuple #[.pointer ra,.int .i64 rb]/\
 if rb=0 then(
 ∀(b:Nat) (H2:zV),b=H1.size->H2=H1.push (.cells #[.pointer ra,.slice none 0 0,.slice none 0 0,.int .u64 0] 37)->
 R (.tuple #[.pointer (some (ad b)),.int .i64 0]) H2)
 else
 R (.tuple #[.pointer none,.int .i64 rb]) H1)
namespace iP
theorem link{a:Int}{H:zV}{R:zv}(h:pt a H R):C a H R:=by
 refine T_en K0 17 Tryz.func17 ?_
 intro w0 Q hQ
 unfold pt at h
 refine T_su [(0,vi a)]<| ar 0<| T_ed 2 [] []<| ar 1<| T_n 1 [(7,vi a)]<| T_c (some 8) h ?_;clear h
 rintro v H1 ⟨ra,rb,rfl,h⟩
 refine⟨[(8,.tuple #[vp ra,vi rb])],pk,?_⟩
 refine T_ne 5 [(4,vp ra),(5,vi rb)]<| T_sz<| ar 2<| T_ed 2 [] [(12,.bool (rb !=0))] ?_
 by_cases c1:rb=0
 ·rw[if_pos c1]at h
  refine aM 12 (bne_eq_false_iff_eq.mpr c1)<| T_kt<| ar 4<| T_n 2 [(15,.agg #[vp ra,vs none 0 0,vs none 0 0,vu 0])]<| T_nw (some 16) (λb=>vp (pa b)) (.cells #[vp ra,vs none 0 0,vs none 0 0,vu 0] 37) ?_
  intro b H2 e3 e4
  replace h:=h b H2 e3 e4
  refine⟨[(16,vp (pa b))],pk,?_⟩
  exact T_nr 2 [2,3] [vp (pa b),vi 0] hQ h
 rw[if_neg c1]at h
 exact aL 12 (bne_iff_ne.mpr c1)<| ar 3<| T_nr 3 [2,3] [vp none,vi rb] hQ h
end iP

/-! (*moraine/obj.Heap).Type -/
namespace cM
def K0:=Func.code Tryz.f47
end cM
def cM.pt(hv:zW)(wv:Int)(H:zV)(R:zv):Prop:=
 bJ.C hv wv H (λv H1=> ∃(ra rb rc rd:Int) (re:Bool),v=.tuple #[.int .i64 ra,.int .i64 rb,.int .i64 rc,.int .u64 rd,.bool re]/\
 R (.int .i64 rb) H1)
namespace cM
theorem link{hv:zW}{wv:Int}{H:zV}{R:zv}(h:pt hv wv H R):C hv wv H R:=by
 refine T_en K0 20 Tryz.func47 ?_
 intro w0 Q hQ
 unfold pt at h
 refine T_su [(0,vp hv),(1,vu wv)]<| ar 0<| T_ed 1 [] []<| ar 1<| T_n 2 [(11,vp hv),(12,vu wv)]<| T_c (some 13) h ?_;clear h
 rintro v H1 ⟨ra,rb,rc,rd,re,rfl,h⟩
 refine⟨[(13,.tuple #[vi ra,vi rb,vi rc,vu rd,.bool re])],pk,?_⟩
 exact T_ne 11 [(6,vi rb)]<| ar 2<| T_nr 2 [4] [vi rb] hQ h
end cM

/-! (*moraine/obj.Heap).More -/
namespace cO
def K0:=Func.code Tryz.f48
end cO
def cO.pt(hv:zW)(wv:Int)(H:zV)(R:zv):Prop:=
 bJ.C hv wv H (λv H1=> ∃(ra rb rc rd:Int) (re:Bool),v=.tuple #[.int .i64 ra,.int .i64 rb,.int .i64 rc,.int .u64 rd,.bool re]/\
 R (.int .u64 rd) H1)
namespace cO
theorem link{hv:zW}{wv:Int}{H:zV}{R:zv}(h:pt hv wv H R):C hv wv H R:=by
 refine T_en K0 20 Tryz.func48 ?_
 intro w0 Q hQ
 unfold pt at h
 refine T_su [(0,vp hv),(1,vu wv)]<| ar 0<| T_ed 1 [] []<| ar 1<| T_n 2 [(11,vp hv),(12,vu wv)]<| T_c (some 13) h ?_;clear h
 rintro v H1 ⟨ra,rb,rc,rd,re,rfl,h⟩
 refine⟨[(13,.tuple #[vi ra,vi rb,vi rc,vu rd,.bool re])],pk,?_⟩
 exact T_ne 11 [(8,vu rd)]<| ar 2<| T_nr 2 [4] [vu rd] hQ h
end cO

/-! (*moraine/obj.Heap).Len -/
namespace cG
def K0:=Func.code Tryz.f51
end cG
def cG.pt(hv:zW)(wv:Int)(H:zV)(R:zv):Prop:=
 bJ.C hv wv H (λv H1=> ∃(ra rb rc rd:Int) (re:Bool),v=.tuple #[.int .i64 ra,.int .i64 rb,.int .i64 rc,.int .u64 rd,.bool re]/\
 R (.int .i64 rc) H1)
namespace cG
theorem link{hv:zW}{wv:Int}{H:zV}{R:zv}(h:pt hv wv H R):C hv wv H R:=by
 refine T_en K0 20 Tryz.func51 ?_
 intro w0 Q hQ
 unfold pt at h
 refine T_su [(0,vp hv),(1,vu wv)]<| ar 0<| T_ed 1 [] []<| ar 1<| T_n 2 [(11,vp hv),(12,vu wv)]<| T_c (some 13) h ?_;clear h
 rintro v H1 ⟨ra,rb,rc,rd,re,rfl,h⟩
 refine⟨[(13,.tuple #[vi ra,vi rb,vi rc,vu rd,.bool re])],pk,?_⟩
 exact T_ne 11 [(7,vi rc)]<| ar 2<| T_nr 2 [4] [vi rc] hQ h
end cG

/-! (*moraine/obj.Heap).Get -/
namespace cH
def K0:=Func.code Tryz.f52
end cH
def cH.pt(hv:zW)(wv a i:Int)(H:zV)(R:zv):Prop:=
 dJ.C hv wv a i H (λv H1=> ∃ra rb:Int,v=.tuple #[.int .i64 ra,.int .i64 rb]/\
 if rb=0 then(
 ∃j:Addr,hv=some j/\
 ∃x:zW,hat H1 j=some (.pointer x)/\
 ∃xA:Addr,x=some xA/\
 ∃f:zW,hat H1 xA=some (.pointer f)/\
 ∃g:Addr,f=some g/\
 ∃e:zW,hat H1 g=some (.pointer e)/\
 cS.C e ra H1 (λk H2=> ∃b d:Int,k=.tuple #[.int .u64 b,.int .i64 d]/\
 R (.tuple #[.int .u64 b,.int .i64 d]) H2))
 else
 R (.tuple #[.int .u64 0,.int .i64 rb]) H1)
namespace cH
theorem link{hv:zW}{wv a i:Int}{H:zV}{R:zv}(h:pt hv wv a i H R):C hv wv a i H R:=by
 refine T_en K0 37 Tryz.func52 ?_
 intro w0 Q hQ
 unfold pt at h
 refine T_su [(0,vp hv),(1,vu wv),(2,vi a),(3,vi i)]<| ar 0<| T_ed 2 [] []<| ar 1<| T_n 4 [(0,vp hv),(13,vp hv),(14,vu wv),(15,vi a),(16,vi i)]<| T_c (some 17) h ?_;clear h
 rintro v H1 ⟨ra,rb,rfl,h⟩
 refine⟨[(0,vp hv),(17,.tuple #[vi ra,vi rb])],pk,?_⟩
 refine T_ed 5 [17] [(10,vi ra),(11,vi rb)]<| T_sz<| ar 2<| T_ed 2 [] [(21,.bool (rb !=0))] ?_
 by_cases c1:rb=0
 ·rw[if_pos c1]at h
  refine aM 21 (bne_eq_false_iff_eq.mpr c1)<| T_kt<| ar 4<| T_n 1 [(10,vi ra),(23,vp hv)] ?_
  obtain⟨j,rfl,h⟩:=h
  refine T_nd 2 [23] [(25,vp (some j))] ?_
  obtain⟨x,q3,h⟩:=h
  refine T_l1 26 33 q3 [25] ?_
  obtain⟨xA,rfl,h⟩:=h
  refine T_nd 2 [26] [(28,vp (some xA))] ?_
  obtain⟨f,q4,h⟩:=h
  refine T_l1 29 42 q4 [28] ?_
  obtain⟨g,rfl,h⟩:=h
  refine T_nd 2 [29] [(31,vp (some g))] ?_
  obtain⟨e,q5,h⟩:=h
  refine T_l1 32 70 q5 [31]<| T_nd 1 [10] [(33,vi ra)]<| T_c (some 34) h ?_;clear h
  rintro k H2 ⟨b,d,rfl,h⟩
  refine⟨[(34,.tuple #[vu b,vi d])],pk,?_⟩
  exact T_nr 4 [8,9] [vu b,vi d] hQ h
 rw[if_neg c1]at h
 exact aL 21 (bne_iff_ne.mpr c1)<| ar 3<| T_nr 3 [8,9] [vu 0,vi rb] hQ h
end cH

/-! (*moraine/obj.Heap).put -/
namespace dX
def K0:=Func.code Tryz.f54
def K2:=cb K0
def K4:=cb K2
def K12:=cb K4
def K14:=cb K12
def K19:=ca K14
def K22:=cb K19
def K23:=ca K22
def K24:=ca K23
end dX
def dX.pt(hv:zW)(f d:Int)(lB:zW)(lN lC:Nat)(H:zV)(R:zv):Prop:=
 dD.C hv H (λv H1=> ∃x:Bool,v=.bool x/\
 if x=true then(
 R (.tuple #[.int .u64 0,.int .i64 2]) H1)
 else
 ∃e:Addr,hv=some e/\
 ∃r:zW,hat H1 e=some (.pointer r)/\
 ∃q:Addr,r=some q/\
 ∃n:zW,hat H1 q=some (.pointer n)/\
 cI.C n 0 f (lN:Int) H1 (λac H2=> ∃ra rb:Int,ac=.tuple #[.int .i64 ra,.int .i64 rb]/\
 if rb=0 then(
 ∃(u:zw) (m25:Int->zV->Nat),u 0 H2/\ ∀(b:Int) (H3:zV),u b H3->
 if b< (lN:Int)then(
 ∃g:Addr,lB=some g/\
 yZ b lN/\
 ∃j:Int,hat H3 (g.add (Int.toNat b*1))=some (.int .u64 j)/\
 ∃z:zW,hat H3 e=some (.pointer z)/\
 ∃p:Addr,z=some p/\
 ∃s:zW,hat H3 p=some (.pointer s)/\
 ∃y:Addr,s=some y/\
 ∃o:zW,hat H3 y=some (.pointer o)/\
 dB.C o (zY (ra+b)) j H3 (λaa H4=> ∃ae:Int,aa=.int .i64 ae/\
 (u (zY (b+1)) H4/\m25 (zY (b+1)) H4<m25 b H3)))
 else
 iB.C d ra H3 (λab H5=> ∃l m:Int,ab=.tuple #[.int .u64 l,.int .i64 m]/\
 R (.tuple #[.int .u64 l,.int .i64 m]) H5))
 else
 R (.tuple #[.int .u64 0,.int .i64 rb]) H2))
namespace dX
theorem link{hv:zW}{f d:Int}{lB:zW}{lN lC:Nat}{H:zV}{R:zv}(h:pt hv f d lB lN lC H R):C hv f d lB lN lC H R:=by
 refine T_en K0 61 Tryz.func54 ?_
 intro w0 Q hQ
 unfold pt zY at h
 refine T_su [(0,vp hv),(1,vi f),(2,vi d),(3,vs lB lN lC)]<| ar 0<| T_ed 2 [] []<| T_sz<| ar 1<| T_nd 1 [] [(14,vp hv)]<| T_c (some 15) h ?_;clear h
 rintro v H1 ⟨x,rfl,h⟩
 refine T_pd [14] [(15,.bool x)]<| T_e ?_
 by_cases c1:x=true
 ·rw[if_pos c1]at h
  exact aL 15 c1<| ar 2<| T_nr 2 [8,9] [vu 0,vi 2] hQ h
 rw[if_neg c1]at h
 refine aM 15 (zZ c1)<| T_kt<| ar 3<| T_nd 1 [15] [(17,vp hv)] ?_
 obtain⟨e,rfl,h⟩:=h
 refine T_nd 2 [0,17] [(0,vp (some e)),(19,vp (some e))] ?_
 obtain⟨r,q3,h⟩:=h
 refine T_l1 20 33 q3 [19] ?_
 obtain⟨q,rfl,h⟩:=h
 refine T_nd 2 [20] [(22,vp (some q))] ?_
 obtain⟨n,q4,h⟩:=h
 refine T_l1 23 42 q4 [22]<| T_nd 3 [1] [(24,vi f),(26,vi lN)]<| T_c (some 27) h ?_;clear h
 rintro ac H2 ⟨ra,rb,rfl,h⟩
 refine T_pd [23,24,26] [(27,.tuple #[vi ra,vi rb])]<| T_ed 5 [27] [(10,vi ra),(11,vi rb)]<| T_sz<| ar 4<| T_ed 2 [] [(31,.bool (rb !=0))] ?_
 by_cases c5:rb=0
 ·rw[if_pos c5]at h
  refine aM 31 (bne_eq_false_iff_eq.mpr c5)<| T_kt<| T_sz<| ar 6<| T_ed 3 [3,11,31] [(33,vs lB lN lC),(34,vi lN),(35,vi 0)]<| T_bz 0 ?_
  obtain⟨u,m25,i7,i8⟩:=h
  refine dE (x:=K24) (σ:=Int) (λs_=> [(0,vp (some e)),(2,vi d),(10,vi ra),(33,vs lB lN lC),(34,vi lN),(35,vi s_)]) (λs_ H=>u s_ H) (λs_ H=>m25 s_ H) (0:Int) (by kernel_rfl) i7 sk ?_
  rintro b H3 i9
  have h:=i8 b H3 i9
  refine T_su [(0,vp (some e)),(2,vi d),(10,vi ra),(33,vs lB lN lC),(34,vi lN),(35,vi b)]<| ar 7<| T_ed 1 [] [(36,.bool (decide (b< (lN:Int))))]<| T_sz ?_
  by_cases c10:b< (lN:Int)
  ·rw[if_pos c10]at h
   refine aL 36 (zX c10)<| T_kt<| T_sz<| T_bz 1<| ar 8<| T_nd 1 [36] [(37,vi b)] ?_
   obtain⟨g,rfl,q12,h⟩:=h
   refine T_xd (some 38) 29 40 1 g lN lC .i64 b Tryz.underlying29 q12.1 q12.2 [33] [(33,vs (some g) lN lC),(38,vp (some (g.add (Int.toNat b*1))))] ?_
   obtain⟨j,q13,h⟩:=h
   refine T_l1 39 40 q13 [38]<| T_ed 2 [37,39] [(12,vi b),(13,vu j)]<| T_rz 9<| T_nd 3 [] [(42,vp (some e))] ?_
   obtain⟨z,q14,h⟩:=h
   refine T_l1 43 33 q14 [42] ?_
   obtain⟨p,rfl,h⟩:=h
   refine T_nd 2 [43] [(45,vp (some p))] ?_
   obtain⟨s,q15,h⟩:=h
   refine T_l1 46 42 q15 [45] ?_
   obtain⟨y,rfl,h⟩:=h
   refine T_nd 2 [46] [(48,vp (some y))] ?_
   obtain⟨o,q16,h⟩:=h
   refine T_l1 49 70 q16 [48]<| T_nd 4 [12,13] [(52,vi (zY (ra+b))),(53,vu j)]<| T_c (some 54) h ?_;clear h
   rintro aa H4 ⟨ae,rfl,h⟩
   exact T_pd [49,52,53] []<| zq<| aA<| aE<| T_rz 10<| T_ed 2 [35] [(35,vi (zY (b+1)))]<| bK ((zY (b+1)):Int) sk h
  rw[if_neg c10]at h
  refine aM 36 (zQ c10)<| zk 0<| aD<| aD<| aQ<| aE<| ar 11<| T_n 2 [(56,vi d),(57,vi ra)]<| T_c (some 58) h ?_;clear h
  rintro ab H5 ⟨l,m,rfl,h⟩
  refine⟨[(58,.tuple #[vu l,vi m])],pk,?_⟩
  exact T_nr 4 [8,9] [vu l,vi m] hQ h
 rw[if_neg c5]at h
 exact aL 31 (bne_iff_ne.mpr c5)<| ar 5<| T_nr 3 [8,9] [vu 0,vi rb] hQ h
end dX

/-! (*moraine/obj.Heap).Make -/
namespace bJ
def K0:=Func.code Tryz.f96
def K2:=cb K0
def K3:=ca K2
def K6:=cb K3
def K7:=ca K6
def K8:=ca K7
end bJ
def bJ.pt(hv:zW)(wv:Int)(H:zV)(R:zv):Prop:=
 ∃(I9:zw) (m9:Int->zV->Nat),I9 0 H/\ ∀(a:Int) (H1:zV),I9 a H1->
 if a<2 then(
 ∃x:Int,((0<=a/\a< (2:Int))/\(#[.int .i64 2,.int .i64 3]:Array Value)[Int.toNat a]?=some (.int .i64 x))/\
 eH.C hv wv 3 x H1 (λv H2=> ∃(ra:Int) (rb:Bool),v=.tuple #[.int .i64 ra,.bool rb]/\
 if rb=true then(
 ∃e:Addr,hv=some e/\
 ∃ab:zW,hat H2 e=some (.pointer ab)/\
 ∃aa:Addr,ab=some aa/\
 ∃ae:zW,hat H2 aa=some (.pointer ae)/\
 ∃ac:Addr,ae=some ac/\
 ∃u:zW,hat H2 ac=some (.pointer u)/\
 cS.C u ra H2 (λam H3=> ∃o ai:Int,am=.tuple #[.int .u64 o,.int .i64 ai]/\
 gG.C o H3 (λaj H4=> ∃(f d rc:Int) (rd:Bool),aj=.tuple #[.int .i64 f,.int .i64 d,.int .u64 rc,.bool rd]/\
 ∃ah:zW,hat H4 e=some (.pointer ah)/\
 ∃z:Addr,ah=some z/\
 ∃af:zW,hat H4 z=some (.pointer af)/\
 ∃ag:Addr,af=some ag/\
 ∃y:zW,hat H4 ag=some (.pointer y)/\
 cE.C y (zY (Int.tdiv ra 64)) H4 (λal H5=> ∃(m l q k i g j:Int) (r:Bool),al=.tuple #[.agg #[.int .i64 m,.int .i64 l,.int .i64 q,.int .i64 k,.int .i64 i,.int .i64 g,.int .i64 j],.bool r]/\
 ∀(b:Nat) (H6:zV),b=H5.size->H6=H5.push (.cells #[.int .i64 0,.int .i64 0,.int .i64 0,.int .i64 0,.int .i64 0,.int .i64 0,.int .i64 0] 89)->
 (aK H6 (ad b) 0 7)/\ ∀H7,H7=aU H6 (ad b) [.int .i64 m,.int .i64 l,.int .i64 q,.int .i64 k,.int .i64 i,.int .i64 g,.int .i64 j] 0->
 if rd=true then(
 iQ.C f H7 (λak H8=> ∃s:Int,ak=.int .i64 s/\
 if s=x then(
 ∃p:Int,hat H8 ((ad b).add 2)=some (.int .i64 p)/\
 if(zY ((Int.tmod ra 64)+d))<p then(
 R (.tuple #[.int .i64 ra,.int .i64 f,.int .i64 d,.int .u64 rc,.bool true]) H8)
 else
 (I9 (zY (a+1)) H8/\m9 (zY (a+1)) H8<m9 a H1))
 else
 (I9 (zY (a+1)) H8/\m9 (zY (a+1)) H8<m9 a H1)))
 else
 (I9 (zY (a+1)) H7/\m9 (zY (a+1)) H7<m9 a H1)))))
 else
 (I9 (zY (a+1)) H2/\m9 (zY (a+1)) H2<m9 a H1)))
 else
 R (.tuple #[.int .i64 0,.int .i64 0,.int .i64 0,.int .u64 0,.bool false]) H1
namespace bJ
theorem link{hv:zW}{wv:Int}{H:zV}{R:zv}(h:pt hv wv H R):C hv wv H R:=by
 refine T_en K0 87 Tryz.func96 ?_
 intro w0 Q hQ
 unfold pt zY at h
 refine T_su [(0,vp hv),(1,vu wv)]<| ar 0<| T_ed 5 [] []<| T_sz<| ar 1<| T_ed 2 [] [(15,.agg #[vi 2,vi 3]),(16,vi 0)]<| T_bz 0 ?_
 obtain⟨I9,m9,i1,i2⟩:=h
 refine dE (x:=K8) (σ:=Int) (λs_=> [(0,vp hv),(1,vu wv),(15,.agg #[vi 2,vi 3]),(16,vi s_)]) (λs_ H=>I9 s_ H) (λs_ H=>m9 s_ H) (0:Int) (by kernel_rfl) i1 sk ?_
 rintro a H1 i3
 have h:=i2 a H1 i3
 refine T_su [(0,vp hv),(1,vu wv),(15,.agg #[vi 2,vi 3]),(16,vi a)]<| ar 2<| T_ed 1 [] [(17,.bool (decide (a<2)))]<| T_sz ?_
 by_cases c4:a<2
 ·rw[if_pos c4]at h
  refine aL 17 (zX c4)<| T_kt<| T_sz<| T_bz 1<| ar 3<| T_ud [17] [] ?_
  obtain⟨x,q6,h⟩:=h
  refine T_v1 18 (ls 193 (.agg #[vi 2,vi 3]) (vi a)) (vi x) (λw _=>jx (P:=Tryz.prog) (t:=193) (elem:=3) (n:=2) Tryz.underlying193 (λ_=>by kernel_rfl) (λ_=>by kernel_rfl) q6.1.1 q6.1.2 q6.2 w) []<| T_ed 1 [18] [(10,vi x)]<| T_sz<| ar 4<| T_nd 3 [] [(20,vp hv),(21,vu wv),(22,vi x)]<| T_c (some 23) h ?_;clear h
  rintro v H2 ⟨ra,rb,rfl,h⟩
  refine T_pd [20,21,22] [(23,.tuple #[vi ra,.bool rb])]<| T_ed 5 [23] [(4,vi ra),(8,.bool rb)]<| ar 5<| T_ed 2 [8] [(27,.bool (!rb))] ?_
  by_cases c7:rb=true
  ·rw[if_pos c7]at h
   refine aM 27 (congrArg Bool.not (c7))<| T_kt<| ar 6<| T_nd 1 [27] [(29,vp hv)] ?_
   obtain⟨e,rfl,h⟩:=h
   refine T_nd 2 [0,29] [(0,vp (some e)),(31,vp (some e))] ?_
   obtain⟨ab,q9,h⟩:=h
   refine T_l1 32 33 q9 [31] ?_
   obtain⟨aa,rfl,h⟩:=h
   refine T_nd 2 [32] [(34,vp (some aa))] ?_
   obtain⟨ae,q10,h⟩:=h
   refine T_l1 35 42 q10 [34] ?_
   obtain⟨ac,rfl,h⟩:=h
   refine T_nd 2 [35] [(37,vp (some ac))] ?_
   obtain⟨u,q11,h⟩:=h
   refine T_l1 38 70 q11 [37]<| T_nd 1 [] [(39,vi ra)]<| T_c (some 40) h ?_;clear h
   rintro am H3 ⟨o,ai,rfl,h⟩
   refine T_pd [38,39] [(40,.tuple #[vu o,vi ai])]<| T_ed 5 [40] [(11,vu o)]<| ar 7<| T_nd 1 [11] [(44,vu o)]<| T_c (some 45) h ?_;clear h
   rintro aj H4 ⟨f,d,rc,rd,rfl,h⟩
   refine T_pd [44] [(45,.tuple #[vi f,vi d,vu rc,.bool rd])]<| T_ed 9 [45] [(5,vi f),(6,vi d),(7,vu rc),(8,.bool rd)]<| ar 8<| T_nd 3 [] [(53,vp (some e))] ?_
   obtain⟨ah,q12,h⟩:=h
   refine T_l1 54 33 q12 [53] ?_
   obtain⟨z,rfl,h⟩:=h
   refine T_nd 2 [54] [(56,vp (some z))] ?_
   obtain⟨af,q13,h⟩:=h
   refine T_l1 57 42 q13 [56] ?_
   obtain⟨ag,rfl,h⟩:=h
   refine T_nd 2 [57] [(59,vp (some ag))] ?_
   obtain⟨y,q14,h⟩:=h
   refine T_l1 60 70 q14 [59]<| T_nd 2 [] [(62,vi (zY (Int.tdiv ra 64)))]<| T_c (some 63) h ?_;clear h
   rintro al H5 ⟨m,l,q,k,i,g,j,r,rfl,h⟩
   refine T_pd [60,62] [(63,.tuple #[.agg #[vi m,vi l,vi q,vi k,vi i,vi g,vi j],.bool r])]<| T_nd 3 [63] [(64,.agg #[vi m,vi l,vi q,vi k,vi i,vi g,vi j]),(65,.bool r)]<| T_nw (some 13) (λb=>vp (pa b)) (.cells #[vi 0,vi 0,vi 0,vi 0,vi 0,vi 0,vi 0] 89) ?_
   intro b H6 e15 e16
   replace h:=h b H6 e15 e16
   refine T_pd [] [(13,vp (pa b))] ?_
   obtain⟨q18,h⟩:=h
   refine jP 89 [vi m,vi l,vi q,vi k,vi i,vi g,vi j] q18 ?_
   intro H7 e17
   replace h:=h H7 e17
   refine T_pd [64] []<| T_ed 1 [65] []<| ar 9<| T_nd 2 [8] [(67,.bool rd)] ?_
   by_cases c19:rd=true
   ·rw[if_pos c19]at h
    refine N_bd 67 c19<| T_nd 1 [] [(68,vi f)] ?_
    refine T_c (some 69) h ?_;clear h
    rintro ak H8 ⟨s,rfl,h⟩
    refine T_pd [68] [(69,vi s)]<| T_nd 4 [10,67,69] [(73,.bool (s==x))] ?_
    by_cases c21:s=x
    ·rw[if_pos c21]at h
     refine N_bd 73 (zK c21)<| T_nd 5 [13] [(77,vi (zY ((Int.tmod ra 64)+d))),(78,vp (some ((ad b).add 2)))] ?_
     obtain⟨p,q23,h⟩:=h
     refine T_l1 79 3 q23 [78]<| T_ed 2 [73,77,79] [(81,.bool (decide ((zY ((Int.tmod ra 64)+d))<p)))] ?_
     by_cases c24:(zY ((Int.tmod ra 64)+d))<p
     ·rw[if_pos c24]at h
      exact aL 81 (zX c24)<| ar 10<| T_nr 9 [4,5,6,7,8] [vi ra,vi f,vi d,vu rc,.bool true] hQ h
     rw[if_neg c24]at h
     exact aM 81 (zQ c24)<| T_k<| aA<| aE<| T_rz 11<| T_ed 2 [4,5,6,7,16,81] [(16,vi (zY (a+1)))]<| bK ((zY (a+1)):Int) sk h
    rw[if_neg c21]at h
    refine N_bd 73 (zJ c21)<| T_ed 8 [13,73] [(81,.bool false)]<| T_fz 81<| T_k ?_
    exact aA<| aE<| T_rz 11<| T_ed 2 [4,5,6,7,16,81] [(16,vi (zY (a+1)))]<| bK ((zY (a+1)):Int) sk h
   rw[if_neg c19]at h
   refine N_bd 67 (zZ c19)<| T_ed 14 [10,13,67] [(81,.bool false)]<| T_fz 81<| T_k ?_
   exact aA<| aE<| T_rz 11<| T_ed 2 [4,5,6,7,16,81] [(16,vi (zY (a+1)))]<| bK ((zY (a+1)):Int) sk h
  rw[if_neg c7]at h
  exact aL 27 (congrArg Bool.not (zZ c7))<| zk 1<| aD<| aQ<| aE<| T_rz 11<| T_ed 2 [4,10,16,27] [(16,vi (zY (a+1)))]<| bK ((zY (a+1)):Int) sk h
 rw[if_neg c4]at h
 exact aM 17 (zQ c4)<| zk 0<| aD<| aD<| aQ<| aE<| ar 12<| T_nr 5 [4,5,6,7,8] [vi 0,vi 0,vi 0,vu 0,.bool false] hQ h
end bJ

/-! (*moraine/obj.Heap).field -/
namespace dJ
def K0:=Func.code Tryz.f98
end dJ
def dJ.pt(hv:zW)(wv a i:Int)(H:zV)(R:zv):Prop:=
 bJ.C hv wv H (λv H1=> ∃(ra rb rc rd:Int) (re:Bool),v=.tuple #[.int .i64 ra,.int .i64 rb,.int .i64 rc,.int .u64 rd,.bool re]/\
 if((!re) || (rb !=a))=true then(
 R (.tuple #[.int .i64 0,.int .i64 3]) H1)
 else
 if((decide (i<0)) || (decide (i>=rc)))=true then(
 R (.tuple #[.int .i64 0,.int .i64 4]) H1)
 else
 R (.tuple #[.int .i64 (zY ((zY (ra+1))+i)),.int .i64 0]) H1)
namespace dJ
theorem link{hv:zW}{wv a i:Int}{H:zV}{R:zv}(h:pt hv wv a i H R):C hv wv a i H R:=by
 refine T_en K0 44 Tryz.func98 ?_
 intro w0 Q hQ
 unfold pt zY at h
 refine T_su [(0,vp hv),(1,vu wv),(2,vi a),(3,vi i)]<| ar 0<| T_ed 2 [] []<| ar 1<| T_nd 2 [0,1] [(16,vp hv),(17,vu wv)]<| T_c (some 18) h ?_;clear h
 rintro v H1 ⟨ra,rb,rc,rd,re,rfl,h⟩
 refine T_pd [16,17] [(18,.tuple #[vi ra,vi rb,vi rc,vu rd,.bool re])]<| T_ed 11 [18] [(10,vi ra),(11,vi rb),(12,vi rc),(14,.bool re)]<| T_sz<| T_bz 0<| ar 2 ?_
 refine iH [(3,vi i),(10,vi ra),(12,vi rc),(24,.bool ((!re) || (rb !=a)))] ?_ ?_
 ·refine aE ?_
  by_cases c3:((!re) || (rb !=a))=true
  ·rw[if_pos c3]at h
   exact aL 24 c3<| ar 3<| T_nr 2 [8,9] [vi 0,vi 3] hQ h
  rw[if_neg c3]at h
  refine aM 24 (zZ c3)<| ar 4 ?_
  refine iH [(3,vi i),(10,vi ra),(32,.bool ((decide (i<0)) || (decide (i>=rc))))] ?_ ?_
  ·refine aE ?_
   by_cases c7:((decide (i<0)) || (decide (i>=rc)))=true
   ·rw[if_pos c7]at h
    exact aL 32 c7<| ar 5<| T_nr 2 [8,9] [vi 0,vi 4] hQ h
   rw[if_neg c7]at h
   exact aM 32 (zZ c7)<| T_k<| aA<| aE<| ar 6<| T_nr 6 [8,9] [vi (zY ((zY (ra+1))+i)),vi 0] hQ h
  intro hk
  refine T_n 3 [(3,vi i),(10,vi ra),(12,vi rc),(35,.bool (decide (i<0)))] ?_
  by_cases c5:i<0
  ·have b6:(decide (i<0))=true:=zX c5
   refine dN [(3,vi i),(10,vi ra),(12,vi rc),(35,.bool true)] (by rw[b6]) ?_
   refine T_nd 5 [12,35] [(32,.bool true)]<| zq<| S_bd 32 (b:=true) (v:=((decide (i<0)) || (decide (i>=rc)))) (by simp only[b6,BL]) ?_
   exact hk
  have b6:(decide (i<0))=false:=zQ c5
  refine dN [(3,vi i),(10,vi ra),(12,vi rc),(35,.bool false)] (by rw[b6]) ?_
  refine T_nd 5 [12,35] [(32,.bool (decide (i>=rc)))]<| zq<| S_bd 32 (b:=(decide (i>=rc))) (v:=((decide (i<0)) || (decide (i>=rc)))) (by simp only[b6,BL]) ?_
  exact hk
 intro hk
 refine T_n 3 [(2,vi a),(3,vi i),(10,vi ra),(11,vi rb),(12,vi rc),(27,.bool (!re))] ?_
 by_cases c1:re=true
 ·have b2:(!re)=false:=congrArg Bool.not (c1)
  have b22:re=true:=c1
  refine dN [(2,vi a),(3,vi i),(10,vi ra),(11,vi rb),(12,vi rc),(27,.bool false)] (by simp only[b2,b22,Bool.not_true,Bool.not_false]) ?_
  refine T_nd 5 [2,11,27] [(24,.bool (rb !=a))]<| zq<| S_bd 24 (b:=(rb !=a)) (v:=((!re) || (rb !=a))) (by simp only[b2,BL]) ?_
  exact hk
 have b2:(!re)=true:=congrArg Bool.not (zZ c1)
 have b22:re=false:=zZ c1
 refine dN [(2,vi a),(3,vi i),(10,vi ra),(11,vi rb),(12,vi rc),(27,.bool true)] (by simp only[b2,b22,Bool.not_true,Bool.not_false]) ?_
 refine T_nd 5 [2,11,27] [(24,.bool true)]<| zq<| S_bd 24 (b:=true) (v:=((!re) || (rb !=a))) (by simp only[b2,BL]) ?_
 exact hk
end dJ

/-! (*moraine/obj.Heap).none -/
namespace dD
def K0:=Func.code Tryz.f100
end dD
def dD.pt(hv:zW)(H:zV)(R:zv):Prop:=
 eY hv (
 R (.bool true) H) (λa=>
 ∃x:zW,hat H a=some (.pointer x)/\
 eY x (
 R (.bool true) H) (λxA=>
 R (.bool false) H))
namespace dD
theorem link{hv:zW}{H:zV}{R:zv}(h:pt hv H R):C hv H R:=by
 refine T_en K0 12 Tryz.func100 ?_
 intro w0 Q hQ
 unfold pt at h
 refine T_su [(0,vp hv)]<| ar 0<| T_ed 1 [] []<| ar 1<| T_nd 1 [] [(3,vp hv)] ?_
 rcases hv with _ | a
 ·rw[onPtr_none]at h
  exact T_nr 9 [2] [.bool true] hQ h
 rw[onPtr_some]at h
 refine T_n 5 [(5,.bool false),(8,vp (some a))] ?_
 obtain⟨x,q1,h⟩:=h
 refine T_l1 9 33 q1 [8] ?_
 rcases x with _ | xA
 ·rw[onPtr_none]at h
  exact T_nr 3 [2] [.bool true] hQ h
 rw[onPtr_some]at h
 exact T_nr 3 [2] [.bool false] hQ h
end dD

/-! moraine/obj.raw -/
namespace iQ
def K0:=Func.code Tryz.f106
end iQ
def iQ.pt(a:Int)(H:zV)(R:zv):Prop:=
 if((a==2) || (a==3))=true then(
 R (.int .i64 3) H)
 else
 R (.int .i64 2) H
namespace iQ
theorem link{a:Int}{H:zV}{R:zv}(h:pt a H R):C a H R:=by
 refine T_en K0 9 Tryz.func106 ?_
 intro w0 Q hQ
 unfold pt at h
 refine T_su [(0,vi a)]<| ar 0<| T_ed 1 [] []<| T_sz<| ar 1 ?_
 refine iH [(8,.bool ((a==2) || (a==3)))] ?_ ?_
 ·refine aE ?_
  by_cases c3:((a==2) || (a==3))=true
  ·rw[if_pos c3]at h
   exact aL 8 c3<| ar 2<| T_nr 1 [2] [vi 3] hQ h
  rw[if_neg c3]at h
  exact aM 8 (zZ c3)<| T_kt<| ar 3<| T_nr 1 [2] [vi 2] hQ h
 intro hk
 refine T_n 3 [(0,vi a),(5,.bool (a==2))] ?_
 by_cases c1:a=2
 ·have b2:(a==2)=true:=zK c1
  refine dN [(0,vi a),(5,.bool true)] (by rw[b2]) ?_
  refine T_n 3 [(8,.bool true)]<| zq<| fX [(8,.bool ((a==2) || (a==3)))] (by simp only[b2,BL]) ?_
  exact hk
 have b2:(a==2)=false:=zJ c1
 refine dN [(0,vi a),(5,.bool false)] (by rw[b2]) ?_
 refine T_n 3 [(8,.bool (a==3))]<| zq<| fX [(8,.bool ((a==2) || (a==3)))] (by simp only[b2,BL]) ?_
 exact hk
end iQ

/-! (*moraine/obj.Heap).Set -/
namespace eH
def K0:=Func.code Tryz.f129
end eH
def eH.pt(hv:zW)(wv i a:Int)(H:zV)(R:zv):Prop:=
 fN.C wv H (λv H1=> ∃(ra:Int) (rb:Bool),v=.tuple #[.int .i64 ra,.bool rb]/\
 dD.C hv H1 (λab H2=> ∃x:Bool,ab=.bool x/\
 if x=true then(
 R (.tuple #[.int .i64 0,.bool false]) H2)
 else
 if rb=true then(
 bZ.C wv H2 (λz H3=> ∃p:Int,z=.int .i64 p/\
 if p=i then(
 ∃t:Addr,hv=some t/\
 ∃y:zW,hat H3 t=some (.pointer y)/\
 ∃u:Addr,y=some u/\
 ∃s:zW,hat H3 u=some (.pointer s)/\
 ∃r:Addr,s=some r/\
 ∃q:zW,hat H3 r=some (.pointer q)/\
 cE.C q (zY (Int.tdiv ra 64)) H3 (λaa H4=> ∃(l k o g e d f:Int) (j:Bool),aa=.tuple #[.agg #[.int .i64 l,.int .i64 k,.int .i64 o,.int .i64 g,.int .i64 e,.int .i64 d,.int .i64 f],.bool j]/\
 ∀(b:Nat) (H5:zV),b=H4.size->H5=H4.push (.cells #[.int .i64 0,.int .i64 0,.int .i64 0,.int .i64 0,.int .i64 0,.int .i64 0,.int .i64 0] 89)->
 (aK H5 (ad b) 0 7)/\ ∀H6,H6=aU H5 (ad b) [.int .i64 l,.int .i64 k,.int .i64 o,.int .i64 g,.int .i64 e,.int .i64 d,.int .i64 f] 0->
 if j=true then(
 ∃m:Int,hat H6 ((ad b).add 1)=some (.int .i64 m)/\
 if m=a then(
 ∃n:Int,hat H6 ((ad b).add 2)=some (.int .i64 n)/\
 R (.tuple #[.int .i64 ra,.bool (decide ((Int.tmod ra 64)<n))]) H6)
 else
 R (.tuple #[.int .i64 ra,.bool false]) H6)
 else
 R (.tuple #[.int .i64 ra,.bool false]) H6))
 else
 R (.tuple #[.int .i64 0,.bool false]) H3))
 else
 R (.tuple #[.int .i64 0,.bool false]) H2))
namespace eH
theorem link{hv:zW}{wv i a:Int}{H:zV}{R:zv}(h:pt hv wv i a H R):C hv wv i a H R:=by
 refine T_en K0 61 Tryz.func129 ?_
 intro w0 Q hQ
 unfold pt zY at h
 refine T_su [(0,vp hv),(1,vu wv),(2,vi i),(3,vi a)]<| ar 0<| T_ed 2 [] []<| ar 1<| T_nd 1 [] [(14,vu wv)]<| T_c (some 15) h ?_;clear h
 rintro v H1 ⟨ra,rb,rfl,h⟩
 refine T_pd [14] [(15,.tuple #[vi ra,.bool rb])]<| T_ed 5 [15] [(10,vi ra),(11,.bool rb)]<| T_sz<| ar 2<| T_nd 1 [] [(18,vp hv)]<| T_c (some 19) h ?_;clear h
 rintro ab H2 ⟨x,rfl,h⟩
 refine T_pd [18] [(19,.bool x)]<| T_nd 1 [19] [(20,.bool x)] ?_
 by_cases c1:x=true
 ·rw[if_pos c1]at h
  exact N_bd 20 c1<| T_ed 9 [1,2,11,20] [(29,.bool true)]<| T_tz 29<| ar 3<| T_nr 2 [8,9] [vi 0,.bool false] hQ h
 rw[if_neg c1]at h
 refine N_bd 20 (zZ c1)<| T_nd 4 [11,20] [(24,.bool (!rb))] ?_
 by_cases c3:rb=true
 ·rw[if_pos c3]at h
  have b4:(!rb)=false:=congrArg Bool.not (c3)
  have b42:rb=true:=c3
  refine N_bd 24 (b:=(!rb)) (v:=false) (by simp only[b4,b42,Bool.not_true,Bool.not_false]) ?_
  clear b4 b42
  refine T_nd 1 [1] [(25,vu wv)]<| T_c (some 26) h ?_;clear h
  rintro z H3 ⟨p,rfl,h⟩
  refine T_pd [25] [(26,vi p)]<| T_ed 3 [2,24,26] [(29,.bool (p !=i))] ?_
  by_cases c5:p=i
  ·rw[if_pos c5]at h
   refine aM 29 (bne_eq_false_iff_eq.mpr c5)<| T_kt<| ar 4<| T_nd 1 [0,29] [(31,vp hv)] ?_
   obtain⟨t,rfl,h⟩:=h
   refine T_nd 2 [31] [(33,vp (some t))] ?_
   obtain⟨y,q7,h⟩:=h
   refine T_l1 34 33 q7 [33] ?_
   obtain⟨u,rfl,h⟩:=h
   refine T_nd 2 [34] [(36,vp (some u))] ?_
   obtain⟨s,q8,h⟩:=h
   refine T_l1 37 42 q8 [36] ?_
   obtain⟨r,rfl,h⟩:=h
   refine T_nd 2 [37] [(39,vp (some r))] ?_
   obtain⟨q,q9,h⟩:=h
   refine T_l1 40 70 q9 [39]<| T_nd 2 [] [(42,vi (zY (Int.tdiv ra 64)))]<| T_c (some 43) h ?_;clear h
   rintro aa H4 ⟨l,k,o,g,e,d,f,j,rfl,h⟩
   refine T_pd [40,42] [(43,.tuple #[.agg #[vi l,vi k,vi o,vi g,vi e,vi d,vi f],.bool j])]<| T_nd 3 [43] [(44,.agg #[vi l,vi k,vi o,vi g,vi e,vi d,vi f]),(45,.bool j)]<| T_nw (some 12) (λb=>vp (pa b)) (.cells #[vi 0,vi 0,vi 0,vi 0,vi 0,vi 0,vi 0] 89) ?_
   intro b H5 e10 e11
   replace h:=h b H5 e10 e11
   refine T_pd [] [(12,vp (pa b))] ?_
   obtain⟨q13,h⟩:=h
   refine jP 89 [vi l,vi k,vi o,vi g,vi e,vi d,vi f] q13 ?_
   intro H6 e12
   replace h:=h H6 e12
   refine T_pd [44] []<| T_ed 1 [45] [(11,.bool j)]<| T_sz<| ky 5<| T_q1 46 (vi ra) []<| T_q1 47 (.bool j) [11]<| T_q1 48 (.bool j) [47] ?_
   by_cases c14:j=true
   ·rw[if_pos c14]at h
    refine Q_bd 48 c14<| T_q1 49 (vp (some ((ad b).add 1))) [] ?_
    obtain⟨m,q16,h⟩:=h
    refine jO (some 50) 3 q16 [49] [(50,vi m)]<| T_q1 51 (vi a) [3]<| T_q1 52 (.bool (m==a)) [50,51]<| T_q1 53 (.bool (m==a)) [48,52]<| T_q1 54 (.bool (m==a)) [53] ?_
    by_cases c17:m=a
    ·rw[if_pos c17]at h
     refine Q_bd 54 (zK c17)<| T_q1 55 (vi ra) [10]<| T_q1 56 (vi (Int.tmod ra 64)) [55]<| T_q1 57 (vp (some ((ad b).add 2))) [12] ?_
     obtain⟨n,q19,h⟩:=h
     exact jO (some 58) 3 q19 [57] [(58,vi n)]<| T_q1 59 (.bool (decide ((Int.tmod ra 64)<n))) [56,58]<| T_q1 60 (.bool (decide ((Int.tmod ra 64)<n))) [54,59]<| T_q1 8 (vi ra) [46]<| T_q1 9 (.bool (decide ((Int.tmod ra 64)<n))) [60]<| jN [(8,vi ra),(9,.bool (decide ((Int.tmod ra 64)<n)))] sk<| T_qe<| gP [8,9] [vi ra,.bool (decide ((Int.tmod ra 64)<n))] hQ h
    rw[if_neg c17]at h
    refine Q_bd 54 (zJ c17)<| T_q1 55 (undef) [10]<| T_q1 56 (undef) [55]<| T_q1 57 (undef) [12]<| T_q1 58 (undef) [57]<| T_q1 59 (undef) [56,58]<| T_q1 60 (.bool false) [54,59]<| T_q1 8 (vi ra) [46]<| T_q1 9 (.bool false) [60] ?_
    refine jN [(8,vi ra),(9,.bool false)] sk ?_
    exact T_qe<| gP [8,9] [vi ra,.bool false] hQ h
   rw[if_neg c14]at h
   refine Q_bd 48 (zZ c14)<| T_q1 49 (undef) []<| T_q1 50 (undef) [49]<| T_q1 51 (undef) [3]<| T_q1 52 (undef) [50,51]<| T_q1 53 (.bool false) [48,52]<| T_q1 54 (.bool false) [53]<| T_q1 55 (undef) [10]<| T_q1 56 (undef) [55] ?_
   exact T_q1 57 (undef) [12]<| T_q1 58 (undef) [57]<| T_q1 59 (undef) [56,58]<| T_q1 60 (.bool false) [54,59]<| T_q1 8 (vi ra) [46]<| T_q1 9 (.bool false) [60]<| jN [(8,vi ra),(9,.bool false)] sk<| T_qe<| gP [8,9] [vi ra,.bool false] hQ h
  rw[if_neg c5]at h
  exact aL 29 (bne_iff_ne.mpr c5)<| ar 3<| T_nr 2 [8,9] [vi 0,.bool false] hQ h
 rw[if_neg c3]at h
 have b4:(!rb)=true:=congrArg Bool.not (zZ c3)
 have b42:rb=false:=zZ c3
 refine N_bd 24 (b:=(!rb)) (v:=true) (by simp only[b4,b42,Bool.not_true,Bool.not_false]) ?_
 clear b4 b42
 exact T_ed 5 [1,2,24] [(29,.bool true)]<| T_tz 29<| ar 3<| T_nr 2 [8,9] [vi 0,.bool false] hQ h
end eH

