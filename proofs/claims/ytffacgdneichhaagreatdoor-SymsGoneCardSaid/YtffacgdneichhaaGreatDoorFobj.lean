/- Printed: what each function asks, and that it is sound. -/
import Derived.Test.YtffacgdneichhaaGreatDoorFnsC
set_option linter.unusedSimpArgs false
set_option linter.unusedVariables false
set_option maxRecDepth 100000
set_option maxHeartbeats 1000000
noncomputable section
namespace Go.Proofs.YtffacgdneichhaaGreatDoor
open Go
/-! moraine/obj.New -/
namespace ik
def K0:=Func.code Tryz.f13
end ik
def ik.pt(a:Int)(H:zV)(R:zk):Prop:=
 gK.C a H (λv H1=> ∃(ra:zW) (rb:Int),v=.tuple #[.pointer ra,.int .i64 rb]/\
 if rb=0 then(
 ∀(b:Nat) (H2:zV),b=H1.size->H2=H1.push (.cells #[.pointer ra,.slice none 0 0,.slice none 0 0,.int .u64 0] 48)->
 R (.tuple #[.pointer (some (ad b)),.int .i64 0]) H2)
 else
 R (.tuple #[.pointer none,.int .i64 rb]) H1)
namespace ik
theorem link{a:Int}{H:zV}{R:zk}(h:pt a H R):C a H R:=by
 refine T_en K0 17 Tryz.func13 ?_
 intro w0 Q hQ
 unfold pt at h
 refine T_su [(0,vi a)]<| ar 0<| T_ed 2 [] []<| ar 1<| T_n 1 [(7,vi a)]<| T_c (some 8) h ?_;clear h
 rintro v H1 ⟨ra,rb,rfl,h⟩
 refine⟨[(8,.tuple #[vp ra,vi rb])],pk,?_⟩
 refine T_ne 5 [(4,vp ra),(5,vi rb)]<| T_sz<| ar 2<| T_ed 2 [] [(12,.bool (rb !=0))] ?_
 by_cases c1:rb=0
 ·rw[if_pos c1]at h
  refine aE 12 (bne_eq_false_iff_eq.mpr c1)<| T_kt<| ar 4<| T_n 2 [(15,.agg #[vp ra,vs none 0 0,vs none 0 0,vu 0])]<| T_nw (some 16) (λb=>vp (pa b)) (.cells #[vp ra,vs none 0 0,vs none 0 0,vu 0] 48) ?_
  intro b H2 e3 e4
  replace h:=h b H2 e3 e4
  refine⟨[(16,vp (pa b))],pk,?_⟩
  exact T_nr 2 [2,3] [vp (pa b),vi 0] hQ h
 rw[if_neg c1]at h
 exact aF 12 (bne_iff_ne.mpr c1)<| ar 3<| T_nr 3 [2,3] [vp none,vi rb] hQ h
end ik

/-! (*moraine/obj.Heap).Make -/
namespace dp
def K0:=Func.code Tryz.f30
end dp
def dp.pt(hv:zW)(a d:Int)(lB:zW)(lN lC:Nat)(H:zV)(R:zk):Prop:=
 eK.C a 0 d H (λv H1=> ∃ra rb:Int,v=.tuple #[.int .u64 ra,.int .i64 rb]/\
 if rb=0 then(
 if(lN:Int)>62 then(
 R (.tuple #[.int .u64 0,.int .i64 6]) H1)
 else
 eK.C a (lN:Int) d H1 (λo H2=> ∃f j:Int,o=.tuple #[.int .u64 f,.int .i64 j]/\
 hU.C a H2 (λm H3=> ∃x:Int,m=.int .i64 x/\
 ∀(b:Nat) (H4:zV),b=H3.size->H4=H3.push (.cells #[.int .u64 f] 33)->
 dw 1 33 8 [.int .u64 0] (some (ad b)) 1 1 lB lN H4 (λap k H5=>
 eF.C hv x 3 ap (1+lN) k H5 (λl H6=> ∃g i:Int,l=.tuple #[.int .u64 g,.int .i64 i]/\
 R (.tuple #[.int .u64 g,.int .i64 i]) H6)))))
 else
 R (.tuple #[.int .u64 0,.int .i64 rb]) H1)
namespace dp
theorem link{hv:zW}{a d:Int}{lB:zW}{lN lC:Nat}{H:zV}{R:zk}(h:pt hv a d lB lN lC H R):C hv a d lB lN lC H R:=by
 refine T_en K0 44 Tryz.func30 ?_
 intro w0 Q hQ
 unfold pt at h
 refine T_su [(0,vp hv),(1,vi a),(2,vu d),(3,vs lB lN lC)]<| ar 0<| T_ed 2 [] []<| T_sz<| ar 1<| T_nd 2 [] [(15,vi a),(16,vu d)]<| T_c (some 17) h ?_;clear h
 rintro v H1 ⟨ra,rb,rfl,h⟩
 refine T_pd [15,16] [(17,.tuple #[vu ra,vi rb])]<| T_ed 5 [17] [(11,vi rb)]<| ar 2<| T_ed 2 [] [(21,.bool (rb !=0))] ?_
 by_cases c1:rb=0
 ·rw[if_pos c1]at h
  refine aE 21 (bne_eq_false_iff_eq.mpr c1)<| T_kt<| T_sz<| ar 4<| T_ed 3 [11,21] [(25,.bool (decide ((lN:Int)>62)))] ?_
  by_cases c3:(lN:Int)>62
  ·rw[if_pos c3]at h
   exact aF 25 (zX c3)<| ar 5<| T_nr 2 [8,9] [vu 0,vi 6] hQ h
  rw[if_neg c3]at h
  refine aE 25 (zQ c3)<| T_kt<| ar 6<| T_nd 4 [2,25] [(27,vi a),(29,vi lN),(30,vu d)]<| T_c (some 31) h ?_;clear h
  rintro o H2 ⟨f,j,rfl,h⟩
  refine T_pd [27,29,30] [(31,.tuple #[vu f,vi j])]<| T_ed 5 [31] [(12,vu f)]<| ar 7<| T_nd 2 [0,1] [(34,vp hv),(35,vi a)]<| T_c (some 36) h ?_;clear h
  rintro m H3 ⟨x,rfl,h⟩
  refine T_pd [35] [(36,vi x)]<| T_nd 1 [12] [(37,vu f)]<| T_nw (some 38) (λb=>vs (pa b) 1 1) (.cells #[vu f] 33) ?_
  intro b H4 e5 e6
  replace h:=h b H4 e5 e6
  refine T_pd [37] [(38,vs (pa b) 1 1)]<| T_nd 1 [3] [(39,vs lB lN lC)]<| N_op (some 40) (dJ #[45,45] 45 #[vs (pa b) 1 1,vs lB lN lC]) _ (λ_=>by kernel_rfl) (di (T:=33) (sz:=1) (bytes:=8) (zero:=(vu 0:Value)) Tryz.underlying45 Tryz.underlying45 rfl (show Tryz.prog.info? 33=some Tryz.t33 from by kernel_rfl) (by kernel_rfl) (by kernel_rfl) (by decide) (by kernel_rfl) (by first | exact h | (simpa only[Value.cells,List.toList_toArray]using h))) ?_;clear h
  rintro _ H5 ⟨ap,k,rfl,h⟩
  refine T_pd [38,39] [(40,vs ap (1+lN) k)]<| T_c (some 41) h ?_;clear h
  rintro l H6 ⟨g,i,rfl,h⟩
  refine⟨[(41,.tuple #[vu g,vi i])],pk,?_⟩
  exact T_nr 4 [8,9] [vu g,vi i] hQ h
 rw[if_neg c1]at h
 exact aF 21 (bne_iff_ne.mpr c1)<| ar 3<| T_nr 3 [8,9] [vu 0,vi rb] hQ h
end dp

/-! (*moraine/obj.Heap).Get -/
namespace eD
def K0:=Func.code Tryz.f33
end eD
def eD.pt(hv:zW)(wv a i:Int)(H:zV)(R:zk):Prop:=
 dA.C hv wv a i H (λv H1=> ∃ra rb:Int,v=.tuple #[.int .i64 ra,.int .i64 rb]/\
 if rb=0 then(
 ∃k:Addr,hv=some k/\
 ∃x:zW,hat H1 k=some (.pointer x)/\
 ∃xA:Addr,x=some xA/\
 ∃g:zW,hat H1 xA=some (.pointer g)/\
 ∃j:Addr,g=some j/\
 ∃f:zW,hat H1 j=some (.pointer f)/\
 bR.C f ra H1 (λl H2=> ∃d b:Int,l=.tuple #[.int .u64 d,.int .i64 b]/\
 R (.tuple #[.int .u64 d,.int .i64 b]) H2))
 else
 R (.tuple #[.int .u64 0,.int .i64 rb]) H1)
namespace eD
theorem link{hv:zW}{wv a i:Int}{H:zV}{R:zk}(h:pt hv wv a i H R):C hv wv a i H R:=by
 refine T_en K0 37 Tryz.func33 ?_
 intro w0 Q hQ
 unfold pt at h
 refine T_su [(0,vp hv),(1,vu wv),(2,vi a),(3,vi i)]<| ar 0<| T_ed 2 [] []<| ar 1<| T_n 4 [(0,vp hv),(13,vp hv),(14,vu wv),(15,vi a),(16,vi i)]<| T_c (some 17) h ?_;clear h
 rintro v H1 ⟨ra,rb,rfl,h⟩
 refine⟨[(0,vp hv),(17,.tuple #[vi ra,vi rb])],pk,?_⟩
 refine T_ed 5 [17] [(10,vi ra),(11,vi rb)]<| T_sz<| ar 2<| T_ed 2 [] [(21,.bool (rb !=0))] ?_
 by_cases c1:rb=0
 ·rw[if_pos c1]at h
  refine aE 21 (bne_eq_false_iff_eq.mpr c1)<| T_kt<| ar 4<| T_n 1 [(10,vi ra),(23,vp hv)] ?_
  obtain⟨k,rfl,h⟩:=h
  refine T_nd 2 [23] [(25,vp (some k))] ?_
  obtain⟨x,q3,h⟩:=h
  refine T_l1 26 44 q3 [25] ?_
  obtain⟨xA,rfl,h⟩:=h
  refine T_nd 2 [26] [(28,vp (some xA))] ?_
  obtain⟨g,q4,h⟩:=h
  refine T_l1 29 81 q4 [28] ?_
  obtain⟨j,rfl,h⟩:=h
  refine T_nd 2 [29] [(31,vp (some j))] ?_
  obtain⟨f,q5,h⟩:=h
  refine T_l1 32 84 q5 [31]<| T_nd 1 [10] [(33,vi ra)]<| T_c (some 34) h ?_;clear h
  rintro l H2 ⟨d,b,rfl,h⟩
  refine⟨[(34,.tuple #[vu d,vi b])],pk,?_⟩
  exact T_nr 4 [8,9] [vu d,vi b] hQ h
 rw[if_neg c1]at h
 exact aF 21 (bne_iff_ne.mpr c1)<| ar 3<| T_nr 3 [8,9] [vu 0,vi rb] hQ h
end eD

/-! (*moraine/obj.Heap).put -/
namespace eF
def K0:=Func.code Tryz.f65
def K2:=cb K0
def K4:=cb K2
def K12:=cb K4
def K14:=cb K12
def K19:=ca K14
def K22:=cb K19
def K23:=ca K22
def K24:=ca K23
end eF
def eF.pt(hv:zW)(g d:Int)(lB:zW)(lN lC:Nat)(H:zV)(R:zk):Prop:=
 dq.C hv H (λv H1=> ∃x:Bool,v=.bool x/\
 if x=true then(
 R (.tuple #[.int .u64 0,.int .i64 2]) H1)
 else
 ∃f:Addr,hv=some f/\
 ∃r:zW,hat H1 f=some (.pointer r)/\
 ∃ab:Addr,r=some ab/\
 ∃q:zW,hat H1 ab=some (.pointer q)/\
 cy.C q 0 g (lN:Int) H1 (λag H2=> ∃ra rb:Int,ag=.tuple #[.int .i64 ra,.int .i64 rb]/\
 if rb=0 then(
 ∃(u:zv) (m25:Int->zV->Nat),u 0 H2/\ ∀(b:Int) (H3:zV),u b H3->
 if b< (lN:Int)then(
 ∃j:Addr,lB=some j/\
 zw b lN/\
 ∃l:Int,hat H3 (j.add (Int.toNat b*1))=some (.int .u64 l)/\
 ∃z:zW,hat H3 f=some (.pointer z)/\
 ∃s:Addr,z=some s/\
 ∃aa:zW,hat H3 s=some (.pointer aa)/\
 ∃y:Addr,aa=some y/\
 ∃p:zW,hat H3 y=some (.pointer p)/\
 cz.C p (zY (ra+b)) l H3 (λaf H4=> ∃ae:Int,af=.int .i64 ae/\
 (u (zY (b+1)) H4/\m25 (zY (b+1)) H4<m25 b H3)))
 else
 gm.C d ra H3 (λac H5=> ∃m o:Int,ac=.tuple #[.int .u64 m,.int .i64 o]/\
 R (.tuple #[.int .u64 m,.int .i64 o]) H5))
 else
 R (.tuple #[.int .u64 0,.int .i64 rb]) H2))
namespace eF
theorem link{hv:zW}{g d:Int}{lB:zW}{lN lC:Nat}{H:zV}{R:zk}(h:pt hv g d lB lN lC H R):C hv g d lB lN lC H R:=by
 refine T_en K0 61 Tryz.func65 ?_
 intro w0 Q hQ
 unfold pt zY at h
 refine T_su [(0,vp hv),(1,vi g),(2,vi d),(3,vs lB lN lC)]<| ar 0<| T_ed 2 [] []<| T_sz<| ar 1<| T_nd 1 [] [(14,vp hv)]<| T_c (some 15) h ?_;clear h
 rintro v H1 ⟨x,rfl,h⟩
 refine T_pd [14] [(15,.bool x)]<| T_e ?_
 by_cases c1:x=true
 ·rw[if_pos c1]at h
  exact aF 15 c1<| ar 2<| T_nr 2 [8,9] [vu 0,vi 2] hQ h
 rw[if_neg c1]at h
 refine aE 15 (zZ c1)<| T_kt<| ar 3<| T_nd 1 [15] [(17,vp hv)] ?_
 obtain⟨f,rfl,h⟩:=h
 refine T_nd 2 [0,17] [(0,vp (some f)),(19,vp (some f))] ?_
 obtain⟨r,q3,h⟩:=h
 refine T_l1 20 44 q3 [19] ?_
 obtain⟨ab,rfl,h⟩:=h
 refine T_nd 2 [20] [(22,vp (some ab))] ?_
 obtain⟨q,q4,h⟩:=h
 refine T_l1 23 81 q4 [22]<| T_nd 3 [1] [(24,vi g),(26,vi lN)]<| T_c (some 27) h ?_;clear h
 rintro ag H2 ⟨ra,rb,rfl,h⟩
 refine T_pd [23,24,26] [(27,.tuple #[vi ra,vi rb])]<| T_ed 5 [27] [(10,vi ra),(11,vi rb)]<| T_sz<| ar 4<| T_ed 2 [] [(31,.bool (rb !=0))] ?_
 by_cases c5:rb=0
 ·rw[if_pos c5]at h
  refine aE 31 (bne_eq_false_iff_eq.mpr c5)<| T_kt<| T_sz<| ar 6<| T_ed 3 [3,11,31] [(33,vs lB lN lC),(34,vi lN),(35,vi 0)]<| T_bz 0 ?_
  obtain⟨u,m25,i7,i8⟩:=h
  refine bO (x:=K24) (σ:=Int) (λs_=> [(0,vp (some f)),(2,vi d),(10,vi ra),(33,vs lB lN lC),(34,vi lN),(35,vi s_)]) (λs_ H=>u s_ H) (λs_ H=>m25 s_ H) (0:Int) (by kernel_rfl) i7 sk ?_
  rintro b H3 i9
  have h:=i8 b H3 i9
  refine T_su [(0,vp (some f)),(2,vi d),(10,vi ra),(33,vs lB lN lC),(34,vi lN),(35,vi b)]<| ar 7<| T_ed 1 [] [(36,.bool (decide (b< (lN:Int))))]<| T_sz ?_
  by_cases c10:b< (lN:Int)
  ·rw[if_pos c10]at h
   refine aF 36 (zX c10)<| T_kt<| T_sz<| T_bz 1<| ar 8<| T_nd 1 [36] [(37,vi b)] ?_
   obtain⟨j,rfl,q12,h⟩:=h
   refine T_xd (some 38) 45 33 1 j lN lC .i64 b Tryz.underlying45 q12.1 q12.2 [33] [(33,vs (some j) lN lC),(38,vp (some (j.add (Int.toNat b*1))))] ?_
   obtain⟨l,q13,h⟩:=h
   refine T_l1 39 33 q13 [38]<| T_ed 2 [37,39] [(12,vi b),(13,vu l)]<| T_rz 9<| T_nd 3 [] [(42,vp (some f))] ?_
   obtain⟨z,q14,h⟩:=h
   refine T_l1 43 44 q14 [42] ?_
   obtain⟨s,rfl,h⟩:=h
   refine T_nd 2 [43] [(45,vp (some s))] ?_
   obtain⟨aa,q15,h⟩:=h
   refine T_l1 46 81 q15 [45] ?_
   obtain⟨y,rfl,h⟩:=h
   refine T_nd 2 [46] [(48,vp (some y))] ?_
   obtain⟨p,q16,h⟩:=h
   refine T_l1 49 84 q16 [48]<| T_nd 4 [12,13] [(52,vi (zY (ra+b))),(53,vu l)]<| T_c (some 54) h ?_;clear h
   rintro af H4 ⟨ae,rfl,h⟩
   exact T_pd [49,52,53] []<| zq<| aB<| aC<| T_rz 10<| T_ed 2 [35] [(35,vi (zY (b+1)))]<| aK ((zY (b+1)):Int) sk h
  rw[if_neg c10]at h
  refine aE 36 (zQ c10)<| zj 0<| aA<| aA<| aH<| aC<| ar 11<| T_n 2 [(56,vi d),(57,vi ra)]<| T_c (some 58) h ?_;clear h
  rintro ac H5 ⟨m,o,rfl,h⟩
  refine⟨[(58,.tuple #[vu m,vi o])],pk,?_⟩
  exact T_nr 4 [8,9] [vu m,vi o] hQ h
 rw[if_neg c5]at h
 exact aF 31 (bne_iff_ne.mpr c5)<| ar 5<| T_nr 3 [8,9] [vu 0,vi rb] hQ h
end eF

/-! moraine/obj.raw -/
namespace hU
def K0:=Func.code Tryz.f66
end hU
def hU.pt(a:Int)(H:zV)(R:zk):Prop:=
 if((a==2) || (a==3))=true then(
 R (.int .i64 3) H)
 else
 R (.int .i64 2) H
namespace hU
theorem link{a:Int}{H:zV}{R:zk}(h:pt a H R):C a H R:=by
 refine T_en K0 9 Tryz.func66 ?_
 intro w0 Q hQ
 unfold pt at h
 refine T_su [(0,vi a)]<| ar 0<| T_ed 1 [] []<| T_sz<| ar 1 ?_
 refine eQ [(8,.bool ((a==2) || (a==3)))] ?_ ?_
 ·refine aC ?_
  by_cases c3:((a==2) || (a==3))=true
  ·rw[if_pos c3]at h
   exact aF 8 c3<| ar 2<| T_nr 1 [2] [vi 3] hQ h
  rw[if_neg c3]at h
  exact aE 8 (zZ c3)<| T_kt<| ar 3<| T_nr 1 [2] [vi 2] hQ h
 intro hk
 refine T_n 3 [(0,vi a),(5,.bool (a==2))] ?_
 by_cases c1:a=2
 ·have b2:(a==2)=true:=zK c1
  refine bJ [(0,vi a),(5,.bool true)] (by rw[b2]) ?_
  refine T_n 3 [(8,.bool true)]<| zq<| dI [(8,.bool ((a==2) || (a==3)))] (by simp only[b2,BL]) ?_
  exact hk
 have b2:(a==2)=false:=zJ c1
 refine bJ [(0,vi a),(5,.bool false)] (by rw[b2]) ?_
 refine T_n 3 [(8,.bool (a==3))]<| zq<| dI [(8,.bool ((a==2) || (a==3)))] (by simp only[b2,BL]) ?_
 exact hk
end hU

/-! (*moraine/obj.Heap).field -/
namespace dA
def K0:=Func.code Tryz.f69
end dA
def dA.pt(hv:zW)(wv a i:Int)(H:zV)(R:zk):Prop:=
 bX.C hv wv H (λv H1=> ∃(ra rb rc rd:Int) (re:Bool),v=.tuple #[.int .i64 ra,.int .i64 rb,.int .i64 rc,.int .u64 rd,.bool re]/\
 if((!re) || (rb !=a))=true then(
 R (.tuple #[.int .i64 0,.int .i64 3]) H1)
 else
 if((decide (i<0)) || (decide (i>=rc)))=true then(
 R (.tuple #[.int .i64 0,.int .i64 4]) H1)
 else
 R (.tuple #[.int .i64 (zY ((zY (ra+1))+i)),.int .i64 0]) H1)
namespace dA
theorem link{hv:zW}{wv a i:Int}{H:zV}{R:zk}(h:pt hv wv a i H R):C hv wv a i H R:=by
 refine T_en K0 44 Tryz.func69 ?_
 intro w0 Q hQ
 unfold pt zY at h
 refine T_su [(0,vp hv),(1,vu wv),(2,vi a),(3,vi i)]<| ar 0<| T_ed 2 [] []<| ar 1<| T_nd 2 [0,1] [(16,vp hv),(17,vu wv)]<| T_c (some 18) h ?_;clear h
 rintro v H1 ⟨ra,rb,rc,rd,re,rfl,h⟩
 refine T_pd [16,17] [(18,.tuple #[vi ra,vi rb,vi rc,vu rd,.bool re])]<| T_ed 11 [18] [(10,vi ra),(11,vi rb),(12,vi rc),(14,.bool re)]<| T_sz<| T_bz 0<| ar 2 ?_
 refine eQ [(3,vi i),(10,vi ra),(12,vi rc),(24,.bool ((!re) || (rb !=a)))] ?_ ?_
 ·refine aC ?_
  by_cases c3:((!re) || (rb !=a))=true
  ·rw[if_pos c3]at h
   exact aF 24 c3<| ar 3<| T_nr 2 [8,9] [vi 0,vi 3] hQ h
  rw[if_neg c3]at h
  refine aE 24 (zZ c3)<| ar 4 ?_
  refine eQ [(3,vi i),(10,vi ra),(32,.bool ((decide (i<0)) || (decide (i>=rc))))] ?_ ?_
  ·refine aC ?_
   by_cases c7:((decide (i<0)) || (decide (i>=rc)))=true
   ·rw[if_pos c7]at h
    exact aF 32 c7<| ar 5<| T_nr 2 [8,9] [vi 0,vi 4] hQ h
   rw[if_neg c7]at h
   exact aE 32 (zZ c7)<| T_k<| aB<| aC<| ar 6<| T_nr 6 [8,9] [vi (zY ((zY (ra+1))+i)),vi 0] hQ h
  intro hk
  refine T_n 3 [(3,vi i),(10,vi ra),(12,vi rc),(35,.bool (decide (i<0)))] ?_
  by_cases c5:i<0
  ·have b6:(decide (i<0))=true:=zX c5
   refine bJ [(3,vi i),(10,vi ra),(12,vi rc),(35,.bool true)] (by rw[b6]) ?_
   refine T_nd 5 [12,35] [(32,.bool true)]<| zq<| S_bd 32 (b:=true) (v:=((decide (i<0)) || (decide (i>=rc)))) (by simp only[b6,BL]) ?_
   exact hk
  have b6:(decide (i<0))=false:=zQ c5
  refine bJ [(3,vi i),(10,vi ra),(12,vi rc),(35,.bool false)] (by rw[b6]) ?_
  refine T_nd 5 [12,35] [(32,.bool (decide (i>=rc)))]<| zq<| S_bd 32 (b:=(decide (i>=rc))) (v:=((decide (i<0)) || (decide (i>=rc)))) (by simp only[b6,BL]) ?_
  exact hk
 intro hk
 refine T_n 3 [(2,vi a),(3,vi i),(10,vi ra),(11,vi rb),(12,vi rc),(27,.bool (!re))] ?_
 by_cases c1:re=true
 ·have b2:(!re)=false:=congrArg Bool.not (c1)
  have b22:re=true:=c1
  refine bJ [(2,vi a),(3,vi i),(10,vi ra),(11,vi rb),(12,vi rc),(27,.bool false)] (by simp only[b2,b22,Bool.not_true,Bool.not_false]) ?_
  refine T_nd 5 [2,11,27] [(24,.bool (rb !=a))]<| zq<| S_bd 24 (b:=(rb !=a)) (v:=((!re) || (rb !=a))) (by simp only[b2,BL]) ?_
  exact hk
 have b2:(!re)=true:=congrArg Bool.not (zZ c1)
 have b22:re=false:=zZ c1
 refine bJ [(2,vi a),(3,vi i),(10,vi ra),(11,vi rb),(12,vi rc),(27,.bool true)] (by simp only[b2,b22,Bool.not_true,Bool.not_false]) ?_
 refine T_nd 5 [2,11,27] [(24,.bool true)]<| zq<| S_bd 24 (b:=true) (v:=((!re) || (rb !=a))) (by simp only[b2,BL]) ?_
 exact hk
end dA

/-! (*moraine/obj.Heap).none -/
namespace dq
def K0:=Func.code Tryz.f82
end dq
def dq.pt(hv:zW)(H:zV)(R:zk):Prop:=
 dM hv (
 R (.bool true) H) (λa=>
 ∃x:zW,hat H a=some (.pointer x)/\
 dM x (
 R (.bool true) H) (λxA=>
 R (.bool false) H))
namespace dq
theorem link{hv:zW}{H:zV}{R:zk}(h:pt hv H R):C hv H R:=by
 refine T_en K0 12 Tryz.func82 ?_
 intro w0 Q hQ
 unfold pt at h
 refine T_su [(0,vp hv)]<| ar 0<| T_ed 1 [] []<| ar 1<| T_nd 1 [] [(3,vp hv)] ?_
 rcases hv with _ | a
 ·rw[onPtr_none]at h
  exact T_nr 9 [2] [.bool true] hQ h
 rw[onPtr_some]at h
 refine T_n 5 [(5,.bool false),(8,vp (some a))] ?_
 obtain⟨x,q1,h⟩:=h
 refine T_l1 9 44 q1 [8] ?_
 rcases x with _ | xA
 ·rw[onPtr_none]at h
  exact T_nr 3 [2] [.bool true] hQ h
 rw[onPtr_some]at h
 exact T_nr 3 [2] [.bool false] hQ h
end dq

/-! (*moraine/obj.Heap).object -/
namespace bX
def K0:=Func.code Tryz.f84
def K2:=cb K0
def K3:=ca K2
def K6:=cb K3
def K7:=ca K6
def K8:=ca K7
end bX
def bX.pt(hv:zW)(wv:Int)(H:zV)(R:zk):Prop:=
 ∃(I9:zv) (m9:Int->zV->Nat),I9 0 H/\ ∀(a:Int) (H1:zV),I9 a H1->
 if a<2 then(
 ∃x:Int,((0<=a/\a< (2:Int))/\(#[.int .i64 2,.int .i64 3]:Array Value)[Int.toNat a]?=some (.int .i64 x))/\
 dZ.C hv wv 3 x H1 (λv H2=> ∃(ra:Int) (rb:Bool),v=.tuple #[.int .i64 ra,.bool rb]/\
 if rb=true then(
 ∃f:Addr,hv=some f/\
 ∃aa:zW,hat H2 f=some (.pointer aa)/\
 ∃ai:Addr,aa=some ai/\
 ∃ac:zW,hat H2 ai=some (.pointer ac)/\
 ∃ab:Addr,ac=some ab/\
 ∃y:zW,hat H2 ab=some (.pointer y)/\
 bR.C y ra H2 (λan H3=> ∃p aj:Int,an=.tuple #[.int .u64 p,.int .i64 aj]/\
 fQ.C p H3 (λal H4=> ∃(g d rc:Int) (rd:Bool),al=.tuple #[.int .i64 g,.int .i64 d,.int .u64 rc,.bool rd]/\
 ∃ag:zW,hat H4 f=some (.pointer ag)/\
 ∃ae:Addr,ag=some ae/\
 ∃ah:zW,hat H4 ae=some (.pointer ah)/\
 ∃af:Addr,ah=some af/\
 ∃z:zW,hat H4 af=some (.pointer z)/\
 bE.C z (zY (Int.tdiv ra 64)) H4 (λak H5=> ∃(o m q i l j k:Int) (s:Bool),ak=.tuple #[.agg #[.int .i64 o,.int .i64 m,.int .i64 q,.int .i64 i,.int .i64 l,.int .i64 j,.int .i64 k],.bool s]/\
 ∀(b:Nat) (H6:zV),b=H5.size->H6=H5.push (.cells #[.int .i64 0,.int .i64 0,.int .i64 0,.int .i64 0,.int .i64 0,.int .i64 0,.int .i64 0] 96)->
 (aI H6 (ad b) 0 7)/\ ∀H7,H7=aO H6 (ad b) [.int .i64 o,.int .i64 m,.int .i64 q,.int .i64 i,.int .i64 l,.int .i64 j,.int .i64 k] 0->
 if rd=true then(
 hU.C g H7 (λam H8=> ∃u:Int,am=.int .i64 u/\
 if u=x then(
 ∃r:Int,hat H8 ((ad b).add 2)=some (.int .i64 r)/\
 if(zY ((Int.tmod ra 64)+d))<r then(
 R (.tuple #[.int .i64 ra,.int .i64 g,.int .i64 d,.int .u64 rc,.bool true]) H8)
 else
 (I9 (zY (a+1)) H8/\m9 (zY (a+1)) H8<m9 a H1))
 else
 (I9 (zY (a+1)) H8/\m9 (zY (a+1)) H8<m9 a H1)))
 else
 (I9 (zY (a+1)) H7/\m9 (zY (a+1)) H7<m9 a H1)))))
 else
 (I9 (zY (a+1)) H2/\m9 (zY (a+1)) H2<m9 a H1)))
 else
 R (.tuple #[.int .i64 0,.int .i64 0,.int .i64 0,.int .u64 0,.bool false]) H1
namespace bX
theorem link{hv:zW}{wv:Int}{H:zV}{R:zk}(h:pt hv wv H R):C hv wv H R:=by
 refine T_en K0 87 Tryz.func84 ?_
 intro w0 Q hQ
 unfold pt zY at h
 refine T_su [(0,vp hv),(1,vu wv)]<| ar 0<| T_ed 5 [] []<| T_sz<| ar 1<| T_ed 2 [] [(15,.agg #[vi 2,vi 3]),(16,vi 0)]<| T_bz 0 ?_
 obtain⟨I9,m9,i1,i2⟩:=h
 refine bO (x:=K8) (σ:=Int) (λs_=> [(0,vp hv),(1,vu wv),(15,.agg #[vi 2,vi 3]),(16,vi s_)]) (λs_ H=>I9 s_ H) (λs_ H=>m9 s_ H) (0:Int) (by kernel_rfl) i1 sk ?_
 rintro a H1 i3
 have h:=i2 a H1 i3
 refine T_su [(0,vp hv),(1,vu wv),(15,.agg #[vi 2,vi 3]),(16,vi a)]<| ar 2<| T_ed 1 [] [(17,.bool (decide (a<2)))]<| T_sz ?_
 by_cases c4:a<2
 ·rw[if_pos c4]at h
  refine aF 17 (zX c4)<| T_kt<| T_sz<| T_bz 1<| ar 3<| T_ud [17] [] ?_
  obtain⟨x,q6,h⟩:=h
  refine T_v1 18 (dj 171 (.agg #[vi 2,vi 3]) (vi a)) (vi x) (λw _=>ig (P:=Tryz.prog) (t:=171) (elem:=3) (n:=2) Tryz.underlying171 (λ_=>by kernel_rfl) (λ_=>by kernel_rfl) q6.1.1 q6.1.2 q6.2 w) []<| T_ed 1 [18] [(10,vi x)]<| T_sz<| ar 4<| T_nd 3 [] [(20,vp hv),(21,vu wv),(22,vi x)]<| T_c (some 23) h ?_;clear h
  rintro v H2 ⟨ra,rb,rfl,h⟩
  refine T_pd [20,21,22] [(23,.tuple #[vi ra,.bool rb])]<| T_ed 5 [23] [(4,vi ra),(8,.bool rb)]<| ar 5<| T_ed 2 [8] [(27,.bool (!rb))] ?_
  by_cases c7:rb=true
  ·rw[if_pos c7]at h
   refine aE 27 (congrArg Bool.not (c7))<| T_kt<| ar 6<| T_nd 1 [27] [(29,vp hv)] ?_
   obtain⟨f,rfl,h⟩:=h
   refine T_nd 2 [0,29] [(0,vp (some f)),(31,vp (some f))] ?_
   obtain⟨aa,q9,h⟩:=h
   refine T_l1 32 44 q9 [31] ?_
   obtain⟨ai,rfl,h⟩:=h
   refine T_nd 2 [32] [(34,vp (some ai))] ?_
   obtain⟨ac,q10,h⟩:=h
   refine T_l1 35 81 q10 [34] ?_
   obtain⟨ab,rfl,h⟩:=h
   refine T_nd 2 [35] [(37,vp (some ab))] ?_
   obtain⟨y,q11,h⟩:=h
   refine T_l1 38 84 q11 [37]<| T_nd 1 [] [(39,vi ra)]<| T_c (some 40) h ?_;clear h
   rintro an H3 ⟨p,aj,rfl,h⟩
   refine T_pd [38,39] [(40,.tuple #[vu p,vi aj])]<| T_ed 5 [40] [(11,vu p)]<| ar 7<| T_nd 1 [11] [(44,vu p)]<| T_c (some 45) h ?_;clear h
   rintro al H4 ⟨g,d,rc,rd,rfl,h⟩
   refine T_pd [44] [(45,.tuple #[vi g,vi d,vu rc,.bool rd])]<| T_ed 9 [45] [(5,vi g),(6,vi d),(7,vu rc),(8,.bool rd)]<| ar 8<| T_nd 3 [] [(53,vp (some f))] ?_
   obtain⟨ag,q12,h⟩:=h
   refine T_l1 54 44 q12 [53] ?_
   obtain⟨ae,rfl,h⟩:=h
   refine T_nd 2 [54] [(56,vp (some ae))] ?_
   obtain⟨ah,q13,h⟩:=h
   refine T_l1 57 81 q13 [56] ?_
   obtain⟨af,rfl,h⟩:=h
   refine T_nd 2 [57] [(59,vp (some af))] ?_
   obtain⟨z,q14,h⟩:=h
   refine T_l1 60 84 q14 [59]<| T_nd 2 [] [(62,vi (zY (Int.tdiv ra 64)))]<| T_c (some 63) h ?_;clear h
   rintro ak H5 ⟨o,m,q,i,l,j,k,s,rfl,h⟩
   refine T_pd [60,62] [(63,.tuple #[.agg #[vi o,vi m,vi q,vi i,vi l,vi j,vi k],.bool s])]<| T_nd 3 [63] [(64,.agg #[vi o,vi m,vi q,vi i,vi l,vi j,vi k]),(65,.bool s)]<| T_nw (some 13) (λb=>vp (pa b)) (.cells #[vi 0,vi 0,vi 0,vi 0,vi 0,vi 0,vi 0] 96) ?_
   intro b H6 e15 e16
   replace h:=h b H6 e15 e16
   refine T_pd [] [(13,vp (pa b))] ?_
   obtain⟨q18,h⟩:=h
   refine fH 96 [vi o,vi m,vi q,vi i,vi l,vi j,vi k] q18 ?_
   intro H7 e17
   replace h:=h H7 e17
   refine T_pd [64] []<| T_ed 1 [65] []<| ar 9<| T_nd 2 [8] [(67,.bool rd)] ?_
   by_cases c19:rd=true
   ·rw[if_pos c19]at h
    refine N_bd 67 c19<| T_nd 1 [] [(68,vi g)] ?_
    refine T_c (some 69) h ?_;clear h
    rintro am H8 ⟨u,rfl,h⟩
    refine T_pd [68] [(69,vi u)]<| T_nd 4 [10,67,69] [(73,.bool (u==x))] ?_
    by_cases c21:u=x
    ·rw[if_pos c21]at h
     refine N_bd 73 (zK c21)<| T_nd 5 [13] [(77,vi (zY ((Int.tmod ra 64)+d))),(78,vp (some ((ad b).add 2)))] ?_
     obtain⟨r,q23,h⟩:=h
     refine T_l1 79 3 q23 [78]<| T_ed 2 [73,77,79] [(81,.bool (decide ((zY ((Int.tmod ra 64)+d))<r)))] ?_
     by_cases c24:(zY ((Int.tmod ra 64)+d))<r
     ·rw[if_pos c24]at h
      exact aF 81 (zX c24)<| ar 10<| T_nr 9 [4,5,6,7,8] [vi ra,vi g,vi d,vu rc,.bool true] hQ h
     rw[if_neg c24]at h
     exact aE 81 (zQ c24)<| T_k<| aB<| aC<| T_rz 11<| T_ed 2 [4,5,6,7,16,81] [(16,vi (zY (a+1)))]<| aK ((zY (a+1)):Int) sk h
    rw[if_neg c21]at h
    refine N_bd 73 (zJ c21)<| T_ed 8 [13,73] [(81,.bool false)]<| T_fz 81<| T_k ?_
    exact aB<| aC<| T_rz 11<| T_ed 2 [4,5,6,7,16,81] [(16,vi (zY (a+1)))]<| aK ((zY (a+1)):Int) sk h
   rw[if_neg c19]at h
   refine N_bd 67 (zZ c19)<| T_ed 14 [10,13,67] [(81,.bool false)]<| T_fz 81<| T_k ?_
   exact aB<| aC<| T_rz 11<| T_ed 2 [4,5,6,7,16,81] [(16,vi (zY (a+1)))]<| aK ((zY (a+1)):Int) sk h
  rw[if_neg c7]at h
  exact aF 27 (congrArg Bool.not (zZ c7))<| zj 1<| aA<| aH<| aC<| T_rz 11<| T_ed 2 [4,10,16,27] [(16,vi (zY (a+1)))]<| aK ((zY (a+1)):Int) sk h
 rw[if_neg c4]at h
 exact aE 17 (zQ c4)<| zj 0<| aA<| aA<| aH<| aC<| ar 12<| T_nr 5 [4,5,6,7,8] [vi 0,vi 0,vi 0,vu 0,.bool false] hQ h
end bX

/-! (*moraine/obj.Heap).Type -/
namespace dZ
def K0:=Func.code Tryz.f108
end dZ
def dZ.pt(hv:zW)(wv j a:Int)(H:zV)(R:zk):Prop:=
 ec.C wv H (λv H1=> ∃(ra:Int) (rb:Bool),v=.tuple #[.int .i64 ra,.bool rb]/\
 dq.C hv H1 (λae H2=> ∃x:Bool,ae=.bool x/\
 if x=true then(
 R (.tuple #[.int .i64 0,.bool false]) H2)
 else
 if rb=true then(
 dY.C wv H2 (λac H3=> ∃r:Int,ac=.int .i64 r/\
 if r=j then(
 ∃y:Addr,hv=some y/\
 ∃z:zW,hat H3 y=some (.pointer z)/\
 ∃t:Addr,z=some t/\
 ∃u:zW,hat H3 t=some (.pointer u)/\
 ∃aa:Addr,u=some aa/\
 ∃s:zW,hat H3 aa=some (.pointer s)/\
 bE.C s (zY (Int.tdiv ra 64)) H3 (λab H4=> ∃(m l q d i f g:Int) (k:Bool),ab=.tuple #[.agg #[.int .i64 m,.int .i64 l,.int .i64 q,.int .i64 d,.int .i64 i,.int .i64 f,.int .i64 g],.bool k]/\
 ∀(b:Nat) (H5:zV),b=H4.size->H5=H4.push (.cells #[.int .i64 0,.int .i64 0,.int .i64 0,.int .i64 0,.int .i64 0,.int .i64 0,.int .i64 0] 96)->
 (aI H5 (ad b) 0 7)/\ ∀H6,H6=aO H5 (ad b) [.int .i64 m,.int .i64 l,.int .i64 q,.int .i64 d,.int .i64 i,.int .i64 f,.int .i64 g] 0->
 if k=true then(
 ∃o:Int,hat H6 ((ad b).add 1)=some (.int .i64 o)/\
 if o=a then(
 ∃p:Int,hat H6 ((ad b).add 2)=some (.int .i64 p)/\
 R (.tuple #[.int .i64 ra,.bool (decide ((Int.tmod ra 64)<p))]) H6)
 else
 R (.tuple #[.int .i64 ra,.bool false]) H6)
 else
 R (.tuple #[.int .i64 ra,.bool false]) H6))
 else
 R (.tuple #[.int .i64 0,.bool false]) H3))
 else
 R (.tuple #[.int .i64 0,.bool false]) H2))
namespace dZ
theorem link{hv:zW}{wv j a:Int}{H:zV}{R:zk}(h:pt hv wv j a H R):C hv wv j a H R:=by
 refine T_en K0 61 Tryz.func108 ?_
 intro w0 Q hQ
 unfold pt zY at h
 refine T_su [(0,vp hv),(1,vu wv),(2,vi j),(3,vi a)]<| ar 0<| T_ed 2 [] []<| ar 1<| T_nd 1 [] [(14,vu wv)]<| T_c (some 15) h ?_;clear h
 rintro v H1 ⟨ra,rb,rfl,h⟩
 refine T_pd [14] [(15,.tuple #[vi ra,.bool rb])]<| T_ed 5 [15] [(10,vi ra),(11,.bool rb)]<| T_sz<| ar 2<| T_nd 1 [] [(18,vp hv)]<| T_c (some 19) h ?_;clear h
 rintro ae H2 ⟨x,rfl,h⟩
 refine T_pd [18] [(19,.bool x)]<| T_nd 1 [19] [(20,.bool x)] ?_
 by_cases c1:x=true
 ·rw[if_pos c1]at h
  exact N_bd 20 c1<| T_ed 9 [1,2,11,20] [(29,.bool true)]<| T_tz 29<| ar 3<| T_nr 2 [8,9] [vi 0,.bool false] hQ h
 rw[if_neg c1]at h
 refine N_bd 20 (zZ c1)<| T_nd 4 [11,20] [(24,.bool (!rb))] ?_
 by_cases c3:rb=true
 ·rw[if_pos c3]at h
  have b4:(!rb)=false:=congrArg Bool.not (c3)
  have b42:rb=true:=c3
  refine N_bd 24 (b:=(!rb)) (v:=false) (by simp only[b4,b42,Bool.not_true,Bool.not_false]) ?_
  clear b4 b42
  refine T_nd 1 [1] [(25,vu wv)]<| T_c (some 26) h ?_;clear h
  rintro ac H3 ⟨r,rfl,h⟩
  refine T_pd [25] [(26,vi r)]<| T_ed 3 [2,24,26] [(29,.bool (r !=j))] ?_
  by_cases c5:r=j
  ·rw[if_pos c5]at h
   refine aE 29 (bne_eq_false_iff_eq.mpr c5)<| T_kt<| ar 4<| T_nd 1 [0,29] [(31,vp hv)] ?_
   obtain⟨y,rfl,h⟩:=h
   refine T_nd 2 [31] [(33,vp (some y))] ?_
   obtain⟨z,q7,h⟩:=h
   refine T_l1 34 44 q7 [33] ?_
   obtain⟨t,rfl,h⟩:=h
   refine T_nd 2 [34] [(36,vp (some t))] ?_
   obtain⟨u,q8,h⟩:=h
   refine T_l1 37 81 q8 [36] ?_
   obtain⟨aa,rfl,h⟩:=h
   refine T_nd 2 [37] [(39,vp (some aa))] ?_
   obtain⟨s,q9,h⟩:=h
   refine T_l1 40 84 q9 [39]<| T_nd 2 [] [(42,vi (zY (Int.tdiv ra 64)))]<| T_c (some 43) h ?_;clear h
   rintro ab H4 ⟨m,l,q,d,i,f,g,k,rfl,h⟩
   refine T_pd [40,42] [(43,.tuple #[.agg #[vi m,vi l,vi q,vi d,vi i,vi f,vi g],.bool k])]<| T_nd 3 [43] [(44,.agg #[vi m,vi l,vi q,vi d,vi i,vi f,vi g]),(45,.bool k)]<| T_nw (some 12) (λb=>vp (pa b)) (.cells #[vi 0,vi 0,vi 0,vi 0,vi 0,vi 0,vi 0] 96) ?_
   intro b H5 e10 e11
   replace h:=h b H5 e10 e11
   refine T_pd [] [(12,vp (pa b))] ?_
   obtain⟨q13,h⟩:=h
   refine fH 96 [vi m,vi l,vi q,vi d,vi i,vi f,vi g] q13 ?_
   intro H6 e12
   replace h:=h H6 e12
   refine T_pd [44] []<| T_ed 1 [45] [(11,.bool k)]<| T_sz<| jm 5<| T_q1 46 (vi ra) []<| T_q1 47 (.bool k) [11]<| T_q1 48 (.bool k) [47] ?_
   by_cases c14:k=true
   ·rw[if_pos c14]at h
    refine Q_bd 48 c14<| T_q1 49 (vp (some ((ad b).add 1))) [] ?_
    obtain⟨o,q16,h⟩:=h
    refine iQ (some 50) 3 q16 [49] [(50,vi o)]<| T_q1 51 (vi a) [3]<| T_q1 52 (.bool (o==a)) [50,51]<| T_q1 53 (.bool (o==a)) [48,52]<| T_q1 54 (.bool (o==a)) [53] ?_
    by_cases c17:o=a
    ·rw[if_pos c17]at h
     refine Q_bd 54 (zK c17)<| T_q1 55 (vi ra) [10]<| T_q1 56 (vi (Int.tmod ra 64)) [55]<| T_q1 57 (vp (some ((ad b).add 2))) [12] ?_
     obtain⟨p,q19,h⟩:=h
     exact iQ (some 58) 3 q19 [57] [(58,vi p)]<| T_q1 59 (.bool (decide ((Int.tmod ra 64)<p))) [56,58]<| T_q1 60 (.bool (decide ((Int.tmod ra 64)<p))) [54,59]<| T_q1 8 (vi ra) [46]<| T_q1 9 (.bool (decide ((Int.tmod ra 64)<p))) [60]<| eV [(8,vi ra),(9,.bool (decide ((Int.tmod ra 64)<p)))] sk<| T_qe<| fF [8,9] [vi ra,.bool (decide ((Int.tmod ra 64)<p))] hQ h
    rw[if_neg c17]at h
    refine Q_bd 54 (zJ c17)<| T_q1 55 (undef) [10]<| T_q1 56 (undef) [55]<| T_q1 57 (undef) [12]<| T_q1 58 (undef) [57]<| T_q1 59 (undef) [56,58]<| T_q1 60 (.bool false) [54,59]<| T_q1 8 (vi ra) [46]<| T_q1 9 (.bool false) [60] ?_
    refine eV [(8,vi ra),(9,.bool false)] sk ?_
    exact T_qe<| fF [8,9] [vi ra,.bool false] hQ h
   rw[if_neg c14]at h
   refine Q_bd 48 (zZ c14)<| T_q1 49 (undef) []<| T_q1 50 (undef) [49]<| T_q1 51 (undef) [3]<| T_q1 52 (undef) [50,51]<| T_q1 53 (.bool false) [48,52]<| T_q1 54 (.bool false) [53]<| T_q1 55 (undef) [10]<| T_q1 56 (undef) [55] ?_
   exact T_q1 57 (undef) [12]<| T_q1 58 (undef) [57]<| T_q1 59 (undef) [56,58]<| T_q1 60 (.bool false) [54,59]<| T_q1 8 (vi ra) [46]<| T_q1 9 (.bool false) [60]<| eV [(8,vi ra),(9,.bool false)] sk<| T_qe<| fF [8,9] [vi ra,.bool false] hQ h
  rw[if_neg c5]at h
  exact aF 29 (bne_iff_ne.mpr c5)<| ar 3<| T_nr 2 [8,9] [vi 0,.bool false] hQ h
 rw[if_neg c3]at h
 have b4:(!rb)=true:=congrArg Bool.not (zZ c3)
 have b42:rb=false:=zZ c3
 refine N_bd 24 (b:=(!rb)) (v:=true) (by simp only[b4,b42,Bool.not_true,Bool.not_false]) ?_
 clear b4 b42
 exact T_ed 5 [1,2,24] [(29,.bool true)]<| T_tz 29<| ar 3<| T_nr 2 [8,9] [vi 0,.bool false] hQ h
end dZ

