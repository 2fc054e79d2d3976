/- Printed: what each function asks, and that it is sound. -/
import Derived.Test.YtihdffpekpnglaaGreatFnsC
set_option linter.unusedSimpArgs false
set_option linter.unusedVariables false
set_option maxRecDepth 100000
set_option maxHeartbeats 1000000
noncomputable section
namespace Go.Proofs.YtihdffpekpnglaaGreat
open Go
/-! moraine/obj.New -/
namespace jn
def K0:=Func.code Tryz.f6
end jn
def jn.pt(a:Int)(H:zW)(R:zv):Prop:=
 iZ.C a H (λv H1=> ∃(ra:zY) (rb:Int),v=.tuple #[.pointer ra,.int .i64 rb]/\
 if rb=0 then(
 ∀(b:Nat) (H2:zW),b=H1.size->H2=H1.push (.cells #[.pointer ra,.slice none 0 0,.slice none 0 0,.int .u64 0] 54)->
 R (.tuple #[.pointer (some (ad b)),.int .i64 0]) H2)
 else
 R (.tuple #[.pointer none,.int .i64 rb]) H1)
namespace jn
theorem link{a:Int}{H:zW}{R:zv}(h:pt a H R):C a H R:=by
 refine T_en K0 17 Tryz.func6 ?_
 intro w0 Q hQ
 unfold pt at h
 refine T_su [(0,vi a)]<| ar 0<| T_ed 2 [] []<| ar 1<| T_n 1 [(7,vi a)]<| T_c (some 8) h ?_;clear h
 rintro v H1 ⟨ra,rb,rfl,h⟩
 refine⟨[(8,.tuple #[vp ra,vi rb])],pk,?_⟩
 refine T_ne 5 [(4,vp ra),(5,vi rb)]<| T_sz<| ar 2<| T_ed 2 [] [(12,.bool (rb !=0))] ?_
 by_cases c1:rb=0
 ·rw[if_pos c1]at h
  refine aI 12 (bne_eq_false_iff_eq.mpr c1)<| T_kt<| ar 4<| T_n 2 [(15,.agg #[vp ra,vs none 0 0,vs none 0 0,vu 0])]<| T_nw (some 16) (λb=>vp (pa b)) (.cells #[vp ra,vs none 0 0,vs none 0 0,vu 0] 54) ?_
  intro b H2 e3 e4
  replace h:=h b H2 e3 e4
  refine⟨[(16,vp (pa b))],pk,?_⟩
  exact T_nr 2 [2,3] [vp (pa b),vi 0] hQ h
 rw[if_neg c1]at h
 exact aH 12 (bne_iff_ne.mpr c1)<| ar 3<| T_nr 3 [2,3] [vp none,vi rb] hQ h
end jn

/-! (*moraine/obj.Heap).Type -/
namespace eQ
def K0:=Func.code Tryz.f13
end eQ
def eQ.pt(hv:zY)(wv:Int)(H:zW)(R:zv):Prop:=
 cH.C hv wv H (λv H1=> ∃(ra rb rc rd:Int) (re:Bool),v=.tuple #[.int .i64 ra,.int .i64 rb,.int .i64 rc,.int .u64 rd,.bool re]/\
 R (.int .i64 rb) H1)
namespace eQ
theorem link{hv:zY}{wv:Int}{H:zW}{R:zv}(h:pt hv wv H R):C hv wv H R:=by
 refine T_en K0 20 Tryz.func13 ?_
 intro w0 Q hQ
 unfold pt at h
 refine T_su [(0,vp hv),(1,vu wv)]<| ar 0<| T_ed 1 [] []<| ar 1<| T_n 2 [(11,vp hv),(12,vu wv)]<| T_c (some 13) h ?_;clear h
 rintro v H1 ⟨ra,rb,rc,rd,re,rfl,h⟩
 refine⟨[(13,.tuple #[vi ra,vi rb,vi rc,vu rd,.bool re])],pk,?_⟩
 exact T_ne 11 [(6,vi rb)]<| ar 2<| T_nr 2 [4] [vi rb] hQ h
end eQ

/-! (*moraine/obj.Heap).Get -/
namespace fN
def K0:=Func.code Tryz.f22
end fN
def fN.pt(hv:zY)(wv a i:Int)(H:zW)(R:zv):Prop:=
 fJ.C hv wv a i H (λv H1=> ∃ra rb:Int,v=.tuple #[.int .i64 ra,.int .i64 rb]/\
 if rb=0 then(
 ∃j:Addr,hv=some j/\
 ∃x:zY,hat H1 j=some (.pointer x)/\
 ∃xA:Addr,x=some xA/\
 ∃k:zY,hat H1 xA=some (.pointer k)/\
 ∃f:Addr,k=some f/\
 ∃e:zY,hat H1 f=some (.pointer e)/\
 fQ.C e ra H1 (λl H2=> ∃b d:Int,l=.tuple #[.int .u64 b,.int .i64 d]/\
 R (.tuple #[.int .u64 b,.int .i64 d]) H2))
 else
 R (.tuple #[.int .u64 0,.int .i64 rb]) H1)
namespace fN
theorem link{hv:zY}{wv a i:Int}{H:zW}{R:zv}(h:pt hv wv a i H R):C hv wv a i H R:=by
 refine T_en K0 37 Tryz.func22 ?_
 intro w0 Q hQ
 unfold pt at h
 refine T_su [(0,vp hv),(1,vu wv),(2,vi a),(3,vi i)]<| ar 0<| T_ed 2 [] []<| ar 1<| T_n 4 [(0,vp hv),(13,vp hv),(14,vu wv),(15,vi a),(16,vi i)]<| T_c (some 17) h ?_;clear h
 rintro v H1 ⟨ra,rb,rfl,h⟩
 refine⟨[(0,vp hv),(17,.tuple #[vi ra,vi rb])],pk,?_⟩
 refine T_ed 5 [17] [(10,vi ra),(11,vi rb)]<| T_sz<| ar 2<| T_ed 2 [] [(21,.bool (rb !=0))] ?_
 by_cases c1:rb=0
 ·rw[if_pos c1]at h
  refine aI 21 (bne_eq_false_iff_eq.mpr c1)<| T_kt<| ar 4<| T_n 1 [(10,vi ra),(23,vp hv)] ?_
  obtain⟨j,rfl,h⟩:=h
  refine T_nd 2 [23] [(25,vp (some j))] ?_
  obtain⟨x,q3,h⟩:=h
  refine T_l1 26 51 q3 [25] ?_
  obtain⟨xA,rfl,h⟩:=h
  refine T_nd 2 [26] [(28,vp (some xA))] ?_
  obtain⟨k,q4,h⟩:=h
  refine T_l1 29 55 q4 [28] ?_
  obtain⟨f,rfl,h⟩:=h
  refine T_nd 2 [29] [(31,vp (some f))] ?_
  obtain⟨e,q5,h⟩:=h
  refine T_l1 32 58 q5 [31]<| T_nd 1 [10] [(33,vi ra)]<| T_c (some 34) h ?_;clear h
  rintro l H2 ⟨b,d,rfl,h⟩
  refine⟨[(34,.tuple #[vu b,vi d])],pk,?_⟩
  exact T_nr 4 [8,9] [vu b,vi d] hQ h
 rw[if_neg c1]at h
 exact aH 21 (bne_iff_ne.mpr c1)<| ar 3<| T_nr 3 [8,9] [vu 0,vi rb] hQ h
end fN

/-! (*moraine/obj.Heap).Len -/
namespace fO
def K0:=Func.code Tryz.f25
end fO
def fO.pt(hv:zY)(wv:Int)(H:zW)(R:zv):Prop:=
 cH.C hv wv H (λv H1=> ∃(ra rb rc rd:Int) (re:Bool),v=.tuple #[.int .i64 ra,.int .i64 rb,.int .i64 rc,.int .u64 rd,.bool re]/\
 R (.int .i64 rc) H1)
namespace fO
theorem link{hv:zY}{wv:Int}{H:zW}{R:zv}(h:pt hv wv H R):C hv wv H R:=by
 refine T_en K0 20 Tryz.func25 ?_
 intro w0 Q hQ
 unfold pt at h
 refine T_su [(0,vp hv),(1,vu wv)]<| ar 0<| T_ed 1 [] []<| ar 1<| T_n 2 [(11,vp hv),(12,vu wv)]<| T_c (some 13) h ?_;clear h
 rintro v H1 ⟨ra,rb,rc,rd,re,rfl,h⟩
 refine⟨[(13,.tuple #[vi ra,vi rb,vi rc,vu rd,.bool re])],pk,?_⟩
 exact T_ne 11 [(7,vi rc)]<| ar 2<| T_nr 2 [4] [vi rc] hQ h
end fO

/-! (*moraine/obj.Heap).put -/
namespace ge
def K0:=Func.code Tryz.f31
def K2:=cb K0
def K4:=cb K2
def K12:=cb K4
def K14:=cb K12
def K19:=ca K14
def K22:=cb K19
def K23:=ca K22
def K24:=ca K23
end ge
def ge.pt(hv:zY)(f d:Int)(lB:zY)(lN lC:Nat)(H:zW)(R:zv):Prop:=
 eR.C hv H (λv H1=> ∃x:Bool,v=.bool x/\
 if x=true then(
 R (.tuple #[.int .u64 0,.int .i64 2]) H1)
 else
 ∃e:Addr,hv=some e/\
 ∃aa:zY,hat H1 e=some (.pointer aa)/\
 ∃r:Addr,aa=some r/\
 ∃o:zY,hat H1 r=some (.pointer o)/\
 eL.C o 0 f (lN:Int) H1 (λab H2=> ∃ra rb:Int,ab=.tuple #[.int .i64 ra,.int .i64 rb]/\
 if rb=0 then(
 ∃(y:zw) (m25:Int->zW->Nat),y 0 H2/\ ∀(b:Int) (H3:zW),y b H3->
 if b< (lN:Int)then(
 ∃j:Addr,lB=some j/\
 yZ b lN/\
 ∃l:Int,hat H3 (j.add (Int.toNat b*1))=some (.int .u64 l)/\
 ∃q:zY,hat H3 e=some (.pointer q)/\
 ∃u:Addr,q=some u/\
 ∃z:zY,hat H3 u=some (.pointer z)/\
 ∃s:Addr,z=some s/\
 ∃p:zY,hat H3 s=some (.pointer p)/\
 fY.C p (zq (ra+b)) l H3 (λaf H4=> ∃ae:Int,af=.int .i64 ae/\
 (y (zq (b+1)) H4/\m25 (zq (b+1)) H4<m25 b H3)))
 else
 ju.C d ra H3 (λac H5=> ∃m n:Int,ac=.tuple #[.int .u64 m,.int .i64 n]/\
 R (.tuple #[.int .u64 m,.int .i64 n]) H5))
 else
 R (.tuple #[.int .u64 0,.int .i64 rb]) H2))
namespace ge
theorem link{hv:zY}{f d:Int}{lB:zY}{lN lC:Nat}{H:zW}{R:zv}(h:pt hv f d lB lN lC H R):C hv f d lB lN lC H R:=by
 refine T_en K0 61 Tryz.func31 ?_
 intro w0 Q hQ
 unfold pt zq at h
 refine T_su [(0,vp hv),(1,vi f),(2,vi d),(3,vs lB lN lC)]<| ar 0<| T_ed 2 [] []<| T_sz<| ar 1<| T_nd 1 [] [(14,vp hv)]<| T_c (some 15) h ?_;clear h
 rintro v H1 ⟨x,rfl,h⟩
 refine T_pd [14] [(15,.bool x)]<| T_e ?_
 by_cases c1:x=true
 ·rw[if_pos c1]at h
  exact aH 15 c1<| ar 2<| T_nr 2 [8,9] [vu 0,vi 2] hQ h
 rw[if_neg c1]at h
 refine aI 15 (zZ c1)<| T_kt<| ar 3<| T_nd 1 [15] [(17,vp hv)] ?_
 obtain⟨e,rfl,h⟩:=h
 refine T_nd 2 [0,17] [(0,vp (some e)),(19,vp (some e))] ?_
 obtain⟨aa,q3,h⟩:=h
 refine T_l1 20 51 q3 [19] ?_
 obtain⟨r,rfl,h⟩:=h
 refine T_nd 2 [20] [(22,vp (some r))] ?_
 obtain⟨o,q4,h⟩:=h
 refine T_l1 23 55 q4 [22]<| T_nd 3 [1] [(24,vi f),(26,vi lN)]<| T_c (some 27) h ?_;clear h
 rintro ab H2 ⟨ra,rb,rfl,h⟩
 refine T_pd [23,24,26] [(27,.tuple #[vi ra,vi rb])]<| T_ed 5 [27] [(10,vi ra),(11,vi rb)]<| T_sz<| ar 4<| T_ed 2 [] [(31,.bool (rb !=0))] ?_
 by_cases c5:rb=0
 ·rw[if_pos c5]at h
  refine aI 31 (bne_eq_false_iff_eq.mpr c5)<| T_kt<| T_sz<| ar 6<| T_ed 3 [3,11,31] [(33,vs lB lN lC),(34,vi lN),(35,vi 0)]<| T_bz 0 ?_
  obtain⟨y,m25,i7,i8⟩:=h
  refine dS (x:=K24) (σ:=Int) (λs_=> [(0,vp (some e)),(2,vi d),(10,vi ra),(33,vs lB lN lC),(34,vi lN),(35,vi s_)]) (λs_ H=>y s_ H) (λs_ H=>m25 s_ H) (0:Int) (by kernel_rfl) i7 sk ?_
  rintro b H3 i9
  have h:=i8 b H3 i9
  refine T_su [(0,vp (some e)),(2,vi d),(10,vi ra),(33,vs lB lN lC),(34,vi lN),(35,vi b)]<| ar 7<| T_ed 1 [] [(36,.bool (decide (b< (lN:Int))))]<| T_sz ?_
  by_cases c10:b< (lN:Int)
  ·rw[if_pos c10]at h
   refine aH 36 (zQ c10)<| T_kt<| T_sz<| T_bz 1<| ar 8<| T_nd 1 [36] [(37,vi b)] ?_
   obtain⟨j,rfl,q12,h⟩:=h
   refine T_xd (some 38) 31 33 1 j lN lC .i64 b Tryz.underlying31 q12.1 q12.2 [33] [(33,vs (some j) lN lC),(38,vp (some (j.add (Int.toNat b*1))))] ?_
   obtain⟨l,q13,h⟩:=h
   refine T_l1 39 33 q13 [38]<| T_ed 2 [37,39] [(12,vi b),(13,vu l)]<| T_rz 9<| T_nd 3 [] [(42,vp (some e))] ?_
   obtain⟨q,q14,h⟩:=h
   refine T_l1 43 51 q14 [42] ?_
   obtain⟨u,rfl,h⟩:=h
   refine T_nd 2 [43] [(45,vp (some u))] ?_
   obtain⟨z,q15,h⟩:=h
   refine T_l1 46 55 q15 [45] ?_
   obtain⟨s,rfl,h⟩:=h
   refine T_nd 2 [46] [(48,vp (some s))] ?_
   obtain⟨p,q16,h⟩:=h
   refine T_l1 49 58 q16 [48]<| T_nd 4 [12,13] [(52,vi (zq (ra+b))),(53,vu l)]<| T_c (some 54) h ?_;clear h
   rintro af H4 ⟨ae,rfl,h⟩
   exact T_pd [49,52,53] []<| zx<| aL<| aE<| T_rz 10<| T_ed 2 [35] [(35,vi (zq (b+1)))]<| bG ((zq (b+1)):Int) sk h
  rw[if_neg c10]at h
  refine aI 36 (zJ c10)<| zk 0<| aD<| aD<| aR<| aE<| ar 11<| T_n 2 [(56,vi d),(57,vi ra)]<| T_c (some 58) h ?_;clear h
  rintro ac H5 ⟨m,n,rfl,h⟩
  refine⟨[(58,.tuple #[vu m,vi n])],pk,?_⟩
  exact T_nr 4 [8,9] [vu m,vi n] hQ h
 rw[if_neg c5]at h
 exact aH 31 (bne_iff_ne.mpr c5)<| ar 5<| T_nr 3 [8,9] [vu 0,vi rb] hQ h
end ge

/-! (*moraine/obj.Heap).none -/
namespace eR
def K0:=Func.code Tryz.f32
end eR
def eR.pt(hv:zY)(H:zW)(R:zv):Prop:=
 gk hv (
 R (.bool true) H) (λa=>
 ∃x:zY,hat H a=some (.pointer x)/\
 gk x (
 R (.bool true) H) (λxA=>
 R (.bool false) H))
namespace eR
theorem link{hv:zY}{H:zW}{R:zv}(h:pt hv H R):C hv H R:=by
 refine T_en K0 12 Tryz.func32 ?_
 intro w0 Q hQ
 unfold pt at h
 refine T_su [(0,vp hv)]<| ar 0<| T_ed 1 [] []<| ar 1<| T_nd 1 [] [(3,vp hv)] ?_
 rcases hv with _ | a
 ·rw[onPtr_none]at h
  exact T_nr 9 [2] [.bool true] hQ h
 rw[onPtr_some]at h
 refine T_n 5 [(5,.bool false),(8,vp (some a))] ?_
 obtain⟨x,q1,h⟩:=h
 refine T_l1 9 51 q1 [8] ?_
 rcases x with _ | xA
 ·rw[onPtr_none]at h
  exact T_nr 3 [2] [.bool true] hQ h
 rw[onPtr_some]at h
 exact T_nr 3 [2] [.bool false] hQ h
end eR

/-! (*moraine/obj.Heap).Make -/
namespace dO
def K0:=Func.code Tryz.f37
end dO
def dO.pt(hv:zY)(a d:Int)(lB:zY)(lN lC:Nat)(H:zW)(R:zv):Prop:=
 gY.C a 0 d H (λv H1=> ∃ra rb:Int,v=.tuple #[.int .u64 ra,.int .i64 rb]/\
 if rb=0 then(
 if(lN:Int)>62 then(
 R (.tuple #[.int .u64 0,.int .i64 6]) H1)
 else
 gY.C a (lN:Int) d H1 (λl H2=> ∃e j:Int,l=.tuple #[.int .u64 e,.int .i64 j]/\
 jo.C a H2 (λn H3=> ∃x:Int,n=.int .i64 x/\
 ∀(b:Nat) (H4:zW),b=H3.size->H4=H3.push (.cells #[.int .u64 e] 33)->
 bW 1 33 8 [.int .u64 0] (some (ad b)) 1 1 lB lN H4 (λap k H5=>
 ge.C hv x 3 ap (1+lN) k H5 (λm H6=> ∃f i:Int,m=.tuple #[.int .u64 f,.int .i64 i]/\
 R (.tuple #[.int .u64 f,.int .i64 i]) H6)))))
 else
 R (.tuple #[.int .u64 0,.int .i64 rb]) H1)
namespace dO
theorem link{hv:zY}{a d:Int}{lB:zY}{lN lC:Nat}{H:zW}{R:zv}(h:pt hv a d lB lN lC H R):C hv a d lB lN lC H R:=by
 refine T_en K0 44 Tryz.func37 ?_
 intro w0 Q hQ
 unfold pt at h
 refine T_su [(0,vp hv),(1,vi a),(2,vu d),(3,vs lB lN lC)]<| ar 0<| T_ed 2 [] []<| T_sz<| ar 1<| T_nd 2 [] [(15,vi a),(16,vu d)]<| T_c (some 17) h ?_;clear h
 rintro v H1 ⟨ra,rb,rfl,h⟩
 refine T_pd [15,16] [(17,.tuple #[vu ra,vi rb])]<| T_ed 5 [17] [(11,vi rb)]<| ar 2<| T_ed 2 [] [(21,.bool (rb !=0))] ?_
 by_cases c1:rb=0
 ·rw[if_pos c1]at h
  refine aI 21 (bne_eq_false_iff_eq.mpr c1)<| T_kt<| T_sz<| ar 4<| T_ed 3 [11,21] [(25,.bool (decide ((lN:Int)>62)))] ?_
  by_cases c3:(lN:Int)>62
  ·rw[if_pos c3]at h
   exact aH 25 (zQ c3)<| ar 5<| T_nr 2 [8,9] [vu 0,vi 6] hQ h
  rw[if_neg c3]at h
  refine aI 25 (zJ c3)<| T_kt<| ar 6<| T_nd 4 [2,25] [(27,vi a),(29,vi lN),(30,vu d)]<| T_c (some 31) h ?_;clear h
  rintro l H2 ⟨e,j,rfl,h⟩
  refine T_pd [27,29,30] [(31,.tuple #[vu e,vi j])]<| T_ed 5 [31] [(12,vu e)]<| ar 7<| T_nd 2 [0,1] [(34,vp hv),(35,vi a)]<| T_c (some 36) h ?_;clear h
  rintro n H3 ⟨x,rfl,h⟩
  refine T_pd [35] [(36,vi x)]<| T_nd 1 [12] [(37,vu e)]<| T_nw (some 38) (λb=>vs (pa b) 1 1) (.cells #[vu e] 33) ?_
  intro b H4 e5 e6
  replace h:=h b H4 e5 e6
  refine T_pd [37] [(38,vs (pa b) 1 1)]<| T_nd 1 [3] [(39,vs lB lN lC)]<| N_op (some 40) (cS #[31,31] 31 #[vs (pa b) 1 1,vs lB lN lC]) _ (λ_=>by kernel_rfl) (bP (T:=33) (sz:=1) (bytes:=8) (zero:=(vu 0:Value)) Tryz.underlying31 Tryz.underlying31 rfl (show Tryz.prog.info? 33=some Tryz.t33 from by kernel_rfl) (by kernel_rfl) (by kernel_rfl) (by decide) (by kernel_rfl) (by first | exact h | (simpa only[Value.cells,List.toList_toArray]using h))) ?_;clear h
  rintro _ H5 ⟨ap,k,rfl,h⟩
  refine T_pd [38,39] [(40,vs ap (1+lN) k)]<| T_c (some 41) h ?_;clear h
  rintro m H6 ⟨f,i,rfl,h⟩
  refine⟨[(41,.tuple #[vu f,vi i])],pk,?_⟩
  exact T_nr 4 [8,9] [vu f,vi i] hQ h
 rw[if_neg c1]at h
 exact aH 21 (bne_iff_ne.mpr c1)<| ar 3<| T_nr 3 [8,9] [vu 0,vi rb] hQ h
end dO

/-! (*moraine/obj.Heap).Set -/
namespace gS
def K0:=Func.code Tryz.f45
end gS
def gS.pt(hv:zY)(wv a i v:Int)(H:zW)(R:zv):Prop:=
 fJ.C hv wv a i H (λe H1=> ∃ra rb:Int,e=.tuple #[.int .i64 ra,.int .i64 rb]/\
 if rb=0 then(
 ∃d:Addr,hv=some d/\
 ∃x:zY,hat H1 d=some (.pointer x)/\
 eH.C x ra v H1 (λf H2=> ∃b:Int,f=.int .i64 b/\
 R (.int .i64 b) H2))
 else
 R (.int .i64 rb) H1)
namespace gS
theorem link{hv:zY}{wv a i v:Int}{H:zW}{R:zv}(h:pt hv wv a i v H R):C hv wv a i v H R:=by
 refine T_en K0 31 Tryz.func45 ?_
 intro w0 Q hQ
 unfold pt at h
 refine T_su [(0,vp hv),(1,vu wv),(2,vi a),(3,vi i),(4,vu v)]<| ar 0<| T_ed 1 [] []<| ar 1<| T_nd 4 [1,2,3] [(14,vp hv),(15,vu wv),(16,vi a),(17,vi i)]<| T_c (some 18) h ?_;clear h
 rintro e H1 ⟨ra,rb,rfl,h⟩
 refine T_pd [14,15,16,17] [(18,.tuple #[vi ra,vi rb])]<| T_ed 5 [18] [(11,vi ra),(12,vi rb)]<| T_sz<| ar 2<| T_ed 2 [] [(22,.bool (rb !=0))] ?_
 by_cases c1:rb=0
 ·rw[if_pos c1]at h
  refine aI 22 (bne_eq_false_iff_eq.mpr c1)<| T_kt<| ar 4<| T_nd 1 [0,12,22] [(24,vp hv)] ?_
  obtain⟨d,rfl,h⟩:=h
  refine T_nd 2 [24] [(26,vp (some d))] ?_
  obtain⟨x,q3,h⟩:=h
  refine T_l1 27 51 q3 [26]<| T_nd 2 [4,11] [(28,vi ra),(29,vu v)]<| T_c (some 30) h ?_;clear h
  rintro f H2 ⟨b,rfl,h⟩
  refine⟨[(30,vi b)],pk,?_⟩
  exact T_nr 1 [10] [vi b] hQ h
 rw[if_neg c1]at h
 exact aH 22 (bne_iff_ne.mpr c1)<| ar 3<| T_nr 2 [10] [vi rb] hQ h
end gS

/-! (*moraine/obj.Heap).More -/
namespace eF
def K0:=Func.code Tryz.f53
end eF
def eF.pt(hv:zY)(wv:Int)(H:zW)(R:zv):Prop:=
 cH.C hv wv H (λv H1=> ∃(ra rb rc rd:Int) (re:Bool),v=.tuple #[.int .i64 ra,.int .i64 rb,.int .i64 rc,.int .u64 rd,.bool re]/\
 R (.int .u64 rd) H1)
namespace eF
theorem link{hv:zY}{wv:Int}{H:zW}{R:zv}(h:pt hv wv H R):C hv wv H R:=by
 refine T_en K0 20 Tryz.func53 ?_
 intro w0 Q hQ
 unfold pt at h
 refine T_su [(0,vp hv),(1,vu wv)]<| ar 0<| T_ed 1 [] []<| ar 1<| T_n 2 [(11,vp hv),(12,vu wv)]<| T_c (some 13) h ?_;clear h
 rintro v H1 ⟨ra,rb,rc,rd,re,rfl,h⟩
 refine⟨[(13,.tuple #[vi ra,vi rb,vi rc,vu rd,.bool re])],pk,?_⟩
 exact T_ne 11 [(8,vu rd)]<| ar 2<| T_nr 2 [4] [vu rd] hQ h
end eF

/-! (*moraine/obj.Heap).object -/
namespace cH
def K0:=Func.code Tryz.f59
def K2:=cb K0
def K3:=ca K2
def K6:=cb K3
def K7:=ca K6
def K8:=ca K7
end cH
def cH.pt(hv:zY)(wv:Int)(H:zW)(R:zv):Prop:=
 ∃(I9:zw) (m9:Int->zW->Nat),I9 0 H/\ ∀(a:Int) (H1:zW),I9 a H1->
 if a<2 then(
 ∃x:Int,((0<=a/\a< (2:Int))/\(#[.int .i64 2,.int .i64 3]:Array Value)[Int.toNat a]?=some (.int .i64 x))/\
 gG.C hv wv 3 x H1 (λv H2=> ∃(ra:Int) (rb:Bool),v=.tuple #[.int .i64 ra,.bool rb]/\
 if rb=true then(
 ∃e:Addr,hv=some e/\
 ∃ai:zY,hat H2 e=some (.pointer ai)/\
 ∃ac:Addr,ai=some ac/\
 ∃ae:zY,hat H2 ac=some (.pointer ae)/\
 ∃aa:Addr,ae=some aa/\
 ∃y:zY,hat H2 aa=some (.pointer y)/\
 fQ.C y ra H2 (λak H3=> ∃p aj:Int,ak=.tuple #[.int .u64 p,.int .i64 aj]/\
 iF.C p H3 (λan H4=> ∃(f d rc:Int) (rd:Bool),an=.tuple #[.int .i64 f,.int .i64 d,.int .u64 rc,.bool rd]/\
 ∃ab:zY,hat H4 e=some (.pointer ab)/\
 ∃ag:Addr,ab=some ag/\
 ∃ah:zY,hat H4 ag=some (.pointer ah)/\
 ∃af:Addr,ah=some af/\
 ∃z:zY,hat H4 af=some (.pointer z)/\
 fF.C z (zq (Int.tdiv ra 64)) H4 (λal H5=> ∃(o m r i k j l:Int) (s:Bool),al=.tuple #[.agg #[.int .i64 o,.int .i64 m,.int .i64 r,.int .i64 i,.int .i64 k,.int .i64 j,.int .i64 l],.bool s]/\
 ∀(b:Nat) (H6:zW),b=H5.size->H6=H5.push (.cells #[.int .i64 0,.int .i64 0,.int .i64 0,.int .i64 0,.int .i64 0,.int .i64 0,.int .i64 0] 79)->
 (aJ H6 (ad b) 0 7)/\ ∀H7,H7=aP H6 (ad b) [.int .i64 o,.int .i64 m,.int .i64 r,.int .i64 i,.int .i64 k,.int .i64 j,.int .i64 l] 0->
 if rd=true then(
 jo.C f H7 (λam H8=> ∃u:Int,am=.int .i64 u/\
 if u=x then(
 ∃q:Int,hat H8 ((ad b).add 2)=some (.int .i64 q)/\
 if(zq ((Int.tmod ra 64)+d))<q then(
 R (.tuple #[.int .i64 ra,.int .i64 f,.int .i64 d,.int .u64 rc,.bool true]) H8)
 else
 (I9 (zq (a+1)) H8/\m9 (zq (a+1)) H8<m9 a H1))
 else
 (I9 (zq (a+1)) H8/\m9 (zq (a+1)) H8<m9 a H1)))
 else
 (I9 (zq (a+1)) H7/\m9 (zq (a+1)) H7<m9 a H1)))))
 else
 (I9 (zq (a+1)) H2/\m9 (zq (a+1)) H2<m9 a H1)))
 else
 R (.tuple #[.int .i64 0,.int .i64 0,.int .i64 0,.int .u64 0,.bool false]) H1
namespace cH
theorem link{hv:zY}{wv:Int}{H:zW}{R:zv}(h:pt hv wv H R):C hv wv H R:=by
 refine T_en K0 87 Tryz.func59 ?_
 intro w0 Q hQ
 unfold pt zq at h
 refine T_su [(0,vp hv),(1,vu wv)]<| ar 0<| T_ed 5 [] []<| T_sz<| ar 1<| T_ed 2 [] [(15,.agg #[vi 2,vi 3]),(16,vi 0)]<| T_bz 0 ?_
 obtain⟨I9,m9,i1,i2⟩:=h
 refine dS (x:=K8) (σ:=Int) (λs_=> [(0,vp hv),(1,vu wv),(15,.agg #[vi 2,vi 3]),(16,vi s_)]) (λs_ H=>I9 s_ H) (λs_ H=>m9 s_ H) (0:Int) (by kernel_rfl) i1 sk ?_
 rintro a H1 i3
 have h:=i2 a H1 i3
 refine T_su [(0,vp hv),(1,vu wv),(15,.agg #[vi 2,vi 3]),(16,vi a)]<| ar 2<| T_ed 1 [] [(17,.bool (decide (a<2)))]<| T_sz ?_
 by_cases c4:a<2
 ·rw[if_pos c4]at h
  refine aH 17 (zQ c4)<| T_kt<| T_sz<| T_bz 1<| ar 3<| T_ud [17] [] ?_
  obtain⟨x,q6,h⟩:=h
  refine T_v1 18 (pR 171 (.agg #[vi 2,vi 3]) (vi a)) (vi x) (λw _=>nZ (P:=Tryz.prog) (t:=171) (elem:=3) (n:=2) Tryz.underlying171 (λ_=>by kernel_rfl) (λ_=>by kernel_rfl) q6.1.1 q6.1.2 q6.2 w) []<| T_ed 1 [18] [(10,vi x)]<| T_sz<| ar 4<| T_nd 3 [] [(20,vp hv),(21,vu wv),(22,vi x)]<| T_c (some 23) h ?_;clear h
  rintro v H2 ⟨ra,rb,rfl,h⟩
  refine T_pd [20,21,22] [(23,.tuple #[vi ra,.bool rb])]<| T_ed 5 [23] [(4,vi ra),(8,.bool rb)]<| ar 5<| T_ed 2 [8] [(27,.bool (!rb))] ?_
  by_cases c7:rb=true
  ·rw[if_pos c7]at h
   refine aI 27 (congrArg Bool.not (c7))<| T_kt<| ar 6<| T_nd 1 [27] [(29,vp hv)] ?_
   obtain⟨e,rfl,h⟩:=h
   refine T_nd 2 [0,29] [(0,vp (some e)),(31,vp (some e))] ?_
   obtain⟨ai,q9,h⟩:=h
   refine T_l1 32 51 q9 [31] ?_
   obtain⟨ac,rfl,h⟩:=h
   refine T_nd 2 [32] [(34,vp (some ac))] ?_
   obtain⟨ae,q10,h⟩:=h
   refine T_l1 35 55 q10 [34] ?_
   obtain⟨aa,rfl,h⟩:=h
   refine T_nd 2 [35] [(37,vp (some aa))] ?_
   obtain⟨y,q11,h⟩:=h
   refine T_l1 38 58 q11 [37]<| T_nd 1 [] [(39,vi ra)]<| T_c (some 40) h ?_;clear h
   rintro ak H3 ⟨p,aj,rfl,h⟩
   refine T_pd [38,39] [(40,.tuple #[vu p,vi aj])]<| T_ed 5 [40] [(11,vu p)]<| ar 7<| T_nd 1 [11] [(44,vu p)]<| T_c (some 45) h ?_;clear h
   rintro an H4 ⟨f,d,rc,rd,rfl,h⟩
   refine T_pd [44] [(45,.tuple #[vi f,vi d,vu rc,.bool rd])]<| T_ed 9 [45] [(5,vi f),(6,vi d),(7,vu rc),(8,.bool rd)]<| ar 8<| T_nd 3 [] [(53,vp (some e))] ?_
   obtain⟨ab,q12,h⟩:=h
   refine T_l1 54 51 q12 [53] ?_
   obtain⟨ag,rfl,h⟩:=h
   refine T_nd 2 [54] [(56,vp (some ag))] ?_
   obtain⟨ah,q13,h⟩:=h
   refine T_l1 57 55 q13 [56] ?_
   obtain⟨af,rfl,h⟩:=h
   refine T_nd 2 [57] [(59,vp (some af))] ?_
   obtain⟨z,q14,h⟩:=h
   refine T_l1 60 58 q14 [59]<| T_nd 2 [] [(62,vi (zq (Int.tdiv ra 64)))]<| T_c (some 63) h ?_;clear h
   rintro al H5 ⟨o,m,r,i,k,j,l,s,rfl,h⟩
   refine T_pd [60,62] [(63,.tuple #[.agg #[vi o,vi m,vi r,vi i,vi k,vi j,vi l],.bool s])]<| T_nd 3 [63] [(64,.agg #[vi o,vi m,vi r,vi i,vi k,vi j,vi l]),(65,.bool s)]<| T_nw (some 13) (λb=>vp (pa b)) (.cells #[vi 0,vi 0,vi 0,vi 0,vi 0,vi 0,vi 0] 79) ?_
   intro b H6 e15 e16
   replace h:=h b H6 e15 e16
   refine T_pd [] [(13,vp (pa b))] ?_
   obtain⟨q18,h⟩:=h
   refine bX 79 [vi o,vi m,vi r,vi i,vi k,vi j,vi l] q18 ?_
   intro H7 e17
   replace h:=h H7 e17
   refine T_pd [64] []<| T_ed 1 [65] []<| ar 9<| T_nd 2 [8] [(67,.bool rd)] ?_
   by_cases c19:rd=true
   ·rw[if_pos c19]at h
    refine N_bd 67 c19<| T_nd 1 [] [(68,vi f)] ?_
    refine T_c (some 69) h ?_;clear h
    rintro am H8 ⟨u,rfl,h⟩
    refine T_pd [68] [(69,vi u)]<| T_nd 4 [10,67,69] [(73,.bool (u==x))] ?_
    by_cases c21:u=x
    ·rw[if_pos c21]at h
     refine N_bd 73 (zV c21)<| T_nd 5 [13] [(77,vi (zq ((Int.tmod ra 64)+d))),(78,vp (some ((ad b).add 2)))] ?_
     obtain⟨q,q23,h⟩:=h
     refine T_l1 79 3 q23 [78]<| T_ed 2 [73,77,79] [(81,.bool (decide ((zq ((Int.tmod ra 64)+d))<q)))] ?_
     by_cases c24:(zq ((Int.tmod ra 64)+d))<q
     ·rw[if_pos c24]at h
      exact aH 81 (zQ c24)<| ar 10<| T_nr 9 [4,5,6,7,8] [vi ra,vi f,vi d,vu rc,.bool true] hQ h
     rw[if_neg c24]at h
     exact aI 81 (zJ c24)<| T_k<| aL<| aE<| T_rz 11<| T_ed 2 [4,5,6,7,16,81] [(16,vi (zq (a+1)))]<| bG ((zq (a+1)):Int) sk h
    rw[if_neg c21]at h
    refine N_bd 73 (zK c21)<| T_ed 8 [13,73] [(81,.bool false)]<| T_fz 81<| T_k ?_
    exact aL<| aE<| T_rz 11<| T_ed 2 [4,5,6,7,16,81] [(16,vi (zq (a+1)))]<| bG ((zq (a+1)):Int) sk h
   rw[if_neg c19]at h
   refine N_bd 67 (zZ c19)<| T_ed 14 [10,13,67] [(81,.bool false)]<| T_fz 81<| T_k ?_
   exact aL<| aE<| T_rz 11<| T_ed 2 [4,5,6,7,16,81] [(16,vi (zq (a+1)))]<| bG ((zq (a+1)):Int) sk h
  rw[if_neg c7]at h
  exact aH 27 (congrArg Bool.not (zZ c7))<| zk 1<| aD<| aR<| aE<| T_rz 11<| T_ed 2 [4,10,16,27] [(16,vi (zq (a+1)))]<| bG ((zq (a+1)):Int) sk h
 rw[if_neg c4]at h
 exact aI 17 (zJ c4)<| zk 0<| aD<| aD<| aR<| aE<| ar 12<| T_nr 5 [4,5,6,7,8] [vi 0,vi 0,vi 0,vu 0,.bool false] hQ h
end cH

/-! (*moraine/obj.Heap).field -/
namespace fJ
def K0:=Func.code Tryz.f67
end fJ
def fJ.pt(hv:zY)(wv a i:Int)(H:zW)(R:zv):Prop:=
 cH.C hv wv H (λv H1=> ∃(ra rb rc rd:Int) (re:Bool),v=.tuple #[.int .i64 ra,.int .i64 rb,.int .i64 rc,.int .u64 rd,.bool re]/\
 if((!re) || (rb !=a))=true then(
 R (.tuple #[.int .i64 0,.int .i64 3]) H1)
 else
 if((decide (i<0)) || (decide (i>=rc)))=true then(
 R (.tuple #[.int .i64 0,.int .i64 4]) H1)
 else
 R (.tuple #[.int .i64 (zq ((zq (ra+1))+i)),.int .i64 0]) H1)
namespace fJ
theorem link{hv:zY}{wv a i:Int}{H:zW}{R:zv}(h:pt hv wv a i H R):C hv wv a i H R:=by
 refine T_en K0 44 Tryz.func67 ?_
 intro w0 Q hQ
 unfold pt zq at h
 refine T_su [(0,vp hv),(1,vu wv),(2,vi a),(3,vi i)]<| ar 0<| T_ed 2 [] []<| ar 1<| T_nd 2 [0,1] [(16,vp hv),(17,vu wv)]<| T_c (some 18) h ?_;clear h
 rintro v H1 ⟨ra,rb,rc,rd,re,rfl,h⟩
 refine T_pd [16,17] [(18,.tuple #[vi ra,vi rb,vi rc,vu rd,.bool re])]<| T_ed 11 [18] [(10,vi ra),(11,vi rb),(12,vi rc),(14,.bool re)]<| T_sz<| T_bz 0<| ar 2 ?_
 refine gp [(3,vi i),(10,vi ra),(12,vi rc),(24,.bool ((!re) || (rb !=a)))] ?_ ?_
 ·refine aE ?_
  by_cases c3:((!re) || (rb !=a))=true
  ·rw[if_pos c3]at h
   exact aH 24 c3<| ar 3<| T_nr 2 [8,9] [vi 0,vi 3] hQ h
  rw[if_neg c3]at h
  refine aI 24 (zZ c3)<| ar 4 ?_
  refine gp [(3,vi i),(10,vi ra),(32,.bool ((decide (i<0)) || (decide (i>=rc))))] ?_ ?_
  ·refine aE ?_
   by_cases c7:((decide (i<0)) || (decide (i>=rc)))=true
   ·rw[if_pos c7]at h
    exact aH 32 c7<| ar 5<| T_nr 2 [8,9] [vi 0,vi 4] hQ h
   rw[if_neg c7]at h
   exact aI 32 (zZ c7)<| T_k<| aL<| aE<| ar 6<| T_nr 6 [8,9] [vi (zq ((zq (ra+1))+i)),vi 0] hQ h
  intro hk
  refine T_n 3 [(3,vi i),(10,vi ra),(12,vi rc),(35,.bool (decide (i<0)))] ?_
  by_cases c5:i<0
  ·have b6:(decide (i<0))=true:=zQ c5
   refine bV [(3,vi i),(10,vi ra),(12,vi rc),(35,.bool true)] (by rw[b6]) ?_
   refine T_nd 5 [12,35] [(32,.bool true)]<| zx<| S_bd 32 (b:=true) (v:=((decide (i<0)) || (decide (i>=rc)))) (by simp only[b6,BL]) ?_
   exact hk
  have b6:(decide (i<0))=false:=zJ c5
  refine bV [(3,vi i),(10,vi ra),(12,vi rc),(35,.bool false)] (by rw[b6]) ?_
  refine T_nd 5 [12,35] [(32,.bool (decide (i>=rc)))]<| zx<| S_bd 32 (b:=(decide (i>=rc))) (v:=((decide (i<0)) || (decide (i>=rc)))) (by simp only[b6,BL]) ?_
  exact hk
 intro hk
 refine T_n 3 [(2,vi a),(3,vi i),(10,vi ra),(11,vi rb),(12,vi rc),(27,.bool (!re))] ?_
 by_cases c1:re=true
 ·have b2:(!re)=false:=congrArg Bool.not (c1)
  have b22:re=true:=c1
  refine bV [(2,vi a),(3,vi i),(10,vi ra),(11,vi rb),(12,vi rc),(27,.bool false)] (by simp only[b2,b22,Bool.not_true,Bool.not_false]) ?_
  refine T_nd 5 [2,11,27] [(24,.bool (rb !=a))]<| zx<| S_bd 24 (b:=(rb !=a)) (v:=((!re) || (rb !=a))) (by simp only[b2,BL]) ?_
  exact hk
 have b2:(!re)=true:=congrArg Bool.not (zZ c1)
 have b22:re=false:=zZ c1
 refine bV [(2,vi a),(3,vi i),(10,vi ra),(11,vi rb),(12,vi rc),(27,.bool true)] (by simp only[b2,b22,Bool.not_true,Bool.not_false]) ?_
 refine T_nd 5 [2,11,27] [(24,.bool true)]<| zx<| S_bd 24 (b:=true) (v:=((!re) || (rb !=a))) (by simp only[b2,BL]) ?_
 exact hk
end fJ

/-! moraine/obj.raw -/
namespace jo
def K0:=Func.code Tryz.f78
end jo
def jo.pt(a:Int)(H:zW)(R:zv):Prop:=
 if((a==2) || (a==3))=true then(
 R (.int .i64 3) H)
 else
 R (.int .i64 2) H
namespace jo
theorem link{a:Int}{H:zW}{R:zv}(h:pt a H R):C a H R:=by
 refine T_en K0 9 Tryz.func78 ?_
 intro w0 Q hQ
 unfold pt at h
 refine T_su [(0,vi a)]<| ar 0<| T_ed 1 [] []<| T_sz<| ar 1 ?_
 refine gp [(8,.bool ((a==2) || (a==3)))] ?_ ?_
 ·refine aE ?_
  by_cases c3:((a==2) || (a==3))=true
  ·rw[if_pos c3]at h
   exact aH 8 c3<| ar 2<| T_nr 1 [2] [vi 3] hQ h
  rw[if_neg c3]at h
  exact aI 8 (zZ c3)<| T_kt<| ar 3<| T_nr 1 [2] [vi 2] hQ h
 intro hk
 refine T_n 3 [(0,vi a),(5,.bool (a==2))] ?_
 by_cases c1:a=2
 ·have b2:(a==2)=true:=zV c1
  refine bV [(0,vi a),(5,.bool true)] (by rw[b2]) ?_
  refine T_n 3 [(8,.bool true)]<| zx<| eT [(8,.bool ((a==2) || (a==3)))] (by simp only[b2,BL]) ?_
  exact hk
 have b2:(a==2)=false:=zK c1
 refine bV [(0,vi a),(5,.bool false)] (by rw[b2]) ?_
 refine T_n 3 [(8,.bool (a==3))]<| zx<| eT [(8,.bool ((a==2) || (a==3)))] (by simp only[b2,BL]) ?_
 exact hk
end jo

/-! (*moraine/obj.Heap).at -/
namespace gG
def K0:=Func.code Tryz.f102
end gG
def gG.pt(hv:zY)(wv j a:Int)(H:zW)(R:zv):Prop:=
 io.C wv H (λv H1=> ∃(ra:Int) (rb:Bool),v=.tuple #[.int .i64 ra,.bool rb]/\
 eR.C hv H1 (λaa H2=> ∃x:Bool,aa=.bool x/\
 if x=true then(
 R (.tuple #[.int .i64 0,.bool false]) H2)
 else
 if rb=true then(
 hN.C wv H2 (λac H3=> ∃q:Int,ac=.int .i64 q/\
 if q=j then(
 ∃z:Addr,hv=some z/\
 ∃u:zY,hat H3 z=some (.pointer u)/\
 ∃s:Addr,u=some s/\
 ∃t:zY,hat H3 s=some (.pointer t)/\
 ∃y:Addr,t=some y/\
 ∃r:zY,hat H3 y=some (.pointer r)/\
 fF.C r (zq (Int.tdiv ra 64)) H3 (λab H4=> ∃(m l p d f e i:Int) (k:Bool),ab=.tuple #[.agg #[.int .i64 m,.int .i64 l,.int .i64 p,.int .i64 d,.int .i64 f,.int .i64 e,.int .i64 i],.bool k]/\
 ∀(b:Nat) (H5:zW),b=H4.size->H5=H4.push (.cells #[.int .i64 0,.int .i64 0,.int .i64 0,.int .i64 0,.int .i64 0,.int .i64 0,.int .i64 0] 79)->
 (aJ H5 (ad b) 0 7)/\ ∀H6,H6=aP H5 (ad b) [.int .i64 m,.int .i64 l,.int .i64 p,.int .i64 d,.int .i64 f,.int .i64 e,.int .i64 i] 0->
 if k=true then(
 ∃n:Int,hat H6 ((ad b).add 1)=some (.int .i64 n)/\
 if n=a then(
 ∃o:Int,hat H6 ((ad b).add 2)=some (.int .i64 o)/\
 R (.tuple #[.int .i64 ra,.bool (decide ((Int.tmod ra 64)<o))]) H6)
 else
 R (.tuple #[.int .i64 ra,.bool false]) H6)
 else
 R (.tuple #[.int .i64 ra,.bool false]) H6))
 else
 R (.tuple #[.int .i64 0,.bool false]) H3))
 else
 R (.tuple #[.int .i64 0,.bool false]) H2))
namespace gG
theorem link{hv:zY}{wv j a:Int}{H:zW}{R:zv}(h:pt hv wv j a H R):C hv wv j a H R:=by
 refine T_en K0 61 Tryz.func102 ?_
 intro w0 Q hQ
 unfold pt zq at h
 refine T_su [(0,vp hv),(1,vu wv),(2,vi j),(3,vi a)]<| ar 0<| T_ed 2 [] []<| ar 1<| T_nd 1 [] [(14,vu wv)]<| T_c (some 15) h ?_;clear h
 rintro v H1 ⟨ra,rb,rfl,h⟩
 refine T_pd [14] [(15,.tuple #[vi ra,.bool rb])]<| T_ed 5 [15] [(10,vi ra),(11,.bool rb)]<| T_sz<| ar 2<| T_nd 1 [] [(18,vp hv)]<| T_c (some 19) h ?_;clear h
 rintro aa H2 ⟨x,rfl,h⟩
 refine T_pd [18] [(19,.bool x)]<| T_nd 1 [19] [(20,.bool x)] ?_
 by_cases c1:x=true
 ·rw[if_pos c1]at h
  exact N_bd 20 c1<| T_ed 9 [1,2,11,20] [(29,.bool true)]<| T_tz 29<| ar 3<| T_nr 2 [8,9] [vi 0,.bool false] hQ h
 rw[if_neg c1]at h
 refine N_bd 20 (zZ c1)<| T_nd 4 [11,20] [(24,.bool (!rb))] ?_
 by_cases c3:rb=true
 ·rw[if_pos c3]at h
  have b4:(!rb)=false:=congrArg Bool.not (c3)
  have b42:rb=true:=c3
  refine N_bd 24 (b:=(!rb)) (v:=false) (by simp only[b4,b42,Bool.not_true,Bool.not_false]) ?_
  clear b4 b42
  refine T_nd 1 [1] [(25,vu wv)]<| T_c (some 26) h ?_;clear h
  rintro ac H3 ⟨q,rfl,h⟩
  refine T_pd [25] [(26,vi q)]<| T_ed 3 [2,24,26] [(29,.bool (q !=j))] ?_
  by_cases c5:q=j
  ·rw[if_pos c5]at h
   refine aI 29 (bne_eq_false_iff_eq.mpr c5)<| T_kt<| ar 4<| T_nd 1 [0,29] [(31,vp hv)] ?_
   obtain⟨z,rfl,h⟩:=h
   refine T_nd 2 [31] [(33,vp (some z))] ?_
   obtain⟨u,q7,h⟩:=h
   refine T_l1 34 51 q7 [33] ?_
   obtain⟨s,rfl,h⟩:=h
   refine T_nd 2 [34] [(36,vp (some s))] ?_
   obtain⟨t,q8,h⟩:=h
   refine T_l1 37 55 q8 [36] ?_
   obtain⟨y,rfl,h⟩:=h
   refine T_nd 2 [37] [(39,vp (some y))] ?_
   obtain⟨r,q9,h⟩:=h
   refine T_l1 40 58 q9 [39]<| T_nd 2 [] [(42,vi (zq (Int.tdiv ra 64)))]<| T_c (some 43) h ?_;clear h
   rintro ab H4 ⟨m,l,p,d,f,e,i,k,rfl,h⟩
   refine T_pd [40,42] [(43,.tuple #[.agg #[vi m,vi l,vi p,vi d,vi f,vi e,vi i],.bool k])]<| T_nd 3 [43] [(44,.agg #[vi m,vi l,vi p,vi d,vi f,vi e,vi i]),(45,.bool k)]<| T_nw (some 12) (λb=>vp (pa b)) (.cells #[vi 0,vi 0,vi 0,vi 0,vi 0,vi 0,vi 0] 79) ?_
   intro b H5 e10 e11
   replace h:=h b H5 e10 e11
   refine T_pd [] [(12,vp (pa b))] ?_
   obtain⟨q13,h⟩:=h
   refine bX 79 [vi m,vi l,vi p,vi d,vi f,vi e,vi i] q13 ?_
   intro H6 e12
   replace h:=h H6 e12
   refine T_pd [44] []<| T_ed 1 [45] [(11,.bool k)]<| T_sz<| ll 5<| T_q1 46 (vi ra) []<| T_q1 47 (.bool k) [11]<| T_q1 48 (.bool k) [47] ?_
   by_cases c14:k=true
   ·rw[if_pos c14]at h
    refine Q_bd 48 c14<| T_q1 49 (vp (some ((ad b).add 1))) [] ?_
    obtain⟨n,q16,h⟩:=h
    refine iL (some 50) 3 q16 [49] [(50,vi n)]<| T_q1 51 (vi a) [3]<| T_q1 52 (.bool (n==a)) [50,51]<| T_q1 53 (.bool (n==a)) [48,52]<| T_q1 54 (.bool (n==a)) [53] ?_
    by_cases c17:n=a
    ·rw[if_pos c17]at h
     refine Q_bd 54 (zV c17)<| T_q1 55 (vi ra) [10]<| T_q1 56 (vi (Int.tmod ra 64)) [55]<| T_q1 57 (vp (some ((ad b).add 2))) [12] ?_
     obtain⟨o,q19,h⟩:=h
     exact iL (some 58) 3 q19 [57] [(58,vi o)]<| T_q1 59 (.bool (decide ((Int.tmod ra 64)<o))) [56,58]<| T_q1 60 (.bool (decide ((Int.tmod ra 64)<o))) [54,59]<| T_q1 8 (vi ra) [46]<| T_q1 9 (.bool (decide ((Int.tmod ra 64)<o))) [60]<| jp [(8,vi ra),(9,.bool (decide ((Int.tmod ra 64)<o)))] sk<| T_qe<| ie [8,9] [vi ra,.bool (decide ((Int.tmod ra 64)<o))] hQ h
    rw[if_neg c17]at h
    refine Q_bd 54 (zK c17)<| T_q1 55 (undef) [10]<| T_q1 56 (undef) [55]<| T_q1 57 (undef) [12]<| T_q1 58 (undef) [57]<| T_q1 59 (undef) [56,58]<| T_q1 60 (.bool false) [54,59]<| T_q1 8 (vi ra) [46]<| T_q1 9 (.bool false) [60] ?_
    refine jp [(8,vi ra),(9,.bool false)] sk ?_
    exact T_qe<| ie [8,9] [vi ra,.bool false] hQ h
   rw[if_neg c14]at h
   refine Q_bd 48 (zZ c14)<| T_q1 49 (undef) []<| T_q1 50 (undef) [49]<| T_q1 51 (undef) [3]<| T_q1 52 (undef) [50,51]<| T_q1 53 (.bool false) [48,52]<| T_q1 54 (.bool false) [53]<| T_q1 55 (undef) [10]<| T_q1 56 (undef) [55] ?_
   exact T_q1 57 (undef) [12]<| T_q1 58 (undef) [57]<| T_q1 59 (undef) [56,58]<| T_q1 60 (.bool false) [54,59]<| T_q1 8 (vi ra) [46]<| T_q1 9 (.bool false) [60]<| jp [(8,vi ra),(9,.bool false)] sk<| T_qe<| ie [8,9] [vi ra,.bool false] hQ h
  rw[if_neg c5]at h
  exact aH 29 (bne_iff_ne.mpr c5)<| ar 3<| T_nr 2 [8,9] [vi 0,.bool false] hQ h
 rw[if_neg c3]at h
 have b4:(!rb)=true:=congrArg Bool.not (zZ c3)
 have b42:rb=false:=zZ c3
 refine N_bd 24 (b:=(!rb)) (v:=true) (by simp only[b4,b42,Bool.not_true,Bool.not_false]) ?_
 clear b4 b42
 exact T_ed 5 [1,2,24] [(29,.bool true)]<| T_tz 29<| ar 3<| T_nr 2 [8,9] [vi 0,.bool false] hQ h
end gG

