/- Printed: what each function asks, and that it is sound. -/
import Derived.Test.YtihdffpekpnglaaGreatFnsC
set_option linter.unusedSimpArgs false
set_option linter.unusedVariables false
set_option maxRecDepth 100000
set_option maxHeartbeats 1000000
noncomputable section
namespace Go.Proofs.YtihdffpekpnglaaGreat
open Go
/-! (*moraine/obj.Heap).Copy -/
namespace gt
def K0:=Func.code Tryz.f8
def K2:=cb K0
def K4:=cb K2
def K11:=ca K4
end gt
def gt.pt(hv:zY)(H:zW)(R:zv):Prop:=
 gk hv (
 R (.pointer none) H) (λa=>
 ∃x:zY,hat H a=some (.pointer x)/\
 ∃(xB:zY) (xN xC:Nat),hat H (a.add 1)=some (.slice xB xN xC)/\
 ∃(f:zY) (d e:Nat),hat H (a.add 2)=some (.slice f d e)/\
 ∃i:Int,hat H (a.add 3)=some (.int .u64 i)/\
 fP.C x H (λv H1=> ∃p:zY,v=.pointer p/\aG H1 (a.add 1) 0 [.slice xB xN xC]/\aG H1 (a.add 2) 0 [.slice f d e]/\aG H1 (a.add 3) 0 [.int .u64 i]/\
 bH.C xB xN xC H1 (λq H2=> ∃(j:zY) (k l:Nat),q=.slice j k l/\aG H2 (a.add 2) 0 [.slice f d e]/\aG H2 (a.add 3) 0 [.int .u64 i]/\
 aX.C f d e H2 (λr H3=> ∃(n:zY) (o m:Nat),r=.slice n o m/\aG H3 (a.add 3) 0 [.int .u64 i]/\
 ∀(b:Nat) (H4:zW),b=H3.size->H4=H3.push (.cells #[.pointer p,.slice j k l,.slice n o m,.int .u64 i] 54)->
 R (.pointer (some (ad b))) H4))))
namespace gt
theorem link{hv:zY}{H:zW}{R:zv}(h:pt hv H R):C hv H R:=by
 refine T_en K0 26 Tryz.func8 ?_
 intro w0 Q hQ
 unfold pt at h
 refine T_su [(0,vp hv)]<| ar 0<| T_ed 1 [] []<| T_sz<| ar 1<| T_nd 1 [] [(3,vp hv)] ?_
 rcases hv with _ | a
 ·rw[onPtr_none]at h
  exact T_ne 1 [(0,vp none),(4,.bool true)]<| T_tz 4<| ar 2<| T_nr 1 [2] [vp none] hQ h
 rw[onPtr_some]at h
 refine T_ne 1 [(0,vp (some a)),(4,.bool false)]<| T_fz 4<| T_kt<| T_sz ?_
 obtain⟨x,q1,xB,xN,xC,q2,f,d,e,q3,i,q4,h⟩:=h
 refine yq 3 (Code.ops K11) [(4,a,[vp x]),(9,(a.add 1),[vs xB xN xC]),(14,(a.add 2),[vs f d e]),(20,(a.add 3),[vu i])] 22 (bv 22 0) (show aK _ _ _ from⟨⟨q1,trivial⟩,⟨q2,trivial⟩,⟨q3,trivial⟩,⟨q4,trivial⟩,trivial⟩)<| T_gp 0 (some 5) (vp (some a)) (bv 22 1) [(0,vp (some a)),(5,vp (some a))]<| aF 1 6 (vp (some a)) (bv 22 3) [5]<| aF 2 7 (vp (some a)) (bv 22 7) [6]<| T_g1 3 8 (vp x) (bv 22 15) [7] (aT 51 (vp (some a))) (yY 4 yX)<| aF 5 10 (vp (some a)) (bv 22 47) []<| aF 6 11 (vp (some a)) (bv 22 111) [10]<| aF 7 12 (vp (some (a.add 1))) (bv 22 239) [11]<| T_g1 8 13 (vs xB xN xC) (bv 22 495) [12] (aT 31 (vp (some (a.add 1)))) (yY 9 yQ)<| aF 10 15 (vp (some a)) (bv 22 1519) []<| aF 11 16 (vp (some a)) (bv 22 3567) [15]<| aF 12 17 (vp (some (a.add 2))) (bv 22 7663) [16]<| T_g1 13 18 (vs f d e) (bv 22 15855) [17] (aT 52 (vp (some (a.add 2)))) (yY 14 yJ)<| aF 15 20 (vp (some a)) (bv 22 48623) [0]<| aF 16 21 (vp (some a)) (bv 22 114159) [20]<| aF 17 22 (vp (some (a.add 3))) (bv 22 245231) [21]<| T_g1 18 23 (vu i) (bv 22 507375) [22] (aT 32 (vp (some (a.add 3)))) (yY 20 yK)<| yx 4 (some 9) (bv 22 507391) 28 #[vp x] h ?_;clear h
 rintro v H1 ⟨p,rfl,f5,f6,f7,h⟩
 refine⟨[(9,vp p),(13,vs xB xN xC),(18,vs f d e),(23,vu i)],pk,(show aK _ _ _ from⟨trivial,f5,f6,f7,trivial⟩),?_⟩
 refine yx 9 (some 14) (bv 22 507903) 29 #[vs xB xN xC] h ?_;clear h
 rintro q H2 ⟨j,k,l,rfl,f8,f9,h⟩
 refine⟨[(9,vp p),(14,vs j k l),(18,vs f d e),(23,vu i)],pk,(show aK _ _ _ from⟨trivial,trivial,f8,f9,trivial⟩),?_⟩
 refine yx 14 (some 19) (bv 22 524287) 30 #[vs f d e] h ?_;clear h
 rintro r H3 ⟨n,o,m,rfl,f10,h⟩
 refine⟨[(9,vp p),(14,vs j k l),(19,vs n o m),(23,vu i)],pk,(show aK _ _ _ from⟨trivial,trivial,trivial,f10,trivial⟩),?_⟩
 refine T_g 19 (some 24) (.agg #[vp p,vs j k l,vs n o m,vu i]) (bv 22 1048575) [(24,.agg #[vp p,vs j k l,vs n o m,vu i])] (pure (.value (.agg #[vp p,vs j k l,vs n o m,vu i])):Sem Next) (λ_ _ _ _ _=>rfl)<| oG 20 (some 25) (bv 22 2097151) (λb=>vp (pa b)) (.cells #[vp p,vs j k l,vs n o m,vu i] 54) (by kernel_rfl) (λ_=>by kernel_rfl) (by kernel_rfl) ?_
 intro b H4 e11 e12
 replace h:=h b H4 e11 e12
 refine⟨[(25,vp (pa b))],pk,(show aK _ _ _ from⟨trivial,trivial,trivial,trivial,trivial⟩),?_⟩
 exact T_g 21 (some 2) (vp (pa b)) (bv 22 4194303) [(2,vp (pa b))] (pure (.value (vp (pa b))):Sem Next) (λ_ _ _ _ _=>rfl)<| eI [(2,vp (pa b))] sk<| yz<| aE<| ie [2] [vp (pa b)] hQ h
end gt

/-! (*moraine/obj.Heap).Next -/
namespace fU
def K0:=Func.code Tryz.f10
end fU
def fU.pt(hv:zY)(H:zW)(R:zv):Prop:=
 eR.C hv H (λv H1=> ∃x:Bool,v=.bool x/\
 if x=true then(
 R (.tuple #[]) H1)
 else
 ∃a:Addr,hv=some a/\
 ∃b:Int,hat H1 (a.add 3)=some (.int .u64 b)/\
 (aJ H1 (a.add 3) 0 1)/\ ∀H2,H2=aP H1 (a.add 3) [.int .u64 (IntKind.wrap .u64 (b+1))] 0->
 R (.tuple #[]) H2)
namespace fU
theorem link{hv:zY}{H:zW}{R:zv}(h:pt hv H R):C hv H R:=by
 refine T_en K0 12 Tryz.func10 ?_
 intro w0 Q hQ
 unfold pt at h
 refine T_su [(0,vp hv)]<| ar 0<| T_nd 1 [] [(2,vp hv)]<| T_c (some 3) h ?_;clear h
 rintro v H1 ⟨x,rfl,h⟩
 refine T_pd [2] [(3,.bool x)]<| T_ed 1 [3] [(4,.bool (!x))] ?_
 by_cases c1:x=true
 ·rw[if_pos c1]at h
  exact aI 4 (congrArg Bool.not (c1))<| T_k<| n9 (fn:=Tryz.f10) [] hQ (show cK _ _ _ [] _ from .nil) h
 rw[if_neg c1]at h
 refine aH 4 (congrArg Bool.not (zZ c1))<| T_rz 1<| T_n 1 [(5,vp hv)] ?_
 obtain⟨a,rfl,h⟩:=h
 refine T_n 2 [(5,vp (some a)),(7,vp (some (a.add 3)))] ?_
 obtain⟨b,q3,h⟩:=h
 refine T_l1 8 32 q3 [7]<| T_n 3 [(9,vu (IntKind.wrap .u64 (b+1))),(11,vp (some (a.add 3)))] ?_
 obtain⟨q5,h⟩:=h
 refine je 32 (vu (IntKind.wrap .u64 (b+1))) q5 ?_
 intro H2 e4
 replace h:=h H2 e4
 refine⟨[],pk,?_⟩
 exact zx<| n9 (fn:=Tryz.f10) [] hQ (show cK _ _ _ [] _ from .nil) h
end fU

/-! (*moraine/obj.Heap).Epoch -/
namespace ga
def K0:=Func.code Tryz.f16
end ga
def ga.pt(hv:zY)(H:zW)(R:zv):Prop:=
 eR.C hv H (λv H1=> ∃x:Bool,v=.bool x/\
 if x=true then(
 R (.int .u64 0) H1)
 else
 ∃b:Addr,hv=some b/\
 ∃a:Int,hat H1 (b.add 3)=some (.int .u64 a)/\
 R (.int .u64 a) H1)
namespace ga
theorem link{hv:zY}{H:zW}{R:zv}(h:pt hv H R):C hv H R:=by
 refine T_en K0 9 Tryz.func16 ?_
 intro w0 Q hQ
 unfold pt at h
 refine T_su [(0,vp hv)]<| ar 0<| T_ed 1 [] []<| T_sz<| ar 1<| T_nd 1 [] [(3,vp hv)]<| T_c (some 4) h ?_;clear h
 rintro v H1 ⟨x,rfl,h⟩
 refine T_pd [3] [(4,.bool x)]<| T_e ?_
 by_cases c1:x=true
 ·rw[if_pos c1]at h
  exact aH 4 c1<| ar 2<| T_nr 1 [2] [vu 0] hQ h
 rw[if_neg c1]at h
 refine aI 4 (zZ c1)<| T_kt<| ar 3<| T_n 1 [(5,vp hv)] ?_
 obtain⟨b,rfl,h⟩:=h
 refine T_n 2 [(7,vp (some (b.add 3)))] ?_
 obtain⟨a,q3,h⟩:=h
 exact T_l1 8 32 q3 [7]<| T_nr 1 [2] [vu a] hQ h
end ga

/-! (*moraine/obj.Heap).Vector -/
namespace dZ
def K0:=Func.code Tryz.f21
end dZ
def dZ.pt(hv:zY)(nv a:Int)(H:zW)(R:zv):Prop:=
 if nv<0 then(
 R (.tuple #[.int .u64 0,.int .i64 4]) H)
 else
 if nv>62 then(
 R (.tuple #[.int .u64 0,.int .i64 6]) H)
 else
 ∀(b:Nat) (H1:zW),b=H.size->H1=H.push (.cells #[.int .u64 a] 33)->
 bA.C (some (ad b)) 1 1 nv H1 (λv H2=> ∃(xB:zY) (xN xC:Nat),v=.slice xB xN xC/\
 dO.C hv 1 0 xB xN xC H2 (λd H3=> ∃ra rb:Int,d=.tuple #[.int .u64 ra,.int .i64 rb]/\
 R (.tuple #[.int .u64 ra,.int .i64 rb]) H3))
namespace dZ
theorem link{hv:zY}{nv a:Int}{H:zW}{R:zv}(h:pt hv nv a H R):C hv nv a H R:=by
 refine T_en K0 22 Tryz.func21 ?_
 intro w0 Q hQ
 unfold pt at h
 refine T_su [(0,vp hv),(1,vi nv),(2,vu a)]<| ar 0<| T_ed 2 [] []<| T_sz<| T_bz 0<| ar 1<| T_ed 3 [] [(8,.bool (decide (nv<0)))] ?_
 by_cases c1:nv<0
 ·rw[if_pos c1]at h
  exact aH 8 (zQ c1)<| ar 2<| T_nr 2 [6,7] [vu 0,vi 4] hQ h
 rw[if_neg c1]at h
 refine aI 8 (zJ c1)<| ar 3<| T_ed 3 [8] [(11,.bool (decide (nv>62)))] ?_
 by_cases c3:nv>62
 ·rw[if_pos c3]at h
  exact aH 11 (zQ c3)<| ar 4<| T_nr 2 [6,7] [vu 0,vi 6] hQ h
 rw[if_neg c3]at h
 refine aI 11 (zJ c3)<| T_k<| aL<| aE<| ar 5<| T_n 2 [(1,vi nv),(14,vp hv),(15,vu a)]<| T_nw (some 16) (λb=>vs (pa b) 1 1) (.cells #[vu a] 33) ?_
 intro b H1 e5 e6
 replace h:=h b H1 e5 e6
 refine T_pd [15] [(16,vs (pa b) 1 1)]<| T_nd 1 [1] [(17,vi nv)]<| T_c (some 18) h ?_;clear h
 rintro v H2 ⟨xB,xN,xC,rfl,h⟩
 refine T_pd [16,17] [(18,vs xB xN xC)]<| T_c (some 19) h ?_;clear h
 rintro d H3 ⟨ra,rb,rfl,h⟩
 refine⟨[(19,.tuple #[vu ra,vi rb])],pk,?_⟩
 exact T_nr 4 [6,7] [vu ra,vi rb] hQ h
end dZ

/-! (*moraine/obj.Heap).String -/
namespace eq
def K0:=Func.code Tryz.f23
def K2:=cb K0
def K4:=cb K2
def K5:=ca K4
def K8:=cb K5
def K9:=ca K8
def K10:=ca K9
end eq
def eq.pt(hv:zY)(s:ByteArray)(H:zW)(R:zv):Prop:=
 ∀(b:Nat) (H1:zW),b=H.size->H1=H.push (.stringIter s 0)->
 ∃(f:zY->Nat->Nat->zW->Prop) (m11:zY->Nat->Nat->zW->Nat),f none 0 0 H1/\ ∀(lB:zY) (lN:Nat) (lC:Nat) (H2:zW),f lB lN lC H2->
 ∃(a:ByteArray) (pos:Nat),H2[b]?=some (.stringIter a pos)/\
 if pos<a.size then(∀H3:zW,H3=iu H2 b (.stringIter a (pos+(Utf8.decode a pos).2))->
 ∀(e:Nat) (H4:zW),e=H3.size->H4=H3.push (.cells #[.int .u64 (IntKind.wrap .u64 ((Utf8.decode a pos).1:Int))] 33)->
 bW 1 33 8 [.int .u64 0] lB lN lC (some (ad e)) 1 H4 (λap d H5=>
 if((lN+1):Int)>62 then(
 R (.tuple #[.int .u64 0,.int .i64 6]) H5)
 else
 (f ap (lN+1) d H5/\m11 ap (lN+1) d H5<m11 lB lN lC H2)))
 else
 dO.C hv 2 0 lB lN lC H2 (λv H6=> ∃ra rb:Int,v=.tuple #[.int .u64 ra,.int .i64 rb]/\
 R (.tuple #[.int .u64 ra,.int .i64 rb]) H6)
namespace eq
theorem link{hv:zY}{s:ByteArray}{H:zW}{R:zv}(h:pt hv s H R):C hv s H R:=by
 refine T_en K0 27 Tryz.func23 ?_
 intro w0 Q hQ
 unfold pt at h
 refine T_su [(0,vp hv),(1,.string s)]<| ar 0<| T_ed 2 [] []<| ar 1<| T_ed 1 [] [(6,vs none 0 0)]<| T_sz<| ar 2<| T_nd 1 [1] [(9,.string s)]<| T_nw (some 10) (λb=>vp (pa b)) (.stringIter s 0) ?_
 intro b H1 e1 e2
 replace h:=h b H1 e1 e2
 refine T_pd [9] [(10,vp (pa b))]<| T_e<| T_bz 0 ?_
 obtain⟨f,m11,i3,i4⟩:=h
 refine dS (x:=K10) (σ:=zY×Nat×Nat) (λs_=> [(0,vp hv),(6,vs s_.1 s_.2.1 s_.2.2),(10,vp (pa b))]) (λs_ H=>f s_.1 s_.2.1 s_.2.2 H) (λs_ H=>m11 s_.1 s_.2.1 s_.2.2 H) ((none,0,0):zY×Nat×Nat) (by kernel_rfl) i3 sk ?_
 rintro⟨lB,lN,lC⟩ H2 i5
 have h:=i4 lB lN lC H2 i5
 refine T_su [(0,vp hv),(6,vs lB lN lC),(10,vp (pa b))]<| ar 3 ?_
 obtain⟨a,pos,q6,h⟩:=h
 by_cases c7:pos<a.size
 ·rw[if_pos c7]at h
  refine N_op (some 11) (nK (vp (pa b)) true 0) _ (λ_=>by kernel_rfl) (sH q6 c7) ?_
  rintro _ H3 ⟨rfl,e12⟩
  replace h:=h H3 (by assumption)
  refine T_pd [] [(11,.tuple #[.bool true,vi pos,.int .i32 ((Utf8.decode a pos).1:Int)])]<| T_ed 1 [] [(12,.bool true)]<| T_sz<| T_tz 12<| T_kt<| T_bz 1<| ar 4<| T_ed 2 [11,12] [(8,.int .i32 ((Utf8.decode a pos).1:Int))]<| ar 5<| T_nd 3 [6,8] [(14,vs lB lN lC),(16,vu (IntKind.wrap .u64 ((Utf8.decode a pos).1:Int)))]<| T_nw (some 17) (λb=>vs (pa b) 1 1) (.cells #[vu (IntKind.wrap .u64 ((Utf8.decode a pos).1:Int))] 33) ?_
  intro e H4 e8 e9
  replace h:=h e H4 e8 e9
  refine T_pd [16] [(17,vs (pa e) 1 1)]<| N_op (some 18) (cS #[31,31] 31 #[vs lB lN lC,vs (pa e) 1 1]) _ (λ_=>by kernel_rfl) (bP (T:=33) (sz:=1) (bytes:=8) (zero:=(vu 0:Value)) Tryz.underlying31 Tryz.underlying31 rfl (show Tryz.prog.info? 33=some Tryz.t33 from by kernel_rfl) (by kernel_rfl) (by kernel_rfl) (by decide) (by kernel_rfl) (by first | exact h | (simpa only[Value.cells,List.toList_toArray]using h))) ?_;clear h
  rintro _ H5 ⟨ap,d,rfl,h⟩
  refine T_pd [14,17] [(18,vs ap (lN+1) d)]<| T_ed 1 [18] [(6,vs ap (lN+1) d)]<| ar 6<| T_ed 3 [] [(21,.bool (decide (((lN+1):Int)>62)))] ?_
  by_cases c10:((lN+1):Int)>62
  ·rw[if_pos c10]at h
   exact aH 21 (zQ c10)<| ar 7<| T_nr 2 [4,5] [vu 0,vi 6] hQ h
  rw[if_neg c10]at h
  exact aI 21 (zJ c10)<| T_k<| aL<| aE<| bG ((ap,(lN+1),d):zY×Nat×Nat) sk h
 rw[if_neg c7]at h
 refine N_op (some 11) (nK (vp (pa b)) true 0) _ (λ_=>by kernel_rfl) (rH q6 c7) ?_
 rintro _ _ ⟨rfl,rfl⟩
 refine T_pd [] [(11,.tuple #[.bool false])]<| T_ed 1 [] [(12,.bool false)]<| T_sz<| T_fz 12<| zk 0<| aD<| aD<| aR<| aE<| ar 8<| T_n 2 [(22,vp hv),(23,vs lB lN lC)]<| T_c (some 24) h ?_;clear h
 rintro v H6 ⟨ra,rb,rfl,h⟩
 refine⟨[(24,.tuple #[vu ra,vi rb])],pk,?_⟩
 exact T_nr 4 [4,5] [vu ra,vi rb] hQ h
end eq

/-! (*moraine/obj.Heap).Text -/
namespace fV
def K0:=Func.code Tryz.f24
def K2:=cb K0
def K4:=cb K2
def K6:=cb K4
def K12:=cb K6
def K13:=ca K12
def K16:=cb K13
def K17:=ca K16
def K18:=ca K17
end fV
def fV.pt(hv:zY)(wv:Int)(H:zW)(R:zv):Prop:=
 fK.C hv wv 2 H (λv H1=> ∃(j:zY) (d e:Nat) (rb:Bool),v=.tuple #[.slice j d e,.bool rb]/\
 if rb=true then(
 ∃(o:zY->Nat->Nat->zw) (m19:zY->Nat->Nat->Int->zW->Nat),o none 0 0 0 H1/\ ∀(sB:zY) (sN:Nat) (sC:Nat) (s21:Int) (H2:zW),o sB sN sC s21 H2->
 if s21< (d:Int)then(
 ∃f:Addr,j=some f/\
 yZ s21 d/\
 ∃x:Int,hat H2 (f.add (Int.toNat s21*1))=some (.int .u64 x)/\
 if x>1114111 then(
 ∀(b:Nat) (H3:zW),b=H2.size->H3=H2.push (.cells #[.int .i32 (IntKind.wrap .i32 65533)] 21)->
 bW 1 21 4 [.int .i32 0] sB sN sC (some (ad b)) 1 H3 (λap n H4=>
 (o ap (sN+1) n (zq (s21+1)) H4/\m19 ap (sN+1) n (zq (s21+1)) H4<m19 sB sN sC s21 H2)))
 else
 ∀(p:Nat) (H5:zW),p=H2.size->H5=H2.push (.cells #[.int .i32 (IntKind.wrap .i32 x)] 21)->
 bW 1 21 4 [.int .i32 0] sB sN sC (some (ad p)) 1 H5 (λm l H6=>
 (o m (sN+1) l (zq (s21+1)) H6/\m19 m (sN+1) l (zq (s21+1)) H6<m19 sB sN sC s21 H2)))
 else
 ∃rs:List Int,(cY H2 sB (rs.map (Value.int .i32))/\(sB≠none->rs.length=sN))/\
 R (.tuple #[.string (il rs),.int .i64 0]) H2)
 else
 R (.tuple #[.string (ByteArray.mk #[]),.int .i64 3]) H1)
namespace fV
theorem link{hv:zY}{wv:Int}{H:zW}{R:zv}(h:pt hv wv H R):C hv wv H R:=by
 refine T_en K0 35 Tryz.func24 ?_
 intro w0 Q hQ
 unfold pt zq at h
 refine T_su [(0,vp hv),(1,vu wv)]<| ar 0<| T_ed 2 [] []<| ar 1<| T_n 2 [(12,vp hv),(13,vu wv)]<| T_c (some 14) h ?_;clear h
 rintro v H1 ⟨j,d,e,rb,rfl,h⟩
 refine⟨[(14,.tuple #[vs j d e,.bool rb])],pk,?_⟩
 refine T_ne 5 [(6,vs j d e),(7,.bool rb)]<| T_sz<| ar 2<| T_ed 2 [7] [(18,.bool (!rb))] ?_
 by_cases c1:rb=true
 ·rw[if_pos c1]at h
  refine aI 18 (congrArg Bool.not (c1))<| T_kt<| ar 4<| T_ed 1 [18] [(8,vs none 0 0)]<| T_sz<| ar 5<| T_ed 3 [6] [(19,vs j d e),(20,vi d),(21,vi 0)]<| T_bz 0 ?_
  obtain⟨o,m19,i3,i4⟩:=h
  refine dS (x:=K18) (σ:=zY×Nat×Nat×Int) (λs_=> [(8,vs s_.1 s_.2.1 s_.2.2.1),(19,vs j d e),(20,vi d),(21,vi s_.2.2.2)]) (λs_ H=>o s_.1 s_.2.1 s_.2.2.1 s_.2.2.2 H) (λs_ H=>m19 s_.1 s_.2.1 s_.2.2.1 s_.2.2.2 H) ((none,0,0,0):zY×Nat×Nat×Int) (by kernel_rfl) i3 sk ?_
  rintro⟨sB,sN,sC,s21⟩ H2 i5
  have h:=i4 sB sN sC s21 H2 i5
  refine T_su [(8,vs sB sN sC),(19,vs j d e),(20,vi d),(21,vi s21)]<| ar 6<| T_ed 1 [] [(22,.bool (decide (s21< (d:Int))))]<| T_sz ?_
  by_cases c6:s21< (d:Int)
  ·rw[if_pos c6]at h
   refine aH 22 (zQ c6)<| T_kt<| T_sz<| T_bz 1<| ar 7<| T_ud [22] [] ?_
   obtain⟨f,rfl,q8,h⟩:=h
   refine T_xd (some 23) 31 33 1 f d e .i64 s21 Tryz.underlying31 q8.1 q8.2 [19] [(19,vs (some f) d e),(23,vp (some (f.add (Int.toNat s21*1))))] ?_
   obtain⟨x,q9,h⟩:=h
   refine T_l1 24 33 q9 [23]<| T_ed 1 [24] [(10,vu x)]<| T_sz<| ar 8<| T_ed 2 [] [(26,.bool (decide (x>1114111)))] ?_
   by_cases c10:x>1114111
   ·rw[if_pos c10]at h
    refine aH 26 (zQ c10)<| T_rz 9<| T_ed 1 [10,26] [(10,vu 65533)]<| T_rz 10<| T_nd 3 [8,10] [(27,vs sB sN sC),(29,.int .i32 (IntKind.wrap .i32 65533))]<| T_nw (some 30) (λb=>vs (pa b) 1 1) (.cells #[.int .i32 (IntKind.wrap .i32 65533)] 21) ?_
    intro b H3 e12 e13
    replace h:=h b H3 e12 e13
    refine T_pd [29] [(30,vs (pa b) 1 1)]<| N_op (some 31) (cS #[137,137] 137 #[vs sB sN sC,vs (pa b) 1 1]) _ (λ_=>by kernel_rfl) (bP (T:=21) (sz:=1) (bytes:=4) (zero:=(.int .i32 0:Value)) Tryz.underlying137 Tryz.underlying137 rfl (show Tryz.prog.info? 21=some Tryz.t21 from by kernel_rfl) (by kernel_rfl) (by kernel_rfl) (by decide) (by kernel_rfl) (by first | exact h | (simpa only[Value.cells,List.toList_toArray]using h))) ?_;clear h
    rintro _ H4 ⟨ap,n,rfl,h⟩
    exact T_pd [27,30] [(31,vs ap (sN+1) n)]<| T_nd 1 [31] [(8,vs ap (sN+1) n)]<| zx<| aL<| aE<| T_rz 11<| T_ed 2 [21] [(21,vi (zq (s21+1)))]<| bG ((ap,(sN+1),n,(zq (s21+1))):zY×Nat×Nat×Int) sk h
   rw[if_neg c10]at h
   refine aI 26 (zJ c10)<| T_kt<| T_rz 10<| T_nd 3 [8,10,26] [(27,vs sB sN sC),(29,.int .i32 (IntKind.wrap .i32 x))]<| T_nw (some 30) (λb=>vs (pa b) 1 1) (.cells #[.int .i32 (IntKind.wrap .i32 x)] 21) ?_
   intro p H5 e14 e15
   replace h:=h p H5 e14 e15
   refine T_pd [29] [(30,vs (pa p) 1 1)]<| N_op (some 31) (cS #[137,137] 137 #[vs sB sN sC,vs (pa p) 1 1]) _ (λ_=>by kernel_rfl) (bP (T:=21) (sz:=1) (bytes:=4) (zero:=(.int .i32 0:Value)) Tryz.underlying137 Tryz.underlying137 rfl (show Tryz.prog.info? 21=some Tryz.t21 from by kernel_rfl) (by kernel_rfl) (by kernel_rfl) (by decide) (by kernel_rfl) (by first | exact h | (simpa only[Value.cells,List.toList_toArray]using h))) ?_;clear h
   rintro _ H6 ⟨m,l,rfl,h⟩
   exact T_pd [27,30] [(31,vs m (sN+1) l)]<| T_nd 1 [31] [(8,vs m (sN+1) l)]<| zx<| aL<| aE<| T_rz 11<| T_ed 2 [21] [(21,vi (zq (s21+1)))]<| bG ((m,(sN+1),l,(zq (s21+1))):zY×Nat×Nat×Int) sk h
  rw[if_neg c6]at h
  refine aI 22 (zJ c6)<| zk 0<| aD<| aD<| aR<| aE<| ar 12<| T_n 1 [(33,vs sB sN sC)] ?_
  obtain⟨rs,q16,h⟩:=h
  exact T_v1 34 (jL 137 9 (vs sB sN sC)) (.string (il rs)) (λw hw=>kO Tryz.underlying137 Tryz.underlying9 Tryz.underlying21 (by rw[hw];exact q16.1) q16.2) [33]<| T_nr 2 [4,5] [.string (il rs),vi 0] hQ h
 rw[if_neg c1]at h
 exact aH 18 (congrArg Bool.not (zZ c1))<| ar 3<| T_nr 2 [4,5] [.string (ByteArray.mk #[]),vi 3] hQ h
end fV

/-! (*moraine/obj.Heap).Int -/
namespace gR
def K0:=Func.code Tryz.f41
def K2:=cb K0
def K4:=cb K2
def K6:=cb K4
def K12:=cb K6
def K22:=cb K12
def K23:=ca K22
def K26:=cb K23
def K27:=ca K26
def K28:=ca K27
end gR
def gR.pt(hv:zY)(ak:Bool)(aa:zY)(z ab:Nat)(H:zW)(R:zv):Prop:=
 ∀(b:Nat) (H1:zW),b=H.size->H1=H.push (.cells #[.bool ak,.slice aa z ab] 39)->
 ∃(af:Bool) (y:zY) (s u:Nat),aG H1 (ad b) 0 [.bool af,.slice y s u]/\
 i0.C af y s u H1 (λv H2=> ∃(m:Bool) (f:zY) (j e:Nat) (rb:Int),v=.tuple #[.agg #[.bool m,.slice f j e],.int .i64 rb]/\
 ∀(d:Nat) (H3:zW),d=H2.size->H3=H2.push (.cells #[.bool false,.slice none 0 0] 39)->
 (aJ H3 (ad d) 0 2)/\ ∀H4,H4=aP H3 (ad d) [.bool m,.slice f j e] 0->
 if rb=0 then(
 ∃(q:Bool) (o:zY) (n p:Nat),aG H4 (ad d) 0 [.bool q,.slice o n p]/\
 jv.C q o n p H4 (λaq H5=> ∃(ra:Int) (r:Bool),aq=.tuple #[.int .i64 ra,.bool r]/\
 if r=true then(
 ja.C ra H5 (λay H6=> ∃ag aj:Int,ay=.tuple #[.int .u64 ag,.int .i64 aj]/\
 R (.tuple #[.int .u64 ag,.int .i64 aj]) H6))
 else
 ∃(xB:zY) (xN xC:Nat),hat H5 ((ad d).add 1)=some (.slice xB xN xC)/\
 ∃(ao:zY->Nat->Nat->zw) (m29:zY->Nat->Nat->Int->zW->Nat),ao none 0 0 0 H5/\ ∀(lB:zY) (lN:Nat) (lC:Nat) (s35:Int) (H7:zW),ao lB lN lC s35 H7->
 if s35< (xN:Int)then(
 ∃l:Addr,xB=some l/\
 yZ s35 xN/\
 ∃x:Int,hat H7 (l.add (Int.toNat s35*1))=some (.int .u32 x)/\
 ∀(an:Nat) (H8:zW),an=H7.size->H8=H7.push (.cells #[.int .u64 (IntKind.wrap .u64 x)] 33)->
 bW 1 33 8 [.int .u64 0] lB lN lC (some (ad an)) 1 H8 (λap am H9=>
 (ao ap (lN+1) am (zq (s35+1)) H9/\m29 ap (lN+1) am (zq (s35+1)) H9<m29 lB lN lC s35 H7)))
 else
 ∃al:Bool,hat H7 (ad d)=some (.bool al)/\
 if al=true then(
 dO.C hv 3 1 lB lN lC H7 (λav au=> ∃ac ai:Int,av=.tuple #[.int .u64 ac,.int .i64 ai]/\
 R (.tuple #[.int .u64 ac,.int .i64 ai]) au))
 else
 dO.C hv 3 0 lB lN lC H7 (λaw ax=> ∃ah ae:Int,aw=.tuple #[.int .u64 ah,.int .i64 ae]/\
 R (.tuple #[.int .u64 ah,.int .i64 ae]) ax)))
 else
 R (.tuple #[.int .u64 0,.int .i64 rb]) H4)
namespace gR
theorem link{hv:zY}{ak:Bool}{aa:zY}{z ab:Nat}{H:zW}{R:zv}(h:pt hv ak aa z ab H R):C hv ak aa z ab H R:=by
 refine T_en K0 53 Tryz.func41 ?_
 intro w0 Q hQ
 unfold pt zq at h
 refine T_su [(0,vp hv),(1,.agg #[.bool ak,vs aa z ab])]<| ar 0<| T_nw (some 3) (λb=>vp (pa b)) (.cells #[.bool ak,vs aa z ab] 39) ?_
 intro b H1 e1 e2
 replace h:=h b H1 e1 e2
 refine T_pd [1] [(3,vp (pa b))]<| T_ed 2 [] []<| ar 1 ?_
 obtain⟨af,y,s,u,q3,h⟩:=h
 refine T_lr 15 39 q3 [3]<| T_c (some 16) h ?_;clear h
 rintro v H2 ⟨m,f,j,e,rb,rfl,h⟩
 refine T_pd [15] [(16,.tuple #[.agg #[.bool m,vs f j e],vi rb])]<| T_nd 3 [16] [(17,.agg #[.bool m,vs f j e]),(18,vi rb)]<| T_nw (some 6) (λb=>vp (pa b)) (.cells #[.bool false,vs none 0 0] 39) ?_
 intro d H3 e4 e5
 replace h:=h d H3 e4 e5
 refine T_pd [] [(6,vp (pa d))] ?_
 obtain⟨q7,h⟩:=h
 refine bX 39 [.bool m,vs f j e] q7 ?_
 intro H4 e6
 replace h:=h H4 e6
 refine T_pd [17] []<| T_ed 1 [18] [(7,vi rb)]<| T_sz<| ar 2<| T_ed 2 [] [(20,.bool (rb !=0))] ?_
 by_cases c8:rb=0
 ·rw[if_pos c8]at h
  refine aI 20 (bne_eq_false_iff_eq.mpr c8)<| T_kt<| T_sz<| ar 4<| T_ud [7,20] [] ?_
  obtain⟨q,o,n,p,q10,h⟩:=h
  refine T_lr 23 39 q10 []<| T_c (some 24) h ?_;clear h
  rintro aq H5 ⟨ra,r,rfl,h⟩
  refine T_pd [23] [(24,.tuple #[vi ra,.bool r])]<| T_ed 5 [24] [(8,vi ra),(9,.bool r)]<| ar 5<| T_ed 1 [9] [(27,.bool r)] ?_
  by_cases c11:r=true
  ·rw[if_pos c11]at h
   refine aH 27 c11<| ar 6<| T_n 1 [(28,vi ra)]<| T_c (some 29) h ?_;clear h
   rintro ay H6 ⟨ag,aj,rfl,h⟩
   refine⟨[(29,.tuple #[vu ag,vi aj])],pk,?_⟩
   exact T_nr 4 [4,5] [vu ag,vi aj] hQ h
  rw[if_neg c11]at h
  refine aI 27 (zZ c11)<| T_kt<| ar 7<| T_ed 1 [8,27] [(10,vs none 0 0)]<| T_sz<| ar 8<| T_nd 1 [] [(32,vp (some ((ad d).add 1)))] ?_
  obtain⟨xB,xN,xC,q13,h⟩:=h
  refine T_l1 33 37 q13 [32]<| T_ed 2 [] [(34,vi xN),(35,vi 0)]<| T_bz 0 ?_
  obtain⟨ao,m29,i14,i15⟩:=h
  refine dS (x:=K28) (σ:=zY×Nat×Nat×Int) (λs_=> [(0,vp hv),(6,vp (pa d)),(10,vs s_.1 s_.2.1 s_.2.2.1),(33,vs xB xN xC),(34,vi xN),(35,vi s_.2.2.2)]) (λs_ H=>ao s_.1 s_.2.1 s_.2.2.1 s_.2.2.2 H) (λs_ H=>m29 s_.1 s_.2.1 s_.2.2.1 s_.2.2.2 H) ((none,0,0,0):zY×Nat×Nat×Int) (by kernel_rfl) i14 sk ?_
  rintro⟨lB,lN,lC,s35⟩ H7 i16
  have h:=i15 lB lN lC s35 H7 i16
  refine T_su [(0,vp hv),(6,vp (pa d)),(10,vs lB lN lC),(33,vs xB xN xC),(34,vi xN),(35,vi s35)]<| ar 9<| T_ed 1 [] [(36,.bool (decide (s35< (xN:Int))))]<| T_sz ?_
  by_cases c17:s35< (xN:Int)
  ·rw[if_pos c17]at h
   refine aH 36 (zQ c17)<| T_kt<| T_sz<| T_bz 1<| ar 10<| T_ud [36] [] ?_
   obtain⟨l,rfl,q19,h⟩:=h
   refine T_xd (some 37) 37 154 1 l xN xC .i64 s35 Tryz.underlying37 q19.1 q19.2 [33] [(33,vs (some l) xN xC),(37,vp (some (l.add (Int.toNat s35*1))))] ?_
   obtain⟨x,q20,h⟩:=h
   refine T_l1 38 154 q20 [37]<| T_ed 1 [38] [(12,.int .u32 x)]<| T_rz 11<| T_nd 3 [10,12] [(39,vs lB lN lC),(41,vu (IntKind.wrap .u64 x))]<| T_nw (some 42) (λb=>vs (pa b) 1 1) (.cells #[vu (IntKind.wrap .u64 x)] 33) ?_
   intro an H8 e21 e22
   replace h:=h an H8 e21 e22
   refine T_pd [41] [(42,vs (pa an) 1 1)]<| N_op (some 43) (cS #[31,31] 31 #[vs lB lN lC,vs (pa an) 1 1]) _ (λ_=>by kernel_rfl) (bP (T:=33) (sz:=1) (bytes:=8) (zero:=(vu 0:Value)) Tryz.underlying31 Tryz.underlying31 rfl (show Tryz.prog.info? 33=some Tryz.t33 from by kernel_rfl) (by kernel_rfl) (by kernel_rfl) (by decide) (by kernel_rfl) (by first | exact h | (simpa only[Value.cells,List.toList_toArray]using h))) ?_;clear h
   rintro _ H9 ⟨ap,am,rfl,h⟩
   exact T_pd [39,42] [(43,vs ap (lN+1) am)]<| T_nd 1 [43] [(10,vs ap (lN+1) am)]<| zx<| aL<| aE<| T_rz 12<| T_ed 2 [35] [(35,vi (zq (s35+1)))]<| bG ((ap,(lN+1),am,(zq (s35+1))):zY×Nat×Nat×Int) sk h
  rw[if_neg c17]at h
  refine aI 36 (zJ c17)<| zk 0<| aD<| aD<| aR<| aE<| ar 13<| T_ed 1 [33,34,35,36] [(13,vu 0)]<| T_sz<| ar 14<| T_nd 1 [6] [(45,vp (pa d))] ?_
  obtain⟨al,q23,h⟩:=h
  refine T_l1 46 4 q23 [45]<| T_e ?_
  by_cases c24:al=true
  ·rw[if_pos c24]at h
   refine aH 46 c24<| T_rz 15<| T_ed 1 [13,46] [(13,vu 1)]<| ar 16<| T_n 3 [(47,vp hv),(48,vu 1),(49,vs lB lN lC)]<| T_c (some 50) h ?_;clear h
   rintro av au ⟨ac,ai,rfl,h⟩
   refine⟨[(50,.tuple #[vu ac,vi ai])],pk,?_⟩
   exact T_nr 4 [4,5] [vu ac,vi ai] hQ h
  rw[if_neg c24]at h
  refine aI 46 (zZ c24)<| T_kt<| ar 16<| T_n 3 [(47,vp hv),(48,vu 0),(49,vs lB lN lC)]<| T_c (some 50) h ?_;clear h
  rintro aw ax ⟨ah,ae,rfl,h⟩
  refine⟨[(50,.tuple #[vu ah,vi ae])],pk,?_⟩
  exact T_nr 4 [4,5] [vu ah,vi ae] hQ h
 rw[if_neg c8]at h
 exact aH 20 (bne_iff_ne.mpr c8)<| ar 3<| T_nr 3 [4,5] [vu 0,vi rb] hQ h
end gR

/-! (*moraine/obj.Heap).Num -/
namespace gT
def K0:=Func.code Tryz.f56
def K2:=cb K0
def K4:=cb K2
def K14:=cb K4
def K16:=cb K14
def K22:=cb K16
def K23:=ca K22
def K26:=cb K23
def K27:=ca K26
def K28:=ca K27
end gT
def gT.pt(hv:zY)(wv:Int)(H:zW)(R:zv):Prop:=
 ∀(b:Nat) (H1:zW),b=H.size->H1=H.push (.cells #[.bool false,.slice none 0 0] 39)->
 jb.C wv H1 (λv H2=> ∃(ra:Int) (rb:Bool),v=.tuple #[.int .i64 ra,.bool rb]/\
 if rb=true then(
 kc.C ra H2 (λbh H3=> ∃(aw:Bool) (ac:zY) (aa ab:Nat),bh=.agg #[.bool aw,.slice ac aa ab]/\
 (aJ H3 (ad b) 0 2)/\ ∀H4,H4=aP H3 (ad b) [.bool aw,.slice ac aa ab] 0->
 ∃(a8:Bool) (a5:zY) (a3 a4:Nat),aG H4 (ad b) 0 [.bool a8,.slice a5 a3 a4]/\
 R (.tuple #[.agg #[.bool a8,.slice a5 a3 a4],.int .i64 0]) H4))
 else
 fK.C hv wv 3 H2 (λbk H5=> ∃(n:zY) (d j:Nat) (y:Bool),bk=.tuple #[.slice n d j,.bool y]/\
 if y=true then(
 eF.C hv wv H5 (λbj H6=> ∃x:Int,bj=.int .u64 x/\
 ∀(e:Nat) (H7:zW),e=H6.size->H7=H6.push (.cells #[.bool false,.slice none 0 0] 39)->
 (aJ H7 (ad e) 0 2)/\ ∀H8,H8=aP H7 (ad e) [.bool (x==1),.slice none 0 0] 0->
 ∃(bc:zw) (m29:Int->zW->Nat),bc 0 H8/\ ∀(f:Int) (H9:zW),bc f H9->
 if f< (d:Int)then(
 ∃l:Addr,n=some l/\
 yZ f d/\
 ∃av:Int,hat H9 (l.add (Int.toNat f*1))=some (.int .u64 av)/\
 ∃(xB:zY) (xN xC:Nat),hat H9 ((ad e).add 1)=some (.slice xB xN xC)/\
 ∀(a7:Nat) (H10:zW),a7=H9.size->H10=H9.push (.cells #[.int .u32 (IntKind.wrap .u32 av)] 154)->
 bW 1 154 4 [.int .u32 0] xB xN xC (some (ad a7)) 1 H10 (λap a6 bg=>
 (aJ bg ((ad e).add 1) 0 1)/\ ∀bb,bb=aP bg ((ad e).add 1) [.slice ap (xN+1) a6] 0->
 (bc (zq (f+1)) bb/\m29 (zq (f+1)) bb<m29 f H9)))
 else
 ∃(z:Bool) (s:zY) (r u:Nat),aG H9 (ad e) 0 [.bool z,.slice s r u]/\
 jw.C z s r u H9 (λbl a9=> ∃au:Bool,bl=.bool au/\
 if au=true then(
 eF.C hv wv a9 (λbi a2=> ∃a1:Int,bi=.int .u64 a1/\
 if a1>1 then(
 (aJ a2 (ad b) 0 2)/\ ∀ba,ba=aP a2 (ad b) [.bool false,.slice none 0 0] 0->
 ∃(az:Bool) (ao:zY) (aj ah:Nat),aG ba (ad b) 0 [.bool az,.slice ao aj ah]/\
 R (.tuple #[.agg #[.bool az,.slice ao aj ah],.int .i64 3]) ba)
 else
 ∃(q:Bool) (m:zY) (o p:Nat),aG a2 (ad e) 0 [.bool q,.slice m o p]/\
 (aJ a2 (ad b) 0 2)/\ ∀be,be=aP a2 (ad b) [.bool q,.slice m o p] 0->
 ∃(ax:Bool) (aq:zY) (af ak:Nat),aG be (ad b) 0 [.bool ax,.slice aq af ak]/\
 R (.tuple #[.agg #[.bool ax,.slice aq af ak],.int .i64 0]) be))
 else
 (aJ a9 (ad b) 0 2)/\ ∀bf,bf=aP a9 (ad b) [.bool false,.slice none 0 0] 0->
 ∃(a0:Bool) (al:zY) (ai ae:Nat),aG bf (ad b) 0 [.bool a0,.slice al ai ae]/\
 R (.tuple #[.agg #[.bool a0,.slice al ai ae],.int .i64 3]) bf)))
 else
 (aJ H5 (ad b) 0 2)/\ ∀bd,bd=aP H5 (ad b) [.bool false,.slice none 0 0] 0->
 ∃(ay:Bool) (ag:zY) (an am:Nat),aG bd (ad b) 0 [.bool ay,.slice ag an am]/\
 R (.tuple #[.agg #[.bool ay,.slice ag an am],.int .i64 3]) bd))
namespace gT
theorem link{hv:zY}{wv:Int}{H:zW}{R:zv}(h:pt hv wv H R):C hv wv H R:=by
 refine T_en K0 60 Tryz.func56 ?_
 intro w0 Q hQ
 unfold pt zq at h
 refine T_su [(0,vp hv),(1,vu wv)]<| ar 0<| T_nw (some 4) (λb=>vp (pa b)) (.cells #[.bool false,vs none 0 0] 39) ?_
 intro b H1 e1 e2
 replace h:=h b H1 e1 e2
 refine T_pd [] [(4,vp (pa b))]<| T_ed 1 [] []<| T_sz<| ar 1<| T_nd 1 [] [(14,vu wv)]<| T_c (some 15) h ?_;clear h
 rintro v H2 ⟨ra,rb,rfl,h⟩
 refine T_pd [14] [(15,.tuple #[vi ra,.bool rb])]<| T_ed 5 [15] [(6,vi ra),(7,.bool rb)]<| ar 2<| T_ed 1 [7] [(18,.bool rb)] ?_
 by_cases c3:rb=true
 ·rw[if_pos c3]at h
  refine aH 18 c3<| ar 3<| T_n 1 [(4,vp (pa b)),(19,vi ra)]<| T_c (some 20) h ?_;clear h
  rintro bh H3 ⟨aw,ac,aa,ab,rfl,h⟩
  refine T_pd [19] [(20,.agg #[.bool aw,vs ac aa ab])] ?_
  obtain⟨q6,h⟩:=h
  refine bX 39 [.bool aw,vs ac aa ab] q6 ?_
  intro H4 e5
  replace h:=h H4 e5
  refine T_pd [20] []<| T_ed 1 [] [(5,vi 0)]<| zz ?_
  show At _ _ _ _ _ (Q .ret)
  obtain⟨a8,a5,a3,a4,q7,h⟩:=h
  exact cP (fn:=Tryz.f56) [.agg #[.bool a8,vs a5 a3 a4],vi 0] hQ (show cK _ _ _ [.cell 4 39,.tmp 5] _ from .cell (by kernel_rfl) (aQ (λ_=>by kernel_rfl) (λ_=>by kernel_rfl) q7) (.tmp (by kernel_rfl) (.nil))) h
 rw[if_neg c3]at h
 refine aI 18 (zZ c3)<| T_kt<| ar 4<| T_nd 2 [6,18] [(22,vp hv),(23,vu wv)]<| T_c (some 24) h ?_;clear h
 rintro bk H5 ⟨n,d,j,y,rfl,h⟩
 refine T_pd [22,23] [(24,.tuple #[vs n d j,.bool y])]<| T_ed 5 [24] [(8,vs n d j),(9,.bool y)]<| T_sz<| ar 5<| T_ed 2 [9] [(28,.bool (!y))] ?_
 by_cases c8:y=true
 ·rw[if_pos c8]at h
  refine aI 28 (congrArg Bool.not (c8))<| T_kt<| ar 7<| T_nd 2 [28] [(30,vp hv),(31,vu wv)]<| T_c (some 32) h ?_;clear h
  rintro bj H6 ⟨x,rfl,h⟩
  refine T_pd [30,31] [(32,vu x)]<| T_nd 2 [32] [(34,.agg #[.bool (x==1),vs none 0 0])]<| T_nw (some 10) (λb=>vp (pa b)) (.cells #[.bool false,vs none 0 0] 39) ?_
  intro e H7 e10 e11
  replace h:=h e H7 e10 e11
  refine T_pd [] [(10,vp (pa e))] ?_
  obtain⟨q13,h⟩:=h
  refine bX 39 [.bool (x==1),vs none 0 0] q13 ?_
  intro H8 e12
  replace h:=h H8 e12
  refine T_pd [34] []<| T_e<| T_sz<| ar 8<| T_ed 3 [8] [(35,vs n d j),(36,vi d),(37,vi 0)]<| T_bz 0 ?_
  obtain⟨bc,m29,i14,i15⟩:=h
  refine dS (x:=K28) (σ:=Int) (λs_=> [(0,vp hv),(1,vu wv),(4,vp (pa b)),(10,vp (pa e)),(35,vs n d j),(36,vi d),(37,vi s_)]) (λs_ H=>bc s_ H) (λs_ H=>m29 s_ H) (0:Int) (by kernel_rfl) i14 sk ?_
  rintro f H9 i16
  have h:=i15 f H9 i16
  refine T_su [(0,vp hv),(1,vu wv),(4,vp (pa b)),(10,vp (pa e)),(35,vs n d j),(36,vi d),(37,vi f)]<| ar 9<| T_ed 1 [] [(38,.bool (decide (f< (d:Int))))]<| T_sz ?_
  by_cases c17:f< (d:Int)
  ·rw[if_pos c17]at h
   refine aH 38 (zQ c17)<| T_kt<| T_sz<| T_bz 1<| ar 10<| T_ud [38] [] ?_
   obtain⟨l,rfl,q19,h⟩:=h
   refine T_xd (some 39) 31 33 1 l d j .i64 f Tryz.underlying31 q19.1 q19.2 [35] [(35,vs (some l) d j),(39,vp (some (l.add (Int.toNat f*1))))] ?_
   obtain⟨av,q20,h⟩:=h
   refine T_l1 40 33 q20 [39]<| T_ed 1 [40] [(12,vu av)]<| T_rz 11<| T_nd 1 [] [(41,vp (some ((ad e).add 1)))] ?_
   obtain⟨xB,xN,xC,q21,h⟩:=h
   refine T_l1 42 37 q21 [41]<| T_nd 2 [12] [(44,.int .u32 (IntKind.wrap .u32 av))]<| T_nw (some 45) (λb=>vs (pa b) 1 1) (.cells #[.int .u32 (IntKind.wrap .u32 av)] 154) ?_
   intro a7 H10 e22 e23
   replace h:=h a7 H10 e22 e23
   refine T_pd [44] [(45,vs (pa a7) 1 1)]<| N_op (some 46) (cS #[37,37] 37 #[vs xB xN xC,vs (pa a7) 1 1]) _ (λ_=>by kernel_rfl) (bP (T:=154) (sz:=1) (bytes:=4) (zero:=(.int .u32 0:Value)) Tryz.underlying37 Tryz.underlying37 rfl (show Tryz.prog.info? 154=some Tryz.t154 from by kernel_rfl) (by kernel_rfl) (by kernel_rfl) (by decide) (by kernel_rfl) (by first | exact h | (simpa only[Value.cells,List.toList_toArray]using h))) ?_;clear h
   rintro _ bg ⟨ap,a6,rfl,h⟩
   refine T_pd [42,45] [(46,vs ap (xN+1) a6)]<| T_nd 1 [] [(47,vp (some ((ad e).add 1)))] ?_
   obtain⟨q25,h⟩:=h
   refine je 37 (vs ap (xN+1) a6) q25 ?_
   intro bb e24
   replace h:=h bb e24
   exact T_pd [46,47] []<| zx<| aL<| aE<| T_rz 12<| T_ed 2 [37] [(37,vi (zq (f+1)))]<| bG ((zq (f+1)):Int) sk h
  rw[if_neg c17]at h
  refine aI 38 (zJ c17)<| zk 0<| aD<| aD<| aR<| aE<| T_sz<| ar 13<| T_ud [35,36,37,38] [] ?_
  obtain⟨z,s,r,u,q26,h⟩:=h
  refine T_lr 49 39 q26 []<| T_c (some 50) h ?_;clear h
  rintro bl a9 ⟨au,rfl,h⟩
  refine T_pd [49] [(50,.bool au)]<| T_nd 2 [50] [(52,.bool (!au))] ?_
  by_cases c27:au=true
  ·rw[if_pos c27]at h
   have b28:(!au)=false:=congrArg Bool.not (c27)
   have b282:au=true:=c27
   refine N_bd 52 (b:=(!au)) (v:=false) (by simp only[b28,b282,Bool.not_true,Bool.not_false]) ?_
   clear b28 b282
   refine T_nd 2 [0,1] [(53,vp hv),(54,vu wv)]<| T_c (some 55) h ?_;clear h
   rintro bi a2 ⟨a1,rfl,h⟩
   refine T_pd [53,54] [(55,vu a1)]<| T_ed 2 [52,55] [(57,.bool (decide (a1>1)))] ?_
   by_cases c29:a1>1
   ·rw[if_pos c29]at h
    refine aH 57 (zQ c29)<| ar 14<| T_nd 1 [10,57] [(58,.agg #[.bool false,vs none 0 0])] ?_
    obtain⟨q32,h⟩:=h
    refine bX 39 [.bool false,vs none 0 0] q32 ?_
    intro ba e31
    replace h:=h ba e31
    refine T_pd [58] []<| T_ed 1 [] [(5,vi 3)]<| zz ?_
    show At _ _ _ _ _ (Q .ret)
    obtain⟨az,ao,aj,ah,q33,h⟩:=h
    exact cP (fn:=Tryz.f56) [.agg #[.bool az,vs ao aj ah],vi 3] hQ (show cK _ _ _ [.cell 4 39,.tmp 5] _ from .cell (by kernel_rfl) (aQ (λ_=>by kernel_rfl) (λ_=>by kernel_rfl) q33) (.tmp (by kernel_rfl) (.nil))) h
   rw[if_neg c29]at h
   refine aI 57 (zJ c29)<| T_kt<| ar 15<| T_ud [57] [] ?_
   obtain⟨q,m,o,p,q34,h⟩:=h
   refine T_lr 59 39 q34 [10] ?_
   obtain⟨q36,h⟩:=h
   refine bX 39 [.bool q,vs m o p] q36 ?_
   intro be e35
   replace h:=h be e35
   refine T_pd [59] []<| T_ed 1 [] [(5,vi 0)]<| zz ?_
   show At _ _ _ _ _ (Q .ret)
   obtain⟨ax,aq,af,ak,q37,h⟩:=h
   exact cP (fn:=Tryz.f56) [.agg #[.bool ax,vs aq af ak],vi 0] hQ (show cK _ _ _ [.cell 4 39,.tmp 5] _ from .cell (by kernel_rfl) (aQ (λ_=>by kernel_rfl) (λ_=>by kernel_rfl) q37) (.tmp (by kernel_rfl) (.nil))) h
  rw[if_neg c27]at h
  have b28:(!au)=true:=congrArg Bool.not (zZ c27)
  have b282:au=false:=zZ c27
  refine N_bd 52 (b:=(!au)) (v:=true) (by simp only[b28,b282,Bool.not_true,Bool.not_false]) ?_
  clear b28 b282
  refine T_ed 5 [0,1,52] [(57,.bool true)]<| T_tz 57<| ar 14<| T_nd 1 [10,57] [(58,.agg #[.bool false,vs none 0 0])] ?_
  obtain⟨q39,h⟩:=h
  refine bX 39 [.bool false,vs none 0 0] q39 ?_
  intro bf e38
  replace h:=h bf e38
  refine T_pd [58] []<| T_ed 1 [] [(5,vi 3)]<| zz ?_
  show At _ _ _ _ _ (Q .ret)
  obtain⟨a0,al,ai,ae,q40,h⟩:=h
  exact cP (fn:=Tryz.f56) [.agg #[.bool a0,vs al ai ae],vi 3] hQ (show cK _ _ _ [.cell 4 39,.tmp 5] _ from .cell (by kernel_rfl) (aQ (λ_=>by kernel_rfl) (λ_=>by kernel_rfl) q40) (.tmp (by kernel_rfl) (.nil))) h
 rw[if_neg c8]at h
 refine aH 28 (congrArg Bool.not (zZ c8))<| ar 6<| T_n 1 [(4,vp (pa b)),(29,.agg #[.bool false,vs none 0 0])] ?_
 obtain⟨q42,h⟩:=h
 refine bX 39 [.bool false,vs none 0 0] q42 ?_
 intro bd e41
 replace h:=h bd e41
 refine T_pd [29] []<| T_ed 1 [] [(5,vi 3)]<| zz ?_
 show At _ _ _ _ _ (Q .ret)
 obtain⟨ay,ag,an,am,q43,h⟩:=h
 exact cP (fn:=Tryz.f56) [.agg #[.bool ay,vs ag an am],vi 3] hQ (show cK _ _ _ [.cell 4 39,.tmp 5] _ from .cell (by kernel_rfl) (aQ (λ_=>by kernel_rfl) (λ_=>by kernel_rfl) q43) (.tmp (by kernel_rfl) (.nil))) h
end gT

/-! (*moraine/obj.Heap).words -/
namespace fK
def K0:=Func.code Tryz.f69
def K2:=cb K0
def K4:=cb K2
def K6:=cb K4
def K14:=cb K6
def K15:=ca K14
def K18:=cb K15
def K19:=ca K18
def K20:=ca K19
end fK
def fK.pt(hv:zY)(wv e:Int)(H:zW)(R:zv):Prop:=
 cH.C hv wv H (λv H1=> ∃(ra rb rc rd:Int) (re:Bool),v=.tuple #[.int .i64 ra,.int .i64 rb,.int .i64 rc,.int .u64 rd,.bool re]/\
 if((!re) || (rb !=e))=true then(
 R (.tuple #[.slice none 0 0,.bool false]) H1)
 else
 0<=rc/\rc<=rc/\8*rc<=2 ^ 48/\rc<=9223372036854775807/\
 ∀(b:Nat) (H2:zW),b=H1.size->H2=H1.push (.cells (Builtin.zeroCells #[.int .u64 0] (Int.toNat rc)) 33)->
 ∃(m:zw) (m21:Int->zW->Nat),m 0 H2/\ ∀(d:Int) (H3:zW),m d H3->
 if d< ((Int.toNat rc):Int)then(
 ∃f:Addr,hv=some f/\
 ∃x:zY,hat H3 f=some (.pointer x)/\
 ∃xA:Addr,x=some xA/\
 ∃o:zY,hat H3 xA=some (.pointer o)/\
 ∃n:Addr,o=some n/\
 ∃l:zY,hat H3 n=some (.pointer l)/\
 fQ.C l (zq ((zq (ra+1))+d)) H3 (λq H4=> ∃j p:Int,q=.tuple #[.int .u64 j,.int .i64 p]/\
 ((0:Int)<=d/\d< ((Int.toNat rc):Int))/\
 (aJ H4 ((ad b).add (Int.toNat d*1)) 0 1)/\ ∀H5,H5=aP H4 ((ad b).add (Int.toNat d*1)) [.int .u64 j] 0->
 (m (zq (d+1)) H5/\m21 (zq (d+1)) H5<m21 d H3)))
 else
 R (.tuple #[.slice (some (ad b)) (Int.toNat rc) (Int.toNat rc),.bool true]) H3)
namespace fK
theorem link{hv:zY}{wv e:Int}{H:zW}{R:zv}(h:pt hv wv e H R):C hv wv e H R:=by
 refine T_en K0 61 Tryz.func69 ?_
 intro w0 Q hQ
 unfold pt zq at h
 refine T_su [(0,vp hv),(1,vu wv),(2,vi e)]<| ar 0<| T_ed 2 [] []<| ar 1<| T_nd 2 [1] [(16,vp hv),(17,vu wv)]<| T_c (some 18) h ?_;clear h
 rintro v H1 ⟨ra,rb,rc,rd,re,rfl,h⟩
 refine T_pd [16,17] [(18,.tuple #[vi ra,vi rb,vi rc,vu rd,.bool re])]<| T_ed 11 [18] [(8,vi ra),(9,vi rb),(10,vi rc),(12,.bool re)]<| T_sz<| ar 2 ?_
 refine gp [(0,vp hv),(8,vi ra),(10,vi rc),(30,.bool ((!re) || (rb !=e)))] ?_ ?_
 ·refine aE ?_
  by_cases c3:((!re) || (rb !=e))=true
  ·rw[if_pos c3]at h
   exact aH 30 c3<| ar 3<| T_nr 2 [6,7] [vs none 0 0,.bool false] hQ h
  rw[if_neg c3]at h
  refine aI 30 (zZ c3)<| T_kt<| ar 4<| T_n 1 [(0,vp hv),(8,vi ra),(31,vi rc)] ?_
  obtain⟨q5,q6,q7,q8,h⟩:=h
  refine N_op (some 32) (jI 31 (vi rc) (vi rc)) (λv Hz=>v=Value.slice (some (Addr.mk H1.size 0 none)) (Int.toNat rc) (Int.toNat rc)/\Hz=H1.push (.cells (Builtin.zeroCells #[vu 0] (Int.toNat rc)) 33)) (λ_=>by kernel_rfl) (oa (T:=33) (zero:=vu 0) Tryz.underlying31 (show Tryz.prog.info? 33=some Tryz.t33 from by kernel_rfl) (by kernel_rfl) q5 q6 q7 q8 (by kernel_rfl) (by decide)) ?_
  rintro _ H2 ⟨rfl,e10⟩
  obtain⟨b,e9⟩: ∃b,b=H1.size:=⟨_,rfl⟩
  replace h:=h b H2 e9 e10
  rw[<-e9]
  refine T_pd [31] [(32,vs (pa b) (Int.toNat rc) (Int.toNat rc))]<| T_ed 1 [32] [(13,vs (pa b) (Int.toNat rc) (Int.toNat rc))]<| T_sz<| ar 5<| T_ed 3 [] [(34,vi ((Int.toNat rc):Int)),(35,vi 0)]<| T_bz 0 ?_
  obtain⟨m,m21,i11,i12⟩:=h
  refine dS (x:=K20) (σ:=Int) (λs_=> [(0,vp hv),(8,vi ra),(13,vs (pa b) (Int.toNat rc) (Int.toNat rc)),(34,vi ((Int.toNat rc):Int)),(35,vi s_)]) (λs_ H=>m s_ H) (λs_ H=>m21 s_ H) (0:Int) (by kernel_rfl) i11 sk ?_
  rintro d H3 i13
  have h:=i12 d H3 i13
  refine T_su [(0,vp hv),(8,vi ra),(13,vs (pa b) (Int.toNat rc) (Int.toNat rc)),(34,vi ((Int.toNat rc):Int)),(35,vi d)]<| ar 6<| T_ed 1 [] [(36,.bool (decide (d< ((Int.toNat rc):Int))))]<| T_sz ?_
  by_cases c14:d< ((Int.toNat rc):Int)
  ·rw[if_pos c14]at h
   refine aH 36 (zQ c14)<| T_kt<| T_sz<| T_bz 1<| ar 7<| T_ed 2 [36] [(14,vi d)]<| T_rz 8<| T_nd 3 [] [(39,vs (pa b) (Int.toNat rc) (Int.toNat rc)),(40,vi d),(41,vp hv)] ?_
   obtain⟨f,rfl,h⟩:=h
   refine T_nd 2 [0,41] [(0,vp (some f)),(43,vp (some f))] ?_
   obtain⟨x,q16,h⟩:=h
   refine T_l1 44 51 q16 [43] ?_
   obtain⟨xA,rfl,h⟩:=h
   refine T_nd 2 [44] [(46,vp (some xA))] ?_
   obtain⟨o,q17,h⟩:=h
   refine T_l1 47 55 q17 [46] ?_
   obtain⟨n,rfl,h⟩:=h
   refine T_nd 2 [47] [(49,vp (some n))] ?_
   obtain⟨l,q18,h⟩:=h
   refine T_l1 50 58 q18 [49]<| T_nd 4 [14] [(54,vi (zq ((zq (ra+1))+d)))]<| T_c (some 55) h ?_;clear h
   rintro q H4 ⟨j,p,rfl,h⟩
   refine T_pd [50,54] [(55,.tuple #[vu j,vi p])]<| T_nd 3 [55] [(56,vu j)] ?_
   obtain⟨q19,h⟩:=h
   refine T_v1 58 (bD 31 (vs (pa b) (Int.toNat rc) (Int.toNat rc)) (vi d)) (vp (some ((ad b).add (Int.toNat d*1)))) (λw _=>bR (P:=Tryz.prog) (t:=31) (elem:=33) (sz:=1) (a:=(ad b)) (len:=(Int.toNat rc)) (cap:=(Int.toNat rc)) (k:=.i64) (i:=d) Tryz.underlying31 (λ_=>by kernel_rfl) q19.1 q19.2 w) [39,40] ?_
   obtain⟨q21,h⟩:=h
   refine je 33 (vu j) q21 ?_
   intro H5 e20
   replace h:=h H5 e20
   exact T_pd [56,58] []<| zx<| aL<| aE<| T_rz 9<| T_ed 2 [35] [(35,vi (zq (d+1)))]<| bG ((zq (d+1)):Int) sk h
  rw[if_neg c14]at h
  exact aI 36 (zJ c14)<| zk 0<| aD<| aD<| aR<| aE<| ar 10<| T_nr 3 [6,7] [vs (pa b) (Int.toNat rc) (Int.toNat rc),.bool true] hQ h
 intro hk
 refine T_n 3 [(0,vp hv),(2,vi e),(8,vi ra),(9,vi rb),(10,vi rc),(26,.bool (!re))] ?_
 by_cases c1:re=true
 ·have b2:(!re)=false:=congrArg Bool.not (c1)
  have b22:re=true:=c1
  refine bV [(0,vp hv),(2,vi e),(8,vi ra),(9,vi rb),(10,vi rc),(26,.bool false)] (by simp only[b2,b22,Bool.not_true,Bool.not_false]) ?_
  refine T_nd 4 [2,9,26] [(30,.bool (rb !=e))]<| zx<| S_bd 30 (b:=(rb !=e)) (v:=((!re) || (rb !=e))) (by simp only[b2,BL]) ?_
  exact hk
 have b2:(!re)=true:=congrArg Bool.not (zZ c1)
 have b22:re=false:=zZ c1
 refine bV [(0,vp hv),(2,vi e),(8,vi ra),(9,vi rb),(10,vi rc),(26,.bool true)] (by simp only[b2,b22,Bool.not_true,Bool.not_false]) ?_
 refine T_nd 4 [2,9,26] [(30,.bool true)]<| zx<| S_bd 30 (b:=true) (v:=((!re) || (rb !=e))) (by simp only[b2,BL]) ?_
 exact hk
end fK

