/- Printed: what each function asks, and that it is sound. -/
import Derived.Test.YtihdffpekpnglaaGreatFnsC
set_option linter.unusedSimpArgs false
set_option linter.unusedVariables false
set_option maxRecDepth 100000
set_option maxHeartbeats 1000000
noncomputable section
namespace Go.Proofs.YtihdffpekpnglaaGreat
open Go
/-! moraine/moraineref10.New -/
namespace eV
def K0:=Func.code Tryz.f7
end eV
def eV.pt(a:Int)(H:zW)(R:zv):Prop:=
 eW.C a H (λv H1=> ∃x:zY,v=.pointer x/\
 gk x (
 R (.pointer none) H1) (λxA=>
 ∀(b:Nat) (H2:zW),b=H1.size->H2=H1.push (.cells #[.pointer (some xA),.int .u64 0] 71)->
 R (.pointer (some (ad b))) H2))
namespace eV
theorem link{a:Int}{H:zW}{R:zv}(h:pt a H R):C a H R:=by
 refine T_en K0 11 Tryz.func7 ?_
 intro w0 Q hQ
 unfold pt at h
 refine T_su [(0,vi a)]<| ar 0<| T_ed 1 [] []<| ar 1<| T_n 1 [(4,vi a)]<| T_c (some 5) h ?_;clear h
 rintro v H1 ⟨x,rfl,h⟩
 refine⟨[(5,vp x)],pk,?_⟩
 refine T_ne 1 [(3,vp x)]<| T_sz<| ar 2<| T_nd 1 [] [(6,vp x)] ?_
 rcases x with _ | xA
 ·rw[onPtr_none]at h
  exact T_ne 1 [(3,vp none),(7,.bool true)]<| T_tz 7<| ar 3<| T_nr 1 [2] [vp none] hQ h
 rw[onPtr_some]at h
 refine T_ne 1 [(3,vp (some xA)),(7,.bool false)]<| T_fz 7<| T_kt<| ar 4<| T_n 2 [(9,.agg #[vp (some xA),vu 0])]<| T_nw (some 10) (λb=>vp (pa b)) (.cells #[vp (some xA),vu 0] 71) ?_
 intro b H2 e1 e2
 replace h:=h b H2 e1 e2
 refine⟨[(10,vp (pa b))],pk,?_⟩
 exact T_nr 1 [2] [vp (pa b)] hQ h
end eV

/-! (*moraine/moraineref10.Heap).Two -/
namespace cG
def K0:=Func.code Tryz.f34
end cG
def cG.pt(hv:zY)(e:Bool)(d a:Int)(H:zW)(R:zv):Prop:=
 if e=true then(
 ∀(b:Nat) (H1:zW),b=H.size->H1=H.push (.cells #[.int .u64 d,.int .u64 a] 33)->
 bF.C hv 1 2 (some (ad b)) 2 2 H1 (λv H2=> ∃ra rb:Int,v=.tuple #[.int .u64 ra,.int .i64 rb]/\
 R (.tuple #[.int .u64 ra,.int .i64 rb]) H2))
 else
 ∀(j:Nat) (H3:zW),j=H.size->H3=H.push (.cells #[.int .u64 d,.int .u64 a] 33)->
 bF.C hv 0 1 (some (ad j)) 2 2 H3 (λk H4=> ∃f i:Int,k=.tuple #[.int .u64 f,.int .i64 i]/\
 R (.tuple #[.int .u64 f,.int .i64 i]) H4)
namespace cG
theorem link{hv:zY}{e:Bool}{d a:Int}{H:zW}{R:zv}(h:pt hv e d a H R):C hv e d a H R:=by
 refine T_en K0 25 Tryz.func34 ?_
 intro w0 Q hQ
 unfold pt at h
 refine T_su [(0,vp hv),(1,.bool e),(2,vu d),(3,vu a)]<| ar 0<| T_ed 2 [] []<| T_sz<| ar 1<| T_ed 1 [1] [(10,.bool e)] ?_
 by_cases c1:e=true
 ·rw[if_pos c1]at h
  refine aH 10 c1<| ar 2<| T_n 3 [(11,vp hv),(12,vu d),(13,vu a)]<| T_nw (some 14) (λb=>vs (pa b) 2 2) (.cells #[vu d,vu a] 33) ?_
  intro b H1 e3 e4
  replace h:=h b H1 e3 e4
  refine T_pd [12,13] [(14,vs (pa b) 2 2)]<| T_c (some 15) h ?_;clear h
  rintro v H2 ⟨ra,rb,rfl,h⟩
  refine⟨[(15,.tuple #[vu ra,vi rb])],pk,?_⟩
  exact T_nr 4 [8,9] [vu ra,vi rb] hQ h
 rw[if_neg c1]at h
 refine aI 10 (zZ c1)<| T_kt<| ar 3<| T_n 3 [(18,vp hv),(19,vu d),(20,vu a)]<| T_nw (some 21) (λb=>vs (pa b) 2 2) (.cells #[vu d,vu a] 33) ?_
 intro j H3 e5 e6
 replace h:=h j H3 e5 e6
 refine T_pd [19,20] [(21,vs (pa j) 2 2)]<| T_c (some 22) h ?_;clear h
 rintro k H4 ⟨f,i,rfl,h⟩
 refine⟨[(22,.tuple #[vu f,vi i])],pk,?_⟩
 exact T_nr 4 [8,9] [vu f,vi i] hQ h
end cG

/-! (*moraine/moraineref10.Heap).Make -/
namespace aY
def K0:=Func.code Tryz.f38
end aY
def aY.pt(hv:zY)(a d:Int)(lB:zY)(lN lC:Nat)(H:zW)(R:zv):Prop:=
 if(((decide (a<1)) || (decide (a>13))) || (decide (d>=281474976710656)))=true then(
 R (.tuple #[.int .u64 0,.int .i64 1]) H)
 else
 if(lN:Int)>62 then(
 R (.tuple #[.int .u64 0,.int .i64 6]) H)
 else
 dE.C 5 a (lN:Int) 0 d H (λv H1=> ∃x:Int,v=.int .u64 x/\
 ∀(b:Nat) (H2:zW),b=H1.size->H2=H1.push (.cells #[.int .u64 x] 33)->
 bW 1 33 8 [.int .u64 0] (some (ad b)) 1 1 lB lN H2 (λap e H3=>
 if((a==2) || (a==3))=true then(
 bF.C hv 3 3 ap (1+lN) e H3 (λj H4=> ∃ra rb:Int,j=.tuple #[.int .u64 ra,.int .i64 rb]/\
 R (.tuple #[.int .u64 ra,.int .i64 rb]) H4))
 else
 bF.C hv 2 3 ap (1+lN) e H3 (λk H5=> ∃f i:Int,k=.tuple #[.int .u64 f,.int .i64 i]/\
 R (.tuple #[.int .u64 f,.int .i64 i]) H5)))
namespace aY
theorem link{hv:zY}{a d:Int}{lB:zY}{lN lC:Nat}{H:zW}{R:zv}(h:pt hv a d lB lN lC H R):C hv a d lB lN lC H R:=by
 refine T_en K0 50 Tryz.func38 ?_
 intro w0 Q hQ
 unfold pt at h
 refine T_su [(0,vp hv),(1,vi a),(2,vu d),(3,vs lB lN lC)]<| ar 0<| T_ed 2 [] []<| T_sz<| ar 1 ?_
 refine gp [(0,vp hv),(1,vi a),(2,vu d),(3,vs lB lN lC),(20,.bool (((decide (a<1)) || (decide (a>13))) || (decide (d>=281474976710656))))] ?_ ?_
 ·refine aE ?_
  by_cases c5:(((decide (a<1)) || (decide (a>13))) || (decide (d>=281474976710656)))=true
  ·rw[if_pos c5]at h
   exact aH 20 c5<| ar 2<| T_nr 2 [8,9] [vu 0,vi 1] hQ h
  rw[if_neg c5]at h
  refine aI 20 (zZ c5)<| T_kt<| T_sz<| ar 3<| T_ne 3 [(0,vp hv),(1,vi a),(2,vu d),(3,vs lB lN lC),(23,.bool (decide ((lN:Int)>62)))] ?_
  by_cases c7:(lN:Int)>62
  ·rw[if_pos c7]at h
   exact aH 23 (zQ c7)<| ar 4<| T_nr 2 [8,9] [vu 0,vi 6] hQ h
  rw[if_neg c7]at h
  refine aI 23 (zJ c7)<| T_kt<| ar 5<| T_nd 5 [2,23] [(28,.agg #[vi 5,vi a,vi lN,vi 0,vu d])]<| T_c (some 29) h ?_;clear h
  rintro v H1 ⟨x,rfl,h⟩
  refine T_pd [28] [(29,vu x)]<| T_nw (some 30) (λb=>vs (pa b) 1 1) (.cells #[vu x] 33) ?_
  intro b H2 e9 e10
  replace h:=h b H2 e9 e10
  refine T_pd [29] [(30,vs (pa b) 1 1)]<| T_ed 1 [30] [(10,vs (pa b) 1 1)]<| ar 6<| T_nd 2 [3,10] [(31,vs (pa b) 1 1),(32,vs lB lN lC)]<| N_op (some 33) (cS #[31,31] 31 #[vs (pa b) 1 1,vs lB lN lC]) _ (λ_=>by kernel_rfl) (bP (T:=33) (sz:=1) (bytes:=8) (zero:=(vu 0:Value)) Tryz.underlying31 Tryz.underlying31 rfl (show Tryz.prog.info? 33=some Tryz.t33 from by kernel_rfl) (by kernel_rfl) (by kernel_rfl) (by decide) (by kernel_rfl) (by first | exact h | (simpa only[Value.cells,List.toList_toArray]using h))) ?_;clear h
  rintro _ H3 ⟨ap,e,rfl,h⟩
  refine T_pd [31,32] [(33,vs ap (1+lN) e)]<| T_ed 1 [33] [(10,vs ap (1+lN) e)]<| T_sz<| ar 7 ?_
  refine gp [(0,vp hv),(10,vs ap (1+lN) e),(39,.bool ((a==2) || (a==3)))] ?_ ?_
  ·refine aE ?_
   by_cases c13:((a==2) || (a==3))=true
   ·rw[if_pos c13]at h
    refine aH 39 c13<| ar 8<| T_n 2 [(40,vp hv),(41,vs ap (1+lN) e)]<| T_c (some 42) h ?_;clear h
    rintro j H4 ⟨ra,rb,rfl,h⟩
    refine⟨[(42,.tuple #[vu ra,vi rb])],pk,?_⟩
    exact T_nr 4 [8,9] [vu ra,vi rb] hQ h
   rw[if_neg c13]at h
   refine aI 39 (zZ c13)<| T_kt<| ar 9<| T_n 2 [(45,vp hv),(46,vs ap (1+lN) e)]<| T_c (some 47) h ?_;clear h
   rintro k H5 ⟨f,i,rfl,h⟩
   refine⟨[(47,.tuple #[vu f,vi i])],pk,?_⟩
   exact T_nr 4 [8,9] [vu f,vi i] hQ h
  intro hk
  refine T_n 3 [(0,vp hv),(1,vi a),(10,vs ap (1+lN) e),(36,.bool (a==2))] ?_
  by_cases c11:a=2
  ·have b12:(a==2)=true:=zV c11
   refine bV [(0,vp hv),(1,vi a),(10,vs ap (1+lN) e),(36,.bool true)] (by rw[b12]) ?_
   refine T_nd 3 [1,36] [(39,.bool true)]<| zx<| S_bd 39 (b:=true) (v:=((a==2) || (a==3))) (by simp only[b12,BL]) ?_
   exact hk
  have b12:(a==2)=false:=zK c11
  refine bV [(0,vp hv),(1,vi a),(10,vs ap (1+lN) e),(36,.bool false)] (by rw[b12]) ?_
  refine T_nd 3 [1,36] [(39,.bool (a==3))]<| zx<| S_bd 39 (b:=(a==3)) (v:=((a==2) || (a==3))) (by simp only[b12,BL]) ?_
  exact hk
 intro hk
 refine T_n 3 [(0,vp hv),(1,vi a),(2,vu d),(3,vs lB lN lC),(13,.bool (decide (a<1)))] ?_
 by_cases c1:a<1
 ·have b2:(decide (a<1))=true:=zQ c1
  refine bV [(0,vp hv),(1,vi a),(2,vu d),(3,vs lB lN lC),(13,.bool true)] (by rw[b2]) ?_
  refine T_nd 7 [13] [(20,.bool true)]<| zx<| S_bd 20 (b:=true) (v:=(((decide (a<1)) || (decide (a>13))) || (decide (d>=281474976710656)))) (by simp only[b2,BL]) ?_
  exact hk
 have b2:(decide (a<1))=false:=zJ c1
 refine bV [(0,vp hv),(1,vi a),(2,vu d),(3,vs lB lN lC),(13,.bool false)] (by rw[b2]) ?_
 refine T_nd 4 [13] [(17,.bool (decide (a>13)))] ?_
 by_cases c3:a>13
 ·have b4:(decide (a>13))=true:=zQ c3
  refine N_bd 17 b4<| T_nd 3 [17] [(20,.bool true)] ?_
  refine zx<| S_bd 20 (b:=true) (v:=(((decide (a<1)) || (decide (a>13))) || (decide (d>=281474976710656)))) (by simp only[b2,b4,BL]) ?_
  exact hk
 have b4:(decide (a>13))=false:=zJ c3
 refine N_bd 17 b4<| T_nd 3 [17] [(20,.bool (decide (d>=281474976710656)))] ?_
 refine zx<| S_bd 20 (b:=(decide (d>=281474976710656))) (v:=(((decide (a<1)) || (decide (a>13))) || (decide (d>=281474976710656)))) (by simp only[b2,b4,BL]) ?_
 exact hk
end aY

/-! (*moraine/moraineref10.Heap).Vector -/
namespace bY
def K0:=Func.code Tryz.f39
def K2:=cb K0
def K4:=cb K2
def K12:=cb K4
def K20:=cb K12
def K21:=ca K20
def K24:=cb K21
def K25:=ca K24
def K26:=ca K25
end bY
def bY.pt(hv:zY)(nv a:Int)(H:zW)(R:zv):Prop:=
 if nv<0 then(
 R (.tuple #[.int .u64 0,.int .i64 4]) H)
 else
 if nv>62 then(
 R (.tuple #[.int .u64 0,.int .i64 6]) H)
 else
 ∃(e:zY->Nat->Nat->zw) (m27:zY->Nat->Nat->Int->zW->Nat),e none 0 0 0 H/\ ∀(lB:zY) (lN:Nat) (lC:Nat) (i:Int) (H1:zW),e lB lN lC i H1->
 if i<nv then(
 ∀(b:Nat) (H2:zW),b=H1.size->H2=H1.push (.cells #[.int .u64 a] 33)->
 bW 1 33 8 [.int .u64 0] lB lN lC (some (ad b)) 1 H2 (λap d H3=>
 (e ap (lN+1) d (zq (i+1)) H3/\m27 ap (lN+1) d (zq (i+1)) H3<m27 lB lN lC i H1)))
 else
 aY.C hv 1 0 lB lN lC H1 (λv H4=> ∃ra rb:Int,v=.tuple #[.int .u64 ra,.int .i64 rb]/\
 R (.tuple #[.int .u64 ra,.int .i64 rb]) H4)
namespace bY
theorem link{hv:zY}{nv a:Int}{H:zW}{R:zv}(h:pt hv nv a H R):C hv nv a H R:=by
 refine T_en K0 28 Tryz.func39 ?_
 intro w0 Q hQ
 unfold pt zq at h
 refine T_su [(0,vp hv),(1,vi nv),(2,vu a)]<| ar 0<| T_ed 2 [] []<| T_sz<| ar 1<| T_ed 2 [] [(11,.bool (decide (nv<0)))] ?_
 by_cases c1:nv<0
 ·rw[if_pos c1]at h
  exact aH 11 (zQ c1)<| ar 2<| T_nr 2 [6,7] [vu 0,vi 4] hQ h
 rw[if_neg c1]at h
 refine aI 11 (zJ c1)<| T_kt<| T_sz<| ar 3<| T_ed 2 [11] [(13,.bool (decide (nv>62)))] ?_
 by_cases c3:nv>62
 ·rw[if_pos c3]at h
  exact aH 13 (zQ c3)<| ar 4<| T_nr 2 [6,7] [vu 0,vi 6] hQ h
 rw[if_neg c3]at h
 refine aI 13 (zJ c3)<| T_kt<| ar 5<| T_ed 1 [13] [(8,vs none 0 0)]<| T_sz<| ar 6<| T_ed 1 [] [(9,vi 0)]<| T_bz 0 ?_
 obtain⟨e,m27,i5,i6⟩:=h
 refine dS (x:=K26) (σ:=zY×Nat×Nat×Int) (λs_=> [(0,vp hv),(1,vi nv),(2,vu a),(8,vs s_.1 s_.2.1 s_.2.2.1),(9,vi s_.2.2.2)]) (λs_ H=>e s_.1 s_.2.1 s_.2.2.1 s_.2.2.2 H) (λs_ H=>m27 s_.1 s_.2.1 s_.2.2.1 s_.2.2.2 H) ((none,0,0,0):zY×Nat×Nat×Int) (by kernel_rfl) i5 sk ?_
 rintro⟨lB,lN,lC,i⟩ H1 i7
 have h:=i6 lB lN lC i H1 i7
 refine T_su [(0,vp hv),(1,vi nv),(2,vu a),(8,vs lB lN lC),(9,vi i)]<| T_sz<| ar 7<| T_ed 3 [] [(16,.bool (decide (i<nv)))] ?_
 by_cases c8:i<nv
 ·rw[if_pos c8]at h
  refine aH 16 (zQ c8)<| T_kt<| T_sz<| T_bz 1<| T_rz 9<| T_nd 2 [8,16] [(19,vs lB lN lC),(20,vu a)]<| T_nw (some 21) (λb=>vs (pa b) 1 1) (.cells #[vu a] 33) ?_
  intro b H2 e10 e11
  replace h:=h b H2 e10 e11
  refine T_pd [20] [(21,vs (pa b) 1 1)]<| N_op (some 22) (cS #[31,31] 31 #[vs lB lN lC,vs (pa b) 1 1]) _ (λ_=>by kernel_rfl) (bP (T:=33) (sz:=1) (bytes:=8) (zero:=(vu 0:Value)) Tryz.underlying31 Tryz.underlying31 rfl (show Tryz.prog.info? 33=some Tryz.t33 from by kernel_rfl) (by kernel_rfl) (by kernel_rfl) (by decide) (by kernel_rfl) (by first | exact h | (simpa only[Value.cells,List.toList_toArray]using h))) ?_;clear h
  rintro _ H3 ⟨ap,d,rfl,h⟩
  exact T_pd [19,21] [(22,vs ap (lN+1) d)]<| T_nd 1 [22] [(8,vs ap (lN+1) d)]<| zx<| aL<| aE<| T_rz 8<| T_ed 3 [9] [(9,vi (zq (i+1)))]<| bG ((ap,(lN+1),d,(zq (i+1))):zY×Nat×Nat×Int) sk h
 rw[if_neg c8]at h
 refine aI 16 (zJ c8)<| zk 0<| aD<| aD<| aR<| aE<| ar 10<| T_n 2 [(23,vp hv),(24,vs lB lN lC)]<| T_c (some 25) h ?_;clear h
 rintro v H4 ⟨ra,rb,rfl,h⟩
 refine⟨[(25,.tuple #[vu ra,vi rb])],pk,?_⟩
 exact T_nr 4 [6,7] [vu ra,vi rb] hQ h
end bY

/-! (*moraine/moraineref10.Heap).String -/
namespace bZ
def K0:=Func.code Tryz.f40
def K2:=cb K0
def K4:=cb K2
def K6:=cb K4
def K14:=cb K6
def K15:=ca K14
def K18:=cb K15
def K19:=ca K18
def K20:=ca K19
end bZ
def bZ.pt(hv:zY)(s:ByteArray)(H:zW)(R:zv):Prop:=
 dW.C s H (λv H1=> ∃(xB:zY) (xN xC:Nat),v=.slice xB xN xC/\
 if(xN:Int)>62 then(
 R (.tuple #[.int .u64 0,.int .i64 6]) H1)
 else
 ∃(f:zY->Nat->Nat->zw) (m21:zY->Nat->Nat->Int->zW->Nat),f none 0 0 0 H1/\ ∀(lB:zY) (lN:Nat) (lC:Nat) (i:Int) (H2:zW),f lB lN lC i H2->
 if i< (xN:Int)then(
 ∃d:Addr,xB=some d/\
 yZ i xN/\
 ∃x:Int,hat H2 (d.add (Int.toNat i*1))=some (.int .i32 x)/\
 ∀(b:Nat) (H3:zW),b=H2.size->H3=H2.push (.cells #[.int .u64 (IntKind.wrap .u64 x)] 33)->
 bW 1 33 8 [.int .u64 0] lB lN lC (some (ad b)) 1 H3 (λap e H4=>
 (f ap (lN+1) e (zq (i+1)) H4/\m21 ap (lN+1) e (zq (i+1)) H4<m21 lB lN lC i H2)))
 else
 aY.C hv 2 0 lB lN lC H2 (λj H5=> ∃ra rb:Int,j=.tuple #[.int .u64 ra,.int .i64 rb]/\
 R (.tuple #[.int .u64 ra,.int .i64 rb]) H5))
namespace bZ
theorem link{hv:zY}{s:ByteArray}{H:zW}{R:zv}(h:pt hv s H R):C hv s H R:=by
 refine T_en K0 33 Tryz.func40 ?_
 intro w0 Q hQ
 unfold pt zq at h
 refine T_su [(0,vp hv),(1,.string s)]<| ar 0<| T_ed 2 [] []<| ar 1<| T_nd 1 [1] [(9,.string s)]<| T_c (some 10) h ?_;clear h
 rintro v H1 ⟨xB,xN,xC,rfl,h⟩
 refine T_pd [9] [(10,vs xB xN xC)]<| T_ed 1 [10] [(6,vs xB xN xC)]<| T_sz<| ar 2<| T_ed 3 [] [(13,.bool (decide ((xN:Int)>62)))] ?_
 by_cases c1:(xN:Int)>62
 ·rw[if_pos c1]at h
  exact aH 13 (zQ c1)<| ar 3<| T_nr 2 [4,5] [vu 0,vi 6] hQ h
 rw[if_neg c1]at h
 refine aI 13 (zJ c1)<| T_kt<| ar 4<| T_ed 1 [13] [(7,vs none 0 0)]<| T_sz<| ar 5<| T_ed 1 [] [(8,vi 0)]<| T_bz 0 ?_
 obtain⟨f,m21,i3,i4⟩:=h
 refine dS (x:=K20) (σ:=zY×Nat×Nat×Int) (λs_=> [(0,vp hv),(6,vs xB xN xC),(7,vs s_.1 s_.2.1 s_.2.2.1),(8,vi s_.2.2.2)]) (λs_ H=>f s_.1 s_.2.1 s_.2.2.1 s_.2.2.2 H) (λs_ H=>m21 s_.1 s_.2.1 s_.2.2.1 s_.2.2.2 H) ((none,0,0,0):zY×Nat×Nat×Int) (by kernel_rfl) i3 sk ?_
 rintro⟨lB,lN,lC,i⟩ H2 i5
 have h:=i4 lB lN lC i H2 i5
 refine T_su [(0,vp hv),(6,vs xB xN xC),(7,vs lB lN lC),(8,vi i)]<| T_sz<| ar 6<| T_ed 4 [] [(17,.bool (decide (i< (xN:Int))))] ?_
 by_cases c6:i< (xN:Int)
 ·rw[if_pos c6]at h
  refine aH 17 (zQ c6)<| T_kt<| T_sz<| T_bz 1<| T_rz 8<| T_nd 3 [7,17] [(20,vs lB lN lC),(21,vs xB xN xC),(22,vi i)] ?_
  obtain⟨d,rfl,q8,h⟩:=h
  refine T_xd (some 23) 137 21 1 d xN xC .i64 i Tryz.underlying137 q8.1 q8.2 [6,21,22] [(6,vs (some d) xN xC),(23,vp (some (d.add (Int.toNat i*1))))] ?_
  obtain⟨x,q9,h⟩:=h
  refine T_l1 24 21 q9 [23]<| T_nd 1 [24] [(25,vu (IntKind.wrap .u64 x))]<| T_nw (some 26) (λb=>vs (pa b) 1 1) (.cells #[vu (IntKind.wrap .u64 x)] 33) ?_
  intro b H3 e10 e11
  replace h:=h b H3 e10 e11
  refine T_pd [25] [(26,vs (pa b) 1 1)]<| N_op (some 27) (cS #[31,31] 31 #[vs lB lN lC,vs (pa b) 1 1]) _ (λ_=>by kernel_rfl) (bP (T:=33) (sz:=1) (bytes:=8) (zero:=(vu 0:Value)) Tryz.underlying31 Tryz.underlying31 rfl (show Tryz.prog.info? 33=some Tryz.t33 from by kernel_rfl) (by kernel_rfl) (by kernel_rfl) (by decide) (by kernel_rfl) (by first | exact h | (simpa only[Value.cells,List.toList_toArray]using h))) ?_;clear h
  rintro _ H4 ⟨ap,e,rfl,h⟩
  exact T_pd [20,26] [(27,vs ap (lN+1) e)]<| T_nd 1 [27] [(7,vs ap (lN+1) e)]<| zx<| aL<| aE<| T_rz 7<| T_ed 3 [8] [(8,vi (zq (i+1)))]<| bG ((ap,(lN+1),e,(zq (i+1))):zY×Nat×Nat×Int) sk h
 rw[if_neg c6]at h
 refine aI 17 (zJ c6)<| zk 0<| aD<| aD<| aR<| aE<| ar 9<| T_n 2 [(28,vp hv),(29,vs lB lN lC)]<| T_c (some 30) h ?_;clear h
 rintro j H5 ⟨ra,rb,rfl,h⟩
 refine⟨[(30,.tuple #[vu ra,vi rb])],pk,?_⟩
 exact T_nr 4 [4,5] [vu ra,vi rb] hQ h
end bZ

/-! (*moraine/moraineref10.Heap).Int -/
namespace cT
def K0:=Func.code Tryz.f42
def K2:=cb K0
def K4:=cb K2
def K6:=cb K4
def K8:=cb K6
def K13:=ca K8
def K14:=cb K8
def K15:=ca K14
def K16:=cb K14
def K17:=ca K16
def K18:=cb K16
def K20:=cb K17
def K21:=ca K20
def K24:=cb K21
def K25:=ca K24
def K28:=cb K25
def K29:=ca K28
def K30:=ca K29
def K49:=cb K18
def K50:=ca K49
def K53:=cb K50
def K54:=ca K53
def K55:=ca K54
end cT
def cT.pt(hv:zY)(bp:Bool)(bf:zY)(be bg:Nat)(H:zW)(R:zv):Prop:=
 ∀(b:Nat) (H1:zW),b=H.size->H1=H.push (.cells #[.bool bp,.slice bf be bg] 39)->
 ∃(bk:Bool) (bc:zY) (bb bd:Nat),aG H1 (ad b) 0 [.bool bk,.slice bc bb bd]/\
 bK.C bk bc bb bd H1 (λv H2=> ∃(ai:Bool) (ag:zY) (af ah:Nat),v=.agg #[.bool ai,.slice ag af ah]/\
 ∀(e:Nat) (H3:zW),e=H2.size->H3=H2.push (.cells #[.bool false,.slice none 0 0] 157)->
 (aJ H3 (ad e) 0 2)/\ ∀H4,H4=aP H3 (ad e) [.bool ai,.slice ag af ah] 0->
 ∃(az:Bool) (ac:zY) (ae ab:Nat),aG H4 (ad e) 0 [.bool az,.slice ac ae ab]/\
 cQ.C az ac ae ab H4 (λcd H5=> ∃(aj:Bool) (u:zY) (z s:Nat) (rb:Int),cd=.tuple #[.agg #[.bool aj,.slice u z s],.int .i64 rb]/\
 ∀(d:Nat) (H6:zW),d=H5.size->H6=H5.push (.cells #[.bool false,.slice none 0 0] 39)->
 (aJ H6 (ad d) 0 2)/\ ∀H7,H7=aP H6 (ad d) [.bool aj,.slice u z s] 0->
 if rb=0 then(
 ∃(r:Bool) (m:zY) (l p:Nat),aG H7 (ad e) 0 [.bool r,.slice m l p]/\
 eB.C (-1152921504606846976) H7 (λcm H8=> ∃(a9:Bool) (aw:zY) (ax a1:Nat),cm=.agg #[.bool a9,.slice aw ax a1]/\aG H8 (ad e) 0 [.bool r,.slice m l p]/\
 bK.C a9 aw ax a1 H8 (λcj H9=> ∃(a6:Bool) (ak:zY) (an aq:Nat),cj=.agg #[.bool a6,.slice ak an aq]/\aG H9 (ad e) 0 [.bool r,.slice m l p]/\
 eG.C r m l p a6 ak an aq H9 (λcl b5=> ∃x:Int,cl=.int .i64 x/\
 ∃(q:Bool) (f:zY) (o j:Nat),aG b5 (ad e) 0 [.bool q,.slice f o j]/\
 eB.C 1152921504606846976 b5 (λck cc=> ∃(a7:Bool) (ay:zY) (av a0:Nat),ck=.agg #[.bool a7,.slice ay av a0]/\aG cc (ad e) 0 [.bool q,.slice f o j]/\
 bK.C a7 ay av a0 cc (λco b9=> ∃(a3:Bool) (al:zY) (ao am:Nat),co=.agg #[.bool a3,.slice al ao am]/\aG b9 (ad e) 0 [.bool q,.slice f o j]/\
 eG.C q f o j a3 al ao am b9 (λcg b8=> ∃aa:Int,cg=.int .i64 aa/\
 if((decide (x>=0)) && (decide (aa<0)))=true then(
 ∃(b3:Int->zw) (m31:Int->Int->zW->Nat),b3 0 0 b8/\ ∀(n:Int) (i:Int) (H14:zW),b3 n i H14->
 ∃(xB:zY) (xN xC:Nat),hat H14 ((ad d).add 1)=some (.slice xB xN xC)/\
 if i< (xN:Int)then(
 ∃(bn:zY) (a4 bh:Nat),hat H14 ((ad d).add 1)=some (.slice bn a4 bh)/\
 ∃a8:Addr,bn=some a8/\
 yZ i a4/\
 ∃au:Int,hat H14 (a8.add (Int.toNat i*1))=some (.int .u32 au)/\
 (0<=(zq (32*i)))/\
 (b3 (zq (n+(ishl .i64 (zq au) (zq (32*i))))) (zq (i+1)) H14/\m31 (zq (n+(ishl .i64 (zq au) (zq (32*i))))) (zq (i+1)) H14<m31 n i H14))
 else
 ∃br:Bool,hat H14 (ad d)=some (.bool br)/\
 ∃J:zw,(
 if br=true then(
 J (zq (0-n)) H14)
 else
 J n H14)/\ ∀(bt:Int) (H15:zW),J bt H15->
 dE.C 1 0 0 bt 0 H15 (λch ci=> ∃bz:Int,ch=.int .u64 bz/\
 R (.tuple #[.int .u64 bz,.int .i64 0]) ci))
 else
 ∃(b2:zY->Nat->Nat->zw) (m56:zY->Nat->Nat->Int->zW->Nat),b2 none 0 0 0 b8/\ ∀(lB:zY) (lN:Nat) (lC:Nat) (i_2:Int) (H17:zW),b2 lB lN lC i_2 H17->
 ∃(b0:zY) (a2 b1:Nat),hat H17 ((ad d).add 1)=some (.slice b0 a2 b1)/\
 if i_2< (a2:Int)then(
 ∃(bm:zY) (ba bi:Nat),hat H17 ((ad d).add 1)=some (.slice bm ba bi)/\
 ∃a5:Addr,bm=some a5/\
 yZ i_2 ba/\
 ∃bu:Int,hat H17 (a5.add (Int.toNat i_2*1))=some (.int .u32 bu)/\
 ∀(bx:Nat) (H18:zW),bx=H17.size->H18=H17.push (.cells #[.int .u64 (IntKind.wrap .u64 bu)] 33)->
 bW 1 33 8 [.int .u64 0] lB lN lC (some (ad bx)) 1 H18 (λap bw b7=>
 (b2 ap (lN+1) bw (zq (i_2+1)) b7/\m56 ap (lN+1) bw (zq (i_2+1)) b7<m56 lB lN lC i_2 H17)))
 else
 ∃bq:Bool,hat H17 (ad d)=some (.bool bq)/\
 if bq=true then(
 aY.C hv 3 1 lB lN lC H17 (λb6 ce=> ∃ra bo:Int,b6=.tuple #[.int .u64 ra,.int .i64 bo]/\
 R (.tuple #[.int .u64 ra,.int .i64 bo]) ce))
 else
 aY.C hv 3 0 lB lN lC H17 (λb4 cn=> ∃bj bl:Int,b4=.tuple #[.int .u64 bj,.int .i64 bl]/\
 R (.tuple #[.int .u64 bj,.int .i64 bl]) cn))))))))
 else
 R (.tuple #[.int .u64 0,.int .i64 rb]) H7))
namespace cT
theorem link{hv:zY}{bp:Bool}{bf:zY}{be bg:Nat}{H:zW}{R:zv}(h:pt hv bp bf be bg H R):C hv bp bf be bg H R:=by
 refine T_en K0 89 Tryz.func42 ?_
 intro w0 Q hQ
 unfold pt zq at h
 refine T_su [(0,vp hv),(1,.agg #[.bool bp,vs bf be bg])]<| ar 0<| T_nw (some 3) (λb=>vp (pa b)) (.cells #[.bool bp,vs bf be bg] 39) ?_
 intro b H1 e1 e2
 replace h:=h b H1 e1 e2
 refine T_pd [1] [(3,vp (pa b))]<| T_ed 2 [] []<| ar 1 ?_
 obtain⟨bk,bc,bb,bd,q3,h⟩:=h
 refine T_lr 16 39 q3 [3]<| T_c (some 17) h ?_;clear h
 rintro v H2 ⟨ai,ag,af,ah,rfl,h⟩
 refine T_pd [16] [(17,.agg #[.bool ai,vs ag af ah])]<| T_nw (some 6) (λb=>vp (pa b)) (.cells #[.bool false,vs none 0 0] 157) ?_
 intro e H3 e4 e5
 replace h:=h e H3 e4 e5
 refine T_pd [] [(6,vp (pa e))] ?_
 obtain⟨q7,h⟩:=h
 refine bX 157 [.bool ai,vs ag af ah] q7 ?_
 intro H4 e6
 replace h:=h H4 e6
 refine T_pd [17] []<| T_e<| ar 2 ?_
 obtain⟨az,ac,ae,ab,q8,h⟩:=h
 refine T_lr 19 157 q8 []<| T_c (some 20) h ?_;clear h
 rintro cd H5 ⟨aj,u,z,s,rb,rfl,h⟩
 refine T_pd [19] [(20,.tuple #[.agg #[.bool aj,vs u z s],vi rb])]<| T_nd 3 [20] [(21,.agg #[.bool aj,vs u z s]),(22,vi rb)]<| T_nw (some 7) (λb=>vp (pa b)) (.cells #[.bool false,vs none 0 0] 39) ?_
 intro d H6 e9 e10
 replace h:=h d H6 e9 e10
 refine T_pd [] [(7,vp (pa d))] ?_
 obtain⟨q12,h⟩:=h
 refine bX 39 [.bool aj,vs u z s] q12 ?_
 intro H7 e11
 replace h:=h H7 e11
 refine T_pd [21] []<| T_ed 1 [22] [(8,vi rb)]<| T_sz<| ar 3<| T_ed 2 [] [(24,.bool (rb !=0))] ?_
 by_cases c13:rb=0
 ·rw[if_pos c13]at h
  refine aI 24 (bne_eq_false_iff_eq.mpr c13)<| T_kt<| T_sz ?_
  obtain⟨r,m,l,p,q15,h⟩:=h
  refine yq 5 (Code.ops K13) [(3,(ad e),[.bool r,vs m l p])] 5 (bv 5 0) (show aK _ _ _ from⟨q15,trivial⟩)<| T_g 0 (some 26) (.agg #[.bool r,vs m l p]) (bv 5 1) [(0,vp hv),(6,vp (pa e)),(7,vp (pa d)),(26,.agg #[.bool r,vs m l p])] (aT 157 (vp (pa e))) (iY 3 (λ_=>by kernel_rfl) (λ_=>by kernel_rfl) yX (.inl (by kernel_rfl)))<| yx 1 (some 27) (bv 5 3) 87 #[vi (-1152921504606846976)] h ?_;clear h
  rintro cm H8 ⟨a9,aw,ax,a1,rfl,f16,h⟩
  refine⟨[(0,vp hv),(6,vp (pa e)),(7,vp (pa d)),(26,.agg #[.bool r,vs m l p]),(27,.agg #[.bool a9,vs aw ax a1])],pk,(show aK _ _ _ from⟨f16,trivial⟩),?_⟩
  refine yx 2 (some 28) (bv 5 7) 84 #[.agg #[.bool a9,vs aw ax a1]] h ?_;clear h
  rintro cj H9 ⟨a6,ak,an,aq,rfl,f17,h⟩
  refine⟨[(0,vp hv),(6,vp (pa e)),(7,vp (pa d)),(26,.agg #[.bool r,vs m l p]),(28,.agg #[.bool a6,vs ak an aq])],pk,(show aK _ _ _ from⟨f17,trivial⟩),?_⟩
  refine yx 3 (some 29) (bv 5 15) 86 #[.agg #[.bool r,vs m l p],.agg #[.bool a6,vs ak an aq]] h ?_;clear h
  rintro cl b5 ⟨x,rfl,h⟩
  refine⟨[(0,vp hv),(6,vp (pa e)),(7,vp (pa d)),(29,vi x)],pk,(show aK _ _ _ from⟨trivial,trivial⟩),?_⟩
  refine T_g 4 (some 9) (vi x) (bv 5 31) [(0,vp hv),(6,vp (pa e)),(7,vp (pa d)),(9,vi x)] (pure (.value (vi x)):Sem Next) (λ_ _ _ _ _=>rfl)<| eI [(0,vp hv),(6,vp (pa e)),(7,vp (pa d)),(9,vi x)] sk<| yz<| aE<| T_sz ?_
  obtain⟨q,f,o,j,q18,h⟩:=h
  refine yq 6 (Code.ops K15) [(3,(ad e),[.bool q,vs f o j])] 5 (bv 5 0) (show aK _ _ _ from⟨q18,trivial⟩)<| T_g 0 (some 30) (.agg #[.bool q,vs f o j]) (bv 5 1) [(0,vp hv),(7,vp (pa d)),(9,vi x),(30,.agg #[.bool q,vs f o j])] (aT 157 (vp (pa e))) (iY 3 (λ_=>by kernel_rfl) (λ_=>by kernel_rfl) yX (.inl (by kernel_rfl)))<| yx 1 (some 31) (bv 5 3) 87 #[vi 1152921504606846976] h ?_;clear h
  rintro ck cc ⟨a7,ay,av,a0,rfl,f19,h⟩
  refine⟨[(0,vp hv),(7,vp (pa d)),(9,vi x),(30,.agg #[.bool q,vs f o j]),(31,.agg #[.bool a7,vs ay av a0])],pk,(show aK _ _ _ from⟨f19,trivial⟩),?_⟩
  refine yx 2 (some 32) (bv 5 7) 84 #[.agg #[.bool a7,vs ay av a0]] h ?_;clear h
  rintro co b9 ⟨a3,al,ao,am,rfl,f20,h⟩
  refine⟨[(0,vp hv),(7,vp (pa d)),(9,vi x),(30,.agg #[.bool q,vs f o j]),(32,.agg #[.bool a3,vs al ao am])],pk,(show aK _ _ _ from⟨f20,trivial⟩),?_⟩
  refine yx 3 (some 33) (bv 5 15) 86 #[.agg #[.bool q,vs f o j],.agg #[.bool a3,vs al ao am]] h ?_;clear h
  rintro cg b8 ⟨aa,rfl,h⟩
  refine⟨[(0,vp hv),(7,vp (pa d)),(9,vi x),(33,vi aa)],pk,(show aK _ _ _ from⟨trivial,trivial⟩),?_⟩
  refine T_g 4 (some 10) (vi aa) (bv 5 31) [(0,vp hv),(7,vp (pa d)),(9,vi x),(10,vi aa)] (pure (.value (vi aa)):Sem Next) (λ_ _ _ _ _=>rfl)<| eI [(0,vp hv),(7,vp (pa d)),(9,vi x),(10,vi aa)] sk<| yz<| aE<| T_sz<| ar 7 ?_
  refine gp [(0,vp hv),(7,vp (pa d)),(39,.bool ((decide (x>=0)) && (decide (aa<0))))] ?_ ?_
  ·refine aE ?_
   by_cases c23:((decide (x>=0)) && (decide (aa<0)))=true
   ·rw[if_pos c23]at h
    refine aH 39 c23<| ar 8<| T_ne 1 [(7,vp (pa d)),(11,vi 0)]<| T_sz<| ar 9<| T_ed 1 [] [(12,vi 0)]<| T_bz 0 ?_
    obtain⟨b3,m31,i25,i26⟩:=h
    refine dS (x:=K30) (σ:=Int×Int) (λs_=> [(7,vp (pa d)),(11,vi s_.1),(12,vi s_.2)]) (λs_ H=>b3 s_.1 s_.2 H) (λs_ H=>m31 s_.1 s_.2 H) ((0,0):Int×Int) (by kernel_rfl) i25 sk ?_
    rintro⟨n,i⟩ H14 i27
    have h:=i26 n i H14 i27
    refine T_su [(7,vp (pa d)),(11,vi n),(12,vi i)]<| T_sz<| ar 10<| T_nd 2 [] [(40,vi i),(41,vp (some ((ad d).add 1)))] ?_
    obtain⟨xB,xN,xC,q28,h⟩:=h
    refine T_l1 42 37 q28 [41]<| T_ed 2 [40,42] [(44,.bool (decide (i< (xN:Int))))] ?_
    by_cases c29:i< (xN:Int)
    ·rw[if_pos c29]at h
     refine aH 44 (zQ c29)<| T_kt<| T_sz<| T_bz 1<| T_rz 12<| T_nd 2 [11,44] [(47,vi n),(48,vp (some ((ad d).add 1)))] ?_
     obtain⟨bn,a4,bh,q31,h⟩:=h
     refine T_l1 49 37 q31 [48]<| T_nd 1 [] [(50,vi i)] ?_
     obtain⟨a8,rfl,q32,h⟩:=h
     refine T_xd (some 51) 37 154 1 a8 a4 bh .i64 i Tryz.underlying37 q32.1 q32.2 [49,50] [(51,vp (some (a8.add (Int.toNat i*1))))] ?_
     obtain⟨au,q33,h⟩:=h
     refine T_l1 52 154 q33 [51]<| T_nd 3 [52] [(53,vi (zq au)),(55,vi (zq (32*i)))] ?_
     obtain⟨q34,h⟩:=h
     exact T_v1 56 (binN .shl 2 (vi (zq au)) (vi (zq (32*i)))) (vi (ishl .i64 (zq au) (zq (32*i)))) (λw _=>mp (P:=Tryz.prog) (t:=2) (k:=.i64) (k':=.i64) (x:=(zq au)) (y:=(zq (32*i))) q34 w) [53,55]<| T_nd 2 [47,56] [(11,vi (zq (n+(ishl .i64 (zq au) (zq (32*i))))))]<| zx<| aL<| aE<| T_rz 11<| T_ed 3 [12] [(12,vi (zq (i+1)))]<| bG (((zq (n+(ishl .i64 (zq au) (zq (32*i))))),(zq (i+1))):Int×Int) sk h
    rw[if_neg c29]at h
    refine aI 44 (zJ c29)<| zk 0<| aD<| aD<| aR<| aE<| T_sz<| ar 13<| T_n 1 [(11,vi n),(58,vp (pa d))] ?_
    obtain⟨br,q35,h⟩:=h
    refine T_l (some 59) 4 q35 [(11,vi n),(59,.bool br)]<| T_e ?_
    obtain⟨J,h,j37⟩:=h
    refine kb (σ:=Int) (λs_=> [(11,vi s_)]) (λs_ H=>J s_ H) ?_ ?_
    ·rintro bt H15 j38
     replace h:=j37 bt H15 j38
     refine T_su [(11,vi bt)]<| aE<| ar 15<| T_n 2 [(63,.agg #[vi 1,vi 0,vi 0,vi bt,vu 0])]<| T_c (some 64) h ?_;clear h
     rintro ch ci ⟨bz,rfl,h⟩
     refine⟨[(64,vu bz)],pk,?_⟩
     exact T_nr 2 [4,5] [vu bz,vi 0] hQ h
    by_cases c39:br=true
    ·rw[if_pos c39]at h
     have b40:br=true:=c39
     refine eT [(11,vi n),(59,.bool true)] (by simp only[b40,Bool.not_true,Bool.not_false]) ?_
     clear b40
     exact T_tz 59<| T_rz 14<| T_ne 3 [(11,vi (zq (0-n)))]<| fH ((zq (0-n)):Int) sk h
    rw[if_neg c39]at h
    have b40:br=false:=zZ c39
    refine eT [(11,vi n),(59,.bool false)] (by simp only[b40,Bool.not_true,Bool.not_false]) ?_
    clear b40
    exact T_fz 59<| T_kt<| fH (n:Int) sk h
   rw[if_neg c23]at h
   refine aI 39 (zZ c23)<| T_kt<| ar 16<| T_ne 1 [(0,vp hv),(7,vp (pa d)),(13,vs none 0 0)]<| T_sz<| ar 17<| T_ed 1 [] [(14,vi 0)]<| T_bz 2 ?_
   obtain⟨b2,m56,i41,i42⟩:=h
   refine dS (x:=K55) (σ:=zY×Nat×Nat×Int) (λs_=> [(0,vp hv),(7,vp (pa d)),(13,vs s_.1 s_.2.1 s_.2.2.1),(14,vi s_.2.2.2)]) (λs_ H=>b2 s_.1 s_.2.1 s_.2.2.1 s_.2.2.2 H) (λs_ H=>m56 s_.1 s_.2.1 s_.2.2.1 s_.2.2.2 H) ((none,0,0,0):zY×Nat×Nat×Int) (by kernel_rfl) i41 sk ?_
   rintro⟨lB,lN,lC,i_2⟩ H17 i43
   have h:=i42 lB lN lC i_2 H17 i43
   refine T_su [(0,vp hv),(7,vp (pa d)),(13,vs lB lN lC),(14,vi i_2)]<| T_sz<| ar 18<| T_nd 2 [] [(65,vi i_2),(66,vp (some ((ad d).add 1)))] ?_
   obtain⟨b0,a2,b1,q44,h⟩:=h
   refine T_l1 67 37 q44 [66]<| T_ed 2 [65,67] [(69,.bool (decide (i_2< (a2:Int))))] ?_
   by_cases c45:i_2< (a2:Int)
   ·rw[if_pos c45]at h
    refine aH 69 (zQ c45)<| T_kt<| T_sz<| T_bz 3<| T_rz 20<| T_nd 2 [13,69] [(72,vs lB lN lC),(73,vp (some ((ad d).add 1)))] ?_
    obtain⟨bm,ba,bi,q47,h⟩:=h
    refine T_l1 74 37 q47 [73]<| T_nd 1 [] [(75,vi i_2)] ?_
    obtain⟨a5,rfl,q48,h⟩:=h
    refine T_xd (some 76) 37 154 1 a5 ba bi .i64 i_2 Tryz.underlying37 q48.1 q48.2 [74,75] [(76,vp (some (a5.add (Int.toNat i_2*1))))] ?_
    obtain⟨bu,q49,h⟩:=h
    refine T_l1 77 154 q49 [76]<| T_nd 1 [77] [(78,vu (IntKind.wrap .u64 bu))]<| T_nw (some 79) (λb=>vs (pa b) 1 1) (.cells #[vu (IntKind.wrap .u64 bu)] 33) ?_
    intro bx H18 e50 e51
    replace h:=h bx H18 e50 e51
    refine T_pd [78] [(79,vs (pa bx) 1 1)]<| N_op (some 80) (cS #[31,31] 31 #[vs lB lN lC,vs (pa bx) 1 1]) _ (λ_=>by kernel_rfl) (bP (T:=33) (sz:=1) (bytes:=8) (zero:=(vu 0:Value)) Tryz.underlying31 Tryz.underlying31 rfl (show Tryz.prog.info? 33=some Tryz.t33 from by kernel_rfl) (by kernel_rfl) (by kernel_rfl) (by decide) (by kernel_rfl) (by first | exact h | (simpa only[Value.cells,List.toList_toArray]using h))) ?_;clear h
    rintro _ b7 ⟨ap,bw,rfl,h⟩
    exact T_pd [72,79] [(80,vs ap (lN+1) bw)]<| T_nd 1 [80] [(13,vs ap (lN+1) bw)]<| zx<| aL<| aE<| T_rz 19<| T_ed 3 [14] [(14,vi (zq (i_2+1)))]<| bG ((ap,(lN+1),bw,(zq (i_2+1))):zY×Nat×Nat×Int) sk h
   rw[if_neg c45]at h
   refine aI 69 (zJ c45)<| zk 2<| aD<| aD<| aR<| aE<| ar 21<| T_ed 1 [14,69] [(15,vu 0)]<| T_sz<| ar 22<| T_nd 1 [7] [(81,vp (pa d))] ?_
   obtain⟨bq,q52,h⟩:=h
   refine T_l1 82 4 q52 [81]<| T_e ?_
   by_cases c53:bq=true
   ·rw[if_pos c53]at h
    refine aH 82 c53<| T_rz 23<| T_ed 1 [15,82] [(15,vu 1)]<| ar 24<| T_n 3 [(83,vp hv),(84,vu 1),(85,vs lB lN lC)]<| T_c (some 86) h ?_;clear h
    rintro b6 ce ⟨ra,bo,rfl,h⟩
    refine⟨[(86,.tuple #[vu ra,vi bo])],pk,?_⟩
    exact T_nr 4 [4,5] [vu ra,vi bo] hQ h
   rw[if_neg c53]at h
   refine aI 82 (zZ c53)<| T_kt<| ar 24<| T_n 3 [(83,vp hv),(84,vu 0),(85,vs lB lN lC)]<| T_c (some 86) h ?_;clear h
   rintro b4 cn ⟨bj,bl,rfl,h⟩
   refine⟨[(86,.tuple #[vu bj,vi bl])],pk,?_⟩
   exact T_nr 4 [4,5] [vu bj,vi bl] hQ h
  intro hk
  refine T_n 3 [(0,vp hv),(7,vp (pa d)),(10,vi aa),(36,.bool (decide (x>=0)))] ?_
  by_cases c21:x>=0
  ·have b22:(decide (x>=0))=true:=zQ c21
   refine bV [(0,vp hv),(7,vp (pa d)),(10,vi aa),(36,.bool true)] (by rw[b22]) ?_
   refine T_nd 3 [10,36] [(39,.bool (decide (aa<0)))]<| zx<| S_bd 39 (b:=(decide (aa<0))) (v:=((decide (x>=0)) && (decide (aa<0)))) (by simp only[b22,BL]) ?_
   exact hk
  have b22:(decide (x>=0))=false:=zJ c21
  refine bV [(0,vp hv),(7,vp (pa d)),(10,vi aa),(36,.bool false)] (by rw[b22]) ?_
  refine T_nd 3 [10,36] [(39,.bool false)]<| zx<| S_bd 39 (b:=false) (v:=((decide (x>=0)) && (decide (aa<0)))) (by simp only[b22,BL]) ?_
  exact hk
 rw[if_neg c13]at h
 exact aH 24 (bne_iff_ne.mpr c13)<| ar 4<| T_nr 3 [4,5] [vu 0,vi rb] hQ h
end cT

/-! (*moraine/moraineref10.Heap).SetHalf -/
namespace bT
def K0:=Func.code Tryz.f44
end bT
def bT.pt(hv:zY)(wv i v:Int)(H:zW)(R:zv):Prop:=
 bJ.C hv wv H (λe H1=> ∃x:Int,e=.int .i64 x/\
 if x<0 then(
 R (.int .i64 3) H1)
 else
 ∃d:Addr,hv=some d/\
 ∃a:zY,hat H1 d=some (.pointer a)/\
 bO.C a (zq (x+i)) v H1 (λf H2=> ∃b:Int,f=.int .i64 b/\
 R (.int .i64 b) H2))
namespace bT
theorem link{hv:zY}{wv i v:Int}{H:zW}{R:zv}(h:pt hv wv i v H R):C hv wv i v H R:=by
 refine T_en K0 24 Tryz.func44 ?_
 intro w0 Q hQ
 unfold pt zq at h
 refine T_su [(0,vp hv),(1,vu wv),(2,vi i),(3,vu v)]<| ar 0<| T_ed 1 [] []<| ar 1<| T_nd 2 [1] [(10,vp hv),(11,vu wv)]<| T_c (some 12) h ?_;clear h
 rintro e H1 ⟨x,rfl,h⟩
 refine T_pd [10,11] [(12,vi x)]<| T_ed 1 [12] [(9,vi x)]<| T_sz<| ar 2<| T_ed 2 [] [(14,.bool (decide (x<0)))] ?_
 by_cases c1:x<0
 ·rw[if_pos c1]at h
  exact aH 14 (zQ c1)<| ar 3<| T_nr 1 [8] [vi 3] hQ h
 rw[if_neg c1]at h
 refine aI 14 (zJ c1)<| T_kt<| ar 4<| T_nd 1 [0,14] [(15,vp hv)] ?_
 obtain⟨d,rfl,h⟩:=h
 refine T_nd 2 [15] [(17,vp (some d))] ?_
 obtain⟨a,q3,h⟩:=h
 refine T_l1 18 69 q3 [17]<| T_n 4 [(18,vp a),(21,vi (zq (x+i))),(22,vu v)]<| T_c (some 23) h ?_;clear h
 rintro f H2 ⟨b,rfl,h⟩
 refine⟨[(23,vi b)],pk,?_⟩
 exact T_nr 1 [8] [vi b] hQ h
end bT

/-! (*moraine/moraineref10.Heap).Set -/
namespace cU
def K0:=Func.code Tryz.f46
end cU
def cU.pt(hv:zY)(wv a i v:Int)(H:zW)(R:zv):Prop:=
 bS.C hv wv a i H (λe H1=> ∃ra rb:Int,e=.tuple #[.int .i64 ra,.int .i64 rb]/\
 if rb=0 then(
 ∃d:Addr,hv=some d/\
 ∃x:zY,hat H1 d=some (.pointer x)/\
 bO.C x ra v H1 (λf H2=> ∃b:Int,f=.int .i64 b/\
 R (.int .i64 b) H2))
 else
 R (.int .i64 rb) H1)
namespace cU
theorem link{hv:zY}{wv a i v:Int}{H:zW}{R:zv}(h:pt hv wv a i v H R):C hv wv a i v H R:=by
 refine T_en K0 31 Tryz.func46 ?_
 intro w0 Q hQ
 unfold pt at h
 refine T_su [(0,vp hv),(1,vu wv),(2,vi a),(3,vi i),(4,vu v)]<| ar 0<| T_ed 1 [] []<| ar 1<| T_nd 4 [1,2,3] [(14,vp hv),(15,vu wv),(16,vi a),(17,vi i)]<| T_c (some 18) h ?_;clear h
 rintro e H1 ⟨ra,rb,rfl,h⟩
 refine T_pd [14,15,16,17] [(18,.tuple #[vi ra,vi rb])]<| T_ed 5 [18] [(11,vi ra),(12,vi rb)]<| T_sz<| ar 2<| T_ed 2 [] [(22,.bool (rb !=0))] ?_
 by_cases c1:rb=0
 ·rw[if_pos c1]at h
  refine aI 22 (bne_eq_false_iff_eq.mpr c1)<| T_kt<| ar 4<| T_nd 1 [0,12,22] [(24,vp hv)] ?_
  obtain⟨d,rfl,h⟩:=h
  refine T_nd 2 [24] [(26,vp (some d))] ?_
  obtain⟨x,q3,h⟩:=h
  refine T_l1 27 69 q3 [26]<| T_nd 2 [4,11] [(28,vi ra),(29,vu v)]<| T_c (some 30) h ?_;clear h
  rintro f H2 ⟨b,rfl,h⟩
  refine⟨[(30,vi b)],pk,?_⟩
  exact T_nr 1 [10] [vi b] hQ h
 rw[if_neg c1]at h
 exact aH 22 (bne_iff_ne.mpr c1)<| ar 3<| T_nr 2 [10] [vi rb] hQ h
end cU

/-! (*moraine/moraineref10.Heap).Half -/
namespace cf
def K0:=Func.code Tryz.f47
end cf
def cf.pt(hv:zY)(wv i:Int)(H:zW)(R:zv):Prop:=
 bJ.C hv wv H (λv H1=> ∃x:Int,v=.int .i64 x/\
 if x<0 then(
 R (.tuple #[.int .u64 0,.int .i64 3]) H1)
 else
 ∃f:Addr,hv=some f/\
 ∃j:zY,hat H1 f=some (.pointer j)/\
 ∃d:Addr,j=some d/\
 ∃e:zY,hat H1 d=some (.pointer e)/\
 ∃b:Addr,e=some b/\
 ∃a:zY,hat H1 b=some (.pointer a)/\
 bL.C a (zq (x+i)) H1 (λk H2=> ∃ra rb:Int,k=.tuple #[.int .u64 ra,.int .i64 rb]/\
 R (.tuple #[.int .u64 ra,.int .i64 rb]) H2))
namespace cf
theorem link{hv:zY}{wv i:Int}{H:zW}{R:zv}(h:pt hv wv i H R):C hv wv i H R:=by
 refine T_en K0 30 Tryz.func47 ?_
 intro w0 Q hQ
 unfold pt zq at h
 refine T_su [(0,vp hv),(1,vu wv),(2,vi i)]<| ar 0<| T_ed 2 [] []<| ar 1<| T_nd 2 [1] [(9,vp hv),(10,vu wv)]<| T_c (some 11) h ?_;clear h
 rintro v H1 ⟨x,rfl,h⟩
 refine T_pd [9,10] [(11,vi x)]<| T_ed 1 [11] [(8,vi x)]<| T_sz<| ar 2<| T_ed 2 [] [(13,.bool (decide (x<0)))] ?_
 by_cases c1:x<0
 ·rw[if_pos c1]at h
  exact aH 13 (zQ c1)<| ar 3<| T_nr 2 [6,7] [vu 0,vi 3] hQ h
 rw[if_neg c1]at h
 refine aI 13 (zJ c1)<| T_kt<| ar 4<| T_nd 1 [0,13] [(14,vp hv)] ?_
 obtain⟨f,rfl,h⟩:=h
 refine T_nd 2 [14] [(16,vp (some f))] ?_
 obtain⟨j,q3,h⟩:=h
 refine T_l1 17 69 q3 [16] ?_
 obtain⟨d,rfl,h⟩:=h
 refine T_nd 2 [17] [(19,vp (some d))] ?_
 obtain⟨e,q4,h⟩:=h
 refine T_l1 20 66 q4 [19] ?_
 obtain⟨b,rfl,h⟩:=h
 refine T_nd 2 [20] [(22,vp (some b))] ?_
 obtain⟨a,q5,h⟩:=h
 refine T_l1 23 63 q5 [22]<| T_nd 3 [2,8] [(26,vi (zq (x+i)))]<| T_c (some 27) h ?_;clear h
 rintro k H2 ⟨ra,rb,rfl,h⟩
 refine⟨[(27,.tuple #[vu ra,vi rb])],pk,?_⟩
 exact T_nr 4 [6,7] [vu ra,vi rb] hQ h
end cf

