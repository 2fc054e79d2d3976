/- Printed: what each function asks, and that it is sound. -/
import Derived.Test.YtffacgdneichhaaGreatDoorFnsC
set_option linter.unusedSimpArgs false
set_option linter.unusedVariables false
set_option maxRecDepth 100000
set_option maxHeartbeats 1000000
noncomputable section
namespace Go.Proofs.YtffacgdneichhaaGreatDoor
open Go
/-! (*moraine/seg.Mem).Seg -/
namespace bE
def K0:=Func.code Tryz.f37
end bE
def bE.pt(m:zW)(z:Int)(H:zV)(R:zk):Prop:=
 ∀(b:Nat) (H1:zV),b=H.size->H1=H.push (.cells #[.int .i64 0,.int .i64 0,.int .i64 0,.int .i64 0,.int .i64 0,.int .i64 0,.int .i64 0] 96)->
 dL.C m z H1 (λv H2=> ∃x:zW,v=.pointer x/\
 dM x (
 (aI H2 (ad b) 0 7)/\ ∀H3,H3=aO H2 (ad b) [.int .i64 0,.int .i64 0,.int .i64 0,.int .i64 0,.int .i64 0,.int .i64 0,.int .i64 0] 0->
 ∃ab aa rN q r p s:Int,aU H3 (ad b) 0 [.int .i64 ab,.int .i64 aa,.int .i64 rN,.int .i64 q,.int .i64 r,.int .i64 p,.int .i64 s]/\
 R (.tuple #[.agg #[.int .i64 ab,.int .i64 aa,.int .i64 rN,.int .i64 q,.int .i64 r,.int .i64 p,.int .i64 s],.bool false]) H3) (λxA=>
 ∃t o xN d f g a:Int,aU H2 xA 0 [.int .i64 t,.int .i64 o,.int .i64 xN,.int .i64 d,.int .i64 f,.int .i64 g,.int .i64 a]/\
 (aI H2 (ad b) 0 7)/\ ∀H4,H4=aO H2 (ad b) [.int .i64 t,.int .i64 o,.int .i64 xN,.int .i64 d,.int .i64 f,.int .i64 g,.int .i64 a] 0->
 ∃y u ac k l j i:Int,aU H4 (ad b) 0 [.int .i64 y,.int .i64 u,.int .i64 ac,.int .i64 k,.int .i64 l,.int .i64 j,.int .i64 i]/\
 R (.tuple #[.agg #[.int .i64 y,.int .i64 u,.int .i64 ac,.int .i64 k,.int .i64 l,.int .i64 j,.int .i64 i],.bool true]) H4))
namespace bE
theorem link{m:zW}{z:Int}{H:zV}{R:zk}(h:pt m z H R):C m z H R:=by
 refine T_en K0 17 Tryz.func37 ?_
 intro w0 Q hQ
 unfold pt at h
 refine T_su [(0,vp m),(1,vi z)]<| ar 0<| T_nw (some 4) (λb=>vp (pa b)) (.cells #[vi 0,vi 0,vi 0,vi 0,vi 0,vi 0,vi 0] 96) ?_
 intro b H1 e1 e2
 replace h:=h b H1 e1 e2
 refine T_pd [] [(4,vp (pa b))]<| T_ed 1 [] []<| ar 1<| T_nd 2 [0,1] [(7,vp m),(8,vi z)]<| T_c (some 9) h ?_;clear h
 rintro v H2 ⟨x,rfl,h⟩
 refine T_pd [7,8] [(9,vp x)]<| T_ed 1 [9] [(6,vp x)]<| T_sz<| ar 2<| T_nd 1 [] [(10,vp x)] ?_
 rcases x with _ | xA
 ·rw[onPtr_none]at h
  refine T_ed 1 [6,10] [(6,vp none),(11,.bool true)]<| T_tz 11<| ar 3<| T_nd 1 [6,11] [(12,.agg #[vi 0,vi 0,vi 0,vi 0,vi 0,vi 0,vi 0])] ?_
  obtain⟨q4,h⟩:=h
  refine fH 96 [vi 0,vi 0,vi 0,vi 0,vi 0,vi 0,vi 0] q4 ?_
  intro H3 e3
  replace h:=h H3 e3
  refine T_pd [12] []<| T_ed 1 [] [(5,.bool false)]<| zx ?_
  show At _ _ _ _ _ (Q .ret)
  obtain⟨ab,aa,rN,q,r,p,s,q5,h⟩:=h
  exact nh (fn:=Tryz.f37) [.agg #[vi ab,vi aa,vi rN,vi q,vi r,vi p,vi s],.bool false] hQ (show dh _ _ _ [.cell 4 96,.tmp 5] _ from .cell (by kernel_rfl) (gR (λ_=>by kernel_rfl) (λ_=>by kernel_rfl) q5) (.tmp (by kernel_rfl) (.nil))) h
 rw[onPtr_some]at h
 refine T_ed 1 [6,10] [(6,vp (some xA)),(11,.bool false)]<| T_fz 11<| T_kt<| ar 4<| T_nd 3 [6,11] [(15,vp (some xA))] ?_
 obtain⟨t,o,xN,d,f,g,a,q6,h⟩:=h
 refine T_lr 16 96 q6 [15] ?_
 obtain⟨q8,h⟩:=h
 refine fH 96 [vi t,vi o,vi xN,vi d,vi f,vi g,vi a] q8 ?_
 intro H4 e7
 replace h:=h H4 e7
 refine T_pd [16] []<| T_ed 1 [] [(5,.bool true)]<| zx ?_
 show At _ _ _ _ _ (Q .ret)
 obtain⟨y,u,ac,k,l,j,i,q9,h⟩:=h
 exact nh (fn:=Tryz.f37) [.agg #[vi y,vi u,vi ac,vi k,vi l,vi j,vi i],.bool true] hQ (show dh _ _ _ [.cell 4 96,.tmp 5] _ from .cell (by kernel_rfl) (gR (λ_=>by kernel_rfl) (λ_=>by kernel_rfl) q9) (.tmp (by kernel_rfl) (.nil))) h
end bE

/-! (*moraine/seg.Mem).Read -/
namespace bR
def K0:=Func.code Tryz.f49
end bR
def bR.pt(m:zW)(a:Int)(H:zV)(R:zk):Prop:=
 dW.C m a H (λv H1=> ∃x:zW,v=.pointer x/\
 dM x (
 R (.tuple #[.int .u64 0,.int .i64 18]) H1) (λxA=>
 ∃b:Int,hat H1 xA=some (.int .u64 b)/\
 R (.tuple #[.int .u64 b,.int .i64 0]) H1))
namespace bR
theorem link{m:zW}{a:Int}{H:zV}{R:zk}(h:pt m a H R):C m a H R:=by
 refine T_en K0 15 Tryz.func49 ?_
 intro w0 Q hQ
 unfold pt at h
 refine T_su [(0,vp m),(1,vi a)]<| ar 0<| T_ed 2 [] []<| T_sz<| ar 1<| T_n 2 [(7,vp m),(8,vi a)]<| T_c (some 9) h ?_;clear h
 rintro v H1 ⟨x,rfl,h⟩
 refine⟨[(9,vp x)],pk,?_⟩
 refine T_ne 1 [(6,vp x)]<| ar 2<| T_nd 1 [] [(10,vp x)] ?_
 rcases x with _ | xA
 ·rw[onPtr_none]at h
  exact T_ne 1 [(6,vp none),(11,.bool false)]<| T_fz 11<| T_kt<| ar 4<| T_nr 2 [4,5] [vu 0,vi 18] hQ h
 rw[onPtr_some]at h
 refine T_ne 1 [(6,vp (some xA)),(11,.bool true)]<| T_tz 11<| ar 3<| T_n 2 [(13,vp (some xA))] ?_
 obtain⟨b,q1,h⟩:=h
 exact T_l1 14 33 q1 [13]<| T_nr 2 [4,5] [vu b,vi 0] hQ h
end bR

/-! (*moraine/seg.Mem).Write -/
namespace cz
def K0:=Func.code Tryz.f50
end cz
def cz.pt(m:zW)(a wv:Int)(H:zV)(R:zk):Prop:=
 dW.C m a H (λv H1=> ∃x:zW,v=.pointer x/\
 dM x (
 R (.int .i64 18) H1) (λxA=>
 (aI H1 xA 0 1)/\ ∀H2,H2=aO H1 xA [.int .u64 wv] 0->
 R (.int .i64 0) H2))
namespace cz
theorem link{m:zW}{a wv:Int}{H:zV}{R:zk}(h:pt m a wv H R):C m a wv H R:=by
 refine T_en K0 16 Tryz.func50 ?_
 intro w0 Q hQ
 unfold pt at h
 refine T_su [(0,vp m),(1,vi a),(2,vu wv)]<| ar 0<| T_ed 1 [] []<| ar 1<| T_nd 2 [0,1] [(8,vp m),(9,vi a)]<| T_c (some 10) h ?_;clear h
 rintro v H1 ⟨x,rfl,h⟩
 refine T_pd [8,9] [(10,vp x)]<| T_ed 1 [10] [(7,vp x)]<| T_sz<| ar 2<| T_nd 1 [] [(11,vp x)] ?_
 rcases x with _ | xA
 ·rw[onPtr_none]at h
  exact T_ed 1 [7,11] [(7,vp none),(12,.bool true)]<| T_tz 12<| ar 3<| T_nr 1 [6] [vi 18] hQ h
 rw[onPtr_some]at h
 refine T_ed 1 [7,11] [(7,vp (some xA)),(12,.bool false)]<| T_fz 12<| T_kt<| ar 4<| T_n 3 [(14,vu wv),(15,vp (some xA))] ?_
 obtain⟨q2,h⟩:=h
 refine eq 33 (vu wv) q2 ?_
 intro H2 e1
 replace h:=h H2 e1
 refine⟨[],pk,?_⟩
 exact T_e<| ar 5<| T_nr 1 [6] [vi 0] hQ h
end cz

/-! (*moraine/seg.Mem).at -/
namespace dL
def K0:=Func.code Tryz.f75
end dL
def dL.pt(m:zW)(b:Int)(H:zV)(R:zk):Prop:=
 dM m (
 R (.pointer none) H) (λmA=>
 if b<0 then(
 R (.pointer none) H)
 else
 ∃(xB:zW) (xN xC:Nat),hat H mA=some (.slice xB xN xC)/\
 if b>=(xN:Int)then(
 R (.pointer none) H)
 else
 ∃(p:zW) (g o:Nat),hat H mA=some (.slice p g o)/\
 ∃f:Addr,p=some f/\
 zw b g/\
 ∃x:Int,hat H ((f.add (Int.toNat b*72)).add 7)=some (.int .i64 x)/\
 if x=0 then(
 R (.pointer none) H)
 else
 ∃(q:zW) (j l:Nat),hat H mA=some (.slice q j l)/\
 ∃d:Addr,q=some d/\
 zw b j/\
 R (.pointer (some (d.add (Int.toNat b*72)))) H)
namespace dL
theorem link{m:zW}{b:Int}{H:zV}{R:zk}(h:pt m b H R):C m b H R:=by
 refine T_en K0 37 Tryz.func75 ?_
 intro w0 Q hQ
 unfold pt at h
 refine T_su [(0,vp m),(1,vi b)]<| ar 0<| T_ed 1 [] []<| T_sz<| ar 1<| T_nd 1 [] [(5,vp m)] ?_
 rcases m with _ | mA
 ·rw[onPtr_none]at h
  exact T_ed 25 [0,5] [(0,vp none),(30,.bool true)]<| T_tz 30<| ar 2<| T_nr 1 [4] [vp none] hQ h
 rw[onPtr_some]at h
 refine T_nd 6 [0,5] [(0,vp (some mA)),(11,.bool (decide (b<0)))] ?_
 by_cases c1:b<0
 ·rw[if_pos c1]at h
  exact N_bd 11 (zX c1)<| T_ed 19 [11] [(30,.bool true)]<| T_tz 30<| ar 2<| T_nr 1 [4] [vp none] hQ h
 rw[if_neg c1]at h
 refine N_bd 11 (zQ c1)<| T_nd 4 [] [(12,vi b),(15,vp (some mA))] ?_
 obtain⟨xB,xN,xC,q3,h⟩:=h
 refine T_l1 16 140 q3 [15]<| T_nd 4 [11,12,16] [(20,.bool (decide (b>=(xN:Int))))] ?_
 by_cases c4:b>=(xN:Int)
 ·rw[if_pos c4]at h
  exact N_bd 20 (zX c4)<| T_ed 10 [20] [(30,.bool true)]<| T_tz 30<| ar 2<| T_nr 1 [4] [vp none] hQ h
 rw[if_neg c4]at h
 refine N_bd 20 (zQ c4)<| T_nd 3 [] [(23,vp (some mA))] ?_
 obtain⟨p,g,o,q6,h⟩:=h
 refine T_l1 24 140 q6 [23]<| T_nd 1 [] [(25,vi b)] ?_
 obtain⟨f,rfl,q7,h⟩:=h
 refine T_xd (some 26) 140 146 72 f g o .i64 b Tryz.underlying140 q7.1 q7.2 [24,25] [(26,vp (some (f.add (Int.toNat b*72))))]<| T_nd 1 [26] [(27,vp (some ((f.add (Int.toNat b*72)).add 7)))] ?_
 obtain⟨x,q8,h⟩:=h
 refine T_l1 28 3 q8 [27]<| T_ed 2 [20,28] [(30,.bool (x==0))] ?_
 by_cases c9:x=0
 ·rw[if_pos c9]at h
  exact aF 30 (zK c9)<| ar 2<| T_nr 1 [4] [vp none] hQ h
 rw[if_neg c9]at h
 refine aE 30 (zJ c9)<| T_kt<| ar 3<| T_nd 3 [0,30] [(33,vp (some mA))] ?_
 obtain⟨q,j,l,q11,h⟩:=h
 refine T_l1 34 140 q11 [33]<| T_nd 1 [1] [(35,vi b)] ?_
 obtain⟨d,rfl,q12,h⟩:=h
 exact T_ix (some 36) 140 146 72 d j l .i64 b Tryz.underlying140 q12.1 q12.2 [(36,vp (some (d.add (Int.toNat b*72))))]<| T_nr 1 [4] [vp (some (d.add (Int.toNat b*72)))] hQ h
end dL

/-! (*moraine/seg.Mem).Mark -/
namespace eG
def K0:=Func.code Tryz.f81
end eG
def eG.pt(m:zW)(f b d:Int)(H:zV)(R:zk):Prop:=
 dL.C m f H (λv H1=> ∃x:zW,v=.pointer x/\
 dM x (
 R (.int .i64 19) H1) (λxA=>
 if((((decide (b<0)) || (decide (b>=4))) || (decide (d<0))) || (decide (d>5)))=true then(
 R (.int .i64 1) H1)
 else
 zw b 4/\
 (aI H1 ((xA.add 3).add (Int.toNat b*1)) 0 1)/\ ∀H2,H2=aO H1 ((xA.add 3).add (Int.toNat b*1)) [.int .i64 d] 0->
 R (.int .i64 0) H2))
namespace eG
theorem link{m:zW}{f b d:Int}{H:zV}{R:zk}(h:pt m f b d H R):C m f b d H R:=by
 refine T_en K0 38 Tryz.func81 ?_
 intro w0 Q hQ
 unfold pt at h
 refine T_su [(0,vp m),(1,vi f),(2,vi b),(3,vi d)]<| ar 0<| T_ed 1 [] []<| ar 1<| T_nd 2 [0,1] [(10,vp m),(11,vi f)]<| T_c (some 12) h ?_;clear h
 rintro v H1 ⟨x,rfl,h⟩
 refine T_pd [10,11] [(12,vp x)]<| T_ed 1 [12] [(9,vp x)]<| T_sz<| T_bz 0<| ar 2<| T_nd 1 [] [(14,vp x)] ?_
 rcases x with _ | xA
 ·rw[onPtr_none]at h
  exact T_ed 2 [9,14] [(9,vp none),(13,.bool true)]<| T_tz 13<| ar 3<| T_nr 1 [8] [vi 19] hQ h
 rw[onPtr_some]at h
 refine T_ed 2 [9,14] [(9,vp (some xA)),(13,.bool false)]<| T_fz 13<| ar 4 ?_
 refine eQ [(2,vi b),(3,vi d),(9,vp (some xA)),(16,.bool ((((decide (b<0)) || (decide (b>=4))) || (decide (d<0))) || (decide (d>5))))] ?_ ?_
 ·refine aC ?_
  by_cases c7:((((decide (b<0)) || (decide (b>=4))) || (decide (d<0))) || (decide (d>5)))=true
  ·rw[if_pos c7]at h
   exact aF 16 c7<| ar 5<| T_nr 1 [8] [vi 1] hQ h
  rw[if_neg c7]at h
  refine aE 16 (zZ c7)<| T_k<| aB<| aC<| ar 6<| T_n 6 [(32,vi b),(33,vi d),(36,vp (some (xA.add 3)))] ?_
  obtain⟨q9,h⟩:=h
  refine T_v1 37 (aR 85 (vp (some (xA.add 3))) (vi b)) (vp (some ((xA.add 3).add (Int.toNat b*1)))) (λw _=>aN (P:=Tryz.prog) (t:=85) (elem:=3) (sz:=1) (n:=4) (a:=(xA.add 3)) (k:=.i64) (i:=b) Tryz.underlying85 (λ_=>by kernel_rfl) q9.1 q9.2 w) [32,36] ?_
  obtain⟨q11,h⟩:=h
  refine eq 3 (vi d) q11 ?_
  intro H2 e10
  replace h:=h H2 e10
  refine⟨[],pk,?_⟩
  exact T_e<| ar 7<| T_nr 1 [8] [vi 0] hQ h
 intro hk
 refine T_n 3 [(2,vi b),(3,vi d),(9,vp (some xA)),(19,.bool (decide (b<0)))] ?_
 by_cases c1:b<0
 ·have b2:(decide (b<0))=true:=zX c1
  refine bJ [(2,vi b),(3,vi d),(9,vp (some xA)),(19,.bool true)] (by rw[b2]) ?_
  refine T_nd 12 [19] [(16,.bool true)]<| zq<| S_bd 16 (b:=true) (v:=((((decide (b<0)) || (decide (b>=4))) || (decide (d<0))) || (decide (d>5)))) (by simp only[b2,BL]) ?_
  exact hk
 have b2:(decide (b<0))=false:=zQ c1
 refine bJ [(2,vi b),(3,vi d),(9,vp (some xA)),(19,.bool false)] (by rw[b2]) ?_
 refine T_nd 4 [19] [(23,.bool (decide (b>=4)))] ?_
 by_cases c3:b>=4
 ·have b4:(decide (b>=4))=true:=zX c3
  refine N_bd 23 b4<| T_nd 8 [23] [(16,.bool true)] ?_
  refine zq<| S_bd 16 (b:=true) (v:=((((decide (b<0)) || (decide (b>=4))) || (decide (d<0))) || (decide (d>5)))) (by simp only[b2,b4,BL]) ?_
  exact hk
 have b4:(decide (b>=4))=false:=zQ c3
 refine N_bd 23 b4<| T_nd 4 [23] [(27,.bool (decide (d<0)))] ?_
 by_cases c5:d<0
 ·have b6:(decide (d<0))=true:=zX c5
  refine N_bd 27 b6<| T_nd 4 [27] [(16,.bool true)] ?_
  refine zq<| S_bd 16 (b:=true) (v:=((((decide (b<0)) || (decide (b>=4))) || (decide (d<0))) || (decide (d>5)))) (by simp only[b2,b4,b6,BL]) ?_
  exact hk
 have b6:(decide (d<0))=false:=zQ c5
 refine N_bd 27 b6<| T_nd 4 [27] [(16,.bool (decide (d>5)))] ?_
 refine zq<| S_bd 16 (b:=(decide (d>5))) (v:=((((decide (b<0)) || (decide (b>=4))) || (decide (d<0))) || (decide (d>5)))) (by simp only[b2,b4,b6,BL]) ?_
 exact hk
end eG

/-! (*moraine/seg.Mem).Bump -/
namespace dV
def K0:=Func.code Tryz.f89
end dV
def dV.pt(m:zW)(a nv:Int)(H:zV)(R:zk):Prop:=
 dL.C m a H (λv H1=> ∃x:zW,v=.pointer x/\
 dM x (
 R (.tuple #[.int .i64 0,.int .i64 19]) H1) (λxA=>
 if nv<1 then(
 R (.tuple #[.int .i64 0,.int .i64 1]) H1)
 else
 ∃b:Int,hat H1 (xA.add 2)=some (.int .i64 b)/\
 if nv>(zY (64-b))then(
 R (.tuple #[.int .i64 0,.int .i64 2]) H1)
 else
 ∃d:Int,hat H1 (xA.add 2)=some (.int .i64 d)/\
 (aI H1 (xA.add 2) 0 1)/\ ∀H2,H2=aO H1 (xA.add 2) [.int .i64 (zY (d+nv))] 0->
 ∃f:Int,hat H2 (xA.add 2)=some (.int .i64 f)/\
 R (.tuple #[.int .i64 (zY ((zY ((zY (a*64))+f))-nv)),.int .i64 0]) H2))
namespace dV
theorem link{m:zW}{a nv:Int}{H:zV}{R:zk}(h:pt m a nv H R):C m a nv H R:=by
 refine T_en K0 47 Tryz.func89 ?_
 intro w0 Q hQ
 unfold pt zY at h
 refine T_su [(0,vp m),(1,vi a),(2,vi nv)]<| ar 0<| T_ed 2 [] []<| ar 1<| T_nd 2 [0] [(9,vp m),(10,vi a)]<| T_c (some 11) h ?_;clear h
 rintro v H1 ⟨x,rfl,h⟩
 refine T_pd [9,10] [(11,vp x)]<| T_ed 1 [11] [(8,vp x)]<| T_sz<| T_bz 0<| ar 2<| T_nd 1 [] [(13,vp x)] ?_
 rcases x with _ | xA
 ·rw[onPtr_none]at h
  exact T_ed 2 [8,13] [(8,vp none),(12,.bool true)]<| T_tz 12<| ar 3<| T_nr 2 [6,7] [vi 0,vi 19] hQ h
 rw[onPtr_some]at h
 refine T_ed 2 [8,13] [(8,vp (some xA)),(12,.bool false)]<| T_fz 12<| ar 4<| T_ed 3 [12] [(15,.bool (decide (nv<1)))] ?_
 by_cases c1:nv<1
 ·rw[if_pos c1]at h
  exact aF 15 (zX c1)<| ar 5<| T_nr 2 [6,7] [vi 0,vi 1] hQ h
 rw[if_neg c1]at h
 refine aE 15 (zQ c1)<| ar 6<| T_nd 5 [15] [(19,vi nv),(23,vp (some (xA.add 2)))] ?_
 obtain⟨b,q3,h⟩:=h
 refine T_l1 24 3 q3 [23]<| T_ed 3 [19,24] [(18,.bool (decide (nv>(zY (64-b)))))] ?_
 by_cases c4:nv>(zY (64-b))
 ·rw[if_pos c4]at h
  exact aF 18 (zX c4)<| ar 7<| T_nr 2 [6,7] [vi 0,vi 2] hQ h
 rw[if_neg c4]at h
 refine aE 18 (zQ c4)<| T_k<| aB<| aC<| ar 8<| T_nd 4 [18] [(27,vp (some xA)),(30,vp (some (xA.add 2)))] ?_
 obtain⟨d,q6,h⟩:=h
 refine T_l1 31 3 q6 [30]<| T_nd 5 [27,31] [(33,vi (zY (d+nv))),(36,vp (some (xA.add 2)))] ?_
 obtain⟨q8,h⟩:=h
 refine eq 3 (vi (zY (d+nv))) q8 ?_
 intro H2 e7
 replace h:=h H2 e7
 refine T_pd [33,36] []<| T_e<| ar 9<| T_nd 6 [1,8] [(38,vi (zY (a*64))),(42,vp (some (xA.add 2)))] ?_
 obtain⟨f,q9,h⟩:=h
 exact T_l1 43 3 q9 [42]<| T_nr 5 [6,7] [vi (zY ((zY ((zY (a*64))+f))-nv)),vi 0] hQ h
end dV

/-! (*moraine/seg.Mem).Take -/
namespace eI
def K0:=Func.code Tryz.f90
def K2:=cb K0
def K4:=cb K2
def K19:=cb K4
def K20:=ca K19
def K21:=cb K19
def K22:=ca K20
def K23:=ca K22
def K32:=cb K21
def K34:=cb K32
def K35:=ca K34
end eI
def eI.pt(m:zW)(d b:Int)(H:zV)(R:zk):Prop:=
 dM m (
 R (.tuple #[.int .i64 0,.int .i64 1]) H) (λmA=>
 if d<0 then(
 R (.tuple #[.int .i64 0,.int .i64 1]) H)
 else
 if d>4 then(
 R (.tuple #[.int .i64 0,.int .i64 1]) H)
 else
 if b<0 then(
 R (.tuple #[.int .i64 0,.int .i64 1]) H)
 else
 if b>3 then(
 R (.tuple #[.int .i64 0,.int .i64 1]) H)
 else
 ∃(xB:zW) (xN xC:Nat),hat H mA=some (.slice xB xN xC)/\
 if(xN:Int)=0 then(
 R (.tuple #[.int .i64 0,.int .i64 1]) H)
 else
 ∃x:Int,hat H (mA.add 2)=some (.int .i64 x)/\
 if x=0 then(
 R (.tuple #[.int .i64 0,.int .i64 2]) H)
 else
 ∃(z:zv) (m24:Int->zV->Nat),z 0 H/\ ∀(k:Int) (H1:zV),z k H1->
 ∃(y:zW) (p q:Nat),hat H1 mA=some (.slice y p q)/\
 ∃o:Addr,y=some o/\
 zw k p/\
 ∃r:Int,hat H1 ((o.add (Int.toNat k*72)).add 7)=some (.int .i64 r)/\
 if r>0 then(
 (z (zY (k+1)) H1/\m24 (zY (k+1)) H1<m24 k H1))
 else
 ∃u:Int,hat H1 (mA.add 1)=some (.int .i64 u)/\
 (aI H1 (mA.add 1) 0 1)/\ ∀H2,H2=aO H1 (mA.add 1) [.int .i64 (zY (u+1))] 0->
 ∃s:Int,hat H2 (mA.add 2)=some (.int .i64 s)/\
 (aI H2 (mA.add 2) 0 1)/\ ∀H3,H3=aO H2 (mA.add 2) [.int .i64 (zY (s-1))] 0->
 ∃(aa:zW) (g j:Nat),hat H3 mA=some (.slice aa g j)/\
 ∃l:Int,hat H3 (mA.add 1)=some (.int .i64 l)/\
 ∃f:Addr,aa=some f/\
 zw k g/\
 (aI H3 (f.add (Int.toNat k*72)) 0 72)/\ ∀H4,H4=aO H3 (f.add (Int.toNat k*72)) ([.int .i64 d,.int .i64 b,.int .i64 0,.int .i64 5,.int .i64 5,.int .i64 5,.int .i64 5,.int .i64 l]++List.replicate 64 (.int .u64 0):List Value) 0->
 R (.tuple #[.int .i64 k,.int .i64 0]) H4)
namespace eI
theorem link{m:zW}{d b:Int}{H:zV}{R:zk}(h:pt m d b H R):C m d b H R:=by
 refine T_en K0 83 Tryz.func90 ?_
 intro w0 Q hQ
 unfold pt zY at h
 refine T_su [(0,vp m),(1,vi d),(2,vi b)]<| ar 0<| T_ed 2 [] []<| T_sz<| T_bz 0<| ar 1<| T_nd 1 [] [(10,vp m)] ?_
 rcases m with _ | mA
 ·rw[onPtr_none]at h
  exact T_ed 26 [0,10] [(0,vp none),(9,.bool true)]<| T_tz 9<| ar 2<| T_nr 2 [6,7] [vi 0,vi 1] hQ h
 rw[onPtr_some]at h
 refine T_nd 6 [0,10] [(0,vp (some mA)),(16,.bool (decide (d<0)))] ?_
 by_cases c1:d<0
 ·rw[if_pos c1]at h
  exact N_bd 16 (zX c1)<| T_ed 20 [16] [(9,.bool true)]<| T_tz 9<| ar 2<| T_nr 2 [6,7] [vi 0,vi 1] hQ h
 rw[if_neg c1]at h
 refine N_bd 16 (zQ c1)<| T_nd 4 [16] [(20,.bool (decide (d>4)))] ?_
 by_cases c3:d>4
 ·rw[if_pos c3]at h
  exact N_bd 20 (zX c3)<| T_ed 16 [20] [(9,.bool true)]<| T_tz 9<| ar 2<| T_nr 2 [6,7] [vi 0,vi 1] hQ h
 rw[if_neg c3]at h
 refine N_bd 20 (zQ c3)<| T_nd 4 [20] [(24,.bool (decide (b<0)))] ?_
 by_cases c5:b<0
 ·rw[if_pos c5]at h
  exact N_bd 24 (zX c5)<| T_ed 12 [24] [(9,.bool true)]<| T_tz 9<| ar 2<| T_nr 2 [6,7] [vi 0,vi 1] hQ h
 rw[if_neg c5]at h
 refine N_bd 24 (zQ c5)<| T_nd 4 [24] [(28,.bool (decide (b>3)))] ?_
 by_cases c7:b>3
 ·rw[if_pos c7]at h
  exact N_bd 28 (zX c7)<| T_ed 8 [28] [(9,.bool true)]<| T_tz 9<| ar 2<| T_nr 2 [6,7] [vi 0,vi 1] hQ h
 rw[if_neg c7]at h
 refine N_bd 28 (zQ c7)<| T_nd 3 [] [(31,vp (some mA))] ?_
 obtain⟨xB,xN,xC,q9,h⟩:=h
 refine T_l1 32 140 q9 [31]<| T_ed 4 [28,32] [(9,.bool ((xN:Int)==0))] ?_
 by_cases c10:(xN:Int)=0
 ·rw[if_pos c10]at h
  exact aF 9 (zK c10)<| ar 2<| T_nr 2 [6,7] [vi 0,vi 1] hQ h
 rw[if_neg c10]at h
 refine aE 9 (zJ c10)<| ar 3<| T_nd 3 [9] [(39,vp (some (mA.add 2)))] ?_
 obtain⟨x,q12,h⟩:=h
 refine T_l1 40 3 q12 [39]<| T_ed 2 [40] [(36,.bool (x==0))] ?_
 by_cases c13:x=0
 ·rw[if_pos c13]at h
  exact aF 36 (zK c13)<| ar 4<| T_nr 2 [6,7] [vi 0,vi 2] hQ h
 rw[if_neg c13]at h
 refine aE 36 (zJ c13)<| T_k<| aB<| aC<| ar 5<| T_ed 1 [36] [(8,vi 0)]<| T_sz<| T_bz 1 ?_
 obtain⟨z,m24,i15,i16⟩:=h
 refine bO (x:=K23) (σ:=Int) (λs_=> [(0,vp (some mA)),(1,vi d),(2,vi b),(8,vi s_)]) (λs_ H=>z s_ H) (λs_ H=>m24 s_ H) (0:Int) (by kernel_rfl) i15 sk ?_
 rintro k H1 i17
 have h:=i16 k H1 i17
 refine T_su [(0,vp (some mA)),(1,vi d),(2,vi b),(8,vi k)]<| T_sz<| ar 6<| T_nd 3 [] [(44,vp (some mA))] ?_
 obtain⟨y,p,q,q18,h⟩:=h
 refine T_l1 45 140 q18 [44]<| T_nd 1 [] [(46,vi k)] ?_
 obtain⟨o,rfl,q19,h⟩:=h
 refine T_xd (some 47) 140 146 72 o p q .i64 k Tryz.underlying140 q19.1 q19.2 [45,46] [(47,vp (some (o.add (Int.toNat k*72))))]<| T_nd 1 [47] [(48,vp (some ((o.add (Int.toNat k*72)).add 7)))] ?_
 obtain⟨r,q20,h⟩:=h
 refine T_l1 49 3 q20 [48]<| T_ed 1 [49] [(50,.bool (decide (r>0)))] ?_
 by_cases c21:r>0
 ·rw[if_pos c21]at h
  exact aF 50 (zX c21)<| T_kt<| T_bz 2<| T_rz 7<| T_nd 3 [8,50] [(8,vi (zY (k+1)))]<| zq<| aB<| aC<| aK ((zY (k+1)):Int) sk h
 rw[if_neg c21]at h
 refine aE 50 (zQ c21)<| zj 1<| aA<| aA<| aH<| aC<| ar 8<| T_nd 3 [50] [(53,vp (some mA)),(55,vp (some (mA.add 1)))] ?_
 obtain⟨u,q23,h⟩:=h
 refine T_l1 56 3 q23 [55]<| T_nd 3 [53,56] [(57,vi (zY (u+1))),(59,vp (some (mA.add 1)))] ?_
 obtain⟨q25,h⟩:=h
 refine eq 3 (vi (zY (u+1))) q25 ?_
 intro H2 e24
 replace h:=h H2 e24
 refine T_pd [57,59] []<| T_e<| ar 9<| T_nd 3 [] [(60,vp (some mA)),(62,vp (some (mA.add 2)))] ?_
 obtain⟨s,q26,h⟩:=h
 refine T_l1 63 3 q26 [62]<| T_nd 3 [60,63] [(64,vi (zY (s-1))),(66,vp (some (mA.add 2)))] ?_
 obtain⟨q28,h⟩:=h
 refine eq 3 (vi (zY (s-1))) q28 ?_
 intro H3 e27
 replace h:=h H3 e27
 refine T_pd [64,66] []<| T_e<| T_sz ?_
 obtain⟨aa,g,j,q29,l,q30,f,rfl,q31,h⟩:=h
 refine yY 10 (Code.ops K35) [(15,mA,[vs (some f) g j]),(15,(mA.add 1),[vi l])] 16 (bv 16 0) (show aG _ _ _ from⟨⟨q29,trivial⟩,⟨q30,trivial⟩,trivial⟩)<| T_gp 0 (some 67) (vp (some mA)) (bv 16 1) [(0,vp (some mA)),(1,vi d),(2,vi b),(8,vi k),(67,vp (some mA))]<| aD 1 68 (vp (some mA)) (bv 16 3) [67]<| aD 2 69 (vp (some mA)) (bv 16 7) [68]<| T_g1 3 70 (vs (some f) g j) (bv 16 15) [69] (aS 140 (vp (some mA))) (yW 15 yZ)<| aD 4 71 (vi k) (bv 16 31) []<| aD 5 72 (vi d) (bv 16 63) [1]<| aD 6 73 (vi b) (bv 16 127) [2]<| aD 7 74 (.agg #[vi 5,vi 5,vi 5,vi 5]) (bv 16 255) []<| aD 8 75 (.agg #[vi d,vi b,vi 0,vi 5,vi 5,vi 5,vi 5]) (bv 16 511) [72,73,74]<| aD 9 76 (vp (some mA)) (bv 16 1023) [0]<| aD 10 77 (vp (some mA)) (bv 16 2047) [76]<| aD 11 78 (vp (some (mA.add 1))) (bv 16 4095) [77]<| T_g1 12 79 (vi l) (bv 16 8191) [78] (aS 3 (vp (some (mA.add 1)))) (yW 15 yX)<| aD 13 80 (.agg ([vi d,vi b,vi 0,vi 5,vi 5,vi 5,vi 5,vi l]++List.replicate 64 (vu 0):List Value).toArray) (bv 16 16383) [75,79]<| T_g1 14 81 (vp (some (f.add (Int.toNat k*72)))) (bv 16 32767) [70,71] (aR 140 (vs (some f) g j) (vi k)) (λ_ w _ _ _=>gu (P:=Tryz.prog) (t:=140) (elem:=146) (sz:=72) (a:=f) (len:=g) (cap:=j) (k:=.i64) (i:=k) Tryz.underlying140 (λ_=>by kernel_rfl) q31.1 q31.2 w) ?_
 obtain⟨q33,h⟩:=h
 refine fg 15 none (bv 16 65535) (gH 146 (vp (some (f.add (Int.toNat k*72)))) (.agg ([vi d,vi b,vi 0,vi 5,vi 5,vi 5,vi 5,vi l]++List.replicate 64 (vu 0):List Value).toArray)) (λHz=>Hz=aO H3 (f.add (Int.toNat k*72)) ([vi d,vi b,vi 0,vi 5,vi 5,vi 5,vi 5,vi l]++List.replicate 64 (vu 0):List Value) 0) (by kernel_rfl) (λ_=>by kernel_rfl) (by intro w hw;obtain⟨w1,g1,g2,g3⟩:=fX (P:=Tryz.prog) (H:=H3) (t:=146) (a:=(f.add (Int.toNat k*72))) (v:=(.agg ([vi d,vi b,vi 0,vi 5,vi 5,vi 5,vi 5,vi l]++List.replicate 64 (vu 0):List Value).toArray)) ([vi d,vi b,vi 0,vi 5,vi 5,vi 5,vi 5,vi l]++List.replicate 64 (vu 0):List Value) 72 (by kernel_rfl) (by kernel_rfl) (λ_=>by kernel_rfl) (by kernel_rfl) q33 w hw;exact⟨w1,g1,g2,g3⟩) (by kernel_rfl) ?_
 intro H4 e32
 replace h:=h H4 e32
 refine⟨[(8,vi k)],pk,(show aG _ _ _ from⟨trivial,trivial,trivial⟩),?_⟩
 refine eR [(8,vi k)] sk ?_
 exact yx<| aC<| ar 11<| T_nr 3 [6,7] [vi k,vi 0] hQ h
end eI

/-! (*moraine/seg.Mem).word -/
namespace dW
def K0:=Func.code Tryz.f91
end dW
def dW.pt(m:zW)(b:Int)(H:zV)(R:zk):Prop:=
 if b<0 then(
 R (.pointer none) H)
 else
 dL.C m (zY (Int.tdiv b 64)) H (λv H1=> ∃x:zW,v=.pointer x/\
 dM x (
 R (.pointer none) H1) (λxA=>
 ∃d:Int,hat H1 (xA.add 2)=some (.int .i64 d)/\
 if(Int.tmod b 64)>=d then(
 R (.pointer none) H1)
 else
 ((0:Int)<=(Int.tmod b 64)/\(Int.tmod b 64)< (64:Int))/\
 R (.pointer (some ((xA.add 8).add (Int.toNat (Int.tmod b 64)*1)))) H1))
namespace dW
theorem link{m:zW}{b:Int}{H:zV}{R:zk}(h:pt m b H R):C m b H R:=by
 refine T_en K0 30 Tryz.func91 ?_
 intro w0 Q hQ
 unfold pt zY at h
 refine T_su [(0,vp m),(1,vi b)]<| ar 0<| T_ed 1 [] []<| T_sz<| ar 1<| T_ed 2 [] [(7,.bool (decide (b<0)))] ?_
 by_cases c1:b<0
 ·rw[if_pos c1]at h
  exact aF 7 (zX c1)<| ar 2<| T_nr 1 [4] [vp none] hQ h
 rw[if_neg c1]at h
 refine aE 7 (zQ c1)<| T_kt<| ar 3<| T_nd 3 [0,7] [(8,vp m),(10,vi (zY (Int.tdiv b 64)))]<| T_c (some 11) h ?_;clear h
 rintro v H1 ⟨x,rfl,h⟩
 refine T_pd [8,10] [(11,vp x)]<| T_ed 1 [11] [(5,vp x)]<| T_sz<| ar 4<| T_nd 1 [] [(12,vp x)] ?_
 rcases x with _ | xA
 ·rw[onPtr_none]at h
  exact T_ed 11 [5,12] [(5,vp none),(23,.bool true)]<| T_tz 23<| ar 5<| T_nr 1 [4] [vp none] hQ h
 rw[onPtr_some]at h
 refine T_nd 8 [5,12] [(5,vp (some xA)),(14,.bool false),(16,vi (Int.tmod b 64)),(20,vp (some (xA.add 2)))] ?_
 obtain⟨d,q3,h⟩:=h
 refine T_l1 21 3 q3 [20]<| T_ed 2 [14,16,21] [(23,.bool (decide ((Int.tmod b 64)>=d)))] ?_
 by_cases c4:(Int.tmod b 64)>=d
 ·rw[if_pos c4]at h
  exact aF 23 (zX c4)<| ar 5<| T_nr 1 [4] [vp none] hQ h
 rw[if_neg c4]at h
 refine aE 23 (zQ c4)<| T_kt<| ar 6<| T_n 5 [(26,vi (Int.tmod b 64)),(28,vp (some (xA.add 8)))] ?_
 obtain⟨q6,h⟩:=h
 exact T_v1 29 (aR 144 (vp (some (xA.add 8))) (vi (Int.tmod b 64))) (vp (some ((xA.add 8).add (Int.toNat (Int.tmod b 64)*1)))) (λw _=>aN (P:=Tryz.prog) (t:=144) (elem:=33) (sz:=1) (n:=64) (a:=(xA.add 8)) (k:=.i64) (i:=(Int.tmod b 64)) Tryz.underlying144 (λ_=>by kernel_rfl) q6.1 q6.2 w) [26,28]<| T_nr 1 [4] [vp (some ((xA.add 8).add (Int.toNat (Int.tmod b 64)*1)))] hQ h
end dW

/-! moraine/seg.New -/
namespace io
def K0:=Func.code Tryz.f100
end io
def io.pt(a:Int)(H:zV)(R:zk):Prop:=
 if((decide (a<8)) || (decide (a>1024)))=true then(
 R (.tuple #[.pointer none,.int .i64 1]) H)
 else
 0<=a/\a<=a/\576*a<=2 ^ 48/\a<=9223372036854775807/\
 ∀(b:Nat) (H1:zV),b=H.size->H1=H.push (.cells (Builtin.zeroCells (List.replicate 8 (.int .i64 0)++List.replicate 64 (.int .u64 0):List Value).toArray (Int.toNat a)) 146)->
 ∀(d:Nat) (H2:zV),d=H1.size->H2=H1.push (.cells #[.slice (some (ad b)) (Int.toNat a) (Int.toNat a),.int .i64 0,.int .i64 a] 142)->
 R (.tuple #[.pointer (some (ad d)),.int .i64 0]) H2
namespace io
theorem link{a:Int}{H:zV}{R:zk}(h:pt a H R):C a H R:=by
 refine T_en K0 15 Tryz.func100 ?_
 intro w0 Q hQ
 unfold pt at h
 refine T_su [(0,vi a)]<| ar 0<| T_ed 2 [] []<| T_sz<| ar 1 ?_
 refine eQ [(0,vi a),(9,.bool ((decide (a<8)) || (decide (a>1024))))] ?_ ?_
 ·refine aC ?_
  by_cases c3:((decide (a<8)) || (decide (a>1024)))=true
  ·rw[if_pos c3]at h
   exact aF 9 c3<| ar 2<| T_nr 2 [2,3] [vp none,vi 1] hQ h
  rw[if_neg c3]at h
  refine aE 9 (zZ c3)<| T_kt<| ar 3<| T_n 1 [(0,vi a),(10,vi a)] ?_
  obtain⟨q5,q6,q7,q8,h⟩:=h
  refine N_op (some 11) (iy 140 (vi a) (vi a)) (λv Hz=>v=Value.slice (some (Addr.mk H.size 0 none)) (Int.toNat a) (Int.toNat a)/\Hz=H.push (.cells (Builtin.zeroCells (List.replicate 8 (vi 0)++List.replicate 64 (vu 0):List Value).toArray (Int.toNat a)) 146)) (λ_=>by kernel_rfl) (nk (T:=146) (zero:=.agg (List.replicate 8 (vi 0)++List.replicate 64 (vu 0):List Value).toArray) Tryz.underlying140 (show Tryz.prog.info? 146=some Tryz.t146 from by kernel_rfl) (by kernel_rfl) q5 q6 q7 q8 (by kernel_rfl) (by decide)) ?_
  rintro _ H1 ⟨rfl,e10⟩
  obtain⟨b,e9⟩: ∃b,b=H.size:=⟨_,rfl⟩
  replace h:=h b H1 e9 e10
  rw[<-e9]
  refine T_pd [10] [(11,vs (pa b) (Int.toNat a) (Int.toNat a))]<| T_n 2 [(13,.agg #[vs (pa b) (Int.toNat a) (Int.toNat a),vi 0,vi a])]<| T_nw (some 14) (λb=>vp (pa b)) (.cells #[vs (pa b) (Int.toNat a) (Int.toNat a),vi 0,vi a] 142) ?_
  intro d H2 e11 e12
  replace h:=h d H2 e11 e12
  refine⟨[(14,vp (pa d))],pk,?_⟩
  exact T_nr 2 [2,3] [vp (pa d),vi 0] hQ h
 intro hk
 refine T_n 3 [(0,vi a),(6,.bool (decide (a<8)))] ?_
 by_cases c1:a<8
 ·have b2:(decide (a<8))=true:=zX c1
  refine bJ [(0,vi a),(6,.bool true)] (by rw[b2]) ?_
  refine T_nd 3 [6] [(9,.bool true)]<| zq<| S_bd 9 (b:=true) (v:=((decide (a<8)) || (decide (a>1024)))) (by simp only[b2,BL]) ?_
  exact hk
 have b2:(decide (a<8))=false:=zQ c1
 refine bJ [(0,vi a),(6,.bool false)] (by rw[b2]) ?_
 refine T_nd 3 [6] [(9,.bool (decide (a>1024)))]<| zq<| S_bd 9 (b:=(decide (a>1024))) (v:=((decide (a<8)) || (decide (a>1024)))) (by simp only[b2,BL]) ?_
 exact hk
end io

