/- Printed: what each function asks, and that it is sound. -/
import Derived.Test.YtmlhlkbpglcccaaGreatFnsC
set_option linter.unusedSimpArgs false
set_option linter.unusedVariables false
set_option maxRecDepth 100000
set_option maxHeartbeats 1000000
noncomputable section
namespace Go.Proofs.YtmlhlkbpglcccaaGreat
open Go
/-! (*moraine/seg.Mem).Read -/
namespace bQ
def K0:=Func.code Tryz.f35
end bQ
def bQ.pt(m:zW)(a:Int)(H:zV)(R:zj):Prop:=
 dK.C m a H (λv H1=> ∃x:zW,v=.pointer x/\
 ei x (
 R (.tuple #[.int .u64 0,.int .i64 18]) H1) (λxA=>
 ∃b:Int,hat H1 xA=some (.int .u64 b)/\
 R (.tuple #[.int .u64 b,.int .i64 0]) H1))
namespace bQ
theorem link{m:zW}{a:Int}{H:zV}{R:zj}(h:pt m a H R):C m a H R:=by
 refine T_en K0 15 Tryz.func35 ?_
 intro w0 Q hQ
 unfold pt at h
 refine T_su [(0,vp m),(1,vi a)]<| ar 0<| T_ed 2 [] []<| T_sz<| ar 1<| T_n 2 [(7,vp m),(8,vi a)]<| T_c (some 9) h ?_;clear h
 rintro v H1 ⟨x,rfl,h⟩
 refine⟨[(9,vp x)],pk,?_⟩
 refine T_ne 1 [(6,vp x)]<| ar 2<| T_nd 1 [] [(10,vp x)] ?_
 rcases x with _ | xA
 ·rw[onPtr_none]at h
  exact T_ne 1 [(6,vp none),(11,.bool false)]<| T_fz 11<| T_kt<| ar 4<| T_nr 2 [4,5] [vu 0,vi 18] hQ h
 rw[onPtr_some]at h
 refine T_ne 1 [(6,vp (some xA)),(11,.bool true)]<| T_tz 11<| ar 3<| T_n 2 [(13,vp (some xA))] ?_
 obtain⟨b,q1,h⟩:=h
 exact T_l1 14 28 q1 [13]<| T_nr 2 [4,5] [vu b,vi 0] hQ h
end bQ

/-! (*moraine/seg.Mem).Seg -/
namespace bE
def K0:=Func.code Tryz.f43
end bE
def bE.pt(m:zW)(u:Int)(H:zV)(R:zj):Prop:=
 ∀(b:Nat) (H1:zV),b=H.size->H1=H.push (.cells #[.int .i64 0,.int .i64 0,.int .i64 0,.int .i64 0,.int .i64 0,.int .i64 0,.int .i64 0] 102)->
 dy.C m u H1 (λv H2=> ∃x:zW,v=.pointer x/\
 ei x (
 (aK H2 (ad b) 0 7)/\ ∀H3,H3=aS H2 (ad b) [.int .i64 0,.int .i64 0,.int .i64 0,.int .i64 0,.int .i64 0,.int .i64 0,.int .i64 0] 0->
 ∃z y rN o p n q:Int,aT H3 (ad b) 0 [.int .i64 z,.int .i64 y,.int .i64 rN,.int .i64 o,.int .i64 p,.int .i64 n,.int .i64 q]/\
 R (.tuple #[.agg #[.int .i64 z,.int .i64 y,.int .i64 rN,.int .i64 o,.int .i64 p,.int .i64 n,.int .i64 q],.bool false]) H3) (λxA=>
 ∃r l xN d f a e:Int,aT H2 xA 0 [.int .i64 r,.int .i64 l,.int .i64 xN,.int .i64 d,.int .i64 f,.int .i64 a,.int .i64 e]/\
 (aK H2 (ad b) 0 7)/\ ∀H4,H4=aS H2 (ad b) [.int .i64 r,.int .i64 l,.int .i64 xN,.int .i64 d,.int .i64 f,.int .i64 a,.int .i64 e] 0->
 ∃t s aa g i j k:Int,aT H4 (ad b) 0 [.int .i64 t,.int .i64 s,.int .i64 aa,.int .i64 g,.int .i64 i,.int .i64 j,.int .i64 k]/\
 R (.tuple #[.agg #[.int .i64 t,.int .i64 s,.int .i64 aa,.int .i64 g,.int .i64 i,.int .i64 j,.int .i64 k],.bool true]) H4))
namespace bE
theorem link{m:zW}{u:Int}{H:zV}{R:zj}(h:pt m u H R):C m u H R:=by
 refine T_en K0 17 Tryz.func43 ?_
 intro w0 Q hQ
 unfold pt at h
 refine T_su [(0,vp m),(1,vi u)]<| ar 0<| T_nw (some 4) (λb=>vp (pa b)) (.cells #[vi 0,vi 0,vi 0,vi 0,vi 0,vi 0,vi 0] 102) ?_
 intro b H1 e1 e2
 replace h:=h b H1 e1 e2
 refine T_pd [] [(4,vp (pa b))]<| T_ed 1 [] []<| ar 1<| T_nd 2 [0,1] [(7,vp m),(8,vi u)]<| T_c (some 9) h ?_;clear h
 rintro v H2 ⟨x,rfl,h⟩
 refine T_pd [7,8] [(9,vp x)]<| T_ed 1 [9] [(6,vp x)]<| T_sz<| ar 2<| T_nd 1 [] [(10,vp x)] ?_
 rcases x with _ | xA
 ·rw[onPtr_none]at h
  refine T_ed 1 [6,10] [(6,vp none),(11,.bool true)]<| T_tz 11<| ar 3<| T_nd 1 [6,11] [(12,.agg #[vi 0,vi 0,vi 0,vi 0,vi 0,vi 0,vi 0])] ?_
  obtain⟨q4,h⟩:=h
  refine fl 102 [vi 0,vi 0,vi 0,vi 0,vi 0,vi 0,vi 0] q4 ?_
  intro H3 e3
  replace h:=h H3 e3
  refine T_pd [12] []<| T_ed 1 [] [(5,.bool false)]<| mp (by kernel_rfl) ?_
  show At _ _ _ _ _ (Q .ret)
  obtain⟨z,y,rN,o,p,n,q,q5,h⟩:=h
  exact lJ (fn:=Tryz.f43) [.agg #[vi z,vi y,vi rN,vi o,vi p,vi n,vi q],.bool false] hQ (show dU _ _ _ [.cell 4 102,.tmp 5] _ from .cell (by kernel_rfl) (eK (λ_=>by kernel_rfl) (λ_=>by kernel_rfl) q5) (.tmp (by kernel_rfl) (.nil))) h
 rw[onPtr_some]at h
 refine T_ed 1 [6,10] [(6,vp (some xA)),(11,.bool false)]<| T_fz 11<| T_kt<| ar 4<| T_nd 3 [6,11] [(15,vp (some xA))] ?_
 obtain⟨r,l,xN,d,f,a,e,q6,h⟩:=h
 refine T_lr 16 102 q6 [15] ?_
 obtain⟨q8,h⟩:=h
 refine fl 102 [vi r,vi l,vi xN,vi d,vi f,vi a,vi e] q8 ?_
 intro H4 e7
 replace h:=h H4 e7
 refine T_pd [16] []<| T_ed 1 [] [(5,.bool true)]<| mp (by kernel_rfl) ?_
 show At _ _ _ _ _ (Q .ret)
 obtain⟨t,s,aa,g,i,j,k,q9,h⟩:=h
 exact lJ (fn:=Tryz.f43) [.agg #[vi t,vi s,vi aa,vi g,vi i,vi j,vi k],.bool true] hQ (show dU _ _ _ [.cell 4 102,.tmp 5] _ from .cell (by kernel_rfl) (eK (λ_=>by kernel_rfl) (λ_=>by kernel_rfl) q9) (.tmp (by kernel_rfl) (.nil))) h
end bE

/-! (*moraine/seg.Mem).Write -/
namespace bK
def K0:=Func.code Tryz.f50
end bK
def bK.pt(m:zW)(a wv:Int)(H:zV)(R:zj):Prop:=
 dK.C m a H (λv H1=> ∃x:zW,v=.pointer x/\
 ei x (
 R (.int .i64 18) H1) (λxA=>
 (aK H1 xA 0 1)/\ ∀H2,H2=aS H1 xA [.int .u64 wv] 0->
 R (.int .i64 0) H2))
namespace bK
theorem link{m:zW}{a wv:Int}{H:zV}{R:zj}(h:pt m a wv H R):C m a wv H R:=by
 refine T_en K0 16 Tryz.func50 ?_
 intro w0 Q hQ
 unfold pt at h
 refine T_su [(0,vp m),(1,vi a),(2,vu wv)]<| ar 0<| T_ed 1 [] []<| ar 1<| T_nd 2 [0,1] [(8,vp m),(9,vi a)]<| T_c (some 10) h ?_;clear h
 rintro v H1 ⟨x,rfl,h⟩
 refine T_pd [8,9] [(10,vp x)]<| T_ed 1 [10] [(7,vp x)]<| T_sz<| ar 2<| T_nd 1 [] [(11,vp x)] ?_
 rcases x with _ | xA
 ·rw[onPtr_none]at h
  exact T_ed 1 [7,11] [(7,vp none),(12,.bool true)]<| T_tz 12<| ar 3<| T_nr 1 [6] [vi 18] hQ h
 rw[onPtr_some]at h
 refine T_ed 1 [7,11] [(7,vp (some xA)),(12,.bool false)]<| T_fz 12<| T_kt<| ar 4<| T_n 3 [(14,vu wv),(15,vp (some xA))] ?_
 obtain⟨q2,h⟩:=h
 refine fE 28 (vu wv) q2 ?_
 intro H2 e1
 replace h:=h H2 e1
 refine⟨[],pk,?_⟩
 exact T_e<| ar 5<| T_nr 1 [6] [vi 0] hQ h
end bK

/-! (*moraine/seg.Mem).word -/
namespace dK
def K0:=Func.code Tryz.f72
end dK
def dK.pt(m:zW)(b:Int)(H:zV)(R:zj):Prop:=
 if b<0 then(
 R (.pointer none) H)
 else
 dy.C m (zY (Int.tdiv b 64)) H (λv H1=> ∃x:zW,v=.pointer x/\
 ei x (
 R (.pointer none) H1) (λxA=>
 ∃d:Int,hat H1 (xA.add 2)=some (.int .i64 d)/\
 if(Int.tmod b 64)>=d then(
 R (.pointer none) H1)
 else
 ((0:Int)<=(Int.tmod b 64)/\(Int.tmod b 64)< (64:Int))/\
 R (.pointer (some ((xA.add 8).add (Int.toNat (Int.tmod b 64)*1)))) H1))
namespace dK
theorem link{m:zW}{b:Int}{H:zV}{R:zj}(h:pt m b H R):C m b H R:=by
 refine T_en K0 30 Tryz.func72 ?_
 intro w0 Q hQ
 unfold pt zY at h
 refine T_su [(0,vp m),(1,vi b)]<| ar 0<| T_ed 1 [] []<| T_sz<| ar 1<| T_ed 2 [] [(7,.bool (decide (b<0)))] ?_
 by_cases c1:b<0
 ·rw[if_pos c1]at h
  exact aI 7 (zX c1)<| ar 2<| T_nr 1 [4] [vp none] hQ h
 rw[if_neg c1]at h
 refine aJ 7 (zQ c1)<| T_kt<| ar 3<| T_nd 3 [0,7] [(8,vp m),(10,vi (zY (Int.tdiv b 64)))]<| T_c (some 11) h ?_;clear h
 rintro v H1 ⟨x,rfl,h⟩
 refine T_pd [8,10] [(11,vp x)]<| T_ed 1 [11] [(5,vp x)]<| T_sz<| ar 4<| T_nd 1 [] [(12,vp x)] ?_
 rcases x with _ | xA
 ·rw[onPtr_none]at h
  exact T_ed 11 [5,12] [(5,vp none),(23,.bool true)]<| T_tz 23<| ar 5<| T_nr 1 [4] [vp none] hQ h
 rw[onPtr_some]at h
 refine T_nd 8 [5,12] [(5,vp (some xA)),(14,.bool false),(16,vi (Int.tmod b 64)),(20,vp (some (xA.add 2)))] ?_
 obtain⟨d,q3,h⟩:=h
 refine T_l1 21 3 q3 [20]<| T_ed 2 [14,16,21] [(23,.bool (decide ((Int.tmod b 64)>=d)))] ?_
 by_cases c4:(Int.tmod b 64)>=d
 ·rw[if_pos c4]at h
  exact aI 23 (zX c4)<| ar 5<| T_nr 1 [4] [vp none] hQ h
 rw[if_neg c4]at h
 refine aJ 23 (zQ c4)<| T_kt<| ar 6<| T_n 5 [(26,vi (Int.tmod b 64)),(28,vp (some (xA.add 8)))] ?_
 obtain⟨q6,h⟩:=h
 exact T_v1 29 (aX 142 (vp (some (xA.add 8))) (vi (Int.tmod b 64))) (vp (some ((xA.add 8).add (Int.toNat (Int.tmod b 64)*1)))) (λw _=>bJ (P:=Tryz.prog) (t:=142) (elem:=28) (sz:=1) (n:=64) (a:=(xA.add 8)) (k:=.i64) (i:=(Int.tmod b 64)) Tryz.underlying142 (λ_=>by kernel_rfl) q6.1 q6.2 w) [26,28]<| T_nr 1 [4] [vp (some ((xA.add 8).add (Int.toNat (Int.tmod b 64)*1)))] hQ h
end dK

/-! (*moraine/seg.Mem).at -/
namespace dy
def K0:=Func.code Tryz.f80
end dy
def dy.pt(m:zW)(b:Int)(H:zV)(R:zj):Prop:=
 ei m (
 R (.pointer none) H) (λmA=>
 if b<0 then(
 R (.pointer none) H)
 else
 ∃(xB:zW) (xN xC:Nat),hat H mA=some (.slice xB xN xC)/\
 if b>=(xN:Int)then(
 R (.pointer none) H)
 else
 ∃(n:zW) (g j:Nat),hat H mA=some (.slice n g j)/\
 ∃d:Addr,n=some d/\
 zv b g/\
 ∃x:Int,hat H ((d.add (Int.toNat b*72)).add 7)=some (.int .i64 x)/\
 if x=0 then(
 R (.pointer none) H)
 else
 ∃(o:zW) (f l:Nat),hat H mA=some (.slice o f l)/\
 ∃e:Addr,o=some e/\
 zv b f/\
 R (.pointer (some (e.add (Int.toNat b*72)))) H)
namespace dy
theorem link{m:zW}{b:Int}{H:zV}{R:zj}(h:pt m b H R):C m b H R:=by
 refine T_en K0 37 Tryz.func80 ?_
 intro w0 Q hQ
 unfold pt at h
 refine T_su [(0,vp m),(1,vi b)]<| ar 0<| T_ed 1 [] []<| T_sz<| ar 1<| T_nd 1 [] [(5,vp m)] ?_
 rcases m with _ | mA
 ·rw[onPtr_none]at h
  exact T_ed 25 [0,5] [(0,vp none),(30,.bool true)]<| T_tz 30<| ar 2<| T_nr 1 [4] [vp none] hQ h
 rw[onPtr_some]at h
 refine T_nd 6 [0,5] [(0,vp (some mA)),(11,.bool (decide (b<0)))] ?_
 by_cases c1:b<0
 ·rw[if_pos c1]at h
  exact N_bd 11 (zX c1)<| T_ed 19 [11] [(30,.bool true)]<| T_tz 30<| ar 2<| T_nr 1 [4] [vp none] hQ h
 rw[if_neg c1]at h
 refine N_bd 11 (zQ c1)<| T_nd 4 [] [(12,vi b),(15,vp (some mA))] ?_
 obtain⟨xB,xN,xC,q3,h⟩:=h
 refine T_l1 16 138 q3 [15]<| T_nd 4 [11,12,16] [(20,.bool (decide (b>=(xN:Int))))] ?_
 by_cases c4:b>=(xN:Int)
 ·rw[if_pos c4]at h
  exact N_bd 20 (zX c4)<| T_ed 10 [20] [(30,.bool true)]<| T_tz 30<| ar 2<| T_nr 1 [4] [vp none] hQ h
 rw[if_neg c4]at h
 refine N_bd 20 (zQ c4)<| T_nd 3 [] [(23,vp (some mA))] ?_
 obtain⟨n,g,j,q6,h⟩:=h
 refine T_l1 24 138 q6 [23]<| T_nd 1 [] [(25,vi b)] ?_
 obtain⟨d,rfl,q7,h⟩:=h
 refine T_xd (some 26) 138 144 72 d g j .i64 b Tryz.underlying138 q7.1 q7.2 [24,25] [(26,vp (some (d.add (Int.toNat b*72))))]<| T_nd 1 [26] [(27,vp (some ((d.add (Int.toNat b*72)).add 7)))] ?_
 obtain⟨x,q8,h⟩:=h
 refine T_l1 28 3 q8 [27]<| T_ed 2 [20,28] [(30,.bool (x==0))] ?_
 by_cases c9:x=0
 ·rw[if_pos c9]at h
  exact aI 30 (zK c9)<| ar 2<| T_nr 1 [4] [vp none] hQ h
 rw[if_neg c9]at h
 refine aJ 30 (zJ c9)<| T_kt<| ar 3<| T_nd 3 [0,30] [(33,vp (some mA))] ?_
 obtain⟨o,f,l,q11,h⟩:=h
 refine T_l1 34 138 q11 [33]<| T_nd 1 [1] [(35,vi b)] ?_
 obtain⟨e,rfl,q12,h⟩:=h
 exact T_ix (some 36) 138 144 72 e f l .i64 b Tryz.underlying138 q12.1 q12.2 [(36,vp (some (e.add (Int.toNat b*72))))]<| T_nr 1 [4] [vp (some (e.add (Int.toNat b*72)))] hQ h
end dy

/-! (*moraine/seg.Mem).Bump -/
namespace dM
def K0:=Func.code Tryz.f87
end dM
def dM.pt(m:zW)(a nv:Int)(H:zV)(R:zj):Prop:=
 dy.C m a H (λv H1=> ∃x:zW,v=.pointer x/\
 ei x (
 R (.tuple #[.int .i64 0,.int .i64 19]) H1) (λxA=>
 if nv<1 then(
 R (.tuple #[.int .i64 0,.int .i64 1]) H1)
 else
 ∃d:Int,hat H1 (xA.add 2)=some (.int .i64 d)/\
 if nv>(zY (64-d))then(
 R (.tuple #[.int .i64 0,.int .i64 2]) H1)
 else
 ∃b:Int,hat H1 (xA.add 2)=some (.int .i64 b)/\
 (aK H1 (xA.add 2) 0 1)/\ ∀H2,H2=aS H1 (xA.add 2) [.int .i64 (zY (b+nv))] 0->
 ∃e:Int,hat H2 (xA.add 2)=some (.int .i64 e)/\
 R (.tuple #[.int .i64 (zY ((zY ((zY (a*64))+e))-nv)),.int .i64 0]) H2))
namespace dM
theorem link{m:zW}{a nv:Int}{H:zV}{R:zj}(h:pt m a nv H R):C m a nv H R:=by
 refine T_en K0 47 Tryz.func87 ?_
 intro w0 Q hQ
 unfold pt zY at h
 refine T_su [(0,vp m),(1,vi a),(2,vi nv)]<| ar 0<| T_ed 2 [] []<| ar 1<| T_nd 2 [0] [(9,vp m),(10,vi a)]<| T_c (some 11) h ?_;clear h
 rintro v H1 ⟨x,rfl,h⟩
 refine T_pd [9,10] [(11,vp x)]<| T_ed 1 [11] [(8,vp x)]<| T_sz<| T_bz 0<| ar 2<| T_nd 1 [] [(13,vp x)] ?_
 rcases x with _ | xA
 ·rw[onPtr_none]at h
  exact T_ed 2 [8,13] [(8,vp none),(12,.bool true)]<| T_tz 12<| ar 3<| T_nr 2 [6,7] [vi 0,vi 19] hQ h
 rw[onPtr_some]at h
 refine T_ed 2 [8,13] [(8,vp (some xA)),(12,.bool false)]<| T_fz 12<| ar 4<| T_ed 3 [12] [(15,.bool (decide (nv<1)))] ?_
 by_cases c1:nv<1
 ·rw[if_pos c1]at h
  exact aI 15 (zX c1)<| ar 5<| T_nr 2 [6,7] [vi 0,vi 1] hQ h
 rw[if_neg c1]at h
 refine aJ 15 (zQ c1)<| ar 6<| T_nd 5 [15] [(19,vi nv),(23,vp (some (xA.add 2)))] ?_
 obtain⟨d,q3,h⟩:=h
 refine T_l1 24 3 q3 [23]<| T_ed 3 [19,24] [(18,.bool (decide (nv>(zY (64-d)))))] ?_
 by_cases c4:nv>(zY (64-d))
 ·rw[if_pos c4]at h
  exact aI 18 (zX c4)<| ar 7<| T_nr 2 [6,7] [vi 0,vi 2] hQ h
 rw[if_neg c4]at h
 refine aJ 18 (zQ c4)<| T_k<| aD<| aE<| ar 8<| T_nd 4 [18] [(27,vp (some xA)),(30,vp (some (xA.add 2)))] ?_
 obtain⟨b,q6,h⟩:=h
 refine T_l1 31 3 q6 [30]<| T_nd 5 [27,31] [(33,vi (zY (b+nv))),(36,vp (some (xA.add 2)))] ?_
 obtain⟨q8,h⟩:=h
 refine fE 3 (vi (zY (b+nv))) q8 ?_
 intro H2 e7
 replace h:=h H2 e7
 refine T_pd [33,36] []<| T_e<| ar 9<| T_nd 6 [1,8] [(38,vi (zY (a*64))),(42,vp (some (xA.add 2)))] ?_
 obtain⟨e,q9,h⟩:=h
 exact T_l1 43 3 q9 [42]<| T_nr 5 [6,7] [vi (zY ((zY ((zY (a*64))+e))-nv)),vi 0] hQ h
end dM

/-! (*moraine/seg.Mem).Take -/
namespace dZ
def K0:=Func.code Tryz.f88
def K2:=cb K0
def K4:=cb K2
def K19:=cb K4
def K20:=ca K19
def K21:=cb K19
def K22:=ca K20
def K23:=ca K22
def K32:=cb K21
def K34:=cb K32
def K35:=ca K34
end dZ
def dZ.pt(m:zW)(d b:Int)(H:zV)(R:zj):Prop:=
 ei m (
 R (.tuple #[.int .i64 0,.int .i64 1]) H) (λmA=>
 if d<0 then(
 R (.tuple #[.int .i64 0,.int .i64 1]) H)
 else
 if d>4 then(
 R (.tuple #[.int .i64 0,.int .i64 1]) H)
 else
 if b<0 then(
 R (.tuple #[.int .i64 0,.int .i64 1]) H)
 else
 if b>3 then(
 R (.tuple #[.int .i64 0,.int .i64 1]) H)
 else
 ∃(xB:zW) (xN xC:Nat),hat H mA=some (.slice xB xN xC)/\
 if(xN:Int)=0 then(
 R (.tuple #[.int .i64 0,.int .i64 1]) H)
 else
 ∃x:Int,hat H (mA.add 2)=some (.int .i64 x)/\
 if x=0 then(
 R (.tuple #[.int .i64 0,.int .i64 2]) H)
 else
 ∃(u:zk) (m24:Int->zV->Nat),u 0 H/\ ∀(k:Int) (H1:zV),u k H1->
 ∃(s:zW) (n o:Nat),hat H1 mA=some (.slice s n o)/\
 ∃l:Addr,s=some l/\
 zv k n/\
 ∃p:Int,hat H1 ((l.add (Int.toNat k*72)).add 7)=some (.int .i64 p)/\
 if p>0 then(
 (u (zY (k+1)) H1/\m24 (zY (k+1)) H1<m24 k H1))
 else
 ∃q:Int,hat H1 (mA.add 1)=some (.int .i64 q)/\
 (aK H1 (mA.add 1) 0 1)/\ ∀H2,H2=aS H1 (mA.add 1) [.int .i64 (zY (q+1))] 0->
 ∃r:Int,hat H2 (mA.add 2)=some (.int .i64 r)/\
 (aK H2 (mA.add 2) 0 1)/\ ∀H3,H3=aS H2 (mA.add 2) [.int .i64 (zY (r-1))] 0->
 ∃(y:zW) (f g:Nat),hat H3 mA=some (.slice y f g)/\
 ∃j:Int,hat H3 (mA.add 1)=some (.int .i64 j)/\
 ∃e:Addr,y=some e/\
 zv k f/\
 (aK H3 (e.add (Int.toNat k*72)) 0 72)/\ ∀H4,H4=aS H3 (e.add (Int.toNat k*72)) ([.int .i64 d,.int .i64 b,.int .i64 0,.int .i64 5,.int .i64 5,.int .i64 5,.int .i64 5,.int .i64 j]++List.replicate 64 (.int .u64 0):List Value) 0->
 R (.tuple #[.int .i64 k,.int .i64 0]) H4)
namespace dZ
theorem link{m:zW}{d b:Int}{H:zV}{R:zj}(h:pt m d b H R):C m d b H R:=by
 refine T_en K0 83 Tryz.func88 ?_
 intro w0 Q hQ
 unfold pt zY at h
 refine T_su [(0,vp m),(1,vi d),(2,vi b)]<| ar 0<| T_ed 2 [] []<| T_sz<| T_bz 0<| ar 1<| T_nd 1 [] [(10,vp m)] ?_
 rcases m with _ | mA
 ·rw[onPtr_none]at h
  exact T_ed 26 [0,10] [(0,vp none),(9,.bool true)]<| T_tz 9<| ar 2<| T_nr 2 [6,7] [vi 0,vi 1] hQ h
 rw[onPtr_some]at h
 refine T_nd 6 [0,10] [(0,vp (some mA)),(16,.bool (decide (d<0)))] ?_
 by_cases c1:d<0
 ·rw[if_pos c1]at h
  exact N_bd 16 (zX c1)<| T_ed 20 [16] [(9,.bool true)]<| T_tz 9<| ar 2<| T_nr 2 [6,7] [vi 0,vi 1] hQ h
 rw[if_neg c1]at h
 refine N_bd 16 (zQ c1)<| T_nd 4 [16] [(20,.bool (decide (d>4)))] ?_
 by_cases c3:d>4
 ·rw[if_pos c3]at h
  exact N_bd 20 (zX c3)<| T_ed 16 [20] [(9,.bool true)]<| T_tz 9<| ar 2<| T_nr 2 [6,7] [vi 0,vi 1] hQ h
 rw[if_neg c3]at h
 refine N_bd 20 (zQ c3)<| T_nd 4 [20] [(24,.bool (decide (b<0)))] ?_
 by_cases c5:b<0
 ·rw[if_pos c5]at h
  exact N_bd 24 (zX c5)<| T_ed 12 [24] [(9,.bool true)]<| T_tz 9<| ar 2<| T_nr 2 [6,7] [vi 0,vi 1] hQ h
 rw[if_neg c5]at h
 refine N_bd 24 (zQ c5)<| T_nd 4 [24] [(28,.bool (decide (b>3)))] ?_
 by_cases c7:b>3
 ·rw[if_pos c7]at h
  exact N_bd 28 (zX c7)<| T_ed 8 [28] [(9,.bool true)]<| T_tz 9<| ar 2<| T_nr 2 [6,7] [vi 0,vi 1] hQ h
 rw[if_neg c7]at h
 refine N_bd 28 (zQ c7)<| T_nd 3 [] [(31,vp (some mA))] ?_
 obtain⟨xB,xN,xC,q9,h⟩:=h
 refine T_l1 32 138 q9 [31]<| T_ed 4 [28,32] [(9,.bool ((xN:Int)==0))] ?_
 by_cases c10:(xN:Int)=0
 ·rw[if_pos c10]at h
  exact aI 9 (zK c10)<| ar 2<| T_nr 2 [6,7] [vi 0,vi 1] hQ h
 rw[if_neg c10]at h
 refine aJ 9 (zJ c10)<| ar 3<| T_nd 3 [9] [(39,vp (some (mA.add 2)))] ?_
 obtain⟨x,q12,h⟩:=h
 refine T_l1 40 3 q12 [39]<| T_ed 2 [40] [(36,.bool (x==0))] ?_
 by_cases c13:x=0
 ·rw[if_pos c13]at h
  exact aI 36 (zK c13)<| ar 4<| T_nr 2 [6,7] [vi 0,vi 2] hQ h
 rw[if_neg c13]at h
 refine aJ 36 (zJ c13)<| T_k<| aD<| aE<| ar 5<| T_ed 1 [36] [(8,vi 0)]<| T_sz<| T_bz 1 ?_
 obtain⟨u,m24,i15,i16⟩:=h
 refine de (x:=K23) (σ:=Int) (λs_=> [(0,vp (some mA)),(1,vi d),(2,vi b),(8,vi s_)]) (λs_ H=>u s_ H) (λs_ H=>m24 s_ H) (0:Int) (by kernel_rfl) i15 sk ?_
 rintro k H1 i17
 have h:=i16 k H1 i17
 refine T_su [(0,vp (some mA)),(1,vi d),(2,vi b),(8,vi k)]<| T_sz<| ar 6<| T_nd 3 [] [(44,vp (some mA))] ?_
 obtain⟨s,n,o,q18,h⟩:=h
 refine T_l1 45 138 q18 [44]<| T_nd 1 [] [(46,vi k)] ?_
 obtain⟨l,rfl,q19,h⟩:=h
 refine T_xd (some 47) 138 144 72 l n o .i64 k Tryz.underlying138 q19.1 q19.2 [45,46] [(47,vp (some (l.add (Int.toNat k*72))))]<| T_nd 1 [47] [(48,vp (some ((l.add (Int.toNat k*72)).add 7)))] ?_
 obtain⟨p,q20,h⟩:=h
 refine T_l1 49 3 q20 [48]<| T_ed 1 [49] [(50,.bool (decide (p>0)))] ?_
 by_cases c21:p>0
 ·rw[if_pos c21]at h
  exact aI 50 (zX c21)<| T_kt<| T_bz 2<| T_rz 7<| T_nd 3 [8,50] [(8,vi (zY (k+1)))]<| zq<| aD<| aE<| aW ((zY (k+1)):Int) sk h
 rw[if_neg c21]at h
 refine aJ 50 (zQ c21)<| zz 1<| aA<| aA<| aO<| aE<| ar 8<| T_nd 3 [50] [(53,vp (some mA)),(55,vp (some (mA.add 1)))] ?_
 obtain⟨q,q23,h⟩:=h
 refine T_l1 56 3 q23 [55]<| T_nd 3 [53,56] [(57,vi (zY (q+1))),(59,vp (some (mA.add 1)))] ?_
 obtain⟨q25,h⟩:=h
 refine fE 3 (vi (zY (q+1))) q25 ?_
 intro H2 e24
 replace h:=h H2 e24
 refine T_pd [57,59] []<| T_e<| ar 9<| T_nd 3 [] [(60,vp (some mA)),(62,vp (some (mA.add 2)))] ?_
 obtain⟨r,q26,h⟩:=h
 refine T_l1 63 3 q26 [62]<| T_nd 3 [60,63] [(64,vi (zY (r-1))),(66,vp (some (mA.add 2)))] ?_
 obtain⟨q28,h⟩:=h
 refine fE 3 (vi (zY (r-1))) q28 ?_
 intro H3 e27
 replace h:=h H3 e27
 refine T_pd [64,66] []<| T_e<| T_sz ?_
 obtain⟨y,f,g,q29,j,q30,e,rfl,q31,h⟩:=h
 refine yW 10 (Code.ops K35) [(15,mA,[vs (some e) f g]),(15,(mA.add 1),[vi j])] 16 (bv 16 0) (show aG _ _ _ from⟨⟨q29,trivial⟩,⟨q30,trivial⟩,trivial⟩)<| T_gp 0 (some 67) (vp (some mA)) (bv 16 1) [(0,vp (some mA)),(1,vi d),(2,vi b),(8,vi k),(67,vp (some mA))]<| aF 1 68 (vp (some mA)) (bv 16 3) [67]<| aF 2 69 (vp (some mA)) (bv 16 7) [68]<| T_g1 3 70 (vs (some e) f g) (bv 16 15) [69] (aP 138 (vp (some mA))) (yV 15 zw)<| aF 4 71 (vi k) (bv 16 31) []<| aF 5 72 (vi d) (bv 16 63) [1]<| aF 6 73 (vi b) (bv 16 127) [2]<| aF 7 74 (.agg #[vi 5,vi 5,vi 5,vi 5]) (bv 16 255) []<| aF 8 75 (.agg #[vi d,vi b,vi 0,vi 5,vi 5,vi 5,vi 5]) (bv 16 511) [72,73,74]<| aF 9 76 (vp (some mA)) (bv 16 1023) [0]<| aF 10 77 (vp (some mA)) (bv 16 2047) [76]<| aF 11 78 (vp (some (mA.add 1))) (bv 16 4095) [77]<| T_g1 12 79 (vi j) (bv 16 8191) [78] (aP 3 (vp (some (mA.add 1)))) (yV 15 yZ)<| aF 13 80 (.agg ([vi d,vi b,vi 0,vi 5,vi 5,vi 5,vi 5,vi j]++List.replicate 64 (vu 0):List Value).toArray) (bv 16 16383) [75,79]<| T_g1 14 81 (vp (some (e.add (Int.toNat k*72)))) (bv 16 32767) [70,71] (aX 138 (vs (some e) f g) (vi k)) (λ_ w _ _ _=>cW (P:=Tryz.prog) (t:=138) (elem:=144) (sz:=72) (a:=e) (len:=f) (cap:=g) (k:=.i64) (i:=k) Tryz.underlying138 (λ_=>by kernel_rfl) q31.1 q31.2 w) ?_
 obtain⟨q33,h⟩:=h
 refine fq 15 none (bv 16 65535) (gd 144 (vp (some (e.add (Int.toNat k*72)))) (.agg ([vi d,vi b,vi 0,vi 5,vi 5,vi 5,vi 5,vi j]++List.replicate 64 (vu 0):List Value).toArray)) (λHz=>Hz=aS H3 (e.add (Int.toNat k*72)) ([vi d,vi b,vi 0,vi 5,vi 5,vi 5,vi 5,vi j]++List.replicate 64 (vu 0):List Value) 0) (by kernel_rfl) (λ_=>by kernel_rfl) (by intro w hw;obtain⟨w1,g1,g2,g3⟩:=gf (P:=Tryz.prog) (H:=H3) (t:=144) (a:=(e.add (Int.toNat k*72))) (v:=(.agg ([vi d,vi b,vi 0,vi 5,vi 5,vi 5,vi 5,vi j]++List.replicate 64 (vu 0):List Value).toArray)) ([vi d,vi b,vi 0,vi 5,vi 5,vi 5,vi 5,vi j]++List.replicate 64 (vu 0):List Value) 72 (by kernel_rfl) (by kernel_rfl) (λ_=>by kernel_rfl) (by kernel_rfl) q33 w hw;exact⟨w1,g1,g2,g3⟩) (by kernel_rfl) ?_
 intro H4 e32
 replace h:=h H4 e32
 refine⟨[(8,vi k)],pk,(show aG _ _ _ from⟨trivial,trivial,trivial⟩),?_⟩
 refine eV [(8,vi k)] sk ?_
 exact yq<| aE<| ar 11<| T_nr 3 [6,7] [vi k,vi 0] hQ h
end dZ

/-! (*moraine/seg.Mem).Mark -/
namespace dO
def K0:=Func.code Tryz.f97
end dO
def dO.pt(m:zW)(e b d:Int)(H:zV)(R:zj):Prop:=
 dy.C m e H (λv H1=> ∃x:zW,v=.pointer x/\
 ei x (
 R (.int .i64 19) H1) (λxA=>
 if((((decide (b<0)) || (decide (b>=4))) || (decide (d<0))) || (decide (d>5)))=true then(
 R (.int .i64 1) H1)
 else
 zv b 4/\
 (aK H1 ((xA.add 3).add (Int.toNat b*1)) 0 1)/\ ∀H2,H2=aS H1 ((xA.add 3).add (Int.toNat b*1)) [.int .i64 d] 0->
 R (.int .i64 0) H2))
namespace dO
theorem link{m:zW}{e b d:Int}{H:zV}{R:zj}(h:pt m e b d H R):C m e b d H R:=by
 refine T_en K0 38 Tryz.func97 ?_
 intro w0 Q hQ
 unfold pt at h
 refine T_su [(0,vp m),(1,vi e),(2,vi b),(3,vi d)]<| ar 0<| T_ed 1 [] []<| ar 1<| T_nd 2 [0,1] [(10,vp m),(11,vi e)]<| T_c (some 12) h ?_;clear h
 rintro v H1 ⟨x,rfl,h⟩
 refine T_pd [10,11] [(12,vp x)]<| T_ed 1 [12] [(9,vp x)]<| T_sz<| T_bz 0<| ar 2<| T_nd 1 [] [(14,vp x)] ?_
 rcases x with _ | xA
 ·rw[onPtr_none]at h
  exact T_ed 2 [9,14] [(9,vp none),(13,.bool true)]<| T_tz 13<| ar 3<| T_nr 1 [8] [vi 19] hQ h
 rw[onPtr_some]at h
 refine T_ed 2 [9,14] [(9,vp (some xA)),(13,.bool false)]<| T_fz 13<| ar 4 ?_
 refine fm [(2,vi b),(3,vi d),(9,vp (some xA)),(16,.bool ((((decide (b<0)) || (decide (b>=4))) || (decide (d<0))) || (decide (d>5))))] ?_ ?_
 ·refine aE ?_
  by_cases c7:((((decide (b<0)) || (decide (b>=4))) || (decide (d<0))) || (decide (d>5)))=true
  ·rw[if_pos c7]at h
   exact aI 16 c7<| ar 5<| T_nr 1 [8] [vi 1] hQ h
  rw[if_neg c7]at h
  refine aJ 16 (zZ c7)<| T_k<| aD<| aE<| ar 6<| T_n 6 [(32,vi b),(33,vi d),(36,vp (some (xA.add 3)))] ?_
  obtain⟨q9,h⟩:=h
  refine T_v1 37 (aX 83 (vp (some (xA.add 3))) (vi b)) (vp (some ((xA.add 3).add (Int.toNat b*1)))) (λw _=>bJ (P:=Tryz.prog) (t:=83) (elem:=3) (sz:=1) (n:=4) (a:=(xA.add 3)) (k:=.i64) (i:=b) Tryz.underlying83 (λ_=>by kernel_rfl) q9.1 q9.2 w) [32,36] ?_
  obtain⟨q11,h⟩:=h
  refine fE 3 (vi d) q11 ?_
  intro H2 e10
  replace h:=h H2 e10
  refine⟨[],pk,?_⟩
  exact T_e<| ar 7<| T_nr 1 [8] [vi 0] hQ h
 intro hk
 refine T_n 3 [(2,vi b),(3,vi d),(9,vp (some xA)),(19,.bool (decide (b<0)))] ?_
 by_cases c1:b<0
 ·have b2:(decide (b<0))=true:=zX c1
  refine cO [(2,vi b),(3,vi d),(9,vp (some xA)),(19,.bool true)] (by rw[b2]) ?_
  refine T_nd 12 [19] [(16,.bool true)]<| zq<| S_bd 16 (b:=true) (v:=((((decide (b<0)) || (decide (b>=4))) || (decide (d<0))) || (decide (d>5)))) (by simp only[b2,BL]) ?_
  exact hk
 have b2:(decide (b<0))=false:=zQ c1
 refine cO [(2,vi b),(3,vi d),(9,vp (some xA)),(19,.bool false)] (by rw[b2]) ?_
 refine T_nd 4 [19] [(23,.bool (decide (b>=4)))] ?_
 by_cases c3:b>=4
 ·have b4:(decide (b>=4))=true:=zX c3
  refine N_bd 23 b4<| T_nd 8 [23] [(16,.bool true)] ?_
  refine zq<| S_bd 16 (b:=true) (v:=((((decide (b<0)) || (decide (b>=4))) || (decide (d<0))) || (decide (d>5)))) (by simp only[b2,b4,BL]) ?_
  exact hk
 have b4:(decide (b>=4))=false:=zQ c3
 refine N_bd 23 b4<| T_nd 4 [23] [(27,.bool (decide (d<0)))] ?_
 by_cases c5:d<0
 ·have b6:(decide (d<0))=true:=zX c5
  refine N_bd 27 b6<| T_nd 4 [27] [(16,.bool true)] ?_
  refine zq<| S_bd 16 (b:=true) (v:=((((decide (b<0)) || (decide (b>=4))) || (decide (d<0))) || (decide (d>5)))) (by simp only[b2,b4,b6,BL]) ?_
  exact hk
 have b6:(decide (d<0))=false:=zQ c5
 refine N_bd 27 b6<| T_nd 4 [27] [(16,.bool (decide (d>5)))] ?_
 refine zq<| S_bd 16 (b:=(decide (d>5))) (v:=((((decide (b<0)) || (decide (b>=4))) || (decide (d<0))) || (decide (d>5)))) (by simp only[b2,b4,b6,BL]) ?_
 exact hk
end dO

/-! moraine/seg.New -/
namespace fX
def K0:=Func.code Tryz.f104
end fX
def fX.pt(a:Int)(H:zV)(R:zj):Prop:=
 if((decide (a<8)) || (decide (a>1024)))=true then(
 R (.tuple #[.pointer none,.int .i64 1]) H)
 else
 0<=a/\a<=a/\576*a<=2 ^ 48/\a<=9223372036854775807/\
 ∀(b:Nat) (H1:zV),b=H.size->H1=H.push (.cells (Builtin.zeroCells (List.replicate 8 (.int .i64 0)++List.replicate 64 (.int .u64 0):List Value).toArray (Int.toNat a)) 144)->
 ∀(d:Nat) (H2:zV),d=H1.size->H2=H1.push (.cells #[.slice (some (ad b)) (Int.toNat a) (Int.toNat a),.int .i64 0,.int .i64 a] 140)->
 R (.tuple #[.pointer (some (ad d)),.int .i64 0]) H2
namespace fX
theorem link{a:Int}{H:zV}{R:zj}(h:pt a H R):C a H R:=by
 refine T_en K0 15 Tryz.func104 ?_
 intro w0 Q hQ
 unfold pt at h
 refine T_su [(0,vi a)]<| ar 0<| T_ed 2 [] []<| T_sz<| ar 1 ?_
 refine fm [(0,vi a),(9,.bool ((decide (a<8)) || (decide (a>1024))))] ?_ ?_
 ·refine aE ?_
  by_cases c3:((decide (a<8)) || (decide (a>1024)))=true
  ·rw[if_pos c3]at h
   exact aI 9 c3<| ar 2<| T_nr 2 [2,3] [vp none,vi 1] hQ h
  rw[if_neg c3]at h
  refine aJ 9 (zZ c3)<| T_kt<| ar 3<| T_n 1 [(0,vi a),(10,vi a)] ?_
  obtain⟨q5,q6,q7,q8,h⟩:=h
  refine N_op (some 11) (gH 138 (vi a) (vi a)) (λv Hz=>v=Value.slice (some (Addr.mk H.size 0 none)) (Int.toNat a) (Int.toNat a)/\Hz=H.push (.cells (Builtin.zeroCells (List.replicate 8 (vi 0)++List.replicate 64 (vu 0):List Value).toArray (Int.toNat a)) 144)) (λ_=>by kernel_rfl) (my (T:=144) (zero:=.agg (List.replicate 8 (vi 0)++List.replicate 64 (vu 0):List Value).toArray) Tryz.underlying138 (show Tryz.prog.info? 144=some Tryz.t144 from by kernel_rfl) (by kernel_rfl) q5 q6 q7 q8 (by kernel_rfl) (by decide)) ?_
  rintro _ H1 ⟨rfl,e10⟩
  obtain⟨b,e9⟩: ∃b,b=H.size:=⟨_,rfl⟩
  replace h:=h b H1 e9 e10
  rw[<-e9]
  refine T_pd [10] [(11,vs (pa b) (Int.toNat a) (Int.toNat a))]<| T_n 2 [(13,.agg #[vs (pa b) (Int.toNat a) (Int.toNat a),vi 0,vi a])]<| T_nw (some 14) (λb=>vp (pa b)) (.cells #[vs (pa b) (Int.toNat a) (Int.toNat a),vi 0,vi a] 140) ?_
  intro d H2 e11 e12
  replace h:=h d H2 e11 e12
  refine⟨[(14,vp (pa d))],pk,?_⟩
  exact T_nr 2 [2,3] [vp (pa d),vi 0] hQ h
 intro hk
 refine T_n 3 [(0,vi a),(6,.bool (decide (a<8)))] ?_
 by_cases c1:a<8
 ·have b2:(decide (a<8))=true:=zX c1
  refine cO [(0,vi a),(6,.bool true)] (by rw[b2]) ?_
  refine T_nd 3 [6] [(9,.bool true)]<| zq<| S_bd 9 (b:=true) (v:=((decide (a<8)) || (decide (a>1024)))) (by simp only[b2,BL]) ?_
  exact hk
 have b2:(decide (a<8))=false:=zQ c1
 refine cO [(0,vi a),(6,.bool false)] (by rw[b2]) ?_
 refine T_nd 3 [6] [(9,.bool (decide (a>1024)))]<| zq<| S_bd 9 (b:=(decide (a>1024))) (v:=((decide (a<8)) || (decide (a>1024)))) (by simp only[b2,BL]) ?_
 exact hk
end fX

