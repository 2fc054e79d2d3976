/- Printed: what each function asks, and that it is sound. -/
import Derived.Test.YtihdffpekpnglaaGreatFnsC
set_option linter.unusedSimpArgs false
set_option linter.unusedVariables false
set_option maxRecDepth 100000
set_option maxHeartbeats 1000000
noncomputable section
namespace Go.Proofs.YtihdffpekpnglaaGreat
open Go
/-! (*moraine/seg.Mem).Seg -/
namespace fF
def K0:=Func.code Tryz.f18
end fF
def fF.pt(m:zY)(y:Int)(H:zW)(R:zv):Prop:=
 ∀(b:Nat) (H1:zW),b=H.size->H1=H.push (.cells #[.int .i64 0,.int .i64 0,.int .i64 0,.int .i64 0,.int .i64 0,.int .i64 0,.int .i64 0] 79)->
 gL.C m y H1 (λv H2=> ∃x:zY,v=.pointer x/\
 gk x (
 (aJ H2 (ad b) 0 7)/\ ∀H3,H3=aP H2 (ad b) [.int .i64 0,.int .i64 0,.int .i64 0,.int .i64 0,.int .i64 0,.int .i64 0,.int .i64 0] 0->
 ∃aa z rN p o q r:Int,aG H3 (ad b) 0 [.int .i64 aa,.int .i64 z,.int .i64 rN,.int .i64 p,.int .i64 o,.int .i64 q,.int .i64 r]/\
 R (.tuple #[.agg #[.int .i64 aa,.int .i64 z,.int .i64 rN,.int .i64 p,.int .i64 o,.int .i64 q,.int .i64 r],.bool false]) H3) (λxA=>
 ∃s n xN e d a f:Int,aG H2 xA 0 [.int .i64 s,.int .i64 n,.int .i64 xN,.int .i64 e,.int .i64 d,.int .i64 a,.int .i64 f]/\
 (aJ H2 (ad b) 0 7)/\ ∀H4,H4=aP H2 (ad b) [.int .i64 s,.int .i64 n,.int .i64 xN,.int .i64 e,.int .i64 d,.int .i64 a,.int .i64 f] 0->
 ∃u t ab k j l i:Int,aG H4 (ad b) 0 [.int .i64 u,.int .i64 t,.int .i64 ab,.int .i64 k,.int .i64 j,.int .i64 l,.int .i64 i]/\
 R (.tuple #[.agg #[.int .i64 u,.int .i64 t,.int .i64 ab,.int .i64 k,.int .i64 j,.int .i64 l,.int .i64 i],.bool true]) H4))
namespace fF
theorem link{m:zY}{y:Int}{H:zW}{R:zv}(h:pt m y H R):C m y H R:=by
 refine T_en K0 17 Tryz.func18 ?_
 intro w0 Q hQ
 unfold pt at h
 refine T_su [(0,vp m),(1,vi y)]<| ar 0<| T_nw (some 4) (λb=>vp (pa b)) (.cells #[vi 0,vi 0,vi 0,vi 0,vi 0,vi 0,vi 0] 79) ?_
 intro b H1 e1 e2
 replace h:=h b H1 e1 e2
 refine T_pd [] [(4,vp (pa b))]<| T_ed 1 [] []<| ar 1<| T_nd 2 [0,1] [(7,vp m),(8,vi y)]<| T_c (some 9) h ?_;clear h
 rintro v H2 ⟨x,rfl,h⟩
 refine T_pd [7,8] [(9,vp x)]<| T_ed 1 [9] [(6,vp x)]<| T_sz<| ar 2<| T_nd 1 [] [(10,vp x)] ?_
 rcases x with _ | xA
 ·rw[onPtr_none]at h
  refine T_ed 1 [6,10] [(6,vp none),(11,.bool true)]<| T_tz 11<| ar 3<| T_nd 1 [6,11] [(12,.agg #[vi 0,vi 0,vi 0,vi 0,vi 0,vi 0,vi 0])] ?_
  obtain⟨q4,h⟩:=h
  refine bX 79 [vi 0,vi 0,vi 0,vi 0,vi 0,vi 0,vi 0] q4 ?_
  intro H3 e3
  replace h:=h H3 e3
  refine T_pd [12] []<| T_ed 1 [] [(5,.bool false)]<| zz ?_
  show At _ _ _ _ _ (Q .ret)
  obtain⟨aa,z,rN,p,o,q,r,q5,h⟩:=h
  exact cP (fn:=Tryz.f18) [.agg #[vi aa,vi z,vi rN,vi p,vi o,vi q,vi r],.bool false] hQ (show cK _ _ _ [.cell 4 79,.tmp 5] _ from .cell (by kernel_rfl) (aQ (λ_=>by kernel_rfl) (λ_=>by kernel_rfl) q5) (.tmp (by kernel_rfl) (.nil))) h
 rw[onPtr_some]at h
 refine T_ed 1 [6,10] [(6,vp (some xA)),(11,.bool false)]<| T_fz 11<| T_kt<| ar 4<| T_nd 3 [6,11] [(15,vp (some xA))] ?_
 obtain⟨s,n,xN,e,d,a,f,q6,h⟩:=h
 refine T_lr 16 79 q6 [15] ?_
 obtain⟨q8,h⟩:=h
 refine bX 79 [vi s,vi n,vi xN,vi e,vi d,vi a,vi f] q8 ?_
 intro H4 e7
 replace h:=h H4 e7
 refine T_pd [16] []<| T_ed 1 [] [(5,.bool true)]<| zz ?_
 show At _ _ _ _ _ (Q .ret)
 obtain⟨u,t,ab,k,j,l,i,q9,h⟩:=h
 exact cP (fn:=Tryz.f18) [.agg #[vi u,vi t,vi ab,vi k,vi j,vi l,vi i],.bool true] hQ (show cK _ _ _ [.cell 4 79,.tmp 5] _ from .cell (by kernel_rfl) (aQ (λ_=>by kernel_rfl) (λ_=>by kernel_rfl) q9) (.tmp (by kernel_rfl) (.nil))) h
end fF

/-! (*moraine/seg.Mem).at -/
namespace gL
def K0:=Func.code Tryz.f64
end gL
def gL.pt(m:zY)(b:Int)(H:zW)(R:zv):Prop:=
 gk m (
 R (.pointer none) H) (λmA=>
 if b<0 then(
 R (.pointer none) H)
 else
 ∃(xB:zY) (xN xC:Nat),hat H mA=some (.slice xB xN xC)/\
 if b>=(xN:Int)then(
 R (.pointer none) H)
 else
 ∃(p:zY) (j l:Nat),hat H mA=some (.slice p j l)/\
 ∃e:Addr,p=some e/\
 yZ b j/\
 ∃x:Int,hat H ((e.add (Int.toNat b*72)).add 7)=some (.int .i64 x)/\
 if x=0 then(
 R (.pointer none) H)
 else
 ∃(o:zY) (f n:Nat),hat H mA=some (.slice o f n)/\
 ∃d:Addr,o=some d/\
 yZ b f/\
 R (.pointer (some (d.add (Int.toNat b*72)))) H)
namespace gL
theorem link{m:zY}{b:Int}{H:zW}{R:zv}(h:pt m b H R):C m b H R:=by
 refine T_en K0 37 Tryz.func64 ?_
 intro w0 Q hQ
 unfold pt at h
 refine T_su [(0,vp m),(1,vi b)]<| ar 0<| T_ed 1 [] []<| T_sz<| ar 1<| T_nd 1 [] [(5,vp m)] ?_
 rcases m with _ | mA
 ·rw[onPtr_none]at h
  exact T_ed 25 [0,5] [(0,vp none),(30,.bool true)]<| T_tz 30<| ar 2<| T_nr 1 [4] [vp none] hQ h
 rw[onPtr_some]at h
 refine T_nd 6 [0,5] [(0,vp (some mA)),(11,.bool (decide (b<0)))] ?_
 by_cases c1:b<0
 ·rw[if_pos c1]at h
  exact N_bd 11 (zQ c1)<| T_ed 19 [11] [(30,.bool true)]<| T_tz 30<| ar 2<| T_nr 1 [4] [vp none] hQ h
 rw[if_neg c1]at h
 refine N_bd 11 (zJ c1)<| T_nd 4 [] [(12,vi b),(15,vp (some mA))] ?_
 obtain⟨xB,xN,xC,q3,h⟩:=h
 refine T_l1 16 121 q3 [15]<| T_nd 4 [11,12,16] [(20,.bool (decide (b>=(xN:Int))))] ?_
 by_cases c4:b>=(xN:Int)
 ·rw[if_pos c4]at h
  exact N_bd 20 (zQ c4)<| T_ed 10 [20] [(30,.bool true)]<| T_tz 30<| ar 2<| T_nr 1 [4] [vp none] hQ h
 rw[if_neg c4]at h
 refine N_bd 20 (zJ c4)<| T_nd 3 [] [(23,vp (some mA))] ?_
 obtain⟨p,j,l,q6,h⟩:=h
 refine T_l1 24 121 q6 [23]<| T_nd 1 [] [(25,vi b)] ?_
 obtain⟨e,rfl,q7,h⟩:=h
 refine T_xd (some 26) 121 127 72 e j l .i64 b Tryz.underlying121 q7.1 q7.2 [24,25] [(26,vp (some (e.add (Int.toNat b*72))))]<| T_nd 1 [26] [(27,vp (some ((e.add (Int.toNat b*72)).add 7)))] ?_
 obtain⟨x,q8,h⟩:=h
 refine T_l1 28 3 q8 [27]<| T_ed 2 [20,28] [(30,.bool (x==0))] ?_
 by_cases c9:x=0
 ·rw[if_pos c9]at h
  exact aH 30 (zV c9)<| ar 2<| T_nr 1 [4] [vp none] hQ h
 rw[if_neg c9]at h
 refine aI 30 (zK c9)<| T_kt<| ar 3<| T_nd 3 [0,30] [(33,vp (some mA))] ?_
 obtain⟨o,f,n,q11,h⟩:=h
 refine T_l1 34 121 q11 [33]<| T_nd 1 [1] [(35,vi b)] ?_
 obtain⟨d,rfl,q12,h⟩:=h
 exact T_ix (some 36) 121 127 72 d f n .i64 b Tryz.underlying121 q12.1 q12.2 [(36,vp (some (d.add (Int.toNat b*72))))]<| T_nr 1 [4] [vp (some (d.add (Int.toNat b*72)))] hQ h
end gL

/-! (*moraine/seg.Mem).Read -/
namespace fQ
def K0:=Func.code Tryz.f68
end fQ
def fQ.pt(m:zY)(a:Int)(H:zW)(R:zv):Prop:=
 gz.C m a H (λv H1=> ∃x:zY,v=.pointer x/\
 gk x (
 R (.tuple #[.int .u64 0,.int .i64 18]) H1) (λxA=>
 ∃b:Int,hat H1 xA=some (.int .u64 b)/\
 R (.tuple #[.int .u64 b,.int .i64 0]) H1))
namespace fQ
theorem link{m:zY}{a:Int}{H:zW}{R:zv}(h:pt m a H R):C m a H R:=by
 refine T_en K0 15 Tryz.func68 ?_
 intro w0 Q hQ
 unfold pt at h
 refine T_su [(0,vp m),(1,vi a)]<| ar 0<| T_ed 2 [] []<| T_sz<| ar 1<| T_n 2 [(7,vp m),(8,vi a)]<| T_c (some 9) h ?_;clear h
 rintro v H1 ⟨x,rfl,h⟩
 refine⟨[(9,vp x)],pk,?_⟩
 refine T_ne 1 [(6,vp x)]<| ar 2<| T_nd 1 [] [(10,vp x)] ?_
 rcases x with _ | xA
 ·rw[onPtr_none]at h
  exact T_ne 1 [(6,vp none),(11,.bool false)]<| T_fz 11<| T_kt<| ar 4<| T_nr 2 [4,5] [vu 0,vi 18] hQ h
 rw[onPtr_some]at h
 refine T_ne 1 [(6,vp (some xA)),(11,.bool true)]<| T_tz 11<| ar 3<| T_n 2 [(13,vp (some xA))] ?_
 obtain⟨b,q1,h⟩:=h
 exact T_l1 14 33 q1 [13]<| T_nr 2 [4,5] [vu b,vi 0] hQ h
end fQ

/-! (*moraine/seg.Mem).Write -/
namespace fY
def K0:=Func.code Tryz.f74
end fY
def fY.pt(m:zY)(a wv:Int)(H:zW)(R:zv):Prop:=
 gz.C m a H (λv H1=> ∃x:zY,v=.pointer x/\
 gk x (
 R (.int .i64 18) H1) (λxA=>
 (aJ H1 xA 0 1)/\ ∀H2,H2=aP H1 xA [.int .u64 wv] 0->
 R (.int .i64 0) H2))
namespace fY
theorem link{m:zY}{a wv:Int}{H:zW}{R:zv}(h:pt m a wv H R):C m a wv H R:=by
 refine T_en K0 16 Tryz.func74 ?_
 intro w0 Q hQ
 unfold pt at h
 refine T_su [(0,vp m),(1,vi a),(2,vu wv)]<| ar 0<| T_ed 1 [] []<| ar 1<| T_nd 2 [0,1] [(8,vp m),(9,vi a)]<| T_c (some 10) h ?_;clear h
 rintro v H1 ⟨x,rfl,h⟩
 refine T_pd [8,9] [(10,vp x)]<| T_ed 1 [10] [(7,vp x)]<| T_sz<| ar 2<| T_nd 1 [] [(11,vp x)] ?_
 rcases x with _ | xA
 ·rw[onPtr_none]at h
  exact T_ed 1 [7,11] [(7,vp none),(12,.bool true)]<| T_tz 12<| ar 3<| T_nr 1 [6] [vi 18] hQ h
 rw[onPtr_some]at h
 refine T_ed 1 [7,11] [(7,vp (some xA)),(12,.bool false)]<| T_fz 12<| T_kt<| ar 4<| T_n 3 [(14,vu wv),(15,vp (some xA))] ?_
 obtain⟨q2,h⟩:=h
 refine je 33 (vu wv) q2 ?_
 intro H2 e1
 replace h:=h H2 e1
 refine⟨[],pk,?_⟩
 exact T_e<| ar 5<| T_nr 1 [6] [vi 0] hQ h
end fY

/-! (*moraine/seg.Mem).word -/
namespace gz
def K0:=Func.code Tryz.f109
end gz
def gz.pt(m:zY)(b:Int)(H:zW)(R:zv):Prop:=
 if b<0 then(
 R (.pointer none) H)
 else
 gL.C m (zq (Int.tdiv b 64)) H (λv H1=> ∃x:zY,v=.pointer x/\
 gk x (
 R (.pointer none) H1) (λxA=>
 ∃d:Int,hat H1 (xA.add 2)=some (.int .i64 d)/\
 if(Int.tmod b 64)>=d then(
 R (.pointer none) H1)
 else
 ((0:Int)<=(Int.tmod b 64)/\(Int.tmod b 64)< (64:Int))/\
 R (.pointer (some ((xA.add 8).add (Int.toNat (Int.tmod b 64)*1)))) H1))
namespace gz
theorem link{m:zY}{b:Int}{H:zW}{R:zv}(h:pt m b H R):C m b H R:=by
 refine T_en K0 30 Tryz.func109 ?_
 intro w0 Q hQ
 unfold pt zq at h
 refine T_su [(0,vp m),(1,vi b)]<| ar 0<| T_ed 1 [] []<| T_sz<| ar 1<| T_ed 2 [] [(7,.bool (decide (b<0)))] ?_
 by_cases c1:b<0
 ·rw[if_pos c1]at h
  exact aH 7 (zQ c1)<| ar 2<| T_nr 1 [4] [vp none] hQ h
 rw[if_neg c1]at h
 refine aI 7 (zJ c1)<| T_kt<| ar 3<| T_nd 3 [0,7] [(8,vp m),(10,vi (zq (Int.tdiv b 64)))]<| T_c (some 11) h ?_;clear h
 rintro v H1 ⟨x,rfl,h⟩
 refine T_pd [8,10] [(11,vp x)]<| T_ed 1 [11] [(5,vp x)]<| T_sz<| ar 4<| T_nd 1 [] [(12,vp x)] ?_
 rcases x with _ | xA
 ·rw[onPtr_none]at h
  exact T_ed 11 [5,12] [(5,vp none),(23,.bool true)]<| T_tz 23<| ar 5<| T_nr 1 [4] [vp none] hQ h
 rw[onPtr_some]at h
 refine T_nd 8 [5,12] [(5,vp (some xA)),(14,.bool false),(16,vi (Int.tmod b 64)),(20,vp (some (xA.add 2)))] ?_
 obtain⟨d,q3,h⟩:=h
 refine T_l1 21 3 q3 [20]<| T_ed 2 [14,16,21] [(23,.bool (decide ((Int.tmod b 64)>=d)))] ?_
 by_cases c4:(Int.tmod b 64)>=d
 ·rw[if_pos c4]at h
  exact aH 23 (zQ c4)<| ar 5<| T_nr 1 [4] [vp none] hQ h
 rw[if_neg c4]at h
 refine aI 23 (zJ c4)<| T_kt<| ar 6<| T_n 5 [(26,vi (Int.tmod b 64)),(28,vp (some (xA.add 8)))] ?_
 obtain⟨q6,h⟩:=h
 exact T_v1 29 (bD 125 (vp (some (xA.add 8))) (vi (Int.tmod b 64))) (vp (some ((xA.add 8).add (Int.toNat (Int.tmod b 64)*1)))) (λw _=>dK (P:=Tryz.prog) (t:=125) (elem:=33) (sz:=1) (n:=64) (a:=(xA.add 8)) (k:=.i64) (i:=(Int.tmod b 64)) Tryz.underlying125 (λ_=>by kernel_rfl) q6.1 q6.2 w) [26,28]<| T_nr 1 [4] [vp (some ((xA.add 8).add (Int.toNat (Int.tmod b 64)*1)))] hQ h
end gz

/-! moraine/seg.New -/
namespace jx
def K0:=Func.code Tryz.f110
end jx
def jx.pt(a:Int)(H:zW)(R:zv):Prop:=
 if((decide (a<8)) || (decide (a>1024)))=true then(
 R (.tuple #[.pointer none,.int .i64 1]) H)
 else
 0<=a/\a<=a/\576*a<=2 ^ 48/\a<=9223372036854775807/\
 ∀(b:Nat) (H1:zW),b=H.size->H1=H.push (.cells (Builtin.zeroCells (List.replicate 8 (.int .i64 0)++List.replicate 64 (.int .u64 0):List Value).toArray (Int.toNat a)) 127)->
 ∀(d:Nat) (H2:zW),d=H1.size->H2=H1.push (.cells #[.slice (some (ad b)) (Int.toNat a) (Int.toNat a),.int .i64 0,.int .i64 a] 123)->
 R (.tuple #[.pointer (some (ad d)),.int .i64 0]) H2
namespace jx
theorem link{a:Int}{H:zW}{R:zv}(h:pt a H R):C a H R:=by
 refine T_en K0 15 Tryz.func110 ?_
 intro w0 Q hQ
 unfold pt at h
 refine T_su [(0,vi a)]<| ar 0<| T_ed 2 [] []<| T_sz<| ar 1 ?_
 refine gp [(0,vi a),(9,.bool ((decide (a<8)) || (decide (a>1024))))] ?_ ?_
 ·refine aE ?_
  by_cases c3:((decide (a<8)) || (decide (a>1024)))=true
  ·rw[if_pos c3]at h
   exact aH 9 c3<| ar 2<| T_nr 2 [2,3] [vp none,vi 1] hQ h
  rw[if_neg c3]at h
  refine aI 9 (zZ c3)<| T_kt<| ar 3<| T_n 1 [(0,vi a),(10,vi a)] ?_
  obtain⟨q5,q6,q7,q8,h⟩:=h
  refine N_op (some 11) (jI 121 (vi a) (vi a)) (λv Hz=>v=Value.slice (some (Addr.mk H.size 0 none)) (Int.toNat a) (Int.toNat a)/\Hz=H.push (.cells (Builtin.zeroCells (List.replicate 8 (vi 0)++List.replicate 64 (vu 0):List Value).toArray (Int.toNat a)) 127)) (λ_=>by kernel_rfl) (oa (T:=127) (zero:=.agg (List.replicate 8 (vi 0)++List.replicate 64 (vu 0):List Value).toArray) Tryz.underlying121 (show Tryz.prog.info? 127=some Tryz.t127 from by kernel_rfl) (by kernel_rfl) q5 q6 q7 q8 (by kernel_rfl) (by decide)) ?_
  rintro _ H1 ⟨rfl,e10⟩
  obtain⟨b,e9⟩: ∃b,b=H.size:=⟨_,rfl⟩
  replace h:=h b H1 e9 e10
  rw[<-e9]
  refine T_pd [10] [(11,vs (pa b) (Int.toNat a) (Int.toNat a))]<| T_n 2 [(13,.agg #[vs (pa b) (Int.toNat a) (Int.toNat a),vi 0,vi a])]<| T_nw (some 14) (λb=>vp (pa b)) (.cells #[vs (pa b) (Int.toNat a) (Int.toNat a),vi 0,vi a] 123) ?_
  intro d H2 e11 e12
  replace h:=h d H2 e11 e12
  refine⟨[(14,vp (pa d))],pk,?_⟩
  exact T_nr 2 [2,3] [vp (pa d),vi 0] hQ h
 intro hk
 refine T_n 3 [(0,vi a),(6,.bool (decide (a<8)))] ?_
 by_cases c1:a<8
 ·have b2:(decide (a<8))=true:=zQ c1
  refine bV [(0,vi a),(6,.bool true)] (by rw[b2]) ?_
  refine T_nd 3 [6] [(9,.bool true)]<| zx<| S_bd 9 (b:=true) (v:=((decide (a<8)) || (decide (a>1024)))) (by simp only[b2,BL]) ?_
  exact hk
 have b2:(decide (a<8))=false:=zJ c1
 refine bV [(0,vi a),(6,.bool false)] (by rw[b2]) ?_
 refine T_nd 3 [6] [(9,.bool (decide (a>1024)))]<| zx<| S_bd 9 (b:=(decide (a>1024))) (v:=((decide (a<8)) || (decide (a>1024)))) (by simp only[b2,BL]) ?_
 exact hk
end jx

/-! (*moraine/seg.Mem).Bump -/
namespace gD
def K0:=Func.code Tryz.f117
end gD
def gD.pt(m:zY)(a nv:Int)(H:zW)(R:zv):Prop:=
 gL.C m a H (λv H1=> ∃x:zY,v=.pointer x/\
 gk x (
 R (.tuple #[.int .i64 0,.int .i64 19]) H1) (λxA=>
 if nv<1 then(
 R (.tuple #[.int .i64 0,.int .i64 1]) H1)
 else
 ∃d:Int,hat H1 (xA.add 2)=some (.int .i64 d)/\
 if nv>(zq (64-d))then(
 R (.tuple #[.int .i64 0,.int .i64 2]) H1)
 else
 ∃b:Int,hat H1 (xA.add 2)=some (.int .i64 b)/\
 (aJ H1 (xA.add 2) 0 1)/\ ∀H2,H2=aP H1 (xA.add 2) [.int .i64 (zq (b+nv))] 0->
 ∃e:Int,hat H2 (xA.add 2)=some (.int .i64 e)/\
 R (.tuple #[.int .i64 (zq ((zq ((zq (a*64))+e))-nv)),.int .i64 0]) H2))
namespace gD
theorem link{m:zY}{a nv:Int}{H:zW}{R:zv}(h:pt m a nv H R):C m a nv H R:=by
 refine T_en K0 47 Tryz.func117 ?_
 intro w0 Q hQ
 unfold pt zq at h
 refine T_su [(0,vp m),(1,vi a),(2,vi nv)]<| ar 0<| T_ed 2 [] []<| ar 1<| T_nd 2 [0] [(9,vp m),(10,vi a)]<| T_c (some 11) h ?_;clear h
 rintro v H1 ⟨x,rfl,h⟩
 refine T_pd [9,10] [(11,vp x)]<| T_ed 1 [11] [(8,vp x)]<| T_sz<| T_bz 0<| ar 2<| T_nd 1 [] [(13,vp x)] ?_
 rcases x with _ | xA
 ·rw[onPtr_none]at h
  exact T_ed 2 [8,13] [(8,vp none),(12,.bool true)]<| T_tz 12<| ar 3<| T_nr 2 [6,7] [vi 0,vi 19] hQ h
 rw[onPtr_some]at h
 refine T_ed 2 [8,13] [(8,vp (some xA)),(12,.bool false)]<| T_fz 12<| ar 4<| T_ed 3 [12] [(15,.bool (decide (nv<1)))] ?_
 by_cases c1:nv<1
 ·rw[if_pos c1]at h
  exact aH 15 (zQ c1)<| ar 5<| T_nr 2 [6,7] [vi 0,vi 1] hQ h
 rw[if_neg c1]at h
 refine aI 15 (zJ c1)<| ar 6<| T_nd 5 [15] [(19,vi nv),(23,vp (some (xA.add 2)))] ?_
 obtain⟨d,q3,h⟩:=h
 refine T_l1 24 3 q3 [23]<| T_ed 3 [19,24] [(18,.bool (decide (nv>(zq (64-d)))))] ?_
 by_cases c4:nv>(zq (64-d))
 ·rw[if_pos c4]at h
  exact aH 18 (zQ c4)<| ar 7<| T_nr 2 [6,7] [vi 0,vi 2] hQ h
 rw[if_neg c4]at h
 refine aI 18 (zJ c4)<| T_k<| aL<| aE<| ar 8<| T_nd 4 [18] [(27,vp (some xA)),(30,vp (some (xA.add 2)))] ?_
 obtain⟨b,q6,h⟩:=h
 refine T_l1 31 3 q6 [30]<| T_nd 5 [27,31] [(33,vi (zq (b+nv))),(36,vp (some (xA.add 2)))] ?_
 obtain⟨q8,h⟩:=h
 refine je 3 (vi (zq (b+nv))) q8 ?_
 intro H2 e7
 replace h:=h H2 e7
 refine T_pd [33,36] []<| T_e<| ar 9<| T_nd 6 [1,8] [(38,vi (zq (a*64))),(42,vp (some (xA.add 2)))] ?_
 obtain⟨e,q9,h⟩:=h
 exact T_l1 43 3 q9 [42]<| T_nr 5 [6,7] [vi (zq ((zq ((zq (a*64))+e))-nv)),vi 0] hQ h
end gD

/-! (*moraine/seg.Mem).Take -/
namespace gV
def K0:=Func.code Tryz.f118
def K2:=cb K0
def K4:=cb K2
def K19:=cb K4
def K20:=ca K19
def K21:=cb K19
def K22:=ca K20
def K23:=ca K22
def K32:=cb K21
def K34:=cb K32
def K35:=ca K34
end gV
def gV.pt(m:zY)(d b:Int)(H:zW)(R:zv):Prop:=
 gk m (
 R (.tuple #[.int .i64 0,.int .i64 1]) H) (λmA=>
 if d<0 then(
 R (.tuple #[.int .i64 0,.int .i64 1]) H)
 else
 if d>4 then(
 R (.tuple #[.int .i64 0,.int .i64 1]) H)
 else
 if b<0 then(
 R (.tuple #[.int .i64 0,.int .i64 1]) H)
 else
 if b>3 then(
 R (.tuple #[.int .i64 0,.int .i64 1]) H)
 else
 ∃(xB:zY) (xN xC:Nat),hat H mA=some (.slice xB xN xC)/\
 if(xN:Int)=0 then(
 R (.tuple #[.int .i64 0,.int .i64 1]) H)
 else
 ∃x:Int,hat H (mA.add 2)=some (.int .i64 x)/\
 if x=0 then(
 R (.tuple #[.int .i64 0,.int .i64 2]) H)
 else
 ∃(y:zw) (m24:Int->zW->Nat),y 0 H/\ ∀(k:Int) (H1:zW),y k H1->
 ∃(u:zY) (o p:Nat),hat H1 mA=some (.slice u o p)/\
 ∃n:Addr,u=some n/\
 yZ k o/\
 ∃s:Int,hat H1 ((n.add (Int.toNat k*72)).add 7)=some (.int .i64 s)/\
 if s>0 then(
 (y (zq (k+1)) H1/\m24 (zq (k+1)) H1<m24 k H1))
 else
 ∃r:Int,hat H1 (mA.add 1)=some (.int .i64 r)/\
 (aJ H1 (mA.add 1) 0 1)/\ ∀H2,H2=aP H1 (mA.add 1) [.int .i64 (zq (r+1))] 0->
 ∃q:Int,hat H2 (mA.add 2)=some (.int .i64 q)/\
 (aJ H2 (mA.add 2) 0 1)/\ ∀H3,H3=aP H2 (mA.add 2) [.int .i64 (zq (q-1))] 0->
 ∃(z:zY) (f j:Nat),hat H3 mA=some (.slice z f j)/\
 ∃l:Int,hat H3 (mA.add 1)=some (.int .i64 l)/\
 ∃e:Addr,z=some e/\
 yZ k f/\
 (aJ H3 (e.add (Int.toNat k*72)) 0 72)/\ ∀H4,H4=aP H3 (e.add (Int.toNat k*72)) ([.int .i64 d,.int .i64 b,.int .i64 0,.int .i64 5,.int .i64 5,.int .i64 5,.int .i64 5,.int .i64 l]++List.replicate 64 (.int .u64 0):List Value) 0->
 R (.tuple #[.int .i64 k,.int .i64 0]) H4)
namespace gV
theorem link{m:zY}{d b:Int}{H:zW}{R:zv}(h:pt m d b H R):C m d b H R:=by
 refine T_en K0 83 Tryz.func118 ?_
 intro w0 Q hQ
 unfold pt zq at h
 refine T_su [(0,vp m),(1,vi d),(2,vi b)]<| ar 0<| T_ed 2 [] []<| T_sz<| T_bz 0<| ar 1<| T_nd 1 [] [(10,vp m)] ?_
 rcases m with _ | mA
 ·rw[onPtr_none]at h
  exact T_ed 26 [0,10] [(0,vp none),(9,.bool true)]<| T_tz 9<| ar 2<| T_nr 2 [6,7] [vi 0,vi 1] hQ h
 rw[onPtr_some]at h
 refine T_nd 6 [0,10] [(0,vp (some mA)),(16,.bool (decide (d<0)))] ?_
 by_cases c1:d<0
 ·rw[if_pos c1]at h
  exact N_bd 16 (zQ c1)<| T_ed 20 [16] [(9,.bool true)]<| T_tz 9<| ar 2<| T_nr 2 [6,7] [vi 0,vi 1] hQ h
 rw[if_neg c1]at h
 refine N_bd 16 (zJ c1)<| T_nd 4 [16] [(20,.bool (decide (d>4)))] ?_
 by_cases c3:d>4
 ·rw[if_pos c3]at h
  exact N_bd 20 (zQ c3)<| T_ed 16 [20] [(9,.bool true)]<| T_tz 9<| ar 2<| T_nr 2 [6,7] [vi 0,vi 1] hQ h
 rw[if_neg c3]at h
 refine N_bd 20 (zJ c3)<| T_nd 4 [20] [(24,.bool (decide (b<0)))] ?_
 by_cases c5:b<0
 ·rw[if_pos c5]at h
  exact N_bd 24 (zQ c5)<| T_ed 12 [24] [(9,.bool true)]<| T_tz 9<| ar 2<| T_nr 2 [6,7] [vi 0,vi 1] hQ h
 rw[if_neg c5]at h
 refine N_bd 24 (zJ c5)<| T_nd 4 [24] [(28,.bool (decide (b>3)))] ?_
 by_cases c7:b>3
 ·rw[if_pos c7]at h
  exact N_bd 28 (zQ c7)<| T_ed 8 [28] [(9,.bool true)]<| T_tz 9<| ar 2<| T_nr 2 [6,7] [vi 0,vi 1] hQ h
 rw[if_neg c7]at h
 refine N_bd 28 (zJ c7)<| T_nd 3 [] [(31,vp (some mA))] ?_
 obtain⟨xB,xN,xC,q9,h⟩:=h
 refine T_l1 32 121 q9 [31]<| T_ed 4 [28,32] [(9,.bool ((xN:Int)==0))] ?_
 by_cases c10:(xN:Int)=0
 ·rw[if_pos c10]at h
  exact aH 9 (zV c10)<| ar 2<| T_nr 2 [6,7] [vi 0,vi 1] hQ h
 rw[if_neg c10]at h
 refine aI 9 (zK c10)<| ar 3<| T_nd 3 [9] [(39,vp (some (mA.add 2)))] ?_
 obtain⟨x,q12,h⟩:=h
 refine T_l1 40 3 q12 [39]<| T_ed 2 [40] [(36,.bool (x==0))] ?_
 by_cases c13:x=0
 ·rw[if_pos c13]at h
  exact aH 36 (zV c13)<| ar 4<| T_nr 2 [6,7] [vi 0,vi 2] hQ h
 rw[if_neg c13]at h
 refine aI 36 (zK c13)<| T_k<| aL<| aE<| ar 5<| T_ed 1 [36] [(8,vi 0)]<| T_sz<| T_bz 1 ?_
 obtain⟨y,m24,i15,i16⟩:=h
 refine dS (x:=K23) (σ:=Int) (λs_=> [(0,vp (some mA)),(1,vi d),(2,vi b),(8,vi s_)]) (λs_ H=>y s_ H) (λs_ H=>m24 s_ H) (0:Int) (by kernel_rfl) i15 sk ?_
 rintro k H1 i17
 have h:=i16 k H1 i17
 refine T_su [(0,vp (some mA)),(1,vi d),(2,vi b),(8,vi k)]<| T_sz<| ar 6<| T_nd 3 [] [(44,vp (some mA))] ?_
 obtain⟨u,o,p,q18,h⟩:=h
 refine T_l1 45 121 q18 [44]<| T_nd 1 [] [(46,vi k)] ?_
 obtain⟨n,rfl,q19,h⟩:=h
 refine T_xd (some 47) 121 127 72 n o p .i64 k Tryz.underlying121 q19.1 q19.2 [45,46] [(47,vp (some (n.add (Int.toNat k*72))))]<| T_nd 1 [47] [(48,vp (some ((n.add (Int.toNat k*72)).add 7)))] ?_
 obtain⟨s,q20,h⟩:=h
 refine T_l1 49 3 q20 [48]<| T_ed 1 [49] [(50,.bool (decide (s>0)))] ?_
 by_cases c21:s>0
 ·rw[if_pos c21]at h
  exact aH 50 (zQ c21)<| T_kt<| T_bz 2<| T_rz 7<| T_nd 3 [8,50] [(8,vi (zq (k+1)))]<| zx<| aL<| aE<| bG ((zq (k+1)):Int) sk h
 rw[if_neg c21]at h
 refine aI 50 (zJ c21)<| zk 1<| aD<| aD<| aR<| aE<| ar 8<| T_nd 3 [50] [(53,vp (some mA)),(55,vp (some (mA.add 1)))] ?_
 obtain⟨r,q23,h⟩:=h
 refine T_l1 56 3 q23 [55]<| T_nd 3 [53,56] [(57,vi (zq (r+1))),(59,vp (some (mA.add 1)))] ?_
 obtain⟨q25,h⟩:=h
 refine je 3 (vi (zq (r+1))) q25 ?_
 intro H2 e24
 replace h:=h H2 e24
 refine T_pd [57,59] []<| T_e<| ar 9<| T_nd 3 [] [(60,vp (some mA)),(62,vp (some (mA.add 2)))] ?_
 obtain⟨q,q26,h⟩:=h
 refine T_l1 63 3 q26 [62]<| T_nd 3 [60,63] [(64,vi (zq (q-1))),(66,vp (some (mA.add 2)))] ?_
 obtain⟨q28,h⟩:=h
 refine je 3 (vi (zq (q-1))) q28 ?_
 intro H3 e27
 replace h:=h H3 e27
 refine T_pd [64,66] []<| T_e<| T_sz ?_
 obtain⟨z,f,j,q29,l,q30,e,rfl,q31,h⟩:=h
 refine yq 10 (Code.ops K35) [(15,mA,[vs (some e) f j]),(15,(mA.add 1),[vi l])] 16 (bv 16 0) (show aK _ _ _ from⟨⟨q29,trivial⟩,⟨q30,trivial⟩,trivial⟩)<| T_gp 0 (some 67) (vp (some mA)) (bv 16 1) [(0,vp (some mA)),(1,vi d),(2,vi b),(8,vi k),(67,vp (some mA))]<| aF 1 68 (vp (some mA)) (bv 16 3) [67]<| aF 2 69 (vp (some mA)) (bv 16 7) [68]<| T_g1 3 70 (vs (some e) f j) (bv 16 15) [69] (aT 121 (vp (some mA))) (yY 15 yX)<| aF 4 71 (vi k) (bv 16 31) []<| aF 5 72 (vi d) (bv 16 63) [1]<| aF 6 73 (vi b) (bv 16 127) [2]<| aF 7 74 (.agg #[vi 5,vi 5,vi 5,vi 5]) (bv 16 255) []<| aF 8 75 (.agg #[vi d,vi b,vi 0,vi 5,vi 5,vi 5,vi 5]) (bv 16 511) [72,73,74]<| aF 9 76 (vp (some mA)) (bv 16 1023) [0]<| aF 10 77 (vp (some mA)) (bv 16 2047) [76]<| aF 11 78 (vp (some (mA.add 1))) (bv 16 4095) [77]<| T_g1 12 79 (vi l) (bv 16 8191) [78] (aT 3 (vp (some (mA.add 1)))) (yY 15 yQ)<| aF 13 80 (.agg ([vi d,vi b,vi 0,vi 5,vi 5,vi 5,vi 5,vi l]++List.replicate 64 (vu 0):List Value).toArray) (bv 16 16383) [75,79]<| T_g1 14 81 (vp (some (e.add (Int.toNat k*72)))) (bv 16 32767) [70,71] (bD 121 (vs (some e) f j) (vi k)) (λ_ w _ _ _=>bR (P:=Tryz.prog) (t:=121) (elem:=127) (sz:=72) (a:=e) (len:=f) (cap:=j) (k:=.i64) (i:=k) Tryz.underlying121 (λ_=>by kernel_rfl) q31.1 q31.2 w) ?_
 obtain⟨q33,h⟩:=h
 refine iS 15 none (bv 16 65535) (jg 127 (vp (some (e.add (Int.toNat k*72)))) (.agg ([vi d,vi b,vi 0,vi 5,vi 5,vi 5,vi 5,vi l]++List.replicate 64 (vu 0):List Value).toArray)) (λHz=>Hz=aP H3 (e.add (Int.toNat k*72)) ([vi d,vi b,vi 0,vi 5,vi 5,vi 5,vi 5,vi l]++List.replicate 64 (vu 0):List Value) 0) (by kernel_rfl) (λ_=>by kernel_rfl) (by intro w hw;obtain⟨w1,g1,g2,g3⟩:=iW (P:=Tryz.prog) (H:=H3) (t:=127) (a:=(e.add (Int.toNat k*72))) (v:=(.agg ([vi d,vi b,vi 0,vi 5,vi 5,vi 5,vi 5,vi l]++List.replicate 64 (vu 0):List Value).toArray)) ([vi d,vi b,vi 0,vi 5,vi 5,vi 5,vi 5,vi l]++List.replicate 64 (vu 0):List Value) 72 (by kernel_rfl) (by kernel_rfl) (λ_=>by kernel_rfl) (by kernel_rfl) q33 w hw;exact⟨w1,g1,g2,g3⟩) (by kernel_rfl) ?_
 intro H4 e32
 replace h:=h H4 e32
 refine⟨[(8,vi k)],pk,(show aK _ _ _ from⟨trivial,trivial,trivial⟩),?_⟩
 refine eI [(8,vi k)] sk ?_
 exact yz<| aE<| ar 11<| T_nr 3 [6,7] [vi k,vi 0] hQ h
end gV

/-! (*moraine/seg.Mem).Mark -/
namespace gW
def K0:=Func.code Tryz.f131
end gW
def gW.pt(m:zY)(e b d:Int)(H:zW)(R:zv):Prop:=
 gL.C m e H (λv H1=> ∃x:zY,v=.pointer x/\
 gk x (
 R (.int .i64 19) H1) (λxA=>
 if((((decide (b<0)) || (decide (b>=4))) || (decide (d<0))) || (decide (d>5)))=true then(
 R (.int .i64 1) H1)
 else
 yZ b 4/\
 (aJ H1 ((xA.add 3).add (Int.toNat b*1)) 0 1)/\ ∀H2,H2=aP H1 ((xA.add 3).add (Int.toNat b*1)) [.int .i64 d] 0->
 R (.int .i64 0) H2))
namespace gW
theorem link{m:zY}{e b d:Int}{H:zW}{R:zv}(h:pt m e b d H R):C m e b d H R:=by
 refine T_en K0 38 Tryz.func131 ?_
 intro w0 Q hQ
 unfold pt at h
 refine T_su [(0,vp m),(1,vi e),(2,vi b),(3,vi d)]<| ar 0<| T_ed 1 [] []<| ar 1<| T_nd 2 [0,1] [(10,vp m),(11,vi e)]<| T_c (some 12) h ?_;clear h
 rintro v H1 ⟨x,rfl,h⟩
 refine T_pd [10,11] [(12,vp x)]<| T_ed 1 [12] [(9,vp x)]<| T_sz<| T_bz 0<| ar 2<| T_nd 1 [] [(14,vp x)] ?_
 rcases x with _ | xA
 ·rw[onPtr_none]at h
  exact T_ed 2 [9,14] [(9,vp none),(13,.bool true)]<| T_tz 13<| ar 3<| T_nr 1 [8] [vi 19] hQ h
 rw[onPtr_some]at h
 refine T_ed 2 [9,14] [(9,vp (some xA)),(13,.bool false)]<| T_fz 13<| ar 4 ?_
 refine gp [(2,vi b),(3,vi d),(9,vp (some xA)),(16,.bool ((((decide (b<0)) || (decide (b>=4))) || (decide (d<0))) || (decide (d>5))))] ?_ ?_
 ·refine aE ?_
  by_cases c7:((((decide (b<0)) || (decide (b>=4))) || (decide (d<0))) || (decide (d>5)))=true
  ·rw[if_pos c7]at h
   exact aH 16 c7<| ar 5<| T_nr 1 [8] [vi 1] hQ h
  rw[if_neg c7]at h
  refine aI 16 (zZ c7)<| T_k<| aL<| aE<| ar 6<| T_n 6 [(32,vi b),(33,vi d),(36,vp (some (xA.add 3)))] ?_
  obtain⟨q9,h⟩:=h
  refine T_v1 37 (bD 59 (vp (some (xA.add 3))) (vi b)) (vp (some ((xA.add 3).add (Int.toNat b*1)))) (λw _=>dK (P:=Tryz.prog) (t:=59) (elem:=3) (sz:=1) (n:=4) (a:=(xA.add 3)) (k:=.i64) (i:=b) Tryz.underlying59 (λ_=>by kernel_rfl) q9.1 q9.2 w) [32,36] ?_
  obtain⟨q11,h⟩:=h
  refine je 3 (vi d) q11 ?_
  intro H2 e10
  replace h:=h H2 e10
  refine⟨[],pk,?_⟩
  exact T_e<| ar 7<| T_nr 1 [8] [vi 0] hQ h
 intro hk
 refine T_n 3 [(2,vi b),(3,vi d),(9,vp (some xA)),(19,.bool (decide (b<0)))] ?_
 by_cases c1:b<0
 ·have b2:(decide (b<0))=true:=zQ c1
  refine bV [(2,vi b),(3,vi d),(9,vp (some xA)),(19,.bool true)] (by rw[b2]) ?_
  refine T_nd 12 [19] [(16,.bool true)]<| zx<| S_bd 16 (b:=true) (v:=((((decide (b<0)) || (decide (b>=4))) || (decide (d<0))) || (decide (d>5)))) (by simp only[b2,BL]) ?_
  exact hk
 have b2:(decide (b<0))=false:=zJ c1
 refine bV [(2,vi b),(3,vi d),(9,vp (some xA)),(19,.bool false)] (by rw[b2]) ?_
 refine T_nd 4 [19] [(23,.bool (decide (b>=4)))] ?_
 by_cases c3:b>=4
 ·have b4:(decide (b>=4))=true:=zQ c3
  refine N_bd 23 b4<| T_nd 8 [23] [(16,.bool true)] ?_
  refine zx<| S_bd 16 (b:=true) (v:=((((decide (b<0)) || (decide (b>=4))) || (decide (d<0))) || (decide (d>5)))) (by simp only[b2,b4,BL]) ?_
  exact hk
 have b4:(decide (b>=4))=false:=zJ c3
 refine N_bd 23 b4<| T_nd 4 [23] [(27,.bool (decide (d<0)))] ?_
 by_cases c5:d<0
 ·have b6:(decide (d<0))=true:=zQ c5
  refine N_bd 27 b6<| T_nd 4 [27] [(16,.bool true)] ?_
  refine zx<| S_bd 16 (b:=true) (v:=((((decide (b<0)) || (decide (b>=4))) || (decide (d<0))) || (decide (d>5)))) (by simp only[b2,b4,b6,BL]) ?_
  exact hk
 have b6:(decide (d<0))=false:=zJ c5
 refine N_bd 27 b6<| T_nd 4 [27] [(16,.bool (decide (d>5)))] ?_
 refine zx<| S_bd 16 (b:=(decide (d>5))) (v:=((((decide (b<0)) || (decide (b>=4))) || (decide (d<0))) || (decide (d>5)))) (by simp only[b2,b4,b6,BL]) ?_
 exact hk
end gW

