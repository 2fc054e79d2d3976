/- Printed: what each function asks, and that it is sound. -/
import Derived.Test.YtojbbgcjiaphjaaGreatFnsC
set_option linter.unusedSimpArgs false
set_option linter.unusedVariables false
set_option maxRecDepth 100000
set_option maxHeartbeats 1000000
noncomputable section
namespace Go.Proofs.YtojbbgcjiaphjaaGreat
open Go
/-! moraine/audit.Same -/
namespace fH
def K0:=Func.code Tryz.f9
end fH
def fH.pt(aB:zW)(aN aC:Nat)(bB:zW)(bN bC:Nat)(H:zV)(R:zv):Prop:=
 aH.C aB aN aC bB bN bC (.func (.func 24) #[] #[]) H (λv H1=> ∃x:Bool,v=.bool x/\
 R (.bool x) H1)
namespace fH
theorem link{aB:zW}{aN aC:Nat}{bB:zW}{bN bC:Nat}{H:zV}{R:zv}(h:pt aB aN aC bB bN bC H R):C aB aN aC bB bN bC H R:=by
 refine T_en K0 8 Tryz.func9 ?_
 intro w0 Q hQ
 unfold pt at h
 refine T_su [(0,vs aB aN aC),(1,vs bB bN bC)]<| ar 0<| T_ed 1 [] []<| ar 1<| T_n 2 [(5,vs aB aN aC),(6,vs bB bN bC)]<| T_c (some 7) h ?_;clear h
 rintro v H1 ⟨x,rfl,h⟩
 refine⟨[(7,.bool x)],pk,?_⟩
 exact T_nr 1 [4] [.bool x] hQ h
end fH

/-! moraine/audit.Live -/
namespace fU
def K0:=Func.code Tryz.f15
def K2:=cb K0
def K4:=cb K2
def K6:=cb K4
def K7:=ca K6
def K10:=cb K7
def K11:=ca K10
def K12:=ca K11
end fU
def fU.pt(hv l:zW)(j g:Nat)(H:zV)(R:zv):Prop:=
 fI.C hv l j g H (λv H1=> ∃(m:zW) (b e:Nat) (rb:Option Nat),v=.tuple #[.slice m b e,.map rb]/\
 ∃(o:Int->zw) (m13:Int->Int->zV->Nat),o 0 0 H1/\ ∀(d:Int) (s18:Int) (H2:zV),o d s18 H2->
 if s18< (b:Int)then(
 ∃f:Addr,m=some f/\
 yZ s18 b/\
 ∃x:Int,hat H2 (f.add (Int.toNat s18*1))=some (.int .u64 x)/\
 bE.C hv x H2 (λp H3=> ∃n:Int,p=.int .i64 n/\
 (o (zY (d+n)) (zY (s18+1)) H3/\m13 (zY (d+n)) (zY (s18+1)) H3<m13 d s18 H2)))
 else
 R (.int .i64 d) H2)
namespace fU
theorem link{hv l:zW}{j g:Nat}{H:zV}{R:zv}(h:pt hv l j g H R):C hv l j g H R:=by
 refine T_en K0 29 Tryz.func15 ?_
 intro w0 Q hQ
 unfold pt zY at h
 refine T_su [(0,vp hv),(1,vs l j g)]<| ar 0<| T_ed 1 [] []<| ar 1<| T_nd 2 [1] [(11,vp hv),(12,vs l j g)]<| T_c (some 13) h ?_;clear h
 rintro v H1 ⟨m,b,e,rb,rfl,h⟩
 refine T_pd [11,12] [(13,.tuple #[vs m b e,.map rb])]<| T_ed 5 [13] [(5,vs m b e)]<| ar 2<| T_ed 1 [] [(7,vi 0)]<| T_sz<| ar 3<| T_ed 3 [5] [(16,vs m b e),(17,vi b),(18,vi 0)]<| T_bz 0 ?_
 obtain⟨o,m13,i1,i2⟩:=h
 refine dE (x:=K12) (σ:=Int×Int) (λs_=> [(0,vp hv),(7,vi s_.1),(16,vs m b e),(17,vi b),(18,vi s_.2)]) (λs_ H=>o s_.1 s_.2 H) (λs_ H=>m13 s_.1 s_.2 H) ((0,0):Int×Int) (by kernel_rfl) i1 sk ?_
 rintro⟨d,s18⟩ H2 i3
 have h:=i2 d s18 H2 i3
 refine T_su [(0,vp hv),(7,vi d),(16,vs m b e),(17,vi b),(18,vi s18)]<| ar 4<| T_ed 1 [] [(19,.bool (decide (s18< (b:Int))))]<| T_sz ?_
 by_cases c4:s18< (b:Int)
 ·rw[if_pos c4]at h
  refine aL 19 (zX c4)<| T_kt<| T_sz<| T_bz 1<| ar 5<| T_ud [19] [] ?_
  obtain⟨f,rfl,q6,h⟩:=h
  refine T_xd (some 20) 29 40 1 f b e .i64 s18 Tryz.underlying29 q6.1 q6.2 [16] [(16,vs (some f) b e),(20,vp (some (f.add (Int.toNat s18*1))))] ?_
  obtain⟨x,q7,h⟩:=h
  refine T_l1 21 40 q7 [20]<| T_ed 1 [21] [(9,vu x)]<| T_rz 6<| T_nd 3 [7,9] [(22,vi d),(23,vp hv),(24,vu x)]<| T_c (some 25) h ?_;clear h
  rintro p H3 ⟨n,rfl,h⟩
  exact T_pd [23,24] [(25,vi n)]<| T_nd 2 [22,25] [(7,vi (zY (d+n)))]<| zq<| aA<| aE<| T_rz 7<| T_ed 2 [18] [(18,vi (zY (s18+1)))]<| bK (((zY (d+n)),(zY (s18+1))):Int×Int) sk h
 rw[if_neg c4]at h
 exact aM 19 (zQ c4)<| zk 0<| aD<| aD<| aQ<| aE<| ar 8<| T_nr 2 [4] [vi d] hQ h
end fU

/-! slices.EqualFunc[[]moraine/api.Knot,[]moraine/api.Knot,moraine/api.Knot,moraine/api.Knot] -/
namespace aH
def K0:=Func.code Tryz.f23
def K2:=cb K0
def K4:=cb K2
def K9:=ca K4
def K12:=cb K9
def K13:=ca K12
def K14:=ca K13
end aH
def aH.pt(ap:zW)(d l:Nat)(aa:zW)(f g:Nat)(eq:Value)(H:zV)(R:zv):Prop:=
 if(d:Int)=(f:Int)then(
 ∃(a8:zw) (m15:Int->zV->Nat),a8 0 H/\ ∀(e:Int) (H1:zV),a8 e H1->
 if e< (d:Int)then(
 ∃j:Addr,ap=some j/\
 yZ e d/\
 ∃(a2 an ao:Int) (r:zW) (q s:Nat) (a0:zW) (a1 az:Nat),aS H1 (j.add (Int.toNat e*5)) 0 [.int .i64 a2,.int .i64 an,.int .u64 ao,.slice r q s,.slice a0 a1 az]/\
 ∀(b:Nat) (H2:zV),b=H1.size->H2=H1.push (.cells #[.int .i64 0,.int .i64 0,.int .u64 0,.slice none 0 0,.slice none 0 0] 61)->
 (aK H2 (ad b) 0 5)/\ ∀H3,H3=aU H2 (ad b) [.int .i64 a2,.int .i64 an,.int .u64 ao,.slice r q s,.slice a0 a1 az] 0->
 ∃p:Addr,aa=some p/\
 yZ e f/\
 ∃(ai ac ab:Int) (o:zW) (m n:Nat) (ak:zW) (ah aj:Nat),aS H3 (p.add (Int.toNat e*5)) 0 [.int .i64 ai,.int .i64 ac,.int .u64 ab,.slice o m n,.slice ak ah aj]/\
 ∀(a5:Nat) (H4:zV),a5=H3.size->H4=H3.push (.cells #[.int .i64 0,.int .i64 0,.int .u64 0,.slice none 0 0,.slice none 0 0] 61)->
 (aK H4 (ad a5) 0 5)/\ ∀H5,H5=aU H4 (ad a5) [.int .i64 ai,.int .i64 ac,.int .u64 ab,.slice o m n,.slice ak ah aj] 0->
 ∃(ay al am:Int) (z:zW) (y u:Nat) (aw:zW) (ax av:Nat),aS H5 (ad b) 0 [.int .i64 ay,.int .i64 al,.int .u64 am,.slice z y u,.slice aw ax av]/\
 ∃(a6 au aq:Int) (af:zW) (ae ag:Nat) (a7:zW) (a4 a3:Nat),aS H5 (ad a5) 0 [.int .i64 a6,.int .i64 au,.int .u64 aq,.slice af ae ag,.slice a7 a4 a3]/\
 FC Tryz.prog eq #[.agg #[.int .i64 ay,.int .i64 al,.int .u64 am,.slice z y u,.slice aw ax av],.agg #[.int .i64 a6,.int .i64 au,.int .u64 aq,.slice af ae ag,.slice a7 a4 a3]] H5 (λv H6=> ∃x:Bool,v=.bool x/\
 if x=true then(
 (a8 (zY (e+1)) H6/\m15 (zY (e+1)) H6<m15 e H1))
 else
 R (.bool false) H6))
 else
 R (.bool true) H1)
 else
 R (.bool false) H
namespace aH
theorem link{ap:zW}{d l:Nat}{aa:zW}{f g:Nat}{eq:Value}{H:zV}{R:zv}(h:pt ap d l aa f g eq H R):C ap d l aa f g eq H R:=by
 refine T_en K0 32 Tryz.func23 ?_
 intro w0 Q hQ
 unfold pt zY at h
 refine T_su [(0,vs ap d l),(1,vs aa f g),(2,eq)]<| ar 0<| T_ed 1 [] []<| T_sz<| ar 1<| T_ed 5 [] [(14,.bool ((d:Int) !=(f:Int)))] ?_
 by_cases c1:(d:Int)=(f:Int)
 ·rw[if_pos c1]at h
  refine aM 14 (bne_eq_false_iff_eq.mpr c1)<| T_kt<| T_sz<| ar 3<| T_ed 3 [0,14] [(15,vs ap d l),(16,vi d),(17,vi 0)]<| T_bz 0 ?_
  obtain⟨a8,m15,i3,i4⟩:=h
  refine dE (x:=K14) (σ:=Int) (λs_=> [(1,vs aa f g),(2,eq),(15,vs ap d l),(16,vi d),(17,vi s_)]) (λs_ H=>a8 s_ H) (λs_ H=>m15 s_ H) (0:Int) (by kernel_rfl) i3 sk ?_
  rintro e H1 i5
  have h:=i4 e H1 i5
  refine T_su [(1,vs aa f g),(2,eq),(15,vs ap d l),(16,vi d),(17,vi e)]<| ar 4<| T_ed 1 [] [(18,.bool (decide (e< (d:Int))))]<| T_sz ?_
  by_cases c6:e< (d:Int)
  ·rw[if_pos c6]at h
   refine aL 18 (zX c6)<| T_kt<| T_sz<| T_bz 1<| ar 5<| T_nd 1 [18] [(19,vi e)] ?_
   obtain⟨j,rfl,q8,h⟩:=h
   refine T_xd (some 20) 22 61 5 j d l .i64 e Tryz.underlying22 q8.1 q8.2 [15] [(15,vs (some j) d l),(20,vp (some (j.add (Int.toNat e*5))))] ?_
   obtain⟨a2,an,ao,r,q,s,a0,a1,az,q9,h⟩:=h
   refine T_lr 21 61 q9 [20]<| T_nw (some 8) (λb=>vp (pa b)) (.cells #[vi 0,vi 0,vu 0,vs none 0 0,vs none 0 0] 61) ?_
   intro b H2 e10 e11
   replace h:=h b H2 e10 e11
   refine T_pd [] [(8,vp (pa b))]<| T_nd 1 [19] [(7,vi e)] ?_
   obtain⟨q13,h⟩:=h
   refine jP 61 [vi a2,vi an,vu ao,vs r q s,vs a0 a1 az] q13 ?_
   intro H3 e12
   replace h:=h H3 e12
   refine T_pd [21] []<| T_e<| ar 6<| T_nd 2 [7] [(22,vs aa f g),(23,vi e)] ?_
   obtain⟨p,rfl,q14,h⟩:=h
   refine T_xd (some 24) 22 61 5 p f g .i64 e Tryz.underlying22 q14.1 q14.2 [1,22,23] [(1,vs (some p) f g),(24,vp (some (p.add (Int.toNat e*5))))] ?_
   obtain⟨ai,ac,ab,o,m,n,ak,ah,aj,q15,h⟩:=h
   refine T_lr 25 61 q15 [24]<| T_nw (some 9) (λb=>vp (pa b)) (.cells #[vi 0,vi 0,vu 0,vs none 0 0,vs none 0 0] 61) ?_
   intro a5 H4 e16 e17
   replace h:=h a5 H4 e16 e17
   refine T_pd [] [(9,vp (pa a5))] ?_
   obtain⟨q19,h⟩:=h
   refine jP 61 [vi ai,vi ac,vu ab,vs o m n,vs ak ah aj] q19 ?_
   intro H5 e18
   replace h:=h H5 e18
   refine T_pd [25] []<| T_e<| ar 7<| T_nd 1 [] [(26,eq)] ?_
   obtain⟨ay,al,am,z,y,u,aw,ax,av,q20,h⟩:=h
   refine T_lr 27 61 q20 [8] ?_
   obtain⟨a6,au,aq,af,ae,ag,a7,a4,a3,q21,h⟩:=h
   refine T_lr 28 61 q21 [9]<| jy (some 29) eq #[.agg #[vi ay,vi al,vu am,vs z y u,vs aw ax av],.agg #[vi a6,vi au,vu aq,vs af ae ag,vs a7 a4 a3]] (λ_=>by kernel_rfl) h ?_;clear h
   rintro v H6 ⟨x,rfl,h⟩
   refine T_pd [26,27,28] [(29,.bool x)]<| T_ed 1 [29] [(30,.bool (!x))] ?_
   by_cases c22:x=true
   ·rw[if_pos c22]at h
    exact aM 30 (congrArg Bool.not (c22))<| T_k<| aA<| aE<| T_rz 9<| T_ed 2 [17,30] [(17,vi (zY (e+1)))]<| bK ((zY (e+1)):Int) sk h
   rw[if_neg c22]at h
   exact aL 30 (congrArg Bool.not (zZ c22))<| ar 8<| T_nr 1 [6] [.bool false] hQ h
  rw[if_neg c6]at h
  exact aM 18 (zQ c6)<| zk 0<| aD<| aD<| aQ<| aE<| ar 10<| T_nr 1 [6] [.bool true] hQ h
 rw[if_neg c1]at h
 exact aL 14 (bne_iff_ne.mpr c1)<| ar 2<| T_nr 1 [6] [.bool false] hQ h
end aH

/-! slices.Equal[[]moraine/api.Word,moraine/api.Word] -/
namespace aV
def K0:=Func.code Tryz.f25
def K2:=cb K0
def K4:=cb K2
def K9:=ca K4
def K12:=cb K9
def K13:=ca K12
def K14:=ca K13
end aV
def aV.pt(m:zW)(b g:Nat)(l:zW)(e f:Nat)(H:zV)(R:zv):Prop:=
 if(b:Int)=(e:Int)then(
 ∃(p:zw) (m15:Int->zV->Nat),p 0 H/\ ∀(d:Int) (H1:zV),p d H1->
 if d< (b:Int)then(
 ∃j:Addr,m=some j/\
 yZ d b/\
 ∃x:Int,hat H1 (j.add (Int.toNat d*1))=some (.int .u64 x)/\
 ∃n:Addr,l=some n/\
 yZ d e/\
 ∃o:Int,hat H1 (n.add (Int.toNat d*1))=some (.int .u64 o)/\
 if x=o then(
 (p (zY (d+1)) H1/\m15 (zY (d+1)) H1<m15 d H1))
 else
 R (.bool false) H1)
 else
 R (.bool true) H1)
 else
 R (.bool false) H
namespace aV
theorem link{m:zW}{b g:Nat}{l:zW}{e f:Nat}{H:zV}{R:zv}(h:pt m b g l e f H R):C m b g l e f H R:=by
 refine T_en K0 26 Tryz.func25 ?_
 intro w0 Q hQ
 unfold pt zY at h
 refine T_su [(0,vs m b g),(1,vs l e f)]<| ar 0<| T_ed 1 [] []<| T_sz<| ar 1<| T_ed 5 [] [(10,.bool ((b:Int) !=(e:Int)))] ?_
 by_cases c1:(b:Int)=(e:Int)
 ·rw[if_pos c1]at h
  refine aM 10 (bne_eq_false_iff_eq.mpr c1)<| T_kt<| T_sz<| ar 3<| T_ed 3 [10] [(12,vi b),(13,vi 0)]<| T_bz 0 ?_
  obtain⟨p,m15,i3,i4⟩:=h
  refine dE (x:=K14) (σ:=Int) (λs_=> [(0,vs m b g),(1,vs l e f),(12,vi b),(13,vi s_)]) (λs_ H=>p s_ H) (λs_ H=>m15 s_ H) (0:Int) (by kernel_rfl) i3 sk ?_
  rintro d H1 i5
  have h:=i4 d H1 i5
  refine T_su [(0,vs m b g),(1,vs l e f),(12,vi b),(13,vi d)]<| ar 4<| T_ed 1 [] [(14,.bool (decide (d< (b:Int))))]<| T_sz ?_
  by_cases c6:d< (b:Int)
  ·rw[if_pos c6]at h
   refine aL 14 (zX c6)<| T_kt<| T_sz<| T_bz 1<| ar 5<| T_ed 2 [14] [(5,vi d)]<| T_sz<| ky 6<| T_q1 16 (vs m b g) []<| T_q1 17 (vi d) [] ?_
   obtain⟨j,rfl,q8,h⟩:=h
   refine Q_op (some 18) (aZ 29 (vs (some j) b g) (vi d)) (vp (some (j.add (Int.toNat d*1)))) (λ_=>by kernel_rfl) (λw _=>bL (P:=Tryz.prog) (t:=29) (elem:=40) (sz:=1) (a:=j) (len:=b) (cap:=g) (k:=.i64) (i:=d) Tryz.underlying29 (λ_=>by kernel_rfl) q8.1 q8.2 w) [(0,vs (some j) b g),(1,vs l e f),(5,vi d),(12,vi b),(13,vi d),(18,vp (some (j.add (Int.toNat d*1))))] pk ?_
   obtain⟨x,q9,h⟩:=h
   refine T_ql (some 19) 40 q9 [(0,vs (some j) b g),(1,vs l e f),(5,vi d),(12,vi b),(13,vi d),(19,vu x)]<| T_q1 20 (vs l e f) []<| T_q1 21 (vi d) [5] ?_
   obtain⟨n,rfl,q10,h⟩:=h
   refine Q_op (some 22) (aZ 29 (vs (some n) e f) (vi d)) (vp (some (n.add (Int.toNat d*1)))) (λ_=>by kernel_rfl) (λw _=>bL (P:=Tryz.prog) (t:=29) (elem:=40) (sz:=1) (a:=n) (len:=e) (cap:=f) (k:=.i64) (i:=d) Tryz.underlying29 (λ_=>by kernel_rfl) q10.1 q10.2 w) [(0,vs (some j) b g),(1,vs (some n) e f),(12,vi b),(13,vi d),(19,vu x),(22,vp (some (n.add (Int.toNat d*1))))] pk ?_
   obtain⟨o,q11,h⟩:=h
   refine T_ql (some 23) 40 q11 [(0,vs (some j) b g),(1,vs (some n) e f),(12,vi b),(13,vi d),(19,vu x),(23,vu o)]<| T_q1 24 (.bool (x !=o)) [19,23]<| jN [(0,vs (some j) b g),(1,vs (some n) e f),(12,vi b),(13,vi d),(24,.bool (x !=o))] sk<| T_qe ?_
   by_cases c12:x=o
   ·rw[if_pos c12]at h
    exact aM 24 (bne_eq_false_iff_eq.mpr c12)<| T_k<| aA<| aE<| T_rz 8<| T_ne 2 [(0,vs (some j) b g),(1,vs (some n) e f),(12,vi b),(13,vi (zY (d+1)))]<| bK ((zY (d+1)):Int) sk h
   rw[if_neg c12]at h
   exact aL 24 (bne_iff_ne.mpr c12)<| ar 7<| T_nr 1 [4] [.bool false] hQ h
  rw[if_neg c6]at h
  exact aM 14 (zQ c6)<| zk 0<| aD<| aD<| aQ<| aE<| ar 9<| T_nr 1 [4] [.bool true] hQ h
 rw[if_neg c1]at h
 exact aL 10 (bne_iff_ne.mpr c1)<| ar 2<| T_nr 1 [4] [.bool false] hQ h
end aV

/-! slices.Equal[[]int,int] -/
namespace bP
def K0:=Func.code Tryz.f26
def K2:=cb K0
def K4:=cb K2
def K9:=ca K4
def K12:=cb K9
def K13:=ca K12
def K14:=ca K13
end bP
def bP.pt(m:zW)(b g:Nat)(l:zW)(e f:Nat)(H:zV)(R:zv):Prop:=
 if(b:Int)=(e:Int)then(
 ∃(p:zw) (m15:Int->zV->Nat),p 0 H/\ ∀(d:Int) (H1:zV),p d H1->
 if d< (b:Int)then(
 ∃j:Addr,m=some j/\
 yZ d b/\
 ∃x:Int,hat H1 (j.add (Int.toNat d*1))=some (.int .i64 x)/\
 ∃n:Addr,l=some n/\
 yZ d e/\
 ∃o:Int,hat H1 (n.add (Int.toNat d*1))=some (.int .i64 o)/\
 if x=o then(
 (p (zY (d+1)) H1/\m15 (zY (d+1)) H1<m15 d H1))
 else
 R (.bool false) H1)
 else
 R (.bool true) H1)
 else
 R (.bool false) H
namespace bP
theorem link{m:zW}{b g:Nat}{l:zW}{e f:Nat}{H:zV}{R:zv}(h:pt m b g l e f H R):C m b g l e f H R:=by
 refine T_en K0 26 Tryz.func26 ?_
 intro w0 Q hQ
 unfold pt zY at h
 refine T_su [(0,vs m b g),(1,vs l e f)]<| ar 0<| T_ed 1 [] []<| T_sz<| ar 1<| T_ed 5 [] [(10,.bool ((b:Int) !=(e:Int)))] ?_
 by_cases c1:(b:Int)=(e:Int)
 ·rw[if_pos c1]at h
  refine aM 10 (bne_eq_false_iff_eq.mpr c1)<| T_kt<| T_sz<| ar 3<| T_ed 3 [10] [(12,vi b),(13,vi 0)]<| T_bz 0 ?_
  obtain⟨p,m15,i3,i4⟩:=h
  refine dE (x:=K14) (σ:=Int) (λs_=> [(0,vs m b g),(1,vs l e f),(12,vi b),(13,vi s_)]) (λs_ H=>p s_ H) (λs_ H=>m15 s_ H) (0:Int) (by kernel_rfl) i3 sk ?_
  rintro d H1 i5
  have h:=i4 d H1 i5
  refine T_su [(0,vs m b g),(1,vs l e f),(12,vi b),(13,vi d)]<| ar 4<| T_ed 1 [] [(14,.bool (decide (d< (b:Int))))]<| T_sz ?_
  by_cases c6:d< (b:Int)
  ·rw[if_pos c6]at h
   refine aL 14 (zX c6)<| T_kt<| T_sz<| T_bz 1<| ar 5<| T_ed 2 [14] [(5,vi d)]<| T_sz<| ky 6<| T_q1 16 (vs m b g) []<| T_q1 17 (vi d) [] ?_
   obtain⟨j,rfl,q8,h⟩:=h
   refine Q_op (some 18) (aZ 59 (vs (some j) b g) (vi d)) (vp (some (j.add (Int.toNat d*1)))) (λ_=>by kernel_rfl) (λw _=>bL (P:=Tryz.prog) (t:=59) (elem:=3) (sz:=1) (a:=j) (len:=b) (cap:=g) (k:=.i64) (i:=d) Tryz.underlying59 (λ_=>by kernel_rfl) q8.1 q8.2 w) [(0,vs (some j) b g),(1,vs l e f),(5,vi d),(12,vi b),(13,vi d),(18,vp (some (j.add (Int.toNat d*1))))] pk ?_
   obtain⟨x,q9,h⟩:=h
   refine T_ql (some 19) 3 q9 [(0,vs (some j) b g),(1,vs l e f),(5,vi d),(12,vi b),(13,vi d),(19,vi x)]<| T_q1 20 (vs l e f) []<| T_q1 21 (vi d) [5] ?_
   obtain⟨n,rfl,q10,h⟩:=h
   refine Q_op (some 22) (aZ 59 (vs (some n) e f) (vi d)) (vp (some (n.add (Int.toNat d*1)))) (λ_=>by kernel_rfl) (λw _=>bL (P:=Tryz.prog) (t:=59) (elem:=3) (sz:=1) (a:=n) (len:=e) (cap:=f) (k:=.i64) (i:=d) Tryz.underlying59 (λ_=>by kernel_rfl) q10.1 q10.2 w) [(0,vs (some j) b g),(1,vs (some n) e f),(12,vi b),(13,vi d),(19,vi x),(22,vp (some (n.add (Int.toNat d*1))))] pk ?_
   obtain⟨o,q11,h⟩:=h
   refine T_ql (some 23) 3 q11 [(0,vs (some j) b g),(1,vs (some n) e f),(12,vi b),(13,vi d),(19,vi x),(23,vi o)]<| T_q1 24 (.bool (x !=o)) [19,23]<| jN [(0,vs (some j) b g),(1,vs (some n) e f),(12,vi b),(13,vi d),(24,.bool (x !=o))] sk<| T_qe ?_
   by_cases c12:x=o
   ·rw[if_pos c12]at h
    exact aM 24 (bne_eq_false_iff_eq.mpr c12)<| T_k<| aA<| aE<| T_rz 8<| T_ne 2 [(0,vs (some j) b g),(1,vs (some n) e f),(12,vi b),(13,vi (zY (d+1)))]<| bK ((zY (d+1)):Int) sk h
   rw[if_neg c12]at h
   exact aL 24 (bne_iff_ne.mpr c12)<| ar 7<| T_nr 1 [4] [.bool false] hQ h
  rw[if_neg c6]at h
  exact aM 14 (zQ c6)<| zk 0<| aD<| aD<| aQ<| aE<| ar 9<| T_nr 1 [4] [.bool true] hQ h
 rw[if_neg c1]at h
 exact aL 10 (bne_iff_ne.mpr c1)<| ar 2<| T_nr 1 [4] [.bool false] hQ h
end bP

/-! slices.Contains[[]int,int] -/
namespace bD
def K0:=Func.code Tryz.f67
end bD
def bD.pt(sB:zW)(sN sC:Nat)(v:Int)(H:zV)(R:zv):Prop:=
 bU.C sB sN sC v H (λa H1=> ∃x:Int,a=.int .i64 x/\
 R (.bool (decide (x>=0))) H1)
namespace bD
theorem link{sB:zW}{sN sC:Nat}{v:Int}{H:zV}{R:zv}(h:pt sB sN sC v H R):C sB sN sC v H R:=by
 refine T_en K0 9 Tryz.func67 ?_
 intro w0 Q hQ
 unfold pt at h
 refine T_su [(0,vs sB sN sC),(1,vi v)]<| ar 0<| T_ed 1 [] []<| ar 1<| T_n 2 [(5,vs sB sN sC),(6,vi v)]<| T_c (some 7) h ?_;clear h
 rintro a H1 ⟨x,rfl,h⟩
 refine⟨[(7,vi x)],pk,?_⟩
 exact T_nr 2 [4] [.bool (decide (x>=0))] hQ h
end bD

/-! slices.Clone[[]moraine/api.Entry,moraine/api.Entry] -/
namespace aW
def K0:=Func.code Tryz.f92
end aW
def aW.pt(sB:zW)(sN sC:Nat)(H:zV)(R:zv):Prop:=
 eY sB (
 R (.slice none 0 0) H) (λa=>
 ∀(b:Nat) (H1:zV),b=H.size->H1=H.push (.cells #[] 40)->
 dH 1 40 8 [.int .u64 0] (some (ad b)) 0 0 (some a) sN H1 (λap d H2=>
 R (.slice ap (0+sN) d) H2))
namespace aW
theorem link{sB:zW}{sN sC:Nat}{H:zV}{R:zv}(h:pt sB sN sC H R):C sB sN sC H R:=by
 refine T_en K0 8 Tryz.func92 ?_
 intro w0 Q hQ
 unfold pt at h
 refine T_su [(0,vs sB sN sC)]<| ar 0<| T_ed 1 [] []<| T_sz<| ar 1<| T_nd 1 [] [(3,vs sB sN sC)] ?_
 rcases sB with _ | a
 ·rw[onPtr_none]at h
  exact T_ne 1 [(0,vs none sN sC),(4,.bool true)]<| T_tz 4<| ar 2<| T_nr 1 [2] [vs none 0 0] hQ h
 rw[onPtr_some]at h
 refine T_ne 1 [(0,vs (some a) sN sC),(4,.bool false)]<| T_fz 4<| T_kt<| ar 3<| T_ud [4] []<| T_nw (some 5) (λb=>vs (pa b) 0 0) (.cells #[] 40) ?_
 intro b H1 e1 e2
 replace h:=h b H1 e1 e2
 refine T_pd [] [(5,vs (pa b) 0 0)]<| T_nd 1 [0] [(6,vs (some a) sN sC)]<| N_op (some 7) (eJ #[29,29] 29 #[vs (pa b) 0 0,vs (some a) sN sC]) _ (λ_=>by kernel_rfl) (dM (T:=40) (sz:=1) (bytes:=8) (zero:=(vu 0:Value)) Tryz.underlying29 Tryz.underlying29 rfl (show Tryz.prog.info? 40=some Tryz.t40 from by kernel_rfl) (by kernel_rfl) (by kernel_rfl) (by decide) (by kernel_rfl) (by first | exact h | (simpa only[Value.cells,List.toList_toArray]using h))) ?_;clear h
 rintro _ H2 ⟨ap,d,rfl,h⟩
 refine⟨[(7,vs ap (0+sN) d)],pk,?_⟩
 exact T_nr 1 [2] [vs ap (0+sN) d] hQ h
end aW

/-! slices.Index[[]int,int] -/
namespace bU
def K0:=Func.code Tryz.f112
def K2:=cb K0
def K3:=ca K2
def K6:=cb K3
def K7:=ca K6
def K8:=ca K7
end bU
def bU.pt(sB:zW)(sN sC:Nat)(v:Int)(H:zV)(R:zv):Prop:=
 ∃(I9:zw) (m9:Int->zV->Nat),I9 0 H/\ ∀(s8:Int) (H1:zV),I9 s8 H1->
 if s8< (sN:Int)then(
 ∃b:Addr,sB=some b/\
 yZ s8 sN/\
 ∃x:Int,hat H1 (b.add (Int.toNat s8*1))=some (.int .i64 x)/\
 if v=x then(
 R (.int .i64 s8) H1)
 else
 (I9 (zY (s8+1)) H1/\m9 (zY (s8+1)) H1<m9 s8 H1))
 else
 R (.int .i64 (-1)) H1
namespace bU
theorem link{sB:zW}{sN sC:Nat}{v:Int}{H:zV}{R:zv}(h:pt sB sN sC v H R):C sB sN sC v H R:=by
 refine T_en K0 19 Tryz.func112 ?_
 intro w0 Q hQ
 unfold pt zY at h
 refine T_su [(0,vs sB sN sC),(1,vi v)]<| ar 0<| T_ed 1 [] []<| T_sz<| ar 1<| T_ed 3 [] [(7,vi sN),(8,vi 0)]<| T_bz 0 ?_
 obtain⟨I9,m9,i1,i2⟩:=h
 refine dE (x:=K8) (σ:=Int) (λs_=> [(0,vs sB sN sC),(1,vi v),(7,vi sN),(8,vi s_)]) (λs_ H=>I9 s_ H) (λs_ H=>m9 s_ H) (0:Int) (by kernel_rfl) i1 sk ?_
 rintro s8 H1 i3
 have h:=i2 s8 H1 i3
 refine T_su [(0,vs sB sN sC),(1,vi v),(7,vi sN),(8,vi s8)]<| ar 2<| T_ed 1 [] [(9,.bool (decide (s8< (sN:Int))))]<| T_sz ?_
 by_cases c4:s8< (sN:Int)
 ·rw[if_pos c4]at h
  refine aL 9 (zX c4)<| T_kt<| T_sz<| T_bz 1<| ar 3<| T_ed 2 [9] [(5,vi s8)]<| ar 4<| T_nd 3 [] [(11,vi v),(12,vs sB sN sC),(13,vi s8)] ?_
  obtain⟨b,rfl,q6,h⟩:=h
  refine T_xd (some 14) 59 3 1 b sN sC .i64 s8 Tryz.underlying59 q6.1 q6.2 [0,12,13] [(0,vs (some b) sN sC),(14,vp (some (b.add (Int.toNat s8*1))))] ?_
  obtain⟨x,q7,h⟩:=h
  refine T_l1 15 3 q7 [14]<| T_ed 1 [11,15] [(16,.bool (v==x))] ?_
  by_cases c8:v=x
  ·rw[if_pos c8]at h
   exact aL 16 (zK c8)<| ar 5<| T_nr 2 [4] [vi s8] hQ h
  rw[if_neg c8]at h
  exact aM 16 (zJ c8)<| T_k<| aA<| aE<| T_rz 6<| T_ed 2 [5,8,16] [(8,vi (zY (s8+1)))]<| bK ((zY (s8+1)):Int) sk h
 rw[if_neg c4]at h
 exact aM 9 (zQ c4)<| zk 0<| aD<| aD<| aQ<| aE<| ar 7<| T_nr 1 [4] [vi (-1)] hQ h
end bU

/-! slices.Clone[[]moraine/seg.segment,moraine/seg.segment] -/
namespace aR
def K0:=Func.code Tryz.f155
end aR
def aR.pt(sB:zW)(sN sC:Nat)(H:zV)(R:zv):Prop:=
 eY sB (
 R (.slice none 0 0) H) (λa=>
 ∀(b:Nat) (H1:zV),b=H.size->H1=H.push (.cells #[] 134)->
 dH 72 134 576 (List.replicate 8 (.int .i64 0)++List.replicate 64 (.int .u64 0):List Value) (some (ad b)) 0 0 (some a) sN H1 (λap d H2=>
 R (.slice ap (0+sN) d) H2))
namespace aR
theorem link{sB:zW}{sN sC:Nat}{H:zV}{R:zv}(h:pt sB sN sC H R):C sB sN sC H R:=by
 refine T_en K0 8 Tryz.func155 ?_
 intro w0 Q hQ
 unfold pt at h
 refine T_su [(0,vs sB sN sC)]<| ar 0<| T_ed 1 [] []<| T_sz<| ar 1<| T_nd 1 [] [(3,vs sB sN sC)] ?_
 rcases sB with _ | a
 ·rw[onPtr_none]at h
  exact T_ne 1 [(0,vs none sN sC),(4,.bool true)]<| T_tz 4<| ar 2<| T_nr 1 [2] [vs none 0 0] hQ h
 rw[onPtr_some]at h
 refine T_ne 1 [(0,vs (some a) sN sC),(4,.bool false)]<| T_fz 4<| T_kt<| ar 3<| T_ud [4] []<| T_nw (some 5) (λb=>vs (pa b) 0 0) (.cells #[] 134) ?_
 intro b H1 e1 e2
 replace h:=h b H1 e1 e2
 refine T_pd [] [(5,vs (pa b) 0 0)]<| T_nd 1 [0] [(6,vs (some a) sN sC)]<| N_op (some 7) (eJ #[128,128] 128 #[vs (pa b) 0 0,vs (some a) sN sC]) _ (λ_=>by kernel_rfl) (dM (T:=134) (sz:=72) (bytes:=576) (zero:=(.agg (List.replicate 8 (vi 0)++List.replicate 64 (vu 0):List Value).toArray:Value)) Tryz.underlying128 Tryz.underlying128 rfl (show Tryz.prog.info? 134=some Tryz.t134 from by kernel_rfl) (by kernel_rfl) (by kernel_rfl) (by decide) (by kernel_rfl) (by first | exact h | (simpa only[Value.cells,List.toList_toArray]using h))) ?_;clear h
 rintro _ H2 ⟨ap,d,rfl,h⟩
 refine⟨[(7,vs ap (0+sN) d)],pk,?_⟩
 exact T_nr 1 [2] [vs ap (0+sN) d] hQ h
end aR

/-! moraine/morainelaw14.long -/
namespace bS
def K0:=Func.code Tryz.f7
def K2:=cb K0
def K4:=cb K2
def K11:=ca K4
def K14:=cb K11
def K15:=ca K14
def K16:=ca K15
end bS
def bS.pt(lB:zW)(lN lC:Nat)(H:zV)(R:zv):Prop:=
 if(lN:Int)>200 then(
 R (.bool true) H)
 else
 ∃(g:zw) (m17:Int->zV->Nat),g 0 H/\ ∀(i:Int) (H1:zV),g i H1->
 if i< (lN:Int)then(
 ∃b:Addr,lB=some b/\
 yZ i lN/\
 ∃(xB:zW) (xN xC:Nat),hat H1 ((b.add (Int.toNat i*5)).add 3)=some (.slice xB xN xC)/\
 if(xN:Int)>200 then(
 R (.bool true) H1)
 else
 yZ i lN/\
 ∃(f:zW) (d e:Nat),hat H1 ((b.add (Int.toNat i*5)).add 4)=some (.slice f d e)/\
 if(d:Int)>200 then(
 R (.bool true) H1)
 else
 (g (zY (i+1)) H1/\m17 (zY (i+1)) H1<m17 i H1))
 else
 R (.bool false) H1
namespace bS
set_option maxRecDepth 100000 in
theorem link{lB:zW}{lN lC:Nat}{H:zV}{R:zv}(h:pt lB lN lC H R):C lB lN lC H R:=by
 refine T_en K0 29 Tryz.func7 ?_
 intro w0 Q hQ
 unfold pt zY at h
 refine T_su [(0,vs lB lN lC)]<| ar 0<| T_ed 1 [] []<| T_sz<| ar 1<| T_ed 3 [] [(6,.bool (decide ((lN:Int)>200)))] ?_
 by_cases c1:(lN:Int)>200
 ·rw[if_pos c1]at h
  exact aL 6 (zX c1)<| ar 2<| T_nr 1 [2] [.bool true] hQ h
 rw[if_neg c1]at h
 refine aM 6 (zQ c1)<| T_kt<| T_sz<| ar 3<| T_ed 1 [6] [(3,vi 0)]<| T_bz 0 ?_
 obtain⟨g,m17,i3,i4⟩:=h
 refine dE (x:=K16) (σ:=Int) (λs_=> [(0,vs lB lN lC),(3,vi s_)]) (λs_ H=>g s_ H) (λs_ H=>m17 s_ H) (0:Int) (by kernel_rfl) i3 sk ?_
 rintro i H1 i5
 have h:=i4 i H1 i5
 refine T_su [(0,vs lB lN lC),(3,vi i)]<| T_sz<| ar 4<| T_ed 4 [] [(10,.bool (decide (i< (lN:Int))))] ?_
 by_cases c6:i< (lN:Int)
 ·rw[if_pos c6]at h
  refine aL 10 (zX c6)<| T_kt<| T_sz<| T_bz 1<| ar 6<| T_nd 2 [10] [(13,vs lB lN lC),(14,vi i)] ?_
  obtain⟨b,rfl,q8,h⟩:=h
  refine T_ix (some 15) 22 61 5 b lN lC .i64 i Tryz.underlying22 q8.1 q8.2 [(0,vs (some b) lN lC),(3,vi i),(15,vp (some (b.add (Int.toNat i*5))))]<| T_nd 1 [15] [(16,vp (some ((b.add (Int.toNat i*5)).add 3)))] ?_
  obtain⟨xB,xN,xC,q9,h⟩:=h
  refine T_l1 17 29 q9 [16]<| T_nd 3 [17] [(20,.bool (decide ((xN:Int)>200)))] ?_
  by_cases c10:(xN:Int)>200
  ·rw[if_pos c10]at h
   exact N_bd 20 (zX c10)<| T_ed 8 [20] [(28,.bool true)]<| T_tz 28<| ar 7<| T_nr 1 [2] [.bool true] hQ h
  rw[if_neg c10]at h
  refine N_bd 20 (zQ c10)<| T_nd 2 [] [(21,vs (some b) lN lC),(22,vi i)] ?_
  obtain⟨q12,h⟩:=h
  refine T_xd (some 23) 22 61 5 b lN lC .i64 i Tryz.underlying22 q12.1 q12.2 [21,22] [(23,vp (some (b.add (Int.toNat i*5))))]<| T_nd 1 [23] [(24,vp (some ((b.add (Int.toNat i*5)).add 4)))] ?_
  obtain⟨f,d,e,q13,h⟩:=h
  refine T_l1 25 59 q13 [24]<| T_ed 3 [20,25] [(28,.bool (decide ((d:Int)>200)))] ?_
  by_cases c14:(d:Int)>200
  ·rw[if_pos c14]at h
   exact aL 28 (zX c14)<| ar 7<| T_nr 1 [2] [.bool true] hQ h
  rw[if_neg c14]at h
  exact aM 28 (zQ c14)<| T_k<| aA<| aE<| T_rz 5<| T_ed 3 [3,28] [(3,vi (zY (i+1)))]<| bK ((zY (i+1)):Int) sk h
 rw[if_neg c6]at h
 exact aM 10 (zQ c6)<| zk 0<| aD<| aD<| aQ<| aE<| ar 8<| T_nr 1 [2] [.bool false] hQ h
end bS

/-! moraine/morainelaw14.AuditSame -/
namespace bI
def K0:=Func.code Tryz.f3
end bI
def bI.pt(aB:zW)(aN aC:Nat)(bB:zW)(bN bC:Nat)(H:zV)(R:zv):Prop:=
 bS.C aB aN aC H (λv H1=> ∃x:Bool,v=.bool x/\
 if x=true then(
 aY.C H1 (λo H2=> ∃g:Bool,o=.bool g/\
 R (.bool g) H2))
 else
 bS.C bB bN bC H1 (λk H3=> ∃b:Bool,k=.bool b/\
 if b=true then(
 aY.C H3 (λp H4=> ∃f:Bool,p=.bool f/\
 R (.bool f) H4))
 else
 fH.C aB aN aC bB bN bC H3 (λl H5=> ∃a:Bool,l=.bool a/\
 cF.C aB aN aC bB bN bC H5 (λm H6=> ∃d:Bool,m=.bool d/\
 if a=d then(
 fH.C aB aN aC aB aN aC H6 (λj H7=> ∃e:Bool,j=.bool e/\
 if e=true then(
 aY.C H7 (λn H8=> ∃i:Bool,n=.bool i/\
 R (.bool i) H8))
 else
 R (.bool false) H7))
 else
 R (.bool false) H6))))
namespace bI
set_option maxRecDepth 100000 in
theorem link{aB:zW}{aN aC:Nat}{bB:zW}{bN bC:Nat}{H:zV}{R:zv}(h:pt aB aN aC bB bN bC H R):C aB aN aC bB bN bC H R:=by
 refine T_en K0 27 Tryz.func3 ?_
 intro w0 Q hQ
 unfold pt at h
 refine T_su [(0,vs aB aN aC),(1,vs bB bN bC)]<| ar 0<| T_ed 1 [] []<| T_sz<| ar 1<| T_nd 1 [] [(5,vs aB aN aC)]<| T_c (some 6) h ?_;clear h
 rintro v H1 ⟨x,rfl,h⟩
 refine T_pd [5] [(6,.bool x)]<| T_nd 1 [6] [(7,.bool x)] ?_
 by_cases c1:x=true
 ·rw[if_pos c1]at h
  refine N_bd 7 c1<| T_ed 3 [7] [(10,.bool true)]<| T_tz 10<| ar 2<| T_nu [] ?_
  refine T_c (some 11) h ?_;clear h
  rintro o H2 ⟨g,rfl,h⟩
  refine⟨[(11,.bool g)],pk,?_⟩
  exact T_nr 1 [4] [.bool g] hQ h
 rw[if_neg c1]at h
 refine N_bd 7 (zZ c1)<| T_nd 1 [] [(8,vs bB bN bC)] ?_
 refine T_c (some 9) h ?_;clear h
 rintro k H3 ⟨b,rfl,h⟩
 refine T_pd [8] [(9,.bool b)]<| T_ed 1 [7,9] [(10,.bool b)] ?_
 by_cases c3:b=true
 ·rw[if_pos c3]at h
  refine aL 10 c3<| ar 2<| T_nu []<| T_c (some 11) h ?_;clear h
  rintro p H4 ⟨f,rfl,h⟩
  refine⟨[(11,.bool f)],pk,?_⟩
  exact T_nr 1 [4] [.bool f] hQ h
 rw[if_neg c3]at h
 refine aM 10 (zZ c3)<| T_kt<| ar 3<| T_nd 2 [10] [(12,vs aB aN aC),(13,vs bB bN bC)]<| T_c (some 14) h ?_;clear h
 rintro l H5 ⟨a,rfl,h⟩
 refine T_pd [12,13] [(14,.bool a)]<| T_nd 2 [1] [(15,vs aB aN aC),(16,vs bB bN bC)]<| T_c (some 17) h ?_;clear h
 rintro m H6 ⟨d,rfl,h⟩
 refine T_pd [15,16] [(17,.bool d)]<| T_nd 2 [14,17] [(19,.bool (a==d))] ?_
 by_cases c5:a=d
 ·rw[if_pos c5]at h
  refine N_bd 19 (zK c5)<| T_nd 2 [0] [(20,vs aB aN aC),(21,vs aB aN aC)] ?_
  refine T_c (some 22) h ?_;clear h
  rintro j H7 ⟨e,rfl,h⟩
  refine T_pd [20,21] [(22,.bool e)]<| T_n 2 [(24,.bool e)] ?_
  by_cases c7:e=true
  ·rw[if_pos c7]at h
   have b8:e=true:=c7
   refine dN [(24,.bool true)] (by rw[b8]) ?_
   clear b8
   refine T_c (some 25) h ?_;clear h
   rintro n H8 ⟨i,rfl,h⟩
   exact T_pd [] [(25,.bool i)]<| T_nr 2 [4] [.bool i] hQ h
  rw[if_neg c7]at h
  have b8:e=false:=zZ c7
  refine dN [(24,.bool false)] (by rw[b8]) ?_
  clear b8
  exact T_nr 3 [4] [.bool false] hQ h
 rw[if_neg c5]at h
 exact N_bd 19 (zJ c5)<| T_nr 8 [4] [.bool false] hQ h
end bI

/-! moraine/word.Tag -/
namespace bZ
def K0:=Func.code Tryz.f46
end bZ
def bZ.pt(wv:Int)(H:zV)(R:zv):Prop:=
 R (.int .i64 (zY (iand .u64 wv 7))) H
namespace bZ
theorem link{wv:Int}{H:zV}{R:zv}(h:pt wv H R):C wv H R:=by
 refine T_en K0 6 Tryz.func46 ?_
 intro w0 Q hQ
 unfold pt zY at h
 exact T_su [(0,vu wv)]<| ar 0<| T_ed 1 [] []<| ar 1<| T_nr 4 [2] [vi (zY (iand .u64 wv 7))] hQ h
end bZ

/-! moraine/word.Addr -/
namespace fN
def K0:=Func.code Tryz.f65
end fN
def fN.pt(wv:Int)(H:zV)(R:zv):Prop:=
 bZ.C wv H (λv H1=> ∃x:Int,v=.int .i64 x/\
 fW.C x H1 (λd H2=> ∃a:Bool,d=.bool a/\
 if a=true then(
 cJ.C wv H2 (λe H3=> ∃b:Bool,e=.bool b/\
 if b=true then(
 R (.tuple #[.int .i64 (zY (ishr .u64 wv 3)),.bool true]) H3)
 else
 R (.tuple #[.int .i64 0,.bool false]) H3))
 else
 R (.tuple #[.int .i64 0,.bool false]) H2))
namespace fN
theorem link{wv:Int}{H:zV}{R:zv}(h:pt wv H R):C wv H R:=by
 refine T_en K0 16 Tryz.func65 ?_
 intro w0 Q hQ
 unfold pt zY at h
 refine T_su [(0,vu wv)]<| ar 0<| T_ed 2 [] []<| T_sz<| ar 1<| T_nd 1 [] [(4,vu wv)]<| T_c (some 5) h ?_;clear h
 rintro v H1 ⟨x,rfl,h⟩
 refine T_pd [4] [(5,vi x)]<| T_c (some 6) h ?_;clear h
 rintro d H2 ⟨a,rfl,h⟩
 refine T_pd [5] [(6,.bool a)]<| T_nd 2 [6] [(8,.bool (!a))] ?_
 by_cases c1:a=true
 ·rw[if_pos c1]at h
  have b2:(!a)=false:=congrArg Bool.not (c1)
  have b22:a=true:=c1
  refine N_bd 8 (b:=(!a)) (v:=false) (by simp only[b2,b22,Bool.not_true,Bool.not_false]) ?_
  clear b2 b22
  refine T_nd 1 [] [(9,vu wv)]<| T_c (some 10) h ?_;clear h
  rintro e H3 ⟨b,rfl,h⟩
  refine T_pd [9] [(10,.bool b)]<| T_ed 2 [8,10] [(12,.bool (!b))] ?_
  by_cases c3:b=true
  ·rw[if_pos c3]at h
   exact aM 12 (congrArg Bool.not (c3))<| T_kt<| ar 3<| T_nr 5 [2,3] [vi (zY (ishr .u64 wv 3)),.bool true] hQ h
  rw[if_neg c3]at h
  exact aL 12 (congrArg Bool.not (zZ c3))<| ar 2<| T_nr 2 [2,3] [vi 0,.bool false] hQ h
 rw[if_neg c1]at h
 have b2:(!a)=true:=congrArg Bool.not (zZ c1)
 have b22:a=false:=zZ c1
 refine N_bd 8 (b:=(!a)) (v:=true) (by simp only[b2,b22,Bool.not_true,Bool.not_false]) ?_
 clear b2 b22
 exact T_ed 4 [8] [(12,.bool true)]<| T_tz 12<| ar 2<| T_nr 2 [2,3] [vi 0,.bool false] hQ h
end fN

/-! moraine/word.At -/
namespace iB
def K0:=Func.code Tryz.f83
end iB
def iB.pt(b a:Int)(H:zV)(R:zv):Prop:=
 fW.C b H (λv H1=> ∃x:Bool,v=.bool x/\
 if x=true then(
 if((decide (a<0)) || (decide (a>=65536)))=true then(
 R (.tuple #[.int .u64 0,.int .i64 18]) H1)
 else
 R (.tuple #[.int .u64 (ior .u64 (ishl .u64 (IntKind.wrap .u64 a) 3) (IntKind.wrap .u64 b)),.int .i64 0]) H1)
 else
 R (.tuple #[.int .u64 0,.int .i64 1]) H1)
namespace iB
theorem link{b a:Int}{H:zV}{R:zv}(h:pt b a H R):C b a H R:=by
 refine T_en K0 23 Tryz.func83 ?_
 intro w0 Q hQ
 unfold pt at h
 refine T_su [(0,vi b),(1,vi a)]<| ar 0<| T_ed 2 [] []<| T_sz<| T_bz 0<| ar 1<| T_nd 1 [] [(7,vi b)]<| T_c (some 8) h ?_;clear h
 rintro v H1 ⟨x,rfl,h⟩
 refine T_pd [7] [(8,.bool x)]<| T_ed 2 [8] [(6,.bool (!x))] ?_
 by_cases c1:x=true
 ·rw[if_pos c1]at h
  refine aM 6 (congrArg Bool.not (c1))<| ar 3 ?_
  refine iH [(0,vi b),(1,vi a),(10,.bool ((decide (a<0)) || (decide (a>=65536))))] ?_ ?_
  ·refine aE ?_
   by_cases c5:((decide (a<0)) || (decide (a>=65536)))=true
   ·rw[if_pos c5]at h
    exact aL 10 c5<| ar 4<| T_nr 2 [4,5] [vu 0,vi 18] hQ h
   rw[if_neg c5]at h
   exact aM 10 (zZ c5)<| T_k<| aA<| aE<| ar 5<| T_nr 8 [4,5] [vu (ior .u64 (ishl .u64 (IntKind.wrap .u64 a) 3) (IntKind.wrap .u64 b)),vi 0] hQ h
  intro hk
  refine T_n 3 [(0,vi b),(1,vi a),(13,.bool (decide (a<0)))] ?_
  by_cases c3:a<0
  ·have b4:(decide (a<0))=true:=zX c3
   refine dN [(0,vi b),(1,vi a),(13,.bool true)] (by rw[b4]) ?_
   refine T_nd 4 [13] [(10,.bool true)]<| zq<| S_bd 10 (b:=true) (v:=((decide (a<0)) || (decide (a>=65536)))) (by simp only[b4,BL]) ?_
   exact hk
  have b4:(decide (a<0))=false:=zQ c3
  refine dN [(0,vi b),(1,vi a),(13,.bool false)] (by rw[b4]) ?_
  refine T_nd 4 [13] [(10,.bool (decide (a>=65536)))]<| zq<| S_bd 10 (b:=(decide (a>=65536))) (v:=((decide (a<0)) || (decide (a>=65536)))) (by simp only[b4,BL]) ?_
  exact hk
 rw[if_neg c1]at h
 exact aL 6 (congrArg Bool.not (zZ c1))<| ar 2<| T_nr 2 [4,5] [vu 0,vi 1] hQ h
end iB

/-! moraine/word.May -/
namespace cJ
def K0:=Func.code Tryz.f103
end cJ
def cJ.pt(wv:Int)(H:zV)(R:zv):Prop:=
 fJ.C wv H (λv H1=> ∃ra rb rc:Int,v=.tuple #[.int .i64 ra,.int .i64 rb,.int .u64 rc]/\
 bZ.C wv H1 (λd H2=> ∃x:Int,d=.int .i64 x/\
 if x=0 then(
 R (.bool true) H2)
 else
 if x=1 then(
 R (.bool (decide ((ishr .u64 wv 3)<65536))) H2)
 else
 if x=2 then(
 R (.bool (decide ((ishr .u64 wv 3)<65536))) H2)
 else
 if x=3 then(
 R (.bool (decide ((ishr .u64 wv 3)<65536))) H2)
 else
 if x=6 then(
 R (.bool (decide ((ishr .u64 wv 3)<65536))) H2)
 else
 if x=4 then(
 if ra=7 then(
 fP.C (ishr .u64 wv 8) H2 (λb H3=> ∃a:Bool,b=.bool a/\
 R (.bool a) H3))
 else
 R (.bool (decide ((ishr .u64 wv 3)<=6))) H2)
 else
 if x=5 then(
 R (.bool (((decide (ra>=1)) && (decide (ra<=13))) && (decide (rb<=62)))) H2)
 else
 R (.bool false) H2))
namespace cJ
theorem link{wv:Int}{H:zV}{R:zv}(h:pt wv H R):C wv H R:=by
 refine T_en K0 49 Tryz.func103 ?_
 intro w0 Q hQ
 unfold pt at h
 refine T_su [(0,vu wv)]<| ar 0<| T_ed 1 [] []<| ar 1<| T_nd 1 [] [(7,vu wv)]<| T_c (some 8) h ?_;clear h
 rintro v H1 ⟨ra,rb,rc,rfl,h⟩
 refine T_pd [7] [(8,.tuple #[vi ra,vi rb,vu rc])]<| T_ed 7 [8] [(3,vi ra),(4,vi rb)]<| T_sz<| ar 2<| T_nd 1 [] [(12,vu wv)]<| T_c (some 13) h ?_;clear h
 rintro d H2 ⟨x,rfl,h⟩
 refine T_pd [12] [(13,vi x)]<| T_e<| T_bz 0<| T_sz<| T_bz 7<| T_sz<| T_bz 6<| T_sz<| T_bz 5<| T_bz 4<| T_bz 3<| T_bz 2<| T_sz<| T_bz 1<| T_sz<| T_sz<| ar 3<| T_ed 2 [] [(14,.bool (x==0))] ?_
 by_cases c1:x=0
 ·rw[if_pos c1]at h
  exact aL 14 (zK c1)<| zk 1<| aD<| aD<| aQ<| aE<| T_sz<| ar 10<| T_nr 1 [2] [.bool true] hQ h
 rw[if_neg c1]at h
 refine aM 14 (zJ c1)<| T_kt<| T_sz<| ar 4<| T_ed 2 [14] [(16,.bool (x==1))] ?_
 by_cases c3:x=1
 ·rw[if_pos c3]at h
  exact aL 16 (zK c3)<| zk 2<| aD<| aD<| zj<| aD<| aQ<| aA<| aA<| aA<| aE<| T_sz<| ar 11<| T_nr 4 [2] [.bool (decide ((ishr .u64 wv 3)<65536))] hQ h
 rw[if_neg c3]at h
 refine aM 16 (zJ c3)<| T_kt<| T_sz<| ar 5<| T_ed 2 [16] [(18,.bool (x==2))] ?_
 by_cases c5:x=2
 ·rw[if_pos c5]at h
  exact aL 18 (zK c5)<| zk 3<| aD<| aD<| zj<| aD<| zj<| aQ<| aA<| aA<| aE<| T_sz<| ar 11<| T_nr 4 [2] [.bool (decide ((ishr .u64 wv 3)<65536))] hQ h
 rw[if_neg c5]at h
 refine aM 18 (zJ c5)<| T_kt<| T_sz<| ar 6<| T_ed 2 [18] [(20,.bool (x==3))] ?_
 by_cases c7:x=3
 ·rw[if_pos c7]at h
  exact aL 20 (zK c7)<| zk 4<| aD<| aD<| zj<| aD<| zj<| zj<| aQ<| aA<| aE<| T_sz<| ar 11<| T_nr 4 [2] [.bool (decide ((ishr .u64 wv 3)<65536))] hQ h
 rw[if_neg c7]at h
 refine aM 20 (zJ c7)<| T_kt<| T_sz<| ar 7<| T_ed 2 [20] [(22,.bool (x==6))] ?_
 by_cases c9:x=6
 ·rw[if_pos c9]at h
  exact aL 22 (zK c9)<| zk 5<| aD<| aD<| zj<| aD<| zj<| zj<| zj<| aQ<| aE<| T_sz<| ar 11<| T_nr 4 [2] [.bool (decide ((ishr .u64 wv 3)<65536))] hQ h
 rw[if_neg c9]at h
 refine aM 22 (zJ c9)<| T_kt<| T_sz<| ar 8<| T_ed 2 [22] [(24,.bool (x==4))] ?_
 by_cases c11:x=4
 ·rw[if_pos c11]at h
  refine aL 24 (zK c11)<| zk 6<| aD<| aD<| zj<| aD<| zj<| zj<| zj<| zj<| aD<| aQ<| aE<| T_sz<| T_sz<| ar 12<| T_ne 2 [(0,vu wv),(32,.bool (ra==7))] ?_
  by_cases c13:ra=7
  ·rw[if_pos c13]at h
   refine aL 32 (zK c13)<| ar 13<| T_n 2 [(34,vu (ishr .u64 wv 8))]<| T_c (some 35) h ?_;clear h
   rintro b H3 ⟨a,rfl,h⟩
   refine⟨[(35,.bool a)],pk,?_⟩
   exact T_nr 1 [2] [.bool a] hQ h
  rw[if_neg c13]at h
  exact aM 32 (zJ c13)<| T_kt<| ar 14<| T_nr 4 [2] [.bool (decide ((ishr .u64 wv 3)<=6))] hQ h
 rw[if_neg c11]at h
 refine aM 24 (zJ c11)<| T_kt<| ar 9<| T_ed 2 [0,13,24] [(26,.bool (x==5))] ?_
 by_cases c15:x=5
 ·rw[if_pos c15]at h
  refine aL 26 (zK c15)<| zk 7<| aD<| zj<| aD<| zj<| zj<| zj<| zj<| aD<| zj<| aD<| aQ<| aE<| T_sz<| ar 15 ?_
  refine iH [(2,.bool (((decide (ra>=1)) && (decide (ra<=13))) && (decide (rb<=62))))] ?_ ?_
  ·exact aE<| gP [2] [.bool (((decide (ra>=1)) && (decide (ra<=13))) && (decide (rb<=62)))] hQ h
  intro hk
  refine T_n 3 [(3,vi ra),(4,vi rb),(41,.bool (decide (ra>=1)))] ?_
  by_cases c17:ra>=1
  ·have b18:(decide (ra>=1))=true:=zX c17
   refine dN [(3,vi ra),(4,vi rb),(41,.bool true)] (by rw[b18]) ?_
   refine T_nd 4 [3,41] [(45,.bool (decide (ra<=13)))] ?_
   by_cases c19:ra<=13
   ·have b20:(decide (ra<=13))=true:=zX c19
    refine N_bd 45 b20<| T_n 4 [(2,.bool (decide (rb<=62)))] ?_
    refine zq<| fX [(2,.bool (((decide (ra>=1)) && (decide (ra<=13))) && (decide (rb<=62))))] (by simp only[b18,b20,BL]) ?_
    exact hk
   have b20:(decide (ra<=13))=false:=zQ c19
   refine N_bd 45 b20<| T_n 4 [(2,.bool false)] ?_
   refine zq<| fX [(2,.bool (((decide (ra>=1)) && (decide (ra<=13))) && (decide (rb<=62))))] (by simp only[b18,b20,BL]) ?_
   exact hk
  have b18:(decide (ra>=1))=false:=zQ c17
  refine dN [(3,vi ra),(4,vi rb),(41,.bool false)] (by rw[b18]) ?_
  refine T_n 8 [(2,.bool false)]<| zq<| fX [(2,.bool (((decide (ra>=1)) && (decide (ra<=13))) && (decide (rb<=62))))] (by simp only[b18,BL]) ?_
  exact hk
 rw[if_neg c15]at h
 exact aM 26 (zJ c15)<| T_kt<| zk 0<| zj<| aD<| zj<| zj<| zj<| zj<| aD<| zj<| aD<| zj<| aD<| aQ<| aE<| ar 16<| T_nr 1 [2] [.bool false] hQ h
end cJ

/-! moraine/word.Header -/
namespace fW
def K0:=Func.code Tryz.f111
end fW
def fW.pt(a:Int)(H:zV)(R:zv):Prop:=
 R (.bool (((decide (a>=1)) && (decide (a<=3))) || (a==6))) H
namespace fW
theorem link{a:Int}{H:zV}{R:zv}(h:pt a H R):C a H R:=by
 refine T_en K0 13 Tryz.func111 ?_
 intro w0 Q hQ
 unfold pt at h
 refine T_su [(0,vi a)]<| ar 0<| T_ed 1 [] []<| ar 1 ?_
 refine iH [(2,.bool (((decide (a>=1)) && (decide (a<=3))) || (a==6)))] ?_ ?_
 ·exact aE<| gP [2] [.bool (((decide (a>=1)) && (decide (a<=3))) || (a==6))] hQ h
 intro hk
 refine T_n 3 [(0,vi a),(5,.bool (decide (a>=1)))] ?_
 by_cases c1:a>=1
 ·have b2:(decide (a>=1))=true:=zX c1
  refine dN [(0,vi a),(5,.bool true)] (by rw[b2]) ?_
  refine T_nd 4 [5] [(9,.bool (decide (a<=3)))] ?_
  by_cases c3:a<=3
  ·have b4:(decide (a<=3))=true:=zX c3
   refine N_bd 9 b4<| T_n 4 [(2,.bool true)] ?_
   refine zq<| fX [(2,.bool (((decide (a>=1)) && (decide (a<=3))) || (a==6)))] (by simp only[b2,b4,BL]) ?_
   exact hk
  have b4:(decide (a<=3))=false:=zQ c3
  refine N_bd 9 b4<| T_n 4 [(2,.bool (a==6))] ?_
  refine zq<| fX [(2,.bool (((decide (a>=1)) && (decide (a<=3))) || (a==6)))] (by simp only[b2,b4,BL]) ?_
  exact hk
 have b2:(decide (a>=1))=false:=zQ c1
 refine dN [(0,vi a),(5,.bool false)] (by rw[b2]) ?_
 refine T_n 8 [(2,.bool (a==6))]<| zq<| fX [(2,.bool (((decide (a>=1)) && (decide (a<=3))) || (a==6)))] (by simp only[b2,BL]) ?_
 exact hk
end fW

/-! moraine/word.Head -/
namespace gG
def K0:=Func.code Tryz.f130
end gG
def gG.pt(wv:Int)(H:zV)(R:zv):Prop:=
 bZ.C wv H (λv H1=> ∃x:Int,v=.int .i64 x/\
 if x=5 then(
 cJ.C wv H1 (λd H2=> ∃a:Bool,d=.bool a/\
 if a=true then(
 fJ.C wv H2 (λb H3=> ∃ra rb rc:Int,b=.tuple #[.int .i64 ra,.int .i64 rb,.int .u64 rc]/\
 R (.tuple #[.int .i64 ra,.int .i64 rb,.int .u64 rc,.bool true]) H3))
 else
 R (.tuple #[.int .i64 0,.int .i64 0,.int .u64 0,.bool false]) H2))
 else
 R (.tuple #[.int .i64 0,.int .i64 0,.int .u64 0,.bool false]) H1)
namespace gG
theorem link{wv:Int}{H:zV}{R:zv}(h:pt wv H R):C wv H R:=by
 refine T_en K0 23 Tryz.func130 ?_
 intro w0 Q hQ
 unfold pt at h
 refine T_su [(0,vu wv)]<| ar 0<| T_ed 4 [] []<| T_sz<| ar 1<| T_nd 1 [] [(6,vu wv)]<| T_c (some 7) h ?_;clear h
 rintro v H1 ⟨x,rfl,h⟩
 refine T_pd [6] [(7,vi x)]<| T_nd 2 [7] [(9,.bool (x !=5))] ?_
 by_cases c1:x=5
 ·rw[if_pos c1]at h
  refine N_bd 9 (bne_eq_false_iff_eq.mpr c1)<| T_nd 1 [] [(10,vu wv)] ?_
  refine T_c (some 11) h ?_;clear h
  rintro d H2 ⟨a,rfl,h⟩
  refine T_pd [10] [(11,.bool a)]<| T_ed 2 [9,11] [(13,.bool (!a))] ?_
  by_cases c3:a=true
  ·rw[if_pos c3]at h
   refine aM 13 (congrArg Bool.not (c3))<| T_kt<| ar 3<| T_n 1 [(15,vu wv)]<| T_c (some 16) h ?_;clear h
   rintro b H3 ⟨ra,rb,rc,rfl,h⟩
   refine⟨[(16,.tuple #[vi ra,vi rb,vu rc])],pk,?_⟩
   exact T_ne 7 [(2,vi ra),(3,vi rb),(4,vu rc)]<| ar 4<| T_nr 7 [2,3,4,5] [vi ra,vi rb,vu rc,.bool true] hQ h
  rw[if_neg c3]at h
  exact aL 13 (congrArg Bool.not (zZ c3))<| ar 2<| T_nr 4 [2,3,4,5] [vi 0,vi 0,vu 0,.bool false] hQ h
 rw[if_neg c1]at h
 exact N_bd 9 (bne_iff_ne.mpr c1)<| T_ed 4 [9] [(13,.bool true)]<| T_tz 13<| ar 2<| T_nr 4 [2,3,4,5] [vi 0,vi 0,vu 0,.bool false] hQ h
end gG

/-! moraine/word.parts -/
namespace fJ
def K0:=Func.code Tryz.f132
end fJ
def fJ.pt(wv:Int)(H:zV)(R:zv):Prop:=
 ∀(b:Nat) (H1:zV),b=H.size->H1=H.push (.cells #[.int .u64 wv] 40)->
 dK.C 3 5 (some (ad b)) H1 (λv H2=> ∃x:Int,v=.int .u64 x/\
 dK.C 8 8 (some (ad b)) H2 (λe H3=> ∃a:Int,e=.int .u64 a/\
 dK.C 16 48 (some (ad b)) H3 (λf H4=> ∃d:Int,f=.int .u64 d/\
 R (.tuple #[.int .i64 (zY x),.int .i64 (zY a),.int .u64 d]) H4)))
namespace fJ
theorem link{wv:Int}{H:zV}{R:zv}(h:pt wv H R):C wv H R:=by
 refine T_en K0 15 Tryz.func132 ?_
 intro w0 Q hQ
 unfold pt zY at h
 refine T_su [(0,vu wv)]<| ar 0<| T_nw (some 1) (λb=>vp (pa b)) (.cells #[vu wv] 40) ?_
 intro b H1 e1 e2
 replace h:=h b H1 e1 e2
 refine⟨[(1,vp (pa b))],pk,?_⟩
 refine T_ed 3 [] []<| ar 1<| T_ne 2 [(5,.func (.func 148) #[] #[vp (pa b)])]<| ar 2<| T_nd 1 [] [(7,.func (.func 148) #[] #[vp (pa b)])]<| T_c (some 8) h ?_;clear h
 rintro v H2 ⟨x,rfl,h⟩
 refine T_pd [7] [(8,vu x)]<| T_nd 2 [8] [(9,vi (zY x)),(10,.func (.func 148) #[] #[vp (pa b)])]<| T_c (some 11) h ?_;clear h
 rintro e H3 ⟨a,rfl,h⟩
 refine T_pd [10] [(11,vu a)]<| T_nd 2 [5,11] [(12,vi (zY a)),(13,.func (.func 148) #[] #[vp (pa b)])]<| T_c (some 14) h ?_;clear h
 rintro f H4 ⟨d,rfl,h⟩
 exact T_pd [13] [(14,vu d)]<| T_nr 3 [2,3,4] [vi (zY x),vi (zY a),vu d] hQ h
end fJ

/-! moraine/word.letter -/
namespace fP
def K0:=Func.code Tryz.f133
end fP
def fP.pt(c:Int)(H:zV)(R:zv):Prop:=
 R (.bool ((decide (c<=1114111)) && ((decide (c<55296)) || (decide (c>57343))))) H
namespace fP
theorem link{c:Int}{H:zV}{R:zv}(h:pt c H R):C c H R:=by
 refine T_en K0 13 Tryz.func133 ?_
 intro w0 Q hQ
 unfold pt at h
 refine T_su [(0,vu c)]<| ar 0<| T_ed 1 [] []<| ar 1 ?_
 refine iH [(2,.bool ((decide (c<=1114111)) && ((decide (c<55296)) || (decide (c>57343)))))] ?_ ?_
 ·exact aE<| gP [2] [.bool ((decide (c<=1114111)) && ((decide (c<55296)) || (decide (c>57343))))] hQ h
 intro hk
 refine T_n 3 [(0,vu c),(5,.bool (decide (c<=1114111)))] ?_
 by_cases c1:c<=1114111
 ·have b2:(decide (c<=1114111))=true:=zX c1
  refine dN [(0,vu c),(5,.bool true)] (by rw[b2]) ?_
  refine T_nd 3 [] [(8,.bool (decide (c<55296)))] ?_
  by_cases c3:c<55296
  ·have b4:(decide (c<55296))=true:=zX c3
   refine N_bd 8 b4<| T_n 5 [(2,.bool true)] ?_
   refine zq<| fX [(2,.bool ((decide (c<=1114111)) && ((decide (c<55296)) || (decide (c>57343)))))] (by simp only[b2,b4,BL]) ?_
   exact hk
  have b4:(decide (c<55296))=false:=zQ c3
  refine N_bd 8 b4<| T_n 5 [(2,.bool (decide (c>57343)))] ?_
  refine zq<| fX [(2,.bool ((decide (c<=1114111)) && ((decide (c<55296)) || (decide (c>57343)))))] (by simp only[b2,b4,BL]) ?_
  exact hk
 have b2:(decide (c<=1114111))=false:=zQ c1
 refine dN [(0,vu c),(5,.bool false)] (by rw[b2]) ?_
 refine T_n 8 [(2,.bool false)]<| zq<| fX [(2,.bool ((decide (c<=1114111)) && ((decide (c<55296)) || (decide (c>57343)))))] (by simp only[b2,BL]) ?_
 exact hk
end fP

/-! moraine/word.parts.1 -/
namespace dK
def K0:=Func.code Tryz.f148
end dK
def dK.pt(a b:Int)(d:zW)(H:zV)(R:zv):Prop:=
 ∃e:Addr,d=some e/\
 ∃x:Int,hat H e=some (.int .u64 x)/\
 (0<=a)/\
 (0<=b)/\
 R (.int .u64 (iand .u64 (ishr .u64 x a) (IntKind.wrap .u64 ((ishl .u64 1 b)-1)))) H
namespace dK
theorem link{a b:Int}{d:zW}{H:zV}{R:zv}(h:pt a b d H R):C a b d H R:=by
 refine T_en K0 13 Tryz.func148 ?_
 intro w0 Q hQ
 unfold pt at h
 refine T_su [(0,vi a),(1,vi b),(2,vp d)]<| ar 0<| T_ed 1 [] []<| T_sz<| ky 1 ?_
 obtain⟨e,rfl,x,q1,h⟩:=h
 refine jO (some 6) 40 q1 [2] [(6,vu x)]<| T_q1 7 (vi a) [0] ?_
 obtain⟨q2,h⟩:=h
 refine Q_op (some 8) (binN .shr 35 (vu x) (vi a)) (vu (ishr .u64 x a)) (λ_=>by kernel_rfl) (λw _=>pW (P:=Tryz.prog) (t:=35) (k:=.u64) (k':=.i64) (x:=x) (y:=a) q2 w) [(1,vi b),(8,vu (ishr .u64 x a))] pk ?_
 refine T_q (some 9) (vi b) [(8,vu (ishr .u64 x a)),(9,vi b)] ?_
 obtain⟨q3,h⟩:=h
 refine Q_op (some 10) (binN .shl 35 (vu 1) (vi b)) (vu (ishl .u64 1 b)) (λ_=>by kernel_rfl) (λw _=>pV (P:=Tryz.prog) (t:=35) (k:=.u64) (k':=.i64) (x:=1) (y:=b) q3 w) [(8,vu (ishr .u64 x a)),(10,vu (ishl .u64 1 b))] pk ?_
 exact T_q (some 11) (vu (IntKind.wrap .u64 ((ishl .u64 1 b)-1))) [(8,vu (ishr .u64 x a)),(11,vu (IntKind.wrap .u64 ((ishl .u64 1 b)-1)))]<| T_q1 12 (vu (iand .u64 (ishr .u64 x a) (IntKind.wrap .u64 ((ishl .u64 1 b)-1)))) [8,11]<| T_q1 5 (vu (iand .u64 (ishr .u64 x a) (IntKind.wrap .u64 ((ishl .u64 1 b)-1)))) [12]<| jN [(5,vu (iand .u64 (ishr .u64 x a) (IntKind.wrap .u64 ((ishl .u64 1 b)-1))))] sk<| T_qe<| gP [5] [vu (iand .u64 (ishr .u64 x a) (IntKind.wrap .u64 ((ishl .u64 1 b)-1)))] hQ h
end dK

/-! (*moraine/space.Space).none -/
namespace cQ
def K0:=Func.code Tryz.f31
end cQ
def cQ.pt(s:zW)(H:zV)(R:zv):Prop:=
 eY s (
 R (.bool true) H) (λsA=>
 ∃x:zW,hat H sA=some (.pointer x)/\
 eY x (
 R (.bool true) H) (λxA=>
 R (.bool false) H))
namespace cQ
theorem link{s:zW}{H:zV}{R:zv}(h:pt s H R):C s H R:=by
 refine T_en K0 12 Tryz.func31 ?_
 intro w0 Q hQ
 unfold pt at h
 refine T_su [(0,vp s)]<| ar 0<| T_ed 1 [] []<| ar 1<| T_nd 1 [] [(3,vp s)] ?_
 rcases s with _ | sA
 ·rw[onPtr_none]at h
  exact T_nr 9 [2] [.bool true] hQ h
 rw[onPtr_some]at h
 refine T_n 5 [(5,.bool false),(8,vp (some sA))] ?_
 obtain⟨x,q1,h⟩:=h
 refine T_l1 9 70 q1 [8] ?_
 rcases x with _ | xA
 ·rw[onPtr_none]at h
  exact T_nr 3 [2] [.bool true] hQ h
 rw[onPtr_some]at h
 exact T_nr 3 [2] [.bool false] hQ h
end cQ

/-! (*moraine/space.Space).Alloc -/
namespace cI
def K0:=Func.code Tryz.f81
end cI
def cI.pt(s:zW)(d b nv:Int)(H:zV)(R:zv):Prop:=
 cQ.C s H (λv H1=> ∃x:Bool,v=.bool x/\
 if x=true then(
 R (.tuple #[.int .i64 0,.int .i64 1]) H1)
 else
 gF.C d b nv H1 (λac H2=> ∃m:Bool,ac=.bool m/\
 if m=true then(
 bR.C s d b H2 (λy H3=> ∃(ra:Int) (rb:Bool),y=.tuple #[.int .i64 ra,.bool rb]/\
 ∃J:zV->Prop,(
 if rb=true then(
 ∃g:Addr,s=some g/\
 ∃u:zW,hat H3 g=some (.pointer u)/\
 eD.C u ra nv H3 (λz H8=> ∃j l:Int,z=.tuple #[.int .i64 j,.int .i64 l]/\
 if l=0 then(
 R (.tuple #[.int .i64 j,.int .i64 0]) H8)
 else
 J H8))
 else
 J H3)/\ ∀(H4:zV),J H4->
 ∃sA:Addr,s=some sA/\
 ∃r:zW,hat H4 sA=some (.pointer r)/\
 eR.C r d b H4 (λab H5=> ∃e f:Int,ab=.tuple #[.int .i64 e,.int .i64 f]/\
 if f=0 then(
 yZ d 5/\
 yZ b 4/\
 (aK H5 (((sA.add 1).add (Int.toNat d*4)).add (Int.toNat b*1)) 0 1)/\ ∀H6,H6=aU H5 (((sA.add 1).add (Int.toNat d*4)).add (Int.toNat b*1)) [.int .i64 (zY (e+1))] 0->
 ∃q:zW,hat H6 sA=some (.pointer q)/\
 eD.C q e nv H6 (λaa H7=> ∃o p:Int,aa=.tuple #[.int .i64 o,.int .i64 p]/\
 R (.tuple #[.int .i64 o,.int .i64 p]) H7))
 else
 R (.tuple #[.int .i64 0,.int .i64 f]) H5)))
 else
 R (.tuple #[.int .i64 0,.int .i64 1]) H2))
namespace cI
theorem link{s:zW}{d b nv:Int}{H:zV}{R:zv}(h:pt s d b nv H R):C s d b nv H R:=by
 refine T_en K0 77 Tryz.func81 ?_
 intro w0 Q hQ
 unfold pt zY at h
 refine T_su [(0,vp s),(1,vi d),(2,vi b),(3,vi nv)]<| ar 0<| T_ed 2 [] []<| T_sz<| ar 1<| T_nd 1 [] [(16,vp s)]<| T_c (some 17) h ?_;clear h
 rintro v H1 ⟨x,rfl,h⟩
 refine T_pd [16] [(17,.bool x)]<| T_nd 1 [17] [(18,.bool x)] ?_
 by_cases c1:x=true
 ·rw[if_pos c1]at h
  exact N_bd 18 c1<| T_ed 6 [18] [(24,.bool true)]<| T_tz 24<| ar 2<| T_nr 2 [8,9] [vi 0,vi 1] hQ h
 rw[if_neg c1]at h
 refine N_bd 18 (zZ c1)<| T_nd 3 [] [(19,vi d),(20,vi b),(21,vi nv)] ?_
 refine T_c (some 22) h ?_;clear h
 rintro ac H2 ⟨m,rfl,h⟩
 refine T_pd [19,20,21] [(22,.bool m)]<| T_ed 2 [18,22] [(24,.bool (!m))] ?_
 by_cases c3:m=true
 ·rw[if_pos c3]at h
  refine aM 24 (congrArg Bool.not (c3))<| T_kt<| T_sz<| ar 3<| T_nd 3 [24] [(26,vp s),(27,vi d),(28,vi b)]<| T_c (some 29) h ?_;clear h
  rintro y H3 ⟨ra,rb,rfl,h⟩
  refine T_pd [26,27,28] [(29,.tuple #[vi ra,.bool rb])]<| T_ed 5 [29] [(10,vi ra),(11,.bool rb)]<| ar 4<| T_ne 1 [(0,vp s),(1,vi d),(2,vi b),(3,vi nv),(10,vi ra),(32,.bool rb)] ?_
  obtain⟨J,h,j6⟩:=h
  refine pl (σ:=Unit) (λs_=> [(0,vp s),(1,vi d),(2,vi b),(3,vi nv)]) (λs_ H=>J H) ?_ ?_
  ·rintro _ H4 j7
   replace h:=j6 H4 j7
   refine T_su [(0,vp s),(1,vi d),(2,vi b),(3,vi nv)]<| aE<| ar 8<| T_nd 1 [] [(47,vp s)] ?_
   obtain⟨sA,rfl,h⟩:=h
   refine T_nd 2 [0,47] [(0,vp (some sA)),(49,vp (some sA))] ?_
   obtain⟨r,q8,h⟩:=h
   refine T_l1 50 70 q8 [49]<| T_nd 2 [] [(51,vi d),(52,vi b)]<| T_c (some 53) h ?_;clear h
   rintro ab H5 ⟨e,f,rfl,h⟩
   refine T_pd [50,51,52] [(53,.tuple #[vi e,vi f])]<| T_ed 5 [53] [(14,vi e),(15,vi f)]<| T_sz<| ar 9<| T_ed 2 [] [(57,.bool (f !=0))] ?_
   by_cases c9:f=0
   ·rw[if_pos c9]at h
    refine aM 57 (bne_eq_false_iff_eq.mpr c9)<| T_kt<| ar 11<| T_nd 7 [1,2,15,57] [(60,vi d),(61,vi b),(63,vi (zY (e+1))),(65,vp (some (sA.add 1)))] ?_
    obtain⟨q11,h⟩:=h
    refine T_v1 66 (aZ 72 (vp (some (sA.add 1))) (vi d)) (vp (some ((sA.add 1).add (Int.toNat d*4)))) (λw _=>eO (P:=Tryz.prog) (t:=72) (elem:=71) (sz:=4) (n:=5) (a:=(sA.add 1)) (k:=.i64) (i:=d) Tryz.underlying72 (λ_=>by kernel_rfl) q11.1 q11.2 w) [60,65] ?_
    obtain⟨q12,h⟩:=h
    refine T_v1 67 (aZ 71 (vp (some ((sA.add 1).add (Int.toNat d*4)))) (vi b)) (vp (some (((sA.add 1).add (Int.toNat d*4)).add (Int.toNat b*1)))) (λw _=>eO (P:=Tryz.prog) (t:=71) (elem:=3) (sz:=1) (n:=4) (a:=((sA.add 1).add (Int.toNat d*4))) (k:=.i64) (i:=b) Tryz.underlying71 (λ_=>by kernel_rfl) q12.1 q12.2 w) [61,66] ?_
    obtain⟨q14,h⟩:=h
    refine fB 3 (vi (zY (e+1))) q14 ?_
    intro H6 e13
    replace h:=h H6 e13
    refine T_pd [63,67] []<| T_e<| ar 12<| T_nd 3 [0] [(70,vp (some sA))] ?_
    obtain⟨q,q15,h⟩:=h
    refine T_l1 71 70 q15 [70]<| T_nd 2 [3,14] [(72,vi e),(73,vi nv)]<| T_c (some 74) h ?_;clear h
    rintro aa H7 ⟨o,p,rfl,h⟩
    refine⟨[(74,.tuple #[vi o,vi p])],pk,?_⟩
    exact T_nr 4 [8,9] [vi o,vi p] hQ h
   rw[if_neg c9]at h
   exact aL 57 (bne_iff_ne.mpr c9)<| ar 10<| T_nr 3 [8,9] [vi 0,vi f] hQ h
  by_cases c16:rb=true
  ·rw[if_pos c16]at h
   have b17:rb=true:=c16
   refine fX [(0,vp s),(1,vi d),(2,vi b),(3,vi nv),(10,vi ra),(32,.bool true)] (by simp only[b17,Bool.not_true,Bool.not_false]) ?_
   clear b17
   refine T_tz 32<| ar 5<| T_nd 1 [32] [(34,vp s)] ?_
   obtain⟨g,rfl,h⟩:=h
   refine T_nd 2 [0,34] [(0,vp (some g)),(36,vp (some g))] ?_
   obtain⟨u,q18,h⟩:=h
   refine T_l1 37 70 q18 [36]<| T_nd 2 [10] [(38,vi ra),(39,vi nv)]<| T_c (some 40) h ?_;clear h
   rintro z H8 ⟨j,l,rfl,h⟩
   refine T_pd [37,38,39] [(40,.tuple #[vi j,vi l])]<| T_ed 5 [40] [(12,vi j),(13,vi l)]<| ar 6<| T_ed 2 [13] [(44,.bool (l==0))] ?_
   by_cases c19:l=0
   ·rw[if_pos c19]at h
    exact aL 44 (zK c19)<| ar 7<| T_nr 3 [8,9] [vi j,vi 0] hQ h
   rw[if_neg c19]at h
   exact aM 44 (zJ c19)<| T_kt<| mv (():Unit) sk h
  rw[if_neg c16]at h
  have b17:rb=false:=zZ c16
  refine fX [(0,vp s),(1,vi d),(2,vi b),(3,vi nv),(10,vi ra),(32,.bool false)] (by simp only[b17,Bool.not_true,Bool.not_false]) ?_
  clear b17
  exact T_fz 32<| T_kt<| mv (():Unit) sk h
 rw[if_neg c3]at h
 exact aL 24 (congrArg Bool.not (zZ c3))<| ar 2<| T_nr 2 [8,9] [vi 0,vi 1] hQ h
end cI

/-! moraine/space.New -/
namespace gE
def K0:=Func.code Tryz.f99
end gE
def gE.pt(a:Int)(H:zV)(R:zv):Prop:=
 iR.C a H (λv H1=> ∃(ra:zW) (rb:Int),v=.tuple #[.pointer ra,.int .i64 rb]/\
 if rb=0 then(
 ∀(b:Nat) (H2:zV),b=H1.size->H2=H1.push (.cells #[.pointer ra,.int .i64 0,.int .i64 0,.int .i64 0,.int .i64 0,.int .i64 0,.int .i64 0,.int .i64 0,.int .i64 0,.int .i64 0,.int .i64 0,.int .i64 0,.int .i64 0,.int .i64 0,.int .i64 0,.int .i64 0,.int .i64 0,.int .i64 0,.int .i64 0,.int .i64 0,.int .i64 0] 74)->
 R (.tuple #[.pointer (some (ad b)),.int .i64 0]) H2)
 else
 R (.tuple #[.pointer none,.int .i64 rb]) H1)
namespace gE
theorem link{a:Int}{H:zV}{R:zv}(h:pt a H R):C a H R:=by
 refine T_en K0 17 Tryz.func99 ?_
 intro w0 Q hQ
 unfold pt at h
 refine T_su [(0,vi a)]<| ar 0<| T_ed 2 [] []<| ar 1<| T_n 1 [(7,vi a)]<| T_c (some 8) h ?_;clear h
 rintro v H1 ⟨ra,rb,rfl,h⟩
 refine⟨[(8,.tuple #[vp ra,vi rb])],pk,?_⟩
 refine T_ne 5 [(4,vp ra),(5,vi rb)]<| T_sz<| ar 2<| T_ed 2 [] [(12,.bool (rb !=0))] ?_
 by_cases c1:rb=0
 ·rw[if_pos c1]at h
  refine aM 12 (bne_eq_false_iff_eq.mpr c1)<| T_kt<| ar 4<| T_n 2 [(15,.agg #[vp ra,vi 0,vi 0,vi 0,vi 0,vi 0,vi 0,vi 0,vi 0,vi 0,vi 0,vi 0,vi 0,vi 0,vi 0,vi 0,vi 0,vi 0,vi 0,vi 0,vi 0])]<| T_nw (some 16) (λb=>vp (pa b)) (.cells #[vp ra,vi 0,vi 0,vi 0,vi 0,vi 0,vi 0,vi 0,vi 0,vi 0,vi 0,vi 0,vi 0,vi 0,vi 0,vi 0,vi 0,vi 0,vi 0,vi 0,vi 0] 74) ?_
  intro b H2 e3 e4
  replace h:=h b H2 e3 e4
  refine⟨[(16,vp (pa b))],pk,?_⟩
  exact T_nr 2 [2,3] [vp (pa b),vi 0] hQ h
 rw[if_neg c1]at h
 exact aL 12 (bne_iff_ne.mpr c1)<| ar 3<| T_nr 3 [2,3] [vp none,vi rb] hQ h
end gE

/-! moraine/space.may -/
namespace gF
def K0:=Func.code Tryz.f120
end gF
def gF.pt(b a nv:Int)(H:zV)(R:zv):Prop:=
 if((decide (b<0)) || (decide (b>4)))=true then(
 R (.bool false) H)
 else
 if((a==0) || (a==1))=true then(
 R (.bool (nv==2)) H)
 else
 R (.bool ((((a==2) || (a==3)) && (decide (nv>=1))) && (decide (nv<=63)))) H
namespace gF
theorem link{b a nv:Int}{H:zV}{R:zv}(h:pt b a nv H R):C b a nv H R:=by
 refine T_en K0 37 Tryz.func120 ?_
 intro w0 Q hQ
 unfold pt at h
 refine T_su [(0,vi b),(1,vi a),(2,vi nv)]<| ar 0<| T_ed 1 [] []<| T_sz<| T_bz 0<| ar 1 ?_
 refine iH [(1,vi a),(2,vi nv),(7,.bool ((decide (b<0)) || (decide (b>4))))] ?_ ?_
 ·refine aE ?_
  by_cases c3:((decide (b<0)) || (decide (b>4)))=true
  ·rw[if_pos c3]at h
   exact aL 7 c3<| ar 2<| T_nr 1 [6] [.bool false] hQ h
  rw[if_neg c3]at h
  refine aM 7 (zZ c3)<| ar 3 ?_
  refine iH [(1,vi a),(2,vi nv),(14,.bool ((a==0) || (a==1)))] ?_ ?_
  ·refine aE ?_
   by_cases c7:((a==0) || (a==1))=true
   ·rw[if_pos c7]at h
    exact aL 14 c7<| ar 4<| T_nr 3 [6] [.bool (nv==2)] hQ h
   rw[if_neg c7]at h
   refine aM 14 (zZ c7)<| T_k<| aA<| aE<| ar 5 ?_
   refine iH [(6,.bool ((((a==2) || (a==3)) && (decide (nv>=1))) && (decide (nv<=63))))] ?_ ?_
   ·exact aE<| gP [6] [.bool ((((a==2) || (a==3)) && (decide (nv>=1))) && (decide (nv<=63)))] hQ h
   intro hk
   refine T_n 3 [(1,vi a),(2,vi nv),(25,.bool (a==2))] ?_
   by_cases c9:a=2
   ·have b10:(a==2)=true:=zK c9
    refine dN [(1,vi a),(2,vi nv),(25,.bool true)] (by rw[b10]) ?_
    refine T_nd 8 [1,25] [(33,.bool (decide (nv>=1)))] ?_
    by_cases c11:nv>=1
    ·have b12:(decide (nv>=1))=true:=zX c11
     refine N_bd 33 b12<| T_n 4 [(6,.bool (decide (nv<=63)))] ?_
     refine zq<| fX [(6,.bool ((((a==2) || (a==3)) && (decide (nv>=1))) && (decide (nv<=63))))] (by simp only[b10,b12,BL]) ?_
     exact hk
    have b12:(decide (nv>=1))=false:=zQ c11
    refine N_bd 33 b12<| T_n 4 [(6,.bool false)] ?_
    refine zq<| fX [(6,.bool ((((a==2) || (a==3)) && (decide (nv>=1))) && (decide (nv<=63))))] (by simp only[b10,b12,BL]) ?_
    exact hk
   have b10:(a==2)=false:=zJ c9
   refine dN [(1,vi a),(2,vi nv),(25,.bool false)] (by rw[b10]) ?_
   refine T_nd 4 [1,25] [(29,.bool (a==3))] ?_
   by_cases c13:a=3
   ·have b14:(a==3)=true:=zK c13
    refine N_bd 29 b14<| T_nd 4 [29] [(33,.bool (decide (nv>=1)))] ?_
    by_cases c15:nv>=1
    ·have b16:(decide (nv>=1))=true:=zX c15
     refine N_bd 33 b16<| T_n 4 [(6,.bool (decide (nv<=63)))] ?_
     refine zq<| fX [(6,.bool ((((a==2) || (a==3)) && (decide (nv>=1))) && (decide (nv<=63))))] (by simp only[b10,b14,b16,BL]) ?_
     exact hk
    have b16:(decide (nv>=1))=false:=zQ c15
    refine N_bd 33 b16<| T_n 4 [(6,.bool false)] ?_
    refine zq<| fX [(6,.bool ((((a==2) || (a==3)) && (decide (nv>=1))) && (decide (nv<=63))))] (by simp only[b10,b14,b16,BL]) ?_
    exact hk
   have b14:(a==3)=false:=zJ c13
   refine N_bd 29 b14<| T_n 8 [(6,.bool false)] ?_
   refine zq<| fX [(6,.bool ((((a==2) || (a==3)) && (decide (nv>=1))) && (decide (nv<=63))))] (by simp only[b10,b14,BL]) ?_
   exact hk
  intro hk
  refine T_n 3 [(1,vi a),(2,vi nv),(17,.bool (a==0))] ?_
  by_cases c5:a=0
  ·have b6:(a==0)=true:=zK c5
   refine dN [(1,vi a),(2,vi nv),(17,.bool true)] (by rw[b6]) ?_
   refine T_nd 4 [17] [(14,.bool true)]<| zq<| S_bd 14 (b:=true) (v:=((a==0) || (a==1))) (by simp only[b6,BL]) ?_
   exact hk
  have b6:(a==0)=false:=zJ c5
  refine dN [(1,vi a),(2,vi nv),(17,.bool false)] (by rw[b6]) ?_
  refine T_nd 4 [17] [(14,.bool (a==1))]<| zq<| S_bd 14 (b:=(a==1)) (v:=((a==0) || (a==1))) (by simp only[b6,BL]) ?_
  exact hk
 intro hk
 refine T_n 3 [(0,vi b),(1,vi a),(2,vi nv),(10,.bool (decide (b<0)))] ?_
 by_cases c1:b<0
 ·have b2:(decide (b<0))=true:=zX c1
  refine dN [(0,vi b),(1,vi a),(2,vi nv),(10,.bool true)] (by rw[b2]) ?_
  refine T_nd 4 [0,10] [(7,.bool true)]<| zq<| S_bd 7 (b:=true) (v:=((decide (b<0)) || (decide (b>4)))) (by simp only[b2,BL]) ?_
  exact hk
 have b2:(decide (b<0))=false:=zQ c1
 refine dN [(0,vi b),(1,vi a),(2,vi nv),(10,.bool false)] (by rw[b2]) ?_
 refine T_nd 4 [0,10] [(7,.bool (decide (b>4)))]<| zq<| S_bd 7 (b:=(decide (b>4))) (v:=((decide (b<0)) || (decide (b>4)))) (by simp only[b2,BL]) ?_
 exact hk
end gF

/-! (*moraine/space.Space).Current -/
namespace bR
def K0:=Func.code Tryz.f121
end bR
def bR.pt(s:zW)(d b:Int)(H:zV)(R:zv):Prop:=
 eY s (
 R (.tuple #[.int .i64 0,.bool false]) H) (λsA=>
 if d<0 then(
 R (.tuple #[.int .i64 0,.bool false]) H)
 else
 if d>4 then(
 R (.tuple #[.int .i64 0,.bool false]) H)
 else
 if b<0 then(
 R (.tuple #[.int .i64 0,.bool false]) H)
 else
 if b>3 then(
 R (.tuple #[.int .i64 0,.bool false]) H)
 else
 yZ d 5/\
 yZ b 4/\
 ∃x:Int,hat H (((sA.add 1).add (Int.toNat d*4)).add (Int.toNat b*1))=some (.int .i64 x)/\
 if x=0 then(
 R (.tuple #[.int .i64 0,.bool false]) H)
 else
 yZ d 5/\
 yZ b 4/\
 ∃e:Int,hat H (((sA.add 1).add (Int.toNat d*4)).add (Int.toNat b*1))=some (.int .i64 e)/\
 R (.tuple #[.int .i64 (zY (e-1)),.bool true]) H)
namespace bR
theorem link{s:zW}{d b:Int}{H:zV}{R:zv}(h:pt s d b H R):C s d b H R:=by
 refine T_en K0 46 Tryz.func121 ?_
 intro w0 Q hQ
 unfold pt zY at h
 refine T_su [(0,vp s),(1,vi d),(2,vi b)]<| ar 0<| T_ed 2 [] []<| T_sz<| ar 1<| T_nd 1 [] [(8,vp s)] ?_
 rcases s with _ | sA
 ·rw[onPtr_none]at h
  exact T_ed 28 [0,8] [(0,vp none),(36,.bool true)]<| T_tz 36<| ar 2<| T_nr 2 [6,7] [vi 0,.bool false] hQ h
 rw[onPtr_some]at h
 refine T_nd 6 [0,8] [(0,vp (some sA)),(14,.bool (decide (d<0)))] ?_
 by_cases c1:d<0
 ·rw[if_pos c1]at h
  exact N_bd 14 (zX c1)<| T_ed 22 [14] [(36,.bool true)]<| T_tz 36<| ar 2<| T_nr 2 [6,7] [vi 0,.bool false] hQ h
 rw[if_neg c1]at h
 refine N_bd 14 (zQ c1)<| T_nd 4 [14] [(18,.bool (decide (d>4)))] ?_
 by_cases c3:d>4
 ·rw[if_pos c3]at h
  exact N_bd 18 (zX c3)<| T_ed 18 [18] [(36,.bool true)]<| T_tz 36<| ar 2<| T_nr 2 [6,7] [vi 0,.bool false] hQ h
 rw[if_neg c3]at h
 refine N_bd 18 (zQ c3)<| T_nd 4 [18] [(22,.bool (decide (b<0)))] ?_
 by_cases c5:b<0
 ·rw[if_pos c5]at h
  exact N_bd 22 (zX c5)<| T_ed 14 [22] [(36,.bool true)]<| T_tz 36<| ar 2<| T_nr 2 [6,7] [vi 0,.bool false] hQ h
 rw[if_neg c5]at h
 refine N_bd 22 (zQ c5)<| T_nd 4 [22] [(26,.bool (decide (b>3)))] ?_
 by_cases c7:b>3
 ·rw[if_pos c7]at h
  exact N_bd 26 (zX c7)<| T_ed 10 [26] [(36,.bool true)]<| T_tz 36<| ar 2<| T_nr 2 [6,7] [vi 0,.bool false] hQ h
 rw[if_neg c7]at h
 refine N_bd 26 (zQ c7)<| T_nd 5 [] [(28,vi d),(29,vi b),(31,vp (some (sA.add 1)))] ?_
 obtain⟨q9,h⟩:=h
 refine T_v1 32 (aZ 72 (vp (some (sA.add 1))) (vi d)) (vp (some ((sA.add 1).add (Int.toNat d*4)))) (λw _=>eO (P:=Tryz.prog) (t:=72) (elem:=71) (sz:=4) (n:=5) (a:=(sA.add 1)) (k:=.i64) (i:=d) Tryz.underlying72 (λ_=>by kernel_rfl) q9.1 q9.2 w) [28,31] ?_
 obtain⟨q10,h⟩:=h
 refine T_v1 33 (aZ 71 (vp (some ((sA.add 1).add (Int.toNat d*4)))) (vi b)) (vp (some (((sA.add 1).add (Int.toNat d*4)).add (Int.toNat b*1)))) (λw _=>eO (P:=Tryz.prog) (t:=71) (elem:=3) (sz:=1) (n:=4) (a:=((sA.add 1).add (Int.toNat d*4))) (k:=.i64) (i:=b) Tryz.underlying71 (λ_=>by kernel_rfl) q10.1 q10.2 w) [29,32] ?_
 obtain⟨x,q11,h⟩:=h
 refine T_l1 34 3 q11 [33]<| T_ed 2 [26,34] [(36,.bool (x==0))] ?_
 by_cases c12:x=0
 ·rw[if_pos c12]at h
  exact aL 36 (zK c12)<| ar 2<| T_nr 2 [6,7] [vi 0,.bool false] hQ h
 rw[if_neg c12]at h
 refine aM 36 (zJ c12)<| T_kt<| ar 3<| T_n 5 [(38,vi d),(39,vi b),(41,vp (some (sA.add 1)))] ?_
 obtain⟨q14,h⟩:=h
 refine T_v1 42 (aZ 72 (vp (some (sA.add 1))) (vi d)) (vp (some ((sA.add 1).add (Int.toNat d*4)))) (λw _=>eO (P:=Tryz.prog) (t:=72) (elem:=71) (sz:=4) (n:=5) (a:=(sA.add 1)) (k:=.i64) (i:=d) Tryz.underlying72 (λ_=>by kernel_rfl) q14.1 q14.2 w) [38,41] ?_
 obtain⟨q15,h⟩:=h
 refine T_v1 43 (aZ 71 (vp (some ((sA.add 1).add (Int.toNat d*4)))) (vi b)) (vp (some (((sA.add 1).add (Int.toNat d*4)).add (Int.toNat b*1)))) (λw _=>eO (P:=Tryz.prog) (t:=71) (elem:=3) (sz:=1) (n:=4) (a:=((sA.add 1).add (Int.toNat d*4))) (k:=.i64) (i:=b) Tryz.underlying71 (λ_=>by kernel_rfl) q15.1 q15.2 w) [39,42] ?_
 obtain⟨e,q16,h⟩:=h
 exact T_l1 44 3 q16 [43]<| T_nr 3 [6,7] [vi (zY (e-1)),.bool true] hQ h
end bR

/-! (*moraine/card.Cards).Gen -/
namespace dI
def K0:=Func.code Tryz.f29
end dI
def dI.pt(c:zW)(wv:Int)(H:zV)(R:zv):Prop:=
 fN.C wv H (λv H1=> ∃(ra:Int) (rb:Bool),v=.tuple #[.int .i64 ra,.bool rb]/\
 cP.C c H1 (λs H2=> ∃x:Bool,s=.bool x/\
 if x=true then(
 R (.tuple #[.int .i64 0,.bool false]) H2)
 else
 if rb=true then(
 bZ.C wv H2 (λq H3=> ∃l:Int,q=.int .i64 l/\
 if l=6 then(
 R (.tuple #[.int .i64 0,.bool false]) H3)
 else
 ∃cA:Addr,c=some cA/\
 ∃p:zW,hat H3 cA=some (.pointer p)/\
 ∃o:Addr,p=some o/\
 ∃m:zW,hat H3 o=some (.pointer m)/\
 cE.C m (zY (Int.tdiv ra 64)) H3 (λr H4=> ∃(j g k f d a e:Int) (i:Bool),r=.tuple #[.agg #[.int .i64 j,.int .i64 g,.int .i64 k,.int .i64 f,.int .i64 d,.int .i64 a,.int .i64 e],.bool i]/\
 ∀(b:Nat) (H5:zV),b=H4.size->H5=H4.push (.cells #[.int .i64 0,.int .i64 0,.int .i64 0,.int .i64 0,.int .i64 0,.int .i64 0,.int .i64 0] 89)->
 (aK H5 (ad b) 0 7)/\ ∀H6,H6=aU H5 (ad b) [.int .i64 j,.int .i64 g,.int .i64 k,.int .i64 f,.int .i64 d,.int .i64 a,.int .i64 e] 0->
 ∃n:Int,hat H6 (ad b)=some (.int .i64 n)/\
 R (.tuple #[.int .i64 n,.bool i]) H6)))
 else
 R (.tuple #[.int .i64 0,.bool false]) H2))
namespace dI
theorem link{c:zW}{wv:Int}{H:zV}{R:zv}(h:pt c wv H R):C c wv H R:=by
 refine T_en K0 41 Tryz.func29 ?_
 intro w0 Q hQ
 unfold pt zY at h
 refine T_su [(0,vp c),(1,vu wv)]<| ar 0<| T_ed 2 [] []<| ar 1<| T_nd 1 [] [(10,vu wv)]<| T_c (some 11) h ?_;clear h
 rintro v H1 ⟨ra,rb,rfl,h⟩
 refine T_pd [10] [(11,.tuple #[vi ra,.bool rb])]<| T_ed 5 [11] [(6,vi ra),(7,.bool rb)]<| T_sz<| ar 2<| T_nd 1 [] [(14,vp c)]<| T_c (some 15) h ?_;clear h
 rintro s H2 ⟨x,rfl,h⟩
 refine T_pd [14] [(15,.bool x)]<| T_nd 1 [15] [(16,.bool x)] ?_
 by_cases c1:x=true
 ·rw[if_pos c1]at h
  exact N_bd 16 c1<| T_ed 8 [1,7,16] [(24,.bool true)]<| T_tz 24<| ar 3<| T_nr 2 [4,5] [vi 0,.bool false] hQ h
 rw[if_neg c1]at h
 refine N_bd 16 (zZ c1)<| T_nd 4 [7,16] [(20,.bool (!rb))] ?_
 by_cases c3:rb=true
 ·rw[if_pos c3]at h
  have b4:(!rb)=false:=congrArg Bool.not (c3)
  have b42:rb=true:=c3
  refine N_bd 20 (b:=(!rb)) (v:=false) (by simp only[b4,b42,Bool.not_true,Bool.not_false]) ?_
  clear b4 b42
  refine T_nd 1 [1] [(21,vu wv)]<| T_c (some 22) h ?_;clear h
  rintro q H3 ⟨l,rfl,h⟩
  refine T_pd [21] [(22,vi l)]<| T_ed 2 [20,22] [(24,.bool (l==6))] ?_
  by_cases c5:l=6
  ·rw[if_pos c5]at h
   exact aL 24 (zK c5)<| ar 3<| T_nr 2 [4,5] [vi 0,.bool false] hQ h
  rw[if_neg c5]at h
  refine aM 24 (zJ c5)<| T_kt<| ar 4<| T_nd 1 [0,24] [(26,vp c)] ?_
  obtain⟨cA,rfl,h⟩:=h
  refine T_nd 2 [26] [(28,vp (some cA))] ?_
  obtain⟨p,q7,h⟩:=h
  refine T_l1 29 42 q7 [28] ?_
  obtain⟨o,rfl,h⟩:=h
  refine T_nd 2 [29] [(31,vp (some o))] ?_
  obtain⟨m,q8,h⟩:=h
  refine T_l1 32 70 q8 [31]<| T_nd 2 [6] [(34,vi (zY (Int.tdiv ra 64)))]<| T_c (some 35) h ?_;clear h
  rintro r H4 ⟨j,g,k,f,d,a,e,i,rfl,h⟩
  refine⟨[(35,.tuple #[.agg #[vi j,vi g,vi k,vi f,vi d,vi a,vi e],.bool i])],pk,?_⟩
  refine T_n 3 [(36,.agg #[vi j,vi g,vi k,vi f,vi d,vi a,vi e]),(37,.bool i)]<| T_nw (some 8) (λb=>vp (pa b)) (.cells #[vi 0,vi 0,vi 0,vi 0,vi 0,vi 0,vi 0] 89) ?_
  intro b H5 e9 e10
  replace h:=h b H5 e9 e10
  refine T_pd [] [(8,vp (pa b))] ?_
  obtain⟨q12,h⟩:=h
  refine jP 89 [vi j,vi g,vi k,vi f,vi d,vi a,vi e] q12 ?_
  intro H6 e11
  replace h:=h H6 e11
  refine T_pd [36] []<| T_ed 1 [37] [(7,.bool i)]<| ar 5<| T_nd 1 [8] [(38,vp (pa b))] ?_
  obtain⟨n,q13,h⟩:=h
  exact T_l1 39 3 q13 [38]<| T_nr 3 [4,5] [vi n,.bool i] hQ h
 rw[if_neg c3]at h
 have b4:(!rb)=true:=congrArg Bool.not (zZ c3)
 have b42:rb=false:=zZ c3
 refine N_bd 20 (b:=(!rb)) (v:=true) (by simp only[b4,b42,Bool.not_true,Bool.not_false]) ?_
 clear b4 b42
 exact T_ed 4 [1,20] [(24,.bool true)]<| T_tz 24<| ar 3<| T_nr 2 [4,5] [vi 0,.bool false] hQ h
end dI

/-! moraine/card.New -/
namespace gW
def K0:=Func.code Tryz.f53
end gW
def gW.pt(a:Int)(H:zV)(R:zv):Prop:=
 gE.C a H (λv H1=> ∃(ra:zW) (rb:Int),v=.tuple #[.pointer ra,.int .i64 rb]/\
 if rb=0 then(
 ∀(b:Nat) (H2:zV),b=H1.size->H2=H1.push (.cells #[.pointer ra] 44)->
 R (.tuple #[.pointer (some (ad b)),.int .i64 0]) H2)
 else
 R (.tuple #[.pointer none,.int .i64 rb]) H1)
namespace gW
theorem link{a:Int}{H:zV}{R:zv}(h:pt a H R):C a H R:=by
 refine T_en K0 17 Tryz.func53 ?_
 intro w0 Q hQ
 unfold pt at h
 refine T_su [(0,vi a)]<| ar 0<| T_ed 2 [] []<| ar 1<| T_n 1 [(7,vi a)]<| T_c (some 8) h ?_;clear h
 rintro v H1 ⟨ra,rb,rfl,h⟩
 refine⟨[(8,.tuple #[vp ra,vi rb])],pk,?_⟩
 refine T_ne 5 [(4,vp ra),(5,vi rb)]<| T_sz<| ar 2<| T_ed 2 [] [(12,.bool (rb !=0))] ?_
 by_cases c1:rb=0
 ·rw[if_pos c1]at h
  refine aM 12 (bne_eq_false_iff_eq.mpr c1)<| T_kt<| ar 4<| T_n 2 [(15,.agg #[vp ra])]<| T_nw (some 16) (λb=>vp (pa b)) (.cells #[vp ra] 44) ?_
  intro b H2 e3 e4
  replace h:=h b H2 e3 e4
  refine⟨[(16,vp (pa b))],pk,?_⟩
  exact T_nr 2 [2,3] [vp (pa b),vi 0] hQ h
 rw[if_neg c1]at h
 exact aL 12 (bne_iff_ne.mpr c1)<| ar 3<| T_nr 3 [2,3] [vp none,vi rb] hQ h
end gW

/-! (*moraine/card.Cards).none -/
namespace cP
def K0:=Func.code Tryz.f66
end cP
def cP.pt(c:zW)(H:zV)(R:zv):Prop:=
 eY c (
 R (.bool true) H) (λcA=>
 ∃x:zW,hat H cA=some (.pointer x)/\
 eY x (
 R (.bool true) H) (λxA=>
 ∃b:zW,hat H cA=some (.pointer b)/\
 ∃d:Addr,b=some d/\
 ∃a:zW,hat H d=some (.pointer a)/\
 eY a (
 R (.bool true) H) (λe=>
 R (.bool false) H)))
namespace cP
theorem link{c:zW}{H:zV}{R:zv}(h:pt c H R):C c H R:=by
 refine T_en K0 22 Tryz.func66 ?_
 intro w0 Q hQ
 unfold pt at h
 refine T_su [(0,vp c)]<| ar 0<| T_ed 1 [] []<| ar 1<| T_nd 1 [] [(3,vp c)] ?_
 rcases c with _ | cA
 ·rw[onPtr_none]at h
  exact T_nr 19 [2] [.bool true] hQ h
 rw[onPtr_some]at h
 refine T_n 5 [(0,vp (some cA)),(5,.bool false),(8,vp (some cA))] ?_
 obtain⟨x,q1,h⟩:=h
 refine T_l1 9 42 q1 [8] ?_
 rcases x with _ | xA
 ·rw[onPtr_none]at h
  exact T_nr 13 [2] [.bool true] hQ h
 rw[onPtr_some]at h
 refine T_n 6 [(12,.bool false),(15,vp (some cA))] ?_
 obtain⟨b,q2,h⟩:=h
 refine T_l1 16 42 q2 [15] ?_
 obtain⟨d,rfl,h⟩:=h
 refine T_nd 2 [16] [(18,vp (some d))] ?_
 obtain⟨a,q3,h⟩:=h
 refine T_l1 19 70 q3 [18] ?_
 rcases a with _ | e
 ·rw[onPtr_none]at h
  exact T_nr 3 [2] [.bool true] hQ h
 rw[onPtr_some]at h
 exact T_nr 3 [2] [.bool false] hQ h
end cP

/-! (*moraine/card.Cards).younger -/
namespace bX
def K0:=Func.code Tryz.f118
end bX
def bX.pt(c:zW)(k i sN f d e g wv a:Int)(H:zV)(R:zv):Prop:=
 ∀(b:Nat) (H1:zV),b=H.size->H1=H.push (.cells #[.int .i64 k,.int .i64 i,.int .i64 sN,.int .i64 f,.int .i64 d,.int .i64 e,.int .i64 g] 89)->
 dI.C c wv H1 (λv H2=> ∃(ra:Int) (rb:Bool),v=.tuple #[.int .i64 ra,.bool rb]/\
 if rb=true then(
 ∃x:Int,hat H2 ((ad b).add 1)=some (.int .i64 x)/\
 if x=3 then(
 R (.int .i64 a) H2)
 else
 ∃j:Int,hat H2 (ad b)=some (.int .i64 j)/\
 if ra<j then(
 R (.int .i64 (if ra<a then ra else a)) H2)
 else
 R (.int .i64 a) H2)
 else
 R (.int .i64 a) H2)
namespace bX
theorem link{c:zW}{k i sN f d e g wv a:Int}{H:zV}{R:zv}(h:pt c k i sN f d e g wv a H R):C c k i sN f d e g wv a H R:=by
 refine T_en K0 33 Tryz.func118 ?_
 intro w0 Q hQ
 unfold pt at h
 refine T_su [(0,vp c),(1,.agg #[vi k,vi i,vi sN,vi f,vi d,vi e,vi g]),(2,vu wv),(3,vi a)]<| ar 0<| T_nw (some 5) (λb=>vp (pa b)) (.cells #[vi k,vi i,vi sN,vi f,vi d,vi e,vi g] 89) ?_
 intro b H1 e1 e2
 replace h:=h b H1 e1 e2
 refine T_pd [1] [(5,vp (pa b))]<| T_ed 1 [] []<| T_sz<| ar 1<| T_nd 2 [0,2] [(12,vp c),(13,vu wv)]<| T_c (some 14) h ?_;clear h
 rintro v H2 ⟨ra,rb,rfl,h⟩
 refine T_pd [12,13] [(14,.tuple #[vi ra,.bool rb])]<| T_ed 5 [14] [(9,vi ra),(10,.bool rb)]<| ar 2<| T_nd 2 [10] [(18,.bool rb)] ?_
 by_cases c3:rb=true
 ·rw[if_pos c3]at h
  refine N_bd 18 c3<| T_nd 1 [] [(19,vp (some ((ad b).add 1)))] ?_
  obtain⟨x,q5,h⟩:=h
  refine T_l1 20 3 q5 [19]<| T_nd 3 [18,20] [(23,.bool (x !=3))] ?_
  by_cases c6:x=3
  ·rw[if_pos c6]at h
   exact N_bd 23 (bne_eq_false_iff_eq.mpr c6)<| T_ed 5 [5,23] [(28,.bool false)]<| T_fz 28<| T_kt<| ar 4<| T_nr 2 [8] [vi a] hQ h
  rw[if_neg c6]at h
  refine N_bd 23 (bne_iff_ne.mpr c6)<| T_nd 2 [5] [(24,vi ra),(25,vp (pa b))] ?_
  obtain⟨j,q8,h⟩:=h
  refine T_l1 26 3 q8 [25]<| T_ed 2 [23,24,26] [(28,.bool (decide (ra<j)))] ?_
  by_cases c9:ra<j
  ·rw[if_pos c9]at h
   exact aL 28 (zX c9)<| ar 3<| T_nr 4 [8] [vi (if ra<a then ra else a)] hQ h
  rw[if_neg c9]at h
  exact aM 28 (zQ c9)<| T_kt<| ar 4<| T_nr 2 [8] [vi a] hQ h
 rw[if_neg c3]at h
 exact N_bd 18 (zZ c3)<| T_ed 10 [5,18] [(28,.bool false)]<| T_fz 28<| T_kt<| ar 4<| T_nr 2 [8] [vi a] hQ h
end bX

/-! (*moraine/card.Cards).Store -/
/-! (*moraine/obj.Heap).Cons -/
namespace dU
def K0:=Func.code Tryz.f18
end dU
def dU.pt(hv:zW)(d a:Int)(H:zV)(R:zv):Prop:=
 ∀(b:Nat) (H1:zV),b=H.size->H1=H.push (.cells #[.int .u64 d,.int .u64 a] 40)->
 dX.C hv 0 1 (some (ad b)) 2 2 H1 (λv H2=> ∃ra rb:Int,v=.tuple #[.int .u64 ra,.int .i64 rb]/\
 R (.tuple #[.int .u64 ra,.int .i64 rb]) H2)
namespace dU
theorem link{hv:zW}{d a:Int}{H:zV}{R:zv}(h:pt hv d a H R):C hv d a H R:=by
 refine T_en K0 15 Tryz.func18 ?_
 intro w0 Q hQ
 unfold pt at h
 refine T_su [(0,vp hv),(1,vu d),(2,vu a)]<| ar 0<| T_ed 2 [] []<| ar 1<| T_n 3 [(8,vp hv),(9,vu d),(10,vu a)]<| T_nw (some 11) (λb=>vs (pa b) 2 2) (.cells #[vu d,vu a] 40) ?_
 intro b H1 e1 e2
 replace h:=h b H1 e1 e2
 refine T_pd [9,10] [(11,vs (pa b) 2 2)]<| T_c (some 12) h ?_;clear h
 rintro v H2 ⟨ra,rb,rfl,h⟩
 refine⟨[(12,.tuple #[vu ra,vi rb])],pk,?_⟩
 exact T_nr 4 [6,7] [vu ra,vi rb] hQ h
end dU

/-! (*moraine/obj.Heap).Weak -/
namespace dV
def K0:=Func.code Tryz.f19
end dV
def dV.pt(hv:zW)(d a:Int)(H:zV)(R:zv):Prop:=
 ∀(b:Nat) (H1:zV),b=H.size->H1=H.push (.cells #[.int .u64 d,.int .u64 a] 40)->
 dX.C hv 1 2 (some (ad b)) 2 2 H1 (λv H2=> ∃ra rb:Int,v=.tuple #[.int .u64 ra,.int .i64 rb]/\
 R (.tuple #[.int .u64 ra,.int .i64 rb]) H2)
namespace dV
theorem link{hv:zW}{d a:Int}{H:zV}{R:zv}(h:pt hv d a H R):C hv d a H R:=by
 refine T_en K0 15 Tryz.func19 ?_
 intro w0 Q hQ
 unfold pt at h
 refine T_su [(0,vp hv),(1,vu d),(2,vu a)]<| ar 0<| T_ed 2 [] []<| ar 1<| T_n 3 [(8,vp hv),(9,vu d),(10,vu a)]<| T_nw (some 11) (λb=>vs (pa b) 2 2) (.cells #[vu d,vu a] 40) ?_
 intro b H1 e1 e2
 replace h:=h b H1 e1 e2
 refine T_pd [9,10] [(11,vs (pa b) 2 2)]<| T_c (some 12) h ?_;clear h
 rintro v H2 ⟨ra,rb,rfl,h⟩
 refine⟨[(12,.tuple #[vu ra,vi rb])],pk,?_⟩
 exact T_nr 4 [6,7] [vu ra,vi rb] hQ h
end dV

/-! (*moraine/obj.Heap).Size -/
namespace bE
def K0:=Func.code Tryz.f44
end bE
def bE.pt(hv:zW)(wv:Int)(H:zV)(R:zv):Prop:=
 dZ.C hv wv H (λv H1=> ∃x:Bool,v=.bool x/\
 if x=true then(
 R (.int .i64 2) H1)
 else
 bJ.C hv wv H1 (λa H2=> ∃(ra rb rc rd:Int) (re:Bool),a=.tuple #[.int .i64 ra,.int .i64 rb,.int .i64 rc,.int .u64 rd,.bool re]/\
 if re=true then(
 R (.int .i64 (zY (rc+1))) H2)
 else
 R (.int .i64 0) H2))
namespace bE
theorem link{hv:zW}{wv:Int}{H:zV}{R:zv}(h:pt hv wv H R):C hv wv H R:=by
 refine T_en K0 25 Tryz.func44 ?_
 intro w0 Q hQ
 unfold pt zY at h
 refine T_su [(0,vp hv),(1,vu wv)]<| ar 0<| T_ed 1 [] []<| T_sz<| ar 1<| T_nd 2 [] [(10,vp hv),(11,vu wv)]<| T_c (some 12) h ?_;clear h
 rintro v H1 ⟨x,rfl,h⟩
 refine T_pd [10,11] [(12,.bool x)]<| T_e ?_
 by_cases c1:x=true
 ·rw[if_pos c1]at h
  exact aL 12 c1<| ar 2<| T_nr 1 [4] [vi 2] hQ h
 rw[if_neg c1]at h
 refine aM 12 (zZ c1)<| T_kt<| T_sz<| ar 3<| T_n 2 [(14,vp hv),(15,vu wv)]<| T_c (some 16) h ?_;clear h
 rintro a H2 ⟨ra,rb,rc,rd,re,rfl,h⟩
 refine⟨[(16,.tuple #[vi ra,vi rb,vi rc,vu rd,.bool re])],pk,?_⟩
 refine T_ne 11 [(7,vi rc),(9,.bool re)]<| ar 4<| T_ed 1 [9] [(22,.bool re)] ?_
 by_cases c3:re=true
 ·rw[if_pos c3]at h
  exact aL 22 c3<| ar 5<| T_nr 3 [4] [vi (zY (rc+1))] hQ h
 rw[if_neg c3]at h
 exact aM 22 (zZ c3)<| T_kt<| ar 6<| T_nr 1 [4] [vi 0] hQ h
end bE

/-! (*moraine/obj.Heap).Pair -/
namespace dZ
def K0:=Func.code Tryz.f95
end dZ
def dZ.pt(hv:zW)(wv:Int)(H:zV)(R:zv):Prop:=
 eE.C hv wv H (λv H1=> ∃(ra:Int) (rb:Bool),v=.tuple #[.int .i64 ra,.bool rb]/\
 R (.bool rb) H1)
namespace dZ
theorem link{hv:zW}{wv:Int}{H:zV}{R:zv}(h:pt hv wv H R):C hv wv H R:=by
 refine T_en K0 14 Tryz.func95 ?_
 intro w0 Q hQ
 unfold pt at h
 refine T_su [(0,vp hv),(1,vu wv)]<| ar 0<| T_ed 1 [] []<| ar 1<| T_n 2 [(8,vp hv),(9,vu wv)]<| T_c (some 10) h ?_;clear h
 rintro v H1 ⟨ra,rb,rfl,h⟩
 refine⟨[(10,.tuple #[vi ra,.bool rb])],pk,?_⟩
 exact T_ne 5 [(6,.bool rb)]<| ar 2<| T_nr 2 [4] [.bool rb] hQ h
end dZ

/-! (*moraine/obj.Heap).SetCar -/
namespace eE
def K0:=Func.code Tryz.f128
end eE
def eE.pt(hv:zW)(wv:Int)(H:zV)(R:zv):Prop:=
 eH.C hv wv 1 0 H (λv H1=> ∃(ra:Int) (rb:Bool),v=.tuple #[.int .i64 ra,.bool rb]/\
 if rb=true then(
 R (.tuple #[.int .i64 ra,.bool ((Int.tmod ra 2)==0)]) H1)
 else
 eH.C hv wv 2 1 H1 (λd H2=> ∃(a:Int) (b:Bool),d=.tuple #[.int .i64 a,.bool b]/\
 R (.tuple #[.int .i64 a,.bool (b && ((Int.tmod a 2)==0))]) H2))
namespace eE
theorem link{hv:zW}{wv:Int}{H:zV}{R:zv}(h:pt hv wv H R):C hv wv H R:=by
 refine T_en K0 29 Tryz.func128 ?_
 intro w0 Q hQ
 unfold pt at h
 refine T_su [(0,vp hv),(1,vu wv)]<| ar 0<| T_ed 2 [] []<| ar 1<| T_nd 2 [] [(9,vp hv),(10,vu wv)]<| T_c (some 11) h ?_;clear h
 rintro v H1 ⟨ra,rb,rfl,h⟩
 refine T_pd [9,10] [(11,.tuple #[vi ra,.bool rb])]<| T_ed 5 [11] [(6,vi ra),(7,.bool rb)]<| T_sz<| ar 2<| T_ed 2 [] [(15,.bool (!rb))] ?_
 by_cases c1:rb=true
 ·rw[if_pos c1]at h
  have b2:(!rb)=false:=congrArg Bool.not (c1)
  have b22:rb=true:=c1
  refine S_bd 7 (b:=rb) (v:=true) (by simp only[b2,b22,Bool.not_true,Bool.not_false])<| S_bd 15 (b:=(!rb)) (v:=false) (by simp only[b2,b22,Bool.not_true,Bool.not_false]) ?_
  clear b2 b22
  exact T_fz 15<| T_kt<| ar 4<| T_nr 9 [4,5] [vi ra,.bool ((Int.tmod ra 2)==0)] hQ h
 rw[if_neg c1]at h
 have b2:(!rb)=true:=congrArg Bool.not (zZ c1)
 have b22:rb=false:=zZ c1
 refine S_bd 7 (b:=rb) (v:=false) (by simp only[b2,b22,Bool.not_true,Bool.not_false])<| S_bd 15 (b:=(!rb)) (v:=true) (by simp only[b2,b22,Bool.not_true,Bool.not_false]) ?_
 clear b2 b22
 refine T_tz 15<| T_rz 3<| T_n 2 [(17,vp hv),(18,vu wv)]<| T_c (some 19) h ?_;clear h
 rintro d H2 ⟨a,b,rfl,h⟩
 refine⟨[(19,.tuple #[vi a,.bool b])],pk,?_⟩
 refine T_ne 5 [(6,vi a),(7,.bool b)]<| ar 4 ?_
 refine iH [(4,vi a),(5,.bool (b && ((Int.tmod a 2)==0)))] ?_ ?_
 ·exact aE<| gP [4,5] [vi a,.bool (b && ((Int.tmod a 2)==0))] hQ h
 intro hk
 refine T_n 3 [(6,vi a),(22,vi a),(24,.bool b)] ?_
 by_cases c3:b=true
 ·have b4:b=true:=c3
  refine dN [(6,vi a),(22,vi a),(24,.bool true)] (by rw[b4]) ?_
  refine T_n 6 [(4,vi a),(5,.bool ((Int.tmod a 2)==0))]<| zq<| fX [(4,vi a),(5,.bool (b && ((Int.tmod a 2)==0)))] (by simp only[b4,BL]) ?_
  exact hk
 have b4:b=false:=zZ c3
 refine dN [(6,vi a),(22,vi a),(24,.bool false)] (by rw[b4]) ?_
 refine T_n 6 [(4,vi a),(5,.bool false)]<| zq<| fX [(4,vi a),(5,.bool (b && ((Int.tmod a 2)==0)))] (by simp only[b4,BL]) ?_
 exact hk
end eE

/-! (*moraine/obj.Heap).set -/
/-! (*moraine/seg.Mem).Taken -/
namespace dC
def K0:=Func.code Tryz.f32
def K2:=cb K0
def K4:=cb K2
def K12:=cb K4
def K13:=ca K12
def K16:=cb K13
def K17:=ca K16
def K18:=ca K17
end dC
def dC.pt(m f:zW)(d e:Nat)(H:zV)(R:zv):Prop:=
 ∀(b:Nat) (H1:zV),b=H.size->H1=H.push (.cells #[.pointer m] 70)->
 ∃x:zW,hat H1 (ad b)=some (.pointer x)/\
 eY x (
 R (.slice none 0 0) H1) (λxA=>
 ∃ac:zW,hat H1 (ad b)=some (.pointer ac)/\
 ∃ab:Addr,ac=some ab/\
 ∃(xB:zW) (xN xC:Nat),hat H1 ab=some (.slice xB xN xC)/\
 ∃(r:zW->Nat->Nat->zw) (m19:zW->Nat->Nat->Int->zV->Nat),r none 0 0 0 H1/\ ∀(lB:zW) (lN:Nat) (lC:Nat) (s15:Int) (H2:zV),r lB lN lC s15 H2->
 if s15< (xN:Int)then(
 ∃af:zW,hat H2 (ad b)=some (.pointer af)/\
 ∃ae:Addr,af=some ae/\
 ∃(q:zW) (l o:Nat),hat H2 ae=some (.slice q l o)/\
 ∃g:Addr,q=some g/\
 yZ s15 l/\
 ∃p:Int,hat H2 ((g.add (Int.toNat s15*72)).add 7)=some (.int .i64 p)/\
 if p>0 then(
 if(d:Int)=0 then(
 ∀(y:Nat) (H3:zV),y=H2.size->H3=H2.push (.cells #[.int .i64 s15] 3)->
 dH 1 3 8 [.int .i64 0] lB lN lC (some (ad y)) 1 H3 (λap u H4=>
 (r ap (lN+1) u (zY (s15+1)) H4/\m19 ap (lN+1) u (zY (s15+1)) H4<m19 lB lN lC s15 H2)))
 else
 ∃aa:Int,hat H2 (g.add (Int.toNat s15*72))=some (.int .i64 aa)/\
 bD.C f d e aa H2 (λv H5=> ∃s:Bool,v=.bool s/\
 if s=true then(
 ∀(z:Nat) (H6:zV),z=H5.size->H6=H5.push (.cells #[.int .i64 s15] 3)->
 dH 1 3 8 [.int .i64 0] lB lN lC (some (ad z)) 1 H6 (λn j H7=>
 (r n (lN+1) j (zY (s15+1)) H7/\m19 n (lN+1) j (zY (s15+1)) H7<m19 lB lN lC s15 H2)))
 else
 (r lB lN lC (zY (s15+1)) H5/\m19 lB lN lC (zY (s15+1)) H5<m19 lB lN lC s15 H2)))
 else
 (r lB lN lC (zY (s15+1)) H2/\m19 lB lN lC (zY (s15+1)) H2<m19 lB lN lC s15 H2))
 else
 slices_SortFunc_int_int.C lB lN lC (.func (.func 69) #[] #[.pointer (some (ad b))]) H2 (λ_ H8=>
 R (.slice lB lN lC) H8))
namespace dC
theorem link{m f:zW}{d e:Nat}{H:zV}{R:zv}(h:pt m f d e H R):C m f d e H R:=by
 refine T_en K0 52 Tryz.func32 ?_
 intro w0 Q hQ
 unfold pt zY at h
 refine T_su [(0,vp m),(1,vs f d e)]<| ar 0<| T_nw (some 2) (λb=>vp (pa b)) (.cells #[vp m] 70) ?_
 intro b H1 e1 e2
 replace h:=h b H1 e1 e2
 refine T_pd [0] [(2,vp (pa b))]<| T_ed 1 [] []<| T_sz<| ar 1 ?_
 obtain⟨x,q3,h⟩:=h
 refine T_l1 8 70 q3 [] ?_
 rcases x with _ | xA
 ·rw[onPtr_none]at h
  exact T_ed 1 [8] [(9,.bool true)]<| T_tz 9<| ar 2<| T_nr 1 [4] [vs none 0 0] hQ h
 rw[onPtr_some]at h
 refine T_ed 1 [8] [(9,.bool false)]<| T_fz 9<| T_kt<| ar 3<| T_ed 1 [9] [(5,vs none 0 0)]<| T_sz<| ar 4 ?_
 obtain⟨ac,q4,h⟩:=h
 refine T_l1 10 70 q4 [] ?_
 obtain⟨ab,rfl,h⟩:=h
 refine T_nd 2 [10] [(12,vp (some ab))] ?_
 obtain⟨xB,xN,xC,q5,h⟩:=h
 refine T_l1 13 128 q5 [12]<| T_ed 2 [13] [(14,vi xN),(15,vi 0)]<| T_bz 0 ?_
 obtain⟨r,m19,i6,i7⟩:=h
 refine dE (x:=K18) (σ:=zW×Nat×Nat×Int) (λs_=> [(1,vs f d e),(2,vp (pa b)),(5,vs s_.1 s_.2.1 s_.2.2.1),(14,vi xN),(15,vi s_.2.2.2)]) (λs_ H=>r s_.1 s_.2.1 s_.2.2.1 s_.2.2.2 H) (λs_ H=>m19 s_.1 s_.2.1 s_.2.2.1 s_.2.2.2 H) ((none,0,0,0):zW×Nat×Nat×Int) (by kernel_rfl) i6 sk ?_
 rintro⟨lB,lN,lC,s15⟩ H2 i8
 have h:=i7 lB lN lC s15 H2 i8
 refine T_su [(1,vs f d e),(2,vp (pa b)),(5,vs lB lN lC),(14,vi xN),(15,vi s15)]<| ar 5<| T_ed 1 [] [(16,.bool (decide (s15< (xN:Int))))]<| T_sz ?_
 by_cases c9:s15< (xN:Int)
 ·rw[if_pos c9]at h
  refine aL 16 (zX c9)<| T_kt<| T_sz<| T_bz 1<| ar 6<| T_ed 2 [16] [(6,vi s15)]<| ar 7 ?_
  obtain⟨af,q11,h⟩:=h
  refine T_l1 18 70 q11 [] ?_
  obtain⟨ae,rfl,h⟩:=h
  refine T_nd 2 [18] [(20,vp (some ae))] ?_
  obtain⟨q,l,o,q12,h⟩:=h
  refine T_l1 21 128 q12 [20]<| T_nd 1 [] [(22,vi s15)] ?_
  obtain⟨g,rfl,q13,h⟩:=h
  refine T_xd (some 23) 128 134 72 g l o .i64 s15 Tryz.underlying128 q13.1 q13.2 [21,22] [(23,vp (some (g.add (Int.toNat s15*72))))]<| T_ed 1 [23] [(7,vp (some (g.add (Int.toNat s15*72))))]<| ar 8<| T_nd 3 [] [(26,vp (some ((g.add (Int.toNat s15*72)).add 7)))] ?_
  obtain⟨p,q14,h⟩:=h
  refine T_l1 27 3 q14 [26]<| T_nd 2 [27] [(29,.bool (decide (p>0)))] ?_
  by_cases c15:p>0
  ·rw[if_pos c15]at h
   refine N_bd 29 (zX c15)<| T_nd 4 [] [(33,.bool ((d:Int)==0))] ?_
   by_cases c17:(d:Int)=0
   ·rw[if_pos c17]at h
    refine N_bd 33 (zK c17)<| T_ed 9 [7,29,33] [(42,.bool true)]<| T_tz 42<| T_rz 9<| T_nd 2 [5,6,42] [(43,vs lB lN lC),(44,vi s15)]<| T_nw (some 45) (λb=>vs (pa b) 1 1) (.cells #[vi s15] 3) ?_
    intro y H3 e19 e20
    replace h:=h y H3 e19 e20
    refine T_pd [44] [(45,vs (pa y) 1 1)]<| N_op (some 46) (eJ #[59,59] 59 #[vs lB lN lC,vs (pa y) 1 1]) _ (λ_=>by kernel_rfl) (dM (T:=3) (sz:=1) (bytes:=8) (zero:=(vi 0:Value)) Tryz.underlying59 Tryz.underlying59 rfl (show Tryz.prog.info? 3=some Tryz.t3 from by kernel_rfl) (by kernel_rfl) (by kernel_rfl) (by decide) (by kernel_rfl) (by first | exact h | (simpa only[Value.cells,List.toList_toArray]using h))) ?_;clear h
    rintro _ H4 ⟨ap,u,rfl,h⟩
    exact T_pd [43,45] [(46,vs ap (lN+1) u)]<| T_nd 1 [46] [(5,vs ap (lN+1) u)]<| zq<| aA<| aE<| T_rz 10<| T_ed 2 [15] [(15,vi (zY (s15+1)))]<| bK ((ap,(lN+1),u,(zY (s15+1))):zW×Nat×Nat×Int) sk h
   rw[if_neg c17]at h
   refine N_bd 33 (zJ c17)<| T_nd 5 [7] [(34,vs f d e),(38,vp (some (g.add (Int.toNat s15*72))))] ?_
   obtain⟨aa,q21,h⟩:=h
   refine T_l1 39 3 q21 [38]<| T_c (some 40) h ?_;clear h
   rintro v H5 ⟨s,rfl,h⟩
   refine T_pd [34,39] [(40,.bool s)]<| T_ed 2 [29,33,40] [(42,.bool s)] ?_
   by_cases c22:s=true
   ·rw[if_pos c22]at h
    refine aL 42 c22<| T_rz 9<| T_nd 2 [5,6,42] [(43,vs lB lN lC),(44,vi s15)]<| T_nw (some 45) (λb=>vs (pa b) 1 1) (.cells #[vi s15] 3) ?_
    intro z H6 e24 e25
    replace h:=h z H6 e24 e25
    refine T_pd [44] [(45,vs (pa z) 1 1)]<| N_op (some 46) (eJ #[59,59] 59 #[vs lB lN lC,vs (pa z) 1 1]) _ (λ_=>by kernel_rfl) (dM (T:=3) (sz:=1) (bytes:=8) (zero:=(vi 0:Value)) Tryz.underlying59 Tryz.underlying59 rfl (show Tryz.prog.info? 3=some Tryz.t3 from by kernel_rfl) (by kernel_rfl) (by kernel_rfl) (by decide) (by kernel_rfl) (by first | exact h | (simpa only[Value.cells,List.toList_toArray]using h))) ?_;clear h
    rintro _ H7 ⟨n,j,rfl,h⟩
    exact T_pd [43,45] [(46,vs n (lN+1) j)]<| T_nd 1 [46] [(5,vs n (lN+1) j)]<| zq<| aA<| aE<| T_rz 10<| T_ed 2 [15] [(15,vi (zY (s15+1)))]<| bK ((n,(lN+1),j,(zY (s15+1))):zW×Nat×Nat×Int) sk h
   rw[if_neg c22]at h
   exact aM 42 (zZ c22)<| T_k<| aA<| aE<| T_rz 10<| T_ed 2 [6,15,42] [(15,vi (zY (s15+1)))]<| bK ((lB,lN,lC,(zY (s15+1))):zW×Nat×Nat×Int) sk h
  rw[if_neg c15]at h
  refine N_bd 29 (zQ c15)<| T_ed 13 [7,29] [(42,.bool false)]<| T_fz 42<| T_k ?_
  exact aA<| aE<| T_rz 10<| T_ed 2 [6,15,42] [(15,vi (zY (s15+1)))]<| bK ((lB,lN,lC,(zY (s15+1))):zW×Nat×Nat×Int) sk h
 rw[if_neg c9]at h
 refine aM 16 (zQ c9)<| zk 0<| aD<| aD<| aQ<| aE<| ar 11<| T_n 2 [(5,vs lB lN lC),(48,vs lB lN lC),(49,.func (.func 69) #[] #[vp (pa b)])]<| T_c (some 50) h ?_;clear h
 intro v_2 H8 h
 exact T_pd [48,49] []<| T_e<| ar 12<| T_nr 2 [4] [vs lB lN lC] hQ h
end dC

/-! (*moraine/seg.Mem).Taken.1 -/
namespace eK
def K0:=Func.code Tryz.f69
def K2:=cb K0
def K3:=ca K2
end eK
def eK.pt(a b:Int)(o:zW)(H:zV)(R:zv):Prop:=
 ∃d:Addr,o=some d/\
 ∃x:zW,hat H d=some (.pointer x)/\
 ∃xA:Addr,x=some xA/\
 ∃(xB:zW) (xN xC:Nat),hat H xA=some (.slice xB xN xC)/\
 ∃f:Addr,xB=some f/\
 yZ a xN/\
 ∃g:Int,hat H ((f.add (Int.toNat a*72)).add 7)=some (.int .i64 g)/\
 ∃r:zW,hat H d=some (.pointer r)/\
 ∃j:Addr,r=some j/\
 ∃(q:zW) (l m:Nat),hat H j=some (.slice q l m)/\
 ∃e:Addr,q=some e/\
 yZ b l/\
 ∃p:Int,hat H ((e.add (Int.toNat b*72)).add 7)=some (.int .i64 p)/\
 cmp_Compare_int.C g p H (λv H1=> ∃n:Int,v=.int .i64 n/\
 R (.int .i64 n) H1)
namespace eK
theorem link{a b:Int}{o:zW}{H:zV}{R:zv}(h:pt a b o H R):C a b o H R:=by
 refine T_en K0 23 Tryz.func69 ?_
 intro w0 Q hQ
 unfold pt at h
 refine T_su [(0,vi a),(1,vi b),(2,vp o)]<| ar 0<| T_ed 1 [] []<| T_sz ?_
 obtain⟨d,rfl,x,q1,xA,rfl,xB,xN,xC,q2,f,rfl,q3,g,q4,r,q5,j,rfl,q,l,m,q6,e,rfl,q7,p,q8,h⟩:=h
 refine yq 1 (Code.ops K3) [(16,d,[vp (some xA)]),(16,xA,[vs (some f) xN xC]),(16,((f.add (Int.toNat a*72)).add 7),[vi g]),(16,d,[vp (some j)]),(16,j,[vs (some e) l m]),(16,((e.add (Int.toNat b*72)).add 7),[vi p])] 18 (bv 18 0) (show aJ _ _ _ from⟨⟨q1,trivial⟩,⟨q2,trivial⟩,⟨q4,trivial⟩,⟨q5,trivial⟩,⟨q6,trivial⟩,⟨q8,trivial⟩,trivial⟩)<| T_g 0 (some 6) (vp (some xA)) (bv 18 1) [(0,vi a),(1,vi b),(2,vp (some d)),(6,vp (some xA))] (bH 70 (vp (some d))) (yY 16 yX)<| bM 1 7 (vp (some xA)) (bv 18 3) [6]<| bM 2 8 (vp (some xA)) (bv 18 7) [7]<| T_g1 3 9 (vs (some f) xN xC) (bv 18 15) [8] (bH 128 (vp (some xA))) (yY 16 yQ)<| bM 4 10 (vi a) (bv 18 31) [0]<| T_g1 5 11 (vp (some (f.add (Int.toNat a*72)))) (bv 18 63) [9,10] (aZ 128 (vs (some f) xN xC) (vi a)) (λ_ w _ _ _=>bL (P:=Tryz.prog) (t:=128) (elem:=134) (sz:=72) (a:=f) (len:=xN) (cap:=xC) (k:=.i64) (i:=a) Tryz.underlying128 (λ_=>by kernel_rfl) q3.1 q3.2 w)<| bM 6 12 (vp (some ((f.add (Int.toNat a*72)).add 7))) (bv 18 127) [11]<| T_g1 7 13 (vi g) (bv 18 255) [12] (bH 3 (vp (some ((f.add (Int.toNat a*72)).add 7)))) (yY 16 yJ)<| T_g1 8 14 (vp (some j)) (bv 18 511) [2] (bH 70 (vp (some d))) (yY 16 yK)<| bM 9 15 (vp (some j)) (bv 18 1023) [14]<| bM 10 16 (vp (some j)) (bv 18 2047) [15]<| T_g1 11 17 (vs (some e) l m) (bv 18 4095) [16] (bH 128 (vp (some j))) (yY 16 yV)<| bM 12 18 (vi b) (bv 18 8191) [1]<| T_g1 13 19 (vp (some (e.add (Int.toNat b*72)))) (bv 18 16383) [17,18] (aZ 128 (vs (some e) l m) (vi b)) (λ_ w _ _ _=>bL (P:=Tryz.prog) (t:=128) (elem:=134) (sz:=72) (a:=e) (len:=l) (cap:=m) (k:=.i64) (i:=b) Tryz.underlying128 (λ_=>by kernel_rfl) q7.1 q7.2 w)<| bM 14 20 (vp (some ((e.add (Int.toNat b*72)).add 7))) (bv 18 32767) [19]<| T_g1 15 21 (vi p) (bv 18 65535) [20] (bH 3 (vp (some ((e.add (Int.toNat b*72)).add 7)))) (yY 16 yW)<| yx 16 (some 22) (bv 18 131071) 70 #[vi g,vi p] h ?_;clear h
 rintro v H1 ⟨n,rfl,h⟩
 refine⟨[(22,vi n)],pk,(show aJ _ _ _ from⟨trivial,trivial,trivial,trivial,trivial,trivial,trivial⟩),?_⟩
 exact T_g 17 (some 5) (vi n) (bv 18 262143) [(5,vi n)] (pure (.value (vi n)):Sem Next) (λ_ _ _ _ _=>rfl)<| gT [(5,vi n)] sk<| yz<| aE<| gP [5] [vi n] hQ h
end eK

/-! (*moraine/seg.Mem).Free -/
namespace eS
def K0:=Func.code Tryz.f149
def K2:=cb K0
def K4:=cb K2
def K11:=ca K4
end eS
def eS.pt(m:zW)(H:zV)(R:zv):Prop:=
 eY m (
 R (.pointer none) H) (λmA=>
 ∃(xB:zW) (xN xC:Nat),hat H mA=some (.slice xB xN xC)/\
 ∃x:Int,hat H (mA.add 1)=some (.int .i64 x)/\
 ∃a:Int,hat H (mA.add 2)=some (.int .i64 a)/\
 aR.C xB xN xC H (λv H1=> ∃(e:zW) (f d:Nat),v=.slice e f d/\aS H1 (mA.add 1) 0 [.int .i64 x]/\aS H1 (mA.add 2) 0 [.int .i64 a]/\
 ∀(b:Nat) (H2:zV),b=H1.size->H2=H1.push (.cells #[.slice e f d,.int .i64 x,.int .i64 a] 130)->
 R (.pointer (some (ad b))) H2))
namespace eS
theorem link{m:zW}{H:zV}{R:zv}(h:pt m H R):C m H R:=by
 refine T_en K0 20 Tryz.func149 ?_
 intro w0 Q hQ
 unfold pt at h
 refine T_su [(0,vp m)]<| ar 0<| T_ed 1 [] []<| T_sz<| ar 1<| T_nd 1 [] [(3,vp m)] ?_
 rcases m with _ | mA
 ·rw[onPtr_none]at h
  exact T_ne 1 [(0,vp none),(4,.bool true)]<| T_tz 4<| ar 2<| T_nr 1 [2] [vp none] hQ h
 rw[onPtr_some]at h
 refine T_ne 1 [(0,vp (some mA)),(4,.bool false)]<| T_fz 4<| T_kt<| T_sz ?_
 obtain⟨xB,xN,xC,q1,x,q2,a,q3,h⟩:=h
 refine yq 3 (Code.ops K11) [(4,mA,[vs xB xN xC]),(14,(mA.add 1),[vi x]),(14,(mA.add 2),[vi a])] 16 (bv 16 0) (show aJ _ _ _ from⟨⟨q1,trivial⟩,⟨q2,trivial⟩,⟨q3,trivial⟩,trivial⟩)<| T_gp 0 (some 5) (vp (some mA)) (bv 16 1) [(0,vp (some mA)),(5,vp (some mA))]<| bM 1 6 (vp (some mA)) (bv 16 3) [5]<| bM 2 7 (vp (some mA)) (bv 16 7) [6]<| T_g1 3 8 (vs xB xN xC) (bv 16 15) [7] (bH 128 (vp (some mA))) (yY 4 yX)<| bM 5 10 (vp (some mA)) (bv 16 47) []<| bM 6 11 (vp (some mA)) (bv 16 111) [10]<| bM 7 12 (vp (some (mA.add 1))) (bv 16 239) [11]<| T_g1 8 13 (vi x) (bv 16 495) [12] (bH 3 (vp (some (mA.add 1)))) (yY 14 yQ)<| bM 9 14 (vp (some mA)) (bv 16 1007) [0]<| bM 10 15 (vp (some mA)) (bv 16 2031) [14]<| bM 11 16 (vp (some (mA.add 2))) (bv 16 4079) [15]<| T_g1 12 17 (vi a) (bv 16 8175) [16] (bH 3 (vp (some (mA.add 2)))) (yY 14 yJ)<| yx 4 (some 9) (bv 16 8191) 155 #[vs xB xN xC] h ?_;clear h
 rintro v H1 ⟨e,f,d,rfl,f4,f5,h⟩
 refine⟨[(9,vs e f d),(13,vi x),(17,vi a)],pk,(show aJ _ _ _ from⟨trivial,f4,f5,trivial⟩),?_⟩
 refine T_g 13 (some 18) (.agg #[vs e f d,vi x,vi a]) (bv 16 16383) [(18,.agg #[vs e f d,vi x,vi a])] (pure (.value (.agg #[vs e f d,vi x,vi a])):Sem Next) (λ_ _ _ _ _=>rfl)<| mP 14 (some 19) (bv 16 32767) (λb=>vp (pa b)) (.cells #[vs e f d,vi x,vi a] 130) (by kernel_rfl) (λ_=>by kernel_rfl) (by kernel_rfl) ?_
 intro b H2 e6 e7
 replace h:=h b H2 e6 e7
 refine⟨[(19,vp (pa b))],pk,(show aJ _ _ _ from⟨trivial,trivial,trivial,trivial⟩),?_⟩
 exact T_g 15 (some 2) (vp (pa b)) (bv 16 65535) [(2,vp (pa b))] (pure (.value (vp (pa b))):Sem Next) (λ_ _ _ _ _=>rfl)<| gT [(2,vp (pa b))] sk<| yz<| aE<| gP [2] [vp (pa b)] hQ h
end eS

/-! (*moraine/space.Space).Words -/
namespace cT
def K0:=Func.code Tryz.f134
def K2:=cb K0
def K4:=cb K2
def K11:=ca K4
end cT
def cT.pt(s:zW)(H:zV)(R:zv):Prop:=
 eY s (
 R (.pointer none) H) (λsA=>
 ∃x:zW,hat H sA=some (.pointer x)/\
 ∃o y p q i n j t l a f z u aa e k g m d r:Int,aS H (sA.add 1) 0 [.int .i64 o,.int .i64 y,.int .i64 p,.int .i64 q,.int .i64 i,.int .i64 n,.int .i64 j,.int .i64 t,.int .i64 l,.int .i64 a,.int .i64 f,.int .i64 z,.int .i64 u,.int .i64 aa,.int .i64 e,.int .i64 k,.int .i64 g,.int .i64 m,.int .i64 d,.int .i64 r]/\
 eS.C x H (λv H1=> ∃ab:zW,v=.pointer ab/\aS H1 (sA.add 1) 0 [.int .i64 o,.int .i64 y,.int .i64 p,.int .i64 q,.int .i64 i,.int .i64 n,.int .i64 j,.int .i64 t,.int .i64 l,.int .i64 a,.int .i64 f,.int .i64 z,.int .i64 u,.int .i64 aa,.int .i64 e,.int .i64 k,.int .i64 g,.int .i64 m,.int .i64 d,.int .i64 r]/\
 ∀(b:Nat) (H2:zV),b=H1.size->H2=H1.push (.cells #[.pointer ab,.int .i64 o,.int .i64 y,.int .i64 p,.int .i64 q,.int .i64 i,.int .i64 n,.int .i64 j,.int .i64 t,.int .i64 l,.int .i64 a,.int .i64 f,.int .i64 z,.int .i64 u,.int .i64 aa,.int .i64 e,.int .i64 k,.int .i64 g,.int .i64 m,.int .i64 d,.int .i64 r] 74)->
 R (.pointer (some (ad b))) H2))
namespace cT
set_option maxRecDepth 100000 in
theorem link{s:zW}{H:zV}{R:zv}(h:pt s H R):C s H R:=by
 refine T_en K0 16 Tryz.func134 ?_
 intro w0 Q hQ
 unfold pt at h
 refine T_su [(0,vp s)]<| ar 0<| T_ed 1 [] []<| T_sz<| ar 1<| T_nd 1 [] [(3,vp s)] ?_
 rcases s with _ | sA
 ·rw[onPtr_none]at h
  exact T_ne 1 [(0,vp none),(4,.bool true)]<| T_tz 4<| ar 2<| T_nr 1 [2] [vp none] hQ h
 rw[onPtr_some]at h
 refine T_ne 1 [(0,vp (some sA)),(4,.bool false)]<| T_fz 4<| T_kt<| T_sz ?_
 obtain⟨x,q1,o,y,p,q,i,n,j,t,l,a,f,z,u,aa,e,k,g,m,d,r,q2,h⟩:=h
 refine yq 3 (Code.ops K11) [(4,sA,[vp x]),(10,(sA.add 1),[vi o,vi y,vi p,vi q,vi i,vi n,vi j,vi t,vi l,vi a,vi f,vi z,vi u,vi aa,vi e,vi k,vi g,vi m,vi d,vi r])] 12 (bv 12 0) (show aJ _ _ _ from⟨⟨q1,trivial⟩,q2,trivial⟩)<| T_gp 0 (some 5) (vp (some sA)) (bv 12 1) [(0,vp (some sA)),(5,vp (some sA))]<| bM 1 6 (vp (some sA)) (bv 12 3) [5]<| bM 2 7 (vp (some sA)) (bv 12 7) [6]<| T_g1 3 8 (vp x) (bv 12 15) [7] (bH 70 (vp (some sA))) (yY 4 yX)<| bM 5 10 (vp (some sA)) (bv 12 47) [0]<| bM 6 11 (vp (some sA)) (bv 12 111) [10]<| bM 7 12 (vp (some (sA.add 1))) (bv 12 239) [11]<| T_g1 8 13 (.agg #[vi o,vi y,vi p,vi q,vi i,vi n,vi j,vi t,vi l,vi a,vi f,vi z,vi u,vi aa,vi e,vi k,vi g,vi m,vi d,vi r]) (bv 12 495) [12] (bH 72 (vp (some (sA.add 1)))) (lv 10 (λ_=>by kernel_rfl) (λ_=>by kernel_rfl) yQ (.inl (by kernel_rfl)))<| yx 4 (some 9) (bv 12 511) 149 #[vp x] h ?_;clear h
 rintro v H1 ⟨ab,rfl,f3,h⟩
 refine⟨[(9,vp ab),(13,.agg #[vi o,vi y,vi p,vi q,vi i,vi n,vi j,vi t,vi l,vi a,vi f,vi z,vi u,vi aa,vi e,vi k,vi g,vi m,vi d,vi r])],pk,(show aJ _ _ _ from⟨trivial,f3,trivial⟩),?_⟩
 refine T_g 9 (some 14) (.agg #[vp ab,vi o,vi y,vi p,vi q,vi i,vi n,vi j,vi t,vi l,vi a,vi f,vi z,vi u,vi aa,vi e,vi k,vi g,vi m,vi d,vi r]) (bv 12 1023) [(14,.agg #[vp ab,vi o,vi y,vi p,vi q,vi i,vi n,vi j,vi t,vi l,vi a,vi f,vi z,vi u,vi aa,vi e,vi k,vi g,vi m,vi d,vi r])] (pure (.value (.agg #[vp ab,vi o,vi y,vi p,vi q,vi i,vi n,vi j,vi t,vi l,vi a,vi f,vi z,vi u,vi aa,vi e,vi k,vi g,vi m,vi d,vi r])):Sem Next) (λ_ _ _ _ _=>rfl)<| mP 10 (some 15) (bv 12 2047) (λb=>vp (pa b)) (.cells #[vp ab,vi o,vi y,vi p,vi q,vi i,vi n,vi j,vi t,vi l,vi a,vi f,vi z,vi u,vi aa,vi e,vi k,vi g,vi m,vi d,vi r] 74) (by kernel_rfl) (λ_=>by kernel_rfl) (by kernel_rfl) ?_
 intro b H2 e4 e5
 replace h:=h b H2 e4 e5
 refine⟨[(15,vp (pa b))],pk,(show aJ _ _ _ from⟨trivial,trivial,trivial⟩),?_⟩
 exact T_g 11 (some 2) (vp (pa b)) (bv 12 4095) [(2,vp (pa b))] (pure (.value (vp (pa b))):Sem Next) (λ_ _ _ _ _=>rfl)<| gT [(2,vp (pa b))] sk<| yz<| aE<| gP [2] [vp (pa b)] hQ h
end cT

/-! cmp.Compare[int] -/
namespace cmp_Compare_int
def K0:=Func.code Tryz.f70
end cmp_Compare_int
def cmp_Compare_int.pt(x y:Int)(H:zV)(R:zv):Prop:=
 cmp_isNaN_int.C x H (λv H1=> ∃b:Bool,v=.bool b/\
 cmp_isNaN_int.C y H1 (λd H2=> ∃a:Bool,d=.bool a/\
 if b=true then(
 if a=true then(
 R (.int .i64 0) H2)
 else
 R (.int .i64 (-1)) H2)
 else
 if a=true then(
 R (.int .i64 1) H2)
 else
 if x<y then(
 R (.int .i64 (-1)) H2)
 else
 if x>y then(
 R (.int .i64 1) H2)
 else
 R (.int .i64 0) H2))
namespace cmp_Compare_int
theorem link{x y:Int}{H:zV}{R:zv}(h:pt x y H R):C x y H R:=by
 refine T_en K0 20 Tryz.func70 ?_
 intro w0 Q hQ
 unfold pt at h
 refine T_su [(0,vi x),(1,vi y)]<| ar 0<| T_ed 1 [] []<| ar 1<| T_nd 1 [] [(7,vi x)]<| T_c (some 8) h ?_;clear h
 rintro v H1 ⟨b,rfl,h⟩
 refine T_pd [7] [(8,.bool b)]<| T_ed 1 [8] [(5,.bool b)]<| ar 2<| T_nd 1 [] [(9,vi y)]<| T_c (some 10) h ?_;clear h
 rintro d H2 ⟨a,rfl,h⟩
 refine T_pd [9] [(10,.bool a)]<| T_ed 1 [10] [(6,.bool a)]<| T_sz<| ar 3<| T_ed 1 [5] [(11,.bool b)] ?_
 by_cases c1:b=true
 ·rw[if_pos c1]at h
  refine aL 11 c1<| T_sz<| ar 4<| T_ne 1 [(12,.bool a)] ?_
  by_cases c3:a=true
  ·rw[if_pos c3]at h
   exact aL 12 c3<| ar 5<| T_nr 1 [4] [vi 0] hQ h
  rw[if_neg c3]at h
  exact aM 12 (zZ c3)<| T_kt<| ar 6<| T_nr 1 [4] [vi (-1)] hQ h
 rw[if_neg c1]at h
 refine aM 11 (zZ c1)<| T_kt<| T_sz<| ar 7<| T_ed 1 [6,11] [(13,.bool a)] ?_
 by_cases c5:a=true
 ·rw[if_pos c5]at h
  exact aL 13 c5<| ar 8<| T_nr 1 [4] [vi 1] hQ h
 rw[if_neg c5]at h
 refine aM 13 (zZ c5)<| T_kt<| T_sz<| ar 9<| T_ed 3 [13] [(16,.bool (decide (x<y)))] ?_
 by_cases c7:x<y
 ·rw[if_pos c7]at h
  exact aL 16 (zX c7)<| ar 10<| T_nr 1 [4] [vi (-1)] hQ h
 rw[if_neg c7]at h
 refine aM 16 (zQ c7)<| T_kt<| T_sz<| ar 11<| T_ne 3 [(19,.bool (decide (x>y)))] ?_
 by_cases c9:x>y
 ·rw[if_pos c9]at h
  exact aL 19 (zX c9)<| ar 12<| T_nr 1 [4] [vi 1] hQ h
 rw[if_neg c9]at h
 exact aM 19 (zQ c9)<| T_kt<| ar 13<| T_nr 1 [4] [vi 0] hQ h
end cmp_Compare_int

/-! cmp.isNaN[int] -/
namespace cmp_isNaN_int
def K0:=Func.code Tryz.f115
end cmp_isNaN_int
def cmp_isNaN_int.pt(x:Int)(H:zV)(R:zv):Prop:=
 R (.bool (x !=x)) H
namespace cmp_isNaN_int
theorem link{x:Int}{H:zV}{R:zv}(h:pt x H R):C x H R:=by
 refine T_en K0 6 Tryz.func115 ?_
 intro w0 Q hQ
 unfold pt at h
 exact T_su [(0,vi x)]<| ar 0<| T_ed 1 [] []<| ar 1<| T_nr 4 [2] [.bool (x !=x)] hQ h
end cmp_isNaN_int

/-! (*moraine/card.Cards).Dirty -/
namespace cR
def K0:=Func.code Tryz.f77
def K2:=cb K0
def K4:=cb K2
def K12:=cb K4
def K14:=cb K12
def K27:=cb K14
def K28:=ca K27
def K29:=cb K27
def K31:=cb K28
def K32:=ca K31
def K33:=ca K32
def K34:=cb K32
def K36:=ca K29
end cR
def cR.pt(c:zW)(d a:Int)(H:zV)(R:zv):Prop:=
 ∀(b:Nat) (H1:zV),b=H.size->H1=H.push (.cells #[.pointer c] 33)->
 ∃x:zW,hat H1 (ad b)=some (.pointer x)/\
 cP.C x H1 (λv H2=> ∃aj:Bool,v=.bool aj/\
 if aj=true then(
 R (.int .i64 19) H2)
 else
 ∃au:zW,hat H2 (ad b)=some (.pointer au)/\
 ∃aq:Addr,au=some aq/\
 ∃ap:zW,hat H2 aq=some (.pointer ap)/\
 ∃ao:Addr,ap=some ao/\
 ∃an:zW,hat H2 ao=some (.pointer an)/\
 cE.C an d H2 (λa4 H3=> ∃(t q ag l j i k:Int) (rb:Bool),a4=.tuple #[.agg #[.int .i64 t,.int .i64 q,.int .i64 ag,.int .i64 l,.int .i64 j,.int .i64 i,.int .i64 k],.bool rb]/\
 ∀(f:Nat) (H4:zV),f=H3.size->H4=H3.push (.cells #[.int .i64 0,.int .i64 0,.int .i64 0,.int .i64 0,.int .i64 0,.int .i64 0,.int .i64 0] 89)->
 (aK H4 (ad f) 0 7)/\ ∀H5,H5=aU H4 (ad f) [.int .i64 t,.int .i64 q,.int .i64 ag,.int .i64 l,.int .i64 j,.int .i64 i,.int .i64 k] 0->
 if rb=true then(
 if((decide (a<0)) || (decide (a>=4)))=true then(
 R (.int .i64 1) H5)
 else
 ∀(e:Nat) (H6:zV),e=H5.size->H6=H5.push (.cells #[.int .i64 0] 3)->
 (aK H6 (ad e) 0 1)/\ ∀H7,H7=aU H6 (ad e) [.int .i64 5] 0->
 ∃al:zW,hat H7 (ad b)=some (.pointer al)/\
 cZ.C al d a H7 (λak H8=>ak=ak/\
 ∀(rc:LoopState->Option Code->Obj) (lp:Nat) (H9:zV),lp=H8.size+1->H9=(H8.push (.deferred (some []))).push (rc .ready none)->
 ∀vY:Value,(∀(ab:Int) (H10:zV) (vRy:zv),H10[lp]?=some (rc .ready none)->
 (H10[lp]?=some (rc .ready none)/\ ∀am:zV,am=aF H10 lp (rc .busy none)->
 ∃af:zW,hat am (ad b)=some (.pointer af)/\
 ∃aa u xN n m p o:Int,aS am (ad f) 0 [.int .i64 aa,.int .i64 u,.int .i64 xN,.int .i64 n,.int .i64 m,.int .i64 p,.int .i64 o]/\
 ∃ah:Int,hat am (ad e)=some (.int .i64 ah)/\
 bX.C af aa u xN n m p o ab ah am (λa3 ay=> ∃ae:Int,a3=.int .i64 ae/\
 (aK ay (ad e) 0 1)/\ ∀av,av=aU ay (ad e) [.int .i64 ae] 0->
 av[lp]?=some (rc .busy none)/\
 vRy (.bool true) (aF av lp (rc .ready none))))->
 FC Tryz.prog vY #[.int .u64 ab] H10 vRy)->
 FE Tryz.prog ak #[vY] H9 (λ_ az=>
 (az[lp]?=some (rc .ready none)/\ ∀ai:zV,ai=aF az lp (rc .exhausted none)->
 ∃aw:zW,hat ai (ad b)=some (.pointer aw)/\
 ∃s:Addr,aw=some s/\
 ∃ax:zW,hat ai s=some (.pointer ax)/\
 ∃r:Addr,ax=some r/\
 ∃y:zW,hat ai r=some (.pointer y)/\
 ∃ac:Int,hat ai (ad e)=some (.int .i64 ac)/\
 eQ.C y d a ac ai (λa0 a2=> ∃z:Int,a0=.int .i64 z/\
 Shut (H8.size::[]) a2 (λa1=>
 R (.int .i64 z) a1))))))
 else
 R (.int .i64 19) H5))
namespace cR
theorem link{c:zW}{d a:Int}{H:zV}{R:zv}(h:pt c d a H R):C c d a H R:=by
 refine T_en K0 56 Tryz.func77 ?_
 intro w0 Q hQ
 unfold pt at h
 refine T_su [(0,vp c),(1,vi d),(2,vi a)]<| ar 0<| T_nw (some 3) (λb=>vp (pa b)) (.cells #[vp c] 33) ?_
 intro b H1 e1 e2
 replace h:=h b H1 e1 e2
 refine T_pd [0] [(3,vp (pa b))]<| T_ed 1 [] []<| T_sz<| ar 1 ?_
 obtain⟨x,q3,h⟩:=h
 refine T_l1 11 33 q3 []<| T_c (some 12) h ?_;clear h
 rintro v H2 ⟨aj,rfl,h⟩
 refine T_pd [11] [(12,.bool aj)]<| T_e ?_
 by_cases c4:aj=true
 ·rw[if_pos c4]at h
  exact aL 12 c4<| ar 2<| T_nr 1 [6] [vi 19] hQ h
 rw[if_neg c4]at h
 refine aM 12 (zZ c4)<| T_kt<| ar 3<| T_ud [12] [] ?_
 obtain⟨au,q6,h⟩:=h
 refine T_l1 14 33 q6 [] ?_
 obtain⟨aq,rfl,h⟩:=h
 refine T_nd 2 [14] [(16,vp (some aq))] ?_
 obtain⟨ap,q7,h⟩:=h
 refine T_l1 17 42 q7 [16] ?_
 obtain⟨ao,rfl,h⟩:=h
 refine T_nd 2 [17] [(19,vp (some ao))] ?_
 obtain⟨an,q8,h⟩:=h
 refine T_l1 20 70 q8 [19]<| T_nd 1 [] [(21,vi d)]<| T_c (some 22) h ?_;clear h
 rintro a4 H3 ⟨t,q,ag,l,j,i,k,rb,rfl,h⟩
 refine T_pd [20,21] [(22,.tuple #[.agg #[vi t,vi q,vi ag,vi l,vi j,vi i,vi k],.bool rb])]<| T_nd 3 [22] [(23,.agg #[vi t,vi q,vi ag,vi l,vi j,vi i,vi k]),(24,.bool rb)]<| T_nw (some 7) (λb=>vp (pa b)) (.cells #[vi 0,vi 0,vi 0,vi 0,vi 0,vi 0,vi 0] 89) ?_
 intro f H4 e9 e10
 replace h:=h f H4 e9 e10
 refine T_pd [] [(7,vp (pa f))] ?_
 obtain⟨q12,h⟩:=h
 refine jP 89 [vi t,vi q,vi ag,vi l,vi j,vi i,vi k] q12 ?_
 intro H5 e11
 replace h:=h H5 e11
 refine T_pd [23] []<| T_ed 1 [24] [(8,.bool rb)]<| T_sz<| T_bz 0<| ar 4<| T_ed 3 [8] [(25,.bool (!rb))] ?_
 by_cases c13:rb=true
 ·rw[if_pos c13]at h
  refine aM 25 (congrArg Bool.not (c13))<| ar 6 ?_
  refine iH [(1,vi d),(2,vi a),(3,vp (pa b)),(7,vp (pa f)),(28,.bool ((decide (a<0)) || (decide (a>=4))))] ?_ ?_
  ·refine aE ?_
   by_cases c17:((decide (a<0)) || (decide (a>=4)))=true
   ·rw[if_pos c17]at h
    exact aL 28 c17<| ar 7<| T_nr 1 [6] [vi 1] hQ h
   rw[if_neg c17]at h
   refine aM 28 (zZ c17)<| T_k<| aA<| aE<| ar 8<| T_nu [(1,vi d),(2,vi a),(3,vp (pa b)),(7,vp (pa f))]<| T_nw (some 9) (λb=>vp (pa b)) (.cells #[vi 0] 3) ?_
   intro e H6 e19 e20
   replace h:=h e H6 e19 e20
   refine T_pd [] [(9,vp (pa e))] ?_
   obtain⟨q22,h⟩:=h
   refine fB 3 (vi 5) q22 ?_
   intro H7 e21
   replace h:=h H7 e21
   refine T_pd [] []<| T_e<| T_sz<| ar 9 ?_
   obtain⟨al,q23,h⟩:=h
   refine T_l1 35 33 q23 []<| T_nd 2 [] [(36,vi d),(37,vi a)]<| T_c (some 38) h ?_;clear h
   rintro ak H8 ⟨-,h⟩
   refine T_pd [35,36,37] [(38,ak)]<| T_e<| T_bz 1<| iO (g:=.tmp 38) (ps:= #[39]) (assign:=K33) (body:=K34) (ak) (by kernel_rfl) (by kernel_rfl) (by kernel_rfl) ?_
   intro rc lp H9 r24 e25 e26 y27
   refine FE.mono (h rc lp H9 e25 e26 (.func (.yield lp) #[] #[]) ?_) ?_
   ·clear h
    intro ab H10 vRy q28 h
    refine y27 #[vu ab] H10 vRy (by kernel_rfl) q28 (λw1x=>?_)
    refine T_sd [] [(39,vu ab)]<| T_rz 10<| T_nd 1 [1,2,38,39] [(10,vu ab)]<| zq ?_
    obtain⟨q30,h⟩:=h
    refine aE<| iN r24 q30 ?_
    intro am e29
    replace h:=h am e29
    refine T_bz 2<| T_rz 11 ?_
    obtain⟨af,q31,h⟩:=h
    refine T_l1 40 33 q31 [3] ?_
    obtain⟨aa,u,xN,n,m,p,o,q32,h⟩:=h
    refine T_lr 41 89 q32 [7]<| T_nd 1 [10] [(42,vu ab)] ?_
    obtain⟨ah,q33,h⟩:=h
    refine T_l1 43 3 q33 []<| T_c (some 44) h ?_;clear h
    rintro a3 ay ⟨ae,rfl,h⟩
    refine⟨[(9,vp (pa e)),(44,vi ae)],pk,?_⟩
    obtain⟨q35,h⟩:=h
    refine fB 3 (vi ae) q35 ?_
    intro av e34
    replace h:=h av e34
    refine⟨[],pk,?_⟩
    refine zq<| aA ?_
    obtain⟨q36,h⟩:=h
    exact bG r24 q36 h
   clear h y27
   rintro _ az (⟨q37,h⟩)
   refine .inl ⟨q37,λai e42=>?_⟩
   replace h:=h ai e42
   refine gR (H8.size::[]) rfl ?_
   refine T_sd [7,38] []<| aA<| aE<| T_sz ?_
   obtain⟨aw,q38,s,rfl,ax,q39,r,rfl,y,q40,ac,q41,h⟩:=h
   refine yq 12 (Code.ops K36) [(10,(ad b),[vp (some s)]),(10,s,[vp (some r)]),(10,r,[vp y]),(10,(ad e),[vi ac])] 12 (bv 12 0) (show aJ _ _ _ from⟨⟨q38,trivial⟩,⟨q39,trivial⟩,⟨q40,trivial⟩,⟨q41,trivial⟩,trivial⟩)<| T_g 0 (some 45) (vp (some s)) (bv 12 1) [(1,vi d),(2,vi a),(9,vp (pa e)),(45,vp (some s))] (bH 33 (vp (pa b))) (yY 10 yX)<| bM 1 46 (vp (some s)) (bv 12 3) [45]<| bM 2 47 (vp (some s)) (bv 12 7) [46]<| T_g1 3 48 (vp (some r)) (bv 12 15) [47] (bH 42 (vp (some s))) (yY 10 yQ)<| bM 4 49 (vp (some r)) (bv 12 31) [48]<| bM 5 50 (vp (some r)) (bv 12 63) [49]<| T_g1 6 51 (vp y) (bv 12 127) [50] (bH 70 (vp (some r))) (yY 10 yJ)<| bM 7 52 (vi d) (bv 12 255) [1]<| bM 8 53 (vi a) (bv 12 511) [2]<| T_g1 9 54 (vi ac) (bv 12 1023) [9] (bH 3 (vp (pa e))) (yY 10 yK)<| yx 10 (some 55) (bv 12 2047) 119 #[vp y,vi d,vi a,vi ac] h ?_;clear h
   rintro a0 a2 ⟨z,rfl,h⟩
   refine⟨[(55,vi z)],pk,(show aJ _ _ _ from⟨trivial,trivial,trivial,trivial,trivial⟩),?_⟩
   refine T_g 11 (some 6) (vi z) (bv 12 4095) [(6,vi z)] (pure (.value (vi z)):Sem Next) (λ_ _ _ _ _=>rfl)<| gT [(6,vi z)] sk<| yz<| aE<| zx ?_
   show At _ _ _ _ _ (Q .ret)
   refine iI (fn:=Tryz.f77) (H8.size::[]) hQ (Shut.mono (λa1 h=>?_) h)
   exact⟨[vi z],(show dF _ _ _ [.tmp 6] _ from .tmp (by kernel_rfl) (.nil)),h⟩
  intro hk
  refine T_n 3 [(1,vi d),(2,vi a),(3,vp (pa b)),(7,vp (pa f)),(31,.bool (decide (a<0)))] ?_
  by_cases c15:a<0
  ·have b16:(decide (a<0))=true:=zX c15
   refine dN [(1,vi d),(2,vi a),(3,vp (pa b)),(7,vp (pa f)),(31,.bool true)] (by rw[b16]) ?_
   refine T_nd 4 [31] [(28,.bool true)]<| zq<| S_bd 28 (b:=true) (v:=((decide (a<0)) || (decide (a>=4)))) (by simp only[b16,BL]) ?_
   exact hk
  have b16:(decide (a<0))=false:=zQ c15
  refine dN [(1,vi d),(2,vi a),(3,vp (pa b)),(7,vp (pa f)),(31,.bool false)] (by rw[b16]) ?_
  refine T_nd 4 [31] [(28,.bool (decide (a>=4)))]<| zq<| S_bd 28 (b:=(decide (a>=4))) (v:=((decide (a<0)) || (decide (a>=4)))) (by simp only[b16,BL]) ?_
  exact hk
 rw[if_neg c13]at h
 exact aL 25 (congrArg Bool.not (zZ c13))<| ar 5<| T_nr 1 [6] [vi 19] hQ h
end cR

/-! (*moraine/card.Cards).Copy -/
namespace cX
def K0:=Func.code Tryz.f104
end cX
def cX.pt(c:zW)(H:zV)(R:zv):Prop:=
 eY c (
 R (.pointer none) H) (λcA=>
 ∃x:zW,hat H cA=some (.pointer x)/\
 cT.C x H (λv H1=> ∃a:zW,v=.pointer a/\
 ∀(b:Nat) (H2:zV),b=H1.size->H2=H1.push (.cells #[.pointer a] 44)->
 R (.pointer (some (ad b))) H2))
namespace cX
theorem link{c:zW}{H:zV}{R:zv}(h:pt c H R):C c H R:=by
 refine T_en K0 12 Tryz.func104 ?_
 intro w0 Q hQ
 unfold pt at h
 refine T_su [(0,vp c)]<| ar 0<| T_ed 1 [] []<| T_sz<| ar 1<| T_nd 1 [] [(3,vp c)] ?_
 rcases c with _ | cA
 ·rw[onPtr_none]at h
  exact T_ne 1 [(0,vp none),(4,.bool true)]<| T_tz 4<| ar 2<| T_nr 1 [2] [vp none] hQ h
 rw[onPtr_some]at h
 refine T_ne 1 [(0,vp (some cA)),(4,.bool false)]<| T_fz 4<| T_kt<| ar 3<| T_n 3 [(7,vp (some cA))] ?_
 obtain⟨x,q1,h⟩:=h
 refine T_l1 8 42 q1 [7]<| T_c (some 9) h ?_;clear h
 rintro v H1 ⟨a,rfl,h⟩
 refine⟨[(9,vp a)],pk,?_⟩
 refine T_n 1 [(10,.agg #[vp a])]<| T_nw (some 11) (λb=>vp (pa b)) (.cells #[vp a] 44) ?_
 intro b H2 e2 e3
 replace h:=h b H2 e2 e3
 refine⟨[(11,vp (pa b))],pk,?_⟩
 exact T_nr 1 [2] [vp (pa b)] hQ h
end cX

/-! (*moraine/card.Cards).words -/
namespace cZ
def K0:=Func.code Tryz.f117
end cZ
def cZ.pt(c:zW)(f a:Int)(H:zV)(R:zv):Prop:=
 ∀(b:Nat) (H1:zV),b=H.size->H1=H.push (.cells #[.pointer c] 33)->
 ∀(d:Nat) (H2:zV),d=H1.size->H2=H1.push (.cells #[.int .i64 f] 3)->
 ∀(e:Nat) (H3:zV),e=H2.size->H3=H2.push (.cells #[.int .i64 a] 3)->
 R (.func (.func 147) #[] #[.pointer (some (ad b)),.pointer (some (ad d)),.pointer (some (ad e))]) H3
namespace cZ
theorem link{c:zW}{f a:Int}{H:zV}{R:zv}(h:pt c f a H R):C c f a H R:=by
 refine T_en K0 8 Tryz.func117 ?_
 intro w0 Q hQ
 unfold pt at h
 refine T_su [(0,vp c),(1,vi f),(2,vi a)]<| ar 0<| T_nw (some 3) (λb=>vp (pa b)) (.cells #[vp c] 33) ?_
 intro b H1 e1 e2
 replace h:=h b H1 e1 e2
 refine T_pd [0] [(3,vp (pa b))]<| T_nw (some 4) (λb=>vp (pa b)) (.cells #[vi f] 3) ?_
 intro d H2 e3 e4
 replace h:=h d H2 e3 e4
 refine T_pd [1] [(4,vp (pa d))]<| T_nw (some 5) (λb=>vp (pa b)) (.cells #[vi a] 3) ?_
 intro e H3 e5 e6
 replace h:=h e H3 e5 e6
 exact T_pd [2] [(5,vp (pa e))]<| T_ed 1 [] []<| ar 1<| T_nr 2 [6] [.func (.func 147) #[] #[vp (pa b),vp (pa d),vp (pa e)]] hQ h
end cZ

/-! (*moraine/card.Cards).words.1 -/
namespace cL
def K0:=Func.code Tryz.f147
def K2:=cb K0
def K3:=ca K2
def K4:=ca K3
def K6:=cb K4
def K8:=cb K6
def K11:=ca K8
def K13:=ca K11
def K15:=cb K13
def K16:=ca K15
end cL
def cL.pt(a:Value)(k j i:zW)(H:zV)(R:zv):Prop:=
 ∃(I5:zw) (m5:Int->zV->Nat),I5 0 H/\ ∀(s8:Int) (H1:zV),I5 s8 H1->
 if s8<16 then(
 ∃e:Addr,k=some e/\
 ∃x:zW,hat H1 e=some (.pointer x)/\
 ∃xA:Addr,x=some xA/\
 ∃o:zW,hat H1 xA=some (.pointer o)/\
 ∃l:Addr,o=some l/\
 ∃m:zW,hat H1 l=some (.pointer m)/\
 ∃d:Addr,j=some d/\
 ∃f:Int,hat H1 d=some (.int .i64 f)/\
 ∃b:Addr,i=some b/\
 ∃g:Int,hat H1 b=some (.int .i64 g)/\
 cS.C m (zY ((zY ((zY (f*64))+(zY (g*16))))+s8)) H1 (λv H2=> ∃ra rb:Int,v=.tuple #[.int .u64 ra,.int .i64 rb]/\
 if rb=0 then(
 FC Tryz.prog a #[.int .u64 ra] H2 (λp H3=> ∃n:Bool,p=.bool n/\
 if n=true then(
 (I5 (zY (s8+1)) H3/\m5 (zY (s8+1)) H3<m5 s8 H1))
 else
 R (.tuple #[]) H3))
 else
 R (.tuple #[]) H2))
 else
 R (.tuple #[]) H1
namespace cL
theorem link{a:Value}{k j i:zW}{H:zV}{R:zv}(h:pt a k j i H R):C a k j i H R:=by
 refine T_en K0 38 Tryz.func147 ?_
 intro w0 Q hQ
 unfold pt zY at h
 refine T_su [(0,a),(1,vp k),(2,vp j),(3,vp i)]<| ar 0<| T_ed 1 [] [(8,vi 0)]<| T_bz 0 ?_
 obtain⟨I5,m5,i1,i2⟩:=h
 refine dE (x:=K4) (σ:=Int) (λs_=> [(0,a),(1,vp k),(2,vp j),(3,vp i),(8,vi s_)]) (λs_ H=>I5 s_ H) (λs_ H=>m5 s_ H) (0:Int) (by kernel_rfl) i1 sk ?_
 rintro s8 H1 i3
 have h:=i2 s8 H1 i3
 refine T_su [(0,a),(1,vp k),(2,vp j),(3,vp i),(8,vi s8)]<| ar 1<| T_ed 1 [] [(9,.bool (decide (s8<16)))]<| T_sz ?_
 by_cases c4:s8<16
 ·rw[if_pos c4]at h
  refine aL 9 (zX c4)<| T_kt<| T_sz<| T_bz 1<| ar 2<| T_ed 2 [9] [(5,vi s8)]<| T_sz ?_
  obtain⟨e,rfl,x,q6,xA,rfl,o,q7,l,rfl,m,q8,d,rfl,f,q9,b,rfl,g,q10,h⟩:=h
  refine yq 3 (Code.ops K16) [(14,e,[vp (some xA)]),(14,xA,[vp (some l)]),(14,l,[vp m]),(14,d,[vi f]),(14,b,[vi g])] 20 (bv 20 0) (show aJ _ _ _ from⟨⟨q6,trivial⟩,⟨q7,trivial⟩,⟨q8,trivial⟩,⟨q9,trivial⟩,⟨q10,trivial⟩,trivial⟩)<| T_g 0 (some 12) (vp (some xA)) (bv 20 1) [(0,a),(1,vp (some e)),(2,vp (some d)),(3,vp (some b)),(5,vi s8),(8,vi s8),(12,vp (some xA))] (bH 33 (vp (some e))) (yY 14 yX)<| bM 1 13 (vp (some xA)) (bv 20 3) [12]<| bM 2 14 (vp (some xA)) (bv 20 7) [13]<| T_g1 3 15 (vp (some l)) (bv 20 15) [14] (bH 42 (vp (some xA))) (yY 14 yQ)<| bM 4 16 (vp (some l)) (bv 20 31) [15]<| bM 5 17 (vp (some l)) (bv 20 63) [16]<| T_g1 6 18 (vp m) (bv 20 127) [17] (bH 70 (vp (some l))) (yY 14 yJ)<| T_g1 7 19 (vi f) (bv 20 255) [] (bH 3 (vp (some d))) (yY 14 yK)<| bM 8 20 (vi (zY (f*64))) (bv 20 511) [19]<| T_g1 9 21 (vi g) (bv 20 1023) [] (bH 3 (vp (some b))) (yY 14 yV)<| bM 10 22 (vi (zY (g*16))) (bv 20 2047) [21]<| bM 11 23 (vi (zY ((zY (f*64))+(zY (g*16))))) (bv 20 4095) [20,22]<| bM 12 24 (vi s8) (bv 20 8191) [5]<| bM 13 25 (vi (zY ((zY ((zY (f*64))+(zY (g*16))))+s8))) (bv 20 16383) [23,24]<| yx 14 (some 26) (bv 20 32767) 82 #[vp m,vi (zY ((zY ((zY (f*64))+(zY (g*16))))+s8))] h ?_;clear h
  rintro v H2 ⟨ra,rb,rfl,h⟩
  refine⟨[(0,a),(1,vp (some e)),(2,vp (some d)),(3,vp (some b)),(8,vi s8),(26,.tuple #[vu ra,vi rb])],pk,(show aJ _ _ _ from⟨trivial,trivial,trivial,trivial,trivial,trivial⟩),?_⟩
  refine T_g 15 (some 11) (.tuple #[vu ra,vi rb]) (bv 20 65535) [(0,a),(1,vp (some e)),(2,vp (some d)),(3,vp (some b)),(8,vi s8),(11,.tuple #[vu ra,vi rb])] (pure (.value (.tuple #[vu ra,vi rb])):Sem Next) (λ_ _ _ _ _=>rfl)<| T_g1 16 27 (vu ra) (bv 20 131071) [] (pure (.value (vu ra)):Sem Next) (λ_ _ _ _ _=>rfl)<| T_g1 17 28 (vi rb) (bv 20 262143) [11] (pure (.value (vi rb)):Sem Next) (λ_ _ _ _ _=>rfl)<| T_g1 18 6 (vu ra) (bv 20 524287) [27] (pure (.value (vu ra)):Sem Next) (λ_ _ _ _ _=>rfl)<| T_g1 19 7 (vi rb) (bv 20 1048575) [28] (pure (.value (vi rb)):Sem Next) (λ_ _ _ _ _=>rfl)<| gT [(0,a),(1,vp (some e)),(2,vp (some d)),(3,vp (some b)),(6,vu ra),(7,vi rb),(8,vi s8)] sk<| yz<| aE<| ar 4<| T_n 3 [(0,a),(1,vp (some e)),(2,vp (some d)),(3,vp (some b)),(6,vu ra),(8,vi s8),(31,.bool (rb !=0))] ?_
  by_cases c11:rb=0
  ·rw[if_pos c11]at h
   have b12:(rb !=0)=false:=bne_eq_false_iff_eq.mpr c11
   refine dN [(0,a),(1,vp (some e)),(2,vp (some d)),(3,vp (some b)),(6,vu ra),(8,vi s8),(31,.bool false)] (by rw[b12]) ?_
   clear b12
   refine T_nd 2 [6] [(32,a),(33,vu ra)]<| jy (some 34) a #[vu ra] (λ_=>by kernel_rfl) h ?_;clear h
   rintro p H3 ⟨n,rfl,h⟩
   refine T_pd [32,33] [(34,.bool n)]<| T_ed 2 [31,34] [(36,.bool (!n))] ?_
   by_cases c13:n=true
   ·rw[if_pos c13]at h
    exact aM 36 (congrArg Bool.not (c13))<| T_k<| aA<| aE<| T_rz 5<| T_ed 2 [8,36] [(8,vi (zY (s8+1)))]<| bK ((zY (s8+1)):Int) sk h
   rw[if_neg c13]at h
   exact aL 36 (congrArg Bool.not (zZ c13))<| gP [] [] hQ h
  rw[if_neg c11]at h
  have b12:(rb !=0)=true:=bne_iff_ne.mpr c11
  refine dN [(0,a),(1,vp (some e)),(2,vp (some d)),(3,vp (some b)),(6,vu ra),(8,vi s8),(31,.bool true)] (by rw[b12]) ?_
  clear b12
  exact T_ed 5 [6,31] [(36,.bool true)]<| T_tz 36<| gP [] [] hQ h
 rw[if_neg c4]at h
 exact aM 9 (zQ c4)<| zk 0<| aD<| aD<| aQ<| iJ (fn:=Tryz.f147) [] hQ (show dF _ _ _ [] _ from .nil) h
end cL

/-! moraine/morainelaw14.awake -/
namespace aY
def K0:=Func.code Tryz.f8
end aY
def aY.pt(H:zV)(R:zv):Prop:=
 iP.C 8 H (λv H1=> ∃(ra:zW) (rb:Int),v=.tuple #[.pointer ra,.int .i64 rb]/\
 if rb=0 then(
 eY ra (
 R (.bool false) H1) (λj=>
 dU.C (some j) 8 20 H1 (λa2 H2=> ∃n aq:Int,a2=.tuple #[.int .u64 n,.int .i64 aq]/\
 dV.C (some j) n 20 H2 (λax H3=> ∃g ap:Int,ax=.tuple #[.int .u64 g,.int .i64 ap]/\
 dW.C (some j) H3 (λa1 H4=> ∃(xB:zW) (xN xC:Nat),a1=.slice xB xN xC/\
 ∀(b:Nat) (H5:zV),b=H4.size->H5=H4.push (.cells #[.int .u64 n,.int .u64 g] 40)->
 eX.C (some j) (some (ad b)) 2 2 H5 (λay H6=> ∃p o:Int,ay=.tuple #[.int .i64 p,.int .i64 o]/\
 ∀(ai:Nat) (H7:zV),ai=H6.size->H7=H6.push (.cells #[.int .u64 g] 40)->
 dT.C (some j) (some (ad ai)) 1 1 H7 (λaz H8=> ∃(m:zW) (d l:Nat),az=.slice m d l/\
 ∃x:zW,hat H8 j=some (.pointer x)/\
 ∃xA:Addr,x=some xA/\
 ∃ao:zW,hat H8 xA=some (.pointer ao)/\
 ∃an:Addr,ao=some an/\
 ∃aj:zW,hat H8 an=some (.pointer aj)/\
 dB.C aj 0 17 H8 (λau H9=> ∃aw:Int,au=.int .i64 aw/\
 eX.C (some j) none 0 0 H9 (λa0 z=> ∃e f:Int,a0=.tuple #[.int .i64 e,.int .i64 f]/\
 if(xN:Int)=2 then(
 ∃r:Addr,xB=some r/\
 yZ 0 xN/\
 ∃ac:Int,hat z (r.add (Int.toNat 0*1))=some (.int .u64 ac)/\
 if ac=n then(
 yZ 1 xN/\
 ∃ab:Int,hat z (r.add (Int.toNat 1*1))=some (.int .u64 ab)/\
 if ab=g then(
 if p=0 then(
 if o=0 then(
 ∀(ak:Nat) (H11:zV),ak=z.size->H11=z.push (.cells #[.int .u64 g] 40)->
 fU.C (some j) (some (ad ak)) 1 1 H11 (λav af=> ∃ag:Int,av=.int .i64 ag/\
 if ag=2 then(
 if(d:Int)=2 then(
 ∃q:Addr,m=some q/\
 yZ 1 d/\
 ∃(am:zW) (u al:Nat),hat af ((q.add (Int.toNat 1*5)).add 4)=some (.slice am u al)/\
 if(u:Int)=2 then(
 yZ 1 d/\
 ∃(ah:zW) (aa ae:Nat),hat af ((q.add (Int.toNat 1*5)).add 4)=some (.slice ah aa ae)/\
 ∃y:Addr,ah=some y/\
 yZ 0 aa/\
 ∃s:Int,hat af (y.add (Int.toNat 0*1))=some (.int .i64 s)/\
 R (.bool (((s==(-1)) && (e==0)) && (f==18))) af)
 else
 R (.bool false) af)
 else
 R (.bool false) af)
 else
 R (.bool false) af))
 else
 R (.bool false) z)
 else
 R (.bool false) z)
 else
 R (.bool false) z)
 else
 R (.bool false) z)
 else
 R (.bool false) z)))))))))
 else
 R (.bool false) H1)
namespace aY
set_option maxRecDepth 100000 in
theorem link{H:zV}{R:zv}(h:pt H R):C H R:=by
 refine T_en K0 126 Tryz.func8 ?_
 intro w0 Q hQ
 unfold pt at h
 refine T_su []<| ar 0<| T_ne 1 []<| ar 1<| T_c (some 14) h ?_;clear h
 rintro v H1 ⟨ra,rb,rfl,h⟩
 refine⟨[(14,.tuple #[vp ra,vi rb])],pk,?_⟩
 refine T_ne 5 [(1,vp ra),(2,vi rb)]<| T_sz<| ar 2<| T_nd 3 [2] [(19,.bool (rb !=0))] ?_
 by_cases c1:rb=0
 ·rw[if_pos c1]at h
  refine N_bd 19 (bne_eq_false_iff_eq.mpr c1)<| T_nd 1 [] [(20,vp ra)] ?_
  rcases ra with _ | j
  ·rw[onPtr_none]at h
   exact T_ne 2 [(1,vp none),(22,.bool true)]<| T_tz 22<| ar 3<| T_nr 1 [0] [.bool false] hQ h
  rw[onPtr_some]at h
  refine T_ne 2 [(1,vp (some j)),(22,.bool false)]<| T_fz 22<| T_kt<| ar 4<| T_nd 1 [22] [(24,vp (some j))]<| T_c (some 25) h ?_;clear h
  rintro a2 H2 ⟨n,aq,rfl,h⟩
  refine T_pd [24] [(25,.tuple #[vu n,vi aq])]<| T_ed 5 [25] [(3,vu n)]<| ar 5<| T_nd 2 [] [(29,vp (some j)),(30,vu n)]<| T_c (some 31) h ?_;clear h
  rintro ax H3 ⟨g,ap,rfl,h⟩
  refine T_pd [29,30] [(31,.tuple #[vu g,vi ap])]<| T_ed 5 [31] [(5,vu g)]<| ar 6<| T_nd 1 [] [(34,vp (some j))]<| T_c (some 35) h ?_;clear h
  rintro a1 H4 ⟨xB,xN,xC,rfl,h⟩
  refine T_pd [34] [(35,vs xB xN xC)]<| T_ed 1 [35] [(7,vs xB xN xC)]<| ar 7<| T_nd 3 [] [(37,vp (some j)),(38,vu n),(39,vu g)]<| T_nw (some 40) (λb=>vs (pa b) 2 2) (.cells #[vu n,vu g] 40) ?_
  intro b H5 e3 e4
  replace h:=h b H5 e3 e4
  refine T_pd [38,39] [(40,vs (pa b) 2 2)]<| T_c (some 41) h ?_;clear h
  rintro ay H6 ⟨p,o,rfl,h⟩
  refine T_pd [37,40] [(41,.tuple #[vi p,vi o])]<| T_ed 5 [41] [(8,vi p),(9,vi o)]<| ar 8<| T_nd 2 [] [(44,vp (some j)),(45,vu g)]<| T_nw (some 46) (λb=>vs (pa b) 1 1) (.cells #[vu g] 40) ?_
  intro ai H7 e5 e6
  replace h:=h ai H7 e5 e6
  refine T_pd [45] [(46,vs (pa ai) 1 1)]<| T_c (some 47) h ?_;clear h
  rintro az H8 ⟨m,d,l,rfl,h⟩
  refine T_pd [44,46] [(47,vs m d l)]<| T_ed 1 [47] [(10,vs m d l)]<| ar 9<| T_nd 3 [] [(50,vp (some j))] ?_
  obtain⟨x,q7,h⟩:=h
  refine T_l1 51 33 q7 [50] ?_
  obtain⟨xA,rfl,h⟩:=h
  refine T_nd 2 [51] [(53,vp (some xA))] ?_
  obtain⟨ao,q8,h⟩:=h
  refine T_l1 54 42 q8 [53] ?_
  obtain⟨an,rfl,h⟩:=h
  refine T_nd 2 [54] [(56,vp (some an))] ?_
  obtain⟨aj,q9,h⟩:=h
  refine T_l1 57 70 q9 [56]<| T_c (some 58) h ?_;clear h
  rintro au H9 ⟨aw,rfl,h⟩
  refine T_pd [57] []<| T_e<| ar 10<| T_nd 1 [] [(60,vp (some j))]<| T_c (some 61) h ?_;clear h
  rintro a0 z ⟨e,f,rfl,h⟩
  refine T_pd [60] [(61,.tuple #[vi e,vi f])]<| T_ed 5 [61] [(11,vi e),(12,vi f)]<| ar 11<| T_nd 4 [] [(67,.bool ((xN:Int)==2))] ?_
  by_cases c10:(xN:Int)=2
  ·rw[if_pos c10]at h
   refine N_bd 67 (zK c10)<| T_nd 1 [] [(68,vs xB xN xC)] ?_
   obtain⟨r,rfl,q12,h⟩:=h
   refine T_xd (some 69) 29 40 1 r xN xC .i64 0 Tryz.underlying29 q12.1 q12.2 [7,68] [(7,vs (some r) xN xC),(69,vp (some (r.add (Int.toNat 0*1))))] ?_
   obtain⟨ac,q13,h⟩:=h
   refine T_l1 70 40 q13 [69]<| T_nd 4 [3,67,70] [(74,.bool (ac==n))] ?_
   by_cases c14:ac=n
   ·rw[if_pos c14]at h
    refine N_bd 74 (zK c14)<| T_nd 1 [7] [(75,vs (some r) xN xC)] ?_
    obtain⟨q16,h⟩:=h
    refine T_xd (some 76) 29 40 1 r xN xC .i64 1 Tryz.underlying29 q16.1 q16.2 [75] [(76,vp (some (r.add (Int.toNat 1*1))))] ?_
    obtain⟨ab,q17,h⟩:=h
    refine T_l1 77 40 q17 [76]<| T_nd 4 [74,77] [(81,.bool (ab==g))] ?_
    by_cases c18:ab=g
    ·rw[if_pos c18]at h
     refine N_bd 81 (zK c18)<| T_nd 4 [8,81] [(85,.bool (p==0))] ?_
     by_cases c20:p=0
     ·rw[if_pos c20]at h
      refine N_bd 85 (zK c20)<| T_nd 4 [9,85] [(89,.bool (o==0))] ?_
      by_cases c22:o=0
      ·rw[if_pos c22]at h
       refine N_bd 89 (zK c22)<| T_nd 2 [1,5] [(90,vp (some j)),(91,vu g)]<| T_nw (some 92) (λb=>vs (pa b) 1 1) (.cells #[vu g] 40) ?_
       intro ak H11 e24 e25
       replace h:=h ak H11 e24 e25
       refine T_pd [91] [(92,vs (pa ak) 1 1)]<| T_c (some 93) h ?_;clear h
       rintro av af ⟨ag,rfl,h⟩
       refine T_pd [90,92] [(93,vi ag)]<| T_nd 3 [89,93] [(96,.bool (ag==2))] ?_
       by_cases c26:ag=2
       ·rw[if_pos c26]at h
        refine N_bd 96 (zK c26)<| T_nd 5 [96] [(101,.bool ((d:Int)==2))] ?_
        by_cases c28:(d:Int)=2
        ·rw[if_pos c28]at h
         refine N_bd 101 (zK c28)<| T_nd 1 [] [(102,vs m d l)] ?_
         obtain⟨q,rfl,q30,h⟩:=h
         refine T_xd (some 103) 22 61 5 q d l .i64 1 Tryz.underlying22 q30.1 q30.2 [10,102] [(10,vs (some q) d l),(103,vp (some (q.add (Int.toNat 1*5))))]<| T_nd 1 [103] [(104,vp (some ((q.add (Int.toNat 1*5)).add 4)))] ?_
         obtain⟨am,u,al,q31,h⟩:=h
         refine T_l1 105 59 q31 [104]<| T_nd 4 [101,105] [(109,.bool ((u:Int)==2))] ?_
         by_cases c32:(u:Int)=2
         ·rw[if_pos c32]at h
          refine N_bd 109 (zK c32)<| T_nd 1 [10] [(110,vs (some q) d l)] ?_
          obtain⟨q34,h⟩:=h
          refine T_xd (some 111) 22 61 5 q d l .i64 1 Tryz.underlying22 q34.1 q34.2 [110] [(111,vp (some (q.add (Int.toNat 1*5))))]<| T_nd 1 [111] [(112,vp (some ((q.add (Int.toNat 1*5)).add 4)))] ?_
          obtain⟨ah,aa,ae,q35,h⟩:=h
          refine T_l1 113 59 q35 [112] ?_
          obtain⟨y,rfl,q36,h⟩:=h
          refine T_xd (some 114) 59 3 1 y aa ae .i64 0 Tryz.underlying59 q36.1 q36.2 [113] [(114,vp (some (y.add (Int.toNat 0*1))))] ?_
          obtain⟨s,q37,h⟩:=h
          refine T_l1 115 3 q37 [114]<| T_nd 3 [109,115] [(118,.bool (s==(-1)))] ?_
          refine iH [(0,.bool (((s==(-1)) && (e==0)) && (f==18)))] ?_ ?_
          ·exact aE<| gP [0] [.bool (((s==(-1)) && (e==0)) && (f==18))] hQ h
          intro hk
          refine T_nu [(11,vi e),(12,vi f),(118,.bool (s==(-1)))] ?_
          by_cases c38:s=(-1)
          ·have b39:(s==(-1))=true:=zK c38
           refine dN [(11,vi e),(12,vi f),(118,.bool true)] (by rw[b39]) ?_
           refine T_n 4 [(12,vi f),(122,.bool (e==0))] ?_
           by_cases c40:e=0
           ·have b41:(e==0)=true:=zK c40
            refine dN [(12,vi f),(122,.bool true)] (by rw[b41]) ?_
            refine T_n 4 [(0,.bool (f==18))]<| zq<| fX [(0,.bool (((s==(-1)) && (e==0)) && (f==18)))] (by simp only[b39,b41,BL]) ?_
            exact hk
           have b41:(e==0)=false:=zJ c40
           refine dN [(12,vi f),(122,.bool false)] (by rw[b41]) ?_
           refine T_n 4 [(0,.bool false)]<| zq<| fX [(0,.bool (((s==(-1)) && (e==0)) && (f==18)))] (by simp only[b39,b41,BL]) ?_
           exact hk
          have b39:(s==(-1))=false:=zJ c38
          refine dN [(11,vi e),(12,vi f),(118,.bool false)] (by rw[b39]) ?_
          refine T_n 8 [(0,.bool false)]<| zq<| fX [(0,.bool (((s==(-1)) && (e==0)) && (f==18)))] (by simp only[b39,BL]) ?_
          exact hk
         rw[if_neg c32]at h
         exact N_bd 109 (zJ c32)<| T_nr 17 [0] [.bool false] hQ h
        rw[if_neg c28]at h
        exact N_bd 101 (zJ c28)<| T_nr 25 [0] [.bool false] hQ h
       rw[if_neg c26]at h
       exact N_bd 96 (zJ c26)<| T_nr 30 [0] [.bool false] hQ h
      rw[if_neg c22]at h
      exact N_bd 89 (zJ c22)<| T_nr 37 [0] [.bool false] hQ h
     rw[if_neg c20]at h
     exact N_bd 85 (zJ c20)<| T_nr 41 [0] [.bool false] hQ h
    rw[if_neg c18]at h
    exact N_bd 81 (zJ c18)<| T_nr 45 [0] [.bool false] hQ h
   rw[if_neg c14]at h
   exact N_bd 74 (zJ c14)<| T_nr 52 [0] [.bool false] hQ h
  rw[if_neg c10]at h
  exact N_bd 67 (zJ c10)<| T_nr 59 [0] [.bool false] hQ h
 rw[if_neg c1]at h
 exact N_bd 19 (bne_iff_ne.mpr c1)<| T_ed 3 [19] [(22,.bool true)]<| T_tz 22<| ar 3<| T_nr 1 [0] [.bool false] hQ h
end aY

