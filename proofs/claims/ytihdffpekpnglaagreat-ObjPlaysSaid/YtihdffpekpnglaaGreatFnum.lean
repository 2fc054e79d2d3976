/- Printed: what each function asks, and that it is sound. -/
import Derived.Test.YtihdffpekpnglaaGreatFnsC
set_option linter.unusedSimpArgs false
set_option linter.unusedVariables false
set_option maxRecDepth 100000
set_option maxHeartbeats 1000000
noncomputable section
namespace Go.Proofs.YtihdffpekpnglaaGreat
open Go
/-! moraine/num.Norm -/
namespace i0
def K0:=Func.code Tryz.f81
end i0
def i0.pt(m:Bool)(k:zY)(j l:Nat)(H:zW)(R:zv):Prop:=
 ∀(b:Nat) (H1:zW),b=H.size->H1=H.push (.cells #[.bool m,.slice k j l] 39)->
 ∀(a:Nat) (H2:zW),a=H1.size->H2=H1.push (.cells #[.bool false,.slice none 0 0] 39)->
 ∃x:Bool,hat H2 (ad b)=some (.bool x)/\
 ∃(xB:zY) (xN xC:Nat),hat H2 ((ad b).add 1)=some (.slice xB xN xC)/\
 im.C x xB xN xC H2 (λv H3=> ∃(i:Bool) (d:zY) (f e:Nat) (rb:Int),v=.tuple #[.agg #[.bool i,.slice d f e],.int .i64 rb]/\
 (aJ H3 (ad a) 0 2)/\ ∀H4,H4=aP H3 (ad a) [.bool i,.slice d f e] 0->
 ∃(q:Bool) (p:zY) (o n:Nat),aG H4 (ad a) 0 [.bool q,.slice p o n]/\
 R (.tuple #[.agg #[.bool q,.slice p o n],.int .i64 rb]) H4)
namespace i0
theorem link{m:Bool}{k:zY}{j l:Nat}{H:zW}{R:zv}(h:pt m k j l H R):C m k j l H R:=by
 refine T_en K0 11 Tryz.func81 ?_
 intro w0 Q hQ
 unfold pt at h
 refine T_su [(0,.agg #[.bool m,vs k j l])]<| ar 0<| T_nw (some 1) (λb=>vp (pa b)) (.cells #[.bool m,vs k j l] 39) ?_
 intro b H1 e1 e2
 replace h:=h b H1 e1 e2
 refine⟨[(1,vp (pa b))],pk,?_⟩
 refine T_nw (some 2) (λb=>vp (pa b)) (.cells #[.bool false,vs none 0 0] 39) ?_
 intro a H2 e3 e4
 replace h:=h a H2 e3 e4
 refine T_pd [] [(2,vp (pa a))]<| T_ed 1 [] []<| ar 1<| T_nd 1 [] [(4,vp (pa b))] ?_
 obtain⟨x,q5,h⟩:=h
 refine T_l1 5 4 q5 [4]<| T_nd 1 [1] [(6,vp (some ((ad b).add 1)))] ?_
 obtain⟨xB,xN,xC,q6,h⟩:=h
 refine T_l1 7 37 q6 [6]<| T_c (some 8) h ?_;clear h
 rintro v H3 ⟨i,d,f,e,rb,rfl,h⟩
 refine T_pd [5,7] [(8,.tuple #[.agg #[.bool i,vs d f e],vi rb])]<| T_nd 2 [8] [(9,.agg #[.bool i,vs d f e]),(10,vi rb)] ?_
 obtain⟨q8,h⟩:=h
 refine bX 39 [.bool i,vs d f e] q8 ?_
 intro H4 e7
 replace h:=h H4 e7
 refine T_pd [9] []<| T_ed 1 [10] [(3,vi rb)]<| zz ?_
 show At _ _ _ _ _ (Q .ret)
 obtain⟨q,p,o,n,q9,h⟩:=h
 exact cP (fn:=Tryz.f81) [.agg #[.bool q,vs p o n],vi rb] hQ (show cK _ _ _ [.cell 2 39,.tmp 3] _ from .cell (by kernel_rfl) (aQ (λ_=>by kernel_rfl) (λ_=>by kernel_rfl) q9) (.tmp (by kernel_rfl) (.nil))) h
end i0

/-! moraine/num.Fix -/
namespace jv
def K0:=Func.code Tryz.f82
def K2:=cb K0
def K4:=cb K2
def K6:=cb K4
def K7:=ca K6
def K10:=cb K7
def K11:=ca K10
def K12:=ca K11
end jv
def jv.pt(s:Bool)(o:zY)(n p:Nat)(H:zW)(R:zv):Prop:=
 ∀(b:Nat) (H1:zW),b=H.size->H1=H.push (.cells #[.bool s,.slice o n p] 39)->
 ∃(xB:zY) (xN xC:Nat),hat H1 ((ad b).add 1)=some (.slice xB xN xC)/\
 ix.C xB xN xC H1 (λv H2=> ∃(f:zY) (d e:Nat),v=.slice f d e/\
 ∃(u:Int->zw) (m13:Int->Int->zW->Nat),u 0 0 H2/\ ∀(x:Int) (s13:Int) (H3:zW),u x s13 H3->
 if s13< (if 2< (d:Int)then 2 else(d:Int))then(
 ∃j:Addr,f=some j/\
 yZ s13 d/\
 ∃l:Int,hat H3 (j.add (Int.toNat s13*1))=some (.int .u32 l)/\
 (0<=(zq (32*s13)))/\
 (u (ior .u64 x (ishl .u64 (IntKind.wrap .u64 l) (zq (32*s13)))) (zq (s13+1)) H3/\m13 (ior .u64 x (ishl .u64 (IntKind.wrap .u64 l) (zq (32*s13)))) (zq (s13+1)) H3<m13 x s13 H3))
 else
 if(d:Int)>2 then(
 R (.tuple #[.int .i64 0,.bool false]) H3)
 else
 if x>1152921504606846976 then(
 R (.tuple #[.int .i64 0,.bool false]) H3)
 else
 if x=1152921504606846976 then(
 ∃m:Bool,hat H3 (ad b)=some (.bool m)/\
 if m=true then(
 ∃q:Bool,hat H3 (ad b)=some (.bool q)/\
 if q=true then(
 R (.tuple #[.int .i64 (zq (0-(zq x))),.bool true]) H3)
 else
 R (.tuple #[.int .i64 (zq x),.bool true]) H3)
 else
 R (.tuple #[.int .i64 0,.bool false]) H3)
 else
 ∃r:Bool,hat H3 (ad b)=some (.bool r)/\
 if r=true then(
 R (.tuple #[.int .i64 (zq (0-(zq x))),.bool true]) H3)
 else
 R (.tuple #[.int .i64 (zq x),.bool true]) H3)
namespace jv
theorem link{s:Bool}{o:zY}{n p:Nat}{H:zW}{R:zv}(h:pt s o n p H R):C s o n p H R:=by
 refine T_en K0 52 Tryz.func82 ?_
 intro w0 Q hQ
 unfold pt zq at h
 refine T_su [(0,.agg #[.bool s,vs o n p])]<| ar 0<| T_nw (some 1) (λb=>vp (pa b)) (.cells #[.bool s,vs o n p] 39) ?_
 intro b H1 e1 e2
 replace h:=h b H1 e1 e2
 refine⟨[(1,vp (pa b))],pk,?_⟩
 refine T_ed 2 [] []<| ar 1<| T_nd 1 [] [(7,vp (some ((ad b).add 1)))] ?_
 obtain⟨xB,xN,xC,q3,h⟩:=h
 refine T_l1 8 37 q3 [7]<| T_c (some 9) h ?_;clear h
 rintro v H2 ⟨f,d,e,rfl,h⟩
 refine T_pd [8] [(9,vs f d e)]<| T_ed 1 [9] [(4,vs f d e)]<| ar 2<| T_ed 1 [] [(5,vu 0)]<| T_sz<| ar 3<| T_ed 4 [] [(12,vi (if 2< (d:Int)then 2 else(d:Int))),(13,vi 0)]<| T_bz 0 ?_
 obtain⟨u,m13,i4,i5⟩:=h
 refine dS (x:=K12) (σ:=Int×Int) (λs_=> [(1,vp (pa b)),(4,vs f d e),(5,vu s_.1),(12,vi (if 2< (d:Int)then 2 else(d:Int))),(13,vi s_.2)]) (λs_ H=>u s_.1 s_.2 H) (λs_ H=>m13 s_.1 s_.2 H) ((0,0):Int×Int) (by kernel_rfl) i4 sk ?_
 rintro⟨x,s13⟩ H3 i6
 have h:=i5 x s13 H3 i6
 refine T_su [(1,vp (pa b)),(4,vs f d e),(5,vu x),(12,vi (if 2< (d:Int)then 2 else(d:Int))),(13,vi s13)]<| ar 4<| T_ed 1 [] [(14,.bool (decide (s13< (if 2< (d:Int)then 2 else(d:Int)))))]<| T_sz ?_
 by_cases c7:s13< (if 2< (d:Int)then 2 else(d:Int))
 ·rw[if_pos c7]at h
  refine aH 14 (zQ c7)<| T_kt<| T_sz<| T_bz 1<| ar 5<| T_ed 2 [14] [(6,vi s13)]<| T_rz 6<| T_nd 3 [5] [(16,vu x),(17,vs f d e),(18,vi s13)] ?_
  obtain⟨j,rfl,q9,h⟩:=h
  refine T_xd (some 19) 37 154 1 j d e .i64 s13 Tryz.underlying37 q9.1 q9.2 [4,17,18] [(4,vs (some j) d e),(19,vp (some (j.add (Int.toNat s13*1))))] ?_
  obtain⟨l,q10,h⟩:=h
  refine T_l1 20 154 q10 [19]<| T_nd 3 [6,20] [(21,vu (IntKind.wrap .u64 l)),(23,vi (zq (32*s13)))] ?_
  obtain⟨q11,h⟩:=h
  exact T_v1 24 (binN .shl 32 (vu (IntKind.wrap .u64 l)) (vi (zq (32*s13)))) (vu (ishl .u64 (IntKind.wrap .u64 l) (zq (32*s13)))) (λw _=>mp (P:=Tryz.prog) (t:=32) (k:=.u64) (k':=.i64) (x:=(IntKind.wrap .u64 l)) (y:=(zq (32*s13))) q11 w) [21,23]<| T_nd 2 [16,24] [(5,vu (ior .u64 x (ishl .u64 (IntKind.wrap .u64 l) (zq (32*s13)))))]<| zx<| aL<| aE<| T_rz 7<| T_ed 2 [13] [(13,vi (zq (s13+1)))]<| bG (((ior .u64 x (ishl .u64 (IntKind.wrap .u64 l) (zq (32*s13)))),(zq (s13+1))):Int×Int) sk h
 rw[if_neg c7]at h
 refine aI 14 (zJ c7)<| zk 0<| aD<| aD<| aR<| aE<| T_sz<| T_bz 2<| ar 8<| T_nd 4 [4,12,13,14] [(31,.bool (decide ((d:Int)>2)))] ?_
 by_cases c12:(d:Int)>2
 ·rw[if_pos c12]at h
  exact N_bd 31 (zQ c12)<| T_ed 13 [31] [(27,.bool true)]<| T_tz 27<| ar 9<| T_nr 2 [2,3] [vi 0,.bool false] hQ h
 rw[if_neg c12]at h
 refine N_bd 31 (zJ c12)<| T_nd 4 [31] [(35,.bool (decide (x>1152921504606846976)))] ?_
 by_cases c14:x>1152921504606846976
 ·rw[if_pos c14]at h
  exact N_bd 35 (zQ c14)<| T_ed 9 [35] [(27,.bool true)]<| T_tz 27<| ar 9<| T_nr 2 [2,3] [vi 0,.bool false] hQ h
 rw[if_neg c14]at h
 refine N_bd 35 (zJ c14)<| T_nd 3 [] [(38,.bool (x==1152921504606846976))] ?_
 by_cases c16:x=1152921504606846976
 ·rw[if_pos c16]at h
  refine N_bd 38 (zV c16)<| T_nd 1 [] [(39,vp (pa b))] ?_
  obtain⟨m,q18,h⟩:=h
  refine T_l1 40 4 q18 [39]<| T_ed 4 [35,38,40] [(27,.bool (!m))] ?_
  by_cases c19:m=true
  ·rw[if_pos c19]at h
   refine aI 27 (congrArg Bool.not (c19))<| ar 10<| T_nd 1 [1,27] [(45,vp (pa b))] ?_
   obtain⟨q,q21,h⟩:=h
   refine T_l1 46 4 q21 [45]<| T_ed 1 [46] [(44,.bool q)] ?_
   by_cases c22:q=true
   ·rw[if_pos c22]at h
    exact aH 44 c22<| ar 11<| T_nr 5 [2,3] [vi (zq (0-(zq x))),.bool true] hQ h
   rw[if_neg c22]at h
   exact aI 44 (zZ c22)<| T_k<| aL<| aE<| ar 12<| T_nr 4 [2,3] [vi (zq x),.bool true] hQ h
  rw[if_neg c19]at h
  exact aH 27 (congrArg Bool.not (zZ c19))<| ar 9<| T_nr 2 [2,3] [vi 0,.bool false] hQ h
 rw[if_neg c16]at h
 refine N_bd 38 (zK c16)<| T_ed 6 [35,38] [(27,.bool false)]<| T_fz 27<| ar 10<| T_nd 1 [1,27] [(45,vp (pa b))] ?_
 obtain⟨r,q24,h⟩:=h
 refine T_l1 46 4 q24 [45]<| T_ed 1 [46] [(44,.bool r)] ?_
 by_cases c25:r=true
 ·rw[if_pos c25]at h
  exact aH 44 c25<| ar 11<| T_nr 5 [2,3] [vi (zq (0-(zq x))),.bool true] hQ h
 rw[if_neg c25]at h
 exact aI 44 (zZ c25)<| T_k<| aL<| aE<| ar 12<| T_nr 4 [2,3] [vi (zq x),.bool true] hQ h
end jv

/-! moraine/num.Of -/
namespace kc
def K0:=Func.code Tryz.f99
end kc
def kc.pt(x:Int)(H:zW)(R:zv):Prop:=
 ∀(b:Nat) (H1:zW),b=H.size->H1=H.push (.cells #[.bool false,.slice none 0 0] 39)->
 if x<0 then(
 ∀(aj:Nat) (H2:zW),aj=H1.size->H2=H1.push (.cells #[.int .u32 (IntKind.wrap .u32 (IntKind.wrap .u64 (0-(IntKind.wrap .u64 x)))),.int .u32 (IntKind.wrap .u32 (ishr .u64 (IntKind.wrap .u64 (0-(IntKind.wrap .u64 x))) 32))] 154)->
 im.C (decide (x<0)) (some (ad aj)) 2 2 H2 (λv H3=> ∃(p:Bool) (m:zY) (n l:Nat) (rb:Int),v=.tuple #[.agg #[.bool p,.slice m n l],.int .i64 rb]/\
 ∀(t:Nat) (H4:zW),t=H3.size->H4=H3.push (.cells #[.bool false,.slice none 0 0] 39)->
 (aJ H4 (ad t) 0 2)/\ ∀H5,H5=aP H4 (ad t) [.bool p,.slice m n l] 0->
 ∃(y:Bool) (s:zY) (q r:Nat),aG H5 (ad t) 0 [.bool y,.slice s q r]/\
 (aJ H5 (ad b) 0 2)/\ ∀H6,H6=aP H5 (ad b) [.bool y,.slice s q r] 0->
 ∃(al:Bool) (ah:zY) (af ag:Nat),aG H6 (ad b) 0 [.bool al,.slice ah af ag]/\
 R (.agg #[.bool al,.slice ah af ag]) H6))
 else
 ∀(ak:Nat) (H7:zW),ak=H1.size->H7=H1.push (.cells #[.int .u32 (IntKind.wrap .u32 (IntKind.wrap .u64 x)),.int .u32 (IntKind.wrap .u32 (ishr .u64 (IntKind.wrap .u64 x) 32))] 154)->
 im.C (decide (x<0)) (some (ad ak)) 2 2 H7 (λan H8=> ∃(f:Bool) (a:zY) (d e:Nat) (ae:Int),an=.tuple #[.agg #[.bool f,.slice a d e],.int .i64 ae]/\
 ∀(u:Nat) (H9:zW),u=H8.size->H9=H8.push (.cells #[.bool false,.slice none 0 0] 39)->
 (aJ H9 (ad u) 0 2)/\ ∀ai,ai=aP H9 (ad u) [.bool f,.slice a d e] 0->
 ∃(o:Bool) (j:zY) (i k:Nat),aG ai (ad u) 0 [.bool o,.slice j i k]/\
 (aJ ai (ad b) 0 2)/\ ∀am,am=aP ai (ad b) [.bool o,.slice j i k] 0->
 ∃(ac:Bool) (ab:zY) (aa z:Nat),aG am (ad b) 0 [.bool ac,.slice ab aa z]/\
 R (.agg #[.bool ac,.slice ab aa z]) am)
namespace kc
theorem link{x:Int}{H:zW}{R:zv}(h:pt x H R):C x H R:=by
 refine T_en K0 25 Tryz.func99 ?_
 intro w0 Q hQ
 unfold pt at h
 refine T_su [(0,vi x)]<| ar 0<| T_nw (some 2) (λb=>vp (pa b)) (.cells #[.bool false,vs none 0 0] 39) ?_
 intro b H1 e1 e2
 replace h:=h b H1 e1 e2
 refine T_pd [] [(2,vp (pa b))]<| T_e<| ar 1<| T_ed 3 [] [(3,vu (IntKind.wrap .u64 x))]<| T_sz<| ar 2<| T_ed 2 [] [(9,.bool (decide (x<0)))] ?_
 by_cases c3:x<0
 ·rw[if_pos c3]at h
  refine aH 9 (zQ c3)<| T_rz 3<| T_ed 3 [3,9] [(3,vu (IntKind.wrap .u64 (0-(IntKind.wrap .u64 x))))]<| ar 4<| T_nd 7 [0,3] [(14,.bool (decide (x<0))),(16,.int .u32 (IntKind.wrap .u32 (IntKind.wrap .u64 (0-(IntKind.wrap .u64 x))))),(19,.int .u32 (IntKind.wrap .u32 (ishr .u64 (IntKind.wrap .u64 (0-(IntKind.wrap .u64 x))) 32)))]<| T_nw (some 20) (λb=>vs (pa b) 2 2) (.cells #[.int .u32 (IntKind.wrap .u32 (IntKind.wrap .u64 (0-(IntKind.wrap .u64 x)))),.int .u32 (IntKind.wrap .u32 (ishr .u64 (IntKind.wrap .u64 (0-(IntKind.wrap .u64 x))) 32))] 154) ?_
  intro aj H2 e5 e6
  replace h:=h aj H2 e5 e6
  refine T_pd [16,19] [(20,vs (pa aj) 2 2)]<| T_c (some 21) h ?_;clear h
  rintro v H3 ⟨p,m,n,l,rb,rfl,h⟩
  refine T_pd [14,20] [(21,.tuple #[.agg #[.bool p,vs m n l],vi rb])]<| T_nd 3 [21] [(22,.agg #[.bool p,vs m n l]),(23,vi rb)]<| T_nw (some 4) (λb=>vp (pa b)) (.cells #[.bool false,vs none 0 0] 39) ?_
  intro t H4 e7 e8
  replace h:=h t H4 e7 e8
  refine T_pd [] [(4,vp (pa t))] ?_
  obtain⟨q10,h⟩:=h
  refine bX 39 [.bool p,vs m n l] q10 ?_
  intro H5 e9
  replace h:=h H5 e9
  refine T_pd [22] []<| T_ed 1 [23] []<| ar 5 ?_
  obtain⟨y,s,q,r,q11,h⟩:=h
  refine T_lr 24 39 q11 [4] ?_
  obtain⟨q13,h⟩:=h
  refine bX 39 [.bool y,vs s q r] q13 ?_
  intro H6 e12
  replace h:=h H6 e12
  refine T_pd [24] []<| T_e<| zz ?_
  show At _ _ _ _ _ (Q .ret)
  obtain⟨al,ah,af,ag,q14,h⟩:=h
  exact cP (fn:=Tryz.f99) [.agg #[.bool al,vs ah af ag]] hQ (show cK _ _ _ [.cell 2 39] _ from .cell (by kernel_rfl) (aQ (λ_=>by kernel_rfl) (λ_=>by kernel_rfl) q14) (.nil)) h
 rw[if_neg c3]at h
 refine aI 9 (zJ c3)<| T_kt<| ar 4<| T_nd 7 [0,3,9] [(14,.bool (decide (x<0))),(16,.int .u32 (IntKind.wrap .u32 (IntKind.wrap .u64 x))),(19,.int .u32 (IntKind.wrap .u32 (ishr .u64 (IntKind.wrap .u64 x) 32)))]<| T_nw (some 20) (λb=>vs (pa b) 2 2) (.cells #[.int .u32 (IntKind.wrap .u32 (IntKind.wrap .u64 x)),.int .u32 (IntKind.wrap .u32 (ishr .u64 (IntKind.wrap .u64 x) 32))] 154) ?_
 intro ak H7 e15 e16
 replace h:=h ak H7 e15 e16
 refine T_pd [16,19] [(20,vs (pa ak) 2 2)]<| T_c (some 21) h ?_;clear h
 rintro an H8 ⟨f,a,d,e,ae,rfl,h⟩
 refine T_pd [14,20] [(21,.tuple #[.agg #[.bool f,vs a d e],vi ae])]<| T_nd 3 [21] [(22,.agg #[.bool f,vs a d e]),(23,vi ae)]<| T_nw (some 4) (λb=>vp (pa b)) (.cells #[.bool false,vs none 0 0] 39) ?_
 intro u H9 e17 e18
 replace h:=h u H9 e17 e18
 refine T_pd [] [(4,vp (pa u))] ?_
 obtain⟨q20,h⟩:=h
 refine bX 39 [.bool f,vs a d e] q20 ?_
 intro ai e19
 replace h:=h ai e19
 refine T_pd [22] []<| T_ed 1 [23] []<| ar 5 ?_
 obtain⟨o,j,i,k,q21,h⟩:=h
 refine T_lr 24 39 q21 [4] ?_
 obtain⟨q23,h⟩:=h
 refine bX 39 [.bool o,vs j i k] q23 ?_
 intro am e22
 replace h:=h am e22
 refine T_pd [24] []<| T_e<| zz ?_
 show At _ _ _ _ _ (Q .ret)
 obtain⟨ac,ab,aa,z,q24,h⟩:=h
 exact cP (fn:=Tryz.f99) [.agg #[.bool ac,vs ab aa z]] hQ (show cK _ _ _ [.cell 2 39] _ from .cell (by kernel_rfl) (aQ (λ_=>by kernel_rfl) (λ_=>by kernel_rfl) q24) (.nil)) h
end kc

/-! moraine/num.May -/
namespace jw
def K0:=Func.code Tryz.f100
def K2:=cb K0
def K3:=ca K2
end jw
def jw.pt(r:Bool)(l:zY)(k m:Nat)(H:zW)(R:zv):Prop:=
 ∀(b:Nat) (H1:zW),b=H.size->H1=H.push (.cells #[.bool r,.slice l k m] 39)->
 ∃(xB:zY) (xN xC:Nat),hat H1 ((ad b).add 1)=some (.slice xB xN xC)/\
 if(xN:Int)<=48 then(
 ∃(j:zY) (f i:Nat),hat H1 ((ad b).add 1)=some (.slice j f i)/\
 ∃(o:zY) (a p:Nat),hat H1 ((ad b).add 1)=some (.slice o a p)/\
 ∃x:Bool,hat H1 (ad b)=some (.bool x)/\
 ∃(q:zY) (d n:Nat),hat H1 ((ad b).add 1)=some (.slice q d n)/\
 ix.C j f i H1 (λv H2=> ∃(s:zY) (e t:Nat),v=.slice s e t/\aG H2 ((ad b).add 1) 0 [.slice o a p]/\aG H2 (ad b) 0 [.bool x]/\aG H2 ((ad b).add 1) 0 [.slice q d n]/\
 if(e:Int)=(a:Int)then(
 if x=true then(
 R (.bool (decide ((d:Int)>0))) H2)
 else
 R (.bool true) H2)
 else
 R (.bool false) H2))
 else
 R (.bool false) H1
namespace jw
theorem link{r:Bool}{l:zY}{k m:Nat}{H:zW}{R:zv}(h:pt r l k m H R):C r l k m H R:=by
 refine T_en K0 28 Tryz.func100 ?_
 intro w0 Q hQ
 unfold pt at h
 refine T_su [(0,.agg #[.bool r,vs l k m])]<| ar 0<| T_nw (some 1) (λb=>vp (pa b)) (.cells #[.bool r,vs l k m] 39) ?_
 intro b H1 e1 e2
 replace h:=h b H1 e1 e2
 refine⟨[(1,vp (pa b))],pk,?_⟩
 refine T_ed 1 [] []<| T_sz ?_
 obtain⟨xB,xN,xC,q3,h⟩:=h
 by_cases c4:(xN:Int)<=48
 ·rw[if_pos c4]at h
  obtain⟨j,f,i,q6,o,a,p,q7,x,q8,q,d,n,q9,h⟩:=h
  refine yq 1 (Code.ops K3) [(7,((ad b).add 1),[vs xB xN xC]),(7,((ad b).add 1),[vs j f i]),(26,((ad b).add 1),[vs o a p]),(26,(ad b),[.bool x]),(26,((ad b).add 1),[vs q d n])] 26 (bv 26 0) (show aK _ _ _ from⟨⟨q3,trivial⟩,⟨q6,trivial⟩,⟨q7,trivial⟩,⟨q8,trivial⟩,⟨q9,trivial⟩,trivial⟩)<| T_gp 0 (some 3) (vp (some ((ad b).add 1))) (bv 26 1) [(1,vp (pa b)),(3,vp (some ((ad b).add 1)))]<| T_g1 1 4 (vs xB xN xC) (bv 26 3) [3] (aT 37 (vp (some ((ad b).add 1)))) (yY 7 yX)<| aF 2 5 (vi xN) (bv 26 7) [4]<| aF 3 6 (.bool (decide ((xN:Int)<=48))) (bv 26 15) [5]<| aF 4 7 (.bool (decide ((xN:Int)<=48))) (bv 26 31) [6]<| G_bd 7 (zQ c4)<| aF 5 8 (vp (some ((ad b).add 1))) (bv 26 63) []<| T_g1 6 9 (vs j f i) (bv 26 127) [8] (aT 37 (vp (some ((ad b).add 1)))) (yY 7 yQ)<| aF 9 12 (vp (some ((ad b).add 1))) (bv 26 639) []<| T_g1 10 13 (vs o a p) (bv 26 1663) [12] (aT 37 (vp (some ((ad b).add 1)))) (dI 26 (λ_=>by kernel_rfl) yJ (.inr (by kernel_rfl)))<| aF 11 14 (vi a) (bv 26 3711) [13]<| yx 7 (some 10) (bv 26 3839) 124 #[vs j f i] h ?_;clear h
  rintro v H2 ⟨s,e,t,rfl,f10,f11,f12,h⟩
  refine⟨[(1,vp (pa b)),(7,.bool true),(10,vs s e t),(14,vi a)],pk,(show aK _ _ _ from⟨trivial,trivial,f10,f11,f12,trivial⟩),?_⟩
  refine T_g 8 (some 11) (vi e) (bv 26 4095) [(1,vp (pa b)),(7,.bool true),(11,vi e),(14,vi a)] (pure (.value (vi e)):Sem Next) (λ_ _ _ _ _=>rfl)<| T_g1 12 15 (.bool ((e:Int)==(a:Int))) (bv 26 8191) [11,14] (pure (.value (.bool ((e:Int)==(a:Int)))):Sem Next) (λ_ _ _ _ _=>rfl)<| T_g1 13 16 (.bool ((e:Int)==(a:Int))) (bv 26 16383) [7,15] (pure (.value (.bool ((e:Int)==(a:Int)))):Sem Next) (λ_ _ _ _ _=>rfl)<| T_g1 14 17 (.bool ((e:Int)==(a:Int))) (bv 26 32767) [16] (pure (.value (.bool ((e:Int)==(a:Int)))):Sem Next) (λ_ _ _ _ _=>rfl) ?_
  by_cases c13:(e:Int)=(a:Int)
  ·rw[if_pos c13]at h
   refine G_bd 17 (zV c13) ?_
   refine T_g1 15 18 (vp (pa b)) (bv 26 65535) [] (pure (.value (vp (pa b))):Sem Next) (λ_ _ _ _ _=>rfl)<| T_g1 16 19 (.bool x) (bv 26 131071) [18] (aT 4 (vp (pa b))) (dI 26 (λ_=>by kernel_rfl) yK (.inr (by kernel_rfl)))<| T_g1 17 20 (.bool (!x)) (bv 26 262143) [19] (pure (.value (.bool (!x))):Sem Next) (λ_ _ _ _ _=>rfl)<| T_g1 18 21 (.bool (!x)) (bv 26 524287) [20] (pure (.value (.bool (!x))):Sem Next) (λ_ _ _ _ _=>rfl) ?_
   by_cases c15:x=true
   ·rw[if_pos c15]at h
    have b16:(!x)=false:=congrArg Bool.not (c15)
    have b162:x=true:=c15
    refine G_bd 21 (b:=(!x)) (v:=false) (by simp only[b16,b162,Bool.not_true,Bool.not_false]) ?_
    clear b16 b162
    exact T_g1 19 22 (vp (some ((ad b).add 1))) (bv 26 1048575) [1] (pure (.value (vp (some ((ad b).add 1)))):Sem Next) (λ_ _ _ _ _=>rfl)<| T_g1 20 23 (vs q d n) (bv 26 2097151) [22] (aT 37 (vp (some ((ad b).add 1)))) (dI 26 (λ_=>by kernel_rfl) yV (.inr (by kernel_rfl)))<| T_g1 21 24 (vi d) (bv 26 4194303) [23] (pure (.value (vi d)):Sem Next) (λ_ _ _ _ _=>rfl)<| T_g1 22 25 (.bool (decide ((d:Int)>0))) (bv 26 8388607) [24] (pure (.value (.bool (decide ((d:Int)>0)))):Sem Next) (λ_ _ _ _ _=>rfl)<| T_g1 23 26 (.bool (decide ((d:Int)>0))) (bv 26 16777215) [21,25] (pure (.value (.bool (decide ((d:Int)>0)))):Sem Next) (λ_ _ _ _ _=>rfl)<| T_g1 24 27 (.bool (decide ((d:Int)>0))) (bv 26 33554431) [17,26] (pure (.value (.bool (decide ((d:Int)>0)))):Sem Next) (λ_ _ _ _ _=>rfl)<| T_g1 25 2 (.bool (decide ((d:Int)>0))) (bv 26 67108863) [27] (pure (.value (.bool (decide ((d:Int)>0)))):Sem Next) (λ_ _ _ _ _=>rfl)<| eI [(2,.bool (decide ((d:Int)>0)))] sk<| yz<| aE<| ie [2] [.bool (decide ((d:Int)>0))] hQ h
   rw[if_neg c15]at h
   have b16:(!x)=true:=congrArg Bool.not (zZ c15)
   have b162:x=false:=zZ c15
   refine G_bd 21 (b:=(!x)) (v:=true) (by simp only[b16,b162,Bool.not_true,Bool.not_false]) ?_
   clear b16 b162
   exact aA 19 (some 22) (bv 26 1048575) [1] [(22,undef)]<| aA 20 (some 23) (bv 26 2097151) [22] [(23,undef)]<| aA 21 (some 24) (bv 26 4194303) [23] [(24,undef)]<| aA 22 (some 25) (bv 26 8388607) [24] [(25,undef)]<| T_g1 23 26 (.bool true) (bv 26 16777215) [21,25] (pure (.value (.bool true)):Sem Next) (λ_ _ _ _ _=>rfl)<| T_g1 24 27 (.bool true) (bv 26 33554431) [17,26] (pure (.value (.bool true)):Sem Next) (λ_ _ _ _ _=>rfl)<| T_g1 25 2 (.bool true) (bv 26 67108863) [27] (pure (.value (.bool true)):Sem Next) (λ_ _ _ _ _=>rfl)<| eI [(2,.bool true)] sk<| yz<| aE<| ie [2] [.bool true] hQ h
  rw[if_neg c13]at h
  refine G_bd 17 (zK c13) ?_
  exact aA 15 (some 18) (bv 26 65535) [] [(18,undef)]<| aA 16 (some 19) (bv 26 131071) [18] [(19,undef)]<| aA 17 (some 20) (bv 26 262143) [19] [(20,undef)]<| aA 18 (some 21) (bv 26 524287) [20] [(21,undef)]<| aA 19 (some 22) (bv 26 1048575) [1] [(22,undef)]<| aA 20 (some 23) (bv 26 2097151) [22] [(23,undef)]<| aA 21 (some 24) (bv 26 4194303) [23] [(24,undef)]<| aA 22 (some 25) (bv 26 8388607) [24] [(25,undef)]<| aA 23 (some 26) (bv 26 16777215) [21,25] [(26,undef)]<| T_g1 24 27 (.bool false) (bv 26 33554431) [17,26] (pure (.value (.bool false)):Sem Next) (λ_ _ _ _ _=>rfl)<| T_g1 25 2 (.bool false) (bv 26 67108863) [27] (pure (.value (.bool false)):Sem Next) (λ_ _ _ _ _=>rfl)<| eI [(2,.bool false)] sk<| yz<| aE<| ie [2] [.bool false] hQ h
 rw[if_neg c4]at h
 exact yq 1 (Code.ops K3) [(26,((ad b).add 1),[vs xB xN xC])] 26 (bv 26 0) (show aK _ _ _ from⟨⟨q3,trivial⟩,trivial⟩)<| T_gp 0 (some 3) (vp (some ((ad b).add 1))) (bv 26 1) [(1,vp (pa b)),(3,vp (some ((ad b).add 1)))]<| T_g1 1 4 (vs xB xN xC) (bv 26 3) [3] (aT 37 (vp (some ((ad b).add 1)))) (dI 26 (λ_=>by kernel_rfl) yX (.inr (by kernel_rfl)))<| aF 2 5 (vi xN) (bv 26 7) [4]<| aF 3 6 (.bool (decide ((xN:Int)<=48))) (bv 26 15) [5]<| aF 4 7 (.bool (decide ((xN:Int)<=48))) (bv 26 31) [6]<| G_bd 7 (zJ c4)<| aA 5 (some 8) (bv 26 63) [] [(8,undef)]<| aA 6 (some 9) (bv 26 127) [8] [(9,undef)]<| aA 7 (some 10) (bv 26 255) [9] [(10,undef)]<| aA 8 (some 11) (bv 26 511) [10] [(11,undef)]<| aA 9 (some 12) (bv 26 1023) [] [(12,undef)]<| aA 10 (some 13) (bv 26 2047) [12] [(13,undef)]<| aA 11 (some 14) (bv 26 4095) [13] [(14,undef)]<| aA 12 (some 15) (bv 26 8191) [11,14] [(15,undef)]<| aF 13 16 (.bool false) (bv 26 16383) [7,15]<| aF 14 17 (.bool false) (bv 26 32767) [16]<| aA 15 (some 18) (bv 26 65535) [] [(18,undef)]<| aA 16 (some 19) (bv 26 131071) [18] [(19,undef)]<| aA 17 (some 20) (bv 26 262143) [19] [(20,undef)]<| aA 18 (some 21) (bv 26 524287) [20] [(21,undef)]<| aA 19 (some 22) (bv 26 1048575) [1] [(22,undef)]<| aA 20 (some 23) (bv 26 2097151) [22] [(23,undef)]<| aA 21 (some 24) (bv 26 4194303) [23] [(24,undef)]<| aA 22 (some 25) (bv 26 8388607) [24] [(25,undef)]<| aA 23 (some 26) (bv 26 16777215) [21,25] [(26,undef)]<| aF 24 27 (.bool false) (bv 26 33554431) [17,26]<| aF 25 2 (.bool false) (bv 26 67108863) [27]<| eI [(2,.bool false)] sk<| yz<| aE<| ie [2] [.bool false] hQ h
end jw

/-! moraine/num.made -/
namespace im
def K0:=Func.code Tryz.f123
end im
def im.pt(a:Bool)(mB:zY)(mN mC:Nat)(H:zW)(R:zv):Prop:=
 ∀(b:Nat) (H1:zW),b=H.size->H1=H.push (.cells #[.bool false,.slice none 0 0] 39)->
 ix.C mB mN mC H1 (λv H2=> ∃(xB:zY) (xN xC:Nat),v=.slice xB xN xC/\
 if(xN:Int)>48 then(
 (aJ H2 (ad b) 0 2)/\ ∀H3,H3=aP H2 (ad b) [.bool false,.slice none 0 0] 0->
 ∃(y:Bool) (x:zY) (t u:Nat),aG H3 (ad b) 0 [.bool y,.slice x t u]/\
 R (.tuple #[.agg #[.bool y,.slice x t u],.int .i64 6]) H3)
 else
 if a=true then(
 bE.C xB xN xC H2 (λz H4=> ∃(k:zY) (d j:Nat),z=.slice k d j/\
 (aJ H4 (ad b) 0 2)/\ ∀H5,H5=aP H4 (ad b) [.bool (decide ((xN:Int)>0)),.slice k d j] 0->
 ∃(s:Bool) (p:zY) (o m:Nat),aG H5 (ad b) 0 [.bool s,.slice p o m]/\
 R (.tuple #[.agg #[.bool s,.slice p o m],.int .i64 0]) H5))
 else
 bE.C xB xN xC H2 (λaa H6=> ∃(e:zY) (f i:Nat),aa=.slice e f i/\
 (aJ H6 (ad b) 0 2)/\ ∀H7,H7=aP H6 (ad b) [.bool false,.slice e f i] 0->
 ∃(r:Bool) (q:zY) (l n:Nat),aG H7 (ad b) 0 [.bool r,.slice q l n]/\
 R (.tuple #[.agg #[.bool r,.slice q l n],.int .i64 0]) H7))
namespace im
theorem link{a:Bool}{mB:zY}{mN mC:Nat}{H:zW}{R:zv}(h:pt a mB mN mC H R):C a mB mN mC H R:=by
 refine T_en K0 21 Tryz.func123 ?_
 intro w0 Q hQ
 unfold pt at h
 refine T_su [(0,.bool a),(1,vs mB mN mC)]<| ar 0<| T_nw (some 4) (λb=>vp (pa b)) (.cells #[.bool false,vs none 0 0] 39) ?_
 intro b H1 e1 e2
 replace h:=h b H1 e1 e2
 refine T_pd [] [(4,vp (pa b))]<| T_ed 1 [] []<| ar 1<| T_nd 1 [1] [(6,vs mB mN mC)]<| T_c (some 7) h ?_;clear h
 rintro v H2 ⟨xB,xN,xC,rfl,h⟩
 refine T_pd [6] [(7,vs xB xN xC)]<| T_ed 1 [7] [(1,vs xB xN xC)]<| T_sz<| ar 2<| T_ed 3 [] [(10,.bool (decide ((xN:Int)>48)))] ?_
 by_cases c3:(xN:Int)>48
 ·rw[if_pos c3]at h
  refine aH 10 (zQ c3)<| ar 3<| T_nd 1 [0,1,10] [(11,.agg #[.bool false,vs none 0 0])] ?_
  obtain⟨q6,h⟩:=h
  refine bX 39 [.bool false,vs none 0 0] q6 ?_
  intro H3 e5
  replace h:=h H3 e5
  refine T_pd [11] []<| T_ed 1 [] [(5,vi 6)]<| zz ?_
  show At _ _ _ _ _ (Q .ret)
  obtain⟨y,x,t,u,q7,h⟩:=h
  exact cP (fn:=Tryz.f123) [.agg #[.bool y,vs x t u],vi 6] hQ (show cK _ _ _ [.cell 4 39,.tmp 5] _ from .cell (by kernel_rfl) (aQ (λ_=>by kernel_rfl) (λ_=>by kernel_rfl) q7) (.tmp (by kernel_rfl) (.nil))) h
 rw[if_neg c3]at h
 refine aI 10 (zJ c3)<| T_kt<| ar 4<| T_nd 2 [0,10] [(13,.bool a)] ?_
 by_cases c8:a=true
 ·rw[if_pos c8]at h
  refine N_bd 13 c8<| T_nd 5 [1,13] [(17,.bool (decide ((xN:Int)>0))),(18,vs xB xN xC)] ?_
  refine T_c (some 19) h ?_;clear h
  rintro z H4 ⟨k,d,j,rfl,h⟩
  refine T_pd [18] [(19,vs k d j)]<| T_nd 1 [17,19] [(20,.agg #[.bool (decide ((xN:Int)>0)),vs k d j])] ?_
  obtain⟨q11,h⟩:=h
  refine bX 39 [.bool (decide ((xN:Int)>0)),vs k d j] q11 ?_
  intro H5 e10
  replace h:=h H5 e10
  refine T_pd [20] []<| T_ed 1 [] [(5,vi 0)]<| zz ?_
  show At _ _ _ _ _ (Q .ret)
  obtain⟨s,p,o,m,q12,h⟩:=h
  exact cP (fn:=Tryz.f123) [.agg #[.bool s,vs p o m],vi 0] hQ (show cK _ _ _ [.cell 4 39,.tmp 5] _ from .cell (by kernel_rfl) (aQ (λ_=>by kernel_rfl) (λ_=>by kernel_rfl) q12) (.tmp (by kernel_rfl) (.nil))) h
 rw[if_neg c8]at h
 refine N_bd 13 (zZ c8)<| T_nd 5 [1,13] [(17,.bool false),(18,vs xB xN xC)] ?_
 refine T_c (some 19) h ?_;clear h
 rintro aa H6 ⟨e,f,i,rfl,h⟩
 refine T_pd [18] [(19,vs e f i)]<| T_nd 1 [17,19] [(20,.agg #[.bool false,vs e f i])] ?_
 obtain⟨q14,h⟩:=h
 refine bX 39 [.bool false,vs e f i] q14 ?_
 intro H7 e13
 replace h:=h H7 e13
 refine T_pd [20] []<| T_ed 1 [] [(5,vi 0)]<| zz ?_
 show At _ _ _ _ _ (Q .ret)
 obtain⟨r,q,l,n,q15,h⟩:=h
 exact cP (fn:=Tryz.f123) [.agg #[.bool r,vs q l n],vi 0] hQ (show cK _ _ _ [.cell 4 39,.tmp 5] _ from .cell (by kernel_rfl) (aQ (λ_=>by kernel_rfl) (λ_=>by kernel_rfl) q15) (.tmp (by kernel_rfl) (.nil))) h
end im

/-! moraine/num.trim -/
namespace ix
def K0:=Func.code Tryz.f124
def K2:=cb K0
def K4:=cb K2
def K5:=ca K4
def K7:=ca K5
def K8:=ca K7
end ix
def ix.pt(mB:zY)(mN mC:Nat)(H:zW)(R:zv):Prop:=
 ∃(I9:zw) (m9:Int->zW->Nat),I9 (mN:Int) H/\ ∀(nv:Int) (H1:zW),I9 nv H1->
 if nv>0 then(
 ∃d:Addr,mB=some d/\
 ((0:Int)<=(zq (nv-1))/\(zq (nv-1))< (mN:Int))/\
 ∃x:Int,hat H1 (d.add (Int.toNat (zq (nv-1))*1))=some (.int .u32 x)/\
 if x=0 then(
 (I9 (zq (nv-1)) H1/\m9 (zq (nv-1)) H1<m9 nv H1))
 else
 ∃(lo hi:Nat),lo=0/\nv=(hi:Int)/\lo<=hi/\hi<=mC/\
 ∀sl:zY,sl=(if mC=lo then(some d)else Option.map (λa:Addr=>a.add (lo*1)) (some d))->
 R (.slice sl (hi-lo) (mC-lo)) H1)
 else
 ∃(b e:Nat),b=0/\nv=(e:Int)/\b<=e/\e<=mC/\
 ∀f:zY,f=(if mC=b then mB else Option.map (λa:Addr=>a.add (b*1)) mB)->
 R (.slice f (e-b) (mC-b)) H1
namespace ix
theorem link{mB:zY}{mN mC:Nat}{H:zW}{R:zv}(h:pt mB mN mC H R):C mB mN mC H R:=by
 refine T_en K0 21 Tryz.func124 ?_
 intro w0 Q hQ
 unfold pt zq at h
 refine T_su [(0,vs mB mN mC)]<| ar 0<| T_ed 1 [] []<| ar 1<| T_ed 3 [] [(3,vi mN)]<| T_sz<| T_bz 0 ?_
 obtain⟨I9,m9,i1,i2⟩:=h
 refine dS (x:=K8) (σ:=Int) (λs_=> [(0,vs mB mN mC),(3,vi s_)]) (λs_ H=>I9 s_ H) (λs_ H=>m9 s_ H) ((mN:Int):Int) (by kernel_rfl) i1 sk ?_
 rintro nv H1 i3
 have h:=i2 nv H1 i3
 refine T_su [(0,vs mB mN mC),(3,vi nv)]<| T_sz<| ar 2<| T_nd 3 [] [(8,.bool (decide (nv>0)))] ?_
 by_cases c4:nv>0
 ·rw[if_pos c4]at h
  refine N_bd 8 (zQ c4)<| T_nd 3 [] [(9,vs mB mN mC),(11,vi (zq (nv-1)))] ?_
  obtain⟨d,rfl,q6,h⟩:=h
  refine T_xd (some 12) 37 154 1 d mN mC .i64 (zq (nv-1)) Tryz.underlying37 q6.1 q6.2 [0,9,11] [(0,vs (some d) mN mC),(12,vp (some (d.add (Int.toNat (zq (nv-1))*1))))] ?_
  obtain⟨x,q7,h⟩:=h
  refine T_l1 13 154 q7 [12]<| T_ed 2 [8,13] [(15,.bool (x==0))] ?_
  by_cases c8:x=0
  ·rw[if_pos c8]at h
   exact aH 15 (zV c8)<| T_kt<| T_bz 1<| T_rz 3<| T_nd 3 [3,15] [(3,vi (zq (nv-1)))]<| zx<| aL<| aE<| bG ((zq (nv-1)):Int) sk h
  rw[if_neg c8]at h
  refine aI 15 (zK c8)<| zk 0<| aD<| aD<| aR<| aE<| ar 4<| T_n 2 [(18,vs (some d) mN mC),(19,vi nv)] ?_
  obtain⟨lo,hi,q10,q11,q12,q13,h⟩:=h
  obtain⟨sl,e14⟩: ∃B,B=(if mC=lo then(some d)else Option.map (λa:Addr=>a.add (lo*1)) (some d)):=⟨_,rfl⟩
  replace h:=h sl e14
  exact T_v1 20 (ku 37 (vs (some d) mN mC) none (some (vi nv)) none) (vs sl (hi-lo) (mC-lo)) (λw _=>(jD (P:=Tryz.prog) (t:=37) (elem:=154) (sz:=1) (a:=(some d)) (len:=mN) (cap:=mC) none (some (vi nv)) lo hi Tryz.underlying37 (λ_=>by kernel_rfl) (.inl ⟨rfl,q10⟩) (.inr ⟨.i64,congrArg (λq=>some (Value.int .i64 q)) q11⟩) q12 q13 w).trans (by rw[e14];try rfl)) [18,19]<| T_nr 1 [2] [vs sl (hi-lo) (mC-lo)] hQ h
 rw[if_neg c4]at h
 refine N_bd 8 (zJ c4)<| T_ed 7 [8] [(15,.bool false)]<| T_fz 15 ?_
 refine zk 0<| aD<| aD<| aR<| aE<| ar 4<| T_n 2 [(18,vs mB mN mC),(19,vi nv)] ?_
 obtain⟨b,e,q15,q16,q17,q18,h⟩:=h
 obtain⟨f,e19⟩: ∃B,B=(if mC=b then mB else Option.map (λa:Addr=>a.add (b*1)) mB):=⟨_,rfl⟩
 replace h:=h f e19
 exact T_v1 20 (ku 37 (vs mB mN mC) none (some (vi nv)) none) (vs f (e-b) (mC-b)) (λw _=>(jD (P:=Tryz.prog) (t:=37) (elem:=154) (sz:=1) (a:=mB) (len:=mN) (cap:=mC) none (some (vi nv)) b e Tryz.underlying37 (λ_=>by kernel_rfl) (.inl ⟨rfl,q15⟩) (.inr ⟨.i64,congrArg (λq=>some (Value.int .i64 q)) q16⟩) q17 q18 w).trans (by rw[e19];try rfl)) [18,19]<| T_nr 1 [2] [vs f (e-b) (mC-b)] hQ h
end ix

