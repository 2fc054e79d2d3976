/- Printed: what each function asks, and that it is sound. -/
import Derived.Test.YtibpklpgmgakcaaGreatDoorFnsC
set_option linter.unusedSimpArgs false
set_option linter.unusedVariables false
set_option maxRecDepth 100000
set_option maxHeartbeats 1000000
noncomputable section
namespace Go.Proofs.YtibpklpgmgakcaaGreatDoor
open Go
/-! moraine/num.Norm -/
namespace num_Norm
def K0:=Func.code Tryz.f55
end num_Norm
def num_Norm.pt(m:Bool)(i:Option Addr)(k j:Nat)(H:Array Obj)(R:Value->Array Obj->Prop):Prop:=
 ∀(b:Nat) (H1:Array Obj),b=H.size->H1=H.push (.cells #[.bool m,.slice i k j] 48)->
 ∀(a:Nat) (H2:Array Obj),a=H1.size->H2=H1.push (.cells #[.bool false,.slice none 0 0] 48)->
 ∃x:Bool,hat H2 (ad b)=some (.bool x)/\
 ∃(xB:Option Addr) (xN xC:Nat),hat H2 ((ad b).add 1)=some (.slice xB xN xC)/\
 num_made.C x xB xN xC H2 (λv H3=> ∃(g:Bool) (d:Option Addr) (e f:Nat) (rb:Int),v=.tuple #[.agg #[.bool g,.slice d e f],.int .i64 rb]/\
 (CanPuts H3 (ad a) 0 2)/\ ∀H4,H4=hputs H3 (ad a) [.bool g,.slice d e f] 0->
 ∃(r:Bool) (o:Option Addr) (q p:Nat),RowAt H4 (ad a) 0 [.bool r,.slice o q p]/\
 R (.tuple #[.agg #[.bool r,.slice o q p],.int .i64 rb]) H4)
namespace num_Norm
theorem link{m:Bool}{i:Option Addr}{k j:Nat}{H:Array Obj}{R:Value->Array Obj->Prop}(h:pt m i k j H R):C m i k j H R:=by
 refine T_en K0 11 Tryz.func55 ?_
 intro w0 Q hQ
 unfold pt at h
 refine T_su [(0,.agg #[.bool m,vs i k j])]<| T_srz 0<| T_nw (some 1) (λb=>vp (pa b)) (.cells #[.bool m,vs i k j] 48) ?_
 intro b H1 e1 e2
 replace h:=h b H1 e1 e2
 refine⟨[(1,vp (pa b))],pk,?_⟩
 refine T_nw (some 2) (λb=>vp (pa b)) (.cells #[.bool false,vs none 0 0] 48) ?_
 intro a H2 e3 e4
 replace h:=h a H2 e3 e4
 refine T_pd [] [(2,vp (pa a))]<| T_ed 1 [] []<| T_srz 1<| T_nd 1 [] [(4,vp (pa b))] ?_
 obtain⟨x,q5,h⟩:=h
 refine T_l1 5 4 q5 [4]<| T_nd 1 [1] [(6,vp (some ((ad b).add 1)))] ?_
 obtain⟨xB,xN,xC,q6,h⟩:=h
 refine T_l1 7 46 q6 [6] ?_
 refine T_c (some 8) h ?_;clear h
 rintro v H3 ⟨g,d,e,f,rb,rfl,h⟩
 refine T_pd [5,7] [(8,.tuple #[.agg #[.bool g,vs d e f],vi rb])]<| T_nd 2 [8] [(9,.agg #[.bool g,vs d e f]),(10,vi rb)] ?_
 obtain⟨q8,h⟩:=h
 refine T_sta 48 [.bool g,vs d e f] q8 ?_
 intro H4 e7
 replace h:=h H4 e7
 refine T_pd [9] []<| T_ed 1 [10] [(3,vi rb)] ?_
 refine S_ret (by kernel_rfl) ?_
 show At _ _ _ _ _ (Q .ret)
 obtain⟨r,o,q,p,q9,h⟩:=h
 exact S_done (fn:=Tryz.f55) [.agg #[.bool r,vs o q p],vi rb] hQ (show ResOK _ _ _ [.cell 2 48,.tmp 3] _ from .cell (by kernel_rfl) (loadOK_row (λ_=>by kernel_rfl) (λ_=>by kernel_rfl) q9) (.tmp (by kernel_rfl) (.nil))) h
end num_Norm

/-! moraine/num.Fix -/
namespace num_Fix
def K0:=Func.code Tryz.f56
def K2:=cb K0
def K4:=cb K2
def K6:=cb K4
def K7:=ca K6
def K10:=cb K7
def K11:=ca K10
def K12:=ca K11
end num_Fix
def num_Fix.pt(u:Bool)(o:Option Addr)(q p:Nat)(H:Array Obj)(R:Value->Array Obj->Prop):Prop:=
 ∀(b:Nat) (H1:Array Obj),b=H.size->H1=H.push (.cells #[.bool u,.slice o q p] 48)->
 ∃(xB:Option Addr) (xN xC:Nat),hat H1 ((ad b).add 1)=some (.slice xB xN xC)/\
 num_trim.C xB xN xC H1 (λv H2=> ∃(f:Option Addr) (d e:Nat),v=.slice f d e/\
 ∃(z:Int->Int->Array Obj->Prop) (m13:Int->Int->Array Obj->Nat),z 0 0 H2/\ ∀(x:Int) (s13:Int) (H3:Array Obj),z x s13 H3->
 if s13< (if 2< (d:Int)then 2 else(d:Int))then(
 ∃g:Addr,f=some g/\
 ((0:Int)<=s13/\s13< (d:Int))/\
 ∃j:Int,hat H3 (g.add (Int.toNat s13*1))=some (.int .u32 j)/\
 (0<=(IntKind.wrap .i64 (32*s13)))/\
 (z (ior .u64 x (ishl .u64 (IntKind.wrap .u64 j) (IntKind.wrap .i64 (32*s13)))) (IntKind.wrap .i64 (s13+1)) H3/\m13 (ior .u64 x (ishl .u64 (IntKind.wrap .u64 j) (IntKind.wrap .i64 (32*s13)))) (IntKind.wrap .i64 (s13+1)) H3<m13 x s13 H3))
 else
 if(d:Int)>2 then(
 R (.tuple #[.int .i64 0,.bool false]) H3)
 else
 if x>1152921504606846976 then(
 R (.tuple #[.int .i64 0,.bool false]) H3)
 else
 if x=1152921504606846976 then(
 ∃m:Bool,hat H3 (ad b)=some (.bool m)/\
 if m=true then(
 ∃r:Bool,hat H3 (ad b)=some (.bool r)/\
 if r=true then(
 R (.tuple #[.int .i64 (IntKind.wrap .i64 (0-(IntKind.wrap .i64 x))),.bool true]) H3)
 else
 R (.tuple #[.int .i64 (IntKind.wrap .i64 x),.bool true]) H3)
 else
 R (.tuple #[.int .i64 0,.bool false]) H3)
 else
 ∃s:Bool,hat H3 (ad b)=some (.bool s)/\
 if s=true then(
 R (.tuple #[.int .i64 (IntKind.wrap .i64 (0-(IntKind.wrap .i64 x))),.bool true]) H3)
 else
 R (.tuple #[.int .i64 (IntKind.wrap .i64 x),.bool true]) H3)
namespace num_Fix
theorem link{u:Bool}{o:Option Addr}{q p:Nat}{H:Array Obj}{R:Value->Array Obj->Prop}(h:pt u o q p H R):C u o q p H R:=by
 refine T_en K0 52 Tryz.func56 ?_
 intro w0 Q hQ
 unfold pt at h
 refine T_su [(0,.agg #[.bool u,vs o q p])]<| T_srz 0<| T_nw (some 1) (λb=>vp (pa b)) (.cells #[.bool u,vs o q p] 48) ?_
 intro b H1 e1 e2
 replace h:=h b H1 e1 e2
 refine⟨[(1,vp (pa b))],pk,?_⟩
 refine T_ed 2 [] []<| T_srz 1<| T_nd 1 [] [(7,vp (some ((ad b).add 1)))] ?_
 obtain⟨xB,xN,xC,q3,h⟩:=h
 refine T_l1 8 46 q3 [7] ?_
 refine T_c (some 9) h ?_;clear h
 rintro v H2 ⟨f,d,e,rfl,h⟩
 refine T_pd [8] [(9,vs f d e)]<| T_ed 1 [9] [(4,vs f d e)]<| T_srz 2<| T_ed 1 [] [(5,vu 0)]<| T_sz<| T_srz 3<| T_ed 4 [] [(12,vi (if 2< (d:Int)then 2 else(d:Int))),(13,vi 0)]<| T_bz 0 ?_
 obtain⟨z,m13,i4,i5⟩:=h
 refine S_loop (x:=K12) (σ:=Int×Int) (λs_=> [(1,vp (pa b)),(4,vs f d e),(5,vu s_.1),(12,vi (if 2< (d:Int)then 2 else(d:Int))),(13,vi s_.2)]) (λs_ H=>z s_.1 s_.2 H) (λs_ H=>m13 s_.1 s_.2 H) ((0,0):Int×Int) (by kernel_rfl) i4 sk ?_
 rintro⟨x,s13⟩ H3 i6
 have h:=i5 x s13 H3 i6
 refine T_su [(1,vp (pa b)),(4,vs f d e),(5,vu x),(12,vi (if 2< (d:Int)then 2 else(d:Int))),(13,vi s13)]<| T_srz 4<| T_ed 1 [] [(14,.bool (decide (s13< (if 2< (d:Int)then 2 else(d:Int)))))]<| T_sz ?_
 by_cases c7:s13< (if 2< (d:Int)then 2 else(d:Int))
 ·rw[if_pos c7]at h
  refine T_cTz 14 (decide_eq_true c7)<| T_kt<| T_sz<| T_bz 1<| T_srz 5<| T_ed 2 [14] [(6,vi s13)]<| T_rz 6<| T_nd 3 [5] [(16,vu x),(17,vs f d e),(18,vi s13)] ?_
  obtain⟨g,rfl,h⟩:=h
  obtain⟨q9,h⟩:=h
  refine T_xd (some 19) 46 74 1 g d e .i64 s13 Tryz.underlying46 q9.1 q9.2 [4,17,18] [(4,vs (some g) d e),(19,vp (some (g.add (Int.toNat s13*1))))] ?_
  obtain⟨j,q10,h⟩:=h
  refine T_l1 20 74 q10 [19]<| T_nd 3 [6,20] [(21,vu (IntKind.wrap .u64 j)),(23,vi (IntKind.wrap .i64 (32*s13)))] ?_
  obtain⟨q11,h⟩:=h
  refine T_v1 24 (binN .shl 35 (vu (IntKind.wrap .u64 j)) (vi (IntKind.wrap .i64 (32*s13)))) (vu (ishl .u64 (IntKind.wrap .u64 j) (IntKind.wrap .i64 (32*s13)))) (λw _=>shl_run (P:=Tryz.prog) (t:=35) (k:=.u64) (k':=.i64) (x:=(IntKind.wrap .u64 j)) (y:=(IntKind.wrap .i64 (32*s13))) q11 w) [21,23]<| T_nd 2 [16,24] [(5,vu (ior .u64 x (ishl .u64 (IntKind.wrap .u64 j) (IntKind.wrap .i64 (32*s13)))))] ?_
  refine N_end (by kernel_rfl) ?_
  refine S_blockEnd ?_
  refine S_then ?_
  refine T_rz 7<| T_ed 2 [13] [(13,vi (IntKind.wrap .i64 (s13+1)))] ?_
  exact S_round (((ior .u64 x (ishl .u64 (IntKind.wrap .u64 j) (IntKind.wrap .i64 (32*s13)))),(IntKind.wrap .i64 (s13+1))):Int×Int) sk h
 rw[if_neg c7]at h
 refine T_cFz 14 (decide_eq_false c7) ?_
 refine S_exit 0 (by kernel_rfl) ?_
 refine S_exitThen ?_
 refine S_exitThen ?_
 refine S_exitHere ?_
 refine S_then ?_
 refine T_sz<| T_bz 2<| T_srz 8<| T_nd 4 [4,12,13,14] [(31,.bool (decide ((d:Int)>2)))] ?_
 by_cases c12:(d:Int)>2
 ·rw[if_pos c12]at h
  exact N_bd 31 (decide_eq_true c12)<| T_ed 13 [31] [(27,.bool true)]<| T_tz 27<| T_srz 9<| T_nr 2 [2,3] [vi 0,.bool false] hQ h
 rw[if_neg c12]at h
 refine N_bd 31 (decide_eq_false c12)<| T_nd 4 [31] [(35,.bool (decide (x>1152921504606846976)))] ?_
 by_cases c14:x>1152921504606846976
 ·rw[if_pos c14]at h
  exact N_bd 35 (decide_eq_true c14)<| T_ed 9 [35] [(27,.bool true)]<| T_tz 27<| T_srz 9<| T_nr 2 [2,3] [vi 0,.bool false] hQ h
 rw[if_neg c14]at h
 refine N_bd 35 (decide_eq_false c14)<| T_nd 3 [] [(38,.bool (x==1152921504606846976))] ?_
 by_cases c16:x=1152921504606846976
 ·rw[if_pos c16]at h
  refine N_bd 38 (beq_iff_eq.mpr c16)<| T_nd 1 [] [(39,vp (pa b))] ?_
  obtain⟨m,q18,h⟩:=h
  refine T_l1 40 4 q18 [39]<| T_ed 4 [35,38,40] [(27,.bool (!m))] ?_
  by_cases c19:m=true
  ·rw[if_pos c19]at h
   refine T_cFz 27 (congrArg Bool.not (c19))<| T_srz 10<| T_nd 1 [1,27] [(45,vp (pa b))] ?_
   obtain⟨r,q21,h⟩:=h
   refine T_l1 46 4 q21 [45]<| T_ed 1 [46] [(44,.bool r)] ?_
   by_cases c22:r=true
   ·rw[if_pos c22]at h
    exact T_cTz 44 c22<| T_srz 11<| T_nr 5 [2,3] [vi (IntKind.wrap .i64 (0-(IntKind.wrap .i64 x))),.bool true] hQ h
   rw[if_neg c22]at h
   refine T_cFz 44 (eq_false_of_ne_true c22)<| T_k ?_
   refine S_blockEnd ?_
   refine S_then ?_
   exact T_srz 12<| T_nr 4 [2,3] [vi (IntKind.wrap .i64 x),.bool true] hQ h
  rw[if_neg c19]at h
  exact T_cTz 27 (congrArg Bool.not (eq_false_of_ne_true c19))<| T_srz 9<| T_nr 2 [2,3] [vi 0,.bool false] hQ h
 rw[if_neg c16]at h
 refine N_bd 38 (beq_eq_false_iff_ne.mpr c16)<| T_ed 6 [35,38] [(27,.bool false)]<| T_fz 27<| T_srz 10<| T_nd 1 [1,27] [(45,vp (pa b))] ?_
 obtain⟨s,q24,h⟩:=h
 refine T_l1 46 4 q24 [45]<| T_ed 1 [46] [(44,.bool s)] ?_
 by_cases c25:s=true
 ·rw[if_pos c25]at h
  exact T_cTz 44 c25<| T_srz 11<| T_nr 5 [2,3] [vi (IntKind.wrap .i64 (0-(IntKind.wrap .i64 x))),.bool true] hQ h
 rw[if_neg c25]at h
 refine T_cFz 44 (eq_false_of_ne_true c25)<| T_k ?_
 refine S_blockEnd ?_
 refine S_then ?_
 exact T_srz 12<| T_nr 4 [2,3] [vi (IntKind.wrap .i64 x),.bool true] hQ h
end num_Fix

/-! moraine/num.Of -/
namespace num_Of
def K0:=Func.code Tryz.f71
end num_Of
def num_Of.pt(x:Int)(H:Array Obj)(R:Value->Array Obj->Prop):Prop:=
 ∀(b:Nat) (H1:Array Obj),b=H.size->H1=H.push (.cells #[.bool false,.slice none 0 0] 48)->
 if x<0 then(
 ∀(ak:Nat) (H2:Array Obj),ak=H1.size->H2=H1.push (.cells #[.int .u32 (IntKind.wrap .u32 (IntKind.wrap .u64 (0-(IntKind.wrap .u64 x)))),.int .u32 (IntKind.wrap .u32 (ishr .u64 (IntKind.wrap .u64 (0-(IntKind.wrap .u64 x))) 32))] 74)->
 num_made.C (decide (x<0)) (some (ad ak)) 2 2 H2 (λv H3=> ∃(q:Bool) (k:Option Addr) (m o:Nat) (rb:Int),v=.tuple #[.agg #[.bool q,.slice k m o],.int .i64 rb]/\
 ∀(y:Nat) (H4:Array Obj),y=H3.size->H4=H3.push (.cells #[.bool false,.slice none 0 0] 48)->
 (CanPuts H4 (ad y) 0 2)/\ ∀H5,H5=hputs H4 (ad y) [.bool q,.slice k m o] 0->
 ∃(z:Bool) (s:Option Addr) (t r:Nat),RowAt H5 (ad y) 0 [.bool z,.slice s t r]/\
 (CanPuts H5 (ad b) 0 2)/\ ∀H6,H6=hputs H5 (ad b) [.bool z,.slice s t r] 0->
 ∃(am:Bool) (ag:Option Addr) (ai ah:Nat),RowAt H6 (ad b) 0 [.bool am,.slice ag ai ah]/\
 R (.agg #[.bool am,.slice ag ai ah]) H6))
 else
 ∀(al:Nat) (H7:Array Obj),al=H1.size->H7=H1.push (.cells #[.int .u32 (IntKind.wrap .u32 (IntKind.wrap .u64 x)),.int .u32 (IntKind.wrap .u32 (ishr .u64 (IntKind.wrap .u64 x) 32))] 74)->
 num_made.C (decide (x<0)) (some (ad al)) 2 2 H7 (λao H8=> ∃(f:Bool) (d:Option Addr) (a e:Nat) (af:Int),ao=.tuple #[.agg #[.bool f,.slice d a e],.int .i64 af]/\
 ∀(u:Nat) (H9:Array Obj),u=H8.size->H9=H8.push (.cells #[.bool false,.slice none 0 0] 48)->
 (CanPuts H9 (ad u) 0 2)/\ ∀aj,aj=hputs H9 (ad u) [.bool f,.slice d a e] 0->
 ∃(p:Bool) (i:Option Addr) (g j:Nat),RowAt aj (ad u) 0 [.bool p,.slice i g j]/\
 (CanPuts aj (ad b) 0 2)/\ ∀an,an=hputs aj (ad b) [.bool p,.slice i g j] 0->
 ∃(ae:Bool) (ab:Option Addr) (ac aa:Nat),RowAt an (ad b) 0 [.bool ae,.slice ab ac aa]/\
 R (.agg #[.bool ae,.slice ab ac aa]) an)
namespace num_Of
theorem link{x:Int}{H:Array Obj}{R:Value->Array Obj->Prop}(h:pt x H R):C x H R:=by
 refine T_en K0 25 Tryz.func71 ?_
 intro w0 Q hQ
 unfold pt at h
 refine T_su [(0,vi x)]<| T_srz 0<| T_nw (some 2) (λb=>vp (pa b)) (.cells #[.bool false,vs none 0 0] 48) ?_
 intro b H1 e1 e2
 replace h:=h b H1 e1 e2
 refine T_pd [] [(2,vp (pa b))]<| T_e<| T_srz 1<| T_ed 3 [] [(3,vu (IntKind.wrap .u64 x))]<| T_sz<| T_srz 2<| T_ed 2 [] [(9,.bool (decide (x<0)))] ?_
 by_cases c3:x<0
 ·rw[if_pos c3]at h
  refine T_cTz 9 (decide_eq_true c3)<| T_rz 3<| T_ed 3 [3,9] [(3,vu (IntKind.wrap .u64 (0-(IntKind.wrap .u64 x))))]<| T_srz 4<| T_nd 7 [0,3] [(14,.bool (decide (x<0))),(16,.int .u32 (IntKind.wrap .u32 (IntKind.wrap .u64 (0-(IntKind.wrap .u64 x))))),(19,.int .u32 (IntKind.wrap .u32 (ishr .u64 (IntKind.wrap .u64 (0-(IntKind.wrap .u64 x))) 32)))]<| T_nw (some 20) (λb=>vs (pa b) 2 2) (.cells #[.int .u32 (IntKind.wrap .u32 (IntKind.wrap .u64 (0-(IntKind.wrap .u64 x)))),.int .u32 (IntKind.wrap .u32 (ishr .u64 (IntKind.wrap .u64 (0-(IntKind.wrap .u64 x))) 32))] 74) ?_
  intro ak H2 e5 e6
  replace h:=h ak H2 e5 e6
  refine T_pd [16,19] [(20,vs (pa ak) 2 2)] ?_
  refine T_c (some 21) h ?_;clear h
  rintro v H3 ⟨q,k,m,o,rb,rfl,h⟩
  refine T_pd [14,20] [(21,.tuple #[.agg #[.bool q,vs k m o],vi rb])]<| T_nd 3 [21] [(22,.agg #[.bool q,vs k m o]),(23,vi rb)]<| T_nw (some 4) (λb=>vp (pa b)) (.cells #[.bool false,vs none 0 0] 48) ?_
  intro y H4 e7 e8
  replace h:=h y H4 e7 e8
  refine T_pd [] [(4,vp (pa y))] ?_
  obtain⟨q10,h⟩:=h
  refine T_sta 48 [.bool q,vs k m o] q10 ?_
  intro H5 e9
  replace h:=h H5 e9
  refine T_pd [22] []<| T_ed 1 [23] []<| T_srz 5 ?_
  obtain⟨z,s,t,r,q11,h⟩:=h
  refine T_lr 24 48 q11 [4] ?_
  obtain⟨q13,h⟩:=h
  refine T_sta 48 [.bool z,vs s t r] q13 ?_
  intro H6 e12
  replace h:=h H6 e12
  refine T_pd [24] []<| T_e ?_
  refine S_ret (by kernel_rfl) ?_
  show At _ _ _ _ _ (Q .ret)
  obtain⟨am,ag,ai,ah,q14,h⟩:=h
  exact S_done (fn:=Tryz.f71) [.agg #[.bool am,vs ag ai ah]] hQ (show ResOK _ _ _ [.cell 2 48] _ from .cell (by kernel_rfl) (loadOK_row (λ_=>by kernel_rfl) (λ_=>by kernel_rfl) q14) (.nil)) h
 rw[if_neg c3]at h
 refine T_cFz 9 (decide_eq_false c3)<| T_kt<| T_srz 4<| T_nd 7 [0,3,9] [(14,.bool (decide (x<0))),(16,.int .u32 (IntKind.wrap .u32 (IntKind.wrap .u64 x))),(19,.int .u32 (IntKind.wrap .u32 (ishr .u64 (IntKind.wrap .u64 x) 32)))]<| T_nw (some 20) (λb=>vs (pa b) 2 2) (.cells #[.int .u32 (IntKind.wrap .u32 (IntKind.wrap .u64 x)),.int .u32 (IntKind.wrap .u32 (ishr .u64 (IntKind.wrap .u64 x) 32))] 74) ?_
 intro al H7 e15 e16
 replace h:=h al H7 e15 e16
 refine T_pd [16,19] [(20,vs (pa al) 2 2)] ?_
 refine T_c (some 21) h ?_;clear h
 rintro ao H8 ⟨f,d,a,e,af,rfl,h⟩
 refine T_pd [14,20] [(21,.tuple #[.agg #[.bool f,vs d a e],vi af])]<| T_nd 3 [21] [(22,.agg #[.bool f,vs d a e]),(23,vi af)]<| T_nw (some 4) (λb=>vp (pa b)) (.cells #[.bool false,vs none 0 0] 48) ?_
 intro u H9 e17 e18
 replace h:=h u H9 e17 e18
 refine T_pd [] [(4,vp (pa u))] ?_
 obtain⟨q20,h⟩:=h
 refine T_sta 48 [.bool f,vs d a e] q20 ?_
 intro aj e19
 replace h:=h aj e19
 refine T_pd [22] []<| T_ed 1 [23] []<| T_srz 5 ?_
 obtain⟨p,i,g,j,q21,h⟩:=h
 refine T_lr 24 48 q21 [4] ?_
 obtain⟨q23,h⟩:=h
 refine T_sta 48 [.bool p,vs i g j] q23 ?_
 intro an e22
 replace h:=h an e22
 refine T_pd [24] []<| T_e ?_
 refine S_ret (by kernel_rfl) ?_
 show At _ _ _ _ _ (Q .ret)
 obtain⟨ae,ab,ac,aa,q24,h⟩:=h
 exact S_done (fn:=Tryz.f71) [.agg #[.bool ae,vs ab ac aa]] hQ (show ResOK _ _ _ [.cell 2 48] _ from .cell (by kernel_rfl) (loadOK_row (λ_=>by kernel_rfl) (λ_=>by kernel_rfl) q24) (.nil)) h
end num_Of

/-! moraine/num.May -/
namespace num_May
def K0:=Func.code Tryz.f74
def K2:=cb K0
def K3:=ca K2
end num_May
def num_May.pt(s:Bool)(j:Option Addr)(m k:Nat)(H:Array Obj)(R:Value->Array Obj->Prop):Prop:=
 ∀(b:Nat) (H1:Array Obj),b=H.size->H1=H.push (.cells #[.bool s,.slice j m k] 48)->
 ∃(xB:Option Addr) (xN xC:Nat),hat H1 ((ad b).add 1)=some (.slice xB xN xC)/\
 if(xN:Int)<=48 then(
 ∃(i:Option Addr) (f g:Nat),hat H1 ((ad b).add 1)=some (.slice i f g)/\
 ∃(p:Option Addr) (d q:Nat),hat H1 ((ad b).add 1)=some (.slice p d q)/\
 ∃x:Bool,hat H1 (ad b)=some (.bool x)/\
 ∃(o:Option Addr) (a r:Nat),hat H1 ((ad b).add 1)=some (.slice o a r)/\
 num_trim.C i f g H1 (λv H2=> ∃(u:Option Addr) (e t:Nat),v=.slice u e t/\RowAt H2 ((ad b).add 1) 0 [.slice p d q]/\RowAt H2 (ad b) 0 [.bool x]/\RowAt H2 ((ad b).add 1) 0 [.slice o a r]/\
 if(e:Int)=(d:Int)then(
 if x=true then(
 R (.bool (decide ((a:Int)>0))) H2)
 else
 R (.bool true) H2)
 else
 R (.bool false) H2))
 else
 R (.bool false) H1
namespace num_May
theorem link{s:Bool}{j:Option Addr}{m k:Nat}{H:Array Obj}{R:Value->Array Obj->Prop}(h:pt s j m k H R):C s j m k H R:=by
 refine T_en K0 28 Tryz.func74 ?_
 intro w0 Q hQ
 unfold pt at h
 refine T_su [(0,.agg #[.bool s,vs j m k])]<| T_srz 0<| T_nw (some 1) (λb=>vp (pa b)) (.cells #[.bool s,vs j m k] 48) ?_
 intro b H1 e1 e2
 replace h:=h b H1 e1 e2
 refine⟨[(1,vp (pa b))],pk,?_⟩
 refine T_ed 1 [] []<| T_sz ?_
 obtain⟨xB,xN,xC,q3,h⟩:=h
 by_cases c4:(xN:Int)<=48
 ·rw[if_pos c4]at h
  obtain⟨i,f,g,q6,h⟩:=h
  obtain⟨p,d,q,q7,h⟩:=h
  obtain⟨x,q8,h⟩:=h
  obtain⟨o,a,r,q9,h⟩:=h
  refine S_regionG 1 (Code.ops K3) [(7,((ad b).add 1),[vs xB xN xC]),(7,((ad b).add 1),[vs i f g]),(26,((ad b).add 1),[vs p d q]),(26,(ad b),[.bool x]),(26,((ad b).add 1),[vs o a r])] 26 (bv 26 0) (by kernel_rfl) (by kernel_rfl) (by kernel_rfl) (by kernel_rfl) (by kernel_rfl) (show FactsAt _ _ _ from⟨⟨q3,trivial⟩,⟨q6,trivial⟩,⟨q7,trivial⟩,⟨q8,trivial⟩,⟨q9,trivial⟩,trivial⟩) ?_
  refine T_gp 0 (some 3) (vp (some ((ad b).add 1))) (bv 26 1) [(1,vp (pa b)),(3,vp (some ((ad b).add 1)))]<| T_g1 1 4 (vs xB xN xC) (bv 26 3) [3] (loadN 46 (vp (some ((ad b).add 1)))) (held_one 7 (λ_=>by kernel_rfl) (List.Mem.head _) (.inl (by kernel_rfl)))<| T_gp1 2 5 (vi xN) (bv 26 7) [4]<| T_gp1 3 6 (.bool (decide ((xN:Int)<=48))) (bv 26 15) [5]<| T_gp1 4 7 (.bool (decide ((xN:Int)<=48))) (bv 26 31) [6] ?_
  refine G_bd 7 (decide_eq_true c4) ?_
  refine T_gp1 5 8 (vp (some ((ad b).add 1))) (bv 26 63) []<| T_g1 6 9 (vs i f g) (bv 26 127) [8] (loadN 46 (vp (some ((ad b).add 1)))) (held_one 7 (λ_=>by kernel_rfl) (List.Mem.tail _ (List.Mem.head _)) (.inl (by kernel_rfl)))<| T_gp1 9 12 (vp (some ((ad b).add 1))) (bv 26 639) []<| T_g1 10 13 (vs p d q) (bv 26 1663) [12] (loadN 46 (vp (some ((ad b).add 1)))) (held_one 26 (λ_=>by kernel_rfl) (List.Mem.tail _ (List.Mem.tail _ (List.Mem.head _))) (.inr (by kernel_rfl)))<| T_gp1 11 14 (vi d) (bv 26 3711) [13] ?_
  refine G_call 7 (some 10) (bv 26 3839) 88 #[vs i f g] (by kernel_rfl) (λ_=>by kernel_rfl) h (by kernel_rfl) ?_;clear h
  rintro v H2 ⟨u,e,t,rfl,h⟩
  obtain⟨f10,f11,f12,h⟩:=h
  refine⟨[(1,vp (pa b)),(7,.bool true),(10,vs u e t),(14,vi d)],pk,(show FactsAt _ _ _ from⟨trivial,trivial,f10,f11,f12,trivial⟩),?_⟩
  refine T_g 8 (some 11) (vi e) (bv 26 4095) [(1,vp (pa b)),(7,.bool true),(11,vi e),(14,vi d)] (pure (.value (vi e)):Sem Next) (λ_ _ _ _ _=>rfl)<| T_g1 12 15 (.bool ((e:Int)==(d:Int))) (bv 26 8191) [11,14] (pure (.value (.bool ((e:Int)==(d:Int)))):Sem Next) (λ_ _ _ _ _=>rfl)<| T_g1 13 16 (.bool ((e:Int)==(d:Int))) (bv 26 16383) [7,15] (pure (.value (.bool ((e:Int)==(d:Int)))):Sem Next) (λ_ _ _ _ _=>rfl)<| T_g1 14 17 (.bool ((e:Int)==(d:Int))) (bv 26 32767) [16] (pure (.value (.bool ((e:Int)==(d:Int)))):Sem Next) (λ_ _ _ _ _=>rfl) ?_
  by_cases c13:(e:Int)=(d:Int)
  ·rw[if_pos c13]at h
   refine G_bd 17 (beq_iff_eq.mpr c13) ?_
   refine T_g1 15 18 (vp (pa b)) (bv 26 65535) [] (pure (.value (vp (pa b))):Sem Next) (λ_ _ _ _ _=>rfl)<| T_g1 16 19 (.bool x) (bv 26 131071) [18] (loadN 4 (vp (pa b))) (held_one 26 (λ_=>by kernel_rfl) (List.Mem.tail _ (List.Mem.tail _ (List.Mem.tail _ (List.Mem.head _)))) (.inr (by kernel_rfl)))<| T_g1 17 20 (.bool (!x)) (bv 26 262143) [19] (pure (.value (.bool (!x))):Sem Next) (λ_ _ _ _ _=>rfl)<| T_g1 18 21 (.bool (!x)) (bv 26 524287) [20] (pure (.value (.bool (!x))):Sem Next) (λ_ _ _ _ _=>rfl) ?_
   by_cases c15:x=true
   ·rw[if_pos c15]at h
    have b16:(!x)=false:=congrArg Bool.not (c15)
    have b162:x=true:=c15
    refine G_bd 21 (b:=(!x)) (v:=false) (by simp only[b16,b162,Bool.not_true,Bool.not_false]) ?_
    clear b16 b162
    refine T_g1 19 22 (vp (some ((ad b).add 1))) (bv 26 1048575) [1] (pure (.value (vp (some ((ad b).add 1)))):Sem Next) (λ_ _ _ _ _=>rfl)<| T_g1 20 23 (vs o a r) (bv 26 2097151) [22] (loadN 46 (vp (some ((ad b).add 1)))) (held_one 26 (λ_=>by kernel_rfl) (List.Mem.tail _ (List.Mem.tail _ (List.Mem.tail _ (List.Mem.tail _ (List.Mem.head _))))) (.inr (by kernel_rfl)))<| T_g1 21 24 (vi a) (bv 26 4194303) [23] (pure (.value (vi a)):Sem Next) (λ_ _ _ _ _=>rfl)<| T_g1 22 25 (.bool (decide ((a:Int)>0))) (bv 26 8388607) [24] (pure (.value (.bool (decide ((a:Int)>0)))):Sem Next) (λ_ _ _ _ _=>rfl)<| T_g1 23 26 (.bool (decide ((a:Int)>0))) (bv 26 16777215) [21,25] (pure (.value (.bool (decide ((a:Int)>0)))):Sem Next) (λ_ _ _ _ _=>rfl)<| T_g1 24 27 (.bool (decide ((a:Int)>0))) (bv 26 33554431) [17,26] (pure (.value (.bool (decide ((a:Int)>0)))):Sem Next) (λ_ _ _ _ _=>rfl)<| T_g1 25 2 (.bool (decide ((a:Int)>0))) (bv 26 67108863) [27] (pure (.value (.bool (decide ((a:Int)>0)))):Sem Next) (λ_ _ _ _ _=>rfl) ?_
    refine G_sub [(2,.bool (decide ((a:Int)>0)))] sk ?_
    refine G_end (by kernel_rfl) ?_
    refine S_then ?_
    exact T_ret [2] [.bool (decide ((a:Int)>0))] hQ h
   rw[if_neg c15]at h
   have b16:(!x)=true:=congrArg Bool.not (eq_false_of_ne_true c15)
   have b162:x=false:=eq_false_of_ne_true c15
   refine G_bd 21 (b:=(!x)) (v:=true) (by simp only[b16,b162,Bool.not_true,Bool.not_false]) ?_
   clear b16 b162
   refine T_gsd 19 (some 22) (bv 26 1048575) [1] [(22,undef)]<| T_gsd 20 (some 23) (bv 26 2097151) [22] [(23,undef)]<| T_gsd 21 (some 24) (bv 26 4194303) [23] [(24,undef)]<| T_gsd 22 (some 25) (bv 26 8388607) [24] [(25,undef)]<| T_g1 23 26 (.bool true) (bv 26 16777215) [21,25] (pure (.value (.bool true)):Sem Next) (λ_ _ _ _ _=>rfl)<| T_g1 24 27 (.bool true) (bv 26 33554431) [17,26] (pure (.value (.bool true)):Sem Next) (λ_ _ _ _ _=>rfl)<| T_g1 25 2 (.bool true) (bv 26 67108863) [27] (pure (.value (.bool true)):Sem Next) (λ_ _ _ _ _=>rfl) ?_
   refine G_sub [(2,.bool true)] sk ?_
   refine G_end (by kernel_rfl) ?_
   refine S_then ?_
   exact T_ret [2] [.bool true] hQ h
  rw[if_neg c13]at h
  refine G_bd 17 (beq_eq_false_iff_ne.mpr c13) ?_
  refine T_gsd 15 (some 18) (bv 26 65535) [] [(18,undef)]<| T_gsd 16 (some 19) (bv 26 131071) [18] [(19,undef)]<| T_gsd 17 (some 20) (bv 26 262143) [19] [(20,undef)]<| T_gsd 18 (some 21) (bv 26 524287) [20] [(21,undef)]<| T_gsd 19 (some 22) (bv 26 1048575) [1] [(22,undef)]<| T_gsd 20 (some 23) (bv 26 2097151) [22] [(23,undef)]<| T_gsd 21 (some 24) (bv 26 4194303) [23] [(24,undef)]<| T_gsd 22 (some 25) (bv 26 8388607) [24] [(25,undef)]<| T_gsd 23 (some 26) (bv 26 16777215) [21,25] [(26,undef)] ?_
  refine T_g1 24 27 (.bool false) (bv 26 33554431) [17,26] (pure (.value (.bool false)):Sem Next) (λ_ _ _ _ _=>rfl)<| T_g1 25 2 (.bool false) (bv 26 67108863) [27] (pure (.value (.bool false)):Sem Next) (λ_ _ _ _ _=>rfl) ?_
  refine G_sub [(2,.bool false)] sk ?_
  refine G_end (by kernel_rfl) ?_
  refine S_then ?_
  exact T_ret [2] [.bool false] hQ h
 rw[if_neg c4]at h
 refine S_regionG 1 (Code.ops K3) [(26,((ad b).add 1),[vs xB xN xC])] 26 (bv 26 0) (by kernel_rfl) (by kernel_rfl) (by kernel_rfl) (by kernel_rfl) (by kernel_rfl) (show FactsAt _ _ _ from⟨⟨q3,trivial⟩,trivial⟩) ?_
 refine T_gp 0 (some 3) (vp (some ((ad b).add 1))) (bv 26 1) [(1,vp (pa b)),(3,vp (some ((ad b).add 1)))]<| T_g1 1 4 (vs xB xN xC) (bv 26 3) [3] (loadN 46 (vp (some ((ad b).add 1)))) (held_one 26 (λ_=>by kernel_rfl) (List.Mem.head _) (.inr (by kernel_rfl)))<| T_gp1 2 5 (vi xN) (bv 26 7) [4]<| T_gp1 3 6 (.bool (decide ((xN:Int)<=48))) (bv 26 15) [5]<| T_gp1 4 7 (.bool (decide ((xN:Int)<=48))) (bv 26 31) [6] ?_
 refine G_bd 7 (decide_eq_false c4) ?_
 refine T_gsd 5 (some 8) (bv 26 63) [] [(8,undef)]<| T_gsd 6 (some 9) (bv 26 127) [8] [(9,undef)]<| T_gsd 7 (some 10) (bv 26 255) [9] [(10,undef)]<| T_gsd 8 (some 11) (bv 26 511) [10] [(11,undef)]<| T_gsd 9 (some 12) (bv 26 1023) [] [(12,undef)]<| T_gsd 10 (some 13) (bv 26 2047) [12] [(13,undef)]<| T_gsd 11 (some 14) (bv 26 4095) [13] [(14,undef)]<| T_gsd 12 (some 15) (bv 26 8191) [11,14] [(15,undef)]<| T_gp1 13 16 (.bool false) (bv 26 16383) [7,15] ?_
 refine T_gp1 14 17 (.bool false) (bv 26 32767) [16]<| T_gsd 15 (some 18) (bv 26 65535) [] [(18,undef)]<| T_gsd 16 (some 19) (bv 26 131071) [18] [(19,undef)]<| T_gsd 17 (some 20) (bv 26 262143) [19] [(20,undef)]<| T_gsd 18 (some 21) (bv 26 524287) [20] [(21,undef)]<| T_gsd 19 (some 22) (bv 26 1048575) [1] [(22,undef)]<| T_gsd 20 (some 23) (bv 26 2097151) [22] [(23,undef)]<| T_gsd 21 (some 24) (bv 26 4194303) [23] [(24,undef)]<| T_gsd 22 (some 25) (bv 26 8388607) [24] [(25,undef)] ?_
 refine T_gsd 23 (some 26) (bv 26 16777215) [21,25] [(26,undef)]<| T_gp1 24 27 (.bool false) (bv 26 33554431) [17,26]<| T_gp1 25 2 (.bool false) (bv 26 67108863) [27] ?_
 refine G_sub [(2,.bool false)] sk ?_
 refine G_end (by kernel_rfl) ?_
 refine S_then ?_
 exact T_ret [2] [.bool false] hQ h
end num_May

/-! moraine/num.made -/
namespace num_made
def K0:=Func.code Tryz.f87
end num_made
def num_made.pt(a:Bool)(mB:Option Addr)(mN mC:Nat)(H:Array Obj)(R:Value->Array Obj->Prop):Prop:=
 ∀(b:Nat) (H1:Array Obj),b=H.size->H1=H.push (.cells #[.bool false,.slice none 0 0] 48)->
 num_trim.C mB mN mC H1 (λv H2=> ∃(xB:Option Addr) (xN xC:Nat),v=.slice xB xN xC/\
 if(xN:Int)>48 then(
 (CanPuts H2 (ad b) 0 2)/\ ∀H3,H3=hputs H2 (ad b) [.bool false,.slice none 0 0] 0->
 ∃(z:Bool) (u:Option Addr) (y x:Nat),RowAt H3 (ad b) 0 [.bool z,.slice u y x]/\
 R (.tuple #[.agg #[.bool z,.slice u y x],.int .i64 6]) H3)
 else
 if a=true then(
 slices_Clone_uint32_uint32.C xB xN xC H2 (λaa H4=> ∃(j:Option Addr) (d e:Nat),aa=.slice j d e/\
 (CanPuts H4 (ad b) 0 2)/\ ∀H5,H5=hputs H4 (ad b) [.bool (decide ((xN:Int)>0)),.slice j d e] 0->
 ∃(t:Bool) (q:Option Addr) (r m:Nat),RowAt H5 (ad b) 0 [.bool t,.slice q r m]/\
 R (.tuple #[.agg #[.bool t,.slice q r m],.int .i64 0]) H5))
 else
 slices_Clone_uint32_uint32.C xB xN xC H2 (λab H6=> ∃(f:Option Addr) (g i:Nat),ab=.slice f g i/\
 (CanPuts H6 (ad b) 0 2)/\ ∀H7,H7=hputs H6 (ad b) [.bool false,.slice f g i] 0->
 ∃(s:Bool) (k:Option Addr) (o p:Nat),RowAt H7 (ad b) 0 [.bool s,.slice k o p]/\
 R (.tuple #[.agg #[.bool s,.slice k o p],.int .i64 0]) H7))
namespace num_made
theorem link{a:Bool}{mB:Option Addr}{mN mC:Nat}{H:Array Obj}{R:Value->Array Obj->Prop}(h:pt a mB mN mC H R):C a mB mN mC H R:=by
 refine T_en K0 21 Tryz.func87 ?_
 intro w0 Q hQ
 unfold pt at h
 refine T_su [(0,.bool a),(1,vs mB mN mC)]<| T_srz 0<| T_nw (some 4) (λb=>vp (pa b)) (.cells #[.bool false,vs none 0 0] 48) ?_
 intro b H1 e1 e2
 replace h:=h b H1 e1 e2
 refine T_pd [] [(4,vp (pa b))]<| T_ed 1 [] []<| T_srz 1<| T_nd 1 [1] [(6,vs mB mN mC)] ?_
 refine T_c (some 7) h ?_;clear h
 rintro v H2 ⟨xB,xN,xC,rfl,h⟩
 refine T_pd [6] [(7,vs xB xN xC)]<| T_ed 1 [7] [(1,vs xB xN xC)]<| T_sz<| T_srz 2<| T_ed 3 [] [(10,.bool (decide ((xN:Int)>48)))] ?_
 by_cases c3:(xN:Int)>48
 ·rw[if_pos c3]at h
  refine T_cTz 10 (decide_eq_true c3)<| T_srz 3<| T_nd 1 [0,1,10] [(11,.agg #[.bool false,vs none 0 0])] ?_
  obtain⟨q6,h⟩:=h
  refine T_sta 48 [.bool false,vs none 0 0] q6 ?_
  intro H3 e5
  replace h:=h H3 e5
  refine T_pd [11] []<| T_ed 1 [] [(5,vi 6)] ?_
  refine S_ret (by kernel_rfl) ?_
  show At _ _ _ _ _ (Q .ret)
  obtain⟨z,u,y,x,q7,h⟩:=h
  exact S_done (fn:=Tryz.f87) [.agg #[.bool z,vs u y x],vi 6] hQ (show ResOK _ _ _ [.cell 4 48,.tmp 5] _ from .cell (by kernel_rfl) (loadOK_row (λ_=>by kernel_rfl) (λ_=>by kernel_rfl) q7) (.tmp (by kernel_rfl) (.nil))) h
 rw[if_neg c3]at h
 refine T_cFz 10 (decide_eq_false c3)<| T_kt<| T_srz 4<| T_nd 2 [0,10] [(13,.bool a)] ?_
 by_cases c8:a=true
 ·rw[if_pos c8]at h
  refine N_bd 13 c8<| T_nd 5 [1,13] [(17,.bool (decide ((xN:Int)>0))),(18,vs xB xN xC)] ?_
  refine T_c (some 19) h ?_;clear h
  rintro aa H4 ⟨j,d,e,rfl,h⟩
  refine T_pd [18] [(19,vs j d e)]<| T_nd 1 [17,19] [(20,.agg #[.bool (decide ((xN:Int)>0)),vs j d e])] ?_
  obtain⟨q11,h⟩:=h
  refine T_sta 48 [.bool (decide ((xN:Int)>0)),vs j d e] q11 ?_
  intro H5 e10
  replace h:=h H5 e10
  refine T_pd [20] []<| T_ed 1 [] [(5,vi 0)] ?_
  refine S_ret (by kernel_rfl) ?_
  show At _ _ _ _ _ (Q .ret)
  obtain⟨t,q,r,m,q12,h⟩:=h
  exact S_done (fn:=Tryz.f87) [.agg #[.bool t,vs q r m],vi 0] hQ (show ResOK _ _ _ [.cell 4 48,.tmp 5] _ from .cell (by kernel_rfl) (loadOK_row (λ_=>by kernel_rfl) (λ_=>by kernel_rfl) q12) (.tmp (by kernel_rfl) (.nil))) h
 rw[if_neg c8]at h
 refine N_bd 13 (eq_false_of_ne_true c8)<| T_nd 5 [1,13] [(17,.bool false),(18,vs xB xN xC)] ?_
 refine T_c (some 19) h ?_;clear h
 rintro ab H6 ⟨f,g,i,rfl,h⟩
 refine T_pd [18] [(19,vs f g i)]<| T_nd 1 [17,19] [(20,.agg #[.bool false,vs f g i])] ?_
 obtain⟨q14,h⟩:=h
 refine T_sta 48 [.bool false,vs f g i] q14 ?_
 intro H7 e13
 replace h:=h H7 e13
 refine T_pd [20] []<| T_ed 1 [] [(5,vi 0)] ?_
 refine S_ret (by kernel_rfl) ?_
 show At _ _ _ _ _ (Q .ret)
 obtain⟨s,k,o,p,q15,h⟩:=h
 exact S_done (fn:=Tryz.f87) [.agg #[.bool s,vs k o p],vi 0] hQ (show ResOK _ _ _ [.cell 4 48,.tmp 5] _ from .cell (by kernel_rfl) (loadOK_row (λ_=>by kernel_rfl) (λ_=>by kernel_rfl) q15) (.tmp (by kernel_rfl) (.nil))) h
end num_made

/-! moraine/num.trim -/
namespace num_trim
def K0:=Func.code Tryz.f88
def K2:=cb K0
def K4:=cb K2
def K5:=ca K4
def K7:=ca K5
def K8:=ca K7
end num_trim
def num_trim.pt(mB:Option Addr)(mN mC:Nat)(H:Array Obj)(R:Value->Array Obj->Prop):Prop:=
 ∃(I9:Int->Array Obj->Prop) (m9:Int->Array Obj->Nat),I9 (mN:Int) H/\ ∀(nv:Int) (H1:Array Obj),I9 nv H1->
 if nv>0 then(
 ∃d:Addr,mB=some d/\
 ((0:Int)<=(IntKind.wrap .i64 (nv-1))/\(IntKind.wrap .i64 (nv-1))< (mN:Int))/\
 ∃x:Int,hat H1 (d.add (Int.toNat (IntKind.wrap .i64 (nv-1))*1))=some (.int .u32 x)/\
 if x=0 then(
 (I9 (IntKind.wrap .i64 (nv-1)) H1/\m9 (IntKind.wrap .i64 (nv-1)) H1<m9 nv H1))
 else
 ∃(lo hi:Nat),lo=0/\nv=(hi:Int)/\lo<=hi/\hi<=mC/\
 ∀sl:Option Addr,sl=(if mC=lo then(some d)else Option.map (λa:Addr=>a.add (lo*1)) (some d))->
 R (.slice sl (hi-lo) (mC-lo)) H1)
 else
 ∃(b e:Nat),b=0/\nv=(e:Int)/\b<=e/\e<=mC/\
 ∀f:Option Addr,f=(if mC=b then mB else Option.map (λa:Addr=>a.add (b*1)) mB)->
 R (.slice f (e-b) (mC-b)) H1
namespace num_trim
theorem link{mB:Option Addr}{mN mC:Nat}{H:Array Obj}{R:Value->Array Obj->Prop}(h:pt mB mN mC H R):C mB mN mC H R:=by
 refine T_en K0 21 Tryz.func88 ?_
 intro w0 Q hQ
 unfold pt at h
 refine T_su [(0,vs mB mN mC)]<| T_srz 0<| T_ed 1 [] []<| T_srz 1<| T_ed 3 [] [(3,vi mN)]<| T_sz<| T_bz 0 ?_
 obtain⟨I9,m9,i1,i2⟩:=h
 refine S_loop (x:=K8) (σ:=Int) (λs_=> [(0,vs mB mN mC),(3,vi s_)]) (λs_ H=>I9 s_ H) (λs_ H=>m9 s_ H) ((mN:Int):Int) (by kernel_rfl) i1 sk ?_
 rintro nv H1 i3
 have h:=i2 nv H1 i3
 refine T_su [(0,vs mB mN mC),(3,vi nv)]<| T_sz<| T_srz 2<| T_nd 3 [] [(8,.bool (decide (nv>0)))] ?_
 by_cases c4:nv>0
 ·rw[if_pos c4]at h
  refine N_bd 8 (decide_eq_true c4)<| T_nd 3 [] [(9,vs mB mN mC),(11,vi (IntKind.wrap .i64 (nv-1)))] ?_
  obtain⟨d,rfl,h⟩:=h
  obtain⟨q6,h⟩:=h
  refine T_xd (some 12) 46 74 1 d mN mC .i64 (IntKind.wrap .i64 (nv-1)) Tryz.underlying46 q6.1 q6.2 [0,9,11] [(0,vs (some d) mN mC),(12,vp (some (d.add (Int.toNat (IntKind.wrap .i64 (nv-1))*1))))] ?_
  obtain⟨x,q7,h⟩:=h
  refine T_l1 13 74 q7 [12]<| T_ed 2 [8,13] [(15,.bool (x==0))] ?_
  by_cases c8:x=0
  ·rw[if_pos c8]at h
   refine T_cTz 15 (beq_iff_eq.mpr c8)<| T_kt<| T_bz 1<| T_rz 3<| T_nd 3 [3,15] [(3,vi (IntKind.wrap .i64 (nv-1)))] ?_
   refine N_end (by kernel_rfl) ?_
   refine S_blockEnd ?_
   refine S_then ?_
   exact S_round ((IntKind.wrap .i64 (nv-1)):Int) sk h
  rw[if_neg c8]at h
  refine T_cFz 15 (beq_eq_false_iff_ne.mpr c8) ?_
  refine S_exit 0 (by kernel_rfl) ?_
  refine S_exitThen ?_
  refine S_exitThen ?_
  refine S_exitHere ?_
  refine S_then ?_
  refine T_srz 4<| T_n 2 [(18,vs (some d) mN mC),(19,vi nv)] ?_
  obtain⟨lo,hi,q10,q11,q12,q13,h⟩:=h
  obtain⟨sl,e14⟩: ∃B,B=(if mC=lo then(some d)else Option.map (λa:Addr=>a.add (lo*1)) (some d)):=⟨_,rfl⟩
  replace h:=h sl e14
  refine T_v1 20 (sliceN 46 (vs (some d) mN mC) none (some (vi nv)) none) (vs sl (hi-lo) (mC-lo)) (λw _=>(slice_run (P:=Tryz.prog) (t:=46) (elem:=74) (sz:=1) (a:=(some d)) (len:=mN) (cap:=mC) none (some (vi nv)) lo hi Tryz.underlying46 (λ_=>by kernel_rfl) (.inl ⟨rfl,q10⟩) (.inr ⟨.i64,by rw[q11]⟩) q12 q13 w).trans (by rw[e14];try rfl)) [18,19] ?_
  exact T_nr 1 [2] [vs sl (hi-lo) (mC-lo)] hQ h
 rw[if_neg c4]at h
 refine N_bd 8 (decide_eq_false c4)<| T_ed 7 [8] [(15,.bool false)]<| T_fz 15 ?_
 refine S_exit 0 (by kernel_rfl) ?_
 refine S_exitThen ?_
 refine S_exitThen ?_
 refine S_exitHere ?_
 refine S_then ?_
 refine T_srz 4<| T_n 2 [(18,vs mB mN mC),(19,vi nv)] ?_
 obtain⟨b,e,q15,q16,q17,q18,h⟩:=h
 obtain⟨f,e19⟩: ∃B,B=(if mC=b then mB else Option.map (λa:Addr=>a.add (b*1)) mB):=⟨_,rfl⟩
 replace h:=h f e19
 refine T_v1 20 (sliceN 46 (vs mB mN mC) none (some (vi nv)) none) (vs f (e-b) (mC-b)) (λw _=>(slice_run (P:=Tryz.prog) (t:=46) (elem:=74) (sz:=1) (a:=mB) (len:=mN) (cap:=mC) none (some (vi nv)) b e Tryz.underlying46 (λ_=>by kernel_rfl) (.inl ⟨rfl,q15⟩) (.inr ⟨.i64,by rw[q16]⟩) q17 q18 w).trans (by rw[e19];try rfl)) [18,19] ?_
 exact T_nr 1 [2] [vs f (e-b) (mC-b)] hQ h
end num_trim

end Go.Proofs.YtibpklpgmgakcaaGreatDoor
