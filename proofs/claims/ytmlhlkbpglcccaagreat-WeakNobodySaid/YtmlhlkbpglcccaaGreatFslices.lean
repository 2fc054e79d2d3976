/- Printed: what each function asks, and that it is sound. -/
import Derived.Test.YtmlhlkbpglcccaaGreatFnsC
set_option linter.unusedSimpArgs false
set_option linter.unusedVariables false
set_option maxRecDepth 100000
set_option maxHeartbeats 1000000
noncomputable section
namespace Go.Proofs.YtmlhlkbpglcccaaGreat
open Go
/-! slices.Clone[[]moraine/api.Entry,moraine/api.Entry] -/
namespace aR
def K0:=Func.code Tryz.f56
end aR
def aR.pt(sB:zW)(sN sC:Nat)(H:zV)(R:zj):Prop:=
 ei sB (
 R (.slice none 0 0) H) (λa=>
 ∀(b:Nat) (H1:zV),b=H.size->H1=H.push (.cells #[] 36)->
 fc 2 36 16 [.int .u64 0,.int .u64 0] (some (ad b)) 0 0 (some a) sN H1 (λap d H2=>
 R (.slice ap (0+sN) d) H2))
namespace aR
theorem link{sB:zW}{sN sC:Nat}{H:zV}{R:zj}(h:pt sB sN sC H R):C sB sN sC H R:=by
 refine T_en K0 8 Tryz.func56 ?_
 intro w0 Q hQ
 unfold pt at h
 refine T_su [(0,vs sB sN sC)]<| ar 0<| T_ed 1 [] []<| T_sz<| ar 1<| T_nd 1 [] [(3,vs sB sN sC)] ?_
 rcases sB with _ | a
 ·rw[onPtr_none]at h
  exact T_ne 1 [(0,vs none sN sC),(4,.bool true)]<| T_tz 4<| ar 2<| T_nr 1 [2] [vs none 0 0] hQ h
 rw[onPtr_some]at h
 refine T_ne 1 [(0,vs (some a) sN sC),(4,.bool false)]<| T_fz 4<| T_kt<| ar 3<| T_ud [4] []<| T_nw (some 5) (λb=>vs (pa b) 0 0) (.cells #[] 36) ?_
 intro b H1 e1 e2
 replace h:=h b H1 e1 e2
 refine T_pd [] [(5,vs (pa b) 0 0)]<| T_nd 1 [0] [(6,vs (some a) sN sC)]<| N_op (some 7) (eS #[31,31] 31 #[vs (pa b) 0 0,vs (some a) sN sC]) _ (λ_=>by kernel_rfl) (eQ (T:=36) (sz:=2) (bytes:=16) (zero:=(.agg #[vu 0,vu 0]:Value)) Tryz.underlying31 Tryz.underlying31 rfl (show Tryz.prog.info? 36=some Tryz.t36 from by kernel_rfl) (by kernel_rfl) (by kernel_rfl) (by decide) (by kernel_rfl) (by first | exact h | (simpa only[Value.cells,List.toList_toArray]using h))) ?_;clear h
 rintro _ H2 ⟨ap,d,rfl,h⟩
 refine⟨[(7,vs ap (0+sN) d)],pk,?_⟩
 exact T_nr 1 [2] [vs ap (0+sN) d] hQ h
end aR

/-! slices.Clone[[]moraine/api.Word,moraine/api.Word] -/
namespace aV
def K0:=Func.code Tryz.f63
end aV
def aV.pt(sB:zW)(sN sC:Nat)(H:zV)(R:zj):Prop:=
 ei sB (
 R (.slice none 0 0) H) (λa=>
 ∀(b:Nat) (H1:zV),b=H.size->H1=H.push (.cells #[] 28)->
 fc 1 28 8 [.int .u64 0] (some (ad b)) 0 0 (some a) sN H1 (λap d H2=>
 R (.slice ap (0+sN) d) H2))
namespace aV
theorem link{sB:zW}{sN sC:Nat}{H:zV}{R:zj}(h:pt sB sN sC H R):C sB sN sC H R:=by
 refine T_en K0 8 Tryz.func63 ?_
 intro w0 Q hQ
 unfold pt at h
 refine T_su [(0,vs sB sN sC)]<| ar 0<| T_ed 1 [] []<| T_sz<| ar 1<| T_nd 1 [] [(3,vs sB sN sC)] ?_
 rcases sB with _ | a
 ·rw[onPtr_none]at h
  exact T_ne 1 [(0,vs none sN sC),(4,.bool true)]<| T_tz 4<| ar 2<| T_nr 1 [2] [vs none 0 0] hQ h
 rw[onPtr_some]at h
 refine T_ne 1 [(0,vs (some a) sN sC),(4,.bool false)]<| T_fz 4<| T_kt<| ar 3<| T_ud [4] []<| T_nw (some 5) (λb=>vs (pa b) 0 0) (.cells #[] 28) ?_
 intro b H1 e1 e2
 replace h:=h b H1 e1 e2
 refine T_pd [] [(5,vs (pa b) 0 0)]<| T_nd 1 [0] [(6,vs (some a) sN sC)]<| N_op (some 7) (eS #[32,32] 32 #[vs (pa b) 0 0,vs (some a) sN sC]) _ (λ_=>by kernel_rfl) (eQ (T:=28) (sz:=1) (bytes:=8) (zero:=(vu 0:Value)) Tryz.underlying32 Tryz.underlying32 rfl (show Tryz.prog.info? 28=some Tryz.t28 from by kernel_rfl) (by kernel_rfl) (by kernel_rfl) (by decide) (by kernel_rfl) (by first | exact h | (simpa only[Value.cells,List.toList_toArray]using h))) ?_;clear h
 rintro _ H2 ⟨ap,d,rfl,h⟩
 refine⟨[(7,vs ap (0+sN) d)],pk,?_⟩
 exact T_nr 1 [2] [vs ap (0+sN) d] hQ h
end aV

/-! slices.Contains[[]int,int] -/
namespace bG
def K0:=Func.code Tryz.f76
end bG
def bG.pt(sB:zW)(sN sC:Nat)(v:Int)(H:zV)(R:zj):Prop:=
 bY.C sB sN sC v H (λa H1=> ∃x:Int,a=.int .i64 x/\
 R (.bool (decide (x>=0))) H1)
namespace bG
theorem link{sB:zW}{sN sC:Nat}{v:Int}{H:zV}{R:zj}(h:pt sB sN sC v H R):C sB sN sC v H R:=by
 refine T_en K0 9 Tryz.func76 ?_
 intro w0 Q hQ
 unfold pt at h
 refine T_su [(0,vs sB sN sC),(1,vi v)]<| ar 0<| T_ed 1 [] []<| ar 1<| T_n 2 [(5,vs sB sN sC),(6,vi v)]<| T_c (some 7) h ?_;clear h
 rintro a H1 ⟨x,rfl,h⟩
 refine⟨[(7,vi x)],pk,?_⟩
 exact T_nr 2 [4] [.bool (decide (x>=0))] hQ h
end bG

/-! slices.Index[[]int,int] -/
namespace bY
def K0:=Func.code Tryz.f105
def K2:=cb K0
def K3:=ca K2
def K6:=cb K3
def K7:=ca K6
def K8:=ca K7
end bY
def bY.pt(sB:zW)(sN sC:Nat)(v:Int)(H:zV)(R:zj):Prop:=
 ∃(I9:zk) (m9:Int->zV->Nat),I9 0 H/\ ∀(s8:Int) (H1:zV),I9 s8 H1->
 if s8< (sN:Int)then(
 ∃b:Addr,sB=some b/\
 zv s8 sN/\
 ∃x:Int,hat H1 (b.add (Int.toNat s8*1))=some (.int .i64 x)/\
 if v=x then(
 R (.int .i64 s8) H1)
 else
 (I9 (zY (s8+1)) H1/\m9 (zY (s8+1)) H1<m9 s8 H1))
 else
 R (.int .i64 (-1)) H1
namespace bY
theorem link{sB:zW}{sN sC:Nat}{v:Int}{H:zV}{R:zj}(h:pt sB sN sC v H R):C sB sN sC v H R:=by
 refine T_en K0 19 Tryz.func105 ?_
 intro w0 Q hQ
 unfold pt zY at h
 refine T_su [(0,vs sB sN sC),(1,vi v)]<| ar 0<| T_ed 1 [] []<| T_sz<| ar 1<| T_ed 3 [] [(7,vi sN),(8,vi 0)]<| T_bz 0 ?_
 obtain⟨I9,m9,i1,i2⟩:=h
 refine de (x:=K8) (σ:=Int) (λs_=> [(0,vs sB sN sC),(1,vi v),(7,vi sN),(8,vi s_)]) (λs_ H=>I9 s_ H) (λs_ H=>m9 s_ H) (0:Int) (by kernel_rfl) i1 sk ?_
 rintro s8 H1 i3
 have h:=i2 s8 H1 i3
 refine T_su [(0,vs sB sN sC),(1,vi v),(7,vi sN),(8,vi s8)]<| ar 2<| T_ed 1 [] [(9,.bool (decide (s8< (sN:Int))))]<| T_sz ?_
 by_cases c4:s8< (sN:Int)
 ·rw[if_pos c4]at h
  refine aI 9 (zX c4)<| T_kt<| T_sz<| T_bz 1<| ar 3<| T_ed 2 [9] [(5,vi s8)]<| ar 4<| T_nd 3 [] [(11,vi v),(12,vs sB sN sC),(13,vi s8)] ?_
  obtain⟨b,rfl,q6,h⟩:=h
  refine T_xd (some 14) 79 3 1 b sN sC .i64 s8 Tryz.underlying79 q6.1 q6.2 [0,12,13] [(0,vs (some b) sN sC),(14,vp (some (b.add (Int.toNat s8*1))))] ?_
  obtain⟨x,q7,h⟩:=h
  refine T_l1 15 3 q7 [14]<| T_ed 1 [11,15] [(16,.bool (v==x))] ?_
  by_cases c8:v=x
  ·rw[if_pos c8]at h
   exact aI 16 (zK c8)<| ar 5<| T_nr 2 [4] [vi s8] hQ h
  rw[if_neg c8]at h
  exact aJ 16 (zJ c8)<| T_k<| aD<| aE<| T_rz 6<| T_ed 2 [5,8,16] [(8,vi (zY (s8+1)))]<| aW ((zY (s8+1)):Int) sk h
 rw[if_neg c4]at h
 exact aJ 9 (zQ c4)<| zz 0<| aA<| aA<| aO<| aE<| ar 7<| T_nr 1 [4] [vi (-1)] hQ h
end bY

