/- Printed: what each function asks, and that it is sound. -/
import Derived.Test.YtibpklpgmgakcaaGreatFnsC
set_option linter.unusedSimpArgs false
set_option linter.unusedVariables false
set_option maxRecDepth 100000
set_option maxHeartbeats 1000000
noncomputable section
namespace Go.Proofs.YtibpklpgmgakcaaGreat
open Go
/-! slices.Contains[[]int,int] -/
namespace slices_Contains_int_int
def K0:=Func.code Tryz.f101
end slices_Contains_int_int
def slices_Contains_int_int.pt(sB:Option Addr)(sN sC:Nat)(v:Int)(H:Array Obj)(R:Value->Array Obj->Prop):Prop:=
 slices_Index_int_int.C sB sN sC v H (λa H1=> ∃x:Int,a=.int .i64 x/\
 R (.bool (decide (x>=0))) H1)
namespace slices_Contains_int_int
theorem link{sB:Option Addr}{sN sC:Nat}{v:Int}{H:Array Obj}{R:Value->Array Obj->Prop}(h:pt sB sN sC v H R):C sB sN sC v H R:=by
 refine T_en K0 9 Tryz.func101 ?_
 intro w0 Q hQ
 unfold pt at h
 refine T_su [(0,vs sB sN sC),(1,vi v)]<| T_srz 0<| T_ed 1 [] []<| T_srz 1<| T_n 2 [(5,vs sB sN sC),(6,vi v)] ?_
 refine T_c (some 7) h ?_;clear h
 rintro a H1 ⟨x,rfl,h⟩
 refine⟨[(7,vi x)],pk,?_⟩
 exact T_nr 2 [4] [.bool (decide (x>=0))] hQ h
end slices_Contains_int_int

/-! slices.Index[[]int,int] -/
namespace slices_Index_int_int
def K0:=Func.code Tryz.f157
def K2:=cb K0
def K3:=ca K2
def K6:=cb K3
def K7:=ca K6
def K8:=ca K7
end slices_Index_int_int
def slices_Index_int_int.pt(sB:Option Addr)(sN sC:Nat)(v:Int)(H:Array Obj)(R:Value->Array Obj->Prop):Prop:=
 ∃(I9:Int->Array Obj->Prop) (m9:Int->Array Obj->Nat),I9 0 H/\ ∀(s8:Int) (H1:Array Obj),I9 s8 H1->
 if s8< (sN:Int)then(
 ∃b:Addr,sB=some b/\
 ((0:Int)<=s8/\s8< (sN:Int))/\
 ∃x:Int,hat H1 (b.add (Int.toNat s8*1))=some (.int .i64 x)/\
 if v=x then(
 R (.int .i64 s8) H1)
 else
 (I9 (IntKind.wrap .i64 (s8+1)) H1/\m9 (IntKind.wrap .i64 (s8+1)) H1<m9 s8 H1))
 else
 R (.int .i64 (-1)) H1
namespace slices_Index_int_int
theorem link{sB:Option Addr}{sN sC:Nat}{v:Int}{H:Array Obj}{R:Value->Array Obj->Prop}(h:pt sB sN sC v H R):C sB sN sC v H R:=by
 refine T_en K0 19 Tryz.func157 ?_
 intro w0 Q hQ
 unfold pt at h
 refine T_su [(0,vs sB sN sC),(1,vi v)]<| T_srz 0<| T_ed 1 [] []<| T_sz<| T_srz 1<| T_ed 3 [] [(7,vi sN),(8,vi 0)]<| T_bz 0 ?_
 obtain⟨I9,m9,i1,i2⟩:=h
 refine S_loop (x:=K8) (σ:=Int) (λs_=> [(0,vs sB sN sC),(1,vi v),(7,vi sN),(8,vi s_)]) (λs_ H=>I9 s_ H) (λs_ H=>m9 s_ H) (0:Int) (by kernel_rfl) i1 sk ?_
 rintro s8 H1 i3
 have h:=i2 s8 H1 i3
 refine T_su [(0,vs sB sN sC),(1,vi v),(7,vi sN),(8,vi s8)]<| T_srz 2<| T_ed 1 [] [(9,.bool (decide (s8< (sN:Int))))]<| T_sz ?_
 by_cases c4:s8< (sN:Int)
 ·rw[if_pos c4]at h
  refine T_cTz 9 (decide_eq_true c4)<| T_kt<| T_sz<| T_bz 1<| T_srz 3<| T_ed 2 [9] [(5,vi s8)]<| T_srz 4<| T_nd 3 [] [(11,vi v),(12,vs sB sN sC),(13,vi s8)] ?_
  obtain⟨b,rfl,h⟩:=h
  obtain⟨q6,h⟩:=h
  refine T_xd (some 14) 62 3 1 b sN sC .i64 s8 Tryz.underlying62 q6.1 q6.2 [0,12,13] [(0,vs (some b) sN sC),(14,vp (some (b.add (Int.toNat s8*1))))] ?_
  obtain⟨x,q7,h⟩:=h
  refine T_l1 15 3 q7 [14]<| T_ed 1 [11,15] [(16,.bool (v==x))] ?_
  by_cases c8:v=x
  ·rw[if_pos c8]at h
   exact T_cTz 16 (beq_iff_eq.mpr c8)<| T_srz 5<| T_nr 2 [4] [vi s8] hQ h
  rw[if_neg c8]at h
  refine T_cFz 16 (beq_eq_false_iff_ne.mpr c8)<| T_k ?_
  refine S_blockEnd ?_
  refine S_then ?_
  refine T_rz 6<| T_ed 2 [5,8,16] [(8,vi (IntKind.wrap .i64 (s8+1)))] ?_
  exact S_round ((IntKind.wrap .i64 (s8+1)):Int) sk h
 rw[if_neg c4]at h
 refine T_cFz 9 (decide_eq_false c4) ?_
 refine S_exit 0 (by kernel_rfl) ?_
 refine S_exitThen ?_
 refine S_exitThen ?_
 refine S_exitHere ?_
 refine S_then ?_
 exact T_srz 7<| T_nr 1 [4] [vi (-1)] hQ h
end slices_Index_int_int

end Go.Proofs.YtibpklpgmgakcaaGreat
