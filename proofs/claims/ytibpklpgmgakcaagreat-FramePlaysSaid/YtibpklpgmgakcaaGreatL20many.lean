/- Printed: what each function asks, and that it is sound. -/
import Derived.Test.YtibpklpgmgakcaaGreatFnsC
set_option linter.unusedSimpArgs false
set_option linter.unusedVariables false
set_option maxHeartbeats 1000000
noncomputable section
namespace Go.Proofs.YtibpklpgmgakcaaGreat
open Go
/-! moraine/morainelaw20.many -/
namespace morainelaw20_many
def K0:=Func.code Tryz.f6
def K2:=cb K0
def K4:=cb K2
def K11:=ca K4
def K14:=cb K11
def K15:=ca K14
def K16:=ca K15
end morainelaw20_many
def morainelaw20_many.pt(lB:Option Addr)(lN lC:Nat)(H:Array Obj)(R:Value->Array Obj->Prop):Prop:=
 if(lN:Int)>200 then(
 R (.bool true) H)
 else
 ∃(d:Int->Array Obj->Prop) (m17:Int->Array Obj->Nat),d 0 H/\ ∀(i:Int) (H1:Array Obj),d i H1->
 if i< (lN:Int)then(
 ∃b:Addr,lB=some b/\
 ((0:Int)<=i/\i< (lN:Int))/\
 ∃(xB:Option Addr) (xN xC:Nat),hat H1 ((b.add (Int.toNat i*9)).add 8)=some (.slice xB xN xC)/\
 if(xN:Int)>100 then(
 R (.bool true) H1)
 else
 (d (IntKind.wrap .i64 (i+1)) H1/\m17 (IntKind.wrap .i64 (i+1)) H1<m17 i H1))
 else
 R (.bool false) H1
namespace morainelaw20_many
set_option maxRecDepth 100000 in
theorem link{lB:Option Addr}{lN lC:Nat}{H:Array Obj}{R:Value->Array Obj->Prop}(h:pt lB lN lC H R):C lB lN lC H R:=by
 refine T_en K0 20 Tryz.func6 ?_
 intro w0 Q hQ
 unfold pt at h
 refine T_su [(0,vs lB lN lC)]<| T_srz 0<| T_ed 1 [] []<| T_sz<| T_srz 1<| T_ed 3 [] [(6,.bool (decide ((lN:Int)>200)))] ?_
 by_cases c1:(lN:Int)>200
 ·rw[if_pos c1]at h
  exact T_cTz 6 (decide_eq_true c1)<| T_srz 2<| T_nr 1 [2] [.bool true] hQ h
 rw[if_neg c1]at h
 refine T_cFz 6 (decide_eq_false c1)<| T_kt<| T_sz<| T_srz 3<| T_ed 1 [6] [(3,vi 0)]<| T_bz 0 ?_
 obtain⟨d,m17,i3,i4⟩:=h
 refine S_loop (x:=K16) (σ:=Int) (λs_=> [(0,vs lB lN lC),(3,vi s_)]) (λs_ H=>d s_ H) (λs_ H=>m17 s_ H) (0:Int) (by kernel_rfl) i3 sk ?_
 rintro i H1 i5
 have h:=i4 i H1 i5
 refine T_su [(0,vs lB lN lC),(3,vi i)]<| T_sz<| T_srz 4<| T_ed 4 [] [(10,.bool (decide (i< (lN:Int))))] ?_
 by_cases c6:i< (lN:Int)
 ·rw[if_pos c6]at h
  refine T_cTz 10 (decide_eq_true c6)<| T_kt<| T_sz<| T_bz 1<| T_srz 6<| T_nd 2 [10] [(13,vs lB lN lC),(14,vi i)] ?_
  obtain⟨b,rfl,h⟩:=h
  obtain⟨q8,h⟩:=h
  refine T_ix (some 15) 22 40 9 b lN lC .i64 i Tryz.underlying22 q8.1 q8.2 [(0,vs (some b) lN lC),(3,vi i),(15,vp (some (b.add (Int.toNat i*9))))]<| T_nd 1 [15] [(16,vp (some ((b.add (Int.toNat i*9)).add 8)))] ?_
  obtain⟨xB,xN,xC,q9,h⟩:=h
  refine T_l1 17 38 q9 [16]<| T_ed 2 [17] [(19,.bool (decide ((xN:Int)>100)))] ?_
  by_cases c10:(xN:Int)>100
  ·rw[if_pos c10]at h
   exact T_cTz 19 (decide_eq_true c10)<| T_srz 7<| T_nr 1 [2] [.bool true] hQ h
  rw[if_neg c10]at h
  refine T_cFz 19 (decide_eq_false c10)<| T_k ?_
  refine S_blockEnd ?_
  refine S_then ?_
  refine T_rz 5<| T_ed 3 [3,19] [(3,vi (IntKind.wrap .i64 (i+1)))] ?_
  exact S_round ((IntKind.wrap .i64 (i+1)):Int) sk h
 rw[if_neg c6]at h
 refine T_cFz 10 (decide_eq_false c6) ?_
 refine S_exit 0 (by kernel_rfl) ?_
 refine S_exitThen ?_
 refine S_exitThen ?_
 refine S_exitHere ?_
 refine S_then ?_
 exact T_srz 8<| T_nr 1 [2] [.bool false] hQ h
end morainelaw20_many

end Go.Proofs.YtibpklpgmgakcaaGreat
