/- Printed: what each function asks, and that it is sound. -/
import Derived.Test.YtibpklpgmgakcaaGreatFnsC
set_option linter.unusedSimpArgs false
set_option linter.unusedVariables false
set_option maxHeartbeats 1000000
noncomputable section
namespace Go.Proofs.YtibpklpgmgakcaaGreat
open Go
/-! (*moraine/obj.Heap).Epoch -/
namespace obj_Heap_Epoch
def K0:=Func.code Tryz.f27
end obj_Heap_Epoch
def obj_Heap_Epoch.pt(hv:Option Addr)(H:Array Obj)(R:Value->Array Obj->Prop):Prop:=
 obj_Heap_none.C hv H (λv H1=> ∃x:Bool,v=.bool x/\
 if x=true then(
 R (.int .u64 0) H1)
 else
 ∃b:Addr,hv=some b/\
 ∃a:Int,hat H1 (b.add 3)=some (.int .u64 a)/\
 R (.int .u64 a) H1)
namespace obj_Heap_Epoch
set_option maxRecDepth 100000 in
theorem link{hv:Option Addr}{H:Array Obj}{R:Value->Array Obj->Prop}(h:pt hv H R):C hv H R:=by
 refine T_en K0 9 Tryz.func27 ?_
 intro w0 Q hQ
 unfold pt at h
 refine T_su [(0,vp hv)]<| T_srz 0<| T_ed 1 [] []<| T_sz<| T_srz 1<| T_nd 1 [] [(3,vp hv)] ?_
 refine T_c (some 4) h ?_;clear h
 rintro v H1 ⟨x,rfl,h⟩
 refine T_pd [3] [(4,.bool x)]<| T_e ?_
 by_cases c1:x=true
 ·rw[if_pos c1]at h
  exact T_cTz 4 c1<| T_srz 2<| T_nr 1 [2] [vu 0] hQ h
 rw[if_neg c1]at h
 refine T_cFz 4 (eq_false_of_ne_true c1)<| T_kt<| T_srz 3<| T_n 1 [(5,vp hv)] ?_
 obtain⟨b,rfl,h⟩:=h
 refine T_n 2 [(7,vp (some (b.add 3)))] ?_
 obtain⟨a,q3,h⟩:=h
 exact T_l1 8 34 q3 [7]<| T_nr 1 [2] [vu a] hQ h
end obj_Heap_Epoch

end Go.Proofs.YtibpklpgmgakcaaGreat
