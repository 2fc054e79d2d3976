/- Printed: what each function asks, and that it is sound. -/
import Derived.Test.YtmlhlkbpglcccaaGreatFnsC
set_option linter.unusedSimpArgs false
set_option linter.unusedVariables false
set_option maxHeartbeats 1000000
noncomputable section
namespace Go.Proofs.YtmlhlkbpglcccaaGreat
open Go
/-! (*moraine/obj.Heap).Next -/
namespace dI
def K0:=Func.code Tryz.f61
end dI
def dI.pt(hv:zW)(H:zV)(R:zj):Prop:=
 cY.C hv H (λv H1=> ∃x:Bool,v=.bool x/\
 if x=true then(
 R (.tuple #[]) H1)
 else
 ∃a:Addr,hv=some a/\
 ∃b:Int,hat H1 (a.add 3)=some (.int .u64 b)/\
 (aK H1 (a.add 3) 0 1)/\ ∀H2,H2=aS H1 (a.add 3) [.int .u64 (IntKind.wrap .u64 (b+1))] 0->
 R (.tuple #[]) H2)
namespace dI
set_option maxRecDepth 100000 in
theorem link{hv:zW}{H:zV}{R:zj}(h:pt hv H R):C hv H R:=by
 refine T_en K0 12 Tryz.func61 ?_
 intro w0 Q hQ
 unfold pt at h
 refine T_su [(0,vp hv)]<| ar 0<| T_nd 1 [] [(2,vp hv)]<| T_c (some 3) h ?_;clear h
 rintro v H1 ⟨x,rfl,h⟩
 refine T_pd [2] [(3,.bool x)]<| T_ed 1 [3] [(4,.bool (!x))] ?_
 by_cases c1:x=true
 ·rw[if_pos c1]at h
  exact aJ 4 (congrArg Bool.not (c1))<| T_k<| eZ (fn:=Tryz.f61) [] hQ (show dU _ _ _ [] _ from .nil) h
 rw[if_neg c1]at h
 refine aI 4 (congrArg Bool.not (zZ c1))<| T_rz 1<| T_n 1 [(5,vp hv)] ?_
 obtain⟨a,rfl,h⟩:=h
 refine T_n 2 [(5,vp (some a)),(7,vp (some (a.add 3)))] ?_
 obtain⟨b,q3,h⟩:=h
 refine T_l1 8 22 q3 [7]<| T_n 3 [(9,vu (IntKind.wrap .u64 (b+1))),(11,vp (some (a.add 3)))] ?_
 obtain⟨q5,h⟩:=h
 refine fE 22 (vu (IntKind.wrap .u64 (b+1))) q5 ?_
 intro H2 e4
 replace h:=h H2 e4
 refine⟨[],pk,?_⟩
 exact zq<| eZ (fn:=Tryz.f61) [] hQ (show dU _ _ _ [] _ from .nil) h
end dI

