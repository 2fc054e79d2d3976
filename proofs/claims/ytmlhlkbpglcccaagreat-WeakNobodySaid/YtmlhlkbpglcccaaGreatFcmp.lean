/- Printed: what each function asks, and that it is sound. -/
import Derived.Test.YtmlhlkbpglcccaaGreatFnsC
set_option linter.unusedSimpArgs false
set_option linter.unusedVariables false
set_option maxRecDepth 100000
set_option maxHeartbeats 1000000
noncomputable section
namespace Go.Proofs.YtmlhlkbpglcccaaGreat
open Go
/-! cmp.Compare[int] -/
namespace cmp_Compare_int
def K0:=Func.code Tryz.f79
end cmp_Compare_int
def cmp_Compare_int.pt(x y:Int)(H:zV)(R:zj):Prop:=
 cmp_isNaN_int.C x H (λv H1=> ∃b:Bool,v=.bool b/\
 cmp_isNaN_int.C y H1 (λd H2=> ∃a:Bool,d=.bool a/\
 if b=true then(
 if a=true then(
 R (.int .i64 0) H2)
 else
 R (.int .i64 (-1)) H2)
 else
 if a=true then(
 R (.int .i64 1) H2)
 else
 if x<y then(
 R (.int .i64 (-1)) H2)
 else
 if x>y then(
 R (.int .i64 1) H2)
 else
 R (.int .i64 0) H2))
namespace cmp_Compare_int
theorem link{x y:Int}{H:zV}{R:zj}(h:pt x y H R):C x y H R:=by
 refine T_en K0 20 Tryz.func79 ?_
 intro w0 Q hQ
 unfold pt at h
 refine T_su [(0,vi x),(1,vi y)]<| ar 0<| T_ed 1 [] []<| ar 1<| T_nd 1 [] [(7,vi x)]<| T_c (some 8) h ?_;clear h
 rintro v H1 ⟨b,rfl,h⟩
 refine T_pd [7] [(8,.bool b)]<| T_ed 1 [8] [(5,.bool b)]<| ar 2<| T_nd 1 [] [(9,vi y)]<| T_c (some 10) h ?_;clear h
 rintro d H2 ⟨a,rfl,h⟩
 refine T_pd [9] [(10,.bool a)]<| T_ed 1 [10] [(6,.bool a)]<| T_sz<| ar 3<| T_ed 1 [5] [(11,.bool b)] ?_
 by_cases c1:b=true
 ·rw[if_pos c1]at h
  refine aI 11 c1<| T_sz<| ar 4<| T_ne 1 [(12,.bool a)] ?_
  by_cases c3:a=true
  ·rw[if_pos c3]at h
   exact aI 12 c3<| ar 5<| T_nr 1 [4] [vi 0] hQ h
  rw[if_neg c3]at h
  exact aJ 12 (zZ c3)<| T_kt<| ar 6<| T_nr 1 [4] [vi (-1)] hQ h
 rw[if_neg c1]at h
 refine aJ 11 (zZ c1)<| T_kt<| T_sz<| ar 7<| T_ed 1 [6,11] [(13,.bool a)] ?_
 by_cases c5:a=true
 ·rw[if_pos c5]at h
  exact aI 13 c5<| ar 8<| T_nr 1 [4] [vi 1] hQ h
 rw[if_neg c5]at h
 refine aJ 13 (zZ c5)<| T_kt<| T_sz<| ar 9<| T_ed 3 [13] [(16,.bool (decide (x<y)))] ?_
 by_cases c7:x<y
 ·rw[if_pos c7]at h
  exact aI 16 (zX c7)<| ar 10<| T_nr 1 [4] [vi (-1)] hQ h
 rw[if_neg c7]at h
 refine aJ 16 (zQ c7)<| T_kt<| T_sz<| ar 11<| T_ne 3 [(19,.bool (decide (x>y)))] ?_
 by_cases c9:x>y
 ·rw[if_pos c9]at h
  exact aI 19 (zX c9)<| ar 12<| T_nr 1 [4] [vi 1] hQ h
 rw[if_neg c9]at h
 exact aJ 19 (zQ c9)<| T_kt<| ar 13<| T_nr 1 [4] [vi 0] hQ h
end cmp_Compare_int

/-! cmp.isNaN[int] -/
namespace cmp_isNaN_int
def K0:=Func.code Tryz.f108
end cmp_isNaN_int
def cmp_isNaN_int.pt(x:Int)(H:zV)(R:zj):Prop:=
 R (.bool (x !=x)) H
namespace cmp_isNaN_int
theorem link{x:Int}{H:zV}{R:zj}(h:pt x H R):C x H R:=by
 refine T_en K0 6 Tryz.func108 ?_
 intro w0 Q hQ
 unfold pt at h
 exact T_su [(0,vi x)]<| ar 0<| T_ed 1 [] []<| ar 1<| T_nr 4 [2] [.bool (x !=x)] hQ h
end cmp_isNaN_int

