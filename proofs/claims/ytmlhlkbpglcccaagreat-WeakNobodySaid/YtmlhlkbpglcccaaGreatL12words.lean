/- Printed: what each function asks, and that it is sound. -/
import Derived.Test.YtmlhlkbpglcccaaGreatFnsC
set_option linter.unusedSimpArgs false
set_option linter.unusedVariables false
set_option maxHeartbeats 1000000
noncomputable section
namespace Go.Proofs.YtmlhlkbpglcccaaGreat
open Go
/-! moraine/morainelaw12.words -/
namespace cv
def K0:=Func.code Tryz.f21
def K2:=cb K0
def K4:=cb K2
def K9:=ca K4
def K12:=cb K9
def K13:=ca K12
def K14:=ca K13
end cv
def cv.pt(aB:zW)(aN aC:Nat)(bB:zW)(bN bC:Nat)(H:zV)(R:zj):Prop:=
 if(aN:Int)=(bN:Int)then(
 ∃(f:zk) (m15:Int->zV->Nat),f 0 H/\ ∀(i:Int) (H1:zV),f i H1->
 if i< (aN:Int)then(
 ∃b:Addr,aB=some b/\
 zv i aN/\
 ∃x:Int,hat H1 (b.add (Int.toNat i*1))=some (.int .u64 x)/\
 ∃d:Addr,bB=some d/\
 zv i bN/\
 ∃e:Int,hat H1 (d.add (Int.toNat i*1))=some (.int .u64 e)/\
 if x=e then(
 (f (zY (i+1)) H1/\m15 (zY (i+1)) H1<m15 i H1))
 else
 R (.bool false) H1)
 else
 R (.bool true) H1)
 else
 R (.bool false) H
namespace cv
set_option maxRecDepth 100000 in
theorem link{aB:zW}{aN aC:Nat}{bB:zW}{bN bC:Nat}{H:zV}{R:zj}(h:pt aB aN aC bB bN bC H R):C aB aN aC bB bN bC H R:=by
 refine T_en K0 26 Tryz.func21 ?_
 intro w0 Q hQ
 unfold pt zY at h
 refine T_su [(0,vs aB aN aC),(1,vs bB bN bC)]<| ar 0<| T_ed 1 [] []<| T_sz<| ar 1<| T_ed 5 [] [(10,.bool ((aN:Int) !=(bN:Int)))] ?_
 by_cases c1:(aN:Int)=(bN:Int)
 ·rw[if_pos c1]at h
  refine aJ 10 (bne_eq_false_iff_eq.mpr c1)<| T_kt<| T_sz<| ar 3<| T_ed 1 [10] [(5,vi 0)]<| T_bz 0 ?_
  obtain⟨f,m15,i3,i4⟩:=h
  refine de (x:=K14) (σ:=Int) (λs_=> [(0,vs aB aN aC),(1,vs bB bN bC),(5,vi s_)]) (λs_ H=>f s_ H) (λs_ H=>m15 s_ H) (0:Int) (by kernel_rfl) i3 sk ?_
  rintro i H1 i5
  have h:=i4 i H1 i5
  refine T_su [(0,vs aB aN aC),(1,vs bB bN bC),(5,vi i)]<| T_sz<| ar 4<| T_ed 4 [] [(14,.bool (decide (i< (aN:Int))))] ?_
  by_cases c6:i< (aN:Int)
  ·rw[if_pos c6]at h
   refine aI 14 (zX c6)<| T_kt<| T_sz<| T_bz 1<| T_sz<| jF 6<| T_q1 17 (vs aB aN aC) [14]<| T_q1 18 (vi i) [] ?_
   obtain⟨b,rfl,q8,h⟩:=h
   refine Q_op (some 19) (aX 32 (vs (some b) aN aC) (vi i)) (vp (some (b.add (Int.toNat i*1)))) (λ_=>by kernel_rfl) (λw _=>cW (P:=Tryz.prog) (t:=32) (elem:=28) (sz:=1) (a:=b) (len:=aN) (cap:=aC) (k:=.i64) (i:=i) Tryz.underlying32 (λ_=>by kernel_rfl) q8.1 q8.2 w) [(0,vs (some b) aN aC),(1,vs bB bN bC),(5,vi i),(19,vp (some (b.add (Int.toNat i*1))))] pk ?_
   obtain⟨x,q9,h⟩:=h
   refine T_ql (some 20) 28 q9 [(0,vs (some b) aN aC),(1,vs bB bN bC),(5,vi i),(20,vu x)]<| T_q1 21 (vs bB bN bC) []<| T_q1 22 (vi i) [] ?_
   obtain⟨d,rfl,q10,h⟩:=h
   refine Q_op (some 23) (aX 32 (vs (some d) bN bC) (vi i)) (vp (some (d.add (Int.toNat i*1)))) (λ_=>by kernel_rfl) (λw _=>cW (P:=Tryz.prog) (t:=32) (elem:=28) (sz:=1) (a:=d) (len:=bN) (cap:=bC) (k:=.i64) (i:=i) Tryz.underlying32 (λ_=>by kernel_rfl) q10.1 q10.2 w) [(0,vs (some b) aN aC),(1,vs (some d) bN bC),(5,vi i),(20,vu x),(23,vp (some (d.add (Int.toNat i*1))))] pk ?_
   obtain⟨e,q11,h⟩:=h
   refine T_ql (some 24) 28 q11 [(0,vs (some b) aN aC),(1,vs (some d) bN bC),(5,vi i),(20,vu x),(24,vu e)]<| T_q1 25 (.bool (x !=e)) [20,24]<| gT [(0,vs (some b) aN aC),(1,vs (some d) bN bC),(5,vi i),(25,.bool (x !=e))] sk<| T_qe ?_
   by_cases c12:x=e
   ·rw[if_pos c12]at h
    exact aJ 25 (bne_eq_false_iff_eq.mpr c12)<| T_k<| aD<| aE<| T_rz 5<| T_ne 3 [(0,vs (some b) aN aC),(1,vs (some d) bN bC),(5,vi (zY (i+1)))]<| aW ((zY (i+1)):Int) sk h
   rw[if_neg c12]at h
   exact aI 25 (bne_iff_ne.mpr c12)<| ar 7<| T_nr 1 [4] [.bool false] hQ h
  rw[if_neg c6]at h
  exact aJ 14 (zQ c6)<| zz 0<| aA<| aA<| aO<| aE<| ar 8<| T_nr 1 [4] [.bool true] hQ h
 rw[if_neg c1]at h
 exact aI 10 (bne_iff_ne.mpr c1)<| ar 2<| T_nr 1 [4] [.bool false] hQ h
end cv

