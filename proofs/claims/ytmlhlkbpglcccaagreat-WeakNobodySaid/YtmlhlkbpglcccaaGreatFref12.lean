/- Printed: what each function asks, and that it is sound. -/
import Derived.Test.YtmlhlkbpglcccaaGreatFnsC
import Derived.Test.YtmlhlkbpglcccaaGreatEqa
set_option linter.unusedSimpArgs false
set_option linter.unusedVariables false
set_option maxHeartbeats 1000000
noncomputable section
namespace Go.Proofs.YtmlhlkbpglcccaaGreat
open Go
/-! moraine/moraineref12.Same -/
namespace cF
def K0:=Func.code Tryz.f20
def K2:=cb K0
def K4:=cb K2
def K9:=ca K4
def K12:=cb K9
def K13:=ca K12
def K14:=ca K13
end cF
def cF.pt(aB:zW)(aN aC:Nat)(bB:zW)(bN bC:Nat)(H:zV)(R:zj):Prop:=
 if(aN:Int)=(bN:Int)then(
 ∃(l:zk) (m15:Int->zV->Nat),l 0 H/\ ∀(i:Int) (H1:zV),l i H1->
 if i< (aN:Int)then(
 ∃g:Addr,aB=some g/\
 zv i aN/\
 ∃f b:Int,aT H1 (g.add (Int.toNat i*2)) 0 [.int .u64 f,.int .u64 b]/\
 ∃j:Addr,bB=some j/\
 zv i bN/\
 ∃e d:Int,aT H1 (j.add (Int.toNat i*2)) 0 [.int .u64 e,.int .u64 d]/\
 (True)/\
 if f=e/\b=d then(
 (l (zY (i+1)) H1/\m15 (zY (i+1)) H1<m15 i H1))
 else
 R (.bool false) H1)
 else
 R (.bool true) H1)
 else
 R (.bool false) H
namespace cF
set_option maxRecDepth 100000 in
theorem link{aB:zW}{aN aC:Nat}{bB:zW}{bN bC:Nat}{H:zV}{R:zj}(h:pt aB aN aC bB bN bC H R):C aB aN aC bB bN bC H R:=by
 refine T_en K0 26 Tryz.func20 ?_
 intro w0 Q hQ
 unfold pt zY at h
 refine T_su [(0,vs aB aN aC),(1,vs bB bN bC)]<| ar 0<| T_ed 1 [] []<| T_sz<| ar 1<| T_ed 5 [] [(10,.bool ((aN:Int) !=(bN:Int)))] ?_
 by_cases c1:(aN:Int)=(bN:Int)
 ·rw[if_pos c1]at h
  refine aJ 10 (bne_eq_false_iff_eq.mpr c1)<| T_kt<| T_sz<| ar 3<| T_ed 1 [10] [(5,vi 0)]<| T_bz 0 ?_
  obtain⟨l,m15,i3,i4⟩:=h
  refine de (x:=K14) (σ:=Int) (λs_=> [(0,vs aB aN aC),(1,vs bB bN bC),(5,vi s_)]) (λs_ H=>l s_ H) (λs_ H=>m15 s_ H) (0:Int) (by kernel_rfl) i3 sk ?_
  rintro i H1 i5
  have h:=i4 i H1 i5
  refine T_su [(0,vs aB aN aC),(1,vs bB bN bC),(5,vi i)]<| T_sz<| ar 4<| T_ed 4 [] [(14,.bool (decide (i< (aN:Int))))] ?_
  by_cases c6:i< (aN:Int)
  ·rw[if_pos c6]at h
   refine aI 14 (zX c6)<| T_kt<| T_sz<| T_bz 1<| T_sz<| jF 6<| T_q1 17 (vs aB aN aC) [14]<| T_q1 18 (vi i) [] ?_
   obtain⟨g,rfl,q8,h⟩:=h
   refine Q_op (some 19) (aX 31 (vs (some g) aN aC) (vi i)) (vp (some (g.add (Int.toNat i*2)))) (λ_=>by kernel_rfl) (λw _=>cW (P:=Tryz.prog) (t:=31) (elem:=36) (sz:=2) (a:=g) (len:=aN) (cap:=aC) (k:=.i64) (i:=i) Tryz.underlying31 (λ_=>by kernel_rfl) q8.1 q8.2 w) [(0,vs (some g) aN aC),(1,vs bB bN bC),(5,vi i),(19,vp (some (g.add (Int.toNat i*2))))] pk ?_
   obtain⟨f,b,q9,h⟩:=h
   refine Q_op (some 20) (aP 36 (vp (some (g.add (Int.toNat i*2))))) (.agg #[vu f,vu b]) (λ_=>by kernel_rfl) (eq (eK (λ_=>by kernel_rfl) (λ_=>by kernel_rfl) q9)) [(0,vs (some g) aN aC),(1,vs bB bN bC),(5,vi i),(20,.agg #[vu f,vu b])] pk ?_
   refine T_q (some 21) (vs bB bN bC) [(0,vs (some g) aN aC),(1,vs bB bN bC),(5,vi i),(20,.agg #[vu f,vu b]),(21,vs bB bN bC)]<| T_q1 22 (vi i) [] ?_
   obtain⟨j,rfl,q10,h⟩:=h
   refine Q_op (some 23) (aX 31 (vs (some j) bN bC) (vi i)) (vp (some (j.add (Int.toNat i*2)))) (λ_=>by kernel_rfl) (λw _=>cW (P:=Tryz.prog) (t:=31) (elem:=36) (sz:=2) (a:=j) (len:=bN) (cap:=bC) (k:=.i64) (i:=i) Tryz.underlying31 (λ_=>by kernel_rfl) q10.1 q10.2 w) [(0,vs (some g) aN aC),(1,vs (some j) bN bC),(5,vi i),(20,.agg #[vu f,vu b]),(23,vp (some (j.add (Int.toNat i*2))))] pk ?_
   obtain⟨e,d,q11,h⟩:=h
   refine Q_op (some 24) (aP 36 (vp (some (j.add (Int.toNat i*2))))) (.agg #[vu e,vu d]) (λ_=>by kernel_rfl) (eq (eK (λ_=>by kernel_rfl) (λ_=>by kernel_rfl) q11)) [(0,vs (some g) aN aC),(1,vs (some j) bN bC),(5,vi i),(20,.agg #[vu f,vu b]),(24,.agg #[vu e,vu d])] pk ?_
   obtain⟨q12,h⟩:=h
   refine Q_op (some 25) (binN .neq 36 (.agg #[vu f,vu b]) (.agg #[vu e,vu d])) (.bool (!(decide (f=e/\b=d)))) (λ_=>by kernel_rfl) (λw _=>nS (P:=Tryz.prog) (T:=36) (I:=28) Tryz.underlying36 (by kernel_rfl) Tryz.underlying28 ⟨by decide,by decide⟩ ⟨rfl,rfl⟩ ⟨rfl,rfl⟩ (λ_=>by kernel_rfl) w) [(0,vs (some g) aN aC),(1,vs (some j) bN bC),(5,vi i),(25,.bool (!(decide (f=e/\b=d))))] pk ?_
   refine gT [(0,vs (some g) aN aC),(1,vs (some j) bN bC),(5,vi i),(25,.bool (!(decide (f=e/\b=d))))] sk ?_
   refine T_qe ?_
   by_cases c13:f=e/\b=d
   ·rw[if_pos c13]at h
    exact aJ 25 (pb c13)<| T_k<| aD<| aE<| T_rz 5<| T_ne 3 [(0,vs (some g) aN aC),(1,vs (some j) bN bC),(5,vi (zY (i+1)))]<| aW ((zY (i+1)):Int) sk h
   rw[if_neg c13]at h
   exact aI 25 (pc c13)<| ar 7<| T_nr 1 [4] [.bool false] hQ h
  rw[if_neg c6]at h
  exact aJ 14 (zQ c6)<| zz 0<| aA<| aA<| aO<| aE<| ar 8<| T_nr 1 [4] [.bool true] hQ h
 rw[if_neg c1]at h
 exact aI 10 (bne_iff_ne.mpr c1)<| ar 2<| T_nr 1 [4] [.bool false] hQ h
end cF

