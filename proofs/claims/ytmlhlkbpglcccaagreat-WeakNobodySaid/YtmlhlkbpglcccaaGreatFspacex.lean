/- Printed: what each function asks, and that it is sound. -/
import Derived.Test.YtmlhlkbpglcccaaGreatFnsC
set_option linter.unusedSimpArgs false
set_option linter.unusedVariables false
set_option maxRecDepth 100000
set_option maxHeartbeats 1000000
noncomputable section
namespace Go.Proofs.YtmlhlkbpglcccaaGreat
open Go
/-! (*moraine/space.Space).Words -/
namespace cH
def K0:=Func.code Tryz.f44
def K2:=cb K0
def K8:=cb K2
def K9:=ca K8
def K10:=ca K9
def K12:=cb K10
def K14:=cb K12
def K17:=ca K14
def K19:=ca K17
def K21:=cb K19
def K22:=ca K21
def K25:=cb K22
def K26:=ca K25
def K27:=ca K26
end cH
def cH.pt(s e:zW)(b d:Nat)(H:zV)(R:zj):Prop:=
 ei s (
 R (.tuple #[]) H) (λsA=>
 ∃(l:zk) (m11:Int->zV->Nat),l 0 H/\ ∀(s9:Int) (H1:zV),l s9 H1->
 if s9<5 then(
 ∃(j:zk) (m28:Int->zV->Nat),j 0 H1/\ ∀(g:Int) (H2:zV),j g H2->
 if g< (b:Int)then(
 ∃f:Addr,e=some f/\
 zv g b/\
 ∃x:Int,hat H2 (f.add (Int.toNat g*1))=some (.int .i64 x)/\
 if x=s9 then(
 zv s9 5/\
 (aK H2 ((sA.add 1).add (Int.toNat s9*4)) 0 4)/\ ∀H3,H3=aS H2 ((sA.add 1).add (Int.toNat s9*4)) [.int .i64 0,.int .i64 0,.int .i64 0,.int .i64 0] 0->
 (j (zY (g+1)) H3/\m28 (zY (g+1)) H3<m28 g H2))
 else
 (j (zY (g+1)) H2/\m28 (zY (g+1)) H2<m28 g H2))
 else
 if(b:Int)=0 then(
 zv s9 5/\
 (aK H2 ((sA.add 1).add (Int.toNat s9*4)) 0 4)/\ ∀H4,H4=aS H2 ((sA.add 1).add (Int.toNat s9*4)) [.int .i64 0,.int .i64 0,.int .i64 0,.int .i64 0] 0->
 (l (zY (s9+1)) H4/\m11 (zY (s9+1)) H4<m11 s9 H1))
 else
 (l (zY (s9+1)) H2/\m11 (zY (s9+1)) H2<m11 s9 H1))
 else
 R (.tuple #[]) H1)
namespace cH
theorem link{s e:zW}{b d:Nat}{H:zV}{R:zj}(h:pt s e b d H R):C s e b d H R:=by
 refine T_en K0 38 Tryz.func44 ?_
 intro w0 Q hQ
 unfold pt zY at h
 refine T_su [(0,vp s),(1,vs e b d)]<| T_sz<| ar 0<| T_nd 1 [] [(7,vp s)] ?_
 rcases s with _ | sA
 ·rw[onPtr_none]at h
  exact T_ed 1 [0,7] [(0,vp none),(8,.bool true)]<| T_tz 8<| eW [] [] hQ h
 rw[onPtr_some]at h
 refine T_ed 1 [0,7] [(0,vp (some sA)),(8,.bool false)]<| T_fz 8<| T_kt<| ar 1<| T_ed 1 [8] [(9,vi 0)]<| T_bz 0 ?_
 obtain⟨l,m11,i1,i2⟩:=h
 refine de (x:=K10) (σ:=Int) (λs_=> [(0,vp (some sA)),(1,vs e b d),(9,vi s_)]) (λs_ H=>l s_ H) (λs_ H=>m11 s_ H) (0:Int) (by kernel_rfl) i1 sk ?_
 rintro s9 H1 i3
 have h:=i2 s9 H1 i3
 refine T_su [(0,vp (some sA)),(1,vs e b d),(9,vi s9)]<| ar 2<| T_ed 1 [] [(10,.bool (decide (s9<5)))]<| T_sz ?_
 by_cases c4:s9<5
 ·rw[if_pos c4]at h
  refine aI 10 (zX c4)<| T_kt<| T_sz<| T_bz 1<| ar 3<| T_ed 2 [10] [(4,vi s9)]<| T_sz<| ar 4<| T_ed 3 [] [(12,vs e b d),(13,vi b),(14,vi 0)]<| T_bz 2 ?_
  obtain⟨j,m28,i6,i7⟩:=h
  refine de (x:=K27) (σ:=Int) (λs_=> [(0,vp (some sA)),(1,vs e b d),(4,vi s9),(9,vi s9),(12,vs e b d),(13,vi b),(14,vi s_)]) (λs_ H=>j s_ H) (λs_ H=>m28 s_ H) (0:Int) (by kernel_rfl) i6 sk ?_
  rintro g H2 i8
  have h:=i7 g H2 i8
  refine T_su [(0,vp (some sA)),(1,vs e b d),(4,vi s9),(9,vi s9),(12,vs e b d),(13,vi b),(14,vi g)]<| ar 5<| T_ed 1 [] [(15,.bool (decide (g< (b:Int))))]<| T_sz ?_
  by_cases c9:g< (b:Int)
  ·rw[if_pos c9]at h
   refine aI 15 (zX c9)<| T_kt<| T_sz<| T_bz 3<| ar 6<| T_ud [15] [] ?_
   obtain⟨f,rfl,q11,h⟩:=h
   refine T_xd (some 16) 79 3 1 f b d .i64 g Tryz.underlying79 q11.1 q11.2 [1,12] [(1,vs (some f) b d),(12,vs (some f) b d),(16,vp (some (f.add (Int.toNat g*1))))] ?_
   obtain⟨x,q12,h⟩:=h
   refine T_l1 17 3 q12 [16]<| T_ed 1 [17] [(6,vi x)]<| ar 7<| T_ed 3 [6] [(20,.bool (x==s9))] ?_
   by_cases c13:x=s9
   ·rw[if_pos c13]at h
    refine aI 20 (zK c13)<| T_rz 8<| T_nd 5 [20] [(22,vi s9),(23,.agg #[vi 0,vi 0,vi 0,vi 0]),(25,vp (some (sA.add 1)))] ?_
    obtain⟨q15,h⟩:=h
    refine T_v1 26 (aX 84 (vp (some (sA.add 1))) (vi s9)) (vp (some ((sA.add 1).add (Int.toNat s9*4)))) (λw _=>bJ (P:=Tryz.prog) (t:=84) (elem:=83) (sz:=4) (n:=5) (a:=(sA.add 1)) (k:=.i64) (i:=s9) Tryz.underlying84 (λ_=>by kernel_rfl) q15.1 q15.2 w) [22,25] ?_
    obtain⟨q17,h⟩:=h
    refine fl 83 [vi 0,vi 0,vi 0,vi 0] q17 ?_
    intro H3 e16
    replace h:=h H3 e16
    exact T_pd [23,26] []<| zq<| aD<| aE<| T_rz 9<| T_ed 2 [14] [(14,vi (zY (g+1)))]<| aW ((zY (g+1)):Int) sk h
   rw[if_neg c13]at h
   exact aJ 20 (zJ c13)<| T_k<| aD<| aE<| T_rz 9<| T_ed 2 [14,20] [(14,vi (zY (g+1)))]<| aW ((zY (g+1)):Int) sk h
  rw[if_neg c9]at h
  refine aJ 15 (zQ c9)<| zz 2<| aA<| aA<| aO<| aE<| ar 10<| T_ed 3 [12,13,14,15] [(30,.bool ((b:Int)==0))] ?_
  by_cases c18:(b:Int)=0
  ·rw[if_pos c18]at h
   refine aI 30 (zK c18)<| T_rz 11<| T_nd 5 [4,30] [(32,vi s9),(33,.agg #[vi 0,vi 0,vi 0,vi 0]),(35,vp (some (sA.add 1)))] ?_
   obtain⟨q20,h⟩:=h
   refine T_v1 36 (aX 84 (vp (some (sA.add 1))) (vi s9)) (vp (some ((sA.add 1).add (Int.toNat s9*4)))) (λw _=>bJ (P:=Tryz.prog) (t:=84) (elem:=83) (sz:=4) (n:=5) (a:=(sA.add 1)) (k:=.i64) (i:=s9) Tryz.underlying84 (λ_=>by kernel_rfl) q20.1 q20.2 w) [32,35] ?_
   obtain⟨q22,h⟩:=h
   refine fl 83 [vi 0,vi 0,vi 0,vi 0] q22 ?_
   intro H4 e21
   replace h:=h H4 e21
   exact T_pd [33,36] []<| zq<| aD<| aE<| T_rz 12<| T_ed 2 [9] [(9,vi (zY (s9+1)))]<| aW ((zY (s9+1)):Int) sk h
  rw[if_neg c18]at h
  exact aJ 30 (zJ c18)<| T_k<| aD<| aE<| T_rz 12<| T_ed 2 [4,9,30] [(9,vi (zY (s9+1)))]<| aW ((zY (s9+1)):Int) sk h
 rw[if_neg c4]at h
 exact aJ 10 (zQ c4)<| zz 0<| aA<| aA<| aO<| eZ (fn:=Tryz.f44) [] hQ (show dU _ _ _ [] _ from .nil) h
end cH

/-! (*moraine/space.Space).Give -/
namespace cR
def K0:=Func.code Tryz.f59
def K2:=cb K0
def K4:=cb K2
def K11:=ca K4
def K14:=cb K11
def K16:=cb K14
def K17:=ca K16
end cR
def cR.pt(s:zW)(d:Int)(H:zV)(R:zj):Prop:=
 cD.C s H (λv H1=> ∃x:Bool,v=.bool x/\
 if x=true then(
 R (.int .i64 19) H1)
 else
 ∃sA:Addr,s=some sA/\
 ∃ae:zW,hat H1 sA=some (.pointer ae)/\
 bE.C ae d H1 (λak H2=> ∃(q o aa g j e f:Int) (rb:Bool),ak=.tuple #[.agg #[.int .i64 q,.int .i64 o,.int .i64 aa,.int .i64 g,.int .i64 j,.int .i64 e,.int .i64 f],.bool rb]/\
 ∀(b:Nat) (H3:zV),b=H2.size->H3=H2.push (.cells #[.int .i64 0,.int .i64 0,.int .i64 0,.int .i64 0,.int .i64 0,.int .i64 0,.int .i64 0] 102)->
 (aK H3 (ad b) 0 7)/\ ∀H4,H4=aS H3 (ad b) [.int .i64 q,.int .i64 o,.int .i64 aa,.int .i64 g,.int .i64 j,.int .i64 e,.int .i64 f] 0->
 if rb=true then(
 ∃m:Int,hat H4 (ad b)=some (.int .i64 m)/\
 ∃u:Int,hat H4 ((ad b).add 1)=some (.int .i64 u)/\
 zv m 5/\
 zv u 4/\
 ∃r:Int,hat H4 (((sA.add 1).add (Int.toNat m*4)).add (Int.toNat u*1))=some (.int .i64 r)/\
 if r=(zY (d+1))then(
 ∃l:Int,hat H4 (ad b)=some (.int .i64 l)/\
 ∃p:Int,hat H4 ((ad b).add 1)=some (.int .i64 p)/\
 zv l 5/\
 zv p 4/\
 (aK H4 (((sA.add 1).add (Int.toNat l*4)).add (Int.toNat p*1)) 0 1)/\ ∀H5,H5=aS H4 (((sA.add 1).add (Int.toNat l*4)).add (Int.toNat p*1)) [.int .i64 0] 0->
 ∃af:zW,hat H5 sA=some (.pointer af)/\
 dt.C af d H5 (λah H6=> ∃ag:Int,ah=.int .i64 ag/\
 R (.int .i64 ag) H6))
 else
 ∃z:zW,hat H4 sA=some (.pointer z)/\
 dt.C z d H4 (λai H7=> ∃ab:Int,ai=.int .i64 ab/\
 R (.int .i64 ab) H7))
 else
 ∃y:zW,hat H4 sA=some (.pointer y)/\
 dt.C y d H4 (λaj H8=> ∃ac:Int,aj=.int .i64 ac/\
 R (.int .i64 ac) H8)))
namespace cR
theorem link{s:zW}{d:Int}{H:zV}{R:zj}(h:pt s d H R):C s d H R:=by
 refine T_en K0 49 Tryz.func59 ?_
 intro w0 Q hQ
 unfold pt zY at h
 refine T_su [(0,vp s),(1,vi d)]<| ar 0<| T_ed 1 [] []<| T_sz<| ar 1<| T_nd 1 [] [(7,vp s)]<| T_c (some 8) h ?_;clear h
 rintro v H1 ⟨x,rfl,h⟩
 refine T_pd [7] [(8,.bool x)]<| T_e ?_
 by_cases c1:x=true
 ·rw[if_pos c1]at h
  exact aI 8 c1<| ar 2<| T_nr 1 [4] [vi 19] hQ h
 rw[if_neg c1]at h
 refine aJ 8 (zZ c1)<| T_kt<| T_sz<| ar 3<| T_nd 1 [8] [(10,vp s)] ?_
 obtain⟨sA,rfl,h⟩:=h
 refine T_nd 2 [0,10] [(0,vp (some sA)),(12,vp (some sA))] ?_
 obtain⟨ae,q3,h⟩:=h
 refine T_l1 13 82 q3 [12]<| T_nd 1 [] [(14,vi d)]<| T_c (some 15) h ?_;clear h
 rintro ak H2 ⟨q,o,aa,g,j,e,f,rb,rfl,h⟩
 refine T_pd [13,14] [(15,.tuple #[.agg #[vi q,vi o,vi aa,vi g,vi j,vi e,vi f],.bool rb])]<| T_nd 3 [15] [(16,.agg #[vi q,vi o,vi aa,vi g,vi j,vi e,vi f]),(17,.bool rb)]<| T_nw (some 5) (λb=>vp (pa b)) (.cells #[vi 0,vi 0,vi 0,vi 0,vi 0,vi 0,vi 0] 102) ?_
 intro b H3 e4 e5
 replace h:=h b H3 e4 e5
 refine T_pd [] [(5,vp (pa b))] ?_
 obtain⟨q7,h⟩:=h
 refine fl 102 [vi q,vi o,vi aa,vi g,vi j,vi e,vi f] q7 ?_
 intro H4 e6
 replace h:=h H4 e6
 refine T_pd [16] []<| T_ed 1 [17] [(6,.bool rb)]<| T_sz<| jF 4<| T_q1 18 (.bool rb) [6]<| T_q1 19 (.bool rb) [18] ?_
 by_cases c8:rb=true
 ·rw[if_pos c8]at h
  refine Q_bd 19 c8<| T_q1 20 (vp (some sA)) []<| T_q1 21 (vp (pa b)) [] ?_
  obtain⟨m,q10,h⟩:=h
  refine jD (some 22) 3 q10 [21] [(22,vi m)]<| T_q1 23 (vp (some ((ad b).add 1))) [] ?_
  obtain⟨u,q11,h⟩:=h
  refine jD (some 24) 3 q11 [23] [(24,vi u)]<| T_q1 25 (vp (some sA)) [20]<| T_q1 26 (vp (some (sA.add 1))) [25] ?_
  obtain⟨q12,h⟩:=h
  refine Q_op (some 27) (aX 84 (vp (some (sA.add 1))) (vi m)) (vp (some ((sA.add 1).add (Int.toNat m*4)))) (λ_=>by kernel_rfl) (λw _=>bJ (P:=Tryz.prog) (t:=84) (elem:=83) (sz:=4) (n:=5) (a:=(sA.add 1)) (k:=.i64) (i:=m) Tryz.underlying84 (λ_=>by kernel_rfl) q12.1 q12.2 w) [(0,vp (some sA)),(1,vi d),(5,vp (pa b)),(19,.bool true),(24,vi u),(27,vp (some ((sA.add 1).add (Int.toNat m*4))))] pk ?_
  obtain⟨q13,h⟩:=h
  refine Q_op (some 28) (aX 83 (vp (some ((sA.add 1).add (Int.toNat m*4)))) (vi u)) (vp (some (((sA.add 1).add (Int.toNat m*4)).add (Int.toNat u*1)))) (λ_=>by kernel_rfl) (λw _=>bJ (P:=Tryz.prog) (t:=83) (elem:=3) (sz:=1) (n:=4) (a:=((sA.add 1).add (Int.toNat m*4))) (k:=.i64) (i:=u) Tryz.underlying83 (λ_=>by kernel_rfl) q13.1 q13.2 w) [(0,vp (some sA)),(1,vi d),(5,vp (pa b)),(19,.bool true),(28,vp (some (((sA.add 1).add (Int.toNat m*4)).add (Int.toNat u*1))))] pk ?_
  obtain⟨r,q14,h⟩:=h
  refine T_ql (some 29) 3 q14 [(0,vp (some sA)),(1,vi d),(5,vp (pa b)),(19,.bool true),(29,vi r)]<| T_q1 30 (vi d) []<| T_q1 31 (vi (zY (d+1))) [30]<| T_q1 32 (.bool (r==(zY (d+1)))) [29,31]<| T_q1 33 (.bool (r==(zY (d+1)))) [19,32]<| gT [(0,vp (some sA)),(1,vi d),(5,vp (pa b)),(33,.bool (r==(zY (d+1))))] sk<| T_qe ?_
  by_cases c15:r=(zY (d+1))
  ·rw[if_pos c15]at h
   refine aI 33 (zK c15) ?_
   obtain⟨l,q17,p,q18,q19,q20,h⟩:=h
   refine yW 5 (Code.ops K17) [(9,(ad b),[vi l]),(9,((ad b).add 1),[vi p])] 10 (bv 10 0) (show aG _ _ _ from⟨⟨q17,trivial⟩,⟨q18,trivial⟩,trivial⟩)<| T_gp 0 (some 34) (vp (some sA)) (bv 10 1) [(0,vp (some sA)),(1,vi d),(5,vp (pa b)),(34,vp (some sA))]<| aF 1 35 (vp (pa b)) (bv 10 3) []<| T_g1 2 36 (vi l) (bv 10 7) [35] (aP 3 (vp (pa b))) (yV 9 zw)<| aF 3 37 (vp (some ((ad b).add 1))) (bv 10 15) [5]<| T_g1 4 38 (vi p) (bv 10 31) [37] (aP 3 (vp (some ((ad b).add 1)))) (yV 9 yZ)<| aF 5 39 (vp (some sA)) (bv 10 63) [34]<| aF 6 40 (vp (some (sA.add 1))) (bv 10 127) [39]<| T_g1 7 41 (vp (some ((sA.add 1).add (Int.toNat l*4)))) (bv 10 255) [36,40] (aX 84 (vp (some (sA.add 1))) (vi l)) (λ_ w _ _ _=>bJ (P:=Tryz.prog) (t:=84) (elem:=83) (sz:=4) (n:=5) (a:=(sA.add 1)) (k:=.i64) (i:=l) Tryz.underlying84 (λ_=>by kernel_rfl) q19.1 q19.2 w)<| T_g1 8 42 (vp (some (((sA.add 1).add (Int.toNat l*4)).add (Int.toNat p*1)))) (bv 10 511) [38,41] (aX 83 (vp (some ((sA.add 1).add (Int.toNat l*4)))) (vi p)) (λ_ w _ _ _=>bJ (P:=Tryz.prog) (t:=83) (elem:=3) (sz:=1) (n:=4) (a:=((sA.add 1).add (Int.toNat l*4))) (k:=.i64) (i:=p) Tryz.underlying83 (λ_=>by kernel_rfl) q20.1 q20.2 w) ?_
   obtain⟨q22,h⟩:=h
   refine fq 9 none (bv 10 1023) (gd 3 (vp (some (((sA.add 1).add (Int.toNat l*4)).add (Int.toNat p*1)))) (vi 0)) (λHz=>Hz=aS H4 (((sA.add 1).add (Int.toNat l*4)).add (Int.toNat p*1)) [vi 0] 0) (by kernel_rfl) (λ_=>by kernel_rfl) (gf [vi 0] 1 (by kernel_rfl) (by kernel_rfl) (λ_=>by kernel_rfl) (by kernel_rfl) q22) (by kernel_rfl) ?_
   intro H5 e21
   replace h:=h H5 e21
   refine⟨[(0,vp (some sA)),(1,vi d)],pk,(show aG _ _ _ from⟨trivial,trivial,trivial⟩),?_⟩
   refine eV [(0,vp (some sA)),(1,vi d)] sk ?_
   refine yq<| aE<| ar 6<| T_n 3 [(1,vi d),(45,vp (some sA))] ?_
   obtain⟨af,q23,h⟩:=h
   refine T_l1 46 82 q23 [45]<| T_nd 1 [1] [(47,vi d)]<| T_c (some 48) h ?_;clear h
   rintro ah H6 ⟨ag,rfl,h⟩
   refine⟨[(48,vi ag)],pk,?_⟩
   exact T_nr 1 [4] [vi ag] hQ h
  rw[if_neg c15]at h
  refine aJ 33 (zJ c15)<| T_kt<| ar 6<| T_n 3 [(1,vi d),(45,vp (some sA))] ?_
  obtain⟨z,q24,h⟩:=h
  refine T_l1 46 82 q24 [45]<| T_nd 1 [1] [(47,vi d)]<| T_c (some 48) h ?_;clear h
  rintro ai H7 ⟨ab,rfl,h⟩
  refine⟨[(48,vi ab)],pk,?_⟩
  exact T_nr 1 [4] [vi ab] hQ h
 rw[if_neg c8]at h
 refine Q_bd 19 (zZ c8)<| T_q1 20 (undef) []<| T_q1 21 (undef) []<| T_q1 22 (undef) [21]<| T_q1 23 (undef) []<| T_q1 24 (undef) [23]<| T_q1 25 (undef) [20]<| T_q1 26 (undef) [25]<| T_q1 27 (undef) [22,26] ?_
 refine T_q1 28 (undef) [24,27]<| T_q1 29 (undef) [28]<| T_q1 30 (undef) []<| T_q1 31 (undef) [30]<| T_q1 32 (undef) [29,31]<| T_q1 33 (.bool false) [19,32]<| gT [(0,vp (some sA)),(1,vi d),(5,vp (pa b)),(33,.bool false)] sk<| T_qe<| T_fz 33<| T_kt<| ar 6<| T_n 3 [(1,vi d),(45,vp (some sA))] ?_
 obtain⟨y,q25,h⟩:=h
 refine T_l1 46 82 q25 [45]<| T_nd 1 [1] [(47,vi d)]<| T_c (some 48) h ?_;clear h
 rintro aj H8 ⟨ac,rfl,h⟩
 refine⟨[(48,vi ac)],pk,?_⟩
 exact T_nr 1 [4] [vi ac] hQ h
end cR

