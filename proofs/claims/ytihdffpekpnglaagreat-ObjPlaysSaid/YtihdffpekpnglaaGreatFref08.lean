/- Printed: what each function asks, and that it is sound. -/
import Derived.Test.YtihdffpekpnglaaGreatFnsC
set_option linter.unusedSimpArgs false
set_option linter.unusedVariables false
set_option maxRecDepth 100000
set_option maxHeartbeats 1000000
noncomputable section
namespace Go.Proofs.YtihdffpekpnglaaGreat
open Go
/-! moraine/moraineref08.New -/
namespace eX
def K0:=Func.code Tryz.f71
end eX
def eX.pt(a:Int)(H:zW)(R:zv):Prop:=
 fy.C a H (λv H1=> ∃x:zY,v=.pointer x/\
 gk x (
 R (.pointer none) H1) (λxA=>
 ∀(b:Nat) (H2:zW),b=H1.size->H2=H1.push (.cells #[.pointer (some xA),.int .i64 0,.int .i64 0,.int .i64 0,.int .i64 0,.int .i64 0,.int .i64 0,.int .i64 0,.int .i64 0,.int .i64 0,.int .i64 0,.int .i64 0,.int .i64 0,.int .i64 0,.int .i64 0,.int .i64 0,.int .i64 0,.int .i64 0,.int .i64 0,.int .i64 0,.int .i64 0] 65)->
 cB.C (some (ad b)) none 0 0 H2 (λ_ H3=>
 R (.pointer (some (ad b))) H3)))
namespace eX
theorem link{a:Int}{H:zW}{R:zv}(h:pt a H R):C a H R:=by
 refine T_en K0 15 Tryz.func71 ?_
 intro w0 Q hQ
 unfold pt at h
 refine T_su [(0,vi a)]<| ar 0<| T_ed 1 [] []<| ar 1<| T_n 1 [(5,vi a)]<| T_c (some 6) h ?_;clear h
 rintro v H1 ⟨x,rfl,h⟩
 refine⟨[(6,vp x)],pk,?_⟩
 refine T_ne 1 [(3,vp x)]<| T_sz<| ar 2<| T_nd 1 [] [(7,vp x)] ?_
 rcases x with _ | xA
 ·rw[onPtr_none]at h
  exact T_ne 1 [(3,vp none),(8,.bool true)]<| T_tz 8<| ar 3<| T_nr 1 [2] [vp none] hQ h
 rw[onPtr_some]at h
 refine T_ne 1 [(3,vp (some xA)),(8,.bool false)]<| T_fz 8<| T_kt<| ar 4<| T_n 2 [(10,.agg #[vp (some xA),vi 0,vi 0,vi 0,vi 0,vi 0,vi 0,vi 0,vi 0,vi 0,vi 0,vi 0,vi 0,vi 0,vi 0,vi 0,vi 0,vi 0,vi 0,vi 0,vi 0])]<| T_nw (some 11) (λb=>vp (pa b)) (.cells #[vp (some xA),vi 0,vi 0,vi 0,vi 0,vi 0,vi 0,vi 0,vi 0,vi 0,vi 0,vi 0,vi 0,vi 0,vi 0,vi 0,vi 0,vi 0,vi 0,vi 0,vi 0] 65) ?_
 intro b H2 e1 e2
 replace h:=h b H2 e1 e2
 refine⟨[(11,vp (pa b))],pk,?_⟩
 refine T_ne 1 [(4,vp (pa b))]<| ar 5<| T_nd 1 [] [(12,vp (pa b))]<| T_c (some 13) h ?_;clear h
 intro v_2 H3 h
 exact T_pd [12] []<| T_e<| ar 6<| T_nr 2 [2] [vp (pa b)] hQ h
end eX

/-! (*moraine/moraineref08.Space).Fresh -/
namespace cB
def K0:=Func.code Tryz.f112
def K2:=cb K0
def K3:=ca K2
def K4:=ca K3
def K6:=cb K4
def K11:=ca K6
def K13:=ca K11
def K15:=cb K13
def K16:=ca K15
def K19:=cb K16
def K20:=ca K19
def K21:=ca K20
end cB
def cB.pt(s e:zY)(b d:Nat)(H:zW)(R:zv):Prop:=
 ∃(I5:zw) (m5:Int->zW->Nat),I5 0 H/\ ∀(g:Int) (H1:zW),I5 g H1->
 if g<=4 then(
 ∃(l:Bool->zw) (m22:Bool->Int->zW->Nat),l ((b:Int)==0) 0 H1/\ ∀(j:Bool) (i:Int) (H2:zW),l j i H2->
 if i< (b:Int)then(
 if j=true then(
 (l true (zq (i+1)) H2/\m22 true (zq (i+1)) H2<m22 j i H2))
 else
 ∃f:Addr,e=some f/\
 yZ i b/\
 ∃x:Int,hat H2 (f.add (Int.toNat i*1))=some (.int .i64 x)/\
 (l (x==g) (zq (i+1)) H2/\m22 (x==g) (zq (i+1)) H2<m22 j i H2))
 else
 if j=true then(
 ∃sA:Addr,s=some sA/\
 yZ g 5/\
 (aJ H2 ((sA.add 1).add (Int.toNat g*4)) 0 4)/\ ∀H3,H3=aP H2 ((sA.add 1).add (Int.toNat g*4)) [.int .i64 (-1),.int .i64 (-1),.int .i64 (-1),.int .i64 (-1)] 0->
 (I5 (zq (g+1)) H3/\m5 (zq (g+1)) H3<m5 g H1))
 else
 (I5 (zq (g+1)) H2/\m5 (zq (g+1)) H2<m5 g H1))
 else
 R (.tuple #[]) H1
namespace cB
theorem link{s e:zY}{b d:Nat}{H:zW}{R:zv}(h:pt s e b d H R):C s e b d H R:=by
 refine T_en K0 36 Tryz.func112 ?_
 intro w0 Q hQ
 unfold pt zq at h
 refine T_su [(0,vp s),(1,vs e b d)]<| ar 0<| T_ed 1 [] [(4,vi 0)]<| T_bz 0 ?_
 obtain⟨I5,m5,i1,i2⟩:=h
 refine dS (x:=K4) (σ:=Int) (λs_=> [(0,vp s),(1,vs e b d),(4,vi s_)]) (λs_ H=>I5 s_ H) (λs_ H=>m5 s_ H) (0:Int) (by kernel_rfl) i1 sk ?_
 rintro g H1 i3
 have h:=i2 g H1 i3
 refine T_su [(0,vp s),(1,vs e b d),(4,vi g)]<| T_sz<| ar 1<| T_ed 2 [] [(8,.bool (decide (g<=4)))] ?_
 by_cases c4:g<=4
 ·rw[if_pos c4]at h
  refine aH 8 (zQ c4)<| T_kt<| T_sz<| T_bz 1<| ar 3<| T_ed 4 [8] [(5,.bool ((b:Int)==0))]<| T_sz<| ar 4<| T_ed 1 [] [(6,vi 0)]<| T_bz 2 ?_
  obtain⟨l,m22,i6,i7⟩:=h
  refine dS (x:=K21) (σ:=Bool×Int) (λs_=> [(0,vp s),(1,vs e b d),(4,vi g),(5,.bool s_.1),(6,vi s_.2)]) (λs_ H=>l s_.1 s_.2 H) (λs_ H=>m22 s_.1 s_.2 H) ((((b:Int)==0),0):Bool×Int) (by kernel_rfl) i6 sk ?_
  rintro⟨j,i⟩ H2 i8
  have h:=i7 j i H2 i8
  refine T_su [(0,vp s),(1,vs e b d),(4,vi g),(5,.bool j),(6,vi i)]<| T_sz<| ar 5<| T_ed 4 [] [(17,.bool (decide (i< (b:Int))))] ?_
  by_cases c9:i< (b:Int)
  ·rw[if_pos c9]at h
   refine aH 17 (zQ c9)<| T_kt<| T_sz<| T_bz 3<| T_rz 7<| T_nd 2 [5,17] [(21,.bool j)] ?_
   by_cases c11:j=true
   ·rw[if_pos c11]at h
    refine N_bd 21 c11<| T_nd 8 [21] [(5,.bool true)] ?_
    exact zx<| aL<| aE<| T_rz 6<| T_ed 3 [6] [(6,vi (zq (i+1)))]<| bG ((true,(zq (i+1))):Bool×Int) sk h
   rw[if_neg c11]at h
   refine N_bd 21 (zZ c11)<| T_nd 2 [] [(22,vs e b d),(23,vi i)] ?_
   obtain⟨f,rfl,q13,h⟩:=h
   refine T_xd (some 24) 49 3 1 f b d .i64 i Tryz.underlying49 q13.1 q13.2 [1,22,23] [(1,vs (some f) b d),(24,vp (some (f.add (Int.toNat i*1))))] ?_
   obtain⟨x,q14,h⟩:=h
   exact T_l1 25 3 q14 [24]<| T_nd 4 [21,25] [(5,.bool (x==g))]<| zx<| aL<| aE<| T_rz 6<| T_ed 3 [6] [(6,vi (zq (i+1)))]<| bG (((x==g),(zq (i+1))):Bool×Int) sk h
  rw[if_neg c9]at h
  refine aI 17 (zJ c9)<| zk 2<| aD<| aD<| aR<| aE<| ar 8<| T_ed 1 [5,6,17] [(29,.bool j)] ?_
  by_cases c15:j=true
  ·rw[if_pos c15]at h
   refine aH 29 c15<| T_rz 9<| T_nd 3 [29] [(30,vp s),(31,vi g),(32,.agg #[vi (-1),vi (-1),vi (-1),vi (-1)])] ?_
   obtain⟨sA,rfl,h⟩:=h
   refine T_nd 2 [0,30] [(0,vp (some sA)),(34,vp (some (sA.add 1)))] ?_
   obtain⟨q17,h⟩:=h
   refine T_v1 35 (bD 60 (vp (some (sA.add 1))) (vi g)) (vp (some ((sA.add 1).add (Int.toNat g*4)))) (λw _=>dK (P:=Tryz.prog) (t:=60) (elem:=59) (sz:=4) (n:=5) (a:=(sA.add 1)) (k:=.i64) (i:=g) Tryz.underlying60 (λ_=>by kernel_rfl) q17.1 q17.2 w) [31,34] ?_
   obtain⟨q19,h⟩:=h
   refine bX 59 [vi (-1),vi (-1),vi (-1),vi (-1)] q19 ?_
   intro H3 e18
   replace h:=h H3 e18
   exact T_pd [32,35] []<| zx<| aL<| aE<| T_rz 2<| T_ed 3 [4] [(4,vi (zq (g+1)))]<| bG ((zq (g+1)):Int) sk h
  rw[if_neg c15]at h
  exact aI 29 (zZ c15)<| T_k<| aL<| aE<| T_rz 2<| T_ed 3 [4,29] [(4,vi (zq (g+1)))]<| bG ((zq (g+1)):Int) sk h
 rw[if_neg c4]at h
 exact aI 8 (zJ c4)<| zk 0<| aD<| aD<| aR<| n9 (fn:=Tryz.f112) [] hQ (show cK _ _ _ [] _ from .nil) h
end cB

/-! (*moraine/moraineref08.Space).Alloc -/
namespace cC
def K0:=Func.code Tryz.f120
def K2:=cb K0
def K4:=cb K2
def K10:=cb K4
def K11:=ca K10
def K13:=ca K11
end cC
def cC.pt(s:zY)(d b nv:Int)(H:zW)(R:zv):Prop:=
 fC.C d b nv H (λv H1=> ∃x:Bool,v=.bool x/\
 if x=true then(
 ∃sA:Addr,s=some sA/\
 yZ d 5/\
 yZ b 4/\
 ∃e:Int,hat H1 (((sA.add 1).add (Int.toNat d*4)).add (Int.toNat b*1))=some (.int .i64 e)/\
 ∃J:Bool->zW->Prop,(
 if e>=0 then(
 ∃ag:zY,hat H1 sA=some (.pointer ag)/\
 ∃m:Addr,ag=some m/\
 ∃(xB:zY) (xN xC:Nat),hat H1 (m.add 1)=some (.slice xB xN xC)/\
 ∃q:zY,hat H1 sA=some (.pointer q)/\
 aZ.C q e H1 (λaj H7=> ∃o:Int,aj=.int .i64 o/\aG H7 sA 0 [.pointer (some m)]/\aG H7 (m.add 1) 0 [.slice xB xN xC]/\
 ∃p:Addr,xB=some p/\
 yZ o xN/\
 ∃(af:zY) (j ae:Nat),hat H7 ((p.add (Int.toNat o*9)).add 8)=some (.slice af j ae)/\
 aG H7 sA 0 [.pointer (some m)]/\aG H7 (m.add 1) 0 [.slice xB xN xC]/\J (decide ((zq ((j:Int)+nv))<=64)) H7))
 else
 J false H1)/\ ∀(z:Bool) (H2:zW),J z H2->
 if z=true then(
 ∃ac:zY,hat H2 sA=some (.pointer ac)/\
 bU.C ac e nv H2 (λah H3=> ∃ra rb:Int,ah=.tuple #[.int .i64 ra,.int .i64 rb]/\
 R (.tuple #[.int .i64 ra,.int .i64 rb]) H3))
 else
 ∃aa:zY,hat H2 sA=some (.pointer aa)/\
 cX.C aa d b H2 (λak H4=> ∃f l:Int,ak=.tuple #[.int .i64 f,.int .i64 l]/\
 if l=0 then(
 yZ d 5/\
 yZ b 4/\
 (aJ H4 (((sA.add 1).add (Int.toNat d*4)).add (Int.toNat b*1)) 0 1)/\ ∀H5,H5=aP H4 (((sA.add 1).add (Int.toNat d*4)).add (Int.toNat b*1)) [.int .i64 f] 0->
 ∃ab:zY,hat H5 sA=some (.pointer ab)/\
 bU.C ab f nv H5 (λai H6=> ∃r y:Int,ai=.tuple #[.int .i64 r,.int .i64 y]/\
 R (.tuple #[.int .i64 r,.int .i64 y]) H6))
 else
 R (.tuple #[.int .i64 0,.int .i64 l]) H4))
 else
 R (.tuple #[.int .i64 0,.int .i64 1]) H1)
namespace cC
theorem link{s:zY}{d b nv:Int}{H:zW}{R:zv}(h:pt s d b nv H R):C s d b nv H R:=by
 refine T_en K0 88 Tryz.func120 ?_
 intro w0 Q hQ
 unfold pt zq at h
 refine T_su [(0,vp s),(1,vi d),(2,vi b),(3,vi nv)]<| ar 0<| T_ed 2 [] []<| T_sz<| ar 1<| T_nd 3 [] [(12,vi d),(13,vi b),(14,vi nv)]<| T_c (some 15) h ?_;clear h
 rintro v H1 ⟨x,rfl,h⟩
 refine T_pd [12,13,14] [(15,.bool x)]<| T_ed 1 [15] [(16,.bool (!x))] ?_
 by_cases c1:x=true
 ·rw[if_pos c1]at h
  refine aI 16 (congrArg Bool.not (c1))<| T_kt<| ar 3<| T_nd 3 [16] [(17,vp s),(18,vi d),(19,vi b)] ?_
  obtain⟨sA,rfl,h⟩:=h
  refine T_nd 2 [0,17] [(0,vp (some sA)),(21,vp (some (sA.add 1)))] ?_
  obtain⟨q3,h⟩:=h
  refine T_v1 22 (bD 60 (vp (some (sA.add 1))) (vi d)) (vp (some ((sA.add 1).add (Int.toNat d*4)))) (λw _=>dK (P:=Tryz.prog) (t:=60) (elem:=59) (sz:=4) (n:=5) (a:=(sA.add 1)) (k:=.i64) (i:=d) Tryz.underlying60 (λ_=>by kernel_rfl) q3.1 q3.2 w) [18,21] ?_
  obtain⟨q4,h⟩:=h
  refine T_v1 23 (bD 59 (vp (some ((sA.add 1).add (Int.toNat d*4)))) (vi b)) (vp (some (((sA.add 1).add (Int.toNat d*4)).add (Int.toNat b*1)))) (λw _=>dK (P:=Tryz.prog) (t:=59) (elem:=3) (sz:=1) (n:=4) (a:=((sA.add 1).add (Int.toNat d*4))) (k:=.i64) (i:=b) Tryz.underlying59 (λ_=>by kernel_rfl) q4.1 q4.2 w) [19,22] ?_
  obtain⟨e,q5,h⟩:=h
  refine T_l1 24 3 q5 [23]<| T_ne 1 [(0,vp (some sA)),(1,vi d),(2,vi b),(3,vi nv),(10,vi e)]<| T_sz<| T_sz ?_
  obtain⟨J,h,j7⟩:=h
  refine kb (σ:=Bool) (λs_=> [(0,vp (some sA)),(1,vi d),(2,vi b),(3,vi nv),(10,vi e),(48,.bool s_)]) (λs_ H=>J s_ H) ?_ ?_
  ·rintro z H2 j8
   replace h:=j7 z H2 j8
   refine T_su [(0,vp (some sA)),(1,vi d),(2,vi b),(3,vi nv),(10,vi e),(48,.bool z)]<| aE ?_
   by_cases c9:z=true
   ·rw[if_pos c9]at h
    have b10:z=true:=c9
    refine eT [(0,vp (some sA)),(1,vi d),(2,vi b),(3,vi nv),(10,vi e),(48,.bool true)] (by rw[b10]) ?_
    clear b10
    refine T_tz 48<| ar 5<| T_nd 3 [0,1,2,48] [(51,vp (some sA))] ?_
    obtain⟨ac,q11,h⟩:=h
    refine T_l1 52 63 q11 [51]<| T_nd 2 [3,10] [(53,vi e),(54,vi nv)]<| T_c (some 55) h ?_;clear h
    rintro ah H3 ⟨ra,rb,rfl,h⟩
    refine⟨[(55,.tuple #[vi ra,vi rb])],pk,?_⟩
    exact T_nr 4 [8,9] [vi ra,vi rb] hQ h
   rw[if_neg c9]at h
   have b10:z=false:=zZ c9
   refine eT [(0,vp (some sA)),(1,vi d),(2,vi b),(3,vi nv),(10,vi e),(48,.bool false)] (by rw[b10]) ?_
   clear b10
   refine T_fz 48<| T_kt<| ar 6<| T_nd 3 [10,48] [(61,vp (some sA))] ?_
   obtain⟨aa,q12,h⟩:=h
   refine T_l1 62 63 q12 [61]<| T_nd 2 [] [(63,vi d),(64,vi b)]<| T_c (some 65) h ?_;clear h
   rintro ak H4 ⟨f,l,rfl,h⟩
   refine T_pd [62,63,64] [(65,.tuple #[vi f,vi l])]<| T_ed 5 [65] [(10,vi f),(11,vi l)]<| T_sz<| ar 7<| T_ed 2 [] [(69,.bool (l !=0))] ?_
   by_cases c13:l=0
   ·rw[if_pos c13]at h
    refine aI 69 (bne_eq_false_iff_eq.mpr c13)<| T_kt<| ar 9<| T_nd 6 [1,2,11,69] [(72,vi d),(73,vi b),(74,vi f),(76,vp (some (sA.add 1)))] ?_
    obtain⟨q15,h⟩:=h
    refine T_v1 77 (bD 60 (vp (some (sA.add 1))) (vi d)) (vp (some ((sA.add 1).add (Int.toNat d*4)))) (λw _=>dK (P:=Tryz.prog) (t:=60) (elem:=59) (sz:=4) (n:=5) (a:=(sA.add 1)) (k:=.i64) (i:=d) Tryz.underlying60 (λ_=>by kernel_rfl) q15.1 q15.2 w) [72,76] ?_
    obtain⟨q16,h⟩:=h
    refine T_v1 78 (bD 59 (vp (some ((sA.add 1).add (Int.toNat d*4)))) (vi b)) (vp (some (((sA.add 1).add (Int.toNat d*4)).add (Int.toNat b*1)))) (λw _=>dK (P:=Tryz.prog) (t:=59) (elem:=3) (sz:=1) (n:=4) (a:=((sA.add 1).add (Int.toNat d*4))) (k:=.i64) (i:=b) Tryz.underlying59 (λ_=>by kernel_rfl) q16.1 q16.2 w) [73,77] ?_
    obtain⟨q18,h⟩:=h
    refine je 3 (vi f) q18 ?_
    intro H5 e17
    replace h:=h H5 e17
    refine T_pd [74,78] []<| T_e<| ar 10<| T_nd 3 [0] [(81,vp (some sA))] ?_
    obtain⟨ab,q19,h⟩:=h
    refine T_l1 82 63 q19 [81]<| T_nd 2 [3,10] [(83,vi f),(84,vi nv)]<| T_c (some 85) h ?_;clear h
    rintro ai H6 ⟨r,y,rfl,h⟩
    refine⟨[(85,.tuple #[vi r,vi y])],pk,?_⟩
    exact T_nr 4 [8,9] [vi r,vi y] hQ h
   rw[if_neg c13]at h
   exact aH 69 (bne_iff_ne.mpr c13)<| ar 8<| T_nr 3 [8,9] [vi 0,vi l] hQ h
  by_cases c20:e>=0
  ·rw[if_pos c20]at h
   obtain⟨ag,q22,m,rfl,xB,xN,xC,q23,q,q24,h⟩:=h
   refine yq 4 (Code.ops K13) [(24,sA,[vp (some m)]),(24,(m.add 1),[vs xB xN xC]),(15,sA,[vp q])] 24 (bv 24 0) (show aK _ _ _ from⟨⟨q22,trivial⟩,⟨q23,trivial⟩,⟨q24,trivial⟩,trivial⟩)<| T_gp 0 (some 25) (vi e) (bv 24 1) [(0,vp (some sA)),(1,vi d),(2,vi b),(3,vi nv),(10,vi e),(25,vi e)]<| aF 1 26 (.bool (decide (e>=0))) (bv 24 3) [25]<| aF 2 27 (.bool (decide (e>=0))) (bv 24 7) [26]<| G_bd 27 (zQ c20)<| aF 3 28 (vp (some sA)) (bv 24 15) []<| aF 4 29 (vp (some sA)) (bv 24 31) [28]<| aF 5 30 (vp (some sA)) (bv 24 63) [29]<| T_g1 6 31 (vp (some m)) (bv 24 127) [30] (aT 63 (vp (some sA))) (dI 24 (λ_=>by kernel_rfl) yX (.inr (by kernel_rfl)))<| aF 7 32 (vp (some m)) (bv 24 255) [31]<| aF 8 33 (vp (some (m.add 1))) (bv 24 511) [32]<| T_g1 9 34 (vs xB xN xC) (bv 24 1023) [33] (aT 75 (vp (some (m.add 1)))) (dI 24 (λ_=>by kernel_rfl) yQ (.inr (by kernel_rfl)))<| aF 10 35 (vp (some sA)) (bv 24 2047) []<| aF 11 36 (vp (some sA)) (bv 24 4095) [35]<| aF 12 37 (vp (some sA)) (bv 24 8191) [36]<| T_g1 13 38 (vp q) (bv 24 16383) [37] (aT 63 (vp (some sA))) (yY 15 yJ)<| aF 14 39 (vi e) (bv 24 32767) []<| aF 20 45 (vi nv) (bv 24 1081343) []<| yx 15 (some 40) (bv 24 1114111) 128 #[vp q,vi e] h ?_;clear h
   rintro aj H7 ⟨o,rfl,f25,f26,h⟩
   refine⟨[(0,vp (some sA)),(1,vi d),(2,vi b),(3,vi nv),(10,vi e),(27,.bool true),(34,vs xB xN xC),(40,vi o),(45,vi nv)],pk,(show aK _ _ _ from⟨f25,f26,trivial,trivial⟩),?_⟩
   obtain⟨p,rfl,q27,h⟩:=h
   refine T_g 16 (some 41) (vp (some (p.add (Int.toNat o*9)))) (bv 24 1179647) [(0,vp (some sA)),(1,vi d),(2,vi b),(3,vi nv),(10,vi e),(27,.bool true),(41,vp (some (p.add (Int.toNat o*9)))),(45,vi nv)] (bD 75 (vs (some p) xN xC) (vi o)) (λ_ w _ _ _=>bR (P:=Tryz.prog) (t:=75) (elem:=83) (sz:=9) (a:=p) (len:=xN) (cap:=xC) (k:=.i64) (i:=o) Tryz.underlying75 (λ_=>by kernel_rfl) q27.1 q27.2 w)<| T_g1 17 42 (vp (some ((p.add (Int.toNat o*9)).add 8))) (bv 24 1310719) [41] (pure (.value (vp (some ((p.add (Int.toNat o*9)).add 8)))):Sem Next) (λ_ _ _ _ _=>rfl) ?_
   obtain⟨af,j,ae,q30,h⟩:=h
   refine pS 18 (some 43) (bv 24 1572863) (aT 31 (vp (some ((p.add (Int.toNat o*9)).add 8)))) (λu H1=>u=vs af j ae/\H1=H7) (by kernel_rfl) (λ_=>by kernel_rfl) (sD (jf (λ_=>by kernel_rfl) q30)) (by kernel_rfl) ?_
   rintro _ _ ⟨rfl,rfl⟩
   obtain⟨f28,f29,h⟩:=h
   refine⟨[(0,vp (some sA)),(1,vi d),(2,vi b),(3,vi nv),(10,vi e),(27,.bool true),(43,vs af j ae),(45,vi nv)],pk,(show aK _ _ _ from⟨f28,f29,trivial,trivial⟩),?_⟩
   exact T_g 19 (some 44) (vi j) (bv 24 2097151) [(0,vp (some sA)),(1,vi d),(2,vi b),(3,vi nv),(10,vi e),(27,.bool true),(44,vi j),(45,vi nv)] (pure (.value (vi j)):Sem Next) (λ_ _ _ _ _=>rfl)<| T_g1 21 46 (vi (zq ((j:Int)+nv))) (bv 24 4194303) [44,45] (pure (.value (vi (zq ((j:Int)+nv)))):Sem Next) (λ_ _ _ _ _=>rfl)<| T_g1 22 47 (.bool (decide ((zq ((j:Int)+nv))<=64))) (bv 24 8388607) [46] (pure (.value (.bool (decide ((zq ((j:Int)+nv))<=64)))):Sem Next) (λ_ _ _ _ _=>rfl)<| T_g1 23 48 (.bool (decide ((zq ((j:Int)+nv))<=64))) (bv 24 16777215) [27,47] (pure (.value (.bool (decide ((zq ((j:Int)+nv))<=64)))):Sem Next) (λ_ _ _ _ _=>rfl)<| eI [(0,vp (some sA)),(1,vi d),(2,vi b),(3,vi nv),(10,vi e),(48,.bool (decide ((zq ((j:Int)+nv))<=64)))] sk<| yz<| aE<| fH ((decide ((zq ((j:Int)+nv))<=64)):Bool) sk h
  rw[if_neg c20]at h
  exact yq 4 (Code.ops K13) [] 24 (bv 24 0) (show aK _ _ _ from trivial)<| T_gp 0 (some 25) (vi e) (bv 24 1) [(0,vp (some sA)),(1,vi d),(2,vi b),(3,vi nv),(10,vi e),(25,vi e)]<| aF 1 26 (.bool (decide (e>=0))) (bv 24 3) [25]<| aF 2 27 (.bool (decide (e>=0))) (bv 24 7) [26]<| G_bd 27 (zJ c20)<| aA 3 (some 28) (bv 24 15) [] [(28,undef)]<| aA 4 (some 29) (bv 24 31) [28] [(29,undef)]<| aA 5 (some 30) (bv 24 63) [29] [(30,undef)]<| aA 6 (some 31) (bv 24 127) [30] [(31,undef)]<| aA 7 (some 32) (bv 24 255) [31] [(32,undef)]<| aA 8 (some 33) (bv 24 511) [32] [(33,undef)]<| aA 9 (some 34) (bv 24 1023) [33] [(34,undef)]<| aA 10 (some 35) (bv 24 2047) [] [(35,undef)]<| aA 11 (some 36) (bv 24 4095) [35] [(36,undef)]<| aA 12 (some 37) (bv 24 8191) [36] [(37,undef)]<| aA 13 (some 38) (bv 24 16383) [37] [(38,undef)]<| aA 14 (some 39) (bv 24 32767) [] [(39,undef)]<| aA 15 (some 40) (bv 24 65535) [38,39] [(40,undef)]<| aA 16 (some 41) (bv 24 131071) [34,40] [(41,undef)]<| aA 17 (some 42) (bv 24 262143) [41] [(42,undef)]<| aA 18 (some 43) (bv 24 524287) [42] [(43,undef)]<| aA 19 (some 44) (bv 24 1048575) [43] [(44,undef)]<| aA 20 (some 45) (bv 24 2097151) [] [(45,undef)]<| aA 21 (some 46) (bv 24 4194303) [44,45] [(46,undef)]<| aA 22 (some 47) (bv 24 8388607) [46] [(47,undef)]<| aF 23 48 (.bool false) (bv 24 16777215) [27,47]<| eI [(0,vp (some sA)),(1,vi d),(2,vi b),(3,vi nv),(10,vi e),(48,.bool false)] sk<| yz<| aE<| fH (false:Bool) sk h
 rw[if_neg c1]at h
 exact aH 16 (congrArg Bool.not (zZ c1))<| ar 2<| T_nr 2 [8,9] [vi 0,vi 1] hQ h
end cC

/-! moraine/moraineref08.May -/
namespace fC
def K0:=Func.code Tryz.f150
end fC
def fC.pt(b a nv:Int)(H:zW)(R:zv):Prop:=
 if((((decide (b<0)) || (decide (b>4))) || (decide (a<0))) || (decide (a>3)))=true then(
 R (.bool false) H)
 else
 if a<2 then(
 R (.bool (nv==2)) H)
 else
 R (.bool ((decide (nv>=1)) && (decide (nv<=63)))) H
namespace fC
theorem link{b a nv:Int}{H:zW}{R:zv}(h:pt b a nv H R):C b a nv H R:=by
 refine T_en K0 31 Tryz.func150 ?_
 intro w0 Q hQ
 unfold pt at h
 refine T_su [(0,vi b),(1,vi a),(2,vi nv)]<| ar 0<| T_ed 1 [] []<| T_sz<| ar 1 ?_
 refine gp [(1,vi a),(2,vi nv),(20,.bool ((((decide (b<0)) || (decide (b>4))) || (decide (a<0))) || (decide (a>3))))] ?_ ?_
 ·refine aE ?_
  by_cases c7:((((decide (b<0)) || (decide (b>4))) || (decide (a<0))) || (decide (a>3)))=true
  ·rw[if_pos c7]at h
   exact aH 20 c7<| ar 2<| T_nr 1 [6] [.bool false] hQ h
  rw[if_neg c7]at h
  refine aI 20 (zZ c7)<| T_kt<| T_sz<| ar 3<| T_ne 2 [(2,vi nv),(22,.bool (decide (a<2)))] ?_
  by_cases c9:a<2
  ·rw[if_pos c9]at h
   exact aH 22 (zQ c9)<| ar 4<| T_nr 3 [6] [.bool (nv==2)] hQ h
  rw[if_neg c9]at h
  refine aI 22 (zJ c9)<| T_kt<| ar 5 ?_
  refine gp [(6,.bool ((decide (nv>=1)) && (decide (nv<=63))))] ?_ ?_
  ·exact aE<| ie [6] [.bool ((decide (nv>=1)) && (decide (nv<=63)))] hQ h
  intro hk
  refine T_n 3 [(2,vi nv),(27,.bool (decide (nv>=1)))] ?_
  by_cases c11:nv>=1
  ·have b12:(decide (nv>=1))=true:=zQ c11
   refine bV [(2,vi nv),(27,.bool true)] (by rw[b12]) ?_
   refine T_n 4 [(6,.bool (decide (nv<=63)))]<| zx<| eT [(6,.bool ((decide (nv>=1)) && (decide (nv<=63))))] (by simp only[b12,BL]) ?_
   exact hk
  have b12:(decide (nv>=1))=false:=zJ c11
  refine bV [(2,vi nv),(27,.bool false)] (by rw[b12]) ?_
  refine T_n 4 [(6,.bool false)]<| zx<| eT [(6,.bool ((decide (nv>=1)) && (decide (nv<=63))))] (by simp only[b12,BL]) ?_
  exact hk
 intro hk
 refine T_n 3 [(0,vi b),(1,vi a),(2,vi nv),(9,.bool (decide (b<0)))] ?_
 by_cases c1:b<0
 ·have b2:(decide (b<0))=true:=zQ c1
  refine bV [(0,vi b),(1,vi a),(2,vi nv),(9,.bool true)] (by rw[b2]) ?_
  refine T_nd 11 [0,9] [(20,.bool true)]<| zx<| S_bd 20 (b:=true) (v:=((((decide (b<0)) || (decide (b>4))) || (decide (a<0))) || (decide (a>3)))) (by simp only[b2,BL]) ?_
  exact hk
 have b2:(decide (b<0))=false:=zJ c1
 refine bV [(0,vi b),(1,vi a),(2,vi nv),(9,.bool false)] (by rw[b2]) ?_
 refine T_nd 4 [0,9] [(13,.bool (decide (b>4)))] ?_
 by_cases c3:b>4
 ·have b4:(decide (b>4))=true:=zQ c3
  refine N_bd 13 b4<| T_nd 7 [13] [(20,.bool true)] ?_
  refine zx<| S_bd 20 (b:=true) (v:=((((decide (b<0)) || (decide (b>4))) || (decide (a<0))) || (decide (a>3)))) (by simp only[b2,b4,BL]) ?_
  exact hk
 have b4:(decide (b>4))=false:=zJ c3
 refine N_bd 13 b4<| T_nd 4 [13] [(17,.bool (decide (a<0)))] ?_
 by_cases c5:a<0
 ·have b6:(decide (a<0))=true:=zQ c5
  refine N_bd 17 b6<| T_nd 3 [17] [(20,.bool true)] ?_
  refine zx<| S_bd 20 (b:=true) (v:=((((decide (b<0)) || (decide (b>4))) || (decide (a<0))) || (decide (a>3)))) (by simp only[b2,b4,b6,BL]) ?_
  exact hk
 have b6:(decide (a<0))=false:=zJ c5
 refine N_bd 17 b6<| T_nd 3 [17] [(20,.bool (decide (a>3)))] ?_
 refine zx<| S_bd 20 (b:=(decide (a>3))) (v:=((((decide (b<0)) || (decide (b>4))) || (decide (a<0))) || (decide (a>3)))) (by simp only[b2,b4,b6,BL]) ?_
 exact hk
end fC

