/- Printed: what each function asks, and that it is sound. -/
import Derived.Test.YtiebboaeaoobmaaGreatFnsC
set_option linter.unusedSimpArgs false
set_option linter.unusedVariables false
set_option maxRecDepth 100000
set_option maxHeartbeats 1000000
noncomputable section
namespace Go.Proofs.YtiebboaeaoobmaaGreat
open Go
/-! (*moraine/morainelaw15.play).call -/
namespace aO
def K0:=Func.code Tryz.f10
def K2:=cb K0
def K4:=cb K2
def K6:=cb K4
def K7:=ca K6
def K8:=cb K6
def K10:=cb K7
def K11:=ca K10
def K13:=cb K11
def K14:=ca K13
def K15:=cb K13
def K16:=ca K14
def K31:=cb K15
def K32:=ca K31
def K33:=cb K31
def K34:=ca K32
def K39:=cb K33
def K40:=ca K39
def K41:=cb K39
def K42:=ca K40
def K45:=cb K42
def K46:=ca K45
def K47:=ca K46
def K60:=cb K41
def K61:=ca K60
def K63:=ca K61
def K65:=ca K8
end aO
def aO.pt(x:zW)(aj a1 ac a2:Int)(ba:Bool)(H:zV)(R:zk):Prop:=
 ∀(b:Nat) (H1:zV),b=H.size->H1=H.push (.cells #[.int .i64 aj,.int .i64 a1,.int .i64 ac,.int .i64 a2,.bool ba] 28)->
 ∃a7:Int,hat H1 ((ad b).add 1)=some (.int .i64 a7)/\
 bT.C a7 40 H1 (λv H2=> ∃d:Int,v=.int .i64 d/\
 ∃a8:Int,hat H2 ((ad b).add 2)=some (.int .i64 a8)/\
 bT.C a8 1000 H2 (λbx H3=> ∃j:Int,bx=.int .i64 j/\
 ∃a9:Int,hat H3 (ad b)=some (.int .i64 a9)/\
 bT.C a9 6 H3 (λbq H4=> ∃o:Int,bq=.int .i64 o/\
 if o=2 then(
 ∃xA:Addr,x=some xA/\
 ∃z:zW,hat H4 xA=some (.pointer z)/\
 ∃ab:Int,hat H4 (xA.add 1)=some (.int .u64 ab)/\
 zw d 40/\
 ∃ao:Int,hat H4 ((xA.add 2).add (Int.toNat d*1))=some (.int .u64 ao)/\
 gU.C z ab ao H4 (λbr H5=> ∃(ra:Int) (rb:Bool) (rc:Int),br=.tuple #[.int .u64 ra,.bool rb,.int .i64 rc]/\
 ∃al:zW,hat H5 (xA.add 42)=some (.pointer al)/\
 aU.C al d H5 (λb1 H6=> ∃l:Int,b1=.int .i64 l/\
 if l<0 then(
 R (.bool (((rc==0) && (!rb)) && (ra==0))) H6)
 else
 ∃J:Bool->zV->Prop,(
 if rc=0 then(
 if rb=true then(
 ∃a5:zW,hat H6 (xA.add 42)=some (.pointer a5)/\
 ∃a6:Addr,a5=some a6/\
 ∃(xB:zW) (xN xC:Nat),hat H6 a6=some (.slice xB xN xC)/\
 ∃aq:Addr,xB=some aq/\
 zw l xN/\
 ∃aw:Int,hat H6 ((aq.add (Int.toNat l*2)).add 1)=some (.int .i64 aw)/\
 bN.C aw H6 (λbt H8=> ∃ax:Int,bt=.int .u64 ax/\
 J (ra==ax) H8))
 else
 J false H6)
 else
 J false H6)/\ ∀(s4:Bool) (H7:zV),J s4 H7->
 R (.bool s4) H7)))
 else
 if o=3 then(
 ∃g:Addr,x=some g/\
 ∃s:zW,hat H4 g=some (.pointer s)/\
 ∃y:Int,hat H4 (g.add 1)=some (.int .u64 y)/\
 zw d 40/\
 ∃ap:Int,hat H4 ((g.add 2).add (Int.toNat d*1))=some (.int .u64 ap)/\
 fx.C s y ap H4 (λbu H9=> ∃(m:Bool) (q:Int),bu=.tuple #[.bool m,.int .i64 q]/\
 ∃bc:Bool->zV->Prop,(
 if q=0 then(
 ∃am:zW,hat H9 (g.add 42)=some (.pointer am)/\
 bK.C am d H9 (λb2 b0=> ∃au:Bool,b2=.bool au/\
 bc (m==au) b0))
 else
 bc false H9)/\ ∀(ay:Bool) (H10:zV),bc ay H10->
 R (.bool ay) H10))
 else
 if o=4 then(
 ∃(be:zv) (m48:Int->zV->Nat),be 0 H4/\ ∀(i:Int) (H12:zV),be i H12->
 ∃az:Int,hat H12 ((ad b).add 2)=some (.int .i64 az)/\
 bT.C az 40 H12 (λbw bf=> ∃ai:Int,bw=.int .i64 ai/\
 if i<ai then(
 ∃ag:Addr,x=some ag/\
 ∃a0:zW,hat bf ag=some (.pointer a0)/\
 cG.C a0 20 20 bf (λbn bk=> ∃bj bo:Int,bn=.tuple #[.int .u64 bj,.int .i64 bo]/\
 (be (zY (i+1)) bk/\m48 (zY (i+1)) bk<m48 i H12)))
 else
 R (.bool true) bf))
 else
 if o=5 then(
 ∃af:Int,hat H4 ((ad b).add 3)=some (.int .i64 af)/\
 ∃ah:Bool,hat H4 ((ad b).add 4)=some (.bool ah)/\
 bT.C af 4 H4 (λbl bm=> ∃a3:Int,bl=.int .i64 a3/\aL bm ((ad b).add 4) 0 [.bool ah]/\
 bL.C x a3 ah bm (λbi b3=> ∃ae:Bool,bi=.bool ae/\
 R (.bool ae) b3)))
 else
 ∃f:Addr,x=some f/\
 ∃r:zW,hat H4 f=some (.pointer r)/\
 ∃u:Int,hat H4 (f.add 1)=some (.int .u64 u)/\
 zw d 40/\
 ∃aa:Int,hat H4 ((f.add 2).add (Int.toNat d*1))=some (.int .u64 aa)/\
 bN.C j H4 (λbg bb=> ∃a4:Int,bg=.int .u64 a4/\aL bb f 0 [.pointer r]/\aL bb (f.add 1) 0 [.int .u64 u]/\aL bb ((f.add 2).add (Int.toNat d*1)) 0 [.int .u64 aa]/\
 gK.C r u aa a4 bb (λbh bd=> ∃p:Int,bh=.int .i64 p/\
 if p=2 then(
 ∃an:zW,hat bd (f.add 42)=some (.pointer an)/\
 aU.C an d bd (λbp bs=> ∃av:Int,bp=.int .i64 av/\
 R (.bool (decide (av<0))) bs))
 else
 ∃ak:zW,hat bd (f.add 42)=some (.pointer ak)/\
 bF.C ak d j bd (λ_ bz=>
 R (.bool (p==0)) bz))))))
namespace aO
theorem link{x:zW}{aj a1 ac a2:Int}{ba:Bool}{H:zV}{R:zk}(h:pt x aj a1 ac a2 ba H R):C x aj a1 ac a2 ba H R:=by
 refine T_en K0 174 Tryz.func10 ?_
 intro w0 Q hQ
 unfold pt zY at h
 refine T_su [(0,vp x),(1,.agg #[vi aj,vi a1,vi ac,vi a2,.bool ba])]<| ar 0<| T_nw (some 3) (λb=>vp (pa b)) (.cells #[vi aj,vi a1,vi ac,vi a2,.bool ba] 28) ?_
 intro b H1 e1 e2
 replace h:=h b H1 e1 e2
 refine T_pd [1] [(3,vp (pa b))]<| T_ed 1 [] []<| ar 1<| T_nd 1 [] [(15,vp (some ((ad b).add 1)))] ?_
 obtain⟨a7,q3,h⟩:=h
 refine T_l1 16 3 q3 [15]<| T_c (some 17) h ?_;clear h
 rintro v H2 ⟨d,rfl,h⟩
 refine T_pd [16] [(17,vi d)]<| T_ed 1 [17] [(5,vi d)]<| ar 2<| T_nd 1 [] [(18,vp (some ((ad b).add 2)))] ?_
 obtain⟨a8,q4,h⟩:=h
 refine T_l1 19 3 q4 [18]<| T_c (some 20) h ?_;clear h
 rintro bx H3 ⟨j,rfl,h⟩
 refine T_pd [19] [(20,vi j)]<| T_ed 1 [20] [(6,vi j)]<| T_sz<| ar 3<| T_nd 1 [] [(21,vp (pa b))] ?_
 obtain⟨a9,q5,h⟩:=h
 refine T_l1 22 3 q5 [21]<| T_c (some 23) h ?_;clear h
 rintro bq H4 ⟨o,rfl,h⟩
 refine T_pd [22] [(23,vi o)]<| T_e<| T_bz 0<| ar 4<| T_ed 2 [] [(24,.bool (o==2))] ?_
 by_cases c6:o=2
 ·rw[if_pos c6]at h
  refine aH 24 (zK c6)<| T_sz ?_
  obtain⟨xA,rfl,z,q8,ab,q9,q10,ao,q11,h⟩:=h
  refine yz 5 (Code.ops K16) [(14,xA,[vp z]),(14,(xA.add 1),[vu ab]),(14,((xA.add 2).add (Int.toNat d*1)),[vu ao])] 22 (bv 22 0) (show aE _ _ _ from⟨⟨q8,trivial⟩,⟨q9,trivial⟩,⟨q11,trivial⟩,trivial⟩)<| T_gp 0 (some 27) (vp (some xA)) (bv 22 1) [(0,vp (some xA)),(5,vi d),(27,vp (some xA))]<| aD 1 28 (vp (some xA)) (bv 22 3) [27]<| aD 2 29 (vp (some xA)) (bv 22 7) [28]<| T_g1 3 30 (vp z) (bv 22 15) [29] (aM 34 (vp (some xA))) (yx 14 yZ)<| aD 4 31 (vp (some xA)) (bv 22 31) []<| aD 5 32 (vp (some xA)) (bv 22 63) [31]<| aD 6 33 (vp (some (xA.add 1))) (bv 22 127) [32]<| T_g1 7 34 (vu ab) (bv 22 255) [33] (aM 31 (vp (some (xA.add 1)))) (yx 14 yX)<| aD 8 35 (vp (some xA)) (bv 22 511) []<| aD 9 36 (vi d) (bv 22 1023) []<| aD 10 37 (vp (some xA)) (bv 22 2047) [35]<| aD 11 38 (vp (some (xA.add 2))) (bv 22 4095) [37]<| T_g1 12 39 (vp (some ((xA.add 2).add (Int.toNat d*1)))) (bv 22 8191) [36,38] (aT 35 (vp (some (xA.add 2))) (vi d)) (λ_ w _ _ _=>aR (P:=Tryz.prog) (t:=35) (elem:=31) (sz:=1) (n:=40) (a:=(xA.add 2)) (k:=.i64) (i:=d) Tryz.underlying35 (λ_=>by kernel_rfl) q10.1 q10.2 w)<| T_g1 13 40 (vu ao) (bv 22 16383) [39] (aM 31 (vp (some ((xA.add 2).add (Int.toNat d*1))))) (yx 14 yQ)<| yj 14 (some 41) (bv 22 32767) 19 #[vp z,vu ab,vu ao] h ?_;clear h
  rintro br H5 ⟨ra,rb,rc,rfl,h⟩
  refine⟨[(0,vp (some xA)),(5,vi d),(41,.tuple #[vu ra,.bool rb,vi rc])],pk,(show aE _ _ _ from⟨trivial,trivial,trivial,trivial⟩),?_⟩
  refine T_g 15 (some 26) (.tuple #[vu ra,.bool rb,vi rc]) (bv 22 65535) [(0,vp (some xA)),(5,vi d),(26,.tuple #[vu ra,.bool rb,vi rc])] (pure (.value (.tuple #[vu ra,.bool rb,vi rc])):Sem Next) (λ_ _ _ _ _=>rfl)<| T_g1 16 42 (vu ra) (bv 22 131071) [] (pure (.value (vu ra)):Sem Next) (λ_ _ _ _ _=>rfl)<| T_g1 17 43 (.bool rb) (bv 22 262143) [] (pure (.value (.bool rb)):Sem Next) (λ_ _ _ _ _=>rfl)<| T_g1 18 44 (vi rc) (bv 22 524287) [26] (pure (.value (vi rc)):Sem Next) (λ_ _ _ _ _=>rfl)<| T_g1 19 7 (vu ra) (bv 22 1048575) [42] (pure (.value (vu ra)):Sem Next) (λ_ _ _ _ _=>rfl)<| T_g1 20 8 (.bool rb) (bv 22 2097151) [43] (pure (.value (.bool rb)):Sem Next) (λ_ _ _ _ _=>rfl)<| T_g1 21 9 (vi rc) (bv 22 4194303) [44] (pure (.value (vi rc)):Sem Next) (λ_ _ _ _ _=>rfl)<| dp [(0,vp (some xA)),(5,vi d),(7,vu ra),(8,.bool rb),(9,vi rc)] sk<| yv<| aB<| ar 6<| T_n 3 [(0,vp (some xA)),(5,vi d),(7,vu ra),(8,.bool rb),(9,vi rc),(47,vp (some (xA.add 42)))] ?_
  obtain⟨al,q12,h⟩:=h
  refine T_l1 48 36 q12 [47]<| T_nd 1 [5] [(49,vi d)]<| T_c (some 50) h ?_;clear h
  rintro b1 H6 ⟨l,rfl,h⟩
  refine T_pd [48,49] [(50,vi l)]<| T_ed 1 [50] [(10,vi l)]<| T_sz<| ar 7<| T_ne 2 [(0,vp (some xA)),(7,vu ra),(8,.bool rb),(9,vi rc),(10,vi l),(52,.bool (decide (l<0)))] ?_
  by_cases c13:l<0
  ·rw[if_pos c13]at h
   refine aH 52 (zX c13)<| ar 8 ?_
   refine gm [(4,.bool (((rc==0) && (!rb)) && (ra==0)))] ?_ ?_
   ·exact aB<| gi [4] [.bool (((rc==0) && (!rb)) && (ra==0))] hQ h
   intro hk
   refine T_n 3 [(7,vu ra),(8,.bool rb),(55,.bool (rc==0))] ?_
   by_cases c15:rc=0
   ·have b16:(rc==0)=true:=zK c15
    refine bV [(7,vu ra),(8,.bool rb),(55,.bool true)] (by rw[b16]) ?_
    refine T_nd 4 [8,55] [(59,.bool (!rb))] ?_
    by_cases c17:rb=true
    ·have b18:(!rb)=false:=congrArg Bool.not (c17)
     have b182:rb=true:=c17
     refine N_bd 59 (b:=(!rb)) (v:=false) (by simp only[b18,b182,Bool.not_true,Bool.not_false])<| T_n 4 [(4,.bool false)] ?_
     refine zq<| fl [(4,.bool (((rc==0) && (!rb)) && (ra==0)))] (by simp only[b16,b18,BL]) ?_
     exact hk
    have b18:(!rb)=true:=congrArg Bool.not (zZ c17)
    have b182:rb=false:=zZ c17
    refine N_bd 59 (b:=(!rb)) (v:=true) (by simp only[b18,b182,Bool.not_true,Bool.not_false])<| T_n 4 [(4,.bool (ra==0))] ?_
    refine zq<| fl [(4,.bool (((rc==0) && (!rb)) && (ra==0)))] (by simp only[b16,b18,BL]) ?_
    exact hk
   have b16:(rc==0)=false:=zJ c15
   refine bV [(7,vu ra),(8,.bool rb),(55,.bool false)] (by rw[b16]) ?_
   refine T_n 8 [(4,.bool false)]<| zq<| fl [(4,.bool (((rc==0) && (!rb)) && (ra==0)))] (by simp only[b16,BL]) ?_
   exact hk
  rw[if_neg c13]at h
  refine aI 52 (zQ c13)<| T_kt<| T_sz ?_
  obtain⟨J,h,j20⟩:=h
  refine nO (σ:=Bool) (λs_=> [(4,.bool s_)]) (λs_ H=>J s_ H) ?_ ?_
  ·rintro s4 H7 j21
   replace h:=j20 s4 H7 j21
   exact T_su [(4,.bool s4)]<| aB<| gi [4] [.bool s4] hQ h
  refine T_rz 9<| T_n 3 [(0,vp (some xA)),(7,vu ra),(8,.bool rb),(10,vi l),(65,.bool (rc==0))] ?_
  by_cases c22:rc=0
  ·rw[if_pos c22]at h
   have b23:(rc==0)=true:=zK c22
   refine bV [(0,vp (some xA)),(7,vu ra),(8,.bool rb),(10,vi l),(65,.bool true)] (by rw[b23]) ?_
   clear b23
   refine T_nd 3 [8,65] [(68,.bool rb)] ?_
   by_cases c24:rb=true
   ·rw[if_pos c24]at h
    refine N_bd 68 c24<| T_nd 4 [0,7] [(69,vu ra),(72,vp (some (xA.add 42)))] ?_
    obtain⟨a5,q26,h⟩:=h
    refine T_l1 73 36 q26 [72] ?_
    obtain⟨a6,rfl,h⟩:=h
    refine T_nd 2 [73] [(75,vp (some a6))] ?_
    obtain⟨xB,xN,xC,q27,h⟩:=h
    refine T_l1 76 62 q27 [75]<| T_nd 1 [10] [(77,vi l)] ?_
    obtain⟨aq,rfl,q28,h⟩:=h
    refine T_xd (some 78) 62 67 2 aq xN xC .i64 l Tryz.underlying62 q28.1 q28.2 [76,77] [(78,vp (some (aq.add (Int.toNat l*2))))]<| T_nd 1 [78] [(79,vp (some ((aq.add (Int.toNat l*2)).add 1)))] ?_
    obtain⟨aw,q29,h⟩:=h
    refine T_l1 80 3 q29 [79]<| T_c (some 81) h ?_;clear h
    rintro bt H8 ⟨ax,rfl,h⟩
    exact T_pd [80] [(81,vu ax)]<| T_ne 3 [(4,.bool (ra==ax))]<| jD ((ra==ax):Bool) sk h
   rw[if_neg c24]at h
   refine N_bd 68 (zZ c24)<| T_ne 16 [(4,.bool false)] ?_
   exact jD (false:Bool) sk h
  rw[if_neg c22]at h
  have b23:(rc==0)=false:=zJ c22
  refine bV [(0,vp (some xA)),(7,vu ra),(8,.bool rb),(10,vi l),(65,.bool false)] (by rw[b23]) ?_
  clear b23
  exact T_ne 19 [(4,.bool false)]<| jD (false:Bool) sk h
 rw[if_neg c6]at h
 refine aI 24 (zJ c6)<| ar 10<| T_ed 2 [24] [(84,.bool (o==3))] ?_
 by_cases c30:o=3
 ·rw[if_pos c30]at h
  refine aH 84 (zK c30)<| T_sz ?_
  obtain⟨g,rfl,s,q32,y,q33,q34,ap,q35,h⟩:=h
  refine yz 11 (Code.ops K34) [(14,g,[vp s]),(14,(g.add 1),[vu y]),(14,((g.add 2).add (Int.toNat d*1)),[vu ap])] 20 (bv 20 0) (show aE _ _ _ from⟨⟨q32,trivial⟩,⟨q33,trivial⟩,⟨q35,trivial⟩,trivial⟩)<| T_gp 0 (some 87) (vp (some g)) (bv 20 1) [(0,vp (some g)),(5,vi d),(87,vp (some g))]<| aD 1 88 (vp (some g)) (bv 20 3) [87]<| aD 2 89 (vp (some g)) (bv 20 7) [88]<| T_g1 3 90 (vp s) (bv 20 15) [89] (aM 34 (vp (some g))) (yx 14 yZ)<| aD 4 91 (vp (some g)) (bv 20 31) []<| aD 5 92 (vp (some g)) (bv 20 63) [91]<| aD 6 93 (vp (some (g.add 1))) (bv 20 127) [92]<| T_g1 7 94 (vu y) (bv 20 255) [93] (aM 31 (vp (some (g.add 1)))) (yx 14 yX)<| aD 8 95 (vp (some g)) (bv 20 511) []<| aD 9 96 (vi d) (bv 20 1023) []<| aD 10 97 (vp (some g)) (bv 20 2047) [95]<| aD 11 98 (vp (some (g.add 2))) (bv 20 4095) [97]<| T_g1 12 99 (vp (some ((g.add 2).add (Int.toNat d*1)))) (bv 20 8191) [96,98] (aT 35 (vp (some (g.add 2))) (vi d)) (λ_ w _ _ _=>aR (P:=Tryz.prog) (t:=35) (elem:=31) (sz:=1) (n:=40) (a:=(g.add 2)) (k:=.i64) (i:=d) Tryz.underlying35 (λ_=>by kernel_rfl) q34.1 q34.2 w)<| T_g1 13 100 (vu ap) (bv 20 16383) [99] (aM 31 (vp (some ((g.add 2).add (Int.toNat d*1))))) (yx 14 yQ)<| yj 14 (some 101) (bv 20 32767) 20 #[vp s,vu y,vu ap] h ?_;clear h
  rintro bu H9 ⟨m,q,rfl,h⟩
  refine⟨[(0,vp (some g)),(5,vi d),(101,.tuple #[.bool m,vi q])],pk,(show aE _ _ _ from⟨trivial,trivial,trivial,trivial⟩),?_⟩
  refine T_g 15 (some 86) (.tuple #[.bool m,vi q]) (bv 20 65535) [(0,vp (some g)),(5,vi d),(86,.tuple #[.bool m,vi q])] (pure (.value (.tuple #[.bool m,vi q])):Sem Next) (λ_ _ _ _ _=>rfl)<| T_g1 16 102 (.bool m) (bv 20 131071) [] (pure (.value (.bool m)):Sem Next) (λ_ _ _ _ _=>rfl)<| T_g1 17 103 (vi q) (bv 20 262143) [86] (pure (.value (vi q)):Sem Next) (λ_ _ _ _ _=>rfl)<| T_g1 18 11 (.bool m) (bv 20 524287) [102] (pure (.value (.bool m)):Sem Next) (λ_ _ _ _ _=>rfl)<| T_g1 19 12 (vi q) (bv 20 1048575) [103] (pure (.value (vi q)):Sem Next) (λ_ _ _ _ _=>rfl)<| dp [(0,vp (some g)),(5,vi d),(11,.bool m),(12,vi q)] sk<| yv<| aB<| T_sz ?_
  obtain⟨bc,h,j37⟩:=h
  refine nO (σ:=Bool) (λs_=> [(4,.bool s_)]) (λs_ H=>bc s_ H) ?_ ?_
  ·rintro ay H10 j38
   replace h:=j37 ay H10 j38
   exact T_su [(4,.bool ay)]<| aB<| gi [4] [.bool ay] hQ h
  refine T_rz 12<| T_n 3 [(0,vp (some g)),(5,vi d),(11,.bool m),(106,.bool (q==0))] ?_
  by_cases c39:q=0
  ·rw[if_pos c39]at h
   have b40:(q==0)=true:=zK c39
   refine bV [(0,vp (some g)),(5,vi d),(11,.bool m),(106,.bool true)] (by rw[b40]) ?_
   clear b40
   refine T_nd 4 [0,11] [(107,.bool m),(110,vp (some (g.add 42)))] ?_
   obtain⟨am,q41,h⟩:=h
   refine T_l1 111 36 q41 [110]<| T_nd 1 [5] [(112,vi d)]<| T_c (some 113) h ?_;clear h
   rintro b2 b0 ⟨au,rfl,h⟩
   exact T_pd [111,112] [(113,.bool au)]<| T_ne 3 [(4,.bool (m==au))]<| jD ((m==au):Bool) sk h
  rw[if_neg c39]at h
  have b40:(q==0)=false:=zJ c39
  refine bV [(0,vp (some g)),(5,vi d),(11,.bool m),(106,.bool false)] (by rw[b40]) ?_
  clear b40
  exact T_ne 10 [(4,.bool false)]<| jD (false:Bool) sk h
 rw[if_neg c30]at h
 refine aI 84 (zJ c30)<| ar 13<| T_ed 2 [84] [(116,.bool (o==4))] ?_
 by_cases c42:o=4
 ·rw[if_pos c42]at h
  refine aH 116 (zK c42)<| T_sz<| ar 14<| T_ed 1 [5,6,23,116] [(13,vi 0)]<| T_bz 1 ?_
  obtain⟨be,m48,i44,i45⟩:=h
  refine cu (x:=K47) (σ:=Int) (λs_=> [(0,vp x),(3,vp (pa b)),(13,vi s_)]) (λs_ H=>be s_ H) (λs_ H=>m48 s_ H) (0:Int) (by kernel_rfl) i44 sk ?_
  rintro i H12 i46
  have h:=i45 i H12 i46
  refine T_su [(0,vp x),(3,vp (pa b)),(13,vi i)]<| T_sz<| ar 15<| T_nd 2 [] [(118,vi i),(119,vp (some ((ad b).add 2)))] ?_
  obtain⟨az,q47,h⟩:=h
  refine T_l1 120 3 q47 [119]<| T_c (some 121) h ?_;clear h
  rintro bw bf ⟨ai,rfl,h⟩
  refine T_pd [120] [(121,vi ai)]<| T_ed 1 [118,121] [(122,.bool (decide (i<ai)))] ?_
  by_cases c48:i<ai
  ·rw[if_pos c48]at h
   refine aH 122 (zX c48)<| T_kt<| T_sz<| T_bz 2<| T_rz 17<| T_nd 1 [122] [(125,vp x)] ?_
   obtain⟨ag,rfl,h⟩:=h
   refine T_nd 2 [0,125] [(0,vp (some ag)),(127,vp (some ag))] ?_
   obtain⟨a0,q50,h⟩:=h
   refine T_l1 128 34 q50 [127]<| T_c (some 129) h ?_;clear h
   rintro bn bk ⟨bj,bo,rfl,h⟩
   exact T_pd [128] []<| zq<| aC<| aB<| T_rz 16<| T_ed 3 [13] [(13,vi (zY (i+1)))]<| aQ ((zY (i+1)):Int) sk h
  rw[if_neg c48]at h
  exact aI 122 (zQ c48)<| zj 1<| aA<| aA<| aN<| aB<| ar 18<| T_nr 1 [4] [.bool true] hQ h
 rw[if_neg c42]at h
 refine aI 116 (zJ c42)<| ar 19<| T_ed 2 [23,116] [(130,.bool (o==5))] ?_
 by_cases c51:o=5
 ·rw[if_pos c51]at h
  refine aH 130 (zK c51)<| T_sz ?_
  obtain⟨af,q53,ah,q54,h⟩:=h
  refine yz 20 (Code.ops K63) [(3,((ad b).add 3),[vi af]),(6,((ad b).add 4),[.bool ah])] 8 (bv 8 0) (show aE _ _ _ from⟨⟨q53,trivial⟩,⟨q54,trivial⟩,trivial⟩)<| T_gp 0 (some 132) (vp x) (bv 8 1) [(3,vp (pa b)),(132,vp x)]<| aD 1 133 (vp (some ((ad b).add 3))) (bv 8 3) []<| T_g1 2 134 (vi af) (bv 8 7) [133] (aM 3 (vp (some ((ad b).add 3)))) (yx 3 yZ)<| aD 4 136 (vp (some ((ad b).add 4))) (bv 8 23) [3]<| T_g1 5 137 (.bool ah) (bv 8 55) [136] (aM 4 (vp (some ((ad b).add 4)))) (yx 6 yX)<| yj 3 (some 135) (bv 8 63) 13 #[vi af,vi 4] h ?_;clear h
  rintro bl bm ⟨a3,rfl,f55,h⟩
  refine⟨[(132,vp x),(135,vi a3),(137,.bool ah)],pk,(show aE _ _ _ from⟨trivial,f55,trivial⟩),?_⟩
  refine yj 6 (some 138) (bv 8 127) 28 #[vp x,vi a3,.bool ah] h ?_;clear h
  rintro bi b3 ⟨ae,rfl,h⟩
  refine⟨[(138,.bool ae)],pk,(show aE _ _ _ from⟨trivial,trivial,trivial⟩),?_⟩
  exact T_g 7 (some 4) (.bool ae) (bv 8 255) [(4,.bool ae)] (pure (.value (.bool ae)):Sem Next) (λ_ _ _ _ _=>rfl)<| dp [(4,.bool ae)] sk<| yv<| aB<| gi [4] [.bool ae] hQ h
 rw[if_neg c51]at h
 refine aI 130 (zJ c51)<| T_k<| aC<| aB<| T_sz ?_
 obtain⟨f,rfl,r,q56,u,q57,q58,aa,q59,h⟩:=h
 refine yz 21 (Code.ops K65) [(16,f,[vp r]),(16,(f.add 1),[vu u]),(16,((f.add 2).add (Int.toNat d*1)),[vu aa])] 18 (bv 18 0) (show aE _ _ _ from⟨⟨q56,trivial⟩,⟨q57,trivial⟩,⟨q59,trivial⟩,trivial⟩)<| T_gp 0 (some 139) (vp (some f)) (bv 18 1) [(0,vp (some f)),(5,vi d),(6,vi j),(139,vp (some f))]<| aD 1 140 (vp (some f)) (bv 18 3) [139]<| aD 2 141 (vp (some f)) (bv 18 7) [140]<| T_g1 3 142 (vp r) (bv 18 15) [141] (aM 34 (vp (some f))) (yx 16 yZ)<| aD 4 143 (vp (some f)) (bv 18 31) []<| aD 5 144 (vp (some f)) (bv 18 63) [143]<| aD 6 145 (vp (some (f.add 1))) (bv 18 127) [144]<| T_g1 7 146 (vu u) (bv 18 255) [145] (aM 31 (vp (some (f.add 1)))) (yx 16 yX)<| aD 8 147 (vp (some f)) (bv 18 511) []<| aD 9 148 (vi d) (bv 18 1023) []<| aD 10 149 (vp (some f)) (bv 18 2047) [147]<| aD 11 150 (vp (some (f.add 2))) (bv 18 4095) [149]<| T_g1 12 151 (vp (some ((f.add 2).add (Int.toNat d*1)))) (bv 18 8191) [148,150] (aT 35 (vp (some (f.add 2))) (vi d)) (λ_ w _ _ _=>aR (P:=Tryz.prog) (t:=35) (elem:=31) (sz:=1) (n:=40) (a:=(f.add 2)) (k:=.i64) (i:=d) Tryz.underlying35 (λ_=>by kernel_rfl) q58.1 q58.2 w)<| T_g1 13 152 (vu aa) (bv 18 16383) [151] (aM 31 (vp (some ((f.add 2).add (Int.toNat d*1))))) (yx 16 yQ)<| aD 14 153 (vi j) (bv 18 32767) []<| yj 15 (some 154) (bv 18 65535) 16 #[vi j] h ?_;clear h
 rintro bg bb ⟨a4,rfl,f60,f61,f62,h⟩
 refine⟨[(0,vp (some f)),(5,vi d),(6,vi j),(142,vp r),(146,vu u),(152,vu aa),(154,vu a4)],pk,(show aE _ _ _ from⟨f60,f61,f62,trivial⟩),?_⟩
 refine yj 16 (some 155) (bv 18 131071) 15 #[vp r,vu u,vu aa,vu a4] h ?_;clear h
 rintro bh bd ⟨p,rfl,h⟩
 refine⟨[(0,vp (some f)),(5,vi d),(6,vi j),(155,vi p)],pk,(show aE _ _ _ from⟨trivial,trivial,trivial,trivial⟩),?_⟩
 refine T_g 17 (some 14) (vi p) (bv 18 262143) [(0,vp (some f)),(5,vi d),(6,vi j),(14,vi p)] (pure (.value (vi p)):Sem Next) (λ_ _ _ _ _=>rfl)<| dp [(0,vp (some f)),(5,vi d),(6,vi j),(14,vi p)] sk<| yv<| aB<| T_sz<| ar 22<| T_ne 2 [(0,vp (some f)),(5,vi d),(6,vi j),(14,vi p),(157,.bool (p==2))] ?_
 by_cases c63:p=2
 ·rw[if_pos c63]at h
  refine aH 157 (zK c63)<| ar 23<| T_n 3 [(5,vi d),(160,vp (some (f.add 42)))] ?_
  obtain⟨an,q65,h⟩:=h
  refine T_l1 161 36 q65 [160]<| T_nd 1 [5] [(162,vi d)]<| T_c (some 163) h ?_;clear h
  rintro bp bs ⟨av,rfl,h⟩
  refine⟨[(163,vi av)],pk,?_⟩
  exact T_nr 2 [4] [.bool (decide (av<0))] hQ h
 rw[if_neg c63]at h
 refine aI 157 (zJ c63)<| T_kt<| ar 24<| T_nd 3 [0,157] [(167,vp (some (f.add 42)))] ?_
 obtain⟨ak,q66,h⟩:=h
 refine T_l1 168 36 q66 [167]<| T_nd 2 [5,6] [(169,vi d),(170,vi j)]<| T_c (some 171) h ?_;clear h
 intro v_16 bz h
 refine⟨[(14,vi p)],pk,?_⟩
 exact T_e<| ar 25<| T_nr 3 [4] [.bool (p==0)] hQ h
end aO

/-! (*moraine/morainelaw15.play).told -/
namespace bD
def K0:=Func.code Tryz.f11
def K2:=cb K0
def K3:=ca K2
def K4:=cb K2
def K5:=ca K4
def K6:=cb K4
def K7:=ca K6
def K8:=cb K6
def K10:=cb K8
def K17:=ca K10
def K20:=cb K17
def K21:=ca K20
def K22:=ca K21
def K24:=cb K22
def K29:=ca K24
def K31:=ca K29
def K32:=ca K31
end bD
def bD.pt(x:zW)(H:zV)(R:zk):Prop:=
 ∃xA:Addr,x=some xA/\
 ∃al:zW,hat H xA=some (.pointer al)/\
 ∃ap:Int,hat H (xA.add 1)=some (.int .u64 ap)/\
 fQ.C al ap H (λv H1=> ∃ra rb:Int,v=.tuple #[.int .i64 ra,.int .i64 rb]/\
 ∃ai:zW,hat H1 xA=some (.pointer ai)/\
 ∃ao:Int,hat H1 (xA.add 1)=some (.int .u64 ao)/\
 gz.C ai ao H1 (λa2 H2=> ∃(o:zW) (f g:Nat) (q:Int),a2=.tuple #[.slice o f g,.int .i64 q]/\
 ∃ak:zW,hat H2 xA=some (.pointer ak)/\
 ∃an:Int,hat H2 (xA.add 1)=some (.int .u64 an)/\
 fy.C ak an H2 (λa0 H3=> ∃(j:zW) (b d:Nat) (y:Int),a0=.tuple #[.slice j b d,.int .i64 y]/\
 if rb=0 then(
 if q=0 then(
 if y=0 then(
 ∃aq:zW,hat H3 (xA.add 42)=some (.pointer aq)/\
 ∃au:Addr,aq=some au/\
 ∃(xB:zW) (xN xC:Nat),hat H3 au=some (.slice xB xN xC)/\
 if(((ra !=(xN:Int)) || ((f:Int) !=ra)) || ((b:Int) !=ra))=true then(
 R (.bool false) H3)
 else
 ∃(av:zv) (m23:Int->zV->Nat),av 0 H3/\ ∀(i:Int) (H4:zV),av i H4->
 if i<ra then(
 ∃l:Addr,o=some l/\
 zw i f/\
 ∃p:Int,hat H4 (l.add (Int.toNat i*1))=some (.int .u64 p)/\
 ∃az:zW,hat H4 (xA.add 42)=some (.pointer az)/\
 ∃z:Addr,az=some z/\
 ∃(ay:zW) (ac ae:Nat),hat H4 z=some (.slice ay ac ae)/\
 ∃s:Addr,ay=some s/\
 zw i ac/\
 ∃u:Int,hat H4 (s.add (Int.toNat i*2))=some (.int .i64 u)/\
 zw u 40/\
 ∃aa:Int,hat H4 ((xA.add 2).add (Int.toNat u*1))=some (.int .u64 aa)/\
 if p=aa then(
 ∃m:Addr,j=some m/\
 zw i b/\
 ∃r:Int,hat H4 (m.add (Int.toNat i*1))=some (.int .u64 r)/\
 ∃aw:zW,hat H4 (xA.add 42)=some (.pointer aw)/\
 ∃ag:Addr,aw=some ag/\
 ∃(ax:zW) (ah aj:Nat),hat H4 ag=some (.slice ax ah aj)/\
 ∃ab:Addr,ax=some ab/\
 zw i ah/\
 ∃am:Int,hat H4 ((ab.add (Int.toNat i*2)).add 1)=some (.int .i64 am)/\
 bN.C am H4 (λa1 H5=> ∃af:Int,a1=.int .u64 af/\aL H5 (m.add (Int.toNat i*1)) 0 [.int .u64 r]/\
 if r=af then(
 (av (zY (i+1)) H5/\m23 (zY (i+1)) H5<m23 i H4))
 else
 R (.bool false) H5))
 else
 R (.bool false) H4)
 else
 R (.bool true) H4)
 else
 R (.bool false) H3)
 else
 R (.bool false) H3)
 else
 R (.bool false) H3)))
namespace bD
theorem link{x:zW}{H:zV}{R:zk}(h:pt x H R):C x H R:=by
 refine T_en K0 125 Tryz.func11 ?_
 intro w0 Q hQ
 unfold pt zY at h
 refine T_su [(0,vp x)]<| ar 0<| T_ed 1 [] []<| T_sz ?_
 obtain⟨xA,rfl,al,q1,ap,q2,h⟩:=h
 refine yz 1 (Code.ops K3) [(8,xA,[vp al]),(8,(xA.add 1),[vu ap])] 14 (bv 14 0) (show aE _ _ _ from⟨⟨q1,trivial⟩,⟨q2,trivial⟩,trivial⟩)<| T_gp 0 (some 11) (vp (some xA)) (bv 14 1) [(0,vp (some xA)),(11,vp (some xA))]<| aD 1 12 (vp (some xA)) (bv 14 3) [11]<| aD 2 13 (vp (some xA)) (bv 14 7) [12]<| T_g1 3 14 (vp al) (bv 14 15) [13] (aM 34 (vp (some xA))) (yx 8 yZ)<| aD 4 15 (vp (some xA)) (bv 14 31) []<| aD 5 16 (vp (some xA)) (bv 14 63) [15]<| aD 6 17 (vp (some (xA.add 1))) (bv 14 127) [16]<| T_g1 7 18 (vu ap) (bv 14 255) [17] (aM 31 (vp (some (xA.add 1)))) (yx 8 yX)<| yj 8 (some 19) (bv 14 511) 21 #[vp al,vu ap] h ?_;clear h
 rintro v H1 ⟨ra,rb,rfl,h⟩
 refine⟨[(0,vp (some xA)),(19,.tuple #[vi ra,vi rb])],pk,(show aE _ _ _ from⟨trivial,trivial,trivial⟩),?_⟩
 refine T_g 9 (some 10) (.tuple #[vi ra,vi rb]) (bv 14 1023) [(0,vp (some xA)),(10,.tuple #[vi ra,vi rb])] (pure (.value (.tuple #[vi ra,vi rb])):Sem Next) (λ_ _ _ _ _=>rfl)<| T_g1 10 20 (vi ra) (bv 14 2047) [] (pure (.value (vi ra)):Sem Next) (λ_ _ _ _ _=>rfl)<| T_g1 11 21 (vi rb) (bv 14 4095) [10] (pure (.value (vi rb)):Sem Next) (λ_ _ _ _ _=>rfl)<| T_g1 12 3 (vi ra) (bv 14 8191) [20] (pure (.value (vi ra)):Sem Next) (λ_ _ _ _ _=>rfl)<| T_g1 13 4 (vi rb) (bv 14 16383) [21] (pure (.value (vi rb)):Sem Next) (λ_ _ _ _ _=>rfl)<| dp [(0,vp (some xA)),(3,vi ra),(4,vi rb)] sk<| yv<| aB<| T_sz ?_
 obtain⟨ai,q3,ao,q4,h⟩:=h
 refine yz 2 (Code.ops K5) [(8,xA,[vp ai]),(8,(xA.add 1),[vu ao])] 14 (bv 14 0) (show aE _ _ _ from⟨⟨q3,trivial⟩,⟨q4,trivial⟩,trivial⟩)<| T_gp 0 (some 23) (vp (some xA)) (bv 14 1) [(0,vp (some xA)),(3,vi ra),(4,vi rb),(23,vp (some xA))]<| aD 1 24 (vp (some xA)) (bv 14 3) [23]<| aD 2 25 (vp (some xA)) (bv 14 7) [24]<| T_g1 3 26 (vp ai) (bv 14 15) [25] (aM 34 (vp (some xA))) (yx 8 yZ)<| aD 4 27 (vp (some xA)) (bv 14 31) []<| aD 5 28 (vp (some xA)) (bv 14 63) [27]<| aD 6 29 (vp (some (xA.add 1))) (bv 14 127) [28]<| T_g1 7 30 (vu ao) (bv 14 255) [29] (aM 31 (vp (some (xA.add 1)))) (yx 8 yX)<| yj 8 (some 31) (bv 14 511) 22 #[vp ai,vu ao] h ?_;clear h
 rintro a2 H2 ⟨o,f,g,q,rfl,h⟩
 refine⟨[(0,vp (some xA)),(3,vi ra),(4,vi rb),(31,.tuple #[vs o f g,vi q])],pk,(show aE _ _ _ from⟨trivial,trivial,trivial⟩),?_⟩
 refine T_g 9 (some 22) (.tuple #[vs o f g,vi q]) (bv 14 1023) [(0,vp (some xA)),(3,vi ra),(4,vi rb),(22,.tuple #[vs o f g,vi q])] (pure (.value (.tuple #[vs o f g,vi q])):Sem Next) (λ_ _ _ _ _=>rfl)<| T_g1 10 32 (vs o f g) (bv 14 2047) [] (pure (.value (vs o f g)):Sem Next) (λ_ _ _ _ _=>rfl)<| T_g1 11 33 (vi q) (bv 14 4095) [22] (pure (.value (vi q)):Sem Next) (λ_ _ _ _ _=>rfl)<| T_g1 12 5 (vs o f g) (bv 14 8191) [32] (pure (.value (vs o f g)):Sem Next) (λ_ _ _ _ _=>rfl)<| T_g1 13 6 (vi q) (bv 14 16383) [33] (pure (.value (vi q)):Sem Next) (λ_ _ _ _ _=>rfl)<| dp [(0,vp (some xA)),(3,vi ra),(4,vi rb),(5,vs o f g),(6,vi q)] sk<| yv<| aB<| T_sz ?_
 obtain⟨ak,q5,an,q6,h⟩:=h
 refine yz 3 (Code.ops K7) [(8,xA,[vp ak]),(8,(xA.add 1),[vu an])] 14 (bv 14 0) (show aE _ _ _ from⟨⟨q5,trivial⟩,⟨q6,trivial⟩,trivial⟩)<| T_gp 0 (some 35) (vp (some xA)) (bv 14 1) [(0,vp (some xA)),(3,vi ra),(4,vi rb),(5,vs o f g),(6,vi q),(35,vp (some xA))]<| aD 1 36 (vp (some xA)) (bv 14 3) [35]<| aD 2 37 (vp (some xA)) (bv 14 7) [36]<| T_g1 3 38 (vp ak) (bv 14 15) [37] (aM 34 (vp (some xA))) (yx 8 yZ)<| aD 4 39 (vp (some xA)) (bv 14 31) []<| aD 5 40 (vp (some xA)) (bv 14 63) [39]<| aD 6 41 (vp (some (xA.add 1))) (bv 14 127) [40]<| T_g1 7 42 (vu an) (bv 14 255) [41] (aM 31 (vp (some (xA.add 1)))) (yx 8 yX)<| yj 8 (some 43) (bv 14 511) 24 #[vp ak,vu an] h ?_;clear h
 rintro a0 H3 ⟨j,b,d,y,rfl,h⟩
 refine⟨[(0,vp (some xA)),(3,vi ra),(4,vi rb),(5,vs o f g),(6,vi q),(43,.tuple #[vs j b d,vi y])],pk,(show aE _ _ _ from⟨trivial,trivial,trivial⟩),?_⟩
 refine T_g 9 (some 34) (.tuple #[vs j b d,vi y]) (bv 14 1023) [(0,vp (some xA)),(3,vi ra),(4,vi rb),(5,vs o f g),(6,vi q),(34,.tuple #[vs j b d,vi y])] (pure (.value (.tuple #[vs j b d,vi y])):Sem Next) (λ_ _ _ _ _=>rfl)<| T_g1 10 44 (vs j b d) (bv 14 2047) [] (pure (.value (vs j b d)):Sem Next) (λ_ _ _ _ _=>rfl)<| T_g1 11 45 (vi y) (bv 14 4095) [34] (pure (.value (vi y)):Sem Next) (λ_ _ _ _ _=>rfl)<| T_g1 12 7 (vs j b d) (bv 14 8191) [44] (pure (.value (vs j b d)):Sem Next) (λ_ _ _ _ _=>rfl)<| T_g1 13 8 (vi y) (bv 14 16383) [45] (pure (.value (vi y)):Sem Next) (λ_ _ _ _ _=>rfl)<| dp [(0,vp (some xA)),(3,vi ra),(4,vi rb),(5,vs o f g),(6,vi q),(7,vs j b d),(8,vi y)] sk<| yv<| aB<| T_sz<| ar 4<| T_n 3 [(0,vp (some xA)),(3,vi ra),(5,vs o f g),(6,vi q),(7,vs j b d),(8,vi y),(48,.bool (rb !=0))] ?_
 by_cases c7:rb=0
 ·rw[if_pos c7]at h
  have b8:(rb !=0)=false:=bne_eq_false_iff_eq.mpr c7
  refine bV [(0,vp (some xA)),(3,vi ra),(5,vs o f g),(6,vi q),(7,vs j b d),(8,vi y),(48,.bool false)] (by rw[b8]) ?_
  clear b8
  refine T_nd 4 [6,48] [(52,.bool (q !=0))] ?_
  by_cases c9:q=0
  ·rw[if_pos c9]at h
   refine N_bd 52 (bne_eq_false_iff_eq.mpr c9)<| T_nd 4 [8,52] [(56,.bool (y !=0))] ?_
   by_cases c11:y=0
   ·rw[if_pos c11]at h
    refine N_bd 56 (bne_eq_false_iff_eq.mpr c11)<| T_nd 4 [] [(57,vi ra),(60,vp (some (xA.add 42)))] ?_
    obtain⟨aq,q13,h⟩:=h
    refine T_l1 61 36 q13 [60] ?_
    obtain⟨au,rfl,h⟩:=h
    refine T_nd 2 [61] [(63,vp (some au))] ?_
    obtain⟨xB,xN,xC,q14,h⟩:=h
    refine T_l1 64 62 q14 [63]<| T_nd 4 [56,57,64] [(68,.bool (ra !=(xN:Int)))] ?_
    refine gm [(0,vp (some xA)),(3,vi ra),(5,vs o f g),(7,vs j b d),(79,.bool (((ra !=(xN:Int)) || ((f:Int) !=ra)) || ((b:Int) !=ra)))] ?_ ?_
    ·refine aB ?_
     by_cases c19:(((ra !=(xN:Int)) || ((f:Int) !=ra)) || ((b:Int) !=ra))=true
     ·rw[if_pos c19]at h
      exact aH 79 c19<| ar 5<| T_nr 1 [2] [.bool false] hQ h
     rw[if_neg c19]at h
     refine aI 79 (zZ c19)<| T_kt<| T_sz<| ar 6<| T_ne 1 [(0,vp (some xA)),(3,vi ra),(5,vs o f g),(7,vs j b d),(9,vi 0)]<| T_bz 0 ?_
     obtain⟨av,m23,i21,i22⟩:=h
     refine cu (x:=K22) (σ:=Int) (λs_=> [(0,vp (some xA)),(3,vi ra),(5,vs o f g),(7,vs j b d),(9,vi s_)]) (λs_ H=>av s_ H) (λs_ H=>m23 s_ H) (0:Int) (by kernel_rfl) i21 sk ?_
     rintro i H4 i23
     have h:=i22 i H4 i23
     refine T_su [(0,vp (some xA)),(3,vi ra),(5,vs o f g),(7,vs j b d),(9,vi i)]<| T_sz<| ar 7<| T_ed 3 [] [(82,.bool (decide (i<ra)))] ?_
     by_cases c24:i<ra
     ·rw[if_pos c24]at h
      refine aH 82 (zX c24)<| T_kt<| T_sz<| T_bz 1<| T_sz ?_
      obtain⟨l,rfl,q26,p,q27,az,q28,z,rfl,ay,ac,ae,q29,s,rfl,q30,u,q31,q32,aa,q33,h⟩:=h
      by_cases c34:p=aa
      ·rw[if_pos c34]at h
       obtain⟨m,rfl,q36,r,q37,aw,q38,ag,rfl,ax,ah,aj,q39,ab,rfl,q40,am,q41,h⟩:=h
       refine yz 9 (Code.ops K32) [(37,(l.add (Int.toNat i*1)),[vu p]),(37,(xA.add 42),[vp (some z)]),(37,z,[vs (some s) ac ae]),(37,(s.add (Int.toNat i*2)),[vi u]),(37,((xA.add 2).add (Int.toNat u*1)),[vu aa]),(40,(m.add (Int.toNat i*1)),[vu r]),(37,(xA.add 42),[vp (some ag)]),(37,ag,[vs (some ab) ah aj]),(37,((ab.add (Int.toNat i*2)).add 1),[vi am])] 40 (bv 40 0) (show aE _ _ _ from⟨⟨q27,trivial⟩,⟨q28,trivial⟩,⟨q29,trivial⟩,⟨q31,trivial⟩,⟨q33,trivial⟩,⟨q37,trivial⟩,⟨q38,trivial⟩,⟨q39,trivial⟩,⟨q41,trivial⟩,trivial⟩)<| T_gp 0 (some 85) (vs (some l) f g) (bv 40 1) [(0,vp (some xA)),(3,vi ra),(5,vs (some l) f g),(7,vs (some m) b d),(9,vi i),(85,vs (some l) f g)]<| aD 1 86 (vi i) (bv 40 3) []<| T_g1 2 87 (vp (some (l.add (Int.toNat i*1)))) (bv 40 7) [85,86] (aT 54 (vs (some l) f g) (vi i)) (λ_ w _ _ _=>dm (P:=Tryz.prog) (t:=54) (elem:=31) (sz:=1) (a:=l) (len:=f) (cap:=g) (k:=.i64) (i:=i) Tryz.underlying54 (λ_=>by kernel_rfl) q26.1 q26.2 w)<| T_g1 3 88 (vu p) (bv 40 15) [87] (aM 31 (vp (some (l.add (Int.toNat i*1))))) (yx 37 yZ)<| aD 4 89 (vp (some xA)) (bv 40 31) []<| aD 5 90 (vp (some xA)) (bv 40 63) []<| aD 6 91 (vp (some xA)) (bv 40 127) [90]<| aD 7 92 (vp (some (xA.add 42))) (bv 40 255) [91]<| T_g1 8 93 (vp (some z)) (bv 40 511) [92] (aM 36 (vp (some (xA.add 42)))) (yx 37 yX)<| aD 9 94 (vp (some z)) (bv 40 1023) [93]<| aD 10 95 (vp (some z)) (bv 40 2047) [94]<| T_g1 11 96 (vs (some s) ac ae) (bv 40 4095) [95] (aM 62 (vp (some z))) (yx 37 yQ)<| aD 12 97 (vi i) (bv 40 8191) []<| T_g1 13 98 (vp (some (s.add (Int.toNat i*2)))) (bv 40 16383) [96,97] (aT 62 (vs (some s) ac ae) (vi i)) (λ_ w _ _ _=>dm (P:=Tryz.prog) (t:=62) (elem:=67) (sz:=2) (a:=s) (len:=ac) (cap:=ae) (k:=.i64) (i:=i) Tryz.underlying62 (λ_=>by kernel_rfl) q30.1 q30.2 w)<| aD 14 99 (vp (some (s.add (Int.toNat i*2)))) (bv 40 32767) [98]<| T_g1 15 100 (vi u) (bv 40 65535) [99] (aM 3 (vp (some (s.add (Int.toNat i*2))))) (yx 37 yJ)<| aD 16 101 (vp (some xA)) (bv 40 131071) [89]<| aD 17 102 (vp (some (xA.add 2))) (bv 40 262143) [101]<| T_g1 18 103 (vp (some ((xA.add 2).add (Int.toNat u*1)))) (bv 40 524287) [100,102] (aT 35 (vp (some (xA.add 2))) (vi u)) (λ_ w _ _ _=>aR (P:=Tryz.prog) (t:=35) (elem:=31) (sz:=1) (n:=40) (a:=(xA.add 2)) (k:=.i64) (i:=u) Tryz.underlying35 (λ_=>by kernel_rfl) q32.1 q32.2 w)<| T_g1 19 104 (vu aa) (bv 40 1048575) [103] (aM 31 (vp (some ((xA.add 2).add (Int.toNat u*1))))) (yx 37 yK)<| aD 20 105 (.bool (p !=aa)) (bv 40 2097151) [88,104]<| aD 21 106 (.bool (p !=aa)) (bv 40 4194303) [105]<| G_bd 106 (bne_eq_false_iff_eq.mpr c34)<| aD 22 107 (vs (some m) b d) (bv 40 8388607) []<| aD 23 108 (vi i) (bv 40 16777215) []<| T_g1 24 109 (vp (some (m.add (Int.toNat i*1)))) (bv 40 33554431) [107,108] (aT 54 (vs (some m) b d) (vi i)) (λ_ w _ _ _=>dm (P:=Tryz.prog) (t:=54) (elem:=31) (sz:=1) (a:=m) (len:=b) (cap:=d) (k:=.i64) (i:=i) Tryz.underlying54 (λ_=>by kernel_rfl) q36.1 q36.2 w)<| T_g1 25 110 (vu r) (bv 40 67108863) [109] (aM 31 (vp (some (m.add (Int.toNat i*1))))) (jb 40 (λ_=>by kernel_rfl) yV (.inr (by kernel_rfl)))<| aD 26 111 (vp (some xA)) (bv 40 134217727) []<| aD 27 112 (vp (some xA)) (bv 40 268435455) [111]<| aD 28 113 (vp (some (xA.add 42))) (bv 40 536870911) [112]<| T_g1 29 114 (vp (some ag)) (bv 40 1073741823) [113] (aM 36 (vp (some (xA.add 42)))) (yx 37 yW)<| aD 30 115 (vp (some ag)) (bv 40 2147483647) [114]<| aD 31 116 (vp (some ag)) (bv 40 4294967295) [115]<| T_g1 32 117 (vs (some ab) ah aj) (bv 40 8589934591) [116] (aM 62 (vp (some ag))) (yx 37 yY)<| aD 33 118 (vi i) (bv 40 17179869183) []<| T_g1 34 119 (vp (some (ab.add (Int.toNat i*2)))) (bv 40 34359738367) [117,118] (aT 62 (vs (some ab) ah aj) (vi i)) (λ_ w _ _ _=>dm (P:=Tryz.prog) (t:=62) (elem:=67) (sz:=2) (a:=ab) (len:=ah) (cap:=aj) (k:=.i64) (i:=i) Tryz.underlying62 (λ_=>by kernel_rfl) q40.1 q40.2 w)<| aD 35 120 (vp (some ((ab.add (Int.toNat i*2)).add 1))) (bv 40 68719476735) [119]<| T_g1 36 121 (vi am) (bv 40 137438953471) [120] (aM 3 (vp (some ((ab.add (Int.toNat i*2)).add 1)))) (yx 37 yq)<| yj 37 (some 122) (bv 40 274877906943) 16 #[vi am] h ?_;clear h
       rintro a1 H5 ⟨af,rfl,f42,h⟩
       refine⟨[(0,vp (some xA)),(3,vi ra),(5,vs (some l) f g),(7,vs (some m) b d),(9,vi i),(106,.bool false),(110,vu r),(122,vu af)],pk,(show aE _ _ _ from⟨trivial,trivial,trivial,trivial,trivial,f42,trivial,trivial,trivial,trivial⟩),?_⟩
       refine T_g 38 (some 123) (.bool (r !=af)) (bv 40 549755813887) [(0,vp (some xA)),(3,vi ra),(5,vs (some l) f g),(7,vs (some m) b d),(9,vi i),(106,.bool false),(123,.bool (r !=af))] (pure (.value (.bool (r !=af))):Sem Next) (λ_ _ _ _ _=>rfl)<| T_g1 39 124 (.bool (r !=af)) (bv 40 1099511627775) [106,123] (pure (.value (.bool (r !=af))):Sem Next) (λ_ _ _ _ _=>rfl)<| dp [(0,vp (some xA)),(3,vi ra),(5,vs (some l) f g),(7,vs (some m) b d),(9,vi i),(124,.bool (r !=af))] sk<| yv<| aB ?_
       by_cases c43:r=af
       ·rw[if_pos c43]at h
        exact aI 124 (bne_eq_false_iff_eq.mpr c43)<| T_k<| aC<| aB<| T_rz 8<| T_ne 3 [(0,vp (some xA)),(3,vi ra),(5,vs (some l) f g),(7,vs (some m) b d),(9,vi (zY (i+1)))]<| aQ ((zY (i+1)):Int) sk h
       rw[if_neg c43]at h
       exact aH 124 (bne_iff_ne.mpr c43)<| ar 10<| T_nr 1 [2] [.bool false] hQ h
      rw[if_neg c34]at h
      exact yz 9 (Code.ops K32) [(40,(l.add (Int.toNat i*1)),[vu p]),(40,(xA.add 42),[vp (some z)]),(40,z,[vs (some s) ac ae]),(40,(s.add (Int.toNat i*2)),[vi u]),(40,((xA.add 2).add (Int.toNat u*1)),[vu aa])] 40 (bv 40 0) (show aE _ _ _ from⟨⟨q27,trivial⟩,⟨q28,trivial⟩,⟨q29,trivial⟩,⟨q31,trivial⟩,⟨q33,trivial⟩,trivial⟩)<| T_gp 0 (some 85) (vs (some l) f g) (bv 40 1) [(0,vp (some xA)),(3,vi ra),(5,vs (some l) f g),(7,vs j b d),(9,vi i),(85,vs (some l) f g)]<| aD 1 86 (vi i) (bv 40 3) []<| T_g1 2 87 (vp (some (l.add (Int.toNat i*1)))) (bv 40 7) [85,86] (aT 54 (vs (some l) f g) (vi i)) (λ_ w _ _ _=>dm (P:=Tryz.prog) (t:=54) (elem:=31) (sz:=1) (a:=l) (len:=f) (cap:=g) (k:=.i64) (i:=i) Tryz.underlying54 (λ_=>by kernel_rfl) q26.1 q26.2 w)<| T_g1 3 88 (vu p) (bv 40 15) [87] (aM 31 (vp (some (l.add (Int.toNat i*1))))) (jb 40 (λ_=>by kernel_rfl) yZ (.inr (by kernel_rfl)))<| aD 4 89 (vp (some xA)) (bv 40 31) []<| aD 5 90 (vp (some xA)) (bv 40 63) []<| aD 6 91 (vp (some xA)) (bv 40 127) [90]<| aD 7 92 (vp (some (xA.add 42))) (bv 40 255) [91]<| T_g1 8 93 (vp (some z)) (bv 40 511) [92] (aM 36 (vp (some (xA.add 42)))) (jb 40 (λ_=>by kernel_rfl) yX (.inr (by kernel_rfl)))<| aD 9 94 (vp (some z)) (bv 40 1023) [93]<| aD 10 95 (vp (some z)) (bv 40 2047) [94]<| T_g1 11 96 (vs (some s) ac ae) (bv 40 4095) [95] (aM 62 (vp (some z))) (jb 40 (λ_=>by kernel_rfl) yQ (.inr (by kernel_rfl)))<| aD 12 97 (vi i) (bv 40 8191) []<| T_g1 13 98 (vp (some (s.add (Int.toNat i*2)))) (bv 40 16383) [96,97] (aT 62 (vs (some s) ac ae) (vi i)) (λ_ w _ _ _=>dm (P:=Tryz.prog) (t:=62) (elem:=67) (sz:=2) (a:=s) (len:=ac) (cap:=ae) (k:=.i64) (i:=i) Tryz.underlying62 (λ_=>by kernel_rfl) q30.1 q30.2 w)<| aD 14 99 (vp (some (s.add (Int.toNat i*2)))) (bv 40 32767) [98]<| T_g1 15 100 (vi u) (bv 40 65535) [99] (aM 3 (vp (some (s.add (Int.toNat i*2))))) (jb 40 (λ_=>by kernel_rfl) yJ (.inr (by kernel_rfl)))<| aD 16 101 (vp (some xA)) (bv 40 131071) [89]<| aD 17 102 (vp (some (xA.add 2))) (bv 40 262143) [101]<| T_g1 18 103 (vp (some ((xA.add 2).add (Int.toNat u*1)))) (bv 40 524287) [100,102] (aT 35 (vp (some (xA.add 2))) (vi u)) (λ_ w _ _ _=>aR (P:=Tryz.prog) (t:=35) (elem:=31) (sz:=1) (n:=40) (a:=(xA.add 2)) (k:=.i64) (i:=u) Tryz.underlying35 (λ_=>by kernel_rfl) q32.1 q32.2 w)<| T_g1 19 104 (vu aa) (bv 40 1048575) [103] (aM 31 (vp (some ((xA.add 2).add (Int.toNat u*1))))) (jb 40 (λ_=>by kernel_rfl) yK (.inr (by kernel_rfl)))<| aD 20 105 (.bool (p !=aa)) (bv 40 2097151) [88,104]<| aD 21 106 (.bool (p !=aa)) (bv 40 4194303) [105]<| G_bd 106 (bne_iff_ne.mpr c34)<| iJ 22 (some 107) (bv 40 8388607) [] [(107,undef)]<| iJ 23 (some 108) (bv 40 16777215) [] [(108,undef)]<| iJ 24 (some 109) (bv 40 33554431) [107,108] [(109,undef)]<| iJ 25 (some 110) (bv 40 67108863) [109] [(110,undef)]<| iJ 26 (some 111) (bv 40 134217727) [] [(111,undef)]<| iJ 27 (some 112) (bv 40 268435455) [111] [(112,undef)]<| iJ 28 (some 113) (bv 40 536870911) [112] [(113,undef)]<| iJ 29 (some 114) (bv 40 1073741823) [113] [(114,undef)]<| iJ 30 (some 115) (bv 40 2147483647) [114] [(115,undef)]<| iJ 31 (some 116) (bv 40 4294967295) [115] [(116,undef)]<| iJ 32 (some 117) (bv 40 8589934591) [116] [(117,undef)]<| iJ 33 (some 118) (bv 40 17179869183) [] [(118,undef)]<| iJ 34 (some 119) (bv 40 34359738367) [117,118] [(119,undef)]<| iJ 35 (some 120) (bv 40 68719476735) [119] [(120,undef)]<| iJ 36 (some 121) (bv 40 137438953471) [120] [(121,undef)]<| iJ 37 (some 122) (bv 40 274877906943) [121] [(122,undef)]<| iJ 38 (some 123) (bv 40 549755813887) [110,122] [(123,undef)]<| aD 39 124 (.bool true) (bv 40 1099511627775) [106,123]<| dp [(0,vp (some xA)),(3,vi ra),(5,vs (some l) f g),(7,vs j b d),(9,vi i),(124,.bool true)] sk<| yv<| aB<| T_tz 124<| ar 10<| T_nr 1 [2] [.bool false] hQ h
     rw[if_neg c24]at h
     exact aI 82 (zQ c24)<| zj 0<| aA<| aA<| aN<| aB<| ar 11<| T_nr 1 [2] [.bool true] hQ h
    intro hk
    refine T_nu [(0,vp (some xA)),(3,vi ra),(5,vs o f g),(7,vs j b d),(68,.bool (ra !=(xN:Int)))] ?_
    by_cases c15:ra=(xN:Int)
    ·have b16:(ra !=(xN:Int))=false:=bne_eq_false_iff_eq.mpr c15
     refine bV [(0,vp (some xA)),(3,vi ra),(5,vs o f g),(7,vs j b d),(68,.bool false)] (by rw[b16]) ?_
     refine T_nd 6 [68] [(74,.bool ((f:Int) !=ra))] ?_
     by_cases c17:(f:Int)=ra
     ·have b18:((f:Int) !=ra)=false:=bne_eq_false_iff_eq.mpr c17
      refine N_bd 74 b18<| T_nd 5 [74] [(79,.bool ((b:Int) !=ra))] ?_
      refine zq<| S_bd 79 (b:=((b:Int) !=ra)) (v:=(((ra !=(xN:Int)) || ((f:Int) !=ra)) || ((b:Int) !=ra))) (by simp only[b16,b18,BL]) ?_
      exact hk
     have b18:((f:Int) !=ra)=true:=bne_iff_ne.mpr c17
     refine N_bd 74 b18<| T_nd 5 [74] [(79,.bool true)] ?_
     refine zq<| S_bd 79 (b:=true) (v:=(((ra !=(xN:Int)) || ((f:Int) !=ra)) || ((b:Int) !=ra))) (by simp only[b16,b18,BL]) ?_
     exact hk
    have b16:(ra !=(xN:Int))=true:=bne_iff_ne.mpr c15
    refine bV [(0,vp (some xA)),(3,vi ra),(5,vs o f g),(7,vs j b d),(68,.bool true)] (by rw[b16]) ?_
    refine T_nd 11 [68] [(79,.bool true)]<| zq<| S_bd 79 (b:=true) (v:=(((ra !=(xN:Int)) || ((f:Int) !=ra)) || ((b:Int) !=ra))) (by simp only[b16,BL]) ?_
    exact hk
   rw[if_neg c11]at h
   exact N_bd 56 (bne_iff_ne.mpr c11)<| T_ed 23 [56] [(79,.bool true)]<| T_tz 79<| ar 5<| T_nr 1 [2] [.bool false] hQ h
  rw[if_neg c9]at h
  exact N_bd 52 (bne_iff_ne.mpr c9)<| T_ed 27 [8,52] [(79,.bool true)]<| T_tz 79<| ar 5<| T_nr 1 [2] [.bool false] hQ h
 rw[if_neg c7]at h
 have b8:(rb !=0)=true:=bne_iff_ne.mpr c7
 refine bV [(0,vp (some xA)),(3,vi ra),(5,vs o f g),(6,vi q),(7,vs j b d),(8,vi y),(48,.bool true)] (by rw[b8]) ?_
 clear b8
 exact T_ed 31 [6,8,48] [(79,.bool true)]<| T_tz 79<| ar 5<| T_nr 1 [2] [.bool false] hQ h
end bD

