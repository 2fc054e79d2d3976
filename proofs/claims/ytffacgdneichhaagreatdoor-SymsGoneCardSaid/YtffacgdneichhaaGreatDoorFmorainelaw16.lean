/- Printed: what each function asks, and that it is sound. -/
import Derived.Test.YtffacgdneichhaaGreatDoorFnsC
set_option linter.unusedSimpArgs false
set_option linter.unusedVariables false
set_option maxRecDepth 100000
set_option maxHeartbeats 1000000
noncomputable section
namespace Go.Proofs.YtffacgdneichhaaGreatDoor
open Go
/-! (*moraine/morainelaw16.play).call -/
namespace bI
def K0:=Func.code Tryz.f8
def K2:=cb K0
def K4:=cb K2
def K5:=ca K4
def K6:=cb K4
def K8:=cb K5
def K9:=ca K8
def K11:=cb K9
def K13:=cb K11
def K21:=cb K13
def K22:=ca K21
def K25:=cb K22
def K26:=ca K25
def K29:=cb K26
def K30:=ca K29
def K31:=ca K30
def K47:=ca K6
def K48:=cb K6
def K50:=cb K48
def K67:=cb K50
def K73:=cb K67
def K74:=ca K73
end bI
def bI.pt(x:zW)(u al aa:Int)(s:ByteArray)(H:zV)(R:zk):Prop:=
 ∀(b:Nat) (H1:zV),b=H.size->H1=H.push (.cells #[.int .i64 u,.int .i64 al,.int .i64 aa,.string s] 29)->
 ∃ah:Int,hat H1 ((ad b).add 1)=some (.int .i64 ah)/\
 bW.C ah 8 H1 (λv H2=> ∃d:Int,v=.int .i64 d/\
 ∃ai:Int,hat H2 (ad b)=some (.int .i64 ai)/\
 bW.C ai 4 H2 (λay H3=> ∃p:Int,ay=.int .i64 p/\
 if p=2 then(
 ∃xA:Addr,x=some xA/\
 zw d 8/\
 (aI H3 ((xA.add 1).add (Int.toNat d*1)) 0 1)/\ ∀H4,H4=aO H3 ((xA.add 1).add (Int.toNat d*1)) [.int .u64 20] 0->
 zw d 8/\
 (aI H4 ((xA.add 9).add (Int.toNat d*1)) 0 1)/\ ∀H5,H5=aO H4 ((xA.add 9).add (Int.toNat d*1)) [.string (ByteArray.mk #[])] 0->
 R (.bool true) H5)
 else
 if p=3 then(
 ∃(am:zW->Nat->Nat->zv) (m32:zW->Nat->Nat->Int->zV->Nat),am none 0 0 0 H3/\ ∀(g:zW) (rootsN:Nat) (rootsC:Nat) (i:Int) (H6:zV),am g rootsN rootsC i H6->
 if i<8 then(
 ∃m:Addr,x=some m/\
 zw i 8/\
 ∀(aj:Nat) (H7:zV),aj=H6.size->H7=H6.push (.cells #[.pointer (some ((m.add 1).add (Int.toNat i*1)))] 31)->
 dw 1 31 8 [.pointer none] g rootsN rootsC (some (ad aj)) 1 H7 (λap ae H8=>
 (am ap (rootsN+1) ae (zY (i+1)) H8/\m32 ap (rootsN+1) ae (zY (i+1)) H8<m32 g rootsN rootsC i H6)))
 else
 ∃ak:Int,hat H6 ((ad b).add 2)=some (.int .i64 ak)/\
 bW.C ak 4 H6 (λaw H9=> ∃q:Int,aw=.int .i64 q/\
 ∃ag:Addr,x=some ag/\
 ∃ac:zW,hat H9 ag=some (.pointer ac)/\
 ei.C ac q q g rootsN rootsC H9 (λaq au=> ∃j:Int,aq=.int .i64 j/\
 R (.bool ((j==0) || (j==2))) au)))
 else
 ∃f:Addr,x=some f/\
 ∃r:zW,hat H3 f=some (.pointer r)/\
 ∃y:ByteArray,hat H3 ((ad b).add 3)=some (.string y)/\
 bU.C r y H3 (λax ao=> ∃ra rb:Int,ax=.tuple #[.int .u64 ra,.int .i64 rb]/\
 ∃z:ByteArray,hat ao ((ad b).add 3)=some (.string z)/\
 bY.C z ao (λav ab=> ∃l:Int,av=.int .i64 l/\
 if l=1 then(
 R (.bool ((ra==0) && (rb==6))) ab)
 else
 if l=2 then(
 R (.bool ((ra==0) && (rb==1))) ab)
 else
 if rb=0 then(
 zw d 8/\
 (aI ab ((f.add 1).add (Int.toNat d*1)) 0 1)/\ ∀af,af=aO ab ((f.add 1).add (Int.toNat d*1)) [.int .u64 ra] 0->
 ∃o:ByteArray,hat af ((ad b).add 3)=some (.string o)/\
 zw d 8/\
 (aI af ((f.add 9).add (Int.toNat d*1)) 0 1)/\ ∀an,an=aO af ((f.add 9).add (Int.toNat d*1)) [.string o] 0->
 R (.bool true) an)
 else
 R (.bool ((rb==2) && (ra==0))) ab))))
namespace bI
theorem link{x:zW}{u al aa:Int}{s:ByteArray}{H:zV}{R:zk}(h:pt x u al aa s H R):C x u al aa s H R:=by
 refine T_en K0 111 Tryz.func8 ?_
 intro w0 Q hQ
 unfold pt zY at h
 refine T_su [(0,vp x),(1,.agg #[vi u,vi al,vi aa,.string s])]<| ar 0<| T_nw (some 3) (λb=>vp (pa b)) (.cells #[vi u,vi al,vi aa,.string s] 29) ?_
 intro b H1 e1 e2
 replace h:=h b H1 e1 e2
 refine T_pd [1] [(3,vp (pa b))]<| T_ed 1 [] []<| ar 1<| T_nd 1 [] [(12,vp (some ((ad b).add 1)))] ?_
 obtain⟨ah,q3,h⟩:=h
 refine T_l1 13 3 q3 [12]<| T_c (some 14) h ?_;clear h
 rintro v H2 ⟨d,rfl,h⟩
 refine T_pd [13] [(14,vi d)]<| T_ed 1 [14] [(5,vi d)]<| T_sz<| ar 2<| T_nd 1 [] [(15,vp (pa b))] ?_
 obtain⟨ai,q4,h⟩:=h
 refine T_l1 16 3 q4 [15]<| T_c (some 17) h ?_;clear h
 rintro ay H3 ⟨p,rfl,h⟩
 refine T_pd [16] [(17,vi p)]<| T_e<| T_bz 0<| ar 3<| T_ed 2 [] [(18,.bool (p==2))] ?_
 by_cases c5:p=2
 ·rw[if_pos c5]at h
  refine aF 18 (zK c5)<| ar 4<| T_nd 2 [3,17,18] [(20,vp x),(21,vi d)] ?_
  obtain⟨xA,rfl,h⟩:=h
  refine T_nd 2 [0,20] [(0,vp (some xA)),(23,vp (some (xA.add 1)))] ?_
  obtain⟨q7,h⟩:=h
  refine T_v1 24 (aR 35 (vp (some (xA.add 1))) (vi d)) (vp (some ((xA.add 1).add (Int.toNat d*1)))) (λw _=>aN (P:=Tryz.prog) (t:=35) (elem:=33) (sz:=1) (n:=8) (a:=(xA.add 1)) (k:=.i64) (i:=d) Tryz.underlying35 (λ_=>by kernel_rfl) q7.1 q7.2 w) [21,23] ?_
  obtain⟨q9,h⟩:=h
  refine eq 33 (vu 20) q9 ?_
  intro H4 e8
  replace h:=h H4 e8
  refine T_pd [24] []<| T_e<| ar 5<| T_n 4 [(26,vi d),(28,vp (some (xA.add 9)))] ?_
  obtain⟨q10,h⟩:=h
  refine T_v1 29 (aR 36 (vp (some (xA.add 9))) (vi d)) (vp (some ((xA.add 9).add (Int.toNat d*1)))) (λw _=>aN (P:=Tryz.prog) (t:=36) (elem:=9) (sz:=1) (n:=8) (a:=(xA.add 9)) (k:=.i64) (i:=d) Tryz.underlying36 (λ_=>by kernel_rfl) q10.1 q10.2 w) [26,28] ?_
  obtain⟨q12,h⟩:=h
  refine eq 9 (.string (ByteArray.mk #[])) q12 ?_
  intro H5 e11
  replace h:=h H5 e11
  refine⟨[],pk,?_⟩
  exact T_e<| ar 6<| T_nr 1 [4] [.bool true] hQ h
 rw[if_neg c5]at h
 refine aE 18 (zJ c5)<| ar 7<| T_ed 2 [17,18] [(30,.bool (p==3))] ?_
 by_cases c13:p=3
 ·rw[if_pos c13]at h
  refine aF 30 (zK c13)<| ar 8<| T_ed 1 [5,30] [(6,vs none 0 0)]<| T_sz<| ar 9<| T_ed 1 [] [(7,vi 0)]<| T_bz 1 ?_
  obtain⟨am,m32,i15,i16⟩:=h
  refine bO (x:=K31) (σ:=zW×Nat×Nat×Int) (λs_=> [(0,vp x),(3,vp (pa b)),(6,vs s_.1 s_.2.1 s_.2.2.1),(7,vi s_.2.2.2)]) (λs_ H=>am s_.1 s_.2.1 s_.2.2.1 s_.2.2.2 H) (λs_ H=>m32 s_.1 s_.2.1 s_.2.2.1 s_.2.2.2 H) ((none,0,0,0):zW×Nat×Nat×Int) (by kernel_rfl) i15 sk ?_
  rintro⟨g,rootsN,rootsC,i⟩ H6 i17
  have h:=i16 g rootsN rootsC i H6 i17
  refine T_su [(0,vp x),(3,vp (pa b)),(6,vs g rootsN rootsC),(7,vi i)]<| T_sz<| ar 10<| T_ed 2 [] [(33,.bool (decide (i<8)))] ?_
  by_cases c18:i<8
  ·rw[if_pos c18]at h
   refine aF 33 (zX c18)<| T_kt<| T_sz<| T_bz 2<| T_rz 12<| T_nd 3 [6,33] [(36,vs g rootsN rootsC),(37,vp x),(38,vi i)] ?_
   obtain⟨m,rfl,h⟩:=h
   refine T_nd 2 [0,37] [(0,vp (some m)),(40,vp (some (m.add 1)))] ?_
   obtain⟨q20,h⟩:=h
   refine T_v1 41 (aR 35 (vp (some (m.add 1))) (vi i)) (vp (some ((m.add 1).add (Int.toNat i*1)))) (λw _=>aN (P:=Tryz.prog) (t:=35) (elem:=33) (sz:=1) (n:=8) (a:=(m.add 1)) (k:=.i64) (i:=i) Tryz.underlying35 (λ_=>by kernel_rfl) q20.1 q20.2 w) [38,40]<| T_nw (some 42) (λb=>vs (pa b) 1 1) (.cells #[vp (some ((m.add 1).add (Int.toNat i*1)))] 31) ?_
   intro aj H7 e21 e22
   replace h:=h aj H7 e21 e22
   refine T_pd [41] [(42,vs (pa aj) 1 1)]<| N_op (some 43) (dJ #[30,30] 30 #[vs g rootsN rootsC,vs (pa aj) 1 1]) _ (λ_=>by kernel_rfl) (di (T:=31) (sz:=1) (bytes:=8) (zero:=(vp none:Value)) Tryz.underlying30 Tryz.underlying30 rfl (show Tryz.prog.info? 31=some Tryz.t31 from by kernel_rfl) (by kernel_rfl) (by kernel_rfl) (by decide) (by kernel_rfl) (by first | exact h | (simpa only[Value.cells,List.toList_toArray]using h))) ?_;clear h
   rintro _ H8 ⟨ap,ae,rfl,h⟩
   exact T_pd [36,42] [(43,vs ap (rootsN+1) ae)]<| T_nd 1 [43] [(6,vs ap (rootsN+1) ae)]<| zq<| aB<| aC<| T_rz 11<| T_ed 3 [7] [(7,vi (zY (i+1)))]<| aK ((ap,(rootsN+1),ae,(zY (i+1))):zW×Nat×Nat×Int) sk h
  rw[if_neg c18]at h
  refine aE 33 (zQ c18)<| zj 1<| aA<| aA<| aH<| aC<| ar 13<| T_nd 1 [3,7,33] [(44,vp (some ((ad b).add 2)))] ?_
  obtain⟨ak,q23,h⟩:=h
  refine T_l1 45 3 q23 [44]<| T_c (some 46) h ?_;clear h
  rintro aw H9 ⟨q,rfl,h⟩
  refine T_pd [45] [(46,vi q)]<| T_ed 1 [46] [(8,vi q)]<| ar 14<| T_nd 1 [0] [(47,vp x)] ?_
  obtain⟨ag,rfl,h⟩:=h
  refine T_nd 2 [47] [(49,vp (some ag))] ?_
  obtain⟨ac,q24,h⟩:=h
  refine T_l1 50 34 q24 [49]<| T_nd 3 [6,8] [(51,vi q),(52,vi q),(53,vs g rootsN rootsC)]<| T_c (some 54) h ?_;clear h
  rintro aq au ⟨j,rfl,h⟩
  refine⟨[(54,vi j)],pk,?_⟩
  refine T_ne 1 [(9,vi j)]<| ar 15 ?_
  refine eQ [(4,.bool ((j==0) || (j==2)))] ?_ ?_
  ·exact aC<| fF [4] [.bool ((j==0) || (j==2))] hQ h
  intro hk
  refine T_n 3 [(9,vi j),(57,.bool (j==0))] ?_
  by_cases c25:j=0
  ·have b26:(j==0)=true:=zK c25
   refine bJ [(9,vi j),(57,.bool true)] (by rw[b26]) ?_
   refine T_n 4 [(4,.bool true)]<| zq<| dI [(4,.bool ((j==0) || (j==2)))] (by simp only[b26,BL]) ?_
   exact hk
  have b26:(j==0)=false:=zJ c25
  refine bJ [(9,vi j),(57,.bool false)] (by rw[b26]) ?_
  refine T_n 4 [(4,.bool (j==2))]<| zq<| dI [(4,.bool ((j==0) || (j==2)))] (by simp only[b26,BL]) ?_
  exact hk
 rw[if_neg c13]at h
 refine aE 30 (zJ c13)<| T_k<| aB<| aC<| T_sz ?_
 obtain⟨f,rfl,r,q27,y,q28,h⟩:=h
 refine yY 16 (Code.ops K47) [(6,f,[vp r]),(6,((ad b).add 3),[.string y])] 12 (bv 12 0) (show aG _ _ _ from⟨⟨q27,trivial⟩,⟨q28,trivial⟩,trivial⟩)<| T_gp 0 (some 62) (vp (some f)) (bv 12 1) [(0,vp (some f)),(3,vp (pa b)),(5,vi d),(62,vp (some f))]<| aD 1 63 (vp (some f)) (bv 12 3) [62]<| aD 2 64 (vp (some f)) (bv 12 7) [63]<| T_g1 3 65 (vp r) (bv 12 15) [64] (aS 34 (vp (some f))) (yW 6 yZ)<| aD 4 66 (vp (some ((ad b).add 3))) (bv 12 31) []<| T_g1 5 67 (.string y) (bv 12 63) [66] (aS 9 (vp (some ((ad b).add 3)))) (yW 6 yX)<| yq 6 (some 68) (bv 12 127) 12 #[vp r,.string y] h ?_;clear h
 rintro ax ao ⟨ra,rb,rfl,h⟩
 refine⟨[(0,vp (some f)),(3,vp (pa b)),(5,vi d),(68,.tuple #[vu ra,vi rb])],pk,(show aG _ _ _ from⟨trivial,trivial,trivial⟩),?_⟩
 refine T_g 7 (some 61) (.tuple #[vu ra,vi rb]) (bv 12 255) [(0,vp (some f)),(3,vp (pa b)),(5,vi d),(61,.tuple #[vu ra,vi rb])] (pure (.value (.tuple #[vu ra,vi rb])):Sem Next) (λ_ _ _ _ _=>rfl)<| T_g1 8 69 (vu ra) (bv 12 511) [] (pure (.value (vu ra)):Sem Next) (λ_ _ _ _ _=>rfl)<| T_g1 9 70 (vi rb) (bv 12 1023) [61] (pure (.value (vi rb)):Sem Next) (λ_ _ _ _ _=>rfl)<| T_g1 10 10 (vu ra) (bv 12 2047) [69] (pure (.value (vu ra)):Sem Next) (λ_ _ _ _ _=>rfl)<| T_g1 11 11 (vi rb) (bv 12 4095) [70] (pure (.value (vi rb)):Sem Next) (λ_ _ _ _ _=>rfl)<| eR [(0,vp (some f)),(3,vp (pa b)),(5,vi d),(10,vu ra),(11,vi rb)] sk<| yx<| aC<| T_sz<| ar 17<| T_n 1 [(0,vp (some f)),(3,vp (pa b)),(5,vi d),(10,vu ra),(11,vi rb),(71,vp (some ((ad b).add 3)))] ?_
 obtain⟨z,q29,h⟩:=h
 refine T_l1 72 9 q29 [71]<| T_c (some 73) h ?_;clear h
 rintro av ab ⟨l,rfl,h⟩
 refine T_pd [72] [(73,vi l)]<| T_e<| T_bz 3<| ar 18<| T_ed 2 [] [(74,.bool (l==1))] ?_
 by_cases c30:l=1
 ·rw[if_pos c30]at h
  refine aF 74 (zK c30)<| ar 19 ?_
  refine eQ [(4,.bool ((ra==0) && (rb==6)))] ?_ ?_
  ·exact aC<| fF [4] [.bool ((ra==0) && (rb==6))] hQ h
  intro hk
  refine T_n 3 [(11,vi rb),(78,.bool (ra==0))] ?_
  by_cases c32:ra=0
  ·have b33:(ra==0)=true:=zK c32
   refine bJ [(11,vi rb),(78,.bool true)] (by rw[b33]) ?_
   refine T_n 4 [(4,.bool (rb==6))]<| zq<| dI [(4,.bool ((ra==0) && (rb==6)))] (by simp only[b33,BL]) ?_
   exact hk
  have b33:(ra==0)=false:=zJ c32
  refine bJ [(11,vi rb),(78,.bool false)] (by rw[b33]) ?_
  refine T_n 4 [(4,.bool false)]<| zq<| dI [(4,.bool ((ra==0) && (rb==6)))] (by simp only[b33,BL]) ?_
  exact hk
 rw[if_neg c30]at h
 refine aE 74 (zJ c30)<| ar 20<| T_ed 2 [73,74] [(82,.bool (l==2))] ?_
 by_cases c34:l=2
 ·rw[if_pos c34]at h
  refine aF 82 (zK c34)<| ar 21 ?_
  refine eQ [(4,.bool ((ra==0) && (rb==1)))] ?_ ?_
  ·exact aC<| fF [4] [.bool ((ra==0) && (rb==1))] hQ h
  intro hk
  refine T_n 3 [(11,vi rb),(86,.bool (ra==0))] ?_
  by_cases c36:ra=0
  ·have b37:(ra==0)=true:=zK c36
   refine bJ [(11,vi rb),(86,.bool true)] (by rw[b37]) ?_
   refine T_n 4 [(4,.bool (rb==1))]<| zq<| dI [(4,.bool ((ra==0) && (rb==1)))] (by simp only[b37,BL]) ?_
   exact hk
  have b37:(ra==0)=false:=zJ c36
  refine bJ [(11,vi rb),(86,.bool false)] (by rw[b37]) ?_
  refine T_n 4 [(4,.bool false)]<| zq<| dI [(4,.bool ((ra==0) && (rb==1)))] (by simp only[b37,BL]) ?_
  exact hk
 rw[if_neg c34]at h
 refine aE 82 (zJ c34)<| T_k<| aB<| aC<| T_sz<| ar 22<| T_ed 2 [82] [(91,.bool (rb !=0))] ?_
 by_cases c38:rb=0
 ·rw[if_pos c38]at h
  refine aE 91 (bne_eq_false_iff_eq.mpr c38)<| T_kt<| ar 24<| T_nd 5 [10,11,91] [(99,vi d),(100,vu ra),(102,vp (some (f.add 1)))] ?_
  obtain⟨q40,h⟩:=h
  refine T_v1 103 (aR 35 (vp (some (f.add 1))) (vi d)) (vp (some ((f.add 1).add (Int.toNat d*1)))) (λw _=>aN (P:=Tryz.prog) (t:=35) (elem:=33) (sz:=1) (n:=8) (a:=(f.add 1)) (k:=.i64) (i:=d) Tryz.underlying35 (λ_=>by kernel_rfl) q40.1 q40.2 w) [99,102] ?_
  obtain⟨q42,h⟩:=h
  refine eq 33 (vu ra) q42 ?_
  intro af e41
  replace h:=h af e41
  refine T_pd [100,103] []<| T_e<| T_sz ?_
  obtain⟨o,q43,q44,h⟩:=h
  refine yY 25 (Code.ops K74) [(7,((ad b).add 3),[.string o])] 8 (bv 8 0) (show aG _ _ _ from⟨⟨q43,trivial⟩,trivial⟩)<| T_gp 0 (some 104) (vp (some f)) (bv 8 1) [(3,vp (pa b)),(5,vi d),(104,vp (some f))]<| aD 1 105 (vi d) (bv 8 3) [5]<| aD 2 106 (vp (some ((ad b).add 3))) (bv 8 7) [3]<| T_g1 3 107 (.string o) (bv 8 15) [106] (aS 9 (vp (some ((ad b).add 3)))) (yW 7 yZ)<| aD 4 108 (vp (some f)) (bv 8 31) [104]<| aD 5 109 (vp (some (f.add 9))) (bv 8 63) [108]<| T_g1 6 110 (vp (some ((f.add 9).add (Int.toNat d*1)))) (bv 8 127) [105,109] (aR 36 (vp (some (f.add 9))) (vi d)) (λ_ w _ _ _=>aN (P:=Tryz.prog) (t:=36) (elem:=9) (sz:=1) (n:=8) (a:=(f.add 9)) (k:=.i64) (i:=d) Tryz.underlying36 (λ_=>by kernel_rfl) q44.1 q44.2 w) ?_
  obtain⟨q46,h⟩:=h
  refine fg 7 none (bv 8 255) (gH 9 (vp (some ((f.add 9).add (Int.toNat d*1)))) (.string o)) (λHz=>Hz=aO af ((f.add 9).add (Int.toNat d*1)) [.string o] 0) (by kernel_rfl) (λ_=>by kernel_rfl) (fX [.string o] 1 (by kernel_rfl) (by kernel_rfl) (λ_=>by kernel_rfl) (by kernel_rfl) q46) (by kernel_rfl) ?_
  intro an e45
  replace h:=h an e45
  refine⟨[],pk,(show aG _ _ _ from⟨trivial,trivial⟩),?_⟩
  refine eR [] sk ?_
  exact yx<| aC<| ar 26<| T_nr 1 [4] [.bool true] hQ h
 rw[if_neg c38]at h
 refine aF 91 (bne_iff_ne.mpr c38)<| ar 23 ?_
 refine eQ [(4,.bool ((rb==2) && (ra==0)))] ?_ ?_
 ·exact aC<| fF [4] [.bool ((rb==2) && (ra==0))] hQ h
 intro hk
 refine T_n 3 [(10,vu ra),(94,.bool (rb==2))] ?_
 by_cases c47:rb=2
 ·have b48:(rb==2)=true:=zK c47
  refine bJ [(10,vu ra),(94,.bool true)] (by rw[b48]) ?_
  refine T_n 4 [(4,.bool (ra==0))]<| zq<| dI [(4,.bool ((rb==2) && (ra==0)))] (by simp only[b48,BL]) ?_
  exact hk
 have b48:(rb==2)=false:=zJ c47
 refine bJ [(10,vu ra),(94,.bool false)] (by rw[b48]) ?_
 refine T_n 4 [(4,.bool false)]<| zq<| dI [(4,.bool ((rb==2) && (ra==0)))] (by simp only[b48,BL]) ?_
 exact hk
end bI

/-! (*moraine/morainelaw16.play).one -/
namespace bM
def K0:=Func.code Tryz.f9
def K2:=cb K0
def K3:=ca K2
def K6:=cb K3
def K7:=ca K6
def K8:=ca K7
def K10:=cb K8
def K15:=ca K10
def K17:=ca K15
def K19:=cb K17
def K24:=ca K19
def K25:=cb K19
def K26:=ca K25
def K27:=cb K25
def K29:=cb K27
def K35:=cb K29
def K36:=ca K35
def K37:=ca K36
end bM
def bM.pt(x:zW)(H:zV)(R:zk):Prop:=
 ∃(I9:zv) (m9:Int->zV->Nat),I9 0 H/\ ∀(i:Int) (H1:zV),I9 i H1->
 if i<8 then(
 ∃xA:Addr,x=some xA/\
 zw i 8/\
 ∃q:ByteArray,hat H1 ((xA.add 9).add (Int.toNat i*1))=some (.string q)/\
 if q.toList=(ByteArray.mk #[]).toList then(
 (I9 (zY (i+1)) H1/\m9 (zY (i+1)) H1<m9 i H1))
 else
 ∃m:zW,hat H1 xA=some (.pointer m)/\
 zw i 8/\
 ∃u:Int,hat H1 ((xA.add 1).add (Int.toNat i*1))=some (.int .u64 u)/\
 fC.C m u H1 (λv H2=> ∃(ra:ByteArray) (rb:Int),v=.tuple #[.string ra,.int .i64 rb]/\
 ∃o:zW,hat H2 xA=some (.pointer o)/\
 zw i 8/\
 ∃y:ByteArray,hat H2 ((xA.add 9).add (Int.toNat i*1))=some (.string y)/\
 eS.C o y H2 (λaa H3=> ∃(b:Int) (f:Bool),aa=.tuple #[.int .u64 b,.bool f]/\
 if rb=0 then(
 zw i 8/\
 ∃s:ByteArray,hat H3 ((xA.add 9).add (Int.toNat i*1))=some (.string s)/\
 if ra.toList=s.toList then(
 if f=true then(
 zw i 8/\
 ∃r:Int,hat H3 ((xA.add 1).add (Int.toNat i*1))=some (.int .u64 r)/\
 if b=r then(
 ∃(z:zv) (m38:Int->zV->Nat),z 0 H3/\ ∀(k:Int) (H4:zV),z k H4->
 if k<i then(
 zw k 8/\
 ∃p:ByteArray,hat H4 ((xA.add 9).add (Int.toNat k*1))=some (.string p)/\
 if p.toList=(ByteArray.mk #[]).toList then(
 (z (zY (k+1)) H4/\m38 (zY (k+1)) H4<m38 k H4))
 else
 zw k 8/\
 ∃d:ByteArray,hat H4 ((xA.add 9).add (Int.toNat k*1))=some (.string d)/\
 zw i 8/\
 ∃g:ByteArray,hat H4 ((xA.add 9).add (Int.toNat i*1))=some (.string g)/\
 zw k 8/\
 ∃j:Int,hat H4 ((xA.add 1).add (Int.toNat k*1))=some (.int .u64 j)/\
 zw i 8/\
 ∃l:Int,hat H4 ((xA.add 1).add (Int.toNat i*1))=some (.int .u64 l)/\
 if(d.toList==g.toList)=(j==l)then(
 (z (zY (k+1)) H4/\m38 (zY (k+1)) H4<m38 k H4))
 else
 R (.bool false) H4)
 else
 (I9 (zY (i+1)) H4/\m9 (zY (i+1)) H4<m9 i H1))
 else
 R (.bool false) H3)
 else
 R (.bool false) H3)
 else
 R (.bool false) H3)
 else
 R (.bool false) H3)))
 else
 R (.bool true) H1
namespace bM
theorem link{x:zW}{H:zV}{R:zk}(h:pt x H R):C x H R:=by
 refine T_en K0 115 Tryz.func9 ?_
 intro w0 Q hQ
 unfold pt zY at h
 refine T_su [(0,vp x)]<| ar 0<| T_ed 1 [] []<| T_sz<| ar 1<| T_ed 1 [] [(3,vi 0)]<| T_bz 0 ?_
 obtain⟨I9,m9,i1,i2⟩:=h
 refine bO (x:=K8) (σ:=Int) (λs_=> [(0,vp x),(3,vi s_)]) (λs_ H=>I9 s_ H) (λs_ H=>m9 s_ H) (0:Int) (by kernel_rfl) i1 sk ?_
 rintro i H1 i3
 have h:=i2 i H1 i3
 refine T_su [(0,vp x),(3,vi i)]<| T_sz<| ar 2<| T_ed 2 [] [(10,.bool (decide (i<8)))] ?_
 by_cases c4:i<8
 ·rw[if_pos c4]at h
  refine S_bd 10 (zX c4)<| T_tz 10<| T_kt<| T_sz<| T_bz 1<| T_sz<| ar 4<| T_nd 2 [10] [(13,vp x),(14,vi i)] ?_
  obtain⟨xA,rfl,h⟩:=h
  refine T_nd 2 [0,13] [(0,vp (some xA)),(16,vp (some (xA.add 9)))] ?_
  obtain⟨q6,h⟩:=h
  refine T_v1 17 (aR 36 (vp (some (xA.add 9))) (vi i)) (vp (some ((xA.add 9).add (Int.toNat i*1)))) (λw _=>aN (P:=Tryz.prog) (t:=36) (elem:=9) (sz:=1) (n:=8) (a:=(xA.add 9)) (k:=.i64) (i:=i) Tryz.underlying36 (λ_=>by kernel_rfl) q6.1 q6.2 w) [14,16] ?_
  obtain⟨q,q7,h⟩:=h
  refine T_l1 18 9 q7 [17]<| T_ed 1 [18] [(19,.bool (q.toList==(ByteArray.mk #[]).toList))] ?_
  by_cases c8:q.toList=(ByteArray.mk #[]).toList
  ·rw[if_pos c8]at h
   exact aF 19 (zK c8)<| zj 1<| aA<| aH<| aC<| T_rz 3<| T_ed 3 [3,19] [(3,vi (zY (i+1)))]<| aK ((zY (i+1)):Int) sk h
  rw[if_neg c8]at h
  refine aE 19 (zJ c8)<| T_kt<| T_sz ?_
  obtain⟨m,q10,q11,u,q12,h⟩:=h
  refine yY 5 (Code.ops K24) [(10,xA,[vp m]),(10,((xA.add 1).add (Int.toNat i*1)),[vu u])] 16 (bv 16 0) (show aG _ _ _ from⟨⟨q10,trivial⟩,⟨q12,trivial⟩,trivial⟩)<| T_gp 0 (some 21) (vp (some xA)) (bv 16 1) [(0,vp (some xA)),(3,vi i),(21,vp (some xA))]<| aD 1 22 (vp (some xA)) (bv 16 3) [21]<| aD 2 23 (vp (some xA)) (bv 16 7) [22]<| T_g1 3 24 (vp m) (bv 16 15) [23] (aS 34 (vp (some xA))) (yW 10 yZ)<| aD 4 25 (vp (some xA)) (bv 16 31) []<| aD 5 26 (vi i) (bv 16 63) []<| aD 6 27 (vp (some xA)) (bv 16 127) [25]<| aD 7 28 (vp (some (xA.add 1))) (bv 16 255) [27]<| T_g1 8 29 (vp (some ((xA.add 1).add (Int.toNat i*1)))) (bv 16 511) [26,28] (aR 35 (vp (some (xA.add 1))) (vi i)) (λ_ w _ _ _=>aN (P:=Tryz.prog) (t:=35) (elem:=33) (sz:=1) (n:=8) (a:=(xA.add 1)) (k:=.i64) (i:=i) Tryz.underlying35 (λ_=>by kernel_rfl) q11.1 q11.2 w)<| T_g1 9 30 (vu u) (bv 16 1023) [29] (aS 33 (vp (some ((xA.add 1).add (Int.toNat i*1))))) (yW 10 yX)<| yq 10 (some 31) (bv 16 2047) 16 #[vp m,vu u] h ?_;clear h
  rintro v H2 ⟨ra,rb,rfl,h⟩
  refine⟨[(0,vp (some xA)),(3,vi i),(31,.tuple #[.string ra,vi rb])],pk,(show aG _ _ _ from⟨trivial,trivial,trivial⟩),?_⟩
  refine T_g 11 (some 20) (.tuple #[.string ra,vi rb]) (bv 16 4095) [(0,vp (some xA)),(3,vi i),(20,.tuple #[.string ra,vi rb])] (pure (.value (.tuple #[.string ra,vi rb])):Sem Next) (λ_ _ _ _ _=>rfl)<| T_g1 12 32 (.string ra) (bv 16 8191) [] (pure (.value (.string ra)):Sem Next) (λ_ _ _ _ _=>rfl)<| T_g1 13 33 (vi rb) (bv 16 16383) [20] (pure (.value (vi rb)):Sem Next) (λ_ _ _ _ _=>rfl)<| T_g1 14 4 (.string ra) (bv 16 32767) [32] (pure (.value (.string ra)):Sem Next) (λ_ _ _ _ _=>rfl)<| T_g1 15 5 (vi rb) (bv 16 65535) [33] (pure (.value (vi rb)):Sem Next) (λ_ _ _ _ _=>rfl)<| eR [(0,vp (some xA)),(3,vi i),(4,.string ra),(5,vi rb)] sk<| yx<| aC<| T_sz ?_
  obtain⟨o,q13,q14,y,q15,h⟩:=h
  refine yY 6 (Code.ops K26) [(10,xA,[vp o]),(10,((xA.add 9).add (Int.toNat i*1)),[.string y])] 16 (bv 16 0) (show aG _ _ _ from⟨⟨q13,trivial⟩,⟨q15,trivial⟩,trivial⟩)<| T_gp 0 (some 35) (vp (some xA)) (bv 16 1) [(0,vp (some xA)),(3,vi i),(4,.string ra),(5,vi rb),(35,vp (some xA))]<| aD 1 36 (vp (some xA)) (bv 16 3) [35]<| aD 2 37 (vp (some xA)) (bv 16 7) [36]<| T_g1 3 38 (vp o) (bv 16 15) [37] (aS 34 (vp (some xA))) (yW 10 yZ)<| aD 4 39 (vp (some xA)) (bv 16 31) []<| aD 5 40 (vi i) (bv 16 63) []<| aD 6 41 (vp (some xA)) (bv 16 127) [39]<| aD 7 42 (vp (some (xA.add 9))) (bv 16 255) [41]<| T_g1 8 43 (vp (some ((xA.add 9).add (Int.toNat i*1)))) (bv 16 511) [40,42] (aR 36 (vp (some (xA.add 9))) (vi i)) (λ_ w _ _ _=>aN (P:=Tryz.prog) (t:=36) (elem:=9) (sz:=1) (n:=8) (a:=(xA.add 9)) (k:=.i64) (i:=i) Tryz.underlying36 (λ_=>by kernel_rfl) q14.1 q14.2 w)<| T_g1 9 44 (.string y) (bv 16 1023) [43] (aS 9 (vp (some ((xA.add 9).add (Int.toNat i*1))))) (yW 10 yX)<| yq 10 (some 45) (bv 16 2047) 11 #[vp o,.string y] h ?_;clear h
  rintro aa H3 ⟨b,f,rfl,h⟩
  refine⟨[(0,vp (some xA)),(3,vi i),(4,.string ra),(5,vi rb),(45,.tuple #[vu b,.bool f])],pk,(show aG _ _ _ from⟨trivial,trivial,trivial⟩),?_⟩
  refine T_g 11 (some 34) (.tuple #[vu b,.bool f]) (bv 16 4095) [(0,vp (some xA)),(3,vi i),(4,.string ra),(5,vi rb),(34,.tuple #[vu b,.bool f])] (pure (.value (.tuple #[vu b,.bool f])):Sem Next) (λ_ _ _ _ _=>rfl)<| T_g1 12 46 (vu b) (bv 16 8191) [] (pure (.value (vu b)):Sem Next) (λ_ _ _ _ _=>rfl)<| T_g1 13 47 (.bool f) (bv 16 16383) [34] (pure (.value (.bool f)):Sem Next) (λ_ _ _ _ _=>rfl)<| T_g1 14 6 (vu b) (bv 16 32767) [46] (pure (.value (vu b)):Sem Next) (λ_ _ _ _ _=>rfl)<| T_g1 15 7 (.bool f) (bv 16 65535) [47] (pure (.value (.bool f)):Sem Next) (λ_ _ _ _ _=>rfl)<| eR [(0,vp (some xA)),(3,vi i),(4,.string ra),(5,vi rb),(6,vu b),(7,.bool f)] sk<| yx<| aC<| T_sz<| ar 7<| T_n 3 [(0,vp (some xA)),(3,vi i),(4,.string ra),(6,vu b),(7,.bool f),(50,.bool (rb !=0))] ?_
  by_cases c16:rb=0
  ·rw[if_pos c16]at h
   have b17:(rb !=0)=false:=bne_eq_false_iff_eq.mpr c16
   refine bJ [(0,vp (some xA)),(3,vi i),(4,.string ra),(6,vu b),(7,.bool f),(50,.bool false)] (by rw[b17]) ?_
   clear b17
   refine T_nd 5 [4] [(51,.string ra),(53,vi i),(55,vp (some (xA.add 9)))] ?_
   obtain⟨q18,h⟩:=h
   refine T_v1 56 (aR 36 (vp (some (xA.add 9))) (vi i)) (vp (some ((xA.add 9).add (Int.toNat i*1)))) (λw _=>aN (P:=Tryz.prog) (t:=36) (elem:=9) (sz:=1) (n:=8) (a:=(xA.add 9)) (k:=.i64) (i:=i) Tryz.underlying36 (λ_=>by kernel_rfl) q18.1 q18.2 w) [53,55] ?_
   obtain⟨s,q19,h⟩:=h
   refine T_l1 57 9 q19 [56]<| T_nd 3 [50,51,57] [(60,.bool (!(ra.toList==s.toList)))] ?_
   by_cases c20:ra.toList=s.toList
   ·rw[if_pos c20]at h
    refine N_bd 60 (congrArg Bool.not (zK c20))<| T_nd 4 [7,60] [(64,.bool (!f))] ?_
    by_cases c22:f=true
    ·rw[if_pos c22]at h
     have b23:(!f)=false:=congrArg Bool.not (c22)
     have b232:f=true:=c22
     refine N_bd 64 (b:=(!f)) (v:=false) (by simp only[b23,b232,Bool.not_true,Bool.not_false]) ?_
     clear b23 b232
     refine T_nd 5 [6] [(65,vu b),(67,vi i),(69,vp (some (xA.add 1)))] ?_
     obtain⟨q24,h⟩:=h
     refine T_v1 70 (aR 35 (vp (some (xA.add 1))) (vi i)) (vp (some ((xA.add 1).add (Int.toNat i*1)))) (λw _=>aN (P:=Tryz.prog) (t:=35) (elem:=33) (sz:=1) (n:=8) (a:=(xA.add 1)) (k:=.i64) (i:=i) Tryz.underlying35 (λ_=>by kernel_rfl) q24.1 q24.2 w) [67,69] ?_
     obtain⟨r,q25,h⟩:=h
     refine T_l1 71 33 q25 [70]<| T_ed 2 [64,65,71] [(73,.bool (b !=r))] ?_
     by_cases c26:b=r
     ·rw[if_pos c26]at h
      refine aE 73 (bne_eq_false_iff_eq.mpr c26)<| T_kt<| ar 9<| T_ed 1 [73] [(8,vi 0)]<| T_bz 2 ?_
      obtain⟨z,m38,i28,i29⟩:=h
      refine bO (x:=K37) (σ:=Int) (λs_=> [(0,vp (some xA)),(3,vi i),(8,vi s_)]) (λs_ H=>z s_ H) (λs_ H=>m38 s_ H) (0:Int) (by kernel_rfl) i28 sk ?_
      rintro k H4 i30
      have h:=i29 k H4 i30
      refine T_su [(0,vp (some xA)),(3,vi i),(8,vi k)]<| T_sz<| ar 10<| T_ed 3 [] [(76,.bool (decide (k<i)))] ?_
      by_cases c31:k<i
      ·rw[if_pos c31]at h
       refine aF 76 (zX c31)<| T_kt<| T_sz<| T_bz 3<| T_sz<| jm 12<| T_q1 79 (vp (some xA)) [76]<| T_q1 80 (vi k) []<| T_q1 81 (vp (some xA)) [79]<| T_q1 82 (vp (some (xA.add 9))) [81] ?_
       obtain⟨q33,h⟩:=h
       refine Q_op (some 83) (aR 36 (vp (some (xA.add 9))) (vi k)) (vp (some ((xA.add 9).add (Int.toNat k*1)))) (λ_=>by kernel_rfl) (λw _=>aN (P:=Tryz.prog) (t:=36) (elem:=9) (sz:=1) (n:=8) (a:=(xA.add 9)) (k:=.i64) (i:=k) Tryz.underlying36 (λ_=>by kernel_rfl) q33.1 q33.2 w) [(0,vp (some xA)),(3,vi i),(8,vi k),(83,vp (some ((xA.add 9).add (Int.toNat k*1))))] pk ?_
       obtain⟨p,q34,h⟩:=h
       refine T_ql (some 84) 9 q34 [(0,vp (some xA)),(3,vi i),(8,vi k),(84,.string p)]<| T_q1 85 (.bool (!(p.toList==(ByteArray.mk #[]).toList))) [84]<| T_q1 86 (.bool (!(p.toList==(ByteArray.mk #[]).toList))) [85] ?_
       by_cases c35:p.toList=(ByteArray.mk #[]).toList
       ·rw[if_pos c35]at h
        refine Q_bd 86 (congrArg Bool.not (zK c35))<| T_q1 87 (undef) []<| T_q1 88 (undef) []<| T_q1 89 (undef) [87]<| T_q1 90 (undef) [89]<| T_q1 91 (undef) [88,90]<| T_q1 92 (undef) [91]<| T_q1 93 (undef) []<| T_q1 94 (undef) [] ?_
        exact T_q1 95 (undef) [93]<| T_q1 96 (undef) [95]<| T_q1 97 (undef) [94,96]<| T_q1 98 (undef) [97]<| T_q1 99 (undef) [92,98]<| T_q1 100 (undef) []<| T_q1 101 (undef) []<| T_q1 102 (undef) [100]<| T_q1 103 (undef) [102]<| T_q1 104 (undef) [101,103]<| T_q1 105 (undef) [104]<| T_q1 106 (undef) []<| T_q1 107 (undef) []<| T_q1 108 (undef) [106]<| T_q1 109 (undef) [108]<| T_q1 110 (undef) [107,109]<| T_q1 111 (undef) [110]<| T_q1 112 (undef) [105,111]<| T_q1 113 (undef) [99,112]<| T_q1 114 (.bool false) [86,113]<| eV [(0,vp (some xA)),(3,vi i),(8,vi k),(114,.bool false)] sk<| T_qe<| T_fz 114<| T_k<| aB<| aC<| T_rz 11<| T_ne 3 [(0,vp (some xA)),(3,vi i),(8,vi (zY (k+1)))]<| aK ((zY (k+1)):Int) sk h
       rw[if_neg c35]at h
       refine Q_bd 86 (congrArg Bool.not (zJ c35))<| T_q1 87 (vp (some xA)) []<| T_q1 88 (vi k) []<| T_q1 89 (vp (some xA)) [87]<| T_q1 90 (vp (some (xA.add 9))) [89] ?_
       obtain⟨q37,h⟩:=h
       refine Q_op (some 91) (aR 36 (vp (some (xA.add 9))) (vi k)) (vp (some ((xA.add 9).add (Int.toNat k*1)))) (λ_=>by kernel_rfl) (λw _=>aN (P:=Tryz.prog) (t:=36) (elem:=9) (sz:=1) (n:=8) (a:=(xA.add 9)) (k:=.i64) (i:=k) Tryz.underlying36 (λ_=>by kernel_rfl) q37.1 q37.2 w) [(0,vp (some xA)),(3,vi i),(8,vi k),(86,.bool true),(91,vp (some ((xA.add 9).add (Int.toNat k*1))))] pk ?_
       obtain⟨d,q38,h⟩:=h
       refine T_ql (some 92) 9 q38 [(0,vp (some xA)),(3,vi i),(8,vi k),(86,.bool true),(92,.string d)]<| T_q1 93 (vp (some xA)) []<| T_q1 94 (vi i) []<| T_q1 95 (vp (some xA)) [93]<| T_q1 96 (vp (some (xA.add 9))) [95] ?_
       obtain⟨q39,h⟩:=h
       refine Q_op (some 97) (aR 36 (vp (some (xA.add 9))) (vi i)) (vp (some ((xA.add 9).add (Int.toNat i*1)))) (λ_=>by kernel_rfl) (λw _=>aN (P:=Tryz.prog) (t:=36) (elem:=9) (sz:=1) (n:=8) (a:=(xA.add 9)) (k:=.i64) (i:=i) Tryz.underlying36 (λ_=>by kernel_rfl) q39.1 q39.2 w) [(0,vp (some xA)),(3,vi i),(8,vi k),(86,.bool true),(92,.string d),(97,vp (some ((xA.add 9).add (Int.toNat i*1))))] pk ?_
       obtain⟨g,q40,h⟩:=h
       refine T_ql (some 98) 9 q40 [(0,vp (some xA)),(3,vi i),(8,vi k),(86,.bool true),(92,.string d),(98,.string g)]<| T_q1 99 (.bool (d.toList==g.toList)) [92,98]<| T_q1 100 (vp (some xA)) []<| T_q1 101 (vi k) []<| T_q1 102 (vp (some xA)) [100]<| T_q1 103 (vp (some (xA.add 1))) [102] ?_
       obtain⟨q41,h⟩:=h
       refine Q_op (some 104) (aR 35 (vp (some (xA.add 1))) (vi k)) (vp (some ((xA.add 1).add (Int.toNat k*1)))) (λ_=>by kernel_rfl) (λw _=>aN (P:=Tryz.prog) (t:=35) (elem:=33) (sz:=1) (n:=8) (a:=(xA.add 1)) (k:=.i64) (i:=k) Tryz.underlying35 (λ_=>by kernel_rfl) q41.1 q41.2 w) [(0,vp (some xA)),(3,vi i),(8,vi k),(86,.bool true),(99,.bool (d.toList==g.toList)),(104,vp (some ((xA.add 1).add (Int.toNat k*1))))] pk ?_
       obtain⟨j,q42,h⟩:=h
       refine T_ql (some 105) 33 q42 [(0,vp (some xA)),(3,vi i),(8,vi k),(86,.bool true),(99,.bool (d.toList==g.toList)),(105,vu j)]<| T_q1 106 (vp (some xA)) []<| T_q1 107 (vi i) []<| T_q1 108 (vp (some xA)) [106]<| T_q1 109 (vp (some (xA.add 1))) [108] ?_
       obtain⟨q43,h⟩:=h
       refine Q_op (some 110) (aR 35 (vp (some (xA.add 1))) (vi i)) (vp (some ((xA.add 1).add (Int.toNat i*1)))) (λ_=>by kernel_rfl) (λw _=>aN (P:=Tryz.prog) (t:=35) (elem:=33) (sz:=1) (n:=8) (a:=(xA.add 1)) (k:=.i64) (i:=i) Tryz.underlying35 (λ_=>by kernel_rfl) q43.1 q43.2 w) [(0,vp (some xA)),(3,vi i),(8,vi k),(86,.bool true),(99,.bool (d.toList==g.toList)),(105,vu j),(110,vp (some ((xA.add 1).add (Int.toNat i*1))))] pk ?_
       obtain⟨l,q44,h⟩:=h
       refine T_ql (some 111) 33 q44 [(0,vp (some xA)),(3,vi i),(8,vi k),(86,.bool true),(99,.bool (d.toList==g.toList)),(105,vu j),(111,vu l)]<| T_q1 112 (.bool (j==l)) [105,111]<| T_q1 113 (.bool (!((d.toList==g.toList)==(j==l)))) [99,112]<| T_q1 114 (.bool (!((d.toList==g.toList)==(j==l)))) [86,113]<| eV [(0,vp (some xA)),(3,vi i),(8,vi k),(114,.bool (!((d.toList==g.toList)==(j==l))))] sk<| T_qe ?_
       by_cases c45:(d.toList==g.toList)=(j==l)
       ·rw[if_pos c45]at h
        exact aE 114 (congrArg Bool.not (zK c45))<| T_k<| aB<| aC<| T_rz 11<| T_ne 3 [(0,vp (some xA)),(3,vi i),(8,vi (zY (k+1)))]<| aK ((zY (k+1)):Int) sk h
       rw[if_neg c45]at h
       exact aF 114 (congrArg Bool.not (zJ c45))<| ar 13<| T_nr 1 [2] [.bool false] hQ h
      rw[if_neg c31]at h
      exact aE 76 (zQ c31)<| zj 2<| aA<| aA<| aH<| aB<| aC<| T_rz 3<| T_ed 3 [3,8,76] [(3,vi (zY (i+1)))]<| aK ((zY (i+1)):Int) sk h
     rw[if_neg c26]at h
     exact aF 73 (bne_iff_ne.mpr c26)<| ar 8<| T_nr 1 [2] [.bool false] hQ h
    rw[if_neg c22]at h
    have b23:(!f)=true:=congrArg Bool.not (zZ c22)
    have b232:f=false:=zZ c22
    refine N_bd 64 (b:=(!f)) (v:=true) (by simp only[b23,b232,Bool.not_true,Bool.not_false]) ?_
    clear b23 b232
    exact T_ed 9 [6,64] [(73,.bool true)]<| T_tz 73<| ar 8<| T_nr 1 [2] [.bool false] hQ h
   rw[if_neg c20]at h
   exact N_bd 60 (congrArg Bool.not (zJ c20))<| T_ed 13 [6,7,60] [(73,.bool true)]<| T_tz 73<| ar 8<| T_nr 1 [2] [.bool false] hQ h
  rw[if_neg c16]at h
  have b17:(rb !=0)=true:=bne_iff_ne.mpr c16
  refine bJ [(0,vp (some xA)),(3,vi i),(4,.string ra),(6,vu b),(7,.bool f),(50,.bool true)] (by rw[b17]) ?_
  clear b17
  exact T_ed 23 [4,6,7,50] [(73,.bool true)]<| T_tz 73<| ar 8<| T_nr 1 [2] [.bool false] hQ h
 rw[if_neg c4]at h
 exact aE 10 (zQ c4)<| zj 0<| aA<| aA<| aH<| aC<| ar 14<| T_nr 1 [2] [.bool true] hQ h
end bM

