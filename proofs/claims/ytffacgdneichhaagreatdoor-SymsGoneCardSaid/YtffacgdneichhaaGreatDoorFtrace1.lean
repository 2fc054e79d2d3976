/- Printed: what each function asks, and that it is sound. -/
import Derived.Test.YtffacgdneichhaaGreatDoorFnsC
set_option linter.unusedSimpArgs false
set_option linter.unusedVariables false
set_option maxRecDepth 100000
set_option maxHeartbeats 1000000
noncomputable section
namespace Go.Proofs.YtffacgdneichhaaGreatDoor
open Go
/-! (*moraine/trace.Trace).Cards -/
namespace cU
def K0:=Func.code Tryz.f21
def K2:=cb K0
def K8:=cb K2
def K9:=ca K8
def K10:=ca K9
def K12:=cb K10
def K14:=cb K12
def K17:=ca K14
def K19:=ca K17
def K21:=cb K19
def K22:=ca K21
end cU
def cU.pt(tv:zW)(H:zV)(R:zk):Prop:=
 bK.C tv H (λv H1=> ∃x:Bool,v=.bool x/\
 if x=true then(
 R (.tuple #[]) H1)
 else
 ∃d:Addr,tv=some d/\
 ∃(xB:zW) (xN xC:Nat),hat H1 (d.add 1028)=some (.slice xB xN xC)/\
 ∃(a2:zv) (m11:Int->zV->Nat),a2 0 H1/\ ∀(f:Int) (H2:zV),a2 f H2->
 if f< (xN:Int)then(
 ∃g:Addr,xB=some g/\
 zw f xN/\
 ∃aw ap:Int,aU H2 (g.add (Int.toNat f*2)) 0 [.int .i64 aw,.int .i64 ap]/\
 ∀(b:Nat) (H3:zV),b=H2.size->H3=H2.push (.cells #[.int .i64 0,.int .i64 0] 103)->
 (aI H3 (ad b) 0 2)/\ ∀H4,H4=aO H3 (ad b) [.int .i64 aw,.int .i64 ap] 0->
 ∃a4:zW,hat H4 d=some (.pointer a4)/\
 ∃ao:Addr,a4=some ao/\
 ∃a7:zW,hat H4 ao=some (.pointer a7)/\
 ∃am:Addr,a7=some am/\
 ∃a6:zW,hat H4 am=some (.pointer a6)/\
 ∃an:Addr,a6=some an/\
 ∃av:zW,hat H4 an=some (.pointer av)/\
 ∃ay:Int,hat H4 (ad b)=some (.int .i64 ay)/\
 (
 bE.C av ay H4 (λa9 H5=> ∃(ab z al p s q r:Int) (rb:Bool),a9=.tuple #[.agg #[.int .i64 ab,.int .i64 z,.int .i64 al,.int .i64 p,.int .i64 s,.int .i64 q,.int .i64 r],.bool rb]/\
 ∀(ae:Nat) (H6:zV),ae=H5.size->H6=H5.push (.cells #[.int .i64 0,.int .i64 0,.int .i64 0,.int .i64 0,.int .i64 0,.int .i64 0,.int .i64 0] 96)->
 (aI H6 (ad ae) 0 7)/\ ∀H7,H7=aO H6 (ad ae) [.int .i64 ab,.int .i64 z,.int .i64 al,.int .i64 p,.int .i64 s,.int .i64 q,.int .i64 r] 0->
 ∃aq:Int,hat H7 (ad b)=some (.int .i64 aq)/\
 ∃ax:Int,hat H7 ((ad b).add 1)=some (.int .i64 ax)/\
 ∃au:Int,hat H7 ((ad ae).add 2)=some (.int .i64 au)/\
 ∃ai:Int,hat H7 ((ad b).add 1)=some (.int .i64 ai)/\
 ∃a1:Int,hat H7 ((ad ae).add 1)=some (.int .i64 a1)/\
 bQ.C (some d) aq (zY (ax*16)) (if(zY ((zY (ai+1))*16))<au then(zY ((zY (ai+1))*16))else au) a1 H7 (λ_ H8=>
 (a2 (zY (f+1)) H8/\m11 (zY (f+1)) H8<m11 f H2))))/\(
 ∀(aa:Nat) (H9:zV),aa=H4.size->H9=H4.push (.cells #[.int .i64 0,.int .i64 0,.int .i64 0,.int .i64 0,.int .i64 0,.int .i64 0,.int .i64 0] 96)->aU H9 d 0 [.pointer (some ao)]/\aU H9 ao 0 [.pointer (some am)]/\aU H9 am 0 [.pointer (some an)]/\aU H9 an 0 [.pointer av]/\aU H9 (ad b) 0 [.int .i64 ay]/\
 bE.C av ay H9 (λa8 a3=> ∃(y u ac m l o j:Int) (ah:Bool),a8=.tuple #[.agg #[.int .i64 y,.int .i64 u,.int .i64 ac,.int .i64 m,.int .i64 l,.int .i64 o,.int .i64 j],.bool ah]/\
 (aI a3 (ad aa) 0 7)/\ ∀az,az=aO a3 (ad aa) [.int .i64 y,.int .i64 u,.int .i64 ac,.int .i64 m,.int .i64 l,.int .i64 o,.int .i64 j] 0->
 ∃af:Int,hat az (ad b)=some (.int .i64 af)/\
 ∃aj:Int,hat az ((ad b).add 1)=some (.int .i64 aj)/\
 ∃ag:Int,hat az ((ad aa).add 2)=some (.int .i64 ag)/\
 ∃ak:Int,hat az ((ad b).add 1)=some (.int .i64 ak)/\
 ∃a0:Int,hat az ((ad aa).add 1)=some (.int .i64 a0)/\
 bQ.C (some d) af (zY (aj*16)) (if(zY ((zY (ak+1))*16))<ag then(zY ((zY (ak+1))*16))else ag) a0 az (λ_ a5=>
 (a2 (zY (f+1)) a5/\m11 (zY (f+1)) a5<m11 f H2)))))
 else
 R (.tuple #[]) H2)
namespace cU
theorem link{tv:zW}{H:zV}{R:zk}(h:pt tv H R):C tv H R:=by
 refine T_en K0 53 Tryz.func21 ?_
 intro w0 Q hQ
 unfold pt zY at h
 refine T_su [(0,vp tv)]<| T_sz<| ar 0<| T_nd 1 [] [(6,vp tv)]<| T_c (some 7) h ?_;clear h
 rintro v H1 ⟨x,rfl,h⟩
 refine T_pd [6] [(7,.bool x)]<| T_e ?_
 by_cases c1:x=true
 ·rw[if_pos c1]at h
  exact aF 7 c1<| fF [] [] hQ h
 rw[if_neg c1]at h
 refine aE 7 (zZ c1)<| T_kt<| ar 1<| T_nd 1 [7] [(8,vp tv)] ?_
 obtain⟨d,rfl,h⟩:=h
 refine T_n 2 [(0,vp (some d)),(10,vp (some (d.add 1028)))] ?_
 obtain⟨xB,xN,xC,q3,h⟩:=h
 refine T_l1 11 92 q3 [10]<| T_ed 2 [] [(12,vi xN),(13,vi 0)]<| T_bz 0 ?_
 obtain⟨a2,m11,i4,i5⟩:=h
 refine bO (x:=K10) (σ:=Int) (λs_=> [(0,vp (some d)),(11,vs xB xN xC),(12,vi xN),(13,vi s_)]) (λs_ H=>a2 s_ H) (λs_ H=>m11 s_ H) (0:Int) (by kernel_rfl) i4 sk ?_
 rintro f H2 i6
 have h:=i5 f H2 i6
 refine T_su [(0,vp (some d)),(11,vs xB xN xC),(12,vi xN),(13,vi f)]<| ar 2<| T_ed 1 [] [(14,.bool (decide (f< (xN:Int))))]<| T_sz ?_
 by_cases c7:f< (xN:Int)
 ·rw[if_pos c7]at h
  refine aF 14 (zX c7)<| T_kt<| T_sz<| T_bz 1<| ar 3<| T_ud [14] [] ?_
  obtain⟨g,rfl,q9,h⟩:=h
  refine T_xd (some 15) 92 103 2 g xN xC .i64 f Tryz.underlying92 q9.1 q9.2 [11] [(11,vs (some g) xN xC),(15,vp (some (g.add (Int.toNat f*2))))] ?_
  obtain⟨aw,ap,q10,h⟩:=h
  refine T_lr 16 103 q10 [15]<| T_nw (some 3) (λb=>vp (pa b)) (.cells #[vi 0,vi 0] 103) ?_
  intro b H3 e11 e12
  replace h:=h b H3 e11 e12
  refine T_pd [] [(3,vp (pa b))] ?_
  obtain⟨q14,h⟩:=h
  refine fH 103 [vi aw,vi ap] q14 ?_
  intro H4 e13
  replace h:=h H4 e13
  refine T_pd [16] []<| T_e<| T_sz ?_
  obtain⟨a4,q15,ao,rfl,a7,q16,am,rfl,a6,q17,an,rfl,av,q18,ay,q19,h⟩:=h
  refine yY 4 (Code.ops K22) [(15,d,[vp (some ao)]),(15,ao,[vp (some am)]),(15,am,[vp (some an)]),(15,an,[vp av]),(15,(ad b),[vi ay])] 22 (bv 22 0) (show aG _ _ _ from⟨⟨q15,trivial⟩,⟨q16,trivial⟩,⟨q17,trivial⟩,⟨q18,trivial⟩,⟨q19,trivial⟩,trivial⟩)<| T_gp 0 (some 18) (vp (some d)) (bv 22 1) [(0,vp (some d)),(3,vp (pa b)),(11,vs (some g) xN xC),(12,vi xN),(13,vi f),(18,vp (some d))]<| aD 1 19 (vp (some d)) (bv 22 3) [18]<| aD 2 20 (vp (some d)) (bv 22 7) [19]<| T_g1 3 21 (vp (some ao)) (bv 22 15) [20] (aS 34 (vp (some d))) (yW 15 yZ)<| aD 4 22 (vp (some ao)) (bv 22 31) [21]<| aD 5 23 (vp (some ao)) (bv 22 63) [22]<| T_g1 6 24 (vp (some am)) (bv 22 127) [23] (aS 44 (vp (some ao))) (yW 15 yX)<| aD 7 25 (vp (some am)) (bv 22 255) [24]<| aD 8 26 (vp (some am)) (bv 22 511) [25]<| T_g1 9 27 (vp (some an)) (bv 22 1023) [26] (aS 81 (vp (some am))) (yW 15 yQ)<| aD 10 28 (vp (some an)) (bv 22 2047) [27]<| aD 11 29 (vp (some an)) (bv 22 4095) [28]<| T_g1 12 30 (vp av) (bv 22 8191) [29] (aS 84 (vp (some an))) (yW 15 yJ)<| aD 13 31 (vp (pa b)) (bv 22 16383) []<| T_g1 14 32 (vi ay) (bv 22 32767) [31] (aS 3 (vp (pa b))) (yW 15 yK) ?_
  refine qx 15 19 (by kernel_rfl) ?_ ?_
  ·replace h:=h.1
   refine qy 15 (some 33) (bv 22 65535) 37 #[vp av,vi ay] (by kernel_rfl) (λ_=>by kernel_rfl) h (by kernel_rfl) ?_;clear h
   rintro a9 H5 ⟨ab,z,al,p,s,q,r,rb,rfl,h⟩
   refine⟨[(0,vp (some d)),(3,vp (pa b)),(11,vs (some g) xN xC),(12,vi xN),(13,vi f),(33,.tuple #[.agg #[vi ab,vi z,vi al,vi p,vi s,vi q,vi r],.bool rb])],pk,(show aG _ _ _ from⟨trivial,trivial,trivial,trivial,trivial,trivial⟩),?_⟩
   refine T_g 16 (some 17) (.tuple #[.agg #[vi ab,vi z,vi al,vi p,vi s,vi q,vi r],.bool rb]) (bv 22 131071) [(0,vp (some d)),(3,vp (pa b)),(11,vs (some g) xN xC),(12,vi xN),(13,vi f),(17,.tuple #[.agg #[vi ab,vi z,vi al,vi p,vi s,vi q,vi r],.bool rb])] (pure (.value (.tuple #[.agg #[vi ab,vi z,vi al,vi p,vi s,vi q,vi r],.bool rb])):Sem Next) (λ_ _ _ _ _=>rfl)<| T_g1 17 34 (.agg #[vi ab,vi z,vi al,vi p,vi s,vi q,vi r]) (bv 22 262143) [] (pure (.value (.agg #[vi ab,vi z,vi al,vi p,vi s,vi q,vi r])):Sem Next) (λ_ _ _ _ _=>rfl)<| T_g1 18 35 (.bool rb) (bv 22 524287) [17] (pure (.value (.bool rb)):Sem Next) (λ_ _ _ _ _=>rfl)<| nN 19 (some 4) (bv 22 1048575) (λb=>vp (pa b)) (.cells #[vi 0,vi 0,vi 0,vi 0,vi 0,vi 0,vi 0] 96) (by kernel_rfl) (λ_=>by kernel_rfl) (by kernel_rfl) ?_
   intro ae H6 e20 e21
   replace h:=h ae H6 e20 e21
   refine⟨[(0,vp (some d)),(3,vp (pa b)),(4,vp (pa ae)),(11,vs (some g) xN xC),(12,vi xN),(13,vi f),(34,.agg #[vi ab,vi z,vi al,vi p,vi s,vi q,vi r]),(35,.bool rb)],pk,(show aG _ _ _ from⟨trivial,trivial,trivial,trivial,trivial,trivial⟩),?_⟩
   obtain⟨q23,h⟩:=h
   refine fg 20 none (bv 22 2097151) (gH 96 (vp (pa ae)) (.agg #[vi ab,vi z,vi al,vi p,vi s,vi q,vi r])) (λHz=>Hz=aO H6 (ad ae) [vi ab,vi z,vi al,vi p,vi s,vi q,vi r] 0) (by kernel_rfl) (λ_=>by kernel_rfl) (fX [vi ab,vi z,vi al,vi p,vi s,vi q,vi r] 7 (by kernel_rfl) (by kernel_rfl) (λ_=>by kernel_rfl) (by kernel_rfl) q23) (by kernel_rfl) ?_
   intro H7 e22
   replace h:=h H7 e22
   refine⟨[(0,vp (some d)),(3,vp (pa b)),(4,vp (pa ae)),(11,vs (some g) xN xC),(12,vi xN),(13,vi f),(35,.bool rb)],pk,(show aG _ _ _ from⟨trivial,trivial,trivial,trivial,trivial,trivial⟩),?_⟩
   refine T_g 21 (some 5) (.bool rb) (bv 22 4194303) [(0,vp (some d)),(3,vp (pa b)),(4,vp (pa ae)),(11,vs (some g) xN xC),(12,vi xN),(13,vi f)] (pure (.value (.bool rb)):Sem Next) (λ_ _ _ _ _=>rfl)<| eR [(0,vp (some d)),(3,vp (pa b)),(4,vp (pa ae)),(11,vs (some g) xN xC),(12,vi xN),(13,vi f)] sk<| yx<| aC<| T_rz 5<| T_n 2 [(0,vp (some d)),(3,vp (pa b)),(4,vp (pa ae)),(11,vs (some g) xN xC),(12,vi xN),(13,vi f),(36,vp (some d)),(37,vp (pa b))] ?_
   obtain⟨aq,q24,h⟩:=h
   refine T_l1 38 3 q24 [37]<| T_nd 1 [] [(39,vp (some ((ad b).add 1)))] ?_
   obtain⟨ax,q25,h⟩:=h
   refine T_l1 40 3 q25 [39]<| T_nd 2 [40] [(41,vi (zY (ax*16))),(42,vp (some ((ad ae).add 2)))] ?_
   obtain⟨au,q26,h⟩:=h
   refine T_l1 43 3 q26 [42]<| T_nd 1 [3] [(44,vp (some ((ad b).add 1)))] ?_
   obtain⟨ai,q27,h⟩:=h
   refine T_l1 45 3 q27 [44]<| T_nd 4 [4,43,45] [(48,vi (if(zY ((zY (ai+1))*16))<au then(zY ((zY (ai+1))*16))else au)),(49,vp (some ((ad ae).add 1)))] ?_
   obtain⟨a1,q28,h⟩:=h
   refine T_l1 50 3 q28 [49]<| T_c (some 51) h ?_;clear h
   intro v_3 H8 h
   exact T_pd [36,38,41,48,50] []<| zq<| aB<| aC<| T_rz 6<| T_ed 2 [13] [(13,vi (zY (f+1)))]<| aK ((zY (f+1)):Int) sk h
  replace h:=h.2
  refine rZ 19 (some 4) (bv 22 557055) (λb=>vp (pa b)) (.cells #[vi 0,vi 0,vi 0,vi 0,vi 0,vi 0,vi 0] 96) (by kernel_rfl) (λ_=>by kernel_rfl) (by kernel_rfl) ?_
  intro aa H9 e34 e35
  replace h:=h aa H9 e34 e35
  obtain⟨f29,f30,f31,f32,f33,h⟩:=h
  refine⟨[(0,vp (some d)),(3,vp (pa b)),(4,vp (pa aa)),(11,vs (some g) xN xC),(12,vi xN),(13,vi f),(30,vp av),(32,vi ay)],pk,(show aG _ _ _ from⟨f29,f30,f31,f32,f33,trivial⟩),?_⟩
  refine yq 15 (some 33) (bv 22 589823) 37 #[vp av,vi ay] h ?_;clear h
  rintro a8 a3 ⟨y,u,ac,m,l,o,j,ah,rfl,h⟩
  refine⟨[(0,vp (some d)),(3,vp (pa b)),(4,vp (pa aa)),(11,vs (some g) xN xC),(12,vi xN),(13,vi f),(33,.tuple #[.agg #[vi y,vi u,vi ac,vi m,vi l,vi o,vi j],.bool ah])],pk,(show aG _ _ _ from⟨trivial,trivial,trivial,trivial,trivial,trivial⟩),?_⟩
  refine T_g 16 (some 17) (.tuple #[.agg #[vi y,vi u,vi ac,vi m,vi l,vi o,vi j],.bool ah]) (bv 22 655359) [(0,vp (some d)),(3,vp (pa b)),(4,vp (pa aa)),(11,vs (some g) xN xC),(12,vi xN),(13,vi f),(17,.tuple #[.agg #[vi y,vi u,vi ac,vi m,vi l,vi o,vi j],.bool ah])] (pure (.value (.tuple #[.agg #[vi y,vi u,vi ac,vi m,vi l,vi o,vi j],.bool ah])):Sem Next) (λ_ _ _ _ _=>rfl)<| T_g1 17 34 (.agg #[vi y,vi u,vi ac,vi m,vi l,vi o,vi j]) (bv 22 786431) [] (pure (.value (.agg #[vi y,vi u,vi ac,vi m,vi l,vi o,vi j])):Sem Next) (λ_ _ _ _ _=>rfl)<| T_g1 18 35 (.bool ah) (bv 22 1048575) [17] (pure (.value (.bool ah)):Sem Next) (λ_ _ _ _ _=>rfl) ?_
  obtain⟨q37,h⟩:=h
  refine fg 20 none (bv 22 2097151) (gH 96 (vp (pa aa)) (.agg #[vi y,vi u,vi ac,vi m,vi l,vi o,vi j])) (λHz=>Hz=aO a3 (ad aa) [vi y,vi u,vi ac,vi m,vi l,vi o,vi j] 0) (by kernel_rfl) (λ_=>by kernel_rfl) (fX [vi y,vi u,vi ac,vi m,vi l,vi o,vi j] 7 (by kernel_rfl) (by kernel_rfl) (λ_=>by kernel_rfl) (by kernel_rfl) q37) (by kernel_rfl) ?_
  intro az e36
  replace h:=h az e36
  refine⟨[(0,vp (some d)),(3,vp (pa b)),(4,vp (pa aa)),(11,vs (some g) xN xC),(12,vi xN),(13,vi f),(35,.bool ah)],pk,(show aG _ _ _ from⟨trivial,trivial,trivial,trivial,trivial,trivial⟩),?_⟩
  refine T_g 21 (some 5) (.bool ah) (bv 22 4194303) [(0,vp (some d)),(3,vp (pa b)),(4,vp (pa aa)),(11,vs (some g) xN xC),(12,vi xN),(13,vi f)] (pure (.value (.bool ah)):Sem Next) (λ_ _ _ _ _=>rfl)<| eR [(0,vp (some d)),(3,vp (pa b)),(4,vp (pa aa)),(11,vs (some g) xN xC),(12,vi xN),(13,vi f)] sk<| yx<| aC<| T_rz 5<| T_n 2 [(0,vp (some d)),(3,vp (pa b)),(4,vp (pa aa)),(11,vs (some g) xN xC),(12,vi xN),(13,vi f),(36,vp (some d)),(37,vp (pa b))] ?_
  obtain⟨af,q38,h⟩:=h
  refine T_l1 38 3 q38 [37]<| T_nd 1 [] [(39,vp (some ((ad b).add 1)))] ?_
  obtain⟨aj,q39,h⟩:=h
  refine T_l1 40 3 q39 [39]<| T_nd 2 [40] [(41,vi (zY (aj*16))),(42,vp (some ((ad aa).add 2)))] ?_
  obtain⟨ag,q40,h⟩:=h
  refine T_l1 43 3 q40 [42]<| T_nd 1 [3] [(44,vp (some ((ad b).add 1)))] ?_
  obtain⟨ak,q41,h⟩:=h
  refine T_l1 45 3 q41 [44]<| T_nd 4 [4,43,45] [(48,vi (if(zY ((zY (ak+1))*16))<ag then(zY ((zY (ak+1))*16))else ag)),(49,vp (some ((ad aa).add 1)))] ?_
  obtain⟨a0,q42,h⟩:=h
  refine T_l1 50 3 q42 [49]<| T_c (some 51) h ?_;clear h
  intro v_5 a5 h
  exact T_pd [36,38,41,48,50] []<| zq<| aB<| aC<| T_rz 6<| T_ed 2 [13] [(13,vi (zY (f+1)))]<| aK ((zY (f+1)):Int) sk h
 rw[if_neg c7]at h
 exact aE 14 (zQ c7)<| zj 0<| aA<| aA<| aH<| fN (fn:=Tryz.f21) [] hQ (show dh _ _ _ [] _ from .nil) h
end cU

/-! (*moraine/trace.Trace).Drain -/
namespace bZ
def K0:=Func.code Tryz.f22
def K1:=ca K0
def K2:=ca K1
end bZ
def bZ.pt(tv:zW)(H:zV)(R:zk):Prop:=
 ∃(I3:zV->Prop) (m3:zV->Nat),I3 H/\ ∀(H1:zV),I3 H1->
 bK.C tv H1 (λv H2=> ∃x:Bool,v=.bool x/\
 if x=true then(
 R (.tuple #[]) H2)
 else
 cW.C tv H2 (λb H3=> ∃a:Bool,b=.bool a/\
 if a=true then(
 (I3 H3/\m3 H3<m3 H1))
 else
 R (.tuple #[]) H3))
namespace bZ
theorem link{tv:zW}{H:zV}{R:zk}(h:pt tv H R):C tv H R:=by
 refine T_en K0 9 Tryz.func22 ?_
 intro w0 Q hQ
 unfold pt at h
 refine T_su [(0,vp tv)]<| T_bz 0 ?_
 obtain⟨I3,m3,i1,i2⟩:=h
 refine bO (x:=K2) (σ:=Unit) (λs_=> [(0,vp tv)]) (λs_ H=>I3 H) (λs_ H=>m3 H) (():Unit) (by kernel_rfl) i1 sk ?_
 rintro _ H1 i3
 have h:=i2 H1 i3
 refine T_su [(0,vp tv)]<| T_sz<| ar 0<| T_nd 1 [] [(2,vp tv)]<| T_c (some 3) h ?_;clear h
 rintro v H2 ⟨x,rfl,h⟩
 refine T_pd [2] [(3,.bool x)]<| T_nd 2 [3] [(5,.bool (!x))] ?_
 by_cases c4:x=true
 ·rw[if_pos c4]at h
  have b5:(!x)=false:=congrArg Bool.not (c4)
  have b52:x=true:=c4
  refine N_bd 5 (b:=(!x)) (v:=false) (by simp only[b5,b52,Bool.not_true,Bool.not_false]) ?_
  clear b5 b52
  exact T_ed 3 [5] [(8,.bool false)]<| T_fz 8<| zj 0<| aA<| aA<| aH<| fN (fn:=Tryz.f22) [] hQ (show dh _ _ _ [] _ from .nil) h
 rw[if_neg c4]at h
 have b5:(!x)=true:=congrArg Bool.not (zZ c4)
 have b52:x=false:=zZ c4
 refine N_bd 5 (b:=(!x)) (v:=true) (by simp only[b5,b52,Bool.not_true,Bool.not_false]) ?_
 clear b5 b52
 refine T_nd 1 [] [(6,vp tv)]<| T_c (some 7) h ?_;clear h
 rintro b H3 ⟨a,rfl,h⟩
 refine T_pd [6] [(7,.bool a)]<| T_ed 1 [5,7] [(8,.bool a)] ?_
 by_cases c6:a=true
 ·rw[if_pos c6]at h
  exact aF 8 c6<| T_kt<| T_bz 1<| T_k<| aB<| aC<| aK (s:=()) (():Unit) sk h
 rw[if_neg c6]at h
 exact aE 8 (zZ c6)<| zj 0<| aA<| aA<| aH<| fN (fn:=Tryz.f22) [] hQ (show dh _ _ _ [] _ from .nil) h
end bZ

/-! (*moraine/trace.Trace).none -/
namespace bK
def K0:=Func.code Tryz.f40
end bK
def bK.pt(tv:zW)(H:zV)(R:zk):Prop:=
 dM tv (
 R (.bool true) H) (λa=>
 ∃x:zW,hat H a=some (.pointer x)/\
 dM x (
 R (.bool true) H) (λxA=>
 ∃b:Int,hat H (a.add 1029)=some (.int .i64 b)/\
 R (.bool (b==1)) H))
namespace bK
theorem link{tv:zW}{H:zV}{R:zk}(h:pt tv H R):C tv H R:=by
 refine T_en K0 19 Tryz.func40 ?_
 intro w0 Q hQ
 unfold pt at h
 refine T_su [(0,vp tv)]<| ar 0<| T_ed 1 [] []<| ar 1<| T_nd 1 [] [(3,vp tv)] ?_
 rcases tv with _ | a
 ·rw[onPtr_none]at h
  exact T_nr 16 [2] [.bool true] hQ h
 rw[onPtr_some]at h
 refine T_n 5 [(0,vp (some a)),(5,.bool false),(8,vp (some a))] ?_
 obtain⟨x,q1,h⟩:=h
 refine T_l1 9 34 q1 [8] ?_
 rcases x with _ | xA
 ·rw[onPtr_none]at h
  exact T_nr 10 [2] [.bool true] hQ h
 rw[onPtr_some]at h
 refine T_n 6 [(12,.bool false),(15,vp (some (a.add 1029)))] ?_
 obtain⟨b,q2,h⟩:=h
 exact T_l1 16 3 q2 [15]<| T_nr 3 [2] [.bool (b==1)] hQ h
end bK

/-! (*moraine/trace.Trace).Old -/
namespace cO
def K0:=Func.code Tryz.f44
end cO
def cO.pt(tv:zW)(wv:Int)(H:zV)(R:zk):Prop:=
 ec.C wv H (λv H1=> ∃(ra:Int) (rb:Bool),v=.tuple #[.int .i64 ra,.bool rb]/\
 bK.C tv H1 (λj H2=> ∃x:Bool,j=.bool x/\
 if x=true then(
 R (.bool false) H2)
 else
 if rb=true then(
 dY.C wv H2 (λg H3=> ∃d:Int,g=.int .i64 d/\
 if d=6 then(
 R (.bool false) H3)
 else
 ∃b:Addr,tv=some b/\
 ((0:Int)<=(zY (Int.tdiv ra 64))/\(zY (Int.tdiv ra 64))< (1024:Int))/\
 ∃f:Int,hat H3 ((b.add 2).add (Int.toNat (zY (Int.tdiv ra 64))*1))=some (.int .i64 f)/\
 R (.bool (f==1)) H3))
 else
 R (.bool false) H2))
namespace cO
theorem link{tv:zW}{wv:Int}{H:zV}{R:zk}(h:pt tv wv H R):C tv wv H R:=by
 refine T_en K0 33 Tryz.func44 ?_
 intro w0 Q hQ
 unfold pt zY at h
 refine T_su [(0,vp tv),(1,vu wv)]<| ar 0<| T_ed 1 [] []<| ar 1<| T_nd 1 [] [(8,vu wv)]<| T_c (some 9) h ?_;clear h
 rintro v H1 ⟨ra,rb,rfl,h⟩
 refine T_pd [8] [(9,.tuple #[vi ra,.bool rb])]<| T_ed 5 [9] [(5,vi ra),(6,.bool rb)]<| ar 2<| T_nd 1 [] [(12,vp tv)]<| T_c (some 13) h ?_;clear h
 rintro j H2 ⟨x,rfl,h⟩
 refine T_pd [12] [(13,.bool x)]<| T_nd 2 [13] [(15,.bool (!x))] ?_
 by_cases c1:x=true
 ·rw[if_pos c1]at h
  have b2:(!x)=false:=congrArg Bool.not (c1)
  have b22:x=true:=c1
  refine N_bd 15 (b:=(!x)) (v:=false) (by simp only[b2,b22,Bool.not_true,Bool.not_false]) ?_
  clear b2 b22
  exact T_nr 18 [4] [.bool false] hQ h
 rw[if_neg c1]at h
 have b2:(!x)=true:=congrArg Bool.not (zZ c1)
 have b22:x=false:=zZ c1
 refine N_bd 15 (b:=(!x)) (v:=true) (by simp only[b2,b22,Bool.not_true,Bool.not_false]) ?_
 clear b2 b22
 refine T_nd 3 [6,15] [(18,.bool rb)] ?_
 by_cases c3:rb=true
 ·rw[if_pos c3]at h
  refine N_bd 18 c3<| T_nd 1 [1] [(19,vu wv)] ?_
  refine T_c (some 20) h ?_;clear h
  rintro g H3 ⟨d,rfl,h⟩
  refine T_pd [19] [(20,vi d)]<| T_nd 3 [18,20] [(23,.bool (d !=6))] ?_
  by_cases c5:d=6
  ·rw[if_pos c5]at h
   exact N_bd 23 (bne_eq_false_iff_eq.mpr c5)<| T_nr 10 [4] [.bool false] hQ h
  rw[if_neg c5]at h
  refine N_bd 23 (bne_iff_ne.mpr c5)<| T_nd 3 [0,5] [(24,vp tv),(26,vi (zY (Int.tdiv ra 64)))] ?_
  obtain⟨b,rfl,h⟩:=h
  refine T_nd 2 [24] [(28,vp (some (b.add 2)))] ?_
  obtain⟨q7,h⟩:=h
  refine T_v1 29 (aR 91 (vp (some (b.add 2))) (vi (zY (Int.tdiv ra 64)))) (vp (some ((b.add 2).add (Int.toNat (zY (Int.tdiv ra 64))*1)))) (λw _=>aN (P:=Tryz.prog) (t:=91) (elem:=3) (sz:=1) (n:=1024) (a:=(b.add 2)) (k:=.i64) (i:=(zY (Int.tdiv ra 64))) Tryz.underlying91 (λ_=>by kernel_rfl) q7.1 q7.2 w) [26,28] ?_
  obtain⟨f,q8,h⟩:=h
  exact T_l1 30 3 q8 [29]<| T_nr 3 [4] [.bool (f==1)] hQ h
 rw[if_neg c3]at h
 exact N_bd 18 (zZ c3)<| T_nr 15 [4] [.bool false] hQ h
end cO

/-! (*moraine/trace.Trace).moved -/
namespace cx
def K0:=Func.code Tryz.f45
end cx
def cx.pt(tv:zW)(wv:Int)(H:zV)(R:zk):Prop:=
 ec.C wv H (λv H1=> ∃(ra:Int) (rb:Bool),v=.tuple #[.int .i64 ra,.bool rb]/\
 ∃o:Addr,tv=some o/\
 ∃x:zW,hat H1 o=some (.pointer x)/\
 ∃xA:Addr,x=some xA/\
 ∃l:zW,hat H1 xA=some (.pointer l)/\
 ∃q:Addr,l=some q/\
 ∃p:zW,hat H1 q=some (.pointer p)/\
 ∃m:Addr,p=some m/\
 ∃j:zW,hat H1 m=some (.pointer j)/\
 bR.C j ra H1 (λz H2=> ∃b f:Int,z=.tuple #[.int .u64 b,.int .i64 f]/\
 ec.C b H2 (λu H3=> ∃(a:Int) (d:Bool),u=.tuple #[.int .i64 a,.bool d]/\
 if f=0 then(
 if d=true then(
 dY.C b H3 (λs H4=> ∃i:Int,s=.int .i64 i/\
 if i=6 then(
 dY.C wv H4 (λy H5=> ∃k:Int,y=.int .i64 k/\
 gm.C k a H5 (λt H6=> ∃g r:Int,t=.tuple #[.int .u64 g,.int .i64 r]/\
 R (.tuple #[.int .u64 g,.bool true]) H6)))
 else
 R (.tuple #[.int .u64 wv,.bool false]) H4))
 else
 R (.tuple #[.int .u64 wv,.bool false]) H3)
 else
 R (.tuple #[.int .u64 wv,.bool false]) H3)))
namespace cx
theorem link{tv:zW}{wv:Int}{H:zV}{R:zk}(h:pt tv wv H R):C tv wv H R:=by
 refine T_en K0 62 Tryz.func45 ?_
 intro w0 Q hQ
 unfold pt at h
 refine T_su [(0,vp tv),(1,vu wv)]<| ar 0<| T_ed 2 [] []<| ar 1<| T_nd 1 [] [(15,vu wv)]<| T_c (some 16) h ?_;clear h
 rintro v H1 ⟨ra,rb,rfl,h⟩
 refine T_pd [15] [(16,.tuple #[vi ra,.bool rb])]<| T_ed 5 [16] [(6,vi ra)]<| ar 2<| T_nd 1 [0] [(20,vp tv)] ?_
 obtain⟨o,rfl,h⟩:=h
 refine T_nd 2 [20] [(22,vp (some o))] ?_
 obtain⟨x,q1,h⟩:=h
 refine T_l1 23 34 q1 [22] ?_
 obtain⟨xA,rfl,h⟩:=h
 refine T_nd 2 [23] [(25,vp (some xA))] ?_
 obtain⟨l,q2,h⟩:=h
 refine T_l1 26 44 q2 [25] ?_
 obtain⟨q,rfl,h⟩:=h
 refine T_nd 2 [26] [(28,vp (some q))] ?_
 obtain⟨p,q3,h⟩:=h
 refine T_l1 29 81 q3 [28] ?_
 obtain⟨m,rfl,h⟩:=h
 refine T_nd 2 [29] [(31,vp (some m))] ?_
 obtain⟨j,q4,h⟩:=h
 refine T_l1 32 84 q4 [31]<| T_nd 1 [6] [(33,vi ra)]<| T_c (some 34) h ?_;clear h
 rintro z H2 ⟨b,f,rfl,h⟩
 refine T_pd [32,33] [(34,.tuple #[vu b,vi f])]<| T_ed 5 [34] [(8,vu b),(9,vi f)]<| ar 3<| T_nd 1 [] [(38,vu b)]<| T_c (some 39) h ?_;clear h
 rintro u H3 ⟨a,d,rfl,h⟩
 refine T_pd [38] [(39,.tuple #[vi a,.bool d])]<| T_ed 5 [39] [(10,vi a),(11,.bool d)]<| T_sz<| ar 4<| T_nd 3 [9] [(44,.bool (f !=0))] ?_
 by_cases c5:f=0
 ·rw[if_pos c5]at h
  refine N_bd 44 (bne_eq_false_iff_eq.mpr c5)<| T_nd 4 [11,44] [(48,.bool (!d))] ?_
  by_cases c7:d=true
  ·rw[if_pos c7]at h
   have b8:(!d)=false:=congrArg Bool.not (c7)
   have b82:d=true:=c7
   refine N_bd 48 (b:=(!d)) (v:=false) (by simp only[b8,b82,Bool.not_true,Bool.not_false]) ?_
   clear b8 b82
   refine T_nd 1 [8] [(49,vu b)]<| T_c (some 50) h ?_;clear h
   rintro s H4 ⟨i,rfl,h⟩
   refine T_pd [49] [(50,vi i)]<| T_ed 2 [48,50] [(52,.bool (i !=6))] ?_
   by_cases c9:i=6
   ·rw[if_pos c9]at h
    refine aE 52 (bne_eq_false_iff_eq.mpr c9)<| T_kt<| ar 6<| T_nd 1 [1,52] [(55,vu wv)]<| T_c (some 56) h ?_;clear h
    rintro y H5 ⟨k,rfl,h⟩
    refine T_pd [55] [(56,vi k)]<| T_nd 1 [10] [(57,vi a)]<| T_c (some 58) h ?_;clear h
    rintro t H6 ⟨g,r,rfl,h⟩
    refine⟨[(58,.tuple #[vu g,vi r])],pk,?_⟩
    exact T_ne 5 [(12,vu g)]<| ar 7<| T_nr 3 [4,5] [vu g,.bool true] hQ h
   rw[if_neg c9]at h
   exact aF 52 (bne_iff_ne.mpr c9)<| ar 5<| T_nr 3 [4,5] [vu wv,.bool false] hQ h
  rw[if_neg c7]at h
  have b8:(!d)=true:=congrArg Bool.not (zZ c7)
  have b82:d=false:=zZ c7
  refine N_bd 48 (b:=(!d)) (v:=true) (by simp only[b8,b82,Bool.not_true,Bool.not_false]) ?_
  clear b8 b82
  exact T_ed 4 [8,48] [(52,.bool true)]<| T_tz 52<| ar 5<| T_nr 3 [4,5] [vu wv,.bool false] hQ h
 rw[if_neg c5]at h
 exact N_bd 44 (bne_iff_ne.mpr c5)<| T_ed 8 [8,11,44] [(52,.bool true)]<| T_tz 52<| ar 5<| T_nr 3 [4,5] [vu wv,.bool false] hQ h
end cx

/-! (*moraine/trace.Trace).look -/
namespace bQ
def K0:=Func.code Tryz.f53
def K2:=cb K0
def K4:=cb K2
def K6:=cb K4
def K7:=ca K6
def K8:=ca K7
end bQ
def bQ.pt(tv:zW)(d f to a:Int)(H:zV)(R:zk):Prop:=
 ∀(b:Nat) (H1:zV),b=H.size->H1=H.push (.cells #[.pointer tv] 58)->
 ∃(I9:zv) (m9:Int->zV->Nat),I9 f H1/\ ∀(i:Int) (H2:zV),I9 i H2->
 if((decide (i<to)) && (a !=3))=true then(
 if((a !=1) || ((Int.tmod i 2)==1))=true then(
 cJ.C (zY ((zY (d*64))+i)) (some (ad b)) H2 (λ_ H3=>
 (I9 (zY (i+1)) H3/\m9 (zY (i+1)) H3<m9 i H2)))
 else
 (I9 (zY (i+1)) H2/\m9 (zY (i+1)) H2<m9 i H2))
 else
 R (.tuple #[]) H2
namespace bQ
theorem link{tv:zW}{d f to a:Int}{H:zV}{R:zk}(h:pt tv d f to a H R):C tv d f to a H R:=by
 refine T_en K0 36 Tryz.func53 ?_
 intro w0 Q hQ
 unfold pt zY at h
 refine T_su [(0,vp tv),(1,vi d),(2,vi f),(3,vi to),(4,vi a)]<| ar 0<| T_nw (some 5) (λb=>vp (pa b)) (.cells #[vp tv] 58) ?_
 intro b H1 e1 e2
 replace h:=h b H1 e1 e2
 refine T_pd [0] [(5,vp (pa b))]<| T_e<| ar 1<| T_ed 2 [5] [(10,.func (.func 92) #[] #[vp (pa b)])]<| ar 2<| T_ed 2 [2] [(11,vi f)]<| T_bz 0 ?_
 obtain⟨I9,m9,i3,i4⟩:=h
 refine bO (x:=K8) (σ:=Int) (λs_=> [(1,vi d),(3,vi to),(4,vi a),(10,.func (.func 92) #[] #[vp (pa b)]),(11,vi s_)]) (λs_ H=>I9 s_ H) (λs_ H=>m9 s_ H) (f:Int) (by kernel_rfl) i3 sk ?_
 rintro i H2 i5
 have h:=i4 i H2 i5
 refine T_su [(1,vi d),(3,vi to),(4,vi a),(10,.func (.func 92) #[] #[vp (pa b)]),(11,vi i)]<| T_sz<| ar 3 ?_
 refine eQ [(1,vi d),(3,vi to),(4,vi a),(10,.func (.func 92) #[] #[vp (pa b)]),(11,vi i),(20,.bool ((decide (i<to)) && (a !=3)))] ?_ ?_
 ·refine aC ?_
  by_cases c8:((decide (i<to)) && (a !=3))=true
  ·rw[if_pos c8]at h
   refine aF 20 c8<| T_kt<| T_sz<| T_bz 1<| ar 5 ?_
   refine eQ [(1,vi d),(3,vi to),(4,vi a),(10,.func (.func 92) #[] #[vp (pa b)]),(11,vi i),(29,.bool ((a !=1) || ((Int.tmod i 2)==1)))] ?_ ?_
   ·refine aC ?_
    by_cases c12:((a !=1) || ((Int.tmod i 2)==1))=true
    ·rw[if_pos c12]at h
     refine aF 29 c12<| T_rz 6<| T_n 5 [(1,vi d),(3,vi to),(4,vi a),(10,.func (.func 92) #[] #[vp (pa b)]),(11,vi i),(30,.func (.func 92) #[] #[vp (pa b)]),(34,vi (zY ((zY (d*64))+i)))]<| T_c (some 35) h ?_;clear h
     intro v H3 h
     exact T_pd [30,34] []<| zq<| aB<| aC<| T_rz 4<| T_ed 3 [11] [(11,vi (zY (i+1)))]<| aK ((zY (i+1)):Int) sk h
    rw[if_neg c12]at h
    exact aE 29 (zZ c12)<| T_k<| aB<| aC<| T_rz 4<| T_ne 3 [(1,vi d),(3,vi to),(4,vi a),(10,.func (.func 92) #[] #[vp (pa b)]),(11,vi (zY (i+1)))]<| aK ((zY (i+1)):Int) sk h
   intro hk
   refine T_n 3 [(1,vi d),(3,vi to),(4,vi a),(10,.func (.func 92) #[] #[vp (pa b)]),(11,vi i),(25,.bool (a !=1))] ?_
   by_cases c10:a=1
   ·have b11:(a !=1)=false:=bne_eq_false_iff_eq.mpr c10
    refine bJ [(1,vi d),(3,vi to),(4,vi a),(10,.func (.func 92) #[] #[vp (pa b)]),(11,vi i),(25,.bool false)] (by rw[b11]) ?_
    refine T_nd 4 [25] [(29,.bool ((Int.tmod i 2)==1))]<| zq<| S_bd 29 (b:=((Int.tmod i 2)==1)) (v:=((a !=1) || ((Int.tmod i 2)==1))) (by simp only[b11,BL]) ?_
    exact hk
   have b11:(a !=1)=true:=bne_iff_ne.mpr c10
   refine bJ [(1,vi d),(3,vi to),(4,vi a),(10,.func (.func 92) #[] #[vp (pa b)]),(11,vi i),(25,.bool true)] (by rw[b11]) ?_
   refine T_nd 4 [25] [(29,.bool true)]<| zq<| S_bd 29 (b:=true) (v:=((a !=1) || ((Int.tmod i 2)==1))) (by simp only[b11,BL]) ?_
   exact hk
  rw[if_neg c8]at h
  exact aE 20 (zZ c8)<| zj 0<| aA<| aA<| aH<| fN (fn:=Tryz.f53) [] hQ (show dh _ _ _ [] _ from .nil) h
 intro hk
 refine T_n 4 [(1,vi d),(3,vi to),(4,vi a),(10,.func (.func 92) #[] #[vp (pa b)]),(11,vi i),(17,.bool (decide (i<to)))] ?_
 by_cases c6:i<to
 ·have b7:(decide (i<to))=true:=zX c6
  refine bJ [(1,vi d),(3,vi to),(4,vi a),(10,.func (.func 92) #[] #[vp (pa b)]),(11,vi i),(17,.bool true)] (by rw[b7]) ?_
  refine T_nd 3 [17] [(20,.bool (a !=3))]<| zq<| S_bd 20 (b:=(a !=3)) (v:=((decide (i<to)) && (a !=3))) (by simp only[b7,BL]) ?_
  exact hk
 have b7:(decide (i<to))=false:=zQ c6
 refine bJ [(1,vi d),(3,vi to),(4,vi a),(10,.func (.func 92) #[] #[vp (pa b)]),(11,vi i),(17,.bool false)] (by rw[b7]) ?_
 refine T_nd 3 [17] [(20,.bool false)]<| zq<| S_bd 20 (b:=false) (v:=((decide (i<to)) && (a !=3))) (by simp only[b7,BL]) ?_
 exact hk
end bQ

/-! (*moraine/trace.Trace).round -/
namespace cW
def K0:=Func.code Tryz.f54
def K2:=cb K0
def K4:=cb K2
def K5:=ca K4
def K7:=ca K5
def K8:=cb K5
def K9:=ca K8
def K10:=ca K9
def K12:=cb K10
def K14:=cb K12
def K17:=ca K14
def K19:=ca K17
def K21:=cb K19
def K23:=cb K21
def K29:=cb K23
def K30:=ca K29
def K31:=ca K30
def K33:=cb K31
def K38:=ca K33
def K40:=ca K38
def K42:=cb K40
def K43:=ca K42
end cW
def cW.pt(tv:zW)(H:zV)(R:zk):Prop:=
 ∃d:Addr,tv=some d/\
 ∃x:zW,hat H d=some (.pointer x)/\
 ∃xA:Addr,x=some xA/\
 ∃b0:zW,hat H xA=some (.pointer b0)/\
 ∃an:Addr,b0=some an/\
 ∃bz:zW,hat H an=some (.pointer bz)/\
 ∃am:Addr,bz=some am/\
 ∃au:zW,hat H am=some (.pointer au)/\
 ∃bb:Int,hat H (d.add 1)=some (.int .i64 bb)/\
 ∀(b:Nat) (H1:zV),b=H.size->H1=H.push (.cells #[.int .i64 bb] 3)->aU H1 d 0 [.pointer (some xA)]/\aU H1 xA 0 [.pointer (some an)]/\aU H1 an 0 [.pointer (some am)]/\aU H1 am 0 [.pointer au]/\
 cS.C au (some (ad b)) 1 1 H1 (λv H2=> ∃(xB:zW) (xN xC:Nat),v=.slice xB xN xC/\
 ∃(bk:Bool->zv) (m11:Bool->Int->zV->Nat),bk false 0 H2/\ ∀(j:Bool) (s29:Int) (H3:zV),bk j s29 H3->
 if s29< (xN:Int)then(
 ∃g:Addr,xB=some g/\
 zw s29 xN/\
 ∃f:Int,hat H3 (g.add (Int.toNat s29*1))=some (.int .i64 f)/\
 zw f 1024/\
 ∃a5:Int,hat H3 ((d.add 2).add (Int.toNat f*1))=some (.int .i64 a5)/\
 if a5=1 then(
 (bk j (zY (s29+1)) H3/\m11 j (zY (s29+1)) H3<m11 j s29 H3))
 else
 ∃bq:zW,hat H3 d=some (.pointer bq)/\
 ∃bo:Addr,bq=some bo/\
 ∃bp:zW,hat H3 bo=some (.pointer bp)/\
 ∃br:Addr,bp=some br/\
 ∃bc:zW,hat H3 br=some (.pointer bc)/\
 ∃bd:Addr,bc=some bd/\
 ∃a2:zW,hat H3 bd=some (.pointer a2)/\
 bE.C a2 f H3 (λb2 H4=> ∃(ap ak a4 r aa u y:Int) (rb:Bool),b2=.tuple #[.agg #[.int .i64 ap,.int .i64 ak,.int .i64 a4,.int .i64 r,.int .i64 aa,.int .i64 u,.int .i64 y],.bool rb]/\
 ∀(a0:Nat) (H5:zV),a0=H4.size->H5=H4.push (.cells #[.int .i64 0,.int .i64 0,.int .i64 0,.int .i64 0,.int .i64 0,.int .i64 0,.int .i64 0] 96)->
 (aI H5 (ad a0) 0 7)/\ ∀H6,H6=aO H5 (ad a0) [.int .i64 ap,.int .i64 ak,.int .i64 a4,.int .i64 r,.int .i64 aa,.int .i64 u,.int .i64 y] 0->
 ∃(bs:Bool->zW->zV->Prop) (m32:Bool->zW->zV->Nat),bs j (some (ad a0)) H6/\ ∀(l:Bool) (s:zW) (H7:zV),bs l s H7->
 ∃a7:Option Nat,hat H7 (d.add 1027)=some (.map a7)/\
 ∃mr:Nat,a7=some mr/\
 ∃(es:Array MapEntry) (cl:Nat) (ks:List (Int×Value)),H7[mr]?=some (.map es cl)/\Ents (dg .i64) es.toList ks/\
 ∃al:Int,(mget ks f).getD (.int .i64 0)=.int .i64 al/\
 ∃sA:Addr,s=some sA/\
 ∃aq:Int,hat H7 (sA.add 2)=some (.int .i64 aq)/\
 if al<aq then(
 ∃a8:Option Nat,hat H7 (d.add 1027)=some (.map a8)/\
 ∃bl:Nat,a8=some bl/\
 ∃(bw:Array MapEntry) (cl_2:Nat) (ks_2:List (Int×Value)),H7[bl]?=some (.map bw cl_2)/\Ents (dg .i64) bw.toList ks_2/\
 ∃ac:Int,(mget ks_2 f).getD (.int .i64 0)=.int .i64 ac/\
 ∃aw:Option Nat,hat H7 (d.add 1027)=some (.map aw)/\
 ∃az:Int,hat H7 (sA.add 2)=some (.int .i64 az)/\
 ∃a9:Nat,aw=some a9/\
 ∃(bu:Array MapEntry) (cl_3:Nat) (ks_3:List (Int×Value)),H7[a9]?=some (.map bu cl_3)/\Ents (dg .i64) bu.toList ks_3/\
 ∀(bm:Array MapEntry) (cl_4:Nat) (H8:zV),H8=bC H7 a9 (.map bm cl_4)->Ents (dg .i64) bm.toList (mput ks_3 f (.int .i64 az))->
 ∃a1:Int,hat H8 (sA.add 2)=some (.int .i64 a1)/\
 ∃a6:Int,hat H8 (sA.add 1)=some (.int .i64 a6)/\
 bQ.C (some d) f ac a1 a6 H8 (λ_ H9=>
 ∃ax ao ay af ag ah ae:Int,aU H9 sA 0 [.int .i64 ax,.int .i64 ao,.int .i64 ay,.int .i64 af,.int .i64 ag,.int .i64 ah,.int .i64 ae]/\
 ∀(ab:Nat) (H10:zV),ab=H9.size->H10=H9.push (.cells #[.int .i64 0,.int .i64 0,.int .i64 0,.int .i64 0,.int .i64 0,.int .i64 0,.int .i64 0] 96)->
 (aI H10 (ad ab) 0 7)/\ ∀ba,ba=aO H10 (ad ab) [.int .i64 ax,.int .i64 ao,.int .i64 ay,.int .i64 af,.int .i64 ag,.int .i64 ah,.int .i64 ae] 0->
 ∃bi:zW,hat ba d=some (.pointer bi)/\
 ∃be:Addr,bi=some be/\
 ∃bg:zW,hat ba be=some (.pointer bg)/\
 ∃bh:Addr,bg=some bh/\
 ∃bj:zW,hat ba bh=some (.pointer bj)/\
 ∃bf:Addr,bj=some bf/\
 ∃a3:zW,hat ba bf=some (.pointer a3)/\
 bE.C a3 f ba (λb1 bx=> ∃(aj ai av q m o p:Int) (bt:Bool),b1=.tuple #[.agg #[.int .i64 aj,.int .i64 ai,.int .i64 av,.int .i64 q,.int .i64 m,.int .i64 o,.int .i64 p],.bool bt]/\
 (aI bx (ad ab) 0 7)/\ ∀bn,bn=aO bx (ad ab) [.int .i64 aj,.int .i64 ai,.int .i64 av,.int .i64 q,.int .i64 m,.int .i64 o,.int .i64 p] 0->
 (bs true (some (ad ab)) bn/\m32 true (some (ad ab)) bn<m32 l s H7))))
 else
 (bk l (zY (s29+1)) H7/\m11 l (zY (s29+1)) H7<m11 j s29 H3)))
 else
 R (.bool j) H3)
namespace cW
theorem link{tv:zW}{H:zV}{R:zk}(h:pt tv H R):C tv H R:=by
 refine T_en K0 109 Tryz.func54 ?_
 intro w0 Q hQ
 unfold pt zY at h
 refine T_su [(0,vp tv)]<| ar 0<| T_ed 1 [] []<| ar 1<| T_ed 1 [] [(3,.bool false)]<| T_sz<| T_sz ?_
 obtain⟨d,rfl,x,q1,xA,rfl,b0,q2,an,rfl,bz,q3,am,rfl,au,q4,bb,q5,h⟩:=h
 refine yY 2 (Code.ops K7) [(18,d,[vp (some xA)]),(18,xA,[vp (some an)]),(18,an,[vp (some am)]),(18,am,[vp au]),(17,(d.add 1),[vi bb])] 21 (bv 21 0) (show aG _ _ _ from⟨⟨q1,trivial⟩,⟨q2,trivial⟩,⟨q3,trivial⟩,⟨q4,trivial⟩,⟨q5,trivial⟩,trivial⟩)<| T_gp 0 (some 9) (vp (some d)) (bv 21 1) [(0,vp (some d)),(3,.bool false),(9,vp (some d))]<| aD 1 10 (vp (some d)) (bv 21 3) [9]<| aD 2 11 (vp (some d)) (bv 21 7) [10]<| T_g1 3 12 (vp (some xA)) (bv 21 15) [11] (aS 34 (vp (some d))) (yW 18 yZ)<| aD 4 13 (vp (some xA)) (bv 21 31) [12]<| aD 5 14 (vp (some xA)) (bv 21 63) [13]<| T_g1 6 15 (vp (some an)) (bv 21 127) [14] (aS 44 (vp (some xA))) (yW 18 yX)<| aD 7 16 (vp (some an)) (bv 21 255) [15]<| aD 8 17 (vp (some an)) (bv 21 511) [16]<| T_g1 9 18 (vp (some am)) (bv 21 1023) [17] (aS 81 (vp (some an))) (yW 18 yQ)<| aD 10 19 (vp (some am)) (bv 21 2047) [18]<| aD 11 20 (vp (some am)) (bv 21 4095) [19]<| T_g1 12 21 (vp au) (bv 21 8191) [20] (aS 84 (vp (some am))) (yW 18 yJ)<| aD 13 22 (vp (some d)) (bv 21 16383) []<| aD 14 23 (vp (some d)) (bv 21 32767) [22]<| aD 15 24 (vp (some (d.add 1))) (bv 21 65535) [23]<| T_g1 16 25 (vi bb) (bv 21 131071) [24] (aS 3 (vp (some (d.add 1)))) (yW 17 yK)<| aD 20 29 (vi 0) (bv 21 1179647) []<| nN 17 (some 26) (bv 21 1310719) (λb=>vs (pa b) 1 1) (.cells #[vi bb] 3) (by kernel_rfl) (λ_=>by kernel_rfl) (by kernel_rfl) ?_
 intro b H1 e10 e11
 replace h:=h b H1 e10 e11
 obtain⟨f6,f7,f8,f9,h⟩:=h
 refine⟨[(0,vp (some d)),(3,.bool false),(21,vp au),(26,vs (pa b) 1 1),(29,vi 0)],pk,(show aG _ _ _ from⟨f6,f7,f8,f9,trivial,trivial⟩),?_⟩
 refine yq 18 (some 27) (bv 21 1572863) 35 #[vp au,vs (pa b) 1 1] h ?_;clear h
 rintro v H2 ⟨xB,xN,xC,rfl,h⟩
 refine⟨[(0,vp (some d)),(3,.bool false),(27,vs xB xN xC),(29,vi 0)],pk,(show aG _ _ _ from⟨trivial,trivial,trivial,trivial,trivial,trivial⟩),?_⟩
 refine T_g 19 (some 28) (vi xN) (bv 21 2097151) [(0,vp (some d)),(3,.bool false),(27,vs xB xN xC),(28,vi xN),(29,vi 0)] (pure (.value (vi xN)):Sem Next) (λ_ _ _ _ _=>rfl)<| eR [(0,vp (some d)),(3,.bool false),(27,vs xB xN xC),(28,vi xN),(29,vi 0)] sk<| yx<| aC<| T_bz 0 ?_
 obtain⟨bk,m11,i12,i13⟩:=h
 refine bO (x:=K10) (σ:=Bool×Int) (λs_=> [(0,vp (some d)),(3,.bool s_.1),(27,vs xB xN xC),(28,vi xN),(29,vi s_.2)]) (λs_ H=>bk s_.1 s_.2 H) (λs_ H=>m11 s_.1 s_.2 H) ((false,0):Bool×Int) (by kernel_rfl) i12 sk ?_
 rintro⟨j,s29⟩ H3 i14
 have h:=i13 j s29 H3 i14
 refine T_su [(0,vp (some d)),(3,.bool j),(27,vs xB xN xC),(28,vi xN),(29,vi s29)]<| ar 3<| T_ed 1 [] [(30,.bool (decide (s29< (xN:Int))))]<| T_sz ?_
 by_cases c15:s29< (xN:Int)
 ·rw[if_pos c15]at h
  refine aF 30 (zX c15)<| T_kt<| T_sz<| T_bz 1<| ar 4<| T_ud [30] [] ?_
  obtain⟨g,rfl,q17,h⟩:=h
  refine T_xd (some 31) 79 3 1 g xN xC .i64 s29 Tryz.underlying79 q17.1 q17.2 [27] [(27,vs (some g) xN xC),(31,vp (some (g.add (Int.toNat s29*1))))] ?_
  obtain⟨f,q18,h⟩:=h
  refine T_l1 32 3 q18 [31]<| T_ed 1 [32] [(5,vi f)]<| T_sz<| ar 5<| T_nd 4 [] [(34,vi f),(36,vp (some (d.add 2)))] ?_
  obtain⟨q19,h⟩:=h
  refine T_v1 37 (aR 91 (vp (some (d.add 2))) (vi f)) (vp (some ((d.add 2).add (Int.toNat f*1)))) (λw _=>aN (P:=Tryz.prog) (t:=91) (elem:=3) (sz:=1) (n:=1024) (a:=(d.add 2)) (k:=.i64) (i:=f) Tryz.underlying91 (λ_=>by kernel_rfl) q19.1 q19.2 w) [34,36] ?_
  obtain⟨a5,q20,h⟩:=h
  refine T_l1 38 3 q20 [37]<| T_ed 1 [38] [(39,.bool (a5==1))] ?_
  by_cases c21:a5=1
  ·rw[if_pos c21]at h
   exact aF 39 (zK c21)<| zj 1<| aA<| aH<| aC<| T_rz 15<| T_ed 2 [5,29,39] [(29,vi (zY (s29+1)))]<| aK ((j,(zY (s29+1))):Bool×Int) sk h
  rw[if_neg c21]at h
  refine aE 39 (zJ c21)<| T_kt<| ar 6<| T_nd 3 [39] [(43,vp (some d))] ?_
  obtain⟨bq,q23,h⟩:=h
  refine T_l1 44 34 q23 [43] ?_
  obtain⟨bo,rfl,h⟩:=h
  refine T_nd 2 [44] [(46,vp (some bo))] ?_
  obtain⟨bp,q24,h⟩:=h
  refine T_l1 47 44 q24 [46] ?_
  obtain⟨br,rfl,h⟩:=h
  refine T_nd 2 [47] [(49,vp (some br))] ?_
  obtain⟨bc,q25,h⟩:=h
  refine T_l1 50 81 q25 [49] ?_
  obtain⟨bd,rfl,h⟩:=h
  refine T_nd 2 [50] [(52,vp (some bd))] ?_
  obtain⟨a2,q26,h⟩:=h
  refine T_l1 53 84 q26 [52]<| T_nd 1 [] [(54,vi f)]<| T_c (some 55) h ?_;clear h
  rintro b2 H4 ⟨ap,ak,a4,r,aa,u,y,rb,rfl,h⟩
  refine T_pd [53,54] [(55,.tuple #[.agg #[vi ap,vi ak,vi a4,vi r,vi aa,vi u,vi y],.bool rb])]<| T_nd 3 [55] [(56,.agg #[vi ap,vi ak,vi a4,vi r,vi aa,vi u,vi y]),(57,.bool rb)]<| T_nw (some 6) (λb=>vp (pa b)) (.cells #[vi 0,vi 0,vi 0,vi 0,vi 0,vi 0,vi 0] 96) ?_
  intro a0 H5 e27 e28
  replace h:=h a0 H5 e27 e28
  refine T_pd [] [(6,vp (pa a0))] ?_
  obtain⟨q30,h⟩:=h
  refine fH 96 [vi ap,vi ak,vi a4,vi r,vi aa,vi u,vi y] q30 ?_
  intro H6 e29
  replace h:=h H6 e29
  refine T_pd [56] []<| T_ed 1 [57] []<| T_bz 2 ?_
  obtain⟨bs,m32,i31,i32⟩:=h
  refine bO (x:=K31) (σ:=Bool×zW) (λs_=> [(0,vp (some d)),(3,.bool s_.1),(5,vi f),(6,vp s_.2),(27,vs (some g) xN xC),(28,vi xN),(29,vi s29)]) (λs_ H=>bs s_.1 s_.2 H) (λs_ H=>m32 s_.1 s_.2 H) ((j,(pa a0)):Bool×zW) (by kernel_rfl) i31 sk ?_
  rintro⟨l,s⟩ H7 i33
  have h:=i32 l s H7 i33
  refine T_su [(0,vp (some d)),(3,.bool l),(5,vi f),(6,vp s),(27,vs (some g) xN xC),(28,vi xN),(29,vi s29)]<| T_sz<| T_sz<| jm 7<| T_q1 58 (vp (some d)) []<| T_q1 59 (vp (some d)) [58]<| T_q1 60 (vp (some (d.add 1027))) [59] ?_
  obtain⟨a7,q34,h⟩:=h
  refine iQ (some 61) 90 q34 [60] [(61,.map a7)]<| T_q (some 62) (vi f) [(0,vp (some d)),(3,.bool l),(5,vi f),(6,vp s),(27,vs (some g) xN xC),(28,vi xN),(29,vi s29),(61,.map a7),(62,vi f)] ?_
  obtain⟨mr,rfl,es,cl,ks,q35,q36,al,e67,h⟩:=h
  refine Q_op (some 63) (j4 90 (.map (some mr)) (vi f) false) (vi al) (λ_=>by kernel_rfl) (λw hw=>(jL (kk:=(dg .i64)) (z:=vi 0) Tryz.underlying90 Tryz.underlying3 (λ_=>by kernel_rfl) (by rw[hw];exact q35) q36 false).trans (by simp only[if_true,Bool.false_eq_true,if_false,e67])) [(0,vp (some d)),(3,.bool l),(5,vi f),(6,vp s),(27,vs (some g) xN xC),(28,vi xN),(29,vi s29),(63,vi al)] pk ?_
  obtain⟨sA,rfl,h⟩:=h
  refine T_q (some 64) (vp (some (sA.add 2))) [(0,vp (some d)),(3,.bool l),(5,vi f),(6,vp (some sA)),(27,vs (some g) xN xC),(28,vi xN),(29,vi s29),(63,vi al),(64,vp (some (sA.add 2)))] ?_
  obtain⟨aq,q38,h⟩:=h
  refine iQ (some 65) 3 q38 [64] [(65,vi aq)]<| T_q1 66 (.bool (decide (al<aq))) [63,65]<| eV [(0,vp (some d)),(3,.bool l),(5,vi f),(6,vp (some sA)),(27,vs (some g) xN xC),(28,vi xN),(29,vi s29),(66,.bool (decide (al<aq)))] sk<| T_qe ?_
  by_cases c39:al<aq
  ·rw[if_pos c39]at h
   refine aF 66 (zX c39)<| T_kt<| T_sz<| T_bz 3<| ar 9<| T_n 3 [(0,vp (some d)),(5,vi f),(6,vp (some sA)),(27,vs (some g) xN xC),(28,vi xN),(29,vi s29),(87,vp (some (d.add 1027)))] ?_
   obtain⟨a8,q41,h⟩:=h
   refine T_l1 88 90 q41 [87]<| T_nd 1 [] [(89,vi f)] ?_
   obtain⟨bl,rfl,bw,cl_2,ks_2,q42,q43,ac,e65,h⟩:=h
   refine T_v1 90 (j4 90 (.map (some bl)) (vi f) false) (vi ac) (λw hw=>(jL (kk:=(dg .i64)) (z:=vi 0) Tryz.underlying90 Tryz.underlying3 (λ_=>by kernel_rfl) (by rw[hw];exact q42) q43 false).trans (by simp only[if_true,Bool.false_eq_true,if_false,e65])) [88,89]<| T_ed 1 [90] [(8,vi ac)]<| T_sz ?_
   obtain⟨aw,q45,az,q46,h⟩:=h
   refine yY 10 (Code.ops K43) [(7,(d.add 1027),[.map aw]),(7,(sA.add 2),[vi az])] 8 (bv 8 0) (show aG _ _ _ from⟨⟨q45,trivial⟩,⟨q46,trivial⟩,trivial⟩)<| T_gp 0 (some 91) (vp (some d)) (bv 8 1) [(0,vp (some d)),(5,vi f),(6,vp (some sA)),(8,vi ac),(27,vs (some g) xN xC),(28,vi xN),(29,vi s29),(91,vp (some d))]<| aD 1 92 (vp (some d)) (bv 8 3) [91]<| aD 2 93 (vp (some (d.add 1027))) (bv 8 7) [92]<| T_g1 3 94 (.map aw) (bv 8 15) [93] (aS 90 (vp (some (d.add 1027)))) (yW 7 yZ)<| aD 4 95 (vi f) (bv 8 31) []<| aD 5 96 (vp (some (sA.add 2))) (bv 8 63) []<| T_g1 6 97 (vi az) (bv 8 127) [96] (aS 3 (vp (some (sA.add 2)))) (yW 7 yX) ?_
   obtain⟨a9,rfl,bu,cl_3,ks_3,q47,q48,h⟩:=h
   refine fg 7 none (bv 8 255) (lg 90 (.map (some a9)) (vi f) (vi az)) (λHz=> ∃es2 cl2,Hz=bC H7 a9 (.map es2 cl2)/\Ents (dg .i64) es2.toList (mput ks_3 f (vi az))) (by kernel_rfl) (λ_=>by kernel_rfl) (λw hw=>by obtain⟨es2,cl2,q1,q2⟩:=oD (kk:=(dg .i64)) (P:=Tryz.prog) (w:=w) (k:=f) (v:=vi az) Tryz.underlying90 Tryz.underlying3 (by rw[hw];exact q47) q48;exact⟨_,q1,⟨rfl,rfl,rfl,Nat.le_refl _⟩,es2,cl2,by rw[<-hw],q2⟩) (by kernel_rfl) ?_
   rintro H8 ⟨bm,cl_4,e50,e51⟩
   replace h:=h bm cl_4 H8 e50 e51
   refine⟨[(0,vp (some d)),(5,vi f),(6,vp (some sA)),(8,vi ac),(27,vs (some g) xN xC),(28,vi xN),(29,vi s29)],pk,(show aG _ _ _ from⟨trivial,trivial,trivial⟩),?_⟩
   refine eR [(0,vp (some d)),(5,vi f),(6,vp (some sA)),(8,vi ac),(27,vs (some g) xN xC),(28,vi xN),(29,vi s29)] sk ?_
   refine yx<| aC<| ar 11<| T_n 4 [(0,vp (some d)),(5,vi f),(6,vp (some sA)),(27,vs (some g) xN xC),(28,vi xN),(29,vi s29),(98,vp (some d)),(99,vi f),(100,vi ac),(101,vp (some (sA.add 2)))] ?_
   obtain⟨a1,q52,h⟩:=h
   refine T_l1 102 3 q52 [101]<| T_nd 1 [] [(103,vp (some (sA.add 1)))] ?_
   obtain⟨a6,q53,h⟩:=h
   refine T_l1 104 3 q53 [103]<| T_c (some 105) h ?_;clear h
   intro v_3 H9 h
   refine T_pd [98,99,100,102,104] []<| T_e<| T_rz 12<| T_nd 1 [] [(3,.bool true)]<| zq<| aB<| aC<| T_sz<| ar 13 ?_
   obtain⟨ax,ao,ay,af,ag,ah,ae,q54,h⟩:=h
   refine T_lr 106 96 q54 [6]<| T_e<| T_rz 14<| T_nw (some 6) (λb=>vp (pa b)) (.cells #[vi 0,vi 0,vi 0,vi 0,vi 0,vi 0,vi 0] 96) ?_
   intro ab H10 e55 e56
   replace h:=h ab H10 e55 e56
   refine T_pd [] [(6,vp (pa ab))] ?_
   obtain⟨q58,h⟩:=h
   refine fH 96 [vi ax,vi ao,vi ay,vi af,vi ag,vi ah,vi ae] q58 ?_
   intro ba e57
   replace h:=h ba e57
   refine T_pd [106] []<| T_e<| T_rz 8<| T_nd 3 [] [(70,vp (some d))] ?_
   obtain⟨bi,q59,h⟩:=h
   refine T_l1 71 34 q59 [70] ?_
   obtain⟨be,rfl,h⟩:=h
   refine T_nd 2 [71] [(73,vp (some be))] ?_
   obtain⟨bg,q60,h⟩:=h
   refine T_l1 74 44 q60 [73] ?_
   obtain⟨bh,rfl,h⟩:=h
   refine T_nd 2 [74] [(76,vp (some bh))] ?_
   obtain⟨bj,q61,h⟩:=h
   refine T_l1 77 81 q61 [76] ?_
   obtain⟨bf,rfl,h⟩:=h
   refine T_nd 2 [77] [(79,vp (some bf))] ?_
   obtain⟨a3,q62,h⟩:=h
   refine T_l1 80 84 q62 [79]<| T_nd 1 [] [(81,vi f)]<| T_c (some 82) h ?_;clear h
   rintro b1 bx ⟨aj,ai,av,q,m,o,p,bt,rfl,h⟩
   refine T_pd [80,81] [(82,.tuple #[.agg #[vi aj,vi ai,vi av,vi q,vi m,vi o,vi p],.bool bt])]<| T_nd 3 [82] [(83,.agg #[vi aj,vi ai,vi av,vi q,vi m,vi o,vi p])] ?_
   obtain⟨q64,h⟩:=h
   refine fH 96 [vi aj,vi ai,vi av,vi q,vi m,vi o,vi p] q64 ?_
   intro bn e63
   replace h:=h bn e63
   exact T_pd [83] []<| T_e<| aK ((true,(pa ab)):Bool×zW) sk h
  rw[if_neg c39]at h
  exact aE 66 (zQ c39)<| zj 2<| aA<| aA<| aH<| aB<| aC<| T_rz 15<| T_ne 2 [(0,vp (some d)),(3,.bool l),(27,vs (some g) xN xC),(28,vi xN),(29,vi (zY (s29+1)))]<| aK ((l,(zY (s29+1))):Bool×Int) sk h
 rw[if_neg c15]at h
 exact aE 30 (zQ c15)<| zj 0<| aA<| aA<| aH<| aC<| ar 16<| T_nr 2 [2] [.bool j] hQ h
end cW

/-! (*moraine/trace.Trace).Reached -/
namespace bG
def K0:=Func.code Tryz.f57
end bG
def bG.pt(tv:zW)(wv:Int)(H:zV)(R:zk):Prop:=
 cO.C tv wv H (λv H1=> ∃x:Bool,v=.bool x/\
 if x=true then(
 cx.C tv wv H1 (λa H2=> ∃(ra:Int) (rb:Bool),a=.tuple #[.int .u64 ra,.bool rb]/\
 R (.bool rb) H2))
 else
 R (.bool true) H1)
namespace bG
theorem link{tv:zW}{wv:Int}{H:zV}{R:zk}(h:pt tv wv H R):C tv wv H R:=by
 refine T_en K0 18 Tryz.func57 ?_
 intro w0 Q hQ
 unfold pt at h
 refine T_su [(0,vp tv),(1,vu wv)]<| ar 0<| T_ed 1 [] []<| T_sz<| ar 1<| T_nd 2 [] [(7,vp tv),(8,vu wv)]<| T_c (some 9) h ?_;clear h
 rintro v H1 ⟨x,rfl,h⟩
 refine T_pd [7,8] [(9,.bool x)]<| T_ed 1 [9] [(10,.bool (!x))] ?_
 by_cases c1:x=true
 ·rw[if_pos c1]at h
  refine aE 10 (congrArg Bool.not (c1))<| T_kt<| ar 3<| T_n 2 [(12,vp tv),(13,vu wv)]<| T_c (some 14) h ?_;clear h
  rintro a H2 ⟨ra,rb,rfl,h⟩
  refine⟨[(14,.tuple #[vu ra,.bool rb])],pk,?_⟩
  exact T_ne 5 [(6,.bool rb)]<| ar 4<| T_nr 2 [4] [.bool rb] hQ h
 rw[if_neg c1]at h
 exact aF 10 (congrArg Bool.not (zZ c1))<| ar 2<| T_nr 1 [4] [.bool true] hQ h
end bG

