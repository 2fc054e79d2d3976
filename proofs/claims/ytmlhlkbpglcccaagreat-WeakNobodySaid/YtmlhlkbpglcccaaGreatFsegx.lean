/- Printed: what each function asks, and that it is sound. -/
import Derived.Test.YtmlhlkbpglcccaaGreatFnsC
set_option linter.unusedSimpArgs false
set_option linter.unusedVariables false
set_option maxRecDepth 100000
set_option maxHeartbeats 1000000
noncomputable section
namespace Go.Proofs.YtmlhlkbpglcccaaGreat
open Go
/-! (*moraine/seg.Mem).Taken -/
namespace cz
def K0:=Func.code Tryz.f41
def K2:=cb K0
def K4:=cb K2
def K12:=cb K4
def K13:=ca K12
def K16:=cb K13
def K17:=ca K16
def K18:=ca K17
end cz
def cz.pt(m f:zW)(d e:Nat)(H:zV)(R:zj):Prop:=
 ∀(b:Nat) (H1:zV),b=H.size->H1=H.push (.cells #[.pointer m] 82)->
 ∃x:zW,hat H1 (ad b)=some (.pointer x)/\
 ei x (
 R (.slice none 0 0) H1) (λxA=>
 ∃ab:zW,hat H1 (ad b)=some (.pointer ab)/\
 ∃af:Addr,ab=some af/\
 ∃(xB:zW) (xN xC:Nat),hat H1 af=some (.slice xB xN xC)/\
 ∃(s:zW->Nat->Nat->zk) (m19:zW->Nat->Nat->Int->zV->Nat),s none 0 0 0 H1/\ ∀(lB:zW) (lN:Nat) (lC:Nat) (s15:Int) (H2:zV),s lB lN lC s15 H2->
 if s15< (xN:Int)then(
 ∃ac:zW,hat H2 (ad b)=some (.pointer ac)/\
 ∃ae:Addr,ac=some ae/\
 ∃(q:zW) (l o:Nat),hat H2 ae=some (.slice q l o)/\
 ∃g:Addr,q=some g/\
 zv s15 l/\
 ∃p:Int,hat H2 ((g.add (Int.toNat s15*72)).add 7)=some (.int .i64 p)/\
 if p>0 then(
 if(d:Int)=0 then(
 ∀(z:Nat) (H3:zV),z=H2.size->H3=H2.push (.cells #[.int .i64 s15] 3)->
 fc 1 3 8 [.int .i64 0] lB lN lC (some (ad z)) 1 H3 (λap u H4=>
 (s ap (lN+1) u (zY (s15+1)) H4/\m19 ap (lN+1) u (zY (s15+1)) H4<m19 lB lN lC s15 H2)))
 else
 ∃aa:Int,hat H2 (g.add (Int.toNat s15*72))=some (.int .i64 aa)/\
 bG.C f d e aa H2 (λv H5=> ∃r:Bool,v=.bool r/\
 if r=true then(
 ∀(y:Nat) (H6:zV),y=H5.size->H6=H5.push (.cells #[.int .i64 s15] 3)->
 fc 1 3 8 [.int .i64 0] lB lN lC (some (ad y)) 1 H6 (λn j H7=>
 (s n (lN+1) j (zY (s15+1)) H7/\m19 n (lN+1) j (zY (s15+1)) H7<m19 lB lN lC s15 H2)))
 else
 (s lB lN lC (zY (s15+1)) H5/\m19 lB lN lC (zY (s15+1)) H5<m19 lB lN lC s15 H2)))
 else
 (s lB lN lC (zY (s15+1)) H2/\m19 lB lN lC (zY (s15+1)) H2<m19 lB lN lC s15 H2))
 else
 slices_SortFunc_int_int.C lB lN lC (.func (.func 78) #[] #[.pointer (some (ad b))]) H2 (λ_ H8=>
 R (.slice lB lN lC) H8))
namespace cz
theorem link{m f:zW}{d e:Nat}{H:zV}{R:zj}(h:pt m f d e H R):C m f d e H R:=by
 refine T_en K0 52 Tryz.func41 ?_
 intro w0 Q hQ
 unfold pt zY at h
 refine T_su [(0,vp m),(1,vs f d e)]<| ar 0<| T_nw (some 2) (λb=>vp (pa b)) (.cells #[vp m] 82) ?_
 intro b H1 e1 e2
 replace h:=h b H1 e1 e2
 refine T_pd [0] [(2,vp (pa b))]<| T_ed 1 [] []<| T_sz<| ar 1 ?_
 obtain⟨x,q3,h⟩:=h
 refine T_l1 8 82 q3 [] ?_
 rcases x with _ | xA
 ·rw[onPtr_none]at h
  exact T_ed 1 [8] [(9,.bool true)]<| T_tz 9<| ar 2<| T_nr 1 [4] [vs none 0 0] hQ h
 rw[onPtr_some]at h
 refine T_ed 1 [8] [(9,.bool false)]<| T_fz 9<| T_kt<| ar 3<| T_ed 1 [9] [(5,vs none 0 0)]<| T_sz<| ar 4 ?_
 obtain⟨ab,q4,h⟩:=h
 refine T_l1 10 82 q4 [] ?_
 obtain⟨af,rfl,h⟩:=h
 refine T_nd 2 [10] [(12,vp (some af))] ?_
 obtain⟨xB,xN,xC,q5,h⟩:=h
 refine T_l1 13 138 q5 [12]<| T_ed 2 [13] [(14,vi xN),(15,vi 0)]<| T_bz 0 ?_
 obtain⟨s,m19,i6,i7⟩:=h
 refine de (x:=K18) (σ:=zW×Nat×Nat×Int) (λs_=> [(1,vs f d e),(2,vp (pa b)),(5,vs s_.1 s_.2.1 s_.2.2.1),(14,vi xN),(15,vi s_.2.2.2)]) (λs_ H=>s s_.1 s_.2.1 s_.2.2.1 s_.2.2.2 H) (λs_ H=>m19 s_.1 s_.2.1 s_.2.2.1 s_.2.2.2 H) ((none,0,0,0):zW×Nat×Nat×Int) (by kernel_rfl) i6 sk ?_
 rintro⟨lB,lN,lC,s15⟩ H2 i8
 have h:=i7 lB lN lC s15 H2 i8
 refine T_su [(1,vs f d e),(2,vp (pa b)),(5,vs lB lN lC),(14,vi xN),(15,vi s15)]<| ar 5<| T_ed 1 [] [(16,.bool (decide (s15< (xN:Int))))]<| T_sz ?_
 by_cases c9:s15< (xN:Int)
 ·rw[if_pos c9]at h
  refine aI 16 (zX c9)<| T_kt<| T_sz<| T_bz 1<| ar 6<| T_ed 2 [16] [(6,vi s15)]<| ar 7 ?_
  obtain⟨ac,q11,h⟩:=h
  refine T_l1 18 82 q11 [] ?_
  obtain⟨ae,rfl,h⟩:=h
  refine T_nd 2 [18] [(20,vp (some ae))] ?_
  obtain⟨q,l,o,q12,h⟩:=h
  refine T_l1 21 138 q12 [20]<| T_nd 1 [] [(22,vi s15)] ?_
  obtain⟨g,rfl,q13,h⟩:=h
  refine T_xd (some 23) 138 144 72 g l o .i64 s15 Tryz.underlying138 q13.1 q13.2 [21,22] [(23,vp (some (g.add (Int.toNat s15*72))))]<| T_ed 1 [23] [(7,vp (some (g.add (Int.toNat s15*72))))]<| ar 8<| T_nd 3 [] [(26,vp (some ((g.add (Int.toNat s15*72)).add 7)))] ?_
  obtain⟨p,q14,h⟩:=h
  refine T_l1 27 3 q14 [26]<| T_nd 2 [27] [(29,.bool (decide (p>0)))] ?_
  by_cases c15:p>0
  ·rw[if_pos c15]at h
   refine N_bd 29 (zX c15)<| T_nd 4 [] [(33,.bool ((d:Int)==0))] ?_
   by_cases c17:(d:Int)=0
   ·rw[if_pos c17]at h
    refine N_bd 33 (zK c17)<| T_ed 9 [7,29,33] [(42,.bool true)]<| T_tz 42<| T_rz 9<| T_nd 2 [5,6,42] [(43,vs lB lN lC),(44,vi s15)]<| T_nw (some 45) (λb=>vs (pa b) 1 1) (.cells #[vi s15] 3) ?_
    intro z H3 e19 e20
    replace h:=h z H3 e19 e20
    refine T_pd [44] [(45,vs (pa z) 1 1)]<| N_op (some 46) (eS #[79,79] 79 #[vs lB lN lC,vs (pa z) 1 1]) _ (λ_=>by kernel_rfl) (eQ (T:=3) (sz:=1) (bytes:=8) (zero:=(vi 0:Value)) Tryz.underlying79 Tryz.underlying79 rfl (show Tryz.prog.info? 3=some Tryz.t3 from by kernel_rfl) (by kernel_rfl) (by kernel_rfl) (by decide) (by kernel_rfl) (by first | exact h | (simpa only[Value.cells,List.toList_toArray]using h))) ?_;clear h
    rintro _ H4 ⟨ap,u,rfl,h⟩
    exact T_pd [43,45] [(46,vs ap (lN+1) u)]<| T_nd 1 [46] [(5,vs ap (lN+1) u)]<| zq<| aD<| aE<| T_rz 10<| T_ed 2 [15] [(15,vi (zY (s15+1)))]<| aW ((ap,(lN+1),u,(zY (s15+1))):zW×Nat×Nat×Int) sk h
   rw[if_neg c17]at h
   refine N_bd 33 (zJ c17)<| T_nd 5 [7] [(34,vs f d e),(38,vp (some (g.add (Int.toNat s15*72))))] ?_
   obtain⟨aa,q21,h⟩:=h
   refine T_l1 39 3 q21 [38]<| T_c (some 40) h ?_;clear h
   rintro v H5 ⟨r,rfl,h⟩
   refine T_pd [34,39] [(40,.bool r)]<| T_ed 2 [29,33,40] [(42,.bool r)] ?_
   by_cases c22:r=true
   ·rw[if_pos c22]at h
    refine aI 42 c22<| T_rz 9<| T_nd 2 [5,6,42] [(43,vs lB lN lC),(44,vi s15)]<| T_nw (some 45) (λb=>vs (pa b) 1 1) (.cells #[vi s15] 3) ?_
    intro y H6 e24 e25
    replace h:=h y H6 e24 e25
    refine T_pd [44] [(45,vs (pa y) 1 1)]<| N_op (some 46) (eS #[79,79] 79 #[vs lB lN lC,vs (pa y) 1 1]) _ (λ_=>by kernel_rfl) (eQ (T:=3) (sz:=1) (bytes:=8) (zero:=(vi 0:Value)) Tryz.underlying79 Tryz.underlying79 rfl (show Tryz.prog.info? 3=some Tryz.t3 from by kernel_rfl) (by kernel_rfl) (by kernel_rfl) (by decide) (by kernel_rfl) (by first | exact h | (simpa only[Value.cells,List.toList_toArray]using h))) ?_;clear h
    rintro _ H7 ⟨n,j,rfl,h⟩
    exact T_pd [43,45] [(46,vs n (lN+1) j)]<| T_nd 1 [46] [(5,vs n (lN+1) j)]<| zq<| aD<| aE<| T_rz 10<| T_ed 2 [15] [(15,vi (zY (s15+1)))]<| aW ((n,(lN+1),j,(zY (s15+1))):zW×Nat×Nat×Int) sk h
   rw[if_neg c22]at h
   exact aJ 42 (zZ c22)<| T_k<| aD<| aE<| T_rz 10<| T_ed 2 [6,15,42] [(15,vi (zY (s15+1)))]<| aW ((lB,lN,lC,(zY (s15+1))):zW×Nat×Nat×Int) sk h
  rw[if_neg c15]at h
  refine N_bd 29 (zQ c15)<| T_ed 13 [7,29] [(42,.bool false)]<| T_fz 42<| T_k ?_
  exact aD<| aE<| T_rz 10<| T_ed 2 [6,15,42] [(15,vi (zY (s15+1)))]<| aW ((lB,lN,lC,(zY (s15+1))):zW×Nat×Nat×Int) sk h
 rw[if_neg c9]at h
 refine aJ 16 (zQ c9)<| zz 0<| aA<| aA<| aO<| aE<| ar 11<| T_n 2 [(5,vs lB lN lC),(48,vs lB lN lC),(49,.func (.func 78) #[] #[vp (pa b)])]<| T_c (some 50) h ?_;clear h
 intro v_2 H8 h
 exact T_pd [48,49] []<| T_e<| ar 12<| T_nr 2 [4] [vs lB lN lC] hQ h
end cz

/-! (*moraine/seg.Mem).Free -/
namespace dY
def K0:=Func.code Tryz.f42
end dY
def dY.pt(m:zW)(H:zV)(R:zj):Prop:=
 ei m (
 R (.int .i64 0) H) (λmA=>
 ∃x:Int,hat H (mA.add 2)=some (.int .i64 x)/\
 R (.int .i64 x) H)
namespace dY
theorem link{m:zW}{H:zV}{R:zj}(h:pt m H R):C m H R:=by
 refine T_en K0 9 Tryz.func42 ?_
 intro w0 Q hQ
 unfold pt at h
 refine T_su [(0,vp m)]<| ar 0<| T_ed 1 [] []<| T_sz<| ar 1<| T_nd 1 [] [(3,vp m)] ?_
 rcases m with _ | mA
 ·rw[onPtr_none]at h
  exact T_ne 1 [(0,vp none),(4,.bool true)]<| T_tz 4<| ar 2<| T_nr 1 [2] [vi 0] hQ h
 rw[onPtr_some]at h
 refine T_ne 1 [(0,vp (some mA)),(4,.bool false)]<| T_fz 4<| T_kt<| ar 3<| T_n 3 [(7,vp (some (mA.add 2)))] ?_
 obtain⟨x,q1,h⟩:=h
 exact T_l1 8 3 q1 [7]<| T_nr 1 [2] [vi x] hQ h
end dY

/-! (*moraine/seg.Mem).Taken.1 -/
namespace dX
def K0:=Func.code Tryz.f78
def K2:=cb K0
def K3:=ca K2
end dX
def dX.pt(a b:Int)(o:zW)(H:zV)(R:zj):Prop:=
 ∃d:Addr,o=some d/\
 ∃x:zW,hat H d=some (.pointer x)/\
 ∃xA:Addr,x=some xA/\
 ∃(xB:zW) (xN xC:Nat),hat H xA=some (.slice xB xN xC)/\
 ∃f:Addr,xB=some f/\
 zv a xN/\
 ∃g:Int,hat H ((f.add (Int.toNat a*72)).add 7)=some (.int .i64 g)/\
 ∃r:zW,hat H d=some (.pointer r)/\
 ∃j:Addr,r=some j/\
 ∃(q:zW) (l m:Nat),hat H j=some (.slice q l m)/\
 ∃e:Addr,q=some e/\
 zv b l/\
 ∃p:Int,hat H ((e.add (Int.toNat b*72)).add 7)=some (.int .i64 p)/\
 cmp_Compare_int.C g p H (λv H1=> ∃n:Int,v=.int .i64 n/\
 R (.int .i64 n) H1)
namespace dX
theorem link{a b:Int}{o:zW}{H:zV}{R:zj}(h:pt a b o H R):C a b o H R:=by
 refine T_en K0 23 Tryz.func78 ?_
 intro w0 Q hQ
 unfold pt at h
 refine T_su [(0,vi a),(1,vi b),(2,vp o)]<| ar 0<| T_ed 1 [] []<| T_sz ?_
 obtain⟨d,rfl,x,q1,xA,rfl,xB,xN,xC,q2,f,rfl,q3,g,q4,r,q5,j,rfl,q,l,m,q6,e,rfl,q7,p,q8,h⟩:=h
 refine yW 1 (Code.ops K3) [(16,d,[vp (some xA)]),(16,xA,[vs (some f) xN xC]),(16,((f.add (Int.toNat a*72)).add 7),[vi g]),(16,d,[vp (some j)]),(16,j,[vs (some e) l m]),(16,((e.add (Int.toNat b*72)).add 7),[vi p])] 18 (bv 18 0) (show aG _ _ _ from⟨⟨q1,trivial⟩,⟨q2,trivial⟩,⟨q4,trivial⟩,⟨q5,trivial⟩,⟨q6,trivial⟩,⟨q8,trivial⟩,trivial⟩)<| T_g 0 (some 6) (vp (some xA)) (bv 18 1) [(0,vi a),(1,vi b),(2,vp (some d)),(6,vp (some xA))] (aP 82 (vp (some d))) (yV 16 zw)<| aF 1 7 (vp (some xA)) (bv 18 3) [6]<| aF 2 8 (vp (some xA)) (bv 18 7) [7]<| T_g1 3 9 (vs (some f) xN xC) (bv 18 15) [8] (aP 138 (vp (some xA))) (yV 16 yZ)<| aF 4 10 (vi a) (bv 18 31) [0]<| T_g1 5 11 (vp (some (f.add (Int.toNat a*72)))) (bv 18 63) [9,10] (aX 138 (vs (some f) xN xC) (vi a)) (λ_ w _ _ _=>cW (P:=Tryz.prog) (t:=138) (elem:=144) (sz:=72) (a:=f) (len:=xN) (cap:=xC) (k:=.i64) (i:=a) Tryz.underlying138 (λ_=>by kernel_rfl) q3.1 q3.2 w)<| aF 6 12 (vp (some ((f.add (Int.toNat a*72)).add 7))) (bv 18 127) [11]<| T_g1 7 13 (vi g) (bv 18 255) [12] (aP 3 (vp (some ((f.add (Int.toNat a*72)).add 7)))) (yV 16 yX)<| T_g1 8 14 (vp (some j)) (bv 18 511) [2] (aP 82 (vp (some d))) (yV 16 yQ)<| aF 9 15 (vp (some j)) (bv 18 1023) [14]<| aF 10 16 (vp (some j)) (bv 18 2047) [15]<| T_g1 11 17 (vs (some e) l m) (bv 18 4095) [16] (aP 138 (vp (some j))) (yV 16 yJ)<| aF 12 18 (vi b) (bv 18 8191) [1]<| T_g1 13 19 (vp (some (e.add (Int.toNat b*72)))) (bv 18 16383) [17,18] (aX 138 (vs (some e) l m) (vi b)) (λ_ w _ _ _=>cW (P:=Tryz.prog) (t:=138) (elem:=144) (sz:=72) (a:=e) (len:=l) (cap:=m) (k:=.i64) (i:=b) Tryz.underlying138 (λ_=>by kernel_rfl) q7.1 q7.2 w)<| aF 14 20 (vp (some ((e.add (Int.toNat b*72)).add 7))) (bv 18 32767) [19]<| T_g1 15 21 (vi p) (bv 18 65535) [20] (aP 3 (vp (some ((e.add (Int.toNat b*72)).add 7)))) (yV 16 yK)<| yY 16 (some 22) (bv 18 131071) 79 #[vi g,vi p] h ?_;clear h
 rintro v H1 ⟨n,rfl,h⟩
 refine⟨[(22,vi n)],pk,(show aG _ _ _ from⟨trivial,trivial,trivial,trivial,trivial,trivial,trivial⟩),?_⟩
 exact T_g 17 (some 5) (vi n) (bv 18 262143) [(5,vi n)] (pure (.value (vi n)):Sem Next) (λ_ _ _ _ _=>rfl)<| eV [(5,vi n)] sk<| yq<| aE<| eW [5] [vi n] hQ h
end dX

/-! (*moraine/seg.Mem).Give -/
namespace dt
def K0:=Func.code Tryz.f94
end dt
def dt.pt(m:zW)(d:Int)(H:zV)(R:zj):Prop:=
 dy.C m d H (λv H1=> ∃x:zW,v=.pointer x/\
 ei x (
 R (.int .i64 19) H1) (λxA=>
 (aK H1 xA 0 72)/\ ∀H2,H2=aS H1 xA (List.replicate 8 (.int .i64 0)++List.replicate 64 (.int .u64 0):List Value) 0->
 ∃mA:Addr,m=some mA/\
 ∃b:Int,hat H2 (mA.add 2)=some (.int .i64 b)/\
 (aK H2 (mA.add 2) 0 1)/\ ∀H3,H3=aS H2 (mA.add 2) [.int .i64 (zY (b+1))] 0->
 R (.int .i64 0) H3))
namespace dt
theorem link{m:zW}{d:Int}{H:zV}{R:zj}(h:pt m d H R):C m d H R:=by
 refine T_en K0 21 Tryz.func94 ?_
 intro w0 Q hQ
 unfold pt zY at h
 refine T_su [(0,vp m),(1,vi d)]<| ar 0<| T_ed 1 [] []<| ar 1<| T_nd 2 [1] [(6,vp m),(7,vi d)]<| T_c (some 8) h ?_;clear h
 rintro v H1 ⟨x,rfl,h⟩
 refine T_pd [6,7] [(8,vp x)]<| T_ed 1 [8] [(5,vp x)]<| T_sz<| ar 2<| T_nd 1 [] [(9,vp x)] ?_
 rcases x with _ | xA
 ·rw[onPtr_none]at h
  exact T_ed 1 [5,9] [(5,vp none),(10,.bool true)]<| T_tz 10<| ar 3<| T_nr 1 [4] [vi 19] hQ h
 rw[onPtr_some]at h
 refine T_ed 1 [5,9] [(5,vp (some xA)),(10,.bool false)]<| T_fz 10<| T_kt<| ar 4<| T_nd 3 [5,10] [(12,.agg (List.replicate 8 (vi 0)++List.replicate 64 (vu 0):List Value).toArray),(13,vp (some xA))] ?_
 obtain⟨q2,h⟩:=h
 refine jv none (gd 144 (vp (some xA)) (.agg (List.replicate 8 (vi 0)++List.replicate 64 (vu 0):List Value).toArray)) (λHz=>Hz=aS H1 xA (List.replicate 8 (vi 0)++List.replicate 64 (vu 0):List Value) 0) (λ_=>by kernel_rfl) (by intro w hw;obtain⟨w1,g1,g2,g3⟩:=gf (P:=Tryz.prog) (H:=H1) (t:=144) (a:=xA) (v:=(.agg (List.replicate 8 (vi 0)++List.replicate 64 (vu 0):List Value).toArray)) (List.replicate 8 (vi 0)++List.replicate 64 (vu 0):List Value) 72 (by kernel_rfl) (by kernel_rfl) (λ_=>by kernel_rfl) (by kernel_rfl) q2 w hw;exact⟨w1,g1,g2,g3⟩) ?_
 intro H2 e1
 replace h:=h H2 e1
 refine⟨[(0,vp m)],pk,?_⟩
 refine T_e<| ar 5<| T_n 1 [(14,vp m)] ?_
 obtain⟨mA,rfl,h⟩:=h
 refine T_n 2 [(14,vp (some mA)),(16,vp (some (mA.add 2)))] ?_
 obtain⟨b,q3,h⟩:=h
 refine T_l1 17 3 q3 [16]<| T_n 3 [(18,vi (zY (b+1))),(20,vp (some (mA.add 2)))] ?_
 obtain⟨q5,h⟩:=h
 refine fE 3 (vi (zY (b+1))) q5 ?_
 intro H3 e4
 replace h:=h H3 e4
 refine⟨[],pk,?_⟩
 exact T_e<| ar 6<| T_nr 1 [4] [vi 0] hQ h
end dt

