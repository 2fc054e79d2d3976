/- Printed: what each function asks, and that it is sound. -/
import Derived.Test.YtmlhlkbpglcccaaGreatFnsC
set_option linter.unusedSimpArgs false
set_option linter.unusedVariables false
set_option maxRecDepth 100000
set_option maxHeartbeats 1000000
noncomputable section
namespace Go.Proofs.YtmlhlkbpglcccaaGreat
open Go
/-! (*moraine/trace.Trace).round -/
namespace cI
def K0:=Func.code Tryz.f54
def K2:=cb K0
def K4:=cb K2
def K5:=ca K4
def K7:=ca K5
def K8:=cb K5
def K9:=ca K8
def K10:=ca K9
def K12:=cb K10
def K14:=cb K12
def K17:=ca K14
def K19:=ca K17
def K21:=cb K19
def K23:=cb K21
def K29:=cb K23
def K30:=ca K29
def K31:=ca K30
def K33:=cb K31
def K38:=ca K33
def K40:=ca K38
def K42:=cb K40
def K43:=ca K42
end cI
def cI.pt(tv:zW)(H:zV)(R:zj):Prop:=
 ∃d:Addr,tv=some d/\
 ∃x:zW,hat H d=some (.pointer x)/\
 ∃xA:Addr,x=some xA/\
 ∃bz:zW,hat H xA=some (.pointer bz)/\
 ∃am:Addr,bz=some am/\
 ∃bx:zW,hat H am=some (.pointer bx)/\
 ∃al:Addr,bx=some al/\
 ∃au:zW,hat H al=some (.pointer au)/\
 ∃ba:Int,hat H (d.add 1)=some (.int .i64 ba)/\
 ∀(b:Nat) (H1:zV),b=H.size->H1=H.push (.cells #[.int .i64 ba] 3)->aT H1 d 0 [.pointer (some xA)]/\aT H1 xA 0 [.pointer (some am)]/\aT H1 am 0 [.pointer (some al)]/\aT H1 al 0 [.pointer au]/\
 cz.C au (some (ad b)) 1 1 H1 (λv H2=> ∃(xB:zW) (xN xC:Nat),v=.slice xB xN xC/\
 ∃(bj:Bool->zk) (m11:Bool->Int->zV->Nat),bj false 0 H2/\ ∀(g:Bool) (s29:Int) (H3:zV),bj g s29 H3->
 if s29< (xN:Int)then(
 ∃f:Addr,xB=some f/\
 zv s29 xN/\
 ∃e:Int,hat H3 (f.add (Int.toNat s29*1))=some (.int .i64 e)/\
 zv e 1024/\
 ∃a3:Int,hat H3 ((d.add 2).add (Int.toNat e*1))=some (.int .i64 a3)/\
 if a3=1 then(
 (bj g (zY (s29+1)) H3/\m11 g (zY (s29+1)) H3<m11 g s29 H3))
 else
 ∃bn:zW,hat H3 d=some (.pointer bn)/\
 ∃bo:Addr,bn=some bo/\
 ∃bm:zW,hat H3 bo=some (.pointer bm)/\
 ∃bp:Addr,bm=some bp/\
 ∃bc:zW,hat H3 bp=some (.pointer bc)/\
 ∃bb:Addr,bc=some bb/\
 ∃a2:zW,hat H3 bb=some (.pointer a2)/\
 bE.C a2 e H3 (λb1 H4=> ∃(ao aj a4 u y q r:Int) (rb:Bool),b1=.tuple #[.agg #[.int .i64 ao,.int .i64 aj,.int .i64 a4,.int .i64 u,.int .i64 y,.int .i64 q,.int .i64 r],.bool rb]/\
 ∀(az:Nat) (H5:zV),az=H4.size->H5=H4.push (.cells #[.int .i64 0,.int .i64 0,.int .i64 0,.int .i64 0,.int .i64 0,.int .i64 0,.int .i64 0] 102)->
 (aK H5 (ad az) 0 7)/\ ∀H6,H6=aS H5 (ad az) [.int .i64 ao,.int .i64 aj,.int .i64 a4,.int .i64 u,.int .i64 y,.int .i64 q,.int .i64 r] 0->
 ∃(br:Bool->zW->zV->Prop) (m32:Bool->zW->zV->Nat),br g (some (ad az)) H6/\ ∀(j:Bool) (s:zW) (H7:zV),br j s H7->
 ∃a8:Option Nat,hat H7 (d.add 1027)=some (.map a8)/\
 ∃mr:Nat,a8=some mr/\
 ∃(es:Array MapEntry) (cl:Nat) (ks:List (Int×Value)),H7[mr]?=some (.map es cl)/\Ents (cV .i64) es.toList ks/\
 ∃ak:Int,(mget ks e).getD (.int .i64 0)=.int .i64 ak/\
 ∃sA:Addr,s=some sA/\
 ∃ap:Int,hat H7 (sA.add 2)=some (.int .i64 ap)/\
 if ak<ap then(
 ∃a6:Option Nat,hat H7 (d.add 1027)=some (.map a6)/\
 ∃bl:Nat,a6=some bl/\
 ∃(bs:Array MapEntry) (cl_2:Nat) (ks_2:List (Int×Value)),H7[bl]?=some (.map bs cl_2)/\Ents (cV .i64) bs.toList ks_2/\
 ∃ab:Int,(mget ks_2 e).getD (.int .i64 0)=.int .i64 ab/\
 ∃ay:Option Nat,hat H7 (d.add 1027)=some (.map ay)/\
 ∃av:Int,hat H7 (sA.add 2)=some (.int .i64 av)/\
 ∃a7:Nat,ay=some a7/\
 ∃(bt:Array MapEntry) (cl_3:Nat) (ks_3:List (Int×Value)),H7[a7]?=some (.map bt cl_3)/\Ents (cV .i64) bt.toList ks_3/\
 ∀(bk:Array MapEntry) (cl_4:Nat) (H8:zV),H8=bL H7 a7 (.map bk cl_4)->Ents (cV .i64) bk.toList (mput ks_3 e (.int .i64 av))->
 ∃a0:Int,hat H8 (sA.add 2)=some (.int .i64 a0)/\
 ∃a5:Int,hat H8 (sA.add 1)=some (.int .i64 a5)/\
 cT.C (some d) e ab a0 a5 H8 (λ_ H9=>
 ∃ax an aw ag ae af ac:Int,aT H9 sA 0 [.int .i64 ax,.int .i64 an,.int .i64 aw,.int .i64 ag,.int .i64 ae,.int .i64 af,.int .i64 ac]/\
 ∀(aa:Nat) (H10:zV),aa=H9.size->H10=H9.push (.cells #[.int .i64 0,.int .i64 0,.int .i64 0,.int .i64 0,.int .i64 0,.int .i64 0,.int .i64 0] 102)->
 (aK H10 (ad aa) 0 7)/\ ∀a9,a9=aS H10 (ad aa) [.int .i64 ax,.int .i64 an,.int .i64 aw,.int .i64 ag,.int .i64 ae,.int .i64 af,.int .i64 ac] 0->
 ∃bh:zW,hat a9 d=some (.pointer bh)/\
 ∃bg:Addr,bh=some bg/\
 ∃bi:zW,hat a9 bg=some (.pointer bi)/\
 ∃bf:Addr,bi=some bf/\
 ∃bd:zW,hat a9 bf=some (.pointer bd)/\
 ∃be:Addr,bd=some be/\
 ∃a1:zW,hat a9 be=some (.pointer a1)/\
 bE.C a1 e a9 (λb0 bw=> ∃(ai ah aq p m l o:Int) (bu:Bool),b0=.tuple #[.agg #[.int .i64 ai,.int .i64 ah,.int .i64 aq,.int .i64 p,.int .i64 m,.int .i64 l,.int .i64 o],.bool bu]/\
 (aK bw (ad aa) 0 7)/\ ∀bq,bq=aS bw (ad aa) [.int .i64 ai,.int .i64 ah,.int .i64 aq,.int .i64 p,.int .i64 m,.int .i64 l,.int .i64 o] 0->
 (br true (some (ad aa)) bq/\m32 true (some (ad aa)) bq<m32 j s H7))))
 else
 (bj j (zY (s29+1)) H7/\m11 j (zY (s29+1)) H7<m11 g s29 H3)))
 else
 R (.bool g) H3)
namespace cI
theorem link{tv:zW}{H:zV}{R:zj}(h:pt tv H R):C tv H R:=by
 refine T_en K0 109 Tryz.func54 ?_
 intro w0 Q hQ
 unfold pt zY at h
 refine T_su [(0,vp tv)]<| ar 0<| T_ed 1 [] []<| ar 1<| T_ed 1 [] [(3,.bool false)]<| T_sz<| T_sz ?_
 obtain⟨d,rfl,x,q1,xA,rfl,bz,q2,am,rfl,bx,q3,al,rfl,au,q4,ba,q5,h⟩:=h
 refine yW 2 (Code.ops K7) [(18,d,[vp (some xA)]),(18,xA,[vp (some am)]),(18,am,[vp (some al)]),(18,al,[vp au]),(17,(d.add 1),[vi ba])] 21 (bv 21 0) (show aG _ _ _ from⟨⟨q1,trivial⟩,⟨q2,trivial⟩,⟨q3,trivial⟩,⟨q4,trivial⟩,⟨q5,trivial⟩,trivial⟩)<| T_gp 0 (some 9) (vp (some d)) (bv 21 1) [(0,vp (some d)),(3,.bool false),(9,vp (some d))]<| aF 1 10 (vp (some d)) (bv 21 3) [9]<| aF 2 11 (vp (some d)) (bv 21 7) [10]<| T_g1 3 12 (vp (some xA)) (bv 21 15) [11] (aP 23 (vp (some d))) (yV 18 zw)<| aF 4 13 (vp (some xA)) (bv 21 31) [12]<| aF 5 14 (vp (some xA)) (bv 21 63) [13]<| T_g1 6 15 (vp (some am)) (bv 21 127) [14] (aP 53 (vp (some xA))) (yV 18 yZ)<| aF 7 16 (vp (some am)) (bv 21 255) [15]<| aF 8 17 (vp (some am)) (bv 21 511) [16]<| T_g1 9 18 (vp (some al)) (bv 21 1023) [17] (aP 56 (vp (some am))) (yV 18 yX)<| aF 10 19 (vp (some al)) (bv 21 2047) [18]<| aF 11 20 (vp (some al)) (bv 21 4095) [19]<| T_g1 12 21 (vp au) (bv 21 8191) [20] (aP 82 (vp (some al))) (yV 18 yQ)<| aF 13 22 (vp (some d)) (bv 21 16383) []<| aF 14 23 (vp (some d)) (bv 21 32767) [22]<| aF 15 24 (vp (some (d.add 1))) (bv 21 65535) [23]<| T_g1 16 25 (vi ba) (bv 21 131071) [24] (aP 3 (vp (some (d.add 1)))) (yV 17 yJ)<| aF 20 29 (vi 0) (bv 21 1179647) []<| mw 17 (some 26) (bv 21 1310719) (λb=>vs (pa b) 1 1) (.cells #[vi ba] 3) (by kernel_rfl) (λ_=>by kernel_rfl) (by kernel_rfl) ?_
 intro b H1 e10 e11
 replace h:=h b H1 e10 e11
 obtain⟨f6,f7,f8,f9,h⟩:=h
 refine⟨[(0,vp (some d)),(3,.bool false),(21,vp au),(26,vs (pa b) 1 1),(29,vi 0)],pk,(show aG _ _ _ from⟨f6,f7,f8,f9,trivial,trivial⟩),?_⟩
 refine yY 18 (some 27) (bv 21 1572863) 41 #[vp au,vs (pa b) 1 1] h ?_;clear h
 rintro v H2 ⟨xB,xN,xC,rfl,h⟩
 refine⟨[(0,vp (some d)),(3,.bool false),(27,vs xB xN xC),(29,vi 0)],pk,(show aG _ _ _ from⟨trivial,trivial,trivial,trivial,trivial,trivial⟩),?_⟩
 refine T_g 19 (some 28) (vi xN) (bv 21 2097151) [(0,vp (some d)),(3,.bool false),(27,vs xB xN xC),(28,vi xN),(29,vi 0)] (pure (.value (vi xN)):Sem Next) (λ_ _ _ _ _=>rfl)<| eV [(0,vp (some d)),(3,.bool false),(27,vs xB xN xC),(28,vi xN),(29,vi 0)] sk<| yq<| aE<| T_bz 0 ?_
 obtain⟨bj,m11,i12,i13⟩:=h
 refine de (x:=K10) (σ:=Bool×Int) (λs_=> [(0,vp (some d)),(3,.bool s_.1),(27,vs xB xN xC),(28,vi xN),(29,vi s_.2)]) (λs_ H=>bj s_.1 s_.2 H) (λs_ H=>m11 s_.1 s_.2 H) ((false,0):Bool×Int) (by kernel_rfl) i12 sk ?_
 rintro⟨g,s29⟩ H3 i14
 have h:=i13 g s29 H3 i14
 refine T_su [(0,vp (some d)),(3,.bool g),(27,vs xB xN xC),(28,vi xN),(29,vi s29)]<| ar 3<| T_ed 1 [] [(30,.bool (decide (s29< (xN:Int))))]<| T_sz ?_
 by_cases c15:s29< (xN:Int)
 ·rw[if_pos c15]at h
  refine aI 30 (zX c15)<| T_kt<| T_sz<| T_bz 1<| ar 4<| T_ud [30] [] ?_
  obtain⟨f,rfl,q17,h⟩:=h
  refine T_xd (some 31) 79 3 1 f xN xC .i64 s29 Tryz.underlying79 q17.1 q17.2 [27] [(27,vs (some f) xN xC),(31,vp (some (f.add (Int.toNat s29*1))))] ?_
  obtain⟨e,q18,h⟩:=h
  refine T_l1 32 3 q18 [31]<| T_ed 1 [32] [(5,vi e)]<| T_sz<| ar 5<| T_nd 4 [] [(34,vi e),(36,vp (some (d.add 2)))] ?_
  obtain⟨q19,h⟩:=h
  refine T_v1 37 (aX 97 (vp (some (d.add 2))) (vi e)) (vp (some ((d.add 2).add (Int.toNat e*1)))) (λw _=>bJ (P:=Tryz.prog) (t:=97) (elem:=3) (sz:=1) (n:=1024) (a:=(d.add 2)) (k:=.i64) (i:=e) Tryz.underlying97 (λ_=>by kernel_rfl) q19.1 q19.2 w) [34,36] ?_
  obtain⟨a3,q20,h⟩:=h
  refine T_l1 38 3 q20 [37]<| T_ed 1 [38] [(39,.bool (a3==1))] ?_
  by_cases c21:a3=1
  ·rw[if_pos c21]at h
   exact aI 39 (zK c21)<| zz 1<| aA<| aO<| aE<| T_rz 15<| T_ed 2 [5,29,39] [(29,vi (zY (s29+1)))]<| aW ((g,(zY (s29+1))):Bool×Int) sk h
  rw[if_neg c21]at h
  refine aJ 39 (zJ c21)<| T_kt<| ar 6<| T_nd 3 [39] [(43,vp (some d))] ?_
  obtain⟨bn,q23,h⟩:=h
  refine T_l1 44 23 q23 [43] ?_
  obtain⟨bo,rfl,h⟩:=h
  refine T_nd 2 [44] [(46,vp (some bo))] ?_
  obtain⟨bm,q24,h⟩:=h
  refine T_l1 47 53 q24 [46] ?_
  obtain⟨bp,rfl,h⟩:=h
  refine T_nd 2 [47] [(49,vp (some bp))] ?_
  obtain⟨bc,q25,h⟩:=h
  refine T_l1 50 56 q25 [49] ?_
  obtain⟨bb,rfl,h⟩:=h
  refine T_nd 2 [50] [(52,vp (some bb))] ?_
  obtain⟨a2,q26,h⟩:=h
  refine T_l1 53 82 q26 [52]<| T_nd 1 [] [(54,vi e)]<| T_c (some 55) h ?_;clear h
  rintro b1 H4 ⟨ao,aj,a4,u,y,q,r,rb,rfl,h⟩
  refine T_pd [53,54] [(55,.tuple #[.agg #[vi ao,vi aj,vi a4,vi u,vi y,vi q,vi r],.bool rb])]<| T_nd 3 [55] [(56,.agg #[vi ao,vi aj,vi a4,vi u,vi y,vi q,vi r]),(57,.bool rb)]<| T_nw (some 6) (λb=>vp (pa b)) (.cells #[vi 0,vi 0,vi 0,vi 0,vi 0,vi 0,vi 0] 102) ?_
  intro az H5 e27 e28
  replace h:=h az H5 e27 e28
  refine T_pd [] [(6,vp (pa az))] ?_
  obtain⟨q30,h⟩:=h
  refine fl 102 [vi ao,vi aj,vi a4,vi u,vi y,vi q,vi r] q30 ?_
  intro H6 e29
  replace h:=h H6 e29
  refine T_pd [56] []<| T_ed 1 [57] []<| T_bz 2 ?_
  obtain⟨br,m32,i31,i32⟩:=h
  refine de (x:=K31) (σ:=Bool×zW) (λs_=> [(0,vp (some d)),(3,.bool s_.1),(5,vi e),(6,vp s_.2),(27,vs (some f) xN xC),(28,vi xN),(29,vi s29)]) (λs_ H=>br s_.1 s_.2 H) (λs_ H=>m32 s_.1 s_.2 H) ((g,(pa az)):Bool×zW) (by kernel_rfl) i31 sk ?_
  rintro⟨j,s⟩ H7 i33
  have h:=i32 j s H7 i33
  refine T_su [(0,vp (some d)),(3,.bool j),(5,vi e),(6,vp s),(27,vs (some f) xN xC),(28,vi xN),(29,vi s29)]<| T_sz<| T_sz<| jF 7<| T_q1 58 (vp (some d)) []<| T_q1 59 (vp (some d)) [58]<| T_q1 60 (vp (some (d.add 1027))) [59] ?_
  obtain⟨a8,q34,h⟩:=h
  refine jD (some 61) 96 q34 [60] [(61,.map a8)]<| T_q (some 62) (vi e) [(0,vp (some d)),(3,.bool j),(5,vi e),(6,vp s),(27,vs (some f) xN xC),(28,vi xN),(29,vi s29),(61,.map a8),(62,vi e)] ?_
  obtain⟨mr,rfl,es,cl,ks,q35,q36,ak,e67,h⟩:=h
  refine Q_op (some 63) (iy 96 (.map (some mr)) (vi e) false) (vi ak) (λ_=>by kernel_rfl) (λw hw=>(ij (kk:=(cV .i64)) (z:=vi 0) Tryz.underlying96 Tryz.underlying3 (λ_=>by kernel_rfl) (by rw[hw];exact q35) q36 false).trans (by simp only[if_true,Bool.false_eq_true,if_false,e67])) [(0,vp (some d)),(3,.bool j),(5,vi e),(6,vp s),(27,vs (some f) xN xC),(28,vi xN),(29,vi s29),(63,vi ak)] pk ?_
  obtain⟨sA,rfl,h⟩:=h
  refine T_q (some 64) (vp (some (sA.add 2))) [(0,vp (some d)),(3,.bool j),(5,vi e),(6,vp (some sA)),(27,vs (some f) xN xC),(28,vi xN),(29,vi s29),(63,vi ak),(64,vp (some (sA.add 2)))] ?_
  obtain⟨ap,q38,h⟩:=h
  refine jD (some 65) 3 q38 [64] [(65,vi ap)]<| T_q1 66 (.bool (decide (ak<ap))) [63,65]<| gT [(0,vp (some d)),(3,.bool j),(5,vi e),(6,vp (some sA)),(27,vs (some f) xN xC),(28,vi xN),(29,vi s29),(66,.bool (decide (ak<ap)))] sk<| T_qe ?_
  by_cases c39:ak<ap
  ·rw[if_pos c39]at h
   refine aI 66 (zX c39)<| T_kt<| T_sz<| T_bz 3<| ar 9<| T_n 3 [(0,vp (some d)),(5,vi e),(6,vp (some sA)),(27,vs (some f) xN xC),(28,vi xN),(29,vi s29),(87,vp (some (d.add 1027)))] ?_
   obtain⟨a6,q41,h⟩:=h
   refine T_l1 88 96 q41 [87]<| T_nd 1 [] [(89,vi e)] ?_
   obtain⟨bl,rfl,bs,cl_2,ks_2,q42,q43,ab,e65,h⟩:=h
   refine T_v1 90 (iy 96 (.map (some bl)) (vi e) false) (vi ab) (λw hw=>(ij (kk:=(cV .i64)) (z:=vi 0) Tryz.underlying96 Tryz.underlying3 (λ_=>by kernel_rfl) (by rw[hw];exact q42) q43 false).trans (by simp only[if_true,Bool.false_eq_true,if_false,e65])) [88,89]<| T_ed 1 [90] [(8,vi ab)]<| T_sz ?_
   obtain⟨ay,q45,av,q46,h⟩:=h
   refine yW 10 (Code.ops K43) [(7,(d.add 1027),[.map ay]),(7,(sA.add 2),[vi av])] 8 (bv 8 0) (show aG _ _ _ from⟨⟨q45,trivial⟩,⟨q46,trivial⟩,trivial⟩)<| T_gp 0 (some 91) (vp (some d)) (bv 8 1) [(0,vp (some d)),(5,vi e),(6,vp (some sA)),(8,vi ab),(27,vs (some f) xN xC),(28,vi xN),(29,vi s29),(91,vp (some d))]<| aF 1 92 (vp (some d)) (bv 8 3) [91]<| aF 2 93 (vp (some (d.add 1027))) (bv 8 7) [92]<| T_g1 3 94 (.map ay) (bv 8 15) [93] (aP 96 (vp (some (d.add 1027)))) (yV 7 zw)<| aF 4 95 (vi e) (bv 8 31) []<| aF 5 96 (vp (some (sA.add 2))) (bv 8 63) []<| T_g1 6 97 (vi av) (bv 8 127) [96] (aP 3 (vp (some (sA.add 2)))) (yV 7 yZ) ?_
   obtain⟨a7,rfl,bt,cl_3,ks_3,q47,q48,h⟩:=h
   refine fq 7 none (bv 8 255) (jk 96 (.map (some a7)) (vi e) (vi av)) (λHz=> ∃es2 cl2,Hz=bL H7 a7 (.map es2 cl2)/\Ents (cV .i64) es2.toList (mput ks_3 e (vi av))) (by kernel_rfl) (λ_=>by kernel_rfl) (λw hw=>by obtain⟨es2,cl2,q1,q2⟩:=lL (kk:=(cV .i64)) (P:=Tryz.prog) (w:=w) (k:=e) (v:=vi av) Tryz.underlying96 Tryz.underlying3 (by rw[hw];exact q47) q48;exact⟨_,q1,⟨rfl,rfl,rfl,Nat.le_refl _⟩,es2,cl2,by rw[<-hw],q2⟩) (by kernel_rfl) ?_
   rintro H8 ⟨bk,cl_4,e50,e51⟩
   replace h:=h bk cl_4 H8 e50 e51
   refine⟨[(0,vp (some d)),(5,vi e),(6,vp (some sA)),(8,vi ab),(27,vs (some f) xN xC),(28,vi xN),(29,vi s29)],pk,(show aG _ _ _ from⟨trivial,trivial,trivial⟩),?_⟩
   refine eV [(0,vp (some d)),(5,vi e),(6,vp (some sA)),(8,vi ab),(27,vs (some f) xN xC),(28,vi xN),(29,vi s29)] sk ?_
   refine yq<| aE<| ar 11<| T_n 4 [(0,vp (some d)),(5,vi e),(6,vp (some sA)),(27,vs (some f) xN xC),(28,vi xN),(29,vi s29),(98,vp (some d)),(99,vi e),(100,vi ab),(101,vp (some (sA.add 2)))] ?_
   obtain⟨a0,q52,h⟩:=h
   refine T_l1 102 3 q52 [101]<| T_nd 1 [] [(103,vp (some (sA.add 1)))] ?_
   obtain⟨a5,q53,h⟩:=h
   refine T_l1 104 3 q53 [103]<| T_c (some 105) h ?_;clear h
   intro v_3 H9 h
   refine T_pd [98,99,100,102,104] []<| T_e<| T_rz 12<| T_nd 1 [] [(3,.bool true)]<| zq<| aD<| aE<| T_sz<| ar 13 ?_
   obtain⟨ax,an,aw,ag,ae,af,ac,q54,h⟩:=h
   refine T_lr 106 102 q54 [6]<| T_e<| T_rz 14<| T_nw (some 6) (λb=>vp (pa b)) (.cells #[vi 0,vi 0,vi 0,vi 0,vi 0,vi 0,vi 0] 102) ?_
   intro aa H10 e55 e56
   replace h:=h aa H10 e55 e56
   refine T_pd [] [(6,vp (pa aa))] ?_
   obtain⟨q58,h⟩:=h
   refine fl 102 [vi ax,vi an,vi aw,vi ag,vi ae,vi af,vi ac] q58 ?_
   intro a9 e57
   replace h:=h a9 e57
   refine T_pd [106] []<| T_e<| T_rz 8<| T_nd 3 [] [(70,vp (some d))] ?_
   obtain⟨bh,q59,h⟩:=h
   refine T_l1 71 23 q59 [70] ?_
   obtain⟨bg,rfl,h⟩:=h
   refine T_nd 2 [71] [(73,vp (some bg))] ?_
   obtain⟨bi,q60,h⟩:=h
   refine T_l1 74 53 q60 [73] ?_
   obtain⟨bf,rfl,h⟩:=h
   refine T_nd 2 [74] [(76,vp (some bf))] ?_
   obtain⟨bd,q61,h⟩:=h
   refine T_l1 77 56 q61 [76] ?_
   obtain⟨be,rfl,h⟩:=h
   refine T_nd 2 [77] [(79,vp (some be))] ?_
   obtain⟨a1,q62,h⟩:=h
   refine T_l1 80 82 q62 [79]<| T_nd 1 [] [(81,vi e)]<| T_c (some 82) h ?_;clear h
   rintro b0 bw ⟨ai,ah,aq,p,m,l,o,bu,rfl,h⟩
   refine T_pd [80,81] [(82,.tuple #[.agg #[vi ai,vi ah,vi aq,vi p,vi m,vi l,vi o],.bool bu])]<| T_nd 3 [82] [(83,.agg #[vi ai,vi ah,vi aq,vi p,vi m,vi l,vi o])] ?_
   obtain⟨q64,h⟩:=h
   refine fl 102 [vi ai,vi ah,vi aq,vi p,vi m,vi l,vi o] q64 ?_
   intro bq e63
   replace h:=h bq e63
   exact T_pd [83] []<| T_e<| aW ((true,(pa aa)):Bool×zW) sk h
  rw[if_neg c39]at h
  exact aJ 66 (zQ c39)<| zz 2<| aA<| aA<| aO<| aD<| aE<| T_rz 15<| T_ne 2 [(0,vp (some d)),(3,.bool j),(27,vs (some f) xN xC),(28,vi xN),(29,vi (zY (s29+1)))]<| aW ((j,(zY (s29+1))):Bool×Int) sk h
 rw[if_neg c15]at h
 exact aJ 30 (zQ c15)<| zz 0<| aA<| aA<| aO<| aE<| ar 16<| T_nr 2 [2] [.bool g] hQ h
end cI

/-! (*moraine/trace.Trace).look -/
namespace cT
def K0:=Func.code Tryz.f69
def K2:=cb K0
def K4:=cb K2
def K6:=cb K4
def K7:=ca K6
def K8:=ca K7
end cT
def cT.pt(tv:zW)(d e to a:Int)(H:zV)(R:zj):Prop:=
 ∀(b:Nat) (H1:zV),b=H.size->H1=H.push (.cells #[.pointer tv] 37)->
 ∃(I9:zk) (m9:Int->zV->Nat),I9 e H1/\ ∀(i:Int) (H2:zV),I9 i H2->
 if((decide (i<to)) && (a !=3))=true then(
 if((a !=1) || ((Int.tmod i 2)==1))=true then(
 cw.C (zY ((zY (d*64))+i)) (some (ad b)) H2 (λ_ H3=>
 (I9 (zY (i+1)) H3/\m9 (zY (i+1)) H3<m9 i H2)))
 else
 (I9 (zY (i+1)) H2/\m9 (zY (i+1)) H2<m9 i H2))
 else
 R (.tuple #[]) H2
namespace cT
theorem link{tv:zW}{d e to a:Int}{H:zV}{R:zj}(h:pt tv d e to a H R):C tv d e to a H R:=by
 refine T_en K0 36 Tryz.func69 ?_
 intro w0 Q hQ
 unfold pt zY at h
 refine T_su [(0,vp tv),(1,vi d),(2,vi e),(3,vi to),(4,vi a)]<| ar 0<| T_nw (some 5) (λb=>vp (pa b)) (.cells #[vp tv] 37) ?_
 intro b H1 e1 e2
 replace h:=h b H1 e1 e2
 refine T_pd [0] [(5,vp (pa b))]<| T_e<| ar 1<| T_ed 2 [5] [(10,.func (.func 101) #[] #[vp (pa b)])]<| ar 2<| T_ed 2 [2] [(11,vi e)]<| T_bz 0 ?_
 obtain⟨I9,m9,i3,i4⟩:=h
 refine de (x:=K8) (σ:=Int) (λs_=> [(1,vi d),(3,vi to),(4,vi a),(10,.func (.func 101) #[] #[vp (pa b)]),(11,vi s_)]) (λs_ H=>I9 s_ H) (λs_ H=>m9 s_ H) (e:Int) (by kernel_rfl) i3 sk ?_
 rintro i H2 i5
 have h:=i4 i H2 i5
 refine T_su [(1,vi d),(3,vi to),(4,vi a),(10,.func (.func 101) #[] #[vp (pa b)]),(11,vi i)]<| T_sz<| ar 3 ?_
 refine fm [(1,vi d),(3,vi to),(4,vi a),(10,.func (.func 101) #[] #[vp (pa b)]),(11,vi i),(20,.bool ((decide (i<to)) && (a !=3)))] ?_ ?_
 ·refine aE ?_
  by_cases c8:((decide (i<to)) && (a !=3))=true
  ·rw[if_pos c8]at h
   refine aI 20 c8<| T_kt<| T_sz<| T_bz 1<| ar 5 ?_
   refine fm [(1,vi d),(3,vi to),(4,vi a),(10,.func (.func 101) #[] #[vp (pa b)]),(11,vi i),(29,.bool ((a !=1) || ((Int.tmod i 2)==1)))] ?_ ?_
   ·refine aE ?_
    by_cases c12:((a !=1) || ((Int.tmod i 2)==1))=true
    ·rw[if_pos c12]at h
     refine aI 29 c12<| T_rz 6<| T_n 5 [(1,vi d),(3,vi to),(4,vi a),(10,.func (.func 101) #[] #[vp (pa b)]),(11,vi i),(30,.func (.func 101) #[] #[vp (pa b)]),(34,vi (zY ((zY (d*64))+i)))]<| T_c (some 35) h ?_;clear h
     intro v H3 h
     exact T_pd [30,34] []<| zq<| aD<| aE<| T_rz 4<| T_ed 3 [11] [(11,vi (zY (i+1)))]<| aW ((zY (i+1)):Int) sk h
    rw[if_neg c12]at h
    exact aJ 29 (zZ c12)<| T_k<| aD<| aE<| T_rz 4<| T_ne 3 [(1,vi d),(3,vi to),(4,vi a),(10,.func (.func 101) #[] #[vp (pa b)]),(11,vi (zY (i+1)))]<| aW ((zY (i+1)):Int) sk h
   intro hk
   refine T_n 3 [(1,vi d),(3,vi to),(4,vi a),(10,.func (.func 101) #[] #[vp (pa b)]),(11,vi i),(25,.bool (a !=1))] ?_
   by_cases c10:a=1
   ·have b11:(a !=1)=false:=bne_eq_false_iff_eq.mpr c10
    refine cO [(1,vi d),(3,vi to),(4,vi a),(10,.func (.func 101) #[] #[vp (pa b)]),(11,vi i),(25,.bool false)] (by rw[b11]) ?_
    refine T_nd 4 [25] [(29,.bool ((Int.tmod i 2)==1))]<| zq<| S_bd 29 (b:=((Int.tmod i 2)==1)) (v:=((a !=1) || ((Int.tmod i 2)==1))) (by simp only[b11,BL]) ?_
    exact hk
   have b11:(a !=1)=true:=bne_iff_ne.mpr c10
   refine cO [(1,vi d),(3,vi to),(4,vi a),(10,.func (.func 101) #[] #[vp (pa b)]),(11,vi i),(25,.bool true)] (by rw[b11]) ?_
   refine T_nd 4 [25] [(29,.bool true)]<| zq<| S_bd 29 (b:=true) (v:=((a !=1) || ((Int.tmod i 2)==1))) (by simp only[b11,BL]) ?_
   exact hk
  rw[if_neg c8]at h
  exact aJ 20 (zZ c8)<| zz 0<| aA<| aA<| aO<| eZ (fn:=Tryz.f69) [] hQ (show dU _ _ _ [] _ from .nil) h
 intro hk
 refine T_n 4 [(1,vi d),(3,vi to),(4,vi a),(10,.func (.func 101) #[] #[vp (pa b)]),(11,vi i),(17,.bool (decide (i<to)))] ?_
 by_cases c6:i<to
 ·have b7:(decide (i<to))=true:=zX c6
  refine cO [(1,vi d),(3,vi to),(4,vi a),(10,.func (.func 101) #[] #[vp (pa b)]),(11,vi i),(17,.bool true)] (by rw[b7]) ?_
  refine T_nd 3 [17] [(20,.bool (a !=3))]<| zq<| S_bd 20 (b:=(a !=3)) (v:=((decide (i<to)) && (a !=3))) (by simp only[b7,BL]) ?_
  exact hk
 have b7:(decide (i<to))=false:=zQ c6
 refine cO [(1,vi d),(3,vi to),(4,vi a),(10,.func (.func 101) #[] #[vp (pa b)]),(11,vi i),(17,.bool false)] (by rw[b7]) ?_
 refine T_nd 3 [17] [(20,.bool false)]<| zq<| S_bd 20 (b:=false) (v:=((decide (i<to)) && (a !=3))) (by simp only[b7,BL]) ?_
 exact hk
end cT

/-! (*moraine/trace.Trace).Weaks.1 -/
namespace bD
def K0:=Func.code Tryz.f71
def K2:=cb K0
def K3:=ca K2
def K4:=ca K3
end bD
def bD.pt(d f to:Int)(e:zW)(H:zV)(R:zj):Prop:=
 ∃(I5:zk) (m5:Int->zV->Nat),I5 f H/\ ∀(i:Int) (H1:zV),I5 i H1->
 if i<to then(
 ∃a:Addr,e=some a/\
 ∃(xB:zW) (xN xC:Nat),hat H1 a=some (.slice xB xN xC)/\
 ∀(b:Nat) (H2:zV),b=H1.size->H2=H1.push (.cells #[.int .i64 (zY ((zY (d*64))+i))] 3)->
 fc 1 3 8 [.int .i64 0] xB xN xC (some (ad b)) 1 H2 (λap g H3=>
 (aK H3 a 0 1)/\ ∀H4,H4=aS H3 a [.slice ap (xN+1) g] 0->
 (I5 (zY (i+2)) H4/\m5 (zY (i+2)) H4<m5 i H1)))
 else
 R (.tuple #[]) H1
namespace bD
theorem link{d f to:Int}{e:zW}{H:zV}{R:zj}(h:pt d f to e H R):C d f to e H R:=by
 refine T_en K0 21 Tryz.func71 ?_
 intro w0 Q hQ
 unfold pt zY at h
 refine T_su [(0,vi d),(1,vi f),(2,vi to),(3,vp e)]<| ar 0<| T_ed 2 [1] [(7,vi f)]<| T_bz 0 ?_
 obtain⟨I5,m5,i1,i2⟩:=h
 refine de (x:=K4) (σ:=Int) (λs_=> [(0,vi d),(2,vi to),(3,vp e),(7,vi s_)]) (λs_ H=>I5 s_ H) (λs_ H=>m5 s_ H) (f:Int) (by kernel_rfl) i1 sk ?_
 rintro i H1 i3
 have h:=i2 i H1 i3
 refine T_su [(0,vi d),(2,vi to),(3,vp e),(7,vi i)]<| T_sz<| ar 1<| T_ed 3 [] [(11,.bool (decide (i<to)))] ?_
 by_cases c4:i<to
 ·rw[if_pos c4]at h
  refine aI 11 (zX c4)<| T_kt<| T_sz<| T_bz 1<| T_rz 3<| T_ud [11] [] ?_
  obtain⟨a,rfl,xB,xN,xC,q6,h⟩:=h
  refine T_ld (some 14) 79 q6 [3] [(3,vp (some a)),(14,vs xB xN xC)]<| T_nd 4 [] [(18,vi (zY ((zY (d*64))+i)))]<| T_nw (some 19) (λb=>vs (pa b) 1 1) (.cells #[vi (zY ((zY (d*64))+i))] 3) ?_
  intro b H2 e7 e8
  replace h:=h b H2 e7 e8
  refine T_pd [18] [(19,vs (pa b) 1 1)]<| N_op (some 20) (eS #[79,79] 79 #[vs xB xN xC,vs (pa b) 1 1]) _ (λ_=>by kernel_rfl) (eQ (T:=3) (sz:=1) (bytes:=8) (zero:=(vi 0:Value)) Tryz.underlying79 Tryz.underlying79 rfl (show Tryz.prog.info? 3=some Tryz.t3 from by kernel_rfl) (by kernel_rfl) (by kernel_rfl) (by decide) (by kernel_rfl) (by first | exact h | (simpa only[Value.cells,List.toList_toArray]using h))) ?_;clear h
  rintro _ H3 ⟨ap,g,rfl,h⟩
  refine T_pd [14,19] [(20,vs ap (xN+1) g)] ?_
  obtain⟨q10,h⟩:=h
  refine fE 79 (vs ap (xN+1) g) q10 ?_
  intro H4 e9
  replace h:=h H4 e9
  exact T_pd [20] []<| zq<| aD<| aE<| T_rz 2<| T_ed 3 [7] [(7,vi (zY (i+2)))]<| aW ((zY (i+2)):Int) sk h
 rw[if_neg c4]at h
 exact aJ 11 (zQ c4)<| zz 0<| aA<| aA<| aO<| eZ (fn:=Tryz.f71) [] hQ (show dU _ _ _ [] _ from .nil) h
end bD

/-! (*moraine/trace.Trace).Ended -/
namespace cJ
def K0:=Func.code Tryz.f89
end cJ
def cJ.pt(tv:zW)(H:zV)(R:zj):Prop:=
 bF.C tv H (λv H1=> ∃x:Bool,v=.bool x/\
 R (.bool x) H1)
namespace cJ
theorem link{tv:zW}{H:zV}{R:zj}(h:pt tv H R):C tv H R:=by
 refine T_en K0 5 Tryz.func89 ?_
 intro w0 Q hQ
 unfold pt at h
 refine T_su [(0,vp tv)]<| ar 0<| T_ed 1 [] []<| ar 1<| T_n 1 [(3,vp tv)]<| T_c (some 4) h ?_;clear h
 rintro v H1 ⟨x,rfl,h⟩
 refine⟨[(4,.bool x)],pk,?_⟩
 exact T_nr 1 [2] [.bool x] hQ h
end cJ

/-! (*moraine/trace.Trace).Put -/
namespace da
def K0:=Func.code Tryz.f91
def K2:=cb K0
def K4:=cb K2
def K11:=ca K4
end da
def da.pt(tv:zW)(d b:Int)(H:zV)(R:zj):Prop:=
 bF.C tv H (λv H1=> ∃x:Bool,v=.bool x/\
 if x=true then(
 R (.int .u64 20) H1)
 else
 ∃a:Addr,tv=some a/\
 ∃ac:zW,hat H1 a=some (.pointer ac)/\
 ∃f:Addr,ac=some f/\
 ∃ae:zW,hat H1 f=some (.pointer ae)/\
 ∃e:Addr,ae=some e/\
 ∃g:zW,hat H1 e=some (.pointer g)/\
 ∃l:Int,hat H1 (a.add 1)=some (.int .i64 l)/\
 bR.C g l 0 2 H1 (λak H2=> ∃ra rb:Int,ak=.tuple #[.int .i64 ra,.int .i64 rb]/\
 if rb=0 then(
 ∃z:zW,hat H2 a=some (.pointer z)/\
 ∃u:Addr,z=some u/\
 ∃t:zW,hat H2 u=some (.pointer t)/\
 ∃aa:Addr,t=some aa/\
 ∃y:zW,hat H2 aa=some (.pointer y)/\
 ∃s:Addr,y=some s/\
 ∃k:zW,hat H2 s=some (.pointer k)/\
 bK.C k ra d H2 (λah H3=> ∃af:Int,ah=.int .i64 af/\
 ∃n:zW,hat H3 a=some (.pointer n)/\
 ∃q:Addr,n=some q/\
 ∃m:zW,hat H3 q=some (.pointer m)/\
 ∃r:Addr,m=some r/\
 ∃p:zW,hat H3 r=some (.pointer p)/\
 ∃o:Addr,p=some o/\
 ∃i:zW,hat H3 o=some (.pointer i)/\
 bK.C i (zY (ra+1)) b H3 (λai H4=> ∃ag:Int,ai=.int .i64 ag/\
 fe.C 1 ra H4 (λaj H5=> ∃j ab:Int,aj=.tuple #[.int .u64 j,.int .i64 ab]/\
 R (.int .u64 j) H5))))
 else
 R (.int .u64 20) H2))
namespace da
theorem link{tv:zW}{d b:Int}{H:zV}{R:zj}(h:pt tv d b H R):C tv d b H R:=by
 refine T_en K0 72 Tryz.func91 ?_
 intro w0 Q hQ
 unfold pt zY at h
 refine T_su [(0,vp tv),(1,vu d),(2,vu b)]<| ar 0<| T_ed 1 [] []<| T_sz<| ar 1<| T_nd 1 [] [(11,vp tv)]<| T_c (some 12) h ?_;clear h
 rintro v H1 ⟨x,rfl,h⟩
 refine T_pd [11] [(12,.bool x)]<| T_e ?_
 by_cases c1:x=true
 ·rw[if_pos c1]at h
  exact aI 12 c1<| ar 2<| T_nr 1 [6] [vu 20] hQ h
 rw[if_neg c1]at h
 refine aJ 12 (zZ c1)<| T_kt<| T_sz ?_
 obtain⟨a,rfl,ac,q3,f,rfl,ae,q4,e,rfl,g,q5,l,q6,h⟩:=h
 refine yW 3 (Code.ops K11) [(14,a,[vp (some f)]),(14,f,[vp (some e)]),(14,e,[vp g]),(14,(a.add 1),[vi l])] 20 (bv 20 0) (show aG _ _ _ from⟨⟨q3,trivial⟩,⟨q4,trivial⟩,⟨q5,trivial⟩,⟨q6,trivial⟩,trivial⟩)<| T_gp 0 (some 14) (vp (some a)) (bv 20 1) [(0,vp (some a)),(1,vu d),(2,vu b),(14,vp (some a))]<| aF 1 15 (vp (some a)) (bv 20 3) [14]<| aF 2 16 (vp (some a)) (bv 20 7) [15]<| T_g1 3 17 (vp (some f)) (bv 20 15) [16] (aP 23 (vp (some a))) (yV 14 zw)<| aF 4 18 (vp (some f)) (bv 20 31) [17]<| aF 5 19 (vp (some f)) (bv 20 63) [18]<| T_g1 6 20 (vp (some e)) (bv 20 127) [19] (aP 53 (vp (some f))) (yV 14 yZ)<| aF 7 21 (vp (some e)) (bv 20 255) [20]<| aF 8 22 (vp (some e)) (bv 20 511) [21]<| T_g1 9 23 (vp g) (bv 20 1023) [22] (aP 56 (vp (some e))) (yV 14 yX)<| aF 10 24 (vp (some a)) (bv 20 2047) []<| aF 11 25 (vp (some a)) (bv 20 4095) [24]<| aF 12 26 (vp (some (a.add 1))) (bv 20 8191) [25]<| T_g1 13 27 (vi l) (bv 20 16383) [26] (aP 3 (vp (some (a.add 1)))) (yV 14 yQ)<| yY 14 (some 28) (bv 20 32767) 49 #[vp g,vi l,vi 0,vi 2] h ?_;clear h
 rintro ak H2 ⟨ra,rb,rfl,h⟩
 refine⟨[(0,vp (some a)),(1,vu d),(2,vu b),(28,.tuple #[vi ra,vi rb])],pk,(show aG _ _ _ from⟨trivial,trivial,trivial,trivial,trivial⟩),?_⟩
 refine T_g 15 (some 13) (.tuple #[vi ra,vi rb]) (bv 20 65535) [(0,vp (some a)),(1,vu d),(2,vu b),(13,.tuple #[vi ra,vi rb])] (pure (.value (.tuple #[vi ra,vi rb])):Sem Next) (λ_ _ _ _ _=>rfl)<| T_g1 16 29 (vi ra) (bv 20 131071) [] (pure (.value (vi ra)):Sem Next) (λ_ _ _ _ _=>rfl)<| T_g1 17 30 (vi rb) (bv 20 262143) [13] (pure (.value (vi rb)):Sem Next) (λ_ _ _ _ _=>rfl)<| T_g1 18 7 (vi ra) (bv 20 524287) [29] (pure (.value (vi ra)):Sem Next) (λ_ _ _ _ _=>rfl)<| T_g1 19 8 (vi rb) (bv 20 1048575) [30] (pure (.value (vi rb)):Sem Next) (λ_ _ _ _ _=>rfl)<| eV [(0,vp (some a)),(1,vu d),(2,vu b),(7,vi ra),(8,vi rb)] sk<| yq<| aE<| T_sz<| ar 4<| T_ne 2 [(0,vp (some a)),(1,vu d),(2,vu b),(7,vi ra),(32,.bool (rb !=0))] ?_
 by_cases c7:rb=0
 ·rw[if_pos c7]at h
  refine aJ 32 (bne_eq_false_iff_eq.mpr c7)<| T_kt<| ar 6<| T_nd 3 [32] [(35,vp (some a))] ?_
  obtain⟨z,q9,h⟩:=h
  refine T_l1 36 23 q9 [35] ?_
  obtain⟨u,rfl,h⟩:=h
  refine T_nd 2 [36] [(38,vp (some u))] ?_
  obtain⟨t,q10,h⟩:=h
  refine T_l1 39 53 q10 [38] ?_
  obtain⟨aa,rfl,h⟩:=h
  refine T_nd 2 [39] [(41,vp (some aa))] ?_
  obtain⟨y,q11,h⟩:=h
  refine T_l1 42 56 q11 [41] ?_
  obtain⟨s,rfl,h⟩:=h
  refine T_nd 2 [42] [(44,vp (some s))] ?_
  obtain⟨k,q12,h⟩:=h
  refine T_l1 45 82 q12 [44]<| T_nd 2 [1] [(46,vi ra),(47,vu d)]<| T_c (some 48) h ?_;clear h
  rintro ah H3 ⟨af,rfl,h⟩
  refine T_pd [45,46,47] []<| T_e<| ar 7<| T_nd 3 [0] [(51,vp (some a))] ?_
  obtain⟨n,q13,h⟩:=h
  refine T_l1 52 23 q13 [51] ?_
  obtain⟨q,rfl,h⟩:=h
  refine T_nd 2 [52] [(54,vp (some q))] ?_
  obtain⟨m,q14,h⟩:=h
  refine T_l1 55 53 q14 [54] ?_
  obtain⟨r,rfl,h⟩:=h
  refine T_nd 2 [55] [(57,vp (some r))] ?_
  obtain⟨p,q15,h⟩:=h
  refine T_l1 58 56 q15 [57] ?_
  obtain⟨o,rfl,h⟩:=h
  refine T_nd 2 [58] [(60,vp (some o))] ?_
  obtain⟨i,q16,h⟩:=h
  refine T_l1 61 82 q16 [60]<| T_nd 3 [2] [(63,vi (zY (ra+1))),(64,vu b)]<| T_c (some 65) h ?_;clear h
  rintro ai H4 ⟨ag,rfl,h⟩
  refine⟨[(7,vi ra)],pk,?_⟩
  refine T_e<| ar 8<| T_n 1 [(67,vi ra)]<| T_c (some 68) h ?_;clear h
  rintro aj H5 ⟨j,ab,rfl,h⟩
  refine⟨[(68,.tuple #[vu j,vi ab])],pk,?_⟩
  exact T_ne 5 [(9,vu j)]<| ar 9<| T_nr 2 [6] [vu j] hQ h
 rw[if_neg c7]at h
 exact aI 32 (bne_iff_ne.mpr c7)<| ar 5<| T_nr 1 [6] [vu 20] hQ h
end da

/-! (*moraine/trace.Trace).look.1 -/
namespace cw
def K0:=Func.code Tryz.f101
def K2:=cb K0
end cw
def cw.pt(b:Int)(m:zW)(H:zV)(R:zj):Prop:=
 ∃a:Addr,m=some a/\
 ∃x:zW,hat H a=some (.pointer x)/\
 ∃xA:Addr,x=some xA/\
 ∃n:zW,hat H xA=some (.pointer n)/\
 ∃s:Addr,n=some s/\
 ∃p:zW,hat H s=some (.pointer p)/\
 ∃r:Addr,p=some r/\
 ∃q:zW,hat H r=some (.pointer q)/\
 ∃o:Addr,q=some o/\
 ∃k:zW,hat H o=some (.pointer k)/\
 bQ.C k b H (λv H1=> ∃ra rb:Int,v=.tuple #[.int .u64 ra,.int .i64 rb]/\
 ∃aa:zW,hat H1 a=some (.pointer aa)/\
 ∃f:Addr,aa=some f/\
 ∃u:zW,hat H1 f=some (.pointer u)/\
 ∃i:Addr,u=some i/\
 ∃y:zW,hat H1 i=some (.pointer y)/\
 ∃e:Addr,y=some e/\
 ∃t:zW,hat H1 e=some (.pointer t)/\
 ∃g:Addr,t=some g/\
 ∃d:zW,hat H1 g=some (.pointer d)/\
 ∃j:zW,hat H1 a=some (.pointer j)/\
 aU.C j ra H1 (λac H2=> ∃l:Int,ac=.int .u64 l/\aT H2 a 0 [.pointer (some f)]/\aT H2 f 0 [.pointer (some i)]/\aT H2 i 0 [.pointer (some e)]/\aT H2 e 0 [.pointer (some g)]/\aT H2 g 0 [.pointer d]/\
 bK.C d b l H2 (λab H3=> ∃z:Int,ab=.int .i64 z/\
 R (.tuple #[]) H3)))
namespace cw
theorem link{b:Int}{m:zW}{H:zV}{R:zj}(h:pt b m H R):C b m H R:=by
 refine T_en K0 41 Tryz.func101 ?_
 intro w0 Q hQ
 unfold pt at h
 refine T_su [(0,vi b),(1,vp m)]<| ar 0 ?_
 obtain⟨a,rfl,x,q1,h⟩:=h
 refine T_ld (some 6) 37 q1 [1] [(1,vp (some a)),(6,vp x)] ?_
 obtain⟨xA,rfl,h⟩:=h
 refine T_nd 2 [6] [(8,vp (some xA))] ?_
 obtain⟨n,q2,h⟩:=h
 refine T_l1 9 23 q2 [8] ?_
 obtain⟨s,rfl,h⟩:=h
 refine T_nd 2 [9] [(11,vp (some s))] ?_
 obtain⟨p,q3,h⟩:=h
 refine T_l1 12 53 q3 [11] ?_
 obtain⟨r,rfl,h⟩:=h
 refine T_nd 2 [12] [(14,vp (some r))] ?_
 obtain⟨q,q4,h⟩:=h
 refine T_l1 15 56 q4 [14] ?_
 obtain⟨o,rfl,h⟩:=h
 refine T_nd 2 [15] [(17,vp (some o))] ?_
 obtain⟨k,q5,h⟩:=h
 refine T_l1 18 82 q5 [17]<| T_nd 1 [] [(19,vi b)]<| T_c (some 20) h ?_;clear h
 rintro v H1 ⟨ra,rb,rfl,h⟩
 refine T_pd [18,19] [(20,.tuple #[vu ra,vi rb])]<| T_ed 5 [20] [(3,vu ra)] ?_
 obtain⟨aa,q6,f,rfl,u,q7,i,rfl,y,q8,e,rfl,t,q9,g,rfl,d,q10,j,q11,h⟩:=h
 refine yW 1 (Code.ops K2) [(17,a,[vp (some f)]),(17,f,[vp (some i)]),(17,i,[vp (some e)]),(17,e,[vp (some g)]),(17,g,[vp d]),(16,a,[vp j])] 18 (bv 18 0) (show aG _ _ _ from⟨⟨q6,trivial⟩,⟨q7,trivial⟩,⟨q8,trivial⟩,⟨q9,trivial⟩,⟨q10,trivial⟩,⟨q11,trivial⟩,trivial⟩)<| T_g 0 (some 23) (vp (some f)) (bv 18 1) [(0,vi b),(1,vp (some a)),(3,vu ra),(23,vp (some f))] (aP 37 (vp (some a))) (yV 17 zw)<| aF 1 24 (vp (some f)) (bv 18 3) [23]<| aF 2 25 (vp (some f)) (bv 18 7) [24]<| T_g1 3 26 (vp (some i)) (bv 18 15) [25] (aP 23 (vp (some f))) (yV 17 yZ)<| aF 4 27 (vp (some i)) (bv 18 31) [26]<| aF 5 28 (vp (some i)) (bv 18 63) [27]<| T_g1 6 29 (vp (some e)) (bv 18 127) [28] (aP 53 (vp (some i))) (yV 17 yX)<| aF 7 30 (vp (some e)) (bv 18 255) [29]<| aF 8 31 (vp (some e)) (bv 18 511) [30]<| T_g1 9 32 (vp (some g)) (bv 18 1023) [31] (aP 56 (vp (some e))) (yV 17 yQ)<| aF 10 33 (vp (some g)) (bv 18 2047) [32]<| aF 11 34 (vp (some g)) (bv 18 4095) [33]<| T_g1 12 35 (vp d) (bv 18 8191) [34] (aP 82 (vp (some g))) (yV 17 yJ)<| aF 13 36 (vi b) (bv 18 16383) [0]<| T_g1 14 37 (vp j) (bv 18 32767) [1] (aP 37 (vp (some a))) (yV 16 yK)<| aF 15 38 (vu ra) (bv 18 65535) [3]<| yY 16 (some 39) (bv 18 131071) 12 #[vp j,vu ra] h ?_;clear h
 rintro ac H2 ⟨l,rfl,f12,f13,f14,f15,f16,h⟩
 refine⟨[(35,vp d),(36,vi b),(39,vu l)],pk,(show aG _ _ _ from⟨f12,f13,f14,f15,f16,trivial,trivial⟩),?_⟩
 refine yY 17 (some 40) (bv 18 262143) 50 #[vp d,vi b,vu l] h ?_;clear h
 rintro ab H3 ⟨z,rfl,h⟩
 refine⟨[],pk,(show aG _ _ _ from⟨trivial,trivial,trivial,trivial,trivial,trivial,trivial⟩),?_⟩
 refine eV [] sk ?_
 exact yq<| eZ (fn:=Tryz.f101) [] hQ (show dU _ _ _ [] _ from .nil) h
end cw

