/- Printed: what each function asks, and that it is sound. -/
import Derived.Test.YtiebboaeaoobmaaGreatFnsC
set_option linter.unusedSimpArgs false
set_option linter.unusedVariables false
set_option maxRecDepth 100000
set_option maxHeartbeats 1000000
noncomputable section
namespace Go.Proofs.YtiebboaeaoobmaaGreat
open Go
/-! (*moraine/morainelaw15.play).call -/
namespace morainelaw15_play_call
def K0:=Func.code Tryz.f10
def K2:=cb K0
def K4:=cb K2
def K6:=cb K4
def K7:=ca K6
def K8:=cb K6
def K10:=cb K7
def K11:=ca K10
def K13:=cb K11
def K14:=ca K13
def K15:=cb K13
def K16:=ca K14
def K31:=cb K15
def K32:=ca K31
def K33:=cb K31
def K34:=ca K32
def K39:=cb K33
def K40:=ca K39
def K41:=cb K39
def K42:=ca K40
def K45:=cb K42
def K46:=ca K45
def K47:=ca K46
def K60:=cb K41
def K61:=ca K60
def K63:=ca K61
def K65:=ca K8
end morainelaw15_play_call
def morainelaw15_play_call.pt(x:zW)(ai a1 ab a0:Int)(a9:Bool)(H:zV)(R:zw):Prop:=
 ∀(b:Nat) (H1:zV),b=H.size->H1=H.push (.cells #[.int .i64 ai,.int .i64 a1,.int .i64 ab,.int .i64 a0,.bool a9] 28)->
 ∃a6:Int,hat H1 ((ad b).add 1)=some (.int .i64 a6)/\
 morainelaw15_at.C a6 40 H1 (λv H2=> ∃d:Int,v=.int .i64 d/\
 ∃a8:Int,hat H2 ((ad b).add 2)=some (.int .i64 a8)/\
 morainelaw15_at.C a8 1000 H2 (λbz H3=> ∃g:Int,bz=.int .i64 g/\
 ∃a7:Int,hat H3 (ad b)=some (.int .i64 a7)/\
 morainelaw15_at.C a7 6 H3 (λb0 H4=> ∃m:Int,b0=.int .i64 m/\
 if m=2 then(
 ∃xA:Addr,x=some xA/\
 ∃y:zW,hat H4 xA=some (.pointer y)/\
 ∃aa:Int,hat H4 (xA.add 1)=some (.int .u64 aa)/\
 yX d 40/\
 ∃ao:Int,hat H4 ((xA.add 2).add (Int.toNat d*1))=some (.int .u64 ao)/\
 eqtab_Get.C y aa ao H4 (λbs H5=> ∃(ra:Int) (rb:Bool) (rc:Int),bs=.tuple #[.int .u64 ra,.bool rb,.int .i64 rc]/\
 ∃al:zW,hat H5 (xA.add 42)=some (.pointer al)/\
 moraineref15_Table_Find.C al d H5 (λbp H6=> ∃j:Int,bp=.int .i64 j/\
 if j<0 then(
 R (.bool (((rc==0) && (!rb)) && (ra==0))) H6)
 else
 ∃J:Bool->zV->Prop,(
 if rc=0 then(
 if rb=true then(
 ∃a2:zW,hat H6 (xA.add 42)=some (.pointer a2)/\
 ∃a3:Addr,a2=some a3/\
 ∃(xB:zW) (xN xC:Nat),hat H6 a3=some (.slice xB xN xC)/\
 ∃ap:Addr,xB=some ap/\
 yX j xN/\
 ∃az:Int,hat H6 ((ap.add (Int.toNat j*2)).add 1)=some (.int .i64 az)/\
 morainelaw15_fix.C az H6 (λbw H8=> ∃ay:Int,bw=.int .u64 ay/\
 J (ra==ay) H8))
 else
 J false H6)
 else
 J false H6)/\ ∀(s4:Bool) (H7:zV),J s4 H7->
 R (.bool s4) H7)))
 else
 if m=3 then(
 ∃f:Addr,x=some f/\
 ∃r:zW,hat H4 f=some (.pointer r)/\
 ∃u:Int,hat H4 (f.add 1)=some (.int .u64 u)/\
 yX d 40/\
 ∃ak:Int,hat H4 ((f.add 2).add (Int.toNat d*1))=some (.int .u64 ak)/\
 eqtab_Delete.C r u ak H4 (λbx H9=> ∃(l:Bool) (q:Int),bx=.tuple #[.bool l,.int .i64 q]/\
 ∃bd:Bool->zV->Prop,(
 if q=0 then(
 ∃am:zW,hat H9 (f.add 42)=some (.pointer am)/\
 moraineref15_Table_Delete.C am d H9 (λbr bu=> ∃av:Bool,br=.bool av/\
 bd (l==av) bu))
 else
 bd false H9)/\ ∀(aw:Bool) (H10:zV),bd aw H10->
 R (.bool aw) H10))
 else
 if m=4 then(
 ∃(ba:yZ) (m48:Int->zV->Nat),ba 0 H4/\ ∀(i:Int) (H12:zV),ba i H12->
 ∃ax:Int,hat H12 ((ad b).add 2)=some (.int .i64 ax)/\
 morainelaw15_at.C ax 40 H12 (λbt be=> ∃ah:Int,bt=.int .i64 ah/\
 if i<ah then(
 ∃ag:Addr,x=some ag/\
 ∃aq:zW,hat be ag=some (.pointer aq)/\
 obj_Heap_Cons.C aq 20 20 be (λbi bn=> ∃bh bm:Int,bi=.tuple #[.int .u64 bh,.int .i64 bm]/\
 (ba (zY (i+1)) bn/\m48 (zY (i+1)) bn<m48 i H12)))
 else
 R (.bool true) be))
 else
 if m=5 then(
 ∃af:Int,hat H4 ((ad b).add 3)=some (.int .i64 af)/\
 ∃ae:Bool,hat H4 ((ad b).add 4)=some (.bool ae)/\
 morainelaw15_at.C af 4 H4 (λbj bl=> ∃a5:Int,bj=.int .i64 a5/\RowAt bl ((ad b).add 4) 0 [.bool ae]/\
 morainelaw15_play_collect.C x a5 ae bl (λbo b1=> ∃ac:Bool,bo=.bool ac/\
 R (.bool ac) b1)))
 else
 ∃e:Addr,x=some e/\
 ∃p:zW,hat H4 e=some (.pointer p)/\
 ∃s:Int,hat H4 (e.add 1)=some (.int .u64 s)/\
 yX d 40/\
 ∃z:Int,hat H4 ((e.add 2).add (Int.toNat d*1))=some (.int .u64 z)/\
 morainelaw15_fix.C g H4 (λbg bc=> ∃a4:Int,bg=.int .u64 a4/\RowAt bc e 0 [.pointer p]/\RowAt bc (e.add 1) 0 [.int .u64 s]/\RowAt bc ((e.add 2).add (Int.toNat d*1)) 0 [.int .u64 z]/\
 eqtab_Put.C p s z a4 bc (λbk bb=> ∃o:Int,bk=.int .i64 o/\
 if o=2 then(
 ∃aj:zW,hat bb (e.add 42)=some (.pointer aj)/\
 moraineref15_Table_Find.C aj d bb (λbf b2=> ∃au:Int,bf=.int .i64 au/\
 R (.bool (decide (au<0))) b2))
 else
 ∃an:zW,hat bb (e.add 42)=some (.pointer an)/\
 moraineref15_Table_Put.C an d g bb (λ_ bq=>
 R (.bool (o==0)) bq))))))
namespace morainelaw15_play_call
theorem link{x:zW}{ai a1 ab a0:Int}{a9:Bool}{H:zV}{R:zw}(h:pt x ai a1 ab a0 a9 H R):C x ai a1 ab a0 a9 H R:=by
 refine T_en K0 174 Tryz.func10 ?_
 intro w0 Q hQ
 unfold pt zY at h
 refine T_su [(0,vp x),(1,.agg #[vi ai,vi a1,vi ab,vi a0,.bool a9])]<| T_srz 0<| T_nw (some 3) (λb=>vp (pa b)) (.cells #[vi ai,vi a1,vi ab,vi a0,.bool a9] 28) ?_
 intro b H1 e1 e2
 replace h:=h b H1 e1 e2
 refine T_pd [1] [(3,vp (pa b))]<| T_ed 1 [] []<| T_srz 1<| T_nd 1 [] [(15,vp (some ((ad b).add 1)))] ?_
 obtain⟨a6,q3,h⟩:=h
 refine T_l1 16 3 q3 [15]<| T_c (some 17) h ?_;clear h
 rintro v H2 ⟨d,rfl,h⟩
 refine T_pd [16] [(17,vi d)]<| T_ed 1 [17] [(5,vi d)]<| T_srz 2<| T_nd 1 [] [(18,vp (some ((ad b).add 2)))] ?_
 obtain⟨a8,q4,h⟩:=h
 refine T_l1 19 3 q4 [18]<| T_c (some 20) h ?_;clear h
 rintro bz H3 ⟨g,rfl,h⟩
 refine T_pd [19] [(20,vi g)]<| T_ed 1 [20] [(6,vi g)]<| T_sz<| T_srz 3<| T_nd 1 [] [(21,vp (pa b))] ?_
 obtain⟨a7,q5,h⟩:=h
 refine T_l1 22 3 q5 [21]<| T_c (some 23) h ?_;clear h
 rintro b0 H4 ⟨m,rfl,h⟩
 refine T_pd [22] [(23,vi m)]<| T_e<| T_bz 0<| T_srz 4<| T_ed 2 [] [(24,.bool (m==2))] ?_
 by_cases c6:m=2
 ·rw[if_pos c6]at h
  refine T_cTz 24 (zK c6)<| T_sz ?_
  obtain⟨xA,rfl,y,q8,aa,q9,q10,ao,q11,h⟩:=h
  refine yk 5 (Code.ops K16) [(14,xA,[vp y]),(14,(xA.add 1),[vu aa]),(14,((xA.add 2).add (Int.toNat d*1)),[vu ao])] 22 (bv 22 0) (show FactsAt _ _ _ from⟨⟨q8,trivial⟩,⟨q9,trivial⟩,⟨q11,trivial⟩,trivial⟩)<| T_gp 0 (some 27) (vp (some xA)) (bv 22 1) [(0,vp (some xA)),(5,vi d),(27,vp (some xA))]<| T_gp1 1 28 (vp (some xA)) (bv 22 3) [27]<| T_gp1 2 29 (vp (some xA)) (bv 22 7) [28]<| T_g1 3 30 (vp y) (bv 22 15) [29] (loadN 34 (vp (some xA))) (yj 14 yQ)<| T_gp1 4 31 (vp (some xA)) (bv 22 31) []<| T_gp1 5 32 (vp (some xA)) (bv 22 63) [31]<| T_gp1 6 33 (vp (some (xA.add 1))) (bv 22 127) [32]<| T_g1 7 34 (vu aa) (bv 22 255) [33] (loadN 31 (vp (some (xA.add 1)))) (yj 14 yJ)<| T_gp1 8 35 (vp (some xA)) (bv 22 511) []<| T_gp1 9 36 (vi d) (bv 22 1023) []<| T_gp1 10 37 (vp (some xA)) (bv 22 2047) [35]<| T_gp1 11 38 (vp (some (xA.add 2))) (bv 22 4095) [37]<| T_g1 12 39 (vp (some ((xA.add 2).add (Int.toNat d*1)))) (bv 22 8191) [36,38] (indexAtN 35 (vp (some (xA.add 2))) (vi d)) (λ_ w _ _ _=>indexArr_run (P:=Tryz.prog) (t:=35) (elem:=31) (sz:=1) (n:=40) (a:=(xA.add 2)) (k:=.i64) (i:=d) Tryz.underlying35 (λ_=>by kernel_rfl) q10.1 q10.2 w)<| T_g1 13 40 (vu ao) (bv 22 16383) [39] (loadN 31 (vp (some ((xA.add 2).add (Int.toNat d*1))))) (yj 14 yK)<| yv 14 (some 41) (bv 22 32767) 19 #[vp y,vu aa,vu ao] h ?_;clear h
  rintro bs H5 ⟨ra,rb,rc,rfl,h⟩
  refine⟨[(0,vp (some xA)),(5,vi d),(41,.tuple #[vu ra,.bool rb,vi rc])],pk,(show FactsAt _ _ _ from⟨trivial,trivial,trivial,trivial⟩),?_⟩
  refine T_g 15 (some 26) (.tuple #[vu ra,.bool rb,vi rc]) (bv 22 65535) [(0,vp (some xA)),(5,vi d),(26,.tuple #[vu ra,.bool rb,vi rc])] (pure (.value (.tuple #[vu ra,.bool rb,vi rc])):Sem Next) (λ_ _ _ _ _=>rfl)<| T_g1 16 42 (vu ra) (bv 22 131071) [] (pure (.value (vu ra)):Sem Next) (λ_ _ _ _ _=>rfl)<| T_g1 17 43 (.bool rb) (bv 22 262143) [] (pure (.value (.bool rb)):Sem Next) (λ_ _ _ _ _=>rfl)<| T_g1 18 44 (vi rc) (bv 22 524287) [26] (pure (.value (vi rc)):Sem Next) (λ_ _ _ _ _=>rfl)<| T_g1 19 7 (vu ra) (bv 22 1048575) [42] (pure (.value (vu ra)):Sem Next) (λ_ _ _ _ _=>rfl)<| T_g1 20 8 (.bool rb) (bv 22 2097151) [43] (pure (.value (.bool rb)):Sem Next) (λ_ _ _ _ _=>rfl)<| T_g1 21 9 (vi rc) (bv 22 4194303) [44] (pure (.value (vi rc)):Sem Next) (λ_ _ _ _ _=>rfl)<| G_sub [(0,vp (some xA)),(5,vi d),(7,vu ra),(8,.bool rb),(9,vi rc)] sk<| yw<| S_then<| T_srz 6<| T_n 3 [(0,vp (some xA)),(5,vi d),(7,vu ra),(8,.bool rb),(9,vi rc),(47,vp (some (xA.add 42)))] ?_
  obtain⟨al,q12,h⟩:=h
  refine T_l1 48 36 q12 [47]<| T_nd 1 [5] [(49,vi d)]<| T_c (some 50) h ?_;clear h
  rintro bp H6 ⟨j,rfl,h⟩
  refine T_pd [48,49] [(50,vi j)]<| T_ed 1 [50] [(10,vi j)]<| T_sz<| T_srz 7<| T_ne 2 [(0,vp (some xA)),(7,vu ra),(8,.bool rb),(9,vi rc),(10,vi j),(52,.bool (decide (j<0)))] ?_
  by_cases c13:j<0
  ·rw[if_pos c13]at h
   refine T_cTz 52 (zX c13)<| T_srz 8 ?_
   refine N_cut [(4,.bool (((rc==0) && (!rb)) && (ra==0)))] ?_ ?_
   ·exact S_then<| T_ret [4] [.bool (((rc==0) && (!rb)) && (ra==0))] hQ h
   intro hk
   refine T_n 3 [(7,vu ra),(8,.bool rb),(55,.bool (rc==0))] ?_
   by_cases c15:rc=0
   ·have b16:(rc==0)=true:=zK c15
    refine N_env [(7,vu ra),(8,.bool rb),(55,.bool true)] (by rw[b16]) ?_
    refine T_nd 4 [8,55] [(59,.bool (!rb))] ?_
    by_cases c17:rb=true
    ·have b18:(!rb)=false:=congrArg Bool.not (c17)
     have b182:rb=true:=c17
     refine N_bd 59 (b:=(!rb)) (v:=false) (by simp only[b18,b182,Bool.not_true,Bool.not_false])<| T_n 4 [(4,.bool false)] ?_
     refine zq<| S_env [(4,.bool (((rc==0) && (!rb)) && (ra==0)))] (by simp only[b16,b18,BL]) ?_
     exact hk
    have b18:(!rb)=true:=congrArg Bool.not (zZ c17)
    have b182:rb=false:=zZ c17
    refine N_bd 59 (b:=(!rb)) (v:=true) (by simp only[b18,b182,Bool.not_true,Bool.not_false])<| T_n 4 [(4,.bool (ra==0))] ?_
    refine zq<| S_env [(4,.bool (((rc==0) && (!rb)) && (ra==0)))] (by simp only[b16,b18,BL]) ?_
    exact hk
   have b16:(rc==0)=false:=zJ c15
   refine N_env [(7,vu ra),(8,.bool rb),(55,.bool false)] (by rw[b16]) ?_
   refine T_n 8 [(4,.bool false)]<| zq<| S_env [(4,.bool (((rc==0) && (!rb)) && (ra==0)))] (by simp only[b16,BL]) ?_
   exact hk
  rw[if_neg c13]at h
  refine T_cFz 52 (zQ c13)<| T_kt<| T_sz ?_
  obtain⟨J,h,j20⟩:=h
  refine S_join (σ:=Bool) (λs_=> [(4,.bool s_)]) (λs_ H=>J s_ H) ?_ ?_
  ·rintro s4 H7 j21
   replace h:=j20 s4 H7 j21
   exact T_su [(4,.bool s4)]<| S_then<| T_ret [4] [.bool s4] hQ h
  refine T_rz 9<| T_n 3 [(0,vp (some xA)),(7,vu ra),(8,.bool rb),(10,vi j),(65,.bool (rc==0))] ?_
  by_cases c22:rc=0
  ·rw[if_pos c22]at h
   have b23:(rc==0)=true:=zK c22
   refine N_env [(0,vp (some xA)),(7,vu ra),(8,.bool rb),(10,vi j),(65,.bool true)] (by rw[b23]) ?_
   clear b23
   refine T_nd 3 [8,65] [(68,.bool rb)] ?_
   by_cases c24:rb=true
   ·rw[if_pos c24]at h
    refine N_bd 68 c24<| T_nd 4 [0,7] [(69,vu ra),(72,vp (some (xA.add 42)))] ?_
    obtain⟨a2,q26,h⟩:=h
    refine T_l1 73 36 q26 [72] ?_
    obtain⟨a3,rfl,h⟩:=h
    refine T_nd 2 [73] [(75,vp (some a3))] ?_
    obtain⟨xB,xN,xC,q27,h⟩:=h
    refine T_l1 76 62 q27 [75]<| T_nd 1 [10] [(77,vi j)] ?_
    obtain⟨ap,rfl,q28,h⟩:=h
    refine T_xd (some 78) 62 67 2 ap xN xC .i64 j Tryz.underlying62 q28.1 q28.2 [76,77] [(78,vp (some (ap.add (Int.toNat j*2))))]<| T_nd 1 [78] [(79,vp (some ((ap.add (Int.toNat j*2)).add 1)))] ?_
    obtain⟨az,q29,h⟩:=h
    refine T_l1 80 3 q29 [79]<| T_c (some 81) h ?_;clear h
    rintro bw H8 ⟨ay,rfl,h⟩
    exact T_pd [80] [(81,vu ay)]<| T_ne 3 [(4,.bool (ra==ay))]<| S_meet ((ra==ay):Bool) sk h
   rw[if_neg c24]at h
   refine N_bd 68 (zZ c24)<| T_ne 16 [(4,.bool false)] ?_
   exact S_meet (false:Bool) sk h
  rw[if_neg c22]at h
  have b23:(rc==0)=false:=zJ c22
  refine N_env [(0,vp (some xA)),(7,vu ra),(8,.bool rb),(10,vi j),(65,.bool false)] (by rw[b23]) ?_
  clear b23
  exact T_ne 19 [(4,.bool false)]<| S_meet (false:Bool) sk h
 rw[if_neg c6]at h
 refine T_cFz 24 (zJ c6)<| T_srz 10<| T_ed 2 [24] [(84,.bool (m==3))] ?_
 by_cases c30:m=3
 ·rw[if_pos c30]at h
  refine T_cTz 84 (zK c30)<| T_sz ?_
  obtain⟨f,rfl,r,q32,u,q33,q34,ak,q35,h⟩:=h
  refine yk 11 (Code.ops K34) [(14,f,[vp r]),(14,(f.add 1),[vu u]),(14,((f.add 2).add (Int.toNat d*1)),[vu ak])] 20 (bv 20 0) (show FactsAt _ _ _ from⟨⟨q32,trivial⟩,⟨q33,trivial⟩,⟨q35,trivial⟩,trivial⟩)<| T_gp 0 (some 87) (vp (some f)) (bv 20 1) [(0,vp (some f)),(5,vi d),(87,vp (some f))]<| T_gp1 1 88 (vp (some f)) (bv 20 3) [87]<| T_gp1 2 89 (vp (some f)) (bv 20 7) [88]<| T_g1 3 90 (vp r) (bv 20 15) [89] (loadN 34 (vp (some f))) (yj 14 yQ)<| T_gp1 4 91 (vp (some f)) (bv 20 31) []<| T_gp1 5 92 (vp (some f)) (bv 20 63) [91]<| T_gp1 6 93 (vp (some (f.add 1))) (bv 20 127) [92]<| T_g1 7 94 (vu u) (bv 20 255) [93] (loadN 31 (vp (some (f.add 1)))) (yj 14 yJ)<| T_gp1 8 95 (vp (some f)) (bv 20 511) []<| T_gp1 9 96 (vi d) (bv 20 1023) []<| T_gp1 10 97 (vp (some f)) (bv 20 2047) [95]<| T_gp1 11 98 (vp (some (f.add 2))) (bv 20 4095) [97]<| T_g1 12 99 (vp (some ((f.add 2).add (Int.toNat d*1)))) (bv 20 8191) [96,98] (indexAtN 35 (vp (some (f.add 2))) (vi d)) (λ_ w _ _ _=>indexArr_run (P:=Tryz.prog) (t:=35) (elem:=31) (sz:=1) (n:=40) (a:=(f.add 2)) (k:=.i64) (i:=d) Tryz.underlying35 (λ_=>by kernel_rfl) q34.1 q34.2 w)<| T_g1 13 100 (vu ak) (bv 20 16383) [99] (loadN 31 (vp (some ((f.add 2).add (Int.toNat d*1))))) (yj 14 yK)<| yv 14 (some 101) (bv 20 32767) 20 #[vp r,vu u,vu ak] h ?_;clear h
  rintro bx H9 ⟨l,q,rfl,h⟩
  refine⟨[(0,vp (some f)),(5,vi d),(101,.tuple #[.bool l,vi q])],pk,(show FactsAt _ _ _ from⟨trivial,trivial,trivial,trivial⟩),?_⟩
  refine T_g 15 (some 86) (.tuple #[.bool l,vi q]) (bv 20 65535) [(0,vp (some f)),(5,vi d),(86,.tuple #[.bool l,vi q])] (pure (.value (.tuple #[.bool l,vi q])):Sem Next) (λ_ _ _ _ _=>rfl)<| T_g1 16 102 (.bool l) (bv 20 131071) [] (pure (.value (.bool l)):Sem Next) (λ_ _ _ _ _=>rfl)<| T_g1 17 103 (vi q) (bv 20 262143) [86] (pure (.value (vi q)):Sem Next) (λ_ _ _ _ _=>rfl)<| T_g1 18 11 (.bool l) (bv 20 524287) [102] (pure (.value (.bool l)):Sem Next) (λ_ _ _ _ _=>rfl)<| T_g1 19 12 (vi q) (bv 20 1048575) [103] (pure (.value (vi q)):Sem Next) (λ_ _ _ _ _=>rfl)<| G_sub [(0,vp (some f)),(5,vi d),(11,.bool l),(12,vi q)] sk<| yw<| S_then<| T_sz ?_
  obtain⟨bd,h,j37⟩:=h
  refine S_join (σ:=Bool) (λs_=> [(4,.bool s_)]) (λs_ H=>bd s_ H) ?_ ?_
  ·rintro aw H10 j38
   replace h:=j37 aw H10 j38
   exact T_su [(4,.bool aw)]<| S_then<| T_ret [4] [.bool aw] hQ h
  refine T_rz 12<| T_n 3 [(0,vp (some f)),(5,vi d),(11,.bool l),(106,.bool (q==0))] ?_
  by_cases c39:q=0
  ·rw[if_pos c39]at h
   have b40:(q==0)=true:=zK c39
   refine N_env [(0,vp (some f)),(5,vi d),(11,.bool l),(106,.bool true)] (by rw[b40]) ?_
   clear b40
   refine T_nd 4 [0,11] [(107,.bool l),(110,vp (some (f.add 42)))] ?_
   obtain⟨am,q41,h⟩:=h
   refine T_l1 111 36 q41 [110]<| T_nd 1 [5] [(112,vi d)]<| T_c (some 113) h ?_;clear h
   rintro br bu ⟨av,rfl,h⟩
   exact T_pd [111,112] [(113,.bool av)]<| T_ne 3 [(4,.bool (l==av))]<| S_meet ((l==av):Bool) sk h
  rw[if_neg c39]at h
  have b40:(q==0)=false:=zJ c39
  refine N_env [(0,vp (some f)),(5,vi d),(11,.bool l),(106,.bool false)] (by rw[b40]) ?_
  clear b40
  exact T_ne 10 [(4,.bool false)]<| S_meet (false:Bool) sk h
 rw[if_neg c30]at h
 refine T_cFz 84 (zJ c30)<| T_srz 13<| T_ed 2 [84] [(116,.bool (m==4))] ?_
 by_cases c42:m=4
 ·rw[if_pos c42]at h
  refine T_cTz 116 (zK c42)<| T_sz<| T_srz 14<| T_ed 1 [5,6,23,116] [(13,vi 0)]<| T_bz 1 ?_
  obtain⟨ba,m48,i44,i45⟩:=h
  refine S_loop (x:=K47) (σ:=Int) (λs_=> [(0,vp x),(3,vp (pa b)),(13,vi s_)]) (λs_ H=>ba s_ H) (λs_ H=>m48 s_ H) (0:Int) (by kernel_rfl) i44 sk ?_
  rintro i H12 i46
  have h:=i45 i H12 i46
  refine T_su [(0,vp x),(3,vp (pa b)),(13,vi i)]<| T_sz<| T_srz 15<| T_nd 2 [] [(118,vi i),(119,vp (some ((ad b).add 2)))] ?_
  obtain⟨ax,q47,h⟩:=h
  refine T_l1 120 3 q47 [119]<| T_c (some 121) h ?_;clear h
  rintro bt be ⟨ah,rfl,h⟩
  refine T_pd [120] [(121,vi ah)]<| T_ed 1 [118,121] [(122,.bool (decide (i<ah)))] ?_
  by_cases c48:i<ah
  ·rw[if_pos c48]at h
   refine T_cTz 122 (zX c48)<| T_kt<| T_sz<| T_bz 2<| T_rz 17<| T_nd 1 [122] [(125,vp x)] ?_
   obtain⟨ag,rfl,h⟩:=h
   refine T_nd 2 [0,125] [(0,vp (some ag)),(127,vp (some ag))] ?_
   obtain⟨aq,q50,h⟩:=h
   refine T_l1 128 34 q50 [127]<| T_c (some 129) h ?_;clear h
   rintro bi bn ⟨bh,bm,rfl,h⟩
   exact T_pd [128] []<| zq<| S_blockEnd<| S_then<| T_rz 16<| T_ed 3 [13] [(13,vi (zY (i+1)))]<| S_round ((zY (i+1)):Int) sk h
  rw[if_neg c48]at h
  exact T_cFz 122 (zQ c48)<| zj 1<| S_exitThen<| S_exitThen<| S_exitHere<| S_then<| T_srz 18<| T_nr 1 [4] [.bool true] hQ h
 rw[if_neg c42]at h
 refine T_cFz 116 (zJ c42)<| T_srz 19<| T_ed 2 [23,116] [(130,.bool (m==5))] ?_
 by_cases c51:m=5
 ·rw[if_pos c51]at h
  refine T_cTz 130 (zK c51)<| T_sz ?_
  obtain⟨af,q53,ae,q54,h⟩:=h
  refine yk 20 (Code.ops K63) [(3,((ad b).add 3),[vi af]),(6,((ad b).add 4),[.bool ae])] 8 (bv 8 0) (show FactsAt _ _ _ from⟨⟨q53,trivial⟩,⟨q54,trivial⟩,trivial⟩)<| T_gp 0 (some 132) (vp x) (bv 8 1) [(3,vp (pa b)),(132,vp x)]<| T_gp1 1 133 (vp (some ((ad b).add 3))) (bv 8 3) []<| T_g1 2 134 (vi af) (bv 8 7) [133] (loadN 3 (vp (some ((ad b).add 3)))) (yj 3 yQ)<| T_gp1 4 136 (vp (some ((ad b).add 4))) (bv 8 23) [3]<| T_g1 5 137 (.bool ae) (bv 8 55) [136] (loadN 4 (vp (some ((ad b).add 4)))) (yj 6 yJ)<| yv 3 (some 135) (bv 8 63) 13 #[vi af,vi 4] h ?_;clear h
  rintro bj bl ⟨a5,rfl,f55,h⟩
  refine⟨[(132,vp x),(135,vi a5),(137,.bool ae)],pk,(show FactsAt _ _ _ from⟨trivial,f55,trivial⟩),?_⟩
  refine yv 6 (some 138) (bv 8 127) 28 #[vp x,vi a5,.bool ae] h ?_;clear h
  rintro bo b1 ⟨ac,rfl,h⟩
  refine⟨[(138,.bool ac)],pk,(show FactsAt _ _ _ from⟨trivial,trivial,trivial⟩),?_⟩
  exact T_g 7 (some 4) (.bool ac) (bv 8 255) [(4,.bool ac)] (pure (.value (.bool ac)):Sem Next) (λ_ _ _ _ _=>rfl)<| G_sub [(4,.bool ac)] sk<| yw<| S_then<| T_ret [4] [.bool ac] hQ h
 rw[if_neg c51]at h
 refine T_cFz 130 (zJ c51)<| T_k<| S_blockEnd<| S_then<| T_sz ?_
 obtain⟨e,rfl,p,q56,s,q57,q58,z,q59,h⟩:=h
 refine yk 21 (Code.ops K65) [(16,e,[vp p]),(16,(e.add 1),[vu s]),(16,((e.add 2).add (Int.toNat d*1)),[vu z])] 18 (bv 18 0) (show FactsAt _ _ _ from⟨⟨q56,trivial⟩,⟨q57,trivial⟩,⟨q59,trivial⟩,trivial⟩)<| T_gp 0 (some 139) (vp (some e)) (bv 18 1) [(0,vp (some e)),(5,vi d),(6,vi g),(139,vp (some e))]<| T_gp1 1 140 (vp (some e)) (bv 18 3) [139]<| T_gp1 2 141 (vp (some e)) (bv 18 7) [140]<| T_g1 3 142 (vp p) (bv 18 15) [141] (loadN 34 (vp (some e))) (yj 16 yQ)<| T_gp1 4 143 (vp (some e)) (bv 18 31) []<| T_gp1 5 144 (vp (some e)) (bv 18 63) [143]<| T_gp1 6 145 (vp (some (e.add 1))) (bv 18 127) [144]<| T_g1 7 146 (vu s) (bv 18 255) [145] (loadN 31 (vp (some (e.add 1)))) (yj 16 yJ)<| T_gp1 8 147 (vp (some e)) (bv 18 511) []<| T_gp1 9 148 (vi d) (bv 18 1023) []<| T_gp1 10 149 (vp (some e)) (bv 18 2047) [147]<| T_gp1 11 150 (vp (some (e.add 2))) (bv 18 4095) [149]<| T_g1 12 151 (vp (some ((e.add 2).add (Int.toNat d*1)))) (bv 18 8191) [148,150] (indexAtN 35 (vp (some (e.add 2))) (vi d)) (λ_ w _ _ _=>indexArr_run (P:=Tryz.prog) (t:=35) (elem:=31) (sz:=1) (n:=40) (a:=(e.add 2)) (k:=.i64) (i:=d) Tryz.underlying35 (λ_=>by kernel_rfl) q58.1 q58.2 w)<| T_g1 13 152 (vu z) (bv 18 16383) [151] (loadN 31 (vp (some ((e.add 2).add (Int.toNat d*1))))) (yj 16 yK)<| T_gp1 14 153 (vi g) (bv 18 32767) []<| yv 15 (some 154) (bv 18 65535) 16 #[vi g] h ?_;clear h
 rintro bg bc ⟨a4,rfl,f60,f61,f62,h⟩
 refine⟨[(0,vp (some e)),(5,vi d),(6,vi g),(142,vp p),(146,vu s),(152,vu z),(154,vu a4)],pk,(show FactsAt _ _ _ from⟨f60,f61,f62,trivial⟩),?_⟩
 refine yv 16 (some 155) (bv 18 131071) 15 #[vp p,vu s,vu z,vu a4] h ?_;clear h
 rintro bk bb ⟨o,rfl,h⟩
 refine⟨[(0,vp (some e)),(5,vi d),(6,vi g),(155,vi o)],pk,(show FactsAt _ _ _ from⟨trivial,trivial,trivial,trivial⟩),?_⟩
 refine T_g 17 (some 14) (vi o) (bv 18 262143) [(0,vp (some e)),(5,vi d),(6,vi g),(14,vi o)] (pure (.value (vi o)):Sem Next) (λ_ _ _ _ _=>rfl)<| G_sub [(0,vp (some e)),(5,vi d),(6,vi g),(14,vi o)] sk<| yw<| S_then<| T_sz<| T_srz 22<| T_ne 2 [(0,vp (some e)),(5,vi d),(6,vi g),(14,vi o),(157,.bool (o==2))] ?_
 by_cases c63:o=2
 ·rw[if_pos c63]at h
  refine T_cTz 157 (zK c63)<| T_srz 23<| T_n 3 [(5,vi d),(160,vp (some (e.add 42)))] ?_
  obtain⟨aj,q65,h⟩:=h
  refine T_l1 161 36 q65 [160]<| T_nd 1 [5] [(162,vi d)]<| T_c (some 163) h ?_;clear h
  rintro bf b2 ⟨au,rfl,h⟩
  refine⟨[(163,vi au)],pk,?_⟩
  exact T_nr 2 [4] [.bool (decide (au<0))] hQ h
 rw[if_neg c63]at h
 refine T_cFz 157 (zJ c63)<| T_kt<| T_srz 24<| T_nd 3 [0,157] [(167,vp (some (e.add 42)))] ?_
 obtain⟨an,q66,h⟩:=h
 refine T_l1 168 36 q66 [167]<| T_nd 2 [5,6] [(169,vi d),(170,vi g)]<| T_c (some 171) h ?_;clear h
 intro v_16 bq h
 refine⟨[(14,vi o)],pk,?_⟩
 exact T_e<| T_srz 25<| T_nr 3 [4] [.bool (o==0)] hQ h
end morainelaw15_play_call

/-! (*moraine/morainelaw15.play).told -/
namespace morainelaw15_play_told
def K0:=Func.code Tryz.f11
def K2:=cb K0
def K3:=ca K2
def K4:=cb K2
def K5:=ca K4
def K6:=cb K4
def K7:=ca K6
def K8:=cb K6
def K10:=cb K8
def K17:=ca K10
def K20:=cb K17
def K21:=ca K20
def K22:=ca K21
def K24:=cb K22
def K29:=ca K24
def K31:=ca K29
def K32:=ca K31
end morainelaw15_play_told
def morainelaw15_play_told.pt(x:zW)(H:zV)(R:zw):Prop:=
 ∃xA:Addr,x=some xA/\
 ∃ah:zW,hat H xA=some (.pointer ah)/\
 ∃ao:Int,hat H (xA.add 1)=some (.int .u64 ao)/\
 eqtab_Count.C ah ao H (λv H1=> ∃ra rb:Int,v=.tuple #[.int .i64 ra,.int .i64 rb]/\
 ∃ak:zW,hat H1 xA=some (.pointer ak)/\
 ∃am:Int,hat H1 (xA.add 1)=some (.int .u64 am)/\
 eqtab_Keys.C ak am H1 (λa1 H2=> ∃(m:zW) (e f:Nat) (p:Int),a1=.tuple #[.slice m e f,.int .i64 p]/\
 ∃ai:zW,hat H2 xA=some (.pointer ai)/\
 ∃an:Int,hat H2 (xA.add 1)=some (.int .u64 an)/\
 eqtab_Values.C ai an H2 (λa0 H3=> ∃(g:zW) (b d:Nat) (u:Int),a0=.tuple #[.slice g b d,.int .i64 u]/\
 if rb=0 then(
 if p=0 then(
 if u=0 then(
 ∃aq:zW,hat H3 (xA.add 42)=some (.pointer aq)/\
 ∃au:Addr,aq=some au/\
 ∃(xB:zW) (xN xC:Nat),hat H3 au=some (.slice xB xN xC)/\
 if(((ra !=(xN:Int)) || ((e:Int) !=ra)) || ((b:Int) !=ra))=true then(
 R (.bool false) H3)
 else
 ∃(ap:yZ) (m23:Int->zV->Nat),ap 0 H3/\ ∀(i:Int) (H4:zV),ap i H4->
 if i<ra then(
 ∃j:Addr,m=some j/\
 yX i e/\
 ∃o:Int,hat H4 (j.add (Int.toNat i*1))=some (.int .u64 o)/\
 ∃ax:zW,hat H4 (xA.add 42)=some (.pointer ax)/\
 ∃y:Addr,ax=some y/\
 ∃(aw:zW) (ab af:Nat),hat H4 y=some (.slice aw ab af)/\
 ∃r:Addr,aw=some r/\
 yX i ab/\
 ∃s:Int,hat H4 (r.add (Int.toNat i*2))=some (.int .i64 s)/\
 yX s 40/\
 ∃z:Int,hat H4 ((xA.add 2).add (Int.toNat s*1))=some (.int .u64 z)/\
 if o=z then(
 ∃l:Addr,g=some l/\
 yX i b/\
 ∃q:Int,hat H4 (l.add (Int.toNat i*1))=some (.int .u64 q)/\
 ∃av:zW,hat H4 (xA.add 42)=some (.pointer av)/\
 ∃ac:Addr,av=some ac/\
 ∃(ay:zW) (ag aj:Nat),hat H4 ac=some (.slice ay ag aj)/\
 ∃aa:Addr,ay=some aa/\
 yX i ag/\
 ∃al:Int,hat H4 ((aa.add (Int.toNat i*2)).add 1)=some (.int .i64 al)/\
 morainelaw15_fix.C al H4 (λaz H5=> ∃ae:Int,az=.int .u64 ae/\RowAt H5 (l.add (Int.toNat i*1)) 0 [.int .u64 q]/\
 if q=ae then(
 (ap (zY (i+1)) H5/\m23 (zY (i+1)) H5<m23 i H4))
 else
 R (.bool false) H5))
 else
 R (.bool false) H4)
 else
 R (.bool true) H4)
 else
 R (.bool false) H3)
 else
 R (.bool false) H3)
 else
 R (.bool false) H3)))
namespace morainelaw15_play_told
theorem link{x:zW}{H:zV}{R:zw}(h:pt x H R):C x H R:=by
 refine T_en K0 125 Tryz.func11 ?_
 intro w0 Q hQ
 unfold pt zY at h
 refine T_su [(0,vp x)]<| T_srz 0<| T_ed 1 [] []<| T_sz ?_
 obtain⟨xA,rfl,ah,q1,ao,q2,h⟩:=h
 refine yk 1 (Code.ops K3) [(8,xA,[vp ah]),(8,(xA.add 1),[vu ao])] 14 (bv 14 0) (show FactsAt _ _ _ from⟨⟨q1,trivial⟩,⟨q2,trivial⟩,trivial⟩)<| T_gp 0 (some 11) (vp (some xA)) (bv 14 1) [(0,vp (some xA)),(11,vp (some xA))]<| T_gp1 1 12 (vp (some xA)) (bv 14 3) [11]<| T_gp1 2 13 (vp (some xA)) (bv 14 7) [12]<| T_g1 3 14 (vp ah) (bv 14 15) [13] (loadN 34 (vp (some xA))) (yj 8 yQ)<| T_gp1 4 15 (vp (some xA)) (bv 14 31) []<| T_gp1 5 16 (vp (some xA)) (bv 14 63) [15]<| T_gp1 6 17 (vp (some (xA.add 1))) (bv 14 127) [16]<| T_g1 7 18 (vu ao) (bv 14 255) [17] (loadN 31 (vp (some (xA.add 1)))) (yj 8 yJ)<| yv 8 (some 19) (bv 14 511) 21 #[vp ah,vu ao] h ?_;clear h
 rintro v H1 ⟨ra,rb,rfl,h⟩
 refine⟨[(0,vp (some xA)),(19,.tuple #[vi ra,vi rb])],pk,(show FactsAt _ _ _ from⟨trivial,trivial,trivial⟩),?_⟩
 refine T_g 9 (some 10) (.tuple #[vi ra,vi rb]) (bv 14 1023) [(0,vp (some xA)),(10,.tuple #[vi ra,vi rb])] (pure (.value (.tuple #[vi ra,vi rb])):Sem Next) (λ_ _ _ _ _=>rfl)<| T_g1 10 20 (vi ra) (bv 14 2047) [] (pure (.value (vi ra)):Sem Next) (λ_ _ _ _ _=>rfl)<| T_g1 11 21 (vi rb) (bv 14 4095) [10] (pure (.value (vi rb)):Sem Next) (λ_ _ _ _ _=>rfl)<| T_g1 12 3 (vi ra) (bv 14 8191) [20] (pure (.value (vi ra)):Sem Next) (λ_ _ _ _ _=>rfl)<| T_g1 13 4 (vi rb) (bv 14 16383) [21] (pure (.value (vi rb)):Sem Next) (λ_ _ _ _ _=>rfl)<| G_sub [(0,vp (some xA)),(3,vi ra),(4,vi rb)] sk<| yw<| S_then<| T_sz ?_
 obtain⟨ak,q3,am,q4,h⟩:=h
 refine yk 2 (Code.ops K5) [(8,xA,[vp ak]),(8,(xA.add 1),[vu am])] 14 (bv 14 0) (show FactsAt _ _ _ from⟨⟨q3,trivial⟩,⟨q4,trivial⟩,trivial⟩)<| T_gp 0 (some 23) (vp (some xA)) (bv 14 1) [(0,vp (some xA)),(3,vi ra),(4,vi rb),(23,vp (some xA))]<| T_gp1 1 24 (vp (some xA)) (bv 14 3) [23]<| T_gp1 2 25 (vp (some xA)) (bv 14 7) [24]<| T_g1 3 26 (vp ak) (bv 14 15) [25] (loadN 34 (vp (some xA))) (yj 8 yQ)<| T_gp1 4 27 (vp (some xA)) (bv 14 31) []<| T_gp1 5 28 (vp (some xA)) (bv 14 63) [27]<| T_gp1 6 29 (vp (some (xA.add 1))) (bv 14 127) [28]<| T_g1 7 30 (vu am) (bv 14 255) [29] (loadN 31 (vp (some (xA.add 1)))) (yj 8 yJ)<| yv 8 (some 31) (bv 14 511) 22 #[vp ak,vu am] h ?_;clear h
 rintro a1 H2 ⟨m,e,f,p,rfl,h⟩
 refine⟨[(0,vp (some xA)),(3,vi ra),(4,vi rb),(31,.tuple #[vs m e f,vi p])],pk,(show FactsAt _ _ _ from⟨trivial,trivial,trivial⟩),?_⟩
 refine T_g 9 (some 22) (.tuple #[vs m e f,vi p]) (bv 14 1023) [(0,vp (some xA)),(3,vi ra),(4,vi rb),(22,.tuple #[vs m e f,vi p])] (pure (.value (.tuple #[vs m e f,vi p])):Sem Next) (λ_ _ _ _ _=>rfl)<| T_g1 10 32 (vs m e f) (bv 14 2047) [] (pure (.value (vs m e f)):Sem Next) (λ_ _ _ _ _=>rfl)<| T_g1 11 33 (vi p) (bv 14 4095) [22] (pure (.value (vi p)):Sem Next) (λ_ _ _ _ _=>rfl)<| T_g1 12 5 (vs m e f) (bv 14 8191) [32] (pure (.value (vs m e f)):Sem Next) (λ_ _ _ _ _=>rfl)<| T_g1 13 6 (vi p) (bv 14 16383) [33] (pure (.value (vi p)):Sem Next) (λ_ _ _ _ _=>rfl)<| G_sub [(0,vp (some xA)),(3,vi ra),(4,vi rb),(5,vs m e f),(6,vi p)] sk<| yw<| S_then<| T_sz ?_
 obtain⟨ai,q5,an,q6,h⟩:=h
 refine yk 3 (Code.ops K7) [(8,xA,[vp ai]),(8,(xA.add 1),[vu an])] 14 (bv 14 0) (show FactsAt _ _ _ from⟨⟨q5,trivial⟩,⟨q6,trivial⟩,trivial⟩)<| T_gp 0 (some 35) (vp (some xA)) (bv 14 1) [(0,vp (some xA)),(3,vi ra),(4,vi rb),(5,vs m e f),(6,vi p),(35,vp (some xA))]<| T_gp1 1 36 (vp (some xA)) (bv 14 3) [35]<| T_gp1 2 37 (vp (some xA)) (bv 14 7) [36]<| T_g1 3 38 (vp ai) (bv 14 15) [37] (loadN 34 (vp (some xA))) (yj 8 yQ)<| T_gp1 4 39 (vp (some xA)) (bv 14 31) []<| T_gp1 5 40 (vp (some xA)) (bv 14 63) [39]<| T_gp1 6 41 (vp (some (xA.add 1))) (bv 14 127) [40]<| T_g1 7 42 (vu an) (bv 14 255) [41] (loadN 31 (vp (some (xA.add 1)))) (yj 8 yJ)<| yv 8 (some 43) (bv 14 511) 24 #[vp ai,vu an] h ?_;clear h
 rintro a0 H3 ⟨g,b,d,u,rfl,h⟩
 refine⟨[(0,vp (some xA)),(3,vi ra),(4,vi rb),(5,vs m e f),(6,vi p),(43,.tuple #[vs g b d,vi u])],pk,(show FactsAt _ _ _ from⟨trivial,trivial,trivial⟩),?_⟩
 refine T_g 9 (some 34) (.tuple #[vs g b d,vi u]) (bv 14 1023) [(0,vp (some xA)),(3,vi ra),(4,vi rb),(5,vs m e f),(6,vi p),(34,.tuple #[vs g b d,vi u])] (pure (.value (.tuple #[vs g b d,vi u])):Sem Next) (λ_ _ _ _ _=>rfl)<| T_g1 10 44 (vs g b d) (bv 14 2047) [] (pure (.value (vs g b d)):Sem Next) (λ_ _ _ _ _=>rfl)<| T_g1 11 45 (vi u) (bv 14 4095) [34] (pure (.value (vi u)):Sem Next) (λ_ _ _ _ _=>rfl)<| T_g1 12 7 (vs g b d) (bv 14 8191) [44] (pure (.value (vs g b d)):Sem Next) (λ_ _ _ _ _=>rfl)<| T_g1 13 8 (vi u) (bv 14 16383) [45] (pure (.value (vi u)):Sem Next) (λ_ _ _ _ _=>rfl)<| G_sub [(0,vp (some xA)),(3,vi ra),(4,vi rb),(5,vs m e f),(6,vi p),(7,vs g b d),(8,vi u)] sk<| yw<| S_then<| T_sz<| T_srz 4<| T_n 3 [(0,vp (some xA)),(3,vi ra),(5,vs m e f),(6,vi p),(7,vs g b d),(8,vi u),(48,.bool (rb !=0))] ?_
 by_cases c7:rb=0
 ·rw[if_pos c7]at h
  have b8:(rb !=0)=false:=bne_eq_false_iff_eq.mpr c7
  refine N_env [(0,vp (some xA)),(3,vi ra),(5,vs m e f),(6,vi p),(7,vs g b d),(8,vi u),(48,.bool false)] (by rw[b8]) ?_
  clear b8
  refine T_nd 4 [6,48] [(52,.bool (p !=0))] ?_
  by_cases c9:p=0
  ·rw[if_pos c9]at h
   refine N_bd 52 (bne_eq_false_iff_eq.mpr c9)<| T_nd 4 [8,52] [(56,.bool (u !=0))] ?_
   by_cases c11:u=0
   ·rw[if_pos c11]at h
    refine N_bd 56 (bne_eq_false_iff_eq.mpr c11)<| T_nd 4 [] [(57,vi ra),(60,vp (some (xA.add 42)))] ?_
    obtain⟨aq,q13,h⟩:=h
    refine T_l1 61 36 q13 [60] ?_
    obtain⟨au,rfl,h⟩:=h
    refine T_nd 2 [61] [(63,vp (some au))] ?_
    obtain⟨xB,xN,xC,q14,h⟩:=h
    refine T_l1 64 62 q14 [63]<| T_nd 4 [56,57,64] [(68,.bool (ra !=(xN:Int)))] ?_
    refine N_cut [(0,vp (some xA)),(3,vi ra),(5,vs m e f),(7,vs g b d),(79,.bool (((ra !=(xN:Int)) || ((e:Int) !=ra)) || ((b:Int) !=ra)))] ?_ ?_
    ·refine S_then ?_
     by_cases c19:(((ra !=(xN:Int)) || ((e:Int) !=ra)) || ((b:Int) !=ra))=true
     ·rw[if_pos c19]at h
      exact T_cTz 79 c19<| T_srz 5<| T_nr 1 [2] [.bool false] hQ h
     rw[if_neg c19]at h
     refine T_cFz 79 (zZ c19)<| T_kt<| T_sz<| T_srz 6<| T_ne 1 [(0,vp (some xA)),(3,vi ra),(5,vs m e f),(7,vs g b d),(9,vi 0)]<| T_bz 0 ?_
     obtain⟨ap,m23,i21,i22⟩:=h
     refine S_loop (x:=K22) (σ:=Int) (λs_=> [(0,vp (some xA)),(3,vi ra),(5,vs m e f),(7,vs g b d),(9,vi s_)]) (λs_ H=>ap s_ H) (λs_ H=>m23 s_ H) (0:Int) (by kernel_rfl) i21 sk ?_
     rintro i H4 i23
     have h:=i22 i H4 i23
     refine T_su [(0,vp (some xA)),(3,vi ra),(5,vs m e f),(7,vs g b d),(9,vi i)]<| T_sz<| T_srz 7<| T_ed 3 [] [(82,.bool (decide (i<ra)))] ?_
     by_cases c24:i<ra
     ·rw[if_pos c24]at h
      refine T_cTz 82 (zX c24)<| T_kt<| T_sz<| T_bz 1<| T_sz ?_
      obtain⟨j,rfl,q26,o,q27,ax,q28,y,rfl,aw,ab,af,q29,r,rfl,q30,s,q31,q32,z,q33,h⟩:=h
      by_cases c34:o=z
      ·rw[if_pos c34]at h
       obtain⟨l,rfl,q36,q,q37,av,q38,ac,rfl,ay,ag,aj,q39,aa,rfl,q40,al,q41,h⟩:=h
       refine yk 9 (Code.ops K32) [(37,(j.add (Int.toNat i*1)),[vu o]),(37,(xA.add 42),[vp (some y)]),(37,y,[vs (some r) ab af]),(37,(r.add (Int.toNat i*2)),[vi s]),(37,((xA.add 2).add (Int.toNat s*1)),[vu z]),(40,(l.add (Int.toNat i*1)),[vu q]),(37,(xA.add 42),[vp (some ac)]),(37,ac,[vs (some aa) ag aj]),(37,((aa.add (Int.toNat i*2)).add 1),[vi al])] 40 (bv 40 0) (show FactsAt _ _ _ from⟨⟨q27,trivial⟩,⟨q28,trivial⟩,⟨q29,trivial⟩,⟨q31,trivial⟩,⟨q33,trivial⟩,⟨q37,trivial⟩,⟨q38,trivial⟩,⟨q39,trivial⟩,⟨q41,trivial⟩,trivial⟩)<| T_gp 0 (some 85) (vs (some j) e f) (bv 40 1) [(0,vp (some xA)),(3,vi ra),(5,vs (some j) e f),(7,vs (some l) b d),(9,vi i),(85,vs (some j) e f)]<| T_gp1 1 86 (vi i) (bv 40 3) []<| T_g1 2 87 (vp (some (j.add (Int.toNat i*1)))) (bv 40 7) [85,86] (indexAtN 54 (vs (some j) e f) (vi i)) (λ_ w _ _ _=>indexAt_run (P:=Tryz.prog) (t:=54) (elem:=31) (sz:=1) (a:=j) (len:=e) (cap:=f) (k:=.i64) (i:=i) Tryz.underlying54 (λ_=>by kernel_rfl) q26.1 q26.2 w)<| T_g1 3 88 (vu o) (bv 40 15) [87] (loadN 31 (vp (some (j.add (Int.toNat i*1))))) (yj 37 yQ)<| T_gp1 4 89 (vp (some xA)) (bv 40 31) []<| T_gp1 5 90 (vp (some xA)) (bv 40 63) []<| T_gp1 6 91 (vp (some xA)) (bv 40 127) [90]<| T_gp1 7 92 (vp (some (xA.add 42))) (bv 40 255) [91]<| T_g1 8 93 (vp (some y)) (bv 40 511) [92] (loadN 36 (vp (some (xA.add 42)))) (yj 37 yJ)<| T_gp1 9 94 (vp (some y)) (bv 40 1023) [93]<| T_gp1 10 95 (vp (some y)) (bv 40 2047) [94]<| T_g1 11 96 (vs (some r) ab af) (bv 40 4095) [95] (loadN 62 (vp (some y))) (yj 37 yK)<| T_gp1 12 97 (vi i) (bv 40 8191) []<| T_g1 13 98 (vp (some (r.add (Int.toNat i*2)))) (bv 40 16383) [96,97] (indexAtN 62 (vs (some r) ab af) (vi i)) (λ_ w _ _ _=>indexAt_run (P:=Tryz.prog) (t:=62) (elem:=67) (sz:=2) (a:=r) (len:=ab) (cap:=af) (k:=.i64) (i:=i) Tryz.underlying62 (λ_=>by kernel_rfl) q30.1 q30.2 w)<| T_gp1 14 99 (vp (some (r.add (Int.toNat i*2)))) (bv 40 32767) [98]<| T_g1 15 100 (vi s) (bv 40 65535) [99] (loadN 3 (vp (some (r.add (Int.toNat i*2))))) (yj 37 yV)<| T_gp1 16 101 (vp (some xA)) (bv 40 131071) [89]<| T_gp1 17 102 (vp (some (xA.add 2))) (bv 40 262143) [101]<| T_g1 18 103 (vp (some ((xA.add 2).add (Int.toNat s*1)))) (bv 40 524287) [100,102] (indexAtN 35 (vp (some (xA.add 2))) (vi s)) (λ_ w _ _ _=>indexArr_run (P:=Tryz.prog) (t:=35) (elem:=31) (sz:=1) (n:=40) (a:=(xA.add 2)) (k:=.i64) (i:=s) Tryz.underlying35 (λ_=>by kernel_rfl) q32.1 q32.2 w)<| T_g1 19 104 (vu z) (bv 40 1048575) [103] (loadN 31 (vp (some ((xA.add 2).add (Int.toNat s*1))))) (yj 37 yW)<| T_gp1 20 105 (.bool (o !=z)) (bv 40 2097151) [88,104]<| T_gp1 21 106 (.bool (o !=z)) (bv 40 4194303) [105]<| G_bd 106 (bne_eq_false_iff_eq.mpr c34)<| T_gp1 22 107 (vs (some l) b d) (bv 40 8388607) []<| T_gp1 23 108 (vi i) (bv 40 16777215) []<| T_g1 24 109 (vp (some (l.add (Int.toNat i*1)))) (bv 40 33554431) [107,108] (indexAtN 54 (vs (some l) b d) (vi i)) (λ_ w _ _ _=>indexAt_run (P:=Tryz.prog) (t:=54) (elem:=31) (sz:=1) (a:=l) (len:=b) (cap:=d) (k:=.i64) (i:=i) Tryz.underlying54 (λ_=>by kernel_rfl) q36.1 q36.2 w)<| T_g1 25 110 (vu q) (bv 40 67108863) [109] (loadN 31 (vp (some (l.add (Int.toNat i*1))))) (held_one 40 (λ_=>by kernel_rfl) yY (.inr (by kernel_rfl)))<| T_gp1 26 111 (vp (some xA)) (bv 40 134217727) []<| T_gp1 27 112 (vp (some xA)) (bv 40 268435455) [111]<| T_gp1 28 113 (vp (some (xA.add 42))) (bv 40 536870911) [112]<| T_g1 29 114 (vp (some ac)) (bv 40 1073741823) [113] (loadN 36 (vp (some (xA.add 42)))) (yj 37 yq)<| T_gp1 30 115 (vp (some ac)) (bv 40 2147483647) [114]<| T_gp1 31 116 (vp (some ac)) (bv 40 4294967295) [115]<| T_g1 32 117 (vs (some aa) ag aj) (bv 40 8589934591) [116] (loadN 62 (vp (some ac))) (yj 37 yx)<| T_gp1 33 118 (vi i) (bv 40 17179869183) []<| T_g1 34 119 (vp (some (aa.add (Int.toNat i*2)))) (bv 40 34359738367) [117,118] (indexAtN 62 (vs (some aa) ag aj) (vi i)) (λ_ w _ _ _=>indexAt_run (P:=Tryz.prog) (t:=62) (elem:=67) (sz:=2) (a:=aa) (len:=ag) (cap:=aj) (k:=.i64) (i:=i) Tryz.underlying62 (λ_=>by kernel_rfl) q40.1 q40.2 w)<| T_gp1 35 120 (vp (some ((aa.add (Int.toNat i*2)).add 1))) (bv 40 68719476735) [119]<| T_g1 36 121 (vi al) (bv 40 137438953471) [120] (loadN 3 (vp (some ((aa.add (Int.toNat i*2)).add 1)))) (yj 37 yz)<| yv 37 (some 122) (bv 40 274877906943) 16 #[vi al] h ?_;clear h
       rintro az H5 ⟨ae,rfl,f42,h⟩
       refine⟨[(0,vp (some xA)),(3,vi ra),(5,vs (some j) e f),(7,vs (some l) b d),(9,vi i),(106,.bool false),(110,vu q),(122,vu ae)],pk,(show FactsAt _ _ _ from⟨trivial,trivial,trivial,trivial,trivial,f42,trivial,trivial,trivial,trivial⟩),?_⟩
       refine T_g 38 (some 123) (.bool (q !=ae)) (bv 40 549755813887) [(0,vp (some xA)),(3,vi ra),(5,vs (some j) e f),(7,vs (some l) b d),(9,vi i),(106,.bool false),(123,.bool (q !=ae))] (pure (.value (.bool (q !=ae))):Sem Next) (λ_ _ _ _ _=>rfl)<| T_g1 39 124 (.bool (q !=ae)) (bv 40 1099511627775) [106,123] (pure (.value (.bool (q !=ae))):Sem Next) (λ_ _ _ _ _=>rfl)<| G_sub [(0,vp (some xA)),(3,vi ra),(5,vs (some j) e f),(7,vs (some l) b d),(9,vi i),(124,.bool (q !=ae))] sk<| yw<| S_then ?_
       by_cases c43:q=ae
       ·rw[if_pos c43]at h
        exact T_cFz 124 (bne_eq_false_iff_eq.mpr c43)<| T_k<| S_blockEnd<| S_then<| T_rz 8<| T_ne 3 [(0,vp (some xA)),(3,vi ra),(5,vs (some j) e f),(7,vs (some l) b d),(9,vi (zY (i+1)))]<| S_round ((zY (i+1)):Int) sk h
       rw[if_neg c43]at h
       exact T_cTz 124 (bne_iff_ne.mpr c43)<| T_srz 10<| T_nr 1 [2] [.bool false] hQ h
      rw[if_neg c34]at h
      exact yk 9 (Code.ops K32) [(40,(j.add (Int.toNat i*1)),[vu o]),(40,(xA.add 42),[vp (some y)]),(40,y,[vs (some r) ab af]),(40,(r.add (Int.toNat i*2)),[vi s]),(40,((xA.add 2).add (Int.toNat s*1)),[vu z])] 40 (bv 40 0) (show FactsAt _ _ _ from⟨⟨q27,trivial⟩,⟨q28,trivial⟩,⟨q29,trivial⟩,⟨q31,trivial⟩,⟨q33,trivial⟩,trivial⟩)<| T_gp 0 (some 85) (vs (some j) e f) (bv 40 1) [(0,vp (some xA)),(3,vi ra),(5,vs (some j) e f),(7,vs g b d),(9,vi i),(85,vs (some j) e f)]<| T_gp1 1 86 (vi i) (bv 40 3) []<| T_g1 2 87 (vp (some (j.add (Int.toNat i*1)))) (bv 40 7) [85,86] (indexAtN 54 (vs (some j) e f) (vi i)) (λ_ w _ _ _=>indexAt_run (P:=Tryz.prog) (t:=54) (elem:=31) (sz:=1) (a:=j) (len:=e) (cap:=f) (k:=.i64) (i:=i) Tryz.underlying54 (λ_=>by kernel_rfl) q26.1 q26.2 w)<| T_g1 3 88 (vu o) (bv 40 15) [87] (loadN 31 (vp (some (j.add (Int.toNat i*1))))) (held_one 40 (λ_=>by kernel_rfl) yQ (.inr (by kernel_rfl)))<| T_gp1 4 89 (vp (some xA)) (bv 40 31) []<| T_gp1 5 90 (vp (some xA)) (bv 40 63) []<| T_gp1 6 91 (vp (some xA)) (bv 40 127) [90]<| T_gp1 7 92 (vp (some (xA.add 42))) (bv 40 255) [91]<| T_g1 8 93 (vp (some y)) (bv 40 511) [92] (loadN 36 (vp (some (xA.add 42)))) (held_one 40 (λ_=>by kernel_rfl) yJ (.inr (by kernel_rfl)))<| T_gp1 9 94 (vp (some y)) (bv 40 1023) [93]<| T_gp1 10 95 (vp (some y)) (bv 40 2047) [94]<| T_g1 11 96 (vs (some r) ab af) (bv 40 4095) [95] (loadN 62 (vp (some y))) (held_one 40 (λ_=>by kernel_rfl) yK (.inr (by kernel_rfl)))<| T_gp1 12 97 (vi i) (bv 40 8191) []<| T_g1 13 98 (vp (some (r.add (Int.toNat i*2)))) (bv 40 16383) [96,97] (indexAtN 62 (vs (some r) ab af) (vi i)) (λ_ w _ _ _=>indexAt_run (P:=Tryz.prog) (t:=62) (elem:=67) (sz:=2) (a:=r) (len:=ab) (cap:=af) (k:=.i64) (i:=i) Tryz.underlying62 (λ_=>by kernel_rfl) q30.1 q30.2 w)<| T_gp1 14 99 (vp (some (r.add (Int.toNat i*2)))) (bv 40 32767) [98]<| T_g1 15 100 (vi s) (bv 40 65535) [99] (loadN 3 (vp (some (r.add (Int.toNat i*2))))) (held_one 40 (λ_=>by kernel_rfl) yV (.inr (by kernel_rfl)))<| T_gp1 16 101 (vp (some xA)) (bv 40 131071) [89]<| T_gp1 17 102 (vp (some (xA.add 2))) (bv 40 262143) [101]<| T_g1 18 103 (vp (some ((xA.add 2).add (Int.toNat s*1)))) (bv 40 524287) [100,102] (indexAtN 35 (vp (some (xA.add 2))) (vi s)) (λ_ w _ _ _=>indexArr_run (P:=Tryz.prog) (t:=35) (elem:=31) (sz:=1) (n:=40) (a:=(xA.add 2)) (k:=.i64) (i:=s) Tryz.underlying35 (λ_=>by kernel_rfl) q32.1 q32.2 w)<| T_g1 19 104 (vu z) (bv 40 1048575) [103] (loadN 31 (vp (some ((xA.add 2).add (Int.toNat s*1))))) (held_one 40 (λ_=>by kernel_rfl) yW (.inr (by kernel_rfl)))<| T_gp1 20 105 (.bool (o !=z)) (bv 40 2097151) [88,104]<| T_gp1 21 106 (.bool (o !=z)) (bv 40 4194303) [105]<| G_bd 106 (bne_iff_ne.mpr c34)<| T_gsd 22 (some 107) (bv 40 8388607) [] [(107,undef)]<| T_gsd 23 (some 108) (bv 40 16777215) [] [(108,undef)]<| T_gsd 24 (some 109) (bv 40 33554431) [107,108] [(109,undef)]<| T_gsd 25 (some 110) (bv 40 67108863) [109] [(110,undef)]<| T_gsd 26 (some 111) (bv 40 134217727) [] [(111,undef)]<| T_gsd 27 (some 112) (bv 40 268435455) [111] [(112,undef)]<| T_gsd 28 (some 113) (bv 40 536870911) [112] [(113,undef)]<| T_gsd 29 (some 114) (bv 40 1073741823) [113] [(114,undef)]<| T_gsd 30 (some 115) (bv 40 2147483647) [114] [(115,undef)]<| T_gsd 31 (some 116) (bv 40 4294967295) [115] [(116,undef)]<| T_gsd 32 (some 117) (bv 40 8589934591) [116] [(117,undef)]<| T_gsd 33 (some 118) (bv 40 17179869183) [] [(118,undef)]<| T_gsd 34 (some 119) (bv 40 34359738367) [117,118] [(119,undef)]<| T_gsd 35 (some 120) (bv 40 68719476735) [119] [(120,undef)]<| T_gsd 36 (some 121) (bv 40 137438953471) [120] [(121,undef)]<| T_gsd 37 (some 122) (bv 40 274877906943) [121] [(122,undef)]<| T_gsd 38 (some 123) (bv 40 549755813887) [110,122] [(123,undef)]<| T_gp1 39 124 (.bool true) (bv 40 1099511627775) [106,123]<| G_sub [(0,vp (some xA)),(3,vi ra),(5,vs (some j) e f),(7,vs g b d),(9,vi i),(124,.bool true)] sk<| yw<| S_then<| T_tz 124<| T_srz 10<| T_nr 1 [2] [.bool false] hQ h
     rw[if_neg c24]at h
     exact T_cFz 82 (zQ c24)<| zj 0<| S_exitThen<| S_exitThen<| S_exitHere<| S_then<| T_srz 11<| T_nr 1 [2] [.bool true] hQ h
    intro hk
    refine T_nu [(0,vp (some xA)),(3,vi ra),(5,vs m e f),(7,vs g b d),(68,.bool (ra !=(xN:Int)))] ?_
    by_cases c15:ra=(xN:Int)
    ·have b16:(ra !=(xN:Int))=false:=bne_eq_false_iff_eq.mpr c15
     refine N_env [(0,vp (some xA)),(3,vi ra),(5,vs m e f),(7,vs g b d),(68,.bool false)] (by rw[b16]) ?_
     refine T_nd 6 [68] [(74,.bool ((e:Int) !=ra))] ?_
     by_cases c17:(e:Int)=ra
     ·have b18:((e:Int) !=ra)=false:=bne_eq_false_iff_eq.mpr c17
      refine N_bd 74 b18<| T_nd 5 [74] [(79,.bool ((b:Int) !=ra))] ?_
      refine zq<| S_bd 79 (b:=((b:Int) !=ra)) (v:=(((ra !=(xN:Int)) || ((e:Int) !=ra)) || ((b:Int) !=ra))) (by simp only[b16,b18,BL]) ?_
      exact hk
     have b18:((e:Int) !=ra)=true:=bne_iff_ne.mpr c17
     refine N_bd 74 b18<| T_nd 5 [74] [(79,.bool true)] ?_
     refine zq<| S_bd 79 (b:=true) (v:=(((ra !=(xN:Int)) || ((e:Int) !=ra)) || ((b:Int) !=ra))) (by simp only[b16,b18,BL]) ?_
     exact hk
    have b16:(ra !=(xN:Int))=true:=bne_iff_ne.mpr c15
    refine N_env [(0,vp (some xA)),(3,vi ra),(5,vs m e f),(7,vs g b d),(68,.bool true)] (by rw[b16]) ?_
    refine T_nd 11 [68] [(79,.bool true)]<| zq<| S_bd 79 (b:=true) (v:=(((ra !=(xN:Int)) || ((e:Int) !=ra)) || ((b:Int) !=ra))) (by simp only[b16,BL]) ?_
    exact hk
   rw[if_neg c11]at h
   exact N_bd 56 (bne_iff_ne.mpr c11)<| T_ed 23 [56] [(79,.bool true)]<| T_tz 79<| T_srz 5<| T_nr 1 [2] [.bool false] hQ h
  rw[if_neg c9]at h
  exact N_bd 52 (bne_iff_ne.mpr c9)<| T_ed 27 [8,52] [(79,.bool true)]<| T_tz 79<| T_srz 5<| T_nr 1 [2] [.bool false] hQ h
 rw[if_neg c7]at h
 have b8:(rb !=0)=true:=bne_iff_ne.mpr c7
 refine N_env [(0,vp (some xA)),(3,vi ra),(5,vs m e f),(6,vi p),(7,vs g b d),(8,vi u),(48,.bool true)] (by rw[b8]) ?_
 clear b8
 exact T_ed 31 [6,8,48] [(79,.bool true)]<| T_tz 79<| T_srz 5<| T_nr 1 [2] [.bool false] hQ h
end morainelaw15_play_told

