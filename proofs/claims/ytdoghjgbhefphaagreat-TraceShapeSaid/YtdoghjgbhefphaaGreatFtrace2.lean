/- Printed: what each function asks, and that it is sound. -/
import Derived.Test.YtdoghjgbhefphaaGreatFnsC
set_option linter.unusedSimpArgs false
set_option linter.unusedVariables false
set_option maxRecDepth 100000
set_option maxHeartbeats 1000000
noncomputable section
namespace Go.Proofs.YtdoghjgbhefphaaGreat
open Go
/-! (*moraine/trace.Trace).round -/
namespace trace_Trace_round
def K0:=Func.code Tryz.f115
def K2:=cb K0
def K4:=cb K2
def K5:=ca K4
def K7:=ca K5
def K8:=cb K5
def K9:=ca K8
def K10:=ca K9
def K12:=cb K10
def K14:=cb K12
def K17:=ca K14
def K19:=ca K17
def K21:=cb K19
def K23:=cb K21
def K29:=cb K23
def K30:=ca K29
def K31:=ca K30
def K33:=cb K31
def K38:=ca K33
def K40:=ca K38
def K42:=cb K40
def K43:=ca K42
end trace_Trace_round
def trace_Trace_round.pt(tv:Option Addr)(H:Array Obj)(R:Value->Array Obj->Prop):Prop:=
 ∃d:Addr,tv=some d/\
 ∃x:Option Addr,hat H d=some (.pointer x)/\
 ∃xA:Addr,x=some xA/\
 ∃b1:Option Addr,hat H xA=some (.pointer b1)/\
 ∃ao:Addr,b1=some ao/\
 ∃b0:Option Addr,hat H ao=some (.pointer b0)/\
 ∃an:Addr,b0=some an/\
 ∃av:Option Addr,hat H an=some (.pointer av)/\
 ∃bb:Int,hat H (d.add 1)=some (.int .i64 bb)/\
 ∀(b:Nat) (H1:Array Obj),b=H.size->H1=H.push (.cells #[.int .i64 bb] 3)->RowAt H1 d 0 [.pointer (some xA)]/\RowAt H1 xA 0 [.pointer (some ao)]/\RowAt H1 ao 0 [.pointer (some an)]/\RowAt H1 an 0 [.pointer av]/\
 seg_Mem_Taken.C av (some (ad b)) 1 1 H1 (λv H2=> ∃(xB:Option Addr) (xN xC:Nat),v=.slice xB xN xC/\
 ∃(bl:Bool->Int->Array Obj->Prop) (m11:Bool->Int->Array Obj->Nat),bl false 0 H2/\ ∀(l:Bool) (s29:Int) (H3:Array Obj),bl l s29 H3->
 if s29< (xN:Int)then(
 ∃j:Addr,xB=some j/\
 ((0:Int)<=s29/\s29< (xN:Int))/\
 ∃f:Int,hat H3 (j.add (Int.toNat s29*1))=some (.int .i64 f)/\
 ((0:Int)<=f/\f< (1024:Int))/\
 ∃a5:Int,hat H3 ((d.add 2).add (Int.toNat f*1))=some (.int .i64 a5)/\
 if a5=1 then(
 (bl l (IntKind.wrap .i64 (s29+1)) H3/\m11 l (IntKind.wrap .i64 (s29+1)) H3<m11 l s29 H3))
 else
 ∃bo:Option Addr,hat H3 d=some (.pointer bo)/\
 ∃br:Addr,bo=some br/\
 ∃bt:Option Addr,hat H3 br=some (.pointer bt)/\
 ∃bs:Addr,bt=some bs/\
 ∃bd:Option Addr,hat H3 bs=some (.pointer bd)/\
 ∃be:Addr,bd=some be/\
 ∃a4:Option Addr,hat H3 be=some (.pointer a4)/\
 seg_Mem_Seg.C a4 f H3 (λb2 H4=> ∃(aq al a6 aa y ab u:Int) (rb:Bool),b2=.tuple #[.agg #[.int .i64 aq,.int .i64 al,.int .i64 a6,.int .i64 aa,.int .i64 y,.int .i64 ab,.int .i64 u],.bool rb]/\
 ∀(a1:Nat) (H5:Array Obj),a1=H4.size->H5=H4.push (.cells #[.int .i64 0,.int .i64 0,.int .i64 0,.int .i64 0,.int .i64 0,.int .i64 0,.int .i64 0] 82)->
 (CanPuts H5 (ad a1) 0 7)/\ ∀H6,H6=hputs H5 (ad a1) [.int .i64 aq,.int .i64 al,.int .i64 a6,.int .i64 aa,.int .i64 y,.int .i64 ab,.int .i64 u] 0->
 ∃(bp:Bool->(Option Addr)->Array Obj->Prop) (m32:Bool->(Option Addr)->Array Obj->Nat),bp l (some (ad a1)) H6/\ ∀(m:Bool) (s:Option Addr) (H7:Array Obj),bp m s H7->
 ∃a7:Option Nat,hat H7 (d.add 1027)=some (.map a7)/\
 ∃mr:Nat,a7=some mr/\
 ∃(es:Array MapEntry) (cl:Nat) (ks:List (Int×Value)),H7[mr]?=some (.map es cl)/\Ents (intKey .i64) es.toList ks/\
 ∃am:Int,(mget ks f).getD (.int .i64 0)=.int .i64 am/\
 ∃sA:Addr,s=some sA/\
 ∃au:Int,hat H7 (sA.add 2)=some (.int .i64 au)/\
 if am<au then(
 ∃a9:Option Nat,hat H7 (d.add 1027)=some (.map a9)/\
 ∃bn:Nat,a9=some bn/\
 ∃(bx:Array MapEntry) (cl_2:Nat) (ks_2:List (Int×Value)),H7[bn]?=some (.map bx cl_2)/\Ents (intKey .i64) bx.toList ks_2/\
 ∃ae:Int,(mget ks_2 f).getD (.int .i64 0)=.int .i64 ae/\
 ∃ax:Option Nat,hat H7 (d.add 1027)=some (.map ax)/\
 ∃ay:Int,hat H7 (sA.add 2)=some (.int .i64 ay)/\
 ∃ba:Nat,ax=some ba/\
 ∃(bu:Array MapEntry) (cl_3:Nat) (ks_3:List (Int×Value)),H7[ba]?=some (.map bu cl_3)/\Ents (intKey .i64) bu.toList ks_3/\
 ∀(bm:Array MapEntry) (cl_4:Nat) (H8:Array Obj),H8=setBlk H7 ba (.map bm cl_4)->Ents (intKey .i64) bm.toList (mput ks_3 f (.int .i64 ay))->
 ∃a2:Int,hat H8 (sA.add 2)=some (.int .i64 a2)/\
 ∃a8:Int,hat H8 (sA.add 1)=some (.int .i64 a8)/\
 trace_Trace_look.C (some d) f ae a2 a8 H8 (λ_ H9=>
 ∃az ap a0 af ah ag ai:Int,RowAt H9 sA 0 [.int .i64 az,.int .i64 ap,.int .i64 a0,.int .i64 af,.int .i64 ah,.int .i64 ag,.int .i64 ai]/\
 ∀(ac:Nat) (H10:Array Obj),ac=H9.size->H10=H9.push (.cells #[.int .i64 0,.int .i64 0,.int .i64 0,.int .i64 0,.int .i64 0,.int .i64 0,.int .i64 0] 82)->
 (CanPuts H10 (ad ac) 0 7)/\ ∀bc,bc=hputs H10 (ad ac) [.int .i64 az,.int .i64 ap,.int .i64 a0,.int .i64 af,.int .i64 ah,.int .i64 ag,.int .i64 ai] 0->
 ∃bh:Option Addr,hat bc d=some (.pointer bh)/\
 ∃bj:Addr,bh=some bj/\
 ∃bg:Option Addr,hat bc bj=some (.pointer bg)/\
 ∃bf:Addr,bg=some bf/\
 ∃bi:Option Addr,hat bc bf=some (.pointer bi)/\
 ∃bk:Addr,bi=some bk/\
 ∃a3:Option Addr,hat bc bk=some (.pointer a3)/\
 seg_Mem_Seg.C a3 f bc (λb3 bz=> ∃(ak aj aw o q p r:Int) (bw:Bool),b3=.tuple #[.agg #[.int .i64 ak,.int .i64 aj,.int .i64 aw,.int .i64 o,.int .i64 q,.int .i64 p,.int .i64 r],.bool bw]/\
 (CanPuts bz (ad ac) 0 7)/\ ∀bq,bq=hputs bz (ad ac) [.int .i64 ak,.int .i64 aj,.int .i64 aw,.int .i64 o,.int .i64 q,.int .i64 p,.int .i64 r] 0->
 (bp true (some (ad ac)) bq/\m32 true (some (ad ac)) bq<m32 m s H7))))
 else
 (bl m (IntKind.wrap .i64 (s29+1)) H7/\m11 m (IntKind.wrap .i64 (s29+1)) H7<m11 l s29 H3)))
 else
 R (.bool l) H3)
namespace trace_Trace_round
theorem link{tv:Option Addr}{H:Array Obj}{R:Value->Array Obj->Prop}(h:pt tv H R):C tv H R:=by
 refine T_en K0 109 Tryz.func115 ?_
 intro w0 Q hQ
 unfold pt at h
 refine T_su [(0,vp tv)]<| T_srz 0<| T_ed 1 [] []<| T_srz 1<| T_ed 1 [] [(3,.bool false)]<| T_sz<| T_sz ?_
 obtain⟨d,rfl,h⟩:=h
 obtain⟨x,q1,h⟩:=h
 obtain⟨xA,rfl,h⟩:=h
 obtain⟨b1,q2,h⟩:=h
 obtain⟨ao,rfl,h⟩:=h
 obtain⟨b0,q3,h⟩:=h
 obtain⟨an,rfl,h⟩:=h
 obtain⟨av,q4,h⟩:=h
 obtain⟨bb,q5,h⟩:=h
 refine S_regionG 2 (Code.ops K7) [(18,d,[vp (some xA)]),(18,xA,[vp (some ao)]),(18,ao,[vp (some an)]),(18,an,[vp av]),(17,(d.add 1),[vi bb])] 21 (bv 21 0) (by kernel_rfl) (by kernel_rfl) (by kernel_rfl) (by kernel_rfl) (by kernel_rfl) (show FactsAt _ _ _ from⟨⟨q1,trivial⟩,⟨q2,trivial⟩,⟨q3,trivial⟩,⟨q4,trivial⟩,⟨q5,trivial⟩,trivial⟩) ?_
 refine T_gp 0 (some 9) (vp (some d)) (bv 21 1) [(0,vp (some d)),(3,.bool false),(9,vp (some d))]<| T_gp1 1 10 (vp (some d)) (bv 21 3) [9]<| T_gp1 2 11 (vp (some d)) (bv 21 7) [10]<| T_g1 3 12 (vp (some xA)) (bv 21 15) [11] (loadN 28 (vp (some d))) (held_one 18 (λ_=>by kernel_rfl) (List.Mem.head _) (.inl (by kernel_rfl)))<| T_gp1 4 13 (vp (some xA)) (bv 21 31) [12]<| T_gp1 5 14 (vp (some xA)) (bv 21 63) [13]<| T_g1 6 15 (vp (some ao)) (bv 21 127) [14] (loadN 54 (vp (some xA))) (held_one 18 (λ_=>by kernel_rfl) (List.Mem.tail _ (List.Mem.head _)) (.inl (by kernel_rfl)))<| T_gp1 7 16 (vp (some ao)) (bv 21 255) [15]<| T_gp1 8 17 (vp (some ao)) (bv 21 511) [16] ?_
 refine T_g1 9 18 (vp (some an)) (bv 21 1023) [17] (loadN 58 (vp (some ao))) (held_one 18 (λ_=>by kernel_rfl) (List.Mem.tail _ (List.Mem.tail _ (List.Mem.head _))) (.inl (by kernel_rfl)))<| T_gp1 10 19 (vp (some an)) (bv 21 2047) [18]<| T_gp1 11 20 (vp (some an)) (bv 21 4095) [19]<| T_g1 12 21 (vp av) (bv 21 8191) [20] (loadN 61 (vp (some an))) (held_one 18 (λ_=>by kernel_rfl) (List.Mem.tail _ (List.Mem.tail _ (List.Mem.tail _ (List.Mem.head _)))) (.inl (by kernel_rfl)))<| T_gp1 13 22 (vp (some d)) (bv 21 16383) []<| T_gp1 14 23 (vp (some d)) (bv 21 32767) [22]<| T_gp1 15 24 (vp (some (d.add 1))) (bv 21 65535) [23]<| T_g1 16 25 (vi bb) (bv 21 131071) [24] (loadN 3 (vp (some (d.add 1)))) (held_one 17 (λ_=>by kernel_rfl) (List.Mem.tail _ (List.Mem.tail _ (List.Mem.tail _ (List.Mem.tail _ (List.Mem.head _))))) (.inl (by kernel_rfl)))<| T_gp1 20 29 (vi 0) (bv 21 1179647) [] ?_
 refine G_new 17 (some 26) (bv 21 1310719) (λb=>vs (pa b) 1 1) (.cells #[vi bb] 3) (by kernel_rfl) (λ_=>by kernel_rfl) (by kernel_rfl) ?_
 intro b H1 e10 e11
 replace h:=h b H1 e10 e11
 obtain⟨f6,f7,f8,f9,h⟩:=h
 refine⟨[(0,vp (some d)),(3,.bool false),(21,vp av),(26,vs (pa b) 1 1),(29,vi 0)],pk,(show FactsAt _ _ _ from⟨f6,f7,f8,f9,trivial,trivial⟩),?_⟩
 refine G_call 18 (some 27) (bv 21 1572863) 20 #[vp av,vs (pa b) 1 1] (by kernel_rfl) (λ_=>by kernel_rfl) h (by kernel_rfl) ?_;clear h
 rintro v H2 ⟨xB,xN,xC,rfl,h⟩
 refine⟨[(0,vp (some d)),(3,.bool false),(27,vs xB xN xC),(29,vi 0)],pk,(show FactsAt _ _ _ from⟨trivial,trivial,trivial,trivial,trivial,trivial⟩),?_⟩
 refine T_g 19 (some 28) (vi xN) (bv 21 2097151) [(0,vp (some d)),(3,.bool false),(27,vs xB xN xC),(28,vi xN),(29,vi 0)] (pure (.value (vi xN)):Sem Next) (λ_ _ _ _ _=>rfl) ?_
 refine G_sub [(0,vp (some d)),(3,.bool false),(27,vs xB xN xC),(28,vi xN),(29,vi 0)] sk ?_
 refine G_end (by kernel_rfl) ?_
 refine S_then ?_
 refine T_bz 0 ?_
 obtain⟨bl,m11,i12,i13⟩:=h
 refine S_loop (x:=K10) (σ:=Bool×Int) (λs_=> [(0,vp (some d)),(3,.bool s_.1),(27,vs xB xN xC),(28,vi xN),(29,vi s_.2)]) (λs_ H=>bl s_.1 s_.2 H) (λs_ H=>m11 s_.1 s_.2 H) ((false,0):Bool×Int) (by kernel_rfl) i12 sk ?_
 rintro⟨l,s29⟩ H3 i14
 have h:=i13 l s29 H3 i14
 refine T_su [(0,vp (some d)),(3,.bool l),(27,vs xB xN xC),(28,vi xN),(29,vi s29)]<| T_srz 3<| T_ed 1 [] [(30,.bool (decide (s29< (xN:Int))))]<| T_sz ?_
 by_cases c15:s29< (xN:Int)
 ·rw[if_pos c15]at h
  refine T_cTz 30 (decide_eq_true c15)<| T_kt<| T_sz<| T_bz 1<| T_srz 4<| T_ud [30] [] ?_
  obtain⟨j,rfl,h⟩:=h
  obtain⟨q17,h⟩:=h
  refine T_xd (some 31) 52 3 1 j xN xC .i64 s29 Tryz.underlying52 q17.1 q17.2 [27] [(27,vs (some j) xN xC),(31,vp (some (j.add (Int.toNat s29*1))))] ?_
  obtain⟨f,q18,h⟩:=h
  refine T_l1 32 3 q18 [31]<| T_ed 1 [32] [(5,vi f)]<| T_sz<| T_srz 5<| T_nd 4 [] [(34,vi f),(36,vp (some (d.add 2)))] ?_
  obtain⟨q19,h⟩:=h
  refine T_v1 37 (indexAtN 187 (vp (some (d.add 2))) (vi f)) (vp (some ((d.add 2).add (Int.toNat f*1)))) (λw _=>indexArr_run (P:=Tryz.prog) (t:=187) (elem:=3) (sz:=1) (n:=1024) (a:=(d.add 2)) (k:=.i64) (i:=f) Tryz.underlying187 (λ_=>by kernel_rfl) q19.1 q19.2 w) [34,36] ?_
  obtain⟨a5,q20,h⟩:=h
  refine T_l1 38 3 q20 [37]<| T_ed 1 [38] [(39,.bool (a5==1))] ?_
  by_cases c21:a5=1
  ·rw[if_pos c21]at h
   refine T_cTz 39 (beq_iff_eq.mpr c21) ?_
   refine S_exit 1 (by kernel_rfl) ?_
   refine S_exitThen ?_
   refine S_exitHere ?_
   refine S_then ?_
   refine T_rz 15<| T_ed 2 [5,29,39] [(29,vi (IntKind.wrap .i64 (s29+1)))] ?_
   exact S_round ((l,(IntKind.wrap .i64 (s29+1))):Bool×Int) sk h
  rw[if_neg c21]at h
  refine T_cFz 39 (beq_eq_false_iff_ne.mpr c21)<| T_kt<| T_srz 6<| T_nd 3 [39] [(43,vp (some d))] ?_
  obtain⟨bo,q23,h⟩:=h
  refine T_l1 44 28 q23 [43] ?_
  obtain⟨br,rfl,h⟩:=h
  refine T_nd 2 [44] [(46,vp (some br))] ?_
  obtain⟨bt,q24,h⟩:=h
  refine T_l1 47 54 q24 [46] ?_
  obtain⟨bs,rfl,h⟩:=h
  refine T_nd 2 [47] [(49,vp (some bs))] ?_
  obtain⟨bd,q25,h⟩:=h
  refine T_l1 50 58 q25 [49] ?_
  obtain⟨be,rfl,h⟩:=h
  refine T_nd 2 [50] [(52,vp (some be))] ?_
  obtain⟨a4,q26,h⟩:=h
  refine T_l1 53 61 q26 [52]<| T_nd 1 [] [(54,vi f)] ?_
  refine T_c (some 55) h ?_;clear h
  rintro b2 H4 ⟨aq,al,a6,aa,y,ab,u,rb,rfl,h⟩
  refine T_pd [53,54] [(55,.tuple #[.agg #[vi aq,vi al,vi a6,vi aa,vi y,vi ab,vi u],.bool rb])]<| T_nd 3 [55] [(56,.agg #[vi aq,vi al,vi a6,vi aa,vi y,vi ab,vi u]),(57,.bool rb)]<| T_nw (some 6) (λb=>vp (pa b)) (.cells #[vi 0,vi 0,vi 0,vi 0,vi 0,vi 0,vi 0] 82) ?_
  intro a1 H5 e27 e28
  replace h:=h a1 H5 e27 e28
  refine T_pd [] [(6,vp (pa a1))] ?_
  obtain⟨q30,h⟩:=h
  refine T_sta 82 [vi aq,vi al,vi a6,vi aa,vi y,vi ab,vi u] q30 ?_
  intro H6 e29
  replace h:=h H6 e29
  refine T_pd [56] []<| T_ed 1 [57] []<| T_bz 2 ?_
  obtain⟨bp,m32,i31,i32⟩:=h
  refine S_loop (x:=K31) (σ:=Bool×(Option Addr)) (λs_=> [(0,vp (some d)),(3,.bool s_.1),(5,vi f),(6,vp s_.2),(27,vs (some j) xN xC),(28,vi xN),(29,vi s29)]) (λs_ H=>bp s_.1 s_.2 H) (λs_ H=>m32 s_.1 s_.2 H) ((l,(pa a1)):Bool×(Option Addr)) (by kernel_rfl) i31 sk ?_
  rintro⟨m,s⟩ H7 i33
  have h:=i32 m s H7 i33
  refine T_su [(0,vp (some d)),(3,.bool m),(5,vi f),(6,vp s),(27,vs (some j) xN xC),(28,vi xN),(29,vi s29)]<| T_sz<| T_sz<| T_rqz 7<| T_q1 58 (vp (some d)) []<| T_q1 59 (vp (some d)) [58]<| T_q1 60 (vp (some (d.add 1027))) [59] ?_
  obtain⟨a7,q34,h⟩:=h
  refine T_qld (some 61) 186 q34 [60] [(61,.map a7)]<| T_q (some 62) (vi f) [(0,vp (some d)),(3,.bool m),(5,vi f),(6,vp s),(27,vs (some j) xN xC),(28,vi xN),(29,vi s29),(61,.map a7),(62,vi f)] ?_
  obtain⟨mr,rfl,h⟩:=h
  obtain⟨es,cl,ks,q35,q36,am,e67,h⟩:=h
  refine Q_op (some 63) (lookupN 186 (.map (some mr)) (vi f) false) (vi am) (λ_=>by kernel_rfl) (λw hw=>(lookup_run (kk:=(intKey .i64)) (z:=vi 0) Tryz.underlying186 Tryz.underlying3 (λ_=>by kernel_rfl) (by rw[hw];exact q35) q36 false).trans (by simp only[if_true,Bool.false_eq_true,if_false,e67])) [(0,vp (some d)),(3,.bool m),(5,vi f),(6,vp s),(27,vs (some j) xN xC),(28,vi xN),(29,vi s29),(63,vi am)] pk ?_
  obtain⟨sA,rfl,h⟩:=h
  refine T_q (some 64) (vp (some (sA.add 2))) [(0,vp (some d)),(3,.bool m),(5,vi f),(6,vp (some sA)),(27,vs (some j) xN xC),(28,vi xN),(29,vi s29),(63,vi am),(64,vp (some (sA.add 2)))] ?_
  obtain⟨au,q38,h⟩:=h
  refine T_qld (some 65) 3 q38 [64] [(65,vi au)]<| T_q1 66 (.bool (decide (am<au))) [63,65] ?_
  refine Q_sub [(0,vp (some d)),(3,.bool m),(5,vi f),(6,vp (some sA)),(27,vs (some j) xN xC),(28,vi xN),(29,vi s29),(66,.bool (decide (am<au)))] sk ?_
  refine T_qe ?_
  by_cases c39:am<au
  ·rw[if_pos c39]at h
   refine T_cTz 66 (decide_eq_true c39)<| T_kt<| T_sz<| T_bz 3<| T_srz 9<| T_n 3 [(0,vp (some d)),(5,vi f),(6,vp (some sA)),(27,vs (some j) xN xC),(28,vi xN),(29,vi s29),(87,vp (some (d.add 1027)))] ?_
   obtain⟨a9,q41,h⟩:=h
   refine T_l1 88 186 q41 [87]<| T_nd 1 [] [(89,vi f)] ?_
   obtain⟨bn,rfl,h⟩:=h
   obtain⟨bx,cl_2,ks_2,q42,q43,ae,e65,h⟩:=h
   refine T_v1 90 (lookupN 186 (.map (some bn)) (vi f) false) (vi ae) (λw hw=>(lookup_run (kk:=(intKey .i64)) (z:=vi 0) Tryz.underlying186 Tryz.underlying3 (λ_=>by kernel_rfl) (by rw[hw];exact q42) q43 false).trans (by simp only[if_true,Bool.false_eq_true,if_false,e65])) [88,89] ?_
   refine T_ed 1 [90] [(8,vi ae)]<| T_sz ?_
   obtain⟨ax,q45,h⟩:=h
   obtain⟨ay,q46,h⟩:=h
   refine S_regionG 10 (Code.ops K43) [(7,(d.add 1027),[.map ax]),(7,(sA.add 2),[vi ay])] 8 (bv 8 0) (by kernel_rfl) (by kernel_rfl) (by kernel_rfl) (by kernel_rfl) (by kernel_rfl) (show FactsAt _ _ _ from⟨⟨q45,trivial⟩,⟨q46,trivial⟩,trivial⟩) ?_
   refine T_gp 0 (some 91) (vp (some d)) (bv 8 1) [(0,vp (some d)),(5,vi f),(6,vp (some sA)),(8,vi ae),(27,vs (some j) xN xC),(28,vi xN),(29,vi s29),(91,vp (some d))]<| T_gp1 1 92 (vp (some d)) (bv 8 3) [91]<| T_gp1 2 93 (vp (some (d.add 1027))) (bv 8 7) [92]<| T_g1 3 94 (.map ax) (bv 8 15) [93] (loadN 186 (vp (some (d.add 1027)))) (held_one 7 (λ_=>by kernel_rfl) (List.Mem.head _) (.inl (by kernel_rfl)))<| T_gp1 4 95 (vi f) (bv 8 31) []<| T_gp1 5 96 (vp (some (sA.add 2))) (bv 8 63) []<| T_g1 6 97 (vi ay) (bv 8 127) [96] (loadN 3 (vp (some (sA.add 2)))) (held_one 7 (λ_=>by kernel_rfl) (List.Mem.tail _ (List.Mem.head _)) (.inl (by kernel_rfl))) ?_
   obtain⟨ba,rfl,h⟩:=h
   obtain⟨bu,cl_3,ks_3,q47,q48,h⟩:=h
   refine G_onlyskip 7 none (bv 8 255) (mapPutN 186 (.map (some ba)) (vi f) (vi ay)) (λHz=> ∃es2 cl2,Hz=setBlk H7 ba (.map es2 cl2)/\Ents (intKey .i64) es2.toList (mput ks_3 f (vi ay))) (by kernel_rfl) (λ_=>by kernel_rfl) (λw hw=>by obtain⟨es2,cl2,q1,q2⟩:=mapPut_run (kk:=(intKey .i64)) (P:=Tryz.prog) (w:=w) (k:=f) (v:=vi ay) Tryz.underlying186 Tryz.underlying3 (by rw[hw];exact q47) q48;exact⟨_,q1,⟨rfl,rfl,rfl,Nat.le_refl _⟩,es2,cl2,by rw[<-hw],q2⟩) (by kernel_rfl) ?_
   rintro H8 ⟨bm,cl_4,e50,e51⟩
   replace h:=h bm cl_4 H8 e50 e51
   refine⟨[(0,vp (some d)),(5,vi f),(6,vp (some sA)),(8,vi ae),(27,vs (some j) xN xC),(28,vi xN),(29,vi s29)],pk,(show FactsAt _ _ _ from⟨trivial,trivial,trivial⟩),?_⟩
   refine G_sub [(0,vp (some d)),(5,vi f),(6,vp (some sA)),(8,vi ae),(27,vs (some j) xN xC),(28,vi xN),(29,vi s29)] sk ?_
   refine G_end (by kernel_rfl) ?_
   refine S_then ?_
   refine T_srz 11<| T_n 4 [(0,vp (some d)),(5,vi f),(6,vp (some sA)),(27,vs (some j) xN xC),(28,vi xN),(29,vi s29),(98,vp (some d)),(99,vi f),(100,vi ae),(101,vp (some (sA.add 2)))] ?_
   obtain⟨a2,q52,h⟩:=h
   refine T_l1 102 3 q52 [101]<| T_nd 1 [] [(103,vp (some (sA.add 1)))] ?_
   obtain⟨a8,q53,h⟩:=h
   refine T_l1 104 3 q53 [103] ?_
   refine T_c (some 105) h ?_;clear h
   intro v_3 H9 h
   refine T_pd [98,99,100,102,104] []<| T_e<| T_rz 12<| T_nd 1 [] [(3,.bool true)] ?_
   refine N_end (by kernel_rfl) ?_
   refine S_blockEnd ?_
   refine S_then ?_
   refine T_sz<| T_srz 13 ?_
   obtain⟨az,ap,a0,af,ah,ag,ai,q54,h⟩:=h
   refine T_lr 106 82 q54 [6]<| T_e<| T_rz 14<| T_nw (some 6) (λb=>vp (pa b)) (.cells #[vi 0,vi 0,vi 0,vi 0,vi 0,vi 0,vi 0] 82) ?_
   intro ac H10 e55 e56
   replace h:=h ac H10 e55 e56
   refine T_pd [] [(6,vp (pa ac))] ?_
   obtain⟨q58,h⟩:=h
   refine T_sta 82 [vi az,vi ap,vi a0,vi af,vi ah,vi ag,vi ai] q58 ?_
   intro bc e57
   replace h:=h bc e57
   refine T_pd [106] []<| T_e<| T_rz 8<| T_nd 3 [] [(70,vp (some d))] ?_
   obtain⟨bh,q59,h⟩:=h
   refine T_l1 71 28 q59 [70] ?_
   obtain⟨bj,rfl,h⟩:=h
   refine T_nd 2 [71] [(73,vp (some bj))] ?_
   obtain⟨bg,q60,h⟩:=h
   refine T_l1 74 54 q60 [73] ?_
   obtain⟨bf,rfl,h⟩:=h
   refine T_nd 2 [74] [(76,vp (some bf))] ?_
   obtain⟨bi,q61,h⟩:=h
   refine T_l1 77 58 q61 [76] ?_
   obtain⟨bk,rfl,h⟩:=h
   refine T_nd 2 [77] [(79,vp (some bk))] ?_
   obtain⟨a3,q62,h⟩:=h
   refine T_l1 80 61 q62 [79]<| T_nd 1 [] [(81,vi f)] ?_
   refine T_c (some 82) h ?_;clear h
   rintro b3 bz ⟨ak,aj,aw,o,q,p,r,bw,rfl,h⟩
   refine T_pd [80,81] [(82,.tuple #[.agg #[vi ak,vi aj,vi aw,vi o,vi q,vi p,vi r],.bool bw])]<| T_nd 3 [82] [(83,.agg #[vi ak,vi aj,vi aw,vi o,vi q,vi p,vi r])] ?_
   obtain⟨q64,h⟩:=h
   refine T_sta 82 [vi ak,vi aj,vi aw,vi o,vi q,vi p,vi r] q64 ?_
   intro bq e63
   replace h:=h bq e63
   refine T_pd [83] []<| T_e ?_
   exact S_round ((true,(pa ac)):Bool×(Option Addr)) sk h
  rw[if_neg c39]at h
  refine T_cFz 66 (decide_eq_false c39) ?_
  refine S_exit 2 (by kernel_rfl) ?_
  refine S_exitThen ?_
  refine S_exitThen ?_
  refine S_exitHere ?_
  refine S_blockEnd ?_
  refine S_then ?_
  refine T_rz 15<| T_ne 2 [(0,vp (some d)),(3,.bool m),(27,vs (some j) xN xC),(28,vi xN),(29,vi (IntKind.wrap .i64 (s29+1)))] ?_
  exact S_round ((m,(IntKind.wrap .i64 (s29+1))):Bool×Int) sk h
 rw[if_neg c15]at h
 refine T_cFz 30 (decide_eq_false c15) ?_
 refine S_exit 0 (by kernel_rfl) ?_
 refine S_exitThen ?_
 refine S_exitThen ?_
 refine S_exitHere ?_
 refine S_then ?_
 exact T_srz 16<| T_nr 2 [2] [.bool l] hQ h
end trace_Trace_round

/-! (*moraine/trace.Trace).Weaks.1 -/
namespace trace_Trace_Weaks_1
def K0:=Func.code Tryz.f116
def K2:=cb K0
def K3:=ca K2
def K4:=ca K3
end trace_Trace_Weaks_1
def trace_Trace_Weaks_1.pt(d j to:Int)(f:Option Addr)(H:Array Obj)(R:Value->Array Obj->Prop):Prop:=
 ∃(I5:Int->Array Obj->Prop) (m5:Int->Array Obj->Nat),I5 j H/\ ∀(i:Int) (H1:Array Obj),I5 i H1->
 if i<to then(
 ∃a:Addr,f=some a/\
 ∃(xB:Option Addr) (xN xC:Nat),hat H1 a=some (.slice xB xN xC)/\
 ∀(b:Nat) (H2:Array Obj),b=H1.size->H2=H1.push (.cells #[.int .i64 (IntKind.wrap .i64 ((IntKind.wrap .i64 (d*64))+i))] 3)->
 appendK 1 3 8 [.int .i64 0] xB xN xC (some (ad b)) 1 H2 (λap k H3=>
 (CanPuts H3 a 0 1)/\ ∀H4,H4=hputs H3 a [.slice ap (xN+1) k] 0->
 (I5 (IntKind.wrap .i64 (i+2)) H4/\m5 (IntKind.wrap .i64 (i+2)) H4<m5 i H1)))
 else
 R (.tuple #[]) H1
namespace trace_Trace_Weaks_1
theorem link{d j to:Int}{f:Option Addr}{H:Array Obj}{R:Value->Array Obj->Prop}(h:pt d j to f H R):C d j to f H R:=by
 refine T_en K0 21 Tryz.func116 ?_
 intro w0 Q hQ
 unfold pt at h
 refine T_su [(0,vi d),(1,vi j),(2,vi to),(3,vp f)]<| T_srz 0<| T_ed 2 [1] [(7,vi j)]<| T_bz 0 ?_
 obtain⟨I5,m5,i1,i2⟩:=h
 refine S_loop (x:=K4) (σ:=Int) (λs_=> [(0,vi d),(2,vi to),(3,vp f),(7,vi s_)]) (λs_ H=>I5 s_ H) (λs_ H=>m5 s_ H) (j:Int) (by kernel_rfl) i1 sk ?_
 rintro i H1 i3
 have h:=i2 i H1 i3
 refine T_su [(0,vi d),(2,vi to),(3,vp f),(7,vi i)]<| T_sz<| T_srz 1<| T_ed 3 [] [(11,.bool (decide (i<to)))] ?_
 by_cases c4:i<to
 ·rw[if_pos c4]at h
  refine T_cTz 11 (decide_eq_true c4)<| T_kt<| T_sz<| T_bz 1<| T_rz 3<| T_ud [11] [] ?_
  obtain⟨a,rfl,h⟩:=h
  obtain⟨xB,xN,xC,q6,h⟩:=h
  refine T_ld (some 14) 52 q6 [3] [(3,vp (some a)),(14,vs xB xN xC)]<| T_nd 4 [] [(18,vi (IntKind.wrap .i64 ((IntKind.wrap .i64 (d*64))+i)))]<| T_nw (some 19) (λb=>vs (pa b) 1 1) (.cells #[vi (IntKind.wrap .i64 ((IntKind.wrap .i64 (d*64))+i))] 3) ?_
  intro b H2 e7 e8
  replace h:=h b H2 e7 e8
  refine T_pd [18] [(19,vs (pa b) 1 1)] ?_
  refine N_op (some 20) (appendN #[52,52] 52 #[vs xB xN xC,vs (pa b) 1 1]) _ (λ_=>by kernel_rfl) (ss_append (T:=3) (sz:=1) (bytes:=8) (zero:=(vi 0:Value)) Tryz.underlying52 Tryz.underlying52 rfl (show Tryz.prog.info? 3=some Tryz.t3 from by kernel_rfl) (by kernel_rfl) (by kernel_rfl) (by decide) (by kernel_rfl) (by first | exact h | (simpa only[Value.cells,List.toList_toArray]using h))) ?_;clear h
  rintro _ H3 ⟨ap,k,rfl,h⟩
  refine T_pd [14,19] [(20,vs ap (xN+1) k)] ?_
  obtain⟨q10,h⟩:=h
  refine T_st1 52 (vs ap (xN+1) k) q10 ?_
  intro H4 e9
  replace h:=h H4 e9
  refine T_pd [20] [] ?_
  refine N_end (by kernel_rfl) ?_
  refine S_blockEnd ?_
  refine S_then ?_
  refine T_rz 2<| T_ed 3 [7] [(7,vi (IntKind.wrap .i64 (i+2)))] ?_
  exact S_round ((IntKind.wrap .i64 (i+2)):Int) sk h
 rw[if_neg c4]at h
 refine T_cFz 11 (decide_eq_false c4) ?_
 refine S_exit 0 (by kernel_rfl) ?_
 refine S_exitThen ?_
 refine S_exitThen ?_
 refine S_exitHere ?_
 exact S_doneN (fn:=Tryz.f116) [] hQ (show ResOK _ _ _ [] _ from .nil) h
end trace_Trace_Weaks_1

/-! (*moraine/trace.Trace).look.1 -/
namespace trace_Trace_look_1
def K0:=Func.code Tryz.f174
def K2:=cb K0
end trace_Trace_look_1
def trace_Trace_look_1.pt(b:Int)(o:Option Addr)(H:Array Obj)(R:Value->Array Obj->Prop):Prop:=
 ∃a:Addr,o=some a/\
 ∃x:Option Addr,hat H a=some (.pointer x)/\
 ∃xA:Addr,x=some xA/\
 ∃u:Option Addr,hat H xA=some (.pointer u)/\
 ∃q:Addr,u=some q/\
 ∃s:Option Addr,hat H q=some (.pointer s)/\
 ∃p:Addr,s=some p/\
 ∃r:Option Addr,hat H p=some (.pointer r)/\
 ∃t:Addr,r=some t/\
 ∃n:Option Addr,hat H t=some (.pointer n)/\
 seg_Mem_Read.C n b H (λv H1=> ∃ra rb:Int,v=.tuple #[.int .u64 ra,.int .i64 rb]/\
 ∃ab:Option Addr,hat H1 a=some (.pointer ab)/\
 ∃f:Addr,ab=some f/\
 ∃ac:Option Addr,hat H1 f=some (.pointer ac)/\
 ∃i:Addr,ac=some i/\
 ∃z:Option Addr,hat H1 i=some (.pointer z)/\
 ∃j:Addr,z=some j/\
 ∃aa:Option Addr,hat H1 j=some (.pointer aa)/\
 ∃k:Addr,aa=some k/\
 ∃d:Option Addr,hat H1 k=some (.pointer d)/\
 ∃l:Option Addr,hat H1 a=some (.pointer l)/\
 trace_Trace_Visit.C l ra H1 (λaf H2=> ∃m:Int,af=.int .u64 m/\RowAt H2 a 0 [.pointer (some f)]/\RowAt H2 f 0 [.pointer (some i)]/\RowAt H2 i 0 [.pointer (some j)]/\RowAt H2 j 0 [.pointer (some k)]/\RowAt H2 k 0 [.pointer d]/\
 seg_Mem_Write.C d b m H2 (λae H3=> ∃y:Int,ae=.int .i64 y/\
 R (.tuple #[]) H3)))
namespace trace_Trace_look_1
theorem link{b:Int}{o:Option Addr}{H:Array Obj}{R:Value->Array Obj->Prop}(h:pt b o H R):C b o H R:=by
 refine T_en K0 41 Tryz.func174 ?_
 intro w0 Q hQ
 unfold pt at h
 refine T_su [(0,vi b),(1,vp o)]<| T_srz 0 ?_
 obtain⟨a,rfl,h⟩:=h
 obtain⟨x,q1,h⟩:=h
 refine T_ld (some 6) 105 q1 [1] [(1,vp (some a)),(6,vp x)] ?_
 obtain⟨xA,rfl,h⟩:=h
 refine T_nd 2 [6] [(8,vp (some xA))] ?_
 obtain⟨u,q2,h⟩:=h
 refine T_l1 9 28 q2 [8] ?_
 obtain⟨q,rfl,h⟩:=h
 refine T_nd 2 [9] [(11,vp (some q))] ?_
 obtain⟨s,q3,h⟩:=h
 refine T_l1 12 54 q3 [11] ?_
 obtain⟨p,rfl,h⟩:=h
 refine T_nd 2 [12] [(14,vp (some p))] ?_
 obtain⟨r,q4,h⟩:=h
 refine T_l1 15 58 q4 [14] ?_
 obtain⟨t,rfl,h⟩:=h
 refine T_nd 2 [15] [(17,vp (some t))] ?_
 obtain⟨n,q5,h⟩:=h
 refine T_l1 18 61 q5 [17]<| T_nd 1 [] [(19,vi b)] ?_
 refine T_c (some 20) h ?_;clear h
 rintro v H1 ⟨ra,rb,rfl,h⟩
 refine T_pd [18,19] [(20,.tuple #[vu ra,vi rb])]<| T_ed 5 [20] [(3,vu ra)] ?_
 obtain⟨ab,q6,h⟩:=h
 obtain⟨f,rfl,h⟩:=h
 obtain⟨ac,q7,h⟩:=h
 obtain⟨i,rfl,h⟩:=h
 obtain⟨z,q8,h⟩:=h
 obtain⟨j,rfl,h⟩:=h
 obtain⟨aa,q9,h⟩:=h
 obtain⟨k,rfl,h⟩:=h
 obtain⟨d,q10,h⟩:=h
 obtain⟨l,q11,h⟩:=h
 refine S_regionG 1 (Code.ops K2) [(17,a,[vp (some f)]),(17,f,[vp (some i)]),(17,i,[vp (some j)]),(17,j,[vp (some k)]),(17,k,[vp d]),(16,a,[vp l])] 18 (bv 18 0) (by kernel_rfl) (by kernel_rfl) (by kernel_rfl) (by kernel_rfl) (by kernel_rfl) (show FactsAt _ _ _ from⟨⟨q6,trivial⟩,⟨q7,trivial⟩,⟨q8,trivial⟩,⟨q9,trivial⟩,⟨q10,trivial⟩,⟨q11,trivial⟩,trivial⟩) ?_
 refine T_g 0 (some 23) (vp (some f)) (bv 18 1) [(0,vi b),(1,vp (some a)),(3,vu ra),(23,vp (some f))] (loadN 105 (vp (some a))) (held_one 17 (λ_=>by kernel_rfl) (List.Mem.head _) (.inl (by kernel_rfl)))<| T_gp1 1 24 (vp (some f)) (bv 18 3) [23]<| T_gp1 2 25 (vp (some f)) (bv 18 7) [24]<| T_g1 3 26 (vp (some i)) (bv 18 15) [25] (loadN 28 (vp (some f))) (held_one 17 (λ_=>by kernel_rfl) (List.Mem.tail _ (List.Mem.head _)) (.inl (by kernel_rfl)))<| T_gp1 4 27 (vp (some i)) (bv 18 31) [26]<| T_gp1 5 28 (vp (some i)) (bv 18 63) [27]<| T_g1 6 29 (vp (some j)) (bv 18 127) [28] (loadN 54 (vp (some i))) (held_one 17 (λ_=>by kernel_rfl) (List.Mem.tail _ (List.Mem.tail _ (List.Mem.head _))) (.inl (by kernel_rfl)))<| T_gp1 7 30 (vp (some j)) (bv 18 255) [29]<| T_gp1 8 31 (vp (some j)) (bv 18 511) [30] ?_
 refine T_g1 9 32 (vp (some k)) (bv 18 1023) [31] (loadN 58 (vp (some j))) (held_one 17 (λ_=>by kernel_rfl) (List.Mem.tail _ (List.Mem.tail _ (List.Mem.tail _ (List.Mem.head _)))) (.inl (by kernel_rfl)))<| T_gp1 10 33 (vp (some k)) (bv 18 2047) [32]<| T_gp1 11 34 (vp (some k)) (bv 18 4095) [33]<| T_g1 12 35 (vp d) (bv 18 8191) [34] (loadN 61 (vp (some k))) (held_one 17 (λ_=>by kernel_rfl) (List.Mem.tail _ (List.Mem.tail _ (List.Mem.tail _ (List.Mem.tail _ (List.Mem.head _))))) (.inl (by kernel_rfl)))<| T_gp1 13 36 (vi b) (bv 18 16383) [0]<| T_g1 14 37 (vp l) (bv 18 32767) [1] (loadN 105 (vp (some a))) (held_one 16 (λ_=>by kernel_rfl) (List.Mem.tail _ (List.Mem.tail _ (List.Mem.tail _ (List.Mem.tail _ (List.Mem.tail _ (List.Mem.head _)))))) (.inl (by kernel_rfl)))<| T_gp1 15 38 (vu ra) (bv 18 65535) [3] ?_
 refine G_call 16 (some 39) (bv 18 131071) 34 #[vp l,vu ra] (by kernel_rfl) (λ_=>by kernel_rfl) h (by kernel_rfl) ?_;clear h
 rintro af H2 ⟨m,rfl,h⟩
 obtain⟨f12,f13,f14,f15,f16,h⟩:=h
 refine⟨[(35,vp d),(36,vi b),(39,vu m)],pk,(show FactsAt _ _ _ from⟨f12,f13,f14,f15,f16,trivial,trivial⟩),?_⟩
 refine G_call 17 (some 40) (bv 18 262143) 40 #[vp d,vi b,vu m] (by kernel_rfl) (λ_=>by kernel_rfl) h (by kernel_rfl) ?_;clear h
 rintro ae H3 ⟨y,rfl,h⟩
 refine⟨[],pk,(show FactsAt _ _ _ from⟨trivial,trivial,trivial,trivial,trivial,trivial,trivial⟩),?_⟩
 refine G_sub [] sk ?_
 refine G_end (by kernel_rfl) ?_
 exact S_doneN (fn:=Tryz.f174) [] hQ (show ResOK _ _ _ [] _ from .nil) h
end trace_Trace_look_1

end Go.Proofs.YtdoghjgbhefphaaGreat
