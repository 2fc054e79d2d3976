/- Printed: what each function asks, and that it is sound. -/
import Derived.Test.YtgnokbjknicahaaGreatFnsC
set_option linter.unusedSimpArgs false
set_option linter.unusedVariables false
set_option maxRecDepth 100000
set_option maxHeartbeats 1000000
noncomputable section
namespace Go.Proofs.YtgnokbjknicahaaGreat
open Go
/-! (*moraine/trace.Trace).Weaks -/
namespace trace_Trace_Weaks
def K0:=Func.code Tryz.f76
def K2:=cb K0
def K4:=cb K2
def K12:=cb K4
def K14:=cb K12
def K15:=ca K14
def K16:=cb K14
def K17:=ca K15
def K18:=cb K15
def K19:=ca K18
def K20:=ca K19
def K22:=cb K20
def K24:=cb K22
def K27:=ca K24
def K29:=ca K27
def K31:=cb K29
def K33:=cb K31
def K35:=cb K33
def K36:=ca K35
def K38:=ca K16
def K41:=cb K38
def K42:=ca K41
def K43:=ca K42
def K45:=cb K43
def K47:=cb K45
def K50:=ca K47
def K52:=ca K50
def K54:=cb K52
def K55:=ca K54
end trace_Trace_Weaks
def trace_Trace_Weaks.pt(tv:Option Addr)(H:Array Obj)(R:Value->Array Obj->Prop):Prop:=
 trace_Trace_none.C tv H (λv H1=> ∃x:Bool,v=.bool x/\
 if x=true then(
 R (.slice none 0 0) H1)
 else
 ∀(b:Nat) (H2:Array Obj),b=H1.size->H2=H1.push (.cells #[.slice none 0 0] 67)->
 ∃e:Addr,tv=some e/\
 ∃ck:Option Addr,hat H2 e=some (.pointer ck)/\
 ∃a9:Addr,ck=some a9/\
 ∃cm:Option Addr,hat H2 a9=some (.pointer cm)/\
 ∃a7:Addr,cm=some a7/\
 ∃cn:Option Addr,hat H2 a7=some (.pointer cn)/\
 ∃a8:Addr,cn=some a8/\
 ∃bf:Option Addr,hat H2 a8=some (.pointer bf)/\
 ∃b0:Int,hat H2 (e.add 1)=some (.int .i64 b0)/\
 ∀(b6:Nat) (H3:Array Obj),b6=H2.size->H3=H2.push (.cells #[.int .i64 b0] 3)->RowAt H3 e 0 [.pointer (some a9)]/\RowAt H3 a9 0 [.pointer (some a7)]/\RowAt H3 a7 0 [.pointer (some a8)]/\RowAt H3 a8 0 [.pointer bf]/\
 seg_Mem_Taken.C bf (some (ad b6)) 1 1 H3 (λcr H4=> ∃(xB:Option Addr) (xN xC:Nat),cr=.slice xB xN xC/\
 ∃(b3:Int->Array Obj->Prop) (m21:Int->Array Obj->Nat),b3 0 H4/\ ∀(m:Int) (H5:Array Obj),b3 m H5->
 if m< (xN:Int)then(
 ∃ae:Addr,xB=some ae/\
 ((0:Int)<=m/\m< (xN:Int))/\
 ∃o:Int,hat H5 (ae.add (Int.toNat m*1))=some (.int .i64 o)/\
 ∃b7:Option Addr,hat H5 e=some (.pointer b7)/\
 ∃b9:Addr,b7=some b9/\
 ∃cc:Option Addr,hat H5 b9=some (.pointer cc)/\
 ∃b8:Addr,cc=some b8/\
 ∃b4:Option Addr,hat H5 b8=some (.pointer b4)/\
 ∃b5:Addr,b4=some b5/\
 ∃bw:Option Addr,hat H5 b5=some (.pointer bw)/\
 seg_Mem_Seg.C bw o H5 (λcq H6=> ∃(bb ay bx an am ao al:Int) (rb:Bool),cq=.tuple #[.agg #[.int .i64 bb,.int .i64 ay,.int .i64 bx,.int .i64 an,.int .i64 am,.int .i64 ao,.int .i64 al],.bool rb]/\
 ∀(ah:Nat) (H7:Array Obj),ah=H6.size->H7=H6.push (.cells #[.int .i64 0,.int .i64 0,.int .i64 0,.int .i64 0,.int .i64 0,.int .i64 0,.int .i64 0] 76)->
 (CanPuts H7 (ad ah) 0 7)/\ ∀H8,H8=hputs H7 (ad ah) [.int .i64 bb,.int .i64 ay,.int .i64 bx,.int .i64 an,.int .i64 am,.int .i64 ao,.int .i64 al] 0->
 ∃bo:Int,hat H8 ((ad ah).add 1)=some (.int .i64 bo)/\
 if bo=1 then(
 ((0:Int)<=o/\o< (1024:Int))/\
 ∃bk:Int,hat H8 ((e.add 2).add (Int.toNat o*1))=some (.int .i64 bk)/\
 if bk=0 then(
 ∃bm:Option Nat,hat H8 (e.add 1026)=some (.map bm)/\
 ∃bl:Int,hat H8 ((ad ah).add 2)=some (.int .i64 bl)/\
 ∃mr:Nat,bm=some mr/\
 ∃(es:Array MapEntry) (cl:Nat) (ks:List (Int×Value)),H8[mr]?=some (.map es cl)/\Ents (intKey .i64) es.toList ks/\
 ∃bz:Int,(mget ks o).getD (.int .i64 0)=.int .i64 bz/\
 RowAt H8 ((ad ah).add 2) 0 [.int .i64 bl]/\trace_Trace_Weaks_1.C o bz bl (some (ad b)) H8 (λ_ H9=>
 (b3 (IntKind.wrap .i64 (m+1)) H9/\m21 (IntKind.wrap .i64 (m+1)) H9<m21 m H5)))
 else
 (b3 (IntKind.wrap .i64 (m+1)) H8/\m21 (IntKind.wrap .i64 (m+1)) H8<m21 m H5))
 else
 (b3 (IntKind.wrap .i64 (m+1)) H8/\m21 (IntKind.wrap .i64 (m+1)) H8<m21 m H5)))
 else
 ∃(a6:Option Addr) (d f:Nat),hat H5 (e.add 1028)=some (.slice a6 d f)/\
 ∃(b1:Int->Array Obj->Prop) (m44:Int->Array Obj->Nat),b1 0 H5/\ ∀(g:Int) (H10:Array Obj),b1 g H10->
 if g< (d:Int)then(
 ∃j:Addr,a6=some j/\
 ((0:Int)<=g/\g< (d:Int))/\
 ∃bi ba:Int,RowAt H10 (j.add (Int.toNat g*2)) 0 [.int .i64 bi,.int .i64 ba]/\
 ∀(l:Nat) (H11:Array Obj),l=H10.size->H11=H10.push (.cells #[.int .i64 0,.int .i64 0] 132)->
 (CanPuts H11 (ad l) 0 2)/\ ∀bq,bq=hputs H11 (ad l) [.int .i64 bi,.int .i64 ba] 0->
 ∃cg:Option Addr,hat bq e=some (.pointer cg)/\
 ∃ax:Addr,cg=some ax/\
 ∃ce:Option Addr,hat bq ax=some (.pointer ce)/\
 ∃aw:Addr,ce=some aw/\
 ∃cd:Option Addr,hat bq aw=some (.pointer cd)/\
 ∃av:Addr,cd=some av/\
 ∃a3:Option Addr,hat bq av=some (.pointer a3)/\
 ∃bd:Int,hat bq (ad l)=some (.int .i64 bd)/\
 (
 seg_Mem_Seg.C a3 bd bq (λcp ci=> ∃(ai af ap p r q s:Int) (az:Bool),cp=.tuple #[.agg #[.int .i64 ai,.int .i64 af,.int .i64 ap,.int .i64 p,.int .i64 r,.int .i64 q,.int .i64 s],.bool az]/\
 ∀(aq:Nat) (H14:Array Obj),aq=ci.size->H14=ci.push (.cells #[.int .i64 0,.int .i64 0,.int .i64 0,.int .i64 0,.int .i64 0,.int .i64 0,.int .i64 0] 76)->
 (CanPuts H14 (ad aq) 0 7)/\ ∀bp,bp=hputs H14 (ad aq) [.int .i64 ai,.int .i64 af,.int .i64 ap,.int .i64 p,.int .i64 r,.int .i64 q,.int .i64 s] 0->
 ∃bn:Int,hat bp ((ad aq).add 1)=some (.int .i64 bn)/\
 if bn=1 then(
 ∃a0:Int,hat bp (ad l)=some (.int .i64 a0)/\
 ∃be:Int,hat bp ((ad l).add 1)=some (.int .i64 be)/\
 ∃a4:Int,hat bp ((ad aq).add 2)=some (.int .i64 a4)/\
 ∃bh:Int,hat bp ((ad l).add 1)=some (.int .i64 bh)/\
 trace_Trace_Weaks_1.C a0 (IntKind.wrap .i64 (be*16)) (if(IntKind.wrap .i64 ((IntKind.wrap .i64 (bh+1))*16))<a4 then(IntKind.wrap .i64 ((IntKind.wrap .i64 (bh+1))*16))else a4) (some (ad b)) bp (λ_ cj=>
 (b1 (IntKind.wrap .i64 (g+1)) cj/\m44 (IntKind.wrap .i64 (g+1)) cj<m44 g H10)))
 else
 (b1 (IntKind.wrap .i64 (g+1)) bp/\m44 (IntKind.wrap .i64 (g+1)) bp<m44 g H10)))/\(
 ∀(ak:Nat) (H17:Array Obj),ak=bq.size->H17=bq.push (.cells #[.int .i64 0,.int .i64 0,.int .i64 0,.int .i64 0,.int .i64 0,.int .i64 0,.int .i64 0] 76)->RowAt H17 e 0 [.pointer (some ax)]/\RowAt H17 ax 0 [.pointer (some aw)]/\RowAt H17 aw 0 [.pointer (some av)]/\RowAt H17 av 0 [.pointer a3]/\RowAt H17 (ad l) 0 [.int .i64 bd]/\
 seg_Mem_Seg.C a3 bd H17 (λcs ch=> ∃(aj ag au aa ab ac y:Int) (a1:Bool),cs=.tuple #[.agg #[.int .i64 aj,.int .i64 ag,.int .i64 au,.int .i64 aa,.int .i64 ab,.int .i64 ac,.int .i64 y],.bool a1]/\
 (CanPuts ch (ad ak) 0 7)/\ ∀br,br=hputs ch (ad ak) [.int .i64 aj,.int .i64 ag,.int .i64 au,.int .i64 aa,.int .i64 ab,.int .i64 ac,.int .i64 y] 0->
 ∃bj:Int,hat br ((ad ak).add 1)=some (.int .i64 bj)/\
 if bj=1 then(
 ∃a2:Int,hat br (ad l)=some (.int .i64 a2)/\
 ∃bc:Int,hat br ((ad l).add 1)=some (.int .i64 bc)/\
 ∃a5:Int,hat br ((ad ak).add 2)=some (.int .i64 a5)/\
 ∃bg:Int,hat br ((ad l).add 1)=some (.int .i64 bg)/\
 trace_Trace_Weaks_1.C a2 (IntKind.wrap .i64 (bc*16)) (if(IntKind.wrap .i64 ((IntKind.wrap .i64 (bg+1))*16))<a5 then(IntKind.wrap .i64 ((IntKind.wrap .i64 (bg+1))*16))else a5) (some (ad b)) br (λ_ co=>
 (b1 (IntKind.wrap .i64 (g+1)) co/\m44 (IntKind.wrap .i64 (g+1)) co<m44 g H10)))
 else
 (b1 (IntKind.wrap .i64 (g+1)) br/\m44 (IntKind.wrap .i64 (g+1)) br<m44 g H10))))
 else
 ∃(bu:Option Addr) (bt bs:Nat),hat H10 (ad b)=some (.slice bu bt bs)/\
 R (.slice bu bt bs) H10))
namespace trace_Trace_Weaks
theorem link{tv:Option Addr}{H:Array Obj}{R:Value->Array Obj->Prop}(h:pt tv H R):C tv H R:=by
 refine T_en K0 129 Tryz.func76 ?_
 intro w0 Q hQ
 unfold pt at h
 refine T_su [(0,vp tv)]<| T_srz 0<| T_ed 1 [] []<| T_sz<| T_srz 1<| T_nd 1 [] [(13,vp tv)] ?_
 refine T_c (some 14) h ?_;clear h
 rintro v H1 ⟨x,rfl,h⟩
 refine T_pd [13] [(14,.bool x)]<| T_e ?_
 by_cases c1:x=true
 ·rw[if_pos c1]at h
  exact T_cTz 14 c1<| T_srz 2<| T_nr 1 [2] [vs none 0 0] hQ h
 rw[if_neg c1]at h
 refine T_cFz 14 (eq_false_of_ne_true c1)<| T_kt<| T_srz 3<| T_ud [14] []<| T_nw (some 3) (λb=>vp (pa b)) (.cells #[vs none 0 0] 67) ?_
 intro b H2 e3 e4
 replace h:=h b H2 e3 e4
 refine T_pd [] [(3,vp (pa b))]<| T_e<| T_srz 4<| T_ed 2 [] [(4,.func (.func 112) #[] #[vp (pa b)])]<| T_sz<| T_sz ?_
 obtain⟨e,rfl,h⟩:=h
 obtain⟨ck,q5,h⟩:=h
 obtain⟨a9,rfl,h⟩:=h
 obtain⟨cm,q6,h⟩:=h
 obtain⟨a7,rfl,h⟩:=h
 obtain⟨cn,q7,h⟩:=h
 obtain⟨a8,rfl,h⟩:=h
 obtain⟨bf,q8,h⟩:=h
 obtain⟨b0,q9,h⟩:=h
 refine S_regionG 5 (Code.ops K17) [(18,e,[vp (some a9)]),(18,a9,[vp (some a7)]),(18,a7,[vp (some a8)]),(18,a8,[vp bf]),(17,(e.add 1),[vi b0])] 21 (bv 21 0) (by kernel_rfl) (by kernel_rfl) (by kernel_rfl) (by kernel_rfl) (by kernel_rfl) (show FactsAt _ _ _ from⟨⟨q5,trivial⟩,⟨q6,trivial⟩,⟨q7,trivial⟩,⟨q8,trivial⟩,⟨q9,trivial⟩,trivial⟩) ?_
 refine T_gp 0 (some 16) (vp (some e)) (bv 21 1) [(0,vp (some e)),(3,vp (pa b)),(4,.func (.func 112) #[] #[vp (pa b)]),(16,vp (some e))]<| T_gp1 1 17 (vp (some e)) (bv 21 3) [16]<| T_gp1 2 18 (vp (some e)) (bv 21 7) [17]<| T_g1 3 19 (vp (some a9)) (bv 21 15) [18] (loadN 22 (vp (some e))) (held_one 18 (λ_=>by kernel_rfl) (List.Mem.head _) (.inl (by kernel_rfl)))<| T_gp1 4 20 (vp (some a9)) (bv 21 31) [19]<| T_gp1 5 21 (vp (some a9)) (bv 21 63) [20]<| T_g1 6 22 (vp (some a7)) (bv 21 127) [21] (loadN 26 (vp (some a9))) (held_one 18 (λ_=>by kernel_rfl) (List.Mem.tail _ (List.Mem.head _)) (.inl (by kernel_rfl)))<| T_gp1 7 23 (vp (some a7)) (bv 21 255) [22]<| T_gp1 8 24 (vp (some a7)) (bv 21 511) [23] ?_
 refine T_g1 9 25 (vp (some a8)) (bv 21 1023) [24] (loadN 39 (vp (some a7))) (held_one 18 (λ_=>by kernel_rfl) (List.Mem.tail _ (List.Mem.tail _ (List.Mem.head _))) (.inl (by kernel_rfl)))<| T_gp1 10 26 (vp (some a8)) (bv 21 2047) [25]<| T_gp1 11 27 (vp (some a8)) (bv 21 4095) [26]<| T_g1 12 28 (vp bf) (bv 21 8191) [27] (loadN 69 (vp (some a8))) (held_one 18 (λ_=>by kernel_rfl) (List.Mem.tail _ (List.Mem.tail _ (List.Mem.tail _ (List.Mem.head _)))) (.inl (by kernel_rfl)))<| T_gp1 13 29 (vp (some e)) (bv 21 16383) []<| T_gp1 14 30 (vp (some e)) (bv 21 32767) [29]<| T_gp1 15 31 (vp (some (e.add 1))) (bv 21 65535) [30]<| T_g1 16 32 (vi b0) (bv 21 131071) [31] (loadN 3 (vp (some (e.add 1)))) (held_one 17 (λ_=>by kernel_rfl) (List.Mem.tail _ (List.Mem.tail _ (List.Mem.tail _ (List.Mem.tail _ (List.Mem.head _))))) (.inl (by kernel_rfl)))<| T_gp1 20 36 (vi 0) (bv 21 1179647) [] ?_
 refine G_new 17 (some 33) (bv 21 1310719) (λb=>vs (pa b) 1 1) (.cells #[vi b0] 3) (by kernel_rfl) (λ_=>by kernel_rfl) (by kernel_rfl) ?_
 intro b6 H3 e14 e15
 replace h:=h b6 H3 e14 e15
 obtain⟨f10,f11,f12,f13,h⟩:=h
 refine⟨[(0,vp (some e)),(3,vp (pa b)),(4,.func (.func 112) #[] #[vp (pa b)]),(28,vp bf),(33,vs (pa b6) 1 1),(36,vi 0)],pk,(show FactsAt _ _ _ from⟨f10,f11,f12,f13,trivial,trivial⟩),?_⟩
 refine G_call 18 (some 34) (bv 21 1572863) 23 #[vp bf,vs (pa b6) 1 1] (by kernel_rfl) (λ_=>by kernel_rfl) h (by kernel_rfl) ?_;clear h
 rintro cr H4 ⟨xB,xN,xC,rfl,h⟩
 refine⟨[(0,vp (some e)),(3,vp (pa b)),(4,.func (.func 112) #[] #[vp (pa b)]),(34,vs xB xN xC),(36,vi 0)],pk,(show FactsAt _ _ _ from⟨trivial,trivial,trivial,trivial,trivial,trivial⟩),?_⟩
 refine T_g 19 (some 35) (vi xN) (bv 21 2097151) [(0,vp (some e)),(3,vp (pa b)),(4,.func (.func 112) #[] #[vp (pa b)]),(34,vs xB xN xC),(35,vi xN),(36,vi 0)] (pure (.value (vi xN)):Sem Next) (λ_ _ _ _ _=>rfl) ?_
 refine G_sub [(0,vp (some e)),(3,vp (pa b)),(4,.func (.func 112) #[] #[vp (pa b)]),(34,vs xB xN xC),(35,vi xN),(36,vi 0)] sk ?_
 refine G_end (by kernel_rfl) ?_
 refine S_then ?_
 refine T_bz 0 ?_
 obtain⟨b3,m21,i16,i17⟩:=h
 refine S_loop (x:=K20) (σ:=Int) (λs_=> [(0,vp (some e)),(3,vp (pa b)),(4,.func (.func 112) #[] #[vp (pa b)]),(34,vs xB xN xC),(35,vi xN),(36,vi s_)]) (λs_ H=>b3 s_ H) (λs_ H=>m21 s_ H) (0:Int) (by kernel_rfl) i16 sk ?_
 rintro m H5 i18
 have h:=i17 m H5 i18
 refine T_su [(0,vp (some e)),(3,vp (pa b)),(4,.func (.func 112) #[] #[vp (pa b)]),(34,vs xB xN xC),(35,vi xN),(36,vi m)]<| T_srz 6<| T_ed 1 [] [(37,.bool (decide (m< (xN:Int))))]<| T_sz ?_
 by_cases c19:m< (xN:Int)
 ·rw[if_pos c19]at h
  refine T_cTz 37 (decide_eq_true c19)<| T_kt<| T_sz<| T_bz 1<| T_srz 7<| T_ud [37] [] ?_
  obtain⟨ae,rfl,h⟩:=h
  obtain⟨q21,h⟩:=h
  refine T_xd (some 38) 67 3 1 ae xN xC .i64 m Tryz.underlying67 q21.1 q21.2 [34] [(34,vs (some ae) xN xC),(38,vp (some (ae.add (Int.toNat m*1))))] ?_
  obtain⟨o,q22,h⟩:=h
  refine T_l1 39 3 q22 [38]<| T_ed 1 [39] [(6,vi o)]<| T_srz 8<| T_nd 3 [] [(43,vp (some e))] ?_
  obtain⟨b7,q23,h⟩:=h
  refine T_l1 44 22 q23 [43] ?_
  obtain⟨b9,rfl,h⟩:=h
  refine T_nd 2 [44] [(46,vp (some b9))] ?_
  obtain⟨cc,q24,h⟩:=h
  refine T_l1 47 26 q24 [46] ?_
  obtain⟨b8,rfl,h⟩:=h
  refine T_nd 2 [47] [(49,vp (some b8))] ?_
  obtain⟨b4,q25,h⟩:=h
  refine T_l1 50 39 q25 [49] ?_
  obtain⟨b5,rfl,h⟩:=h
  refine T_nd 2 [50] [(52,vp (some b5))] ?_
  obtain⟨bw,q26,h⟩:=h
  refine T_l1 53 69 q26 [52]<| T_nd 1 [] [(54,vi o)] ?_
  refine T_c (some 55) h ?_;clear h
  rintro cq H6 ⟨bb,ay,bx,an,am,ao,al,rb,rfl,h⟩
  refine T_pd [53,54] [(55,.tuple #[.agg #[vi bb,vi ay,vi bx,vi an,vi am,vi ao,vi al],.bool rb])]<| T_nd 3 [55] [(56,.agg #[vi bb,vi ay,vi bx,vi an,vi am,vi ao,vi al]),(57,.bool rb)]<| T_nw (some 7) (λb=>vp (pa b)) (.cells #[vi 0,vi 0,vi 0,vi 0,vi 0,vi 0,vi 0] 76) ?_
  intro ah H7 e27 e28
  replace h:=h ah H7 e27 e28
  refine T_pd [] [(7,vp (pa ah))] ?_
  obtain⟨q30,h⟩:=h
  refine T_sta 76 [vi bb,vi ay,vi bx,vi an,vi am,vi ao,vi al] q30 ?_
  intro H8 e29
  replace h:=h H8 e29
  refine T_pd [56] []<| T_ed 1 [57] []<| T_srz 9<| T_nd 1 [] [(58,vp (some ((ad ah).add 1)))] ?_
  obtain⟨bo,q31,h⟩:=h
  refine T_l1 59 3 q31 [58]<| T_nd 2 [59] [(61,.bool (bo==1))] ?_
  by_cases c32:bo=1
  ·rw[if_pos c32]at h
   refine N_bd 61 (beq_iff_eq.mpr c32)<| T_nd 4 [] [(63,vi o),(65,vp (some (e.add 2)))] ?_
   obtain⟨q34,h⟩:=h
   refine T_v1 66 (indexAtN 124 (vp (some (e.add 2))) (vi o)) (vp (some ((e.add 2).add (Int.toNat o*1)))) (λw _=>indexArr_run (P:=Tryz.prog) (t:=124) (elem:=3) (sz:=1) (n:=1024) (a:=(e.add 2)) (k:=.i64) (i:=o) Tryz.underlying124 (λ_=>by kernel_rfl) q34.1 q34.2 w) [63,65] ?_
   obtain⟨bk,q35,h⟩:=h
   refine T_l1 67 3 q35 [66]<| T_ed 2 [61,67] [(69,.bool (bk==0))] ?_
   by_cases c36:bk=0
   ·rw[if_pos c36]at h
    refine T_cTz 69 (beq_iff_eq.mpr c36) ?_
    obtain⟨bm,q38,h⟩:=h
    obtain⟨bl,q39,h⟩:=h
    refine S_regionG 10 (Code.ops K36) [(7,(e.add 1026),[.map bm]),(10,((ad ah).add 2),[vi bl])] 11 (bv 11 0) (by kernel_rfl) (by kernel_rfl) (by kernel_rfl) (by kernel_rfl) (by kernel_rfl) (show FactsAt _ _ _ from⟨⟨q38,trivial⟩,⟨q39,trivial⟩,trivial⟩) ?_
    refine T_gp 0 (some 70) (.func (.func 112) #[] #[vp (pa b)]) (bv 11 1) [(0,vp (some e)),(3,vp (pa b)),(4,.func (.func 112) #[] #[vp (pa b)]),(6,vi o),(7,vp (pa ah)),(34,vs (some ae) xN xC),(35,vi xN),(36,vi m),(70,.func (.func 112) #[] #[vp (pa b)])]<| T_gp1 1 71 (vi o) (bv 11 3) []<| T_gp1 2 72 (vp (some e)) (bv 11 7) []<| T_gp1 3 73 (vp (some e)) (bv 11 15) [72]<| T_gp1 4 74 (vp (some (e.add 1026))) (bv 11 31) [73]<| T_g1 5 75 (.map bm) (bv 11 63) [74] (loadN 123 (vp (some (e.add 1026)))) (held_one 7 (λ_=>by kernel_rfl) (List.Mem.head _) (.inl (by kernel_rfl)))<| T_gp1 6 76 (vi o) (bv 11 127) [6]<| T_gp1 8 78 (vp (some ((ad ah).add 2))) (bv 11 383) [7]<| T_g1 9 79 (vi bl) (bv 11 895) [78] (loadN 3 (vp (some ((ad ah).add 2)))) (held_one 10 (λ_=>by kernel_rfl) (List.Mem.tail _ (List.Mem.head _)) (.inl (by kernel_rfl))) ?_
    obtain⟨mr,rfl,h⟩:=h
    obtain⟨es,cl,ks,q41,q42,bz,e44,h⟩:=h
    refine G_only 7 (some 77) (bv 11 1023) (lookupN 123 (.map (some mr)) (vi o) false) (λu H1=>u=vi bz/\H1=H8) (by kernel_rfl) (λ_=>by kernel_rfl) (λw hw=>⟨_,w,(lookup_run (kk:=(intKey .i64)) (z:=vi 0) Tryz.underlying123 Tryz.underlying3 (λ_=>by kernel_rfl) (by rw[hw];exact q41) q42 false),Same.refl w,by simp only[Bool.false_eq_true,if_false,e44],hw⟩) (by kernel_rfl) ?_
    rintro _ _ ⟨rfl,rfl⟩
    obtain⟨f40,h⟩:=h
    refine⟨[(0,vp (some e)),(3,vp (pa b)),(4,.func (.func 112) #[] #[vp (pa b)]),(34,vs (some ae) xN xC),(35,vi xN),(36,vi m),(70,.func (.func 112) #[] #[vp (pa b)]),(71,vi o),(77,vi bz),(79,vi bl)],pk,(show FactsAt _ _ _ from⟨trivial,f40,trivial⟩),?_⟩
    refine G_call 10 (some 80) (bv 11 2047) 112 #[vi o,vi bz,vi bl,vp (pa b)] (by kernel_rfl) (λ_=>by kernel_rfl) h (by kernel_rfl) ?_;clear h
    intro v_4 H9 h
    refine⟨[(0,vp (some e)),(3,vp (pa b)),(4,.func (.func 112) #[] #[vp (pa b)]),(34,vs (some ae) xN xC),(35,vi xN),(36,vi m)],pk,(show FactsAt _ _ _ from⟨trivial,trivial,trivial⟩),?_⟩
    refine G_sub [(0,vp (some e)),(3,vp (pa b)),(4,.func (.func 112) #[] #[vp (pa b)]),(34,vs (some ae) xN xC),(35,vi xN),(36,vi m)] sk ?_
    refine G_end (by kernel_rfl) ?_
    refine S_blockEnd ?_
    refine S_then ?_
    refine T_rz 11<| T_ne 2 [(0,vp (some e)),(3,vp (pa b)),(4,.func (.func 112) #[] #[vp (pa b)]),(34,vs (some ae) xN xC),(35,vi xN),(36,vi (IntKind.wrap .i64 (m+1)))] ?_
    exact S_round ((IntKind.wrap .i64 (m+1)):Int) sk h
   rw[if_neg c36]at h
   refine T_cFz 69 (beq_eq_false_iff_ne.mpr c36)<| T_k ?_
   refine S_blockEnd ?_
   refine S_then ?_
   refine T_rz 11<| T_ed 2 [6,7,36,69] [(36,vi (IntKind.wrap .i64 (m+1)))] ?_
   exact S_round ((IntKind.wrap .i64 (m+1)):Int) sk h
  rw[if_neg c32]at h
  refine N_bd 61 (beq_eq_false_iff_ne.mpr c32)<| T_ed 8 [61] [(69,.bool false)]<| T_fz 69<| T_k ?_
  refine S_blockEnd ?_
  refine S_then ?_
  refine T_rz 11<| T_ed 2 [6,7,36,69] [(36,vi (IntKind.wrap .i64 (m+1)))] ?_
  exact S_round ((IntKind.wrap .i64 (m+1)):Int) sk h
 rw[if_neg c19]at h
 refine T_cFz 37 (decide_eq_false c19) ?_
 refine S_exit 0 (by kernel_rfl) ?_
 refine S_exitThen ?_
 refine S_exitThen ?_
 refine S_exitHere ?_
 refine S_then ?_
 refine T_sz<| T_srz 12<| T_nd 3 [34,35,36,37] [(84,vp (some (e.add 1028)))] ?_
 obtain⟨a6,d,f,q45,h⟩:=h
 refine T_l1 85 125 q45 [84]<| T_ed 2 [] [(86,vi d),(87,vi 0)]<| T_bz 2 ?_
 obtain⟨b1,m44,i46,i47⟩:=h
 refine S_loop (x:=K43) (σ:=Int) (λs_=> [(0,vp (some e)),(3,vp (pa b)),(4,.func (.func 112) #[] #[vp (pa b)]),(85,vs a6 d f),(86,vi d),(87,vi s_)]) (λs_ H=>b1 s_ H) (λs_ H=>m44 s_ H) (0:Int) (by kernel_rfl) i46 sk ?_
 rintro g H10 i48
 have h:=i47 g H10 i48
 refine T_su [(0,vp (some e)),(3,vp (pa b)),(4,.func (.func 112) #[] #[vp (pa b)]),(85,vs a6 d f),(86,vi d),(87,vi g)]<| T_srz 13<| T_ed 1 [] [(88,.bool (decide (g< (d:Int))))]<| T_sz ?_
 by_cases c49:g< (d:Int)
 ·rw[if_pos c49]at h
  refine T_cTz 88 (decide_eq_true c49)<| T_kt<| T_sz<| T_bz 3<| T_srz 14<| T_ud [88] [] ?_
  obtain⟨j,rfl,h⟩:=h
  obtain⟨q51,h⟩:=h
  refine T_xd (some 89) 125 132 2 j d f .i64 g Tryz.underlying125 q51.1 q51.2 [85] [(85,vs (some j) d f),(89,vp (some (j.add (Int.toNat g*2))))] ?_
  obtain⟨bi,ba,q52,h⟩:=h
  refine T_lr 90 132 q52 [89]<| T_nw (some 10) (λb=>vp (pa b)) (.cells #[vi 0,vi 0] 132) ?_
  intro l H11 e53 e54
  replace h:=h l H11 e53 e54
  refine T_pd [] [(10,vp (pa l))] ?_
  obtain⟨q56,h⟩:=h
  refine T_sta 132 [vi bi,vi ba] q56 ?_
  intro bq e55
  replace h:=h bq e55
  refine T_pd [90] []<| T_e<| T_sz ?_
  obtain⟨cg,q57,h⟩:=h
  obtain⟨ax,rfl,h⟩:=h
  obtain⟨ce,q58,h⟩:=h
  obtain⟨aw,rfl,h⟩:=h
  obtain⟨cd,q59,h⟩:=h
  obtain⟨av,rfl,h⟩:=h
  obtain⟨a3,q60,h⟩:=h
  obtain⟨bd,q61,h⟩:=h
  refine S_regionG 15 (Code.ops K55) [(15,e,[vp (some ax)]),(15,ax,[vp (some aw)]),(15,aw,[vp (some av)]),(15,av,[vp a3]),(15,(ad l),[vi bd])] 22 (bv 22 0) (by kernel_rfl) (by kernel_rfl) (by kernel_rfl) (by kernel_rfl) (by kernel_rfl) (show FactsAt _ _ _ from⟨⟨q57,trivial⟩,⟨q58,trivial⟩,⟨q59,trivial⟩,⟨q60,trivial⟩,⟨q61,trivial⟩,trivial⟩) ?_
  refine T_gp 0 (some 92) (vp (some e)) (bv 22 1) [(0,vp (some e)),(3,vp (pa b)),(4,.func (.func 112) #[] #[vp (pa b)]),(10,vp (pa l)),(85,vs (some j) d f),(86,vi d),(87,vi g),(92,vp (some e))]<| T_gp1 1 93 (vp (some e)) (bv 22 3) [92]<| T_gp1 2 94 (vp (some e)) (bv 22 7) [93]<| T_g1 3 95 (vp (some ax)) (bv 22 15) [94] (loadN 22 (vp (some e))) (held_one 15 (λ_=>by kernel_rfl) (List.Mem.head _) (.inl (by kernel_rfl)))<| T_gp1 4 96 (vp (some ax)) (bv 22 31) [95]<| T_gp1 5 97 (vp (some ax)) (bv 22 63) [96]<| T_g1 6 98 (vp (some aw)) (bv 22 127) [97] (loadN 26 (vp (some ax))) (held_one 15 (λ_=>by kernel_rfl) (List.Mem.tail _ (List.Mem.head _)) (.inl (by kernel_rfl)))<| T_gp1 7 99 (vp (some aw)) (bv 22 255) [98]<| T_gp1 8 100 (vp (some aw)) (bv 22 511) [99] ?_
  refine T_g1 9 101 (vp (some av)) (bv 22 1023) [100] (loadN 39 (vp (some aw))) (held_one 15 (λ_=>by kernel_rfl) (List.Mem.tail _ (List.Mem.tail _ (List.Mem.head _))) (.inl (by kernel_rfl)))<| T_gp1 10 102 (vp (some av)) (bv 22 2047) [101]<| T_gp1 11 103 (vp (some av)) (bv 22 4095) [102]<| T_g1 12 104 (vp a3) (bv 22 8191) [103] (loadN 69 (vp (some av))) (held_one 15 (λ_=>by kernel_rfl) (List.Mem.tail _ (List.Mem.tail _ (List.Mem.tail _ (List.Mem.head _)))) (.inl (by kernel_rfl)))<| T_gp1 13 105 (vp (pa l)) (bv 22 16383) []<| T_g1 14 106 (vi bd) (bv 22 32767) [105] (loadN 3 (vp (pa l))) (held_one 15 (λ_=>by kernel_rfl) (List.Mem.tail _ (List.Mem.tail _ (List.Mem.tail _ (List.Mem.tail _ (List.Mem.head _))))) (.inl (by kernel_rfl))) ?_
  refine G_fork 15 19 (by kernel_rfl) ?_ ?_
  ·replace h:=h.1
   refine O_call 15 (some 107) (bv 22 65535) 24 #[vp a3,vi bd] (by kernel_rfl) (λ_=>by kernel_rfl) h (by kernel_rfl) ?_;clear h
   rintro cp ci ⟨ai,af,ap,p,r,q,s,az,rfl,h⟩
   refine⟨[(0,vp (some e)),(3,vp (pa b)),(4,.func (.func 112) #[] #[vp (pa b)]),(10,vp (pa l)),(85,vs (some j) d f),(86,vi d),(87,vi g),(107,.tuple #[.agg #[vi ai,vi af,vi ap,vi p,vi r,vi q,vi s],.bool az])],pk,(show FactsAt _ _ _ from⟨trivial,trivial,trivial,trivial,trivial,trivial⟩),?_⟩
   refine T_g 16 (some 91) (.tuple #[.agg #[vi ai,vi af,vi ap,vi p,vi r,vi q,vi s],.bool az]) (bv 22 131071) [(0,vp (some e)),(3,vp (pa b)),(4,.func (.func 112) #[] #[vp (pa b)]),(10,vp (pa l)),(85,vs (some j) d f),(86,vi d),(87,vi g),(91,.tuple #[.agg #[vi ai,vi af,vi ap,vi p,vi r,vi q,vi s],.bool az])] (pure (.value (.tuple #[.agg #[vi ai,vi af,vi ap,vi p,vi r,vi q,vi s],.bool az])):Sem Next) (λ_ _ _ _ _=>rfl)<| T_g1 17 108 (.agg #[vi ai,vi af,vi ap,vi p,vi r,vi q,vi s]) (bv 22 262143) [] (pure (.value (.agg #[vi ai,vi af,vi ap,vi p,vi r,vi q,vi s])):Sem Next) (λ_ _ _ _ _=>rfl)<| T_g1 18 109 (.bool az) (bv 22 524287) [91] (pure (.value (.bool az)):Sem Next) (λ_ _ _ _ _=>rfl) ?_
   refine G_new 19 (some 11) (bv 22 1048575) (λb=>vp (pa b)) (.cells #[vi 0,vi 0,vi 0,vi 0,vi 0,vi 0,vi 0] 76) (by kernel_rfl) (λ_=>by kernel_rfl) (by kernel_rfl) ?_
   intro aq H14 e62 e63
   replace h:=h aq H14 e62 e63
   refine⟨[(0,vp (some e)),(3,vp (pa b)),(4,.func (.func 112) #[] #[vp (pa b)]),(10,vp (pa l)),(11,vp (pa aq)),(85,vs (some j) d f),(86,vi d),(87,vi g),(108,.agg #[vi ai,vi af,vi ap,vi p,vi r,vi q,vi s]),(109,.bool az)],pk,(show FactsAt _ _ _ from⟨trivial,trivial,trivial,trivial,trivial,trivial⟩),?_⟩
   obtain⟨q65,h⟩:=h
   refine G_onlyskip 20 none (bv 22 2097151) (storeN 76 (vp (pa aq)) (.agg #[vi ai,vi af,vi ap,vi p,vi r,vi q,vi s])) (λHz=>Hz=hputs H14 (ad aq) [vi ai,vi af,vi ap,vi p,vi r,vi q,vi s] 0) (by kernel_rfl) (λ_=>by kernel_rfl) (ss_store [vi ai,vi af,vi ap,vi p,vi r,vi q,vi s] 7 (by kernel_rfl) (by kernel_rfl) (λ_=>by kernel_rfl) (by kernel_rfl) q65) (by kernel_rfl) ?_
   intro bp e64
   replace h:=h bp e64
   refine⟨[(0,vp (some e)),(3,vp (pa b)),(4,.func (.func 112) #[] #[vp (pa b)]),(10,vp (pa l)),(11,vp (pa aq)),(85,vs (some j) d f),(86,vi d),(87,vi g),(109,.bool az)],pk,(show FactsAt _ _ _ from⟨trivial,trivial,trivial,trivial,trivial,trivial⟩),?_⟩
   refine T_g 21 (some 12) (.bool az) (bv 22 4194303) [(0,vp (some e)),(3,vp (pa b)),(4,.func (.func 112) #[] #[vp (pa b)]),(10,vp (pa l)),(11,vp (pa aq)),(85,vs (some j) d f),(86,vi d),(87,vi g)] (pure (.value (.bool az)):Sem Next) (λ_ _ _ _ _=>rfl) ?_
   refine G_sub [(0,vp (some e)),(3,vp (pa b)),(4,.func (.func 112) #[] #[vp (pa b)]),(10,vp (pa l)),(11,vp (pa aq)),(85,vs (some j) d f),(86,vi d),(87,vi g)] sk ?_
   refine G_end (by kernel_rfl) ?_
   refine S_then ?_
   refine T_srz 16<| T_n 1 [(0,vp (some e)),(3,vp (pa b)),(4,.func (.func 112) #[] #[vp (pa b)]),(10,vp (pa l)),(11,vp (pa aq)),(85,vs (some j) d f),(86,vi d),(87,vi g),(110,vp (some ((ad aq).add 1)))] ?_
   obtain⟨bn,q66,h⟩:=h
   refine T_l1 111 3 q66 [110]<| T_ed 1 [111] [(112,.bool (bn==1))] ?_
   by_cases c67:bn=1
   ·rw[if_pos c67]at h
    refine T_cTz 112 (beq_iff_eq.mpr c67)<| T_rz 17<| T_nd 2 [112] [(113,.func (.func 112) #[] #[vp (pa b)]),(114,vp (pa l))] ?_
    obtain⟨a0,q69,h⟩:=h
    refine T_l1 115 3 q69 [114]<| T_nd 1 [] [(116,vp (some ((ad l).add 1)))] ?_
    obtain⟨be,q70,h⟩:=h
    refine T_l1 117 3 q70 [116]<| T_nd 2 [11,117] [(118,vi (IntKind.wrap .i64 (be*16))),(119,vp (some ((ad aq).add 2)))] ?_
    obtain⟨a4,q71,h⟩:=h
    refine T_l1 120 3 q71 [119]<| T_nd 1 [10] [(121,vp (some ((ad l).add 1)))] ?_
    obtain⟨bh,q72,h⟩:=h
    refine T_l1 122 3 q72 [121]<| T_nd 3 [120,122] [(125,vi (if(IntKind.wrap .i64 ((IntKind.wrap .i64 (bh+1))*16))<a4 then(IntKind.wrap .i64 ((IntKind.wrap .i64 (bh+1))*16))else a4))] ?_
    refine T_c (some 126) h ?_;clear h
    intro v_6 cj h
    refine T_pd [113,115,118,125] [] ?_
    refine N_end (by kernel_rfl) ?_
    refine S_blockEnd ?_
    refine S_then ?_
    refine T_rz 18<| T_ed 2 [87] [(87,vi (IntKind.wrap .i64 (g+1)))] ?_
    exact S_round ((IntKind.wrap .i64 (g+1)):Int) sk h
   rw[if_neg c67]at h
   refine T_cFz 112 (beq_eq_false_iff_ne.mpr c67)<| T_k ?_
   refine S_blockEnd ?_
   refine S_then ?_
   refine T_rz 18<| T_ed 2 [10,11,87,112] [(87,vi (IntKind.wrap .i64 (g+1)))] ?_
   exact S_round ((IntKind.wrap .i64 (g+1)):Int) sk h
  replace h:=h.2
  refine O_new 19 (some 11) (bv 22 557055) (λb=>vp (pa b)) (.cells #[vi 0,vi 0,vi 0,vi 0,vi 0,vi 0,vi 0] 76) (by kernel_rfl) (λ_=>by kernel_rfl) (by kernel_rfl) ?_
  intro ak H17 e78 e79
  replace h:=h ak H17 e78 e79
  obtain⟨f73,f74,f75,f76,f77,h⟩:=h
  refine⟨[(0,vp (some e)),(3,vp (pa b)),(4,.func (.func 112) #[] #[vp (pa b)]),(10,vp (pa l)),(11,vp (pa ak)),(85,vs (some j) d f),(86,vi d),(87,vi g),(104,vp a3),(106,vi bd)],pk,(show FactsAt _ _ _ from⟨f73,f74,f75,f76,f77,trivial⟩),?_⟩
  refine G_call 15 (some 107) (bv 22 589823) 24 #[vp a3,vi bd] (by kernel_rfl) (λ_=>by kernel_rfl) h (by kernel_rfl) ?_;clear h
  rintro cs ch ⟨aj,ag,au,aa,ab,ac,y,a1,rfl,h⟩
  refine⟨[(0,vp (some e)),(3,vp (pa b)),(4,.func (.func 112) #[] #[vp (pa b)]),(10,vp (pa l)),(11,vp (pa ak)),(85,vs (some j) d f),(86,vi d),(87,vi g),(107,.tuple #[.agg #[vi aj,vi ag,vi au,vi aa,vi ab,vi ac,vi y],.bool a1])],pk,(show FactsAt _ _ _ from⟨trivial,trivial,trivial,trivial,trivial,trivial⟩),?_⟩
  refine T_g 16 (some 91) (.tuple #[.agg #[vi aj,vi ag,vi au,vi aa,vi ab,vi ac,vi y],.bool a1]) (bv 22 655359) [(0,vp (some e)),(3,vp (pa b)),(4,.func (.func 112) #[] #[vp (pa b)]),(10,vp (pa l)),(11,vp (pa ak)),(85,vs (some j) d f),(86,vi d),(87,vi g),(91,.tuple #[.agg #[vi aj,vi ag,vi au,vi aa,vi ab,vi ac,vi y],.bool a1])] (pure (.value (.tuple #[.agg #[vi aj,vi ag,vi au,vi aa,vi ab,vi ac,vi y],.bool a1])):Sem Next) (λ_ _ _ _ _=>rfl)<| T_g1 17 108 (.agg #[vi aj,vi ag,vi au,vi aa,vi ab,vi ac,vi y]) (bv 22 786431) [] (pure (.value (.agg #[vi aj,vi ag,vi au,vi aa,vi ab,vi ac,vi y])):Sem Next) (λ_ _ _ _ _=>rfl)<| T_g1 18 109 (.bool a1) (bv 22 1048575) [91] (pure (.value (.bool a1)):Sem Next) (λ_ _ _ _ _=>rfl) ?_
  obtain⟨q81,h⟩:=h
  refine G_onlyskip 20 none (bv 22 2097151) (storeN 76 (vp (pa ak)) (.agg #[vi aj,vi ag,vi au,vi aa,vi ab,vi ac,vi y])) (λHz=>Hz=hputs ch (ad ak) [vi aj,vi ag,vi au,vi aa,vi ab,vi ac,vi y] 0) (by kernel_rfl) (λ_=>by kernel_rfl) (ss_store [vi aj,vi ag,vi au,vi aa,vi ab,vi ac,vi y] 7 (by kernel_rfl) (by kernel_rfl) (λ_=>by kernel_rfl) (by kernel_rfl) q81) (by kernel_rfl) ?_
  intro br e80
  replace h:=h br e80
  refine⟨[(0,vp (some e)),(3,vp (pa b)),(4,.func (.func 112) #[] #[vp (pa b)]),(10,vp (pa l)),(11,vp (pa ak)),(85,vs (some j) d f),(86,vi d),(87,vi g),(109,.bool a1)],pk,(show FactsAt _ _ _ from⟨trivial,trivial,trivial,trivial,trivial,trivial⟩),?_⟩
  refine T_g 21 (some 12) (.bool a1) (bv 22 4194303) [(0,vp (some e)),(3,vp (pa b)),(4,.func (.func 112) #[] #[vp (pa b)]),(10,vp (pa l)),(11,vp (pa ak)),(85,vs (some j) d f),(86,vi d),(87,vi g)] (pure (.value (.bool a1)):Sem Next) (λ_ _ _ _ _=>rfl) ?_
  refine G_sub [(0,vp (some e)),(3,vp (pa b)),(4,.func (.func 112) #[] #[vp (pa b)]),(10,vp (pa l)),(11,vp (pa ak)),(85,vs (some j) d f),(86,vi d),(87,vi g)] sk ?_
  refine G_end (by kernel_rfl) ?_
  refine S_then ?_
  refine T_srz 16<| T_n 1 [(0,vp (some e)),(3,vp (pa b)),(4,.func (.func 112) #[] #[vp (pa b)]),(10,vp (pa l)),(11,vp (pa ak)),(85,vs (some j) d f),(86,vi d),(87,vi g),(110,vp (some ((ad ak).add 1)))] ?_
  obtain⟨bj,q82,h⟩:=h
  refine T_l1 111 3 q82 [110]<| T_ed 1 [111] [(112,.bool (bj==1))] ?_
  by_cases c83:bj=1
  ·rw[if_pos c83]at h
   refine T_cTz 112 (beq_iff_eq.mpr c83)<| T_rz 17<| T_nd 2 [112] [(113,.func (.func 112) #[] #[vp (pa b)]),(114,vp (pa l))] ?_
   obtain⟨a2,q85,h⟩:=h
   refine T_l1 115 3 q85 [114]<| T_nd 1 [] [(116,vp (some ((ad l).add 1)))] ?_
   obtain⟨bc,q86,h⟩:=h
   refine T_l1 117 3 q86 [116]<| T_nd 2 [11,117] [(118,vi (IntKind.wrap .i64 (bc*16))),(119,vp (some ((ad ak).add 2)))] ?_
   obtain⟨a5,q87,h⟩:=h
   refine T_l1 120 3 q87 [119]<| T_nd 1 [10] [(121,vp (some ((ad l).add 1)))] ?_
   obtain⟨bg,q88,h⟩:=h
   refine T_l1 122 3 q88 [121]<| T_nd 3 [120,122] [(125,vi (if(IntKind.wrap .i64 ((IntKind.wrap .i64 (bg+1))*16))<a5 then(IntKind.wrap .i64 ((IntKind.wrap .i64 (bg+1))*16))else a5))] ?_
   refine T_c (some 126) h ?_;clear h
   intro v_8 co h
   refine T_pd [113,115,118,125] [] ?_
   refine N_end (by kernel_rfl) ?_
   refine S_blockEnd ?_
   refine S_then ?_
   refine T_rz 18<| T_ed 2 [87] [(87,vi (IntKind.wrap .i64 (g+1)))] ?_
   exact S_round ((IntKind.wrap .i64 (g+1)):Int) sk h
  rw[if_neg c83]at h
  refine T_cFz 112 (beq_eq_false_iff_ne.mpr c83)<| T_k ?_
  refine S_blockEnd ?_
  refine S_then ?_
  refine T_rz 18<| T_ed 2 [10,11,87,112] [(87,vi (IntKind.wrap .i64 (g+1)))] ?_
  exact S_round ((IntKind.wrap .i64 (g+1)):Int) sk h
 rw[if_neg c49]at h
 refine T_cFz 88 (decide_eq_false c49) ?_
 refine S_exit 2 (by kernel_rfl) ?_
 refine S_exitThen ?_
 refine S_exitThen ?_
 refine S_exitHere ?_
 refine S_then ?_
 refine T_srz 19<| T_nu [(3,vp (pa b))] ?_
 obtain⟨bu,bt,bs,q89,h⟩:=h
 exact T_l1 128 67 q89 [3]<| T_nr 1 [2] [vs bu bt bs] hQ h
end trace_Trace_Weaks

/-! (*moraine/trace.Trace).look.1 -/
namespace trace_Trace_look_1
def K0:=Func.code Tryz.f105
def K2:=cb K0
end trace_Trace_look_1
def trace_Trace_look_1.pt(b:Int)(m:Option Addr)(H:Array Obj)(R:Value->Array Obj->Prop):Prop:=
 ∃a:Addr,m=some a/\
 ∃x:Option Addr,hat H a=some (.pointer x)/\
 ∃xA:Addr,x=some xA/\
 ∃n:Option Addr,hat H xA=some (.pointer n)/\
 ∃s:Addr,n=some s/\
 ∃o:Option Addr,hat H s=some (.pointer o)/\
 ∃p:Addr,o=some p/\
 ∃q:Option Addr,hat H p=some (.pointer q)/\
 ∃r:Addr,q=some r/\
 ∃k:Option Addr,hat H r=some (.pointer k)/\
 seg_Mem_Read.C k b H (λv H1=> ∃ra rb:Int,v=.tuple #[.int .u64 ra,.int .i64 rb]/\
 ∃aa:Option Addr,hat H1 a=some (.pointer aa)/\
 ∃e:Addr,aa=some e/\
 ∃z:Option Addr,hat H1 e=some (.pointer z)/\
 ∃f:Addr,z=some f/\
 ∃t:Option Addr,hat H1 f=some (.pointer t)/\
 ∃i:Addr,t=some i/\
 ∃u:Option Addr,hat H1 i=some (.pointer u)/\
 ∃g:Addr,u=some g/\
 ∃d:Option Addr,hat H1 g=some (.pointer d)/\
 ∃j:Option Addr,hat H1 a=some (.pointer j)/\
 trace_Trace_Visit.C j ra H1 (λab H2=> ∃l:Int,ab=.int .u64 l/\RowAt H2 a 0 [.pointer (some e)]/\RowAt H2 e 0 [.pointer (some f)]/\RowAt H2 f 0 [.pointer (some i)]/\RowAt H2 i 0 [.pointer (some g)]/\RowAt H2 g 0 [.pointer d]/\
 seg_Mem_Write.C d b l H2 (λac H3=> ∃y:Int,ac=.int .i64 y/\
 R (.tuple #[]) H3)))
namespace trace_Trace_look_1
theorem link{b:Int}{m:Option Addr}{H:Array Obj}{R:Value->Array Obj->Prop}(h:pt b m H R):C b m H R:=by
 refine T_en K0 41 Tryz.func105 ?_
 intro w0 Q hQ
 unfold pt at h
 refine T_su [(0,vi b),(1,vp m)]<| T_srz 0 ?_
 obtain⟨a,rfl,h⟩:=h
 obtain⟨x,q1,h⟩:=h
 refine T_ld (some 6) 82 q1 [1] [(1,vp (some a)),(6,vp x)] ?_
 obtain⟨xA,rfl,h⟩:=h
 refine T_nd 2 [6] [(8,vp (some xA))] ?_
 obtain⟨n,q2,h⟩:=h
 refine T_l1 9 22 q2 [8] ?_
 obtain⟨s,rfl,h⟩:=h
 refine T_nd 2 [9] [(11,vp (some s))] ?_
 obtain⟨o,q3,h⟩:=h
 refine T_l1 12 26 q3 [11] ?_
 obtain⟨p,rfl,h⟩:=h
 refine T_nd 2 [12] [(14,vp (some p))] ?_
 obtain⟨q,q4,h⟩:=h
 refine T_l1 15 39 q4 [14] ?_
 obtain⟨r,rfl,h⟩:=h
 refine T_nd 2 [15] [(17,vp (some r))] ?_
 obtain⟨k,q5,h⟩:=h
 refine T_l1 18 69 q5 [17]<| T_nd 1 [] [(19,vi b)] ?_
 refine T_c (some 20) h ?_;clear h
 rintro v H1 ⟨ra,rb,rfl,h⟩
 refine T_pd [18,19] [(20,.tuple #[vu ra,vi rb])]<| T_ed 5 [20] [(3,vu ra)] ?_
 obtain⟨aa,q6,h⟩:=h
 obtain⟨e,rfl,h⟩:=h
 obtain⟨z,q7,h⟩:=h
 obtain⟨f,rfl,h⟩:=h
 obtain⟨t,q8,h⟩:=h
 obtain⟨i,rfl,h⟩:=h
 obtain⟨u,q9,h⟩:=h
 obtain⟨g,rfl,h⟩:=h
 obtain⟨d,q10,h⟩:=h
 obtain⟨j,q11,h⟩:=h
 refine S_regionG 1 (Code.ops K2) [(17,a,[vp (some e)]),(17,e,[vp (some f)]),(17,f,[vp (some i)]),(17,i,[vp (some g)]),(17,g,[vp d]),(16,a,[vp j])] 18 (bv 18 0) (by kernel_rfl) (by kernel_rfl) (by kernel_rfl) (by kernel_rfl) (by kernel_rfl) (show FactsAt _ _ _ from⟨⟨q6,trivial⟩,⟨q7,trivial⟩,⟨q8,trivial⟩,⟨q9,trivial⟩,⟨q10,trivial⟩,⟨q11,trivial⟩,trivial⟩) ?_
 refine T_g 0 (some 23) (vp (some e)) (bv 18 1) [(0,vi b),(1,vp (some a)),(3,vu ra),(23,vp (some e))] (loadN 82 (vp (some a))) (held_one 17 (λ_=>by kernel_rfl) (List.Mem.head _) (.inl (by kernel_rfl)))<| T_gp1 1 24 (vp (some e)) (bv 18 3) [23]<| T_gp1 2 25 (vp (some e)) (bv 18 7) [24]<| T_g1 3 26 (vp (some f)) (bv 18 15) [25] (loadN 22 (vp (some e))) (held_one 17 (λ_=>by kernel_rfl) (List.Mem.tail _ (List.Mem.head _)) (.inl (by kernel_rfl)))<| T_gp1 4 27 (vp (some f)) (bv 18 31) [26]<| T_gp1 5 28 (vp (some f)) (bv 18 63) [27]<| T_g1 6 29 (vp (some i)) (bv 18 127) [28] (loadN 26 (vp (some f))) (held_one 17 (λ_=>by kernel_rfl) (List.Mem.tail _ (List.Mem.tail _ (List.Mem.head _))) (.inl (by kernel_rfl)))<| T_gp1 7 30 (vp (some i)) (bv 18 255) [29]<| T_gp1 8 31 (vp (some i)) (bv 18 511) [30] ?_
 refine T_g1 9 32 (vp (some g)) (bv 18 1023) [31] (loadN 39 (vp (some i))) (held_one 17 (λ_=>by kernel_rfl) (List.Mem.tail _ (List.Mem.tail _ (List.Mem.tail _ (List.Mem.head _)))) (.inl (by kernel_rfl)))<| T_gp1 10 33 (vp (some g)) (bv 18 2047) [32]<| T_gp1 11 34 (vp (some g)) (bv 18 4095) [33]<| T_g1 12 35 (vp d) (bv 18 8191) [34] (loadN 69 (vp (some g))) (held_one 17 (λ_=>by kernel_rfl) (List.Mem.tail _ (List.Mem.tail _ (List.Mem.tail _ (List.Mem.tail _ (List.Mem.head _))))) (.inl (by kernel_rfl)))<| T_gp1 13 36 (vi b) (bv 18 16383) [0]<| T_g1 14 37 (vp j) (bv 18 32767) [1] (loadN 82 (vp (some a))) (held_one 16 (λ_=>by kernel_rfl) (List.Mem.tail _ (List.Mem.tail _ (List.Mem.tail _ (List.Mem.tail _ (List.Mem.tail _ (List.Mem.head _)))))) (.inl (by kernel_rfl)))<| T_gp1 15 38 (vu ra) (bv 18 65535) [3] ?_
 refine G_call 16 (some 39) (bv 18 131071) 29 #[vp j,vu ra] (by kernel_rfl) (λ_=>by kernel_rfl) h (by kernel_rfl) ?_;clear h
 rintro ab H2 ⟨l,rfl,h⟩
 obtain⟨f12,f13,f14,f15,f16,h⟩:=h
 refine⟨[(35,vp d),(36,vi b),(39,vu l)],pk,(show FactsAt _ _ _ from⟨f12,f13,f14,f15,f16,trivial,trivial⟩),?_⟩
 refine G_call 17 (some 40) (bv 18 262143) 67 #[vp d,vi b,vu l] (by kernel_rfl) (λ_=>by kernel_rfl) h (by kernel_rfl) ?_;clear h
 rintro ac H3 ⟨y,rfl,h⟩
 refine⟨[],pk,(show FactsAt _ _ _ from⟨trivial,trivial,trivial,trivial,trivial,trivial,trivial⟩),?_⟩
 refine G_sub [] sk ?_
 refine G_end (by kernel_rfl) ?_
 exact S_doneN (fn:=Tryz.f105) [] hQ (show ResOK _ _ _ [] _ from .nil) h
end trace_Trace_look_1

/-! (*moraine/trace.Trace).Ended -/
namespace trace_Trace_Ended
def K0:=Func.code Tryz.f106
end trace_Trace_Ended
def trace_Trace_Ended.pt(tv:Option Addr)(H:Array Obj)(R:Value->Array Obj->Prop):Prop:=
 trace_Trace_none.C tv H (λv H1=> ∃x:Bool,v=.bool x/\
 R (.bool x) H1)
namespace trace_Trace_Ended
theorem link{tv:Option Addr}{H:Array Obj}{R:Value->Array Obj->Prop}(h:pt tv H R):C tv H R:=by
 refine T_en K0 5 Tryz.func106 ?_
 intro w0 Q hQ
 unfold pt at h
 refine T_su [(0,vp tv)]<| T_srz 0<| T_ed 1 [] []<| T_srz 1<| T_n 1 [(3,vp tv)] ?_
 refine T_c (some 4) h ?_;clear h
 rintro v H1 ⟨x,rfl,h⟩
 refine⟨[(4,.bool x)],pk,?_⟩
 exact T_nr 1 [2] [.bool x] hQ h
end trace_Trace_Ended

/-! (*moraine/trace.Trace).Put -/
namespace trace_Trace_Weaks_1
def K0:=Func.code Tryz.f112
def K2:=cb K0
def K3:=ca K2
def K4:=ca K3
end trace_Trace_Weaks_1
def trace_Trace_Weaks_1.pt(d f to:Int)(e:Option Addr)(H:Array Obj)(R:Value->Array Obj->Prop):Prop:=
 ∃(I5:Int->Array Obj->Prop) (m5:Int->Array Obj->Nat),I5 f H/\ ∀(i:Int) (H1:Array Obj),I5 i H1->
 if i<to then(
 ∃a:Addr,e=some a/\
 ∃(xB:Option Addr) (xN xC:Nat),hat H1 a=some (.slice xB xN xC)/\
 ∀(b:Nat) (H2:Array Obj),b=H1.size->H2=H1.push (.cells #[.int .i64 (IntKind.wrap .i64 ((IntKind.wrap .i64 (d*64))+i))] 3)->
 appendK 1 3 8 [.int .i64 0] xB xN xC (some (ad b)) 1 H2 (λap g H3=>
 (CanPuts H3 a 0 1)/\ ∀H4,H4=hputs H3 a [.slice ap (xN+1) g] 0->
 (I5 (IntKind.wrap .i64 (i+2)) H4/\m5 (IntKind.wrap .i64 (i+2)) H4<m5 i H1)))
 else
 R (.tuple #[]) H1
namespace trace_Trace_Weaks_1
theorem link{d f to:Int}{e:Option Addr}{H:Array Obj}{R:Value->Array Obj->Prop}(h:pt d f to e H R):C d f to e H R:=by
 refine T_en K0 21 Tryz.func112 ?_
 intro w0 Q hQ
 unfold pt at h
 refine T_su [(0,vi d),(1,vi f),(2,vi to),(3,vp e)]<| T_srz 0<| T_ed 2 [1] [(7,vi f)]<| T_bz 0 ?_
 obtain⟨I5,m5,i1,i2⟩:=h
 refine S_loop (x:=K4) (σ:=Int) (λs_=> [(0,vi d),(2,vi to),(3,vp e),(7,vi s_)]) (λs_ H=>I5 s_ H) (λs_ H=>m5 s_ H) (f:Int) (by kernel_rfl) i1 sk ?_
 rintro i H1 i3
 have h:=i2 i H1 i3
 refine T_su [(0,vi d),(2,vi to),(3,vp e),(7,vi i)]<| T_sz<| T_srz 1<| T_ed 3 [] [(11,.bool (decide (i<to)))] ?_
 by_cases c4:i<to
 ·rw[if_pos c4]at h
  refine T_cTz 11 (decide_eq_true c4)<| T_kt<| T_sz<| T_bz 1<| T_rz 3<| T_ud [11] [] ?_
  obtain⟨a,rfl,h⟩:=h
  obtain⟨xB,xN,xC,q6,h⟩:=h
  refine T_ld (some 14) 67 q6 [3] [(3,vp (some a)),(14,vs xB xN xC)]<| T_nd 4 [] [(18,vi (IntKind.wrap .i64 ((IntKind.wrap .i64 (d*64))+i)))]<| T_nw (some 19) (λb=>vs (pa b) 1 1) (.cells #[vi (IntKind.wrap .i64 ((IntKind.wrap .i64 (d*64))+i))] 3) ?_
  intro b H2 e7 e8
  replace h:=h b H2 e7 e8
  refine T_pd [18] [(19,vs (pa b) 1 1)] ?_
  refine N_op (some 20) (appendN #[67,67] 67 #[vs xB xN xC,vs (pa b) 1 1]) _ (λ_=>by kernel_rfl) (ss_append (T:=3) (sz:=1) (bytes:=8) (zero:=(vi 0:Value)) Tryz.underlying67 Tryz.underlying67 rfl (show Tryz.prog.info? 3=some Tryz.t3 from by kernel_rfl) (by kernel_rfl) (by kernel_rfl) (by decide) (by kernel_rfl) (by first | exact h | (simpa only[Value.cells,List.toList_toArray]using h))) ?_;clear h
  rintro _ H3 ⟨ap,g,rfl,h⟩
  refine T_pd [14,19] [(20,vs ap (xN+1) g)] ?_
  obtain⟨q10,h⟩:=h
  refine T_st1 67 (vs ap (xN+1) g) q10 ?_
  intro H4 e9
  replace h:=h H4 e9
  refine T_pd [20] [] ?_
  refine N_end (by kernel_rfl) ?_
  refine S_blockEnd ?_
  refine S_then ?_
  refine T_rz 2<| T_ed 3 [7] [(7,vi (IntKind.wrap .i64 (i+2)))] ?_
  exact S_round ((IntKind.wrap .i64 (i+2)):Int) sk h
 rw[if_neg c4]at h
 refine T_cFz 11 (decide_eq_false c4) ?_
 refine S_exit 0 (by kernel_rfl) ?_
 refine S_exitThen ?_
 refine S_exitThen ?_
 refine S_exitHere ?_
 exact S_doneN (fn:=Tryz.f112) [] hQ (show ResOK _ _ _ [] _ from .nil) h
end trace_Trace_Weaks_1

end Go.Proofs.YtgnokbjknicahaaGreat
