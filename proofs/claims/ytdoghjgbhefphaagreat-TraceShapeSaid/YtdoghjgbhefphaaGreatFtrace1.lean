/- Printed: what each function asks, and that it is sound. -/
import Derived.Test.YtdoghjgbhefphaaGreatFnsC
set_option linter.unusedSimpArgs false
set_option linter.unusedVariables false
set_option maxRecDepth 100000
set_option maxHeartbeats 1000000
noncomputable section
namespace Go.Proofs.YtdoghjgbhefphaaGreat
open Go
/-! (*moraine/trace.Trace).Weaks -/
namespace trace_Trace_Weaks
def K0:=Func.code Tryz.f37
def K2:=cb K0
def K4:=cb K2
def K12:=cb K4
def K14:=cb K12
def K15:=ca K14
def K16:=cb K14
def K17:=ca K15
def K18:=cb K15
def K19:=ca K18
def K20:=ca K19
def K22:=cb K20
def K24:=cb K22
def K27:=ca K24
def K29:=ca K27
def K31:=cb K29
def K33:=cb K31
def K35:=cb K33
def K36:=ca K35
def K38:=ca K16
def K41:=cb K38
def K42:=ca K41
def K43:=ca K42
def K45:=cb K43
def K47:=cb K45
def K50:=ca K47
def K52:=ca K50
def K54:=cb K52
def K55:=ca K54
end trace_Trace_Weaks
def trace_Trace_Weaks.pt(tv:Option Addr)(H:Array Obj)(R:Value->Array Obj->Prop):Prop:=
 trace_Trace_none.C tv H (λv H1=> ∃x:Bool,v=.bool x/\
 if x=true then(
 R (.slice none 0 0) H1)
 else
 ∀(b:Nat) (H2:Array Obj),b=H1.size->H2=H1.push (.cells #[.slice none 0 0] 52)->
 ∃f:Addr,tv=some f/\
 ∃cq:Option Addr,hat H2 f=some (.pointer cq)/\
 ∃bb:Addr,cq=some bb/\
 ∃cm:Option Addr,hat H2 bb=some (.pointer cm)/\
 ∃a9:Addr,cm=some a9/\
 ∃ck:Option Addr,hat H2 a9=some (.pointer ck)/\
 ∃ba:Addr,ck=some ba/\
 ∃bh:Option Addr,hat H2 ba=some (.pointer bh)/\
 ∃b3:Int,hat H2 (f.add 1)=some (.int .i64 b3)/\
 ∀(b8:Nat) (H3:Array Obj),b8=H2.size->H3=H2.push (.cells #[.int .i64 b3] 3)->RowAt H3 f 0 [.pointer (some bb)]/\RowAt H3 bb 0 [.pointer (some a9)]/\RowAt H3 a9 0 [.pointer (some ba)]/\RowAt H3 ba 0 [.pointer bh]/\
 seg_Mem_Taken.C bh (some (ad b8)) 1 1 H3 (λcu H4=> ∃(xB:Option Addr) (xN xC:Nat),cu=.slice xB xN xC/\
 ∃(b7:Int->Array Obj->Prop) (m21:Int->Array Obj->Nat),b7 0 H4/\ ∀(p:Int) (H5:Array Obj),b7 p H5->
 if p< (xN:Int)then(
 ∃ag:Addr,xB=some ag/\
 ((0:Int)<=p/\p< (xN:Int))/\
 ∃q:Int,hat H5 (ag.add (Int.toNat p*1))=some (.int .i64 q)/\
 ∃b9:Option Addr,hat H5 f=some (.pointer b9)/\
 ∃cc:Addr,b9=some cc/\
 ∃ce:Option Addr,hat H5 cc=some (.pointer ce)/\
 ∃cd:Addr,ce=some cd/\
 ∃b5:Option Addr,hat H5 cd=some (.pointer b5)/\
 ∃b6:Addr,b5=some b6/\
 ∃bz:Option Addr,hat H5 b6=some (.pointer bz)/\
 seg_Mem_Seg.C bz q H5 (λct H6=> ∃(bd a0 b0 ap ao aq an:Int) (rb:Bool),ct=.tuple #[.agg #[.int .i64 bd,.int .i64 a0,.int .i64 b0,.int .i64 ap,.int .i64 ao,.int .i64 aq,.int .i64 an],.bool rb]/\
 ∀(aj:Nat) (H7:Array Obj),aj=H6.size->H7=H6.push (.cells #[.int .i64 0,.int .i64 0,.int .i64 0,.int .i64 0,.int .i64 0,.int .i64 0,.int .i64 0] 82)->
 (CanPuts H7 (ad aj) 0 7)/\ ∀H8,H8=hputs H7 (ad aj) [.int .i64 bd,.int .i64 a0,.int .i64 b0,.int .i64 ap,.int .i64 ao,.int .i64 aq,.int .i64 an] 0->
 ∃bk:Int,hat H8 ((ad aj).add 1)=some (.int .i64 bk)/\
 if bk=1 then(
 ((0:Int)<=q/\q< (1024:Int))/\
 ∃bl:Int,hat H8 ((f.add 2).add (Int.toNat q*1))=some (.int .i64 bl)/\
 if bl=0 then(
 ∃bp:Option Nat,hat H8 (f.add 1026)=some (.map bp)/\
 ∃bn:Int,hat H8 ((ad aj).add 2)=some (.int .i64 bn)/\
 ∃mr:Nat,bp=some mr/\
 ∃(es:Array MapEntry) (cl:Nat) (ks:List (Int×Value)),H8[mr]?=some (.map es cl)/\Ents (intKey .i64) es.toList ks/\
 ∃b1:Int,(mget ks q).getD (.int .i64 0)=.int .i64 b1/\
 RowAt H8 ((ad aj).add 2) 0 [.int .i64 bn]/\trace_Trace_Weaks_1.C q b1 bn (some (ad b)) H8 (λ_ H9=>
 (b7 (IntKind.wrap .i64 (p+1)) H9/\m21 (IntKind.wrap .i64 (p+1)) H9<m21 p H5)))
 else
 (b7 (IntKind.wrap .i64 (p+1)) H8/\m21 (IntKind.wrap .i64 (p+1)) H8<m21 p H5))
 else
 (b7 (IntKind.wrap .i64 (p+1)) H8/\m21 (IntKind.wrap .i64 (p+1)) H8<m21 p H5)))
 else
 ∃(a6:Option Addr) (d j:Nat),hat H5 (f.add 1028)=some (.slice a6 d j)/\
 ∃(b4:Int->Array Obj->Prop) (m44:Int->Array Obj->Nat),b4 0 H5/\ ∀(l:Int) (H10:Array Obj),b4 l H10->
 if l< (d:Int)then(
 ∃m:Addr,a6=some m/\
 ((0:Int)<=l/\l< (d:Int))/\
 ∃bm bc:Int,RowAt H10 (m.add (Int.toNat l*2)) 0 [.int .i64 bm,.int .i64 bc]/\
 ∀(o:Nat) (H11:Array Obj),o=H10.size->H11=H10.push (.cells #[.int .i64 0,.int .i64 0] 198)->
 (CanPuts H11 (ad o) 0 2)/\ ∀bs,bs=hputs H11 (ad o) [.int .i64 bm,.int .i64 bc] 0->
 ∃ch:Option Addr,hat bs f=some (.pointer ch)/\
 ∃az:Addr,ch=some az/\
 ∃ci:Option Addr,hat bs az=some (.pointer ci)/\
 ∃ay:Addr,ci=some ay/\
 ∃cg:Option Addr,hat bs ay=some (.pointer cg)/\
 ∃ax:Addr,cg=some ax/\
 ∃a3:Option Addr,hat bs ax=some (.pointer a3)/\
 ∃bf:Int,hat bs (ad o)=some (.int .i64 bf)/\
 (
 seg_Mem_Seg.C a3 bf bs (λcr cn=> ∃(ak ah au r y s aa:Int) (a1:Bool),cr=.tuple #[.agg #[.int .i64 ak,.int .i64 ah,.int .i64 au,.int .i64 r,.int .i64 y,.int .i64 s,.int .i64 aa],.bool a1]/\
 ∀(av:Nat) (H14:Array Obj),av=cn.size->H14=cn.push (.cells #[.int .i64 0,.int .i64 0,.int .i64 0,.int .i64 0,.int .i64 0,.int .i64 0,.int .i64 0] 82)->
 (CanPuts H14 (ad av) 0 7)/\ ∀br,br=hputs H14 (ad av) [.int .i64 ak,.int .i64 ah,.int .i64 au,.int .i64 r,.int .i64 y,.int .i64 s,.int .i64 aa] 0->
 ∃bo:Int,hat br ((ad av).add 1)=some (.int .i64 bo)/\
 if bo=1 then(
 ∃a4:Int,hat br (ad o)=some (.int .i64 a4)/\
 ∃bg:Int,hat br ((ad o).add 1)=some (.int .i64 bg)/\
 ∃a8:Int,hat br ((ad av).add 2)=some (.int .i64 a8)/\
 ∃bj:Int,hat br ((ad o).add 1)=some (.int .i64 bj)/\
 trace_Trace_Weaks_1.C a4 (IntKind.wrap .i64 (bg*16)) (if(IntKind.wrap .i64 ((IntKind.wrap .i64 (bj+1))*16))<a8 then(IntKind.wrap .i64 ((IntKind.wrap .i64 (bj+1))*16))else a8) (some (ad b)) br (λ_ co=>
 (b4 (IntKind.wrap .i64 (l+1)) co/\m44 (IntKind.wrap .i64 (l+1)) co<m44 l H10)))
 else
 (b4 (IntKind.wrap .i64 (l+1)) br/\m44 (IntKind.wrap .i64 (l+1)) br<m44 l H10)))/\(
 ∀(am:Nat) (H17:Array Obj),am=bs.size->H17=bs.push (.cells #[.int .i64 0,.int .i64 0,.int .i64 0,.int .i64 0,.int .i64 0,.int .i64 0,.int .i64 0] 82)->RowAt H17 f 0 [.pointer (some az)]/\RowAt H17 az 0 [.pointer (some ay)]/\RowAt H17 ay 0 [.pointer (some ax)]/\RowAt H17 ax 0 [.pointer a3]/\RowAt H17 (ad o) 0 [.int .i64 bf]/\
 seg_Mem_Seg.C a3 bf H17 (λcs cj=> ∃(al ai aw ab ac ae af:Int) (a5:Bool),cs=.tuple #[.agg #[.int .i64 al,.int .i64 ai,.int .i64 aw,.int .i64 ab,.int .i64 ac,.int .i64 ae,.int .i64 af],.bool a5]/\
 (CanPuts cj (ad am) 0 7)/\ ∀bt,bt=hputs cj (ad am) [.int .i64 al,.int .i64 ai,.int .i64 aw,.int .i64 ab,.int .i64 ac,.int .i64 ae,.int .i64 af] 0->
 ∃bq:Int,hat bt ((ad am).add 1)=some (.int .i64 bq)/\
 if bq=1 then(
 ∃a2:Int,hat bt (ad o)=some (.int .i64 a2)/\
 ∃be:Int,hat bt ((ad o).add 1)=some (.int .i64 be)/\
 ∃a7:Int,hat bt ((ad am).add 2)=some (.int .i64 a7)/\
 ∃bi:Int,hat bt ((ad o).add 1)=some (.int .i64 bi)/\
 trace_Trace_Weaks_1.C a2 (IntKind.wrap .i64 (be*16)) (if(IntKind.wrap .i64 ((IntKind.wrap .i64 (bi+1))*16))<a7 then(IntKind.wrap .i64 ((IntKind.wrap .i64 (bi+1))*16))else a7) (some (ad b)) bt (λ_ cp=>
 (b4 (IntKind.wrap .i64 (l+1)) cp/\m44 (IntKind.wrap .i64 (l+1)) cp<m44 l H10)))
 else
 (b4 (IntKind.wrap .i64 (l+1)) bt/\m44 (IntKind.wrap .i64 (l+1)) bt<m44 l H10))))
 else
 ∃(bx:Option Addr) (bu bw:Nat),hat H10 (ad b)=some (.slice bx bu bw)/\
 R (.slice bx bu bw) H10))
namespace trace_Trace_Weaks
theorem link{tv:Option Addr}{H:Array Obj}{R:Value->Array Obj->Prop}(h:pt tv H R):C tv H R:=by
 refine T_en K0 129 Tryz.func37 ?_
 intro w0 Q hQ
 unfold pt at h
 refine T_su [(0,vp tv)]<| T_srz 0<| T_ed 1 [] []<| T_sz<| T_srz 1<| T_nd 1 [] [(13,vp tv)] ?_
 refine T_c (some 14) h ?_;clear h
 rintro v H1 ⟨x,rfl,h⟩
 refine T_pd [13] [(14,.bool x)]<| T_e ?_
 by_cases c1:x=true
 ·rw[if_pos c1]at h
  exact T_cTz 14 c1<| T_srz 2<| T_nr 1 [2] [vs none 0 0] hQ h
 rw[if_neg c1]at h
 refine T_cFz 14 (eq_false_of_ne_true c1)<| T_kt<| T_srz 3<| T_ud [14] []<| T_nw (some 3) (λb=>vp (pa b)) (.cells #[vs none 0 0] 52) ?_
 intro b H2 e3 e4
 replace h:=h b H2 e3 e4
 refine T_pd [] [(3,vp (pa b))]<| T_e<| T_srz 4<| T_ed 2 [] [(4,.func (.func 116) #[] #[vp (pa b)])]<| T_sz<| T_sz ?_
 obtain⟨f,rfl,h⟩:=h
 obtain⟨cq,q5,h⟩:=h
 obtain⟨bb,rfl,h⟩:=h
 obtain⟨cm,q6,h⟩:=h
 obtain⟨a9,rfl,h⟩:=h
 obtain⟨ck,q7,h⟩:=h
 obtain⟨ba,rfl,h⟩:=h
 obtain⟨bh,q8,h⟩:=h
 obtain⟨b3,q9,h⟩:=h
 refine S_regionG 5 (Code.ops K17) [(18,f,[vp (some bb)]),(18,bb,[vp (some a9)]),(18,a9,[vp (some ba)]),(18,ba,[vp bh]),(17,(f.add 1),[vi b3])] 21 (bv 21 0) (by kernel_rfl) (by kernel_rfl) (by kernel_rfl) (by kernel_rfl) (by kernel_rfl) (show FactsAt _ _ _ from⟨⟨q5,trivial⟩,⟨q6,trivial⟩,⟨q7,trivial⟩,⟨q8,trivial⟩,⟨q9,trivial⟩,trivial⟩) ?_
 refine T_gp 0 (some 16) (vp (some f)) (bv 21 1) [(0,vp (some f)),(3,vp (pa b)),(4,.func (.func 116) #[] #[vp (pa b)]),(16,vp (some f))]<| T_gp1 1 17 (vp (some f)) (bv 21 3) [16]<| T_gp1 2 18 (vp (some f)) (bv 21 7) [17]<| T_g1 3 19 (vp (some bb)) (bv 21 15) [18] (loadN 28 (vp (some f))) (held_one 18 (λ_=>by kernel_rfl) (List.Mem.head _) (.inl (by kernel_rfl)))<| T_gp1 4 20 (vp (some bb)) (bv 21 31) [19]<| T_gp1 5 21 (vp (some bb)) (bv 21 63) [20]<| T_g1 6 22 (vp (some a9)) (bv 21 127) [21] (loadN 54 (vp (some bb))) (held_one 18 (λ_=>by kernel_rfl) (List.Mem.tail _ (List.Mem.head _)) (.inl (by kernel_rfl)))<| T_gp1 7 23 (vp (some a9)) (bv 21 255) [22]<| T_gp1 8 24 (vp (some a9)) (bv 21 511) [23] ?_
 refine T_g1 9 25 (vp (some ba)) (bv 21 1023) [24] (loadN 58 (vp (some a9))) (held_one 18 (λ_=>by kernel_rfl) (List.Mem.tail _ (List.Mem.tail _ (List.Mem.head _))) (.inl (by kernel_rfl)))<| T_gp1 10 26 (vp (some ba)) (bv 21 2047) [25]<| T_gp1 11 27 (vp (some ba)) (bv 21 4095) [26]<| T_g1 12 28 (vp bh) (bv 21 8191) [27] (loadN 61 (vp (some ba))) (held_one 18 (λ_=>by kernel_rfl) (List.Mem.tail _ (List.Mem.tail _ (List.Mem.tail _ (List.Mem.head _)))) (.inl (by kernel_rfl)))<| T_gp1 13 29 (vp (some f)) (bv 21 16383) []<| T_gp1 14 30 (vp (some f)) (bv 21 32767) [29]<| T_gp1 15 31 (vp (some (f.add 1))) (bv 21 65535) [30]<| T_g1 16 32 (vi b3) (bv 21 131071) [31] (loadN 3 (vp (some (f.add 1)))) (held_one 17 (λ_=>by kernel_rfl) (List.Mem.tail _ (List.Mem.tail _ (List.Mem.tail _ (List.Mem.tail _ (List.Mem.head _))))) (.inl (by kernel_rfl)))<| T_gp1 20 36 (vi 0) (bv 21 1179647) [] ?_
 refine G_new 17 (some 33) (bv 21 1310719) (λb=>vs (pa b) 1 1) (.cells #[vi b3] 3) (by kernel_rfl) (λ_=>by kernel_rfl) (by kernel_rfl) ?_
 intro b8 H3 e14 e15
 replace h:=h b8 H3 e14 e15
 obtain⟨f10,f11,f12,f13,h⟩:=h
 refine⟨[(0,vp (some f)),(3,vp (pa b)),(4,.func (.func 116) #[] #[vp (pa b)]),(28,vp bh),(33,vs (pa b8) 1 1),(36,vi 0)],pk,(show FactsAt _ _ _ from⟨f10,f11,f12,f13,trivial,trivial⟩),?_⟩
 refine G_call 18 (some 34) (bv 21 1572863) 20 #[vp bh,vs (pa b8) 1 1] (by kernel_rfl) (λ_=>by kernel_rfl) h (by kernel_rfl) ?_;clear h
 rintro cu H4 ⟨xB,xN,xC,rfl,h⟩
 refine⟨[(0,vp (some f)),(3,vp (pa b)),(4,.func (.func 116) #[] #[vp (pa b)]),(34,vs xB xN xC),(36,vi 0)],pk,(show FactsAt _ _ _ from⟨trivial,trivial,trivial,trivial,trivial,trivial⟩),?_⟩
 refine T_g 19 (some 35) (vi xN) (bv 21 2097151) [(0,vp (some f)),(3,vp (pa b)),(4,.func (.func 116) #[] #[vp (pa b)]),(34,vs xB xN xC),(35,vi xN),(36,vi 0)] (pure (.value (vi xN)):Sem Next) (λ_ _ _ _ _=>rfl) ?_
 refine G_sub [(0,vp (some f)),(3,vp (pa b)),(4,.func (.func 116) #[] #[vp (pa b)]),(34,vs xB xN xC),(35,vi xN),(36,vi 0)] sk ?_
 refine G_end (by kernel_rfl) ?_
 refine S_then ?_
 refine T_bz 0 ?_
 obtain⟨b7,m21,i16,i17⟩:=h
 refine S_loop (x:=K20) (σ:=Int) (λs_=> [(0,vp (some f)),(3,vp (pa b)),(4,.func (.func 116) #[] #[vp (pa b)]),(34,vs xB xN xC),(35,vi xN),(36,vi s_)]) (λs_ H=>b7 s_ H) (λs_ H=>m21 s_ H) (0:Int) (by kernel_rfl) i16 sk ?_
 rintro p H5 i18
 have h:=i17 p H5 i18
 refine T_su [(0,vp (some f)),(3,vp (pa b)),(4,.func (.func 116) #[] #[vp (pa b)]),(34,vs xB xN xC),(35,vi xN),(36,vi p)]<| T_srz 6<| T_ed 1 [] [(37,.bool (decide (p< (xN:Int))))]<| T_sz ?_
 by_cases c19:p< (xN:Int)
 ·rw[if_pos c19]at h
  refine T_cTz 37 (decide_eq_true c19)<| T_kt<| T_sz<| T_bz 1<| T_srz 7<| T_ud [37] [] ?_
  obtain⟨ag,rfl,h⟩:=h
  obtain⟨q21,h⟩:=h
  refine T_xd (some 38) 52 3 1 ag xN xC .i64 p Tryz.underlying52 q21.1 q21.2 [34] [(34,vs (some ag) xN xC),(38,vp (some (ag.add (Int.toNat p*1))))] ?_
  obtain⟨q,q22,h⟩:=h
  refine T_l1 39 3 q22 [38]<| T_ed 1 [39] [(6,vi q)]<| T_srz 8<| T_nd 3 [] [(43,vp (some f))] ?_
  obtain⟨b9,q23,h⟩:=h
  refine T_l1 44 28 q23 [43] ?_
  obtain⟨cc,rfl,h⟩:=h
  refine T_nd 2 [44] [(46,vp (some cc))] ?_
  obtain⟨ce,q24,h⟩:=h
  refine T_l1 47 54 q24 [46] ?_
  obtain⟨cd,rfl,h⟩:=h
  refine T_nd 2 [47] [(49,vp (some cd))] ?_
  obtain⟨b5,q25,h⟩:=h
  refine T_l1 50 58 q25 [49] ?_
  obtain⟨b6,rfl,h⟩:=h
  refine T_nd 2 [50] [(52,vp (some b6))] ?_
  obtain⟨bz,q26,h⟩:=h
  refine T_l1 53 61 q26 [52]<| T_nd 1 [] [(54,vi q)] ?_
  refine T_c (some 55) h ?_;clear h
  rintro ct H6 ⟨bd,a0,b0,ap,ao,aq,an,rb,rfl,h⟩
  refine T_pd [53,54] [(55,.tuple #[.agg #[vi bd,vi a0,vi b0,vi ap,vi ao,vi aq,vi an],.bool rb])]<| T_nd 3 [55] [(56,.agg #[vi bd,vi a0,vi b0,vi ap,vi ao,vi aq,vi an]),(57,.bool rb)]<| T_nw (some 7) (λb=>vp (pa b)) (.cells #[vi 0,vi 0,vi 0,vi 0,vi 0,vi 0,vi 0] 82) ?_
  intro aj H7 e27 e28
  replace h:=h aj H7 e27 e28
  refine T_pd [] [(7,vp (pa aj))] ?_
  obtain⟨q30,h⟩:=h
  refine T_sta 82 [vi bd,vi a0,vi b0,vi ap,vi ao,vi aq,vi an] q30 ?_
  intro H8 e29
  replace h:=h H8 e29
  refine T_pd [56] []<| T_ed 1 [57] []<| T_srz 9<| T_nd 1 [] [(58,vp (some ((ad aj).add 1)))] ?_
  obtain⟨bk,q31,h⟩:=h
  refine T_l1 59 3 q31 [58]<| T_nd 2 [59] [(61,.bool (bk==1))] ?_
  by_cases c32:bk=1
  ·rw[if_pos c32]at h
   refine N_bd 61 (beq_iff_eq.mpr c32)<| T_nd 4 [] [(63,vi q),(65,vp (some (f.add 2)))] ?_
   obtain⟨q34,h⟩:=h
   refine T_v1 66 (indexAtN 187 (vp (some (f.add 2))) (vi q)) (vp (some ((f.add 2).add (Int.toNat q*1)))) (λw _=>indexArr_run (P:=Tryz.prog) (t:=187) (elem:=3) (sz:=1) (n:=1024) (a:=(f.add 2)) (k:=.i64) (i:=q) Tryz.underlying187 (λ_=>by kernel_rfl) q34.1 q34.2 w) [63,65] ?_
   obtain⟨bl,q35,h⟩:=h
   refine T_l1 67 3 q35 [66]<| T_ed 2 [61,67] [(69,.bool (bl==0))] ?_
   by_cases c36:bl=0
   ·rw[if_pos c36]at h
    refine T_cTz 69 (beq_iff_eq.mpr c36) ?_
    obtain⟨bp,q38,h⟩:=h
    obtain⟨bn,q39,h⟩:=h
    refine S_regionG 10 (Code.ops K36) [(7,(f.add 1026),[.map bp]),(10,((ad aj).add 2),[vi bn])] 11 (bv 11 0) (by kernel_rfl) (by kernel_rfl) (by kernel_rfl) (by kernel_rfl) (by kernel_rfl) (show FactsAt _ _ _ from⟨⟨q38,trivial⟩,⟨q39,trivial⟩,trivial⟩) ?_
    refine T_gp 0 (some 70) (.func (.func 116) #[] #[vp (pa b)]) (bv 11 1) [(0,vp (some f)),(3,vp (pa b)),(4,.func (.func 116) #[] #[vp (pa b)]),(6,vi q),(7,vp (pa aj)),(34,vs (some ag) xN xC),(35,vi xN),(36,vi p),(70,.func (.func 116) #[] #[vp (pa b)])]<| T_gp1 1 71 (vi q) (bv 11 3) []<| T_gp1 2 72 (vp (some f)) (bv 11 7) []<| T_gp1 3 73 (vp (some f)) (bv 11 15) [72]<| T_gp1 4 74 (vp (some (f.add 1026))) (bv 11 31) [73]<| T_g1 5 75 (.map bp) (bv 11 63) [74] (loadN 186 (vp (some (f.add 1026)))) (held_one 7 (λ_=>by kernel_rfl) (List.Mem.head _) (.inl (by kernel_rfl)))<| T_gp1 6 76 (vi q) (bv 11 127) [6]<| T_gp1 8 78 (vp (some ((ad aj).add 2))) (bv 11 383) [7]<| T_g1 9 79 (vi bn) (bv 11 895) [78] (loadN 3 (vp (some ((ad aj).add 2)))) (held_one 10 (λ_=>by kernel_rfl) (List.Mem.tail _ (List.Mem.head _)) (.inl (by kernel_rfl))) ?_
    obtain⟨mr,rfl,h⟩:=h
    obtain⟨es,cl,ks,q41,q42,b1,e44,h⟩:=h
    refine G_only 7 (some 77) (bv 11 1023) (lookupN 186 (.map (some mr)) (vi q) false) (λu H1=>u=vi b1/\H1=H8) (by kernel_rfl) (λ_=>by kernel_rfl) (λw hw=>⟨_,w,(lookup_run (kk:=(intKey .i64)) (z:=vi 0) Tryz.underlying186 Tryz.underlying3 (λ_=>by kernel_rfl) (by rw[hw];exact q41) q42 false),Same.refl w,by simp only[Bool.false_eq_true,if_false,e44],hw⟩) (by kernel_rfl) ?_
    rintro _ _ ⟨rfl,rfl⟩
    obtain⟨f40,h⟩:=h
    refine⟨[(0,vp (some f)),(3,vp (pa b)),(4,.func (.func 116) #[] #[vp (pa b)]),(34,vs (some ag) xN xC),(35,vi xN),(36,vi p),(70,.func (.func 116) #[] #[vp (pa b)]),(71,vi q),(77,vi b1),(79,vi bn)],pk,(show FactsAt _ _ _ from⟨trivial,f40,trivial⟩),?_⟩
    refine G_call 10 (some 80) (bv 11 2047) 116 #[vi q,vi b1,vi bn,vp (pa b)] (by kernel_rfl) (λ_=>by kernel_rfl) h (by kernel_rfl) ?_;clear h
    intro v_4 H9 h
    refine⟨[(0,vp (some f)),(3,vp (pa b)),(4,.func (.func 116) #[] #[vp (pa b)]),(34,vs (some ag) xN xC),(35,vi xN),(36,vi p)],pk,(show FactsAt _ _ _ from⟨trivial,trivial,trivial⟩),?_⟩
    refine G_sub [(0,vp (some f)),(3,vp (pa b)),(4,.func (.func 116) #[] #[vp (pa b)]),(34,vs (some ag) xN xC),(35,vi xN),(36,vi p)] sk ?_
    refine G_end (by kernel_rfl) ?_
    refine S_blockEnd ?_
    refine S_then ?_
    refine T_rz 11<| T_ne 2 [(0,vp (some f)),(3,vp (pa b)),(4,.func (.func 116) #[] #[vp (pa b)]),(34,vs (some ag) xN xC),(35,vi xN),(36,vi (IntKind.wrap .i64 (p+1)))] ?_
    exact S_round ((IntKind.wrap .i64 (p+1)):Int) sk h
   rw[if_neg c36]at h
   refine T_cFz 69 (beq_eq_false_iff_ne.mpr c36)<| T_k ?_
   refine S_blockEnd ?_
   refine S_then ?_
   refine T_rz 11<| T_ed 2 [6,7,36,69] [(36,vi (IntKind.wrap .i64 (p+1)))] ?_
   exact S_round ((IntKind.wrap .i64 (p+1)):Int) sk h
  rw[if_neg c32]at h
  refine N_bd 61 (beq_eq_false_iff_ne.mpr c32)<| T_ed 8 [61] [(69,.bool false)]<| T_fz 69<| T_k ?_
  refine S_blockEnd ?_
  refine S_then ?_
  refine T_rz 11<| T_ed 2 [6,7,36,69] [(36,vi (IntKind.wrap .i64 (p+1)))] ?_
  exact S_round ((IntKind.wrap .i64 (p+1)):Int) sk h
 rw[if_neg c19]at h
 refine T_cFz 37 (decide_eq_false c19) ?_
 refine S_exit 0 (by kernel_rfl) ?_
 refine S_exitThen ?_
 refine S_exitThen ?_
 refine S_exitHere ?_
 refine S_then ?_
 refine T_sz<| T_srz 12<| T_nd 3 [34,35,36,37] [(84,vp (some (f.add 1028)))] ?_
 obtain⟨a6,d,j,q45,h⟩:=h
 refine T_l1 85 188 q45 [84]<| T_ed 2 [] [(86,vi d),(87,vi 0)]<| T_bz 2 ?_
 obtain⟨b4,m44,i46,i47⟩:=h
 refine S_loop (x:=K43) (σ:=Int) (λs_=> [(0,vp (some f)),(3,vp (pa b)),(4,.func (.func 116) #[] #[vp (pa b)]),(85,vs a6 d j),(86,vi d),(87,vi s_)]) (λs_ H=>b4 s_ H) (λs_ H=>m44 s_ H) (0:Int) (by kernel_rfl) i46 sk ?_
 rintro l H10 i48
 have h:=i47 l H10 i48
 refine T_su [(0,vp (some f)),(3,vp (pa b)),(4,.func (.func 116) #[] #[vp (pa b)]),(85,vs a6 d j),(86,vi d),(87,vi l)]<| T_srz 13<| T_ed 1 [] [(88,.bool (decide (l< (d:Int))))]<| T_sz ?_
 by_cases c49:l< (d:Int)
 ·rw[if_pos c49]at h
  refine T_cTz 88 (decide_eq_true c49)<| T_kt<| T_sz<| T_bz 3<| T_srz 14<| T_ud [88] [] ?_
  obtain⟨m,rfl,h⟩:=h
  obtain⟨q51,h⟩:=h
  refine T_xd (some 89) 188 198 2 m d j .i64 l Tryz.underlying188 q51.1 q51.2 [85] [(85,vs (some m) d j),(89,vp (some (m.add (Int.toNat l*2))))] ?_
  obtain⟨bm,bc,q52,h⟩:=h
  refine T_lr 90 198 q52 [89]<| T_nw (some 10) (λb=>vp (pa b)) (.cells #[vi 0,vi 0] 198) ?_
  intro o H11 e53 e54
  replace h:=h o H11 e53 e54
  refine T_pd [] [(10,vp (pa o))] ?_
  obtain⟨q56,h⟩:=h
  refine T_sta 198 [vi bm,vi bc] q56 ?_
  intro bs e55
  replace h:=h bs e55
  refine T_pd [90] []<| T_e<| T_sz ?_
  obtain⟨ch,q57,h⟩:=h
  obtain⟨az,rfl,h⟩:=h
  obtain⟨ci,q58,h⟩:=h
  obtain⟨ay,rfl,h⟩:=h
  obtain⟨cg,q59,h⟩:=h
  obtain⟨ax,rfl,h⟩:=h
  obtain⟨a3,q60,h⟩:=h
  obtain⟨bf,q61,h⟩:=h
  refine S_regionG 15 (Code.ops K55) [(15,f,[vp (some az)]),(15,az,[vp (some ay)]),(15,ay,[vp (some ax)]),(15,ax,[vp a3]),(15,(ad o),[vi bf])] 22 (bv 22 0) (by kernel_rfl) (by kernel_rfl) (by kernel_rfl) (by kernel_rfl) (by kernel_rfl) (show FactsAt _ _ _ from⟨⟨q57,trivial⟩,⟨q58,trivial⟩,⟨q59,trivial⟩,⟨q60,trivial⟩,⟨q61,trivial⟩,trivial⟩) ?_
  refine T_gp 0 (some 92) (vp (some f)) (bv 22 1) [(0,vp (some f)),(3,vp (pa b)),(4,.func (.func 116) #[] #[vp (pa b)]),(10,vp (pa o)),(85,vs (some m) d j),(86,vi d),(87,vi l),(92,vp (some f))]<| T_gp1 1 93 (vp (some f)) (bv 22 3) [92]<| T_gp1 2 94 (vp (some f)) (bv 22 7) [93]<| T_g1 3 95 (vp (some az)) (bv 22 15) [94] (loadN 28 (vp (some f))) (held_one 15 (λ_=>by kernel_rfl) (List.Mem.head _) (.inl (by kernel_rfl)))<| T_gp1 4 96 (vp (some az)) (bv 22 31) [95]<| T_gp1 5 97 (vp (some az)) (bv 22 63) [96]<| T_g1 6 98 (vp (some ay)) (bv 22 127) [97] (loadN 54 (vp (some az))) (held_one 15 (λ_=>by kernel_rfl) (List.Mem.tail _ (List.Mem.head _)) (.inl (by kernel_rfl)))<| T_gp1 7 99 (vp (some ay)) (bv 22 255) [98]<| T_gp1 8 100 (vp (some ay)) (bv 22 511) [99] ?_
  refine T_g1 9 101 (vp (some ax)) (bv 22 1023) [100] (loadN 58 (vp (some ay))) (held_one 15 (λ_=>by kernel_rfl) (List.Mem.tail _ (List.Mem.tail _ (List.Mem.head _))) (.inl (by kernel_rfl)))<| T_gp1 10 102 (vp (some ax)) (bv 22 2047) [101]<| T_gp1 11 103 (vp (some ax)) (bv 22 4095) [102]<| T_g1 12 104 (vp a3) (bv 22 8191) [103] (loadN 61 (vp (some ax))) (held_one 15 (λ_=>by kernel_rfl) (List.Mem.tail _ (List.Mem.tail _ (List.Mem.tail _ (List.Mem.head _)))) (.inl (by kernel_rfl)))<| T_gp1 13 105 (vp (pa o)) (bv 22 16383) []<| T_g1 14 106 (vi bf) (bv 22 32767) [105] (loadN 3 (vp (pa o))) (held_one 15 (λ_=>by kernel_rfl) (List.Mem.tail _ (List.Mem.tail _ (List.Mem.tail _ (List.Mem.tail _ (List.Mem.head _))))) (.inl (by kernel_rfl))) ?_
  refine G_fork 15 19 (by kernel_rfl) ?_ ?_
  ·replace h:=h.1
   refine O_call 15 (some 107) (bv 22 65535) 24 #[vp a3,vi bf] (by kernel_rfl) (λ_=>by kernel_rfl) h (by kernel_rfl) ?_;clear h
   rintro cr cn ⟨ak,ah,au,r,y,s,aa,a1,rfl,h⟩
   refine⟨[(0,vp (some f)),(3,vp (pa b)),(4,.func (.func 116) #[] #[vp (pa b)]),(10,vp (pa o)),(85,vs (some m) d j),(86,vi d),(87,vi l),(107,.tuple #[.agg #[vi ak,vi ah,vi au,vi r,vi y,vi s,vi aa],.bool a1])],pk,(show FactsAt _ _ _ from⟨trivial,trivial,trivial,trivial,trivial,trivial⟩),?_⟩
   refine T_g 16 (some 91) (.tuple #[.agg #[vi ak,vi ah,vi au,vi r,vi y,vi s,vi aa],.bool a1]) (bv 22 131071) [(0,vp (some f)),(3,vp (pa b)),(4,.func (.func 116) #[] #[vp (pa b)]),(10,vp (pa o)),(85,vs (some m) d j),(86,vi d),(87,vi l),(91,.tuple #[.agg #[vi ak,vi ah,vi au,vi r,vi y,vi s,vi aa],.bool a1])] (pure (.value (.tuple #[.agg #[vi ak,vi ah,vi au,vi r,vi y,vi s,vi aa],.bool a1])):Sem Next) (λ_ _ _ _ _=>rfl)<| T_g1 17 108 (.agg #[vi ak,vi ah,vi au,vi r,vi y,vi s,vi aa]) (bv 22 262143) [] (pure (.value (.agg #[vi ak,vi ah,vi au,vi r,vi y,vi s,vi aa])):Sem Next) (λ_ _ _ _ _=>rfl)<| T_g1 18 109 (.bool a1) (bv 22 524287) [91] (pure (.value (.bool a1)):Sem Next) (λ_ _ _ _ _=>rfl) ?_
   refine G_new 19 (some 11) (bv 22 1048575) (λb=>vp (pa b)) (.cells #[vi 0,vi 0,vi 0,vi 0,vi 0,vi 0,vi 0] 82) (by kernel_rfl) (λ_=>by kernel_rfl) (by kernel_rfl) ?_
   intro av H14 e62 e63
   replace h:=h av H14 e62 e63
   refine⟨[(0,vp (some f)),(3,vp (pa b)),(4,.func (.func 116) #[] #[vp (pa b)]),(10,vp (pa o)),(11,vp (pa av)),(85,vs (some m) d j),(86,vi d),(87,vi l),(108,.agg #[vi ak,vi ah,vi au,vi r,vi y,vi s,vi aa]),(109,.bool a1)],pk,(show FactsAt _ _ _ from⟨trivial,trivial,trivial,trivial,trivial,trivial⟩),?_⟩
   obtain⟨q65,h⟩:=h
   refine G_onlyskip 20 none (bv 22 2097151) (storeN 82 (vp (pa av)) (.agg #[vi ak,vi ah,vi au,vi r,vi y,vi s,vi aa])) (λHz=>Hz=hputs H14 (ad av) [vi ak,vi ah,vi au,vi r,vi y,vi s,vi aa] 0) (by kernel_rfl) (λ_=>by kernel_rfl) (ss_store [vi ak,vi ah,vi au,vi r,vi y,vi s,vi aa] 7 (by kernel_rfl) (by kernel_rfl) (λ_=>by kernel_rfl) (by kernel_rfl) q65) (by kernel_rfl) ?_
   intro br e64
   replace h:=h br e64
   refine⟨[(0,vp (some f)),(3,vp (pa b)),(4,.func (.func 116) #[] #[vp (pa b)]),(10,vp (pa o)),(11,vp (pa av)),(85,vs (some m) d j),(86,vi d),(87,vi l),(109,.bool a1)],pk,(show FactsAt _ _ _ from⟨trivial,trivial,trivial,trivial,trivial,trivial⟩),?_⟩
   refine T_g 21 (some 12) (.bool a1) (bv 22 4194303) [(0,vp (some f)),(3,vp (pa b)),(4,.func (.func 116) #[] #[vp (pa b)]),(10,vp (pa o)),(11,vp (pa av)),(85,vs (some m) d j),(86,vi d),(87,vi l)] (pure (.value (.bool a1)):Sem Next) (λ_ _ _ _ _=>rfl) ?_
   refine G_sub [(0,vp (some f)),(3,vp (pa b)),(4,.func (.func 116) #[] #[vp (pa b)]),(10,vp (pa o)),(11,vp (pa av)),(85,vs (some m) d j),(86,vi d),(87,vi l)] sk ?_
   refine G_end (by kernel_rfl) ?_
   refine S_then ?_
   refine T_srz 16<| T_n 1 [(0,vp (some f)),(3,vp (pa b)),(4,.func (.func 116) #[] #[vp (pa b)]),(10,vp (pa o)),(11,vp (pa av)),(85,vs (some m) d j),(86,vi d),(87,vi l),(110,vp (some ((ad av).add 1)))] ?_
   obtain⟨bo,q66,h⟩:=h
   refine T_l1 111 3 q66 [110]<| T_ed 1 [111] [(112,.bool (bo==1))] ?_
   by_cases c67:bo=1
   ·rw[if_pos c67]at h
    refine T_cTz 112 (beq_iff_eq.mpr c67)<| T_rz 17<| T_nd 2 [112] [(113,.func (.func 116) #[] #[vp (pa b)]),(114,vp (pa o))] ?_
    obtain⟨a4,q69,h⟩:=h
    refine T_l1 115 3 q69 [114]<| T_nd 1 [] [(116,vp (some ((ad o).add 1)))] ?_
    obtain⟨bg,q70,h⟩:=h
    refine T_l1 117 3 q70 [116]<| T_nd 2 [11,117] [(118,vi (IntKind.wrap .i64 (bg*16))),(119,vp (some ((ad av).add 2)))] ?_
    obtain⟨a8,q71,h⟩:=h
    refine T_l1 120 3 q71 [119]<| T_nd 1 [10] [(121,vp (some ((ad o).add 1)))] ?_
    obtain⟨bj,q72,h⟩:=h
    refine T_l1 122 3 q72 [121]<| T_nd 3 [120,122] [(125,vi (if(IntKind.wrap .i64 ((IntKind.wrap .i64 (bj+1))*16))<a8 then(IntKind.wrap .i64 ((IntKind.wrap .i64 (bj+1))*16))else a8))] ?_
    refine T_c (some 126) h ?_;clear h
    intro v_6 co h
    refine T_pd [113,115,118,125] [] ?_
    refine N_end (by kernel_rfl) ?_
    refine S_blockEnd ?_
    refine S_then ?_
    refine T_rz 18<| T_ed 2 [87] [(87,vi (IntKind.wrap .i64 (l+1)))] ?_
    exact S_round ((IntKind.wrap .i64 (l+1)):Int) sk h
   rw[if_neg c67]at h
   refine T_cFz 112 (beq_eq_false_iff_ne.mpr c67)<| T_k ?_
   refine S_blockEnd ?_
   refine S_then ?_
   refine T_rz 18<| T_ed 2 [10,11,87,112] [(87,vi (IntKind.wrap .i64 (l+1)))] ?_
   exact S_round ((IntKind.wrap .i64 (l+1)):Int) sk h
  replace h:=h.2
  refine O_new 19 (some 11) (bv 22 557055) (λb=>vp (pa b)) (.cells #[vi 0,vi 0,vi 0,vi 0,vi 0,vi 0,vi 0] 82) (by kernel_rfl) (λ_=>by kernel_rfl) (by kernel_rfl) ?_
  intro am H17 e78 e79
  replace h:=h am H17 e78 e79
  obtain⟨f73,f74,f75,f76,f77,h⟩:=h
  refine⟨[(0,vp (some f)),(3,vp (pa b)),(4,.func (.func 116) #[] #[vp (pa b)]),(10,vp (pa o)),(11,vp (pa am)),(85,vs (some m) d j),(86,vi d),(87,vi l),(104,vp a3),(106,vi bf)],pk,(show FactsAt _ _ _ from⟨f73,f74,f75,f76,f77,trivial⟩),?_⟩
  refine G_call 15 (some 107) (bv 22 589823) 24 #[vp a3,vi bf] (by kernel_rfl) (λ_=>by kernel_rfl) h (by kernel_rfl) ?_;clear h
  rintro cs cj ⟨al,ai,aw,ab,ac,ae,af,a5,rfl,h⟩
  refine⟨[(0,vp (some f)),(3,vp (pa b)),(4,.func (.func 116) #[] #[vp (pa b)]),(10,vp (pa o)),(11,vp (pa am)),(85,vs (some m) d j),(86,vi d),(87,vi l),(107,.tuple #[.agg #[vi al,vi ai,vi aw,vi ab,vi ac,vi ae,vi af],.bool a5])],pk,(show FactsAt _ _ _ from⟨trivial,trivial,trivial,trivial,trivial,trivial⟩),?_⟩
  refine T_g 16 (some 91) (.tuple #[.agg #[vi al,vi ai,vi aw,vi ab,vi ac,vi ae,vi af],.bool a5]) (bv 22 655359) [(0,vp (some f)),(3,vp (pa b)),(4,.func (.func 116) #[] #[vp (pa b)]),(10,vp (pa o)),(11,vp (pa am)),(85,vs (some m) d j),(86,vi d),(87,vi l),(91,.tuple #[.agg #[vi al,vi ai,vi aw,vi ab,vi ac,vi ae,vi af],.bool a5])] (pure (.value (.tuple #[.agg #[vi al,vi ai,vi aw,vi ab,vi ac,vi ae,vi af],.bool a5])):Sem Next) (λ_ _ _ _ _=>rfl)<| T_g1 17 108 (.agg #[vi al,vi ai,vi aw,vi ab,vi ac,vi ae,vi af]) (bv 22 786431) [] (pure (.value (.agg #[vi al,vi ai,vi aw,vi ab,vi ac,vi ae,vi af])):Sem Next) (λ_ _ _ _ _=>rfl)<| T_g1 18 109 (.bool a5) (bv 22 1048575) [91] (pure (.value (.bool a5)):Sem Next) (λ_ _ _ _ _=>rfl) ?_
  obtain⟨q81,h⟩:=h
  refine G_onlyskip 20 none (bv 22 2097151) (storeN 82 (vp (pa am)) (.agg #[vi al,vi ai,vi aw,vi ab,vi ac,vi ae,vi af])) (λHz=>Hz=hputs cj (ad am) [vi al,vi ai,vi aw,vi ab,vi ac,vi ae,vi af] 0) (by kernel_rfl) (λ_=>by kernel_rfl) (ss_store [vi al,vi ai,vi aw,vi ab,vi ac,vi ae,vi af] 7 (by kernel_rfl) (by kernel_rfl) (λ_=>by kernel_rfl) (by kernel_rfl) q81) (by kernel_rfl) ?_
  intro bt e80
  replace h:=h bt e80
  refine⟨[(0,vp (some f)),(3,vp (pa b)),(4,.func (.func 116) #[] #[vp (pa b)]),(10,vp (pa o)),(11,vp (pa am)),(85,vs (some m) d j),(86,vi d),(87,vi l),(109,.bool a5)],pk,(show FactsAt _ _ _ from⟨trivial,trivial,trivial,trivial,trivial,trivial⟩),?_⟩
  refine T_g 21 (some 12) (.bool a5) (bv 22 4194303) [(0,vp (some f)),(3,vp (pa b)),(4,.func (.func 116) #[] #[vp (pa b)]),(10,vp (pa o)),(11,vp (pa am)),(85,vs (some m) d j),(86,vi d),(87,vi l)] (pure (.value (.bool a5)):Sem Next) (λ_ _ _ _ _=>rfl) ?_
  refine G_sub [(0,vp (some f)),(3,vp (pa b)),(4,.func (.func 116) #[] #[vp (pa b)]),(10,vp (pa o)),(11,vp (pa am)),(85,vs (some m) d j),(86,vi d),(87,vi l)] sk ?_
  refine G_end (by kernel_rfl) ?_
  refine S_then ?_
  refine T_srz 16<| T_n 1 [(0,vp (some f)),(3,vp (pa b)),(4,.func (.func 116) #[] #[vp (pa b)]),(10,vp (pa o)),(11,vp (pa am)),(85,vs (some m) d j),(86,vi d),(87,vi l),(110,vp (some ((ad am).add 1)))] ?_
  obtain⟨bq,q82,h⟩:=h
  refine T_l1 111 3 q82 [110]<| T_ed 1 [111] [(112,.bool (bq==1))] ?_
  by_cases c83:bq=1
  ·rw[if_pos c83]at h
   refine T_cTz 112 (beq_iff_eq.mpr c83)<| T_rz 17<| T_nd 2 [112] [(113,.func (.func 116) #[] #[vp (pa b)]),(114,vp (pa o))] ?_
   obtain⟨a2,q85,h⟩:=h
   refine T_l1 115 3 q85 [114]<| T_nd 1 [] [(116,vp (some ((ad o).add 1)))] ?_
   obtain⟨be,q86,h⟩:=h
   refine T_l1 117 3 q86 [116]<| T_nd 2 [11,117] [(118,vi (IntKind.wrap .i64 (be*16))),(119,vp (some ((ad am).add 2)))] ?_
   obtain⟨a7,q87,h⟩:=h
   refine T_l1 120 3 q87 [119]<| T_nd 1 [10] [(121,vp (some ((ad o).add 1)))] ?_
   obtain⟨bi,q88,h⟩:=h
   refine T_l1 122 3 q88 [121]<| T_nd 3 [120,122] [(125,vi (if(IntKind.wrap .i64 ((IntKind.wrap .i64 (bi+1))*16))<a7 then(IntKind.wrap .i64 ((IntKind.wrap .i64 (bi+1))*16))else a7))] ?_
   refine T_c (some 126) h ?_;clear h
   intro v_8 cp h
   refine T_pd [113,115,118,125] [] ?_
   refine N_end (by kernel_rfl) ?_
   refine S_blockEnd ?_
   refine S_then ?_
   refine T_rz 18<| T_ed 2 [87] [(87,vi (IntKind.wrap .i64 (l+1)))] ?_
   exact S_round ((IntKind.wrap .i64 (l+1)):Int) sk h
  rw[if_neg c83]at h
  refine T_cFz 112 (beq_eq_false_iff_ne.mpr c83)<| T_k ?_
  refine S_blockEnd ?_
  refine S_then ?_
  refine T_rz 18<| T_ed 2 [10,11,87,112] [(87,vi (IntKind.wrap .i64 (l+1)))] ?_
  exact S_round ((IntKind.wrap .i64 (l+1)):Int) sk h
 rw[if_neg c49]at h
 refine T_cFz 88 (decide_eq_false c49) ?_
 refine S_exit 2 (by kernel_rfl) ?_
 refine S_exitThen ?_
 refine S_exitThen ?_
 refine S_exitHere ?_
 refine S_then ?_
 refine T_srz 19<| T_nu [(3,vp (pa b))] ?_
 obtain⟨bx,bu,bw,q89,h⟩:=h
 exact T_l1 128 52 q89 [3]<| T_nr 1 [2] [vs bx bu bw] hQ h
end trace_Trace_Weaks

/-! (*moraine/trace.Trace).Old -/
namespace trace_Trace_Old
def K0:=Func.code Tryz.f39
end trace_Trace_Old
def trace_Trace_Old.pt(tv:Option Addr)(wv:Int)(H:Array Obj)(R:Value->Array Obj->Prop):Prop:=
 word_Addr.C wv H (λv H1=> ∃(ra:Int) (rb:Bool),v=.tuple #[.int .i64 ra,.bool rb]/\
 trace_Trace_none.C tv H1 (λl H2=> ∃x:Bool,l=.bool x/\
 if x=true then(
 R (.bool false) H2)
 else
 if rb=true then(
 word_Tag.C wv H2 (λj H3=> ∃d:Int,j=.int .i64 d/\
 if d=6 then(
 R (.bool false) H3)
 else
 ∃b:Addr,tv=some b/\
 ((0:Int)<=(IntKind.wrap .i64 (Int.tdiv ra 64))/\(IntKind.wrap .i64 (Int.tdiv ra 64))< (1024:Int))/\
 ∃f:Int,hat H3 ((b.add 2).add (Int.toNat (IntKind.wrap .i64 (Int.tdiv ra 64))*1))=some (.int .i64 f)/\
 R (.bool (f==1)) H3))
 else
 R (.bool false) H2))
namespace trace_Trace_Old
theorem link{tv:Option Addr}{wv:Int}{H:Array Obj}{R:Value->Array Obj->Prop}(h:pt tv wv H R):C tv wv H R:=by
 refine T_en K0 33 Tryz.func39 ?_
 intro w0 Q hQ
 unfold pt at h
 refine T_su [(0,vp tv),(1,vu wv)]<| T_srz 0<| T_ed 1 [] []<| T_srz 1<| T_nd 1 [] [(8,vu wv)] ?_
 refine T_c (some 9) h ?_;clear h
 rintro v H1 ⟨ra,rb,rfl,h⟩
 refine T_pd [8] [(9,.tuple #[vi ra,.bool rb])]<| T_ed 5 [9] [(5,vi ra),(6,.bool rb)]<| T_srz 2<| T_nd 1 [] [(12,vp tv)] ?_
 refine T_c (some 13) h ?_;clear h
 rintro l H2 ⟨x,rfl,h⟩
 refine T_pd [12] [(13,.bool x)]<| T_nd 2 [13] [(15,.bool (!x))] ?_
 by_cases c1:x=true
 ·rw[if_pos c1]at h
  have b2:(!x)=false:=congrArg Bool.not (c1)
  have b22:x=true:=c1
  refine N_bd 15 (b:=(!x)) (v:=false) (by simp only[b2,b22,Bool.not_true,Bool.not_false]) ?_
  clear b2 b22
  exact T_nr 18 [4] [.bool false] hQ h
 rw[if_neg c1]at h
 have b2:(!x)=true:=congrArg Bool.not (eq_false_of_ne_true c1)
 have b22:x=false:=eq_false_of_ne_true c1
 refine N_bd 15 (b:=(!x)) (v:=true) (by simp only[b2,b22,Bool.not_true,Bool.not_false]) ?_
 clear b2 b22
 refine T_nd 3 [6,15] [(18,.bool rb)] ?_
 by_cases c3:rb=true
 ·rw[if_pos c3]at h
  refine N_bd 18 c3<| T_nd 1 [1] [(19,vu wv)] ?_
  refine T_c (some 20) h ?_;clear h
  rintro j H3 ⟨d,rfl,h⟩
  refine T_pd [19] [(20,vi d)]<| T_nd 3 [18,20] [(23,.bool (d !=6))] ?_
  by_cases c5:d=6
  ·rw[if_pos c5]at h
   exact N_bd 23 (bne_eq_false_iff_eq.mpr c5)<| T_nr 10 [4] [.bool false] hQ h
  rw[if_neg c5]at h
  refine N_bd 23 (bne_iff_ne.mpr c5)<| T_nd 3 [0,5] [(24,vp tv),(26,vi (IntKind.wrap .i64 (Int.tdiv ra 64)))] ?_
  obtain⟨b,rfl,h⟩:=h
  refine T_nd 2 [24] [(28,vp (some (b.add 2)))] ?_
  obtain⟨q7,h⟩:=h
  refine T_v1 29 (indexAtN 187 (vp (some (b.add 2))) (vi (IntKind.wrap .i64 (Int.tdiv ra 64)))) (vp (some ((b.add 2).add (Int.toNat (IntKind.wrap .i64 (Int.tdiv ra 64))*1)))) (λw _=>indexArr_run (P:=Tryz.prog) (t:=187) (elem:=3) (sz:=1) (n:=1024) (a:=(b.add 2)) (k:=.i64) (i:=(IntKind.wrap .i64 (Int.tdiv ra 64))) Tryz.underlying187 (λ_=>by kernel_rfl) q7.1 q7.2 w) [26,28] ?_
  obtain⟨f,q8,h⟩:=h
  exact T_l1 30 3 q8 [29]<| T_nr 3 [4] [.bool (f==1)] hQ h
 rw[if_neg c3]at h
 exact N_bd 18 (eq_false_of_ne_true c3)<| T_nr 15 [4] [.bool false] hQ h
end trace_Trace_Old

/-! (*moraine/trace.Trace).End -/
namespace trace_Trace_End
def K0:=Func.code Tryz.f41
def K2:=cb K0
def K7:=ca K2
def K8:=cb K2
def K10:=cb K7
def K11:=ca K10
def K12:=ca K11
def K28:=ca K8
def K31:=cb K28
def K32:=ca K31
def K33:=ca K32
def K35:=cb K33
def K37:=cb K35
def K40:=ca K37
def K42:=ca K40
def K44:=cb K42
end trace_Trace_End
def trace_Trace_End.pt(tv:Option Addr)(H:Array Obj)(R:Value->Array Obj->Prop):Prop:=
 trace_Trace_none.C tv H (λv H1=> ∃x:Bool,v=.bool x/\
 if x=true then(
 R (.tuple #[]) H1)
 else
 ∃d:Addr,tv=some d/\
 ∃l:List Value,l.length=1024/\RowAt H1 (d.add 2) 0 l/\
 ∃(ab:Int->Array Obj->Prop) (m13:Int->Array Obj->Nat),ab 0 H1/\ ∀(f:Int) (H2:Array Obj),ab f H2->
 if f<1024 then(
 ∃u:Int,((0<=f/\f< (1024:Int))/\((l:List Value).toArray)[Int.toNat f]?=some (.int .i64 u))/\
 if u=1 then(
 ∃ag:Option Addr,hat H2 d=some (.pointer ag)/\
 ∃ah:Addr,ag=some ah/\
 ∃af:Option Addr,hat H2 ah=some (.pointer af)/\
 ∃ae:Addr,af=some ae/\
 ∃aa:Option Addr,hat H2 ae=some (.pointer aa)/\
 space_Space_Give.C aa f H2 (λam H3=> ∃ak:Int,am=.int .i64 ak/\
 (ab (IntKind.wrap .i64 (f+1)) H3/\m13 (IntKind.wrap .i64 (f+1)) H3<m13 f H2)))
 else
 (ab (IntKind.wrap .i64 (f+1)) H2/\m13 (IntKind.wrap .i64 (f+1)) H2<m13 f H2))
 else
 ∃(xB:Option Addr) (xN xC:Nat),hat H2 (d.add 1028)=some (.slice xB xN xC)/\
 ∃(ac:Int->Array Obj->Prop) (m34:Int->Array Obj->Nat),ac 0 H2/\ ∀(j:Int) (H4:Array Obj),ac j H4->
 if j< (xN:Int)then(
 ∃m:Addr,xB=some m/\
 ((0:Int)<=j/\j< (xN:Int))/\
 ∃r o:Int,RowAt H4 (m.add (Int.toNat j*2)) 0 [.int .i64 r,.int .i64 o]/\
 ∀(b:Nat) (H5:Array Obj),b=H4.size->H5=H4.push (.cells #[.int .i64 0,.int .i64 0] 198)->
 (CanPuts H5 (ad b) 0 2)/\ ∀H6,H6=hputs H5 (ad b) [.int .i64 r,.int .i64 o] 0->
 ∃aj:Option Addr,hat H6 d=some (.pointer aj)/\
 ∃p:Addr,aj=some p/\
 ∃s:Option Addr,hat H6 p=some (.pointer s)/\
 ∃q:Int,hat H6 (ad b)=some (.int .i64 q)/\
 ∃y:Int,hat H6 ((ad b).add 1)=some (.int .i64 y)/\
 card_Cards_Again.C s q y H6 (λal H7=> ∃ai:Int,al=.int .i64 ai/\
 (ac (IntKind.wrap .i64 (j+1)) H7/\m34 (IntKind.wrap .i64 (j+1)) H7<m34 j H4)))
 else
 ∃z:Option Addr,hat H4 d=some (.pointer z)/\
 obj_Heap_Next.C z H4 (λ_ H8=>
 (CanPuts H8 (d.add 1029) 0 1)/\ ∀H9,H9=hputs H8 (d.add 1029) [.int .i64 1] 0->
 R (.tuple #[]) H9))
namespace trace_Trace_End
theorem link{tv:Option Addr}{H:Array Obj}{R:Value->Array Obj->Prop}(h:pt tv H R):C tv H R:=by
 refine T_en K0 61 Tryz.func41 ?_
 intro w0 Q hQ
 unfold pt at h
 refine T_su [(0,vp tv)]<| T_sz<| T_srz 0<| T_nd 1 [] [(6,vp tv)] ?_
 refine T_c (some 7) h ?_;clear h
 rintro v H1 ⟨x,rfl,h⟩
 refine T_pd [6] [(7,.bool x)]<| T_e ?_
 by_cases c1:x=true
 ·rw[if_pos c1]at h
  exact T_cTz 7 c1<| T_ret [] [] hQ h
 rw[if_neg c1]at h
 refine T_cFz 7 (eq_false_of_ne_true c1)<| T_kt<| T_sz<| T_srz 1<| T_nd 1 [7] [(8,vp tv)] ?_
 obtain⟨d,rfl,h⟩:=h
 refine T_n 2 [(0,vp (some d)),(10,vp (some (d.add 2)))] ?_
 obtain⟨l,l4,q3,h⟩:=h
 refine T_v1 11 (loadN 187 (vp (some (d.add 2)))) (.agg (l).toArray) (loadN_run (loadOK_row (λ_=>by kernel_rfl) (λw=>by rw[l4];kernel_rfl) q3)) [10] ?_
 refine T_ed 1 [] [(12,vi 0)]<| T_bz 0 ?_
 obtain⟨ab,m13,i5,i6⟩:=h
 refine S_loop (x:=K12) (σ:=Int) (λs_=> [(0,vp (some d)),(11,.agg (l).toArray),(12,vi s_)]) (λs_ H=>ab s_ H) (λs_ H=>m13 s_ H) (0:Int) (by kernel_rfl) i5 sk ?_
 rintro f H2 i7
 have h:=i6 f H2 i7
 refine T_su [(0,vp (some d)),(11,.agg (l).toArray),(12,vi f)]<| T_srz 2<| T_ed 1 [] [(13,.bool (decide (f<1024)))]<| T_sz ?_
 by_cases c8:f<1024
 ·rw[if_pos c8]at h
  refine T_cTz 13 (decide_eq_true c8)<| T_kt<| T_sz<| T_bz 1<| T_srz 3<| T_nd 1 [13] [(14,vi f)] ?_
  obtain⟨u,q10,h⟩:=h
  refine T_v1 15 (indexN 187 (.agg (l).toArray) (vi f)) (vi u) (λw _=>indexAgg_run (P:=Tryz.prog) (t:=187) (elem:=3) (n:=1024) Tryz.underlying187 (λ_=>by kernel_rfl) (λ_=>by kernel_rfl) q10.1.1 q10.1.2 q10.2 w) []<| T_ed 2 [14,15] [(2,vi f),(3,vi u)]<| T_srz 4<| T_ed 2 [3] [(17,.bool (u==1))] ?_
  by_cases c11:u=1
  ·rw[if_pos c11]at h
   refine T_cTz 17 (beq_iff_eq.mpr c11)<| T_rz 5<| T_nd 3 [17] [(20,vp (some d))] ?_
   obtain⟨ag,q13,h⟩:=h
   refine T_l1 21 28 q13 [20] ?_
   obtain⟨ah,rfl,h⟩:=h
   refine T_nd 2 [21] [(23,vp (some ah))] ?_
   obtain⟨af,q14,h⟩:=h
   refine T_l1 24 54 q14 [23] ?_
   obtain⟨ae,rfl,h⟩:=h
   refine T_nd 2 [24] [(26,vp (some ae))] ?_
   obtain⟨aa,q15,h⟩:=h
   refine T_l1 27 58 q15 [26]<| T_nd 1 [2] [(28,vi f)] ?_
   refine T_c (some 29) h ?_;clear h
   rintro am H3 ⟨ak,rfl,h⟩
   refine T_pd [27,28] [] ?_
   refine N_end (by kernel_rfl) ?_
   refine S_blockEnd ?_
   refine S_then ?_
   refine T_rz 6<| T_ed 2 [12] [(12,vi (IntKind.wrap .i64 (f+1)))] ?_
   exact S_round ((IntKind.wrap .i64 (f+1)):Int) sk h
  rw[if_neg c11]at h
  refine T_cFz 17 (beq_eq_false_iff_ne.mpr c11)<| T_k ?_
  refine S_blockEnd ?_
  refine S_then ?_
  refine T_rz 6<| T_ed 2 [2,12,17] [(12,vi (IntKind.wrap .i64 (f+1)))] ?_
  exact S_round ((IntKind.wrap .i64 (f+1)):Int) sk h
 rw[if_neg c8]at h
 refine T_cFz 13 (decide_eq_false c8) ?_
 refine S_exit 0 (by kernel_rfl) ?_
 refine S_exitThen ?_
 refine S_exitThen ?_
 refine S_exitHere ?_
 refine S_then ?_
 refine T_sz<| T_srz 7<| T_nd 3 [11,12,13] [(33,vp (some (d.add 1028)))] ?_
 obtain⟨xB,xN,xC,q16,h⟩:=h
 refine T_l1 34 188 q16 [33]<| T_ed 2 [] [(35,vi xN),(36,vi 0)]<| T_bz 2 ?_
 obtain⟨ac,m34,i17,i18⟩:=h
 refine S_loop (x:=K33) (σ:=Int) (λs_=> [(0,vp (some d)),(34,vs xB xN xC),(35,vi xN),(36,vi s_)]) (λs_ H=>ac s_ H) (λs_ H=>m34 s_ H) (0:Int) (by kernel_rfl) i17 sk ?_
 rintro j H4 i19
 have h:=i18 j H4 i19
 refine T_su [(0,vp (some d)),(34,vs xB xN xC),(35,vi xN),(36,vi j)]<| T_srz 8<| T_ed 1 [] [(37,.bool (decide (j< (xN:Int))))]<| T_sz ?_
 by_cases c20:j< (xN:Int)
 ·rw[if_pos c20]at h
  refine T_cTz 37 (decide_eq_true c20)<| T_kt<| T_sz<| T_bz 3<| T_srz 9<| T_ud [37] [] ?_
  obtain⟨m,rfl,h⟩:=h
  obtain⟨q22,h⟩:=h
  refine T_xd (some 38) 188 198 2 m xN xC .i64 j Tryz.underlying188 q22.1 q22.2 [34] [(34,vs (some m) xN xC),(38,vp (some (m.add (Int.toNat j*2))))] ?_
  obtain⟨r,o,q23,h⟩:=h
  refine T_lr 39 198 q23 [38]<| T_nw (some 5) (λb=>vp (pa b)) (.cells #[vi 0,vi 0] 198) ?_
  intro b H5 e24 e25
  replace h:=h b H5 e24 e25
  refine T_pd [] [(5,vp (pa b))] ?_
  obtain⟨q27,h⟩:=h
  refine T_sta 198 [vi r,vi o] q27 ?_
  intro H6 e26
  replace h:=h H6 e26
  refine T_pd [39] []<| T_e ?_
  obtain⟨aj,q28,h⟩:=h
  obtain⟨p,rfl,h⟩:=h
  obtain⟨s,q29,h⟩:=h
  obtain⟨q,q30,h⟩:=h
  obtain⟨y,q31,h⟩:=h
  refine S_regionG 10 (Code.ops K44) [(11,d,[vp (some p)]),(11,p,[vp s]),(11,(ad b),[vi q]),(11,((ad b).add 1),[vi y])] 12 (bv 12 0) (by kernel_rfl) (by kernel_rfl) (by kernel_rfl) (by kernel_rfl) (by kernel_rfl) (show FactsAt _ _ _ from⟨⟨q28,trivial⟩,⟨q29,trivial⟩,⟨q30,trivial⟩,⟨q31,trivial⟩,trivial⟩) ?_
  refine T_gp 0 (some 40) (vp (some d)) (bv 12 1) [(0,vp (some d)),(5,vp (pa b)),(34,vs (some m) xN xC),(35,vi xN),(36,vi j),(40,vp (some d))]<| T_gp1 1 41 (vp (some d)) (bv 12 3) [40]<| T_gp1 2 42 (vp (some d)) (bv 12 7) [41]<| T_g1 3 43 (vp (some p)) (bv 12 15) [42] (loadN 28 (vp (some d))) (held_one 11 (λ_=>by kernel_rfl) (List.Mem.head _) (.inl (by kernel_rfl)))<| T_gp1 4 44 (vp (some p)) (bv 12 31) [43]<| T_gp1 5 45 (vp (some p)) (bv 12 63) [44]<| T_g1 6 46 (vp s) (bv 12 127) [45] (loadN 54 (vp (some p))) (held_one 11 (λ_=>by kernel_rfl) (List.Mem.tail _ (List.Mem.head _)) (.inl (by kernel_rfl)))<| T_gp1 7 47 (vp (pa b)) (bv 12 255) []<| T_g1 8 48 (vi q) (bv 12 511) [47] (loadN 3 (vp (pa b))) (held_one 11 (λ_=>by kernel_rfl) (List.Mem.tail _ (List.Mem.tail _ (List.Mem.head _))) (.inl (by kernel_rfl))) ?_
  refine T_gp1 9 49 (vp (some ((ad b).add 1))) (bv 12 1023) [5]<| T_g1 10 50 (vi y) (bv 12 2047) [49] (loadN 3 (vp (some ((ad b).add 1)))) (held_one 11 (λ_=>by kernel_rfl) (List.Mem.tail _ (List.Mem.tail _ (List.Mem.tail _ (List.Mem.head _)))) (.inl (by kernel_rfl))) ?_
  refine G_call 11 (some 51) (bv 12 4095) 119 #[vp s,vi q,vi y] (by kernel_rfl) (λ_=>by kernel_rfl) h (by kernel_rfl) ?_;clear h
  rintro al H7 ⟨ai,rfl,h⟩
  refine⟨[(0,vp (some d)),(34,vs (some m) xN xC),(35,vi xN),(36,vi j)],pk,(show FactsAt _ _ _ from⟨trivial,trivial,trivial,trivial,trivial⟩),?_⟩
  refine G_sub [(0,vp (some d)),(34,vs (some m) xN xC),(35,vi xN),(36,vi j)] sk ?_
  refine G_end (by kernel_rfl) ?_
  refine S_blockEnd ?_
  refine S_then ?_
  refine T_rz 11<| T_ne 2 [(0,vp (some d)),(34,vs (some m) xN xC),(35,vi xN),(36,vi (IntKind.wrap .i64 (j+1)))] ?_
  exact S_round ((IntKind.wrap .i64 (j+1)):Int) sk h
 rw[if_neg c20]at h
 refine T_cFz 37 (decide_eq_false c20) ?_
 refine S_exit 2 (by kernel_rfl) ?_
 refine S_exitThen ?_
 refine S_exitThen ?_
 refine S_exitHere ?_
 refine S_then ?_
 refine T_srz 12<| T_n 3 [(0,vp (some d)),(55,vp (some d))] ?_
 obtain⟨z,q32,h⟩:=h
 refine T_l1 56 28 q32 [55] ?_
 refine T_c (some 57) h ?_;clear h
 intro v_4 H8 h
 refine T_pd [56] []<| T_e<| T_rz 13<| T_n 3 [(60,vp (some (d.add 1029)))] ?_
 obtain⟨q34,h⟩:=h
 refine T_st1 3 (vi 1) q34 ?_
 intro H9 e33
 replace h:=h H9 e33
 refine⟨[],pk,?_⟩
 refine N_end (by kernel_rfl) ?_
 exact S_doneN (fn:=Tryz.f41) [] hQ (show ResOK _ _ _ [] _ from .nil) h
end trace_Trace_End

/-! (*moraine/trace.Trace).Reached -/
namespace trace_Trace_Reached
def K0:=Func.code Tryz.f97
end trace_Trace_Reached
def trace_Trace_Reached.pt(tv:Option Addr)(wv:Int)(H:Array Obj)(R:Value->Array Obj->Prop):Prop:=
 trace_Trace_Old.C tv wv H (λv H1=> ∃x:Bool,v=.bool x/\
 if x=true then(
 trace_Trace_moved.C tv wv H1 (λa H2=> ∃(ra:Int) (rb:Bool),a=.tuple #[.int .u64 ra,.bool rb]/\
 R (.bool rb) H2))
 else
 R (.bool true) H1)
namespace trace_Trace_Reached
theorem link{tv:Option Addr}{wv:Int}{H:Array Obj}{R:Value->Array Obj->Prop}(h:pt tv wv H R):C tv wv H R:=by
 refine T_en K0 18 Tryz.func97 ?_
 intro w0 Q hQ
 unfold pt at h
 refine T_su [(0,vp tv),(1,vu wv)]<| T_srz 0<| T_ed 1 [] []<| T_sz<| T_srz 1<| T_nd 2 [] [(7,vp tv),(8,vu wv)] ?_
 refine T_c (some 9) h ?_;clear h
 rintro v H1 ⟨x,rfl,h⟩
 refine T_pd [7,8] [(9,.bool x)]<| T_ed 1 [9] [(10,.bool (!x))] ?_
 by_cases c1:x=true
 ·rw[if_pos c1]at h
  refine T_cFz 10 (congrArg Bool.not (c1))<| T_kt<| T_srz 3<| T_n 2 [(12,vp tv),(13,vu wv)] ?_
  refine T_c (some 14) h ?_;clear h
  rintro a H2 ⟨ra,rb,rfl,h⟩
  refine⟨[(14,.tuple #[vu ra,.bool rb])],pk,?_⟩
  exact T_ne 5 [(6,.bool rb)]<| T_srz 4<| T_nr 2 [4] [.bool rb] hQ h
 rw[if_neg c1]at h
 exact T_cTz 10 (congrArg Bool.not (eq_false_of_ne_true c1))<| T_srz 2<| T_nr 1 [4] [.bool true] hQ h
end trace_Trace_Reached

/-! (*moraine/trace.Trace).moved -/
namespace trace_Trace_moved
def K0:=Func.code Tryz.f110
end trace_Trace_moved
def trace_Trace_moved.pt(tv:Option Addr)(wv:Int)(H:Array Obj)(R:Value->Array Obj->Prop):Prop:=
 word_Addr.C wv H (λv H1=> ∃(ra:Int) (rb:Bool),v=.tuple #[.int .i64 ra,.bool rb]/\
 ∃p:Addr,tv=some p/\
 ∃x:Option Addr,hat H1 p=some (.pointer x)/\
 ∃xA:Addr,x=some xA/\
 ∃q:Option Addr,hat H1 xA=some (.pointer q)/\
 ∃n:Addr,q=some n/\
 ∃o:Option Addr,hat H1 n=some (.pointer o)/\
 ∃m:Addr,o=some m/\
 ∃k:Option Addr,hat H1 m=some (.pointer k)/\
 seg_Mem_Read.C k ra H1 (λz H2=> ∃b f:Int,z=.tuple #[.int .u64 b,.int .i64 f]/\
 word_Addr.C b H2 (λu H3=> ∃(a:Int) (d:Bool),u=.tuple #[.int .i64 a,.bool d]/\
 if f=0 then(
 if d=true then(
 word_Tag.C b H3 (λy H4=> ∃j:Int,y=.int .i64 j/\
 if j=6 then(
 word_Tag.C wv H4 (λt H5=> ∃l:Int,t=.int .i64 l/\
 word_At.C l a H5 (λs H6=> ∃i r:Int,s=.tuple #[.int .u64 i,.int .i64 r]/\
 R (.tuple #[.int .u64 i,.bool true]) H6)))
 else
 R (.tuple #[.int .u64 wv,.bool false]) H4))
 else
 R (.tuple #[.int .u64 wv,.bool false]) H3)
 else
 R (.tuple #[.int .u64 wv,.bool false]) H3)))
namespace trace_Trace_moved
theorem link{tv:Option Addr}{wv:Int}{H:Array Obj}{R:Value->Array Obj->Prop}(h:pt tv wv H R):C tv wv H R:=by
 refine T_en K0 62 Tryz.func110 ?_
 intro w0 Q hQ
 unfold pt at h
 refine T_su [(0,vp tv),(1,vu wv)]<| T_srz 0<| T_ed 2 [] []<| T_srz 1<| T_nd 1 [] [(15,vu wv)] ?_
 refine T_c (some 16) h ?_;clear h
 rintro v H1 ⟨ra,rb,rfl,h⟩
 refine T_pd [15] [(16,.tuple #[vi ra,.bool rb])]<| T_ed 5 [16] [(6,vi ra)]<| T_srz 2<| T_nd 1 [0] [(20,vp tv)] ?_
 obtain⟨p,rfl,h⟩:=h
 refine T_nd 2 [20] [(22,vp (some p))] ?_
 obtain⟨x,q1,h⟩:=h
 refine T_l1 23 28 q1 [22] ?_
 obtain⟨xA,rfl,h⟩:=h
 refine T_nd 2 [23] [(25,vp (some xA))] ?_
 obtain⟨q,q2,h⟩:=h
 refine T_l1 26 54 q2 [25] ?_
 obtain⟨n,rfl,h⟩:=h
 refine T_nd 2 [26] [(28,vp (some n))] ?_
 obtain⟨o,q3,h⟩:=h
 refine T_l1 29 58 q3 [28] ?_
 obtain⟨m,rfl,h⟩:=h
 refine T_nd 2 [29] [(31,vp (some m))] ?_
 obtain⟨k,q4,h⟩:=h
 refine T_l1 32 61 q4 [31]<| T_nd 1 [6] [(33,vi ra)] ?_
 refine T_c (some 34) h ?_;clear h
 rintro z H2 ⟨b,f,rfl,h⟩
 refine T_pd [32,33] [(34,.tuple #[vu b,vi f])]<| T_ed 5 [34] [(8,vu b),(9,vi f)]<| T_srz 3<| T_nd 1 [] [(38,vu b)] ?_
 refine T_c (some 39) h ?_;clear h
 rintro u H3 ⟨a,d,rfl,h⟩
 refine T_pd [38] [(39,.tuple #[vi a,.bool d])]<| T_ed 5 [39] [(10,vi a),(11,.bool d)]<| T_sz<| T_srz 4<| T_nd 3 [9] [(44,.bool (f !=0))] ?_
 by_cases c5:f=0
 ·rw[if_pos c5]at h
  refine N_bd 44 (bne_eq_false_iff_eq.mpr c5)<| T_nd 4 [11,44] [(48,.bool (!d))] ?_
  by_cases c7:d=true
  ·rw[if_pos c7]at h
   have b8:(!d)=false:=congrArg Bool.not (c7)
   have b82:d=true:=c7
   refine N_bd 48 (b:=(!d)) (v:=false) (by simp only[b8,b82,Bool.not_true,Bool.not_false]) ?_
   clear b8 b82
   refine T_nd 1 [8] [(49,vu b)] ?_
   refine T_c (some 50) h ?_;clear h
   rintro y H4 ⟨j,rfl,h⟩
   refine T_pd [49] [(50,vi j)]<| T_ed 2 [48,50] [(52,.bool (j !=6))] ?_
   by_cases c9:j=6
   ·rw[if_pos c9]at h
    refine T_cFz 52 (bne_eq_false_iff_eq.mpr c9)<| T_kt<| T_srz 6<| T_nd 1 [1,52] [(55,vu wv)] ?_
    refine T_c (some 56) h ?_;clear h
    rintro t H5 ⟨l,rfl,h⟩
    refine T_pd [55] [(56,vi l)]<| T_nd 1 [10] [(57,vi a)] ?_
    refine T_c (some 58) h ?_;clear h
    rintro s H6 ⟨i,r,rfl,h⟩
    refine⟨[(58,.tuple #[vu i,vi r])],pk,?_⟩
    exact T_ne 5 [(12,vu i)]<| T_srz 7<| T_nr 3 [4,5] [vu i,.bool true] hQ h
   rw[if_neg c9]at h
   exact T_cTz 52 (bne_iff_ne.mpr c9)<| T_srz 5<| T_nr 3 [4,5] [vu wv,.bool false] hQ h
  rw[if_neg c7]at h
  have b8:(!d)=true:=congrArg Bool.not (eq_false_of_ne_true c7)
  have b82:d=false:=eq_false_of_ne_true c7
  refine N_bd 48 (b:=(!d)) (v:=true) (by simp only[b8,b82,Bool.not_true,Bool.not_false]) ?_
  clear b8 b82
  exact T_ed 4 [8,48] [(52,.bool true)]<| T_tz 52<| T_srz 5<| T_nr 3 [4,5] [vu wv,.bool false] hQ h
 rw[if_neg c5]at h
 exact N_bd 44 (bne_iff_ne.mpr c5)<| T_ed 8 [8,11,44] [(52,.bool true)]<| T_tz 52<| T_srz 5<| T_nr 3 [4,5] [vu wv,.bool false] hQ h
end trace_Trace_moved

/-! (*moraine/trace.Trace).none -/
namespace trace_Trace_none
def K0:=Func.code Tryz.f113
end trace_Trace_none
def trace_Trace_none.pt(tv:Option Addr)(H:Array Obj)(R:Value->Array Obj->Prop):Prop:=
 onPtr tv (
 R (.bool true) H) (λa=>
 ∃x:Option Addr,hat H a=some (.pointer x)/\
 onPtr x (
 R (.bool true) H) (λxA=>
 ∃b:Int,hat H (a.add 1029)=some (.int .i64 b)/\
 R (.bool (b==1)) H))
namespace trace_Trace_none
theorem link{tv:Option Addr}{H:Array Obj}{R:Value->Array Obj->Prop}(h:pt tv H R):C tv H R:=by
 refine T_en K0 19 Tryz.func113 ?_
 intro w0 Q hQ
 unfold pt at h
 refine T_su [(0,vp tv)]<| T_srz 0<| T_ed 1 [] []<| T_srz 1<| T_nd 1 [] [(3,vp tv)] ?_
 rcases tv with _ | a
 ·rw[onPtr_none]at h
  exact T_nr 16 [2] [.bool true] hQ h
 rw[onPtr_some]at h
 refine T_n 5 [(0,vp (some a)),(5,.bool false),(8,vp (some a))] ?_
 obtain⟨x,q1,h⟩:=h
 refine T_l1 9 28 q1 [8] ?_
 rcases x with _ | xA
 ·rw[onPtr_none]at h
  exact T_nr 10 [2] [.bool true] hQ h
 rw[onPtr_some]at h
 refine T_n 6 [(12,.bool false),(15,vp (some (a.add 1029)))] ?_
 obtain⟨b,q2,h⟩:=h
 exact T_l1 16 3 q2 [15]<| T_nr 3 [2] [.bool (b==1)] hQ h
end trace_Trace_none

/-! (*moraine/trace.Trace).look -/
namespace trace_Trace_look
def K0:=Func.code Tryz.f114
def K2:=cb K0
def K4:=cb K2
def K6:=cb K4
def K7:=ca K6
def K8:=ca K7
end trace_Trace_look
def trace_Trace_look.pt(tv:Option Addr)(d f to a:Int)(H:Array Obj)(R:Value->Array Obj->Prop):Prop:=
 ∀(b:Nat) (H1:Array Obj),b=H.size->H1=H.push (.cells #[.pointer tv] 105)->
 ∃(I9:Int->Array Obj->Prop) (m9:Int->Array Obj->Nat),I9 f H1/\ ∀(i:Int) (H2:Array Obj),I9 i H2->
 if((decide (i<to)) && (a !=3))=true then(
 if((a !=1) || ((Int.tmod i 2)==1))=true then(
 trace_Trace_look_1.C (IntKind.wrap .i64 ((IntKind.wrap .i64 (d*64))+i)) (some (ad b)) H2 (λ_ H3=>
 (I9 (IntKind.wrap .i64 (i+1)) H3/\m9 (IntKind.wrap .i64 (i+1)) H3<m9 i H2)))
 else
 (I9 (IntKind.wrap .i64 (i+1)) H2/\m9 (IntKind.wrap .i64 (i+1)) H2<m9 i H2))
 else
 R (.tuple #[]) H2
namespace trace_Trace_look
theorem link{tv:Option Addr}{d f to a:Int}{H:Array Obj}{R:Value->Array Obj->Prop}(h:pt tv d f to a H R):C tv d f to a H R:=by
 refine T_en K0 36 Tryz.func114 ?_
 intro w0 Q hQ
 unfold pt at h
 refine T_su [(0,vp tv),(1,vi d),(2,vi f),(3,vi to),(4,vi a)]<| T_srz 0<| T_nw (some 5) (λb=>vp (pa b)) (.cells #[vp tv] 105) ?_
 intro b H1 e1 e2
 replace h:=h b H1 e1 e2
 refine T_pd [0] [(5,vp (pa b))]<| T_e<| T_srz 1<| T_ed 2 [5] [(10,.func (.func 174) #[] #[vp (pa b)])]<| T_srz 2<| T_ed 2 [2] [(11,vi f)]<| T_bz 0 ?_
 obtain⟨I9,m9,i3,i4⟩:=h
 refine S_loop (x:=K8) (σ:=Int) (λs_=> [(1,vi d),(3,vi to),(4,vi a),(10,.func (.func 174) #[] #[vp (pa b)]),(11,vi s_)]) (λs_ H=>I9 s_ H) (λs_ H=>m9 s_ H) (f:Int) (by kernel_rfl) i3 sk ?_
 rintro i H2 i5
 have h:=i4 i H2 i5
 refine T_su [(1,vi d),(3,vi to),(4,vi a),(10,.func (.func 174) #[] #[vp (pa b)]),(11,vi i)]<| T_sz<| T_srz 3 ?_
 refine N_cut [(1,vi d),(3,vi to),(4,vi a),(10,.func (.func 174) #[] #[vp (pa b)]),(11,vi i),(20,.bool ((decide (i<to)) && (a !=3)))] ?_ ?_
 ·refine S_then ?_
  by_cases c8:((decide (i<to)) && (a !=3))=true
  ·rw[if_pos c8]at h
   refine T_cTz 20 c8<| T_kt<| T_sz<| T_bz 1<| T_srz 5 ?_
   refine N_cut [(1,vi d),(3,vi to),(4,vi a),(10,.func (.func 174) #[] #[vp (pa b)]),(11,vi i),(29,.bool ((a !=1) || ((Int.tmod i 2)==1)))] ?_ ?_
   ·refine S_then ?_
    by_cases c12:((a !=1) || ((Int.tmod i 2)==1))=true
    ·rw[if_pos c12]at h
     refine T_cTz 29 c12<| T_rz 6<| T_n 5 [(1,vi d),(3,vi to),(4,vi a),(10,.func (.func 174) #[] #[vp (pa b)]),(11,vi i),(30,.func (.func 174) #[] #[vp (pa b)]),(34,vi (IntKind.wrap .i64 ((IntKind.wrap .i64 (d*64))+i)))] ?_
     refine T_c (some 35) h ?_;clear h
     intro v H3 h
     refine T_pd [30,34] [] ?_
     refine N_end (by kernel_rfl) ?_
     refine S_blockEnd ?_
     refine S_then ?_
     refine T_rz 4<| T_ed 3 [11] [(11,vi (IntKind.wrap .i64 (i+1)))] ?_
     exact S_round ((IntKind.wrap .i64 (i+1)):Int) sk h
    rw[if_neg c12]at h
    refine T_cFz 29 (eq_false_of_ne_true c12)<| T_k ?_
    refine S_blockEnd ?_
    refine S_then ?_
    refine T_rz 4<| T_ne 3 [(1,vi d),(3,vi to),(4,vi a),(10,.func (.func 174) #[] #[vp (pa b)]),(11,vi (IntKind.wrap .i64 (i+1)))] ?_
    exact S_round ((IntKind.wrap .i64 (i+1)):Int) sk h
   intro hk
   refine T_n 3 [(1,vi d),(3,vi to),(4,vi a),(10,.func (.func 174) #[] #[vp (pa b)]),(11,vi i),(25,.bool (a !=1))] ?_
   by_cases c10:a=1
   ·have b11:(a !=1)=false:=bne_eq_false_iff_eq.mpr c10
    refine N_env [(1,vi d),(3,vi to),(4,vi a),(10,.func (.func 174) #[] #[vp (pa b)]),(11,vi i),(25,.bool false)] (by rw[b11]) ?_
    refine T_nd 4 [25] [(29,.bool ((Int.tmod i 2)==1))] ?_
    refine N_end (by kernel_rfl) ?_
    refine S_bd 29 (b:=((Int.tmod i 2)==1)) (v:=((a !=1) || ((Int.tmod i 2)==1))) (by simp only[b11,BL]) ?_
    exact hk
   have b11:(a !=1)=true:=bne_iff_ne.mpr c10
   refine N_env [(1,vi d),(3,vi to),(4,vi a),(10,.func (.func 174) #[] #[vp (pa b)]),(11,vi i),(25,.bool true)] (by rw[b11]) ?_
   refine T_nd 4 [25] [(29,.bool true)] ?_
   refine N_end (by kernel_rfl) ?_
   refine S_bd 29 (b:=true) (v:=((a !=1) || ((Int.tmod i 2)==1))) (by simp only[b11,BL]) ?_
   exact hk
  rw[if_neg c8]at h
  refine T_cFz 20 (eq_false_of_ne_true c8) ?_
  refine S_exit 0 (by kernel_rfl) ?_
  refine S_exitThen ?_
  refine S_exitThen ?_
  refine S_exitHere ?_
  exact S_doneN (fn:=Tryz.f114) [] hQ (show ResOK _ _ _ [] _ from .nil) h
 intro hk
 refine T_n 4 [(1,vi d),(3,vi to),(4,vi a),(10,.func (.func 174) #[] #[vp (pa b)]),(11,vi i),(17,.bool (decide (i<to)))] ?_
 by_cases c6:i<to
 ·have b7:(decide (i<to))=true:=decide_eq_true c6
  refine N_env [(1,vi d),(3,vi to),(4,vi a),(10,.func (.func 174) #[] #[vp (pa b)]),(11,vi i),(17,.bool true)] (by rw[b7]) ?_
  refine T_nd 3 [17] [(20,.bool (a !=3))] ?_
  refine N_end (by kernel_rfl) ?_
  refine S_bd 20 (b:=(a !=3)) (v:=((decide (i<to)) && (a !=3))) (by simp only[b7,BL]) ?_
  exact hk
 have b7:(decide (i<to))=false:=decide_eq_false c6
 refine N_env [(1,vi d),(3,vi to),(4,vi a),(10,.func (.func 174) #[] #[vp (pa b)]),(11,vi i),(17,.bool false)] (by rw[b7]) ?_
 refine T_nd 3 [17] [(20,.bool false)] ?_
 refine N_end (by kernel_rfl) ?_
 refine S_bd 20 (b:=false) (v:=((decide (i<to)) && (a !=3))) (by simp only[b7,BL]) ?_
 exact hk
end trace_Trace_look

end Go.Proofs.YtdoghjgbhefphaaGreat
