/- Printed: what each function asks, and that it is sound. -/
import Derived.Test.YtgnokbjknicahaaGreatFnsC
set_option linter.unusedSimpArgs false
set_option linter.unusedVariables false
set_option maxRecDepth 100000
set_option maxHeartbeats 1000000
noncomputable section
namespace Go.Proofs.YtgnokbjknicahaaGreat
open Go
/-! (*moraine/trace.Trace).Weaks -/
namespace trace_Trace_Weaks
def K0:=Func.code Tryz.f76
def K2:=cb K0
def K4:=cb K2
def K12:=cb K4
def K14:=cb K12
def K15:=ca K14
def K16:=cb K14
def K17:=ca K15
def K18:=cb K15
def K19:=ca K18
def K20:=ca K19
def K22:=cb K20
def K24:=cb K22
def K27:=ca K24
def K29:=ca K27
def K31:=cb K29
def K33:=cb K31
def K35:=cb K33
def K36:=ca K35
def K38:=ca K16
def K41:=cb K38
def K42:=ca K41
def K43:=ca K42
def K45:=cb K43
def K47:=cb K45
def K50:=ca K47
def K52:=ca K50
def K54:=cb K52
def K55:=ca K54
end trace_Trace_Weaks
def trace_Trace_Weaks.pt(tv:zW)(H:zV)(R:zk):Prop:=
 trace_Trace_none.C tv H (λv H1=> ∃x:Bool,v=.bool x/\
 if x=true then(
 R (.slice none 0 0) H1)
 else
 ∀(b:Nat) (H2:zV),b=H1.size->H2=H1.push (.cells #[.slice none 0 0] 67)->
 ∃f:Addr,tv=some f/\
 ∃co:zW,hat H2 f=some (.pointer co)/\
 ∃ba:Addr,co=some ba/\
 ∃cn:zW,hat H2 ba=some (.pointer cn)/\
 ∃a8:Addr,cn=some a8/\
 ∃cp:zW,hat H2 a8=some (.pointer cp)/\
 ∃a9:Addr,cp=some a9/\
 ∃bg:zW,hat H2 a9=some (.pointer bg)/\
 ∃b3:Int,hat H2 (f.add 1)=some (.int .i64 b3)/\
 ∀(b7:Nat) (H3:zV),b7=H2.size->H3=H2.push (.cells #[.int .i64 b3] 3)->RowAt H3 f 0 [.pointer (some ba)]/\RowAt H3 ba 0 [.pointer (some a8)]/\RowAt H3 a8 0 [.pointer (some a9)]/\RowAt H3 a9 0 [.pointer bg]/\
 seg_Mem_Taken.C bg (some (ad b7)) 1 1 H3 (λcq H4=> ∃(xB:zW) (xN xC:Nat),cq=.slice xB xN xC/\
 ∃(b4:zv) (m21:Int->zV->Nat),b4 0 H4/\ ∀(o:Int) (H5:zV),b4 o H5->
 if o< (xN:Int)then(
 ∃af:Addr,xB=some af/\
 zw o xN/\
 ∃p:Int,hat H5 (af.add (Int.toNat o*1))=some (.int .i64 p)/\
 ∃cd:zW,hat H5 f=some (.pointer cd)/\
 ∃cc:Addr,cd=some cc/\
 ∃b9:zW,hat H5 cc=some (.pointer b9)/\
 ∃b8:Addr,b9=some b8/\
 ∃b6:zW,hat H5 b8=some (.pointer b6)/\
 ∃b5:Addr,b6=some b5/\
 ∃bx:zW,hat H5 b5=some (.pointer bx)/\
 seg_Mem_Seg.C bx p H5 (λcr H6=> ∃(bb az bz an ao am ap:Int) (rb:Bool),cr=.tuple #[.agg #[.int .i64 bb,.int .i64 az,.int .i64 bz,.int .i64 an,.int .i64 ao,.int .i64 am,.int .i64 ap],.bool rb]/\
 ∀(ai:Nat) (H7:zV),ai=H6.size->H7=H6.push (.cells #[.int .i64 0,.int .i64 0,.int .i64 0,.int .i64 0,.int .i64 0,.int .i64 0,.int .i64 0] 76)->
 (CanPuts H7 (ad ai) 0 7)/\ ∀H8,H8=hputs H7 (ad ai) [.int .i64 bb,.int .i64 az,.int .i64 bz,.int .i64 an,.int .i64 ao,.int .i64 am,.int .i64 ap] 0->
 ∃bn:Int,hat H8 ((ad ai).add 1)=some (.int .i64 bn)/\
 if bn=1 then(
 zw p 1024/\
 ∃bp:Int,hat H8 ((f.add 2).add (Int.toNat p*1))=some (.int .i64 bp)/\
 if bp=0 then(
 ∃bl:Option Nat,hat H8 (f.add 1026)=some (.map bl)/\
 ∃bo:Int,hat H8 ((ad ai).add 2)=some (.int .i64 bo)/\
 ∃mr:Nat,bl=some mr/\
 ∃(es:Array MapEntry) (cl:Nat) (ks:List (Int×Value)),H8[mr]?=some (.map es cl)/\Ents (intKey .i64) es.toList ks/\
 ∃b0:Int,(mget ks p).getD (.int .i64 0)=.int .i64 b0/\
 RowAt H8 ((ad ai).add 2) 0 [.int .i64 bo]/\trace_Trace_Weaks_1.C p b0 bo (some (ad b)) H8 (λ_ H9=>
 (b4 (zY (o+1)) H9/\m21 (zY (o+1)) H9<m21 o H5)))
 else
 (b4 (zY (o+1)) H8/\m21 (zY (o+1)) H8<m21 o H5))
 else
 (b4 (zY (o+1)) H8/\m21 (zY (o+1)) H8<m21 o H5)))
 else
 ∃(a5:zW) (d g:Nat),hat H5 (f.add 1028)=some (.slice a5 d g)/\
 ∃(b1:zv) (m44:Int->zV->Nat),b1 0 H5/\ ∀(j:Int) (H10:zV),b1 j H10->
 if j< (d:Int)then(
 ∃l:Addr,a5=some l/\
 zw j d/\
 ∃bj bc:Int,RowAt H10 (l.add (Int.toNat j*2)) 0 [.int .i64 bj,.int .i64 bc]/\
 ∀(m:Nat) (H11:zV),m=H10.size->H11=H10.push (.cells #[.int .i64 0,.int .i64 0] 132)->
 (CanPuts H11 (ad m) 0 2)/\ ∀br,br=hputs H11 (ad m) [.int .i64 bj,.int .i64 bc] 0->
 ∃ce:zW,hat br f=some (.pointer ce)/\
 ∃aw:Addr,ce=some aw/\
 ∃cg:zW,hat br aw=some (.pointer cg)/\
 ∃ay:Addr,cg=some ay/\
 ∃ch:zW,hat br ay=some (.pointer ch)/\
 ∃ax:Addr,ch=some ax/\
 ∃a3:zW,hat br ax=some (.pointer a3)/\
 ∃bd:Int,hat br (ad m)=some (.int .i64 bd)/\
 (
 seg_Mem_Seg.C a3 bd br (λct cj=> ∃(aj ag aq s r y q:Int) (a0:Bool),ct=.tuple #[.agg #[.int .i64 aj,.int .i64 ag,.int .i64 aq,.int .i64 s,.int .i64 r,.int .i64 y,.int .i64 q],.bool a0]/\
 ∀(au:Nat) (H14:zV),au=cj.size->H14=cj.push (.cells #[.int .i64 0,.int .i64 0,.int .i64 0,.int .i64 0,.int .i64 0,.int .i64 0,.int .i64 0] 76)->
 (CanPuts H14 (ad au) 0 7)/\ ∀bq,bq=hputs H14 (ad au) [.int .i64 aj,.int .i64 ag,.int .i64 aq,.int .i64 s,.int .i64 r,.int .i64 y,.int .i64 q] 0->
 ∃bm:Int,hat bq ((ad au).add 1)=some (.int .i64 bm)/\
 if bm=1 then(
 ∃a4:Int,hat bq (ad m)=some (.int .i64 a4)/\
 ∃bf:Int,hat bq ((ad m).add 1)=some (.int .i64 bf)/\
 ∃a6:Int,hat bq ((ad au).add 2)=some (.int .i64 a6)/\
 ∃bh:Int,hat bq ((ad m).add 1)=some (.int .i64 bh)/\
 trace_Trace_Weaks_1.C a4 (zY (bf*16)) (if(zY ((zY (bh+1))*16))<a6 then(zY ((zY (bh+1))*16))else a6) (some (ad b)) bq (λ_ cm=>
 (b1 (zY (j+1)) cm/\m44 (zY (j+1)) cm<m44 j H10)))
 else
 (b1 (zY (j+1)) bq/\m44 (zY (j+1)) bq<m44 j H10)))/\(
 ∀(al:Nat) (H17:zV),al=br.size->H17=br.push (.cells #[.int .i64 0,.int .i64 0,.int .i64 0,.int .i64 0,.int .i64 0,.int .i64 0,.int .i64 0] 76)->RowAt H17 f 0 [.pointer (some aw)]/\RowAt H17 aw 0 [.pointer (some ay)]/\RowAt H17 ay 0 [.pointer (some ax)]/\RowAt H17 ax 0 [.pointer a3]/\RowAt H17 (ad m) 0 [.int .i64 bd]/\
 seg_Mem_Seg.C a3 bd H17 (λcs ci=> ∃(ak ah av aa ab ae ac:Int) (a2:Bool),cs=.tuple #[.agg #[.int .i64 ak,.int .i64 ah,.int .i64 av,.int .i64 aa,.int .i64 ab,.int .i64 ae,.int .i64 ac],.bool a2]/\
 (CanPuts ci (ad al) 0 7)/\ ∀bs,bs=hputs ci (ad al) [.int .i64 ak,.int .i64 ah,.int .i64 av,.int .i64 aa,.int .i64 ab,.int .i64 ae,.int .i64 ac] 0->
 ∃bk:Int,hat bs ((ad al).add 1)=some (.int .i64 bk)/\
 if bk=1 then(
 ∃a1:Int,hat bs (ad m)=some (.int .i64 a1)/\
 ∃be:Int,hat bs ((ad m).add 1)=some (.int .i64 be)/\
 ∃a7:Int,hat bs ((ad al).add 2)=some (.int .i64 a7)/\
 ∃bi:Int,hat bs ((ad m).add 1)=some (.int .i64 bi)/\
 trace_Trace_Weaks_1.C a1 (zY (be*16)) (if(zY ((zY (bi+1))*16))<a7 then(zY ((zY (bi+1))*16))else a7) (some (ad b)) bs (λ_ ck=>
 (b1 (zY (j+1)) ck/\m44 (zY (j+1)) ck<m44 j H10)))
 else
 (b1 (zY (j+1)) bs/\m44 (zY (j+1)) bs<m44 j H10))))
 else
 ∃(bt:zW) (bu bw:Nat),hat H10 (ad b)=some (.slice bt bu bw)/\
 R (.slice bt bu bw) H10))
namespace trace_Trace_Weaks
theorem link{tv:zW}{H:zV}{R:zk}(h:pt tv H R):C tv H R:=by
 refine T_en K0 129 Tryz.func76 ?_
 intro w0 Q hQ
 unfold pt zY at h
 refine T_su [(0,vp tv)]<| T_srz 0<| T_ed 1 [] []<| T_sz<| T_srz 1<| T_nd 1 [] [(13,vp tv)]<| T_c (some 14) h ?_;clear h
 rintro v H1 ⟨x,rfl,h⟩
 refine T_pd [13] [(14,.bool x)]<| T_e ?_
 by_cases c1:x=true
 ·rw[if_pos c1]at h
  exact T_cTz 14 c1<| T_srz 2<| T_nr 1 [2] [vs none 0 0] hQ h
 rw[if_neg c1]at h
 refine T_cFz 14 (zZ c1)<| T_kt<| T_srz 3<| T_ud [14] []<| T_nw (some 3) (λb=>vp (pa b)) (.cells #[vs none 0 0] 67) ?_
 intro b H2 e3 e4
 replace h:=h b H2 e3 e4
 refine T_pd [] [(3,vp (pa b))]<| T_e<| T_srz 4<| T_ed 2 [] [(4,.func (.func 112) #[] #[vp (pa b)])]<| T_sz<| T_sz ?_
 obtain⟨f,rfl,co,q5,ba,rfl,cn,q6,a8,rfl,cp,q7,a9,rfl,bg,q8,b3,q9,h⟩:=h
 refine yY 5 (Code.ops K17) [(18,f,[vp (some ba)]),(18,ba,[vp (some a8)]),(18,a8,[vp (some a9)]),(18,a9,[vp bg]),(17,(f.add 1),[vi b3])] 21 (bv 21 0) (show FactsAt _ _ _ from⟨⟨q5,trivial⟩,⟨q6,trivial⟩,⟨q7,trivial⟩,⟨q8,trivial⟩,⟨q9,trivial⟩,trivial⟩)<| T_gp 0 (some 16) (vp (some f)) (bv 21 1) [(0,vp (some f)),(3,vp (pa b)),(4,.func (.func 112) #[] #[vp (pa b)]),(16,vp (some f))]<| T_gp1 1 17 (vp (some f)) (bv 21 3) [16]<| T_gp1 2 18 (vp (some f)) (bv 21 7) [17]<| T_g1 3 19 (vp (some ba)) (bv 21 15) [18] (loadN 22 (vp (some f))) (yW 18 yZ)<| T_gp1 4 20 (vp (some ba)) (bv 21 31) [19]<| T_gp1 5 21 (vp (some ba)) (bv 21 63) [20]<| T_g1 6 22 (vp (some a8)) (bv 21 127) [21] (loadN 26 (vp (some ba))) (yW 18 yX)<| T_gp1 7 23 (vp (some a8)) (bv 21 255) [22]<| T_gp1 8 24 (vp (some a8)) (bv 21 511) [23]<| T_g1 9 25 (vp (some a9)) (bv 21 1023) [24] (loadN 39 (vp (some a8))) (yW 18 yQ)<| T_gp1 10 26 (vp (some a9)) (bv 21 2047) [25]<| T_gp1 11 27 (vp (some a9)) (bv 21 4095) [26]<| T_g1 12 28 (vp bg) (bv 21 8191) [27] (loadN 69 (vp (some a9))) (yW 18 yJ)<| T_gp1 13 29 (vp (some f)) (bv 21 16383) []<| T_gp1 14 30 (vp (some f)) (bv 21 32767) [29]<| T_gp1 15 31 (vp (some (f.add 1))) (bv 21 65535) [30]<| T_g1 16 32 (vi b3) (bv 21 131071) [31] (loadN 3 (vp (some (f.add 1)))) (yW 17 yK)<| T_gp1 20 36 (vi 0) (bv 21 1179647) []<| G_new 17 (some 33) (bv 21 1310719) (λb=>vs (pa b) 1 1) (.cells #[vi b3] 3) (by kernel_rfl) (λ_=>by kernel_rfl) (by kernel_rfl) ?_
 intro b7 H3 e14 e15
 replace h:=h b7 H3 e14 e15
 obtain⟨f10,f11,f12,f13,h⟩:=h
 refine⟨[(0,vp (some f)),(3,vp (pa b)),(4,.func (.func 112) #[] #[vp (pa b)]),(28,vp bg),(33,vs (pa b7) 1 1),(36,vi 0)],pk,(show FactsAt _ _ _ from⟨f10,f11,f12,f13,trivial,trivial⟩),?_⟩
 refine yq 18 (some 34) (bv 21 1572863) 23 #[vp bg,vs (pa b7) 1 1] h ?_;clear h
 rintro cq H4 ⟨xB,xN,xC,rfl,h⟩
 refine⟨[(0,vp (some f)),(3,vp (pa b)),(4,.func (.func 112) #[] #[vp (pa b)]),(34,vs xB xN xC),(36,vi 0)],pk,(show FactsAt _ _ _ from⟨trivial,trivial,trivial,trivial,trivial,trivial⟩),?_⟩
 refine T_g 19 (some 35) (vi xN) (bv 21 2097151) [(0,vp (some f)),(3,vp (pa b)),(4,.func (.func 112) #[] #[vp (pa b)]),(34,vs xB xN xC),(35,vi xN),(36,vi 0)] (pure (.value (vi xN)):Sem Next) (λ_ _ _ _ _=>rfl)<| G_sub [(0,vp (some f)),(3,vp (pa b)),(4,.func (.func 112) #[] #[vp (pa b)]),(34,vs xB xN xC),(35,vi xN),(36,vi 0)] sk<| yx<| S_then<| T_bz 0 ?_
 obtain⟨b4,m21,i16,i17⟩:=h
 refine S_loop (x:=K20) (σ:=Int) (λs_=> [(0,vp (some f)),(3,vp (pa b)),(4,.func (.func 112) #[] #[vp (pa b)]),(34,vs xB xN xC),(35,vi xN),(36,vi s_)]) (λs_ H=>b4 s_ H) (λs_ H=>m21 s_ H) (0:Int) (by kernel_rfl) i16 sk ?_
 rintro o H5 i18
 have h:=i17 o H5 i18
 refine T_su [(0,vp (some f)),(3,vp (pa b)),(4,.func (.func 112) #[] #[vp (pa b)]),(34,vs xB xN xC),(35,vi xN),(36,vi o)]<| T_srz 6<| T_ed 1 [] [(37,.bool (decide (o< (xN:Int))))]<| T_sz ?_
 by_cases c19:o< (xN:Int)
 ·rw[if_pos c19]at h
  refine T_cTz 37 (zX c19)<| T_kt<| T_sz<| T_bz 1<| T_srz 7<| T_ud [37] [] ?_
  obtain⟨af,rfl,q21,h⟩:=h
  refine T_xd (some 38) 67 3 1 af xN xC .i64 o Tryz.underlying67 q21.1 q21.2 [34] [(34,vs (some af) xN xC),(38,vp (some (af.add (Int.toNat o*1))))] ?_
  obtain⟨p,q22,h⟩:=h
  refine T_l1 39 3 q22 [38]<| T_ed 1 [39] [(6,vi p)]<| T_srz 8<| T_nd 3 [] [(43,vp (some f))] ?_
  obtain⟨cd,q23,h⟩:=h
  refine T_l1 44 22 q23 [43] ?_
  obtain⟨cc,rfl,h⟩:=h
  refine T_nd 2 [44] [(46,vp (some cc))] ?_
  obtain⟨b9,q24,h⟩:=h
  refine T_l1 47 26 q24 [46] ?_
  obtain⟨b8,rfl,h⟩:=h
  refine T_nd 2 [47] [(49,vp (some b8))] ?_
  obtain⟨b6,q25,h⟩:=h
  refine T_l1 50 39 q25 [49] ?_
  obtain⟨b5,rfl,h⟩:=h
  refine T_nd 2 [50] [(52,vp (some b5))] ?_
  obtain⟨bx,q26,h⟩:=h
  refine T_l1 53 69 q26 [52]<| T_nd 1 [] [(54,vi p)]<| T_c (some 55) h ?_;clear h
  rintro cr H6 ⟨bb,az,bz,an,ao,am,ap,rb,rfl,h⟩
  refine T_pd [53,54] [(55,.tuple #[.agg #[vi bb,vi az,vi bz,vi an,vi ao,vi am,vi ap],.bool rb])]<| T_nd 3 [55] [(56,.agg #[vi bb,vi az,vi bz,vi an,vi ao,vi am,vi ap]),(57,.bool rb)]<| T_nw (some 7) (λb=>vp (pa b)) (.cells #[vi 0,vi 0,vi 0,vi 0,vi 0,vi 0,vi 0] 76) ?_
  intro ai H7 e27 e28
  replace h:=h ai H7 e27 e28
  refine T_pd [] [(7,vp (pa ai))] ?_
  obtain⟨q30,h⟩:=h
  refine T_sta 76 [vi bb,vi az,vi bz,vi an,vi ao,vi am,vi ap] q30 ?_
  intro H8 e29
  replace h:=h H8 e29
  refine T_pd [56] []<| T_ed 1 [57] []<| T_srz 9<| T_nd 1 [] [(58,vp (some ((ad ai).add 1)))] ?_
  obtain⟨bn,q31,h⟩:=h
  refine T_l1 59 3 q31 [58]<| T_nd 2 [59] [(61,.bool (bn==1))] ?_
  by_cases c32:bn=1
  ·rw[if_pos c32]at h
   refine N_bd 61 (zK c32)<| T_nd 4 [] [(63,vi p),(65,vp (some (f.add 2)))] ?_
   obtain⟨q34,h⟩:=h
   refine T_v1 66 (indexAtN 124 (vp (some (f.add 2))) (vi p)) (vp (some ((f.add 2).add (Int.toNat p*1)))) (λw _=>indexArr_run (P:=Tryz.prog) (t:=124) (elem:=3) (sz:=1) (n:=1024) (a:=(f.add 2)) (k:=.i64) (i:=p) Tryz.underlying124 (λ_=>by kernel_rfl) q34.1 q34.2 w) [63,65] ?_
   obtain⟨bp,q35,h⟩:=h
   refine T_l1 67 3 q35 [66]<| T_ed 2 [61,67] [(69,.bool (bp==0))] ?_
   by_cases c36:bp=0
   ·rw[if_pos c36]at h
    refine T_cTz 69 (zK c36) ?_
    obtain⟨bl,q38,bo,q39,h⟩:=h
    refine yY 10 (Code.ops K36) [(7,(f.add 1026),[.map bl]),(10,((ad ai).add 2),[vi bo])] 11 (bv 11 0) (show FactsAt _ _ _ from⟨⟨q38,trivial⟩,⟨q39,trivial⟩,trivial⟩)<| T_gp 0 (some 70) (.func (.func 112) #[] #[vp (pa b)]) (bv 11 1) [(0,vp (some f)),(3,vp (pa b)),(4,.func (.func 112) #[] #[vp (pa b)]),(6,vi p),(7,vp (pa ai)),(34,vs (some af) xN xC),(35,vi xN),(36,vi o),(70,.func (.func 112) #[] #[vp (pa b)])]<| T_gp1 1 71 (vi p) (bv 11 3) []<| T_gp1 2 72 (vp (some f)) (bv 11 7) []<| T_gp1 3 73 (vp (some f)) (bv 11 15) [72]<| T_gp1 4 74 (vp (some (f.add 1026))) (bv 11 31) [73]<| T_g1 5 75 (.map bl) (bv 11 63) [74] (loadN 123 (vp (some (f.add 1026)))) (yW 7 yZ)<| T_gp1 6 76 (vi p) (bv 11 127) [6]<| T_gp1 8 78 (vp (some ((ad ai).add 2))) (bv 11 383) [7]<| T_g1 9 79 (vi bo) (bv 11 895) [78] (loadN 3 (vp (some ((ad ai).add 2)))) (yW 10 yX) ?_
    obtain⟨mr,rfl,es,cl,ks,q41,q42,b0,e44,h⟩:=h
    refine G_only 7 (some 77) (bv 11 1023) (lookupN 123 (.map (some mr)) (vi p) false) (λu H1=>u=vi b0/\H1=H8) (by kernel_rfl) (λ_=>by kernel_rfl) (λw hw=>⟨_,w,(lookup_run (kk:=(intKey .i64)) (z:=vi 0) Tryz.underlying123 Tryz.underlying3 (λ_=>by kernel_rfl) (by rw[hw];exact q41) q42 false),Same.refl w,by simp only[Bool.false_eq_true,if_false,e44],hw⟩) (by kernel_rfl) ?_
    rintro _ _ ⟨rfl,rfl⟩
    obtain⟨f40,h⟩:=h
    refine⟨[(0,vp (some f)),(3,vp (pa b)),(4,.func (.func 112) #[] #[vp (pa b)]),(34,vs (some af) xN xC),(35,vi xN),(36,vi o),(70,.func (.func 112) #[] #[vp (pa b)]),(71,vi p),(77,vi b0),(79,vi bo)],pk,(show FactsAt _ _ _ from⟨trivial,f40,trivial⟩),?_⟩
    refine yq 10 (some 80) (bv 11 2047) 112 #[vi p,vi b0,vi bo,vp (pa b)] h ?_;clear h
    intro v_4 H9 h
    refine⟨[(0,vp (some f)),(3,vp (pa b)),(4,.func (.func 112) #[] #[vp (pa b)]),(34,vs (some af) xN xC),(35,vi xN),(36,vi o)],pk,(show FactsAt _ _ _ from⟨trivial,trivial,trivial⟩),?_⟩
    refine G_sub [(0,vp (some f)),(3,vp (pa b)),(4,.func (.func 112) #[] #[vp (pa b)]),(34,vs (some af) xN xC),(35,vi xN),(36,vi o)] sk ?_
    exact yx<| S_blockEnd<| S_then<| T_rz 11<| T_ne 2 [(0,vp (some f)),(3,vp (pa b)),(4,.func (.func 112) #[] #[vp (pa b)]),(34,vs (some af) xN xC),(35,vi xN),(36,vi (zY (o+1)))]<| S_round ((zY (o+1)):Int) sk h
   rw[if_neg c36]at h
   exact T_cFz 69 (zJ c36)<| T_k<| S_blockEnd<| S_then<| T_rz 11<| T_ed 2 [6,7,36,69] [(36,vi (zY (o+1)))]<| S_round ((zY (o+1)):Int) sk h
  rw[if_neg c32]at h
  refine N_bd 61 (zJ c32)<| T_ed 8 [61] [(69,.bool false)]<| T_fz 69<| T_k ?_
  exact S_blockEnd<| S_then<| T_rz 11<| T_ed 2 [6,7,36,69] [(36,vi (zY (o+1)))]<| S_round ((zY (o+1)):Int) sk h
 rw[if_neg c19]at h
 refine T_cFz 37 (zQ c19)<| zj 0<| S_exitThen<| S_exitThen<| S_exitHere<| S_then<| T_sz<| T_srz 12<| T_nd 3 [34,35,36,37] [(84,vp (some (f.add 1028)))] ?_
 obtain⟨a5,d,g,q45,h⟩:=h
 refine T_l1 85 125 q45 [84]<| T_ed 2 [] [(86,vi d),(87,vi 0)]<| T_bz 2 ?_
 obtain⟨b1,m44,i46,i47⟩:=h
 refine S_loop (x:=K43) (σ:=Int) (λs_=> [(0,vp (some f)),(3,vp (pa b)),(4,.func (.func 112) #[] #[vp (pa b)]),(85,vs a5 d g),(86,vi d),(87,vi s_)]) (λs_ H=>b1 s_ H) (λs_ H=>m44 s_ H) (0:Int) (by kernel_rfl) i46 sk ?_
 rintro j H10 i48
 have h:=i47 j H10 i48
 refine T_su [(0,vp (some f)),(3,vp (pa b)),(4,.func (.func 112) #[] #[vp (pa b)]),(85,vs a5 d g),(86,vi d),(87,vi j)]<| T_srz 13<| T_ed 1 [] [(88,.bool (decide (j< (d:Int))))]<| T_sz ?_
 by_cases c49:j< (d:Int)
 ·rw[if_pos c49]at h
  refine T_cTz 88 (zX c49)<| T_kt<| T_sz<| T_bz 3<| T_srz 14<| T_ud [88] [] ?_
  obtain⟨l,rfl,q51,h⟩:=h
  refine T_xd (some 89) 125 132 2 l d g .i64 j Tryz.underlying125 q51.1 q51.2 [85] [(85,vs (some l) d g),(89,vp (some (l.add (Int.toNat j*2))))] ?_
  obtain⟨bj,bc,q52,h⟩:=h
  refine T_lr 90 132 q52 [89]<| T_nw (some 10) (λb=>vp (pa b)) (.cells #[vi 0,vi 0] 132) ?_
  intro m H11 e53 e54
  replace h:=h m H11 e53 e54
  refine T_pd [] [(10,vp (pa m))] ?_
  obtain⟨q56,h⟩:=h
  refine T_sta 132 [vi bj,vi bc] q56 ?_
  intro br e55
  replace h:=h br e55
  refine T_pd [90] []<| T_e<| T_sz ?_
  obtain⟨ce,q57,aw,rfl,cg,q58,ay,rfl,ch,q59,ax,rfl,a3,q60,bd,q61,h⟩:=h
  refine yY 15 (Code.ops K55) [(15,f,[vp (some aw)]),(15,aw,[vp (some ay)]),(15,ay,[vp (some ax)]),(15,ax,[vp a3]),(15,(ad m),[vi bd])] 22 (bv 22 0) (show FactsAt _ _ _ from⟨⟨q57,trivial⟩,⟨q58,trivial⟩,⟨q59,trivial⟩,⟨q60,trivial⟩,⟨q61,trivial⟩,trivial⟩)<| T_gp 0 (some 92) (vp (some f)) (bv 22 1) [(0,vp (some f)),(3,vp (pa b)),(4,.func (.func 112) #[] #[vp (pa b)]),(10,vp (pa m)),(85,vs (some l) d g),(86,vi d),(87,vi j),(92,vp (some f))]<| T_gp1 1 93 (vp (some f)) (bv 22 3) [92]<| T_gp1 2 94 (vp (some f)) (bv 22 7) [93]<| T_g1 3 95 (vp (some aw)) (bv 22 15) [94] (loadN 22 (vp (some f))) (yW 15 yZ)<| T_gp1 4 96 (vp (some aw)) (bv 22 31) [95]<| T_gp1 5 97 (vp (some aw)) (bv 22 63) [96]<| T_g1 6 98 (vp (some ay)) (bv 22 127) [97] (loadN 26 (vp (some aw))) (yW 15 yX)<| T_gp1 7 99 (vp (some ay)) (bv 22 255) [98]<| T_gp1 8 100 (vp (some ay)) (bv 22 511) [99]<| T_g1 9 101 (vp (some ax)) (bv 22 1023) [100] (loadN 39 (vp (some ay))) (yW 15 yQ)<| T_gp1 10 102 (vp (some ax)) (bv 22 2047) [101]<| T_gp1 11 103 (vp (some ax)) (bv 22 4095) [102]<| T_g1 12 104 (vp a3) (bv 22 8191) [103] (loadN 69 (vp (some ax))) (yW 15 yJ)<| T_gp1 13 105 (vp (pa m)) (bv 22 16383) []<| T_g1 14 106 (vi bd) (bv 22 32767) [105] (loadN 3 (vp (pa m))) (yW 15 yK) ?_
  refine G_fork 15 19 (by kernel_rfl) ?_ ?_
  ·replace h:=h.1
   refine O_call 15 (some 107) (bv 22 65535) 24 #[vp a3,vi bd] (by kernel_rfl) (λ_=>by kernel_rfl) h (by kernel_rfl) ?_;clear h
   rintro ct cj ⟨aj,ag,aq,s,r,y,q,a0,rfl,h⟩
   refine⟨[(0,vp (some f)),(3,vp (pa b)),(4,.func (.func 112) #[] #[vp (pa b)]),(10,vp (pa m)),(85,vs (some l) d g),(86,vi d),(87,vi j),(107,.tuple #[.agg #[vi aj,vi ag,vi aq,vi s,vi r,vi y,vi q],.bool a0])],pk,(show FactsAt _ _ _ from⟨trivial,trivial,trivial,trivial,trivial,trivial⟩),?_⟩
   refine T_g 16 (some 91) (.tuple #[.agg #[vi aj,vi ag,vi aq,vi s,vi r,vi y,vi q],.bool a0]) (bv 22 131071) [(0,vp (some f)),(3,vp (pa b)),(4,.func (.func 112) #[] #[vp (pa b)]),(10,vp (pa m)),(85,vs (some l) d g),(86,vi d),(87,vi j),(91,.tuple #[.agg #[vi aj,vi ag,vi aq,vi s,vi r,vi y,vi q],.bool a0])] (pure (.value (.tuple #[.agg #[vi aj,vi ag,vi aq,vi s,vi r,vi y,vi q],.bool a0])):Sem Next) (λ_ _ _ _ _=>rfl)<| T_g1 17 108 (.agg #[vi aj,vi ag,vi aq,vi s,vi r,vi y,vi q]) (bv 22 262143) [] (pure (.value (.agg #[vi aj,vi ag,vi aq,vi s,vi r,vi y,vi q])):Sem Next) (λ_ _ _ _ _=>rfl)<| T_g1 18 109 (.bool a0) (bv 22 524287) [91] (pure (.value (.bool a0)):Sem Next) (λ_ _ _ _ _=>rfl)<| G_new 19 (some 11) (bv 22 1048575) (λb=>vp (pa b)) (.cells #[vi 0,vi 0,vi 0,vi 0,vi 0,vi 0,vi 0] 76) (by kernel_rfl) (λ_=>by kernel_rfl) (by kernel_rfl) ?_
   intro au H14 e62 e63
   replace h:=h au H14 e62 e63
   refine⟨[(0,vp (some f)),(3,vp (pa b)),(4,.func (.func 112) #[] #[vp (pa b)]),(10,vp (pa m)),(11,vp (pa au)),(85,vs (some l) d g),(86,vi d),(87,vi j),(108,.agg #[vi aj,vi ag,vi aq,vi s,vi r,vi y,vi q]),(109,.bool a0)],pk,(show FactsAt _ _ _ from⟨trivial,trivial,trivial,trivial,trivial,trivial⟩),?_⟩
   obtain⟨q65,h⟩:=h
   refine G_onlyskip 20 none (bv 22 2097151) (storeN 76 (vp (pa au)) (.agg #[vi aj,vi ag,vi aq,vi s,vi r,vi y,vi q])) (λHz=>Hz=hputs H14 (ad au) [vi aj,vi ag,vi aq,vi s,vi r,vi y,vi q] 0) (by kernel_rfl) (λ_=>by kernel_rfl) (ss_store [vi aj,vi ag,vi aq,vi s,vi r,vi y,vi q] 7 (by kernel_rfl) (by kernel_rfl) (λ_=>by kernel_rfl) (by kernel_rfl) q65) (by kernel_rfl) ?_
   intro bq e64
   replace h:=h bq e64
   refine⟨[(0,vp (some f)),(3,vp (pa b)),(4,.func (.func 112) #[] #[vp (pa b)]),(10,vp (pa m)),(11,vp (pa au)),(85,vs (some l) d g),(86,vi d),(87,vi j),(109,.bool a0)],pk,(show FactsAt _ _ _ from⟨trivial,trivial,trivial,trivial,trivial,trivial⟩),?_⟩
   refine T_g 21 (some 12) (.bool a0) (bv 22 4194303) [(0,vp (some f)),(3,vp (pa b)),(4,.func (.func 112) #[] #[vp (pa b)]),(10,vp (pa m)),(11,vp (pa au)),(85,vs (some l) d g),(86,vi d),(87,vi j)] (pure (.value (.bool a0)):Sem Next) (λ_ _ _ _ _=>rfl)<| G_sub [(0,vp (some f)),(3,vp (pa b)),(4,.func (.func 112) #[] #[vp (pa b)]),(10,vp (pa m)),(11,vp (pa au)),(85,vs (some l) d g),(86,vi d),(87,vi j)] sk<| yx<| S_then<| T_srz 16<| T_n 1 [(0,vp (some f)),(3,vp (pa b)),(4,.func (.func 112) #[] #[vp (pa b)]),(10,vp (pa m)),(11,vp (pa au)),(85,vs (some l) d g),(86,vi d),(87,vi j),(110,vp (some ((ad au).add 1)))] ?_
   obtain⟨bm,q66,h⟩:=h
   refine T_l1 111 3 q66 [110]<| T_ed 1 [111] [(112,.bool (bm==1))] ?_
   by_cases c67:bm=1
   ·rw[if_pos c67]at h
    refine T_cTz 112 (zK c67)<| T_rz 17<| T_nd 2 [112] [(113,.func (.func 112) #[] #[vp (pa b)]),(114,vp (pa m))] ?_
    obtain⟨a4,q69,h⟩:=h
    refine T_l1 115 3 q69 [114]<| T_nd 1 [] [(116,vp (some ((ad m).add 1)))] ?_
    obtain⟨bf,q70,h⟩:=h
    refine T_l1 117 3 q70 [116]<| T_nd 2 [11,117] [(118,vi (zY (bf*16))),(119,vp (some ((ad au).add 2)))] ?_
    obtain⟨a6,q71,h⟩:=h
    refine T_l1 120 3 q71 [119]<| T_nd 1 [10] [(121,vp (some ((ad m).add 1)))] ?_
    obtain⟨bh,q72,h⟩:=h
    refine T_l1 122 3 q72 [121]<| T_nd 3 [120,122] [(125,vi (if(zY ((zY (bh+1))*16))<a6 then(zY ((zY (bh+1))*16))else a6))]<| T_c (some 126) h ?_;clear h
    intro v_6 cm h
    exact T_pd [113,115,118,125] []<| zq<| S_blockEnd<| S_then<| T_rz 18<| T_ed 2 [87] [(87,vi (zY (j+1)))]<| S_round ((zY (j+1)):Int) sk h
   rw[if_neg c67]at h
   exact T_cFz 112 (zJ c67)<| T_k<| S_blockEnd<| S_then<| T_rz 18<| T_ed 2 [10,11,87,112] [(87,vi (zY (j+1)))]<| S_round ((zY (j+1)):Int) sk h
  replace h:=h.2
  refine O_new 19 (some 11) (bv 22 557055) (λb=>vp (pa b)) (.cells #[vi 0,vi 0,vi 0,vi 0,vi 0,vi 0,vi 0] 76) (by kernel_rfl) (λ_=>by kernel_rfl) (by kernel_rfl) ?_
  intro al H17 e78 e79
  replace h:=h al H17 e78 e79
  obtain⟨f73,f74,f75,f76,f77,h⟩:=h
  refine⟨[(0,vp (some f)),(3,vp (pa b)),(4,.func (.func 112) #[] #[vp (pa b)]),(10,vp (pa m)),(11,vp (pa al)),(85,vs (some l) d g),(86,vi d),(87,vi j),(104,vp a3),(106,vi bd)],pk,(show FactsAt _ _ _ from⟨f73,f74,f75,f76,f77,trivial⟩),?_⟩
  refine yq 15 (some 107) (bv 22 589823) 24 #[vp a3,vi bd] h ?_;clear h
  rintro cs ci ⟨ak,ah,av,aa,ab,ae,ac,a2,rfl,h⟩
  refine⟨[(0,vp (some f)),(3,vp (pa b)),(4,.func (.func 112) #[] #[vp (pa b)]),(10,vp (pa m)),(11,vp (pa al)),(85,vs (some l) d g),(86,vi d),(87,vi j),(107,.tuple #[.agg #[vi ak,vi ah,vi av,vi aa,vi ab,vi ae,vi ac],.bool a2])],pk,(show FactsAt _ _ _ from⟨trivial,trivial,trivial,trivial,trivial,trivial⟩),?_⟩
  refine T_g 16 (some 91) (.tuple #[.agg #[vi ak,vi ah,vi av,vi aa,vi ab,vi ae,vi ac],.bool a2]) (bv 22 655359) [(0,vp (some f)),(3,vp (pa b)),(4,.func (.func 112) #[] #[vp (pa b)]),(10,vp (pa m)),(11,vp (pa al)),(85,vs (some l) d g),(86,vi d),(87,vi j),(91,.tuple #[.agg #[vi ak,vi ah,vi av,vi aa,vi ab,vi ae,vi ac],.bool a2])] (pure (.value (.tuple #[.agg #[vi ak,vi ah,vi av,vi aa,vi ab,vi ae,vi ac],.bool a2])):Sem Next) (λ_ _ _ _ _=>rfl)<| T_g1 17 108 (.agg #[vi ak,vi ah,vi av,vi aa,vi ab,vi ae,vi ac]) (bv 22 786431) [] (pure (.value (.agg #[vi ak,vi ah,vi av,vi aa,vi ab,vi ae,vi ac])):Sem Next) (λ_ _ _ _ _=>rfl)<| T_g1 18 109 (.bool a2) (bv 22 1048575) [91] (pure (.value (.bool a2)):Sem Next) (λ_ _ _ _ _=>rfl) ?_
  obtain⟨q81,h⟩:=h
  refine G_onlyskip 20 none (bv 22 2097151) (storeN 76 (vp (pa al)) (.agg #[vi ak,vi ah,vi av,vi aa,vi ab,vi ae,vi ac])) (λHz=>Hz=hputs ci (ad al) [vi ak,vi ah,vi av,vi aa,vi ab,vi ae,vi ac] 0) (by kernel_rfl) (λ_=>by kernel_rfl) (ss_store [vi ak,vi ah,vi av,vi aa,vi ab,vi ae,vi ac] 7 (by kernel_rfl) (by kernel_rfl) (λ_=>by kernel_rfl) (by kernel_rfl) q81) (by kernel_rfl) ?_
  intro bs e80
  replace h:=h bs e80
  refine⟨[(0,vp (some f)),(3,vp (pa b)),(4,.func (.func 112) #[] #[vp (pa b)]),(10,vp (pa m)),(11,vp (pa al)),(85,vs (some l) d g),(86,vi d),(87,vi j),(109,.bool a2)],pk,(show FactsAt _ _ _ from⟨trivial,trivial,trivial,trivial,trivial,trivial⟩),?_⟩
  refine T_g 21 (some 12) (.bool a2) (bv 22 4194303) [(0,vp (some f)),(3,vp (pa b)),(4,.func (.func 112) #[] #[vp (pa b)]),(10,vp (pa m)),(11,vp (pa al)),(85,vs (some l) d g),(86,vi d),(87,vi j)] (pure (.value (.bool a2)):Sem Next) (λ_ _ _ _ _=>rfl)<| G_sub [(0,vp (some f)),(3,vp (pa b)),(4,.func (.func 112) #[] #[vp (pa b)]),(10,vp (pa m)),(11,vp (pa al)),(85,vs (some l) d g),(86,vi d),(87,vi j)] sk<| yx<| S_then<| T_srz 16<| T_n 1 [(0,vp (some f)),(3,vp (pa b)),(4,.func (.func 112) #[] #[vp (pa b)]),(10,vp (pa m)),(11,vp (pa al)),(85,vs (some l) d g),(86,vi d),(87,vi j),(110,vp (some ((ad al).add 1)))] ?_
  obtain⟨bk,q82,h⟩:=h
  refine T_l1 111 3 q82 [110]<| T_ed 1 [111] [(112,.bool (bk==1))] ?_
  by_cases c83:bk=1
  ·rw[if_pos c83]at h
   refine T_cTz 112 (zK c83)<| T_rz 17<| T_nd 2 [112] [(113,.func (.func 112) #[] #[vp (pa b)]),(114,vp (pa m))] ?_
   obtain⟨a1,q85,h⟩:=h
   refine T_l1 115 3 q85 [114]<| T_nd 1 [] [(116,vp (some ((ad m).add 1)))] ?_
   obtain⟨be,q86,h⟩:=h
   refine T_l1 117 3 q86 [116]<| T_nd 2 [11,117] [(118,vi (zY (be*16))),(119,vp (some ((ad al).add 2)))] ?_
   obtain⟨a7,q87,h⟩:=h
   refine T_l1 120 3 q87 [119]<| T_nd 1 [10] [(121,vp (some ((ad m).add 1)))] ?_
   obtain⟨bi,q88,h⟩:=h
   refine T_l1 122 3 q88 [121]<| T_nd 3 [120,122] [(125,vi (if(zY ((zY (bi+1))*16))<a7 then(zY ((zY (bi+1))*16))else a7))]<| T_c (some 126) h ?_;clear h
   intro v_8 ck h
   exact T_pd [113,115,118,125] []<| zq<| S_blockEnd<| S_then<| T_rz 18<| T_ed 2 [87] [(87,vi (zY (j+1)))]<| S_round ((zY (j+1)):Int) sk h
  rw[if_neg c83]at h
  exact T_cFz 112 (zJ c83)<| T_k<| S_blockEnd<| S_then<| T_rz 18<| T_ed 2 [10,11,87,112] [(87,vi (zY (j+1)))]<| S_round ((zY (j+1)):Int) sk h
 rw[if_neg c49]at h
 refine T_cFz 88 (zQ c49)<| zj 2<| S_exitThen<| S_exitThen<| S_exitHere<| S_then<| T_srz 19<| T_nu [(3,vp (pa b))] ?_
 obtain⟨bt,bu,bw,q89,h⟩:=h
 exact T_l1 128 67 q89 [3]<| T_nr 1 [2] [vs bt bu bw] hQ h
end trace_Trace_Weaks

/-! (*moraine/trace.Trace).look.1 -/
namespace trace_Trace_look_1
def K0:=Func.code Tryz.f105
def K2:=cb K0
end trace_Trace_look_1
def trace_Trace_look_1.pt(b:Int)(n:zW)(H:zV)(R:zk):Prop:=
 ∃a:Addr,n=some a/\
 ∃x:zW,hat H a=some (.pointer x)/\
 ∃xA:Addr,x=some xA/\
 ∃s:zW,hat H xA=some (.pointer s)/\
 ∃q:Addr,s=some q/\
 ∃p:zW,hat H q=some (.pointer p)/\
 ∃o:Addr,p=some o/\
 ∃t:zW,hat H o=some (.pointer t)/\
 ∃r:Addr,t=some r/\
 ∃m:zW,hat H r=some (.pointer m)/\
 seg_Mem_Read.C m b H (λv H1=> ∃ra rb:Int,v=.tuple #[.int .u64 ra,.int .i64 rb]/\
 ∃aa:zW,hat H1 a=some (.pointer aa)/\
 ∃j:Addr,aa=some j/\
 ∃u:zW,hat H1 j=some (.pointer u)/\
 ∃i:Addr,u=some i/\
 ∃z:zW,hat H1 i=some (.pointer z)/\
 ∃g:Addr,z=some g/\
 ∃y:zW,hat H1 g=some (.pointer y)/\
 ∃f:Addr,y=some f/\
 ∃d:zW,hat H1 f=some (.pointer d)/\
 ∃k:zW,hat H1 a=some (.pointer k)/\
 trace_Trace_Visit.C k ra H1 (λac H2=> ∃l:Int,ac=.int .u64 l/\RowAt H2 a 0 [.pointer (some j)]/\RowAt H2 j 0 [.pointer (some i)]/\RowAt H2 i 0 [.pointer (some g)]/\RowAt H2 g 0 [.pointer (some f)]/\RowAt H2 f 0 [.pointer d]/\
 seg_Mem_Write.C d b l H2 (λae H3=> ∃ab:Int,ae=.int .i64 ab/\
 R (.tuple #[]) H3)))
namespace trace_Trace_look_1
theorem link{b:Int}{n:zW}{H:zV}{R:zk}(h:pt b n H R):C b n H R:=by
 refine T_en K0 41 Tryz.func105 ?_
 intro w0 Q hQ
 unfold pt at h
 refine T_su [(0,vi b),(1,vp n)]<| T_srz 0 ?_
 obtain⟨a,rfl,x,q1,h⟩:=h
 refine T_ld (some 6) 82 q1 [1] [(1,vp (some a)),(6,vp x)] ?_
 obtain⟨xA,rfl,h⟩:=h
 refine T_nd 2 [6] [(8,vp (some xA))] ?_
 obtain⟨s,q2,h⟩:=h
 refine T_l1 9 22 q2 [8] ?_
 obtain⟨q,rfl,h⟩:=h
 refine T_nd 2 [9] [(11,vp (some q))] ?_
 obtain⟨p,q3,h⟩:=h
 refine T_l1 12 26 q3 [11] ?_
 obtain⟨o,rfl,h⟩:=h
 refine T_nd 2 [12] [(14,vp (some o))] ?_
 obtain⟨t,q4,h⟩:=h
 refine T_l1 15 39 q4 [14] ?_
 obtain⟨r,rfl,h⟩:=h
 refine T_nd 2 [15] [(17,vp (some r))] ?_
 obtain⟨m,q5,h⟩:=h
 refine T_l1 18 69 q5 [17]<| T_nd 1 [] [(19,vi b)]<| T_c (some 20) h ?_;clear h
 rintro v H1 ⟨ra,rb,rfl,h⟩
 refine T_pd [18,19] [(20,.tuple #[vu ra,vi rb])]<| T_ed 5 [20] [(3,vu ra)] ?_
 obtain⟨aa,q6,j,rfl,u,q7,i,rfl,z,q8,g,rfl,y,q9,f,rfl,d,q10,k,q11,h⟩:=h
 refine yY 1 (Code.ops K2) [(17,a,[vp (some j)]),(17,j,[vp (some i)]),(17,i,[vp (some g)]),(17,g,[vp (some f)]),(17,f,[vp d]),(16,a,[vp k])] 18 (bv 18 0) (show FactsAt _ _ _ from⟨⟨q6,trivial⟩,⟨q7,trivial⟩,⟨q8,trivial⟩,⟨q9,trivial⟩,⟨q10,trivial⟩,⟨q11,trivial⟩,trivial⟩)<| T_g 0 (some 23) (vp (some j)) (bv 18 1) [(0,vi b),(1,vp (some a)),(3,vu ra),(23,vp (some j))] (loadN 82 (vp (some a))) (yW 17 yZ)<| T_gp1 1 24 (vp (some j)) (bv 18 3) [23]<| T_gp1 2 25 (vp (some j)) (bv 18 7) [24]<| T_g1 3 26 (vp (some i)) (bv 18 15) [25] (loadN 22 (vp (some j))) (yW 17 yX)<| T_gp1 4 27 (vp (some i)) (bv 18 31) [26]<| T_gp1 5 28 (vp (some i)) (bv 18 63) [27]<| T_g1 6 29 (vp (some g)) (bv 18 127) [28] (loadN 26 (vp (some i))) (yW 17 yQ)<| T_gp1 7 30 (vp (some g)) (bv 18 255) [29]<| T_gp1 8 31 (vp (some g)) (bv 18 511) [30]<| T_g1 9 32 (vp (some f)) (bv 18 1023) [31] (loadN 39 (vp (some g))) (yW 17 yJ)<| T_gp1 10 33 (vp (some f)) (bv 18 2047) [32]<| T_gp1 11 34 (vp (some f)) (bv 18 4095) [33]<| T_g1 12 35 (vp d) (bv 18 8191) [34] (loadN 69 (vp (some f))) (yW 17 yK)<| T_gp1 13 36 (vi b) (bv 18 16383) [0]<| T_g1 14 37 (vp k) (bv 18 32767) [1] (loadN 82 (vp (some a))) (yW 16 yV)<| T_gp1 15 38 (vu ra) (bv 18 65535) [3]<| yq 16 (some 39) (bv 18 131071) 29 #[vp k,vu ra] h ?_;clear h
 rintro ac H2 ⟨l,rfl,f12,f13,f14,f15,f16,h⟩
 refine⟨[(35,vp d),(36,vi b),(39,vu l)],pk,(show FactsAt _ _ _ from⟨f12,f13,f14,f15,f16,trivial,trivial⟩),?_⟩
 refine yq 17 (some 40) (bv 18 262143) 67 #[vp d,vi b,vu l] h ?_;clear h
 rintro ae H3 ⟨ab,rfl,h⟩
 refine⟨[],pk,(show FactsAt _ _ _ from⟨trivial,trivial,trivial,trivial,trivial,trivial,trivial⟩),?_⟩
 refine G_sub [] sk ?_
 exact yx<| S_doneN (fn:=Tryz.f105) [] hQ (show ResOK _ _ _ [] _ from .nil) h
end trace_Trace_look_1

/-! (*moraine/trace.Trace).Ended -/
namespace trace_Trace_Ended
def K0:=Func.code Tryz.f106
end trace_Trace_Ended
def trace_Trace_Ended.pt(tv:zW)(H:zV)(R:zk):Prop:=
 trace_Trace_none.C tv H (λv H1=> ∃x:Bool,v=.bool x/\
 R (.bool x) H1)
namespace trace_Trace_Ended
theorem link{tv:zW}{H:zV}{R:zk}(h:pt tv H R):C tv H R:=by
 refine T_en K0 5 Tryz.func106 ?_
 intro w0 Q hQ
 unfold pt at h
 refine T_su [(0,vp tv)]<| T_srz 0<| T_ed 1 [] []<| T_srz 1<| T_n 1 [(3,vp tv)]<| T_c (some 4) h ?_;clear h
 rintro v H1 ⟨x,rfl,h⟩
 refine⟨[(4,.bool x)],pk,?_⟩
 exact T_nr 1 [2] [.bool x] hQ h
end trace_Trace_Ended

/-! (*moraine/trace.Trace).Put -/
namespace trace_Trace_Weaks_1
def K0:=Func.code Tryz.f112
def K2:=cb K0
def K3:=ca K2
def K4:=ca K3
end trace_Trace_Weaks_1
def trace_Trace_Weaks_1.pt(d g to:Int)(f:zW)(H:zV)(R:zk):Prop:=
 ∃(I5:zv) (m5:Int->zV->Nat),I5 g H/\ ∀(i:Int) (H1:zV),I5 i H1->
 if i<to then(
 ∃a:Addr,f=some a/\
 ∃(xB:zW) (xN xC:Nat),hat H1 a=some (.slice xB xN xC)/\
 ∀(b:Nat) (H2:zV),b=H1.size->H2=H1.push (.cells #[.int .i64 (zY ((zY (d*64))+i))] 3)->
 appendK 1 3 8 [.int .i64 0] xB xN xC (some (ad b)) 1 H2 (λap j H3=>
 (CanPuts H3 a 0 1)/\ ∀H4,H4=hputs H3 a [.slice ap (xN+1) j] 0->
 (I5 (zY (i+2)) H4/\m5 (zY (i+2)) H4<m5 i H1)))
 else
 R (.tuple #[]) H1
namespace trace_Trace_Weaks_1
theorem link{d g to:Int}{f:zW}{H:zV}{R:zk}(h:pt d g to f H R):C d g to f H R:=by
 refine T_en K0 21 Tryz.func112 ?_
 intro w0 Q hQ
 unfold pt zY at h
 refine T_su [(0,vi d),(1,vi g),(2,vi to),(3,vp f)]<| T_srz 0<| T_ed 2 [1] [(7,vi g)]<| T_bz 0 ?_
 obtain⟨I5,m5,i1,i2⟩:=h
 refine S_loop (x:=K4) (σ:=Int) (λs_=> [(0,vi d),(2,vi to),(3,vp f),(7,vi s_)]) (λs_ H=>I5 s_ H) (λs_ H=>m5 s_ H) (g:Int) (by kernel_rfl) i1 sk ?_
 rintro i H1 i3
 have h:=i2 i H1 i3
 refine T_su [(0,vi d),(2,vi to),(3,vp f),(7,vi i)]<| T_sz<| T_srz 1<| T_ed 3 [] [(11,.bool (decide (i<to)))] ?_
 by_cases c4:i<to
 ·rw[if_pos c4]at h
  refine T_cTz 11 (zX c4)<| T_kt<| T_sz<| T_bz 1<| T_rz 3<| T_ud [11] [] ?_
  obtain⟨a,rfl,xB,xN,xC,q6,h⟩:=h
  refine T_ld (some 14) 67 q6 [3] [(3,vp (some a)),(14,vs xB xN xC)]<| T_nd 4 [] [(18,vi (zY ((zY (d*64))+i)))]<| T_nw (some 19) (λb=>vs (pa b) 1 1) (.cells #[vi (zY ((zY (d*64))+i))] 3) ?_
  intro b H2 e7 e8
  replace h:=h b H2 e7 e8
  refine T_pd [18] [(19,vs (pa b) 1 1)]<| N_op (some 20) (appendN #[67,67] 67 #[vs xB xN xC,vs (pa b) 1 1]) _ (λ_=>by kernel_rfl) (ss_append (T:=3) (sz:=1) (bytes:=8) (zero:=(vi 0:Value)) Tryz.underlying67 Tryz.underlying67 rfl (show Tryz.prog.info? 3=some Tryz.t3 from by kernel_rfl) (by kernel_rfl) (by kernel_rfl) (by decide) (by kernel_rfl) (by first | exact h | (simpa only[Value.cells,List.toList_toArray]using h))) ?_;clear h
  rintro _ H3 ⟨ap,j,rfl,h⟩
  refine T_pd [14,19] [(20,vs ap (xN+1) j)] ?_
  obtain⟨q10,h⟩:=h
  refine T_st1 67 (vs ap (xN+1) j) q10 ?_
  intro H4 e9
  replace h:=h H4 e9
  exact T_pd [20] []<| zq<| S_blockEnd<| S_then<| T_rz 2<| T_ed 3 [7] [(7,vi (zY (i+2)))]<| S_round ((zY (i+2)):Int) sk h
 rw[if_neg c4]at h
 exact T_cFz 11 (zQ c4)<| zj 0<| S_exitThen<| S_exitThen<| S_exitHere<| S_doneN (fn:=Tryz.f112) [] hQ (show ResOK _ _ _ [] _ from .nil) h
end trace_Trace_Weaks_1

