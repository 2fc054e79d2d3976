/- Printed: what each function asks, and that it is sound. -/
import Derived.Test.YtffacgdneichhaaGreatDoorFnsC
set_option linter.unusedSimpArgs false
set_option linter.unusedVariables false
set_option maxRecDepth 100000
set_option maxHeartbeats 1000000
noncomputable section
namespace Go.Proofs.YtffacgdneichhaaGreatDoor
open Go
/-! (*moraine/trace.Trace).Weaks -/
namespace cX
def K0:=Func.code Tryz.f60
def K2:=cb K0
def K4:=cb K2
def K12:=cb K4
def K14:=cb K12
def K15:=ca K14
def K16:=cb K14
def K17:=ca K15
def K18:=cb K15
def K19:=ca K18
def K20:=ca K19
def K22:=cb K20
def K24:=cb K22
def K27:=ca K24
def K29:=ca K27
def K31:=cb K29
def K33:=cb K31
def K35:=cb K33
def K36:=ca K35
def K38:=ca K16
def K41:=cb K38
def K42:=ca K41
def K43:=ca K42
def K45:=cb K43
def K47:=cb K45
def K50:=ca K47
def K52:=ca K50
def K54:=cb K52
def K55:=ca K54
end cX
def cX.pt(tv:zW)(H:zV)(R:zk):Prop:=
 bK.C tv H (λv H1=> ∃x:Bool,v=.bool x/\
 if x=true then(
 R (.slice none 0 0) H1)
 else
 ∀(b:Nat) (H2:zV),b=H1.size->H2=H1.push (.cells #[.slice none 0 0] 79)->
 ∃f:Addr,tv=some f/\
 ∃co:zW,hat H2 f=some (.pointer co)/\
 ∃ba:Addr,co=some ba/\
 ∃cj:zW,hat H2 ba=some (.pointer cj)/\
 ∃a8:Addr,cj=some a8/\
 ∃cm:zW,hat H2 a8=some (.pointer cm)/\
 ∃a9:Addr,cm=some a9/\
 ∃bg:zW,hat H2 a9=some (.pointer bg)/\
 ∃b1:Int,hat H2 (f.add 1)=some (.int .i64 b1)/\
 ∀(b7:Nat) (H3:zV),b7=H2.size->H3=H2.push (.cells #[.int .i64 b1] 3)->aU H3 f 0 [.pointer (some ba)]/\aU H3 ba 0 [.pointer (some a8)]/\aU H3 a8 0 [.pointer (some a9)]/\aU H3 a9 0 [.pointer bg]/\
 cS.C bg (some (ad b7)) 1 1 H3 (λct H4=> ∃(xB:zW) (xN xC:Nat),ct=.slice xB xN xC/\
 ∃(b5:zv) (m21:Int->zV->Nat),b5 0 H4/\ ∀(o:Int) (H5:zV),b5 o H5->
 if o< (xN:Int)then(
 ∃af:Addr,xB=some af/\
 zw o xN/\
 ∃p:Int,hat H5 (af.add (Int.toNat o*1))=some (.int .i64 p)/\
 ∃cc:zW,hat H5 f=some (.pointer cc)/\
 ∃b8:Addr,cc=some b8/\
 ∃b9:zW,hat H5 b8=some (.pointer b9)/\
 ∃cd:Addr,b9=some cd/\
 ∃b4:zW,hat H5 cd=some (.pointer b4)/\
 ∃b6:Addr,b4=some b6/\
 ∃bt:zW,hat H5 b6=some (.pointer bt)/\
 bE.C bt p H5 (λcr H6=> ∃(bb a0 bz am ap an ao:Int) (rb:Bool),cr=.tuple #[.agg #[.int .i64 bb,.int .i64 a0,.int .i64 bz,.int .i64 am,.int .i64 ap,.int .i64 an,.int .i64 ao],.bool rb]/\
 ∀(ai:Nat) (H7:zV),ai=H6.size->H7=H6.push (.cells #[.int .i64 0,.int .i64 0,.int .i64 0,.int .i64 0,.int .i64 0,.int .i64 0,.int .i64 0] 96)->
 (aI H7 (ad ai) 0 7)/\ ∀H8,H8=aO H7 (ad ai) [.int .i64 bb,.int .i64 a0,.int .i64 bz,.int .i64 am,.int .i64 ap,.int .i64 an,.int .i64 ao] 0->
 ∃bo:Int,hat H8 ((ad ai).add 1)=some (.int .i64 bo)/\
 if bo=1 then(
 zw p 1024/\
 ∃bk:Int,hat H8 ((f.add 2).add (Int.toNat p*1))=some (.int .i64 bk)/\
 if bk=0 then(
 ∃bl:Option Nat,hat H8 (f.add 1026)=some (.map bl)/\
 ∃bp:Int,hat H8 ((ad ai).add 2)=some (.int .i64 bp)/\
 ∃mr:Nat,bl=some mr/\
 ∃(es:Array MapEntry) (cl:Nat) (ks:List (Int×Value)),H8[mr]?=some (.map es cl)/\Ents (dg .i64) es.toList ks/\
 ∃b0:Int,(mget ks p).getD (.int .i64 0)=.int .i64 b0/\
 aU H8 ((ad ai).add 2) 0 [.int .i64 bp]/\bH.C p b0 bp (some (ad b)) H8 (λ_ H9=>
 (b5 (zY (o+1)) H9/\m21 (zY (o+1)) H9<m21 o H5)))
 else
 (b5 (zY (o+1)) H8/\m21 (zY (o+1)) H8<m21 o H5))
 else
 (b5 (zY (o+1)) H8/\m21 (zY (o+1)) H8<m21 o H5)))
 else
 ∃(a6:zW) (d g:Nat),hat H5 (f.add 1028)=some (.slice a6 d g)/\
 ∃(b3:zv) (m44:Int->zV->Nat),b3 0 H5/\ ∀(j:Int) (H10:zV),b3 j H10->
 if j< (d:Int)then(
 ∃l:Addr,a6=some l/\
 zw j d/\
 ∃bm bc:Int,aU H10 (l.add (Int.toNat j*2)) 0 [.int .i64 bm,.int .i64 bc]/\
 ∀(m:Nat) (H11:zV),m=H10.size->H11=H10.push (.cells #[.int .i64 0,.int .i64 0] 103)->
 (aI H11 (ad m) 0 2)/\ ∀bq,bq=aO H11 (ad m) [.int .i64 bm,.int .i64 bc] 0->
 ∃cg:zW,hat bq f=some (.pointer cg)/\
 ∃aw:Addr,cg=some aw/\
 ∃ch:zW,hat bq aw=some (.pointer ch)/\
 ∃ax:Addr,ch=some ax/\
 ∃ce:zW,hat bq ax=some (.pointer ce)/\
 ∃ay:Addr,ce=some ay/\
 ∃a1:zW,hat bq ay=some (.pointer a1)/\
 ∃bf:Int,hat bq (ad m)=some (.int .i64 bf)/\
 (
 bE.C a1 bf bq (λcs ck=> ∃(aj ag aq y q r s:Int) (az:Bool),cs=.tuple #[.agg #[.int .i64 aj,.int .i64 ag,.int .i64 aq,.int .i64 y,.int .i64 q,.int .i64 r,.int .i64 s],.bool az]/\
 ∀(au:Nat) (H14:zV),au=ck.size->H14=ck.push (.cells #[.int .i64 0,.int .i64 0,.int .i64 0,.int .i64 0,.int .i64 0,.int .i64 0,.int .i64 0] 96)->
 (aI H14 (ad au) 0 7)/\ ∀br,br=aO H14 (ad au) [.int .i64 aj,.int .i64 ag,.int .i64 aq,.int .i64 y,.int .i64 q,.int .i64 r,.int .i64 s] 0->
 ∃bj:Int,hat br ((ad au).add 1)=some (.int .i64 bj)/\
 if bj=1 then(
 ∃a4:Int,hat br (ad m)=some (.int .i64 a4)/\
 ∃bd:Int,hat br ((ad m).add 1)=some (.int .i64 bd)/\
 ∃a5:Int,hat br ((ad au).add 2)=some (.int .i64 a5)/\
 ∃bi:Int,hat br ((ad m).add 1)=some (.int .i64 bi)/\
 bH.C a4 (zY (bd*16)) (if(zY ((zY (bi+1))*16))<a5 then(zY ((zY (bi+1))*16))else a5) (some (ad b)) br (λ_ cp=>
 (b3 (zY (j+1)) cp/\m44 (zY (j+1)) cp<m44 j H10)))
 else
 (b3 (zY (j+1)) br/\m44 (zY (j+1)) br<m44 j H10)))/\(
 ∀(al:Nat) (H17:zV),al=bq.size->H17=bq.push (.cells #[.int .i64 0,.int .i64 0,.int .i64 0,.int .i64 0,.int .i64 0,.int .i64 0,.int .i64 0] 96)->aU H17 f 0 [.pointer (some aw)]/\aU H17 aw 0 [.pointer (some ax)]/\aU H17 ax 0 [.pointer (some ay)]/\aU H17 ay 0 [.pointer a1]/\aU H17 (ad m) 0 [.int .i64 bf]/\
 bE.C a1 bf H17 (λcq ci=> ∃(ak ah av ae aa ac ab:Int) (a2:Bool),cq=.tuple #[.agg #[.int .i64 ak,.int .i64 ah,.int .i64 av,.int .i64 ae,.int .i64 aa,.int .i64 ac,.int .i64 ab],.bool a2]/\
 (aI ci (ad al) 0 7)/\ ∀bs,bs=aO ci (ad al) [.int .i64 ak,.int .i64 ah,.int .i64 av,.int .i64 ae,.int .i64 aa,.int .i64 ac,.int .i64 ab] 0->
 ∃bn:Int,hat bs ((ad al).add 1)=some (.int .i64 bn)/\
 if bn=1 then(
 ∃a3:Int,hat bs (ad m)=some (.int .i64 a3)/\
 ∃be:Int,hat bs ((ad m).add 1)=some (.int .i64 be)/\
 ∃a7:Int,hat bs ((ad al).add 2)=some (.int .i64 a7)/\
 ∃bh:Int,hat bs ((ad m).add 1)=some (.int .i64 bh)/\
 bH.C a3 (zY (be*16)) (if(zY ((zY (bh+1))*16))<a7 then(zY ((zY (bh+1))*16))else a7) (some (ad b)) bs (λ_ cn=>
 (b3 (zY (j+1)) cn/\m44 (zY (j+1)) cn<m44 j H10)))
 else
 (b3 (zY (j+1)) bs/\m44 (zY (j+1)) bs<m44 j H10))))
 else
 ∃(bw:zW) (bu bx:Nat),hat H10 (ad b)=some (.slice bw bu bx)/\
 R (.slice bw bu bx) H10))
namespace cX
theorem link{tv:zW}{H:zV}{R:zk}(h:pt tv H R):C tv H R:=by
 refine T_en K0 129 Tryz.func60 ?_
 intro w0 Q hQ
 unfold pt zY at h
 refine T_su [(0,vp tv)]<| ar 0<| T_ed 1 [] []<| T_sz<| ar 1<| T_nd 1 [] [(13,vp tv)]<| T_c (some 14) h ?_;clear h
 rintro v H1 ⟨x,rfl,h⟩
 refine T_pd [13] [(14,.bool x)]<| T_e ?_
 by_cases c1:x=true
 ·rw[if_pos c1]at h
  exact aF 14 c1<| ar 2<| T_nr 1 [2] [vs none 0 0] hQ h
 rw[if_neg c1]at h
 refine aE 14 (zZ c1)<| T_kt<| ar 3<| T_ud [14] []<| T_nw (some 3) (λb=>vp (pa b)) (.cells #[vs none 0 0] 79) ?_
 intro b H2 e3 e4
 replace h:=h b H2 e3 e4
 refine T_pd [] [(3,vp (pa b))]<| T_e<| ar 4<| T_ed 2 [] [(4,.func (.func 99) #[] #[vp (pa b)])]<| T_sz<| T_sz ?_
 obtain⟨f,rfl,co,q5,ba,rfl,cj,q6,a8,rfl,cm,q7,a9,rfl,bg,q8,b1,q9,h⟩:=h
 refine yY 5 (Code.ops K17) [(18,f,[vp (some ba)]),(18,ba,[vp (some a8)]),(18,a8,[vp (some a9)]),(18,a9,[vp bg]),(17,(f.add 1),[vi b1])] 21 (bv 21 0) (show aG _ _ _ from⟨⟨q5,trivial⟩,⟨q6,trivial⟩,⟨q7,trivial⟩,⟨q8,trivial⟩,⟨q9,trivial⟩,trivial⟩)<| T_gp 0 (some 16) (vp (some f)) (bv 21 1) [(0,vp (some f)),(3,vp (pa b)),(4,.func (.func 99) #[] #[vp (pa b)]),(16,vp (some f))]<| aD 1 17 (vp (some f)) (bv 21 3) [16]<| aD 2 18 (vp (some f)) (bv 21 7) [17]<| T_g1 3 19 (vp (some ba)) (bv 21 15) [18] (aS 34 (vp (some f))) (yW 18 yZ)<| aD 4 20 (vp (some ba)) (bv 21 31) [19]<| aD 5 21 (vp (some ba)) (bv 21 63) [20]<| T_g1 6 22 (vp (some a8)) (bv 21 127) [21] (aS 44 (vp (some ba))) (yW 18 yX)<| aD 7 23 (vp (some a8)) (bv 21 255) [22]<| aD 8 24 (vp (some a8)) (bv 21 511) [23]<| T_g1 9 25 (vp (some a9)) (bv 21 1023) [24] (aS 81 (vp (some a8))) (yW 18 yQ)<| aD 10 26 (vp (some a9)) (bv 21 2047) [25]<| aD 11 27 (vp (some a9)) (bv 21 4095) [26]<| T_g1 12 28 (vp bg) (bv 21 8191) [27] (aS 84 (vp (some a9))) (yW 18 yJ)<| aD 13 29 (vp (some f)) (bv 21 16383) []<| aD 14 30 (vp (some f)) (bv 21 32767) [29]<| aD 15 31 (vp (some (f.add 1))) (bv 21 65535) [30]<| T_g1 16 32 (vi b1) (bv 21 131071) [31] (aS 3 (vp (some (f.add 1)))) (yW 17 yK)<| aD 20 36 (vi 0) (bv 21 1179647) []<| nN 17 (some 33) (bv 21 1310719) (λb=>vs (pa b) 1 1) (.cells #[vi b1] 3) (by kernel_rfl) (λ_=>by kernel_rfl) (by kernel_rfl) ?_
 intro b7 H3 e14 e15
 replace h:=h b7 H3 e14 e15
 obtain⟨f10,f11,f12,f13,h⟩:=h
 refine⟨[(0,vp (some f)),(3,vp (pa b)),(4,.func (.func 99) #[] #[vp (pa b)]),(28,vp bg),(33,vs (pa b7) 1 1),(36,vi 0)],pk,(show aG _ _ _ from⟨f10,f11,f12,f13,trivial,trivial⟩),?_⟩
 refine yq 18 (some 34) (bv 21 1572863) 35 #[vp bg,vs (pa b7) 1 1] h ?_;clear h
 rintro ct H4 ⟨xB,xN,xC,rfl,h⟩
 refine⟨[(0,vp (some f)),(3,vp (pa b)),(4,.func (.func 99) #[] #[vp (pa b)]),(34,vs xB xN xC),(36,vi 0)],pk,(show aG _ _ _ from⟨trivial,trivial,trivial,trivial,trivial,trivial⟩),?_⟩
 refine T_g 19 (some 35) (vi xN) (bv 21 2097151) [(0,vp (some f)),(3,vp (pa b)),(4,.func (.func 99) #[] #[vp (pa b)]),(34,vs xB xN xC),(35,vi xN),(36,vi 0)] (pure (.value (vi xN)):Sem Next) (λ_ _ _ _ _=>rfl)<| eR [(0,vp (some f)),(3,vp (pa b)),(4,.func (.func 99) #[] #[vp (pa b)]),(34,vs xB xN xC),(35,vi xN),(36,vi 0)] sk<| yx<| aC<| T_bz 0 ?_
 obtain⟨b5,m21,i16,i17⟩:=h
 refine bO (x:=K20) (σ:=Int) (λs_=> [(0,vp (some f)),(3,vp (pa b)),(4,.func (.func 99) #[] #[vp (pa b)]),(34,vs xB xN xC),(35,vi xN),(36,vi s_)]) (λs_ H=>b5 s_ H) (λs_ H=>m21 s_ H) (0:Int) (by kernel_rfl) i16 sk ?_
 rintro o H5 i18
 have h:=i17 o H5 i18
 refine T_su [(0,vp (some f)),(3,vp (pa b)),(4,.func (.func 99) #[] #[vp (pa b)]),(34,vs xB xN xC),(35,vi xN),(36,vi o)]<| ar 6<| T_ed 1 [] [(37,.bool (decide (o< (xN:Int))))]<| T_sz ?_
 by_cases c19:o< (xN:Int)
 ·rw[if_pos c19]at h
  refine aF 37 (zX c19)<| T_kt<| T_sz<| T_bz 1<| ar 7<| T_ud [37] [] ?_
  obtain⟨af,rfl,q21,h⟩:=h
  refine T_xd (some 38) 79 3 1 af xN xC .i64 o Tryz.underlying79 q21.1 q21.2 [34] [(34,vs (some af) xN xC),(38,vp (some (af.add (Int.toNat o*1))))] ?_
  obtain⟨p,q22,h⟩:=h
  refine T_l1 39 3 q22 [38]<| T_ed 1 [39] [(6,vi p)]<| ar 8<| T_nd 3 [] [(43,vp (some f))] ?_
  obtain⟨cc,q23,h⟩:=h
  refine T_l1 44 34 q23 [43] ?_
  obtain⟨b8,rfl,h⟩:=h
  refine T_nd 2 [44] [(46,vp (some b8))] ?_
  obtain⟨b9,q24,h⟩:=h
  refine T_l1 47 44 q24 [46] ?_
  obtain⟨cd,rfl,h⟩:=h
  refine T_nd 2 [47] [(49,vp (some cd))] ?_
  obtain⟨b4,q25,h⟩:=h
  refine T_l1 50 81 q25 [49] ?_
  obtain⟨b6,rfl,h⟩:=h
  refine T_nd 2 [50] [(52,vp (some b6))] ?_
  obtain⟨bt,q26,h⟩:=h
  refine T_l1 53 84 q26 [52]<| T_nd 1 [] [(54,vi p)]<| T_c (some 55) h ?_;clear h
  rintro cr H6 ⟨bb,a0,bz,am,ap,an,ao,rb,rfl,h⟩
  refine T_pd [53,54] [(55,.tuple #[.agg #[vi bb,vi a0,vi bz,vi am,vi ap,vi an,vi ao],.bool rb])]<| T_nd 3 [55] [(56,.agg #[vi bb,vi a0,vi bz,vi am,vi ap,vi an,vi ao]),(57,.bool rb)]<| T_nw (some 7) (λb=>vp (pa b)) (.cells #[vi 0,vi 0,vi 0,vi 0,vi 0,vi 0,vi 0] 96) ?_
  intro ai H7 e27 e28
  replace h:=h ai H7 e27 e28
  refine T_pd [] [(7,vp (pa ai))] ?_
  obtain⟨q30,h⟩:=h
  refine fH 96 [vi bb,vi a0,vi bz,vi am,vi ap,vi an,vi ao] q30 ?_
  intro H8 e29
  replace h:=h H8 e29
  refine T_pd [56] []<| T_ed 1 [57] []<| ar 9<| T_nd 1 [] [(58,vp (some ((ad ai).add 1)))] ?_
  obtain⟨bo,q31,h⟩:=h
  refine T_l1 59 3 q31 [58]<| T_nd 2 [59] [(61,.bool (bo==1))] ?_
  by_cases c32:bo=1
  ·rw[if_pos c32]at h
   refine N_bd 61 (zK c32)<| T_nd 4 [] [(63,vi p),(65,vp (some (f.add 2)))] ?_
   obtain⟨q34,h⟩:=h
   refine T_v1 66 (aR 91 (vp (some (f.add 2))) (vi p)) (vp (some ((f.add 2).add (Int.toNat p*1)))) (λw _=>aN (P:=Tryz.prog) (t:=91) (elem:=3) (sz:=1) (n:=1024) (a:=(f.add 2)) (k:=.i64) (i:=p) Tryz.underlying91 (λ_=>by kernel_rfl) q34.1 q34.2 w) [63,65] ?_
   obtain⟨bk,q35,h⟩:=h
   refine T_l1 67 3 q35 [66]<| T_ed 2 [61,67] [(69,.bool (bk==0))] ?_
   by_cases c36:bk=0
   ·rw[if_pos c36]at h
    refine aF 69 (zK c36) ?_
    obtain⟨bl,q38,bp,q39,h⟩:=h
    refine yY 10 (Code.ops K36) [(7,(f.add 1026),[.map bl]),(10,((ad ai).add 2),[vi bp])] 11 (bv 11 0) (show aG _ _ _ from⟨⟨q38,trivial⟩,⟨q39,trivial⟩,trivial⟩)<| T_gp 0 (some 70) (.func (.func 99) #[] #[vp (pa b)]) (bv 11 1) [(0,vp (some f)),(3,vp (pa b)),(4,.func (.func 99) #[] #[vp (pa b)]),(6,vi p),(7,vp (pa ai)),(34,vs (some af) xN xC),(35,vi xN),(36,vi o),(70,.func (.func 99) #[] #[vp (pa b)])]<| aD 1 71 (vi p) (bv 11 3) []<| aD 2 72 (vp (some f)) (bv 11 7) []<| aD 3 73 (vp (some f)) (bv 11 15) [72]<| aD 4 74 (vp (some (f.add 1026))) (bv 11 31) [73]<| T_g1 5 75 (.map bl) (bv 11 63) [74] (aS 90 (vp (some (f.add 1026)))) (yW 7 yZ)<| aD 6 76 (vi p) (bv 11 127) [6]<| aD 8 78 (vp (some ((ad ai).add 2))) (bv 11 383) [7]<| T_g1 9 79 (vi bp) (bv 11 895) [78] (aS 3 (vp (some ((ad ai).add 2)))) (yW 10 yX) ?_
    obtain⟨mr,rfl,es,cl,ks,q41,q42,b0,e44,h⟩:=h
    refine nj 7 (some 77) (bv 11 1023) (j4 90 (.map (some mr)) (vi p) false) (λu H1=>u=vi b0/\H1=H8) (by kernel_rfl) (λ_=>by kernel_rfl) (λw hw=>⟨_,w,(jL (kk:=(dg .i64)) (z:=vi 0) Tryz.underlying90 Tryz.underlying3 (λ_=>by kernel_rfl) (by rw[hw];exact q41) q42 false),Same.refl w,by simp only[Bool.false_eq_true,if_false,e44],hw⟩) (by kernel_rfl) ?_
    rintro _ _ ⟨rfl,rfl⟩
    obtain⟨f40,h⟩:=h
    refine⟨[(0,vp (some f)),(3,vp (pa b)),(4,.func (.func 99) #[] #[vp (pa b)]),(34,vs (some af) xN xC),(35,vi xN),(36,vi o),(70,.func (.func 99) #[] #[vp (pa b)]),(71,vi p),(77,vi b0),(79,vi bp)],pk,(show aG _ _ _ from⟨trivial,f40,trivial⟩),?_⟩
    refine yq 10 (some 80) (bv 11 2047) 99 #[vi p,vi b0,vi bp,vp (pa b)] h ?_;clear h
    intro v_4 H9 h
    refine⟨[(0,vp (some f)),(3,vp (pa b)),(4,.func (.func 99) #[] #[vp (pa b)]),(34,vs (some af) xN xC),(35,vi xN),(36,vi o)],pk,(show aG _ _ _ from⟨trivial,trivial,trivial⟩),?_⟩
    refine eR [(0,vp (some f)),(3,vp (pa b)),(4,.func (.func 99) #[] #[vp (pa b)]),(34,vs (some af) xN xC),(35,vi xN),(36,vi o)] sk ?_
    exact yx<| aB<| aC<| T_rz 11<| T_ne 2 [(0,vp (some f)),(3,vp (pa b)),(4,.func (.func 99) #[] #[vp (pa b)]),(34,vs (some af) xN xC),(35,vi xN),(36,vi (zY (o+1)))]<| aK ((zY (o+1)):Int) sk h
   rw[if_neg c36]at h
   exact aE 69 (zJ c36)<| T_k<| aB<| aC<| T_rz 11<| T_ed 2 [6,7,36,69] [(36,vi (zY (o+1)))]<| aK ((zY (o+1)):Int) sk h
  rw[if_neg c32]at h
  refine N_bd 61 (zJ c32)<| T_ed 8 [61] [(69,.bool false)]<| T_fz 69<| T_k ?_
  exact aB<| aC<| T_rz 11<| T_ed 2 [6,7,36,69] [(36,vi (zY (o+1)))]<| aK ((zY (o+1)):Int) sk h
 rw[if_neg c19]at h
 refine aE 37 (zQ c19)<| zj 0<| aA<| aA<| aH<| aC<| T_sz<| ar 12<| T_nd 3 [34,35,36,37] [(84,vp (some (f.add 1028)))] ?_
 obtain⟨a6,d,g,q45,h⟩:=h
 refine T_l1 85 92 q45 [84]<| T_ed 2 [] [(86,vi d),(87,vi 0)]<| T_bz 2 ?_
 obtain⟨b3,m44,i46,i47⟩:=h
 refine bO (x:=K43) (σ:=Int) (λs_=> [(0,vp (some f)),(3,vp (pa b)),(4,.func (.func 99) #[] #[vp (pa b)]),(85,vs a6 d g),(86,vi d),(87,vi s_)]) (λs_ H=>b3 s_ H) (λs_ H=>m44 s_ H) (0:Int) (by kernel_rfl) i46 sk ?_
 rintro j H10 i48
 have h:=i47 j H10 i48
 refine T_su [(0,vp (some f)),(3,vp (pa b)),(4,.func (.func 99) #[] #[vp (pa b)]),(85,vs a6 d g),(86,vi d),(87,vi j)]<| ar 13<| T_ed 1 [] [(88,.bool (decide (j< (d:Int))))]<| T_sz ?_
 by_cases c49:j< (d:Int)
 ·rw[if_pos c49]at h
  refine aF 88 (zX c49)<| T_kt<| T_sz<| T_bz 3<| ar 14<| T_ud [88] [] ?_
  obtain⟨l,rfl,q51,h⟩:=h
  refine T_xd (some 89) 92 103 2 l d g .i64 j Tryz.underlying92 q51.1 q51.2 [85] [(85,vs (some l) d g),(89,vp (some (l.add (Int.toNat j*2))))] ?_
  obtain⟨bm,bc,q52,h⟩:=h
  refine T_lr 90 103 q52 [89]<| T_nw (some 10) (λb=>vp (pa b)) (.cells #[vi 0,vi 0] 103) ?_
  intro m H11 e53 e54
  replace h:=h m H11 e53 e54
  refine T_pd [] [(10,vp (pa m))] ?_
  obtain⟨q56,h⟩:=h
  refine fH 103 [vi bm,vi bc] q56 ?_
  intro bq e55
  replace h:=h bq e55
  refine T_pd [90] []<| T_e<| T_sz ?_
  obtain⟨cg,q57,aw,rfl,ch,q58,ax,rfl,ce,q59,ay,rfl,a1,q60,bf,q61,h⟩:=h
  refine yY 15 (Code.ops K55) [(15,f,[vp (some aw)]),(15,aw,[vp (some ax)]),(15,ax,[vp (some ay)]),(15,ay,[vp a1]),(15,(ad m),[vi bf])] 22 (bv 22 0) (show aG _ _ _ from⟨⟨q57,trivial⟩,⟨q58,trivial⟩,⟨q59,trivial⟩,⟨q60,trivial⟩,⟨q61,trivial⟩,trivial⟩)<| T_gp 0 (some 92) (vp (some f)) (bv 22 1) [(0,vp (some f)),(3,vp (pa b)),(4,.func (.func 99) #[] #[vp (pa b)]),(10,vp (pa m)),(85,vs (some l) d g),(86,vi d),(87,vi j),(92,vp (some f))]<| aD 1 93 (vp (some f)) (bv 22 3) [92]<| aD 2 94 (vp (some f)) (bv 22 7) [93]<| T_g1 3 95 (vp (some aw)) (bv 22 15) [94] (aS 34 (vp (some f))) (yW 15 yZ)<| aD 4 96 (vp (some aw)) (bv 22 31) [95]<| aD 5 97 (vp (some aw)) (bv 22 63) [96]<| T_g1 6 98 (vp (some ax)) (bv 22 127) [97] (aS 44 (vp (some aw))) (yW 15 yX)<| aD 7 99 (vp (some ax)) (bv 22 255) [98]<| aD 8 100 (vp (some ax)) (bv 22 511) [99]<| T_g1 9 101 (vp (some ay)) (bv 22 1023) [100] (aS 81 (vp (some ax))) (yW 15 yQ)<| aD 10 102 (vp (some ay)) (bv 22 2047) [101]<| aD 11 103 (vp (some ay)) (bv 22 4095) [102]<| T_g1 12 104 (vp a1) (bv 22 8191) [103] (aS 84 (vp (some ay))) (yW 15 yJ)<| aD 13 105 (vp (pa m)) (bv 22 16383) []<| T_g1 14 106 (vi bf) (bv 22 32767) [105] (aS 3 (vp (pa m))) (yW 15 yK) ?_
  refine qx 15 19 (by kernel_rfl) ?_ ?_
  ·replace h:=h.1
   refine qy 15 (some 107) (bv 22 65535) 37 #[vp a1,vi bf] (by kernel_rfl) (λ_=>by kernel_rfl) h (by kernel_rfl) ?_;clear h
   rintro cs ck ⟨aj,ag,aq,y,q,r,s,az,rfl,h⟩
   refine⟨[(0,vp (some f)),(3,vp (pa b)),(4,.func (.func 99) #[] #[vp (pa b)]),(10,vp (pa m)),(85,vs (some l) d g),(86,vi d),(87,vi j),(107,.tuple #[.agg #[vi aj,vi ag,vi aq,vi y,vi q,vi r,vi s],.bool az])],pk,(show aG _ _ _ from⟨trivial,trivial,trivial,trivial,trivial,trivial⟩),?_⟩
   refine T_g 16 (some 91) (.tuple #[.agg #[vi aj,vi ag,vi aq,vi y,vi q,vi r,vi s],.bool az]) (bv 22 131071) [(0,vp (some f)),(3,vp (pa b)),(4,.func (.func 99) #[] #[vp (pa b)]),(10,vp (pa m)),(85,vs (some l) d g),(86,vi d),(87,vi j),(91,.tuple #[.agg #[vi aj,vi ag,vi aq,vi y,vi q,vi r,vi s],.bool az])] (pure (.value (.tuple #[.agg #[vi aj,vi ag,vi aq,vi y,vi q,vi r,vi s],.bool az])):Sem Next) (λ_ _ _ _ _=>rfl)<| T_g1 17 108 (.agg #[vi aj,vi ag,vi aq,vi y,vi q,vi r,vi s]) (bv 22 262143) [] (pure (.value (.agg #[vi aj,vi ag,vi aq,vi y,vi q,vi r,vi s])):Sem Next) (λ_ _ _ _ _=>rfl)<| T_g1 18 109 (.bool az) (bv 22 524287) [91] (pure (.value (.bool az)):Sem Next) (λ_ _ _ _ _=>rfl)<| nN 19 (some 11) (bv 22 1048575) (λb=>vp (pa b)) (.cells #[vi 0,vi 0,vi 0,vi 0,vi 0,vi 0,vi 0] 96) (by kernel_rfl) (λ_=>by kernel_rfl) (by kernel_rfl) ?_
   intro au H14 e62 e63
   replace h:=h au H14 e62 e63
   refine⟨[(0,vp (some f)),(3,vp (pa b)),(4,.func (.func 99) #[] #[vp (pa b)]),(10,vp (pa m)),(11,vp (pa au)),(85,vs (some l) d g),(86,vi d),(87,vi j),(108,.agg #[vi aj,vi ag,vi aq,vi y,vi q,vi r,vi s]),(109,.bool az)],pk,(show aG _ _ _ from⟨trivial,trivial,trivial,trivial,trivial,trivial⟩),?_⟩
   obtain⟨q65,h⟩:=h
   refine fg 20 none (bv 22 2097151) (gH 96 (vp (pa au)) (.agg #[vi aj,vi ag,vi aq,vi y,vi q,vi r,vi s])) (λHz=>Hz=aO H14 (ad au) [vi aj,vi ag,vi aq,vi y,vi q,vi r,vi s] 0) (by kernel_rfl) (λ_=>by kernel_rfl) (fX [vi aj,vi ag,vi aq,vi y,vi q,vi r,vi s] 7 (by kernel_rfl) (by kernel_rfl) (λ_=>by kernel_rfl) (by kernel_rfl) q65) (by kernel_rfl) ?_
   intro br e64
   replace h:=h br e64
   refine⟨[(0,vp (some f)),(3,vp (pa b)),(4,.func (.func 99) #[] #[vp (pa b)]),(10,vp (pa m)),(11,vp (pa au)),(85,vs (some l) d g),(86,vi d),(87,vi j),(109,.bool az)],pk,(show aG _ _ _ from⟨trivial,trivial,trivial,trivial,trivial,trivial⟩),?_⟩
   refine T_g 21 (some 12) (.bool az) (bv 22 4194303) [(0,vp (some f)),(3,vp (pa b)),(4,.func (.func 99) #[] #[vp (pa b)]),(10,vp (pa m)),(11,vp (pa au)),(85,vs (some l) d g),(86,vi d),(87,vi j)] (pure (.value (.bool az)):Sem Next) (λ_ _ _ _ _=>rfl)<| eR [(0,vp (some f)),(3,vp (pa b)),(4,.func (.func 99) #[] #[vp (pa b)]),(10,vp (pa m)),(11,vp (pa au)),(85,vs (some l) d g),(86,vi d),(87,vi j)] sk<| yx<| aC<| ar 16<| T_n 1 [(0,vp (some f)),(3,vp (pa b)),(4,.func (.func 99) #[] #[vp (pa b)]),(10,vp (pa m)),(11,vp (pa au)),(85,vs (some l) d g),(86,vi d),(87,vi j),(110,vp (some ((ad au).add 1)))] ?_
   obtain⟨bj,q66,h⟩:=h
   refine T_l1 111 3 q66 [110]<| T_ed 1 [111] [(112,.bool (bj==1))] ?_
   by_cases c67:bj=1
   ·rw[if_pos c67]at h
    refine aF 112 (zK c67)<| T_rz 17<| T_nd 2 [112] [(113,.func (.func 99) #[] #[vp (pa b)]),(114,vp (pa m))] ?_
    obtain⟨a4,q69,h⟩:=h
    refine T_l1 115 3 q69 [114]<| T_nd 1 [] [(116,vp (some ((ad m).add 1)))] ?_
    obtain⟨bd,q70,h⟩:=h
    refine T_l1 117 3 q70 [116]<| T_nd 2 [11,117] [(118,vi (zY (bd*16))),(119,vp (some ((ad au).add 2)))] ?_
    obtain⟨a5,q71,h⟩:=h
    refine T_l1 120 3 q71 [119]<| T_nd 1 [10] [(121,vp (some ((ad m).add 1)))] ?_
    obtain⟨bi,q72,h⟩:=h
    refine T_l1 122 3 q72 [121]<| T_nd 3 [120,122] [(125,vi (if(zY ((zY (bi+1))*16))<a5 then(zY ((zY (bi+1))*16))else a5))]<| T_c (some 126) h ?_;clear h
    intro v_6 cp h
    exact T_pd [113,115,118,125] []<| zq<| aB<| aC<| T_rz 18<| T_ed 2 [87] [(87,vi (zY (j+1)))]<| aK ((zY (j+1)):Int) sk h
   rw[if_neg c67]at h
   exact aE 112 (zJ c67)<| T_k<| aB<| aC<| T_rz 18<| T_ed 2 [10,11,87,112] [(87,vi (zY (j+1)))]<| aK ((zY (j+1)):Int) sk h
  replace h:=h.2
  refine rZ 19 (some 11) (bv 22 557055) (λb=>vp (pa b)) (.cells #[vi 0,vi 0,vi 0,vi 0,vi 0,vi 0,vi 0] 96) (by kernel_rfl) (λ_=>by kernel_rfl) (by kernel_rfl) ?_
  intro al H17 e78 e79
  replace h:=h al H17 e78 e79
  obtain⟨f73,f74,f75,f76,f77,h⟩:=h
  refine⟨[(0,vp (some f)),(3,vp (pa b)),(4,.func (.func 99) #[] #[vp (pa b)]),(10,vp (pa m)),(11,vp (pa al)),(85,vs (some l) d g),(86,vi d),(87,vi j),(104,vp a1),(106,vi bf)],pk,(show aG _ _ _ from⟨f73,f74,f75,f76,f77,trivial⟩),?_⟩
  refine yq 15 (some 107) (bv 22 589823) 37 #[vp a1,vi bf] h ?_;clear h
  rintro cq ci ⟨ak,ah,av,ae,aa,ac,ab,a2,rfl,h⟩
  refine⟨[(0,vp (some f)),(3,vp (pa b)),(4,.func (.func 99) #[] #[vp (pa b)]),(10,vp (pa m)),(11,vp (pa al)),(85,vs (some l) d g),(86,vi d),(87,vi j),(107,.tuple #[.agg #[vi ak,vi ah,vi av,vi ae,vi aa,vi ac,vi ab],.bool a2])],pk,(show aG _ _ _ from⟨trivial,trivial,trivial,trivial,trivial,trivial⟩),?_⟩
  refine T_g 16 (some 91) (.tuple #[.agg #[vi ak,vi ah,vi av,vi ae,vi aa,vi ac,vi ab],.bool a2]) (bv 22 655359) [(0,vp (some f)),(3,vp (pa b)),(4,.func (.func 99) #[] #[vp (pa b)]),(10,vp (pa m)),(11,vp (pa al)),(85,vs (some l) d g),(86,vi d),(87,vi j),(91,.tuple #[.agg #[vi ak,vi ah,vi av,vi ae,vi aa,vi ac,vi ab],.bool a2])] (pure (.value (.tuple #[.agg #[vi ak,vi ah,vi av,vi ae,vi aa,vi ac,vi ab],.bool a2])):Sem Next) (λ_ _ _ _ _=>rfl)<| T_g1 17 108 (.agg #[vi ak,vi ah,vi av,vi ae,vi aa,vi ac,vi ab]) (bv 22 786431) [] (pure (.value (.agg #[vi ak,vi ah,vi av,vi ae,vi aa,vi ac,vi ab])):Sem Next) (λ_ _ _ _ _=>rfl)<| T_g1 18 109 (.bool a2) (bv 22 1048575) [91] (pure (.value (.bool a2)):Sem Next) (λ_ _ _ _ _=>rfl) ?_
  obtain⟨q81,h⟩:=h
  refine fg 20 none (bv 22 2097151) (gH 96 (vp (pa al)) (.agg #[vi ak,vi ah,vi av,vi ae,vi aa,vi ac,vi ab])) (λHz=>Hz=aO ci (ad al) [vi ak,vi ah,vi av,vi ae,vi aa,vi ac,vi ab] 0) (by kernel_rfl) (λ_=>by kernel_rfl) (fX [vi ak,vi ah,vi av,vi ae,vi aa,vi ac,vi ab] 7 (by kernel_rfl) (by kernel_rfl) (λ_=>by kernel_rfl) (by kernel_rfl) q81) (by kernel_rfl) ?_
  intro bs e80
  replace h:=h bs e80
  refine⟨[(0,vp (some f)),(3,vp (pa b)),(4,.func (.func 99) #[] #[vp (pa b)]),(10,vp (pa m)),(11,vp (pa al)),(85,vs (some l) d g),(86,vi d),(87,vi j),(109,.bool a2)],pk,(show aG _ _ _ from⟨trivial,trivial,trivial,trivial,trivial,trivial⟩),?_⟩
  refine T_g 21 (some 12) (.bool a2) (bv 22 4194303) [(0,vp (some f)),(3,vp (pa b)),(4,.func (.func 99) #[] #[vp (pa b)]),(10,vp (pa m)),(11,vp (pa al)),(85,vs (some l) d g),(86,vi d),(87,vi j)] (pure (.value (.bool a2)):Sem Next) (λ_ _ _ _ _=>rfl)<| eR [(0,vp (some f)),(3,vp (pa b)),(4,.func (.func 99) #[] #[vp (pa b)]),(10,vp (pa m)),(11,vp (pa al)),(85,vs (some l) d g),(86,vi d),(87,vi j)] sk<| yx<| aC<| ar 16<| T_n 1 [(0,vp (some f)),(3,vp (pa b)),(4,.func (.func 99) #[] #[vp (pa b)]),(10,vp (pa m)),(11,vp (pa al)),(85,vs (some l) d g),(86,vi d),(87,vi j),(110,vp (some ((ad al).add 1)))] ?_
  obtain⟨bn,q82,h⟩:=h
  refine T_l1 111 3 q82 [110]<| T_ed 1 [111] [(112,.bool (bn==1))] ?_
  by_cases c83:bn=1
  ·rw[if_pos c83]at h
   refine aF 112 (zK c83)<| T_rz 17<| T_nd 2 [112] [(113,.func (.func 99) #[] #[vp (pa b)]),(114,vp (pa m))] ?_
   obtain⟨a3,q85,h⟩:=h
   refine T_l1 115 3 q85 [114]<| T_nd 1 [] [(116,vp (some ((ad m).add 1)))] ?_
   obtain⟨be,q86,h⟩:=h
   refine T_l1 117 3 q86 [116]<| T_nd 2 [11,117] [(118,vi (zY (be*16))),(119,vp (some ((ad al).add 2)))] ?_
   obtain⟨a7,q87,h⟩:=h
   refine T_l1 120 3 q87 [119]<| T_nd 1 [10] [(121,vp (some ((ad m).add 1)))] ?_
   obtain⟨bh,q88,h⟩:=h
   refine T_l1 122 3 q88 [121]<| T_nd 3 [120,122] [(125,vi (if(zY ((zY (bh+1))*16))<a7 then(zY ((zY (bh+1))*16))else a7))]<| T_c (some 126) h ?_;clear h
   intro v_8 cn h
   exact T_pd [113,115,118,125] []<| zq<| aB<| aC<| T_rz 18<| T_ed 2 [87] [(87,vi (zY (j+1)))]<| aK ((zY (j+1)):Int) sk h
  rw[if_neg c83]at h
  exact aE 112 (zJ c83)<| T_k<| aB<| aC<| T_rz 18<| T_ed 2 [10,11,87,112] [(87,vi (zY (j+1)))]<| aK ((zY (j+1)):Int) sk h
 rw[if_neg c49]at h
 refine aE 88 (zQ c49)<| zj 2<| aA<| aA<| aH<| aC<| ar 19<| T_nu [(3,vp (pa b))] ?_
 obtain⟨bw,bu,bx,q89,h⟩:=h
 exact T_l1 128 79 q89 [3]<| T_nr 1 [2] [vs bw bu bx] hQ h
end cX

/-! (*moraine/trace.Trace).look.1 -/
namespace cJ
def K0:=Func.code Tryz.f92
def K2:=cb K0
end cJ
def cJ.pt(b:Int)(o:zW)(H:zV)(R:zk):Prop:=
 ∃a:Addr,o=some a/\
 ∃x:zW,hat H a=some (.pointer x)/\
 ∃xA:Addr,x=some xA/\
 ∃p:zW,hat H xA=some (.pointer p)/\
 ∃u:Addr,p=some u/\
 ∃s:zW,hat H u=some (.pointer s)/\
 ∃q:Addr,s=some q/\
 ∃r:zW,hat H q=some (.pointer r)/\
 ∃t:Addr,r=some t/\
 ∃m:zW,hat H t=some (.pointer m)/\
 bR.C m b H (λv H1=> ∃ra rb:Int,v=.tuple #[.int .u64 ra,.int .i64 rb]/\
 ∃ac:zW,hat H1 a=some (.pointer ac)/\
 ∃i:Addr,ac=some i/\
 ∃aa:zW,hat H1 i=some (.pointer aa)/\
 ∃f:Addr,aa=some f/\
 ∃z:zW,hat H1 f=some (.pointer z)/\
 ∃g:Addr,z=some g/\
 ∃ab:zW,hat H1 g=some (.pointer ab)/\
 ∃j:Addr,ab=some j/\
 ∃d:zW,hat H1 j=some (.pointer d)/\
 ∃k:zW,hat H1 a=some (.pointer k)/\
 aW.C k ra H1 (λaf H2=> ∃l:Int,af=.int .u64 l/\aU H2 a 0 [.pointer (some i)]/\aU H2 i 0 [.pointer (some f)]/\aU H2 f 0 [.pointer (some g)]/\aU H2 g 0 [.pointer (some j)]/\aU H2 j 0 [.pointer d]/\
 cz.C d b l H2 (λae H3=> ∃y:Int,ae=.int .i64 y/\
 R (.tuple #[]) H3)))
namespace cJ
theorem link{b:Int}{o:zW}{H:zV}{R:zk}(h:pt b o H R):C b o H R:=by
 refine T_en K0 41 Tryz.func92 ?_
 intro w0 Q hQ
 unfold pt at h
 refine T_su [(0,vi b),(1,vp o)]<| ar 0 ?_
 obtain⟨a,rfl,x,q1,h⟩:=h
 refine T_ld (some 6) 58 q1 [1] [(1,vp (some a)),(6,vp x)] ?_
 obtain⟨xA,rfl,h⟩:=h
 refine T_nd 2 [6] [(8,vp (some xA))] ?_
 obtain⟨p,q2,h⟩:=h
 refine T_l1 9 34 q2 [8] ?_
 obtain⟨u,rfl,h⟩:=h
 refine T_nd 2 [9] [(11,vp (some u))] ?_
 obtain⟨s,q3,h⟩:=h
 refine T_l1 12 44 q3 [11] ?_
 obtain⟨q,rfl,h⟩:=h
 refine T_nd 2 [12] [(14,vp (some q))] ?_
 obtain⟨r,q4,h⟩:=h
 refine T_l1 15 81 q4 [14] ?_
 obtain⟨t,rfl,h⟩:=h
 refine T_nd 2 [15] [(17,vp (some t))] ?_
 obtain⟨m,q5,h⟩:=h
 refine T_l1 18 84 q5 [17]<| T_nd 1 [] [(19,vi b)]<| T_c (some 20) h ?_;clear h
 rintro v H1 ⟨ra,rb,rfl,h⟩
 refine T_pd [18,19] [(20,.tuple #[vu ra,vi rb])]<| T_ed 5 [20] [(3,vu ra)] ?_
 obtain⟨ac,q6,i,rfl,aa,q7,f,rfl,z,q8,g,rfl,ab,q9,j,rfl,d,q10,k,q11,h⟩:=h
 refine yY 1 (Code.ops K2) [(17,a,[vp (some i)]),(17,i,[vp (some f)]),(17,f,[vp (some g)]),(17,g,[vp (some j)]),(17,j,[vp d]),(16,a,[vp k])] 18 (bv 18 0) (show aG _ _ _ from⟨⟨q6,trivial⟩,⟨q7,trivial⟩,⟨q8,trivial⟩,⟨q9,trivial⟩,⟨q10,trivial⟩,⟨q11,trivial⟩,trivial⟩)<| T_g 0 (some 23) (vp (some i)) (bv 18 1) [(0,vi b),(1,vp (some a)),(3,vu ra),(23,vp (some i))] (aS 58 (vp (some a))) (yW 17 yZ)<| aD 1 24 (vp (some i)) (bv 18 3) [23]<| aD 2 25 (vp (some i)) (bv 18 7) [24]<| T_g1 3 26 (vp (some f)) (bv 18 15) [25] (aS 34 (vp (some i))) (yW 17 yX)<| aD 4 27 (vp (some f)) (bv 18 31) [26]<| aD 5 28 (vp (some f)) (bv 18 63) [27]<| T_g1 6 29 (vp (some g)) (bv 18 127) [28] (aS 44 (vp (some f))) (yW 17 yQ)<| aD 7 30 (vp (some g)) (bv 18 255) [29]<| aD 8 31 (vp (some g)) (bv 18 511) [30]<| T_g1 9 32 (vp (some j)) (bv 18 1023) [31] (aS 81 (vp (some g))) (yW 17 yJ)<| aD 10 33 (vp (some j)) (bv 18 2047) [32]<| aD 11 34 (vp (some j)) (bv 18 4095) [33]<| T_g1 12 35 (vp d) (bv 18 8191) [34] (aS 84 (vp (some j))) (yW 17 yK)<| aD 13 36 (vi b) (bv 18 16383) [0]<| T_g1 14 37 (vp k) (bv 18 32767) [1] (aS 58 (vp (some a))) (yW 16 yV)<| aD 15 38 (vu ra) (bv 18 65535) [3]<| yq 16 (some 39) (bv 18 131071) 20 #[vp k,vu ra] h ?_;clear h
 rintro af H2 ⟨l,rfl,f12,f13,f14,f15,f16,h⟩
 refine⟨[(35,vp d),(36,vi b),(39,vu l)],pk,(show aG _ _ _ from⟨f12,f13,f14,f15,f16,trivial,trivial⟩),?_⟩
 refine yq 17 (some 40) (bv 18 262143) 50 #[vp d,vi b,vu l] h ?_;clear h
 rintro ae H3 ⟨y,rfl,h⟩
 refine⟨[],pk,(show aG _ _ _ from⟨trivial,trivial,trivial,trivial,trivial,trivial,trivial⟩),?_⟩
 refine eR [] sk ?_
 exact yx<| fN (fn:=Tryz.f92) [] hQ (show dh _ _ _ [] _ from .nil) h
end cJ

/-! (*moraine/trace.Trace).Ended -/
namespace cY
def K0:=Func.code Tryz.f93
end cY
def cY.pt(tv:zW)(H:zV)(R:zk):Prop:=
 bK.C tv H (λv H1=> ∃x:Bool,v=.bool x/\
 R (.bool x) H1)
namespace cY
theorem link{tv:zW}{H:zV}{R:zk}(h:pt tv H R):C tv H R:=by
 refine T_en K0 5 Tryz.func93 ?_
 intro w0 Q hQ
 unfold pt at h
 refine T_su [(0,vp tv)]<| ar 0<| T_ed 1 [] []<| ar 1<| T_n 1 [(3,vp tv)]<| T_c (some 4) h ?_;clear h
 rintro v H1 ⟨x,rfl,h⟩
 refine⟨[(4,.bool x)],pk,?_⟩
 exact T_nr 1 [2] [.bool x] hQ h
end cY

/-! (*moraine/trace.Trace).Put -/
namespace bH
def K0:=Func.code Tryz.f99
def K2:=cb K0
def K3:=ca K2
def K4:=ca K3
end bH
def bH.pt(d g to:Int)(f:zW)(H:zV)(R:zk):Prop:=
 ∃(I5:zv) (m5:Int->zV->Nat),I5 g H/\ ∀(i:Int) (H1:zV),I5 i H1->
 if i<to then(
 ∃a:Addr,f=some a/\
 ∃(xB:zW) (xN xC:Nat),hat H1 a=some (.slice xB xN xC)/\
 ∀(b:Nat) (H2:zV),b=H1.size->H2=H1.push (.cells #[.int .i64 (zY ((zY (d*64))+i))] 3)->
 dw 1 3 8 [.int .i64 0] xB xN xC (some (ad b)) 1 H2 (λap j H3=>
 (aI H3 a 0 1)/\ ∀H4,H4=aO H3 a [.slice ap (xN+1) j] 0->
 (I5 (zY (i+2)) H4/\m5 (zY (i+2)) H4<m5 i H1)))
 else
 R (.tuple #[]) H1
namespace bH
theorem link{d g to:Int}{f:zW}{H:zV}{R:zk}(h:pt d g to f H R):C d g to f H R:=by
 refine T_en K0 21 Tryz.func99 ?_
 intro w0 Q hQ
 unfold pt zY at h
 refine T_su [(0,vi d),(1,vi g),(2,vi to),(3,vp f)]<| ar 0<| T_ed 2 [1] [(7,vi g)]<| T_bz 0 ?_
 obtain⟨I5,m5,i1,i2⟩:=h
 refine bO (x:=K4) (σ:=Int) (λs_=> [(0,vi d),(2,vi to),(3,vp f),(7,vi s_)]) (λs_ H=>I5 s_ H) (λs_ H=>m5 s_ H) (g:Int) (by kernel_rfl) i1 sk ?_
 rintro i H1 i3
 have h:=i2 i H1 i3
 refine T_su [(0,vi d),(2,vi to),(3,vp f),(7,vi i)]<| T_sz<| ar 1<| T_ed 3 [] [(11,.bool (decide (i<to)))] ?_
 by_cases c4:i<to
 ·rw[if_pos c4]at h
  refine aF 11 (zX c4)<| T_kt<| T_sz<| T_bz 1<| T_rz 3<| T_ud [11] [] ?_
  obtain⟨a,rfl,xB,xN,xC,q6,h⟩:=h
  refine T_ld (some 14) 79 q6 [3] [(3,vp (some a)),(14,vs xB xN xC)]<| T_nd 4 [] [(18,vi (zY ((zY (d*64))+i)))]<| T_nw (some 19) (λb=>vs (pa b) 1 1) (.cells #[vi (zY ((zY (d*64))+i))] 3) ?_
  intro b H2 e7 e8
  replace h:=h b H2 e7 e8
  refine T_pd [18] [(19,vs (pa b) 1 1)]<| N_op (some 20) (dJ #[79,79] 79 #[vs xB xN xC,vs (pa b) 1 1]) _ (λ_=>by kernel_rfl) (di (T:=3) (sz:=1) (bytes:=8) (zero:=(vi 0:Value)) Tryz.underlying79 Tryz.underlying79 rfl (show Tryz.prog.info? 3=some Tryz.t3 from by kernel_rfl) (by kernel_rfl) (by kernel_rfl) (by decide) (by kernel_rfl) (by first | exact h | (simpa only[Value.cells,List.toList_toArray]using h))) ?_;clear h
  rintro _ H3 ⟨ap,j,rfl,h⟩
  refine T_pd [14,19] [(20,vs ap (xN+1) j)] ?_
  obtain⟨q10,h⟩:=h
  refine eq 79 (vs ap (xN+1) j) q10 ?_
  intro H4 e9
  replace h:=h H4 e9
  exact T_pd [20] []<| zq<| aB<| aC<| T_rz 2<| T_ed 3 [7] [(7,vi (zY (i+2)))]<| aK ((zY (i+2)):Int) sk h
 rw[if_neg c4]at h
 exact aE 11 (zQ c4)<| zj 0<| aA<| aA<| aH<| fN (fn:=Tryz.f99) [] hQ (show dh _ _ _ [] _ from .nil) h
end bH

