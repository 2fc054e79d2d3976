/- Printed: what each function asks, and that it is sound. -/
import Derived.Test.YtmlhlkbpglcccaaGreatFnsC
set_option linter.unusedSimpArgs false
set_option linter.unusedVariables false
set_option maxRecDepth 100000
set_option maxHeartbeats 1000000
noncomputable section
namespace Go.Proofs.YtmlhlkbpglcccaaGreat
open Go
/-! (*moraine/trace.Trace).Cards -/
namespace aY
def K0:=Func.code Tryz.f30
end aY
def aY.pt(tv:zW)(wv:Int)(H:zV)(R:zj):Prop:=
 cy.C tv wv H (λv H1=> ∃x:Bool,v=.bool x/\
 if x=true then(
 bX.C tv wv H1 (λa H2=> ∃(ra:Int) (rb:Bool),a=.tuple #[.int .u64 ra,.bool rb]/\
 R (.bool rb) H2))
 else
 R (.bool true) H1)
namespace aY
theorem link{tv:zW}{wv:Int}{H:zV}{R:zj}(h:pt tv wv H R):C tv wv H R:=by
 refine T_en K0 18 Tryz.func30 ?_
 intro w0 Q hQ
 unfold pt at h
 refine T_su [(0,vp tv),(1,vu wv)]<| ar 0<| T_ed 1 [] []<| T_sz<| ar 1<| T_nd 2 [] [(7,vp tv),(8,vu wv)]<| T_c (some 9) h ?_;clear h
 rintro v H1 ⟨x,rfl,h⟩
 refine T_pd [7,8] [(9,.bool x)]<| T_ed 1 [9] [(10,.bool (!x))] ?_
 by_cases c1:x=true
 ·rw[if_pos c1]at h
  refine aJ 10 (congrArg Bool.not (c1))<| T_kt<| ar 3<| T_n 2 [(12,vp tv),(13,vu wv)]<| T_c (some 14) h ?_;clear h
  rintro a H2 ⟨ra,rb,rfl,h⟩
  refine⟨[(14,.tuple #[vu ra,.bool rb])],pk,?_⟩
  exact T_ne 5 [(6,.bool rb)]<| ar 4<| T_nr 2 [4] [.bool rb] hQ h
 rw[if_neg c1]at h
 exact aI 10 (congrArg Bool.not (zZ c1))<| ar 2<| T_nr 1 [4] [.bool true] hQ h
end aY

/-! (*moraine/trace.Trace).Old -/
namespace cy
def K0:=Func.code Tryz.f31
end cy
def cy.pt(tv:zW)(wv:Int)(H:zV)(R:zj):Prop:=
 dV.C wv H (λv H1=> ∃(ra:Int) (rb:Bool),v=.tuple #[.int .i64 ra,.bool rb]/\
 bF.C tv H1 (λf H2=> ∃x:Bool,f=.bool x/\
 if x=true then(
 R (.bool false) H2)
 else
 if rb=true then(
 dQ.C wv H2 (λg H3=> ∃d:Int,g=.int .i64 d/\
 if d=6 then(
 R (.bool false) H3)
 else
 ∃b:Addr,tv=some b/\
 ((0:Int)<=(zY (Int.tdiv ra 64))/\(zY (Int.tdiv ra 64))< (1024:Int))/\
 ∃e:Int,hat H3 ((b.add 2).add (Int.toNat (zY (Int.tdiv ra 64))*1))=some (.int .i64 e)/\
 R (.bool (e==1)) H3))
 else
 R (.bool false) H2))
namespace cy
theorem link{tv:zW}{wv:Int}{H:zV}{R:zj}(h:pt tv wv H R):C tv wv H R:=by
 refine T_en K0 33 Tryz.func31 ?_
 intro w0 Q hQ
 unfold pt zY at h
 refine T_su [(0,vp tv),(1,vu wv)]<| ar 0<| T_ed 1 [] []<| ar 1<| T_nd 1 [] [(8,vu wv)]<| T_c (some 9) h ?_;clear h
 rintro v H1 ⟨ra,rb,rfl,h⟩
 refine T_pd [8] [(9,.tuple #[vi ra,.bool rb])]<| T_ed 5 [9] [(5,vi ra),(6,.bool rb)]<| ar 2<| T_nd 1 [] [(12,vp tv)]<| T_c (some 13) h ?_;clear h
 rintro f H2 ⟨x,rfl,h⟩
 refine T_pd [12] [(13,.bool x)]<| T_nd 2 [13] [(15,.bool (!x))] ?_
 by_cases c1:x=true
 ·rw[if_pos c1]at h
  have b2:(!x)=false:=congrArg Bool.not (c1)
  have b22:x=true:=c1
  refine N_bd 15 (b:=(!x)) (v:=false) (by simp only[b2,b22,Bool.not_true,Bool.not_false]) ?_
  clear b2 b22
  exact T_nr 18 [4] [.bool false] hQ h
 rw[if_neg c1]at h
 have b2:(!x)=true:=congrArg Bool.not (zZ c1)
 have b22:x=false:=zZ c1
 refine N_bd 15 (b:=(!x)) (v:=true) (by simp only[b2,b22,Bool.not_true,Bool.not_false]) ?_
 clear b2 b22
 refine T_nd 3 [6,15] [(18,.bool rb)] ?_
 by_cases c3:rb=true
 ·rw[if_pos c3]at h
  refine N_bd 18 c3<| T_nd 1 [1] [(19,vu wv)] ?_
  refine T_c (some 20) h ?_;clear h
  rintro g H3 ⟨d,rfl,h⟩
  refine T_pd [19] [(20,vi d)]<| T_nd 3 [18,20] [(23,.bool (d !=6))] ?_
  by_cases c5:d=6
  ·rw[if_pos c5]at h
   exact N_bd 23 (bne_eq_false_iff_eq.mpr c5)<| T_nr 10 [4] [.bool false] hQ h
  rw[if_neg c5]at h
  refine N_bd 23 (bne_iff_ne.mpr c5)<| T_nd 3 [0,5] [(24,vp tv),(26,vi (zY (Int.tdiv ra 64)))] ?_
  obtain⟨b,rfl,h⟩:=h
  refine T_nd 2 [24] [(28,vp (some (b.add 2)))] ?_
  obtain⟨q7,h⟩:=h
  refine T_v1 29 (aX 97 (vp (some (b.add 2))) (vi (zY (Int.tdiv ra 64)))) (vp (some ((b.add 2).add (Int.toNat (zY (Int.tdiv ra 64))*1)))) (λw _=>bJ (P:=Tryz.prog) (t:=97) (elem:=3) (sz:=1) (n:=1024) (a:=(b.add 2)) (k:=.i64) (i:=(zY (Int.tdiv ra 64))) Tryz.underlying97 (λ_=>by kernel_rfl) q7.1 q7.2 w) [26,28] ?_
  obtain⟨e,q8,h⟩:=h
  exact T_l1 30 3 q8 [29]<| T_nr 3 [4] [.bool (e==1)] hQ h
 rw[if_neg c3]at h
 exact N_bd 18 (zZ c3)<| T_nr 15 [4] [.bool false] hQ h
end cy

/-! (*moraine/trace.Trace).Weaks -/
namespace cG
def K0:=Func.code Tryz.f34
def K2:=cb K0
def K4:=cb K2
def K12:=cb K4
def K14:=cb K12
def K15:=ca K14
def K16:=cb K14
def K17:=ca K15
def K18:=cb K15
def K19:=ca K18
def K20:=ca K19
def K22:=cb K20
def K24:=cb K22
def K27:=ca K24
def K29:=ca K27
def K31:=cb K29
def K33:=cb K31
def K35:=cb K33
def K36:=ca K35
def K38:=ca K16
def K41:=cb K38
def K42:=ca K41
def K43:=ca K42
def K45:=cb K43
def K47:=cb K45
def K50:=ca K47
def K52:=ca K50
def K54:=cb K52
def K55:=ca K54
end cG
def cG.pt(tv:zW)(H:zV)(R:zj):Prop:=
 bF.C tv H (λv H1=> ∃x:Bool,v=.bool x/\
 if x=true then(
 R (.slice none 0 0) H1)
 else
 ∀(b:Nat) (H2:zV),b=H1.size->H2=H1.push (.cells #[.slice none 0 0] 79)->
 ∃e:Addr,tv=some e/\
 ∃cj:zW,hat H2 e=some (.pointer cj)/\
 ∃a9:Addr,cj=some a9/\
 ∃ci:zW,hat H2 a9=some (.pointer ci)/\
 ∃a8:Addr,ci=some a8/\
 ∃cn:zW,hat H2 a8=some (.pointer cn)/\
 ∃a7:Addr,cn=some a7/\
 ∃bf:zW,hat H2 a7=some (.pointer bf)/\
 ∃b1:Int,hat H2 (e.add 1)=some (.int .i64 b1)/\
 ∀(b6:Nat) (H3:zV),b6=H2.size->H3=H2.push (.cells #[.int .i64 b1] 3)->aT H3 e 0 [.pointer (some a9)]/\aT H3 a9 0 [.pointer (some a8)]/\aT H3 a8 0 [.pointer (some a7)]/\aT H3 a7 0 [.pointer bf]/\
 cz.C bf (some (ad b6)) 1 1 H3 (λcp H4=> ∃(xB:zW) (xN xC:Nat),cp=.slice xB xN xC/\
 ∃(b3:zk) (m21:Int->zV->Nat),b3 0 H4/\ ∀(m:Int) (H5:zV),b3 m H5->
 if m< (xN:Int)then(
 ∃ae:Addr,xB=some ae/\
 zv m xN/\
 ∃o:Int,hat H5 (ae.add (Int.toNat m*1))=some (.int .i64 o)/\
 ∃b8:zW,hat H5 e=some (.pointer b8)/\
 ∃b9:Addr,b8=some b9/\
 ∃b7:zW,hat H5 b9=some (.pointer b7)/\
 ∃cc:Addr,b7=some cc/\
 ∃b5:zW,hat H5 cc=some (.pointer b5)/\
 ∃b4:Addr,b5=some b4/\
 ∃bt:zW,hat H5 b4=some (.pointer bt)/\
 bE.C bt o H5 (λcr H6=> ∃(bb ay bx an ao al am:Int) (rb:Bool),cr=.tuple #[.agg #[.int .i64 bb,.int .i64 ay,.int .i64 bx,.int .i64 an,.int .i64 ao,.int .i64 al,.int .i64 am],.bool rb]/\
 ∀(ah:Nat) (H7:zV),ah=H6.size->H7=H6.push (.cells #[.int .i64 0,.int .i64 0,.int .i64 0,.int .i64 0,.int .i64 0,.int .i64 0,.int .i64 0] 102)->
 (aK H7 (ad ah) 0 7)/\ ∀H8,H8=aS H7 (ad ah) [.int .i64 bb,.int .i64 ay,.int .i64 bx,.int .i64 an,.int .i64 ao,.int .i64 al,.int .i64 am] 0->
 ∃bm:Int,hat H8 ((ad ah).add 1)=some (.int .i64 bm)/\
 if bm=1 then(
 zv o 1024/\
 ∃bl:Int,hat H8 ((e.add 2).add (Int.toNat o*1))=some (.int .i64 bl)/\
 if bl=0 then(
 ∃bi:Option Nat,hat H8 (e.add 1026)=some (.map bi)/\
 ∃bj:Int,hat H8 ((ad ah).add 2)=some (.int .i64 bj)/\
 ∃mr:Nat,bi=some mr/\
 ∃(es:Array MapEntry) (cl:Nat) (ks:List (Int×Value)),H8[mr]?=some (.map es cl)/\Ents (cV .i64) es.toList ks/\
 ∃bz:Int,(mget ks o).getD (.int .i64 0)=.int .i64 bz/\
 aT H8 ((ad ah).add 2) 0 [.int .i64 bj]/\bD.C o bz bj (some (ad b)) H8 (λ_ H9=>
 (b3 (zY (m+1)) H9/\m21 (zY (m+1)) H9<m21 m H5)))
 else
 (b3 (zY (m+1)) H8/\m21 (zY (m+1)) H8<m21 m H5))
 else
 (b3 (zY (m+1)) H8/\m21 (zY (m+1)) H8<m21 m H5)))
 else
 ∃(a5:zW) (d f:Nat),hat H5 (e.add 1028)=some (.slice a5 d f)/\
 ∃(b0:zk) (m44:Int->zV->Nat),b0 0 H5/\ ∀(g:Int) (H10:zV),b0 g H10->
 if g< (d:Int)then(
 ∃j:Addr,a5=some j/\
 zv g d/\
 ∃bk ba:Int,aT H10 (j.add (Int.toNat g*2)) 0 [.int .i64 bk,.int .i64 ba]/\
 ∀(l:Nat) (H11:zV),l=H10.size->H11=H10.push (.cells #[.int .i64 0,.int .i64 0] 121)->
 (aK H11 (ad l) 0 2)/\ ∀bq,bq=aS H11 (ad l) [.int .i64 bk,.int .i64 ba] 0->
 ∃cg:zW,hat bq e=some (.pointer cg)/\
 ∃aw:Addr,cg=some aw/\
 ∃cd:zW,hat bq aw=some (.pointer cd)/\
 ∃ax:Addr,cd=some ax/\
 ∃ce:zW,hat bq ax=some (.pointer ce)/\
 ∃av:Addr,ce=some av/\
 ∃a0:zW,hat bq av=some (.pointer a0)/\
 ∃be:Int,hat bq (ad l)=some (.int .i64 be)/\
 (
 bE.C a0 be bq (λcs cm=> ∃(ai af ap s q p r:Int) (az:Bool),cs=.tuple #[.agg #[.int .i64 ai,.int .i64 af,.int .i64 ap,.int .i64 s,.int .i64 q,.int .i64 p,.int .i64 r],.bool az]/\
 ∀(aq:Nat) (H14:zV),aq=cm.size->H14=cm.push (.cells #[.int .i64 0,.int .i64 0,.int .i64 0,.int .i64 0,.int .i64 0,.int .i64 0,.int .i64 0] 102)->
 (aK H14 (ad aq) 0 7)/\ ∀br,br=aS H14 (ad aq) [.int .i64 ai,.int .i64 af,.int .i64 ap,.int .i64 s,.int .i64 q,.int .i64 p,.int .i64 r] 0->
 ∃bo:Int,hat br ((ad aq).add 1)=some (.int .i64 bo)/\
 if bo=1 then(
 ∃a1:Int,hat br (ad l)=some (.int .i64 a1)/\
 ∃bc:Int,hat br ((ad l).add 1)=some (.int .i64 bc)/\
 ∃a4:Int,hat br ((ad aq).add 2)=some (.int .i64 a4)/\
 ∃bh:Int,hat br ((ad l).add 1)=some (.int .i64 bh)/\
 bD.C a1 (zY (bc*16)) (if(zY ((zY (bh+1))*16))<a4 then(zY ((zY (bh+1))*16))else a4) (some (ad b)) br (λ_ ck=>
 (b0 (zY (g+1)) ck/\m44 (zY (g+1)) ck<m44 g H10)))
 else
 (b0 (zY (g+1)) br/\m44 (zY (g+1)) br<m44 g H10)))/\(
 ∀(ak:Nat) (H17:zV),ak=bq.size->H17=bq.push (.cells #[.int .i64 0,.int .i64 0,.int .i64 0,.int .i64 0,.int .i64 0,.int .i64 0,.int .i64 0] 102)->aT H17 e 0 [.pointer (some aw)]/\aT H17 aw 0 [.pointer (some ax)]/\aT H17 ax 0 [.pointer (some av)]/\aT H17 av 0 [.pointer a0]/\aT H17 (ad l) 0 [.int .i64 be]/\
 bE.C a0 be H17 (λcq ch=> ∃(aj ag au y ac ab aa:Int) (a3:Bool),cq=.tuple #[.agg #[.int .i64 aj,.int .i64 ag,.int .i64 au,.int .i64 y,.int .i64 ac,.int .i64 ab,.int .i64 aa],.bool a3]/\
 (aK ch (ad ak) 0 7)/\ ∀bp,bp=aS ch (ad ak) [.int .i64 aj,.int .i64 ag,.int .i64 au,.int .i64 y,.int .i64 ac,.int .i64 ab,.int .i64 aa] 0->
 ∃bn:Int,hat bp ((ad ak).add 1)=some (.int .i64 bn)/\
 if bn=1 then(
 ∃a2:Int,hat bp (ad l)=some (.int .i64 a2)/\
 ∃bd:Int,hat bp ((ad l).add 1)=some (.int .i64 bd)/\
 ∃a6:Int,hat bp ((ad ak).add 2)=some (.int .i64 a6)/\
 ∃bg:Int,hat bp ((ad l).add 1)=some (.int .i64 bg)/\
 bD.C a2 (zY (bd*16)) (if(zY ((zY (bg+1))*16))<a6 then(zY ((zY (bg+1))*16))else a6) (some (ad b)) bp (λ_ co=>
 (b0 (zY (g+1)) co/\m44 (zY (g+1)) co<m44 g H10)))
 else
 (b0 (zY (g+1)) bp/\m44 (zY (g+1)) bp<m44 g H10))))
 else
 ∃(bw:zW) (bu bs:Nat),hat H10 (ad b)=some (.slice bw bu bs)/\
 R (.slice bw bu bs) H10))
namespace cG
theorem link{tv:zW}{H:zV}{R:zj}(h:pt tv H R):C tv H R:=by
 refine T_en K0 129 Tryz.func34 ?_
 intro w0 Q hQ
 unfold pt zY at h
 refine T_su [(0,vp tv)]<| ar 0<| T_ed 1 [] []<| T_sz<| ar 1<| T_nd 1 [] [(13,vp tv)]<| T_c (some 14) h ?_;clear h
 rintro v H1 ⟨x,rfl,h⟩
 refine T_pd [13] [(14,.bool x)]<| T_e ?_
 by_cases c1:x=true
 ·rw[if_pos c1]at h
  exact aI 14 c1<| ar 2<| T_nr 1 [2] [vs none 0 0] hQ h
 rw[if_neg c1]at h
 refine aJ 14 (zZ c1)<| T_kt<| ar 3<| T_ud [14] []<| T_nw (some 3) (λb=>vp (pa b)) (.cells #[vs none 0 0] 79) ?_
 intro b H2 e3 e4
 replace h:=h b H2 e3 e4
 refine T_pd [] [(3,vp (pa b))]<| T_e<| ar 4<| T_ed 2 [] [(4,.func (.func 71) #[] #[vp (pa b)])]<| T_sz<| T_sz ?_
 obtain⟨e,rfl,cj,q5,a9,rfl,ci,q6,a8,rfl,cn,q7,a7,rfl,bf,q8,b1,q9,h⟩:=h
 refine yW 5 (Code.ops K17) [(18,e,[vp (some a9)]),(18,a9,[vp (some a8)]),(18,a8,[vp (some a7)]),(18,a7,[vp bf]),(17,(e.add 1),[vi b1])] 21 (bv 21 0) (show aG _ _ _ from⟨⟨q5,trivial⟩,⟨q6,trivial⟩,⟨q7,trivial⟩,⟨q8,trivial⟩,⟨q9,trivial⟩,trivial⟩)<| T_gp 0 (some 16) (vp (some e)) (bv 21 1) [(0,vp (some e)),(3,vp (pa b)),(4,.func (.func 71) #[] #[vp (pa b)]),(16,vp (some e))]<| aF 1 17 (vp (some e)) (bv 21 3) [16]<| aF 2 18 (vp (some e)) (bv 21 7) [17]<| T_g1 3 19 (vp (some a9)) (bv 21 15) [18] (aP 23 (vp (some e))) (yV 18 zw)<| aF 4 20 (vp (some a9)) (bv 21 31) [19]<| aF 5 21 (vp (some a9)) (bv 21 63) [20]<| T_g1 6 22 (vp (some a8)) (bv 21 127) [21] (aP 53 (vp (some a9))) (yV 18 yZ)<| aF 7 23 (vp (some a8)) (bv 21 255) [22]<| aF 8 24 (vp (some a8)) (bv 21 511) [23]<| T_g1 9 25 (vp (some a7)) (bv 21 1023) [24] (aP 56 (vp (some a8))) (yV 18 yX)<| aF 10 26 (vp (some a7)) (bv 21 2047) [25]<| aF 11 27 (vp (some a7)) (bv 21 4095) [26]<| T_g1 12 28 (vp bf) (bv 21 8191) [27] (aP 82 (vp (some a7))) (yV 18 yQ)<| aF 13 29 (vp (some e)) (bv 21 16383) []<| aF 14 30 (vp (some e)) (bv 21 32767) [29]<| aF 15 31 (vp (some (e.add 1))) (bv 21 65535) [30]<| T_g1 16 32 (vi b1) (bv 21 131071) [31] (aP 3 (vp (some (e.add 1)))) (yV 17 yJ)<| aF 20 36 (vi 0) (bv 21 1179647) []<| mw 17 (some 33) (bv 21 1310719) (λb=>vs (pa b) 1 1) (.cells #[vi b1] 3) (by kernel_rfl) (λ_=>by kernel_rfl) (by kernel_rfl) ?_
 intro b6 H3 e14 e15
 replace h:=h b6 H3 e14 e15
 obtain⟨f10,f11,f12,f13,h⟩:=h
 refine⟨[(0,vp (some e)),(3,vp (pa b)),(4,.func (.func 71) #[] #[vp (pa b)]),(28,vp bf),(33,vs (pa b6) 1 1),(36,vi 0)],pk,(show aG _ _ _ from⟨f10,f11,f12,f13,trivial,trivial⟩),?_⟩
 refine yY 18 (some 34) (bv 21 1572863) 41 #[vp bf,vs (pa b6) 1 1] h ?_;clear h
 rintro cp H4 ⟨xB,xN,xC,rfl,h⟩
 refine⟨[(0,vp (some e)),(3,vp (pa b)),(4,.func (.func 71) #[] #[vp (pa b)]),(34,vs xB xN xC),(36,vi 0)],pk,(show aG _ _ _ from⟨trivial,trivial,trivial,trivial,trivial,trivial⟩),?_⟩
 refine T_g 19 (some 35) (vi xN) (bv 21 2097151) [(0,vp (some e)),(3,vp (pa b)),(4,.func (.func 71) #[] #[vp (pa b)]),(34,vs xB xN xC),(35,vi xN),(36,vi 0)] (pure (.value (vi xN)):Sem Next) (λ_ _ _ _ _=>rfl)<| eV [(0,vp (some e)),(3,vp (pa b)),(4,.func (.func 71) #[] #[vp (pa b)]),(34,vs xB xN xC),(35,vi xN),(36,vi 0)] sk<| yq<| aE<| T_bz 0 ?_
 obtain⟨b3,m21,i16,i17⟩:=h
 refine de (x:=K20) (σ:=Int) (λs_=> [(0,vp (some e)),(3,vp (pa b)),(4,.func (.func 71) #[] #[vp (pa b)]),(34,vs xB xN xC),(35,vi xN),(36,vi s_)]) (λs_ H=>b3 s_ H) (λs_ H=>m21 s_ H) (0:Int) (by kernel_rfl) i16 sk ?_
 rintro m H5 i18
 have h:=i17 m H5 i18
 refine T_su [(0,vp (some e)),(3,vp (pa b)),(4,.func (.func 71) #[] #[vp (pa b)]),(34,vs xB xN xC),(35,vi xN),(36,vi m)]<| ar 6<| T_ed 1 [] [(37,.bool (decide (m< (xN:Int))))]<| T_sz ?_
 by_cases c19:m< (xN:Int)
 ·rw[if_pos c19]at h
  refine aI 37 (zX c19)<| T_kt<| T_sz<| T_bz 1<| ar 7<| T_ud [37] [] ?_
  obtain⟨ae,rfl,q21,h⟩:=h
  refine T_xd (some 38) 79 3 1 ae xN xC .i64 m Tryz.underlying79 q21.1 q21.2 [34] [(34,vs (some ae) xN xC),(38,vp (some (ae.add (Int.toNat m*1))))] ?_
  obtain⟨o,q22,h⟩:=h
  refine T_l1 39 3 q22 [38]<| T_ed 1 [39] [(6,vi o)]<| ar 8<| T_nd 3 [] [(43,vp (some e))] ?_
  obtain⟨b8,q23,h⟩:=h
  refine T_l1 44 23 q23 [43] ?_
  obtain⟨b9,rfl,h⟩:=h
  refine T_nd 2 [44] [(46,vp (some b9))] ?_
  obtain⟨b7,q24,h⟩:=h
  refine T_l1 47 53 q24 [46] ?_
  obtain⟨cc,rfl,h⟩:=h
  refine T_nd 2 [47] [(49,vp (some cc))] ?_
  obtain⟨b5,q25,h⟩:=h
  refine T_l1 50 56 q25 [49] ?_
  obtain⟨b4,rfl,h⟩:=h
  refine T_nd 2 [50] [(52,vp (some b4))] ?_
  obtain⟨bt,q26,h⟩:=h
  refine T_l1 53 82 q26 [52]<| T_nd 1 [] [(54,vi o)]<| T_c (some 55) h ?_;clear h
  rintro cr H6 ⟨bb,ay,bx,an,ao,al,am,rb,rfl,h⟩
  refine T_pd [53,54] [(55,.tuple #[.agg #[vi bb,vi ay,vi bx,vi an,vi ao,vi al,vi am],.bool rb])]<| T_nd 3 [55] [(56,.agg #[vi bb,vi ay,vi bx,vi an,vi ao,vi al,vi am]),(57,.bool rb)]<| T_nw (some 7) (λb=>vp (pa b)) (.cells #[vi 0,vi 0,vi 0,vi 0,vi 0,vi 0,vi 0] 102) ?_
  intro ah H7 e27 e28
  replace h:=h ah H7 e27 e28
  refine T_pd [] [(7,vp (pa ah))] ?_
  obtain⟨q30,h⟩:=h
  refine fl 102 [vi bb,vi ay,vi bx,vi an,vi ao,vi al,vi am] q30 ?_
  intro H8 e29
  replace h:=h H8 e29
  refine T_pd [56] []<| T_ed 1 [57] []<| ar 9<| T_nd 1 [] [(58,vp (some ((ad ah).add 1)))] ?_
  obtain⟨bm,q31,h⟩:=h
  refine T_l1 59 3 q31 [58]<| T_nd 2 [59] [(61,.bool (bm==1))] ?_
  by_cases c32:bm=1
  ·rw[if_pos c32]at h
   refine N_bd 61 (zK c32)<| T_nd 4 [] [(63,vi o),(65,vp (some (e.add 2)))] ?_
   obtain⟨q34,h⟩:=h
   refine T_v1 66 (aX 97 (vp (some (e.add 2))) (vi o)) (vp (some ((e.add 2).add (Int.toNat o*1)))) (λw _=>bJ (P:=Tryz.prog) (t:=97) (elem:=3) (sz:=1) (n:=1024) (a:=(e.add 2)) (k:=.i64) (i:=o) Tryz.underlying97 (λ_=>by kernel_rfl) q34.1 q34.2 w) [63,65] ?_
   obtain⟨bl,q35,h⟩:=h
   refine T_l1 67 3 q35 [66]<| T_ed 2 [61,67] [(69,.bool (bl==0))] ?_
   by_cases c36:bl=0
   ·rw[if_pos c36]at h
    refine aI 69 (zK c36) ?_
    obtain⟨bi,q38,bj,q39,h⟩:=h
    refine yW 10 (Code.ops K36) [(7,(e.add 1026),[.map bi]),(10,((ad ah).add 2),[vi bj])] 11 (bv 11 0) (show aG _ _ _ from⟨⟨q38,trivial⟩,⟨q39,trivial⟩,trivial⟩)<| T_gp 0 (some 70) (.func (.func 71) #[] #[vp (pa b)]) (bv 11 1) [(0,vp (some e)),(3,vp (pa b)),(4,.func (.func 71) #[] #[vp (pa b)]),(6,vi o),(7,vp (pa ah)),(34,vs (some ae) xN xC),(35,vi xN),(36,vi m),(70,.func (.func 71) #[] #[vp (pa b)])]<| aF 1 71 (vi o) (bv 11 3) []<| aF 2 72 (vp (some e)) (bv 11 7) []<| aF 3 73 (vp (some e)) (bv 11 15) [72]<| aF 4 74 (vp (some (e.add 1026))) (bv 11 31) [73]<| T_g1 5 75 (.map bi) (bv 11 63) [74] (aP 96 (vp (some (e.add 1026)))) (yV 7 zw)<| aF 6 76 (vi o) (bv 11 127) [6]<| aF 8 78 (vp (some ((ad ah).add 2))) (bv 11 383) [7]<| T_g1 9 79 (vi bj) (bv 11 895) [78] (aP 3 (vp (some ((ad ah).add 2)))) (yV 10 yZ) ?_
    obtain⟨mr,rfl,es,cl,ks,q41,q42,bz,e44,h⟩:=h
    refine kK 7 (some 77) (bv 11 1023) (iy 96 (.map (some mr)) (vi o) false) (λu H1=>u=vi bz/\H1=H8) (by kernel_rfl) (λ_=>by kernel_rfl) (λw hw=>⟨_,w,(ij (kk:=(cV .i64)) (z:=vi 0) Tryz.underlying96 Tryz.underlying3 (λ_=>by kernel_rfl) (by rw[hw];exact q41) q42 false),Same.refl w,by simp only[Bool.false_eq_true,if_false,e44],hw⟩) (by kernel_rfl) ?_
    rintro _ _ ⟨rfl,rfl⟩
    obtain⟨f40,h⟩:=h
    refine⟨[(0,vp (some e)),(3,vp (pa b)),(4,.func (.func 71) #[] #[vp (pa b)]),(34,vs (some ae) xN xC),(35,vi xN),(36,vi m),(70,.func (.func 71) #[] #[vp (pa b)]),(71,vi o),(77,vi bz),(79,vi bj)],pk,(show aG _ _ _ from⟨trivial,f40,trivial⟩),?_⟩
    refine yY 10 (some 80) (bv 11 2047) 71 #[vi o,vi bz,vi bj,vp (pa b)] h ?_;clear h
    intro v_4 H9 h
    refine⟨[(0,vp (some e)),(3,vp (pa b)),(4,.func (.func 71) #[] #[vp (pa b)]),(34,vs (some ae) xN xC),(35,vi xN),(36,vi m)],pk,(show aG _ _ _ from⟨trivial,trivial,trivial⟩),?_⟩
    refine eV [(0,vp (some e)),(3,vp (pa b)),(4,.func (.func 71) #[] #[vp (pa b)]),(34,vs (some ae) xN xC),(35,vi xN),(36,vi m)] sk ?_
    exact yq<| aD<| aE<| T_rz 11<| T_ne 2 [(0,vp (some e)),(3,vp (pa b)),(4,.func (.func 71) #[] #[vp (pa b)]),(34,vs (some ae) xN xC),(35,vi xN),(36,vi (zY (m+1)))]<| aW ((zY (m+1)):Int) sk h
   rw[if_neg c36]at h
   exact aJ 69 (zJ c36)<| T_k<| aD<| aE<| T_rz 11<| T_ed 2 [6,7,36,69] [(36,vi (zY (m+1)))]<| aW ((zY (m+1)):Int) sk h
  rw[if_neg c32]at h
  refine N_bd 61 (zJ c32)<| T_ed 8 [61] [(69,.bool false)]<| T_fz 69<| T_k ?_
  exact aD<| aE<| T_rz 11<| T_ed 2 [6,7,36,69] [(36,vi (zY (m+1)))]<| aW ((zY (m+1)):Int) sk h
 rw[if_neg c19]at h
 refine aJ 37 (zQ c19)<| zz 0<| aA<| aA<| aO<| aE<| T_sz<| ar 12<| T_nd 3 [34,35,36,37] [(84,vp (some (e.add 1028)))] ?_
 obtain⟨a5,d,f,q45,h⟩:=h
 refine T_l1 85 98 q45 [84]<| T_ed 2 [] [(86,vi d),(87,vi 0)]<| T_bz 2 ?_
 obtain⟨b0,m44,i46,i47⟩:=h
 refine de (x:=K43) (σ:=Int) (λs_=> [(0,vp (some e)),(3,vp (pa b)),(4,.func (.func 71) #[] #[vp (pa b)]),(85,vs a5 d f),(86,vi d),(87,vi s_)]) (λs_ H=>b0 s_ H) (λs_ H=>m44 s_ H) (0:Int) (by kernel_rfl) i46 sk ?_
 rintro g H10 i48
 have h:=i47 g H10 i48
 refine T_su [(0,vp (some e)),(3,vp (pa b)),(4,.func (.func 71) #[] #[vp (pa b)]),(85,vs a5 d f),(86,vi d),(87,vi g)]<| ar 13<| T_ed 1 [] [(88,.bool (decide (g< (d:Int))))]<| T_sz ?_
 by_cases c49:g< (d:Int)
 ·rw[if_pos c49]at h
  refine aI 88 (zX c49)<| T_kt<| T_sz<| T_bz 3<| ar 14<| T_ud [88] [] ?_
  obtain⟨j,rfl,q51,h⟩:=h
  refine T_xd (some 89) 98 121 2 j d f .i64 g Tryz.underlying98 q51.1 q51.2 [85] [(85,vs (some j) d f),(89,vp (some (j.add (Int.toNat g*2))))] ?_
  obtain⟨bk,ba,q52,h⟩:=h
  refine T_lr 90 121 q52 [89]<| T_nw (some 10) (λb=>vp (pa b)) (.cells #[vi 0,vi 0] 121) ?_
  intro l H11 e53 e54
  replace h:=h l H11 e53 e54
  refine T_pd [] [(10,vp (pa l))] ?_
  obtain⟨q56,h⟩:=h
  refine fl 121 [vi bk,vi ba] q56 ?_
  intro bq e55
  replace h:=h bq e55
  refine T_pd [90] []<| T_e<| T_sz ?_
  obtain⟨cg,q57,aw,rfl,cd,q58,ax,rfl,ce,q59,av,rfl,a0,q60,be,q61,h⟩:=h
  refine yW 15 (Code.ops K55) [(15,e,[vp (some aw)]),(15,aw,[vp (some ax)]),(15,ax,[vp (some av)]),(15,av,[vp a0]),(15,(ad l),[vi be])] 22 (bv 22 0) (show aG _ _ _ from⟨⟨q57,trivial⟩,⟨q58,trivial⟩,⟨q59,trivial⟩,⟨q60,trivial⟩,⟨q61,trivial⟩,trivial⟩)<| T_gp 0 (some 92) (vp (some e)) (bv 22 1) [(0,vp (some e)),(3,vp (pa b)),(4,.func (.func 71) #[] #[vp (pa b)]),(10,vp (pa l)),(85,vs (some j) d f),(86,vi d),(87,vi g),(92,vp (some e))]<| aF 1 93 (vp (some e)) (bv 22 3) [92]<| aF 2 94 (vp (some e)) (bv 22 7) [93]<| T_g1 3 95 (vp (some aw)) (bv 22 15) [94] (aP 23 (vp (some e))) (yV 15 zw)<| aF 4 96 (vp (some aw)) (bv 22 31) [95]<| aF 5 97 (vp (some aw)) (bv 22 63) [96]<| T_g1 6 98 (vp (some ax)) (bv 22 127) [97] (aP 53 (vp (some aw))) (yV 15 yZ)<| aF 7 99 (vp (some ax)) (bv 22 255) [98]<| aF 8 100 (vp (some ax)) (bv 22 511) [99]<| T_g1 9 101 (vp (some av)) (bv 22 1023) [100] (aP 56 (vp (some ax))) (yV 15 yX)<| aF 10 102 (vp (some av)) (bv 22 2047) [101]<| aF 11 103 (vp (some av)) (bv 22 4095) [102]<| T_g1 12 104 (vp a0) (bv 22 8191) [103] (aP 82 (vp (some av))) (yV 15 yQ)<| aF 13 105 (vp (pa l)) (bv 22 16383) []<| T_g1 14 106 (vi be) (bv 22 32767) [105] (aP 3 (vp (pa l))) (yV 15 yJ) ?_
  refine oM 15 19 (by kernel_rfl) ?_ ?_
  ·replace h:=h.1
   refine oO 15 (some 107) (bv 22 65535) 43 #[vp a0,vi be] (by kernel_rfl) (λ_=>by kernel_rfl) h (by kernel_rfl) ?_;clear h
   rintro cs cm ⟨ai,af,ap,s,q,p,r,az,rfl,h⟩
   refine⟨[(0,vp (some e)),(3,vp (pa b)),(4,.func (.func 71) #[] #[vp (pa b)]),(10,vp (pa l)),(85,vs (some j) d f),(86,vi d),(87,vi g),(107,.tuple #[.agg #[vi ai,vi af,vi ap,vi s,vi q,vi p,vi r],.bool az])],pk,(show aG _ _ _ from⟨trivial,trivial,trivial,trivial,trivial,trivial⟩),?_⟩
   refine T_g 16 (some 91) (.tuple #[.agg #[vi ai,vi af,vi ap,vi s,vi q,vi p,vi r],.bool az]) (bv 22 131071) [(0,vp (some e)),(3,vp (pa b)),(4,.func (.func 71) #[] #[vp (pa b)]),(10,vp (pa l)),(85,vs (some j) d f),(86,vi d),(87,vi g),(91,.tuple #[.agg #[vi ai,vi af,vi ap,vi s,vi q,vi p,vi r],.bool az])] (pure (.value (.tuple #[.agg #[vi ai,vi af,vi ap,vi s,vi q,vi p,vi r],.bool az])):Sem Next) (λ_ _ _ _ _=>rfl)<| T_g1 17 108 (.agg #[vi ai,vi af,vi ap,vi s,vi q,vi p,vi r]) (bv 22 262143) [] (pure (.value (.agg #[vi ai,vi af,vi ap,vi s,vi q,vi p,vi r])):Sem Next) (λ_ _ _ _ _=>rfl)<| T_g1 18 109 (.bool az) (bv 22 524287) [91] (pure (.value (.bool az)):Sem Next) (λ_ _ _ _ _=>rfl)<| mw 19 (some 11) (bv 22 1048575) (λb=>vp (pa b)) (.cells #[vi 0,vi 0,vi 0,vi 0,vi 0,vi 0,vi 0] 102) (by kernel_rfl) (λ_=>by kernel_rfl) (by kernel_rfl) ?_
   intro aq H14 e62 e63
   replace h:=h aq H14 e62 e63
   refine⟨[(0,vp (some e)),(3,vp (pa b)),(4,.func (.func 71) #[] #[vp (pa b)]),(10,vp (pa l)),(11,vp (pa aq)),(85,vs (some j) d f),(86,vi d),(87,vi g),(108,.agg #[vi ai,vi af,vi ap,vi s,vi q,vi p,vi r]),(109,.bool az)],pk,(show aG _ _ _ from⟨trivial,trivial,trivial,trivial,trivial,trivial⟩),?_⟩
   obtain⟨q65,h⟩:=h
   refine fq 20 none (bv 22 2097151) (gd 102 (vp (pa aq)) (.agg #[vi ai,vi af,vi ap,vi s,vi q,vi p,vi r])) (λHz=>Hz=aS H14 (ad aq) [vi ai,vi af,vi ap,vi s,vi q,vi p,vi r] 0) (by kernel_rfl) (λ_=>by kernel_rfl) (gf [vi ai,vi af,vi ap,vi s,vi q,vi p,vi r] 7 (by kernel_rfl) (by kernel_rfl) (λ_=>by kernel_rfl) (by kernel_rfl) q65) (by kernel_rfl) ?_
   intro br e64
   replace h:=h br e64
   refine⟨[(0,vp (some e)),(3,vp (pa b)),(4,.func (.func 71) #[] #[vp (pa b)]),(10,vp (pa l)),(11,vp (pa aq)),(85,vs (some j) d f),(86,vi d),(87,vi g),(109,.bool az)],pk,(show aG _ _ _ from⟨trivial,trivial,trivial,trivial,trivial,trivial⟩),?_⟩
   refine T_g 21 (some 12) (.bool az) (bv 22 4194303) [(0,vp (some e)),(3,vp (pa b)),(4,.func (.func 71) #[] #[vp (pa b)]),(10,vp (pa l)),(11,vp (pa aq)),(85,vs (some j) d f),(86,vi d),(87,vi g)] (pure (.value (.bool az)):Sem Next) (λ_ _ _ _ _=>rfl)<| eV [(0,vp (some e)),(3,vp (pa b)),(4,.func (.func 71) #[] #[vp (pa b)]),(10,vp (pa l)),(11,vp (pa aq)),(85,vs (some j) d f),(86,vi d),(87,vi g)] sk<| yq<| aE<| ar 16<| T_n 1 [(0,vp (some e)),(3,vp (pa b)),(4,.func (.func 71) #[] #[vp (pa b)]),(10,vp (pa l)),(11,vp (pa aq)),(85,vs (some j) d f),(86,vi d),(87,vi g),(110,vp (some ((ad aq).add 1)))] ?_
   obtain⟨bo,q66,h⟩:=h
   refine T_l1 111 3 q66 [110]<| T_ed 1 [111] [(112,.bool (bo==1))] ?_
   by_cases c67:bo=1
   ·rw[if_pos c67]at h
    refine aI 112 (zK c67)<| T_rz 17<| T_nd 2 [112] [(113,.func (.func 71) #[] #[vp (pa b)]),(114,vp (pa l))] ?_
    obtain⟨a1,q69,h⟩:=h
    refine T_l1 115 3 q69 [114]<| T_nd 1 [] [(116,vp (some ((ad l).add 1)))] ?_
    obtain⟨bc,q70,h⟩:=h
    refine T_l1 117 3 q70 [116]<| T_nd 2 [11,117] [(118,vi (zY (bc*16))),(119,vp (some ((ad aq).add 2)))] ?_
    obtain⟨a4,q71,h⟩:=h
    refine T_l1 120 3 q71 [119]<| T_nd 1 [10] [(121,vp (some ((ad l).add 1)))] ?_
    obtain⟨bh,q72,h⟩:=h
    refine T_l1 122 3 q72 [121]<| T_nd 3 [120,122] [(125,vi (if(zY ((zY (bh+1))*16))<a4 then(zY ((zY (bh+1))*16))else a4))]<| T_c (some 126) h ?_;clear h
    intro v_6 ck h
    exact T_pd [113,115,118,125] []<| zq<| aD<| aE<| T_rz 18<| T_ed 2 [87] [(87,vi (zY (g+1)))]<| aW ((zY (g+1)):Int) sk h
   rw[if_neg c67]at h
   exact aJ 112 (zJ c67)<| T_k<| aD<| aE<| T_rz 18<| T_ed 2 [10,11,87,112] [(87,vi (zY (g+1)))]<| aW ((zY (g+1)):Int) sk h
  replace h:=h.2
  refine ph 19 (some 11) (bv 22 557055) (λb=>vp (pa b)) (.cells #[vi 0,vi 0,vi 0,vi 0,vi 0,vi 0,vi 0] 102) (by kernel_rfl) (λ_=>by kernel_rfl) (by kernel_rfl) ?_
  intro ak H17 e78 e79
  replace h:=h ak H17 e78 e79
  obtain⟨f73,f74,f75,f76,f77,h⟩:=h
  refine⟨[(0,vp (some e)),(3,vp (pa b)),(4,.func (.func 71) #[] #[vp (pa b)]),(10,vp (pa l)),(11,vp (pa ak)),(85,vs (some j) d f),(86,vi d),(87,vi g),(104,vp a0),(106,vi be)],pk,(show aG _ _ _ from⟨f73,f74,f75,f76,f77,trivial⟩),?_⟩
  refine yY 15 (some 107) (bv 22 589823) 43 #[vp a0,vi be] h ?_;clear h
  rintro cq ch ⟨aj,ag,au,y,ac,ab,aa,a3,rfl,h⟩
  refine⟨[(0,vp (some e)),(3,vp (pa b)),(4,.func (.func 71) #[] #[vp (pa b)]),(10,vp (pa l)),(11,vp (pa ak)),(85,vs (some j) d f),(86,vi d),(87,vi g),(107,.tuple #[.agg #[vi aj,vi ag,vi au,vi y,vi ac,vi ab,vi aa],.bool a3])],pk,(show aG _ _ _ from⟨trivial,trivial,trivial,trivial,trivial,trivial⟩),?_⟩
  refine T_g 16 (some 91) (.tuple #[.agg #[vi aj,vi ag,vi au,vi y,vi ac,vi ab,vi aa],.bool a3]) (bv 22 655359) [(0,vp (some e)),(3,vp (pa b)),(4,.func (.func 71) #[] #[vp (pa b)]),(10,vp (pa l)),(11,vp (pa ak)),(85,vs (some j) d f),(86,vi d),(87,vi g),(91,.tuple #[.agg #[vi aj,vi ag,vi au,vi y,vi ac,vi ab,vi aa],.bool a3])] (pure (.value (.tuple #[.agg #[vi aj,vi ag,vi au,vi y,vi ac,vi ab,vi aa],.bool a3])):Sem Next) (λ_ _ _ _ _=>rfl)<| T_g1 17 108 (.agg #[vi aj,vi ag,vi au,vi y,vi ac,vi ab,vi aa]) (bv 22 786431) [] (pure (.value (.agg #[vi aj,vi ag,vi au,vi y,vi ac,vi ab,vi aa])):Sem Next) (λ_ _ _ _ _=>rfl)<| T_g1 18 109 (.bool a3) (bv 22 1048575) [91] (pure (.value (.bool a3)):Sem Next) (λ_ _ _ _ _=>rfl) ?_
  obtain⟨q81,h⟩:=h
  refine fq 20 none (bv 22 2097151) (gd 102 (vp (pa ak)) (.agg #[vi aj,vi ag,vi au,vi y,vi ac,vi ab,vi aa])) (λHz=>Hz=aS ch (ad ak) [vi aj,vi ag,vi au,vi y,vi ac,vi ab,vi aa] 0) (by kernel_rfl) (λ_=>by kernel_rfl) (gf [vi aj,vi ag,vi au,vi y,vi ac,vi ab,vi aa] 7 (by kernel_rfl) (by kernel_rfl) (λ_=>by kernel_rfl) (by kernel_rfl) q81) (by kernel_rfl) ?_
  intro bp e80
  replace h:=h bp e80
  refine⟨[(0,vp (some e)),(3,vp (pa b)),(4,.func (.func 71) #[] #[vp (pa b)]),(10,vp (pa l)),(11,vp (pa ak)),(85,vs (some j) d f),(86,vi d),(87,vi g),(109,.bool a3)],pk,(show aG _ _ _ from⟨trivial,trivial,trivial,trivial,trivial,trivial⟩),?_⟩
  refine T_g 21 (some 12) (.bool a3) (bv 22 4194303) [(0,vp (some e)),(3,vp (pa b)),(4,.func (.func 71) #[] #[vp (pa b)]),(10,vp (pa l)),(11,vp (pa ak)),(85,vs (some j) d f),(86,vi d),(87,vi g)] (pure (.value (.bool a3)):Sem Next) (λ_ _ _ _ _=>rfl)<| eV [(0,vp (some e)),(3,vp (pa b)),(4,.func (.func 71) #[] #[vp (pa b)]),(10,vp (pa l)),(11,vp (pa ak)),(85,vs (some j) d f),(86,vi d),(87,vi g)] sk<| yq<| aE<| ar 16<| T_n 1 [(0,vp (some e)),(3,vp (pa b)),(4,.func (.func 71) #[] #[vp (pa b)]),(10,vp (pa l)),(11,vp (pa ak)),(85,vs (some j) d f),(86,vi d),(87,vi g),(110,vp (some ((ad ak).add 1)))] ?_
  obtain⟨bn,q82,h⟩:=h
  refine T_l1 111 3 q82 [110]<| T_ed 1 [111] [(112,.bool (bn==1))] ?_
  by_cases c83:bn=1
  ·rw[if_pos c83]at h
   refine aI 112 (zK c83)<| T_rz 17<| T_nd 2 [112] [(113,.func (.func 71) #[] #[vp (pa b)]),(114,vp (pa l))] ?_
   obtain⟨a2,q85,h⟩:=h
   refine T_l1 115 3 q85 [114]<| T_nd 1 [] [(116,vp (some ((ad l).add 1)))] ?_
   obtain⟨bd,q86,h⟩:=h
   refine T_l1 117 3 q86 [116]<| T_nd 2 [11,117] [(118,vi (zY (bd*16))),(119,vp (some ((ad ak).add 2)))] ?_
   obtain⟨a6,q87,h⟩:=h
   refine T_l1 120 3 q87 [119]<| T_nd 1 [10] [(121,vp (some ((ad l).add 1)))] ?_
   obtain⟨bg,q88,h⟩:=h
   refine T_l1 122 3 q88 [121]<| T_nd 3 [120,122] [(125,vi (if(zY ((zY (bg+1))*16))<a6 then(zY ((zY (bg+1))*16))else a6))]<| T_c (some 126) h ?_;clear h
   intro v_8 co h
   exact T_pd [113,115,118,125] []<| zq<| aD<| aE<| T_rz 18<| T_ed 2 [87] [(87,vi (zY (g+1)))]<| aW ((zY (g+1)):Int) sk h
  rw[if_neg c83]at h
  exact aJ 112 (zJ c83)<| T_k<| aD<| aE<| T_rz 18<| T_ed 2 [10,11,87,112] [(87,vi (zY (g+1)))]<| aW ((zY (g+1)):Int) sk h
 rw[if_neg c49]at h
 refine aJ 88 (zQ c49)<| zz 2<| aA<| aA<| aO<| aE<| ar 19<| T_nu [(3,vp (pa b))] ?_
 obtain⟨bw,bu,bs,q89,h⟩:=h
 exact T_l1 128 79 q89 [3]<| T_nr 1 [2] [vs bw bu bs] hQ h
end cG

/-! (*moraine/trace.Trace).moved -/
namespace bX
def K0:=Func.code Tryz.f46
end bX
def bX.pt(tv:zW)(wv:Int)(H:zV)(R:zj):Prop:=
 dV.C wv H (λv H1=> ∃(ra:Int) (rb:Bool),v=.tuple #[.int .i64 ra,.bool rb]/\
 ∃k:Addr,tv=some k/\
 ∃x:zW,hat H1 k=some (.pointer x)/\
 ∃xA:Addr,x=some xA/\
 ∃l:zW,hat H1 xA=some (.pointer l)/\
 ∃o:Addr,l=some o/\
 ∃m:zW,hat H1 o=some (.pointer m)/\
 ∃n:Addr,m=some n/\
 ∃i:zW,hat H1 n=some (.pointer i)/\
 bQ.C i ra H1 (λu H2=> ∃b e:Int,u=.tuple #[.int .u64 b,.int .i64 e]/\
 dV.C b H2 (λr H3=> ∃(a:Int) (d:Bool),r=.tuple #[.int .i64 a,.bool d]/\
 if e=0 then(
 if d=true then(
 dQ.C b H3 (λs H4=> ∃g:Int,s=.int .i64 g/\
 if g=6 then(
 dQ.C wv H4 (λt H5=> ∃j:Int,t=.int .i64 j/\
 fe.C j a H5 (λq H6=> ∃f p:Int,q=.tuple #[.int .u64 f,.int .i64 p]/\
 R (.tuple #[.int .u64 f,.bool true]) H6)))
 else
 R (.tuple #[.int .u64 wv,.bool false]) H4))
 else
 R (.tuple #[.int .u64 wv,.bool false]) H3)
 else
 R (.tuple #[.int .u64 wv,.bool false]) H3)))
namespace bX
theorem link{tv:zW}{wv:Int}{H:zV}{R:zj}(h:pt tv wv H R):C tv wv H R:=by
 refine T_en K0 62 Tryz.func46 ?_
 intro w0 Q hQ
 unfold pt at h
 refine T_su [(0,vp tv),(1,vu wv)]<| ar 0<| T_ed 2 [] []<| ar 1<| T_nd 1 [] [(15,vu wv)]<| T_c (some 16) h ?_;clear h
 rintro v H1 ⟨ra,rb,rfl,h⟩
 refine T_pd [15] [(16,.tuple #[vi ra,.bool rb])]<| T_ed 5 [16] [(6,vi ra)]<| ar 2<| T_nd 1 [0] [(20,vp tv)] ?_
 obtain⟨k,rfl,h⟩:=h
 refine T_nd 2 [20] [(22,vp (some k))] ?_
 obtain⟨x,q1,h⟩:=h
 refine T_l1 23 23 q1 [22] ?_
 obtain⟨xA,rfl,h⟩:=h
 refine T_nd 2 [23] [(25,vp (some xA))] ?_
 obtain⟨l,q2,h⟩:=h
 refine T_l1 26 53 q2 [25] ?_
 obtain⟨o,rfl,h⟩:=h
 refine T_nd 2 [26] [(28,vp (some o))] ?_
 obtain⟨m,q3,h⟩:=h
 refine T_l1 29 56 q3 [28] ?_
 obtain⟨n,rfl,h⟩:=h
 refine T_nd 2 [29] [(31,vp (some n))] ?_
 obtain⟨i,q4,h⟩:=h
 refine T_l1 32 82 q4 [31]<| T_nd 1 [6] [(33,vi ra)]<| T_c (some 34) h ?_;clear h
 rintro u H2 ⟨b,e,rfl,h⟩
 refine T_pd [32,33] [(34,.tuple #[vu b,vi e])]<| T_ed 5 [34] [(8,vu b),(9,vi e)]<| ar 3<| T_nd 1 [] [(38,vu b)]<| T_c (some 39) h ?_;clear h
 rintro r H3 ⟨a,d,rfl,h⟩
 refine T_pd [38] [(39,.tuple #[vi a,.bool d])]<| T_ed 5 [39] [(10,vi a),(11,.bool d)]<| T_sz<| ar 4<| T_nd 3 [9] [(44,.bool (e !=0))] ?_
 by_cases c5:e=0
 ·rw[if_pos c5]at h
  refine N_bd 44 (bne_eq_false_iff_eq.mpr c5)<| T_nd 4 [11,44] [(48,.bool (!d))] ?_
  by_cases c7:d=true
  ·rw[if_pos c7]at h
   have b8:(!d)=false:=congrArg Bool.not (c7)
   have b82:d=true:=c7
   refine N_bd 48 (b:=(!d)) (v:=false) (by simp only[b8,b82,Bool.not_true,Bool.not_false]) ?_
   clear b8 b82
   refine T_nd 1 [8] [(49,vu b)]<| T_c (some 50) h ?_;clear h
   rintro s H4 ⟨g,rfl,h⟩
   refine T_pd [49] [(50,vi g)]<| T_ed 2 [48,50] [(52,.bool (g !=6))] ?_
   by_cases c9:g=6
   ·rw[if_pos c9]at h
    refine aJ 52 (bne_eq_false_iff_eq.mpr c9)<| T_kt<| ar 6<| T_nd 1 [1,52] [(55,vu wv)]<| T_c (some 56) h ?_;clear h
    rintro t H5 ⟨j,rfl,h⟩
    refine T_pd [55] [(56,vi j)]<| T_nd 1 [10] [(57,vi a)]<| T_c (some 58) h ?_;clear h
    rintro q H6 ⟨f,p,rfl,h⟩
    refine⟨[(58,.tuple #[vu f,vi p])],pk,?_⟩
    exact T_ne 5 [(12,vu f)]<| ar 7<| T_nr 3 [4,5] [vu f,.bool true] hQ h
   rw[if_neg c9]at h
   exact aI 52 (bne_iff_ne.mpr c9)<| ar 5<| T_nr 3 [4,5] [vu wv,.bool false] hQ h
  rw[if_neg c7]at h
  have b8:(!d)=true:=congrArg Bool.not (zZ c7)
  have b82:d=false:=zZ c7
  refine N_bd 48 (b:=(!d)) (v:=true) (by simp only[b8,b82,Bool.not_true,Bool.not_false]) ?_
  clear b8 b82
  exact T_ed 4 [8,48] [(52,.bool true)]<| T_tz 52<| ar 5<| T_nr 3 [4,5] [vu wv,.bool false] hQ h
 rw[if_neg c5]at h
 exact N_bd 44 (bne_iff_ne.mpr c5)<| T_ed 8 [8,11,44] [(52,.bool true)]<| T_tz 52<| ar 5<| T_nr 3 [4,5] [vu wv,.bool false] hQ h
end bX

/-! (*moraine/trace.Trace).none -/
namespace bF
def K0:=Func.code Tryz.f53
end bF
def bF.pt(tv:zW)(H:zV)(R:zj):Prop:=
 ei tv (
 R (.bool true) H) (λa=>
 ∃x:zW,hat H a=some (.pointer x)/\
 ei x (
 R (.bool true) H) (λxA=>
 ∃b:Int,hat H (a.add 1029)=some (.int .i64 b)/\
 R (.bool (b==1)) H))
namespace bF
theorem link{tv:zW}{H:zV}{R:zj}(h:pt tv H R):C tv H R:=by
 refine T_en K0 19 Tryz.func53 ?_
 intro w0 Q hQ
 unfold pt at h
 refine T_su [(0,vp tv)]<| ar 0<| T_ed 1 [] []<| ar 1<| T_nd 1 [] [(3,vp tv)] ?_
 rcases tv with _ | a
 ·rw[onPtr_none]at h
  exact T_nr 16 [2] [.bool true] hQ h
 rw[onPtr_some]at h
 refine T_n 5 [(0,vp (some a)),(5,.bool false),(8,vp (some a))] ?_
 obtain⟨x,q1,h⟩:=h
 refine T_l1 9 23 q1 [8] ?_
 rcases x with _ | xA
 ·rw[onPtr_none]at h
  exact T_nr 10 [2] [.bool true] hQ h
 rw[onPtr_some]at h
 refine T_n 6 [(12,.bool false),(15,vp (some (a.add 1029)))] ?_
 obtain⟨b,q2,h⟩:=h
 exact T_l1 16 3 q2 [15]<| T_nr 3 [2] [.bool (b==1)] hQ h
end bF

