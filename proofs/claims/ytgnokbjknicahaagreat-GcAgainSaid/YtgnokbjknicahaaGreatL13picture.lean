/- Printed: what each function asks, and that it is sound. -/
import Derived.Test.YtgnokbjknicahaaGreatFnsC
set_option linter.unusedSimpArgs false
set_option linter.unusedVariables false
set_option maxRecDepth 100000
set_option maxHeartbeats 1000000
noncomputable section
namespace Go.Proofs.YtgnokbjknicahaaGreat
open Go
/-! moraine/morainelaw13.picture -/
namespace morainelaw13_picture
def K0:=Func.code Tryz.f19
def K2:=cb K0
def K4:=cb K2
def K6:=cb K4
def K8:=cb K6
def K9:=ca K8
def K10:=cb K8
def K12:=cb K9
def K13:=ca K12
def K14:=ca K13
def K16:=cb K14
def K21:=ca K16
def K23:=ca K21
def K25:=cb K10
def K26:=ca K25
def K29:=cb K26
def K30:=ca K29
def K31:=ca K30
def K33:=cb K31
def K38:=ca K33
def K40:=ca K38
def K42:=cb K40
def K44:=cb K42
def K45:=ca K44
def K48:=cb K45
def K49:=ca K48
def K50:=ca K49
end morainelaw13_picture
def morainelaw13_picture.pt(hv r:zW)(o p:Nat)(g:Int)(d:Bool)(H:zV)(R:Value->zV->Prop):Prop:=
 morainelaw13_strong.C hv r o p g H (λv H1=> ∃(de:zW) (dc df:Nat) (rb:Option Nat),v=.tuple #[.slice de dc df,.map rb]/\
 ∀(b:Nat) (H2:zV),b=H1.size->H2=H1.push (.map #[] 0)->
 ∀(j:Nat) (H3:zV),j=H2.size->H3=H2.push (.cells #[.pointer hv,.slice none 0 0,.map (some b)] 102)->
 ∀(u:Nat) (H4:zV),u=H3.size->H4=H3.push (.cells #[.int .u64 0,.slice none 0 0,.slice none 0 0] 104)->
 (CanPuts H4 (ad u) 0 3)/\ ∀H5,H5=hputs H4 (ad u) [.int .u64 0,.slice none 0 0,.slice none 0 0] 0->
 ∃(c0:Int->zV->Prop) (m15:Int->zV->Nat),c0 0 H5/\ ∀(i:Int) (H6:zV),c0 i H6->
 if i< (o:Int)then(
 ∃(xB:zW) (xN xC:Nat),hat H6 ((ad u).add 2)=some (.slice xB xN xC)/\
 ∃q:Addr,r=some q/\
 ((0:Int)<=i/\i< (o:Int))/\
 ∃x:Int,hat H6 (q.add (Int.toNat i*1))=some (.int .u64 x)/\
 morainelaw13_walk_of.C (some (ad j)) x H6 (λdm H7=> ∃cy:Int,dm=.int .i64 cy/\RowAt H7 ((ad u).add 2) 0 [.slice xB xN xC]/\
 ∀(cm:Nat) (H8:zV),cm=H7.size->H8=H7.push (.cells #[.int .i64 cy] 3)->RowAt H8 ((ad u).add 2) 0 [.slice xB xN xC]/\
 appendK 1 3 8 [.int .i64 0] xB xN xC (some (ad cm)) 1 H8 (λap cg H9=>
 (CanPuts H9 ((ad u).add 2) 0 1)/\ ∀cr,cr=hputs H9 ((ad u).add 2) [.slice ap (xN+1) cg] 0->
 (c0 (zY (i+1)) cr/\m15 (zY (i+1)) cr<m15 i H6))))
 else
 ∃(bw:Int) (am:zW) (ao an:Nat) (b2:zW) (b4 bz:Nat),RowAt H6 (ad u) 0 [.int .u64 bw,.slice am ao an,.slice b2 b4 bz]/\
 ∀(b6:Nat) (H11:zV),b6=H6.size->H11=H6.push (.cells #[.int .u64 bw,.slice am ao an,.slice b2 b4 bz] 104)->
 ∃(c3:zW->Nat->Nat->Int->zV->Prop) (m32:zW->Nat->Nat->Int->zV->Nat),c3 (some (ad b6)) 1 1 0 H11/\ ∀(f:zW) (outN:Nat) (outC:Nat) (i_2:Int) (H12:zV),c3 f outN outC i_2 H12->
 ∃(cp:zW) (az cq:Nat),hat H12 ((ad j).add 1)=some (.slice cp az cq)/\
 if i_2< (az:Int)then(
 ∃(b3:zW) (bi bo:Nat),hat H12 ((ad j).add 1)=some (.slice b3 bi bo)/\
 ∃a5:Addr,b3=some a5/\
 ((0:Int)<=i_2/\i_2< (bi:Int))/\
 ∃m:Int,hat H12 (a5.add (Int.toNat i_2*1))=some (.int .u64 m)/\
 ∀(l:Nat) (H13:zV),l=H12.size->H13=H12.push (.cells #[.int .u64 0,.slice none 0 0,.slice none 0 0] 104)->
 (CanPuts H13 (ad l) 0 3)/\ ∀c9,c9=hputs H13 (ad l) [.int .u64 (iand .u64 m 7),.slice none 0 0,.slice none 0 0] 0->
 ∃(ce:Int->zV->Prop) (m51:Int->zV->Nat),ce 0 c9/\ ∀(nv:Int) (H15:zV),ce nv H15->
 obj_Heap_Size.C hv m H15 (λdh b7=> ∃b8:Int,dh=.int .i64 b8/\
 if nv<b8 then(
 ∃n:Addr,hv=some n/\
 ∃cs:zW,hat b7 n=some (.pointer cs)/\
 ∃cu:Addr,cs=some cu/\
 ∃ct:zW,hat b7 cu=some (.pointer ct)/\
 ∃c1:Addr,ct=some c1/\
 ∃cc:zW,hat b7 c1=some (.pointer cc)/\
 seg_Mem_Read.C cc (zY ((zY (ishr .u64 m 3))+nv)) b7 (λdk dg=> ∃ra c4:Int,dk=.tuple #[.int .u64 ra,.int .i64 c4]/\
 ∃b9:zW,hat dg n=some (.pointer b9)/\
 card_Cards_Gen.C b9 ra dg (λdi b5=> ∃(aa:Int) (ab:Bool),di=.tuple #[.int .i64 aa,.bool ab]/\
 ∃J:Bool->zV->Prop,(
 if(iand .u64 m 7)=2 then(
 if nv=0 then(
 if d=true then(
 if ab=true then(
 if aa<=g then(
 ∃mr:Nat,rb=some mr/\
 ∃(es:Array MapEntry) (cl:Nat) (ks:List (Int×Value)),b5[mr]?=some (.map es cl)/\Ents (intKey .u64) es.toList ks/\
 ∃bs:Int,(mget ks ra).getD (.int .i64 0)=.int .i64 bs/\
 J (bs==0) b5)
 else
 J false b5)
 else
 J false b5)
 else
 J false b5)
 else
 J false b5)
 else
 J false b5)/\ ∀(a7:Bool) (H19:zV),J a7 H19->
 ∃cv:Int->zV->Prop,(
 if a7=true then(
 cv 44 H19)
 else
 cv ra H19)/\ ∀(y:Int) (H20:zV),cv y H20->
 morainelaw13_raw.C (some n) m H20 (λdl cz=> ∃bk:Bool,dl=.bool bk/\
 if bk=true then(
 ∃(ba:zW) (ah a8:Nat),hat cz ((ad l).add 1)=some (.slice ba ah a8)/\
 ∀(ci:Nat) (H22:zV),ci=cz.size->H22=cz.push (.cells #[.int .u64 y] 24)->
 appendK 1 24 8 [.int .u64 0] ba ah a8 (some (ad ci)) 1 H22 (λbl a0 c5=>
 (CanPuts c5 ((ad l).add 1) 0 1)/\ ∀cj,cj=hputs c5 ((ad l).add 1) [.slice bl (ah+1) a0] 0->
 ∃(bc:zW) (ai bg:Nat),hat cj ((ad l).add 2)=some (.slice bc ai bg)/\
 ∀(cn:Nat) (H25:zV),cn=cj.size->H25=cj.push (.cells #[.int .i64 0] 3)->
 appendK 1 3 8 [.int .i64 0] bc ai bg (some (ad cn)) 1 H25 (λbt ay c6=>
 (CanPuts c6 ((ad l).add 2) 0 1)/\ ∀c2,c2=hputs c6 ((ad l).add 2) [.slice bt (ai+1) ay] 0->
 (ce (zY (nv+1)) c2/\m51 (zY (nv+1)) c2<m51 nv H15))))
 else
 morainelaw13_walk_of.C (some (ad j)) y cz (λdj cd=> ∃s:Int,dj=.int .i64 s/\
 if s>0 then(
 ∃(bb:zW) (aj bh:Nat),hat cd ((ad l).add 1)=some (.slice bb aj bh)/\
 ∀(co:Nat) (H29:zV),co=cd.size->H29=cd.push (.cells #[.int .u64 0] 24)->
 appendK 1 24 8 [.int .u64 0] bb aj bh (some (ad co)) 1 H29 (λbm a1 c7=>
 (CanPuts c7 ((ad l).add 1) 0 1)/\ ∀ck,ck=hputs c7 ((ad l).add 1) [.slice bm (aj+1) a1] 0->
 ∃(bj:zW) (ag bd:Nat),hat ck ((ad l).add 2)=some (.slice bj ag bd)/\
 ∀(b1:Nat) (H32:zV),b1=ck.size->H32=ck.push (.cells #[.int .i64 s] 3)->
 appendK 1 3 8 [.int .i64 0] bj ag bd (some (ad b1)) 1 H32 (λbn a2 c8=>
 (CanPuts c8 ((ad l).add 2) 0 1)/\ ∀cw,cw=hputs c8 ((ad l).add 2) [.slice bn (ag+1) a2] 0->
 (ce (zY (nv+1)) cw/\m51 (zY (nv+1)) cw<m51 nv H15))))
 else
 ∃(be:zW) (ak bf:Nat),hat cd ((ad l).add 1)=some (.slice be ak bf)/\
 ∀(b0:Nat) (H35:zV),b0=cd.size->H35=cd.push (.cells #[.int .u64 y] 24)->
 appendK 1 24 8 [.int .u64 0] be ak bf (some (ad b0)) 1 H35 (λbp a4 db=>
 (CanPuts db ((ad l).add 1) 0 1)/\ ∀ch,ch=hputs db ((ad l).add 1) [.slice bp (ak+1) a4] 0->
 ∃(a6:zW) (al a9:Nat),hat ch ((ad l).add 2)=some (.slice a6 al a9)/\
 ∀(bu:Nat) (H38:zV),bu=ch.size->H38=ch.push (.cells #[.int .i64 s] 3)->
 appendK 1 3 8 [.int .i64 0] a6 al a9 (some (ad bu)) 1 H38 (λbr ax da=>
 (CanPuts da ((ad l).add 2) 0 1)/\ ∀cx,cx=hputs da ((ad l).add 2) [.slice br (al+1) ax] 0->
 (ce (zY (nv+1)) cx/\m51 (zY (nv+1)) cx<m51 nv H15))))))))
 else
 ∃(au:Int) (ae:zW) (ac af:Nat) (aw:zW) (aq av:Nat),RowAt b7 (ad l) 0 [.int .u64 au,.slice ae ac af,.slice aw aq av]/\
 ∀(bx:Nat) (H41:zV),bx=b7.size->H41=b7.push (.cells #[.int .u64 au,.slice ae ac af,.slice aw aq av] 104)->
 appendK 3 104 56 [.int .u64 0,.slice none 0 0,.slice none 0 0] f outN outC (some (ad bx)) 1 H41 (λbq a3 dd=>
 (c3 bq (outN+1) a3 (zY (i_2+1)) dd/\m32 bq (outN+1) a3 (zY (i_2+1)) dd<m32 f outN outC i_2 H12))))
 else
 R (.slice f outN outC) H12)
namespace morainelaw13_picture
theorem link{hv r:zW}{o p:Nat}{g:Int}{d:Bool}{H:zV}{R:Value->zV->Prop}(h:pt hv r o p g d H R):C hv r o p g d H R:=by
 refine T_en K0 159 Tryz.func19 ?_
 intro w0 Q hQ
 unfold pt zY at h
 refine T_su [(0,vp hv),(1,vs r o p),(2,vi g),(3,.bool d)]<| T_srz 0<| T_ed 1 [] []<| T_srz 1<| T_nd 3 [] [(25,vp hv),(26,vs r o p),(27,vi g)] ?_
 refine T_c (some 28) h ?_;clear h
 rintro v H1 ⟨de,dc,df,rb,rfl,h⟩
 refine T_pd [25,26,27] [(28,.tuple #[vs de dc df,.map rb])]<| T_ed 5 [28] [(10,.map rb)]<| T_srz 2<| T_nd 1 [] [(31,vp hv)]<| T_nw (some 32) (λb=> .map (some b)) (.map #[] 0) ?_
 intro b H2 e1 e2
 replace h:=h b H2 e1 e2
 refine T_pd [] [(32,.map (some b))]<| T_nd 1 [31,32] [(33,.agg #[vp hv,vs none 0 0,.map (some b)])]<| T_nw (some 34) (λb=>vp (pa b)) (.cells #[vp hv,vs none 0 0,.map (some b)] 102) ?_
 intro j H3 e3 e4
 replace h:=h j H3 e3 e4
 refine T_pd [33] [(34,vp (pa j))]<| T_ed 1 [34] [(11,vp (pa j))]<| T_srz 3<| T_nd 1 [] [(35,.agg #[vu 0,vs none 0 0,vs none 0 0])]<| T_nw (some 12) (λb=>vp (pa b)) (.cells #[vu 0,vs none 0 0,vs none 0 0] 104) ?_
 intro u H4 e5 e6
 replace h:=h u H4 e5 e6
 refine T_pd [] [(12,vp (pa u))] ?_
 obtain⟨q8,h⟩:=h
 refine T_sta 104 [vu 0,vs none 0 0,vs none 0 0] q8 ?_
 intro H5 e7
 replace h:=h H5 e7
 refine T_pd [35] []<| T_e<| T_sz<| T_srz 4<| T_ed 1 [] [(13,vi 0)]<| T_bz 0 ?_
 obtain⟨c0,m15,i9,i10⟩:=h
 refine S_loop (x:=K14) (σ:=Int) (λs_=> [(0,vp hv),(1,vs r o p),(2,vi g),(3,.bool d),(10,.map rb),(11,vp (pa j)),(12,vp (pa u)),(13,vi s_)]) (λs_ H=>c0 s_ H) (λs_ H=>m15 s_ H) (0:Int) (by kernel_rfl) i9 sk ?_
 rintro i H6 i11
 have h:=i10 i H6 i11
 refine T_su [(0,vp hv),(1,vs r o p),(2,vi g),(3,.bool d),(10,.map rb),(11,vp (pa j)),(12,vp (pa u)),(13,vi i)]<| T_sz<| T_srz 5<| T_ed 4 [] [(39,.bool (decide (i< (o:Int))))] ?_
 by_cases c12:i< (o:Int)
 ·rw[if_pos c12]at h
  refine T_cTz 39 (zX c12)<| T_kt<| T_sz<| T_bz 1 ?_
  obtain⟨xB,xN,xC,q14,h⟩:=h
  obtain⟨q,rfl,h⟩:=h
  obtain⟨q15,h⟩:=h
  obtain⟨x,q16,h⟩:=h
  refine S_regionG 7 (Code.ops K23) [(9,((ad u).add 2),[vs xB xN xC]),(7,(q.add (Int.toNat i*1)),[vu x])] 12 (bv 12 0) (by kernel_rfl) (by kernel_rfl) (by kernel_rfl) (by kernel_rfl) (by kernel_rfl) (show FactsAt _ _ _ from⟨⟨q14,trivial⟩,⟨q16,trivial⟩,trivial⟩)<| T_gp 0 (some 42) (vp (some ((ad u).add 2))) (bv 12 1) [(0,vp hv),(1,vs (some q) o p),(2,vi g),(3,.bool d),(10,.map rb),(11,vp (pa j)),(12,vp (pa u)),(13,vi i),(42,vp (some ((ad u).add 2)))]<| T_g1 1 43 (vs xB xN xC) (bv 12 3) [42] (loadN 67 (vp (some ((ad u).add 2)))) (held_one 9 (λ_=>by kernel_rfl) (List.Mem.head _) (.inl (by kernel_rfl)))<| T_gp1 2 44 (vp (pa j)) (bv 12 7) []<| T_gp1 3 45 (vs (some q) o p) (bv 12 15) []<| T_gp1 4 46 (vi i) (bv 12 31) []<| T_g1 5 47 (vp (some (q.add (Int.toNat i*1)))) (bv 12 63) [45,46] (indexAtN 27 (vs (some q) o p) (vi i)) (λ_ w _ _ _=>indexAt_run (P:=Tryz.prog) (t:=27) (elem:=24) (sz:=1) (a:=q) (len:=o) (cap:=p) (k:=.i64) (i:=i) Tryz.underlying27 (λ_=>by kernel_rfl) q15.1 q15.2 w)<| T_g1 6 48 (vu x) (bv 12 127) [47] (loadN 24 (vp (some (q.add (Int.toNat i*1))))) (held_one 7 (λ_=>by kernel_rfl) (List.Mem.tail _ (List.Mem.head _)) (.inl (by kernel_rfl))) ?_
  refine G_call 7 (some 49) (bv 12 255) 46 #[vp (pa j),vu x] (by kernel_rfl) (λ_=>by kernel_rfl) h (by kernel_rfl) ?_;clear h
  rintro dm H7 ⟨cy,rfl,h⟩
  obtain⟨f17,h⟩:=h
  refine⟨[(0,vp hv),(1,vs (some q) o p),(2,vi g),(3,.bool d),(10,.map rb),(11,vp (pa j)),(12,vp (pa u)),(13,vi i),(43,vs xB xN xC),(49,vi cy)],pk,(show FactsAt _ _ _ from⟨f17,trivial,trivial⟩),?_⟩
  refine G_new 8 (some 50) (bv 12 511) (λb=>vs (pa b) 1 1) (.cells #[vi cy] 3) (by kernel_rfl) (λ_=>by kernel_rfl) (by kernel_rfl) ?_
  intro cm H8 e19 e20
  replace h:=h cm H8 e19 e20
  obtain⟨f18,h⟩:=h
  refine⟨[(0,vp hv),(1,vs (some q) o p),(2,vi g),(3,.bool d),(10,.map rb),(11,vp (pa j)),(12,vp (pa u)),(13,vi i),(43,vs xB xN xC),(50,vs (pa cm) 1 1)],pk,(show FactsAt _ _ _ from⟨f18,trivial,trivial⟩),?_⟩
  refine G_only 9 (some 51) (bv 12 1023) (appendN #[67,67] 67 #[vs xB xN xC,vs (pa cm) 1 1]) _ (by kernel_rfl) (λ_=>by kernel_rfl) (ss_append (T:=3) (sz:=1) (bytes:=8) (zero:=(vi 0:Value)) Tryz.underlying67 Tryz.underlying67 rfl (show Tryz.prog.info? 3=some Tryz.t3 from by kernel_rfl) (by kernel_rfl) (by kernel_rfl) (by decide) (by kernel_rfl) (by first | exact h | (simpa only[Value.cells,List.toList_toArray]using h))) (by kernel_rfl) ?_;clear h
  rintro _ H9 ⟨ap,cg,rfl,h⟩
  refine⟨[(0,vp hv),(1,vs (some q) o p),(2,vi g),(3,.bool d),(10,.map rb),(11,vp (pa j)),(12,vp (pa u)),(13,vi i),(51,vs ap (xN+1) cg)],pk,(show FactsAt _ _ _ from⟨trivial,trivial,trivial⟩),?_⟩
  refine T_g 10 (some 52) (vp (some ((ad u).add 2))) (bv 12 2047) [(0,vp hv),(1,vs (some q) o p),(2,vi g),(3,.bool d),(10,.map rb),(11,vp (pa j)),(12,vp (pa u)),(13,vi i),(51,vs ap (xN+1) cg),(52,vp (some ((ad u).add 2)))] (pure (.value (vp (some ((ad u).add 2)))):Sem Next) (λ_ _ _ _ _=>rfl) ?_
  obtain⟨q22,h⟩:=h
  refine G_onlyskip 11 none (bv 12 4095) (storeN 67 (vp (some ((ad u).add 2))) (vs ap (xN+1) cg)) (λHz=>Hz=hputs H9 ((ad u).add 2) [vs ap (xN+1) cg] 0) (by kernel_rfl) (λ_=>by kernel_rfl) (ss_store [vs ap (xN+1) cg] 1 (by kernel_rfl) (by kernel_rfl) (λ_=>by kernel_rfl) (by kernel_rfl) q22) (by kernel_rfl) ?_
  intro cr e21
  replace h:=h cr e21
  refine⟨[(0,vp hv),(1,vs (some q) o p),(2,vi g),(3,.bool d),(10,.map rb),(11,vp (pa j)),(12,vp (pa u)),(13,vi i)],pk,(show FactsAt _ _ _ from⟨trivial,trivial,trivial⟩),?_⟩
  refine G_sub [(0,vp hv),(1,vs (some q) o p),(2,vi g),(3,.bool d),(10,.map rb),(11,vp (pa j)),(12,vp (pa u)),(13,vi i)] sk ?_
  exact G_end (by kernel_rfl)<| S_blockEnd<| S_then<| T_rz 6<| T_ne 3 [(0,vp hv),(1,vs (some q) o p),(2,vi g),(3,.bool d),(10,.map rb),(11,vp (pa j)),(12,vp (pa u)),(13,vi (zY (i+1)))]<| S_round ((zY (i+1)):Int) sk h
 rw[if_neg c12]at h
 refine T_cFz 39 (zQ c12)<| zj 0<| S_exitThen<| S_exitThen<| S_exitHere<| S_then<| T_srz 8<| T_ud [1,13,39] [] ?_
 obtain⟨bw,am,ao,an,b2,b4,bz,q23,h⟩:=h
 refine T_lr 53 104 q23 [12]<| T_nw (some 54) (λb=>vs (pa b) 1 1) (.cells #[vu bw,vs am ao an,vs b2 b4 bz] 104) ?_
 intro b6 H11 e24 e25
 replace h:=h b6 H11 e24 e25
 refine T_pd [53] [(54,vs (pa b6) 1 1)]<| T_ed 1 [54] [(14,vs (pa b6) 1 1)]<| T_sz<| T_srz 9<| T_ed 1 [] [(15,vi 0)]<| T_bz 2 ?_
 obtain⟨c3,m32,i26,i27⟩:=h
 refine S_loop (x:=K31) (σ:=zW×Nat×Nat×Int) (λs_=> [(0,vp hv),(2,vi g),(3,.bool d),(10,.map rb),(11,vp (pa j)),(14,vs s_.1 s_.2.1 s_.2.2.1),(15,vi s_.2.2.2)]) (λs_ H=>c3 s_.1 s_.2.1 s_.2.2.1 s_.2.2.2 H) (λs_ H=>m32 s_.1 s_.2.1 s_.2.2.1 s_.2.2.2 H) (((pa b6),1,1,0):zW×Nat×Nat×Int) (by kernel_rfl) i26 sk ?_
 rintro⟨f,outN,outC,i_2⟩ H12 i28
 have h:=i27 f outN outC i_2 H12 i28
 refine T_su [(0,vp hv),(2,vi g),(3,.bool d),(10,.map rb),(11,vp (pa j)),(14,vs f outN outC),(15,vi i_2)]<| T_sz<| T_srz 10<| T_nd 4 [] [(55,vi i_2),(58,vp (some ((ad j).add 1)))] ?_
 obtain⟨cp,az,cq,q29,h⟩:=h
 refine T_l1 59 27 q29 [58]<| T_ed 2 [55,59] [(61,.bool (decide (i_2< (az:Int))))] ?_
 by_cases c30:i_2< (az:Int)
 ·rw[if_pos c30]at h
  refine T_cTz 61 (zX c30)<| T_kt<| T_sz<| T_bz 3<| T_srz 12<| T_nd 3 [61] [(66,vp (some ((ad j).add 1)))] ?_
  obtain⟨b3,bi,bo,q32,h⟩:=h
  refine T_l1 67 27 q32 [66]<| T_nd 1 [] [(68,vi i_2)] ?_
  obtain⟨a5,rfl,h⟩:=h
  obtain⟨q33,h⟩:=h
  refine T_xd (some 69) 27 24 1 a5 bi bo .i64 i_2 Tryz.underlying27 q33.1 q33.2 [67,68] [(69,vp (some (a5.add (Int.toNat i_2*1))))] ?_
  obtain⟨m,q34,h⟩:=h
  refine T_l1 70 24 q34 [69]<| T_ed 1 [70] [(16,vu m)]<| T_srz 13<| T_nd 3 [] [(73,.agg #[vu (iand .u64 m 7),vs none 0 0,vs none 0 0])]<| T_nw (some 17) (λb=>vp (pa b)) (.cells #[vu 0,vs none 0 0,vs none 0 0] 104) ?_
  intro l H13 e35 e36
  replace h:=h l H13 e35 e36
  refine T_pd [] [(17,vp (pa l))] ?_
  obtain⟨q38,h⟩:=h
  refine T_sta 104 [vu (iand .u64 m 7),vs none 0 0,vs none 0 0] q38 ?_
  intro c9 e37
  replace h:=h c9 e37
  refine T_pd [73] []<| T_e<| T_sz<| T_srz 14<| T_ed 1 [] [(18,vi 0)]<| T_bz 4 ?_
  obtain⟨ce,m51,i39,i40⟩:=h
  refine S_loop (x:=K50) (σ:=Int) (λs_=> [(0,vp hv),(2,vi g),(3,.bool d),(10,.map rb),(11,vp (pa j)),(14,vs f outN outC),(15,vi i_2),(16,vu m),(17,vp (pa l)),(18,vi s_)]) (λs_ H=>ce s_ H) (λs_ H=>m51 s_ H) (0:Int) (by kernel_rfl) i39 sk ?_
  rintro nv H15 i41
  have h:=i40 nv H15 i41
  refine T_su [(0,vp hv),(2,vi g),(3,.bool d),(10,.map rb),(11,vp (pa j)),(14,vs f outN outC),(15,vi i_2),(16,vu m),(17,vp (pa l)),(18,vi nv)]<| T_sz<| T_srz 15<| T_nd 3 [] [(74,vi nv),(75,vp hv),(76,vu m)] ?_
  refine T_c (some 77) h ?_;clear h
  rintro dh b7 ⟨b8,rfl,h⟩
  refine T_pd [75,76] [(77,vi b8)]<| T_ed 1 [74,77] [(78,.bool (decide (nv<b8)))] ?_
  by_cases c42:nv<b8
  ·rw[if_pos c42]at h
   refine T_cTz 78 (zX c42)<| T_kt<| T_sz<| T_bz 5<| T_srz 17<| T_nd 1 [78] [(82,vp hv)] ?_
   obtain⟨n,rfl,h⟩:=h
   refine T_nd 2 [0,82] [(0,vp (some n)),(84,vp (some n))] ?_
   obtain⟨cs,q44,h⟩:=h
   refine T_l1 85 26 q44 [84] ?_
   obtain⟨cu,rfl,h⟩:=h
   refine T_nd 2 [85] [(87,vp (some cu))] ?_
   obtain⟨ct,q45,h⟩:=h
   refine T_l1 88 39 q45 [87] ?_
   obtain⟨c1,rfl,h⟩:=h
   refine T_nd 2 [88] [(90,vp (some c1))] ?_
   obtain⟨cc,q46,h⟩:=h
   refine T_l1 91 69 q46 [90]<| T_nd 5 [] [(96,vi (zY ((zY (ishr .u64 m 3))+nv)))] ?_
   refine T_c (some 97) h ?_;clear h
   rintro dk dg ⟨ra,c4,rfl,h⟩
   refine T_pd [91,96] [(97,.tuple #[vu ra,vi c4])]<| T_ed 5 [97] [(19,vu ra)]<| T_sz<| T_srz 18<| T_nd 3 [] [(103,vp (some n))] ?_
   obtain⟨b9,q47,h⟩:=h
   refine T_l1 104 26 q47 [103]<| T_nd 1 [] [(105,vu ra)] ?_
   refine T_c (some 106) h ?_;clear h
   rintro di b5 ⟨aa,ab,rfl,h⟩
   refine T_pd [104,105] [(106,.tuple #[vi aa,.bool ab])]<| T_ne 5 [(0,vp (some n)),(2,vi g),(3,.bool d),(10,.map rb),(11,vp (pa j)),(14,vs f outN outC),(15,vi i_2),(16,vu m),(17,vp (pa l)),(18,vi nv),(19,vu ra),(21,vi aa),(22,.bool ab)]<| T_sz ?_
   obtain⟨J,h,j49⟩:=h
   refine S_join (σ:=Bool) (λs_=> [(0,vp (some n)),(2,vi g),(3,.bool d),(10,.map rb),(11,vp (pa j)),(14,vs f outN outC),(15,vi i_2),(16,vu m),(17,vp (pa l)),(18,vi nv),(19,vu ra),(132,.bool s_)]) (λs_ H=>J s_ H) ?_ ?_
   ·rintro a7 H19 j50
    replace h:=j49 a7 H19 j50
    refine T_su [(0,vp (some n)),(2,vi g),(3,.bool d),(10,.map rb),(11,vp (pa j)),(14,vs f outN outC),(15,vi i_2),(16,vu m),(17,vp (pa l)),(18,vi nv),(19,vu ra),(132,.bool a7)]<| S_then ?_
    obtain⟨cv,h,j52⟩:=h
    refine S_join (σ:=Int) (λs_=> [(0,vp (some n)),(2,vi g),(3,.bool d),(10,.map rb),(11,vp (pa j)),(14,vs f outN outC),(15,vi i_2),(16,vu m),(17,vp (pa l)),(18,vi nv),(19,vu s_)]) (λs_ H=>cv s_ H) ?_ ?_
    ·rintro y H20 j53
     replace h:=j52 y H20 j53
     refine T_su [(0,vp (some n)),(2,vi g),(3,.bool d),(10,.map rb),(11,vp (pa j)),(14,vs f outN outC),(15,vi i_2),(16,vu m),(17,vp (pa l)),(18,vi nv),(19,vu y)]<| S_then<| T_srz 21<| T_ed 1 [] [(23,vi 0)]<| T_sz<| T_srz 22<| T_nd 2 [] [(133,vp (some n)),(134,vu m)] ?_
     refine T_c (some 135) h ?_;clear h
     rintro dl cz ⟨bk,rfl,h⟩
     refine T_pd [133,134] [(135,.bool bk)]<| T_ed 1 [135] [(136,.bool (!bk))] ?_
     by_cases c54:bk=true
     ·rw[if_pos c54]at h
      refine T_cFz 136 (congrArg Bool.not (c54))<| T_kt<| T_sz<| T_srz 24<| T_ed 2 [136] [(141,.bool false)]<| T_fz 141<| T_kt<| T_srz 26<| T_nd 1 [141] [(142,vp (some ((ad l).add 1)))] ?_
      obtain⟨ba,ah,a8,q56,h⟩:=h
      refine T_l1 143 27 q56 [142]<| T_nd 1 [19] [(144,vu y)]<| T_nw (some 145) (λb=>vs (pa b) 1 1) (.cells #[vu y] 24) ?_
      intro ci H22 e57 e58
      replace h:=h ci H22 e57 e58
      refine T_pd [144] [(145,vs (pa ci) 1 1)] ?_
      refine N_op (some 146) (appendN #[27,27] 27 #[vs ba ah a8,vs (pa ci) 1 1]) _ (λ_=>by kernel_rfl) (ss_append (T:=24) (sz:=1) (bytes:=8) (zero:=(vu 0:Value)) Tryz.underlying27 Tryz.underlying27 rfl (show Tryz.prog.info? 24=some Tryz.t24 from by kernel_rfl) (by kernel_rfl) (by kernel_rfl) (by decide) (by kernel_rfl) (by first | exact h | (simpa only[Value.cells,List.toList_toArray]using h))) ?_;clear h
      rintro _ c5 ⟨bl,a0,rfl,h⟩
      refine T_pd [143,145] [(146,vs bl (ah+1) a0)]<| T_nd 1 [] [(147,vp (some ((ad l).add 1)))] ?_
      obtain⟨q60,h⟩:=h
      refine T_st1 27 (vs bl (ah+1) a0) q60 ?_
      intro cj e59
      replace h:=h cj e59
      refine T_pd [146,147] []<| T_e<| T_rz 27<| T_nd 1 [] [(148,vp (some ((ad l).add 2)))] ?_
      obtain⟨bc,ai,bg,q61,h⟩:=h
      refine T_l1 149 67 q61 [148]<| T_nd 1 [23] [(150,vi 0)]<| T_nw (some 151) (λb=>vs (pa b) 1 1) (.cells #[vi 0] 3) ?_
      intro cn H25 e62 e63
      replace h:=h cn H25 e62 e63
      refine T_pd [150] [(151,vs (pa cn) 1 1)] ?_
      refine N_op (some 152) (appendN #[67,67] 67 #[vs bc ai bg,vs (pa cn) 1 1]) _ (λ_=>by kernel_rfl) (ss_append (T:=3) (sz:=1) (bytes:=8) (zero:=(vi 0:Value)) Tryz.underlying67 Tryz.underlying67 rfl (show Tryz.prog.info? 3=some Tryz.t3 from by kernel_rfl) (by kernel_rfl) (by kernel_rfl) (by decide) (by kernel_rfl) (by first | exact h | (simpa only[Value.cells,List.toList_toArray]using h))) ?_;clear h
      rintro _ c6 ⟨bt,ay,rfl,h⟩
      refine T_pd [149,151] [(152,vs bt (ai+1) ay)]<| T_nd 1 [] [(153,vp (some ((ad l).add 2)))] ?_
      obtain⟨q65,h⟩:=h
      refine T_st1 67 (vs bt (ai+1) ay) q65 ?_
      intro c2 e64
      replace h:=h c2 e64
      exact T_pd [152,153] []<| zq<| S_blockEnd<| S_then<| T_rz 16<| T_ed 3 [18] [(18,vi (zY (nv+1)))]<| S_round ((zY (nv+1)):Int) sk h
     rw[if_neg c54]at h
     refine T_cTz 136 (congrArg Bool.not (zZ c54))<| T_rz 23<| T_nd 2 [23,136] [(137,vp (pa j)),(138,vu y)] ?_
     refine T_c (some 139) h ?_;clear h
     rintro dj cd ⟨s,rfl,h⟩
     refine T_pd [137,138] [(139,vi s)]<| T_ed 1 [139] [(23,vi s)]<| T_sz<| T_srz 24<| T_ed 2 [] [(141,.bool (decide (s>0)))] ?_
     by_cases c66:s>0
     ·rw[if_pos c66]at h
      refine T_cTz 141 (zX c66)<| T_rz 25<| T_ed 1 [19,141] [(19,vu 0)]<| T_srz 26<| T_nd 1 [] [(142,vp (some ((ad l).add 1)))] ?_
      obtain⟨bb,aj,bh,q68,h⟩:=h
      refine T_l1 143 27 q68 [142]<| T_nd 1 [19] [(144,vu 0)]<| T_nw (some 145) (λb=>vs (pa b) 1 1) (.cells #[vu 0] 24) ?_
      intro co H29 e69 e70
      replace h:=h co H29 e69 e70
      refine T_pd [144] [(145,vs (pa co) 1 1)] ?_
      refine N_op (some 146) (appendN #[27,27] 27 #[vs bb aj bh,vs (pa co) 1 1]) _ (λ_=>by kernel_rfl) (ss_append (T:=24) (sz:=1) (bytes:=8) (zero:=(vu 0:Value)) Tryz.underlying27 Tryz.underlying27 rfl (show Tryz.prog.info? 24=some Tryz.t24 from by kernel_rfl) (by kernel_rfl) (by kernel_rfl) (by decide) (by kernel_rfl) (by first | exact h | (simpa only[Value.cells,List.toList_toArray]using h))) ?_;clear h
      rintro _ c7 ⟨bm,a1,rfl,h⟩
      refine T_pd [143,145] [(146,vs bm (aj+1) a1)]<| T_nd 1 [] [(147,vp (some ((ad l).add 1)))] ?_
      obtain⟨q72,h⟩:=h
      refine T_st1 27 (vs bm (aj+1) a1) q72 ?_
      intro ck e71
      replace h:=h ck e71
      refine T_pd [146,147] []<| T_e<| T_rz 27<| T_nd 1 [] [(148,vp (some ((ad l).add 2)))] ?_
      obtain⟨bj,ag,bd,q73,h⟩:=h
      refine T_l1 149 67 q73 [148]<| T_nd 1 [23] [(150,vi s)]<| T_nw (some 151) (λb=>vs (pa b) 1 1) (.cells #[vi s] 3) ?_
      intro b1 H32 e74 e75
      replace h:=h b1 H32 e74 e75
      refine T_pd [150] [(151,vs (pa b1) 1 1)] ?_
      refine N_op (some 152) (appendN #[67,67] 67 #[vs bj ag bd,vs (pa b1) 1 1]) _ (λ_=>by kernel_rfl) (ss_append (T:=3) (sz:=1) (bytes:=8) (zero:=(vi 0:Value)) Tryz.underlying67 Tryz.underlying67 rfl (show Tryz.prog.info? 3=some Tryz.t3 from by kernel_rfl) (by kernel_rfl) (by kernel_rfl) (by decide) (by kernel_rfl) (by first | exact h | (simpa only[Value.cells,List.toList_toArray]using h))) ?_;clear h
      rintro _ c8 ⟨bn,a2,rfl,h⟩
      refine T_pd [149,151] [(152,vs bn (ag+1) a2)]<| T_nd 1 [] [(153,vp (some ((ad l).add 2)))] ?_
      obtain⟨q77,h⟩:=h
      refine T_st1 67 (vs bn (ag+1) a2) q77 ?_
      intro cw e76
      replace h:=h cw e76
      exact T_pd [152,153] []<| zq<| S_blockEnd<| S_then<| T_rz 16<| T_ed 3 [18] [(18,vi (zY (nv+1)))]<| S_round ((zY (nv+1)):Int) sk h
     rw[if_neg c66]at h
     refine T_cFz 141 (zQ c66)<| T_kt<| T_srz 26<| T_nd 1 [141] [(142,vp (some ((ad l).add 1)))] ?_
     obtain⟨be,ak,bf,q78,h⟩:=h
     refine T_l1 143 27 q78 [142]<| T_nd 1 [19] [(144,vu y)]<| T_nw (some 145) (λb=>vs (pa b) 1 1) (.cells #[vu y] 24) ?_
     intro b0 H35 e79 e80
     replace h:=h b0 H35 e79 e80
     refine T_pd [144] [(145,vs (pa b0) 1 1)] ?_
     refine N_op (some 146) (appendN #[27,27] 27 #[vs be ak bf,vs (pa b0) 1 1]) _ (λ_=>by kernel_rfl) (ss_append (T:=24) (sz:=1) (bytes:=8) (zero:=(vu 0:Value)) Tryz.underlying27 Tryz.underlying27 rfl (show Tryz.prog.info? 24=some Tryz.t24 from by kernel_rfl) (by kernel_rfl) (by kernel_rfl) (by decide) (by kernel_rfl) (by first | exact h | (simpa only[Value.cells,List.toList_toArray]using h))) ?_;clear h
     rintro _ db ⟨bp,a4,rfl,h⟩
     refine T_pd [143,145] [(146,vs bp (ak+1) a4)]<| T_nd 1 [] [(147,vp (some ((ad l).add 1)))] ?_
     obtain⟨q82,h⟩:=h
     refine T_st1 27 (vs bp (ak+1) a4) q82 ?_
     intro ch e81
     replace h:=h ch e81
     refine T_pd [146,147] []<| T_e<| T_rz 27<| T_nd 1 [] [(148,vp (some ((ad l).add 2)))] ?_
     obtain⟨a6,al,a9,q83,h⟩:=h
     refine T_l1 149 67 q83 [148]<| T_nd 1 [23] [(150,vi s)]<| T_nw (some 151) (λb=>vs (pa b) 1 1) (.cells #[vi s] 3) ?_
     intro bu H38 e84 e85
     replace h:=h bu H38 e84 e85
     refine T_pd [150] [(151,vs (pa bu) 1 1)] ?_
     refine N_op (some 152) (appendN #[67,67] 67 #[vs a6 al a9,vs (pa bu) 1 1]) _ (λ_=>by kernel_rfl) (ss_append (T:=3) (sz:=1) (bytes:=8) (zero:=(vi 0:Value)) Tryz.underlying67 Tryz.underlying67 rfl (show Tryz.prog.info? 3=some Tryz.t3 from by kernel_rfl) (by kernel_rfl) (by kernel_rfl) (by decide) (by kernel_rfl) (by first | exact h | (simpa only[Value.cells,List.toList_toArray]using h))) ?_;clear h
     rintro _ da ⟨br,ax,rfl,h⟩
     refine T_pd [149,151] [(152,vs br (al+1) ax)]<| T_nd 1 [] [(153,vp (some ((ad l).add 2)))] ?_
     obtain⟨q87,h⟩:=h
     refine T_st1 67 (vs br (al+1) ax) q87 ?_
     intro cx e86
     replace h:=h cx e86
     exact T_pd [152,153] []<| zq<| S_blockEnd<| S_then<| T_rz 16<| T_ed 3 [18] [(18,vi (zY (nv+1)))]<| S_round ((zY (nv+1)):Int) sk h
    by_cases c88:a7=true
    ·rw[if_pos c88]at h
     have b89:a7=true:=c88
     refine S_env [(0,vp (some n)),(2,vi g),(3,.bool d),(10,.map rb),(11,vp (pa j)),(14,vs f outN outC),(15,vi i_2),(16,vu m),(17,vp (pa l)),(18,vi nv),(19,vu ra),(132,.bool true)] (by simp only[b89,Bool.not_true,Bool.not_false]) ?_
     clear b89
     exact T_tz 132<| T_rz 20<| T_ed 1 [19,132] [(19,vu 44)]<| S_meet (44:Int) sk h
    rw[if_neg c88]at h
    have b89:a7=false:=zZ c88
    refine S_env [(0,vp (some n)),(2,vi g),(3,.bool d),(10,.map rb),(11,vp (pa j)),(14,vs f outN outC),(15,vi i_2),(16,vu m),(17,vp (pa l)),(18,vi nv),(19,vu ra),(132,.bool false)] (by simp only[b89,Bool.not_true,Bool.not_false]) ?_
    clear b89
    exact T_fz 132<| T_kt<| S_meet (ra:Int) sk h
   refine T_rz 19<| T_n 4 [(0,vp (some n)),(2,vi g),(3,.bool d),(10,.map rb),(11,vp (pa j)),(14,vs f outN outC),(15,vi i_2),(16,vu m),(17,vp (pa l)),(18,vi nv),(19,vu ra),(21,vi aa),(22,.bool ab),(112,.bool ((iand .u64 m 7)==2))] ?_
   by_cases c90:(iand .u64 m 7)=2
   ·rw[if_pos c90]at h
    have b91:((iand .u64 m 7)==2)=true:=zK c90
    refine N_env [(0,vp (some n)),(2,vi g),(3,.bool d),(10,.map rb),(11,vp (pa j)),(14,vs f outN outC),(15,vi i_2),(16,vu m),(17,vp (pa l)),(18,vi nv),(19,vu ra),(21,vi aa),(22,.bool ab),(112,.bool true)] (by rw[b91]) ?_
    clear b91
    refine T_nd 4 [112] [(116,.bool (nv==0))] ?_
    by_cases c92:nv=0
    ·rw[if_pos c92]at h
     refine N_bd 116 (zK c92)<| T_nd 3 [116] [(119,.bool d)] ?_
     by_cases c94:d=true
     ·rw[if_pos c94]at h
      refine N_bd 119 c94<| T_nd 3 [22,119] [(122,.bool ab)] ?_
      by_cases c96:ab=true
      ·rw[if_pos c96]at h
       refine N_bd 122 c96<| T_nd 5 [21,122] [(127,.bool (decide (aa<=g)))] ?_
       by_cases c98:aa<=g
       ·rw[if_pos c98]at h
        refine N_bd 127 (zX c98)<| T_nd 2 [] [(128,.map rb),(129,vu ra)] ?_
        obtain⟨mr,rfl,h⟩:=h
        obtain⟨es,cl,ks,q100,q101,bs,e103,h⟩:=h
        exact T_vd (some 130) (lookupN 61 (.map (some mr)) (vu ra) false) (vi bs) (λw hw=>(lookup_run (kk:=(intKey .u64)) (z:=vi 0) Tryz.underlying61 Tryz.underlying24 (λ_=>by kernel_rfl) (by rw[hw];exact q100) q101 false).trans (by simp only[if_true,Bool.false_eq_true,if_false,e103])) [10,128,129] [(10,.map (some mr)),(130,vi bs)]<| T_ed 2 [127,130] [(132,.bool (bs==0))]<| S_meet ((bs==0):Bool) sk h
       rw[if_neg c98]at h
       refine N_bd 127 (zQ c98)<| T_ed 5 [127] [(132,.bool false)] ?_
       exact S_meet (false:Bool) sk h
      rw[if_neg c96]at h
      refine N_bd 122 (zZ c96)<| T_ed 10 [21,122] [(132,.bool false)] ?_
      exact S_meet (false:Bool) sk h
     rw[if_neg c94]at h
     refine N_bd 119 (zZ c94)<| T_ed 13 [21,22,119] [(132,.bool false)] ?_
     exact S_meet (false:Bool) sk h
    rw[if_neg c92]at h
    refine N_bd 116 (zJ c92)<| T_ed 16 [21,22,116] [(132,.bool false)] ?_
    exact S_meet (false:Bool) sk h
   rw[if_neg c90]at h
   have b91:((iand .u64 m 7)==2)=false:=zJ c90
   refine N_env [(0,vp (some n)),(2,vi g),(3,.bool d),(10,.map rb),(11,vp (pa j)),(14,vs f outN outC),(15,vi i_2),(16,vu m),(17,vp (pa l)),(18,vi nv),(19,vu ra),(21,vi aa),(22,.bool ab),(112,.bool false)] (by rw[b91]) ?_
   clear b91
   exact T_ed 20 [21,22,112] [(132,.bool false)]<| S_meet (false:Bool) sk h
  rw[if_neg c42]at h
  refine T_cFz 78 (zQ c42)<| zj 4<| S_exitThen<| S_exitThen<| S_exitHere<| S_then<| T_rz 28<| T_nd 1 [14,16,18,78] [(154,vs f outN outC)] ?_
  obtain⟨au,ae,ac,af,aw,aq,av,q105,h⟩:=h
  refine T_lr 155 104 q105 [17]<| T_nw (some 156) (λb=>vs (pa b) 1 1) (.cells #[vu au,vs ae ac af,vs aw aq av] 104) ?_
  intro bx H41 e106 e107
  replace h:=h bx H41 e106 e107
  refine T_pd [155] [(156,vs (pa bx) 1 1)] ?_
  refine N_op (some 157) (appendN #[59,59] 59 #[vs f outN outC,vs (pa bx) 1 1]) _ (λ_=>by kernel_rfl) (ss_append (T:=104) (sz:=3) (bytes:=56) (zero:=(.agg #[vu 0,vs none 0 0,vs none 0 0]:Value)) Tryz.underlying59 Tryz.underlying59 rfl (show Tryz.prog.info? 104=some Tryz.t104 from by kernel_rfl) (by kernel_rfl) (by kernel_rfl) (by decide) (by kernel_rfl) (by first | exact h | (simpa only[Value.cells,List.toList_toArray]using h))) ?_;clear h
  rintro _ dd ⟨bq,a3,rfl,h⟩
  exact T_pd [154,156] [(157,vs bq (outN+1) a3)]<| T_nd 1 [157] [(14,vs bq (outN+1) a3)]<| zq<| S_blockEnd<| S_then<| T_rz 11<| T_ed 3 [15] [(15,vi (zY (i_2+1)))]<| S_round ((bq,(outN+1),a3,(zY (i_2+1))):zW×Nat×Nat×Int) sk h
 rw[if_neg c30]at h
 exact T_cFz 61 (zQ c30)<| zj 2<| S_exitThen<| S_exitThen<| S_exitHere<| S_then<| T_srz 29<| T_nr 2 [8] [vs f outN outC] hQ h
end morainelaw13_picture

