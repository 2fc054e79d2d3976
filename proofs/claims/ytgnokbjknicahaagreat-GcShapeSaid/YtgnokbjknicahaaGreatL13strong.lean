/- Printed: what each function asks, and that it is sound. -/
import Derived.Test.YtgnokbjknicahaaGreatFnsC
set_option linter.unusedSimpArgs false
set_option linter.unusedVariables false
set_option maxRecDepth 100000
set_option maxHeartbeats 1000000
noncomputable section
namespace Go.Proofs.YtgnokbjknicahaaGreat
open Go
/-! moraine/morainelaw13.strong -/
namespace morainelaw13_strong
def K0:=Func.code Tryz.f20
def K2:=cb K0
def K4:=cb K2
def K5:=ca K4
def K6:=cb K4
def K8:=cb K5
def K9:=ca K8
def K10:=ca K9
def K21:=cb K6
def K22:=ca K21
def K23:=cb K21
def K25:=cb K22
def K26:=ca K25
def K27:=ca K26
def K29:=cb K27
def K34:=ca K29
def K36:=ca K34
def K37:=ca K36
def K38:=cb K36
def K40:=cb K38
def K41:=ca K40
def K42:=ca K41
def K44:=cb K42
def K49:=ca K44
def K51:=ca K49
def K52:=ca K51
def K58:=ca K23
def K61:=cb K58
def K62:=ca K61
def K63:=ca K62
def K65:=cb K63
def K70:=ca K65
def K72:=ca K70
def K74:=cb K72
def K76:=cb K74
def K77:=ca K76
def K78:=ca K77
end morainelaw13_strong
def morainelaw13_strong.pt(hv aj:zW)(s ag:Nat)(g:Int)(H:zV)(R:zk):Prop:=
 ∀(b:Nat) (H1:zV),b=H.size->H1=H.push (.map #[] 0)->
 ∀(d:Nat) (H2:zV),d=H1.size->H2=H1.push (.cells #[.pointer hv,.slice none 0 0,.map (some b)] 102)->
 ∃(ce:zv) (m11:Int->zV->Nat),ce 0 H2/\ ∀(i:Int) (H3:zV),ce i H3->
 if i< (s:Int)then(
 ∃am:Addr,aj=some am/\
 zw i s/\
 ∃x:Int,hat H3 (am.add (Int.toNat i*1))=some (.int .u64 x)/\
 morainelaw13_walk_of.C (some (ad d)) x H3 (λv H4=> ∃db:Int,v=.int .i64 db/\
 (ce (zY (i+1)) H4/\m11 (zY (i+1)) H4<m11 i H3)))
 else
 ∃f:Addr,hv=some f/\
 ∃cg:zW,hat H3 f=some (.pointer cg)/\
 ∃b8:Addr,cg=some b8/\
 ∃ci:zW,hat H3 b8=some (.pointer ci)/\
 ∃ch:Addr,ci=some ch/\
 ∃b3:zW,hat H3 ch=some (.pointer b3)/\
 seg_Mem_Taken.C b3 none 0 0 H3 (λc3 H5=> ∃(xB:zW) (xN xC:Nat),c3=.slice xB xN xC/\
 ∃(bq:zv) (m28:Int->zV->Nat),bq 0 H5/\ ∀(j:Int) (H6:zV),bq j H6->
 if j< (xN:Int)then(
 ∃cz:zW,hat H6 f=some (.pointer cz)/\
 ∃ba:Addr,cz=some ba/\
 ∃ct:zW,hat H6 ba=some (.pointer ct)/\
 ∃a9:Addr,ct=some a9/\
 ∃bc:zW,hat H6 a9=some (.pointer bc)/\
 ∃l:Addr,xB=some l/\
 zw j xN/\
 ∃bn:Int,hat H6 (l.add (Int.toNat j*1))=some (.int .i64 bn)/\
 (
 seg_Mem_Seg.C bc bn H6 (λc6 H7=> ∃(an al bb ac ae ab af:Int) (rb:Bool),c6=.tuple #[.agg #[.int .i64 an,.int .i64 al,.int .i64 bb,.int .i64 ac,.int .i64 ae,.int .i64 ab,.int .i64 af],.bool rb]/\
 ∀(o:Nat) (H8:zV),o=H7.size->H8=H7.push (.cells #[.int .i64 0,.int .i64 0,.int .i64 0,.int .i64 0,.int .i64 0,.int .i64 0,.int .i64 0] 76)->
 (CanPuts H8 (ad o) 0 7)/\ ∀H9,H9=hputs H8 (ad o) [.int .i64 an,.int .i64 al,.int .i64 bb,.int .i64 ac,.int .i64 ae,.int .i64 ab,.int .i64 af] 0->
 ∃(b2:zv) (m43:Int->zV->Nat),b2 0 H9/\ ∀(k:Int) (H10:zV),b2 k H10->
 ∃bi:Int,hat H10 ((ad o).add 2)=some (.int .i64 bi)/\
 if k<bi then(
 ∃bk:Int,hat H10 (ad o)=some (.int .i64 bk)/\
 if bk>g then(
 ∃bj:Int,hat H10 ((ad o).add 1)=some (.int .i64 bj)/\
 if bj=3 then(
 (bq (zY (j+1)) H10/\m28 (zY (j+1)) H10<m28 j H6))
 else
 ∃cn:zW,hat H10 f=some (.pointer cn)/\
 ∃a2:Addr,cn=some a2/\
 ∃cl:zW,hat H10 a2=some (.pointer cl)/\
 ∃ay:Addr,cl=some ay/\
 ∃a1:zW,hat H10 ay=some (.pointer a1)/\
 zw j xN/\
 ∃az:Int,hat H10 (l.add (Int.toNat j*1))=some (.int .i64 az)/\
 seg_Mem_Read.C a1 (zY ((zY (64*az))+k)) H10 (λc5 cc=> ∃ra a8:Int,c5=.tuple #[.int .u64 ra,.int .i64 a8]/\
 ∃aq:Int,hat cc ((ad o).add 1)=some (.int .i64 aq)/\
 if((aq !=1) || ((iand .i64 k 1)==1))=true then(
 morainelaw13_walk_of.C (some (ad d)) ra cc (λc9 c2=> ∃c1:Int,c9=.int .i64 c1/\
 (b2 (zY (k+1)) c2/\m43 (zY (k+1)) c2<m43 k H10)))
 else
 (b2 (zY (k+1)) cc/\m43 (zY (k+1)) cc<m43 k H10)))
 else
 (bq (zY (j+1)) H10/\m28 (zY (j+1)) H10<m28 j H6))
 else
 (bq (zY (j+1)) H10/\m28 (zY (j+1)) H10<m28 j H6)))/\(
 ∀(n:Nat) (H13:zV),n=H6.size->H13=H6.push (.cells #[.int .i64 0,.int .i64 0,.int .i64 0,.int .i64 0,.int .i64 0,.int .i64 0,.int .i64 0] 76)->RowAt H13 f 0 [.pointer (some ba)]/\RowAt H13 ba 0 [.pointer (some a9)]/\RowAt H13 a9 0 [.pointer bc]/\RowAt H13 (l.add (Int.toNat j*1)) 0 [.int .i64 bn]/\
 seg_Mem_Seg.C bc bn H13 (λc4 cp=> ∃(ak ai ao z y aa u:Int) (a7:Bool),c4=.tuple #[.agg #[.int .i64 ak,.int .i64 ai,.int .i64 ao,.int .i64 z,.int .i64 y,.int .i64 aa,.int .i64 u],.bool a7]/\
 (CanPuts cp (ad n) 0 7)/\ ∀co,co=hputs cp (ad n) [.int .i64 ak,.int .i64 ai,.int .i64 ao,.int .i64 z,.int .i64 y,.int .i64 aa,.int .i64 u] 0->
 ∃(b4:zv) (m58:Int->zV->Nat),b4 0 co/\ ∀(m:Int) (H16:zV),b4 m H16->
 ∃bl:Int,hat H16 ((ad n).add 2)=some (.int .i64 bl)/\
 if m<bl then(
 ∃bg:Int,hat H16 (ad n)=some (.int .i64 bg)/\
 if bg>g then(
 ∃bf:Int,hat H16 ((ad n).add 1)=some (.int .i64 bf)/\
 if bf=3 then(
 (bq (zY (j+1)) H16/\m28 (zY (j+1)) H16<m28 j H6))
 else
 ∃cm:zW,hat H16 f=some (.pointer cm)/\
 ∃ax:Addr,cm=some ax/\
 ∃cj:zW,hat H16 ax=some (.pointer cj)/\
 ∃a3:Addr,cj=some a3/\
 ∃a5:zW,hat H16 a3=some (.pointer a5)/\
 zw j xN/\
 ∃a0:Int,hat H16 (l.add (Int.toNat j*1))=some (.int .i64 a0)/\
 seg_Mem_Read.C a5 (zY ((zY (64*a0))+m)) H16 (λc7 cd=> ∃ah a6:Int,c7=.tuple #[.int .u64 ah,.int .i64 a6]/\
 ∃au:Int,hat cd ((ad n).add 1)=some (.int .i64 au)/\
 if((au !=1) || ((iand .i64 m 1)==1))=true then(
 morainelaw13_walk_of.C (some (ad d)) ah cd (λda cu=> ∃cx:Int,da=.int .i64 cx/\
 (b4 (zY (m+1)) cu/\m58 (zY (m+1)) cu<m58 m H16)))
 else
 (b4 (zY (m+1)) cd/\m58 (zY (m+1)) cd<m58 m H16)))
 else
 (bq (zY (j+1)) H16/\m28 (zY (j+1)) H16<m28 j H6))
 else
 (bq (zY (j+1)) H16/\m28 (zY (j+1)) H16<m28 j H6))))
 else
 ∃(b1:zv) (m64:Int->zV->Nat),b1 0 H6/\ ∀(q:Int) (H19:zV),b1 q H19->
 ∃(b7:zW) (bh b6:Nat),hat H19 ((ad d).add 1)=some (.slice b7 bh b6)/\
 if q< (bh:Int)then(
 ∃(bt:zW) (bp bs:Nat),hat H19 ((ad d).add 1)=some (.slice bt bp bs)/\
 ∃bm:Addr,bt=some bm/\
 zw q bp/\
 ∃p:Int,hat H19 (bm.add (Int.toNat q*1))=some (.int .u64 p)/\
 ∃(b5:zv) (m79:Int->zV->Nat),b5 0 H19/\ ∀(r:Int) (H20:zV),b5 r H20->
 obj_Heap_Size.C (some f) p H20 (λdc cr=> ∃bo:Int,dc=.int .i64 bo/\
 if r<bo then(
 morainelaw13_raw.C (some f) p cr (λcs bx=> ∃be:Bool,cs=.bool be/\
 if be=true then(
 (b1 (zY (q+1)) bx/\m64 (zY (q+1)) bx<m64 q H19))
 else
 ∃bz:zW,hat bx f=some (.pointer bz)/\
 ∃bu:Addr,bz=some bu/\
 ∃bw:zW,hat bx bu=some (.pointer bw)/\
 ∃b0:Addr,bw=some b0/\
 ∃br:zW,hat bx b0=some (.pointer br)/\
 seg_Mem_Read.C br (zY ((zY (ishr .u64 p 3))+r)) bx (λcw cq=> ∃ap ck:Int,cw=.tuple #[.int .u64 ap,.int .i64 ck]/\
 if(((iand .u64 p 7) !=2) || (r==1))=true then(
 morainelaw13_walk_of.C (some (ad d)) ap cq (λc0 cv=> ∃cy:Int,c0=.int .i64 cy/\
 (b5 (zY (r+1)) cv/\m79 (zY (r+1)) cv<m79 r H20)))
 else
 (b5 (zY (r+1)) cq/\m79 (zY (r+1)) cq<m79 r H20))))
 else
 (b1 (zY (q+1)) cr/\m64 (zY (q+1)) cr<m64 q H19)))
 else
 ∃(a4:zW) (aw av:Nat),hat H19 ((ad d).add 1)=some (.slice a4 aw av)/\
 ∃bd:Option Nat,hat H19 ((ad d).add 2)=some (.map bd)/\
 R (.tuple #[.slice a4 aw av,.map bd]) H19)
namespace morainelaw13_strong
theorem link{hv aj:zW}{s ag:Nat}{g:Int}{H:zV}{R:zk}(h:pt hv aj s ag g H R):C hv aj s ag g H R:=by
 refine T_en K0 188 Tryz.func20 ?_
 intro w0 Q hQ
 unfold pt zY at h
 refine T_su [(0,vp hv),(1,vs aj s ag),(2,vi g)]<| T_srz 0<| T_ed 2 [] []<| T_srz 1<| T_nd 1 [] [(22,vp hv)]<| T_nw (some 23) (λb=> .map (some b)) (.map #[] 0) ?_
 intro b H1 e1 e2
 replace h:=h b H1 e1 e2
 refine T_pd [] [(23,.map (some b))]<| T_nd 1 [22,23] [(24,.agg #[vp hv,vs none 0 0,.map (some b)])]<| T_nw (some 25) (λb=>vp (pa b)) (.cells #[vp hv,vs none 0 0,.map (some b)] 102) ?_
 intro d H2 e3 e4
 replace h:=h d H2 e3 e4
 refine T_pd [24] [(25,vp (pa d))]<| T_ed 1 [25] [(8,vp (pa d))]<| T_sz<| T_srz 2<| T_ed 1 [] [(9,vi 0)]<| T_bz 0 ?_
 obtain⟨ce,m11,i5,i6⟩:=h
 refine S_loop (x:=K10) (σ:=Int) (λs_=> [(0,vp hv),(1,vs aj s ag),(2,vi g),(8,vp (pa d)),(9,vi s_)]) (λs_ H=>ce s_ H) (λs_ H=>m11 s_ H) (0:Int) (by kernel_rfl) i5 sk ?_
 rintro i H3 i7
 have h:=i6 i H3 i7
 refine T_su [(0,vp hv),(1,vs aj s ag),(2,vi g),(8,vp (pa d)),(9,vi i)]<| T_sz<| T_srz 3<| T_ed 4 [] [(29,.bool (decide (i< (s:Int))))] ?_
 by_cases c8:i< (s:Int)
 ·rw[if_pos c8]at h
  refine T_cTz 29 (zX c8)<| T_kt<| T_sz<| T_bz 1<| T_rz 5<| T_nd 3 [29] [(32,vp (pa d)),(33,vs aj s ag),(34,vi i)] ?_
  obtain⟨am,rfl,q10,h⟩:=h
  refine T_xd (some 35) 27 24 1 am s ag .i64 i Tryz.underlying27 q10.1 q10.2 [1,33,34] [(1,vs (some am) s ag),(35,vp (some (am.add (Int.toNat i*1))))] ?_
  obtain⟨x,q11,h⟩:=h
  refine T_l1 36 24 q11 [35]<| T_c (some 37) h ?_;clear h
  rintro v H4 ⟨db,rfl,h⟩
  exact T_pd [32,36] []<| zq<| S_blockEnd<| S_then<| T_rz 4<| T_ed 3 [9] [(9,vi (zY (i+1)))]<| S_round ((zY (i+1)):Int) sk h
 rw[if_neg c8]at h
 refine T_cFz 29 (zQ c8)<| zj 0<| S_exitThen<| S_exitThen<| S_exitHere<| S_then<| T_srz 6<| T_nd 1 [1,9,29] [(38,vp hv)] ?_
 obtain⟨f,rfl,h⟩:=h
 refine T_nd 2 [0,38] [(0,vp (some f)),(40,vp (some f))] ?_
 obtain⟨cg,q12,h⟩:=h
 refine T_l1 41 26 q12 [40] ?_
 obtain⟨b8,rfl,h⟩:=h
 refine T_nd 2 [41] [(43,vp (some b8))] ?_
 obtain⟨ci,q13,h⟩:=h
 refine T_l1 44 39 q13 [43] ?_
 obtain⟨ch,rfl,h⟩:=h
 refine T_nd 2 [44] [(46,vp (some ch))] ?_
 obtain⟨b3,q14,h⟩:=h
 refine T_l1 47 69 q14 [46]<| T_c (some 48) h ?_;clear h
 rintro c3 H5 ⟨xB,xN,xC,rfl,h⟩
 refine T_pd [47] [(48,vs xB xN xC)]<| T_ed 1 [48] [(10,vs xB xN xC)]<| T_sz<| T_srz 7<| T_ed 1 [] [(11,vi 0)]<| T_bz 2 ?_
 obtain⟨bq,m28,i15,i16⟩:=h
 refine S_loop (x:=K27) (σ:=Int) (λs_=> [(0,vp (some f)),(2,vi g),(8,vp (pa d)),(10,vs xB xN xC),(11,vi s_)]) (λs_ H=>bq s_ H) (λs_ H=>m28 s_ H) (0:Int) (by kernel_rfl) i15 sk ?_
 rintro j H6 i17
 have h:=i16 j H6 i17
 refine T_su [(0,vp (some f)),(2,vi g),(8,vp (pa d)),(10,vs xB xN xC),(11,vi j)]<| T_sz<| T_srz 8<| T_ed 4 [] [(52,.bool (decide (j< (xN:Int))))] ?_
 by_cases c18:j< (xN:Int)
 ·rw[if_pos c18]at h
  refine T_cTz 52 (zX c18)<| T_kt<| T_sz<| T_bz 3<| T_sz ?_
  obtain⟨cz,q20,ba,rfl,ct,q21,a9,rfl,bc,q22,l,rfl,q23,bn,q24,h⟩:=h
  refine yY 10 (Code.ops K37) [(14,f,[vp (some ba)]),(14,ba,[vp (some a9)]),(14,a9,[vp bc]),(14,(l.add (Int.toNat j*1)),[vi bn])] 21 (bv 21 0) (show FactsAt _ _ _ from⟨⟨q20,trivial⟩,⟨q21,trivial⟩,⟨q22,trivial⟩,⟨q24,trivial⟩,trivial⟩)<| T_gp 0 (some 56) (vp (some f)) (bv 21 1) [(0,vp (some f)),(2,vi g),(8,vp (pa d)),(10,vs (some l) xN xC),(11,vi j),(56,vp (some f))]<| T_gp1 1 57 (vp (some f)) (bv 21 3) [56]<| T_gp1 2 58 (vp (some f)) (bv 21 7) [57]<| T_g1 3 59 (vp (some ba)) (bv 21 15) [58] (loadN 26 (vp (some f))) (yW 14 yZ)<| T_gp1 4 60 (vp (some ba)) (bv 21 31) [59]<| T_gp1 5 61 (vp (some ba)) (bv 21 63) [60]<| T_g1 6 62 (vp (some a9)) (bv 21 127) [61] (loadN 39 (vp (some ba))) (yW 14 yX)<| T_gp1 7 63 (vp (some a9)) (bv 21 255) [62]<| T_gp1 8 64 (vp (some a9)) (bv 21 511) [63]<| T_g1 9 65 (vp bc) (bv 21 1023) [64] (loadN 69 (vp (some a9))) (yW 14 yQ)<| T_gp1 10 66 (vs (some l) xN xC) (bv 21 2047) []<| T_gp1 11 67 (vi j) (bv 21 4095) []<| T_g1 12 68 (vp (some (l.add (Int.toNat j*1)))) (bv 21 8191) [66,67] (indexAtN 67 (vs (some l) xN xC) (vi j)) (λ_ w _ _ _=>indexAt_run (P:=Tryz.prog) (t:=67) (elem:=3) (sz:=1) (a:=l) (len:=xN) (cap:=xC) (k:=.i64) (i:=j) Tryz.underlying67 (λ_=>by kernel_rfl) q23.1 q23.2 w)<| T_g1 13 69 (vi bn) (bv 21 16383) [68] (loadN 3 (vp (some (l.add (Int.toNat j*1))))) (yW 14 yJ) ?_
  refine G_fork 14 18 (by kernel_rfl) ?_ ?_
  ·replace h:=h.1
   refine O_call 14 (some 70) (bv 21 32767) 24 #[vp bc,vi bn] (by kernel_rfl) (λ_=>by kernel_rfl) h (by kernel_rfl) ?_;clear h
   rintro c6 H7 ⟨an,al,bb,ac,ae,ab,af,rb,rfl,h⟩
   refine⟨[(0,vp (some f)),(2,vi g),(8,vp (pa d)),(10,vs (some l) xN xC),(11,vi j),(70,.tuple #[.agg #[vi an,vi al,vi bb,vi ac,vi ae,vi ab,vi af],.bool rb])],pk,(show FactsAt _ _ _ from⟨trivial,trivial,trivial,trivial,trivial⟩),?_⟩
   refine T_g 15 (some 55) (.tuple #[.agg #[vi an,vi al,vi bb,vi ac,vi ae,vi ab,vi af],.bool rb]) (bv 21 65535) [(0,vp (some f)),(2,vi g),(8,vp (pa d)),(10,vs (some l) xN xC),(11,vi j),(55,.tuple #[.agg #[vi an,vi al,vi bb,vi ac,vi ae,vi ab,vi af],.bool rb])] (pure (.value (.tuple #[.agg #[vi an,vi al,vi bb,vi ac,vi ae,vi ab,vi af],.bool rb])):Sem Next) (λ_ _ _ _ _=>rfl)<| T_g1 16 71 (.agg #[vi an,vi al,vi bb,vi ac,vi ae,vi ab,vi af]) (bv 21 131071) [] (pure (.value (.agg #[vi an,vi al,vi bb,vi ac,vi ae,vi ab,vi af])):Sem Next) (λ_ _ _ _ _=>rfl)<| T_g1 17 72 (.bool rb) (bv 21 262143) [55] (pure (.value (.bool rb)):Sem Next) (λ_ _ _ _ _=>rfl)<| G_new 18 (some 12) (bv 21 524287) (λb=>vp (pa b)) (.cells #[vi 0,vi 0,vi 0,vi 0,vi 0,vi 0,vi 0] 76) (by kernel_rfl) (λ_=>by kernel_rfl) (by kernel_rfl) ?_
   intro o H8 e25 e26
   replace h:=h o H8 e25 e26
   refine⟨[(0,vp (some f)),(2,vi g),(8,vp (pa d)),(10,vs (some l) xN xC),(11,vi j),(12,vp (pa o)),(71,.agg #[vi an,vi al,vi bb,vi ac,vi ae,vi ab,vi af]),(72,.bool rb)],pk,(show FactsAt _ _ _ from⟨trivial,trivial,trivial,trivial,trivial⟩),?_⟩
   obtain⟨q28,h⟩:=h
   refine G_onlyskip 19 none (bv 21 1048575) (storeN 76 (vp (pa o)) (.agg #[vi an,vi al,vi bb,vi ac,vi ae,vi ab,vi af])) (λHz=>Hz=hputs H8 (ad o) [vi an,vi al,vi bb,vi ac,vi ae,vi ab,vi af] 0) (by kernel_rfl) (λ_=>by kernel_rfl) (ss_store [vi an,vi al,vi bb,vi ac,vi ae,vi ab,vi af] 7 (by kernel_rfl) (by kernel_rfl) (λ_=>by kernel_rfl) (by kernel_rfl) q28) (by kernel_rfl) ?_
   intro H9 e27
   replace h:=h H9 e27
   refine⟨[(0,vp (some f)),(2,vi g),(8,vp (pa d)),(10,vs (some l) xN xC),(11,vi j),(12,vp (pa o)),(72,.bool rb)],pk,(show FactsAt _ _ _ from⟨trivial,trivial,trivial,trivial,trivial⟩),?_⟩
   refine T_g 20 (some 13) (.bool rb) (bv 21 2097151) [(0,vp (some f)),(2,vi g),(8,vp (pa d)),(10,vs (some l) xN xC),(11,vi j),(12,vp (pa o))] (pure (.value (.bool rb)):Sem Next) (λ_ _ _ _ _=>rfl)<| G_sub [(0,vp (some f)),(2,vi g),(8,vp (pa d)),(10,vs (some l) xN xC),(11,vi j),(12,vp (pa o))] sk<| yx<| S_then<| T_srz 11<| T_ne 1 [(0,vp (some f)),(2,vi g),(8,vp (pa d)),(10,vs (some l) xN xC),(11,vi j),(12,vp (pa o)),(14,vi 0)]<| T_bz 4 ?_
   obtain⟨b2,m43,i29,i30⟩:=h
   refine S_loop (x:=K42) (σ:=Int) (λs_=> [(0,vp (some f)),(2,vi g),(8,vp (pa d)),(10,vs (some l) xN xC),(11,vi j),(12,vp (pa o)),(14,vi s_)]) (λs_ H=>b2 s_ H) (λs_ H=>m43 s_ H) (0:Int) (by kernel_rfl) i29 sk ?_
   rintro k H10 i31
   have h:=i30 k H10 i31
   refine T_su [(0,vp (some f)),(2,vi g),(8,vp (pa d)),(10,vs (some l) xN xC),(11,vi j),(12,vp (pa o)),(14,vi k)]<| T_sz<| T_srz 12<| T_nd 2 [] [(73,vi k),(74,vp (some ((ad o).add 2)))] ?_
   obtain⟨bi,q32,h⟩:=h
   refine T_l1 75 3 q32 [74]<| T_nd 2 [73,75] [(77,.bool (decide (k<bi)))] ?_
   by_cases c33:k<bi
   ·rw[if_pos c33]at h
    refine N_bd 77 (zX c33)<| T_nd 1 [] [(78,vp (pa o))] ?_
    obtain⟨bk,q35,h⟩:=h
    refine T_l1 79 3 q35 [78]<| T_nd 4 [77,79] [(83,.bool (decide (bk>g)))] ?_
    by_cases c36:bk>g
    ·rw[if_pos c36]at h
     refine N_bd 83 (zX c36)<| T_nd 1 [] [(84,vp (some ((ad o).add 1)))] ?_
     obtain⟨bj,q38,h⟩:=h
     refine T_l1 85 3 q38 [84]<| T_ed 2 [83,85] [(87,.bool (bj !=3))] ?_
     by_cases c39:bj=3
     ·rw[if_pos c39]at h
      exact T_cFz 87 (bne_eq_false_iff_eq.mpr c39)<| zj 4<| S_exitThen<| S_exitThen<| S_exitHere<| S_blockEnd<| S_then<| T_rz 9<| T_ed 3 [11,12,14,87] [(11,vi (zY (j+1)))]<| S_round ((zY (j+1)):Int) sk h
     rw[if_neg c39]at h
     refine T_cTz 87 (bne_iff_ne.mpr c39)<| T_kt<| T_sz<| T_bz 5<| T_sz ?_
     obtain⟨cn,q41,a2,rfl,cl,q42,ay,rfl,a1,q43,q44,az,q45,h⟩:=h
     refine yY 14 (Code.ops K52) [(17,f,[vp (some a2)]),(17,a2,[vp (some ay)]),(17,ay,[vp a1]),(17,(l.add (Int.toNat j*1)),[vi az])] 23 (bv 23 0) (show FactsAt _ _ _ from⟨⟨q41,trivial⟩,⟨q42,trivial⟩,⟨q43,trivial⟩,⟨q45,trivial⟩,trivial⟩)<| T_gp 0 (some 91) (vp (some f)) (bv 23 1) [(0,vp (some f)),(2,vi g),(8,vp (pa d)),(10,vs (some l) xN xC),(11,vi j),(12,vp (pa o)),(14,vi k),(91,vp (some f))]<| T_gp1 1 92 (vp (some f)) (bv 23 3) [91]<| T_gp1 2 93 (vp (some f)) (bv 23 7) [92]<| T_g1 3 94 (vp (some a2)) (bv 23 15) [93] (loadN 26 (vp (some f))) (yW 17 yZ)<| T_gp1 4 95 (vp (some a2)) (bv 23 31) [94]<| T_gp1 5 96 (vp (some a2)) (bv 23 63) [95]<| T_g1 6 97 (vp (some ay)) (bv 23 127) [96] (loadN 39 (vp (some a2))) (yW 17 yX)<| T_gp1 7 98 (vp (some ay)) (bv 23 255) [97]<| T_gp1 8 99 (vp (some ay)) (bv 23 511) [98]<| T_g1 9 100 (vp a1) (bv 23 1023) [99] (loadN 69 (vp (some ay))) (yW 17 yQ)<| T_gp1 10 101 (vs (some l) xN xC) (bv 23 2047) []<| T_gp1 11 102 (vi j) (bv 23 4095) []<| T_g1 12 103 (vp (some (l.add (Int.toNat j*1)))) (bv 23 8191) [101,102] (indexAtN 67 (vs (some l) xN xC) (vi j)) (λ_ w _ _ _=>indexAt_run (P:=Tryz.prog) (t:=67) (elem:=3) (sz:=1) (a:=l) (len:=xN) (cap:=xC) (k:=.i64) (i:=j) Tryz.underlying67 (λ_=>by kernel_rfl) q44.1 q44.2 w)<| T_g1 13 104 (vi az) (bv 23 16383) [103] (loadN 3 (vp (some (l.add (Int.toNat j*1))))) (yW 17 yJ)<| T_gp1 14 105 (vi (zY (64*az))) (bv 23 32767) [104]<| T_gp1 15 106 (vi k) (bv 23 65535) []<| T_gp1 16 107 (vi (zY ((zY (64*az))+k))) (bv 23 131071) [105,106]<| yq 17 (some 108) (bv 23 262143) 25 #[vp a1,vi (zY ((zY (64*az))+k))] h ?_;clear h
     rintro c5 cc ⟨ra,a8,rfl,h⟩
     refine⟨[(0,vp (some f)),(2,vi g),(8,vp (pa d)),(10,vs (some l) xN xC),(11,vi j),(12,vp (pa o)),(14,vi k),(108,.tuple #[vu ra,vi a8])],pk,(show FactsAt _ _ _ from⟨trivial,trivial,trivial,trivial,trivial⟩),?_⟩
     refine T_g 18 (some 90) (.tuple #[vu ra,vi a8]) (bv 23 524287) [(0,vp (some f)),(2,vi g),(8,vp (pa d)),(10,vs (some l) xN xC),(11,vi j),(12,vp (pa o)),(14,vi k),(90,.tuple #[vu ra,vi a8])] (pure (.value (.tuple #[vu ra,vi a8])):Sem Next) (λ_ _ _ _ _=>rfl)<| T_g1 19 109 (vu ra) (bv 23 1048575) [] (pure (.value (vu ra)):Sem Next) (λ_ _ _ _ _=>rfl)<| T_g1 20 110 (vi a8) (bv 23 2097151) [90] (pure (.value (vi a8)):Sem Next) (λ_ _ _ _ _=>rfl)<| T_g1 21 15 (vu ra) (bv 23 4194303) [109] (pure (.value (vu ra)):Sem Next) (λ_ _ _ _ _=>rfl)<| T_gd 22 (some 16) (vi a8) (bv 23 8388607) [110] [] (pure (.value (vi a8)):Sem Next) (λ_ _ _ _ _=>rfl)<| G_sub [(0,vp (some f)),(2,vi g),(8,vp (pa d)),(10,vs (some l) xN xC),(11,vi j),(12,vp (pa o)),(14,vi k),(15,vu ra)] sk<| yx<| S_then<| T_srz 15<| T_n 1 [(0,vp (some f)),(2,vi g),(8,vp (pa d)),(10,vs (some l) xN xC),(11,vi j),(12,vp (pa o)),(14,vi k),(15,vu ra),(111,vp (some ((ad o).add 1)))] ?_
     obtain⟨aq,q46,h⟩:=h
     refine T_l1 112 3 q46 [111]<| T_nd 2 [112] [(114,.bool (aq !=1))] ?_
     refine N_cut [(0,vp (some f)),(2,vi g),(8,vp (pa d)),(10,vs (some l) xN xC),(11,vi j),(12,vp (pa o)),(14,vi k),(15,vu ra),(118,.bool ((aq !=1) || ((iand .i64 k 1)==1)))] ?_ ?_
     ·refine S_then ?_
      by_cases c49:((aq !=1) || ((iand .i64 k 1)==1))=true
      ·rw[if_pos c49]at h
       refine T_cTz 118 c49<| T_rz 16<| T_n 2 [(0,vp (some f)),(2,vi g),(8,vp (pa d)),(10,vs (some l) xN xC),(11,vi j),(12,vp (pa o)),(14,vi k),(119,vp (pa d)),(120,vu ra)]<| T_c (some 121) h ?_;clear h
       rintro c9 c2 ⟨c1,rfl,h⟩
       exact T_pd [119,120] []<| zq<| S_blockEnd<| S_then<| T_rz 13<| T_ed 3 [14] [(14,vi (zY (k+1)))]<| S_round ((zY (k+1)):Int) sk h
      rw[if_neg c49]at h
      exact T_cFz 118 (zZ c49)<| T_k<| S_blockEnd<| S_then<| T_rz 13<| T_ne 3 [(0,vp (some f)),(2,vi g),(8,vp (pa d)),(10,vs (some l) xN xC),(11,vi j),(12,vp (pa o)),(14,vi (zY (k+1)))]<| S_round ((zY (k+1)):Int) sk h
     intro hk
     refine T_nu [(0,vp (some f)),(2,vi g),(8,vp (pa d)),(10,vs (some l) xN xC),(11,vi j),(12,vp (pa o)),(14,vi k),(15,vu ra),(114,.bool (aq !=1))] ?_
     by_cases c47:aq=1
     ·have b48:(aq !=1)=false:=bne_eq_false_iff_eq.mpr c47
      refine N_env [(0,vp (some f)),(2,vi g),(8,vp (pa d)),(10,vs (some l) xN xC),(11,vi j),(12,vp (pa o)),(14,vi k),(15,vu ra),(114,.bool false)] (by rw[b48]) ?_
      refine T_nd 4 [114] [(118,.bool ((iand .i64 k 1)==1))]<| zq<| S_bd 118 (b:=((iand .i64 k 1)==1)) (v:=((aq !=1) || ((iand .i64 k 1)==1))) (by simp only[b48,BL]) ?_
      exact hk
     have b48:(aq !=1)=true:=bne_iff_ne.mpr c47
     refine N_env [(0,vp (some f)),(2,vi g),(8,vp (pa d)),(10,vs (some l) xN xC),(11,vi j),(12,vp (pa o)),(14,vi k),(15,vu ra),(114,.bool true)] (by rw[b48]) ?_
     refine T_nd 4 [114] [(118,.bool true)]<| zq<| S_bd 118 (b:=true) (v:=((aq !=1) || ((iand .i64 k 1)==1))) (by simp only[b48,BL]) ?_
     exact hk
    rw[if_neg c36]at h
    refine N_bd 83 (zQ c36)<| T_ed 4 [83] [(87,.bool false)]<| T_fz 87 ?_
    exact zj 4<| S_exitThen<| S_exitThen<| S_exitHere<| S_blockEnd<| S_then<| T_rz 9<| T_ed 3 [11,12,14,87] [(11,vi (zY (j+1)))]<| S_round ((zY (j+1)):Int) sk h
   rw[if_neg c33]at h
   refine N_bd 77 (zQ c33)<| T_ed 10 [77] [(87,.bool false)]<| T_fz 87 ?_
   exact zj 4<| S_exitThen<| S_exitThen<| S_exitHere<| S_blockEnd<| S_then<| T_rz 9<| T_ed 3 [11,12,14,87] [(11,vi (zY (j+1)))]<| S_round ((zY (j+1)):Int) sk h
  replace h:=h.2
  refine O_new 18 (some 12) (bv 21 278527) (λb=>vp (pa b)) (.cells #[vi 0,vi 0,vi 0,vi 0,vi 0,vi 0,vi 0] 76) (by kernel_rfl) (λ_=>by kernel_rfl) (by kernel_rfl) ?_
  intro n H13 e55 e56
  replace h:=h n H13 e55 e56
  obtain⟨f51,f52,f53,f54,h⟩:=h
  refine⟨[(0,vp (some f)),(2,vi g),(8,vp (pa d)),(10,vs (some l) xN xC),(11,vi j),(12,vp (pa n)),(65,vp bc),(69,vi bn)],pk,(show FactsAt _ _ _ from⟨f51,f52,f53,f54,trivial⟩),?_⟩
  refine yq 14 (some 70) (bv 21 294911) 24 #[vp bc,vi bn] h ?_;clear h
  rintro c4 cp ⟨ak,ai,ao,z,y,aa,u,a7,rfl,h⟩
  refine⟨[(0,vp (some f)),(2,vi g),(8,vp (pa d)),(10,vs (some l) xN xC),(11,vi j),(12,vp (pa n)),(70,.tuple #[.agg #[vi ak,vi ai,vi ao,vi z,vi y,vi aa,vi u],.bool a7])],pk,(show FactsAt _ _ _ from⟨trivial,trivial,trivial,trivial,trivial⟩),?_⟩
  refine T_g 15 (some 55) (.tuple #[.agg #[vi ak,vi ai,vi ao,vi z,vi y,vi aa,vi u],.bool a7]) (bv 21 327679) [(0,vp (some f)),(2,vi g),(8,vp (pa d)),(10,vs (some l) xN xC),(11,vi j),(12,vp (pa n)),(55,.tuple #[.agg #[vi ak,vi ai,vi ao,vi z,vi y,vi aa,vi u],.bool a7])] (pure (.value (.tuple #[.agg #[vi ak,vi ai,vi ao,vi z,vi y,vi aa,vi u],.bool a7])):Sem Next) (λ_ _ _ _ _=>rfl)<| T_g1 16 71 (.agg #[vi ak,vi ai,vi ao,vi z,vi y,vi aa,vi u]) (bv 21 393215) [] (pure (.value (.agg #[vi ak,vi ai,vi ao,vi z,vi y,vi aa,vi u])):Sem Next) (λ_ _ _ _ _=>rfl)<| T_g1 17 72 (.bool a7) (bv 21 524287) [55] (pure (.value (.bool a7)):Sem Next) (λ_ _ _ _ _=>rfl) ?_
  obtain⟨q58,h⟩:=h
  refine G_onlyskip 19 none (bv 21 1048575) (storeN 76 (vp (pa n)) (.agg #[vi ak,vi ai,vi ao,vi z,vi y,vi aa,vi u])) (λHz=>Hz=hputs cp (ad n) [vi ak,vi ai,vi ao,vi z,vi y,vi aa,vi u] 0) (by kernel_rfl) (λ_=>by kernel_rfl) (ss_store [vi ak,vi ai,vi ao,vi z,vi y,vi aa,vi u] 7 (by kernel_rfl) (by kernel_rfl) (λ_=>by kernel_rfl) (by kernel_rfl) q58) (by kernel_rfl) ?_
  intro co e57
  replace h:=h co e57
  refine⟨[(0,vp (some f)),(2,vi g),(8,vp (pa d)),(10,vs (some l) xN xC),(11,vi j),(12,vp (pa n)),(72,.bool a7)],pk,(show FactsAt _ _ _ from⟨trivial,trivial,trivial,trivial,trivial⟩),?_⟩
  refine T_g 20 (some 13) (.bool a7) (bv 21 2097151) [(0,vp (some f)),(2,vi g),(8,vp (pa d)),(10,vs (some l) xN xC),(11,vi j),(12,vp (pa n))] (pure (.value (.bool a7)):Sem Next) (λ_ _ _ _ _=>rfl)<| G_sub [(0,vp (some f)),(2,vi g),(8,vp (pa d)),(10,vs (some l) xN xC),(11,vi j),(12,vp (pa n))] sk<| yx<| S_then<| T_srz 11<| T_ne 1 [(0,vp (some f)),(2,vi g),(8,vp (pa d)),(10,vs (some l) xN xC),(11,vi j),(12,vp (pa n)),(14,vi 0)]<| T_bz 4 ?_
  obtain⟨b4,m58,i59,i60⟩:=h
  refine S_loop (x:=K42) (σ:=Int) (λs_=> [(0,vp (some f)),(2,vi g),(8,vp (pa d)),(10,vs (some l) xN xC),(11,vi j),(12,vp (pa n)),(14,vi s_)]) (λs_ H=>b4 s_ H) (λs_ H=>m58 s_ H) (0:Int) (by kernel_rfl) i59 sk ?_
  rintro m H16 i61
  have h:=i60 m H16 i61
  refine T_su [(0,vp (some f)),(2,vi g),(8,vp (pa d)),(10,vs (some l) xN xC),(11,vi j),(12,vp (pa n)),(14,vi m)]<| T_sz<| T_srz 12<| T_nd 2 [] [(73,vi m),(74,vp (some ((ad n).add 2)))] ?_
  obtain⟨bl,q62,h⟩:=h
  refine T_l1 75 3 q62 [74]<| T_nd 2 [73,75] [(77,.bool (decide (m<bl)))] ?_
  by_cases c63:m<bl
  ·rw[if_pos c63]at h
   refine N_bd 77 (zX c63)<| T_nd 1 [] [(78,vp (pa n))] ?_
   obtain⟨bg,q65,h⟩:=h
   refine T_l1 79 3 q65 [78]<| T_nd 4 [77,79] [(83,.bool (decide (bg>g)))] ?_
   by_cases c66:bg>g
   ·rw[if_pos c66]at h
    refine N_bd 83 (zX c66)<| T_nd 1 [] [(84,vp (some ((ad n).add 1)))] ?_
    obtain⟨bf,q68,h⟩:=h
    refine T_l1 85 3 q68 [84]<| T_ed 2 [83,85] [(87,.bool (bf !=3))] ?_
    by_cases c69:bf=3
    ·rw[if_pos c69]at h
     exact T_cFz 87 (bne_eq_false_iff_eq.mpr c69)<| zj 4<| S_exitThen<| S_exitThen<| S_exitHere<| S_blockEnd<| S_then<| T_rz 9<| T_ed 3 [11,12,14,87] [(11,vi (zY (j+1)))]<| S_round ((zY (j+1)):Int) sk h
    rw[if_neg c69]at h
    refine T_cTz 87 (bne_iff_ne.mpr c69)<| T_kt<| T_sz<| T_bz 5<| T_sz ?_
    obtain⟨cm,q71,ax,rfl,cj,q72,a3,rfl,a5,q73,q74,a0,q75,h⟩:=h
    refine yY 14 (Code.ops K52) [(17,f,[vp (some ax)]),(17,ax,[vp (some a3)]),(17,a3,[vp a5]),(17,(l.add (Int.toNat j*1)),[vi a0])] 23 (bv 23 0) (show FactsAt _ _ _ from⟨⟨q71,trivial⟩,⟨q72,trivial⟩,⟨q73,trivial⟩,⟨q75,trivial⟩,trivial⟩)<| T_gp 0 (some 91) (vp (some f)) (bv 23 1) [(0,vp (some f)),(2,vi g),(8,vp (pa d)),(10,vs (some l) xN xC),(11,vi j),(12,vp (pa n)),(14,vi m),(91,vp (some f))]<| T_gp1 1 92 (vp (some f)) (bv 23 3) [91]<| T_gp1 2 93 (vp (some f)) (bv 23 7) [92]<| T_g1 3 94 (vp (some ax)) (bv 23 15) [93] (loadN 26 (vp (some f))) (yW 17 yZ)<| T_gp1 4 95 (vp (some ax)) (bv 23 31) [94]<| T_gp1 5 96 (vp (some ax)) (bv 23 63) [95]<| T_g1 6 97 (vp (some a3)) (bv 23 127) [96] (loadN 39 (vp (some ax))) (yW 17 yX)<| T_gp1 7 98 (vp (some a3)) (bv 23 255) [97]<| T_gp1 8 99 (vp (some a3)) (bv 23 511) [98]<| T_g1 9 100 (vp a5) (bv 23 1023) [99] (loadN 69 (vp (some a3))) (yW 17 yQ)<| T_gp1 10 101 (vs (some l) xN xC) (bv 23 2047) []<| T_gp1 11 102 (vi j) (bv 23 4095) []<| T_g1 12 103 (vp (some (l.add (Int.toNat j*1)))) (bv 23 8191) [101,102] (indexAtN 67 (vs (some l) xN xC) (vi j)) (λ_ w _ _ _=>indexAt_run (P:=Tryz.prog) (t:=67) (elem:=3) (sz:=1) (a:=l) (len:=xN) (cap:=xC) (k:=.i64) (i:=j) Tryz.underlying67 (λ_=>by kernel_rfl) q74.1 q74.2 w)<| T_g1 13 104 (vi a0) (bv 23 16383) [103] (loadN 3 (vp (some (l.add (Int.toNat j*1))))) (yW 17 yJ)<| T_gp1 14 105 (vi (zY (64*a0))) (bv 23 32767) [104]<| T_gp1 15 106 (vi m) (bv 23 65535) []<| T_gp1 16 107 (vi (zY ((zY (64*a0))+m))) (bv 23 131071) [105,106]<| yq 17 (some 108) (bv 23 262143) 25 #[vp a5,vi (zY ((zY (64*a0))+m))] h ?_;clear h
    rintro c7 cd ⟨ah,a6,rfl,h⟩
    refine⟨[(0,vp (some f)),(2,vi g),(8,vp (pa d)),(10,vs (some l) xN xC),(11,vi j),(12,vp (pa n)),(14,vi m),(108,.tuple #[vu ah,vi a6])],pk,(show FactsAt _ _ _ from⟨trivial,trivial,trivial,trivial,trivial⟩),?_⟩
    refine T_g 18 (some 90) (.tuple #[vu ah,vi a6]) (bv 23 524287) [(0,vp (some f)),(2,vi g),(8,vp (pa d)),(10,vs (some l) xN xC),(11,vi j),(12,vp (pa n)),(14,vi m),(90,.tuple #[vu ah,vi a6])] (pure (.value (.tuple #[vu ah,vi a6])):Sem Next) (λ_ _ _ _ _=>rfl)<| T_g1 19 109 (vu ah) (bv 23 1048575) [] (pure (.value (vu ah)):Sem Next) (λ_ _ _ _ _=>rfl)<| T_g1 20 110 (vi a6) (bv 23 2097151) [90] (pure (.value (vi a6)):Sem Next) (λ_ _ _ _ _=>rfl)<| T_g1 21 15 (vu ah) (bv 23 4194303) [109] (pure (.value (vu ah)):Sem Next) (λ_ _ _ _ _=>rfl)<| T_gd 22 (some 16) (vi a6) (bv 23 8388607) [110] [] (pure (.value (vi a6)):Sem Next) (λ_ _ _ _ _=>rfl)<| G_sub [(0,vp (some f)),(2,vi g),(8,vp (pa d)),(10,vs (some l) xN xC),(11,vi j),(12,vp (pa n)),(14,vi m),(15,vu ah)] sk<| yx<| S_then<| T_srz 15<| T_n 1 [(0,vp (some f)),(2,vi g),(8,vp (pa d)),(10,vs (some l) xN xC),(11,vi j),(12,vp (pa n)),(14,vi m),(15,vu ah),(111,vp (some ((ad n).add 1)))] ?_
    obtain⟨au,q76,h⟩:=h
    refine T_l1 112 3 q76 [111]<| T_nd 2 [112] [(114,.bool (au !=1))] ?_
    refine N_cut [(0,vp (some f)),(2,vi g),(8,vp (pa d)),(10,vs (some l) xN xC),(11,vi j),(12,vp (pa n)),(14,vi m),(15,vu ah),(118,.bool ((au !=1) || ((iand .i64 m 1)==1)))] ?_ ?_
    ·refine S_then ?_
     by_cases c79:((au !=1) || ((iand .i64 m 1)==1))=true
     ·rw[if_pos c79]at h
      refine T_cTz 118 c79<| T_rz 16<| T_n 2 [(0,vp (some f)),(2,vi g),(8,vp (pa d)),(10,vs (some l) xN xC),(11,vi j),(12,vp (pa n)),(14,vi m),(119,vp (pa d)),(120,vu ah)]<| T_c (some 121) h ?_;clear h
      rintro da cu ⟨cx,rfl,h⟩
      exact T_pd [119,120] []<| zq<| S_blockEnd<| S_then<| T_rz 13<| T_ed 3 [14] [(14,vi (zY (m+1)))]<| S_round ((zY (m+1)):Int) sk h
     rw[if_neg c79]at h
     exact T_cFz 118 (zZ c79)<| T_k<| S_blockEnd<| S_then<| T_rz 13<| T_ne 3 [(0,vp (some f)),(2,vi g),(8,vp (pa d)),(10,vs (some l) xN xC),(11,vi j),(12,vp (pa n)),(14,vi (zY (m+1)))]<| S_round ((zY (m+1)):Int) sk h
    intro hk
    refine T_nu [(0,vp (some f)),(2,vi g),(8,vp (pa d)),(10,vs (some l) xN xC),(11,vi j),(12,vp (pa n)),(14,vi m),(15,vu ah),(114,.bool (au !=1))] ?_
    by_cases c77:au=1
    ·have b78:(au !=1)=false:=bne_eq_false_iff_eq.mpr c77
     refine N_env [(0,vp (some f)),(2,vi g),(8,vp (pa d)),(10,vs (some l) xN xC),(11,vi j),(12,vp (pa n)),(14,vi m),(15,vu ah),(114,.bool false)] (by rw[b78]) ?_
     refine T_nd 4 [114] [(118,.bool ((iand .i64 m 1)==1))]<| zq<| S_bd 118 (b:=((iand .i64 m 1)==1)) (v:=((au !=1) || ((iand .i64 m 1)==1))) (by simp only[b78,BL]) ?_
     exact hk
    have b78:(au !=1)=true:=bne_iff_ne.mpr c77
    refine N_env [(0,vp (some f)),(2,vi g),(8,vp (pa d)),(10,vs (some l) xN xC),(11,vi j),(12,vp (pa n)),(14,vi m),(15,vu ah),(114,.bool true)] (by rw[b78]) ?_
    refine T_nd 4 [114] [(118,.bool true)]<| zq<| S_bd 118 (b:=true) (v:=((au !=1) || ((iand .i64 m 1)==1))) (by simp only[b78,BL]) ?_
    exact hk
   rw[if_neg c66]at h
   refine N_bd 83 (zQ c66)<| T_ed 4 [83] [(87,.bool false)]<| T_fz 87 ?_
   exact zj 4<| S_exitThen<| S_exitThen<| S_exitHere<| S_blockEnd<| S_then<| T_rz 9<| T_ed 3 [11,12,14,87] [(11,vi (zY (j+1)))]<| S_round ((zY (j+1)):Int) sk h
  rw[if_neg c63]at h
  refine N_bd 77 (zQ c63)<| T_ed 10 [77] [(87,.bool false)]<| T_fz 87 ?_
  exact zj 4<| S_exitThen<| S_exitThen<| S_exitHere<| S_blockEnd<| S_then<| T_rz 9<| T_ed 3 [11,12,14,87] [(11,vi (zY (j+1)))]<| S_round ((zY (j+1)):Int) sk h
 rw[if_neg c18]at h
 refine T_cFz 52 (zQ c18)<| zj 2<| S_exitThen<| S_exitThen<| S_exitHere<| S_then<| T_sz<| T_srz 17<| T_ed 1 [2,10,11,52] [(17,vi 0)]<| T_bz 6 ?_
 obtain⟨b1,m64,i81,i82⟩:=h
 refine S_loop (x:=K63) (σ:=Int) (λs_=> [(0,vp (some f)),(8,vp (pa d)),(17,vi s_)]) (λs_ H=>b1 s_ H) (λs_ H=>m64 s_ H) (0:Int) (by kernel_rfl) i81 sk ?_
 rintro q H19 i83
 have h:=i82 q H19 i83
 refine T_su [(0,vp (some f)),(8,vp (pa d)),(17,vi q)]<| T_sz<| T_srz 18<| T_nd 4 [] [(122,vi q),(125,vp (some ((ad d).add 1)))] ?_
 obtain⟨b7,bh,b6,q84,h⟩:=h
 refine T_l1 126 27 q84 [125]<| T_ed 2 [122,126] [(128,.bool (decide (q< (bh:Int))))] ?_
 by_cases c85:q< (bh:Int)
 ·rw[if_pos c85]at h
  refine T_cTz 128 (zX c85)<| T_kt<| T_sz<| T_bz 7<| T_srz 20<| T_nd 3 [128] [(133,vp (some ((ad d).add 1)))] ?_
  obtain⟨bt,bp,bs,q87,h⟩:=h
  refine T_l1 134 27 q87 [133]<| T_nd 1 [] [(135,vi q)] ?_
  obtain⟨bm,rfl,q88,h⟩:=h
  refine T_xd (some 136) 27 24 1 bm bp bs .i64 q Tryz.underlying27 q88.1 q88.2 [134,135] [(136,vp (some (bm.add (Int.toNat q*1))))] ?_
  obtain⟨p,q89,h⟩:=h
  refine T_l1 137 24 q89 [136]<| T_ed 1 [137] [(18,vu p)]<| T_srz 21<| T_ed 1 [] [(19,vi 0)]<| T_bz 8 ?_
  obtain⟨b5,m79,i90,i91⟩:=h
  refine S_loop (x:=K78) (σ:=Int) (λs_=> [(0,vp (some f)),(8,vp (pa d)),(17,vi q),(18,vu p),(19,vi s_)]) (λs_ H=>b5 s_ H) (λs_ H=>m79 s_ H) (0:Int) (by kernel_rfl) i90 sk ?_
  rintro r H20 i92
  have h:=i91 r H20 i92
  refine T_su [(0,vp (some f)),(8,vp (pa d)),(17,vi q),(18,vu p),(19,vi r)]<| T_sz<| T_srz 22<| T_nd 3 [] [(138,vi r),(139,vp (some f)),(140,vu p)]<| T_c (some 141) h ?_;clear h
  rintro dc cr ⟨bo,rfl,h⟩
  refine T_pd [139,140] [(141,vi bo)]<| T_nd 2 [138,141] [(143,.bool (decide (r<bo)))] ?_
  by_cases c93:r<bo
  ·rw[if_pos c93]at h
   refine N_bd 143 (zX c93)<| T_nd 2 [] [(144,vp (some f)),(145,vu p)] ?_
   refine T_c (some 146) h ?_;clear h
   rintro cs bx ⟨be,rfl,h⟩
   refine T_pd [144,145] [(146,.bool be)]<| T_ed 2 [143,146] [(148,.bool (!be))] ?_
   by_cases c95:be=true
   ·rw[if_pos c95]at h
    exact T_cFz 148 (congrArg Bool.not (c95))<| zj 8<| S_exitThen<| S_exitThen<| S_exitHere<| S_blockEnd<| S_then<| T_rz 19<| T_ed 3 [17,18,19,148] [(17,vi (zY (q+1)))]<| S_round ((zY (q+1)):Int) sk h
   rw[if_neg c95]at h
   refine T_cTz 148 (congrArg Bool.not (zZ c95))<| T_kt<| T_sz<| T_bz 9<| T_srz 24<| T_nd 3 [148] [(154,vp (some f))] ?_
   obtain⟨bz,q97,h⟩:=h
   refine T_l1 155 26 q97 [154] ?_
   obtain⟨bu,rfl,h⟩:=h
   refine T_nd 2 [155] [(157,vp (some bu))] ?_
   obtain⟨bw,q98,h⟩:=h
   refine T_l1 158 39 q98 [157] ?_
   obtain⟨b0,rfl,h⟩:=h
   refine T_nd 2 [158] [(160,vp (some b0))] ?_
   obtain⟨br,q99,h⟩:=h
   refine T_l1 161 69 q99 [160]<| T_nd 5 [] [(166,vi (zY ((zY (ishr .u64 p 3))+r)))]<| T_c (some 167) h ?_;clear h
   rintro cw cq ⟨ap,ck,rfl,h⟩
   refine T_pd [161,166] [(167,.tuple #[vu ap,vi ck])]<| T_ed 5 [167] [(20,vu ap)]<| T_srz 25 ?_
   refine N_cut [(0,vp (some f)),(8,vp (pa d)),(17,vi q),(18,vu p),(19,vi r),(20,vu ap),(176,.bool (((iand .u64 p 7) !=2) || (r==1)))] ?_ ?_
   ·refine S_then ?_
    by_cases c102:(((iand .u64 p 7) !=2) || (r==1))=true
    ·rw[if_pos c102]at h
     refine T_cTz 176 c102<| T_rz 26<| T_n 2 [(0,vp (some f)),(8,vp (pa d)),(17,vi q),(18,vu p),(19,vi r),(177,vp (pa d)),(178,vu ap)]<| T_c (some 179) h ?_;clear h
     rintro c0 cv ⟨cy,rfl,h⟩
     exact T_pd [177,178] []<| zq<| S_blockEnd<| S_then<| T_rz 23<| T_ed 3 [19] [(19,vi (zY (r+1)))]<| S_round ((zY (r+1)):Int) sk h
    rw[if_neg c102]at h
    exact T_cFz 176 (zZ c102)<| T_k<| S_blockEnd<| S_then<| T_rz 23<| T_ne 3 [(0,vp (some f)),(8,vp (pa d)),(17,vi q),(18,vu p),(19,vi (zY (r+1)))]<| S_round ((zY (r+1)):Int) sk h
   intro hk
   refine T_n 4 [(0,vp (some f)),(8,vp (pa d)),(17,vi q),(18,vu p),(19,vi r),(20,vu ap),(173,.bool ((iand .u64 p 7) !=2))] ?_
   by_cases c100:(iand .u64 p 7)=2
   ·have b101:((iand .u64 p 7) !=2)=false:=bne_eq_false_iff_eq.mpr c100
    refine N_env [(0,vp (some f)),(8,vp (pa d)),(17,vi q),(18,vu p),(19,vi r),(20,vu ap),(173,.bool false)] (by rw[b101]) ?_
    refine T_nd 3 [173] [(176,.bool (r==1))]<| zq<| S_bd 176 (b:=(r==1)) (v:=(((iand .u64 p 7) !=2) || (r==1))) (by simp only[b101,BL]) ?_
    exact hk
   have b101:((iand .u64 p 7) !=2)=true:=bne_iff_ne.mpr c100
   refine N_env [(0,vp (some f)),(8,vp (pa d)),(17,vi q),(18,vu p),(19,vi r),(20,vu ap),(173,.bool true)] (by rw[b101]) ?_
   refine T_nd 3 [173] [(176,.bool true)]<| zq<| S_bd 176 (b:=true) (v:=(((iand .u64 p 7) !=2) || (r==1))) (by simp only[b101,BL]) ?_
   exact hk
  rw[if_neg c93]at h
  refine N_bd 143 (zQ c93)<| T_ed 5 [143] [(148,.bool false)]<| T_fz 148 ?_
  exact zj 8<| S_exitThen<| S_exitThen<| S_exitHere<| S_blockEnd<| S_then<| T_rz 19<| T_ed 3 [17,18,19,148] [(17,vi (zY (q+1)))]<| S_round ((zY (q+1)):Int) sk h
 rw[if_neg c85]at h
 refine T_cFz 128 (zQ c85)<| zj 6<| S_exitThen<| S_exitThen<| S_exitHere<| S_then<| T_sz<| T_rqz 27<| T_q1 180 (vp (pa d)) [0,17,128]<| T_q1 181 (vp (pa d)) [180]<| T_q1 182 (vp (some ((ad d).add 1))) [181] ?_
 obtain⟨a4,aw,av,q104,h⟩:=h
 refine T_qld (some 183) 27 q104 [182] [(183,vs a4 aw av)]<| T_q1 184 (vp (pa d)) [8]<| T_q1 185 (vp (pa d)) [184]<| T_q1 186 (vp (some ((ad d).add 2))) [185] ?_
 obtain⟨bd,q105,h⟩:=h
 exact T_qld (some 187) 61 q105 [186] [(187,.map bd)]<| T_q1 6 (vs a4 aw av) [183]<| T_q1 7 (.map bd) [187]<| Q_sub [(6,vs a4 aw av),(7,.map bd)] sk<| T_qe<| T_ret [6,7] [vs a4 aw av,.map bd] hQ h
end morainelaw13_strong

