/- Printed: what each function asks, and that it is sound. -/
import Derived.Test.YtibpklpgmgakcaaGreatDoorFnsC
set_option linter.unusedSimpArgs false
set_option linter.unusedVariables false
set_option maxRecDepth 100000
set_option maxHeartbeats 1000000
noncomputable section
namespace Go.Proofs.YtibpklpgmgakcaaGreatDoor
open Go
/-! (*moraine/moraineref17.Read).Datum -/
namespace moraineref17_Read_Datum
def K0:=Func.code Tryz.f9
def K2:=cb K0
def K4:=cb K2
def K6:=cb K4
def K14:=cb K6
def K15:=ca K14
def K18:=cb K15
def K19:=ca K18
def K21:=cb K19
def K23:=cb K21
def K27:=cb K23
def K28:=ca K27
def K31:=cb K28
def K39:=cb K31
def K40:=ca K39
def K43:=cb K40
def K44:=ca K43
def K45:=ca K44
end moraineref17_Read_Datum
def moraineref17_Read_Datum.pt(r lB:Option Addr)(lN lC:Nat)(j d:Int)(H:Array Obj)(R:Value->Array Obj->Prop):Prop:=
 ∀(b:Nat) (H1:Array Obj),b=H.size->H1=H.push (.cells (DR 0 0 false none 0 0 (ByteArray.mk #[]) none 0 0).toArray 51)->
 ∃rA:Addr,r=some rA/\
 ∃x:Int,hat H1 rA=some (.int .i64 x)/\
 (CanPuts H1 rA 0 1)/\ ∀H2,H2=hputs H1 rA [.int .i64 (IntKind.wrap .i64 (x+1))] 0->
 ∃c9:Int,hat H2 rA=some (.int .i64 c9)/\
 if c9>4096 then(
 (CanPuts H2 (ad b) 0 6)/\ ∀H3,H3=hputs H2 (ad b) (DR 0 0 false none 0 0 (ByteArray.mk #[]) none 0 0) 0->
 ∃dh rC dj c3 da c5 rT ez ex ey,RowAt H3 (ad b) 0 (DR dh rC dj c3 da c5 rT ez ex ey)/\
 R (.tuple #[.agg (DR dh rC dj c3 da c5 rT ez ex ey).toArray,.int .i64 6]) H3)
 else
 ∃e:Addr,lB=some e/\
 ((0:Int)<=j/\j< (lN:Int))/\
 ∃(aq c4:Int) (au:Bool) (ag:Option Addr) (af ak:Nat) (de:ByteArray) (bs:Option Addr) (bd bj:Nat) (dd:Option Addr) (db c6:Nat),RowAt H2 (e.add (Int.toNat j*7)) 0 [.int .i64 aq,.int .i32 c4,.bool au,.slice ag af ak,.string de,.slice bs bd bj,.slice dd db c6]/\
 ∀(f:Nat) (H4:Array Obj),f=H2.size->H4=H2.push (.cells #[.int .i64 0,.int .i32 0,.bool false,.slice none 0 0,.string (ByteArray.mk #[]),.slice none 0 0,.slice none 0 0] 70)->
 (CanPuts H4 (ad f) 0 7)/\ ∀H5,H5=hputs H4 (ad f) [.int .i64 aq,.int .i32 c4,.bool au,.slice ag af ak,.string de,.slice bs bd bj,.slice dd db c6] 0->
 ∃q:Int,hat H5 (ad f)=some (.int .i64 q)/\
 if q=(-1)then(
 (CanPuts H5 (ad b) 0 6)/\ ∀H6,H6=hputs H5 (ad b) (DR 0 0 false none 0 0 (ByteArray.mk #[]) none 0 0) 0->
 ∃cr ea c0 bu bi be en dp dk d3,RowAt H6 (ad b) 0 (DR cr ea c0 bu bi be en dp dk d3)/\
 R (.tuple #[.agg (DR cr ea c0 bu bi be en dp dk d3).toArray,.int .i64 3]) H6)
 else
 if q=8 then(
 if d=64 then(
 (CanPuts H5 (ad b) 0 6)/\ ∀H7,H7=hputs H5 (ad b) (DR 0 0 false none 0 0 (ByteArray.mk #[]) none 0 0) 0->
 ∃cp ef cj b5 bq b3 ee d1 d4 d2,RowAt H7 (ad b) 0 (DR cp ef cj b5 bq b3 ee d1 d4 d2)/\
 R (.tuple #[.agg (DR cp ef cj b5 bq b3 ee d1 d4 d2).toArray,.int .i64 10]) H7)
 else
 ∀(g:Nat) (H8:Array Obj),g=H5.size->H8=H5.push (.cells (DR 0 0 false none 0 0 (ByteArray.mk #[]) none 0 0).toArray 51)->
 (CanPuts H8 (ad g) 0 6)/\ ∀H9,H9=hputs H8 (ad g) (DR 8 0 false none 0 0 (ByteArray.mk #[]) none 0 0) 0->
 ∃(ev:Int->Array Obj->Prop) (m46:Int->Array Obj->Nat),ev 0 H9/\ ∀(i:Int) (H10:Array Obj),ev i H10->
 ∃(xB:Option Addr) (xN xC:Nat),hat H10 ((ad f).add 6)=some (.slice xB xN xC)/\
 if i< (xN:Int)then(
 ∃(df:Option Addr) (cg c2:Nat),hat H10 ((ad f).add 6)=some (.slice df cg c2)/\
 ∃ch:Addr,df=some ch/\
 ((0:Int)<=i/\i< (cg:Int))/\
 ∃d6:Int,hat H10 (ch.add (Int.toNat i*1))=some (.int .i64 d6)/\
 moraineref17_Read_Datum.C (some rA) (some e) lN lC d6 (IntKind.wrap .i64 (d+1)) H10 (λv e3=> ∃(ax dc:Int) (aw:Bool) (ah:Option Addr) (aj ai:Nat) (c8:ByteArray) (bp:Option Addr) (b1 bk:Nat) (rb:Int),v=.tuple #[.agg (DR ax dc aw ah aj ai c8 bp b1 bk).toArray,.int .i64 rb]/\
 ∀(a1:Nat) (H12:Array Obj),a1=e3.size->H12=e3.push (.cells (DR 0 0 false none 0 0 (ByteArray.mk #[]) none 0 0).toArray 51)->
 (CanPuts H12 (ad a1) 0 6)/\ ∀c1,c1=hputs H12 (ad a1) (DR ax dc aw ah aj ai c8 bp b1 bk) 0->
 if rb=0 then(
 ∃(cf:Option Addr) (av cd:Nat),hat c1 ((ad g).add 5)=some (.slice cf av cd)/\
 ∃cm dg cw bc ba bb xT cn cq ci,RowAt c1 (ad a1) 0 (DR cm dg cw bc ba bb xT cn cq ci)/\
 ∀(d8:Nat) (H14:Array Obj),d8=c1.size->H14=c1.push (.cells (DR cm dg cw bc ba bb xT cn cq ci).toArray 51)->
 appendK 6 51 88 (DR 0 0 false none 0 0 (ByteArray.mk #[]) none 0 0) cf av cd (some (ad d8)) 1 H14 (λap d7 ew=>
 (CanPuts ew ((ad g).add 5) 0 1)/\ ∀eo,eo=hputs ew ((ad g).add 5) [.slice ap (av+1) d7] 0->
 (ev (IntKind.wrap .i64 (i+1)) eo/\m46 (IntKind.wrap .i64 (i+1)) eo<m46 i H10)))
 else
 (CanPuts c1 (ad b) 0 6)/\ ∀eu,eu=hputs c1 (ad b) (DR 0 0 false none 0 0 (ByteArray.mk #[]) none 0 0) 0->
 ∃cz ek cl bl bh b4 ei dz dx dr,RowAt eu (ad b) 0 (DR cz ek cl bl bh b4 ei dz dx dr)/\
 R (.tuple #[.agg (DR cz ek cl bl bh b4 ei dz dx dr).toArray,.int .i64 rb]) eu))
 else
 ∃am cc ao y z ac b7 a3 a8 a6,RowAt H10 (ad g) 0 (DR am cc ao y z ac b7 a3 a8 a6)/\
 (CanPuts H10 (ad b) 0 6)/\ ∀et,et=hputs H10 (ad b) (DR am cc ao y z ac b7 a3 a8 a6) 0->
 ∃cx ej ck bw b0 bg eg d0 d5 dm,RowAt et (ad b) 0 (DR cx ej ck bw b0 bg eg d0 d5 dm)/\
 R (.tuple #[.agg (DR cx ej ck bw b0 bg eg d0 d5 dm).toArray,.int .i64 0]) et)
 else
 if q=7 then(
 if d=64 then(
 (CanPuts H5 (ad b) 0 6)/\ ∀ep,ep=hputs H5 (ad b) (DR 0 0 false none 0 0 (ByteArray.mk #[]) none 0 0) 0->
 ∃co em cv bz b2 bn eh dt dw dy,RowAt ep (ad b) 0 (DR co em cv bz b2 bn eh dt dw dy)/\
 R (.tuple #[.agg (DR co em cv bz b2 bn eh dt dw dy).toArray,.int .i64 10]) ep)
 else
 moraineref17_Read_rest.C (some rA) (some e) lN lC j d H5 (λe5 e0=> ∃(aa a5:Int) (s:Bool) (m:Option Addr) (o p:Nat) (a9:ByteArray) (a0:Option Addr) (ay az:Nat) (b9:Int),e5=.tuple #[.agg (DR aa a5 s m o p a9 a0 ay az).toArray,.int .i64 b9]/\
 (CanPuts e0 (ad b) 0 6)/\ ∀es,es=hputs e0 (ad b) (DR aa a5 s m o p a9 a0 ay az) 0->
 ∃cy el cs bm bo bt eb dl di du,RowAt es (ad b) 0 (DR cy el cs bm bo bt eb dl di du)/\
 R (.tuple #[.agg (DR cy el cs bm bo bt eb dl di du).toArray,.int .i64 b9]) es))
 else
 ∃al b6 an ab ae u ce a2 a4 a7,RowAt H5 (ad f) 0 (DR al b6 an ab ae u ce a2 a4 a7)/\
 (CanPuts H5 (ad b) 0 6)/\ ∀er,er=hputs H5 (ad b) (DR al b6 an ab ae u ce a2 a4 a7) 0->
 ∃ct ec cu bf bx br d9 dq dn dv,RowAt er (ad b) 0 (DR ct ec cu bf bx br d9 dq dn dv)/\
 R (.tuple #[.agg (DR ct ec cu bf bx br d9 dq dn dv).toArray,.int .i64 0]) er
namespace moraineref17_Read_Datum
theorem link{r lB:Option Addr}{lN lC:Nat}{j d:Int}{H:Array Obj}{R:Value->Array Obj->Prop}(h:pt r lB lN lC j d H R):C r lB lN lC j d H R:=by
 refine T_en K0 90 Tryz.func9 ?_
 intro w0 Q hQ
 unfold pt at h
 refine T_su [(0,vp r),(1,vs lB lN lC),(2,vi j),(3,vi d)]<| T_srz 0<| T_nw (some 8) (λb=>vp (pa b)) (.cells (DR 0 0 false none 0 0 (ByteArray.mk #[]) none 0 0).toArray 51) ?_
 intro b H1 e1 e2
 replace h:=h b H1 e1 e2
 refine T_pd [] [(8,vp (pa b))]<| T_ed 1 [] []<| T_srz 1<| T_nd 2 [] [(15,vp r),(16,vp r)] ?_
 obtain⟨rA,rfl,h⟩:=h
 refine T_nd 2 [0,15,16] [(0,vp (some rA)),(15,vp (some rA)),(18,vp (some rA))] ?_
 obtain⟨x,q3,h⟩:=h
 refine T_l1 19 3 q3 [18]<| T_nd 3 [15,19] [(20,vi (IntKind.wrap .i64 (x+1))),(22,vp (some rA))] ?_
 obtain⟨q5,h⟩:=h
 refine T_st1 3 (vi (IntKind.wrap .i64 (x+1))) q5 ?_
 intro H2 e4
 replace h:=h H2 e4
 refine T_pd [20,22] []<| T_e<| T_sz<| T_srz 2<| T_nd 3 [] [(25,vp (some rA))] ?_
 obtain⟨c9,q6,h⟩:=h
 refine T_l1 26 3 q6 [25]<| T_ed 1 [26] [(27,.bool (decide (c9>4096)))] ?_
 by_cases c7:c9>4096
 ·rw[if_pos c7]at h
  refine T_cTz 27 (decide_eq_true c7)<| T_srz 3<| T_n 1 [(8,vp (pa b)),(28,.agg (DR 0 0 false none 0 0 (ByteArray.mk #[]) none 0 0).toArray)] ?_
  obtain⟨q10,h⟩:=h
  refine T_sta 51 (DR 0 0 false none 0 0 (ByteArray.mk #[]) none 0 0) q10 ?_
  intro H3 e9
  replace h:=h H3 e9
  refine T_pd [28] []<| T_ed 1 [] [(9,vi 6)] ?_
  refine S_ret (by kernel_rfl) ?_
  show At _ _ _ _ _ (Q .ret)
  obtain⟨dh,rC,dj,c3,da,c5,rT,ez,ex,ey,q11,h⟩:=h
  exact S_done (fn:=Tryz.f9) [.agg (DR dh rC dj c3 da c5 rT ez ex ey).toArray,vi 6] hQ (show ResOK _ _ _ [.cell 8 51,.tmp 9] _ from .cell (by kernel_rfl) (loadOK_row (λ_=>by kernel_rfl) (λ_=>by kernel_rfl) q11) (.tmp (by kernel_rfl) (.nil))) h
 rw[if_neg c7]at h
 refine T_cFz 27 (decide_eq_false c7)<| T_kt<| T_srz 4<| T_nd 2 [27] [(29,vs lB lN lC),(30,vi j)] ?_
 obtain⟨e,rfl,h⟩:=h
 obtain⟨q12,h⟩:=h
 refine T_xd (some 31) 29 70 7 e lN lC .i64 j Tryz.underlying29 q12.1 q12.2 [1,29,30] [(1,vs (some e) lN lC),(31,vp (some (e.add (Int.toNat j*7))))] ?_
 obtain⟨aq,c4,au,ag,af,ak,de,bs,bd,bj,dd,db,c6,q13,h⟩:=h
 refine T_lr 32 70 q13 [31]<| T_nw (some 10) (λb=>vp (pa b)) (.cells #[vi 0,.int .i32 0,.bool false,vs none 0 0,.string (ByteArray.mk #[]),vs none 0 0,vs none 0 0] 70) ?_
 intro f H4 e14 e15
 replace h:=h f H4 e14 e15
 refine T_pd [] [(10,vp (pa f))] ?_
 obtain⟨q17,h⟩:=h
 refine T_sta 70 [vi aq,.int .i32 c4,.bool au,vs ag af ak,.string de,vs bs bd bj,vs dd db c6] q17 ?_
 intro H5 e16
 replace h:=h H5 e16
 refine T_pd [32] []<| T_e<| T_sz<| T_srz 5<| T_nd 2 [] [(34,vp (pa f))] ?_
 obtain⟨q,q18,h⟩:=h
 refine T_l1 35 3 q18 [34]<| T_e<| T_bz 0<| T_srz 6<| T_ed 2 [] [(36,.bool (q==(-1)))] ?_
 by_cases c19:q=(-1)
 ·rw[if_pos c19]at h
  refine T_cTz 36 (beq_iff_eq.mpr c19)<| T_srz 7<| T_n 1 [(8,vp (pa b)),(38,.agg (DR 0 0 false none 0 0 (ByteArray.mk #[]) none 0 0).toArray)] ?_
  obtain⟨q22,h⟩:=h
  refine T_sta 51 (DR 0 0 false none 0 0 (ByteArray.mk #[]) none 0 0) q22 ?_
  intro H6 e21
  replace h:=h H6 e21
  refine T_pd [38] []<| T_ed 1 [] [(9,vi 3)] ?_
  refine S_ret (by kernel_rfl) ?_
  show At _ _ _ _ _ (Q .ret)
  obtain⟨cr,ea,c0,bu,bi,be,en,dp,dk,d3,q23,h⟩:=h
  exact S_done (fn:=Tryz.f9) [.agg (DR cr ea c0 bu bi be en dp dk d3).toArray,vi 3] hQ (show ResOK _ _ _ [.cell 8 51,.tmp 9] _ from .cell (by kernel_rfl) (loadOK_row (λ_=>by kernel_rfl) (λ_=>by kernel_rfl) q23) (.tmp (by kernel_rfl) (.nil))) h
 rw[if_neg c19]at h
 refine T_cFz 36 (beq_eq_false_iff_ne.mpr c19)<| T_srz 8<| T_ed 2 [36] [(39,.bool (q==8))] ?_
 by_cases c24:q=8
 ·rw[if_pos c24]at h
  refine T_cTz 39 (beq_iff_eq.mpr c24)<| T_sz<| T_srz 9<| T_ed 2 [2,35,39] [(42,.bool (d==64))] ?_
  by_cases c26:d=64
  ·rw[if_pos c26]at h
   refine T_cTz 42 (beq_iff_eq.mpr c26)<| T_srz 10<| T_n 1 [(8,vp (pa b)),(43,.agg (DR 0 0 false none 0 0 (ByteArray.mk #[]) none 0 0).toArray)] ?_
   obtain⟨q29,h⟩:=h
   refine T_sta 51 (DR 0 0 false none 0 0 (ByteArray.mk #[]) none 0 0) q29 ?_
   intro H7 e28
   replace h:=h H7 e28
   refine T_pd [43] []<| T_ed 1 [] [(9,vi 10)] ?_
   refine S_ret (by kernel_rfl) ?_
   show At _ _ _ _ _ (Q .ret)
   obtain⟨cp,ef,cj,b5,bq,b3,ee,d1,d4,d2,q30,h⟩:=h
   exact S_done (fn:=Tryz.f9) [.agg (DR cp ef cj b5 bq b3 ee d1 d4 d2).toArray,vi 10] hQ (show ResOK _ _ _ [.cell 8 51,.tmp 9] _ from .cell (by kernel_rfl) (loadOK_row (λ_=>by kernel_rfl) (λ_=>by kernel_rfl) q30) (.tmp (by kernel_rfl) (.nil))) h
  rw[if_neg c26]at h
  refine T_cFz 42 (beq_eq_false_iff_ne.mpr c26)<| T_kt<| T_srz 11<| T_nd 1 [42] [(44,.agg (DR 8 0 false none 0 0 (ByteArray.mk #[]) none 0 0).toArray)]<| T_nw (some 11) (λb=>vp (pa b)) (.cells (DR 0 0 false none 0 0 (ByteArray.mk #[]) none 0 0).toArray 51) ?_
  intro g H8 e31 e32
  replace h:=h g H8 e31 e32
  refine T_pd [] [(11,vp (pa g))] ?_
  obtain⟨q34,h⟩:=h
  refine T_sta 51 (DR 8 0 false none 0 0 (ByteArray.mk #[]) none 0 0) q34 ?_
  intro H9 e33
  replace h:=h H9 e33
  refine T_pd [44] []<| T_e<| T_sz<| T_srz 12<| T_ed 1 [] [(12,vi 0)]<| T_bz 1 ?_
  obtain⟨ev,m46,i35,i36⟩:=h
  refine S_loop (x:=K45) (σ:=Int) (λs_=> [(0,vp (some rA)),(1,vs (some e) lN lC),(3,vi d),(8,vp (pa b)),(10,vp (pa f)),(11,vp (pa g)),(12,vi s_)]) (λs_ H=>ev s_ H) (λs_ H=>m46 s_ H) (0:Int) (by kernel_rfl) i35 sk ?_
  rintro i H10 i37
  have h:=i36 i H10 i37
  refine T_su [(0,vp (some rA)),(1,vs (some e) lN lC),(3,vi d),(8,vp (pa b)),(10,vp (pa f)),(11,vp (pa g)),(12,vi i)]<| T_sz<| T_srz 13<| T_nd 2 [] [(45,vi i),(46,vp (some ((ad f).add 6)))] ?_
  obtain⟨xB,xN,xC,q38,h⟩:=h
  refine T_l1 47 68 q38 [46]<| T_ed 2 [45,47] [(49,.bool (decide (i< (xN:Int))))] ?_
  by_cases c39:i< (xN:Int)
  ·rw[if_pos c39]at h
   refine T_cTz 49 (decide_eq_true c39)<| T_kt<| T_sz<| T_bz 2<| T_srz 15<| T_nd 3 [49] [(53,vp (some rA)),(54,vs (some e) lN lC),(55,vp (some ((ad f).add 6)))] ?_
   obtain⟨df,cg,c2,q41,h⟩:=h
   refine T_l1 56 68 q41 [55]<| T_nd 1 [] [(57,vi i)] ?_
   obtain⟨ch,rfl,h⟩:=h
   obtain⟨q42,h⟩:=h
   refine T_xd (some 58) 68 3 1 ch cg c2 .i64 i Tryz.underlying68 q42.1 q42.2 [56,57] [(58,vp (some (ch.add (Int.toNat i*1))))] ?_
   obtain⟨d6,q43,h⟩:=h
   refine T_l1 59 3 q43 [58]<| T_nd 2 [] [(61,vi (IntKind.wrap .i64 (d+1)))] ?_
   refine T_c (some 62) h ?_;clear h
   rintro v e3 ⟨ax,dc,aw,ah,aj,ai,c8,bp,b1,bk,rb,rfl,h⟩
   refine T_pd [53,54,59,61] [(62,.tuple #[.agg (DR ax dc aw ah aj ai c8 bp b1 bk).toArray,vi rb])]<| T_nd 3 [62] [(63,.agg (DR ax dc aw ah aj ai c8 bp b1 bk).toArray),(64,vi rb)]<| T_nw (some 13) (λb=>vp (pa b)) (.cells (DR 0 0 false none 0 0 (ByteArray.mk #[]) none 0 0).toArray 51) ?_
   intro a1 H12 e44 e45
   replace h:=h a1 H12 e44 e45
   refine T_pd [] [(13,vp (pa a1))] ?_
   obtain⟨q47,h⟩:=h
   refine T_sta 51 (DR ax dc aw ah aj ai c8 bp b1 bk) q47 ?_
   intro c1 e46
   replace h:=h c1 e46
   refine T_pd [63] []<| T_ed 1 [64] [(14,vi rb)]<| T_sz<| T_srz 16<| T_ed 2 [] [(66,.bool (rb !=0))] ?_
   by_cases c48:rb=0
   ·rw[if_pos c48]at h
    refine T_cFz 66 (bne_eq_false_iff_eq.mpr c48)<| T_kt<| T_rz 18<| T_nd 1 [14,66] [(69,vp (some ((ad g).add 5)))] ?_
    obtain⟨cf,av,cd,q50,h⟩:=h
    refine T_l1 70 49 q50 [69] ?_
    obtain⟨cm,dg,cw,bc,ba,bb,xT,cn,cq,ci,q51,h⟩:=h
    refine T_lr 71 51 q51 [13]<| T_nw (some 72) (λb=>vs (pa b) 1 1) (.cells (DR cm dg cw bc ba bb xT cn cq ci).toArray 51) ?_
    intro d8 H14 e52 e53
    replace h:=h d8 H14 e52 e53
    refine T_pd [71] [(72,vs (pa d8) 1 1)] ?_
    refine N_op (some 73) (appendN #[49,49] 49 #[vs cf av cd,vs (pa d8) 1 1]) _ (λ_=>by kernel_rfl) (ss_append (T:=51) (sz:=6) (bytes:=88) (zero:=(.agg (DR 0 0 false none 0 0 (ByteArray.mk #[]) none 0 0).toArray:Value)) Tryz.underlying49 Tryz.underlying49 rfl (show Tryz.prog.info? 51=some Tryz.t51 from by kernel_rfl) (by kernel_rfl) (by kernel_rfl) (by decide) (by kernel_rfl) (by first | exact h | (simpa only[Value.cells,List.toList_toArray]using h))) ?_;clear h
    rintro _ ew ⟨ap,d7,rfl,h⟩
    refine T_pd [70,72] [(73,vs ap (av+1) d7)]<| T_nd 1 [] [(74,vp (some ((ad g).add 5)))] ?_
    obtain⟨q55,h⟩:=h
    refine T_st1 49 (vs ap (av+1) d7) q55 ?_
    intro eo e54
    replace h:=h eo e54
    refine T_pd [73,74] [] ?_
    refine N_end (by kernel_rfl) ?_
    refine S_blockEnd ?_
    refine S_then ?_
    refine T_rz 14<| T_ed 3 [12] [(12,vi (IntKind.wrap .i64 (i+1)))] ?_
    exact S_round ((IntKind.wrap .i64 (i+1)):Int) sk h
   rw[if_neg c48]at h
   refine T_cTz 66 (bne_iff_ne.mpr c48)<| T_srz 17<| T_n 2 [(8,vp (pa b)),(67,.agg (DR 0 0 false none 0 0 (ByteArray.mk #[]) none 0 0).toArray),(68,vi rb)] ?_
   obtain⟨q57,h⟩:=h
   refine T_sta 51 (DR 0 0 false none 0 0 (ByteArray.mk #[]) none 0 0) q57 ?_
   intro eu e56
   replace h:=h eu e56
   refine T_pd [67] []<| T_ed 1 [68] [(9,vi rb)] ?_
   refine S_ret (by kernel_rfl) ?_
   show At _ _ _ _ _ (Q .ret)
   obtain⟨cz,ek,cl,bl,bh,b4,ei,dz,dx,dr,q58,h⟩:=h
   exact S_done (fn:=Tryz.f9) [.agg (DR cz ek cl bl bh b4 ei dz dx dr).toArray,vi rb] hQ (show ResOK _ _ _ [.cell 8 51,.tmp 9] _ from .cell (by kernel_rfl) (loadOK_row (λ_=>by kernel_rfl) (λ_=>by kernel_rfl) q58) (.tmp (by kernel_rfl) (.nil))) h
  rw[if_neg c39]at h
  refine T_cFz 49 (decide_eq_false c39) ?_
  refine S_exit 1 (by kernel_rfl) ?_
  refine S_exitThen ?_
  refine S_exitThen ?_
  refine S_exitHere ?_
  refine S_then ?_
  refine T_srz 19<| T_ud [0,1,3,10,12,49] [] ?_
  obtain⟨am,cc,ao,y,z,ac,b7,a3,a8,a6,q59,h⟩:=h
  refine T_lr 75 51 q59 [11] ?_
  obtain⟨q61,h⟩:=h
  refine T_sta 51 (DR am cc ao y z ac b7 a3 a8 a6) q61 ?_
  intro et e60
  replace h:=h et e60
  refine T_pd [75] []<| T_ed 1 [] [(9,vi 0)] ?_
  refine S_ret (by kernel_rfl) ?_
  show At _ _ _ _ _ (Q .ret)
  obtain⟨cx,ej,ck,bw,b0,bg,eg,d0,d5,dm,q62,h⟩:=h
  exact S_done (fn:=Tryz.f9) [.agg (DR cx ej ck bw b0 bg eg d0 d5 dm).toArray,vi 0] hQ (show ResOK _ _ _ [.cell 8 51,.tmp 9] _ from .cell (by kernel_rfl) (loadOK_row (λ_=>by kernel_rfl) (λ_=>by kernel_rfl) q62) (.tmp (by kernel_rfl) (.nil))) h
 rw[if_neg c24]at h
 refine T_cFz 39 (beq_eq_false_iff_ne.mpr c24)<| T_srz 20<| T_ed 2 [35,39] [(76,.bool (q==7))] ?_
 by_cases c63:q=7
 ·rw[if_pos c63]at h
  refine T_cTz 76 (beq_iff_eq.mpr c63)<| T_sz<| T_srz 21<| T_ed 2 [10,76] [(79,.bool (d==64))] ?_
  by_cases c65:d=64
  ·rw[if_pos c65]at h
   refine T_cTz 79 (beq_iff_eq.mpr c65)<| T_srz 22<| T_n 1 [(8,vp (pa b)),(80,.agg (DR 0 0 false none 0 0 (ByteArray.mk #[]) none 0 0).toArray)] ?_
   obtain⟨q68,h⟩:=h
   refine T_sta 51 (DR 0 0 false none 0 0 (ByteArray.mk #[]) none 0 0) q68 ?_
   intro ep e67
   replace h:=h ep e67
   refine T_pd [80] []<| T_ed 1 [] [(9,vi 10)] ?_
   refine S_ret (by kernel_rfl) ?_
   show At _ _ _ _ _ (Q .ret)
   obtain⟨co,em,cv,bz,b2,bn,eh,dt,dw,dy,q69,h⟩:=h
   exact S_done (fn:=Tryz.f9) [.agg (DR co em cv bz b2 bn eh dt dw dy).toArray,vi 10] hQ (show ResOK _ _ _ [.cell 8 51,.tmp 9] _ from .cell (by kernel_rfl) (loadOK_row (λ_=>by kernel_rfl) (λ_=>by kernel_rfl) q69) (.tmp (by kernel_rfl) (.nil))) h
  rw[if_neg c65]at h
  refine T_cFz 79 (beq_eq_false_iff_ne.mpr c65)<| T_kt<| T_srz 23<| T_n 4 [(8,vp (pa b)),(81,vp (some rA)),(82,vs (some e) lN lC),(83,vi j),(84,vi d)] ?_
  refine T_c (some 85) h ?_;clear h
  rintro e5 e0 ⟨aa,a5,s,m,o,p,a9,a0,ay,az,b9,rfl,h⟩
  refine⟨[(8,vp (pa b)),(85,.tuple #[.agg (DR aa a5 s m o p a9 a0 ay az).toArray,vi b9])],pk,?_⟩
  refine T_nd 2 [85] [(86,.agg (DR aa a5 s m o p a9 a0 ay az).toArray),(87,vi b9)] ?_
  obtain⟨q71,h⟩:=h
  refine T_sta 51 (DR aa a5 s m o p a9 a0 ay az) q71 ?_
  intro es e70
  replace h:=h es e70
  refine T_pd [86] []<| T_ed 1 [87] [(9,vi b9)] ?_
  refine S_ret (by kernel_rfl) ?_
  show At _ _ _ _ _ (Q .ret)
  obtain⟨cy,el,cs,bm,bo,bt,eb,dl,di,du,q72,h⟩:=h
  exact S_done (fn:=Tryz.f9) [.agg (DR cy el cs bm bo bt eb dl di du).toArray,vi b9] hQ (show ResOK _ _ _ [.cell 8 51,.tmp 9] _ from .cell (by kernel_rfl) (loadOK_row (λ_=>by kernel_rfl) (λ_=>by kernel_rfl) q72) (.tmp (by kernel_rfl) (.nil))) h
 rw[if_neg c63]at h
 refine T_cFz 76 (beq_eq_false_iff_ne.mpr c63)<| T_k ?_
 refine S_blockEnd ?_
 refine S_then ?_
 refine T_srz 24<| T_n 1 [(8,vp (pa b)),(88,vp (pa f))] ?_
 obtain⟨al,b6,an,ab,ae,u,ce,a2,a4,a7,q73,h⟩:=h
 refine T_lr 89 51 q73 [88] ?_
 obtain⟨q75,h⟩:=h
 refine T_sta 51 (DR al b6 an ab ae u ce a2 a4 a7) q75 ?_
 intro er e74
 replace h:=h er e74
 refine T_pd [89] []<| T_ed 1 [] [(9,vi 0)] ?_
 refine S_ret (by kernel_rfl) ?_
 show At _ _ _ _ _ (Q .ret)
 obtain⟨ct,ec,cu,bf,bx,br,d9,dq,dn,dv,q76,h⟩:=h
 exact S_done (fn:=Tryz.f9) [.agg (DR ct ec cu bf bx br d9 dq dn dv).toArray,vi 0] hQ (show ResOK _ _ _ [.cell 8 51,.tmp 9] _ from .cell (by kernel_rfl) (loadOK_row (λ_=>by kernel_rfl) (λ_=>by kernel_rfl) q76) (.tmp (by kernel_rfl) (.nil))) h
end moraineref17_Read_Datum

/-! (*moraine/moraineref17.Read).rest -/
namespace moraineref17_Read_rest
def K0:=Func.code Tryz.f23
def K2:=cb K0
def K4:=cb K2
def K5:=ca K4
def K6:=cb K4
def K7:=ca K5
def K8:=ca K7
def K37:=cb K6
def K39:=cb K37
def K44:=ca K39
def K47:=cb K44
def K48:=ca K47
def K49:=ca K48
def K51:=cb K49
def K56:=ca K51
def K58:=ca K56
end moraineref17_Read_rest
def moraineref17_Read_rest.pt(r lB:Option Addr)(lN lC:Nat)(cm e:Int)(H:Array Obj)(R:Value->Array Obj->Prop):Prop:=
 ∀(b:Nat) (H1:Array Obj),b=H.size->H1=H.push (.cells (DR 0 0 false none 0 0 (ByteArray.mk #[]) none 0 0).toArray 51)->
 ∃(I9:Int->(Option Addr)->Nat->Nat->Array Obj->Prop) (m9:Int->(Option Addr)->Nat->Nat->Array Obj->Nat),I9 cm none 0 0 H1/\ ∀(f:Int) (carsB:Option Addr) (carsN:Nat) (carsC:Nat) (H2:Array Obj),I9 f carsB carsN carsC H2->
 ∃d:Addr,lB=some d/\
 ((0:Int)<=f/\f< (lN:Int))/\
 ∃(xB:Option Addr) (xN xC:Nat),hat H2 ((d.add (Int.toNat f*7)).add 6)=some (.slice xB xN xC)/\
 ∃cp:Addr,xB=some cp/\
 ((0:Int)<=0/\0< (xN:Int))/\
 ∃x:Int,hat H2 (cp.add (Int.toNat 0*1))=some (.int .i64 x)/\
 moraineref17_Read_Datum.C r (some d) lN lC x (IntKind.wrap .i64 (e+1)) H2 (λv H3=> ∃(az ck:Int) (ax:Bool) (ah:Option Addr) (aj ai:Nat) (ci:ByteArray) (bk:Option Addr) (bo bi:Nat) (rb:Int),v=.tuple #[.agg (DR az ck ax ah aj ai ci bk bo bi).toArray,.int .i64 rb]/\
 ∀(a2:Nat) (H4:Array Obj),a2=H3.size->H4=H3.push (.cells (DR 0 0 false none 0 0 (ByteArray.mk #[]) none 0 0).toArray 51)->
 (CanPuts H4 (ad a2) 0 6)/\ ∀H5,H5=hputs H4 (ad a2) (DR az ck ax ah aj ai ci bk bo bi) 0->
 if rb=0 then(
 ∃b3 co b6 bd bb bc xT c6 c5 c4,RowAt H5 (ad a2) 0 (DR b3 co b6 bd bb bc xT c6 c5 c4)/\
 ∀(c3:Nat) (H6:Array Obj),c3=H5.size->H6=H5.push (.cells (DR b3 co b6 bd bb bc xT c6 c5 c4).toArray 51)->
 appendK 6 51 88 (DR 0 0 false none 0 0 (ByteArray.mk #[]) none 0 0) carsB carsN carsC (some (ad c3)) 1 H6 (λap g H7=>
 ((0:Int)<=f/\f< (lN:Int))/\
 ∃(c2:Option Addr) (cd cn:Nat),hat H7 ((d.add (Int.toNat f*7)).add 6)=some (.slice c2 cd cn)/\
 ∃b0:Addr,c2=some b0/\
 ((0:Int)<=1/\1< (cd:Int))/\
 ∃m:Int,hat H7 (b0.add (Int.toNat 1*1))=some (.int .i64 m)/\
 ((0:Int)<=m/\m< (lN:Int))/\
 ∃cg:Int,hat H7 (d.add (Int.toNat m*7))=some (.int .i64 cg)/\
 if cg=7 then(
 ∃rA:Addr,r=some rA/\
 ∃cf:Int,hat H7 rA=some (.int .i64 cf)/\
 (CanPuts H7 rA 0 1)/\ ∀H8,H8=hputs H7 rA [.int .i64 (IntKind.wrap .i64 (cf+1))] 0->
 ∃cl:Int,hat H8 rA=some (.int .i64 cl)/\
 if cl>4096 then(
 (CanPuts H8 (ad b) 0 6)/\ ∀H9,H9=hputs H8 (ad b) (DR 0 0 false none 0 0 (ByteArray.mk #[]) none 0 0) 0->
 ∃cq rC cr ce cj ch rT dk di dj,RowAt H9 (ad b) 0 (DR cq rC cr ce cj ch rT dk di dj)/\
 R (.tuple #[.agg (DR cq rC cr ce cj ch rT dk di dj).toArray,.int .i64 6]) H9)
 else
 (I9 m ap (carsN+1) g H8/\m9 m ap (carsN+1) g H8<m9 f carsB carsN carsC H2))
 else
 moraineref17_Read_Datum.C r (some d) lN lC m (IntKind.wrap .i64 (e+1)) H7 (λdm dl=> ∃(y a3:Int) (u:Bool) (o:Option Addr) (p q:Nat) (a4:ByteArray) (ay:Option Addr) (av aw:Nat) (s:Int),dm=.tuple #[.agg (DR y a3 u o p q a4 ay av aw).toArray,.int .i64 s]/\
 ∀(j:Nat) (H11:Array Obj),j=dl.size->H11=dl.push (.cells (DR 0 0 false none 0 0 (ByteArray.mk #[]) none 0 0).toArray 51)->
 (CanPuts H11 (ad j) 0 6)/\ ∀c1,c1=hputs H11 (ad j) (DR y a3 u o p q a4 ay av aw) 0->
 if s=0 then(
 ∃(dg:Int->Array Obj->Prop) (m50:Int->Array Obj->Nat),dg (IntKind.wrap .i64 (((carsN+1):Int)-1)) c1/\ ∀(i:Int) (H13:Array Obj),dg i H13->
 if i>=0 then(
 ∃z:Addr,ap=some z/\
 ((0:Int)<=i/\i< ((carsN+1):Int))/\
 ∃aq bx au ac ae ag bu a7 a9 a5,RowAt H13 (z.add (Int.toNat i*6)) 0 (DR aq bx au ac ae ag bu a7 a9 a5)/\
 ∃a0 b9 a1 al am ak cc bg bq bm,RowAt H13 (ad j) 0 (DR a0 b9 a1 al am ak cc bg bq bm)/\
 ∀(bz:Nat) (H14:Array Obj),bz=H13.size->H14=H13.push (.cells #[.int .i64 aq,.int .i32 bx,.bool au,.slice ac ae ag,.string bu,.slice a7 a9 a5,.int .i64 a0,.int .i32 b9,.bool a1,.slice al am ak,.string cc,.slice bg bq bm] 51)->
 (CanPuts H14 (ad j) 0 6)/\ ∀de,de=hputs H14 (ad j) (DR 7 0 false none 0 0 (ByteArray.mk #[]) (some (ad bz)) 2 2) 0->
 (dg (IntKind.wrap .i64 (i-1)) de/\m50 (IntKind.wrap .i64 (i-1)) de<m50 i H13))
 else
 ∃ao bt an aa af ab bw a6 a8 ba,RowAt H13 (ad j) 0 (DR ao bt an aa af ab bw a6 a8 ba)/\
 (CanPuts H13 (ad b) 0 6)/\ ∀dd,dd=hputs H13 (ad b) (DR ao bt an aa af ab bw a6 a8 ba) 0->
 ∃b5 c7 b8 bn bh be dc ct cs cz,RowAt dd (ad b) 0 (DR b5 c7 b8 bn bh be dc ct cs cz)/\
 R (.tuple #[.agg (DR b5 c7 b8 bn bh be dc ct cs cz).toArray,.int .i64 0]) dd)
 else
 (CanPuts c1 (ad b) 0 6)/\ ∀dh,dh=hputs c1 (ad b) (DR 0 0 false none 0 0 (ByteArray.mk #[]) none 0 0) 0->
 ∃b4 c9 b1 bs bl bp c8 cx c0 cy,RowAt dh (ad b) 0 (DR b4 c9 b1 bs bl bp c8 cx c0 cy)/\
 R (.tuple #[.agg (DR b4 c9 b1 bs bl bp c8 cx c0 cy).toArray,.int .i64 s]) dh)))
 else
 (CanPuts H5 (ad b) 0 6)/\ ∀df,df=hputs H5 (ad b) (DR 0 0 false none 0 0 (ByteArray.mk #[]) none 0 0) 0->
 ∃b7 db b2 bj bf br da cw cv cu,RowAt df (ad b) 0 (DR b7 db b2 bj bf br da cw cv cu)/\
 R (.tuple #[.agg (DR b7 db b2 bj bf br da cw cv cu).toArray,.int .i64 rb]) df)
namespace moraineref17_Read_rest
theorem link{r lB:Option Addr}{lN lC:Nat}{cm e:Int}{H:Array Obj}{R:Value->Array Obj->Prop}(h:pt r lB lN lC cm e H R):C r lB lN lC cm e H R:=by
 refine T_en K0 95 Tryz.func23 ?_
 intro w0 Q hQ
 unfold pt at h
 refine T_su [(0,vp r),(1,vs lB lN lC),(2,vi cm),(3,vi e)]<| T_srz 0<| T_nw (some 8) (λb=>vp (pa b)) (.cells (DR 0 0 false none 0 0 (ByteArray.mk #[]) none 0 0).toArray 51) ?_
 intro b H1 e1 e2
 replace h:=h b H1 e1 e2
 refine T_pd [] [(8,vp (pa b))]<| T_ed 1 [] []<| T_srz 1<| T_ed 1 [] [(10,vs none 0 0)]<| T_sz<| T_bz 0 ?_
 obtain⟨I9,m9,i3,i4⟩:=h
 refine S_loop (x:=K8) (σ:=Int×(Option Addr)×Nat×Nat) (λs_=> [(0,vp r),(1,vs lB lN lC),(2,vi s_.1),(3,vi e),(8,vp (pa b)),(10,vs s_.2.1 s_.2.2.1 s_.2.2.2)]) (λs_ H=>I9 s_.1 s_.2.1 s_.2.2.1 s_.2.2.2 H) (λs_ H=>m9 s_.1 s_.2.1 s_.2.2.1 s_.2.2.2 H) ((cm,none,0,0):Int×(Option Addr)×Nat×Nat) (by kernel_rfl) i3 sk ?_
 rintro⟨f,carsB,carsN,carsC⟩ H2 i5
 have h:=i4 f carsB carsN carsC H2 i5
 refine T_su [(0,vp r),(1,vs lB lN lC),(2,vi f),(3,vi e),(8,vp (pa b)),(10,vs carsB carsN carsC)]<| T_bz 1<| T_srz 2<| T_nd 4 [] [(17,vp r),(18,vs lB lN lC),(19,vs lB lN lC),(20,vi f)] ?_
 obtain⟨d,rfl,h⟩:=h
 obtain⟨q6,h⟩:=h
 refine T_xd (some 21) 29 70 7 d lN lC .i64 f Tryz.underlying29 q6.1 q6.2 [1,18,19,20] [(1,vs (some d) lN lC),(18,vs (some d) lN lC),(21,vp (some (d.add (Int.toNat f*7))))]<| T_nd 1 [21] [(22,vp (some ((d.add (Int.toNat f*7)).add 6)))] ?_
 obtain⟨xB,xN,xC,q7,h⟩:=h
 refine T_l1 23 68 q7 [22] ?_
 obtain⟨cp,rfl,h⟩:=h
 obtain⟨q8,h⟩:=h
 refine T_xd (some 24) 68 3 1 cp xN xC .i64 0 Tryz.underlying68 q8.1 q8.2 [23] [(24,vp (some (cp.add (Int.toNat 0*1))))] ?_
 obtain⟨x,q9,h⟩:=h
 refine T_l1 25 3 q9 [24]<| T_nd 2 [] [(27,vi (IntKind.wrap .i64 (e+1)))] ?_
 refine T_c (some 28) h ?_;clear h
 rintro v H3 ⟨az,ck,ax,ah,aj,ai,ci,bk,bo,bi,rb,rfl,h⟩
 refine T_pd [17,18,25,27] [(28,.tuple #[.agg (DR az ck ax ah aj ai ci bk bo bi).toArray,vi rb])]<| T_nd 3 [28] [(29,.agg (DR az ck ax ah aj ai ci bk bo bi).toArray),(30,vi rb)]<| T_nw (some 11) (λb=>vp (pa b)) (.cells (DR 0 0 false none 0 0 (ByteArray.mk #[]) none 0 0).toArray 51) ?_
 intro a2 H4 e10 e11
 replace h:=h a2 H4 e10 e11
 refine T_pd [] [(11,vp (pa a2))] ?_
 obtain⟨q13,h⟩:=h
 refine T_sta 51 (DR az ck ax ah aj ai ci bk bo bi) q13 ?_
 intro H5 e12
 replace h:=h H5 e12
 refine T_pd [29] []<| T_ed 1 [30] [(12,vi rb)]<| T_sz<| T_srz 3<| T_ed 2 [] [(32,.bool (rb !=0))] ?_
 by_cases c14:rb=0
 ·rw[if_pos c14]at h
  refine T_cFz 32 (bne_eq_false_iff_eq.mpr c14)<| T_kt<| T_srz 5<| T_nd 1 [10,12,32] [(35,vs carsB carsN carsC)] ?_
  obtain⟨b3,co,b6,bd,bb,bc,xT,c6,c5,c4,q16,h⟩:=h
  refine T_lr 36 51 q16 [11]<| T_nw (some 37) (λb=>vs (pa b) 1 1) (.cells (DR b3 co b6 bd bb bc xT c6 c5 c4).toArray 51) ?_
  intro c3 H6 e17 e18
  replace h:=h c3 H6 e17 e18
  refine T_pd [36] [(37,vs (pa c3) 1 1)] ?_
  refine N_op (some 38) (appendN #[49,49] 49 #[vs carsB carsN carsC,vs (pa c3) 1 1]) _ (λ_=>by kernel_rfl) (ss_append (T:=51) (sz:=6) (bytes:=88) (zero:=(.agg (DR 0 0 false none 0 0 (ByteArray.mk #[]) none 0 0).toArray:Value)) Tryz.underlying49 Tryz.underlying49 rfl (show Tryz.prog.info? 51=some Tryz.t51 from by kernel_rfl) (by kernel_rfl) (by kernel_rfl) (by decide) (by kernel_rfl) (by first | exact h | (simpa only[Value.cells,List.toList_toArray]using h))) ?_;clear h
  rintro _ H7 ⟨ap,g,rfl,h⟩
  refine T_pd [35,37] [(38,vs ap (carsN+1) g)]<| T_ed 1 [38] [(10,vs ap (carsN+1) g)]<| T_srz 6<| T_nd 2 [2] [(39,vs (some d) lN lC),(40,vi f)] ?_
  obtain⟨q19,h⟩:=h
  refine T_xd (some 41) 29 70 7 d lN lC .i64 f Tryz.underlying29 q19.1 q19.2 [39,40] [(41,vp (some (d.add (Int.toNat f*7))))]<| T_nd 1 [41] [(42,vp (some ((d.add (Int.toNat f*7)).add 6)))] ?_
  obtain⟨c2,cd,cn,q20,h⟩:=h
  refine T_l1 43 68 q20 [42] ?_
  obtain⟨b0,rfl,h⟩:=h
  obtain⟨q21,h⟩:=h
  refine T_xd (some 44) 68 3 1 b0 cd cn .i64 1 Tryz.underlying68 q21.1 q21.2 [43] [(44,vp (some (b0.add (Int.toNat 1*1))))] ?_
  obtain⟨m,q22,h⟩:=h
  refine T_l1 45 3 q22 [44]<| T_ed 1 [45] [(2,vi m)]<| T_sz<| T_srz 7<| T_nd 2 [] [(46,vs (some d) lN lC),(47,vi m)] ?_
  obtain⟨q23,h⟩:=h
  refine T_xd (some 48) 29 70 7 d lN lC .i64 m Tryz.underlying29 q23.1 q23.2 [46,47] [(48,vp (some (d.add (Int.toNat m*7))))]<| T_nd 2 [48] [(50,vp (some (d.add (Int.toNat m*7))))] ?_
  obtain⟨cg,q24,h⟩:=h
  refine T_l1 51 3 q24 [50]<| T_ed 1 [51] [(52,.bool (cg !=7))] ?_
  by_cases c25:cg=7
  ·rw[if_pos c25]at h
   refine T_cFz 52 (bne_eq_false_iff_eq.mpr c25)<| T_kt<| T_srz 8<| T_nd 2 [52] [(53,vp r),(54,vp r)] ?_
   obtain⟨rA,rfl,h⟩:=h
   refine T_nd 2 [0,53,54] [(0,vp (some rA)),(53,vp (some rA)),(56,vp (some rA))] ?_
   obtain⟨cf,q27,h⟩:=h
   refine T_l1 57 3 q27 [56]<| T_nd 3 [53,57] [(58,vi (IntKind.wrap .i64 (cf+1))),(60,vp (some rA))] ?_
   obtain⟨q29,h⟩:=h
   refine T_st1 3 (vi (IntKind.wrap .i64 (cf+1))) q29 ?_
   intro H8 e28
   replace h:=h H8 e28
   refine T_pd [58,60] []<| T_e<| T_srz 9<| T_nd 3 [] [(63,vp (some rA))] ?_
   obtain⟨cl,q30,h⟩:=h
   refine T_l1 64 3 q30 [63]<| T_ed 1 [64] [(65,.bool (decide (cl>4096)))] ?_
   by_cases c31:cl>4096
   ·rw[if_pos c31]at h
    refine T_cTz 65 (decide_eq_true c31)<| T_srz 10<| T_n 1 [(8,vp (pa b)),(66,.agg (DR 0 0 false none 0 0 (ByteArray.mk #[]) none 0 0).toArray)] ?_
    obtain⟨q34,h⟩:=h
    refine T_sta 51 (DR 0 0 false none 0 0 (ByteArray.mk #[]) none 0 0) q34 ?_
    intro H9 e33
    replace h:=h H9 e33
    refine T_pd [66] []<| T_ed 1 [] [(9,vi 6)] ?_
    refine S_ret (by kernel_rfl) ?_
    show At _ _ _ _ _ (Q .ret)
    obtain⟨cq,rC,cr,ce,cj,ch,rT,dk,di,dj,q35,h⟩:=h
    exact S_done (fn:=Tryz.f23) [.agg (DR cq rC cr ce cj ch rT dk di dj).toArray,vi 6] hQ (show ResOK _ _ _ [.cell 8 51,.tmp 9] _ from .cell (by kernel_rfl) (loadOK_row (λ_=>by kernel_rfl) (λ_=>by kernel_rfl) q35) (.tmp (by kernel_rfl) (.nil))) h
   rw[if_neg c31]at h
   refine T_cFz 65 (decide_eq_false c31)<| T_k ?_
   refine S_blockEnd ?_
   refine S_then ?_
   exact S_round ((m,ap,(carsN+1),g):Int×(Option Addr)×Nat×Nat) sk h
  rw[if_neg c25]at h
  refine T_cTz 52 (bne_iff_ne.mpr c25) ?_
  refine S_exit 0 (by kernel_rfl) ?_
  refine S_exitThen ?_
  refine S_exitPast (by kernel_rfl) ?_
  refine S_exitThen ?_
  refine S_exitHere ?_
  refine S_then ?_
  refine T_srz 11<| T_nd 5 [0,1,2,3,52] [(68,vp r),(69,vs (some d) lN lC),(70,vi m),(72,vi (IntKind.wrap .i64 (e+1)))] ?_
  refine T_c (some 73) h ?_;clear h
  rintro dm dl ⟨y,a3,u,o,p,q,a4,ay,av,aw,s,rfl,h⟩
  refine T_pd [68,69,70,72] [(73,.tuple #[.agg (DR y a3 u o p q a4 ay av aw).toArray,vi s])]<| T_nd 3 [73] [(74,.agg (DR y a3 u o p q a4 ay av aw).toArray),(75,vi s)]<| T_nw (some 13) (λb=>vp (pa b)) (.cells (DR 0 0 false none 0 0 (ByteArray.mk #[]) none 0 0).toArray 51) ?_
  intro j H11 e36 e37
  replace h:=h j H11 e36 e37
  refine T_pd [] [(13,vp (pa j))] ?_
  obtain⟨q39,h⟩:=h
  refine T_sta 51 (DR y a3 u o p q a4 ay av aw) q39 ?_
  intro c1 e38
  replace h:=h c1 e38
  refine T_pd [74] []<| T_ed 1 [75] [(14,vi s)]<| T_sz<| T_srz 12<| T_ed 2 [] [(77,.bool (s !=0))] ?_
  by_cases c40:s=0
  ·rw[if_pos c40]at h
   refine T_cFz 77 (bne_eq_false_iff_eq.mpr c40)<| T_kt<| T_sz<| T_srz 14<| T_ed 4 [14,77] [(15,vi (IntKind.wrap .i64 (((carsN+1):Int)-1)))]<| T_bz 2 ?_
   obtain⟨dg,m50,i42,i43⟩:=h
   refine S_loop (x:=K49) (σ:=Int) (λs_=> [(8,vp (pa b)),(10,vs ap (carsN+1) g),(13,vp (pa j)),(15,vi s_)]) (λs_ H=>dg s_ H) (λs_ H=>m50 s_ H) ((IntKind.wrap .i64 (((carsN+1):Int)-1)):Int) (by kernel_rfl) i42 sk ?_
   rintro i H13 i44
   have h:=i43 i H13 i44
   refine T_su [(8,vp (pa b)),(10,vs ap (carsN+1) g),(13,vp (pa j)),(15,vi i)]<| T_sz<| T_srz 15<| T_ed 2 [] [(84,.bool (decide (i>=0)))] ?_
   by_cases c45:i>=0
   ·rw[if_pos c45]at h
    refine T_cTz 84 (decide_eq_true c45)<| T_kt<| T_sz<| T_bz 3 ?_
    obtain⟨z,rfl,h⟩:=h
    obtain⟨q47,h⟩:=h
    obtain⟨aq,bx,au,ac,ae,ag,bu,a7,a9,a5,q48,h⟩:=h
    obtain⟨a0,b9,a1,al,am,ak,cc,bg,bq,bm,q49,h⟩:=h
    refine S_regionG 17 (Code.ops K58) [(5,(z.add (Int.toNat i*6)),(DR aq bx au ac ae ag bu a7 a9 a5)),(5,(ad j),(DR a0 b9 a1 al am ak cc bg bq bm))] 8 (bv 8 0) (by kernel_rfl) (by kernel_rfl) (by kernel_rfl) (by kernel_rfl) (by kernel_rfl) (show FactsAt _ _ _ from⟨q48,q49,trivial⟩) ?_
    refine T_gp 0 (some 87) (vs (some z) (carsN+1) g) (bv 8 1) [(8,vp (pa b)),(10,vs (some z) (carsN+1) g),(13,vp (pa j)),(15,vi i),(87,vs (some z) (carsN+1) g)]<| T_gp1 1 88 (vi i) (bv 8 3) []<| T_g1 2 89 (vp (some (z.add (Int.toNat i*6)))) (bv 8 7) [87,88] (indexAtN 49 (vs (some z) (carsN+1) g) (vi i)) (λ_ w _ _ _=>indexAt_run (P:=Tryz.prog) (t:=49) (elem:=51) (sz:=6) (a:=z) (len:=(carsN+1)) (cap:=g) (k:=.i64) (i:=i) Tryz.underlying49 (λ_=>by kernel_rfl) q47.1 q47.2 w)<| T_g1 3 90 (.agg (DR aq bx au ac ae ag bu a7 a9 a5).toArray) (bv 8 15) [89] (loadN 51 (vp (some (z.add (Int.toNat i*6))))) (held_row 5 (λ_=>by kernel_rfl) (λ_=>by kernel_rfl) (List.Mem.head _) (.inl (by kernel_rfl)))<| T_g1 4 91 (.agg (DR a0 b9 a1 al am ak cc bg bq bm).toArray) (bv 8 31) [] (loadN 51 (vp (pa j))) (held_row 5 (λ_=>by kernel_rfl) (λ_=>by kernel_rfl) (List.Mem.tail _ (List.Mem.head _)) (.inl (by kernel_rfl))) ?_
    refine G_new 5 (some 92) (bv 8 63) (λb=>vs (pa b) 2 2) (.cells #[vi aq,.int .i32 bx,.bool au,vs ac ae ag,.string bu,vs a7 a9 a5,vi a0,.int .i32 b9,.bool a1,vs al am ak,.string cc,vs bg bq bm] 51) (by kernel_rfl) (λ_=>by kernel_rfl) (by kernel_rfl) ?_
    intro bz H14 e50 e51
    replace h:=h bz H14 e50 e51
    refine⟨[(8,vp (pa b)),(10,vs (some z) (carsN+1) g),(13,vp (pa j)),(15,vi i),(92,vs (pa bz) 2 2)],pk,(show FactsAt _ _ _ from⟨trivial,trivial,trivial⟩),?_⟩
    refine T_g 6 (some 93) (.agg (DR 7 0 false none 0 0 (ByteArray.mk #[]) (pa bz) 2 2).toArray) (bv 8 127) [(8,vp (pa b)),(10,vs (some z) (carsN+1) g),(13,vp (pa j)),(15,vi i),(93,.agg (DR 7 0 false none 0 0 (ByteArray.mk #[]) (pa bz) 2 2).toArray)] (pure (.value (.agg (DR 7 0 false none 0 0 (ByteArray.mk #[]) (pa bz) 2 2).toArray)):Sem Next) (λ_ _ _ _ _=>rfl) ?_
    obtain⟨q53,h⟩:=h
    refine G_onlyskip 7 none (bv 8 255) (storeN 51 (vp (pa j)) (.agg (DR 7 0 false none 0 0 (ByteArray.mk #[]) (pa bz) 2 2).toArray)) (λHz=>Hz=hputs H14 (ad j) (DR 7 0 false none 0 0 (ByteArray.mk #[]) (pa bz) 2 2) 0) (by kernel_rfl) (λ_=>by kernel_rfl) (ss_store (DR 7 0 false none 0 0 (ByteArray.mk #[]) (pa bz) 2 2) 6 (by kernel_rfl) (by kernel_rfl) (λ_=>by kernel_rfl) (by kernel_rfl) q53) (by kernel_rfl) ?_
    intro de e52
    replace h:=h de e52
    refine⟨[(8,vp (pa b)),(10,vs (some z) (carsN+1) g),(13,vp (pa j)),(15,vi i)],pk,(show FactsAt _ _ _ from⟨trivial,trivial,trivial⟩),?_⟩
    refine G_sub [(8,vp (pa b)),(10,vs (some z) (carsN+1) g),(13,vp (pa j)),(15,vi i)] sk ?_
    refine G_end (by kernel_rfl) ?_
    refine S_blockEnd ?_
    refine S_then ?_
    refine T_rz 16<| T_ne 3 [(8,vp (pa b)),(10,vs (some z) (carsN+1) g),(13,vp (pa j)),(15,vi (IntKind.wrap .i64 (i-1)))] ?_
    exact S_round ((IntKind.wrap .i64 (i-1)):Int) sk h
   rw[if_neg c45]at h
   refine T_cFz 84 (decide_eq_false c45) ?_
   refine S_exit 2 (by kernel_rfl) ?_
   refine S_exitThen ?_
   refine S_exitThen ?_
   refine S_exitHere ?_
   refine S_then ?_
   refine T_srz 18<| T_ud [10,15,84] [] ?_
   obtain⟨ao,bt,an,aa,af,ab,bw,a6,a8,ba,q54,h⟩:=h
   refine T_lr 94 51 q54 [13] ?_
   obtain⟨q56,h⟩:=h
   refine T_sta 51 (DR ao bt an aa af ab bw a6 a8 ba) q56 ?_
   intro dd e55
   replace h:=h dd e55
   refine T_pd [94] []<| T_ed 1 [] [(9,vi 0)] ?_
   refine S_ret (by kernel_rfl) ?_
   show At _ _ _ _ _ (Q .ret)
   obtain⟨b5,c7,b8,bn,bh,be,dc,ct,cs,cz,q57,h⟩:=h
   exact S_done (fn:=Tryz.f23) [.agg (DR b5 c7 b8 bn bh be dc ct cs cz).toArray,vi 0] hQ (show ResOK _ _ _ [.cell 8 51,.tmp 9] _ from .cell (by kernel_rfl) (loadOK_row (λ_=>by kernel_rfl) (λ_=>by kernel_rfl) q57) (.tmp (by kernel_rfl) (.nil))) h
  rw[if_neg c40]at h
  refine T_cTz 77 (bne_iff_ne.mpr c40)<| T_srz 13<| T_n 2 [(8,vp (pa b)),(78,.agg (DR 0 0 false none 0 0 (ByteArray.mk #[]) none 0 0).toArray),(79,vi s)] ?_
  obtain⟨q59,h⟩:=h
  refine T_sta 51 (DR 0 0 false none 0 0 (ByteArray.mk #[]) none 0 0) q59 ?_
  intro dh e58
  replace h:=h dh e58
  refine T_pd [78] []<| T_ed 1 [79] [(9,vi s)] ?_
  refine S_ret (by kernel_rfl) ?_
  show At _ _ _ _ _ (Q .ret)
  obtain⟨b4,c9,b1,bs,bl,bp,c8,cx,c0,cy,q60,h⟩:=h
  exact S_done (fn:=Tryz.f23) [.agg (DR b4 c9 b1 bs bl bp c8 cx c0 cy).toArray,vi s] hQ (show ResOK _ _ _ [.cell 8 51,.tmp 9] _ from .cell (by kernel_rfl) (loadOK_row (λ_=>by kernel_rfl) (λ_=>by kernel_rfl) q60) (.tmp (by kernel_rfl) (.nil))) h
 rw[if_neg c14]at h
 refine T_cTz 32 (bne_iff_ne.mpr c14)<| T_srz 4<| T_n 2 [(8,vp (pa b)),(33,.agg (DR 0 0 false none 0 0 (ByteArray.mk #[]) none 0 0).toArray),(34,vi rb)] ?_
 obtain⟨q62,h⟩:=h
 refine T_sta 51 (DR 0 0 false none 0 0 (ByteArray.mk #[]) none 0 0) q62 ?_
 intro df e61
 replace h:=h df e61
 refine T_pd [33] []<| T_ed 1 [34] [(9,vi rb)] ?_
 refine S_ret (by kernel_rfl) ?_
 show At _ _ _ _ _ (Q .ret)
 obtain⟨b7,db,b2,bj,bf,br,da,cw,cv,cu,q63,h⟩:=h
 exact S_done (fn:=Tryz.f23) [.agg (DR b7 db b2 bj bf br da cw cv cu).toArray,vi rb] hQ (show ResOK _ _ _ [.cell 8 51,.tmp 9] _ from .cell (by kernel_rfl) (loadOK_row (λ_=>by kernel_rfl) (λ_=>by kernel_rfl) q63) (.tmp (by kernel_rfl) (.nil))) h
end moraineref17_Read_rest

end Go.Proofs.YtibpklpgmgakcaaGreatDoor
