/- Printed: what each function asks, and that it is sound. -/
import Derived.Test.YtibpklpgmgakcaaGreatDoorFnsC
set_option linter.unusedSimpArgs false
set_option linter.unusedVariables false
set_option maxRecDepth 100000
set_option maxHeartbeats 1000000
noncomputable section
namespace Go.Proofs.YtibpklpgmgakcaaGreatDoor
open Go
/-! moraine/build.constant -/
namespace build_constant
def K0:=Func.code Tryz.f39
end build_constant
def build_constant.pt(wv:Int)(H:Array Obj)(R:Value->Array Obj->Prop):Prop:=
 ∀(b:Nat) (H1:Array Obj),b=H.size->H1=H.push (.cells (DR 0 0 false none 0 0 (ByteArray.mk #[]) none 0 0).toArray 51)->
 ∀(a:Nat) (H2:Array Obj),a=H1.size->H2=H1.push (.cells (DR 0 0 false none 0 0 (ByteArray.mk #[]) none 0 0).toArray 51)->
 (CanPuts H2 (ad a) 0 6)/\ ∀H3,H3=hputs H2 (ad a) (DR 0 0 false none 0 0 (ByteArray.mk #[]) none 0 0) 0->
 if wv=12 then(
 (CanPuts H3 (ad a) 0 1)/\ ∀H4,H4=hputs H3 (ad a) [.int .i64 1] 0->
 ∃az xC a8 ap an ao xT ct cs cr,RowAt H4 (ad a) 0 (DR az xC a8 ap an ao xT ct cs cr)/\
 (CanPuts H4 (ad b) 0 6)/\ ∀H5,H5=hputs H4 (ad b) (DR az xC a8 ap an ao xT ct cs cr) 0->
 ∃cv rC cx co cq cp rT d3 d1 d2,RowAt H5 (ad b) 0 (DR cv rC cx co cq cp rT d3 d1 d2)/\
 R (.tuple #[.agg (DR cv rC cx co cq cp rT d3 d1 d2).toArray,.bool true]) H5)
 else
 if wv=4 then(
 (CanPuts H3 (ad a) 0 1)/\ ∀H6,H6=hputs H3 (ad a) [.int .i64 2] 0->
 ∃ak b5 am p q x bx a0 a3 aq,RowAt H6 (ad a) 0 (DR ak b5 am p q x bx a0 a3 aq)/\
 (CanPuts H6 (ad b) 0 6)/\ ∀H7,H7=hputs H6 (ad b) (DR ak b5 am p q x bx a0 a3 aq) 0->
 ∃ch dj cn bn bg bd dw c1 cy dd,RowAt H7 (ad b) 0 (DR ch dj cn bn bg bd dw c1 cy dd)/\
 R (.tuple #[.agg (DR ch dj cn bn bg bd dw c1 cy dd).toArray,.bool true]) H7)
 else
 if wv=36 then(
 (CanPuts H3 (ad a) 0 1)/\ ∀H8,H8=hputs H3 (ad a) [.int .i64 9] 0->
 ∃af b1 al u z m b2 ay bc a5,RowAt H8 (ad a) 0 (DR af b1 al u z m b2 ay bc a5)/\
 (CanPuts H8 (ad b) 0 6)/\ ∀H9,H9=hputs H8 (ad b) (DR af b1 al u z m b2 ay bc a5) 0->
 ∃cg dm cc bu bl bs dl db de dc,RowAt H9 (ad b) 0 (DR cg dm cc bu bl bs dl db de dc)/\
 R (.tuple #[.agg (DR cg dm cc bu bl bs dl db de dc).toArray,.bool true]) H9)
 else
 if wv=28 then(
 (CanPuts H3 (ad a) 0 1)/\ ∀dh,dh=hputs H3 (ad a) [.int .i64 10] 0->
 ∃ai b7 ag e t f b6 aw a1 a7,RowAt dh (ad a) 0 (DR ai b7 ag e t f b6 aw a1 a7)/\
 (CanPuts dh (ad b) 0 6)/\ ∀dz,dz=hputs dh (ad b) (DR ai b7 ag e t f b6 aw a1 a7) 0->
 ∃cm dt ce bh bf bt dq c9 c6 c2,RowAt dz (ad b) 0 (DR cm dt ce bh bf bt dq c9 c6 c2)/\
 R (.tuple #[.agg (DR cm dt ce bh bf bt dq c9 c6 c2).toArray,.bool true]) dz)
 else
 if wv=20 then(
 ∃ah b0 ac o i j b9 ba ax av,RowAt H3 (ad a) 0 (DR ah b0 ac o i j b9 ba ax av)/\
 (CanPuts H3 (ad b) 0 6)/\ ∀dy,dy=hputs H3 (ad b) (DR ah b0 ac o i j b9 ba ax av) 0->
 ∃ck dr cd bo bq be dn da df c0,RowAt dy (ad b) 0 (DR ck dr cd bo bq be dn da df c0)/\
 R (.tuple #[.agg (DR ck dr cd bo bq be dn da df c0).toArray,.bool true]) dy)
 else
 word_Rune.C wv H3 (λv cu=> ∃(ra:Int) (rb:Bool),v=.tuple #[.int .i32 ra,.bool rb]/\
 if rb=true then(
 (CanPuts cu (ad a) 0 1)/\ ∀di,di=hputs cu (ad a) [.int .i64 3] 0->
 (CanPuts di ((ad a).add 1) 0 1)/\ ∀dg,dg=hputs di ((ad a).add 1) [.int .i32 ra] 0->
 ∃ab bw aa r d s b4 bb a6 a2,RowAt dg (ad a) 0 (DR ab bw aa r d s b4 bb a6 a2)/\
 (CanPuts dg (ad b) 0 6)/\ ∀dx,dx=hputs dg (ad b) (DR ab bw aa r d s b4 bb a6 a2) 0->
 ∃cf dv cj bp br bj dp c3 c5 c8,RowAt dx (ad b) 0 (DR cf dv cj bp br bj dp c3 c5 c8)/\
 R (.tuple #[.agg (DR cf dv cj bp br bj dp c3 c5 c8).toArray,.bool true]) dx)
 else
 ∃ae b3 aj g y k bz a4 a9 au,RowAt cu (ad a) 0 (DR ae b3 aj g y k bz a4 a9 au)/\
 (CanPuts cu (ad b) 0 6)/\ ∀d0,d0=hputs cu (ad b) (DR ae b3 aj g y k bz a4 a9 au) 0->
 ∃cl du ci bi bk bm dk cz cw c4,RowAt d0 (ad b) 0 (DR cl du ci bi bk bm dk cz cw c4)/\
 R (.tuple #[.agg (DR cl du ci bi bk bm dk cz cw c4).toArray,.bool false]) d0)
namespace build_constant
theorem link{wv:Int}{H:Array Obj}{R:Value->Array Obj->Prop}(h:pt wv H R):C wv H R:=by
 refine T_en K0 35 Tryz.func39 ?_
 intro w0 Q hQ
 unfold pt at h
 refine T_su [(0,vu wv)]<| T_srz 0<| T_nw (some 2) (λb=>vp (pa b)) (.cells (DR 0 0 false none 0 0 (ByteArray.mk #[]) none 0 0).toArray 51) ?_
 intro b H1 e1 e2
 replace h:=h b H1 e1 e2
 refine T_pd [] [(2,vp (pa b))]<| T_ed 1 [] []<| T_srz 1<| T_nd 1 [] [(7,.agg (DR 0 0 false none 0 0 (ByteArray.mk #[]) none 0 0).toArray)]<| T_nw (some 4) (λb=>vp (pa b)) (.cells (DR 0 0 false none 0 0 (ByteArray.mk #[]) none 0 0).toArray 51) ?_
 intro a H2 e3 e4
 replace h:=h a H2 e3 e4
 refine T_pd [] [(4,vp (pa a))] ?_
 obtain⟨q6,h⟩:=h
 refine T_sta 51 (DR 0 0 false none 0 0 (ByteArray.mk #[]) none 0 0) q6 ?_
 intro H3 e5
 replace h:=h H3 e5
 refine T_pd [7] []<| T_e<| T_sz<| T_srz 2<| T_ed 1 [] [(8,vu wv)]<| T_bz 0<| T_srz 7<| T_ed 2 [] [(20,.bool (wv==12))] ?_
 by_cases c7:wv=12
 ·rw[if_pos c7]at h
  refine T_cTz 20 (beq_iff_eq.mpr c7)<| T_rz 8<| T_nd 1 [0,8,20] [(22,vp (pa a))] ?_
  obtain⟨q10,h⟩:=h
  refine T_st1 3 (vi 1) q10 ?_
  intro H4 e9
  replace h:=h H4 e9
  refine T_pd [22] [] ?_
  refine N_end (by kernel_rfl) ?_
  refine S_blockEnd ?_
  refine S_then ?_
  refine T_srz 16 ?_
  obtain⟨az,xC,a8,ap,an,ao,xT,ct,cs,cr,q11,h⟩:=h
  refine T_lr 34 51 q11 [4] ?_
  obtain⟨q13,h⟩:=h
  refine T_sta 51 (DR az xC a8 ap an ao xT ct cs cr) q13 ?_
  intro H5 e12
  replace h:=h H5 e12
  refine T_pd [34] []<| T_ed 1 [] [(3,.bool true)] ?_
  refine S_ret (by kernel_rfl) ?_
  show At _ _ _ _ _ (Q .ret)
  obtain⟨cv,rC,cx,co,cq,cp,rT,d3,d1,d2,q14,h⟩:=h
  exact S_done (fn:=Tryz.f39) [.agg (DR cv rC cx co cq cp rT d3 d1 d2).toArray,.bool true] hQ (show ResOK _ _ _ [.cell 2 51,.tmp 3] _ from .cell (by kernel_rfl) (loadOK_row (λ_=>by kernel_rfl) (λ_=>by kernel_rfl) q14) (.tmp (by kernel_rfl) (.nil))) h
 rw[if_neg c7]at h
 refine T_cFz 20 (beq_eq_false_iff_ne.mpr c7)<| T_srz 9<| T_ed 2 [20] [(23,.bool (wv==4))] ?_
 by_cases c15:wv=4
 ·rw[if_pos c15]at h
  refine T_cTz 23 (beq_iff_eq.mpr c15)<| T_rz 10<| T_nd 1 [0,8,23] [(25,vp (pa a))] ?_
  obtain⟨q18,h⟩:=h
  refine T_st1 3 (vi 2) q18 ?_
  intro H6 e17
  replace h:=h H6 e17
  refine T_pd [25] [] ?_
  refine N_end (by kernel_rfl) ?_
  refine S_blockEnd ?_
  refine S_then ?_
  refine T_srz 16 ?_
  obtain⟨ak,b5,am,p,q,x,bx,a0,a3,aq,q19,h⟩:=h
  refine T_lr 34 51 q19 [4] ?_
  obtain⟨q21,h⟩:=h
  refine T_sta 51 (DR ak b5 am p q x bx a0 a3 aq) q21 ?_
  intro H7 e20
  replace h:=h H7 e20
  refine T_pd [34] []<| T_ed 1 [] [(3,.bool true)] ?_
  refine S_ret (by kernel_rfl) ?_
  show At _ _ _ _ _ (Q .ret)
  obtain⟨ch,dj,cn,bn,bg,bd,dw,c1,cy,dd,q22,h⟩:=h
  exact S_done (fn:=Tryz.f39) [.agg (DR ch dj cn bn bg bd dw c1 cy dd).toArray,.bool true] hQ (show ResOK _ _ _ [.cell 2 51,.tmp 3] _ from .cell (by kernel_rfl) (loadOK_row (λ_=>by kernel_rfl) (λ_=>by kernel_rfl) q22) (.tmp (by kernel_rfl) (.nil))) h
 rw[if_neg c15]at h
 refine T_cFz 23 (beq_eq_false_iff_ne.mpr c15)<| T_srz 11<| T_ed 2 [23] [(26,.bool (wv==36))] ?_
 by_cases c23:wv=36
 ·rw[if_pos c23]at h
  refine T_cTz 26 (beq_iff_eq.mpr c23)<| T_rz 12<| T_nd 1 [0,8,26] [(28,vp (pa a))] ?_
  obtain⟨q26,h⟩:=h
  refine T_st1 3 (vi 9) q26 ?_
  intro H8 e25
  replace h:=h H8 e25
  refine T_pd [28] [] ?_
  refine N_end (by kernel_rfl) ?_
  refine S_blockEnd ?_
  refine S_then ?_
  refine T_srz 16 ?_
  obtain⟨af,b1,al,u,z,m,b2,ay,bc,a5,q27,h⟩:=h
  refine T_lr 34 51 q27 [4] ?_
  obtain⟨q29,h⟩:=h
  refine T_sta 51 (DR af b1 al u z m b2 ay bc a5) q29 ?_
  intro H9 e28
  replace h:=h H9 e28
  refine T_pd [34] []<| T_ed 1 [] [(3,.bool true)] ?_
  refine S_ret (by kernel_rfl) ?_
  show At _ _ _ _ _ (Q .ret)
  obtain⟨cg,dm,cc,bu,bl,bs,dl,db,de,dc,q30,h⟩:=h
  exact S_done (fn:=Tryz.f39) [.agg (DR cg dm cc bu bl bs dl db de dc).toArray,.bool true] hQ (show ResOK _ _ _ [.cell 2 51,.tmp 3] _ from .cell (by kernel_rfl) (loadOK_row (λ_=>by kernel_rfl) (λ_=>by kernel_rfl) q30) (.tmp (by kernel_rfl) (.nil))) h
 rw[if_neg c23]at h
 refine T_cFz 26 (beq_eq_false_iff_ne.mpr c23)<| T_srz 13<| T_ed 2 [26] [(29,.bool (wv==28))] ?_
 by_cases c31:wv=28
 ·rw[if_pos c31]at h
  refine T_cTz 29 (beq_iff_eq.mpr c31)<| T_rz 14<| T_nd 1 [0,8,29] [(31,vp (pa a))] ?_
  obtain⟨q34,h⟩:=h
  refine T_st1 3 (vi 10) q34 ?_
  intro dh e33
  replace h:=h dh e33
  refine T_pd [31] [] ?_
  refine N_end (by kernel_rfl) ?_
  refine S_blockEnd ?_
  refine S_then ?_
  refine T_srz 16 ?_
  obtain⟨ai,b7,ag,e,t,f,b6,aw,a1,a7,q35,h⟩:=h
  refine T_lr 34 51 q35 [4] ?_
  obtain⟨q37,h⟩:=h
  refine T_sta 51 (DR ai b7 ag e t f b6 aw a1 a7) q37 ?_
  intro dz e36
  replace h:=h dz e36
  refine T_pd [34] []<| T_ed 1 [] [(3,.bool true)] ?_
  refine S_ret (by kernel_rfl) ?_
  show At _ _ _ _ _ (Q .ret)
  obtain⟨cm,dt,ce,bh,bf,bt,dq,c9,c6,c2,q38,h⟩:=h
  exact S_done (fn:=Tryz.f39) [.agg (DR cm dt ce bh bf bt dq c9 c6 c2).toArray,.bool true] hQ (show ResOK _ _ _ [.cell 2 51,.tmp 3] _ from .cell (by kernel_rfl) (loadOK_row (λ_=>by kernel_rfl) (λ_=>by kernel_rfl) q38) (.tmp (by kernel_rfl) (.nil))) h
 rw[if_neg c31]at h
 refine T_cFz 29 (beq_eq_false_iff_ne.mpr c31)<| T_srz 15<| T_ed 2 [8,29] [(32,.bool (wv==20))] ?_
 by_cases c39:wv=20
 ·rw[if_pos c39]at h
  refine T_cTz 32 (beq_iff_eq.mpr c39)<| T_k ?_
  refine S_blockEnd ?_
  refine S_then ?_
  refine T_srz 16<| T_ud [0,32] [] ?_
  obtain⟨ah,b0,ac,o,i,j,b9,ba,ax,av,q41,h⟩:=h
  refine T_lr 34 51 q41 [4] ?_
  obtain⟨q43,h⟩:=h
  refine T_sta 51 (DR ah b0 ac o i j b9 ba ax av) q43 ?_
  intro dy e42
  replace h:=h dy e42
  refine T_pd [34] []<| T_ed 1 [] [(3,.bool true)] ?_
  refine S_ret (by kernel_rfl) ?_
  show At _ _ _ _ _ (Q .ret)
  obtain⟨ck,dr,cd,bo,bq,be,dn,da,df,c0,q44,h⟩:=h
  exact S_done (fn:=Tryz.f39) [.agg (DR ck dr cd bo bq be dn da df c0).toArray,.bool true] hQ (show ResOK _ _ _ [.cell 2 51,.tmp 3] _ from .cell (by kernel_rfl) (loadOK_row (λ_=>by kernel_rfl) (λ_=>by kernel_rfl) q44) (.tmp (by kernel_rfl) (.nil))) h
 rw[if_neg c39]at h
 refine T_cFz 32 (beq_eq_false_iff_ne.mpr c39)<| T_srz 3<| T_nd 1 [0,32] [(10,vu wv)] ?_
 refine T_c (some 11) h ?_;clear h
 rintro v cu ⟨ra,rb,rfl,h⟩
 refine T_pd [10] [(11,.tuple #[.int .i32 ra,.bool rb])]<| T_ed 5 [11] [(5,.int .i32 ra),(6,.bool rb)]<| T_sz<| T_srz 4<| T_ed 2 [6] [(15,.bool (!rb))] ?_
 by_cases c45:rb=true
 ·rw[if_pos c45]at h
  refine T_cFz 15 (congrArg Bool.not (c45))<| T_kt<| T_rz 6<| T_nd 2 [5,15] [(17,.int .i32 ra),(18,vp (pa a))] ?_
  obtain⟨q48,h⟩:=h
  refine T_st1 3 (vi 3) q48 ?_
  intro di e47
  replace h:=h di e47
  refine T_pd [18] []<| T_nd 1 [] [(19,vp (some ((ad a).add 1)))] ?_
  obtain⟨q50,h⟩:=h
  refine T_st1 21 (.int .i32 ra) q50 ?_
  intro dg e49
  replace h:=h dg e49
  refine T_pd [17,19] [] ?_
  refine N_end (by kernel_rfl) ?_
  refine S_blockEnd ?_
  refine S_then ?_
  refine T_srz 16 ?_
  obtain⟨ab,bw,aa,r,d,s,b4,bb,a6,a2,q51,h⟩:=h
  refine T_lr 34 51 q51 [4] ?_
  obtain⟨q53,h⟩:=h
  refine T_sta 51 (DR ab bw aa r d s b4 bb a6 a2) q53 ?_
  intro dx e52
  replace h:=h dx e52
  refine T_pd [34] []<| T_ed 1 [] [(3,.bool true)] ?_
  refine S_ret (by kernel_rfl) ?_
  show At _ _ _ _ _ (Q .ret)
  obtain⟨cf,dv,cj,bp,br,bj,dp,c3,c5,c8,q54,h⟩:=h
  exact S_done (fn:=Tryz.f39) [.agg (DR cf dv cj bp br bj dp c3 c5 c8).toArray,.bool true] hQ (show ResOK _ _ _ [.cell 2 51,.tmp 3] _ from .cell (by kernel_rfl) (loadOK_row (λ_=>by kernel_rfl) (λ_=>by kernel_rfl) q54) (.tmp (by kernel_rfl) (.nil))) h
 rw[if_neg c45]at h
 refine T_cTz 15 (congrArg Bool.not (eq_false_of_ne_true c45))<| T_srz 5<| T_ud [5,15] [] ?_
 obtain⟨ae,b3,aj,g,y,k,bz,a4,a9,au,q55,h⟩:=h
 refine T_lr 16 51 q55 [4] ?_
 obtain⟨q57,h⟩:=h
 refine T_sta 51 (DR ae b3 aj g y k bz a4 a9 au) q57 ?_
 intro d0 e56
 replace h:=h d0 e56
 refine T_pd [16] []<| T_ed 1 [] [(3,.bool false)] ?_
 refine S_ret (by kernel_rfl) ?_
 show At _ _ _ _ _ (Q .ret)
 obtain⟨cl,du,ci,bi,bk,bm,dk,cz,cw,c4,q58,h⟩:=h
 exact S_done (fn:=Tryz.f39) [.agg (DR cl du ci bi bk bm dk cz cw c4).toArray,.bool false] hQ (show ResOK _ _ _ [.cell 2 51,.tmp 3] _ from .cell (by kernel_rfl) (loadOK_row (λ_=>by kernel_rfl) (λ_=>by kernel_rfl) q58) (.tmp (by kernel_rfl) (.nil))) h
end build_constant

/-! (*moraine/build.reader).vector -/
namespace build_reader_vector
def K0:=Func.code Tryz.f44
def K2:=cb K0
def K4:=cb K2
def K6:=cb K4
def K13:=ca K6
def K16:=cb K13
def K17:=ca K16
def K18:=ca K17
end build_reader_vector
def build_reader_vector.pt(r:Option Addr)(wv a:Int)(H:Array Obj)(R:Value->Array Obj->Prop):Prop:=
 ∀(b:Nat) (H1:Array Obj),b=H.size->H1=H.push (.cells (DR 0 0 false none 0 0 (ByteArray.mk #[]) none 0 0).toArray 51)->
 ∀(d:Nat) (H2:Array Obj),d=H1.size->H2=H1.push (.cells (DR 0 0 false none 0 0 (ByteArray.mk #[]) none 0 0).toArray 51)->
 (CanPuts H2 (ad d) 0 6)/\ ∀H3,H3=hputs H2 (ad d) (DR 8 0 false none 0 0 (ByteArray.mk #[]) none 0 0) 0->
 if a=64 then(
 ∃av xC ay ak ai aj xT bu bt bs,RowAt H3 (ad d) 0 (DR av xC ay ak ai aj xT bu bt bs)/\
 (CanPuts H3 (ad b) 0 6)/\ ∀H4,H4=hputs H3 (ad b) (DR av xC ay ak ai aj xT bu bt bs) 0->
 ∃bw rC bx bl bo bm rT cm ck cl,RowAt H4 (ad b) 0 (DR bw rC bx bl bo bm rT cm ck cl)/\
 R (.tuple #[.agg (DR bw rC bx bl bo bm rT cm ck cl).toArray,.int .i64 10]) H4)
 else
 ∃rA:Addr,r=some rA/\
 ∃x:Option Addr,hat H3 rA=some (.pointer x)/\
 obj_Heap_Len.C x wv H3 (λv H5=> ∃f:Int,v=.int .i64 f/\
 ∃(ch:Int->Array Obj->Prop) (m19:Int->Array Obj->Nat),ch 0 H5/\ ∀(e:Int) (H6:Array Obj),ch e H6->
 if e<f then(
 ∃b5:Option Addr,hat H6 rA=some (.pointer b5)/\
 obj_Heap_Get.C b5 wv 1 e H6 (λcn H7=> ∃ra rb:Int,cn=.tuple #[.int .u64 ra,.int .i64 rb]/\
 build_reader_datum.C (some rA) ra (IntKind.wrap .i64 (a+1)) H7 (λco H8=> ∃(ac bp:Int) (ab:Bool) (s:Option Addr) (u t:Nat) (bn:ByteArray) (a3:Option Addr) (a7 a2:Nat) (g:Int),co=.tuple #[.agg (DR ac bp ab s u t bn a3 a7 a2).toArray,.int .i64 g]/\
 ∀(ah:Nat) (H9:Array Obj),ah=H8.size->H9=H8.push (.cells (DR 0 0 false none 0 0 (ByteArray.mk #[]) none 0 0).toArray 51)->
 (CanPuts H9 (ad ah) 0 6)/\ ∀bb,bb=hputs H9 (ad ah) (DR ac bp ab s u t bn a3 a7 a2) 0->
 if g=0 then(
 ∃(xB:Option Addr) (xN bc:Nat),hat bb ((ad d).add 5)=some (.slice xB xN bc)/\
 ∃ao br aq ae af ag bq bg bi be,RowAt bb (ad ah) 0 (DR ao br aq ae af ag bq bg bi be)/\
 ∀(b7:Nat) (H11:Array Obj),b7=bb.size->H11=bb.push (.cells (DR ao br aq ae af ag bq bg bi be).toArray 51)->
 appendK 6 51 88 (DR 0 0 false none 0 0 (ByteArray.mk #[]) none 0 0) xB xN bc (some (ad b7)) 1 H11 (λap b6 cj=>
 (CanPuts cj ((ad d).add 5) 0 1)/\ ∀ci,ci=hputs cj ((ad d).add 5) [.slice ap (xN+1) b6] 0->
 (ch (IntKind.wrap .i64 (e+1)) ci/\m19 (IntKind.wrap .i64 (e+1)) ci<m19 e H6)))
 else
 ∃q a6 y j k i a1 al an am,RowAt bb (ad d) 0 (DR q a6 y j k i a1 al an am)/\
 (CanPuts bb (ad b) 0 6)/\ ∀cf,cf=hputs bb (ad b) (DR q a6 y j k i a1 al an am) 0->
 ∃bj b9 bk a5 a0 az ce b0 bz b3,RowAt cf (ad b) 0 (DR bj b9 bk a5 a0 az ce b0 bz b3)/\
 R (.tuple #[.agg (DR bj b9 bk a5 a0 az ce b0 bz b3).toArray,.int .i64 g]) cf)))
 else
 ∃aa ba z m p o bd au aw ax,RowAt H6 (ad d) 0 (DR aa ba z m p o bd au aw ax)/\
 (CanPuts H6 (ad b) 0 6)/\ ∀cg,cg=hputs H6 (ad b) (DR aa ba z m p o bd au aw ax) 0->
 ∃bh cd bf a9 a4 a8 cc b1 b4 b2,RowAt cg (ad b) 0 (DR bh cd bf a9 a4 a8 cc b1 b4 b2)/\
 R (.tuple #[.agg (DR bh cd bf a9 a4 a8 cc b1 b4 b2).toArray,.int .i64 0]) cg)
namespace build_reader_vector
theorem link{r:Option Addr}{wv a:Int}{H:Array Obj}{R:Value->Array Obj->Prop}(h:pt r wv a H R):C r wv a H R:=by
 refine T_en K0 57 Tryz.func44 ?_
 intro w0 Q hQ
 unfold pt at h
 refine T_su [(0,vp r),(1,vu wv),(2,vi a)]<| T_srz 0<| T_nw (some 6) (λb=>vp (pa b)) (.cells (DR 0 0 false none 0 0 (ByteArray.mk #[]) none 0 0).toArray 51) ?_
 intro b H1 e1 e2
 replace h:=h b H1 e1 e2
 refine T_pd [] [(6,vp (pa b))]<| T_ed 1 [] []<| T_srz 1<| T_nd 1 [] [(14,.agg (DR 8 0 false none 0 0 (ByteArray.mk #[]) none 0 0).toArray)]<| T_nw (some 8) (λb=>vp (pa b)) (.cells (DR 0 0 false none 0 0 (ByteArray.mk #[]) none 0 0).toArray 51) ?_
 intro d H2 e3 e4
 replace h:=h d H2 e3 e4
 refine T_pd [] [(8,vp (pa d))] ?_
 obtain⟨q6,h⟩:=h
 refine T_sta 51 (DR 8 0 false none 0 0 (ByteArray.mk #[]) none 0 0) q6 ?_
 intro H3 e5
 replace h:=h H3 e5
 refine T_pd [14] []<| T_e<| T_sz<| T_srz 2<| T_ed 2 [] [(16,.bool (a==64))] ?_
 by_cases c7:a=64
 ·rw[if_pos c7]at h
  refine T_cTz 16 (beq_iff_eq.mpr c7)<| T_srz 3<| T_ud [0,1,2,16] [] ?_
  obtain⟨av,xC,ay,ak,ai,aj,xT,bu,bt,bs,q9,h⟩:=h
  refine T_lr 17 51 q9 [8] ?_
  obtain⟨q11,h⟩:=h
  refine T_sta 51 (DR av xC ay ak ai aj xT bu bt bs) q11 ?_
  intro H4 e10
  replace h:=h H4 e10
  refine T_pd [17] []<| T_ed 1 [] [(7,vi 10)] ?_
  refine S_ret (by kernel_rfl) ?_
  show At _ _ _ _ _ (Q .ret)
  obtain⟨bw,rC,bx,bl,bo,bm,rT,cm,ck,cl,q12,h⟩:=h
  exact S_done (fn:=Tryz.f44) [.agg (DR bw rC bx bl bo bm rT cm ck cl).toArray,vi 10] hQ (show ResOK _ _ _ [.cell 6 51,.tmp 7] _ from .cell (by kernel_rfl) (loadOK_row (λ_=>by kernel_rfl) (λ_=>by kernel_rfl) q12) (.tmp (by kernel_rfl) (.nil))) h
 rw[if_neg c7]at h
 refine T_cFz 16 (beq_eq_false_iff_ne.mpr c7)<| T_kt<| T_sz<| T_srz 4<| T_nd 1 [16] [(18,vp r)] ?_
 obtain⟨rA,rfl,h⟩:=h
 refine T_nd 2 [0,18] [(0,vp (some rA)),(20,vp (some rA))] ?_
 obtain⟨x,q13,h⟩:=h
 refine T_l1 21 24 q13 [20]<| T_nd 1 [] [(22,vu wv)] ?_
 refine T_c (some 23) h ?_;clear h
 rintro v H5 ⟨f,rfl,h⟩
 refine T_pd [21,22] [(23,vi f)]<| T_ed 1 [] [(24,vi 0)]<| T_bz 0 ?_
 obtain⟨ch,m19,i14,i15⟩:=h
 refine S_loop (x:=K18) (σ:=Int) (λs_=> [(0,vp (some rA)),(1,vu wv),(2,vi a),(6,vp (pa b)),(8,vp (pa d)),(23,vi f),(24,vi s_)]) (λs_ H=>ch s_ H) (λs_ H=>m19 s_ H) (0:Int) (by kernel_rfl) i14 sk ?_
 rintro e H6 i16
 have h:=i15 e H6 i16
 refine T_su [(0,vp (some rA)),(1,vu wv),(2,vi a),(6,vp (pa b)),(8,vp (pa d)),(23,vi f),(24,vi e)]<| T_srz 5<| T_ed 1 [] [(25,.bool (decide (e<f)))]<| T_sz ?_
 by_cases c17:e<f
 ·rw[if_pos c17]at h
  refine T_cTz 25 (decide_eq_true c17)<| T_kt<| T_sz<| T_bz 1<| T_srz 6<| T_ed 2 [25] [(9,vi e)]<| T_srz 7<| T_nd 3 [] [(30,vp (some rA))] ?_
  obtain⟨b5,q19,h⟩:=h
  refine T_l1 31 24 q19 [30]<| T_nd 2 [9] [(32,vu wv),(33,vi e)] ?_
  refine T_c (some 34) h ?_;clear h
  rintro cn H7 ⟨ra,rb,rfl,h⟩
  refine T_pd [31,32,33] [(34,.tuple #[vu ra,vi rb])]<| T_ed 5 [34] [(10,vu ra)]<| T_srz 8<| T_nd 4 [10] [(38,vp (some rA)),(39,vu ra),(41,vi (IntKind.wrap .i64 (a+1)))] ?_
  refine T_c (some 42) h ?_;clear h
  rintro co H8 ⟨ac,bp,ab,s,u,t,bn,a3,a7,a2,g,rfl,h⟩
  refine T_pd [38,39,41] [(42,.tuple #[.agg (DR ac bp ab s u t bn a3 a7 a2).toArray,vi g])]<| T_nd 3 [42] [(43,.agg (DR ac bp ab s u t bn a3 a7 a2).toArray),(44,vi g)]<| T_nw (some 12) (λb=>vp (pa b)) (.cells (DR 0 0 false none 0 0 (ByteArray.mk #[]) none 0 0).toArray 51) ?_
  intro ah H9 e20 e21
  replace h:=h ah H9 e20 e21
  refine T_pd [] [(12,vp (pa ah))] ?_
  obtain⟨q23,h⟩:=h
  refine T_sta 51 (DR ac bp ab s u t bn a3 a7 a2) q23 ?_
  intro bb e22
  replace h:=h bb e22
  refine T_pd [43] []<| T_ed 1 [44] [(13,vi g)]<| T_sz<| T_srz 9<| T_ed 2 [] [(46,.bool (g !=0))] ?_
  by_cases c24:g=0
  ·rw[if_pos c24]at h
   refine T_cFz 46 (bne_eq_false_iff_eq.mpr c24)<| T_kt<| T_rz 11<| T_nd 1 [13,46] [(49,vp (some ((ad d).add 5)))] ?_
   obtain⟨xB,xN,bc,q26,h⟩:=h
   refine T_l1 50 49 q26 [49] ?_
   obtain⟨ao,br,aq,ae,af,ag,bq,bg,bi,be,q27,h⟩:=h
   refine T_lr 51 51 q27 [12]<| T_nw (some 52) (λb=>vs (pa b) 1 1) (.cells (DR ao br aq ae af ag bq bg bi be).toArray 51) ?_
   intro b7 H11 e28 e29
   replace h:=h b7 H11 e28 e29
   refine T_pd [51] [(52,vs (pa b7) 1 1)] ?_
   refine N_op (some 53) (appendN #[49,49] 49 #[vs xB xN bc,vs (pa b7) 1 1]) _ (λ_=>by kernel_rfl) (ss_append (T:=51) (sz:=6) (bytes:=88) (zero:=(.agg (DR 0 0 false none 0 0 (ByteArray.mk #[]) none 0 0).toArray:Value)) Tryz.underlying49 Tryz.underlying49 rfl (show Tryz.prog.info? 51=some Tryz.t51 from by kernel_rfl) (by kernel_rfl) (by kernel_rfl) (by decide) (by kernel_rfl) (by first | exact h | (simpa only[Value.cells,List.toList_toArray]using h))) ?_;clear h
   rintro _ cj ⟨ap,b6,rfl,h⟩
   refine T_pd [50,52] [(53,vs ap (xN+1) b6)]<| T_nd 1 [] [(54,vp (some ((ad d).add 5)))] ?_
   obtain⟨q31,h⟩:=h
   refine T_st1 49 (vs ap (xN+1) b6) q31 ?_
   intro ci e30
   replace h:=h ci e30
   refine T_pd [53,54] [] ?_
   refine N_end (by kernel_rfl) ?_
   refine S_blockEnd ?_
   refine S_then ?_
   refine T_rz 12<| T_ed 2 [24] [(24,vi (IntKind.wrap .i64 (e+1)))] ?_
   exact S_round ((IntKind.wrap .i64 (e+1)):Int) sk h
  rw[if_neg c24]at h
  refine T_cTz 46 (bne_iff_ne.mpr c24)<| T_srz 10<| T_ud [0,1,2,12,23,24,46] [] ?_
  obtain⟨q,a6,y,j,k,i,a1,al,an,am,q32,h⟩:=h
  refine T_lr 47 51 q32 [8]<| T_nd 1 [13] [(48,vi g)] ?_
  obtain⟨q34,h⟩:=h
  refine T_sta 51 (DR q a6 y j k i a1 al an am) q34 ?_
  intro cf e33
  replace h:=h cf e33
  refine T_pd [47] []<| T_ed 1 [48] [(7,vi g)] ?_
  refine S_ret (by kernel_rfl) ?_
  show At _ _ _ _ _ (Q .ret)
  obtain⟨bj,b9,bk,a5,a0,az,ce,b0,bz,b3,q35,h⟩:=h
  exact S_done (fn:=Tryz.f44) [.agg (DR bj b9 bk a5 a0 az ce b0 bz b3).toArray,vi g] hQ (show ResOK _ _ _ [.cell 6 51,.tmp 7] _ from .cell (by kernel_rfl) (loadOK_row (λ_=>by kernel_rfl) (λ_=>by kernel_rfl) q35) (.tmp (by kernel_rfl) (.nil))) h
 rw[if_neg c17]at h
 refine T_cFz 25 (decide_eq_false c17) ?_
 refine S_exit 0 (by kernel_rfl) ?_
 refine S_exitThen ?_
 refine S_exitThen ?_
 refine S_exitHere ?_
 refine S_then ?_
 refine T_srz 13<| T_ud [0,1,2,23,24,25] [] ?_
 obtain⟨aa,ba,z,m,p,o,bd,au,aw,ax,q36,h⟩:=h
 refine T_lr 56 51 q36 [8] ?_
 obtain⟨q38,h⟩:=h
 refine T_sta 51 (DR aa ba z m p o bd au aw ax) q38 ?_
 intro cg e37
 replace h:=h cg e37
 refine T_pd [56] []<| T_ed 1 [] [(7,vi 0)] ?_
 refine S_ret (by kernel_rfl) ?_
 show At _ _ _ _ _ (Q .ret)
 obtain⟨bh,cd,bf,a9,a4,a8,cc,b1,b4,b2,q39,h⟩:=h
 exact S_done (fn:=Tryz.f44) [.agg (DR bh cd bf a9 a4 a8 cc b1 b4 b2).toArray,vi 0] hQ (show ResOK _ _ _ [.cell 6 51,.tmp 7] _ from .cell (by kernel_rfl) (loadOK_row (λ_=>by kernel_rfl) (λ_=>by kernel_rfl) q39) (.tmp (by kernel_rfl) (.nil))) h
end build_reader_vector

/-! (*moraine/build.reader).pairs -/
namespace build_reader_pairs
def K0:=Func.code Tryz.f47
def K2:=cb K0
def K4:=cb K2
def K12:=cb K4
def K13:=ca K12
def K14:=cb K12
def K15:=ca K13
def K16:=ca K15
def K39:=cb K14
def K40:=ca K39
def K43:=cb K40
def K44:=ca K43
def K45:=ca K44
def K47:=cb K45
def K52:=ca K47
def K54:=ca K52
end build_reader_pairs
def build_reader_pairs.pt(r:Option Addr)(wv d:Int)(H:Array Obj)(R:Value->Array Obj->Prop):Prop:=
 ∀(b:Nat) (H1:Array Obj),b=H.size->H1=H.push (.cells (DR 0 0 false none 0 0 (ByteArray.mk #[]) none 0 0).toArray 51)->
 if d=64 then(
 (CanPuts H1 (ad b) 0 6)/\ ∀H2,H2=hputs H1 (ad b) (DR 0 0 false none 0 0 (ByteArray.mk #[]) none 0 0) 0->
 ∃cl rC cm ce ch cf rT dm dk dl,RowAt H2 (ad b) 0 (DR cl rC cm ce ch cf rT dm dk dl)/\
 R (.tuple #[.agg (DR cl rC cm ce ch cf rT dm dk dl).toArray,.int .i64 10]) H2)
 else
 ∃(db:Int->(Option Addr)->Nat->Nat->Array Obj->Prop) (m17:Int->(Option Addr)->Nat->Nat->Array Obj->Nat),db wv none 0 0 H1/\ ∀(g:Int) (carsB:Option Addr) (carsN:Nat) (carsC:Nat) (H3:Array Obj),db g carsB carsN carsC H3->
 ∃rA:Addr,r=some rA/\
 ∃x:Option Addr,hat H3 rA=some (.pointer x)/\
 obj_Heap_Car.C x g H3 (λv H4=> ∃ra rb:Int,v=.tuple #[.int .u64 ra,.int .i64 rb]/\
 build_reader_datum.C (some rA) ra (IntKind.wrap .i64 (d+1)) H4 (λdq H5=> ∃(az ci:Int) (ax:Bool) (ah:Option Addr) (al aj:Nat) (cg:ByteArray) (bl:Option Addr) (br bj:Nat) (s:Int),dq=.tuple #[.agg (DR az ci ax ah al aj cg bl br bj).toArray,.int .i64 s]/\
 ∀(a3:Nat) (H6:Array Obj),a3=H5.size->H6=H5.push (.cells (DR 0 0 false none 0 0 (ByteArray.mk #[]) none 0 0).toArray 51)->
 (CanPuts H6 (ad a3) 0 6)/\ ∀H7,H7=hputs H6 (ad a3) (DR az ci ax ah al aj cg bl br bj) 0->
 if s=0 then(
 ∃b3 xC b7 be bc bd xT c4 c2 c1,RowAt H7 (ad a3) 0 (DR b3 xC b7 be bc bd xT c4 c2 c1)/\
 ∀(cz:Nat) (H8:Array Obj),cz=H7.size->H8=H7.push (.cells (DR b3 xC b7 be bc bd xT c4 c2 c1).toArray 51)->
 appendK 6 51 88 (DR 0 0 false none 0 0 (ByteArray.mk #[]) none 0 0) carsB carsN carsC (some (ad cz)) 1 H8 (λap e H9=>
 ∃cw:Option Addr,hat H9 rA=some (.pointer cw)/\
 obj_Heap_Cdr.C cw g H9 (λdw dr=> ∃f dh:Int,dw=.tuple #[.int .u64 f,.int .i64 dh]/\
 ∃J:Bool->Array Obj->Prop,(
 word_Tag.C f dr (λdp dj=> ∃cj:Int,dp=.int .i64 cj/\
 if cj=1 then(
 ∃cx:Option Addr,hat dj rA=some (.pointer cx)/\
 obj_Heap_Pair.C cx f dj (λdu dt=> ∃c0:Bool,du=.bool c0/\
 J (!c0) dt))
 else
 J true dj))/\ ∀(ck:Bool) (H11:Array Obj),J ck H11->
 if ck=true then(
 build_reader_datum.C (some rA) f (IntKind.wrap .i64 (d+1)) H11 (λdx dn=> ∃(aa a6:Int) (y:Bool) (o:Option Addr) (p q:Nat) (a8:ByteArray) (ay:Option Addr) (av aw:Nat) (j:Int),dx=.tuple #[.agg (DR aa a6 y o p q a8 ay av aw).toArray,.int .i64 j]/\
 ∀(m:Nat) (H13:Array Obj),m=dn.size->H13=dn.push (.cells (DR 0 0 false none 0 0 (ByteArray.mk #[]) none 0 0).toArray 51)->
 (CanPuts H13 (ad m) 0 6)/\ ∀di,di=hputs H13 (ad m) (DR aa a6 y o p q a8 ay av aw) 0->
 ∃(dg:Int->Array Obj->Prop) (m46:Int->Array Obj->Nat),dg (IntKind.wrap .i64 (((carsN+1):Int)-1)) di/\ ∀(i:Int) (H15:Array Obj),dg i H15->
 if i>=0 then(
 ∃ac:Addr,ap=some ac/\
 ((0:Int)<=i/\i< ((carsN+1):Int))/\
 ∃aq bz au ae af ag bx ba bb a9,RowAt H15 (ac.add (Int.toNat i*6)) 0 (DR aq bz au ae af ag bx ba bb a9)/\
 ∃a0 cc a1 an ao am cd bh bt bn,RowAt H15 (ad m) 0 (DR a0 cc a1 an ao am cd bh bt bn)/\
 ∀(b0:Nat) (H16:Array Obj),b0=H15.size->H16=H15.push (.cells #[.int .i64 aq,.int .i32 bz,.bool au,.slice ae af ag,.string bx,.slice ba bb a9,.int .i64 a0,.int .i32 cc,.bool a1,.slice an ao am,.string cd,.slice bh bt bn] 51)->
 (CanPuts H16 (ad m) 0 6)/\ ∀de,de=hputs H16 (ad m) (DR 7 0 false none 0 0 (ByteArray.mk #[]) (some (ad b0)) 2 2) 0->
 (dg (IntKind.wrap .i64 (i-1)) de/\m46 (IntKind.wrap .i64 (i-1)) de<m46 i H15))
 else
 ∃ak bq ai u ab z bp a4 a5 a7,RowAt H15 (ad m) 0 (DR ak bq ai u ab z bp a4 a5 a7)/\
 (CanPuts H15 (ad b) 0 6)/\ ∀dc,dc=hputs H15 (ad b) (DR ak bq ai u ab z bp a4 a5 a7) 0->
 ∃b6 c5 b9 bo bi bf da co cn cu,RowAt dc (ad b) 0 (DR b6 c5 b9 bo bi bf da co cn cu)/\
 R (.tuple #[.agg (DR b6 c5 b9 bo bi bf da co cn cu).toArray,.int .i64 j]) dc))
 else
 build_reader_one.C (some rA) H11 (λdv cy=> ∃a2:Int,dv=.int .i64 a2/\
 if a2=0 then(
 (db f ap (carsN+1) e cy/\m17 f ap (carsN+1) e cy<m17 g carsB carsN carsC H3))
 else
 (CanPuts cy (ad b) 0 6)/\ ∀df,df=hputs cy (ad b) (DR 0 0 false none 0 0 (ByteArray.mk #[]) none 0 0) 0->
 ∃b5 c7 b1 bw bm bs c6 cs cv ct,RowAt df (ad b) 0 (DR b5 c7 b1 bw bm bs c6 cs cv ct)/\
 R (.tuple #[.agg (DR b5 c7 b1 bw bm bs c6 cs cv ct).toArray,.int .i64 a2]) df))))
 else
 (CanPuts H7 (ad b) 0 6)/\ ∀dd,dd=hputs H7 (ad b) (DR 0 0 false none 0 0 (ByteArray.mk #[]) none 0 0) 0->
 ∃b8 c9 b2 bk bg bu c8 cr cq cp,RowAt dd (ad b) 0 (DR b8 c9 b2 bk bg bu c8 cr cq cp)/\
 R (.tuple #[.agg (DR b8 c9 b2 bk bg bu c8 cr cq cp).toArray,.int .i64 s]) dd))
namespace build_reader_pairs
theorem link{r:Option Addr}{wv d:Int}{H:Array Obj}{R:Value->Array Obj->Prop}(h:pt r wv d H R):C r wv d H R:=by
 refine T_en K0 96 Tryz.func47 ?_
 intro w0 Q hQ
 unfold pt at h
 refine T_su [(0,vp r),(1,vu wv),(2,vi d)]<| T_srz 0<| T_nw (some 6) (λb=>vp (pa b)) (.cells (DR 0 0 false none 0 0 (ByteArray.mk #[]) none 0 0).toArray 51) ?_
 intro b H1 e1 e2
 replace h:=h b H1 e1 e2
 refine T_pd [] [(6,vp (pa b))]<| T_ed 1 [] []<| T_sz<| T_srz 1<| T_ed 2 [] [(18,.bool (d==64))] ?_
 by_cases c3:d=64
 ·rw[if_pos c3]at h
  refine T_cTz 18 (beq_iff_eq.mpr c3)<| T_srz 2<| T_n 1 [(6,vp (pa b)),(19,.agg (DR 0 0 false none 0 0 (ByteArray.mk #[]) none 0 0).toArray)] ?_
  obtain⟨q6,h⟩:=h
  refine T_sta 51 (DR 0 0 false none 0 0 (ByteArray.mk #[]) none 0 0) q6 ?_
  intro H2 e5
  replace h:=h H2 e5
  refine T_pd [19] []<| T_ed 1 [] [(7,vi 10)] ?_
  refine S_ret (by kernel_rfl) ?_
  show At _ _ _ _ _ (Q .ret)
  obtain⟨cl,rC,cm,ce,ch,cf,rT,dm,dk,dl,q7,h⟩:=h
  exact S_done (fn:=Tryz.f47) [.agg (DR cl rC cm ce ch cf rT dm dk dl).toArray,vi 10] hQ (show ResOK _ _ _ [.cell 6 51,.tmp 7] _ from .cell (by kernel_rfl) (loadOK_row (λ_=>by kernel_rfl) (λ_=>by kernel_rfl) q7) (.tmp (by kernel_rfl) (.nil))) h
 rw[if_neg c3]at h
 refine T_cFz 18 (beq_eq_false_iff_ne.mpr c3)<| T_kt<| T_srz 3<| T_ed 1 [18] [(8,vs none 0 0)]<| T_sz<| T_bz 0 ?_
 obtain⟨db,m17,i8,i9⟩:=h
 refine S_loop (x:=K16) (σ:=Int×(Option Addr)×Nat×Nat) (λs_=> [(0,vp r),(1,vu s_.1),(2,vi d),(6,vp (pa b)),(8,vs s_.2.1 s_.2.2.1 s_.2.2.2)]) (λs_ H=>db s_.1 s_.2.1 s_.2.2.1 s_.2.2.2 H) (λs_ H=>m17 s_.1 s_.2.1 s_.2.2.1 s_.2.2.2 H) ((wv,none,0,0):Int×(Option Addr)×Nat×Nat) (by kernel_rfl) i8 sk ?_
 rintro⟨g,carsB,carsN,carsC⟩ H3 i10
 have h:=i9 g carsB carsN carsC H3 i10
 refine T_su [(0,vp r),(1,vu g),(2,vi d),(6,vp (pa b)),(8,vs carsB carsN carsC)]<| T_bz 1<| T_srz 4<| T_nd 1 [] [(21,vp r)] ?_
 obtain⟨rA,rfl,h⟩:=h
 refine T_nd 2 [0,21] [(0,vp (some rA)),(23,vp (some rA))] ?_
 obtain⟨x,q11,h⟩:=h
 refine T_l1 24 24 q11 [23]<| T_nd 1 [] [(25,vu g)] ?_
 refine T_c (some 26) h ?_;clear h
 rintro v H4 ⟨ra,rb,rfl,h⟩
 refine T_pd [24,25] [(26,.tuple #[vu ra,vi rb])]<| T_ed 5 [26] [(9,vu ra)]<| T_srz 5<| T_nd 4 [9] [(30,vp (some rA)),(31,vu ra),(33,vi (IntKind.wrap .i64 (d+1)))] ?_
 refine T_c (some 34) h ?_;clear h
 rintro dq H5 ⟨az,ci,ax,ah,al,aj,cg,bl,br,bj,s,rfl,h⟩
 refine T_pd [30,31,33] [(34,.tuple #[.agg (DR az ci ax ah al aj cg bl br bj).toArray,vi s])]<| T_nd 3 [34] [(35,.agg (DR az ci ax ah al aj cg bl br bj).toArray),(36,vi s)]<| T_nw (some 11) (λb=>vp (pa b)) (.cells (DR 0 0 false none 0 0 (ByteArray.mk #[]) none 0 0).toArray 51) ?_
 intro a3 H6 e12 e13
 replace h:=h a3 H6 e12 e13
 refine T_pd [] [(11,vp (pa a3))] ?_
 obtain⟨q15,h⟩:=h
 refine T_sta 51 (DR az ci ax ah al aj cg bl br bj) q15 ?_
 intro H7 e14
 replace h:=h H7 e14
 refine T_pd [35] []<| T_ed 1 [36] [(12,vi s)]<| T_sz<| T_srz 6<| T_ed 2 [] [(38,.bool (s !=0))] ?_
 by_cases c16:s=0
 ·rw[if_pos c16]at h
  refine T_cFz 38 (bne_eq_false_iff_eq.mpr c16)<| T_kt<| T_srz 8<| T_nd 1 [8,12,38] [(41,vs carsB carsN carsC)] ?_
  obtain⟨b3,xC,b7,be,bc,bd,xT,c4,c2,c1,q18,h⟩:=h
  refine T_lr 42 51 q18 [11]<| T_nw (some 43) (λb=>vs (pa b) 1 1) (.cells (DR b3 xC b7 be bc bd xT c4 c2 c1).toArray 51) ?_
  intro cz H8 e19 e20
  replace h:=h cz H8 e19 e20
  refine T_pd [42] [(43,vs (pa cz) 1 1)] ?_
  refine N_op (some 44) (appendN #[49,49] 49 #[vs carsB carsN carsC,vs (pa cz) 1 1]) _ (λ_=>by kernel_rfl) (ss_append (T:=51) (sz:=6) (bytes:=88) (zero:=(.agg (DR 0 0 false none 0 0 (ByteArray.mk #[]) none 0 0).toArray:Value)) Tryz.underlying49 Tryz.underlying49 rfl (show Tryz.prog.info? 51=some Tryz.t51 from by kernel_rfl) (by kernel_rfl) (by kernel_rfl) (by decide) (by kernel_rfl) (by first | exact h | (simpa only[Value.cells,List.toList_toArray]using h))) ?_;clear h
  rintro _ H9 ⟨ap,e,rfl,h⟩
  refine T_pd [41,43] [(44,vs ap (carsN+1) e)]<| T_ed 1 [44] [(8,vs ap (carsN+1) e)]<| T_srz 9<| T_nd 3 [] [(48,vp (some rA))] ?_
  obtain⟨cw,q21,h⟩:=h
  refine T_l1 49 24 q21 [48]<| T_nd 1 [1] [(50,vu g)] ?_
  refine T_c (some 51) h ?_;clear h
  rintro dw dr ⟨f,dh,rfl,h⟩
  refine T_pd [49,50] [(51,.tuple #[vu f,vi dh])]<| T_ne 4 [(0,vp (some rA)),(1,vu f),(2,vi d),(6,vp (pa b)),(8,vs ap (carsN+1) e)]<| T_sz<| T_sz ?_
  obtain⟨J,h,j23⟩:=h
  refine S_join (σ:=Bool) (λs_=> [(0,vp (some rA)),(1,vu f),(2,vi d),(6,vp (pa b)),(8,vs ap (carsN+1) e),(65,.bool s_)]) (λs_ H=>J s_ H) ?_ ?_
  ·rintro ck H11 j24
   replace h:=j23 ck H11 j24
   refine T_su [(0,vp (some rA)),(1,vu f),(2,vi d),(6,vp (pa b)),(8,vs ap (carsN+1) e),(65,.bool ck)] ?_
   refine S_then ?_
   by_cases c25:ck=true
   ·rw[if_pos c25]at h
    have b26:ck=true:=c25
    refine S_env [(0,vp (some rA)),(1,vu f),(2,vi d),(6,vp (pa b)),(8,vs ap (carsN+1) e),(65,.bool true)] (by rw[b26]) ?_
    clear b26
    refine T_tz 65 ?_
    refine S_exit 0 (by kernel_rfl) ?_
    refine S_exitThen ?_
    refine S_exitPast (by kernel_rfl) ?_
    refine S_exitThen ?_
    refine S_exitHere ?_
    refine S_then ?_
    refine T_srz 14<| T_nd 4 [0,1,2,65] [(73,vp (some rA)),(74,vu f),(76,vi (IntKind.wrap .i64 (d+1)))] ?_
    refine T_c (some 77) h ?_;clear h
    rintro dx dn ⟨aa,a6,y,o,p,q,a8,ay,av,aw,j,rfl,h⟩
    refine T_pd [73,74,76] [(77,.tuple #[.agg (DR aa a6 y o p q a8 ay av aw).toArray,vi j])]<| T_nd 3 [77] [(78,.agg (DR aa a6 y o p q a8 ay av aw).toArray),(79,vi j)]<| T_nw (some 14) (λb=>vp (pa b)) (.cells (DR 0 0 false none 0 0 (ByteArray.mk #[]) none 0 0).toArray 51) ?_
    intro m H13 e27 e28
    replace h:=h m H13 e27 e28
    refine T_pd [] [(14,vp (pa m))] ?_
    obtain⟨q30,h⟩:=h
    refine T_sta 51 (DR aa a6 y o p q a8 ay av aw) q30 ?_
    intro di e29
    replace h:=h di e29
    refine T_pd [78] []<| T_ed 1 [79] [(15,vi j)]<| T_sz<| T_srz 15<| T_ed 4 [] [(16,vi (IntKind.wrap .i64 (((carsN+1):Int)-1)))]<| T_bz 2 ?_
    obtain⟨dg,m46,i31,i32⟩:=h
    refine S_loop (x:=K45) (σ:=Int) (λs_=> [(6,vp (pa b)),(8,vs ap (carsN+1) e),(14,vp (pa m)),(15,vi j),(16,vi s_)]) (λs_ H=>dg s_ H) (λs_ H=>m46 s_ H) ((IntKind.wrap .i64 (((carsN+1):Int)-1)):Int) (by kernel_rfl) i31 sk ?_
    rintro i H15 i33
    have h:=i32 i H15 i33
    refine T_su [(6,vp (pa b)),(8,vs ap (carsN+1) e),(14,vp (pa m)),(15,vi j),(16,vi i)]<| T_sz<| T_srz 16<| T_ed 2 [] [(84,.bool (decide (i>=0)))] ?_
    by_cases c34:i>=0
    ·rw[if_pos c34]at h
     refine T_cTz 84 (decide_eq_true c34)<| T_kt<| T_sz<| T_bz 3 ?_
     obtain⟨ac,rfl,h⟩:=h
     obtain⟨q36,h⟩:=h
     obtain⟨aq,bz,au,ae,af,ag,bx,ba,bb,a9,q37,h⟩:=h
     obtain⟨a0,cc,a1,an,ao,am,cd,bh,bt,bn,q38,h⟩:=h
     refine S_regionG 18 (Code.ops K54) [(5,(ac.add (Int.toNat i*6)),(DR aq bz au ae af ag bx ba bb a9)),(5,(ad m),(DR a0 cc a1 an ao am cd bh bt bn))] 8 (bv 8 0) (by kernel_rfl) (by kernel_rfl) (by kernel_rfl) (by kernel_rfl) (by kernel_rfl) (show FactsAt _ _ _ from⟨q37,q38,trivial⟩) ?_
     refine T_gp 0 (some 87) (vs (some ac) (carsN+1) e) (bv 8 1) [(6,vp (pa b)),(8,vs (some ac) (carsN+1) e),(14,vp (pa m)),(15,vi j),(16,vi i),(87,vs (some ac) (carsN+1) e)]<| T_gp1 1 88 (vi i) (bv 8 3) []<| T_g1 2 89 (vp (some (ac.add (Int.toNat i*6)))) (bv 8 7) [87,88] (indexAtN 49 (vs (some ac) (carsN+1) e) (vi i)) (λ_ w _ _ _=>indexAt_run (P:=Tryz.prog) (t:=49) (elem:=51) (sz:=6) (a:=ac) (len:=(carsN+1)) (cap:=e) (k:=.i64) (i:=i) Tryz.underlying49 (λ_=>by kernel_rfl) q36.1 q36.2 w)<| T_g1 3 90 (.agg (DR aq bz au ae af ag bx ba bb a9).toArray) (bv 8 15) [89] (loadN 51 (vp (some (ac.add (Int.toNat i*6))))) (held_row 5 (λ_=>by kernel_rfl) (λ_=>by kernel_rfl) (List.Mem.head _) (.inl (by kernel_rfl)))<| T_g1 4 91 (.agg (DR a0 cc a1 an ao am cd bh bt bn).toArray) (bv 8 31) [] (loadN 51 (vp (pa m))) (held_row 5 (λ_=>by kernel_rfl) (λ_=>by kernel_rfl) (List.Mem.tail _ (List.Mem.head _)) (.inl (by kernel_rfl))) ?_
     refine G_new 5 (some 92) (bv 8 63) (λb=>vs (pa b) 2 2) (.cells #[vi aq,.int .i32 bz,.bool au,vs ae af ag,.string bx,vs ba bb a9,vi a0,.int .i32 cc,.bool a1,vs an ao am,.string cd,vs bh bt bn] 51) (by kernel_rfl) (λ_=>by kernel_rfl) (by kernel_rfl) ?_
     intro b0 H16 e39 e40
     replace h:=h b0 H16 e39 e40
     refine⟨[(6,vp (pa b)),(8,vs (some ac) (carsN+1) e),(14,vp (pa m)),(15,vi j),(16,vi i),(92,vs (pa b0) 2 2)],pk,(show FactsAt _ _ _ from⟨trivial,trivial,trivial⟩),?_⟩
     refine T_g 6 (some 93) (.agg (DR 7 0 false none 0 0 (ByteArray.mk #[]) (pa b0) 2 2).toArray) (bv 8 127) [(6,vp (pa b)),(8,vs (some ac) (carsN+1) e),(14,vp (pa m)),(15,vi j),(16,vi i),(93,.agg (DR 7 0 false none 0 0 (ByteArray.mk #[]) (pa b0) 2 2).toArray)] (pure (.value (.agg (DR 7 0 false none 0 0 (ByteArray.mk #[]) (pa b0) 2 2).toArray)):Sem Next) (λ_ _ _ _ _=>rfl) ?_
     obtain⟨q42,h⟩:=h
     refine G_onlyskip 7 none (bv 8 255) (storeN 51 (vp (pa m)) (.agg (DR 7 0 false none 0 0 (ByteArray.mk #[]) (pa b0) 2 2).toArray)) (λHz=>Hz=hputs H16 (ad m) (DR 7 0 false none 0 0 (ByteArray.mk #[]) (pa b0) 2 2) 0) (by kernel_rfl) (λ_=>by kernel_rfl) (ss_store (DR 7 0 false none 0 0 (ByteArray.mk #[]) (pa b0) 2 2) 6 (by kernel_rfl) (by kernel_rfl) (λ_=>by kernel_rfl) (by kernel_rfl) q42) (by kernel_rfl) ?_
     intro de e41
     replace h:=h de e41
     refine⟨[(6,vp (pa b)),(8,vs (some ac) (carsN+1) e),(14,vp (pa m)),(15,vi j),(16,vi i)],pk,(show FactsAt _ _ _ from⟨trivial,trivial,trivial⟩),?_⟩
     refine G_sub [(6,vp (pa b)),(8,vs (some ac) (carsN+1) e),(14,vp (pa m)),(15,vi j),(16,vi i)] sk ?_
     refine G_end (by kernel_rfl) ?_
     refine S_blockEnd ?_
     refine S_then ?_
     refine T_rz 17<| T_ne 3 [(6,vp (pa b)),(8,vs (some ac) (carsN+1) e),(14,vp (pa m)),(15,vi j),(16,vi (IntKind.wrap .i64 (i-1)))] ?_
     exact S_round ((IntKind.wrap .i64 (i-1)):Int) sk h
    rw[if_neg c34]at h
    refine T_cFz 84 (decide_eq_false c34) ?_
    refine S_exit 2 (by kernel_rfl) ?_
    refine S_exitThen ?_
    refine S_exitThen ?_
    refine S_exitHere ?_
    refine S_then ?_
    refine T_srz 19<| T_ud [8,16,84] [] ?_
    obtain⟨ak,bq,ai,u,ab,z,bp,a4,a5,a7,q43,h⟩:=h
    refine T_lr 94 51 q43 [14]<| T_nd 1 [15] [(95,vi j)] ?_
    obtain⟨q45,h⟩:=h
    refine T_sta 51 (DR ak bq ai u ab z bp a4 a5 a7) q45 ?_
    intro dc e44
    replace h:=h dc e44
    refine T_pd [94] []<| T_ed 1 [95] [(7,vi j)] ?_
    refine S_ret (by kernel_rfl) ?_
    show At _ _ _ _ _ (Q .ret)
    obtain⟨b6,c5,b9,bo,bi,bf,da,co,cn,cu,q46,h⟩:=h
    exact S_done (fn:=Tryz.f47) [.agg (DR b6 c5 b9 bo bi bf da co cn cu).toArray,vi j] hQ (show ResOK _ _ _ [.cell 6 51,.tmp 7] _ from .cell (by kernel_rfl) (loadOK_row (λ_=>by kernel_rfl) (λ_=>by kernel_rfl) q46) (.tmp (by kernel_rfl) (.nil))) h
   rw[if_neg c25]at h
   have b26:ck=false:=eq_false_of_ne_true c25
   refine S_env [(0,vp (some rA)),(1,vu f),(2,vi d),(6,vp (pa b)),(8,vs ap (carsN+1) e),(65,.bool false)] (by rw[b26]) ?_
   clear b26
   refine T_fz 65<| T_kt<| T_srz 11<| T_nd 1 [65] [(66,vp (some rA))] ?_
   refine T_c (some 67) h ?_;clear h
   rintro dv cy ⟨a2,rfl,h⟩
   refine T_pd [66] [(67,vi a2)]<| T_ed 1 [67] [(13,vi a2)]<| T_srz 12<| T_ed 2 [] [(69,.bool (a2 !=0))] ?_
   by_cases c47:a2=0
   ·rw[if_pos c47]at h
    refine T_cFz 69 (bne_eq_false_iff_eq.mpr c47)<| T_k ?_
    refine S_blockEnd ?_
    refine S_then ?_
    exact S_round ((f,ap,(carsN+1),e):Int×(Option Addr)×Nat×Nat) sk h
   rw[if_neg c47]at h
   refine T_cTz 69 (bne_iff_ne.mpr c47)<| T_srz 13<| T_n 2 [(6,vp (pa b)),(70,.agg (DR 0 0 false none 0 0 (ByteArray.mk #[]) none 0 0).toArray),(71,vi a2)] ?_
   obtain⟨q50,h⟩:=h
   refine T_sta 51 (DR 0 0 false none 0 0 (ByteArray.mk #[]) none 0 0) q50 ?_
   intro df e49
   replace h:=h df e49
   refine T_pd [70] []<| T_ed 1 [71] [(7,vi a2)] ?_
   refine S_ret (by kernel_rfl) ?_
   show At _ _ _ _ _ (Q .ret)
   obtain⟨b5,c7,b1,bw,bm,bs,c6,cs,cv,ct,q51,h⟩:=h
   exact S_done (fn:=Tryz.f47) [.agg (DR b5 c7 b1 bw bm bs c6 cs cv ct).toArray,vi a2] hQ (show ResOK _ _ _ [.cell 6 51,.tmp 7] _ from .cell (by kernel_rfl) (loadOK_row (λ_=>by kernel_rfl) (λ_=>by kernel_rfl) q51) (.tmp (by kernel_rfl) (.nil))) h
  refine T_rz 10<| T_n 1 [(0,vp (some rA)),(1,vu f),(2,vi d),(6,vp (pa b)),(8,vs ap (carsN+1) e),(54,vu f)] ?_
  refine T_c (some 55) h ?_;clear h
  rintro dp dj ⟨cj,rfl,h⟩
  refine T_pd [54] [(55,vi cj)]<| T_nd 2 [55] [(57,.bool (cj !=1))] ?_
  by_cases c52:cj=1
  ·rw[if_pos c52]at h
   refine N_bd 57 (bne_eq_false_iff_eq.mpr c52)<| T_nd 3 [] [(60,vp (some rA))] ?_
   obtain⟨cx,q54,h⟩:=h
   refine T_l1 61 24 q54 [60]<| T_nd 1 [] [(62,vu f)] ?_
   refine T_c (some 63) h ?_;clear h
   rintro du dt ⟨c0,rfl,h⟩
   refine T_pd [61,62] [(63,.bool c0)]<| T_ed 2 [57,63] [(65,.bool (!c0))] ?_
   exact S_meet ((!c0):Bool) sk h
  rw[if_neg c52]at h
  refine N_bd 57 (bne_iff_ne.mpr c52)<| T_ed 8 [57] [(65,.bool true)] ?_
  exact S_meet (true:Bool) sk h
 rw[if_neg c16]at h
 refine T_cTz 38 (bne_iff_ne.mpr c16)<| T_srz 7<| T_n 2 [(6,vp (pa b)),(39,.agg (DR 0 0 false none 0 0 (ByteArray.mk #[]) none 0 0).toArray),(40,vi s)] ?_
 obtain⟨q56,h⟩:=h
 refine T_sta 51 (DR 0 0 false none 0 0 (ByteArray.mk #[]) none 0 0) q56 ?_
 intro dd e55
 replace h:=h dd e55
 refine T_pd [39] []<| T_ed 1 [40] [(7,vi s)] ?_
 refine S_ret (by kernel_rfl) ?_
 show At _ _ _ _ _ (Q .ret)
 obtain⟨b8,c9,b2,bk,bg,bu,c8,cr,cq,cp,q57,h⟩:=h
 exact S_done (fn:=Tryz.f47) [.agg (DR b8 c9 b2 bk bg bu c8 cr cq cp).toArray,vi s] hQ (show ResOK _ _ _ [.cell 6 51,.tmp 7] _ from .cell (by kernel_rfl) (loadOK_row (λ_=>by kernel_rfl) (λ_=>by kernel_rfl) q57) (.tmp (by kernel_rfl) (.nil))) h
end build_reader_pairs

end Go.Proofs.YtibpklpgmgakcaaGreatDoor
