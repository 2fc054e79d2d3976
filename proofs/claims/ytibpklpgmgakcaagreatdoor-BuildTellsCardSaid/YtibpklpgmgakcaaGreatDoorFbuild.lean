/- Printed: what each function asks, and that it is sound. -/
import Derived.Test.YtibpklpgmgakcaaGreatDoorFnsC
set_option linter.unusedSimpArgs false
set_option linter.unusedVariables false
set_option maxRecDepth 100000
set_option maxHeartbeats 1000000
noncomputable section
namespace Go.Proofs.YtibpklpgmgakcaaGreatDoor
open Go
/-! moraine/build.Datum -/
namespace build_Datum
def K0:=Func.code Tryz.f8
end build_Datum
def build_Datum.pt(hv:Option Addr)(wv:Int)(H:Array Obj)(R:Value->Array Obj->Prop):Prop:=
 ∀(b:Nat) (H1:Array Obj),b=H.size->H1=H.push (.cells (DR 0 0 false none 0 0 (ByteArray.mk #[]) none 0 0).toArray 51)->
 onPtr hv (
 (CanPuts H1 (ad b) 0 6)/\ ∀H2,H2=hputs H1 (ad b) (DR 0 0 false none 0 0 (ByteArray.mk #[]) none 0 0) 0->
 ∃au rC ay ai aj ag rT a5 a6 a7,RowAt H2 (ad b) 0 (DR au rC ay ai aj ag rT a5 a6 a7)/\
 R (.tuple #[.agg (DR au rC ay ai aj ag rT a5 a6 a7).toArray,.int .i64 3]) H2) (λa4=>
 ∀(al:Nat) (H3:Array Obj),al=H1.size->H3=H1.push (.cells #[.pointer (some a4),.int .i64 0] 84)->
 build_reader_datum.C (some (ad al)) wv 0 H3 (λv H4=> ∃(f ah:Int) (g:Bool) (d:Option Addr) (e a:Nat) (ak:ByteArray) (z:Option Addr) (t q:Nat) (rb:Int),v=.tuple #[.agg (DR f ah g d e a ak z t q).toArray,.int .i64 rb]/\
 ∀(m:Nat) (H5:Array Obj),m=H4.size->H5=H4.push (.cells (DR 0 0 false none 0 0 (ByteArray.mk #[]) none 0 0).toArray 51)->
 (CanPuts H5 (ad m) 0 6)/\ ∀H6,H6=hputs H5 (ad m) (DR f ah g d e a ak z t q) 0->
 if rb=0 then(
 ∃o xC p k i j xT an am ao,RowAt H6 (ad m) 0 (DR o xC p k i j xT an am ao)/\
 (CanPuts H6 (ad b) 0 6)/\ ∀H7,H7=hputs H6 (ad b) (DR o xC p k i j xT an am ao) 0->
 ∃ae a0 af s y r a3 az ap aw,RowAt H7 (ad b) 0 (DR ae a0 af s y r a3 az ap aw)/\
 R (.tuple #[.agg (DR ae a0 af s y r a3 az ap aw).toArray,.int .i64 0]) H7)
 else
 (CanPuts H6 (ad b) 0 6)/\ ∀H8,H8=hputs H6 (ad b) (DR 0 0 false none 0 0 (ByteArray.mk #[]) none 0 0) 0->
 ∃ab a2 ac u aa x a1 aq ax av,RowAt H8 (ad b) 0 (DR ab a2 ac u aa x a1 aq ax av)/\
 R (.tuple #[.agg (DR ab a2 ac u aa x a1 aq ax av).toArray,.int .i64 rb]) H8))
namespace build_Datum
theorem link{hv:Option Addr}{wv:Int}{H:Array Obj}{R:Value->Array Obj->Prop}(h:pt hv wv H R):C hv wv H R:=by
 refine T_en K0 26 Tryz.func8 ?_
 intro w0 Q hQ
 unfold pt at h
 refine T_su [(0,vp hv),(1,vu wv)]<| T_srz 0<| T_nw (some 4) (λb=>vp (pa b)) (.cells (DR 0 0 false none 0 0 (ByteArray.mk #[]) none 0 0).toArray 51) ?_
 intro b H1 e1 e2
 replace h:=h b H1 e1 e2
 refine T_pd [] [(4,vp (pa b))]<| T_ed 1 [] []<| T_sz<| T_srz 1<| T_nd 1 [] [(9,vp hv)] ?_
 rcases hv with _ | a4
 ·rw[onPtr_none]at h
  refine T_ed 1 [0,9] [(0,vp none),(10,.bool true)]<| T_tz 10<| T_srz 2<| T_nd 1 [0,1,10] [(11,.agg (DR 0 0 false none 0 0 (ByteArray.mk #[]) none 0 0).toArray)] ?_
  obtain⟨q4,h⟩:=h
  refine T_sta 51 (DR 0 0 false none 0 0 (ByteArray.mk #[]) none 0 0) q4 ?_
  intro H2 e3
  replace h:=h H2 e3
  refine T_pd [11] []<| T_ed 1 [] [(5,vi 3)] ?_
  refine S_ret (by kernel_rfl) ?_
  show At _ _ _ _ _ (Q .ret)
  obtain⟨au,rC,ay,ai,aj,ag,rT,a5,a6,a7,q5,h⟩:=h
  exact S_done (fn:=Tryz.f8) [.agg (DR au rC ay ai aj ag rT a5 a6 a7).toArray,vi 3] hQ (show ResOK _ _ _ [.cell 4 51,.tmp 5] _ from .cell (by kernel_rfl) (loadOK_row (λ_=>by kernel_rfl) (λ_=>by kernel_rfl) q5) (.tmp (by kernel_rfl) (.nil))) h
 rw[onPtr_some]at h
 refine T_ed 1 [0,9] [(0,vp (some a4)),(10,.bool false)]<| T_fz 10<| T_kt<| T_srz 3<| T_nd 2 [0,10] [(13,.agg #[vp (some a4),vi 0])]<| T_nw (some 14) (λb=>vp (pa b)) (.cells #[vp (some a4),vi 0] 84) ?_
 intro al H3 e6 e7
 replace h:=h al H3 e6 e7
 refine T_pd [13] [(14,vp (pa al))]<| T_ed 1 [14] [(6,vp (pa al))]<| T_srz 4<| T_nd 2 [1,6] [(16,vp (pa al)),(17,vu wv)] ?_
 refine T_c (some 18) h ?_;clear h
 rintro v H4 ⟨f,ah,g,d,e,a,ak,z,t,q,rb,rfl,h⟩
 refine T_pd [16,17] [(18,.tuple #[.agg (DR f ah g d e a ak z t q).toArray,vi rb])]<| T_nd 3 [18] [(19,.agg (DR f ah g d e a ak z t q).toArray),(20,vi rb)]<| T_nw (some 7) (λb=>vp (pa b)) (.cells (DR 0 0 false none 0 0 (ByteArray.mk #[]) none 0 0).toArray 51) ?_
 intro m H5 e8 e9
 replace h:=h m H5 e8 e9
 refine T_pd [] [(7,vp (pa m))] ?_
 obtain⟨q11,h⟩:=h
 refine T_sta 51 (DR f ah g d e a ak z t q) q11 ?_
 intro H6 e10
 replace h:=h H6 e10
 refine T_pd [19] []<| T_ed 1 [20] [(8,vi rb)]<| T_sz<| T_srz 5<| T_ed 2 [] [(22,.bool (rb !=0))] ?_
 by_cases c12:rb=0
 ·rw[if_pos c12]at h
  refine T_cFz 22 (bne_eq_false_iff_eq.mpr c12)<| T_kt<| T_srz 7<| T_ud [8,22] [] ?_
  obtain⟨o,xC,p,k,i,j,xT,an,am,ao,q14,h⟩:=h
  refine T_lr 25 51 q14 [7] ?_
  obtain⟨q16,h⟩:=h
  refine T_sta 51 (DR o xC p k i j xT an am ao) q16 ?_
  intro H7 e15
  replace h:=h H7 e15
  refine T_pd [25] []<| T_ed 1 [] [(5,vi 0)] ?_
  refine S_ret (by kernel_rfl) ?_
  show At _ _ _ _ _ (Q .ret)
  obtain⟨ae,a0,af,s,y,r,a3,az,ap,aw,q17,h⟩:=h
  exact S_done (fn:=Tryz.f8) [.agg (DR ae a0 af s y r a3 az ap aw).toArray,vi 0] hQ (show ResOK _ _ _ [.cell 4 51,.tmp 5] _ from .cell (by kernel_rfl) (loadOK_row (λ_=>by kernel_rfl) (λ_=>by kernel_rfl) q17) (.tmp (by kernel_rfl) (.nil))) h
 rw[if_neg c12]at h
 refine T_cTz 22 (bne_iff_ne.mpr c12)<| T_srz 6<| T_nd 2 [7,8,22] [(23,.agg (DR 0 0 false none 0 0 (ByteArray.mk #[]) none 0 0).toArray),(24,vi rb)] ?_
 obtain⟨q19,h⟩:=h
 refine T_sta 51 (DR 0 0 false none 0 0 (ByteArray.mk #[]) none 0 0) q19 ?_
 intro H8 e18
 replace h:=h H8 e18
 refine T_pd [23] []<| T_ed 1 [24] [(5,vi rb)] ?_
 refine S_ret (by kernel_rfl) ?_
 show At _ _ _ _ _ (Q .ret)
 obtain⟨ab,a2,ac,u,aa,x,a1,aq,ax,av,q20,h⟩:=h
 exact S_done (fn:=Tryz.f8) [.agg (DR ab a2 ac u aa x a1 aq ax av).toArray,vi rb] hQ (show ResOK _ _ _ [.cell 4 51,.tmp 5] _ from .cell (by kernel_rfl) (loadOK_row (λ_=>by kernel_rfl) (λ_=>by kernel_rfl) q20) (.tmp (by kernel_rfl) (.nil))) h
end build_Datum

/-! moraine/build.Heap -/
namespace build_Heap
def K0:=Func.code Tryz.f13
end build_Heap
def build_Heap.pt(hv:Option Addr)(s dC:Int)(t:Bool)(k:Option Addr)(o m:Nat)(dT:ByteArray)(aj:Option Addr)(ai ah:Nat)(H:Array Obj)(R:Value->Array Obj->Prop):Prop:=
 ∀(b:Nat) (H1:Array Obj),b=H.size->H1=H.push (.cells #[.pointer hv] 24)->
 ∀(a:Nat) (H2:Array Obj),a=H1.size->H2=H1.push (.cells (DR s dC t k o m dT aj ai ah).toArray 51)->
 ∃x:Option Addr,hat H2 (ad b)=some (.pointer x)/\
 onPtr x (
 R (.tuple #[.int .u64 0,.int .i64 1]) H2) (λxA=>
 ∃z xC ab r p q xT al ak am,RowAt H2 (ad a) 0 (DR z xC ab r p q xT al ak am)/\
 datum_May.C z xC ab r p q xT al ak am H2 (λv H3=> ∃ac:Bool,v=.bool ac/\
 if ac=true then(
 ∀(g:Nat) (H4:Array Obj),g=H3.size->H4=H3.push (.cells #[.nilFunc] 88)->
 (CanPuts H4 (ad g) 0 1)/\ ∀H5,H5=hputs H4 (ad g) [.func (.func 28) #[] #[.pointer (some (ad b)),.pointer (some (ad g))]] 0->
 ∃ag:Value,hat H5 (ad g)=some (ag)/\
 ∃i af j e f d ae aa y u,RowAt H5 (ad a) 0 (DR i af j e f d ae aa y u)/\
 FC Tryz.prog ag #[.agg (DR i af j e f d ae aa y u).toArray] H5 (λan H6=> ∃xa xb:Int,an=.tuple #[.int .u64 xa,.int .i64 xb]/\
 R (.tuple #[.int .u64 xa,.int .i64 xb]) H6))
 else
 R (.tuple #[.int .u64 0,.int .i64 1]) H3))
namespace build_Heap
theorem link{hv:Option Addr}{s dC:Int}{t:Bool}{k:Option Addr}{o m:Nat}{dT:ByteArray}{aj:Option Addr}{ai ah:Nat}{H:Array Obj}{R:Value->Array Obj->Prop}(h:pt hv s dC t k o m dT aj ai ah H R):C hv s dC t k o m dT aj ai ah H R:=by
 refine T_en K0 20 Tryz.func13 ?_
 intro w0 Q hQ
 unfold pt at h
 refine T_su [(0,vp hv),(1,.agg (DR s dC t k o m dT aj ai ah).toArray)]<| T_srz 0<| T_nw (some 2) (λb=>vp (pa b)) (.cells #[vp hv] 24) ?_
 intro b H1 e1 e2
 replace h:=h b H1 e1 e2
 refine T_pd [0] [(2,vp (pa b))]<| T_nw (some 3) (λb=>vp (pa b)) (.cells (DR s dC t k o m dT aj ai ah).toArray 51) ?_
 intro a H2 e3 e4
 replace h:=h a H2 e3 e4
 refine T_pd [1] [(3,vp (pa a))]<| T_ed 2 [] []<| T_sz<| T_srz 1 ?_
 obtain⟨x,q5,h⟩:=h
 refine T_l1 7 24 q5 [] ?_
 rcases x with _ | xA
 ·rw[onPtr_none]at h
  exact T_ed 6 [7] [(13,.bool true)]<| T_tz 13<| T_srz 2<| T_nr 2 [4,5] [vu 0,vi 1] hQ h
 rw[onPtr_some]at h
 refine T_nd 2 [7] [(9,.bool false)] ?_
 obtain⟨z,xC,ab,r,p,q,xT,al,ak,am,q6,h⟩:=h
 refine T_lr 10 51 q6 [] ?_
 refine T_c (some 11) h ?_;clear h
 rintro v H3 ⟨ac,rfl,h⟩
 refine T_pd [10] [(11,.bool ac)]<| T_ed 2 [9,11] [(13,.bool (!ac))] ?_
 by_cases c7:ac=true
 ·rw[if_pos c7]at h
  refine T_cFz 13 (congrArg Bool.not (c7))<| T_kt<| T_srz 3<| T_ud [13] []<| T_nw (some 6) (λb=>vp (pa b)) (.cells #[.nilFunc] 88) ?_
  intro g H4 e9 e10
  replace h:=h g H4 e9 e10
  refine T_pd [] [(6,vp (pa g))]<| T_e<| T_srz 4<| T_nd 1 [2] [(14,.func (.func 28) #[] #[vp (pa b),vp (pa g)])] ?_
  obtain⟨q12,h⟩:=h
  refine T_st1 88 (.func (.func 28) #[] #[vp (pa b),vp (pa g)]) q12 ?_
  intro H5 e11
  replace h:=h H5 e11
  refine T_pd [14] []<| T_e<| T_srz 5 ?_
  obtain⟨ag,q13,h⟩:=h
  refine T_l1 15 88 q13 [6] ?_
  obtain⟨i,af,j,e,f,d,ae,aa,y,u,q14,h⟩:=h
  refine T_lr 16 51 q14 [3] ?_
  refine N_callv (some 17) ag #[.agg (DR i af j e f d ae aa y u).toArray] (λ_=>by kernel_rfl) h ?_;clear h
  rintro an H6 ⟨xa,xb,rfl,h⟩
  refine⟨[(17,.tuple #[vu xa,vi xb])],pk,?_⟩
  exact T_nr 4 [4,5] [vu xa,vi xb] hQ h
 rw[if_neg c7]at h
 exact T_cTz 13 (congrArg Bool.not (eq_false_of_ne_true c7))<| T_srz 2<| T_nr 2 [4,5] [vu 0,vi 1] hQ h
end build_Heap

/-! (*moraine/build.reader).datum -/
namespace build_reader_datum
def K0:=Func.code Tryz.f22
end build_reader_datum
def build_reader_datum.pt(r:Option Addr)(wv a:Int)(H:Array Obj)(R:Value->Array Obj->Prop):Prop:=
 ∀(b:Nat) (H1:Array Obj),b=H.size->H1=H.push (.cells (DR 0 0 false none 0 0 (ByteArray.mk #[]) none 0 0).toArray 51)->
 build_reader_one.C r H1 (λv H2=> ∃x:Int,v=.int .i64 x/\
 if x=0 then(
 build_constant.C wv H2 (λex H3=> ∃(aa cq:Int) (y:Bool) (s:Option Addr) (u t:Nat) (co:ByteArray) (bf:Option Addr) (br a9:Nat) (rb:Bool),ex=.tuple #[.agg (DR aa cq y s u t co bf br a9).toArray,.bool rb]/\
 ∀(ap:Nat) (H4:Array Obj),ap=H3.size->H4=H3.push (.cells (DR 0 0 false none 0 0 (ByteArray.mk #[]) none 0 0).toArray 51)->
 (CanPuts H4 (ad ap) 0 6)/\ ∀H5,H5=hputs H4 (ad ap) (DR aa cq y s u t co bf br a9) 0->
 if rb=true then(
 ∃a0 xC a2 am aj al xT cu ct cs,RowAt H5 (ad ap) 0 (DR a0 xC a2 am aj al xT cu ct cs)/\
 (CanPuts H5 (ad b) 0 6)/\ ∀H6,H6=hputs H5 (ad b) (DR a0 xC a2 am aj al xT cu ct cs) 0->
 ∃cw rC cz cm cp cn rT es ep er,RowAt H6 (ad b) 0 (DR cw rC cz cm cp cn rT es ep er)/\
 R (.tuple #[.agg (DR cw rC cz cm cp cn rT es ep er).toArray,.int .i64 0]) H6)
 else
 ∃rA:Addr,r=some rA/\
 ∃dr:Option Addr,hat H5 rA=some (.pointer dr)/\
 obj_Heap_Num.C dr wv H5 (λe0 H7=> ∃(aw:Bool) (ab:Option Addr) (z ac:Nat) (an:Int),e0=.tuple #[.agg #[.bool aw,.slice ab z ac],.int .i64 an]/\
 ∀(ao:Nat) (H8:Array Obj),ao=H7.size->H8=H7.push (.cells #[.bool false,.slice none 0 0] 48)->
 (CanPuts H8 (ad ao) 0 2)/\ ∀H9,H9=hputs H8 (ad ao) [.bool aw,.slice ab z ac] 0->
 if an=0 then(
 ∃(bg:Bool) (aq:Option Addr) (au av:Nat),RowAt H9 (ad ao) 0 [.bool bg,.slice aq au av]/\
 (CanPuts H9 (ad b) 0 6)/\ ∀ef,ef=hputs H9 (ad b) (DR 4 0 bg aq au av (ByteArray.mk #[]) none 0 0) 0->
 ∃cc dx ck bl a8 a3 eb c5 c0 dk,RowAt ef (ad b) 0 (DR cc dx ck bl a8 a3 eb c5 c0 dk)/\
 R (.tuple #[.agg (DR cc dx ck bl a8 a3 eb c5 c0 dk).toArray,.int .i64 0]) ef)
 else
 ∃dn:Option Addr,hat H9 rA=some (.pointer dn)/\
 obj_Heap_Type.C dn wv H9 (λe4 dp=> ∃k:Int,e4=.int .i64 k/\
 if k=2 then(
 ∃du:Option Addr,hat dp rA=some (.pointer du)/\
 obj_Heap_Text.C du wv dp (λez eo=> ∃(ra:ByteArray) (bo:Int),ez=.tuple #[.string ra,.int .i64 bo]/\
 (CanPuts eo (ad b) 0 6)/\ ∀ek,ek=hputs eo (ad b) (DR 5 0 false none 0 0 ra none 0 0) 0->
 ∃b7 d1 b2 bx bh bu d0 di dl dj,RowAt ek (ad b) 0 (DR b7 d1 b2 bx bh bu d0 di dl dj)/\
 R (.tuple #[.agg (DR b7 d1 b2 bx bh bu d0 di dl dj).toArray,.int .i64 bo]) ek))
 else
 if k=4 then(
 ∃dq:Option Addr,hat dp rA=some (.pointer dq)/\
 syms_Name.C dq wv dp (λew em=> ∃(bz:ByteArray) (bi:Int),ew=.tuple #[.string bz,.int .i64 bi]/\
 (CanPuts em (ad b) 0 6)/\ ∀ee,ee=hputs em (ad b) (DR 6 0 false none 0 0 bz none 0 0) 0->
 ∃cj d7 b5 ba a7 bw d4 dg de c8,RowAt ee (ad b) 0 (DR cj d7 b5 ba a7 bw d4 dg de c8)/\
 R (.tuple #[.agg (DR cj d7 b5 ba a7 bw d4 dg de c8).toArray,.int .i64 bi]) ee))
 else
 if k=1 then(
 build_reader_vector.C (some rA) wv a dp (λey en=> ∃(q a1:Int) (m:Bool) (e:Option Addr) (f j:Nat) (ax:ByteArray) (ai:Option Addr) (ae af:Nat) (b1:Int),ey=.tuple #[.agg (DR q a1 m e f j ax ai ae af).toArray,.int .i64 b1]/\
 (CanPuts en (ad b) 0 6)/\ ∀el,el=hputs en (ad b) (DR q a1 m e f j ax ai ae af) 0->
 ∃ch d6 b3 bm bq a5 d2 dh dm c2,RowAt el (ad b) 0 (DR ch d6 b3 bm bq a5 d2 dh dm c2)/\
 R (.tuple #[.agg (DR ch d6 b3 bm bq a5 d2 dh dm c2).toArray,.int .i64 b1]) el))
 else
 word_Tag.C wv dp (λe3 dv=> ∃cr:Int,e3=.int .i64 cr/\
 if cr=1 then(
 ∃dt:Option Addr,hat dv rA=some (.pointer dt)/\
 obj_Heap_Pair.C dt wv dv (λev ec=> ∃cl:Bool,ev=.bool cl/\
 if cl=true then(
 build_reader_pairs.C (some rA) wv a ec (λeu et=> ∃(p ay:Int) (o:Bool) (g:Option Addr) (i d:Nat) (az:ByteArray) (ak:Option Addr) (ag ah:Nat) (b0:Int),eu=.tuple #[.agg (DR p ay o g i d az ak ag ah).toArray,.int .i64 b0]/\
 (CanPuts et (ad b) 0 6)/\ ∀ei,ei=hputs et (ad b) (DR p ay o g i d az ak ag ah) 0->
 ∃b6 ea cg bp bt bd d3 da dd df,RowAt ei (ad b) 0 (DR b6 ea cg bp bt bd d3 da dd df)/\
 R (.tuple #[.agg (DR b6 ea cg bp bt bd d3 da dd df).toArray,.int .i64 b0]) ei))
 else
 (CanPuts ec (ad b) 0 6)/\ ∀eg,eg=hputs ec (ad b) (DR 0 0 false none 0 0 (ByteArray.mk #[]) none 0 0) 0->
 ∃ci d9 cd bb be bk dy c1 cx db,RowAt eg (ad b) 0 (DR ci d9 cd bb be bk dy c1 cx db)/\
 R (.tuple #[.agg (DR ci d9 cd bb be bk dy c1 cx db).toArray,.int .i64 3]) eg))
 else
 (CanPuts dv (ad b) 0 6)/\ ∀ej,ej=hputs dv (ad b) (DR 0 0 false none 0 0 (ByteArray.mk #[]) none 0 0) 0->
 ∃ce dz cf a4 bn bj dw c7 c4 dc,RowAt ej (ad b) 0 (DR ce dz cf a4 bn bj dw c7 c4 dc)/\
 R (.tuple #[.agg (DR ce dz cf a4 bn bj dw c7 c4 dc).toArray,.int .i64 3]) ej)))))
 else
 (CanPuts H2 (ad b) 0 6)/\ ∀eh,eh=hputs H2 (ad b) (DR 0 0 false none 0 0 (ByteArray.mk #[]) none 0 0) 0->
 ∃b9 d8 b8 a6 bs bc d5 cv c6 cy,RowAt eh (ad b) 0 (DR b9 d8 b8 a6 bs bc d5 cv c6 cy)/\
 R (.tuple #[.agg (DR b9 d8 b8 a6 bs bc d5 cv c6 cy).toArray,.int .i64 x]) eh)
namespace build_reader_datum
theorem link{r:Option Addr}{wv a:Int}{H:Array Obj}{R:Value->Array Obj->Prop}(h:pt r wv a H R):C r wv a H R:=by
 refine T_en K0 104 Tryz.func22 ?_
 intro w0 Q hQ
 unfold pt at h
 refine T_su [(0,vp r),(1,vu wv),(2,vi a)]<| T_srz 0<| T_nw (some 6) (λb=>vp (pa b)) (.cells (DR 0 0 false none 0 0 (ByteArray.mk #[]) none 0 0).toArray 51) ?_
 intro b H1 e1 e2
 replace h:=h b H1 e1 e2
 refine T_pd [] [(6,vp (pa b))]<| T_ed 1 [] []<| T_sz<| T_srz 1<| T_nd 1 [] [(17,vp r)] ?_
 refine T_c (some 18) h ?_;clear h
 rintro v H2 ⟨x,rfl,h⟩
 refine T_pd [17] [(18,vi x)]<| T_ed 1 [18] [(8,vi x)]<| T_srz 2<| T_ed 2 [] [(20,.bool (x !=0))] ?_
 by_cases c3:x=0
 ·rw[if_pos c3]at h
  refine T_cFz 20 (bne_eq_false_iff_eq.mpr c3)<| T_kt<| T_sz<| T_srz 4<| T_nd 1 [8,20] [(24,vu wv)] ?_
  refine T_c (some 25) h ?_;clear h
  rintro ex H3 ⟨aa,cq,y,s,u,t,co,bf,br,a9,rb,rfl,h⟩
  refine T_pd [24] [(25,.tuple #[.agg (DR aa cq y s u t co bf br a9).toArray,.bool rb])]<| T_nd 3 [25] [(26,.agg (DR aa cq y s u t co bf br a9).toArray),(27,.bool rb)]<| T_nw (some 9) (λb=>vp (pa b)) (.cells (DR 0 0 false none 0 0 (ByteArray.mk #[]) none 0 0).toArray 51) ?_
  intro ap H4 e5 e6
  replace h:=h ap H4 e5 e6
  refine T_pd [] [(9,vp (pa ap))] ?_
  obtain⟨q8,h⟩:=h
  refine T_sta 51 (DR aa cq y s u t co bf br a9) q8 ?_
  intro H5 e7
  replace h:=h H5 e7
  refine T_pd [26] []<| T_ed 1 [27] [(10,.bool rb)]<| T_srz 5<| T_ed 1 [10] [(28,.bool rb)] ?_
  by_cases c9:rb=true
  ·rw[if_pos c9]at h
   refine T_cTz 28 c9<| T_srz 6<| T_ud [0,1,2,28] [] ?_
   obtain⟨a0,xC,a2,am,aj,al,xT,cu,ct,cs,q11,h⟩:=h
   refine T_lr 29 51 q11 [9] ?_
   obtain⟨q13,h⟩:=h
   refine T_sta 51 (DR a0 xC a2 am aj al xT cu ct cs) q13 ?_
   intro H6 e12
   replace h:=h H6 e12
   refine T_pd [29] []<| T_ed 1 [] [(7,vi 0)] ?_
   refine S_ret (by kernel_rfl) ?_
   show At _ _ _ _ _ (Q .ret)
   obtain⟨cw,rC,cz,cm,cp,cn,rT,es,ep,er,q14,h⟩:=h
   exact S_done (fn:=Tryz.f22) [.agg (DR cw rC cz cm cp cn rT es ep er).toArray,vi 0] hQ (show ResOK _ _ _ [.cell 6 51,.tmp 7] _ from .cell (by kernel_rfl) (loadOK_row (λ_=>by kernel_rfl) (λ_=>by kernel_rfl) q14) (.tmp (by kernel_rfl) (.nil))) h
  rw[if_neg c9]at h
  refine T_cFz 28 (eq_false_of_ne_true c9)<| T_kt<| T_sz<| T_srz 7<| T_nd 1 [9,28] [(31,vp r)] ?_
  obtain⟨rA,rfl,h⟩:=h
  refine T_nd 2 [0,31] [(0,vp (some rA)),(33,vp (some rA))] ?_
  obtain⟨dr,q15,h⟩:=h
  refine T_l1 34 24 q15 [33]<| T_nd 1 [] [(35,vu wv)] ?_
  refine T_c (some 36) h ?_;clear h
  rintro e0 H7 ⟨aw,ab,z,ac,an,rfl,h⟩
  refine T_pd [34,35] [(36,.tuple #[.agg #[.bool aw,vs ab z ac],vi an])]<| T_nd 3 [36] [(37,.agg #[.bool aw,vs ab z ac]),(38,vi an)]<| T_nw (some 11) (λb=>vp (pa b)) (.cells #[.bool false,vs none 0 0] 48) ?_
  intro ao H8 e16 e17
  replace h:=h ao H8 e16 e17
  refine T_pd [] [(11,vp (pa ao))] ?_
  obtain⟨q19,h⟩:=h
  refine T_sta 48 [.bool aw,vs ab z ac] q19 ?_
  intro H9 e18
  replace h:=h H9 e18
  refine T_pd [37] []<| T_ed 1 [38] [(12,vi an)]<| T_srz 8<| T_ed 2 [12] [(40,.bool (an==0))] ?_
  by_cases c20:an=0
  ·rw[if_pos c20]at h
   refine T_cTz 40 (beq_iff_eq.mpr c20)<| T_srz 9<| T_ud [0,1,2,40] [] ?_
   obtain⟨bg,aq,au,av,q22,h⟩:=h
   refine T_lr 41 48 q22 [11]<| T_nd 1 [41] [(42,.agg (DR 4 0 bg aq au av (ByteArray.mk #[]) none 0 0).toArray)] ?_
   obtain⟨q24,h⟩:=h
   refine T_sta 51 (DR 4 0 bg aq au av (ByteArray.mk #[]) none 0 0) q24 ?_
   intro ef e23
   replace h:=h ef e23
   refine T_pd [42] []<| T_ed 1 [] [(7,vi 0)] ?_
   refine S_ret (by kernel_rfl) ?_
   show At _ _ _ _ _ (Q .ret)
   obtain⟨cc,dx,ck,bl,a8,a3,eb,c5,c0,dk,q25,h⟩:=h
   exact S_done (fn:=Tryz.f22) [.agg (DR cc dx ck bl a8 a3 eb c5 c0 dk).toArray,vi 0] hQ (show ResOK _ _ _ [.cell 6 51,.tmp 7] _ from .cell (by kernel_rfl) (loadOK_row (λ_=>by kernel_rfl) (λ_=>by kernel_rfl) q25) (.tmp (by kernel_rfl) (.nil))) h
  rw[if_neg c20]at h
  refine T_cFz 40 (beq_eq_false_iff_ne.mpr c20)<| T_kt<| T_sz<| T_srz 10<| T_nd 3 [11,40] [(45,vp (some rA))] ?_
  obtain⟨dn,q26,h⟩:=h
  refine T_l1 46 24 q26 [45]<| T_nd 1 [] [(47,vu wv)] ?_
  refine T_c (some 48) h ?_;clear h
  rintro e4 dp ⟨k,rfl,h⟩
  refine T_pd [46,47] [(48,vi k)]<| T_e<| T_bz 0<| T_srz 11<| T_ed 2 [] [(49,.bool (k==2))] ?_
  by_cases c27:k=2
  ·rw[if_pos c27]at h
   refine T_cTz 49 (beq_iff_eq.mpr c27)<| T_srz 12<| T_nd 3 [0,2,48,49] [(54,vp (some rA))] ?_
   obtain⟨du,q29,h⟩:=h
   refine T_l1 55 24 q29 [54]<| T_nd 1 [1] [(56,vu wv)] ?_
   refine T_c (some 57) h ?_;clear h
   rintro ez eo ⟨ra,bo,rfl,h⟩
   refine T_pd [55,56] [(57,.tuple #[.string ra,vi bo])]<| T_ed 5 [57] [(13,.string ra),(14,vi bo)]<| T_srz 13<| T_nd 3 [13,14] [(61,.agg (DR 5 0 false none 0 0 ra none 0 0).toArray),(62,vi bo)] ?_
   obtain⟨q31,h⟩:=h
   refine T_sta 51 (DR 5 0 false none 0 0 ra none 0 0) q31 ?_
   intro ek e30
   replace h:=h ek e30
   refine T_pd [61] []<| T_ed 1 [62] [(7,vi bo)] ?_
   refine S_ret (by kernel_rfl) ?_
   show At _ _ _ _ _ (Q .ret)
   obtain⟨b7,d1,b2,bx,bh,bu,d0,di,dl,dj,q32,h⟩:=h
   exact S_done (fn:=Tryz.f22) [.agg (DR b7 d1 b2 bx bh bu d0 di dl dj).toArray,vi bo] hQ (show ResOK _ _ _ [.cell 6 51,.tmp 7] _ from .cell (by kernel_rfl) (loadOK_row (λ_=>by kernel_rfl) (λ_=>by kernel_rfl) q32) (.tmp (by kernel_rfl) (.nil))) h
  rw[if_neg c27]at h
  refine T_cFz 49 (beq_eq_false_iff_ne.mpr c27)<| T_srz 14<| T_ed 2 [49] [(63,.bool (k==4))] ?_
  by_cases c33:k=4
  ·rw[if_pos c33]at h
   refine T_cTz 63 (beq_iff_eq.mpr c33)<| T_srz 15<| T_nd 3 [0,2,48,63] [(68,vp (some rA))] ?_
   obtain⟨dq,q35,h⟩:=h
   refine T_l1 69 24 q35 [68]<| T_nd 1 [1] [(70,vu wv)] ?_
   refine T_c (some 71) h ?_;clear h
   rintro ew em ⟨bz,bi,rfl,h⟩
   refine T_pd [69,70] [(71,.tuple #[.string bz,vi bi])]<| T_ed 5 [71] [(15,.string bz),(16,vi bi)]<| T_srz 16<| T_nd 3 [15,16] [(75,.agg (DR 6 0 false none 0 0 bz none 0 0).toArray),(76,vi bi)] ?_
   obtain⟨q37,h⟩:=h
   refine T_sta 51 (DR 6 0 false none 0 0 bz none 0 0) q37 ?_
   intro ee e36
   replace h:=h ee e36
   refine T_pd [75] []<| T_ed 1 [76] [(7,vi bi)] ?_
   refine S_ret (by kernel_rfl) ?_
   show At _ _ _ _ _ (Q .ret)
   obtain⟨cj,d7,b5,ba,a7,bw,d4,dg,de,c8,q38,h⟩:=h
   exact S_done (fn:=Tryz.f22) [.agg (DR cj d7 b5 ba a7 bw d4 dg de c8).toArray,vi bi] hQ (show ResOK _ _ _ [.cell 6 51,.tmp 7] _ from .cell (by kernel_rfl) (loadOK_row (λ_=>by kernel_rfl) (λ_=>by kernel_rfl) q38) (.tmp (by kernel_rfl) (.nil))) h
  rw[if_neg c33]at h
  refine T_cFz 63 (beq_eq_false_iff_ne.mpr c33)<| T_srz 17<| T_ed 2 [48,63] [(77,.bool (k==1))] ?_
  by_cases c39:k=1
  ·rw[if_pos c39]at h
   refine T_cTz 77 (beq_iff_eq.mpr c39)<| T_srz 18<| T_n 3 [(6,vp (pa b)),(79,vp (some rA)),(80,vu wv),(81,vi a)] ?_
   refine T_c (some 82) h ?_;clear h
   rintro ey en ⟨q,a1,m,e,f,j,ax,ai,ae,af,b1,rfl,h⟩
   refine T_pd [79,80,81] [(82,.tuple #[.agg (DR q a1 m e f j ax ai ae af).toArray,vi b1])]<| T_nd 2 [82] [(83,.agg (DR q a1 m e f j ax ai ae af).toArray),(84,vi b1)] ?_
   obtain⟨q42,h⟩:=h
   refine T_sta 51 (DR q a1 m e f j ax ai ae af) q42 ?_
   intro el e41
   replace h:=h el e41
   refine T_pd [83] []<| T_ed 1 [84] [(7,vi b1)] ?_
   refine S_ret (by kernel_rfl) ?_
   show At _ _ _ _ _ (Q .ret)
   obtain⟨ch,d6,b3,bm,bq,a5,d2,dh,dm,c2,q43,h⟩:=h
   exact S_done (fn:=Tryz.f22) [.agg (DR ch d6 b3 bm bq a5 d2 dh dm c2).toArray,vi b1] hQ (show ResOK _ _ _ [.cell 6 51,.tmp 7] _ from .cell (by kernel_rfl) (loadOK_row (λ_=>by kernel_rfl) (λ_=>by kernel_rfl) q43) (.tmp (by kernel_rfl) (.nil))) h
  rw[if_neg c39]at h
  refine T_cFz 77 (beq_eq_false_iff_ne.mpr c39)<| T_k ?_
  refine S_blockEnd ?_
  refine S_then ?_
  refine T_sz<| T_srz 19<| T_nd 1 [77] [(85,vu wv)] ?_
  refine T_c (some 86) h ?_;clear h
  rintro e3 dv ⟨cr,rfl,h⟩
  refine T_pd [85] [(86,vi cr)]<| T_nd 2 [86] [(88,.bool (cr !=1))] ?_
  by_cases c44:cr=1
  ·rw[if_pos c44]at h
   refine N_bd 88 (bne_eq_false_iff_eq.mpr c44)<| T_nd 3 [] [(91,vp (some rA))] ?_
   obtain⟨dt,q46,h⟩:=h
   refine T_l1 92 24 q46 [91]<| T_nd 1 [] [(93,vu wv)] ?_
   refine T_c (some 94) h ?_;clear h
   rintro ev ec ⟨cl,rfl,h⟩
   refine T_pd [92,93] [(94,.bool cl)]<| T_ed 2 [88,94] [(96,.bool (!cl))] ?_
   by_cases c47:cl=true
   ·rw[if_pos c47]at h
    refine T_cFz 96 (congrArg Bool.not (c47))<| T_kt<| T_srz 21<| T_n 3 [(6,vp (pa b)),(98,vp (some rA)),(99,vu wv),(100,vi a)] ?_
    refine T_c (some 101) h ?_;clear h
    rintro eu et ⟨p,ay,o,g,i,d,az,ak,ag,ah,b0,rfl,h⟩
    refine⟨[(6,vp (pa b)),(101,.tuple #[.agg (DR p ay o g i d az ak ag ah).toArray,vi b0])],pk,?_⟩
    refine T_nd 2 [101] [(102,.agg (DR p ay o g i d az ak ag ah).toArray),(103,vi b0)] ?_
    obtain⟨q50,h⟩:=h
    refine T_sta 51 (DR p ay o g i d az ak ag ah) q50 ?_
    intro ei e49
    replace h:=h ei e49
    refine T_pd [102] []<| T_ed 1 [103] [(7,vi b0)] ?_
    refine S_ret (by kernel_rfl) ?_
    show At _ _ _ _ _ (Q .ret)
    obtain⟨b6,ea,cg,bp,bt,bd,d3,da,dd,df,q51,h⟩:=h
    exact S_done (fn:=Tryz.f22) [.agg (DR b6 ea cg bp bt bd d3 da dd df).toArray,vi b0] hQ (show ResOK _ _ _ [.cell 6 51,.tmp 7] _ from .cell (by kernel_rfl) (loadOK_row (λ_=>by kernel_rfl) (λ_=>by kernel_rfl) q51) (.tmp (by kernel_rfl) (.nil))) h
   rw[if_neg c47]at h
   refine T_cTz 96 (congrArg Bool.not (eq_false_of_ne_true c47))<| T_srz 20<| T_n 1 [(6,vp (pa b)),(97,.agg (DR 0 0 false none 0 0 (ByteArray.mk #[]) none 0 0).toArray)] ?_
   obtain⟨q53,h⟩:=h
   refine T_sta 51 (DR 0 0 false none 0 0 (ByteArray.mk #[]) none 0 0) q53 ?_
   intro eg e52
   replace h:=h eg e52
   refine T_pd [97] []<| T_ed 1 [] [(7,vi 3)] ?_
   refine S_ret (by kernel_rfl) ?_
   show At _ _ _ _ _ (Q .ret)
   obtain⟨ci,d9,cd,bb,be,bk,dy,c1,cx,db,q54,h⟩:=h
   exact S_done (fn:=Tryz.f22) [.agg (DR ci d9 cd bb be bk dy c1 cx db).toArray,vi 3] hQ (show ResOK _ _ _ [.cell 6 51,.tmp 7] _ from .cell (by kernel_rfl) (loadOK_row (λ_=>by kernel_rfl) (λ_=>by kernel_rfl) q54) (.tmp (by kernel_rfl) (.nil))) h
  rw[if_neg c44]at h
  refine N_bd 88 (bne_iff_ne.mpr c44)<| T_ed 8 [88] [(96,.bool true)]<| T_tz 96<| T_srz 20<| T_n 1 [(6,vp (pa b)),(97,.agg (DR 0 0 false none 0 0 (ByteArray.mk #[]) none 0 0).toArray)] ?_
  obtain⟨q56,h⟩:=h
  refine T_sta 51 (DR 0 0 false none 0 0 (ByteArray.mk #[]) none 0 0) q56 ?_
  intro ej e55
  replace h:=h ej e55
  refine T_pd [97] []<| T_ed 1 [] [(7,vi 3)] ?_
  refine S_ret (by kernel_rfl) ?_
  show At _ _ _ _ _ (Q .ret)
  obtain⟨ce,dz,cf,a4,bn,bj,dw,c7,c4,dc,q57,h⟩:=h
  exact S_done (fn:=Tryz.f22) [.agg (DR ce dz cf a4 bn bj dw c7 c4 dc).toArray,vi 3] hQ (show ResOK _ _ _ [.cell 6 51,.tmp 7] _ from .cell (by kernel_rfl) (loadOK_row (λ_=>by kernel_rfl) (λ_=>by kernel_rfl) q57) (.tmp (by kernel_rfl) (.nil))) h
 rw[if_neg c3]at h
 refine T_cTz 20 (bne_iff_ne.mpr c3)<| T_srz 3<| T_n 2 [(6,vp (pa b)),(21,.agg (DR 0 0 false none 0 0 (ByteArray.mk #[]) none 0 0).toArray),(22,vi x)] ?_
 obtain⟨q59,h⟩:=h
 refine T_sta 51 (DR 0 0 false none 0 0 (ByteArray.mk #[]) none 0 0) q59 ?_
 intro eh e58
 replace h:=h eh e58
 refine T_pd [21] []<| T_ed 1 [22] [(7,vi x)] ?_
 refine S_ret (by kernel_rfl) ?_
 show At _ _ _ _ _ (Q .ret)
 obtain⟨b9,d8,b8,a6,bs,bc,d5,cv,c6,cy,q60,h⟩:=h
 exact S_done (fn:=Tryz.f22) [.agg (DR b9 d8 b8 a6 bs bc d5 cv c6 cy).toArray,vi x] hQ (show ResOK _ _ _ [.cell 6 51,.tmp 7] _ from .cell (by kernel_rfl) (loadOK_row (λ_=>by kernel_rfl) (λ_=>by kernel_rfl) q60) (.tmp (by kernel_rfl) (.nil))) h
end build_reader_datum

/-! moraine/build.Heap.1 -/
namespace build_Heap_1
def K0:=Func.code Tryz.f28
def K2:=cb K0
def K3:=ca K2
def K6:=cb K3
def K7:=ca K6
def K9:=cb K7
def K11:=cb K9
def K15:=cb K11
def K17:=cb K15
def K21:=cb K17
def K23:=cb K21
def K27:=cb K23
def K29:=cb K27
def K33:=cb K29
def K35:=cb K33
def K39:=cb K35
def K41:=cb K39
def K45:=cb K41
def K47:=cb K45
def K51:=cb K47
def K53:=cb K51
def K57:=cb K53
def K58:=ca K57
def K59:=cb K57
def K61:=cb K58
def K62:=ca K61
def K65:=cb K62
def K66:=ca K65
def K67:=ca K66
def K92:=cb K59
def K93:=ca K92
def K96:=cb K93
def K97:=ca K96
def K98:=cb K96
def K99:=ca K97
def K100:=ca K99
def K111:=cb K98
def K112:=ca K111
def K115:=cb K112
def K116:=ca K115
def K117:=ca K116
def K119:=cb K117
def K124:=ca K119
def K126:=ca K124
def K128:=cb K126
def K129:=ca K128
end build_Heap_1
def build_Heap_1.pt(cc dC:Int)(cd:Bool)(bc:Option Addr)(bd bb:Nat)(dT:ByteArray)(du:Option Addr)(dt dr:Nat)(d f:Option Addr)(H:Array Obj)(R:Value->Array Obj->Prop):Prop:=
 ∀(b:Nat) (H1:Array Obj),b=H.size->H1=H.push (.cells (DR cc dC cd bc bd bb dT du dt dr).toArray 51)->
 ∃x:Int,hat H1 (ad b)=some (.int .i64 x)/\
 if x=1 then(
 R (.tuple #[.int .u64 12,.int .i64 0]) H1)
 else
 if x=2 then(
 R (.tuple #[.int .u64 4,.int .i64 0]) H1)
 else
 if x=9 then(
 R (.tuple #[.int .u64 36,.int .i64 0]) H1)
 else
 if x=10 then(
 R (.tuple #[.int .u64 28,.int .i64 0]) H1)
 else
 if x=3 then(
 ∃dn:Int,hat H1 ((ad b).add 1)=some (.int .i32 dn)/\
 word_Char.C dn H1 (λv H2=> ∃ra rb:Int,v=.tuple #[.int .u64 ra,.int .i64 rb]/\
 R (.tuple #[.int .u64 ra,.int .i64 rb]) H2))
 else
 if x=4 then(
 ∃dd:Addr,d=some dd/\
 ∃db:Option Addr,hat H1 dd=some (.pointer db)/\
 ∃(cy:Bool) (bz:Option Addr) (b2 b4:Nat),RowAt H1 ((ad b).add 2) 0 [.bool cy,.slice bz b2 b4]/\
 obj_Heap_Int.C db cy bz b2 b4 H1 (λd2 H3=> ∃c9 cr:Int,d2=.tuple #[.int .u64 c9,.int .i64 cr]/\
 R (.tuple #[.int .u64 c9,.int .i64 cr]) H3))
 else
 if x=5 then(
 ∃b3:Addr,d=some b3/\
 ∃da:Option Addr,hat H1 b3=some (.pointer da)/\
 ∃dq:ByteArray,hat H1 ((ad b).add 4)=some (.string dq)/\
 obj_Heap_String.C da dq H1 (λd6 H4=> ∃c0 c1:Int,d6=.tuple #[.int .u64 c0,.int .i64 c1]/\
 R (.tuple #[.int .u64 c0,.int .i64 c1]) H4))
 else
 if x=6 then(
 ∃bw:Addr,d=some bw/\
 ∃dc:Option Addr,hat H1 bw=some (.pointer dc)/\
 ∃dm:ByteArray,hat H1 ((ad b).add 4)=some (.string dm)/\
 syms_Intern.C dc dm H1 (λd8 H5=> ∃c5 cz:Int,d8=.tuple #[.int .u64 c5,.int .i64 cz]/\
 R (.tuple #[.int .u64 c5,.int .i64 cz]) H5))
 else
 if x=8 then(
 ∃(xB:Option Addr) (xN xC:Nat),hat H1 ((ad b).add 5)=some (.slice xB xN xC)/\
 ∃(dx:(Option Addr)->Nat->Nat->Int->Array Obj->Prop) (m68:(Option Addr)->Nat->Nat->Int->Array Obj->Nat),dx none 0 0 0 H1/\ ∀(lB:Option Addr) (lN:Nat) (lC:Nat) (s62:Int) (H6:Array Obj),dx lB lN lC s62 H6->
 if s62< (xN:Int)then(
 ∃q:Addr,xB=some q/\
 ((0:Int)<=s62/\s62< (xN:Int))/\
 ∃ay bg az ai af ah xT co cn cm,RowAt H6 (q.add (Int.toNat s62*6)) 0 (DR ay bg az ai af ah xT co cn cm)/\
 ∀(bj:Nat) (H7:Array Obj),bj=H6.size->H7=H6.push (.cells (DR 0 0 false none 0 0 (ByteArray.mk #[]) none 0 0).toArray 51)->
 (CanPuts H7 (ad bj) 0 6)/\ ∀H8,H8=hputs H7 (ad bj) (DR ay bg az ai af ah xT co cn cm) 0->
 ∃p:Addr,f=some p/\
 ∃dj:Value,hat H8 p=some (dj)/\
 ∃a3 cv a5 aq au aw cq bu b0 bq,RowAt H8 (ad bj) 0 (DR a3 cv a5 aq au aw cq bu b0 bq)/\
 FC Tryz.prog dj #[.agg (DR a3 cv a5 aq au aw cq bu b0 bq).toArray] H8 (λd5 H9=> ∃xa xb:Int,d5=.tuple #[.int .u64 xa,.int .i64 xb]/\
 if xb=0 then(
 ∀(dk:Nat) (H10:Array Obj),dk=H9.size->H10=H9.push (.cells #[.int .u64 xa] 54)->
 appendK 1 54 8 [.int .u64 0] lB lN lC (some (ad dk)) 1 H10 (λap df dy=>
 (dx ap (lN+1) df (IntKind.wrap .i64 (s62+1)) dy/\m68 ap (lN+1) df (IntKind.wrap .i64 (s62+1)) dy<m68 lB lN lC s62 H6)))
 else
 R (.tuple #[.int .u64 0,.int .i64 xb]) H9))
 else
 ∃bx:Addr,d=some bx/\
 ∃di:Option Addr,hat H6 bx=some (.pointer di)/\
 obj_Heap_Make.C di 1 0 lB lN lC H6 (λd1 d3=> ∃c3 cu:Int,d1=.tuple #[.int .u64 c3,.int .i64 cu]/\
 R (.tuple #[.int .u64 c3,.int .i64 cu]) d3))
 else
 if x=7 then(
 ∃(dg:(Option Addr)->Nat->Nat->Array Obj->Prop) (m101:(Option Addr)->Nat->Nat->Array Obj->Nat),dg none 0 0 H1/\ ∀(j:Option Addr) (carsN:Nat) (carsC:Nat) (H13:Array Obj),dg j carsN carsC H13->
 ∃bi:Int,hat H13 (ad b)=some (.int .i64 bi)/\
 if bi=7 then(
 ∃(de:Option Addr) (ck c2:Nat),hat H13 ((ad b).add 5)=some (.slice de ck c2)/\
 ∃bp:Addr,de=some bp/\
 ((0:Int)<=0/\0< (ck:Int))/\
 ∃a1 cs a4 av ax an cw bt b8 b1,RowAt H13 (bp.add (Int.toNat 0*6)) 0 (DR a1 cs a4 av ax an cw bt b8 b1)/\
 ∀(dp:Nat) (H14:Array Obj),dp=H13.size->H14=H13.push (.cells (DR a1 cs a4 av ax an cw bt b8 b1).toArray 51)->
 appendK 6 51 88 (DR 0 0 false none 0 0 (ByteArray.mk #[]) none 0 0) j carsN carsC (some (ad dp)) 1 H14 (λa6 ag dl=>
 ∃(dh:Option Addr) (ce cp:Nat),hat dl ((ad b).add 5)=some (.slice dh ce cp)/\
 ∃bm:Addr,dh=some bm/\
 ((0:Int)<=1/\1< (ce:Int))/\
 ∃ae bl ac r u s bo a8 a9 ba,RowAt dl (bm.add (Int.toNat 1*6)) 0 (DR ae bl ac r u s bo a8 a9 ba)/\
 (CanPuts dl (ad b) 0 6)/\ ∀dv,dv=hputs dl (ad b) (DR ae bl ac r u s bo a8 a9 ba) 0->
 (dg a6 (carsN+1) ag dv/\m101 a6 (carsN+1) ag dv<m101 j carsN carsC H13)))
 else
 ∃e:Addr,f=some e/\
 ∃cj:Value,hat H13 e=some (cj)/\
 ∃a2 ct a0 ao al am c7 b6 bs br,RowAt H13 (ad b) 0 (DR a2 ct a0 ao al am c7 b6 bs br)/\
 FC Tryz.prog cj #[.agg (DR a2 ct a0 ao al am c7 b6 bs br).toArray] H13 (λd4 d9=> ∃ch cl:Int,d4=.tuple #[.int .u64 ch,.int .i64 cl]/\
 ∃(cx:Int->Int->Int->Array Obj->Prop) (m118:Int->Int->Int->Array Obj->Nat),cx ch cl (IntKind.wrap .i64 ((carsN:Int)-1)) d9/\ ∀(wv:Int) (ev:Int) (i:Int) (H18:Array Obj),cx wv ev i H18->
 if((decide (i>=0)) && (ev==0))=true then(
 ∃a7:Value,hat H18 e=some (a7)/\
 ∃g:Addr,j=some g/\
 ((0:Int)<=i/\i< (carsN:Int))/\
 ∃ak cg aj aa z ab ci bh bf be,RowAt H18 (g.add (Int.toNat i*6)) 0 (DR ak cg aj aa z ab ci bh bf be)/\
 FC Tryz.prog a7 #[.agg (DR ak cg aj aa z ab ci bh bf be).toArray] H18 (λd7 dw=> ∃o m:Int,d7=.tuple #[.int .u64 o,.int .i64 m]/\
 if m=0 then(
 ∃y:Addr,d=some y/\
 ∃cf:Option Addr,hat dw y=some (.pointer cf)/\
 obj_Heap_Cons.C cf o wv dw (λd0 dz=> ∃bn bk:Int,d0=.tuple #[.int .u64 bn,.int .i64 bk]/\
 (cx bn bk (IntKind.wrap .i64 (i-1)) dz/\m118 bn bk (IntKind.wrap .i64 (i-1)) dz<m118 wv ev i H18)))
 else
 (cx wv m (IntKind.wrap .i64 (i-1)) dw/\m118 wv m (IntKind.wrap .i64 (i-1)) dw<m118 wv ev i H18)))
 else
 if ev=0 then(
 R (.tuple #[.int .u64 wv,.int .i64 0]) H18)
 else
 R (.tuple #[.int .u64 0,.int .i64 ev]) H18))
 else
 R (.tuple #[.int .u64 20,.int .i64 0]) H1
namespace build_Heap_1
theorem link{cc dC:Int}{cd:Bool}{bc:Option Addr}{bd bb:Nat}{dT:ByteArray}{du:Option Addr}{dt dr:Nat}{d f:Option Addr}{H:Array Obj}{R:Value->Array Obj->Prop}(h:pt cc dC cd bc bd bb dT du dt dr d f H R):C cc dC cd bc bd bb dT du dt dr d f H R:=by
 refine T_en K0 140 Tryz.func28 ?_
 intro w0 Q hQ
 unfold pt at h
 refine T_su [(0,.agg (DR cc dC cd bc bd bb dT du dt dr).toArray),(1,vp d),(2,vp f)]<| T_srz 0<| T_nw (some 3) (λb=>vp (pa b)) (.cells (DR cc dC cd bc bd bb dT du dt dr).toArray 51) ?_
 intro b H1 e1 e2
 replace h:=h b H1 e1 e2
 refine T_pd [0] [(3,vp (pa b))]<| T_ed 2 [] []<| T_sz<| T_srz 1<| T_nd 1 [] [(16,vp (pa b))] ?_
 obtain⟨x,q3,h⟩:=h
 refine T_l1 17 3 q3 [16]<| T_e<| T_bz 0<| T_srz 2<| T_ed 2 [] [(18,.bool (x==1))] ?_
 by_cases c4:x=1
 ·rw[if_pos c4]at h
  exact T_cTz 18 (beq_iff_eq.mpr c4)<| T_srz 3<| T_nr 2 [4,5] [vu 12,vi 0] hQ h
 rw[if_neg c4]at h
 refine T_cFz 18 (beq_eq_false_iff_ne.mpr c4)<| T_srz 4<| T_ed 2 [18] [(20,.bool (x==2))] ?_
 by_cases c6:x=2
 ·rw[if_pos c6]at h
  exact T_cTz 20 (beq_iff_eq.mpr c6)<| T_srz 5<| T_nr 2 [4,5] [vu 4,vi 0] hQ h
 rw[if_neg c6]at h
 refine T_cFz 20 (beq_eq_false_iff_ne.mpr c6)<| T_srz 6<| T_ed 2 [20] [(22,.bool (x==9))] ?_
 by_cases c8:x=9
 ·rw[if_pos c8]at h
  exact T_cTz 22 (beq_iff_eq.mpr c8)<| T_srz 7<| T_nr 2 [4,5] [vu 36,vi 0] hQ h
 rw[if_neg c8]at h
 refine T_cFz 22 (beq_eq_false_iff_ne.mpr c8)<| T_srz 8<| T_ed 2 [22] [(24,.bool (x==10))] ?_
 by_cases c10:x=10
 ·rw[if_pos c10]at h
  exact T_cTz 24 (beq_iff_eq.mpr c10)<| T_srz 9<| T_nr 2 [4,5] [vu 28,vi 0] hQ h
 rw[if_neg c10]at h
 refine T_cFz 24 (beq_eq_false_iff_ne.mpr c10)<| T_srz 10<| T_ed 2 [24] [(26,.bool (x==3))] ?_
 by_cases c12:x=3
 ·rw[if_pos c12]at h
  refine T_cTz 26 (beq_iff_eq.mpr c12)<| T_srz 11<| T_n 1 [(28,vp (some ((ad b).add 1)))] ?_
  obtain⟨dn,q14,h⟩:=h
  refine T_l1 29 21 q14 [28] ?_
  refine T_c (some 30) h ?_;clear h
  rintro v H2 ⟨ra,rb,rfl,h⟩
  refine⟨[(30,.tuple #[vu ra,vi rb])],pk,?_⟩
  exact T_nr 4 [4,5] [vu ra,vi rb] hQ h
 rw[if_neg c12]at h
 refine T_cFz 26 (beq_eq_false_iff_ne.mpr c12)<| T_srz 12<| T_ed 2 [26] [(33,.bool (x==4))] ?_
 by_cases c15:x=4
 ·rw[if_pos c15]at h
  refine T_cTz 33 (beq_iff_eq.mpr c15)<| T_srz 13<| T_ud [2,17,33] [] ?_
  obtain⟨dd,rfl,h⟩:=h
  obtain⟨db,q17,h⟩:=h
  refine T_l1 35 24 q17 [1]<| T_nd 1 [3] [(36,vp (some ((ad b).add 2)))] ?_
  obtain⟨cy,bz,b2,b4,q18,h⟩:=h
  refine T_lr 37 48 q18 [36] ?_
  refine T_c (some 38) h ?_;clear h
  rintro d2 H3 ⟨c9,cr,rfl,h⟩
  refine⟨[(38,.tuple #[vu c9,vi cr])],pk,?_⟩
  exact T_nr 4 [4,5] [vu c9,vi cr] hQ h
 rw[if_neg c15]at h
 refine T_cFz 33 (beq_eq_false_iff_ne.mpr c15)<| T_srz 14<| T_ed 2 [33] [(41,.bool (x==5))] ?_
 by_cases c19:x=5
 ·rw[if_pos c19]at h
  refine T_cTz 41 (beq_iff_eq.mpr c19)<| T_srz 15<| T_ud [2,17,41] [] ?_
  obtain⟨b3,rfl,h⟩:=h
  obtain⟨da,q21,h⟩:=h
  refine T_l1 43 24 q21 [1]<| T_nd 1 [3] [(44,vp (some ((ad b).add 4)))] ?_
  obtain⟨dq,q22,h⟩:=h
  refine T_l1 45 9 q22 [44] ?_
  refine T_c (some 46) h ?_;clear h
  rintro d6 H4 ⟨c0,c1,rfl,h⟩
  refine⟨[(46,.tuple #[vu c0,vi c1])],pk,?_⟩
  exact T_nr 4 [4,5] [vu c0,vi c1] hQ h
 rw[if_neg c19]at h
 refine T_cFz 41 (beq_eq_false_iff_ne.mpr c19)<| T_srz 16<| T_ed 2 [41] [(49,.bool (x==6))] ?_
 by_cases c23:x=6
 ·rw[if_pos c23]at h
  refine T_cTz 49 (beq_iff_eq.mpr c23)<| T_srz 17<| T_ud [2,17,49] [] ?_
  obtain⟨bw,rfl,h⟩:=h
  obtain⟨dc,q25,h⟩:=h
  refine T_l1 51 24 q25 [1]<| T_nd 1 [3] [(52,vp (some ((ad b).add 4)))] ?_
  obtain⟨dm,q26,h⟩:=h
  refine T_l1 53 9 q26 [52] ?_
  refine T_c (some 54) h ?_;clear h
  rintro d8 H5 ⟨c5,cz,rfl,h⟩
  refine⟨[(54,.tuple #[vu c5,vi cz])],pk,?_⟩
  exact T_nr 4 [4,5] [vu c5,vi cz] hQ h
 rw[if_neg c23]at h
 refine T_cFz 49 (beq_eq_false_iff_ne.mpr c23)<| T_srz 18<| T_ed 2 [49] [(57,.bool (x==8))] ?_
 by_cases c27:x=8
 ·rw[if_pos c27]at h
  refine T_cTz 57 (beq_iff_eq.mpr c27)<| T_srz 19<| T_ed 1 [17,57] [(6,vs none 0 0)]<| T_sz<| T_srz 20<| T_nd 1 [3] [(59,vp (some ((ad b).add 5)))] ?_
  obtain⟨xB,xN,xC,q29,h⟩:=h
  refine T_l1 60 49 q29 [59]<| T_ed 2 [] [(61,vi xN),(62,vi 0)]<| T_bz 1 ?_
  obtain⟨dx,m68,i30,i31⟩:=h
  refine S_loop (x:=K67) (σ:=(Option Addr)×Nat×Nat×Int) (λs_=> [(1,vp d),(2,vp f),(6,vs s_.1 s_.2.1 s_.2.2.1),(60,vs xB xN xC),(61,vi xN),(62,vi s_.2.2.2)]) (λs_ H=>dx s_.1 s_.2.1 s_.2.2.1 s_.2.2.2 H) (λs_ H=>m68 s_.1 s_.2.1 s_.2.2.1 s_.2.2.2 H) ((none,0,0,0):(Option Addr)×Nat×Nat×Int) (by kernel_rfl) i30 sk ?_
  rintro⟨lB,lN,lC,s62⟩ H6 i32
  have h:=i31 lB lN lC s62 H6 i32
  refine T_su [(1,vp d),(2,vp f),(6,vs lB lN lC),(60,vs xB xN xC),(61,vi xN),(62,vi s62)]<| T_srz 21<| T_ed 1 [] [(63,.bool (decide (s62< (xN:Int))))]<| T_sz ?_
  by_cases c33:s62< (xN:Int)
  ·rw[if_pos c33]at h
   refine T_cTz 63 (decide_eq_true c33)<| T_kt<| T_sz<| T_bz 2<| T_srz 22<| T_ud [63] [] ?_
   obtain⟨q,rfl,h⟩:=h
   obtain⟨q35,h⟩:=h
   refine T_xd (some 64) 49 51 6 q xN xC .i64 s62 Tryz.underlying49 q35.1 q35.2 [60] [(60,vs (some q) xN xC),(64,vp (some (q.add (Int.toNat s62*6))))] ?_
   obtain⟨ay,bg,az,ai,af,ah,xT,co,cn,cm,q36,h⟩:=h
   refine T_lr 65 51 q36 [64]<| T_nw (some 8) (λb=>vp (pa b)) (.cells (DR 0 0 false none 0 0 (ByteArray.mk #[]) none 0 0).toArray 51) ?_
   intro bj H7 e37 e38
   replace h:=h bj H7 e37 e38
   refine T_pd [] [(8,vp (pa bj))] ?_
   obtain⟨q40,h⟩:=h
   refine T_sta 51 (DR ay bg az ai af ah xT co cn cm) q40 ?_
   intro H8 e39
   replace h:=h H8 e39
   refine T_pd [65] []<| T_e<| T_srz 23 ?_
   obtain⟨p,rfl,h⟩:=h
   obtain⟨dj,q41,h⟩:=h
   refine T_ld (some 67) 88 q41 [2] [(2,vp (some p)),(67,dj)] ?_
   obtain⟨a3,cv,a5,aq,au,aw,cq,bu,b0,bq,q42,h⟩:=h
   refine T_lr 68 51 q42 [8] ?_
   refine N_callv (some 69) dj #[.agg (DR a3 cv a5 aq au aw cq bu b0 bq).toArray] (λ_=>by kernel_rfl) h ?_;clear h
   rintro d5 H9 ⟨xa,xb,rfl,h⟩
   refine T_pd [67,68] [(69,.tuple #[vu xa,vi xb])]<| T_ed 5 [69] [(9,vu xa),(10,vi xb)]<| T_sz<| T_srz 24<| T_ed 2 [] [(73,.bool (xb !=0))] ?_
   by_cases c43:xb=0
   ·rw[if_pos c43]at h
    refine T_cFz 73 (bne_eq_false_iff_eq.mpr c43)<| T_kt<| T_rz 26<| T_nd 2 [6,9,10,73] [(75,vs lB lN lC),(76,vu xa)]<| T_nw (some 77) (λb=>vs (pa b) 1 1) (.cells #[vu xa] 54) ?_
    intro dk H10 e45 e46
    replace h:=h dk H10 e45 e46
    refine T_pd [76] [(77,vs (pa dk) 1 1)] ?_
    refine N_op (some 78) (appendN #[28,28] 28 #[vs lB lN lC,vs (pa dk) 1 1]) _ (λ_=>by kernel_rfl) (ss_append (T:=54) (sz:=1) (bytes:=8) (zero:=(vu 0:Value)) Tryz.underlying28 Tryz.underlying28 rfl (show Tryz.prog.info? 54=some Tryz.t54 from by kernel_rfl) (by kernel_rfl) (by kernel_rfl) (by decide) (by kernel_rfl) (by first | exact h | (simpa only[Value.cells,List.toList_toArray]using h))) ?_;clear h
    rintro _ dy ⟨ap,df,rfl,h⟩
    refine T_pd [75,77] [(78,vs ap (lN+1) df)]<| T_nd 1 [78] [(6,vs ap (lN+1) df)] ?_
    refine N_end (by kernel_rfl) ?_
    refine S_blockEnd ?_
    refine S_then ?_
    refine T_rz 27<| T_ed 2 [62] [(62,vi (IntKind.wrap .i64 (s62+1)))] ?_
    exact S_round ((ap,(lN+1),df,(IntKind.wrap .i64 (s62+1))):(Option Addr)×Nat×Nat×Int) sk h
   rw[if_neg c43]at h
   exact T_cTz 73 (bne_iff_ne.mpr c43)<| T_srz 25<| T_nr 3 [4,5] [vu 0,vi xb] hQ h
  rw[if_neg c33]at h
  refine T_cFz 63 (decide_eq_false c33) ?_
  refine S_exit 1 (by kernel_rfl) ?_
  refine S_exitThen ?_
  refine S_exitThen ?_
  refine S_exitHere ?_
  refine S_then ?_
  refine T_srz 28<| T_ud [2,60,61,62,63] [] ?_
  obtain⟨bx,rfl,h⟩:=h
  obtain⟨di,q47,h⟩:=h
  refine T_l1 80 24 q47 [1]<| T_nd 1 [6] [(81,vs lB lN lC)] ?_
  refine T_c (some 82) h ?_;clear h
  rintro d1 d3 ⟨c3,cu,rfl,h⟩
  refine⟨[(82,.tuple #[vu c3,vi cu])],pk,?_⟩
  exact T_nr 4 [4,5] [vu c3,vi cu] hQ h
 rw[if_neg c27]at h
 refine T_cFz 57 (beq_eq_false_iff_ne.mpr c27)<| T_srz 29<| T_ed 2 [17,57] [(85,.bool (x==7))] ?_
 by_cases c48:x=7
 ·rw[if_pos c48]at h
  refine T_cTz 85 (beq_iff_eq.mpr c48)<| T_srz 30<| T_ed 1 [85] [(11,vs none 0 0)]<| T_sz<| T_bz 3 ?_
  obtain⟨dg,m101,i50,i51⟩:=h
  refine S_loop (x:=K100) (σ:=(Option Addr)×Nat×Nat) (λs_=> [(1,vp d),(2,vp f),(3,vp (pa b)),(11,vs s_.1 s_.2.1 s_.2.2)]) (λs_ H=>dg s_.1 s_.2.1 s_.2.2 H) (λs_ H=>m101 s_.1 s_.2.1 s_.2.2 H) ((none,0,0):(Option Addr)×Nat×Nat) (by kernel_rfl) i50 sk ?_
  rintro⟨j,carsN,carsC⟩ H13 i52
  have h:=i51 j carsN carsC H13 i52
  refine T_su [(1,vp d),(2,vp f),(3,vp (pa b)),(11,vs j carsN carsC)]<| T_sz<| T_srz 31<| T_nd 1 [] [(87,vp (pa b))] ?_
  obtain⟨bi,q53,h⟩:=h
  refine T_l1 88 3 q53 [87]<| T_ed 1 [88] [(89,.bool (bi==7))] ?_
  by_cases c54:bi=7
  ·rw[if_pos c54]at h
   refine T_cTz 89 (beq_iff_eq.mpr c54)<| T_kt<| T_bz 4<| T_srz 32<| T_nd 2 [11,89] [(90,vs j carsN carsC),(91,vp (some ((ad b).add 5)))] ?_
   obtain⟨de,ck,c2,q56,h⟩:=h
   refine T_l1 92 49 q56 [91] ?_
   obtain⟨bp,rfl,h⟩:=h
   obtain⟨q57,h⟩:=h
   refine T_xd (some 93) 49 51 6 bp ck c2 .i64 0 Tryz.underlying49 q57.1 q57.2 [92] [(93,vp (some (bp.add (Int.toNat 0*6))))] ?_
   obtain⟨a1,cs,a4,av,ax,an,cw,bt,b8,b1,q58,h⟩:=h
   refine T_lr 94 51 q58 [93]<| T_nw (some 95) (λb=>vs (pa b) 1 1) (.cells (DR a1 cs a4 av ax an cw bt b8 b1).toArray 51) ?_
   intro dp H14 e59 e60
   replace h:=h dp H14 e59 e60
   refine T_pd [94] [(95,vs (pa dp) 1 1)] ?_
   refine N_op (some 96) (appendN #[49,49] 49 #[vs j carsN carsC,vs (pa dp) 1 1]) _ (λ_=>by kernel_rfl) (ss_append (T:=51) (sz:=6) (bytes:=88) (zero:=(.agg (DR 0 0 false none 0 0 (ByteArray.mk #[]) none 0 0).toArray:Value)) Tryz.underlying49 Tryz.underlying49 rfl (show Tryz.prog.info? 51=some Tryz.t51 from by kernel_rfl) (by kernel_rfl) (by kernel_rfl) (by decide) (by kernel_rfl) (by first | exact h | (simpa only[Value.cells,List.toList_toArray]using h))) ?_;clear h
   rintro _ dl ⟨a6,ag,rfl,h⟩
   refine T_pd [90,95] [(96,vs a6 (carsN+1) ag)]<| T_ed 1 [96] [(11,vs a6 (carsN+1) ag)]<| T_rz 33<| T_nd 1 [] [(97,vp (some ((ad b).add 5)))] ?_
   obtain⟨dh,ce,cp,q61,h⟩:=h
   refine T_l1 98 49 q61 [97] ?_
   obtain⟨bm,rfl,h⟩:=h
   obtain⟨q62,h⟩:=h
   refine T_xd (some 99) 49 51 6 bm ce cp .i64 1 Tryz.underlying49 q62.1 q62.2 [98] [(99,vp (some (bm.add (Int.toNat 1*6))))] ?_
   obtain⟨ae,bl,ac,r,u,s,bo,a8,a9,ba,q63,h⟩:=h
   refine T_lr 100 51 q63 [99] ?_
   obtain⟨q65,h⟩:=h
   refine T_sta 51 (DR ae bl ac r u s bo a8 a9 ba) q65 ?_
   intro dv e64
   replace h:=h dv e64
   refine T_pd [100] [] ?_
   refine N_end (by kernel_rfl) ?_
   refine S_blockEnd ?_
   refine S_then ?_
   exact S_round ((a6,(carsN+1),ag):(Option Addr)×Nat×Nat) sk h
  rw[if_neg c54]at h
  refine T_cFz 89 (beq_eq_false_iff_ne.mpr c54) ?_
  refine S_exit 3 (by kernel_rfl) ?_
  refine S_exitThen ?_
  refine S_exitThen ?_
  refine S_exitHere ?_
  refine S_then ?_
  refine T_srz 34<| T_ud [89] [] ?_
  obtain⟨e,rfl,h⟩:=h
  obtain⟨cj,q66,h⟩:=h
  refine T_ld (some 102) 88 q66 [2] [(2,vp (some e)),(102,cj)] ?_
  obtain⟨a2,ct,a0,ao,al,am,c7,b6,bs,br,q67,h⟩:=h
  refine T_lr 103 51 q67 [3] ?_
  refine N_callv (some 104) cj #[.agg (DR a2 ct a0 ao al am c7 b6 bs br).toArray] (λ_=>by kernel_rfl) h ?_;clear h
  rintro d4 d9 ⟨ch,cl,rfl,h⟩
  refine T_pd [102,103] [(104,.tuple #[vu ch,vi cl])]<| T_ed 5 [104] [(12,vu ch),(13,vi cl)]<| T_sz<| T_srz 35<| T_ed 4 [] [(14,vi (IntKind.wrap .i64 ((carsN:Int)-1)))]<| T_bz 5 ?_
  obtain⟨cx,m118,i68,i69⟩:=h
  refine S_loop (x:=K117) (σ:=Int×Int×Int) (λs_=> [(1,vp d),(2,vp (some e)),(11,vs j carsN carsC),(12,vu s_.1),(13,vi s_.2.1),(14,vi s_.2.2)]) (λs_ H=>cx s_.1 s_.2.1 s_.2.2 H) (λs_ H=>m118 s_.1 s_.2.1 s_.2.2 H) ((ch,cl,(IntKind.wrap .i64 ((carsN:Int)-1))):Int×Int×Int) (by kernel_rfl) i68 sk ?_
  rintro⟨wv,ev,i⟩ H18 i70
  have h:=i69 wv ev i H18 i70
  refine T_su [(1,vp d),(2,vp (some e)),(11,vs j carsN carsC),(12,vu wv),(13,vi ev),(14,vi i)]<| T_sz<| T_srz 36 ?_
  refine N_cut [(1,vp d),(2,vp (some e)),(11,vs j carsN carsC),(12,vu wv),(13,vi ev),(14,vi i),(115,.bool ((decide (i>=0)) && (ev==0)))] ?_ ?_
  ·refine S_then ?_
   by_cases c73:((decide (i>=0)) && (ev==0))=true
   ·rw[if_pos c73]at h
    refine T_cTz 115 c73<| T_kt<| T_sz<| T_bz 6<| T_srz 38<| T_ne 1 [(1,vp d),(2,vp (some e)),(11,vs j carsN carsC),(12,vu wv),(14,vi i)]<| T_sz ?_
    obtain⟨a7,q75,h⟩:=h
    obtain⟨g,rfl,h⟩:=h
    obtain⟨q76,h⟩:=h
    obtain⟨ak,cg,aj,aa,z,ab,ci,bh,bf,be,q77,h⟩:=h
    refine S_regionG 39 (Code.ops K129) [(5,e,[a7]),(5,(g.add (Int.toNat i*6)),(DR ak cg aj aa z ab ci bh bf be))] 11 (bv 11 0) (by kernel_rfl) (by kernel_rfl) (by kernel_rfl) (by kernel_rfl) (by kernel_rfl) (show FactsAt _ _ _ from⟨⟨q75,trivial⟩,q77,trivial⟩) ?_
    refine T_g 0 (some 119) (a7) (bv 11 1) [(1,vp d),(2,vp (some e)),(11,vs (some g) carsN carsC),(12,vu wv),(14,vi i),(119,a7)] (loadN 88 (vp (some e))) (held_one 5 (λ_=>by kernel_rfl) (List.Mem.head _) (.inl (by kernel_rfl)))<| T_gp1 1 120 (vs (some g) carsN carsC) (bv 11 3) []<| T_gp1 2 121 (vi i) (bv 11 7) []<| T_g1 3 122 (vp (some (g.add (Int.toNat i*6)))) (bv 11 15) [120,121] (indexAtN 49 (vs (some g) carsN carsC) (vi i)) (λ_ w _ _ _=>indexAt_run (P:=Tryz.prog) (t:=49) (elem:=51) (sz:=6) (a:=g) (len:=carsN) (cap:=carsC) (k:=.i64) (i:=i) Tryz.underlying49 (λ_=>by kernel_rfl) q76.1 q76.2 w)<| T_g1 4 123 (.agg (DR ak cg aj aa z ab ci bh bf be).toArray) (bv 11 31) [122] (loadN 51 (vp (some (g.add (Int.toNat i*6))))) (held_row 5 (λ_=>by kernel_rfl) (λ_=>by kernel_rfl) (List.Mem.tail _ (List.Mem.head _)) (.inl (by kernel_rfl))) ?_
    refine G_callv 5 (some 124) (bv 11 63) a7 #[.agg (DR ak cg aj aa z ab ci bh bf be).toArray] (by kernel_rfl) (λ_=>by kernel_rfl) h (by kernel_rfl) ?_;clear h
    rintro d7 dw ⟨o,m,rfl,h⟩
    refine⟨[(1,vp d),(2,vp (some e)),(11,vs (some g) carsN carsC),(12,vu wv),(14,vi i),(124,.tuple #[vu o,vi m])],pk,(show FactsAt _ _ _ from⟨trivial,trivial,trivial⟩),?_⟩
    refine T_g 6 (some 118) (.tuple #[vu o,vi m]) (bv 11 127) [(1,vp d),(2,vp (some e)),(11,vs (some g) carsN carsC),(12,vu wv),(14,vi i),(118,.tuple #[vu o,vi m])] (pure (.value (.tuple #[vu o,vi m])):Sem Next) (λ_ _ _ _ _=>rfl)<| T_g1 7 125 (vu o) (bv 11 255) [] (pure (.value (vu o)):Sem Next) (λ_ _ _ _ _=>rfl)<| T_g1 8 126 (vi m) (bv 11 511) [118] (pure (.value (vi m)):Sem Next) (λ_ _ _ _ _=>rfl)<| T_g1 9 15 (vu o) (bv 11 1023) [125] (pure (.value (vu o)):Sem Next) (λ_ _ _ _ _=>rfl)<| T_g1 10 13 (vi m) (bv 11 2047) [126] (pure (.value (vi m)):Sem Next) (λ_ _ _ _ _=>rfl) ?_
    refine G_sub [(1,vp d),(2,vp (some e)),(11,vs (some g) carsN carsC),(12,vu wv),(13,vi m),(14,vi i),(15,vu o)] sk ?_
    refine G_end (by kernel_rfl) ?_
    refine S_then ?_
    refine T_srz 40<| T_ne 2 [(1,vp d),(2,vp (some e)),(11,vs (some g) carsN carsC),(12,vu wv),(13,vi m),(14,vi i),(15,vu o),(128,.bool (m==0))] ?_
    by_cases c78:m=0
    ·rw[if_pos c78]at h
     refine T_cTz 128 (beq_iff_eq.mpr c78)<| T_rz 41<| T_ud [13,128] [] ?_
     obtain⟨y,rfl,h⟩:=h
     obtain⟨cf,q80,h⟩:=h
     refine T_ld (some 130) 24 q80 [1] [(1,vp (some y)),(130,vp cf)]<| T_nd 2 [12,15] [(131,vu o),(132,vu wv)] ?_
     refine T_c (some 133) h ?_;clear h
     rintro d0 dz ⟨bn,bk,rfl,h⟩
     refine T_pd [130,131,132] [(133,.tuple #[vu bn,vi bk])]<| T_nd 5 [133] [(12,vu bn),(13,vi bk)] ?_
     refine N_end (by kernel_rfl) ?_
     refine S_blockEnd ?_
     refine S_then ?_
     refine T_rz 37<| T_ed 3 [14] [(14,vi (IntKind.wrap .i64 (i-1)))] ?_
     exact S_round ((bn,bk,(IntKind.wrap .i64 (i-1))):Int×Int×Int) sk h
    rw[if_neg c78]at h
    refine T_cFz 128 (beq_eq_false_iff_ne.mpr c78)<| T_k ?_
    refine S_blockEnd ?_
    refine S_then ?_
    refine T_rz 37<| T_ed 3 [14,15,128] [(14,vi (IntKind.wrap .i64 (i-1)))] ?_
    exact S_round ((wv,m,(IntKind.wrap .i64 (i-1))):Int×Int×Int) sk h
   rw[if_neg c73]at h
   refine T_cFz 115 (eq_false_of_ne_true c73) ?_
   refine S_exit 5 (by kernel_rfl) ?_
   refine S_exitThen ?_
   refine S_exitThen ?_
   refine S_exitHere ?_
   refine S_then ?_
   refine T_sz<| T_srz 42<| T_ne 2 [(12,vu wv),(13,vi ev),(137,.bool (ev !=0))] ?_
   by_cases c81:ev=0
   ·rw[if_pos c81]at h
    exact T_cFz 137 (bne_eq_false_iff_eq.mpr c81)<| T_kt<| T_srz 44<| T_nr 3 [4,5] [vu wv,vi 0] hQ h
   rw[if_neg c81]at h
   exact T_cTz 137 (bne_iff_ne.mpr c81)<| T_srz 43<| T_nr 3 [4,5] [vu 0,vi ev] hQ h
  intro hk
  refine T_n 3 [(1,vp d),(2,vp (some e)),(11,vs j carsN carsC),(12,vu wv),(13,vi ev),(14,vi i),(112,.bool (decide (i>=0)))] ?_
  by_cases c71:i>=0
  ·have b72:(decide (i>=0))=true:=decide_eq_true c71
   refine N_env [(1,vp d),(2,vp (some e)),(11,vs j carsN carsC),(12,vu wv),(13,vi ev),(14,vi i),(112,.bool true)] (by rw[b72]) ?_
   refine T_nd 3 [112] [(115,.bool (ev==0))] ?_
   refine N_end (by kernel_rfl) ?_
   refine S_bd 115 (b:=(ev==0)) (v:=((decide (i>=0)) && (ev==0))) (by simp only[b72,BL]) ?_
   exact hk
  have b72:(decide (i>=0))=false:=decide_eq_false c71
  refine N_env [(1,vp d),(2,vp (some e)),(11,vs j carsN carsC),(12,vu wv),(13,vi ev),(14,vi i),(112,.bool false)] (by rw[b72]) ?_
  refine T_nd 3 [112] [(115,.bool false)] ?_
  refine N_end (by kernel_rfl) ?_
  refine S_bd 115 (b:=false) (v:=((decide (i>=0)) && (ev==0))) (by simp only[b72,BL]) ?_
  exact hk
 rw[if_neg c48]at h
 refine T_cFz 85 (beq_eq_false_iff_ne.mpr c48)<| T_k ?_
 refine S_blockEnd ?_
 refine S_then ?_
 exact T_srz 45<| T_nr 2 [4,5] [vu 20,vi 0] hQ h
end build_Heap_1

/-! (*moraine/build.reader).one -/
namespace build_reader_one
def K0:=Func.code Tryz.f38
end build_reader_one
def build_reader_one.pt(r:Option Addr)(H:Array Obj)(R:Value->Array Obj->Prop):Prop:=
 ∃rA:Addr,r=some rA/\
 ∃x:Int,hat H (rA.add 1)=some (.int .i64 x)/\
 (CanPuts H (rA.add 1) 0 1)/\ ∀H1,H1=hputs H (rA.add 1) [.int .i64 (IntKind.wrap .i64 (x+1))] 0->
 ∃a:Int,hat H1 (rA.add 1)=some (.int .i64 a)/\
 if a>4096 then(
 R (.int .i64 6) H1)
 else
 R (.int .i64 0) H1
namespace build_reader_one
theorem link{r:Option Addr}{H:Array Obj}{R:Value->Array Obj->Prop}(h:pt r H R):C r H R:=by
 refine T_en K0 15 Tryz.func38 ?_
 intro w0 Q hQ
 unfold pt at h
 refine T_su [(0,vp r)]<| T_srz 0<| T_ed 1 [] []<| T_srz 1<| T_nd 1 [] [(3,vp r)] ?_
 obtain⟨rA,rfl,h⟩:=h
 refine T_n 2 [(0,vp (some rA)),(3,vp (some rA)),(5,vp (some (rA.add 1)))] ?_
 obtain⟨x,q1,h⟩:=h
 refine T_l1 6 3 q1 [5]<| T_nd 3 [3,6] [(7,vi (IntKind.wrap .i64 (x+1))),(9,vp (some (rA.add 1)))] ?_
 obtain⟨q3,h⟩:=h
 refine T_st1 3 (vi (IntKind.wrap .i64 (x+1))) q3 ?_
 intro H1 e2
 replace h:=h H1 e2
 refine T_pd [7,9] []<| T_e<| T_sz<| T_srz 2<| T_n 3 [(12,vp (some (rA.add 1)))] ?_
 obtain⟨a,q4,h⟩:=h
 refine T_l1 13 3 q4 [12]<| T_ne 1 [(14,.bool (decide (a>4096)))] ?_
 by_cases c5:a>4096
 ·rw[if_pos c5]at h
  exact T_cTz 14 (decide_eq_true c5)<| T_srz 3<| T_nr 1 [2] [vi 6] hQ h
 rw[if_neg c5]at h
 exact T_cFz 14 (decide_eq_false c5)<| T_kt<| T_srz 4<| T_nr 1 [2] [vi 0] hQ h
end build_reader_one

end Go.Proofs.YtibpklpgmgakcaaGreatDoor
