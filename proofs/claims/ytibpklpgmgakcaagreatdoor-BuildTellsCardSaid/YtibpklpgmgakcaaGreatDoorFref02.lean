/- Printed: what each function asks, and that it is sound. -/
import Derived.Test.YtibpklpgmgakcaaGreatDoorFnsC
set_option linter.unusedSimpArgs false
set_option linter.unusedVariables false
set_option maxRecDepth 100000
set_option maxHeartbeats 1000000
noncomputable section
namespace Go.Proofs.YtibpklpgmgakcaaGreatDoor
open Go
/-! moraine/moraineref02.Same -/
namespace moraineref02_Same
def K0:=Func.code Tryz.f24
def K2:=cb K0
def K4:=cb K2
def K9:=ca K4
def K12:=cb K9
def K13:=ca K12
def K14:=ca K13
end moraineref02_Same
def moraineref02_Same.pt(ah:Bool)(z:Option Addr)(v y:Nat)(ac:Bool)(o:Option Addr)(j m:Nat)(H:Array Obj)(R:Value->Array Obj->Prop):Prop:=
 ∀(b:Nat) (H1:Array Obj),b=H.size->H1=H.push (.cells #[.bool ah,.slice z v y] 48)->
 ∀(d:Nat) (H2:Array Obj),d=H1.size->H2=H1.push (.cells #[.bool ac,.slice o j m] 48)->
 ∃x:Bool,hat H2 (ad b)=some (.bool x)/\
 ∃ae:Bool,hat H2 (ad d)=some (.bool ae)/\
 if x=ae then(
 ∃(xB:Option Addr) (xN xC:Nat),hat H2 ((ad b).add 1)=some (.slice xB xN xC)/\
 ∃(al:Option Addr) (f ai:Nat),hat H2 ((ad d).add 1)=some (.slice al f ai)/\
 if(xN:Int)=(f:Int)then(
 ∃(am:Int->Array Obj->Prop) (m15:Int->Array Obj->Nat),am 0 H2/\ ∀(i:Int) (H3:Array Obj),am i H3->
 ∃(aj:Option Addr) (g ak:Nat),hat H3 ((ad b).add 1)=some (.slice aj g ak)/\
 if i< (g:Int)then(
 ∃(af:Option Addr) (s ab:Nat),hat H3 ((ad b).add 1)=some (.slice af s ab)/\
 ∃r:Addr,af=some r/\
 ((0:Int)<=i/\i< (s:Int))/\
 ∃e:Int,hat H3 (r.add (Int.toNat i*1))=some (.int .u32 e)/\
 ∃(ag:Option Addr) (q aa:Nat),hat H3 ((ad d).add 1)=some (.slice ag q aa)/\
 ∃u:Addr,ag=some u/\
 ((0:Int)<=i/\i< (q:Int))/\
 ∃p:Int,hat H3 (u.add (Int.toNat i*1))=some (.int .u32 p)/\
 if e=p then(
 (am (IntKind.wrap .i64 (i+1)) H3/\m15 (IntKind.wrap .i64 (i+1)) H3<m15 i H3))
 else
 R (.bool false) H3)
 else
 R (.bool true) H3)
 else
 R (.bool false) H2)
 else
 R (.bool false) H2
namespace moraineref02_Same
theorem link{ah:Bool}{z:Option Addr}{v y:Nat}{ac:Bool}{o:Option Addr}{j m:Nat}{H:Array Obj}{R:Value->Array Obj->Prop}(h:pt ah z v y ac o j m H R):C ah z v y ac o j m H R:=by
 refine T_en K0 38 Tryz.func24 ?_
 intro w0 Q hQ
 unfold pt at h
 refine T_su [(0,.agg #[.bool ah,vs z v y]),(1,.agg #[.bool ac,vs o j m])]<| T_srz 0<| T_nw (some 2) (λb=>vp (pa b)) (.cells #[.bool ah,vs z v y] 48) ?_
 intro b H1 e1 e2
 replace h:=h b H1 e1 e2
 refine T_pd [0] [(2,vp (pa b))]<| T_nw (some 3) (λb=>vp (pa b)) (.cells #[.bool ac,vs o j m] 48) ?_
 intro d H2 e3 e4
 replace h:=h d H2 e3 e4
 refine T_pd [1] [(3,vp (pa d))]<| T_ed 1 [] []<| T_sz<| T_srz 1<| T_nd 1 [] [(6,vp (pa b))] ?_
 obtain⟨x,q5,h⟩:=h
 refine T_l1 7 4 q5 [6]<| T_nd 1 [] [(8,vp (pa d))] ?_
 obtain⟨ae,q6,h⟩:=h
 refine T_l1 9 4 q6 [8]<| T_nd 2 [7,9] [(11,.bool (!(x==ae)))] ?_
 by_cases c7:x=ae
 ·rw[if_pos c7]at h
  refine N_bd 11 (congrArg Bool.not (beq_iff_eq.mpr c7))<| T_nd 1 [] [(12,vp (some ((ad b).add 1)))] ?_
  obtain⟨xB,xN,xC,q9,h⟩:=h
  refine T_l1 13 46 q9 [12]<| T_nd 2 [13] [(14,vi xN),(15,vp (some ((ad d).add 1)))] ?_
  obtain⟨al,f,ai,q10,h⟩:=h
  refine T_l1 16 46 q10 [15]<| T_ed 3 [11,14,16] [(19,.bool ((xN:Int) !=(f:Int)))] ?_
  by_cases c11:(xN:Int)=(f:Int)
  ·rw[if_pos c11]at h
   refine T_cFz 19 (bne_eq_false_iff_eq.mpr c11)<| T_kt<| T_sz<| T_srz 3<| T_ed 1 [19] [(5,vi 0)]<| T_bz 0 ?_
   obtain⟨am,m15,i13,i14⟩:=h
   refine S_loop (x:=K14) (σ:=Int) (λs_=> [(2,vp (pa b)),(3,vp (pa d)),(5,vi s_)]) (λs_ H=>am s_ H) (λs_ H=>m15 s_ H) (0:Int) (by kernel_rfl) i13 sk ?_
   rintro i H3 i15
   have h:=i14 i H3 i15
   refine T_su [(2,vp (pa b)),(3,vp (pa d)),(5,vi i)]<| T_sz<| T_srz 4<| T_nd 2 [] [(20,vi i),(21,vp (some ((ad b).add 1)))] ?_
   obtain⟨aj,g,ak,q16,h⟩:=h
   refine T_l1 22 46 q16 [21]<| T_ed 2 [20,22] [(24,.bool (decide (i< (g:Int))))] ?_
   by_cases c17:i< (g:Int)
   ·rw[if_pos c17]at h
    refine T_cTz 24 (decide_eq_true c17)<| T_kt<| T_sz<| T_bz 1<| T_sz<| T_rqz 6<| T_q1 27 (vp (some ((ad b).add 1))) [24] ?_
    obtain⟨af,s,ab,q19,h⟩:=h
    refine T_qld (some 28) 46 q19 [27] [(28,vs af s ab)]<| T_q1 29 (vi i) [] ?_
    obtain⟨r,rfl,h⟩:=h
    obtain⟨q20,h⟩:=h
    refine Q_op (some 30) (indexAtN 46 (vs (some r) s ab) (vi i)) (vp (some (r.add (Int.toNat i*1)))) (λ_=>by kernel_rfl) (λw _=>indexAt_run (P:=Tryz.prog) (t:=46) (elem:=74) (sz:=1) (a:=r) (len:=s) (cap:=ab) (k:=.i64) (i:=i) Tryz.underlying46 (λ_=>by kernel_rfl) q20.1 q20.2 w) [(2,vp (pa b)),(3,vp (pa d)),(5,vi i),(30,vp (some (r.add (Int.toNat i*1))))] pk ?_
    obtain⟨e,q21,h⟩:=h
    refine T_ql (some 31) 74 q21 [(2,vp (pa b)),(3,vp (pa d)),(5,vi i),(31,.int .u32 e)]<| T_q1 32 (vp (some ((ad d).add 1))) [] ?_
    obtain⟨ag,q,aa,q22,h⟩:=h
    refine T_qld (some 33) 46 q22 [32] [(33,vs ag q aa)]<| T_q1 34 (vi i) [] ?_
    obtain⟨u,rfl,h⟩:=h
    obtain⟨q23,h⟩:=h
    refine Q_op (some 35) (indexAtN 46 (vs (some u) q aa) (vi i)) (vp (some (u.add (Int.toNat i*1)))) (λ_=>by kernel_rfl) (λw _=>indexAt_run (P:=Tryz.prog) (t:=46) (elem:=74) (sz:=1) (a:=u) (len:=q) (cap:=aa) (k:=.i64) (i:=i) Tryz.underlying46 (λ_=>by kernel_rfl) q23.1 q23.2 w) [(2,vp (pa b)),(3,vp (pa d)),(5,vi i),(31,.int .u32 e),(35,vp (some (u.add (Int.toNat i*1))))] pk ?_
    obtain⟨p,q24,h⟩:=h
    refine T_ql (some 36) 74 q24 [(2,vp (pa b)),(3,vp (pa d)),(5,vi i),(31,.int .u32 e),(36,.int .u32 p)]<| T_q1 37 (.bool (e !=p)) [31,36] ?_
    refine Q_sub [(2,vp (pa b)),(3,vp (pa d)),(5,vi i),(37,.bool (e !=p))] sk ?_
    refine T_qe ?_
    by_cases c25:e=p
    ·rw[if_pos c25]at h
     refine T_cFz 37 (bne_eq_false_iff_eq.mpr c25)<| T_k ?_
     refine S_blockEnd ?_
     refine S_then ?_
     refine T_rz 5<| T_ne 3 [(2,vp (pa b)),(3,vp (pa d)),(5,vi (IntKind.wrap .i64 (i+1)))] ?_
     exact S_round ((IntKind.wrap .i64 (i+1)):Int) sk h
    rw[if_neg c25]at h
    exact T_cTz 37 (bne_iff_ne.mpr c25)<| T_srz 7<| T_nr 1 [4] [.bool false] hQ h
   rw[if_neg c17]at h
   refine T_cFz 24 (decide_eq_false c17) ?_
   refine S_exit 0 (by kernel_rfl) ?_
   refine S_exitThen ?_
   refine S_exitThen ?_
   refine S_exitHere ?_
   refine S_then ?_
   exact T_srz 8<| T_nr 1 [4] [.bool true] hQ h
  rw[if_neg c11]at h
  exact T_cTz 19 (bne_iff_ne.mpr c11)<| T_srz 2<| T_nr 1 [4] [.bool false] hQ h
 rw[if_neg c7]at h
 exact N_bd 11 (congrArg Bool.not (beq_eq_false_iff_ne.mpr c7))<| T_ed 8 [11] [(19,.bool true)]<| T_tz 19<| T_srz 2<| T_nr 1 [4] [.bool false] hQ h
end moraineref02_Same

/-! moraine/moraineref02.May -/
namespace moraineref02_May
def K0:=Func.code Tryz.f50
end moraineref02_May
def moraineref02_May.pt(ah:Bool)(ac:Option Addr)(af ae:Nat)(H:Array Obj)(R:Value->Array Obj->Prop):Prop:=
 ∀(b:Nat) (H1:Array Obj),b=H.size->H1=H.push (.cells #[.bool ah,.slice ac af ae] 48)->
 ∃(ag:Bool) (aa:Option Addr) (ab z:Nat),RowAt H1 (ad b) 0 [.bool ag,.slice aa ab z]/\
 moraineref02_Value.C ag aa ab z H1 (λv H2=> ∃(s:Bool) (y:Option Addr) (t u:Nat),v=.agg #[.bool s,.slice y t u]/\
 moraineref02_Num.C s y t u H2 (λai H3=> ∃(j:Bool) (a:Option Addr) (d e:Nat) (rb:Int),ai=.tuple #[.agg #[.bool j,.slice a d e],.int .i64 rb]/\
 ∀(q:Nat) (H4:Array Obj),q=H3.size->H4=H3.push (.cells #[.bool false,.slice none 0 0] 48)->
 (CanPuts H4 (ad q) 0 2)/\ ∀H5,H5=hputs H4 (ad q) [.bool j,.slice a d e] 0->
 if rb=0 then(
 ∃(p:Bool) (g:Option Addr) (f i:Nat),RowAt H5 (ad q) 0 [.bool p,.slice g f i]/\
 ∃(r:Bool) (m:Option Addr) (o k:Nat),RowAt H5 (ad b) 0 [.bool r,.slice m o k]/\
 moraineref02_Same.C p g f i r m o k H5 (λaj H6=> ∃x:Bool,aj=.bool x/\
 R (.bool x) H6))
 else
 R (.bool false) H5))
namespace moraineref02_May
theorem link{ah:Bool}{ac:Option Addr}{af ae:Nat}{H:Array Obj}{R:Value->Array Obj->Prop}(h:pt ah ac af ae H R):C ah ac af ae H R:=by
 refine T_en K0 18 Tryz.func50 ?_
 intro w0 Q hQ
 unfold pt at h
 refine T_su [(0,.agg #[.bool ah,vs ac af ae])]<| T_srz 0<| T_nw (some 1) (λb=>vp (pa b)) (.cells #[.bool ah,vs ac af ae] 48) ?_
 intro b H1 e1 e2
 replace h:=h b H1 e1 e2
 refine⟨[(1,vp (pa b))],pk,?_⟩
 refine T_ed 1 [] []<| T_srz 1 ?_
 obtain⟨ag,aa,ab,z,q3,h⟩:=h
 refine T_lr 6 48 q3 [] ?_
 refine T_c (some 7) h ?_;clear h
 rintro v H2 ⟨s,y,t,u,rfl,h⟩
 refine T_pd [6] [(7,.agg #[.bool s,vs y t u])] ?_
 refine T_c (some 8) h ?_;clear h
 rintro ai H3 ⟨j,a,d,e,rb,rfl,h⟩
 refine T_pd [7] [(8,.tuple #[.agg #[.bool j,vs a d e],vi rb])]<| T_nd 3 [8] [(9,.agg #[.bool j,vs a d e]),(10,vi rb)]<| T_nw (some 3) (λb=>vp (pa b)) (.cells #[.bool false,vs none 0 0] 48) ?_
 intro q H4 e4 e5
 replace h:=h q H4 e4 e5
 refine T_pd [] [(3,vp (pa q))] ?_
 obtain⟨q7,h⟩:=h
 refine T_sta 48 [.bool j,vs a d e] q7 ?_
 intro H5 e6
 replace h:=h H5 e6
 refine T_pd [9] []<| T_ed 1 [10] [(4,vi rb)]<| T_srz 2<| T_nd 3 [4] [(13,.bool (rb==0))] ?_
 by_cases c8:rb=0
 ·rw[if_pos c8]at h
  refine N_bd 13 (beq_iff_eq.mpr c8) ?_
  obtain⟨p,g,f,i,q10,h⟩:=h
  refine T_lr 14 48 q10 [3] ?_
  obtain⟨r,m,o,k,q11,h⟩:=h
  refine T_lr 15 48 q11 [1] ?_
  refine T_c (some 16) h ?_;clear h
  rintro aj H6 ⟨x,rfl,h⟩
  exact T_pd [14,15] [(16,.bool x)]<| T_nr 2 [2] [.bool x] hQ h
 rw[if_neg c8]at h
 exact N_bd 13 (beq_eq_false_iff_ne.mpr c8)<| T_nr 5 [2] [.bool false] hQ h
end moraineref02_May

/-! moraine/moraineref02.Num -/
namespace moraineref02_Num
def K0:=Func.code Tryz.f79
def K2:=cb K0
def K4:=cb K2
def K12:=cb K4
def K13:=ca K12
def K16:=cb K13
def K17:=ca K16
def K18:=ca K17
def K20:=cb K18
def K25:=ca K20
def K27:=ca K25
def K29:=cb K27
def K35:=cb K29
def K36:=ca K35
end moraineref02_Num
def moraineref02_Num.pt(au:Bool)(z:Option Addr)(aa v:Nat)(H:Array Obj)(R:Value->Array Obj->Prop):Prop:=
 ∀(b:Nat) (H1:Array Obj),b=H.size->H1=H.push (.cells #[.bool au,.slice z aa v] 147)->
 ∀(d:Nat) (H2:Array Obj),d=H1.size->H2=H1.push (.cells #[.bool false,.slice none 0 0] 48)->
 ∃(xB:Option Addr) (xN xC:Nat),hat H2 ((ad b).add 1)=some (.slice xB xN xC)/\
 if(xN:Int)>1536 then(
 (CanPuts H2 (ad d) 0 2)/\ ∀H3,H3=hputs H2 (ad d) [.bool false,.slice none 0 0] 0->
 ∃(a1:Bool) (av:Option Addr) (ax aw:Nat),RowAt H3 (ad d) 0 [.bool a1,.slice av ax aw]/\
 R (.tuple #[.agg #[.bool a1,.slice av ax aw],.int .i64 6]) H3)
 else
 ∃x:Bool,hat H2 (ad b)=some (.bool x)/\
 ∀(e:Nat) (H4:Array Obj),e=H2.size->H4=H2.push (.cells #[.bool false,.slice none 0 0] 48)->
 (CanPuts H4 (ad e) 0 2)/\ ∀H5,H5=hputs H4 (ad e) [.bool x,.slice none 0 0] 0->
 ∃(a0:Int->Array Obj->Prop) (m19:Int->Array Obj->Nat),a0 0 H5/\ ∀(i:Int) (H6:Array Obj),a0 i H6->
 ∃(a3:Option Addr) (ab a2:Nat),hat H6 ((ad b).add 1)=some (.slice a3 ab a2)/\
 if i< (ab:Int)then(
 ∃J:Array Obj->Prop,(
 if(Int.tmod i 32)=0 then(
 ∃(al:Option Addr) (o ak:Nat),hat H6 ((ad e).add 1)=some (.slice al o ak)/\
 ∀(az:Nat) (H9:Array Obj),az=H6.size->H9=H6.push (.cells #[.int .u32 0] 74)->
 appendK 1 74 4 [.int .u32 0] al o ak (some (ad az)) 1 H9 (λap ay a7=>
 (CanPuts a7 ((ad e).add 1) 0 1)/\ ∀a8,a8=hputs a7 ((ad e).add 1) [.slice ap (o+1) ay] 0->
 J a8))
 else
 J H6)/\ ∀(H7:Array Obj),J H7->
 ∃(aq:Option Addr) (af am:Nat),hat H7 ((ad b).add 1)=some (.slice aq af am)/\
 ∃ae:Addr,aq=some ae/\
 ((0:Int)<=i/\i< (af:Int))/\
 ∃ao:Int,hat H7 (ae.add (Int.toNat i*1))=some (.int .u8 ao)/\
 if ao=1 then(
 ∃(a5:Option Addr) (g j:Nat),hat H7 ((ad e).add 1)=some (.slice a5 g j)/\
 ∃(a6:Option Addr) (u ac:Nat),hat H7 ((ad e).add 1)=some (.slice a6 u ac)/\
 ∃m:Addr,a6=some m/\
 ((0:Int)<=(IntKind.wrap .i64 (Int.tdiv i 32))/\(IntKind.wrap .i64 (Int.tdiv i 32))< (u:Int))/\
 ∃p:Int,hat H7 (m.add (Int.toNat (IntKind.wrap .i64 (Int.tdiv i 32))*1))=some (.int .u32 p)/\
 (0<=(Int.tmod i 32))/\
 ∃f:Addr,a5=some f/\
 ((0:Int)<=(IntKind.wrap .i64 (Int.tdiv i 32))/\(IntKind.wrap .i64 (Int.tdiv i 32))< (g:Int))/\
 (CanPuts H7 (f.add (Int.toNat (IntKind.wrap .i64 (Int.tdiv i 32))*1)) 0 1)/\ ∀H8,H8=hputs H7 (f.add (Int.toNat (IntKind.wrap .i64 (Int.tdiv i 32))*1)) [.int .u32 (ior .u32 p (ishl .u32 1 (Int.tmod i 32)))] 0->
 (a0 (IntKind.wrap .i64 (i+1)) H8/\m19 (IntKind.wrap .i64 (i+1)) H8<m19 i H6))
 else
 (a0 (IntKind.wrap .i64 (i+1)) H7/\m19 (IntKind.wrap .i64 (i+1)) H7<m19 i H6))
 else
 ∃(ag:Bool) (q:Option Addr) (s r:Nat),RowAt H6 (ad e) 0 [.bool ag,.slice q s r]/\
 (CanPuts H6 (ad d) 0 2)/\ ∀a4,a4=hputs H6 (ad d) [.bool ag,.slice q s r] 0->
 ∃(an:Bool) (ai:Option Addr) (aj ah:Nat),RowAt a4 (ad d) 0 [.bool an,.slice ai aj ah]/\
 R (.tuple #[.agg #[.bool an,.slice ai aj ah],.int .i64 0]) a4
namespace moraineref02_Num
theorem link{au:Bool}{z:Option Addr}{aa v:Nat}{H:Array Obj}{R:Value->Array Obj->Prop}(h:pt au z aa v H R):C au z aa v H R:=by
 refine T_en K0 51 Tryz.func79 ?_
 intro w0 Q hQ
 unfold pt at h
 refine T_su [(0,.agg #[.bool au,vs z aa v])]<| T_srz 0<| T_nw (some 1) (λb=>vp (pa b)) (.cells #[.bool au,vs z aa v] 147) ?_
 intro b H1 e1 e2
 replace h:=h b H1 e1 e2
 refine⟨[(1,vp (pa b))],pk,?_⟩
 refine T_nw (some 2) (λb=>vp (pa b)) (.cells #[.bool false,vs none 0 0] 48) ?_
 intro d H2 e3 e4
 replace h:=h d H2 e3 e4
 refine T_pd [] [(2,vp (pa d))]<| T_ed 1 [] []<| T_sz<| T_srz 1<| T_nd 1 [] [(6,vp (some ((ad b).add 1)))] ?_
 obtain⟨xB,xN,xC,q5,h⟩:=h
 refine T_l1 7 145 q5 [6]<| T_ed 2 [7] [(9,.bool (decide ((xN:Int)>1536)))] ?_
 by_cases c6:(xN:Int)>1536
 ·rw[if_pos c6]at h
  refine T_cTz 9 (decide_eq_true c6)<| T_srz 2<| T_nd 1 [1,9] [(10,.agg #[.bool false,vs none 0 0])] ?_
  obtain⟨q9,h⟩:=h
  refine T_sta 48 [.bool false,vs none 0 0] q9 ?_
  intro H3 e8
  replace h:=h H3 e8
  refine T_pd [10] []<| T_ed 1 [] [(3,vi 6)] ?_
  refine S_ret (by kernel_rfl) ?_
  show At _ _ _ _ _ (Q .ret)
  obtain⟨a1,av,ax,aw,q10,h⟩:=h
  exact S_done (fn:=Tryz.f79) [.agg #[.bool a1,vs av ax aw],vi 6] hQ (show ResOK _ _ _ [.cell 2 48,.tmp 3] _ from .cell (by kernel_rfl) (loadOK_row (λ_=>by kernel_rfl) (λ_=>by kernel_rfl) q10) (.tmp (by kernel_rfl) (.nil))) h
 rw[if_neg c6]at h
 refine T_cFz 9 (decide_eq_false c6)<| T_kt<| T_srz 3<| T_nd 1 [9] [(11,vp (pa b))] ?_
 obtain⟨x,q11,h⟩:=h
 refine T_l1 12 4 q11 [11]<| T_nd 1 [12] [(13,.agg #[.bool x,vs none 0 0])]<| T_nw (some 4) (λb=>vp (pa b)) (.cells #[.bool false,vs none 0 0] 48) ?_
 intro e H4 e12 e13
 replace h:=h e H4 e12 e13
 refine T_pd [] [(4,vp (pa e))] ?_
 obtain⟨q15,h⟩:=h
 refine T_sta 48 [.bool x,vs none 0 0] q15 ?_
 intro H5 e14
 replace h:=h H5 e14
 refine T_pd [13] []<| T_e<| T_sz<| T_srz 4<| T_ed 1 [] [(5,vi 0)]<| T_bz 0 ?_
 obtain⟨a0,m19,i16,i17⟩:=h
 refine S_loop (x:=K18) (σ:=Int) (λs_=> [(1,vp (pa b)),(2,vp (pa d)),(4,vp (pa e)),(5,vi s_)]) (λs_ H=>a0 s_ H) (λs_ H=>m19 s_ H) (0:Int) (by kernel_rfl) i16 sk ?_
 rintro i H6 i18
 have h:=i17 i H6 i18
 refine T_su [(1,vp (pa b)),(2,vp (pa d)),(4,vp (pa e)),(5,vi i)]<| T_sz<| T_srz 5<| T_nd 2 [] [(14,vi i),(15,vp (some ((ad b).add 1)))] ?_
 obtain⟨a3,ab,a2,q19,h⟩:=h
 refine T_l1 16 145 q19 [15]<| T_ed 2 [14,16] [(18,.bool (decide (i< (ab:Int))))] ?_
 by_cases c20:i< (ab:Int)
 ·rw[if_pos c20]at h
  refine T_cTz 18 (decide_eq_true c20)<| T_kt<| T_sz<| T_bz 1<| T_sz<| T_srz 7<| T_ne 3 [(1,vp (pa b)),(2,vp (pa d)),(4,vp (pa e)),(5,vi i),(23,.bool ((Int.tmod i 32)==0))] ?_
  obtain⟨J,h,j23⟩:=h
  refine S_join (σ:=Unit) (λs_=> [(1,vp (pa b)),(2,vp (pa d)),(4,vp (pa e)),(5,vi i)]) (λs_ H=>J H) ?_ ?_
  ·rintro _ H7 j24
   replace h:=j23 H7 j24
   refine T_su [(1,vp (pa b)),(2,vp (pa d)),(4,vp (pa e)),(5,vi i)] ?_
   refine S_then ?_
   refine T_srz 9<| T_nd 1 [] [(29,vp (some ((ad b).add 1)))] ?_
   obtain⟨aq,af,am,q25,h⟩:=h
   refine T_l1 30 145 q25 [29]<| T_nd 1 [] [(31,vi i)] ?_
   obtain⟨ae,rfl,h⟩:=h
   obtain⟨q26,h⟩:=h
   refine T_xd (some 32) 145 5 1 ae af am .i64 i Tryz.underlying145 q26.1 q26.2 [30,31] [(32,vp (some (ae.add (Int.toNat i*1))))] ?_
   obtain⟨ao,q27,h⟩:=h
   refine T_l1 33 5 q27 [32]<| T_ed 1 [33] [(34,.bool (ao==1))] ?_
   by_cases c28:ao=1
   ·rw[if_pos c28]at h
    refine T_cTz 34 (beq_iff_eq.mpr c28) ?_
    obtain⟨a5,g,j,q30,h⟩:=h
    obtain⟨a6,u,ac,q31,h⟩:=h
    obtain⟨m,rfl,h⟩:=h
    obtain⟨q32,h⟩:=h
    obtain⟨p,q33,h⟩:=h
    obtain⟨q34,h⟩:=h
    obtain⟨f,rfl,h⟩:=h
    obtain⟨q35,h⟩:=h
    refine S_regionG 10 (Code.ops K36) [(15,((ad e).add 1),[vs (some f) g j]),(15,((ad e).add 1),[vs (some m) u ac]),(15,(m.add (Int.toNat (IntKind.wrap .i64 (Int.tdiv i 32))*1)),[.int .u32 p])] 16 (bv 16 0) (by kernel_rfl) (by kernel_rfl) (by kernel_rfl) (by kernel_rfl) (by kernel_rfl) (show FactsAt _ _ _ from⟨⟨q30,trivial⟩,⟨q31,trivial⟩,⟨q33,trivial⟩,trivial⟩) ?_
    refine T_gp 0 (some 35) (vp (some ((ad e).add 1))) (bv 16 1) [(1,vp (pa b)),(2,vp (pa d)),(4,vp (pa e)),(5,vi i),(35,vp (some ((ad e).add 1)))]<| T_g1 1 36 (vs (some f) g j) (bv 16 3) [35] (loadN 46 (vp (some ((ad e).add 1)))) (held_one 15 (λ_=>by kernel_rfl) (List.Mem.head _) (.inl (by kernel_rfl)))<| T_gp1 2 37 (vi i) (bv 16 7) []<| T_gp1 3 38 (vi (IntKind.wrap .i64 (Int.tdiv i 32))) (bv 16 15) [37]<| T_gp1 4 39 (vp (some ((ad e).add 1))) (bv 16 31) []<| T_g1 5 40 (vs (some m) u ac) (bv 16 63) [39] (loadN 46 (vp (some ((ad e).add 1)))) (held_one 15 (λ_=>by kernel_rfl) (List.Mem.tail _ (List.Mem.head _)) (.inl (by kernel_rfl)))<| T_gp1 6 41 (vi i) (bv 16 127) []<| T_gp1 7 42 (vi (IntKind.wrap .i64 (Int.tdiv i 32))) (bv 16 255) [41]<| T_g1 8 43 (vp (some (m.add (Int.toNat (IntKind.wrap .i64 (Int.tdiv i 32))*1)))) (bv 16 511) [40,42] (indexAtN 46 (vs (some m) u ac) (vi (IntKind.wrap .i64 (Int.tdiv i 32)))) (λ_ w _ _ _=>indexAt_run (P:=Tryz.prog) (t:=46) (elem:=74) (sz:=1) (a:=m) (len:=u) (cap:=ac) (k:=.i64) (i:=(IntKind.wrap .i64 (Int.tdiv i 32))) Tryz.underlying46 (λ_=>by kernel_rfl) q32.1 q32.2 w) ?_
    refine T_g1 9 44 (.int .u32 p) (bv 16 1023) [43] (loadN 74 (vp (some (m.add (Int.toNat (IntKind.wrap .i64 (Int.tdiv i 32))*1))))) (held_one 15 (λ_=>by kernel_rfl) (List.Mem.tail _ (List.Mem.tail _ (List.Mem.head _))) (.inl (by kernel_rfl)))<| T_gp1 10 45 (vi i) (bv 16 2047) []<| T_gp1 11 46 (vi (Int.tmod i 32)) (bv 16 4095) [45]<| T_g1 12 47 (.int .u32 (ishl .u32 1 (Int.tmod i 32))) (bv 16 8191) [46] (binN .shl 74 (.int .u32 1) (vi (Int.tmod i 32))) (λ_ w _ _ _=>shl_run (P:=Tryz.prog) (t:=74) (k:=.u32) (k':=.i64) (x:=1) (y:=(Int.tmod i 32)) q34 w)<| T_gp1 13 48 (.int .u32 (ior .u32 p (ishl .u32 1 (Int.tmod i 32)))) (bv 16 16383) [44,47]<| T_g1 14 49 (vp (some (f.add (Int.toNat (IntKind.wrap .i64 (Int.tdiv i 32))*1)))) (bv 16 32767) [36,38] (indexAtN 46 (vs (some f) g j) (vi (IntKind.wrap .i64 (Int.tdiv i 32)))) (λ_ w _ _ _=>indexAt_run (P:=Tryz.prog) (t:=46) (elem:=74) (sz:=1) (a:=f) (len:=g) (cap:=j) (k:=.i64) (i:=(IntKind.wrap .i64 (Int.tdiv i 32))) Tryz.underlying46 (λ_=>by kernel_rfl) q35.1 q35.2 w) ?_
    obtain⟨q37,h⟩:=h
    refine G_onlyskip 15 none (bv 16 65535) (storeN 74 (vp (some (f.add (Int.toNat (IntKind.wrap .i64 (Int.tdiv i 32))*1)))) (.int .u32 (ior .u32 p (ishl .u32 1 (Int.tmod i 32))))) (λHz=>Hz=hputs H7 (f.add (Int.toNat (IntKind.wrap .i64 (Int.tdiv i 32))*1)) [.int .u32 (ior .u32 p (ishl .u32 1 (Int.tmod i 32)))] 0) (by kernel_rfl) (λ_=>by kernel_rfl) (ss_store [.int .u32 (ior .u32 p (ishl .u32 1 (Int.tmod i 32)))] 1 (by kernel_rfl) (by kernel_rfl) (λ_=>by kernel_rfl) (by kernel_rfl) q37) (by kernel_rfl) ?_
    intro H8 e36
    replace h:=h H8 e36
    refine⟨[(1,vp (pa b)),(2,vp (pa d)),(4,vp (pa e)),(5,vi i)],pk,(show FactsAt _ _ _ from⟨trivial,trivial,trivial,trivial⟩),?_⟩
    refine G_sub [(1,vp (pa b)),(2,vp (pa d)),(4,vp (pa e)),(5,vi i)] sk ?_
    refine G_end (by kernel_rfl) ?_
    refine S_blockEnd ?_
    refine S_then ?_
    refine T_rz 6<| T_ne 3 [(1,vp (pa b)),(2,vp (pa d)),(4,vp (pa e)),(5,vi (IntKind.wrap .i64 (i+1)))] ?_
    exact S_round ((IntKind.wrap .i64 (i+1)):Int) sk h
   rw[if_neg c28]at h
   refine T_cFz 34 (beq_eq_false_iff_ne.mpr c28)<| T_k ?_
   refine S_blockEnd ?_
   refine S_then ?_
   refine T_rz 6<| T_ed 3 [5,34] [(5,vi (IntKind.wrap .i64 (i+1)))] ?_
   exact S_round ((IntKind.wrap .i64 (i+1)):Int) sk h
  by_cases c38:(Int.tmod i 32)=0
  ·rw[if_pos c38]at h
   have b39:((Int.tmod i 32)==0)=true:=beq_iff_eq.mpr c38
   refine S_env [(1,vp (pa b)),(2,vp (pa d)),(4,vp (pa e)),(5,vi i),(23,.bool true)] (by simp only[b39,Bool.not_true,Bool.not_false]) ?_
   clear b39
   refine T_tz 23<| T_rz 8<| T_nd 1 [23] [(24,vp (some ((ad e).add 1)))] ?_
   obtain⟨al,o,ak,q40,h⟩:=h
   refine T_l1 25 46 q40 [24]<| T_nw (some 26) (λb=>vs (pa b) 1 1) (.cells #[.int .u32 0] 74) ?_
   intro az H9 e41 e42
   replace h:=h az H9 e41 e42
   refine T_pd [] [(26,vs (pa az) 1 1)] ?_
   refine N_op (some 27) (appendN #[46,46] 46 #[vs al o ak,vs (pa az) 1 1]) _ (λ_=>by kernel_rfl) (ss_append (T:=74) (sz:=1) (bytes:=4) (zero:=(.int .u32 0:Value)) Tryz.underlying46 Tryz.underlying46 rfl (show Tryz.prog.info? 74=some Tryz.t74 from by kernel_rfl) (by kernel_rfl) (by kernel_rfl) (by decide) (by kernel_rfl) (by first | exact h | (simpa only[Value.cells,List.toList_toArray]using h))) ?_;clear h
   rintro _ a7 ⟨ap,ay,rfl,h⟩
   refine T_pd [25,26] [(27,vs ap (o+1) ay)]<| T_nd 1 [] [(28,vp (some ((ad e).add 1)))] ?_
   obtain⟨q44,h⟩:=h
   refine T_st1 46 (vs ap (o+1) ay) q44 ?_
   intro a8 e43
   replace h:=h a8 e43
   refine T_pd [27,28] []<| T_e ?_
   exact S_meet (():Unit) sk h
  rw[if_neg c38]at h
  have b39:((Int.tmod i 32)==0)=false:=beq_eq_false_iff_ne.mpr c38
  refine S_env [(1,vp (pa b)),(2,vp (pa d)),(4,vp (pa e)),(5,vi i),(23,.bool false)] (by simp only[b39,Bool.not_true,Bool.not_false]) ?_
  clear b39
  refine T_fz 23<| T_kt ?_
  exact S_meet (():Unit) sk h
 rw[if_neg c20]at h
 refine T_cFz 18 (decide_eq_false c20) ?_
 refine S_exit 0 (by kernel_rfl) ?_
 refine S_exitThen ?_
 refine S_exitThen ?_
 refine S_exitHere ?_
 refine S_then ?_
 refine T_srz 11<| T_ud [1,5,18] [] ?_
 obtain⟨ag,q,s,r,q45,h⟩:=h
 refine T_lr 50 48 q45 [4] ?_
 obtain⟨q47,h⟩:=h
 refine T_sta 48 [.bool ag,vs q s r] q47 ?_
 intro a4 e46
 replace h:=h a4 e46
 refine T_pd [50] []<| T_ed 1 [] [(3,vi 0)] ?_
 refine S_ret (by kernel_rfl) ?_
 show At _ _ _ _ _ (Q .ret)
 obtain⟨an,ai,aj,ah,q48,h⟩:=h
 exact S_done (fn:=Tryz.f79) [.agg #[.bool an,vs ai aj ah],vi 0] hQ (show ResOK _ _ _ [.cell 2 48,.tmp 3] _ from .cell (by kernel_rfl) (loadOK_row (λ_=>by kernel_rfl) (λ_=>by kernel_rfl) q48) (.tmp (by kernel_rfl) (.nil))) h
end moraineref02_Num

/-! moraine/moraineref02.Value -/
namespace moraineref02_Value
def K0:=Func.code Tryz.f80
def K2:=cb K0
def K4:=cb K2
def K5:=ca K4
def K8:=cb K5
def K9:=ca K8
def K10:=ca K9
def K12:=cb K10
def K17:=ca K12
def K19:=ca K17
def K21:=cb K19
def K22:=ca K21
def K23:=ca K22
end moraineref02_Value
def moraineref02_Value.pt(ae:Bool)(p:Option Addr)(r q:Nat)(H:Array Obj)(R:Value->Array Obj->Prop):Prop:=
 ∀(b:Nat) (H1:Array Obj),b=H.size->H1=H.push (.cells #[.bool ae,.slice p r q] 48)->
 ∀(d:Nat) (H2:Array Obj),d=H1.size->H2=H1.push (.cells #[.bool false,.slice none 0 0] 147)->
 ∃(aj:(Option Addr)->Nat->Nat->Int->Array Obj->Prop) (m11:(Option Addr)->Nat->Nat->Int->Array Obj->Nat),aj none 0 0 0 H2/\ ∀(bB:Option Addr) (bN:Nat) (bC:Nat) (i:Int) (H3:Array Obj),aj bB bN bC i H3->
 ∃(xB:Option Addr) (xN xC:Nat),hat H3 ((ad b).add 1)=some (.slice xB xN xC)/\
 if i< (xN:Int)then(
 ∃(ak:(Option Addr)->Nat->Nat->Int->Array Obj->Prop) (m24:(Option Addr)->Nat->Nat->Int->Array Obj->Nat),ak bB bN bC 0 H3/\ ∀(e:Option Addr) (bN_2:Nat) (bC_2:Nat) (k:Int) (H4:Array Obj),ak e bN_2 bC_2 k H4->
 if k<32 then(
 ∃(ac:Option Addr) (m s:Nat),hat H4 ((ad b).add 1)=some (.slice ac m s)/\
 ∃o:Addr,ac=some o/\
 ((0:Int)<=i/\i< (m:Int))/\
 ∃x:Int,hat H4 (o.add (Int.toNat i*1))=some (.int .u32 x)/\
 (0<=k)/\
 ∀(ah:Nat) (H5:Array Obj),ah=H4.size->H5=H4.push (.cells #[.int .u8 (IntKind.wrap .u8 (iand .u32 (ishr .u32 x k) 1))] 5)->
 appendK 1 5 1 [.int .u8 0] e bN_2 bC_2 (some (ad ah)) 1 H5 (λap af H6=>
 (ak ap (bN_2+1) af (IntKind.wrap .i64 (k+1)) H6/\m24 ap (bN_2+1) af (IntKind.wrap .i64 (k+1)) H6<m24 e bN_2 bC_2 k H4)))
 else
 (aj e bN_2 bC_2 (IntKind.wrap .i64 (i+1)) H4/\m11 e bN_2 bC_2 (IntKind.wrap .i64 (i+1)) H4<m11 bB bN bC i H3))
 else
 ∃ag:Bool,hat H3 (ad b)=some (.bool ag)/\
 moraineref02_value.C ag bB bN bC H3 (λv H7=> ∃(u:Bool) (j:Option Addr) (f g:Nat),v=.agg #[.bool u,.slice j f g]/\
 (CanPuts H7 (ad d) 0 2)/\ ∀H8,H8=hputs H7 (ad d) [.bool u,.slice j f g] 0->
 ∃(ai:Bool) (aa:Option Addr) (z ab:Nat),RowAt H8 (ad d) 0 [.bool ai,.slice aa z ab]/\
 R (.agg #[.bool ai,.slice aa z ab]) H8)
namespace moraineref02_Value
theorem link{ae:Bool}{p:Option Addr}{r q:Nat}{H:Array Obj}{R:Value->Array Obj->Prop}(h:pt ae p r q H R):C ae p r q H R:=by
 refine T_en K0 33 Tryz.func80 ?_
 intro w0 Q hQ
 unfold pt at h
 refine T_su [(0,.agg #[.bool ae,vs p r q])]<| T_srz 0<| T_nw (some 1) (λb=>vp (pa b)) (.cells #[.bool ae,vs p r q] 48) ?_
 intro b H1 e1 e2
 replace h:=h b H1 e1 e2
 refine⟨[(1,vp (pa b))],pk,?_⟩
 refine T_nw (some 2) (λb=>vp (pa b)) (.cells #[.bool false,vs none 0 0] 147) ?_
 intro d H2 e3 e4
 replace h:=h d H2 e3 e4
 refine T_pd [] [(2,vp (pa d))]<| T_e<| T_srz 1<| T_ed 1 [] [(3,vs none 0 0)]<| T_sz<| T_srz 2<| T_ed 1 [] [(4,vi 0)]<| T_bz 0 ?_
 obtain⟨aj,m11,i5,i6⟩:=h
 refine S_loop (x:=K10) (σ:=(Option Addr)×Nat×Nat×Int) (λs_=> [(1,vp (pa b)),(2,vp (pa d)),(3,vs s_.1 s_.2.1 s_.2.2.1),(4,vi s_.2.2.2)]) (λs_ H=>aj s_.1 s_.2.1 s_.2.2.1 s_.2.2.2 H) (λs_ H=>m11 s_.1 s_.2.1 s_.2.2.1 s_.2.2.2 H) ((none,0,0,0):(Option Addr)×Nat×Nat×Int) (by kernel_rfl) i5 sk ?_
 rintro⟨bB,bN,bC,i⟩ H3 i7
 have h:=i6 bB bN bC i H3 i7
 refine T_su [(1,vp (pa b)),(2,vp (pa d)),(3,vs bB bN bC),(4,vi i)]<| T_sz<| T_srz 3<| T_nd 2 [] [(6,vi i),(7,vp (some ((ad b).add 1)))] ?_
 obtain⟨xB,xN,xC,q8,h⟩:=h
 refine T_l1 8 46 q8 [7]<| T_ed 2 [6,8] [(10,.bool (decide (i< (xN:Int))))] ?_
 by_cases c9:i< (xN:Int)
 ·rw[if_pos c9]at h
  refine T_cTz 10 (decide_eq_true c9)<| T_kt<| T_sz<| T_bz 1<| T_srz 5<| T_ed 1 [10] [(5,vi 0)]<| T_bz 2 ?_
  obtain⟨ak,m24,i11,i12⟩:=h
  refine S_loop (x:=K23) (σ:=(Option Addr)×Nat×Nat×Int) (λs_=> [(1,vp (pa b)),(2,vp (pa d)),(3,vs s_.1 s_.2.1 s_.2.2.1),(4,vi i),(5,vi s_.2.2.2)]) (λs_ H=>ak s_.1 s_.2.1 s_.2.2.1 s_.2.2.2 H) (λs_ H=>m24 s_.1 s_.2.1 s_.2.2.1 s_.2.2.2 H) ((bB,bN,bC,0):(Option Addr)×Nat×Nat×Int) (by kernel_rfl) i11 sk ?_
  rintro⟨e,bN_2,bC_2,k⟩ H4 i13
  have h:=i12 e bN_2 bC_2 k H4 i13
  refine T_su [(1,vp (pa b)),(2,vp (pa d)),(3,vs e bN_2 bC_2),(4,vi i),(5,vi k)]<| T_sz<| T_srz 6<| T_ed 2 [] [(14,.bool (decide (k<32)))] ?_
  by_cases c14:k<32
  ·rw[if_pos c14]at h
   refine T_cTz 14 (decide_eq_true c14)<| T_kt<| T_sz<| T_bz 3<| T_rz 8<| T_nd 2 [3,14] [(17,vs e bN_2 bC_2),(18,vp (some ((ad b).add 1)))] ?_
   obtain⟨ac,m,s,q16,h⟩:=h
   refine T_l1 19 46 q16 [18]<| T_nd 1 [] [(20,vi i)] ?_
   obtain⟨o,rfl,h⟩:=h
   obtain⟨q17,h⟩:=h
   refine T_xd (some 21) 46 74 1 o m s .i64 i Tryz.underlying46 q17.1 q17.2 [19,20] [(21,vp (some (o.add (Int.toNat i*1))))] ?_
   obtain⟨x,q18,h⟩:=h
   refine T_l1 22 74 q18 [21]<| T_nd 1 [] [(23,vi k)] ?_
   obtain⟨q19,h⟩:=h
   refine T_v1 24 (binN .shr 74 (.int .u32 x) (vi k)) (.int .u32 (ishr .u32 x k)) (λw _=>shr_run (P:=Tryz.prog) (t:=74) (k:=.u32) (k':=.i64) (x:=x) (y:=k) q19 w) [22,23]<| T_nd 2 [24] [(26,.int .u8 (IntKind.wrap .u8 (iand .u32 (ishr .u32 x k) 1)))]<| T_nw (some 27) (λb=>vs (pa b) 1 1) (.cells #[.int .u8 (IntKind.wrap .u8 (iand .u32 (ishr .u32 x k) 1))] 5) ?_
   intro ah H5 e20 e21
   replace h:=h ah H5 e20 e21
   refine T_pd [26] [(27,vs (pa ah) 1 1)] ?_
   refine N_op (some 28) (appendN #[145,145] 145 #[vs e bN_2 bC_2,vs (pa ah) 1 1]) _ (λ_=>by kernel_rfl) (ss_append (T:=5) (sz:=1) (bytes:=1) (zero:=(.int .u8 0:Value)) Tryz.underlying145 Tryz.underlying145 rfl (show Tryz.prog.info? 5=some Tryz.t5 from by kernel_rfl) (by kernel_rfl) (by kernel_rfl) (by decide) (by kernel_rfl) (by first | exact h | (simpa only[Value.cells,List.toList_toArray]using h))) ?_;clear h
   rintro _ H6 ⟨ap,af,rfl,h⟩
   refine T_pd [17,27] [(28,vs ap (bN_2+1) af)]<| T_nd 1 [28] [(3,vs ap (bN_2+1) af)] ?_
   refine N_end (by kernel_rfl) ?_
   refine S_blockEnd ?_
   refine S_then ?_
   refine T_rz 7<| T_ed 3 [5] [(5,vi (IntKind.wrap .i64 (k+1)))] ?_
   exact S_round ((ap,(bN_2+1),af,(IntKind.wrap .i64 (k+1))):(Option Addr)×Nat×Nat×Int) sk h
  rw[if_neg c14]at h
  refine T_cFz 14 (decide_eq_false c14) ?_
  refine S_exit 2 (by kernel_rfl) ?_
  refine S_exitThen ?_
  refine S_exitThen ?_
  refine S_exitHere ?_
  refine S_blockEnd ?_
  refine S_then ?_
  refine T_rz 4<| T_ed 3 [4,5,14] [(4,vi (IntKind.wrap .i64 (i+1)))] ?_
  exact S_round ((e,bN_2,bC_2,(IntKind.wrap .i64 (i+1))):(Option Addr)×Nat×Nat×Int) sk h
 rw[if_neg c9]at h
 refine T_cFz 10 (decide_eq_false c9) ?_
 refine S_exit 0 (by kernel_rfl) ?_
 refine S_exitThen ?_
 refine S_exitThen ?_
 refine S_exitHere ?_
 refine S_then ?_
 refine T_srz 9<| T_nd 1 [1,4,10] [(29,vp (pa b))] ?_
 obtain⟨ag,q22,h⟩:=h
 refine T_l1 30 4 q22 [29]<| T_nd 1 [3] [(31,vs bB bN bC)] ?_
 refine T_c (some 32) h ?_;clear h
 rintro v H7 ⟨u,j,f,g,rfl,h⟩
 refine T_pd [30,31] [(32,.agg #[.bool u,vs j f g])] ?_
 obtain⟨q24,h⟩:=h
 refine T_sta 147 [.bool u,vs j f g] q24 ?_
 intro H8 e23
 replace h:=h H8 e23
 refine T_pd [32] []<| T_e ?_
 refine S_ret (by kernel_rfl) ?_
 show At _ _ _ _ _ (Q .ret)
 obtain⟨ai,aa,z,ab,q25,h⟩:=h
 exact S_done (fn:=Tryz.f80) [.agg #[.bool ai,vs aa z ab]] hQ (show ResOK _ _ _ [.cell 2 147] _ from .cell (by kernel_rfl) (loadOK_row (λ_=>by kernel_rfl) (λ_=>by kernel_rfl) q25) (.nil)) h
end moraineref02_Value

/-! moraine/moraineref02.value -/
namespace moraineref02_value
def K0:=Func.code Tryz.f107
end moraineref02_value
def moraineref02_value.pt(a:Bool)(bB:Option Addr)(bN bC:Nat)(H:Array Obj)(R:Value->Array Obj->Prop):Prop:=
 ∀(b:Nat) (H1:Array Obj),b=H.size->H1=H.push (.cells #[.bool false,.slice none 0 0] 147)->
 moraineref02_cut.C bB bN bC H1 (λv H2=> ∃(xB:Option Addr) (xN xC:Nat),v=.slice xB xN xC/\
 if a=true then(
 (CanPuts H2 (ad b) 0 2)/\ ∀H3,H3=hputs H2 (ad b) [.bool (decide ((xN:Int)>0)),.slice xB xN xC] 0->
 ∃(m:Bool) (g:Option Addr) (i j:Nat),RowAt H3 (ad b) 0 [.bool m,.slice g i j]/\
 R (.agg #[.bool m,.slice g i j]) H3)
 else
 (CanPuts H2 (ad b) 0 2)/\ ∀H4,H4=hputs H2 (ad b) [.bool false,.slice xB xN xC] 0->
 ∃(k:Bool) (e:Option Addr) (f d:Nat),RowAt H4 (ad b) 0 [.bool k,.slice e f d]/\
 R (.agg #[.bool k,.slice e f d]) H4)
namespace moraineref02_value
theorem link{a:Bool}{bB:Option Addr}{bN bC:Nat}{H:Array Obj}{R:Value->Array Obj->Prop}(h:pt a bB bN bC H R):C a bB bN bC H R:=by
 refine T_en K0 15 Tryz.func107 ?_
 intro w0 Q hQ
 unfold pt at h
 refine T_su [(0,.bool a),(1,vs bB bN bC)]<| T_srz 0<| T_nw (some 4) (λb=>vp (pa b)) (.cells #[.bool false,vs none 0 0] 147) ?_
 intro b H1 e1 e2
 replace h:=h b H1 e1 e2
 refine T_pd [] [(4,vp (pa b))]<| T_e<| T_srz 1<| T_nd 1 [1] [(5,vs bB bN bC)] ?_
 refine T_c (some 6) h ?_;clear h
 rintro v H2 ⟨xB,xN,xC,rfl,h⟩
 refine T_pd [5] [(6,vs xB xN xC)]<| T_ed 1 [6] [(1,vs xB xN xC)]<| T_srz 2<| T_nd 2 [0] [(8,.bool a)] ?_
 by_cases c3:a=true
 ·rw[if_pos c3]at h
  refine N_bd 8 c3<| T_nd 6 [1,8] [(14,.agg #[.bool (decide ((xN:Int)>0)),vs xB xN xC])] ?_
  obtain⟨q6,h⟩:=h
  refine T_sta 147 [.bool (decide ((xN:Int)>0)),vs xB xN xC] q6 ?_
  intro H3 e5
  replace h:=h H3 e5
  refine T_pd [14] []<| T_e ?_
  refine S_ret (by kernel_rfl) ?_
  show At _ _ _ _ _ (Q .ret)
  obtain⟨m,g,i,j,q7,h⟩:=h
  exact S_done (fn:=Tryz.f107) [.agg #[.bool m,vs g i j]] hQ (show ResOK _ _ _ [.cell 4 147] _ from .cell (by kernel_rfl) (loadOK_row (λ_=>by kernel_rfl) (λ_=>by kernel_rfl) q7) (.nil)) h
 rw[if_neg c3]at h
 refine N_bd 8 (eq_false_of_ne_true c3)<| T_nd 6 [1,8] [(14,.agg #[.bool false,vs xB xN xC])] ?_
 obtain⟨q9,h⟩:=h
 refine T_sta 147 [.bool false,vs xB xN xC] q9 ?_
 intro H4 e8
 replace h:=h H4 e8
 refine T_pd [14] []<| T_e ?_
 refine S_ret (by kernel_rfl) ?_
 show At _ _ _ _ _ (Q .ret)
 obtain⟨k,e,f,d,q10,h⟩:=h
 exact S_done (fn:=Tryz.f107) [.agg #[.bool k,vs e f d]] hQ (show ResOK _ _ _ [.cell 4 147] _ from .cell (by kernel_rfl) (loadOK_row (λ_=>by kernel_rfl) (λ_=>by kernel_rfl) q10) (.nil)) h
end moraineref02_value

/-! moraine/moraineref02.cut -/
namespace moraineref02_cut
def K0:=Func.code Tryz.f116
def K2:=cb K0
def K4:=cb K2
def K5:=ca K4
def K7:=ca K5
def K8:=ca K7
end moraineref02_cut
def moraineref02_cut.pt(bB:Option Addr)(bN bC:Nat)(H:Array Obj)(R:Value->Array Obj->Prop):Prop:=
 ∃(I9:Int->Array Obj->Prop) (m9:Int->Array Obj->Nat),I9 (bN:Int) H/\ ∀(nv:Int) (H1:Array Obj),I9 nv H1->
 if nv>0 then(
 ∃d:Addr,bB=some d/\
 ((0:Int)<=(IntKind.wrap .i64 (nv-1))/\(IntKind.wrap .i64 (nv-1))< (bN:Int))/\
 ∃x:Int,hat H1 (d.add (Int.toNat (IntKind.wrap .i64 (nv-1))*1))=some (.int .u8 x)/\
 if x=0 then(
 (I9 (IntKind.wrap .i64 (nv-1)) H1/\m9 (IntKind.wrap .i64 (nv-1)) H1<m9 nv H1))
 else
 ∃(lo hi:Nat),lo=0/\nv=(hi:Int)/\lo<=hi/\hi<=bC/\
 ∀sl:Option Addr,sl=(if bC=lo then(some d)else Option.map (λa:Addr=>a.add (lo*1)) (some d))->
 R (.slice sl (hi-lo) (bC-lo)) H1)
 else
 ∃(b e:Nat),b=0/\nv=(e:Int)/\b<=e/\e<=bC/\
 ∀f:Option Addr,f=(if bC=b then bB else Option.map (λa:Addr=>a.add (b*1)) bB)->
 R (.slice f (e-b) (bC-b)) H1
namespace moraineref02_cut
theorem link{bB:Option Addr}{bN bC:Nat}{H:Array Obj}{R:Value->Array Obj->Prop}(h:pt bB bN bC H R):C bB bN bC H R:=by
 refine T_en K0 21 Tryz.func116 ?_
 intro w0 Q hQ
 unfold pt at h
 refine T_su [(0,vs bB bN bC)]<| T_srz 0<| T_ed 1 [] []<| T_srz 1<| T_ed 3 [] [(3,vi bN)]<| T_sz<| T_bz 0 ?_
 obtain⟨I9,m9,i1,i2⟩:=h
 refine S_loop (x:=K8) (σ:=Int) (λs_=> [(0,vs bB bN bC),(3,vi s_)]) (λs_ H=>I9 s_ H) (λs_ H=>m9 s_ H) ((bN:Int):Int) (by kernel_rfl) i1 sk ?_
 rintro nv H1 i3
 have h:=i2 nv H1 i3
 refine T_su [(0,vs bB bN bC),(3,vi nv)]<| T_sz<| T_srz 2<| T_nd 3 [] [(8,.bool (decide (nv>0)))] ?_
 by_cases c4:nv>0
 ·rw[if_pos c4]at h
  refine N_bd 8 (decide_eq_true c4)<| T_nd 3 [] [(9,vs bB bN bC),(11,vi (IntKind.wrap .i64 (nv-1)))] ?_
  obtain⟨d,rfl,h⟩:=h
  obtain⟨q6,h⟩:=h
  refine T_xd (some 12) 145 5 1 d bN bC .i64 (IntKind.wrap .i64 (nv-1)) Tryz.underlying145 q6.1 q6.2 [0,9,11] [(0,vs (some d) bN bC),(12,vp (some (d.add (Int.toNat (IntKind.wrap .i64 (nv-1))*1))))] ?_
  obtain⟨x,q7,h⟩:=h
  refine T_l1 13 5 q7 [12]<| T_ed 2 [8,13] [(15,.bool (x==0))] ?_
  by_cases c8:x=0
  ·rw[if_pos c8]at h
   refine T_cTz 15 (beq_iff_eq.mpr c8)<| T_kt<| T_bz 1<| T_rz 3<| T_nd 3 [3,15] [(3,vi (IntKind.wrap .i64 (nv-1)))] ?_
   refine N_end (by kernel_rfl) ?_
   refine S_blockEnd ?_
   refine S_then ?_
   exact S_round ((IntKind.wrap .i64 (nv-1)):Int) sk h
  rw[if_neg c8]at h
  refine T_cFz 15 (beq_eq_false_iff_ne.mpr c8) ?_
  refine S_exit 0 (by kernel_rfl) ?_
  refine S_exitThen ?_
  refine S_exitThen ?_
  refine S_exitHere ?_
  refine S_then ?_
  refine T_srz 4<| T_n 2 [(18,vs (some d) bN bC),(19,vi nv)] ?_
  obtain⟨lo,hi,q10,q11,q12,q13,h⟩:=h
  obtain⟨sl,e14⟩: ∃B,B=(if bC=lo then(some d)else Option.map (λa:Addr=>a.add (lo*1)) (some d)):=⟨_,rfl⟩
  replace h:=h sl e14
  refine T_v1 20 (sliceN 145 (vs (some d) bN bC) none (some (vi nv)) none) (vs sl (hi-lo) (bC-lo)) (λw _=>(slice_run (P:=Tryz.prog) (t:=145) (elem:=5) (sz:=1) (a:=(some d)) (len:=bN) (cap:=bC) none (some (vi nv)) lo hi Tryz.underlying145 (λ_=>by kernel_rfl) (.inl ⟨rfl,q10⟩) (.inr ⟨.i64,by rw[q11]⟩) q12 q13 w).trans (by rw[e14];try rfl)) [18,19] ?_
  exact T_nr 1 [2] [vs sl (hi-lo) (bC-lo)] hQ h
 rw[if_neg c4]at h
 refine N_bd 8 (decide_eq_false c4)<| T_ed 7 [8] [(15,.bool false)]<| T_fz 15 ?_
 refine S_exit 0 (by kernel_rfl) ?_
 refine S_exitThen ?_
 refine S_exitThen ?_
 refine S_exitHere ?_
 refine S_then ?_
 refine T_srz 4<| T_n 2 [(18,vs bB bN bC),(19,vi nv)] ?_
 obtain⟨b,e,q15,q16,q17,q18,h⟩:=h
 obtain⟨f,e19⟩: ∃B,B=(if bC=b then bB else Option.map (λa:Addr=>a.add (b*1)) bB):=⟨_,rfl⟩
 replace h:=h f e19
 refine T_v1 20 (sliceN 145 (vs bB bN bC) none (some (vi nv)) none) (vs f (e-b) (bC-b)) (λw _=>(slice_run (P:=Tryz.prog) (t:=145) (elem:=5) (sz:=1) (a:=bB) (len:=bN) (cap:=bC) none (some (vi nv)) b e Tryz.underlying145 (λ_=>by kernel_rfl) (.inl ⟨rfl,q15⟩) (.inr ⟨.i64,by rw[q16]⟩) q17 q18 w).trans (by rw[e19];try rfl)) [18,19] ?_
 exact T_nr 1 [2] [vs f (e-b) (bC-b)] hQ h
end moraineref02_cut

end Go.Proofs.YtibpklpgmgakcaaGreatDoor
