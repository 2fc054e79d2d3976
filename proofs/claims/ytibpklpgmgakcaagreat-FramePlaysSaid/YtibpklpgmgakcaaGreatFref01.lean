/- Printed: what each function asks, and that it is sound. -/
import Derived.Test.YtibpklpgmgakcaaGreatFnsC
set_option linter.unusedSimpArgs false
set_option linter.unusedVariables false
set_option maxRecDepth 100000
set_option maxHeartbeats 1000000
noncomputable section
namespace Go.Proofs.YtibpklpgmgakcaaGreat
open Go
/-! moraine/moraineref01.Of -/
namespace moraineref01_Of
def K0:=Func.code Tryz.f112
end moraineref01_Of
def moraineref01_Of.pt(wv:Int)(H:Array Obj)(R:Value->Array Obj->Prop):Prop:=
 ∀(b:Nat) (H1:Array Obj),b=H.size->H1=H.push (.cells #[.int .i64 0,.int .i64 0,.int .i64 0,.int .i64 0,.int .u64 0] 155)->
 if(IntKind.wrap .i64 (Int.tmod wv 8))=0 then(
 moraineref01_power.C 60 H1 (λv H2=> ∃x:Int,v=.int .u64 x/\
 if(IntKind.wrap .u64 (Int.tdiv wv 8))>=x then(
 moraineref01_power.C 61 H2 (λbe H3=> ∃ak:Int,be=.int .u64 ak/\
 (CanPuts H3 (ad b) 0 5)/\ ∀H4,H4=hputs H3 (ad b) [.int .i64 1,.int .i64 0,.int .i64 0,.int .i64 (IntKind.wrap .i64 (0-(IntKind.wrap .i64 (IntKind.wrap .u64 (ak-(IntKind.wrap .u64 (Int.tdiv wv 8))))))),.int .u64 0] 0->
 ∃al a1 rA rX an:Int,RowAt H4 (ad b) 0 [.int .i64 al,.int .i64 a1,.int .i64 rA,.int .i64 rX,.int .u64 an]/\
 R (.agg #[.int .i64 al,.int .i64 a1,.int .i64 rA,.int .i64 rX,.int .u64 an]) H4))
 else
 (CanPuts H2 (ad b) 0 5)/\ ∀H5,H5=hputs H2 (ad b) [.int .i64 1,.int .i64 0,.int .i64 0,.int .i64 (IntKind.wrap .i64 (IntKind.wrap .u64 (Int.tdiv wv 8))),.int .u64 0] 0->
 ∃j ai ay a5 s:Int,RowAt H5 (ad b) 0 [.int .i64 j,.int .i64 ai,.int .i64 ay,.int .i64 a5,.int .u64 s]/\
 R (.agg #[.int .i64 j,.int .i64 ai,.int .i64 ay,.int .i64 a5,.int .u64 s]) H5))
 else
 ∃J:Bool->Array Obj->Prop,(
 if(IntKind.wrap .i64 (Int.tmod wv 8))=1 then(
 J true H1)
 else
 if(IntKind.wrap .i64 (Int.tmod wv 8))=2 then(
 J true H1)
 else
 if(IntKind.wrap .i64 (Int.tmod wv 8))=3 then(
 J true H1)
 else
 J ((IntKind.wrap .i64 (Int.tmod wv 8))==6) H1)/\ ∀(aj:Bool) (H6:Array Obj),J aj H6->
 if aj=true then(
 if(IntKind.wrap .u64 (Int.tdiv wv 8))<65536 then(
 (CanPuts H6 (ad b) 0 5)/\ ∀H7,H7=hputs H6 (ad b) [.int .i64 2,.int .i64 (IntKind.wrap .i64 (Int.tmod wv 8)),.int .i64 (IntKind.wrap .i64 (IntKind.wrap .u64 (Int.tdiv wv 8))),.int .i64 0,.int .u64 0] 0->
 ∃q ab au a7 f:Int,RowAt H7 (ad b) 0 [.int .i64 q,.int .i64 ab,.int .i64 au,.int .i64 a7,.int .u64 f]/\
 R (.agg #[.int .i64 q,.int .i64 ab,.int .i64 au,.int .i64 a7,.int .u64 f]) H7)
 else
 (CanPuts H6 (ad b) 0 5)/\ ∀H8,H8=hputs H6 (ad b) [.int .i64 0,.int .i64 0,.int .i64 0,.int .i64 0,.int .u64 0] 0->
 ∃y ah a3 az i:Int,RowAt H8 (ad b) 0 [.int .i64 y,.int .i64 ah,.int .i64 a3,.int .i64 az,.int .u64 i]/\
 R (.agg #[.int .i64 y,.int .i64 ah,.int .i64 a3,.int .i64 az,.int .u64 i]) H8)
 else
 if(IntKind.wrap .i64 (Int.tmod wv 8))=4 then(
 if((decide ((IntKind.wrap .i64 (Int.tmod (IntKind.wrap .u64 (Int.tdiv wv 8)) 32))<7)) && ((IntKind.wrap .u64 (Int.tdiv (IntKind.wrap .u64 (Int.tdiv wv 8)) 32))==0))=true then(
 (CanPuts H6 (ad b) 0 5)/\ ∀H9,H9=hputs H6 (ad b) [.int .i64 3,.int .i64 0,.int .i64 (IntKind.wrap .i64 (Int.tmod (IntKind.wrap .u64 (Int.tdiv wv 8)) 32)),.int .i64 0,.int .u64 0] 0->
 ∃u aa av a4 m:Int,RowAt H9 (ad b) 0 [.int .i64 u,.int .i64 aa,.int .i64 av,.int .i64 a4,.int .u64 m]/\
 R (.agg #[.int .i64 u,.int .i64 aa,.int .i64 av,.int .i64 a4,.int .u64 m]) H9)
 else
 if((((IntKind.wrap .i64 (Int.tmod (IntKind.wrap .u64 (Int.tdiv wv 8)) 32))==7) && (decide ((IntKind.wrap .u64 (Int.tdiv (IntKind.wrap .u64 (Int.tdiv wv 8)) 32))<=1114111))) && ((decide ((IntKind.wrap .u64 (Int.tdiv (IntKind.wrap .u64 (Int.tdiv wv 8)) 32))<55296)) || (decide ((IntKind.wrap .u64 (Int.tdiv (IntKind.wrap .u64 (Int.tdiv wv 8)) 32))>57343))))=true then(
 (CanPuts H6 (ad b) 0 5)/\ ∀ba,ba=hputs H6 (ad b) [.int .i64 4,.int .i64 0,.int .i64 (IntKind.wrap .i64 (IntKind.wrap .u64 (Int.tdiv (IntKind.wrap .u64 (Int.tdiv wv 8)) 32))),.int .i64 0,.int .u64 0] 0->
 ∃o ag a6 ax z:Int,RowAt ba (ad b) 0 [.int .i64 o,.int .i64 ag,.int .i64 a6,.int .i64 ax,.int .u64 z]/\
 R (.agg #[.int .i64 o,.int .i64 ag,.int .i64 a6,.int .i64 ax,.int .u64 z]) ba)
 else
 (CanPuts H6 (ad b) 0 5)/\ ∀a9,a9=hputs H6 (ad b) [.int .i64 0,.int .i64 0,.int .i64 0,.int .i64 0,.int .u64 0] 0->
 ∃p ac aw a2 l:Int,RowAt a9 (ad b) 0 [.int .i64 p,.int .i64 ac,.int .i64 aw,.int .i64 a2,.int .u64 l]/\
 R (.agg #[.int .i64 p,.int .i64 ac,.int .i64 aw,.int .i64 a2,.int .u64 l]) a9)
 else
 if(IntKind.wrap .i64 (Int.tmod wv 8))=5 then(
 if(((decide ((IntKind.wrap .i64 (Int.tmod (IntKind.wrap .u64 (Int.tdiv wv 8)) 32))>=1)) && (decide ((IntKind.wrap .i64 (Int.tmod (IntKind.wrap .u64 (Int.tdiv wv 8)) 32))<=13))) && (decide ((IntKind.wrap .i64 (Int.tmod (IntKind.wrap .u64 (Int.tdiv (IntKind.wrap .u64 (Int.tdiv wv 8)) 32)) 256))<=62)))=true then(
 (CanPuts H6 (ad b) 0 5)/\ ∀bd,bd=hputs H6 (ad b) [.int .i64 5,.int .i64 (IntKind.wrap .i64 (Int.tmod (IntKind.wrap .u64 (Int.tdiv wv 8)) 32)),.int .i64 (IntKind.wrap .i64 (Int.tmod (IntKind.wrap .u64 (Int.tdiv (IntKind.wrap .u64 (Int.tdiv wv 8)) 32)) 256)),.int .i64 0,.int .u64 (IntKind.wrap .u64 (Int.tdiv (IntKind.wrap .u64 (Int.tdiv (IntKind.wrap .u64 (Int.tdiv wv 8)) 32)) 256))] 0->
 ∃e af a0 ap t:Int,RowAt bd (ad b) 0 [.int .i64 e,.int .i64 af,.int .i64 a0,.int .i64 ap,.int .u64 t]/\
 R (.agg #[.int .i64 e,.int .i64 af,.int .i64 a0,.int .i64 ap,.int .u64 t]) bd)
 else
 (CanPuts H6 (ad b) 0 5)/\ ∀bc,bc=hputs H6 (ad b) [.int .i64 0,.int .i64 0,.int .i64 0,.int .i64 0,.int .u64 0] 0->
 ∃n ae a8 aq k:Int,RowAt bc (ad b) 0 [.int .i64 n,.int .i64 ae,.int .i64 a8,.int .i64 aq,.int .u64 k]/\
 R (.agg #[.int .i64 n,.int .i64 ae,.int .i64 a8,.int .i64 aq,.int .u64 k]) bc)
 else
 (CanPuts H6 (ad b) 0 5)/\ ∀bb,bb=hputs H6 (ad b) [.int .i64 0,.int .i64 0,.int .i64 0,.int .i64 0,.int .u64 0] 0->
 ∃d r am ao a:Int,RowAt bb (ad b) 0 [.int .i64 d,.int .i64 r,.int .i64 am,.int .i64 ao,.int .u64 a]/\
 R (.agg #[.int .i64 d,.int .i64 r,.int .i64 am,.int .i64 ao,.int .u64 a]) bb
namespace moraineref01_Of
theorem link{wv:Int}{H:Array Obj}{R:Value->Array Obj->Prop}(h:pt wv H R):C wv H R:=by
 refine T_en K0 94 Tryz.func112 ?_
 intro w0 Q hQ
 unfold pt at h
 refine T_su [(0,vu wv)]<| T_srz 0<| T_nw (some 2) (λb=>vp (pa b)) (.cells #[vi 0,vi 0,vi 0,vi 0,vu 0] 155) ?_
 intro b H1 e1 e2
 replace h:=h b H1 e1 e2
 refine T_pd [] [(2,vp (pa b))]<| T_e<| T_srz 1<| T_ed 2 [0] [(3,vu wv)]<| T_srz 2<| T_ed 7 [3] [(4,vi (IntKind.wrap .i64 (Int.tmod wv 8))),(5,vu (IntKind.wrap .u64 (Int.tdiv wv 8)))]<| T_srz 3<| T_ed 7 [] [(6,vi (IntKind.wrap .i64 (Int.tmod (IntKind.wrap .u64 (Int.tdiv wv 8)) 32))),(7,vu (IntKind.wrap .u64 (Int.tdiv (IntKind.wrap .u64 (Int.tdiv wv 8)) 32)))]<| T_sz ?_
 refine T_srz 4<| T_ed 1 [] [(20,vi (IntKind.wrap .i64 (Int.tmod wv 8)))]<| T_bz 0<| T_srz 5<| T_ed 2 [] [(21,.bool ((IntKind.wrap .i64 (Int.tmod wv 8))==0))] ?_
 by_cases c3:(IntKind.wrap .i64 (Int.tmod wv 8))=0
 ·rw[if_pos c3]at h
  refine T_cTz 21 (beq_iff_eq.mpr c3)<| T_sz<| T_srz 6<| T_nd 1 [4,6,7,20,21] [(23,vu (IntKind.wrap .u64 (Int.tdiv wv 8)))] ?_
  refine T_c (some 24) h ?_;clear h
  rintro v H2 ⟨x,rfl,h⟩
  refine T_pd [] [(24,vu x)]<| T_ed 1 [23,24] [(25,.bool (decide ((IntKind.wrap .u64 (Int.tdiv wv 8))>=x)))] ?_
  by_cases c5:(IntKind.wrap .u64 (Int.tdiv wv 8))>=x
  ·rw[if_pos c5]at h
   refine T_cTz 25 (decide_eq_true c5)<| T_srz 7<| T_ud [25] [] ?_
   refine T_c (some 26) h ?_;clear h
   rintro be H3 ⟨ak,rfl,h⟩
   refine T_pd [] [(26,vu ak)]<| T_nd 5 [5,26] [(31,.agg #[vi 1,vi 0,vi 0,vi (IntKind.wrap .i64 (0-(IntKind.wrap .i64 (IntKind.wrap .u64 (ak-(IntKind.wrap .u64 (Int.tdiv wv 8))))))),vu 0])] ?_
   obtain⟨q8,h⟩:=h
   refine T_sta 155 [vi 1,vi 0,vi 0,vi (IntKind.wrap .i64 (0-(IntKind.wrap .i64 (IntKind.wrap .u64 (ak-(IntKind.wrap .u64 (Int.tdiv wv 8))))))),vu 0] q8 ?_
   intro H4 e7
   replace h:=h H4 e7
   refine T_pd [31] []<| T_e ?_
   refine S_ret (by kernel_rfl) ?_
   show At _ _ _ _ _ (Q .ret)
   obtain⟨al,a1,rA,rX,an,q9,h⟩:=h
   exact S_done (fn:=Tryz.f112) [.agg #[vi al,vi a1,vi rA,vi rX,vu an]] hQ (show ResOK _ _ _ [.cell 2 155] _ from .cell (by kernel_rfl) (loadOK_row (λ_=>by kernel_rfl) (λ_=>by kernel_rfl) q9) (.nil)) h
  rw[if_neg c5]at h
  refine T_cFz 25 (decide_eq_false c5)<| T_kt<| T_srz 8<| T_nd 3 [5,25] [(34,.agg #[vi 1,vi 0,vi 0,vi (IntKind.wrap .i64 (IntKind.wrap .u64 (Int.tdiv wv 8))),vu 0])] ?_
  obtain⟨q11,h⟩:=h
  refine T_sta 155 [vi 1,vi 0,vi 0,vi (IntKind.wrap .i64 (IntKind.wrap .u64 (Int.tdiv wv 8))),vu 0] q11 ?_
  intro H5 e10
  replace h:=h H5 e10
  refine T_pd [34] []<| T_e ?_
  refine S_ret (by kernel_rfl) ?_
  show At _ _ _ _ _ (Q .ret)
  obtain⟨j,ai,ay,a5,s,q12,h⟩:=h
  exact S_done (fn:=Tryz.f112) [.agg #[vi j,vi ai,vi ay,vi a5,vu s]] hQ (show ResOK _ _ _ [.cell 2 155] _ from .cell (by kernel_rfl) (loadOK_row (λ_=>by kernel_rfl) (λ_=>by kernel_rfl) q12) (.nil)) h
 rw[if_neg c3]at h
 refine T_cFz 21 (beq_eq_false_iff_ne.mpr c3)<| T_sz<| T_srz 9<| T_ne 2 [(2,vp (pa b)),(4,vi (IntKind.wrap .i64 (Int.tmod wv 8))),(5,vu (IntKind.wrap .u64 (Int.tdiv wv 8))),(6,vi (IntKind.wrap .i64 (Int.tmod (IntKind.wrap .u64 (Int.tdiv wv 8)) 32))),(7,vu (IntKind.wrap .u64 (Int.tdiv (IntKind.wrap .u64 (Int.tdiv wv 8)) 32))),(20,vi (IntKind.wrap .i64 (Int.tmod wv 8))),(35,.bool ((IntKind.wrap .i64 (Int.tmod wv 8))==1))] ?_
 obtain⟨J,h,j14⟩:=h
 refine S_join (σ:=Bool) (λs_=> [(2,vp (pa b)),(4,vi (IntKind.wrap .i64 (Int.tmod wv 8))),(5,vu (IntKind.wrap .u64 (Int.tdiv wv 8))),(6,vi (IntKind.wrap .i64 (Int.tmod (IntKind.wrap .u64 (Int.tdiv wv 8)) 32))),(7,vu (IntKind.wrap .u64 (Int.tdiv (IntKind.wrap .u64 (Int.tdiv wv 8)) 32))),(20,vi (IntKind.wrap .i64 (Int.tmod wv 8))),(35,.bool s_)]) (λs_ H=>J s_ H) ?_ ?_
 ·rintro aj H6 j15
  replace h:=j14 aj H6 j15
  refine T_su [(2,vp (pa b)),(4,vi (IntKind.wrap .i64 (Int.tmod wv 8))),(5,vu (IntKind.wrap .u64 (Int.tdiv wv 8))),(6,vi (IntKind.wrap .i64 (Int.tmod (IntKind.wrap .u64 (Int.tdiv wv 8)) 32))),(7,vu (IntKind.wrap .u64 (Int.tdiv (IntKind.wrap .u64 (Int.tdiv wv 8)) 32))),(20,vi (IntKind.wrap .i64 (Int.tmod wv 8))),(35,.bool aj)] ?_
  refine S_then ?_
  by_cases c16:aj=true
  ·rw[if_pos c16]at h
   have b17:aj=true:=c16
   refine S_env [(2,vp (pa b)),(4,vi (IntKind.wrap .i64 (Int.tmod wv 8))),(5,vu (IntKind.wrap .u64 (Int.tdiv wv 8))),(6,vi (IntKind.wrap .i64 (Int.tmod (IntKind.wrap .u64 (Int.tdiv wv 8)) 32))),(7,vu (IntKind.wrap .u64 (Int.tdiv (IntKind.wrap .u64 (Int.tdiv wv 8)) 32))),(20,vi (IntKind.wrap .i64 (Int.tmod wv 8))),(35,.bool true)] (by rw[b17]) ?_
   clear b17
   refine T_tz 35<| T_srz 13<| T_ed 2 [6,7,20,35] [(41,.bool (decide ((IntKind.wrap .u64 (Int.tdiv wv 8))<65536)))] ?_
   by_cases c18:(IntKind.wrap .u64 (Int.tdiv wv 8))<65536
   ·rw[if_pos c18]at h
    refine T_cTz 41 (decide_eq_true c18)<| T_srz 14<| T_nd 4 [4,5,41] [(45,.agg #[vi 2,vi (IntKind.wrap .i64 (Int.tmod wv 8)),vi (IntKind.wrap .i64 (IntKind.wrap .u64 (Int.tdiv wv 8))),vi 0,vu 0])] ?_
    obtain⟨q21,h⟩:=h
    refine T_sta 155 [vi 2,vi (IntKind.wrap .i64 (Int.tmod wv 8)),vi (IntKind.wrap .i64 (IntKind.wrap .u64 (Int.tdiv wv 8))),vi 0,vu 0] q21 ?_
    intro H7 e20
    replace h:=h H7 e20
    refine T_pd [45] []<| T_e ?_
    refine S_ret (by kernel_rfl) ?_
    show At _ _ _ _ _ (Q .ret)
    obtain⟨q,ab,au,a7,f,q22,h⟩:=h
    exact S_done (fn:=Tryz.f112) [.agg #[vi q,vi ab,vi au,vi a7,vu f]] hQ (show ResOK _ _ _ [.cell 2 155] _ from .cell (by kernel_rfl) (loadOK_row (λ_=>by kernel_rfl) (λ_=>by kernel_rfl) q22) (.nil)) h
   rw[if_neg c18]at h
   refine T_cFz 41 (decide_eq_false c18)<| T_k ?_
   refine S_blockEnd ?_
   refine S_then ?_
   refine T_srz 24<| T_nd 1 [4,5,41] [(93,.agg #[vi 0,vi 0,vi 0,vi 0,vu 0])] ?_
   obtain⟨q24,h⟩:=h
   refine T_sta 155 [vi 0,vi 0,vi 0,vi 0,vu 0] q24 ?_
   intro H8 e23
   replace h:=h H8 e23
   refine T_pd [93] []<| T_e ?_
   refine S_ret (by kernel_rfl) ?_
   show At _ _ _ _ _ (Q .ret)
   obtain⟨y,ah,a3,az,i,q25,h⟩:=h
   exact S_done (fn:=Tryz.f112) [.agg #[vi y,vi ah,vi a3,vi az,vu i]] hQ (show ResOK _ _ _ [.cell 2 155] _ from .cell (by kernel_rfl) (loadOK_row (λ_=>by kernel_rfl) (λ_=>by kernel_rfl) q25) (.nil)) h
  rw[if_neg c16]at h
  have b17:aj=false:=eq_false_of_ne_true c16
  refine S_env [(2,vp (pa b)),(4,vi (IntKind.wrap .i64 (Int.tmod wv 8))),(5,vu (IntKind.wrap .u64 (Int.tdiv wv 8))),(6,vi (IntKind.wrap .i64 (Int.tmod (IntKind.wrap .u64 (Int.tdiv wv 8)) 32))),(7,vu (IntKind.wrap .u64 (Int.tdiv (IntKind.wrap .u64 (Int.tdiv wv 8)) 32))),(20,vi (IntKind.wrap .i64 (Int.tmod wv 8))),(35,.bool false)] (by rw[b17]) ?_
  clear b17
  refine T_fz 35<| T_srz 15<| T_ed 2 [4,5,35] [(46,.bool ((IntKind.wrap .i64 (Int.tmod wv 8))==4))] ?_
  by_cases c26:(IntKind.wrap .i64 (Int.tmod wv 8))=4
  ·rw[if_pos c26]at h
   refine T_cTz 46 (beq_iff_eq.mpr c26)<| T_sz<| T_srz 16 ?_
   refine N_cut [(2,vp (pa b)),(6,vi (IntKind.wrap .i64 (Int.tmod (IntKind.wrap .u64 (Int.tdiv wv 8)) 32))),(7,vu (IntKind.wrap .u64 (Int.tdiv (IntKind.wrap .u64 (Int.tdiv wv 8)) 32))),(53,.bool ((decide ((IntKind.wrap .i64 (Int.tmod (IntKind.wrap .u64 (Int.tdiv wv 8)) 32))<7)) && ((IntKind.wrap .u64 (Int.tdiv (IntKind.wrap .u64 (Int.tdiv wv 8)) 32))==0)))] ?_ ?_
   ·refine S_then ?_
    by_cases c30:((decide ((IntKind.wrap .i64 (Int.tmod (IntKind.wrap .u64 (Int.tdiv wv 8)) 32))<7)) && ((IntKind.wrap .u64 (Int.tdiv (IntKind.wrap .u64 (Int.tdiv wv 8)) 32))==0))=true
    ·rw[if_pos c30]at h
     refine T_cTz 53 c30<| T_srz 17<| T_n 2 [(2,vp (pa b)),(55,.agg #[vi 3,vi 0,vi (IntKind.wrap .i64 (Int.tmod (IntKind.wrap .u64 (Int.tdiv wv 8)) 32)),vi 0,vu 0])] ?_
     obtain⟨q33,h⟩:=h
     refine T_sta 155 [vi 3,vi 0,vi (IntKind.wrap .i64 (Int.tmod (IntKind.wrap .u64 (Int.tdiv wv 8)) 32)),vi 0,vu 0] q33 ?_
     intro H9 e32
     replace h:=h H9 e32
     refine T_pd [55] []<| T_e ?_
     refine S_ret (by kernel_rfl) ?_
     show At _ _ _ _ _ (Q .ret)
     obtain⟨u,aa,av,a4,m,q34,h⟩:=h
     exact S_done (fn:=Tryz.f112) [.agg #[vi u,vi aa,vi av,vi a4,vu m]] hQ (show ResOK _ _ _ [.cell 2 155] _ from .cell (by kernel_rfl) (loadOK_row (λ_=>by kernel_rfl) (λ_=>by kernel_rfl) q34) (.nil)) h
    rw[if_neg c30]at h
    refine T_cFz 53 (eq_false_of_ne_true c30)<| T_kt<| T_srz 18 ?_
    refine N_cut [(2,vp (pa b)),(7,vu (IntKind.wrap .u64 (Int.tdiv (IntKind.wrap .u64 (Int.tdiv wv 8)) 32))),(69,.bool ((((IntKind.wrap .i64 (Int.tmod (IntKind.wrap .u64 (Int.tdiv wv 8)) 32))==7) && (decide ((IntKind.wrap .u64 (Int.tdiv (IntKind.wrap .u64 (Int.tdiv wv 8)) 32))<=1114111))) && ((decide ((IntKind.wrap .u64 (Int.tdiv (IntKind.wrap .u64 (Int.tdiv wv 8)) 32))<55296)) || (decide ((IntKind.wrap .u64 (Int.tdiv (IntKind.wrap .u64 (Int.tdiv wv 8)) 32))>57343)))))] ?_ ?_
    ·refine S_then ?_
     by_cases c41:((((IntKind.wrap .i64 (Int.tmod (IntKind.wrap .u64 (Int.tdiv wv 8)) 32))==7) && (decide ((IntKind.wrap .u64 (Int.tdiv (IntKind.wrap .u64 (Int.tdiv wv 8)) 32))<=1114111))) && ((decide ((IntKind.wrap .u64 (Int.tdiv (IntKind.wrap .u64 (Int.tdiv wv 8)) 32))<55296)) || (decide ((IntKind.wrap .u64 (Int.tdiv (IntKind.wrap .u64 (Int.tdiv wv 8)) 32))>57343))))=true
     ·rw[if_pos c41]at h
      refine T_cTz 69 c41<| T_srz 19<| T_n 3 [(2,vp (pa b)),(72,.agg #[vi 4,vi 0,vi (IntKind.wrap .i64 (IntKind.wrap .u64 (Int.tdiv (IntKind.wrap .u64 (Int.tdiv wv 8)) 32))),vi 0,vu 0])] ?_
      obtain⟨q44,h⟩:=h
      refine T_sta 155 [vi 4,vi 0,vi (IntKind.wrap .i64 (IntKind.wrap .u64 (Int.tdiv (IntKind.wrap .u64 (Int.tdiv wv 8)) 32))),vi 0,vu 0] q44 ?_
      intro ba e43
      replace h:=h ba e43
      refine T_pd [72] []<| T_e ?_
      refine S_ret (by kernel_rfl) ?_
      show At _ _ _ _ _ (Q .ret)
      obtain⟨o,ag,a6,ax,z,q45,h⟩:=h
      exact S_done (fn:=Tryz.f112) [.agg #[vi o,vi ag,vi a6,vi ax,vu z]] hQ (show ResOK _ _ _ [.cell 2 155] _ from .cell (by kernel_rfl) (loadOK_row (λ_=>by kernel_rfl) (λ_=>by kernel_rfl) q45) (.nil)) h
     rw[if_neg c41]at h
     refine T_cFz 69 (eq_false_of_ne_true c41)<| T_k ?_
     refine S_blockEnd ?_
     refine S_then ?_
     refine T_srz 24<| T_n 1 [(2,vp (pa b)),(93,.agg #[vi 0,vi 0,vi 0,vi 0,vu 0])] ?_
     obtain⟨q47,h⟩:=h
     refine T_sta 155 [vi 0,vi 0,vi 0,vi 0,vu 0] q47 ?_
     intro a9 e46
     replace h:=h a9 e46
     refine T_pd [93] []<| T_e ?_
     refine S_ret (by kernel_rfl) ?_
     show At _ _ _ _ _ (Q .ret)
     obtain⟨p,ac,aw,a2,l,q48,h⟩:=h
     exact S_done (fn:=Tryz.f112) [.agg #[vi p,vi ac,vi aw,vi a2,vu l]] hQ (show ResOK _ _ _ [.cell 2 155] _ from .cell (by kernel_rfl) (loadOK_row (λ_=>by kernel_rfl) (λ_=>by kernel_rfl) q48) (.nil)) h
    intro hk
    refine T_n 3 [(2,vp (pa b)),(7,vu (IntKind.wrap .u64 (Int.tdiv (IntKind.wrap .u64 (Int.tdiv wv 8)) 32))),(58,.bool ((IntKind.wrap .i64 (Int.tmod (IntKind.wrap .u64 (Int.tdiv wv 8)) 32))==7))] ?_
    by_cases c35:(IntKind.wrap .i64 (Int.tmod (IntKind.wrap .u64 (Int.tdiv wv 8)) 32))=7
    ·have b36:((IntKind.wrap .i64 (Int.tmod (IntKind.wrap .u64 (Int.tdiv wv 8)) 32))==7)=true:=beq_iff_eq.mpr c35
     refine N_env [(2,vp (pa b)),(7,vu (IntKind.wrap .u64 (Int.tdiv (IntKind.wrap .u64 (Int.tdiv wv 8)) 32))),(58,.bool true)] (by rw[b36]) ?_
     refine T_nd 4 [58] [(62,.bool (decide ((IntKind.wrap .u64 (Int.tdiv (IntKind.wrap .u64 (Int.tdiv wv 8)) 32))<=1114111)))] ?_
     by_cases c37:(IntKind.wrap .u64 (Int.tdiv (IntKind.wrap .u64 (Int.tdiv wv 8)) 32))<=1114111
     ·have b38:(decide ((IntKind.wrap .u64 (Int.tdiv (IntKind.wrap .u64 (Int.tdiv wv 8)) 32))<=1114111))=true:=decide_eq_true c37
      refine N_bd 62 b38<| T_nd 3 [] [(65,.bool (decide ((IntKind.wrap .u64 (Int.tdiv (IntKind.wrap .u64 (Int.tdiv wv 8)) 32))<55296)))] ?_
      by_cases c39:(IntKind.wrap .u64 (Int.tdiv (IntKind.wrap .u64 (Int.tdiv wv 8)) 32))<55296
      ·have b40:(decide ((IntKind.wrap .u64 (Int.tdiv (IntKind.wrap .u64 (Int.tdiv wv 8)) 32))<55296))=true:=decide_eq_true c39
       refine N_bd 65 b40<| T_nd 4 [62,65] [(69,.bool true)] ?_
       refine N_end (by kernel_rfl) ?_
       refine S_bd 69 (b:=true) (v:=((((IntKind.wrap .i64 (Int.tmod (IntKind.wrap .u64 (Int.tdiv wv 8)) 32))==7) && (decide ((IntKind.wrap .u64 (Int.tdiv (IntKind.wrap .u64 (Int.tdiv wv 8)) 32))<=1114111))) && ((decide ((IntKind.wrap .u64 (Int.tdiv (IntKind.wrap .u64 (Int.tdiv wv 8)) 32))<55296)) || (decide ((IntKind.wrap .u64 (Int.tdiv (IntKind.wrap .u64 (Int.tdiv wv 8)) 32))>57343))))) (by simp only[b36,b38,b40,BL]) ?_
       exact hk
      have b40:(decide ((IntKind.wrap .u64 (Int.tdiv (IntKind.wrap .u64 (Int.tdiv wv 8)) 32))<55296))=false:=decide_eq_false c39
      refine N_bd 65 b40<| T_nd 4 [62,65] [(69,.bool (decide ((IntKind.wrap .u64 (Int.tdiv (IntKind.wrap .u64 (Int.tdiv wv 8)) 32))>57343)))] ?_
      refine N_end (by kernel_rfl) ?_
      refine S_bd 69 (b:=(decide ((IntKind.wrap .u64 (Int.tdiv (IntKind.wrap .u64 (Int.tdiv wv 8)) 32))>57343))) (v:=((((IntKind.wrap .i64 (Int.tmod (IntKind.wrap .u64 (Int.tdiv wv 8)) 32))==7) && (decide ((IntKind.wrap .u64 (Int.tdiv (IntKind.wrap .u64 (Int.tdiv wv 8)) 32))<=1114111))) && ((decide ((IntKind.wrap .u64 (Int.tdiv (IntKind.wrap .u64 (Int.tdiv wv 8)) 32))<55296)) || (decide ((IntKind.wrap .u64 (Int.tdiv (IntKind.wrap .u64 (Int.tdiv wv 8)) 32))>57343))))) (by simp only[b36,b38,b40,BL]) ?_
      exact hk
     have b38:(decide ((IntKind.wrap .u64 (Int.tdiv (IntKind.wrap .u64 (Int.tdiv wv 8)) 32))<=1114111))=false:=decide_eq_false c37
     refine N_bd 62 b38<| T_nd 7 [62] [(69,.bool false)] ?_
     refine N_end (by kernel_rfl) ?_
     refine S_bd 69 (b:=false) (v:=((((IntKind.wrap .i64 (Int.tmod (IntKind.wrap .u64 (Int.tdiv wv 8)) 32))==7) && (decide ((IntKind.wrap .u64 (Int.tdiv (IntKind.wrap .u64 (Int.tdiv wv 8)) 32))<=1114111))) && ((decide ((IntKind.wrap .u64 (Int.tdiv (IntKind.wrap .u64 (Int.tdiv wv 8)) 32))<55296)) || (decide ((IntKind.wrap .u64 (Int.tdiv (IntKind.wrap .u64 (Int.tdiv wv 8)) 32))>57343))))) (by simp only[b36,b38,BL]) ?_
     exact hk
    have b36:((IntKind.wrap .i64 (Int.tmod (IntKind.wrap .u64 (Int.tdiv wv 8)) 32))==7)=false:=beq_eq_false_iff_ne.mpr c35
    refine N_env [(2,vp (pa b)),(7,vu (IntKind.wrap .u64 (Int.tdiv (IntKind.wrap .u64 (Int.tdiv wv 8)) 32))),(58,.bool false)] (by rw[b36]) ?_
    refine T_nd 11 [58] [(69,.bool false)] ?_
    refine N_end (by kernel_rfl) ?_
    refine S_bd 69 (b:=false) (v:=((((IntKind.wrap .i64 (Int.tmod (IntKind.wrap .u64 (Int.tdiv wv 8)) 32))==7) && (decide ((IntKind.wrap .u64 (Int.tdiv (IntKind.wrap .u64 (Int.tdiv wv 8)) 32))<=1114111))) && ((decide ((IntKind.wrap .u64 (Int.tdiv (IntKind.wrap .u64 (Int.tdiv wv 8)) 32))<55296)) || (decide ((IntKind.wrap .u64 (Int.tdiv (IntKind.wrap .u64 (Int.tdiv wv 8)) 32))>57343))))) (by simp only[b36,BL]) ?_
    exact hk
   intro hk
   refine T_n 3 [(2,vp (pa b)),(6,vi (IntKind.wrap .i64 (Int.tmod (IntKind.wrap .u64 (Int.tdiv wv 8)) 32))),(7,vu (IntKind.wrap .u64 (Int.tdiv (IntKind.wrap .u64 (Int.tdiv wv 8)) 32))),(50,.bool (decide ((IntKind.wrap .i64 (Int.tmod (IntKind.wrap .u64 (Int.tdiv wv 8)) 32))<7)))] ?_
   by_cases c28:(IntKind.wrap .i64 (Int.tmod (IntKind.wrap .u64 (Int.tdiv wv 8)) 32))<7
   ·have b29:(decide ((IntKind.wrap .i64 (Int.tmod (IntKind.wrap .u64 (Int.tdiv wv 8)) 32))<7))=true:=decide_eq_true c28
    refine N_env [(2,vp (pa b)),(6,vi (IntKind.wrap .i64 (Int.tmod (IntKind.wrap .u64 (Int.tdiv wv 8)) 32))),(7,vu (IntKind.wrap .u64 (Int.tdiv (IntKind.wrap .u64 (Int.tdiv wv 8)) 32))),(50,.bool true)] (by rw[b29]) ?_
    refine T_nd 3 [50] [(53,.bool ((IntKind.wrap .u64 (Int.tdiv (IntKind.wrap .u64 (Int.tdiv wv 8)) 32))==0))] ?_
    refine N_end (by kernel_rfl) ?_
    refine S_bd 53 (b:=((IntKind.wrap .u64 (Int.tdiv (IntKind.wrap .u64 (Int.tdiv wv 8)) 32))==0)) (v:=((decide ((IntKind.wrap .i64 (Int.tmod (IntKind.wrap .u64 (Int.tdiv wv 8)) 32))<7)) && ((IntKind.wrap .u64 (Int.tdiv (IntKind.wrap .u64 (Int.tdiv wv 8)) 32))==0))) (by simp only[b29,BL]) ?_
    exact hk
   have b29:(decide ((IntKind.wrap .i64 (Int.tmod (IntKind.wrap .u64 (Int.tdiv wv 8)) 32))<7))=false:=decide_eq_false c28
   refine N_env [(2,vp (pa b)),(6,vi (IntKind.wrap .i64 (Int.tmod (IntKind.wrap .u64 (Int.tdiv wv 8)) 32))),(7,vu (IntKind.wrap .u64 (Int.tdiv (IntKind.wrap .u64 (Int.tdiv wv 8)) 32))),(50,.bool false)] (by rw[b29]) ?_
   refine T_nd 3 [50] [(53,.bool false)] ?_
   refine N_end (by kernel_rfl) ?_
   refine S_bd 53 (b:=false) (v:=((decide ((IntKind.wrap .i64 (Int.tmod (IntKind.wrap .u64 (Int.tdiv wv 8)) 32))<7)) && ((IntKind.wrap .u64 (Int.tdiv (IntKind.wrap .u64 (Int.tdiv wv 8)) 32))==0))) (by simp only[b29,BL]) ?_
   exact hk
  rw[if_neg c26]at h
  refine T_cFz 46 (beq_eq_false_iff_ne.mpr c26)<| T_srz 20<| T_ed 2 [20,46] [(73,.bool ((IntKind.wrap .i64 (Int.tmod wv 8))==5))] ?_
  by_cases c49:(IntKind.wrap .i64 (Int.tmod wv 8))=5
  ·rw[if_pos c49]at h
   refine T_cTz 73 (beq_iff_eq.mpr c49)<| T_srz 21<| T_ed 4 [73] [(8,vi (IntKind.wrap .i64 (Int.tmod (IntKind.wrap .u64 (Int.tdiv (IntKind.wrap .u64 (Int.tdiv wv 8)) 32)) 256)))]<| T_srz 22 ?_
   refine N_cut [(2,vp (pa b)),(6,vi (IntKind.wrap .i64 (Int.tmod (IntKind.wrap .u64 (Int.tdiv wv 8)) 32))),(7,vu (IntKind.wrap .u64 (Int.tdiv (IntKind.wrap .u64 (Int.tdiv wv 8)) 32))),(8,vi (IntKind.wrap .i64 (Int.tmod (IntKind.wrap .u64 (Int.tdiv (IntKind.wrap .u64 (Int.tdiv wv 8)) 32)) 256))),(87,.bool (((decide ((IntKind.wrap .i64 (Int.tmod (IntKind.wrap .u64 (Int.tdiv wv 8)) 32))>=1)) && (decide ((IntKind.wrap .i64 (Int.tmod (IntKind.wrap .u64 (Int.tdiv wv 8)) 32))<=13))) && (decide ((IntKind.wrap .i64 (Int.tmod (IntKind.wrap .u64 (Int.tdiv (IntKind.wrap .u64 (Int.tdiv wv 8)) 32)) 256))<=62))))] ?_ ?_
   ·refine S_then ?_
    by_cases c55:(((decide ((IntKind.wrap .i64 (Int.tmod (IntKind.wrap .u64 (Int.tdiv wv 8)) 32))>=1)) && (decide ((IntKind.wrap .i64 (Int.tmod (IntKind.wrap .u64 (Int.tdiv wv 8)) 32))<=13))) && (decide ((IntKind.wrap .i64 (Int.tmod (IntKind.wrap .u64 (Int.tdiv (IntKind.wrap .u64 (Int.tdiv wv 8)) 32)) 256))<=62)))=true
    ·rw[if_pos c55]at h
     refine T_cTz 87 c55<| T_srz 23<| T_n 5 [(2,vp (pa b)),(92,.agg #[vi 5,vi (IntKind.wrap .i64 (Int.tmod (IntKind.wrap .u64 (Int.tdiv wv 8)) 32)),vi (IntKind.wrap .i64 (Int.tmod (IntKind.wrap .u64 (Int.tdiv (IntKind.wrap .u64 (Int.tdiv wv 8)) 32)) 256)),vi 0,vu (IntKind.wrap .u64 (Int.tdiv (IntKind.wrap .u64 (Int.tdiv (IntKind.wrap .u64 (Int.tdiv wv 8)) 32)) 256))])] ?_
     obtain⟨q58,h⟩:=h
     refine T_sta 155 [vi 5,vi (IntKind.wrap .i64 (Int.tmod (IntKind.wrap .u64 (Int.tdiv wv 8)) 32)),vi (IntKind.wrap .i64 (Int.tmod (IntKind.wrap .u64 (Int.tdiv (IntKind.wrap .u64 (Int.tdiv wv 8)) 32)) 256)),vi 0,vu (IntKind.wrap .u64 (Int.tdiv (IntKind.wrap .u64 (Int.tdiv (IntKind.wrap .u64 (Int.tdiv wv 8)) 32)) 256))] q58 ?_
     intro bd e57
     replace h:=h bd e57
     refine T_pd [92] []<| T_e ?_
     refine S_ret (by kernel_rfl) ?_
     show At _ _ _ _ _ (Q .ret)
     obtain⟨e,af,a0,ap,t,q59,h⟩:=h
     exact S_done (fn:=Tryz.f112) [.agg #[vi e,vi af,vi a0,vi ap,vu t]] hQ (show ResOK _ _ _ [.cell 2 155] _ from .cell (by kernel_rfl) (loadOK_row (λ_=>by kernel_rfl) (λ_=>by kernel_rfl) q59) (.nil)) h
    rw[if_neg c55]at h
    refine T_cFz 87 (eq_false_of_ne_true c55)<| T_k ?_
    refine S_blockEnd ?_
    refine S_then ?_
    refine T_srz 24<| T_n 1 [(2,vp (pa b)),(93,.agg #[vi 0,vi 0,vi 0,vi 0,vu 0])] ?_
    obtain⟨q61,h⟩:=h
    refine T_sta 155 [vi 0,vi 0,vi 0,vi 0,vu 0] q61 ?_
    intro bc e60
    replace h:=h bc e60
    refine T_pd [93] []<| T_e ?_
    refine S_ret (by kernel_rfl) ?_
    show At _ _ _ _ _ (Q .ret)
    obtain⟨n,ae,a8,aq,k,q62,h⟩:=h
    exact S_done (fn:=Tryz.f112) [.agg #[vi n,vi ae,vi a8,vi aq,vu k]] hQ (show ResOK _ _ _ [.cell 2 155] _ from .cell (by kernel_rfl) (loadOK_row (λ_=>by kernel_rfl) (λ_=>by kernel_rfl) q62) (.nil)) h
   intro hk
   refine T_n 3 [(2,vp (pa b)),(6,vi (IntKind.wrap .i64 (Int.tmod (IntKind.wrap .u64 (Int.tdiv wv 8)) 32))),(7,vu (IntKind.wrap .u64 (Int.tdiv (IntKind.wrap .u64 (Int.tdiv wv 8)) 32))),(8,vi (IntKind.wrap .i64 (Int.tmod (IntKind.wrap .u64 (Int.tdiv (IntKind.wrap .u64 (Int.tdiv wv 8)) 32)) 256))),(80,.bool (decide ((IntKind.wrap .i64 (Int.tmod (IntKind.wrap .u64 (Int.tdiv wv 8)) 32))>=1)))] ?_
   by_cases c51:(IntKind.wrap .i64 (Int.tmod (IntKind.wrap .u64 (Int.tdiv wv 8)) 32))>=1
   ·have b52:(decide ((IntKind.wrap .i64 (Int.tmod (IntKind.wrap .u64 (Int.tdiv wv 8)) 32))>=1))=true:=decide_eq_true c51
    refine N_env [(2,vp (pa b)),(6,vi (IntKind.wrap .i64 (Int.tmod (IntKind.wrap .u64 (Int.tdiv wv 8)) 32))),(7,vu (IntKind.wrap .u64 (Int.tdiv (IntKind.wrap .u64 (Int.tdiv wv 8)) 32))),(8,vi (IntKind.wrap .i64 (Int.tmod (IntKind.wrap .u64 (Int.tdiv (IntKind.wrap .u64 (Int.tdiv wv 8)) 32)) 256))),(80,.bool true)] (by rw[b52]) ?_
    refine T_nd 4 [80] [(84,.bool (decide ((IntKind.wrap .i64 (Int.tmod (IntKind.wrap .u64 (Int.tdiv wv 8)) 32))<=13)))] ?_
    by_cases c53:(IntKind.wrap .i64 (Int.tmod (IntKind.wrap .u64 (Int.tdiv wv 8)) 32))<=13
    ·have b54:(decide ((IntKind.wrap .i64 (Int.tmod (IntKind.wrap .u64 (Int.tdiv wv 8)) 32))<=13))=true:=decide_eq_true c53
     refine N_bd 84 b54<| T_nd 3 [84] [(87,.bool (decide ((IntKind.wrap .i64 (Int.tmod (IntKind.wrap .u64 (Int.tdiv (IntKind.wrap .u64 (Int.tdiv wv 8)) 32)) 256))<=62)))] ?_
     refine N_end (by kernel_rfl) ?_
     refine S_bd 87 (b:=(decide ((IntKind.wrap .i64 (Int.tmod (IntKind.wrap .u64 (Int.tdiv (IntKind.wrap .u64 (Int.tdiv wv 8)) 32)) 256))<=62))) (v:=(((decide ((IntKind.wrap .i64 (Int.tmod (IntKind.wrap .u64 (Int.tdiv wv 8)) 32))>=1)) && (decide ((IntKind.wrap .i64 (Int.tmod (IntKind.wrap .u64 (Int.tdiv wv 8)) 32))<=13))) && (decide ((IntKind.wrap .i64 (Int.tmod (IntKind.wrap .u64 (Int.tdiv (IntKind.wrap .u64 (Int.tdiv wv 8)) 32)) 256))<=62)))) (by simp only[b52,b54,BL]) ?_
     exact hk
    have b54:(decide ((IntKind.wrap .i64 (Int.tmod (IntKind.wrap .u64 (Int.tdiv wv 8)) 32))<=13))=false:=decide_eq_false c53
    refine N_bd 84 b54<| T_nd 3 [84] [(87,.bool false)] ?_
    refine N_end (by kernel_rfl) ?_
    refine S_bd 87 (b:=false) (v:=(((decide ((IntKind.wrap .i64 (Int.tmod (IntKind.wrap .u64 (Int.tdiv wv 8)) 32))>=1)) && (decide ((IntKind.wrap .i64 (Int.tmod (IntKind.wrap .u64 (Int.tdiv wv 8)) 32))<=13))) && (decide ((IntKind.wrap .i64 (Int.tmod (IntKind.wrap .u64 (Int.tdiv (IntKind.wrap .u64 (Int.tdiv wv 8)) 32)) 256))<=62)))) (by simp only[b52,b54,BL]) ?_
    exact hk
   have b52:(decide ((IntKind.wrap .i64 (Int.tmod (IntKind.wrap .u64 (Int.tdiv wv 8)) 32))>=1))=false:=decide_eq_false c51
   refine N_env [(2,vp (pa b)),(6,vi (IntKind.wrap .i64 (Int.tmod (IntKind.wrap .u64 (Int.tdiv wv 8)) 32))),(7,vu (IntKind.wrap .u64 (Int.tdiv (IntKind.wrap .u64 (Int.tdiv wv 8)) 32))),(8,vi (IntKind.wrap .i64 (Int.tmod (IntKind.wrap .u64 (Int.tdiv (IntKind.wrap .u64 (Int.tdiv wv 8)) 32)) 256))),(80,.bool false)] (by rw[b52]) ?_
   refine T_nd 7 [80] [(87,.bool false)] ?_
   refine N_end (by kernel_rfl) ?_
   refine S_bd 87 (b:=false) (v:=(((decide ((IntKind.wrap .i64 (Int.tmod (IntKind.wrap .u64 (Int.tdiv wv 8)) 32))>=1)) && (decide ((IntKind.wrap .i64 (Int.tmod (IntKind.wrap .u64 (Int.tdiv wv 8)) 32))<=13))) && (decide ((IntKind.wrap .i64 (Int.tmod (IntKind.wrap .u64 (Int.tdiv (IntKind.wrap .u64 (Int.tdiv wv 8)) 32)) 256))<=62)))) (by simp only[b52,BL]) ?_
   exact hk
  rw[if_neg c49]at h
  refine T_cFz 73 (beq_eq_false_iff_ne.mpr c49)<| T_k ?_
  refine S_blockEnd ?_
  refine S_then ?_
  refine T_srz 24<| T_nd 1 [6,7,73] [(93,.agg #[vi 0,vi 0,vi 0,vi 0,vu 0])] ?_
  obtain⟨q64,h⟩:=h
  refine T_sta 155 [vi 0,vi 0,vi 0,vi 0,vu 0] q64 ?_
  intro bb e63
  replace h:=h bb e63
  refine T_pd [93] []<| T_e ?_
  refine S_ret (by kernel_rfl) ?_
  show At _ _ _ _ _ (Q .ret)
  obtain⟨d,r,am,ao,a,q65,h⟩:=h
  exact S_done (fn:=Tryz.f112) [.agg #[vi d,vi r,vi am,vi ao,vu a]] hQ (show ResOK _ _ _ [.cell 2 155] _ from .cell (by kernel_rfl) (loadOK_row (λ_=>by kernel_rfl) (λ_=>by kernel_rfl) q65) (.nil)) h
 by_cases c66:(IntKind.wrap .i64 (Int.tmod wv 8))=1
 ·rw[if_pos c66]at h
  have b67:((IntKind.wrap .i64 (Int.tmod wv 8))==1)=true:=beq_iff_eq.mpr c66
  refine S_env [(2,vp (pa b)),(4,vi (IntKind.wrap .i64 (Int.tmod wv 8))),(5,vu (IntKind.wrap .u64 (Int.tdiv wv 8))),(6,vi (IntKind.wrap .i64 (Int.tmod (IntKind.wrap .u64 (Int.tdiv wv 8)) 32))),(7,vu (IntKind.wrap .u64 (Int.tdiv (IntKind.wrap .u64 (Int.tdiv wv 8)) 32))),(20,vi (IntKind.wrap .i64 (Int.tmod wv 8))),(35,.bool true)] (by simp only[b67,Bool.not_true,Bool.not_false]) ?_
  clear b67
  refine T_tz 35<| T_kt ?_
  exact S_meet (true:Bool) sk h
 rw[if_neg c66]at h
 have b67:((IntKind.wrap .i64 (Int.tmod wv 8))==1)=false:=beq_eq_false_iff_ne.mpr c66
 refine S_env [(2,vp (pa b)),(4,vi (IntKind.wrap .i64 (Int.tmod wv 8))),(5,vu (IntKind.wrap .u64 (Int.tdiv wv 8))),(6,vi (IntKind.wrap .i64 (Int.tmod (IntKind.wrap .u64 (Int.tdiv wv 8)) 32))),(7,vu (IntKind.wrap .u64 (Int.tdiv (IntKind.wrap .u64 (Int.tdiv wv 8)) 32))),(20,vi (IntKind.wrap .i64 (Int.tmod wv 8))),(35,.bool false)] (by simp only[b67,Bool.not_true,Bool.not_false]) ?_
 clear b67
 refine T_fz 35<| T_srz 10<| T_ed 2 [35] [(35,.bool ((IntKind.wrap .i64 (Int.tmod wv 8))==2))] ?_
 by_cases c68:(IntKind.wrap .i64 (Int.tmod wv 8))=2
 ·rw[if_pos c68]at h
  refine S_bd 35 (beq_iff_eq.mpr c68)<| T_tz 35<| T_kt ?_
  exact S_meet (true:Bool) sk h
 rw[if_neg c68]at h
 refine S_bd 35 (beq_eq_false_iff_ne.mpr c68)<| T_fz 35<| T_srz 11<| T_ed 2 [35] [(35,.bool ((IntKind.wrap .i64 (Int.tmod wv 8))==3))] ?_
 by_cases c70:(IntKind.wrap .i64 (Int.tmod wv 8))=3
 ·rw[if_pos c70]at h
  refine S_bd 35 (beq_iff_eq.mpr c70)<| T_tz 35<| T_kt ?_
  exact S_meet (true:Bool) sk h
 rw[if_neg c70]at h
 refine S_bd 35 (beq_eq_false_iff_ne.mpr c70)<| T_fz 35<| T_rz 12<| T_ed 2 [35] [(35,.bool ((IntKind.wrap .i64 (Int.tmod wv 8))==6))] ?_
 exact S_meet (((IntKind.wrap .i64 (Int.tmod wv 8))==6):Bool) sk h
end moraineref01_Of

/-! moraine/moraineref01.Word -/
namespace moraineref01_Word
def K0:=Func.code Tryz.f114
def K2:=cb K0
def K3:=ca K2
def K4:=cb K2
def K6:=cb K3
def K7:=ca K6
def K9:=cb K7
def K10:=ca K9
def K13:=cb K10
def K14:=ca K13
def K17:=cb K14
def K18:=ca K17
def K40:=ca K4
end moraineref01_Word
def moraineref01_Word.pt(l p tA tX m:Int)(H:Array Obj)(R:Value->Array Obj->Prop):Prop:=
 ∀(b:Nat) (H1:Array Obj),b=H.size->H1=H.push (.cells #[.int .i64 l,.int .i64 p,.int .i64 tA,.int .i64 tX,.int .u64 m] 155)->
 ∃x:Int,hat H1 (ad b)=some (.int .i64 x)/\
 if x=1 then(
 ∃j:Int,hat H1 ((ad b).add 3)=some (.int .i64 j)/\
 ∃o:Int,hat H1 ((ad b).add 3)=some (.int .i64 o)/\
 if o<0 then(
 ∃i:Int,hat H1 ((ad b).add 3)=some (.int .i64 i)/\
 moraineref01_power.C 61 H1 (λv H2=> ∃k:Int,v=.int .u64 k/\RowAt H2 ((ad b).add 3) 0 [.int .i64 i]/\
 R (.int .u64 (IntKind.wrap .u64 ((IntKind.wrap .u64 (k-(IntKind.wrap .u64 (IntKind.wrap .i64 (0-i)))))*8))) H2))
 else
 R (.int .u64 (IntKind.wrap .u64 ((IntKind.wrap .u64 j)*8))) H1)
 else
 if x=2 then(
 ∃n:Int,hat H1 ((ad b).add 2)=some (.int .i64 n)/\
 ∃r:Int,hat H1 ((ad b).add 1)=some (.int .i64 r)/\
 R (.int .u64 (IntKind.wrap .u64 ((IntKind.wrap .u64 ((IntKind.wrap .u64 n)*8))+(IntKind.wrap .u64 r)))) H1)
 else
 if x=3 then(
 ∃s:Int,hat H1 ((ad b).add 2)=some (.int .i64 s)/\
 R (.int .u64 (IntKind.wrap .u64 ((IntKind.wrap .u64 ((IntKind.wrap .u64 s)*8))+4))) H1)
 else
 if x=4 then(
 ∃q:Int,hat H1 ((ad b).add 2)=some (.int .i64 q)/\
 R (.int .u64 (IntKind.wrap .u64 ((IntKind.wrap .u64 ((IntKind.wrap .u64 ((IntKind.wrap .u64 q)*256))+56))+4))) H1)
 else
 ∃a:Int,hat H1 ((ad b).add 4)=some (.int .u64 a)/\
 ∃d:Int,hat H1 ((ad b).add 2)=some (.int .i64 d)/\
 ∃e:Int,hat H1 ((ad b).add 1)=some (.int .i64 e)/\
 moraineref01_power.C 16 H1 (λt H3=> ∃f:Int,t=.int .u64 f/\RowAt H3 ((ad b).add 4) 0 [.int .u64 a]/\RowAt H3 ((ad b).add 2) 0 [.int .i64 d]/\RowAt H3 ((ad b).add 1) 0 [.int .i64 e]/\
 R (.int .u64 (IntKind.wrap .u64 ((IntKind.wrap .u64 ((IntKind.wrap .u64 ((IntKind.wrap .u64 (a*f))+(IntKind.wrap .u64 ((IntKind.wrap .u64 d)*256))))+(IntKind.wrap .u64 ((IntKind.wrap .u64 e)*8))))+5))) H3)
namespace moraineref01_Word
theorem link{l p tA tX m:Int}{H:Array Obj}{R:Value->Array Obj->Prop}(h:pt l p tA tX m H R):C l p tA tX m H R:=by
 refine T_en K0 62 Tryz.func114 ?_
 intro w0 Q hQ
 unfold pt at h
 refine T_su [(0,.agg #[vi l,vi p,vi tA,vi tX,vu m])]<| T_srz 0<| T_nw (some 1) (λb=>vp (pa b)) (.cells #[vi l,vi p,vi tA,vi tX,vu m] 155) ?_
 intro b H1 e1 e2
 replace h:=h b H1 e1 e2
 refine⟨[(1,vp (pa b))],pk,?_⟩
 refine T_ed 1 [] []<| T_sz<| T_srz 1<| T_nd 1 [] [(4,vp (pa b))] ?_
 obtain⟨x,q3,h⟩:=h
 refine T_l1 5 3 q3 [4]<| T_e<| T_bz 0<| T_srz 2<| T_ed 2 [] [(6,.bool (x==1))] ?_
 by_cases c4:x=1
 ·rw[if_pos c4]at h
  refine T_cTz 6 (beq_iff_eq.mpr c4)<| T_srz 3<| T_nd 1 [5,6] [(8,vp (some ((ad b).add 3)))] ?_
  obtain⟨j,q6,h⟩:=h
  refine T_l1 9 2 q6 [8]<| T_ed 2 [9] [(3,vu (IntKind.wrap .u64 j))]<| T_sz<| T_srz 4<| T_nd 1 [] [(11,vp (some ((ad b).add 3)))] ?_
  obtain⟨o,q7,h⟩:=h
  refine T_l1 12 2 q7 [11]<| T_ed 1 [12] [(13,.bool (decide (o<0)))] ?_
  by_cases c8:o<0
  ·rw[if_pos c8]at h
   refine T_cTz 13 (decide_eq_true c8) ?_
   obtain⟨i,q10,h⟩:=h
   refine S_regionG 5 (Code.ops K18) [(7,((ad b).add 3),[vi i])] 7 (bv 7 0) (by kernel_rfl) (by kernel_rfl) (by kernel_rfl) (by kernel_rfl) (by kernel_rfl) (show FactsAt _ _ _ from⟨⟨q10,trivial⟩,trivial⟩) ?_
   refine T_gp 1 (some 15) (vp (some ((ad b).add 3))) (bv 7 2) [(3,vu (IntKind.wrap .u64 j)),(15,vp (some ((ad b).add 3)))]<| T_g1 2 16 (vi i) (bv 7 6) [15] (loadN 2 (vp (some ((ad b).add 3)))) (held_one 7 (λ_=>by kernel_rfl) (List.Mem.head _) (.inr (by kernel_rfl)))<| T_gp1 3 17 (vi (IntKind.wrap .i64 (0-i))) (bv 7 14) [16]<| T_gp1 4 18 (vu (IntKind.wrap .u64 (IntKind.wrap .i64 (0-i)))) (bv 7 30) [17] ?_
   refine G_call 0 (some 14) (bv 7 31) 164 #[vi 61] (by kernel_rfl) (λ_=>by kernel_rfl) h (by kernel_rfl) ?_;clear h
   rintro v H2 ⟨k,rfl,h⟩
   obtain⟨f11,h⟩:=h
   refine⟨[(3,vu (IntKind.wrap .u64 j)),(14,vu k),(18,vu (IntKind.wrap .u64 (IntKind.wrap .i64 (0-i))))],pk,(show FactsAt _ _ _ from⟨f11,trivial⟩),?_⟩
   refine T_g 5 (some 19) (vu (IntKind.wrap .u64 (k-(IntKind.wrap .u64 (IntKind.wrap .i64 (0-i)))))) (bv 7 63) [(3,vu (IntKind.wrap .u64 j)),(19,vu (IntKind.wrap .u64 (k-(IntKind.wrap .u64 (IntKind.wrap .i64 (0-i))))))] (pure (.value (vu (IntKind.wrap .u64 (k-(IntKind.wrap .u64 (IntKind.wrap .i64 (0-i))))))):Sem Next) (λ_ _ _ _ _=>rfl)<| T_g1 6 3 (vu (IntKind.wrap .u64 (k-(IntKind.wrap .u64 (IntKind.wrap .i64 (0-i)))))) (bv 7 127) [3,19] (pure (.value (vu (IntKind.wrap .u64 (k-(IntKind.wrap .u64 (IntKind.wrap .i64 (0-i))))))):Sem Next) (λ_ _ _ _ _=>rfl) ?_
   refine G_sub [(3,vu (IntKind.wrap .u64 (k-(IntKind.wrap .u64 (IntKind.wrap .i64 (0-i))))))] sk ?_
   refine G_end (by kernel_rfl) ?_
   refine S_then ?_
   exact T_srz 6<| T_nr 3 [2] [vu (IntKind.wrap .u64 ((IntKind.wrap .u64 (k-(IntKind.wrap .u64 (IntKind.wrap .i64 (0-i)))))*8))] hQ h
  rw[if_neg c8]at h
  exact T_cFz 13 (decide_eq_false c8)<| T_kt<| T_srz 6<| T_nr 3 [2] [vu (IntKind.wrap .u64 ((IntKind.wrap .u64 j)*8))] hQ h
 rw[if_neg c4]at h
 refine T_cFz 6 (beq_eq_false_iff_ne.mpr c4)<| T_srz 7<| T_ed 2 [6] [(22,.bool (x==2))] ?_
 by_cases c12:x=2
 ·rw[if_pos c12]at h
  refine T_cTz 22 (beq_iff_eq.mpr c12)<| T_srz 8<| T_nd 1 [5,22] [(24,vp (some ((ad b).add 2)))] ?_
  obtain⟨n,q14,h⟩:=h
  refine T_l1 25 3 q14 [24]<| T_n 3 [(27,vu (IntKind.wrap .u64 ((IntKind.wrap .u64 n)*8))),(28,vp (some ((ad b).add 1)))] ?_
  obtain⟨r,q15,h⟩:=h
  exact T_l1 29 3 q15 [28]<| T_nr 3 [2] [vu (IntKind.wrap .u64 ((IntKind.wrap .u64 ((IntKind.wrap .u64 n)*8))+(IntKind.wrap .u64 r)))] hQ h
 rw[if_neg c12]at h
 refine T_cFz 22 (beq_eq_false_iff_ne.mpr c12)<| T_srz 9<| T_ed 2 [22] [(32,.bool (x==3))] ?_
 by_cases c16:x=3
 ·rw[if_pos c16]at h
  refine T_cTz 32 (beq_iff_eq.mpr c16)<| T_srz 10<| T_n 1 [(34,vp (some ((ad b).add 2)))] ?_
  obtain⟨s,q18,h⟩:=h
  exact T_l1 35 3 q18 [34]<| T_nr 4 [2] [vu (IntKind.wrap .u64 ((IntKind.wrap .u64 ((IntKind.wrap .u64 s)*8))+4))] hQ h
 rw[if_neg c16]at h
 refine T_cFz 32 (beq_eq_false_iff_ne.mpr c16)<| T_srz 11<| T_ed 2 [5,32] [(39,.bool (x==4))] ?_
 by_cases c19:x=4
 ·rw[if_pos c19]at h
  refine T_cTz 39 (beq_iff_eq.mpr c19)<| T_srz 12<| T_n 1 [(41,vp (some ((ad b).add 2)))] ?_
  obtain⟨q,q21,h⟩:=h
  exact T_l1 42 3 q21 [41]<| T_nr 5 [2] [vu (IntKind.wrap .u64 ((IntKind.wrap .u64 ((IntKind.wrap .u64 ((IntKind.wrap .u64 q)*256))+56))+4))] hQ h
 rw[if_neg c19]at h
 refine T_cFz 39 (beq_eq_false_iff_ne.mpr c19)<| T_k ?_
 refine S_blockEnd ?_
 refine S_then ?_
 refine T_sz ?_
 obtain⟨a,q22,h⟩:=h
 obtain⟨d,q23,h⟩:=h
 obtain⟨e,q24,h⟩:=h
 refine S_regionG 13 (Code.ops K40) [(16,((ad b).add 4),[vu a]),(16,((ad b).add 2),[vi d]),(16,((ad b).add 1),[vi e])] 16 (bv 16 0) (by kernel_rfl) (by kernel_rfl) (by kernel_rfl) (by kernel_rfl) (by kernel_rfl) (show FactsAt _ _ _ from⟨⟨q22,trivial⟩,⟨q23,trivial⟩,⟨q24,trivial⟩,trivial⟩) ?_
 refine T_gp 0 (some 47) (vp (some ((ad b).add 4))) (bv 16 1) [(1,vp (pa b)),(47,vp (some ((ad b).add 4)))]<| T_g1 1 48 (vu a) (bv 16 3) [47] (loadN 34 (vp (some ((ad b).add 4)))) (held_one 16 (λ_=>by kernel_rfl) (List.Mem.head _) (.inr (by kernel_rfl)))<| T_gp1 4 51 (vp (some ((ad b).add 2))) (bv 16 19) []<| T_g1 5 52 (vi d) (bv 16 51) [51] (loadN 3 (vp (some ((ad b).add 2)))) (held_one 16 (λ_=>by kernel_rfl) (List.Mem.tail _ (List.Mem.head _)) (.inr (by kernel_rfl)))<| T_gp1 6 53 (vu (IntKind.wrap .u64 d)) (bv 16 115) [52]<| T_gp1 7 54 (vu (IntKind.wrap .u64 ((IntKind.wrap .u64 d)*256))) (bv 16 243) [53]<| T_gp1 9 56 (vp (some ((ad b).add 1))) (bv 16 755) [1]<| T_g1 10 57 (vi e) (bv 16 1779) [56] (loadN 3 (vp (some ((ad b).add 1)))) (held_one 16 (λ_=>by kernel_rfl) (List.Mem.tail _ (List.Mem.tail _ (List.Mem.head _))) (.inr (by kernel_rfl)))<| T_gp1 11 58 (vu (IntKind.wrap .u64 e)) (bv 16 3827) [57] ?_
 refine T_gp1 12 59 (vu (IntKind.wrap .u64 ((IntKind.wrap .u64 e)*8))) (bv 16 7923) [58] ?_
 refine G_call 2 (some 49) (bv 16 7927) 164 #[vi 16] (by kernel_rfl) (λ_=>by kernel_rfl) h (by kernel_rfl) ?_;clear h
 rintro t H3 ⟨f,rfl,h⟩
 obtain⟨f25,f26,f27,h⟩:=h
 refine⟨[(48,vu a),(49,vu f),(54,vu (IntKind.wrap .u64 ((IntKind.wrap .u64 d)*256))),(59,vu (IntKind.wrap .u64 ((IntKind.wrap .u64 e)*8)))],pk,(show FactsAt _ _ _ from⟨f25,f26,f27,trivial⟩),?_⟩
 refine T_g 3 (some 50) (vu (IntKind.wrap .u64 (a*f))) (bv 16 7935) [(50,vu (IntKind.wrap .u64 (a*f))),(54,vu (IntKind.wrap .u64 ((IntKind.wrap .u64 d)*256))),(59,vu (IntKind.wrap .u64 ((IntKind.wrap .u64 e)*8)))] (pure (.value (vu (IntKind.wrap .u64 (a*f)))):Sem Next) (λ_ _ _ _ _=>rfl)<| T_g1 8 55 (vu (IntKind.wrap .u64 ((IntKind.wrap .u64 (a*f))+(IntKind.wrap .u64 ((IntKind.wrap .u64 d)*256))))) (bv 16 8191) [50,54] (pure (.value (vu (IntKind.wrap .u64 ((IntKind.wrap .u64 (a*f))+(IntKind.wrap .u64 ((IntKind.wrap .u64 d)*256)))))):Sem Next) (λ_ _ _ _ _=>rfl)<| T_g1 13 60 (vu (IntKind.wrap .u64 ((IntKind.wrap .u64 ((IntKind.wrap .u64 (a*f))+(IntKind.wrap .u64 ((IntKind.wrap .u64 d)*256))))+(IntKind.wrap .u64 ((IntKind.wrap .u64 e)*8))))) (bv 16 16383) [55,59] (pure (.value (vu (IntKind.wrap .u64 ((IntKind.wrap .u64 ((IntKind.wrap .u64 (a*f))+(IntKind.wrap .u64 ((IntKind.wrap .u64 d)*256))))+(IntKind.wrap .u64 ((IntKind.wrap .u64 e)*8)))))):Sem Next) (λ_ _ _ _ _=>rfl)<| T_g1 14 61 (vu (IntKind.wrap .u64 ((IntKind.wrap .u64 ((IntKind.wrap .u64 ((IntKind.wrap .u64 (a*f))+(IntKind.wrap .u64 ((IntKind.wrap .u64 d)*256))))+(IntKind.wrap .u64 ((IntKind.wrap .u64 e)*8))))+5))) (bv 16 32767) [60] (pure (.value (vu (IntKind.wrap .u64 ((IntKind.wrap .u64 ((IntKind.wrap .u64 ((IntKind.wrap .u64 (a*f))+(IntKind.wrap .u64 ((IntKind.wrap .u64 d)*256))))+(IntKind.wrap .u64 ((IntKind.wrap .u64 e)*8))))+5)))):Sem Next) (λ_ _ _ _ _=>rfl)<| T_g1 15 2 (vu (IntKind.wrap .u64 ((IntKind.wrap .u64 ((IntKind.wrap .u64 ((IntKind.wrap .u64 (a*f))+(IntKind.wrap .u64 ((IntKind.wrap .u64 d)*256))))+(IntKind.wrap .u64 ((IntKind.wrap .u64 e)*8))))+5))) (bv 16 65535) [61] (pure (.value (vu (IntKind.wrap .u64 ((IntKind.wrap .u64 ((IntKind.wrap .u64 ((IntKind.wrap .u64 (a*f))+(IntKind.wrap .u64 ((IntKind.wrap .u64 d)*256))))+(IntKind.wrap .u64 ((IntKind.wrap .u64 e)*8))))+5)))):Sem Next) (λ_ _ _ _ _=>rfl) ?_
 refine G_sub [(2,vu (IntKind.wrap .u64 ((IntKind.wrap .u64 ((IntKind.wrap .u64 ((IntKind.wrap .u64 (a*f))+(IntKind.wrap .u64 ((IntKind.wrap .u64 d)*256))))+(IntKind.wrap .u64 ((IntKind.wrap .u64 e)*8))))+5)))] sk ?_
 refine G_end (by kernel_rfl) ?_
 refine S_then ?_
 exact T_ret [2] [vu (IntKind.wrap .u64 ((IntKind.wrap .u64 ((IntKind.wrap .u64 ((IntKind.wrap .u64 (a*f))+(IntKind.wrap .u64 ((IntKind.wrap .u64 d)*256))))+(IntKind.wrap .u64 ((IntKind.wrap .u64 e)*8))))+5))] hQ h
end moraineref01_Word

/-! moraine/moraineref01.power -/
namespace moraineref01_power
def K0:=Func.code Tryz.f164
def K2:=cb K0
def K4:=cb K2
def K5:=ca K4
def K8:=cb K5
def K9:=ca K8
def K10:=ca K9
end moraineref01_power
def moraineref01_power.pt(nv:Int)(H:Array Obj)(R:Value->Array Obj->Prop):Prop:=
 ∃(a:Int->Int->Array Obj->Prop) (m11:Int->Int->Array Obj->Nat),a 1 0 H/\ ∀(x:Int) (i:Int) (H1:Array Obj),a x i H1->
 if i<nv then(
 (a (IntKind.wrap .u64 (x*2)) (IntKind.wrap .i64 (i+1)) H1/\m11 (IntKind.wrap .u64 (x*2)) (IntKind.wrap .i64 (i+1)) H1<m11 x i H1))
 else
 R (.int .u64 x) H1
namespace moraineref01_power
theorem link{nv:Int}{H:Array Obj}{R:Value->Array Obj->Prop}(h:pt nv H R):C nv H R:=by
 refine T_en K0 13 Tryz.func164 ?_
 intro w0 Q hQ
 unfold pt at h
 refine T_su [(0,vi nv)]<| T_srz 0<| T_ed 1 [] []<| T_srz 1<| T_ed 1 [] [(3,vu 1)]<| T_sz<| T_srz 2<| T_ed 1 [] [(4,vi 0)]<| T_bz 0 ?_
 obtain⟨a,m11,i1,i2⟩:=h
 refine S_loop (x:=K10) (σ:=Int×Int) (λs_=> [(0,vi nv),(3,vu s_.1),(4,vi s_.2)]) (λs_ H=>a s_.1 s_.2 H) (λs_ H=>m11 s_.1 s_.2 H) ((1,0):Int×Int) (by kernel_rfl) i1 sk ?_
 rintro⟨x,i⟩ H1 i3
 have h:=i2 x i H1 i3
 refine T_su [(0,vi nv),(3,vu x),(4,vi i)]<| T_sz<| T_srz 3<| T_ed 3 [] [(7,.bool (decide (i<nv)))] ?_
 by_cases c4:i<nv
 ·rw[if_pos c4]at h
  refine T_cTz 7 (decide_eq_true c4)<| T_kt<| T_sz<| T_bz 1<| T_rz 5<| T_nd 3 [3,7] [(3,vu (IntKind.wrap .u64 (x*2)))] ?_
  refine N_end (by kernel_rfl) ?_
  refine S_blockEnd ?_
  refine S_then ?_
  refine T_rz 4<| T_ed 3 [4] [(4,vi (IntKind.wrap .i64 (i+1)))] ?_
  exact S_round (((IntKind.wrap .u64 (x*2)),(IntKind.wrap .i64 (i+1))):Int×Int) sk h
 rw[if_neg c4]at h
 refine T_cFz 7 (decide_eq_false c4) ?_
 refine S_exit 0 (by kernel_rfl) ?_
 refine S_exitThen ?_
 refine S_exitThen ?_
 refine S_exitHere ?_
 refine S_then ?_
 exact T_srz 6<| T_nr 2 [2] [vu x] hQ h
end moraineref01_power

end Go.Proofs.YtibpklpgmgakcaaGreat
