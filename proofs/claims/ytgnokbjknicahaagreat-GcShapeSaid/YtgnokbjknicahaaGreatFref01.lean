/- Printed: what each function asks, and that it is sound. -/
import Derived.Test.YtgnokbjknicahaaGreatFnsC
set_option linter.unusedSimpArgs false
set_option linter.unusedVariables false
set_option maxRecDepth 100000
set_option maxHeartbeats 1000000
noncomputable section
namespace Go.Proofs.YtgnokbjknicahaaGreat
open Go
/-! moraine/moraineref01.Of -/
namespace moraineref01_Of
def K0:=Func.code Tryz.f116
end moraineref01_Of
def moraineref01_Of.pt(wv:Int)(H:zV)(R:zk):Prop:=
 ∀(b:Nat) (H1:zV),b=H.size->H1=H.push (.cells #[.int .i64 0,.int .i64 0,.int .i64 0,.int .i64 0,.int .u64 0] 184)->
 if(zY (Int.tmod wv 8))=0 then(
 moraineref01_power.C 60 H1 (λv H2=> ∃x:Int,v=.int .u64 x/\
 if(IntKind.wrap .u64 (Int.tdiv wv 8))>=x then(
 moraineref01_power.C 61 H2 (λbe H3=> ∃ak:Int,be=.int .u64 ak/\
 (CanPuts H3 (ad b) 0 5)/\ ∀H4,H4=hputs H3 (ad b) [.int .i64 1,.int .i64 0,.int .i64 0,.int .i64 (zY (0-(zY (IntKind.wrap .u64 (ak-(IntKind.wrap .u64 (Int.tdiv wv 8))))))),.int .u64 0] 0->
 ∃an az rA rX am:Int,RowAt H4 (ad b) 0 [.int .i64 an,.int .i64 az,.int .i64 rA,.int .i64 rX,.int .u64 am]/\
 R (.agg #[.int .i64 an,.int .i64 az,.int .i64 rA,.int .i64 rX,.int .u64 am]) H4))
 else
 (CanPuts H2 (ad b) 0 5)/\ ∀H5,H5=hputs H2 (ad b) [.int .i64 1,.int .i64 0,.int .i64 0,.int .i64 (zY (IntKind.wrap .u64 (Int.tdiv wv 8))),.int .u64 0] 0->
 ∃z af a0 a2 f:Int,RowAt H5 (ad b) 0 [.int .i64 z,.int .i64 af,.int .i64 a0,.int .i64 a2,.int .u64 f]/\
 R (.agg #[.int .i64 z,.int .i64 af,.int .i64 a0,.int .i64 a2,.int .u64 f]) H5))
 else
 ∃J:Bool->zV->Prop,(
 if(zY (Int.tmod wv 8))=1 then(
 J true H1)
 else
 if(zY (Int.tmod wv 8))=2 then(
 J true H1)
 else
 if(zY (Int.tmod wv 8))=3 then(
 J true H1)
 else
 J ((zY (Int.tmod wv 8))==6) H1)/\ ∀(aj:Bool) (H6:zV),J aj H6->
 if aj=true then(
 if(IntKind.wrap .u64 (Int.tdiv wv 8))<65536 then(
 (CanPuts H6 (ad b) 0 5)/\ ∀H7,H7=hputs H6 (ad b) [.int .i64 2,.int .i64 (zY (Int.tmod wv 8)),.int .i64 (zY (IntKind.wrap .u64 (Int.tdiv wv 8))),.int .i64 0,.int .u64 0] 0->
 ∃k ag a4 aw p:Int,RowAt H7 (ad b) 0 [.int .i64 k,.int .i64 ag,.int .i64 a4,.int .i64 aw,.int .u64 p]/\
 R (.agg #[.int .i64 k,.int .i64 ag,.int .i64 a4,.int .i64 aw,.int .u64 p]) H7)
 else
 (CanPuts H6 (ad b) 0 5)/\ ∀H8,H8=hputs H6 (ad b) [.int .i64 0,.int .i64 0,.int .i64 0,.int .i64 0,.int .u64 0] 0->
 ∃j ab ax a5 y:Int,RowAt H8 (ad b) 0 [.int .i64 j,.int .i64 ab,.int .i64 ax,.int .i64 a5,.int .u64 y]/\
 R (.agg #[.int .i64 j,.int .i64 ab,.int .i64 ax,.int .i64 a5,.int .u64 y]) H8)
 else
 if(zY (Int.tmod wv 8))=4 then(
 if((decide ((zY (Int.tmod (IntKind.wrap .u64 (Int.tdiv wv 8)) 32))<7)) && ((IntKind.wrap .u64 (Int.tdiv (IntKind.wrap .u64 (Int.tdiv wv 8)) 32))==0))=true then(
 (CanPuts H6 (ad b) 0 5)/\ ∀H9,H9=hputs H6 (ad b) [.int .i64 3,.int .i64 0,.int .i64 (zY (Int.tmod (IntKind.wrap .u64 (Int.tdiv wv 8)) 32)),.int .i64 0,.int .u64 0] 0->
 ∃s ai av ay u:Int,RowAt H9 (ad b) 0 [.int .i64 s,.int .i64 ai,.int .i64 av,.int .i64 ay,.int .u64 u]/\
 R (.agg #[.int .i64 s,.int .i64 ai,.int .i64 av,.int .i64 ay,.int .u64 u]) H9)
 else
 if((((zY (Int.tmod (IntKind.wrap .u64 (Int.tdiv wv 8)) 32))==7) && (decide ((IntKind.wrap .u64 (Int.tdiv (IntKind.wrap .u64 (Int.tdiv wv 8)) 32))<=1114111))) && ((decide ((IntKind.wrap .u64 (Int.tdiv (IntKind.wrap .u64 (Int.tdiv wv 8)) 32))<55296)) || (decide ((IntKind.wrap .u64 (Int.tdiv (IntKind.wrap .u64 (Int.tdiv wv 8)) 32))>57343))))=true then(
 (CanPuts H6 (ad b) 0 5)/\ ∀ba,ba=hputs H6 (ad b) [.int .i64 4,.int .i64 0,.int .i64 (zY (IntKind.wrap .u64 (Int.tdiv (IntKind.wrap .u64 (Int.tdiv wv 8)) 32))),.int .i64 0,.int .u64 0] 0->
 ∃n ae a1 a7 g:Int,RowAt ba (ad b) 0 [.int .i64 n,.int .i64 ae,.int .i64 a1,.int .i64 a7,.int .u64 g]/\
 R (.agg #[.int .i64 n,.int .i64 ae,.int .i64 a1,.int .i64 a7,.int .u64 g]) ba)
 else
 (CanPuts H6 (ad b) 0 5)/\ ∀bb,bb=hputs H6 (ad b) [.int .i64 0,.int .i64 0,.int .i64 0,.int .i64 0,.int .u64 0] 0->
 ∃m ac aq a3 t:Int,RowAt bb (ad b) 0 [.int .i64 m,.int .i64 ac,.int .i64 aq,.int .i64 a3,.int .u64 t]/\
 R (.agg #[.int .i64 m,.int .i64 ac,.int .i64 aq,.int .i64 a3,.int .u64 t]) bb)
 else
 if(zY (Int.tmod wv 8))=5 then(
 if(((decide ((zY (Int.tmod (IntKind.wrap .u64 (Int.tdiv wv 8)) 32))>=1)) && (decide ((zY (Int.tmod (IntKind.wrap .u64 (Int.tdiv wv 8)) 32))<=13))) && (decide ((zY (Int.tmod (IntKind.wrap .u64 (Int.tdiv (IntKind.wrap .u64 (Int.tdiv wv 8)) 32)) 256))<=62)))=true then(
 (CanPuts H6 (ad b) 0 5)/\ ∀bc,bc=hputs H6 (ad b) [.int .i64 5,.int .i64 (zY (Int.tmod (IntKind.wrap .u64 (Int.tdiv wv 8)) 32)),.int .i64 (zY (Int.tmod (IntKind.wrap .u64 (Int.tdiv (IntKind.wrap .u64 (Int.tdiv wv 8)) 32)) 256)),.int .i64 0,.int .u64 (IntKind.wrap .u64 (Int.tdiv (IntKind.wrap .u64 (Int.tdiv (IntKind.wrap .u64 (Int.tdiv wv 8)) 32)) 256))] 0->
 ∃i aa ap a6 o:Int,RowAt bc (ad b) 0 [.int .i64 i,.int .i64 aa,.int .i64 ap,.int .i64 a6,.int .u64 o]/\
 R (.agg #[.int .i64 i,.int .i64 aa,.int .i64 ap,.int .i64 a6,.int .u64 o]) bc)
 else
 (CanPuts H6 (ad b) 0 5)/\ ∀bd,bd=hputs H6 (ad b) [.int .i64 0,.int .i64 0,.int .i64 0,.int .i64 0,.int .u64 0] 0->
 ∃l ah au a8 q:Int,RowAt bd (ad b) 0 [.int .i64 l,.int .i64 ah,.int .i64 au,.int .i64 a8,.int .u64 q]/\
 R (.agg #[.int .i64 l,.int .i64 ah,.int .i64 au,.int .i64 a8,.int .u64 q]) bd)
 else
 (CanPuts H6 (ad b) 0 5)/\ ∀a9,a9=hputs H6 (ad b) [.int .i64 0,.int .i64 0,.int .i64 0,.int .i64 0,.int .u64 0] 0->
 ∃a r ao al d:Int,RowAt a9 (ad b) 0 [.int .i64 a,.int .i64 r,.int .i64 ao,.int .i64 al,.int .u64 d]/\
 R (.agg #[.int .i64 a,.int .i64 r,.int .i64 ao,.int .i64 al,.int .u64 d]) a9
namespace moraineref01_Of
theorem link{wv:Int}{H:zV}{R:zk}(h:pt wv H R):C wv H R:=by
 refine T_en K0 94 Tryz.func116 ?_
 intro w0 Q hQ
 unfold pt zY at h
 refine T_su [(0,vu wv)]<| T_srz 0<| T_nw (some 2) (λb=>vp (pa b)) (.cells #[vi 0,vi 0,vi 0,vi 0,vu 0] 184) ?_
 intro b H1 e1 e2
 replace h:=h b H1 e1 e2
 refine T_pd [] [(2,vp (pa b))]<| T_e<| T_srz 1<| T_ed 2 [0] [(3,vu wv)]<| T_srz 2<| T_ed 7 [3] [(4,vi (zY (Int.tmod wv 8))),(5,vu (IntKind.wrap .u64 (Int.tdiv wv 8)))]<| T_srz 3<| T_ed 7 [] [(6,vi (zY (Int.tmod (IntKind.wrap .u64 (Int.tdiv wv 8)) 32))),(7,vu (IntKind.wrap .u64 (Int.tdiv (IntKind.wrap .u64 (Int.tdiv wv 8)) 32)))]<| T_sz<| T_srz 4<| T_ed 1 [] [(20,vi (zY (Int.tmod wv 8)))]<| T_bz 0<| T_srz 5<| T_ed 2 [] [(21,.bool ((zY (Int.tmod wv 8))==0))] ?_
 by_cases c3:(zY (Int.tmod wv 8))=0
 ·rw[if_pos c3]at h
  refine T_cTz 21 (zK c3)<| T_sz<| T_srz 6<| T_nd 1 [4,6,7,20,21] [(23,vu (IntKind.wrap .u64 (Int.tdiv wv 8)))]<| T_c (some 24) h ?_;clear h
  rintro v H2 ⟨x,rfl,h⟩
  refine T_pd [] [(24,vu x)]<| T_ed 1 [23,24] [(25,.bool (decide ((IntKind.wrap .u64 (Int.tdiv wv 8))>=x)))] ?_
  by_cases c5:(IntKind.wrap .u64 (Int.tdiv wv 8))>=x
  ·rw[if_pos c5]at h
   refine T_cTz 25 (zX c5)<| T_srz 7<| T_ud [25] []<| T_c (some 26) h ?_;clear h
   rintro be H3 ⟨ak,rfl,h⟩
   refine T_pd [] [(26,vu ak)]<| T_nd 5 [5,26] [(31,.agg #[vi 1,vi 0,vi 0,vi (zY (0-(zY (IntKind.wrap .u64 (ak-(IntKind.wrap .u64 (Int.tdiv wv 8))))))),vu 0])] ?_
   obtain⟨q8,h⟩:=h
   refine T_sta 184 [vi 1,vi 0,vi 0,vi (zY (0-(zY (IntKind.wrap .u64 (ak-(IntKind.wrap .u64 (Int.tdiv wv 8))))))),vu 0] q8 ?_
   intro H4 e7
   replace h:=h H4 e7
   refine T_pd [31] []<| T_e<| zx ?_
   show At _ _ _ _ _ (Q .ret)
   obtain⟨an,az,rA,rX,am,q9,h⟩:=h
   exact S_done (fn:=Tryz.f116) [.agg #[vi an,vi az,vi rA,vi rX,vu am]] hQ (show ResOK _ _ _ [.cell 2 184] _ from .cell (by kernel_rfl) (loadOK_row (λ_=>by kernel_rfl) (λ_=>by kernel_rfl) q9) (.nil)) h
  rw[if_neg c5]at h
  refine T_cFz 25 (zQ c5)<| T_kt<| T_srz 8<| T_nd 3 [5,25] [(34,.agg #[vi 1,vi 0,vi 0,vi (zY (IntKind.wrap .u64 (Int.tdiv wv 8))),vu 0])] ?_
  obtain⟨q11,h⟩:=h
  refine T_sta 184 [vi 1,vi 0,vi 0,vi (zY (IntKind.wrap .u64 (Int.tdiv wv 8))),vu 0] q11 ?_
  intro H5 e10
  replace h:=h H5 e10
  refine T_pd [34] []<| T_e<| zx ?_
  show At _ _ _ _ _ (Q .ret)
  obtain⟨z,af,a0,a2,f,q12,h⟩:=h
  exact S_done (fn:=Tryz.f116) [.agg #[vi z,vi af,vi a0,vi a2,vu f]] hQ (show ResOK _ _ _ [.cell 2 184] _ from .cell (by kernel_rfl) (loadOK_row (λ_=>by kernel_rfl) (λ_=>by kernel_rfl) q12) (.nil)) h
 rw[if_neg c3]at h
 refine T_cFz 21 (zJ c3)<| T_sz<| T_srz 9<| T_ne 2 [(2,vp (pa b)),(4,vi (zY (Int.tmod wv 8))),(5,vu (IntKind.wrap .u64 (Int.tdiv wv 8))),(6,vi (zY (Int.tmod (IntKind.wrap .u64 (Int.tdiv wv 8)) 32))),(7,vu (IntKind.wrap .u64 (Int.tdiv (IntKind.wrap .u64 (Int.tdiv wv 8)) 32))),(20,vi (zY (Int.tmod wv 8))),(35,.bool ((zY (Int.tmod wv 8))==1))] ?_
 obtain⟨J,h,j14⟩:=h
 refine S_join (σ:=Bool) (λs_=> [(2,vp (pa b)),(4,vi (zY (Int.tmod wv 8))),(5,vu (IntKind.wrap .u64 (Int.tdiv wv 8))),(6,vi (zY (Int.tmod (IntKind.wrap .u64 (Int.tdiv wv 8)) 32))),(7,vu (IntKind.wrap .u64 (Int.tdiv (IntKind.wrap .u64 (Int.tdiv wv 8)) 32))),(20,vi (zY (Int.tmod wv 8))),(35,.bool s_)]) (λs_ H=>J s_ H) ?_ ?_
 ·rintro aj H6 j15
  replace h:=j14 aj H6 j15
  refine T_su [(2,vp (pa b)),(4,vi (zY (Int.tmod wv 8))),(5,vu (IntKind.wrap .u64 (Int.tdiv wv 8))),(6,vi (zY (Int.tmod (IntKind.wrap .u64 (Int.tdiv wv 8)) 32))),(7,vu (IntKind.wrap .u64 (Int.tdiv (IntKind.wrap .u64 (Int.tdiv wv 8)) 32))),(20,vi (zY (Int.tmod wv 8))),(35,.bool aj)]<| S_then ?_
  by_cases c16:aj=true
  ·rw[if_pos c16]at h
   have b17:aj=true:=c16
   refine S_env [(2,vp (pa b)),(4,vi (zY (Int.tmod wv 8))),(5,vu (IntKind.wrap .u64 (Int.tdiv wv 8))),(6,vi (zY (Int.tmod (IntKind.wrap .u64 (Int.tdiv wv 8)) 32))),(7,vu (IntKind.wrap .u64 (Int.tdiv (IntKind.wrap .u64 (Int.tdiv wv 8)) 32))),(20,vi (zY (Int.tmod wv 8))),(35,.bool true)] (by rw[b17]) ?_
   clear b17
   refine T_tz 35<| T_srz 13<| T_ed 2 [6,7,20,35] [(41,.bool (decide ((IntKind.wrap .u64 (Int.tdiv wv 8))<65536)))] ?_
   by_cases c18:(IntKind.wrap .u64 (Int.tdiv wv 8))<65536
   ·rw[if_pos c18]at h
    refine T_cTz 41 (zX c18)<| T_srz 14<| T_nd 4 [4,5,41] [(45,.agg #[vi 2,vi (zY (Int.tmod wv 8)),vi (zY (IntKind.wrap .u64 (Int.tdiv wv 8))),vi 0,vu 0])] ?_
    obtain⟨q21,h⟩:=h
    refine T_sta 184 [vi 2,vi (zY (Int.tmod wv 8)),vi (zY (IntKind.wrap .u64 (Int.tdiv wv 8))),vi 0,vu 0] q21 ?_
    intro H7 e20
    replace h:=h H7 e20
    refine T_pd [45] []<| T_e<| zx ?_
    show At _ _ _ _ _ (Q .ret)
    obtain⟨k,ag,a4,aw,p,q22,h⟩:=h
    exact S_done (fn:=Tryz.f116) [.agg #[vi k,vi ag,vi a4,vi aw,vu p]] hQ (show ResOK _ _ _ [.cell 2 184] _ from .cell (by kernel_rfl) (loadOK_row (λ_=>by kernel_rfl) (λ_=>by kernel_rfl) q22) (.nil)) h
   rw[if_neg c18]at h
   refine T_cFz 41 (zQ c18)<| T_k<| S_blockEnd<| S_then<| T_srz 24<| T_nd 1 [4,5,41] [(93,.agg #[vi 0,vi 0,vi 0,vi 0,vu 0])] ?_
   obtain⟨q24,h⟩:=h
   refine T_sta 184 [vi 0,vi 0,vi 0,vi 0,vu 0] q24 ?_
   intro H8 e23
   replace h:=h H8 e23
   refine T_pd [93] []<| T_e<| zx ?_
   show At _ _ _ _ _ (Q .ret)
   obtain⟨j,ab,ax,a5,y,q25,h⟩:=h
   exact S_done (fn:=Tryz.f116) [.agg #[vi j,vi ab,vi ax,vi a5,vu y]] hQ (show ResOK _ _ _ [.cell 2 184] _ from .cell (by kernel_rfl) (loadOK_row (λ_=>by kernel_rfl) (λ_=>by kernel_rfl) q25) (.nil)) h
  rw[if_neg c16]at h
  have b17:aj=false:=zZ c16
  refine S_env [(2,vp (pa b)),(4,vi (zY (Int.tmod wv 8))),(5,vu (IntKind.wrap .u64 (Int.tdiv wv 8))),(6,vi (zY (Int.tmod (IntKind.wrap .u64 (Int.tdiv wv 8)) 32))),(7,vu (IntKind.wrap .u64 (Int.tdiv (IntKind.wrap .u64 (Int.tdiv wv 8)) 32))),(20,vi (zY (Int.tmod wv 8))),(35,.bool false)] (by rw[b17]) ?_
  clear b17
  refine T_fz 35<| T_srz 15<| T_ed 2 [4,5,35] [(46,.bool ((zY (Int.tmod wv 8))==4))] ?_
  by_cases c26:(zY (Int.tmod wv 8))=4
  ·rw[if_pos c26]at h
   refine T_cTz 46 (zK c26)<| T_sz<| T_srz 16 ?_
   refine N_cut [(2,vp (pa b)),(6,vi (zY (Int.tmod (IntKind.wrap .u64 (Int.tdiv wv 8)) 32))),(7,vu (IntKind.wrap .u64 (Int.tdiv (IntKind.wrap .u64 (Int.tdiv wv 8)) 32))),(53,.bool ((decide ((zY (Int.tmod (IntKind.wrap .u64 (Int.tdiv wv 8)) 32))<7)) && ((IntKind.wrap .u64 (Int.tdiv (IntKind.wrap .u64 (Int.tdiv wv 8)) 32))==0)))] ?_ ?_
   ·refine S_then ?_
    by_cases c30:((decide ((zY (Int.tmod (IntKind.wrap .u64 (Int.tdiv wv 8)) 32))<7)) && ((IntKind.wrap .u64 (Int.tdiv (IntKind.wrap .u64 (Int.tdiv wv 8)) 32))==0))=true
    ·rw[if_pos c30]at h
     refine T_cTz 53 c30<| T_srz 17<| T_n 2 [(2,vp (pa b)),(55,.agg #[vi 3,vi 0,vi (zY (Int.tmod (IntKind.wrap .u64 (Int.tdiv wv 8)) 32)),vi 0,vu 0])] ?_
     obtain⟨q33,h⟩:=h
     refine T_sta 184 [vi 3,vi 0,vi (zY (Int.tmod (IntKind.wrap .u64 (Int.tdiv wv 8)) 32)),vi 0,vu 0] q33 ?_
     intro H9 e32
     replace h:=h H9 e32
     refine T_pd [55] []<| T_e<| zx ?_
     show At _ _ _ _ _ (Q .ret)
     obtain⟨s,ai,av,ay,u,q34,h⟩:=h
     exact S_done (fn:=Tryz.f116) [.agg #[vi s,vi ai,vi av,vi ay,vu u]] hQ (show ResOK _ _ _ [.cell 2 184] _ from .cell (by kernel_rfl) (loadOK_row (λ_=>by kernel_rfl) (λ_=>by kernel_rfl) q34) (.nil)) h
    rw[if_neg c30]at h
    refine T_cFz 53 (zZ c30)<| T_kt<| T_srz 18 ?_
    refine N_cut [(2,vp (pa b)),(7,vu (IntKind.wrap .u64 (Int.tdiv (IntKind.wrap .u64 (Int.tdiv wv 8)) 32))),(69,.bool ((((zY (Int.tmod (IntKind.wrap .u64 (Int.tdiv wv 8)) 32))==7) && (decide ((IntKind.wrap .u64 (Int.tdiv (IntKind.wrap .u64 (Int.tdiv wv 8)) 32))<=1114111))) && ((decide ((IntKind.wrap .u64 (Int.tdiv (IntKind.wrap .u64 (Int.tdiv wv 8)) 32))<55296)) || (decide ((IntKind.wrap .u64 (Int.tdiv (IntKind.wrap .u64 (Int.tdiv wv 8)) 32))>57343)))))] ?_ ?_
    ·refine S_then ?_
     by_cases c41:((((zY (Int.tmod (IntKind.wrap .u64 (Int.tdiv wv 8)) 32))==7) && (decide ((IntKind.wrap .u64 (Int.tdiv (IntKind.wrap .u64 (Int.tdiv wv 8)) 32))<=1114111))) && ((decide ((IntKind.wrap .u64 (Int.tdiv (IntKind.wrap .u64 (Int.tdiv wv 8)) 32))<55296)) || (decide ((IntKind.wrap .u64 (Int.tdiv (IntKind.wrap .u64 (Int.tdiv wv 8)) 32))>57343))))=true
     ·rw[if_pos c41]at h
      refine T_cTz 69 c41<| T_srz 19<| T_n 3 [(2,vp (pa b)),(72,.agg #[vi 4,vi 0,vi (zY (IntKind.wrap .u64 (Int.tdiv (IntKind.wrap .u64 (Int.tdiv wv 8)) 32))),vi 0,vu 0])] ?_
      obtain⟨q44,h⟩:=h
      refine T_sta 184 [vi 4,vi 0,vi (zY (IntKind.wrap .u64 (Int.tdiv (IntKind.wrap .u64 (Int.tdiv wv 8)) 32))),vi 0,vu 0] q44 ?_
      intro ba e43
      replace h:=h ba e43
      refine T_pd [72] []<| T_e<| zx ?_
      show At _ _ _ _ _ (Q .ret)
      obtain⟨n,ae,a1,a7,g,q45,h⟩:=h
      exact S_done (fn:=Tryz.f116) [.agg #[vi n,vi ae,vi a1,vi a7,vu g]] hQ (show ResOK _ _ _ [.cell 2 184] _ from .cell (by kernel_rfl) (loadOK_row (λ_=>by kernel_rfl) (λ_=>by kernel_rfl) q45) (.nil)) h
     rw[if_neg c41]at h
     refine T_cFz 69 (zZ c41)<| T_k<| S_blockEnd<| S_then<| T_srz 24<| T_n 1 [(2,vp (pa b)),(93,.agg #[vi 0,vi 0,vi 0,vi 0,vu 0])] ?_
     obtain⟨q47,h⟩:=h
     refine T_sta 184 [vi 0,vi 0,vi 0,vi 0,vu 0] q47 ?_
     intro bb e46
     replace h:=h bb e46
     refine T_pd [93] []<| T_e<| zx ?_
     show At _ _ _ _ _ (Q .ret)
     obtain⟨m,ac,aq,a3,t,q48,h⟩:=h
     exact S_done (fn:=Tryz.f116) [.agg #[vi m,vi ac,vi aq,vi a3,vu t]] hQ (show ResOK _ _ _ [.cell 2 184] _ from .cell (by kernel_rfl) (loadOK_row (λ_=>by kernel_rfl) (λ_=>by kernel_rfl) q48) (.nil)) h
    intro hk
    refine T_n 3 [(2,vp (pa b)),(7,vu (IntKind.wrap .u64 (Int.tdiv (IntKind.wrap .u64 (Int.tdiv wv 8)) 32))),(58,.bool ((zY (Int.tmod (IntKind.wrap .u64 (Int.tdiv wv 8)) 32))==7))] ?_
    by_cases c35:(zY (Int.tmod (IntKind.wrap .u64 (Int.tdiv wv 8)) 32))=7
    ·have b36:((zY (Int.tmod (IntKind.wrap .u64 (Int.tdiv wv 8)) 32))==7)=true:=zK c35
     refine N_env [(2,vp (pa b)),(7,vu (IntKind.wrap .u64 (Int.tdiv (IntKind.wrap .u64 (Int.tdiv wv 8)) 32))),(58,.bool true)] (by rw[b36]) ?_
     refine T_nd 4 [58] [(62,.bool (decide ((IntKind.wrap .u64 (Int.tdiv (IntKind.wrap .u64 (Int.tdiv wv 8)) 32))<=1114111)))] ?_
     by_cases c37:(IntKind.wrap .u64 (Int.tdiv (IntKind.wrap .u64 (Int.tdiv wv 8)) 32))<=1114111
     ·have b38:(decide ((IntKind.wrap .u64 (Int.tdiv (IntKind.wrap .u64 (Int.tdiv wv 8)) 32))<=1114111))=true:=zX c37
      refine N_bd 62 b38<| T_nd 3 [] [(65,.bool (decide ((IntKind.wrap .u64 (Int.tdiv (IntKind.wrap .u64 (Int.tdiv wv 8)) 32))<55296)))] ?_
      by_cases c39:(IntKind.wrap .u64 (Int.tdiv (IntKind.wrap .u64 (Int.tdiv wv 8)) 32))<55296
      ·have b40:(decide ((IntKind.wrap .u64 (Int.tdiv (IntKind.wrap .u64 (Int.tdiv wv 8)) 32))<55296))=true:=zX c39
       refine N_bd 65 b40<| T_nd 4 [62,65] [(69,.bool true)] ?_
       refine zq<| S_bd 69 (b:=true) (v:=((((zY (Int.tmod (IntKind.wrap .u64 (Int.tdiv wv 8)) 32))==7) && (decide ((IntKind.wrap .u64 (Int.tdiv (IntKind.wrap .u64 (Int.tdiv wv 8)) 32))<=1114111))) && ((decide ((IntKind.wrap .u64 (Int.tdiv (IntKind.wrap .u64 (Int.tdiv wv 8)) 32))<55296)) || (decide ((IntKind.wrap .u64 (Int.tdiv (IntKind.wrap .u64 (Int.tdiv wv 8)) 32))>57343))))) (by simp only[b36,b38,b40,BL]) ?_
       exact hk
      have b40:(decide ((IntKind.wrap .u64 (Int.tdiv (IntKind.wrap .u64 (Int.tdiv wv 8)) 32))<55296))=false:=zQ c39
      refine N_bd 65 b40<| T_nd 4 [62,65] [(69,.bool (decide ((IntKind.wrap .u64 (Int.tdiv (IntKind.wrap .u64 (Int.tdiv wv 8)) 32))>57343)))] ?_
      refine zq<| S_bd 69 (b:=(decide ((IntKind.wrap .u64 (Int.tdiv (IntKind.wrap .u64 (Int.tdiv wv 8)) 32))>57343))) (v:=((((zY (Int.tmod (IntKind.wrap .u64 (Int.tdiv wv 8)) 32))==7) && (decide ((IntKind.wrap .u64 (Int.tdiv (IntKind.wrap .u64 (Int.tdiv wv 8)) 32))<=1114111))) && ((decide ((IntKind.wrap .u64 (Int.tdiv (IntKind.wrap .u64 (Int.tdiv wv 8)) 32))<55296)) || (decide ((IntKind.wrap .u64 (Int.tdiv (IntKind.wrap .u64 (Int.tdiv wv 8)) 32))>57343))))) (by simp only[b36,b38,b40,BL]) ?_
      exact hk
     have b38:(decide ((IntKind.wrap .u64 (Int.tdiv (IntKind.wrap .u64 (Int.tdiv wv 8)) 32))<=1114111))=false:=zQ c37
     refine N_bd 62 b38<| T_nd 7 [62] [(69,.bool false)] ?_
     refine zq<| S_bd 69 (b:=false) (v:=((((zY (Int.tmod (IntKind.wrap .u64 (Int.tdiv wv 8)) 32))==7) && (decide ((IntKind.wrap .u64 (Int.tdiv (IntKind.wrap .u64 (Int.tdiv wv 8)) 32))<=1114111))) && ((decide ((IntKind.wrap .u64 (Int.tdiv (IntKind.wrap .u64 (Int.tdiv wv 8)) 32))<55296)) || (decide ((IntKind.wrap .u64 (Int.tdiv (IntKind.wrap .u64 (Int.tdiv wv 8)) 32))>57343))))) (by simp only[b36,b38,BL]) ?_
     exact hk
    have b36:((zY (Int.tmod (IntKind.wrap .u64 (Int.tdiv wv 8)) 32))==7)=false:=zJ c35
    refine N_env [(2,vp (pa b)),(7,vu (IntKind.wrap .u64 (Int.tdiv (IntKind.wrap .u64 (Int.tdiv wv 8)) 32))),(58,.bool false)] (by rw[b36]) ?_
    refine T_nd 11 [58] [(69,.bool false)]<| zq<| S_bd 69 (b:=false) (v:=((((zY (Int.tmod (IntKind.wrap .u64 (Int.tdiv wv 8)) 32))==7) && (decide ((IntKind.wrap .u64 (Int.tdiv (IntKind.wrap .u64 (Int.tdiv wv 8)) 32))<=1114111))) && ((decide ((IntKind.wrap .u64 (Int.tdiv (IntKind.wrap .u64 (Int.tdiv wv 8)) 32))<55296)) || (decide ((IntKind.wrap .u64 (Int.tdiv (IntKind.wrap .u64 (Int.tdiv wv 8)) 32))>57343))))) (by simp only[b36,BL]) ?_
    exact hk
   intro hk
   refine T_n 3 [(2,vp (pa b)),(6,vi (zY (Int.tmod (IntKind.wrap .u64 (Int.tdiv wv 8)) 32))),(7,vu (IntKind.wrap .u64 (Int.tdiv (IntKind.wrap .u64 (Int.tdiv wv 8)) 32))),(50,.bool (decide ((zY (Int.tmod (IntKind.wrap .u64 (Int.tdiv wv 8)) 32))<7)))] ?_
   by_cases c28:(zY (Int.tmod (IntKind.wrap .u64 (Int.tdiv wv 8)) 32))<7
   ·have b29:(decide ((zY (Int.tmod (IntKind.wrap .u64 (Int.tdiv wv 8)) 32))<7))=true:=zX c28
    refine N_env [(2,vp (pa b)),(6,vi (zY (Int.tmod (IntKind.wrap .u64 (Int.tdiv wv 8)) 32))),(7,vu (IntKind.wrap .u64 (Int.tdiv (IntKind.wrap .u64 (Int.tdiv wv 8)) 32))),(50,.bool true)] (by rw[b29]) ?_
    refine T_nd 3 [50] [(53,.bool ((IntKind.wrap .u64 (Int.tdiv (IntKind.wrap .u64 (Int.tdiv wv 8)) 32))==0))]<| zq<| S_bd 53 (b:=((IntKind.wrap .u64 (Int.tdiv (IntKind.wrap .u64 (Int.tdiv wv 8)) 32))==0)) (v:=((decide ((zY (Int.tmod (IntKind.wrap .u64 (Int.tdiv wv 8)) 32))<7)) && ((IntKind.wrap .u64 (Int.tdiv (IntKind.wrap .u64 (Int.tdiv wv 8)) 32))==0))) (by simp only[b29,BL]) ?_
    exact hk
   have b29:(decide ((zY (Int.tmod (IntKind.wrap .u64 (Int.tdiv wv 8)) 32))<7))=false:=zQ c28
   refine N_env [(2,vp (pa b)),(6,vi (zY (Int.tmod (IntKind.wrap .u64 (Int.tdiv wv 8)) 32))),(7,vu (IntKind.wrap .u64 (Int.tdiv (IntKind.wrap .u64 (Int.tdiv wv 8)) 32))),(50,.bool false)] (by rw[b29]) ?_
   refine T_nd 3 [50] [(53,.bool false)]<| zq<| S_bd 53 (b:=false) (v:=((decide ((zY (Int.tmod (IntKind.wrap .u64 (Int.tdiv wv 8)) 32))<7)) && ((IntKind.wrap .u64 (Int.tdiv (IntKind.wrap .u64 (Int.tdiv wv 8)) 32))==0))) (by simp only[b29,BL]) ?_
   exact hk
  rw[if_neg c26]at h
  refine T_cFz 46 (zJ c26)<| T_srz 20<| T_ed 2 [20,46] [(73,.bool ((zY (Int.tmod wv 8))==5))] ?_
  by_cases c49:(zY (Int.tmod wv 8))=5
  ·rw[if_pos c49]at h
   refine T_cTz 73 (zK c49)<| T_srz 21<| T_ed 4 [73] [(8,vi (zY (Int.tmod (IntKind.wrap .u64 (Int.tdiv (IntKind.wrap .u64 (Int.tdiv wv 8)) 32)) 256)))]<| T_srz 22 ?_
   refine N_cut [(2,vp (pa b)),(6,vi (zY (Int.tmod (IntKind.wrap .u64 (Int.tdiv wv 8)) 32))),(7,vu (IntKind.wrap .u64 (Int.tdiv (IntKind.wrap .u64 (Int.tdiv wv 8)) 32))),(8,vi (zY (Int.tmod (IntKind.wrap .u64 (Int.tdiv (IntKind.wrap .u64 (Int.tdiv wv 8)) 32)) 256))),(87,.bool (((decide ((zY (Int.tmod (IntKind.wrap .u64 (Int.tdiv wv 8)) 32))>=1)) && (decide ((zY (Int.tmod (IntKind.wrap .u64 (Int.tdiv wv 8)) 32))<=13))) && (decide ((zY (Int.tmod (IntKind.wrap .u64 (Int.tdiv (IntKind.wrap .u64 (Int.tdiv wv 8)) 32)) 256))<=62))))] ?_ ?_
   ·refine S_then ?_
    by_cases c55:(((decide ((zY (Int.tmod (IntKind.wrap .u64 (Int.tdiv wv 8)) 32))>=1)) && (decide ((zY (Int.tmod (IntKind.wrap .u64 (Int.tdiv wv 8)) 32))<=13))) && (decide ((zY (Int.tmod (IntKind.wrap .u64 (Int.tdiv (IntKind.wrap .u64 (Int.tdiv wv 8)) 32)) 256))<=62)))=true
    ·rw[if_pos c55]at h
     refine T_cTz 87 c55<| T_srz 23<| T_n 5 [(2,vp (pa b)),(92,.agg #[vi 5,vi (zY (Int.tmod (IntKind.wrap .u64 (Int.tdiv wv 8)) 32)),vi (zY (Int.tmod (IntKind.wrap .u64 (Int.tdiv (IntKind.wrap .u64 (Int.tdiv wv 8)) 32)) 256)),vi 0,vu (IntKind.wrap .u64 (Int.tdiv (IntKind.wrap .u64 (Int.tdiv (IntKind.wrap .u64 (Int.tdiv wv 8)) 32)) 256))])] ?_
     obtain⟨q58,h⟩:=h
     refine T_sta 184 [vi 5,vi (zY (Int.tmod (IntKind.wrap .u64 (Int.tdiv wv 8)) 32)),vi (zY (Int.tmod (IntKind.wrap .u64 (Int.tdiv (IntKind.wrap .u64 (Int.tdiv wv 8)) 32)) 256)),vi 0,vu (IntKind.wrap .u64 (Int.tdiv (IntKind.wrap .u64 (Int.tdiv (IntKind.wrap .u64 (Int.tdiv wv 8)) 32)) 256))] q58 ?_
     intro bc e57
     replace h:=h bc e57
     refine T_pd [92] []<| T_e<| zx ?_
     show At _ _ _ _ _ (Q .ret)
     obtain⟨i,aa,ap,a6,o,q59,h⟩:=h
     exact S_done (fn:=Tryz.f116) [.agg #[vi i,vi aa,vi ap,vi a6,vu o]] hQ (show ResOK _ _ _ [.cell 2 184] _ from .cell (by kernel_rfl) (loadOK_row (λ_=>by kernel_rfl) (λ_=>by kernel_rfl) q59) (.nil)) h
    rw[if_neg c55]at h
    refine T_cFz 87 (zZ c55)<| T_k<| S_blockEnd<| S_then<| T_srz 24<| T_n 1 [(2,vp (pa b)),(93,.agg #[vi 0,vi 0,vi 0,vi 0,vu 0])] ?_
    obtain⟨q61,h⟩:=h
    refine T_sta 184 [vi 0,vi 0,vi 0,vi 0,vu 0] q61 ?_
    intro bd e60
    replace h:=h bd e60
    refine T_pd [93] []<| T_e<| zx ?_
    show At _ _ _ _ _ (Q .ret)
    obtain⟨l,ah,au,a8,q,q62,h⟩:=h
    exact S_done (fn:=Tryz.f116) [.agg #[vi l,vi ah,vi au,vi a8,vu q]] hQ (show ResOK _ _ _ [.cell 2 184] _ from .cell (by kernel_rfl) (loadOK_row (λ_=>by kernel_rfl) (λ_=>by kernel_rfl) q62) (.nil)) h
   intro hk
   refine T_n 3 [(2,vp (pa b)),(6,vi (zY (Int.tmod (IntKind.wrap .u64 (Int.tdiv wv 8)) 32))),(7,vu (IntKind.wrap .u64 (Int.tdiv (IntKind.wrap .u64 (Int.tdiv wv 8)) 32))),(8,vi (zY (Int.tmod (IntKind.wrap .u64 (Int.tdiv (IntKind.wrap .u64 (Int.tdiv wv 8)) 32)) 256))),(80,.bool (decide ((zY (Int.tmod (IntKind.wrap .u64 (Int.tdiv wv 8)) 32))>=1)))] ?_
   by_cases c51:(zY (Int.tmod (IntKind.wrap .u64 (Int.tdiv wv 8)) 32))>=1
   ·have b52:(decide ((zY (Int.tmod (IntKind.wrap .u64 (Int.tdiv wv 8)) 32))>=1))=true:=zX c51
    refine N_env [(2,vp (pa b)),(6,vi (zY (Int.tmod (IntKind.wrap .u64 (Int.tdiv wv 8)) 32))),(7,vu (IntKind.wrap .u64 (Int.tdiv (IntKind.wrap .u64 (Int.tdiv wv 8)) 32))),(8,vi (zY (Int.tmod (IntKind.wrap .u64 (Int.tdiv (IntKind.wrap .u64 (Int.tdiv wv 8)) 32)) 256))),(80,.bool true)] (by rw[b52]) ?_
    refine T_nd 4 [80] [(84,.bool (decide ((zY (Int.tmod (IntKind.wrap .u64 (Int.tdiv wv 8)) 32))<=13)))] ?_
    by_cases c53:(zY (Int.tmod (IntKind.wrap .u64 (Int.tdiv wv 8)) 32))<=13
    ·have b54:(decide ((zY (Int.tmod (IntKind.wrap .u64 (Int.tdiv wv 8)) 32))<=13))=true:=zX c53
     refine N_bd 84 b54<| T_nd 3 [84] [(87,.bool (decide ((zY (Int.tmod (IntKind.wrap .u64 (Int.tdiv (IntKind.wrap .u64 (Int.tdiv wv 8)) 32)) 256))<=62)))] ?_
     refine zq<| S_bd 87 (b:=(decide ((zY (Int.tmod (IntKind.wrap .u64 (Int.tdiv (IntKind.wrap .u64 (Int.tdiv wv 8)) 32)) 256))<=62))) (v:=(((decide ((zY (Int.tmod (IntKind.wrap .u64 (Int.tdiv wv 8)) 32))>=1)) && (decide ((zY (Int.tmod (IntKind.wrap .u64 (Int.tdiv wv 8)) 32))<=13))) && (decide ((zY (Int.tmod (IntKind.wrap .u64 (Int.tdiv (IntKind.wrap .u64 (Int.tdiv wv 8)) 32)) 256))<=62)))) (by simp only[b52,b54,BL]) ?_
     exact hk
    have b54:(decide ((zY (Int.tmod (IntKind.wrap .u64 (Int.tdiv wv 8)) 32))<=13))=false:=zQ c53
    refine N_bd 84 b54<| T_nd 3 [84] [(87,.bool false)] ?_
    refine zq<| S_bd 87 (b:=false) (v:=(((decide ((zY (Int.tmod (IntKind.wrap .u64 (Int.tdiv wv 8)) 32))>=1)) && (decide ((zY (Int.tmod (IntKind.wrap .u64 (Int.tdiv wv 8)) 32))<=13))) && (decide ((zY (Int.tmod (IntKind.wrap .u64 (Int.tdiv (IntKind.wrap .u64 (Int.tdiv wv 8)) 32)) 256))<=62)))) (by simp only[b52,b54,BL]) ?_
    exact hk
   have b52:(decide ((zY (Int.tmod (IntKind.wrap .u64 (Int.tdiv wv 8)) 32))>=1))=false:=zQ c51
   refine N_env [(2,vp (pa b)),(6,vi (zY (Int.tmod (IntKind.wrap .u64 (Int.tdiv wv 8)) 32))),(7,vu (IntKind.wrap .u64 (Int.tdiv (IntKind.wrap .u64 (Int.tdiv wv 8)) 32))),(8,vi (zY (Int.tmod (IntKind.wrap .u64 (Int.tdiv (IntKind.wrap .u64 (Int.tdiv wv 8)) 32)) 256))),(80,.bool false)] (by rw[b52]) ?_
   refine T_nd 7 [80] [(87,.bool false)]<| zq<| S_bd 87 (b:=false) (v:=(((decide ((zY (Int.tmod (IntKind.wrap .u64 (Int.tdiv wv 8)) 32))>=1)) && (decide ((zY (Int.tmod (IntKind.wrap .u64 (Int.tdiv wv 8)) 32))<=13))) && (decide ((zY (Int.tmod (IntKind.wrap .u64 (Int.tdiv (IntKind.wrap .u64 (Int.tdiv wv 8)) 32)) 256))<=62)))) (by simp only[b52,BL]) ?_
   exact hk
  rw[if_neg c49]at h
  refine T_cFz 73 (zJ c49)<| T_k<| S_blockEnd<| S_then<| T_srz 24<| T_nd 1 [6,7,73] [(93,.agg #[vi 0,vi 0,vi 0,vi 0,vu 0])] ?_
  obtain⟨q64,h⟩:=h
  refine T_sta 184 [vi 0,vi 0,vi 0,vi 0,vu 0] q64 ?_
  intro a9 e63
  replace h:=h a9 e63
  refine T_pd [93] []<| T_e<| zx ?_
  show At _ _ _ _ _ (Q .ret)
  obtain⟨a,r,ao,al,d,q65,h⟩:=h
  exact S_done (fn:=Tryz.f116) [.agg #[vi a,vi r,vi ao,vi al,vu d]] hQ (show ResOK _ _ _ [.cell 2 184] _ from .cell (by kernel_rfl) (loadOK_row (λ_=>by kernel_rfl) (λ_=>by kernel_rfl) q65) (.nil)) h
 by_cases c66:(zY (Int.tmod wv 8))=1
 ·rw[if_pos c66]at h
  have b67:((zY (Int.tmod wv 8))==1)=true:=zK c66
  refine S_env [(2,vp (pa b)),(4,vi (zY (Int.tmod wv 8))),(5,vu (IntKind.wrap .u64 (Int.tdiv wv 8))),(6,vi (zY (Int.tmod (IntKind.wrap .u64 (Int.tdiv wv 8)) 32))),(7,vu (IntKind.wrap .u64 (Int.tdiv (IntKind.wrap .u64 (Int.tdiv wv 8)) 32))),(20,vi (zY (Int.tmod wv 8))),(35,.bool true)] (by simp only[b67,Bool.not_true,Bool.not_false]) ?_
  clear b67
  exact T_tz 35<| T_kt<| S_meet (true:Bool) sk h
 rw[if_neg c66]at h
 have b67:((zY (Int.tmod wv 8))==1)=false:=zJ c66
 refine S_env [(2,vp (pa b)),(4,vi (zY (Int.tmod wv 8))),(5,vu (IntKind.wrap .u64 (Int.tdiv wv 8))),(6,vi (zY (Int.tmod (IntKind.wrap .u64 (Int.tdiv wv 8)) 32))),(7,vu (IntKind.wrap .u64 (Int.tdiv (IntKind.wrap .u64 (Int.tdiv wv 8)) 32))),(20,vi (zY (Int.tmod wv 8))),(35,.bool false)] (by simp only[b67,Bool.not_true,Bool.not_false]) ?_
 clear b67
 refine T_fz 35<| T_srz 10<| T_ed 2 [35] [(35,.bool ((zY (Int.tmod wv 8))==2))] ?_
 by_cases c68:(zY (Int.tmod wv 8))=2
 ·rw[if_pos c68]at h
  refine S_bd 35 (zK c68)<| T_tz 35<| T_kt ?_
  exact S_meet (true:Bool) sk h
 rw[if_neg c68]at h
 refine S_bd 35 (zJ c68)<| T_fz 35<| T_srz 11<| T_ed 2 [35] [(35,.bool ((zY (Int.tmod wv 8))==3))] ?_
 by_cases c70:(zY (Int.tmod wv 8))=3
 ·rw[if_pos c70]at h
  refine S_bd 35 (zK c70)<| T_tz 35<| T_kt ?_
  exact S_meet (true:Bool) sk h
 rw[if_neg c70]at h
 refine S_bd 35 (zJ c70)<| T_fz 35<| T_rz 12<| T_ed 2 [35] [(35,.bool ((zY (Int.tmod wv 8))==6))] ?_
 exact S_meet (((zY (Int.tmod wv 8))==6):Bool) sk h
end moraineref01_Of

/-! moraine/moraineref01.power -/
namespace moraineref01_power
def K0:=Func.code Tryz.f134
def K2:=cb K0
def K4:=cb K2
def K5:=ca K4
def K8:=cb K5
def K9:=ca K8
def K10:=ca K9
end moraineref01_power
def moraineref01_power.pt(nv:Int)(H:zV)(R:zk):Prop:=
 ∃(a:Int->zv) (m11:Int->Int->zV->Nat),a 1 0 H/\ ∀(x:Int) (i:Int) (H1:zV),a x i H1->
 if i<nv then(
 (a (IntKind.wrap .u64 (x*2)) (zY (i+1)) H1/\m11 (IntKind.wrap .u64 (x*2)) (zY (i+1)) H1<m11 x i H1))
 else
 R (.int .u64 x) H1
namespace moraineref01_power
theorem link{nv:Int}{H:zV}{R:zk}(h:pt nv H R):C nv H R:=by
 refine T_en K0 13 Tryz.func134 ?_
 intro w0 Q hQ
 unfold pt zY at h
 refine T_su [(0,vi nv)]<| T_srz 0<| T_ed 1 [] []<| T_srz 1<| T_ed 1 [] [(3,vu 1)]<| T_sz<| T_srz 2<| T_ed 1 [] [(4,vi 0)]<| T_bz 0 ?_
 obtain⟨a,m11,i1,i2⟩:=h
 refine S_loop (x:=K10) (σ:=Int×Int) (λs_=> [(0,vi nv),(3,vu s_.1),(4,vi s_.2)]) (λs_ H=>a s_.1 s_.2 H) (λs_ H=>m11 s_.1 s_.2 H) ((1,0):Int×Int) (by kernel_rfl) i1 sk ?_
 rintro⟨x,i⟩ H1 i3
 have h:=i2 x i H1 i3
 refine T_su [(0,vi nv),(3,vu x),(4,vi i)]<| T_sz<| T_srz 3<| T_ed 3 [] [(7,.bool (decide (i<nv)))] ?_
 by_cases c4:i<nv
 ·rw[if_pos c4]at h
  exact T_cTz 7 (zX c4)<| T_kt<| T_sz<| T_bz 1<| T_rz 5<| T_nd 3 [3,7] [(3,vu (IntKind.wrap .u64 (x*2)))]<| zq<| S_blockEnd<| S_then<| T_rz 4<| T_ed 3 [4] [(4,vi (zY (i+1)))]<| S_round (((IntKind.wrap .u64 (x*2)),(zY (i+1))):Int×Int) sk h
 rw[if_neg c4]at h
 exact T_cFz 7 (zQ c4)<| zj 0<| S_exitThen<| S_exitThen<| S_exitHere<| S_then<| T_srz 6<| T_nr 2 [2] [vu x] hQ h
end moraineref01_power

