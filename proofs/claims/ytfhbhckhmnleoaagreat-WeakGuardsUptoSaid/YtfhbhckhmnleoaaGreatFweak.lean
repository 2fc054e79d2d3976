/- Printed: what each function asks, and that it is sound. -/
import Derived.Test.YtfhbhckhmnleoaaGreatFnsC
set_option linter.unusedSimpArgs false
set_option linter.unusedVariables false
set_option maxRecDepth 100000
set_option maxHeartbeats 1000000
noncomputable section
namespace Go.Proofs.YtfhbhckhmnleoaaGreat
open Go Go.Proofs.Tryz
/-! moraine/moraineref01.Of -/
namespace cT
def K0:=Func.code f110
end cT
def cT.pt(wv:Int)(H:zV)(R:zk):Prop:=
 ∀b H1,b=H.size->H1=H.push (.cells #[vi 0,vi 0,vi 0,vi 0,vu 0] 178)->
 if(zY (Int.tmod wv 8))=0 then(
 bZ.C 60 H1 (λv H2=> ∃x,v=vu x/\
 if(IntKind.wrap .u64 (Int.tdiv wv 8))>=x then(
 bZ.C 61 H2 (λbe H3=> ∃aj,be=vu aj/\
 (aN H3 (ad b) 0 5)/\ ∀H4,H4=aV H3 (ad b) [vi 1,vi 0,vi 0,vi (zY (0-(zY (IntKind.wrap .u64 (aj-(IntKind.wrap .u64 (Int.tdiv wv 8))))))),vu 0] 0->
 ∃an a6 rA rX ao,aP H4 (ad b) 0 [vi an,vi a6,vi rA,vi rX,vu ao]/\
 R (.agg #[vi an,vi a6,vi rA,vi rX,vu ao]) H4))
 else
 (aN H2 (ad b) 0 5)/\ ∀H5,H5=aV H2 (ad b) [vi 1,vi 0,vi 0,vi (zY (IntKind.wrap .u64 (Int.tdiv wv 8))),vu 0] 0->
 ∃s ac av ap k,aP H5 (ad b) 0 [vi s,vi ac,vi av,vi ap,vu k]/\
 R (.agg #[vi s,vi ac,vi av,vi ap,vu k]) H5))
 else
 ∃J:Bool->zV->Prop,(
 if(zY (Int.tmod wv 8))=1 then(
 J true H1)
 else
 if(zY (Int.tmod wv 8))=2 then(
 J true H1)
 else
 if(zY (Int.tmod wv 8))=3 then(
 J true H1)
 else
 J ((zY (Int.tmod wv 8))==6) H1)/\ ∀ak H6,J ak H6->
 if ak=true then(
 if(IntKind.wrap .u64 (Int.tdiv wv 8))<65536 then(
 (aN H6 (ad b) 0 5)/\ ∀H7,H7=aV H6 (ad b) [vi 2,vi (zY (Int.tmod wv 8)),vi (zY (IntKind.wrap .u64 (Int.tdiv wv 8))),vi 0,vu 0] 0->
 ∃g ag a2 ax q,aP H7 (ad b) 0 [vi g,vi ag,vi a2,vi ax,vu q]/\
 R (.agg #[vi g,vi ag,vi a2,vi ax,vu q]) H7)
 else
 (aN H6 (ad b) 0 5)/\ ∀H8,H8=aV H6 (ad b) [vi 0,vi 0,vi 0,vi 0,vu 0] 0->
 ∃o ai aw a8 t,aP H8 (ad b) 0 [vi o,vi ai,vi aw,vi a8,vu t]/\
 R (.agg #[vi o,vi ai,vi aw,vi a8,vu t]) H8)
 else
 if(zY (Int.tmod wv 8))=4 then(
 if((decide ((zY (Int.tmod (IntKind.wrap .u64 (Int.tdiv wv 8)) 32))<7)) && ((IntKind.wrap .u64 (Int.tdiv (IntKind.wrap .u64 (Int.tdiv wv 8)) 32))==0))=true then(
 (aN H6 (ad b) 0 5)/\ ∀H9,H9=aV H6 (ad b) [vi 3,vi 0,vi (zY (Int.tmod (IntKind.wrap .u64 (Int.tdiv wv 8)) 32)),vi 0,vu 0] 0->
 ∃z ae aq az j,aP H9 (ad b) 0 [vi z,vi ae,vi aq,vi az,vu j]/\
 R (.agg #[vi z,vi ae,vi aq,vi az,vu j]) H9)
 else
 if((((zY (Int.tmod (IntKind.wrap .u64 (Int.tdiv wv 8)) 32))==7) && (decide ((IntKind.wrap .u64 (Int.tdiv (IntKind.wrap .u64 (Int.tdiv wv 8)) 32))<=1114111))) && ((decide ((IntKind.wrap .u64 (Int.tdiv (IntKind.wrap .u64 (Int.tdiv wv 8)) 32))<55296)) || (decide ((IntKind.wrap .u64 (Int.tdiv (IntKind.wrap .u64 (Int.tdiv wv 8)) 32))>57343))))=true then(
 (aN H6 (ad b) 0 5)/\ ∀bd,bd=aV H6 (ad b) [vi 4,vi 0,vi (zY (IntKind.wrap .u64 (Int.tdiv (IntKind.wrap .u64 (Int.tdiv wv 8)) 32))),vi 0,vu 0] 0->
 ∃y ah au a4 m,aP bd (ad b) 0 [vi y,vi ah,vi au,vi a4,vu m]/\
 R (.agg #[vi y,vi ah,vi au,vi a4,vu m]) bd)
 else
 (aN H6 (ad b) 0 5)/\ ∀a9,a9=aV H6 (ad b) [vi 0,vi 0,vi 0,vi 0,vu 0] 0->
 ∃f af a5 a1 r,aP a9 (ad b) 0 [vi f,vi af,vi a5,vi a1,vu r]/\
 R (.agg #[vi f,vi af,vi a5,vi a1,vu r]) a9)
 else
 if(zY (Int.tmod wv 8))=5 then(
 if(((decide ((zY (Int.tmod (IntKind.wrap .u64 (Int.tdiv wv 8)) 32))>=1)) && (decide ((zY (Int.tmod (IntKind.wrap .u64 (Int.tdiv wv 8)) 32))<=13))) && (decide ((zY (Int.tmod (IntKind.wrap .u64 (Int.tdiv (IntKind.wrap .u64 (Int.tdiv wv 8)) 32)) 256))<=62)))=true then(
 (aN H6 (ad b) 0 5)/\ ∀ba,ba=aV H6 (ad b) [vi 5,vi (zY (Int.tmod (IntKind.wrap .u64 (Int.tdiv wv 8)) 32)),vi (zY (Int.tmod (IntKind.wrap .u64 (Int.tdiv (IntKind.wrap .u64 (Int.tdiv wv 8)) 32)) 256)),vi 0,vu (IntKind.wrap .u64 (Int.tdiv (IntKind.wrap .u64 (Int.tdiv (IntKind.wrap .u64 (Int.tdiv wv 8)) 32)) 256))] 0->
 ∃n aa a0 ay i,aP ba (ad b) 0 [vi n,vi aa,vi a0,vi ay,vu i]/\
 R (.agg #[vi n,vi aa,vi a0,vi ay,vu i]) ba)
 else
 (aN H6 (ad b) 0 5)/\ ∀bb,bb=aV H6 (ad b) [vi 0,vi 0,vi 0,vi 0,vu 0] 0->
 ∃e ab a7 a3 u,aP bb (ad b) 0 [vi e,vi ab,vi a7,vi a3,vu u]/\
 R (.agg #[vi e,vi ab,vi a7,vi a3,vu u]) bb)
 else
 (aN H6 (ad b) 0 5)/\ ∀bc,bc=aV H6 (ad b) [vi 0,vi 0,vi 0,vi 0,vu 0] 0->
 ∃d p am al a,aP bc (ad b) 0 [vi d,vi p,vi am,vi al,vu a]/\
 R (.agg #[vi d,vi p,vi am,vi al,vu a]) bc
namespace cT
theorem link{wv:Int}{H:zV}{R:zk}(h:pt wv H R):C wv H R:=by
 refine T_en K0 94 func110 ?_
 intro w0 Q hQ
 unfold pt zY at h
 refine T_su [(0,vu wv)]<|aA 0<|T_nw (some 2) (λb=>vp (pa b)) (.cells #[vi 0,vi 0,vi 0,vi 0,vu 0] 178) ?_
 intro b H1 e1 e2
 replace h:=h b H1 e1 e2
 refine T_pd [] [(2,vp (pa b))]<|T_e<|aA 1<|T_ed 2 [0] [(3,vu wv)]<|aA 2<|T_ed 7 [3] [(4,vi (zY (Int.tmod wv 8))),(5,vu (IntKind.wrap .u64 (Int.tdiv wv 8)))]<|aA 3<|T_ed 7 [] [(6,vi (zY (Int.tmod (IntKind.wrap .u64 (Int.tdiv wv 8)) 32))),(7,vu (IntKind.wrap .u64 (Int.tdiv (IntKind.wrap .u64 (Int.tdiv wv 8)) 32)))]<|T_sz<|aA 4<|T_ed 1 [] [(20,vi (zY (Int.tmod wv 8)))]<|T_bz 0<|aA 5<|T_ed 2 [] [(21,.bool ((zY (Int.tmod wv 8))==0))] ?_
 revert h;refine iO_ (λc3 h=>?_) (λc3 h=>?_)
 ·refine aI 21 (zK c3)<|T_sz<|aA 6<|T_nd 1 [4,6,7,20,21] [(23,vu (IntKind.wrap .u64 (Int.tdiv wv 8)))]<|T_c (some 24) h ?_;clear h
  rintro v H2 ⟨x,rfl,h⟩
  refine T_pd [] [(24,vu x)]<|T_ed 1 [23,24] [(25,.bool (decide ((IntKind.wrap .u64 (Int.tdiv wv 8))>=x)))] ?_
  revert h;refine iO_ (λc5 h=>?_) (λc5 h=>?_)
  ·refine aI 25 (zX c5)<|aA 7<|T_ud [25] []<|T_c (some 26) h ?_;clear h
   rintro be H3 ⟨aj,rfl,h⟩
   refine T_pd [] [(26,vu aj)]<|T_nd 5 [5,26] [(31,.agg #[vi 1,vi 0,vi 0,vi (zY (0-(zY (IntKind.wrap .u64 (aj-(IntKind.wrap .u64 (Int.tdiv wv 8))))))),vu 0])] ?_
   obtain⟨q8,h⟩:=h
   refine fL 178 [vi 1,vi 0,vi 0,vi (zY (0-(zY (IntKind.wrap .u64 (aj-(IntKind.wrap .u64 (Int.tdiv wv 8))))))),vu 0] q8 ?_
   intro H4 e7
   replace h:=h H4 e7
   refine T_pd [31] []<|T_e<|zx ?_
   show At _ _ _ _ _ (Q .ret)
   obtain⟨an,a6,rA,rX,ao,q9,h⟩:=h
   exact iS (fn:=f110) [.agg #[vi an,vi a6,vi rA,vi rX,vu ao]] hQ (show dW _ _ _ [.cell 2 178] _ from .cell (by kernel_rfl) (eL (λ_=>by kernel_rfl) (λ_=>by kernel_rfl) q9) (.nil)) h
  refine aJ 25 (zQ c5)<|T_kt<|aA 8<|T_nd 3 [5,25] [(34,.agg #[vi 1,vi 0,vi 0,vi (zY (IntKind.wrap .u64 (Int.tdiv wv 8))),vu 0])] ?_
  obtain⟨q11,h⟩:=h
  refine fL 178 [vi 1,vi 0,vi 0,vi (zY (IntKind.wrap .u64 (Int.tdiv wv 8))),vu 0] q11 ?_
  intro H5 e10
  replace h:=h H5 e10
  refine T_pd [34] []<|T_e<|zx ?_
  show At _ _ _ _ _ (Q .ret)
  obtain⟨s,ac,av,ap,k,q12,h⟩:=h
  exact iS (fn:=f110) [.agg #[vi s,vi ac,vi av,vi ap,vu k]] hQ (show dW _ _ _ [.cell 2 178] _ from .cell (by kernel_rfl) (eL (λ_=>by kernel_rfl) (λ_=>by kernel_rfl) q12) (.nil)) h
 refine aJ 21 (zJ c3)<|T_sz<|aA 9<|T_ne 2 [(2,vp (pa b)),(4,vi (zY (Int.tmod wv 8))),(5,vu (IntKind.wrap .u64 (Int.tdiv wv 8))),(6,vi (zY (Int.tmod (IntKind.wrap .u64 (Int.tdiv wv 8)) 32))),(7,vu (IntKind.wrap .u64 (Int.tdiv (IntKind.wrap .u64 (Int.tdiv wv 8)) 32))),(20,vi (zY (Int.tmod wv 8))),(35,.bool ((zY (Int.tmod wv 8))==1))] ?_
 obtain⟨J,h,j14⟩:=h
 refine p8 (σ:=Bool) (λs_=> [(2,vp (pa b)),(4,vi (zY (Int.tmod wv 8))),(5,vu (IntKind.wrap .u64 (Int.tdiv wv 8))),(6,vi (zY (Int.tmod (IntKind.wrap .u64 (Int.tdiv wv 8)) 32))),(7,vu (IntKind.wrap .u64 (Int.tdiv (IntKind.wrap .u64 (Int.tdiv wv 8)) 32))),(20,vi (zY (Int.tmod wv 8))),(35,.bool s_)]) (λs_ H=>J s_ H) ?_ ?_
 ·rintro ak H6 j15
  replace h:=j14 ak H6 j15
  refine T_su [(2,vp (pa b)),(4,vi (zY (Int.tmod wv 8))),(5,vu (IntKind.wrap .u64 (Int.tdiv wv 8))),(6,vi (zY (Int.tmod (IntKind.wrap .u64 (Int.tdiv wv 8)) 32))),(7,vu (IntKind.wrap .u64 (Int.tdiv (IntKind.wrap .u64 (Int.tdiv wv 8)) 32))),(20,vi (zY (Int.tmod wv 8))),(35,.bool ak)]<|aD ?_
  revert h;refine iO_ (λc16 h=>?_) (λc16 h=>?_)
  ·have b17:ak=true:=c16
   refine gD [(2,vp (pa b)),(4,vi (zY (Int.tmod wv 8))),(5,vu (IntKind.wrap .u64 (Int.tdiv wv 8))),(6,vi (zY (Int.tmod (IntKind.wrap .u64 (Int.tdiv wv 8)) 32))),(7,vu (IntKind.wrap .u64 (Int.tdiv (IntKind.wrap .u64 (Int.tdiv wv 8)) 32))),(20,vi (zY (Int.tmod wv 8))),(35,vT)] (by rw[b17]) ?_
   clear b17
   refine T_tz 35<|aA 13<|T_ed 2 [6,7,20,35] [(41,.bool (decide ((IntKind.wrap .u64 (Int.tdiv wv 8))<65536)))] ?_
   revert h;refine iO_ (λc18 h=>?_) (λc18 h=>?_)
   ·refine aI 41 (zX c18)<|aA 14<|T_nd 4 [4,5,41] [(45,.agg #[vi 2,vi (zY (Int.tmod wv 8)),vi (zY (IntKind.wrap .u64 (Int.tdiv wv 8))),vi 0,vu 0])] ?_
    obtain⟨q21,h⟩:=h
    refine fL 178 [vi 2,vi (zY (Int.tmod wv 8)),vi (zY (IntKind.wrap .u64 (Int.tdiv wv 8))),vi 0,vu 0] q21 ?_
    intro H7 e20
    replace h:=h H7 e20
    refine T_pd [45] []<|T_e<|zx ?_
    show At _ _ _ _ _ (Q .ret)
    obtain⟨g,ag,a2,ax,q,q22,h⟩:=h
    exact iS (fn:=f110) [.agg #[vi g,vi ag,vi a2,vi ax,vu q]] hQ (show dW _ _ _ [.cell 2 178] _ from .cell (by kernel_rfl) (eL (λ_=>by kernel_rfl) (λ_=>by kernel_rfl) q22) (.nil)) h
   refine aJ 41 (zQ c18)<|T_k<|aE<|aD<|aA 24<|T_nd 1 [4,5,41] [(93,.agg #[vi 0,vi 0,vi 0,vi 0,vu 0])] ?_
   obtain⟨q24,h⟩:=h
   refine fL 178 [vi 0,vi 0,vi 0,vi 0,vu 0] q24 ?_
   intro H8 e23
   replace h:=h H8 e23
   refine T_pd [93] []<|T_e<|zx ?_
   show At _ _ _ _ _ (Q .ret)
   obtain⟨o,ai,aw,a8,t,q25,h⟩:=h
   exact iS (fn:=f110) [.agg #[vi o,vi ai,vi aw,vi a8,vu t]] hQ (show dW _ _ _ [.cell 2 178] _ from .cell (by kernel_rfl) (eL (λ_=>by kernel_rfl) (λ_=>by kernel_rfl) q25) (.nil)) h
  have b17:ak=false:=zZ c16
  refine gD [(2,vp (pa b)),(4,vi (zY (Int.tmod wv 8))),(5,vu (IntKind.wrap .u64 (Int.tdiv wv 8))),(6,vi (zY (Int.tmod (IntKind.wrap .u64 (Int.tdiv wv 8)) 32))),(7,vu (IntKind.wrap .u64 (Int.tdiv (IntKind.wrap .u64 (Int.tdiv wv 8)) 32))),(20,vi (zY (Int.tmod wv 8))),(35,vF)] (by rw[b17]) ?_
  clear b17
  refine T_fz 35<|aA 15<|T_ed 2 [4,5,35] [(46,.bool ((zY (Int.tmod wv 8))==4))] ?_
  revert h;refine iO_ (λc26 h=>?_) (λc26 h=>?_)
  ·refine aI 46 (zK c26)<|T_sz<|aA 16 ?_
   refine gz [(2,vp (pa b)),(6,vi (zY (Int.tmod (IntKind.wrap .u64 (Int.tdiv wv 8)) 32))),(7,vu (IntKind.wrap .u64 (Int.tdiv (IntKind.wrap .u64 (Int.tdiv wv 8)) 32))),(53,.bool ((decide ((zY (Int.tmod (IntKind.wrap .u64 (Int.tdiv wv 8)) 32))<7)) && ((IntKind.wrap .u64 (Int.tdiv (IntKind.wrap .u64 (Int.tdiv wv 8)) 32))==0)))] ?_ ?_
   ·refine aD ?_
    revert h;refine iO_ (λc30 h=>?_) (λc30 h=>?_)
    ·refine aI 53 c30<|aA 17<|T_n 2 [(2,vp (pa b)),(55,.agg #[vi 3,vi 0,vi (zY (Int.tmod (IntKind.wrap .u64 (Int.tdiv wv 8)) 32)),vi 0,vu 0])] ?_
     obtain⟨q33,h⟩:=h
     refine fL 178 [vi 3,vi 0,vi (zY (Int.tmod (IntKind.wrap .u64 (Int.tdiv wv 8)) 32)),vi 0,vu 0] q33 ?_
     intro H9 e32
     replace h:=h H9 e32
     refine T_pd [55] []<|T_e<|zx ?_
     show At _ _ _ _ _ (Q .ret)
     obtain⟨z,ae,aq,az,j,q34,h⟩:=h
     exact iS (fn:=f110) [.agg #[vi z,vi ae,vi aq,vi az,vu j]] hQ (show dW _ _ _ [.cell 2 178] _ from .cell (by kernel_rfl) (eL (λ_=>by kernel_rfl) (λ_=>by kernel_rfl) q34) (.nil)) h
    refine aJ 53 (zZ c30)<|T_kt<|aA 18 ?_
    refine gz [(2,vp (pa b)),(7,vu (IntKind.wrap .u64 (Int.tdiv (IntKind.wrap .u64 (Int.tdiv wv 8)) 32))),(69,.bool ((((zY (Int.tmod (IntKind.wrap .u64 (Int.tdiv wv 8)) 32))==7) && (decide ((IntKind.wrap .u64 (Int.tdiv (IntKind.wrap .u64 (Int.tdiv wv 8)) 32))<=1114111))) && ((decide ((IntKind.wrap .u64 (Int.tdiv (IntKind.wrap .u64 (Int.tdiv wv 8)) 32))<55296)) || (decide ((IntKind.wrap .u64 (Int.tdiv (IntKind.wrap .u64 (Int.tdiv wv 8)) 32))>57343)))))] ?_ ?_
    ·refine aD ?_
     revert h;refine iO_ (λc41 h=>?_) (λc41 h=>?_)
     ·refine aI 69 c41<|aA 19<|T_n 3 [(2,vp (pa b)),(72,.agg #[vi 4,vi 0,vi (zY (IntKind.wrap .u64 (Int.tdiv (IntKind.wrap .u64 (Int.tdiv wv 8)) 32))),vi 0,vu 0])] ?_
      obtain⟨q44,h⟩:=h
      refine fL 178 [vi 4,vi 0,vi (zY (IntKind.wrap .u64 (Int.tdiv (IntKind.wrap .u64 (Int.tdiv wv 8)) 32))),vi 0,vu 0] q44 ?_
      intro bd e43
      replace h:=h bd e43
      refine T_pd [72] []<|T_e<|zx ?_
      show At _ _ _ _ _ (Q .ret)
      obtain⟨y,ah,au,a4,m,q45,h⟩:=h
      exact iS (fn:=f110) [.agg #[vi y,vi ah,vi au,vi a4,vu m]] hQ (show dW _ _ _ [.cell 2 178] _ from .cell (by kernel_rfl) (eL (λ_=>by kernel_rfl) (λ_=>by kernel_rfl) q45) (.nil)) h
     refine aJ 69 (zZ c41)<|T_k<|aE<|aD<|aA 24<|T_n 1 [(2,vp (pa b)),(93,.agg #[vi 0,vi 0,vi 0,vi 0,vu 0])] ?_
     obtain⟨q47,h⟩:=h
     refine fL 178 [vi 0,vi 0,vi 0,vi 0,vu 0] q47 ?_
     intro a9 e46
     replace h:=h a9 e46
     refine T_pd [93] []<|T_e<|zx ?_
     show At _ _ _ _ _ (Q .ret)
     obtain⟨f,af,a5,a1,r,q48,h⟩:=h
     exact iS (fn:=f110) [.agg #[vi f,vi af,vi a5,vi a1,vu r]] hQ (show dW _ _ _ [.cell 2 178] _ from .cell (by kernel_rfl) (eL (λ_=>by kernel_rfl) (λ_=>by kernel_rfl) q48) (.nil)) h
    intro hk
    refine T_n 3 [(2,vp (pa b)),(7,vu (IntKind.wrap .u64 (Int.tdiv (IntKind.wrap .u64 (Int.tdiv wv 8)) 32))),(58,.bool ((zY (Int.tmod (IntKind.wrap .u64 (Int.tdiv wv 8)) 32))==7))] ?_
    by_cases c35:(zY (Int.tmod (IntKind.wrap .u64 (Int.tdiv wv 8)) 32))=7
    ·have b36:((zY (Int.tmod (IntKind.wrap .u64 (Int.tdiv wv 8)) 32))==7)=true:=zK c35
     refine bG [(2,vp (pa b)),(7,vu (IntKind.wrap .u64 (Int.tdiv (IntKind.wrap .u64 (Int.tdiv wv 8)) 32))),(58,vT)] (by rw[b36]) ?_
     refine T_nd 4 [58] [(62,.bool (decide ((IntKind.wrap .u64 (Int.tdiv (IntKind.wrap .u64 (Int.tdiv wv 8)) 32))<=1114111)))] ?_
     by_cases c37:(IntKind.wrap .u64 (Int.tdiv (IntKind.wrap .u64 (Int.tdiv wv 8)) 32))<=1114111
     ·have b38:(decide ((IntKind.wrap .u64 (Int.tdiv (IntKind.wrap .u64 (Int.tdiv wv 8)) 32))<=1114111))=true:=zX c37
      refine N_bd 62 b38<|T_nd 3 [] [(65,.bool (decide ((IntKind.wrap .u64 (Int.tdiv (IntKind.wrap .u64 (Int.tdiv wv 8)) 32))<55296)))] ?_
      by_cases c39:(IntKind.wrap .u64 (Int.tdiv (IntKind.wrap .u64 (Int.tdiv wv 8)) 32))<55296
      ·have b40:(decide ((IntKind.wrap .u64 (Int.tdiv (IntKind.wrap .u64 (Int.tdiv wv 8)) 32))<55296))=true:=zX c39
       refine N_bd 65 b40<|T_nd 4 [62,65] [(69,vT)] ?_
       refine zq<|S_bd 69 (b:=true) (v:=((((zY (Int.tmod (IntKind.wrap .u64 (Int.tdiv wv 8)) 32))==7) && (decide ((IntKind.wrap .u64 (Int.tdiv (IntKind.wrap .u64 (Int.tdiv wv 8)) 32))<=1114111))) && ((decide ((IntKind.wrap .u64 (Int.tdiv (IntKind.wrap .u64 (Int.tdiv wv 8)) 32))<55296)) || (decide ((IntKind.wrap .u64 (Int.tdiv (IntKind.wrap .u64 (Int.tdiv wv 8)) 32))>57343))))) (by simp only[b36,b38,b40,BL]) ?_
       exact hk
      have b40:(decide ((IntKind.wrap .u64 (Int.tdiv (IntKind.wrap .u64 (Int.tdiv wv 8)) 32))<55296))=false:=zQ c39
      refine N_bd 65 b40<|T_nd 4 [62,65] [(69,.bool (decide ((IntKind.wrap .u64 (Int.tdiv (IntKind.wrap .u64 (Int.tdiv wv 8)) 32))>57343)))] ?_
      refine zq<|S_bd 69 (b:=(decide ((IntKind.wrap .u64 (Int.tdiv (IntKind.wrap .u64 (Int.tdiv wv 8)) 32))>57343))) (v:=((((zY (Int.tmod (IntKind.wrap .u64 (Int.tdiv wv 8)) 32))==7) && (decide ((IntKind.wrap .u64 (Int.tdiv (IntKind.wrap .u64 (Int.tdiv wv 8)) 32))<=1114111))) && ((decide ((IntKind.wrap .u64 (Int.tdiv (IntKind.wrap .u64 (Int.tdiv wv 8)) 32))<55296)) || (decide ((IntKind.wrap .u64 (Int.tdiv (IntKind.wrap .u64 (Int.tdiv wv 8)) 32))>57343))))) (by simp only[b36,b38,b40,BL]) ?_
      exact hk
     have b38:(decide ((IntKind.wrap .u64 (Int.tdiv (IntKind.wrap .u64 (Int.tdiv wv 8)) 32))<=1114111))=false:=zQ c37
     refine N_bd 62 b38<|T_nd 7 [62] [(69,vF)] ?_
     refine zq<|S_bd 69 (b:=false) (v:=((((zY (Int.tmod (IntKind.wrap .u64 (Int.tdiv wv 8)) 32))==7) && (decide ((IntKind.wrap .u64 (Int.tdiv (IntKind.wrap .u64 (Int.tdiv wv 8)) 32))<=1114111))) && ((decide ((IntKind.wrap .u64 (Int.tdiv (IntKind.wrap .u64 (Int.tdiv wv 8)) 32))<55296)) || (decide ((IntKind.wrap .u64 (Int.tdiv (IntKind.wrap .u64 (Int.tdiv wv 8)) 32))>57343))))) (by simp only[b36,b38,BL]) ?_
     exact hk
    have b36:((zY (Int.tmod (IntKind.wrap .u64 (Int.tdiv wv 8)) 32))==7)=false:=zJ c35
    refine bG [(2,vp (pa b)),(7,vu (IntKind.wrap .u64 (Int.tdiv (IntKind.wrap .u64 (Int.tdiv wv 8)) 32))),(58,vF)] (by rw[b36]) ?_
    refine T_nd 11 [58] [(69,vF)]<|zq<|S_bd 69 (b:=false) (v:=((((zY (Int.tmod (IntKind.wrap .u64 (Int.tdiv wv 8)) 32))==7) && (decide ((IntKind.wrap .u64 (Int.tdiv (IntKind.wrap .u64 (Int.tdiv wv 8)) 32))<=1114111))) && ((decide ((IntKind.wrap .u64 (Int.tdiv (IntKind.wrap .u64 (Int.tdiv wv 8)) 32))<55296)) || (decide ((IntKind.wrap .u64 (Int.tdiv (IntKind.wrap .u64 (Int.tdiv wv 8)) 32))>57343))))) (by simp only[b36,BL]) ?_
    exact hk
   intro hk
   refine T_n 3 [(2,vp (pa b)),(6,vi (zY (Int.tmod (IntKind.wrap .u64 (Int.tdiv wv 8)) 32))),(7,vu (IntKind.wrap .u64 (Int.tdiv (IntKind.wrap .u64 (Int.tdiv wv 8)) 32))),(50,.bool (decide ((zY (Int.tmod (IntKind.wrap .u64 (Int.tdiv wv 8)) 32))<7)))] ?_
   by_cases c28:(zY (Int.tmod (IntKind.wrap .u64 (Int.tdiv wv 8)) 32))<7
   ·have b29:(decide ((zY (Int.tmod (IntKind.wrap .u64 (Int.tdiv wv 8)) 32))<7))=true:=zX c28
    refine bG [(2,vp (pa b)),(6,vi (zY (Int.tmod (IntKind.wrap .u64 (Int.tdiv wv 8)) 32))),(7,vu (IntKind.wrap .u64 (Int.tdiv (IntKind.wrap .u64 (Int.tdiv wv 8)) 32))),(50,vT)] (by rw[b29]) ?_
    refine T_nd 3 [50] [(53,.bool ((IntKind.wrap .u64 (Int.tdiv (IntKind.wrap .u64 (Int.tdiv wv 8)) 32))==0))]<|zq<|S_bd 53 (b:=((IntKind.wrap .u64 (Int.tdiv (IntKind.wrap .u64 (Int.tdiv wv 8)) 32))==0)) (v:=((decide ((zY (Int.tmod (IntKind.wrap .u64 (Int.tdiv wv 8)) 32))<7)) && ((IntKind.wrap .u64 (Int.tdiv (IntKind.wrap .u64 (Int.tdiv wv 8)) 32))==0))) (by simp only[b29,BL]) ?_
    exact hk
   have b29:(decide ((zY (Int.tmod (IntKind.wrap .u64 (Int.tdiv wv 8)) 32))<7))=false:=zQ c28
   refine bG [(2,vp (pa b)),(6,vi (zY (Int.tmod (IntKind.wrap .u64 (Int.tdiv wv 8)) 32))),(7,vu (IntKind.wrap .u64 (Int.tdiv (IntKind.wrap .u64 (Int.tdiv wv 8)) 32))),(50,vF)] (by rw[b29]) ?_
   refine T_nd 3 [50] [(53,vF)]<|zq<|S_bd 53 (b:=false) (v:=((decide ((zY (Int.tmod (IntKind.wrap .u64 (Int.tdiv wv 8)) 32))<7)) && ((IntKind.wrap .u64 (Int.tdiv (IntKind.wrap .u64 (Int.tdiv wv 8)) 32))==0))) (by simp only[b29,BL]) ?_
   exact hk
  refine aJ 46 (zJ c26)<|aA 20<|T_ed 2 [20,46] [(73,.bool ((zY (Int.tmod wv 8))==5))] ?_
  revert h;refine iO_ (λc49 h=>?_) (λc49 h=>?_)
  ·refine aI 73 (zK c49)<|aA 21<|T_ed 4 [73] [(8,vi (zY (Int.tmod (IntKind.wrap .u64 (Int.tdiv (IntKind.wrap .u64 (Int.tdiv wv 8)) 32)) 256)))]<|aA 22 ?_
   refine gz [(2,vp (pa b)),(6,vi (zY (Int.tmod (IntKind.wrap .u64 (Int.tdiv wv 8)) 32))),(7,vu (IntKind.wrap .u64 (Int.tdiv (IntKind.wrap .u64 (Int.tdiv wv 8)) 32))),(8,vi (zY (Int.tmod (IntKind.wrap .u64 (Int.tdiv (IntKind.wrap .u64 (Int.tdiv wv 8)) 32)) 256))),(87,.bool (((decide ((zY (Int.tmod (IntKind.wrap .u64 (Int.tdiv wv 8)) 32))>=1)) && (decide ((zY (Int.tmod (IntKind.wrap .u64 (Int.tdiv wv 8)) 32))<=13))) && (decide ((zY (Int.tmod (IntKind.wrap .u64 (Int.tdiv (IntKind.wrap .u64 (Int.tdiv wv 8)) 32)) 256))<=62))))] ?_ ?_
   ·refine aD ?_
    revert h;refine iO_ (λc55 h=>?_) (λc55 h=>?_)
    ·refine aI 87 c55<|aA 23<|T_n 5 [(2,vp (pa b)),(92,.agg #[vi 5,vi (zY (Int.tmod (IntKind.wrap .u64 (Int.tdiv wv 8)) 32)),vi (zY (Int.tmod (IntKind.wrap .u64 (Int.tdiv (IntKind.wrap .u64 (Int.tdiv wv 8)) 32)) 256)),vi 0,vu (IntKind.wrap .u64 (Int.tdiv (IntKind.wrap .u64 (Int.tdiv (IntKind.wrap .u64 (Int.tdiv wv 8)) 32)) 256))])] ?_
     obtain⟨q58,h⟩:=h
     refine fL 178 [vi 5,vi (zY (Int.tmod (IntKind.wrap .u64 (Int.tdiv wv 8)) 32)),vi (zY (Int.tmod (IntKind.wrap .u64 (Int.tdiv (IntKind.wrap .u64 (Int.tdiv wv 8)) 32)) 256)),vi 0,vu (IntKind.wrap .u64 (Int.tdiv (IntKind.wrap .u64 (Int.tdiv (IntKind.wrap .u64 (Int.tdiv wv 8)) 32)) 256))] q58 ?_
     intro ba e57
     replace h:=h ba e57
     refine T_pd [92] []<|T_e<|zx ?_
     show At _ _ _ _ _ (Q .ret)
     obtain⟨n,aa,a0,ay,i,q59,h⟩:=h
     exact iS (fn:=f110) [.agg #[vi n,vi aa,vi a0,vi ay,vu i]] hQ (show dW _ _ _ [.cell 2 178] _ from .cell (by kernel_rfl) (eL (λ_=>by kernel_rfl) (λ_=>by kernel_rfl) q59) (.nil)) h
    refine aJ 87 (zZ c55)<|T_k<|aE<|aD<|aA 24<|T_n 1 [(2,vp (pa b)),(93,.agg #[vi 0,vi 0,vi 0,vi 0,vu 0])] ?_
    obtain⟨q61,h⟩:=h
    refine fL 178 [vi 0,vi 0,vi 0,vi 0,vu 0] q61 ?_
    intro bb e60
    replace h:=h bb e60
    refine T_pd [93] []<|T_e<|zx ?_
    show At _ _ _ _ _ (Q .ret)
    obtain⟨e,ab,a7,a3,u,q62,h⟩:=h
    exact iS (fn:=f110) [.agg #[vi e,vi ab,vi a7,vi a3,vu u]] hQ (show dW _ _ _ [.cell 2 178] _ from .cell (by kernel_rfl) (eL (λ_=>by kernel_rfl) (λ_=>by kernel_rfl) q62) (.nil)) h
   intro hk
   refine T_n 3 [(2,vp (pa b)),(6,vi (zY (Int.tmod (IntKind.wrap .u64 (Int.tdiv wv 8)) 32))),(7,vu (IntKind.wrap .u64 (Int.tdiv (IntKind.wrap .u64 (Int.tdiv wv 8)) 32))),(8,vi (zY (Int.tmod (IntKind.wrap .u64 (Int.tdiv (IntKind.wrap .u64 (Int.tdiv wv 8)) 32)) 256))),(80,.bool (decide ((zY (Int.tmod (IntKind.wrap .u64 (Int.tdiv wv 8)) 32))>=1)))] ?_
   by_cases c51:(zY (Int.tmod (IntKind.wrap .u64 (Int.tdiv wv 8)) 32))>=1
   ·have b52:(decide ((zY (Int.tmod (IntKind.wrap .u64 (Int.tdiv wv 8)) 32))>=1))=true:=zX c51
    refine bG [(2,vp (pa b)),(6,vi (zY (Int.tmod (IntKind.wrap .u64 (Int.tdiv wv 8)) 32))),(7,vu (IntKind.wrap .u64 (Int.tdiv (IntKind.wrap .u64 (Int.tdiv wv 8)) 32))),(8,vi (zY (Int.tmod (IntKind.wrap .u64 (Int.tdiv (IntKind.wrap .u64 (Int.tdiv wv 8)) 32)) 256))),(80,vT)] (by rw[b52]) ?_
    refine T_nd 4 [80] [(84,.bool (decide ((zY (Int.tmod (IntKind.wrap .u64 (Int.tdiv wv 8)) 32))<=13)))] ?_
    by_cases c53:(zY (Int.tmod (IntKind.wrap .u64 (Int.tdiv wv 8)) 32))<=13
    ·have b54:(decide ((zY (Int.tmod (IntKind.wrap .u64 (Int.tdiv wv 8)) 32))<=13))=true:=zX c53
     refine N_bd 84 b54<|T_nd 3 [84] [(87,.bool (decide ((zY (Int.tmod (IntKind.wrap .u64 (Int.tdiv (IntKind.wrap .u64 (Int.tdiv wv 8)) 32)) 256))<=62)))] ?_
     refine zq<|S_bd 87 (b:=(decide ((zY (Int.tmod (IntKind.wrap .u64 (Int.tdiv (IntKind.wrap .u64 (Int.tdiv wv 8)) 32)) 256))<=62))) (v:=(((decide ((zY (Int.tmod (IntKind.wrap .u64 (Int.tdiv wv 8)) 32))>=1)) && (decide ((zY (Int.tmod (IntKind.wrap .u64 (Int.tdiv wv 8)) 32))<=13))) && (decide ((zY (Int.tmod (IntKind.wrap .u64 (Int.tdiv (IntKind.wrap .u64 (Int.tdiv wv 8)) 32)) 256))<=62)))) (by simp only[b52,b54,BL]) ?_
     exact hk
    have b54:(decide ((zY (Int.tmod (IntKind.wrap .u64 (Int.tdiv wv 8)) 32))<=13))=false:=zQ c53
    refine N_bd 84 b54<|T_nd 3 [84] [(87,vF)] ?_
    refine zq<|S_bd 87 (b:=false) (v:=(((decide ((zY (Int.tmod (IntKind.wrap .u64 (Int.tdiv wv 8)) 32))>=1)) && (decide ((zY (Int.tmod (IntKind.wrap .u64 (Int.tdiv wv 8)) 32))<=13))) && (decide ((zY (Int.tmod (IntKind.wrap .u64 (Int.tdiv (IntKind.wrap .u64 (Int.tdiv wv 8)) 32)) 256))<=62)))) (by simp only[b52,b54,BL]) ?_
    exact hk
   have b52:(decide ((zY (Int.tmod (IntKind.wrap .u64 (Int.tdiv wv 8)) 32))>=1))=false:=zQ c51
   refine bG [(2,vp (pa b)),(6,vi (zY (Int.tmod (IntKind.wrap .u64 (Int.tdiv wv 8)) 32))),(7,vu (IntKind.wrap .u64 (Int.tdiv (IntKind.wrap .u64 (Int.tdiv wv 8)) 32))),(8,vi (zY (Int.tmod (IntKind.wrap .u64 (Int.tdiv (IntKind.wrap .u64 (Int.tdiv wv 8)) 32)) 256))),(80,vF)] (by rw[b52]) ?_
   refine T_nd 7 [80] [(87,vF)]<|zq<|S_bd 87 (b:=false) (v:=(((decide ((zY (Int.tmod (IntKind.wrap .u64 (Int.tdiv wv 8)) 32))>=1)) && (decide ((zY (Int.tmod (IntKind.wrap .u64 (Int.tdiv wv 8)) 32))<=13))) && (decide ((zY (Int.tmod (IntKind.wrap .u64 (Int.tdiv (IntKind.wrap .u64 (Int.tdiv wv 8)) 32)) 256))<=62)))) (by simp only[b52,BL]) ?_
   exact hk
  refine aJ 73 (zJ c49)<|T_k<|aE<|aD<|aA 24<|T_nd 1 [6,7,73] [(93,.agg #[vi 0,vi 0,vi 0,vi 0,vu 0])] ?_
  obtain⟨q64,h⟩:=h
  refine fL 178 [vi 0,vi 0,vi 0,vi 0,vu 0] q64 ?_
  intro bc e63
  replace h:=h bc e63
  refine T_pd [93] []<|T_e<|zx ?_
  show At _ _ _ _ _ (Q .ret)
  obtain⟨d,p,am,al,a,q65,h⟩:=h
  exact iS (fn:=f110) [.agg #[vi d,vi p,vi am,vi al,vu a]] hQ (show dW _ _ _ [.cell 2 178] _ from .cell (by kernel_rfl) (eL (λ_=>by kernel_rfl) (λ_=>by kernel_rfl) q65) (.nil)) h
 revert h;refine iO_ (λc66 h=>?_) (λc66 h=>?_)
 ·have b67:((zY (Int.tmod wv 8))==1)=true:=zK c66
  refine gD [(2,vp (pa b)),(4,vi (zY (Int.tmod wv 8))),(5,vu (IntKind.wrap .u64 (Int.tdiv wv 8))),(6,vi (zY (Int.tmod (IntKind.wrap .u64 (Int.tdiv wv 8)) 32))),(7,vu (IntKind.wrap .u64 (Int.tdiv (IntKind.wrap .u64 (Int.tdiv wv 8)) 32))),(20,vi (zY (Int.tmod wv 8))),(35,vT)] (by simp only[b67,Bool.not_true,Bool.not_false]) ?_
  clear b67
  exact T_tz 35<|T_kt<|jZ (true:Bool) sk h
 have b67:((zY (Int.tmod wv 8))==1)=false:=zJ c66
 refine gD [(2,vp (pa b)),(4,vi (zY (Int.tmod wv 8))),(5,vu (IntKind.wrap .u64 (Int.tdiv wv 8))),(6,vi (zY (Int.tmod (IntKind.wrap .u64 (Int.tdiv wv 8)) 32))),(7,vu (IntKind.wrap .u64 (Int.tdiv (IntKind.wrap .u64 (Int.tdiv wv 8)) 32))),(20,vi (zY (Int.tmod wv 8))),(35,vF)] (by simp only[b67,Bool.not_true,Bool.not_false]) ?_
 clear b67
 refine T_fz 35<|aA 10<|T_ed 2 [35] [(35,.bool ((zY (Int.tmod wv 8))==2))] ?_
 revert h;refine iO_ (λc68 h=>?_) (λc68 h=>?_)
 ·refine S_bd 35 (zK c68)<|T_tz 35<|T_kt ?_
  exact jZ (true:Bool) sk h
 refine S_bd 35 (zJ c68)<|T_fz 35<|aA 11<|T_ed 2 [35] [(35,.bool ((zY (Int.tmod wv 8))==3))] ?_
 revert h;refine iO_ (λc70 h=>?_) (λc70 h=>?_)
 ·refine S_bd 35 (zK c70)<|T_tz 35<|T_kt ?_
  exact jZ (true:Bool) sk h
 refine S_bd 35 (zJ c70)<|T_fz 35<|T_rz 12<|T_ed 2 [35] [(35,.bool ((zY (Int.tmod wv 8))==6))] ?_
 exact jZ (((zY (Int.tmod wv 8))==6):Bool) sk h
end cT
/-! moraine/moraineref01.power -/
namespace bZ
def K0:=Func.code f135
def K2:=cb K0
def K4:=cb K2
def K5:=ca K4
def K8:=cb K5
def K9:=ca K8
def K10:=ca K9
end bZ
def bZ.pt(nv:Int)(H:zV)(R:zk):Prop:=
 ∃(a:Int->zv) (m11:Int->Int->zV->Nat),a 1 0 H/\ ∀x i H1,a x i H1->
 if i<nv then(
 (a (IntKind.wrap .u64 (x*2)) (zY (i+1)) H1/\m11 (IntKind.wrap .u64 (x*2)) (zY (i+1)) H1<m11 x i H1))
 else
 R (vu x) H1
namespace bZ
theorem link{nv:Int}{H:zV}{R:zk}(h:pt nv H R):C nv H R:=by
 refine T_en K0 13 func135 ?_
 intro w0 Q hQ
 unfold pt zY at h
 refine T_su [(0,vi nv)]<|aA 0<|T_ed 1 [] []<|aA 1<|T_ed 1 [] [(3,vu 1)]<|T_sz<|aA 2<|T_ed 1 [] [(4,vi 0)]<|T_bz 0 ?_
 obtain⟨a,m11,i1,i2⟩:=h
 refine bR (x:=K10) (σ:=Int×Int) (λs_=> [(0,vi nv),(3,vu s_.1),(4,vi s_.2)]) (λs_ H=>a s_.1 s_.2 H) (λs_ H=>m11 s_.1 s_.2 H) ((1,0):Int×Int) (by kernel_rfl) i1 sk ?_
 rintro⟨x,i⟩ H1 i3
 have h:=i2 x i H1 i3
 refine T_su [(0,vi nv),(3,vu x),(4,vi i)]<|T_sz<|aA 3<|T_ed 3 [] [(7,.bool (decide (i<nv)))] ?_
 revert h;refine iO_ (λc4 h=>?_) (λc4 h=>?_)
 ·exact aI 7 (zX c4)<|T_kt<|T_sz<|T_bz 1<|T_rz 5<|T_nd 3 [3,7] [(3,vu (IntKind.wrap .u64 (x*2)))]<|zq<|aE<|aD<|T_rz 4<|T_ed 3 [4] [(4,vi (zY (i+1)))]<|aQ (((IntKind.wrap .u64 (x*2)),(zY (i+1))):Int×Int) sk h
 exact aJ 7 (zQ c4)<|zj 0<|aB<|aB<|aM<|aD<|aA 6<|T_nr 2 [2] [vu x] hQ h
end bZ
variable{H:zV}{d j:zW}{i:zk}
/-! moraine/weak.Guards -/
namespace eO
def K0:=Func.code f15
def K2:=cb K0
def K3:=ca K2
def K5:=cb K3
def K13:=cb K5
def K14:=ca K13
def K15:=cb K13
def K17:=cb K14
def K18:=ca K17
def K19:=ca K18
def K36:=cb K15
def K37:=cb K36
def K38:=ca K37
def K39:=cb K37
def K41:=cb K38
def K42:=ca K41
def K43:=ca K42
def K45:=cb K43
def K47:=cb K45
def K50:=ca K47
def K52:=ca K50
def K54:=cb K52
def K56:=cb K54
def K57:=ca K56
def K60:=cb K57
def K62:=cb K60
def K63:=ca K62
def K68:=cb K39
def K69:=ca K68
def K72:=cb K69
def K73:=ca K72
def K74:=ca K73
def K76:=cb K74
def K78:=cb K76
def K81:=ca K78
def K83:=ca K81
def K85:=cb K83
def K87:=cb K85
def K88:=ca K87
end eO
def eO.pt(tv lB:zW)(lN lC:Nat)(H:zV)(R:zk):Prop:=
 ∀b H1,b=H.size->H1=H.push (.cells #[vp tv] 37)->
 ∀e H2,e=H1.size->H2=H1.push (.cells #[vs lB lN lC] 31)->
 ∃x,hat H2 (ad b)=some (vp x)/\
 gE.C x H2 (λv H3=> ∃bz,v=.bool bz/\
 if bz=true then(
 ∃xB xN xC,hat H3 (ad e)=some (vs xB xN xC)/\
 iN.C xB xN xC H3 (λcu H4=> ∃bn bh bk,cu=vs bn bh bk/\
 R (vs bn bh bk) H4))
 else
 ∃b9 z b8,hat H3 (ad e)=some (vs b9 z b8)/\
 0<=(z:Int)/\(z:Int)<=(z:Int)/\8*(z:Int)<=2 ^ 48/\(z:Int)<=9223372036854775807/\
 ∀bg H5,bg=H3.size->H5=H3.push (.cells (Builtin.zeroCells #[vi 0] (Int.toNat (z:Int))) 3)->
 ∀d H6,d=H5.size->H6=H5.push (.cells #[vN] 75)->
 (aN H6 (ad d) 0 1)/\ ∀H7,H7=aV H6 (ad d) [vs (some (ad bg)) (Int.toNat (z:Int)) (Int.toNat (z:Int))] 0->
 ∃aj j s,hat H7 (ad e)=some (vs aj j s)/\
 ∃(b0:zv) (m20:Int->zV->Nat),b0 0 H7/\ ∀m H8,b0 m H8->
 if m< (j:Int)then(
 ∃aa,aj=some aa/\
 zw m j/\
 ∃aw ac,aP H8 (aa.add (Int.toNat m*2)) 0 [vu aw,vu ac]/\
 ∀aq H9,aq=H8.size->H9=H8.push (.cells #[vu 0,vu 0] 36)->
 (aN H9 (ad aq) 0 2)/\ ∀b4,b4=aV H9 (ad aq) [vu aw,vu ac] 0->
 ∃br,hat b4 (ad b)=some (vp br)/\
 ∃b5,hat b4 (ad aq)=some (vu b5)/\
 aU.C br b5 b4 (λcs bt=> ∃bb,cs=.bool bb/\
 if bb=true then(
 (b0 (zY (m+1)) bt/\m20 (zY (m+1)) bt<m20 m H8))
 else
 ∃bm a3 be,hat bt (ad d)=some (vs bm a3 be)/\
 ∃ax,bm=some ax/\
 zw m a3/\
 (aN bt (ax.add (Int.toNat m*1)) 0 1)/\ ∀cc,cc=aV bt (ax.add (Int.toNat m*1)) [vi 1] 0->
 (b0 (zY (m+1)) cc/\m20 (zY (m+1)) cc<m20 m H8)))
 else
 ∃(cd:zV->Prop) (m38:zV->Nat),cd H8/\ ∀b6,cd b6->
 ∃ak o ae,hat b6 (ad e)=some (vs ak o ae)/\
 ∃(cg:zv) (m44:Int->zV->Nat),cg 0 b6/\ ∀p H14,cg p H14->
 if p< (o:Int)then(
 ∃af,ak=some af/\
 zw p o/\
 ∃ag y,aP H14 (af.add (Int.toNat p*2)) 0 [vu ag,vu y]/\
 ∀ab H15,ab=H14.size->H15=H14.push (.cells #[vu 0,vu 0] 36)->
 (aN H15 (ad ab) 0 2)/\ ∀ci,ci=aV H15 (ad ab) [vu ag,vu y] 0->
 dL.C p (some (ad d)) (some (ad b)) (some (ad e)) ci (λcr bu=> ∃bs,cr=.bool bs/\
 if bs=true then(
 ∃bi a6 bd,hat bu (ad d)=some (vs bi a6 bd)/\
 ∃ay,bi=some ay/\
 zw p a6/\
 (aN bu (ay.add (Int.toNat p*1)) 0 1)/\ ∀b3,b3=aV bu (ay.add (Int.toNat p*1)) [vi 2] 0->
 ∃bp,hat b3 (ad b)=some (vp bp)/\
 ∃b1,hat b3 (ad ab)=some (vu b1)/\
 aT.C bp b1 b3 (λcv ce=> ∃ao,cv=vu ao/\
 ∃ai,hat ce (ad b)=some (vp ai)/\
 ∃au,hat ce (ad b)=some (vp au)/\
 ∃a2,hat ce ((ad ab).add 1)=some (vu a2)/\
 aT.C au a2 ce (λcq cp=> ∃bw,cq=vu bw/\aP cp (ad b) 0 [vp ai]/\
 io.C ai bw ao cp (λ_ ck=>
 ∃bl,hat ck (ad b)=some (vp bl)/\
 bS.C bl ck (λ_ cj=>
 (cd cj/\m38 cj<m38 b6))))))
 else
 (cg (zY (p+1)) bu/\m44 (zY (p+1)) bu<m44 p H14)))
 else
 ∃al f n,hat H14 (ad e)=some (vs al f n)/\
 ∃(bx:zW->Nat->Nat->zv) (m75:zW->Nat->Nat->Int->zV->Nat),bx none 0 0 0 H14/\ ∀g outN outC s68 H23,bx g outN outC s68 H23->
 if s68< (f:Int)then(
 ∃q,al=some q/\
 zw s68 f/\
 ∃ah u,aP H23 (q.add (Int.toNat s68*2)) 0 [vu ah,vu u]/\
 ∀r H24,r=H23.size->H24=H23.push (.cells #[vu 0,vu 0] 36)->
 (aN H24 (ad r) 0 2)/\ ∀bc,bc=aV H24 (ad r) [vu ah,vu u] 0->
 ∃bj a8 bf,hat bc (ad d)=some (vs bj a8 bf)/\
 ∃a9,bj=some a9/\
 zw s68 a8/\
 ∃a1,hat bc (a9.add (Int.toNat s68*1))=some (vi a1)/\
 if a1<2 then(
 ∃a7,hat bc (ad b)=some (vp a7)/\
 ∃bo,hat bc ((ad r).add 1)=some (vu bo)/\
 aU.C a7 bo bc (λct bq=> ∃a5,ct=.bool a5/\
 if a5=true then(
 ∃am,hat bq (ad b)=some (vp am)/\
 ∃av,hat bq (ad r)=some (vu av)/\
 ∃an,hat bq (ad b)=some (vp an)/\
 ∃a0,hat bq ((ad r).add 1)=some (vu a0)/\
 aT.C am av bq (λco ch=> ∃az,co=vu az/\aP ch (ad b) 0 [vp an]/\aP ch ((ad r).add 1) 0 [vu a0]/\
 aT.C an a0 ch (λcl cn=> ∃a4,cl=vu a4/\
 ∀b2 H29,b2=cn.size->H29=cn.push (.cells #[vu az,vu a4] 36)->
 fE 2 36 16 [vu 0,vu 0] g outN outC (some (ad b2)) 1 H29 (λap ba cm=>
 (bx ap (outN+1) ba (zY (s68+1)) cm/\m75 ap (outN+1) ba (zY (s68+1)) cm<m75 g outN outC s68 H23)))))
 else
 (bx g outN outC (zY (s68+1)) bq/\m75 g outN outC (zY (s68+1)) bq<m75 g outN outC s68 H23)))
 else
 (bx g outN outC (zY (s68+1)) bc/\m75 g outN outC (zY (s68+1)) bc<m75 g outN outC s68 H23))
 else
 R (vs g outN outC) H23)
namespace eO
theorem link{lN lC:Nat}(h:pt d j lN lC H i):C d j lN lC H i:=by
 refine T_en K0 98 func15 ?_
 intro w0 Q hQ
 unfold pt zY at h
 refine T_su [(0,vp d),(1,vs j lN lC)]<|aA 0<|T_nw (some 2) (λb=>vp (pa b)) (.cells #[vp d] 37) ?_
 intro b H1 e1 e2
 replace h:=h b H1 e1 e2
 refine T_pd [0] [(2,vp (pa b))]<|T_nw (some 3) (λb=>vp (pa b)) (.cells #[vs j lN lC] 31) ?_
 intro e H2 e3 e4
 replace h:=h e H2 e3 e4
 refine T_pd [1] [(3,vp (pa e))]<|T_ed 1 [] []<|sG K3 0 (by kernel_rfl) (by kernel_rfl)<|T_sz<|aA 1 ?_
 obtain⟨x,q5,h⟩:=h
 refine T_l1 15 37 q5 []<|T_c (some 16) h ?_;clear h
 rintro v H3 ⟨bz,rfl,h⟩
 refine T_pd [15] [(16,.bool bz)]<|T_e ?_
 revert h;refine iO_ (λc6 h=>?_) (λc6 h=>?_)
 ·refine aI 16 c6<|aA 2<|T_ud [2,16] [] ?_
  obtain⟨xB,xN,xC,q8,h⟩:=h
  refine T_l1 17 31 q8 [3]<|T_c (some 18) h ?_;clear h
  rintro cu H4 ⟨bn,bh,bk,rfl,h⟩
  refine⟨[(18,vs bn bh bk)],pk,?_⟩
  exact T_nr 1 [4] [vs bn bh bk] hQ h
 refine aJ 16 (zZ c6)<|T_kt<|aA 3<|T_ud [16] [] ?_
 obtain⟨b9,z,b8,q9,h⟩:=h
 refine T_l1 19 31 q9 []<|T_nd 1 [19] [(20,vi z)] ?_
 obtain⟨q10,q11,q12,q13,h⟩:=h
 refine N_op (some 21) (j3 75 (vi z) (vi z)) (λv Hz=>v=Value.slice (some (Addr.mk H3.size 0 none)) (Int.toNat (z:Int)) (Int.toNat (z:Int))/\Hz=H3.push (.cells (Builtin.zeroCells #[vi 0] (Int.toNat (z:Int))) 3)) (λ_=>by kernel_rfl) (qU (T:=3) (zero:=vi 0) underlying75 (show prog.info? 3=some t3 from by kernel_rfl) (by kernel_rfl) q10 q11 q12 q13 (by kernel_rfl) (by decide)) ?_
 rintro _ H5 ⟨rfl,e15⟩
 obtain⟨bg,e14⟩: ∃b,b=H3.size:=⟨_,rfl⟩
 replace h:=h bg H5 e14 e15
 rw[<-e14]
 refine T_pd [20] [(21,vs (pa bg) (Int.toNat (z:Int)) (Int.toNat (z:Int)))]<|T_nw (some 5) (λb=>vp (pa b)) (.cells #[vN] 75) ?_
 intro R H6 e16 e17
 replace h:=h R H6 e16 e17
 refine T_pd [] [(5,vp (pa R))] ?_
 obtain⟨q19,h⟩:=h
 refine jf 75 (vs (pa bg) (Int.toNat (z:Int)) (Int.toNat (z:Int))) q19 ?_
 intro H7 e18
 replace h:=h H7 e18
 refine T_pd [21] []<|T_e<|T_sz<|aA 4 ?_
 obtain⟨aj,lB,s,q20,h⟩:=h
 refine T_l1 22 31 q20 []<|T_ed 2 [] [(23,vi lB),(24,vi 0)]<|T_bz 0 ?_
 obtain⟨b0,m20,i21,i22⟩:=h
 refine bR (x:=K19) (σ:=Int) (λs_=> [(2,vp (pa b)),(3,vp (pa e)),(5,vp (pa R)),(22,vs aj lB s),(23,vi lB),(24,vi s_)]) (λs_ H=>b0 s_ H) (λs_ H=>m20 s_ H) (0:Int) (by kernel_rfl) i21 sk ?_
 rintro m H8 i23
 have h:=i22 m H8 i23
 refine T_su [(2,vp (pa b)),(3,vp (pa e)),(5,vp (pa R)),(22,vs aj lB s),(23,vi lB),(24,vi m)]<|aA 5<|T_ed 1 [] [(25,.bool (decide (m< (lB:Int))))]<|T_sz ?_
 revert h;refine iO_ (λc24 h=>?_) (λc24 h=>?_)
 ·refine aI 25 (zX c24)<|T_kt<|T_sz<|T_bz 1<|aA 6<|T_nd 1 [25] [(26,vi m)] ?_
  obtain⟨aa,rfl,q26,h⟩:=h
  refine T_xd (some 27) 31 36 2 aa lB s .i64 m underlying31 q26.1 q26.2 [22] [(22,vs (some aa) lB s),(27,vq (aa.add (Int.toNat m*2)))] ?_
  obtain⟨aw,ac,q27,h⟩:=h
  refine T_lr 28 36 q27 [27]<|T_nw (some 7) (λb=>vp (pa b)) (.cells #[vu 0,vu 0] 36) ?_
  intro aq H9 e28 e29
  replace h:=h aq H9 e28 e29
  refine T_pd [] [(7,vp (pa aq))]<|T_nd 1 [26] [(6,vi m)] ?_
  obtain⟨q31,h⟩:=h
  refine fL 36 [vu aw,vu ac] q31 ?_
  intro b4 e30
  replace h:=h b4 e30
  refine T_pd [28] []<|T_e<|aA 7 ?_
  obtain⟨br,q32,h⟩:=h
  refine T_l1 29 37 q32 []<|T_nd 1 [7] [(30,vp (pa aq))] ?_
  obtain⟨b5,q33,h⟩:=h
  refine T_l1 31 28 q33 [30]<|T_c (some 32) h ?_;clear h
  rintro cs bt ⟨bb,rfl,h⟩
  refine T_pd [29,31] [(32,.bool bb)]<|T_ed 1 [32] [(33,.bool (!bb))] ?_
  revert h;refine iO_ (λc34 h=>?_) (λc34 h=>?_)
  ·exact aJ 33 (congrArg Bool.not (c34))<|T_k<|aE<|aD<|T_rz 9<|T_ed 2 [6,24,33] [(24,vi (zY (m+1)))]<|aQ ((zY (m+1)):Int) sk h
  refine aI 33 (congrArg Bool.not (zZ c34))<|T_rz 8<|T_ud [33] [] ?_
  obtain⟨bm,a3,be,q36,h⟩:=h
  refine T_l1 34 75 q36 []<|T_nd 1 [6] [(35,vi m)] ?_
  obtain⟨ax,rfl,q37,h⟩:=h
  refine T_xd (some 36) 75 3 1 ax a3 be .i64 m underlying75 q37.1 q37.2 [34,35] [(36,vq (ax.add (Int.toNat m*1)))] ?_
  obtain⟨q39,h⟩:=h
  refine jf 3 (vi 1) q39 ?_
  intro cc e38
  replace h:=h cc e38
  exact T_pd [36] []<|zq<|aE<|aD<|T_rz 9<|T_ed 2 [24] [(24,vi (zY (m+1)))]<|aQ ((zY (m+1)):Int) sk h
 refine aJ 25 (zQ c24)<|zj 0<|aB<|aB<|aM<|aD<|aA 10<|T_ed 2 [22,23,24,25] [(8,.func (.func 61) #[] #[vp (pa R),vp (pa b),vp (pa e)])] ?_
 obtain⟨cd,m38,i40,i41⟩:=h
 refine sH 0 K37 [(2,vp (pa b)),(3,vp (pa e)),(5,vp (pa R)),(8,.func (.func 61) #[] #[vp (pa R),vp (pa b),vp (pa e)])] cd m38 (by kernel_rfl) (by kernel_rfl) i40 sk ?_
 rintro b6 i42
 have h:=i41 b6 i42
 refine T_sz<|aA 11 ?_
 obtain⟨ak,o,ae,q43,h⟩:=h
 refine T_l (some 39) 31 q43 [(2,vp (pa b)),(3,vp (pa e)),(5,vp (pa R)),(8,.func (.func 61) #[] #[vp (pa R),vp (pa b),vp (pa e)]),(39,vs ak o ae)]<|T_ed 2 [] [(40,vi o),(41,vi 0)]<|T_bz 2 ?_
 obtain⟨cg,m44,i44,i45⟩:=h
 refine bR (x:=K43) (σ:=Int) (λs_=> [(2,vp (pa b)),(3,vp (pa e)),(5,vp (pa R)),(8,.func (.func 61) #[] #[vp (pa R),vp (pa b),vp (pa e)]),(39,vs ak o ae),(40,vi o),(41,vi s_)]) (λs_ H=>cg s_ H) (λs_ H=>m44 s_ H) (0:Int) (by kernel_rfl) i44 sk ?_
 rintro p H14 i46
 have h:=i45 p H14 i46
 refine T_su [(2,vp (pa b)),(3,vp (pa e)),(5,vp (pa R)),(8,.func (.func 61) #[] #[vp (pa R),vp (pa b),vp (pa e)]),(39,vs ak o ae),(40,vi o),(41,vi p)]<|aA 12<|T_ed 1 [] [(42,.bool (decide (p< (o:Int))))]<|T_sz ?_
 revert h;refine iO_ (λc47 h=>?_) (λc47 h=>?_)
 ·refine aI 42 (zX c47)<|T_kt<|T_sz<|T_bz 3<|aA 13<|T_nd 1 [42] [(43,vi p)] ?_
  obtain⟨af,rfl,q49,h⟩:=h
  refine T_xd (some 44) 31 36 2 af o ae .i64 p underlying31 q49.1 q49.2 [39] [(39,vs (some af) o ae),(44,vq (af.add (Int.toNat p*2)))] ?_
  obtain⟨ag,y,q50,h⟩:=h
  refine T_lr 45 36 q50 [44]<|T_nw (some 10) (λb=>vp (pa b)) (.cells #[vu 0,vu 0] 36) ?_
  intro ab H15 e51 e52
  replace h:=h ab H15 e51 e52
  refine T_pd [] [(10,vp (pa ab))]<|T_nd 1 [43] [(9,vi p)] ?_
  obtain⟨q54,h⟩:=h
  refine fL 36 [vu ag,vu y] q54 ?_
  intro ci e53
  replace h:=h ci e53
  refine T_pd [45] []<|T_e<|aA 14<|T_nd 2 [] [(46,.func (.func 61) #[] #[vp (pa R),vp (pa b),vp (pa e)]),(47,vi p)]<|T_c (some 48) h ?_;clear h
  rintro cr bu ⟨bs,rfl,h⟩
  refine T_pd [46,47] [(48,.bool bs)]<|T_e ?_
  revert h;refine iO_ (λc55 h=>?_) (λc55 h=>?_)
  ·refine aI 48 c55<|aA 15<|T_ud [39,40,41,48] [] ?_
   obtain⟨bi,a6,bd,q57,h⟩:=h
   refine T_l1 49 75 q57 []<|T_nd 1 [9] [(50,vi p)] ?_
   obtain⟨ay,rfl,q58,h⟩:=h
   refine T_xd (some 51) 75 3 1 ay a6 bd .i64 p underlying75 q58.1 q58.2 [49,50] [(51,vq (ay.add (Int.toNat p*1)))] ?_
   obtain⟨q60,h⟩:=h
   refine jf 3 (vi 2) q60 ?_
   intro b3 e59
   replace h:=h b3 e59
   refine T_pd [51] []<|T_e<|aA 16 ?_
   obtain⟨bp,q61,h⟩:=h
   refine T_l1 52 37 q61 []<|T_nd 1 [] [(53,vp (pa ab))] ?_
   obtain⟨b1,q62,h⟩:=h
   refine T_l1 54 28 q62 [53]<|T_c (some 55) h ?_;clear h
   rintro cv ce ⟨ao,rfl,h⟩
   refine T_pd [52,54] [(55,vu ao)]<|T_ed 1 [55] [(11,vu ao)]<|T_sz ?_
   obtain⟨ai,q63,au,q64,a2,q65,h⟩:=h
   refine yY 17 (Code.ops K63) [(6,(ad b),[vp ai]),(4,(ad b),[vp au]),(4,((ad ab).add 1),[vu a2])] 7 (bv 7 0) (show aH _ _ _ from⟨⟨q63,trivial⟩,⟨q64,trivial⟩,⟨q65,trivial⟩,trivial⟩)<|T_g 0 (some 56) (vp ai) (bv 7 1) [(2,vp (pa b)),(3,vp (pa e)),(5,vp (pa R)),(8,.func (.func 61) #[] #[vp (pa R),vp (pa b),vp (pa e)]),(10,vp (pa ab)),(11,vu ao),(56,vp ai)] (aR 37 (vp (pa b))) (yW 6 yZ)<|T_g1 1 57 (vp au) (bv 7 3) [] (aR 37 (vp (pa b))) (yW 4 yX)<|aF 2 58 (vq ((ad ab).add 1)) (bv 7 7) [10]<|T_g1 3 59 (vu a2) (bv 7 15) [58] (aR 28 (vq ((ad ab).add 1))) (yW 4 yQ)<|aF 5 61 (vu ao) (bv 7 47) [11]<|yq 4 (some 60) (bv 7 63) 13 #[vp au,vu a2] h ?_;clear h
   rintro cq cp ⟨bw,rfl,f66,h⟩
   refine⟨[(2,vp (pa b)),(3,vp (pa e)),(5,vp (pa R)),(8,.func (.func 61) #[] #[vp (pa R),vp (pa b),vp (pa e)]),(56,vp ai),(60,vu bw),(61,vu ao)],pk,(show aH _ _ _ from⟨f66,trivial,trivial,trivial⟩),?_⟩
   refine yq 6 (some 62) (bv 7 127) 62 #[vp ai,vu bw,vu ao] h ?_;clear h
   intro v_7 ck h
   refine⟨[(2,vp (pa b)),(3,vp (pa e)),(5,vp (pa R)),(8,.func (.func 61) #[] #[vp (pa R),vp (pa b),vp (pa e)])],pk,(show aH _ _ _ from⟨trivial,trivial,trivial,trivial⟩),?_⟩
   refine fQ [(2,vp (pa b)),(3,vp (pa e)),(5,vp (pa R)),(8,.func (.func 61) #[] #[vp (pa R),vp (pa b),vp (pa e)])] sk ?_
   refine yx<|aD<|aA 18 ?_
   obtain⟨bl,q67,h⟩:=h
   refine T_l (some 63) 37 q67 [(2,vp (pa b)),(3,vp (pa e)),(5,vp (pa R)),(8,.func (.func 61) #[] #[vp (pa R),vp (pa b),vp (pa e)]),(63,vp bl)]<|T_c (some 64) h ?_;clear h
   intro v_8 cj h
   exact T_pd [63] []<|T_e<|up 0 (by kernel_rfl)<|mi<|kV<|kV<|mi<|kV<|uq sk h
  exact aJ 48 (zZ c55)<|T_k<|aE<|aD<|T_rz 19<|T_ed 2 [9,10,41,48] [(41,vi (zY (p+1)))]<|aQ ((zY (p+1)):Int) sk h
 refine aJ 42 (zQ c47)<|zj 2<|aB<|aB<|aM<|aD<|aA 20<|T_ed 1 [8,39,40,41,42] [(12,vN)]<|T_sz<|aA 21 ?_
 obtain⟨al,f,n,q68,h⟩:=h
 refine T_l1 66 31 q68 [3]<|T_ed 2 [] [(67,vi f),(68,vi 0)]<|T_bz 4 ?_
 obtain⟨bx,m75,i69,i70⟩:=h
 refine bR (x:=K74) (σ:=zW×Nat×Nat×Int) (λs_=> [(2,vp (pa b)),(5,vp (pa R)),(12,vs s_.1 s_.2.1 s_.2.2.1),(66,vs al f n),(67,vi f),(68,vi s_.2.2.2)]) (λs_ H=>bx s_.1 s_.2.1 s_.2.2.1 s_.2.2.2 H) (λs_ H=>m75 s_.1 s_.2.1 s_.2.2.1 s_.2.2.2 H) ((none,0,0,0):zW×Nat×Nat×Int) (by kernel_rfl) i69 sk ?_
 rintro⟨g,outN,outC,s68⟩ H23 i71
 have h:=i70 g outN outC s68 H23 i71
 refine T_su [(2,vp (pa b)),(5,vp (pa R)),(12,vs g outN outC),(66,vs al f n),(67,vi f),(68,vi s68)]<|aA 22<|T_ed 1 [] [(69,.bool (decide (s68< (f:Int))))]<|T_sz ?_
 revert h;refine iO_ (λc72 h=>?_) (λc72 h=>?_)
 ·refine aI 69 (zX c72)<|T_kt<|T_sz<|T_bz 5<|aA 23<|T_nd 1 [69] [(70,vi s68)] ?_
  obtain⟨q,rfl,q74,h⟩:=h
  refine T_xd (some 71) 31 36 2 q f n .i64 s68 underlying31 q74.1 q74.2 [66] [(66,vs (some q) f n),(71,vq (q.add (Int.toNat s68*2)))] ?_
  obtain⟨ah,u,q75,h⟩:=h
  refine T_lr 72 36 q75 [71]<|T_nw (some 14) (λb=>vp (pa b)) (.cells #[vu 0,vu 0] 36) ?_
  intro r H24 e76 e77
  replace h:=h r H24 e76 e77
  refine T_pd [] [(14,vp (pa r))]<|T_nd 1 [70] [(13,vi s68)] ?_
  obtain⟨q79,h⟩:=h
  refine fL 36 [vu ah,vu u] q79 ?_
  intro bc e78
  replace h:=h bc e78
  refine T_pd [72] []<|T_e<|aA 24 ?_
  obtain⟨bj,a8,bf,q80,h⟩:=h
  refine T_l1 73 75 q80 []<|T_nd 1 [13] [(74,vi s68)] ?_
  obtain⟨a9,rfl,q81,h⟩:=h
  refine T_xd (some 75) 75 3 1 a9 a8 bf .i64 s68 underlying75 q81.1 q81.2 [73,74] [(75,vq (a9.add (Int.toNat s68*1)))] ?_
  obtain⟨a1,q82,h⟩:=h
  refine T_l1 76 3 q82 [75]<|T_nd 2 [76] [(78,.bool (decide (a1<2)))] ?_
  revert h;refine iO_ (λc83 h=>?_) (λc83 h=>?_)
  ·refine N_bd 78 (zX c83) ?_
   obtain⟨a7,q85,h⟩:=h
   refine T_l1 79 37 q85 []<|T_nd 1 [] [(80,vq ((ad r).add 1))] ?_
   obtain⟨bo,q86,h⟩:=h
   refine T_l1 81 28 q86 [80]<|T_c (some 82) h ?_;clear h
   rintro ct bq ⟨a5,rfl,h⟩
   refine T_pd [79,81] [(82,.bool a5)]<|T_ed 1 [78,82] [(83,.bool a5)] ?_
   revert h;refine iO_ (λc87 h=>?_) (λc87 h=>?_)
   ·refine aI 83 c87 ?_
    obtain⟨am,q89,av,q90,an,q91,a0,q92,h⟩:=h
    refine yY 25 (Code.ops K88) [(4,(ad b),[vp am]),(4,(ad r),[vu av]),(8,(ad b),[vp an]),(8,((ad r).add 1),[vu a0])] 13 (bv 13 0) (show aH _ _ _ from⟨⟨q89,trivial⟩,⟨q90,trivial⟩,⟨q91,trivial⟩,⟨q92,trivial⟩,trivial⟩)<|T_gp 0 (some 84) (vs g outN outC) (bv 13 1) [(2,vp (pa b)),(5,vp (pa R)),(12,vs g outN outC),(14,vp (pa r)),(66,vs (some q) f n),(67,vi f),(68,vi s68),(84,vs g outN outC)]<|T_g1 1 85 (vp am) (bv 13 3) [] (aR 37 (vp (pa b))) (yW 4 yZ)<|aF 2 86 (vp (pa r)) (bv 13 7) []<|T_g1 3 87 (vu av) (bv 13 15) [86] (aR 28 (vp (pa r))) (yW 4 yX)<|T_g1 5 89 (vp an) (bv 13 47) [] (aR 37 (vp (pa b))) (yW 8 yQ)<|aF 6 90 (vq ((ad r).add 1)) (bv 13 111) [14]<|T_g1 7 91 (vu a0) (bv 13 239) [90] (aR 28 (vq ((ad r).add 1))) (yW 8 yJ)<|yq 4 (some 88) (bv 13 255) 13 #[vp am,vu av] h ?_;clear h
    rintro co ch ⟨az,rfl,f93,f94,h⟩
    refine⟨[(2,vp (pa b)),(5,vp (pa R)),(12,vs g outN outC),(66,vs (some q) f n),(67,vi f),(68,vi s68),(84,vs g outN outC),(88,vu az),(89,vp an),(91,vu a0)],pk,(show aH _ _ _ from⟨trivial,trivial,f93,f94,trivial⟩),?_⟩
    refine yq 8 (some 92) (bv 13 511) 13 #[vp an,vu a0] h ?_;clear h
    rintro cl cn ⟨a4,rfl,h⟩
    refine⟨[(2,vp (pa b)),(5,vp (pa R)),(12,vs g outN outC),(66,vs (some q) f n),(67,vi f),(68,vi s68),(84,vs g outN outC),(88,vu az),(92,vu a4)],pk,(show aH _ _ _ from⟨trivial,trivial,trivial,trivial,trivial⟩),?_⟩
    refine T_g 9 (some 93) (.agg #[vu az,vu a4]) (bv 13 1023) [(2,vp (pa b)),(5,vp (pa R)),(12,vs g outN outC),(66,vs (some q) f n),(67,vi f),(68,vi s68),(84,vs g outN outC),(93,.agg #[vu az,vu a4])] (pure (.value (.agg #[vu az,vu a4])):Sem Next) (λ_ _ _ _ _=>rfl)<|nT 10 (some 94) (bv 13 2047) (λb=>vs (pa b) 1 1) (.cells #[vu az,vu a4] 36) (by kernel_rfl) (λ_=>by kernel_rfl) (by kernel_rfl) ?_
    intro b2 H29 e95 e96
    replace h:=h b2 H29 e95 e96
    refine⟨[(2,vp (pa b)),(5,vp (pa R)),(12,vs g outN outC),(66,vs (some q) f n),(67,vi f),(68,vi s68),(84,vs g outN outC),(94,vs (pa b2) 1 1)],pk,(show aH _ _ _ from⟨trivial,trivial,trivial,trivial,trivial⟩),?_⟩
    refine mS 11 (some 95) (bv 13 4095) (fR #[31,31] 31 #[vs g outN outC,vs (pa b2) 1 1]) _ (by kernel_rfl) (λ_=>by kernel_rfl) (fu (T:=36) (sz:=2) (bytes:=16) (zero:=(.agg #[vu 0,vu 0]:Value)) underlying31 underlying31 rfl (show prog.info? 36=some t36 from by kernel_rfl) (by kernel_rfl) (by kernel_rfl) (by decide) (by kernel_rfl) (by first | exact h | (simpa only[Value.cells,List.toList_toArray]using h))) (by kernel_rfl) ?_;clear h
    rintro _ cm ⟨ap,ba,rfl,h⟩
    refine⟨[(2,vp (pa b)),(5,vp (pa R)),(12,vs g outN outC),(66,vs (some q) f n),(67,vi f),(68,vi s68),(95,vs ap (outN+1) ba)],pk,(show aH _ _ _ from⟨trivial,trivial,trivial,trivial,trivial⟩),?_⟩
    exact T_g 12 (some 12) (vs ap (outN+1) ba) (bv 13 8191) [(2,vp (pa b)),(5,vp (pa R)),(12,vs ap (outN+1) ba),(66,vs (some q) f n),(67,vi f),(68,vi s68)] (pure (.value (vs ap (outN+1) ba)):Sem Next) (λ_ _ _ _ _=>rfl)<|fQ [(2,vp (pa b)),(5,vp (pa R)),(12,vs ap (outN+1) ba),(66,vs (some q) f n),(67,vi f),(68,vi s68)] sk<|yx<|aE<|aD<|T_rz 26<|T_ne 2 [(2,vp (pa b)),(5,vp (pa R)),(12,vs ap (outN+1) ba),(66,vs (some q) f n),(67,vi f),(68,vi (zY (s68+1)))]<|aQ ((ap,(outN+1),ba,(zY (s68+1))):zW×Nat×Nat×Int) sk h
   exact aJ 83 (zZ c87)<|T_k<|aE<|aD<|T_rz 26<|T_ed 2 [14,68,83] [(68,vi (zY (s68+1)))]<|aQ ((g,outN,outC,(zY (s68+1))):zW×Nat×Nat×Int) sk h
  refine N_bd 78 (zQ c83)<|T_ed 5 [78] [(83,vF)]<|T_fz 83<|T_k ?_
  exact aE<|aD<|T_rz 26<|T_ed 2 [14,68,83] [(68,vi (zY (s68+1)))]<|aQ ((g,outN,outC,(zY (s68+1))):zW×Nat×Nat×Int) sk h
 exact aJ 69 (zQ c72)<|zj 4<|aB<|aB<|aM<|aD<|aA 27<|T_nr 2 [4] [vs g outN outC] hQ h
end eO
/-! moraine/weak.Breaks -/
namespace gl
def K0:=Func.code f20
def K2:=cb K0
def K8:=cb K2
def K9:=ca K8
def K10:=ca K9
def K12:=cb K10
def K14:=cb K12
def K17:=ca K14
def K19:=ca K17
def K21:=cb K19
def K23:=cb K21
def K24:=ca K23
def K26:=cb K24
def K28:=cb K26
def K30:=cb K28
def K31:=ca K30
end gl
def gl.pt(tv:zW)(H:zV)(R:zk):Prop:=
 gE.C tv H (λv H1=> ∃x,v=.bool x/\
 if x=true then(
 R (.tuple #[]) H1)
 else
 cK.C tv H1 (λaq H2=> ∃xB xN xC,aq=vs xB xN xC/\
 ∃(s:zv) (m11:Int->zV->Nat),s 0 H2/\ ∀b H3,s b H3->
 if b< (xN:Int)then(
 ∃e,xB=some e/\
 zw b xN/\
 ∃f,hat H3 (e.add (Int.toNat b*1))=some (vi f)/\
 ∃d,tv=some d/\
 ∃ak,hat H3 d=some (vp ak)/\
 ∃ag,ak=some ag/\
 ∃ai,hat H3 ag=some (vp ai)/\
 ∃aj,ai=some aj/\
 ∃af,hat H3 aj=some (vp af)/\
 ∃ah,af=some ah/\
 ∃aa,hat H3 ah=some (vp aa)/\
 bL.C aa f H3 (λaw H4=> ∃ra rb,aw=.tuple #[vu ra,vi rb]/\
 aZ.C (some d) ra H4 (λax H5=> ∃o,ax=.bool o/\
 if o=true then(
 aU.C (some d) ra H5 (λay H6=> ∃q,ay=.bool q/\
 if q=true then(
 ∃ap,hat H6 d=some (vp ap)/\
 ∃n,ap=some n/\
 ∃am,hat H6 n=some (vp am)/\
 ∃j,am=some j/\
 ∃al,hat H6 j=some (vp al)/\
 ∃g,al=some g/\
 ∃m,hat H6 g=some (vp m)/\
 aT.C (some d) ra H6 (λav H7=> ∃r,av=vu r/\aP H7 d 0 [vq n]/\aP H7 n 0 [vq j]/\aP H7 j 0 [vq g]/\aP H7 g 0 [vp m]/\
 bM.C m f r H7 (λau H8=> ∃ao,au=vi ao/\
 (s (zY (b+1)) H8/\m11 (zY (b+1)) H8<m11 b H3))))
 else
 ∃ac,hat H6 d=some (vp ac)/\
 ∃y,ac=some y/\
 ∃z,hat H6 y=some (vp z)/\
 ∃u,z=some u/\
 ∃ae,hat H6 u=some (vp ae)/\
 ∃ab,ae=some ab/\
 ∃p,hat H6 ab=some (vp p)/\
 bM.C p f 44 H6 (λaz H9=> ∃an,az=vi an/\
 (s (zY (b+1)) H9/\m11 (zY (b+1)) H9<m11 b H3))))
 else
 (s (zY (b+1)) H5/\m11 (zY (b+1)) H5<m11 b H3))))
 else
 R (.tuple #[]) H3))
namespace gl
theorem link(h:pt d H i):C d H i:=by
 refine T_en K0 76 func20 ?_
 intro w0 Q hQ
 unfold pt zY at h
 refine T_su [(0,vp d)]<|T_sz<|aA 0<|T_nd 1 [] [(6,vp d)]<|T_c (some 7) h ?_;clear h
 rintro v H1 ⟨x,rfl,h⟩
 refine T_pd [6] [(7,.bool x)]<|T_e ?_
 revert h;refine iO_ (λc1 h=>?_) (λc1 h=>?_)
 ·exact aI 7 c1<|ia [] [] hQ h
 refine aJ 7 (zZ c1)<|T_kt<|aA 1<|T_nd 1 [7] [(8,vp d)]<|T_c (some 9) h ?_;clear h
 rintro aq H2 ⟨xB,xN,xC,rfl,h⟩
 refine T_pd [8] [(9,vs xB xN xC)]<|T_ed 2 [] [(10,vi xN),(11,vi 0)]<|T_bz 0 ?_
 obtain⟨s,m11,i3,i4⟩:=h
 refine bR (x:=K10) (σ:=Int) (λs_=> [(0,vp d),(9,vs xB xN xC),(10,vi xN),(11,vi s_)]) (λs_ H=>s s_ H) (λs_ H=>m11 s_ H) (0:Int) (by kernel_rfl) i3 sk ?_
 rintro b H3 i5
 have h:=i4 b H3 i5
 refine T_su [(0,vp d),(9,vs xB xN xC),(10,vi xN),(11,vi b)]<|aA 2<|T_ed 1 [] [(12,.bool (decide (b< (xN:Int))))]<|T_sz ?_
 revert h;refine iO_ (λc6 h=>?_) (λc6 h=>?_)
 ·refine aI 12 (zX c6)<|T_kt<|T_sz<|T_bz 1<|aA 3<|T_ud [12] [] ?_
  obtain⟨e,rfl,q8,h⟩:=h
  refine T_xd (some 13) 75 3 1 e xN xC .i64 b underlying75 q8.1 q8.2 [9] [(9,vs (some e) xN xC),(13,vq (e.add (Int.toNat b*1)))] ?_
  obtain⟨f,q9,h⟩:=h
  refine T_l1 14 3 q9 [13]<|T_ed 1 [14] [(3,vi f)]<|aA 4<|T_nd 1 [] [(16,vp d)] ?_
  obtain⟨R,rfl,h⟩:=h
  refine T_nd 2 [0,16] [(0,vq R),(18,vq R)] ?_
  obtain⟨ak,q10,h⟩:=h
  refine T_l1 19 23 q10 [18] ?_
  obtain⟨ag,rfl,h⟩:=h
  refine T_nd 2 [19] [(21,vq ag)] ?_
  obtain⟨ai,q11,h⟩:=h
  refine T_l1 22 49 q11 [21] ?_
  obtain⟨aj,rfl,h⟩:=h
  refine T_nd 2 [22] [(24,vq aj)] ?_
  obtain⟨af,q12,h⟩:=h
  refine T_l1 25 52 q12 [24] ?_
  obtain⟨ah,rfl,h⟩:=h
  refine T_nd 2 [25] [(27,vq ah)] ?_
  obtain⟨aa,q13,h⟩:=h
  refine T_l1 28 78 q13 [27]<|T_nd 1 [] [(29,vi f)]<|T_c (some 30) h ?_;clear h
  rintro aw H4 ⟨ra,rb,rfl,h⟩
  refine T_pd [28,29] [(30,.tuple #[vu ra,vi rb])]<|T_ed 5 [30] [(4,vu ra)]<|T_bz 2<|aA 6<|T_nd 2 [] [(49,vq R),(50,vu ra)]<|T_c (some 51) h ?_;clear h
  rintro ax H5 ⟨o,rfl,h⟩
  refine T_pd [49,50] [(51,.bool o)]<|T_ed 2 [51] [(48,.bool (!o))] ?_
  revert h;refine iO_ (λc14 h=>?_) (λc14 h=>?_)
  ·refine aJ 48 (congrArg Bool.not (c14))<|aA 7<|T_nd 2 [48] [(54,vq R),(55,vu ra)]<|T_c (some 56) h ?_;clear h
   rintro ay H6 ⟨q,rfl,h⟩
   refine T_pd [54,55] [(56,.bool q)]<|T_ed 1 [56] [(53,.bool q)] ?_
   revert h;refine iO_ (λc16 h=>?_) (λc16 h=>?_)
   ·refine aI 53 c16 ?_
    obtain⟨ap,q18,n,rfl,am,q19,j,rfl,al,q20,g,rfl,m,q21,h⟩:=h
    refine yY 8 (Code.ops K31) [(17,R,[vq n]),(17,n,[vq j]),(17,j,[vq g]),(17,g,[vp m])] 18 (bv 18 0) (show aH _ _ _ from⟨⟨q18,trivial⟩,⟨q19,trivial⟩,⟨q20,trivial⟩,⟨q21,trivial⟩,trivial⟩)<|T_gp 0 (some 57) (vq R) (bv 18 1) [(0,vq R),(3,vi f),(4,vu ra),(9,vs (some e) xN xC),(10,vi xN),(11,vi b),(57,vq R)]<|aF 1 58 (vq R) (bv 18 3) [57]<|aF 2 59 (vq R) (bv 18 7) [58]<|T_g1 3 60 (vq n) (bv 18 15) [59] (aR 23 (vq R)) (yW 17 yZ)<|aF 4 61 (vq n) (bv 18 31) [60]<|aF 5 62 (vq n) (bv 18 63) [61]<|T_g1 6 63 (vq j) (bv 18 127) [62] (aR 49 (vq n)) (yW 17 yX)<|aF 7 64 (vq j) (bv 18 255) [63]<|aF 8 65 (vq j) (bv 18 511) [64]<|T_g1 9 66 (vq g) (bv 18 1023) [65] (aR 52 (vq j)) (yW 17 yQ)<|aF 10 67 (vq g) (bv 18 2047) [66]<|aF 11 68 (vq g) (bv 18 4095) [67]<|T_g1 12 69 (vp m) (bv 18 8191) [68] (aR 78 (vq g)) (yW 17 yJ)<|aF 13 70 (vi f) (bv 18 16383) [3]<|aF 14 71 (vq R) (bv 18 32767) []<|aF 15 72 (vu ra) (bv 18 65535) [4]<|yq 16 (some 73) (bv 18 131071) 13 #[vq R,vu ra] h ?_;clear h
    rintro av H7 ⟨r,rfl,f22,f23,f24,f25,h⟩
    refine⟨[(0,vq R),(9,vs (some e) xN xC),(10,vi xN),(11,vi b),(69,vp m),(70,vi f),(73,vu r)],pk,(show aH _ _ _ from⟨f22,f23,f24,f25,trivial⟩),?_⟩
    refine yq 17 (some 74) (bv 18 262143) 54 #[vp m,vi f,vu r] h ?_;clear h
    rintro au H8 ⟨ao,rfl,h⟩
    refine⟨[(0,vq R),(9,vs (some e) xN xC),(10,vi xN),(11,vi b)],pk,(show aH _ _ _ from⟨trivial,trivial,trivial,trivial,trivial⟩),?_⟩
    refine fQ [(0,vq R),(9,vs (some e) xN xC),(10,vi xN),(11,vi b)] sk ?_
    exact yx<|aE<|aE<|aD<|T_rz 9<|T_ne 2 [(0,vq R),(9,vs (some e) xN xC),(10,vi xN),(11,vi (zY (b+1)))]<|aQ ((zY (b+1)):Int) sk h
   refine aJ 53 (zZ c16)<|T_rz 5<|T_nd 3 [4,53] [(35,vq R)] ?_
   obtain⟨ac,q26,h⟩:=h
   refine T_l1 36 23 q26 [35] ?_
   obtain⟨y,rfl,h⟩:=h
   refine T_nd 2 [36] [(38,vq y)] ?_
   obtain⟨z,q27,h⟩:=h
   refine T_l1 39 49 q27 [38] ?_
   obtain⟨u,rfl,h⟩:=h
   refine T_nd 2 [39] [(41,vq u)] ?_
   obtain⟨ae,q28,h⟩:=h
   refine T_l1 42 52 q28 [41] ?_
   obtain⟨ab,rfl,h⟩:=h
   refine T_nd 2 [42] [(44,vq ab)] ?_
   obtain⟨p,q29,h⟩:=h
   refine T_l1 45 78 q29 [44]<|T_nd 1 [3] [(46,vi f)]<|T_c (some 47) h ?_;clear h
   rintro az H9 ⟨an,rfl,h⟩
   exact T_pd [45,46] []<|zq<|aE<|aE<|aD<|T_rz 9<|T_ed 2 [11] [(11,vi (zY (b+1)))]<|aQ ((zY (b+1)):Int) sk h
  exact aI 48 (congrArg Bool.not (zZ c14))<|T_k<|aE<|aE<|aD<|T_rz 9<|T_ed 2 [3,4,11,48] [(11,vi (zY (b+1)))]<|aQ ((zY (b+1)):Int) sk h
 exact aJ 12 (zQ c6)<|zj 0<|aB<|aB<|aM<|ie (fn:=f20) [] hQ (show dW _ _ _ [] _ from .nil) h
end gl
/-! moraine/weak.Prune -/
namespace gZ
def K0:=Func.code f34
def K2:=cb K0
def K4:=cb K2
def K12:=cb K4
def K13:=ca K12
def K16:=cb K13
def K17:=ca K16
def K18:=ca K17
end gZ
def gZ.pt(tv lB:zW)(lN lC:Nat)(H:zV)(R:zk):Prop:=
 gE.C tv H (λv H1=> ∃x,v=.bool x/\
 if x=true then(
 iU.C lB lN lC H1 (λo H2=> ∃xB xN xC,o=vs xB xN xC/\
 R (vs xB xN xC) H2))
 else
 ∃(m:zW->Nat->Nat->zv) (m19:zW->Nat->Nat->Int->zV->Nat),m none 0 0 0 H1/\ ∀d outN outC s14 H3,m d outN outC s14 H3->
 if s14< (lN:Int)then(
 ∃e,lB=some e/\
 zw s14 lN/\
 ∃f,hat H3 (e.add (Int.toNat s14*1))=some (vu f)/\
 aU.C tv f H3 (λp H4=> ∃j,p=.bool j/\
 if j=true then(
 aT.C tv f H4 (λq H5=> ∃n,q=vu n/\
 ∀b H6,b=H5.size->H6=H5.push (.cells #[vu n] 28)->
 fE 1 28 8 [vu 0] d outN outC (some (ad b)) 1 H6 (λap g H7=>
 (m ap (outN+1) g (zY (s14+1)) H7/\m19 ap (outN+1) g (zY (s14+1)) H7<m19 d outN outC s14 H3))))
 else
 (m d outN outC (zY (s14+1)) H4/\m19 d outN outC (zY (s14+1)) H4<m19 d outN outC s14 H3)))
 else
 R (vs d outN outC) H3)
namespace gZ
theorem link{lN lC:Nat}(h:pt d j lN lC H i):C d j lN lC H i:=by
 refine T_en K0 29 func34 ?_
 intro w0 Q hQ
 unfold pt zY at h
 refine T_su [(0,vp d),(1,vs j lN lC)]<|aA 0<|T_ed 1 [] []<|T_sz<|aA 1<|T_nd 1 [] [(8,vp d)]<|T_c (some 9) h ?_;clear h
 rintro v H1 ⟨x,rfl,h⟩
 refine T_pd [8] [(9,.bool x)]<|T_e ?_
 revert h;refine iO_ (λc1 h=>?_) (λc1 h=>?_)
 ·refine aI 9 c1<|aA 2<|T_n 1 [(10,vs j lN lC)]<|T_c (some 11) h ?_;clear h
  rintro o H2 ⟨xB,xN,xC,rfl,h⟩
  refine⟨[(11,vs xB xN xC)],pk,?_⟩
  exact T_nr 1 [4] [vs xB xN xC] hQ h
 refine aJ 9 (zZ c1)<|T_kt<|aA 3<|T_ed 1 [9] [(5,vN)]<|T_sz<|aA 4<|T_ed 3 [1] [(12,vs j lN lC),(13,vi lN),(14,vi 0)]<|T_bz 0 ?_
 obtain⟨m,m19,i3,i4⟩:=h
 refine bR (x:=K18) (σ:=zW×Nat×Nat×Int) (λs_=> [(0,vp d),(5,vs s_.1 s_.2.1 s_.2.2.1),(12,vs j lN lC),(13,vi lN),(14,vi s_.2.2.2)]) (λs_ H=>m s_.1 s_.2.1 s_.2.2.1 s_.2.2.2 H) (λs_ H=>m19 s_.1 s_.2.1 s_.2.2.1 s_.2.2.2 H) ((none,0,0,0):zW×Nat×Nat×Int) (by kernel_rfl) i3 sk ?_
 rintro⟨R,outN,outC,s14⟩ H3 i5
 have h:=i4 R outN outC s14 H3 i5
 refine T_su [(0,vp d),(5,vs R outN outC),(12,vs j lN lC),(13,vi lN),(14,vi s14)]<|aA 5<|T_ed 1 [] [(15,.bool (decide (s14< (lN:Int))))]<|T_sz ?_
 revert h;refine iO_ (λc6 h=>?_) (λc6 h=>?_)
 ·refine aI 15 (zX c6)<|T_kt<|T_sz<|T_bz 1<|aA 6<|T_ud [15] [] ?_
  obtain⟨e,rfl,q8,h⟩:=h
  refine T_xd (some 16) 32 28 1 e lN lC .i64 s14 underlying32 q8.1 q8.2 [12] [(12,vs (some e) lN lC),(16,vq (e.add (Int.toNat s14*1)))] ?_
  obtain⟨f,q9,h⟩:=h
  refine T_l1 17 28 q9 [16]<|T_ed 1 [17] [(7,vu f)]<|aA 7<|T_nd 2 [] [(18,vp d),(19,vu f)]<|T_c (some 20) h ?_;clear h
  rintro p H4 ⟨lB,rfl,h⟩
  refine T_pd [18,19] [(20,.bool lB)]<|T_e ?_
  revert h;refine iO_ (λc10 h=>?_) (λc10 h=>?_)
  ·refine aI 20 c10<|T_rz 8<|T_nd 3 [5,7,20] [(21,vs R outN outC),(22,vp d),(23,vu f)]<|T_c (some 24) h ?_;clear h
   rintro q H5 ⟨n,rfl,h⟩
   refine T_pd [22,23] [(24,vu n)]<|T_nw (some 25) (λb=>vs (pa b) 1 1) (.cells #[vu n] 28) ?_
   intro b H6 e12 e13
   replace h:=h b H6 e12 e13
   refine T_pd [24] [(25,vs (pa b) 1 1)]<|N_op (some 26) (fR #[32,32] 32 #[vs R outN outC,vs (pa b) 1 1]) _ (λ_=>by kernel_rfl) (fu (T:=28) (sz:=1) (bytes:=8) (zero:=(vu 0:Value)) underlying32 underlying32 rfl (show prog.info? 28=some t28 from by kernel_rfl) (by kernel_rfl) (by kernel_rfl) (by decide) (by kernel_rfl) (by first | exact h | (simpa only[Value.cells,List.toList_toArray]using h))) ?_;clear h
   rintro _ H7 ⟨ap,g,rfl,h⟩
   exact T_pd [21,25] [(26,vs ap (outN+1) g)]<|T_nd 1 [26] [(5,vs ap (outN+1) g)]<|zq<|aE<|aD<|T_rz 9<|T_ed 2 [14] [(14,vi (zY (s14+1)))]<|aQ ((ap,(outN+1),g,(zY (s14+1))):zW×Nat×Nat×Int) sk h
  exact aJ 20 (zZ c10)<|T_k<|aE<|aD<|T_rz 9<|T_ed 2 [7,14,20] [(14,vi (zY (s14+1)))]<|aQ ((R,outN,outC,(zY (s14+1))):zW×Nat×Nat×Int) sk h
 exact aJ 15 (zQ c6)<|zj 0<|aB<|aB<|aM<|aD<|aA 10<|T_nr 2 [4] [vs R outN outC] hQ h
end gZ
/-! moraine/weak.ended -/
namespace gE
def K0:=Func.code f59
end gE
def gE.pt(tv:zW)(H:zV)(R:zk):Prop:=
 gM tv (
 R vT H) (λa=>
 dH.C (some a) H (λv H1=> ∃x,v=.bool x/\
 R (.bool x) H1))
namespace gE
theorem link(h:pt d H i):C d H i:=by
 refine T_en K0 9 func59 ?_
 intro w0 Q hQ
 unfold pt at h
 refine T_su [(0,vp d)]<|aA 0<|T_ed 1 [] []<|aA 1<|T_nd 1 [] [(3,vp d)] ?_
 rcases d with _ | a
 ·rw[onPtr_none]at h
  exact T_nr 6 [2] [vT] hQ h
 rw[onPtr_some]at h
 refine T_n 3 [(5,vF),(6,vq a)]<|T_c (some 7) h ?_;clear h
 rintro v H1 ⟨x,rfl,h⟩
 exact T_pd [6] [(7,.bool x)]<|T_nr 2 [2] [.bool x] hQ h
end gE
/-! moraine/weak.Guards.1 -/
namespace dL
def K0:=Func.code f61
def K2:=cb K0
def K3:=ca K2
end dL
def dL.pt(i:Int)(r j g:zW)(H:zV)(R:zk):Prop:=
 ∃m,r=some m/\
 ∃xB xN xC,hat H m=some (vs xB xN xC)/\
 ∃b,xB=some b/\
 zw i xN/\
 ∃x,hat H (b.add (Int.toNat i*1))=some (vi x)/\
 if x=1 then(
 ∃f,j=some f/\
 ∃p,hat H f=some (vp p)/\
 ∃d,g=some d/\
 ∃u n q,hat H d=some (vs u n q)/\
 ∃e,u=some e/\
 zw i n/\
 ∃s,hat H ((e.add (Int.toNat i*2)).add 1)=some (vu s)/\
 aU.C p s H (λv H1=> ∃o,v=.bool o/\
 R (.bool o) H1))
 else
 R vF H
namespace dL
theorem link{r:Int}{g:zW}(h:pt r d j g H i):C r d j g H i:=by
 refine T_en K0 20 func61 ?_
 intro w0 Q hQ
 unfold pt at h
 refine T_su [(0,vi r),(1,vp d),(2,vp j),(3,vp g)]<|aA 0<|T_ed 1 [] []<|T_sz ?_
 obtain⟨m,rfl,xB,xN,xC,q1,b,rfl,q2,x,q3,h⟩:=h
 revert h;refine iO_ (λc4 h=>?_) (λc4 h=>?_)
 ·obtain⟨f,rfl,p,q6,R,rfl,u,n,q,q7,e,rfl,q8,s,q9,h⟩:=h
  refine yY 1 (Code.ops K3) [(12,m,[vs (some b) xN xC]),(12,(b.add (Int.toNat r*1)),[vi x]),(12,f,[vp p]),(12,R,[vs (some e) n q]),(12,((e.add (Int.toNat r*2)).add 1),[vu s])] 15 (bv 15 0) (show aH _ _ _ from⟨⟨q1,trivial⟩,⟨q3,trivial⟩,⟨q6,trivial⟩,⟨q7,trivial⟩,⟨q9,trivial⟩,trivial⟩)<|T_g 0 (some 6) (vs (some b) xN xC) (bv 15 1) [(0,vi r),(2,vp (some f)),(3,vp (some R)),(6,vs (some b) xN xC)] (aR 75 (vp (some m))) (yW 12 yZ)<|aF 1 7 (vi r) (bv 15 3) []<|T_g1 2 8 (vp (some (b.add (Int.toNat r*1)))) (bv 15 7) [6,7] (bA 75 (vs (some b) xN xC) (vi r)) (λ_ w _ _ _=>cZ (P:=prog) (t:=75) (elem:=3) (sz:=1) (a:=b) (len:=xN) (cap:=xC) (k:=.i64) (i:=r) underlying75 (λ_=>by kernel_rfl) q2.1 q2.2 w)<|T_g1 3 9 (vi x) (bv 15 15) [8] (aR 3 (vp (some (b.add (Int.toNat r*1))))) (yW 12 yX)<|aF 4 10 (.bool (x==1)) (bv 15 31) [9]<|aF 5 11 (.bool (x==1)) (bv 15 63) [10]<|G_bd 11 (zK c4)<|T_g1 6 12 (vp p) (bv 15 127) [2] (aR 37 (vp (some f))) (yW 12 yQ)<|T_g1 7 13 (vs (some e) n q) (bv 15 255) [3] (aR 31 (vp (some R))) (yW 12 yJ)<|aF 8 14 (vi r) (bv 15 511) [0]<|T_g1 9 15 (vp (some (e.add (Int.toNat r*2)))) (bv 15 1023) [13,14] (bA 31 (vs (some e) n q) (vi r)) (λ_ w _ _ _=>cZ (P:=prog) (t:=31) (elem:=36) (sz:=2) (a:=e) (len:=n) (cap:=q) (k:=.i64) (i:=r) underlying31 (λ_=>by kernel_rfl) q8.1 q8.2 w)<|aF 10 16 (vp (some ((e.add (Int.toNat r*2)).add 1))) (bv 15 2047) [15]<|T_g1 11 17 (vu s) (bv 15 4095) [16] (aR 28 (vp (some ((e.add (Int.toNat r*2)).add 1)))) (yW 12 yK)<|yq 12 (some 18) (bv 15 8191) 28 #[vp p,vu s] h ?_;clear h
  rintro v H1 ⟨o,rfl,h⟩
  refine⟨[(11,vT),(18,.bool o)],pk,(show aH _ _ _ from⟨trivial,trivial,trivial,trivial,trivial,trivial⟩),?_⟩
  exact T_g 13 (some 19) (.bool o) (bv 15 16383) [(19,.bool o)] (pure (.value (.bool o)):Sem Next) (λ_ _ _ _ _=>rfl)<|T_g1 14 5 (.bool o) (bv 15 32767) [19] (pure (.value (.bool o)):Sem Next) (λ_ _ _ _ _=>rfl)<|fQ [(5,.bool o)] sk<|yx<|aD<|ia [5] [.bool o] hQ h
 exact yY 1 (Code.ops K3) [(15,m,[vs (some b) xN xC]),(15,(b.add (Int.toNat r*1)),[vi x])] 15 (bv 15 0) (show aH _ _ _ from⟨⟨q1,trivial⟩,⟨q3,trivial⟩,trivial⟩)<|T_g 0 (some 6) (vs (some b) xN xC) (bv 15 1) [(0,vi r),(2,vp j),(3,vp g),(6,vs (some b) xN xC)] (aR 75 (vp (some m))) (jb 15 (λ_=>by kernel_rfl) yZ (.inr (by kernel_rfl)))<|aF 1 7 (vi r) (bv 15 3) []<|T_g1 2 8 (vp (some (b.add (Int.toNat r*1)))) (bv 15 7) [6,7] (bA 75 (vs (some b) xN xC) (vi r)) (λ_ w _ _ _=>cZ (P:=prog) (t:=75) (elem:=3) (sz:=1) (a:=b) (len:=xN) (cap:=xC) (k:=.i64) (i:=r) underlying75 (λ_=>by kernel_rfl) q2.1 q2.2 w)<|T_g1 3 9 (vi x) (bv 15 15) [8] (aR 3 (vp (some (b.add (Int.toNat r*1))))) (jb 15 (λ_=>by kernel_rfl) yX (.inr (by kernel_rfl)))<|aF 4 10 (.bool (x==1)) (bv 15 31) [9]<|aF 5 11 (.bool (x==1)) (bv 15 63) [10]<|G_bd 11 (zJ c4)<|cH 6 (some 12) (bv 15 127) [2] [(12,undef)]<|cH 7 (some 13) (bv 15 255) [3] [(13,undef)]<|cH 8 (some 14) (bv 15 511) [0] [(14,undef)]<|cH 9 (some 15) (bv 15 1023) [13,14] [(15,undef)]<|cH 10 (some 16) (bv 15 2047) [15] [(16,undef)]<|cH 11 (some 17) (bv 15 4095) [16] [(17,undef)]<|cH 12 (some 18) (bv 15 8191) [12,17] [(18,undef)]<|aF 13 19 (.bool false) (bv 15 16383) [11,18]<|aF 14 5 (.bool false) (bv 15 32767) [19]<|fQ [(5,.bool false)] sk<|yx<|aD<|ia [5] [.bool false] hQ h
end dL
/-! moraine/weak.puts -/
namespace io
def K0:=Func.code f62
end io
def io.pt(tv:zW)(a e:Int)(H:zV)(R:zk):Prop:=
 ∃b,tv=some b/\
 ∃x,hat H b=some (vp x)/\
 bW.C x a H (λv H1=> ∃i,v=vi i/\
 if i=10 then(
 ∃p,hat H1 b=some (vp p)/\
 fk.C p a H1 (λt H2=> ∃k,t=vi k/\
 if k=2 then(
 eI.C (some b) e 20 H2 (λz H3=> ∃d,z=vu d/\
 if d=20 then(
 R (.tuple #[]) H3)
 else
 ∃n,hat H3 b=some (vp n)/\
 eG.C n a 10 1 H3 (λab H4=> ∃ra rb,ab=.tuple #[vu ra,vi rb]/\
 ∃m,hat H4 b=some (vp m)/\
 dM.C m ra d H4 (λaa H5=> ∃j,aa=vi j/\
 if j=0 then(
 ∃o,hat H5 b=some (vp o)/\
 dU.C o a 10 1 d H5 (λy H6=> ∃s,y=vi s/\
 R (.tuple #[]) H6))
 else
 ∃g,hat H5 b=some (vp g)/\
 dU.C g a 10 0 d H5 (λu H7=> ∃q,u=vi q/\
 ∃f,hat H7 b=some (vp f)/\
 dU.C f a 10 1 d H7 (λac H8=> ∃r,ac=vi r/\
 R (.tuple #[]) H8))))))
 else
 R (.tuple #[]) H2))
 else
 R (.tuple #[]) H1)
namespace io
theorem link{a e:Int}(h:pt d a e H i):C d a e H i:=by
 refine T_en K0 61 func62 ?_
 intro w0 Q hQ
 unfold pt at h
 refine T_su [(0,vp d),(1,vu a),(2,vu e)]<|T_sz<|aA 0<|T_nd 1 [] [(9,vp d)] ?_
 obtain⟨b,rfl,h⟩:=h
 refine T_nd 2 [0,9] [(0,vq b),(11,vq b)] ?_
 obtain⟨x,q1,h⟩:=h
 refine T_l1 12 23 q1 [11]<|T_nd 1 [] [(13,vu a)]<|T_c (some 14) h ?_;clear h
 rintro v H1 ⟨tv,rfl,h⟩
 refine T_pd [12,13] [(14,vi tv)]<|T_nd 2 [14] [(16,.bool (tv !=10))] ?_
 revert h;refine iO_ (λc2 h=>?_) (λc2 h=>?_)
 ·refine N_bd 16 (bne_eq_false_iff_eq.mpr c2)<|T_nd 3 [] [(19,vq b)] ?_
  obtain⟨p,q4,h⟩:=h
  refine T_l1 20 23 q4 [19]<|T_nd 1 [] [(21,vu a)]<|T_c (some 22) h ?_;clear h
  rintro t H2 ⟨k,rfl,h⟩
  refine T_pd [20,21] [(22,vi k)]<|T_ed 2 [16,22] [(24,.bool (k !=2))] ?_
  revert h;refine iO_ (λc5 h=>?_) (λc5 h=>?_)
  ·refine aJ 24 (bne_eq_false_iff_eq.mpr c5)<|T_kt<|aA 1<|T_nd 2 [2,24] [(25,vq b),(26,vu e)]<|T_c (some 27) h ?_;clear h
   rintro z H3 ⟨R,rfl,h⟩
   refine T_pd [25,26] [(27,vu R)]<|T_ed 1 [27] [(6,vu R)]<|T_sz<|aA 2<|T_ed 2 [] [(29,.bool (R==20))] ?_
   revert h;refine iO_ (λc7 h=>?_) (λc7 h=>?_)
   ·exact aI 29 (zK c7)<|ia [] [] hQ h
   refine aJ 29 (zJ c7)<|T_kt<|T_sz<|aA 3<|T_nd 3 [29] [(33,vq b)] ?_
   obtain⟨n,q9,h⟩:=h
   refine T_l1 34 23 q9 [33]<|T_nd 1 [] [(35,vu a)]<|T_c (some 36) h ?_;clear h
   rintro ab H4 ⟨ra,rb,rfl,h⟩
   refine T_pd [34,35] [(36,.tuple #[vu ra,vi rb])]<|T_ed 5 [36] [(7,vu ra)]<|aA 4<|T_nd 3 [] [(41,vq b)] ?_
   obtain⟨m,q10,h⟩:=h
   refine T_l1 42 23 q10 [41]<|T_nd 2 [7] [(43,vu ra),(44,vu R)]<|T_c (some 45) h ?_;clear h
   rintro aa H5 ⟨j,rfl,h⟩
   refine T_pd [42,43,44] [(45,vi j)]<|T_ed 1 [45] [(46,.bool (j !=0))] ?_
   revert h;refine iO_ (λc11 h=>?_) (λc11 h=>?_)
   ·refine aJ 46 (bne_eq_false_iff_eq.mpr c11)<|T_kt<|T_rz 6<|T_nd 3 [0,46] [(56,vq b)] ?_
    obtain⟨o,q13,h⟩:=h
    refine T_l1 57 23 q13 [56]<|T_nd 2 [1,6] [(58,vu a),(59,vu R)]<|T_c (some 60) h ?_;clear h
    rintro y H6 ⟨s,rfl,h⟩
    refine⟨[],pk,?_⟩
    exact zq<|ie (fn:=f62) [] hQ (show dW _ _ _ [] _ from .nil) h
   refine aI 46 (bne_iff_ne.mpr c11)<|T_rz 5<|T_nd 3 [46] [(49,vq b)] ?_
   obtain⟨g,q14,h⟩:=h
   refine T_l1 50 23 q14 [49]<|T_nd 2 [] [(51,vu a),(52,vu R)]<|T_c (some 53) h ?_;clear h
   rintro u H7 ⟨q,rfl,h⟩
   refine T_pd [50,51,52] []<|T_e<|T_rz 6<|T_nd 3 [0] [(56,vq b)] ?_
   obtain⟨f,q15,h⟩:=h
   refine T_l1 57 23 q15 [56]<|T_nd 2 [1,6] [(58,vu a),(59,vu R)]<|T_c (some 60) h ?_;clear h
   rintro ac H8 ⟨r,rfl,h⟩
   refine⟨[],pk,?_⟩
   exact zq<|ie (fn:=f62) [] hQ (show dW _ _ _ [] _ from .nil) h
  exact aI 24 (bne_iff_ne.mpr c5)<|ia [] [] hQ h
 exact N_bd 16 (bne_iff_ne.mpr c2)<|T_ed 8 [16] [(24,vT)]<|T_tz 24<|ia [] [] hQ h
end io
