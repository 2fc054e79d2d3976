/- Printed: what each function asks, and that it is sound. -/
import Derived.Test.YtojbbgcjiaphjaaGreatFnsC
set_option linter.unusedSimpArgs false
set_option linter.unusedVariables false
set_option maxRecDepth 100000
set_option maxHeartbeats 1000000
noncomputable section
namespace Go.Proofs.YtojbbgcjiaphjaaGreat
open Go Go.Proofs.Tryz
/-! moraine/moraineref01.Of -/
namespace dR
def K0:=Func.code f64
end dR
def dR.pt(wv:Int)(H:zV)(R:zv):Prop:=
 ∀b H1,b=H.size->H1=H.push (.cells #[vi 0,vi 0,vi 0,vi 0,vu 0] 126)->
 if(zY (Int.tmod wv 8))=0 then(
 cT.C 60 H1 (λv H2=> ∃x,v=vu x/\
 if(IntKind.wrap .u64 (Int.tdiv wv 8))>=x then(
 cT.C 61 H2 (λbd H3=> ∃aj,bd=vu aj/\
 (aK H3 (ad b) 0 5)/\ ∀H4,H4=aR H3 (ad b) [vi 1,vi 0,vi 0,vi (zY (0-(zY (IntKind.wrap .u64 (aj-(IntKind.wrap .u64 (Int.tdiv wv 8))))))),vu 0] 0->
 ∃an a1 rA rX am,aQ H4 (ad b) 0 [vi an,vi a1,vi rA,vi rX,vu am]/\
 R (.agg #[vi an,vi a1,vi rA,vi rX,vu am]) H4))
 else
 (aK H2 (ad b) 0 5)/\ ∀H5,H5=aR H2 (ad b) [vi 1,vi 0,vi 0,vi (zY (IntKind.wrap .u64 (Int.tdiv wv 8))),vu 0] 0->
 ∃k aa a4 aw y,aQ H5 (ad b) 0 [vi k,vi aa,vi a4,vi aw,vu y]/\
 R (.agg #[vi k,vi aa,vi a4,vi aw,vu y]) H5))
 else
 ∃J:Bool->zV->Prop,(
 if(zY (Int.tmod wv 8))=1 then(
 J true H1)
 else
 if(zY (Int.tmod wv 8))=2 then(
 J true H1)
 else
 if(zY (Int.tmod wv 8))=3 then(
 J true H1)
 else
 J ((zY (Int.tmod wv 8))==6) H1)/\ ∀ai H6,J ai H6->
 if ai=true then(
 if(IntKind.wrap .u64 (Int.tdiv wv 8))<65536 then(
 (aK H6 (ad b) 0 5)/\ ∀H7,H7=aR H6 (ad b) [vi 2,vi (zY (Int.tmod wv 8)),vi (zY (IntKind.wrap .u64 (Int.tdiv wv 8))),vi 0,vu 0] 0->
 ∃l ah a6 ay s,aQ H7 (ad b) 0 [vi l,vi ah,vi a6,vi ay,vu s]/\
 R (.agg #[vi l,vi ah,vi a6,vi ay,vu s]) H7)
 else
 (aK H6 (ad b) 0 5)/\ ∀H8,H8=aR H6 (ad b) [vi 0,vi 0,vi 0,vi 0,vu 0] 0->
 ∃n af ap a0 m,aQ H8 (ad b) 0 [vi n,vi af,vi ap,vi a0,vu m]/\
 R (.agg #[vi n,vi af,vi ap,vi a0,vu m]) H8)
 else
 if(zY (Int.tmod wv 8))=4 then(
 if((decide ((zY (Int.tmod (IntKind.wrap .u64 (Int.tdiv wv 8)) 32))<7)) && ((IntKind.wrap .u64 (Int.tdiv (IntKind.wrap .u64 (Int.tdiv wv 8)) 32))==0))=true then(
 (aK H6 (ad b) 0 5)/\ ∀H9,H9=aR H6 (ad b) [vi 3,vi 0,vi (zY (Int.tmod (IntKind.wrap .u64 (Int.tdiv wv 8)) 32)),vi 0,vu 0] 0->
 ∃u ac a5 au t,aQ H9 (ad b) 0 [vi u,vi ac,vi a5,vi au,vu t]/\
 R (.agg #[vi u,vi ac,vi a5,vi au,vu t]) H9)
 else
 if((((zY (Int.tmod (IntKind.wrap .u64 (Int.tdiv wv 8)) 32))==7) && (decide ((IntKind.wrap .u64 (Int.tdiv (IntKind.wrap .u64 (Int.tdiv wv 8)) 32))<=1114111))) && ((decide ((IntKind.wrap .u64 (Int.tdiv (IntKind.wrap .u64 (Int.tdiv wv 8)) 32))<55296)) || (decide ((IntKind.wrap .u64 (Int.tdiv (IntKind.wrap .u64 (Int.tdiv wv 8)) 32))>57343))))=true then(
 (aK H6 (ad b) 0 5)/\ ∀a9,a9=aR H6 (ad b) [vi 4,vi 0,vi (zY (IntKind.wrap .u64 (Int.tdiv (IntKind.wrap .u64 (Int.tdiv wv 8)) 32))),vi 0,vu 0] 0->
 ∃g z a2 ax p,aQ a9 (ad b) 0 [vi g,vi z,vi a2,vi ax,vu p]/\
 R (.agg #[vi g,vi z,vi a2,vi ax,vu p]) a9)
 else
 (aK H6 (ad b) 0 5)/\ ∀bc,bc=aR H6 (ad b) [vi 0,vi 0,vi 0,vi 0,vu 0] 0->
 ∃f ab av ao i,aQ bc (ad b) 0 [vi f,vi ab,vi av,vi ao,vu i]/\
 R (.agg #[vi f,vi ab,vi av,vi ao,vu i]) bc)
 else
 if(zY (Int.tmod wv 8))=5 then(
 if(((decide ((zY (Int.tmod (IntKind.wrap .u64 (Int.tdiv wv 8)) 32))>=1)) && (decide ((zY (Int.tmod (IntKind.wrap .u64 (Int.tdiv wv 8)) 32))<=13))) && (decide ((zY (Int.tmod (IntKind.wrap .u64 (Int.tdiv (IntKind.wrap .u64 (Int.tdiv wv 8)) 32)) 256))<=62)))=true then(
 (aK H6 (ad b) 0 5)/\ ∀bb,bb=aR H6 (ad b) [vi 5,vi (zY (Int.tmod (IntKind.wrap .u64 (Int.tdiv wv 8)) 32)),vi (zY (Int.tmod (IntKind.wrap .u64 (Int.tdiv (IntKind.wrap .u64 (Int.tdiv wv 8)) 32)) 256)),vi 0,vu (IntKind.wrap .u64 (Int.tdiv (IntKind.wrap .u64 (Int.tdiv (IntKind.wrap .u64 (Int.tdiv wv 8)) 32)) 256))] 0->
 ∃j ae aq az q,aQ bb (ad b) 0 [vi j,vi ae,vi aq,vi az,vu q]/\
 R (.agg #[vi j,vi ae,vi aq,vi az,vu q]) bb)
 else
 (aK H6 (ad b) 0 5)/\ ∀ba,ba=aR H6 (ad b) [vi 0,vi 0,vi 0,vi 0,vu 0] 0->
 ∃e ag a7 a3 r,aQ ba (ad b) 0 [vi e,vi ag,vi a7,vi a3,vu r]/\
 R (.agg #[vi e,vi ag,vi a7,vi a3,vu r]) ba)
 else
 (aK H6 (ad b) 0 5)/\ ∀a8,a8=aR H6 (ad b) [vi 0,vi 0,vi 0,vi 0,vu 0] 0->
 ∃d o ak al a,aQ a8 (ad b) 0 [vi d,vi o,vi ak,vi al,vu a]/\
 R (.agg #[vi d,vi o,vi ak,vi al,vu a]) a8
namespace dR
theorem link{wv:Int}{H:zV}{R:zv}(h:pt wv H R):C wv H R:=by
 refine T_en K0 94 func64 ?_
 intro w0 Q hQ
 unfold pt zY at h
 refine T_su [(0,vu wv)]<|ar 0<|T_nw (some 2) (λb=>vp (pa b)) (.cells #[vi 0,vi 0,vi 0,vi 0,vu 0] 126) ?_
 intro b H1 e1 e2
 replace h:=h b H1 e1 e2
 refine T_pd [] [(2,vp (pa b))]<|T_e<|ar 1<|T_ed 2 [0] [(3,vu wv)]<|ar 2<|T_ed 7 [3] [(4,vi (zY (Int.tmod wv 8))),(5,vu (IntKind.wrap .u64 (Int.tdiv wv 8)))]<|ar 3<|T_ed 7 [] [(6,vi (zY (Int.tmod (IntKind.wrap .u64 (Int.tdiv wv 8)) 32))),(7,vu (IntKind.wrap .u64 (Int.tdiv (IntKind.wrap .u64 (Int.tdiv wv 8)) 32)))]<|T_sz<|ar 4<|T_ed 1 [] [(20,vi (zY (Int.tmod wv 8)))]<|T_bz 0<|ar 5<|T_ed 2 [] [(21,.bool ((zY (Int.tmod wv 8))==0))] ?_
 by_cases c3:(zY (Int.tmod wv 8))=0
 ·rw[if_pos c3]at h
  refine aI 21 (zK c3)<|T_sz<|ar 6<|T_nd 1 [4,6,7,20,21] [(23,vu (IntKind.wrap .u64 (Int.tdiv wv 8)))]<|T_c (some 24) h ?_;clear h
  rintro v H2 ⟨x,rfl,h⟩
  refine T_pd [] [(24,vu x)]<|T_ed 1 [23,24] [(25,.bool (decide ((IntKind.wrap .u64 (Int.tdiv wv 8))>=x)))] ?_
  by_cases c5:(IntKind.wrap .u64 (Int.tdiv wv 8))>=x
  ·rw[if_pos c5]at h
   refine aI 25 (zX c5)<|ar 7<|T_ud [25] []<|T_c (some 26) h ?_;clear h
   rintro bd H3 ⟨aj,rfl,h⟩
   refine T_pd [] [(26,vu aj)]<|T_nd 5 [5,26] [(31,.agg #[vi 1,vi 0,vi 0,vi (zY (0-(zY (IntKind.wrap .u64 (aj-(IntKind.wrap .u64 (Int.tdiv wv 8))))))),vu 0])] ?_
   obtain⟨q8,h⟩:=h
   refine fG 126 [vi 1,vi 0,vi 0,vi (zY (0-(zY (IntKind.wrap .u64 (aj-(IntKind.wrap .u64 (Int.tdiv wv 8))))))),vu 0] q8 ?_
   intro H4 e7
   replace h:=h H4 e7
   refine T_pd [31] []<|T_e<|zx ?_
   show At _ _ _ _ _ (Q .ret)
   obtain⟨an,a1,rA,rX,am,q9,h⟩:=h
   exact kJ (fn:=f64) [.agg #[vi an,vi a1,vi rA,vi rX,vu am]] hQ (show cG _ _ _ [.cell 2 126] _ from .cell (by kernel_rfl) (fC (λ_=>by kernel_rfl) (λ_=>by kernel_rfl) q9) (.nil)) h
  rw[if_neg c5]at h
  refine aJ 25 (zQ c5)<|T_kt<|ar 8<|T_nd 3 [5,25] [(34,.agg #[vi 1,vi 0,vi 0,vi (zY (IntKind.wrap .u64 (Int.tdiv wv 8))),vu 0])] ?_
  obtain⟨q11,h⟩:=h
  refine fG 126 [vi 1,vi 0,vi 0,vi (zY (IntKind.wrap .u64 (Int.tdiv wv 8))),vu 0] q11 ?_
  intro H5 e10
  replace h:=h H5 e10
  refine T_pd [34] []<|T_e<|zx ?_
  show At _ _ _ _ _ (Q .ret)
  obtain⟨k,aa,a4,aw,y,q12,h⟩:=h
  exact kJ (fn:=f64) [.agg #[vi k,vi aa,vi a4,vi aw,vu y]] hQ (show cG _ _ _ [.cell 2 126] _ from .cell (by kernel_rfl) (fC (λ_=>by kernel_rfl) (λ_=>by kernel_rfl) q12) (.nil)) h
 rw[if_neg c3]at h
 refine aJ 21 (zJ c3)<|T_sz<|ar 9<|T_ne 2 [(2,vp (pa b)),(4,vi (zY (Int.tmod wv 8))),(5,vu (IntKind.wrap .u64 (Int.tdiv wv 8))),(6,vi (zY (Int.tmod (IntKind.wrap .u64 (Int.tdiv wv 8)) 32))),(7,vu (IntKind.wrap .u64 (Int.tdiv (IntKind.wrap .u64 (Int.tdiv wv 8)) 32))),(20,vi (zY (Int.tmod wv 8))),(35,.bool ((zY (Int.tmod wv 8))==1))] ?_
 obtain⟨J,h,j14⟩:=h
 refine pr (σ:=Bool) (λs_=> [(2,vp (pa b)),(4,vi (zY (Int.tmod wv 8))),(5,vu (IntKind.wrap .u64 (Int.tdiv wv 8))),(6,vi (zY (Int.tmod (IntKind.wrap .u64 (Int.tdiv wv 8)) 32))),(7,vu (IntKind.wrap .u64 (Int.tdiv (IntKind.wrap .u64 (Int.tdiv wv 8)) 32))),(20,vi (zY (Int.tmod wv 8))),(35,.bool s_)]) (λs_ H=>J s_ H) ?_ ?_
 ·rintro ai H6 j15
  replace h:=j14 ai H6 j15
  refine T_su [(2,vp (pa b)),(4,vi (zY (Int.tmod wv 8))),(5,vu (IntKind.wrap .u64 (Int.tdiv wv 8))),(6,vi (zY (Int.tmod (IntKind.wrap .u64 (Int.tdiv wv 8)) 32))),(7,vu (IntKind.wrap .u64 (Int.tdiv (IntKind.wrap .u64 (Int.tdiv wv 8)) 32))),(20,vi (zY (Int.tmod wv 8))),(35,.bool ai)]<|aE ?_
  by_cases c16:ai=true
  ·rw[if_pos c16]at h
   have b17:ai=true:=c16
   refine iU [(2,vp (pa b)),(4,vi (zY (Int.tmod wv 8))),(5,vu (IntKind.wrap .u64 (Int.tdiv wv 8))),(6,vi (zY (Int.tmod (IntKind.wrap .u64 (Int.tdiv wv 8)) 32))),(7,vu (IntKind.wrap .u64 (Int.tdiv (IntKind.wrap .u64 (Int.tdiv wv 8)) 32))),(20,vi (zY (Int.tmod wv 8))),(35,VT)] (by rw[b17]) ?_
   clear b17
   refine T_tz 35<|ar 13<|T_ed 2 [6,7,20,35] [(41,.bool (decide ((IntKind.wrap .u64 (Int.tdiv wv 8))<65536)))] ?_
   by_cases c18:(IntKind.wrap .u64 (Int.tdiv wv 8))<65536
   ·rw[if_pos c18]at h
    refine aI 41 (zX c18)<|ar 14<|T_nd 4 [4,5,41] [(45,.agg #[vi 2,vi (zY (Int.tmod wv 8)),vi (zY (IntKind.wrap .u64 (Int.tdiv wv 8))),vi 0,vu 0])] ?_
    obtain⟨q21,h⟩:=h
    refine fG 126 [vi 2,vi (zY (Int.tmod wv 8)),vi (zY (IntKind.wrap .u64 (Int.tdiv wv 8))),vi 0,vu 0] q21 ?_
    intro H7 e20
    replace h:=h H7 e20
    refine T_pd [45] []<|T_e<|zx ?_
    show At _ _ _ _ _ (Q .ret)
    obtain⟨l,ah,a6,ay,s,q22,h⟩:=h
    exact kJ (fn:=f64) [.agg #[vi l,vi ah,vi a6,vi ay,vu s]] hQ (show cG _ _ _ [.cell 2 126] _ from .cell (by kernel_rfl) (fC (λ_=>by kernel_rfl) (λ_=>by kernel_rfl) q22) (.nil)) h
   rw[if_neg c18]at h
   refine aJ 41 (zQ c18)<|T_k<|aA<|aE<|ar 24<|T_nd 1 [4,5,41] [(93,.agg #[vi 0,vi 0,vi 0,vi 0,vu 0])] ?_
   obtain⟨q24,h⟩:=h
   refine fG 126 [vi 0,vi 0,vi 0,vi 0,vu 0] q24 ?_
   intro H8 e23
   replace h:=h H8 e23
   refine T_pd [93] []<|T_e<|zx ?_
   show At _ _ _ _ _ (Q .ret)
   obtain⟨n,af,ap,a0,m,q25,h⟩:=h
   exact kJ (fn:=f64) [.agg #[vi n,vi af,vi ap,vi a0,vu m]] hQ (show cG _ _ _ [.cell 2 126] _ from .cell (by kernel_rfl) (fC (λ_=>by kernel_rfl) (λ_=>by kernel_rfl) q25) (.nil)) h
  rw[if_neg c16]at h
  have b17:ai=false:=zZ c16
  refine iU [(2,vp (pa b)),(4,vi (zY (Int.tmod wv 8))),(5,vu (IntKind.wrap .u64 (Int.tdiv wv 8))),(6,vi (zY (Int.tmod (IntKind.wrap .u64 (Int.tdiv wv 8)) 32))),(7,vu (IntKind.wrap .u64 (Int.tdiv (IntKind.wrap .u64 (Int.tdiv wv 8)) 32))),(20,vi (zY (Int.tmod wv 8))),(35,VF)] (by rw[b17]) ?_
  clear b17
  refine T_fz 35<|ar 15<|T_ed 2 [4,5,35] [(46,.bool ((zY (Int.tmod wv 8))==4))] ?_
  by_cases c26:(zY (Int.tmod wv 8))=4
  ·rw[if_pos c26]at h
   refine aI 46 (zK c26)<|T_sz<|ar 16 ?_
   refine iT [(2,vp (pa b)),(6,vi (zY (Int.tmod (IntKind.wrap .u64 (Int.tdiv wv 8)) 32))),(7,vu (IntKind.wrap .u64 (Int.tdiv (IntKind.wrap .u64 (Int.tdiv wv 8)) 32))),(53,.bool ((decide ((zY (Int.tmod (IntKind.wrap .u64 (Int.tdiv wv 8)) 32))<7)) && ((IntKind.wrap .u64 (Int.tdiv (IntKind.wrap .u64 (Int.tdiv wv 8)) 32))==0)))] ?_ ?_
   ·refine aE ?_
    by_cases c30:((decide ((zY (Int.tmod (IntKind.wrap .u64 (Int.tdiv wv 8)) 32))<7)) && ((IntKind.wrap .u64 (Int.tdiv (IntKind.wrap .u64 (Int.tdiv wv 8)) 32))==0))=true
    ·rw[if_pos c30]at h
     refine aI 53 c30<|ar 17<|T_n 2 [(2,vp (pa b)),(55,.agg #[vi 3,vi 0,vi (zY (Int.tmod (IntKind.wrap .u64 (Int.tdiv wv 8)) 32)),vi 0,vu 0])] ?_
     obtain⟨q33,h⟩:=h
     refine fG 126 [vi 3,vi 0,vi (zY (Int.tmod (IntKind.wrap .u64 (Int.tdiv wv 8)) 32)),vi 0,vu 0] q33 ?_
     intro H9 e32
     replace h:=h H9 e32
     refine T_pd [55] []<|T_e<|zx ?_
     show At _ _ _ _ _ (Q .ret)
     obtain⟨u,ac,a5,au,t,q34,h⟩:=h
     exact kJ (fn:=f64) [.agg #[vi u,vi ac,vi a5,vi au,vu t]] hQ (show cG _ _ _ [.cell 2 126] _ from .cell (by kernel_rfl) (fC (λ_=>by kernel_rfl) (λ_=>by kernel_rfl) q34) (.nil)) h
    rw[if_neg c30]at h
    refine aJ 53 (zZ c30)<|T_kt<|ar 18 ?_
    refine iT [(2,vp (pa b)),(7,vu (IntKind.wrap .u64 (Int.tdiv (IntKind.wrap .u64 (Int.tdiv wv 8)) 32))),(69,.bool ((((zY (Int.tmod (IntKind.wrap .u64 (Int.tdiv wv 8)) 32))==7) && (decide ((IntKind.wrap .u64 (Int.tdiv (IntKind.wrap .u64 (Int.tdiv wv 8)) 32))<=1114111))) && ((decide ((IntKind.wrap .u64 (Int.tdiv (IntKind.wrap .u64 (Int.tdiv wv 8)) 32))<55296)) || (decide ((IntKind.wrap .u64 (Int.tdiv (IntKind.wrap .u64 (Int.tdiv wv 8)) 32))>57343)))))] ?_ ?_
    ·refine aE ?_
     by_cases c41:((((zY (Int.tmod (IntKind.wrap .u64 (Int.tdiv wv 8)) 32))==7) && (decide ((IntKind.wrap .u64 (Int.tdiv (IntKind.wrap .u64 (Int.tdiv wv 8)) 32))<=1114111))) && ((decide ((IntKind.wrap .u64 (Int.tdiv (IntKind.wrap .u64 (Int.tdiv wv 8)) 32))<55296)) || (decide ((IntKind.wrap .u64 (Int.tdiv (IntKind.wrap .u64 (Int.tdiv wv 8)) 32))>57343))))=true
     ·rw[if_pos c41]at h
      refine aI 69 c41<|ar 19<|T_n 3 [(2,vp (pa b)),(72,.agg #[vi 4,vi 0,vi (zY (IntKind.wrap .u64 (Int.tdiv (IntKind.wrap .u64 (Int.tdiv wv 8)) 32))),vi 0,vu 0])] ?_
      obtain⟨q44,h⟩:=h
      refine fG 126 [vi 4,vi 0,vi (zY (IntKind.wrap .u64 (Int.tdiv (IntKind.wrap .u64 (Int.tdiv wv 8)) 32))),vi 0,vu 0] q44 ?_
      intro a9 e43
      replace h:=h a9 e43
      refine T_pd [72] []<|T_e<|zx ?_
      show At _ _ _ _ _ (Q .ret)
      obtain⟨g,z,a2,ax,p,q45,h⟩:=h
      exact kJ (fn:=f64) [.agg #[vi g,vi z,vi a2,vi ax,vu p]] hQ (show cG _ _ _ [.cell 2 126] _ from .cell (by kernel_rfl) (fC (λ_=>by kernel_rfl) (λ_=>by kernel_rfl) q45) (.nil)) h
     rw[if_neg c41]at h
     refine aJ 69 (zZ c41)<|T_k<|aA<|aE<|ar 24<|T_n 1 [(2,vp (pa b)),(93,.agg #[vi 0,vi 0,vi 0,vi 0,vu 0])] ?_
     obtain⟨q47,h⟩:=h
     refine fG 126 [vi 0,vi 0,vi 0,vi 0,vu 0] q47 ?_
     intro bc e46
     replace h:=h bc e46
     refine T_pd [93] []<|T_e<|zx ?_
     show At _ _ _ _ _ (Q .ret)
     obtain⟨f,ab,av,ao,i,q48,h⟩:=h
     exact kJ (fn:=f64) [.agg #[vi f,vi ab,vi av,vi ao,vu i]] hQ (show cG _ _ _ [.cell 2 126] _ from .cell (by kernel_rfl) (fC (λ_=>by kernel_rfl) (λ_=>by kernel_rfl) q48) (.nil)) h
    intro hk
    refine T_n 3 [(2,vp (pa b)),(7,vu (IntKind.wrap .u64 (Int.tdiv (IntKind.wrap .u64 (Int.tdiv wv 8)) 32))),(58,.bool ((zY (Int.tmod (IntKind.wrap .u64 (Int.tdiv wv 8)) 32))==7))] ?_
    by_cases c35:(zY (Int.tmod (IntKind.wrap .u64 (Int.tdiv wv 8)) 32))=7
    ·have b36:((zY (Int.tmod (IntKind.wrap .u64 (Int.tdiv wv 8)) 32))==7)=true:=zK c35
     refine bW [(2,vp (pa b)),(7,vu (IntKind.wrap .u64 (Int.tdiv (IntKind.wrap .u64 (Int.tdiv wv 8)) 32))),(58,VT)] (by rw[b36]) ?_
     refine T_nd 4 [58] [(62,.bool (decide ((IntKind.wrap .u64 (Int.tdiv (IntKind.wrap .u64 (Int.tdiv wv 8)) 32))<=1114111)))] ?_
     by_cases c37:(IntKind.wrap .u64 (Int.tdiv (IntKind.wrap .u64 (Int.tdiv wv 8)) 32))<=1114111
     ·have b38:(decide ((IntKind.wrap .u64 (Int.tdiv (IntKind.wrap .u64 (Int.tdiv wv 8)) 32))<=1114111))=true:=zX c37
      refine N_bd 62 b38<|T_nd 3 [] [(65,.bool (decide ((IntKind.wrap .u64 (Int.tdiv (IntKind.wrap .u64 (Int.tdiv wv 8)) 32))<55296)))] ?_
      by_cases c39:(IntKind.wrap .u64 (Int.tdiv (IntKind.wrap .u64 (Int.tdiv wv 8)) 32))<55296
      ·have b40:(decide ((IntKind.wrap .u64 (Int.tdiv (IntKind.wrap .u64 (Int.tdiv wv 8)) 32))<55296))=true:=zX c39
       refine N_bd 65 b40<|T_nd 4 [62,65] [(69,VT)] ?_
       refine zq<|S_bd 69 (b:=true) (v:=((((zY (Int.tmod (IntKind.wrap .u64 (Int.tdiv wv 8)) 32))==7) && (decide ((IntKind.wrap .u64 (Int.tdiv (IntKind.wrap .u64 (Int.tdiv wv 8)) 32))<=1114111))) && ((decide ((IntKind.wrap .u64 (Int.tdiv (IntKind.wrap .u64 (Int.tdiv wv 8)) 32))<55296)) || (decide ((IntKind.wrap .u64 (Int.tdiv (IntKind.wrap .u64 (Int.tdiv wv 8)) 32))>57343))))) (by simp only[b36,b38,b40,BL]) ?_
       exact hk
      have b40:(decide ((IntKind.wrap .u64 (Int.tdiv (IntKind.wrap .u64 (Int.tdiv wv 8)) 32))<55296))=false:=zQ c39
      refine N_bd 65 b40<|T_nd 4 [62,65] [(69,.bool (decide ((IntKind.wrap .u64 (Int.tdiv (IntKind.wrap .u64 (Int.tdiv wv 8)) 32))>57343)))] ?_
      refine zq<|S_bd 69 (b:=(decide ((IntKind.wrap .u64 (Int.tdiv (IntKind.wrap .u64 (Int.tdiv wv 8)) 32))>57343))) (v:=((((zY (Int.tmod (IntKind.wrap .u64 (Int.tdiv wv 8)) 32))==7) && (decide ((IntKind.wrap .u64 (Int.tdiv (IntKind.wrap .u64 (Int.tdiv wv 8)) 32))<=1114111))) && ((decide ((IntKind.wrap .u64 (Int.tdiv (IntKind.wrap .u64 (Int.tdiv wv 8)) 32))<55296)) || (decide ((IntKind.wrap .u64 (Int.tdiv (IntKind.wrap .u64 (Int.tdiv wv 8)) 32))>57343))))) (by simp only[b36,b38,b40,BL]) ?_
      exact hk
     have b38:(decide ((IntKind.wrap .u64 (Int.tdiv (IntKind.wrap .u64 (Int.tdiv wv 8)) 32))<=1114111))=false:=zQ c37
     refine N_bd 62 b38<|T_nd 7 [62] [(69,VF)] ?_
     refine zq<|S_bd 69 (b:=false) (v:=((((zY (Int.tmod (IntKind.wrap .u64 (Int.tdiv wv 8)) 32))==7) && (decide ((IntKind.wrap .u64 (Int.tdiv (IntKind.wrap .u64 (Int.tdiv wv 8)) 32))<=1114111))) && ((decide ((IntKind.wrap .u64 (Int.tdiv (IntKind.wrap .u64 (Int.tdiv wv 8)) 32))<55296)) || (decide ((IntKind.wrap .u64 (Int.tdiv (IntKind.wrap .u64 (Int.tdiv wv 8)) 32))>57343))))) (by simp only[b36,b38,BL]) ?_
     exact hk
    have b36:((zY (Int.tmod (IntKind.wrap .u64 (Int.tdiv wv 8)) 32))==7)=false:=zJ c35
    refine bW [(2,vp (pa b)),(7,vu (IntKind.wrap .u64 (Int.tdiv (IntKind.wrap .u64 (Int.tdiv wv 8)) 32))),(58,VF)] (by rw[b36]) ?_
    refine T_nd 11 [58] [(69,VF)]<|zq<|S_bd 69 (b:=false) (v:=((((zY (Int.tmod (IntKind.wrap .u64 (Int.tdiv wv 8)) 32))==7) && (decide ((IntKind.wrap .u64 (Int.tdiv (IntKind.wrap .u64 (Int.tdiv wv 8)) 32))<=1114111))) && ((decide ((IntKind.wrap .u64 (Int.tdiv (IntKind.wrap .u64 (Int.tdiv wv 8)) 32))<55296)) || (decide ((IntKind.wrap .u64 (Int.tdiv (IntKind.wrap .u64 (Int.tdiv wv 8)) 32))>57343))))) (by simp only[b36,BL]) ?_
    exact hk
   intro hk
   refine T_n 3 [(2,vp (pa b)),(6,vi (zY (Int.tmod (IntKind.wrap .u64 (Int.tdiv wv 8)) 32))),(7,vu (IntKind.wrap .u64 (Int.tdiv (IntKind.wrap .u64 (Int.tdiv wv 8)) 32))),(50,.bool (decide ((zY (Int.tmod (IntKind.wrap .u64 (Int.tdiv wv 8)) 32))<7)))] ?_
   by_cases c28:(zY (Int.tmod (IntKind.wrap .u64 (Int.tdiv wv 8)) 32))<7
   ·have b29:(decide ((zY (Int.tmod (IntKind.wrap .u64 (Int.tdiv wv 8)) 32))<7))=true:=zX c28
    refine bW [(2,vp (pa b)),(6,vi (zY (Int.tmod (IntKind.wrap .u64 (Int.tdiv wv 8)) 32))),(7,vu (IntKind.wrap .u64 (Int.tdiv (IntKind.wrap .u64 (Int.tdiv wv 8)) 32))),(50,VT)] (by rw[b29]) ?_
    refine T_nd 3 [50] [(53,.bool ((IntKind.wrap .u64 (Int.tdiv (IntKind.wrap .u64 (Int.tdiv wv 8)) 32))==0))]<|zq<|S_bd 53 (b:=((IntKind.wrap .u64 (Int.tdiv (IntKind.wrap .u64 (Int.tdiv wv 8)) 32))==0)) (v:=((decide ((zY (Int.tmod (IntKind.wrap .u64 (Int.tdiv wv 8)) 32))<7)) && ((IntKind.wrap .u64 (Int.tdiv (IntKind.wrap .u64 (Int.tdiv wv 8)) 32))==0))) (by simp only[b29,BL]) ?_
    exact hk
   have b29:(decide ((zY (Int.tmod (IntKind.wrap .u64 (Int.tdiv wv 8)) 32))<7))=false:=zQ c28
   refine bW [(2,vp (pa b)),(6,vi (zY (Int.tmod (IntKind.wrap .u64 (Int.tdiv wv 8)) 32))),(7,vu (IntKind.wrap .u64 (Int.tdiv (IntKind.wrap .u64 (Int.tdiv wv 8)) 32))),(50,VF)] (by rw[b29]) ?_
   refine T_nd 3 [50] [(53,VF)]<|zq<|S_bd 53 (b:=false) (v:=((decide ((zY (Int.tmod (IntKind.wrap .u64 (Int.tdiv wv 8)) 32))<7)) && ((IntKind.wrap .u64 (Int.tdiv (IntKind.wrap .u64 (Int.tdiv wv 8)) 32))==0))) (by simp only[b29,BL]) ?_
   exact hk
  rw[if_neg c26]at h
  refine aJ 46 (zJ c26)<|ar 20<|T_ed 2 [20,46] [(73,.bool ((zY (Int.tmod wv 8))==5))] ?_
  by_cases c49:(zY (Int.tmod wv 8))=5
  ·rw[if_pos c49]at h
   refine aI 73 (zK c49)<|ar 21<|T_ed 4 [73] [(8,vi (zY (Int.tmod (IntKind.wrap .u64 (Int.tdiv (IntKind.wrap .u64 (Int.tdiv wv 8)) 32)) 256)))]<|ar 22 ?_
   refine iT [(2,vp (pa b)),(6,vi (zY (Int.tmod (IntKind.wrap .u64 (Int.tdiv wv 8)) 32))),(7,vu (IntKind.wrap .u64 (Int.tdiv (IntKind.wrap .u64 (Int.tdiv wv 8)) 32))),(8,vi (zY (Int.tmod (IntKind.wrap .u64 (Int.tdiv (IntKind.wrap .u64 (Int.tdiv wv 8)) 32)) 256))),(87,.bool (((decide ((zY (Int.tmod (IntKind.wrap .u64 (Int.tdiv wv 8)) 32))>=1)) && (decide ((zY (Int.tmod (IntKind.wrap .u64 (Int.tdiv wv 8)) 32))<=13))) && (decide ((zY (Int.tmod (IntKind.wrap .u64 (Int.tdiv (IntKind.wrap .u64 (Int.tdiv wv 8)) 32)) 256))<=62))))] ?_ ?_
   ·refine aE ?_
    by_cases c55:(((decide ((zY (Int.tmod (IntKind.wrap .u64 (Int.tdiv wv 8)) 32))>=1)) && (decide ((zY (Int.tmod (IntKind.wrap .u64 (Int.tdiv wv 8)) 32))<=13))) && (decide ((zY (Int.tmod (IntKind.wrap .u64 (Int.tdiv (IntKind.wrap .u64 (Int.tdiv wv 8)) 32)) 256))<=62)))=true
    ·rw[if_pos c55]at h
     refine aI 87 c55<|ar 23<|T_n 5 [(2,vp (pa b)),(92,.agg #[vi 5,vi (zY (Int.tmod (IntKind.wrap .u64 (Int.tdiv wv 8)) 32)),vi (zY (Int.tmod (IntKind.wrap .u64 (Int.tdiv (IntKind.wrap .u64 (Int.tdiv wv 8)) 32)) 256)),vi 0,vu (IntKind.wrap .u64 (Int.tdiv (IntKind.wrap .u64 (Int.tdiv (IntKind.wrap .u64 (Int.tdiv wv 8)) 32)) 256))])] ?_
     obtain⟨q58,h⟩:=h
     refine fG 126 [vi 5,vi (zY (Int.tmod (IntKind.wrap .u64 (Int.tdiv wv 8)) 32)),vi (zY (Int.tmod (IntKind.wrap .u64 (Int.tdiv (IntKind.wrap .u64 (Int.tdiv wv 8)) 32)) 256)),vi 0,vu (IntKind.wrap .u64 (Int.tdiv (IntKind.wrap .u64 (Int.tdiv (IntKind.wrap .u64 (Int.tdiv wv 8)) 32)) 256))] q58 ?_
     intro bb e57
     replace h:=h bb e57
     refine T_pd [92] []<|T_e<|zx ?_
     show At _ _ _ _ _ (Q .ret)
     obtain⟨j,ae,aq,az,q,q59,h⟩:=h
     exact kJ (fn:=f64) [.agg #[vi j,vi ae,vi aq,vi az,vu q]] hQ (show cG _ _ _ [.cell 2 126] _ from .cell (by kernel_rfl) (fC (λ_=>by kernel_rfl) (λ_=>by kernel_rfl) q59) (.nil)) h
    rw[if_neg c55]at h
    refine aJ 87 (zZ c55)<|T_k<|aA<|aE<|ar 24<|T_n 1 [(2,vp (pa b)),(93,.agg #[vi 0,vi 0,vi 0,vi 0,vu 0])] ?_
    obtain⟨q61,h⟩:=h
    refine fG 126 [vi 0,vi 0,vi 0,vi 0,vu 0] q61 ?_
    intro ba e60
    replace h:=h ba e60
    refine T_pd [93] []<|T_e<|zx ?_
    show At _ _ _ _ _ (Q .ret)
    obtain⟨e,ag,a7,a3,r,q62,h⟩:=h
    exact kJ (fn:=f64) [.agg #[vi e,vi ag,vi a7,vi a3,vu r]] hQ (show cG _ _ _ [.cell 2 126] _ from .cell (by kernel_rfl) (fC (λ_=>by kernel_rfl) (λ_=>by kernel_rfl) q62) (.nil)) h
   intro hk
   refine T_n 3 [(2,vp (pa b)),(6,vi (zY (Int.tmod (IntKind.wrap .u64 (Int.tdiv wv 8)) 32))),(7,vu (IntKind.wrap .u64 (Int.tdiv (IntKind.wrap .u64 (Int.tdiv wv 8)) 32))),(8,vi (zY (Int.tmod (IntKind.wrap .u64 (Int.tdiv (IntKind.wrap .u64 (Int.tdiv wv 8)) 32)) 256))),(80,.bool (decide ((zY (Int.tmod (IntKind.wrap .u64 (Int.tdiv wv 8)) 32))>=1)))] ?_
   by_cases c51:(zY (Int.tmod (IntKind.wrap .u64 (Int.tdiv wv 8)) 32))>=1
   ·have b52:(decide ((zY (Int.tmod (IntKind.wrap .u64 (Int.tdiv wv 8)) 32))>=1))=true:=zX c51
    refine bW [(2,vp (pa b)),(6,vi (zY (Int.tmod (IntKind.wrap .u64 (Int.tdiv wv 8)) 32))),(7,vu (IntKind.wrap .u64 (Int.tdiv (IntKind.wrap .u64 (Int.tdiv wv 8)) 32))),(8,vi (zY (Int.tmod (IntKind.wrap .u64 (Int.tdiv (IntKind.wrap .u64 (Int.tdiv wv 8)) 32)) 256))),(80,VT)] (by rw[b52]) ?_
    refine T_nd 4 [80] [(84,.bool (decide ((zY (Int.tmod (IntKind.wrap .u64 (Int.tdiv wv 8)) 32))<=13)))] ?_
    by_cases c53:(zY (Int.tmod (IntKind.wrap .u64 (Int.tdiv wv 8)) 32))<=13
    ·have b54:(decide ((zY (Int.tmod (IntKind.wrap .u64 (Int.tdiv wv 8)) 32))<=13))=true:=zX c53
     refine N_bd 84 b54<|T_nd 3 [84] [(87,.bool (decide ((zY (Int.tmod (IntKind.wrap .u64 (Int.tdiv (IntKind.wrap .u64 (Int.tdiv wv 8)) 32)) 256))<=62)))] ?_
     refine zq<|S_bd 87 (b:=(decide ((zY (Int.tmod (IntKind.wrap .u64 (Int.tdiv (IntKind.wrap .u64 (Int.tdiv wv 8)) 32)) 256))<=62))) (v:=(((decide ((zY (Int.tmod (IntKind.wrap .u64 (Int.tdiv wv 8)) 32))>=1)) && (decide ((zY (Int.tmod (IntKind.wrap .u64 (Int.tdiv wv 8)) 32))<=13))) && (decide ((zY (Int.tmod (IntKind.wrap .u64 (Int.tdiv (IntKind.wrap .u64 (Int.tdiv wv 8)) 32)) 256))<=62)))) (by simp only[b52,b54,BL]) ?_
     exact hk
    have b54:(decide ((zY (Int.tmod (IntKind.wrap .u64 (Int.tdiv wv 8)) 32))<=13))=false:=zQ c53
    refine N_bd 84 b54<|T_nd 3 [84] [(87,VF)] ?_
    refine zq<|S_bd 87 (b:=false) (v:=(((decide ((zY (Int.tmod (IntKind.wrap .u64 (Int.tdiv wv 8)) 32))>=1)) && (decide ((zY (Int.tmod (IntKind.wrap .u64 (Int.tdiv wv 8)) 32))<=13))) && (decide ((zY (Int.tmod (IntKind.wrap .u64 (Int.tdiv (IntKind.wrap .u64 (Int.tdiv wv 8)) 32)) 256))<=62)))) (by simp only[b52,b54,BL]) ?_
    exact hk
   have b52:(decide ((zY (Int.tmod (IntKind.wrap .u64 (Int.tdiv wv 8)) 32))>=1))=false:=zQ c51
   refine bW [(2,vp (pa b)),(6,vi (zY (Int.tmod (IntKind.wrap .u64 (Int.tdiv wv 8)) 32))),(7,vu (IntKind.wrap .u64 (Int.tdiv (IntKind.wrap .u64 (Int.tdiv wv 8)) 32))),(8,vi (zY (Int.tmod (IntKind.wrap .u64 (Int.tdiv (IntKind.wrap .u64 (Int.tdiv wv 8)) 32)) 256))),(80,VF)] (by rw[b52]) ?_
   refine T_nd 7 [80] [(87,VF)]<|zq<|S_bd 87 (b:=false) (v:=(((decide ((zY (Int.tmod (IntKind.wrap .u64 (Int.tdiv wv 8)) 32))>=1)) && (decide ((zY (Int.tmod (IntKind.wrap .u64 (Int.tdiv wv 8)) 32))<=13))) && (decide ((zY (Int.tmod (IntKind.wrap .u64 (Int.tdiv (IntKind.wrap .u64 (Int.tdiv wv 8)) 32)) 256))<=62)))) (by simp only[b52,BL]) ?_
   exact hk
  rw[if_neg c49]at h
  refine aJ 73 (zJ c49)<|T_k<|aA<|aE<|ar 24<|T_nd 1 [6,7,73] [(93,.agg #[vi 0,vi 0,vi 0,vi 0,vu 0])] ?_
  obtain⟨q64,h⟩:=h
  refine fG 126 [vi 0,vi 0,vi 0,vi 0,vu 0] q64 ?_
  intro a8 e63
  replace h:=h a8 e63
  refine T_pd [93] []<|T_e<|zx ?_
  show At _ _ _ _ _ (Q .ret)
  obtain⟨d,o,ak,al,a,q65,h⟩:=h
  exact kJ (fn:=f64) [.agg #[vi d,vi o,vi ak,vi al,vu a]] hQ (show cG _ _ _ [.cell 2 126] _ from .cell (by kernel_rfl) (fC (λ_=>by kernel_rfl) (λ_=>by kernel_rfl) q65) (.nil)) h
 by_cases c66:(zY (Int.tmod wv 8))=1
 ·rw[if_pos c66]at h
  have b67:((zY (Int.tmod wv 8))==1)=true:=zK c66
  refine iU [(2,vp (pa b)),(4,vi (zY (Int.tmod wv 8))),(5,vu (IntKind.wrap .u64 (Int.tdiv wv 8))),(6,vi (zY (Int.tmod (IntKind.wrap .u64 (Int.tdiv wv 8)) 32))),(7,vu (IntKind.wrap .u64 (Int.tdiv (IntKind.wrap .u64 (Int.tdiv wv 8)) 32))),(20,vi (zY (Int.tmod wv 8))),(35,VT)] (by simp only[b67,Bool.not_true,Bool.not_false]) ?_
  clear b67
  exact T_tz 35<|T_kt<|k7 (true:Bool) sk h
 rw[if_neg c66]at h
 have b67:((zY (Int.tmod wv 8))==1)=false:=zJ c66
 refine iU [(2,vp (pa b)),(4,vi (zY (Int.tmod wv 8))),(5,vu (IntKind.wrap .u64 (Int.tdiv wv 8))),(6,vi (zY (Int.tmod (IntKind.wrap .u64 (Int.tdiv wv 8)) 32))),(7,vu (IntKind.wrap .u64 (Int.tdiv (IntKind.wrap .u64 (Int.tdiv wv 8)) 32))),(20,vi (zY (Int.tmod wv 8))),(35,VF)] (by simp only[b67,Bool.not_true,Bool.not_false]) ?_
 clear b67
 refine T_fz 35<|ar 10<|T_ed 2 [35] [(35,.bool ((zY (Int.tmod wv 8))==2))] ?_
 by_cases c68:(zY (Int.tmod wv 8))=2
 ·rw[if_pos c68]at h
  refine S_bd 35 (zK c68)<|T_tz 35<|T_kt ?_
  exact k7 (true:Bool) sk h
 rw[if_neg c68]at h
 refine S_bd 35 (zJ c68)<|T_fz 35<|ar 11<|T_ed 2 [35] [(35,.bool ((zY (Int.tmod wv 8))==3))] ?_
 by_cases c70:(zY (Int.tmod wv 8))=3
 ·rw[if_pos c70]at h
  refine S_bd 35 (zK c70)<|T_tz 35<|T_kt ?_
  exact k7 (true:Bool) sk h
 rw[if_neg c70]at h
 refine S_bd 35 (zJ c70)<|T_fz 35<|T_rz 12<|T_ed 2 [35] [(35,.bool ((zY (Int.tmod wv 8))==6))] ?_
 exact k7 (((zY (Int.tmod wv 8))==6):Bool) sk h
end dR
/-! moraine/moraineref01.power -/
namespace cT
def K0:=Func.code f110
def K2:=cb K0
def K4:=cb K2
def K5:=ca K4
def K8:=cb K5
def K9:=ca K8
def K10:=ca K9
end cT
def cT.pt(nv:Int)(H:zV)(R:zv):Prop:=
 ∃(a:Int->zw) (m11:Int->Int->zV->Nat),a 1 0 H/\ ∀x i H1,a x i H1->
 if i<nv then(
 (a (IntKind.wrap .u64 (x*2)) (zY (i+1)) H1/\m11 (IntKind.wrap .u64 (x*2)) (zY (i+1)) H1<m11 x i H1))
 else
 R (vu x) H1
namespace cT
theorem link{nv:Int}{H:zV}{R:zv}(h:pt nv H R):C nv H R:=by
 refine T_en K0 13 func110 ?_
 intro w0 Q hQ
 unfold pt zY at h
 refine T_su [(0,vi nv)]<|ar 0<|T_ed 1 [] []<|ar 1<|T_ed 1 [] [(3,vu 1)]<|T_sz<|ar 2<|T_ed 1 [] [(4,vi 0)]<|T_bz 0 ?_
 obtain⟨a,m11,i1,i2⟩:=h
 refine bL (x:=K10) (σ:=Int×Int) (λs_=> [(0,vi nv),(3,vu s_.1),(4,vi s_.2)]) (λs_ H=>a s_.1 s_.2 H) (λs_ H=>m11 s_.1 s_.2 H) ((1,0):Int×Int) (by kernel_rfl) i1 sk ?_
 rintro⟨x,i⟩ H1 i3
 have h:=i2 x i H1 i3
 refine T_su [(0,vi nv),(3,vu x),(4,vi i)]<|T_sz<|ar 3<|T_ed 3 [] [(7,.bool (decide (i<nv)))] ?_
 by_cases c4:i<nv
 ·rw[if_pos c4]at h
  exact aI 7 (zX c4)<|T_kt<|T_sz<|T_bz 1<|T_rz 5<|T_nd 3 [3,7] [(3,vu (IntKind.wrap .u64 (x*2)))]<|zq<|aA<|aE<|T_rz 4<|T_ed 3 [4] [(4,vi (zY (i+1)))]<|aS (((IntKind.wrap .u64 (x*2)),(zY (i+1))):Int×Int) sk h
 rw[if_neg c4]at h
 exact aJ 7 (zQ c4)<|zk 0<|aD<|aD<|aM<|aE<|ar 6<|T_nr 2 [2] [vu x] hQ h
end cT
variable{H:zV}{a:zW}{R:zv}
/-! moraine/weak.Guards -/
namespace jq
def K0:=Func.code f40
def K2:=cb K0
def K3:=ca K2
def K5:=cb K3
def K13:=cb K5
def K14:=ca K13
def K15:=cb K13
def K17:=cb K14
def K18:=ca K17
def K19:=ca K18
def K36:=cb K15
def K37:=cb K36
def K38:=ca K37
def K39:=cb K37
def K41:=cb K38
def K42:=ca K41
def K43:=ca K42
def K45:=cb K43
def K47:=cb K45
def K50:=ca K47
def K52:=ca K50
def K54:=cb K52
def K56:=cb K54
def K57:=ca K56
def K60:=cb K57
def K62:=cb K60
def K63:=ca K62
def K68:=cb K39
def K69:=ca K68
def K72:=cb K69
def K73:=ca K72
def K74:=ca K73
def K76:=cb K74
def K78:=cb K76
def K81:=ca K78
def K83:=ca K81
def K85:=cb K83
def K87:=cb K85
def K88:=ca K87
end jq
def jq.pt(tv lB:zW)(lN lC:Nat)(H:zV)(R:zv):Prop:=
 ∀b H1,b=H.size->H1=H.push (.cells #[vp tv] 92)->
 ∀e H2,e=H1.size->H2=H1.push (.cells #[vs lB lN lC] 34)->
 ∃x,hat H2 (ad b)=some (vp x)/\
 iW.C x H2 (λv H3=> ∃bw,v=.bool bw/\
 if bw=true then(
 ∃xB xN xC,hat H3 (ad e)=some (vs xB xN xC)/\
 kG.C xB xN xC H3 (λcs H4=> ∃bh bn bk,cs=vs bh bn bk/\
 R (vs bh bn bk) H4))
 else
 ∃b8 y b6,hat H3 (ad e)=some (vs b8 y b6)/\
 0<=(y:Int)/\(y:Int)<=(y:Int)/\8*(y:Int)<=2 ^ 48/\(y:Int)<=9223372036854775807/\
 ∀bf H5,bf=H3.size->H5=H3.push (.cells (Builtin.zeroCells #[vi 0] (Int.toNat (y:Int))) 3)->
 ∀d H6,d=H5.size->H6=H5.push (.cells #[VN] 59)->
 (aK H6 (ad d) 0 1)/\ ∀H7,H7=aR H6 (ad d) [vs (some (ad bf)) (Int.toNat (y:Int)) (Int.toNat (y:Int))] 0->
 ∃al j r,hat H7 (ad e)=some (vs al j r)/\
 ∃(bz:zw) (m20:Int->zV->Nat),bz 0 H7/\ ∀l H8,bz l H8->
 if l< (j:Int)then(
 ∃z,al=some z/\
 yZ l j/\
 ∃aq ab,aQ H8 (z.add (Int.toNat l*2)) 0 [vu aq,vu ab]/\
 ∀ao H9,ao=H8.size->H9=H8.push (.cells #[vu 0,vu 0] 83)->
 (aK H9 (ad ao) 0 2)/\ ∀b3,b3=aR H9 (ad ao) [vu aq,vu ab] 0->
 ∃bp,hat b3 (ad b)=some (vp bp)/\
 ∃b4,hat b3 (ad ao)=some (vu b4)/\
 bT.C bp b4 b3 (λcq bu=> ∃bb,cq=.bool bb/\
 if bb=true then(
 (bz (zY (l+1)) bu/\m20 (zY (l+1)) bu<m20 l H8))
 else
 ∃bm a3 bc,hat bu (ad d)=some (vs bm a3 bc)/\
 ∃aw,bm=some aw/\
 yZ l a3/\
 (aK bu (aw.add (Int.toNat l*1)) 0 1)/\ ∀cc,cc=aR bu (aw.add (Int.toNat l*1)) [vi 1] 0->
 (bz (zY (l+1)) cc/\m20 (zY (l+1)) cc<m20 l H8)))
 else
 ∃(cd:zV->Prop) (m38:zV->Nat),cd H8/\ ∀b1,cd b1->
 ∃ai n ac,hat b1 (ad e)=some (vs ai n ac)/\
 ∃(b9:zw) (m44:Int->zV->Nat),b9 0 b1/\ ∀o H14,b9 o H14->
 if o< (n:Int)then(
 ∃ae,ai=some ae/\
 yZ o n/\
 ∃ag u,aQ H14 (ae.add (Int.toNat o*2)) 0 [vu ag,vu u]/\
 ∀aa H15,aa=H14.size->H15=H14.push (.cells #[vu 0,vu 0] 83)->
 (aK H15 (ad aa) 0 2)/\ ∀cg,cg=aR H15 (ad aa) [vu ag,vu u] 0->
 qo.C o (some (ad d)) (some (ad b)) (some (ad e)) cg (λct bs=> ∃bx,ct=.bool bx/\
 if bx=true then(
 ∃bj a1 be,hat bs (ad d)=some (vs bj a1 be)/\
 ∃ax,bj=some ax/\
 yZ o a1/\
 (aK bs (ax.add (Int.toNat o*1)) 0 1)/\ ∀b5,b5=aR bs (ax.add (Int.toNat o*1)) [vi 2] 0->
 ∃bq,hat b5 (ad b)=some (vp bq)/\
 ∃b2,hat b5 (ad aa)=some (vu b2)/\
 bI.C bq b2 b5 (λcp ce=> ∃an,cp=vu an/\
 ∃ah,hat ce (ad b)=some (vp ah)/\
 ∃au,hat ce (ad b)=some (vp au)/\
 ∃a8,hat ce ((ad aa).add 1)=some (vu a8)/\
 bI.C au a8 ce (λcu co=> ∃br,cu=vu br/\aQ co (ad b) 0 [vp ah]/\
 up.C ah br an co (λ_ cl=>
 ∃bg,hat cl (ad b)=some (vp bg)/\
 dH.C bg cl (λ_ ci=>
 (cd ci/\m38 ci<m38 b1))))))
 else
 (b9 (zY (o+1)) bs/\m44 (zY (o+1)) bs<m44 o H14)))
 else
 ∃aj f m,hat H14 (ad e)=some (vs aj f m)/\
 ∃(bt:zW->Nat->Nat->zw) (m75:zW->Nat->Nat->Int->zV->Nat),bt none 0 0 0 H14/\ ∀g outN outC s68 H23,bt g outN outC s68 H23->
 if s68< (f:Int)then(
 ∃p,aj=some p/\
 yZ s68 f/\
 ∃af s,aQ H23 (p.add (Int.toNat s68*2)) 0 [vu af,vu s]/\
 ∀q H24,q=H23.size->H24=H23.push (.cells #[vu 0,vu 0] 83)->
 (aK H24 (ad q) 0 2)/\ ∀ba,ba=aR H24 (ad q) [vu af,vu s] 0->
 ∃bl a4 bd,hat ba (ad d)=some (vs bl a4 bd)/\
 ∃a7,bl=some a7/\
 yZ s68 a4/\
 ∃az,hat ba (a7.add (Int.toNat s68*1))=some (vi az)/\
 if az<2 then(
 ∃a2,hat ba (ad b)=some (vp a2)/\
 ∃bi,hat ba ((ad q).add 1)=some (vu bi)/\
 bT.C a2 bi ba (λcr bo=> ∃a6,cr=.bool a6/\
 if a6=true then(
 ∃ak,hat bo (ad b)=some (vp ak)/\
 ∃av,hat bo (ad q)=some (vu av)/\
 ∃am,hat bo (ad b)=some (vp am)/\
 ∃a0,hat bo ((ad q).add 1)=some (vu a0)/\
 bI.C ak av bo (λcj ch=> ∃ay,cj=vu ay/\aQ ch (ad b) 0 [vp am]/\aQ ch ((ad q).add 1) 0 [vu a0]/\
 bI.C am a0 ch (λck cn=> ∃a5,ck=vu a5/\
 ∀b0 H29,b0=cn.size->H29=cn.push (.cells #[vu ay,vu a5] 83)->
 bR 2 83 16 [vu 0,vu 0] g outN outC (some (ad b0)) 1 H29 (λap a9 cm=>
 (bt ap (outN+1) a9 (zY (s68+1)) cm/\m75 ap (outN+1) a9 (zY (s68+1)) cm<m75 g outN outC s68 H23)))))
 else
 (bt g outN outC (zY (s68+1)) bo/\m75 g outN outC (zY (s68+1)) bo<m75 g outN outC s68 H23)))
 else
 (bt g outN outC (zY (s68+1)) ba/\m75 g outN outC (zY (s68+1)) ba<m75 g outN outC s68 H23))
 else
 R (vs g outN outC) H23)
namespace jq
theorem link{lB:zW}{lN lC:Nat}(h:pt a lB lN lC H R):C a lB lN lC H R:=by
 refine T_en K0 98 func40 ?_
 intro w0 Q hQ
 unfold pt zY at h
 refine T_su [(0,vp a),(1,vs lB lN lC)]<|ar 0<|T_nw (some 2) (λb=>vp (pa b)) (.cells #[vp a] 92) ?_
 intro b H1 e1 e2
 replace h:=h b H1 e1 e2
 refine T_pd [0] [(2,vp (pa b))]<|T_nw (some 3) (λb=>vp (pa b)) (.cells #[vs lB lN lC] 34) ?_
 intro e H2 e3 e4
 replace h:=h e H2 e3 e4
 refine T_pd [1] [(3,vp (pa e))]<|T_ed 1 [] []<|u0 K3 0 (by kernel_rfl) (by kernel_rfl)<|T_sz<|ar 1 ?_
 obtain⟨x,q5,h⟩:=h
 refine T_l1 15 92 q5 []<|T_c (some 16) h ?_;clear h
 rintro v H3 ⟨bw,rfl,h⟩
 refine T_pd [15] [(16,.bool bw)]<|T_e ?_
 by_cases c6:bw=true
 ·rw[if_pos c6]at h
  refine aI 16 c6<|ar 2<|T_ud [2,16] [] ?_
  obtain⟨xB,xN,xC,q8,h⟩:=h
  refine T_l1 17 34 q8 [3]<|T_c (some 18) h ?_;clear h
  rintro cs H4 ⟨bh,bn,bk,rfl,h⟩
  refine⟨[(18,vs bh bn bk)],pk,?_⟩
  exact T_nr 1 [4] [vs bh bn bk] hQ h
 rw[if_neg c6]at h
 refine aJ 16 (zZ c6)<|T_kt<|ar 3<|T_ud [16] [] ?_
 obtain⟨b8,y,b6,q9,h⟩:=h
 refine T_l1 19 34 q9 []<|T_nd 1 [19] [(20,vi y)] ?_
 obtain⟨q10,q11,q12,q13,h⟩:=h
 refine N_op (some 21) (lZ 59 (vi y) (vi y)) (λv Hz=>v=Value.slice (some (Addr.mk H3.size 0 none)) (Int.toNat (y:Int)) (Int.toNat (y:Int))/\Hz=H3.push (.cells (Builtin.zeroCells #[vi 0] (Int.toNat (y:Int))) 3)) (λ_=>by kernel_rfl) (tY (T:=3) (zero:=vi 0) underlying59 (show prog.info? 3=some t3 from by kernel_rfl) (by kernel_rfl) q10 q11 q12 q13 (by kernel_rfl) (by decide)) ?_
 rintro _ H5 ⟨rfl,e15⟩
 obtain⟨bf,e14⟩: ∃b,b=H3.size:=⟨_,rfl⟩
 replace h:=h bf H5 e14 e15
 rw[<-e14]
 refine T_pd [20] [(21,vs (pa bf) (Int.toNat (y:Int)) (Int.toNat (y:Int)))]<|T_nw (some 5) (λb=>vp (pa b)) (.cells #[VN] 59) ?_
 intro d H6 e16 e17
 replace h:=h d H6 e16 e17
 refine T_pd [] [(5,vp (pa d))] ?_
 obtain⟨q19,h⟩:=h
 refine fH 59 (vs (pa bf) (Int.toNat (y:Int)) (Int.toNat (y:Int))) q19 ?_
 intro H7 e18
 replace h:=h H7 e18
 refine T_pd [21] []<|T_e<|T_sz<|ar 4 ?_
 obtain⟨al,j,r,q20,h⟩:=h
 refine T_l1 22 34 q20 []<|T_ed 2 [] [(23,vi j),(24,vi 0)]<|T_bz 0 ?_
 obtain⟨bz,m20,i21,i22⟩:=h
 refine bL (x:=K19) (σ:=Int) (λs_=> [(2,vp (pa b)),(3,vp (pa e)),(5,vp (pa d)),(22,vs al j r),(23,vi j),(24,vi s_)]) (λs_ H=>bz s_ H) (λs_ H=>m20 s_ H) (0:Int) (by kernel_rfl) i21 sk ?_
 rintro l H8 i23
 have h:=i22 l H8 i23
 refine T_su [(2,vp (pa b)),(3,vp (pa e)),(5,vp (pa d)),(22,vs al j r),(23,vi j),(24,vi l)]<|ar 5<|T_ed 1 [] [(25,.bool (decide (l< (j:Int))))]<|T_sz ?_
 by_cases c24:l< (j:Int)
 ·rw[if_pos c24]at h
  refine aI 25 (zX c24)<|T_kt<|T_sz<|T_bz 1<|ar 6<|T_nd 1 [25] [(26,vi l)] ?_
  obtain⟨z,rfl,q26,h⟩:=h
  refine T_xd (some 27) 34 83 2 z j r .i64 l underlying34 q26.1 q26.2 [22] [(22,vs (some z) j r),(27,Vq (z.add (Int.toNat l*2)))] ?_
  obtain⟨aq,ab,q27,h⟩:=h
  refine T_lr 28 83 q27 [27]<|T_nw (some 7) (λb=>vp (pa b)) (.cells #[vu 0,vu 0] 83) ?_
  intro ao H9 e28 e29
  replace h:=h ao H9 e28 e29
  refine T_pd [] [(7,vp (pa ao))]<|T_nd 1 [26] [(6,vi l)] ?_
  obtain⟨q31,h⟩:=h
  refine fG 83 [vu aq,vu ab] q31 ?_
  intro b3 e30
  replace h:=h b3 e30
  refine T_pd [28] []<|T_e<|ar 7 ?_
  obtain⟨bp,q32,h⟩:=h
  refine T_l1 29 92 q32 []<|T_nd 1 [7] [(30,vp (pa ao))] ?_
  obtain⟨b4,q33,h⟩:=h
  refine T_l1 31 40 q33 [30]<|T_c (some 32) h ?_;clear h
  rintro cq bu ⟨bb,rfl,h⟩
  refine T_pd [29,31] [(32,.bool bb)]<|T_ed 1 [32] [(33,.bool (!bb))] ?_
  by_cases c34:bb=true
  ·rw[if_pos c34]at h
   exact aJ 33 (congrArg Bool.not (c34))<|T_k<|aA<|aE<|T_rz 9<|T_ed 2 [6,24,33] [(24,vi (zY (l+1)))]<|aS ((zY (l+1)):Int) sk h
  rw[if_neg c34]at h
  refine aI 33 (congrArg Bool.not (zZ c34))<|T_rz 8<|T_ud [33] [] ?_
  obtain⟨bm,a3,bc,q36,h⟩:=h
  refine T_l1 34 59 q36 []<|T_nd 1 [6] [(35,vi l)] ?_
  obtain⟨aw,rfl,q37,h⟩:=h
  refine T_xd (some 36) 59 3 1 aw a3 bc .i64 l underlying59 q37.1 q37.2 [34,35] [(36,Vq (aw.add (Int.toNat l*1)))] ?_
  obtain⟨q39,h⟩:=h
  refine fH 3 (vi 1) q39 ?_
  intro cc e38
  replace h:=h cc e38
  exact T_pd [36] []<|zq<|aA<|aE<|T_rz 9<|T_ed 2 [24] [(24,vi (zY (l+1)))]<|aS ((zY (l+1)):Int) sk h
 rw[if_neg c24]at h
 refine aJ 25 (zQ c24)<|zk 0<|aD<|aD<|aM<|aE<|ar 10<|T_ed 2 [22,23,24,25] [(8,.func (.func 89) #[] #[vp (pa d),vp (pa b),vp (pa e)])] ?_
 obtain⟨cd,m38,i40,i41⟩:=h
 refine u6 0 K37 [(2,vp (pa b)),(3,vp (pa e)),(5,vp (pa d)),(8,.func (.func 89) #[] #[vp (pa d),vp (pa b),vp (pa e)])] cd m38 (by kernel_rfl) (by kernel_rfl) i40 sk ?_
 rintro b1 i42
 have h:=i41 b1 i42
 refine T_sz<|ar 11 ?_
 obtain⟨ai,n,ac,q43,h⟩:=h
 refine T_l (some 39) 34 q43 [(2,vp (pa b)),(3,vp (pa e)),(5,vp (pa d)),(8,.func (.func 89) #[] #[vp (pa d),vp (pa b),vp (pa e)]),(39,vs ai n ac)]<|T_ed 2 [] [(40,vi n),(41,vi 0)]<|T_bz 2 ?_
 obtain⟨b9,m44,i44,i45⟩:=h
 refine bL (x:=K43) (σ:=Int) (λs_=> [(2,vp (pa b)),(3,vp (pa e)),(5,vp (pa d)),(8,.func (.func 89) #[] #[vp (pa d),vp (pa b),vp (pa e)]),(39,vs ai n ac),(40,vi n),(41,vi s_)]) (λs_ H=>b9 s_ H) (λs_ H=>m44 s_ H) (0:Int) (by kernel_rfl) i44 sk ?_
 rintro o H14 i46
 have h:=i45 o H14 i46
 refine T_su [(2,vp (pa b)),(3,vp (pa e)),(5,vp (pa d)),(8,.func (.func 89) #[] #[vp (pa d),vp (pa b),vp (pa e)]),(39,vs ai n ac),(40,vi n),(41,vi o)]<|ar 12<|T_ed 1 [] [(42,.bool (decide (o< (n:Int))))]<|T_sz ?_
 by_cases c47:o< (n:Int)
 ·rw[if_pos c47]at h
  refine aI 42 (zX c47)<|T_kt<|T_sz<|T_bz 3<|ar 13<|T_nd 1 [42] [(43,vi o)] ?_
  obtain⟨ae,rfl,q49,h⟩:=h
  refine T_xd (some 44) 34 83 2 ae n ac .i64 o underlying34 q49.1 q49.2 [39] [(39,vs (some ae) n ac),(44,Vq (ae.add (Int.toNat o*2)))] ?_
  obtain⟨ag,u,q50,h⟩:=h
  refine T_lr 45 83 q50 [44]<|T_nw (some 10) (λb=>vp (pa b)) (.cells #[vu 0,vu 0] 83) ?_
  intro aa H15 e51 e52
  replace h:=h aa H15 e51 e52
  refine T_pd [] [(10,vp (pa aa))]<|T_nd 1 [43] [(9,vi o)] ?_
  obtain⟨q54,h⟩:=h
  refine fG 83 [vu ag,vu u] q54 ?_
  intro cg e53
  replace h:=h cg e53
  refine T_pd [45] []<|T_e<|ar 14<|T_nd 2 [] [(46,.func (.func 89) #[] #[vp (pa d),vp (pa b),vp (pa e)]),(47,vi o)]<|T_c (some 48) h ?_;clear h
  rintro ct bs ⟨bx,rfl,h⟩
  refine T_pd [46,47] [(48,.bool bx)]<|T_e ?_
  by_cases c55:bx=true
  ·rw[if_pos c55]at h
   refine aI 48 c55<|ar 15<|T_ud [39,40,41,48] [] ?_
   obtain⟨bj,a1,be,q57,h⟩:=h
   refine T_l1 49 59 q57 []<|T_nd 1 [9] [(50,vi o)] ?_
   obtain⟨ax,rfl,q58,h⟩:=h
   refine T_xd (some 51) 59 3 1 ax a1 be .i64 o underlying59 q58.1 q58.2 [49,50] [(51,Vq (ax.add (Int.toNat o*1)))] ?_
   obtain⟨q60,h⟩:=h
   refine fH 3 (vi 2) q60 ?_
   intro b5 e59
   replace h:=h b5 e59
   refine T_pd [51] []<|T_e<|ar 16 ?_
   obtain⟨bq,q61,h⟩:=h
   refine T_l1 52 92 q61 []<|T_nd 1 [] [(53,vp (pa aa))] ?_
   obtain⟨b2,q62,h⟩:=h
   refine T_l1 54 40 q62 [53]<|T_c (some 55) h ?_;clear h
   rintro cp ce ⟨an,rfl,h⟩
   refine T_pd [52,54] [(55,vu an)]<|T_ed 1 [55] [(11,vu an)]<|T_sz ?_
   obtain⟨ah,q63,au,q64,a8,q65,h⟩:=h
   refine yq 17 (Code.ops K63) [(6,(ad b),[vp ah]),(4,(ad b),[vp au]),(4,((ad aa).add 1),[vu a8])] 7 (bv 7 0) (show aF _ _ _ from⟨⟨q63,trivial⟩,⟨q64,trivial⟩,⟨q65,trivial⟩,trivial⟩)<|T_g 0 (some 56) (vp ah) (bv 7 1) [(2,vp (pa b)),(3,vp (pa e)),(5,vp (pa d)),(8,.func (.func 89) #[] #[vp (pa d),vp (pa b),vp (pa e)]),(10,vp (pa aa)),(11,vu an),(56,vp ah)] (aU 92 (vp (pa b))) (yY 6 yX)<|T_g1 1 57 (vp au) (bv 7 3) [] (aU 92 (vp (pa b))) (yY 4 yQ)<|aL 2 58 (Vq ((ad aa).add 1)) (bv 7 7) [10]<|T_g1 3 59 (vu a8) (bv 7 15) [58] (aU 40 (Vq ((ad aa).add 1))) (yY 4 yJ)<|aL 5 61 (vu an) (bv 7 47) [11]<|yx 4 (some 60) (bv 7 63) 37 #[vp au,vu a8] h ?_;clear h
   rintro cu co ⟨br,rfl,f66,h⟩
   refine⟨[(2,vp (pa b)),(3,vp (pa e)),(5,vp (pa d)),(8,.func (.func 89) #[] #[vp (pa d),vp (pa b),vp (pa e)]),(56,vp ah),(60,vu br),(61,vu an)],pk,(show aF _ _ _ from⟨f66,trivial,trivial,trivial⟩),?_⟩
   refine yx 6 (some 62) (bv 7 127) 90 #[vp ah,vu br,vu an] h ?_;clear h
   intro v_7 cl h
   refine⟨[(2,vp (pa b)),(3,vp (pa e)),(5,vp (pa d)),(8,.func (.func 89) #[] #[vp (pa d),vp (pa b),vp (pa e)])],pk,(show aF _ _ _ from⟨trivial,trivial,trivial,trivial⟩),?_⟩
   refine fU [(2,vp (pa b)),(3,vp (pa e)),(5,vp (pa d)),(8,.func (.func 89) #[] #[vp (pa d),vp (pa b),vp (pa e)])] sk ?_
   refine yz<|aE<|ar 18 ?_
   obtain⟨bg,q67,h⟩:=h
   refine T_l (some 63) 92 q67 [(2,vp (pa b)),(3,vp (pa e)),(5,vp (pa d)),(8,.func (.func 89) #[] #[vp (pa d),vp (pa b),vp (pa e)]),(63,vp bg)]<|T_c (some 64) h ?_;clear h
   intro v_8 ci h
   exact T_pd [63] []<|T_e<|xd 0 (by kernel_rfl)<|oK<|nr<|nr<|oK<|nr<|xe sk h
  rw[if_neg c55]at h
  exact aJ 48 (zZ c55)<|T_k<|aA<|aE<|T_rz 19<|T_ed 2 [9,10,41,48] [(41,vi (zY (o+1)))]<|aS ((zY (o+1)):Int) sk h
 rw[if_neg c47]at h
 refine aJ 42 (zQ c47)<|zk 2<|aD<|aD<|aM<|aE<|ar 20<|T_ed 1 [8,39,40,41,42] [(12,VN)]<|T_sz<|ar 21 ?_
 obtain⟨aj,f,m,q68,h⟩:=h
 refine T_l1 66 34 q68 [3]<|T_ed 2 [] [(67,vi f),(68,vi 0)]<|T_bz 4 ?_
 obtain⟨bt,m75,i69,i70⟩:=h
 refine bL (x:=K74) (σ:=zW×Nat×Nat×Int) (λs_=> [(2,vp (pa b)),(5,vp (pa d)),(12,vs s_.1 s_.2.1 s_.2.2.1),(66,vs aj f m),(67,vi f),(68,vi s_.2.2.2)]) (λs_ H=>bt s_.1 s_.2.1 s_.2.2.1 s_.2.2.2 H) (λs_ H=>m75 s_.1 s_.2.1 s_.2.2.1 s_.2.2.2 H) ((none,0,0,0):zW×Nat×Nat×Int) (by kernel_rfl) i69 sk ?_
 rintro⟨g,outN,outC,s68⟩ H23 i71
 have h:=i70 g outN outC s68 H23 i71
 refine T_su [(2,vp (pa b)),(5,vp (pa d)),(12,vs g outN outC),(66,vs aj f m),(67,vi f),(68,vi s68)]<|ar 22<|T_ed 1 [] [(69,.bool (decide (s68< (f:Int))))]<|T_sz ?_
 by_cases c72:s68< (f:Int)
 ·rw[if_pos c72]at h
  refine aI 69 (zX c72)<|T_kt<|T_sz<|T_bz 5<|ar 23<|T_nd 1 [69] [(70,vi s68)] ?_
  obtain⟨p,rfl,q74,h⟩:=h
  refine T_xd (some 71) 34 83 2 p f m .i64 s68 underlying34 q74.1 q74.2 [66] [(66,vs (some p) f m),(71,Vq (p.add (Int.toNat s68*2)))] ?_
  obtain⟨af,s,q75,h⟩:=h
  refine T_lr 72 83 q75 [71]<|T_nw (some 14) (λb=>vp (pa b)) (.cells #[vu 0,vu 0] 83) ?_
  intro q H24 e76 e77
  replace h:=h q H24 e76 e77
  refine T_pd [] [(14,vp (pa q))]<|T_nd 1 [70] [(13,vi s68)] ?_
  obtain⟨q79,h⟩:=h
  refine fG 83 [vu af,vu s] q79 ?_
  intro ba e78
  replace h:=h ba e78
  refine T_pd [72] []<|T_e<|ar 24 ?_
  obtain⟨bl,a4,bd,q80,h⟩:=h
  refine T_l1 73 59 q80 []<|T_nd 1 [13] [(74,vi s68)] ?_
  obtain⟨a7,rfl,q81,h⟩:=h
  refine T_xd (some 75) 59 3 1 a7 a4 bd .i64 s68 underlying59 q81.1 q81.2 [73,74] [(75,Vq (a7.add (Int.toNat s68*1)))] ?_
  obtain⟨az,q82,h⟩:=h
  refine T_l1 76 3 q82 [75]<|T_nd 2 [76] [(78,.bool (decide (az<2)))] ?_
  by_cases c83:az<2
  ·rw[if_pos c83]at h
   refine N_bd 78 (zX c83) ?_
   obtain⟨a2,q85,h⟩:=h
   refine T_l1 79 92 q85 []<|T_nd 1 [] [(80,Vq ((ad q).add 1))] ?_
   obtain⟨bi,q86,h⟩:=h
   refine T_l1 81 40 q86 [80]<|T_c (some 82) h ?_;clear h
   rintro cr bo ⟨a6,rfl,h⟩
   refine T_pd [79,81] [(82,.bool a6)]<|T_ed 1 [78,82] [(83,.bool a6)] ?_
   by_cases c87:a6=true
   ·rw[if_pos c87]at h
    refine aI 83 c87 ?_
    obtain⟨ak,q89,av,q90,am,q91,a0,q92,h⟩:=h
    refine yq 25 (Code.ops K88) [(4,(ad b),[vp ak]),(4,(ad q),[vu av]),(8,(ad b),[vp am]),(8,((ad q).add 1),[vu a0])] 13 (bv 13 0) (show aF _ _ _ from⟨⟨q89,trivial⟩,⟨q90,trivial⟩,⟨q91,trivial⟩,⟨q92,trivial⟩,trivial⟩)<|T_gp 0 (some 84) (vs g outN outC) (bv 13 1) [(2,vp (pa b)),(5,vp (pa d)),(12,vs g outN outC),(14,vp (pa q)),(66,vs (some p) f m),(67,vi f),(68,vi s68),(84,vs g outN outC)]<|T_g1 1 85 (vp ak) (bv 13 3) [] (aU 92 (vp (pa b))) (yY 4 yX)<|aL 2 86 (vp (pa q)) (bv 13 7) []<|T_g1 3 87 (vu av) (bv 13 15) [86] (aU 40 (vp (pa q))) (yY 4 yQ)<|T_g1 5 89 (vp am) (bv 13 47) [] (aU 92 (vp (pa b))) (yY 8 yJ)<|aL 6 90 (Vq ((ad q).add 1)) (bv 13 111) [14]<|T_g1 7 91 (vu a0) (bv 13 239) [90] (aU 40 (Vq ((ad q).add 1))) (yY 8 yK)<|yx 4 (some 88) (bv 13 255) 37 #[vp ak,vu av] h ?_;clear h
    rintro cj ch ⟨ay,rfl,f93,f94,h⟩
    refine⟨[(2,vp (pa b)),(5,vp (pa d)),(12,vs g outN outC),(66,vs (some p) f m),(67,vi f),(68,vi s68),(84,vs g outN outC),(88,vu ay),(89,vp am),(91,vu a0)],pk,(show aF _ _ _ from⟨trivial,trivial,f93,f94,trivial⟩),?_⟩
    refine yx 8 (some 92) (bv 13 511) 37 #[vp am,vu a0] h ?_;clear h
    rintro ck cn ⟨a5,rfl,h⟩
    refine⟨[(2,vp (pa b)),(5,vp (pa d)),(12,vs g outN outC),(66,vs (some p) f m),(67,vi f),(68,vi s68),(84,vs g outN outC),(88,vu ay),(92,vu a5)],pk,(show aF _ _ _ from⟨trivial,trivial,trivial,trivial,trivial⟩),?_⟩
    refine T_g 9 (some 93) (.agg #[vu ay,vu a5]) (bv 13 1023) [(2,vp (pa b)),(5,vp (pa d)),(12,vs g outN outC),(66,vs (some p) f m),(67,vi f),(68,vi s68),(84,vs g outN outC),(93,.agg #[vu ay,vu a5])] (pure (.value (.agg #[vu ay,vu a5])):Sem Next) (λ_ _ _ _ _=>rfl)<|na 10 (some 94) (bv 13 2047) (λb=>vs (pa b) 1 1) (.cells #[vu ay,vu a5] 83) (by kernel_rfl) (λ_=>by kernel_rfl) (by kernel_rfl) ?_
    intro b0 H29 e95 e96
    replace h:=h b0 H29 e95 e96
    refine⟨[(2,vp (pa b)),(5,vp (pa d)),(12,vs g outN outC),(66,vs (some p) f m),(67,vi f),(68,vi s68),(84,vs g outN outC),(94,vs (pa b0) 1 1)],pk,(show aF _ _ _ from⟨trivial,trivial,trivial,trivial,trivial⟩),?_⟩
    refine od 11 (some 95) (bv 13 4095) (cJ #[34,34] 34 #[vs g outN outC,vs (pa b0) 1 1]) _ (by kernel_rfl) (λ_=>by kernel_rfl) (bQ (T:=83) (sz:=2) (bytes:=16) (zero:=(.agg #[vu 0,vu 0]:Value)) underlying34 underlying34 rfl (show prog.info? 83=some t83 from by kernel_rfl) (by kernel_rfl) (by kernel_rfl) (by decide) (by kernel_rfl) (by first | exact h | (simpa only[Value.cells,List.toList_toArray]using h))) (by kernel_rfl) ?_;clear h
    rintro _ cm ⟨ap,a9,rfl,h⟩
    refine⟨[(2,vp (pa b)),(5,vp (pa d)),(12,vs g outN outC),(66,vs (some p) f m),(67,vi f),(68,vi s68),(95,vs ap (outN+1) a9)],pk,(show aF _ _ _ from⟨trivial,trivial,trivial,trivial,trivial⟩),?_⟩
    exact T_g 12 (some 12) (vs ap (outN+1) a9) (bv 13 8191) [(2,vp (pa b)),(5,vp (pa d)),(12,vs ap (outN+1) a9),(66,vs (some p) f m),(67,vi f),(68,vi s68)] (pure (.value (vs ap (outN+1) a9)):Sem Next) (λ_ _ _ _ _=>rfl)<|fU [(2,vp (pa b)),(5,vp (pa d)),(12,vs ap (outN+1) a9),(66,vs (some p) f m),(67,vi f),(68,vi s68)] sk<|yz<|aA<|aE<|T_rz 26<|T_ne 2 [(2,vp (pa b)),(5,vp (pa d)),(12,vs ap (outN+1) a9),(66,vs (some p) f m),(67,vi f),(68,vi (zY (s68+1)))]<|aS ((ap,(outN+1),a9,(zY (s68+1))):zW×Nat×Nat×Int) sk h
   rw[if_neg c87]at h
   exact aJ 83 (zZ c87)<|T_k<|aA<|aE<|T_rz 26<|T_ed 2 [14,68,83] [(68,vi (zY (s68+1)))]<|aS ((g,outN,outC,(zY (s68+1))):zW×Nat×Nat×Int) sk h
  rw[if_neg c83]at h
  refine N_bd 78 (zQ c83)<|T_ed 5 [78] [(83,VF)]<|T_fz 83<|T_k ?_
  exact aA<|aE<|T_rz 26<|T_ed 2 [14,68,83] [(68,vi (zY (s68+1)))]<|aS ((g,outN,outC,(zY (s68+1))):zW×Nat×Nat×Int) sk h
 rw[if_neg c72]at h
 exact aJ 69 (zQ c72)<|zk 4<|aD<|aD<|aM<|aE<|ar 27<|T_nr 2 [4] [vs g outN outC] hQ h
end jq
/-! moraine/weak.Breaks -/
namespace jr
def K0:=Func.code f41
def K2:=cb K0
def K8:=cb K2
def K9:=ca K8
def K10:=ca K9
def K12:=cb K10
def K14:=cb K12
def K17:=ca K14
def K19:=ca K17
def K21:=cb K19
def K23:=cb K21
def K24:=ca K23
def K26:=cb K24
def K28:=cb K26
def K30:=cb K28
def K31:=ca K30
end jr
def jr.pt(tv:zW)(H:zV)(R:zv):Prop:=
 iW.C tv H (λv H1=> ∃x,v=.bool x/\
 if x=true then(
 R (.tuple #[]) H1)
 else
 eL.C tv H1 (λav H2=> ∃xB xN xC,av=vs xB xN xC/\
 ∃(u:zw) (m11:Int->zV->Nat),u 0 H2/\ ∀b H3,u b H3->
 if b< (xN:Int)then(
 ∃e,xB=some e/\
 yZ b xN/\
 ∃f,hat H3 (e.add (Int.toNat b*1))=some (vi f)/\
 ∃d,tv=some d/\
 ∃af,hat H3 d=some (vp af)/\
 ∃ag,af=some ag/\
 ∃ae,hat H3 ag=some (vp ae)/\
 ∃ai,ae=some ai/\
 ∃aj,hat H3 ai=some (vp aj)/\
 ∃ah,aj=some ah/\
 ∃z,hat H3 ah=some (vp z)/\
 cK.C z f H3 (λaq H4=> ∃ra rb,aq=.tuple #[vu ra,vi rb]/\
 dT.C (some d) ra H4 (λau H5=> ∃n,au=.bool n/\
 if n=true then(
 bT.C (some d) ra H5 (λap H6=> ∃p,ap=.bool p/\
 if p=true then(
 ∃ao,hat H6 d=some (vp ao)/\
 ∃m,ao=some m/\
 ∃al,hat H6 m=some (vp al)/\
 ∃j,al=some j/\
 ∃ak,hat H6 j=some (vp ak)/\
 ∃g,ak=some g/\
 ∃l,hat H6 g=some (vp l)/\
 bI.C (some d) ra H6 (λax H7=> ∃r,ax=vu r/\aQ H7 d 0 [Vq m]/\aQ H7 m 0 [Vq j]/\aQ H7 j 0 [Vq g]/\aQ H7 g 0 [vp l]/\
 cM.C l f r H7 (λaw H8=> ∃an,aw=vi an/\
 (u (zY (b+1)) H8/\m11 (zY (b+1)) H8<m11 b H3))))
 else
 ∃ab,hat H6 d=some (vp ab)/\
 ∃s,ab=some s/\
 ∃q,hat H6 s=some (vp q)/\
 ∃y,q=some y/\
 ∃aa,hat H6 y=some (vp aa)/\
 ∃ac,aa=some ac/\
 ∃o,hat H6 ac=some (vp o)/\
 cM.C o f 44 H6 (λay H9=> ∃am,ay=vi am/\
 (u (zY (b+1)) H9/\m11 (zY (b+1)) H9<m11 b H3))))
 else
 (u (zY (b+1)) H5/\m11 (zY (b+1)) H5<m11 b H3))))
 else
 R (.tuple #[]) H3))
namespace jr
theorem link(h:pt a H R):C a H R:=by
 refine T_en K0 76 func41 ?_
 intro w0 Q hQ
 unfold pt zY at h
 refine T_su [(0,vp a)]<|T_sz<|ar 0<|T_nd 1 [] [(6,vp a)]<|T_c (some 7) h ?_;clear h
 rintro v H1 ⟨x,rfl,h⟩
 refine T_pd [6] [(7,.bool x)]<|T_e ?_
 by_cases c1:x=true
 ·rw[if_pos c1]at h
  exact aI 7 c1<|jF [] [] hQ h
 rw[if_neg c1]at h
 refine aJ 7 (zZ c1)<|T_kt<|ar 1<|T_nd 1 [7] [(8,vp a)]<|T_c (some 9) h ?_;clear h
 rintro av H2 ⟨xB,xN,xC,rfl,h⟩
 refine T_pd [8] [(9,vs xB xN xC)]<|T_ed 2 [] [(10,vi xN),(11,vi 0)]<|T_bz 0 ?_
 obtain⟨u,m11,i3,i4⟩:=h
 refine bL (x:=K10) (σ:=Int) (λs_=> [(0,vp a),(9,vs xB xN xC),(10,vi xN),(11,vi s_)]) (λs_ H=>u s_ H) (λs_ H=>m11 s_ H) (0:Int) (by kernel_rfl) i3 sk ?_
 rintro b H3 i5
 have h:=i4 b H3 i5
 refine T_su [(0,vp a),(9,vs xB xN xC),(10,vi xN),(11,vi b)]<|ar 2<|T_ed 1 [] [(12,.bool (decide (b< (xN:Int))))]<|T_sz ?_
 by_cases c6:b< (xN:Int)
 ·rw[if_pos c6]at h
  refine aI 12 (zX c6)<|T_kt<|T_sz<|T_bz 1<|ar 3<|T_ud [12] [] ?_
  obtain⟨e,rfl,q8,h⟩:=h
  refine T_xd (some 13) 59 3 1 e xN xC .i64 b underlying59 q8.1 q8.2 [9] [(9,vs (some e) xN xC),(13,Vq (e.add (Int.toNat b*1)))] ?_
  obtain⟨f,q9,h⟩:=h
  refine T_l1 14 3 q9 [13]<|T_ed 1 [14] [(3,vi f)]<|ar 4<|T_nd 1 [] [(16,vp a)] ?_
  obtain⟨d,rfl,h⟩:=h
  refine T_nd 2 [0,16] [(0,Vq d),(18,Vq d)] ?_
  obtain⟨af,q10,h⟩:=h
  refine T_l1 19 28 q10 [18] ?_
  obtain⟨ag,rfl,h⟩:=h
  refine T_nd 2 [19] [(21,Vq ag)] ?_
  obtain⟨ae,q11,h⟩:=h
  refine T_l1 22 33 q11 [21] ?_
  obtain⟨ai,rfl,h⟩:=h
  refine T_nd 2 [22] [(24,Vq ai)] ?_
  obtain⟨aj,q12,h⟩:=h
  refine T_l1 25 42 q12 [24] ?_
  obtain⟨ah,rfl,h⟩:=h
  refine T_nd 2 [25] [(27,Vq ah)] ?_
  obtain⟨z,q13,h⟩:=h
  refine T_l1 28 70 q13 [27]<|T_nd 1 [] [(29,vi f)]<|T_c (some 30) h ?_;clear h
  rintro aq H4 ⟨ra,rb,rfl,h⟩
  refine T_pd [28,29] [(30,.tuple #[vu ra,vi rb])]<|T_ed 5 [30] [(4,vu ra)]<|T_bz 2<|ar 6<|T_nd 2 [] [(49,Vq d),(50,vu ra)]<|T_c (some 51) h ?_;clear h
  rintro au H5 ⟨n,rfl,h⟩
  refine T_pd [49,50] [(51,.bool n)]<|T_ed 2 [51] [(48,.bool (!n))] ?_
  by_cases c14:n=true
  ·rw[if_pos c14]at h
   refine aJ 48 (congrArg Bool.not (c14))<|ar 7<|T_nd 2 [48] [(54,Vq d),(55,vu ra)]<|T_c (some 56) h ?_;clear h
   rintro ap H6 ⟨p,rfl,h⟩
   refine T_pd [54,55] [(56,.bool p)]<|T_ed 1 [56] [(53,.bool p)] ?_
   by_cases c16:p=true
   ·rw[if_pos c16]at h
    refine aI 53 c16 ?_
    obtain⟨ao,q18,m,rfl,al,q19,j,rfl,ak,q20,g,rfl,l,q21,h⟩:=h
    refine yq 8 (Code.ops K31) [(17,d,[Vq m]),(17,m,[Vq j]),(17,j,[Vq g]),(17,g,[vp l])] 18 (bv 18 0) (show aF _ _ _ from⟨⟨q18,trivial⟩,⟨q19,trivial⟩,⟨q20,trivial⟩,⟨q21,trivial⟩,trivial⟩)<|T_gp 0 (some 57) (Vq d) (bv 18 1) [(0,Vq d),(3,vi f),(4,vu ra),(9,vs (some e) xN xC),(10,vi xN),(11,vi b),(57,Vq d)]<|aL 1 58 (Vq d) (bv 18 3) [57]<|aL 2 59 (Vq d) (bv 18 7) [58]<|T_g1 3 60 (Vq m) (bv 18 15) [59] (aU 28 (Vq d)) (yY 17 yX)<|aL 4 61 (Vq m) (bv 18 31) [60]<|aL 5 62 (Vq m) (bv 18 63) [61]<|T_g1 6 63 (Vq j) (bv 18 127) [62] (aU 33 (Vq m)) (yY 17 yQ)<|aL 7 64 (Vq j) (bv 18 255) [63]<|aL 8 65 (Vq j) (bv 18 511) [64]<|T_g1 9 66 (Vq g) (bv 18 1023) [65] (aU 42 (Vq j)) (yY 17 yJ)<|aL 10 67 (Vq g) (bv 18 2047) [66]<|aL 11 68 (Vq g) (bv 18 4095) [67]<|T_g1 12 69 (vp l) (bv 18 8191) [68] (aU 70 (Vq g)) (yY 17 yK)<|aL 13 70 (vi f) (bv 18 16383) [3]<|aL 14 71 (Vq d) (bv 18 32767) []<|aL 15 72 (vu ra) (bv 18 65535) [4]<|yx 16 (some 73) (bv 18 131071) 37 #[Vq d,vu ra] h ?_;clear h
    rintro ax H7 ⟨r,rfl,f22,f23,f24,f25,h⟩
    refine⟨[(0,Vq d),(9,vs (some e) xN xC),(10,vi xN),(11,vi b),(69,vp l),(70,vi f),(73,vu r)],pk,(show aF _ _ _ from⟨f22,f23,f24,f25,trivial⟩),?_⟩
    refine yx 17 (some 74) (bv 18 262143) 22 #[vp l,vi f,vu r] h ?_;clear h
    rintro aw H8 ⟨an,rfl,h⟩
    refine⟨[(0,Vq d),(9,vs (some e) xN xC),(10,vi xN),(11,vi b)],pk,(show aF _ _ _ from⟨trivial,trivial,trivial,trivial,trivial⟩),?_⟩
    refine fU [(0,Vq d),(9,vs (some e) xN xC),(10,vi xN),(11,vi b)] sk ?_
    exact yz<|aA<|aA<|aE<|T_rz 9<|T_ne 2 [(0,Vq d),(9,vs (some e) xN xC),(10,vi xN),(11,vi (zY (b+1)))]<|aS ((zY (b+1)):Int) sk h
   rw[if_neg c16]at h
   refine aJ 53 (zZ c16)<|T_rz 5<|T_nd 3 [4,53] [(35,Vq d)] ?_
   obtain⟨ab,q26,h⟩:=h
   refine T_l1 36 28 q26 [35] ?_
   obtain⟨s,rfl,h⟩:=h
   refine T_nd 2 [36] [(38,Vq s)] ?_
   obtain⟨q,q27,h⟩:=h
   refine T_l1 39 33 q27 [38] ?_
   obtain⟨y,rfl,h⟩:=h
   refine T_nd 2 [39] [(41,Vq y)] ?_
   obtain⟨aa,q28,h⟩:=h
   refine T_l1 42 42 q28 [41] ?_
   obtain⟨ac,rfl,h⟩:=h
   refine T_nd 2 [42] [(44,Vq ac)] ?_
   obtain⟨o,q29,h⟩:=h
   refine T_l1 45 70 q29 [44]<|T_nd 1 [3] [(46,vi f)]<|T_c (some 47) h ?_;clear h
   rintro ay H9 ⟨am,rfl,h⟩
   exact T_pd [45,46] []<|zq<|aA<|aA<|aE<|T_rz 9<|T_ed 2 [11] [(11,vi (zY (b+1)))]<|aS ((zY (b+1)):Int) sk h
  rw[if_neg c14]at h
  exact aI 48 (congrArg Bool.not (zZ c14))<|T_k<|aA<|aA<|aE<|T_rz 9<|T_ed 2 [3,4,11,48] [(11,vi (zY (b+1)))]<|aS ((zY (b+1)):Int) sk h
 rw[if_neg c6]at h
 exact aJ 12 (zQ c6)<|zk 0<|aD<|aD<|aM<|iG (fn:=f41) [] hQ (show cG _ _ _ [] _ from .nil) h
end jr
/-! moraine/weak.Prune -/
namespace jM
def K0:=Func.code f42
def K2:=cb K0
def K4:=cb K2
def K12:=cb K4
def K13:=ca K12
def K16:=cb K13
def K17:=ca K16
def K18:=ca K17
end jM
def jM.pt(tv lB:zW)(lN lC:Nat)(H:zV)(R:zv):Prop:=
 iW.C tv H (λv H1=> ∃x,v=.bool x/\
 if x=true then(
 bE.C lB lN lC H1 (λp H2=> ∃xB xN xC,p=vs xB xN xC/\
 R (vs xB xN xC) H2))
 else
 ∃(l:zW->Nat->Nat->zw) (m19:zW->Nat->Nat->Int->zV->Nat),l none 0 0 0 H1/\ ∀d outN outC s14 H3,l d outN outC s14 H3->
 if s14< (lN:Int)then(
 ∃e,lB=some e/\
 yZ s14 lN/\
 ∃f,hat H3 (e.add (Int.toNat s14*1))=some (vu f)/\
 bT.C tv f H3 (λn H4=> ∃j,n=.bool j/\
 if j=true then(
 bI.C tv f H4 (λo H5=> ∃m,o=vu m/\
 ∀b H6,b=H5.size->H6=H5.push (.cells #[vu m] 40)->
 bR 1 40 8 [vu 0] d outN outC (some (ad b)) 1 H6 (λap g H7=>
 (l ap (outN+1) g (zY (s14+1)) H7/\m19 ap (outN+1) g (zY (s14+1)) H7<m19 d outN outC s14 H3))))
 else
 (l d outN outC (zY (s14+1)) H4/\m19 d outN outC (zY (s14+1)) H4<m19 d outN outC s14 H3)))
 else
 R (vs d outN outC) H3)
namespace jM
theorem link{lB:zW}{lN lC:Nat}(h:pt a lB lN lC H R):C a lB lN lC H R:=by
 refine T_en K0 29 func42 ?_
 intro w0 Q hQ
 unfold pt zY at h
 refine T_su [(0,vp a),(1,vs lB lN lC)]<|ar 0<|T_ed 1 [] []<|T_sz<|ar 1<|T_nd 1 [] [(8,vp a)]<|T_c (some 9) h ?_;clear h
 rintro v H1 ⟨x,rfl,h⟩
 refine T_pd [8] [(9,.bool x)]<|T_e ?_
 by_cases c1:x=true
 ·rw[if_pos c1]at h
  refine aI 9 c1<|ar 2<|T_n 1 [(10,vs lB lN lC)]<|T_c (some 11) h ?_;clear h
  rintro p H2 ⟨xB,xN,xC,rfl,h⟩
  refine⟨[(11,vs xB xN xC)],pk,?_⟩
  exact T_nr 1 [4] [vs xB xN xC] hQ h
 rw[if_neg c1]at h
 refine aJ 9 (zZ c1)<|T_kt<|ar 3<|T_ed 1 [9] [(5,VN)]<|T_sz<|ar 4<|T_ed 3 [1] [(12,vs lB lN lC),(13,vi lN),(14,vi 0)]<|T_bz 0 ?_
 obtain⟨l,m19,i3,i4⟩:=h
 refine bL (x:=K18) (σ:=zW×Nat×Nat×Int) (λs_=> [(0,vp a),(5,vs s_.1 s_.2.1 s_.2.2.1),(12,vs lB lN lC),(13,vi lN),(14,vi s_.2.2.2)]) (λs_ H=>l s_.1 s_.2.1 s_.2.2.1 s_.2.2.2 H) (λs_ H=>m19 s_.1 s_.2.1 s_.2.2.1 s_.2.2.2 H) ((none,0,0,0):zW×Nat×Nat×Int) (by kernel_rfl) i3 sk ?_
 rintro⟨d,outN,outC,s14⟩ H3 i5
 have h:=i4 d outN outC s14 H3 i5
 refine T_su [(0,vp a),(5,vs d outN outC),(12,vs lB lN lC),(13,vi lN),(14,vi s14)]<|ar 5<|T_ed 1 [] [(15,.bool (decide (s14< (lN:Int))))]<|T_sz ?_
 by_cases c6:s14< (lN:Int)
 ·rw[if_pos c6]at h
  refine aI 15 (zX c6)<|T_kt<|T_sz<|T_bz 1<|ar 6<|T_ud [15] [] ?_
  obtain⟨e,rfl,q8,h⟩:=h
  refine T_xd (some 16) 29 40 1 e lN lC .i64 s14 underlying29 q8.1 q8.2 [12] [(12,vs (some e) lN lC),(16,Vq (e.add (Int.toNat s14*1)))] ?_
  obtain⟨f,q9,h⟩:=h
  refine T_l1 17 40 q9 [16]<|T_ed 1 [17] [(7,vu f)]<|ar 7<|T_nd 2 [] [(18,vp a),(19,vu f)]<|T_c (some 20) h ?_;clear h
  rintro n H4 ⟨j,rfl,h⟩
  refine T_pd [18,19] [(20,.bool j)]<|T_e ?_
  by_cases c10:j=true
  ·rw[if_pos c10]at h
   refine aI 20 c10<|T_rz 8<|T_nd 3 [5,7,20] [(21,vs d outN outC),(22,vp a),(23,vu f)]<|T_c (some 24) h ?_;clear h
   rintro o H5 ⟨m,rfl,h⟩
   refine T_pd [22,23] [(24,vu m)]<|T_nw (some 25) (λb=>vs (pa b) 1 1) (.cells #[vu m] 40) ?_
   intro b H6 e12 e13
   replace h:=h b H6 e12 e13
   refine T_pd [24] [(25,vs (pa b) 1 1)]<|N_op (some 26) (cJ #[29,29] 29 #[vs d outN outC,vs (pa b) 1 1]) _ (λ_=>by kernel_rfl) (bQ (T:=40) (sz:=1) (bytes:=8) (zero:=(vu 0:Value)) underlying29 underlying29 rfl (show prog.info? 40=some t40 from by kernel_rfl) (by kernel_rfl) (by kernel_rfl) (by decide) (by kernel_rfl) (by first | exact h | (simpa only[Value.cells,List.toList_toArray]using h))) ?_;clear h
   rintro _ H7 ⟨ap,g,rfl,h⟩
   exact T_pd [21,25] [(26,vs ap (outN+1) g)]<|T_nd 1 [26] [(5,vs ap (outN+1) g)]<|zq<|aA<|aE<|T_rz 9<|T_ed 2 [14] [(14,vi (zY (s14+1)))]<|aS ((ap,(outN+1),g,(zY (s14+1))):zW×Nat×Nat×Int) sk h
  rw[if_neg c10]at h
  exact aJ 20 (zZ c10)<|T_k<|aA<|aE<|T_rz 9<|T_ed 2 [7,14,20] [(14,vi (zY (s14+1)))]<|aS ((d,outN,outC,(zY (s14+1))):zW×Nat×Nat×Int) sk h
 rw[if_neg c6]at h
 exact aJ 15 (zQ c6)<|zk 0<|aD<|aD<|aM<|aE<|ar 10<|T_nr 2 [4] [vs d outN outC] hQ h
end jM
/-! moraine/weak.ended -/
namespace iW
def K0:=Func.code f86
end iW
def iW.pt(tv:zW)(H:zV)(R:zv):Prop:=
 fE tv (
 R VT H) (λa=>
 eN.C (some a) H (λv H1=> ∃x,v=.bool x/\
 R (.bool x) H1))
namespace iW
theorem link(h:pt a H R):C a H R:=by
 refine T_en K0 9 func86 ?_
 intro w0 Q hQ
 unfold pt at h
 refine T_su [(0,vp a)]<|ar 0<|T_ed 1 [] []<|ar 1<|T_nd 1 [] [(3,vp a)] ?_
 rcases a with _ | tv
 ·rw[onPtr_none]at h
  exact T_nr 6 [2] [VT] hQ h
 rw[onPtr_some]at h
 refine T_n 3 [(5,VF),(6,Vq tv)]<|T_c (some 7) h ?_;clear h
 rintro v H1 ⟨x,rfl,h⟩
 exact T_pd [6] [(7,.bool x)]<|T_nr 2 [2] [.bool x] hQ h
end iW
/-! moraine/weak.Guards.1 -/
variable{H:zV}{R:zv}{a j:zW}{b:Int}{d i:Nat}
/-! moraine/audit.Things -/
namespace gX
def K0:=Func.code f20
def K2:=cb K0
def K4:=cb K2
def K5:=ca K4
def K8:=cb K5
def K9:=ca K8
def K10:=ca K9
def K11:=cb K9
end gX
def gX.pt(hv:zW)(H:zV)(R:zv):Prop:=
 ∀b H1,b=H.size->H1=H.push (.cells #[VN] 29)->
 fP.C hv H1 (λv H2=>v=v/\
 ∀(rc:LoopState->Option Code->Obj) (lp:Nat) (H3:zV),lp=H2.size+1->H3=(H2.push (.deferred (some []))).push (rc .ready none)->
 ∀vY,(∀(a:Int) (x_3:Int) (H4:zV) (vRy:zv),H4[lp]?=some (rc .ready none)->
 (H4[lp]?=some (rc .ready none)/\ ∀H5,H5=aO H4 lp (rc .busy none)->
 if x_3>0 then(
 ∃xB xN xC,hat H5 (ad b)=some (vs xB xN xC)/\
 ∀j H6,j=H5.size->H6=H5.push (.cells #[vu a] 40)->
 bR 1 40 8 [vu 0] xB xN xC (some (ad j)) 1 H6 (λap i H7=>
 (aK H7 (ad b) 0 1)/\ ∀H8,H8=aR H7 (ad b) [vs ap (xN+1) i] 0->
 H8[lp]?=some (rc .busy none)/\
 vRy VT (aO H8 lp (rc .ready none))))
 else
 H5[lp]?=some (rc .busy none)/\
 vRy VT (aO H5 lp (rc .ready none)))->
 FC prog vY #[vu a,vi x_3] H4 vRy)->
 FE prog v #[vY] H3 (λ_ H9=>
 (H9[lp]?=some (rc .ready none)/\ ∀k,k=aO H9 lp (rc .exhausted none)->
 ∃d f e,hat k (ad b)=some (vs d f e)/\
 Shut (H2.size::[]) k (λl=>
 R (vs d f e) l))))
namespace gX
theorem link(h:pt a H R):C a H R:=by
 refine T_en K0 17 func20 ?_
 intro w0 Q hQ
 unfold pt at h
 refine T_su [(0,vp a)]<|ar 0<|T_ed 1 [] []<|ar 1<|T_nw (some 3) (λb=>vp (pa b)) (.cells #[VN] 29) ?_
 intro b H1 e1 e2
 replace h:=h b H1 e1 e2
 refine T_pd [] [(3,vp (pa b))]<|T_e<|T_sz<|ar 2<|T_nd 1 [0] [(6,vp a)]<|T_c (some 7) h ?_;clear h
 rintro v H2 ⟨-,h⟩
 refine T_pd [6] [(7,v)]<|T_e<|T_bz 0<|lk (g:=.tmp 7) (ps:= #[8,9]) (assign:=K10) (body:=K11) (v) (by kernel_rfl) (by kernel_rfl) (by kernel_rfl) ?_
 intro rc lp H3 r3 e4 e5 y6
 refine FE.mono (h rc lp H3 e4 e5 (.func (.yield lp) #[] #[]) ?_) ?_
 ·clear h
  intro hv x_3 H4 vRy q7 h
  refine y6 #[vu hv,vi x_3] H4 vRy (by kernel_rfl) q7 (λw1x=>?_)
  refine T_sd [] [(8,vu hv),(9,vi x_3)]<|ar 3<|T_ed 1 [7,8] [(4,vu hv)]<|T_rz 4<|T_nd 1 [9] [(5,vi x_3)]<|zq ?_
  obtain⟨q9,h⟩:=h
  refine aE<|lj r3 q9 ?_
  intro H5 e8
  replace h:=h H5 e8
  refine T_bz 1<|ar 5<|T_ed 2 [5] [(11,.bool (decide (x_3>0)))] ?_
  by_cases c10:x_3>0
  ·rw[if_pos c10]at h
   refine aI 11 (zX c10)<|T_rz 6<|T_ud [11] [] ?_
   obtain⟨xB,xN,xC,q12,h⟩:=h
   refine T_l1 12 29 q12 []<|T_nd 1 [4] [(13,vu hv)]<|T_nw (some 14) (λb=>vs (pa b) 1 1) (.cells #[vu hv] 40) ?_
   intro j H6 e13 e14
   replace h:=h j H6 e13 e14
   refine T_pd [13] [(14,vs (pa j) 1 1)]<|N_op (some 15) (cJ #[29,29] 29 #[vs xB xN xC,vs (pa j) 1 1]) _ (λ_=>by kernel_rfl) (bQ (T:=40) (sz:=1) (bytes:=8) (zero:=(vu 0:Value)) underlying29 underlying29 rfl (show prog.info? 40=some t40 from by kernel_rfl) (by kernel_rfl) (by kernel_rfl) (by decide) (by kernel_rfl) (by first | exact h | (simpa only[Value.cells,List.toList_toArray]using h))) ?_;clear h
   rintro _ H7 ⟨ap,i,rfl,h⟩
   refine T_pd [12,14] [(15,vs ap (xN+1) i)] ?_
   obtain⟨q16,h⟩:=h
   refine fH 29 (vs ap (xN+1) i) q16 ?_
   intro H8 e15
   replace h:=h H8 e15
   refine⟨[],pk,?_⟩
   refine zq<|aA ?_
   obtain⟨q17,h⟩:=h
   exact cF r3 q17 h
  rw[if_neg c10]at h
  refine aJ 11 (zQ c10)<|T_k<|aA ?_
  obtain⟨q18,h⟩:=h
  exact cF r3 q18 h
 clear h y6
 rintro _ H9 (⟨q19,h⟩)
 refine .inl ⟨q19,λk e21=>?_⟩
 replace h:=h k e21
 refine kC (H2.size::[]) rfl ?_
 refine T_sd [7] []<|aA<|aE<|ar 7 ?_
 obtain⟨d,f,e,q20,h⟩:=h
 refine T_l1 16 29 q20 [3]<|T_ne 1 [(2,vs d f e)]<|zx ?_
 show At _ _ _ _ _ (Q .ret)
 refine lg (fn:=f20) (H2.size::[]) hQ (Shut.mono (λl h=>?_) h)
 exact⟨[vs d f e],(show cG _ _ _ [.tmp 2] _ from .tmp (by kernel_rfl) (.nil)),h⟩
end gX
/-! moraine/audit.Check -/
namespace fV
def K0:=Func.code f21
def K2:=cb K0
def K4:=cb K2
def K5:=ca K4
def K6:=cb K4
def K8:=cb K5
def K9:=ca K8
def K10:=ca K9
def K11:=cb K9
def K23:=ca K6
def K24:=cb K6
def K26:=cb K23
def K27:=ca K26
def K28:=ca K27
def K30:=cb K28
def K32:=cb K30
def K35:=ca K32
def K37:=ca K35
def K39:=cb K37
def K41:=cb K39
def K42:=ca K41
def K43:=ca K42
def K44:=cb K42
def K56:=ca K24
def K59:=cb K56
def K60:=ca K59
def K61:=ca K60
end fV
def fV.pt(hv j:zW)(f e:Nat)(H:zV)(R:zv):Prop:=
 ∀b H1,b=H.size->H1=H.push (.cells #[vi 0] 3)->
 ∀d H2,d=H1.size->H2=H1.push (.cells #[vi 0] 45)->
 ∀aj H3,aj=H2.size->H3=H2.push (.map #[] 0)->
 ∀l H4,l=H3.size->H4=H3.push (.cells #[.map none] 100)->
 (aK H4 (ad l) 0 1)/\ ∀H5,H5=aR H4 (ad l) [.map (some aj)] 0->
 fP.C hv H5 (λv H6=>v=v/\
 ∀(rc:LoopState->Option Code->Obj) (lp:Nat) (H7:zV),lp=H6.size+1->H7=(H6.push (.deferred (some []))).push (rc .ready none)->
 ∀vY,(∀(aa:Int) (x_3:Int) (H8:zV) (vRy:zv),H8[lp]?=some (rc .ready none)->
 (H8[lp]?=some (rc .ready none)/\ ∀H9,H9=aO H8 lp (rc .busy none)->
 if x_3=0 then(
 fI.C aa H9 (λbp ba=> ∃an,bp=vi an/\
 (aK ba (ad b) 0 1)/\ ∀aw,aw=aR ba (ad b) [vi an] 0->
 (aK aw (ad d) 0 1)/\ ∀a4,a4=aR aw (ad d) [vi 9] 0->
 a4[lp]?=some (rc .busy none)/\
 vRy VF (aO a4 lp (rc .done (some .ret)))))
 else
 ∃ay,hat H9 (ad l)=some (.map ay)/\
 ∃mr,ay=some mr/\
 ∃es cl ks,H9[mr]?=some (.map es cl)/\Ents (bF .u64) es.toList ks/\
 ∀a0 cl_2 H13,H13=aO H9 mr (.map a0 cl_2)->Ents (bF .u64) a0.toList (mput ks aa (vi x_3))->
 H13[lp]?=some (rc .busy none)/\
 vRy VT (aO H13 lp (rc .ready none)))->
 FC prog vY #[vu aa,vi x_3] H8 vRy)->
 FE prog v #[vY] H7 (λ_ a5=>
 (a5[lp]?=some (rc .ready none)/\ ∀ai,ai=aO a5 lp (rc .exhausted none)->
 gX.C hv ai (λbo bt=> ∃xB xN xC,bo=vs xB xN xC/\
 ∃(av:Int->(List Nat)->zV->Prop) (m29:Int->(List Nat)->zV->Nat),av 0 (H6.size::[]) bt/\ ∀(o:Int) (ms:List Nat) (H17:zV),av o ms H17->
 if o< (xN:Int)then(
 ∃ac,xB=some ac/\
 yZ o xN/\
 ∃am,hat H17 (ac.add (Int.toNat o*1))=some (vu am)/\
 bY.C hv am H17 (λao ag=>ao=ao/\
 ∀(z:LoopState->Option Code->Obj) (lp_2:Nat) (H19:zV),lp_2=ag.size+1->H19=(ag.push (.deferred (some []))).push (z .ready none)->
 ∀bm,(∀(ab:Int) (x_9:Int) (H20:zV) (vRy_2:zv),H20[lp_2]?=some (z .ready none)->
 (H20[lp_2]?=some (z .ready none)/\ ∀a3,a3=aO H20 lp_2 (z .busy none)->
 ∃al,hat a3 (ad l)=some (.map al)/\
 fW.C x_9 al a3 (λbn ap=> ∃y,bn=vi y/\
 if y=0 then(
 ap[lp_2]?=some (z .busy none)/\
 vRy_2 VT (aO ap lp_2 (z .ready none)))
 else
 (aK ap (ad b) 0 1)/\ ∀aq,aq=aR ap (ad b) [vi ab] 0->
 (aK aq (ad d) 0 1)/\ ∀a1,a1=aR aq (ad d) [vi y] 0->
 a1[lp_2]?=some (z .busy none)/\
 vRy_2 VF (aO a1 lp_2 (z .done (some .ret)))))->
 FC prog bm #[vi ab,vu x_9] H20 vRy_2)->
 FE prog ao #[bm] H19 (λ_ a2=>
 (a2[lp_2]?=some (z .ready none)/\ ∀ah,ah=aO a2 lp_2 (z .exhausted none)->
 (av (zY (o+1)) (ag.size::ms) ah/\m29 (zY (o+1)) (ag.size::ms) ah<m29 o ms H17))\/
 (a2[lp_2]?=some (z .done (some .ret))/\ ∀ah,ah=aO a2 lp_2 (z .exhausted (some .ret))->
 Shut (ag.size::ms) ah (λbi=>
 ∃r,hat bi (ad b)=some (vi r)/\
 ∃bj,hat bi (ad d)=some (vi bj)/\
 R (.tuple #[vi r,vi bj]) bi)))))
 else
 iL.C hv j f e H17 (λbs bu=> ∃ae m p,bs=vs ae m p/\
 ∃(a6:zw) (m62:Int->zV->Nat),a6 0 bu/\ ∀n H29,a6 n H29->
 if n< (m:Int)then(
 ∃q,ae=some q/\
 yZ n m/\
 ∃af,hat H29 (q.add (Int.toNat n*1))=some (vu af)/\
 ∃ak,hat H29 (ad l)=some (.map ak)/\
 fW.C af ak H29 (λbr az=> ∃u,br=vi u/\
 if u=0 then(
 (a6 (zY (n+1)) az/\m62 (zY (n+1)) az<m62 n H29))
 else
 (aK az (ad b) 0 1)/\ ∀ax,ax=aR az (ad b) [vi (-1)] 0->
 (aK ax (ad d) 0 1)/\ ∀bf,bf=aR ax (ad d) [vi u] 0->
 Shut (ms) bf (λbd=>
 ∃bh,hat bd (ad b)=some (vi bh)/\
 ∃a9,hat bd (ad d)=some (vi a9)/\
 R (.tuple #[vi bh,vi a9]) bd)))
 else
 js.C hv H29 (λbq a8=> ∃ra rb,bq=.tuple #[vi ra,vi rb]/\
 (aK a8 (ad b) 0 1)/\ ∀au,au=aR a8 (ad b) [vi ra] 0->
 (aK au (ad d) 0 1)/\ ∀be,be=aR au (ad d) [vi rb] 0->
 Shut (ms) be (λbg=>
 ∃bc,hat bg (ad b)=some (vi bc)/\
 ∃a7,hat bg (ad d)=some (vi a7)/\
 R (.tuple #[vi bc,vi a7]) bg)))))\/
 (a5[lp]?=some (rc .done (some .ret))/\ ∀ai,ai=aO a5 lp (rc .exhausted (some .ret))->
 Shut (H6.size::[]) ai (λbk=>
 ∃bl,hat bk (ad b)=some (vi bl)/\
 ∃bb,hat bk (ad d)=some (vi bb)/\
 R (.tuple #[vi bl,vi bb]) bk))))
namespace fV
theorem link(h:pt a j d i H R):C a j d i H R:=by
 refine T_en K0 68 func21 ?_
 intro w0 Q hQ
 unfold pt zY at h
 refine T_su [(0,vp a),(1,vs j d i)]<|ar 0<|T_nw (some 4) (λb=>vp (pa b)) (.cells #[vi 0] 3) ?_
 intro b H1 e1 e2
 replace h:=h b H1 e1 e2
 refine T_pd [] [(4,vp (pa b))]<|T_nw (some 5) (λb=>vp (pa b)) (.cells #[vi 0] 45) ?_
 intro e H2 e3 e4
 replace h:=h e H2 e3 e4
 refine T_pd [] [(5,vp (pa e))]<|T_e<|ar 1<|T_nw (some 17) (λb=> .map (some b)) (.map #[] 0) ?_
 intro aj H3 e5 e6
 replace h:=h aj H3 e5 e6
 refine T_pd [] [(17,.map (some aj))]<|T_nw (some 6) (λb=>vp (pa b)) (.cells #[.map none] 100) ?_
 intro l H4 e7 e8
 replace h:=h l H4 e7 e8
 refine T_pd [] [(6,vp (pa l))] ?_
 obtain⟨q10,h⟩:=h
 refine fH 100 (.map (some aj)) q10 ?_
 intro H5 e9
 replace h:=h H5 e9
 refine T_pd [17] []<|T_e<|T_sz<|ar 2<|T_nd 1 [] [(18,vp a)]<|T_c (some 19) h ?_;clear h
 rintro v H6 ⟨-,h⟩
 refine T_pd [18] [(19,v)]<|T_e<|T_bz 0<|lk (g:=.tmp 19) (ps:= #[20,21]) (assign:=K10) (body:=K11) (v) (by kernel_rfl) (by kernel_rfl) (by kernel_rfl) ?_
 intro rc lp H7 r11 e12 e13 y14
 refine FE.mono (h rc lp H7 e12 e13 (.func (.yield lp) #[] #[]) ?_) ?_
 ·clear h
  intro aa x_3 H8 vRy q15 h
  refine y14 #[vu aa,vi x_3] H8 vRy (by kernel_rfl) q15 (λw1x=>?_)
  refine T_sd [] [(20,vu aa),(21,vi x_3)]<|ar 3<|T_ed 1 [0,1,19,20] [(7,vu aa)]<|T_rz 4<|T_nd 1 [21] [(8,vi x_3)]<|zq ?_
  obtain⟨q17,h⟩:=h
  refine aE<|lj r11 q17 ?_
  intro H9 e16
  replace h:=h H9 e16
  refine T_bz 1<|T_sz<|ar 5<|T_ed 2 [] [(23,.bool (x_3==0))] ?_
  by_cases c18:x_3=0
  ·rw[if_pos c18]at h
   refine aI 23 (zK c18)<|ar 6<|T_nd 1 [6,7,8,23] [(24,vu aa)]<|T_c (some 25) h ?_;clear h
   rintro bp ba ⟨an,rfl,h⟩
   refine T_pd [24] [(25,vi an)] ?_
   obtain⟨q21,h⟩:=h
   refine fH 3 (vi an) q21 ?_
   intro aw e20
   replace h:=h aw e20
   refine T_pd [4,25] [] ?_
   obtain⟨q23,h⟩:=h
   refine fH 45 (vi 9) q23 ?_
   intro a4 e22
   replace h:=h a4 e22
   refine⟨[],pk,?_⟩
   refine T_e<|zx ?_
   show At _ _ _ _ _ (roundPost _ _ _ .ret)
   obtain⟨q24,h⟩:=h
   exact uX r11 q24 h
  rw[if_neg c18]at h
  refine aJ 23 (zJ c18)<|T_kt<|T_rz 7<|T_ud [4,5,23] [] ?_
  obtain⟨ay,q25,h⟩:=h
  refine T_l1 26 100 q25 [6]<|T_nd 2 [7,8] [(27,vu aa),(28,vi x_3)] ?_
  obtain⟨mr,rfl,es,cl,ks,q26,q27,h⟩:=h
  refine mz none (mV 100 (.map (some mr)) (vu aa) (vi x_3)) (λHz=> ∃es2 cl2,Hz=aO H9 mr (.map es2 cl2)/\Ents (bF .u64) es2.toList (mput ks aa (vi x_3))) (λ_=>by kernel_rfl) (λw hw=>by obtain⟨es2,cl2,q1,q2⟩:=nq (kk:=(bF .u64)) (P:=prog) (w:=w) (k:=aa) (v:=vi x_3) underlying100 underlying40 (by rw[hw];exact q26) q27;exact⟨_,q1,⟨rfl,rfl,rfl,Nat.le_refl _⟩,es2,cl2,by rw[<-hw],q2⟩) ?_
  rintro H13 ⟨a0,cl_2,e29,e30⟩
  replace h:=h a0 cl_2 H13 e29 e30
  refine⟨[],pk,?_⟩
  refine zq<|aA ?_
  obtain⟨q31,h⟩:=h
  exact cF r11 q31 h
 clear h y14
 rintro _ a5 (⟨q32,h⟩ | ⟨q32,h⟩)
 ·refine .inl ⟨q32,λai e84=>?_⟩
  replace h:=h ai e84
  refine kC (H6.size::[]) rfl ?_
  refine T_sd [19] []<|aA<|aE<|T_sz<|ar 8<|T_nd 1 [] [(29,vp a)]<|T_c (some 30) h ?_;clear h
  rintro bo bt ⟨xB,xN,xC,rfl,h⟩
  refine T_pd [29] [(30,vs xB xN xC)]<|T_ed 2 [] [(31,vi xN),(32,vi 0)]<|T_bz 2 ?_
  obtain⟨av,m29,i33,i34⟩:=h
  refine rm (x:=K28) (σ:=Int×(List Nat)) (λs_=> [(0,vp a),(1,vs j d i),(4,vp (pa b)),(5,vp (pa e)),(6,vp (pa l)),(30,vs xB xN xC),(31,vi xN),(32,vi s_.1)]) (λs_=>s_.2) (λs_ H=>av s_.1 s_.2 H) (λs_ H=>m29 s_.1 s_.2 H) ((0,(H6.size::[])):Int×(List Nat)) (by kernel_rfl) i33 sk ?_
  rintro⟨o,ms⟩ H17 i35
  have h:=i34 o ms H17 i35
  refine T_su [(0,vp a),(1,vs j d i),(4,vp (pa b)),(5,vp (pa e)),(6,vp (pa l)),(30,vs xB xN xC),(31,vi xN),(32,vi o)]<|ar 9<|T_ed 1 [] [(33,.bool (decide (o< (xN:Int))))]<|T_sz ?_
  by_cases c36:o< (xN:Int)
  ·rw[if_pos c36]at h
   refine aI 33 (zX c36)<|T_kt<|T_sz<|T_bz 3<|ar 10<|T_ud [33] [] ?_
   obtain⟨ac,rfl,q38,h⟩:=h
   refine T_xd (some 34) 29 40 1 ac xN xC .i64 o underlying29 q38.1 q38.2 [30] [(30,vs (some ac) xN xC),(34,Vq (ac.add (Int.toNat o*1)))] ?_
   obtain⟨am,q39,h⟩:=h
   refine T_l1 35 40 q39 [34]<|T_ed 1 [35] [(10,vu am)]<|ar 11<|T_nd 2 [10] [(36,vp a),(37,vu am)]<|T_c (some 38) h ?_;clear h
   rintro ao ag ⟨-,h⟩
   refine T_pd [36,37] [(38,ao)]<|T_e<|T_bz 4<|lk (g:=.tmp 38) (ps:= #[39,40]) (assign:=K43) (body:=K44) (ao) (by kernel_rfl) (by kernel_rfl) (by kernel_rfl) ?_
   intro z lp_2 H19 r40 e41 e42 y43
   refine FE.mono (h z lp_2 H19 e41 e42 (.func (.yield lp_2) #[] #[]) ?_) ?_
   ·clear h
    intro ab x_9 H20 vRy_2 q44 h
    refine y43 #[vi ab,vu x_9] H20 vRy_2 (by kernel_rfl) q44 (λw1x_2=>?_)
    refine T_sd [] [(39,vi ab),(40,vu x_9)]<|ar 12<|T_ed 1 [0,1,30,31,32,38,39] [(11,vi ab)]<|T_rz 13<|T_nd 1 [40] [(12,vu x_9)]<|zq ?_
    obtain⟨q46,h⟩:=h
    refine aE<|lj r40 q46 ?_
    intro a3 e45
    replace h:=h a3 e45
    refine T_bz 5<|ar 14<|T_nd 1 [12] [(41,vu x_9)] ?_
    obtain⟨al,q47,h⟩:=h
    refine T_l1 42 100 q47 [6]<|T_c (some 43) h ?_;clear h
    rintro bn ap ⟨y,rfl,h⟩
    refine T_pd [41,42] [(43,vi y)]<|T_ed 1 [43] [(13,vi y)]<|ar 15<|T_ed 2 [] [(45,.bool (y !=0))] ?_
    by_cases c48:y=0
    ·rw[if_pos c48]at h
     refine aJ 45 (bne_eq_false_iff_eq.mpr c48)<|T_k<|aA ?_
     obtain⟨q50,h⟩:=h
     exact cF r40 q50 h
    rw[if_neg c48]at h
    refine aI 45 (bne_iff_ne.mpr c48)<|ar 16<|T_nd 2 [11,13,45] [(46,vi ab),(47,vi y)] ?_
    obtain⟨q52,h⟩:=h
    refine fH 3 (vi ab) q52 ?_
    intro aq e51
    replace h:=h aq e51
    refine T_pd [4,46] [] ?_
    obtain⟨q54,h⟩:=h
    refine fH 45 (vi y) q54 ?_
    intro a1 e53
    replace h:=h a1 e53
    refine⟨[],pk,?_⟩
    refine T_e<|zx ?_
    show At _ _ _ _ _ (roundPost _ _ _ .ret)
    obtain⟨q55,h⟩:=h
    exact uX r40 q55 h
   clear h y43
   rintro _ a2 (⟨q56,h⟩ | ⟨q56,h⟩)
   ·refine .inl ⟨q56,λah e59=>?_⟩
    replace h:=h ah e59
    refine kC (ag.size::ms) rfl ?_
    exact T_sd [38] []<|aA<|aA<|aE<|T_rz 17<|T_ed 2 [32] [(32,vi (zY (o+1)))]<|lR (mk:=(λs_=>s_.2)) (I:=(λs_ H=>av s_.1 s_.2 H)) (μ:=(λs_ H=>m29 s_.1 s_.2 H)) (s:=(_,_)) (((zY (o+1)),(ag.size::ms)):Int×(List Nat)) sk h
   refine .inr ⟨_,q56,λah e59=>?_⟩
   replace h:=h ah e59
   refine kC (ag.size::ms) rfl ?_
   refine T_sd [38] []<|tR rfl ?_
   show At _ _ _ _ _ (Q .ret)
   refine lg (fn:=f21) (ag.size::ms) hQ (Shut.mono (λbi h=>?_) h)
   obtain⟨r,q57,bj,q58,h⟩:=h
   exact⟨[vi r,vi bj],(show cG _ _ _ [.cell 4 3,.cell 5 45] _ from .cell (by kernel_rfl) (gP (λ_=>by kernel_rfl) q57) (.cell (by kernel_rfl) (gP (λ_=>by kernel_rfl) q58) (.nil))),h⟩
  rw[if_neg c36]at h
  refine aJ 33 (zQ c36)<|zk 2<|aD<|aD<|aM<|aE<|T_sz<|ar 18<|T_nd 2 [1,30,31,32,33] [(49,vp a),(50,vs j d i)]<|T_c (some 51) h ?_;clear h
  rintro bs bu ⟨ae,m,p,rfl,h⟩
  refine T_pd [49,50] [(51,vs ae m p)]<|T_ed 2 [] [(52,vi m),(53,vi 0)]<|T_bz 6 ?_
  obtain⟨a6,m62,i60,i61⟩:=h
  refine bL (x:=K61) (σ:=Int) (λs_=> [(0,vp a),(4,vp (pa b)),(5,vp (pa e)),(6,vp (pa l)),(51,vs ae m p),(52,vi m),(53,vi s_)]) (λs_ H=>a6 s_ H) (λs_ H=>m62 s_ H) (0:Int) (by kernel_rfl) i60 sk ?_
  rintro n H29 i62
  have h:=i61 n H29 i62
  refine T_su [(0,vp a),(4,vp (pa b)),(5,vp (pa e)),(6,vp (pa l)),(51,vs ae m p),(52,vi m),(53,vi n)]<|ar 19<|T_ed 1 [] [(54,.bool (decide (n< (m:Int))))]<|T_sz ?_
  by_cases c63:n< (m:Int)
  ·rw[if_pos c63]at h
   refine aI 54 (zX c63)<|T_kt<|T_sz<|T_bz 7<|ar 20<|T_ud [54] [] ?_
   obtain⟨q,rfl,q65,h⟩:=h
   refine T_xd (some 55) 29 40 1 q m p .i64 n underlying29 q65.1 q65.2 [51] [(51,vs (some q) m p),(55,Vq (q.add (Int.toNat n*1)))] ?_
   obtain⟨af,q66,h⟩:=h
   refine T_l1 56 40 q66 [55]<|T_ed 1 [56] [(15,vu af)]<|ar 21<|T_nd 1 [15] [(57,vu af)] ?_
   obtain⟨ak,q67,h⟩:=h
   refine T_l1 58 100 q67 []<|T_c (some 59) h ?_;clear h
   rintro br az ⟨u,rfl,h⟩
   refine T_pd [57,58] [(59,vi u)]<|T_ed 1 [59] [(16,vi u)]<|ar 22<|T_ed 2 [] [(61,.bool (u !=0))] ?_
   by_cases c68:u=0
   ·rw[if_pos c68]at h
    exact aJ 61 (bne_eq_false_iff_eq.mpr c68)<|T_k<|aA<|aE<|T_rz 24<|T_ed 2 [16,53,61] [(53,vi (zY (n+1)))]<|aS ((zY (n+1)):Int) sk h
   rw[if_neg c68]at h
   refine aI 61 (bne_iff_ne.mpr c68)<|ar 23<|T_nd 1 [0,6,16,51,52,53,61] [(62,vi u)] ?_
   obtain⟨q71,h⟩:=h
   refine fH 3 (vi (-1)) q71 ?_
   intro ax e70
   replace h:=h ax e70
   refine T_pd [] [] ?_
   obtain⟨q73,h⟩:=h
   refine fH 45 (vi u) q73 ?_
   intro bf e72
   replace h:=h bf e72
   refine T_pd [62] []<|T_e<|zx ?_
   show At _ _ _ _ _ (Q .ret)
   refine lg (fn:=f21) (ms) hQ (Shut.mono (λbd h=>?_) h)
   obtain⟨bh,q74,a9,q75,h⟩:=h
   exact⟨[vi bh,vi a9],(show cG _ _ _ [.cell 4 3,.cell 5 45] _ from .cell (by kernel_rfl) (gP (λ_=>by kernel_rfl) q74) (.cell (by kernel_rfl) (gP (λ_=>by kernel_rfl) q75) (.nil))),h⟩
  rw[if_neg c63]at h
  refine aJ 54 (zQ c63)<|zk 6<|aD<|aD<|aM<|aE<|ar 25<|T_nd 1 [0,6,51,52,53,54] [(64,vp a)]<|T_c (some 65) h ?_;clear h
  rintro bq a8 ⟨ra,rb,rfl,h⟩
  refine T_pd [64] [(65,.tuple #[vi ra,vi rb])]<|T_nd 2 [65] [(66,vi ra),(67,vi rb)] ?_
  obtain⟨q77,h⟩:=h
  refine fH 3 (vi ra) q77 ?_
  intro au e76
  replace h:=h au e76
  refine T_pd [66] [] ?_
  obtain⟨q79,h⟩:=h
  refine fH 45 (vi rb) q79 ?_
  intro be e78
  replace h:=h be e78
  refine T_pd [67] []<|T_e<|zx ?_
  show At _ _ _ _ _ (Q .ret)
  refine lg (fn:=f21) (ms) hQ (Shut.mono (λbg h=>?_) h)
  obtain⟨bc,q80,a7,q81,h⟩:=h
  exact⟨[vi bc,vi a7],(show cG _ _ _ [.cell 4 3,.cell 5 45] _ from .cell (by kernel_rfl) (gP (λ_=>by kernel_rfl) q80) (.cell (by kernel_rfl) (gP (λ_=>by kernel_rfl) q81) (.nil))),h⟩
 refine .inr ⟨_,q32,λai e84=>?_⟩
 replace h:=h ai e84
 refine kC (H6.size::[]) rfl ?_
 refine T_sd [19] []<|tR rfl ?_
 show At _ _ _ _ _ (Q .ret)
 refine lg (fn:=f21) (H6.size::[]) hQ (Shut.mono (λbk h=>?_) h)
 obtain⟨bl,q82,bb,q83,h⟩:=h
 exact⟨[vi bl,vi bb],(show cG _ _ _ [.cell 4 3,.cell 5 45] _ from .cell (by kernel_rfl) (gP (λ_=>by kernel_rfl) q82) (.cell (by kernel_rfl) (gP (λ_=>by kernel_rfl) q83) (.nil))),h⟩
end fV
/-! moraine/audit.Same.1 -/
namespace jo
def K0:=Func.code f24
end jo
def jo.pt(an r s:Int)(j:zW)(i g:Nat)(al:zW)(am ak:Nat)(t l k:Int)(d:zW)(e f:Nat)(y:zW)(z u:Nat)(H:zV)(R:zv):Prop:=
 ∀b H1,b=H.size->H1=H.push (.cells #[vi an,vi r,vu s,vs j i g,vs al am ak] 61)->
 ∀a H2,a=H1.size->H2=H1.push (.cells #[vi t,vi l,vu k,vs d e f,vs y z u] 61)->
 ∃x,hat H2 (ad b)=some (vi x)/\
 ∃ac,hat H2 (ad a)=some (vi ac)/\
 if x=ac then(
 ∃n,hat H2 ((ad b).add 1)=some (vi n)/\
 ∃aa,hat H2 ((ad a).add 1)=some (vi aa)/\
 if n=aa then(
 ∃q,hat H2 ((ad b).add 2)=some (vu q)/\
 ∃ab,hat H2 ((ad a).add 2)=some (vu ab)/\
 if q=ab then(
 ∃xB xN xC,hat H2 ((ad b).add 3)=some (vs xB xN xC)/\
 ∃ag aj ai,hat H2 ((ad a).add 3)=some (vs ag aj ai)/\
 bG.C xB xN xC ag aj ai H2 (λv H3=> ∃ao,v=.bool ao/\
 if ao=true then(
 ∃p m o,hat H3 ((ad b).add 4)=some (vs p m o)/\
 ∃ae ah af,hat H3 ((ad a).add 4)=some (vs ae ah af)/\
 cR.C p m o ae ah af H3 (λaq H4=> ∃ap,aq=.bool ap/\
 R (.bool ap) H4))
 else
 R VF H3))
 else
 R VF H2)
 else
 R VF H2)
 else
 R VF H2
namespace jo
theorem link{r s:Int}{am ak:Nat}{t l k:Int}{an:zW}{e f:Nat}{y:zW}{z u:Nat}(h:pt b r s a d i j am ak t l k an e f y z u H R):C b r s a d i j am ak t l k an e f y z u H R:=by
 refine T_en K0 38 func24 ?_
 intro w0 Q hQ
 unfold pt at h
 refine T_su [(0,.agg #[vi b,vi r,vu s,vs a d i,vs j am ak]),(1,.agg #[vi t,vi l,vu k,vs an e f,vs y z u])]<|ar 0<|T_nw (some 2) (λg=>vp (pa g)) (.cells #[vi b,vi r,vu s,vs a d i,vs j am ak] 61) ?_
 intro g H1 e1 e2
 replace h:=h g H1 e1 e2
 refine T_pd [0] [(2,vp (pa g))]<|T_nw (some 3) (λg=>vp (pa g)) (.cells #[vi t,vi l,vu k,vs an e f,vs y z u] 61) ?_
 intro al H2 e3 e4
 replace h:=h al H2 e3 e4
 refine T_pd [1] [(3,vp (pa al))]<|T_ed 1 [] []<|ar 1<|T_nd 1 [] [(5,vp (pa g))] ?_
 obtain⟨x,q5,h⟩:=h
 refine T_l1 6 3 q5 [5]<|T_nd 1 [] [(7,vp (pa al))] ?_
 obtain⟨ac,q6,h⟩:=h
 refine T_l1 8 3 q6 [7]<|T_nd 2 [6,8] [(10,.bool (x==ac))] ?_
 by_cases c7:x=ac
 ·rw[if_pos c7]at h
  refine N_bd 10 (zK c7)<|T_nd 1 [] [(11,Vq ((ad g).add 1))] ?_
  obtain⟨n,q9,h⟩:=h
  refine T_l1 12 3 q9 [11]<|T_nd 1 [] [(13,Vq ((ad al).add 1))] ?_
  obtain⟨aa,q10,h⟩:=h
  refine T_l1 14 3 q10 [13]<|T_nd 3 [10,12,14] [(17,.bool (n==aa))] ?_
  by_cases c11:n=aa
  ·rw[if_pos c11]at h
   refine N_bd 17 (zK c11)<|T_nd 1 [] [(18,Vq ((ad g).add 2))] ?_
   obtain⟨q,q13,h⟩:=h
   refine T_l1 19 35 q13 [18]<|T_nd 1 [] [(20,Vq ((ad al).add 2))] ?_
   obtain⟨ab,q14,h⟩:=h
   refine T_l1 21 35 q14 [20]<|T_nd 3 [17,19,21] [(24,.bool (q==ab))] ?_
   by_cases c15:q=ab
   ·rw[if_pos c15]at h
    refine N_bd 24 (zK c15)<|T_nd 1 [] [(25,Vq ((ad g).add 3))] ?_
    obtain⟨xB,xN,xC,q17,h⟩:=h
    refine T_l1 26 29 q17 [25]<|T_nd 1 [] [(27,Vq ((ad al).add 3))] ?_
    obtain⟨ag,aj,ai,q18,h⟩:=h
    refine T_l1 28 29 q18 [27]<|T_c (some 29) h ?_;clear h
    rintro v H3 ⟨ao,rfl,h⟩
    refine T_pd [26,28] [(29,.bool ao)]<|T_nd 2 [24,29] [(31,.bool ao)] ?_
    by_cases c19:ao=true
    ·rw[if_pos c19]at h
     refine N_bd 31 c19<|T_nd 1 [2] [(32,Vq ((ad g).add 4))] ?_
     obtain⟨p,m,o,q21,h⟩:=h
     refine T_l1 33 59 q21 [32]<|T_nd 1 [3] [(34,Vq ((ad al).add 4))] ?_
     obtain⟨ae,ah,af,q22,h⟩:=h
     refine T_l1 35 59 q22 [34]<|T_c (some 36) h ?_;clear h
     rintro aq H4 ⟨ap,rfl,h⟩
     exact T_pd [33,35] [(36,.bool ap)]<|T_nr 2 [4] [.bool ap] hQ h
    rw[if_neg c19]at h
    exact N_bd 31 (zZ c19)<|T_nr 7 [4] [VF] hQ h
   rw[if_neg c15]at h
   exact N_bd 24 (zJ c15)<|T_nr 14 [4] [VF] hQ h
  rw[if_neg c11]at h
  exact N_bd 17 (zJ c11)<|T_nr 21 [4] [VF] hQ h
 rw[if_neg c7]at h
 exact N_bd 10 (zJ c7)<|T_nr 28 [4] [VF] hQ h
end jo
/-! moraine/audit.come -/
namespace jw
def K0:=Func.code f43
def K2:=cb K0
def K4:=cb K2
def K6:=cb K4
def K8:=cb K6
def K9:=ca K8
def K10:=cb K8
def K12:=cb K9
def K13:=ca K12
def K14:=ca K13
def K26:=ca K10
def K29:=cb K26
def K30:=ca K29
def K31:=ca K30
def K33:=cb K31
def K38:=ca K33
def K40:=ca K38
def K41:=ca K40
def K42:=cb K40
def K43:=ca K42
def K44:=ca K43
def K45:=cb K43
end jw
def jw.pt(hv m:zW)(d l:Nat)(H:zV)(R:zv):Prop:=
 ∀b H1,b=H.size->H1=H.push (.cells #[vp hv] 28)->
 ∀az H2,az=H1.size->H2=H1.push (.map #[] 0)->
 ∀j H3,j=H2.size->H3=H2.push (.cells #[.map none] 100)->
 (aK H3 (ad j) 0 1)/\ ∀H4,H4=aR H3 (ad j) [.map (some az)] 0->
 ∀f H5,f=H4.size->H5=H4.push (.cells #[VN] 29)->
 ∀e H6,e=H5.size->H6=H5.push (.cells #[.nilFunc] 165)->
 (aK H6 (ad e) 0 1)/\ ∀H7,H7=aR H6 (ad e) [.func (.func 93) #[] #[Vq (ad b),Vq (ad j),Vq (ad f)]] 0->
 ∃(be:zw) (m15:Int->zV->Nat),be 0 H7/\ ∀o H8,be o H8->
 if o< (d:Int)then(
 ∃n,m=some n/\
 yZ o d/\
 ∃x,hat H8 (n.add (Int.toNat o*1))=some (vu x)/\
 ∃a9,hat H8 (ad e)=some (a9)/\
 FC prog a9 #[vu x] H8 (λ_ H9=>
 (be (zY (o+1)) H9/\m15 (zY (o+1)) H9<m15 o H8)))
 else
 ∀ap H10,ap=H8.size->H10=H8.push (.cells #[vi 0] 3)->
 (aK H10 (ad ap) 0 1)/\ ∀bh,bh=aR H10 (ad ap) [vi 0] 0->
 ∃(bb:zW->(List Nat)->zV->Prop) (m32:zW->(List Nat)->zV->Nat),bb (some (ad ap)) ([]) bh/\ ∀(i:zW) (ms:List Nat) (H12:zV),bb i ms H12->
 ∃iA,i=some iA/\
 ∃au,hat H12 iA=some (vi au)/\
 ∃xB xN xC,hat H12 (ad f)=some (vs xB xN xC)/\
 if au< (xN:Int)then(
 ∃aj,hat H12 (ad b)=some (vp aj)/\
 ∃bg ah ao,hat H12 (ad f)=some (vs bg ah ao)/\
 ∃ac,hat H12 iA=some (vi ac)/\
 ∃r,bg=some r/\
 yZ ac ah/\
 ∃a6,hat H12 (r.add (Int.toNat ac*1))=some (vu a6)/\
 bY.C aj a6 H12 (λa4 a8=>a4=a4/\
 ∀(rc:LoopState->Option Code->Obj) (lp:Nat) (H14:zV),lp=a8.size+1->H14=(a8.push (.deferred (some []))).push (rc .ready none)->
 ∀vY,(∀(p:Int) (x_9:Int) (H15:zV) (vRy:zv),H15[lp]?=some (rc .ready none)->
 (H15[lp]?=some (rc .ready none)/\ ∀ba,ba=aO H15 lp (rc .busy none)->
 ∃a3 ai ay,hat ba (ad f)=some (vs a3 ai ay)/\
 ∃y,hat ba iA=some (vi y)/\
 ∃aq,a3=some aq/\
 yZ y ai/\
 ∃a0,hat ba (aq.add (Int.toNat y*1))=some (vu a0)/\
 cS.C a0 ba (λbl a5=> ∃an,bl=vi an/\
 if an=2 then(
 ∃a2 al aw,hat a5 (ad f)=some (vs a2 al aw)/\
 ∃u,hat a5 iA=some (vi u)/\
 ∃ak,a2=some ak/\
 yZ u al/\
 ∃a1,hat a5 (ak.add (Int.toNat u*1))=some (vu a1)/\
 fI.C a1 a5 (λbn bd=> ∃am,bn=vi am/\
 if p>am then(
 ∃av,hat bd (ad e)=some (av)/\
 FC prog av #[vu x_9] bd (λ_ bk=>
 bk[lp]?=some (rc .busy none)/\
 vRy VT (aO bk lp (rc .ready none))))
 else
 bd[lp]?=some (rc .busy none)/\
 vRy VT (aO bd lp (rc .ready none))))
 else
 ∃ax,hat a5 (ad e)=some (ax)/\
 FC prog ax #[vu x_9] a5 (λ_ bj=>
 bj[lp]?=some (rc .busy none)/\
 vRy VT (aO bj lp (rc .ready none)))))->
 FC prog vY #[vi p,vu x_9] H15 vRy)->
 FE prog a4 #[vY] H14 (λ_ bi=>
 (bi[lp]?=some (rc .ready none)/\ ∀bc,bc=aO bi lp (rc .exhausted none)->
 ∃af,hat bc iA=some (vi af)/\
 ∀q H23,q=bc.size->H23=bc.push (.cells #[vi 0] 3)->
 (aK H23 (ad q) 0 1)/\ ∀a7,a7=aR H23 (ad q) [vi af] 0->
 ∃ag,hat a7 (ad q)=some (vi ag)/\
 (aK a7 (ad q) 0 1)/\ ∀bf,bf=aR a7 (ad q) [vi (zY (ag+1))] 0->
 (bb (some (ad q)) (a8.size::ms) bf/\m32 (some (ad q)) (a8.size::ms) bf<m32 i ms H12)))))
 else
 ∃aa z ab,hat H12 (ad f)=some (vs aa z ab)/\
 ∃ae,hat H12 (ad j)=some (.map ae)/\
 Shut (ms) H12 (λbm=>
 R (.tuple #[vs aa z ab,.map ae]) bm)
namespace jw
theorem link(h:pt a j d i H R):C a j d i H R:=by
 refine T_en K0 61 func43 ?_
 intro w0 Q hQ
 unfold pt zY at h
 refine T_su [(0,vp a),(1,vs j d i)]<|ar 0<|T_nw (some 2) (λb=>vp (pa b)) (.cells #[vp a] 28) ?_
 intro b H1 e1 e2
 replace h:=h b H1 e1 e2
 refine T_pd [0] [(2,vp (pa b))]<|T_ed 2 [] []<|ar 1<|T_nw (some 14) (λb=> .map (some b)) (.map #[] 0) ?_
 intro az H2 e3 e4
 replace h:=h az H2 e3 e4
 refine T_pd [] [(14,.map (some az))]<|T_nw (some 6) (λb=>vp (pa b)) (.cells #[.map none] 100) ?_
 intro hv H3 e5 e6
 replace h:=h hv H3 e5 e6
 refine T_pd [] [(6,vp (pa hv))] ?_
 obtain⟨q8,h⟩:=h
 refine fH 100 (.map (some az)) q8 ?_
 intro H4 e7
 replace h:=h H4 e7
 refine T_pd [14] []<|T_e<|ar 2<|T_nw (some 7) (λb=>vp (pa b)) (.cells #[VN] 29) ?_
 intro f H5 e9 e10
 replace h:=h f H5 e9 e10
 refine T_pd [] [(7,vp (pa f))]<|T_e<|ar 3<|T_nd 1 [] [(15,.func (.func 93) #[] #[vp (pa b),vp (pa hv),vp (pa f)])]<|T_nw (some 8) (λb=>vp (pa b)) (.cells #[.nilFunc] 165) ?_
 intro e H6 e11 e12
 replace h:=h e H6 e11 e12
 refine T_pd [] [(8,vp (pa e))] ?_
 obtain⟨q14,h⟩:=h
 refine fH 165 (.func (.func 93) #[] #[vp (pa b),vp (pa hv),vp (pa f)]) q14 ?_
 intro H7 e13
 replace h:=h H7 e13
 refine T_pd [15] []<|T_e<|T_sz<|ar 4<|T_ed 3 [1] [(16,vs j d i),(17,vi d),(18,vi 0)]<|T_bz 0 ?_
 obtain⟨be,m15,i15,i16⟩:=h
 refine bL (x:=K14) (σ:=Int) (λs_=> [(2,vp (pa b)),(6,vp (pa hv)),(7,vp (pa f)),(8,vp (pa e)),(16,vs j d i),(17,vi d),(18,vi s_)]) (λs_ H=>be s_ H) (λs_ H=>m15 s_ H) (0:Int) (by kernel_rfl) i15 sk ?_
 rintro o H8 i17
 have h:=i16 o H8 i17
 refine T_su [(2,vp (pa b)),(6,vp (pa hv)),(7,vp (pa f)),(8,vp (pa e)),(16,vs j d i),(17,vi d),(18,vi o)]<|ar 5<|T_ed 1 [] [(19,.bool (decide (o< (d:Int))))]<|T_sz ?_
 by_cases c18:o< (d:Int)
 ·rw[if_pos c18]at h
  refine aI 19 (zX c18)<|T_kt<|T_sz<|T_bz 1<|ar 6<|T_ud [19] [] ?_
  obtain⟨n,rfl,q20,h⟩:=h
  refine T_xd (some 20) 29 40 1 n d i .i64 o underlying29 q20.1 q20.2 [16] [(16,vs (some n) d i),(20,Vq (n.add (Int.toNat o*1)))] ?_
  obtain⟨x,q21,h⟩:=h
  refine T_l1 21 40 q21 [20]<|T_ed 1 [21] [(10,vu x)]<|T_rz 7 ?_
  obtain⟨a9,q22,h⟩:=h
  refine T_l1 22 165 q22 []<|T_nd 1 [10] [(23,vu x)]<|l9 (some 24) a9 #[vu x] (λ_=>by kernel_rfl) h ?_;clear h
  intro v H9 h
  exact T_pd [22,23] []<|zq<|aA<|aE<|T_rz 8<|T_ed 2 [18] [(18,vi (zY (o+1)))]<|aS ((zY (o+1)):Int) sk h
 rw[if_neg c18]at h
 refine aJ 19 (zQ c18)<|zk 0<|aD<|aD<|aM<|aE<|T_sz<|ar 9<|T_ud [16,17,18,19] []<|T_nw (some 11) (λb=>vp (pa b)) (.cells #[vi 0] 3) ?_
 intro ap H10 e23 e24
 replace h:=h ap H10 e23 e24
 refine T_pd [] [(11,vp (pa ap))] ?_
 obtain⟨q26,h⟩:=h
 refine fH 3 (vi 0) q26 ?_
 intro bh e25
 replace h:=h bh e25
 refine T_pd [] []<|T_e<|T_bz 2 ?_
 obtain⟨bb,m32,i27,i28⟩:=h
 refine rm (x:=K31) (σ:=zW×(List Nat)) (λs_=> [(2,vp (pa b)),(6,vp (pa hv)),(7,vp (pa f)),(8,vp (pa e)),(11,vp s_.1)]) (λs_=>s_.2) (λs_ H=>bb s_.1 s_.2 H) (λs_ H=>m32 s_.1 s_.2 H) (((pa ap),([])):zW×(List Nat)) (by kernel_rfl) i27 sk ?_
 rintro⟨m,ms⟩ H12 i29
 have h:=i28 m ms H12 i29
 refine T_su [(2,vp (pa b)),(6,vp (pa hv)),(7,vp (pa f)),(8,vp (pa e)),(11,vp m)]<|T_sz<|ar 10 ?_
 obtain⟨iA,rfl,au,q30,h⟩:=h
 refine T_ld (some 26) 3 q30 [11] [(11,Vq iA),(26,vi au)] ?_
 obtain⟨xB,xN,xC,q31,h⟩:=h
 refine T_l1 27 29 q31 []<|T_ed 2 [26,27] [(29,.bool (decide (au< (xN:Int))))] ?_
 by_cases c32:au< (xN:Int)
 ·rw[if_pos c32]at h
  refine aI 29 (zX c32)<|T_kt<|T_sz<|T_bz 3<|T_sz ?_
  obtain⟨aj,q34,bg,ah,ao,q35,ac,q36,r,rfl,q37,a6,q38,h⟩:=h
  refine yq 12 (Code.ops K41) [(5,(ad b),[vp aj]),(5,(ad f),[vs (some r) ah ao]),(5,iA,[vi ac]),(5,(r.add (Int.toNat ac*1)),[vu a6])] 6 (bv 6 0) (show aF _ _ _ from⟨⟨q34,trivial⟩,⟨q35,trivial⟩,⟨q36,trivial⟩,⟨q38,trivial⟩,trivial⟩)<|T_g 0 (some 32) (vp aj) (bv 6 1) [(2,vp (pa b)),(6,vp (pa hv)),(7,vp (pa f)),(8,vp (pa e)),(11,vp (some iA)),(32,vp aj)] (aU 28 (vp (pa b))) (yY 5 yX)<|T_g1 1 33 (vs (some r) ah ao) (bv 6 3) [] (aU 29 (vp (pa f))) (yY 5 yQ)<|T_g1 2 34 (vi ac) (bv 6 7) [] (aU 3 (vp (some iA))) (yY 5 yJ)<|T_g1 3 35 (vp (some (r.add (Int.toNat ac*1)))) (bv 6 15) [33,34] (bK 29 (vs (some r) ah ao) (vi ac)) (λ_ w _ _ _=>dY (P:=prog) (t:=29) (elem:=40) (sz:=1) (a:=r) (len:=ah) (cap:=ao) (k:=.i64) (i:=ac) underlying29 (λ_=>by kernel_rfl) q37.1 q37.2 w)<|T_g1 4 36 (vu a6) (bv 6 31) [35] (aU 40 (vp (some (r.add (Int.toNat ac*1))))) (yY 5 yK)<|yx 5 (some 37) (bv 6 63) 49 #[vp aj,vu a6] h ?_;clear h
  rintro a4 a8 ⟨-,h⟩
  refine⟨[(2,vp (pa b)),(6,vp (pa hv)),(7,vp (pa f)),(8,vp (pa e)),(11,Vq iA),(37,a4)],pk,(show aF _ _ _ from⟨trivial,trivial,trivial,trivial,trivial⟩),?_⟩
  refine fU [(2,vp (pa b)),(6,vp (pa hv)),(7,vp (pa f)),(8,vp (pa e)),(11,Vq iA),(37,a4)] sk ?_
  refine yz<|aE<|T_bz 4<|lk (g:=.tmp 37) (ps:= #[38,39]) (assign:=K44) (body:=K45) (a4) (by kernel_rfl) (by kernel_rfl) (by kernel_rfl) ?_
  intro rc lp H14 r39 e40 e41 y42
  refine FE.mono (h rc lp H14 e40 e41 (.func (.yield lp) #[] #[]) ?_) ?_
  ·clear h
   intro p x_9 H15 vRy q43 h
   refine y42 #[vi p,vu x_9] H15 vRy (by kernel_rfl) q43 (λw1x=>?_)
   refine T_su [(2,vp (pa b)),(6,vp (pa hv)),(7,vp (pa f)),(8,vp (pa e)),(11,Vq iA),(37,a4),(38,vi p),(39,vu x_9)]<|ar 13<|T_ed 1 [2,6,37,38] [(12,vi p)]<|T_rz 14<|T_nd 1 [39] [(13,vu x_9)]<|zq ?_
   obtain⟨q45,h⟩:=h
   refine aE<|lj r39 q45 ?_
   intro ba e44
   replace h:=h ba e44
   refine T_bz 5<|ar 15 ?_
   obtain⟨a3,ai,ay,q46,h⟩:=h
   refine T_l1 40 29 q46 [] ?_
   obtain⟨y,q47,h⟩:=h
   refine T_l1 41 3 q47 [] ?_
   obtain⟨aq,rfl,q48,h⟩:=h
   refine T_xd (some 42) 29 40 1 aq ai ay .i64 y underlying29 q48.1 q48.2 [40,41] [(42,Vq (aq.add (Int.toNat y*1)))] ?_
   obtain⟨a0,q49,h⟩:=h
   refine T_l1 43 40 q49 [42]<|T_c (some 44) h ?_;clear h
   rintro bl a5 ⟨an,rfl,h⟩
   refine T_pd [43] [(44,vi an)]<|T_nd 2 [44] [(46,.bool (an !=2))] ?_
   by_cases c50:an=2
   ·rw[if_pos c50]at h
    refine N_bd 46 (bne_eq_false_iff_eq.mpr c50)<|T_nd 1 [12] [(47,vi p)] ?_
    obtain⟨a2,al,aw,q52,h⟩:=h
    refine T_l1 48 29 q52 [7] ?_
    obtain⟨u,q53,h⟩:=h
    refine T_l1 49 3 q53 [11] ?_
    obtain⟨ak,rfl,q54,h⟩:=h
    refine T_xd (some 50) 29 40 1 ak al aw .i64 u underlying29 q54.1 q54.2 [48,49] [(50,Vq (ak.add (Int.toNat u*1)))] ?_
    obtain⟨a1,q55,h⟩:=h
    refine T_l1 51 40 q55 [50]<|T_c (some 52) h ?_;clear h
    rintro bn bd ⟨am,rfl,h⟩
    refine T_pd [51] [(52,vi am)]<|T_ed 2 [46,47,52] [(54,.bool (decide (p>am)))] ?_
    by_cases c56:p>am
    ·rw[if_pos c56]at h
     refine aI 54 (zX c56)<|T_rz 16<|T_ud [54] [] ?_
     obtain⟨av,q58,h⟩:=h
     refine T_l1 55 165 q58 [8]<|T_nd 1 [13] [(56,vu x_9)]<|l9 (some 57) av #[vu x_9] (λ_=>by kernel_rfl) h ?_;clear h
     intro v_5 bk h
     refine⟨[],pk,?_⟩
     refine zq<|aA ?_
     obtain⟨q59,h⟩:=h
     exact cF r39 q59 h
    rw[if_neg c56]at h
    refine aJ 54 (zQ c56)<|T_k<|aA ?_
    obtain⟨q60,h⟩:=h
    exact cF r39 q60 h
   rw[if_neg c50]at h
   refine N_bd 46 (bne_iff_ne.mpr c50)<|T_ed 8 [7,11,12,46] [(54,VT)]<|T_tz 54<|T_rz 16<|T_ud [54] [] ?_
   obtain⟨ax,q61,h⟩:=h
   refine T_l1 55 165 q61 [8]<|T_nd 1 [13] [(56,vu x_9)]<|l9 (some 57) ax #[vu x_9] (λ_=>by kernel_rfl) h ?_;clear h
   intro v_6 bj h
   refine⟨[],pk,?_⟩
   refine zq<|aA ?_
   obtain⟨q62,h⟩:=h
   exact cF r39 q62 h
  clear h y42
  rintro _ bi (⟨q63,h⟩)
  refine .inl ⟨q63,λbc e72=>?_⟩
  replace h:=h bc e72
  refine kC (a8.size::ms) rfl ?_
  refine T_su [(2,vp (pa b)),(6,vp (pa hv)),(7,vp (pa f)),(8,vp (pa e)),(11,Vq iA)]<|aA<|aA<|aE<|T_sz<|ar 17 ?_
  obtain⟨af,q64,h⟩:=h
  refine T_l1 58 3 q64 [11]<|T_e<|T_rz 18<|T_nw (some 11) (λb=>vp (pa b)) (.cells #[vi 0] 3) ?_
  intro q H23 e65 e66
  replace h:=h q H23 e65 e66
  refine T_pd [] [(11,vp (pa q))] ?_
  obtain⟨q68,h⟩:=h
  refine fH 3 (vi af) q68 ?_
  intro a7 e67
  replace h:=h a7 e67
  refine T_pd [58] []<|T_e<|T_rz 11 ?_
  obtain⟨ag,q69,h⟩:=h
  refine T_l1 30 3 q69 []<|T_nd 1 [30] [(31,vi (zY (ag+1)))] ?_
  obtain⟨q71,h⟩:=h
  refine fH 3 (vi (zY (ag+1))) q71 ?_
  intro bf e70
  replace h:=h bf e70
  exact T_pd [31] []<|T_e<|lR (mk:=(λs_=>s_.2)) (I:=(λs_ H=>bb s_.1 s_.2 H)) (μ:=(λs_ H=>m32 s_.1 s_.2 H)) (s:=(_,_)) (((pa q),(a8.size::ms)):zW×(List Nat)) sk h
 rw[if_neg c32]at h
 refine aJ 29 (zQ c32)<|zk 2<|aD<|aD<|aM<|aE<|T_sz<|oJ 19 ?_
 obtain⟨aa,z,ab,q73,h⟩:=h
 refine T_ql (some 59) 29 q73 [(6,vp (pa hv)),(59,vs aa z ab)] ?_
 obtain⟨ae,q74,h⟩:=h
 refine nh (some 60) 100 q74 [6] [(60,.map ae)]<|T_q1 4 (vs aa z ab) [59]<|T_q1 5 (.map ae) [60]<|mv [(4,vs aa z ab),(5,.map ae)] sk<|T_qe<|zx ?_
 show At _ _ _ _ _ (Q .ret)
 refine lg (fn:=f43) (ms) hQ (Shut.mono (λbm h=>?_) h)
 exact⟨[vs aa z ab,.map ae],(show cG _ _ _ [.tmp 4,.tmp 5] _ from .tmp (by kernel_rfl) (.tmp (by kernel_rfl) (.nil))),h⟩
end jw
/-! moraine/audit.put -/
namespace bA
def K0:=Func.code f45
end bA
def bA.pt(nv:zW)(wv d:Int)(H:zV)(R:zv):Prop:=
 if d=0 then(
 ∃e,nv=some e/\
 ∃xB xN xC,hat H (e.add 3)=some (vs xB xN xC)/\
 ∀b H1,b=H.size->H1=H.push (.cells #[vu wv] 40)->
 bR 1 40 8 [vu 0] xB xN xC (some (ad b)) 1 H1 (λap v H2=>
 (aK H2 (e.add 3) 0 1)/\ ∀H3,H3=aR H2 (e.add 3) [vs ap (xN+1) v] 0->
 ∃o i r,hat H3 (e.add 4)=some (vs o i r)/\
 ∀x H4,x=H3.size->H4=H3.push (.cells #[vi d] 3)->
 bR 1 3 8 [vi 0] o i r (some (ad x)) 1 H4 (λs l H5=>
 (aK H5 (e.add 4) 0 1)/\ ∀H6,H6=aR H5 (e.add 4) [vs s (i+1) l] 0->
 R (.tuple #[]) H6)))
 else
 ∃a,nv=some a/\
 ∃q f p,hat H (a.add 3)=some (vs q f p)/\
 ∀z H7,z=H.size->H7=H.push (.cells #[vu 0] 40)->
 bR 1 40 8 [vu 0] q f p (some (ad z)) 1 H7 (λu j H8=>
 (aK H8 (a.add 3) 0 1)/\ ∀H9,H9=aR H8 (a.add 3) [vs u (f+1) j] 0->
 ∃m g n,hat H9 (a.add 4)=some (vs m g n)/\
 ∀y H10,y=H9.size->H10=H9.push (.cells #[vi d] 3)->
 bR 1 3 8 [vi 0] m g n (some (ad y)) 1 H10 (λt k ab=>
 (aK ab (a.add 4) 0 1)/\ ∀aa,aa=aR ab (a.add 4) [vs t (g+1) k] 0->
 R (.tuple #[]) aa))
namespace bA
theorem link{d:Int}(h:pt a b d H R):C a b d H R:=by
 refine T_en K0 28 func45 ?_
 intro w0 Q hQ
 unfold pt at h
 refine T_su [(0,vp a),(1,vu b),(2,vi d)]<|T_sz<|ar 0<|T_ed 2 [] [(7,.bool (d !=0))] ?_
 by_cases c1:d=0
 ·rw[if_pos c1]at h
  refine aJ 7 (bne_eq_false_iff_eq.mpr c1)<|T_kt<|ar 2<|T_nd 2 [7] [(8,vp a),(9,vp a)] ?_
  obtain⟨e,rfl,h⟩:=h
  refine T_nd 2 [0,8,9] [(0,Vq e),(8,Vq e),(11,Vq (e.add 3))] ?_
  obtain⟨xB,xN,xC,q3,h⟩:=h
  refine T_l1 12 29 q3 [11]<|T_nd 1 [1] [(13,vu b)]<|T_nw (some 14) (λnv=>vs (pa nv) 1 1) (.cells #[vu b] 40) ?_
  intro nv H1 e4 e5
  replace h:=h nv H1 e4 e5
  refine T_pd [13] [(14,vs (pa nv) 1 1)]<|N_op (some 15) (cJ #[29,29] 29 #[vs xB xN xC,vs (pa nv) 1 1]) _ (λ_=>by kernel_rfl) (bQ (T:=40) (sz:=1) (bytes:=8) (zero:=(vu 0:Value)) underlying29 underlying29 rfl (show prog.info? 40=some t40 from by kernel_rfl) (by kernel_rfl) (by kernel_rfl) (by decide) (by kernel_rfl) (by first | exact h | (simpa only[Value.cells,List.toList_toArray]using h))) ?_;clear h
  rintro _ H2 ⟨ap,v,rfl,h⟩
  refine T_pd [12,14] [(15,vs ap (xN+1) v)]<|T_nd 2 [8] [(17,Vq (e.add 3))] ?_
  obtain⟨q7,h⟩:=h
  refine fH 29 (vs ap (xN+1) v) q7 ?_
  intro H3 e6
  replace h:=h H3 e6
  refine T_pd [15,17] []<|T_e<|T_rz 3<|T_nd 4 [0] [(18,Vq e),(21,Vq (e.add 4))] ?_
  obtain⟨o,i,r,q8,h⟩:=h
  refine T_l1 22 59 q8 [21]<|T_nd 1 [2] [(23,vi d)]<|T_nw (some 24) (λnv=>vs (pa nv) 1 1) (.cells #[vi d] 3) ?_
  intro x H4 e9 e10
  replace h:=h x H4 e9 e10
  refine T_pd [23] [(24,vs (pa x) 1 1)]<|N_op (some 25) (cJ #[59,59] 59 #[vs o i r,vs (pa x) 1 1]) _ (λ_=>by kernel_rfl) (bQ (T:=3) (sz:=1) (bytes:=8) (zero:=(vi 0:Value)) underlying59 underlying59 rfl (show prog.info? 3=some t3 from by kernel_rfl) (by kernel_rfl) (by kernel_rfl) (by decide) (by kernel_rfl) (by first | exact h | (simpa only[Value.cells,List.toList_toArray]using h))) ?_;clear h
  rintro _ H5 ⟨s,l,rfl,h⟩
  refine T_pd [22,24] [(25,vs s (i+1) l)]<|T_nd 2 [18] [(27,Vq (e.add 4))] ?_
  obtain⟨q12,h⟩:=h
  refine fH 59 (vs s (i+1) l) q12 ?_
  intro H6 e11
  replace h:=h H6 e11
  refine⟨[],pk,?_⟩
  exact zq<|iG (fn:=f45) [] hQ (show cG _ _ _ [] _ from .nil) h
 rw[if_neg c1]at h
 refine aI 7 (bne_iff_ne.mpr c1)<|T_rz 1<|T_ed 1 [1,7] [(1,vu 0)]<|ar 2<|T_nd 2 [] [(8,vp a),(9,vp a)] ?_
 obtain⟨wv,rfl,h⟩:=h
 refine T_nd 2 [0,8,9] [(0,Vq wv),(8,Vq wv),(11,Vq (wv.add 3))] ?_
 obtain⟨q,f,p,q13,h⟩:=h
 refine T_l1 12 29 q13 [11]<|T_nd 1 [1] [(13,vu 0)]<|T_nw (some 14) (λnv=>vs (pa nv) 1 1) (.cells #[vu 0] 40) ?_
 intro z H7 e14 e15
 replace h:=h z H7 e14 e15
 refine T_pd [13] [(14,vs (pa z) 1 1)]<|N_op (some 15) (cJ #[29,29] 29 #[vs q f p,vs (pa z) 1 1]) _ (λ_=>by kernel_rfl) (bQ (T:=40) (sz:=1) (bytes:=8) (zero:=(vu 0:Value)) underlying29 underlying29 rfl (show prog.info? 40=some t40 from by kernel_rfl) (by kernel_rfl) (by kernel_rfl) (by decide) (by kernel_rfl) (by first | exact h | (simpa only[Value.cells,List.toList_toArray]using h))) ?_;clear h
 rintro _ H8 ⟨u,j,rfl,h⟩
 refine T_pd [12,14] [(15,vs u (f+1) j)]<|T_nd 2 [8] [(17,Vq (wv.add 3))] ?_
 obtain⟨q17,h⟩:=h
 refine fH 29 (vs u (f+1) j) q17 ?_
 intro H9 e16
 replace h:=h H9 e16
 refine T_pd [15,17] []<|T_e<|T_rz 3<|T_nd 4 [0] [(18,Vq wv),(21,Vq (wv.add 4))] ?_
 obtain⟨m,g,n,q18,h⟩:=h
 refine T_l1 22 59 q18 [21]<|T_nd 1 [2] [(23,vi d)]<|T_nw (some 24) (λnv=>vs (pa nv) 1 1) (.cells #[vi d] 3) ?_
 intro y H10 e19 e20
 replace h:=h y H10 e19 e20
 refine T_pd [23] [(24,vs (pa y) 1 1)]<|N_op (some 25) (cJ #[59,59] 59 #[vs m g n,vs (pa y) 1 1]) _ (λ_=>by kernel_rfl) (bQ (T:=3) (sz:=1) (bytes:=8) (zero:=(vi 0:Value)) underlying59 underlying59 rfl (show prog.info? 3=some t3 from by kernel_rfl) (by kernel_rfl) (by kernel_rfl) (by decide) (by kernel_rfl) (by first | exact h | (simpa only[Value.cells,List.toList_toArray]using h))) ?_;clear h
 rintro _ ab ⟨t,k,rfl,h⟩
 refine T_pd [22,24] [(25,vs t (g+1) k)]<|T_nd 2 [18] [(27,Vq (wv.add 4))] ?_
 obtain⟨q22,h⟩:=h
 refine fH 59 (vs t (g+1) k) q22 ?_
 intro aa e21
 replace h:=h aa e21
 refine⟨[],pk,?_⟩
 exact zq<|iG (fn:=f45) [] hQ (show cG _ _ _ [] _ from .nil) h
end bA
/-! moraine/audit.fields -/
namespace bY
def K0:=Func.code f49
end bY
def bY.pt(hv:zW)(wv:Int)(H:zV)(R:zv):Prop:=
 ∀b H1,b=H.size->H1=H.push (.cells #[vp hv] 28)->
 ∀a H2,a=H1.size->H2=H1.push (.cells #[vu wv] 40)->
 R (.func (.func 97) #[] #[Vq (ad b),Vq (ad a)]) H2
namespace bY
theorem link(h:pt a b H R):C a b H R:=by
 refine T_en K0 6 func49 ?_
 intro w0 Q hQ
 unfold pt at h
 refine T_su [(0,vp a),(1,vu b)]<|ar 0<|T_nw (some 2) (λhv=>vp (pa hv)) (.cells #[vp a] 28) ?_
 intro hv H1 e1 e2
 replace h:=h hv H1 e1 e2
 refine T_pd [0] [(2,vp (pa hv))]<|T_nw (some 3) (λhv=>vp (pa hv)) (.cells #[vu b] 40) ?_
 intro wv H2 e3 e4
 replace h:=h wv H2 e3 e4
 exact T_pd [1] [(3,vp (pa wv))]<|T_ed 1 [] []<|ar 1<|T_nr 2 [4] [.func (.func 97) #[] #[vp (pa hv),vp (pa wv)]] hQ h
end bY
/-! moraine/audit.at -/
namespace fI
def K0:=Func.code f50
end fI
def fI.pt(wv:Int)(H:zV)(R:zv):Prop:=
 gR.C wv H (λv H1=> ∃ra rb,v=.tuple #[vi ra,.bool rb]/\
 R (vi ra) H1)
namespace fI
theorem link(h:pt b H R):C b H R:=by
 refine T_en K0 11 func50 ?_
 intro w0 Q hQ
 unfold pt at h
 refine T_su [(0,vu b)]<|ar 0<|T_ed 1 [] []<|ar 1<|T_n 1 [(6,vu b)]<|T_c (some 7) h ?_;clear h
 rintro v H1 ⟨ra,rb,rfl,h⟩
 refine⟨[(7,.tuple #[vi ra,.bool rb])],pk,?_⟩
 exact T_ne 5 [(3,vi ra)]<|ar 2<|T_nr 2 [2] [vi ra] hQ h
end fI
/-! moraine/audit.things -/
namespace fP
def K0:=Func.code f55
end fP
def fP.pt(hv:zW)(H:zV)(R:zv):Prop:=
 ∀b H1,b=H.size->H1=H.push (.cells #[vp hv] 28)->
 R (.func (.func 101) #[] #[Vq (ad b)]) H1
namespace fP
theorem link(h:pt a H R):C a H R:=by
 refine T_en K0 4 func55 ?_
 intro w0 Q hQ
 unfold pt at h
 refine T_su [(0,vp a)]<|ar 0<|T_nw (some 1) (λb=>vp (pa b)) (.cells #[vp a] 28) ?_
 intro b H1 e1 e2
 replace h:=h b H1 e1 e2
 refine⟨[(1,vp (pa b))],pk,?_⟩
 exact T_ed 1 [] []<|ar 1<|T_nr 2 [2] [.func (.func 101) #[] #[vp (pa b)]] hQ h
end fP
/-! moraine/audit.fault -/
namespace fW
def K0:=Func.code f56
end fW
def fW.pt(wv:Int)(a:Option Nat)(H:zV)(R:zv):Prop:=
 cS.C wv H (λv H1=> ∃x,v=vi x/\
 if x=5 then(
 R (vi 1) H1)
 else
 if x=6 then(
 R (vi 1) H1)
 else
 if x=1 then(
 eM.C wv H1 (λah H2=> ∃p,ah=.bool p/\
 if p=true then(
 ∃mr,a=some mr/\
 ∃es cl ks,H2[mr]?=some (.map es cl)/\Ents (bF .u64) es.toList ks/\
 ∃m,(mget ks wv).getD (vi 0)=vi m/\
 if m=0 then(
 R (vi 18) H2)
 else
 eM.C wv H2 (λaf H3=> ∃i,af=.bool i/\
 if i=true then(
 R (vi 0) H3)
 else
 R (vi 1) H3))
 else
 eM.C wv H2 (λag H4=> ∃k,ag=.bool k/\
 if k=true then(
 R (vi 0) H4)
 else
 R (vi 1) H4)))
 else
 if x=2 then(
 eM.C wv H1 (λac H5=> ∃o,ac=.bool o/\
 if o=true then(
 ∃r,a=some r/\
 ∃t cl_2 ks_2,H5[r]?=some (.map t cl_2)/\Ents (bF .u64) t.toList ks_2/\
 ∃n,(mget ks_2 wv).getD (vi 0)=vi n/\
 if n=0 then(
 R (vi 18) H5)
 else
 eM.C wv H5 (λaj H6=> ∃l,aj=.bool l/\
 if l=true then(
 R (vi 0) H6)
 else
 R (vi 1) H6))
 else
 eM.C wv H5 (λai H7=> ∃j,ai=.bool j/\
 if j=true then(
 R (vi 0) H7)
 else
 R (vi 1) H7)))
 else
 if x=3 then(
 eM.C wv H1 (λak H8=> ∃g,ak=.bool g/\
 if g=true then(
 ∃q,a=some q/\
 ∃s cl_3 ks_3,H8[q]?=some (.map s cl_3)/\Ents (bF .u64) s.toList ks_3/\
 ∃f,(mget ks_3 wv).getD (vi 0)=vi f/\
 if f=0 then(
 R (vi 18) H8)
 else
 eM.C wv H8 (λae H9=> ∃e,ae=.bool e/\
 if e=true then(
 R (vi 0) H9)
 else
 R (vi 1) H9))
 else
 eM.C wv H8 (λy u=> ∃b,y=.bool b/\
 if b=true then(
 R (vi 0) u)
 else
 R (vi 1) u)))
 else
 eM.C wv H1 (λaa ab=> ∃d,aa=.bool d/\
 if d=true then(
 R (vi 0) ab)
 else
 R (vi 1) ab))
namespace fW
theorem link{a:Option Nat}(h:pt b a H R):C b a H R:=by
 refine T_en K0 25 func56 ?_
 intro w0 Q hQ
 unfold pt at h
 refine T_su [(0,vu b),(1,.map a)]<|ar 0<|T_ed 1 [] []<|T_sz<|ar 1<|T_nd 1 [] [(5,vu b)]<|T_c (some 6) h ?_;clear h
 rintro v H1 ⟨x,rfl,h⟩
 refine T_pd [5] [(6,vi x)]<|T_e<|T_bz 0<|T_sz<|ar 2<|T_ed 2 [] [(7,.bool (x==5))] ?_
 by_cases c1:x=5
 ·rw[if_pos c1]at h
  exact S_bd 7 (zK c1)<|T_tz 7<|T_kt<|T_tz 7<|ar 4<|T_nr 1 [4] [vi 1] hQ h
 rw[if_neg c1]at h
 refine S_bd 7 (zJ c1)<|T_fz 7<|T_rz 3<|T_ed 2 [7] [(7,.bool (x==6))] ?_
 by_cases c3:x=6
 ·rw[if_pos c3]at h
  exact aI 7 (zK c3)<|ar 4<|T_nr 1 [4] [vi 1] hQ h
 rw[if_neg c3]at h
 refine aJ 7 (zJ c3)<|T_sz<|ar 5<|T_ed 2 [7] [(10,.bool (x==1))] ?_
 by_cases c5:x=1
 ·rw[if_pos c5]at h
  refine S_bd 10 (zK c5)<|T_tz 10<|T_kt<|T_tz 10<|ar 8<|T_nd 1 [6,10] [(14,vu b)] ?_
  refine T_c (some 15) h ?_;clear h
  rintro ah H2 ⟨p,rfl,h⟩
  refine T_pd [14] [(15,.bool p)]<|T_nd 1 [15] [(16,.bool p)] ?_
  by_cases c7:p=true
  ·rw[if_pos c7]at h
   refine N_bd 16 c7<|T_nd 2 [1] [(17,.map a),(18,vu b)] ?_
   obtain⟨mr,rfl,es,cl,ks,q9,q10,m,e16,h⟩:=h
   refine T_v1 19 (jU 100 (.map (some mr)) (vu b) false) (vi m) (λw hw=>(iI (kk:=(bF .u64)) (z:=vi 0) underlying100 underlying40 (λ_=>by kernel_rfl) (by rw[hw];exact q9) q10 false).trans (by simp only[if_true,Bool.false_eq_true,if_false,e16])) [17,18]<|T_ed 2 [16,19] [(21,.bool (m==0))] ?_
   by_cases c12:m=0
   ·rw[if_pos c12]at h
    exact aI 21 (zK c12)<|ar 9<|T_nr 1 [4] [vi 18] hQ h
   rw[if_neg c12]at h
   refine aJ 21 (zJ c12)<|T_k<|aA<|aE<|T_sz<|ar 10<|T_n 1 [(22,vu b)]<|T_c (some 23) h ?_;clear h
   rintro af H3 ⟨i,rfl,h⟩
   refine⟨[(23,.bool i)],pk,?_⟩
   refine T_ne 1 [(24,.bool (!i))] ?_
   by_cases c14:i=true
   ·rw[if_pos c14]at h
    exact aJ 24 (congrArg Bool.not (c14))<|T_kt<|ar 12<|T_nr 1 [4] [vi 0] hQ h
   rw[if_neg c14]at h
   exact aI 24 (congrArg Bool.not (zZ c14))<|ar 11<|T_nr 1 [4] [vi 1] hQ h
  rw[if_neg c7]at h
  refine N_bd 16 (zZ c7)<|T_ed 5 [1,16] [(21,VF)]<|T_fz 21<|T_k ?_
  refine aA<|aE<|T_sz<|ar 10<|T_n 1 [(22,vu b)]<|T_c (some 23) h ?_;clear h
  rintro ag H4 ⟨k,rfl,h⟩
  refine⟨[(23,.bool k)],pk,?_⟩
  refine T_ne 1 [(24,.bool (!k))] ?_
  by_cases c18:k=true
  ·rw[if_pos c18]at h
   exact aJ 24 (congrArg Bool.not (c18))<|T_kt<|ar 12<|T_nr 1 [4] [vi 0] hQ h
  rw[if_neg c18]at h
  exact aI 24 (congrArg Bool.not (zZ c18))<|ar 11<|T_nr 1 [4] [vi 1] hQ h
 rw[if_neg c5]at h
 refine S_bd 10 (zJ c5)<|T_fz 10<|ar 6<|T_ed 2 [10] [(10,.bool (x==2))] ?_
 by_cases c20:x=2
 ·rw[if_pos c20]at h
  refine S_bd 10 (zK c20)<|T_tz 10<|T_kt<|T_tz 10<|ar 8<|T_nd 1 [6,10] [(14,vu b)] ?_
  refine T_c (some 15) h ?_;clear h
  rintro ac H5 ⟨o,rfl,h⟩
  refine T_pd [14] [(15,.bool o)]<|T_nd 1 [15] [(16,.bool o)] ?_
  by_cases c22:o=true
  ·rw[if_pos c22]at h
   refine N_bd 16 c22<|T_nd 2 [1] [(17,.map a),(18,vu b)] ?_
   obtain⟨r,rfl,t,cl_2,ks_2,q24,q25,n,e31,h⟩:=h
   refine T_v1 19 (jU 100 (.map (some r)) (vu b) false) (vi n) (λw hw=>(iI (kk:=(bF .u64)) (z:=vi 0) underlying100 underlying40 (λ_=>by kernel_rfl) (by rw[hw];exact q24) q25 false).trans (by simp only[if_true,Bool.false_eq_true,if_false,e31])) [17,18]<|T_ed 2 [16,19] [(21,.bool (n==0))] ?_
   by_cases c27:n=0
   ·rw[if_pos c27]at h
    exact aI 21 (zK c27)<|ar 9<|T_nr 1 [4] [vi 18] hQ h
   rw[if_neg c27]at h
   refine aJ 21 (zJ c27)<|T_k<|aA<|aE<|T_sz<|ar 10<|T_n 1 [(22,vu b)]<|T_c (some 23) h ?_;clear h
   rintro aj H6 ⟨l,rfl,h⟩
   refine⟨[(23,.bool l)],pk,?_⟩
   refine T_ne 1 [(24,.bool (!l))] ?_
   by_cases c29:l=true
   ·rw[if_pos c29]at h
    exact aJ 24 (congrArg Bool.not (c29))<|T_kt<|ar 12<|T_nr 1 [4] [vi 0] hQ h
   rw[if_neg c29]at h
   exact aI 24 (congrArg Bool.not (zZ c29))<|ar 11<|T_nr 1 [4] [vi 1] hQ h
  rw[if_neg c22]at h
  refine N_bd 16 (zZ c22)<|T_ed 5 [1,16] [(21,VF)]<|T_fz 21<|T_k ?_
  refine aA<|aE<|T_sz<|ar 10<|T_n 1 [(22,vu b)]<|T_c (some 23) h ?_;clear h
  rintro ai H7 ⟨j,rfl,h⟩
  refine⟨[(23,.bool j)],pk,?_⟩
  refine T_ne 1 [(24,.bool (!j))] ?_
  by_cases c33:j=true
  ·rw[if_pos c33]at h
   exact aJ 24 (congrArg Bool.not (c33))<|T_kt<|ar 12<|T_nr 1 [4] [vi 0] hQ h
  rw[if_neg c33]at h
  exact aI 24 (congrArg Bool.not (zZ c33))<|ar 11<|T_nr 1 [4] [vi 1] hQ h
 rw[if_neg c20]at h
 refine S_bd 10 (zJ c20)<|T_fz 10<|T_rz 7<|T_ed 2 [6,10] [(10,.bool (x==3))] ?_
 by_cases c35:x=3
 ·rw[if_pos c35]at h
  refine aI 10 (zK c35)<|ar 8<|T_nd 1 [10] [(14,vu b)]<|T_c (some 15) h ?_;clear h
  rintro ak H8 ⟨g,rfl,h⟩
  refine T_pd [14] [(15,.bool g)]<|T_nd 1 [15] [(16,.bool g)] ?_
  by_cases c37:g=true
  ·rw[if_pos c37]at h
   refine N_bd 16 c37<|T_nd 2 [1] [(17,.map a),(18,vu b)] ?_
   obtain⟨q,rfl,s,cl_3,ks_3,q39,q40,f,e46,h⟩:=h
   refine T_v1 19 (jU 100 (.map (some q)) (vu b) false) (vi f) (λw hw=>(iI (kk:=(bF .u64)) (z:=vi 0) underlying100 underlying40 (λ_=>by kernel_rfl) (by rw[hw];exact q39) q40 false).trans (by simp only[if_true,Bool.false_eq_true,if_false,e46])) [17,18]<|T_ed 2 [16,19] [(21,.bool (f==0))] ?_
   by_cases c42:f=0
   ·rw[if_pos c42]at h
    exact aI 21 (zK c42)<|ar 9<|T_nr 1 [4] [vi 18] hQ h
   rw[if_neg c42]at h
   refine aJ 21 (zJ c42)<|T_k<|aA<|aE<|T_sz<|ar 10<|T_n 1 [(22,vu b)]<|T_c (some 23) h ?_;clear h
   rintro ae H9 ⟨e,rfl,h⟩
   refine⟨[(23,.bool e)],pk,?_⟩
   refine T_ne 1 [(24,.bool (!e))] ?_
   by_cases c44:e=true
   ·rw[if_pos c44]at h
    exact aJ 24 (congrArg Bool.not (c44))<|T_kt<|ar 12<|T_nr 1 [4] [vi 0] hQ h
   rw[if_neg c44]at h
   exact aI 24 (congrArg Bool.not (zZ c44))<|ar 11<|T_nr 1 [4] [vi 1] hQ h
  rw[if_neg c37]at h
  refine N_bd 16 (zZ c37)<|T_ed 5 [1,16] [(21,VF)]<|T_fz 21<|T_k ?_
  refine aA<|aE<|T_sz<|ar 10<|T_n 1 [(22,vu b)]<|T_c (some 23) h ?_;clear h
  rintro y u ⟨wv,rfl,h⟩
  refine⟨[(23,.bool wv)],pk,?_⟩
  refine T_ne 1 [(24,.bool (!wv))] ?_
  by_cases c48:wv=true
  ·rw[if_pos c48]at h
   exact aJ 24 (congrArg Bool.not (c48))<|T_kt<|ar 12<|T_nr 1 [4] [vi 0] hQ h
  rw[if_neg c48]at h
  exact aI 24 (congrArg Bool.not (zZ c48))<|ar 11<|T_nr 1 [4] [vi 1] hQ h
 rw[if_neg c35]at h
 refine aJ 10 (zJ c35)<|T_k<|aA<|aE<|T_sz<|ar 10<|T_n 1 [(22,vu b)]<|T_c (some 23) h ?_;clear h
 rintro aa ab ⟨d,rfl,h⟩
 refine⟨[(23,.bool d)],pk,?_⟩
 refine T_ne 1 [(24,.bool (!d))] ?_
 by_cases c50:d=true
 ·rw[if_pos c50]at h
  exact aJ 24 (congrArg Bool.not (c50))<|T_kt<|ar 12<|T_nr 1 [4] [vi 0] hQ h
 rw[if_neg c50]at h
 exact aI 24 (congrArg Bool.not (zZ c50))<|ar 11<|T_nr 1 [4] [vi 1] hQ h
end fW
/-! moraine/audit.others -/
namespace iL
def K0:=Func.code f57
def K2:=cb K0
def K4:=cb K2
def K6:=cb K4
def K14:=cb K6
def K15:=ca K14
def K18:=cb K15
def K19:=ca K18
def K20:=ca K19
end iL
def iL.pt(hv n:zW)(m l:Nat)(H:zV)(R:zv):Prop:=
 bE.C n m l H (λv H1=> ∃xB xN xC,v=vs xB xN xC/\
 fE hv (
 R (vs xB xN xC) H1) (λr=>
 ∃u j z,hat H1 (r.add 1)=some (vs u j z)/\
 bR 1 40 8 [vu 0] xB xN xC u j H1 (λap y H2=>
 ∃o d e,hat H2 (r.add 2)=some (vs o d e)/\
 ∃(ac:zW->Nat->Nat->zw) (m21:zW->Nat->Nat->Int->zV->Nat),ac ap (xN+j) y 0 H2/\ ∀lB lN lC s24 H3,ac lB lN lC s24 H3->
 if s24< (d:Int)then(
 ∃g,o=some g/\
 yZ s24 d/\
 ∃q f,aQ H3 (g.add (Int.toNat s24*2)) 0 [vu q,vu f]/\
 ∀b H4,b=H3.size->H4=H3.push (.cells #[vu 0,vu 0] 83)->
 (aK H4 (ad b) 0 2)/\ ∀H5,H5=aR H4 (ad b) [vu q,vu f] 0->
 ∃x,hat H5 (ad b)=some (vu x)/\
 ∃ab,hat H5 ((ad b).add 1)=some (vu ab)/\
 ∀aa H6,aa=H5.size->H6=H5.push (.cells #[vu x,vu ab] 40)->
 bR 1 40 8 [vu 0] lB lN lC (some (ad aa)) 2 H6 (λs p H7=>
 (ac s (lN+2) p (zY (s24+1)) H7/\m21 s (lN+2) p (zY (s24+1)) H7<m21 lB lN lC s24 H3)))
 else
 R (vs lB lN lC) H3)))
namespace iL
theorem link(h:pt a j d i H R):C a j d i H R:=by
 refine T_en K0 37 func57 ?_
 intro w0 Q hQ
 unfold pt zY at h
 refine T_su [(0,vp a),(1,vs j d i)]<|ar 0<|T_ed 1 [] []<|ar 1<|T_nd 1 [1] [(8,vs j d i)]<|T_c (some 9) h ?_;clear h
 rintro v H1 ⟨xB,xN,xC,rfl,h⟩
 refine T_pd [8] [(9,vs xB xN xC)]<|T_ed 1 [9] [(5,vs xB xN xC)]<|T_sz<|ar 2<|T_nd 1 [] [(10,vp a)] ?_
 rcases a with _ | r
 ·rw[onPtr_none]at h
  exact T_ed 1 [0,10] [(0,vp none),(11,VT)]<|T_tz 11<|ar 3<|T_nr 2 [4] [vs xB xN xC] hQ h
 rw[onPtr_some]at h
 refine T_ed 1 [0,10] [(0,Vq r),(11,VF)]<|T_fz 11<|T_kt<|ar 4<|T_nd 4 [5,11] [(13,vs xB xN xC),(16,Vq (r.add 1))] ?_
 obtain⟨u,m,z,q1,h⟩:=h
 refine T_l1 17 29 q1 [16]<|N_op (some 18) (cJ #[29,29] 29 #[vs xB xN xC,vs u m z]) _ (λ_=>by kernel_rfl) (bQ (T:=40) (sz:=1) (bytes:=8) (zero:=(vu 0:Value)) underlying29 underlying29 rfl (show prog.info? 40=some t40 from by kernel_rfl) (by kernel_rfl) (by kernel_rfl) (by decide) (by kernel_rfl) (by first | exact h | (simpa only[Value.cells,List.toList_toArray]using h))) ?_;clear h
 rintro _ H2 ⟨ap,y,rfl,h⟩
 refine T_pd [13,17] [(18,vs ap (xN+m) y)]<|T_ed 1 [18] [(5,vs ap (xN+m) y)]<|T_sz<|ar 5<|T_nd 3 [0] [(21,Vq (r.add 2))] ?_
 obtain⟨o,l,e,q2,h⟩:=h
 refine T_l1 22 34 q2 [21]<|T_ed 2 [] [(23,vi l),(24,vi 0)]<|T_bz 0 ?_
 obtain⟨ac,m21,i3,i4⟩:=h
 refine bL (x:=K20) (σ:=zW×Nat×Nat×Int) (λs_=> [(5,vs s_.1 s_.2.1 s_.2.2.1),(22,vs o l e),(23,vi l),(24,vi s_.2.2.2)]) (λs_ H=>ac s_.1 s_.2.1 s_.2.2.1 s_.2.2.2 H) (λs_ H=>m21 s_.1 s_.2.1 s_.2.2.1 s_.2.2.2 H) ((ap,(xN+m),y,0):zW×Nat×Nat×Int) (by kernel_rfl) i3 sk ?_
 rintro⟨lB,lN,lC,s24⟩ H3 i5
 have h:=i4 lB lN lC s24 H3 i5
 refine T_su [(5,vs lB lN lC),(22,vs o l e),(23,vi l),(24,vi s24)]<|ar 6<|T_ed 1 [] [(25,.bool (decide (s24< (l:Int))))]<|T_sz ?_
 by_cases c6:s24< (l:Int)
 ·rw[if_pos c6]at h
  refine aI 25 (zX c6)<|T_kt<|T_sz<|T_bz 1<|ar 7<|T_ud [25] [] ?_
  obtain⟨g,rfl,q8,h⟩:=h
  refine T_xd (some 26) 34 83 2 g l e .i64 s24 underlying34 q8.1 q8.2 [22] [(22,vs (some g) l e),(26,Vq (g.add (Int.toNat s24*2)))] ?_
  obtain⟨q,f,q9,h⟩:=h
  refine T_lr 27 83 q9 [26]<|T_nw (some 7) (λb=>vp (pa b)) (.cells #[vu 0,vu 0] 83) ?_
  intro b H4 e10 e11
  replace h:=h b H4 e10 e11
  refine T_pd [] [(7,vp (pa b))] ?_
  obtain⟨q13,h⟩:=h
  refine fG 83 [vu q,vu f] q13 ?_
  intro H5 e12
  replace h:=h H5 e12
  refine T_pd [27] []<|T_e<|T_rz 8<|T_nd 2 [5] [(28,vs lB lN lC),(29,vp (pa b))] ?_
  obtain⟨x,q14,h⟩:=h
  refine T_l1 30 40 q14 [29]<|T_nd 1 [7] [(31,Vq ((ad b).add 1))] ?_
  obtain⟨ab,q15,h⟩:=h
  refine T_l1 32 40 q15 [31]<|T_nw (some 33) (λb=>vs (pa b) 2 2) (.cells #[vu x,vu ab] 40) ?_
  intro aa H6 e16 e17
  replace h:=h aa H6 e16 e17
  refine T_pd [30,32] [(33,vs (pa aa) 2 2)]<|N_op (some 34) (cJ #[29,29] 29 #[vs lB lN lC,vs (pa aa) 2 2]) _ (λ_=>by kernel_rfl) (bQ (T:=40) (sz:=1) (bytes:=8) (zero:=(vu 0:Value)) underlying29 underlying29 rfl (show prog.info? 40=some t40 from by kernel_rfl) (by kernel_rfl) (by kernel_rfl) (by decide) (by kernel_rfl) (by first | exact h | (simpa only[Value.cells,List.toList_toArray]using h))) ?_;clear h
  rintro _ H7 ⟨s,p,rfl,h⟩
  exact T_pd [28,33] [(34,vs s (lN+2) p)]<|T_nd 1 [34] [(5,vs s (lN+2) p)]<|zq<|aA<|aE<|T_rz 9<|T_ed 2 [24] [(24,vi (zY (s24+1)))]<|aS ((s,(lN+2),p,(zY (s24+1))):zW×Nat×Nat×Int) sk h
 rw[if_neg c6]at h
 exact aJ 25 (zQ c6)<|zk 0<|aD<|aD<|aM<|aE<|ar 10<|T_nr 2 [4] [vs lB lN lC] hQ h
end iL
variable{H:zV}{R:zv}{a:zW}
/-! moraine/audit.marks -/
namespace js
def K0:=Func.code f58
def K2:=cb K0
def K4:=cb K2
def K12:=cb K4
def K13:=ca K12
def K16:=cb K13
def K17:=ca K16
def K18:=ca K17
def K20:=cb K18
def K22:=cb K20
def K25:=ca K22
def K27:=ca K25
def K29:=cb K27
def K31:=cb K29
def K33:=cb K31
def K34:=ca K33
def K35:=ca K34
end js
def js.pt(hv:zW)(H:zV)(R:zv):Prop:=
 iX.C hv H (λv H1=> ∃x,v=.bool x/\
 if x=true then(
 R (.tuple #[vi 0,vi 0]) H1)
 else
 ∃e,hv=some e/\
 ∃ay,hat H1 e=some (vp ay)/\
 fQ.C ay H1 (λbe H2=> ∃l,be=vp l/\
 ∃az,hat H2 e=some (vp az)/\
 ∃a5,az=some a5/\
 ∃a7,hat H2 a5=some (vp a7)/\
 ∃a4,a7=some a4/\
 ∃ax,hat H2 a4=some (vp ax)/\
 cO.C ax none 0 0 H2 (λbc H3=> ∃xB xN xC,bc=vs xB xN xC/\
 ∃(a1:zw) (m19:Int->zV->Nat),a1 0 H3/\ ∀f H4,a1 f H4->
 if f< (xN:Int)then(
 ∃j,xB=some j/\
 yZ f xN/\
 ∃g,hat H4 (j.add (Int.toNat f*1))=some (vi g)/\
 ∃a8,hat H4 e=some (vp a8)/\
 ∃a2,a8=some a2/\
 ∃a3,hat H4 a2=some (vp a3)/\
 ∃a6,a3=some a6/\
 ∃ao,hat H4 a6=some (vp ao)/\
 bH.C ao g H4 (λbd H5=> ∃al ai ap aa ae ab ac rb,bd=.tuple #[.agg #[vi al,vi ai,vi ap,vi aa,vi ae,vi ab,vi ac],.bool rb]/\
 ∀b H6,b=H5.size->H6=H5.push (.cells #[vi 0,vi 0,vi 0,vi 0,vi 0,vi 0,vi 0] 89)->
 (aK H6 (ad b) 0 7)/\ ∀H7,H7=aR H6 (ad b) [vi al,vi ai,vi ap,vi aa,vi ae,vi ab,vi ac] 0->
 ∃z y s u,aQ H7 ((ad b).add 3) 0 [vi z,vi y,vi s,vi u]/\
 ∃(a0:zw) (m36:Int->zV->Nat),a0 0 H7/\ ∀d H8,a0 d H8->
 if d<4 then(
 ∃r,((0<=d/\d< (4:Int))/\(#[vi z,vi y,vi s,vi u]:Array Value)[Int.toNat d]?=some (vi r))/\
 dW.C l g d H8 (λbb H9=> ∃ba,bb=vi ba/\
 ∃ah,l=some ah/\
 ∃au,hat H9 ah=some (vp au)/\
 ∃av,au=some av/\
 ∃an,hat H9 av=some (vp an)/\
 bH.C an g H9 (λbf a9=> ∃ag af ak q o m p aq,bf=.tuple #[.agg #[vi ag,vi af,vi ak,vi q,vi o,vi m,vi p],.bool aq]/\
 ∀aj H11,aj=a9.size->H11=a9.push (.cells #[vi 0,vi 0,vi 0,vi 0,vi 0,vi 0,vi 0] 89)->
 (aK H11 (ad aj) 0 7)/\ ∀aw,aw=aR H11 (ad aj) [vi ag,vi af,vi ak,vi q,vi o,vi m,vi p] 0->
 yZ d 4/\
 ∃am,hat aw (((ad aj).add 3).add (Int.toNat d*1))=some (vi am)/\
 if r>am then(
 R (.tuple #[vi (zY ((zY (g*64))+(zY (d*16)))),vi 4]) aw)
 else
 (a0 (zY (d+1)) aw/\m36 (zY (d+1)) aw<m36 d H8))))
 else
 (a1 (zY (f+1)) H8/\m19 (zY (f+1)) H8<m19 f H4)))
 else
 R (.tuple #[vi 0,vi 0]) H4)))
namespace js
theorem link(h:pt a H R):C a H R:=by
 refine T_en K0 86 func58 ?_
 intro w0 Q hQ
 unfold pt zY at h
 refine T_su [(0,vp a)]<|ar 0<|T_ed 2 [] []<|T_sz<|ar 1<|T_nd 1 [] [(13,vp a)]<|T_c (some 14) h ?_;clear h
 rintro v H1 ⟨x,rfl,h⟩
 refine T_pd [13] [(14,.bool x)]<|T_e ?_
 by_cases c1:x=true
 ·rw[if_pos c1]at h
  exact aI 14 c1<|ar 2<|T_nr 2 [2,3] [vi 0,vi 0] hQ h
 rw[if_neg c1]at h
 refine aJ 14 (zZ c1)<|T_kt<|ar 3<|T_nd 1 [14] [(15,vp a)] ?_
 obtain⟨e,rfl,h⟩:=h
 refine T_n 2 [(0,Vq e),(17,Vq e)] ?_
 obtain⟨ay,q3,h⟩:=h
 refine T_l1 18 33 q3 [17]<|T_c (some 19) h ?_;clear h
 rintro be H2 ⟨l,rfl,h⟩
 refine T_pd [18] [(19,vp l)]<|T_ed 1 [19] [(4,vp l)]<|T_sz<|ar 4<|T_nd 3 [] [(22,Vq e)] ?_
 obtain⟨az,q4,h⟩:=h
 refine T_l1 23 33 q4 [22] ?_
 obtain⟨a5,rfl,h⟩:=h
 refine T_nd 2 [23] [(25,Vq a5)] ?_
 obtain⟨a7,q5,h⟩:=h
 refine T_l1 26 42 q5 [25] ?_
 obtain⟨a4,rfl,h⟩:=h
 refine T_nd 2 [26] [(28,Vq a4)] ?_
 obtain⟨ax,q6,h⟩:=h
 refine T_l1 29 70 q6 [28]<|T_c (some 30) h ?_;clear h
 rintro bc H3 ⟨xB,xN,xC,rfl,h⟩
 refine T_pd [29] [(30,vs xB xN xC)]<|T_ed 2 [] [(31,vi xN),(32,vi 0)]<|T_bz 0 ?_
 obtain⟨a1,m19,i7,i8⟩:=h
 refine bL (x:=K18) (σ:=Int) (λs_=> [(0,Vq e),(4,vp l),(30,vs xB xN xC),(31,vi xN),(32,vi s_)]) (λs_ H=>a1 s_ H) (λs_ H=>m19 s_ H) (0:Int) (by kernel_rfl) i7 sk ?_
 rintro f H4 i9
 have h:=i8 f H4 i9
 refine T_su [(0,Vq e),(4,vp l),(30,vs xB xN xC),(31,vi xN),(32,vi f)]<|ar 5<|T_ed 1 [] [(33,.bool (decide (f< (xN:Int))))]<|T_sz ?_
 by_cases c10:f< (xN:Int)
 ·rw[if_pos c10]at h
  refine aI 33 (zX c10)<|T_kt<|T_sz<|T_bz 1<|ar 6<|T_ud [33] [] ?_
  obtain⟨j,rfl,q12,h⟩:=h
  refine T_xd (some 34) 59 3 1 j xN xC .i64 f underlying59 q12.1 q12.2 [30] [(30,vs (some j) xN xC),(34,Vq (j.add (Int.toNat f*1)))] ?_
  obtain⟨g,q13,h⟩:=h
  refine T_l1 35 3 q13 [34]<|T_ed 1 [35] [(6,vi g)]<|ar 7<|T_nd 3 [] [(39,Vq e)] ?_
  obtain⟨a8,q14,h⟩:=h
  refine T_l1 40 33 q14 [39] ?_
  obtain⟨a2,rfl,h⟩:=h
  refine T_nd 2 [40] [(42,Vq a2)] ?_
  obtain⟨a3,q15,h⟩:=h
  refine T_l1 43 42 q15 [42] ?_
  obtain⟨a6,rfl,h⟩:=h
  refine T_nd 2 [43] [(45,Vq a6)] ?_
  obtain⟨ao,q16,h⟩:=h
  refine T_l1 46 70 q16 [45]<|T_nd 1 [] [(47,vi g)]<|T_c (some 48) h ?_;clear h
  rintro bd H5 ⟨al,ai,ap,aa,ae,ab,ac,rb,rfl,h⟩
  refine T_pd [46,47] [(48,.tuple #[.agg #[vi al,vi ai,vi ap,vi aa,vi ae,vi ab,vi ac],.bool rb])]<|T_nd 3 [48] [(49,.agg #[vi al,vi ai,vi ap,vi aa,vi ae,vi ab,vi ac]),(50,.bool rb)]<|T_nw (some 7) (λb=>vp (pa b)) (.cells #[vi 0,vi 0,vi 0,vi 0,vi 0,vi 0,vi 0] 89) ?_
  intro b H6 e17 e18
  replace h:=h b H6 e17 e18
  refine T_pd [] [(7,vp (pa b))] ?_
  obtain⟨q20,h⟩:=h
  refine fG 89 [vi al,vi ai,vi ap,vi aa,vi ae,vi ab,vi ac] q20 ?_
  intro H7 e19
  replace h:=h H7 e19
  refine T_pd [49] []<|T_ed 1 [50] []<|ar 8<|T_nd 1 [7] [(51,Vq ((ad b).add 3))] ?_
  obtain⟨z,y,s,u,q21,h⟩:=h
  refine T_lr 52 71 q21 [51]<|T_ed 1 [] [(53,vi 0)]<|T_bz 2 ?_
  obtain⟨a0,m36,i22,i23⟩:=h
  refine bL (x:=K35) (σ:=Int) (λs_=> [(0,Vq e),(4,vp l),(6,vi g),(30,vs (some j) xN xC),(31,vi xN),(32,vi f),(52,.agg #[vi z,vi y,vi s,vi u]),(53,vi s_)]) (λs_ H=>a0 s_ H) (λs_ H=>m36 s_ H) (0:Int) (by kernel_rfl) i22 sk ?_
  rintro d H8 i24
  have h:=i23 d H8 i24
  refine T_su [(0,Vq e),(4,vp l),(6,vi g),(30,vs (some j) xN xC),(31,vi xN),(32,vi f),(52,.agg #[vi z,vi y,vi s,vi u]),(53,vi d)]<|ar 9<|T_ed 1 [] [(54,.bool (decide (d<4)))]<|T_sz ?_
  by_cases c25:d<4
  ·rw[if_pos c25]at h
   refine aI 54 (zX c25)<|T_kt<|T_sz<|T_bz 3<|ar 10<|T_nd 1 [54] [(55,vi d)] ?_
   obtain⟨r,q27,h⟩:=h
   refine T_v1 56 (mD 71 (.agg #[vi z,vi y,vi s,vi u]) (vi d)) (vi r) (λw _=>j2 (P:=prog) (t:=71) (elem:=3) (n:=4) underlying71 (λ_=>by kernel_rfl) (λ_=>by kernel_rfl) q27.1.1 q27.1.2 q27.2 w) []<|T_ed 2 [55,56] [(9,vi d),(10,vi r)]<|ar 11<|T_nd 3 [] [(57,vp l),(58,vi g),(59,vi d)]<|T_c (some 60) h ?_;clear h
   rintro bb H9 ⟨ba,rfl,h⟩
   refine T_pd [57,58,59] []<|T_e<|ar 12<|T_nd 1 [] [(62,vp l)] ?_
   obtain⟨ah,rfl,h⟩:=h
   refine T_nd 2 [4,62] [(4,Vq ah),(64,Vq ah)] ?_
   obtain⟨au,q28,h⟩:=h
   refine T_l1 65 42 q28 [64] ?_
   obtain⟨av,rfl,h⟩:=h
   refine T_nd 2 [65] [(67,Vq av)] ?_
   obtain⟨an,q29,h⟩:=h
   refine T_l1 68 70 q29 [67]<|T_nd 1 [] [(69,vi g)]<|T_c (some 70) h ?_;clear h
   rintro bf a9 ⟨ag,af,ak,q,o,m,p,aq,rfl,h⟩
   refine T_pd [68,69] [(70,.tuple #[.agg #[vi ag,vi af,vi ak,vi q,vi o,vi m,vi p],.bool aq])]<|T_nd 3 [70] [(71,.agg #[vi ag,vi af,vi ak,vi q,vi o,vi m,vi p]),(72,.bool aq)]<|T_nw (some 11) (λb=>vp (pa b)) (.cells #[vi 0,vi 0,vi 0,vi 0,vi 0,vi 0,vi 0] 89) ?_
   intro aj H11 e30 e31
   replace h:=h aj H11 e30 e31
   refine T_pd [] [(11,vp (pa aj))] ?_
   obtain⟨q33,h⟩:=h
   refine fG 89 [vi ag,vi af,vi ak,vi q,vi o,vi m,vi p] q33 ?_
   intro aw e32
   replace h:=h aw e32
   refine T_pd [71] []<|T_ed 1 [72] []<|ar 13<|T_nd 3 [10,11] [(73,vi r),(74,vi d),(75,Vq ((ad aj).add 3))] ?_
   obtain⟨q34,h⟩:=h
   refine T_v1 76 (bK 71 (Vq ((ad aj).add 3)) (vi d)) (Vq (((ad aj).add 3).add (Int.toNat d*1))) (λw _=>bX (P:=prog) (t:=71) (elem:=3) (sz:=1) (n:=4) (a:=((ad aj).add 3)) (k:=.i64) (i:=d) underlying71 (λ_=>by kernel_rfl) q34.1 q34.2 w) [74,75] ?_
   obtain⟨am,q35,h⟩:=h
   refine T_l1 77 3 q35 [76]<|T_ed 1 [73,77] [(78,.bool (decide (r>am)))] ?_
   by_cases c36:r>am
   ·rw[if_pos c36]at h
    exact aI 78 (zX c36)<|ar 14<|T_nr 7 [2,3] [vi (zY ((zY (g*64))+(zY (d*16)))),vi 4] hQ h
   rw[if_neg c36]at h
   exact aJ 78 (zQ c36)<|T_k<|aA<|aE<|T_rz 15<|T_ed 2 [9,53,78] [(53,vi (zY (d+1)))]<|aS ((zY (d+1)):Int) sk h
  rw[if_neg c25]at h
  exact aJ 54 (zQ c25)<|zk 2<|aD<|aD<|aM<|aA<|aE<|T_rz 16<|T_ed 2 [6,32,52,53,54] [(32,vi (zY (f+1)))]<|aS ((zY (f+1)):Int) sk h
 rw[if_neg c10]at h
 exact aJ 33 (zQ c10)<|zk 0<|aD<|aD<|aM<|aE<|ar 17<|T_nr 2 [2,3] [vi 0,vi 0] hQ h
end js
/-! moraine/audit.come.1 -/
namespace jt
def K0:=Func.code f93
end jt
def jt.pt(wv:Int)(q f a:zW)(H:zV)(R:zv):Prop:=
 ∃g,q=some g/\
 ∃x,hat H g=some (vp x)/\
 iX.C x H (λv H1=> ∃j,v=.bool j/\
 if j=true then(
 R (.tuple #[]) H1)
 else
 ∃p,hat H1 g=some (vp p)/\
 bV.C p wv H1 (λab H2=> ∃n,ab=vi n/\
 if n>0 then(
 ∃d,f=some d/\
 ∃s,hat H2 d=some (.map s)/\
 ∃mr,s=some mr/\
 ∃es cl ks,H2[mr]?=some (.map es cl)/\Ents (bF .u64) es.toList ks/\
 ∃l,(mget ks wv).getD (vi 0)=vi l/\
 if l=0 then(
 ∃e,a=some e/\
 ∃xB xN xC,hat H2 e=some (vs xB xN xC)/\
 ∀b H3,b=H2.size->H3=H2.push (.cells #[vu wv] 40)->
 bR 1 40 8 [vu 0] xB xN xC (some (ad b)) 1 H3 (λap r H4=>
 (aK H4 e 0 1)/\ ∀H5,H5=aR H4 e [vs ap (xN+1) r] 0->
 ∃o,hat H5 d=some (.map o)/\
 ∃u i y,hat H5 e=some (vs u i y)/\
 ∃m,o=some m/\
 ∃aa cl_2 ks_2,H5[m]?=some (.map aa cl_2)/\Ents (bF .u64) aa.toList ks_2/\
 ∀t cl_3 H6,H6=aO H5 m (.map t cl_3)->Ents (bF .u64) t.toList (mput ks_2 wv (vi (i:Int)))->
 R (.tuple #[]) H6))
 else
 R (.tuple #[]) H2)
 else
 R (.tuple #[]) H2))
namespace jt
theorem link{wv:Int}{f q:zW}(h:pt wv a f q H R):C wv a f q H R:=by
 refine T_en K0 28 func93 ?_
 intro w0 Q hQ
 unfold pt at h
 refine T_su [(0,vu wv),(1,vp a),(2,vp f),(3,vp q)]<|ar 0 ?_
 obtain⟨g,rfl,x,q1,h⟩:=h
 refine T_ld (some 5) 28 q1 [1] [(1,Vq g),(5,vp x)]<|T_c (some 6) h ?_;clear h
 rintro v H1 ⟨j,rfl,h⟩
 refine T_pd [5] [(6,.bool j)]<|T_nd 2 [6] [(8,.bool (!j))] ?_
 by_cases c2:j=true
 ·rw[if_pos c2]at h
  have b3:(!j)=false:=congrArg Bool.not (c2)
  have b32:j=true:=c2
  refine N_bd 8 (b:=(!j)) (v:=false) (by simp only[b3,b32,Bool.not_true,Bool.not_false]) ?_
  clear b3 b32
  exact T_ed 11 [1,8] [(19,VF)]<|T_fz 19<|T_k<|iG (fn:=f93) [] hQ (show cG _ _ _ [] _ from .nil) h
 rw[if_neg c2]at h
 have b3:(!j)=true:=congrArg Bool.not (zZ c2)
 have b32:j=false:=zZ c2
 refine N_bd 8 (b:=(!j)) (v:=true) (by simp only[b3,b32,Bool.not_true,Bool.not_false]) ?_
 clear b3 b32
 obtain⟨p,q4,h⟩:=h
 refine T_l1 9 28 q4 [1]<|T_nd 1 [] [(10,vu wv)]<|T_c (some 11) h ?_;clear h
 rintro ab H2 ⟨n,rfl,h⟩
 refine T_pd [9,10] [(11,vi n)]<|T_nd 3 [8,11] [(14,.bool (decide (n>0)))] ?_
 by_cases c5:n>0
 ·rw[if_pos c5]at h
  refine N_bd 14 (zX c5) ?_
  obtain⟨d,rfl,s,q7,h⟩:=h
  refine T_ld (some 15) 100 q7 [2] [(2,Vq d),(15,.map s)]<|T_nd 1 [] [(16,vu wv)] ?_
  obtain⟨mr,rfl,es,cl,ks,q8,q9,l,e25,h⟩:=h
  refine T_v1 17 (jU 100 (.map (some mr)) (vu wv) false) (vi l) (λw hw=>(iI (kk:=(bF .u64)) (z:=vi 0) underlying100 underlying40 (λ_=>by kernel_rfl) (by rw[hw];exact q8) q9 false).trans (by simp only[if_true,Bool.false_eq_true,if_false,e25])) [15,16]<|T_ed 2 [14,17] [(19,.bool (l==0))] ?_
  by_cases c11:l=0
  ·rw[if_pos c11]at h
   refine aI 19 (zK c11)<|ar 1<|T_ud [19] [] ?_
   obtain⟨e,rfl,xB,xN,xC,q13,h⟩:=h
   refine T_ld (some 20) 29 q13 [3] [(3,Vq e),(20,vs xB xN xC)]<|T_nd 1 [] [(21,vu wv)]<|T_nw (some 22) (λb=>vs (pa b) 1 1) (.cells #[vu wv] 40) ?_
   intro b H3 e14 e15
   replace h:=h b H3 e14 e15
   refine T_pd [21] [(22,vs (pa b) 1 1)]<|N_op (some 23) (cJ #[29,29] 29 #[vs xB xN xC,vs (pa b) 1 1]) _ (λ_=>by kernel_rfl) (bQ (T:=40) (sz:=1) (bytes:=8) (zero:=(vu 0:Value)) underlying29 underlying29 rfl (show prog.info? 40=some t40 from by kernel_rfl) (by kernel_rfl) (by kernel_rfl) (by decide) (by kernel_rfl) (by first | exact h | (simpa only[Value.cells,List.toList_toArray]using h))) ?_;clear h
   rintro _ H4 ⟨ap,r,rfl,h⟩
   refine T_pd [20,22] [(23,vs ap (xN+1) r)] ?_
   obtain⟨q17,h⟩:=h
   refine fH 29 (vs ap (xN+1) r) q17 ?_
   intro H5 e16
   replace h:=h H5 e16
   refine T_pd [23] []<|T_e<|T_rz 2 ?_
   obtain⟨o,q18,h⟩:=h
   refine T_l1 24 100 q18 [2]<|T_nd 1 [0] [(25,vu wv)] ?_
   obtain⟨u,i,y,q19,h⟩:=h
   refine T_l1 26 29 q19 [3]<|T_nd 1 [26] [(27,vi i)] ?_
   obtain⟨m,rfl,aa,cl_2,ks_2,q20,q21,h⟩:=h
   refine mz none (mV 100 (.map (some m)) (vu wv) (vi i)) (λHz=> ∃es2 cl2,Hz=aO H5 m (.map es2 cl2)/\Ents (bF .u64) es2.toList (mput ks_2 wv (vi i))) (λ_=>by kernel_rfl) (λw hw=>by obtain⟨es2,cl2,q1,q2⟩:=nq (kk:=(bF .u64)) (P:=prog) (w:=w) (k:=wv) (v:=vi i) underlying100 underlying40 (by rw[hw];exact q20) q21;exact⟨_,q1,⟨rfl,rfl,rfl,Nat.le_refl _⟩,es2,cl2,by rw[<-hw],q2⟩) ?_
   rintro H6 ⟨t,cl_3,e23,e24⟩
   replace h:=h t cl_3 H6 e23 e24
   refine⟨[],pk,?_⟩
   exact zq<|iG (fn:=f93) [] hQ (show cG _ _ _ [] _ from .nil) h
  rw[if_neg c11]at h
  exact aJ 19 (zJ c11)<|T_k<|iG (fn:=f93) [] hQ (show cG _ _ _ [] _ from .nil) h
 rw[if_neg c5]at h
 refine N_bd 14 (zQ c5)<|T_ed 5 [14] [(19,VF)]<|T_fz 19<|T_k ?_
 exact iG (fn:=f93) [] hQ (show cG _ _ _ [] _ from .nil) h
end jt
/-! moraine/audit.none -/
namespace iX
def K0:=Func.code f94
end iX
def iX.pt(hv:zW)(H:zV)(R:zv):Prop:=
 fE hv (
 R VT H) (λa=>
 ∃x,hat H a=some (vp x)/\
 fE x (
 R VT H) (λxA=>
 ∃e,hat H a=some (vp e)/\
 ∃j,e=some j/\
 ∃b,hat H j=some (vp b)/\
 fE b (
 R VT H) (λl=>
 ∃i,hat H a=some (vp i)/\
 ∃k,i=some k/\
 ∃f,hat H k=some (vp f)/\
 ∃g,f=some g/\
 ∃d,hat H g=some (vp d)/\
 fE d (
 R VT H) (λm=>
 R VF H))))
namespace iX
theorem link(h:pt a H R):C a H R:=by
 refine T_en K0 35 func94 ?_
 intro w0 Q hQ
 unfold pt at h
 refine T_su [(0,vp a)]<|ar 0<|T_ed 1 [] []<|ar 1<|T_nd 1 [] [(3,vp a)] ?_
 rcases a with _ | hv
 ·rw[onPtr_none]at h
  exact T_nr 32 [2] [VT] hQ h
 rw[onPtr_some]at h
 refine T_n 5 [(0,Vq hv),(5,VF),(8,Vq hv)] ?_
 obtain⟨x,q1,h⟩:=h
 refine T_l1 9 33 q1 [8] ?_
 rcases x with _ | xA
 ·rw[onPtr_none]at h
  exact T_nr 26 [2] [VT] hQ h
 rw[onPtr_some]at h
 refine T_nd 6 [5,9] [(12,VF),(15,Vq hv)] ?_
 obtain⟨e,q2,h⟩:=h
 refine T_l1 16 33 q2 [15] ?_
 obtain⟨j,rfl,h⟩:=h
 refine T_nd 2 [16] [(18,Vq j)] ?_
 obtain⟨b,q3,h⟩:=h
 refine T_l1 19 42 q3 [18] ?_
 rcases b with _ | l
 ·rw[onPtr_none]at h
  exact T_nr 16 [2] [VT] hQ h
 rw[onPtr_some]at h
 refine T_n 6 [(22,VF),(25,Vq hv)] ?_
 obtain⟨i,q4,h⟩:=h
 refine T_l1 26 33 q4 [25] ?_
 obtain⟨k,rfl,h⟩:=h
 refine T_nd 2 [26] [(28,Vq k)] ?_
 obtain⟨f,q5,h⟩:=h
 refine T_l1 29 42 q5 [28] ?_
 obtain⟨g,rfl,h⟩:=h
 refine T_nd 2 [29] [(31,Vq g)] ?_
 obtain⟨d,q6,h⟩:=h
 refine T_l1 32 70 q6 [31] ?_
 rcases d with _ | m
 ·rw[onPtr_none]at h
  exact T_nr 3 [2] [VT] hQ h
 rw[onPtr_some]at h
 exact T_nr 3 [2] [VF] hQ h
end iX
/-! moraine/audit.fields.1 -/
namespace iB
def K0:=Func.code f97
def K2:=cb K0
def K4:=cb K2
def K10:=cb K4
def K12:=cb K10
def K18:=cb K12
def K19:=ca K18
def K20:=ca K19
def K22:=cb K20
def K27:=ca K22
def K29:=ca K27
def K30:=ca K29
end iB
def iB.pt(d:Value)(u r:zW)(H:zV)(R:zv):Prop:=
 ∃a,u=some a/\
 ∃x,hat H a=some (vp x)/\
 ∃b,r=some b/\
 ∃y,hat H b=some (vu y)/\
 cP.C x y H (λv H1=> ∃e,v=vi e/\
 if((e==2) || (e==3))=true then(
 R (.tuple #[]) H1)
 else
 ∃J:zw,(
 if e>0 then(
 J 1 H1)
 else
 J 0 H1)/\ ∀m H2,J m H2->
 ∃(aa:zw) (m21:Int->zV->Nat),aa m H2/\ ∀i H3,aa i H3->
 ∃t,hat H3 a=some (vp t)/\
 ∃z,hat H3 b=some (vu z)/\
 bV.C t z H3 (λai H4=> ∃s,ai=vi s/\
 if i<s then(
 ∃ac,hat H4 a=some (vp ac)/\
 ∃j,ac=some j/\
 ∃ae,hat H4 j=some (vp ae)/\
 ∃g,ae=some g/\
 ∃ab,hat H4 g=some (vp ab)/\
 ∃k,ab=some k/\
 ∃f,hat H4 k=some (vp f)/\
 ∃n,hat H4 b=some (vu n)/\
 fI.C n H4 (λag H5=> ∃o,ag=vi o/\aQ H5 a 0 [Vq j]/\aQ H5 j 0 [Vq g]/\aQ H5 g 0 [Vq k]/\aQ H5 k 0 [vp f]/\
 cK.C f (zY (o+i)) H5 (λah H6=> ∃ra rb,ah=.tuple #[vu ra,vi rb]/\
 ∃p,hat H6 b=some (vu p)/\
 fI.C p H6 (λaf H7=> ∃q,af=vi q/\
 FC prog d #[vi (zY (q+i)),vu ra] H7 (λaj H8=> ∃l,aj=.bool l/\
 if l=true then(
 (aa (zY (i+1)) H8/\m21 (zY (i+1)) H8<m21 i H3))
 else
 R (.tuple #[]) H8)))))
 else
 R (.tuple #[]) H4))
namespace iB
theorem link{d:Value}{r:zW}(h:pt d a r H R):C d a r H R:=by
 refine T_en K0 54 func97 ?_
 intro w0 Q hQ
 unfold pt zY at h
 refine T_su [(0,d),(1,vp a),(2,vp r)]<|ar 0 ?_
 obtain⟨u,rfl,x,q1,h⟩:=h
 refine T_ld (some 9) 28 q1 [1] [(1,Vq u),(9,vp x)] ?_
 obtain⟨b,rfl,y,q2,h⟩:=h
 refine T_ld (some 10) 40 q2 [2] [(2,Vq b),(10,vu y)]<|T_c (some 11) h ?_;clear h
 rintro v H1 ⟨e,rfl,h⟩
 refine T_pd [9,10] [(11,vi e)]<|T_ed 1 [11] [(4,vi e)]<|T_sz<|ar 1 ?_
 refine iT [(0,d),(1,Vq u),(2,Vq b),(4,vi e),(17,.bool ((e==2) || (e==3)))] ?_ ?_
 ·refine aE ?_
  by_cases c5:((e==2) || (e==3))=true
  ·rw[if_pos c5]at h
   exact aI 17 c5<|jF [] [] hQ h
  rw[if_neg c5]at h
  refine aJ 17 (zZ c5)<|T_kt<|ar 2<|T_ne 1 [(0,d),(1,Vq u),(2,Vq b),(4,vi e),(5,vi 0)]<|T_sz<|ar 3<|T_ne 2 [(0,d),(1,Vq u),(2,Vq b),(5,vi 0),(19,.bool (decide (e>0)))] ?_
  obtain⟨J,h,j8⟩:=h
  refine pr (σ:=Int) (λs_=> [(0,d),(1,Vq u),(2,Vq b),(5,vi s_)]) (λs_ H=>J s_ H) ?_ ?_
  ·rintro m H2 j9
   replace h:=j8 m H2 j9
   refine T_su [(0,d),(1,Vq u),(2,Vq b),(5,vi m)]<|aE<|ar 5<|T_ed 2 [5] [(6,vi m)]<|T_bz 0 ?_
   obtain⟨aa,m21,i10,i11⟩:=h
   refine bL (x:=K20) (σ:=Int) (λs_=> [(0,d),(1,Vq u),(2,Vq b),(6,vi s_)]) (λs_ H=>aa s_ H) (λs_ H=>m21 s_ H) (m:Int) (by kernel_rfl) i10 sk ?_
   rintro i H3 i12
   have h:=i11 i H3 i12
   refine T_su [(0,d),(1,Vq u),(2,Vq b),(6,vi i)]<|T_sz<|ar 6<|T_nd 1 [] [(21,vi i)] ?_
   obtain⟨t,q13,h⟩:=h
   refine T_l1 22 28 q13 [] ?_
   obtain⟨z,q14,h⟩:=h
   refine T_l1 23 40 q14 []<|T_c (some 24) h ?_;clear h
   rintro ai H4 ⟨s,rfl,h⟩
   refine T_pd [22,23] [(24,vi s)]<|T_ed 1 [21,24] [(25,.bool (decide (i<s)))] ?_
   by_cases c15:i<s
   ·rw[if_pos c15]at h
    refine aI 25 (zX c15)<|T_kt<|T_sz<|T_bz 1<|T_sz ?_
    obtain⟨ac,q17,j,rfl,ae,q18,g,rfl,ab,q19,k,rfl,f,q20,n,q21,h⟩:=h
    refine yq 8 (Code.ops K30) [(14,u,[Vq j]),(14,j,[Vq g]),(14,g,[Vq k]),(14,k,[vp f]),(11,b,[vu n])] 20 (bv 20 0) (show aF _ _ _ from⟨⟨q17,trivial⟩,⟨q18,trivial⟩,⟨q19,trivial⟩,⟨q20,trivial⟩,⟨q21,trivial⟩,trivial⟩)<|T_g 0 (some 29) (Vq j) (bv 20 1) [(0,d),(1,Vq u),(2,Vq b),(6,vi i),(29,Vq j)] (aU 28 (Vq u)) (yY 14 yX)<|aL 1 30 (Vq j) (bv 20 3) [29]<|aL 2 31 (Vq j) (bv 20 7) [30]<|T_g1 3 32 (Vq g) (bv 20 15) [31] (aU 33 (Vq j)) (yY 14 yQ)<|aL 4 33 (Vq g) (bv 20 31) [32]<|aL 5 34 (Vq g) (bv 20 63) [33]<|T_g1 6 35 (Vq k) (bv 20 127) [34] (aU 42 (Vq g)) (yY 14 yJ)<|aL 7 36 (Vq k) (bv 20 255) [35]<|aL 8 37 (Vq k) (bv 20 511) [36]<|T_g1 9 38 (vp f) (bv 20 1023) [37] (aU 70 (Vq k)) (yY 14 yK)<|T_g1 10 39 (vu n) (bv 20 2047) [] (aU 40 (Vq b)) (yY 11 yV)<|aL 12 41 (vi i) (bv 20 6143) []<|yx 11 (some 40) (bv 20 8191) 50 #[vu n] h ?_;clear h
    rintro ag H5 ⟨o,rfl,f22,f23,f24,f25,h⟩
    refine⟨[(0,d),(1,Vq u),(2,Vq b),(6,vi i),(38,vp f),(40,vi o),(41,vi i)],pk,(show aF _ _ _ from⟨f22,f23,f24,f25,trivial,trivial⟩),?_⟩
    refine T_g 13 (some 42) (vi (zY (o+i))) (bv 20 16383) [(0,d),(1,Vq u),(2,Vq b),(6,vi i),(38,vp f),(42,vi (zY (o+i)))] (pure (.value (vi (zY (o+i)))):Sem Next) (λ_ _ _ _ _=>rfl)<|yx 14 (some 43) (bv 20 32767) 82 #[vp f,vi (zY (o+i))] h ?_;clear h
    rintro ah H6 ⟨ra,rb,rfl,h⟩
    refine⟨[(0,d),(1,Vq u),(2,Vq b),(6,vi i),(43,.tuple #[vu ra,vi rb])],pk,(show aF _ _ _ from⟨trivial,trivial,trivial,trivial,trivial,trivial⟩),?_⟩
    refine T_g 15 (some 28) (.tuple #[vu ra,vi rb]) (bv 20 65535) [(0,d),(1,Vq u),(2,Vq b),(6,vi i),(28,.tuple #[vu ra,vi rb])] (pure (.value (.tuple #[vu ra,vi rb])):Sem Next) (λ_ _ _ _ _=>rfl)<|T_g1 16 44 (vu ra) (bv 20 131071) [] (pure (.value (vu ra)):Sem Next) (λ_ _ _ _ _=>rfl)<|T_g1 17 45 (vi rb) (bv 20 262143) [28] (pure (.value (vi rb)):Sem Next) (λ_ _ _ _ _=>rfl)<|T_g1 18 7 (vu ra) (bv 20 524287) [44] (pure (.value (vu ra)):Sem Next) (λ_ _ _ _ _=>rfl)<|T_gd 19 (some 8) (vi rb) (bv 20 1048575) [45] [] (pure (.value (vi rb)):Sem Next) (λ_ _ _ _ _=>rfl)<|fU [(0,d),(1,Vq u),(2,Vq b),(6,vi i),(7,vu ra)] sk<|yz<|aE<|ar 9<|T_n 1 [(0,d),(1,Vq u),(2,Vq b),(6,vi i),(7,vu ra),(46,d)] ?_
    obtain⟨p,q26,h⟩:=h
    refine T_l1 47 40 q26 []<|T_c (some 48) h ?_;clear h
    rintro af H7 ⟨q,rfl,h⟩
    refine T_pd [47] [(48,vi q)]<|T_nd 3 [7,48] [(50,vi (zY (q+i))),(51,vu ra)]<|l9 (some 52) d #[vi (zY (q+i)),vu ra] (λ_=>by kernel_rfl) h ?_;clear h
    rintro aj H8 ⟨l,rfl,h⟩
    refine T_pd [46,50,51] [(52,.bool l)]<|T_ed 1 [52] [(53,.bool (!l))] ?_
    by_cases c27:l=true
    ·rw[if_pos c27]at h
     exact aJ 53 (congrArg Bool.not (c27))<|T_k<|aA<|aE<|T_rz 7<|T_ed 3 [6,53] [(6,vi (zY (i+1)))]<|aS ((zY (i+1)):Int) sk h
    rw[if_neg c27]at h
    exact aI 53 (congrArg Bool.not (zZ c27))<|jF [] [] hQ h
   rw[if_neg c15]at h
   exact aJ 25 (zQ c15)<|zk 0<|aD<|aD<|aM<|iG (fn:=f97) [] hQ (show cG _ _ _ [] _ from .nil) h
  by_cases c29:e>0
  ·rw[if_pos c29]at h
   have b30:(decide (e>0))=true:=zX c29
   refine iU [(0,d),(1,Vq u),(2,Vq b),(5,vi 0),(19,VT)] (by simp only[b30,Bool.not_true,Bool.not_false]) ?_
   clear b30
   exact T_tz 19<|T_rz 4<|T_ed 1 [5,19] [(5,vi 1)]<|k7 (1:Int) sk h
  rw[if_neg c29]at h
  have b30:(decide (e>0))=false:=zQ c29
  refine iU [(0,d),(1,Vq u),(2,Vq b),(5,vi 0),(19,VF)] (by simp only[b30,Bool.not_true,Bool.not_false]) ?_
  clear b30
  exact T_fz 19<|T_kt<|k7 (0:Int) sk h
 intro hk
 refine T_n 3 [(0,d),(1,Vq u),(2,Vq b),(4,vi e),(14,.bool (e==2))] ?_
 by_cases c3:e=2
 ·have b4:(e==2)=true:=zK c3
  refine bW [(0,d),(1,Vq u),(2,Vq b),(4,vi e),(14,VT)] (by rw[b4]) ?_
  refine T_nd 3 [14] [(17,VT)]<|zq<|S_bd 17 (b:=true) (v:=((e==2) || (e==3))) (by simp only[b4,BL]) ?_
  exact hk
 have b4:(e==2)=false:=zJ c3
 refine bW [(0,d),(1,Vq u),(2,Vq b),(4,vi e),(14,VF)] (by rw[b4]) ?_
 refine T_nd 3 [14] [(17,.bool (e==3))]<|zq<|S_bd 17 (b:=(e==3)) (v:=((e==2) || (e==3))) (by simp only[b4,BL]) ?_
 exact hk
end iB
/-! moraine/audit.things.1 -/
namespace iC
def K0:=Func.code f101
def K2:=cb K0
def K8:=cb K2
def K9:=ca K8
def K10:=ca K9
def K12:=cb K10
def K14:=cb K12
def K17:=ca K14
def K19:=ca K17
def K21:=cb K19
def K23:=cb K21
def K25:=cb K23
def K26:=ca K25
def K27:=ca K26
end iC
def iC.pt(e:Value)(ai:zW)(H:zV)(R:zv):Prop:=
 ∃d,ai=some d/\
 ∃x,hat H d=some (vp x)/\
 iX.C x H (λv H1=> ∃ag,v=.bool ag/\
 if ag=true then(
 R (.tuple #[]) H1)
 else
 ∃ap,hat H1 d=some (vp ap)/\
 ∃au,ap=some au/\
 ∃am,hat H1 au=some (vp am)/\
 ∃aw,am=some aw/\
 ∃ay,hat H1 aw=some (vp ay)/\
 ∃av,ay=some av/\
 ∃ak,hat H1 av=some (vp ak)/\
 cO.C ak none 0 0 H1 (λa5 H2=> ∃xB xN xC,a5=vs xB xN xC/\
 ∃(aj:zw) (m11:Int->zV->Nat),aj 0 H2/\ ∀f H3,aj f H3->
 if f< (xN:Int)then(
 ∃g,xB=some g/\
 yZ f xN/\
 ∃j,hat H3 (g.add (Int.toNat f*1))=some (vi j)/\
 ∃az,hat H3 d=some (vp az)/\
 ∃ao,az=some ao/\
 ∃aq,hat H3 ao=some (vp aq)/\
 ∃ax,aq=some ax/\
 ∃af,hat H3 ax=some (vp af)/\
 ∃ah,af=some ah/\
 ∃z,hat H3 ah=some (vp z)/\
 bH.C z j H3 (λa3 H4=> ∃s r ab n q o p rb,a3=.tuple #[.agg #[vi s,vi r,vi ab,vi n,vi q,vi o,vi p],.bool rb]/\
 ∀b H5,b=H4.size->H5=H4.push (.cells #[vi 0,vi 0,vi 0,vi 0,vi 0,vi 0,vi 0] 89)->
 (aK H5 (ad b) 0 7)/\ ∀H6,H6=aR H5 (ad b) [vi s,vi r,vi ab,vi n,vi q,vi o,vi p] 0->
 ∃(an:zw) (m28:Int->zV->Nat),an 0 H6/\ ∀l H7,an l H7->
 ∃y,hat H7 ((ad b).add 2)=some (vi y)/\
 if l<y then(
 ∃ac,hat H7 ((ad b).add 1)=some (vi ac)/\
 jN.C ac H7 (λa4 H8=> ∃ae,a4=vi ae/\
 j3.C ae (zY ((zY (j*64))+l)) H8 (λa1 H9=> ∃ra a0,a1=.tuple #[vu ra,vi a0]/\
 ∃aa,hat H9 d=some (vp aa)/\
 bV.C aa ra H9 (λa7 a2=> ∃m,a7=vi m/\
 FC prog e #[vu ra,vi m] a2 (λa6 al=> ∃u,a6=.bool u/\
 if u=true then(
 if m=0 then(
 (aj (zY (f+1)) al/\m11 (zY (f+1)) al<m11 f H3))
 else
 (an (zY (l+m)) al/\m28 (zY (l+m)) al<m28 l H7))
 else
 R (.tuple #[]) al)))))
 else
 (aj (zY (f+1)) H7/\m11 (zY (f+1)) H7<m11 f H3)))
 else
 R (.tuple #[]) H3))
namespace iC
theorem link{e:Value}(h:pt e a H R):C e a H R:=by
 refine T_en K0 73 func101 ?_
 intro w0 Q hQ
 unfold pt zY at h
 refine T_su [(0,e),(1,vp a)]<|T_sz<|ar 0 ?_
 obtain⟨d,rfl,x,q1,h⟩:=h
 refine T_ld (some 11) 28 q1 [1] [(1,Vq d),(11,vp x)]<|T_c (some 12) h ?_;clear h
 rintro v H1 ⟨ag,rfl,h⟩
 refine T_pd [11] [(12,.bool ag)]<|T_e ?_
 by_cases c2:ag=true
 ·rw[if_pos c2]at h
  exact aI 12 c2<|jF [] [] hQ h
 rw[if_neg c2]at h
 refine aJ 12 (zZ c2)<|T_kt<|ar 1<|T_ud [12] [] ?_
 obtain⟨ap,q4,h⟩:=h
 refine T_l1 13 28 q4 [] ?_
 obtain⟨au,rfl,h⟩:=h
 refine T_nd 2 [13] [(15,Vq au)] ?_
 obtain⟨am,q5,h⟩:=h
 refine T_l1 16 33 q5 [15] ?_
 obtain⟨aw,rfl,h⟩:=h
 refine T_nd 2 [16] [(18,Vq aw)] ?_
 obtain⟨ay,q6,h⟩:=h
 refine T_l1 19 42 q6 [18] ?_
 obtain⟨av,rfl,h⟩:=h
 refine T_nd 2 [19] [(21,Vq av)] ?_
 obtain⟨ak,q7,h⟩:=h
 refine T_l1 22 70 q7 [21]<|T_c (some 23) h ?_;clear h
 rintro a5 H2 ⟨xB,xN,xC,rfl,h⟩
 refine T_pd [22] [(23,vs xB xN xC)]<|T_ed 2 [] [(24,vi xN),(25,vi 0)]<|T_bz 0 ?_
 obtain⟨aj,m11,i8,i9⟩:=h
 refine bL (x:=K10) (σ:=Int) (λs_=> [(0,e),(1,Vq d),(23,vs xB xN xC),(24,vi xN),(25,vi s_)]) (λs_ H=>aj s_ H) (λs_ H=>m11 s_ H) (0:Int) (by kernel_rfl) i8 sk ?_
 rintro f H3 i10
 have h:=i9 f H3 i10
 refine T_su [(0,e),(1,Vq d),(23,vs xB xN xC),(24,vi xN),(25,vi f)]<|ar 2<|T_ed 1 [] [(26,.bool (decide (f< (xN:Int))))]<|T_sz ?_
 by_cases c11:f< (xN:Int)
 ·rw[if_pos c11]at h
  refine aI 26 (zX c11)<|T_kt<|T_sz<|T_bz 1<|ar 3<|T_ud [26] [] ?_
  obtain⟨g,rfl,q13,h⟩:=h
  refine T_xd (some 27) 59 3 1 g xN xC .i64 f underlying59 q13.1 q13.2 [23] [(23,vs (some g) xN xC),(27,Vq (g.add (Int.toNat f*1)))] ?_
  obtain⟨j,q14,h⟩:=h
  refine T_l1 28 3 q14 [27]<|T_ed 1 [28] [(4,vi j)]<|ar 4 ?_
  obtain⟨az,q15,h⟩:=h
  refine T_l1 30 28 q15 [] ?_
  obtain⟨ao,rfl,h⟩:=h
  refine T_nd 2 [30] [(32,Vq ao)] ?_
  obtain⟨aq,q16,h⟩:=h
  refine T_l1 33 33 q16 [32] ?_
  obtain⟨ax,rfl,h⟩:=h
  refine T_nd 2 [33] [(35,Vq ax)] ?_
  obtain⟨af,q17,h⟩:=h
  refine T_l1 36 42 q17 [35] ?_
  obtain⟨ah,rfl,h⟩:=h
  refine T_nd 2 [36] [(38,Vq ah)] ?_
  obtain⟨z,q18,h⟩:=h
  refine T_l1 39 70 q18 [38]<|T_nd 1 [] [(40,vi j)]<|T_c (some 41) h ?_;clear h
  rintro a3 H4 ⟨s,r,ab,n,q,o,p,rb,rfl,h⟩
  refine T_pd [39,40] [(41,.tuple #[.agg #[vi s,vi r,vi ab,vi n,vi q,vi o,vi p],.bool rb])]<|T_nd 3 [41] [(42,.agg #[vi s,vi r,vi ab,vi n,vi q,vi o,vi p]),(43,.bool rb)]<|T_nw (some 5) (λb=>vp (pa b)) (.cells #[vi 0,vi 0,vi 0,vi 0,vi 0,vi 0,vi 0] 89) ?_
  intro b H5 e19 e20
  replace h:=h b H5 e19 e20
  refine T_pd [] [(5,vp (pa b))] ?_
  obtain⟨q22,h⟩:=h
  refine fG 89 [vi s,vi r,vi ab,vi n,vi q,vi o,vi p] q22 ?_
  intro H6 e21
  replace h:=h H6 e21
  refine T_pd [42] []<|T_ed 1 [43] []<|ar 5<|T_ed 1 [] [(7,vi 0)]<|T_bz 2 ?_
  obtain⟨an,m28,i23,i24⟩:=h
  refine bL (x:=K27) (σ:=Int) (λs_=> [(0,e),(1,Vq d),(4,vi j),(5,vp (pa b)),(7,vi s_),(23,vs (some g) xN xC),(24,vi xN),(25,vi f)]) (λs_ H=>an s_ H) (λs_ H=>m28 s_ H) (0:Int) (by kernel_rfl) i23 sk ?_
  rintro l H7 i25
  have h:=i24 l H7 i25
  refine T_su [(0,e),(1,Vq d),(4,vi j),(5,vp (pa b)),(7,vi l),(23,vs (some g) xN xC),(24,vi xN),(25,vi f)]<|T_sz<|ar 6<|T_nd 2 [] [(44,vi l),(45,Vq ((ad b).add 2))] ?_
  obtain⟨y,q26,h⟩:=h
  refine T_l1 46 3 q26 [45]<|T_ed 1 [44,46] [(47,.bool (decide (l<y)))] ?_
  by_cases c27:l<y
  ·rw[if_pos c27]at h
   refine aI 47 (zX c27)<|T_kt<|T_bz 3<|ar 7<|T_nd 1 [47] [(49,Vq ((ad b).add 1))] ?_
   obtain⟨ac,q29,h⟩:=h
   refine T_l1 50 3 q29 [49]<|T_c (some 51) h ?_;clear h
   rintro a4 H8 ⟨ae,rfl,h⟩
   refine T_pd [50] [(51,vi ae)]<|T_nd 4 [] [(55,vi (zY ((zY (j*64))+l)))]<|T_c (some 56) h ?_;clear h
   rintro a1 H9 ⟨ra,a0,rfl,h⟩
   refine T_pd [51,55] [(56,.tuple #[vu ra,vi a0])]<|T_ed 5 [56] [(8,vu ra)]<|ar 8 ?_
   obtain⟨aa,q30,h⟩:=h
   refine T_l1 59 28 q30 []<|T_nd 1 [] [(60,vu ra)]<|T_c (some 61) h ?_;clear h
   rintro a7 a2 ⟨m,rfl,h⟩
   refine T_pd [59,60] [(61,vi m)]<|T_ed 1 [61] [(10,vi m)]<|T_sz<|ar 9<|T_nd 3 [8] [(62,e),(63,vu ra),(64,vi m)]<|l9 (some 65) e #[vu ra,vi m] (λ_=>by kernel_rfl) h ?_;clear h
   rintro a6 al ⟨u,rfl,h⟩
   refine T_pd [62,63,64] [(65,.bool u)]<|T_ed 1 [65] [(66,.bool (!u))] ?_
   by_cases c31:u=true
   ·rw[if_pos c31]at h
    refine aJ 66 (congrArg Bool.not (c31))<|T_kt<|T_sz<|ar 10<|T_ed 2 [66] [(68,.bool (m==0))] ?_
    by_cases c33:m=0
    ·rw[if_pos c33]at h
     exact aI 68 (zK c33)<|zk 2<|aD<|zj<|aD<|aM<|aA<|aE<|T_rz 12<|T_ed 2 [4,5,7,10,25,68] [(25,vi (zY (f+1)))]<|aS ((zY (f+1)):Int) sk h
    rw[if_neg c33]at h
    exact aJ 68 (zJ c33)<|T_kt<|T_rz 11<|T_nd 4 [7,10,68] [(7,vi (zY (l+m)))]<|zq<|aA<|aE<|aS ((zY (l+m)):Int) sk h
   rw[if_neg c31]at h
   exact aI 66 (congrArg Bool.not (zZ c31))<|jF [] [] hQ h
  rw[if_neg c27]at h
  exact aJ 47 (zQ c27)<|zk 2<|aD<|aD<|aM<|aA<|aE<|T_rz 12<|T_ed 2 [4,5,7,25,47] [(25,vi (zY (f+1)))]<|aS ((zY (f+1)):Int) sk h
 rw[if_neg c11]at h
 exact aJ 26 (zQ c11)<|zk 0<|aD<|aD<|aM<|iG (fn:=f101) [] hQ (show cG _ _ _ [] _ from .nil) h
end iC
/-! moraine/audit.tags -/
namespace jN
def K0:=Func.code f102
end jN
def jN.pt(a:Int)(H:zV)(R:zv):Prop:=
 ∃x,((0<=a/\a< (4:Int))/\(#[vi 1,vi 2,vi 3,vi 3]:Array Value)[Int.toNat a]?=some (vi x))/\
 R (vi x) H
namespace jN
theorem link{a:Int}(h:pt a H R):C a H R:=by
 refine T_en K0 6 func102 ?_
 intro w0 Q hQ
 unfold pt at h
 refine T_su [(0,vi a)]<|ar 0<|T_ed 1 [] []<|ar 1<|T_n 2 [(3,.agg #[vi 1,vi 2,vi 3,vi 3]),(4,vi a)] ?_
 obtain⟨x,q1,h⟩:=h
 exact T_v1 5 (mD 71 (.agg #[vi 1,vi 2,vi 3,vi 3]) (vi a)) (vi x) (λw _=>j2 (P:=prog) (t:=71) (elem:=3) (n:=4) underlying71 (λ_=>by kernel_rfl) (λ_=>by kernel_rfl) q1.1.1 q1.1.2 q1.2 w) [3,4]<|T_nr 1 [2] [vi x] hQ h
end jN
/-! moraine/audit.Picture -/
namespace eR
def K0:=Func.code f16
def K2:=cb K0
def K4:=cb K2
def K6:=cb K4
def K7:=ca K6
def K8:=cb K6
def K10:=cb K7
def K11:=ca K10
def K12:=ca K11
def K25:=cb K8
def K26:=ca K25
def K29:=cb K26
def K30:=ca K29
def K31:=ca K30
def K33:=cb K31
def K35:=cb K33
def K38:=ca K35
def K40:=ca K38
def K42:=cb K40
def K43:=ca K42
def K44:=cb K42
def K45:=ca K44
def K46:=cb K44
def K48:=cb K45
def K49:=ca K48
def K50:=ca K49
def K51:=cb K49
def K63:=ca K46
def K66:=cb K63
def K67:=ca K66
def K68:=ca K67
def K69:=ca K68
def K71:=ca K69
end eR
def eR.pt(hv ae:zW)(p u:Nat)(H:zV)(R:zv):Prop:=
 ∀b H1,b=H.size->H1=H.push (.cells #[vp hv] 28)->
 ∃x,hat H1 (ad b)=some (vp x)/\
 jw.C x ae p u H1 (λv H2=> ∃ai d m rb,v=.tuple #[vs ai d m,.map rb]/\
 ∀l H3,l=H2.size->H3=H2.push (.cells #[.map none] 100)->
 (aK H3 (ad l) 0 1)/\ ∀H4,H4=aR H3 (ad l) [.map rb] 0->
 ∀a0 H5,a0=H4.size->H5=H4.push (.cells #[vi 0,vi 0,vu 0,VN,VN] 61)->
 ∃(gi:zw) (m13:Int->zV->Nat),gi 0 H5/\ ∀an H6,gi an H6->
 if an< (p:Int)then(
 ∃ag,ae=some ag/\
 yZ an p/\
 ∃bk,hat H6 (ag.add (Int.toNat an*1))=some (vu bk)/\
 ∃f5,hat H6 (ad l)=some (.map f5)/\
 ∃mr,f5=some mr/\
 ∃es cl ks,H6[mr]?=some (.map es cl)/\Ents (bF .u64) es.toList ks/\
 ∃f6,(mget ks bk).getD (vi 0)=vi f6/\
 bA.C (some (ad a0)) bk f6 H6 (λ_ H7=>
 (gi (zY (an+1)) H7/\m13 (zY (an+1)) H7<m13 an H6)))
 else
 ∃fm dn dp bp bq bm fc e0 ff,aQ H6 (ad a0) 0 [vi fm,vi dn,vu dp,vs bp bq bm,vs fc e0 ff]/\
 ∀fp H8,fp=H6.size->H8=H6.push (.cells #[vi fm,vi dn,vu dp,vs bp bq bm,vs fc e0 ff] 61)->
 ∃(c5:zW->Nat->Nat->Int->(List Nat)->zV->Prop) (m32:zW->Nat->Nat->Int->(List Nat)->zV->Nat),c5 (some (ad fp)) 1 1 0 ([]) H8/\ ∀(f:zW) (outN:Nat) (outC:Nat) (s42:Int) (ms:List Nat) (H9:zV),c5 f outN outC s42 ms H9->
 if s42< (d:Int)then(
 ∃j,ai=some j/\
 yZ s42 d/\
 ∃eh,hat H9 (j.add (Int.toNat s42*1))=some (vu eh)/\
 ∀e H10,e=H9.size->H10=H9.push (.cells #[vu 0] 40)->
 (aK H10 (ad e) 0 1)/\ ∀c8,c8=aR H10 (ad e) [vu eh] 0->
 ∃b0,hat c8 (ad e)=some (vu b0)/\
 ∃a4,hat c8 (ad b)=some (vp a4)/\
 ∃a5,hat c8 (ad e)=some (vu a5)/\
 ∃av,hat c8 (ad b)=some (vp av)/\
 ∃ah,hat c8 (ad e)=some (vu ah)/\
 (
 cS.C b0 c8 (λjh fs=> ∃af,jh=vi af/\aQ fs (ad b) 0 [vp a4]/\aQ fs (ad e) 0 [vu a5]/\aQ fs (ad b) 0 [vp av]/\aQ fs (ad e) 0 [vu ah]/\
 (
 cP.C a4 a5 fs (λjf f8=> ∃aw,jf=vi aw/\aQ f8 (ad b) 0 [vp av]/\aQ f8 (ad e) 0 [vu ah]/\
 (
 eS.C av ah f8 (λje ia=> ∃bx,je=vu bx/\
 ∀r H15,r=ia.size->H15=ia.push (.cells #[vi 0,vi 0,vu 0,VN,VN] 61)->
 (aK H15 (ad r) 0 5)/\ ∀f4,f4=aR H15 (ad r) [vi af,vi aw,vu bx,VN,VN] 0->
 ∃d2,hat f4 (ad b)=some (vp d2)/\
 ∃ex,hat f4 (ad e)=some (vu ex)/\
 bY.C d2 ex f4 (λfy fw=>fy=fy/\
 ∀(rc:LoopState->Option Code->Obj) (lp:Nat) (H18:zV),lp=fw.size+1->H18=(fw.push (.deferred (some []))).push (rc .ready none)->
 ∀vY,(∀(aj:Int) (x_18:Int) (H19:zV) (vRy:zv),H19[lp]?=some (rc .ready none)->
 (H19[lp]?=some (rc .ready none)/\ ∀fv,fv=aO H19 lp (rc .busy none)->
 ∃fg,hat fv (ad l)=some (.map fg)/\
 ∃gc,fg=some gc/\
 ∃gl cl_2 ks_2,fv[gc]?=some (.map gl cl_2)/\Ents (bF .u64) gl.toList ks_2/\
 ∃aa,(mget ks_2 x_18).getD (vi 0)=vi aa/\
 if aa=0 then(
 ∃et,hat fv (ad e)=some (vu et)/\
 cS.C et fv (λjl hb=> ∃dm,jl=vi dm/\
 if dm=2 then(
 ∃fd,hat hb (ad e)=some (vu fd)/\
 fI.C fd hb (λjd gy=> ∃c9,jd=vi c9/\
 if aj=c9 then(
 ∃ef,hat gy (ad b)=some (vp ef)/\
 bV.C ef x_18 gy (λjk hz=> ∃dg,jk=vi dg/\
 if dg>0 then(
 bA.C (some (ad r)) x_18 (-1) hz (λ_ he=>
 he[lp]?=some (rc .busy none)/\
 vRy VT (aO he lp (rc .ready none))))
 else
 bA.C (some (ad r)) x_18 aa hz (λ_ iz=>
 iz[lp]?=some (rc .busy none)/\
 vRy VT (aO iz lp (rc .ready none)))))
 else
 bA.C (some (ad r)) x_18 aa gy (λ_ h7=>
 h7[lp]?=some (rc .busy none)/\
 vRy VT (aO h7 lp (rc .ready none)))))
 else
 bA.C (some (ad r)) x_18 aa hb (λ_ i8=>
 i8[lp]?=some (rc .busy none)/\
 vRy VT (aO i8 lp (rc .ready none)))))
 else
 bA.C (some (ad r)) x_18 aa fv (λ_ ht=>
 ht[lp]?=some (rc .busy none)/\
 vRy VT (aO ht lp (rc .ready none))))->
 FC prog vY #[vi aj,vu x_18] H19 vRy)->
 FE prog fy #[vY] H18 (λ_ ir=>
 (ir[lp]?=some (rc .ready none)/\ ∀g7,g7=aO ir lp (rc .exhausted none)->
 ∃(gj:zw) (m69:Int->zV->Nat),gj 0 g7/\ ∀i H31,gj i H31->
 ∃xB xN xC,hat H31 ((ad r).add 3)=some (vs xB xN xC)/\
 ∃da,hat H31 (ad b)=some (vp da)/\
 ∃eg,hat H31 (ad e)=some (vu eg)/\
 cY.C da eg H31 (λi6 ek=> ∃b1,i6=vi b1/\aQ ek ((ad r).add 3) 0 [vs xB xN xC]/\
 if(xN:Int)<b1 then(
 ∃b9,hat ek (ad b)=some (vp b9)/\
 ∃c0,hat ek (ad e)=some (vu c0)/\
 ∃d7,hat ek ((ad r).add 1)=some (vi d7)/\
 eG.C b9 c0 d7 i ek (λhj jg=> ∃ra gw,hj=.tuple #[vu ra,vi gw]/\
 bA.C (some (ad r)) ra 0 jg (λ_ hf=>
 (gj (zY (i+1)) hf/\m69 (zY (i+1)) hf<m69 i H31))))
 else
 ∃ck bu bs a7 bc bg cm cq cr,aQ ek (ad r) 0 [vi ck,vi bu,vu bs,vs a7 bc bg,vs cm cq cr]/\
 ∀f3 H35,f3=ek.size->H35=ek.push (.cells #[vi ck,vi bu,vu bs,vs a7 bc bg,vs cm cq cr] 61)->
 bR 5 61 72 [vi 0,vi 0,vu 0,VN,VN] f outN outC (some (ad f3)) 1 H35 (λap fz i5=>
 (c5 ap (outN+1) fz (zY (s42+1)) (fw.size::ms) i5/\m32 ap (outN+1) fz (zY (s42+1)) (fw.size::ms) i5<m32 f outN outC s42 ms H9))))))))/\(
 ∀q H37,q=f8.size->H37=f8.push (.cells #[vi 0,vi 0,vu 0,VN,VN] 61)->aQ H37 (ad b) 0 [vp av]/\aQ H37 (ad e) 0 [vu ah]/\
 eS.C av ah H37 (λiq hd=> ∃b8,iq=vu b8/\
 (aK hd (ad q) 0 5)/\ ∀f2,f2=aR hd (ad q) [vi af,vi aw,vu b8,VN,VN] 0->
 ∃d6,hat f2 (ad b)=some (vp d6)/\
 ∃em,hat f2 (ad e)=some (vu em)/\
 bY.C d6 em f2 (λdv f1=>dv=dv/\
 ∀(a3:LoopState->Option Code->Obj) (lp_2:Nat) (H41:zV),lp_2=f1.size+1->H41=(f1.push (.deferred (some []))).push (a3 .ready none)->
 ∀i0,(∀(am:Int) (x_38:Int) (H42:zV) (vRy_2:zv),H42[lp_2]?=some (a3 .ready none)->
 (H42[lp_2]?=some (a3 .ready none)/\ ∀fq,fq=aO H42 lp_2 (a3 .busy none)->
 ∃fo,hat fq (ad l)=some (.map fo)/\
 ∃gf,fo=some gf/\
 ∃gk cl_3 ks_3,fq[gf]?=some (.map gk cl_3)/\Ents (bF .u64) gk.toList ks_3/\
 ∃ac,(mget ks_3 x_38).getD (vi 0)=vi ac/\
 if ac=0 then(
 ∃ev,hat fq (ad e)=some (vu ev)/\
 cS.C ev fq (λib g3=> ∃df,ib=vi df/\
 if df=2 then(
 ∃ez,hat g3 (ad e)=some (vu ez)/\
 fI.C ez g3 (λh0 g8=> ∃c7,h0=vi c7/\
 if am=c7 then(
 ∃d8,hat g8 (ad b)=some (vp d8)/\
 bV.C d8 x_38 g8 (λiw hi=> ∃di,iw=vi di/\
 if di>0 then(
 bA.C (some (ad q)) x_38 (-1) hi (λ_ it=>
 it[lp_2]?=some (a3 .busy none)/\
 vRy_2 VT (aO it lp_2 (a3 .ready none))))
 else
 bA.C (some (ad q)) x_38 ac hi (λ_ hu=>
 hu[lp_2]?=some (a3 .busy none)/\
 vRy_2 VT (aO hu lp_2 (a3 .ready none)))))
 else
 bA.C (some (ad q)) x_38 ac g8 (λ_ h9=>
 h9[lp_2]?=some (a3 .busy none)/\
 vRy_2 VT (aO h9 lp_2 (a3 .ready none)))))
 else
 bA.C (some (ad q)) x_38 ac g3 (λ_ iu=>
 iu[lp_2]?=some (a3 .busy none)/\
 vRy_2 VT (aO iu lp_2 (a3 .ready none)))))
 else
 bA.C (some (ad q)) x_38 ac fq (λ_ jc=>
 jc[lp_2]?=some (a3 .busy none)/\
 vRy_2 VT (aO jc lp_2 (a3 .ready none))))->
 FC prog i0 #[vi am,vu x_38] H42 vRy_2)->
 FE prog dv #[i0] H41 (λ_ ii=>
 (ii[lp_2]?=some (a3 .ready none)/\ ∀g4,g4=aO ii lp_2 (a3 .exhausted none)->
 ∃(bi:zw) (m80:Int->zV->Nat),bi 0 g4/\ ∀aq H54,bi aq H54->
 ∃fe az er,hat H54 ((ad q).add 3)=some (vs fe az er)/\
 ∃dj,hat H54 (ad b)=some (vp dj)/\
 ∃dy,hat H54 (ad e)=some (vu dy)/\
 cY.C dj dy H54 (λhy ej=> ∃bz,hy=vi bz/\aQ ej ((ad q).add 3) 0 [vs fe az er]/\
 if(az:Int)<bz then(
 ∃b6,hat ej (ad b)=some (vp b6)/\
 ∃c3,hat ej (ad e)=some (vu c3)/\
 ∃dt,hat ej ((ad q).add 1)=some (vi dt)/\
 eG.C b6 c3 dt aq ej (λh3 ji=> ∃d4 gu,h3=.tuple #[vu d4,vi gu]/\
 bA.C (some (ad q)) d4 0 ji (λ_ i9=>
 (bi (zY (aq+1)) i9/\m80 (zY (aq+1)) i9<m80 aq H54))))
 else
 ∃ch br bl bb ba a8 cg cn cp,aQ ej (ad q) 0 [vi ch,vi br,vu bl,vs bb ba a8,vs cg cn cp]/\
 ∀gb H58,gb=ej.size->H58=ej.push (.cells #[vi ch,vi br,vu bl,vs bb ba a8,vs cg cn cp] 61)->
 bR 5 61 72 [vi 0,vi 0,vu 0,VN,VN] f outN outC (some (ad gb)) 1 H58 (λeb c4 iv=>
 (c5 eb (outN+1) c4 (zY (s42+1)) (f1.size::ms) iv/\m32 eb (outN+1) c4 (zY (s42+1)) (f1.size::ms) iv<m32 f outN outC s42 ms H9))))))))))/\(
 ∀o H60,o=fs.size->H60=fs.push (.cells #[vi 0,vi 0,vu 0,VN,VN] 61)->aQ H60 (ad b) 0 [vp a4]/\aQ H60 (ad e) 0 [vu a5]/\aQ H60 (ad b) 0 [vp av]/\aQ H60 (ad e) 0 [vu ah]/\
 cP.C a4 a5 H60 (λh2 ha=> ∃b3,h2=vi b3/\aQ ha (ad b) 0 [vp av]/\aQ ha (ad e) 0 [vu ah]/\
 eS.C av ah ha (λh8 g2=> ∃b7,h8=vu b7/\
 (aK g2 (ad o) 0 5)/\ ∀f7,f7=aR g2 (ad o) [vi af,vi b3,vu b7,VN,VN] 0->
 ∃dz,hat f7 (ad b)=some (vp dz)/\
 ∃fk,hat f7 (ad e)=some (vu fk)/\
 bY.C dz fk f7 (λd0 f0=>d0=d0/\
 ∀(a1:LoopState->Option Code->Obj) (lp_3:Nat) (H65:zV),lp_3=f0.size+1->H65=(f0.push (.deferred (some []))).push (a1 .ready none)->
 ∀h5,(∀(al:Int) (x_59:Int) (H66:zV) (vRy_3:zv),H66[lp_3]?=some (a1 .ready none)->
 (H66[lp_3]?=some (a1 .ready none)/\ ∀fu,fu=aO H66 lp_3 (a1 .busy none)->
 ∃ew,hat fu (ad l)=some (.map ew)/\
 ∃gg,ew=some gg/\
 ∃gx cl_4 ks_4,fu[gg]?=some (.map gx cl_4)/\Ents (bF .u64) gx.toList ks_4/\
 ∃ab,(mget ks_4 x_59).getD (vi 0)=vi ab/\
 if ab=0 then(
 ∃eu,hat fu (ad e)=some (vu eu)/\
 cS.C eu fu (λi3 g5=> ∃dd,i3=vi dd/\
 if dd=2 then(
 ∃el,hat g5 (ad e)=some (vu el)/\
 fI.C el g5 (λim g0=> ∃dk,im=vi dk/\
 if al=dk then(
 ∃d9,hat g0 (ad b)=some (vp d9)/\
 bV.C d9 x_59 g0 (λhx ix=> ∃de,hx=vi de/\
 if de>0 then(
 bA.C (some (ad o)) x_59 (-1) ix (λ_ hq=>
 hq[lp_3]?=some (a1 .busy none)/\
 vRy_3 VT (aO hq lp_3 (a1 .ready none))))
 else
 bA.C (some (ad o)) x_59 ab ix (λ_ ih=>
 ih[lp_3]?=some (a1 .busy none)/\
 vRy_3 VT (aO ih lp_3 (a1 .ready none)))))
 else
 bA.C (some (ad o)) x_59 ab g0 (λ_ i7=>
 i7[lp_3]?=some (a1 .busy none)/\
 vRy_3 VT (aO i7 lp_3 (a1 .ready none)))))
 else
 bA.C (some (ad o)) x_59 ab g5 (λ_ il=>
 il[lp_3]?=some (a1 .busy none)/\
 vRy_3 VT (aO il lp_3 (a1 .ready none)))))
 else
 bA.C (some (ad o)) x_59 ab fu (λ_ h6=>
 h6[lp_3]?=some (a1 .busy none)/\
 vRy_3 VT (aO h6 lp_3 (a1 .ready none))))->
 FC prog h5 #[vi al,vu x_59] H66 vRy_3)->
 FE prog d0 #[h5] H65 (λ_ hh=>
 (hh[lp_3]?=some (a1 .ready none)/\ ∀g9,g9=aO hh lp_3 (a1 .exhausted none)->
 ∃(bi:zw) (m80:Int->zV->Nat),bi 0 g9/\ ∀au H78,bi au H78->
 ∃ey ax fh,hat H78 ((ad o).add 3)=some (vs ey ax fh)/\
 ∃db,hat H78 (ad b)=some (vp db)/\
 ∃d5,hat H78 (ad e)=some (vu d5)/\
 cY.C db d5 H78 (λjb ei=> ∃b5,jb=vi b5/\aQ ei ((ad o).add 3) 0 [vs ey ax fh]/\
 if(ax:Int)<b5 then(
 ∃cd,hat ei (ad b)=some (vp cd)/\
 ∃cy,hat ei (ad e)=some (vu cy)/\
 ∃d1,hat ei ((ad o).add 1)=some (vi d1)/\
 eG.C cd cy d1 au ei (λij jj=> ∃dq gr,ij=.tuple #[vu dq,vi gr]/\
 bA.C (some (ad o)) dq 0 jj (λ_ hg=>
 (bi (zY (au+1)) hg/\m80 (zY (au+1)) hg<m80 au H78))))
 else
 ∃ct bt bn a9 bd a6 ci co cw,aQ ei (ad o) 0 [vi ct,vi bt,vu bn,vs a9 bd a6,vs ci co cw]/\
 ∀ep H82,ep=ei.size->H82=ei.push (.cells #[vi ct,vi bt,vu bn,vs a9 bd a6,vs ci co cw] 61)->
 bR 5 61 72 [vi 0,vi 0,vu 0,VN,VN] f outN outC (some (ad ep)) 1 H82 (λdu cz ja=>
 (c5 du (outN+1) cz (zY (s42+1)) (f0.size::ms) ja/\m32 du (outN+1) cz (zY (s42+1)) (f0.size::ms) ja<m32 f outN outC s42 ms H9)))))))))))/\(
 ∀n H84,n=c8.size->H84=c8.push (.cells #[vi 0,vi 0,vu 0,VN,VN] 61)->aQ H84 (ad e) 0 [vu b0]/\aQ H84 (ad b) 0 [vp a4]/\aQ H84 (ad e) 0 [vu a5]/\aQ H84 (ad b) 0 [vp av]/\aQ H84 (ad e) 0 [vu ah]/\
 cS.C b0 H84 (λh1 f9=> ∃bj,h1=vi bj/\aQ f9 (ad b) 0 [vp a4]/\aQ f9 (ad e) 0 [vu a5]/\aQ f9 (ad b) 0 [vp av]/\aQ f9 (ad e) 0 [vu ah]/\
 cP.C a4 a5 f9 (λhp g6=> ∃b2,hp=vi b2/\aQ g6 (ad b) 0 [vp av]/\aQ g6 (ad e) 0 [vu ah]/\
 eS.C av ah g6 (λip gz=> ∃cc,ip=vu cc/\
 (aK gz (ad n) 0 5)/\ ∀ga,ga=aR gz (ad n) [vi bj,vi b2,vu cc,VN,VN] 0->
 ∃ea,hat ga (ad b)=some (vp ea)/\
 ∃fi,hat ga (ad e)=some (vu fi)/\
 bY.C ea fi ga (λdw fx=>dw=dw/\
 ∀(a2:LoopState->Option Code->Obj) (lp_4:Nat) (H90:zV),lp_4=fx.size+1->H90=(fx.push (.deferred (some []))).push (a2 .ready none)->
 ∀ie,(∀(ak:Int) (x_81:Int) (H91:zV) (vRy_4:zv),H91[lp_4]?=some (a2 .ready none)->
 (H91[lp_4]?=some (a2 .ready none)/\ ∀ft,ft=aO H91 lp_4 (a2 .busy none)->
 ∃e3,hat ft (ad l)=some (.map e3)/\
 ∃gd,e3=some gd/\
 ∃gq cl_5 ks_5,ft[gd]?=some (.map gq cl_5)/\Ents (bF .u64) gq.toList ks_5/\
 ∃y,(mget ks_5 x_81).getD (vi 0)=vi y/\
 if y=0 then(
 ∃e7,hat ft (ad e)=some (vu e7)/\
 cS.C e7 ft (λi1 hc=> ∃c6,i1=vi c6/\
 if c6=2 then(
 ∃eo,hat hc (ad e)=some (vu eo)/\
 fI.C eo hc (λi2 g1=> ∃dl,i2=vi dl/\
 if ak=dl then(
 ∃dx,hat g1 (ad b)=some (vp dx)/\
 bV.C dx x_81 g1 (λhl ho=> ∃dc,hl=vi dc/\
 if dc>0 then(
 bA.C (some (ad n)) x_81 (-1) ho (λ_ ik=>
 ik[lp_4]?=some (a2 .busy none)/\
 vRy_4 VT (aO ik lp_4 (a2 .ready none))))
 else
 bA.C (some (ad n)) x_81 y ho (λ_ iy=>
 iy[lp_4]?=some (a2 .busy none)/\
 vRy_4 VT (aO iy lp_4 (a2 .ready none)))))
 else
 bA.C (some (ad n)) x_81 y g1 (λ_ ig=>
 ig[lp_4]?=some (a2 .busy none)/\
 vRy_4 VT (aO ig lp_4 (a2 .ready none)))))
 else
 bA.C (some (ad n)) x_81 y hc (λ_ ic=>
 ic[lp_4]?=some (a2 .busy none)/\
 vRy_4 VT (aO ic lp_4 (a2 .ready none)))))
 else
 bA.C (some (ad n)) x_81 y ft (λ_ gp=>
 gp[lp_4]?=some (a2 .busy none)/\
 vRy_4 VT (aO gp lp_4 (a2 .ready none))))->
 FC prog ie #[vi ak,vu x_81] H91 vRy_4)->
 FE prog dw #[ie] H90 (λ_ gs=>
 (gs[lp_4]?=some (a2 .ready none)/\ ∀gh,gh=aO gs lp_4 (a2 .exhausted none)->
 ∃(bi:zw) (m80:Int->zV->Nat),bi 0 gh/\ ∀ao H103,bi ao H103->
 ∃fj ay fl,hat H103 ((ad n).add 3)=some (vs fj ay fl)/\
 ∃dh,hat H103 (ad b)=some (vp dh)/\
 ∃d3,hat H103 (ad e)=some (vu d3)/\
 cY.C dh d3 H103 (λi4 c1=> ∃b4,i4=vi b4/\aQ c1 ((ad n).add 3) 0 [vs fj ay fl]/\
 if(ay:Int)<b4 then(
 ∃ce,hat c1 (ad b)=some (vp ce)/\
 ∃c2,hat c1 (ad e)=some (vu c2)/\
 ∃ee,hat c1 ((ad n).add 1)=some (vi ee)/\
 eG.C ce c2 ee ao c1 (λh4 hs=> ∃ec gm,h4=.tuple #[vu ec,vi gm]/\
 bA.C (some (ad n)) ec 0 hs (λ_ gv=>
 (bi (zY (ao+1)) gv/\m80 (zY (ao+1)) gv<m80 ao H103))))
 else
 ∃cv bo bw bf bh be cu cj cs,aQ c1 (ad n) 0 [vi cv,vi bo,vu bw,vs bf bh be,vs cu cj cs]/\
 ∀en H107,en=c1.size->H107=c1.push (.cells #[vi cv,vi bo,vu bw,vs bf bh be,vs cu cj cs] 61)->
 bR 5 61 72 [vi 0,vi 0,vu 0,VN,VN] f outN outC (some (ad en)) 1 H107 (λdr cx gn=>
 (c5 dr (outN+1) cx (zY (s42+1)) (fx.size::ms) gn/\m32 dr (outN+1) cx (zY (s42+1)) (fx.size::ms) gn<m32 f outN outC s42 ms H9)))))))))))
 else
 Shut (ms) H9 (λio=>
 R (vs f outN outC) io))
namespace eR
theorem link{hv ae:zW}{p u:Nat}{H:zV}{R:zv}(h:pt hv ae p u H R):C hv ae p u H R:=by
 refine T_en K0 111 func16 ?_
 intro w0 Q hQ
 unfold pt zY at h
 refine T_su [(0,vp hv),(1,vs ae p u)]<|ar 0<|T_nw (some 2) (λb=>vp (pa b)) (.cells #[vp hv] 28) ?_
 intro b H1 e1 e2
 replace h:=h b H1 e1 e2
 refine T_pd [0] [(2,vp (pa b))]<|T_ed 1 [] []<|ar 1 ?_
 obtain⟨x,q3,h⟩:=h
 refine T_l1 21 28 q3 []<|T_nd 1 [] [(22,vs ae p u)]<|T_c (some 23) h ?_;clear h
 rintro v H2 ⟨ai,d,m,rb,rfl,h⟩
 refine T_pd [21,22] [(23,.tuple #[vs ai d m,.map rb])]<|T_nd 3 [23] [(24,vs ai d m),(25,.map rb)]<|T_nw (some 6) (λb=>vp (pa b)) (.cells #[.map none] 100) ?_
 intro l H3 e4 e5
 replace h:=h l H3 e4 e5
 refine T_pd [] [(6,vp (pa l))]<|T_nd 1 [24] [(5,vs ai d m)] ?_
 obtain⟨q7,h⟩:=h
 refine fH 100 (.map rb) q7 ?_
 intro H4 e6
 replace h:=h H4 e6
 refine T_pd [25] []<|T_e<|ar 2<|T_nw (some 7) (λb=>vp (pa b)) (.cells #[vi 0,vi 0,vu 0,VN,VN] 61) ?_
 intro a0 H5 e8 e9
 replace h:=h a0 H5 e8 e9
 refine T_pd [] [(7,vp (pa a0))]<|T_e<|T_sz<|ar 3<|T_ed 3 [1] [(26,vs ae p u),(27,vi p),(28,vi 0)]<|T_bz 0 ?_
 obtain⟨gi,m13,i10,i11⟩:=h
 refine bL (x:=K12) (σ:=Int) (λs_=> [(2,vp (pa b)),(5,vs ai d m),(6,vp (pa l)),(7,vp (pa a0)),(26,vs ae p u),(27,vi p),(28,vi s_)]) (λs_ H=>gi s_ H) (λs_ H=>m13 s_ H) (0:Int) (by kernel_rfl) i10 sk ?_
 rintro an H6 i12
 have h:=i11 an H6 i12
 refine T_su [(2,vp (pa b)),(5,vs ai d m),(6,vp (pa l)),(7,vp (pa a0)),(26,vs ae p u),(27,vi p),(28,vi an)]<|ar 4<|T_ed 1 [] [(29,.bool (decide (an< (p:Int))))]<|T_sz ?_
 by_cases c13:an< (p:Int)
 ·rw[if_pos c13]at h
  refine aI 29 (zX c13)<|T_kt<|T_sz<|T_bz 1<|ar 5<|T_ud [29] [] ?_
  obtain⟨ag,rfl,q15,h⟩:=h
  refine T_xd (some 30) 29 40 1 ag p u .i64 an underlying29 q15.1 q15.2 [26] [(26,vs (some ag) p u),(30,Vq (ag.add (Int.toNat an*1)))] ?_
  obtain⟨bk,q16,h⟩:=h
  refine T_l1 31 40 q16 [30]<|T_ed 1 [31] [(9,vu bk)]<|T_rz 6<|T_nd 1 [] [(32,vu bk)] ?_
  obtain⟨f5,q17,h⟩:=h
  refine T_l1 33 100 q17 []<|T_nd 1 [9] [(34,vu bk)] ?_
  obtain⟨mr,rfl,es,cl,ks,q18,q19,f6,e21,h⟩:=h
  refine T_v1 35 (jU 100 (.map (some mr)) (vu bk) false) (vi f6) (λw hw=>(iI (kk:=(bF .u64)) (z:=vi 0) underlying100 underlying40 (λ_=>by kernel_rfl) (by rw[hw];exact q18) q19 false).trans (by simp only[if_true,Bool.false_eq_true,if_false,e21])) [33,34]<|T_c (some 36) h ?_;clear h
  intro v_2 H7 h
  exact T_pd [32,35] []<|zq<|aA<|aE<|T_rz 7<|T_ed 2 [28] [(28,vi (zY (an+1)))]<|aS ((zY (an+1)):Int) sk h
 rw[if_neg c13]at h
 refine aJ 29 (zQ c13)<|zk 0<|aD<|aD<|aM<|aE<|ar 8<|T_ud [26,27,28,29] [] ?_
 obtain⟨fm,dn,dp,bp,bq,bm,fc,e0,ff,q23,h⟩:=h
 refine T_lr 38 61 q23 [7]<|T_nw (some 39) (λb=>vs (pa b) 1 1) (.cells #[vi fm,vi dn,vu dp,vs bp bq bm,vs fc e0 ff] 61) ?_
 intro fp H8 e24 e25
 replace h:=h fp H8 e24 e25
 refine T_pd [38] [(39,vs (pa fp) 1 1)]<|T_ed 1 [39] [(10,vs (pa fp) 1 1)]<|T_sz<|ar 9<|T_ed 3 [5] [(40,vs ai d m),(41,vi d),(42,vi 0)]<|T_bz 2 ?_
 obtain⟨c5,m32,i26,i27⟩:=h
 refine rm (x:=K31) (σ:=zW×Nat×Nat×Int×(List Nat)) (λs_=> [(2,vp (pa b)),(6,vp (pa l)),(10,vs s_.1 s_.2.1 s_.2.2.1),(40,vs ai d m),(41,vi d),(42,vi s_.2.2.2.1)]) (λs_=>s_.2.2.2.2) (λs_ H=>c5 s_.1 s_.2.1 s_.2.2.1 s_.2.2.2.1 s_.2.2.2.2 H) (λs_ H=>m32 s_.1 s_.2.1 s_.2.2.1 s_.2.2.2.1 s_.2.2.2.2 H) (((pa fp),1,1,0,([])):zW×Nat×Nat×Int×(List Nat)) (by kernel_rfl) i26 sk ?_
 rintro⟨f,outN,outC,s42,ms⟩ H9 i28
 have h:=i27 f outN outC s42 ms H9 i28
 refine T_su [(2,vp (pa b)),(6,vp (pa l)),(10,vs f outN outC),(40,vs ai d m),(41,vi d),(42,vi s42)]<|ar 10<|T_ed 1 [] [(43,.bool (decide (s42< (d:Int))))]<|T_sz ?_
 by_cases c29:s42< (d:Int)
 ·rw[if_pos c29]at h
  refine aI 43 (zX c29)<|T_kt<|T_sz<|T_bz 3<|ar 11<|T_ud [43] [] ?_
  obtain⟨j,rfl,q31,h⟩:=h
  refine T_xd (some 44) 29 40 1 j d m .i64 s42 underlying29 q31.1 q31.2 [40] [(40,vs (some j) d m),(44,Vq (j.add (Int.toNat s42*1)))] ?_
  obtain⟨eh,q32,h⟩:=h
  refine T_l1 45 40 q32 [44]<|T_nw (some 12) (λb=>vp (pa b)) (.cells #[vu 0] 40) ?_
  intro e H10 e33 e34
  replace h:=h e H10 e33 e34
  refine T_pd [] [(12,vp (pa e))] ?_
  obtain⟨q36,h⟩:=h
  refine fH 40 (vu eh) q36 ?_
  intro c8 e35
  replace h:=h c8 e35
  refine T_pd [45] []<|T_e<|T_sz ?_
  obtain⟨b0,q37,a4,q38,a5,q39,av,q40,ah,q41,h⟩:=h
  refine yq 12 (Code.ops K43) [(1,(ad e),[vu b0]),(4,(ad b),[vp a4]),(4,(ad e),[vu a5]),(7,(ad b),[vp av]),(7,(ad e),[vu ah])] 11 (bv 11 0) (show aF _ _ _ from⟨⟨q37,trivial⟩,⟨q38,trivial⟩,⟨q39,trivial⟩,⟨q40,trivial⟩,⟨q41,trivial⟩,trivial⟩)<|T_g 0 (some 46) (vu b0) (bv 11 1) [(2,vp (pa b)),(6,vp (pa l)),(10,vs f outN outC),(12,vp (pa e)),(40,vs (some j) d m),(41,vi d),(42,vi s42),(46,vu b0)] (aU 40 (vp (pa e))) (yY 1 yX)<|T_g1 2 48 (vp a4) (bv 11 5) [] (aU 28 (vp (pa b))) (yY 4 yQ)<|T_g1 3 49 (vu a5) (bv 11 13) [] (aU 40 (vp (pa e))) (yY 4 yJ)<|T_g1 5 51 (vp av) (bv 11 45) [] (aU 28 (vp (pa b))) (yY 7 yK)<|T_g1 6 52 (vu ah) (bv 11 109) [] (aU 40 (vp (pa e))) (yY 7 yV) ?_
  refine pv 1 9 (by kernel_rfl) ?fa1 ?fb1
  case' fa1=>
   replace h:=h.1
   refine pw 1 (some 47) (bv 11 111) 46 #[vu b0] (by kernel_rfl) (λ_=>by kernel_rfl) h (by kernel_rfl) ?_;clear h
   rintro jh fs ⟨af,rfl,f42,f43,f44,f45,h⟩
   refine⟨[(2,vp (pa b)),(6,vp (pa l)),(10,vs f outN outC),(12,vp (pa e)),(40,vs (some j) d m),(41,vi d),(42,vi s42),(47,vi af),(48,vp a4),(49,vu a5),(51,vp av),(52,vu ah)],pk,(show aF _ _ _ from⟨trivial,f42,f43,f44,f45,trivial⟩),?_⟩
   refine pv 4 9 (by kernel_rfl) ?fa2 ?fb2
   case' fa2=>
    replace h:=h.1
    refine pw 4 (some 50) (bv 11 127) 47 #[vp a4,vu a5] (by kernel_rfl) (λ_=>by kernel_rfl) h (by kernel_rfl) ?_;clear h
    rintro jf f8 ⟨aw,rfl,f46,f47,h⟩
    refine⟨[(2,vp (pa b)),(6,vp (pa l)),(10,vs f outN outC),(12,vp (pa e)),(40,vs (some j) d m),(41,vi d),(42,vi s42),(47,vi af),(50,vi aw),(51,vp av),(52,vu ah)],pk,(show aF _ _ _ from⟨trivial,trivial,trivial,f46,f47,trivial⟩),?_⟩
    refine pv 7 9 (by kernel_rfl) ?fa3 ?fb3
    case' fa3=>
     replace h:=h.1
     refine pw 7 (some 53) (bv 11 255) 48 #[vp av,vu ah] (by kernel_rfl) (λ_=>by kernel_rfl) h (by kernel_rfl) ?_;clear h
     rintro je ia ⟨bx,rfl,h⟩
     refine⟨[(2,vp (pa b)),(6,vp (pa l)),(10,vs f outN outC),(12,vp (pa e)),(40,vs (some j) d m),(41,vi d),(42,vi s42),(47,vi af),(50,vi aw),(53,vu bx)],pk,(show aF _ _ _ from⟨trivial,trivial,trivial,trivial,trivial,trivial⟩),?_⟩
     refine T_g 8 (some 54) (.agg #[vi af,vi aw,vu bx,VN,VN]) (bv 11 511) [(2,vp (pa b)),(6,vp (pa l)),(10,vs f outN outC),(12,vp (pa e)),(40,vs (some j) d m),(41,vi d),(42,vi s42),(54,.agg #[vi af,vi aw,vu bx,VN,VN])] (pure (.value (.agg #[vi af,vi aw,vu bx,VN,VN])):Sem Next) (λ_ _ _ _ _=>rfl)<|na 9 (some 13) (bv 11 1023) (λb=>vp (pa b)) (.cells #[vi 0,vi 0,vu 0,VN,VN] 61) (by kernel_rfl) (λ_=>by kernel_rfl) (by kernel_rfl) ?_
     intro r H15 e48 e49
     replace h:=h r H15 e48 e49
     refine⟨[(2,vp (pa b)),(6,vp (pa l)),(10,vs f outN outC),(12,vp (pa e)),(13,vp (pa r)),(40,vs (some j) d m),(41,vi d),(42,vi s42),(54,.agg #[vi af,vi aw,vu bx,VN,VN])],pk,(show aF _ _ _ from⟨trivial,trivial,trivial,trivial,trivial,trivial⟩),?_⟩
    case' fb3=>
     replace h:=h.2
     refine rS 9 (some 13) (bv 11 639) (λb=>vp (pa b)) (.cells #[vi 0,vi 0,vu 0,VN,VN] 61) (by kernel_rfl) (λ_=>by kernel_rfl) (by kernel_rfl) ?_
     intro r H37 e102 e103
     replace h:=h r H37 e102 e103
     obtain⟨f100,f101,h⟩:=h
     refine⟨[(2,vp (pa b)),(6,vp (pa l)),(10,vs f outN outC),(12,vp (pa e)),(13,vp (pa r)),(40,vs (some j) d m),(41,vi d),(42,vi s42),(47,vi af),(50,vi aw),(51,vp av),(52,vu ah)],pk,(show aF _ _ _ from⟨trivial,trivial,trivial,f100,f101,trivial⟩),?_⟩
     refine yx 7 (some 53) (bv 11 767) 48 #[vp av,vu ah] h ?_;clear h
     rintro iq H15 ⟨bx,rfl,h⟩
     refine⟨[(2,vp (pa b)),(6,vp (pa l)),(10,vs f outN outC),(12,vp (pa e)),(13,vp (pa r)),(40,vs (some j) d m),(41,vi d),(42,vi s42),(47,vi af),(50,vi aw),(53,vu bx)],pk,(show aF _ _ _ from⟨trivial,trivial,trivial,trivial,trivial,trivial⟩),?_⟩
     refine T_g 8 (some 54) (.agg #[vi af,vi aw,vu bx,VN,VN]) (bv 11 1023) [(2,vp (pa b)),(6,vp (pa l)),(10,vs f outN outC),(12,vp (pa e)),(13,vp (pa r)),(40,vs (some j) d m),(41,vi d),(42,vi s42),(54,.agg #[vi af,vi aw,vu bx,VN,VN])] (pure (.value (.agg #[vi af,vi aw,vu bx,VN,VN])):Sem Next) (λ_ _ _ _ _=>rfl) ?_
   case' fb2=>
    replace h:=h.2
    refine rS 9 (some 13) (bv 11 623) (λb=>vp (pa b)) (.cells #[vi 0,vi 0,vu 0,VN,VN] 61) (by kernel_rfl) (λ_=>by kernel_rfl) (by kernel_rfl) ?_
    intro r H60 e158 e159
    replace h:=h r H60 e158 e159
    obtain⟨f154,f155,f156,f157,h⟩:=h
    refine⟨[(2,vp (pa b)),(6,vp (pa l)),(10,vs f outN outC),(12,vp (pa e)),(13,vp (pa r)),(40,vs (some j) d m),(41,vi d),(42,vi s42),(47,vi af),(48,vp a4),(49,vu a5),(51,vp av),(52,vu ah)],pk,(show aF _ _ _ from⟨trivial,f154,f155,f156,f157,trivial⟩),?_⟩
    refine yx 4 (some 50) (bv 11 639) 47 #[vp a4,vu a5] h ?_;clear h
    rintro h2 ha ⟨aw,rfl,f160,f161,h⟩
    refine⟨[(2,vp (pa b)),(6,vp (pa l)),(10,vs f outN outC),(12,vp (pa e)),(13,vp (pa r)),(40,vs (some j) d m),(41,vi d),(42,vi s42),(47,vi af),(50,vi aw),(51,vp av),(52,vu ah)],pk,(show aF _ _ _ from⟨trivial,trivial,trivial,f160,f161,trivial⟩),?_⟩
    refine yx 7 (some 53) (bv 11 767) 48 #[vp av,vu ah] h ?_;clear h
    rintro h8 H15 ⟨bx,rfl,h⟩
    refine⟨[(2,vp (pa b)),(6,vp (pa l)),(10,vs f outN outC),(12,vp (pa e)),(13,vp (pa r)),(40,vs (some j) d m),(41,vi d),(42,vi s42),(47,vi af),(50,vi aw),(53,vu bx)],pk,(show aF _ _ _ from⟨trivial,trivial,trivial,trivial,trivial,trivial⟩),?_⟩
    refine T_g 8 (some 54) (.agg #[vi af,vi aw,vu bx,VN,VN]) (bv 11 1023) [(2,vp (pa b)),(6,vp (pa l)),(10,vs f outN outC),(12,vp (pa e)),(13,vp (pa r)),(40,vs (some j) d m),(41,vi d),(42,vi s42),(54,.agg #[vi af,vi aw,vu bx,VN,VN])] (pure (.value (.agg #[vi af,vi aw,vu bx,VN,VN])):Sem Next) (λ_ _ _ _ _=>rfl) ?_
  case' fb1=>
   replace h:=h.2
   refine rS 9 (some 13) (bv 11 621) (λb=>vp (pa b)) (.cells #[vi 0,vi 0,vu 0,VN,VN] 61) (by kernel_rfl) (λ_=>by kernel_rfl) (by kernel_rfl) ?_
   intro r H84 e217 e218
   replace h:=h r H84 e217 e218
   obtain⟨f212,f213,f214,f215,f216,h⟩:=h
   refine⟨[(2,vp (pa b)),(6,vp (pa l)),(10,vs f outN outC),(12,vp (pa e)),(13,vp (pa r)),(40,vs (some j) d m),(41,vi d),(42,vi s42),(46,vu b0),(48,vp a4),(49,vu a5),(51,vp av),(52,vu ah)],pk,(show aF _ _ _ from⟨f212,f213,f214,f215,f216,trivial⟩),?_⟩
   refine yx 1 (some 47) (bv 11 623) 46 #[vu b0] h ?_;clear h
   rintro h1 f9 ⟨af,rfl,f219,f220,f221,f222,h⟩
   refine⟨[(2,vp (pa b)),(6,vp (pa l)),(10,vs f outN outC),(12,vp (pa e)),(13,vp (pa r)),(40,vs (some j) d m),(41,vi d),(42,vi s42),(47,vi af),(48,vp a4),(49,vu a5),(51,vp av),(52,vu ah)],pk,(show aF _ _ _ from⟨trivial,f219,f220,f221,f222,trivial⟩),?_⟩
   refine yx 4 (some 50) (bv 11 639) 47 #[vp a4,vu a5] h ?_;clear h
   rintro hp g6 ⟨aw,rfl,f223,f224,h⟩
   refine⟨[(2,vp (pa b)),(6,vp (pa l)),(10,vs f outN outC),(12,vp (pa e)),(13,vp (pa r)),(40,vs (some j) d m),(41,vi d),(42,vi s42),(47,vi af),(50,vi aw),(51,vp av),(52,vu ah)],pk,(show aF _ _ _ from⟨trivial,trivial,trivial,f223,f224,trivial⟩),?_⟩
   refine yx 7 (some 53) (bv 11 767) 48 #[vp av,vu ah] h ?_;clear h
   rintro ip H15 ⟨bx,rfl,h⟩
   refine⟨[(2,vp (pa b)),(6,vp (pa l)),(10,vs f outN outC),(12,vp (pa e)),(13,vp (pa r)),(40,vs (some j) d m),(41,vi d),(42,vi s42),(47,vi af),(50,vi aw),(53,vu bx)],pk,(show aF _ _ _ from⟨trivial,trivial,trivial,trivial,trivial,trivial⟩),?_⟩
   refine T_g 8 (some 54) (.agg #[vi af,vi aw,vu bx,VN,VN]) (bv 11 1023) [(2,vp (pa b)),(6,vp (pa l)),(10,vs f outN outC),(12,vp (pa e)),(13,vp (pa r)),(40,vs (some j) d m),(41,vi d),(42,vi s42),(54,.agg #[vi af,vi aw,vu bx,VN,VN])] (pure (.value (.agg #[vi af,vi aw,vu bx,VN,VN])):Sem Next) (λ_ _ _ _ _=>rfl) ?_
  all_goals
   obtain⟨q51,h⟩:=h
   refine fT 10 none (bv 11 2047) (jK 61 (vp (pa r)) (.agg #[vi af,vi aw,vu bx,VN,VN])) (λHz=>Hz=aR H15 (ad r) [vi af,vi aw,vu bx,VN,VN] 0) (by kernel_rfl) (λ_=>by kernel_rfl) (iR [vi af,vi aw,vu bx,VN,VN] 5 (by kernel_rfl) (by kernel_rfl) (λ_=>by kernel_rfl) (by kernel_rfl) q51) (by kernel_rfl) ?_
   intro f4 e50
   replace h:=h f4 e50
   refine⟨[(2,vp (pa b)),(6,vp (pa l)),(10,vs f outN outC),(12,vp (pa e)),(13,vp (pa r)),(40,vs (some j) d m),(41,vi d),(42,vi s42)],pk,(show aF _ _ _ from⟨trivial,trivial,trivial,trivial,trivial,trivial⟩),?_⟩
   refine fU [(2,vp (pa b)),(6,vp (pa l)),(10,vs f outN outC),(12,vp (pa e)),(13,vp (pa r)),(40,vs (some j) d m),(41,vi d),(42,vi s42)] sk ?_
   refine yz<|aE<|T_sz<|ar 13 ?_
   obtain⟨d2,q52,h⟩:=h
   refine T_l (some 55) 28 q52 [(2,vp (pa b)),(6,vp (pa l)),(10,vs f outN outC),(12,vp (pa e)),(13,vp (pa r)),(40,vs (some j) d m),(41,vi d),(42,vi s42),(55,vp d2)] ?_
   obtain⟨ex,q53,h⟩:=h
   refine T_l1 56 40 q53 []<|T_c (some 57) h ?_;clear h
   rintro fy fw ⟨-,h⟩
   refine T_pd [55,56] [(57,fy)]<|T_e<|T_bz 4<|lk (g:=.tmp 57) (ps:= #[58,59]) (assign:=K50) (body:=K51) (fy) (by kernel_rfl) (by kernel_rfl) (by kernel_rfl) ?_
   intro rc lp H18 r54 e55 e56 y57
   refine FE.mono (h rc lp H18 e55 e56 (.func (.yield lp) #[] #[]) ?_) ?_
   ·clear h
    intro aj x_18 H19 vRy q58 h
    refine y57 #[vi aj,vu x_18] H19 vRy (by kernel_rfl) q58 (λw1x=>?_)
    refine T_sd [] [(58,vi aj),(59,vu x_18)]<|ar 14<|T_ed 1 [10,40,41,42,57,58] [(14,vi aj)]<|T_rz 15<|T_nd 1 [59] [(15,vu x_18)]<|zq ?_
    obtain⟨q60,h⟩:=h
    refine aE<|lj r54 q60 ?_
    intro fv e59
    replace h:=h fv e59
    refine T_bz 5<|ar 16 ?_
    obtain⟨fg,q61,h⟩:=h
    refine T_l1 60 100 q61 [6]<|T_nd 1 [] [(61,vu x_18)] ?_
    obtain⟨gc,rfl,gl,cl_2,ks_2,q62,q63,aa,e81,h⟩:=h
    refine T_v1 62 (jU 100 (.map (some gc)) (vu x_18) false) (vi aa) (λw hw=>(iI (kk:=(bF .u64)) (z:=vi 0) underlying100 underlying40 (λ_=>by kernel_rfl) (by rw[hw];exact q62) q63 false).trans (by simp only[if_true,Bool.false_eq_true,if_false,e81])) [60,61]<|T_ed 1 [62] [(16,vi aa)]<|T_sz<|ar 17<|T_nd 3 [] [(65,.bool (aa==0))] ?_
    by_cases c65:aa=0
    ·rw[if_pos c65]at h
     refine N_bd 65 (zK c65) ?_
     obtain⟨et,q67,h⟩:=h
     refine T_l1 66 40 q67 []<|T_c (some 67) h ?_;clear h
     rintro jl hb ⟨dm,rfl,h⟩
     refine T_pd [66] [(67,vi dm)]<|T_nd 3 [65,67] [(70,.bool (dm==2))] ?_
     by_cases c68:dm=2
     ·rw[if_pos c68]at h
      refine N_bd 70 (zK c68)<|T_nd 1 [14] [(71,vi aj)] ?_
      obtain⟨fd,q70,h⟩:=h
      refine T_l1 72 40 q70 [12]<|T_c (some 73) h ?_;clear h
      rintro jd gy ⟨c9,rfl,h⟩
      refine T_pd [72] [(73,vi c9)]<|T_nd 3 [70,71,73] [(76,.bool (aj==c9))] ?_
      by_cases c71:aj=c9
      ·rw[if_pos c71]at h
       refine N_bd 76 (zK c71) ?_
       obtain⟨ef,q73,h⟩:=h
       refine T_l1 77 28 q73 [2]<|T_nd 1 [] [(78,vu x_18)]<|T_c (some 79) h ?_;clear h
       rintro jk hz ⟨dg,rfl,h⟩
       refine T_pd [77,78] [(79,vi dg)]<|T_ed 2 [76,79] [(81,.bool (decide (dg>0)))] ?_
       by_cases c74:dg>0
       ·rw[if_pos c74]at h
        refine aI 81 (zX c74)<|T_rz 18<|T_ed 1 [16,81] [(16,vi (-1))]<|T_rz 19<|T_nd 2 [15,16] [(82,vu x_18),(83,vi (-1))]<|T_c (some 84) h ?_;clear h
        intro v_10 he h
        refine⟨[],pk,?_⟩
        refine zq<|aA ?_
        obtain⟨q76,h⟩:=h
        exact cF r54 q76 h
       rw[if_neg c74]at h
       refine aJ 81 (zQ c74)<|T_kt<|T_rz 19<|T_nd 2 [15,16,81] [(82,vu x_18),(83,vi aa)]<|T_c (some 84) h ?_;clear h
       intro v_11 iz h
       refine⟨[],pk,?_⟩
       refine zq<|aA ?_
       obtain⟨q77,h⟩:=h
       exact cF r54 q77 h
      rw[if_neg c71]at h
      refine N_bd 76 (zJ c71)<|T_ed 5 [2,76] [(81,VF)]<|T_fz 81<|T_kt<|T_rz 19<|T_nd 2 [15,16,81] [(82,vu x_18),(83,vi aa)] ?_
      refine T_c (some 84) h ?_;clear h
      intro v_12 h7 h
      refine⟨[],pk,?_⟩
      refine zq<|aA ?_
      obtain⟨q78,h⟩:=h
      exact cF r54 q78 h
     rw[if_neg c68]at h
     refine N_bd 70 (zJ c68)<|T_ed 11 [2,12,14,70] [(81,VF)]<|T_fz 81<|T_kt<|T_rz 19<|T_nd 2 [15,16,81] [(82,vu x_18),(83,vi aa)] ?_
     refine T_c (some 84) h ?_;clear h
     intro v_13 i8 h
     refine⟨[],pk,?_⟩
     refine zq<|aA ?_
     obtain⟨q79,h⟩:=h
     exact cF r54 q79 h
    rw[if_neg c65]at h
    refine N_bd 65 (zJ c65)<|T_ed 16 [2,12,14,65] [(81,VF)]<|T_fz 81<|T_kt<|T_rz 19<|T_nd 2 [15,16,81] [(82,vu x_18),(83,vi aa)] ?_
    refine T_c (some 84) h ?_;clear h
    intro v_14 ht h
    refine⟨[],pk,?_⟩
    refine zq<|aA ?_
    obtain⟨q80,h⟩:=h
    exact cF r54 q80 h
   clear h y57
   rintro _ ir (⟨q83,h⟩)
   refine .inl ⟨q83,λg7 e99=>?_⟩
   replace h:=h g7 e99
   refine kC (fw.size::ms) rfl ?_
   refine T_sd [57] []<|aA<|aE<|T_sz<|ar 20<|T_ed 1 [] [(17,vi 0)]<|T_bz 6 ?_
   obtain⟨gj,m69,i84,i85⟩:=h
   refine bL (x:=K68) (σ:=Int) (λs_=> [(2,vp (pa b)),(6,vp (pa l)),(10,vs f outN outC),(12,vp (pa e)),(13,vp (pa r)),(17,vi s_),(40,vs (some j) d m),(41,vi d),(42,vi s42)]) (λs_ H=>gj s_ H) (λs_ H=>m69 s_ H) (0:Int) (by kernel_rfl) i84 sk ?_
   rintro i H31 i86
   have h:=i85 i H31 i86
   refine T_su [(2,vp (pa b)),(6,vp (pa l)),(10,vs f outN outC),(12,vp (pa e)),(13,vp (pa r)),(17,vi i),(40,vs (some j) d m),(41,vi d),(42,vi s42)]<|T_sz<|T_sz ?_
   obtain⟨xB,xN,xC,q87,da,q88,eg,q89,h⟩:=h
   refine yq 21 (Code.ops K71) [(7,((ad r).add 3),[vs xB xN xC]),(5,(ad b),[vp da]),(5,(ad e),[vu eg])] 7 (bv 7 0) (show aF _ _ _ from⟨⟨q87,trivial⟩,⟨q88,trivial⟩,⟨q89,trivial⟩,trivial⟩)<|T_gp 0 (some 85) (Vq ((ad r).add 3)) (bv 7 1) [(2,vp (pa b)),(6,vp (pa l)),(10,vs f outN outC),(12,vp (pa e)),(13,vp (pa r)),(17,vi i),(40,vs (some j) d m),(41,vi d),(42,vi s42),(85,Vq ((ad r).add 3))]<|T_g1 1 86 (vs xB xN xC) (bv 7 3) [85] (aU 29 (Vq ((ad r).add 3))) (mF 7 (λ_=>by kernel_rfl) yX (.inr (by kernel_rfl)))<|aL 2 87 (vi xN) (bv 7 7) [86]<|T_g1 3 88 (vp da) (bv 7 15) [] (aU 28 (vp (pa b))) (yY 5 yQ)<|T_g1 4 89 (vu eg) (bv 7 31) [] (aU 40 (vp (pa e))) (yY 5 yJ)<|yx 5 (some 90) (bv 7 63) 51 #[vp da,vu eg] h ?_;clear h
   rintro i6 ek ⟨b1,rfl,f90,h⟩
   refine⟨[(2,vp (pa b)),(6,vp (pa l)),(10,vs f outN outC),(12,vp (pa e)),(13,vp (pa r)),(17,vi i),(40,vs (some j) d m),(41,vi d),(42,vi s42),(87,vi xN),(90,vi b1)],pk,(show aF _ _ _ from⟨f90,trivial,trivial,trivial⟩),?_⟩
   refine T_g 6 (some 91) (.bool (decide ((xN:Int)<b1))) (bv 7 127) [(2,vp (pa b)),(6,vp (pa l)),(10,vs f outN outC),(12,vp (pa e)),(13,vp (pa r)),(17,vi i),(40,vs (some j) d m),(41,vi d),(42,vi s42),(91,.bool (decide ((xN:Int)<b1)))] (pure (.value (.bool (decide ((xN:Int)<b1)))):Sem Next) (λ_ _ _ _ _=>rfl)<|fU [(2,vp (pa b)),(6,vp (pa l)),(10,vs f outN outC),(12,vp (pa e)),(13,vp (pa r)),(17,vi i),(40,vs (some j) d m),(41,vi d),(42,vi s42),(91,.bool (decide ((xN:Int)<b1)))] sk<|yz<|aE ?_
   by_cases c91:(xN:Int)<b1
   ·rw[if_pos c91]at h
    refine aI 91 (zX c91)<|T_kt<|T_sz<|T_bz 7<|ar 23<|T_nu [(2,vp (pa b)),(6,vp (pa l)),(10,vs f outN outC),(12,vp (pa e)),(13,vp (pa r)),(17,vi i),(40,vs (some j) d m),(41,vi d),(42,vi s42)] ?_
    obtain⟨b9,q93,h⟩:=h
    refine T_l1 95 28 q93 [] ?_
    obtain⟨c0,q94,h⟩:=h
    refine T_l1 96 40 q94 []<|T_nd 1 [] [(97,Vq ((ad r).add 1))] ?_
    obtain⟨d7,q95,h⟩:=h
    refine T_l1 98 3 q95 [97]<|T_nd 1 [] [(99,vi i)]<|T_c (some 100) h ?_;clear h
    rintro hj jg ⟨ra,gw,rfl,h⟩
    refine T_pd [95,96,98,99] [(100,.tuple #[vu ra,vi gw])]<|T_ed 5 [100] [(18,vu ra)]<|T_rz 24<|T_nd 1 [18] [(103,vu ra)]<|T_c (some 104) h ?_;clear h
    intro v_17 hf h
    exact T_pd [103] []<|zq<|aA<|aE<|T_rz 22<|T_ed 3 [17] [(17,vi (zY (i+1)))]<|aS ((zY (i+1)):Int) sk h
   rw[if_neg c91]at h
   refine aJ 91 (zQ c91)<|zk 6<|aD<|aD<|aM<|aE<|T_rz 25<|T_n 1 [(2,vp (pa b)),(6,vp (pa l)),(13,vp (pa r)),(40,vs (some j) d m),(41,vi d),(42,vi s42),(105,vs f outN outC)] ?_
   obtain⟨ck,bu,bs,a7,bc,bg,cm,cq,cr,q96,h⟩:=h
   refine T_lr 106 61 q96 [13]<|T_nw (some 107) (λb=>vs (pa b) 1 1) (.cells #[vi ck,vi bu,vu bs,vs a7 bc bg,vs cm cq cr] 61) ?_
   intro f3 H35 e97 e98
   replace h:=h f3 H35 e97 e98
   refine T_pd [106] [(107,vs (pa f3) 1 1)]<|N_op (some 108) (cJ #[22,22] 22 #[vs f outN outC,vs (pa f3) 1 1]) _ (λ_=>by kernel_rfl) (bQ (T:=61) (sz:=5) (bytes:=72) (zero:=(.agg #[vi 0,vi 0,vu 0,VN,VN]:Value)) underlying22 underlying22 rfl (show prog.info? 61=some t61 from by kernel_rfl) (by kernel_rfl) (by kernel_rfl) (by decide) (by kernel_rfl) (by first | exact h | (simpa only[Value.cells,List.toList_toArray]using h))) ?_;clear h
   rintro _ i5 ⟨ap,fz,rfl,h⟩
   exact T_pd [105,107] [(108,vs ap (outN+1) fz)]<|T_nd 1 [108] [(10,vs ap (outN+1) fz)]<|zq<|aA<|aE<|T_rz 26<|T_ed 2 [42] [(42,vi (zY (s42+1)))]<|lR (mk:=(λs_=>s_.2.2.2.2)) (I:=(λs_ H=>c5 s_.1 s_.2.1 s_.2.2.1 s_.2.2.2.1 s_.2.2.2.2 H)) (μ:=(λs_ H=>m32 s_.1 s_.2.1 s_.2.2.1 s_.2.2.2.1 s_.2.2.2.2 H)) (s:=(_,_,_,_,_)) ((ap,(outN+1),fz,(zY (s42+1)),(fw.size::ms)):zW×Nat×Nat×Int×(List Nat)) sk h
 rw[if_neg c29]at h
 refine aJ 43 (zQ c29)<|zk 2<|aD<|aD<|aM<|aE<|ar 27<|T_ne 2 [(4,vs f outN outC)]<|zx ?_
 show At _ _ _ _ _ (Q .ret)
 refine lg (fn:=f16) (ms) hQ (Shut.mono (λio h=>?_) h)
 exact⟨[vs f outN outC],(show cG _ _ _ [.tmp 4] _ from .tmp (by kernel_rfl) (.nil)),h⟩
end eR
