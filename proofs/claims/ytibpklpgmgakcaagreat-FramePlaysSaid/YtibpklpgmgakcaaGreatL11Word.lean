/- Printed: what each function asks, and that it is sound. -/
import Derived.Test.YtibpklpgmgakcaaGreatFnsC
set_option linter.unusedSimpArgs false
set_option linter.unusedVariables false
set_option maxHeartbeats 1000000
noncomputable section
namespace Go.Proofs.YtibpklpgmgakcaaGreat
open Go
/-! moraine/morainelaw11.Word -/
namespace morainelaw11_Word
def K0:=Func.code Tryz.f38
end morainelaw11_Word
def morainelaw11_Word.pt(vW af:Int)(f:Option Addr)(d e:Nat)(H:Array Obj)(R:Value->Array Obj->Prop):Prop:=
 ∀(b:Nat) (H1:Array Obj),b=H.size->H1=H.push (.cells #[.int .u64 vW,.int .i64 af] 37)->
 ∃x:Int,hat H1 ((ad b).add 1)=some (.int .i64 x)/\
 if((decide (x>0)) && (decide ((d:Int)>0)))=true then(
 ∃n:Int,hat H1 ((ad b).add 1)=some (.int .i64 n)/\
 ((d:Int)≠0)/\
 ∃m:Addr,f=some m/\
 ((0:Int)<=(Int.tmod (IntKind.wrap .i64 (n-1)) (d:Int))/\(Int.tmod (IntKind.wrap .i64 (n-1)) (d:Int))< (d:Int))/\
 ∃aa:Int,hat H1 (m.add (Int.toNat (Int.tmod (IntKind.wrap .i64 (n-1)) (d:Int))*1))=some (.int .u64 aa)/\
 R (.int .u64 aa) H1)
 else
 ∃l:Int,hat H1 (ad b)=some (.int .u64 l)/\
 if(iand .u64 l 7)=0 then(
 ∃ae:Int,hat H1 (ad b)=some (.int .u64 ae)/\
 moraineref01_Of.C ae H1 (λv H2=> ∃o aj xA xX ag:Int,v=.agg #[.int .i64 o,.int .i64 aj,.int .i64 xA,.int .i64 xX,.int .u64 ag]/\
 if o=0 then(
 ∃z:Int,hat H2 (ad b)=some (.int .u64 z)/\
 R (.int .u64 (iandnot .u64 z 7)) H2)
 else
 ∃s:Int,hat H2 (ad b)=some (.int .u64 s)/\
 R (.int .u64 s) H2))
 else
 if(iand .u64 l 7)=4 then(
 ∃ac:Int,hat H1 (ad b)=some (.int .u64 ac)/\
 moraineref01_Of.C ac H1 (λak H3=> ∃j ab ah ai r:Int,ak=.agg #[.int .i64 j,.int .i64 ab,.int .i64 ah,.int .i64 ai,.int .u64 r]/\
 if j=0 then(
 ∃u:Int,hat H3 (ad b)=some (.int .u64 u)/\
 R (.int .u64 (iandnot .u64 u 7)) H3)
 else
 ∃p:Int,hat H3 (ad b)=some (.int .u64 p)/\
 R (.int .u64 p) H3))
 else
 ∃q:Int,hat H1 (ad b)=some (.int .u64 q)/\
 R (.int .u64 (iandnot .u64 q 7)) H1
namespace morainelaw11_Word
set_option maxRecDepth 100000 in
theorem link{vW af:Int}{f:Option Addr}{d e:Nat}{H:Array Obj}{R:Value->Array Obj->Prop}(h:pt vW af f d e H R):C vW af f d e H R:=by
 refine T_en K0 44 Tryz.func38 ?_
 intro w0 Q hQ
 unfold pt at h
 refine T_su [(0,.agg #[vu vW,vi af]),(1,vs f d e)]<| T_srz 0<| T_nw (some 2) (λb=>vp (pa b)) (.cells #[vu vW,vi af] 37) ?_
 intro b H1 e1 e2
 replace h:=h b H1 e1 e2
 refine T_pd [0] [(2,vp (pa b))]<| T_ed 1 [] []<| T_sz<| T_srz 1<| T_nd 1 [] [(6,vp (some ((ad b).add 1)))] ?_
 obtain⟨x,q3,h⟩:=h
 refine T_l1 7 3 q3 [6]<| T_nd 2 [7] [(9,.bool (decide (x>0)))] ?_
 refine N_cut [(1,vs f d e),(2,vp (pa b)),(13,.bool ((decide (x>0)) && (decide ((d:Int)>0))))] ?_ ?_
 ·refine S_then ?_
  by_cases c6:((decide (x>0)) && (decide ((d:Int)>0)))=true
  ·rw[if_pos c6]at h
   refine T_cTz 13 c6<| T_srz 2<| T_n 2 [(1,vs f d e),(14,vs f d e),(15,vp (some ((ad b).add 1)))] ?_
   obtain⟨n,q8,h⟩:=h
   refine T_l1 16 3 q8 [15]<| T_nd 3 [1,16] [(17,vi (IntKind.wrap .i64 (n-1))),(19,vi d)] ?_
   obtain⟨q9,h⟩:=h
   refine T_v1 20 (binN .rem 3 (vi (IntKind.wrap .i64 (n-1))) (vi d)) (vi (Int.tmod (IntKind.wrap .i64 (n-1)) (d:Int))) (λw _=>rem_run (P:=Tryz.prog) (t:=3) (k:=.i64) (x:=(IntKind.wrap .i64 (n-1))) (y:=(d:Int)) q9 w) [17,19] ?_
   obtain⟨m,rfl,h⟩:=h
   obtain⟨q10,h⟩:=h
   refine T_ix (some 21) 31 35 1 m d e .i64 (Int.tmod (IntKind.wrap .i64 (n-1)) (d:Int)) Tryz.underlying31 q10.1 q10.2 [(21,vp (some (m.add (Int.toNat (Int.tmod (IntKind.wrap .i64 (n-1)) (d:Int))*1))))] ?_
   obtain⟨aa,q11,h⟩:=h
   exact T_l1 22 35 q11 [21]<| T_nr 1 [4] [vu aa] hQ h
  rw[if_neg c6]at h
  refine T_cFz 13 (eq_false_of_ne_true c6)<| T_kt<| T_sz<| T_srz 3<| T_n 1 [(2,vp (pa b)),(23,vp (pa b))] ?_
  obtain⟨l,q12,h⟩:=h
  refine T_l1 24 35 q12 [23]<| T_ed 2 [24] [(5,vu (iand .u64 l 7))]<| T_srz 4<| T_nd 3 [] [(28,.bool ((iand .u64 l 7) !=0))] ?_
  by_cases c13:(iand .u64 l 7)=0
  ·rw[if_pos c13]at h
   refine N_bd 28 (bne_eq_false_iff_eq.mpr c13)<| T_nd 5 [5,28] [(32,.bool false),(33,vp (pa b))] ?_
   obtain⟨ae,q15,h⟩:=h
   refine T_l1 34 35 q15 [33] ?_
   refine T_c (some 35) h ?_;clear h
   rintro v H2 ⟨o,aj,xA,xX,ag,rfl,h⟩
   refine T_pd [34] [(35,.agg #[vi o,vi aj,vi xA,vi xX,vu ag])]<| T_ed 3 [32,35] [(38,.bool (o==0))] ?_
   by_cases c16:o=0
   ·rw[if_pos c16]at h
    refine T_cTz 38 (beq_iff_eq.mpr c16)<| T_srz 5<| T_n 1 [(39,vp (pa b))] ?_
    obtain⟨z,q18,h⟩:=h
    exact T_l1 40 35 q18 [39]<| T_nr 2 [4] [vu (iandnot .u64 z 7)] hQ h
   rw[if_neg c16]at h
   refine T_cFz 38 (beq_eq_false_iff_ne.mpr c16)<| T_kt<| T_srz 6<| T_n 1 [(42,vp (pa b))] ?_
   obtain⟨s,q19,h⟩:=h
   exact T_l1 43 35 q19 [42]<| T_nr 1 [4] [vu s] hQ h
  rw[if_neg c13]at h
  refine N_bd 28 (bne_iff_ne.mpr c13)<| T_nd 4 [5,28] [(32,.bool ((iand .u64 l 7) !=4))] ?_
  by_cases c20:(iand .u64 l 7)=4
  ·rw[if_pos c20]at h
   refine N_bd 32 (bne_eq_false_iff_eq.mpr c20)<| T_nd 1 [] [(33,vp (pa b))] ?_
   obtain⟨ac,q22,h⟩:=h
   refine T_l1 34 35 q22 [33] ?_
   refine T_c (some 35) h ?_;clear h
   rintro ak H3 ⟨j,ab,ah,ai,r,rfl,h⟩
   refine T_pd [34] [(35,.agg #[vi j,vi ab,vi ah,vi ai,vu r])]<| T_ed 3 [32,35] [(38,.bool (j==0))] ?_
   by_cases c23:j=0
   ·rw[if_pos c23]at h
    refine T_cTz 38 (beq_iff_eq.mpr c23)<| T_srz 5<| T_n 1 [(39,vp (pa b))] ?_
    obtain⟨u,q25,h⟩:=h
    exact T_l1 40 35 q25 [39]<| T_nr 2 [4] [vu (iandnot .u64 u 7)] hQ h
   rw[if_neg c23]at h
   refine T_cFz 38 (beq_eq_false_iff_ne.mpr c23)<| T_kt<| T_srz 6<| T_n 1 [(42,vp (pa b))] ?_
   obtain⟨p,q26,h⟩:=h
   exact T_l1 43 35 q26 [42]<| T_nr 1 [4] [vu p] hQ h
  rw[if_neg c20]at h
  refine N_bd 32 (bne_iff_ne.mpr c20)<| T_ed 6 [32] [(38,.bool true)]<| T_tz 38<| T_srz 5<| T_n 1 [(39,vp (pa b))] ?_
  obtain⟨q,q27,h⟩:=h
  exact T_l1 40 35 q27 [39]<| T_nr 2 [4] [vu (iandnot .u64 q 7)] hQ h
 intro hk
 refine T_nu [(1,vs f d e),(2,vp (pa b)),(9,.bool (decide (x>0)))] ?_
 by_cases c4:x>0
 ·have b5:(decide (x>0))=true:=decide_eq_true c4
  refine N_env [(1,vs f d e),(2,vp (pa b)),(9,.bool true)] (by rw[b5]) ?_
  refine T_nd 4 [9] [(13,.bool (decide ((d:Int)>0)))] ?_
  refine N_end (by kernel_rfl) ?_
  refine S_bd 13 (b:=(decide ((d:Int)>0))) (v:=((decide (x>0)) && (decide ((d:Int)>0)))) (by simp only[b5,BL]) ?_
  exact hk
 have b5:(decide (x>0))=false:=decide_eq_false c4
 refine N_env [(1,vs f d e),(2,vp (pa b)),(9,.bool false)] (by rw[b5]) ?_
 refine T_nd 4 [9] [(13,.bool false)] ?_
 refine N_end (by kernel_rfl) ?_
 refine S_bd 13 (b:=false) (v:=((decide (x>0)) && (decide ((d:Int)>0)))) (by simp only[b5,BL]) ?_
 exact hk
end morainelaw11_Word

end Go.Proofs.YtibpklpgmgakcaaGreat
