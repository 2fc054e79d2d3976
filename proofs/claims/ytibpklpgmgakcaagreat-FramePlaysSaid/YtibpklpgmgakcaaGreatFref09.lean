/- Printed: what each function asks, and that it is sound. -/
import Derived.Test.YtibpklpgmgakcaaGreatFnsC
set_option linter.unusedSimpArgs false
set_option linter.unusedVariables false
set_option maxRecDepth 100000
set_option maxHeartbeats 1000000
noncomputable section
namespace Go.Proofs.YtibpklpgmgakcaaGreat
open Go
/-! moraine/moraineref09.New -/
namespace moraineref09_New
def K0:=Func.code Tryz.f37
end moraineref09_New
def moraineref09_New.pt(a:Int)(H:Array Obj)(R:Value->Array Obj->Prop):Prop:=
 moraineref08_New.C a H (λv H1=> ∃x:Option Addr,v=.pointer x/\
 onPtr x (
 R (.pointer none) H1) (λxA=>
 ∀(b:Nat) (H2:Array Obj),b=H1.size->H2=H1.push (.cells #[.pointer (some xA)] 81)->
 R (.pointer (some (ad b))) H2))
namespace moraineref09_New
theorem link{a:Int}{H:Array Obj}{R:Value->Array Obj->Prop}(h:pt a H R):C a H R:=by
 refine T_en K0 11 Tryz.func37 ?_
 intro w0 Q hQ
 unfold pt at h
 refine T_su [(0,vi a)]<| T_srz 0<| T_ed 1 [] []<| T_srz 1<| T_n 1 [(4,vi a)] ?_
 refine T_c (some 5) h ?_;clear h
 rintro v H1 ⟨x,rfl,h⟩
 refine⟨[(5,vp x)],pk,?_⟩
 refine T_ne 1 [(3,vp x)]<| T_sz<| T_srz 2<| T_nd 1 [] [(6,vp x)] ?_
 rcases x with _ | xA
 ·rw[onPtr_none]at h
  exact T_ne 1 [(3,vp none),(7,.bool true)]<| T_tz 7<| T_srz 3<| T_nr 1 [2] [vp none] hQ h
 rw[onPtr_some]at h
 refine T_ne 1 [(3,vp (some xA)),(7,.bool false)]<| T_fz 7<| T_kt<| T_srz 4<| T_n 2 [(9,.agg #[vp (some xA)])]<| T_nw (some 10) (λb=>vp (pa b)) (.cells #[vp (some xA)] 81) ?_
 intro b H2 e1 e2
 replace h:=h b H2 e1 e2
 refine⟨[(10,vp (pa b))],pk,?_⟩
 exact T_nr 1 [2] [vp (pa b)] hQ h
end moraineref09_New

/-! (*moraine/moraineref09.Cards).Store -/
namespace moraineref09_Cards_Store
def K0:=Func.code Tryz.f122
def K2:=cb K0
def K4:=cb K2
def K11:=ca K4
end moraineref09_Cards_Store
def moraineref09_Cards_Store.pt(c:Option Addr)(b wv:Int)(H:Array Obj)(R:Value->Array Obj->Prop):Prop:=
 ∃cA:Addr,c=some cA/\
 ∃x:Option Addr,hat H cA=some (.pointer x)/\
 ∃xA:Addr,x=some xA/\
 ∃s:Option Addr,hat H xA=some (.pointer s)/\
 moraineref07_Mem_Write.C s b wv H (λv H1=> ∃l:Int,v=.int .i64 l/\
 if l=0 then(
 ∃u:Option Addr,hat H1 cA=some (.pointer u)/\
 ∃f:Addr,u=some f/\
 ∃z:Option Addr,hat H1 f=some (.pointer z)/\
 ∃j:Addr,z=some j/\
 ∃(xB:Option Addr) (xN xC:Nat),hat H1 (j.add 1)=some (.slice xB xN xC)/\
 ∃y:Option Addr,hat H1 cA=some (.pointer y)/\
 ∃m:Addr,y=some m/\
 ∃q:Option Addr,hat H1 m=some (.pointer q)/\
 moraineref07_Mem_Place.C q (IntKind.wrap .i64 (Int.tdiv b 64)) H1 (λab H2=> ∃d:Int,ab=.int .i64 d/\RowAt H2 cA 0 [.pointer (some f)]/\RowAt H2 f 0 [.pointer (some j)]/\RowAt H2 (j.add 1) 0 [.slice xB xN xC]/\
 ∃e:Addr,xB=some e/\
 ((0:Int)<=d/\d< (xN:Int))/\
 moraineref09_Cards_Gen.C (some cA) wv H2 (λaa H3=> ∃(ra:Int) (rb:Bool),aa=.tuple #[.int .i64 ra,.bool rb]/\
 if rb=true then(
 ∃r:Int,hat H3 (((e.add (Int.toNat d*9)).add 1).add 1)=some (.int .i64 r)/\
 if r=3 then(
 R (.int .i64 0) H3)
 else
 ∃o:Int,hat H3 ((e.add (Int.toNat d*9)).add 1)=some (.int .i64 o)/\
 if ra<o then(
 ((0:Int)<=(IntKind.wrap .i64 (Int.tdiv (Int.tmod b 64) 16))/\(IntKind.wrap .i64 (Int.tdiv (Int.tmod b 64) 16))< (4:Int))/\
 ∃p:Int,hat H3 ((((e.add (Int.toNat d*9)).add 1).add 3).add (Int.toNat (IntKind.wrap .i64 (Int.tdiv (Int.tmod b 64) 16))*1))=some (.int .i64 p)/\
 if ra<p then(
 ((0:Int)<=(IntKind.wrap .i64 (Int.tdiv (Int.tmod b 64) 16))/\(IntKind.wrap .i64 (Int.tdiv (Int.tmod b 64) 16))< (4:Int))/\
 (CanPuts H3 ((((e.add (Int.toNat d*9)).add 1).add 3).add (Int.toNat (IntKind.wrap .i64 (Int.tdiv (Int.tmod b 64) 16))*1)) 0 1)/\ ∀H4,H4=hputs H3 ((((e.add (Int.toNat d*9)).add 1).add 3).add (Int.toNat (IntKind.wrap .i64 (Int.tdiv (Int.tmod b 64) 16))*1)) [.int .i64 ra] 0->
 R (.int .i64 0) H4)
 else
 R (.int .i64 0) H3)
 else
 R (.int .i64 0) H3)
 else
 R (.int .i64 0) H3)))
 else
 R (.int .i64 l) H1)
namespace moraineref09_Cards_Store
theorem link{c:Option Addr}{b wv:Int}{H:Array Obj}{R:Value->Array Obj->Prop}(h:pt c b wv H R):C c b wv H R:=by
 refine T_en K0 88 Tryz.func122 ?_
 intro w0 Q hQ
 unfold pt at h
 refine T_su [(0,vp c),(1,vi b),(2,vu wv)]<| T_srz 0<| T_ed 1 [] []<| T_sz<| T_srz 1<| T_nd 1 [] [(12,vp c)] ?_
 obtain⟨cA,rfl,h⟩:=h
 refine T_nd 2 [0,12] [(0,vp (some cA)),(14,vp (some cA))] ?_
 obtain⟨x,q1,h⟩:=h
 refine T_l1 15 79 q1 [14] ?_
 obtain⟨xA,rfl,h⟩:=h
 refine T_nd 2 [15] [(17,vp (some xA))] ?_
 obtain⟨s,q2,h⟩:=h
 refine T_l1 18 76 q2 [17]<| T_nd 2 [] [(19,vi b),(20,vu wv)] ?_
 refine T_c (some 21) h ?_;clear h
 rintro v H1 ⟨l,rfl,h⟩
 refine T_pd [18,19,20] [(21,vi l)]<| T_ed 1 [21] [(7,vi l)]<| T_srz 2<| T_ed 2 [] [(23,.bool (l !=0))] ?_
 by_cases c3:l=0
 ·rw[if_pos c3]at h
  refine S_bd 23 (bne_eq_false_iff_eq.mpr c3)<| T_fz 23<| T_kt<| T_sz ?_
  obtain⟨u,q5,h⟩:=h
  obtain⟨f,rfl,h⟩:=h
  obtain⟨z,q6,h⟩:=h
  obtain⟨j,rfl,h⟩:=h
  obtain⟨xB,xN,xC,q7,h⟩:=h
  obtain⟨y,q8,h⟩:=h
  obtain⟨m,rfl,h⟩:=h
  obtain⟨q,q9,h⟩:=h
  refine S_regionG 4 (Code.ops K11) [(23,cA,[vp (some f)]),(23,f,[vp (some j)]),(23,(j.add 1),[vs xB xN xC]),(19,cA,[vp (some m)]),(19,m,[vp q])] 23 (bv 23 0) (by kernel_rfl) (by kernel_rfl) (by kernel_rfl) (by kernel_rfl) (by kernel_rfl) (show FactsAt _ _ _ from⟨⟨q5,trivial⟩,⟨q6,trivial⟩,⟨q7,trivial⟩,⟨q8,trivial⟩,⟨q9,trivial⟩,trivial⟩) ?_
  refine T_gp 0 (some 25) (vp (some cA)) (bv 23 1) [(0,vp (some cA)),(1,vi b),(2,vu wv),(25,vp (some cA))]<| T_gp1 1 26 (vp (some cA)) (bv 23 3) [25]<| T_gp1 2 27 (vp (some cA)) (bv 23 7) [26]<| T_g1 3 28 (vp (some f)) (bv 23 15) [27] (loadN 79 (vp (some cA))) (held_one 23 (λ_=>by kernel_rfl) (List.Mem.head _) (.inr (by kernel_rfl)))<| T_gp1 4 29 (vp (some f)) (bv 23 31) [28]<| T_gp1 5 30 (vp (some f)) (bv 23 63) [29]<| T_g1 6 31 (vp (some j)) (bv 23 127) [30] (loadN 76 (vp (some f))) (held_one 23 (λ_=>by kernel_rfl) (List.Mem.tail _ (List.Mem.head _)) (.inr (by kernel_rfl)))<| T_gp1 7 32 (vp (some j)) (bv 23 255) [31]<| T_gp1 8 33 (vp (some (j.add 1))) (bv 23 511) [32] ?_
  refine T_g1 9 34 (vs xB xN xC) (bv 23 1023) [33] (loadN 88 (vp (some (j.add 1)))) (held_one 23 (λ_=>by kernel_rfl) (List.Mem.tail _ (List.Mem.tail _ (List.Mem.head _))) (.inr (by kernel_rfl)))<| T_gp1 10 35 (vp (some cA)) (bv 23 2047) []<| T_gp1 11 36 (vp (some cA)) (bv 23 4095) [35]<| T_gp1 12 37 (vp (some cA)) (bv 23 8191) [36]<| T_g1 13 38 (vp (some m)) (bv 23 16383) [37] (loadN 79 (vp (some cA))) (held_one 19 (λ_=>by kernel_rfl) (List.Mem.tail _ (List.Mem.tail _ (List.Mem.tail _ (List.Mem.head _)))) (.inl (by kernel_rfl)))<| T_gp1 14 39 (vp (some m)) (bv 23 32767) [38]<| T_gp1 15 40 (vp (some m)) (bv 23 65535) [39]<| T_g1 16 41 (vp q) (bv 23 131071) [40] (loadN 76 (vp (some m))) (held_one 19 (λ_=>by kernel_rfl) (List.Mem.tail _ (List.Mem.tail _ (List.Mem.tail _ (List.Mem.tail _ (List.Mem.head _))))) (.inl (by kernel_rfl)))<| T_gp1 17 42 (vi b) (bv 23 262143) [] ?_
  refine T_gp1 18 43 (vi (IntKind.wrap .i64 (Int.tdiv b 64))) (bv 23 524287) [42] ?_
  refine G_call 19 (some 44) (bv 23 1048575) 170 #[vp q,vi (IntKind.wrap .i64 (Int.tdiv b 64))] (by kernel_rfl) (λ_=>by kernel_rfl) h (by kernel_rfl) ?_;clear h
  rintro ab H2 ⟨d,rfl,h⟩
  obtain⟨f10,f11,f12,h⟩:=h
  refine⟨[(0,vp (some cA)),(1,vi b),(2,vu wv),(34,vs xB xN xC),(44,vi d)],pk,(show FactsAt _ _ _ from⟨f10,f11,f12,trivial,trivial,trivial⟩),?_⟩
  obtain⟨e,rfl,h⟩:=h
  obtain⟨q13,h⟩:=h
  refine T_g 20 (some 45) (vp (some (e.add (Int.toNat d*9)))) (bv 23 2097151) [(0,vp (some cA)),(1,vi b),(2,vu wv),(45,vp (some (e.add (Int.toNat d*9))))] (indexAtN 88 (vs (some e) xN xC) (vi d)) (λ_ w _ _ _=>indexAt_run (P:=Tryz.prog) (t:=88) (elem:=96) (sz:=9) (a:=e) (len:=xN) (cap:=xC) (k:=.i64) (i:=d) Tryz.underlying88 (λ_=>by kernel_rfl) q13.1 q13.2 w)<| T_g1 21 46 (vp (some ((e.add (Int.toNat d*9)).add 1))) (bv 23 4194303) [45] (pure (.value (vp (some ((e.add (Int.toNat d*9)).add 1)))):Sem Next) (λ_ _ _ _ _=>rfl)<| T_g1 22 8 (vp (some ((e.add (Int.toNat d*9)).add 1))) (bv 23 8388607) [46] (pure (.value (vp (some ((e.add (Int.toNat d*9)).add 1)))):Sem Next) (λ_ _ _ _ _=>rfl) ?_
  refine G_sub [(0,vp (some cA)),(1,vi b),(2,vu wv),(8,vp (some ((e.add (Int.toNat d*9)).add 1)))] sk ?_
  refine G_end (by kernel_rfl) ?_
  refine S_then ?_
  refine T_srz 5<| T_n 2 [(1,vi b),(8,vp (some ((e.add (Int.toNat d*9)).add 1))),(48,vp (some cA)),(49,vu wv)] ?_
  refine T_c (some 50) h ?_;clear h
  rintro aa H3 ⟨ra,rb,rfl,h⟩
  refine T_pd [48,49] [(50,.tuple #[vi ra,.bool rb])]<| T_ed 5 [50] [(9,vi ra),(10,.bool rb)]<| T_srz 6<| T_ed 4 [1] [(11,vi (IntKind.wrap .i64 (Int.tdiv (Int.tmod b 64) 16)))]<| T_sz<| T_srz 7<| T_nd 2 [10] [(57,.bool rb)] ?_
  by_cases c14:rb=true
  ·rw[if_pos c14]at h
   refine N_bd 57 c14<| T_nd 3 [] [(60,vp (some (((e.add (Int.toNat d*9)).add 1).add 1)))] ?_
   obtain⟨r,q16,h⟩:=h
   refine T_l1 61 3 q16 [60]<| T_nd 3 [57,61] [(64,.bool (r !=3))] ?_
   by_cases c17:r=3
   ·rw[if_pos c17]at h
    exact N_bd 64 (bne_eq_false_iff_eq.mpr c17)<| T_ed 17 [64] [(81,.bool false)]<| T_fz 81<| T_kt<| T_srz 9<| T_nr 1 [6] [vi 0] hQ h
   rw[if_neg c17]at h
   refine N_bd 64 (bne_iff_ne.mpr c17)<| T_nd 4 [] [(65,vi ra),(68,vp (some ((e.add (Int.toNat d*9)).add 1)))] ?_
   obtain⟨o,q19,h⟩:=h
   refine T_l1 69 3 q19 [68]<| T_nd 3 [64,65,69] [(72,.bool (decide (ra<o)))] ?_
   by_cases c20:ra<o
   ·rw[if_pos c20]at h
    refine N_bd 72 (decide_eq_true c20)<| T_nd 5 [] [(73,vi ra),(75,vi (IntKind.wrap .i64 (Int.tdiv (Int.tmod b 64) 16))),(77,vp (some (((e.add (Int.toNat d*9)).add 1).add 3)))] ?_
    obtain⟨q22,h⟩:=h
    refine T_v1 78 (indexAtN 72 (vp (some (((e.add (Int.toNat d*9)).add 1).add 3))) (vi (IntKind.wrap .i64 (Int.tdiv (Int.tmod b 64) 16)))) (vp (some ((((e.add (Int.toNat d*9)).add 1).add 3).add (Int.toNat (IntKind.wrap .i64 (Int.tdiv (Int.tmod b 64) 16))*1)))) (λw _=>indexArr_run (P:=Tryz.prog) (t:=72) (elem:=3) (sz:=1) (n:=4) (a:=(((e.add (Int.toNat d*9)).add 1).add 3)) (k:=.i64) (i:=(IntKind.wrap .i64 (Int.tdiv (Int.tmod b 64) 16))) Tryz.underlying72 (λ_=>by kernel_rfl) q22.1 q22.2 w) [75,77] ?_
    obtain⟨p,q23,h⟩:=h
    refine T_l1 79 3 q23 [78]<| T_ed 2 [72,73,79] [(81,.bool (decide (ra<p)))] ?_
    by_cases c24:ra<p
    ·rw[if_pos c24]at h
     refine T_cTz 81 (decide_eq_true c24)<| T_rz 8<| T_n 5 [(83,vi (IntKind.wrap .i64 (Int.tdiv (Int.tmod b 64) 16))),(84,vi ra),(86,vp (some (((e.add (Int.toNat d*9)).add 1).add 3)))] ?_
     obtain⟨q26,h⟩:=h
     refine T_v1 87 (indexAtN 72 (vp (some (((e.add (Int.toNat d*9)).add 1).add 3))) (vi (IntKind.wrap .i64 (Int.tdiv (Int.tmod b 64) 16)))) (vp (some ((((e.add (Int.toNat d*9)).add 1).add 3).add (Int.toNat (IntKind.wrap .i64 (Int.tdiv (Int.tmod b 64) 16))*1)))) (λw _=>indexArr_run (P:=Tryz.prog) (t:=72) (elem:=3) (sz:=1) (n:=4) (a:=(((e.add (Int.toNat d*9)).add 1).add 3)) (k:=.i64) (i:=(IntKind.wrap .i64 (Int.tdiv (Int.tmod b 64) 16))) Tryz.underlying72 (λ_=>by kernel_rfl) q26.1 q26.2 w) [83,86] ?_
     obtain⟨q28,h⟩:=h
     refine T_st1 3 (vi ra) q28 ?_
     intro H4 e27
     replace h:=h H4 e27
     refine⟨[],pk,?_⟩
     exact T_e<| T_srz 9<| T_nr 1 [6] [vi 0] hQ h
    rw[if_neg c24]at h
    exact T_cFz 81 (decide_eq_false c24)<| T_kt<| T_srz 9<| T_nr 1 [6] [vi 0] hQ h
   rw[if_neg c20]at h
   exact N_bd 72 (decide_eq_false c20)<| T_ed 9 [72] [(81,.bool false)]<| T_fz 81<| T_kt<| T_srz 9<| T_nr 1 [6] [vi 0] hQ h
  rw[if_neg c14]at h
  exact N_bd 57 (eq_false_of_ne_true c14)<| T_ed 24 [57] [(81,.bool false)]<| T_fz 81<| T_kt<| T_srz 9<| T_nr 1 [6] [vi 0] hQ h
 rw[if_neg c3]at h
 exact T_cTz 23 (bne_iff_ne.mpr c3)<| T_srz 3<| T_nr 2 [6] [vi l] hQ h
end moraineref09_Cards_Store

/-! (*moraine/moraineref09.Cards).Gen -/
namespace moraineref09_Cards_Gen
def K0:=Func.code Tryz.f171
def K2:=cb K0
def K4:=cb K2
def K6:=cb K4
def K13:=ca K6
end moraineref09_Cards_Gen
def moraineref09_Cards_Gen.pt(c:Option Addr)(wv:Int)(H:Array Obj)(R:Value->Array Obj->Prop):Prop:=
 moraineref01_Of.C wv H (λv H1=> ∃e l xA xX j:Int,v=.agg #[.int .i64 e,.int .i64 l,.int .i64 xA,.int .i64 xX,.int .u64 j]/\
 ∀(b:Nat) (H2:Array Obj),b=H1.size->H2=H1.push (.cells #[.int .i64 0,.int .i64 0,.int .i64 0,.int .i64 0,.int .u64 0] 155)->
 (CanPuts H2 (ad b) 0 5)/\ ∀H3,H3=hputs H2 (ad b) [.int .i64 e,.int .i64 l,.int .i64 xA,.int .i64 xX,.int .u64 j] 0->
 ∃x:Int,hat H3 (ad b)=some (.int .i64 x)/\
 if x=2 then(
 ∃p:Int,hat H3 ((ad b).add 1)=some (.int .i64 p)/\
 if p=6 then(
 R (.tuple #[.int .i64 0,.bool false]) H3)
 else
 ∃cA:Addr,c=some cA/\
 ∃z:Option Addr,hat H3 cA=some (.pointer z)/\
 ∃f:Addr,z=some f/\
 ∃m:Option Addr,hat H3 f=some (.pointer m)/\
 ∃n:Int,hat H3 ((ad b).add 2)=some (.int .i64 n)/\
 moraineref07_Mem_Place.C m (IntKind.wrap .i64 (Int.tdiv n 64)) H3 (λaa H4=> ∃d:Int,aa=.int .i64 d/\
 if d<0 then(
 R (.tuple #[.int .i64 0,.bool false]) H4)
 else
 ∃r:Option Addr,hat H4 cA=some (.pointer r)/\
 ∃u:Addr,r=some u/\
 ∃s:Option Addr,hat H4 u=some (.pointer s)/\
 ∃y:Addr,s=some y/\
 ∃(xB:Option Addr) (xN xC:Nat),hat H4 (y.add 1)=some (.slice xB xN xC)/\
 ∃o:Addr,xB=some o/\
 ((0:Int)<=d/\d< (xN:Int))/\
 ∃q:Int,hat H4 ((o.add (Int.toNat d*9)).add 1)=some (.int .i64 q)/\
 R (.tuple #[.int .i64 q,.bool true]) H4))
 else
 R (.tuple #[.int .i64 0,.bool false]) H3)
namespace moraineref09_Cards_Gen
theorem link{c:Option Addr}{wv:Int}{H:Array Obj}{R:Value->Array Obj->Prop}(h:pt c wv H R):C c wv H R:=by
 refine T_en K0 46 Tryz.func171 ?_
 intro w0 Q hQ
 unfold pt at h
 refine T_su [(0,vp c),(1,vu wv)]<| T_srz 0<| T_ed 2 [] []<| T_srz 1<| T_nd 1 [1] [(8,vu wv)] ?_
 refine T_c (some 9) h ?_;clear h
 rintro v H1 ⟨e,l,xA,xX,j,rfl,h⟩
 refine T_pd [8] [(9,.agg #[vi e,vi l,vi xA,vi xX,vu j])]<| T_nw (some 6) (λb=>vp (pa b)) (.cells #[vi 0,vi 0,vi 0,vi 0,vu 0] 155) ?_
 intro b H2 e1 e2
 replace h:=h b H2 e1 e2
 refine T_pd [] [(6,vp (pa b))] ?_
 obtain⟨q4,h⟩:=h
 refine T_sta 155 [vi e,vi l,vi xA,vi xX,vu j] q4 ?_
 intro H3 e3
 replace h:=h H3 e3
 refine T_pd [9] []<| T_e<| T_sz<| T_srz 2<| T_nd 1 [] [(10,vp (pa b))] ?_
 obtain⟨x,q5,h⟩:=h
 refine T_l1 11 3 q5 [10]<| T_nd 2 [11] [(13,.bool (x !=2))] ?_
 by_cases c6:x=2
 ·rw[if_pos c6]at h
  refine N_bd 13 (bne_eq_false_iff_eq.mpr c6)<| T_nd 1 [] [(14,vp (some ((ad b).add 1)))] ?_
  obtain⟨p,q8,h⟩:=h
  refine T_l1 15 3 q8 [14]<| T_ed 2 [13,15] [(17,.bool (p==6))] ?_
  by_cases c9:p=6
  ·rw[if_pos c9]at h
   exact T_cTz 17 (beq_iff_eq.mpr c9)<| T_srz 3<| T_nr 2 [4,5] [vi 0,.bool false] hQ h
  rw[if_neg c9]at h
  refine T_cFz 17 (beq_eq_false_iff_ne.mpr c9)<| T_kt<| T_sz ?_
  obtain⟨cA,rfl,h⟩:=h
  obtain⟨z,q11,h⟩:=h
  obtain⟨f,rfl,h⟩:=h
  obtain⟨m,q12,h⟩:=h
  obtain⟨n,q13,h⟩:=h
  refine S_regionG 4 (Code.ops K13) [(10,cA,[vp (some f)]),(10,f,[vp m]),(10,((ad b).add 2),[vi n])] 12 (bv 12 0) (by kernel_rfl) (by kernel_rfl) (by kernel_rfl) (by kernel_rfl) (by kernel_rfl) (show FactsAt _ _ _ from⟨⟨q11,trivial⟩,⟨q12,trivial⟩,⟨q13,trivial⟩,trivial⟩) ?_
  refine T_gp 0 (some 18) (vp (some cA)) (bv 12 1) [(0,vp (some cA)),(6,vp (pa b)),(18,vp (some cA))]<| T_gp1 1 19 (vp (some cA)) (bv 12 3) [18]<| T_gp1 2 20 (vp (some cA)) (bv 12 7) [19]<| T_g1 3 21 (vp (some f)) (bv 12 15) [20] (loadN 79 (vp (some cA))) (held_one 10 (λ_=>by kernel_rfl) (List.Mem.head _) (.inl (by kernel_rfl)))<| T_gp1 4 22 (vp (some f)) (bv 12 31) [21]<| T_gp1 5 23 (vp (some f)) (bv 12 63) [22]<| T_g1 6 24 (vp m) (bv 12 127) [23] (loadN 76 (vp (some f))) (held_one 10 (λ_=>by kernel_rfl) (List.Mem.tail _ (List.Mem.head _)) (.inl (by kernel_rfl)))<| T_gp1 7 25 (vp (some ((ad b).add 2))) (bv 12 255) [6]<| T_g1 8 26 (vi n) (bv 12 511) [25] (loadN 3 (vp (some ((ad b).add 2)))) (held_one 10 (λ_=>by kernel_rfl) (List.Mem.tail _ (List.Mem.tail _ (List.Mem.head _))) (.inl (by kernel_rfl))) ?_
  refine T_gp1 9 27 (vi (IntKind.wrap .i64 (Int.tdiv n 64))) (bv 12 1023) [26] ?_
  refine G_call 10 (some 28) (bv 12 2047) 170 #[vp m,vi (IntKind.wrap .i64 (Int.tdiv n 64))] (by kernel_rfl) (λ_=>by kernel_rfl) h (by kernel_rfl) ?_;clear h
  rintro aa H4 ⟨d,rfl,h⟩
  refine⟨[(0,vp (some cA)),(28,vi d)],pk,(show FactsAt _ _ _ from⟨trivial,trivial,trivial,trivial⟩),?_⟩
  refine T_g 11 (some 7) (vi d) (bv 12 4095) [(0,vp (some cA)),(7,vi d)] (pure (.value (vi d)):Sem Next) (λ_ _ _ _ _=>rfl) ?_
  refine G_sub [(0,vp (some cA)),(7,vi d)] sk ?_
  refine G_end (by kernel_rfl) ?_
  refine S_then ?_
  refine T_sz<| T_srz 5<| T_ne 2 [(0,vp (some cA)),(7,vi d),(30,.bool (decide (d<0)))] ?_
  by_cases c14:d<0
  ·rw[if_pos c14]at h
   exact T_cTz 30 (decide_eq_true c14)<| T_srz 6<| T_nr 2 [4,5] [vi 0,.bool false] hQ h
  rw[if_neg c14]at h
  refine T_cFz 30 (decide_eq_false c14)<| T_kt<| T_srz 7<| T_nd 3 [0,30] [(33,vp (some cA))] ?_
  obtain⟨r,q16,h⟩:=h
  refine T_l1 34 79 q16 [33] ?_
  obtain⟨u,rfl,h⟩:=h
  refine T_nd 2 [34] [(36,vp (some u))] ?_
  obtain⟨s,q17,h⟩:=h
  refine T_l1 37 76 q17 [36] ?_
  obtain⟨y,rfl,h⟩:=h
  refine T_nd 2 [37] [(39,vp (some (y.add 1)))] ?_
  obtain⟨xB,xN,xC,q18,h⟩:=h
  refine T_l1 40 88 q18 [39]<| T_nd 1 [7] [(41,vi d)] ?_
  obtain⟨o,rfl,h⟩:=h
  obtain⟨q19,h⟩:=h
  refine T_ix (some 42) 88 96 9 o xN xC .i64 d Tryz.underlying88 q19.1 q19.2 [(42,vp (some (o.add (Int.toNat d*9))))]<| T_n 2 [(44,vp (some ((o.add (Int.toNat d*9)).add 1)))] ?_
  obtain⟨q,q20,h⟩:=h
  exact T_l1 45 3 q20 [44]<| T_nr 2 [4,5] [vi q,.bool true] hQ h
 rw[if_neg c6]at h
 exact N_bd 13 (bne_iff_ne.mpr c6)<| T_ed 4 [13] [(17,.bool true)]<| T_tz 17<| T_srz 3<| T_nr 2 [4,5] [vi 0,.bool false] hQ h
end moraineref09_Cards_Gen

end Go.Proofs.YtibpklpgmgakcaaGreat
