/- Printed: what each function asks, and that it is sound. -/
import Derived.Test.YtibpklpgmgakcaaGreatFnsC
set_option linter.unusedSimpArgs false
set_option linter.unusedVariables false
set_option maxRecDepth 100000
set_option maxHeartbeats 1000000
noncomputable section
namespace Go.Proofs.YtibpklpgmgakcaaGreat
open Go
/-! moraine/card.New -/
namespace card_New
def K0:=Func.code Tryz.f36
end card_New
def card_New.pt(a:Int)(H:Array Obj)(R:Value->Array Obj->Prop):Prop:=
 space_New.C a H (λv H1=> ∃(ra:Option Addr) (rb:Int),v=.tuple #[.pointer ra,.int .i64 rb]/\
 if rb=0 then(
 ∀(b:Nat) (H2:Array Obj),b=H1.size->H2=H1.push (.cells #[.pointer ra] 70)->
 R (.tuple #[.pointer (some (ad b)),.int .i64 0]) H2)
 else
 R (.tuple #[.pointer none,.int .i64 rb]) H1)
namespace card_New
theorem link{a:Int}{H:Array Obj}{R:Value->Array Obj->Prop}(h:pt a H R):C a H R:=by
 refine T_en K0 17 Tryz.func36 ?_
 intro w0 Q hQ
 unfold pt at h
 refine T_su [(0,vi a)]<| T_srz 0<| T_ed 2 [] []<| T_srz 1<| T_n 1 [(7,vi a)] ?_
 refine T_c (some 8) h ?_;clear h
 rintro v H1 ⟨ra,rb,rfl,h⟩
 refine⟨[(8,.tuple #[vp ra,vi rb])],pk,?_⟩
 refine T_ne 5 [(4,vp ra),(5,vi rb)]<| T_sz<| T_srz 2<| T_ed 2 [] [(12,.bool (rb !=0))] ?_
 by_cases c1:rb=0
 ·rw[if_pos c1]at h
  refine T_cFz 12 (bne_eq_false_iff_eq.mpr c1)<| T_kt<| T_srz 4<| T_n 2 [(15,.agg #[vp ra])]<| T_nw (some 16) (λb=>vp (pa b)) (.cells #[vp ra] 70) ?_
  intro b H2 e3 e4
  replace h:=h b H2 e3 e4
  refine⟨[(16,vp (pa b))],pk,?_⟩
  exact T_nr 2 [2,3] [vp (pa b),vi 0] hQ h
 rw[if_neg c1]at h
 exact T_cTz 12 (bne_iff_ne.mpr c1)<| T_srz 3<| T_nr 3 [2,3] [vp none,vi rb] hQ h
end card_New

/-! (*moraine/card.Cards).Store -/
namespace card_Cards_Store
def K0:=Func.code Tryz.f120
def K2:=cb K0
def K4:=cb K2
def K12:=cb K4
def K20:=cb K12
def K22:=cb K20
def K23:=ca K22
end card_Cards_Store
def card_Cards_Store.pt(c:Option Addr)(d wv:Int)(H:Array Obj)(R:Value->Array Obj->Prop):Prop:=
 card_Cards_none.C c H (λv H1=> ∃x:Bool,v=.bool x/\
 if x=true then(
 R (.int .i64 18) H1)
 else
 ∃cA:Addr,c=some cA/\
 ∃al:Option Addr,hat H1 cA=some (.pointer al)/\
 ∃aj:Addr,al=some aj/\
 ∃ai:Option Addr,hat H1 aj=some (.pointer ai)/\
 seg_Mem_Write.C ai d wv H1 (λap H2=> ∃ab:Int,ap=.int .i64 ab/\
 if ab=0 then(
 ∃am:Option Addr,hat H2 cA=some (.pointer am)/\
 ∃ak:Addr,am=some ak/\
 ∃ah:Option Addr,hat H2 ak=some (.pointer ah)/\
 seg_Mem_Seg.C ah (IntKind.wrap .i64 (Int.tdiv d 64)) H2 (λao H3=> ∃(aa s ae m q p o:Int) (rb:Bool),ao=.tuple #[.agg #[.int .i64 aa,.int .i64 s,.int .i64 ae,.int .i64 m,.int .i64 q,.int .i64 p,.int .i64 o],.bool rb]/\
 ∀(b:Nat) (H4:Array Obj),b=H3.size->H4=H3.push (.cells #[.int .i64 0,.int .i64 0,.int .i64 0,.int .i64 0,.int .i64 0,.int .i64 0,.int .i64 0] 92)->
 (CanPuts H4 (ad b) 0 7)/\ ∀H5,H5=hputs H4 (ad b) [.int .i64 aa,.int .i64 s,.int .i64 ae,.int .i64 m,.int .i64 q,.int .i64 p,.int .i64 o] 0->
 ∃an:Option Addr,hat H5 cA=some (.pointer an)/\
 ∃z:Addr,an=some z/\
 ∃u:Option Addr,hat H5 z=some (.pointer u)/\
 ∃y r xN f l e j:Int,RowAt H5 (ad b) 0 [.int .i64 y,.int .i64 r,.int .i64 xN,.int .i64 f,.int .i64 l,.int .i64 e,.int .i64 j]/\
 ((0:Int)<=(IntKind.wrap .i64 (Int.tdiv (Int.tmod d 64) 16))/\(IntKind.wrap .i64 (Int.tdiv (Int.tmod d 64) 16))< (4:Int))/\
 ∃ag:Int,hat H5 (((ad b).add 3).add (Int.toNat (IntKind.wrap .i64 (Int.tdiv (Int.tmod d 64) 16))*1))=some (.int .i64 ag)/\
 card_Cards_younger.C (some cA) y r xN f l e j wv ag H5 (λaq H6=> ∃af:Int,aq=.int .i64 af/\RowAt H6 cA 0 [.pointer (some z)]/\RowAt H6 z 0 [.pointer u]/\
 seg_Mem_Mark.C u (IntKind.wrap .i64 (Int.tdiv d 64)) (IntKind.wrap .i64 (Int.tdiv (Int.tmod d 64) 16)) af H6 (λau H7=> ∃ac:Int,au=.int .i64 ac/\
 R (.int .i64 ac) H7))))
 else
 R (.int .i64 ab) H2))
namespace card_Cards_Store
theorem link{c:Option Addr}{d wv:Int}{H:Array Obj}{R:Value->Array Obj->Prop}(h:pt c d wv H R):C c d wv H R:=by
 refine T_en K0 62 Tryz.func120 ?_
 intro w0 Q hQ
 unfold pt at h
 refine T_su [(0,vp c),(1,vi d),(2,vu wv)]<| T_srz 0<| T_ed 1 [] []<| T_sz<| T_srz 1<| T_nd 1 [] [(12,vp c)] ?_
 refine T_c (some 13) h ?_;clear h
 rintro v H1 ⟨x,rfl,h⟩
 refine T_pd [12] [(13,.bool x)]<| T_e ?_
 by_cases c1:x=true
 ·rw[if_pos c1]at h
  exact T_cTz 13 c1<| T_srz 2<| T_nr 1 [6] [vi 18] hQ h
 rw[if_neg c1]at h
 refine T_cFz 13 (eq_false_of_ne_true c1)<| T_kt<| T_sz<| T_srz 3<| T_nd 1 [13] [(14,vp c)] ?_
 obtain⟨cA,rfl,h⟩:=h
 refine T_nd 2 [0,14] [(0,vp (some cA)),(16,vp (some cA))] ?_
 obtain⟨al,q3,h⟩:=h
 refine T_l1 17 68 q3 [16] ?_
 obtain⟨aj,rfl,h⟩:=h
 refine T_nd 2 [17] [(19,vp (some aj))] ?_
 obtain⟨ai,q4,h⟩:=h
 refine T_l1 20 71 q4 [19]<| T_nd 2 [] [(21,vi d),(22,vu wv)] ?_
 refine T_c (some 23) h ?_;clear h
 rintro ap H2 ⟨ab,rfl,h⟩
 refine T_pd [20,21,22] [(23,vi ab)]<| T_ed 1 [23] [(7,vi ab)]<| T_srz 4<| T_ed 2 [] [(25,.bool (ab !=0))] ?_
 by_cases c5:ab=0
 ·rw[if_pos c5]at h
  refine T_cFz 25 (bne_eq_false_iff_eq.mpr c5)<| T_kt<| T_srz 6<| T_ed 7 [1,7,25] [(8,vi (IntKind.wrap .i64 (Int.tdiv d 64))),(9,vi (IntKind.wrap .i64 (Int.tdiv (Int.tmod d 64) 16)))]<| T_srz 7<| T_nd 3 [] [(35,vp (some cA))] ?_
  obtain⟨am,q7,h⟩:=h
  refine T_l1 36 68 q7 [35] ?_
  obtain⟨ak,rfl,h⟩:=h
  refine T_nd 2 [36] [(38,vp (some ak))] ?_
  obtain⟨ah,q8,h⟩:=h
  refine T_l1 39 71 q8 [38]<| T_nd 1 [] [(40,vi (IntKind.wrap .i64 (Int.tdiv d 64)))] ?_
  refine T_c (some 41) h ?_;clear h
  rintro ao H3 ⟨aa,s,ae,m,q,p,o,rb,rfl,h⟩
  refine T_pd [39,40] [(41,.tuple #[.agg #[vi aa,vi s,vi ae,vi m,vi q,vi p,vi o],.bool rb])]<| T_nd 3 [41] [(42,.agg #[vi aa,vi s,vi ae,vi m,vi q,vi p,vi o]),(43,.bool rb)]<| T_nw (some 10) (λb=>vp (pa b)) (.cells #[vi 0,vi 0,vi 0,vi 0,vi 0,vi 0,vi 0] 92) ?_
  intro b H4 e9 e10
  replace h:=h b H4 e9 e10
  refine T_pd [] [(10,vp (pa b))] ?_
  obtain⟨q12,h⟩:=h
  refine T_sta 92 [vi aa,vi s,vi ae,vi m,vi q,vi p,vi o] q12 ?_
  intro H5 e11
  replace h:=h H5 e11
  refine T_pd [42] []<| T_ed 1 [43] []<| T_sz ?_
  obtain⟨an,q13,h⟩:=h
  obtain⟨z,rfl,h⟩:=h
  obtain⟨u,q14,h⟩:=h
  obtain⟨y,r,xN,f,l,e,j,q15,h⟩:=h
  obtain⟨q16,h⟩:=h
  obtain⟨ag,q17,h⟩:=h
  refine S_regionG 8 (Code.ops K23) [(17,cA,[vp (some z)]),(17,z,[vp u]),(16,(ad b),[vi y,vi r,vi xN,vi f,vi l,vi e,vi j]),(16,(((ad b).add 3).add (Int.toNat (IntKind.wrap .i64 (Int.tdiv (Int.tmod d 64) 16))*1)),[vi ag])] 19 (bv 19 0) (by kernel_rfl) (by kernel_rfl) (by kernel_rfl) (by kernel_rfl) (by kernel_rfl) (show FactsAt _ _ _ from⟨⟨q13,trivial⟩,⟨q14,trivial⟩,q15,⟨q17,trivial⟩,trivial⟩) ?_
  refine T_gp 0 (some 44) (vp (some cA)) (bv 19 1) [(0,vp (some cA)),(2,vu wv),(8,vi (IntKind.wrap .i64 (Int.tdiv d 64))),(9,vi (IntKind.wrap .i64 (Int.tdiv (Int.tmod d 64) 16))),(10,vp (pa b)),(44,vp (some cA))]<| T_gp1 1 45 (vp (some cA)) (bv 19 3) [44]<| T_gp1 2 46 (vp (some cA)) (bv 19 7) [45]<| T_g1 3 47 (vp (some z)) (bv 19 15) [46] (loadN 68 (vp (some cA))) (held_one 17 (λ_=>by kernel_rfl) (List.Mem.head _) (.inl (by kernel_rfl)))<| T_gp1 4 48 (vp (some z)) (bv 19 31) [47]<| T_gp1 5 49 (vp (some z)) (bv 19 63) [48]<| T_g1 6 50 (vp u) (bv 19 127) [49] (loadN 71 (vp (some z))) (held_one 17 (λ_=>by kernel_rfl) (List.Mem.tail _ (List.Mem.head _)) (.inl (by kernel_rfl)))<| T_gp1 7 51 (vi (IntKind.wrap .i64 (Int.tdiv d 64))) (bv 19 255) [8]<| T_gp1 8 52 (vi (IntKind.wrap .i64 (Int.tdiv (Int.tmod d 64) 16))) (bv 19 511) [] ?_
  refine T_gp1 9 53 (vp (some cA)) (bv 19 1023) [0]<| T_g1 10 54 (.agg #[vi y,vi r,vi xN,vi f,vi l,vi e,vi j]) (bv 19 2047) [] (loadN 92 (vp (pa b))) (held_row 16 (λ_=>by kernel_rfl) (λ_=>by kernel_rfl) (List.Mem.tail _ (List.Mem.tail _ (List.Mem.head _))) (.inl (by kernel_rfl)))<| T_gp1 11 55 (vu wv) (bv 19 4095) [2]<| T_gp1 12 56 (vi (IntKind.wrap .i64 (Int.tdiv (Int.tmod d 64) 16))) (bv 19 8191) [9]<| T_gp1 13 57 (vp (some ((ad b).add 3))) (bv 19 16383) [10]<| T_g1 14 58 (vp (some (((ad b).add 3).add (Int.toNat (IntKind.wrap .i64 (Int.tdiv (Int.tmod d 64) 16))*1)))) (bv 19 32767) [56,57] (indexAtN 72 (vp (some ((ad b).add 3))) (vi (IntKind.wrap .i64 (Int.tdiv (Int.tmod d 64) 16)))) (λ_ w _ _ _=>indexArr_run (P:=Tryz.prog) (t:=72) (elem:=3) (sz:=1) (n:=4) (a:=((ad b).add 3)) (k:=.i64) (i:=(IntKind.wrap .i64 (Int.tdiv (Int.tmod d 64) 16))) Tryz.underlying72 (λ_=>by kernel_rfl) q16.1 q16.2 w)<| T_g1 15 59 (vi ag) (bv 19 65535) [58] (loadN 3 (vp (some (((ad b).add 3).add (Int.toNat (IntKind.wrap .i64 (Int.tdiv (Int.tmod d 64) 16))*1))))) (held_one 16 (λ_=>by kernel_rfl) (List.Mem.tail _ (List.Mem.tail _ (List.Mem.tail _ (List.Mem.head _)))) (.inl (by kernel_rfl))) ?_
  refine G_call 16 (some 60) (bv 19 131071) 169 #[vp (some cA),.agg #[vi y,vi r,vi xN,vi f,vi l,vi e,vi j],vu wv,vi ag] (by kernel_rfl) (λ_=>by kernel_rfl) h (by kernel_rfl) ?_;clear h
  rintro aq H6 ⟨af,rfl,h⟩
  obtain⟨f18,f19,h⟩:=h
  refine⟨[(50,vp u),(51,vi (IntKind.wrap .i64 (Int.tdiv d 64))),(52,vi (IntKind.wrap .i64 (Int.tdiv (Int.tmod d 64) 16))),(60,vi af)],pk,(show FactsAt _ _ _ from⟨f18,f19,trivial,trivial,trivial⟩),?_⟩
  refine G_call 17 (some 61) (bv 19 262143) 168 #[vp u,vi (IntKind.wrap .i64 (Int.tdiv d 64)),vi (IntKind.wrap .i64 (Int.tdiv (Int.tmod d 64) 16)),vi af] (by kernel_rfl) (λ_=>by kernel_rfl) h (by kernel_rfl) ?_;clear h
  rintro au H7 ⟨ac,rfl,h⟩
  refine⟨[(61,vi ac)],pk,(show FactsAt _ _ _ from⟨trivial,trivial,trivial,trivial,trivial⟩),?_⟩
  refine T_g 18 (some 6) (vi ac) (bv 19 524287) [(6,vi ac)] (pure (.value (vi ac)):Sem Next) (λ_ _ _ _ _=>rfl) ?_
  refine G_sub [(6,vi ac)] sk ?_
  refine G_end (by kernel_rfl) ?_
  refine S_then ?_
  exact T_ret [6] [vi ac] hQ h
 rw[if_neg c5]at h
 exact T_cTz 25 (bne_iff_ne.mpr c5)<| T_srz 5<| T_nr 2 [6] [vi ab] hQ h
end card_Cards_Store

/-! (*moraine/card.Cards).none -/
namespace card_Cards_none
def K0:=Func.code Tryz.f167
end card_Cards_none
def card_Cards_none.pt(c:Option Addr)(H:Array Obj)(R:Value->Array Obj->Prop):Prop:=
 onPtr c (
 R (.bool true) H) (λcA=>
 ∃x:Option Addr,hat H cA=some (.pointer x)/\
 onPtr x (
 R (.bool true) H) (λxA=>
 ∃b:Option Addr,hat H cA=some (.pointer b)/\
 ∃d:Addr,b=some d/\
 ∃a:Option Addr,hat H d=some (.pointer a)/\
 onPtr a (
 R (.bool true) H) (λe=>
 R (.bool false) H)))
namespace card_Cards_none
theorem link{c:Option Addr}{H:Array Obj}{R:Value->Array Obj->Prop}(h:pt c H R):C c H R:=by
 refine T_en K0 22 Tryz.func167 ?_
 intro w0 Q hQ
 unfold pt at h
 refine T_su [(0,vp c)]<| T_srz 0<| T_ed 1 [] []<| T_srz 1<| T_nd 1 [] [(3,vp c)] ?_
 rcases c with _ | cA
 ·rw[onPtr_none]at h
  exact T_nr 19 [2] [.bool true] hQ h
 rw[onPtr_some]at h
 refine T_n 5 [(0,vp (some cA)),(5,.bool false),(8,vp (some cA))] ?_
 obtain⟨x,q1,h⟩:=h
 refine T_l1 9 68 q1 [8] ?_
 rcases x with _ | xA
 ·rw[onPtr_none]at h
  exact T_nr 13 [2] [.bool true] hQ h
 rw[onPtr_some]at h
 refine T_n 6 [(12,.bool false),(15,vp (some cA))] ?_
 obtain⟨b,q2,h⟩:=h
 refine T_l1 16 68 q2 [15] ?_
 obtain⟨d,rfl,h⟩:=h
 refine T_nd 2 [16] [(18,vp (some d))] ?_
 obtain⟨a,q3,h⟩:=h
 refine T_l1 19 71 q3 [18] ?_
 rcases a with _ | e
 ·rw[onPtr_none]at h
  exact T_nr 3 [2] [.bool true] hQ h
 rw[onPtr_some]at h
 exact T_nr 3 [2] [.bool false] hQ h
end card_Cards_none

/-! (*moraine/card.Cards).younger -/
namespace card_Cards_younger
def K0:=Func.code Tryz.f169
end card_Cards_younger
def card_Cards_younger.pt(c:Option Addr)(l j sN i f e d wv a:Int)(H:Array Obj)(R:Value->Array Obj->Prop):Prop:=
 ∀(b:Nat) (H1:Array Obj),b=H.size->H1=H.push (.cells #[.int .i64 l,.int .i64 j,.int .i64 sN,.int .i64 i,.int .i64 f,.int .i64 e,.int .i64 d] 92)->
 card_Cards_Gen.C c wv H1 (λv H2=> ∃(ra:Int) (rb:Bool),v=.tuple #[.int .i64 ra,.bool rb]/\
 if rb=true then(
 ∃x:Int,hat H2 ((ad b).add 1)=some (.int .i64 x)/\
 if x=3 then(
 R (.int .i64 a) H2)
 else
 ∃k:Int,hat H2 (ad b)=some (.int .i64 k)/\
 if ra<k then(
 R (.int .i64 (if ra<a then ra else a)) H2)
 else
 R (.int .i64 a) H2)
 else
 R (.int .i64 a) H2)
namespace card_Cards_younger
theorem link{c:Option Addr}{l j sN i f e d wv a:Int}{H:Array Obj}{R:Value->Array Obj->Prop}(h:pt c l j sN i f e d wv a H R):C c l j sN i f e d wv a H R:=by
 refine T_en K0 33 Tryz.func169 ?_
 intro w0 Q hQ
 unfold pt at h
 refine T_su [(0,vp c),(1,.agg #[vi l,vi j,vi sN,vi i,vi f,vi e,vi d]),(2,vu wv),(3,vi a)]<| T_srz 0<| T_nw (some 5) (λb=>vp (pa b)) (.cells #[vi l,vi j,vi sN,vi i,vi f,vi e,vi d] 92) ?_
 intro b H1 e1 e2
 replace h:=h b H1 e1 e2
 refine T_pd [1] [(5,vp (pa b))]<| T_ed 1 [] []<| T_sz<| T_srz 1<| T_nd 2 [0,2] [(12,vp c),(13,vu wv)] ?_
 refine T_c (some 14) h ?_;clear h
 rintro v H2 ⟨ra,rb,rfl,h⟩
 refine T_pd [12,13] [(14,.tuple #[vi ra,.bool rb])]<| T_ed 5 [14] [(9,vi ra),(10,.bool rb)]<| T_srz 2<| T_nd 2 [10] [(18,.bool rb)] ?_
 by_cases c3:rb=true
 ·rw[if_pos c3]at h
  refine N_bd 18 c3<| T_nd 1 [] [(19,vp (some ((ad b).add 1)))] ?_
  obtain⟨x,q5,h⟩:=h
  refine T_l1 20 3 q5 [19]<| T_nd 3 [18,20] [(23,.bool (x !=3))] ?_
  by_cases c6:x=3
  ·rw[if_pos c6]at h
   exact N_bd 23 (bne_eq_false_iff_eq.mpr c6)<| T_ed 5 [5,23] [(28,.bool false)]<| T_fz 28<| T_kt<| T_srz 4<| T_nr 2 [8] [vi a] hQ h
  rw[if_neg c6]at h
  refine N_bd 23 (bne_iff_ne.mpr c6)<| T_nd 2 [5] [(24,vi ra),(25,vp (pa b))] ?_
  obtain⟨k,q8,h⟩:=h
  refine T_l1 26 3 q8 [25]<| T_ed 2 [23,24,26] [(28,.bool (decide (ra<k)))] ?_
  by_cases c9:ra<k
  ·rw[if_pos c9]at h
   exact T_cTz 28 (decide_eq_true c9)<| T_srz 3<| T_nr 4 [8] [vi (if ra<a then ra else a)] hQ h
  rw[if_neg c9]at h
  exact T_cFz 28 (decide_eq_false c9)<| T_kt<| T_srz 4<| T_nr 2 [8] [vi a] hQ h
 rw[if_neg c3]at h
 exact N_bd 18 (eq_false_of_ne_true c3)<| T_ed 10 [5,18] [(28,.bool false)]<| T_fz 28<| T_kt<| T_srz 4<| T_nr 2 [8] [vi a] hQ h
end card_Cards_younger

/-! (*moraine/card.Cards).Gen -/
namespace card_Cards_Gen
def K0:=Func.code Tryz.f207
end card_Cards_Gen
def card_Cards_Gen.pt(c:Option Addr)(wv:Int)(H:Array Obj)(R:Value->Array Obj->Prop):Prop:=
 word_Addr.C wv H (λv H1=> ∃(ra:Int) (rb:Bool),v=.tuple #[.int .i64 ra,.bool rb]/\
 card_Cards_none.C c H1 (λs H2=> ∃x:Bool,s=.bool x/\
 if x=true then(
 R (.tuple #[.int .i64 0,.bool false]) H2)
 else
 if rb=true then(
 word_Tag.C wv H2 (λr H3=> ∃m:Int,r=.int .i64 m/\
 if m=6 then(
 R (.tuple #[.int .i64 0,.bool false]) H3)
 else
 ∃cA:Addr,c=some cA/\
 ∃q:Option Addr,hat H3 cA=some (.pointer q)/\
 ∃p:Addr,q=some p/\
 ∃n:Option Addr,hat H3 p=some (.pointer n)/\
 seg_Mem_Seg.C n (IntKind.wrap .i64 (Int.tdiv ra 64)) H3 (λt H4=> ∃(k i l a f e d:Int) (j:Bool),t=.tuple #[.agg #[.int .i64 k,.int .i64 i,.int .i64 l,.int .i64 a,.int .i64 f,.int .i64 e,.int .i64 d],.bool j]/\
 ∀(b:Nat) (H5:Array Obj),b=H4.size->H5=H4.push (.cells #[.int .i64 0,.int .i64 0,.int .i64 0,.int .i64 0,.int .i64 0,.int .i64 0,.int .i64 0] 92)->
 (CanPuts H5 (ad b) 0 7)/\ ∀H6,H6=hputs H5 (ad b) [.int .i64 k,.int .i64 i,.int .i64 l,.int .i64 a,.int .i64 f,.int .i64 e,.int .i64 d] 0->
 ∃o:Int,hat H6 (ad b)=some (.int .i64 o)/\
 R (.tuple #[.int .i64 o,.bool j]) H6)))
 else
 R (.tuple #[.int .i64 0,.bool false]) H2))
namespace card_Cards_Gen
theorem link{c:Option Addr}{wv:Int}{H:Array Obj}{R:Value->Array Obj->Prop}(h:pt c wv H R):C c wv H R:=by
 refine T_en K0 41 Tryz.func207 ?_
 intro w0 Q hQ
 unfold pt at h
 refine T_su [(0,vp c),(1,vu wv)]<| T_srz 0<| T_ed 2 [] []<| T_srz 1<| T_nd 1 [] [(10,vu wv)] ?_
 refine T_c (some 11) h ?_;clear h
 rintro v H1 ⟨ra,rb,rfl,h⟩
 refine T_pd [10] [(11,.tuple #[vi ra,.bool rb])]<| T_ed 5 [11] [(6,vi ra),(7,.bool rb)]<| T_sz<| T_srz 2<| T_nd 1 [] [(14,vp c)] ?_
 refine T_c (some 15) h ?_;clear h
 rintro s H2 ⟨x,rfl,h⟩
 refine T_pd [14] [(15,.bool x)]<| T_nd 1 [15] [(16,.bool x)] ?_
 by_cases c1:x=true
 ·rw[if_pos c1]at h
  exact N_bd 16 c1<| T_ed 8 [1,7,16] [(24,.bool true)]<| T_tz 24<| T_srz 3<| T_nr 2 [4,5] [vi 0,.bool false] hQ h
 rw[if_neg c1]at h
 refine N_bd 16 (eq_false_of_ne_true c1)<| T_nd 4 [7,16] [(20,.bool (!rb))] ?_
 by_cases c3:rb=true
 ·rw[if_pos c3]at h
  have b4:(!rb)=false:=congrArg Bool.not (c3)
  have b42:rb=true:=c3
  refine N_bd 20 (b:=(!rb)) (v:=false) (by simp only[b4,b42,Bool.not_true,Bool.not_false]) ?_
  clear b4 b42
  refine T_nd 1 [1] [(21,vu wv)] ?_
  refine T_c (some 22) h ?_;clear h
  rintro r H3 ⟨m,rfl,h⟩
  refine T_pd [21] [(22,vi m)]<| T_ed 2 [20,22] [(24,.bool (m==6))] ?_
  by_cases c5:m=6
  ·rw[if_pos c5]at h
   exact T_cTz 24 (beq_iff_eq.mpr c5)<| T_srz 3<| T_nr 2 [4,5] [vi 0,.bool false] hQ h
  rw[if_neg c5]at h
  refine T_cFz 24 (beq_eq_false_iff_ne.mpr c5)<| T_kt<| T_srz 4<| T_nd 1 [0,24] [(26,vp c)] ?_
  obtain⟨cA,rfl,h⟩:=h
  refine T_nd 2 [26] [(28,vp (some cA))] ?_
  obtain⟨q,q7,h⟩:=h
  refine T_l1 29 68 q7 [28] ?_
  obtain⟨p,rfl,h⟩:=h
  refine T_nd 2 [29] [(31,vp (some p))] ?_
  obtain⟨n,q8,h⟩:=h
  refine T_l1 32 71 q8 [31]<| T_nd 2 [6] [(34,vi (IntKind.wrap .i64 (Int.tdiv ra 64)))] ?_
  refine T_c (some 35) h ?_;clear h
  rintro t H4 ⟨k,i,l,a,f,e,d,j,rfl,h⟩
  refine⟨[(35,.tuple #[.agg #[vi k,vi i,vi l,vi a,vi f,vi e,vi d],.bool j])],pk,?_⟩
  refine T_n 3 [(36,.agg #[vi k,vi i,vi l,vi a,vi f,vi e,vi d]),(37,.bool j)]<| T_nw (some 8) (λb=>vp (pa b)) (.cells #[vi 0,vi 0,vi 0,vi 0,vi 0,vi 0,vi 0] 92) ?_
  intro b H5 e9 e10
  replace h:=h b H5 e9 e10
  refine T_pd [] [(8,vp (pa b))] ?_
  obtain⟨q12,h⟩:=h
  refine T_sta 92 [vi k,vi i,vi l,vi a,vi f,vi e,vi d] q12 ?_
  intro H6 e11
  replace h:=h H6 e11
  refine T_pd [36] []<| T_ed 1 [37] [(7,.bool j)]<| T_srz 5<| T_nd 1 [8] [(38,vp (pa b))] ?_
  obtain⟨o,q13,h⟩:=h
  exact T_l1 39 3 q13 [38]<| T_nr 3 [4,5] [vi o,.bool j] hQ h
 rw[if_neg c3]at h
 have b4:(!rb)=true:=congrArg Bool.not (eq_false_of_ne_true c3)
 have b42:rb=false:=eq_false_of_ne_true c3
 refine N_bd 20 (b:=(!rb)) (v:=true) (by simp only[b4,b42,Bool.not_true,Bool.not_false]) ?_
 clear b4 b42
 exact T_ed 4 [1,20] [(24,.bool true)]<| T_tz 24<| T_srz 3<| T_nr 2 [4,5] [vi 0,.bool false] hQ h
end card_Cards_Gen

end Go.Proofs.YtibpklpgmgakcaaGreat
