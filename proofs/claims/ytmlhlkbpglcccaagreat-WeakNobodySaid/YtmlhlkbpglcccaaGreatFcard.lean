/- Printed: what each function asks, and that it is sound. -/
import Derived.Test.YtmlhlkbpglcccaaGreatFnsC
set_option linter.unusedSimpArgs false
set_option linter.unusedVariables false
set_option maxRecDepth 100000
set_option maxHeartbeats 1000000
noncomputable section
namespace Go.Proofs.YtmlhlkbpglcccaaGreat
open Go
/-! moraine/card.New -/
namespace fC
def K0:=Func.code Tryz.f36
end fC
def fC.pt(a:Int)(H:zV)(R:zj):Prop:=
 fg.C a H (λv H1=> ∃(ra:zW) (rb:Int),v=.tuple #[.pointer ra,.int .i64 rb]/\
 if rb=0 then(
 ∀(b:Nat) (H2:zV),b=H1.size->H2=H1.push (.cells #[.pointer ra] 58)->
 R (.tuple #[.pointer (some (ad b)),.int .i64 0]) H2)
 else
 R (.tuple #[.pointer none,.int .i64 rb]) H1)
namespace fC
theorem link{a:Int}{H:zV}{R:zj}(h:pt a H R):C a H R:=by
 refine T_en K0 17 Tryz.func36 ?_
 intro w0 Q hQ
 unfold pt at h
 refine T_su [(0,vi a)]<| ar 0<| T_ed 2 [] []<| ar 1<| T_n 1 [(7,vi a)]<| T_c (some 8) h ?_;clear h
 rintro v H1 ⟨ra,rb,rfl,h⟩
 refine⟨[(8,.tuple #[vp ra,vi rb])],pk,?_⟩
 refine T_ne 5 [(4,vp ra),(5,vi rb)]<| T_sz<| ar 2<| T_ed 2 [] [(12,.bool (rb !=0))] ?_
 by_cases c1:rb=0
 ·rw[if_pos c1]at h
  refine aJ 12 (bne_eq_false_iff_eq.mpr c1)<| T_kt<| ar 4<| T_n 2 [(15,.agg #[vp ra])]<| T_nw (some 16) (λb=>vp (pa b)) (.cells #[vp ra] 58) ?_
  intro b H2 e3 e4
  replace h:=h b H2 e3 e4
  refine⟨[(16,vp (pa b))],pk,?_⟩
  exact T_nr 2 [2,3] [vp (pa b),vi 0] hQ h
 rw[if_neg c1]at h
 exact aI 12 (bne_iff_ne.mpr c1)<| ar 3<| T_nr 3 [2,3] [vp none,vi rb] hQ h
end fC

/-! (*moraine/card.Cards).none -/
namespace bV
def K0:=Func.code Tryz.f81
end bV
def bV.pt(c:zW)(H:zV)(R:zj):Prop:=
 ei c (
 R (.bool true) H) (λcA=>
 ∃x:zW,hat H cA=some (.pointer x)/\
 ei x (
 R (.bool true) H) (λxA=>
 ∃d:zW,hat H cA=some (.pointer d)/\
 ∃b:Addr,d=some b/\
 ∃a:zW,hat H b=some (.pointer a)/\
 ei a (
 R (.bool true) H) (λe=>
 R (.bool false) H)))
namespace bV
theorem link{c:zW}{H:zV}{R:zj}(h:pt c H R):C c H R:=by
 refine T_en K0 22 Tryz.func81 ?_
 intro w0 Q hQ
 unfold pt at h
 refine T_su [(0,vp c)]<| ar 0<| T_ed 1 [] []<| ar 1<| T_nd 1 [] [(3,vp c)] ?_
 rcases c with _ | cA
 ·rw[onPtr_none]at h
  exact T_nr 19 [2] [.bool true] hQ h
 rw[onPtr_some]at h
 refine T_n 5 [(0,vp (some cA)),(5,.bool false),(8,vp (some cA))] ?_
 obtain⟨x,q1,h⟩:=h
 refine T_l1 9 56 q1 [8] ?_
 rcases x with _ | xA
 ·rw[onPtr_none]at h
  exact T_nr 13 [2] [.bool true] hQ h
 rw[onPtr_some]at h
 refine T_n 6 [(12,.bool false),(15,vp (some cA))] ?_
 obtain⟨d,q2,h⟩:=h
 refine T_l1 16 56 q2 [15] ?_
 obtain⟨b,rfl,h⟩:=h
 refine T_nd 2 [16] [(18,vp (some b))] ?_
 obtain⟨a,q3,h⟩:=h
 refine T_l1 19 82 q3 [18] ?_
 rcases a with _ | e
 ·rw[onPtr_none]at h
  exact T_nr 3 [2] [.bool true] hQ h
 rw[onPtr_some]at h
 exact T_nr 3 [2] [.bool false] hQ h
end bV

/-! (*moraine/card.Cards).younger -/
namespace bS
def K0:=Func.code Tryz.f96
end bS
def bS.pt(c:zW)(k i sN e d f g wv a:Int)(H:zV)(R:zj):Prop:=
 ∀(b:Nat) (H1:zV),b=H.size->H1=H.push (.cells #[.int .i64 k,.int .i64 i,.int .i64 sN,.int .i64 e,.int .i64 d,.int .i64 f,.int .i64 g] 102)->
 du.C c wv H1 (λv H2=> ∃(ra:Int) (rb:Bool),v=.tuple #[.int .i64 ra,.bool rb]/\
 if rb=true then(
 ∃x:Int,hat H2 ((ad b).add 1)=some (.int .i64 x)/\
 if x=3 then(
 R (.int .i64 a) H2)
 else
 ∃j:Int,hat H2 (ad b)=some (.int .i64 j)/\
 if ra<j then(
 R (.int .i64 (if ra<a then ra else a)) H2)
 else
 R (.int .i64 a) H2)
 else
 R (.int .i64 a) H2)
namespace bS
theorem link{c:zW}{k i sN e d f g wv a:Int}{H:zV}{R:zj}(h:pt c k i sN e d f g wv a H R):C c k i sN e d f g wv a H R:=by
 refine T_en K0 33 Tryz.func96 ?_
 intro w0 Q hQ
 unfold pt at h
 refine T_su [(0,vp c),(1,.agg #[vi k,vi i,vi sN,vi e,vi d,vi f,vi g]),(2,vu wv),(3,vi a)]<| ar 0<| T_nw (some 5) (λb=>vp (pa b)) (.cells #[vi k,vi i,vi sN,vi e,vi d,vi f,vi g] 102) ?_
 intro b H1 e1 e2
 replace h:=h b H1 e1 e2
 refine T_pd [1] [(5,vp (pa b))]<| T_ed 1 [] []<| T_sz<| ar 1<| T_nd 2 [0,2] [(12,vp c),(13,vu wv)]<| T_c (some 14) h ?_;clear h
 rintro v H2 ⟨ra,rb,rfl,h⟩
 refine T_pd [12,13] [(14,.tuple #[vi ra,.bool rb])]<| T_ed 5 [14] [(9,vi ra),(10,.bool rb)]<| ar 2<| T_nd 2 [10] [(18,.bool rb)] ?_
 by_cases c3:rb=true
 ·rw[if_pos c3]at h
  refine N_bd 18 c3<| T_nd 1 [] [(19,vp (some ((ad b).add 1)))] ?_
  obtain⟨x,q5,h⟩:=h
  refine T_l1 20 3 q5 [19]<| T_nd 3 [18,20] [(23,.bool (x !=3))] ?_
  by_cases c6:x=3
  ·rw[if_pos c6]at h
   exact N_bd 23 (bne_eq_false_iff_eq.mpr c6)<| T_ed 5 [5,23] [(28,.bool false)]<| T_fz 28<| T_kt<| ar 4<| T_nr 2 [8] [vi a] hQ h
  rw[if_neg c6]at h
  refine N_bd 23 (bne_iff_ne.mpr c6)<| T_nd 2 [5] [(24,vi ra),(25,vp (pa b))] ?_
  obtain⟨j,q8,h⟩:=h
  refine T_l1 26 3 q8 [25]<| T_ed 2 [23,24,26] [(28,.bool (decide (ra<j)))] ?_
  by_cases c9:ra<j
  ·rw[if_pos c9]at h
   exact aI 28 (zX c9)<| ar 3<| T_nr 4 [8] [vi (if ra<a then ra else a)] hQ h
  rw[if_neg c9]at h
  exact aJ 28 (zQ c9)<| T_kt<| ar 4<| T_nr 2 [8] [vi a] hQ h
 rw[if_neg c3]at h
 exact N_bd 18 (zZ c3)<| T_ed 10 [5,18] [(28,.bool false)]<| T_fz 28<| T_kt<| ar 4<| T_nr 2 [8] [vi a] hQ h
end bS

/-! (*moraine/card.Cards).Store -/
namespace cE
def K0:=Func.code Tryz.f112
def K2:=cb K0
def K4:=cb K2
def K12:=cb K4
def K20:=cb K12
def K22:=cb K20
def K23:=ca K22
end cE
def cE.pt(c:zW)(d wv:Int)(H:zV)(R:zj):Prop:=
 bV.C c H (λv H1=> ∃x:Bool,v=.bool x/\
 if x=true then(
 R (.int .i64 18) H1)
 else
 ∃cA:Addr,c=some cA/\
 ∃ai:zW,hat H1 cA=some (.pointer ai)/\
 ∃al:Addr,ai=some al/\
 ∃af:zW,hat H1 al=some (.pointer af)/\
 bK.C af d wv H1 (λaq H2=> ∃aa:Int,aq=.int .i64 aa/\
 if aa=0 then(
 ∃aj:zW,hat H2 cA=some (.pointer aj)/\
 ∃ak:Addr,aj=some ak/\
 ∃ah:zW,hat H2 ak=some (.pointer ah)/\
 bE.C ah (zY (Int.tdiv d 64)) H2 (λan H3=> ∃(z r ac o p l m:Int) (rb:Bool),an=.tuple #[.agg #[.int .i64 z,.int .i64 r,.int .i64 ac,.int .i64 o,.int .i64 p,.int .i64 l,.int .i64 m],.bool rb]/\
 ∀(b:Nat) (H4:zV),b=H3.size->H4=H3.push (.cells #[.int .i64 0,.int .i64 0,.int .i64 0,.int .i64 0,.int .i64 0,.int .i64 0,.int .i64 0] 102)->
 (aK H4 (ad b) 0 7)/\ ∀H5,H5=aS H4 (ad b) [.int .i64 z,.int .i64 r,.int .i64 ac,.int .i64 o,.int .i64 p,.int .i64 l,.int .i64 m] 0->
 ∃am:zW,hat H5 cA=some (.pointer am)/\
 ∃y:Addr,am=some y/\
 ∃s:zW,hat H5 y=some (.pointer s)/\
 ∃u q xN f j e g:Int,aT H5 (ad b) 0 [.int .i64 u,.int .i64 q,.int .i64 xN,.int .i64 f,.int .i64 j,.int .i64 e,.int .i64 g]/\
 ((0:Int)<=(zY (Int.tdiv (Int.tmod d 64) 16))/\(zY (Int.tdiv (Int.tmod d 64) 16))< (4:Int))/\
 ∃ae:Int,hat H5 (((ad b).add 3).add (Int.toNat (zY (Int.tdiv (Int.tmod d 64) 16))*1))=some (.int .i64 ae)/\
 bS.C (some cA) u q xN f j e g wv ae H5 (λao H6=> ∃ag:Int,ao=.int .i64 ag/\aT H6 cA 0 [.pointer (some y)]/\aT H6 y 0 [.pointer s]/\
 dO.C s (zY (Int.tdiv d 64)) (zY (Int.tdiv (Int.tmod d 64) 16)) ag H6 (λap H7=> ∃ab:Int,ap=.int .i64 ab/\
 R (.int .i64 ab) H7))))
 else
 R (.int .i64 aa) H2))
namespace cE
theorem link{c:zW}{d wv:Int}{H:zV}{R:zj}(h:pt c d wv H R):C c d wv H R:=by
 refine T_en K0 62 Tryz.func112 ?_
 intro w0 Q hQ
 unfold pt zY at h
 refine T_su [(0,vp c),(1,vi d),(2,vu wv)]<| ar 0<| T_ed 1 [] []<| T_sz<| ar 1<| T_nd 1 [] [(12,vp c)]<| T_c (some 13) h ?_;clear h
 rintro v H1 ⟨x,rfl,h⟩
 refine T_pd [12] [(13,.bool x)]<| T_e ?_
 by_cases c1:x=true
 ·rw[if_pos c1]at h
  exact aI 13 c1<| ar 2<| T_nr 1 [6] [vi 18] hQ h
 rw[if_neg c1]at h
 refine aJ 13 (zZ c1)<| T_kt<| T_sz<| ar 3<| T_nd 1 [13] [(14,vp c)] ?_
 obtain⟨cA,rfl,h⟩:=h
 refine T_nd 2 [0,14] [(0,vp (some cA)),(16,vp (some cA))] ?_
 obtain⟨ai,q3,h⟩:=h
 refine T_l1 17 56 q3 [16] ?_
 obtain⟨al,rfl,h⟩:=h
 refine T_nd 2 [17] [(19,vp (some al))] ?_
 obtain⟨af,q4,h⟩:=h
 refine T_l1 20 82 q4 [19]<| T_nd 2 [] [(21,vi d),(22,vu wv)]<| T_c (some 23) h ?_;clear h
 rintro aq H2 ⟨aa,rfl,h⟩
 refine T_pd [20,21,22] [(23,vi aa)]<| T_ed 1 [23] [(7,vi aa)]<| ar 4<| T_ed 2 [] [(25,.bool (aa !=0))] ?_
 by_cases c5:aa=0
 ·rw[if_pos c5]at h
  refine aJ 25 (bne_eq_false_iff_eq.mpr c5)<| T_kt<| ar 6<| T_ed 7 [1,7,25] [(8,vi (zY (Int.tdiv d 64))),(9,vi (zY (Int.tdiv (Int.tmod d 64) 16)))]<| ar 7<| T_nd 3 [] [(35,vp (some cA))] ?_
  obtain⟨aj,q7,h⟩:=h
  refine T_l1 36 56 q7 [35] ?_
  obtain⟨ak,rfl,h⟩:=h
  refine T_nd 2 [36] [(38,vp (some ak))] ?_
  obtain⟨ah,q8,h⟩:=h
  refine T_l1 39 82 q8 [38]<| T_nd 1 [] [(40,vi (zY (Int.tdiv d 64)))]<| T_c (some 41) h ?_;clear h
  rintro an H3 ⟨z,r,ac,o,p,l,m,rb,rfl,h⟩
  refine T_pd [39,40] [(41,.tuple #[.agg #[vi z,vi r,vi ac,vi o,vi p,vi l,vi m],.bool rb])]<| T_nd 3 [41] [(42,.agg #[vi z,vi r,vi ac,vi o,vi p,vi l,vi m]),(43,.bool rb)]<| T_nw (some 10) (λb=>vp (pa b)) (.cells #[vi 0,vi 0,vi 0,vi 0,vi 0,vi 0,vi 0] 102) ?_
  intro b H4 e9 e10
  replace h:=h b H4 e9 e10
  refine T_pd [] [(10,vp (pa b))] ?_
  obtain⟨q12,h⟩:=h
  refine fl 102 [vi z,vi r,vi ac,vi o,vi p,vi l,vi m] q12 ?_
  intro H5 e11
  replace h:=h H5 e11
  refine T_pd [42] []<| T_ed 1 [43] []<| T_sz ?_
  obtain⟨am,q13,y,rfl,s,q14,u,q,xN,f,j,e,g,q15,q16,ae,q17,h⟩:=h
  refine yW 8 (Code.ops K23) [(17,cA,[vp (some y)]),(17,y,[vp s]),(16,(ad b),[vi u,vi q,vi xN,vi f,vi j,vi e,vi g]),(16,(((ad b).add 3).add (Int.toNat (zY (Int.tdiv (Int.tmod d 64) 16))*1)),[vi ae])] 19 (bv 19 0) (show aG _ _ _ from⟨⟨q13,trivial⟩,⟨q14,trivial⟩,q15,⟨q17,trivial⟩,trivial⟩)<| T_gp 0 (some 44) (vp (some cA)) (bv 19 1) [(0,vp (some cA)),(2,vu wv),(8,vi (zY (Int.tdiv d 64))),(9,vi (zY (Int.tdiv (Int.tmod d 64) 16))),(10,vp (pa b)),(44,vp (some cA))]<| aF 1 45 (vp (some cA)) (bv 19 3) [44]<| aF 2 46 (vp (some cA)) (bv 19 7) [45]<| T_g1 3 47 (vp (some y)) (bv 19 15) [46] (aP 56 (vp (some cA))) (yV 17 zw)<| aF 4 48 (vp (some y)) (bv 19 31) [47]<| aF 5 49 (vp (some y)) (bv 19 63) [48]<| T_g1 6 50 (vp s) (bv 19 127) [49] (aP 82 (vp (some y))) (yV 17 yZ)<| aF 7 51 (vi (zY (Int.tdiv d 64))) (bv 19 255) [8]<| aF 8 52 (vi (zY (Int.tdiv (Int.tmod d 64) 16))) (bv 19 511) []<| aF 9 53 (vp (some cA)) (bv 19 1023) [0]<| T_g1 10 54 (.agg #[vi u,vi q,vi xN,vi f,vi j,vi e,vi g]) (bv 19 2047) [] (aP 102 (vp (pa b))) (nu 16 (λ_=>by kernel_rfl) (λ_=>by kernel_rfl) yX (.inl (by kernel_rfl)))<| aF 11 55 (vu wv) (bv 19 4095) [2]<| aF 12 56 (vi (zY (Int.tdiv (Int.tmod d 64) 16))) (bv 19 8191) [9]<| aF 13 57 (vp (some ((ad b).add 3))) (bv 19 16383) [10]<| T_g1 14 58 (vp (some (((ad b).add 3).add (Int.toNat (zY (Int.tdiv (Int.tmod d 64) 16))*1)))) (bv 19 32767) [56,57] (aX 83 (vp (some ((ad b).add 3))) (vi (zY (Int.tdiv (Int.tmod d 64) 16)))) (λ_ w _ _ _=>bJ (P:=Tryz.prog) (t:=83) (elem:=3) (sz:=1) (n:=4) (a:=((ad b).add 3)) (k:=.i64) (i:=(zY (Int.tdiv (Int.tmod d 64) 16))) Tryz.underlying83 (λ_=>by kernel_rfl) q16.1 q16.2 w)<| T_g1 15 59 (vi ae) (bv 19 65535) [58] (aP 3 (vp (some (((ad b).add 3).add (Int.toNat (zY (Int.tdiv (Int.tmod d 64) 16))*1))))) (yV 16 yQ)<| yY 16 (some 60) (bv 19 131071) 96 #[vp (some cA),.agg #[vi u,vi q,vi xN,vi f,vi j,vi e,vi g],vu wv,vi ae] h ?_;clear h
  rintro ao H6 ⟨ag,rfl,f18,f19,h⟩
  refine⟨[(50,vp s),(51,vi (zY (Int.tdiv d 64))),(52,vi (zY (Int.tdiv (Int.tmod d 64) 16))),(60,vi ag)],pk,(show aG _ _ _ from⟨f18,f19,trivial,trivial,trivial⟩),?_⟩
  refine yY 17 (some 61) (bv 19 262143) 97 #[vp s,vi (zY (Int.tdiv d 64)),vi (zY (Int.tdiv (Int.tmod d 64) 16)),vi ag] h ?_;clear h
  rintro ap H7 ⟨ab,rfl,h⟩
  refine⟨[(61,vi ab)],pk,(show aG _ _ _ from⟨trivial,trivial,trivial,trivial,trivial⟩),?_⟩
  exact T_g 18 (some 6) (vi ab) (bv 19 524287) [(6,vi ab)] (pure (.value (vi ab)):Sem Next) (λ_ _ _ _ _=>rfl)<| eV [(6,vi ab)] sk<| yq<| aE<| eW [6] [vi ab] hQ h
 rw[if_neg c5]at h
 exact aI 25 (bne_iff_ne.mpr c5)<| ar 5<| T_nr 2 [6] [vi aa] hQ h
end cE

/-! (*moraine/card.Cards).Gen -/
namespace du
def K0:=Func.code Tryz.f114
end du
def du.pt(c:zW)(wv:Int)(H:zV)(R:zj):Prop:=
 dV.C wv H (λv H1=> ∃(ra:Int) (rb:Bool),v=.tuple #[.int .i64 ra,.bool rb]/\
 bV.C c H1 (λs H2=> ∃x:Bool,s=.bool x/\
 if x=true then(
 R (.tuple #[.int .i64 0,.bool false]) H2)
 else
 if rb=true then(
 dQ.C wv H2 (λq H3=> ∃l:Int,q=.int .i64 l/\
 if l=6 then(
 R (.tuple #[.int .i64 0,.bool false]) H3)
 else
 ∃cA:Addr,c=some cA/\
 ∃o:zW,hat H3 cA=some (.pointer o)/\
 ∃p:Addr,o=some p/\
 ∃n:zW,hat H3 p=some (.pointer n)/\
 bE.C n (zY (Int.tdiv ra 64)) H3 (λr H4=> ∃(j g k e f a d:Int) (i:Bool),r=.tuple #[.agg #[.int .i64 j,.int .i64 g,.int .i64 k,.int .i64 e,.int .i64 f,.int .i64 a,.int .i64 d],.bool i]/\
 ∀(b:Nat) (H5:zV),b=H4.size->H5=H4.push (.cells #[.int .i64 0,.int .i64 0,.int .i64 0,.int .i64 0,.int .i64 0,.int .i64 0,.int .i64 0] 102)->
 (aK H5 (ad b) 0 7)/\ ∀H6,H6=aS H5 (ad b) [.int .i64 j,.int .i64 g,.int .i64 k,.int .i64 e,.int .i64 f,.int .i64 a,.int .i64 d] 0->
 ∃m:Int,hat H6 (ad b)=some (.int .i64 m)/\
 R (.tuple #[.int .i64 m,.bool i]) H6)))
 else
 R (.tuple #[.int .i64 0,.bool false]) H2))
namespace du
theorem link{c:zW}{wv:Int}{H:zV}{R:zj}(h:pt c wv H R):C c wv H R:=by
 refine T_en K0 41 Tryz.func114 ?_
 intro w0 Q hQ
 unfold pt zY at h
 refine T_su [(0,vp c),(1,vu wv)]<| ar 0<| T_ed 2 [] []<| ar 1<| T_nd 1 [] [(10,vu wv)]<| T_c (some 11) h ?_;clear h
 rintro v H1 ⟨ra,rb,rfl,h⟩
 refine T_pd [10] [(11,.tuple #[vi ra,.bool rb])]<| T_ed 5 [11] [(6,vi ra),(7,.bool rb)]<| T_sz<| ar 2<| T_nd 1 [] [(14,vp c)]<| T_c (some 15) h ?_;clear h
 rintro s H2 ⟨x,rfl,h⟩
 refine T_pd [14] [(15,.bool x)]<| T_nd 1 [15] [(16,.bool x)] ?_
 by_cases c1:x=true
 ·rw[if_pos c1]at h
  exact N_bd 16 c1<| T_ed 8 [1,7,16] [(24,.bool true)]<| T_tz 24<| ar 3<| T_nr 2 [4,5] [vi 0,.bool false] hQ h
 rw[if_neg c1]at h
 refine N_bd 16 (zZ c1)<| T_nd 4 [7,16] [(20,.bool (!rb))] ?_
 by_cases c3:rb=true
 ·rw[if_pos c3]at h
  have b4:(!rb)=false:=congrArg Bool.not (c3)
  have b42:rb=true:=c3
  refine N_bd 20 (b:=(!rb)) (v:=false) (by simp only[b4,b42,Bool.not_true,Bool.not_false]) ?_
  clear b4 b42
  refine T_nd 1 [1] [(21,vu wv)]<| T_c (some 22) h ?_;clear h
  rintro q H3 ⟨l,rfl,h⟩
  refine T_pd [21] [(22,vi l)]<| T_ed 2 [20,22] [(24,.bool (l==6))] ?_
  by_cases c5:l=6
  ·rw[if_pos c5]at h
   exact aI 24 (zK c5)<| ar 3<| T_nr 2 [4,5] [vi 0,.bool false] hQ h
  rw[if_neg c5]at h
  refine aJ 24 (zJ c5)<| T_kt<| ar 4<| T_nd 1 [0,24] [(26,vp c)] ?_
  obtain⟨cA,rfl,h⟩:=h
  refine T_nd 2 [26] [(28,vp (some cA))] ?_
  obtain⟨o,q7,h⟩:=h
  refine T_l1 29 56 q7 [28] ?_
  obtain⟨p,rfl,h⟩:=h
  refine T_nd 2 [29] [(31,vp (some p))] ?_
  obtain⟨n,q8,h⟩:=h
  refine T_l1 32 82 q8 [31]<| T_nd 2 [6] [(34,vi (zY (Int.tdiv ra 64)))]<| T_c (some 35) h ?_;clear h
  rintro r H4 ⟨j,g,k,e,f,a,d,i,rfl,h⟩
  refine⟨[(35,.tuple #[.agg #[vi j,vi g,vi k,vi e,vi f,vi a,vi d],.bool i])],pk,?_⟩
  refine T_n 3 [(36,.agg #[vi j,vi g,vi k,vi e,vi f,vi a,vi d]),(37,.bool i)]<| T_nw (some 8) (λb=>vp (pa b)) (.cells #[vi 0,vi 0,vi 0,vi 0,vi 0,vi 0,vi 0] 102) ?_
  intro b H5 e9 e10
  replace h:=h b H5 e9 e10
  refine T_pd [] [(8,vp (pa b))] ?_
  obtain⟨q12,h⟩:=h
  refine fl 102 [vi j,vi g,vi k,vi e,vi f,vi a,vi d] q12 ?_
  intro H6 e11
  replace h:=h H6 e11
  refine T_pd [36] []<| T_ed 1 [37] [(7,.bool i)]<| ar 5<| T_nd 1 [8] [(38,vp (pa b))] ?_
  obtain⟨m,q13,h⟩:=h
  exact T_l1 39 3 q13 [38]<| T_nr 3 [4,5] [vi m,.bool i] hQ h
 rw[if_neg c3]at h
 have b4:(!rb)=true:=congrArg Bool.not (zZ c3)
 have b42:rb=false:=zZ c3
 refine N_bd 20 (b:=(!rb)) (v:=true) (by simp only[b4,b42,Bool.not_true,Bool.not_false]) ?_
 clear b4 b42
 exact T_ed 4 [1,20] [(24,.bool true)]<| T_tz 24<| ar 3<| T_nr 2 [4,5] [vi 0,.bool false] hQ h
end du

