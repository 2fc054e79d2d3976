/- Printed: what each function asks, and that it is sound. -/
import Derived.Test.YtihdffpekpnglaaGreatFnsC
set_option linter.unusedSimpArgs false
set_option linter.unusedVariables false
set_option maxRecDepth 100000
set_option maxHeartbeats 1000000
noncomputable section
namespace Go.Proofs.YtihdffpekpnglaaGreat
open Go
/-! moraine/moraineref01.Word -/
namespace dE
def K0:=Func.code Tryz.f79
def K2:=cb K0
def K3:=ca K2
def K4:=cb K2
def K6:=cb K3
def K7:=ca K6
def K9:=cb K7
def K10:=ca K9
def K13:=cb K10
def K14:=ca K13
def K17:=cb K14
def K18:=ca K17
def K40:=ca K4
end dE
def dE.pt(l p tA tX m:Int)(H:zW)(R:zv):Prop:=
 ∀(b:Nat) (H1:zW),b=H.size->H1=H.push (.cells #[.int .i64 l,.int .i64 p,.int .i64 tA,.int .i64 tX,.int .u64 m] 111)->
 ∃x:Int,hat H1 (ad b)=some (.int .i64 x)/\
 if x=1 then(
 ∃j:Int,hat H1 ((ad b).add 3)=some (.int .i64 j)/\
 ∃n:Int,hat H1 ((ad b).add 3)=some (.int .i64 n)/\
 if n<0 then(
 ∃i:Int,hat H1 ((ad b).add 3)=some (.int .i64 i)/\
 cJ.C 61 H1 (λv H2=> ∃k:Int,v=.int .u64 k/\aG H2 ((ad b).add 3) 0 [.int .i64 i]/\
 R (.int .u64 (IntKind.wrap .u64 ((IntKind.wrap .u64 (k-(IntKind.wrap .u64 (zq (0-i)))))*8))) H2))
 else
 R (.int .u64 (IntKind.wrap .u64 ((IntKind.wrap .u64 j)*8))) H1)
 else
 if x=2 then(
 ∃o:Int,hat H1 ((ad b).add 2)=some (.int .i64 o)/\
 ∃q:Int,hat H1 ((ad b).add 1)=some (.int .i64 q)/\
 R (.int .u64 (IntKind.wrap .u64 ((IntKind.wrap .u64 ((IntKind.wrap .u64 o)*8))+(IntKind.wrap .u64 q)))) H1)
 else
 if x=3 then(
 ∃s:Int,hat H1 ((ad b).add 2)=some (.int .i64 s)/\
 R (.int .u64 (IntKind.wrap .u64 ((IntKind.wrap .u64 ((IntKind.wrap .u64 s)*8))+4))) H1)
 else
 if x=4 then(
 ∃r:Int,hat H1 ((ad b).add 2)=some (.int .i64 r)/\
 R (.int .u64 (IntKind.wrap .u64 ((IntKind.wrap .u64 ((IntKind.wrap .u64 ((IntKind.wrap .u64 r)*256))+56))+4))) H1)
 else
 ∃a:Int,hat H1 ((ad b).add 4)=some (.int .u64 a)/\
 ∃d:Int,hat H1 ((ad b).add 2)=some (.int .i64 d)/\
 ∃e:Int,hat H1 ((ad b).add 1)=some (.int .i64 e)/\
 cJ.C 16 H1 (λt H3=> ∃f:Int,t=.int .u64 f/\aG H3 ((ad b).add 4) 0 [.int .u64 a]/\aG H3 ((ad b).add 2) 0 [.int .i64 d]/\aG H3 ((ad b).add 1) 0 [.int .i64 e]/\
 R (.int .u64 (IntKind.wrap .u64 ((IntKind.wrap .u64 ((IntKind.wrap .u64 ((IntKind.wrap .u64 (a*f))+(IntKind.wrap .u64 ((IntKind.wrap .u64 d)*256))))+(IntKind.wrap .u64 ((IntKind.wrap .u64 e)*8))))+5))) H3)
namespace dE
theorem link{l p tA tX m:Int}{H:zW}{R:zv}(h:pt l p tA tX m H R):C l p tA tX m H R:=by
 refine T_en K0 62 Tryz.func79 ?_
 intro w0 Q hQ
 unfold pt zq at h
 refine T_su [(0,.agg #[vi l,vi p,vi tA,vi tX,vu m])]<| ar 0<| T_nw (some 1) (λb=>vp (pa b)) (.cells #[vi l,vi p,vi tA,vi tX,vu m] 111) ?_
 intro b H1 e1 e2
 replace h:=h b H1 e1 e2
 refine⟨[(1,vp (pa b))],pk,?_⟩
 refine T_ed 1 [] []<| T_sz<| ar 1<| T_nd 1 [] [(4,vp (pa b))] ?_
 obtain⟨x,q3,h⟩:=h
 refine T_l1 5 3 q3 [4]<| T_e<| T_bz 0<| ar 2<| T_ed 2 [] [(6,.bool (x==1))] ?_
 by_cases c4:x=1
 ·rw[if_pos c4]at h
  refine aH 6 (zV c4)<| ar 3<| T_nd 1 [5,6] [(8,vp (some ((ad b).add 3)))] ?_
  obtain⟨j,q6,h⟩:=h
  refine T_l1 9 2 q6 [8]<| T_ed 2 [9] [(3,vu (IntKind.wrap .u64 j))]<| T_sz<| ar 4<| T_nd 1 [] [(11,vp (some ((ad b).add 3)))] ?_
  obtain⟨n,q7,h⟩:=h
  refine T_l1 12 2 q7 [11]<| T_ed 1 [12] [(13,.bool (decide (n<0)))] ?_
  by_cases c8:n<0
  ·rw[if_pos c8]at h
   refine aH 13 (zQ c8) ?_
   obtain⟨i,q10,h⟩:=h
   refine yq 5 (Code.ops K18) [(7,((ad b).add 3),[vi i])] 7 (bv 7 0) (show aK _ _ _ from⟨⟨q10,trivial⟩,trivial⟩)<| T_gp 1 (some 15) (vp (some ((ad b).add 3))) (bv 7 2) [(3,vu (IntKind.wrap .u64 j)),(15,vp (some ((ad b).add 3)))]<| T_g1 2 16 (vi i) (bv 7 6) [15] (aT 2 (vp (some ((ad b).add 3)))) (dI 7 (λ_=>by kernel_rfl) yX (.inr (by kernel_rfl)))<| aF 3 17 (vi (zq (0-i))) (bv 7 14) [16]<| aF 4 18 (vu (IntKind.wrap .u64 (zq (0-i)))) (bv 7 30) [17]<| yx 0 (some 14) (bv 7 31) 122 #[vi 61] h ?_;clear h
   rintro v H2 ⟨k,rfl,f11,h⟩
   refine⟨[(3,vu (IntKind.wrap .u64 j)),(14,vu k),(18,vu (IntKind.wrap .u64 (zq (0-i))))],pk,(show aK _ _ _ from⟨f11,trivial⟩),?_⟩
   exact T_g 5 (some 19) (vu (IntKind.wrap .u64 (k-(IntKind.wrap .u64 (zq (0-i)))))) (bv 7 63) [(3,vu (IntKind.wrap .u64 j)),(19,vu (IntKind.wrap .u64 (k-(IntKind.wrap .u64 (zq (0-i))))))] (pure (.value (vu (IntKind.wrap .u64 (k-(IntKind.wrap .u64 (zq (0-i))))))):Sem Next) (λ_ _ _ _ _=>rfl)<| T_g1 6 3 (vu (IntKind.wrap .u64 (k-(IntKind.wrap .u64 (zq (0-i)))))) (bv 7 127) [3,19] (pure (.value (vu (IntKind.wrap .u64 (k-(IntKind.wrap .u64 (zq (0-i))))))):Sem Next) (λ_ _ _ _ _=>rfl)<| eI [(3,vu (IntKind.wrap .u64 (k-(IntKind.wrap .u64 (zq (0-i))))))] sk<| yz<| aE<| ar 6<| T_nr 3 [2] [vu (IntKind.wrap .u64 ((IntKind.wrap .u64 (k-(IntKind.wrap .u64 (zq (0-i)))))*8))] hQ h
  rw[if_neg c8]at h
  exact aI 13 (zJ c8)<| T_kt<| ar 6<| T_nr 3 [2] [vu (IntKind.wrap .u64 ((IntKind.wrap .u64 j)*8))] hQ h
 rw[if_neg c4]at h
 refine aI 6 (zK c4)<| ar 7<| T_ed 2 [6] [(22,.bool (x==2))] ?_
 by_cases c12:x=2
 ·rw[if_pos c12]at h
  refine aH 22 (zV c12)<| ar 8<| T_nd 1 [5,22] [(24,vp (some ((ad b).add 2)))] ?_
  obtain⟨o,q14,h⟩:=h
  refine T_l1 25 3 q14 [24]<| T_n 3 [(27,vu (IntKind.wrap .u64 ((IntKind.wrap .u64 o)*8))),(28,vp (some ((ad b).add 1)))] ?_
  obtain⟨q,q15,h⟩:=h
  exact T_l1 29 3 q15 [28]<| T_nr 3 [2] [vu (IntKind.wrap .u64 ((IntKind.wrap .u64 ((IntKind.wrap .u64 o)*8))+(IntKind.wrap .u64 q)))] hQ h
 rw[if_neg c12]at h
 refine aI 22 (zK c12)<| ar 9<| T_ed 2 [22] [(32,.bool (x==3))] ?_
 by_cases c16:x=3
 ·rw[if_pos c16]at h
  refine aH 32 (zV c16)<| ar 10<| T_n 1 [(34,vp (some ((ad b).add 2)))] ?_
  obtain⟨s,q18,h⟩:=h
  exact T_l1 35 3 q18 [34]<| T_nr 4 [2] [vu (IntKind.wrap .u64 ((IntKind.wrap .u64 ((IntKind.wrap .u64 s)*8))+4))] hQ h
 rw[if_neg c16]at h
 refine aI 32 (zK c16)<| ar 11<| T_ed 2 [5,32] [(39,.bool (x==4))] ?_
 by_cases c19:x=4
 ·rw[if_pos c19]at h
  refine aH 39 (zV c19)<| ar 12<| T_n 1 [(41,vp (some ((ad b).add 2)))] ?_
  obtain⟨r,q21,h⟩:=h
  exact T_l1 42 3 q21 [41]<| T_nr 5 [2] [vu (IntKind.wrap .u64 ((IntKind.wrap .u64 ((IntKind.wrap .u64 ((IntKind.wrap .u64 r)*256))+56))+4))] hQ h
 rw[if_neg c19]at h
 refine aI 39 (zK c19)<| T_k<| aL<| aE<| T_sz ?_
 obtain⟨a,q22,d,q23,e,q24,h⟩:=h
 refine yq 13 (Code.ops K40) [(16,((ad b).add 4),[vu a]),(16,((ad b).add 2),[vi d]),(16,((ad b).add 1),[vi e])] 16 (bv 16 0) (show aK _ _ _ from⟨⟨q22,trivial⟩,⟨q23,trivial⟩,⟨q24,trivial⟩,trivial⟩)<| T_gp 0 (some 47) (vp (some ((ad b).add 4))) (bv 16 1) [(1,vp (pa b)),(47,vp (some ((ad b).add 4)))]<| T_g1 1 48 (vu a) (bv 16 3) [47] (aT 32 (vp (some ((ad b).add 4)))) (dI 16 (λ_=>by kernel_rfl) yX (.inr (by kernel_rfl)))<| aF 4 51 (vp (some ((ad b).add 2))) (bv 16 19) []<| T_g1 5 52 (vi d) (bv 16 51) [51] (aT 3 (vp (some ((ad b).add 2)))) (dI 16 (λ_=>by kernel_rfl) yQ (.inr (by kernel_rfl)))<| aF 6 53 (vu (IntKind.wrap .u64 d)) (bv 16 115) [52]<| aF 7 54 (vu (IntKind.wrap .u64 ((IntKind.wrap .u64 d)*256))) (bv 16 243) [53]<| aF 9 56 (vp (some ((ad b).add 1))) (bv 16 755) [1]<| T_g1 10 57 (vi e) (bv 16 1779) [56] (aT 3 (vp (some ((ad b).add 1)))) (dI 16 (λ_=>by kernel_rfl) yJ (.inr (by kernel_rfl)))<| aF 11 58 (vu (IntKind.wrap .u64 e)) (bv 16 3827) [57]<| aF 12 59 (vu (IntKind.wrap .u64 ((IntKind.wrap .u64 e)*8))) (bv 16 7923) [58]<| yx 2 (some 49) (bv 16 7927) 122 #[vi 16] h ?_;clear h
 rintro t H3 ⟨f,rfl,f25,f26,f27,h⟩
 refine⟨[(48,vu a),(49,vu f),(54,vu (IntKind.wrap .u64 ((IntKind.wrap .u64 d)*256))),(59,vu (IntKind.wrap .u64 ((IntKind.wrap .u64 e)*8)))],pk,(show aK _ _ _ from⟨f25,f26,f27,trivial⟩),?_⟩
 exact T_g 3 (some 50) (vu (IntKind.wrap .u64 (a*f))) (bv 16 7935) [(50,vu (IntKind.wrap .u64 (a*f))),(54,vu (IntKind.wrap .u64 ((IntKind.wrap .u64 d)*256))),(59,vu (IntKind.wrap .u64 ((IntKind.wrap .u64 e)*8)))] (pure (.value (vu (IntKind.wrap .u64 (a*f)))):Sem Next) (λ_ _ _ _ _=>rfl)<| T_g1 8 55 (vu (IntKind.wrap .u64 ((IntKind.wrap .u64 (a*f))+(IntKind.wrap .u64 ((IntKind.wrap .u64 d)*256))))) (bv 16 8191) [50,54] (pure (.value (vu (IntKind.wrap .u64 ((IntKind.wrap .u64 (a*f))+(IntKind.wrap .u64 ((IntKind.wrap .u64 d)*256)))))):Sem Next) (λ_ _ _ _ _=>rfl)<| T_g1 13 60 (vu (IntKind.wrap .u64 ((IntKind.wrap .u64 ((IntKind.wrap .u64 (a*f))+(IntKind.wrap .u64 ((IntKind.wrap .u64 d)*256))))+(IntKind.wrap .u64 ((IntKind.wrap .u64 e)*8))))) (bv 16 16383) [55,59] (pure (.value (vu (IntKind.wrap .u64 ((IntKind.wrap .u64 ((IntKind.wrap .u64 (a*f))+(IntKind.wrap .u64 ((IntKind.wrap .u64 d)*256))))+(IntKind.wrap .u64 ((IntKind.wrap .u64 e)*8)))))):Sem Next) (λ_ _ _ _ _=>rfl)<| T_g1 14 61 (vu (IntKind.wrap .u64 ((IntKind.wrap .u64 ((IntKind.wrap .u64 ((IntKind.wrap .u64 (a*f))+(IntKind.wrap .u64 ((IntKind.wrap .u64 d)*256))))+(IntKind.wrap .u64 ((IntKind.wrap .u64 e)*8))))+5))) (bv 16 32767) [60] (pure (.value (vu (IntKind.wrap .u64 ((IntKind.wrap .u64 ((IntKind.wrap .u64 ((IntKind.wrap .u64 (a*f))+(IntKind.wrap .u64 ((IntKind.wrap .u64 d)*256))))+(IntKind.wrap .u64 ((IntKind.wrap .u64 e)*8))))+5)))):Sem Next) (λ_ _ _ _ _=>rfl)<| T_g1 15 2 (vu (IntKind.wrap .u64 ((IntKind.wrap .u64 ((IntKind.wrap .u64 ((IntKind.wrap .u64 (a*f))+(IntKind.wrap .u64 ((IntKind.wrap .u64 d)*256))))+(IntKind.wrap .u64 ((IntKind.wrap .u64 e)*8))))+5))) (bv 16 65535) [61] (pure (.value (vu (IntKind.wrap .u64 ((IntKind.wrap .u64 ((IntKind.wrap .u64 ((IntKind.wrap .u64 (a*f))+(IntKind.wrap .u64 ((IntKind.wrap .u64 d)*256))))+(IntKind.wrap .u64 ((IntKind.wrap .u64 e)*8))))+5)))):Sem Next) (λ_ _ _ _ _=>rfl)<| eI [(2,vu (IntKind.wrap .u64 ((IntKind.wrap .u64 ((IntKind.wrap .u64 ((IntKind.wrap .u64 (a*f))+(IntKind.wrap .u64 ((IntKind.wrap .u64 d)*256))))+(IntKind.wrap .u64 ((IntKind.wrap .u64 e)*8))))+5)))] sk<| yz<| aE<| ie [2] [vu (IntKind.wrap .u64 ((IntKind.wrap .u64 ((IntKind.wrap .u64 ((IntKind.wrap .u64 (a*f))+(IntKind.wrap .u64 ((IntKind.wrap .u64 d)*256))))+(IntKind.wrap .u64 ((IntKind.wrap .u64 e)*8))))+5))] hQ h
end dE

/-! moraine/moraineref01.Of -/
namespace dB
def K0:=Func.code Tryz.f94
end dB
def dB.pt(wv:Int)(H:zW)(R:zv):Prop:=
 ∀(b:Nat) (H1:zW),b=H.size->H1=H.push (.cells #[.int .i64 0,.int .i64 0,.int .i64 0,.int .i64 0,.int .u64 0] 111)->
 if(zq (Int.tmod wv 8))=0 then(
 cJ.C 60 H1 (λv H2=> ∃x:Int,v=.int .u64 x/\
 if(IntKind.wrap .u64 (Int.tdiv wv 8))>=x then(
 cJ.C 61 H2 (λbe H3=> ∃ak:Int,be=.int .u64 ak/\
 (aJ H3 (ad b) 0 5)/\ ∀H4,H4=aP H3 (ad b) [.int .i64 1,.int .i64 0,.int .i64 0,.int .i64 (zq (0-(zq (IntKind.wrap .u64 (ak-(IntKind.wrap .u64 (Int.tdiv wv 8))))))),.int .u64 0] 0->
 ∃ao a8 rA rX an:Int,aG H4 (ad b) 0 [.int .i64 ao,.int .i64 a8,.int .i64 rA,.int .i64 rX,.int .u64 an]/\
 R (.agg #[.int .i64 ao,.int .i64 a8,.int .i64 rA,.int .i64 rX,.int .u64 an]) H4))
 else
 (aJ H2 (ad b) 0 5)/\ ∀H5,H5=aP H2 (ad b) [.int .i64 1,.int .i64 0,.int .i64 0,.int .i64 (zq (IntKind.wrap .u64 (Int.tdiv wv 8))),.int .u64 0] 0->
 ∃f ah aq aw r:Int,aG H5 (ad b) 0 [.int .i64 f,.int .i64 ah,.int .i64 aq,.int .i64 aw,.int .u64 r]/\
 R (.agg #[.int .i64 f,.int .i64 ah,.int .i64 aq,.int .i64 aw,.int .u64 r]) H5))
 else
 ∃J:Bool->zW->Prop,(
 if(zq (Int.tmod wv 8))=1 then(
 J true H1)
 else
 if(zq (Int.tmod wv 8))=2 then(
 J true H1)
 else
 if(zq (Int.tmod wv 8))=3 then(
 J true H1)
 else
 J ((zq (Int.tmod wv 8))==6) H1)/\ ∀(aj:Bool) (H6:zW),J aj H6->
 if aj=true then(
 if(IntKind.wrap .u64 (Int.tdiv wv 8))<65536 then(
 (aJ H6 (ad b) 0 5)/\ ∀H7,H7=aP H6 (ad b) [.int .i64 2,.int .i64 (zq (Int.tmod wv 8)),.int .i64 (zq (IntKind.wrap .u64 (Int.tdiv wv 8))),.int .i64 0,.int .u64 0] 0->
 ∃s ai av a6 p:Int,aG H7 (ad b) 0 [.int .i64 s,.int .i64 ai,.int .i64 av,.int .i64 a6,.int .u64 p]/\
 R (.agg #[.int .i64 s,.int .i64 ai,.int .i64 av,.int .i64 a6,.int .u64 p]) H7)
 else
 (aJ H6 (ad b) 0 5)/\ ∀H8,H8=aP H6 (ad b) [.int .i64 0,.int .i64 0,.int .i64 0,.int .i64 0,.int .u64 0] 0->
 ∃o ag ax a1 z:Int,aG H8 (ad b) 0 [.int .i64 o,.int .i64 ag,.int .i64 ax,.int .i64 a1,.int .u64 z]/\
 R (.agg #[.int .i64 o,.int .i64 ag,.int .i64 ax,.int .i64 a1,.int .u64 z]) H8)
 else
 if(zq (Int.tmod wv 8))=4 then(
 if((decide ((zq (Int.tmod (IntKind.wrap .u64 (Int.tdiv wv 8)) 32))<7)) && ((IntKind.wrap .u64 (Int.tdiv (IntKind.wrap .u64 (Int.tdiv wv 8)) 32))==0))=true then(
 (aJ H6 (ad b) 0 5)/\ ∀H9,H9=aP H6 (ad b) [.int .i64 3,.int .i64 0,.int .i64 (zq (Int.tmod (IntKind.wrap .u64 (Int.tdiv wv 8)) 32)),.int .i64 0,.int .u64 0] 0->
 ∃i ac az a4 k:Int,aG H9 (ad b) 0 [.int .i64 i,.int .i64 ac,.int .i64 az,.int .i64 a4,.int .u64 k]/\
 R (.agg #[.int .i64 i,.int .i64 ac,.int .i64 az,.int .i64 a4,.int .u64 k]) H9)
 else
 if((((zq (Int.tmod (IntKind.wrap .u64 (Int.tdiv wv 8)) 32))==7) && (decide ((IntKind.wrap .u64 (Int.tdiv (IntKind.wrap .u64 (Int.tdiv wv 8)) 32))<=1114111))) && ((decide ((IntKind.wrap .u64 (Int.tdiv (IntKind.wrap .u64 (Int.tdiv wv 8)) 32))<55296)) || (decide ((IntKind.wrap .u64 (Int.tdiv (IntKind.wrap .u64 (Int.tdiv wv 8)) 32))>57343))))=true then(
 (aJ H6 (ad b) 0 5)/\ ∀bb,bb=aP H6 (ad b) [.int .i64 4,.int .i64 0,.int .i64 (zq (IntKind.wrap .u64 (Int.tdiv (IntKind.wrap .u64 (Int.tdiv wv 8)) 32))),.int .i64 0,.int .u64 0] 0->
 ∃q aa a3 a0 l:Int,aG bb (ad b) 0 [.int .i64 q,.int .i64 aa,.int .i64 a3,.int .i64 a0,.int .u64 l]/\
 R (.agg #[.int .i64 q,.int .i64 aa,.int .i64 a3,.int .i64 a0,.int .u64 l]) bb)
 else
 (aJ H6 (ad b) 0 5)/\ ∀bd,bd=aP H6 (ad b) [.int .i64 0,.int .i64 0,.int .i64 0,.int .i64 0,.int .u64 0] 0->
 ∃u af au a2 t:Int,aG bd (ad b) 0 [.int .i64 u,.int .i64 af,.int .i64 au,.int .i64 a2,.int .u64 t]/\
 R (.agg #[.int .i64 u,.int .i64 af,.int .i64 au,.int .i64 a2,.int .u64 t]) bd)
 else
 if(zq (Int.tmod wv 8))=5 then(
 if(((decide ((zq (Int.tmod (IntKind.wrap .u64 (Int.tdiv wv 8)) 32))>=1)) && (decide ((zq (Int.tmod (IntKind.wrap .u64 (Int.tdiv wv 8)) 32))<=13))) && (decide ((zq (Int.tmod (IntKind.wrap .u64 (Int.tdiv (IntKind.wrap .u64 (Int.tdiv wv 8)) 32)) 256))<=62)))=true then(
 (aJ H6 (ad b) 0 5)/\ ∀ba,ba=aP H6 (ad b) [.int .i64 5,.int .i64 (zq (Int.tmod (IntKind.wrap .u64 (Int.tdiv wv 8)) 32)),.int .i64 (zq (Int.tmod (IntKind.wrap .u64 (Int.tdiv (IntKind.wrap .u64 (Int.tdiv wv 8)) 32)) 256)),.int .i64 0,.int .u64 (IntKind.wrap .u64 (Int.tdiv (IntKind.wrap .u64 (Int.tdiv (IntKind.wrap .u64 (Int.tdiv wv 8)) 32)) 256))] 0->
 ∃n ae ay a5 y:Int,aG ba (ad b) 0 [.int .i64 n,.int .i64 ae,.int .i64 ay,.int .i64 a5,.int .u64 y]/\
 R (.agg #[.int .i64 n,.int .i64 ae,.int .i64 ay,.int .i64 a5,.int .u64 y]) ba)
 else
 (aJ H6 (ad b) 0 5)/\ ∀a9,a9=aP H6 (ad b) [.int .i64 0,.int .i64 0,.int .i64 0,.int .i64 0,.int .u64 0] 0->
 ∃j ab a7 ap m:Int,aG a9 (ad b) 0 [.int .i64 j,.int .i64 ab,.int .i64 a7,.int .i64 ap,.int .u64 m]/\
 R (.agg #[.int .i64 j,.int .i64 ab,.int .i64 a7,.int .i64 ap,.int .u64 m]) a9)
 else
 (aJ H6 (ad b) 0 5)/\ ∀bc,bc=aP H6 (ad b) [.int .i64 0,.int .i64 0,.int .i64 0,.int .i64 0,.int .u64 0] 0->
 ∃d e al am a:Int,aG bc (ad b) 0 [.int .i64 d,.int .i64 e,.int .i64 al,.int .i64 am,.int .u64 a]/\
 R (.agg #[.int .i64 d,.int .i64 e,.int .i64 al,.int .i64 am,.int .u64 a]) bc
namespace dB
theorem link{wv:Int}{H:zW}{R:zv}(h:pt wv H R):C wv H R:=by
 refine T_en K0 94 Tryz.func94 ?_
 intro w0 Q hQ
 unfold pt zq at h
 refine T_su [(0,vu wv)]<| ar 0<| T_nw (some 2) (λb=>vp (pa b)) (.cells #[vi 0,vi 0,vi 0,vi 0,vu 0] 111) ?_
 intro b H1 e1 e2
 replace h:=h b H1 e1 e2
 refine T_pd [] [(2,vp (pa b))]<| T_e<| ar 1<| T_ed 2 [0] [(3,vu wv)]<| ar 2<| T_ed 7 [3] [(4,vi (zq (Int.tmod wv 8))),(5,vu (IntKind.wrap .u64 (Int.tdiv wv 8)))]<| ar 3<| T_ed 7 [] [(6,vi (zq (Int.tmod (IntKind.wrap .u64 (Int.tdiv wv 8)) 32))),(7,vu (IntKind.wrap .u64 (Int.tdiv (IntKind.wrap .u64 (Int.tdiv wv 8)) 32)))]<| T_sz<| ar 4<| T_ed 1 [] [(20,vi (zq (Int.tmod wv 8)))]<| T_bz 0<| ar 5<| T_ed 2 [] [(21,.bool ((zq (Int.tmod wv 8))==0))] ?_
 by_cases c3:(zq (Int.tmod wv 8))=0
 ·rw[if_pos c3]at h
  refine aH 21 (zV c3)<| T_sz<| ar 6<| T_nd 1 [4,6,7,20,21] [(23,vu (IntKind.wrap .u64 (Int.tdiv wv 8)))]<| T_c (some 24) h ?_;clear h
  rintro v H2 ⟨x,rfl,h⟩
  refine T_pd [] [(24,vu x)]<| T_ed 1 [23,24] [(25,.bool (decide ((IntKind.wrap .u64 (Int.tdiv wv 8))>=x)))] ?_
  by_cases c5:(IntKind.wrap .u64 (Int.tdiv wv 8))>=x
  ·rw[if_pos c5]at h
   refine aH 25 (zQ c5)<| ar 7<| T_ud [25] []<| T_c (some 26) h ?_;clear h
   rintro be H3 ⟨ak,rfl,h⟩
   refine T_pd [] [(26,vu ak)]<| T_nd 5 [5,26] [(31,.agg #[vi 1,vi 0,vi 0,vi (zq (0-(zq (IntKind.wrap .u64 (ak-(IntKind.wrap .u64 (Int.tdiv wv 8))))))),vu 0])] ?_
   obtain⟨q8,h⟩:=h
   refine bX 111 [vi 1,vi 0,vi 0,vi (zq (0-(zq (IntKind.wrap .u64 (ak-(IntKind.wrap .u64 (Int.tdiv wv 8))))))),vu 0] q8 ?_
   intro H4 e7
   replace h:=h H4 e7
   refine T_pd [31] []<| T_e<| zz ?_
   show At _ _ _ _ _ (Q .ret)
   obtain⟨ao,a8,rA,rX,an,q9,h⟩:=h
   exact cP (fn:=Tryz.f94) [.agg #[vi ao,vi a8,vi rA,vi rX,vu an]] hQ (show cK _ _ _ [.cell 2 111] _ from .cell (by kernel_rfl) (aQ (λ_=>by kernel_rfl) (λ_=>by kernel_rfl) q9) (.nil)) h
  rw[if_neg c5]at h
  refine aI 25 (zJ c5)<| T_kt<| ar 8<| T_nd 3 [5,25] [(34,.agg #[vi 1,vi 0,vi 0,vi (zq (IntKind.wrap .u64 (Int.tdiv wv 8))),vu 0])] ?_
  obtain⟨q11,h⟩:=h
  refine bX 111 [vi 1,vi 0,vi 0,vi (zq (IntKind.wrap .u64 (Int.tdiv wv 8))),vu 0] q11 ?_
  intro H5 e10
  replace h:=h H5 e10
  refine T_pd [34] []<| T_e<| zz ?_
  show At _ _ _ _ _ (Q .ret)
  obtain⟨f,ah,aq,aw,r,q12,h⟩:=h
  exact cP (fn:=Tryz.f94) [.agg #[vi f,vi ah,vi aq,vi aw,vu r]] hQ (show cK _ _ _ [.cell 2 111] _ from .cell (by kernel_rfl) (aQ (λ_=>by kernel_rfl) (λ_=>by kernel_rfl) q12) (.nil)) h
 rw[if_neg c3]at h
 refine aI 21 (zK c3)<| T_sz<| ar 9<| T_ne 2 [(2,vp (pa b)),(4,vi (zq (Int.tmod wv 8))),(5,vu (IntKind.wrap .u64 (Int.tdiv wv 8))),(6,vi (zq (Int.tmod (IntKind.wrap .u64 (Int.tdiv wv 8)) 32))),(7,vu (IntKind.wrap .u64 (Int.tdiv (IntKind.wrap .u64 (Int.tdiv wv 8)) 32))),(20,vi (zq (Int.tmod wv 8))),(35,.bool ((zq (Int.tmod wv 8))==1))] ?_
 obtain⟨J,h,j14⟩:=h
 refine kb (σ:=Bool) (λs_=> [(2,vp (pa b)),(4,vi (zq (Int.tmod wv 8))),(5,vu (IntKind.wrap .u64 (Int.tdiv wv 8))),(6,vi (zq (Int.tmod (IntKind.wrap .u64 (Int.tdiv wv 8)) 32))),(7,vu (IntKind.wrap .u64 (Int.tdiv (IntKind.wrap .u64 (Int.tdiv wv 8)) 32))),(20,vi (zq (Int.tmod wv 8))),(35,.bool s_)]) (λs_ H=>J s_ H) ?_ ?_
 ·rintro aj H6 j15
  replace h:=j14 aj H6 j15
  refine T_su [(2,vp (pa b)),(4,vi (zq (Int.tmod wv 8))),(5,vu (IntKind.wrap .u64 (Int.tdiv wv 8))),(6,vi (zq (Int.tmod (IntKind.wrap .u64 (Int.tdiv wv 8)) 32))),(7,vu (IntKind.wrap .u64 (Int.tdiv (IntKind.wrap .u64 (Int.tdiv wv 8)) 32))),(20,vi (zq (Int.tmod wv 8))),(35,.bool aj)]<| aE ?_
  by_cases c16:aj=true
  ·rw[if_pos c16]at h
   have b17:aj=true:=c16
   refine eT [(2,vp (pa b)),(4,vi (zq (Int.tmod wv 8))),(5,vu (IntKind.wrap .u64 (Int.tdiv wv 8))),(6,vi (zq (Int.tmod (IntKind.wrap .u64 (Int.tdiv wv 8)) 32))),(7,vu (IntKind.wrap .u64 (Int.tdiv (IntKind.wrap .u64 (Int.tdiv wv 8)) 32))),(20,vi (zq (Int.tmod wv 8))),(35,.bool true)] (by rw[b17]) ?_
   clear b17
   refine T_tz 35<| ar 13<| T_ed 2 [6,7,20,35] [(41,.bool (decide ((IntKind.wrap .u64 (Int.tdiv wv 8))<65536)))] ?_
   by_cases c18:(IntKind.wrap .u64 (Int.tdiv wv 8))<65536
   ·rw[if_pos c18]at h
    refine aH 41 (zQ c18)<| ar 14<| T_nd 4 [4,5,41] [(45,.agg #[vi 2,vi (zq (Int.tmod wv 8)),vi (zq (IntKind.wrap .u64 (Int.tdiv wv 8))),vi 0,vu 0])] ?_
    obtain⟨q21,h⟩:=h
    refine bX 111 [vi 2,vi (zq (Int.tmod wv 8)),vi (zq (IntKind.wrap .u64 (Int.tdiv wv 8))),vi 0,vu 0] q21 ?_
    intro H7 e20
    replace h:=h H7 e20
    refine T_pd [45] []<| T_e<| zz ?_
    show At _ _ _ _ _ (Q .ret)
    obtain⟨s,ai,av,a6,p,q22,h⟩:=h
    exact cP (fn:=Tryz.f94) [.agg #[vi s,vi ai,vi av,vi a6,vu p]] hQ (show cK _ _ _ [.cell 2 111] _ from .cell (by kernel_rfl) (aQ (λ_=>by kernel_rfl) (λ_=>by kernel_rfl) q22) (.nil)) h
   rw[if_neg c18]at h
   refine aI 41 (zJ c18)<| T_k<| aL<| aE<| ar 24<| T_nd 1 [4,5,41] [(93,.agg #[vi 0,vi 0,vi 0,vi 0,vu 0])] ?_
   obtain⟨q24,h⟩:=h
   refine bX 111 [vi 0,vi 0,vi 0,vi 0,vu 0] q24 ?_
   intro H8 e23
   replace h:=h H8 e23
   refine T_pd [93] []<| T_e<| zz ?_
   show At _ _ _ _ _ (Q .ret)
   obtain⟨o,ag,ax,a1,z,q25,h⟩:=h
   exact cP (fn:=Tryz.f94) [.agg #[vi o,vi ag,vi ax,vi a1,vu z]] hQ (show cK _ _ _ [.cell 2 111] _ from .cell (by kernel_rfl) (aQ (λ_=>by kernel_rfl) (λ_=>by kernel_rfl) q25) (.nil)) h
  rw[if_neg c16]at h
  have b17:aj=false:=zZ c16
  refine eT [(2,vp (pa b)),(4,vi (zq (Int.tmod wv 8))),(5,vu (IntKind.wrap .u64 (Int.tdiv wv 8))),(6,vi (zq (Int.tmod (IntKind.wrap .u64 (Int.tdiv wv 8)) 32))),(7,vu (IntKind.wrap .u64 (Int.tdiv (IntKind.wrap .u64 (Int.tdiv wv 8)) 32))),(20,vi (zq (Int.tmod wv 8))),(35,.bool false)] (by rw[b17]) ?_
  clear b17
  refine T_fz 35<| ar 15<| T_ed 2 [4,5,35] [(46,.bool ((zq (Int.tmod wv 8))==4))] ?_
  by_cases c26:(zq (Int.tmod wv 8))=4
  ·rw[if_pos c26]at h
   refine aH 46 (zV c26)<| T_sz<| ar 16 ?_
   refine gp [(2,vp (pa b)),(6,vi (zq (Int.tmod (IntKind.wrap .u64 (Int.tdiv wv 8)) 32))),(7,vu (IntKind.wrap .u64 (Int.tdiv (IntKind.wrap .u64 (Int.tdiv wv 8)) 32))),(53,.bool ((decide ((zq (Int.tmod (IntKind.wrap .u64 (Int.tdiv wv 8)) 32))<7)) && ((IntKind.wrap .u64 (Int.tdiv (IntKind.wrap .u64 (Int.tdiv wv 8)) 32))==0)))] ?_ ?_
   ·refine aE ?_
    by_cases c30:((decide ((zq (Int.tmod (IntKind.wrap .u64 (Int.tdiv wv 8)) 32))<7)) && ((IntKind.wrap .u64 (Int.tdiv (IntKind.wrap .u64 (Int.tdiv wv 8)) 32))==0))=true
    ·rw[if_pos c30]at h
     refine aH 53 c30<| ar 17<| T_n 2 [(2,vp (pa b)),(55,.agg #[vi 3,vi 0,vi (zq (Int.tmod (IntKind.wrap .u64 (Int.tdiv wv 8)) 32)),vi 0,vu 0])] ?_
     obtain⟨q33,h⟩:=h
     refine bX 111 [vi 3,vi 0,vi (zq (Int.tmod (IntKind.wrap .u64 (Int.tdiv wv 8)) 32)),vi 0,vu 0] q33 ?_
     intro H9 e32
     replace h:=h H9 e32
     refine T_pd [55] []<| T_e<| zz ?_
     show At _ _ _ _ _ (Q .ret)
     obtain⟨i,ac,az,a4,k,q34,h⟩:=h
     exact cP (fn:=Tryz.f94) [.agg #[vi i,vi ac,vi az,vi a4,vu k]] hQ (show cK _ _ _ [.cell 2 111] _ from .cell (by kernel_rfl) (aQ (λ_=>by kernel_rfl) (λ_=>by kernel_rfl) q34) (.nil)) h
    rw[if_neg c30]at h
    refine aI 53 (zZ c30)<| T_kt<| ar 18 ?_
    refine gp [(2,vp (pa b)),(7,vu (IntKind.wrap .u64 (Int.tdiv (IntKind.wrap .u64 (Int.tdiv wv 8)) 32))),(69,.bool ((((zq (Int.tmod (IntKind.wrap .u64 (Int.tdiv wv 8)) 32))==7) && (decide ((IntKind.wrap .u64 (Int.tdiv (IntKind.wrap .u64 (Int.tdiv wv 8)) 32))<=1114111))) && ((decide ((IntKind.wrap .u64 (Int.tdiv (IntKind.wrap .u64 (Int.tdiv wv 8)) 32))<55296)) || (decide ((IntKind.wrap .u64 (Int.tdiv (IntKind.wrap .u64 (Int.tdiv wv 8)) 32))>57343)))))] ?_ ?_
    ·refine aE ?_
     by_cases c41:((((zq (Int.tmod (IntKind.wrap .u64 (Int.tdiv wv 8)) 32))==7) && (decide ((IntKind.wrap .u64 (Int.tdiv (IntKind.wrap .u64 (Int.tdiv wv 8)) 32))<=1114111))) && ((decide ((IntKind.wrap .u64 (Int.tdiv (IntKind.wrap .u64 (Int.tdiv wv 8)) 32))<55296)) || (decide ((IntKind.wrap .u64 (Int.tdiv (IntKind.wrap .u64 (Int.tdiv wv 8)) 32))>57343))))=true
     ·rw[if_pos c41]at h
      refine aH 69 c41<| ar 19<| T_n 3 [(2,vp (pa b)),(72,.agg #[vi 4,vi 0,vi (zq (IntKind.wrap .u64 (Int.tdiv (IntKind.wrap .u64 (Int.tdiv wv 8)) 32))),vi 0,vu 0])] ?_
      obtain⟨q44,h⟩:=h
      refine bX 111 [vi 4,vi 0,vi (zq (IntKind.wrap .u64 (Int.tdiv (IntKind.wrap .u64 (Int.tdiv wv 8)) 32))),vi 0,vu 0] q44 ?_
      intro bb e43
      replace h:=h bb e43
      refine T_pd [72] []<| T_e<| zz ?_
      show At _ _ _ _ _ (Q .ret)
      obtain⟨q,aa,a3,a0,l,q45,h⟩:=h
      exact cP (fn:=Tryz.f94) [.agg #[vi q,vi aa,vi a3,vi a0,vu l]] hQ (show cK _ _ _ [.cell 2 111] _ from .cell (by kernel_rfl) (aQ (λ_=>by kernel_rfl) (λ_=>by kernel_rfl) q45) (.nil)) h
     rw[if_neg c41]at h
     refine aI 69 (zZ c41)<| T_k<| aL<| aE<| ar 24<| T_n 1 [(2,vp (pa b)),(93,.agg #[vi 0,vi 0,vi 0,vi 0,vu 0])] ?_
     obtain⟨q47,h⟩:=h
     refine bX 111 [vi 0,vi 0,vi 0,vi 0,vu 0] q47 ?_
     intro bd e46
     replace h:=h bd e46
     refine T_pd [93] []<| T_e<| zz ?_
     show At _ _ _ _ _ (Q .ret)
     obtain⟨u,af,au,a2,t,q48,h⟩:=h
     exact cP (fn:=Tryz.f94) [.agg #[vi u,vi af,vi au,vi a2,vu t]] hQ (show cK _ _ _ [.cell 2 111] _ from .cell (by kernel_rfl) (aQ (λ_=>by kernel_rfl) (λ_=>by kernel_rfl) q48) (.nil)) h
    intro hk
    refine T_n 3 [(2,vp (pa b)),(7,vu (IntKind.wrap .u64 (Int.tdiv (IntKind.wrap .u64 (Int.tdiv wv 8)) 32))),(58,.bool ((zq (Int.tmod (IntKind.wrap .u64 (Int.tdiv wv 8)) 32))==7))] ?_
    by_cases c35:(zq (Int.tmod (IntKind.wrap .u64 (Int.tdiv wv 8)) 32))=7
    ·have b36:((zq (Int.tmod (IntKind.wrap .u64 (Int.tdiv wv 8)) 32))==7)=true:=zV c35
     refine bV [(2,vp (pa b)),(7,vu (IntKind.wrap .u64 (Int.tdiv (IntKind.wrap .u64 (Int.tdiv wv 8)) 32))),(58,.bool true)] (by rw[b36]) ?_
     refine T_nd 4 [58] [(62,.bool (decide ((IntKind.wrap .u64 (Int.tdiv (IntKind.wrap .u64 (Int.tdiv wv 8)) 32))<=1114111)))] ?_
     by_cases c37:(IntKind.wrap .u64 (Int.tdiv (IntKind.wrap .u64 (Int.tdiv wv 8)) 32))<=1114111
     ·have b38:(decide ((IntKind.wrap .u64 (Int.tdiv (IntKind.wrap .u64 (Int.tdiv wv 8)) 32))<=1114111))=true:=zQ c37
      refine N_bd 62 b38<| T_nd 3 [] [(65,.bool (decide ((IntKind.wrap .u64 (Int.tdiv (IntKind.wrap .u64 (Int.tdiv wv 8)) 32))<55296)))] ?_
      by_cases c39:(IntKind.wrap .u64 (Int.tdiv (IntKind.wrap .u64 (Int.tdiv wv 8)) 32))<55296
      ·have b40:(decide ((IntKind.wrap .u64 (Int.tdiv (IntKind.wrap .u64 (Int.tdiv wv 8)) 32))<55296))=true:=zQ c39
       refine N_bd 65 b40<| T_nd 4 [62,65] [(69,.bool true)] ?_
       refine zx<| S_bd 69 (b:=true) (v:=((((zq (Int.tmod (IntKind.wrap .u64 (Int.tdiv wv 8)) 32))==7) && (decide ((IntKind.wrap .u64 (Int.tdiv (IntKind.wrap .u64 (Int.tdiv wv 8)) 32))<=1114111))) && ((decide ((IntKind.wrap .u64 (Int.tdiv (IntKind.wrap .u64 (Int.tdiv wv 8)) 32))<55296)) || (decide ((IntKind.wrap .u64 (Int.tdiv (IntKind.wrap .u64 (Int.tdiv wv 8)) 32))>57343))))) (by simp only[b36,b38,b40,BL]) ?_
       exact hk
      have b40:(decide ((IntKind.wrap .u64 (Int.tdiv (IntKind.wrap .u64 (Int.tdiv wv 8)) 32))<55296))=false:=zJ c39
      refine N_bd 65 b40<| T_nd 4 [62,65] [(69,.bool (decide ((IntKind.wrap .u64 (Int.tdiv (IntKind.wrap .u64 (Int.tdiv wv 8)) 32))>57343)))] ?_
      refine zx<| S_bd 69 (b:=(decide ((IntKind.wrap .u64 (Int.tdiv (IntKind.wrap .u64 (Int.tdiv wv 8)) 32))>57343))) (v:=((((zq (Int.tmod (IntKind.wrap .u64 (Int.tdiv wv 8)) 32))==7) && (decide ((IntKind.wrap .u64 (Int.tdiv (IntKind.wrap .u64 (Int.tdiv wv 8)) 32))<=1114111))) && ((decide ((IntKind.wrap .u64 (Int.tdiv (IntKind.wrap .u64 (Int.tdiv wv 8)) 32))<55296)) || (decide ((IntKind.wrap .u64 (Int.tdiv (IntKind.wrap .u64 (Int.tdiv wv 8)) 32))>57343))))) (by simp only[b36,b38,b40,BL]) ?_
      exact hk
     have b38:(decide ((IntKind.wrap .u64 (Int.tdiv (IntKind.wrap .u64 (Int.tdiv wv 8)) 32))<=1114111))=false:=zJ c37
     refine N_bd 62 b38<| T_nd 7 [62] [(69,.bool false)] ?_
     refine zx<| S_bd 69 (b:=false) (v:=((((zq (Int.tmod (IntKind.wrap .u64 (Int.tdiv wv 8)) 32))==7) && (decide ((IntKind.wrap .u64 (Int.tdiv (IntKind.wrap .u64 (Int.tdiv wv 8)) 32))<=1114111))) && ((decide ((IntKind.wrap .u64 (Int.tdiv (IntKind.wrap .u64 (Int.tdiv wv 8)) 32))<55296)) || (decide ((IntKind.wrap .u64 (Int.tdiv (IntKind.wrap .u64 (Int.tdiv wv 8)) 32))>57343))))) (by simp only[b36,b38,BL]) ?_
     exact hk
    have b36:((zq (Int.tmod (IntKind.wrap .u64 (Int.tdiv wv 8)) 32))==7)=false:=zK c35
    refine bV [(2,vp (pa b)),(7,vu (IntKind.wrap .u64 (Int.tdiv (IntKind.wrap .u64 (Int.tdiv wv 8)) 32))),(58,.bool false)] (by rw[b36]) ?_
    refine T_nd 11 [58] [(69,.bool false)]<| zx<| S_bd 69 (b:=false) (v:=((((zq (Int.tmod (IntKind.wrap .u64 (Int.tdiv wv 8)) 32))==7) && (decide ((IntKind.wrap .u64 (Int.tdiv (IntKind.wrap .u64 (Int.tdiv wv 8)) 32))<=1114111))) && ((decide ((IntKind.wrap .u64 (Int.tdiv (IntKind.wrap .u64 (Int.tdiv wv 8)) 32))<55296)) || (decide ((IntKind.wrap .u64 (Int.tdiv (IntKind.wrap .u64 (Int.tdiv wv 8)) 32))>57343))))) (by simp only[b36,BL]) ?_
    exact hk
   intro hk
   refine T_n 3 [(2,vp (pa b)),(6,vi (zq (Int.tmod (IntKind.wrap .u64 (Int.tdiv wv 8)) 32))),(7,vu (IntKind.wrap .u64 (Int.tdiv (IntKind.wrap .u64 (Int.tdiv wv 8)) 32))),(50,.bool (decide ((zq (Int.tmod (IntKind.wrap .u64 (Int.tdiv wv 8)) 32))<7)))] ?_
   by_cases c28:(zq (Int.tmod (IntKind.wrap .u64 (Int.tdiv wv 8)) 32))<7
   ·have b29:(decide ((zq (Int.tmod (IntKind.wrap .u64 (Int.tdiv wv 8)) 32))<7))=true:=zQ c28
    refine bV [(2,vp (pa b)),(6,vi (zq (Int.tmod (IntKind.wrap .u64 (Int.tdiv wv 8)) 32))),(7,vu (IntKind.wrap .u64 (Int.tdiv (IntKind.wrap .u64 (Int.tdiv wv 8)) 32))),(50,.bool true)] (by rw[b29]) ?_
    refine T_nd 3 [50] [(53,.bool ((IntKind.wrap .u64 (Int.tdiv (IntKind.wrap .u64 (Int.tdiv wv 8)) 32))==0))]<| zx<| S_bd 53 (b:=((IntKind.wrap .u64 (Int.tdiv (IntKind.wrap .u64 (Int.tdiv wv 8)) 32))==0)) (v:=((decide ((zq (Int.tmod (IntKind.wrap .u64 (Int.tdiv wv 8)) 32))<7)) && ((IntKind.wrap .u64 (Int.tdiv (IntKind.wrap .u64 (Int.tdiv wv 8)) 32))==0))) (by simp only[b29,BL]) ?_
    exact hk
   have b29:(decide ((zq (Int.tmod (IntKind.wrap .u64 (Int.tdiv wv 8)) 32))<7))=false:=zJ c28
   refine bV [(2,vp (pa b)),(6,vi (zq (Int.tmod (IntKind.wrap .u64 (Int.tdiv wv 8)) 32))),(7,vu (IntKind.wrap .u64 (Int.tdiv (IntKind.wrap .u64 (Int.tdiv wv 8)) 32))),(50,.bool false)] (by rw[b29]) ?_
   refine T_nd 3 [50] [(53,.bool false)]<| zx<| S_bd 53 (b:=false) (v:=((decide ((zq (Int.tmod (IntKind.wrap .u64 (Int.tdiv wv 8)) 32))<7)) && ((IntKind.wrap .u64 (Int.tdiv (IntKind.wrap .u64 (Int.tdiv wv 8)) 32))==0))) (by simp only[b29,BL]) ?_
   exact hk
  rw[if_neg c26]at h
  refine aI 46 (zK c26)<| ar 20<| T_ed 2 [20,46] [(73,.bool ((zq (Int.tmod wv 8))==5))] ?_
  by_cases c49:(zq (Int.tmod wv 8))=5
  ·rw[if_pos c49]at h
   refine aH 73 (zV c49)<| ar 21<| T_ed 4 [73] [(8,vi (zq (Int.tmod (IntKind.wrap .u64 (Int.tdiv (IntKind.wrap .u64 (Int.tdiv wv 8)) 32)) 256)))]<| ar 22 ?_
   refine gp [(2,vp (pa b)),(6,vi (zq (Int.tmod (IntKind.wrap .u64 (Int.tdiv wv 8)) 32))),(7,vu (IntKind.wrap .u64 (Int.tdiv (IntKind.wrap .u64 (Int.tdiv wv 8)) 32))),(8,vi (zq (Int.tmod (IntKind.wrap .u64 (Int.tdiv (IntKind.wrap .u64 (Int.tdiv wv 8)) 32)) 256))),(87,.bool (((decide ((zq (Int.tmod (IntKind.wrap .u64 (Int.tdiv wv 8)) 32))>=1)) && (decide ((zq (Int.tmod (IntKind.wrap .u64 (Int.tdiv wv 8)) 32))<=13))) && (decide ((zq (Int.tmod (IntKind.wrap .u64 (Int.tdiv (IntKind.wrap .u64 (Int.tdiv wv 8)) 32)) 256))<=62))))] ?_ ?_
   ·refine aE ?_
    by_cases c55:(((decide ((zq (Int.tmod (IntKind.wrap .u64 (Int.tdiv wv 8)) 32))>=1)) && (decide ((zq (Int.tmod (IntKind.wrap .u64 (Int.tdiv wv 8)) 32))<=13))) && (decide ((zq (Int.tmod (IntKind.wrap .u64 (Int.tdiv (IntKind.wrap .u64 (Int.tdiv wv 8)) 32)) 256))<=62)))=true
    ·rw[if_pos c55]at h
     refine aH 87 c55<| ar 23<| T_n 5 [(2,vp (pa b)),(92,.agg #[vi 5,vi (zq (Int.tmod (IntKind.wrap .u64 (Int.tdiv wv 8)) 32)),vi (zq (Int.tmod (IntKind.wrap .u64 (Int.tdiv (IntKind.wrap .u64 (Int.tdiv wv 8)) 32)) 256)),vi 0,vu (IntKind.wrap .u64 (Int.tdiv (IntKind.wrap .u64 (Int.tdiv (IntKind.wrap .u64 (Int.tdiv wv 8)) 32)) 256))])] ?_
     obtain⟨q58,h⟩:=h
     refine bX 111 [vi 5,vi (zq (Int.tmod (IntKind.wrap .u64 (Int.tdiv wv 8)) 32)),vi (zq (Int.tmod (IntKind.wrap .u64 (Int.tdiv (IntKind.wrap .u64 (Int.tdiv wv 8)) 32)) 256)),vi 0,vu (IntKind.wrap .u64 (Int.tdiv (IntKind.wrap .u64 (Int.tdiv (IntKind.wrap .u64 (Int.tdiv wv 8)) 32)) 256))] q58 ?_
     intro ba e57
     replace h:=h ba e57
     refine T_pd [92] []<| T_e<| zz ?_
     show At _ _ _ _ _ (Q .ret)
     obtain⟨n,ae,ay,a5,y,q59,h⟩:=h
     exact cP (fn:=Tryz.f94) [.agg #[vi n,vi ae,vi ay,vi a5,vu y]] hQ (show cK _ _ _ [.cell 2 111] _ from .cell (by kernel_rfl) (aQ (λ_=>by kernel_rfl) (λ_=>by kernel_rfl) q59) (.nil)) h
    rw[if_neg c55]at h
    refine aI 87 (zZ c55)<| T_k<| aL<| aE<| ar 24<| T_n 1 [(2,vp (pa b)),(93,.agg #[vi 0,vi 0,vi 0,vi 0,vu 0])] ?_
    obtain⟨q61,h⟩:=h
    refine bX 111 [vi 0,vi 0,vi 0,vi 0,vu 0] q61 ?_
    intro a9 e60
    replace h:=h a9 e60
    refine T_pd [93] []<| T_e<| zz ?_
    show At _ _ _ _ _ (Q .ret)
    obtain⟨j,ab,a7,ap,m,q62,h⟩:=h
    exact cP (fn:=Tryz.f94) [.agg #[vi j,vi ab,vi a7,vi ap,vu m]] hQ (show cK _ _ _ [.cell 2 111] _ from .cell (by kernel_rfl) (aQ (λ_=>by kernel_rfl) (λ_=>by kernel_rfl) q62) (.nil)) h
   intro hk
   refine T_n 3 [(2,vp (pa b)),(6,vi (zq (Int.tmod (IntKind.wrap .u64 (Int.tdiv wv 8)) 32))),(7,vu (IntKind.wrap .u64 (Int.tdiv (IntKind.wrap .u64 (Int.tdiv wv 8)) 32))),(8,vi (zq (Int.tmod (IntKind.wrap .u64 (Int.tdiv (IntKind.wrap .u64 (Int.tdiv wv 8)) 32)) 256))),(80,.bool (decide ((zq (Int.tmod (IntKind.wrap .u64 (Int.tdiv wv 8)) 32))>=1)))] ?_
   by_cases c51:(zq (Int.tmod (IntKind.wrap .u64 (Int.tdiv wv 8)) 32))>=1
   ·have b52:(decide ((zq (Int.tmod (IntKind.wrap .u64 (Int.tdiv wv 8)) 32))>=1))=true:=zQ c51
    refine bV [(2,vp (pa b)),(6,vi (zq (Int.tmod (IntKind.wrap .u64 (Int.tdiv wv 8)) 32))),(7,vu (IntKind.wrap .u64 (Int.tdiv (IntKind.wrap .u64 (Int.tdiv wv 8)) 32))),(8,vi (zq (Int.tmod (IntKind.wrap .u64 (Int.tdiv (IntKind.wrap .u64 (Int.tdiv wv 8)) 32)) 256))),(80,.bool true)] (by rw[b52]) ?_
    refine T_nd 4 [80] [(84,.bool (decide ((zq (Int.tmod (IntKind.wrap .u64 (Int.tdiv wv 8)) 32))<=13)))] ?_
    by_cases c53:(zq (Int.tmod (IntKind.wrap .u64 (Int.tdiv wv 8)) 32))<=13
    ·have b54:(decide ((zq (Int.tmod (IntKind.wrap .u64 (Int.tdiv wv 8)) 32))<=13))=true:=zQ c53
     refine N_bd 84 b54<| T_nd 3 [84] [(87,.bool (decide ((zq (Int.tmod (IntKind.wrap .u64 (Int.tdiv (IntKind.wrap .u64 (Int.tdiv wv 8)) 32)) 256))<=62)))] ?_
     refine zx<| S_bd 87 (b:=(decide ((zq (Int.tmod (IntKind.wrap .u64 (Int.tdiv (IntKind.wrap .u64 (Int.tdiv wv 8)) 32)) 256))<=62))) (v:=(((decide ((zq (Int.tmod (IntKind.wrap .u64 (Int.tdiv wv 8)) 32))>=1)) && (decide ((zq (Int.tmod (IntKind.wrap .u64 (Int.tdiv wv 8)) 32))<=13))) && (decide ((zq (Int.tmod (IntKind.wrap .u64 (Int.tdiv (IntKind.wrap .u64 (Int.tdiv wv 8)) 32)) 256))<=62)))) (by simp only[b52,b54,BL]) ?_
     exact hk
    have b54:(decide ((zq (Int.tmod (IntKind.wrap .u64 (Int.tdiv wv 8)) 32))<=13))=false:=zJ c53
    refine N_bd 84 b54<| T_nd 3 [84] [(87,.bool false)] ?_
    refine zx<| S_bd 87 (b:=false) (v:=(((decide ((zq (Int.tmod (IntKind.wrap .u64 (Int.tdiv wv 8)) 32))>=1)) && (decide ((zq (Int.tmod (IntKind.wrap .u64 (Int.tdiv wv 8)) 32))<=13))) && (decide ((zq (Int.tmod (IntKind.wrap .u64 (Int.tdiv (IntKind.wrap .u64 (Int.tdiv wv 8)) 32)) 256))<=62)))) (by simp only[b52,b54,BL]) ?_
    exact hk
   have b52:(decide ((zq (Int.tmod (IntKind.wrap .u64 (Int.tdiv wv 8)) 32))>=1))=false:=zJ c51
   refine bV [(2,vp (pa b)),(6,vi (zq (Int.tmod (IntKind.wrap .u64 (Int.tdiv wv 8)) 32))),(7,vu (IntKind.wrap .u64 (Int.tdiv (IntKind.wrap .u64 (Int.tdiv wv 8)) 32))),(8,vi (zq (Int.tmod (IntKind.wrap .u64 (Int.tdiv (IntKind.wrap .u64 (Int.tdiv wv 8)) 32)) 256))),(80,.bool false)] (by rw[b52]) ?_
   refine T_nd 7 [80] [(87,.bool false)]<| zx<| S_bd 87 (b:=false) (v:=(((decide ((zq (Int.tmod (IntKind.wrap .u64 (Int.tdiv wv 8)) 32))>=1)) && (decide ((zq (Int.tmod (IntKind.wrap .u64 (Int.tdiv wv 8)) 32))<=13))) && (decide ((zq (Int.tmod (IntKind.wrap .u64 (Int.tdiv (IntKind.wrap .u64 (Int.tdiv wv 8)) 32)) 256))<=62)))) (by simp only[b52,BL]) ?_
   exact hk
  rw[if_neg c49]at h
  refine aI 73 (zK c49)<| T_k<| aL<| aE<| ar 24<| T_nd 1 [6,7,73] [(93,.agg #[vi 0,vi 0,vi 0,vi 0,vu 0])] ?_
  obtain⟨q64,h⟩:=h
  refine bX 111 [vi 0,vi 0,vi 0,vi 0,vu 0] q64 ?_
  intro bc e63
  replace h:=h bc e63
  refine T_pd [93] []<| T_e<| zz ?_
  show At _ _ _ _ _ (Q .ret)
  obtain⟨d,e,al,am,a,q65,h⟩:=h
  exact cP (fn:=Tryz.f94) [.agg #[vi d,vi e,vi al,vi am,vu a]] hQ (show cK _ _ _ [.cell 2 111] _ from .cell (by kernel_rfl) (aQ (λ_=>by kernel_rfl) (λ_=>by kernel_rfl) q65) (.nil)) h
 by_cases c66:(zq (Int.tmod wv 8))=1
 ·rw[if_pos c66]at h
  have b67:((zq (Int.tmod wv 8))==1)=true:=zV c66
  refine eT [(2,vp (pa b)),(4,vi (zq (Int.tmod wv 8))),(5,vu (IntKind.wrap .u64 (Int.tdiv wv 8))),(6,vi (zq (Int.tmod (IntKind.wrap .u64 (Int.tdiv wv 8)) 32))),(7,vu (IntKind.wrap .u64 (Int.tdiv (IntKind.wrap .u64 (Int.tdiv wv 8)) 32))),(20,vi (zq (Int.tmod wv 8))),(35,.bool true)] (by simp only[b67,Bool.not_true,Bool.not_false]) ?_
  clear b67
  exact T_tz 35<| T_kt<| fH (true:Bool) sk h
 rw[if_neg c66]at h
 have b67:((zq (Int.tmod wv 8))==1)=false:=zK c66
 refine eT [(2,vp (pa b)),(4,vi (zq (Int.tmod wv 8))),(5,vu (IntKind.wrap .u64 (Int.tdiv wv 8))),(6,vi (zq (Int.tmod (IntKind.wrap .u64 (Int.tdiv wv 8)) 32))),(7,vu (IntKind.wrap .u64 (Int.tdiv (IntKind.wrap .u64 (Int.tdiv wv 8)) 32))),(20,vi (zq (Int.tmod wv 8))),(35,.bool false)] (by simp only[b67,Bool.not_true,Bool.not_false]) ?_
 clear b67
 refine T_fz 35<| ar 10<| T_ed 2 [35] [(35,.bool ((zq (Int.tmod wv 8))==2))] ?_
 by_cases c68:(zq (Int.tmod wv 8))=2
 ·rw[if_pos c68]at h
  refine S_bd 35 (zV c68)<| T_tz 35<| T_kt ?_
  exact fH (true:Bool) sk h
 rw[if_neg c68]at h
 refine S_bd 35 (zK c68)<| T_fz 35<| ar 11<| T_ed 2 [35] [(35,.bool ((zq (Int.tmod wv 8))==3))] ?_
 by_cases c70:(zq (Int.tmod wv 8))=3
 ·rw[if_pos c70]at h
  refine S_bd 35 (zV c70)<| T_tz 35<| T_kt ?_
  exact fH (true:Bool) sk h
 rw[if_neg c70]at h
 refine S_bd 35 (zK c70)<| T_fz 35<| T_rz 12<| T_ed 2 [35] [(35,.bool ((zq (Int.tmod wv 8))==6))] ?_
 exact fH (((zq (Int.tmod wv 8))==6):Bool) sk h
end dB

/-! moraine/moraineref01.Letter -/
namespace dL
def K0:=Func.code Tryz.f97
end dL
def dL.pt(c:Int)(H:zW)(R:zv):Prop:=
 R (.bool (((decide (c>=0)) && (decide (c<=1114111))) && ((decide (c<55296)) || (decide (c>57343))))) H
namespace dL
theorem link{c:Int}{H:zW}{R:zv}(h:pt c H R):C c H R:=by
 refine T_en K0 17 Tryz.func97 ?_
 intro w0 Q hQ
 unfold pt at h
 refine T_su [(0,.int .i32 c)]<| ar 0<| T_ed 1 [] []<| ar 1 ?_
 refine gp [(2,.bool (((decide (c>=0)) && (decide (c<=1114111))) && ((decide (c<55296)) || (decide (c>57343)))))] ?_ ?_
 ·exact aE<| ie [2] [.bool (((decide (c>=0)) && (decide (c<=1114111))) && ((decide (c<55296)) || (decide (c>57343))))] hQ h
 intro hk
 refine T_n 3 [(0,.int .i32 c),(5,.bool (decide (c>=0)))] ?_
 by_cases c1:c>=0
 ·have b2:(decide (c>=0))=true:=zQ c1
  refine bV [(0,.int .i32 c),(5,.bool true)] (by rw[b2]) ?_
  refine T_nd 4 [5] [(9,.bool (decide (c<=1114111)))] ?_
  by_cases c3:c<=1114111
  ·have b4:(decide (c<=1114111))=true:=zQ c3
   refine N_bd 9 b4<| T_nd 3 [] [(12,.bool (decide (c<55296)))] ?_
   by_cases c5:c<55296
   ·have b6:(decide (c<55296))=true:=zQ c5
    refine N_bd 12 b6<| T_n 5 [(2,.bool true)] ?_
    refine zx<| eT [(2,.bool (((decide (c>=0)) && (decide (c<=1114111))) && ((decide (c<55296)) || (decide (c>57343)))))] (by simp only[b2,b4,b6,BL]) ?_
    exact hk
   have b6:(decide (c<55296))=false:=zJ c5
   refine N_bd 12 b6<| T_n 5 [(2,.bool (decide (c>57343)))] ?_
   refine zx<| eT [(2,.bool (((decide (c>=0)) && (decide (c<=1114111))) && ((decide (c<55296)) || (decide (c>57343)))))] (by simp only[b2,b4,b6,BL]) ?_
   exact hk
  have b4:(decide (c<=1114111))=false:=zJ c3
  refine N_bd 9 b4<| T_n 8 [(2,.bool false)] ?_
  refine zx<| eT [(2,.bool (((decide (c>=0)) && (decide (c<=1114111))) && ((decide (c<55296)) || (decide (c>57343)))))] (by simp only[b2,b4,BL]) ?_
  exact hk
 have b2:(decide (c>=0))=false:=zJ c1
 refine bV [(0,.int .i32 c),(5,.bool false)] (by rw[b2]) ?_
 refine T_n 12 [(2,.bool false)]<| zx<| eT [(2,.bool (((decide (c>=0)) && (decide (c<=1114111))) && ((decide (c<55296)) || (decide (c>57343)))))] (by simp only[b2,BL]) ?_
 exact hk
end dL

/-! moraine/moraineref01.power -/
namespace cJ
def K0:=Func.code Tryz.f122
def K2:=cb K0
def K4:=cb K2
def K5:=ca K4
def K8:=cb K5
def K9:=ca K8
def K10:=ca K9
end cJ
def cJ.pt(nv:Int)(H:zW)(R:zv):Prop:=
 ∃(a:Int->zw) (m11:Int->Int->zW->Nat),a 1 0 H/\ ∀(x:Int) (i:Int) (H1:zW),a x i H1->
 if i<nv then(
 (a (IntKind.wrap .u64 (x*2)) (zq (i+1)) H1/\m11 (IntKind.wrap .u64 (x*2)) (zq (i+1)) H1<m11 x i H1))
 else
 R (.int .u64 x) H1
namespace cJ
theorem link{nv:Int}{H:zW}{R:zv}(h:pt nv H R):C nv H R:=by
 refine T_en K0 13 Tryz.func122 ?_
 intro w0 Q hQ
 unfold pt zq at h
 refine T_su [(0,vi nv)]<| ar 0<| T_ed 1 [] []<| ar 1<| T_ed 1 [] [(3,vu 1)]<| T_sz<| ar 2<| T_ed 1 [] [(4,vi 0)]<| T_bz 0 ?_
 obtain⟨a,m11,i1,i2⟩:=h
 refine dS (x:=K10) (σ:=Int×Int) (λs_=> [(0,vi nv),(3,vu s_.1),(4,vi s_.2)]) (λs_ H=>a s_.1 s_.2 H) (λs_ H=>m11 s_.1 s_.2 H) ((1,0):Int×Int) (by kernel_rfl) i1 sk ?_
 rintro⟨x,i⟩ H1 i3
 have h:=i2 x i H1 i3
 refine T_su [(0,vi nv),(3,vu x),(4,vi i)]<| T_sz<| ar 3<| T_ed 3 [] [(7,.bool (decide (i<nv)))] ?_
 by_cases c4:i<nv
 ·rw[if_pos c4]at h
  exact aH 7 (zQ c4)<| T_kt<| T_sz<| T_bz 1<| T_rz 5<| T_nd 3 [3,7] [(3,vu (IntKind.wrap .u64 (x*2)))]<| zx<| aL<| aE<| T_rz 4<| T_ed 3 [4] [(4,vi (zq (i+1)))]<| bG (((IntKind.wrap .u64 (x*2)),(zq (i+1))):Int×Int) sk h
 rw[if_neg c4]at h
 exact aI 7 (zJ c4)<| zk 0<| aD<| aD<| aR<| aE<| ar 6<| T_nr 2 [2] [vu x] hQ h
end cJ

