/- Printed: what each function asks, and that it is sound. -/
import Derived.Test.YtiebboaeaoobmaaGreatFnsC
set_option linter.unusedSimpArgs false
set_option linter.unusedVariables false
set_option maxRecDepth 100000
set_option maxHeartbeats 1000000
noncomputable section
namespace Go.Proofs.YtiebboaeaoobmaaGreat
open Go
/-! moraine/eqtab.Put -/
namespace gK
def K0:=Func.code Tryz.f15
def K2:=cb K0
def K4:=cb K2
def K6:=cb K4
def K12:=cb K6
def K22:=cb K12
def K24:=cb K22
def K26:=cb K24
def K32:=cb K26
def K34:=cb K32
def K40:=cb K34
def K42:=cb K40
def K48:=cb K42
def K49:=ca K48
end gK
def gK.pt(hv:zW)(tv i a:Int)(H:zV)(R:zk):Prop:=
 eK.C hv tv H (λv H1=> ∃(o:zW) (af rb:Int),v=.tuple #[.agg #[.pointer o,.int .u64 af],.int .i64 rb]/\
 ∀(b:Nat) (H2:zV),b=H1.size->H2=H1.push (.cells #[.pointer none,.int .u64 0] 72)->
 (aJ H2 (ad b) 0 2)/\ ∀H3,H3=aP H2 (ad b) [.pointer o,.int .u64 af] 0->
 if rb=0 then(
 ∃(aa:zW) (xw:Int),aL H3 (ad b) 0 [.pointer aa,.int .u64 xw]/\
 cL.C aa xw i H3 (λa8 H4=> ∃(ra:Int) (z:Bool),a8=.tuple #[.int .u64 ra,.bool z]/\
 if z=true then(
 cv.C hv ra a H4 (λay H5=> ∃x:Int,ay=.int .i64 x/\
 R (.int .i64 x) H5))
 else
 eD.C i H4 (λa0 H6=> ∃d:Int,a0=.int .i64 d/\
 cG.C hv i a H6 (λa3 H7=> ∃g m:Int,a3=.tuple #[.int .u64 g,.int .i64 m]/\
 if m=0 then(
 ∃(t:zW) (ah:Int),aL H7 (ad b) 0 [.pointer t,.int .u64 ah]/\
 bH.C t ah 1 H7 (λaz H8=> ∃al:Int,az=.int .u64 al/\
 cG.C hv g al H8 (λa4 H9=> ∃f l:Int,a4=.tuple #[.int .u64 f,.int .i64 l]/\
 if l=0 then(
 ∃(q:zW) (ae:Int),aL H9 (ad b) 0 [.pointer q,.int .u64 ae]/\
 bO.C q ae d H9 (λa6 a1=> ∃ai:Int,a6=.int .u64 ai/\
 cG.C hv g ai a1 (λa7 an=> ∃j n:Int,a7=.tuple #[.int .u64 j,.int .i64 n]/\
 if n=0 then(
 ∃(u:zW) (ag:Int),aL an (ad b) 0 [.pointer u,.int .u64 ag]/\
 bH.C u ag 0 an (λaq a2=> ∃ak:Int,aq=.int .u64 ak/\
 gQ.C ak a2 (λau aw=> ∃(s:Int) (am:Bool),au=.tuple #[.int .i64 s,.bool am]/\
 ∃(k:zW) (y:Int),aL aw (ad b) 0 [.pointer k,.int .u64 y]/\
 fH.C (zY (s+1)) aw (λav ap=> ∃aj:Int,av=.int .u64 aj/\aL ap (ad b) 0 [.pointer k,.int .u64 y]/\
 cx.C k y 0 aj ap (λ_ ao=>
 ∃(p:zW) (ab:Int),aL ao (ad b) 0 [.pointer p,.int .u64 ab]/\
 cx.C p ab 1 f ao (λ_ ax=>
 ∃(r:zW) (ac:Int),aL ax (ad b) 0 [.pointer r,.int .u64 ac]/\
 bE.C r ac d j ax (λ_ a5=>
 R (.int .i64 0) a5)))))))
 else
 R (.int .i64 n) an)))
 else
 R (.int .i64 l) H9)))
 else
 R (.int .i64 m) H7))))
 else
 R (.int .i64 rb) H3)
namespace gK
theorem link{hv:zW}{tv i a:Int}{H:zV}{R:zk}(h:pt hv tv i a H R):C hv tv i a H R:=by
 refine T_en K0 92 Tryz.func15 ?_
 intro w0 Q hQ
 unfold pt zY at h
 refine T_su [(0,vp hv),(1,vu tv),(2,vu i),(3,vu a)]<| ar 0<| T_ed 1 [] []<| ar 1<| T_nd 2 [1] [(20,vp hv),(21,vu tv)]<| T_c (some 22) h ?_;clear h
 rintro v H1 ⟨o,af,rb,rfl,h⟩
 refine T_pd [20,21] [(22,.tuple #[.agg #[vp o,vu af],vi rb])]<| T_nd 3 [22] [(23,.agg #[vp o,vu af]),(24,vi rb)]<| T_nw (some 9) (λb=>vp (pa b)) (.cells #[vp none,vu 0] 72) ?_
 intro b H2 e1 e2
 replace h:=h b H2 e1 e2
 refine T_pd [] [(9,vp (pa b))] ?_
 obtain⟨q4,h⟩:=h
 refine fm 72 [vp o,vu af] q4 ?_
 intro H3 e3
 replace h:=h H3 e3
 refine T_pd [23] []<| T_ed 1 [24] [(10,vi rb)]<| T_sz<| ar 2<| T_ed 2 [] [(26,.bool (rb !=0))] ?_
 by_cases c5:rb=0
 ·rw[if_pos c5]at h
  refine aI 26 (bne_eq_false_iff_eq.mpr c5)<| T_kt<| T_sz<| ar 4<| T_ud [10,26] [] ?_
  obtain⟨aa,xw,q7,h⟩:=h
  refine T_lr 29 72 q7 []<| T_nd 1 [] [(30,vu i)]<| T_c (some 31) h ?_;clear h
  rintro a8 H4 ⟨ra,z,rfl,h⟩
  refine T_pd [29,30] [(31,.tuple #[vu ra,.bool z])]<| T_ed 5 [31] [(11,vu ra),(12,.bool z)]<| ar 5<| T_ed 1 [12] [(34,.bool z)] ?_
  by_cases c8:z=true
  ·rw[if_pos c8]at h
   refine aH 34 c8<| ar 6<| T_n 3 [(35,vp hv),(36,vu ra),(37,vu a)]<| T_c (some 38) h ?_;clear h
   rintro ay H5 ⟨x,rfl,h⟩
   refine⟨[(38,vi x)],pk,?_⟩
   exact T_nr 1 [8] [vi x] hQ h
  rw[if_neg c8]at h
  refine aI 34 (zZ c8)<| T_kt<| ar 7<| T_nd 1 [11,34] [(39,vu i)]<| T_c (some 40) h ?_;clear h
  rintro a0 H6 ⟨d,rfl,h⟩
  refine T_pd [39] [(40,vi d)]<| T_ed 1 [40] [(13,vi d)]<| ar 8<| T_nd 3 [2,3] [(42,vp hv),(43,vu i),(44,vu a)]<| T_c (some 45) h ?_;clear h
  rintro a3 H7 ⟨g,m,rfl,h⟩
  refine T_pd [42,43,44] [(45,.tuple #[vu g,vi m])]<| T_ed 5 [45] [(10,vi m),(14,vu g)]<| T_sz<| ar 9<| T_ed 2 [] [(49,.bool (m !=0))] ?_
  by_cases c10:m=0
  ·rw[if_pos c10]at h
   refine aI 49 (bne_eq_false_iff_eq.mpr c10)<| T_kt<| ar 11<| T_nd 2 [10,49] [(52,vp hv),(53,vu g)] ?_
   obtain⟨t,ah,q12,h⟩:=h
   refine T_lr 54 72 q12 []<| T_c (some 55) h ?_;clear h
   rintro az H8 ⟨al,rfl,h⟩
   refine T_pd [54] [(55,vu al)]<| T_c (some 56) h ?_;clear h
   rintro a4 H9 ⟨f,l,rfl,h⟩
   refine T_pd [52,53,55] [(56,.tuple #[vu f,vi l])]<| T_ed 5 [56] [(10,vi l),(15,vu f)]<| T_sz<| ar 12<| T_ed 2 [] [(60,.bool (l !=0))] ?_
   by_cases c13:l=0
   ·rw[if_pos c13]at h
    refine aI 60 (bne_eq_false_iff_eq.mpr c13)<| T_kt<| ar 14<| T_nd 2 [0,10,14,60] [(63,vp hv),(64,vu g)] ?_
    obtain⟨q,ae,q15,h⟩:=h
    refine T_lr 65 72 q15 []<| T_nd 1 [] [(66,vi d)]<| T_c (some 67) h ?_;clear h
    rintro a6 a1 ⟨ai,rfl,h⟩
    refine T_pd [65,66] [(67,vu ai)]<| T_c (some 68) h ?_;clear h
    rintro a7 an ⟨j,n,rfl,h⟩
    refine T_pd [63,64,67] [(68,.tuple #[vu j,vi n])]<| T_ed 5 [68] [(10,vi n),(16,vu j)]<| T_sz<| ar 15<| T_ed 2 [] [(72,.bool (n !=0))] ?_
    by_cases c16:n=0
    ·rw[if_pos c16]at h
     refine aI 72 (bne_eq_false_iff_eq.mpr c16)<| T_kt<| ar 17<| T_ud [10,72] [] ?_
     obtain⟨u,ag,q18,h⟩:=h
     refine T_lr 75 72 q18 []<| T_c (some 76) h ?_;clear h
     rintro aq a2 ⟨ak,rfl,h⟩
     refine T_pd [75] [(76,vu ak)]<| T_c (some 77) h ?_;clear h
     rintro au aw ⟨s,am,rfl,h⟩
     refine T_pd [76] [(77,.tuple #[vi s,.bool am])]<| T_ed 5 [77] [(17,vi s)]<| T_sz ?_
     obtain⟨k,y,q19,h⟩:=h
     refine yz 18 (Code.ops K49) [(4,(ad b),[vp k,vu y])] 5 (bv 5 0) (show aE _ _ _ from⟨q19,trivial⟩)<| T_g 0 (some 80) (.agg #[vp k,vu y]) (bv 5 1) [(9,vp (pa b)),(13,vi d),(15,vu f),(16,vu j),(17,vi s),(80,.agg #[vp k,vu y])] (aM 72 (vp (pa b))) (dU 4 (λ_=>by kernel_rfl) (λ_=>by kernel_rfl) yZ (.inl (by kernel_rfl)))<| aD 1 81 (vi s) (bv 5 3) [17]<| aD 2 82 (vi (zY (s+1))) (bv 5 7) [81]<| yj 3 (some 83) (bv 5 15) 38 #[vi (zY (s+1))] h ?_;clear h
     rintro av ap ⟨aj,rfl,f20,h⟩
     refine⟨[(9,vp (pa b)),(13,vi d),(15,vu f),(16,vu j),(80,.agg #[vp k,vu y]),(83,vu aj)],pk,(show aE _ _ _ from⟨f20,trivial⟩),?_⟩
     refine yj 4 (some 84) (bv 5 31) 37 #[.agg #[vp k,vu y],vi 0,vu aj] h ?_;clear h
     intro v_13 ao h
     refine⟨[(9,vp (pa b)),(13,vi d),(15,vu f),(16,vu j)],pk,(show aE _ _ _ from⟨trivial,trivial⟩),?_⟩
     refine dp [(9,vp (pa b)),(13,vi d),(15,vu f),(16,vu j)] sk ?_
     refine yv<| aB<| ar 19 ?_
     obtain⟨p,ab,q21,h⟩:=h
     refine T_v (some 85) (aM 72 (vp (pa b))) (.agg #[vp p,vu ab]) (fd (dS (λ_=>by kernel_rfl) (λ_=>by kernel_rfl) q21)) [(9,vp (pa b)),(13,vi d),(15,vu f),(16,vu j),(85,.agg #[vp p,vu ab])]<| T_nd 1 [15] [(86,vu f)]<| T_c (some 87) h ?_;clear h
     intro v_14 ax h
     refine T_pd [85,86] []<| T_e<| ar 20 ?_
     obtain⟨r,ac,q22,h⟩:=h
     refine T_lr 88 72 q22 [9]<| T_nd 2 [13,16] [(89,vi d),(90,vu j)]<| T_c (some 91) h ?_;clear h
     intro v_15 a5 h
     refine⟨[],pk,?_⟩
     exact T_e<| ar 21<| T_nr 1 [8] [vi 0] hQ h
    rw[if_neg c16]at h
    exact aH 72 (bne_iff_ne.mpr c16)<| ar 16<| T_nr 2 [8] [vi n] hQ h
   rw[if_neg c13]at h
   exact aH 60 (bne_iff_ne.mpr c13)<| ar 13<| T_nr 2 [8] [vi l] hQ h
  rw[if_neg c10]at h
  exact aH 49 (bne_iff_ne.mpr c10)<| ar 10<| T_nr 2 [8] [vi m] hQ h
 rw[if_neg c5]at h
 exact aH 26 (bne_iff_ne.mpr c5)<| ar 3<| T_nr 2 [8] [vi rb] hQ h
end gK

/-! moraine/eqtab.Get -/
namespace gU
def K0:=Func.code Tryz.f19
end gU
def gU.pt(hv:zW)(tv d:Int)(H:zV)(R:zk):Prop:=
 eK.C hv tv H (λv H1=> ∃(a:zW) (k rb:Int),v=.tuple #[.agg #[.pointer a,.int .u64 k],.int .i64 rb]/\
 ∀(b:Nat) (H2:zV),b=H1.size->H2=H1.push (.cells #[.pointer none,.int .u64 0] 72)->
 (aJ H2 (ad b) 0 2)/\ ∀H3,H3=aP H2 (ad b) [.pointer a,.int .u64 k] 0->
 if rb=0 then(
 ∃(g:zW) (xw:Int),aL H3 (ad b) 0 [.pointer g,.int .u64 xw]/\
 cL.C g xw d H3 (λl H4=> ∃(ra:Int) (f:Bool),l=.tuple #[.int .u64 ra,.bool f]/\
 if f=true then(
 dE.C hv ra H4 (λm H5=> ∃j i:Int,m=.tuple #[.int .u64 j,.int .i64 i]/\
 R (.tuple #[.int .u64 j,.bool true,.int .i64 i]) H5))
 else
 R (.tuple #[.int .u64 0,.bool false,.int .i64 0]) H4))
 else
 R (.tuple #[.int .u64 0,.bool false,.int .i64 rb]) H3)
namespace gU
theorem link{hv:zW}{tv d:Int}{H:zV}{R:zk}(h:pt hv tv d H R):C hv tv d H R:=by
 refine T_en K0 39 Tryz.func19 ?_
 intro w0 Q hQ
 unfold pt at h
 refine T_su [(0,vp hv),(1,vu tv),(2,vu d)]<| ar 0<| T_ed 3 [] []<| ar 1<| T_nd 2 [1] [(15,vp hv),(16,vu tv)]<| T_c (some 17) h ?_;clear h
 rintro v H1 ⟨a,k,rb,rfl,h⟩
 refine T_pd [15,16] [(17,.tuple #[.agg #[vp a,vu k],vi rb])]<| T_nd 3 [17] [(18,.agg #[vp a,vu k]),(19,vi rb)]<| T_nw (some 9) (λb=>vp (pa b)) (.cells #[vp none,vu 0] 72) ?_
 intro b H2 e1 e2
 replace h:=h b H2 e1 e2
 refine T_pd [] [(9,vp (pa b))] ?_
 obtain⟨q4,h⟩:=h
 refine fm 72 [vp a,vu k] q4 ?_
 intro H3 e3
 replace h:=h H3 e3
 refine T_pd [18] []<| T_ed 1 [19] [(10,vi rb)]<| T_sz<| ar 2<| T_ed 2 [] [(21,.bool (rb !=0))] ?_
 by_cases c5:rb=0
 ·rw[if_pos c5]at h
  refine aI 21 (bne_eq_false_iff_eq.mpr c5)<| T_kt<| ar 4<| T_ud [10,21] [] ?_
  obtain⟨g,xw,q7,h⟩:=h
  refine T_lr 24 72 q7 [9]<| T_nd 1 [2] [(25,vu d)]<| T_c (some 26) h ?_;clear h
  rintro l H4 ⟨ra,f,rfl,h⟩
  refine T_pd [24,25] [(26,.tuple #[vu ra,.bool f])]<| T_ed 5 [26] [(11,vu ra),(12,.bool f)]<| T_sz<| ar 5<| T_ed 2 [12] [(30,.bool (!f))] ?_
  by_cases c8:f=true
  ·rw[if_pos c8]at h
   refine aI 30 (congrArg Bool.not (c8))<| T_kt<| ar 7<| T_n 2 [(32,vp hv),(33,vu ra)]<| T_c (some 34) h ?_;clear h
   rintro m H5 ⟨j,i,rfl,h⟩
   refine⟨[(34,.tuple #[vu j,vi i])],pk,?_⟩
   exact T_ne 5 [(10,vi i),(13,vu j)]<| ar 8<| T_nr 5 [6,7,8] [vu j,.bool true,vi i] hQ h
  rw[if_neg c8]at h
  exact aH 30 (congrArg Bool.not (zZ c8))<| ar 6<| T_nr 3 [6,7,8] [vu 0,.bool false,vi 0] hQ h
 rw[if_neg c5]at h
 exact aH 21 (bne_iff_ne.mpr c5)<| ar 3<| T_nr 4 [6,7,8] [vu 0,.bool false,vi rb] hQ h
end gU

/-! moraine/eqtab.Delete -/
namespace fx
def K0:=Func.code Tryz.f20
def K2:=cb K0
def K4:=cb K2
def K6:=cb K4
def K12:=cb K6
def K14:=cb K12
def K20:=cb K14
def K21:=ca K20
def K22:=cb K20
def K24:=cb K22
def K25:=ca K24
def K26:=cb K24
def K28:=cb K26
def K30:=cb K28
def K32:=cb K30
def K33:=ca K32
end fx
def fx.pt(hv:zW)(tv f:Int)(H:zV)(R:zk):Prop:=
 eK.C hv tv H (λv H1=> ∃(l:zW) (ag rb:Int),v=.tuple #[.agg #[.pointer l,.int .u64 ag],.int .i64 rb]/\
 ∀(b:Nat) (H2:zV),b=H1.size->H2=H1.push (.cells #[.pointer none,.int .u64 0] 72)->
 (aJ H2 (ad b) 0 2)/\ ∀H3,H3=aP H2 (ad b) [.pointer l,.int .u64 ag] 0->
 if rb=0 then(
 ∃(u:zW) (xw:Int),aL H3 (ad b) 0 [.pointer u,.int .u64 xw]/\
 cL.C u xw f H3 (λa5 H4=> ∃(ra:Int) (t:Bool),a5=.tuple #[.int .u64 ra,.bool t]/\
 if t=true then(
 eD.C f H4 (λay H5=> ∃x:Int,ay=.int .i64 x/\
 ∃(d:zW) (q:Int),aL H5 (ad b) 0 [.pointer d,.int .u64 q]/\
 ∃(i:zW) (y:Int),aL H5 (ad b) 0 [.pointer i,.int .u64 y]/\
 bO.C i y x H5 (λaz H6=> ∃al:Int,az=.int .u64 al/\aL H6 (ad b) 0 [.pointer d,.int .u64 q]/\
 bZ.C d q al ra H6 (λa0 H7=> ∃ab:Int,a0=.int .u64 ab/\
 ∃(o:zW) (ac:Int),aL H7 (ad b) 0 [.pointer o,.int .u64 ac]/\
 bE.C o ac x ab H7 (λ_ H8=>
 ∃(g:zW) (s:Int),aL H8 (ad b) 0 [.pointer g,.int .u64 s]/\
 ∃(j:zW) (z:Int),aL H8 (ad b) 0 [.pointer j,.int .u64 z]/\
 bH.C j z 1 H8 (λa1 H9=> ∃ai:Int,a1=.int .u64 ai/\aL H9 (ad b) 0 [.pointer g,.int .u64 s]/\
 bZ.C g s ai ra H9 (λa2 aq=> ∃aa:Int,a2=.int .u64 aa/\
 ∃(n:zW) (ae:Int),aL aq (ad b) 0 [.pointer n,.int .u64 ae]/\
 cx.C n ae 1 aa aq (λ_ ax=>
 ∃(p:zW) (af:Int),aL ax (ad b) 0 [.pointer p,.int .u64 af]/\
 cM.C p af ra ax (λ_ au=>
 ∃(r:zW) (ah:Int),aL au (ad b) 0 [.pointer r,.int .u64 ah]/\
 bH.C r ah 0 au (λav a3=> ∃ak:Int,av=.int .u64 ak/\
 gQ.C ak a3 (λaw ao=> ∃(m:Int) (am:Bool),aw=.tuple #[.int .i64 m,.bool am]/\
 ∃(a:zW) (k:Int),aL ao (ad b) 0 [.pointer a,.int .u64 k]/\
 fH.C (zY (m-1)) ao (λap an=> ∃aj:Int,ap=.int .u64 aj/\aL an (ad b) 0 [.pointer a,.int .u64 k]/\
 cx.C a k 0 aj an (λ_ a4=>
 R (.tuple #[.bool true,.int .i64 0]) a4)))))))))))))
 else
 R (.tuple #[.bool false,.int .i64 0]) H4))
 else
 R (.tuple #[.bool false,.int .i64 rb]) H3)
namespace fx
theorem link{hv:zW}{tv f:Int}{H:zV}{R:zk}(h:pt hv tv f H R):C hv tv f H R:=by
 refine T_en K0 68 Tryz.func20 ?_
 intro w0 Q hQ
 unfold pt zY at h
 refine T_su [(0,vp hv),(1,vu tv),(2,vu f)]<| ar 0<| T_ed 2 [] []<| ar 1<| T_nd 2 [0,1] [(18,vp hv),(19,vu tv)]<| T_c (some 20) h ?_;clear h
 rintro v H1 ⟨l,ag,rb,rfl,h⟩
 refine⟨[(2,vu f),(20,.tuple #[.agg #[vp l,vu ag],vi rb])],pk,?_⟩
 refine T_nd 3 [20] [(21,.agg #[vp l,vu ag]),(22,vi rb)]<| T_nw (some 8) (λb=>vp (pa b)) (.cells #[vp none,vu 0] 72) ?_
 intro b H2 e1 e2
 replace h:=h b H2 e1 e2
 refine T_pd [] [(8,vp (pa b))] ?_
 obtain⟨q4,h⟩:=h
 refine fm 72 [vp l,vu ag] q4 ?_
 intro H3 e3
 replace h:=h H3 e3
 refine T_pd [21] []<| T_ed 1 [22] [(9,vi rb)]<| T_sz<| ar 2<| T_ed 2 [] [(24,.bool (rb !=0))] ?_
 by_cases c5:rb=0
 ·rw[if_pos c5]at h
  refine aI 24 (bne_eq_false_iff_eq.mpr c5)<| T_kt<| ar 4<| T_ud [9,24] [] ?_
  obtain⟨u,xw,q7,h⟩:=h
  refine T_lr 27 72 q7 []<| T_nd 1 [] [(28,vu f)]<| T_c (some 29) h ?_;clear h
  rintro a5 H4 ⟨ra,t,rfl,h⟩
  refine T_pd [27,28] [(29,.tuple #[vu ra,.bool t])]<| T_ed 5 [29] [(10,vu ra),(11,.bool t)]<| T_sz<| ar 5<| T_ed 2 [11] [(33,.bool (!t))] ?_
  by_cases c8:t=true
  ·rw[if_pos c8]at h
   refine aI 33 (congrArg Bool.not (c8))<| T_kt<| ar 7<| T_nd 1 [2,33] [(34,vu f)]<| T_c (some 35) h ?_;clear h
   rintro ay H5 ⟨x,rfl,h⟩
   refine T_pd [34] [(35,vi x)]<| T_ed 1 [35] [(12,vi x)]<| T_sz ?_
   obtain⟨d,q,q10,i,y,q11,h⟩:=h
   refine yz 8 (Code.ops K21) [(5,(ad b),[vp d,vu q]),(3,(ad b),[vp i,vu y])] 7 (bv 7 0) (show aE _ _ _ from⟨q10,q11,trivial⟩)<| T_g 0 (some 36) (.agg #[vp d,vu q]) (bv 7 1) [(8,vp (pa b)),(10,vu ra),(12,vi x),(36,.agg #[vp d,vu q])] (aM 72 (vp (pa b))) (dU 5 (λ_=>by kernel_rfl) (λ_=>by kernel_rfl) yZ (.inl (by kernel_rfl)))<| T_g1 1 37 (.agg #[vp i,vu y]) (bv 7 3) [] (aM 72 (vp (pa b))) (dU 3 (λ_=>by kernel_rfl) (λ_=>by kernel_rfl) yX (.inl (by kernel_rfl)))<| aD 2 38 (vi x) (bv 7 7) []<| aD 4 40 (vu ra) (bv 7 23) []<| yj 3 (some 39) (bv 7 31) 35 #[.agg #[vp i,vu y],vi x] h ?_;clear h
   rintro az H6 ⟨al,rfl,f12,h⟩
   refine⟨[(8,vp (pa b)),(10,vu ra),(12,vi x),(36,.agg #[vp d,vu q]),(39,vu al),(40,vu ra)],pk,(show aE _ _ _ from⟨f12,trivial,trivial⟩),?_⟩
   refine yj 5 (some 41) (bv 7 63) 42 #[.agg #[vp d,vu q],vu al,vu ra] h ?_;clear h
   rintro a0 H7 ⟨ab,rfl,h⟩
   refine⟨[(8,vp (pa b)),(10,vu ra),(12,vi x),(41,vu ab)],pk,(show aE _ _ _ from⟨trivial,trivial,trivial⟩),?_⟩
   refine T_g 6 (some 13) (vu ab) (bv 7 127) [(8,vp (pa b)),(10,vu ra),(12,vi x),(13,vu ab)] (pure (.value (vu ab)):Sem Next) (λ_ _ _ _ _=>rfl)<| dp [(8,vp (pa b)),(10,vu ra),(12,vi x),(13,vu ab)] sk<| yv<| aB<| ar 9 ?_
   obtain⟨o,ac,q13,h⟩:=h
   refine T_v (some 42) (aM 72 (vp (pa b))) (.agg #[vp o,vu ac]) (fd (dS (λ_=>by kernel_rfl) (λ_=>by kernel_rfl) q13)) [(8,vp (pa b)),(10,vu ra),(12,vi x),(13,vu ab),(42,.agg #[vp o,vu ac])]<| T_nd 2 [12,13] [(43,vi x),(44,vu ab)]<| T_c (some 45) h ?_;clear h
   intro v_6 H8 h
   refine T_pd [42,43,44] []<| T_e<| T_sz ?_
   obtain⟨g,s,q14,j,z,q15,h⟩:=h
   refine yz 10 (Code.ops K25) [(4,(ad b),[vp g,vu s]),(2,(ad b),[vp j,vu z])] 6 (bv 6 0) (show aE _ _ _ from⟨q14,q15,trivial⟩)<| T_g 0 (some 46) (.agg #[vp g,vu s]) (bv 6 1) [(8,vp (pa b)),(10,vu ra),(46,.agg #[vp g,vu s])] (aM 72 (vp (pa b))) (dU 4 (λ_=>by kernel_rfl) (λ_=>by kernel_rfl) yZ (.inl (by kernel_rfl)))<| T_g1 1 47 (.agg #[vp j,vu z]) (bv 6 3) [] (aM 72 (vp (pa b))) (dU 2 (λ_=>by kernel_rfl) (λ_=>by kernel_rfl) yX (.inl (by kernel_rfl)))<| aD 3 49 (vu ra) (bv 6 11) []<| yj 2 (some 48) (bv 6 15) 34 #[.agg #[vp j,vu z],vi 1] h ?_;clear h
   rintro a1 H9 ⟨ai,rfl,f16,h⟩
   refine⟨[(8,vp (pa b)),(10,vu ra),(46,.agg #[vp g,vu s]),(48,vu ai),(49,vu ra)],pk,(show aE _ _ _ from⟨f16,trivial,trivial⟩),?_⟩
   refine yj 4 (some 50) (bv 6 31) 42 #[.agg #[vp g,vu s],vu ai,vu ra] h ?_;clear h
   rintro a2 aq ⟨aa,rfl,h⟩
   refine⟨[(8,vp (pa b)),(10,vu ra),(50,vu aa)],pk,(show aE _ _ _ from⟨trivial,trivial,trivial⟩),?_⟩
   refine T_g 5 (some 14) (vu aa) (bv 6 63) [(8,vp (pa b)),(10,vu ra),(14,vu aa)] (pure (.value (vu aa)):Sem Next) (λ_ _ _ _ _=>rfl)<| dp [(8,vp (pa b)),(10,vu ra),(14,vu aa)] sk<| yv<| aB<| ar 11 ?_
   obtain⟨n,ae,q17,h⟩:=h
   refine T_v (some 51) (aM 72 (vp (pa b))) (.agg #[vp n,vu ae]) (fd (dS (λ_=>by kernel_rfl) (λ_=>by kernel_rfl) q17)) [(8,vp (pa b)),(10,vu ra),(14,vu aa),(51,.agg #[vp n,vu ae])]<| T_nd 1 [14] [(52,vu aa)]<| T_c (some 53) h ?_;clear h
   intro v_9 ax h
   refine T_pd [51,52] []<| T_e<| ar 12 ?_
   obtain⟨p,af,q18,h⟩:=h
   refine T_lr 54 72 q18 []<| T_nd 1 [10] [(55,vu ra)]<| T_c (some 56) h ?_;clear h
   intro v_10 au h
   refine T_pd [54,55] []<| T_e<| ar 13 ?_
   obtain⟨r,ah,q19,h⟩:=h
   refine T_lr 58 72 q19 []<| T_c (some 59) h ?_;clear h
   rintro av a3 ⟨ak,rfl,h⟩
   refine T_pd [58] [(59,vu ak)]<| T_c (some 60) h ?_;clear h
   rintro aw ao ⟨m,am,rfl,h⟩
   refine T_pd [59] [(60,.tuple #[vi m,.bool am])]<| T_ed 5 [60] [(15,vi m)]<| T_sz ?_
   obtain⟨a,k,q20,h⟩:=h
   refine yz 14 (Code.ops K33) [(4,(ad b),[vp a,vu k])] 5 (bv 5 0) (show aE _ _ _ from⟨q20,trivial⟩)<| T_g 0 (some 63) (.agg #[vp a,vu k]) (bv 5 1) [(15,vi m),(63,.agg #[vp a,vu k])] (aM 72 (vp (pa b))) (dU 4 (λ_=>by kernel_rfl) (λ_=>by kernel_rfl) yZ (.inl (by kernel_rfl)))<| aD 1 64 (vi m) (bv 5 3) [15]<| aD 2 65 (vi (zY (m-1))) (bv 5 7) [64]<| yj 3 (some 66) (bv 5 15) 38 #[vi (zY (m-1))] h ?_;clear h
   rintro ap an ⟨aj,rfl,f21,h⟩
   refine⟨[(63,.agg #[vp a,vu k]),(66,vu aj)],pk,(show aE _ _ _ from⟨f21,trivial⟩),?_⟩
   refine yj 4 (some 67) (bv 5 31) 37 #[.agg #[vp a,vu k],vi 0,vu aj] h ?_;clear h
   intro v_14 a4 h
   refine⟨[],pk,(show aE _ _ _ from⟨trivial,trivial⟩),?_⟩
   refine dp [] sk ?_
   exact yv<| aB<| ar 15<| T_nr 2 [6,7] [.bool true,vi 0] hQ h
  rw[if_neg c8]at h
  exact aH 33 (congrArg Bool.not (zZ c8))<| ar 6<| T_nr 2 [6,7] [.bool false,vi 0] hQ h
 rw[if_neg c5]at h
 exact aH 24 (bne_iff_ne.mpr c5)<| ar 3<| T_nr 3 [6,7] [.bool false,vi rb] hQ h
end fx

/-! moraine/eqtab.Count -/
namespace fQ
def K0:=Func.code Tryz.f21
end fQ
def fQ.pt(hv:zW)(tv:Int)(H:zV)(R:zk):Prop:=
 eK.C hv tv H (λv H1=> ∃(a:zW) (f rb:Int),v=.tuple #[.agg #[.pointer a,.int .u64 f],.int .i64 rb]/\
 ∀(b:Nat) (H2:zV),b=H1.size->H2=H1.push (.cells #[.pointer none,.int .u64 0] 72)->
 (aJ H2 (ad b) 0 2)/\ ∀H3,H3=aP H2 (ad b) [.pointer a,.int .u64 f] 0->
 if rb=0 then(
 ∃(d:zW) (xw:Int),aL H3 (ad b) 0 [.pointer d,.int .u64 xw]/\
 bH.C d xw 0 H3 (λi H4=> ∃x:Int,i=.int .u64 x/\
 gQ.C x H4 (λj H5=> ∃(ra:Int) (g:Bool),j=.tuple #[.int .i64 ra,.bool g]/\
 R (.tuple #[.int .i64 ra,.int .i64 0]) H5)))
 else
 R (.tuple #[.int .i64 0,.int .i64 rb]) H3)
namespace fQ
theorem link{hv:zW}{tv:Int}{H:zV}{R:zk}(h:pt hv tv H R):C hv tv H R:=by
 refine T_en K0 26 Tryz.func21 ?_
 intro w0 Q hQ
 unfold pt at h
 refine T_su [(0,vp hv),(1,vu tv)]<| ar 0<| T_ed 2 [] []<| ar 1<| T_n 2 [(11,vp hv),(12,vu tv)]<| T_c (some 13) h ?_;clear h
 rintro v H1 ⟨a,f,rb,rfl,h⟩
 refine⟨[(13,.tuple #[.agg #[vp a,vu f],vi rb])],pk,?_⟩
 refine T_n 3 [(14,.agg #[vp a,vu f]),(15,vi rb)]<| T_nw (some 6) (λb=>vp (pa b)) (.cells #[vp none,vu 0] 72) ?_
 intro b H2 e1 e2
 replace h:=h b H2 e1 e2
 refine T_pd [] [(6,vp (pa b))] ?_
 obtain⟨q4,h⟩:=h
 refine fm 72 [vp a,vu f] q4 ?_
 intro H3 e3
 replace h:=h H3 e3
 refine T_pd [14] []<| T_ed 1 [15] [(7,vi rb)]<| T_sz<| ar 2<| T_ed 2 [] [(17,.bool (rb !=0))] ?_
 by_cases c5:rb=0
 ·rw[if_pos c5]at h
  refine aI 17 (bne_eq_false_iff_eq.mpr c5)<| T_kt<| ar 4<| T_ud [7,17] [] ?_
  obtain⟨d,xw,q7,h⟩:=h
  refine T_lr 20 72 q7 [6]<| T_c (some 21) h ?_;clear h
  rintro i H4 ⟨x,rfl,h⟩
  refine⟨[(21,vu x)],pk,?_⟩
  refine T_c (some 22) h ?_;clear h
  rintro j H5 ⟨ra,g,rfl,h⟩
  refine⟨[(22,.tuple #[vi ra,.bool g])],pk,?_⟩
  exact T_ne 5 [(8,vi ra)]<| ar 5<| T_nr 3 [4,5] [vi ra,vi 0] hQ h
 rw[if_neg c5]at h
 exact aH 17 (bne_iff_ne.mpr c5)<| ar 3<| T_nr 3 [4,5] [vi 0,vi rb] hQ h
end fQ

/-! moraine/eqtab.Keys -/
namespace gz
def K0:=Func.code Tryz.f22
end gz
def gz.pt(hv:zW)(tv:Int)(H:zV)(R:zk):Prop:=
 ∀(b:Nat) (H1:zV),b=H.size->H1=H.push (.cells #[.pointer hv] 34)->
 ∃x:zW,hat H1 (ad b)=some (.pointer x)/\
 fX.C x tv (.func (.func 45) #[] #[.pointer (some (ad b))]) H1 (λv H2=> ∃(a:zW) (d f:Nat) (rb:Int),v=.tuple #[.slice a d f,.int .i64 rb]/\
 R (.tuple #[.slice a d f,.int .i64 rb]) H2)
namespace gz
theorem link{hv:zW}{tv:Int}{H:zV}{R:zk}(h:pt hv tv H R):C hv tv H R:=by
 refine T_en K0 12 Tryz.func22 ?_
 intro w0 Q hQ
 unfold pt at h
 refine T_su [(0,vp hv),(1,vu tv)]<| ar 0<| T_nw (some 2) (λb=>vp (pa b)) (.cells #[vp hv] 34) ?_
 intro b H1 e1 e2
 replace h:=h b H1 e1 e2
 refine T_pd [0] [(2,vp (pa b))]<| T_ed 2 [] []<| ar 1 ?_
 obtain⟨x,q3,h⟩:=h
 refine T_l1 6 34 q3 []<| T_nd 2 [1,2] [(7,vu tv),(8,.func (.func 45) #[] #[vp (pa b)])]<| T_c (some 9) h ?_;clear h
 rintro v H2 ⟨a,d,f,rb,rfl,h⟩
 refine⟨[(9,.tuple #[vs a d f,vi rb])],pk,?_⟩
 exact T_nr 4 [4,5] [vs a d f,vi rb] hQ h
end gz

/-! moraine/eqtab.New -/
namespace gV
def K0:=Func.code Tryz.f23
end gV
def gV.pt(hv:zW)(H:zV)(R:zk):Prop:=
 eM hv (
 R (.tuple #[.int .u64 0,.int .i64 2]) H) (λa=>
 du.C (some a) 31 20 H (λv H1=> ∃ra rb:Int,v=.tuple #[.int .u64 ra,.int .i64 rb]/\
 if rb=0 then(
 fH.C 0 H1 (λm H2=> ∃x:Int,m=.int .u64 x/\
 dM.C (some a) H2 (λj H3=> ∃g:Int,j=.int .u64 g/\
 fH.C (zY g) H3 (λk H4=> ∃i:Int,k=.int .u64 i/\
 ∀(b:Nat) (H5:zV),b=H4.size->H5=H4.push (.cells #[.int .u64 x,.int .u64 20,.int .u64 ra,.int .u64 i] 31)->
 dL.C (some a) 11 0 (some (ad b)) 4 4 H5 (λl H6=> ∃f d:Int,l=.tuple #[.int .u64 f,.int .i64 d]/\
 R (.tuple #[.int .u64 f,.int .i64 d]) H6)))))
 else
 R (.tuple #[.int .u64 0,.int .i64 rb]) H1))
namespace gV
theorem link{hv:zW}{H:zV}{R:zk}(h:pt hv H R):C hv H R:=by
 refine T_en K0 27 Tryz.func23 ?_
 intro w0 Q hQ
 unfold pt zY at h
 refine T_su [(0,vp hv)]<| ar 0<| T_ed 2 [] []<| T_sz<| ar 1<| T_nd 1 [] [(6,vp hv)] ?_
 rcases hv with _ | a
 ·rw[onPtr_none]at h
  exact T_ne 1 [(0,vp none),(7,.bool true)]<| T_tz 7<| ar 2<| T_nr 2 [2,3] [vu 0,vi 2] hQ h
 rw[onPtr_some]at h
 refine T_ne 1 [(0,vp (some a)),(7,.bool false)]<| T_fz 7<| T_kt<| ar 3<| T_nd 1 [7] [(9,vp (some a))]<| T_c (some 10) h ?_;clear h
 rintro v H1 ⟨ra,rb,rfl,h⟩
 refine T_pd [9] [(10,.tuple #[vu ra,vi rb])]<| T_ed 5 [10] [(4,vu ra),(5,vi rb)]<| T_sz<| ar 4<| T_ed 2 [] [(14,.bool (rb !=0))] ?_
 by_cases c1:rb=0
 ·rw[if_pos c1]at h
  refine aI 14 (bne_eq_false_iff_eq.mpr c1)<| T_kt<| ar 6<| T_nd 1 [5,14] [(16,vp (some a))]<| T_c (some 17) h ?_;clear h
  rintro m H2 ⟨x,rfl,h⟩
  refine T_pd [] [(17,vu x)]<| T_nd 2 [0,4] [(18,vu ra),(19,vp (some a))]<| T_c (some 20) h ?_;clear h
  rintro j H3 ⟨g,rfl,h⟩
  refine T_pd [19] [(20,vu g)]<| T_nd 1 [20] [(21,vi (zY g))]<| T_c (some 22) h ?_;clear h
  rintro k H4 ⟨i,rfl,h⟩
  refine T_pd [21] [(22,vu i)]<| T_nw (some 23) (λb=>vs (pa b) 4 4) (.cells #[vu x,vu 20,vu ra,vu i] 31) ?_
  intro b H5 e3 e4
  replace h:=h b H5 e3 e4
  refine T_pd [17,18,22] [(23,vs (pa b) 4 4)]<| T_c (some 24) h ?_;clear h
  rintro l H6 ⟨f,d,rfl,h⟩
  refine⟨[(24,.tuple #[vu f,vi d])],pk,?_⟩
  exact T_nr 4 [2,3] [vu f,vi d] hQ h
 rw[if_neg c1]at h
 exact aH 14 (bne_iff_ne.mpr c1)<| ar 5<| T_nr 3 [2,3] [vu 0,vi rb] hQ h
end gV

/-! moraine/eqtab.Values -/
namespace fy
def K0:=Func.code Tryz.f24
end fy
def fy.pt(hv:zW)(tv:Int)(H:zV)(R:zk):Prop:=
 ∀(b:Nat) (H1:zV),b=H.size->H1=H.push (.cells #[.pointer hv] 34)->
 ∃x:zW,hat H1 (ad b)=some (.pointer x)/\
 fX.C x tv (.func (.func 50) #[] #[.pointer (some (ad b))]) H1 (λv H2=> ∃(a:zW) (d f:Nat) (rb:Int),v=.tuple #[.slice a d f,.int .i64 rb]/\
 R (.tuple #[.slice a d f,.int .i64 rb]) H2)
namespace fy
theorem link{hv:zW}{tv:Int}{H:zV}{R:zk}(h:pt hv tv H R):C hv tv H R:=by
 refine T_en K0 12 Tryz.func24 ?_
 intro w0 Q hQ
 unfold pt at h
 refine T_su [(0,vp hv),(1,vu tv)]<| ar 0<| T_nw (some 2) (λb=>vp (pa b)) (.cells #[vp hv] 34) ?_
 intro b H1 e1 e2
 replace h:=h b H1 e1 e2
 refine T_pd [0] [(2,vp (pa b))]<| T_ed 2 [] []<| ar 1 ?_
 obtain⟨x,q3,h⟩:=h
 refine T_l1 6 34 q3 []<| T_nd 2 [1,2] [(7,vu tv),(8,.func (.func 50) #[] #[vp (pa b)])]<| T_c (some 9) h ?_;clear h
 rintro v H2 ⟨a,d,f,rb,rfl,h⟩
 refine⟨[(9,.tuple #[vs a d f,vi rb])],pk,?_⟩
 exact T_nr 4 [4,5] [vs a d f,vi rb] hQ h
end fy

/-! moraine/eqtab.open -/
namespace eK
def K0:=Func.code Tryz.f30
end eK
def eK.pt(hv:zW)(tv:Int)(H:zV)(R:zk):Prop:=
 ∀(b:Nat) (H1:zV),b=H.size->H1=H.push (.cells #[.pointer none,.int .u64 0] 72)->
 eM hv (
 (aJ H1 (ad b) 0 2)/\ ∀H2,H2=aP H1 (ad b) [.pointer none,.int .u64 0] 0->
 ∃(k:zW) (n:Int),aL H2 (ad b) 0 [.pointer k,.int .u64 n]/\
 R (.tuple #[.agg #[.pointer k,.int .u64 n],.int .i64 3]) H2) (λa=>
 eQ.C (some a) tv H1 (λv H3=> ∃x:Int,v=.int .i64 x/\
 if x=11 then(
 fB.C (some a) tv H3 (λo H4=> ∃i:Int,o=.int .i64 i/\
 if i=4 then(
 (aJ H4 (ad b) 0 2)/\ ∀H5,H5=aP H4 (ad b) [.pointer (some a),.int .u64 tv] 0->
 ∃(f:zW) (l:Int),aL H5 (ad b) 0 [.pointer f,.int .u64 l]/\
 R (.tuple #[.agg #[.pointer f,.int .u64 l],.int .i64 0]) H5)
 else
 (aJ H4 (ad b) 0 2)/\ ∀H6,H6=aP H4 (ad b) [.pointer none,.int .u64 0] 0->
 ∃(d:zW) (m:Int),aL H6 (ad b) 0 [.pointer d,.int .u64 m]/\
 R (.tuple #[.agg #[.pointer d,.int .u64 m],.int .i64 3]) H6))
 else
 (aJ H3 (ad b) 0 2)/\ ∀H7,H7=aP H3 (ad b) [.pointer none,.int .u64 0] 0->
 ∃(g:zW) (j:Int),aL H7 (ad b) 0 [.pointer g,.int .u64 j]/\
 R (.tuple #[.agg #[.pointer g,.int .u64 j],.int .i64 3]) H7))
namespace eK
theorem link{hv:zW}{tv:Int}{H:zV}{R:zk}(h:pt hv tv H R):C hv tv H R:=by
 refine T_en K0 24 Tryz.func30 ?_
 intro w0 Q hQ
 unfold pt at h
 refine T_su [(0,vp hv),(1,vu tv)]<| ar 0<| T_nw (some 4) (λb=>vp (pa b)) (.cells #[vp none,vu 0] 72) ?_
 intro b H1 e1 e2
 replace h:=h b H1 e1 e2
 refine T_pd [] [(4,vp (pa b))]<| T_ed 1 [] []<| T_sz<| ar 1<| T_nd 1 [] [(6,vp hv)] ?_
 rcases hv with _ | a
 ·rw[onPtr_none]at h
  refine T_ed 13 [0,6] [(0,vp none),(19,.bool true)]<| T_tz 19<| ar 2<| T_nd 1 [0,1,19] [(20,.agg #[vp none,vu 0])] ?_
  obtain⟨q4,h⟩:=h
  refine fm 72 [vp none,vu 0] q4 ?_
  intro H2 e3
  replace h:=h H2 e3
  refine T_pd [20] []<| T_ed 1 [] [(5,vi 3)]<| zx ?_
  show At _ _ _ _ _ (Q .ret)
  obtain⟨k,n,q5,h⟩:=h
  exact kA (fn:=Tryz.f30) [.agg #[vp k,vu n],vi 3] hQ (show cF _ _ _ [.cell 4 72,.tmp 5] _ from .cell (by kernel_rfl) (dS (λ_=>by kernel_rfl) (λ_=>by kernel_rfl) q5) (.tmp (by kernel_rfl) (.nil))) h
 rw[onPtr_some]at h
 refine T_nd 4 [0,6] [(0,vp (some a)),(8,.bool false),(9,vp (some a)),(10,vu tv)]<| T_c (some 11) h ?_;clear h
 rintro v H3 ⟨x,rfl,h⟩
 refine T_pd [9,10] [(11,vi x)]<| T_nd 3 [8,11] [(14,.bool (x !=11))] ?_
 by_cases c6:x=11
 ·rw[if_pos c6]at h
  refine N_bd 14 (bne_eq_false_iff_eq.mpr c6)<| T_nd 2 [] [(15,vp (some a)),(16,vu tv)] ?_
  refine T_c (some 17) h ?_;clear h
  rintro o H4 ⟨i,rfl,h⟩
  refine T_pd [15,16] [(17,vi i)]<| T_ed 2 [14,17] [(19,.bool (i !=4))] ?_
  by_cases c8:i=4
  ·rw[if_pos c8]at h
   refine aI 19 (bne_eq_false_iff_eq.mpr c8)<| T_kt<| ar 3<| T_nd 3 [0,1,19] [(23,.agg #[vp (some a),vu tv])] ?_
   obtain⟨q11,h⟩:=h
   refine fm 72 [vp (some a),vu tv] q11 ?_
   intro H5 e10
   replace h:=h H5 e10
   refine T_pd [23] []<| T_ed 1 [] [(5,vi 0)]<| zx ?_
   show At _ _ _ _ _ (Q .ret)
   obtain⟨f,l,q12,h⟩:=h
   exact kA (fn:=Tryz.f30) [.agg #[vp f,vu l],vi 0] hQ (show cF _ _ _ [.cell 4 72,.tmp 5] _ from .cell (by kernel_rfl) (dS (λ_=>by kernel_rfl) (λ_=>by kernel_rfl) q12) (.tmp (by kernel_rfl) (.nil))) h
  rw[if_neg c8]at h
  refine aH 19 (bne_iff_ne.mpr c8)<| ar 2<| T_nd 1 [0,1,19] [(20,.agg #[vp none,vu 0])] ?_
  obtain⟨q14,h⟩:=h
  refine fm 72 [vp none,vu 0] q14 ?_
  intro H6 e13
  replace h:=h H6 e13
  refine T_pd [20] []<| T_ed 1 [] [(5,vi 3)]<| zx ?_
  show At _ _ _ _ _ (Q .ret)
  obtain⟨d,m,q15,h⟩:=h
  exact kA (fn:=Tryz.f30) [.agg #[vp d,vu m],vi 3] hQ (show cF _ _ _ [.cell 4 72,.tmp 5] _ from .cell (by kernel_rfl) (dS (λ_=>by kernel_rfl) (λ_=>by kernel_rfl) q15) (.tmp (by kernel_rfl) (.nil))) h
 rw[if_neg c6]at h
 refine N_bd 14 (bne_iff_ne.mpr c6)<| T_ed 5 [14] [(19,.bool true)]<| T_tz 19<| ar 2<| T_nd 1 [0,1,19] [(20,.agg #[vp none,vu 0])] ?_
 obtain⟨q17,h⟩:=h
 refine fm 72 [vp none,vu 0] q17 ?_
 intro H7 e16
 replace h:=h H7 e16
 refine T_pd [20] []<| T_ed 1 [] [(5,vi 3)]<| zx ?_
 show At _ _ _ _ _ (Q .ret)
 obtain⟨g,j,q18,h⟩:=h
 exact kA (fn:=Tryz.f30) [.agg #[vp g,vu j],vi 3] hQ (show cF _ _ _ [.cell 4 72,.tmp 5] _ from .cell (by kernel_rfl) (dS (λ_=>by kernel_rfl) (λ_=>by kernel_rfl) q18) (.tmp (by kernel_rfl) (.nil))) h
end eK

/-! (moraine/eqtab.table).find -/
namespace cL
def K0:=Func.code Tryz.f31
def K2:=cb K0
def K4:=cb K2
def K5:=ca K4
def K7:=ca K5
def K8:=cb K5
def K9:=ca K8
def K10:=ca K9
def K11:=cb K9
end cL
def cL.pt(p:zW)(tw z:Int)(H:zV)(R:zk):Prop:=
 ∀(b:Nat) (H1:zV),b=H.size->H1=H.push (.cells #[.pointer p,.int .u64 tw] 72)->
 ∀(i:Nat) (H2:zV),i=H1.size->H2=H1.push (.cells #[.int .u64 z] 31)->
 ∀(a:Nat) (H3:zV),a=H2.size->H3=H2.push (.cells #[.int .u64 0] 31)->
 ∀(d:Nat) (H4:zV),d=H3.size->H4=H3.push (.cells #[.bool false] 4)->
 ∃(o:zW) (xw:Int),aL H4 (ad b) 0 [.pointer o,.int .u64 xw]/\
 bW.C o xw H4 (λ_ H5=>
 ∃(f:zW) (l:Int),aL H5 (ad b) 0 [.pointer f,.int .u64 l]/\
 ∃(j:zW) (m:Int),aL H5 (ad b) 0 [.pointer j,.int .u64 m]/\
 ∃x:Int,hat H5 (ad i)=some (.int .u64 x)/\
 eD.C x H5 (λaq H6=> ∃ag:Int,aq=.int .i64 ag/\aL H6 (ad b) 0 [.pointer f,.int .u64 l]/\aL H6 (ad b) 0 [.pointer j,.int .u64 m]/\
 bO.C j m ag H6 (λao H7=> ∃af:Int,ao=.int .u64 af/\aL H7 (ad b) 0 [.pointer f,.int .u64 l]/\
 bX.C f l af H7 (λu H8=>u=u/\
 ∀(rc:LoopState->Option Code->Obj) (lp:Nat) (H9:zV),lp=H8.size+1->H9=(H8.push (.deferred (some []))).push (rc .ready none)->
 ∀vY:Value,(∀(t:Int) (H10:zV) (vRy:zk),H10[lp]?=some (rc .ready none)->
 (H10[lp]?=some (rc .ready none)/\ ∀ah:zV,ah=aV H10 lp (rc .busy none)->
 ∃(k:zW) (q:Int),aL ah (ad b) 0 [.pointer k,.int .u64 q]/\
 dw.C k q t ah (λap y=> ∃ra rb:Int,ap=.tuple #[.int .u64 ra,.int .u64 rb]/\
 ∃s:Int,hat y (ad i)=some (.int .u64 s)/\
 if rb=s then(
 (aJ y (ad a) 0 1)/\ ∀ab,ab=aP y (ad a) [.int .u64 ra] 0->
 (aJ ab (ad d) 0 1)/\ ∀ae,ae=aP ab (ad d) [.bool true] 0->
 ae[lp]?=some (rc .busy none)/\
 vRy (.bool false) (aV ae lp (rc .done (some .ret))))
 else
 y[lp]?=some (rc .busy none)/\
 vRy (.bool true) (aV y lp (rc .ready none))))->
 FC Tryz.prog vY #[.int .u64 t] H10 vRy)->
 FE Tryz.prog u #[vY] H9 (λ_ ac=>
 (ac[lp]?=some (rc .ready none)/\ ∀n:zV,n=aV ac lp (rc .exhausted none)->
 (aJ n (ad a) 0 1)/\ ∀aa,aa=aP n (ad a) [.int .u64 0] 0->
 (aJ aa (ad d) 0 1)/\ ∀ak,ak=aP aa (ad d) [.bool false] 0->
 Shut (H8.size::[]) ak (λai=>
 ∃r:Int,hat ai (ad a)=some (.int .u64 r)/\
 ∃al:Bool,hat ai (ad d)=some (.bool al)/\
 R (.tuple #[.int .u64 r,.bool al]) ai))\/
 (ac[lp]?=some (rc .done (some .ret))/\ ∀n:zV,n=aV ac lp (rc .exhausted (some .ret))->
 Shut (H8.size::[]) n (λan=>
 ∃aj:Int,hat an (ad a)=some (.int .u64 aj)/\
 ∃am:Bool,hat an (ad d)=some (.bool am)/\
 R (.tuple #[.int .u64 aj,.bool am]) an)))))))
namespace cL
theorem link{p:zW}{tw z:Int}{H:zV}{R:zk}(h:pt p tw z H R):C p tw z H R:=by
 refine T_en K0 28 Tryz.func31 ?_
 intro w0 Q hQ
 unfold pt at h
 refine T_su [(0,.agg #[vp p,vu tw]),(1,vu z)]<| ar 0<| T_nw (some 2) (λb=>vp (pa b)) (.cells #[vp p,vu tw] 72) ?_
 intro b H1 e1 e2
 replace h:=h b H1 e1 e2
 refine T_pd [0] [(2,vp (pa b))]<| T_nw (some 3) (λb=>vp (pa b)) (.cells #[vu z] 31) ?_
 intro i H2 e3 e4
 replace h:=h i H2 e3 e4
 refine T_pd [1] [(3,vp (pa i))]<| T_nw (some 4) (λb=>vp (pa b)) (.cells #[vu 0] 31) ?_
 intro a H3 e5 e6
 replace h:=h a H3 e5 e6
 refine T_pd [] [(4,vp (pa a))]<| T_nw (some 5) (λb=>vp (pa b)) (.cells #[.bool false] 4) ?_
 intro d H4 e7 e8
 replace h:=h d H4 e7 e8
 refine T_pd [] [(5,vp (pa d))]<| T_e<| ar 1 ?_
 obtain⟨o,xw,q9,h⟩:=h
 refine T_lr 9 72 q9 []<| T_c (some 10) h ?_;clear h
 intro v H5 h
 refine T_pd [9] []<| T_e<| T_sz<| T_sz ?_
 obtain⟨f,l,q10,j,m,q11,x,q12,h⟩:=h
 refine yz 2 (Code.ops K7) [(5,(ad b),[vp f,vu l]),(4,(ad b),[vp j,vu m]),(3,(ad i),[vu x])] 6 (bv 6 0) (show aE _ _ _ from⟨q10,q11,⟨q12,trivial⟩,trivial⟩)<| T_g 0 (some 11) (.agg #[vp f,vu l]) (bv 6 1) [(2,vp (pa b)),(3,vp (pa i)),(4,vp (pa a)),(5,vp (pa d)),(11,.agg #[vp f,vu l])] (aM 72 (vp (pa b))) (dU 5 (λ_=>by kernel_rfl) (λ_=>by kernel_rfl) yZ (.inl (by kernel_rfl)))<| T_g1 1 12 (.agg #[vp j,vu m]) (bv 6 3) [] (aM 72 (vp (pa b))) (dU 4 (λ_=>by kernel_rfl) (λ_=>by kernel_rfl) yX (.inl (by kernel_rfl)))<| T_g1 2 13 (vu x) (bv 6 7) [] (aM 31 (vp (pa i))) (yx 3 yQ)<| yj 3 (some 14) (bv 6 15) 33 #[vu x] h ?_;clear h
 rintro aq H6 ⟨ag,rfl,f13,f14,h⟩
 refine⟨[(2,vp (pa b)),(3,vp (pa i)),(4,vp (pa a)),(5,vp (pa d)),(11,.agg #[vp f,vu l]),(12,.agg #[vp j,vu m]),(14,vi ag)],pk,(show aE _ _ _ from⟨f13,f14,trivial,trivial⟩),?_⟩
 refine yj 4 (some 15) (bv 6 31) 35 #[.agg #[vp j,vu m],vi ag] h ?_;clear h
 rintro ao H7 ⟨af,rfl,f15,h⟩
 refine⟨[(2,vp (pa b)),(3,vp (pa i)),(4,vp (pa a)),(5,vp (pa d)),(11,.agg #[vp f,vu l]),(15,vu af)],pk,(show aE _ _ _ from⟨f15,trivial,trivial,trivial⟩),?_⟩
 refine yj 5 (some 16) (bv 6 63) 59 #[.agg #[vp f,vu l],vu af] h ?_;clear h
 rintro u H8 ⟨-,h⟩
 refine⟨[(2,vp (pa b)),(3,vp (pa i)),(4,vp (pa a)),(5,vp (pa d)),(16,u)],pk,(show aE _ _ _ from⟨trivial,trivial,trivial,trivial⟩),?_⟩
 refine dp [(2,vp (pa b)),(3,vp (pa i)),(4,vp (pa a)),(5,vp (pa d)),(16,u)] sk ?_
 refine yv<| aB<| T_bz 0<| kU (g:=.tmp 16) (ps:= #[17]) (assign:=K10) (body:=K11) (u) (by kernel_rfl) (by kernel_rfl) (by kernel_rfl) ?_
 intro rc lp H9 r16 e17 e18 y19
 refine FE.mono (h rc lp H9 e17 e18 (.func (.yield lp) #[] #[]) ?_) ?_
 ·clear h
  intro t H10 vRy q20 h
  refine y19 #[vu t] H10 vRy (by kernel_rfl) q20 (λw1x=>?_)
  refine T_su [(2,vp (pa b)),(3,vp (pa i)),(4,vp (pa a)),(5,vp (pa d)),(16,u),(17,vu t)]<| T_rz 3<| T_nd 1 [16,17] [(6,vu t)]<| zq ?_
  obtain⟨q22,h⟩:=h
  refine aB<| kS r16 q22 ?_
  intro ah e21
  replace h:=h ah e21
  refine T_bz 1<| ar 4 ?_
  obtain⟨k,q,q23,h⟩:=h
  refine T_lr 19 72 q23 [2]<| T_nd 1 [6] [(20,vu t)]<| T_c (some 21) h ?_;clear h
  rintro ap y ⟨ra,rb,rfl,h⟩
  refine T_pd [19,20] [(21,.tuple #[vu ra,vu rb])]<| T_ed 5 [21] [(7,vu ra),(8,vu rb)]<| ar 5<| T_nd 1 [8] [(24,vu rb)] ?_
  obtain⟨s,q24,h⟩:=h
  refine T_l1 25 31 q24 [3]<| T_ed 1 [24,25] [(26,.bool (rb==s))] ?_
  by_cases c25:rb=s
  ·rw[if_pos c25]at h
   refine aH 26 (zK c25)<| ar 6<| T_nd 1 [7,26] [(27,vu ra)] ?_
   obtain⟨q28,h⟩:=h
   refine dV 31 (vu ra) q28 ?_
   intro ab e27
   replace h:=h ab e27
   refine T_pd [4,27] [] ?_
   obtain⟨q30,h⟩:=h
   refine dV 4 (.bool true) q30 ?_
   intro ae e29
   replace h:=h ae e29
   refine⟨[],pk,?_⟩
   refine T_e<| zx ?_
   show At _ _ _ _ _ (roundPost _ _ _ .ret)
   obtain⟨q31,h⟩:=h
   exact rp r16 q31 h
  rw[if_neg c25]at h
  refine aI 26 (zJ c25)<| T_k<| aC ?_
  obtain⟨q32,h⟩:=h
  exact jx r16 q32 h
 clear h y19
 rintro _ ac (⟨q33,h⟩ | ⟨q33,h⟩)
 ·refine .inl ⟨q33,λn e42=>?_⟩
  replace h:=h n e42
  refine jl (H8.size::[]) rfl ?_
  refine T_su [(4,vp (pa a)),(5,vp (pa d))]<| aC<| aB<| ar 7 ?_
  obtain⟨q35,h⟩:=h
  refine dV 31 (vu 0) q35 ?_
  intro aa e34
  replace h:=h aa e34
  refine T_pd [] [] ?_
  obtain⟨q37,h⟩:=h
  refine dV 4 (.bool false) q37 ?_
  intro ak e36
  replace h:=h ak e36
  refine T_pd [] []<| T_e<| zx ?_
  show At _ _ _ _ _ (Q .ret)
  refine iQ (fn:=Tryz.f31) (H8.size::[]) hQ (Shut.mono (λai h=>?_) h)
  obtain⟨r,q38,al,q39,h⟩:=h
  exact⟨[vu r,.bool al],(show cF _ _ _ [.cell 4 31,.cell 5 4] _ from .cell (by kernel_rfl) (fh (λ_=>by kernel_rfl) q38) (.cell (by kernel_rfl) (fh (λ_=>by kernel_rfl) q39) (.nil))),h⟩
 refine .inr ⟨_,q33,λn e42=>?_⟩
 replace h:=h n e42
 refine jl (H8.size::[]) rfl ?_
 refine T_su [(4,vp (pa a)),(5,vp (pa d))]<| pW rfl ?_
 show At _ _ _ _ _ (Q .ret)
 refine iQ (fn:=Tryz.f31) (H8.size::[]) hQ (Shut.mono (λan h=>?_) h)
 obtain⟨aj,q40,am,q41,h⟩:=h
 exact⟨[vu aj,.bool am],(show cF _ _ _ [.cell 4 31,.cell 5 4] _ from .cell (by kernel_rfl) (fh (λ_=>by kernel_rfl) q40) (.cell (by kernel_rfl) (fh (λ_=>by kernel_rfl) q41) (.nil))),h⟩
end cL

/-! moraine/eqtab.index -/
namespace eD
def K0:=Func.code Tryz.f33
end eD
def eD.pt(a:Int)(H:zV)(R:zk):Prop:=
 R (.int .i64 (zY (Int.tmod (ishr .u64 a 3) 31))) H
namespace eD
theorem link{a:Int}{H:zV}{R:zk}(h:pt a H R):C a H R:=by
 refine T_en K0 7 Tryz.func33 ?_
 intro w0 Q hQ
 unfold pt zY at h
 exact T_su [(0,vu a)]<| ar 0<| T_ed 1 [] []<| ar 1<| T_nr 5 [2] [vi (zY (Int.tmod (ishr .u64 a 3) 31))] hQ h
end eD

/-! (moraine/eqtab.table).get -/
namespace bH
def K0:=Func.code Tryz.f34
end bH
def bH.pt(a:zW)(tw i:Int)(H:zV)(R:zk):Prop:=
 ∀(b:Nat) (H1:zV),b=H.size->H1=H.push (.cells #[.pointer a,.int .u64 tw] 72)->
 ∃x:zW,hat H1 (ad b)=some (.pointer x)/\
 ∃d:Int,hat H1 ((ad b).add 1)=some (.int .u64 d)/\
 ei.C x d 11 i H1 (λv H2=> ∃ra rb:Int,v=.tuple #[.int .u64 ra,.int .i64 rb]/\
 R (.int .u64 ra) H2)
namespace bH
theorem link{a:zW}{tw i:Int}{H:zV}{R:zk}(h:pt a tw i H R):C a tw i H R:=by
 refine T_en K0 17 Tryz.func34 ?_
 intro w0 Q hQ
 unfold pt at h
 refine T_su [(0,.agg #[vp a,vu tw]),(1,vi i)]<| ar 0<| T_nw (some 2) (λb=>vp (pa b)) (.cells #[vp a,vu tw] 72) ?_
 intro b H1 e1 e2
 replace h:=h b H1 e1 e2
 refine T_pd [0] [(2,vp (pa b))]<| T_ed 1 [] []<| ar 1<| T_nd 1 [] [(8,vp (pa b))] ?_
 obtain⟨x,q3,h⟩:=h
 refine T_l1 9 34 q3 [8]<| T_nd 1 [2] [(10,vp (some ((ad b).add 1)))] ?_
 obtain⟨d,q4,h⟩:=h
 refine T_l1 11 31 q4 [10]<| T_nd 1 [1] [(12,vi i)]<| T_c (some 13) h ?_;clear h
 rintro v H2 ⟨ra,rb,rfl,h⟩
 refine⟨[(13,.tuple #[vu ra,vi rb])],pk,?_⟩
 exact T_ne 5 [(5,vu ra)]<| ar 2<| T_nr 2 [4] [vu ra] hQ h
end bH

/-! (moraine/eqtab.table).bucket -/
namespace bO
def K0:=Func.code Tryz.f35
def K2:=cb K0
def K3:=ca K2
end bO
def bO.pt(d:zW)(tw i:Int)(H:zV)(R:zk):Prop:=
 ∀(b:Nat) (H1:zV),b=H.size->H1=H.push (.cells #[.pointer d,.int .u64 tw] 72)->
 ∃x:zW,hat H1 (ad b)=some (.pointer x)/\
 ∃(a:zW) (xw:Int),aL H1 (ad b) 0 [.pointer a,.int .u64 xw]/\
 bH.C a xw 2 H1 (λv H2=> ∃f:Int,v=.int .u64 f/\aL H2 (ad b) 0 [.pointer x]/\
 ei.C x f 1 i H2 (λg H3=> ∃ra rb:Int,g=.tuple #[.int .u64 ra,.int .i64 rb]/\
 R (.int .u64 ra) H3))
namespace bO
theorem link{d:zW}{tw i:Int}{H:zV}{R:zk}(h:pt d tw i H R):C d tw i H R:=by
 refine T_en K0 17 Tryz.func35 ?_
 intro w0 Q hQ
 unfold pt at h
 refine T_su [(0,.agg #[vp d,vu tw]),(1,vi i)]<| ar 0<| T_nw (some 2) (λb=>vp (pa b)) (.cells #[vp d,vu tw] 72) ?_
 intro b H1 e1 e2
 replace h:=h b H1 e1 e2
 refine T_pd [0] [(2,vp (pa b))]<| T_ed 1 [] []<| T_sz ?_
 obtain⟨x,q3,a,xw,q4,h⟩:=h
 refine yz 1 (Code.ops K3) [(5,(ad b),[vp x]),(3,(ad b),[vp a,vu xw])] 11 (bv 11 0) (show aE _ _ _ from⟨⟨q3,trivial⟩,q4,trivial⟩)<| T_gp 0 (some 8) (vp (pa b)) (bv 11 1) [(1,vi i),(2,vp (pa b)),(8,vp (pa b))]<| T_g1 1 9 (vp x) (bv 11 3) [8] (aM 34 (vp (pa b))) (yx 5 yZ)<| T_g1 2 10 (.agg #[vp a,vu xw]) (bv 11 7) [2] (aM 72 (vp (pa b))) (dU 3 (λ_=>by kernel_rfl) (λ_=>by kernel_rfl) yX (.inl (by kernel_rfl)))<| aD 4 12 (vi i) (bv 11 23) [1]<| yj 3 (some 11) (bv 11 31) 34 #[.agg #[vp a,vu xw],vi 2] h ?_;clear h
 rintro v H2 ⟨f,rfl,f5,h⟩
 refine⟨[(9,vp x),(11,vu f),(12,vi i)],pk,(show aE _ _ _ from⟨f5,trivial,trivial⟩),?_⟩
 refine yj 5 (some 13) (bv 11 63) 62 #[vp x,vu f,vi 1,vi i] h ?_;clear h
 rintro g H3 ⟨ra,rb,rfl,h⟩
 refine⟨[(13,.tuple #[vu ra,vi rb])],pk,(show aE _ _ _ from⟨trivial,trivial,trivial⟩),?_⟩
 exact T_g 6 (some 7) (.tuple #[vu ra,vi rb]) (bv 11 127) [(7,.tuple #[vu ra,vi rb])] (pure (.value (.tuple #[vu ra,vi rb])):Sem Next) (λ_ _ _ _ _=>rfl)<| T_g1 7 14 (vu ra) (bv 11 255) [] (pure (.value (vu ra)):Sem Next) (λ_ _ _ _ _=>rfl)<| T_g1 8 15 (vi rb) (bv 11 511) [7] (pure (.value (vi rb)):Sem Next) (λ_ _ _ _ _=>rfl)<| T_g1 9 5 (vu ra) (bv 11 1023) [14] (pure (.value (vu ra)):Sem Next) (λ_ _ _ _ _=>rfl)<| T_gd 10 (some 6) (vi rb) (bv 11 2047) [15] [] (pure (.value (vi rb)):Sem Next) (λ_ _ _ _ _=>rfl)<| dp [(5,vu ra)] sk<| yv<| aB<| ar 2<| T_nr 2 [4] [vu ra] hQ h
end bO

/-! (moraine/eqtab.table).set -/
namespace cx
def K0:=Func.code Tryz.f37
end cx
def cx.pt(a:zW)(tw i v:Int)(H:zV)(R:zk):Prop:=
 ∀(b:Nat) (H1:zV),b=H.size->H1=H.push (.cells #[.pointer a,.int .u64 tw] 72)->
 ∃x:zW,hat H1 (ad b)=some (.pointer x)/\
 ∃d:Int,hat H1 ((ad b).add 1)=some (.int .u64 d)/\
 ej.C x d 11 i v H1 (λg H2=> ∃f:Int,g=.int .i64 f/\
 R (.tuple #[]) H2)
namespace cx
theorem link{a:zW}{tw i v:Int}{H:zV}{R:zk}(h:pt a tw i v H R):C a tw i v H R:=by
 refine T_en K0 13 Tryz.func37 ?_
 intro w0 Q hQ
 unfold pt at h
 refine T_su [(0,.agg #[vp a,vu tw]),(1,vi i),(2,vu v)]<| ar 0<| T_nw (some 3) (λb=>vp (pa b)) (.cells #[vp a,vu tw] 72) ?_
 intro b H1 e1 e2
 replace h:=h b H1 e1 e2
 refine T_pd [0] [(3,vp (pa b))]<| T_e<| T_rz 1<| T_nd 1 [] [(6,vp (pa b))] ?_
 obtain⟨x,q3,h⟩:=h
 refine T_l1 7 34 q3 [6]<| T_nd 1 [3] [(8,vp (some ((ad b).add 1)))] ?_
 obtain⟨d,q4,h⟩:=h
 refine T_l1 9 31 q4 [8]<| T_nd 2 [1,2] [(10,vi i),(11,vu v)]<| T_c (some 12) h ?_;clear h
 rintro g H2 ⟨f,rfl,h⟩
 refine⟨[],pk,?_⟩
 exact zq<| fp (fn:=Tryz.f37) [] hQ (show cF _ _ _ [] _ from .nil) h
end cx

/-! moraine/eqtab.fix -/
namespace fH
def K0:=Func.code Tryz.f38
end fH
def fH.pt(nv:Int)(H:zV)(R:zk):Prop:=
 iq.C nv H (λv H1=> ∃ra rb:Int,v=.tuple #[.int .u64 ra,.int .i64 rb]/\
 R (.int .u64 ra) H1)
namespace fH
theorem link{nv:Int}{H:zV}{R:zk}(h:pt nv H R):C nv H R:=by
 refine T_en K0 11 Tryz.func38 ?_
 intro w0 Q hQ
 unfold pt at h
 refine T_su [(0,vi nv)]<| ar 0<| T_ed 1 [] []<| ar 1<| T_n 1 [(6,vi nv)]<| T_c (some 7) h ?_;clear h
 rintro v H1 ⟨ra,rb,rfl,h⟩
 refine⟨[(7,.tuple #[vu ra,vi rb])],pk,?_⟩
 exact T_ne 5 [(3,vu ra)]<| ar 2<| T_nr 2 [2] [vu ra] hQ h
end fH

/-! (moraine/eqtab.table).setBucket -/
namespace bE
def K0:=Func.code Tryz.f39
def K2:=cb K0
end bE
def bE.pt(d:zW)(tw i l:Int)(H:zV)(R:zk):Prop:=
 ∀(b:Nat) (H1:zV),b=H.size->H1=H.push (.cells #[.pointer d,.int .u64 tw] 72)->
 ∃x:zW,hat H1 (ad b)=some (.pointer x)/\
 ∃(a:zW) (xw:Int),aL H1 (ad b) 0 [.pointer a,.int .u64 xw]/\
 bH.C a xw 2 H1 (λv H2=> ∃f:Int,v=.int .u64 f/\aL H2 (ad b) 0 [.pointer x]/\
 ej.C x f 1 i l H2 (λj H3=> ∃g:Int,j=.int .i64 g/\
 R (.tuple #[]) H3))
namespace bE
theorem link{d:zW}{tw i l:Int}{H:zV}{R:zk}(h:pt d tw i l H R):C d tw i l H R:=by
 refine T_en K0 13 Tryz.func39 ?_
 intro w0 Q hQ
 unfold pt at h
 refine T_su [(0,.agg #[vp d,vu tw]),(1,vi i),(2,vu l)]<| ar 0<| T_nw (some 3) (λb=>vp (pa b)) (.cells #[vp d,vu tw] 72) ?_
 intro b H1 e1 e2
 replace h:=h b H1 e1 e2
 refine T_pd [0] [(3,vp (pa b))]<| T_e ?_
 obtain⟨x,q3,a,xw,q4,h⟩:=h
 refine yz 1 (Code.ops K2) [(6,(ad b),[vp x]),(3,(ad b),[vp a,vu xw])] 7 (bv 7 0) (show aE _ _ _ from⟨⟨q3,trivial⟩,q4,trivial⟩)<| T_gp 0 (some 6) (vp (pa b)) (bv 7 1) [(1,vi i),(2,vu l),(3,vp (pa b)),(6,vp (pa b))]<| T_g1 1 7 (vp x) (bv 7 3) [6] (aM 34 (vp (pa b))) (yx 6 yZ)<| T_g1 2 8 (.agg #[vp a,vu xw]) (bv 7 7) [3] (aM 72 (vp (pa b))) (dU 3 (λ_=>by kernel_rfl) (λ_=>by kernel_rfl) yX (.inl (by kernel_rfl)))<| aD 4 10 (vi i) (bv 7 23) [1]<| aD 5 11 (vu l) (bv 7 55) [2]<| yj 3 (some 9) (bv 7 63) 34 #[.agg #[vp a,vu xw],vi 2] h ?_;clear h
 rintro v H2 ⟨f,rfl,f5,h⟩
 refine⟨[(7,vp x),(9,vu f),(10,vi i),(11,vu l)],pk,(show aE _ _ _ from⟨f5,trivial,trivial⟩),?_⟩
 refine yj 6 (some 12) (bv 7 127) 64 #[vp x,vu f,vi 1,vi i,vu l] h ?_;clear h
 rintro j H3 ⟨g,rfl,h⟩
 refine⟨[],pk,(show aE _ _ _ from⟨trivial,trivial,trivial⟩),?_⟩
 refine dp [] sk ?_
 exact yv<| fp (fn:=Tryz.f39) [] hQ (show cF _ _ _ [] _ from .nil) h
end bE

/-! (moraine/eqtab.table).without -/
namespace bZ
def K0:=Func.code Tryz.f42
def K2:=cb K0
def K4:=cb K2
def K5:=ca K4
def K8:=cb K5
def K9:=ca K8
def K10:=ca K9
def K11:=cb K9
end bZ
def bZ.pt(p:zW)(tw l o:Int)(H:zV)(R:zk):Prop:=
 ∀(b:Nat) (H1:zV),b=H.size->H1=H.push (.cells #[.pointer p,.int .u64 tw] 72)->
 ∀(j:Nat) (H2:zV),j=H1.size->H2=H1.push (.cells #[.int .u64 o] 31)->
 ∀(a:Nat) (H3:zV),a=H2.size->H3=H2.push (.cells #[.int .u64 0] 31)->
 ∀(d:Nat) (H4:zV),d=H3.size->H4=H3.push (.cells #[.int .u64 0] 31)->
 ∃(n:zW) (xw:Int),aL H4 (ad b) 0 [.pointer n,.int .u64 xw]/\
 bX.C n xw l H4 (λv H5=>v=v/\
 ∀(rc:LoopState->Option Code->Obj) (lp:Nat) (H6:zV),lp=H5.size+1->H6=(H5.push (.deferred (some []))).push (rc .ready none)->
 ∀vY:Value,(∀(f:Int) (H7:zV) (vRy:zk),H7[lp]?=some (rc .ready none)->
 (H7[lp]?=some (rc .ready none)/\ ∀H8:zV,H8=aV H7 lp (rc .busy none)->
 ∃ab:zW,hat H8 (ad b)=some (.pointer ab)/\
 dd.C ab f H8 (λav H9=> ∃ra rb:Int,av=.tuple #[.int .u64 ra,.int .i64 rb]/\
 ∃s:Int,hat H9 (ad j)=some (.int .u64 s)/\
 if ra=s then(
 ∃aa:zW,hat H9 (ad b)=some (.pointer aa)/\
 dE.C aa f H9 (λap al=> ∃i af:Int,ap=.tuple #[.int .u64 i,.int .i64 af]/\
 ∃(m:zW) (q:Int),aL al (ad b) 0 [.pointer m,.int .u64 q]/\
 cM.C m q f al (λ_ x=>
 ∃t:Int,hat x (ad d)=some (.int .u64 t)/\
 if t=0 then(
 (aJ x (ad a) 0 1)/\ ∀ae,ae=aP x (ad a) [.int .u64 i] 0->
 ae[lp]?=some (rc .busy none)/\
 vRy (.bool false) (aV ae lp (rc .done (some .ret))))
 else
 ∃u:zW,hat x (ad b)=some (.pointer u)/\
 ∃z:Int,hat x (ad d)=some (.int .u64 z)/\
 cv.C u z i x (λaq ao=> ∃au:Int,aq=.int .i64 au/\
 ao[lp]?=some (rc .busy none)/\
 vRy (.bool false) (aV ao lp (rc .done (some (.exit 0))))))))
 else
 (aJ H9 (ad d) 0 1)/\ ∀ac,ac=aP H9 (ad d) [.int .u64 f] 0->
 ac[lp]?=some (rc .busy none)/\
 vRy (.bool true) (aV ac lp (rc .ready none))))->
 FC Tryz.prog vY #[.int .u64 f] H7 vRy)->
 FE Tryz.prog v #[vY] H6 (λ_ y=>
 (y[lp]?=some (rc .ready none)/\ ∀k:zV,k=aV y lp (rc .exhausted none)->
 (aJ k (ad a) 0 1)/\ ∀ah,ah=aP k (ad a) [.int .u64 l] 0->
 Shut (H5.size::[]) ah (λam=>
 ∃r:Int,hat am (ad a)=some (.int .u64 r)/\
 R (.int .u64 r) am))\/
 (y[lp]?=some (rc .done (some .ret))/\ ∀k:zV,k=aV y lp (rc .exhausted (some .ret))->
 Shut (H5.size::[]) k (λak=>
 ∃ai:Int,hat ak (ad a)=some (.int .u64 ai)/\
 R (.int .u64 ai) ak))\/
 (y[lp]?=some (rc .done (some (.exit 0)))/\ ∀k:zV,k=aV y lp (rc .exhausted (some (.exit 0)))->
 (aJ k (ad a) 0 1)/\ ∀aj,aj=aP k (ad a) [.int .u64 l] 0->
 Shut (H5.size::[]) aj (λan=>
 ∃ag:Int,hat an (ad a)=some (.int .u64 ag)/\
 R (.int .u64 ag) an))))
namespace bZ
theorem link{p:zW}{tw l o:Int}{H:zV}{R:zk}(h:pt p tw l o H R):C p tw l o H R:=by
 refine T_en K0 47 Tryz.func42 ?_
 intro w0 Q hQ
 unfold pt at h
 refine T_su [(0,.agg #[vp p,vu tw]),(1,vu l),(2,vu o)]<| ar 0<| T_nw (some 3) (λb=>vp (pa b)) (.cells #[vp p,vu tw] 72) ?_
 intro b H1 e1 e2
 replace h:=h b H1 e1 e2
 refine T_pd [0] [(3,vp (pa b))]<| T_nw (some 5) (λb=>vp (pa b)) (.cells #[vu o] 31) ?_
 intro j H2 e3 e4
 replace h:=h j H2 e3 e4
 refine T_pd [2] [(5,vp (pa j))]<| T_nw (some 6) (λb=>vp (pa b)) (.cells #[vu 0] 31) ?_
 intro a H3 e5 e6
 replace h:=h a H3 e5 e6
 refine T_pd [] [(6,vp (pa a))]<| T_e<| ar 1<| T_nw (some 7) (λb=>vp (pa b)) (.cells #[vu 0] 31) ?_
 intro d H4 e7 e8
 replace h:=h d H4 e7 e8
 refine T_pd [] [(7,vp (pa d))]<| T_e<| T_sz<| ar 2 ?_
 obtain⟨n,xw,q9,h⟩:=h
 refine T_lr 13 72 q9 []<| T_nd 1 [] [(14,vu l)]<| T_c (some 15) h ?_;clear h
 rintro v H5 ⟨-,h⟩
 refine T_pd [13,14] [(15,v)]<| T_e<| T_bz 0<| kU (g:=.tmp 15) (ps:= #[16]) (assign:=K10) (body:=K11) (v) (by kernel_rfl) (by kernel_rfl) (by kernel_rfl) ?_
 intro rc lp H6 r10 e11 e12 y13
 refine FE.mono (h rc lp H6 e11 e12 (.func (.yield lp) #[] #[]) ?_) ?_
 ·clear h
  intro f H7 vRy q14 h
  refine y13 #[vu f] H7 vRy (by kernel_rfl) q14 (λw1x=>?_)
  refine T_sd [] [(16,vu f)]<| T_rz 3<| T_nd 1 [1,15,16] [(8,vu f)]<| zq ?_
  obtain⟨q16,h⟩:=h
  refine aB<| kS r10 q16 ?_
  intro H8 e15
  replace h:=h H8 e15
  refine T_bz 1<| ar 4<| T_nd 1 [] [(18,vp (pa b))] ?_
  obtain⟨ab,q17,h⟩:=h
  refine T_l1 19 34 q17 [18]<| T_nd 1 [] [(20,vu f)]<| T_c (some 21) h ?_;clear h
  rintro av H9 ⟨ra,rb,rfl,h⟩
  refine T_pd [19,20] [(21,.tuple #[vu ra,vi rb])]<| T_ed 5 [21] [(9,vu ra)]<| T_sz<| ar 5<| T_nd 1 [9] [(24,vu ra)] ?_
  obtain⟨s,q18,h⟩:=h
  refine T_l1 25 31 q18 [5]<| T_ed 1 [24,25] [(26,.bool (ra !=s))] ?_
  by_cases c19:ra=s
  ·rw[if_pos c19]at h
   refine aI 26 (bne_eq_false_iff_eq.mpr c19)<| T_kt<| ar 7<| T_nd 1 [26] [(29,vp (pa b))] ?_
   obtain⟨aa,q21,h⟩:=h
   refine T_l1 30 34 q21 [29]<| T_nd 1 [] [(31,vu f)]<| T_c (some 32) h ?_;clear h
   rintro ap al ⟨i,af,rfl,h⟩
   refine T_pd [30,31] [(32,.tuple #[vu i,vi af])]<| T_ed 5 [32] [(11,vu i)]<| ar 8 ?_
   obtain⟨m,q,q22,h⟩:=h
   refine T_lr 35 72 q22 []<| T_nd 1 [8] [(36,vu f)]<| T_c (some 37) h ?_;clear h
   intro v_4 x h
   refine T_pd [35,36] []<| T_e<| T_sz<| ar 9 ?_
   obtain⟨t,q23,h⟩:=h
   refine T_l1 38 31 q23 []<| T_ed 1 [38] [(39,.bool (t==0))] ?_
   by_cases c24:t=0
   ·rw[if_pos c24]at h
    refine aH 39 (zK c24)<| ar 10<| T_n 1 [(6,vp (pa a)),(40,vu i)] ?_
    obtain⟨q27,h⟩:=h
    refine dV 31 (vu i) q27 ?_
    intro ae e26
    replace h:=h ae e26
    refine⟨[],pk,?_⟩
    refine T_e<| zx ?_
    show At _ _ _ _ _ (roundPost _ _ _ .ret)
    obtain⟨q28,h⟩:=h
    exact rp r10 q28 h
   rw[if_neg c24]at h
   refine aI 39 (zJ c24)<| T_kt<| ar 11<| T_nd 1 [3,6,39] [(41,vp (pa b))] ?_
   obtain⟨u,q29,h⟩:=h
   refine T_l1 42 34 q29 [41] ?_
   obtain⟨z,q30,h⟩:=h
   refine T_l1 43 31 q30 [7]<| T_nd 1 [11] [(44,vu i)]<| T_c (some 45) h ?_;clear h
   rintro aq ao ⟨au,rfl,h⟩
   refine⟨[],pk,?_⟩
   refine T_e<| zj 0<| zz ?_
   obtain⟨q31,h⟩:=h
   exact sv r10 q31 h
  rw[if_neg c19]at h
  refine aH 26 (bne_iff_ne.mpr c19)<| ar 6<| T_n 1 [(7,vp (pa d)),(27,vu f)] ?_
  obtain⟨q33,h⟩:=h
  refine dV 31 (vu f) q33 ?_
  intro ac e32
  replace h:=h ac e32
  refine⟨[],pk,?_⟩
  refine T_e<| zj 1<| aA<| aN ?_
  obtain⟨q34,h⟩:=h
  exact jx r10 q34 h
 clear h y13
 rintro _ y (⟨q35,h⟩ | ⟨q35,h⟩ | ⟨q35,h⟩)
 ·refine .inl ⟨q35,λk e43=>?_⟩
  replace h:=h k e43
  refine jl (H5.size::[]) rfl ?_
  refine T_sd [3,5,7,15] []<| aC<| aB<| ar 12<| T_nd 1 [1] [(46,vu l)] ?_
  obtain⟨q37,h⟩:=h
  refine dV 31 (vu l) q37 ?_
  intro ah e36
  replace h:=h ah e36
  refine T_pd [46] []<| T_e<| zx ?_
  show At _ _ _ _ _ (Q .ret)
  refine iQ (fn:=Tryz.f42) (H5.size::[]) hQ (Shut.mono (λam h=>?_) h)
  obtain⟨r,q38,h⟩:=h
  exact⟨[vu r],(show cF _ _ _ [.cell 6 31] _ from .cell (by kernel_rfl) (fh (λ_=>by kernel_rfl) q38) (.nil)),h⟩
 ·refine .inr ⟨_,q35,λk e43=>?_⟩
  replace h:=h k e43
  refine jl (H5.size::[]) rfl ?_
  refine T_sd [3,5,7,15] []<| pW rfl ?_
  show At _ _ _ _ _ (Q .ret)
  refine iQ (fn:=Tryz.f42) (H5.size::[]) hQ (Shut.mono (λak h=>?_) h)
  obtain⟨ai,q39,h⟩:=h
  exact⟨[vu ai],(show cF _ _ _ [.cell 6 31] _ from .cell (by kernel_rfl) (fh (λ_=>by kernel_rfl) q39) (.nil)),h⟩
 refine .inr ⟨_,q35,λk e43=>?_⟩
 replace h:=h k e43
 refine jl (H5.size::[]) rfl ?_
 refine T_sd [3,5,7,15] []<| qW 0 rfl<| aN<| aB<| ar 12<| T_nd 1 [1] [(46,vu l)] ?_
 obtain⟨q41,h⟩:=h
 refine dV 31 (vu l) q41 ?_
 intro aj e40
 replace h:=h aj e40
 refine T_pd [46] []<| T_e<| zx ?_
 show At _ _ _ _ _ (Q .ret)
 refine iQ (fn:=Tryz.f42) (H5.size::[]) hQ (Shut.mono (λan h=>?_) h)
 obtain⟨ag,q42,h⟩:=h
 exact⟨[vu ag],(show cF _ _ _ [.cell 6 31] _ from .cell (by kernel_rfl) (fh (λ_=>by kernel_rfl) q42) (.nil)),h⟩
end bZ

/-! (moraine/eqtab.table).clear -/
namespace cM
def K0:=Func.code Tryz.f43
end cM
def cM.pt(a:zW)(tw p:Int)(H:zV)(R:zk):Prop:=
 ∀(b:Nat) (H1:zV),b=H.size->H1=H.push (.cells #[.pointer a,.int .u64 tw] 72)->
 ∃x:zW,hat H1 (ad b)=some (.pointer x)/\
 dx.C x p 20 H1 (λv H2=> ∃g:Int,v=.int .i64 g/\
 ∃d:zW,hat H2 (ad b)=some (.pointer d)/\
 cv.C d p 20 H2 (λi H3=> ∃f:Int,i=.int .i64 f/\
 R (.tuple #[]) H3))
namespace cM
theorem link{a:zW}{tw p:Int}{H:zV}{R:zk}(h:pt a tw p H R):C a tw p H R:=by
 refine T_en K0 12 Tryz.func43 ?_
 intro w0 Q hQ
 unfold pt at h
 refine T_su [(0,.agg #[vp a,vu tw]),(1,vu p)]<| ar 0<| T_nw (some 2) (λb=>vp (pa b)) (.cells #[vp a,vu tw] 72) ?_
 intro b H1 e1 e2
 replace h:=h b H1 e1 e2
 refine T_pd [0] [(2,vp (pa b))]<| T_e<| ar 1<| T_nd 1 [] [(4,vp (pa b))] ?_
 obtain⟨x,q3,h⟩:=h
 refine T_l1 5 34 q3 [4]<| T_nd 1 [] [(6,vu p)]<| T_c (some 7) h ?_;clear h
 rintro v H2 ⟨g,rfl,h⟩
 refine T_pd [5,6] []<| T_e<| T_rz 2<| T_nd 1 [2] [(8,vp (pa b))] ?_
 obtain⟨d,q4,h⟩:=h
 refine T_l1 9 34 q4 [8]<| T_nd 1 [1] [(10,vu p)]<| T_c (some 11) h ?_;clear h
 rintro i H3 ⟨f,rfl,h⟩
 refine⟨[],pk,?_⟩
 exact zq<| fp (fn:=Tryz.f43) [] hQ (show cF _ _ _ [] _ from .nil) h
end cM

/-! moraine/eqtab.told -/
namespace fX
def K0:=Func.code Tryz.f44
def K2:=cb K0
def K4:=cb K2
def K6:=cb K4
def K12:=cb K6
def K13:=ca K12
def K15:=ca K13
def K16:=cb K13
def K17:=ca K16
def K18:=ca K17
def K19:=cb K17
end fX
def fX.pt(hv:zW)(tv:Int)(z:Value)(H:zV)(R:zk):Prop:=
 ∃(l:FuncId) (tellsC:Array Value),z=.func (.func l) #[] tellsC/\
 ∀(b:Nat) (H1:zV),b=H.size->H1=H.push (.cells #[.pointer hv] 34)->
 ∀(d:Nat) (H2:zV),d=H1.size->H2=H1.push (.cells #[(.func (.func l) #[] tellsC)] 88)->
 ∃x:zW,hat H2 (ad b)=some (.pointer x)/\
 eK.C x tv H2 (λv H3=> ∃(i:zW) (r rb:Int),v=.tuple #[.agg #[.pointer i,.int .u64 r],.int .i64 rb]/\
 ∀(f:Nat) (H4:zV),f=H3.size->H4=H3.push (.cells #[.pointer none,.int .u64 0] 72)->
 (aJ H4 (ad f) 0 2)/\ ∀H5,H5=aP H4 (ad f) [.pointer i,.int .u64 r] 0->
 if rb=0 then(
 ∀(a:Nat) (H6:zV),a=H5.size->H6=H5.push (.cells #[.slice none 0 0] 54)->
 ∃(k:zW) (xw:Int),aL H6 (ad f) 0 [.pointer k,.int .u64 xw]/\
 ∃(j:zW) (o:Int),aL H6 (ad f) 0 [.pointer j,.int .u64 o]/\
 bH.C j o 1 H6 (λav H7=> ∃af:Int,av=.int .u64 af/\aL H7 (ad f) 0 [.pointer k,.int .u64 xw]/\
 bX.C k xw af H7 (λy H8=>y=y/\
 ∀(rc:LoopState->Option Code->Obj) (lp:Nat) (H9:zV),lp=H8.size+1->H9=(H8.push (.deferred (some []))).push (rc .ready none)->
 ∀vY:Value,(∀(q:Int) (H10:zV) (vRy:zk),H10[lp]?=some (rc .ready none)->
 (H10[lp]?=some (rc .ready none)/\ ∀ai:zV,ai=aV H10 lp (rc .busy none)->
 ∃ab:zW,hat ai (ad b)=some (.pointer ab)/\
 dd.C ab q ai (λaq an=> ∃ra aj:Int,aq=.tuple #[.int .u64 ra,.int .i64 aj]/\
 ∃aa:Value,hat an (ad d)=some (aa)/\
 FC Tryz.prog aa #[.int .u64 ra] an (λau al=> ∃xa xb:Int,au=.tuple #[.int .u64 xa,.int .i64 xb]/\
 ∃(xB:zW) (xN xC:Nat),hat al (ad a)=some (.slice xB xN xC)/\
 ∀(ac:Nat) (H14:zV),ac=al.size->H14=al.push (.cells #[.int .u64 xa] 31)->
 fN 1 31 8 [.int .u64 0] xB xN xC (some (ad ac)) 1 H14 (λap ae ak=>
 (aJ ak (ad a) 0 1)/\ ∀ah,ah=aP ak (ad a) [.slice ap (xN+1) ae] 0->
 ah[lp]?=some (rc .busy none)/\
 vRy (.bool true) (aV ah lp (rc .ready none))))))->
 FC Tryz.prog vY #[.int .u64 q] H10 vRy)->
 FE Tryz.prog y #[vY] H9 (λ_ ao=>
 (ao[lp]?=some (rc .ready none)/\ ∀ag:zV,ag=aV ao lp (rc .exhausted none)->
 ∃(t:zW) (u s:Nat),hat ag (ad a)=some (.slice t u s)/\
 aX.C t u s ag (λ_ am=>
 ∃(n:zW) (p m:Nat),hat am (ad a)=some (.slice n p m)/\
 Shut (H8.size::[]) am (λaw=>
 R (.tuple #[.slice n p m,.int .i64 0]) aw)))))))
 else
 R (.tuple #[.slice none 0 0,.int .i64 rb]) H5)
namespace fX
theorem link{hv:zW}{tv:Int}{z:Value}{H:zV}{R:zk}(h:pt hv tv z H R):C hv tv z H R:=by
 refine T_en K0 49 Tryz.func44 ?_
 intro w0 Q hQ
 unfold pt at h
 obtain⟨l,tellsC,rfl,h⟩:=h
 refine T_su [(0,vp hv),(1,vu tv),(2,(.func (.func l) #[] tellsC))]<| ar 0<| T_nw (some 3) (λb=>vp (pa b)) (.cells #[vp hv] 34) ?_
 intro b H1 e1 e2
 replace h:=h b H1 e1 e2
 refine T_pd [0] [(3,vp (pa b))]<| T_nw (some 5) (λb=>vp (pa b)) (.cells #[(.func (.func l) #[] tellsC)] 88) ?_
 intro d H2 e3 e4
 replace h:=h d H2 e3 e4
 refine⟨[(1,vu tv),(3,vp (pa b)),(5,vp (pa d))],pk,?_⟩
 refine T_ed 2 [] []<| ar 1 ?_
 obtain⟨x,q5,h⟩:=h
 refine T_l1 17 34 q5 []<| T_nd 1 [1] [(18,vu tv)]<| T_c (some 19) h ?_;clear h
 rintro v H3 ⟨i,r,rb,rfl,h⟩
 refine T_pd [17,18] [(19,.tuple #[.agg #[vp i,vu r],vi rb])]<| T_nd 3 [19] [(20,.agg #[vp i,vu r]),(21,vi rb)]<| T_nw (some 8) (λb=>vp (pa b)) (.cells #[vp none,vu 0] 72) ?_
 intro f H4 e6 e7
 replace h:=h f H4 e6 e7
 refine T_pd [] [(8,vp (pa f))] ?_
 obtain⟨q9,h⟩:=h
 refine fm 72 [vp i,vu r] q9 ?_
 intro H5 e8
 replace h:=h H5 e8
 refine T_pd [20] []<| T_ed 1 [21] [(9,vi rb)]<| T_sz<| ar 2<| T_ed 2 [] [(23,.bool (rb !=0))] ?_
 by_cases c10:rb=0
 ·rw[if_pos c10]at h
  refine aI 23 (bne_eq_false_iff_eq.mpr c10)<| T_kt<| ar 4<| T_ud [9,23] []<| T_nw (some 10) (λb=>vp (pa b)) (.cells #[vs none 0 0] 54) ?_
  intro a H6 e12 e13
  replace h:=h a H6 e12 e13
  refine T_pd [] [(10,vp (pa a))]<| T_e<| T_sz<| T_sz ?_
  obtain⟨k,xw,q14,j,o,q15,h⟩:=h
  refine yz 5 (Code.ops K15) [(3,(ad f),[vp k,vu xw]),(2,(ad f),[vp j,vu o])] 4 (bv 4 0) (show aE _ _ _ from⟨q14,q15,trivial⟩)<| T_g 0 (some 25) (.agg #[vp k,vu xw]) (bv 4 1) [(3,vp (pa b)),(5,vp (pa d)),(8,vp (pa f)),(10,vp (pa a)),(25,.agg #[vp k,vu xw])] (aM 72 (vp (pa f))) (dU 3 (λ_=>by kernel_rfl) (λ_=>by kernel_rfl) yZ (.inl (by kernel_rfl)))<| T_g1 1 26 (.agg #[vp j,vu o]) (bv 4 3) [8] (aM 72 (vp (pa f))) (dU 2 (λ_=>by kernel_rfl) (λ_=>by kernel_rfl) yX (.inl (by kernel_rfl)))<| yj 2 (some 27) (bv 4 7) 34 #[.agg #[vp j,vu o],vi 1] h ?_;clear h
  rintro av H7 ⟨af,rfl,f16,h⟩
  refine⟨[(3,vp (pa b)),(5,vp (pa d)),(10,vp (pa a)),(25,.agg #[vp k,vu xw]),(27,vu af)],pk,(show aE _ _ _ from⟨f16,trivial,trivial⟩),?_⟩
  refine yj 3 (some 28) (bv 4 15) 59 #[.agg #[vp k,vu xw],vu af] h ?_;clear h
  rintro y H8 ⟨-,h⟩
  refine⟨[(3,vp (pa b)),(5,vp (pa d)),(10,vp (pa a)),(28,y)],pk,(show aE _ _ _ from⟨trivial,trivial,trivial⟩),?_⟩
  refine dp [(3,vp (pa b)),(5,vp (pa d)),(10,vp (pa a)),(28,y)] sk ?_
  refine yv<| aB<| T_bz 0<| kU (g:=.tmp 28) (ps:= #[29]) (assign:=K18) (body:=K19) (y) (by kernel_rfl) (by kernel_rfl) (by kernel_rfl) ?_
  intro rc lp H9 r17 e18 e19 y20
  refine FE.mono (h rc lp H9 e18 e19 (.func (.yield lp) #[] #[]) ?_) ?_
  ·clear h
   intro q H10 vRy q21 h
   refine y20 #[vu q] H10 vRy (by kernel_rfl) q21 (λw1x=>?_)
   refine T_su [(3,vp (pa b)),(5,vp (pa d)),(10,vp (pa a)),(28,y),(29,vu q)]<| T_rz 6<| T_nd 1 [28,29] [(11,vu q)]<| zq ?_
   obtain⟨q23,h⟩:=h
   refine aB<| kS r17 q23 ?_
   intro ai e22
   replace h:=h ai e22
   refine T_bz 1<| ar 7 ?_
   obtain⟨ab,q24,h⟩:=h
   refine T_l1 31 34 q24 [3]<| T_nd 1 [11] [(32,vu q)]<| T_c (some 33) h ?_;clear h
   rintro aq an ⟨ra,aj,rfl,h⟩
   refine T_pd [31,32] [(33,.tuple #[vu ra,vi aj])]<| T_ed 5 [33] [(12,vu ra)]<| ar 8 ?_
   obtain⟨aa,q25,h⟩:=h
   refine T_l1 37 88 q25 [5]<| T_nd 1 [12] [(38,vu ra)]<| nQ (some 39) aa #[vu ra] (λ_=>by kernel_rfl) h ?_;clear h
   rintro au al ⟨xa,xb,rfl,h⟩
   refine T_pd [37,38] [(39,.tuple #[vu xa,vi xb])]<| T_ed 5 [39] [(14,vu xa)]<| T_rz 9 ?_
   obtain⟨xB,xN,xC,q26,h⟩:=h
   refine T_l1 42 54 q26 []<| T_nd 1 [14] [(43,vu xa)]<| T_nw (some 44) (λb=>vs (pa b) 1 1) (.cells #[vu xa] 31) ?_
   intro ac H14 e27 e28
   replace h:=h ac H14 e27 e28
   refine T_pd [43] [(44,vs (pa ac) 1 1)]<| N_op (some 45) (fq #[54,54] 54 #[vs xB xN xC,vs (pa ac) 1 1]) _ (λ_=>by kernel_rfl) (eJ (T:=31) (sz:=1) (bytes:=8) (zero:=(vu 0:Value)) Tryz.underlying54 Tryz.underlying54 rfl (show Tryz.prog.info? 31=some Tryz.t31 from by kernel_rfl) (by kernel_rfl) (by kernel_rfl) (by decide) (by kernel_rfl) (by first | exact h | (simpa only[Value.cells,List.toList_toArray]using h))) ?_;clear h
   rintro _ ak ⟨ap,ae,rfl,h⟩
   refine T_pd [42,44] [(45,vs ap (xN+1) ae)] ?_
   obtain⟨q30,h⟩:=h
   refine dV 54 (vs ap (xN+1) ae) q30 ?_
   intro ah e29
   replace h:=h ah e29
   refine⟨[],pk,?_⟩
   refine zq<| aC ?_
   obtain⟨q31,h⟩:=h
   exact jx r17 q31 h
  clear h y20
  rintro _ ao (⟨q32,h⟩)
  refine .inl ⟨q32,λag e35=>?_⟩
  replace h:=h ag e35
  refine jl (H8.size::[]) rfl ?_
  refine T_su [(10,vp (pa a))]<| aC<| aB<| ar 10 ?_
  obtain⟨t,u,s,q33,h⟩:=h
  refine T_l1 46 54 q33 []<| T_c (some 47) h ?_;clear h
  intro v_6 am h
  refine T_pd [46] []<| T_e<| ar 11 ?_
  obtain⟨n,p,m,q34,h⟩:=h
  refine T_l1 48 54 q34 [10]<| T_ne 2 [(6,vs n p m),(7,vi 0)]<| zx ?_
  show At _ _ _ _ _ (Q .ret)
  refine iQ (fn:=Tryz.f44) (H8.size::[]) hQ (Shut.mono (λaw h=>?_) h)
  exact⟨[vs n p m,vi 0],(show cF _ _ _ [.tmp 6,.tmp 7] _ from .tmp (by kernel_rfl) (.tmp (by kernel_rfl) (.nil))),h⟩
 rw[if_neg c10]at h
 exact aH 23 (bne_iff_ne.mpr c10)<| ar 3<| T_nr 3 [6,7] [vs none 0 0,vi rb] hQ h
end fX

/-! moraine/eqtab.Keys.1 -/
namespace fR
def K0:=Func.code Tryz.f45
end fR
def fR.pt(a:Int)(b:zW)(H:zV)(R:zk):Prop:=
 ∃d:Addr,b=some d/\
 ∃x:zW,hat H d=some (.pointer x)/\
 dd.C x a H (λv H1=> ∃ra rb:Int,v=.tuple #[.int .u64 ra,.int .i64 rb]/\
 R (.tuple #[.int .u64 ra,.int .i64 rb]) H1)
namespace fR
theorem link{a:Int}{b:zW}{H:zV}{R:zk}(h:pt a b H R):C a b H R:=by
 refine T_en K0 10 Tryz.func45 ?_
 intro w0 Q hQ
 unfold pt at h
 refine T_su [(0,vu a),(1,vp b)]<| ar 0<| T_ed 2 [] []<| ar 1 ?_
 obtain⟨d,rfl,x,q1,h⟩:=h
 refine T_l1 5 34 q1 [1]<| T_nd 1 [0] [(6,vu a)]<| T_c (some 7) h ?_;clear h
 rintro v H1 ⟨ra,rb,rfl,h⟩
 refine⟨[(7,.tuple #[vu ra,vi rb])],pk,?_⟩
 exact T_nr 4 [3,4] [vu ra,vi rb] hQ h
end fR

/-! moraine/eqtab.Values.1 -/
namespace eZ
def K0:=Func.code Tryz.f50
end eZ
def eZ.pt(a:Int)(b:zW)(H:zV)(R:zk):Prop:=
 ∃d:Addr,b=some d/\
 ∃x:zW,hat H d=some (.pointer x)/\
 dE.C x a H (λv H1=> ∃ra rb:Int,v=.tuple #[.int .u64 ra,.int .i64 rb]/\
 R (.tuple #[.int .u64 ra,.int .i64 rb]) H1)
namespace eZ
theorem link{a:Int}{b:zW}{H:zV}{R:zk}(h:pt a b H R):C a b H R:=by
 refine T_en K0 10 Tryz.func50 ?_
 intro w0 Q hQ
 unfold pt at h
 refine T_su [(0,vu a),(1,vp b)]<| ar 0<| T_ed 2 [] []<| ar 1 ?_
 obtain⟨d,rfl,x,q1,h⟩:=h
 refine T_l1 5 34 q1 [1]<| T_nd 1 [0] [(6,vu a)]<| T_c (some 7) h ?_;clear h
 rintro v H1 ⟨ra,rb,rfl,h⟩
 refine⟨[(7,.tuple #[vu ra,vi rb])],pk,?_⟩
 exact T_nr 4 [3,4] [vu ra,vi rb] hQ h
end eZ

