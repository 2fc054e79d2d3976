/- Printed: what each function asks, and that it is sound. -/
import Derived.Test.YtihdffpekpnglaaGreatFnsC
set_option linter.unusedSimpArgs false
set_option linter.unusedVariables false
set_option maxRecDepth 100000
set_option maxHeartbeats 1000000
noncomputable section
namespace Go.Proofs.YtihdffpekpnglaaGreat
open Go
/-! (*moraine/moraineref10.Heap).Object -/
namespace aW
def K0:=Func.code Tryz.f48
def K2:=cb K0
def K4:=cb K2
def K6:=cb K4
def K11:=ca K6
def K12:=cb K6
def K14:=cb K12
def K20:=cb K14
def K22:=cb K20
def K24:=cb K22
def K32:=cb K24
def K34:=cb K32
def K40:=cb K34
def K45:=ca K40
end aW
def aW.pt(hv:zY)(wv:Int)(H:zW)(R:zv):Prop:=
 ∀(b:Nat) (H1:zW),b=H.size->H1=H.push (.cells #[.int .i64 0,.int .i64 0,.int .i64 0,.int .i64 0,.int .u64 0] 111)->
 dB.C wv H1 (λv H2=> ∃au bi xA xX aw:Int,v=.agg #[.int .i64 au,.int .i64 bi,.int .i64 xA,.int .i64 xX,.int .u64 aw]/\
 ∀(d:Nat) (H3:zW),d=H2.size->H3=H2.push (.cells #[.int .i64 0,.int .i64 0,.int .i64 0,.int .i64 0,.int .u64 0] 111)->
 (aJ H3 (ad d) 0 5)/\ ∀H4,H4=aP H3 (ad d) [.int .i64 au,.int .i64 bi,.int .i64 xA,.int .i64 xX,.int .u64 aw] 0->
 ∃x:Int,hat H4 (ad d)=some (.int .i64 x)/\
 if x=2 then(
 ∃cd:Int,hat H4 ((ad d).add 1)=some (.int .i64 cd)/\
 if cd=3 then(
 ∃l:Addr,hv=some l/\
 ∃dz:zY,hat H4 l=some (.pointer dz)/\
 ∃aq:Addr,dz=some aq/\
 ∃dy:zY,hat H4 aq=some (.pointer dy)/\
 ∃av:Addr,dy=some av/\
 ∃cj:zY,hat H4 av=some (.pointer cj)/\
 ∃cu:Int,hat H4 ((ad d).add 2)=some (.int .i64 cu)/\
 bM.C cj cu H4 (λd0 H5=> ∃(ra rb:Int) (rc:Bool),d0=.tuple #[.int .i64 ra,.int .i64 rb,.bool rc]/\
 if rc=true then(
 ∃dm:zY,hat H5 l=some (.pointer dm)/\
 ∃dr:Addr,dm=some dr/\
 ∃dl:zY,hat H5 dr=some (.pointer dl)/\
 ∃dg:Addr,dl=some dg/\
 ∃dp:zY,hat H5 dg=some (.pointer dp)/\
 ∃dw:Addr,dp=some dw/\
 ∃(xB:zY) (xN xC:Nat),hat H5 (dw.add 1)=some (.slice xB xN xC)/\
 ∃cn:Addr,xB=some cn/\
 yZ ra xN/\
 ∃(cc ao aj cg o n p m:Int) (aa:zY) (ab ac:Nat),aG H5 (cn.add (Int.toNat ra*9)) 0 [.int .i64 cc,.int .i64 ao,.int .i64 aj,.int .i64 cg,.int .i64 o,.int .i64 n,.int .i64 p,.int .i64 m,.slice aa ab ac]/\
 ∀(f:Nat) (H6:zW),f=H5.size->H6=H5.push (.cells #[.int .i64 0,.int .i64 0,.int .i64 0,.int .i64 0,.int .i64 0,.int .i64 0,.int .i64 0,.int .i64 0,.slice none 0 0] 83)->
 (aJ H6 (ad f) 0 9)/\ ∀H7,H7=aP H6 (ad f) [.int .i64 cc,.int .i64 ao,.int .i64 aj,.int .i64 cg,.int .i64 o,.int .i64 n,.int .i64 p,.int .i64 m,.slice aa ab ac] 0->
 ∃(cm:zY) (be b4:Nat),hat H7 ((ad f).add 8)=some (.slice cm be b4)/\
 ∃bg:Addr,cm=some bg/\
 yZ rb be/\
 ∃cl:Int,hat H7 (bg.add (Int.toNat rb*1))=some (.int .u64 cl)/\
 dB.C cl H7 (λd1 H8=> ∃ai an bh bf ah:Int,d1=.agg #[.int .i64 ai,.int .i64 an,.int .i64 bh,.int .i64 bf,.int .u64 ah]/\
 ∀(e:Nat) (H9:zW),e=H8.size->H9=H8.push (.cells #[.int .i64 0,.int .i64 0,.int .i64 0,.int .i64 0,.int .u64 0] 111)->
 (aJ H9 (ad e) 0 5)/\ ∀j,j=aP H9 (ad e) [.int .i64 ai,.int .i64 an,.int .i64 bh,.int .i64 bf,.int .u64 ah] 0->
 ∃bd:Int,hat j (ad e)=some (.int .i64 bd)/\
 if bd=5 then(
 ∃ap:Int,hat j ((ad e).add 2)=some (.int .i64 ap)/\
 ∃(c3:zY) (a4 c4:Nat),hat j ((ad f).add 8)=some (.slice c3 a4 c4)/\
 if(zq (rb+ap))>=(a4:Int)then(
 (aJ j (ad b) 0 5)/\ ∀dx,dx=aP j (ad b) [.int .i64 0,.int .i64 0,.int .i64 0,.int .i64 0,.int .u64 0] 0->
 ∃co de rA rX cq:Int,aG dx (ad b) 0 [.int .i64 co,.int .i64 de,.int .i64 rA,.int .i64 rX,.int .u64 cq]/\
 R (.tuple #[.int .i64 (-1),.agg #[.int .i64 co,.int .i64 de,.int .i64 rA,.int .i64 rX,.int .u64 cq]]) dx)
 else
 ∃a3:Int,hat j ((ad e).add 1)=some (.int .i64 a3)/\
 if a3=2 then(
 ∃bb:Int,hat j (((ad f).add 1).add 1)=some (.int .i64 bb)/\
 if bb=3 then(
 ∃ak:Int,hat j ((ad d).add 2)=some (.int .i64 ak)/\
 ∃z af az ay u:Int,aG j (ad e) 0 [.int .i64 z,.int .i64 af,.int .i64 az,.int .i64 ay,.int .u64 u]/\
 (aJ j (ad b) 0 5)/\ ∀du,du=aP j (ad b) [.int .i64 z,.int .i64 af,.int .i64 az,.int .i64 ay,.int .u64 u] 0->
 ∃bn ck cw cy br:Int,aG du (ad b) 0 [.int .i64 bn,.int .i64 ck,.int .i64 cw,.int .i64 cy,.int .u64 br]/\
 R (.tuple #[.int .i64 ak,.agg #[.int .i64 bn,.int .i64 ck,.int .i64 cw,.int .i64 cy,.int .u64 br]]) du)
 else
 (aJ j (ad b) 0 5)/\ ∀dn,dn=aP j (ad b) [.int .i64 0,.int .i64 0,.int .i64 0,.int .i64 0,.int .u64 0] 0->
 ∃b1 ch db c9 bl:Int,aG dn (ad b) 0 [.int .i64 b1,.int .i64 ch,.int .i64 db,.int .i64 c9,.int .u64 bl]/\
 R (.tuple #[.int .i64 (-1),.agg #[.int .i64 b1,.int .i64 ch,.int .i64 db,.int .i64 c9,.int .u64 bl]]) dn)
 else
 ∃ba:Int,hat j ((ad e).add 1)=some (.int .i64 ba)/\
 if ba=3 then(
 ∃bc:Int,hat j (((ad f).add 1).add 1)=some (.int .i64 bc)/\
 if bc=3 then(
 ∃al:Int,hat j ((ad d).add 2)=some (.int .i64 al)/\
 ∃q ag ax a2 y:Int,aG j (ad e) 0 [.int .i64 q,.int .i64 ag,.int .i64 ax,.int .i64 a2,.int .u64 y]/\
 (aJ j (ad b) 0 5)/\ ∀dq,dq=aP j (ad b) [.int .i64 q,.int .i64 ag,.int .i64 ax,.int .i64 a2,.int .u64 y] 0->
 ∃bw ce c5 c6 b3:Int,aG dq (ad b) 0 [.int .i64 bw,.int .i64 ce,.int .i64 c5,.int .i64 c6,.int .u64 b3]/\
 R (.tuple #[.int .i64 al,.agg #[.int .i64 bw,.int .i64 ce,.int .i64 c5,.int .i64 c6,.int .u64 b3]]) dq)
 else
 (aJ j (ad b) 0 5)/\ ∀dj,dj=aP j (ad b) [.int .i64 0,.int .i64 0,.int .i64 0,.int .i64 0,.int .u64 0] 0->
 ∃bo b6 cv c7 bu:Int,aG dj (ad b) 0 [.int .i64 bo,.int .i64 b6,.int .i64 cv,.int .i64 c7,.int .u64 bu]/\
 R (.tuple #[.int .i64 (-1),.agg #[.int .i64 bo,.int .i64 b6,.int .i64 cv,.int .i64 c7,.int .u64 bu]]) dj)
 else
 ∃a6:Int,hat j (((ad f).add 1).add 1)=some (.int .i64 a6)/\
 if a6=2 then(
 ∃am:Int,hat j ((ad d).add 2)=some (.int .i64 am)/\
 ∃s ae a1 a0 r:Int,aG j (ad e) 0 [.int .i64 s,.int .i64 ae,.int .i64 a1,.int .i64 a0,.int .u64 r]/\
 (aJ j (ad b) 0 5)/\ ∀dk,dk=aP j (ad b) [.int .i64 s,.int .i64 ae,.int .i64 a1,.int .i64 a0,.int .u64 r] 0->
 ∃bm b5 c0 cz bz:Int,aG dk (ad b) 0 [.int .i64 bm,.int .i64 b5,.int .i64 c0,.int .i64 cz,.int .u64 bz]/\
 R (.tuple #[.int .i64 am,.agg #[.int .i64 bm,.int .i64 b5,.int .i64 c0,.int .i64 cz,.int .u64 bz]]) dk)
 else
 (aJ j (ad b) 0 5)/\ ∀dv,dv=aP j (ad b) [.int .i64 0,.int .i64 0,.int .i64 0,.int .i64 0,.int .u64 0] 0->
 ∃bx b8 cx dd bt:Int,aG dv (ad b) 0 [.int .i64 bx,.int .i64 b8,.int .i64 cx,.int .i64 dd,.int .u64 bt]/\
 R (.tuple #[.int .i64 (-1),.agg #[.int .i64 bx,.int .i64 b8,.int .i64 cx,.int .i64 dd,.int .u64 bt]]) dv)
 else
 (aJ j (ad b) 0 5)/\ ∀di,di=aP j (ad b) [.int .i64 0,.int .i64 0,.int .i64 0,.int .i64 0,.int .u64 0] 0->
 ∃bq b7 dc c1 b2:Int,aG di (ad b) 0 [.int .i64 bq,.int .i64 b7,.int .i64 dc,.int .i64 c1,.int .u64 b2]/\
 R (.tuple #[.int .i64 (-1),.agg #[.int .i64 bq,.int .i64 b7,.int .i64 dc,.int .i64 c1,.int .u64 b2]]) di))
 else
 (aJ H5 (ad b) 0 5)/\ ∀dh,dh=aP H5 (ad b) [.int .i64 0,.int .i64 0,.int .i64 0,.int .i64 0,.int .u64 0] 0->
 ∃bk ci c2 da b0:Int,aG dh (ad b) 0 [.int .i64 bk,.int .i64 ci,.int .i64 c2,.int .i64 da,.int .u64 b0]/\
 R (.tuple #[.int .i64 (-1),.agg #[.int .i64 bk,.int .i64 ci,.int .i64 c2,.int .i64 da,.int .u64 b0]]) dh))
 else
 (aJ H4 (ad b) 0 5)/\ ∀df,df=aP H4 (ad b) [.int .i64 0,.int .i64 0,.int .i64 0,.int .i64 0,.int .u64 0] 0->
 ∃a7 bj cr cp a5:Int,aG df (ad b) 0 [.int .i64 a7,.int .i64 bj,.int .i64 cr,.int .i64 cp,.int .u64 a5]/\
 R (.tuple #[.int .i64 (-1),.agg #[.int .i64 a7,.int .i64 bj,.int .i64 cr,.int .i64 cp,.int .u64 a5]]) df)
 else
 (aJ H4 (ad b) 0 5)/\ ∀dt,dt=aP H4 (ad b) [.int .i64 0,.int .i64 0,.int .i64 0,.int .i64 0,.int .u64 0] 0->
 ∃a8 bp ct cs a9:Int,aG dt (ad b) 0 [.int .i64 a8,.int .i64 bp,.int .i64 ct,.int .i64 cs,.int .u64 a9]/\
 R (.tuple #[.int .i64 (-1),.agg #[.int .i64 a8,.int .i64 bp,.int .i64 ct,.int .i64 cs,.int .u64 a9]]) dt)
namespace aW
theorem link{hv:zY}{wv:Int}{H:zW}{R:zv}(h:pt hv wv H R):C hv wv H R:=by
 refine T_en K0 97 Tryz.func48 ?_
 intro w0 Q hQ
 unfold pt zq at h
 refine T_su [(0,vp hv),(1,vu wv)]<| ar 0<| T_nd 1 [] []<| T_nw (some 5) (λb=>vp (pa b)) (.cells #[vi 0,vi 0,vi 0,vi 0,vu 0] 111) ?_
 intro b H1 e1 e2
 replace h:=h b H1 e1 e2
 refine T_pd [] [(5,vp (pa b))]<| T_e<| ar 1<| T_nd 1 [1] [(13,vu wv)]<| T_c (some 14) h ?_;clear h
 rintro v H2 ⟨au,bi,xA,xX,aw,rfl,h⟩
 refine T_pd [13] [(14,.agg #[vi au,vi bi,vi xA,vi xX,vu aw])]<| T_nw (some 6) (λb=>vp (pa b)) (.cells #[vi 0,vi 0,vi 0,vi 0,vu 0] 111) ?_
 intro d H3 e3 e4
 replace h:=h d H3 e3 e4
 refine T_pd [] [(6,vp (pa d))] ?_
 obtain⟨q6,h⟩:=h
 refine bX 111 [vi au,vi bi,vi xA,vi xX,vu aw] q6 ?_
 intro H4 e5
 replace h:=h H4 e5
 refine T_pd [14] []<| T_e<| T_sz<| ar 2<| T_nd 1 [] [(15,vp (pa d))] ?_
 obtain⟨x,q7,h⟩:=h
 refine T_l1 16 3 q7 [15]<| T_nd 2 [16] [(18,.bool (x !=2))] ?_
 by_cases c8:x=2
 ·rw[if_pos c8]at h
  refine N_bd 18 (bne_eq_false_iff_eq.mpr c8)<| T_nd 1 [] [(19,vp (some ((ad d).add 1)))] ?_
  obtain⟨cd,q10,h⟩:=h
  refine T_l1 20 3 q10 [19]<| T_ed 2 [18,20] [(22,.bool (cd !=3))] ?_
  by_cases c11:cd=3
  ·rw[if_pos c11]at h
   refine aI 22 (bne_eq_false_iff_eq.mpr c11)<| T_kt<| T_sz ?_
   obtain⟨l,rfl,dz,q13,aq,rfl,dy,q14,av,rfl,cj,q15,cu,q16,h⟩:=h
   refine yq 4 (Code.ops K11) [(12,l,[vp (some aq)]),(12,aq,[vp (some av)]),(12,av,[vp cj]),(12,((ad d).add 2),[vi cu])] 20 (bv 20 0) (show aK _ _ _ from⟨⟨q13,trivial⟩,⟨q14,trivial⟩,⟨q15,trivial⟩,⟨q16,trivial⟩,trivial⟩)<| T_gp 0 (some 25) (vp (some l)) (bv 20 1) [(0,vp (some l)),(5,vp (pa b)),(6,vp (pa d)),(25,vp (some l))]<| aF 1 26 (vp (some l)) (bv 20 3) [25]<| aF 2 27 (vp (some l)) (bv 20 7) [26]<| T_g1 3 28 (vp (some aq)) (bv 20 15) [27] (aT 69 (vp (some l))) (yY 12 yX)<| aF 4 29 (vp (some aq)) (bv 20 31) [28]<| aF 5 30 (vp (some aq)) (bv 20 63) [29]<| T_g1 6 31 (vp (some av)) (bv 20 127) [30] (aT 66 (vp (some aq))) (yY 12 yQ)<| aF 7 32 (vp (some av)) (bv 20 255) [31]<| aF 8 33 (vp (some av)) (bv 20 511) [32]<| T_g1 9 34 (vp cj) (bv 20 1023) [33] (aT 63 (vp (some av))) (yY 12 yJ)<| aF 10 35 (vp (some ((ad d).add 2))) (bv 20 2047) []<| T_g1 11 36 (vi cu) (bv 20 4095) [35] (aT 3 (vp (some ((ad d).add 2)))) (yY 12 yK)<| yx 12 (some 37) (bv 20 8191) 95 #[vp cj,vi cu] h ?_;clear h
   rintro d0 H5 ⟨ra,rb,rc,rfl,h⟩
   refine⟨[(0,vp (some l)),(5,vp (pa b)),(6,vp (pa d)),(37,.tuple #[vi ra,vi rb,.bool rc])],pk,(show aK _ _ _ from⟨trivial,trivial,trivial,trivial,trivial⟩),?_⟩
   refine T_g 13 (some 24) (.tuple #[vi ra,vi rb,.bool rc]) (bv 20 16383) [(0,vp (some l)),(5,vp (pa b)),(6,vp (pa d)),(24,.tuple #[vi ra,vi rb,.bool rc])] (pure (.value (.tuple #[vi ra,vi rb,.bool rc])):Sem Next) (λ_ _ _ _ _=>rfl)<| T_g1 14 38 (vi ra) (bv 20 32767) [] (pure (.value (vi ra)):Sem Next) (λ_ _ _ _ _=>rfl)<| T_g1 15 39 (vi rb) (bv 20 65535) [] (pure (.value (vi rb)):Sem Next) (λ_ _ _ _ _=>rfl)<| T_g1 16 40 (.bool rc) (bv 20 131071) [24] (pure (.value (.bool rc)):Sem Next) (λ_ _ _ _ _=>rfl)<| T_g1 17 7 (vi ra) (bv 20 262143) [38] (pure (.value (vi ra)):Sem Next) (λ_ _ _ _ _=>rfl)<| T_g1 18 8 (vi rb) (bv 20 524287) [39] (pure (.value (vi rb)):Sem Next) (λ_ _ _ _ _=>rfl)<| T_g1 19 9 (.bool rc) (bv 20 1048575) [40] (pure (.value (.bool rc)):Sem Next) (λ_ _ _ _ _=>rfl)<| eI [(0,vp (some l)),(5,vp (pa b)),(6,vp (pa d)),(7,vi ra),(8,vi rb),(9,.bool rc)] sk<| yz<| aE<| T_sz<| ar 5<| T_ne 2 [(0,vp (some l)),(5,vp (pa b)),(6,vp (pa d)),(7,vi ra),(8,vi rb),(42,.bool (!rc))] ?_
   by_cases c17:rc=true
   ·rw[if_pos c17]at h
    refine aI 42 (congrArg Bool.not (c17))<| T_kt<| ar 7<| T_nd 3 [0,42] [(46,vp (some l))] ?_
    obtain⟨dm,q19,h⟩:=h
    refine T_l1 47 69 q19 [46] ?_
    obtain⟨dr,rfl,h⟩:=h
    refine T_nd 2 [47] [(49,vp (some dr))] ?_
    obtain⟨dl,q20,h⟩:=h
    refine T_l1 50 66 q20 [49] ?_
    obtain⟨dg,rfl,h⟩:=h
    refine T_nd 2 [50] [(52,vp (some dg))] ?_
    obtain⟨dp,q21,h⟩:=h
    refine T_l1 53 63 q21 [52] ?_
    obtain⟨dw,rfl,h⟩:=h
    refine T_nd 2 [53] [(55,vp (some (dw.add 1)))] ?_
    obtain⟨xB,xN,xC,q22,h⟩:=h
    refine T_l1 56 75 q22 [55]<| T_nd 1 [7] [(57,vi ra)] ?_
    obtain⟨cn,rfl,q23,h⟩:=h
    refine T_xd (some 58) 75 83 9 cn xN xC .i64 ra Tryz.underlying75 q23.1 q23.2 [56,57] [(58,vp (some (cn.add (Int.toNat ra*9))))] ?_
    obtain⟨cc,ao,aj,cg,o,n,p,m,aa,ab,ac,q24,h⟩:=h
    refine T_lr 59 83 q24 [58]<| T_nw (some 10) (λb=>vp (pa b)) (.cells #[vi 0,vi 0,vi 0,vi 0,vi 0,vi 0,vi 0,vi 0,vs none 0 0] 83) ?_
    intro f H6 e25 e26
    replace h:=h f H6 e25 e26
    refine T_pd [] [(10,vp (pa f))] ?_
    obtain⟨q28,h⟩:=h
    refine bX 83 [vi cc,vi ao,vi aj,vi cg,vi o,vi n,vi p,vi m,vs aa ab ac] q28 ?_
    intro H7 e27
    replace h:=h H7 e27
    refine T_pd [59] []<| T_e<| ar 8<| T_nd 1 [] [(60,vp (some ((ad f).add 8)))] ?_
    obtain⟨cm,be,b4,q29,h⟩:=h
    refine T_l1 61 31 q29 [60]<| T_nd 1 [] [(62,vi rb)] ?_
    obtain⟨bg,rfl,q30,h⟩:=h
    refine T_xd (some 63) 31 33 1 bg be b4 .i64 rb Tryz.underlying31 q30.1 q30.2 [61,62] [(63,vp (some (bg.add (Int.toNat rb*1))))] ?_
    obtain⟨cl,q31,h⟩:=h
    refine T_l1 64 33 q31 [63]<| T_c (some 65) h ?_;clear h
    rintro d1 H8 ⟨ai,an,bh,bf,ah,rfl,h⟩
    refine T_pd [64] [(65,.agg #[vi ai,vi an,vi bh,vi bf,vu ah])]<| T_nw (some 11) (λb=>vp (pa b)) (.cells #[vi 0,vi 0,vi 0,vi 0,vu 0] 111) ?_
    intro e H9 e32 e33
    replace h:=h e H9 e32 e33
    refine T_pd [] [(11,vp (pa e))] ?_
    obtain⟨q35,h⟩:=h
    refine bX 111 [vi ai,vi an,vi bh,vi bf,vu ah] q35 ?_
    intro j e34
    replace h:=h j e34
    refine T_pd [65] []<| T_e<| T_sz<| ar 9<| T_nd 1 [] [(66,vp (pa e))] ?_
    obtain⟨bd,q36,h⟩:=h
    refine T_l1 67 3 q36 [66]<| T_nd 2 [67] [(69,.bool (bd !=5))] ?_
    by_cases c37:bd=5
    ·rw[if_pos c37]at h
     refine N_bd 69 (bne_eq_false_iff_eq.mpr c37)<| T_nd 2 [8] [(70,vi rb),(71,vp (some ((ad e).add 2)))] ?_
     obtain⟨ap,q39,h⟩:=h
     refine T_l1 72 3 q39 [71]<| T_nd 2 [70,72] [(73,vi (zq (rb+ap))),(74,vp (some ((ad f).add 8)))] ?_
     obtain⟨c3,a4,c4,q40,h⟩:=h
     refine T_l1 75 31 q40 [74]<| T_ed 3 [69,73,75] [(78,.bool (decide ((zq (rb+ap))>=(a4:Int))))] ?_
     by_cases c41:(zq (rb+ap))>=(a4:Int)
     ·rw[if_pos c41]at h
      refine aH 78 (zQ c41)<| ar 10<| T_n 2 [(4,vi (-1)),(5,vp (pa b)),(79,.agg #[vi 0,vi 0,vi 0,vi 0,vu 0])] ?_
      obtain⟨q44,h⟩:=h
      refine bX 111 [vi 0,vi 0,vi 0,vi 0,vu 0] q44 ?_
      intro dx e43
      replace h:=h dx e43
      refine T_pd [79] []<| T_e<| zz ?_
      show At _ _ _ _ _ (Q .ret)
      obtain⟨co,de,rA,rX,cq,q45,h⟩:=h
      exact cP (fn:=Tryz.f48) [vi (-1),.agg #[vi co,vi de,vi rA,vi rX,vu cq]] hQ (show cK _ _ _ [.tmp 4,.cell 5 111] _ from .tmp (by kernel_rfl) (.cell (by kernel_rfl) (aQ (λ_=>by kernel_rfl) (λ_=>by kernel_rfl) q45) (.nil))) h
     rw[if_neg c41]at h
     refine aI 78 (zJ c41)<| T_kt<| ar 11<| T_ed 1 [78] [(12,vi 2)]<| T_sz<| ar 12<| T_nd 1 [] [(80,vp (some ((ad e).add 1)))] ?_
     obtain⟨a3,q46,h⟩:=h
     refine T_l1 81 3 q46 [80]<| T_nd 2 [81] [(83,.bool (a3==2))] ?_
     by_cases c47:a3=2
     ·rw[if_pos c47]at h
      refine N_bd 83 (zV c47)<| T_ed 4 [83] [(87,.bool true)]<| T_tz 87<| T_rz 13<| T_ed 1 [12,87] [(12,vi 3)]<| T_sz<| ar 14<| T_nd 2 [10] [(89,vp (some (((ad f).add 1).add 1)))] ?_
      obtain⟨bb,q49,h⟩:=h
      refine T_l1 90 3 q49 [89]<| T_ed 2 [12,90] [(92,.bool (bb !=3))] ?_
      by_cases c50:bb=3
      ·rw[if_pos c50]at h
       refine aI 92 (bne_eq_false_iff_eq.mpr c50)<| T_kt<| T_sz ?_
       obtain⟨ak,q52,z,af,az,ay,u,q53,h⟩:=h
       refine yq 16 (Code.ops K45) [(4,((ad d).add 2),[vi ak]),(4,(ad e),[vi z,vi af,vi az,vi ay,vu u])] 5 (bv 5 0) (show aK _ _ _ from⟨⟨q52,trivial⟩,q53,trivial⟩)<| T_gp 0 (some 94) (vp (some ((ad d).add 2))) (bv 5 1) [(5,vp (pa b)),(11,vp (pa e)),(94,vp (some ((ad d).add 2)))]<| T_g1 1 95 (vi ak) (bv 5 3) [94] (aT 3 (vp (some ((ad d).add 2)))) (yY 4 yX)<| T_g1 2 96 (.agg #[vi z,vi af,vi az,vi ay,vu u]) (bv 5 7) [11] (aT 111 (vp (pa e))) (iY 4 (λ_=>by kernel_rfl) (λ_=>by kernel_rfl) yQ (.inl (by kernel_rfl)))<| aF 3 4 (vi ak) (bv 5 15) [95] ?_
       obtain⟨q55,h⟩:=h
       refine iS 4 none (bv 5 31) (jg 111 (vp (pa b)) (.agg #[vi z,vi af,vi az,vi ay,vu u])) (λHz=>Hz=aP j (ad b) [vi z,vi af,vi az,vi ay,vu u] 0) (by kernel_rfl) (λ_=>by kernel_rfl) (iW [vi z,vi af,vi az,vi ay,vu u] 5 (by kernel_rfl) (by kernel_rfl) (λ_=>by kernel_rfl) (by kernel_rfl) q55) (by kernel_rfl) ?_
       intro du e54
       replace h:=h du e54
       refine⟨[(4,vi ak),(5,vp (pa b))],pk,(show aK _ _ _ from⟨trivial,trivial,trivial⟩),?_⟩
       refine eI [(4,vi ak),(5,vp (pa b))] sk ?_
       refine yz<| aE<| zz ?_
       show At _ _ _ _ _ (Q .ret)
       obtain⟨bn,ck,cw,cy,br,q56,h⟩:=h
       exact cP (fn:=Tryz.f48) [vi ak,.agg #[vi bn,vi ck,vi cw,vi cy,vu br]] hQ (show cK _ _ _ [.tmp 4,.cell 5 111] _ from .tmp (by kernel_rfl) (.cell (by kernel_rfl) (aQ (λ_=>by kernel_rfl) (λ_=>by kernel_rfl) q56) (.nil))) h
      rw[if_neg c50]at h
      refine aH 92 (bne_iff_ne.mpr c50)<| ar 15<| T_nd 2 [6,11,92] [(4,vi (-1)),(93,.agg #[vi 0,vi 0,vi 0,vi 0,vu 0])] ?_
      obtain⟨q58,h⟩:=h
      refine bX 111 [vi 0,vi 0,vi 0,vi 0,vu 0] q58 ?_
      intro dn e57
      replace h:=h dn e57
      refine T_pd [93] []<| T_e<| zz ?_
      show At _ _ _ _ _ (Q .ret)
      obtain⟨b1,ch,db,c9,bl,q59,h⟩:=h
      exact cP (fn:=Tryz.f48) [vi (-1),.agg #[vi b1,vi ch,vi db,vi c9,vu bl]] hQ (show cK _ _ _ [.tmp 4,.cell 5 111] _ from .tmp (by kernel_rfl) (.cell (by kernel_rfl) (aQ (λ_=>by kernel_rfl) (λ_=>by kernel_rfl) q59) (.nil))) h
     rw[if_neg c47]at h
     refine N_bd 83 (zK c47)<| T_nd 1 [] [(84,vp (some ((ad e).add 1)))] ?_
     obtain⟨ba,q60,h⟩:=h
     refine T_l1 85 3 q60 [84]<| T_ed 2 [83,85] [(87,.bool (ba==3))] ?_
     by_cases c61:ba=3
     ·rw[if_pos c61]at h
      refine aH 87 (zV c61)<| T_rz 13<| T_ed 1 [12,87] [(12,vi 3)]<| T_sz<| ar 14<| T_nd 2 [10] [(89,vp (some (((ad f).add 1).add 1)))] ?_
      obtain⟨bc,q63,h⟩:=h
      refine T_l1 90 3 q63 [89]<| T_ed 2 [12,90] [(92,.bool (bc !=3))] ?_
      by_cases c64:bc=3
      ·rw[if_pos c64]at h
       refine aI 92 (bne_eq_false_iff_eq.mpr c64)<| T_kt<| T_sz ?_
       obtain⟨al,q66,q,ag,ax,a2,y,q67,h⟩:=h
       refine yq 16 (Code.ops K45) [(4,((ad d).add 2),[vi al]),(4,(ad e),[vi q,vi ag,vi ax,vi a2,vu y])] 5 (bv 5 0) (show aK _ _ _ from⟨⟨q66,trivial⟩,q67,trivial⟩)<| T_gp 0 (some 94) (vp (some ((ad d).add 2))) (bv 5 1) [(5,vp (pa b)),(11,vp (pa e)),(94,vp (some ((ad d).add 2)))]<| T_g1 1 95 (vi al) (bv 5 3) [94] (aT 3 (vp (some ((ad d).add 2)))) (yY 4 yX)<| T_g1 2 96 (.agg #[vi q,vi ag,vi ax,vi a2,vu y]) (bv 5 7) [11] (aT 111 (vp (pa e))) (iY 4 (λ_=>by kernel_rfl) (λ_=>by kernel_rfl) yQ (.inl (by kernel_rfl)))<| aF 3 4 (vi al) (bv 5 15) [95] ?_
       obtain⟨q69,h⟩:=h
       refine iS 4 none (bv 5 31) (jg 111 (vp (pa b)) (.agg #[vi q,vi ag,vi ax,vi a2,vu y])) (λHz=>Hz=aP j (ad b) [vi q,vi ag,vi ax,vi a2,vu y] 0) (by kernel_rfl) (λ_=>by kernel_rfl) (iW [vi q,vi ag,vi ax,vi a2,vu y] 5 (by kernel_rfl) (by kernel_rfl) (λ_=>by kernel_rfl) (by kernel_rfl) q69) (by kernel_rfl) ?_
       intro dq e68
       replace h:=h dq e68
       refine⟨[(4,vi al),(5,vp (pa b))],pk,(show aK _ _ _ from⟨trivial,trivial,trivial⟩),?_⟩
       refine eI [(4,vi al),(5,vp (pa b))] sk ?_
       refine yz<| aE<| zz ?_
       show At _ _ _ _ _ (Q .ret)
       obtain⟨bw,ce,c5,c6,b3,q70,h⟩:=h
       exact cP (fn:=Tryz.f48) [vi al,.agg #[vi bw,vi ce,vi c5,vi c6,vu b3]] hQ (show cK _ _ _ [.tmp 4,.cell 5 111] _ from .tmp (by kernel_rfl) (.cell (by kernel_rfl) (aQ (λ_=>by kernel_rfl) (λ_=>by kernel_rfl) q70) (.nil))) h
      rw[if_neg c64]at h
      refine aH 92 (bne_iff_ne.mpr c64)<| ar 15<| T_nd 2 [6,11,92] [(4,vi (-1)),(93,.agg #[vi 0,vi 0,vi 0,vi 0,vu 0])] ?_
      obtain⟨q72,h⟩:=h
      refine bX 111 [vi 0,vi 0,vi 0,vi 0,vu 0] q72 ?_
      intro dj e71
      replace h:=h dj e71
      refine T_pd [93] []<| T_e<| zz ?_
      show At _ _ _ _ _ (Q .ret)
      obtain⟨bo,b6,cv,c7,bu,q73,h⟩:=h
      exact cP (fn:=Tryz.f48) [vi (-1),.agg #[vi bo,vi b6,vi cv,vi c7,vu bu]] hQ (show cK _ _ _ [.tmp 4,.cell 5 111] _ from .tmp (by kernel_rfl) (.cell (by kernel_rfl) (aQ (λ_=>by kernel_rfl) (λ_=>by kernel_rfl) q73) (.nil))) h
     rw[if_neg c61]at h
     refine aI 87 (zK c61)<| T_kt<| T_sz<| ar 14<| T_nd 2 [10,87] [(89,vp (some (((ad f).add 1).add 1)))] ?_
     obtain⟨a6,q74,h⟩:=h
     refine T_l1 90 3 q74 [89]<| T_ed 2 [12,90] [(92,.bool (a6 !=2))] ?_
     by_cases c75:a6=2
     ·rw[if_pos c75]at h
      refine aI 92 (bne_eq_false_iff_eq.mpr c75)<| T_kt<| T_sz ?_
      obtain⟨am,q77,s,ae,a1,a0,r,q78,h⟩:=h
      refine yq 16 (Code.ops K45) [(4,((ad d).add 2),[vi am]),(4,(ad e),[vi s,vi ae,vi a1,vi a0,vu r])] 5 (bv 5 0) (show aK _ _ _ from⟨⟨q77,trivial⟩,q78,trivial⟩)<| T_gp 0 (some 94) (vp (some ((ad d).add 2))) (bv 5 1) [(5,vp (pa b)),(11,vp (pa e)),(94,vp (some ((ad d).add 2)))]<| T_g1 1 95 (vi am) (bv 5 3) [94] (aT 3 (vp (some ((ad d).add 2)))) (yY 4 yX)<| T_g1 2 96 (.agg #[vi s,vi ae,vi a1,vi a0,vu r]) (bv 5 7) [11] (aT 111 (vp (pa e))) (iY 4 (λ_=>by kernel_rfl) (λ_=>by kernel_rfl) yQ (.inl (by kernel_rfl)))<| aF 3 4 (vi am) (bv 5 15) [95] ?_
      obtain⟨q80,h⟩:=h
      refine iS 4 none (bv 5 31) (jg 111 (vp (pa b)) (.agg #[vi s,vi ae,vi a1,vi a0,vu r])) (λHz=>Hz=aP j (ad b) [vi s,vi ae,vi a1,vi a0,vu r] 0) (by kernel_rfl) (λ_=>by kernel_rfl) (iW [vi s,vi ae,vi a1,vi a0,vu r] 5 (by kernel_rfl) (by kernel_rfl) (λ_=>by kernel_rfl) (by kernel_rfl) q80) (by kernel_rfl) ?_
      intro dk e79
      replace h:=h dk e79
      refine⟨[(4,vi am),(5,vp (pa b))],pk,(show aK _ _ _ from⟨trivial,trivial,trivial⟩),?_⟩
      refine eI [(4,vi am),(5,vp (pa b))] sk ?_
      refine yz<| aE<| zz ?_
      show At _ _ _ _ _ (Q .ret)
      obtain⟨bm,b5,c0,cz,bz,q81,h⟩:=h
      exact cP (fn:=Tryz.f48) [vi am,.agg #[vi bm,vi b5,vi c0,vi cz,vu bz]] hQ (show cK _ _ _ [.tmp 4,.cell 5 111] _ from .tmp (by kernel_rfl) (.cell (by kernel_rfl) (aQ (λ_=>by kernel_rfl) (λ_=>by kernel_rfl) q81) (.nil))) h
     rw[if_neg c75]at h
     refine aH 92 (bne_iff_ne.mpr c75)<| ar 15<| T_nd 2 [6,11,92] [(4,vi (-1)),(93,.agg #[vi 0,vi 0,vi 0,vi 0,vu 0])] ?_
     obtain⟨q83,h⟩:=h
     refine bX 111 [vi 0,vi 0,vi 0,vi 0,vu 0] q83 ?_
     intro dv e82
     replace h:=h dv e82
     refine T_pd [93] []<| T_e<| zz ?_
     show At _ _ _ _ _ (Q .ret)
     obtain⟨bx,b8,cx,dd,bt,q84,h⟩:=h
     exact cP (fn:=Tryz.f48) [vi (-1),.agg #[vi bx,vi b8,vi cx,vi dd,vu bt]] hQ (show cK _ _ _ [.tmp 4,.cell 5 111] _ from .tmp (by kernel_rfl) (.cell (by kernel_rfl) (aQ (λ_=>by kernel_rfl) (λ_=>by kernel_rfl) q84) (.nil))) h
    rw[if_neg c37]at h
    refine N_bd 69 (bne_iff_ne.mpr c37)<| T_ed 9 [8,69] [(78,.bool true)]<| T_tz 78<| ar 10<| T_n 2 [(4,vi (-1)),(5,vp (pa b)),(79,.agg #[vi 0,vi 0,vi 0,vi 0,vu 0])] ?_
    obtain⟨q86,h⟩:=h
    refine bX 111 [vi 0,vi 0,vi 0,vi 0,vu 0] q86 ?_
    intro di e85
    replace h:=h di e85
    refine T_pd [79] []<| T_e<| zz ?_
    show At _ _ _ _ _ (Q .ret)
    obtain⟨bq,b7,dc,c1,b2,q87,h⟩:=h
    exact cP (fn:=Tryz.f48) [vi (-1),.agg #[vi bq,vi b7,vi dc,vi c1,vu b2]] hQ (show cK _ _ _ [.tmp 4,.cell 5 111] _ from .tmp (by kernel_rfl) (.cell (by kernel_rfl) (aQ (λ_=>by kernel_rfl) (λ_=>by kernel_rfl) q87) (.nil))) h
   rw[if_neg c17]at h
   refine aH 42 (congrArg Bool.not (zZ c17))<| ar 6<| T_n 2 [(4,vi (-1)),(5,vp (pa b)),(43,.agg #[vi 0,vi 0,vi 0,vi 0,vu 0])] ?_
   obtain⟨q89,h⟩:=h
   refine bX 111 [vi 0,vi 0,vi 0,vi 0,vu 0] q89 ?_
   intro dh e88
   replace h:=h dh e88
   refine T_pd [43] []<| T_e<| zz ?_
   show At _ _ _ _ _ (Q .ret)
   obtain⟨bk,ci,c2,da,b0,q90,h⟩:=h
   exact cP (fn:=Tryz.f48) [vi (-1),.agg #[vi bk,vi ci,vi c2,vi da,vu b0]] hQ (show cK _ _ _ [.tmp 4,.cell 5 111] _ from .tmp (by kernel_rfl) (.cell (by kernel_rfl) (aQ (λ_=>by kernel_rfl) (λ_=>by kernel_rfl) q90) (.nil))) h
  rw[if_neg c11]at h
  refine aH 22 (bne_iff_ne.mpr c11)<| ar 3<| T_nd 2 [0,6,22] [(4,vi (-1)),(23,.agg #[vi 0,vi 0,vi 0,vi 0,vu 0])] ?_
  obtain⟨q92,h⟩:=h
  refine bX 111 [vi 0,vi 0,vi 0,vi 0,vu 0] q92 ?_
  intro df e91
  replace h:=h df e91
  refine T_pd [23] []<| T_e<| zz ?_
  show At _ _ _ _ _ (Q .ret)
  obtain⟨a7,bj,cr,cp,a5,q93,h⟩:=h
  exact cP (fn:=Tryz.f48) [vi (-1),.agg #[vi a7,vi bj,vi cr,vi cp,vu a5]] hQ (show cK _ _ _ [.tmp 4,.cell 5 111] _ from .tmp (by kernel_rfl) (.cell (by kernel_rfl) (aQ (λ_=>by kernel_rfl) (λ_=>by kernel_rfl) q93) (.nil))) h
 rw[if_neg c8]at h
 refine N_bd 18 (bne_iff_ne.mpr c8)<| T_ed 4 [18] [(22,.bool true)]<| T_tz 22<| ar 3<| T_nd 2 [0,6,22] [(4,vi (-1)),(23,.agg #[vi 0,vi 0,vi 0,vi 0,vu 0])] ?_
 obtain⟨q95,h⟩:=h
 refine bX 111 [vi 0,vi 0,vi 0,vi 0,vu 0] q95 ?_
 intro dt e94
 replace h:=h dt e94
 refine T_pd [23] []<| T_e<| zz ?_
 show At _ _ _ _ _ (Q .ret)
 obtain⟨a8,bp,ct,cs,a9,q96,h⟩:=h
 exact cP (fn:=Tryz.f48) [vi (-1),.agg #[vi a8,vi bp,vi ct,vi cs,vu a9]] hQ (show cK _ _ _ [.tmp 4,.cell 5 111] _ from .tmp (by kernel_rfl) (.cell (by kernel_rfl) (aQ (λ_=>by kernel_rfl) (λ_=>by kernel_rfl) q96) (.nil))) h
end aW

/-! (*moraine/moraineref10.Heap).Pair -/
namespace bJ
def K0:=Func.code Tryz.f50
def K2:=cb K0
def K4:=cb K2
def K6:=cb K4
def K13:=ca K6
end bJ
def bJ.pt(hv:zY)(wv:Int)(H:zW)(R:zv):Prop:=
 dB.C wv H (λv H1=> ∃n u xA xX o:Int,v=.agg #[.int .i64 n,.int .i64 u,.int .i64 xA,.int .i64 xX,.int .u64 o]/\
 ∀(b:Nat) (H2:zW),b=H1.size->H2=H1.push (.cells #[.int .i64 0,.int .i64 0,.int .i64 0,.int .i64 0,.int .u64 0] 111)->
 (aJ H2 (ad b) 0 5)/\ ∀H3,H3=aP H2 (ad b) [.int .i64 n,.int .i64 u,.int .i64 xA,.int .i64 xX,.int .u64 o] 0->
 ∃J:Bool->zW->Prop,(
 ∃r:Int,hat H3 (ad b)=some (.int .i64 r)/\
 if r=2 then(
 ∃p:Int,hat H3 ((ad b).add 1)=some (.int .i64 p)/\
 if p=1 then(
 ∃y:Int,hat H3 ((ad b).add 2)=some (.int .i64 y)/\
 J ((Int.tmod y 2) !=0) H3)
 else
 ∃q:Int,hat H3 ((ad b).add 1)=some (.int .i64 q)/\
 if q=2 then(
 ∃z:Int,hat H3 ((ad b).add 2)=some (.int .i64 z)/\
 J ((Int.tmod z 2) !=0) H3)
 else
 J true H3)
 else
 J true H3)/\ ∀(af:Bool) (H4:zW),J af H4->
 if af=true then(
 R (.int .i64 (-1)) H4)
 else
 ∃d:Addr,hv=some d/\
 ∃x:zY,hat H4 d=some (.pointer x)/\
 ∃f:Addr,x=some f/\
 ∃al:zY,hat H4 f=some (.pointer al)/\
 ∃m:Addr,al=some m/\
 ∃ab:zY,hat H4 m=some (.pointer ab)/\
 ∃ah:Int,hat H4 ((ad b).add 2)=some (.int .i64 ah)/\
 bM.C ab ah H4 (λam H5=> ∃(ra rb:Int) (rc:Bool),am=.tuple #[.int .i64 ra,.int .i64 rb,.bool rc]/\
 if rc=true then(
 ∃l:Int,hat H5 ((ad b).add 2)=some (.int .i64 l)/\
 if rb=(Int.tmod l 64)then(
 ∃ak:zY,hat H5 d=some (.pointer ak)/\
 ∃ae:Addr,ak=some ae/\
 ∃aj:zY,hat H5 ae=some (.pointer aj)/\
 ∃ag:Addr,aj=some ag/\
 ∃ai:zY,hat H5 ag=some (.pointer ai)/\
 ∃ac:Addr,ai=some ac/\
 ∃(xB:zY) (xN xC:Nat),hat H5 (ac.add 1)=some (.slice xB xN xC)/\
 ∃s:Addr,xB=some s/\
 yZ ra xN/\
 ∃j:Int,hat H5 (((s.add (Int.toNat ra*9)).add 1).add 1)=some (.int .i64 j)/\
 ∃e:Int,hat H5 ((ad b).add 1)=some (.int .i64 e)/\
 if j=(zq (e-1))then(
 ∃aa:Int,hat H5 ((ad b).add 2)=some (.int .i64 aa)/\
 R (.int .i64 aa) H5)
 else
 R (.int .i64 (-1)) H5)
 else
 R (.int .i64 (-1)) H5)
 else
 R (.int .i64 (-1)) H5))
namespace bJ
theorem link{hv:zY}{wv:Int}{H:zW}{R:zv}(h:pt hv wv H R):C hv wv H R:=by
 refine T_en K0 82 Tryz.func50 ?_
 intro w0 Q hQ
 unfold pt zq at h
 refine T_su [(0,vp hv),(1,vu wv)]<| ar 0<| T_ed 1 [] []<| ar 1<| T_nd 1 [1] [(9,vu wv)]<| T_c (some 10) h ?_;clear h
 rintro v H1 ⟨n,u,xA,xX,o,rfl,h⟩
 refine T_pd [9] [(10,.agg #[vi n,vi u,vi xA,vi xX,vu o])]<| T_nw (some 5) (λb=>vp (pa b)) (.cells #[vi 0,vi 0,vi 0,vi 0,vu 0] 111) ?_
 intro b H2 e1 e2
 replace h:=h b H2 e1 e2
 refine T_pd [] [(5,vp (pa b))] ?_
 obtain⟨q4,h⟩:=h
 refine bX 111 [vi n,vi u,vi xA,vi xX,vu o] q4 ?_
 intro H3 e3
 replace h:=h H3 e3
 refine⟨[(0,vp hv),(5,vp (pa b))],pk,?_⟩
 refine T_e<| T_sz<| T_sz ?_
 obtain⟨J,h,j6⟩:=h
 refine kb (σ:=Bool) (λs_=> [(0,vp hv),(5,vp (pa b)),(29,.bool s_)]) (λs_ H=>J s_ H) ?_ ?_
 ·rintro af H4 j7
  replace h:=j6 af H4 j7
  refine T_su [(0,vp hv),(5,vp (pa b)),(29,.bool af)]<| aE ?_
  by_cases c8:af=true
  ·rw[if_pos c8]at h
   have b9:af=true:=c8
   refine eT [(0,vp hv),(5,vp (pa b)),(29,.bool true)] (by rw[b9]) ?_
   clear b9
   exact T_tz 29<| ar 3<| T_nr 1 [4] [vi (-1)] hQ h
  rw[if_neg c8]at h
  have b9:af=false:=zZ c8
  refine eT [(0,vp hv),(5,vp (pa b)),(29,.bool false)] (by rw[b9]) ?_
  clear b9
  refine T_fz 29<| T_kt<| T_sz ?_
  obtain⟨d,rfl,x,q10,f,rfl,al,q11,m,rfl,ab,q12,ah,q13,h⟩:=h
  refine yq 4 (Code.ops K13) [(12,d,[vp (some f)]),(12,f,[vp (some m)]),(12,m,[vp ab]),(12,((ad b).add 2),[vi ah])] 20 (bv 20 0) (show aK _ _ _ from⟨⟨q10,trivial⟩,⟨q11,trivial⟩,⟨q12,trivial⟩,⟨q13,trivial⟩,trivial⟩)<| T_gp 0 (some 31) (vp (some d)) (bv 20 1) [(0,vp (some d)),(5,vp (pa b)),(31,vp (some d))]<| aF 1 32 (vp (some d)) (bv 20 3) [31]<| aF 2 33 (vp (some d)) (bv 20 7) [32]<| T_g1 3 34 (vp (some f)) (bv 20 15) [33] (aT 69 (vp (some d))) (yY 12 yX)<| aF 4 35 (vp (some f)) (bv 20 31) [34]<| aF 5 36 (vp (some f)) (bv 20 63) [35]<| T_g1 6 37 (vp (some m)) (bv 20 127) [36] (aT 66 (vp (some f))) (yY 12 yQ)<| aF 7 38 (vp (some m)) (bv 20 255) [37]<| aF 8 39 (vp (some m)) (bv 20 511) [38]<| T_g1 9 40 (vp ab) (bv 20 1023) [39] (aT 63 (vp (some m))) (yY 12 yJ)<| aF 10 41 (vp (some ((ad b).add 2))) (bv 20 2047) []<| T_g1 11 42 (vi ah) (bv 20 4095) [41] (aT 3 (vp (some ((ad b).add 2)))) (yY 12 yK)<| yx 12 (some 43) (bv 20 8191) 95 #[vp ab,vi ah] h ?_;clear h
  rintro am H5 ⟨ra,rb,rc,rfl,h⟩
  refine⟨[(0,vp (some d)),(5,vp (pa b)),(43,.tuple #[vi ra,vi rb,.bool rc])],pk,(show aK _ _ _ from⟨trivial,trivial,trivial,trivial,trivial⟩),?_⟩
  refine T_g 13 (some 30) (.tuple #[vi ra,vi rb,.bool rc]) (bv 20 16383) [(0,vp (some d)),(5,vp (pa b)),(30,.tuple #[vi ra,vi rb,.bool rc])] (pure (.value (.tuple #[vi ra,vi rb,.bool rc])):Sem Next) (λ_ _ _ _ _=>rfl)<| T_g1 14 44 (vi ra) (bv 20 32767) [] (pure (.value (vi ra)):Sem Next) (λ_ _ _ _ _=>rfl)<| T_g1 15 45 (vi rb) (bv 20 65535) [] (pure (.value (vi rb)):Sem Next) (λ_ _ _ _ _=>rfl)<| T_g1 16 46 (.bool rc) (bv 20 131071) [30] (pure (.value (.bool rc)):Sem Next) (λ_ _ _ _ _=>rfl)<| T_g1 17 6 (vi ra) (bv 20 262143) [44] (pure (.value (vi ra)):Sem Next) (λ_ _ _ _ _=>rfl)<| T_g1 18 7 (vi rb) (bv 20 524287) [45] (pure (.value (vi rb)):Sem Next) (λ_ _ _ _ _=>rfl)<| T_g1 19 8 (.bool rc) (bv 20 1048575) [46] (pure (.value (.bool rc)):Sem Next) (λ_ _ _ _ _=>rfl)<| eI [(0,vp (some d)),(5,vp (pa b)),(6,vi ra),(7,vi rb),(8,.bool rc)] sk<| yz<| aE<| T_sz<| T_sz<| ll 5<| T_q (some 47) (.bool rc) [(0,vp (some d)),(5,vp (pa b)),(6,vi ra),(7,vi rb),(47,.bool rc)]<| T_q1 48 (.bool (!rc)) [47]<| T_q1 49 (.bool (!rc)) [48] ?_
  by_cases c14:rc=true
  ·rw[if_pos c14]at h
   have b15:(!rc)=false:=congrArg Bool.not (c14)
   have b152:rc=true:=c14
   refine Q_bd 49 (b:=(!rc)) (v:=false) (by simp only[b15,b152,Bool.not_true,Bool.not_false]) ?_
   clear b15 b152
   refine T_q1 50 (vi rb) [7]<| T_q1 51 (vp (some ((ad b).add 2))) [] ?_
   obtain⟨l,q16,h⟩:=h
   refine iL (some 52) 3 q16 [51] [(52,vi l)]<| T_q1 53 (vi (Int.tmod l 64)) [52]<| T_q1 54 (.bool (rb !=(Int.tmod l 64))) [50,53]<| T_q1 55 (.bool (rb !=(Int.tmod l 64))) [49,54]<| T_q1 56 (.bool (rb !=(Int.tmod l 64))) [55] ?_
   by_cases c17:rb=(Int.tmod l 64)
   ·rw[if_pos c17]at h
    refine Q_bd 56 (bne_eq_false_iff_eq.mpr c17)<| T_q1 57 (vp (some d)) [0]<| T_q1 58 (vp (some d)) [57]<| T_q1 59 (vp (some d)) [58] ?_
    obtain⟨ak,q19,h⟩:=h
    refine iL (some 60) 69 q19 [59] [(60,vp ak)] ?_
    obtain⟨ae,rfl,h⟩:=h
    refine T_q1 61 (vp (some ae)) [60]<| T_q1 62 (vp (some ae)) [61] ?_
    obtain⟨aj,q20,h⟩:=h
    refine iL (some 63) 66 q20 [62] [(63,vp aj)] ?_
    obtain⟨ag,rfl,h⟩:=h
    refine T_q1 64 (vp (some ag)) [63]<| T_q1 65 (vp (some ag)) [64] ?_
    obtain⟨ai,q21,h⟩:=h
    refine iL (some 66) 63 q21 [65] [(66,vp ai)] ?_
    obtain⟨ac,rfl,h⟩:=h
    refine T_q1 67 (vp (some ac)) [66]<| T_q1 68 (vp (some (ac.add 1))) [67] ?_
    obtain⟨xB,xN,xC,q22,h⟩:=h
    refine iL (some 69) 75 q22 [68] [(69,vs xB xN xC)]<| T_q1 70 (vi ra) [6] ?_
    obtain⟨s,rfl,q23,h⟩:=h
    refine Q_op (some 71) (bD 75 (vs (some s) xN xC) (vi ra)) (vp (some (s.add (Int.toNat ra*9)))) (λ_=>by kernel_rfl) (λw _=>bR (P:=Tryz.prog) (t:=75) (elem:=83) (sz:=9) (a:=s) (len:=xN) (cap:=xC) (k:=.i64) (i:=ra) Tryz.underlying75 (λ_=>by kernel_rfl) q23.1 q23.2 w) [(5,vp (pa b)),(56,.bool false),(71,vp (some (s.add (Int.toNat ra*9))))] pk ?_
    refine T_q (some 72) (vp (some ((s.add (Int.toNat ra*9)).add 1))) [(5,vp (pa b)),(56,.bool false),(72,vp (some ((s.add (Int.toNat ra*9)).add 1)))]<| T_q1 73 (vp (some (((s.add (Int.toNat ra*9)).add 1).add 1))) [72] ?_
    obtain⟨j,q24,h⟩:=h
    refine iL (some 74) 3 q24 [73] [(74,vi j)]<| T_q1 75 (vp (some ((ad b).add 1))) [] ?_
    obtain⟨e,q25,h⟩:=h
    refine iL (some 76) 3 q25 [75] [(76,vi e)]<| T_q1 77 (vi (zq (e-1))) [76]<| T_q1 78 (.bool (j !=(zq (e-1)))) [74,77]<| T_q1 79 (.bool (j !=(zq (e-1)))) [56,78]<| jp [(5,vp (pa b)),(79,.bool (j !=(zq (e-1))))] sk<| T_qe ?_
    by_cases c26:j=(zq (e-1))
    ·rw[if_pos c26]at h
     refine aI 79 (bne_eq_false_iff_eq.mpr c26)<| T_kt<| ar 7<| T_n 1 [(80,vp (some ((ad b).add 2)))] ?_
     obtain⟨aa,q28,h⟩:=h
     exact T_l1 81 3 q28 [80]<| T_nr 1 [4] [vi aa] hQ h
    rw[if_neg c26]at h
    exact aH 79 (bne_iff_ne.mpr c26)<| ar 6<| T_nr 1 [4] [vi (-1)] hQ h
   rw[if_neg c17]at h
   refine Q_bd 56 (bne_iff_ne.mpr c17)<| T_q1 57 (undef) [0]<| T_q1 58 (undef) [57]<| T_q1 59 (undef) [58]<| T_q1 60 (undef) [59]<| T_q1 61 (undef) [60]<| T_q1 62 (undef) [61]<| T_q1 63 (undef) [62]<| T_q1 64 (undef) [63] ?_
   exact T_q1 65 (undef) [64]<| T_q1 66 (undef) [65]<| T_q1 67 (undef) [66]<| T_q1 68 (undef) [67]<| T_q1 69 (undef) [68]<| T_q1 70 (undef) [6]<| T_q1 71 (undef) [69,70]<| T_q1 72 (undef) [71]<| T_q1 73 (undef) [72]<| T_q1 74 (undef) [73]<| T_q1 75 (undef) []<| T_q1 76 (undef) [75]<| T_q1 77 (undef) [76]<| T_q1 78 (undef) [74,77]<| T_q1 79 (.bool true) [56,78]<| jp [(5,vp (pa b)),(79,.bool true)] sk<| T_qe<| T_tz 79<| ar 6<| T_nr 1 [4] [vi (-1)] hQ h
  rw[if_neg c14]at h
  have b15:(!rc)=true:=congrArg Bool.not (zZ c14)
  have b152:rc=false:=zZ c14
  refine Q_bd 49 (b:=(!rc)) (v:=true) (by simp only[b15,b152,Bool.not_true,Bool.not_false]) ?_
  clear b15 b152
  exact T_q1 50 (undef) [7]<| T_q1 51 (undef) []<| T_q1 52 (undef) [51]<| T_q1 53 (undef) [52]<| T_q1 54 (undef) [50,53]<| T_q1 55 (.bool true) [49,54]<| T_q1 56 (.bool true) [55]<| T_q1 57 (undef) [0]<| T_q1 58 (undef) [57]<| T_q1 59 (undef) [58]<| T_q1 60 (undef) [59]<| T_q1 61 (undef) [60]<| T_q1 62 (undef) [61]<| T_q1 63 (undef) [62]<| T_q1 64 (undef) [63]<| T_q1 65 (undef) [64]<| T_q1 66 (undef) [65]<| T_q1 67 (undef) [66]<| T_q1 68 (undef) [67]<| T_q1 69 (undef) [68]<| T_q1 70 (undef) [6]<| T_q1 71 (undef) [69,70]<| T_q1 72 (undef) [71]<| T_q1 73 (undef) [72]<| T_q1 74 (undef) [73]<| T_q1 75 (undef) []<| T_q1 76 (undef) [75]<| T_q1 77 (undef) [76]<| T_q1 78 (undef) [74,77]<| T_q1 79 (.bool true) [56,78]<| jp [(5,vp (pa b)),(79,.bool true)] sk<| T_qe<| T_tz 79<| ar 6<| T_nr 1 [4] [vi (-1)] hQ h
 refine T_rz 2<| T_n 1 [(0,vp hv),(5,vp (pa b)),(11,vp (pa b))] ?_
 obtain⟨r,q29,h⟩:=h
 refine T_l1 12 3 q29 [11]<| T_nd 2 [12] [(14,.bool (r !=2))] ?_
 by_cases c30:r=2
 ·rw[if_pos c30]at h
  refine N_bd 14 (bne_eq_false_iff_eq.mpr c30)<| T_nd 1 [] [(15,vp (some ((ad b).add 1)))] ?_
  obtain⟨p,q32,h⟩:=h
  refine T_l1 16 3 q32 [15]<| T_nd 2 [16] [(18,.bool (p !=1))] ?_
  by_cases c33:p=1
  ·rw[if_pos c33]at h
   refine N_bd 18 (bne_eq_false_iff_eq.mpr c33)<| T_nd 7 [14,18] [(24,.bool false),(25,vp (some ((ad b).add 2)))] ?_
   obtain⟨y,q35,h⟩:=h
   exact T_l1 26 3 q35 [25]<| T_ed 3 [24,26] [(29,.bool ((Int.tmod y 2) !=0))]<| fH (((Int.tmod y 2) !=0):Bool) sk h
  rw[if_neg c33]at h
  refine N_bd 18 (bne_iff_ne.mpr c33)<| T_nd 1 [] [(19,vp (some ((ad b).add 1)))] ?_
  obtain⟨q,q36,h⟩:=h
  refine T_l1 20 3 q36 [19]<| T_nd 4 [14,18,20] [(24,.bool (q !=2))] ?_
  by_cases c37:q=2
  ·rw[if_pos c37]at h
   refine N_bd 24 (bne_eq_false_iff_eq.mpr c37)<| T_nd 1 [] [(25,vp (some ((ad b).add 2)))] ?_
   obtain⟨z,q39,h⟩:=h
   exact T_l1 26 3 q39 [25]<| T_ed 3 [24,26] [(29,.bool ((Int.tmod z 2) !=0))]<| fH (((Int.tmod z 2) !=0):Bool) sk h
  rw[if_neg c37]at h
  refine N_bd 24 (bne_iff_ne.mpr c37)<| T_ed 5 [24] [(29,.bool true)] ?_
  exact fH (true:Bool) sk h
 rw[if_neg c30]at h
 refine N_bd 14 (bne_iff_ne.mpr c30)<| T_ed 15 [14] [(29,.bool true)] ?_
 exact fH (true:Bool) sk h
end bJ

/-! (*moraine/moraineref10.Heap).Size -/
namespace cM
def K0:=Func.code Tryz.f52
end cM
def cM.pt(hv:zY)(wv:Int)(H:zW)(R:zv):Prop:=
 bJ.C hv wv H (λv H1=> ∃x:Int,v=.int .i64 x/\
 if x>=0 then(
 R (.int .i64 2) H1)
 else
 aW.C hv wv H1 (λk H2=> ∃ra a e f i d:Int,k=.tuple #[.int .i64 ra,.agg #[.int .i64 a,.int .i64 e,.int .i64 f,.int .i64 i,.int .u64 d]]/\
 ∀(b:Nat) (H3:zW),b=H2.size->H3=H2.push (.cells #[.int .i64 0,.int .i64 0,.int .i64 0,.int .i64 0,.int .u64 0] 111)->
 (aJ H3 (ad b) 0 5)/\ ∀H4,H4=aP H3 (ad b) [.int .i64 a,.int .i64 e,.int .i64 f,.int .i64 i,.int .u64 d] 0->
 if ra>=0 then(
 ∃j:Int,hat H4 ((ad b).add 2)=some (.int .i64 j)/\
 R (.int .i64 (zq (j+1))) H4)
 else
 R (.int .i64 0) H4))
namespace cM
theorem link{hv:zY}{wv:Int}{H:zW}{R:zv}(h:pt hv wv H R):C hv wv H R:=by
 refine T_en K0 22 Tryz.func52 ?_
 intro w0 Q hQ
 unfold pt zq at h
 refine T_su [(0,vp hv),(1,vu wv)]<| ar 0<| T_ed 1 [] []<| T_sz<| ar 1<| T_nd 2 [] [(7,vp hv),(8,vu wv)]<| T_c (some 9) h ?_;clear h
 rintro v H1 ⟨x,rfl,h⟩
 refine T_pd [7,8] [(9,vi x)]<| T_ed 1 [9] [(10,.bool (decide (x>=0)))] ?_
 by_cases c1:x>=0
 ·rw[if_pos c1]at h
  exact aH 10 (zQ c1)<| ar 2<| T_nr 1 [4] [vi 2] hQ h
 rw[if_neg c1]at h
 refine aI 10 (zJ c1)<| T_kt<| T_sz<| ar 3<| T_n 2 [(12,vp hv),(13,vu wv)]<| T_c (some 14) h ?_;clear h
 rintro k H2 ⟨ra,a,e,f,i,d,rfl,h⟩
 refine⟨[(14,.tuple #[vi ra,.agg #[vi a,vi e,vi f,vi i,vu d]])],pk,?_⟩
 refine T_n 3 [(15,vi ra),(16,.agg #[vi a,vi e,vi f,vi i,vu d])]<| T_nw (some 6) (λb=>vp (pa b)) (.cells #[vi 0,vi 0,vi 0,vi 0,vu 0] 111) ?_
 intro b H3 e3 e4
 replace h:=h b H3 e3 e4
 refine T_pd [] [(6,vp (pa b))]<| T_nd 1 [15] [(5,vi ra)] ?_
 obtain⟨q6,h⟩:=h
 refine bX 111 [vi a,vi e,vi f,vi i,vu d] q6 ?_
 intro H4 e5
 replace h:=h H4 e5
 refine T_pd [16] []<| T_e<| ar 4<| T_ed 2 [5] [(18,.bool (decide (ra>=0)))] ?_
 by_cases c7:ra>=0
 ·rw[if_pos c7]at h
  refine aH 18 (zQ c7)<| ar 5<| T_n 1 [(19,vp (some ((ad b).add 2)))] ?_
  obtain⟨j,q9,h⟩:=h
  exact T_l1 20 3 q9 [19]<| T_nr 2 [4] [vi (zq (j+1))] hQ h
 rw[if_neg c7]at h
 exact aI 18 (zJ c7)<| T_kt<| ar 6<| T_nr 1 [4] [vi 0] hQ h
end cM

/-! (*moraine/moraineref10.Heap).Get -/
namespace cV
def K0:=Func.code Tryz.f54
end cV
def cV.pt(hv:zY)(wv a i:Int)(H:zW)(R:zv):Prop:=
 bS.C hv wv a i H (λv H1=> ∃ra rb:Int,v=.tuple #[.int .i64 ra,.int .i64 rb]/\
 if rb=0 then(
 ∃j:Addr,hv=some j/\
 ∃x:zY,hat H1 j=some (.pointer x)/\
 ∃xA:Addr,x=some xA/\
 ∃k:zY,hat H1 xA=some (.pointer k)/\
 ∃f:Addr,k=some f/\
 ∃e:zY,hat H1 f=some (.pointer e)/\
 bL.C e ra H1 (λl H2=> ∃b d:Int,l=.tuple #[.int .u64 b,.int .i64 d]/\
 R (.tuple #[.int .u64 b,.int .i64 d]) H2))
 else
 R (.tuple #[.int .u64 0,.int .i64 rb]) H1)
namespace cV
theorem link{hv:zY}{wv a i:Int}{H:zW}{R:zv}(h:pt hv wv a i H R):C hv wv a i H R:=by
 refine T_en K0 37 Tryz.func54 ?_
 intro w0 Q hQ
 unfold pt at h
 refine T_su [(0,vp hv),(1,vu wv),(2,vi a),(3,vi i)]<| ar 0<| T_ed 2 [] []<| ar 1<| T_n 4 [(0,vp hv),(13,vp hv),(14,vu wv),(15,vi a),(16,vi i)]<| T_c (some 17) h ?_;clear h
 rintro v H1 ⟨ra,rb,rfl,h⟩
 refine⟨[(0,vp hv),(17,.tuple #[vi ra,vi rb])],pk,?_⟩
 refine T_ed 5 [17] [(10,vi ra),(11,vi rb)]<| T_sz<| ar 2<| T_ed 2 [] [(21,.bool (rb !=0))] ?_
 by_cases c1:rb=0
 ·rw[if_pos c1]at h
  refine aI 21 (bne_eq_false_iff_eq.mpr c1)<| T_kt<| ar 4<| T_n 1 [(10,vi ra),(23,vp hv)] ?_
  obtain⟨j,rfl,h⟩:=h
  refine T_nd 2 [23] [(25,vp (some j))] ?_
  obtain⟨x,q3,h⟩:=h
  refine T_l1 26 69 q3 [25] ?_
  obtain⟨xA,rfl,h⟩:=h
  refine T_nd 2 [26] [(28,vp (some xA))] ?_
  obtain⟨k,q4,h⟩:=h
  refine T_l1 29 66 q4 [28] ?_
  obtain⟨f,rfl,h⟩:=h
  refine T_nd 2 [29] [(31,vp (some f))] ?_
  obtain⟨e,q5,h⟩:=h
  refine T_l1 32 63 q5 [31]<| T_nd 1 [10] [(33,vi ra)]<| T_c (some 34) h ?_;clear h
  rintro l H2 ⟨b,d,rfl,h⟩
  refine⟨[(34,.tuple #[vu b,vi d])],pk,?_⟩
  exact T_nr 4 [8,9] [vu b,vi d] hQ h
 rw[if_neg c1]at h
 exact aH 21 (bne_iff_ne.mpr c1)<| ar 3<| T_nr 3 [8,9] [vu 0,vi rb] hQ h
end cV

/-! (*moraine/moraineref10.Heap).Text -/
namespace cN
def K0:=Func.code Tryz.f55
def K2:=cb K0
def K4:=cb K2
def K6:=cb K4
def K14:=cb K6
def K15:=ca K14
def K18:=cb K15
def K19:=ca K18
def K20:=ca K19
end cN
def cN.pt(hv:zY)(wv:Int)(H:zW)(R:zv):Prop:=
 aW.C hv wv H (λv H1=> ∃ra f k n o j:Int,v=.tuple #[.int .i64 ra,.agg #[.int .i64 f,.int .i64 k,.int .i64 n,.int .i64 o,.int .u64 j]]/\
 ∀(b:Nat) (H2:zW),b=H1.size->H2=H1.push (.cells #[.int .i64 0,.int .i64 0,.int .i64 0,.int .i64 0,.int .u64 0] 111)->
 (aJ H2 (ad b) 0 5)/\ ∀H3,H3=aP H2 (ad b) [.int .i64 f,.int .i64 k,.int .i64 n,.int .i64 o,.int .u64 j] 0->
 if ra<0 then(
 R (.tuple #[.string (ByteArray.mk #[]),.int .i64 3]) H3)
 else
 ∃x:Int,hat H3 ((ad b).add 1)=some (.int .i64 x)/\
 if x=2 then(
 ∃(t:zY->Nat->Nat->zw) (m21:zY->Nat->Nat->Int->zW->Nat),t none 0 0 0 H3/\ ∀(a:zY) (outN:Nat) (outC:Nat) (i:Int) (H4:zW),t a outN outC i H4->
 ∃r:Int,hat H4 ((ad b).add 2)=some (.int .i64 r)/\
 if i<r then(
 ∃d:Addr,hv=some d/\
 ∃af:zY,hat H4 d=some (.pointer af)/\
 ∃ac:Addr,af=some ac/\
 ∃ae:zY,hat H4 ac=some (.pointer ae)/\
 ∃ag:Addr,ae=some ag/\
 ∃u:zY,hat H4 ag=some (.pointer u)/\
 bL.C u (zq ((zq (ra+1))+i)) H4 (λaj H5=> ∃e rb:Int,aj=.tuple #[.int .u64 e,.int .i64 rb]/\
 if e<=1114111 then(
 dL.C (IntKind.wrap .i32 e) H5 (λak H6=> ∃s:Bool,ak=.bool s/\
 if s=true then(
 ∀(aa:Nat) (H7:zW),aa=H6.size->H7=H6.push (.cells #[.int .i32 (IntKind.wrap .i32 e)] 21)->
 bW 1 21 4 [.int .i32 0] a outN outC (some (ad aa)) 1 H7 (λap y H8=>
 (t ap (outN+1) y (zq (i+1)) H8/\m21 ap (outN+1) y (zq (i+1)) H8<m21 a outN outC i H4)))
 else
 ∀(z:Nat) (H9:zW),z=H6.size->H9=H6.push (.cells #[.int .i32 65533] 21)->
 bW 1 21 4 [.int .i32 0] a outN outC (some (ad z)) 1 H9 (λq m ai=>
 (t q (outN+1) m (zq (i+1)) ai/\m21 q (outN+1) m (zq (i+1)) ai<m21 a outN outC i H4))))
 else
 ∀(ab:Nat) (H11:zW),ab=H5.size->H11=H5.push (.cells #[.int .i32 65533] 21)->
 bW 1 21 4 [.int .i32 0] a outN outC (some (ad ab)) 1 H11 (λp l ah=>
 (t p (outN+1) l (zq (i+1)) ah/\m21 p (outN+1) l (zq (i+1)) ah<m21 a outN outC i H4))))
 else
 ∃rs:List Int,(cY H4 a (rs.map (Value.int .i32))/\(a≠none->rs.length=outN))/\
 R (.tuple #[.string (il rs),.int .i64 0]) H4)
 else
 R (.tuple #[.string (ByteArray.mk #[]),.int .i64 3]) H3)
namespace cN
theorem link{hv:zY}{wv:Int}{H:zW}{R:zv}(h:pt hv wv H R):C hv wv H R:=by
 refine T_en K0 65 Tryz.func55 ?_
 intro w0 Q hQ
 unfold pt zq at h
 refine T_su [(0,vp hv),(1,vu wv)]<| ar 0<| T_ed 2 [] []<| ar 1<| T_nd 2 [1] [(14,vp hv),(15,vu wv)]<| T_c (some 16) h ?_;clear h
 rintro v H1 ⟨ra,f,k,n,o,j,rfl,h⟩
 refine T_pd [14,15] [(16,.tuple #[vi ra,.agg #[vi f,vi k,vi n,vi o,vu j]])]<| T_nd 3 [16] [(17,vi ra),(18,.agg #[vi f,vi k,vi n,vi o,vu j])]<| T_nw (some 7) (λb=>vp (pa b)) (.cells #[vi 0,vi 0,vi 0,vi 0,vu 0] 111) ?_
 intro b H2 e1 e2
 replace h:=h b H2 e1 e2
 refine T_pd [] [(7,vp (pa b))]<| T_nd 1 [17] [(6,vi ra)] ?_
 obtain⟨q4,h⟩:=h
 refine bX 111 [vi f,vi k,vi n,vi o,vu j] q4 ?_
 intro H3 e3
 replace h:=h H3 e3
 refine T_pd [18] []<| T_e<| T_sz<| ar 2<| T_nd 3 [] [(21,.bool (decide (ra<0)))] ?_
 by_cases c5:ra<0
 ·rw[if_pos c5]at h
  exact N_bd 21 (zQ c5)<| T_ed 4 [21] [(25,.bool true)]<| T_tz 25<| ar 3<| T_nr 2 [4,5] [.string (ByteArray.mk #[]),vi 3] hQ h
 rw[if_neg c5]at h
 refine N_bd 21 (zJ c5)<| T_nd 1 [] [(22,vp (some ((ad b).add 1)))] ?_
 obtain⟨x,q7,h⟩:=h
 refine T_l1 23 3 q7 [22]<| T_ed 2 [21,23] [(25,.bool (x !=2))] ?_
 by_cases c8:x=2
 ·rw[if_pos c8]at h
  refine aI 25 (bne_eq_false_iff_eq.mpr c8)<| T_kt<| ar 4<| T_ed 1 [25] [(8,vs none 0 0)]<| T_sz<| ar 5<| T_ed 1 [] [(9,vi 0)]<| T_bz 0 ?_
  obtain⟨t,m21,i10,i11⟩:=h
  refine dS (x:=K20) (σ:=zY×Nat×Nat×Int) (λs_=> [(0,vp hv),(6,vi ra),(7,vp (pa b)),(8,vs s_.1 s_.2.1 s_.2.2.1),(9,vi s_.2.2.2)]) (λs_ H=>t s_.1 s_.2.1 s_.2.2.1 s_.2.2.2 H) (λs_ H=>m21 s_.1 s_.2.1 s_.2.2.1 s_.2.2.2 H) ((none,0,0,0):zY×Nat×Nat×Int) (by kernel_rfl) i10 sk ?_
  rintro⟨a,outN,outC,i⟩ H4 i12
  have h:=i11 a outN outC i H4 i12
  refine T_su [(0,vp hv),(6,vi ra),(7,vp (pa b)),(8,vs a outN outC),(9,vi i)]<| T_sz<| ar 6<| T_nd 2 [] [(26,vi i),(27,vp (some ((ad b).add 2)))] ?_
  obtain⟨r,q13,h⟩:=h
  refine T_l1 28 3 q13 [27]<| T_ed 1 [26,28] [(29,.bool (decide (i<r)))] ?_
  by_cases c14:i<r
  ·rw[if_pos c14]at h
   refine aH 29 (zQ c14)<| T_kt<| T_sz<| T_bz 1<| ar 8<| T_nd 1 [29] [(33,vp hv)] ?_
   obtain⟨d,rfl,h⟩:=h
   refine T_nd 2 [0,33] [(0,vp (some d)),(35,vp (some d))] ?_
   obtain⟨af,q16,h⟩:=h
   refine T_l1 36 69 q16 [35] ?_
   obtain⟨ac,rfl,h⟩:=h
   refine T_nd 2 [36] [(38,vp (some ac))] ?_
   obtain⟨ae,q17,h⟩:=h
   refine T_l1 39 66 q17 [38] ?_
   obtain⟨ag,rfl,h⟩:=h
   refine T_nd 2 [39] [(41,vp (some ag))] ?_
   obtain⟨u,q18,h⟩:=h
   refine T_l1 42 63 q18 [41]<| T_nd 4 [] [(46,vi (zq ((zq (ra+1))+i)))]<| T_c (some 47) h ?_;clear h
   rintro aj H5 ⟨e,rb,rfl,h⟩
   refine T_pd [42,46] [(47,.tuple #[vu e,vi rb])]<| T_ed 5 [47] [(10,vu e)]<| ar 9<| T_ed 1 [] [(12,.int .i32 65533)]<| T_sz<| ar 10<| T_nd 3 [] [(52,.bool (decide (e<=1114111)))] ?_
   by_cases c19:e<=1114111
   ·rw[if_pos c19]at h
    refine N_bd 52 (zQ c19)<| T_nd 2 [] [(54,.int .i32 (IntKind.wrap .i32 e))] ?_
    refine T_c (some 55) h ?_;clear h
    rintro ak H6 ⟨s,rfl,h⟩
    refine T_pd [54] [(55,.bool s)]<| T_ed 1 [52,55] [(56,.bool s)] ?_
    by_cases c21:s=true
    ·rw[if_pos c21]at h
     refine aH 56 c21<| T_rz 11<| T_ed 3 [10,12,56] [(12,.int .i32 (IntKind.wrap .i32 e))]<| T_rz 12<| T_nd 2 [8,12] [(59,vs a outN outC),(60,.int .i32 (IntKind.wrap .i32 e))]<| T_nw (some 61) (λb=>vs (pa b) 1 1) (.cells #[.int .i32 (IntKind.wrap .i32 e)] 21) ?_
     intro aa H7 e23 e24
     replace h:=h aa H7 e23 e24
     refine T_pd [60] [(61,vs (pa aa) 1 1)]<| N_op (some 62) (cS #[137,137] 137 #[vs a outN outC,vs (pa aa) 1 1]) _ (λ_=>by kernel_rfl) (bP (T:=21) (sz:=1) (bytes:=4) (zero:=(.int .i32 0:Value)) Tryz.underlying137 Tryz.underlying137 rfl (show Tryz.prog.info? 21=some Tryz.t21 from by kernel_rfl) (by kernel_rfl) (by kernel_rfl) (by decide) (by kernel_rfl) (by first | exact h | (simpa only[Value.cells,List.toList_toArray]using h))) ?_;clear h
     rintro _ H8 ⟨ap,y,rfl,h⟩
     exact T_pd [59,61] [(62,vs ap (outN+1) y)]<| T_nd 1 [62] [(8,vs ap (outN+1) y)]<| zx<| aL<| aE<| T_rz 7<| T_ed 3 [9] [(9,vi (zq (i+1)))]<| bG ((ap,(outN+1),y,(zq (i+1))):zY×Nat×Nat×Int) sk h
    rw[if_neg c21]at h
    refine aI 56 (zZ c21)<| T_kt<| T_rz 12<| T_nd 2 [8,10,12,56] [(59,vs a outN outC),(60,.int .i32 65533)]<| T_nw (some 61) (λb=>vs (pa b) 1 1) (.cells #[.int .i32 65533] 21) ?_
    intro z H9 e25 e26
    replace h:=h z H9 e25 e26
    refine T_pd [60] [(61,vs (pa z) 1 1)]<| N_op (some 62) (cS #[137,137] 137 #[vs a outN outC,vs (pa z) 1 1]) _ (λ_=>by kernel_rfl) (bP (T:=21) (sz:=1) (bytes:=4) (zero:=(.int .i32 0:Value)) Tryz.underlying137 Tryz.underlying137 rfl (show Tryz.prog.info? 21=some Tryz.t21 from by kernel_rfl) (by kernel_rfl) (by kernel_rfl) (by decide) (by kernel_rfl) (by first | exact h | (simpa only[Value.cells,List.toList_toArray]using h))) ?_;clear h
    rintro _ ai ⟨q,m,rfl,h⟩
    exact T_pd [59,61] [(62,vs q (outN+1) m)]<| T_nd 1 [62] [(8,vs q (outN+1) m)]<| zx<| aL<| aE<| T_rz 7<| T_ed 3 [9] [(9,vi (zq (i+1)))]<| bG ((q,(outN+1),m,(zq (i+1))):zY×Nat×Nat×Int) sk h
   rw[if_neg c19]at h
   refine N_bd 52 (zJ c19)<| T_ed 4 [52] [(56,.bool false)]<| T_fz 56<| T_kt<| T_rz 12<| T_nd 2 [8,10,12,56] [(59,vs a outN outC),(60,.int .i32 65533)]<| T_nw (some 61) (λb=>vs (pa b) 1 1) (.cells #[.int .i32 65533] 21) ?_
   intro ab H11 e27 e28
   replace h:=h ab H11 e27 e28
   refine T_pd [60] [(61,vs (pa ab) 1 1)]<| N_op (some 62) (cS #[137,137] 137 #[vs a outN outC,vs (pa ab) 1 1]) _ (λ_=>by kernel_rfl) (bP (T:=21) (sz:=1) (bytes:=4) (zero:=(.int .i32 0:Value)) Tryz.underlying137 Tryz.underlying137 rfl (show Tryz.prog.info? 21=some Tryz.t21 from by kernel_rfl) (by kernel_rfl) (by kernel_rfl) (by decide) (by kernel_rfl) (by first | exact h | (simpa only[Value.cells,List.toList_toArray]using h))) ?_;clear h
   rintro _ ah ⟨p,l,rfl,h⟩
   exact T_pd [59,61] [(62,vs p (outN+1) l)]<| T_nd 1 [62] [(8,vs p (outN+1) l)]<| zx<| aL<| aE<| T_rz 7<| T_ed 3 [9] [(9,vi (zq (i+1)))]<| bG ((p,(outN+1),l,(zq (i+1))):zY×Nat×Nat×Int) sk h
  rw[if_neg c14]at h
  refine aI 29 (zJ c14)<| zk 0<| aD<| aD<| aR<| aE<| ar 13<| T_n 1 [(63,vs a outN outC)] ?_
  obtain⟨rs,q29,h⟩:=h
  exact T_v1 64 (jL 137 9 (vs a outN outC)) (.string (il rs)) (λw hw=>kO Tryz.underlying137 Tryz.underlying9 Tryz.underlying21 (by rw[hw];exact q29.1) q29.2) [63]<| T_nr 2 [4,5] [.string (il rs),vi 0] hQ h
 rw[if_neg c8]at h
 exact aH 25 (bne_iff_ne.mpr c8)<| ar 3<| T_nr 2 [4,5] [.string (ByteArray.mk #[]),vi 3] hQ h
end cN

