/- Printed: what each function asks, and that it is sound. -/
import Derived.Test.YtihdffpekpnglaaGreatFnsC
set_option linter.unusedSimpArgs false
set_option linter.unusedVariables false
set_option maxRecDepth 100000
set_option maxHeartbeats 1000000
noncomputable section
namespace Go.Proofs.YtihdffpekpnglaaGreat
open Go
/-! (*moraine/moraineref10.Heap).Num -/
namespace cW
def K0:=Func.code Tryz.f57
def K2:=cb K0
def K4:=cb K2
def K14:=cb K4
def K16:=cb K14
def K24:=cb K16
def K25:=ca K24
def K28:=cb K25
def K29:=ca K28
def K30:=ca K29
end cW
def cW.pt(hv:zY)(wv:Int)(H:zW)(R:zv):Prop:=
 ∀(b:Nat) (H1:zW),b=H.size->H1=H.push (.cells #[.bool false,.slice none 0 0] 39)->
 dB.C wv H1 (λv H2=> ∃t af xA xX u:Int,v=.agg #[.int .i64 t,.int .i64 af,.int .i64 xA,.int .i64 xX,.int .u64 u]/\
 ∀(m:Nat) (H3:zW),m=H2.size->H3=H2.push (.cells #[.int .i64 0,.int .i64 0,.int .i64 0,.int .i64 0,.int .u64 0] 111)->
 (aJ H3 (ad m) 0 5)/\ ∀H4,H4=aP H3 (ad m) [.int .i64 t,.int .i64 af,.int .i64 xA,.int .i64 xX,.int .u64 u] 0->
 ∃x:Int,hat H4 (ad m)=some (.int .i64 x)/\
 if x=1 then(
 ∃bh:Int,hat H4 ((ad m).add 3)=some (.int .i64 bh)/\
 eB.C bh H4 (λb1 H5=> ∃(a2:Bool) (ac:zY) (ab ae:Nat),b1=.agg #[.bool a2,.slice ac ab ae]/\
 (aJ H5 (ad b) 0 2)/\ ∀H6,H6=aP H5 (ad b) [.bool a2,.slice ac ab ae] 0->
 ∃(bj:Bool) (bd:zY) (bc be:Nat),aG H6 (ad b) 0 [.bool bj,.slice bd bc be]/\
 R (.tuple #[.agg #[.bool bj,.slice bd bc be],.int .i64 0]) H6))
 else
 aW.C hv wv H4 (λb4 H7=> ∃ra f o a0 az j:Int,b4=.tuple #[.int .i64 ra,.agg #[.int .i64 f,.int .i64 o,.int .i64 a0,.int .i64 az,.int .u64 j]]/\
 ∀(a:Nat) (H8:zW),a=H7.size->H8=H7.push (.cells #[.int .i64 0,.int .i64 0,.int .i64 0,.int .i64 0,.int .u64 0] 111)->
 (aJ H8 (ad a) 0 5)/\ ∀H9,H9=aP H8 (ad a) [.int .i64 f,.int .i64 o,.int .i64 a0,.int .i64 az,.int .u64 j] 0->
 if ra<0 then(
 (aJ H9 (ad b) 0 2)/\ ∀bl,bl=aP H9 (ad b) [.bool false,.slice none 0 0] 0->
 ∃(ba:Bool) (an:zY) (aj aw:Nat),aG bl (ad b) 0 [.bool ba,.slice an aj aw]/\
 R (.tuple #[.agg #[.bool ba,.slice an aj aw],.int .i64 3]) bl)
 else
 ∃a9:Int,hat H9 ((ad a).add 1)=some (.int .i64 a9)/\
 if a9=3 then(
 ∃a3:Int,hat H9 ((ad a).add 4)=some (.int .u64 a3)/\
 if a3>1 then(
 (aJ H9 (ad b) 0 2)/\ ∀bw,bw=aP H9 (ad b) [.bool false,.slice none 0 0] 0->
 ∃(a5:Bool) (ay:zY) (au ai:Nat),aG bw (ad b) 0 [.bool a5,.slice ay au ai]/\
 R (.tuple #[.agg #[.bool a5,.slice ay au ai],.int .i64 3]) bw)
 else
 ∃a1:Int,hat H9 ((ad a).add 4)=some (.int .u64 a1)/\
 ∀(d:Nat) (H12:zW),d=H9.size->H12=H9.push (.cells #[.bool false,.slice none 0 0] 39)->
 (aJ H12 (ad d) 0 2)/\ ∀bz,bz=aP H12 (ad d) [.bool (a1==1),.slice none 0 0] 0->
 ∃(bp:zw) (m31:Int->zW->Nat),bp 0 bz/\ ∀(i:Int) (H14:zW),bp i H14->
 ∃a4:Int,hat H14 ((ad a).add 2)=some (.int .i64 a4)/\
 if i<a4 then(
 ∃e:Addr,hv=some e/\
 ∃br:zY,hat H14 e=some (.pointer br)/\
 ∃bt:Addr,br=some bt/\
 ∃bq:zY,hat H14 bt=some (.pointer bq)/\
 ∃bm:Addr,bq=some bm/\
 ∃bf:zY,hat H14 bm=some (.pointer bf)/\
 bL.C bf (zq ((zq (ra+1))+i)) H14 (λb2 bx=> ∃aa rb:Int,b2=.tuple #[.int .u64 aa,.int .i64 rb]/\
 ∃(xB:zY) (xN xC:Nat),hat bx ((ad d).add 1)=some (.slice xB xN xC)/\
 ∀(bi:Nat) (H16:zW),bi=bx.size->H16=bx.push (.cells #[.int .u32 (IntKind.wrap .u32 (Int.tmod aa 4294967296))] 154)->
 bW 1 154 4 [.int .u32 0] xB xN xC (some (ad bi)) 1 H16 (λap bg b0=>
 (aJ b0 ((ad d).add 1) 0 1)/\ ∀bo,bo=aP b0 ((ad d).add 1) [.slice ap (xN+1) bg] 0->
 (bp (zq (i+1)) bo/\m31 (zq (i+1)) bo<m31 i H14))))
 else
 ∃(z:Bool) (q:zY) (r s:Nat),aG H14 (ad d) 0 [.bool z,.slice q r s]/\
 eZ.C z q r s H14 (λb3 bb=> ∃y:Bool,b3=.bool y/\
 if y=true then(
 ∃(p:Bool) (l:zY) (k n:Nat),aG bb (ad d) 0 [.bool p,.slice l k n]/\
 (aJ bb (ad b) 0 2)/\ ∀bk,bk=aP bb (ad b) [.bool p,.slice l k n] 0->
 ∃(a7:Bool) (am:zY) (ah ao:Nat),aG bk (ad b) 0 [.bool a7,.slice am ah ao]/\
 R (.tuple #[.agg #[.bool a7,.slice am ah ao],.int .i64 0]) bk)
 else
 (aJ bb (ad b) 0 2)/\ ∀bu,bu=aP bb (ad b) [.bool false,.slice none 0 0] 0->
 ∃(a6:Bool) (ag:zY) (al ak:Nat),aG bu (ad b) 0 [.bool a6,.slice ag al ak]/\
 R (.tuple #[.agg #[.bool a6,.slice ag al ak],.int .i64 3]) bu))
 else
 (aJ H9 (ad b) 0 2)/\ ∀bn,bn=aP H9 (ad b) [.bool false,.slice none 0 0] 0->
 ∃(a8:Bool) (aq:zY) (ax av:Nat),aG bn (ad b) 0 [.bool a8,.slice aq ax av]/\
 R (.tuple #[.agg #[.bool a8,.slice aq ax av],.int .i64 3]) bn))
namespace cW
theorem link{hv:zY}{wv:Int}{H:zW}{R:zv}(h:pt hv wv H R):C hv wv H R:=by
 refine T_en K0 81 Tryz.func57 ?_
 intro w0 Q hQ
 unfold pt zq at h
 refine T_su [(0,vp hv),(1,vu wv)]<| ar 0<| T_nw (some 4) (λb=>vp (pa b)) (.cells #[.bool false,vs none 0 0] 39) ?_
 intro b H1 e1 e2
 replace h:=h b H1 e1 e2
 refine T_pd [] [(4,vp (pa b))]<| T_ed 1 [] []<| T_sz<| ar 1<| T_nd 1 [] [(13,vu wv)]<| T_c (some 14) h ?_;clear h
 rintro v H2 ⟨t,af,xA,xX,u,rfl,h⟩
 refine T_pd [13] [(14,.agg #[vi t,vi af,vi xA,vi xX,vu u])]<| T_nw (some 6) (λb=>vp (pa b)) (.cells #[vi 0,vi 0,vi 0,vi 0,vu 0] 111) ?_
 intro m H3 e3 e4
 replace h:=h m H3 e3 e4
 refine T_pd [] [(6,vp (pa m))] ?_
 obtain⟨q6,h⟩:=h
 refine bX 111 [vi t,vi af,vi xA,vi xX,vu u] q6 ?_
 intro H4 e5
 replace h:=h H4 e5
 refine T_pd [14] []<| T_e<| ar 2<| T_nd 1 [] [(15,vp (pa m))] ?_
 obtain⟨x,q7,h⟩:=h
 refine T_l1 16 3 q7 [15]<| T_ed 1 [16] [(17,.bool (x==1))] ?_
 by_cases c8:x=1
 ·rw[if_pos c8]at h
  refine aH 17 (zV c8)<| ar 3<| T_n 1 [(4,vp (pa b)),(18,vp (some ((ad m).add 3)))] ?_
  obtain⟨bh,q10,h⟩:=h
  refine T_l1 19 2 q10 [18]<| T_c (some 20) h ?_;clear h
  rintro b1 H5 ⟨a2,ac,ab,ae,rfl,h⟩
  refine T_pd [19] [(20,.agg #[.bool a2,vs ac ab ae])] ?_
  obtain⟨q12,h⟩:=h
  refine bX 39 [.bool a2,vs ac ab ae] q12 ?_
  intro H6 e11
  replace h:=h H6 e11
  refine T_pd [20] []<| T_ed 1 [] [(5,vi 0)]<| zz ?_
  show At _ _ _ _ _ (Q .ret)
  obtain⟨bj,bd,bc,be,q13,h⟩:=h
  exact cP (fn:=Tryz.f57) [.agg #[.bool bj,vs bd bc be],vi 0] hQ (show cK _ _ _ [.cell 4 39,.tmp 5] _ from .cell (by kernel_rfl) (aQ (λ_=>by kernel_rfl) (λ_=>by kernel_rfl) q13) (.tmp (by kernel_rfl) (.nil))) h
 rw[if_neg c8]at h
 refine aI 17 (zK c8)<| T_kt<| ar 4<| T_nd 2 [1,6,17] [(22,vp hv),(23,vu wv)]<| T_c (some 24) h ?_;clear h
 rintro b4 H7 ⟨ra,f,o,a0,az,j,rfl,h⟩
 refine T_pd [22,23] [(24,.tuple #[vi ra,.agg #[vi f,vi o,vi a0,vi az,vu j]])]<| T_nd 3 [24] [(25,vi ra),(26,.agg #[vi f,vi o,vi a0,vi az,vu j])]<| T_nw (some 8) (λb=>vp (pa b)) (.cells #[vi 0,vi 0,vi 0,vi 0,vu 0] 111) ?_
 intro a H8 e14 e15
 replace h:=h a H8 e14 e15
 refine T_pd [] [(8,vp (pa a))]<| T_nd 1 [25] [(7,vi ra)] ?_
 obtain⟨q17,h⟩:=h
 refine bX 111 [vi f,vi o,vi a0,vi az,vu j] q17 ?_
 intro H9 e16
 replace h:=h H9 e16
 refine T_pd [26] []<| T_e<| T_sz<| ar 5<| T_nd 3 [] [(29,.bool (decide (ra<0)))] ?_
 by_cases c18:ra<0
 ·rw[if_pos c18]at h
  refine N_bd 29 (zQ c18)<| T_ed 9 [29] [(38,.bool true)]<| T_tz 38<| ar 6<| T_n 1 [(4,vp (pa b)),(39,.agg #[.bool false,vs none 0 0])] ?_
  obtain⟨q21,h⟩:=h
  refine bX 39 [.bool false,vs none 0 0] q21 ?_
  intro bl e20
  replace h:=h bl e20
  refine T_pd [39] []<| T_ed 1 [] [(5,vi 3)]<| zz ?_
  show At _ _ _ _ _ (Q .ret)
  obtain⟨ba,an,aj,aw,q22,h⟩:=h
  exact cP (fn:=Tryz.f57) [.agg #[.bool ba,vs an aj aw],vi 3] hQ (show cK _ _ _ [.cell 4 39,.tmp 5] _ from .cell (by kernel_rfl) (aQ (λ_=>by kernel_rfl) (λ_=>by kernel_rfl) q22) (.tmp (by kernel_rfl) (.nil))) h
 rw[if_neg c18]at h
 refine N_bd 29 (zJ c18)<| T_nd 1 [] [(30,vp (some ((ad a).add 1)))] ?_
 obtain⟨a9,q23,h⟩:=h
 refine T_l1 31 3 q23 [30]<| T_nd 3 [29,31] [(34,.bool (a9 !=3))] ?_
 by_cases c24:a9=3
 ·rw[if_pos c24]at h
  refine N_bd 34 (bne_eq_false_iff_eq.mpr c24)<| T_nd 1 [] [(35,vp (some ((ad a).add 4)))] ?_
  obtain⟨a3,q26,h⟩:=h
  refine T_l1 36 32 q26 [35]<| T_ed 2 [34,36] [(38,.bool (decide (a3>1)))] ?_
  by_cases c27:a3>1
  ·rw[if_pos c27]at h
   refine aH 38 (zQ c27)<| ar 6<| T_n 1 [(4,vp (pa b)),(39,.agg #[.bool false,vs none 0 0])] ?_
   obtain⟨q30,h⟩:=h
   refine bX 39 [.bool false,vs none 0 0] q30 ?_
   intro bw e29
   replace h:=h bw e29
   refine T_pd [39] []<| T_ed 1 [] [(5,vi 3)]<| zz ?_
   show At _ _ _ _ _ (Q .ret)
   obtain⟨a5,ay,au,ai,q31,h⟩:=h
   exact cP (fn:=Tryz.f57) [.agg #[.bool a5,vs ay au ai],vi 3] hQ (show cK _ _ _ [.cell 4 39,.tmp 5] _ from .cell (by kernel_rfl) (aQ (λ_=>by kernel_rfl) (λ_=>by kernel_rfl) q31) (.tmp (by kernel_rfl) (.nil))) h
  rw[if_neg c27]at h
  refine aI 38 (zJ c27)<| T_kt<| ar 7<| T_nd 1 [38] [(40,vp (some ((ad a).add 4)))] ?_
  obtain⟨a1,q32,h⟩:=h
  refine T_l1 41 32 q32 [40]<| T_nd 2 [41] [(43,.agg #[.bool (a1==1),vs none 0 0])]<| T_nw (some 9) (λb=>vp (pa b)) (.cells #[.bool false,vs none 0 0] 39) ?_
  intro d H12 e33 e34
  replace h:=h d H12 e33 e34
  refine T_pd [] [(9,vp (pa d))] ?_
  obtain⟨q36,h⟩:=h
  refine bX 39 [.bool (a1==1),vs none 0 0] q36 ?_
  intro bz e35
  replace h:=h bz e35
  refine T_pd [43] []<| T_e<| T_sz<| ar 8<| T_ed 1 [] [(10,vi 0)]<| T_bz 0 ?_
  obtain⟨bp,m31,i37,i38⟩:=h
  refine dS (x:=K30) (σ:=Int) (λs_=> [(0,vp hv),(4,vp (pa b)),(7,vi ra),(8,vp (pa a)),(9,vp (pa d)),(10,vi s_)]) (λs_ H=>bp s_ H) (λs_ H=>m31 s_ H) (0:Int) (by kernel_rfl) i37 sk ?_
  rintro i H14 i39
  have h:=i38 i H14 i39
  refine T_su [(0,vp hv),(4,vp (pa b)),(7,vi ra),(8,vp (pa a)),(9,vp (pa d)),(10,vi i)]<| T_sz<| ar 9<| T_nd 2 [] [(44,vi i),(45,vp (some ((ad a).add 2)))] ?_
  obtain⟨a4,q40,h⟩:=h
  refine T_l1 46 3 q40 [45]<| T_ed 1 [44,46] [(47,.bool (decide (i<a4)))] ?_
  by_cases c41:i<a4
  ·rw[if_pos c41]at h
   refine aH 47 (zQ c41)<| T_kt<| T_sz<| T_bz 1<| ar 11<| T_nd 1 [47] [(51,vp hv)] ?_
   obtain⟨e,rfl,h⟩:=h
   refine T_nd 2 [0,51] [(0,vp (some e)),(53,vp (some e))] ?_
   obtain⟨br,q43,h⟩:=h
   refine T_l1 54 69 q43 [53] ?_
   obtain⟨bt,rfl,h⟩:=h
   refine T_nd 2 [54] [(56,vp (some bt))] ?_
   obtain⟨bq,q44,h⟩:=h
   refine T_l1 57 66 q44 [56] ?_
   obtain⟨bm,rfl,h⟩:=h
   refine T_nd 2 [57] [(59,vp (some bm))] ?_
   obtain⟨bf,q45,h⟩:=h
   refine T_l1 60 63 q45 [59]<| T_nd 4 [] [(64,vi (zq ((zq (ra+1))+i)))]<| T_c (some 65) h ?_;clear h
   rintro b2 bx ⟨aa,rb,rfl,h⟩
   refine T_pd [60,64] [(65,.tuple #[vu aa,vi rb])]<| T_ed 5 [65] [(11,vu aa)]<| T_rz 12<| T_nd 1 [] [(68,vp (some ((ad d).add 1)))] ?_
   obtain⟨xB,xN,xC,q46,h⟩:=h
   refine T_l1 69 37 q46 [68]<| T_nd 3 [11] [(72,.int .u32 (IntKind.wrap .u32 (Int.tmod aa 4294967296)))]<| T_nw (some 73) (λb=>vs (pa b) 1 1) (.cells #[.int .u32 (IntKind.wrap .u32 (Int.tmod aa 4294967296))] 154) ?_
   intro bi H16 e47 e48
   replace h:=h bi H16 e47 e48
   refine T_pd [72] [(73,vs (pa bi) 1 1)]<| N_op (some 74) (cS #[37,37] 37 #[vs xB xN xC,vs (pa bi) 1 1]) _ (λ_=>by kernel_rfl) (bP (T:=154) (sz:=1) (bytes:=4) (zero:=(.int .u32 0:Value)) Tryz.underlying37 Tryz.underlying37 rfl (show Tryz.prog.info? 154=some Tryz.t154 from by kernel_rfl) (by kernel_rfl) (by kernel_rfl) (by decide) (by kernel_rfl) (by first | exact h | (simpa only[Value.cells,List.toList_toArray]using h))) ?_;clear h
   rintro _ b0 ⟨ap,bg,rfl,h⟩
   refine T_pd [69,73] [(74,vs ap (xN+1) bg)]<| T_nd 1 [] [(75,vp (some ((ad d).add 1)))] ?_
   obtain⟨q50,h⟩:=h
   refine je 37 (vs ap (xN+1) bg) q50 ?_
   intro bo e49
   replace h:=h bo e49
   exact T_pd [74,75] []<| zx<| aL<| aE<| T_rz 10<| T_ed 3 [10] [(10,vi (zq (i+1)))]<| bG ((zq (i+1)):Int) sk h
  rw[if_neg c41]at h
  refine aI 47 (zJ c41)<| zk 0<| aD<| aD<| aR<| aE<| T_sz<| ar 13<| T_ud [0,7,8,10,47] [] ?_
  obtain⟨z,q,r,s,q51,h⟩:=h
  refine T_lr 76 39 q51 []<| T_c (some 77) h ?_;clear h
  rintro b3 bb ⟨y,rfl,h⟩
  refine T_pd [76] [(77,.bool y)]<| T_ed 1 [77] [(78,.bool (!y))] ?_
  by_cases c52:y=true
  ·rw[if_pos c52]at h
   refine aI 78 (congrArg Bool.not (c52))<| T_kt<| ar 15<| T_ud [78] [] ?_
   obtain⟨p,l,k,n,q54,h⟩:=h
   refine T_lr 80 39 q54 [9] ?_
   obtain⟨q56,h⟩:=h
   refine bX 39 [.bool p,vs l k n] q56 ?_
   intro bk e55
   replace h:=h bk e55
   refine T_pd [80] []<| T_ed 1 [] [(5,vi 0)]<| zz ?_
   show At _ _ _ _ _ (Q .ret)
   obtain⟨a7,am,ah,ao,q57,h⟩:=h
   exact cP (fn:=Tryz.f57) [.agg #[.bool a7,vs am ah ao],vi 0] hQ (show cK _ _ _ [.cell 4 39,.tmp 5] _ from .cell (by kernel_rfl) (aQ (λ_=>by kernel_rfl) (λ_=>by kernel_rfl) q57) (.tmp (by kernel_rfl) (.nil))) h
  rw[if_neg c52]at h
  refine aH 78 (congrArg Bool.not (zZ c52))<| ar 14<| T_nd 1 [9,78] [(79,.agg #[.bool false,vs none 0 0])] ?_
  obtain⟨q59,h⟩:=h
  refine bX 39 [.bool false,vs none 0 0] q59 ?_
  intro bu e58
  replace h:=h bu e58
  refine T_pd [79] []<| T_ed 1 [] [(5,vi 3)]<| zz ?_
  show At _ _ _ _ _ (Q .ret)
  obtain⟨a6,ag,al,ak,q60,h⟩:=h
  exact cP (fn:=Tryz.f57) [.agg #[.bool a6,vs ag al ak],vi 3] hQ (show cK _ _ _ [.cell 4 39,.tmp 5] _ from .cell (by kernel_rfl) (aQ (λ_=>by kernel_rfl) (λ_=>by kernel_rfl) q60) (.tmp (by kernel_rfl) (.nil))) h
 rw[if_neg c24]at h
 refine N_bd 34 (bne_iff_ne.mpr c24)<| T_ed 4 [34] [(38,.bool true)]<| T_tz 38<| ar 6<| T_n 1 [(4,vp (pa b)),(39,.agg #[.bool false,vs none 0 0])] ?_
 obtain⟨q62,h⟩:=h
 refine bX 39 [.bool false,vs none 0 0] q62 ?_
 intro bn e61
 replace h:=h bn e61
 refine T_pd [39] []<| T_ed 1 [] [(5,vi 3)]<| zz ?_
 show At _ _ _ _ _ (Q .ret)
 obtain⟨a8,aq,ax,av,q63,h⟩:=h
 exact cP (fn:=Tryz.f57) [.agg #[.bool a8,vs aq ax av],vi 3] hQ (show cK _ _ _ [.cell 4 39,.tmp 5] _ from .cell (by kernel_rfl) (aQ (λ_=>by kernel_rfl) (λ_=>by kernel_rfl) q63) (.tmp (by kernel_rfl) (.nil))) h
end cW

/-! (*moraine/moraineref10.Heap).put -/
namespace bF
def K0:=Func.code Tryz.f76
def K2:=cb K0
def K4:=cb K2
def K6:=cb K4
def K11:=ca K6
def K14:=cb K11
def K15:=ca K14
def K16:=ca K15
def K18:=cb K16
def K23:=ca K18
def K25:=ca K23
end bF
def bF.pt(hv:zY)(f d:Int)(lB:zY)(lN lC:Nat)(H:zW)(R:zv):Prop:=
 ∃b:Addr,hv=some b/\
 ∃x:zY,hat H b=some (.pointer x)/\
 ∃xA:Addr,x=some xA/\
 ∃o:zY,hat H xA=some (.pointer o)/\
 cC.C o 0 f (lN:Int) H (λv H1=> ∃ra rb:Int,v=.tuple #[.int .i64 ra,.int .i64 rb]/\
 if rb=0 then(
 ∃(q:zw) (m17:Int->zW->Nat),q 0 H1/\ ∀(i:Int) (H2:zW),q i H2->
 if i< (lN:Int)then(
 ∃s:zY,hat H2 b=some (.pointer s)/\
 ∃j:Addr,s=some j/\
 ∃r:zY,hat H2 j=some (.pointer r)/\
 ∃m:Addr,r=some m/\
 ∃l:zY,hat H2 m=some (.pointer l)/\
 ∃e:Addr,lB=some e/\
 yZ i lN/\
 ∃n:Int,hat H2 (e.add (Int.toNat i*1))=some (.int .u64 n)/\
 cD.C l (zq (ra+i)) n H2 (λu H3=> ∃y:Int,u=.int .i64 y/\
 (q (zq (i+1)) H3/\m17 (zq (i+1)) H3<m17 i H2)))
 else
 dE.C 2 d ra 0 0 H2 (λz H4=> ∃p:Int,z=.int .u64 p/\
 R (.tuple #[.int .u64 p,.int .i64 0]) H4))
 else
 R (.tuple #[.int .u64 0,.int .i64 rb]) H1)
namespace bF
theorem link{hv:zY}{f d:Int}{lB:zY}{lN lC:Nat}{H:zW}{R:zv}(h:pt hv f d lB lN lC H R):C hv f d lB lN lC H R:=by
 refine T_en K0 58 Tryz.func76 ?_
 intro w0 Q hQ
 unfold pt zq at h
 refine T_su [(0,vp hv),(1,vi f),(2,vi d),(3,vs lB lN lC)]<| ar 0<| T_ed 2 [] []<| ar 1<| T_nd 1 [] [(14,vp hv)] ?_
 obtain⟨b,rfl,h⟩:=h
 refine T_nd 2 [0,14] [(0,vp (some b)),(16,vp (some b))] ?_
 obtain⟨x,q1,h⟩:=h
 refine T_l1 17 69 q1 [16] ?_
 obtain⟨xA,rfl,h⟩:=h
 refine T_nd 2 [17] [(19,vp (some xA))] ?_
 obtain⟨o,q2,h⟩:=h
 refine T_l1 20 66 q2 [19]<| T_nd 3 [1] [(21,vi f),(23,vi lN)]<| T_c (some 24) h ?_;clear h
 rintro v H1 ⟨ra,rb,rfl,h⟩
 refine T_pd [20,21,23] [(24,.tuple #[vi ra,vi rb])]<| T_ed 5 [24] [(10,vi ra),(11,vi rb)]<| T_sz<| ar 2<| T_ed 2 [] [(28,.bool (rb !=0))] ?_
 by_cases c3:rb=0
 ·rw[if_pos c3]at h
  refine aI 28 (bne_eq_false_iff_eq.mpr c3)<| T_kt<| T_sz<| ar 4<| T_ed 1 [11,28] [(12,vi 0)]<| T_bz 0 ?_
  obtain⟨q,m17,i5,i6⟩:=h
  refine dS (x:=K16) (σ:=Int) (λs_=> [(0,vp (some b)),(2,vi d),(3,vs lB lN lC),(10,vi ra),(12,vi s_)]) (λs_ H=>q s_ H) (λs_ H=>m17 s_ H) (0:Int) (by kernel_rfl) i5 sk ?_
  rintro i H2 i7
  have h:=i6 i H2 i7
  refine T_su [(0,vp (some b)),(2,vi d),(3,vs lB lN lC),(10,vi ra),(12,vi i)]<| T_sz<| ar 5<| T_ed 4 [] [(33,.bool (decide (i< (lN:Int))))] ?_
  by_cases c8:i< (lN:Int)
  ·rw[if_pos c8]at h
   refine aH 33 (zQ c8)<| T_kt<| T_sz<| T_bz 1 ?_
   obtain⟨s,q10,j,rfl,r,q11,m,rfl,l,q12,e,rfl,q13,n,q14,h⟩:=h
   refine yq 7 (Code.ops K25) [(17,b,[vp (some j)]),(17,j,[vp (some m)]),(17,m,[vp l]),(17,(e.add (Int.toNat i*1)),[vu n])] 18 (bv 18 0) (show aK _ _ _ from⟨⟨q10,trivial⟩,⟨q11,trivial⟩,⟨q12,trivial⟩,⟨q14,trivial⟩,trivial⟩)<| T_gp 0 (some 36) (vp (some b)) (bv 18 1) [(0,vp (some b)),(2,vi d),(3,vs (some e) lN lC),(10,vi ra),(12,vi i),(36,vp (some b))]<| aF 1 37 (vp (some b)) (bv 18 3) [36]<| aF 2 38 (vp (some b)) (bv 18 7) [37]<| T_g1 3 39 (vp (some j)) (bv 18 15) [38] (aT 69 (vp (some b))) (yY 17 yX)<| aF 4 40 (vp (some j)) (bv 18 31) [39]<| aF 5 41 (vp (some j)) (bv 18 63) [40]<| T_g1 6 42 (vp (some m)) (bv 18 127) [41] (aT 66 (vp (some j))) (yY 17 yQ)<| aF 7 43 (vp (some m)) (bv 18 255) [42]<| aF 8 44 (vp (some m)) (bv 18 511) [43]<| T_g1 9 45 (vp l) (bv 18 1023) [44] (aT 63 (vp (some m))) (yY 17 yJ)<| aF 10 46 (vi ra) (bv 18 2047) []<| aF 11 47 (vi i) (bv 18 4095) []<| aF 12 48 (vi (zq (ra+i))) (bv 18 8191) [46,47]<| aF 13 49 (vs (some e) lN lC) (bv 18 16383) []<| aF 14 50 (vi i) (bv 18 32767) []<| T_g1 15 51 (vp (some (e.add (Int.toNat i*1)))) (bv 18 65535) [49,50] (bD 31 (vs (some e) lN lC) (vi i)) (λ_ w _ _ _=>bR (P:=Tryz.prog) (t:=31) (elem:=33) (sz:=1) (a:=e) (len:=lN) (cap:=lC) (k:=.i64) (i:=i) Tryz.underlying31 (λ_=>by kernel_rfl) q13.1 q13.2 w)<| T_g1 16 52 (vu n) (bv 18 131071) [51] (aT 33 (vp (some (e.add (Int.toNat i*1))))) (yY 17 yK)<| yx 17 (some 53) (bv 18 262143) 121 #[vp l,vi (zq (ra+i)),vu n] h ?_;clear h
   rintro u H3 ⟨y,rfl,h⟩
   refine⟨[(0,vp (some b)),(2,vi d),(3,vs (some e) lN lC),(10,vi ra),(12,vi i)],pk,(show aK _ _ _ from⟨trivial,trivial,trivial,trivial,trivial⟩),?_⟩
   refine eI [(0,vp (some b)),(2,vi d),(3,vs (some e) lN lC),(10,vi ra),(12,vi i)] sk ?_
   exact yz<| aL<| aE<| T_rz 6<| T_ne 3 [(0,vp (some b)),(2,vi d),(3,vs (some e) lN lC),(10,vi ra),(12,vi (zq (i+1)))]<| bG ((zq (i+1)):Int) sk h
  rw[if_neg c8]at h
  refine aI 33 (zJ c8)<| zk 0<| aD<| aD<| aR<| aE<| ar 8<| T_n 3 [(56,.agg #[vi 2,vi d,vi ra,vi 0,vu 0])]<| T_c (some 57) h ?_;clear h
  rintro z H4 ⟨p,rfl,h⟩
  refine⟨[(57,vu p)],pk,?_⟩
  exact T_nr 2 [8,9] [vu p,vi 0] hQ h
 rw[if_neg c3]at h
 exact aH 28 (bne_iff_ne.mpr c3)<| ar 3<| T_nr 3 [8,9] [vu 0,vi rb] hQ h
end bF

/-! moraine/moraineref10.Runes -/
namespace dW
def K0:=Func.code Tryz.f80
end dW
def dW.pt(s:ByteArray)(H:zW)(R:zv):Prop:=
 mJ 21 s H (λsl a b H1=>
 R (.slice sl a b) H1)
namespace dW
theorem link{s:ByteArray}{H:zW}{R:zv}(h:pt s H R):C s H R:=by
 refine T_en K0 5 Tryz.func80 ?_
 intro w0 Q hQ
 unfold pt at h
 refine T_su [(0,.string s)]<| ar 0<| T_ed 1 [] []<| ar 1<| T_n 1 [(3,.string s)]<| N_op (some 4) (jL 9 137 (.string s)) _ (λ_=>by kernel_rfl) (pU Tryz.underlying9 Tryz.underlying137 Tryz.underlying21 h) ?_;clear h
 rintro _ H1 ⟨sl,a,b,rfl,h⟩
 refine⟨[(4,vs sl a b)],pk,?_⟩
 exact T_nr 1 [2] [vs sl a b] hQ h
end dW

/-! (*moraine/moraineref10.Heap).Field -/
namespace bS
def K0:=Func.code Tryz.f92
end bS
def bS.pt(hv:zY)(wv a i:Int)(H:zW)(R:zv):Prop:=
 aW.C hv wv H (λv H1=> ∃ra d f j k e:Int,v=.tuple #[.int .i64 ra,.agg #[.int .i64 d,.int .i64 f,.int .i64 j,.int .i64 k,.int .u64 e]]/\
 ∀(b:Nat) (H2:zW),b=H1.size->H2=H1.push (.cells #[.int .i64 0,.int .i64 0,.int .i64 0,.int .i64 0,.int .u64 0] 111)->
 (aJ H2 (ad b) 0 5)/\ ∀H3,H3=aP H2 (ad b) [.int .i64 d,.int .i64 f,.int .i64 j,.int .i64 k,.int .u64 e] 0->
 if ra<0 then(
 R (.tuple #[.int .i64 0,.int .i64 3]) H3)
 else
 ∃x:Int,hat H3 ((ad b).add 1)=some (.int .i64 x)/\
 if x=a then(
 if i<0 then(
 R (.tuple #[.int .i64 0,.int .i64 4]) H3)
 else
 ∃l:Int,hat H3 ((ad b).add 2)=some (.int .i64 l)/\
 if i>=l then(
 R (.tuple #[.int .i64 0,.int .i64 4]) H3)
 else
 R (.tuple #[.int .i64 (zq ((zq (ra+1))+i)),.int .i64 0]) H3)
 else
 R (.tuple #[.int .i64 0,.int .i64 3]) H3)
namespace bS
theorem link{hv:zY}{wv a i:Int}{H:zW}{R:zv}(h:pt hv wv a i H R):C hv wv a i H R:=by
 refine T_en K0 38 Tryz.func92 ?_
 intro w0 Q hQ
 unfold pt zq at h
 refine T_su [(0,vp hv),(1,vu wv),(2,vi a),(3,vi i)]<| ar 0<| T_ed 2 [] []<| ar 1<| T_nd 2 [0,1] [(13,vp hv),(14,vu wv)]<| T_c (some 15) h ?_;clear h
 rintro v H1 ⟨ra,d,f,j,k,e,rfl,h⟩
 refine T_pd [13,14] [(15,.tuple #[vi ra,.agg #[vi d,vi f,vi j,vi k,vu e]])]<| T_nd 3 [15] [(16,vi ra),(17,.agg #[vi d,vi f,vi j,vi k,vu e])]<| T_nw (some 11) (λb=>vp (pa b)) (.cells #[vi 0,vi 0,vi 0,vi 0,vu 0] 111) ?_
 intro b H2 e1 e2
 replace h:=h b H2 e1 e2
 refine T_pd [] [(11,vp (pa b))]<| T_nd 1 [16] [(10,vi ra)] ?_
 obtain⟨q4,h⟩:=h
 refine bX 111 [vi d,vi f,vi j,vi k,vu e] q4 ?_
 intro H3 e3
 replace h:=h H3 e3
 refine T_pd [17] []<| T_e<| T_sz<| ar 2<| T_nd 3 [] [(20,.bool (decide (ra<0)))] ?_
 by_cases c5:ra<0
 ·rw[if_pos c5]at h
  exact N_bd 20 (zQ c5)<| T_ed 5 [2,20] [(25,.bool true)]<| T_tz 25<| ar 3<| T_nr 2 [8,9] [vi 0,vi 3] hQ h
 rw[if_neg c5]at h
 refine N_bd 20 (zJ c5)<| T_nd 1 [] [(21,vp (some ((ad b).add 1)))] ?_
 obtain⟨x,q7,h⟩:=h
 refine T_l1 22 3 q7 [21]<| T_ed 3 [2,20,22] [(25,.bool (x !=a))] ?_
 by_cases c8:x=a
 ·rw[if_pos c8]at h
  refine aI 25 (bne_eq_false_iff_eq.mpr c8)<| T_kt<| T_sz<| ar 4<| T_nd 3 [25] [(28,.bool (decide (i<0)))] ?_
  by_cases c10:i<0
  ·rw[if_pos c10]at h
   exact N_bd 28 (zQ c10)<| T_ed 5 [11,28] [(33,.bool true)]<| T_tz 33<| ar 5<| T_nr 2 [8,9] [vi 0,vi 4] hQ h
  rw[if_neg c10]at h
  refine N_bd 28 (zJ c10)<| T_nd 2 [11] [(29,vi i),(30,vp (some ((ad b).add 2)))] ?_
  obtain⟨l,q12,h⟩:=h
  refine T_l1 31 3 q12 [30]<| T_ed 2 [28,29,31] [(33,.bool (decide (i>=l)))] ?_
  by_cases c13:i>=l
  ·rw[if_pos c13]at h
   exact aH 33 (zQ c13)<| ar 5<| T_nr 2 [8,9] [vi 0,vi 4] hQ h
  rw[if_neg c13]at h
  exact aI 33 (zJ c13)<| T_kt<| ar 6<| T_nr 6 [8,9] [vi (zq ((zq (ra+1))+i)),vi 0] hQ h
 rw[if_neg c8]at h
 exact aH 25 (bne_iff_ne.mpr c8)<| ar 3<| T_nr 2 [8,9] [vi 0,vi 3] hQ h
end bS

