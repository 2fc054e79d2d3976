/- Printed: what each function asks, and that it is sound. -/
import Derived.Test.YtojbbgcjiaphjaaGreatFnsC
set_option linter.unusedSimpArgs false
set_option linter.unusedVariables false
set_option maxRecDepth 100000
set_option maxHeartbeats 1000000
noncomputable section
namespace Go.Proofs.YtojbbgcjiaphjaaGreat
open Go
/-! moraine/audit.marks -/
namespace fD
def K0:=Func.code Tryz.f58
def K2:=cb K0
def K4:=cb K2
def K12:=cb K4
def K13:=ca K12
def K16:=cb K13
def K17:=ca K16
def K18:=ca K17
def K20:=cb K18
def K22:=cb K20
def K25:=ca K22
def K27:=ca K25
def K29:=cb K27
def K31:=cb K29
def K33:=cb K31
def K34:=ca K33
def K35:=ca K34
end fD
def fD.pt(hv:zW)(H:zV)(R:zv):Prop:=
 eZ.C hv H (λv H1=> ∃x:Bool,v=.bool x/\
 if x=true then(
 R (.tuple #[.int .i64 0,.int .i64 0]) H1)
 else
 ∃e:Addr,hv=some e/\
 ∃ax:zW,hat H1 e=some (.pointer ax)/\
 cX.C ax H1 (λbf H2=> ∃l:zW,bf=.pointer l/\
 ∃a1:zW,hat H2 e=some (.pointer a1)/\
 ∃a0:Addr,a1=some a0/\
 ∃a7:zW,hat H2 a0=some (.pointer a7)/\
 ∃az:Addr,a7=some az/\
 ∃ay:zW,hat H2 az=some (.pointer ay)/\
 dC.C ay none 0 0 H2 (λbb H3=> ∃(xB:zW) (xN xC:Nat),bb=.slice xB xN xC/\
 ∃(a3:zw) (m19:Int->zV->Nat),a3 0 H3/\ ∀(f:Int) (H4:zV),a3 f H4->
 if f< (xN:Int)then(
 ∃j:Addr,xB=some j/\
 yZ f xN/\
 ∃g:Int,hat H4 (j.add (Int.toNat f*1))=some (.int .i64 g)/\
 ∃a8:zW,hat H4 e=some (.pointer a8)/\
 ∃a6:Addr,a8=some a6/\
 ∃a2:zW,hat H4 a6=some (.pointer a2)/\
 ∃a4:Addr,a2=some a4/\
 ∃ao:zW,hat H4 a4=some (.pointer ao)/\
 cE.C ao g H4 (λbe H5=> ∃(al ai ap ae ab aa ac:Int) (rb:Bool),be=.tuple #[.agg #[.int .i64 al,.int .i64 ai,.int .i64 ap,.int .i64 ae,.int .i64 ab,.int .i64 aa,.int .i64 ac],.bool rb]/\
 ∀(b:Nat) (H6:zV),b=H5.size->H6=H5.push (.cells #[.int .i64 0,.int .i64 0,.int .i64 0,.int .i64 0,.int .i64 0,.int .i64 0,.int .i64 0] 89)->
 (aK H6 (ad b) 0 7)/\ ∀H7,H7=aU H6 (ad b) [.int .i64 al,.int .i64 ai,.int .i64 ap,.int .i64 ae,.int .i64 ab,.int .i64 aa,.int .i64 ac] 0->
 ∃y r z s:Int,aS H7 ((ad b).add 3) 0 [.int .i64 y,.int .i64 r,.int .i64 z,.int .i64 s]/\
 ∃(a5:zw) (m36:Int->zV->Nat),a5 0 H7/\ ∀(d:Int) (H8:zV),a5 d H8->
 if d<4 then(
 ∃u:Int,((0<=d/\d< (4:Int))/\(#[.int .i64 y,.int .i64 r,.int .i64 z,.int .i64 s]:Array Value)[Int.toNat d]?=some (.int .i64 u))/\
 cR.C l g d H8 (λbc H9=> ∃ba:Int,bc=.int .i64 ba/\
 ∃ah:Addr,l=some ah/\
 ∃aw:zW,hat H9 ah=some (.pointer aw)/\
 ∃av:Addr,aw=some av/\
 ∃an:zW,hat H9 av=some (.pointer an)/\
 cE.C an g H9 (λbd a9=> ∃(ag af ak m p o q:Int) (aq:Bool),bd=.tuple #[.agg #[.int .i64 ag,.int .i64 af,.int .i64 ak,.int .i64 m,.int .i64 p,.int .i64 o,.int .i64 q],.bool aq]/\
 ∀(aj:Nat) (H11:zV),aj=a9.size->H11=a9.push (.cells #[.int .i64 0,.int .i64 0,.int .i64 0,.int .i64 0,.int .i64 0,.int .i64 0,.int .i64 0] 89)->
 (aK H11 (ad aj) 0 7)/\ ∀au,au=aU H11 (ad aj) [.int .i64 ag,.int .i64 af,.int .i64 ak,.int .i64 m,.int .i64 p,.int .i64 o,.int .i64 q] 0->
 yZ d 4/\
 ∃am:Int,hat au (((ad aj).add 3).add (Int.toNat d*1))=some (.int .i64 am)/\
 if u>am then(
 R (.tuple #[.int .i64 (zY ((zY (g*64))+(zY (d*16)))),.int .i64 4]) au)
 else
 (a5 (zY (d+1)) au/\m36 (zY (d+1)) au<m36 d H8))))
 else
 (a3 (zY (f+1)) H8/\m19 (zY (f+1)) H8<m19 f H4)))
 else
 R (.tuple #[.int .i64 0,.int .i64 0]) H4)))
namespace fD
theorem link{hv:zW}{H:zV}{R:zv}(h:pt hv H R):C hv H R:=by
 refine T_en K0 86 Tryz.func58 ?_
 intro w0 Q hQ
 unfold pt zY at h
 refine T_su [(0,vp hv)]<| ar 0<| T_ed 2 [] []<| T_sz<| ar 1<| T_nd 1 [] [(13,vp hv)]<| T_c (some 14) h ?_;clear h
 rintro v H1 ⟨x,rfl,h⟩
 refine T_pd [13] [(14,.bool x)]<| T_e ?_
 by_cases c1:x=true
 ·rw[if_pos c1]at h
  exact aL 14 c1<| ar 2<| T_nr 2 [2,3] [vi 0,vi 0] hQ h
 rw[if_neg c1]at h
 refine aM 14 (zZ c1)<| T_kt<| ar 3<| T_nd 1 [14] [(15,vp hv)] ?_
 obtain⟨e,rfl,h⟩:=h
 refine T_n 2 [(0,vp (some e)),(17,vp (some e))] ?_
 obtain⟨ax,q3,h⟩:=h
 refine T_l1 18 33 q3 [17]<| T_c (some 19) h ?_;clear h
 rintro bf H2 ⟨l,rfl,h⟩
 refine T_pd [18] [(19,vp l)]<| T_ed 1 [19] [(4,vp l)]<| T_sz<| ar 4<| T_nd 3 [] [(22,vp (some e))] ?_
 obtain⟨a1,q4,h⟩:=h
 refine T_l1 23 33 q4 [22] ?_
 obtain⟨a0,rfl,h⟩:=h
 refine T_nd 2 [23] [(25,vp (some a0))] ?_
 obtain⟨a7,q5,h⟩:=h
 refine T_l1 26 42 q5 [25] ?_
 obtain⟨az,rfl,h⟩:=h
 refine T_nd 2 [26] [(28,vp (some az))] ?_
 obtain⟨ay,q6,h⟩:=h
 refine T_l1 29 70 q6 [28]<| T_c (some 30) h ?_;clear h
 rintro bb H3 ⟨xB,xN,xC,rfl,h⟩
 refine T_pd [29] [(30,vs xB xN xC)]<| T_ed 2 [] [(31,vi xN),(32,vi 0)]<| T_bz 0 ?_
 obtain⟨a3,m19,i7,i8⟩:=h
 refine dE (x:=K18) (σ:=Int) (λs_=> [(0,vp (some e)),(4,vp l),(30,vs xB xN xC),(31,vi xN),(32,vi s_)]) (λs_ H=>a3 s_ H) (λs_ H=>m19 s_ H) (0:Int) (by kernel_rfl) i7 sk ?_
 rintro f H4 i9
 have h:=i8 f H4 i9
 refine T_su [(0,vp (some e)),(4,vp l),(30,vs xB xN xC),(31,vi xN),(32,vi f)]<| ar 5<| T_ed 1 [] [(33,.bool (decide (f< (xN:Int))))]<| T_sz ?_
 by_cases c10:f< (xN:Int)
 ·rw[if_pos c10]at h
  refine aL 33 (zX c10)<| T_kt<| T_sz<| T_bz 1<| ar 6<| T_ud [33] [] ?_
  obtain⟨j,rfl,q12,h⟩:=h
  refine T_xd (some 34) 59 3 1 j xN xC .i64 f Tryz.underlying59 q12.1 q12.2 [30] [(30,vs (some j) xN xC),(34,vp (some (j.add (Int.toNat f*1))))] ?_
  obtain⟨g,q13,h⟩:=h
  refine T_l1 35 3 q13 [34]<| T_ed 1 [35] [(6,vi g)]<| ar 7<| T_nd 3 [] [(39,vp (some e))] ?_
  obtain⟨a8,q14,h⟩:=h
  refine T_l1 40 33 q14 [39] ?_
  obtain⟨a6,rfl,h⟩:=h
  refine T_nd 2 [40] [(42,vp (some a6))] ?_
  obtain⟨a2,q15,h⟩:=h
  refine T_l1 43 42 q15 [42] ?_
  obtain⟨a4,rfl,h⟩:=h
  refine T_nd 2 [43] [(45,vp (some a4))] ?_
  obtain⟨ao,q16,h⟩:=h
  refine T_l1 46 70 q16 [45]<| T_nd 1 [] [(47,vi g)]<| T_c (some 48) h ?_;clear h
  rintro be H5 ⟨al,ai,ap,ae,ab,aa,ac,rb,rfl,h⟩
  refine T_pd [46,47] [(48,.tuple #[.agg #[vi al,vi ai,vi ap,vi ae,vi ab,vi aa,vi ac],.bool rb])]<| T_nd 3 [48] [(49,.agg #[vi al,vi ai,vi ap,vi ae,vi ab,vi aa,vi ac]),(50,.bool rb)]<| T_nw (some 7) (λb=>vp (pa b)) (.cells #[vi 0,vi 0,vi 0,vi 0,vi 0,vi 0,vi 0] 89) ?_
  intro b H6 e17 e18
  replace h:=h b H6 e17 e18
  refine T_pd [] [(7,vp (pa b))] ?_
  obtain⟨q20,h⟩:=h
  refine jP 89 [vi al,vi ai,vi ap,vi ae,vi ab,vi aa,vi ac] q20 ?_
  intro H7 e19
  replace h:=h H7 e19
  refine T_pd [49] []<| T_ed 1 [50] []<| ar 8<| T_nd 1 [7] [(51,vp (some ((ad b).add 3)))] ?_
  obtain⟨y,r,z,s,q21,h⟩:=h
  refine T_lr 52 71 q21 [51]<| T_ed 1 [] [(53,vi 0)]<| T_bz 2 ?_
  obtain⟨a5,m36,i22,i23⟩:=h
  refine dE (x:=K35) (σ:=Int) (λs_=> [(0,vp (some e)),(4,vp l),(6,vi g),(30,vs (some j) xN xC),(31,vi xN),(32,vi f),(52,.agg #[vi y,vi r,vi z,vi s]),(53,vi s_)]) (λs_ H=>a5 s_ H) (λs_ H=>m36 s_ H) (0:Int) (by kernel_rfl) i22 sk ?_
  rintro d H8 i24
  have h:=i23 d H8 i24
  refine T_su [(0,vp (some e)),(4,vp l),(6,vi g),(30,vs (some j) xN xC),(31,vi xN),(32,vi f),(52,.agg #[vi y,vi r,vi z,vi s]),(53,vi d)]<| ar 9<| T_ed 1 [] [(54,.bool (decide (d<4)))]<| T_sz ?_
  by_cases c25:d<4
  ·rw[if_pos c25]at h
   refine aL 54 (zX c25)<| T_kt<| T_sz<| T_bz 3<| ar 10<| T_nd 1 [54] [(55,vi d)] ?_
   obtain⟨u,q27,h⟩:=h
   refine T_v1 56 (ls 71 (.agg #[vi y,vi r,vi z,vi s]) (vi d)) (vi u) (λw _=>jx (P:=Tryz.prog) (t:=71) (elem:=3) (n:=4) Tryz.underlying71 (λ_=>by kernel_rfl) (λ_=>by kernel_rfl) q27.1.1 q27.1.2 q27.2 w) []<| T_ed 2 [55,56] [(9,vi d),(10,vi u)]<| ar 11<| T_nd 3 [] [(57,vp l),(58,vi g),(59,vi d)]<| T_c (some 60) h ?_;clear h
   rintro bc H9 ⟨ba,rfl,h⟩
   refine T_pd [57,58,59] []<| T_e<| ar 12<| T_nd 1 [] [(62,vp l)] ?_
   obtain⟨ah,rfl,h⟩:=h
   refine T_nd 2 [4,62] [(4,vp (some ah)),(64,vp (some ah))] ?_
   obtain⟨aw,q28,h⟩:=h
   refine T_l1 65 42 q28 [64] ?_
   obtain⟨av,rfl,h⟩:=h
   refine T_nd 2 [65] [(67,vp (some av))] ?_
   obtain⟨an,q29,h⟩:=h
   refine T_l1 68 70 q29 [67]<| T_nd 1 [] [(69,vi g)]<| T_c (some 70) h ?_;clear h
   rintro bd a9 ⟨ag,af,ak,m,p,o,q,aq,rfl,h⟩
   refine T_pd [68,69] [(70,.tuple #[.agg #[vi ag,vi af,vi ak,vi m,vi p,vi o,vi q],.bool aq])]<| T_nd 3 [70] [(71,.agg #[vi ag,vi af,vi ak,vi m,vi p,vi o,vi q]),(72,.bool aq)]<| T_nw (some 11) (λb=>vp (pa b)) (.cells #[vi 0,vi 0,vi 0,vi 0,vi 0,vi 0,vi 0] 89) ?_
   intro aj H11 e30 e31
   replace h:=h aj H11 e30 e31
   refine T_pd [] [(11,vp (pa aj))] ?_
   obtain⟨q33,h⟩:=h
   refine jP 89 [vi ag,vi af,vi ak,vi m,vi p,vi o,vi q] q33 ?_
   intro au e32
   replace h:=h au e32
   refine T_pd [71] []<| T_ed 1 [72] []<| ar 13<| T_nd 3 [10,11] [(73,vi u),(74,vi d),(75,vp (some ((ad aj).add 3)))] ?_
   obtain⟨q34,h⟩:=h
   refine T_v1 76 (aZ 71 (vp (some ((ad aj).add 3))) (vi d)) (vp (some (((ad aj).add 3).add (Int.toNat d*1)))) (λw _=>eO (P:=Tryz.prog) (t:=71) (elem:=3) (sz:=1) (n:=4) (a:=((ad aj).add 3)) (k:=.i64) (i:=d) Tryz.underlying71 (λ_=>by kernel_rfl) q34.1 q34.2 w) [74,75] ?_
   obtain⟨am,q35,h⟩:=h
   refine T_l1 77 3 q35 [76]<| T_ed 1 [73,77] [(78,.bool (decide (u>am)))] ?_
   by_cases c36:u>am
   ·rw[if_pos c36]at h
    exact aL 78 (zX c36)<| ar 14<| T_nr 7 [2,3] [vi (zY ((zY (g*64))+(zY (d*16)))),vi 4] hQ h
   rw[if_neg c36]at h
   exact aM 78 (zQ c36)<| T_k<| aA<| aE<| T_rz 15<| T_ed 2 [9,53,78] [(53,vi (zY (d+1)))]<| bK ((zY (d+1)):Int) sk h
  rw[if_neg c25]at h
  exact aM 54 (zQ c25)<| zk 2<| aD<| aD<| aQ<| aA<| aE<| T_rz 16<| T_ed 2 [6,32,52,53,54] [(32,vi (zY (f+1)))]<| bK ((zY (f+1)):Int) sk h
 rw[if_neg c10]at h
 exact aM 33 (zQ c10)<| zk 0<| aD<| aD<| aQ<| aE<| ar 17<| T_nr 2 [2,3] [vi 0,vi 0] hQ h
end fD

/-! moraine/audit.come.1 -/
namespace fE
def K0:=Func.code Tryz.f93
end fE
def fE.pt(wv:Int)(q f a:zW)(H:zV)(R:zv):Prop:=
 ∃g:Addr,q=some g/\
 ∃x:zW,hat H g=some (.pointer x)/\
 eZ.C x H (λv H1=> ∃j:Bool,v=.bool j/\
 if j=true then(
 R (.tuple #[]) H1)
 else
 ∃p:zW,hat H1 g=some (.pointer p)/\
 bE.C p wv H1 (λab H2=> ∃n:Int,ab=.int .i64 n/\
 if n>0 then(
 ∃d:Addr,f=some d/\
 ∃s:Option Nat,hat H2 d=some (.map s)/\
 ∃mr:Nat,s=some mr/\
 ∃(es:Array MapEntry) (cl:Nat) (ks:List (Int×Value)),H2[mr]?=some (.map es cl)/\Ents (bT .u64) es.toList ks/\
 ∃l:Int,(mget ks wv).getD (.int .i64 0)=.int .i64 l/\
 if l=0 then(
 ∃e:Addr,a=some e/\
 ∃(xB:zW) (xN xC:Nat),hat H2 e=some (.slice xB xN xC)/\
 ∀(b:Nat) (H3:zV),b=H2.size->H3=H2.push (.cells #[.int .u64 wv] 40)->
 dH 1 40 8 [.int .u64 0] xB xN xC (some (ad b)) 1 H3 (λap r H4=>
 (aK H4 e 0 1)/\ ∀H5,H5=aU H4 e [.slice ap (xN+1) r] 0->
 ∃o:Option Nat,hat H5 d=some (.map o)/\
 ∃(y:zW) (i u:Nat),hat H5 e=some (.slice y i u)/\
 ∃m:Nat,o=some m/\
 ∃(aa:Array MapEntry) (cl_2:Nat) (ks_2:List (Int×Value)),H5[m]?=some (.map aa cl_2)/\Ents (bT .u64) aa.toList ks_2/\
 ∀(t:Array MapEntry) (cl_3:Nat) (H6:zV),H6=aF H5 m (.map t cl_3)->Ents (bT .u64) t.toList (mput ks_2 wv (.int .i64 (i:Int)))->
 R (.tuple #[]) H6))
 else
 R (.tuple #[]) H2)
 else
 R (.tuple #[]) H2))
namespace fE
theorem link{wv:Int}{q f a:zW}{H:zV}{R:zv}(h:pt wv q f a H R):C wv q f a H R:=by
 refine T_en K0 28 Tryz.func93 ?_
 intro w0 Q hQ
 unfold pt at h
 refine T_su [(0,vu wv),(1,vp q),(2,vp f),(3,vp a)]<| ar 0 ?_
 obtain⟨g,rfl,x,q1,h⟩:=h
 refine T_ld (some 5) 28 q1 [1] [(1,vp (some g)),(5,vp x)]<| T_c (some 6) h ?_;clear h
 rintro v H1 ⟨j,rfl,h⟩
 refine T_pd [5] [(6,.bool j)]<| T_nd 2 [6] [(8,.bool (!j))] ?_
 by_cases c2:j=true
 ·rw[if_pos c2]at h
  have b3:(!j)=false:=congrArg Bool.not (c2)
  have b32:j=true:=c2
  refine N_bd 8 (b:=(!j)) (v:=false) (by simp only[b3,b32,Bool.not_true,Bool.not_false]) ?_
  clear b3 b32
  exact T_ed 11 [1,8] [(19,.bool false)]<| T_fz 19<| T_k<| iJ (fn:=Tryz.f93) [] hQ (show dF _ _ _ [] _ from .nil) h
 rw[if_neg c2]at h
 have b3:(!j)=true:=congrArg Bool.not (zZ c2)
 have b32:j=false:=zZ c2
 refine N_bd 8 (b:=(!j)) (v:=true) (by simp only[b3,b32,Bool.not_true,Bool.not_false]) ?_
 clear b3 b32
 obtain⟨p,q4,h⟩:=h
 refine T_l1 9 28 q4 [1]<| T_nd 1 [] [(10,vu wv)]<| T_c (some 11) h ?_;clear h
 rintro ab H2 ⟨n,rfl,h⟩
 refine T_pd [9,10] [(11,vi n)]<| T_nd 3 [8,11] [(14,.bool (decide (n>0)))] ?_
 by_cases c5:n>0
 ·rw[if_pos c5]at h
  refine N_bd 14 (zX c5) ?_
  obtain⟨d,rfl,s,q7,h⟩:=h
  refine T_ld (some 15) 100 q7 [2] [(2,vp (some d)),(15,.map s)]<| T_nd 1 [] [(16,vu wv)] ?_
  obtain⟨mr,rfl,es,cl,ks,q8,q9,l,e25,h⟩:=h
  refine T_v1 17 (gV 100 (.map (some mr)) (vu wv) false) (vi l) (λw hw=>(fT (kk:=(bT .u64)) (z:=vi 0) Tryz.underlying100 Tryz.underlying40 (λ_=>by kernel_rfl) (by rw[hw];exact q8) q9 false).trans (by simp only[if_true,Bool.false_eq_true,if_false,e25])) [15,16]<| T_ed 2 [14,17] [(19,.bool (l==0))] ?_
  by_cases c11:l=0
  ·rw[if_pos c11]at h
   refine aL 19 (zK c11)<| ar 1<| T_ud [19] [] ?_
   obtain⟨e,rfl,xB,xN,xC,q13,h⟩:=h
   refine T_ld (some 20) 29 q13 [3] [(3,vp (some e)),(20,vs xB xN xC)]<| T_nd 1 [] [(21,vu wv)]<| T_nw (some 22) (λb=>vs (pa b) 1 1) (.cells #[vu wv] 40) ?_
   intro b H3 e14 e15
   replace h:=h b H3 e14 e15
   refine T_pd [21] [(22,vs (pa b) 1 1)]<| N_op (some 23) (eJ #[29,29] 29 #[vs xB xN xC,vs (pa b) 1 1]) _ (λ_=>by kernel_rfl) (dM (T:=40) (sz:=1) (bytes:=8) (zero:=(vu 0:Value)) Tryz.underlying29 Tryz.underlying29 rfl (show Tryz.prog.info? 40=some Tryz.t40 from by kernel_rfl) (by kernel_rfl) (by kernel_rfl) (by decide) (by kernel_rfl) (by first | exact h | (simpa only[Value.cells,List.toList_toArray]using h))) ?_;clear h
   rintro _ H4 ⟨ap,r,rfl,h⟩
   refine T_pd [20,22] [(23,vs ap (xN+1) r)] ?_
   obtain⟨q17,h⟩:=h
   refine fB 29 (vs ap (xN+1) r) q17 ?_
   intro H5 e16
   replace h:=h H5 e16
   refine T_pd [23] []<| T_e<| T_rz 2 ?_
   obtain⟨o,q18,h⟩:=h
   refine T_l1 24 100 q18 [2]<| T_nd 1 [0] [(25,vu wv)] ?_
   obtain⟨y,i,u,q19,h⟩:=h
   refine T_l1 26 29 q19 [3]<| T_nd 1 [26] [(27,vi i)] ?_
   obtain⟨m,rfl,aa,cl_2,ks_2,q20,q21,h⟩:=h
   refine kq none (kw 100 (.map (some m)) (vu wv) (vi i)) (λHz=> ∃es2 cl2,Hz=aF H5 m (.map es2 cl2)/\Ents (bT .u64) es2.toList (mput ks_2 wv (vi i))) (λ_=>by kernel_rfl) (λw hw=>by obtain⟨es2,cl2,q1,q2⟩:=lw (kk:=(bT .u64)) (P:=Tryz.prog) (w:=w) (k:=wv) (v:=vi i) Tryz.underlying100 Tryz.underlying40 (by rw[hw];exact q20) q21;exact⟨_,q1,⟨rfl,rfl,rfl,Nat.le_refl _⟩,es2,cl2,by rw[<-hw],q2⟩) ?_
   rintro H6 ⟨t,cl_3,e23,e24⟩
   replace h:=h t cl_3 H6 e23 e24
   refine⟨[],pk,?_⟩
   exact zq<| iJ (fn:=Tryz.f93) [] hQ (show dF _ _ _ [] _ from .nil) h
  rw[if_neg c11]at h
  exact aM 19 (zJ c11)<| T_k<| iJ (fn:=Tryz.f93) [] hQ (show dF _ _ _ [] _ from .nil) h
 rw[if_neg c5]at h
 refine N_bd 14 (zQ c5)<| T_ed 5 [14] [(19,.bool false)]<| T_fz 19<| T_k ?_
 exact iJ (fn:=Tryz.f93) [] hQ (show dF _ _ _ [] _ from .nil) h
end fE

/-! moraine/audit.none -/
namespace eZ
def K0:=Func.code Tryz.f94
end eZ
def eZ.pt(hv:zW)(H:zV)(R:zv):Prop:=
 eY hv (
 R (.bool true) H) (λa=>
 ∃x:zW,hat H a=some (.pointer x)/\
 eY x (
 R (.bool true) H) (λxA=>
 ∃e:zW,hat H a=some (.pointer e)/\
 ∃i:Addr,e=some i/\
 ∃b:zW,hat H i=some (.pointer b)/\
 eY b (
 R (.bool true) H) (λm=>
 ∃k:zW,hat H a=some (.pointer k)/\
 ∃g:Addr,k=some g/\
 ∃j:zW,hat H g=some (.pointer j)/\
 ∃f:Addr,j=some f/\
 ∃d:zW,hat H f=some (.pointer d)/\
 eY d (
 R (.bool true) H) (λl=>
 R (.bool false) H))))
namespace eZ
theorem link{hv:zW}{H:zV}{R:zv}(h:pt hv H R):C hv H R:=by
 refine T_en K0 35 Tryz.func94 ?_
 intro w0 Q hQ
 unfold pt at h
 refine T_su [(0,vp hv)]<| ar 0<| T_ed 1 [] []<| ar 1<| T_nd 1 [] [(3,vp hv)] ?_
 rcases hv with _ | a
 ·rw[onPtr_none]at h
  exact T_nr 32 [2] [.bool true] hQ h
 rw[onPtr_some]at h
 refine T_n 5 [(0,vp (some a)),(5,.bool false),(8,vp (some a))] ?_
 obtain⟨x,q1,h⟩:=h
 refine T_l1 9 33 q1 [8] ?_
 rcases x with _ | xA
 ·rw[onPtr_none]at h
  exact T_nr 26 [2] [.bool true] hQ h
 rw[onPtr_some]at h
 refine T_nd 6 [5,9] [(12,.bool false),(15,vp (some a))] ?_
 obtain⟨e,q2,h⟩:=h
 refine T_l1 16 33 q2 [15] ?_
 obtain⟨i,rfl,h⟩:=h
 refine T_nd 2 [16] [(18,vp (some i))] ?_
 obtain⟨b,q3,h⟩:=h
 refine T_l1 19 42 q3 [18] ?_
 rcases b with _ | m
 ·rw[onPtr_none]at h
  exact T_nr 16 [2] [.bool true] hQ h
 rw[onPtr_some]at h
 refine T_n 6 [(22,.bool false),(25,vp (some a))] ?_
 obtain⟨k,q4,h⟩:=h
 refine T_l1 26 33 q4 [25] ?_
 obtain⟨g,rfl,h⟩:=h
 refine T_nd 2 [26] [(28,vp (some g))] ?_
 obtain⟨j,q5,h⟩:=h
 refine T_l1 29 42 q5 [28] ?_
 obtain⟨f,rfl,h⟩:=h
 refine T_nd 2 [29] [(31,vp (some f))] ?_
 obtain⟨d,q6,h⟩:=h
 refine T_l1 32 70 q6 [31] ?_
 rcases d with _ | l
 ·rw[onPtr_none]at h
  exact T_nr 3 [2] [.bool true] hQ h
 rw[onPtr_some]at h
 exact T_nr 3 [2] [.bool false] hQ h
end eZ

/-! moraine/audit.fields.1 -/
namespace eF
def K0:=Func.code Tryz.f97
def K2:=cb K0
def K4:=cb K2
def K10:=cb K4
def K12:=cb K10
def K18:=cb K12
def K19:=ca K18
def K20:=ca K19
def K22:=cb K20
def K27:=ca K22
def K29:=ca K27
def K30:=ca K29
end eF
def eF.pt(d:Value)(u r:zW)(H:zV)(R:zv):Prop:=
 ∃b:Addr,u=some b/\
 ∃x:zW,hat H b=some (.pointer x)/\
 ∃a:Addr,r=some a/\
 ∃y:Int,hat H a=some (.int .u64 y)/\
 cM.C x y H (λv H1=> ∃e:Int,v=.int .i64 e/\
 if((e==2) || (e==3))=true then(
 R (.tuple #[]) H1)
 else
 ∃J:zw,(
 if e>0 then(
 J 1 H1)
 else
 J 0 H1)/\ ∀(m:Int) (H2:zV),J m H2->
 ∃(aa:zw) (m21:Int->zV->Nat),aa m H2/\ ∀(i:Int) (H3:zV),aa i H3->
 ∃t:zW,hat H3 b=some (.pointer t)/\
 ∃z:Int,hat H3 a=some (.int .u64 z)/\
 bE.C t z H3 (λaj H4=> ∃s:Int,aj=.int .i64 s/\
 if i<s then(
 ∃ac:zW,hat H4 b=some (.pointer ac)/\
 ∃g:Addr,ac=some g/\
 ∃ae:zW,hat H4 g=some (.pointer ae)/\
 ∃k:Addr,ae=some k/\
 ∃ab:zW,hat H4 k=some (.pointer ab)/\
 ∃j:Addr,ab=some j/\
 ∃f:zW,hat H4 j=some (.pointer f)/\
 ∃o:Int,hat H4 a=some (.int .u64 o)/\
 cV.C o H4 (λaf H5=> ∃n:Int,af=.int .i64 n/\aS H5 b 0 [.pointer (some g)]/\aS H5 g 0 [.pointer (some k)]/\aS H5 k 0 [.pointer (some j)]/\aS H5 j 0 [.pointer f]/\
 cS.C f (zY (n+i)) H5 (λai H6=> ∃ra rb:Int,ai=.tuple #[.int .u64 ra,.int .i64 rb]/\
 ∃q:Int,hat H6 a=some (.int .u64 q)/\
 cV.C q H6 (λag H7=> ∃p:Int,ag=.int .i64 p/\
 FC Tryz.prog d #[.int .i64 (zY (p+i)),.int .u64 ra] H7 (λah H8=> ∃l:Bool,ah=.bool l/\
 if l=true then(
 (aa (zY (i+1)) H8/\m21 (zY (i+1)) H8<m21 i H3))
 else
 R (.tuple #[]) H8)))))
 else
 R (.tuple #[]) H4))
namespace eF
theorem link{d:Value}{u r:zW}{H:zV}{R:zv}(h:pt d u r H R):C d u r H R:=by
 refine T_en K0 54 Tryz.func97 ?_
 intro w0 Q hQ
 unfold pt zY at h
 refine T_su [(0,d),(1,vp u),(2,vp r)]<| ar 0 ?_
 obtain⟨b,rfl,x,q1,h⟩:=h
 refine T_ld (some 9) 28 q1 [1] [(1,vp (some b)),(9,vp x)] ?_
 obtain⟨a,rfl,y,q2,h⟩:=h
 refine T_ld (some 10) 40 q2 [2] [(2,vp (some a)),(10,vu y)]<| T_c (some 11) h ?_;clear h
 rintro v H1 ⟨e,rfl,h⟩
 refine T_pd [9,10] [(11,vi e)]<| T_ed 1 [11] [(4,vi e)]<| T_sz<| ar 1 ?_
 refine iH [(0,d),(1,vp (some b)),(2,vp (some a)),(4,vi e),(17,.bool ((e==2) || (e==3)))] ?_ ?_
 ·refine aE ?_
  by_cases c5:((e==2) || (e==3))=true
  ·rw[if_pos c5]at h
   exact aL 17 c5<| gP [] [] hQ h
  rw[if_neg c5]at h
  refine aM 17 (zZ c5)<| T_kt<| ar 2<| T_ne 1 [(0,d),(1,vp (some b)),(2,vp (some a)),(4,vi e),(5,vi 0)]<| T_sz<| ar 3<| T_ne 2 [(0,d),(1,vp (some b)),(2,vp (some a)),(5,vi 0),(19,.bool (decide (e>0)))] ?_
  obtain⟨J,h,j8⟩:=h
  refine pl (σ:=Int) (λs_=> [(0,d),(1,vp (some b)),(2,vp (some a)),(5,vi s_)]) (λs_ H=>J s_ H) ?_ ?_
  ·rintro m H2 j9
   replace h:=j8 m H2 j9
   refine T_su [(0,d),(1,vp (some b)),(2,vp (some a)),(5,vi m)]<| aE<| ar 5<| T_ed 2 [5] [(6,vi m)]<| T_bz 0 ?_
   obtain⟨aa,m21,i10,i11⟩:=h
   refine dE (x:=K20) (σ:=Int) (λs_=> [(0,d),(1,vp (some b)),(2,vp (some a)),(6,vi s_)]) (λs_ H=>aa s_ H) (λs_ H=>m21 s_ H) (m:Int) (by kernel_rfl) i10 sk ?_
   rintro i H3 i12
   have h:=i11 i H3 i12
   refine T_su [(0,d),(1,vp (some b)),(2,vp (some a)),(6,vi i)]<| T_sz<| ar 6<| T_nd 1 [] [(21,vi i)] ?_
   obtain⟨t,q13,h⟩:=h
   refine T_l1 22 28 q13 [] ?_
   obtain⟨z,q14,h⟩:=h
   refine T_l1 23 40 q14 []<| T_c (some 24) h ?_;clear h
   rintro aj H4 ⟨s,rfl,h⟩
   refine T_pd [22,23] [(24,vi s)]<| T_ed 1 [21,24] [(25,.bool (decide (i<s)))] ?_
   by_cases c15:i<s
   ·rw[if_pos c15]at h
    refine aL 25 (zX c15)<| T_kt<| T_sz<| T_bz 1<| T_sz ?_
    obtain⟨ac,q17,g,rfl,ae,q18,k,rfl,ab,q19,j,rfl,f,q20,o,q21,h⟩:=h
    refine yq 8 (Code.ops K30) [(14,b,[vp (some g)]),(14,g,[vp (some k)]),(14,k,[vp (some j)]),(14,j,[vp f]),(11,a,[vu o])] 20 (bv 20 0) (show aJ _ _ _ from⟨⟨q17,trivial⟩,⟨q18,trivial⟩,⟨q19,trivial⟩,⟨q20,trivial⟩,⟨q21,trivial⟩,trivial⟩)<| T_g 0 (some 29) (vp (some g)) (bv 20 1) [(0,d),(1,vp (some b)),(2,vp (some a)),(6,vi i),(29,vp (some g))] (bH 28 (vp (some b))) (yY 14 yX)<| bM 1 30 (vp (some g)) (bv 20 3) [29]<| bM 2 31 (vp (some g)) (bv 20 7) [30]<| T_g1 3 32 (vp (some k)) (bv 20 15) [31] (bH 33 (vp (some g))) (yY 14 yQ)<| bM 4 33 (vp (some k)) (bv 20 31) [32]<| bM 5 34 (vp (some k)) (bv 20 63) [33]<| T_g1 6 35 (vp (some j)) (bv 20 127) [34] (bH 42 (vp (some k))) (yY 14 yJ)<| bM 7 36 (vp (some j)) (bv 20 255) [35]<| bM 8 37 (vp (some j)) (bv 20 511) [36]<| T_g1 9 38 (vp f) (bv 20 1023) [37] (bH 70 (vp (some j))) (yY 14 yK)<| T_g1 10 39 (vu o) (bv 20 2047) [] (bH 40 (vp (some a))) (yY 11 yV)<| bM 12 41 (vi i) (bv 20 6143) []<| yx 11 (some 40) (bv 20 8191) 50 #[vu o] h ?_;clear h
    rintro af H5 ⟨n,rfl,f22,f23,f24,f25,h⟩
    refine⟨[(0,d),(1,vp (some b)),(2,vp (some a)),(6,vi i),(38,vp f),(40,vi n),(41,vi i)],pk,(show aJ _ _ _ from⟨f22,f23,f24,f25,trivial,trivial⟩),?_⟩
    refine T_g 13 (some 42) (vi (zY (n+i))) (bv 20 16383) [(0,d),(1,vp (some b)),(2,vp (some a)),(6,vi i),(38,vp f),(42,vi (zY (n+i)))] (pure (.value (vi (zY (n+i)))):Sem Next) (λ_ _ _ _ _=>rfl)<| yx 14 (some 43) (bv 20 32767) 82 #[vp f,vi (zY (n+i))] h ?_;clear h
    rintro ai H6 ⟨ra,rb,rfl,h⟩
    refine⟨[(0,d),(1,vp (some b)),(2,vp (some a)),(6,vi i),(43,.tuple #[vu ra,vi rb])],pk,(show aJ _ _ _ from⟨trivial,trivial,trivial,trivial,trivial,trivial⟩),?_⟩
    refine T_g 15 (some 28) (.tuple #[vu ra,vi rb]) (bv 20 65535) [(0,d),(1,vp (some b)),(2,vp (some a)),(6,vi i),(28,.tuple #[vu ra,vi rb])] (pure (.value (.tuple #[vu ra,vi rb])):Sem Next) (λ_ _ _ _ _=>rfl)<| T_g1 16 44 (vu ra) (bv 20 131071) [] (pure (.value (vu ra)):Sem Next) (λ_ _ _ _ _=>rfl)<| T_g1 17 45 (vi rb) (bv 20 262143) [28] (pure (.value (vi rb)):Sem Next) (λ_ _ _ _ _=>rfl)<| T_g1 18 7 (vu ra) (bv 20 524287) [44] (pure (.value (vu ra)):Sem Next) (λ_ _ _ _ _=>rfl)<| T_gd 19 (some 8) (vi rb) (bv 20 1048575) [45] [] (pure (.value (vi rb)):Sem Next) (λ_ _ _ _ _=>rfl)<| gT [(0,d),(1,vp (some b)),(2,vp (some a)),(6,vi i),(7,vu ra)] sk<| yz<| aE<| ar 9<| T_n 1 [(0,d),(1,vp (some b)),(2,vp (some a)),(6,vi i),(7,vu ra),(46,d)] ?_
    obtain⟨q,q26,h⟩:=h
    refine T_l1 47 40 q26 []<| T_c (some 48) h ?_;clear h
    rintro ag H7 ⟨p,rfl,h⟩
    refine T_pd [47] [(48,vi p)]<| T_nd 3 [7,48] [(50,vi (zY (p+i))),(51,vu ra)]<| jy (some 52) d #[vi (zY (p+i)),vu ra] (λ_=>by kernel_rfl) h ?_;clear h
    rintro ah H8 ⟨l,rfl,h⟩
    refine T_pd [46,50,51] [(52,.bool l)]<| T_ed 1 [52] [(53,.bool (!l))] ?_
    by_cases c27:l=true
    ·rw[if_pos c27]at h
     exact aM 53 (congrArg Bool.not (c27))<| T_k<| aA<| aE<| T_rz 7<| T_ed 3 [6,53] [(6,vi (zY (i+1)))]<| bK ((zY (i+1)):Int) sk h
    rw[if_neg c27]at h
    exact aL 53 (congrArg Bool.not (zZ c27))<| gP [] [] hQ h
   rw[if_neg c15]at h
   exact aM 25 (zQ c15)<| zk 0<| aD<| aD<| aQ<| iJ (fn:=Tryz.f97) [] hQ (show dF _ _ _ [] _ from .nil) h
  by_cases c29:e>0
  ·rw[if_pos c29]at h
   have b30:(decide (e>0))=true:=zX c29
   refine fX [(0,d),(1,vp (some b)),(2,vp (some a)),(5,vi 0),(19,.bool true)] (by simp only[b30,Bool.not_true,Bool.not_false]) ?_
   clear b30
   exact T_tz 19<| T_rz 4<| T_ed 1 [5,19] [(5,vi 1)]<| mv (1:Int) sk h
  rw[if_neg c29]at h
  have b30:(decide (e>0))=false:=zQ c29
  refine fX [(0,d),(1,vp (some b)),(2,vp (some a)),(5,vi 0),(19,.bool false)] (by simp only[b30,Bool.not_true,Bool.not_false]) ?_
  clear b30
  exact T_fz 19<| T_kt<| mv (0:Int) sk h
 intro hk
 refine T_n 3 [(0,d),(1,vp (some b)),(2,vp (some a)),(4,vi e),(14,.bool (e==2))] ?_
 by_cases c3:e=2
 ·have b4:(e==2)=true:=zK c3
  refine dN [(0,d),(1,vp (some b)),(2,vp (some a)),(4,vi e),(14,.bool true)] (by rw[b4]) ?_
  refine T_nd 3 [14] [(17,.bool true)]<| zq<| S_bd 17 (b:=true) (v:=((e==2) || (e==3))) (by simp only[b4,BL]) ?_
  exact hk
 have b4:(e==2)=false:=zJ c3
 refine dN [(0,d),(1,vp (some b)),(2,vp (some a)),(4,vi e),(14,.bool false)] (by rw[b4]) ?_
 refine T_nd 3 [14] [(17,.bool (e==3))]<| zq<| S_bd 17 (b:=(e==3)) (v:=((e==2) || (e==3))) (by simp only[b4,BL]) ?_
 exact hk
end eF

/-! moraine/audit.things.1 -/
namespace eG
def K0:=Func.code Tryz.f101
def K2:=cb K0
def K8:=cb K2
def K9:=ca K8
def K10:=ca K9
def K12:=cb K10
def K14:=cb K12
def K17:=ca K14
def K19:=ca K17
def K21:=cb K19
def K23:=cb K21
def K25:=cb K23
def K26:=ca K25
def K27:=ca K26
end eG
def eG.pt(e:Value)(ai:zW)(H:zV)(R:zv):Prop:=
 ∃d:Addr,ai=some d/\
 ∃x:zW,hat H d=some (.pointer x)/\
 eZ.C x H (λv H1=> ∃ag:Bool,v=.bool ag/\
 if ag=true then(
 R (.tuple #[]) H1)
 else
 ∃av:zW,hat H1 d=some (.pointer av)/\
 ∃au:Addr,av=some au/\
 ∃ap:zW,hat H1 au=some (.pointer ap)/\
 ∃an:Addr,ap=some an/\
 ∃ay:zW,hat H1 an=some (.pointer ay)/\
 ∃am:Addr,ay=some am/\
 ∃ak:zW,hat H1 am=some (.pointer ak)/\
 dC.C ak none 0 0 H1 (λa7 H2=> ∃(xB:zW) (xN xC:Nat),a7=.slice xB xN xC/\
 ∃(aj:zw) (m11:Int->zV->Nat),aj 0 H2/\ ∀(f:Int) (H3:zV),aj f H3->
 if f< (xN:Int)then(
 ∃g:Addr,xB=some g/\
 yZ f xN/\
 ∃j:Int,hat H3 (g.add (Int.toNat f*1))=some (.int .i64 j)/\
 ∃az:zW,hat H3 d=some (.pointer az)/\
 ∃ax:Addr,az=some ax/\
 ∃aq:zW,hat H3 ax=some (.pointer aq)/\
 ∃aw:Addr,aq=some aw/\
 ∃af:zW,hat H3 aw=some (.pointer af)/\
 ∃ah:Addr,af=some ah/\
 ∃aa:zW,hat H3 ah=some (.pointer aa)/\
 cE.C aa j H3 (λa3 H4=> ∃(s r ab q o n p:Int) (rb:Bool),a3=.tuple #[.agg #[.int .i64 s,.int .i64 r,.int .i64 ab,.int .i64 q,.int .i64 o,.int .i64 n,.int .i64 p],.bool rb]/\
 ∀(b:Nat) (H5:zV),b=H4.size->H5=H4.push (.cells #[.int .i64 0,.int .i64 0,.int .i64 0,.int .i64 0,.int .i64 0,.int .i64 0,.int .i64 0] 89)->
 (aK H5 (ad b) 0 7)/\ ∀H6,H6=aU H5 (ad b) [.int .i64 s,.int .i64 r,.int .i64 ab,.int .i64 q,.int .i64 o,.int .i64 n,.int .i64 p] 0->
 ∃(ao:zw) (m28:Int->zV->Nat),ao 0 H6/\ ∀(l:Int) (H7:zV),ao l H7->
 ∃y:Int,hat H7 ((ad b).add 2)=some (.int .i64 y)/\
 if l<y then(
 ∃ae:Int,hat H7 ((ad b).add 1)=some (.int .i64 ae)/\
 fV.C ae H7 (λa6 H8=> ∃ac:Int,a6=.int .i64 ac/\
 iB.C ac (zY ((zY (j*64))+l)) H8 (λa4 H9=> ∃ra a0:Int,a4=.tuple #[.int .u64 ra,.int .i64 a0]/\
 ∃z:zW,hat H9 d=some (.pointer z)/\
 bE.C z ra H9 (λa5 a2=> ∃m:Int,a5=.int .i64 m/\
 FC Tryz.prog e #[.int .u64 ra,.int .i64 m] a2 (λa1 al=> ∃u:Bool,a1=.bool u/\
 if u=true then(
 if m=0 then(
 (aj (zY (f+1)) al/\m11 (zY (f+1)) al<m11 f H3))
 else
 (ao (zY (l+m)) al/\m28 (zY (l+m)) al<m28 l H7))
 else
 R (.tuple #[]) al)))))
 else
 (aj (zY (f+1)) H7/\m11 (zY (f+1)) H7<m11 f H3)))
 else
 R (.tuple #[]) H3))
namespace eG
theorem link{e:Value}{ai:zW}{H:zV}{R:zv}(h:pt e ai H R):C e ai H R:=by
 refine T_en K0 73 Tryz.func101 ?_
 intro w0 Q hQ
 unfold pt zY at h
 refine T_su [(0,e),(1,vp ai)]<| T_sz<| ar 0 ?_
 obtain⟨d,rfl,x,q1,h⟩:=h
 refine T_ld (some 11) 28 q1 [1] [(1,vp (some d)),(11,vp x)]<| T_c (some 12) h ?_;clear h
 rintro v H1 ⟨ag,rfl,h⟩
 refine T_pd [11] [(12,.bool ag)]<| T_e ?_
 by_cases c2:ag=true
 ·rw[if_pos c2]at h
  exact aL 12 c2<| gP [] [] hQ h
 rw[if_neg c2]at h
 refine aM 12 (zZ c2)<| T_kt<| ar 1<| T_ud [12] [] ?_
 obtain⟨av,q4,h⟩:=h
 refine T_l1 13 28 q4 [] ?_
 obtain⟨au,rfl,h⟩:=h
 refine T_nd 2 [13] [(15,vp (some au))] ?_
 obtain⟨ap,q5,h⟩:=h
 refine T_l1 16 33 q5 [15] ?_
 obtain⟨an,rfl,h⟩:=h
 refine T_nd 2 [16] [(18,vp (some an))] ?_
 obtain⟨ay,q6,h⟩:=h
 refine T_l1 19 42 q6 [18] ?_
 obtain⟨am,rfl,h⟩:=h
 refine T_nd 2 [19] [(21,vp (some am))] ?_
 obtain⟨ak,q7,h⟩:=h
 refine T_l1 22 70 q7 [21]<| T_c (some 23) h ?_;clear h
 rintro a7 H2 ⟨xB,xN,xC,rfl,h⟩
 refine T_pd [22] [(23,vs xB xN xC)]<| T_ed 2 [] [(24,vi xN),(25,vi 0)]<| T_bz 0 ?_
 obtain⟨aj,m11,i8,i9⟩:=h
 refine dE (x:=K10) (σ:=Int) (λs_=> [(0,e),(1,vp (some d)),(23,vs xB xN xC),(24,vi xN),(25,vi s_)]) (λs_ H=>aj s_ H) (λs_ H=>m11 s_ H) (0:Int) (by kernel_rfl) i8 sk ?_
 rintro f H3 i10
 have h:=i9 f H3 i10
 refine T_su [(0,e),(1,vp (some d)),(23,vs xB xN xC),(24,vi xN),(25,vi f)]<| ar 2<| T_ed 1 [] [(26,.bool (decide (f< (xN:Int))))]<| T_sz ?_
 by_cases c11:f< (xN:Int)
 ·rw[if_pos c11]at h
  refine aL 26 (zX c11)<| T_kt<| T_sz<| T_bz 1<| ar 3<| T_ud [26] [] ?_
  obtain⟨g,rfl,q13,h⟩:=h
  refine T_xd (some 27) 59 3 1 g xN xC .i64 f Tryz.underlying59 q13.1 q13.2 [23] [(23,vs (some g) xN xC),(27,vp (some (g.add (Int.toNat f*1))))] ?_
  obtain⟨j,q14,h⟩:=h
  refine T_l1 28 3 q14 [27]<| T_ed 1 [28] [(4,vi j)]<| ar 4 ?_
  obtain⟨az,q15,h⟩:=h
  refine T_l1 30 28 q15 [] ?_
  obtain⟨ax,rfl,h⟩:=h
  refine T_nd 2 [30] [(32,vp (some ax))] ?_
  obtain⟨aq,q16,h⟩:=h
  refine T_l1 33 33 q16 [32] ?_
  obtain⟨aw,rfl,h⟩:=h
  refine T_nd 2 [33] [(35,vp (some aw))] ?_
  obtain⟨af,q17,h⟩:=h
  refine T_l1 36 42 q17 [35] ?_
  obtain⟨ah,rfl,h⟩:=h
  refine T_nd 2 [36] [(38,vp (some ah))] ?_
  obtain⟨aa,q18,h⟩:=h
  refine T_l1 39 70 q18 [38]<| T_nd 1 [] [(40,vi j)]<| T_c (some 41) h ?_;clear h
  rintro a3 H4 ⟨s,r,ab,q,o,n,p,rb,rfl,h⟩
  refine T_pd [39,40] [(41,.tuple #[.agg #[vi s,vi r,vi ab,vi q,vi o,vi n,vi p],.bool rb])]<| T_nd 3 [41] [(42,.agg #[vi s,vi r,vi ab,vi q,vi o,vi n,vi p]),(43,.bool rb)]<| T_nw (some 5) (λb=>vp (pa b)) (.cells #[vi 0,vi 0,vi 0,vi 0,vi 0,vi 0,vi 0] 89) ?_
  intro b H5 e19 e20
  replace h:=h b H5 e19 e20
  refine T_pd [] [(5,vp (pa b))] ?_
  obtain⟨q22,h⟩:=h
  refine jP 89 [vi s,vi r,vi ab,vi q,vi o,vi n,vi p] q22 ?_
  intro H6 e21
  replace h:=h H6 e21
  refine T_pd [42] []<| T_ed 1 [43] []<| ar 5<| T_ed 1 [] [(7,vi 0)]<| T_bz 2 ?_
  obtain⟨ao,m28,i23,i24⟩:=h
  refine dE (x:=K27) (σ:=Int) (λs_=> [(0,e),(1,vp (some d)),(4,vi j),(5,vp (pa b)),(7,vi s_),(23,vs (some g) xN xC),(24,vi xN),(25,vi f)]) (λs_ H=>ao s_ H) (λs_ H=>m28 s_ H) (0:Int) (by kernel_rfl) i23 sk ?_
  rintro l H7 i25
  have h:=i24 l H7 i25
  refine T_su [(0,e),(1,vp (some d)),(4,vi j),(5,vp (pa b)),(7,vi l),(23,vs (some g) xN xC),(24,vi xN),(25,vi f)]<| T_sz<| ar 6<| T_nd 2 [] [(44,vi l),(45,vp (some ((ad b).add 2)))] ?_
  obtain⟨y,q26,h⟩:=h
  refine T_l1 46 3 q26 [45]<| T_ed 1 [44,46] [(47,.bool (decide (l<y)))] ?_
  by_cases c27:l<y
  ·rw[if_pos c27]at h
   refine aL 47 (zX c27)<| T_kt<| T_bz 3<| ar 7<| T_nd 1 [47] [(49,vp (some ((ad b).add 1)))] ?_
   obtain⟨ae,q29,h⟩:=h
   refine T_l1 50 3 q29 [49]<| T_c (some 51) h ?_;clear h
   rintro a6 H8 ⟨ac,rfl,h⟩
   refine T_pd [50] [(51,vi ac)]<| T_nd 4 [] [(55,vi (zY ((zY (j*64))+l)))]<| T_c (some 56) h ?_;clear h
   rintro a4 H9 ⟨ra,a0,rfl,h⟩
   refine T_pd [51,55] [(56,.tuple #[vu ra,vi a0])]<| T_ed 5 [56] [(8,vu ra)]<| ar 8 ?_
   obtain⟨z,q30,h⟩:=h
   refine T_l1 59 28 q30 []<| T_nd 1 [] [(60,vu ra)]<| T_c (some 61) h ?_;clear h
   rintro a5 a2 ⟨m,rfl,h⟩
   refine T_pd [59,60] [(61,vi m)]<| T_ed 1 [61] [(10,vi m)]<| T_sz<| ar 9<| T_nd 3 [8] [(62,e),(63,vu ra),(64,vi m)]<| jy (some 65) e #[vu ra,vi m] (λ_=>by kernel_rfl) h ?_;clear h
   rintro a1 al ⟨u,rfl,h⟩
   refine T_pd [62,63,64] [(65,.bool u)]<| T_ed 1 [65] [(66,.bool (!u))] ?_
   by_cases c31:u=true
   ·rw[if_pos c31]at h
    refine aM 66 (congrArg Bool.not (c31))<| T_kt<| T_sz<| ar 10<| T_ed 2 [66] [(68,.bool (m==0))] ?_
    by_cases c33:m=0
    ·rw[if_pos c33]at h
     exact aL 68 (zK c33)<| zk 2<| aD<| zj<| aD<| aQ<| aA<| aE<| T_rz 12<| T_ed 2 [4,5,7,10,25,68] [(25,vi (zY (f+1)))]<| bK ((zY (f+1)):Int) sk h
    rw[if_neg c33]at h
    exact aM 68 (zJ c33)<| T_kt<| T_rz 11<| T_nd 4 [7,10,68] [(7,vi (zY (l+m)))]<| zq<| aA<| aE<| bK ((zY (l+m)):Int) sk h
   rw[if_neg c31]at h
   exact aL 66 (congrArg Bool.not (zZ c31))<| gP [] [] hQ h
  rw[if_neg c27]at h
  exact aM 47 (zQ c27)<| zk 2<| aD<| aD<| aQ<| aA<| aE<| T_rz 12<| T_ed 2 [4,5,7,25,47] [(25,vi (zY (f+1)))]<| bK ((zY (f+1)):Int) sk h
 rw[if_neg c11]at h
 exact aM 26 (zQ c11)<| zk 0<| aD<| aD<| aQ<| iJ (fn:=Tryz.f101) [] hQ (show dF _ _ _ [] _ from .nil) h
end eG

/-! moraine/audit.tags -/
namespace fV
def K0:=Func.code Tryz.f102
end fV
def fV.pt(a:Int)(H:zV)(R:zv):Prop:=
 ∃x:Int,((0<=a/\a< (4:Int))/\(#[.int .i64 1,.int .i64 2,.int .i64 3,.int .i64 3]:Array Value)[Int.toNat a]?=some (.int .i64 x))/\
 R (.int .i64 x) H
namespace fV
theorem link{a:Int}{H:zV}{R:zv}(h:pt a H R):C a H R:=by
 refine T_en K0 6 Tryz.func102 ?_
 intro w0 Q hQ
 unfold pt at h
 refine T_su [(0,vi a)]<| ar 0<| T_ed 1 [] []<| ar 1<| T_n 2 [(3,.agg #[vi 1,vi 2,vi 3,vi 3]),(4,vi a)] ?_
 obtain⟨x,q1,h⟩:=h
 exact T_v1 5 (ls 71 (.agg #[vi 1,vi 2,vi 3,vi 3]) (vi a)) (vi x) (λw _=>jx (P:=Tryz.prog) (t:=71) (elem:=3) (n:=4) Tryz.underlying71 (λ_=>by kernel_rfl) (λ_=>by kernel_rfl) q1.1.1 q1.1.2 q1.2 w) [3,4]<| T_nr 1 [2] [vi x] hQ h
end fV

