/- Printed: what each function asks, and that it is sound. -/
import Derived.Test.YtgnokbjknicahaaGreatFnsC
set_option linter.unusedSimpArgs false
set_option linter.unusedVariables false
set_option maxRecDepth 100000
set_option maxHeartbeats 1000000
noncomputable section
namespace Go.Proofs.YtgnokbjknicahaaGreat
open Go
/-! (*moraine/card.Cards).Dirty -/
namespace card_Cards_Dirty
def K0:=Func.code Tryz.f59
def K2:=cb K0
def K4:=cb K2
def K12:=cb K4
def K13:=ca K12
def K16:=cb K13
def K17:=ca K16
def K18:=ca K17
def K20:=cb K18
def K22:=cb K20
def K25:=ca K22
def K27:=ca K25
def K29:=cb K27
def K31:=cb K29
def K33:=cb K31
def K34:=ca K33
def K35:=ca K34
end card_Cards_Dirty
def card_Cards_Dirty.pt(c:Option Addr)(g:Int)(H:Array Obj)(R:Value->Array Obj->Prop):Prop:=
 card_Cards_none.C c H (λv H1=> ∃x:Bool,v=.bool x/\
 if x=true then(
 R (.slice none 0 0) H1)
 else
 ∃cA:Addr,c=some cA/\
 ∃ak:Option Addr,hat H1 cA=some (.pointer ak)/\
 ∃am:Addr,ak=some am/\
 ∃ag:Option Addr,hat H1 am=some (.pointer ag)/\
 seg_Mem_Taken.C ag none 0 0 H1 (λan H2=> ∃(xB:Option Addr) (xN xC:Nat),an=.slice xB xN xC/\
 ∃(al:(Option Addr)->Nat->Nat->Int->Array Obj->Prop) (m19:(Option Addr)->Nat->Nat->Int->Array Obj->Nat),al none 0 0 0 H2/\ ∀(lB:Option Addr) (lN:Nat) (lC:Nat) (s23:Int) (H3:Array Obj),al lB lN lC s23 H3->
 if s23< (xN:Int)then(
 ∃d:Addr,xB=some d/\
 ((0:Int)<=s23/\s23< (xN:Int))/\
 ∃e:Int,hat H3 (d.add (Int.toNat s23*1))=some (.int .i64 e)/\
 ∃ai:Option Addr,hat H3 cA=some (.pointer ai)/\
 ∃aj:Addr,ai=some aj/\
 ∃ae:Option Addr,hat H3 aj=some (.pointer ae)/\
 seg_Mem_Seg.C ae e H3 (λao H4=> ∃(aa u ab s r p q:Int) (rb:Bool),ao=.tuple #[.agg #[.int .i64 aa,.int .i64 u,.int .i64 ab,.int .i64 s,.int .i64 r,.int .i64 p,.int .i64 q],.bool rb]/\
 ∀(b:Nat) (H5:Array Obj),b=H4.size->H5=H4.push (.cells #[.int .i64 0,.int .i64 0,.int .i64 0,.int .i64 0,.int .i64 0,.int .i64 0,.int .i64 0] 76)->
 (CanPuts H5 (ad b) 0 7)/\ ∀H6,H6=hputs H5 (ad b) [.int .i64 aa,.int .i64 u,.int .i64 ab,.int .i64 s,.int .i64 r,.int .i64 p,.int .i64 q] 0->
 ∃m j l o:Int,RowAt H6 ((ad b).add 3) 0 [.int .i64 m,.int .i64 j,.int .i64 l,.int .i64 o]/\
 ∃(af:(Option Addr)->Nat->Nat->Int->Array Obj->Prop) (m36:(Option Addr)->Nat->Nat->Int->Array Obj->Nat),af lB lN lC 0 H6/\ ∀(f:Option Addr) (lN_2:Nat) (lC_2:Nat) (s41:Int) (H7:Array Obj),af f lN_2 lC_2 s41 H7->
 if s41<4 then(
 ∃y:Int,((0<=s41/\s41< (4:Int))/\(#[.int .i64 m,.int .i64 j,.int .i64 l,.int .i64 o]:Array Value)[Int.toNat s41]?=some (.int .i64 y))/\
 ∃z:Int,hat H7 (ad b)=some (.int .i64 z)/\
 if((decide (z>g)) && (decide (y<=g)))=true then(
 ∀(ah:Nat) (H8:Array Obj),ah=H7.size->H8=H7.push (.cells #[.int .i64 e,.int .i64 s41] 132)->
 appendK 2 132 16 [.int .i64 0,.int .i64 0] f lN_2 lC_2 (some (ad ah)) 1 H8 (λap ac H9=>
 (af ap (lN_2+1) ac (IntKind.wrap .i64 (s41+1)) H9/\m36 ap (lN_2+1) ac (IntKind.wrap .i64 (s41+1)) H9<m36 f lN_2 lC_2 s41 H7)))
 else
 (af f lN_2 lC_2 (IntKind.wrap .i64 (s41+1)) H7/\m36 f lN_2 lC_2 (IntKind.wrap .i64 (s41+1)) H7<m36 f lN_2 lC_2 s41 H7))
 else
 (al f lN_2 lC_2 (IntKind.wrap .i64 (s23+1)) H7/\m19 f lN_2 lC_2 (IntKind.wrap .i64 (s23+1)) H7<m19 lB lN lC s23 H3)))
 else
 R (.slice lB lN lC) H3))
namespace card_Cards_Dirty
theorem link{c:Option Addr}{g:Int}{H:Array Obj}{R:Value->Array Obj->Prop}(h:pt c g H R):C c g H R:=by
 refine T_en K0 63 Tryz.func59 ?_
 intro w0 Q hQ
 unfold pt at h
 refine T_su [(0,vp c),(1,vi g)]<| T_srz 0<| T_ed 1 [] []<| T_sz<| T_srz 1<| T_nd 1 [] [(12,vp c)] ?_
 refine T_c (some 13) h ?_;clear h
 rintro v H1 ⟨x,rfl,h⟩
 refine T_pd [12] [(13,.bool x)]<| T_e ?_
 by_cases c1:x=true
 ·rw[if_pos c1]at h
  exact T_cTz 13 c1<| T_srz 2<| T_nr 1 [4] [vs none 0 0] hQ h
 rw[if_neg c1]at h
 refine T_cFz 13 (eq_false_of_ne_true c1)<| T_kt<| T_srz 3<| T_ed 1 [13] [(5,vs none 0 0)]<| T_sz<| T_srz 4<| T_nd 1 [] [(14,vp c)] ?_
 obtain⟨cA,rfl,h⟩:=h
 refine T_nd 2 [0,14] [(0,vp (some cA)),(16,vp (some cA))] ?_
 obtain⟨ak,q3,h⟩:=h
 refine T_l1 17 39 q3 [16] ?_
 obtain⟨am,rfl,h⟩:=h
 refine T_nd 2 [17] [(19,vp (some am))] ?_
 obtain⟨ag,q4,h⟩:=h
 refine T_l1 20 69 q4 [19] ?_
 refine T_c (some 21) h ?_;clear h
 rintro an H2 ⟨xB,xN,xC,rfl,h⟩
 refine T_pd [20] [(21,vs xB xN xC)]<| T_ed 2 [] [(22,vi xN),(23,vi 0)]<| T_bz 0 ?_
 obtain⟨al,m19,i5,i6⟩:=h
 refine S_loop (x:=K18) (σ:=(Option Addr)×Nat×Nat×Int) (λs_=> [(0,vp (some cA)),(1,vi g),(5,vs s_.1 s_.2.1 s_.2.2.1),(21,vs xB xN xC),(22,vi xN),(23,vi s_.2.2.2)]) (λs_ H=>al s_.1 s_.2.1 s_.2.2.1 s_.2.2.2 H) (λs_ H=>m19 s_.1 s_.2.1 s_.2.2.1 s_.2.2.2 H) ((none,0,0,0):(Option Addr)×Nat×Nat×Int) (by kernel_rfl) i5 sk ?_
 rintro⟨lB,lN,lC,s23⟩ H3 i7
 have h:=i6 lB lN lC s23 H3 i7
 refine T_su [(0,vp (some cA)),(1,vi g),(5,vs lB lN lC),(21,vs xB xN xC),(22,vi xN),(23,vi s23)]<| T_srz 5<| T_ed 1 [] [(24,.bool (decide (s23< (xN:Int))))]<| T_sz ?_
 by_cases c8:s23< (xN:Int)
 ·rw[if_pos c8]at h
  refine T_cTz 24 (decide_eq_true c8)<| T_kt<| T_sz<| T_bz 1<| T_srz 6<| T_ud [24] [] ?_
  obtain⟨d,rfl,h⟩:=h
  obtain⟨q10,h⟩:=h
  refine T_xd (some 25) 67 3 1 d xN xC .i64 s23 Tryz.underlying67 q10.1 q10.2 [21] [(21,vs (some d) xN xC),(25,vp (some (d.add (Int.toNat s23*1))))] ?_
  obtain⟨e,q11,h⟩:=h
  refine T_l1 26 3 q11 [25]<| T_ed 1 [26] [(7,vi e)]<| T_srz 7<| T_nd 3 [] [(30,vp (some cA))] ?_
  obtain⟨ai,q12,h⟩:=h
  refine T_l1 31 39 q12 [30] ?_
  obtain⟨aj,rfl,h⟩:=h
  refine T_nd 2 [31] [(33,vp (some aj))] ?_
  obtain⟨ae,q13,h⟩:=h
  refine T_l1 34 69 q13 [33]<| T_nd 1 [] [(35,vi e)] ?_
  refine T_c (some 36) h ?_;clear h
  rintro ao H4 ⟨aa,u,ab,s,r,p,q,rb,rfl,h⟩
  refine T_pd [34,35] [(36,.tuple #[.agg #[vi aa,vi u,vi ab,vi s,vi r,vi p,vi q],.bool rb])]<| T_nd 3 [36] [(37,.agg #[vi aa,vi u,vi ab,vi s,vi r,vi p,vi q]),(38,.bool rb)]<| T_nw (some 8) (λb=>vp (pa b)) (.cells #[vi 0,vi 0,vi 0,vi 0,vi 0,vi 0,vi 0] 76) ?_
  intro b H5 e14 e15
  replace h:=h b H5 e14 e15
  refine T_pd [] [(8,vp (pa b))] ?_
  obtain⟨q17,h⟩:=h
  refine T_sta 76 [vi aa,vi u,vi ab,vi s,vi r,vi p,vi q] q17 ?_
  intro H6 e16
  replace h:=h H6 e16
  refine T_pd [37] []<| T_ed 1 [38] []<| T_srz 8<| T_nd 1 [] [(39,vp (some ((ad b).add 3)))] ?_
  obtain⟨m,j,l,o,q18,h⟩:=h
  refine T_lr 40 70 q18 [39]<| T_ed 1 [] [(41,vi 0)]<| T_bz 2 ?_
  obtain⟨af,m36,i19,i20⟩:=h
  refine S_loop (x:=K35) (σ:=(Option Addr)×Nat×Nat×Int) (λs_=> [(0,vp (some cA)),(1,vi g),(5,vs s_.1 s_.2.1 s_.2.2.1),(7,vi e),(8,vp (pa b)),(21,vs (some d) xN xC),(22,vi xN),(23,vi s23),(40,.agg #[vi m,vi j,vi l,vi o]),(41,vi s_.2.2.2)]) (λs_ H=>af s_.1 s_.2.1 s_.2.2.1 s_.2.2.2 H) (λs_ H=>m36 s_.1 s_.2.1 s_.2.2.1 s_.2.2.2 H) ((lB,lN,lC,0):(Option Addr)×Nat×Nat×Int) (by kernel_rfl) i19 sk ?_
  rintro⟨f,lN_2,lC_2,s41⟩ H7 i21
  have h:=i20 f lN_2 lC_2 s41 H7 i21
  refine T_su [(0,vp (some cA)),(1,vi g),(5,vs f lN_2 lC_2),(7,vi e),(8,vp (pa b)),(21,vs (some d) xN xC),(22,vi xN),(23,vi s23),(40,.agg #[vi m,vi j,vi l,vi o]),(41,vi s41)]<| T_srz 9<| T_ed 1 [] [(42,.bool (decide (s41<4)))]<| T_sz ?_
  by_cases c22:s41<4
  ·rw[if_pos c22]at h
   refine T_cTz 42 (decide_eq_true c22)<| T_kt<| T_sz<| T_bz 3<| T_srz 10<| T_nd 1 [42] [(43,vi s41)] ?_
   obtain⟨y,q24,h⟩:=h
   refine T_v1 44 (indexN 70 (.agg #[vi m,vi j,vi l,vi o]) (vi s41)) (vi y) (λw _=>indexAgg_run (P:=Tryz.prog) (t:=70) (elem:=3) (n:=4) Tryz.underlying70 (λ_=>by kernel_rfl) (λ_=>by kernel_rfl) q24.1.1 q24.1.2 q24.2 w) []<| T_ed 2 [43,44] [(10,vi s41),(11,vi y)]<| T_srz 11<| T_nd 1 [] [(45,vp (pa b))] ?_
   obtain⟨z,q25,h⟩:=h
   refine T_l1 46 3 q25 [45]<| T_nd 3 [46] [(49,.bool (decide (z>g)))] ?_
   refine N_cut [(0,vp (some cA)),(1,vi g),(5,vs f lN_2 lC_2),(7,vi e),(8,vp (pa b)),(10,vi s41),(21,vs (some d) xN xC),(22,vi xN),(23,vi s23),(40,.agg #[vi m,vi j,vi l,vi o]),(41,vi s41),(53,.bool ((decide (z>g)) && (decide (y<=g))))] ?_ ?_
   ·refine S_then ?_
    by_cases c28:((decide (z>g)) && (decide (y<=g)))=true
    ·rw[if_pos c28]at h
     refine T_cTz 53 c28<| T_rz 12<| T_n 4 [(0,vp (some cA)),(1,vi g),(7,vi e),(8,vp (pa b)),(21,vs (some d) xN xC),(22,vi xN),(23,vi s23),(40,.agg #[vi m,vi j,vi l,vi o]),(41,vi s41),(54,vs f lN_2 lC_2),(57,.agg #[vi e,vi s41])]<| T_nw (some 58) (λb=>vs (pa b) 1 1) (.cells #[vi e,vi s41] 132) ?_
     intro ah H8 e30 e31
     replace h:=h ah H8 e30 e31
     refine T_pd [57] [(58,vs (pa ah) 1 1)] ?_
     refine N_op (some 59) (appendN #[125,125] 125 #[vs f lN_2 lC_2,vs (pa ah) 1 1]) _ (λ_=>by kernel_rfl) (ss_append (T:=132) (sz:=2) (bytes:=16) (zero:=(.agg #[vi 0,vi 0]:Value)) Tryz.underlying125 Tryz.underlying125 rfl (show Tryz.prog.info? 132=some Tryz.t132 from by kernel_rfl) (by kernel_rfl) (by kernel_rfl) (by decide) (by kernel_rfl) (by first | exact h | (simpa only[Value.cells,List.toList_toArray]using h))) ?_;clear h
     rintro _ H9 ⟨ap,ac,rfl,h⟩
     refine T_pd [54,58] [(59,vs ap (lN_2+1) ac)]<| T_nd 1 [59] [(5,vs ap (lN_2+1) ac)] ?_
     refine N_end (by kernel_rfl) ?_
     refine S_blockEnd ?_
     refine S_then ?_
     refine T_rz 13<| T_ed 2 [41] [(41,vi (IntKind.wrap .i64 (s41+1)))] ?_
     exact S_round ((ap,(lN_2+1),ac,(IntKind.wrap .i64 (s41+1))):(Option Addr)×Nat×Nat×Int) sk h
    rw[if_neg c28]at h
    refine T_cFz 53 (eq_false_of_ne_true c28)<| T_k ?_
    refine S_blockEnd ?_
    refine S_then ?_
    refine T_rz 13<| T_ne 2 [(0,vp (some cA)),(1,vi g),(5,vs f lN_2 lC_2),(7,vi e),(8,vp (pa b)),(21,vs (some d) xN xC),(22,vi xN),(23,vi s23),(40,.agg #[vi m,vi j,vi l,vi o]),(41,vi (IntKind.wrap .i64 (s41+1)))] ?_
    exact S_round ((f,lN_2,lC_2,(IntKind.wrap .i64 (s41+1))):(Option Addr)×Nat×Nat×Int) sk h
   intro hk
   refine T_nu [(0,vp (some cA)),(1,vi g),(5,vs f lN_2 lC_2),(7,vi e),(8,vp (pa b)),(10,vi s41),(11,vi y),(21,vs (some d) xN xC),(22,vi xN),(23,vi s23),(40,.agg #[vi m,vi j,vi l,vi o]),(41,vi s41),(49,.bool (decide (z>g)))] ?_
   by_cases c26:z>g
   ·have b27:(decide (z>g))=true:=decide_eq_true c26
    refine N_env [(0,vp (some cA)),(1,vi g),(5,vs f lN_2 lC_2),(7,vi e),(8,vp (pa b)),(10,vi s41),(11,vi y),(21,vs (some d) xN xC),(22,vi xN),(23,vi s23),(40,.agg #[vi m,vi j,vi l,vi o]),(41,vi s41),(49,.bool true)] (by rw[b27]) ?_
    refine T_nd 4 [11,49] [(53,.bool (decide (y<=g)))] ?_
    refine N_end (by kernel_rfl) ?_
    refine S_bd 53 (b:=(decide (y<=g))) (v:=((decide (z>g)) && (decide (y<=g)))) (by simp only[b27,BL]) ?_
    exact hk
   have b27:(decide (z>g))=false:=decide_eq_false c26
   refine N_env [(0,vp (some cA)),(1,vi g),(5,vs f lN_2 lC_2),(7,vi e),(8,vp (pa b)),(10,vi s41),(11,vi y),(21,vs (some d) xN xC),(22,vi xN),(23,vi s23),(40,.agg #[vi m,vi j,vi l,vi o]),(41,vi s41),(49,.bool false)] (by rw[b27]) ?_
   refine T_nd 4 [11,49] [(53,.bool false)] ?_
   refine N_end (by kernel_rfl) ?_
   refine S_bd 53 (b:=false) (v:=((decide (z>g)) && (decide (y<=g)))) (by simp only[b27,BL]) ?_
   exact hk
  rw[if_neg c22]at h
  refine T_cFz 42 (decide_eq_false c22) ?_
  refine S_exit 2 (by kernel_rfl) ?_
  refine S_exitThen ?_
  refine S_exitThen ?_
  refine S_exitHere ?_
  refine S_blockEnd ?_
  refine S_then ?_
  refine T_rz 14<| T_ed 2 [7,8,23,40,41,42] [(23,vi (IntKind.wrap .i64 (s23+1)))] ?_
  exact S_round ((f,lN_2,lC_2,(IntKind.wrap .i64 (s23+1))):(Option Addr)×Nat×Nat×Int) sk h
 rw[if_neg c8]at h
 refine T_cFz 24 (decide_eq_false c8) ?_
 refine S_exit 0 (by kernel_rfl) ?_
 refine S_exitThen ?_
 refine S_exitThen ?_
 refine S_exitHere ?_
 refine S_then ?_
 exact T_srz 15<| T_nr 2 [4] [vs lB lN lC] hQ h
end card_Cards_Dirty

/-! (*moraine/card.Cards).Again -/
namespace card_Cards_Again
def K0:=Func.code Tryz.f62
def K2:=cb K0
def K4:=cb K2
def K12:=cb K4
def K14:=cb K12
def K27:=cb K14
def K28:=ca K27
def K29:=cb K27
def K31:=cb K28
def K32:=ca K31
def K33:=ca K32
def K34:=cb K32
def K36:=ca K29
end card_Cards_Again
def card_Cards_Again.pt(c:Option Addr)(d a:Int)(H:Array Obj)(R:Value->Array Obj->Prop):Prop:=
 ∀(b:Nat) (H1:Array Obj),b=H.size->H1=H.push (.cells #[.pointer c] 26)->
 ∃x:Option Addr,hat H1 (ad b)=some (.pointer x)/\
 card_Cards_none.C x H1 (λv H2=> ∃al:Bool,v=.bool al/\
 if al=true then(
 R (.int .i64 19) H2)
 else
 ∃ap:Option Addr,hat H2 (ad b)=some (.pointer ap)/\
 ∃aq:Addr,ap=some aq/\
 ∃au:Option Addr,hat H2 aq=some (.pointer au)/\
 ∃av:Addr,au=some av/\
 ∃aj:Option Addr,hat H2 av=some (.pointer aj)/\
 seg_Mem_Seg.C aj d H2 (λa4 H3=> ∃(t r ag l k i j:Int) (rb:Bool),a4=.tuple #[.agg #[.int .i64 t,.int .i64 r,.int .i64 ag,.int .i64 l,.int .i64 k,.int .i64 i,.int .i64 j],.bool rb]/\
 ∀(f:Nat) (H4:Array Obj),f=H3.size->H4=H3.push (.cells #[.int .i64 0,.int .i64 0,.int .i64 0,.int .i64 0,.int .i64 0,.int .i64 0,.int .i64 0] 76)->
 (CanPuts H4 (ad f) 0 7)/\ ∀H5,H5=hputs H4 (ad f) [.int .i64 t,.int .i64 r,.int .i64 ag,.int .i64 l,.int .i64 k,.int .i64 i,.int .i64 j] 0->
 if rb=true then(
 if((decide (a<0)) || (decide (a>=4)))=true then(
 R (.int .i64 1) H5)
 else
 ∀(e:Nat) (H6:Array Obj),e=H5.size->H6=H5.push (.cells #[.int .i64 0] 3)->
 (CanPuts H6 (ad e) 0 1)/\ ∀H7,H7=hputs H6 (ad e) [.int .i64 5] 0->
 ∃am:Option Addr,hat H7 (ad b)=some (.pointer am)/\
 card_Cards_words.C am d a H7 (λan H8=>an=an/\
 ∀(rc:LoopState->Option Code->Obj) (lp:Nat) (H9:Array Obj),lp=H8.size+1->H9=(H8.push (.deferred (some []))).push (rc .ready none)->
 ∀vY:Value,(∀(aa:Int) (H10:Array Obj) (vRy:Value->Array Obj->Prop),H10[lp]?=some (rc .ready none)->
 (H10[lp]?=some (rc .ready none)/\ ∀ak:Array Obj,ak=setBlk H10 lp (rc .busy none)->
 ∃af:Option Addr,hat ak (ad b)=some (.pointer af)/\
 ∃ab u xN n o m p:Int,RowAt ak (ad f) 0 [.int .i64 ab,.int .i64 u,.int .i64 xN,.int .i64 n,.int .i64 o,.int .i64 m,.int .i64 p]/\
 ∃ah:Int,hat ak (ad e)=some (.int .i64 ah)/\
 card_Cards_younger.C af ab u xN n o m p aa ah ak (λa0 ay=> ∃ac:Int,a0=.int .i64 ac/\
 (CanPuts ay (ad e) 0 1)/\ ∀ao,ao=hputs ay (ad e) [.int .i64 ac] 0->
 ao[lp]?=some (rc .busy none)/\
 vRy (.bool true) (setBlk ao lp (rc .ready none))))->
 FC Tryz.prog vY #[.int .u64 aa] H10 vRy)->
 FE Tryz.prog an #[vY] H9 (λ_ az=>
 (az[lp]?=some (rc .ready none)/\ ∀ai:Array Obj,ai=setBlk az lp (rc .exhausted none)->
 ∃ax:Option Addr,hat ai (ad b)=some (.pointer ax)/\
 ∃s:Addr,ax=some s/\
 ∃aw:Option Addr,hat ai s=some (.pointer aw)/\
 ∃q:Addr,aw=some q/\
 ∃y:Option Addr,hat ai q=some (.pointer y)/\
 ∃ae:Int,hat ai (ad e)=some (.int .i64 ae)/\
 seg_Mem_Mark.C y d a ae ai (λa1 a2=> ∃z:Int,a1=.int .i64 z/\
 Shut (H8.size::[]) a2 (λa3=>
 R (.int .i64 z) a3))))))
 else
 R (.int .i64 19) H5))
namespace card_Cards_Again
theorem link{c:Option Addr}{d a:Int}{H:Array Obj}{R:Value->Array Obj->Prop}(h:pt c d a H R):C c d a H R:=by
 refine T_en K0 56 Tryz.func62 ?_
 intro w0 Q hQ
 unfold pt at h
 refine T_su [(0,vp c),(1,vi d),(2,vi a)]<| T_srz 0<| T_nw (some 3) (λb=>vp (pa b)) (.cells #[vp c] 26) ?_
 intro b H1 e1 e2
 replace h:=h b H1 e1 e2
 refine T_pd [0] [(3,vp (pa b))]<| T_ed 1 [] []<| T_sz<| T_srz 1 ?_
 obtain⟨x,q3,h⟩:=h
 refine T_l1 11 26 q3 [] ?_
 refine T_c (some 12) h ?_;clear h
 rintro v H2 ⟨al,rfl,h⟩
 refine T_pd [11] [(12,.bool al)]<| T_e ?_
 by_cases c4:al=true
 ·rw[if_pos c4]at h
  exact T_cTz 12 c4<| T_srz 2<| T_nr 1 [6] [vi 19] hQ h
 rw[if_neg c4]at h
 refine T_cFz 12 (eq_false_of_ne_true c4)<| T_kt<| T_srz 3<| T_ud [12] [] ?_
 obtain⟨ap,q6,h⟩:=h
 refine T_l1 14 26 q6 [] ?_
 obtain⟨aq,rfl,h⟩:=h
 refine T_nd 2 [14] [(16,vp (some aq))] ?_
 obtain⟨au,q7,h⟩:=h
 refine T_l1 17 39 q7 [16] ?_
 obtain⟨av,rfl,h⟩:=h
 refine T_nd 2 [17] [(19,vp (some av))] ?_
 obtain⟨aj,q8,h⟩:=h
 refine T_l1 20 69 q8 [19]<| T_nd 1 [] [(21,vi d)] ?_
 refine T_c (some 22) h ?_;clear h
 rintro a4 H3 ⟨t,r,ag,l,k,i,j,rb,rfl,h⟩
 refine T_pd [20,21] [(22,.tuple #[.agg #[vi t,vi r,vi ag,vi l,vi k,vi i,vi j],.bool rb])]<| T_nd 3 [22] [(23,.agg #[vi t,vi r,vi ag,vi l,vi k,vi i,vi j]),(24,.bool rb)]<| T_nw (some 7) (λb=>vp (pa b)) (.cells #[vi 0,vi 0,vi 0,vi 0,vi 0,vi 0,vi 0] 76) ?_
 intro f H4 e9 e10
 replace h:=h f H4 e9 e10
 refine T_pd [] [(7,vp (pa f))] ?_
 obtain⟨q12,h⟩:=h
 refine T_sta 76 [vi t,vi r,vi ag,vi l,vi k,vi i,vi j] q12 ?_
 intro H5 e11
 replace h:=h H5 e11
 refine T_pd [23] []<| T_ed 1 [24] [(8,.bool rb)]<| T_sz<| T_bz 0<| T_srz 4<| T_ed 3 [8] [(25,.bool (!rb))] ?_
 by_cases c13:rb=true
 ·rw[if_pos c13]at h
  refine T_cFz 25 (congrArg Bool.not (c13))<| T_srz 6 ?_
  refine N_cut [(1,vi d),(2,vi a),(3,vp (pa b)),(7,vp (pa f)),(28,.bool ((decide (a<0)) || (decide (a>=4))))] ?_ ?_
  ·refine S_then ?_
   by_cases c17:((decide (a<0)) || (decide (a>=4)))=true
   ·rw[if_pos c17]at h
    exact T_cTz 28 c17<| T_srz 7<| T_nr 1 [6] [vi 1] hQ h
   rw[if_neg c17]at h
   refine T_cFz 28 (eq_false_of_ne_true c17)<| T_k ?_
   refine S_blockEnd ?_
   refine S_then ?_
   refine T_srz 8<| T_nu [(1,vi d),(2,vi a),(3,vp (pa b)),(7,vp (pa f))]<| T_nw (some 9) (λb=>vp (pa b)) (.cells #[vi 0] 3) ?_
   intro e H6 e19 e20
   replace h:=h e H6 e19 e20
   refine T_pd [] [(9,vp (pa e))] ?_
   obtain⟨q22,h⟩:=h
   refine T_st1 3 (vi 5) q22 ?_
   intro H7 e21
   replace h:=h H7 e21
   refine T_pd [] []<| T_e<| T_sz<| T_srz 9 ?_
   obtain⟨am,q23,h⟩:=h
   refine T_l1 35 26 q23 []<| T_nd 2 [] [(36,vi d),(37,vi a)] ?_
   refine T_c (some 38) h ?_;clear h
   rintro an H8 ⟨-,h⟩
   refine T_pd [35,36,37] [(38,an)]<| T_e<| T_bz 1 ?_
   refine S_range (g:=.tmp 38) (ps:= #[39]) (assign:=K33) (body:=K34) (an) (by kernel_rfl) (by kernel_rfl) (by kernel_rfl) ?_
   intro rc lp H9 r24 e25 e26 y27
   refine FE.mono (h rc lp H9 e25 e26 (.func (.yield lp) #[] #[]) ?_) ?_
   ·clear h
    intro aa H10 vRy q28 h
    refine y27 #[vu aa] H10 vRy (by kernel_rfl) q28 (λw1x=>?_)
    refine T_sd [] [(39,vu aa)]<| T_rz 10<| T_nd 1 [1,2,38,39] [(10,vu aa)] ?_
    refine N_end (by kernel_rfl) ?_
    obtain⟨q30,h⟩:=h
    refine S_then ?_
    refine S_begin r24 q30 ?_
    intro ak e29
    replace h:=h ak e29
    refine T_bz 2<| T_rz 11 ?_
    obtain⟨af,q31,h⟩:=h
    refine T_l1 40 26 q31 [3] ?_
    obtain⟨ab,u,xN,n,o,m,p,q32,h⟩:=h
    refine T_lr 41 76 q32 [7]<| T_nd 1 [10] [(42,vu aa)] ?_
    obtain⟨ah,q33,h⟩:=h
    refine T_l1 43 3 q33 [] ?_
    refine T_c (some 44) h ?_;clear h
    rintro a0 ay ⟨ac,rfl,h⟩
    refine⟨[(9,vp (pa e)),(44,vi ac)],pk,?_⟩
    obtain⟨q35,h⟩:=h
    refine T_st1 3 (vi ac) q35 ?_
    intro ao e34
    replace h:=h ao e34
    refine⟨[],pk,?_⟩
    refine N_end (by kernel_rfl) ?_
    refine S_blockEnd ?_
    obtain⟨q36,h⟩:=h
    exact S_rnormal r24 q36 h
   clear h y27
   rintro _ az (⟨q37,h⟩)
   refine .inl ⟨q37,λai e42=>?_⟩
   replace h:=h ai e42
   refine S_marks (H8.size::[]) rfl ?_
   refine T_sd [7,38] [] ?_
   refine S_blockEnd ?_
   refine S_then ?_
   refine T_sz ?_
   obtain⟨ax,q38,h⟩:=h
   obtain⟨s,rfl,h⟩:=h
   obtain⟨aw,q39,h⟩:=h
   obtain⟨q,rfl,h⟩:=h
   obtain⟨y,q40,h⟩:=h
   obtain⟨ae,q41,h⟩:=h
   refine S_regionG 12 (Code.ops K36) [(10,(ad b),[vp (some s)]),(10,s,[vp (some q)]),(10,q,[vp y]),(10,(ad e),[vi ae])] 12 (bv 12 0) (by kernel_rfl) (by kernel_rfl) (by kernel_rfl) (by kernel_rfl) (by kernel_rfl) (show FactsAt _ _ _ from⟨⟨q38,trivial⟩,⟨q39,trivial⟩,⟨q40,trivial⟩,⟨q41,trivial⟩,trivial⟩) ?_
   refine T_g 0 (some 45) (vp (some s)) (bv 12 1) [(1,vi d),(2,vi a),(9,vp (pa e)),(45,vp (some s))] (loadN 26 (vp (pa b))) (held_one 10 (λ_=>by kernel_rfl) (List.Mem.head _) (.inl (by kernel_rfl)))<| T_gp1 1 46 (vp (some s)) (bv 12 3) [45]<| T_gp1 2 47 (vp (some s)) (bv 12 7) [46]<| T_g1 3 48 (vp (some q)) (bv 12 15) [47] (loadN 39 (vp (some s))) (held_one 10 (λ_=>by kernel_rfl) (List.Mem.tail _ (List.Mem.head _)) (.inl (by kernel_rfl)))<| T_gp1 4 49 (vp (some q)) (bv 12 31) [48]<| T_gp1 5 50 (vp (some q)) (bv 12 63) [49]<| T_g1 6 51 (vp y) (bv 12 127) [50] (loadN 69 (vp (some q))) (held_one 10 (λ_=>by kernel_rfl) (List.Mem.tail _ (List.Mem.tail _ (List.Mem.head _))) (.inl (by kernel_rfl)))<| T_gp1 7 52 (vi d) (bv 12 255) [1]<| T_gp1 8 53 (vi a) (bv 12 511) [2] ?_
   refine T_g1 9 54 (vi ae) (bv 12 1023) [9] (loadN 3 (vp (pa e))) (held_one 10 (λ_=>by kernel_rfl) (List.Mem.tail _ (List.Mem.tail _ (List.Mem.tail _ (List.Mem.head _)))) (.inl (by kernel_rfl))) ?_
   refine G_call 10 (some 55) (bv 12 2047) 100 #[vp y,vi d,vi a,vi ae] (by kernel_rfl) (λ_=>by kernel_rfl) h (by kernel_rfl) ?_;clear h
   rintro a1 a2 ⟨z,rfl,h⟩
   refine⟨[(55,vi z)],pk,(show FactsAt _ _ _ from⟨trivial,trivial,trivial,trivial,trivial⟩),?_⟩
   refine T_g 11 (some 6) (vi z) (bv 12 4095) [(6,vi z)] (pure (.value (vi z)):Sem Next) (λ_ _ _ _ _=>rfl) ?_
   refine G_sub [(6,vi z)] sk ?_
   refine G_end (by kernel_rfl) ?_
   refine S_then ?_
   refine S_ret (by kernel_rfl) ?_
   show At _ _ _ _ _ (Q .ret)
   refine S_doneM (fn:=Tryz.f62) (H8.size::[]) hQ (Shut.mono (λa3 h=>?_) h)
   exact⟨[vi z],(show ResOK _ _ _ [.tmp 6] _ from .tmp (by kernel_rfl) (.nil)),h⟩
  intro hk
  refine T_n 3 [(1,vi d),(2,vi a),(3,vp (pa b)),(7,vp (pa f)),(31,.bool (decide (a<0)))] ?_
  by_cases c15:a<0
  ·have b16:(decide (a<0))=true:=decide_eq_true c15
   refine N_env [(1,vi d),(2,vi a),(3,vp (pa b)),(7,vp (pa f)),(31,.bool true)] (by rw[b16]) ?_
   refine T_nd 4 [31] [(28,.bool true)] ?_
   refine N_end (by kernel_rfl) ?_
   refine S_bd 28 (b:=true) (v:=((decide (a<0)) || (decide (a>=4)))) (by simp only[b16,BL]) ?_
   exact hk
  have b16:(decide (a<0))=false:=decide_eq_false c15
  refine N_env [(1,vi d),(2,vi a),(3,vp (pa b)),(7,vp (pa f)),(31,.bool false)] (by rw[b16]) ?_
  refine T_nd 4 [31] [(28,.bool (decide (a>=4)))] ?_
  refine N_end (by kernel_rfl) ?_
  refine S_bd 28 (b:=(decide (a>=4))) (v:=((decide (a<0)) || (decide (a>=4)))) (by simp only[b16,BL]) ?_
  exact hk
 rw[if_neg c13]at h
 exact T_cTz 25 (congrArg Bool.not (eq_false_of_ne_true c13))<| T_srz 5<| T_nr 1 [6] [vi 19] hQ h
end card_Cards_Again

/-! (*moraine/card.Cards).words -/
namespace card_Cards_words
def K0:=Func.code Tryz.f98
end card_Cards_words
def card_Cards_words.pt(c:Option Addr)(f a:Int)(H:Array Obj)(R:Value->Array Obj->Prop):Prop:=
 ∀(b:Nat) (H1:Array Obj),b=H.size->H1=H.push (.cells #[.pointer c] 26)->
 ∀(d:Nat) (H2:Array Obj),d=H1.size->H2=H1.push (.cells #[.int .i64 f] 3)->
 ∀(e:Nat) (H3:Array Obj),e=H2.size->H3=H2.push (.cells #[.int .i64 a] 3)->
 R (.func (.func 129) #[] #[.pointer (some (ad b)),.pointer (some (ad d)),.pointer (some (ad e))]) H3
namespace card_Cards_words
theorem link{c:Option Addr}{f a:Int}{H:Array Obj}{R:Value->Array Obj->Prop}(h:pt c f a H R):C c f a H R:=by
 refine T_en K0 8 Tryz.func98 ?_
 intro w0 Q hQ
 unfold pt at h
 refine T_su [(0,vp c),(1,vi f),(2,vi a)]<| T_srz 0<| T_nw (some 3) (λb=>vp (pa b)) (.cells #[vp c] 26) ?_
 intro b H1 e1 e2
 replace h:=h b H1 e1 e2
 refine T_pd [0] [(3,vp (pa b))]<| T_nw (some 4) (λb=>vp (pa b)) (.cells #[vi f] 3) ?_
 intro d H2 e3 e4
 replace h:=h d H2 e3 e4
 refine T_pd [1] [(4,vp (pa d))]<| T_nw (some 5) (λb=>vp (pa b)) (.cells #[vi a] 3) ?_
 intro e H3 e5 e6
 replace h:=h e H3 e5 e6
 exact T_pd [2] [(5,vp (pa e))]<| T_ed 1 [] []<| T_srz 1<| T_nr 2 [6] [.func (.func 129) #[] #[vp (pa b),vp (pa d),vp (pa e)]] hQ h
end card_Cards_words

/-! (*moraine/card.Cards).words.1 -/
namespace card_Cards_words_1
def K0:=Func.code Tryz.f129
def K2:=cb K0
def K3:=ca K2
def K4:=ca K3
def K6:=cb K4
def K8:=cb K6
def K11:=ca K8
def K13:=ca K11
def K15:=cb K13
def K16:=ca K15
end card_Cards_words_1
def card_Cards_words_1.pt(a:Value)(i j k:Option Addr)(H:Array Obj)(R:Value->Array Obj->Prop):Prop:=
 ∃(I5:Int->Array Obj->Prop) (m5:Int->Array Obj->Nat),I5 0 H/\ ∀(s8:Int) (H1:Array Obj),I5 s8 H1->
 if s8<16 then(
 ∃b:Addr,i=some b/\
 ∃x:Option Addr,hat H1 b=some (.pointer x)/\
 ∃xA:Addr,x=some xA/\
 ∃o:Option Addr,hat H1 xA=some (.pointer o)/\
 ∃m:Addr,o=some m/\
 ∃l:Option Addr,hat H1 m=some (.pointer l)/\
 ∃d:Addr,j=some d/\
 ∃f:Int,hat H1 d=some (.int .i64 f)/\
 ∃e:Addr,k=some e/\
 ∃g:Int,hat H1 e=some (.int .i64 g)/\
 seg_Mem_Read.C l (IntKind.wrap .i64 ((IntKind.wrap .i64 ((IntKind.wrap .i64 (f*64))+(IntKind.wrap .i64 (g*16))))+s8)) H1 (λv H2=> ∃ra rb:Int,v=.tuple #[.int .u64 ra,.int .i64 rb]/\
 if rb=0 then(
 FC Tryz.prog a #[.int .u64 ra] H2 (λp H3=> ∃n:Bool,p=.bool n/\
 if n=true then(
 (I5 (IntKind.wrap .i64 (s8+1)) H3/\m5 (IntKind.wrap .i64 (s8+1)) H3<m5 s8 H1))
 else
 R (.tuple #[]) H3))
 else
 R (.tuple #[]) H2))
 else
 R (.tuple #[]) H1
namespace card_Cards_words_1
theorem link{a:Value}{i j k:Option Addr}{H:Array Obj}{R:Value->Array Obj->Prop}(h:pt a i j k H R):C a i j k H R:=by
 refine T_en K0 38 Tryz.func129 ?_
 intro w0 Q hQ
 unfold pt at h
 refine T_su [(0,a),(1,vp i),(2,vp j),(3,vp k)]<| T_srz 0<| T_ed 1 [] [(8,vi 0)]<| T_bz 0 ?_
 obtain⟨I5,m5,i1,i2⟩:=h
 refine S_loop (x:=K4) (σ:=Int) (λs_=> [(0,a),(1,vp i),(2,vp j),(3,vp k),(8,vi s_)]) (λs_ H=>I5 s_ H) (λs_ H=>m5 s_ H) (0:Int) (by kernel_rfl) i1 sk ?_
 rintro s8 H1 i3
 have h:=i2 s8 H1 i3
 refine T_su [(0,a),(1,vp i),(2,vp j),(3,vp k),(8,vi s8)]<| T_srz 1<| T_ed 1 [] [(9,.bool (decide (s8<16)))]<| T_sz ?_
 by_cases c4:s8<16
 ·rw[if_pos c4]at h
  refine T_cTz 9 (decide_eq_true c4)<| T_kt<| T_sz<| T_bz 1<| T_srz 2<| T_ed 2 [9] [(5,vi s8)]<| T_sz ?_
  obtain⟨b,rfl,h⟩:=h
  obtain⟨x,q6,h⟩:=h
  obtain⟨xA,rfl,h⟩:=h
  obtain⟨o,q7,h⟩:=h
  obtain⟨m,rfl,h⟩:=h
  obtain⟨l,q8,h⟩:=h
  obtain⟨d,rfl,h⟩:=h
  obtain⟨f,q9,h⟩:=h
  obtain⟨e,rfl,h⟩:=h
  obtain⟨g,q10,h⟩:=h
  refine S_regionG 3 (Code.ops K16) [(14,b,[vp (some xA)]),(14,xA,[vp (some m)]),(14,m,[vp l]),(14,d,[vi f]),(14,e,[vi g])] 20 (bv 20 0) (by kernel_rfl) (by kernel_rfl) (by kernel_rfl) (by kernel_rfl) (by kernel_rfl) (show FactsAt _ _ _ from⟨⟨q6,trivial⟩,⟨q7,trivial⟩,⟨q8,trivial⟩,⟨q9,trivial⟩,⟨q10,trivial⟩,trivial⟩) ?_
  refine T_g 0 (some 12) (vp (some xA)) (bv 20 1) [(0,a),(1,vp (some b)),(2,vp (some d)),(3,vp (some e)),(5,vi s8),(8,vi s8),(12,vp (some xA))] (loadN 26 (vp (some b))) (held_one 14 (λ_=>by kernel_rfl) (List.Mem.head _) (.inl (by kernel_rfl)))<| T_gp1 1 13 (vp (some xA)) (bv 20 3) [12]<| T_gp1 2 14 (vp (some xA)) (bv 20 7) [13]<| T_g1 3 15 (vp (some m)) (bv 20 15) [14] (loadN 39 (vp (some xA))) (held_one 14 (λ_=>by kernel_rfl) (List.Mem.tail _ (List.Mem.head _)) (.inl (by kernel_rfl)))<| T_gp1 4 16 (vp (some m)) (bv 20 31) [15]<| T_gp1 5 17 (vp (some m)) (bv 20 63) [16]<| T_g1 6 18 (vp l) (bv 20 127) [17] (loadN 69 (vp (some m))) (held_one 14 (λ_=>by kernel_rfl) (List.Mem.tail _ (List.Mem.tail _ (List.Mem.head _))) (.inl (by kernel_rfl)))<| T_g1 7 19 (vi f) (bv 20 255) [] (loadN 3 (vp (some d))) (held_one 14 (λ_=>by kernel_rfl) (List.Mem.tail _ (List.Mem.tail _ (List.Mem.tail _ (List.Mem.head _)))) (.inl (by kernel_rfl)))<| T_gp1 8 20 (vi (IntKind.wrap .i64 (f*64))) (bv 20 511) [19] ?_
  refine T_g1 9 21 (vi g) (bv 20 1023) [] (loadN 3 (vp (some e))) (held_one 14 (λ_=>by kernel_rfl) (List.Mem.tail _ (List.Mem.tail _ (List.Mem.tail _ (List.Mem.tail _ (List.Mem.head _))))) (.inl (by kernel_rfl)))<| T_gp1 10 22 (vi (IntKind.wrap .i64 (g*16))) (bv 20 2047) [21]<| T_gp1 11 23 (vi (IntKind.wrap .i64 ((IntKind.wrap .i64 (f*64))+(IntKind.wrap .i64 (g*16))))) (bv 20 4095) [20,22]<| T_gp1 12 24 (vi s8) (bv 20 8191) [5]<| T_gp1 13 25 (vi (IntKind.wrap .i64 ((IntKind.wrap .i64 ((IntKind.wrap .i64 (f*64))+(IntKind.wrap .i64 (g*16))))+s8))) (bv 20 16383) [23,24] ?_
  refine G_call 14 (some 26) (bv 20 32767) 25 #[vp l,vi (IntKind.wrap .i64 ((IntKind.wrap .i64 ((IntKind.wrap .i64 (f*64))+(IntKind.wrap .i64 (g*16))))+s8))] (by kernel_rfl) (λ_=>by kernel_rfl) h (by kernel_rfl) ?_;clear h
  rintro v H2 ⟨ra,rb,rfl,h⟩
  refine⟨[(0,a),(1,vp (some b)),(2,vp (some d)),(3,vp (some e)),(8,vi s8),(26,.tuple #[vu ra,vi rb])],pk,(show FactsAt _ _ _ from⟨trivial,trivial,trivial,trivial,trivial,trivial⟩),?_⟩
  refine T_g 15 (some 11) (.tuple #[vu ra,vi rb]) (bv 20 65535) [(0,a),(1,vp (some b)),(2,vp (some d)),(3,vp (some e)),(8,vi s8),(11,.tuple #[vu ra,vi rb])] (pure (.value (.tuple #[vu ra,vi rb])):Sem Next) (λ_ _ _ _ _=>rfl)<| T_g1 16 27 (vu ra) (bv 20 131071) [] (pure (.value (vu ra)):Sem Next) (λ_ _ _ _ _=>rfl)<| T_g1 17 28 (vi rb) (bv 20 262143) [11] (pure (.value (vi rb)):Sem Next) (λ_ _ _ _ _=>rfl)<| T_g1 18 6 (vu ra) (bv 20 524287) [27] (pure (.value (vu ra)):Sem Next) (λ_ _ _ _ _=>rfl)<| T_g1 19 7 (vi rb) (bv 20 1048575) [28] (pure (.value (vi rb)):Sem Next) (λ_ _ _ _ _=>rfl) ?_
  refine G_sub [(0,a),(1,vp (some b)),(2,vp (some d)),(3,vp (some e)),(6,vu ra),(7,vi rb),(8,vi s8)] sk ?_
  refine G_end (by kernel_rfl) ?_
  refine S_then ?_
  refine T_srz 4<| T_n 3 [(0,a),(1,vp (some b)),(2,vp (some d)),(3,vp (some e)),(6,vu ra),(8,vi s8),(31,.bool (rb !=0))] ?_
  by_cases c11:rb=0
  ·rw[if_pos c11]at h
   have b12:(rb !=0)=false:=bne_eq_false_iff_eq.mpr c11
   refine N_env [(0,a),(1,vp (some b)),(2,vp (some d)),(3,vp (some e)),(6,vu ra),(8,vi s8),(31,.bool false)] (by rw[b12]) ?_
   clear b12
   refine T_nd 2 [6] [(32,a),(33,vu ra)] ?_
   refine N_callv (some 34) a #[vu ra] (λ_=>by kernel_rfl) h ?_;clear h
   rintro p H3 ⟨n,rfl,h⟩
   refine T_pd [32,33] [(34,.bool n)]<| T_ed 2 [31,34] [(36,.bool (!n))] ?_
   by_cases c13:n=true
   ·rw[if_pos c13]at h
    refine T_cFz 36 (congrArg Bool.not (c13))<| T_k ?_
    refine S_blockEnd ?_
    refine S_then ?_
    refine T_rz 5<| T_ed 2 [8,36] [(8,vi (IntKind.wrap .i64 (s8+1)))] ?_
    exact S_round ((IntKind.wrap .i64 (s8+1)):Int) sk h
   rw[if_neg c13]at h
   exact T_cTz 36 (congrArg Bool.not (eq_false_of_ne_true c13))<| T_ret [] [] hQ h
  rw[if_neg c11]at h
  have b12:(rb !=0)=true:=bne_iff_ne.mpr c11
  refine N_env [(0,a),(1,vp (some b)),(2,vp (some d)),(3,vp (some e)),(6,vu ra),(8,vi s8),(31,.bool true)] (by rw[b12]) ?_
  clear b12
  exact T_ed 5 [6,31] [(36,.bool true)]<| T_tz 36<| T_ret [] [] hQ h
 rw[if_neg c4]at h
 refine T_cFz 9 (decide_eq_false c4) ?_
 refine S_exit 0 (by kernel_rfl) ?_
 refine S_exitThen ?_
 refine S_exitThen ?_
 refine S_exitHere ?_
 exact S_doneN (fn:=Tryz.f129) [] hQ (show ResOK _ _ _ [] _ from .nil) h
end card_Cards_words_1

end Go.Proofs.YtgnokbjknicahaaGreat
