/- Printed: what each function asks, and that it is sound. -/
import Derived.Test.YtibpklpgmgakcaaGreatDoorFnsC
set_option linter.unusedSimpArgs false
set_option linter.unusedVariables false
set_option maxRecDepth 100000
set_option maxHeartbeats 1000000
noncomputable section
namespace Go.Proofs.YtibpklpgmgakcaaGreatDoor
open Go
/-! moraine/datum.May -/
namespace datum_May
def K0:=Func.code Tryz.f27
end datum_May
def datum_May.pt(y dC:Int)(z:Bool)(m:Option Addr)(p o:Nat)(dT:ByteArray)(aj:Option Addr)(ai ah:Nat)(H:Array Obj)(R:Value->Array Obj->Prop):Prop:=
 ∀(b:Nat) (H1:Array Obj),b=H.size->H1=H.push (.cells (DR y dC z m p o dT aj ai ah).toArray 51)->
 ∃s xC u k i j xT ae ac af,RowAt H1 (ad b) 0 (DR s xC u k i j xT ae ac af)/\
 datum_plain.C s xC u k i j xT ae ac af H1 (λv H2=> ∃x:Bool,v=.bool x/\
 if x=true then(
 ∃f ab g d e a aa t r q,RowAt H2 (ad b) 0 (DR f ab g d e a aa t r q)/\
 datum_Depth.C f ab g d e a aa t r q H2 (λak H3=> ∃ag:Int,ak=.int .i64 ag/\
 R (.bool (decide (ag<=64))) H3))
 else
 R (.bool false) H2)
namespace datum_May
theorem link{y dC:Int}{z:Bool}{m:Option Addr}{p o:Nat}{dT:ByteArray}{aj:Option Addr}{ai ah:Nat}{H:Array Obj}{R:Value->Array Obj->Prop}(h:pt y dC z m p o dT aj ai ah H R):C y dC z m p o dT aj ai ah H R:=by
 refine T_en K0 10 Tryz.func27 ?_
 intro w0 Q hQ
 unfold pt at h
 refine T_su [(0,.agg (DR y dC z m p o dT aj ai ah).toArray)]<| T_srz 0<| T_nw (some 1) (λb=>vp (pa b)) (.cells (DR y dC z m p o dT aj ai ah).toArray 51) ?_
 intro b H1 e1 e2
 replace h:=h b H1 e1 e2
 refine⟨[(1,vp (pa b))],pk,?_⟩
 refine T_ed 1 [] []<| T_srz 1 ?_
 obtain⟨s,xC,u,k,i,j,xT,ae,ac,af,q3,h⟩:=h
 refine T_lr 3 51 q3 [] ?_
 refine T_c (some 4) h ?_;clear h
 rintro v H2 ⟨x,rfl,h⟩
 refine T_pd [3] [(4,.bool x)]<| T_nd 1 [4] [(5,.bool x)] ?_
 by_cases c4:x=true
 ·rw[if_pos c4]at h
  refine N_bd 5 c4 ?_
  obtain⟨f,ab,g,d,e,a,aa,t,r,q,q6,h⟩:=h
  refine T_lr 6 51 q6 [1] ?_
  refine T_c (some 7) h ?_;clear h
  rintro ak H3 ⟨ag,rfl,h⟩
  exact T_pd [6] [(7,vi ag)]<| T_nr 3 [2] [.bool (decide (ag<=64))] hQ h
 rw[if_neg c4]at h
 exact N_bd 5 (eq_false_of_ne_true c4)<| T_nr 5 [2] [.bool false] hQ h
end datum_May

/-! moraine/datum.plain -/
namespace datum_plain
def K0:=Func.code Tryz.f52
def K2:=cb K0
def K3:=ca K2
def K5:=ca K3
end datum_plain
def datum_plain.pt(am dC:Int)(an:Bool)(aa:Option Addr)(ac ab:Nat)(dT:ByteArray)(bj:Option Addr)(bi bh:Nat)(H:Array Obj)(R:Value->Array Obj->Prop):Prop:=
 ∀(b:Nat) (H1:Array Obj),b=H.size->H1=H.push (.cells (DR am dC an aa ac ab dT bj bi bh).toArray 51)->
 ∃x:Int,hat H1 (ad b)=some (.int .i64 x)/\
 if x<0 then(
 R (.bool false) H1)
 else
 ∃d:Int,hat H1 (ad b)=some (.int .i64 d)/\
 if d>10 then(
 R (.bool false) H1)
 else
 ∃p xC q g e f xT aq ap ao,RowAt H1 (ad b) 0 (DR p xC q g e f xT aq ap ao)/\
 ∃m av o i j k au af ag ae,RowAt H1 (ad b) 0 (DR m av o i j k au af ag ae)/\
 datum_own.C m av o i j k au af ag ae H1 (λv H2=> ∃(y ba:Int) (z:Bool) (t:Option Addr) (u s:Nat) (bb:ByteArray) (aw:Option Addr) (ay ax:Nat),v=.agg (DR y ba z t u s bb aw ay ax).toArray/\RowAt H2 (ad b) 0 (DR p xC q g e f xT aq ap ao)/\
 datum_flat.C p xC q g e f xT aq ap ao y ba z t u s bb aw ay ax H2 (λbq H3=> ∃r:Bool,bq=.bool r/\
 if r=true then(
 ∃a:Int,hat H3 (ad b)=some (.int .i64 a)/\
 if a=3 then(
 ∃bg:Int,hat H3 ((ad b).add 1)=some (.int .i32 bg)/\
 unicode_utf8_ValidRune.C bg H3 (λbt H4=> ∃bc:Bool,bt=.bool bc/\
 R (.bool bc) H4))
 else
 if a=4 then(
 ∃(a5:Bool) (aj:Option Addr) (ak al:Nat),RowAt H3 ((ad b).add 2) 0 [.bool a5,.slice aj ak al]/\
 num_May.C a5 aj ak al H3 (λbw H5=> ∃bd:Bool,bw=.bool bd/\
 R (.bool bd) H5))
 else
 if a=6 then(
 ∃bf:ByteArray,hat H3 ((ad b).add 4)=some (.string bf)/\
 datum_text.C bf 1 H3 (λbs H6=> ∃be:Bool,bs=.bool be/\
 R (.bool be) H6))
 else
 if a=5 then(
 ∃a9:ByteArray,hat H3 ((ad b).add 4)=some (.string a9)/\
 datum_text.C a9 0 H3 (λbp H7=> ∃a7:Bool,bp=.bool a7/\
 R (.bool a7) H7))
 else
 if a=7 then(
 ∃(xB:Option Addr) (xN bn:Nat),hat H3 ((ad b).add 5)=some (.slice xB xN bn)/\
 if(xN:Int)=2 then(
 ∃(bl:Option Addr) (ah bk:Nat),hat H3 ((ad b).add 5)=some (.slice bl ah bk)/\
 if(ah:Int)<=62 then(
 ∃(a8:Option Addr) (a1 az:Nat),hat H3 ((ad b).add 5)=some (.slice a8 a1 az)/\
 slices_ContainsFunc_api_Datum_api_Datum.C a8 a1 az (.func (.func 86) #[] #[]) H3 (λbr H8=> ∃a6:Bool,br=.bool a6/\
 R (.bool (!a6)) H8))
 else
 R (.bool false) H3)
 else
 R (.bool false) H3)
 else
 if a=8 then(
 ∃(bo:Option Addr) (ai bm:Nat),hat H3 ((ad b).add 5)=some (.slice bo ai bm)/\
 if(ai:Int)<=62 then(
 ∃(a2:Option Addr) (a4 a0:Nat),hat H3 ((ad b).add 5)=some (.slice a2 a4 a0)/\
 slices_ContainsFunc_api_Datum_api_Datum.C a2 a4 a0 (.func (.func 86) #[] #[]) H3 (λbu H9=> ∃a3:Bool,bu=.bool a3/\
 R (.bool (!a3)) H9))
 else
 R (.bool false) H3)
 else
 R (.bool true) H3)
 else
 R (.bool false) H3))
namespace datum_plain
theorem link{am dC:Int}{an:Bool}{aa:Option Addr}{ac ab:Nat}{dT:ByteArray}{bj:Option Addr}{bi bh:Nat}{H:Array Obj}{R:Value->Array Obj->Prop}(h:pt am dC an aa ac ab dT bj bi bh H R):C am dC an aa ac ab dT bj bi bh H R:=by
 refine T_en K0 58 Tryz.func52 ?_
 intro w0 Q hQ
 unfold pt at h
 refine T_su [(0,.agg (DR am dC an aa ac ab dT bj bi bh).toArray)]<| T_srz 0<| T_nw (some 1) (λb=>vp (pa b)) (.cells (DR am dC an aa ac ab dT bj bi bh).toArray 51) ?_
 intro b H1 e1 e2
 replace h:=h b H1 e1 e2
 refine⟨[(1,vp (pa b))],pk,?_⟩
 refine T_ed 1 [] []<| T_sz<| T_sz ?_
 obtain⟨x,q3,h⟩:=h
 by_cases c4:x<0
 ·rw[if_pos c4]at h
  refine S_regionG 1 (Code.ops K5) [(15,(ad b),[vi x])] 15 (bv 15 0) (by kernel_rfl) (by kernel_rfl) (by kernel_rfl) (by kernel_rfl) (by kernel_rfl) (show FactsAt _ _ _ from⟨⟨q3,trivial⟩,trivial⟩) ?_
  refine T_gp 0 (some 3) (vp (pa b)) (bv 15 1) [(1,vp (pa b)),(3,vp (pa b))]<| T_g1 1 4 (vi x) (bv 15 3) [3] (loadN 3 (vp (pa b))) (held_one 15 (λ_=>by kernel_rfl) (List.Mem.head _) (.inr (by kernel_rfl)))<| T_gp1 2 5 (.bool (decide (x<0))) (bv 15 7) [4]<| T_gp1 3 6 (.bool (decide (x<0))) (bv 15 15) [5] ?_
  refine G_bd 6 (decide_eq_true c4) ?_
  refine T_gsd 4 (some 7) (bv 15 31) [] [(7,undef)]<| T_gsd 5 (some 8) (bv 15 63) [7] [(8,undef)]<| T_gsd 6 (some 9) (bv 15 127) [8] [(9,undef)]<| T_gp1 7 10 (.bool true) (bv 15 255) [6,9]<| T_gp1 8 11 (.bool true) (bv 15 511) [10]<| T_gsd 9 (some 12) (bv 15 1023) [] [(12,undef)]<| T_gsd 10 (some 13) (bv 15 2047) [] [(13,undef)]<| T_gsd 11 (some 14) (bv 15 4095) [13] [(14,undef)]<| T_gsd 12 (some 15) (bv 15 8191) [12,14] [(15,undef)] ?_
  refine T_gsd 13 (some 16) (bv 15 16383) [15] [(16,undef)]<| T_gp1 14 17 (.bool true) (bv 15 32767) [11,16] ?_
  refine G_sub [(1,vp (pa b)),(17,.bool true)] sk ?_
  refine G_end (by kernel_rfl) ?_
  refine S_then ?_
  exact T_tz 17<| T_srz 2<| T_nr 1 [2] [.bool false] hQ h
 rw[if_neg c4]at h
 obtain⟨d,q6,h⟩:=h
 by_cases c7:d>10
 ·rw[if_pos c7]at h
  refine S_regionG 1 (Code.ops K5) [(15,(ad b),[vi x]),(15,(ad b),[vi d])] 15 (bv 15 0) (by kernel_rfl) (by kernel_rfl) (by kernel_rfl) (by kernel_rfl) (by kernel_rfl) (show FactsAt _ _ _ from⟨⟨q3,trivial⟩,⟨q6,trivial⟩,trivial⟩) ?_
  refine T_gp 0 (some 3) (vp (pa b)) (bv 15 1) [(1,vp (pa b)),(3,vp (pa b))]<| T_g1 1 4 (vi x) (bv 15 3) [3] (loadN 3 (vp (pa b))) (held_one 15 (λ_=>by kernel_rfl) (List.Mem.head _) (.inr (by kernel_rfl)))<| T_gp1 2 5 (.bool (decide (x<0))) (bv 15 7) [4]<| T_gp1 3 6 (.bool (decide (x<0))) (bv 15 15) [5] ?_
  refine G_bd 6 (decide_eq_false c4) ?_
  refine T_gp1 4 7 (vp (pa b)) (bv 15 31) []<| T_g1 5 8 (vi d) (bv 15 63) [7] (loadN 3 (vp (pa b))) (held_one 15 (λ_=>by kernel_rfl) (List.Mem.tail _ (List.Mem.head _)) (.inr (by kernel_rfl)))<| T_gp1 6 9 (.bool (decide (d>10))) (bv 15 127) [8]<| T_gp1 7 10 (.bool (decide (d>10))) (bv 15 255) [6,9]<| T_gp1 8 11 (.bool (decide (d>10))) (bv 15 511) [10] ?_
  refine G_bd 11 (decide_eq_true c7) ?_
  refine T_gsd 9 (some 12) (bv 15 1023) [] [(12,undef)]<| T_gsd 10 (some 13) (bv 15 2047) [] [(13,undef)]<| T_gsd 11 (some 14) (bv 15 4095) [13] [(14,undef)]<| T_gsd 12 (some 15) (bv 15 8191) [12,14] [(15,undef)]<| T_gsd 13 (some 16) (bv 15 16383) [15] [(16,undef)]<| T_gp1 14 17 (.bool true) (bv 15 32767) [11,16] ?_
  refine G_sub [(1,vp (pa b)),(17,.bool true)] sk ?_
  refine G_end (by kernel_rfl) ?_
  refine S_then ?_
  exact T_tz 17<| T_srz 2<| T_nr 1 [2] [.bool false] hQ h
 rw[if_neg c7]at h
 obtain⟨p,xC,q,g,e,f,xT,aq,ap,ao,q9,h⟩:=h
 obtain⟨m,av,o,i,j,k,au,af,ag,ae,q10,h⟩:=h
 refine S_regionG 1 (Code.ops K5) [(11,(ad b),[vi x]),(11,(ad b),[vi d]),(12,(ad b),(DR p xC q g e f xT aq ap ao)),(11,(ad b),(DR m av o i j k au af ag ae))] 15 (bv 15 0) (by kernel_rfl) (by kernel_rfl) (by kernel_rfl) (by kernel_rfl) (by kernel_rfl) (show FactsAt _ _ _ from⟨⟨q3,trivial⟩,⟨q6,trivial⟩,q9,q10,trivial⟩) ?_
 refine T_gp 0 (some 3) (vp (pa b)) (bv 15 1) [(1,vp (pa b)),(3,vp (pa b))]<| T_g1 1 4 (vi x) (bv 15 3) [3] (loadN 3 (vp (pa b))) (held_one 11 (λ_=>by kernel_rfl) (List.Mem.head _) (.inl (by kernel_rfl)))<| T_gp1 2 5 (.bool (decide (x<0))) (bv 15 7) [4]<| T_gp1 3 6 (.bool (decide (x<0))) (bv 15 15) [5] ?_
 refine G_bd 6 (decide_eq_false c4) ?_
 refine T_gp1 4 7 (vp (pa b)) (bv 15 31) []<| T_g1 5 8 (vi d) (bv 15 63) [7] (loadN 3 (vp (pa b))) (held_one 11 (λ_=>by kernel_rfl) (List.Mem.tail _ (List.Mem.head _)) (.inl (by kernel_rfl)))<| T_gp1 6 9 (.bool (decide (d>10))) (bv 15 127) [8]<| T_gp1 7 10 (.bool (decide (d>10))) (bv 15 255) [6,9]<| T_gp1 8 11 (.bool (decide (d>10))) (bv 15 511) [10] ?_
 refine G_bd 11 (decide_eq_false c7) ?_
 refine T_g1 9 12 (.agg (DR p xC q g e f xT aq ap ao).toArray) (bv 15 1023) [] (loadN 51 (vp (pa b))) (held_row 12 (λ_=>by kernel_rfl) (λ_=>by kernel_rfl) (List.Mem.tail _ (List.Mem.tail _ (List.Mem.head _))) (.inl (by kernel_rfl)))<| T_g1 10 13 (.agg (DR m av o i j k au af ag ae).toArray) (bv 15 2047) [] (loadN 51 (vp (pa b))) (held_row 11 (λ_=>by kernel_rfl) (λ_=>by kernel_rfl) (List.Mem.tail _ (List.Mem.tail _ (List.Mem.tail _ (List.Mem.head _)))) (.inl (by kernel_rfl))) ?_
 refine G_call 11 (some 14) (bv 15 4095) 82 #[.agg (DR m av o i j k au af ag ae).toArray] (by kernel_rfl) (λ_=>by kernel_rfl) h (by kernel_rfl) ?_;clear h
 rintro v H2 ⟨y,ba,z,t,u,s,bb,aw,ay,ax,rfl,h⟩
 obtain⟨f11,h⟩:=h
 refine⟨[(1,vp (pa b)),(11,.bool false),(12,.agg (DR p xC q g e f xT aq ap ao).toArray),(14,.agg (DR y ba z t u s bb aw ay ax).toArray)],pk,(show FactsAt _ _ _ from⟨trivial,trivial,f11,trivial,trivial⟩),?_⟩
 refine G_call 12 (some 15) (bv 15 8191) 81 #[.agg (DR p xC q g e f xT aq ap ao).toArray,.agg (DR y ba z t u s bb aw ay ax).toArray] (by kernel_rfl) (λ_=>by kernel_rfl) h (by kernel_rfl) ?_;clear h
 rintro bq H3 ⟨r,rfl,h⟩
 refine⟨[(1,vp (pa b)),(11,.bool false),(15,.bool r)],pk,(show FactsAt _ _ _ from⟨trivial,trivial,trivial,trivial,trivial⟩),?_⟩
 refine T_g 13 (some 16) (.bool (!r)) (bv 15 16383) [(1,vp (pa b)),(11,.bool false),(16,.bool (!r))] (pure (.value (.bool (!r))):Sem Next) (λ_ _ _ _ _=>rfl)<| T_g1 14 17 (.bool (!r)) (bv 15 32767) [11,16] (pure (.value (.bool (!r))):Sem Next) (λ_ _ _ _ _=>rfl) ?_
 refine G_sub [(1,vp (pa b)),(17,.bool (!r))] sk ?_
 refine G_end (by kernel_rfl) ?_
 refine S_then ?_
 by_cases c12:r=true
 ·rw[if_pos c12]at h
  refine T_cFz 17 (congrArg Bool.not (c12))<| T_kt<| T_sz<| T_srz 3<| T_n 1 [(1,vp (pa b)),(18,vp (pa b))] ?_
  obtain⟨a,q14,h⟩:=h
  refine T_l1 19 3 q14 [18]<| T_e<| T_bz 0<| T_sz<| T_bz 6<| T_sz<| T_bz 5<| T_sz<| T_bz 4 ?_
  refine T_sz<| T_bz 3<| T_sz<| T_bz 2<| T_sz<| T_bz 1<| T_sz<| T_sz<| T_srz 4 ?_
  refine T_ed 2 [] [(20,.bool (a==3))] ?_
  by_cases c15:a=3
  ·rw[if_pos c15]at h
   refine T_cTz 20 (beq_iff_eq.mpr c15) ?_
   refine S_exit 1 (by kernel_rfl) ?_
   refine S_exitThen ?_
   refine S_exitThen ?_
   refine S_exitHere ?_
   refine S_then ?_
   refine T_sz<| T_srz 10<| T_n 1 [(32,vp (some ((ad b).add 1)))] ?_
   obtain⟨bg,q17,h⟩:=h
   refine T_l1 33 21 q17 [32] ?_
   refine T_c (some 34) h ?_;clear h
   rintro bt H4 ⟨bc,rfl,h⟩
   refine⟨[(34,.bool bc)],pk,?_⟩
   exact T_nr 1 [2] [.bool bc] hQ h
  rw[if_neg c15]at h
  refine T_cFz 20 (beq_eq_false_iff_ne.mpr c15)<| T_kt<| T_sz<| T_srz 5<| T_ed 2 [20] [(22,.bool (a==4))] ?_
  by_cases c18:a=4
  ·rw[if_pos c18]at h
   refine T_cTz 22 (beq_iff_eq.mpr c18) ?_
   refine S_exit 2 (by kernel_rfl) ?_
   refine S_exitThen ?_
   refine S_exitThen ?_
   refine S_exitPast (by kernel_rfl) ?_
   refine S_exitThen ?_
   refine S_exitHere ?_
   refine S_then ?_
   refine T_sz<| T_srz 11<| T_n 1 [(35,vp (some ((ad b).add 2)))] ?_
   obtain⟨a5,aj,ak,al,q20,h⟩:=h
   refine T_lr 36 48 q20 [35] ?_
   refine T_c (some 37) h ?_;clear h
   rintro bw H5 ⟨bd,rfl,h⟩
   refine⟨[(37,.bool bd)],pk,?_⟩
   exact T_nr 1 [2] [.bool bd] hQ h
  rw[if_neg c18]at h
  refine T_cFz 22 (beq_eq_false_iff_ne.mpr c18)<| T_kt<| T_sz<| T_srz 6<| T_ed 2 [22] [(24,.bool (a==6))] ?_
  by_cases c21:a=6
  ·rw[if_pos c21]at h
   refine T_cTz 24 (beq_iff_eq.mpr c21) ?_
   refine S_exit 3 (by kernel_rfl) ?_
   refine S_exitThen ?_
   refine S_exitThen ?_
   refine S_exitPast (by kernel_rfl) ?_
   refine S_exitThen ?_
   refine S_exitPast (by kernel_rfl) ?_
   refine S_exitThen ?_
   refine S_exitHere ?_
   refine S_then ?_
   refine T_sz<| T_srz 12<| T_n 1 [(38,vp (some ((ad b).add 4)))] ?_
   obtain⟨bf,q23,h⟩:=h
   refine T_l1 39 9 q23 [38] ?_
   refine T_c (some 40) h ?_;clear h
   rintro bs H6 ⟨be,rfl,h⟩
   refine⟨[(40,.bool be)],pk,?_⟩
   exact T_nr 1 [2] [.bool be] hQ h
  rw[if_neg c21]at h
  refine T_cFz 24 (beq_eq_false_iff_ne.mpr c21)<| T_kt<| T_sz<| T_srz 7<| T_ed 2 [24] [(26,.bool (a==5))] ?_
  by_cases c24:a=5
  ·rw[if_pos c24]at h
   refine T_cTz 26 (beq_iff_eq.mpr c24) ?_
   refine S_exit 4 (by kernel_rfl) ?_
   refine S_exitThen ?_
   refine S_exitThen ?_
   refine S_exitPast (by kernel_rfl) ?_
   refine S_exitThen ?_
   refine S_exitPast (by kernel_rfl) ?_
   refine S_exitThen ?_
   refine S_exitPast (by kernel_rfl) ?_
   refine S_exitThen ?_
   refine S_exitHere ?_
   refine S_then ?_
   refine T_sz<| T_srz 13<| T_n 1 [(41,vp (some ((ad b).add 4)))] ?_
   obtain⟨a9,q26,h⟩:=h
   refine T_l1 42 9 q26 [41] ?_
   refine T_c (some 43) h ?_;clear h
   rintro bp H7 ⟨a7,rfl,h⟩
   refine⟨[(43,.bool a7)],pk,?_⟩
   exact T_nr 1 [2] [.bool a7] hQ h
  rw[if_neg c24]at h
  refine T_cFz 26 (beq_eq_false_iff_ne.mpr c24)<| T_kt<| T_sz<| T_srz 8<| T_ed 2 [26] [(28,.bool (a==7))] ?_
  by_cases c27:a=7
  ·rw[if_pos c27]at h
   refine T_cTz 28 (beq_iff_eq.mpr c27) ?_
   refine S_exit 5 (by kernel_rfl) ?_
   refine S_exitThen ?_
   refine S_exitThen ?_
   refine S_exitPast (by kernel_rfl) ?_
   refine S_exitThen ?_
   refine S_exitPast (by kernel_rfl) ?_
   refine S_exitThen ?_
   refine S_exitPast (by kernel_rfl) ?_
   refine S_exitThen ?_
   refine S_exitPast (by kernel_rfl) ?_
   refine S_exitThen ?_
   refine S_exitHere ?_
   refine S_then ?_
   refine T_srz 14<| T_nd 1 [19,28] [(44,vp (some ((ad b).add 5)))] ?_
   obtain⟨xB,xN,bn,q29,h⟩:=h
   refine T_l1 45 49 q29 [44]<| T_ed 2 [45] [(47,.bool ((xN:Int) !=2))] ?_
   by_cases c30:(xN:Int)=2
   ·rw[if_pos c30]at h
    refine T_cFz 47 (bne_eq_false_iff_eq.mpr c30)<| T_k ?_
    refine S_blockEnd ?_
    refine S_then ?_
    refine T_sz<| T_srz 16<| T_nd 1 [47] [(48,vp (some ((ad b).add 5)))] ?_
    obtain⟨bl,ah,bk,q32,h⟩:=h
    refine T_l1 49 49 q32 [48]<| T_nd 3 [49] [(52,.bool (decide ((ah:Int)<=62)))] ?_
    by_cases c33:(ah:Int)<=62
    ·rw[if_pos c33]at h
     refine N_bd 52 (decide_eq_true c33)<| T_nd 1 [1] [(53,vp (some ((ad b).add 5)))] ?_
     obtain⟨a8,a1,az,q35,h⟩:=h
     refine T_l1 54 49 q35 [53] ?_
     refine T_c (some 55) h ?_;clear h
     rintro br H8 ⟨a6,rfl,h⟩
     exact T_pd [54] [(55,.bool a6)]<| T_nr 3 [2] [.bool (!a6)] hQ h
    rw[if_neg c33]at h
    exact N_bd 52 (decide_eq_false c33)<| T_nr 6 [2] [.bool false] hQ h
   rw[if_neg c30]at h
   exact T_cTz 47 (bne_iff_ne.mpr c30)<| T_srz 15<| T_nr 1 [2] [.bool false] hQ h
  rw[if_neg c27]at h
  refine T_cFz 28 (beq_eq_false_iff_ne.mpr c27)<| T_kt<| T_srz 9<| T_ed 2 [19,28] [(30,.bool (a==8))] ?_
  by_cases c36:a=8
  ·rw[if_pos c36]at h
   refine T_cTz 30 (beq_iff_eq.mpr c36) ?_
   refine S_exit 6 (by kernel_rfl) ?_
   refine S_exitThen ?_
   refine S_exitPast (by kernel_rfl) ?_
   refine S_exitThen ?_
   refine S_exitPast (by kernel_rfl) ?_
   refine S_exitThen ?_
   refine S_exitPast (by kernel_rfl) ?_
   refine S_exitThen ?_
   refine S_exitPast (by kernel_rfl) ?_
   refine S_exitThen ?_
   refine S_exitPast (by kernel_rfl) ?_
   refine S_exitThen ?_
   refine S_exitHere ?_
   refine S_then ?_
   refine T_sz<| T_srz 16<| T_nd 1 [30] [(48,vp (some ((ad b).add 5)))] ?_
   obtain⟨bo,ai,bm,q38,h⟩:=h
   refine T_l1 49 49 q38 [48]<| T_nd 3 [49] [(52,.bool (decide ((ai:Int)<=62)))] ?_
   by_cases c39:(ai:Int)<=62
   ·rw[if_pos c39]at h
    refine N_bd 52 (decide_eq_true c39)<| T_nd 1 [1] [(53,vp (some ((ad b).add 5)))] ?_
    obtain⟨a2,a4,a0,q41,h⟩:=h
    refine T_l1 54 49 q41 [53] ?_
    refine T_c (some 55) h ?_;clear h
    rintro bu H9 ⟨a3,rfl,h⟩
    exact T_pd [54] [(55,.bool a3)]<| T_nr 3 [2] [.bool (!a3)] hQ h
   rw[if_neg c39]at h
   exact N_bd 52 (decide_eq_false c39)<| T_nr 6 [2] [.bool false] hQ h
  rw[if_neg c36]at h
  refine T_cFz 30 (beq_eq_false_iff_ne.mpr c36)<| T_kt ?_
  refine S_exit 0 (by kernel_rfl) ?_
  refine S_exitPast (by kernel_rfl) ?_
  refine S_exitThen ?_
  refine S_exitPast (by kernel_rfl) ?_
  refine S_exitThen ?_
  refine S_exitPast (by kernel_rfl) ?_
  refine S_exitThen ?_
  refine S_exitPast (by kernel_rfl) ?_
  refine S_exitThen ?_
  refine S_exitPast (by kernel_rfl) ?_
  refine S_exitThen ?_
  refine S_exitPast (by kernel_rfl) ?_
  refine S_exitThen ?_
  refine S_exitHere ?_
  refine S_then ?_
  exact T_srz 17<| T_nr 1 [2] [.bool true] hQ h
 rw[if_neg c12]at h
 exact T_cTz 17 (congrArg Bool.not (eq_false_of_ne_true c12))<| T_srz 2<| T_nr 1 [2] [.bool false] hQ h
end datum_plain

/-! moraine/datum.Depth -/
namespace datum_Depth
def K0:=Func.code Tryz.f53
def K2:=cb K0
def K4:=cb K2
def K6:=cb K4
def K11:=ca K6
def K14:=cb K11
def K15:=ca K14
def K16:=ca K15
end datum_Depth
def datum_Depth.pt(aj dC:Int)(ak:Bool)(ac:Option Addr)(ae ab:Nat)(dT:ByteArray)(ay:Option Addr)(ax aw:Nat)(H:Array Obj)(R:Value->Array Obj->Prop):Prop:=
 ∀(b:Nat) (H1:Array Obj),b=H.size->H1=H.push (.cells (DR aj dC ak ac ae ab dT ay ax aw).toArray 51)->
 ∃x:Int,hat H1 (ad b)=some (.int .i64 x)/\
 ∃J:Int->Array Obj->Prop,(
 if x=8 then(
 J 1 H1)
 else
 J 0 H1)/\ ∀(nv:Int) (H2:Array Obj),J nv H2->
 ∃(xB:Option Addr) (xN xC:Nat),hat H2 ((ad b).add 5)=some (.slice xB xN xC)/\
 ∃(av:Int->Int->Array Obj->Prop) (m17:Int->Int->Array Obj->Nat),av nv 0 H2/\ ∀(d:Int) (s13:Int) (H3:Array Obj),av d s13 H3->
 if s13< (xN:Int)then(
 ∃f:Addr,xB=some f/\
 ((0:Int)<=s13/\s13< (xN:Int))/\
 ∃s aa u o j m xT am al an,RowAt H3 (f.add (Int.toNat s13*6)) 0 (DR s aa u o j m xT am al an)/\
 ∀(g:Nat) (H4:Array Obj),g=H3.size->H4=H3.push (.cells (DR 0 0 false none 0 0 (ByteArray.mk #[]) none 0 0).toArray 51)->
 (CanPuts H4 (ad g) 0 6)/\ ∀H5,H5=hputs H4 (ad g) (DR s aa u o j m xT am al an) 0->
 ∃y au z q r p aq ai ah ag,RowAt H5 (ad g) 0 (DR y au z q r p aq ai ah ag)/\
 datum_Depth.C y au z q r p aq ai ah ag H5 (λv H6=> ∃e:Int,v=.int .i64 e/\
 ∃ap:Int,hat H6 (ad b)=some (.int .i64 ap)/\
 if ap=7 then(
 ∃(a0:Option Addr) (af az:Nat),hat H6 ((ad b).add 5)=some (.slice a0 af az)/\
 if(IntKind.wrap .i64 (s13+1))< (af:Int)then(
 (av (if d< (IntKind.wrap .i64 (e+1))then(IntKind.wrap .i64 (e+1))else d) (IntKind.wrap .i64 (s13+1)) H6/\m17 (if d< (IntKind.wrap .i64 (e+1))then(IntKind.wrap .i64 (e+1))else d) (IntKind.wrap .i64 (s13+1)) H6<m17 d s13 H3))
 else
 ∃ao:Int,hat H6 (ad g)=some (.int .i64 ao)/\
 if ao=7 then(
 (av (if d<e then e else d) (IntKind.wrap .i64 (s13+1)) H6/\m17 (if d<e then e else d) (IntKind.wrap .i64 (s13+1)) H6<m17 d s13 H3))
 else
 (av (if d< (IntKind.wrap .i64 (e+1))then(IntKind.wrap .i64 (e+1))else d) (IntKind.wrap .i64 (s13+1)) H6/\m17 (if d< (IntKind.wrap .i64 (e+1))then(IntKind.wrap .i64 (e+1))else d) (IntKind.wrap .i64 (s13+1)) H6<m17 d s13 H3))
 else
 (av (if d< (IntKind.wrap .i64 (e+1))then(IntKind.wrap .i64 (e+1))else d) (IntKind.wrap .i64 (s13+1)) H6/\m17 (if d< (IntKind.wrap .i64 (e+1))then(IntKind.wrap .i64 (e+1))else d) (IntKind.wrap .i64 (s13+1)) H6<m17 d s13 H3)))
 else
 R (.int .i64 d) H3
namespace datum_Depth
theorem link{aj dC:Int}{ak:Bool}{ac:Option Addr}{ae ab:Nat}{dT:ByteArray}{ay:Option Addr}{ax aw:Nat}{H:Array Obj}{R:Value->Array Obj->Prop}(h:pt aj dC ak ac ae ab dT ay ax aw H R):C aj dC ak ac ae ab dT ay ax aw H R:=by
 refine T_en K0 43 Tryz.func53 ?_
 intro w0 Q hQ
 unfold pt at h
 refine T_su [(0,.agg (DR aj dC ak ac ae ab dT ay ax aw).toArray)]<| T_srz 0<| T_nw (some 1) (λb=>vp (pa b)) (.cells (DR aj dC ak ac ae ab dT ay ax aw).toArray 51) ?_
 intro b H1 e1 e2
 replace h:=h b H1 e1 e2
 refine⟨[(1,vp (pa b))],pk,?_⟩
 refine T_ed 1 [] []<| T_srz 1<| T_ed 1 [] [(3,vi 0)]<| T_sz<| T_srz 2<| T_nd 1 [] [(7,vp (pa b))] ?_
 obtain⟨x,q3,h⟩:=h
 refine T_l1 8 3 q3 [7]<| T_ne 1 [(1,vp (pa b)),(3,vi 0),(9,.bool (x==8))] ?_
 obtain⟨J,h,j5⟩:=h
 refine S_join (σ:=Int) (λs_=> [(1,vp (pa b)),(3,vi s_)]) (λs_ H=>J s_ H) ?_ ?_
 ·rintro nv H2 j6
  replace h:=j5 nv H2 j6
  refine T_su [(1,vp (pa b)),(3,vi nv)] ?_
  refine S_then ?_
  refine T_sz<| T_srz 4<| T_nd 1 [] [(10,vp (some ((ad b).add 5)))] ?_
  obtain⟨xB,xN,xC,q7,h⟩:=h
  refine T_l1 11 49 q7 [10]<| T_ed 2 [] [(12,vi xN),(13,vi 0)]<| T_bz 0 ?_
  obtain⟨av,m17,i8,i9⟩:=h
  refine S_loop (x:=K16) (σ:=Int×Int) (λs_=> [(1,vp (pa b)),(3,vi s_.1),(11,vs xB xN xC),(12,vi xN),(13,vi s_.2)]) (λs_ H=>av s_.1 s_.2 H) (λs_ H=>m17 s_.1 s_.2 H) ((nv,0):Int×Int) (by kernel_rfl) i8 sk ?_
  rintro⟨d,s13⟩ H3 i10
  have h:=i9 d s13 H3 i10
  refine T_su [(1,vp (pa b)),(3,vi d),(11,vs xB xN xC),(12,vi xN),(13,vi s13)]<| T_srz 5<| T_ed 1 [] [(14,.bool (decide (s13< (xN:Int))))]<| T_sz ?_
  by_cases c11:s13< (xN:Int)
  ·rw[if_pos c11]at h
   refine T_cTz 14 (decide_eq_true c11)<| T_kt<| T_sz<| T_bz 1<| T_srz 6<| T_nd 1 [14] [(15,vi s13)] ?_
   obtain⟨f,rfl,h⟩:=h
   obtain⟨q13,h⟩:=h
   refine T_xd (some 16) 49 51 6 f xN xC .i64 s13 Tryz.underlying49 q13.1 q13.2 [11] [(11,vs (some f) xN xC),(16,vp (some (f.add (Int.toNat s13*6))))] ?_
   obtain⟨s,aa,u,o,j,m,xT,am,al,an,q14,h⟩:=h
   refine T_lr 17 51 q14 [16]<| T_nw (some 5) (λb=>vp (pa b)) (.cells (DR 0 0 false none 0 0 (ByteArray.mk #[]) none 0 0).toArray 51) ?_
   intro g H4 e15 e16
   replace h:=h g H4 e15 e16
   refine T_pd [] [(5,vp (pa g))]<| T_nd 1 [15] [(4,vi s13)] ?_
   obtain⟨q18,h⟩:=h
   refine T_sta 51 (DR s aa u o j m xT am al an) q18 ?_
   intro H5 e17
   replace h:=h H5 e17
   refine T_pd [17] []<| T_e<| T_srz 7 ?_
   obtain⟨y,au,z,q,r,p,aq,ai,ah,ag,q19,h⟩:=h
   refine T_lr 18 51 q19 [] ?_
   refine T_c (some 19) h ?_;clear h
   rintro v H6 ⟨e,rfl,h⟩
   refine T_pd [18] [(19,vi e)]<| T_ed 1 [19] [(6,vi e)]<| T_sz<| T_srz 8<| T_nd 1 [] [(20,vp (pa b))] ?_
   obtain⟨ap,q20,h⟩:=h
   refine T_l1 21 3 q20 [20]<| T_nd 2 [21] [(23,.bool (ap !=7))] ?_
   by_cases c21:ap=7
   ·rw[if_pos c21]at h
    refine N_bd 23 (bne_eq_false_iff_eq.mpr c21)<| T_nd 3 [4] [(25,vi (IntKind.wrap .i64 (s13+1))),(26,vp (some ((ad b).add 5)))] ?_
    obtain⟨a0,af,az,q23,h⟩:=h
    refine T_l1 27 49 q23 [26]<| T_nd 4 [23,25,27] [(31,.bool (decide ((IntKind.wrap .i64 (s13+1))< (af:Int))))] ?_
    by_cases c24:(IntKind.wrap .i64 (s13+1))< (af:Int)
    ·rw[if_pos c24]at h
     refine N_bd 31 (decide_eq_true c24)<| T_ed 4 [5,31] [(35,.bool true)]<| T_tz 35<| T_rz 9<| T_ed 3 [6,35] [(6,vi (IntKind.wrap .i64 (e+1)))]<| T_rz 10<| T_nd 4 [3,6] [(3,vi (if d< (IntKind.wrap .i64 (e+1))then(IntKind.wrap .i64 (e+1))else d))] ?_
     refine N_end (by kernel_rfl) ?_
     refine S_blockEnd ?_
     refine S_then ?_
     refine T_rz 11<| T_ed 2 [13] [(13,vi (IntKind.wrap .i64 (s13+1)))] ?_
     exact S_round (((if d< (IntKind.wrap .i64 (e+1))then(IntKind.wrap .i64 (e+1))else d),(IntKind.wrap .i64 (s13+1))):Int×Int) sk h
    rw[if_neg c24]at h
    refine N_bd 31 (decide_eq_false c24)<| T_nd 1 [5] [(32,vp (pa g))] ?_
    obtain⟨ao,q26,h⟩:=h
    refine T_l1 33 3 q26 [32]<| T_ed 2 [31,33] [(35,.bool (ao !=7))] ?_
    by_cases c27:ao=7
    ·rw[if_pos c27]at h
     refine T_cFz 35 (bne_eq_false_iff_eq.mpr c27)<| T_kt<| T_rz 10<| T_nd 4 [3,6,35] [(3,vi (if d<e then e else d))] ?_
     refine N_end (by kernel_rfl) ?_
     refine S_blockEnd ?_
     refine S_then ?_
     refine T_rz 11<| T_ed 2 [13] [(13,vi (IntKind.wrap .i64 (s13+1)))] ?_
     exact S_round (((if d<e then e else d),(IntKind.wrap .i64 (s13+1))):Int×Int) sk h
    rw[if_neg c27]at h
    refine T_cTz 35 (bne_iff_ne.mpr c27)<| T_rz 9<| T_ed 3 [6,35] [(6,vi (IntKind.wrap .i64 (e+1)))]<| T_rz 10<| T_nd 4 [3,6] [(3,vi (if d< (IntKind.wrap .i64 (e+1))then(IntKind.wrap .i64 (e+1))else d))] ?_
    refine N_end (by kernel_rfl) ?_
    refine S_blockEnd ?_
    refine S_then ?_
    refine T_rz 11<| T_ed 2 [13] [(13,vi (IntKind.wrap .i64 (s13+1)))] ?_
    exact S_round (((if d< (IntKind.wrap .i64 (e+1))then(IntKind.wrap .i64 (e+1))else d),(IntKind.wrap .i64 (s13+1))):Int×Int) sk h
   rw[if_neg c21]at h
   refine N_bd 23 (bne_iff_ne.mpr c21)<| T_ed 12 [4,5,23] [(35,.bool true)]<| T_tz 35<| T_rz 9<| T_ed 3 [6,35] [(6,vi (IntKind.wrap .i64 (e+1)))]<| T_rz 10<| T_nd 4 [3,6] [(3,vi (if d< (IntKind.wrap .i64 (e+1))then(IntKind.wrap .i64 (e+1))else d))] ?_
   refine N_end (by kernel_rfl) ?_
   refine S_blockEnd ?_
   refine S_then ?_
   refine T_rz 11<| T_ed 2 [13] [(13,vi (IntKind.wrap .i64 (s13+1)))] ?_
   exact S_round (((if d< (IntKind.wrap .i64 (e+1))then(IntKind.wrap .i64 (e+1))else d),(IntKind.wrap .i64 (s13+1))):Int×Int) sk h
  rw[if_neg c11]at h
  refine T_cFz 14 (decide_eq_false c11) ?_
  refine S_exit 0 (by kernel_rfl) ?_
  refine S_exitThen ?_
  refine S_exitThen ?_
  refine S_exitHere ?_
  refine S_then ?_
  exact T_srz 12<| T_nr 2 [2] [vi d] hQ h
 by_cases c29:x=8
 ·rw[if_pos c29]at h
  have b30:(x==8)=true:=beq_iff_eq.mpr c29
  refine S_env [(1,vp (pa b)),(3,vi 0),(9,.bool true)] (by simp only[b30,Bool.not_true,Bool.not_false]) ?_
  clear b30
  refine T_tz 9<| T_rz 3<| T_ed 1 [3,9] [(3,vi 1)] ?_
  exact S_meet (1:Int) sk h
 rw[if_neg c29]at h
 have b30:(x==8)=false:=beq_eq_false_iff_ne.mpr c29
 refine S_env [(1,vp (pa b)),(3,vi 0),(9,.bool false)] (by simp only[b30,Bool.not_true,Bool.not_false]) ?_
 clear b30
 refine T_fz 9<| T_kt ?_
 exact S_meet (0:Int) sk h
end datum_Depth

/-! moraine/datum.flat -/
namespace datum_flat
def K0:=Func.code Tryz.f81
end datum_flat
def datum_flat.pt(s aC:Int)(t:Bool)(j:Option Addr)(i g:Nat)(aT:ByteArray)(ak:Option Addr)(am al:Nat)(o bC:Int)(m:Bool)(f:Option Addr)(d e:Nat)(bT:ByteArray)(ai:Option Addr)(ah aj:Nat)(H:Array Obj)(R:Value->Array Obj->Prop):Prop:=
 ∀(b:Nat) (H1:Array Obj),b=H.size->H1=H.push (.cells (DR s aC t j i g aT ak am al).toArray 51)->
 ∀(a:Nat) (H2:Array Obj),a=H1.size->H2=H1.push (.cells (DR o bC m f d e bT ai ah aj).toArray 51)->
 ∃x:Int,hat H2 (ad b)=some (.int .i64 x)/\
 ∃ab:Int,hat H2 (ad a)=some (.int .i64 ab)/\
 if x=ab then(
 ∃q:Int,hat H2 ((ad b).add 1)=some (.int .i32 q)/\
 ∃y:Int,hat H2 ((ad a).add 1)=some (.int .i32 y)/\
 if q=y then(
 ∃r:Bool,hat H2 ((ad b).add 2)=some (.bool r)/\
 ∃aa:Bool,hat H2 ((ad a).add 2)=some (.bool aa)/\
 if r=aa then(
 ∃(xB:Option Addr) (xN xC:Nat),hat H2 (((ad b).add 2).add 1)=some (.slice xB xN xC)/\
 ∃(af:Option Addr) (ac ae:Nat),hat H2 (((ad a).add 2).add 1)=some (.slice af ac ae)/\
 slices_Equal_uint32_uint32.C xB xN xC af ac ae H2 (λv H3=> ∃ag:Bool,v=.bool ag/\
 if ag=true then(
 ∃p:ByteArray,hat H3 ((ad b).add 4)=some (.string p)/\
 ∃z:ByteArray,hat H3 ((ad a).add 4)=some (.string z)/\
 if p.toList=z.toList then(
 ∃(ap:Option Addr) (k an:Nat),hat H3 ((ad b).add 5)=some (.slice ap k an)/\
 ∃(ao:Option Addr) (u aq:Nat),hat H3 ((ad a).add 5)=some (.slice ao u aq)/\
 R (.bool ((k:Int)==(u:Int))) H3)
 else
 R (.bool false) H3)
 else
 R (.bool false) H3))
 else
 R (.bool false) H2)
 else
 R (.bool false) H2)
 else
 R (.bool false) H2
namespace datum_flat
theorem link{s aC:Int}{t:Bool}{j:Option Addr}{i g:Nat}{aT:ByteArray}{ak:Option Addr}{am al:Nat}{o bC:Int}{m:Bool}{f:Option Addr}{d e:Nat}{bT:ByteArray}{ai:Option Addr}{ah aj:Nat}{H:Array Obj}{R:Value->Array Obj->Prop}(h:pt s aC t j i g aT ak am al o bC m f d e bT ai ah aj H R):C s aC t j i g aT ak am al o bC m f d e bT ai ah aj H R:=by
 refine T_en K0 51 Tryz.func81 ?_
 intro w0 Q hQ
 unfold pt at h
 refine T_su [(0,.agg (DR s aC t j i g aT ak am al).toArray),(1,.agg (DR o bC m f d e bT ai ah aj).toArray)]<| T_srz 0<| T_nw (some 2) (λb=>vp (pa b)) (.cells (DR s aC t j i g aT ak am al).toArray 51) ?_
 intro b H1 e1 e2
 replace h:=h b H1 e1 e2
 refine T_pd [0] [(2,vp (pa b))]<| T_nw (some 3) (λb=>vp (pa b)) (.cells (DR o bC m f d e bT ai ah aj).toArray 51) ?_
 intro a H2 e3 e4
 replace h:=h a H2 e3 e4
 refine T_pd [1] [(3,vp (pa a))]<| T_ed 1 [] []<| T_srz 1<| T_nd 1 [] [(5,vp (pa b))] ?_
 obtain⟨x,q5,h⟩:=h
 refine T_l1 6 3 q5 [5]<| T_nd 1 [] [(7,vp (pa a))] ?_
 obtain⟨ab,q6,h⟩:=h
 refine T_l1 8 3 q6 [7]<| T_nd 2 [6,8] [(10,.bool (x==ab))] ?_
 by_cases c7:x=ab
 ·rw[if_pos c7]at h
  refine N_bd 10 (beq_iff_eq.mpr c7)<| T_nd 1 [] [(11,vp (some ((ad b).add 1)))] ?_
  obtain⟨q,q9,h⟩:=h
  refine T_l1 12 21 q9 [11]<| T_nd 1 [] [(13,vp (some ((ad a).add 1)))] ?_
  obtain⟨y,q10,h⟩:=h
  refine T_l1 14 21 q10 [13]<| T_nd 3 [10,12,14] [(17,.bool (q==y))] ?_
  by_cases c11:q=y
  ·rw[if_pos c11]at h
   refine N_bd 17 (beq_iff_eq.mpr c11)<| T_nd 2 [] [(19,vp (some ((ad b).add 2)))] ?_
   obtain⟨r,q13,h⟩:=h
   refine T_l1 20 4 q13 [19]<| T_nd 2 [] [(22,vp (some ((ad a).add 2)))] ?_
   obtain⟨aa,q14,h⟩:=h
   refine T_l1 23 4 q14 [22]<| T_nd 3 [17,20,23] [(26,.bool (r==aa))] ?_
   by_cases c15:r=aa
   ·rw[if_pos c15]at h
    refine N_bd 26 (beq_iff_eq.mpr c15)<| T_nd 2 [] [(28,vp (some (((ad b).add 2).add 1)))] ?_
    obtain⟨xB,xN,xC,q17,h⟩:=h
    refine T_l1 29 46 q17 [28]<| T_nd 2 [] [(31,vp (some (((ad a).add 2).add 1)))] ?_
    obtain⟨af,ac,ae,q18,h⟩:=h
    refine T_l1 32 46 q18 [31] ?_
    refine T_c (some 33) h ?_;clear h
    rintro v H3 ⟨ag,rfl,h⟩
    refine T_pd [29,32] [(33,.bool ag)]<| T_nd 2 [26,33] [(35,.bool ag)] ?_
    by_cases c19:ag=true
    ·rw[if_pos c19]at h
     refine N_bd 35 c19<| T_nd 1 [] [(36,vp (some ((ad b).add 4)))] ?_
     obtain⟨p,q21,h⟩:=h
     refine T_l1 37 9 q21 [36]<| T_nd 1 [] [(38,vp (some ((ad a).add 4)))] ?_
     obtain⟨z,q22,h⟩:=h
     refine T_l1 39 9 q22 [38]<| T_nd 3 [35,37,39] [(42,.bool (p.toList==z.toList))] ?_
     by_cases c23:p.toList=z.toList
     ·rw[if_pos c23]at h
      refine N_bd 42 (beq_iff_eq.mpr c23)<| T_nd 1 [2] [(43,vp (some ((ad b).add 5)))] ?_
      obtain⟨ap,k,an,q25,h⟩:=h
      refine T_l1 44 49 q25 [43]<| T_nd 2 [3,44] [(45,vi k),(46,vp (some ((ad a).add 5)))] ?_
      obtain⟨ao,u,aq,q26,h⟩:=h
      exact T_l1 47 49 q26 [46]<| T_nr 4 [4] [.bool ((k:Int)==(u:Int))] hQ h
     rw[if_neg c23]at h
     exact N_bd 42 (beq_eq_false_iff_ne.mpr c23)<| T_nr 9 [4] [.bool false] hQ h
    rw[if_neg c19]at h
    exact N_bd 35 (eq_false_of_ne_true c19)<| T_nr 16 [4] [.bool false] hQ h
   rw[if_neg c15]at h
   exact N_bd 26 (beq_eq_false_iff_ne.mpr c15)<| T_nr 25 [4] [.bool false] hQ h
  rw[if_neg c11]at h
  exact N_bd 17 (beq_eq_false_iff_ne.mpr c11)<| T_nr 34 [4] [.bool false] hQ h
 rw[if_neg c7]at h
 exact N_bd 10 (beq_eq_false_iff_ne.mpr c7)<| T_nr 41 [4] [.bool false] hQ h
end datum_flat

/-! moraine/datum.own -/
namespace datum_own
def K0:=Func.code Tryz.f82
end datum_own
def datum_own.pt(c0 dC:Int)(c1:Bool)(bi:Option Addr)(bk bj:Nat)(dT:ByteArray)(d2:Option Addr)(d1 d0:Nat)(H:Array Obj)(R:Value->Array Obj->Prop):Prop:=
 ∀(b:Nat) (H1:Array Obj),b=H.size->H1=H.push (.cells (DR c0 dC c1 bi bk bj dT d2 d1 d0).toArray 51)->
 ∀(a:Nat) (H2:Array Obj),a=H1.size->H2=H1.push (.cells (DR 0 0 false none 0 0 (ByteArray.mk #[]) none 0 0).toArray 51)->
 ∃x:Int,hat H2 (ad b)=some (.int .i64 x)/\
 ∀(d:Nat) (H3:Array Obj),d=H2.size->H3=H2.push (.cells (DR 0 0 false none 0 0 (ByteArray.mk #[]) none 0 0).toArray 51)->
 (CanPuts H3 (ad d) 0 6)/\ ∀H4,H4=hputs H3 (ad d) (DR x 0 false none 0 0 (ByteArray.mk #[]) none 0 0) 0->
 ∃e:Int,hat H4 (ad b)=some (.int .i64 e)/\
 if e=3 then(
 ∃c4:Int,hat H4 ((ad b).add 1)=some (.int .i32 c4)/\
 (CanPuts H4 ((ad d).add 1) 0 1)/\ ∀H5,H5=hputs H4 ((ad d).add 1) [.int .i32 c4] 0->
 ∃a4 xC bd au ap aq xT da c9 c8,RowAt H5 (ad d) 0 (DR a4 xC bd au ap aq xT da c9 c8)/\
 (CanPuts H5 (ad a) 0 6)/\ ∀H6,H6=hputs H5 (ad a) (DR a4 xC bd au ap aq xT da c9 c8) 0->
 ∃db rC dd c2 c6 c5 rT en el em,RowAt H6 (ad a) 0 (DR db rC dd c2 c6 c5 rT en el em)/\
 R (.agg (DR db rC dd c2 c6 c5 rT en el em).toArray) H6)
 else
 if e=4 then(
 ∃(bx:Bool) (av:Option Addr) (aw ax:Nat),RowAt H4 ((ad b).add 2) 0 [.bool bx,.slice av aw ax]/\
 (CanPuts H4 ((ad d).add 2) 0 2)/\ ∀H7,H7=hputs H4 ((ad d).add 2) [.bool bx,.slice av aw ax] 0->
 ∃am ck ao r s z cd a5 a8 ay,RowAt H7 (ad d) 0 (DR am ck ao r s z cd a5 a8 ay)/\
 (CanPuts H7 (ad a) 0 6)/\ ∀H8,H8=hputs H7 (ad a) (DR am ck ao r s z cd a5 a8 ay) 0->
 ∃ct d3 cz b1 bp bl ef dh de du,RowAt H8 (ad a) 0 (DR ct d3 cz b1 bp bl ef dh de du)/\
 R (.agg (DR ct d3 cz b1 bp bl ef dh de du).toArray) H8)
 else
 if e=5 then(
 ∃c3:ByteArray,hat H4 ((ad b).add 4)=some (.string c3)/\
 (CanPuts H4 ((ad d).add 4) 0 1)/\ ∀H9,H9=hputs H4 ((ad d).add 4) [.string c3] 0->
 ∃ah cg an y ab p ch a3 bh ba,RowAt H9 (ad d) 0 (DR ah cg an y ab p ch a3 bh ba)/\
 (CanPuts H9 (ad a) 0 6)/\ ∀ej,ej=hputs H9 (ad a) (DR ah cg an y ab p ch a3 bh ba) 0->
 ∃cs d6 co b9 bz b7 d5 dr dv dt,RowAt ej (ad a) 0 (DR cs d6 co b9 bz b7 d5 dr dv dt)/\
 R (.agg (DR cs d6 co b9 bz b7 d5 dr dv dt).toArray) ej)
 else
 if e=6 then(
 ∃c7:ByteArray,hat H4 ((ad b).add 4)=some (.string c7)/\
 (CanPuts H4 ((ad d).add 4) 0 1)/\ ∀dx,dx=hputs H4 ((ad d).add 4) [.string c7] 0->
 ∃ak cm ai g v i cl a1 a6 bc,RowAt dx (ad d) 0 (DR ak cm ai g v i cl a1 a6 bc)/\
 (CanPuts dx (ad a) 0 6)/\ ∀ei,ei=hputs dx (ad a) (DR ak cm ai g v i cl a1 a6 bc) 0->
 ∃cy eb cq bs bn b8 d9 dp dm di,RowAt ei (ad a) 0 (DR cy eb cq bs bn b8 d9 dp dm di)/\
 R (.agg (DR cy eb cq bs bn b8 d9 dp dm di).toArray) ei)
 else
 if e=7 then(
 ∃(xB:Option Addr) (xN bo:Nat),hat H4 ((ad b).add 5)=some (.slice xB xN bo)/\
 (CanPuts H4 ((ad d).add 5) 0 1)/\ ∀dz,dz=hputs H4 ((ad d).add 5) [.slice xB xN bo] 0->
 ∃aj cc af q k m cn bf a2 a0,RowAt dz (ad d) 0 (DR aj cc af q k m cn bf a2 a0)/\
 (CanPuts dz (ad a) 0 6)/\ ∀eg,eg=hputs dz (ad a) (DR aj cc af q k m cn bf a2 a0) 0->
 ∃cw ea cp b2 b4 bm d7 dq dw dg,RowAt eg (ad a) 0 (DR cw ea cp b2 b4 bm d7 dq dw dg)/\
 R (.agg (DR cw ea cp b2 b4 bm d7 dq dw dg).toArray) eg)
 else
 if e=8 then(
 ∃(bq:Option Addr) (b5 br:Nat),hat H4 ((ad b).add 5)=some (.slice bq b5 br)/\
 (CanPuts H4 ((ad d).add 5) 0 1)/\ ∀dy,dy=hputs H4 ((ad d).add 5) [.slice bq b5 br] 0->
 ∃ae cf ac t f u cj bg bb a7,RowAt dy (ad d) 0 (DR ae cf ac t f u cj bg bb a7)/\
 (CanPuts dy (ad a) 0 6)/\ ∀eh,eh=hputs dy (ad a) (DR ae cf ac t f u cj bg bb a7) 0->
 ∃cr ee cv b3 b6 bu d8 dj dl dn,RowAt eh (ad a) 0 (DR cr ee cv b3 b6 bu d8 dj dl dn)/\
 R (.agg (DR cr ee cv b3 b6 bu d8 dj dl dn).toArray) eh)
 else
 ∃ag ci al j aa o ce a9 be az,RowAt H4 (ad d) 0 (DR ag ci al j aa o ce a9 be az)/\
 (CanPuts H4 (ad a) 0 6)/\ ∀ek,ek=hputs H4 (ad a) (DR ag ci al j aa o ce a9 be az) 0->
 ∃cx ec cu bt bw b0 d4 df dc dk,RowAt ek (ad a) 0 (DR cx ec cu bt bw b0 d4 df dc dk)/\
 R (.agg (DR cx ec cu bt bw b0 d4 df dc dk).toArray) ek
namespace datum_own
theorem link{c0 dC:Int}{c1:Bool}{bi:Option Addr}{bk bj:Nat}{dT:ByteArray}{d2:Option Addr}{d1 d0:Nat}{H:Array Obj}{R:Value->Array Obj->Prop}(h:pt c0 dC c1 bi bk bj dT d2 d1 d0 H R):C c0 dC c1 bi bk bj dT d2 d1 d0 H R:=by
 refine T_en K0 32 Tryz.func82 ?_
 intro w0 Q hQ
 unfold pt at h
 refine T_su [(0,.agg (DR c0 dC c1 bi bk bj dT d2 d1 d0).toArray)]<| T_srz 0<| T_nw (some 1) (λb=>vp (pa b)) (.cells (DR c0 dC c1 bi bk bj dT d2 d1 d0).toArray 51) ?_
 intro b H1 e1 e2
 replace h:=h b H1 e1 e2
 refine⟨[(1,vp (pa b))],pk,?_⟩
 refine T_nw (some 2) (λb=>vp (pa b)) (.cells (DR 0 0 false none 0 0 (ByteArray.mk #[]) none 0 0).toArray 51) ?_
 intro a H2 e3 e4
 replace h:=h a H2 e3 e4
 refine T_pd [] [(2,vp (pa a))]<| T_e<| T_srz 1<| T_nd 1 [] [(4,vp (pa b))] ?_
 obtain⟨x,q5,h⟩:=h
 refine T_l1 5 3 q5 [4]<| T_nd 1 [5] [(6,.agg (DR x 0 false none 0 0 (ByteArray.mk #[]) none 0 0).toArray)]<| T_nw (some 3) (λb=>vp (pa b)) (.cells (DR 0 0 false none 0 0 (ByteArray.mk #[]) none 0 0).toArray 51) ?_
 intro d H3 e6 e7
 replace h:=h d H3 e6 e7
 refine T_pd [] [(3,vp (pa d))] ?_
 obtain⟨q9,h⟩:=h
 refine T_sta 51 (DR x 0 false none 0 0 (ByteArray.mk #[]) none 0 0) q9 ?_
 intro H4 e8
 replace h:=h H4 e8
 refine T_pd [6] []<| T_e<| T_sz<| T_srz 2<| T_nd 1 [] [(7,vp (pa b))] ?_
 obtain⟨e,q10,h⟩:=h
 refine T_l1 8 3 q10 [7]<| T_e<| T_bz 0<| T_srz 3<| T_ed 2 [] [(9,.bool (e==3))] ?_
 by_cases c11:e=3
 ·rw[if_pos c11]at h
  refine T_cTz 9 (beq_iff_eq.mpr c11)<| T_rz 4<| T_nd 1 [1,8,9] [(11,vp (some ((ad b).add 1)))] ?_
  obtain⟨c4,q13,h⟩:=h
  refine T_l1 12 21 q13 [11]<| T_nd 1 [] [(13,vp (some ((ad d).add 1)))] ?_
  obtain⟨q15,h⟩:=h
  refine T_st1 21 (.int .i32 c4) q15 ?_
  intro H5 e14
  replace h:=h H5 e14
  refine T_pd [12,13] [] ?_
  refine N_end (by kernel_rfl) ?_
  refine S_blockEnd ?_
  refine S_then ?_
  refine T_srz 13 ?_
  obtain⟨a4,xC,bd,au,ap,aq,xT,da,c9,c8,q16,h⟩:=h
  refine T_lr 31 51 q16 [3] ?_
  obtain⟨q18,h⟩:=h
  refine T_sta 51 (DR a4 xC bd au ap aq xT da c9 c8) q18 ?_
  intro H6 e17
  replace h:=h H6 e17
  refine T_pd [31] []<| T_e ?_
  refine S_ret (by kernel_rfl) ?_
  show At _ _ _ _ _ (Q .ret)
  obtain⟨db,rC,dd,c2,c6,c5,rT,en,el,em,q19,h⟩:=h
  exact S_done (fn:=Tryz.f82) [.agg (DR db rC dd c2 c6 c5 rT en el em).toArray] hQ (show ResOK _ _ _ [.cell 2 51] _ from .cell (by kernel_rfl) (loadOK_row (λ_=>by kernel_rfl) (λ_=>by kernel_rfl) q19) (.nil)) h
 rw[if_neg c11]at h
 refine T_cFz 9 (beq_eq_false_iff_ne.mpr c11)<| T_srz 5<| T_ed 2 [9] [(14,.bool (e==4))] ?_
 by_cases c20:e=4
 ·rw[if_pos c20]at h
  refine T_cTz 14 (beq_iff_eq.mpr c20)<| T_rz 6<| T_nd 1 [1,8,14] [(16,vp (some ((ad b).add 2)))] ?_
  obtain⟨bx,av,aw,ax,q22,h⟩:=h
  refine T_lr 17 48 q22 [16]<| T_nd 1 [] [(18,vp (some ((ad d).add 2)))] ?_
  obtain⟨q24,h⟩:=h
  refine T_sta 48 [.bool bx,vs av aw ax] q24 ?_
  intro H7 e23
  replace h:=h H7 e23
  refine T_pd [17,18] [] ?_
  refine N_end (by kernel_rfl) ?_
  refine S_blockEnd ?_
  refine S_then ?_
  refine T_srz 13 ?_
  obtain⟨am,ck,ao,r,s,z,cd,a5,a8,ay,q25,h⟩:=h
  refine T_lr 31 51 q25 [3] ?_
  obtain⟨q27,h⟩:=h
  refine T_sta 51 (DR am ck ao r s z cd a5 a8 ay) q27 ?_
  intro H8 e26
  replace h:=h H8 e26
  refine T_pd [31] []<| T_e ?_
  refine S_ret (by kernel_rfl) ?_
  show At _ _ _ _ _ (Q .ret)
  obtain⟨ct,d3,cz,b1,bp,bl,ef,dh,de,du,q28,h⟩:=h
  exact S_done (fn:=Tryz.f82) [.agg (DR ct d3 cz b1 bp bl ef dh de du).toArray] hQ (show ResOK _ _ _ [.cell 2 51] _ from .cell (by kernel_rfl) (loadOK_row (λ_=>by kernel_rfl) (λ_=>by kernel_rfl) q28) (.nil)) h
 rw[if_neg c20]at h
 refine T_cFz 14 (beq_eq_false_iff_ne.mpr c20)<| T_sz<| T_srz 7<| T_ed 2 [14] [(19,.bool (e==5))] ?_
 by_cases c29:e=5
 ·rw[if_pos c29]at h
  refine S_bd 19 (beq_iff_eq.mpr c29)<| T_tz 19<| T_kt<| T_tz 19<| T_rz 9<| T_nd 1 [1,8,19] [(22,vp (some ((ad b).add 4)))] ?_
  obtain⟨c3,q31,h⟩:=h
  refine T_l1 23 9 q31 [22]<| T_nd 1 [] [(24,vp (some ((ad d).add 4)))] ?_
  obtain⟨q33,h⟩:=h
  refine T_st1 9 (.string c3) q33 ?_
  intro H9 e32
  replace h:=h H9 e32
  refine T_pd [23,24] [] ?_
  refine N_end (by kernel_rfl) ?_
  refine S_blockEnd ?_
  refine S_then ?_
  refine T_srz 13 ?_
  obtain⟨ah,cg,an,y,ab,p,ch,a3,bh,ba,q34,h⟩:=h
  refine T_lr 31 51 q34 [3] ?_
  obtain⟨q36,h⟩:=h
  refine T_sta 51 (DR ah cg an y ab p ch a3 bh ba) q36 ?_
  intro ej e35
  replace h:=h ej e35
  refine T_pd [31] []<| T_e ?_
  refine S_ret (by kernel_rfl) ?_
  show At _ _ _ _ _ (Q .ret)
  obtain⟨cs,d6,co,b9,bz,b7,d5,dr,dv,dt,q37,h⟩:=h
  exact S_done (fn:=Tryz.f82) [.agg (DR cs d6 co b9 bz b7 d5 dr dv dt).toArray] hQ (show ResOK _ _ _ [.cell 2 51] _ from .cell (by kernel_rfl) (loadOK_row (λ_=>by kernel_rfl) (λ_=>by kernel_rfl) q37) (.nil)) h
 rw[if_neg c29]at h
 refine S_bd 19 (beq_eq_false_iff_ne.mpr c29)<| T_fz 19<| T_rz 8<| T_ed 2 [19] [(19,.bool (e==6))] ?_
 by_cases c38:e=6
 ·rw[if_pos c38]at h
  refine T_cTz 19 (beq_iff_eq.mpr c38)<| T_rz 9<| T_nd 1 [1,8,19] [(22,vp (some ((ad b).add 4)))] ?_
  obtain⟨c7,q40,h⟩:=h
  refine T_l1 23 9 q40 [22]<| T_nd 1 [] [(24,vp (some ((ad d).add 4)))] ?_
  obtain⟨q42,h⟩:=h
  refine T_st1 9 (.string c7) q42 ?_
  intro dx e41
  replace h:=h dx e41
  refine T_pd [23,24] [] ?_
  refine N_end (by kernel_rfl) ?_
  refine S_blockEnd ?_
  refine S_then ?_
  refine T_srz 13 ?_
  obtain⟨ak,cm,ai,g,v,i,cl,a1,a6,bc,q43,h⟩:=h
  refine T_lr 31 51 q43 [3] ?_
  obtain⟨q45,h⟩:=h
  refine T_sta 51 (DR ak cm ai g v i cl a1 a6 bc) q45 ?_
  intro ei e44
  replace h:=h ei e44
  refine T_pd [31] []<| T_e ?_
  refine S_ret (by kernel_rfl) ?_
  show At _ _ _ _ _ (Q .ret)
  obtain⟨cy,eb,cq,bs,bn,b8,d9,dp,dm,di,q46,h⟩:=h
  exact S_done (fn:=Tryz.f82) [.agg (DR cy eb cq bs bn b8 d9 dp dm di).toArray] hQ (show ResOK _ _ _ [.cell 2 51] _ from .cell (by kernel_rfl) (loadOK_row (λ_=>by kernel_rfl) (λ_=>by kernel_rfl) q46) (.nil)) h
 rw[if_neg c38]at h
 refine T_cFz 19 (beq_eq_false_iff_ne.mpr c38)<| T_sz<| T_srz 10<| T_ed 2 [19] [(25,.bool (e==7))] ?_
 by_cases c47:e=7
 ·rw[if_pos c47]at h
  refine S_bd 25 (beq_iff_eq.mpr c47)<| T_tz 25<| T_kt<| T_tz 25<| T_rz 12<| T_nd 1 [1,8,25] [(28,vp (some ((ad b).add 5)))] ?_
  obtain⟨xB,xN,bo,q49,h⟩:=h
  refine T_l1 29 49 q49 [28]<| T_nd 1 [] [(30,vp (some ((ad d).add 5)))] ?_
  obtain⟨q51,h⟩:=h
  refine T_st1 49 (vs xB xN bo) q51 ?_
  intro dz e50
  replace h:=h dz e50
  refine T_pd [29,30] [] ?_
  refine N_end (by kernel_rfl) ?_
  refine S_blockEnd ?_
  refine S_then ?_
  refine T_srz 13 ?_
  obtain⟨aj,cc,af,q,k,m,cn,bf,a2,a0,q52,h⟩:=h
  refine T_lr 31 51 q52 [3] ?_
  obtain⟨q54,h⟩:=h
  refine T_sta 51 (DR aj cc af q k m cn bf a2 a0) q54 ?_
  intro eg e53
  replace h:=h eg e53
  refine T_pd [31] []<| T_e ?_
  refine S_ret (by kernel_rfl) ?_
  show At _ _ _ _ _ (Q .ret)
  obtain⟨cw,ea,cp,b2,b4,bm,d7,dq,dw,dg,q55,h⟩:=h
  exact S_done (fn:=Tryz.f82) [.agg (DR cw ea cp b2 b4 bm d7 dq dw dg).toArray] hQ (show ResOK _ _ _ [.cell 2 51] _ from .cell (by kernel_rfl) (loadOK_row (λ_=>by kernel_rfl) (λ_=>by kernel_rfl) q55) (.nil)) h
 rw[if_neg c47]at h
 refine S_bd 25 (beq_eq_false_iff_ne.mpr c47)<| T_fz 25<| T_rz 11<| T_ed 2 [8,25] [(25,.bool (e==8))] ?_
 by_cases c56:e=8
 ·rw[if_pos c56]at h
  refine T_cTz 25 (beq_iff_eq.mpr c56)<| T_rz 12<| T_nd 1 [1,25] [(28,vp (some ((ad b).add 5)))] ?_
  obtain⟨bq,b5,br,q58,h⟩:=h
  refine T_l1 29 49 q58 [28]<| T_nd 1 [] [(30,vp (some ((ad d).add 5)))] ?_
  obtain⟨q60,h⟩:=h
  refine T_st1 49 (vs bq b5 br) q60 ?_
  intro dy e59
  replace h:=h dy e59
  refine T_pd [29,30] [] ?_
  refine N_end (by kernel_rfl) ?_
  refine S_blockEnd ?_
  refine S_then ?_
  refine T_srz 13 ?_
  obtain⟨ae,cf,ac,t,f,u,cj,bg,bb,a7,q61,h⟩:=h
  refine T_lr 31 51 q61 [3] ?_
  obtain⟨q63,h⟩:=h
  refine T_sta 51 (DR ae cf ac t f u cj bg bb a7) q63 ?_
  intro eh e62
  replace h:=h eh e62
  refine T_pd [31] []<| T_e ?_
  refine S_ret (by kernel_rfl) ?_
  show At _ _ _ _ _ (Q .ret)
  obtain⟨cr,ee,cv,b3,b6,bu,d8,dj,dl,dn,q64,h⟩:=h
  exact S_done (fn:=Tryz.f82) [.agg (DR cr ee cv b3 b6 bu d8 dj dl dn).toArray] hQ (show ResOK _ _ _ [.cell 2 51] _ from .cell (by kernel_rfl) (loadOK_row (λ_=>by kernel_rfl) (λ_=>by kernel_rfl) q64) (.nil)) h
 rw[if_neg c56]at h
 refine T_cFz 25 (beq_eq_false_iff_ne.mpr c56)<| T_k ?_
 refine S_blockEnd ?_
 refine S_then ?_
 refine T_srz 13<| T_ud [1,25] [] ?_
 obtain⟨ag,ci,al,j,aa,o,ce,a9,be,az,q65,h⟩:=h
 refine T_lr 31 51 q65 [3] ?_
 obtain⟨q67,h⟩:=h
 refine T_sta 51 (DR ag ci al j aa o ce a9 be az) q67 ?_
 intro ek e66
 replace h:=h ek e66
 refine T_pd [31] []<| T_e ?_
 refine S_ret (by kernel_rfl) ?_
 show At _ _ _ _ _ (Q .ret)
 obtain⟨cx,ec,cu,bt,bw,b0,d4,df,dc,dk,q68,h⟩:=h
 exact S_done (fn:=Tryz.f82) [.agg (DR cx ec cu bt bw b0 d4 df dc dk).toArray] hQ (show ResOK _ _ _ [.cell 2 51] _ from .cell (by kernel_rfl) (loadOK_row (λ_=>by kernel_rfl) (λ_=>by kernel_rfl) q68) (.nil)) h
end datum_own

/-! moraine/datum.text -/
namespace datum_text
def K0:=Func.code Tryz.f84
end datum_text
def datum_text.pt(s:ByteArray)(a:Int)(H:Array Obj)(R:Value->Array Obj->Prop):Prop:=
 unicode_utf8_RuneCountInString.C s H (λv H1=> ∃x:Int,v=.int .i64 x/\
 unicode_utf8_ValidString.C s H1 (λd H2=> ∃b:Bool,d=.bool b/\
 R (.bool ((b && (decide (x>=a))) && (decide (x<=62)))) H2))
namespace datum_text
theorem link{s:ByteArray}{a:Int}{H:Array Obj}{R:Value->Array Obj->Prop}(h:pt s a H R):C s a H R:=by
 refine T_en K0 19 Tryz.func84 ?_
 intro w0 Q hQ
 unfold pt at h
 refine T_su [(0,.string s),(1,vi a)]<| T_srz 0<| T_ed 1 [] []<| T_srz 1<| T_nd 1 [] [(6,.string s)] ?_
 refine T_c (some 7) h ?_;clear h
 rintro v H1 ⟨x,rfl,h⟩
 refine T_pd [6] [(7,vi x)]<| T_ed 1 [7] [(5,vi x)]<| T_srz 2<| T_nd 1 [0] [(8,.string s)] ?_
 refine T_c (some 9) h ?_;clear h
 rintro d H2 ⟨b,rfl,h⟩
 refine T_pd [8] [(9,.bool b)]<| T_nd 1 [9] [(10,.bool b)] ?_
 refine N_cut [(4,.bool ((b && (decide (x>=a))) && (decide (x<=62))))] ?_ ?_
 ·refine S_then ?_
  exact T_ret [4] [.bool ((b && (decide (x>=a))) && (decide (x<=62)))] hQ h
 intro hk
 refine T_nu [(1,vi a),(5,vi x),(10,.bool b)] ?_
 by_cases c1:b=true
 ·have b2:b=true:=c1
  refine N_env [(1,vi a),(5,vi x),(10,.bool true)] (by rw[b2]) ?_
  refine T_nd 5 [1,10] [(15,.bool (decide (x>=a)))] ?_
  by_cases c3:x>=a
  ·have b4:(decide (x>=a))=true:=decide_eq_true c3
   refine N_bd 15 b4<| T_n 4 [(4,.bool (decide (x<=62)))] ?_
   refine N_end (by kernel_rfl) ?_
   refine S_env [(4,.bool ((b && (decide (x>=a))) && (decide (x<=62))))] (by simp only[b2,b4,BL]) ?_
   exact hk
  have b4:(decide (x>=a))=false:=decide_eq_false c3
  refine N_bd 15 b4<| T_n 4 [(4,.bool false)] ?_
  refine N_end (by kernel_rfl) ?_
  refine S_env [(4,.bool ((b && (decide (x>=a))) && (decide (x<=62))))] (by simp only[b2,b4,BL]) ?_
  exact hk
 have b2:b=false:=eq_false_of_ne_true c1
 refine N_env [(1,vi a),(5,vi x),(10,.bool false)] (by rw[b2]) ?_
 refine T_n 9 [(4,.bool false)] ?_
 refine N_end (by kernel_rfl) ?_
 refine S_env [(4,.bool ((b && (decide (x>=a))) && (decide (x<=62))))] (by simp only[b2,BL]) ?_
 exact hk
end datum_text

/-! moraine/datum.plain.1 -/
namespace datum_plain_1
def K0:=Func.code Tryz.f86
end datum_plain_1
def datum_plain_1.pt(r xC:Int)(q:Bool)(k:Option Addr)(i j:Nat)(xT:ByteArray)(y:Option Addr)(u z:Nat)(H:Array Obj)(R:Value->Array Obj->Prop):Prop:=
 ∀(b:Nat) (H1:Array Obj),b=H.size->H1=H.push (.cells (DR r xC q k i j xT y u z).toArray 51)->
 ∃f t g d a e s m p o,RowAt H1 (ad b) 0 (DR f t g d a e s m p o)/\
 datum_plain.C f t g d a e s m p o H1 (λv H2=> ∃x:Bool,v=.bool x/\
 R (.bool (!x)) H2)
namespace datum_plain_1
theorem link{r xC:Int}{q:Bool}{k:Option Addr}{i j:Nat}{xT:ByteArray}{y:Option Addr}{u z:Nat}{H:Array Obj}{R:Value->Array Obj->Prop}(h:pt r xC q k i j xT y u z H R):C r xC q k i j xT y u z H R:=by
 refine T_en K0 6 Tryz.func86 ?_
 intro w0 Q hQ
 unfold pt at h
 refine T_su [(0,.agg (DR r xC q k i j xT y u z).toArray)]<| T_srz 0<| T_nw (some 1) (λb=>vp (pa b)) (.cells (DR r xC q k i j xT y u z).toArray 51) ?_
 intro b H1 e1 e2
 replace h:=h b H1 e1 e2
 refine⟨[(1,vp (pa b))],pk,?_⟩
 refine T_ed 1 [] []<| T_srz 1 ?_
 obtain⟨f,t,g,d,a,e,s,m,p,o,q3,h⟩:=h
 refine T_lr 3 51 q3 [1] ?_
 refine T_c (some 4) h ?_;clear h
 rintro v H2 ⟨x,rfl,h⟩
 refine⟨[(4,.bool x)],pk,?_⟩
 exact T_nr 2 [2] [.bool (!x)] hQ h
end datum_plain_1

end Go.Proofs.YtibpklpgmgakcaaGreatDoor
