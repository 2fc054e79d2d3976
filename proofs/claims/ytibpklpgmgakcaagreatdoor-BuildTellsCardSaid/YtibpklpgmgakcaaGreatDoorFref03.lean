/- Printed: what each function asks, and that it is sound. -/
import Derived.Test.YtibpklpgmgakcaaGreatDoorFnsC
set_option linter.unusedSimpArgs false
set_option linter.unusedVariables false
set_option maxRecDepth 100000
set_option maxHeartbeats 1000000
noncomputable section
namespace Go.Proofs.YtibpklpgmgakcaaGreatDoor
open Go
/-! moraine/moraineref03.Same -/
namespace moraineref03_Same
def K0:=Func.code Tryz.f10
def K2:=cb K0
def K4:=cb K2
def K9:=ca K4
def K12:=cb K9
def K13:=ca K12
def K14:=ca K13
def K16:=cb K14
def K21:=ca K16
def K23:=ca K21
def K24:=ca K23
end moraineref03_Same
def moraineref03_Same.pt(a9 aC:Int)(ba:Bool)(am:Option Addr)(ao an:Nat)(aT:ByteArray)(bk:Option Addr)(bm bl:Nat)(a0 bC:Int)(az:Bool)(ag:Option Addr)(af ae:Nat)(bT:ByteArray)(bj:Option Addr)(bh bi:Nat)(H:Array Obj)(R:Value->Array Obj->Prop):Prop:=
 ∀(b:Nat) (H1:Array Obj),b=H.size->H1=H.push (.cells (DR a9 aC ba am ao an aT bk bm bl).toArray 51)->
 ∀(d:Nat) (H2:Array Obj),d=H1.size->H2=H1.push (.cells (DR a0 bC az ag af ae bT bj bh bi).toArray 51)->
 ∃x:Int,hat H2 (ad b)=some (.int .i64 x)/\
 ∃bg:Int,hat H2 (ad d)=some (.int .i64 bg)/\
 if x=bg then(
 ∃a5:Int,hat H2 ((ad b).add 1)=some (.int .i32 a5)/\
 ∃be:Int,hat H2 ((ad d).add 1)=some (.int .i32 be)/\
 if a5=be then(
 ∃(a7:Bool) (ai:Option Addr) (aj ah:Nat),RowAt H2 ((ad b).add 2) 0 [.bool a7,.slice ai aj ah]/\
 ∃(ak:Bool) (ab:Option Addr) (aa ac:Nat),RowAt H2 ((ad d).add 2) 0 [.bool ak,.slice ab aa ac]/\
 moraineref02_Same.C a7 ai aj ah ak ab aa ac H2 (λv H3=> ∃bb:Bool,v=.bool bb/\
 if bb=true then(
 ∃a8:ByteArray,hat H3 ((ad b).add 4)=some (.string a8)/\
 ∃bf:ByteArray,hat H3 ((ad d).add 4)=some (.string bf)/\
 if a8.toList=bf.toList then(
 ∃(xB:Option Addr) (xN xC:Nat),hat H3 ((ad b).add 5)=some (.slice xB xN xC)/\
 ∃(bq:Option Addr) (aq bo:Nat),hat H3 ((ad d).add 5)=some (.slice bq aq bo)/\
 if(xN:Int)=(aq:Int)then(
 ∃(br:Int->Array Obj->Prop) (m15:Int->Array Obj->Nat),br 0 H3/\ ∀(i:Int) (H4:Array Obj),br i H4->
 ∃(bp:Option Addr) (ay bn:Nat),hat H4 ((ad b).add 5)=some (.slice bp ay bn)/\
 if i< (ay:Int)then(
 ∃(bs:Option Addr) (av a6:Nat),hat H4 ((ad b).add 5)=some (.slice bs av a6)/\
 ∃r:Addr,bs=some r/\
 ((0:Int)<=i/\i< (av:Int))/\
 ∃j z m g e f xT a2 a1 a3,RowAt H4 (r.add (Int.toNat i*6)) 0 (DR j z m g e f xT a2 a1 a3)/\
 ∃(bt:Option Addr) (au a4:Nat),hat H4 ((ad d).add 5)=some (.slice bt au a4)/\
 ∃s:Addr,bt=some s/\
 ((0:Int)<=i/\i< (au:Int))/\
 ∃u bd y p q o bc ax aw ap,RowAt H4 (s.add (Int.toNat i*6)) 0 (DR u bd y p q o bc ax aw ap)/\
 moraineref03_Same.C j z m g e f xT a2 a1 a3 u bd y p q o bc ax aw ap H4 (λbu H5=> ∃al:Bool,bu=.bool al/\
 if al=true then(
 (br (IntKind.wrap .i64 (i+1)) H5/\m15 (IntKind.wrap .i64 (i+1)) H5<m15 i H4))
 else
 R (.bool false) H5))
 else
 R (.bool true) H4)
 else
 R (.bool false) H3)
 else
 R (.bool false) H3)
 else
 R (.bool false) H3))
 else
 R (.bool false) H2)
 else
 R (.bool false) H2
namespace moraineref03_Same
theorem link{a9 aC:Int}{ba:Bool}{am:Option Addr}{ao an:Nat}{aT:ByteArray}{bk:Option Addr}{bm bl:Nat}{a0 bC:Int}{az:Bool}{ag:Option Addr}{af ae:Nat}{bT:ByteArray}{bj:Option Addr}{bh bi:Nat}{H:Array Obj}{R:Value->Array Obj->Prop}(h:pt a9 aC ba am ao an aT bk bm bl a0 bC az ag af ae bT bj bh bi H R):C a9 aC ba am ao an aT bk bm bl a0 bC az ag af ae bT bj bh bi H R:=by
 refine T_en K0 61 Tryz.func10 ?_
 intro w0 Q hQ
 unfold pt at h
 refine T_su [(0,.agg (DR a9 aC ba am ao an aT bk bm bl).toArray),(1,.agg (DR a0 bC az ag af ae bT bj bh bi).toArray)]<| T_srz 0<| T_nw (some 2) (λb=>vp (pa b)) (.cells (DR a9 aC ba am ao an aT bk bm bl).toArray 51) ?_
 intro b H1 e1 e2
 replace h:=h b H1 e1 e2
 refine T_pd [0] [(2,vp (pa b))]<| T_nw (some 3) (λb=>vp (pa b)) (.cells (DR a0 bC az ag af ae bT bj bh bi).toArray 51) ?_
 intro d H2 e3 e4
 replace h:=h d H2 e3 e4
 refine T_pd [1] [(3,vp (pa d))]<| T_ed 1 [] []<| T_sz<| T_srz 1<| T_nd 1 [] [(6,vp (pa b))] ?_
 obtain⟨x,q5,h⟩:=h
 refine T_l1 7 3 q5 [6]<| T_nd 1 [] [(8,vp (pa d))] ?_
 obtain⟨bg,q6,h⟩:=h
 refine T_l1 9 3 q6 [8]<| T_nd 2 [7,9] [(11,.bool (x !=bg))] ?_
 by_cases c7:x=bg
 ·rw[if_pos c7]at h
  refine N_bd 11 (bne_eq_false_iff_eq.mpr c7)<| T_nd 1 [] [(12,vp (some ((ad b).add 1)))] ?_
  obtain⟨a5,q9,h⟩:=h
  refine T_l1 13 21 q9 [12]<| T_nd 1 [] [(14,vp (some ((ad d).add 1)))] ?_
  obtain⟨be,q10,h⟩:=h
  refine T_l1 15 21 q10 [14]<| T_nd 3 [11,13,15] [(18,.bool (a5 !=be))] ?_
  by_cases c11:a5=be
  ·rw[if_pos c11]at h
   refine N_bd 18 (bne_eq_false_iff_eq.mpr c11)<| T_nd 1 [] [(19,vp (some ((ad b).add 2)))] ?_
   obtain⟨a7,ai,aj,ah,q13,h⟩:=h
   refine T_lr 20 48 q13 [19]<| T_nd 1 [] [(21,vp (some ((ad d).add 2)))] ?_
   obtain⟨ak,ab,aa,ac,q14,h⟩:=h
   refine T_lr 22 48 q14 [21] ?_
   refine T_c (some 23) h ?_;clear h
   rintro v H3 ⟨bb,rfl,h⟩
   refine T_pd [20,22] [(23,.bool bb)]<| T_nd 3 [18,23] [(26,.bool (!bb))] ?_
   by_cases c15:bb=true
   ·rw[if_pos c15]at h
    have b16:(!bb)=false:=congrArg Bool.not (c15)
    have b162:bb=true:=c15
    refine N_bd 26 (b:=(!bb)) (v:=false) (by simp only[b16,b162,Bool.not_true,Bool.not_false]) ?_
    clear b16 b162
    refine T_nd 1 [] [(27,vp (some ((ad b).add 4)))] ?_
    obtain⟨a8,q17,h⟩:=h
    refine T_l1 28 9 q17 [27]<| T_nd 1 [] [(29,vp (some ((ad d).add 4)))] ?_
    obtain⟨bf,q18,h⟩:=h
    refine T_l1 30 9 q18 [29]<| T_nd 3 [26,28,30] [(33,.bool (!(a8.toList==bf.toList)))] ?_
    by_cases c19:a8.toList=bf.toList
    ·rw[if_pos c19]at h
     refine N_bd 33 (congrArg Bool.not (beq_iff_eq.mpr c19))<| T_nd 1 [] [(34,vp (some ((ad b).add 5)))] ?_
     obtain⟨xB,xN,xC,q21,h⟩:=h
     refine T_l1 35 49 q21 [34]<| T_nd 2 [35] [(36,vi xN),(37,vp (some ((ad d).add 5)))] ?_
     obtain⟨bq,aq,bo,q22,h⟩:=h
     refine T_l1 38 49 q22 [37]<| T_ed 3 [33,36,38] [(41,.bool ((xN:Int) !=(aq:Int)))] ?_
     by_cases c23:(xN:Int)=(aq:Int)
     ·rw[if_pos c23]at h
      refine T_cFz 41 (bne_eq_false_iff_eq.mpr c23)<| T_kt<| T_sz<| T_srz 3<| T_ed 1 [41] [(5,vi 0)]<| T_bz 0 ?_
      obtain⟨br,m15,i25,i26⟩:=h
      refine S_loop (x:=K14) (σ:=Int) (λs_=> [(2,vp (pa b)),(3,vp (pa d)),(5,vi s_)]) (λs_ H=>br s_ H) (λs_ H=>m15 s_ H) (0:Int) (by kernel_rfl) i25 sk ?_
      rintro i H4 i27
      have h:=i26 i H4 i27
      refine T_su [(2,vp (pa b)),(3,vp (pa d)),(5,vi i)]<| T_sz<| T_srz 4<| T_nd 2 [] [(42,vi i),(43,vp (some ((ad b).add 5)))] ?_
      obtain⟨bp,ay,bn,q28,h⟩:=h
      refine T_l1 44 49 q28 [43]<| T_ed 2 [42,44] [(46,.bool (decide (i< (ay:Int))))] ?_
      by_cases c29:i< (ay:Int)
      ·rw[if_pos c29]at h
       refine T_cTz 46 (decide_eq_true c29)<| T_kt<| T_sz<| T_bz 1<| T_sz ?_
       obtain⟨bs,av,a6,q31,h⟩:=h
       obtain⟨r,rfl,h⟩:=h
       obtain⟨q32,h⟩:=h
       obtain⟨j,z,m,g,e,f,xT,a2,a1,a3,q33,h⟩:=h
       obtain⟨bt,au,a4,q34,h⟩:=h
       obtain⟨s,rfl,h⟩:=h
       obtain⟨q35,h⟩:=h
       obtain⟨u,bd,y,p,q,o,bc,ax,aw,ap,q36,h⟩:=h
       refine S_regionG 6 (Code.ops K24) [(10,((ad b).add 5),[vs (some r) av a6]),(10,(r.add (Int.toNat i*6)),(DR j z m g e f xT a2 a1 a3)),(10,((ad d).add 5),[vs (some s) au a4]),(10,(s.add (Int.toNat i*6)),(DR u bd y p q o bc ax aw ap))] 12 (bv 12 0) (by kernel_rfl) (by kernel_rfl) (by kernel_rfl) (by kernel_rfl) (by kernel_rfl) (show FactsAt _ _ _ from⟨⟨q31,trivial⟩,q33,⟨q34,trivial⟩,q36,trivial⟩) ?_
       refine T_gp 0 (some 49) (vp (some ((ad b).add 5))) (bv 12 1) [(2,vp (pa b)),(3,vp (pa d)),(5,vi i),(49,vp (some ((ad b).add 5)))]<| T_g1 1 50 (vs (some r) av a6) (bv 12 3) [49] (loadN 49 (vp (some ((ad b).add 5)))) (held_one 10 (λ_=>by kernel_rfl) (List.Mem.head _) (.inl (by kernel_rfl)))<| T_gp1 2 51 (vi i) (bv 12 7) []<| T_g1 3 52 (vp (some (r.add (Int.toNat i*6)))) (bv 12 15) [50,51] (indexAtN 49 (vs (some r) av a6) (vi i)) (λ_ w _ _ _=>indexAt_run (P:=Tryz.prog) (t:=49) (elem:=51) (sz:=6) (a:=r) (len:=av) (cap:=a6) (k:=.i64) (i:=i) Tryz.underlying49 (λ_=>by kernel_rfl) q32.1 q32.2 w)<| T_g1 4 53 (.agg (DR j z m g e f xT a2 a1 a3).toArray) (bv 12 31) [52] (loadN 51 (vp (some (r.add (Int.toNat i*6))))) (held_row 10 (λ_=>by kernel_rfl) (λ_=>by kernel_rfl) (List.Mem.tail _ (List.Mem.head _)) (.inl (by kernel_rfl)))<| T_gp1 5 54 (vp (some ((ad d).add 5))) (bv 12 63) []<| T_g1 6 55 (vs (some s) au a4) (bv 12 127) [54] (loadN 49 (vp (some ((ad d).add 5)))) (held_one 10 (λ_=>by kernel_rfl) (List.Mem.tail _ (List.Mem.tail _ (List.Mem.head _))) (.inl (by kernel_rfl)))<| T_gp1 7 56 (vi i) (bv 12 255) []<| T_g1 8 57 (vp (some (s.add (Int.toNat i*6)))) (bv 12 511) [55,56] (indexAtN 49 (vs (some s) au a4) (vi i)) (λ_ w _ _ _=>indexAt_run (P:=Tryz.prog) (t:=49) (elem:=51) (sz:=6) (a:=s) (len:=au) (cap:=a4) (k:=.i64) (i:=i) Tryz.underlying49 (λ_=>by kernel_rfl) q35.1 q35.2 w) ?_
       refine T_g1 9 58 (.agg (DR u bd y p q o bc ax aw ap).toArray) (bv 12 1023) [57] (loadN 51 (vp (some (s.add (Int.toNat i*6))))) (held_row 10 (λ_=>by kernel_rfl) (λ_=>by kernel_rfl) (List.Mem.tail _ (List.Mem.tail _ (List.Mem.tail _ (List.Mem.head _)))) (.inl (by kernel_rfl))) ?_
       refine G_call 10 (some 59) (bv 12 2047) 10 #[.agg (DR j z m g e f xT a2 a1 a3).toArray,.agg (DR u bd y p q o bc ax aw ap).toArray] (by kernel_rfl) (λ_=>by kernel_rfl) h (by kernel_rfl) ?_;clear h
       rintro bu H5 ⟨al,rfl,h⟩
       refine⟨[(2,vp (pa b)),(3,vp (pa d)),(5,vi i),(59,.bool al)],pk,(show FactsAt _ _ _ from⟨trivial,trivial,trivial,trivial,trivial⟩),?_⟩
       refine T_g 11 (some 60) (.bool (!al)) (bv 12 4095) [(2,vp (pa b)),(3,vp (pa d)),(5,vi i),(60,.bool (!al))] (pure (.value (.bool (!al))):Sem Next) (λ_ _ _ _ _=>rfl) ?_
       refine G_sub [(2,vp (pa b)),(3,vp (pa d)),(5,vi i),(60,.bool (!al))] sk ?_
       refine G_end (by kernel_rfl) ?_
       refine S_then ?_
       by_cases c37:al=true
       ·rw[if_pos c37]at h
        refine T_cFz 60 (congrArg Bool.not (c37))<| T_k ?_
        refine S_blockEnd ?_
        refine S_then ?_
        refine T_rz 5<| T_ne 3 [(2,vp (pa b)),(3,vp (pa d)),(5,vi (IntKind.wrap .i64 (i+1)))] ?_
        exact S_round ((IntKind.wrap .i64 (i+1)):Int) sk h
       rw[if_neg c37]at h
       exact T_cTz 60 (congrArg Bool.not (eq_false_of_ne_true c37))<| T_srz 7<| T_nr 1 [4] [.bool false] hQ h
      rw[if_neg c29]at h
      refine T_cFz 46 (decide_eq_false c29) ?_
      refine S_exit 0 (by kernel_rfl) ?_
      refine S_exitThen ?_
      refine S_exitThen ?_
      refine S_exitHere ?_
      refine S_then ?_
      exact T_srz 8<| T_nr 1 [4] [.bool true] hQ h
     rw[if_neg c23]at h
     exact T_cTz 41 (bne_iff_ne.mpr c23)<| T_srz 2<| T_nr 1 [4] [.bool false] hQ h
    rw[if_neg c19]at h
    exact N_bd 33 (congrArg Bool.not (beq_eq_false_iff_ne.mpr c19))<| T_ed 8 [33] [(41,.bool true)]<| T_tz 41<| T_srz 2<| T_nr 1 [4] [.bool false] hQ h
   rw[if_neg c15]at h
   have b16:(!bb)=true:=congrArg Bool.not (eq_false_of_ne_true c15)
   have b162:bb=false:=eq_false_of_ne_true c15
   refine N_bd 26 (b:=(!bb)) (v:=true) (by simp only[b16,b162,Bool.not_true,Bool.not_false]) ?_
   clear b16 b162
   exact T_ed 15 [26] [(41,.bool true)]<| T_tz 41<| T_srz 2<| T_nr 1 [4] [.bool false] hQ h
  rw[if_neg c11]at h
  exact N_bd 18 (bne_iff_ne.mpr c11)<| T_ed 23 [18] [(41,.bool true)]<| T_tz 41<| T_srz 2<| T_nr 1 [4] [.bool false] hQ h
 rw[if_neg c7]at h
 exact N_bd 11 (bne_iff_ne.mpr c7)<| T_ed 30 [11] [(41,.bool true)]<| T_tz 41<| T_srz 2<| T_nr 1 [4] [.bool false] hQ h
end moraineref03_Same

/-! moraine/moraineref03.May -/
namespace moraineref03_May
def K0:=Func.code Tryz.f11
end moraineref03_May
def moraineref03_May.pt(y dC:Int)(z:Bool)(m:Option Addr)(p o:Nat)(dT:ByteArray)(aj:Option Addr)(ai ah:Nat)(H:Array Obj)(R:Value->Array Obj->Prop):Prop:=
 ∀(b:Nat) (H1:Array Obj),b=H.size->H1=H.push (.cells (DR y dC z m p o dT aj ai ah).toArray 51)->
 ∃s xC u k i j xT ae ac af,RowAt H1 (ad b) 0 (DR s xC u k i j xT ae ac af)/\
 moraineref03_plain.C s xC u k i j xT ae ac af H1 (λv H2=> ∃x:Bool,v=.bool x/\
 if x=true then(
 ∃f ab g d e a aa t r q,RowAt H2 (ad b) 0 (DR f ab g d e a aa t r q)/\
 moraineref03_Depth.C f ab g d e a aa t r q H2 (λak H3=> ∃ag:Int,ak=.int .i64 ag/\
 R (.bool (decide (ag<=64))) H3))
 else
 R (.bool false) H2)
namespace moraineref03_May
theorem link{y dC:Int}{z:Bool}{m:Option Addr}{p o:Nat}{dT:ByteArray}{aj:Option Addr}{ai ah:Nat}{H:Array Obj}{R:Value->Array Obj->Prop}(h:pt y dC z m p o dT aj ai ah H R):C y dC z m p o dT aj ai ah H R:=by
 refine T_en K0 10 Tryz.func11 ?_
 intro w0 Q hQ
 unfold pt at h
 refine T_su [(0,.agg (DR y dC z m p o dT aj ai ah).toArray)]<| T_srz 0<| T_nw (some 1) (λb=>vp (pa b)) (.cells (DR y dC z m p o dT aj ai ah).toArray 51) ?_
 intro b H1 e1 e2
 replace h:=h b H1 e1 e2
 refine⟨[(1,vp (pa b))],pk,?_⟩
 refine T_ed 1 [] []<| T_srz 1 ?_
 obtain⟨s,xC,u,k,i,j,xT,ae,ac,af,q3,h⟩:=h
 refine T_lr 3 51 q3 [] ?_
 refine T_c (some 4) h ?_;clear h
 rintro v H2 ⟨x,rfl,h⟩
 refine T_pd [3] [(4,.bool x)]<| T_nd 1 [4] [(5,.bool x)] ?_
 by_cases c4:x=true
 ·rw[if_pos c4]at h
  refine N_bd 5 c4 ?_
  obtain⟨f,ab,g,d,e,a,aa,t,r,q,q6,h⟩:=h
  refine T_lr 6 51 q6 [1] ?_
  refine T_c (some 7) h ?_;clear h
  rintro ak H3 ⟨ag,rfl,h⟩
  exact T_pd [6] [(7,vi ag)]<| T_nr 3 [2] [.bool (decide (ag<=64))] hQ h
 rw[if_neg c4]at h
 exact N_bd 5 (eq_false_of_ne_true c4)<| T_nr 5 [2] [.bool false] hQ h
end moraineref03_May

/-! moraine/moraineref03.List -/
namespace moraineref03_List
def K0:=Func.code Tryz.f12
def K2:=cb K0
def K4:=cb K2
def K5:=ca K4
def K8:=cb K5
def K9:=ca K8
def K10:=ca K9
def K12:=cb K10
def K17:=ca K12
def K19:=ca K17
end moraineref03_List
def moraineref03_List.pt(lB:Option Addr)(lN lC:Nat)(H:Array Obj)(R:Value->Array Obj->Prop):Prop:=
 ∀(b:Nat) (H1:Array Obj),b=H.size->H1=H.push (.cells (DR 0 0 false none 0 0 (ByteArray.mk #[]) none 0 0).toArray 51)->
 ∀(d:Nat) (H2:Array Obj),d=H1.size->H2=H1.push (.cells (DR 0 0 false none 0 0 (ByteArray.mk #[]) none 0 0).toArray 51)->
 (CanPuts H2 (ad d) 0 6)/\ ∀H3,H3=hputs H2 (ad d) (DR 0 0 false none 0 0 (ByteArray.mk #[]) none 0 0) 0->
 ∃(az:Int->Array Obj->Prop) (m11:Int->Array Obj->Nat),az (IntKind.wrap .i64 ((lN:Int)-1)) H3/\ ∀(i:Int) (H4:Array Obj),az i H4->
 if i>=0 then(
 ∃e:Addr,lB=some e/\
 ((0:Int)<=i/\i< (lN:Int))/\
 ∃ab xC af z v y xT av au aw,RowAt H4 (e.add (Int.toNat i*6)) 0 (DR ab xC af z v y xT av au aw)/\
 ∃s an u o p m am ai ah ag,RowAt H4 (ad d) 0 (DR s an u o p m am ai ah ag)/\
 ∀(aj:Nat) (H5:Array Obj),aj=H4.size->H5=H4.push (.cells #[.int .i64 ab,.int .i32 xC,.bool af,.slice z v y,.string xT,.slice av au aw,.int .i64 s,.int .i32 an,.bool u,.slice o p m,.string am,.slice ai ah ag] 51)->
 (CanPuts H5 (ad d) 0 6)/\ ∀H6,H6=hputs H5 (ad d) (DR 7 0 false none 0 0 (ByteArray.mk #[]) (some (ad aj)) 2 2) 0->
 (az (IntKind.wrap .i64 (i-1)) H6/\m11 (IntKind.wrap .i64 (i-1)) H6<m11 i H4))
 else
 ∃q ak r f j g al aa ac ae,RowAt H4 (ad d) 0 (DR q ak r f j g al aa ac ae)/\
 (CanPuts H4 (ad b) 0 6)/\ ∀H7,H7=hputs H4 (ad b) (DR q ak r f j g al aa ac ae) 0->
 ∃ax rC ay ap aq ao rT a0 a1 a2,RowAt H7 (ad b) 0 (DR ax rC ay ap aq ao rT a0 a1 a2)/\
 R (.agg (DR ax rC ay ap aq ao rT a0 a1 a2).toArray) H7
namespace moraineref03_List
theorem link{lB:Option Addr}{lN lC:Nat}{H:Array Obj}{R:Value->Array Obj->Prop}(h:pt lB lN lC H R):C lB lN lC H R:=by
 refine T_en K0 21 Tryz.func12 ?_
 intro w0 Q hQ
 unfold pt at h
 refine T_su [(0,vs lB lN lC)]<| T_srz 0<| T_nw (some 2) (λb=>vp (pa b)) (.cells (DR 0 0 false none 0 0 (ByteArray.mk #[]) none 0 0).toArray 51) ?_
 intro b H1 e1 e2
 replace h:=h b H1 e1 e2
 refine T_pd [] [(2,vp (pa b))]<| T_e<| T_srz 1<| T_nd 1 [] [(5,.agg (DR 0 0 false none 0 0 (ByteArray.mk #[]) none 0 0).toArray)]<| T_nw (some 3) (λb=>vp (pa b)) (.cells (DR 0 0 false none 0 0 (ByteArray.mk #[]) none 0 0).toArray 51) ?_
 intro d H2 e3 e4
 replace h:=h d H2 e3 e4
 refine T_pd [] [(3,vp (pa d))] ?_
 obtain⟨q6,h⟩:=h
 refine T_sta 51 (DR 0 0 false none 0 0 (ByteArray.mk #[]) none 0 0) q6 ?_
 intro H3 e5
 replace h:=h H3 e5
 refine T_pd [5] []<| T_e<| T_sz<| T_srz 2<| T_ed 4 [] [(4,vi (IntKind.wrap .i64 ((lN:Int)-1)))]<| T_bz 0 ?_
 obtain⟨az,m11,i7,i8⟩:=h
 refine S_loop (x:=K10) (σ:=Int) (λs_=> [(0,vs lB lN lC),(2,vp (pa b)),(3,vp (pa d)),(4,vi s_)]) (λs_ H=>az s_ H) (λs_ H=>m11 s_ H) ((IntKind.wrap .i64 ((lN:Int)-1)):Int) (by kernel_rfl) i7 sk ?_
 rintro i H4 i9
 have h:=i8 i H4 i9
 refine T_su [(0,vs lB lN lC),(2,vp (pa b)),(3,vp (pa d)),(4,vi i)]<| T_sz<| T_srz 3<| T_ed 2 [] [(10,.bool (decide (i>=0)))] ?_
 by_cases c10:i>=0
 ·rw[if_pos c10]at h
  refine T_cTz 10 (decide_eq_true c10)<| T_kt<| T_sz<| T_bz 1 ?_
  obtain⟨e,rfl,h⟩:=h
  obtain⟨q12,h⟩:=h
  obtain⟨ab,xC,af,z,v,y,xT,av,au,aw,q13,h⟩:=h
  obtain⟨s,an,u,o,p,m,am,ai,ah,ag,q14,h⟩:=h
  refine S_regionG 5 (Code.ops K19) [(5,(e.add (Int.toNat i*6)),(DR ab xC af z v y xT av au aw)),(5,(ad d),(DR s an u o p m am ai ah ag))] 8 (bv 8 0) (by kernel_rfl) (by kernel_rfl) (by kernel_rfl) (by kernel_rfl) (by kernel_rfl) (show FactsAt _ _ _ from⟨q13,q14,trivial⟩) ?_
  refine T_gp 0 (some 13) (vs (some e) lN lC) (bv 8 1) [(0,vs (some e) lN lC),(2,vp (pa b)),(3,vp (pa d)),(4,vi i),(13,vs (some e) lN lC)]<| T_gp1 1 14 (vi i) (bv 8 3) []<| T_g1 2 15 (vp (some (e.add (Int.toNat i*6)))) (bv 8 7) [13,14] (indexAtN 49 (vs (some e) lN lC) (vi i)) (λ_ w _ _ _=>indexAt_run (P:=Tryz.prog) (t:=49) (elem:=51) (sz:=6) (a:=e) (len:=lN) (cap:=lC) (k:=.i64) (i:=i) Tryz.underlying49 (λ_=>by kernel_rfl) q12.1 q12.2 w)<| T_g1 3 16 (.agg (DR ab xC af z v y xT av au aw).toArray) (bv 8 15) [15] (loadN 51 (vp (some (e.add (Int.toNat i*6))))) (held_row 5 (λ_=>by kernel_rfl) (λ_=>by kernel_rfl) (List.Mem.head _) (.inl (by kernel_rfl)))<| T_g1 4 17 (.agg (DR s an u o p m am ai ah ag).toArray) (bv 8 31) [] (loadN 51 (vp (pa d))) (held_row 5 (λ_=>by kernel_rfl) (λ_=>by kernel_rfl) (List.Mem.tail _ (List.Mem.head _)) (.inl (by kernel_rfl))) ?_
  refine G_new 5 (some 18) (bv 8 63) (λb=>vs (pa b) 2 2) (.cells #[vi ab,.int .i32 xC,.bool af,vs z v y,.string xT,vs av au aw,vi s,.int .i32 an,.bool u,vs o p m,.string am,vs ai ah ag] 51) (by kernel_rfl) (λ_=>by kernel_rfl) (by kernel_rfl) ?_
  intro aj H5 e15 e16
  replace h:=h aj H5 e15 e16
  refine⟨[(0,vs (some e) lN lC),(2,vp (pa b)),(3,vp (pa d)),(4,vi i),(18,vs (pa aj) 2 2)],pk,(show FactsAt _ _ _ from⟨trivial,trivial,trivial⟩),?_⟩
  refine T_g 6 (some 19) (.agg (DR 7 0 false none 0 0 (ByteArray.mk #[]) (pa aj) 2 2).toArray) (bv 8 127) [(0,vs (some e) lN lC),(2,vp (pa b)),(3,vp (pa d)),(4,vi i),(19,.agg (DR 7 0 false none 0 0 (ByteArray.mk #[]) (pa aj) 2 2).toArray)] (pure (.value (.agg (DR 7 0 false none 0 0 (ByteArray.mk #[]) (pa aj) 2 2).toArray)):Sem Next) (λ_ _ _ _ _=>rfl) ?_
  obtain⟨q18,h⟩:=h
  refine G_onlyskip 7 none (bv 8 255) (storeN 51 (vp (pa d)) (.agg (DR 7 0 false none 0 0 (ByteArray.mk #[]) (pa aj) 2 2).toArray)) (λHz=>Hz=hputs H5 (ad d) (DR 7 0 false none 0 0 (ByteArray.mk #[]) (pa aj) 2 2) 0) (by kernel_rfl) (λ_=>by kernel_rfl) (ss_store (DR 7 0 false none 0 0 (ByteArray.mk #[]) (pa aj) 2 2) 6 (by kernel_rfl) (by kernel_rfl) (λ_=>by kernel_rfl) (by kernel_rfl) q18) (by kernel_rfl) ?_
  intro H6 e17
  replace h:=h H6 e17
  refine⟨[(0,vs (some e) lN lC),(2,vp (pa b)),(3,vp (pa d)),(4,vi i)],pk,(show FactsAt _ _ _ from⟨trivial,trivial,trivial⟩),?_⟩
  refine G_sub [(0,vs (some e) lN lC),(2,vp (pa b)),(3,vp (pa d)),(4,vi i)] sk ?_
  refine G_end (by kernel_rfl) ?_
  refine S_blockEnd ?_
  refine S_then ?_
  refine T_rz 4<| T_ne 3 [(0,vs (some e) lN lC),(2,vp (pa b)),(3,vp (pa d)),(4,vi (IntKind.wrap .i64 (i-1)))] ?_
  exact S_round ((IntKind.wrap .i64 (i-1)):Int) sk h
 rw[if_neg c10]at h
 refine T_cFz 10 (decide_eq_false c10) ?_
 refine S_exit 0 (by kernel_rfl) ?_
 refine S_exitThen ?_
 refine S_exitThen ?_
 refine S_exitHere ?_
 refine S_then ?_
 refine T_srz 6<| T_ud [0,4,10] [] ?_
 obtain⟨q,ak,r,f,j,g,al,aa,ac,ae,q19,h⟩:=h
 refine T_lr 20 51 q19 [3] ?_
 obtain⟨q21,h⟩:=h
 refine T_sta 51 (DR q ak r f j g al aa ac ae) q21 ?_
 intro H7 e20
 replace h:=h H7 e20
 refine T_pd [20] []<| T_e ?_
 refine S_ret (by kernel_rfl) ?_
 show At _ _ _ _ _ (Q .ret)
 obtain⟨ax,rC,ay,ap,aq,ao,rT,a0,a1,a2,q22,h⟩:=h
 exact S_done (fn:=Tryz.f12) [.agg (DR ax rC ay ap aq ao rT a0 a1 a2).toArray] hQ (show ResOK _ _ _ [.cell 2 51] _ from .cell (by kernel_rfl) (loadOK_row (λ_=>by kernel_rfl) (λ_=>by kernel_rfl) q22) (.nil)) h
end moraineref03_List

/-! moraine/moraineref03.plain -/
namespace moraineref03_plain
def K0:=Func.code Tryz.f25
def K2:=cb K0
def K3:=ca K2
def K6:=cb K3
def K7:=ca K6
def K9:=cb K7
def K15:=cb K9
def K19:=cb K15
def K21:=cb K19
def K25:=cb K21
def K27:=cb K25
def K31:=cb K27
def K37:=cb K31
def K43:=cb K37
def K48:=ca K43
def K51:=cb K48
def K58:=ca K51
def K61:=cb K58
def K62:=ca K61
def K63:=ca K62
end moraineref03_plain
def moraineref03_plain.pt(bp dC:Int)(bq:Bool)(az:Option Addr)(a0 ay:Nat)(dT:ByteArray)(cw:Option Addr)(cv cu:Nat)(H:Array Obj)(R:Value->Array Obj->Prop):Prop:=
 ∀(b:Nat) (H1:Array Obj),b=H.size->H1=H.push (.cells (DR bp dC bq az a0 ay dT cw cv cu).toArray 51)->
 ∃x:Int,hat H1 (ad b)=some (.int .i64 x)/\
 ∃J:Bool->Array Obj->Prop,(
 if x=0 then(
 J true H1)
 else
 if x=1 then(
 J true H1)
 else
 if x=2 then(
 J true H1)
 else
 if x=9 then(
 J true H1)
 else
 J (x==10) H1)/\ ∀(s8:Bool) (H2:Array Obj),J s8 H2->
 if s8=true then(
 ∃ba xC bk ax av aw xT cr cq co,RowAt H2 (ad b) 0 (DR ba xC bk ax av aw xT cr cq co)/\
 moraineref03_bare.C ba xC bk ax av aw xT cr cq co 0 H2 (λv H3=> ∃cp:Bool,v=.bool cp/\
 R (.bool cp) H3))
 else
 if x=3 then(
 ∃an b5 ap u y ae bw bb bf a5,RowAt H2 (ad b) 0 (DR an b5 ap u y ae bw bb bf a5)/\
 moraineref03_bare.C an b5 ap u y ae bw bb bf a5 1 H2 (λc9 H4=> ∃cc:Bool,c9=.bool cc/\
 if cc=true then(
 ∃cl:Int,hat H4 ((ad b).add 1)=some (.int .i32 cl)/\
 moraineref03_Char.C cl H4 (λdc H5=> ∃ct:Bool,dc=.bool ct/\
 R (.bool ct) H5))
 else
 R (.bool false) H4))
 else
 if x=4 then(
 ∃aj bz ao ac af r b0 a9 bo bg,RowAt H2 (ad b) 0 (DR aj bz ao ac af r b0 a9 bo bg)/\
 moraineref03_bare.C aj bz ao ac af r b0 a9 bo bg 2 H2 (λde H6=> ∃cd:Bool,de=.bool cd/\
 if cd=true then(
 ∃(b3:Bool) (bd:Option Addr) (bi bl:Nat),RowAt H6 ((ad b).add 2) 0 [.bool b3,.slice bd bi bl]/\
 moraineref02_May.C b3 bd bi bl H6 (λdb H7=> ∃cn:Bool,db=.bool cn/\
 R (.bool cn) H7))
 else
 R (.bool false) H6))
 else
 ∃c4:Bool->Array Obj->Prop,(
 if x=5 then(
 c4 true H2)
 else
 c4 (x==6) H2)/\ ∀(ch:Bool) (H8:Array Obj),c4 ch H8->
 if ch=true then(
 ∃cs:ByteArray,hat H8 ((ad b).add 4)=some (.string cs)/\
 moraineref03_Runes.C cs H8 (λc8 H9=> ∃(e:Option Addr) (d f:Nat) (rb:Bool),c8=.tuple #[.slice e d f,.bool rb]/\
 ∃am b7 ak m ab o b6 a7 bc bj,RowAt H9 (ad b) 0 (DR am b7 ak m ab o b6 a7 bc bj)/\
 moraineref03_bare.C am b7 ak m ab o b6 a7 bc bj 4 H9 (λda cm=> ∃ce:Bool,da=.bool ce/\
 if ce=true then(
 if rb=true then(
 if(d:Int)<=62 then(
 ∃g:Int,hat cm (ad b)=some (.int .i64 g)/\
 R (.bool ((g==5) || (decide ((d:Int)>0)))) cm)
 else
 R (.bool false) cm)
 else
 R (.bool false) cm)
 else
 R (.bool false) cm)))
 else
 ∃c2:Bool->Array Obj->Prop,(
 if x=7 then(
 c2 true H8)
 else
 c2 (x==8) H8)/\ ∀(cf:Bool) (H11:Array Obj),c2 cf H11->
 if cf=true then(
 ∃ck:Bool->Array Obj->Prop,(
 ∃ah bx ag z j aa b4 bn bh be,RowAt H11 (ad b) 0 (DR ah bx ag z j aa b4 bn bh be)/\
 moraineref03_bare.C ah bx ag z j aa b4 bn bh be 8 H11 (λc6 bu=> ∃aq:Bool,c6=.bool aq/\
 if aq=true then(
 ∃a2:Int,hat bu (ad b)=some (.int .i64 a2)/\
 if a2=7 then(
 ∃(c0:Option Addr) (a1 cz:Nat),hat bu ((ad b).add 5)=some (.slice c0 a1 cz)/\
 if(a1:Int)=2 then(
 ∃(c1:Option Addr) (bt ci:Nat),hat bu ((ad b).add 5)=some (.slice c1 bt ci)/\
 ck (decide ((bt:Int)>62)) bu)
 else
 ck true bu)
 else
 ∃(cy:Option Addr) (bs cj:Nat),hat bu ((ad b).add 5)=some (.slice cy bs cj)/\
 ck (decide ((bs:Int)>62)) bu)
 else
 ck true bu))/\ ∀(cg:Bool) (H12:Array Obj),ck cg H12->
 if cg=true then(
 R (.bool false) H12)
 else
 ∃(c3:Int->Array Obj->Prop) (m64:Int->Array Obj->Nat),c3 0 H12/\ ∀(i:Int) (H13:Array Obj),c3 i H13->
 ∃(xB:Option Addr) (xN cx:Nat),hat H13 ((ad b).add 5)=some (.slice xB xN cx)/\
 if i< (xN:Int)then(
 ∃(b1:Option Addr) (a3 br:Nat),hat H13 ((ad b).add 5)=some (.slice b1 a3 br)/\
 ∃a4:Addr,b1=some a4/\
 ((0:Int)<=i/\i< (a3:Int))/\
 ∃al b2 ai s p q b9 bm a8 a6,RowAt H13 (a4.add (Int.toNat i*6)) 0 (DR al b2 ai s p q b9 bm a8 a6)/\
 moraineref03_plain.C al b2 ai s p q b9 bm a8 a6 H13 (λdd c5=> ∃au:Bool,dd=.bool au/\
 if au=true then(
 (c3 (IntKind.wrap .i64 (i+1)) c5/\m64 (IntKind.wrap .i64 (i+1)) c5<m64 i H13))
 else
 R (.bool false) c5))
 else
 R (.bool true) H13)
 else
 R (.bool false) H11
namespace moraineref03_plain
theorem link{bp dC:Int}{bq:Bool}{az:Option Addr}{a0 ay:Nat}{dT:ByteArray}{cw:Option Addr}{cv cu:Nat}{H:Array Obj}{R:Value->Array Obj->Prop}(h:pt bp dC bq az a0 ay dT cw cv cu H R):C bp dC bq az a0 ay dT cw cv cu H R:=by
 refine T_en K0 100 Tryz.func25 ?_
 intro w0 Q hQ
 unfold pt at h
 refine T_su [(0,.agg (DR bp dC bq az a0 ay dT cw cv cu).toArray)]<| T_srz 0<| T_nw (some 1) (λb=>vp (pa b)) (.cells (DR bp dC bq az a0 ay dT cw cv cu).toArray 51) ?_
 intro b H1 e1 e2
 replace h:=h b H1 e1 e2
 refine⟨[(1,vp (pa b))],pk,?_⟩
 refine T_ed 1 [] []<| T_sz<| T_srz 1<| T_nd 1 [] [(6,vp (pa b))] ?_
 obtain⟨x,q3,h⟩:=h
 refine T_l1 7 3 q3 [6]<| T_e<| T_bz 0<| T_sz<| T_srz 2<| T_ne 2 [(1,vp (pa b)),(7,vi x),(8,.bool (x==0))] ?_
 obtain⟨J,h,j5⟩:=h
 refine S_join (σ:=Bool) (λs_=> [(1,vp (pa b)),(7,vi x),(8,.bool s_)]) (λs_ H=>J s_ H) ?_ ?_
 ·rintro s8 H2 j6
  replace h:=j5 s8 H2 j6
  refine T_su [(1,vp (pa b)),(7,vi x),(8,.bool s8)] ?_
  refine S_then ?_
  by_cases c7:s8=true
  ·rw[if_pos c7]at h
   have b8:s8=true:=c7
   refine S_env [(1,vp (pa b)),(7,vi x),(8,.bool true)] (by rw[b8]) ?_
   clear b8
   refine T_tz 8<| T_srz 7<| T_ud [7,8] [] ?_
   obtain⟨ba,xC,bk,ax,av,aw,xT,cr,cq,co,q9,h⟩:=h
   refine T_lr 14 51 q9 [1] ?_
   refine T_c (some 15) h ?_;clear h
   rintro v H3 ⟨cp,rfl,h⟩
   refine⟨[(15,.bool cp)],pk,?_⟩
   exact T_nr 1 [2] [.bool cp] hQ h
  rw[if_neg c7]at h
  have b8:s8=false:=eq_false_of_ne_true c7
  refine S_env [(1,vp (pa b)),(7,vi x),(8,.bool false)] (by rw[b8]) ?_
  clear b8
  refine T_fz 8<| T_srz 8<| T_ed 2 [8] [(16,.bool (x==3))] ?_
  by_cases c10:x=3
  ·rw[if_pos c10]at h
   refine T_cTz 16 (beq_iff_eq.mpr c10)<| T_srz 9<| T_ud [7,16] [] ?_
   obtain⟨an,b5,ap,u,y,ae,bw,bb,bf,a5,q12,h⟩:=h
   refine T_lr 18 51 q12 [] ?_
   refine T_c (some 19) h ?_;clear h
   rintro c9 H4 ⟨cc,rfl,h⟩
   refine T_pd [18] [(19,.bool cc)]<| T_nd 1 [19] [(20,.bool cc)] ?_
   by_cases c13:cc=true
   ·rw[if_pos c13]at h
    refine N_bd 20 c13<| T_nd 1 [1] [(21,vp (some ((ad b).add 1)))] ?_
    obtain⟨cl,q15,h⟩:=h
    refine T_l1 22 21 q15 [21] ?_
    refine T_c (some 23) h ?_;clear h
    rintro dc H5 ⟨ct,rfl,h⟩
    exact T_pd [22] [(23,.bool ct)]<| T_nr 2 [2] [.bool ct] hQ h
   rw[if_neg c13]at h
   exact N_bd 20 (eq_false_of_ne_true c13)<| T_nr 5 [2] [.bool false] hQ h
  rw[if_neg c10]at h
  refine T_cFz 16 (beq_eq_false_iff_ne.mpr c10)<| T_srz 10<| T_ed 2 [16] [(25,.bool (x==4))] ?_
  by_cases c16:x=4
  ·rw[if_pos c16]at h
   refine T_cTz 25 (beq_iff_eq.mpr c16)<| T_srz 11<| T_ud [7,25] [] ?_
   obtain⟨aj,bz,ao,ac,af,r,b0,a9,bo,bg,q18,h⟩:=h
   refine T_lr 27 51 q18 [] ?_
   refine T_c (some 28) h ?_;clear h
   rintro de H6 ⟨cd,rfl,h⟩
   refine T_pd [27] [(28,.bool cd)]<| T_nd 1 [28] [(29,.bool cd)] ?_
   by_cases c19:cd=true
   ·rw[if_pos c19]at h
    refine N_bd 29 c19<| T_nd 1 [1] [(30,vp (some ((ad b).add 2)))] ?_
    obtain⟨b3,bd,bi,bl,q21,h⟩:=h
    refine T_lr 31 48 q21 [30] ?_
    refine T_c (some 32) h ?_;clear h
    rintro db H7 ⟨cn,rfl,h⟩
    exact T_pd [31] [(32,.bool cn)]<| T_nr 2 [2] [.bool cn] hQ h
   rw[if_neg c19]at h
   exact N_bd 29 (eq_false_of_ne_true c19)<| T_nr 5 [2] [.bool false] hQ h
  rw[if_neg c16]at h
  refine T_cFz 25 (beq_eq_false_iff_ne.mpr c16)<| T_sz<| T_srz 12<| T_ne 2 [(1,vp (pa b)),(7,vi x),(34,.bool (x==5))] ?_
  obtain⟨c4,h,j23⟩:=h
  refine S_join (σ:=Bool) (λs_=> [(1,vp (pa b)),(7,vi x),(34,.bool s_)]) (λs_ H=>c4 s_ H) ?_ ?_
  ·rintro ch H8 j24
   replace h:=j23 ch H8 j24
   refine T_su [(1,vp (pa b)),(7,vi x),(34,.bool ch)] ?_
   refine S_then ?_
   by_cases c25:ch=true
   ·rw[if_pos c25]at h
    have b26:ch=true:=c25
    refine S_env [(1,vp (pa b)),(7,vi x),(34,.bool true)] (by rw[b26]) ?_
    clear b26
    refine T_tz 34<| T_srz 14<| T_nd 1 [7,34] [(38,vp (some ((ad b).add 4)))] ?_
    obtain⟨cs,q27,h⟩:=h
    refine T_l1 39 9 q27 [38] ?_
    refine T_c (some 40) h ?_;clear h
    rintro c8 H9 ⟨e,d,f,rb,rfl,h⟩
    refine T_pd [39] [(40,.tuple #[vs e d f,.bool rb])]<| T_ed 5 [40] [(3,vs e d f),(4,.bool rb)]<| T_srz 15 ?_
    obtain⟨am,b7,ak,m,ab,o,b6,a7,bc,bj,q28,h⟩:=h
    refine T_lr 43 51 q28 [] ?_
    refine T_c (some 44) h ?_;clear h
    rintro da cm ⟨ce,rfl,h⟩
    refine T_pd [43] [(44,.bool ce)]<| T_nd 1 [44] [(45,.bool ce)] ?_
    by_cases c29:ce=true
    ·rw[if_pos c29]at h
     refine N_bd 45 c29<| T_nd 3 [4,45] [(48,.bool rb)] ?_
     by_cases c31:rb=true
     ·rw[if_pos c31]at h
      refine N_bd 48 c31<| T_nd 5 [48] [(53,.bool (decide ((d:Int)<=62)))] ?_
      by_cases c33:(d:Int)<=62
      ·rw[if_pos c33]at h
       refine N_bd 53 (decide_eq_true c33)<| T_nd 1 [1] [(54,vp (pa b))] ?_
       obtain⟨g,q35,h⟩:=h
       refine T_l1 55 3 q35 [54]<| T_nd 2 [55] [(57,.bool (g==5))] ?_
       refine N_cut [(2,.bool ((g==5) || (decide ((d:Int)>0))))] ?_ ?_
       ·refine S_then ?_
        exact T_ret [2] [.bool ((g==5) || (decide ((d:Int)>0)))] hQ h
       intro hk
       refine T_nu [(3,vs e d f),(53,.bool true),(57,.bool (g==5))] ?_
       by_cases c36:g=5
       ·have b37:(g==5)=true:=beq_iff_eq.mpr c36
        refine N_env [(3,vs e d f),(53,.bool true),(57,.bool true)] (by rw[b37]) ?_
        refine T_n 6 [(2,.bool true)] ?_
        refine N_end (by kernel_rfl) ?_
        refine S_env [(2,.bool ((g==5) || (decide ((d:Int)>0))))] (by simp only[b37,BL]) ?_
        exact hk
       have b37:(g==5)=false:=beq_eq_false_iff_ne.mpr c36
       refine N_env [(3,vs e d f),(53,.bool true),(57,.bool false)] (by rw[b37]) ?_
       refine T_n 6 [(2,.bool (decide ((d:Int)>0)))] ?_
       refine N_end (by kernel_rfl) ?_
       refine S_env [(2,.bool ((g==5) || (decide ((d:Int)>0))))] (by simp only[b37,BL]) ?_
       exact hk
      rw[if_neg c33]at h
      exact N_bd 53 (decide_eq_false c33)<| T_nr 10 [2] [.bool false] hQ h
     rw[if_neg c31]at h
     exact N_bd 48 (eq_false_of_ne_true c31)<| T_nr 15 [2] [.bool false] hQ h
    rw[if_neg c29]at h
    exact N_bd 45 (eq_false_of_ne_true c29)<| T_nr 18 [2] [.bool false] hQ h
   rw[if_neg c25]at h
   have b26:ch=false:=eq_false_of_ne_true c25
   refine S_env [(1,vp (pa b)),(7,vi x),(34,.bool false)] (by rw[b26]) ?_
   clear b26
   refine T_fz 34<| T_sz<| T_srz 16<| T_ne 2 [(1,vp (pa b)),(7,vi x),(63,.bool (x==7))] ?_
   obtain⟨c2,h,j39⟩:=h
   refine S_join (σ:=Bool) (λs_=> [(1,vp (pa b)),(63,.bool s_)]) (λs_ H=>c2 s_ H) ?_ ?_
   ·rintro cf H11 j40
    replace h:=j39 cf H11 j40
    refine T_su [(1,vp (pa b)),(63,.bool cf)] ?_
    refine S_then ?_
    by_cases c41:cf=true
    ·rw[if_pos c41]at h
     have b42:cf=true:=c41
     refine S_env [(1,vp (pa b)),(63,.bool true)] (by rw[b42]) ?_
     clear b42
     refine T_tz 63<| T_sz<| T_sz ?_
     obtain⟨ck,h,j44⟩:=h
     refine S_join (σ:=Bool) (λs_=> [(1,vp (pa b)),(85,.bool s_)]) (λs_ H=>ck s_ H) ?_ ?_
     ·rintro cg H12 j45
      replace h:=j44 cg H12 j45
      refine T_su [(1,vp (pa b)),(85,.bool cg)] ?_
      refine S_then ?_
      by_cases c46:cg=true
      ·rw[if_pos c46]at h
       have b47:cg=true:=c46
       refine S_env [(1,vp (pa b)),(85,.bool true)] (by rw[b47]) ?_
       clear b47
       exact T_tz 85<| T_srz 19<| T_nr 1 [2] [.bool false] hQ h
      rw[if_neg c46]at h
      have b47:cg=false:=eq_false_of_ne_true c46
      refine S_env [(1,vp (pa b)),(85,.bool false)] (by rw[b47]) ?_
      clear b47
      refine T_fz 85<| T_kt<| T_sz<| T_srz 20<| T_ed 1 [85] [(5,vi 0)]<| T_bz 1 ?_
      obtain⟨c3,m64,i48,i49⟩:=h
      refine S_loop (x:=K63) (σ:=Int) (λs_=> [(1,vp (pa b)),(5,vi s_)]) (λs_ H=>c3 s_ H) (λs_ H=>m64 s_ H) (0:Int) (by kernel_rfl) i48 sk ?_
      rintro i H13 i50
      have h:=i49 i H13 i50
      refine T_su [(1,vp (pa b)),(5,vi i)]<| T_sz<| T_srz 21<| T_nd 2 [] [(86,vi i),(87,vp (some ((ad b).add 5)))] ?_
      obtain⟨xB,xN,cx,q51,h⟩:=h
      refine T_l1 88 49 q51 [87]<| T_ed 2 [86,88] [(90,.bool (decide (i< (xN:Int))))] ?_
      by_cases c52:i< (xN:Int)
      ·rw[if_pos c52]at h
       refine T_cTz 90 (decide_eq_true c52)<| T_kt<| T_sz<| T_bz 2<| T_srz 23<| T_nd 1 [90] [(93,vp (some ((ad b).add 5)))] ?_
       obtain⟨b1,a3,br,q54,h⟩:=h
       refine T_l1 94 49 q54 [93]<| T_nd 1 [] [(95,vi i)] ?_
       obtain⟨a4,rfl,h⟩:=h
       obtain⟨q55,h⟩:=h
       refine T_xd (some 96) 49 51 6 a4 a3 br .i64 i Tryz.underlying49 q55.1 q55.2 [94,95] [(96,vp (some (a4.add (Int.toNat i*6))))] ?_
       obtain⟨al,b2,ai,s,p,q,b9,bm,a8,a6,q56,h⟩:=h
       refine T_lr 97 51 q56 [96] ?_
       refine T_c (some 98) h ?_;clear h
       rintro dd c5 ⟨au,rfl,h⟩
       refine T_pd [97] [(98,.bool au)]<| T_ed 1 [98] [(99,.bool (!au))] ?_
       by_cases c57:au=true
       ·rw[if_pos c57]at h
        refine T_cFz 99 (congrArg Bool.not (c57))<| T_k ?_
        refine S_blockEnd ?_
        refine S_then ?_
        refine T_rz 22<| T_ed 3 [5,99] [(5,vi (IntKind.wrap .i64 (i+1)))] ?_
        exact S_round ((IntKind.wrap .i64 (i+1)):Int) sk h
       rw[if_neg c57]at h
       exact T_cTz 99 (congrArg Bool.not (eq_false_of_ne_true c57))<| T_srz 24<| T_nr 1 [2] [.bool false] hQ h
      rw[if_neg c52]at h
      refine T_cFz 90 (decide_eq_false c52) ?_
      refine S_exit 1 (by kernel_rfl) ?_
      refine S_exitThen ?_
      refine S_exitThen ?_
      refine S_exitHere ?_
      refine S_then ?_
      exact T_srz 25<| T_nr 1 [2] [.bool true] hQ h
     refine T_rz 18<| T_nu [(1,vp (pa b))] ?_
     obtain⟨ah,bx,ag,z,j,aa,b4,bn,bh,be,q59,h⟩:=h
     refine T_lr 66 51 q59 [] ?_
     refine T_c (some 67) h ?_;clear h
     rintro c6 bu ⟨aq,rfl,h⟩
     refine T_pd [66] [(67,.bool aq)]<| T_nd 2 [67] [(69,.bool (!aq))] ?_
     by_cases c60:aq=true
     ·rw[if_pos c60]at h
      have b61:(!aq)=false:=congrArg Bool.not (c60)
      have b612:aq=true:=c60
      refine N_bd 69 (b:=(!aq)) (v:=false) (by simp only[b61,b612,Bool.not_true,Bool.not_false]) ?_
      clear b61 b612
      refine T_nd 1 [] [(70,vp (pa b))] ?_
      obtain⟨a2,q62,h⟩:=h
      refine T_l1 71 3 q62 [70]<| T_nd 2 [71] [(73,.bool (a2==7))] ?_
      by_cases c63:a2=7
      ·rw[if_pos c63]at h
       refine N_bd 73 (beq_iff_eq.mpr c63)<| T_nd 1 [] [(74,vp (some ((ad b).add 5)))] ?_
       obtain⟨c0,a1,cz,q65,h⟩:=h
       refine T_l1 75 49 q65 [74]<| T_nd 5 [69,73,75] [(80,.bool ((a1:Int) !=2))] ?_
       by_cases c66:(a1:Int)=2
       ·rw[if_pos c66]at h
        refine N_bd 80 (bne_eq_false_iff_eq.mpr c66)<| T_nd 1 [] [(81,vp (some ((ad b).add 5)))] ?_
        obtain⟨c1,bt,ci,q68,h⟩:=h
        refine T_l1 82 49 q68 [81]<| T_ed 3 [80,82] [(85,.bool (decide ((bt:Int)>62)))] ?_
        exact S_meet ((decide ((bt:Int)>62)):Bool) sk h
       rw[if_neg c66]at h
       refine N_bd 80 (bne_iff_ne.mpr c66)<| T_ed 5 [80] [(85,.bool true)] ?_
       exact S_meet (true:Bool) sk h
      rw[if_neg c63]at h
      refine N_bd 73 (beq_eq_false_iff_ne.mpr c63)<| T_nd 8 [69,73] [(80,.bool false),(81,vp (some ((ad b).add 5)))] ?_
      obtain⟨cy,bs,cj,q69,h⟩:=h
      refine T_l1 82 49 q69 [81]<| T_ed 3 [80,82] [(85,.bool (decide ((bs:Int)>62)))] ?_
      exact S_meet ((decide ((bs:Int)>62)):Bool) sk h
     rw[if_neg c60]at h
     have b61:(!aq)=true:=congrArg Bool.not (eq_false_of_ne_true c60)
     have b612:aq=false:=eq_false_of_ne_true c60
     refine N_bd 69 (b:=(!aq)) (v:=true) (by simp only[b61,b612,Bool.not_true,Bool.not_false]) ?_
     clear b61 b612
     refine T_ed 16 [69] [(85,.bool true)] ?_
     exact S_meet (true:Bool) sk h
    rw[if_neg c41]at h
    have b42:cf=false:=eq_false_of_ne_true c41
    refine S_env [(1,vp (pa b)),(63,.bool false)] (by rw[b42]) ?_
    clear b42
    refine T_fz 63<| T_k ?_
    refine S_blockEnd ?_
    refine S_then ?_
    exact T_srz 26<| T_nr 1 [2] [.bool false] hQ h
   by_cases c70:x=7
   ·rw[if_pos c70]at h
    have b71:(x==7)=true:=beq_iff_eq.mpr c70
    refine S_env [(1,vp (pa b)),(7,vi x),(63,.bool true)] (by simp only[b71,Bool.not_true,Bool.not_false]) ?_
    clear b71
    refine T_tz 63<| T_kt ?_
    exact S_meet (true:Bool) sk h
   rw[if_neg c70]at h
   have b71:(x==7)=false:=beq_eq_false_iff_ne.mpr c70
   refine S_env [(1,vp (pa b)),(7,vi x),(63,.bool false)] (by simp only[b71,Bool.not_true,Bool.not_false]) ?_
   clear b71
   refine T_fz 63<| T_rz 17<| T_ed 2 [7,63] [(63,.bool (x==8))] ?_
   exact S_meet ((x==8):Bool) sk h
  by_cases c72:x=5
  ·rw[if_pos c72]at h
   have b73:(x==5)=true:=beq_iff_eq.mpr c72
   refine S_env [(1,vp (pa b)),(7,vi x),(34,.bool true)] (by simp only[b73,Bool.not_true,Bool.not_false]) ?_
   clear b73
   refine T_tz 34<| T_kt ?_
   exact S_meet (true:Bool) sk h
  rw[if_neg c72]at h
  have b73:(x==5)=false:=beq_eq_false_iff_ne.mpr c72
  refine S_env [(1,vp (pa b)),(7,vi x),(34,.bool false)] (by simp only[b73,Bool.not_true,Bool.not_false]) ?_
  clear b73
  refine T_fz 34<| T_rz 13<| T_ed 2 [34] [(34,.bool (x==6))] ?_
  exact S_meet ((x==6):Bool) sk h
 by_cases c74:x=0
 ·rw[if_pos c74]at h
  have b75:(x==0)=true:=beq_iff_eq.mpr c74
  refine S_env [(1,vp (pa b)),(7,vi x),(8,.bool true)] (by simp only[b75,Bool.not_true,Bool.not_false]) ?_
  clear b75
  refine T_tz 8<| T_kt ?_
  exact S_meet (true:Bool) sk h
 rw[if_neg c74]at h
 have b75:(x==0)=false:=beq_eq_false_iff_ne.mpr c74
 refine S_env [(1,vp (pa b)),(7,vi x),(8,.bool false)] (by simp only[b75,Bool.not_true,Bool.not_false]) ?_
 clear b75
 refine T_fz 8<| T_srz 3<| T_ed 2 [8] [(8,.bool (x==1))] ?_
 by_cases c76:x=1
 ·rw[if_pos c76]at h
  refine S_bd 8 (beq_iff_eq.mpr c76)<| T_tz 8<| T_kt ?_
  exact S_meet (true:Bool) sk h
 rw[if_neg c76]at h
 refine S_bd 8 (beq_eq_false_iff_ne.mpr c76)<| T_fz 8<| T_srz 4<| T_ed 2 [8] [(8,.bool (x==2))] ?_
 by_cases c78:x=2
 ·rw[if_pos c78]at h
  refine S_bd 8 (beq_iff_eq.mpr c78)<| T_tz 8<| T_kt ?_
  exact S_meet (true:Bool) sk h
 rw[if_neg c78]at h
 refine S_bd 8 (beq_eq_false_iff_ne.mpr c78)<| T_fz 8<| T_srz 5<| T_ed 2 [8] [(8,.bool (x==9))] ?_
 by_cases c80:x=9
 ·rw[if_pos c80]at h
  refine S_bd 8 (beq_iff_eq.mpr c80)<| T_tz 8<| T_kt ?_
  exact S_meet (true:Bool) sk h
 rw[if_neg c80]at h
 refine S_bd 8 (beq_eq_false_iff_ne.mpr c80)<| T_fz 8<| T_rz 6<| T_ed 2 [8] [(8,.bool (x==10))] ?_
 exact S_meet ((x==10):Bool) sk h
end moraineref03_plain

/-! moraine/moraineref03.Depth -/
namespace moraineref03_Depth
def K0:=Func.code Tryz.f26
def K2:=cb K0
def K4:=cb K2
def K5:=ca K4
def K8:=cb K5
def K9:=ca K8
def K10:=ca K9
end moraineref03_Depth
def moraineref03_Depth.pt(z dC:Int)(aa:Bool)(j:Option Addr)(m g:Nat)(dT:ByteArray)(aq:Option Addr)(ap ao:Nat)(H:Array Obj)(R:Value->Array Obj->Prop):Prop:=
 ∀(b:Nat) (H1:Array Obj),b=H.size->H1=H.push (.cells (DR z dC aa j m g dT aq ap ao).toArray 51)->
 ∃(ak:Int->Int->Array Obj->Prop) (m11:Int->Int->Array Obj->Nat),ak 0 0 H1/\ ∀(nv:Int) (i:Int) (H2:Array Obj),ak nv i H2->
 ∃(xB:Option Addr) (xN xC:Nat),hat H2 ((ad b).add 5)=some (.slice xB xN xC)/\
 if i< (xN:Int)then(
 ∃(aj:Option Addr) (q ac:Nat),hat H2 ((ad b).add 5)=some (.slice aj q ac)/\
 ∃s:Addr,aj=some s/\
 ((0:Int)<=i/\i< (q:Int))/\
 ∃u ai y f d e xT am al an,RowAt H2 (s.add (Int.toNat i*6)) 0 (DR u ai y f d e xT am al an)/\
 moraineref03_Depth.C u ai y f d e xT am al an H2 (λv H3=> ∃x:Int,v=.int .i64 x/\
 ∃ag:Int,hat H3 (ad b)=some (.int .i64 ag)/\
 if ag=7 then(
 ∃(au:Option Addr) (p av:Nat),hat H3 ((ad b).add 5)=some (.slice au p av)/\
 if i=(IntKind.wrap .i64 ((p:Int)-1))then(
 ∃(ah:Option Addr) (r ab:Nat),hat H3 ((ad b).add 5)=some (.slice ah r ab)/\
 ∃o:Addr,ah=some o/\
 ((0:Int)<=i/\i< (r:Int))/\
 ∃af:Int,hat H3 (o.add (Int.toNat i*6))=some (.int .i64 af)/\
 if af=7 then(
 (ak (if nv<x then x else nv) (IntKind.wrap .i64 (i+1)) H3/\m11 (if nv<x then x else nv) (IntKind.wrap .i64 (i+1)) H3<m11 nv i H2))
 else
 (ak (if nv< (IntKind.wrap .i64 (x+1))then(IntKind.wrap .i64 (x+1))else nv) (IntKind.wrap .i64 (i+1)) H3/\m11 (if nv< (IntKind.wrap .i64 (x+1))then(IntKind.wrap .i64 (x+1))else nv) (IntKind.wrap .i64 (i+1)) H3<m11 nv i H2))
 else
 (ak (if nv< (IntKind.wrap .i64 (x+1))then(IntKind.wrap .i64 (x+1))else nv) (IntKind.wrap .i64 (i+1)) H3/\m11 (if nv< (IntKind.wrap .i64 (x+1))then(IntKind.wrap .i64 (x+1))else nv) (IntKind.wrap .i64 (i+1)) H3<m11 nv i H2))
 else
 (ak (if nv< (IntKind.wrap .i64 (x+1))then(IntKind.wrap .i64 (x+1))else nv) (IntKind.wrap .i64 (i+1)) H3/\m11 (if nv< (IntKind.wrap .i64 (x+1))then(IntKind.wrap .i64 (x+1))else nv) (IntKind.wrap .i64 (i+1)) H3<m11 nv i H2)))
 else
 ∃ae:Int,hat H2 (ad b)=some (.int .i64 ae)/\
 if ae=8 then(
 R (.int .i64 (if nv<1 then 1 else nv)) H2)
 else
 R (.int .i64 nv) H2
namespace moraineref03_Depth
theorem link{z dC:Int}{aa:Bool}{j:Option Addr}{m g:Nat}{dT:ByteArray}{aq:Option Addr}{ap ao:Nat}{H:Array Obj}{R:Value->Array Obj->Prop}(h:pt z dC aa j m g dT aq ap ao H R):C z dC aa j m g dT aq ap ao H R:=by
 refine T_en K0 52 Tryz.func26 ?_
 intro w0 Q hQ
 unfold pt at h
 refine T_su [(0,.agg (DR z dC aa j m g dT aq ap ao).toArray)]<| T_srz 0<| T_nw (some 1) (λb=>vp (pa b)) (.cells (DR z dC aa j m g dT aq ap ao).toArray 51) ?_
 intro b H1 e1 e2
 replace h:=h b H1 e1 e2
 refine⟨[(1,vp (pa b))],pk,?_⟩
 refine T_ed 1 [] []<| T_srz 1<| T_ed 1 [] [(3,vi 0)]<| T_sz<| T_srz 2<| T_ed 1 [] [(4,vi 0)]<| T_bz 0 ?_
 obtain⟨ak,m11,i3,i4⟩:=h
 refine S_loop (x:=K10) (σ:=Int×Int) (λs_=> [(1,vp (pa b)),(3,vi s_.1),(4,vi s_.2)]) (λs_ H=>ak s_.1 s_.2 H) (λs_ H=>m11 s_.1 s_.2 H) ((0,0):Int×Int) (by kernel_rfl) i3 sk ?_
 rintro⟨nv,i⟩ H2 i5
 have h:=i4 nv i H2 i5
 refine T_su [(1,vp (pa b)),(3,vi nv),(4,vi i)]<| T_sz<| T_srz 3<| T_nd 2 [] [(6,vi i),(7,vp (some ((ad b).add 5)))] ?_
 obtain⟨xB,xN,xC,q6,h⟩:=h
 refine T_l1 8 49 q6 [7]<| T_ed 2 [6,8] [(10,.bool (decide (i< (xN:Int))))] ?_
 by_cases c7:i< (xN:Int)
 ·rw[if_pos c7]at h
  refine T_cTz 10 (decide_eq_true c7)<| T_kt<| T_sz<| T_bz 1<| T_srz 5<| T_nd 1 [10] [(13,vp (some ((ad b).add 5)))] ?_
  obtain⟨aj,q,ac,q9,h⟩:=h
  refine T_l1 14 49 q9 [13]<| T_nd 1 [] [(15,vi i)] ?_
  obtain⟨s,rfl,h⟩:=h
  obtain⟨q10,h⟩:=h
  refine T_xd (some 16) 49 51 6 s q ac .i64 i Tryz.underlying49 q10.1 q10.2 [14,15] [(16,vp (some (s.add (Int.toNat i*6))))] ?_
  obtain⟨u,ai,y,f,d,e,xT,am,al,an,q11,h⟩:=h
  refine T_lr 17 51 q11 [16] ?_
  refine T_c (some 18) h ?_;clear h
  rintro v H3 ⟨x,rfl,h⟩
  refine T_pd [17] [(18,vi x)]<| T_ed 1 [18] [(5,vi x)]<| T_srz 6<| T_nd 1 [] [(19,vp (pa b))] ?_
  obtain⟨ag,q12,h⟩:=h
  refine T_l1 20 3 q12 [19]<| T_nd 2 [20] [(22,.bool (ag==7))] ?_
  by_cases c13:ag=7
  ·rw[if_pos c13]at h
   refine N_bd 22 (beq_iff_eq.mpr c13)<| T_nd 2 [] [(23,vi i),(24,vp (some ((ad b).add 5)))] ?_
   obtain⟨au,p,av,q15,h⟩:=h
   refine T_l1 25 49 q15 [24]<| T_nd 5 [22,23,25] [(30,.bool (i==(IntKind.wrap .i64 ((p:Int)-1))))] ?_
   by_cases c16:i=(IntKind.wrap .i64 ((p:Int)-1))
   ·rw[if_pos c16]at h
    refine N_bd 30 (beq_iff_eq.mpr c16)<| T_nd 1 [] [(31,vp (some ((ad b).add 5)))] ?_
    obtain⟨ah,r,ab,q18,h⟩:=h
    refine T_l1 32 49 q18 [31]<| T_nd 1 [] [(33,vi i)] ?_
    obtain⟨o,rfl,h⟩:=h
    obtain⟨q19,h⟩:=h
    refine T_xd (some 34) 49 51 6 o r ab .i64 i Tryz.underlying49 q19.1 q19.2 [32,33] [(34,vp (some (o.add (Int.toNat i*6))))]<| T_nd 1 [34] [(35,vp (some (o.add (Int.toNat i*6))))] ?_
    obtain⟨af,q20,h⟩:=h
    refine T_l1 36 3 q20 [35]<| T_ed 2 [30,36] [(38,.bool (af==7))] ?_
    by_cases c21:af=7
    ·rw[if_pos c21]at h
     refine T_cTz 38 (beq_iff_eq.mpr c21)<| T_rz 7<| T_nd 4 [3,5,38] [(3,vi (if nv<x then x else nv))] ?_
     refine N_end (by kernel_rfl) ?_
     refine S_blockEnd ?_
     refine S_then ?_
     refine T_rz 4<| T_ed 3 [4] [(4,vi (IntKind.wrap .i64 (i+1)))] ?_
     exact S_round (((if nv<x then x else nv),(IntKind.wrap .i64 (i+1))):Int×Int) sk h
    rw[if_neg c21]at h
    refine T_cFz 38 (beq_eq_false_iff_ne.mpr c21)<| T_rz 8<| T_nd 5 [3,5,38] [(3,vi (if nv< (IntKind.wrap .i64 (x+1))then(IntKind.wrap .i64 (x+1))else nv))] ?_
    refine N_end (by kernel_rfl) ?_
    refine S_blockEnd ?_
    refine S_then ?_
    refine T_rz 4<| T_ed 3 [4] [(4,vi (IntKind.wrap .i64 (i+1)))] ?_
    exact S_round (((if nv< (IntKind.wrap .i64 (x+1))then(IntKind.wrap .i64 (x+1))else nv),(IntKind.wrap .i64 (i+1))):Int×Int) sk h
   rw[if_neg c16]at h
   refine N_bd 30 (beq_eq_false_iff_ne.mpr c16)<| T_ed 8 [30] [(38,.bool false)]<| T_fz 38<| T_rz 8<| T_nd 5 [3,5,38] [(3,vi (if nv< (IntKind.wrap .i64 (x+1))then(IntKind.wrap .i64 (x+1))else nv))] ?_
   refine N_end (by kernel_rfl) ?_
   refine S_blockEnd ?_
   refine S_then ?_
   refine T_rz 4<| T_ed 3 [4] [(4,vi (IntKind.wrap .i64 (i+1)))] ?_
   exact S_round (((if nv< (IntKind.wrap .i64 (x+1))then(IntKind.wrap .i64 (x+1))else nv),(IntKind.wrap .i64 (i+1))):Int×Int) sk h
  rw[if_neg c13]at h
  refine N_bd 22 (beq_eq_false_iff_ne.mpr c13)<| T_ed 16 [22] [(38,.bool false)]<| T_fz 38<| T_rz 8<| T_nd 5 [3,5,38] [(3,vi (if nv< (IntKind.wrap .i64 (x+1))then(IntKind.wrap .i64 (x+1))else nv))] ?_
  refine N_end (by kernel_rfl) ?_
  refine S_blockEnd ?_
  refine S_then ?_
  refine T_rz 4<| T_ed 3 [4] [(4,vi (IntKind.wrap .i64 (i+1)))] ?_
  exact S_round (((if nv< (IntKind.wrap .i64 (x+1))then(IntKind.wrap .i64 (x+1))else nv),(IntKind.wrap .i64 (i+1))):Int×Int) sk h
 rw[if_neg c7]at h
 refine T_cFz 10 (decide_eq_false c7) ?_
 refine S_exit 0 (by kernel_rfl) ?_
 refine S_exitThen ?_
 refine S_exitThen ?_
 refine S_exitHere ?_
 refine S_then ?_
 refine T_sz<| T_srz 9<| T_n 1 [(3,vi nv),(46,vp (pa b))] ?_
 obtain⟨ae,q23,h⟩:=h
 refine T_l1 47 3 q23 [46]<| T_ed 1 [47] [(48,.bool (ae==8))] ?_
 by_cases c24:ae=8
 ·rw[if_pos c24]at h
  exact T_cTz 48 (beq_iff_eq.mpr c24)<| T_rz 10<| T_ne 3 [(3,vi (if nv<1 then 1 else nv))]<| T_srz 11<| T_nr 2 [2] [vi (if nv<1 then 1 else nv)] hQ h
 rw[if_neg c24]at h
 exact T_cFz 48 (beq_eq_false_iff_ne.mpr c24)<| T_kt<| T_srz 11<| T_nr 2 [2] [vi nv] hQ h
end moraineref03_Depth

/-! moraine/moraineref03.bare -/
namespace moraineref03_bare
def K0:=Func.code Tryz.f48
end moraineref03_bare
def moraineref03_bare.pt(m dC:Int)(o:Bool)(d:Option Addr)(f e:Nat)(dT:ByteArray)(ah:Option Addr)(ag af:Nat)(a:Int)(H:Array Obj)(R:Value->Array Obj->Prop):Prop:=
 ∀(b:Nat) (H1:Array Obj),b=H.size->H1=H.push (.cells (DR m dC o d f e dT ah ag af).toArray 51)->
 if(iand .i64 a 1)=0 then(
 ∃x:Int,hat H1 ((ad b).add 1)=some (.int .i32 x)/\
 if x=0 then(
 if(iand .i64 a 2)=0 then(
 ∃k:Bool,hat H1 ((ad b).add 2)=some (.bool k)/\
 if k=true then(
 R (.bool false) H1)
 else
 ∃(xB:Option Addr) (xN xC:Nat),hat H1 (((ad b).add 2).add 1)=some (.slice xB xN xC)/\
 if(xN:Int)=0 then(
 if(iand .i64 a 4)=0 then(
 ∃aa:ByteArray,hat H1 ((ad b).add 4)=some (.string aa)/\
 if aa.toList=(ByteArray.mk #[]).toList then(
 if(iand .i64 a 8)=0 then(
 ∃(a0:Option Addr) (p au:Nat),hat H1 ((ad b).add 5)=some (.slice a0 p au)/\
 R (.bool ((p:Int)==0)) H1)
 else
 R (.bool true) H1)
 else
 R (.bool false) H1)
 else
 if(iand .i64 a 8)=0 then(
 ∃(av:Option Addr) (v ay:Nat),hat H1 ((ad b).add 5)=some (.slice av v ay)/\
 R (.bool ((v:Int)==0)) H1)
 else
 R (.bool true) H1)
 else
 R (.bool false) H1)
 else
 if(iand .i64 a 4)=0 then(
 ∃y:ByteArray,hat H1 ((ad b).add 4)=some (.string y)/\
 if y.toList=(ByteArray.mk #[]).toList then(
 if(iand .i64 a 8)=0 then(
 ∃(ao:Option Addr) (u az:Nat),hat H1 ((ad b).add 5)=some (.slice ao u az)/\
 R (.bool ((u:Int)==0)) H1)
 else
 R (.bool true) H1)
 else
 R (.bool false) H1)
 else
 if(iand .i64 a 8)=0 then(
 ∃(ax:Option Addr) (r an:Nat),hat H1 ((ad b).add 5)=some (.slice ax r an)/\
 R (.bool ((r:Int)==0)) H1)
 else
 R (.bool true) H1)
 else
 R (.bool false) H1)
 else
 if(iand .i64 a 2)=0 then(
 ∃j:Bool,hat H1 ((ad b).add 2)=some (.bool j)/\
 if j=true then(
 R (.bool false) H1)
 else
 ∃(al:Option Addr) (i ai:Nat),hat H1 (((ad b).add 2).add 1)=some (.slice al i ai)/\
 if(i:Int)=0 then(
 if(iand .i64 a 4)=0 then(
 ∃ab:ByteArray,hat H1 ((ad b).add 4)=some (.string ab)/\
 if ab.toList=(ByteArray.mk #[]).toList then(
 if(iand .i64 a 8)=0 then(
 ∃(aw:Option Addr) (t aj:Nat),hat H1 ((ad b).add 5)=some (.slice aw t aj)/\
 R (.bool ((t:Int)==0)) H1)
 else
 R (.bool true) H1)
 else
 R (.bool false) H1)
 else
 if(iand .i64 a 8)=0 then(
 ∃(ak:Option Addr) (s aq:Nat),hat H1 ((ad b).add 5)=some (.slice ak s aq)/\
 R (.bool ((s:Int)==0)) H1)
 else
 R (.bool true) H1)
 else
 R (.bool false) H1)
 else
 if(iand .i64 a 4)=0 then(
 ∃z:ByteArray,hat H1 ((ad b).add 4)=some (.string z)/\
 if z.toList=(ByteArray.mk #[]).toList then(
 if(iand .i64 a 8)=0 then(
 ∃(am:Option Addr) (q ap:Nat),hat H1 ((ad b).add 5)=some (.slice am q ap)/\
 R (.bool ((q:Int)==0)) H1)
 else
 R (.bool true) H1)
 else
 R (.bool false) H1)
 else
 if(iand .i64 a 8)=0 then(
 ∃(ae:Option Addr) (g ac:Nat),hat H1 ((ad b).add 5)=some (.slice ae g ac)/\
 R (.bool ((g:Int)==0)) H1)
 else
 R (.bool true) H1
namespace moraineref03_bare
theorem link{m dC:Int}{o:Bool}{d:Option Addr}{f e:Nat}{dT:ByteArray}{ah:Option Addr}{ag af:Nat}{a:Int}{H:Array Obj}{R:Value->Array Obj->Prop}(h:pt m dC o d f e dT ah ag af a H R):C m dC o d f e dT ah ag af a H R:=by
 refine T_en K0 52 Tryz.func48 ?_
 intro w0 Q hQ
 unfold pt at h
 refine T_su [(0,.agg (DR m dC o d f e dT ah ag af).toArray),(1,vi a)]<| T_srz 0<| T_nw (some 2) (λb=>vp (pa b)) (.cells (DR m dC o d f e dT ah ag af).toArray 51) ?_
 intro b H1 e1 e2
 replace h:=h b H1 e1 e2
 refine T_pd [0] [(2,vp (pa b))]<| T_ed 1 [] []<| T_srz 1<| T_nd 4 [] [(8,.bool ((iand .i64 a 1) !=0))] ?_
 by_cases c3:(iand .i64 a 1)=0
 ·rw[if_pos c3]at h
  refine N_bd 8 (bne_eq_false_iff_eq.mpr c3)<| T_nd 1 [] [(9,vp (some ((ad b).add 1)))] ?_
  obtain⟨x,q5,h⟩:=h
  refine T_l1 10 21 q5 [9]<| T_nd 3 [8,10] [(13,.bool (x==0))] ?_
  by_cases c6:x=0
  ·rw[if_pos c6]at h
   refine N_bd 13 (beq_iff_eq.mpr c6)<| T_nd 4 [] [(17,.bool ((iand .i64 a 2) !=0))] ?_
   by_cases c8:(iand .i64 a 2)=0
   ·rw[if_pos c8]at h
    refine N_bd 17 (bne_eq_false_iff_eq.mpr c8)<| T_nd 2 [] [(19,vp (some ((ad b).add 2)))] ?_
    obtain⟨k,q10,h⟩:=h
    refine T_l1 20 4 q10 [19]<| T_nd 2 [20] [(22,.bool (!k))] ?_
    by_cases c11:k=true
    ·rw[if_pos c11]at h
     have b12:(!k)=false:=congrArg Bool.not (c11)
     have b122:k=true:=c11
     refine N_bd 22 (b:=(!k)) (v:=false) (by simp only[b12,b122,Bool.not_true,Bool.not_false]) ?_
     clear b12 b122
     exact T_nr 30 [4] [.bool false] hQ h
    rw[if_neg c11]at h
    have b12:(!k)=true:=congrArg Bool.not (eq_false_of_ne_true c11)
    have b122:k=false:=eq_false_of_ne_true c11
    refine N_bd 22 (b:=(!k)) (v:=true) (by simp only[b12,b122,Bool.not_true,Bool.not_false]) ?_
    clear b12 b122
    refine T_nd 2 [] [(24,vp (some (((ad b).add 2).add 1)))] ?_
    obtain⟨xB,xN,xC,q13,h⟩:=h
    refine T_l1 25 46 q13 [24]<| T_nd 6 [13,17,22,25] [(31,.bool ((xN:Int)==0))] ?_
    by_cases c14:(xN:Int)=0
    ·rw[if_pos c14]at h
     refine N_bd 31 (beq_iff_eq.mpr c14)<| T_nd 4 [] [(35,.bool ((iand .i64 a 4) !=0))] ?_
     by_cases c16:(iand .i64 a 4)=0
     ·rw[if_pos c16]at h
      refine N_bd 35 (bne_eq_false_iff_eq.mpr c16)<| T_nd 1 [] [(36,vp (some ((ad b).add 4)))] ?_
      obtain⟨aa,q18,h⟩:=h
      refine T_l1 37 9 q18 [36]<| T_nd 4 [31,35,37] [(41,.bool (aa.toList==(ByteArray.mk #[]).toList))] ?_
      by_cases c19:aa.toList=(ByteArray.mk #[]).toList
      ·rw[if_pos c19]at h
       refine N_bd 41 (beq_iff_eq.mpr c19)<| T_nd 4 [1] [(45,.bool ((iand .i64 a 8) !=0))] ?_
       by_cases c21:(iand .i64 a 8)=0
       ·rw[if_pos c21]at h
        refine N_bd 45 (bne_eq_false_iff_eq.mpr c21)<| T_nd 1 [2] [(46,vp (some ((ad b).add 5)))] ?_
        obtain⟨a0,p,au,q23,h⟩:=h
        exact T_l1 47 49 q23 [46]<| T_nr 5 [4] [.bool ((p:Int)==0)] hQ h
       rw[if_neg c21]at h
       exact N_bd 45 (bne_iff_ne.mpr c21)<| T_nr 7 [4] [.bool true] hQ h
      rw[if_neg c19]at h
      exact N_bd 41 (beq_eq_false_iff_ne.mpr c19)<| T_nr 11 [4] [.bool false] hQ h
     rw[if_neg c16]at h
     refine N_bd 35 (bne_iff_ne.mpr c16)<| T_nd 10 [1,31,35] [(41,.bool true),(45,.bool ((iand .i64 a 8) !=0))] ?_
     by_cases c24:(iand .i64 a 8)=0
     ·rw[if_pos c24]at h
      refine N_bd 45 (bne_eq_false_iff_eq.mpr c24)<| T_nd 1 [2] [(46,vp (some ((ad b).add 5)))] ?_
      obtain⟨av,v,ay,q26,h⟩:=h
      exact T_l1 47 49 q26 [46]<| T_nr 5 [4] [.bool ((v:Int)==0)] hQ h
     rw[if_neg c24]at h
     exact N_bd 45 (bne_iff_ne.mpr c24)<| T_nr 7 [4] [.bool true] hQ h
    rw[if_neg c14]at h
    exact N_bd 31 (beq_eq_false_iff_ne.mpr c14)<| T_nr 21 [4] [.bool false] hQ h
   rw[if_neg c8]at h
   refine N_bd 17 (bne_iff_ne.mpr c8)<| T_nd 18 [13,17] [(31,.bool true),(35,.bool ((iand .i64 a 4) !=0))] ?_
   by_cases c27:(iand .i64 a 4)=0
   ·rw[if_pos c27]at h
    refine N_bd 35 (bne_eq_false_iff_eq.mpr c27)<| T_nd 1 [] [(36,vp (some ((ad b).add 4)))] ?_
    obtain⟨y,q29,h⟩:=h
    refine T_l1 37 9 q29 [36]<| T_nd 4 [31,35,37] [(41,.bool (y.toList==(ByteArray.mk #[]).toList))] ?_
    by_cases c30:y.toList=(ByteArray.mk #[]).toList
    ·rw[if_pos c30]at h
     refine N_bd 41 (beq_iff_eq.mpr c30)<| T_nd 4 [1] [(45,.bool ((iand .i64 a 8) !=0))] ?_
     by_cases c32:(iand .i64 a 8)=0
     ·rw[if_pos c32]at h
      refine N_bd 45 (bne_eq_false_iff_eq.mpr c32)<| T_nd 1 [2] [(46,vp (some ((ad b).add 5)))] ?_
      obtain⟨ao,u,az,q34,h⟩:=h
      exact T_l1 47 49 q34 [46]<| T_nr 5 [4] [.bool ((u:Int)==0)] hQ h
     rw[if_neg c32]at h
     exact N_bd 45 (bne_iff_ne.mpr c32)<| T_nr 7 [4] [.bool true] hQ h
    rw[if_neg c30]at h
    exact N_bd 41 (beq_eq_false_iff_ne.mpr c30)<| T_nr 11 [4] [.bool false] hQ h
   rw[if_neg c27]at h
   refine N_bd 35 (bne_iff_ne.mpr c27)<| T_nd 10 [1,31,35] [(41,.bool true),(45,.bool ((iand .i64 a 8) !=0))] ?_
   by_cases c35:(iand .i64 a 8)=0
   ·rw[if_pos c35]at h
    refine N_bd 45 (bne_eq_false_iff_eq.mpr c35)<| T_nd 1 [2] [(46,vp (some ((ad b).add 5)))] ?_
    obtain⟨ax,r,an,q37,h⟩:=h
    exact T_l1 47 49 q37 [46]<| T_nr 5 [4] [.bool ((r:Int)==0)] hQ h
   rw[if_neg c35]at h
   exact N_bd 45 (bne_iff_ne.mpr c35)<| T_nr 7 [4] [.bool true] hQ h
  rw[if_neg c6]at h
  exact N_bd 13 (beq_eq_false_iff_ne.mpr c6)<| T_nr 39 [4] [.bool false] hQ h
 rw[if_neg c3]at h
 refine N_bd 8 (bne_iff_ne.mpr c3)<| T_nd 9 [8] [(13,.bool true),(17,.bool ((iand .i64 a 2) !=0))] ?_
 by_cases c38:(iand .i64 a 2)=0
 ·rw[if_pos c38]at h
  refine N_bd 17 (bne_eq_false_iff_eq.mpr c38)<| T_nd 2 [] [(19,vp (some ((ad b).add 2)))] ?_
  obtain⟨j,q40,h⟩:=h
  refine T_l1 20 4 q40 [19]<| T_nd 2 [20] [(22,.bool (!j))] ?_
  by_cases c41:j=true
  ·rw[if_pos c41]at h
   have b42:(!j)=false:=congrArg Bool.not (c41)
   have b422:j=true:=c41
   refine N_bd 22 (b:=(!j)) (v:=false) (by simp only[b42,b422,Bool.not_true,Bool.not_false]) ?_
   clear b42 b422
   exact T_nr 30 [4] [.bool false] hQ h
  rw[if_neg c41]at h
  have b42:(!j)=true:=congrArg Bool.not (eq_false_of_ne_true c41)
  have b422:j=false:=eq_false_of_ne_true c41
  refine N_bd 22 (b:=(!j)) (v:=true) (by simp only[b42,b422,Bool.not_true,Bool.not_false]) ?_
  clear b42 b422
  refine T_nd 2 [] [(24,vp (some (((ad b).add 2).add 1)))] ?_
  obtain⟨al,i,ai,q43,h⟩:=h
  refine T_l1 25 46 q43 [24]<| T_nd 6 [13,17,22,25] [(31,.bool ((i:Int)==0))] ?_
  by_cases c44:(i:Int)=0
  ·rw[if_pos c44]at h
   refine N_bd 31 (beq_iff_eq.mpr c44)<| T_nd 4 [] [(35,.bool ((iand .i64 a 4) !=0))] ?_
   by_cases c46:(iand .i64 a 4)=0
   ·rw[if_pos c46]at h
    refine N_bd 35 (bne_eq_false_iff_eq.mpr c46)<| T_nd 1 [] [(36,vp (some ((ad b).add 4)))] ?_
    obtain⟨ab,q48,h⟩:=h
    refine T_l1 37 9 q48 [36]<| T_nd 4 [31,35,37] [(41,.bool (ab.toList==(ByteArray.mk #[]).toList))] ?_
    by_cases c49:ab.toList=(ByteArray.mk #[]).toList
    ·rw[if_pos c49]at h
     refine N_bd 41 (beq_iff_eq.mpr c49)<| T_nd 4 [1] [(45,.bool ((iand .i64 a 8) !=0))] ?_
     by_cases c51:(iand .i64 a 8)=0
     ·rw[if_pos c51]at h
      refine N_bd 45 (bne_eq_false_iff_eq.mpr c51)<| T_nd 1 [2] [(46,vp (some ((ad b).add 5)))] ?_
      obtain⟨aw,t,aj,q53,h⟩:=h
      exact T_l1 47 49 q53 [46]<| T_nr 5 [4] [.bool ((t:Int)==0)] hQ h
     rw[if_neg c51]at h
     exact N_bd 45 (bne_iff_ne.mpr c51)<| T_nr 7 [4] [.bool true] hQ h
    rw[if_neg c49]at h
    exact N_bd 41 (beq_eq_false_iff_ne.mpr c49)<| T_nr 11 [4] [.bool false] hQ h
   rw[if_neg c46]at h
   refine N_bd 35 (bne_iff_ne.mpr c46)<| T_nd 10 [1,31,35] [(41,.bool true),(45,.bool ((iand .i64 a 8) !=0))] ?_
   by_cases c54:(iand .i64 a 8)=0
   ·rw[if_pos c54]at h
    refine N_bd 45 (bne_eq_false_iff_eq.mpr c54)<| T_nd 1 [2] [(46,vp (some ((ad b).add 5)))] ?_
    obtain⟨ak,s,aq,q56,h⟩:=h
    exact T_l1 47 49 q56 [46]<| T_nr 5 [4] [.bool ((s:Int)==0)] hQ h
   rw[if_neg c54]at h
   exact N_bd 45 (bne_iff_ne.mpr c54)<| T_nr 7 [4] [.bool true] hQ h
  rw[if_neg c44]at h
  exact N_bd 31 (beq_eq_false_iff_ne.mpr c44)<| T_nr 21 [4] [.bool false] hQ h
 rw[if_neg c38]at h
 refine N_bd 17 (bne_iff_ne.mpr c38)<| T_nd 18 [13,17] [(31,.bool true),(35,.bool ((iand .i64 a 4) !=0))] ?_
 by_cases c57:(iand .i64 a 4)=0
 ·rw[if_pos c57]at h
  refine N_bd 35 (bne_eq_false_iff_eq.mpr c57)<| T_nd 1 [] [(36,vp (some ((ad b).add 4)))] ?_
  obtain⟨z,q59,h⟩:=h
  refine T_l1 37 9 q59 [36]<| T_nd 4 [31,35,37] [(41,.bool (z.toList==(ByteArray.mk #[]).toList))] ?_
  by_cases c60:z.toList=(ByteArray.mk #[]).toList
  ·rw[if_pos c60]at h
   refine N_bd 41 (beq_iff_eq.mpr c60)<| T_nd 4 [1] [(45,.bool ((iand .i64 a 8) !=0))] ?_
   by_cases c62:(iand .i64 a 8)=0
   ·rw[if_pos c62]at h
    refine N_bd 45 (bne_eq_false_iff_eq.mpr c62)<| T_nd 1 [2] [(46,vp (some ((ad b).add 5)))] ?_
    obtain⟨am,q,ap,q64,h⟩:=h
    exact T_l1 47 49 q64 [46]<| T_nr 5 [4] [.bool ((q:Int)==0)] hQ h
   rw[if_neg c62]at h
   exact N_bd 45 (bne_iff_ne.mpr c62)<| T_nr 7 [4] [.bool true] hQ h
  rw[if_neg c60]at h
  exact N_bd 41 (beq_eq_false_iff_ne.mpr c60)<| T_nr 11 [4] [.bool false] hQ h
 rw[if_neg c57]at h
 refine N_bd 35 (bne_iff_ne.mpr c57)<| T_nd 10 [1,31,35] [(41,.bool true),(45,.bool ((iand .i64 a 8) !=0))] ?_
 by_cases c65:(iand .i64 a 8)=0
 ·rw[if_pos c65]at h
  refine N_bd 45 (bne_eq_false_iff_eq.mpr c65)<| T_nd 1 [2] [(46,vp (some ((ad b).add 5)))] ?_
  obtain⟨ae,g,ac,q67,h⟩:=h
  exact T_l1 47 49 q67 [46]<| T_nr 5 [4] [.bool ((g:Int)==0)] hQ h
 rw[if_neg c65]at h
 exact N_bd 45 (bne_iff_ne.mpr c65)<| T_nr 7 [4] [.bool true] hQ h
end moraineref03_bare

/-! moraine/moraineref03.Char -/
namespace moraineref03_Char
def K0:=Func.code Tryz.f49
end moraineref03_Char
def moraineref03_Char.pt(c:Int)(H:Array Obj)(R:Value->Array Obj->Prop):Prop:=
 R (.bool (((decide (c>=0)) && (decide (c<=1114111))) && ((decide (c<55296)) || (decide (c>57343))))) H
namespace moraineref03_Char
theorem link{c:Int}{H:Array Obj}{R:Value->Array Obj->Prop}(h:pt c H R):C c H R:=by
 refine T_en K0 17 Tryz.func49 ?_
 intro w0 Q hQ
 unfold pt at h
 refine T_su [(0,.int .i32 c)]<| T_srz 0<| T_ed 1 [] []<| T_srz 1 ?_
 refine N_cut [(2,.bool (((decide (c>=0)) && (decide (c<=1114111))) && ((decide (c<55296)) || (decide (c>57343)))))] ?_ ?_
 ·refine S_then ?_
  exact T_ret [2] [.bool (((decide (c>=0)) && (decide (c<=1114111))) && ((decide (c<55296)) || (decide (c>57343))))] hQ h
 intro hk
 refine T_n 3 [(0,.int .i32 c),(5,.bool (decide (c>=0)))] ?_
 by_cases c1:c>=0
 ·have b2:(decide (c>=0))=true:=decide_eq_true c1
  refine N_env [(0,.int .i32 c),(5,.bool true)] (by rw[b2]) ?_
  refine T_nd 4 [5] [(9,.bool (decide (c<=1114111)))] ?_
  by_cases c3:c<=1114111
  ·have b4:(decide (c<=1114111))=true:=decide_eq_true c3
   refine N_bd 9 b4<| T_nd 3 [] [(12,.bool (decide (c<55296)))] ?_
   by_cases c5:c<55296
   ·have b6:(decide (c<55296))=true:=decide_eq_true c5
    refine N_bd 12 b6<| T_n 5 [(2,.bool true)] ?_
    refine N_end (by kernel_rfl) ?_
    refine S_env [(2,.bool (((decide (c>=0)) && (decide (c<=1114111))) && ((decide (c<55296)) || (decide (c>57343)))))] (by simp only[b2,b4,b6,BL]) ?_
    exact hk
   have b6:(decide (c<55296))=false:=decide_eq_false c5
   refine N_bd 12 b6<| T_n 5 [(2,.bool (decide (c>57343)))] ?_
   refine N_end (by kernel_rfl) ?_
   refine S_env [(2,.bool (((decide (c>=0)) && (decide (c<=1114111))) && ((decide (c<55296)) || (decide (c>57343)))))] (by simp only[b2,b4,b6,BL]) ?_
   exact hk
  have b4:(decide (c<=1114111))=false:=decide_eq_false c3
  refine N_bd 9 b4<| T_n 8 [(2,.bool false)] ?_
  refine N_end (by kernel_rfl) ?_
  refine S_env [(2,.bool (((decide (c>=0)) && (decide (c<=1114111))) && ((decide (c<55296)) || (decide (c>57343)))))] (by simp only[b2,b4,BL]) ?_
  exact hk
 have b2:(decide (c>=0))=false:=decide_eq_false c1
 refine N_env [(0,.int .i32 c),(5,.bool false)] (by rw[b2]) ?_
 refine T_n 12 [(2,.bool false)] ?_
 refine N_end (by kernel_rfl) ?_
 refine S_env [(2,.bool (((decide (c>=0)) && (decide (c<=1114111))) && ((decide (c<55296)) || (decide (c>57343)))))] (by simp only[b2,BL]) ?_
 exact hk
end moraineref03_Char

end Go.Proofs.YtibpklpgmgakcaaGreatDoor
