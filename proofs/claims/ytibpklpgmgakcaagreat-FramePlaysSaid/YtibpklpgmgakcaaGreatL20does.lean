/- Printed: what each function asks, and that it is sound. -/
import Derived.Test.YtibpklpgmgakcaaGreatFnsC
set_option linter.unusedSimpArgs false
set_option linter.unusedVariables false
set_option maxRecDepth 100000
set_option maxHeartbeats 1000000
noncomputable section
namespace Go.Proofs.YtibpklpgmgakcaaGreat
open Go
/-! moraine/morainelaw20.does -/
namespace morainelaw20_does
def K0:=Func.code Tryz.f10
def K2:=cb K0
def K3:=ca K2
def K4:=cb K2
def K6:=cb K4
def K8:=cb K6
def K10:=cb K8
def K11:=ca K10
def K14:=cb K11
def K15:=ca K14
def K17:=cb K15
def K19:=cb K17
def K31:=cb K19
def K32:=ca K31
def K33:=cb K31
def K34:=ca K32
def K37:=cb K33
def K39:=cb K37
def K47:=cb K39
def K48:=ca K47
def K49:=cb K47
def K50:=ca K48
def K53:=cb K49
def K55:=cb K53
def K59:=cb K55
def K60:=ca K59
def K61:=cb K59
def K62:=ca K60
def K65:=cb K61
def K66:=ca K65
def K68:=ca K66
end morainelaw20_does
def morainelaw20_does.pt(hv m:Option Addr)(bu a6 bw xN bq bc bt bb:Int)(bz:Option Addr)(bx br:Nat)(e:Option Addr)(a d:Nat)(H:Array Obj)(R:Value->Array Obj->Prop):Prop:=
 ∀(b:Nat) (H1:Array Obj),b=H.size->H1=H.push (.cells #[.int .i64 bu,.int .i64 a6,.int .i64 bw,.int .i64 xN,.int .u64 bq,.int .i64 bc,.int .u64 bt,.int .i64 bb,.slice bz bx br] 40)->
 ∃xW a5:Int,RowAt H1 ((ad b).add 4) 0 [.int .u64 xW,.int .i64 a5]/\
 ∃a2 ax:Int,RowAt H1 ((ad b).add 6) 0 [.int .u64 a2,.int .i64 ax]/\
 morainelaw11_Word.C xW a5 e a d H1 (λv H2=> ∃x:Int,v=.int .u64 x/\RowAt H2 ((ad b).add 6) 0 [.int .u64 a2,.int .i64 ax]/\
 morainelaw11_Word.C a2 ax e a d H2 (λcx H3=> ∃k:Int,cx=.int .u64 k/\
 ∃(xB:Option Addr) (a7 xC:Nat),hat H3 ((ad b).add 8)=some (.slice xB a7 xC)/\
 morainelaw20_words.C xB a7 xC e a d H3 (λcm H4=> ∃(i:Option Addr) (f j:Nat),cm=.slice i f j/\
 ∃t:Int,hat H4 (ad b)=some (.int .i64 t)/\
 if t=0 then(
 ∀(bi:Nat) (H5:Array Obj),bi=H4.size->H5=H4.push (.cells #[] 35)->
 appendK 1 35 8 [.int .u64 0] (some (ad bi)) 0 0 i f H5 (λap b7 H6=>
 frame_Extend.C hv x ap (0+f) b7 H6 (λcq H7=> ∃ra rb:Int,cq=.tuple #[.int .u64 ra,.int .i64 rb]/\
 moraineref20_Extend.C m x i f j H7 (λct H8=> ∃u s:Int,ct=.tuple #[.int .u64 u,.int .i64 s]/\
 if((rb==0) && (s==0))=true then(
 ∀(bk:Nat) (H9:Array Obj),bk=H8.size->H9=H8.push (.cells #[.int .u64 ra] 35)->
 appendK 1 35 8 [.int .u64 0] e a d (some (ad bk)) 1 H9 (λan ah cr=>
 R (.tuple #[.slice an (a+1) ah,.bool ((ra==u) && (rb==s))]) cr))
 else
 R (.tuple #[.slice e a d,.bool ((ra==u) && (rb==s))]) H8))))
 else
 if t=1 then(
 ∃a4:Int,hat H4 ((ad b).add 3)=some (.int .i64 a4)/\
 ∀(bm:Nat) (H11:Array Obj),bm=H4.size->H11=H4.push (.cells #[] 35)->RowAt H11 ((ad b).add 3) 0 [.int .i64 a4]/\
 appendK 1 35 8 [.int .u64 0] (some (ad bm)) 0 0 i f H11 (λb0 bf cd=>
 RowAt cd ((ad b).add 3) 0 [.int .i64 a4]/\frame_Push.C hv a4 x b0 (0+f) bf cd (λcn cc=> ∃o n:Int,cn=.tuple #[.int .u64 o,.int .i64 n]/\
 ∃bh:Int,hat cc ((ad b).add 3)=some (.int .i64 bh)/\
 moraineref20_Push.C m bh x i f j cc (λc0 b2=> ∃y r:Int,c0=.tuple #[.int .u64 y,.int .i64 r]/\
 if((n==0) && (r==0))=true then(
 ∀(bn:Nat) (H15:Array Obj),bn=b2.size->H15=b2.push (.cells #[.int .u64 o] 35)->
 appendK 1 35 8 [.int .u64 0] e a d (some (ad bn)) 1 H15 (λav af co=>
 R (.tuple #[.slice av (a+1) af,.bool ((o==y) && (n==r))]) co))
 else
 R (.tuple #[.slice e a d,.bool ((o==y) && (n==r))]) b2))))
 else
 if t=2 then(
 ∃bd:Int,hat H4 ((ad b).add 2)=some (.int .i64 bd)/\
 ∃bj:Int,hat H4 ((ad b).add 3)=some (.int .i64 bj)/\
 frame_Get.C hv x bd bj H4 (λcv b6=> ∃aa ab:Int,cv=.tuple #[.int .u64 aa,.int .i64 ab]/\
 ∃be:Int,hat b6 ((ad b).add 2)=some (.int .i64 be)/\
 ∃bl:Int,hat b6 ((ad b).add 3)=some (.int .i64 bl)/\
 moraineref20_Get.C m x be bl b6 (λcu cp=> ∃au am:Int,cu=.tuple #[.int .u64 au,.int .i64 am]/\
 R (.tuple #[.slice e a d,.bool ((aa==au) && (ab==am))]) cp)))
 else
 if t=3 then(
 ∃ac:Int,hat H4 ((ad b).add 2)=some (.int .i64 ac)/\
 ∃ai:Int,hat H4 ((ad b).add 3)=some (.int .i64 ai)/\
 ∃ay:Int,hat H4 ((ad b).add 2)=some (.int .i64 ay)/\
 ∃a1:Int,hat H4 ((ad b).add 3)=some (.int .i64 a1)/\
 frame_Put.C hv x ac ai k H4 (λch b4=> ∃ak:Int,ch=.int .i64 ak/\RowAt b4 ((ad b).add 2) 0 [.int .i64 ay]/\RowAt b4 ((ad b).add 3) 0 [.int .i64 a1]/\
 moraineref20_Put.C m x ay a1 k b4 (λcj cs=> ∃aw:Int,cj=.int .i64 aw/\
 R (.tuple #[.slice e a d,.bool (ak==aw)]) cs)))
 else
 if t=4 then(
 ∃a9:Int,hat H4 ((ad b).add 3)=some (.int .i64 a9)/\
 morainelaw20_tells.C hv m x a9 H4 (λck cz=> ∃ba:Bool,ck=.bool ba/\
 R (.tuple #[.slice e a d,.bool ba]) cz))
 else
 if t=5 then(
 ∃az:Int,hat H4 ((ad b).add 1)=some (.int .i64 az)/\
 ∀(bo:Nat) (H22:Array Obj),bo=H4.size->H22=H4.push (.cells #[] 35)->RowAt H22 ((ad b).add 1) 0 [.int .i64 az]/\
 appendK 1 35 8 [.int .u64 0] (some (ad bo)) 0 0 i f H22 (λb1 bg cf=>
 RowAt cf ((ad b).add 1) 0 [.int .i64 az]/\obj_Heap_Make.C hv az 0 b1 (0+f) bg cf (λcg ci=> ∃p l:Int,cg=.tuple #[.int .u64 p,.int .i64 l]/\
 ∃a8:Int,hat ci ((ad b).add 1)=some (.int .i64 a8)/\
 moraineref10_Heap_Make.C m a8 0 i f j ci (λb8 b3=> ∃z q:Int,b8=.tuple #[.int .u64 z,.int .i64 q]/\
 if((l==0) && (q==0))=true then(
 ∀(bp:Nat) (H26:Array Obj),bp=b3.size->H26=b3.push (.cells #[.int .u64 p] 35)->
 appendK 1 35 8 [.int .u64 0] e a d (some (ad bp)) 1 H26 (λaq ag cw=>
 R (.tuple #[.slice aq (a+1) ag,.bool ((p==z) && (l==q))]) cw))
 else
 R (.tuple #[.slice e a d,.bool ((p==z) && (l==q))]) b3))))
 else
 if t=6 then(
 ∃ae:Int,hat H4 ((ad b).add 1)=some (.int .i64 ae)/\
 ∃aj:Int,hat H4 ((ad b).add 3)=some (.int .i64 aj)/\
 ∃a0:Int,hat H4 ((ad b).add 1)=some (.int .i64 a0)/\
 ∃a3:Int,hat H4 ((ad b).add 3)=some (.int .i64 a3)/\
 obj_Heap_Set.C hv x ae aj k H4 (λcl b5=> ∃al:Int,cl=.int .i64 al/\RowAt b5 ((ad b).add 1) 0 [.int .i64 a0]/\RowAt b5 ((ad b).add 3) 0 [.int .i64 a3]/\
 moraineref10_Heap_Set.C m x a0 a3 k b5 (λce cy=> ∃ao:Int,ce=.int .i64 ao/\
 R (.tuple #[.slice e a d,.bool (al==ao)]) cy)))
 else
 R (.tuple #[.slice e a d,.bool true]) H4)))
namespace morainelaw20_does
theorem link{hv m:Option Addr}{bu a6 bw xN bq bc bt bb:Int}{bz:Option Addr}{bx br:Nat}{e:Option Addr}{a d:Nat}{H:Array Obj}{R:Value->Array Obj->Prop}(h:pt hv m bu a6 bw xN bq bc bt bb bz bx br e a d H R):C hv m bu a6 bw xN bq bc bt bb bz bx br e a d H R:=by
 refine T_en K0 191 Tryz.func10 ?_
 intro w0 Q hQ
 unfold pt at h
 refine T_su [(0,vp hv),(1,vp m),(2,.agg #[vi bu,vi a6,vi bw,vi xN,vu bq,vi bc,vu bt,vi bb,vs bz bx br]),(3,vs e a d)]<| T_srz 0<| T_nw (some 6) (λb=>vp (pa b)) (.cells #[vi bu,vi a6,vi bw,vi xN,vu bq,vi bc,vu bt,vi bb,vs bz bx br] 40) ?_
 intro b H1 e1 e2
 replace h:=h b H1 e1 e2
 refine T_pd [2] [(6,vp (pa b))]<| T_ed 2 [] []<| T_sz ?_
 obtain⟨xW,a5,q3,h⟩:=h
 obtain⟨a2,ax,q4,h⟩:=h
 refine S_regionG 1 (Code.ops K3) [(3,((ad b).add 4),[vu xW,vi a5]),(7,((ad b).add 6),[vu a2,vi ax])] 10 (bv 10 0) (by kernel_rfl) (by kernel_rfl) (by kernel_rfl) (by kernel_rfl) (by kernel_rfl) (show FactsAt _ _ _ from⟨q3,q4,trivial⟩) ?_
 refine T_gp 0 (some 17) (vp (some ((ad b).add 4))) (bv 10 1) [(0,vp hv),(1,vp m),(3,vs e a d),(6,vp (pa b)),(17,vp (some ((ad b).add 4)))]<| T_g1 1 18 (.agg #[vu xW,vi a5]) (bv 10 3) [17] (loadN 37 (vp (some ((ad b).add 4)))) (held_row 3 (λ_=>by kernel_rfl) (λ_=>by kernel_rfl) (List.Mem.head _) (.inl (by kernel_rfl)))<| T_gp1 2 19 (vs e a d) (bv 10 7) []<| T_gp1 4 21 (vp (some ((ad b).add 6))) (bv 10 23) []<| T_g1 5 22 (.agg #[vu a2,vi ax]) (bv 10 55) [21] (loadN 37 (vp (some ((ad b).add 6)))) (held_row 7 (λ_=>by kernel_rfl) (λ_=>by kernel_rfl) (List.Mem.tail _ (List.Mem.head _)) (.inl (by kernel_rfl)))<| T_gp1 6 23 (vs e a d) (bv 10 119) [] ?_
 refine G_call 3 (some 20) (bv 10 127) 38 #[.agg #[vu xW,vi a5],vs e a d] (by kernel_rfl) (λ_=>by kernel_rfl) h (by kernel_rfl) ?_;clear h
 rintro v H2 ⟨x,rfl,h⟩
 obtain⟨f5,h⟩:=h
 refine⟨[(0,vp hv),(1,vp m),(3,vs e a d),(6,vp (pa b)),(20,vu x),(22,.agg #[vu a2,vi ax]),(23,vs e a d)],pk,(show FactsAt _ _ _ from⟨trivial,f5,trivial⟩),?_⟩
 refine G_call 7 (some 24) (bv 10 255) 38 #[.agg #[vu a2,vi ax],vs e a d] (by kernel_rfl) (λ_=>by kernel_rfl) h (by kernel_rfl) ?_;clear h
 rintro cx H3 ⟨k,rfl,h⟩
 refine⟨[(0,vp hv),(1,vp m),(3,vs e a d),(6,vp (pa b)),(20,vu x),(24,vu k)],pk,(show FactsAt _ _ _ from⟨trivial,trivial,trivial⟩),?_⟩
 refine T_g 8 (some 10) (vu x) (bv 10 511) [(0,vp hv),(1,vp m),(3,vs e a d),(6,vp (pa b)),(10,vu x),(24,vu k)] (pure (.value (vu x)):Sem Next) (λ_ _ _ _ _=>rfl)<| T_g1 9 11 (vu k) (bv 10 1023) [24] (pure (.value (vu k)):Sem Next) (λ_ _ _ _ _=>rfl) ?_
 refine G_sub [(0,vp hv),(1,vp m),(3,vs e a d),(6,vp (pa b)),(10,vu x),(11,vu k)] sk ?_
 refine G_end (by kernel_rfl) ?_
 refine S_then ?_
 refine T_srz 2<| T_n 1 [(0,vp hv),(1,vp m),(3,vs e a d),(6,vp (pa b)),(10,vu x),(11,vu k),(25,vp (some ((ad b).add 8)))] ?_
 obtain⟨xB,a7,xC,q6,h⟩:=h
 refine T_l1 26 38 q6 [25]<| T_nd 1 [] [(27,vs e a d)] ?_
 refine T_c (some 28) h ?_;clear h
 rintro cm H4 ⟨i,f,j,rfl,h⟩
 refine T_pd [26,27] [(28,vs i f j)]<| T_ed 1 [28] [(12,vs i f j)]<| T_srz 3<| T_ed 2 [] []<| T_srz 4<| T_ed 2 [] []<| T_sz<| T_srz 5<| T_nd 1 [] [(29,vp (pa b))] ?_
 obtain⟨t,q7,h⟩:=h
 refine T_l1 30 3 q7 [29]<| T_e<| T_bz 0<| T_srz 7<| T_ed 2 [] [(32,.bool (t==0))] ?_
 by_cases c8:t=0
 ·rw[if_pos c8]at h
  refine T_cTz 32 (beq_iff_eq.mpr c8)<| T_srz 8<| T_nd 2 [0,6,11,30,32] [(35,vp hv),(36,vu x)]<| T_nw (some 37) (λb=>vs (pa b) 0 0) (.cells #[] 35) ?_
  intro bi H5 e10 e11
  replace h:=h bi H5 e10 e11
  refine T_pd [] [(37,vs (pa bi) 0 0)]<| T_nd 1 [] [(38,vs i f j)] ?_
  refine N_op (some 39) (appendN #[31,31] 31 #[vs (pa bi) 0 0,vs i f j]) _ (λ_=>by kernel_rfl) (ss_append (T:=35) (sz:=1) (bytes:=8) (zero:=(vu 0:Value)) Tryz.underlying31 Tryz.underlying31 rfl (show Tryz.prog.info? 35=some Tryz.t35 from by kernel_rfl) (by kernel_rfl) (by kernel_rfl) (by decide) (by kernel_rfl) (by first | exact h | (simpa only[Value.cells,List.toList_toArray]using h))) ?_;clear h
  rintro _ H6 ⟨ap,b7,rfl,h⟩
  refine T_pd [37,38] [(39,vs ap (0+f) b7)] ?_
  refine T_c (some 40) h ?_;clear h
  rintro cq H7 ⟨ra,rb,rfl,h⟩
  refine T_pd [35,36,39] [(40,.tuple #[vu ra,vi rb])]<| T_ed 5 [40] [(13,vu ra),(15,vi rb)]<| T_rz 9<| T_nd 3 [1,10,12] [(44,vp m),(45,vu x),(46,vs i f j)] ?_
  refine T_c (some 47) h ?_;clear h
  rintro ct H8 ⟨u,s,rfl,h⟩
  refine T_pd [44,45,46] [(47,.tuple #[vu u,vi s])]<| T_nd 5 [47] [(14,vu u),(16,vi s)] ?_
  refine N_end (by kernel_rfl) ?_
  refine S_blockEnd ?_
  refine S_then ?_
  refine T_sz<| T_srz 26 ?_
  refine N_cut [(3,vs e a d),(13,vu ra),(14,vu u),(15,vi rb),(16,vi s),(177,.bool ((rb==0) && (s==0)))] ?_ ?_
  ·refine S_then ?_
   by_cases c14:((rb==0) && (s==0))=true
   ·rw[if_pos c14]at h
    refine T_cTz 177 c14<| T_rz 27<| T_n 2 [(13,vu ra),(14,vu u),(15,vi rb),(16,vi s),(178,vs e a d),(179,vu ra)]<| T_nw (some 180) (λb=>vs (pa b) 1 1) (.cells #[vu ra] 35) ?_
    intro bk H9 e16 e17
    replace h:=h bk H9 e16 e17
    refine T_pd [179] [(180,vs (pa bk) 1 1)] ?_
    refine N_op (some 181) (appendN #[31,31] 31 #[vs e a d,vs (pa bk) 1 1]) _ (λ_=>by kernel_rfl) (ss_append (T:=35) (sz:=1) (bytes:=8) (zero:=(vu 0:Value)) Tryz.underlying31 Tryz.underlying31 rfl (show Tryz.prog.info? 35=some Tryz.t35 from by kernel_rfl) (by kernel_rfl) (by kernel_rfl) (by decide) (by kernel_rfl) (by first | exact h | (simpa only[Value.cells,List.toList_toArray]using h))) ?_;clear h
    rintro _ cr ⟨an,ah,rfl,h⟩
    refine T_pd [178,180] [(181,vs an (a+1) ah)]<| T_ed 1 [181] [(3,vs an (a+1) ah)]<| T_srz 28 ?_
    refine N_cut [(8,vs an (a+1) ah),(9,.bool ((ra==u) && (rb==s)))] ?_ ?_
    ·refine S_then ?_
     exact T_ret [8,9] [vs an (a+1) ah,.bool ((ra==u) && (rb==s))] hQ h
    intro hk
    refine T_n 5 [(15,vi rb),(16,vi s),(182,vs an (a+1) ah),(186,.bool (ra==u))] ?_
    by_cases c18:ra=u
    ·have b19:(ra==u)=true:=beq_iff_eq.mpr c18
     refine N_env [(15,vi rb),(16,vi s),(182,vs an (a+1) ah),(186,.bool true)] (by rw[b19]) ?_
     refine T_n 6 [(8,vs an (a+1) ah),(9,.bool (rb==s))] ?_
     refine N_end (by kernel_rfl) ?_
     refine S_env [(8,vs an (a+1) ah),(9,.bool ((ra==u) && (rb==s)))] (by simp only[b19,BL]) ?_
     exact hk
    have b19:(ra==u)=false:=beq_eq_false_iff_ne.mpr c18
    refine N_env [(15,vi rb),(16,vi s),(182,vs an (a+1) ah),(186,.bool false)] (by rw[b19]) ?_
    refine T_n 6 [(8,vs an (a+1) ah),(9,.bool false)] ?_
    refine N_end (by kernel_rfl) ?_
    refine S_env [(8,vs an (a+1) ah),(9,.bool ((ra==u) && (rb==s)))] (by simp only[b19,BL]) ?_
    exact hk
   rw[if_neg c14]at h
   refine T_cFz 177 (eq_false_of_ne_true c14)<| T_kt<| T_srz 28 ?_
   refine N_cut [(8,vs e a d),(9,.bool ((ra==u) && (rb==s)))] ?_ ?_
   ·refine S_then ?_
    exact T_ret [8,9] [vs e a d,.bool ((ra==u) && (rb==s))] hQ h
   intro hk
   refine T_n 5 [(15,vi rb),(16,vi s),(182,vs e a d),(186,.bool (ra==u))] ?_
   by_cases c20:ra=u
   ·have b21:(ra==u)=true:=beq_iff_eq.mpr c20
    refine N_env [(15,vi rb),(16,vi s),(182,vs e a d),(186,.bool true)] (by rw[b21]) ?_
    refine T_n 6 [(8,vs e a d),(9,.bool (rb==s))] ?_
    refine N_end (by kernel_rfl) ?_
    refine S_env [(8,vs e a d),(9,.bool ((ra==u) && (rb==s)))] (by simp only[b21,BL]) ?_
    exact hk
   have b21:(ra==u)=false:=beq_eq_false_iff_ne.mpr c20
   refine N_env [(15,vi rb),(16,vi s),(182,vs e a d),(186,.bool false)] (by rw[b21]) ?_
   refine T_n 6 [(8,vs e a d),(9,.bool false)] ?_
   refine N_end (by kernel_rfl) ?_
   refine S_env [(8,vs e a d),(9,.bool ((ra==u) && (rb==s)))] (by simp only[b21,BL]) ?_
   exact hk
  intro hk
  refine T_n 3 [(3,vs e a d),(13,vu ra),(14,vu u),(15,vi rb),(16,vi s),(174,.bool (rb==0))] ?_
  by_cases c12:rb=0
  ·have b13:(rb==0)=true:=beq_iff_eq.mpr c12
   refine N_env [(3,vs e a d),(13,vu ra),(14,vu u),(15,vi rb),(16,vi s),(174,.bool true)] (by rw[b13]) ?_
   refine T_nd 3 [174] [(177,.bool (s==0))] ?_
   refine N_end (by kernel_rfl) ?_
   refine S_bd 177 (b:=(s==0)) (v:=((rb==0) && (s==0))) (by simp only[b13,BL]) ?_
   exact hk
  have b13:(rb==0)=false:=beq_eq_false_iff_ne.mpr c12
  refine N_env [(3,vs e a d),(13,vu ra),(14,vu u),(15,vi rb),(16,vi s),(174,.bool false)] (by rw[b13]) ?_
  refine T_nd 3 [174] [(177,.bool false)] ?_
  refine N_end (by kernel_rfl) ?_
  refine S_bd 177 (b:=false) (v:=((rb==0) && (s==0))) (by simp only[b13,BL]) ?_
  exact hk
 rw[if_neg c8]at h
 refine T_cFz 32 (beq_eq_false_iff_ne.mpr c8)<| T_srz 10<| T_ed 2 [32] [(50,.bool (t==1))] ?_
 by_cases c22:t=1
 ·rw[if_pos c22]at h
  refine T_cTz 50 (beq_iff_eq.mpr c22)<| T_sz ?_
  obtain⟨a4,q24,h⟩:=h
  refine S_regionG 11 (Code.ops K34) [(7,((ad b).add 3),[vi a4])] 13 (bv 13 0) (by kernel_rfl) (by kernel_rfl) (by kernel_rfl) (by kernel_rfl) (by kernel_rfl) (show FactsAt _ _ _ from⟨⟨q24,trivial⟩,trivial⟩) ?_
  refine T_gp 0 (some 53) (vp hv) (bv 13 1) [(1,vp m),(3,vs e a d),(6,vp (pa b)),(10,vu x),(12,vs i f j),(53,vp hv)]<| T_gp1 1 54 (vp (some ((ad b).add 3))) (bv 13 3) []<| T_g1 2 55 (vi a4) (bv 13 7) [54] (loadN 3 (vp (some ((ad b).add 3)))) (held_one 7 (λ_=>by kernel_rfl) (List.Mem.head _) (.inl (by kernel_rfl)))<| T_gp1 3 56 (vu x) (bv 13 15) []<| T_gp1 5 58 (vs i f j) (bv 13 47) [] ?_
  refine G_new 4 (some 57) (bv 13 63) (λb=>vs (pa b) 0 0) (.cells #[] 35) (by kernel_rfl) (λ_=>by kernel_rfl) (by kernel_rfl) ?_
  intro bm H11 e26 e27
  replace h:=h bm H11 e26 e27
  obtain⟨f25,h⟩:=h
  refine⟨[(1,vp m),(3,vs e a d),(6,vp (pa b)),(10,vu x),(12,vs i f j),(53,vp hv),(55,vi a4),(56,vu x),(57,vs (pa bm) 0 0),(58,vs i f j)],pk,(show FactsAt _ _ _ from⟨f25,trivial⟩),?_⟩
  refine G_only 6 (some 59) (bv 13 127) (appendN #[31,31] 31 #[vs (pa bm) 0 0,vs i f j]) _ (by kernel_rfl) (λ_=>by kernel_rfl) (ss_append (T:=35) (sz:=1) (bytes:=8) (zero:=(vu 0:Value)) Tryz.underlying31 Tryz.underlying31 rfl (show Tryz.prog.info? 35=some Tryz.t35 from by kernel_rfl) (by kernel_rfl) (by kernel_rfl) (by decide) (by kernel_rfl) (by first | exact h | (simpa only[Value.cells,List.toList_toArray]using h))) (by kernel_rfl) ?_;clear h
  rintro _ cd ⟨b0,bf,rfl,h⟩
  obtain⟨f28,h⟩:=h
  refine⟨[(1,vp m),(3,vs e a d),(6,vp (pa b)),(10,vu x),(12,vs i f j),(53,vp hv),(55,vi a4),(56,vu x),(59,vs b0 (0+f) bf)],pk,(show FactsAt _ _ _ from⟨f28,trivial⟩),?_⟩
  refine G_call 7 (some 60) (bv 13 255) 32 #[vp hv,vi a4,vu x,vs b0 (0+f) bf] (by kernel_rfl) (λ_=>by kernel_rfl) h (by kernel_rfl) ?_;clear h
  rintro cn cc ⟨o,n,rfl,h⟩
  refine⟨[(1,vp m),(3,vs e a d),(6,vp (pa b)),(10,vu x),(12,vs i f j),(60,.tuple #[vu o,vi n])],pk,(show FactsAt _ _ _ from⟨trivial,trivial⟩),?_⟩
  refine T_g 8 (some 52) (.tuple #[vu o,vi n]) (bv 13 511) [(1,vp m),(3,vs e a d),(6,vp (pa b)),(10,vu x),(12,vs i f j),(52,.tuple #[vu o,vi n])] (pure (.value (.tuple #[vu o,vi n])):Sem Next) (λ_ _ _ _ _=>rfl)<| T_g1 9 61 (vu o) (bv 13 1023) [] (pure (.value (vu o)):Sem Next) (λ_ _ _ _ _=>rfl)<| T_g1 10 62 (vi n) (bv 13 2047) [52] (pure (.value (vi n)):Sem Next) (λ_ _ _ _ _=>rfl)<| T_g1 11 13 (vu o) (bv 13 4095) [61] (pure (.value (vu o)):Sem Next) (λ_ _ _ _ _=>rfl)<| T_g1 12 15 (vi n) (bv 13 8191) [62] (pure (.value (vi n)):Sem Next) (λ_ _ _ _ _=>rfl) ?_
  refine G_sub [(1,vp m),(3,vs e a d),(6,vp (pa b)),(10,vu x),(12,vs i f j),(13,vu o),(15,vi n)] sk ?_
  refine G_end (by kernel_rfl) ?_
  refine S_then ?_
  refine T_rz 12<| T_n 2 [(3,vs e a d),(10,vu x),(12,vs i f j),(13,vu o),(15,vi n),(64,vp m),(65,vp (some ((ad b).add 3)))] ?_
  obtain⟨bh,q29,h⟩:=h
  refine T_l1 66 3 q29 [65]<| T_nd 2 [10,12] [(67,vu x),(68,vs i f j)] ?_
  refine T_c (some 69) h ?_;clear h
  rintro c0 b2 ⟨y,r,rfl,h⟩
  refine T_pd [64,66,67,68] [(69,.tuple #[vu y,vi r])]<| T_nd 5 [69] [(14,vu y),(16,vi r)] ?_
  refine N_end (by kernel_rfl) ?_
  refine S_blockEnd ?_
  refine S_then ?_
  refine T_sz<| T_srz 26 ?_
  refine N_cut [(3,vs e a d),(13,vu o),(14,vu y),(15,vi n),(16,vi r),(177,.bool ((n==0) && (r==0)))] ?_ ?_
  ·refine S_then ?_
   by_cases c32:((n==0) && (r==0))=true
   ·rw[if_pos c32]at h
    refine T_cTz 177 c32<| T_rz 27<| T_n 2 [(13,vu o),(14,vu y),(15,vi n),(16,vi r),(178,vs e a d),(179,vu o)]<| T_nw (some 180) (λb=>vs (pa b) 1 1) (.cells #[vu o] 35) ?_
    intro bn H15 e34 e35
    replace h:=h bn H15 e34 e35
    refine T_pd [179] [(180,vs (pa bn) 1 1)] ?_
    refine N_op (some 181) (appendN #[31,31] 31 #[vs e a d,vs (pa bn) 1 1]) _ (λ_=>by kernel_rfl) (ss_append (T:=35) (sz:=1) (bytes:=8) (zero:=(vu 0:Value)) Tryz.underlying31 Tryz.underlying31 rfl (show Tryz.prog.info? 35=some Tryz.t35 from by kernel_rfl) (by kernel_rfl) (by kernel_rfl) (by decide) (by kernel_rfl) (by first | exact h | (simpa only[Value.cells,List.toList_toArray]using h))) ?_;clear h
    rintro _ co ⟨av,af,rfl,h⟩
    refine T_pd [178,180] [(181,vs av (a+1) af)]<| T_ed 1 [181] [(3,vs av (a+1) af)]<| T_srz 28 ?_
    refine N_cut [(8,vs av (a+1) af),(9,.bool ((o==y) && (n==r)))] ?_ ?_
    ·refine S_then ?_
     exact T_ret [8,9] [vs av (a+1) af,.bool ((o==y) && (n==r))] hQ h
    intro hk
    refine T_n 5 [(15,vi n),(16,vi r),(182,vs av (a+1) af),(186,.bool (o==y))] ?_
    by_cases c36:o=y
    ·have b37:(o==y)=true:=beq_iff_eq.mpr c36
     refine N_env [(15,vi n),(16,vi r),(182,vs av (a+1) af),(186,.bool true)] (by rw[b37]) ?_
     refine T_n 6 [(8,vs av (a+1) af),(9,.bool (n==r))] ?_
     refine N_end (by kernel_rfl) ?_
     refine S_env [(8,vs av (a+1) af),(9,.bool ((o==y) && (n==r)))] (by simp only[b37,BL]) ?_
     exact hk
    have b37:(o==y)=false:=beq_eq_false_iff_ne.mpr c36
    refine N_env [(15,vi n),(16,vi r),(182,vs av (a+1) af),(186,.bool false)] (by rw[b37]) ?_
    refine T_n 6 [(8,vs av (a+1) af),(9,.bool false)] ?_
    refine N_end (by kernel_rfl) ?_
    refine S_env [(8,vs av (a+1) af),(9,.bool ((o==y) && (n==r)))] (by simp only[b37,BL]) ?_
    exact hk
   rw[if_neg c32]at h
   refine T_cFz 177 (eq_false_of_ne_true c32)<| T_kt<| T_srz 28 ?_
   refine N_cut [(8,vs e a d),(9,.bool ((o==y) && (n==r)))] ?_ ?_
   ·refine S_then ?_
    exact T_ret [8,9] [vs e a d,.bool ((o==y) && (n==r))] hQ h
   intro hk
   refine T_n 5 [(15,vi n),(16,vi r),(182,vs e a d),(186,.bool (o==y))] ?_
   by_cases c38:o=y
   ·have b39:(o==y)=true:=beq_iff_eq.mpr c38
    refine N_env [(15,vi n),(16,vi r),(182,vs e a d),(186,.bool true)] (by rw[b39]) ?_
    refine T_n 6 [(8,vs e a d),(9,.bool (n==r))] ?_
    refine N_end (by kernel_rfl) ?_
    refine S_env [(8,vs e a d),(9,.bool ((o==y) && (n==r)))] (by simp only[b39,BL]) ?_
    exact hk
   have b39:(o==y)=false:=beq_eq_false_iff_ne.mpr c38
   refine N_env [(15,vi n),(16,vi r),(182,vs e a d),(186,.bool false)] (by rw[b39]) ?_
   refine T_n 6 [(8,vs e a d),(9,.bool false)] ?_
   refine N_end (by kernel_rfl) ?_
   refine S_env [(8,vs e a d),(9,.bool ((o==y) && (n==r)))] (by simp only[b39,BL]) ?_
   exact hk
  intro hk
  refine T_n 3 [(3,vs e a d),(13,vu o),(14,vu y),(15,vi n),(16,vi r),(174,.bool (n==0))] ?_
  by_cases c30:n=0
  ·have b31:(n==0)=true:=beq_iff_eq.mpr c30
   refine N_env [(3,vs e a d),(13,vu o),(14,vu y),(15,vi n),(16,vi r),(174,.bool true)] (by rw[b31]) ?_
   refine T_nd 3 [174] [(177,.bool (r==0))] ?_
   refine N_end (by kernel_rfl) ?_
   refine S_bd 177 (b:=(r==0)) (v:=((n==0) && (r==0))) (by simp only[b31,BL]) ?_
   exact hk
  have b31:(n==0)=false:=beq_eq_false_iff_ne.mpr c30
  refine N_env [(3,vs e a d),(13,vu o),(14,vu y),(15,vi n),(16,vi r),(174,.bool false)] (by rw[b31]) ?_
  refine T_nd 3 [174] [(177,.bool false)] ?_
  refine N_end (by kernel_rfl) ?_
  refine S_bd 177 (b:=false) (v:=((n==0) && (r==0))) (by simp only[b31,BL]) ?_
  exact hk
 rw[if_neg c22]at h
 refine T_cFz 50 (beq_eq_false_iff_ne.mpr c22)<| T_srz 13<| T_ed 2 [50] [(72,.bool (t==2))] ?_
 by_cases c40:t=2
 ·rw[if_pos c40]at h
  refine T_cTz 72 (beq_iff_eq.mpr c40)<| T_srz 14<| T_nd 3 [0,11,12,30,72] [(75,vp hv),(76,vu x),(77,vp (some ((ad b).add 2)))] ?_
  obtain⟨bd,q42,h⟩:=h
  refine T_l1 78 3 q42 [77]<| T_nd 1 [] [(79,vp (some ((ad b).add 3)))] ?_
  obtain⟨bj,q43,h⟩:=h
  refine T_l1 80 3 q43 [79] ?_
  refine T_c (some 81) h ?_;clear h
  rintro cv b6 ⟨aa,ab,rfl,h⟩
  refine T_pd [75,76,78,80] [(81,.tuple #[vu aa,vi ab])]<| T_ed 5 [81] [(13,vu aa),(15,vi ab)]<| T_srz 15<| T_nd 3 [1,10] [(85,vp m),(86,vu x),(87,vp (some ((ad b).add 2)))] ?_
  obtain⟨be,q44,h⟩:=h
  refine T_l1 88 3 q44 [87]<| T_nd 1 [6] [(89,vp (some ((ad b).add 3)))] ?_
  obtain⟨bl,q45,h⟩:=h
  refine T_l1 90 3 q45 [89] ?_
  refine T_c (some 91) h ?_;clear h
  rintro cu cp ⟨au,am,rfl,h⟩
  refine T_pd [85,86,88,90] [(91,.tuple #[vu au,vi am])]<| T_ed 5 [91] [(14,vu au),(16,vi am)]<| T_srz 16 ?_
  refine N_cut [(8,vs e a d),(9,.bool ((aa==au) && (ab==am)))] ?_ ?_
  ·refine S_then ?_
   exact T_ret [8,9] [vs e a d,.bool ((aa==au) && (ab==am))] hQ h
  intro hk
  refine T_n 5 [(15,vi ab),(16,vi am),(94,vs e a d),(98,.bool (aa==au))] ?_
  by_cases c46:aa=au
  ·have b47:(aa==au)=true:=beq_iff_eq.mpr c46
   refine N_env [(15,vi ab),(16,vi am),(94,vs e a d),(98,.bool true)] (by rw[b47]) ?_
   refine T_n 6 [(8,vs e a d),(9,.bool (ab==am))] ?_
   refine N_end (by kernel_rfl) ?_
   refine S_env [(8,vs e a d),(9,.bool ((aa==au) && (ab==am)))] (by simp only[b47,BL]) ?_
   exact hk
  have b47:(aa==au)=false:=beq_eq_false_iff_ne.mpr c46
  refine N_env [(15,vi ab),(16,vi am),(94,vs e a d),(98,.bool false)] (by rw[b47]) ?_
  refine T_n 6 [(8,vs e a d),(9,.bool false)] ?_
  refine N_end (by kernel_rfl) ?_
  refine S_env [(8,vs e a d),(9,.bool ((aa==au) && (ab==am)))] (by simp only[b47,BL]) ?_
  exact hk
 rw[if_neg c40]at h
 refine T_cFz 72 (beq_eq_false_iff_ne.mpr c40)<| T_srz 17<| T_ed 2 [72] [(103,.bool (t==3))] ?_
 by_cases c48:t=3
 ·rw[if_pos c48]at h
  refine T_cTz 103 (beq_iff_eq.mpr c48)<| T_sz ?_
  obtain⟨ac,q50,h⟩:=h
  obtain⟨ai,q51,h⟩:=h
  obtain⟨ay,q52,h⟩:=h
  obtain⟨a1,q53,h⟩:=h
  refine S_regionG 18 (Code.ops K50) [(8,((ad b).add 2),[vi ac]),(8,((ad b).add 3),[vi ai]),(16,((ad b).add 2),[vi ay]),(16,((ad b).add 3),[vi a1])] 20 (bv 20 0) (by kernel_rfl) (by kernel_rfl) (by kernel_rfl) (by kernel_rfl) (by kernel_rfl) (show FactsAt _ _ _ from⟨⟨q50,trivial⟩,⟨q51,trivial⟩,⟨q52,trivial⟩,⟨q53,trivial⟩,trivial⟩) ?_
  refine T_gp 0 (some 105) (vs e a d) (bv 20 1) [(0,vp hv),(1,vp m),(6,vp (pa b)),(10,vu x),(11,vu k),(105,vs e a d)]<| T_gp1 1 106 (vp hv) (bv 20 3) [0]<| T_gp1 2 107 (vu x) (bv 20 7) []<| T_gp1 3 108 (vp (some ((ad b).add 2))) (bv 20 15) []<| T_g1 4 109 (vi ac) (bv 20 31) [108] (loadN 3 (vp (some ((ad b).add 2)))) (held_one 8 (λ_=>by kernel_rfl) (List.Mem.head _) (.inl (by kernel_rfl)))<| T_gp1 5 110 (vp (some ((ad b).add 3))) (bv 20 63) []<| T_g1 6 111 (vi ai) (bv 20 127) [110] (loadN 3 (vp (some ((ad b).add 3)))) (held_one 8 (λ_=>by kernel_rfl) (List.Mem.tail _ (List.Mem.head _)) (.inl (by kernel_rfl)))<| T_gp1 7 112 (vu k) (bv 20 255) []<| T_gp1 9 114 (vp m) (bv 20 767) [1] ?_
  refine T_gp1 10 115 (vu x) (bv 20 1791) [10]<| T_gp1 11 116 (vp (some ((ad b).add 2))) (bv 20 3839) []<| T_g1 12 117 (vi ay) (bv 20 7935) [116] (loadN 3 (vp (some ((ad b).add 2)))) (held_one 16 (λ_=>by kernel_rfl) (List.Mem.tail _ (List.Mem.tail _ (List.Mem.head _))) (.inl (by kernel_rfl)))<| T_gp1 13 118 (vp (some ((ad b).add 3))) (bv 20 16127) [6]<| T_g1 14 119 (vi a1) (bv 20 32511) [118] (loadN 3 (vp (some ((ad b).add 3)))) (held_one 16 (λ_=>by kernel_rfl) (List.Mem.tail _ (List.Mem.tail _ (List.Mem.tail _ (List.Mem.head _)))) (.inl (by kernel_rfl)))<| T_gp1 15 120 (vu k) (bv 20 65279) [11] ?_
  refine G_call 8 (some 113) (bv 20 65535) 43 #[vp hv,vu x,vi ac,vi ai,vu k] (by kernel_rfl) (λ_=>by kernel_rfl) h (by kernel_rfl) ?_;clear h
  rintro ch b4 ⟨ak,rfl,h⟩
  obtain⟨f54,f55,h⟩:=h
  refine⟨[(105,vs e a d),(113,vi ak),(114,vp m),(115,vu x),(117,vi ay),(119,vi a1),(120,vu k)],pk,(show FactsAt _ _ _ from⟨trivial,trivial,f54,f55,trivial⟩),?_⟩
  refine G_call 16 (some 121) (bv 20 131071) 44 #[vp m,vu x,vi ay,vi a1,vu k] (by kernel_rfl) (λ_=>by kernel_rfl) h (by kernel_rfl) ?_;clear h
  rintro cj cs ⟨aw,rfl,h⟩
  refine⟨[(105,vs e a d),(113,vi ak),(121,vi aw)],pk,(show FactsAt _ _ _ from⟨trivial,trivial,trivial,trivial,trivial⟩),?_⟩
  refine T_g 17 (some 122) (.bool (ak==aw)) (bv 20 262143) [(105,vs e a d),(122,.bool (ak==aw))] (pure (.value (.bool (ak==aw))):Sem Next) (λ_ _ _ _ _=>rfl)<| T_g1 18 8 (vs e a d) (bv 20 524287) [105] (pure (.value (vs e a d)):Sem Next) (λ_ _ _ _ _=>rfl)<| T_g1 19 9 (.bool (ak==aw)) (bv 20 1048575) [122] (pure (.value (.bool (ak==aw))):Sem Next) (λ_ _ _ _ _=>rfl) ?_
  refine G_sub [(8,vs e a d),(9,.bool (ak==aw))] sk ?_
  refine G_end (by kernel_rfl) ?_
  refine S_then ?_
  exact T_ret [8,9] [vs e a d,.bool (ak==aw)] hQ h
 rw[if_neg c48]at h
 refine T_cFz 103 (beq_eq_false_iff_ne.mpr c48)<| T_srz 19<| T_ed 2 [103] [(123,.bool (t==4))] ?_
 by_cases c56:t=4
 ·rw[if_pos c56]at h
  refine T_cTz 123 (beq_iff_eq.mpr c56)<| T_srz 20<| T_n 5 [(125,vs e a d),(126,vp hv),(127,vp m),(128,vu x),(129,vp (some ((ad b).add 3)))] ?_
  obtain⟨a9,q58,h⟩:=h
  refine T_l1 130 3 q58 [129] ?_
  refine T_c (some 131) h ?_;clear h
  rintro ck cz ⟨ba,rfl,h⟩
  refine⟨[(125,vs e a d),(131,.bool ba)],pk,?_⟩
  exact T_nr 2 [8,9] [vs e a d,.bool ba] hQ h
 rw[if_neg c56]at h
 refine T_cFz 123 (beq_eq_false_iff_ne.mpr c56)<| T_srz 21<| T_ed 2 [123] [(132,.bool (t==5))] ?_
 by_cases c59:t=5
 ·rw[if_pos c59]at h
  refine T_cTz 132 (beq_iff_eq.mpr c59)<| T_sz ?_
  obtain⟨az,q61,h⟩:=h
  refine S_regionG 22 (Code.ops K62) [(6,((ad b).add 1),[vi az])] 12 (bv 12 0) (by kernel_rfl) (by kernel_rfl) (by kernel_rfl) (by kernel_rfl) (by kernel_rfl) (show FactsAt _ _ _ from⟨⟨q61,trivial⟩,trivial⟩) ?_
  refine T_gp 0 (some 135) (vp hv) (bv 12 1) [(1,vp m),(3,vs e a d),(6,vp (pa b)),(12,vs i f j),(135,vp hv)]<| T_gp1 1 136 (vp (some ((ad b).add 1))) (bv 12 3) []<| T_g1 2 137 (vi az) (bv 12 7) [136] (loadN 3 (vp (some ((ad b).add 1)))) (held_one 6 (λ_=>by kernel_rfl) (List.Mem.head _) (.inl (by kernel_rfl)))<| T_gp1 4 139 (vs i f j) (bv 12 23) [] ?_
  refine G_new 3 (some 138) (bv 12 31) (λb=>vs (pa b) 0 0) (.cells #[] 35) (by kernel_rfl) (λ_=>by kernel_rfl) (by kernel_rfl) ?_
  intro bo H22 e63 e64
  replace h:=h bo H22 e63 e64
  obtain⟨f62,h⟩:=h
  refine⟨[(1,vp m),(3,vs e a d),(6,vp (pa b)),(12,vs i f j),(135,vp hv),(137,vi az),(138,vs (pa bo) 0 0),(139,vs i f j)],pk,(show FactsAt _ _ _ from⟨f62,trivial⟩),?_⟩
  refine G_only 5 (some 140) (bv 12 63) (appendN #[31,31] 31 #[vs (pa bo) 0 0,vs i f j]) _ (by kernel_rfl) (λ_=>by kernel_rfl) (ss_append (T:=35) (sz:=1) (bytes:=8) (zero:=(vu 0:Value)) Tryz.underlying31 Tryz.underlying31 rfl (show Tryz.prog.info? 35=some Tryz.t35 from by kernel_rfl) (by kernel_rfl) (by kernel_rfl) (by decide) (by kernel_rfl) (by first | exact h | (simpa only[Value.cells,List.toList_toArray]using h))) (by kernel_rfl) ?_;clear h
  rintro _ cf ⟨b1,bg,rfl,h⟩
  obtain⟨f65,h⟩:=h
  refine⟨[(1,vp m),(3,vs e a d),(6,vp (pa b)),(12,vs i f j),(135,vp hv),(137,vi az),(140,vs b1 (0+f) bg)],pk,(show FactsAt _ _ _ from⟨f65,trivial⟩),?_⟩
  refine G_call 6 (some 141) (bv 12 127) 45 #[vp hv,vi az,vu 0,vs b1 (0+f) bg] (by kernel_rfl) (λ_=>by kernel_rfl) h (by kernel_rfl) ?_;clear h
  rintro cg ci ⟨p,l,rfl,h⟩
  refine⟨[(1,vp m),(3,vs e a d),(6,vp (pa b)),(12,vs i f j),(141,.tuple #[vu p,vi l])],pk,(show FactsAt _ _ _ from⟨trivial,trivial⟩),?_⟩
  refine T_g 7 (some 134) (.tuple #[vu p,vi l]) (bv 12 255) [(1,vp m),(3,vs e a d),(6,vp (pa b)),(12,vs i f j),(134,.tuple #[vu p,vi l])] (pure (.value (.tuple #[vu p,vi l])):Sem Next) (λ_ _ _ _ _=>rfl)<| T_g1 8 142 (vu p) (bv 12 511) [] (pure (.value (vu p)):Sem Next) (λ_ _ _ _ _=>rfl)<| T_g1 9 143 (vi l) (bv 12 1023) [134] (pure (.value (vi l)):Sem Next) (λ_ _ _ _ _=>rfl)<| T_g1 10 13 (vu p) (bv 12 2047) [142] (pure (.value (vu p)):Sem Next) (λ_ _ _ _ _=>rfl)<| T_g1 11 15 (vi l) (bv 12 4095) [143] (pure (.value (vi l)):Sem Next) (λ_ _ _ _ _=>rfl) ?_
  refine G_sub [(1,vp m),(3,vs e a d),(6,vp (pa b)),(12,vs i f j),(13,vu p),(15,vi l)] sk ?_
  refine G_end (by kernel_rfl) ?_
  refine S_then ?_
  refine T_rz 23<| T_n 2 [(3,vs e a d),(12,vs i f j),(13,vu p),(15,vi l),(145,vp m),(146,vp (some ((ad b).add 1)))] ?_
  obtain⟨a8,q66,h⟩:=h
  refine T_l1 147 3 q66 [146]<| T_nd 1 [12] [(148,vs i f j)] ?_
  refine T_c (some 149) h ?_;clear h
  rintro b8 b3 ⟨z,q,rfl,h⟩
  refine T_pd [145,147,148] [(149,.tuple #[vu z,vi q])]<| T_nd 5 [149] [(14,vu z),(16,vi q)] ?_
  refine N_end (by kernel_rfl) ?_
  refine S_blockEnd ?_
  refine S_then ?_
  refine T_sz<| T_srz 26 ?_
  refine N_cut [(3,vs e a d),(13,vu p),(14,vu z),(15,vi l),(16,vi q),(177,.bool ((l==0) && (q==0)))] ?_ ?_
  ·refine S_then ?_
   by_cases c69:((l==0) && (q==0))=true
   ·rw[if_pos c69]at h
    refine T_cTz 177 c69<| T_rz 27<| T_n 2 [(13,vu p),(14,vu z),(15,vi l),(16,vi q),(178,vs e a d),(179,vu p)]<| T_nw (some 180) (λb=>vs (pa b) 1 1) (.cells #[vu p] 35) ?_
    intro bp H26 e71 e72
    replace h:=h bp H26 e71 e72
    refine T_pd [179] [(180,vs (pa bp) 1 1)] ?_
    refine N_op (some 181) (appendN #[31,31] 31 #[vs e a d,vs (pa bp) 1 1]) _ (λ_=>by kernel_rfl) (ss_append (T:=35) (sz:=1) (bytes:=8) (zero:=(vu 0:Value)) Tryz.underlying31 Tryz.underlying31 rfl (show Tryz.prog.info? 35=some Tryz.t35 from by kernel_rfl) (by kernel_rfl) (by kernel_rfl) (by decide) (by kernel_rfl) (by first | exact h | (simpa only[Value.cells,List.toList_toArray]using h))) ?_;clear h
    rintro _ cw ⟨aq,ag,rfl,h⟩
    refine T_pd [178,180] [(181,vs aq (a+1) ag)]<| T_ed 1 [181] [(3,vs aq (a+1) ag)]<| T_srz 28 ?_
    refine N_cut [(8,vs aq (a+1) ag),(9,.bool ((p==z) && (l==q)))] ?_ ?_
    ·refine S_then ?_
     exact T_ret [8,9] [vs aq (a+1) ag,.bool ((p==z) && (l==q))] hQ h
    intro hk
    refine T_n 5 [(15,vi l),(16,vi q),(182,vs aq (a+1) ag),(186,.bool (p==z))] ?_
    by_cases c73:p=z
    ·have b74:(p==z)=true:=beq_iff_eq.mpr c73
     refine N_env [(15,vi l),(16,vi q),(182,vs aq (a+1) ag),(186,.bool true)] (by rw[b74]) ?_
     refine T_n 6 [(8,vs aq (a+1) ag),(9,.bool (l==q))] ?_
     refine N_end (by kernel_rfl) ?_
     refine S_env [(8,vs aq (a+1) ag),(9,.bool ((p==z) && (l==q)))] (by simp only[b74,BL]) ?_
     exact hk
    have b74:(p==z)=false:=beq_eq_false_iff_ne.mpr c73
    refine N_env [(15,vi l),(16,vi q),(182,vs aq (a+1) ag),(186,.bool false)] (by rw[b74]) ?_
    refine T_n 6 [(8,vs aq (a+1) ag),(9,.bool false)] ?_
    refine N_end (by kernel_rfl) ?_
    refine S_env [(8,vs aq (a+1) ag),(9,.bool ((p==z) && (l==q)))] (by simp only[b74,BL]) ?_
    exact hk
   rw[if_neg c69]at h
   refine T_cFz 177 (eq_false_of_ne_true c69)<| T_kt<| T_srz 28 ?_
   refine N_cut [(8,vs e a d),(9,.bool ((p==z) && (l==q)))] ?_ ?_
   ·refine S_then ?_
    exact T_ret [8,9] [vs e a d,.bool ((p==z) && (l==q))] hQ h
   intro hk
   refine T_n 5 [(15,vi l),(16,vi q),(182,vs e a d),(186,.bool (p==z))] ?_
   by_cases c75:p=z
   ·have b76:(p==z)=true:=beq_iff_eq.mpr c75
    refine N_env [(15,vi l),(16,vi q),(182,vs e a d),(186,.bool true)] (by rw[b76]) ?_
    refine T_n 6 [(8,vs e a d),(9,.bool (l==q))] ?_
    refine N_end (by kernel_rfl) ?_
    refine S_env [(8,vs e a d),(9,.bool ((p==z) && (l==q)))] (by simp only[b76,BL]) ?_
    exact hk
   have b76:(p==z)=false:=beq_eq_false_iff_ne.mpr c75
   refine N_env [(15,vi l),(16,vi q),(182,vs e a d),(186,.bool false)] (by rw[b76]) ?_
   refine T_n 6 [(8,vs e a d),(9,.bool false)] ?_
   refine N_end (by kernel_rfl) ?_
   refine S_env [(8,vs e a d),(9,.bool ((p==z) && (l==q)))] (by simp only[b76,BL]) ?_
   exact hk
  intro hk
  refine T_n 3 [(3,vs e a d),(13,vu p),(14,vu z),(15,vi l),(16,vi q),(174,.bool (l==0))] ?_
  by_cases c67:l=0
  ·have b68:(l==0)=true:=beq_iff_eq.mpr c67
   refine N_env [(3,vs e a d),(13,vu p),(14,vu z),(15,vi l),(16,vi q),(174,.bool true)] (by rw[b68]) ?_
   refine T_nd 3 [174] [(177,.bool (q==0))] ?_
   refine N_end (by kernel_rfl) ?_
   refine S_bd 177 (b:=(q==0)) (v:=((l==0) && (q==0))) (by simp only[b68,BL]) ?_
   exact hk
  have b68:(l==0)=false:=beq_eq_false_iff_ne.mpr c67
  refine N_env [(3,vs e a d),(13,vu p),(14,vu z),(15,vi l),(16,vi q),(174,.bool false)] (by rw[b68]) ?_
  refine T_nd 3 [174] [(177,.bool false)] ?_
  refine N_end (by kernel_rfl) ?_
  refine S_bd 177 (b:=false) (v:=((l==0) && (q==0))) (by simp only[b68,BL]) ?_
  exact hk
 rw[if_neg c59]at h
 refine T_cFz 132 (beq_eq_false_iff_ne.mpr c59)<| T_srz 24<| T_ed 2 [12,30,132] [(152,.bool (t==6))] ?_
 by_cases c77:t=6
 ·rw[if_pos c77]at h
  refine T_cTz 152 (beq_iff_eq.mpr c77)<| T_sz ?_
  obtain⟨ae,q79,h⟩:=h
  obtain⟨aj,q80,h⟩:=h
  obtain⟨a0,q81,h⟩:=h
  obtain⟨a3,q82,h⟩:=h
  refine S_regionG 25 (Code.ops K68) [(8,((ad b).add 1),[vi ae]),(8,((ad b).add 3),[vi aj]),(16,((ad b).add 1),[vi a0]),(16,((ad b).add 3),[vi a3])] 20 (bv 20 0) (by kernel_rfl) (by kernel_rfl) (by kernel_rfl) (by kernel_rfl) (by kernel_rfl) (show FactsAt _ _ _ from⟨⟨q79,trivial⟩,⟨q80,trivial⟩,⟨q81,trivial⟩,⟨q82,trivial⟩,trivial⟩) ?_
  refine T_gp 0 (some 154) (vs e a d) (bv 20 1) [(0,vp hv),(1,vp m),(6,vp (pa b)),(10,vu x),(11,vu k),(154,vs e a d)]<| T_gp1 1 155 (vp hv) (bv 20 3) [0]<| T_gp1 2 156 (vu x) (bv 20 7) []<| T_gp1 3 157 (vp (some ((ad b).add 1))) (bv 20 15) []<| T_g1 4 158 (vi ae) (bv 20 31) [157] (loadN 3 (vp (some ((ad b).add 1)))) (held_one 8 (λ_=>by kernel_rfl) (List.Mem.head _) (.inl (by kernel_rfl)))<| T_gp1 5 159 (vp (some ((ad b).add 3))) (bv 20 63) []<| T_g1 6 160 (vi aj) (bv 20 127) [159] (loadN 3 (vp (some ((ad b).add 3)))) (held_one 8 (λ_=>by kernel_rfl) (List.Mem.tail _ (List.Mem.head _)) (.inl (by kernel_rfl)))<| T_gp1 7 161 (vu k) (bv 20 255) []<| T_gp1 9 163 (vp m) (bv 20 767) [1] ?_
  refine T_gp1 10 164 (vu x) (bv 20 1791) [10]<| T_gp1 11 165 (vp (some ((ad b).add 1))) (bv 20 3839) []<| T_g1 12 166 (vi a0) (bv 20 7935) [165] (loadN 3 (vp (some ((ad b).add 1)))) (held_one 16 (λ_=>by kernel_rfl) (List.Mem.tail _ (List.Mem.tail _ (List.Mem.head _))) (.inl (by kernel_rfl)))<| T_gp1 13 167 (vp (some ((ad b).add 3))) (bv 20 16127) [6]<| T_g1 14 168 (vi a3) (bv 20 32511) [167] (loadN 3 (vp (some ((ad b).add 3)))) (held_one 16 (λ_=>by kernel_rfl) (List.Mem.tail _ (List.Mem.tail _ (List.Mem.tail _ (List.Mem.head _)))) (.inl (by kernel_rfl)))<| T_gp1 15 169 (vu k) (bv 20 65279) [11] ?_
  refine G_call 8 (some 162) (bv 20 65535) 47 #[vp hv,vu x,vi ae,vi aj,vu k] (by kernel_rfl) (λ_=>by kernel_rfl) h (by kernel_rfl) ?_;clear h
  rintro cl b5 ⟨al,rfl,h⟩
  obtain⟨f83,f84,h⟩:=h
  refine⟨[(154,vs e a d),(162,vi al),(163,vp m),(164,vu x),(166,vi a0),(168,vi a3),(169,vu k)],pk,(show FactsAt _ _ _ from⟨trivial,trivial,f83,f84,trivial⟩),?_⟩
  refine G_call 16 (some 170) (bv 20 131071) 48 #[vp m,vu x,vi a0,vi a3,vu k] (by kernel_rfl) (λ_=>by kernel_rfl) h (by kernel_rfl) ?_;clear h
  rintro ce cy ⟨ao,rfl,h⟩
  refine⟨[(154,vs e a d),(162,vi al),(170,vi ao)],pk,(show FactsAt _ _ _ from⟨trivial,trivial,trivial,trivial,trivial⟩),?_⟩
  refine T_g 17 (some 171) (.bool (al==ao)) (bv 20 262143) [(154,vs e a d),(171,.bool (al==ao))] (pure (.value (.bool (al==ao))):Sem Next) (λ_ _ _ _ _=>rfl)<| T_g1 18 8 (vs e a d) (bv 20 524287) [154] (pure (.value (vs e a d)):Sem Next) (λ_ _ _ _ _=>rfl)<| T_g1 19 9 (.bool (al==ao)) (bv 20 1048575) [171] (pure (.value (.bool (al==ao))):Sem Next) (λ_ _ _ _ _=>rfl) ?_
  refine G_sub [(8,vs e a d),(9,.bool (al==ao))] sk ?_
  refine G_end (by kernel_rfl) ?_
  refine S_then ?_
  exact T_ret [8,9] [vs e a d,.bool (al==ao)] hQ h
 rw[if_neg c77]at h
 exact T_cFz 152 (beq_eq_false_iff_ne.mpr c77)<| T_srz 6<| T_nr 3 [8,9] [vs e a d,.bool true] hQ h
end morainelaw20_does

end Go.Proofs.YtibpklpgmgakcaaGreat
