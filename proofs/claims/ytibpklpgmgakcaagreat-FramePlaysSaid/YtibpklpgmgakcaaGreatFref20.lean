/- Printed: what each function asks, and that it is sound. -/
import Derived.Test.YtibpklpgmgakcaaGreatFnsC
set_option linter.unusedSimpArgs false
set_option linter.unusedVariables false
set_option maxRecDepth 100000
set_option maxHeartbeats 1000000
noncomputable section
namespace Go.Proofs.YtibpklpgmgakcaaGreat
open Go
/-! moraine/moraineref20.Extend -/
namespace moraineref20_Extend
def K0:=Func.code Tryz.f40
end moraineref20_Extend
def moraineref20_Extend.pt(hv:Option Addr)(a:Int)(e:Option Addr)(d f:Nat)(H:Array Obj)(R:Value->Array Obj->Prop):Prop:=
 moraineref20_is.C hv a 7 0 H (λv H1=> ∃(ra:Int) (rb:Bool),v=.tuple #[.int .i64 ra,.bool rb]/\
 if((!rb) && (a !=20))=true then(
 R (.tuple #[.int .u64 0,.int .i64 3]) H1)
 else
 ∀(b:Nat) (H2:Array Obj),b=H1.size->H2=H1.push (.cells #[.int .u64 a] 35)->
 appendK 1 35 8 [.int .u64 0] (some (ad b)) 1 1 e d H2 (λap k H3=>
 moraineref10_Heap_Make.C hv 7 0 ap (1+d) k H3 (λl H4=> ∃j i:Int,l=.tuple #[.int .u64 j,.int .i64 i]/\
 R (.tuple #[.int .u64 j,.int .i64 i]) H4)))
namespace moraineref20_Extend
theorem link{hv:Option Addr}{a:Int}{e:Option Addr}{d f:Nat}{H:Array Obj}{R:Value->Array Obj->Prop}(h:pt hv a e d f H R):C hv a e d f H R:=by
 refine T_en K0 32 Tryz.func40 ?_
 intro w0 Q hQ
 unfold pt at h
 refine T_su [(0,vp hv),(1,vu a),(2,vs e d f)]<| T_srz 0<| T_ed 2 [] []<| T_sz<| T_srz 1<| T_nd 2 [] [(12,vp hv),(13,vu a)] ?_
 refine T_c (some 14) h ?_;clear h
 rintro v H1 ⟨ra,rb,rfl,h⟩
 refine T_pd [12,13] [(14,.tuple #[vi ra,.bool rb])]<| T_ed 5 [14] [(9,.bool rb)]<| T_srz 2 ?_
 refine N_cut [(0,vp hv),(1,vu a),(2,vs e d f),(22,.bool ((!rb) && (a !=20)))] ?_ ?_
 ·refine S_then ?_
  by_cases c3:((!rb) && (a !=20))=true
  ·rw[if_pos c3]at h
   exact T_cTz 22 c3<| T_srz 3<| T_nr 2 [6,7] [vu 0,vi 3] hQ h
  rw[if_neg c3]at h
  refine T_cFz 22 (eq_false_of_ne_true c3)<| T_kt<| T_srz 4<| T_n 1 [(0,vp hv),(2,vs e d f),(23,vu a)]<| T_nw (some 24) (λb=>vs (pa b) 1 1) (.cells #[vu a] 35) ?_
  intro b H2 e5 e6
  replace h:=h b H2 e5 e6
  refine T_pd [23] [(24,vs (pa b) 1 1)]<| T_ed 1 [24] [(10,vs (pa b) 1 1)]<| T_srz 5<| T_n 3 [(25,vp hv),(26,vs (pa b) 1 1),(27,vs e d f)] ?_
  refine N_op (some 28) (appendN #[31,31] 31 #[vs (pa b) 1 1,vs e d f]) _ (λ_=>by kernel_rfl) (ss_append (T:=35) (sz:=1) (bytes:=8) (zero:=(vu 0:Value)) Tryz.underlying31 Tryz.underlying31 rfl (show Tryz.prog.info? 35=some Tryz.t35 from by kernel_rfl) (by kernel_rfl) (by kernel_rfl) (by decide) (by kernel_rfl) (by first | exact h | (simpa only[Value.cells,List.toList_toArray]using h))) ?_;clear h
  rintro _ H3 ⟨ap,k,rfl,h⟩
  refine T_pd [26,27] [(28,vs ap (1+d) k)] ?_
  refine T_c (some 29) h ?_;clear h
  rintro l H4 ⟨j,i,rfl,h⟩
  refine⟨[(29,.tuple #[vu j,vi i])],pk,?_⟩
  exact T_nr 4 [6,7] [vu j,vi i] hQ h
 intro hk
 refine T_n 3 [(0,vp hv),(1,vu a),(2,vs e d f),(19,.bool (!rb))] ?_
 by_cases c1:rb=true
 ·have b2:(!rb)=false:=congrArg Bool.not (c1)
  have b22:rb=true:=c1
  refine N_env [(0,vp hv),(1,vu a),(2,vs e d f),(19,.bool false)] (by simp only[b2,b22,Bool.not_true,Bool.not_false]) ?_
  refine T_nd 3 [19] [(22,.bool false)] ?_
  refine N_end (by kernel_rfl) ?_
  refine S_bd 22 (b:=false) (v:=((!rb) && (a !=20))) (by simp only[b2,BL]) ?_
  exact hk
 have b2:(!rb)=true:=congrArg Bool.not (eq_false_of_ne_true c1)
 have b22:rb=false:=eq_false_of_ne_true c1
 refine N_env [(0,vp hv),(1,vu a),(2,vs e d f),(19,.bool true)] (by simp only[b2,b22,Bool.not_true,Bool.not_false]) ?_
 refine T_nd 3 [19] [(22,.bool (a !=20))] ?_
 refine N_end (by kernel_rfl) ?_
 refine S_bd 22 (b:=(a !=20)) (v:=((!rb) && (a !=20))) (by simp only[b2,BL]) ?_
 exact hk
end moraineref20_Extend

/-! moraine/moraineref20.Push -/
namespace moraineref20_Push
def K0:=Func.code Tryz.f41
end moraineref20_Push
def moraineref20_Push.pt(hv:Option Addr)(i f:Int)(d:Option Addr)(a e:Nat)(H:Array Obj)(R:Value->Array Obj->Prop):Prop:=
 if((decide (i<0)) || (decide (i>2147483647)))=true then(
 R (.tuple #[.int .u64 0,.int .i64 1]) H)
 else
 moraineref20_is.C hv f 8 0 H (λv H1=> ∃(ra:Int) (rb:Bool),v=.tuple #[.int .i64 ra,.bool rb]/\
 if((!rb) && (f !=20))=true then(
 R (.tuple #[.int .u64 0,.int .i64 3]) H1)
 else
 moraineref01_Word.C 1 0 0 i 0 H1 (λn H2=> ∃x:Int,n=.int .u64 x/\
 ∀(b:Nat) (H3:Array Obj),b=H2.size->H3=H2.push (.cells #[.int .u64 x,.int .u64 f] 35)->
 appendK 1 35 8 [.int .u64 0] (some (ad b)) 2 2 d a H3 (λap l H4=>
 moraineref10_Heap_Make.C hv 8 0 ap (2+a) l H4 (λm H5=> ∃k j:Int,m=.tuple #[.int .u64 k,.int .i64 j]/\
 R (.tuple #[.int .u64 k,.int .i64 j]) H5))))
namespace moraineref20_Push
theorem link{hv:Option Addr}{i f:Int}{d:Option Addr}{a e:Nat}{H:Array Obj}{R:Value->Array Obj->Prop}(h:pt hv i f d a e H R):C hv i f d a e H R:=by
 refine T_en K0 43 Tryz.func41 ?_
 intro w0 Q hQ
 unfold pt at h
 refine T_su [(0,vp hv),(1,vi i),(2,vu f),(3,vs d a e)]<| T_srz 0<| T_ed 2 [] []<| T_sz<| T_srz 1 ?_
 refine N_cut [(0,vp hv),(1,vi i),(2,vu f),(3,vs d a e),(18,.bool ((decide (i<0)) || (decide (i>2147483647))))] ?_ ?_
 ·refine S_then ?_
  by_cases c3:((decide (i<0)) || (decide (i>2147483647)))=true
  ·rw[if_pos c3]at h
   exact T_cTz 18 c3<| T_srz 2<| T_nr 2 [8,9] [vu 0,vi 1] hQ h
  rw[if_neg c3]at h
  refine T_cFz 18 (eq_false_of_ne_true c3)<| T_kt<| T_sz<| T_srz 3<| T_n 2 [(0,vp hv),(1,vi i),(2,vu f),(3,vs d a e),(20,vp hv),(21,vu f)] ?_
  refine T_c (some 22) h ?_;clear h
  rintro v H1 ⟨ra,rb,rfl,h⟩
  refine T_pd [20,21] [(22,.tuple #[vi ra,.bool rb])]<| T_ed 5 [22] [(11,.bool rb)]<| T_srz 4 ?_
  refine N_cut [(0,vp hv),(1,vi i),(2,vu f),(3,vs d a e),(30,.bool ((!rb) && (f !=20)))] ?_ ?_
  ·refine S_then ?_
   by_cases c7:((!rb) && (f !=20))=true
   ·rw[if_pos c7]at h
    exact T_cTz 30 c7<| T_srz 5<| T_nr 2 [8,9] [vu 0,vi 3] hQ h
   rw[if_neg c7]at h
   refine T_cFz 30 (eq_false_of_ne_true c7)<| T_kt<| T_srz 6<| T_n 2 [(0,vp hv),(2,vu f),(3,vs d a e),(32,.agg #[vi 1,vi 0,vi 0,vi i,vu 0])] ?_
   refine T_c (some 33) h ?_;clear h
   rintro n H2 ⟨x,rfl,h⟩
   refine T_pd [32] [(33,vu x)]<| T_nd 1 [2] [(34,vu f)]<| T_nw (some 35) (λb=>vs (pa b) 2 2) (.cells #[vu x,vu f] 35) ?_
   intro b H3 e9 e10
   replace h:=h b H3 e9 e10
   refine T_pd [33,34] [(35,vs (pa b) 2 2)]<| T_ed 1 [35] [(12,vs (pa b) 2 2)]<| T_srz 7<| T_n 3 [(36,vp hv),(37,vs (pa b) 2 2),(38,vs d a e)] ?_
   refine N_op (some 39) (appendN #[31,31] 31 #[vs (pa b) 2 2,vs d a e]) _ (λ_=>by kernel_rfl) (ss_append (T:=35) (sz:=1) (bytes:=8) (zero:=(vu 0:Value)) Tryz.underlying31 Tryz.underlying31 rfl (show Tryz.prog.info? 35=some Tryz.t35 from by kernel_rfl) (by kernel_rfl) (by kernel_rfl) (by decide) (by kernel_rfl) (by first | exact h | (simpa only[Value.cells,List.toList_toArray]using h))) ?_;clear h
   rintro _ H4 ⟨ap,l,rfl,h⟩
   refine T_pd [37,38] [(39,vs ap (2+a) l)] ?_
   refine T_c (some 40) h ?_;clear h
   rintro m H5 ⟨k,j,rfl,h⟩
   refine⟨[(40,.tuple #[vu k,vi j])],pk,?_⟩
   exact T_nr 4 [8,9] [vu k,vi j] hQ h
  intro hk
  refine T_n 3 [(0,vp hv),(1,vi i),(2,vu f),(3,vs d a e),(27,.bool (!rb))] ?_
  by_cases c5:rb=true
  ·have b6:(!rb)=false:=congrArg Bool.not (c5)
   have b62:rb=true:=c5
   refine N_env [(0,vp hv),(1,vi i),(2,vu f),(3,vs d a e),(27,.bool false)] (by simp only[b6,b62,Bool.not_true,Bool.not_false]) ?_
   refine T_nd 3 [27] [(30,.bool false)] ?_
   refine N_end (by kernel_rfl) ?_
   refine S_bd 30 (b:=false) (v:=((!rb) && (f !=20))) (by simp only[b6,BL]) ?_
   exact hk
  have b6:(!rb)=true:=congrArg Bool.not (eq_false_of_ne_true c5)
  have b62:rb=false:=eq_false_of_ne_true c5
  refine N_env [(0,vp hv),(1,vi i),(2,vu f),(3,vs d a e),(27,.bool true)] (by simp only[b6,b62,Bool.not_true,Bool.not_false]) ?_
  refine T_nd 3 [27] [(30,.bool (f !=20))] ?_
  refine N_end (by kernel_rfl) ?_
  refine S_bd 30 (b:=(f !=20)) (v:=((!rb) && (f !=20))) (by simp only[b6,BL]) ?_
  exact hk
 intro hk
 refine T_n 3 [(0,vp hv),(1,vi i),(2,vu f),(3,vs d a e),(15,.bool (decide (i<0)))] ?_
 by_cases c1:i<0
 ·have b2:(decide (i<0))=true:=decide_eq_true c1
  refine N_env [(0,vp hv),(1,vi i),(2,vu f),(3,vs d a e),(15,.bool true)] (by rw[b2]) ?_
  refine T_nd 3 [15] [(18,.bool true)] ?_
  refine N_end (by kernel_rfl) ?_
  refine S_bd 18 (b:=true) (v:=((decide (i<0)) || (decide (i>2147483647)))) (by simp only[b2,BL]) ?_
  exact hk
 have b2:(decide (i<0))=false:=decide_eq_false c1
 refine N_env [(0,vp hv),(1,vi i),(2,vu f),(3,vs d a e),(15,.bool false)] (by rw[b2]) ?_
 refine T_nd 3 [15] [(18,.bool (decide (i>2147483647)))] ?_
 refine N_end (by kernel_rfl) ?_
 refine S_bd 18 (b:=(decide (i>2147483647))) (v:=((decide (i<0)) || (decide (i>2147483647)))) (by simp only[b2,BL]) ?_
 exact hk
end moraineref20_Push

/-! moraine/moraineref20.Get -/
namespace moraineref20_Get
def K0:=Func.code Tryz.f42
end moraineref20_Get
def moraineref20_Get.pt(hv:Option Addr)(e d i:Int)(H:Array Obj)(R:Value->Array Obj->Prop):Prop:=
 moraineref20_slot.C hv e d i H (λv H1=> ∃ra rb:Int,v=.tuple #[.int .u64 ra,.int .i64 rb]/\
 if rb=0 then(
 moraineref10_Heap_Get.C hv ra 7 (IntKind.wrap .i64 (i+1)) H1 (λf H2=> ∃b a:Int,f=.tuple #[.int .u64 b,.int .i64 a]/\
 R (.tuple #[.int .u64 b,.int .i64 a]) H2))
 else
 R (.tuple #[.int .u64 0,.int .i64 rb]) H1)
namespace moraineref20_Get
theorem link{hv:Option Addr}{e d i:Int}{H:Array Obj}{R:Value->Array Obj->Prop}(h:pt hv e d i H R):C hv e d i H R:=by
 refine T_en K0 30 Tryz.func42 ?_
 intro w0 Q hQ
 unfold pt at h
 refine T_su [(0,vp hv),(1,vu e),(2,vi d),(3,vi i)]<| T_srz 0<| T_ed 2 [] []<| T_srz 1<| T_nd 4 [1,2] [(13,vp hv),(14,vu e),(15,vi d),(16,vi i)] ?_
 refine T_c (some 17) h ?_;clear h
 rintro v H1 ⟨ra,rb,rfl,h⟩
 refine T_pd [13,14,15,16] [(17,.tuple #[vu ra,vi rb])]<| T_ed 5 [17] [(10,vu ra),(11,vi rb)]<| T_sz<| T_srz 2<| T_ed 2 [] [(21,.bool (rb !=0))] ?_
 by_cases c1:rb=0
 ·rw[if_pos c1]at h
  refine T_cFz 21 (bne_eq_false_iff_eq.mpr c1)<| T_kt<| T_srz 4<| T_n 4 [(23,vp hv),(24,vu ra),(26,vi (IntKind.wrap .i64 (i+1)))] ?_
  refine T_c (some 27) h ?_;clear h
  rintro f H2 ⟨b,a,rfl,h⟩
  refine⟨[(27,.tuple #[vu b,vi a])],pk,?_⟩
  exact T_nr 4 [8,9] [vu b,vi a] hQ h
 rw[if_neg c1]at h
 exact T_cTz 21 (bne_iff_ne.mpr c1)<| T_srz 3<| T_nr 3 [8,9] [vu 0,vi rb] hQ h
end moraineref20_Get

/-! moraine/moraineref20.Put -/
namespace moraineref20_Put
def K0:=Func.code Tryz.f44
end moraineref20_Put
def moraineref20_Put.pt(hv:Option Addr)(b a i v:Int)(H:Array Obj)(R:Value->Array Obj->Prop):Prop:=
 moraineref20_slot.C hv b a i H (λe H1=> ∃ra rb:Int,e=.tuple #[.int .u64 ra,.int .i64 rb]/\
 if rb=0 then(
 moraineref10_Heap_Set.C hv ra 7 (IntKind.wrap .i64 (i+1)) v H1 (λd H2=> ∃x:Int,d=.int .i64 x/\
 R (.int .i64 x) H2))
 else
 R (.int .i64 rb) H1)
namespace moraineref20_Put
theorem link{hv:Option Addr}{b a i v:Int}{H:Array Obj}{R:Value->Array Obj->Prop}(h:pt hv b a i v H R):C hv b a i v H R:=by
 refine T_en K0 30 Tryz.func44 ?_
 intro w0 Q hQ
 unfold pt at h
 refine T_su [(0,vp hv),(1,vu b),(2,vi a),(3,vi i),(4,vu v)]<| T_srz 0<| T_ed 1 [] []<| T_srz 1<| T_nd 4 [1,2] [(14,vp hv),(15,vu b),(16,vi a),(17,vi i)] ?_
 refine T_c (some 18) h ?_;clear h
 rintro e H1 ⟨ra,rb,rfl,h⟩
 refine T_pd [14,15,16,17] [(18,.tuple #[vu ra,vi rb])]<| T_ed 5 [18] [(11,vu ra),(12,vi rb)]<| T_sz<| T_srz 2<| T_ed 2 [] [(22,.bool (rb !=0))] ?_
 by_cases c1:rb=0
 ·rw[if_pos c1]at h
  refine T_cFz 22 (bne_eq_false_iff_eq.mpr c1)<| T_kt<| T_srz 4<| T_n 5 [(24,vp hv),(25,vu ra),(27,vi (IntKind.wrap .i64 (i+1))),(28,vu v)] ?_
  refine T_c (some 29) h ?_;clear h
  rintro d H2 ⟨x,rfl,h⟩
  refine⟨[(29,vi x)],pk,?_⟩
  exact T_nr 1 [10] [vi x] hQ h
 rw[if_neg c1]at h
 exact T_cTz 22 (bne_iff_ne.mpr c1)<| T_srz 3<| T_nr 2 [10] [vi rb] hQ h
end moraineref20_Put

/-! moraine/moraineref20.Kind -/
namespace moraineref20_Kind
def K0:=Func.code Tryz.f49
end moraineref20_Kind
def moraineref20_Kind.pt(hv:Option Addr)(f:Int)(H:Array Obj)(R:Value->Array Obj->Prop):Prop:=
 moraineref20_is.C hv f 8 2 H (λv H1=> ∃(ra:Int) (rb:Bool),v=.tuple #[.int .i64 ra,.bool rb]/\
 if rb=true then(
 moraineref10_Heap_Get.C hv f 8 0 H1 (λo H2=> ∃i m:Int,o=.tuple #[.int .u64 i,.int .i64 m]/\
 moraineref01_Of.C i H2 (λn H3=> ∃a e xA xX d:Int,n=.agg #[.int .i64 a,.int .i64 e,.int .i64 xA,.int .i64 xX,.int .u64 d]/\
 ∀(b:Nat) (H4:Array Obj),b=H3.size->H4=H3.push (.cells #[.int .i64 0,.int .i64 0,.int .i64 0,.int .i64 0,.int .u64 0] 155)->
 (CanPuts H4 (ad b) 0 5)/\ ∀H5,H5=hputs H4 (ad b) [.int .i64 a,.int .i64 e,.int .i64 xA,.int .i64 xX,.int .u64 d] 0->
 ∃x:Int,hat H5 (ad b)=some (.int .i64 x)/\
 if x=1 then(
 ∃j:Int,hat H5 ((ad b).add 3)=some (.int .i64 j)/\
 if j<0 then(
 R (.tuple #[.int .i64 0,.int .i64 3]) H5)
 else
 ∃k:Int,hat H5 ((ad b).add 3)=some (.int .i64 k)/\
 if k>2147483647 then(
 R (.tuple #[.int .i64 0,.int .i64 3]) H5)
 else
 ∃l:Int,hat H5 ((ad b).add 3)=some (.int .i64 l)/\
 R (.tuple #[.int .i64 l,.int .i64 0]) H5)
 else
 R (.tuple #[.int .i64 0,.int .i64 3]) H5)))
 else
 R (.tuple #[.int .i64 0,.int .i64 3]) H1)
namespace moraineref20_Kind
theorem link{hv:Option Addr}{f:Int}{H:Array Obj}{R:Value->Array Obj->Prop}(h:pt hv f H R):C hv f H R:=by
 refine T_en K0 42 Tryz.func49 ?_
 intro w0 Q hQ
 unfold pt at h
 refine T_su [(0,vp hv),(1,vu f)]<| T_srz 0<| T_ed 2 [] []<| T_sz<| T_srz 1<| T_nd 2 [] [(12,vp hv),(13,vu f)] ?_
 refine T_c (some 14) h ?_;clear h
 rintro v H1 ⟨ra,rb,rfl,h⟩
 refine T_pd [12,13] [(14,.tuple #[vi ra,.bool rb])]<| T_ed 5 [14] [(7,.bool rb)]<| T_srz 2<| T_ed 2 [7] [(18,.bool (!rb))] ?_
 by_cases c1:rb=true
 ·rw[if_pos c1]at h
  refine T_cFz 18 (congrArg Bool.not (c1))<| T_kt<| T_srz 4<| T_n 2 [(20,vp hv),(21,vu f)] ?_
  refine T_c (some 22) h ?_;clear h
  rintro o H2 ⟨i,m,rfl,h⟩
  refine⟨[(22,.tuple #[vu i,vi m])],pk,?_⟩
  refine T_ne 5 [(8,vu i)]<| T_srz 5<| T_n 1 [(25,vu i)] ?_
  refine T_c (some 26) h ?_;clear h
  rintro n H3 ⟨a,e,xA,xX,d,rfl,h⟩
  refine⟨[(26,.agg #[vi a,vi e,vi xA,vi xX,vu d])],pk,?_⟩
  refine T_nw (some 10) (λb=>vp (pa b)) (.cells #[vi 0,vi 0,vi 0,vi 0,vu 0] 155) ?_
  intro b H4 e3 e4
  replace h:=h b H4 e3 e4
  refine T_pd [] [(10,vp (pa b))] ?_
  obtain⟨q6,h⟩:=h
  refine T_sta 155 [vi a,vi e,vi xA,vi xX,vu d] q6 ?_
  intro H5 e5
  replace h:=h H5 e5
  refine T_pd [26] []<| T_e<| T_sz<| T_srz 6<| T_nd 1 [] [(27,vp (pa b))] ?_
  obtain⟨x,q7,h⟩:=h
  refine T_l1 28 3 q7 [27]<| T_nd 2 [28] [(30,.bool (x !=1))] ?_
  by_cases c8:x=1
  ·rw[if_pos c8]at h
   refine N_bd 30 (bne_eq_false_iff_eq.mpr c8)<| T_nd 1 [] [(31,vp (some ((ad b).add 3)))] ?_
   obtain⟨j,q10,h⟩:=h
   refine T_l1 32 2 q10 [31]<| T_nd 3 [30,32] [(35,.bool (decide (j<0)))] ?_
   by_cases c11:j<0
   ·rw[if_pos c11]at h
    exact N_bd 35 (decide_eq_true c11)<| T_ed 4 [35] [(39,.bool true)]<| T_tz 39<| T_srz 7<| T_nr 2 [4,5] [vi 0,vi 3] hQ h
   rw[if_neg c11]at h
   refine N_bd 35 (decide_eq_false c11)<| T_nd 1 [] [(36,vp (some ((ad b).add 3)))] ?_
   obtain⟨k,q13,h⟩:=h
   refine T_l1 37 2 q13 [36]<| T_ed 2 [35,37] [(39,.bool (decide (k>2147483647)))] ?_
   by_cases c14:k>2147483647
   ·rw[if_pos c14]at h
    exact T_cTz 39 (decide_eq_true c14)<| T_srz 7<| T_nr 2 [4,5] [vi 0,vi 3] hQ h
   rw[if_neg c14]at h
   refine T_cFz 39 (decide_eq_false c14)<| T_kt<| T_srz 8<| T_n 1 [(40,vp (some ((ad b).add 3)))] ?_
   obtain⟨l,q16,h⟩:=h
   exact T_l1 41 2 q16 [40]<| T_nr 2 [4,5] [vi l,vi 0] hQ h
  rw[if_neg c8]at h
  exact N_bd 30 (bne_iff_ne.mpr c8)<| T_ed 9 [30] [(39,.bool true)]<| T_tz 39<| T_srz 7<| T_nr 2 [4,5] [vi 0,vi 3] hQ h
 rw[if_neg c1]at h
 exact T_cTz 18 (congrArg Bool.not (eq_false_of_ne_true c1))<| T_srz 3<| T_nr 2 [4,5] [vi 0,vi 3] hQ h
end moraineref20_Kind

/-! moraine/moraineref20.Next -/
namespace moraineref20_Next
def K0:=Func.code Tryz.f50
end moraineref20_Next
def moraineref20_Next.pt(hv:Option Addr)(f:Int)(H:Array Obj)(R:Value->Array Obj->Prop):Prop:=
 moraineref20_is.C hv f 8 2 H (λv H1=> ∃(ra:Int) (rb:Bool),v=.tuple #[.int .i64 ra,.bool rb]/\
 if rb=true then(
 moraineref10_Heap_Get.C hv f 8 1 H1 (λd H2=> ∃b a:Int,d=.tuple #[.int .u64 b,.int .i64 a]/\
 R (.tuple #[.int .u64 b,.int .i64 a]) H2))
 else
 R (.tuple #[.int .u64 0,.int .i64 3]) H1)
namespace moraineref20_Next
theorem link{hv:Option Addr}{f:Int}{H:Array Obj}{R:Value->Array Obj->Prop}(h:pt hv f H R):C hv f H R:=by
 refine T_en K0 21 Tryz.func50 ?_
 intro w0 Q hQ
 unfold pt at h
 refine T_su [(0,vp hv),(1,vu f)]<| T_srz 0<| T_ed 2 [] []<| T_sz<| T_srz 1<| T_nd 2 [] [(9,vp hv),(10,vu f)] ?_
 refine T_c (some 11) h ?_;clear h
 rintro v H1 ⟨ra,rb,rfl,h⟩
 refine T_pd [9,10] [(11,.tuple #[vi ra,.bool rb])]<| T_ed 5 [11] [(7,.bool rb)]<| T_srz 2<| T_ed 2 [7] [(15,.bool (!rb))] ?_
 by_cases c1:rb=true
 ·rw[if_pos c1]at h
  refine T_cFz 15 (congrArg Bool.not (c1))<| T_kt<| T_srz 4<| T_n 2 [(16,vp hv),(17,vu f)] ?_
  refine T_c (some 18) h ?_;clear h
  rintro d H2 ⟨b,a,rfl,h⟩
  refine⟨[(18,.tuple #[vu b,vi a])],pk,?_⟩
  exact T_nr 4 [4,5] [vu b,vi a] hQ h
 rw[if_neg c1]at h
 exact T_cTz 15 (congrArg Bool.not (eq_false_of_ne_true c1))<| T_srz 3<| T_nr 2 [4,5] [vu 0,vi 3] hQ h
end moraineref20_Next

/-! moraine/moraineref20.Field -/
namespace moraineref20_Field
def K0:=Func.code Tryz.f52
end moraineref20_Field
def moraineref20_Field.pt(hv:Option Addr)(f i:Int)(H:Array Obj)(R:Value->Array Obj->Prop):Prop:=
 moraineref20_is.C hv f 8 2 H (λv H1=> ∃(ra:Int) (rb:Bool),v=.tuple #[.int .i64 ra,.bool rb]/\
 if rb=true then(
 if((decide (i<0)) || (decide (i>=(IntKind.wrap .i64 (ra-2)))))=true then(
 R (.tuple #[.int .u64 0,.int .i64 4]) H1)
 else
 moraineref10_Heap_Get.C hv f 8 (IntKind.wrap .i64 (i+2)) H1 (λd H2=> ∃b a:Int,d=.tuple #[.int .u64 b,.int .i64 a]/\
 R (.tuple #[.int .u64 b,.int .i64 a]) H2))
 else
 R (.tuple #[.int .u64 0,.int .i64 3]) H1)
namespace moraineref20_Field
theorem link{hv:Option Addr}{f i:Int}{H:Array Obj}{R:Value->Array Obj->Prop}(h:pt hv f i H R):C hv f i H R:=by
 refine T_en K0 33 Tryz.func52 ?_
 intro w0 Q hQ
 unfold pt at h
 refine T_su [(0,vp hv),(1,vu f),(2,vi i)]<| T_srz 0<| T_ed 2 [] []<| T_srz 1<| T_nd 2 [] [(11,vp hv),(12,vu f)] ?_
 refine T_c (some 13) h ?_;clear h
 rintro v H1 ⟨ra,rb,rfl,h⟩
 refine T_pd [11,12] [(13,.tuple #[vi ra,.bool rb])]<| T_ed 5 [13] [(8,vi ra),(9,.bool rb)]<| T_sz<| T_srz 2<| T_ed 2 [9] [(17,.bool (!rb))] ?_
 by_cases c1:rb=true
 ·rw[if_pos c1]at h
  refine T_cFz 17 (congrArg Bool.not (c1))<| T_kt<| T_sz<| T_srz 4 ?_
  refine N_cut [(0,vp hv),(1,vu f),(2,vi i),(25,.bool ((decide (i<0)) || (decide (i>=(IntKind.wrap .i64 (ra-2))))))] ?_ ?_
  ·refine S_then ?_
   by_cases c5:((decide (i<0)) || (decide (i>=(IntKind.wrap .i64 (ra-2)))))=true
   ·rw[if_pos c5]at h
    exact T_cTz 25 c5<| T_srz 5<| T_nr 2 [6,7] [vu 0,vi 4] hQ h
   rw[if_neg c5]at h
   refine T_cFz 25 (eq_false_of_ne_true c5)<| T_kt<| T_srz 6<| T_n 4 [(26,vp hv),(27,vu f),(29,vi (IntKind.wrap .i64 (i+2)))] ?_
   refine T_c (some 30) h ?_;clear h
   rintro d H2 ⟨b,a,rfl,h⟩
   refine⟨[(30,.tuple #[vu b,vi a])],pk,?_⟩
   exact T_nr 4 [6,7] [vu b,vi a] hQ h
  intro hk
  refine T_n 3 [(0,vp hv),(1,vu f),(2,vi i),(8,vi ra),(20,.bool (decide (i<0)))] ?_
  by_cases c3:i<0
  ·have b4:(decide (i<0))=true:=decide_eq_true c3
   refine N_env [(0,vp hv),(1,vu f),(2,vi i),(8,vi ra),(20,.bool true)] (by rw[b4]) ?_
   refine T_nd 5 [8,20] [(25,.bool true)] ?_
   refine N_end (by kernel_rfl) ?_
   refine S_bd 25 (b:=true) (v:=((decide (i<0)) || (decide (i>=(IntKind.wrap .i64 (ra-2)))))) (by simp only[b4,BL]) ?_
   exact hk
  have b4:(decide (i<0))=false:=decide_eq_false c3
  refine N_env [(0,vp hv),(1,vu f),(2,vi i),(8,vi ra),(20,.bool false)] (by rw[b4]) ?_
  refine T_nd 5 [8,20] [(25,.bool (decide (i>=(IntKind.wrap .i64 (ra-2)))))] ?_
  refine N_end (by kernel_rfl) ?_
  refine S_bd 25 (b:=(decide (i>=(IntKind.wrap .i64 (ra-2))))) (v:=((decide (i<0)) || (decide (i>=(IntKind.wrap .i64 (ra-2)))))) (by simp only[b4,BL]) ?_
  exact hk
 rw[if_neg c1]at h
 exact T_cTz 17 (congrArg Bool.not (eq_false_of_ne_true c1))<| T_srz 3<| T_nr 2 [6,7] [vu 0,vi 3] hQ h
end moraineref20_Field

/-! moraine/moraineref20.Fields -/
namespace moraineref20_Fields
def K0:=Func.code Tryz.f54
end moraineref20_Fields
def moraineref20_Fields.pt(hv:Option Addr)(f:Int)(H:Array Obj)(R:Value->Array Obj->Prop):Prop:=
 moraineref20_is.C hv f 8 2 H (λv H1=> ∃(ra:Int) (rb:Bool),v=.tuple #[.int .i64 ra,.bool rb]/\
 if rb=true then(
 R (.int .i64 (IntKind.wrap .i64 (ra-2))) H1)
 else
 R (.int .i64 0) H1)
namespace moraineref20_Fields
theorem link{hv:Option Addr}{f:Int}{H:Array Obj}{R:Value->Array Obj->Prop}(h:pt hv f H R):C hv f H R:=by
 refine T_en K0 17 Tryz.func54 ?_
 intro w0 Q hQ
 unfold pt at h
 refine T_su [(0,vp hv),(1,vu f)]<| T_srz 0<| T_ed 1 [] []<| T_srz 1<| T_n 2 [(8,vp hv),(9,vu f)] ?_
 refine T_c (some 10) h ?_;clear h
 rintro v H1 ⟨ra,rb,rfl,h⟩
 refine⟨[(10,.tuple #[vi ra,.bool rb])],pk,?_⟩
 refine T_ne 5 [(5,vi ra),(6,.bool rb)]<| T_sz<| T_srz 2<| T_ed 2 [6] [(14,.bool (!rb))] ?_
 by_cases c1:rb=true
 ·rw[if_pos c1]at h
  exact T_cFz 14 (congrArg Bool.not (c1))<| T_kt<| T_srz 4<| T_nr 3 [4] [vi (IntKind.wrap .i64 (ra-2))] hQ h
 rw[if_neg c1]at h
 exact T_cTz 14 (congrArg Bool.not (eq_false_of_ne_true c1))<| T_srz 3<| T_nr 1 [4] [vi 0] hQ h
end moraineref20_Fields

/-! moraine/moraineref20.Count -/
namespace moraineref20_Count
def K0:=Func.code Tryz.f55
end moraineref20_Count
def moraineref20_Count.pt(hv:Option Addr)(a:Int)(H:Array Obj)(R:Value->Array Obj->Prop):Prop:=
 moraineref20_is.C hv a 7 1 H (λv H1=> ∃(ra:Int) (rb:Bool),v=.tuple #[.int .i64 ra,.bool rb]/\
 if rb=true then(
 R (.int .i64 (IntKind.wrap .i64 (ra-1))) H1)
 else
 R (.int .i64 0) H1)
namespace moraineref20_Count
theorem link{hv:Option Addr}{a:Int}{H:Array Obj}{R:Value->Array Obj->Prop}(h:pt hv a H R):C hv a H R:=by
 refine T_en K0 17 Tryz.func55 ?_
 intro w0 Q hQ
 unfold pt at h
 refine T_su [(0,vp hv),(1,vu a)]<| T_srz 0<| T_ed 1 [] []<| T_srz 1<| T_n 2 [(8,vp hv),(9,vu a)] ?_
 refine T_c (some 10) h ?_;clear h
 rintro v H1 ⟨ra,rb,rfl,h⟩
 refine⟨[(10,.tuple #[vi ra,.bool rb])],pk,?_⟩
 refine T_ne 5 [(5,vi ra),(6,.bool rb)]<| T_sz<| T_srz 2<| T_ed 2 [6] [(14,.bool (!rb))] ?_
 by_cases c1:rb=true
 ·rw[if_pos c1]at h
  exact T_cFz 14 (congrArg Bool.not (c1))<| T_kt<| T_srz 4<| T_nr 3 [4] [vi (IntKind.wrap .i64 (ra-1))] hQ h
 rw[if_neg c1]at h
 exact T_cTz 14 (congrArg Bool.not (eq_false_of_ne_true c1))<| T_srz 3<| T_nr 1 [4] [vi 0] hQ h
end moraineref20_Count

/-! moraine/moraineref20.is -/
namespace moraineref20_is
def K0:=Func.code Tryz.f113
end moraineref20_is
def moraineref20_is.pt(hv:Option Addr)(wv d a:Int)(H:Array Obj)(R:Value->Array Obj->Prop):Prop:=
 moraineref10_Heap_Object.C hv wv H (λv H1=> ∃ra f i j k e:Int,v=.tuple #[.int .i64 ra,.agg #[.int .i64 f,.int .i64 i,.int .i64 j,.int .i64 k,.int .u64 e]]/\
 ∀(b:Nat) (H2:Array Obj),b=H1.size->H2=H1.push (.cells #[.int .i64 0,.int .i64 0,.int .i64 0,.int .i64 0,.int .u64 0] 155)->
 (CanPuts H2 (ad b) 0 5)/\ ∀H3,H3=hputs H2 (ad b) [.int .i64 f,.int .i64 i,.int .i64 j,.int .i64 k,.int .u64 e] 0->
 if ra<0 then(
 R (.tuple #[.int .i64 0,.bool false]) H3)
 else
 ∃x:Int,hat H3 ((ad b).add 1)=some (.int .i64 x)/\
 if x=d then(
 ∃l:Int,hat H3 ((ad b).add 2)=some (.int .i64 l)/\
 if l<a then(
 R (.tuple #[.int .i64 0,.bool false]) H3)
 else
 ∃m:Int,hat H3 ((ad b).add 2)=some (.int .i64 m)/\
 R (.tuple #[.int .i64 m,.bool true]) H3)
 else
 R (.tuple #[.int .i64 0,.bool false]) H3)
namespace moraineref20_is
theorem link{hv:Option Addr}{wv d a:Int}{H:Array Obj}{R:Value->Array Obj->Prop}(h:pt hv wv d a H R):C hv wv d a H R:=by
 refine T_en K0 34 Tryz.func113 ?_
 intro w0 Q hQ
 unfold pt at h
 refine T_su [(0,vp hv),(1,vu wv),(2,vi d),(3,vi a)]<| T_srz 0<| T_ed 2 [] []<| T_srz 1<| T_nd 2 [0,1] [(13,vp hv),(14,vu wv)] ?_
 refine T_c (some 15) h ?_;clear h
 rintro v H1 ⟨ra,f,i,j,k,e,rfl,h⟩
 refine T_pd [13,14] [(15,.tuple #[vi ra,.agg #[vi f,vi i,vi j,vi k,vu e]])]<| T_nd 3 [15] [(16,vi ra),(17,.agg #[vi f,vi i,vi j,vi k,vu e])]<| T_nw (some 11) (λb=>vp (pa b)) (.cells #[vi 0,vi 0,vi 0,vi 0,vu 0] 155) ?_
 intro b H2 e1 e2
 replace h:=h b H2 e1 e2
 refine T_pd [] [(11,vp (pa b))]<| T_nd 1 [16] [(10,vi ra)] ?_
 obtain⟨q4,h⟩:=h
 refine T_sta 155 [vi f,vi i,vi j,vi k,vu e] q4 ?_
 intro H3 e3
 replace h:=h H3 e3
 refine T_pd [17] []<| T_e<| T_sz<| T_srz 2<| T_nd 3 [10] [(20,.bool (decide (ra<0)))] ?_
 by_cases c5:ra<0
 ·rw[if_pos c5]at h
  exact N_bd 20 (decide_eq_true c5)<| T_ed 11 [2,3,20] [(31,.bool true)]<| T_tz 31<| T_srz 3<| T_nr 2 [8,9] [vi 0,.bool false] hQ h
 rw[if_neg c5]at h
 refine N_bd 20 (decide_eq_false c5)<| T_nd 1 [] [(21,vp (some ((ad b).add 1)))] ?_
 obtain⟨x,q7,h⟩:=h
 refine T_l1 22 3 q7 [21]<| T_nd 4 [2,20,22] [(26,.bool (x !=d))] ?_
 by_cases c8:x=d
 ·rw[if_pos c8]at h
  refine N_bd 26 (bne_eq_false_iff_eq.mpr c8)<| T_nd 1 [] [(27,vp (some ((ad b).add 2)))] ?_
  obtain⟨l,q10,h⟩:=h
  refine T_l1 28 3 q10 [27]<| T_ed 3 [3,26,28] [(31,.bool (decide (l<a)))] ?_
  by_cases c11:l<a
  ·rw[if_pos c11]at h
   exact T_cTz 31 (decide_eq_true c11)<| T_srz 3<| T_nr 2 [8,9] [vi 0,.bool false] hQ h
  rw[if_neg c11]at h
  refine T_cFz 31 (decide_eq_false c11)<| T_kt<| T_srz 4<| T_n 1 [(32,vp (some ((ad b).add 2)))] ?_
  obtain⟨m,q13,h⟩:=h
  exact T_l1 33 3 q13 [32]<| T_nr 2 [8,9] [vi m,.bool true] hQ h
 rw[if_neg c8]at h
 exact N_bd 26 (bne_iff_ne.mpr c8)<| T_ed 5 [3,26] [(31,.bool true)]<| T_tz 31<| T_srz 3<| T_nr 2 [8,9] [vi 0,.bool false] hQ h
end moraineref20_is

/-! moraine/moraineref20.slot -/
namespace moraineref20_slot
def K0:=Func.code Tryz.f115
def K2:=cb K0
def K4:=cb K2
def K12:=cb K4
def K13:=ca K12
def K16:=cb K13
def K17:=ca K16
def K18:=ca K17
end moraineref20_slot
def moraineref20_slot.pt(hv:Option Addr)(d a i:Int)(H:Array Obj)(R:Value->Array Obj->Prop):Prop:=
 if((decide (a<0)) || (decide (a>65536)))=true then(
 R (.tuple #[.int .u64 0,.int .i64 4]) H)
 else
 ∃(j:Int->Int->Array Obj->Prop) (m19:Int->Int->Array Obj->Nat),j d 0 H/\ ∀(wv:Int) (k:Int) (H1:Array Obj),j wv k H1->
 if k<a then(
 moraineref20_is.C hv wv 7 1 H1 (λv H2=> ∃(ra:Int) (rb:Bool),v=.tuple #[.int .i64 ra,.bool rb]/\
 if rb=true then(
 moraineref10_Heap_Get.C hv wv 7 0 H2 (λn H3=> ∃f l:Int,n=.tuple #[.int .u64 f,.int .i64 l]/\
 (j f (IntKind.wrap .i64 (k+1)) H3/\m19 f (IntKind.wrap .i64 (k+1)) H3<m19 wv k H1)))
 else
 R (.tuple #[.int .u64 0,.int .i64 3]) H2))
 else
 moraineref20_is.C hv wv 7 1 H1 (λm H4=> ∃(b:Int) (e:Bool),m=.tuple #[.int .i64 b,.bool e]/\
 if e=true then(
 if((decide (i<0)) || (decide (i>=(IntKind.wrap .i64 (b-1)))))=true then(
 R (.tuple #[.int .u64 0,.int .i64 4]) H4)
 else
 R (.tuple #[.int .u64 wv,.int .i64 0]) H4)
 else
 R (.tuple #[.int .u64 0,.int .i64 3]) H4)
namespace moraineref20_slot
theorem link{hv:Option Addr}{d a i:Int}{H:Array Obj}{R:Value->Array Obj->Prop}(h:pt hv d a i H R):C hv d a i H R:=by
 refine T_en K0 59 Tryz.func115 ?_
 intro w0 Q hQ
 unfold pt at h
 refine T_su [(0,vp hv),(1,vu d),(2,vi a),(3,vi i)]<| T_srz 0<| T_ed 2 [] []<| T_sz<| T_srz 1 ?_
 refine N_cut [(0,vp hv),(1,vu d),(2,vi a),(3,vi i),(21,.bool ((decide (a<0)) || (decide (a>65536))))] ?_ ?_
 ·refine S_then ?_
  by_cases c3:((decide (a<0)) || (decide (a>65536)))=true
  ·rw[if_pos c3]at h
   exact T_cTz 21 c3<| T_srz 2<| T_nr 2 [8,9] [vu 0,vi 4] hQ h
  rw[if_neg c3]at h
  refine T_cFz 21 (eq_false_of_ne_true c3)<| T_kt<| T_srz 3<| T_ne 2 [(0,vp hv),(2,vi a),(3,vi i),(10,vu d)]<| T_sz<| T_srz 4<| T_ed 1 [] [(11,vi 0)]<| T_bz 0 ?_
  obtain⟨j,m19,i5,i6⟩:=h
  refine S_loop (x:=K18) (σ:=Int×Int) (λs_=> [(0,vp hv),(2,vi a),(3,vi i),(10,vu s_.1),(11,vi s_.2)]) (λs_ H=>j s_.1 s_.2 H) (λs_ H=>m19 s_.1 s_.2 H) ((d,0):Int×Int) (by kernel_rfl) i5 sk ?_
  rintro⟨wv,k⟩ H1 i7
  have h:=i6 wv k H1 i7
  refine T_su [(0,vp hv),(2,vi a),(3,vi i),(10,vu wv),(11,vi k)]<| T_sz<| T_srz 5<| T_ed 3 [] [(25,.bool (decide (k<a)))] ?_
  by_cases c8:k<a
  ·rw[if_pos c8]at h
   refine T_cTz 25 (decide_eq_true c8)<| T_kt<| T_sz<| T_bz 1<| T_sz<| T_srz 7<| T_nd 2 [25] [(29,vp hv),(30,vu wv)] ?_
   refine T_c (some 31) h ?_;clear h
   rintro v H2 ⟨ra,rb,rfl,h⟩
   refine T_pd [29,30] [(31,.tuple #[vi ra,.bool rb])]<| T_ed 5 [31] [(13,.bool rb)]<| T_srz 8<| T_ed 2 [13] [(35,.bool (!rb))] ?_
   by_cases c10:rb=true
   ·rw[if_pos c10]at h
    refine T_cFz 35 (congrArg Bool.not (c10))<| T_kt<| T_rz 10<| T_nd 2 [10,35] [(37,vp hv),(38,vu wv)] ?_
    refine T_c (some 39) h ?_;clear h
    rintro n H3 ⟨f,l,rfl,h⟩
    refine T_pd [37,38] [(39,.tuple #[vu f,vi l])]<| T_nd 4 [39] [(10,vu f)] ?_
    refine N_end (by kernel_rfl) ?_
    refine S_blockEnd ?_
    refine S_then ?_
    refine T_rz 6<| T_ed 3 [11] [(11,vi (IntKind.wrap .i64 (k+1)))] ?_
    exact S_round ((f,(IntKind.wrap .i64 (k+1))):Int×Int) sk h
   rw[if_neg c10]at h
   exact T_cTz 35 (congrArg Bool.not (eq_false_of_ne_true c10))<| T_srz 9<| T_nr 2 [8,9] [vu 0,vi 3] hQ h
  rw[if_neg c8]at h
  refine T_cFz 25 (decide_eq_false c8) ?_
  refine S_exit 0 (by kernel_rfl) ?_
  refine S_exitThen ?_
  refine S_exitThen ?_
  refine S_exitHere ?_
  refine S_then ?_
  refine T_srz 11<| T_nd 2 [0,2,11,25] [(43,vp hv),(44,vu wv)] ?_
  refine T_c (some 45) h ?_;clear h
  rintro m H4 ⟨b,e,rfl,h⟩
  refine T_pd [43,44] [(45,.tuple #[vi b,.bool e])]<| T_ed 5 [45] [(14,vi b),(15,.bool e)]<| T_sz<| T_srz 12<| T_ed 2 [15] [(49,.bool (!e))] ?_
  by_cases c12:e=true
  ·rw[if_pos c12]at h
   refine T_cFz 49 (congrArg Bool.not (c12))<| T_kt<| T_sz<| T_srz 14 ?_
   refine N_cut [(10,vu wv),(57,.bool ((decide (i<0)) || (decide (i>=(IntKind.wrap .i64 (b-1))))))] ?_ ?_
   ·refine S_then ?_
    by_cases c16:((decide (i<0)) || (decide (i>=(IntKind.wrap .i64 (b-1)))))=true
    ·rw[if_pos c16]at h
     exact T_cTz 57 c16<| T_srz 15<| T_nr 2 [8,9] [vu 0,vi 4] hQ h
    rw[if_neg c16]at h
    exact T_cFz 57 (eq_false_of_ne_true c16)<| T_kt<| T_srz 16<| T_nr 3 [8,9] [vu wv,vi 0] hQ h
   intro hk
   refine T_n 3 [(3,vi i),(10,vu wv),(14,vi b),(52,.bool (decide (i<0)))] ?_
   by_cases c14:i<0
   ·have b15:(decide (i<0))=true:=decide_eq_true c14
    refine N_env [(3,vi i),(10,vu wv),(14,vi b),(52,.bool true)] (by rw[b15]) ?_
    refine T_n 5 [(10,vu wv),(57,.bool true)] ?_
    refine N_end (by kernel_rfl) ?_
    refine S_env [(10,vu wv),(57,.bool ((decide (i<0)) || (decide (i>=(IntKind.wrap .i64 (b-1))))))] (by simp only[b15,BL]) ?_
    exact hk
   have b15:(decide (i<0))=false:=decide_eq_false c14
   refine N_env [(3,vi i),(10,vu wv),(14,vi b),(52,.bool false)] (by rw[b15]) ?_
   refine T_n 5 [(10,vu wv),(57,.bool (decide (i>=(IntKind.wrap .i64 (b-1)))))] ?_
   refine N_end (by kernel_rfl) ?_
   refine S_env [(10,vu wv),(57,.bool ((decide (i<0)) || (decide (i>=(IntKind.wrap .i64 (b-1))))))] (by simp only[b15,BL]) ?_
   exact hk
  rw[if_neg c12]at h
  exact T_cTz 49 (congrArg Bool.not (eq_false_of_ne_true c12))<| T_srz 13<| T_nr 2 [8,9] [vu 0,vi 3] hQ h
 intro hk
 refine T_n 3 [(0,vp hv),(1,vu d),(2,vi a),(3,vi i),(18,.bool (decide (a<0)))] ?_
 by_cases c1:a<0
 ·have b2:(decide (a<0))=true:=decide_eq_true c1
  refine N_env [(0,vp hv),(1,vu d),(2,vi a),(3,vi i),(18,.bool true)] (by rw[b2]) ?_
  refine T_nd 3 [18] [(21,.bool true)] ?_
  refine N_end (by kernel_rfl) ?_
  refine S_bd 21 (b:=true) (v:=((decide (a<0)) || (decide (a>65536)))) (by simp only[b2,BL]) ?_
  exact hk
 have b2:(decide (a<0))=false:=decide_eq_false c1
 refine N_env [(0,vp hv),(1,vu d),(2,vi a),(3,vi i),(18,.bool false)] (by rw[b2]) ?_
 refine T_nd 3 [18] [(21,.bool (decide (a>65536)))] ?_
 refine N_end (by kernel_rfl) ?_
 refine S_bd 21 (b:=(decide (a>65536))) (v:=((decide (a<0)) || (decide (a>65536)))) (by simp only[b2,BL]) ?_
 exact hk
end moraineref20_slot

end Go.Proofs.YtibpklpgmgakcaaGreat
