/- Printed: what each function asks, and that it is sound. -/
import Derived.Test.YtibpklpgmgakcaaGreatFnsC
set_option linter.unusedSimpArgs false
set_option linter.unusedVariables false
set_option maxRecDepth 100000
set_option maxHeartbeats 1000000
noncomputable section
namespace Go.Proofs.YtibpklpgmgakcaaGreat
open Go
/-! moraine/frame.Extend -/
namespace frame_Extend
def K0:=Func.code Tryz.f30
end frame_Extend
def frame_Extend.pt(hv:Option Addr)(e:Int)(d:Option Addr)(a f:Nat)(H:Array Obj)(R:Value->Array Obj->Prop):Prop:=
 if e=20 then(
 ∀(b:Nat) (H1:Array Obj),b=H.size->H1=H.push (.cells #[.int .u64 e] 35)->
 appendK 1 35 8 [.int .u64 0] (some (ad b)) 1 1 d a H1 (λap n H2=>
 obj_Heap_Make.C hv 7 0 ap (1+a) n H2 (λv H3=> ∃ra rb:Int,v=.tuple #[.int .u64 ra,.int .i64 rb]/\
 R (.tuple #[.int .u64 ra,.int .i64 rb]) H3)))
 else
 obj_Heap_Type.C hv e H (λp H4=> ∃x:Int,p=.int .i64 x/\
 if x=7 then(
 ∀(l:Nat) (H5:Array Obj),l=H4.size->H5=H4.push (.cells #[.int .u64 e] 35)->
 appendK 1 35 8 [.int .u64 0] (some (ad l)) 1 1 d a H5 (λm k H6=>
 obj_Heap_Make.C hv 7 0 m (1+a) k H6 (λo H7=> ∃i j:Int,o=.tuple #[.int .u64 i,.int .i64 j]/\
 R (.tuple #[.int .u64 i,.int .i64 j]) H7)))
 else
 R (.tuple #[.int .u64 0,.int .i64 3]) H4)
namespace frame_Extend
theorem link{hv:Option Addr}{e:Int}{d:Option Addr}{a f:Nat}{H:Array Obj}{R:Value->Array Obj->Prop}(h:pt hv e d a f H R):C hv e d a f H R:=by
 refine T_en K0 24 Tryz.func30 ?_
 intro w0 Q hQ
 unfold pt at h
 refine T_su [(0,vp hv),(1,vu e),(2,vs d a f)]<| T_srz 0<| T_ed 2 [] []<| T_sz<| T_srz 1<| T_nd 3 [] [(10,.bool (e !=20))] ?_
 by_cases c1:e=20
 ·rw[if_pos c1]at h
  refine N_bd 10 (bne_eq_false_iff_eq.mpr c1)<| T_ed 5 [10] [(15,.bool false)]<| T_fz 15<| T_kt<| T_srz 3<| T_nd 2 [0,1,15] [(16,vp hv),(17,vu e)]<| T_nw (some 18) (λb=>vs (pa b) 1 1) (.cells #[vu e] 35) ?_
  intro b H1 e3 e4
  replace h:=h b H1 e3 e4
  refine T_pd [17] [(18,vs (pa b) 1 1)]<| T_nd 1 [2] [(19,vs d a f)] ?_
  refine N_op (some 20) (appendN #[31,31] 31 #[vs (pa b) 1 1,vs d a f]) _ (λ_=>by kernel_rfl) (ss_append (T:=35) (sz:=1) (bytes:=8) (zero:=(vu 0:Value)) Tryz.underlying31 Tryz.underlying31 rfl (show Tryz.prog.info? 35=some Tryz.t35 from by kernel_rfl) (by kernel_rfl) (by kernel_rfl) (by decide) (by kernel_rfl) (by first | exact h | (simpa only[Value.cells,List.toList_toArray]using h))) ?_;clear h
  rintro _ H2 ⟨ap,n,rfl,h⟩
  refine T_pd [18,19] [(20,vs ap (1+a) n)] ?_
  refine T_c (some 21) h ?_;clear h
  rintro v H3 ⟨ra,rb,rfl,h⟩
  refine⟨[(21,.tuple #[vu ra,vi rb])],pk,?_⟩
  exact T_nr 4 [6,7] [vu ra,vi rb] hQ h
 rw[if_neg c1]at h
 refine N_bd 10 (bne_iff_ne.mpr c1)<| T_nd 2 [] [(11,vp hv),(12,vu e)] ?_
 refine T_c (some 13) h ?_;clear h
 rintro p H4 ⟨x,rfl,h⟩
 refine T_pd [11,12] [(13,vi x)]<| T_ed 2 [10,13] [(15,.bool (x !=7))] ?_
 by_cases c5:x=7
 ·rw[if_pos c5]at h
  refine T_cFz 15 (bne_eq_false_iff_eq.mpr c5)<| T_kt<| T_srz 3<| T_nd 2 [0,1,15] [(16,vp hv),(17,vu e)]<| T_nw (some 18) (λb=>vs (pa b) 1 1) (.cells #[vu e] 35) ?_
  intro l H5 e7 e8
  replace h:=h l H5 e7 e8
  refine T_pd [17] [(18,vs (pa l) 1 1)]<| T_nd 1 [2] [(19,vs d a f)] ?_
  refine N_op (some 20) (appendN #[31,31] 31 #[vs (pa l) 1 1,vs d a f]) _ (λ_=>by kernel_rfl) (ss_append (T:=35) (sz:=1) (bytes:=8) (zero:=(vu 0:Value)) Tryz.underlying31 Tryz.underlying31 rfl (show Tryz.prog.info? 35=some Tryz.t35 from by kernel_rfl) (by kernel_rfl) (by kernel_rfl) (by decide) (by kernel_rfl) (by first | exact h | (simpa only[Value.cells,List.toList_toArray]using h))) ?_;clear h
  rintro _ H6 ⟨m,k,rfl,h⟩
  refine T_pd [18,19] [(20,vs m (1+a) k)] ?_
  refine T_c (some 21) h ?_;clear h
  rintro o H7 ⟨i,j,rfl,h⟩
  refine⟨[(21,.tuple #[vu i,vi j])],pk,?_⟩
  exact T_nr 4 [6,7] [vu i,vi j] hQ h
 rw[if_neg c5]at h
 exact T_cTz 15 (bne_iff_ne.mpr c5)<| T_srz 2<| T_nr 2 [6,7] [vu 0,vi 3] hQ h
end frame_Extend

/-! moraine/frame.Get -/
namespace frame_Get
def K0:=Func.code Tryz.f31
end frame_Get
def frame_Get.pt(hv:Option Addr)(e d i:Int)(H:Array Obj)(R:Value->Array Obj->Prop):Prop:=
 frame_above.C hv e d H (λv H1=> ∃ra rb:Int,v=.tuple #[.int .u64 ra,.int .i64 rb]/\
 if rb=0 then(
 if i<0 then(
 R (.tuple #[.int .u64 0,.int .i64 4]) H1)
 else
 frame_Count.C hv ra H1 (λj H2=> ∃x:Int,j=.int .i64 x/\
 if i>=x then(
 R (.tuple #[.int .u64 0,.int .i64 4]) H2)
 else
 obj_Heap_Get.C hv ra 7 (IntKind.wrap .i64 (i+1)) H2 (λf H3=> ∃b a:Int,f=.tuple #[.int .u64 b,.int .i64 a]/\
 R (.tuple #[.int .u64 b,.int .i64 a]) H3)))
 else
 R (.tuple #[.int .u64 0,.int .i64 rb]) H1)
namespace frame_Get
theorem link{hv:Option Addr}{e d i:Int}{H:Array Obj}{R:Value->Array Obj->Prop}(h:pt hv e d i H R):C hv e d i H R:=by
 refine T_en K0 40 Tryz.func31 ?_
 intro w0 Q hQ
 unfold pt at h
 refine T_su [(0,vp hv),(1,vu e),(2,vi d),(3,vi i)]<| T_srz 0<| T_ed 2 [] []<| T_srz 1<| T_nd 3 [1,2] [(13,vp hv),(14,vu e),(15,vi d)] ?_
 refine T_c (some 16) h ?_;clear h
 rintro v H1 ⟨ra,rb,rfl,h⟩
 refine T_pd [13,14,15] [(16,.tuple #[vu ra,vi rb])]<| T_ed 5 [16] [(10,vu ra),(11,vi rb)]<| T_sz<| T_bz 0<| T_srz 2<| T_ed 3 [] [(19,.bool (rb !=0))] ?_
 by_cases c1:rb=0
 ·rw[if_pos c1]at h
  refine T_cFz 19 (bne_eq_false_iff_eq.mpr c1)<| T_srz 4<| T_nd 3 [11,19] [(26,.bool (decide (i<0)))] ?_
  by_cases c3:i<0
  ·rw[if_pos c3]at h
   exact N_bd 26 (decide_eq_true c3)<| T_ed 7 [26] [(23,.bool true)]<| T_tz 23<| T_srz 5<| T_nr 2 [8,9] [vu 0,vi 4] hQ h
  rw[if_neg c3]at h
  refine N_bd 26 (decide_eq_false c3)<| T_nd 3 [] [(27,vi i),(28,vp hv),(29,vu ra)] ?_
  refine T_c (some 30) h ?_;clear h
  rintro j H2 ⟨x,rfl,h⟩
  refine T_pd [28,29] [(30,vi x)]<| T_ed 3 [26,27,30] [(23,.bool (decide (i>=x)))] ?_
  by_cases c5:i>=x
  ·rw[if_pos c5]at h
   exact T_cTz 23 (decide_eq_true c5)<| T_srz 5<| T_nr 2 [8,9] [vu 0,vi 4] hQ h
  rw[if_neg c5]at h
  refine T_cFz 23 (decide_eq_false c5)<| T_k ?_
  refine S_blockEnd ?_
  refine S_then ?_
  refine T_srz 6<| T_n 4 [(33,vp hv),(34,vu ra),(36,vi (IntKind.wrap .i64 (i+1)))] ?_
  refine T_c (some 37) h ?_;clear h
  rintro f H3 ⟨b,a,rfl,h⟩
  refine⟨[(37,.tuple #[vu b,vi a])],pk,?_⟩
  exact T_nr 4 [8,9] [vu b,vi a] hQ h
 rw[if_neg c1]at h
 exact T_cTz 19 (bne_iff_ne.mpr c1)<| T_srz 3<| T_nr 3 [8,9] [vu 0,vi rb] hQ h
end frame_Get

/-! moraine/frame.Push -/
namespace frame_Push
def K0:=Func.code Tryz.f32
end frame_Push
def frame_Push.pt(hv:Option Addr)(i f:Int)(d:Option Addr)(a e:Nat)(H:Array Obj)(R:Value->Array Obj->Prop):Prop:=
 word_Fix.C i H (λv H1=> ∃ra rb:Int,v=.tuple #[.int .u64 ra,.int .i64 rb]/\
 if((decide (i<0)) || (decide (i>2147483647)))=true then(
 R (.tuple #[.int .u64 0,.int .i64 1]) H1)
 else
 if f=20 then(
 ∀(b:Nat) (H2:Array Obj),b=H1.size->H2=H1.push (.cells #[.int .u64 ra,.int .u64 f] 35)->
 appendK 1 35 8 [.int .u64 0] (some (ad b)) 2 2 d a H2 (λap q H3=>
 obj_Heap_Make.C hv 8 0 ap (2+a) q H3 (λs H4=> ∃k m:Int,s=.tuple #[.int .u64 k,.int .i64 m]/\
 R (.tuple #[.int .u64 k,.int .i64 m]) H4)))
 else
 obj_Heap_Type.C hv f H1 (λr H5=> ∃x:Int,r=.int .i64 x/\
 if x=8 then(
 ∀(o:Nat) (H6:Array Obj),o=H5.size->H6=H5.push (.cells #[.int .u64 ra,.int .u64 f] 35)->
 appendK 1 35 8 [.int .u64 0] (some (ad o)) 2 2 d a H6 (λp n H7=>
 obj_Heap_Make.C hv 8 0 p (2+a) n H7 (λt H8=> ∃l j:Int,t=.tuple #[.int .u64 l,.int .i64 j]/\
 R (.tuple #[.int .u64 l,.int .i64 j]) H8)))
 else
 R (.tuple #[.int .u64 0,.int .i64 3]) H5))
namespace frame_Push
theorem link{hv:Option Addr}{i f:Int}{d:Option Addr}{a e:Nat}{H:Array Obj}{R:Value->Array Obj->Prop}(h:pt hv i f d a e H R):C hv i f d a e H R:=by
 refine T_en K0 42 Tryz.func32 ?_
 intro w0 Q hQ
 unfold pt at h
 refine T_su [(0,vp hv),(1,vi i),(2,vu f),(3,vs d a e)]<| T_srz 0<| T_ed 2 [] []<| T_srz 1<| T_nd 1 [] [(13,vi i)] ?_
 refine T_c (some 14) h ?_;clear h
 rintro v H1 ⟨ra,rb,rfl,h⟩
 refine T_pd [13] [(14,.tuple #[vu ra,vi rb])]<| T_ed 5 [14] [(10,vu ra)]<| T_sz<| T_bz 0<| T_srz 2 ?_
 refine N_cut [(0,vp hv),(2,vu f),(3,vs d a e),(10,vu ra),(17,.bool ((decide (i<0)) || (decide (i>2147483647))))] ?_ ?_
 ·refine S_then ?_
  by_cases c3:((decide (i<0)) || (decide (i>2147483647)))=true
  ·rw[if_pos c3]at h
   exact T_cTz 17 c3<| T_srz 3<| T_nr 2 [8,9] [vu 0,vi 1] hQ h
  rw[if_neg c3]at h
  refine T_cFz 17 (eq_false_of_ne_true c3)<| T_srz 4<| T_n 3 [(0,vp hv),(2,vu f),(3,vs d a e),(10,vu ra),(27,.bool (f !=20))] ?_
  by_cases c5:f=20
  ·rw[if_pos c5]at h
   have b6:(f !=20)=false:=bne_eq_false_iff_eq.mpr c5
   refine N_env [(0,vp hv),(2,vu f),(3,vs d a e),(10,vu ra),(27,.bool false)] (by rw[b6]) ?_
   clear b6
   refine T_ed 6 [27] [(24,.bool false)]<| T_fz 24<| T_k ?_
   refine S_blockEnd ?_
   refine S_then ?_
   refine T_srz 6<| T_n 3 [(3,vs d a e),(33,vp hv),(34,vu ra),(35,vu f)]<| T_nw (some 36) (λb=>vs (pa b) 2 2) (.cells #[vu ra,vu f] 35) ?_
   intro b H2 e7 e8
   replace h:=h b H2 e7 e8
   refine T_pd [34,35] [(36,vs (pa b) 2 2)]<| T_nd 1 [3] [(37,vs d a e)] ?_
   refine N_op (some 38) (appendN #[31,31] 31 #[vs (pa b) 2 2,vs d a e]) _ (λ_=>by kernel_rfl) (ss_append (T:=35) (sz:=1) (bytes:=8) (zero:=(vu 0:Value)) Tryz.underlying31 Tryz.underlying31 rfl (show Tryz.prog.info? 35=some Tryz.t35 from by kernel_rfl) (by kernel_rfl) (by kernel_rfl) (by decide) (by kernel_rfl) (by first | exact h | (simpa only[Value.cells,List.toList_toArray]using h))) ?_;clear h
   rintro _ H3 ⟨ap,q,rfl,h⟩
   refine T_pd [36,37] [(38,vs ap (2+a) q)] ?_
   refine T_c (some 39) h ?_;clear h
   rintro s H4 ⟨k,m,rfl,h⟩
   refine⟨[(39,.tuple #[vu k,vi m])],pk,?_⟩
   exact T_nr 4 [8,9] [vu k,vi m] hQ h
  rw[if_neg c5]at h
  have b6:(f !=20)=true:=bne_iff_ne.mpr c5
  refine N_env [(0,vp hv),(2,vu f),(3,vs d a e),(10,vu ra),(27,.bool true)] (by rw[b6]) ?_
  clear b6
  refine T_nd 2 [] [(28,vp hv),(29,vu f)] ?_
  refine T_c (some 30) h ?_;clear h
  rintro r H5 ⟨x,rfl,h⟩
  refine T_pd [28,29] [(30,vi x)]<| T_ed 3 [27,30] [(24,.bool (x !=8))] ?_
  by_cases c9:x=8
  ·rw[if_pos c9]at h
   refine T_cFz 24 (bne_eq_false_iff_eq.mpr c9)<| T_k ?_
   refine S_blockEnd ?_
   refine S_then ?_
   refine T_srz 6<| T_n 3 [(3,vs d a e),(33,vp hv),(34,vu ra),(35,vu f)]<| T_nw (some 36) (λb=>vs (pa b) 2 2) (.cells #[vu ra,vu f] 35) ?_
   intro o H6 e11 e12
   replace h:=h o H6 e11 e12
   refine T_pd [34,35] [(36,vs (pa o) 2 2)]<| T_nd 1 [3] [(37,vs d a e)] ?_
   refine N_op (some 38) (appendN #[31,31] 31 #[vs (pa o) 2 2,vs d a e]) _ (λ_=>by kernel_rfl) (ss_append (T:=35) (sz:=1) (bytes:=8) (zero:=(vu 0:Value)) Tryz.underlying31 Tryz.underlying31 rfl (show Tryz.prog.info? 35=some Tryz.t35 from by kernel_rfl) (by kernel_rfl) (by kernel_rfl) (by decide) (by kernel_rfl) (by first | exact h | (simpa only[Value.cells,List.toList_toArray]using h))) ?_;clear h
   rintro _ H7 ⟨p,n,rfl,h⟩
   refine T_pd [36,37] [(38,vs p (2+a) n)] ?_
   refine T_c (some 39) h ?_;clear h
   rintro t H8 ⟨l,j,rfl,h⟩
   refine⟨[(39,.tuple #[vu l,vi j])],pk,?_⟩
   exact T_nr 4 [8,9] [vu l,vi j] hQ h
  rw[if_neg c9]at h
  exact T_cTz 24 (bne_iff_ne.mpr c9)<| T_srz 5<| T_nr 2 [8,9] [vu 0,vi 3] hQ h
 intro hk
 refine T_n 3 [(0,vp hv),(1,vi i),(2,vu f),(3,vs d a e),(10,vu ra),(20,.bool (decide (i<0)))] ?_
 by_cases c1:i<0
 ·have b2:(decide (i<0))=true:=decide_eq_true c1
  refine N_env [(0,vp hv),(1,vi i),(2,vu f),(3,vs d a e),(10,vu ra),(20,.bool true)] (by rw[b2]) ?_
  refine T_nd 4 [1,20] [(17,.bool true)] ?_
  refine N_end (by kernel_rfl) ?_
  refine S_bd 17 (b:=true) (v:=((decide (i<0)) || (decide (i>2147483647)))) (by simp only[b2,BL]) ?_
  exact hk
 have b2:(decide (i<0))=false:=decide_eq_false c1
 refine N_env [(0,vp hv),(1,vi i),(2,vu f),(3,vs d a e),(10,vu ra),(20,.bool false)] (by rw[b2]) ?_
 refine T_nd 4 [1,20] [(17,.bool (decide (i>2147483647)))] ?_
 refine N_end (by kernel_rfl) ?_
 refine S_bd 17 (b:=(decide (i>2147483647))) (v:=((decide (i<0)) || (decide (i>2147483647)))) (by simp only[b2,BL]) ?_
 exact hk
end frame_Push

/-! moraine/frame.Kind -/
namespace frame_Kind
def K0:=Func.code Tryz.f33
end frame_Kind
def frame_Kind.pt(hv:Option Addr)(f:Int)(H:Array Obj)(R:Value->Array Obj->Prop):Prop:=
 obj_Heap_Get.C hv f 8 0 H (λv H1=> ∃ra rb:Int,v=.tuple #[.int .u64 ra,.int .i64 rb]/\
 word_Int.C ra H1 (λe H2=> ∃(a:Int) (b:Bool),e=.tuple #[.int .i64 a,.bool b]/\
 if rb=0 then(
 if b=true then(
 if a<0 then(
 R (.tuple #[.int .i64 0,.int .i64 3]) H2)
 else
 if a>2147483647 then(
 R (.tuple #[.int .i64 0,.int .i64 3]) H2)
 else
 obj_Heap_Len.C hv f H2 (λd H3=> ∃x:Int,d=.int .i64 x/\
 if x<2 then(
 R (.tuple #[.int .i64 0,.int .i64 3]) H3)
 else
 R (.tuple #[.int .i64 a,.int .i64 0]) H3))
 else
 R (.tuple #[.int .i64 0,.int .i64 3]) H2)
 else
 R (.tuple #[.int .i64 0,.int .i64 3]) H2))
namespace frame_Kind
theorem link{hv:Option Addr}{f:Int}{H:Array Obj}{R:Value->Array Obj->Prop}(h:pt hv f H R):C hv f H R:=by
 refine T_en K0 42 Tryz.func33 ?_
 intro w0 Q hQ
 unfold pt at h
 refine T_su [(0,vp hv),(1,vu f)]<| T_srz 0<| T_ed 2 [] []<| T_srz 1<| T_nd 2 [] [(11,vp hv),(12,vu f)] ?_
 refine T_c (some 13) h ?_;clear h
 rintro v H1 ⟨ra,rb,rfl,h⟩
 refine T_pd [11,12] [(13,.tuple #[vu ra,vi rb])]<| T_ed 5 [13] [(6,vu ra),(7,vi rb)]<| T_srz 2<| T_nd 1 [6] [(17,vu ra)] ?_
 refine T_c (some 18) h ?_;clear h
 rintro e H2 ⟨a,b,rfl,h⟩
 refine T_pd [17] [(18,.tuple #[vi a,.bool b])]<| T_ed 5 [18] [(8,vi a),(9,.bool b)]<| T_sz<| T_srz 3<| T_nd 3 [7] [(23,.bool (rb !=0))] ?_
 by_cases c1:rb=0
 ·rw[if_pos c1]at h
  refine N_bd 23 (bne_eq_false_iff_eq.mpr c1)<| T_nd 4 [9,23] [(27,.bool (!b))] ?_
  by_cases c3:b=true
  ·rw[if_pos c3]at h
   have b4:(!b)=false:=congrArg Bool.not (c3)
   have b42:b=true:=c3
   refine N_bd 27 (b:=(!b)) (v:=false) (by simp only[b4,b42,Bool.not_true,Bool.not_false]) ?_
   clear b4 b42
   refine T_nd 4 [27] [(31,.bool (decide (a<0)))] ?_
   by_cases c5:a<0
   ·rw[if_pos c5]at h
    exact N_bd 31 (decide_eq_true c5)<| T_ne 9 [(8,vi a),(40,.bool true)]<| T_tz 40<| T_srz 4<| T_nr 2 [4,5] [vi 0,vi 3] hQ h
   rw[if_neg c5]at h
   refine N_bd 31 (decide_eq_false c5)<| T_nd 4 [31] [(35,.bool (decide (a>2147483647)))] ?_
   by_cases c7:a>2147483647
   ·rw[if_pos c7]at h
    exact N_bd 35 (decide_eq_true c7)<| T_ne 5 [(8,vi a),(40,.bool true)]<| T_tz 40<| T_srz 4<| T_nr 2 [4,5] [vi 0,vi 3] hQ h
   rw[if_neg c7]at h
   refine N_bd 35 (decide_eq_false c7)<| T_nd 2 [0,1] [(36,vp hv),(37,vu f)] ?_
   refine T_c (some 38) h ?_;clear h
   rintro d H3 ⟨x,rfl,h⟩
   refine T_pd [36,37] [(38,vi x)]<| T_ne 2 [(8,vi a),(40,.bool (decide (x<2)))] ?_
   by_cases c9:x<2
   ·rw[if_pos c9]at h
    exact T_cTz 40 (decide_eq_true c9)<| T_srz 4<| T_nr 2 [4,5] [vi 0,vi 3] hQ h
   rw[if_neg c9]at h
   exact T_cFz 40 (decide_eq_false c9)<| T_kt<| T_srz 5<| T_nr 3 [4,5] [vi a,vi 0] hQ h
  rw[if_neg c3]at h
  have b4:(!b)=true:=congrArg Bool.not (eq_false_of_ne_true c3)
  have b42:b=false:=eq_false_of_ne_true c3
  refine N_bd 27 (b:=(!b)) (v:=true) (by simp only[b4,b42,Bool.not_true,Bool.not_false]) ?_
  clear b4 b42
  exact T_ne 13 [(8,vi a),(40,.bool true)]<| T_tz 40<| T_srz 4<| T_nr 2 [4,5] [vi 0,vi 3] hQ h
 rw[if_neg c1]at h
 exact N_bd 23 (bne_iff_ne.mpr c1)<| T_ne 17 [(8,vi a),(40,.bool true)]<| T_tz 40<| T_srz 4<| T_nr 2 [4,5] [vi 0,vi 3] hQ h
end frame_Kind

/-! moraine/frame.Next -/
namespace frame_Next
def K0:=Func.code Tryz.f34
end frame_Next
def frame_Next.pt(hv:Option Addr)(f:Int)(H:Array Obj)(R:Value->Array Obj->Prop):Prop:=
 frame_is.C hv f 8 2 H (λv H1=> ∃x:Bool,v=.bool x/\
 if x=true then(
 obj_Heap_Get.C hv f 8 1 H1 (λa H2=> ∃ra rb:Int,a=.tuple #[.int .u64 ra,.int .i64 rb]/\
 R (.tuple #[.int .u64 ra,.int .i64 rb]) H2))
 else
 R (.tuple #[.int .u64 0,.int .i64 3]) H1)
namespace frame_Next
theorem link{hv:Option Addr}{f:Int}{H:Array Obj}{R:Value->Array Obj->Prop}(h:pt hv f H R):C hv f H R:=by
 refine T_en K0 15 Tryz.func34 ?_
 intro w0 Q hQ
 unfold pt at h
 refine T_su [(0,vp hv),(1,vu f)]<| T_srz 0<| T_ed 2 [] []<| T_sz<| T_srz 1<| T_nd 2 [] [(6,vp hv),(7,vu f)] ?_
 refine T_c (some 8) h ?_;clear h
 rintro v H1 ⟨x,rfl,h⟩
 refine T_pd [6,7] [(8,.bool x)]<| T_ed 1 [8] [(9,.bool (!x))] ?_
 by_cases c1:x=true
 ·rw[if_pos c1]at h
  refine T_cFz 9 (congrArg Bool.not (c1))<| T_kt<| T_srz 3<| T_n 2 [(10,vp hv),(11,vu f)] ?_
  refine T_c (some 12) h ?_;clear h
  rintro a H2 ⟨ra,rb,rfl,h⟩
  refine⟨[(12,.tuple #[vu ra,vi rb])],pk,?_⟩
  exact T_nr 4 [4,5] [vu ra,vi rb] hQ h
 rw[if_neg c1]at h
 exact T_cTz 9 (congrArg Bool.not (eq_false_of_ne_true c1))<| T_srz 2<| T_nr 2 [4,5] [vu 0,vi 3] hQ h
end frame_Next

/-! moraine/frame.Count -/
namespace frame_Count
def K0:=Func.code Tryz.f35
end frame_Count
def frame_Count.pt(hv:Option Addr)(a:Int)(H:Array Obj)(R:Value->Array Obj->Prop):Prop:=
 frame_is.C hv a 7 1 H (λv H1=> ∃x:Bool,v=.bool x/\
 if x=true then(
 obj_Heap_Len.C hv a H1 (λd H2=> ∃b:Int,d=.int .i64 b/\
 R (.int .i64 (IntKind.wrap .i64 (b-1))) H2))
 else
 R (.int .i64 0) H1)
namespace frame_Count
theorem link{hv:Option Addr}{a:Int}{H:Array Obj}{R:Value->Array Obj->Prop}(h:pt hv a H R):C hv a H R:=by
 refine T_en K0 13 Tryz.func35 ?_
 intro w0 Q hQ
 unfold pt at h
 refine T_su [(0,vp hv),(1,vu a)]<| T_srz 0<| T_ed 1 [] []<| T_sz<| T_srz 1<| T_nd 2 [] [(5,vp hv),(6,vu a)] ?_
 refine T_c (some 7) h ?_;clear h
 rintro v H1 ⟨x,rfl,h⟩
 refine T_pd [5,6] [(7,.bool x)]<| T_ed 1 [7] [(8,.bool (!x))] ?_
 by_cases c1:x=true
 ·rw[if_pos c1]at h
  refine T_cFz 8 (congrArg Bool.not (c1))<| T_kt<| T_srz 3<| T_n 2 [(9,vp hv),(10,vu a)] ?_
  refine T_c (some 11) h ?_;clear h
  rintro d H2 ⟨b,rfl,h⟩
  refine⟨[(11,vi b)],pk,?_⟩
  exact T_nr 2 [4] [vi (IntKind.wrap .i64 (b-1))] hQ h
 rw[if_neg c1]at h
 exact T_cTz 8 (congrArg Bool.not (eq_false_of_ne_true c1))<| T_srz 2<| T_nr 1 [4] [vi 0] hQ h
end frame_Count

/-! moraine/frame.Put -/
namespace frame_Put
def K0:=Func.code Tryz.f43
end frame_Put
def frame_Put.pt(hv:Option Addr)(b a i v:Int)(H:Array Obj)(R:Value->Array Obj->Prop):Prop:=
 frame_above.C hv b a H (λj H1=> ∃ra rb:Int,j=.tuple #[.int .u64 ra,.int .i64 rb]/\
 if rb=0 then(
 if i<0 then(
 R (.int .i64 4) H1)
 else
 frame_Count.C hv ra H1 (λe H2=> ∃x:Int,e=.int .i64 x/\
 if i>=x then(
 R (.int .i64 4) H2)
 else
 obj_Heap_Set.C hv ra 7 (IntKind.wrap .i64 (i+1)) v H2 (λf H3=> ∃d:Int,f=.int .i64 d/\
 R (.int .i64 d) H3)))
 else
 R (.int .i64 rb) H1)
namespace frame_Put
theorem link{hv:Option Addr}{b a i v:Int}{H:Array Obj}{R:Value->Array Obj->Prop}(h:pt hv b a i v H R):C hv b a i v H R:=by
 refine T_en K0 40 Tryz.func43 ?_
 intro w0 Q hQ
 unfold pt at h
 refine T_su [(0,vp hv),(1,vu b),(2,vi a),(3,vi i),(4,vu v)]<| T_srz 0<| T_ed 1 [] []<| T_srz 1<| T_nd 3 [1,2] [(14,vp hv),(15,vu b),(16,vi a)] ?_
 refine T_c (some 17) h ?_;clear h
 rintro j H1 ⟨ra,rb,rfl,h⟩
 refine T_pd [14,15,16] [(17,.tuple #[vu ra,vi rb])]<| T_ed 5 [17] [(11,vu ra),(12,vi rb)]<| T_sz<| T_bz 0<| T_srz 2<| T_ed 3 [] [(20,.bool (rb !=0))] ?_
 by_cases c1:rb=0
 ·rw[if_pos c1]at h
  refine T_cFz 20 (bne_eq_false_iff_eq.mpr c1)<| T_srz 4<| T_nd 3 [12,20] [(27,.bool (decide (i<0)))] ?_
  by_cases c3:i<0
  ·rw[if_pos c3]at h
   exact N_bd 27 (decide_eq_true c3)<| T_ed 7 [27] [(24,.bool true)]<| T_tz 24<| T_srz 5<| T_nr 1 [10] [vi 4] hQ h
  rw[if_neg c3]at h
  refine N_bd 27 (decide_eq_false c3)<| T_nd 3 [] [(28,vi i),(29,vp hv),(30,vu ra)] ?_
  refine T_c (some 31) h ?_;clear h
  rintro e H2 ⟨x,rfl,h⟩
  refine T_pd [29,30] [(31,vi x)]<| T_ed 3 [27,28,31] [(24,.bool (decide (i>=x)))] ?_
  by_cases c5:i>=x
  ·rw[if_pos c5]at h
   exact T_cTz 24 (decide_eq_true c5)<| T_srz 5<| T_nr 1 [10] [vi 4] hQ h
  rw[if_neg c5]at h
  refine T_cFz 24 (decide_eq_false c5)<| T_k ?_
  refine S_blockEnd ?_
  refine S_then ?_
  refine T_srz 6<| T_n 5 [(34,vp hv),(35,vu ra),(37,vi (IntKind.wrap .i64 (i+1))),(38,vu v)] ?_
  refine T_c (some 39) h ?_;clear h
  rintro f H3 ⟨d,rfl,h⟩
  refine⟨[(39,vi d)],pk,?_⟩
  exact T_nr 1 [10] [vi d] hQ h
 rw[if_neg c1]at h
 exact T_cTz 20 (bne_iff_ne.mpr c1)<| T_srz 3<| T_nr 2 [10] [vi rb] hQ h
end frame_Put

/-! moraine/frame.Field -/
namespace frame_Field
def K0:=Func.code Tryz.f51
end frame_Field
def frame_Field.pt(hv:Option Addr)(f i:Int)(H:Array Obj)(R:Value->Array Obj->Prop):Prop:=
 frame_is.C hv f 8 2 H (λv H1=> ∃x:Bool,v=.bool x/\
 if x=true then(
 if i<0 then(
 R (.tuple #[.int .u64 0,.int .i64 4]) H1)
 else
 frame_Fields.C hv f H1 (λd H2=> ∃a:Int,d=.int .i64 a/\
 if i>=a then(
 R (.tuple #[.int .u64 0,.int .i64 4]) H2)
 else
 obj_Heap_Get.C hv f 8 (IntKind.wrap .i64 (i+2)) H2 (λb H3=> ∃ra rb:Int,b=.tuple #[.int .u64 ra,.int .i64 rb]/\
 R (.tuple #[.int .u64 ra,.int .i64 rb]) H3)))
 else
 R (.tuple #[.int .u64 0,.int .i64 3]) H1)
namespace frame_Field
theorem link{hv:Option Addr}{f i:Int}{H:Array Obj}{R:Value->Array Obj->Prop}(h:pt hv f i H R):C hv f i H R:=by
 refine T_en K0 30 Tryz.func51 ?_
 intro w0 Q hQ
 unfold pt at h
 refine T_su [(0,vp hv),(1,vu f),(2,vi i)]<| T_srz 0<| T_ed 2 [] []<| T_sz<| T_bz 0<| T_srz 1<| T_nd 2 [] [(9,vp hv),(10,vu f)] ?_
 refine T_c (some 11) h ?_;clear h
 rintro v H1 ⟨x,rfl,h⟩
 refine T_pd [9,10] [(11,.bool x)]<| T_ed 2 [11] [(8,.bool (!x))] ?_
 by_cases c1:x=true
 ·rw[if_pos c1]at h
  refine T_cFz 8 (congrArg Bool.not (c1))<| T_srz 3<| T_nd 3 [8] [(16,.bool (decide (i<0)))] ?_
  by_cases c3:i<0
  ·rw[if_pos c3]at h
   exact N_bd 16 (decide_eq_true c3)<| T_ed 7 [16] [(13,.bool true)]<| T_tz 13<| T_srz 4<| T_nr 2 [6,7] [vu 0,vi 4] hQ h
  rw[if_neg c3]at h
  refine N_bd 16 (decide_eq_false c3)<| T_nd 3 [] [(17,vi i),(18,vp hv),(19,vu f)] ?_
  refine T_c (some 20) h ?_;clear h
  rintro d H2 ⟨a,rfl,h⟩
  refine T_pd [18,19] [(20,vi a)]<| T_ed 3 [16,17,20] [(13,.bool (decide (i>=a)))] ?_
  by_cases c5:i>=a
  ·rw[if_pos c5]at h
   exact T_cTz 13 (decide_eq_true c5)<| T_srz 4<| T_nr 2 [6,7] [vu 0,vi 4] hQ h
  rw[if_neg c5]at h
  refine T_cFz 13 (decide_eq_false c5)<| T_k ?_
  refine S_blockEnd ?_
  refine S_then ?_
  refine T_srz 5<| T_n 4 [(23,vp hv),(24,vu f),(26,vi (IntKind.wrap .i64 (i+2)))] ?_
  refine T_c (some 27) h ?_;clear h
  rintro b H3 ⟨ra,rb,rfl,h⟩
  refine⟨[(27,.tuple #[vu ra,vi rb])],pk,?_⟩
  exact T_nr 4 [6,7] [vu ra,vi rb] hQ h
 rw[if_neg c1]at h
 exact T_cTz 8 (congrArg Bool.not (eq_false_of_ne_true c1))<| T_srz 2<| T_nr 2 [6,7] [vu 0,vi 3] hQ h
end frame_Field

/-! moraine/frame.Fields -/
namespace frame_Fields
def K0:=Func.code Tryz.f53
end frame_Fields
def frame_Fields.pt(hv:Option Addr)(f:Int)(H:Array Obj)(R:Value->Array Obj->Prop):Prop:=
 frame_is.C hv f 8 2 H (λv H1=> ∃x:Bool,v=.bool x/\
 if x=true then(
 obj_Heap_Len.C hv f H1 (λb H2=> ∃a:Int,b=.int .i64 a/\
 R (.int .i64 (IntKind.wrap .i64 (a-2))) H2))
 else
 R (.int .i64 0) H1)
namespace frame_Fields
theorem link{hv:Option Addr}{f:Int}{H:Array Obj}{R:Value->Array Obj->Prop}(h:pt hv f H R):C hv f H R:=by
 refine T_en K0 13 Tryz.func53 ?_
 intro w0 Q hQ
 unfold pt at h
 refine T_su [(0,vp hv),(1,vu f)]<| T_srz 0<| T_ed 1 [] []<| T_sz<| T_srz 1<| T_nd 2 [] [(5,vp hv),(6,vu f)] ?_
 refine T_c (some 7) h ?_;clear h
 rintro v H1 ⟨x,rfl,h⟩
 refine T_pd [5,6] [(7,.bool x)]<| T_ed 1 [7] [(8,.bool (!x))] ?_
 by_cases c1:x=true
 ·rw[if_pos c1]at h
  refine T_cFz 8 (congrArg Bool.not (c1))<| T_kt<| T_srz 3<| T_n 2 [(9,vp hv),(10,vu f)] ?_
  refine T_c (some 11) h ?_;clear h
  rintro b H2 ⟨a,rfl,h⟩
  refine⟨[(11,vi a)],pk,?_⟩
  exact T_nr 2 [4] [vi (IntKind.wrap .i64 (a-2))] hQ h
 rw[if_neg c1]at h
 exact T_cTz 8 (congrArg Bool.not (eq_false_of_ne_true c1))<| T_srz 2<| T_nr 1 [4] [vi 0] hQ h
end frame_Fields

/-! moraine/frame.above -/
namespace frame_above
def K0:=Func.code Tryz.f106
def K2:=cb K0
def K4:=cb K2
def K12:=cb K4
def K13:=ca K12
def K16:=cb K13
def K17:=ca K16
def K18:=ca K17
end frame_above
def frame_above.pt(hv:Option Addr)(b a:Int)(H:Array Obj)(R:Value->Array Obj->Prop):Prop:=
 if((decide (a<0)) || (decide (a>65536)))=true then(
 R (.tuple #[.int .u64 0,.int .i64 4]) H)
 else
 ∃(d:Int->Int->Array Obj->Prop) (m19:Int->Int->Array Obj->Nat),d b 0 H/\ ∀(wv:Int) (s16:Int) (H1:Array Obj),d wv s16 H1->
 if s16<a then(
 obj_Heap_Get.C hv wv 7 0 H1 (λv H2=> ∃ra rb:Int,v=.tuple #[.int .u64 ra,.int .i64 rb]/\
 if rb=0 then(
 (d ra (IntKind.wrap .i64 (s16+1)) H2/\m19 ra (IntKind.wrap .i64 (s16+1)) H2<m19 wv s16 H1))
 else
 R (.tuple #[.int .u64 0,.int .i64 3]) H2))
 else
 frame_is.C hv wv 7 1 H1 (λe H3=> ∃x:Bool,e=.bool x/\
 if x=true then(
 R (.tuple #[.int .u64 wv,.int .i64 0]) H3)
 else
 R (.tuple #[.int .u64 0,.int .i64 3]) H3)
namespace frame_above
theorem link{hv:Option Addr}{b a:Int}{H:Array Obj}{R:Value->Array Obj->Prop}(h:pt hv b a H R):C hv b a H R:=by
 refine T_en K0 32 Tryz.func106 ?_
 intro w0 Q hQ
 unfold pt at h
 refine T_su [(0,vp hv),(1,vu b),(2,vi a)]<| T_srz 0<| T_ed 2 [] []<| T_sz<| T_srz 1 ?_
 refine N_cut [(0,vp hv),(1,vu b),(2,vi a),(13,.bool ((decide (a<0)) || (decide (a>65536))))] ?_ ?_
 ·refine S_then ?_
  by_cases c3:((decide (a<0)) || (decide (a>65536)))=true
  ·rw[if_pos c3]at h
   exact T_cTz 13 c3<| T_srz 2<| T_nr 2 [6,7] [vu 0,vi 4] hQ h
  rw[if_neg c3]at h
  refine T_cFz 13 (eq_false_of_ne_true c3)<| T_kt<| T_srz 3<| T_ne 2 [(0,vp hv),(2,vi a),(6,vu b)]<| T_sz<| T_srz 4<| T_ed 2 [2] [(15,vi a),(16,vi 0)]<| T_bz 0 ?_
  obtain⟨d,m19,i5,i6⟩:=h
  refine S_loop (x:=K18) (σ:=Int×Int) (λs_=> [(0,vp hv),(6,vu s_.1),(15,vi a),(16,vi s_.2)]) (λs_ H=>d s_.1 s_.2 H) (λs_ H=>m19 s_.1 s_.2 H) ((b,0):Int×Int) (by kernel_rfl) i5 sk ?_
  rintro⟨wv,s16⟩ H1 i7
  have h:=i6 wv s16 H1 i7
  refine T_su [(0,vp hv),(6,vu wv),(15,vi a),(16,vi s16)]<| T_srz 5<| T_ed 1 [] [(17,.bool (decide (s16<a)))]<| T_sz ?_
  by_cases c8:s16<a
  ·rw[if_pos c8]at h
   refine T_cTz 17 (decide_eq_true c8)<| T_kt<| T_sz<| T_bz 1<| T_srz 6<| T_nd 2 [6,17] [(19,vp hv),(20,vu wv)] ?_
   refine T_c (some 21) h ?_;clear h
   rintro v H2 ⟨ra,rb,rfl,h⟩
   refine T_pd [19,20] [(21,.tuple #[vu ra,vi rb])]<| T_ed 5 [21] [(6,vu ra),(7,vi rb)]<| T_srz 7<| T_ed 2 [7] [(25,.bool (rb !=0))] ?_
   by_cases c10:rb=0
   ·rw[if_pos c10]at h
    refine T_cFz 25 (bne_eq_false_iff_eq.mpr c10)<| T_k ?_
    refine S_blockEnd ?_
    refine S_then ?_
    refine T_rz 9<| T_ed 2 [16,25] [(16,vi (IntKind.wrap .i64 (s16+1)))] ?_
    exact S_round ((ra,(IntKind.wrap .i64 (s16+1))):Int×Int) sk h
   rw[if_neg c10]at h
   exact T_cTz 25 (bne_iff_ne.mpr c10)<| T_srz 8<| T_nr 2 [6,7] [vu 0,vi 3] hQ h
  rw[if_neg c8]at h
  refine T_cFz 17 (decide_eq_false c8) ?_
  refine S_exit 0 (by kernel_rfl) ?_
  refine S_exitThen ?_
  refine S_exitThen ?_
  refine S_exitHere ?_
  refine S_then ?_
  refine T_sz<| T_srz 10<| T_n 2 [(6,vu wv),(27,vp hv),(28,vu wv)] ?_
  refine T_c (some 29) h ?_;clear h
  rintro e H3 ⟨x,rfl,h⟩
  refine T_pd [27,28] [(29,.bool x)]<| T_ed 1 [29] [(30,.bool (!x))] ?_
  by_cases c12:x=true
  ·rw[if_pos c12]at h
   exact T_cFz 30 (congrArg Bool.not (c12))<| T_kt<| T_srz 12<| T_nr 3 [6,7] [vu wv,vi 0] hQ h
  rw[if_neg c12]at h
  exact T_cTz 30 (congrArg Bool.not (eq_false_of_ne_true c12))<| T_srz 11<| T_nr 2 [6,7] [vu 0,vi 3] hQ h
 intro hk
 refine T_n 3 [(0,vp hv),(1,vu b),(2,vi a),(10,.bool (decide (a<0)))] ?_
 by_cases c1:a<0
 ·have b2:(decide (a<0))=true:=decide_eq_true c1
  refine N_env [(0,vp hv),(1,vu b),(2,vi a),(10,.bool true)] (by rw[b2]) ?_
  refine T_nd 3 [10] [(13,.bool true)] ?_
  refine N_end (by kernel_rfl) ?_
  refine S_bd 13 (b:=true) (v:=((decide (a<0)) || (decide (a>65536)))) (by simp only[b2,BL]) ?_
  exact hk
 have b2:(decide (a<0))=false:=decide_eq_false c1
 refine N_env [(0,vp hv),(1,vu b),(2,vi a),(10,.bool false)] (by rw[b2]) ?_
 refine T_nd 3 [10] [(13,.bool (decide (a>65536)))] ?_
 refine N_end (by kernel_rfl) ?_
 refine S_bd 13 (b:=(decide (a>65536))) (v:=((decide (a<0)) || (decide (a>65536)))) (by simp only[b2,BL]) ?_
 exact hk
end frame_above

/-! moraine/frame.is -/
namespace frame_is
def K0:=Func.code Tryz.f109
end frame_is
def frame_is.pt(hv:Option Addr)(wv b a:Int)(H:Array Obj)(R:Value->Array Obj->Prop):Prop:=
 obj_Heap_Type.C hv wv H (λv H1=> ∃x:Int,v=.int .i64 x/\
 if x=b then(
 obj_Heap_Len.C hv wv H1 (λe H2=> ∃d:Int,e=.int .i64 d/\
 R (.bool (decide (d>=a))) H2))
 else
 R (.bool false) H1)
namespace frame_is
theorem link{hv:Option Addr}{wv b a:Int}{H:Array Obj}{R:Value->Array Obj->Prop}(h:pt hv wv b a H R):C hv wv b a H R:=by
 refine T_en K0 21 Tryz.func109 ?_
 intro w0 Q hQ
 unfold pt at h
 refine T_su [(0,vp hv),(1,vu wv),(2,vi b),(3,vi a)]<| T_srz 0<| T_ed 1 [] []<| T_srz 1<| T_nd 2 [] [(9,vp hv),(10,vu wv)] ?_
 refine T_c (some 11) h ?_;clear h
 rintro v H1 ⟨x,rfl,h⟩
 refine T_pd [9,10] [(11,vi x)]<| T_nd 3 [2,11] [(14,.bool (x==b))] ?_
 by_cases c1:x=b
 ·rw[if_pos c1]at h
  refine N_bd 14 (beq_iff_eq.mpr c1)<| T_nd 2 [0,1] [(15,vp hv),(16,vu wv)] ?_
  refine T_c (some 17) h ?_;clear h
  rintro e H2 ⟨d,rfl,h⟩
  exact T_pd [15,16] [(17,vi d)]<| T_nr 4 [8] [.bool (decide (d>=a))] hQ h
 rw[if_neg c1]at h
 exact N_bd 14 (beq_eq_false_iff_ne.mpr c1)<| T_nr 7 [8] [.bool false] hQ h
end frame_is

end Go.Proofs.YtibpklpgmgakcaaGreat
