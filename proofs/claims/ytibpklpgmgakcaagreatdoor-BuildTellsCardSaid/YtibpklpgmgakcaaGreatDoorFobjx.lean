/- Printed: what each function asks, and that it is sound. -/
import Derived.Test.YtibpklpgmgakcaaGreatDoorFnsC
set_option linter.unusedSimpArgs false
set_option linter.unusedVariables false
set_option maxRecDepth 100000
set_option maxHeartbeats 1000000
noncomputable section
namespace Go.Proofs.YtibpklpgmgakcaaGreatDoor
open Go
/-! (*moraine/obj.Heap).String -/
namespace obj_Heap_String
def K0:=Func.code Tryz.f17
def K2:=cb K0
def K4:=cb K2
def K5:=ca K4
def K8:=cb K5
def K9:=ca K8
def K10:=ca K9
end obj_Heap_String
def obj_Heap_String.pt(hv:Option Addr)(s:ByteArray)(H:Array Obj)(R:Value->Array Obj->Prop):Prop:=
 ∀(b:Nat) (H1:Array Obj),b=H.size->H1=H.push (.stringIter s 0)->
 ∃(f:(Option Addr)->Nat->Nat->Array Obj->Prop) (m11:(Option Addr)->Nat->Nat->Array Obj->Nat),f none 0 0 H1/\ ∀(lB:Option Addr) (lN:Nat) (lC:Nat) (H2:Array Obj),f lB lN lC H2->
 ∃(a:ByteArray) (pos:Nat),H2[b]?=some (.stringIter a pos)/\
 if pos<a.size then(∀H3:Array Obj,H3=setBlk H2 b (.stringIter a (pos+(Utf8.decode a pos).2))->
 ∀(e:Nat) (H4:Array Obj),e=H3.size->H4=H3.push (.cells #[.int .u64 (IntKind.wrap .u64 ((Utf8.decode a pos).1:Int))] 54)->
 appendK 1 54 8 [.int .u64 0] lB lN lC (some (ad e)) 1 H4 (λap d H5=>
 if((lN+1):Int)>62 then(
 R (.tuple #[.int .u64 0,.int .i64 6]) H5)
 else
 (f ap (lN+1) d H5/\m11 ap (lN+1) d H5<m11 lB lN lC H2)))
 else
 obj_Heap_Make.C hv 2 0 lB lN lC H2 (λv H6=> ∃ra rb:Int,v=.tuple #[.int .u64 ra,.int .i64 rb]/\
 R (.tuple #[.int .u64 ra,.int .i64 rb]) H6)
namespace obj_Heap_String
theorem link{hv:Option Addr}{s:ByteArray}{H:Array Obj}{R:Value->Array Obj->Prop}(h:pt hv s H R):C hv s H R:=by
 refine T_en K0 27 Tryz.func17 ?_
 intro w0 Q hQ
 unfold pt at h
 refine T_su [(0,vp hv),(1,.string s)]<| T_srz 0<| T_ed 2 [] []<| T_srz 1<| T_ed 1 [] [(6,vs none 0 0)]<| T_sz<| T_srz 2<| T_nd 1 [1] [(9,.string s)]<| T_nw (some 10) (λb=>vp (pa b)) (.stringIter s 0) ?_
 intro b H1 e1 e2
 replace h:=h b H1 e1 e2
 refine T_pd [9] [(10,vp (pa b))]<| T_e<| T_bz 0 ?_
 obtain⟨f,m11,i3,i4⟩:=h
 refine S_loop (x:=K10) (σ:=(Option Addr)×Nat×Nat) (λs_=> [(0,vp hv),(6,vs s_.1 s_.2.1 s_.2.2),(10,vp (pa b))]) (λs_ H=>f s_.1 s_.2.1 s_.2.2 H) (λs_ H=>m11 s_.1 s_.2.1 s_.2.2 H) ((none,0,0):(Option Addr)×Nat×Nat) (by kernel_rfl) i3 sk ?_
 rintro⟨lB,lN,lC⟩ H2 i5
 have h:=i4 lB lN lC H2 i5
 refine T_su [(0,vp hv),(6,vs lB lN lC),(10,vp (pa b))]<| T_srz 3 ?_
 obtain⟨a,pos,q6,h⟩:=h
 by_cases c7:pos<a.size
 ·rw[if_pos c7]at h
  refine N_op (some 11) (nextN (vp (pa b)) true 0) _ (λ_=>by kernel_rfl) (next_go q6 c7) ?_
  rintro _ H3 ⟨rfl,e12⟩
  replace h:=h H3 (by assumption)
  refine T_pd [] [(11,.tuple #[.bool true,vi pos,.int .i32 ((Utf8.decode a pos).1:Int)])]<| T_ed 1 [] [(12,.bool true)]<| T_sz<| T_tz 12<| T_kt<| T_bz 1<| T_srz 4<| T_ed 2 [11,12] [(8,.int .i32 ((Utf8.decode a pos).1:Int))]<| T_srz 5 ?_
  refine T_nd 3 [6,8] [(14,vs lB lN lC),(16,vu (IntKind.wrap .u64 ((Utf8.decode a pos).1:Int)))]<| T_nw (some 17) (λb=>vs (pa b) 1 1) (.cells #[vu (IntKind.wrap .u64 ((Utf8.decode a pos).1:Int))] 54) ?_
  intro e H4 e8 e9
  replace h:=h e H4 e8 e9
  refine T_pd [16] [(17,vs (pa e) 1 1)] ?_
  refine N_op (some 18) (appendN #[28,28] 28 #[vs lB lN lC,vs (pa e) 1 1]) _ (λ_=>by kernel_rfl) (ss_append (T:=54) (sz:=1) (bytes:=8) (zero:=(vu 0:Value)) Tryz.underlying28 Tryz.underlying28 rfl (show Tryz.prog.info? 54=some Tryz.t54 from by kernel_rfl) (by kernel_rfl) (by kernel_rfl) (by decide) (by kernel_rfl) (by first | exact h | (simpa only[Value.cells,List.toList_toArray]using h))) ?_;clear h
  rintro _ H5 ⟨ap,d,rfl,h⟩
  refine T_pd [14,17] [(18,vs ap (lN+1) d)]<| T_ed 1 [18] [(6,vs ap (lN+1) d)]<| T_srz 6<| T_ed 3 [] [(21,.bool (decide (((lN+1):Int)>62)))] ?_
  by_cases c10:((lN+1):Int)>62
  ·rw[if_pos c10]at h
   exact T_cTz 21 (decide_eq_true c10)<| T_srz 7<| T_nr 2 [4,5] [vu 0,vi 6] hQ h
  rw[if_neg c10]at h
  refine T_cFz 21 (decide_eq_false c10)<| T_k ?_
  refine S_blockEnd ?_
  refine S_then ?_
  exact S_round ((ap,(lN+1),d):(Option Addr)×Nat×Nat) sk h
 rw[if_neg c7]at h
 refine N_op (some 11) (nextN (vp (pa b)) true 0) _ (λ_=>by kernel_rfl) (next_end q6 c7) ?_
 rintro _ _ ⟨rfl,rfl⟩
 refine T_pd [] [(11,.tuple #[.bool false])]<| T_ed 1 [] [(12,.bool false)]<| T_sz<| T_fz 12 ?_
 refine S_exit 0 (by kernel_rfl) ?_
 refine S_exitThen ?_
 refine S_exitThen ?_
 refine S_exitHere ?_
 refine S_then ?_
 refine T_srz 8<| T_n 2 [(22,vp hv),(23,vs lB lN lC)] ?_
 refine T_c (some 24) h ?_;clear h
 rintro v H6 ⟨ra,rb,rfl,h⟩
 refine⟨[(24,.tuple #[vu ra,vi rb])],pk,?_⟩
 exact T_nr 4 [4,5] [vu ra,vi rb] hQ h
end obj_Heap_String

/-! (*moraine/obj.Heap).Int -/
namespace obj_Heap_Int
def K0:=Func.code Tryz.f30
def K2:=cb K0
def K4:=cb K2
def K6:=cb K4
def K12:=cb K6
def K22:=cb K12
def K23:=ca K22
def K26:=cb K23
def K27:=ca K26
def K28:=ca K27
end obj_Heap_Int
def obj_Heap_Int.pt(hv:Option Addr)(al:Bool)(aa:Option Addr)(ac ab:Nat)(H:Array Obj)(R:Value->Array Obj->Prop):Prop:=
 ∀(b:Nat) (H1:Array Obj),b=H.size->H1=H.push (.cells #[.bool al,.slice aa ac ab] 48)->
 ∃(ai:Bool) (y:Option Addr) (z u:Nat),RowAt H1 (ad b) 0 [.bool ai,.slice y z u]/\
 num_Norm.C ai y z u H1 (λv H2=> ∃(m:Bool) (e:Option Addr) (f g:Nat) (rb:Int),v=.tuple #[.agg #[.bool m,.slice e f g],.int .i64 rb]/\
 ∀(d:Nat) (H3:Array Obj),d=H2.size->H3=H2.push (.cells #[.bool false,.slice none 0 0] 48)->
 (CanPuts H3 (ad d) 0 2)/\ ∀H4,H4=hputs H3 (ad d) [.bool m,.slice e f g] 0->
 if rb=0 then(
 ∃(r:Bool) (p:Option Addr) (o q:Nat),RowAt H4 (ad d) 0 [.bool r,.slice p o q]/\
 num_Fix.C r p o q H4 (λav H5=> ∃(ra:Int) (s:Bool),av=.tuple #[.int .i64 ra,.bool s]/\
 if s=true then(
 word_Fix.C ra H5 (λaw H6=> ∃ak aj:Int,aw=.tuple #[.int .u64 ak,.int .i64 aj]/\
 R (.tuple #[.int .u64 ak,.int .i64 aj]) H6))
 else
 ∃(xB:Option Addr) (xN xC:Nat),hat H5 ((ad d).add 1)=some (.slice xB xN xC)/\
 ∃(aq:(Option Addr)->Nat->Nat->Int->Array Obj->Prop) (m29:(Option Addr)->Nat->Nat->Int->Array Obj->Nat),aq none 0 0 0 H5/\ ∀(lB:Option Addr) (lN:Nat) (lC:Nat) (s35:Int) (H7:Array Obj),aq lB lN lC s35 H7->
 if s35< (xN:Int)then(
 ∃j:Addr,xB=some j/\
 ((0:Int)<=s35/\s35< (xN:Int))/\
 ∃x:Int,hat H7 (j.add (Int.toNat s35*1))=some (.int .u32 x)/\
 ∀(ao:Nat) (H8:Array Obj),ao=H7.size->H8=H7.push (.cells #[.int .u64 (IntKind.wrap .u64 x)] 54)->
 appendK 1 54 8 [.int .u64 0] lB lN lC (some (ad ao)) 1 H8 (λap an H9=>
 (aq ap (lN+1) an (IntKind.wrap .i64 (s35+1)) H9/\m29 ap (lN+1) an (IntKind.wrap .i64 (s35+1)) H9<m29 lB lN lC s35 H7)))
 else
 ∃am:Bool,hat H7 (ad d)=some (.bool am)/\
 if am=true then(
 obj_Heap_Make.C hv 3 1 lB lN lC H7 (λax au=> ∃af ae:Int,ax=.tuple #[.int .u64 af,.int .i64 ae]/\
 R (.tuple #[.int .u64 af,.int .i64 ae]) au))
 else
 obj_Heap_Make.C hv 3 0 lB lN lC H7 (λaz ay=> ∃ag ah:Int,az=.tuple #[.int .u64 ag,.int .i64 ah]/\
 R (.tuple #[.int .u64 ag,.int .i64 ah]) ay)))
 else
 R (.tuple #[.int .u64 0,.int .i64 rb]) H4)
namespace obj_Heap_Int
theorem link{hv:Option Addr}{al:Bool}{aa:Option Addr}{ac ab:Nat}{H:Array Obj}{R:Value->Array Obj->Prop}(h:pt hv al aa ac ab H R):C hv al aa ac ab H R:=by
 refine T_en K0 53 Tryz.func30 ?_
 intro w0 Q hQ
 unfold pt at h
 refine T_su [(0,vp hv),(1,.agg #[.bool al,vs aa ac ab])]<| T_srz 0<| T_nw (some 3) (λb=>vp (pa b)) (.cells #[.bool al,vs aa ac ab] 48) ?_
 intro b H1 e1 e2
 replace h:=h b H1 e1 e2
 refine T_pd [1] [(3,vp (pa b))]<| T_ed 2 [] []<| T_srz 1 ?_
 obtain⟨ai,y,z,u,q3,h⟩:=h
 refine T_lr 15 48 q3 [3] ?_
 refine T_c (some 16) h ?_;clear h
 rintro v H2 ⟨m,e,f,g,rb,rfl,h⟩
 refine T_pd [15] [(16,.tuple #[.agg #[.bool m,vs e f g],vi rb])]<| T_nd 3 [16] [(17,.agg #[.bool m,vs e f g]),(18,vi rb)]<| T_nw (some 6) (λb=>vp (pa b)) (.cells #[.bool false,vs none 0 0] 48) ?_
 intro d H3 e4 e5
 replace h:=h d H3 e4 e5
 refine T_pd [] [(6,vp (pa d))] ?_
 obtain⟨q7,h⟩:=h
 refine T_sta 48 [.bool m,vs e f g] q7 ?_
 intro H4 e6
 replace h:=h H4 e6
 refine T_pd [17] []<| T_ed 1 [18] [(7,vi rb)]<| T_sz<| T_srz 2<| T_ed 2 [] [(20,.bool (rb !=0))] ?_
 by_cases c8:rb=0
 ·rw[if_pos c8]at h
  refine T_cFz 20 (bne_eq_false_iff_eq.mpr c8)<| T_kt<| T_sz<| T_srz 4<| T_ud [7,20] [] ?_
  obtain⟨r,p,o,q,q10,h⟩:=h
  refine T_lr 23 48 q10 [] ?_
  refine T_c (some 24) h ?_;clear h
  rintro av H5 ⟨ra,s,rfl,h⟩
  refine T_pd [23] [(24,.tuple #[vi ra,.bool s])]<| T_ed 5 [24] [(8,vi ra),(9,.bool s)]<| T_srz 5<| T_ed 1 [9] [(27,.bool s)] ?_
  by_cases c11:s=true
  ·rw[if_pos c11]at h
   refine T_cTz 27 c11<| T_srz 6<| T_n 1 [(28,vi ra)] ?_
   refine T_c (some 29) h ?_;clear h
   rintro aw H6 ⟨ak,aj,rfl,h⟩
   refine⟨[(29,.tuple #[vu ak,vi aj])],pk,?_⟩
   exact T_nr 4 [4,5] [vu ak,vi aj] hQ h
  rw[if_neg c11]at h
  refine T_cFz 27 (eq_false_of_ne_true c11)<| T_kt<| T_srz 7<| T_ed 1 [8,27] [(10,vs none 0 0)]<| T_sz<| T_srz 8<| T_nd 1 [] [(32,vp (some ((ad d).add 1)))] ?_
  obtain⟨xB,xN,xC,q13,h⟩:=h
  refine T_l1 33 46 q13 [32]<| T_ed 2 [] [(34,vi xN),(35,vi 0)]<| T_bz 0 ?_
  obtain⟨aq,m29,i14,i15⟩:=h
  refine S_loop (x:=K28) (σ:=(Option Addr)×Nat×Nat×Int) (λs_=> [(0,vp hv),(6,vp (pa d)),(10,vs s_.1 s_.2.1 s_.2.2.1),(33,vs xB xN xC),(34,vi xN),(35,vi s_.2.2.2)]) (λs_ H=>aq s_.1 s_.2.1 s_.2.2.1 s_.2.2.2 H) (λs_ H=>m29 s_.1 s_.2.1 s_.2.2.1 s_.2.2.2 H) ((none,0,0,0):(Option Addr)×Nat×Nat×Int) (by kernel_rfl) i14 sk ?_
  rintro⟨lB,lN,lC,s35⟩ H7 i16
  have h:=i15 lB lN lC s35 H7 i16
  refine T_su [(0,vp hv),(6,vp (pa d)),(10,vs lB lN lC),(33,vs xB xN xC),(34,vi xN),(35,vi s35)]<| T_srz 9<| T_ed 1 [] [(36,.bool (decide (s35< (xN:Int))))]<| T_sz ?_
  by_cases c17:s35< (xN:Int)
  ·rw[if_pos c17]at h
   refine T_cTz 36 (decide_eq_true c17)<| T_kt<| T_sz<| T_bz 1<| T_srz 10<| T_ud [36] [] ?_
   obtain⟨j,rfl,h⟩:=h
   obtain⟨q19,h⟩:=h
   refine T_xd (some 37) 46 74 1 j xN xC .i64 s35 Tryz.underlying46 q19.1 q19.2 [33] [(33,vs (some j) xN xC),(37,vp (some (j.add (Int.toNat s35*1))))] ?_
   obtain⟨x,q20,h⟩:=h
   refine T_l1 38 74 q20 [37]<| T_ed 1 [38] [(12,.int .u32 x)]<| T_rz 11<| T_nd 3 [10,12] [(39,vs lB lN lC),(41,vu (IntKind.wrap .u64 x))]<| T_nw (some 42) (λb=>vs (pa b) 1 1) (.cells #[vu (IntKind.wrap .u64 x)] 54) ?_
   intro ao H8 e21 e22
   replace h:=h ao H8 e21 e22
   refine T_pd [41] [(42,vs (pa ao) 1 1)] ?_
   refine N_op (some 43) (appendN #[28,28] 28 #[vs lB lN lC,vs (pa ao) 1 1]) _ (λ_=>by kernel_rfl) (ss_append (T:=54) (sz:=1) (bytes:=8) (zero:=(vu 0:Value)) Tryz.underlying28 Tryz.underlying28 rfl (show Tryz.prog.info? 54=some Tryz.t54 from by kernel_rfl) (by kernel_rfl) (by kernel_rfl) (by decide) (by kernel_rfl) (by first | exact h | (simpa only[Value.cells,List.toList_toArray]using h))) ?_;clear h
   rintro _ H9 ⟨ap,an,rfl,h⟩
   refine T_pd [39,42] [(43,vs ap (lN+1) an)]<| T_nd 1 [43] [(10,vs ap (lN+1) an)] ?_
   refine N_end (by kernel_rfl) ?_
   refine S_blockEnd ?_
   refine S_then ?_
   refine T_rz 12<| T_ed 2 [35] [(35,vi (IntKind.wrap .i64 (s35+1)))] ?_
   exact S_round ((ap,(lN+1),an,(IntKind.wrap .i64 (s35+1))):(Option Addr)×Nat×Nat×Int) sk h
  rw[if_neg c17]at h
  refine T_cFz 36 (decide_eq_false c17) ?_
  refine S_exit 0 (by kernel_rfl) ?_
  refine S_exitThen ?_
  refine S_exitThen ?_
  refine S_exitHere ?_
  refine S_then ?_
  refine T_srz 13<| T_ed 1 [33,34,35,36] [(13,vu 0)]<| T_sz<| T_srz 14<| T_nd 1 [6] [(45,vp (pa d))] ?_
  obtain⟨am,q23,h⟩:=h
  refine T_l1 46 4 q23 [45]<| T_e ?_
  by_cases c24:am=true
  ·rw[if_pos c24]at h
   refine T_cTz 46 c24<| T_rz 15<| T_ed 1 [13,46] [(13,vu 1)]<| T_srz 16<| T_n 3 [(47,vp hv),(48,vu 1),(49,vs lB lN lC)] ?_
   refine T_c (some 50) h ?_;clear h
   rintro ax au ⟨af,ae,rfl,h⟩
   refine⟨[(50,.tuple #[vu af,vi ae])],pk,?_⟩
   exact T_nr 4 [4,5] [vu af,vi ae] hQ h
  rw[if_neg c24]at h
  refine T_cFz 46 (eq_false_of_ne_true c24)<| T_kt<| T_srz 16<| T_n 3 [(47,vp hv),(48,vu 0),(49,vs lB lN lC)] ?_
  refine T_c (some 50) h ?_;clear h
  rintro az ay ⟨ag,ah,rfl,h⟩
  refine⟨[(50,.tuple #[vu ag,vi ah])],pk,?_⟩
  exact T_nr 4 [4,5] [vu ag,vi ah] hQ h
 rw[if_neg c8]at h
 exact T_cTz 20 (bne_iff_ne.mpr c8)<| T_srz 3<| T_nr 3 [4,5] [vu 0,vi rb] hQ h
end obj_Heap_Int

/-! (*moraine/obj.Heap).Num -/
namespace obj_Heap_Num
def K0:=Func.code Tryz.f40
def K2:=cb K0
def K4:=cb K2
def K14:=cb K4
def K16:=cb K14
def K22:=cb K16
def K23:=ca K22
def K26:=cb K23
def K27:=ca K26
def K28:=ca K27
end obj_Heap_Num
def obj_Heap_Num.pt(hv:Option Addr)(wv:Int)(H:Array Obj)(R:Value->Array Obj->Prop):Prop:=
 ∀(b:Nat) (H1:Array Obj),b=H.size->H1=H.push (.cells #[.bool false,.slice none 0 0] 48)->
 word_Int.C wv H1 (λv H2=> ∃(ra:Int) (rb:Bool),v=.tuple #[.int .i64 ra,.bool rb]/\
 if rb=true then(
 num_Of.C ra H2 (λbl H3=> ∃(ax:Bool) (ac:Option Addr) (ae ab:Nat),bl=.agg #[.bool ax,.slice ac ae ab]/\
 (CanPuts H3 (ad b) 0 2)/\ ∀H4,H4=hputs H3 (ad b) [.bool ax,.slice ac ae ab] 0->
 ∃(a9:Bool) (a4:Option Addr) (a6 a5:Nat),RowAt H4 (ad b) 0 [.bool a9,.slice a4 a6 a5]/\
 R (.tuple #[.agg #[.bool a9,.slice a4 a6 a5],.int .i64 0]) H4))
 else
 obj_Heap_words.C hv wv 3 H2 (λbj H5=> ∃(o:Option Addr) (d g:Nat) (z:Bool),bj=.tuple #[.slice o d g,.bool z]/\
 if z=true then(
 obj_Heap_More.C hv wv H5 (λbk H6=> ∃x:Int,bk=.int .u64 x/\
 ∀(e:Nat) (H7:Array Obj),e=H6.size->H7=H6.push (.cells #[.bool false,.slice none 0 0] 48)->
 (CanPuts H7 (ad e) 0 2)/\ ∀H8,H8=hputs H7 (ad e) [.bool (x==1),.slice none 0 0] 0->
 ∃(bc:Int->Array Obj->Prop) (m29:Int->Array Obj->Nat),bc 0 H8/\ ∀(f:Int) (H9:Array Obj),bc f H9->
 if f< (d:Int)then(
 ∃j:Addr,o=some j/\
 ((0:Int)<=f/\f< (d:Int))/\
 ∃aw:Int,hat H9 (j.add (Int.toNat f*1))=some (.int .u64 aw)/\
 ∃(xB:Option Addr) (xN xC:Nat),hat H9 ((ad e).add 1)=some (.slice xB xN xC)/\
 ∀(a8:Nat) (H10:Array Obj),a8=H9.size->H10=H9.push (.cells #[.int .u32 (IntKind.wrap .u32 aw)] 74)->
 appendK 1 74 4 [.int .u32 0] xB xN xC (some (ad a8)) 1 H10 (λap a7 bh=>
 (CanPuts bh ((ad e).add 1) 0 1)/\ ∀bf,bf=hputs bh ((ad e).add 1) [.slice ap (xN+1) a7] 0->
 (bc (IntKind.wrap .i64 (f+1)) bf/\m29 (IntKind.wrap .i64 (f+1)) bf<m29 f H9)))
 else
 ∃(aa:Bool) (u:Option Addr) (s y:Nat),RowAt H9 (ad e) 0 [.bool aa,.slice u s y]/\
 num_May.C aa u s y H9 (λbm bd=> ∃av:Bool,bm=.bool av/\
 if av=true then(
 obj_Heap_More.C hv wv bd (λbi a2=> ∃a3:Int,bi=.int .u64 a3/\
 if a3>1 then(
 (CanPuts a2 (ad b) 0 2)/\ ∀ba,ba=hputs a2 (ad b) [.bool false,.slice none 0 0] 0->
 ∃(az:Bool) (ao:Option Addr) (au ak:Nat),RowAt ba (ad b) 0 [.bool az,.slice ao au ak]/\
 R (.tuple #[.agg #[.bool az,.slice ao au ak],.int .i64 3]) ba)
 else
 ∃(r:Bool) (p:Option Addr) (q m:Nat),RowAt a2 (ad e) 0 [.bool r,.slice p q m]/\
 (CanPuts a2 (ad b) 0 2)/\ ∀bb,bb=hputs a2 (ad b) [.bool r,.slice p q m] 0->
 ∃(ay:Bool) (ag:Option Addr) (al an:Nat),RowAt bb (ad b) 0 [.bool ay,.slice ag al an]/\
 R (.tuple #[.agg #[.bool ay,.slice ag al an],.int .i64 0]) bb))
 else
 (CanPuts bd (ad b) 0 2)/\ ∀be,be=hputs bd (ad b) [.bool false,.slice none 0 0] 0->
 ∃(a0:Bool) (ah:Option Addr) (aq aj:Nat),RowAt be (ad b) 0 [.bool a0,.slice ah aq aj]/\
 R (.tuple #[.agg #[.bool a0,.slice ah aq aj],.int .i64 3]) be)))
 else
 (CanPuts H5 (ad b) 0 2)/\ ∀bg,bg=hputs H5 (ad b) [.bool false,.slice none 0 0] 0->
 ∃(a1:Bool) (af:Option Addr) (ai am:Nat),RowAt bg (ad b) 0 [.bool a1,.slice af ai am]/\
 R (.tuple #[.agg #[.bool a1,.slice af ai am],.int .i64 3]) bg))
namespace obj_Heap_Num
theorem link{hv:Option Addr}{wv:Int}{H:Array Obj}{R:Value->Array Obj->Prop}(h:pt hv wv H R):C hv wv H R:=by
 refine T_en K0 60 Tryz.func40 ?_
 intro w0 Q hQ
 unfold pt at h
 refine T_su [(0,vp hv),(1,vu wv)]<| T_srz 0<| T_nw (some 4) (λb=>vp (pa b)) (.cells #[.bool false,vs none 0 0] 48) ?_
 intro b H1 e1 e2
 replace h:=h b H1 e1 e2
 refine T_pd [] [(4,vp (pa b))]<| T_ed 1 [] []<| T_sz<| T_srz 1<| T_nd 1 [] [(14,vu wv)] ?_
 refine T_c (some 15) h ?_;clear h
 rintro v H2 ⟨ra,rb,rfl,h⟩
 refine T_pd [14] [(15,.tuple #[vi ra,.bool rb])]<| T_ed 5 [15] [(6,vi ra),(7,.bool rb)]<| T_srz 2<| T_ed 1 [7] [(18,.bool rb)] ?_
 by_cases c3:rb=true
 ·rw[if_pos c3]at h
  refine T_cTz 18 c3<| T_srz 3<| T_n 1 [(4,vp (pa b)),(19,vi ra)] ?_
  refine T_c (some 20) h ?_;clear h
  rintro bl H3 ⟨ax,ac,ae,ab,rfl,h⟩
  refine T_pd [19] [(20,.agg #[.bool ax,vs ac ae ab])] ?_
  obtain⟨q6,h⟩:=h
  refine T_sta 48 [.bool ax,vs ac ae ab] q6 ?_
  intro H4 e5
  replace h:=h H4 e5
  refine T_pd [20] []<| T_ed 1 [] [(5,vi 0)] ?_
  refine S_ret (by kernel_rfl) ?_
  show At _ _ _ _ _ (Q .ret)
  obtain⟨a9,a4,a6,a5,q7,h⟩:=h
  exact S_done (fn:=Tryz.f40) [.agg #[.bool a9,vs a4 a6 a5],vi 0] hQ (show ResOK _ _ _ [.cell 4 48,.tmp 5] _ from .cell (by kernel_rfl) (loadOK_row (λ_=>by kernel_rfl) (λ_=>by kernel_rfl) q7) (.tmp (by kernel_rfl) (.nil))) h
 rw[if_neg c3]at h
 refine T_cFz 18 (eq_false_of_ne_true c3)<| T_kt<| T_srz 4<| T_nd 2 [6,18] [(22,vp hv),(23,vu wv)] ?_
 refine T_c (some 24) h ?_;clear h
 rintro bj H5 ⟨o,d,g,z,rfl,h⟩
 refine T_pd [22,23] [(24,.tuple #[vs o d g,.bool z])]<| T_ed 5 [24] [(8,vs o d g),(9,.bool z)]<| T_sz<| T_srz 5<| T_ed 2 [9] [(28,.bool (!z))] ?_
 by_cases c8:z=true
 ·rw[if_pos c8]at h
  refine T_cFz 28 (congrArg Bool.not (c8))<| T_kt<| T_srz 7<| T_nd 2 [28] [(30,vp hv),(31,vu wv)] ?_
  refine T_c (some 32) h ?_;clear h
  rintro bk H6 ⟨x,rfl,h⟩
  refine T_pd [30,31] [(32,vu x)]<| T_nd 2 [32] [(34,.agg #[.bool (x==1),vs none 0 0])]<| T_nw (some 10) (λb=>vp (pa b)) (.cells #[.bool false,vs none 0 0] 48) ?_
  intro e H7 e10 e11
  replace h:=h e H7 e10 e11
  refine T_pd [] [(10,vp (pa e))] ?_
  obtain⟨q13,h⟩:=h
  refine T_sta 48 [.bool (x==1),vs none 0 0] q13 ?_
  intro H8 e12
  replace h:=h H8 e12
  refine T_pd [34] []<| T_e<| T_sz<| T_srz 8<| T_ed 3 [8] [(35,vs o d g),(36,vi d),(37,vi 0)]<| T_bz 0 ?_
  obtain⟨bc,m29,i14,i15⟩:=h
  refine S_loop (x:=K28) (σ:=Int) (λs_=> [(0,vp hv),(1,vu wv),(4,vp (pa b)),(10,vp (pa e)),(35,vs o d g),(36,vi d),(37,vi s_)]) (λs_ H=>bc s_ H) (λs_ H=>m29 s_ H) (0:Int) (by kernel_rfl) i14 sk ?_
  rintro f H9 i16
  have h:=i15 f H9 i16
  refine T_su [(0,vp hv),(1,vu wv),(4,vp (pa b)),(10,vp (pa e)),(35,vs o d g),(36,vi d),(37,vi f)]<| T_srz 9<| T_ed 1 [] [(38,.bool (decide (f< (d:Int))))]<| T_sz ?_
  by_cases c17:f< (d:Int)
  ·rw[if_pos c17]at h
   refine T_cTz 38 (decide_eq_true c17)<| T_kt<| T_sz<| T_bz 1<| T_srz 10<| T_ud [38] [] ?_
   obtain⟨j,rfl,h⟩:=h
   obtain⟨q19,h⟩:=h
   refine T_xd (some 39) 28 54 1 j d g .i64 f Tryz.underlying28 q19.1 q19.2 [35] [(35,vs (some j) d g),(39,vp (some (j.add (Int.toNat f*1))))] ?_
   obtain⟨aw,q20,h⟩:=h
   refine T_l1 40 54 q20 [39]<| T_ed 1 [40] [(12,vu aw)]<| T_rz 11<| T_nd 1 [] [(41,vp (some ((ad e).add 1)))] ?_
   obtain⟨xB,xN,xC,q21,h⟩:=h
   refine T_l1 42 46 q21 [41]<| T_nd 2 [12] [(44,.int .u32 (IntKind.wrap .u32 aw))]<| T_nw (some 45) (λb=>vs (pa b) 1 1) (.cells #[.int .u32 (IntKind.wrap .u32 aw)] 74) ?_
   intro a8 H10 e22 e23
   replace h:=h a8 H10 e22 e23
   refine T_pd [44] [(45,vs (pa a8) 1 1)] ?_
   refine N_op (some 46) (appendN #[46,46] 46 #[vs xB xN xC,vs (pa a8) 1 1]) _ (λ_=>by kernel_rfl) (ss_append (T:=74) (sz:=1) (bytes:=4) (zero:=(.int .u32 0:Value)) Tryz.underlying46 Tryz.underlying46 rfl (show Tryz.prog.info? 74=some Tryz.t74 from by kernel_rfl) (by kernel_rfl) (by kernel_rfl) (by decide) (by kernel_rfl) (by first | exact h | (simpa only[Value.cells,List.toList_toArray]using h))) ?_;clear h
   rintro _ bh ⟨ap,a7,rfl,h⟩
   refine T_pd [42,45] [(46,vs ap (xN+1) a7)]<| T_nd 1 [] [(47,vp (some ((ad e).add 1)))] ?_
   obtain⟨q25,h⟩:=h
   refine T_st1 46 (vs ap (xN+1) a7) q25 ?_
   intro bf e24
   replace h:=h bf e24
   refine T_pd [46,47] [] ?_
   refine N_end (by kernel_rfl) ?_
   refine S_blockEnd ?_
   refine S_then ?_
   refine T_rz 12<| T_ed 2 [37] [(37,vi (IntKind.wrap .i64 (f+1)))] ?_
   exact S_round ((IntKind.wrap .i64 (f+1)):Int) sk h
  rw[if_neg c17]at h
  refine T_cFz 38 (decide_eq_false c17) ?_
  refine S_exit 0 (by kernel_rfl) ?_
  refine S_exitThen ?_
  refine S_exitThen ?_
  refine S_exitHere ?_
  refine S_then ?_
  refine T_sz<| T_srz 13<| T_ud [35,36,37,38] [] ?_
  obtain⟨aa,u,s,y,q26,h⟩:=h
  refine T_lr 49 48 q26 [] ?_
  refine T_c (some 50) h ?_;clear h
  rintro bm bd ⟨av,rfl,h⟩
  refine T_pd [49] [(50,.bool av)]<| T_nd 2 [50] [(52,.bool (!av))] ?_
  by_cases c27:av=true
  ·rw[if_pos c27]at h
   have b28:(!av)=false:=congrArg Bool.not (c27)
   have b282:av=true:=c27
   refine N_bd 52 (b:=(!av)) (v:=false) (by simp only[b28,b282,Bool.not_true,Bool.not_false]) ?_
   clear b28 b282
   refine T_nd 2 [0,1] [(53,vp hv),(54,vu wv)] ?_
   refine T_c (some 55) h ?_;clear h
   rintro bi a2 ⟨a3,rfl,h⟩
   refine T_pd [53,54] [(55,vu a3)]<| T_ed 2 [52,55] [(57,.bool (decide (a3>1)))] ?_
   by_cases c29:a3>1
   ·rw[if_pos c29]at h
    refine T_cTz 57 (decide_eq_true c29)<| T_srz 14<| T_nd 1 [10,57] [(58,.agg #[.bool false,vs none 0 0])] ?_
    obtain⟨q32,h⟩:=h
    refine T_sta 48 [.bool false,vs none 0 0] q32 ?_
    intro ba e31
    replace h:=h ba e31
    refine T_pd [58] []<| T_ed 1 [] [(5,vi 3)] ?_
    refine S_ret (by kernel_rfl) ?_
    show At _ _ _ _ _ (Q .ret)
    obtain⟨az,ao,au,ak,q33,h⟩:=h
    exact S_done (fn:=Tryz.f40) [.agg #[.bool az,vs ao au ak],vi 3] hQ (show ResOK _ _ _ [.cell 4 48,.tmp 5] _ from .cell (by kernel_rfl) (loadOK_row (λ_=>by kernel_rfl) (λ_=>by kernel_rfl) q33) (.tmp (by kernel_rfl) (.nil))) h
   rw[if_neg c29]at h
   refine T_cFz 57 (decide_eq_false c29)<| T_kt<| T_srz 15<| T_ud [57] [] ?_
   obtain⟨r,p,q,m,q34,h⟩:=h
   refine T_lr 59 48 q34 [10] ?_
   obtain⟨q36,h⟩:=h
   refine T_sta 48 [.bool r,vs p q m] q36 ?_
   intro bb e35
   replace h:=h bb e35
   refine T_pd [59] []<| T_ed 1 [] [(5,vi 0)] ?_
   refine S_ret (by kernel_rfl) ?_
   show At _ _ _ _ _ (Q .ret)
   obtain⟨ay,ag,al,an,q37,h⟩:=h
   exact S_done (fn:=Tryz.f40) [.agg #[.bool ay,vs ag al an],vi 0] hQ (show ResOK _ _ _ [.cell 4 48,.tmp 5] _ from .cell (by kernel_rfl) (loadOK_row (λ_=>by kernel_rfl) (λ_=>by kernel_rfl) q37) (.tmp (by kernel_rfl) (.nil))) h
  rw[if_neg c27]at h
  have b28:(!av)=true:=congrArg Bool.not (eq_false_of_ne_true c27)
  have b282:av=false:=eq_false_of_ne_true c27
  refine N_bd 52 (b:=(!av)) (v:=true) (by simp only[b28,b282,Bool.not_true,Bool.not_false]) ?_
  clear b28 b282
  refine T_ed 5 [0,1,52] [(57,.bool true)]<| T_tz 57<| T_srz 14<| T_nd 1 [10,57] [(58,.agg #[.bool false,vs none 0 0])] ?_
  obtain⟨q39,h⟩:=h
  refine T_sta 48 [.bool false,vs none 0 0] q39 ?_
  intro be e38
  replace h:=h be e38
  refine T_pd [58] []<| T_ed 1 [] [(5,vi 3)] ?_
  refine S_ret (by kernel_rfl) ?_
  show At _ _ _ _ _ (Q .ret)
  obtain⟨a0,ah,aq,aj,q40,h⟩:=h
  exact S_done (fn:=Tryz.f40) [.agg #[.bool a0,vs ah aq aj],vi 3] hQ (show ResOK _ _ _ [.cell 4 48,.tmp 5] _ from .cell (by kernel_rfl) (loadOK_row (λ_=>by kernel_rfl) (λ_=>by kernel_rfl) q40) (.tmp (by kernel_rfl) (.nil))) h
 rw[if_neg c8]at h
 refine T_cTz 28 (congrArg Bool.not (eq_false_of_ne_true c8))<| T_srz 6<| T_n 1 [(4,vp (pa b)),(29,.agg #[.bool false,vs none 0 0])] ?_
 obtain⟨q42,h⟩:=h
 refine T_sta 48 [.bool false,vs none 0 0] q42 ?_
 intro bg e41
 replace h:=h bg e41
 refine T_pd [29] []<| T_ed 1 [] [(5,vi 3)] ?_
 refine S_ret (by kernel_rfl) ?_
 show At _ _ _ _ _ (Q .ret)
 obtain⟨a1,af,ai,am,q43,h⟩:=h
 exact S_done (fn:=Tryz.f40) [.agg #[.bool a1,vs af ai am],vi 3] hQ (show ResOK _ _ _ [.cell 4 48,.tmp 5] _ from .cell (by kernel_rfl) (loadOK_row (λ_=>by kernel_rfl) (λ_=>by kernel_rfl) q43) (.tmp (by kernel_rfl) (.nil))) h
end obj_Heap_Num

/-! (*moraine/obj.Heap).Text -/
namespace obj_Heap_Text
def K0:=Func.code Tryz.f42
def K2:=cb K0
def K4:=cb K2
def K6:=cb K4
def K12:=cb K6
def K13:=ca K12
def K16:=cb K13
def K17:=ca K16
def K18:=ca K17
end obj_Heap_Text
def obj_Heap_Text.pt(hv:Option Addr)(wv:Int)(H:Array Obj)(R:Value->Array Obj->Prop):Prop:=
 obj_Heap_words.C hv wv 2 H (λv H1=> ∃(g:Option Addr) (d e:Nat) (rb:Bool),v=.tuple #[.slice g d e,.bool rb]/\
 if rb=true then(
 ∃(q:(Option Addr)->Nat->Nat->Int->Array Obj->Prop) (m19:(Option Addr)->Nat->Nat->Int->Array Obj->Nat),q none 0 0 0 H1/\ ∀(sB:Option Addr) (sN:Nat) (sC:Nat) (s21:Int) (H2:Array Obj),q sB sN sC s21 H2->
 if s21< (d:Int)then(
 ∃f:Addr,g=some f/\
 ((0:Int)<=s21/\s21< (d:Int))/\
 ∃x:Int,hat H2 (f.add (Int.toNat s21*1))=some (.int .u64 x)/\
 if x>1114111 then(
 ∀(b:Nat) (H3:Array Obj),b=H2.size->H3=H2.push (.cells #[.int .i32 (IntKind.wrap .i32 65533)] 21)->
 appendK 1 21 4 [.int .i32 0] sB sN sC (some (ad b)) 1 H3 (λap o H4=>
 (q ap (sN+1) o (IntKind.wrap .i64 (s21+1)) H4/\m19 ap (sN+1) o (IntKind.wrap .i64 (s21+1)) H4<m19 sB sN sC s21 H2)))
 else
 ∀(p:Nat) (H5:Array Obj),p=H2.size->H5=H2.push (.cells #[.int .i32 (IntKind.wrap .i32 x)] 21)->
 appendK 1 21 4 [.int .i32 0] sB sN sC (some (ad p)) 1 H5 (λm j H6=>
 (q m (sN+1) j (IntKind.wrap .i64 (s21+1)) H6/\m19 m (sN+1) j (IntKind.wrap .i64 (s21+1)) H6<m19 sB sN sC s21 H2)))
 else
 ∃rs:List Int,(SrcAt H2 sB (rs.map (Value.int .i32))/\(sB≠none->rs.length=sN))/\
 R (.tuple #[.string (runesStr rs),.int .i64 0]) H2)
 else
 R (.tuple #[.string (ByteArray.mk #[]),.int .i64 3]) H1)
namespace obj_Heap_Text
theorem link{hv:Option Addr}{wv:Int}{H:Array Obj}{R:Value->Array Obj->Prop}(h:pt hv wv H R):C hv wv H R:=by
 refine T_en K0 35 Tryz.func42 ?_
 intro w0 Q hQ
 unfold pt at h
 refine T_su [(0,vp hv),(1,vu wv)]<| T_srz 0<| T_ed 2 [] []<| T_srz 1<| T_n 2 [(12,vp hv),(13,vu wv)] ?_
 refine T_c (some 14) h ?_;clear h
 rintro v H1 ⟨g,d,e,rb,rfl,h⟩
 refine⟨[(14,.tuple #[vs g d e,.bool rb])],pk,?_⟩
 refine T_ne 5 [(6,vs g d e),(7,.bool rb)]<| T_sz<| T_srz 2<| T_ed 2 [7] [(18,.bool (!rb))] ?_
 by_cases c1:rb=true
 ·rw[if_pos c1]at h
  refine T_cFz 18 (congrArg Bool.not (c1))<| T_kt<| T_srz 4<| T_ed 1 [18] [(8,vs none 0 0)]<| T_sz<| T_srz 5<| T_ed 3 [6] [(19,vs g d e),(20,vi d),(21,vi 0)]<| T_bz 0 ?_
  obtain⟨q,m19,i3,i4⟩:=h
  refine S_loop (x:=K18) (σ:=(Option Addr)×Nat×Nat×Int) (λs_=> [(8,vs s_.1 s_.2.1 s_.2.2.1),(19,vs g d e),(20,vi d),(21,vi s_.2.2.2)]) (λs_ H=>q s_.1 s_.2.1 s_.2.2.1 s_.2.2.2 H) (λs_ H=>m19 s_.1 s_.2.1 s_.2.2.1 s_.2.2.2 H) ((none,0,0,0):(Option Addr)×Nat×Nat×Int) (by kernel_rfl) i3 sk ?_
  rintro⟨sB,sN,sC,s21⟩ H2 i5
  have h:=i4 sB sN sC s21 H2 i5
  refine T_su [(8,vs sB sN sC),(19,vs g d e),(20,vi d),(21,vi s21)]<| T_srz 6<| T_ed 1 [] [(22,.bool (decide (s21< (d:Int))))]<| T_sz ?_
  by_cases c6:s21< (d:Int)
  ·rw[if_pos c6]at h
   refine T_cTz 22 (decide_eq_true c6)<| T_kt<| T_sz<| T_bz 1<| T_srz 7<| T_ud [22] [] ?_
   obtain⟨f,rfl,h⟩:=h
   obtain⟨q8,h⟩:=h
   refine T_xd (some 23) 28 54 1 f d e .i64 s21 Tryz.underlying28 q8.1 q8.2 [19] [(19,vs (some f) d e),(23,vp (some (f.add (Int.toNat s21*1))))] ?_
   obtain⟨x,q9,h⟩:=h
   refine T_l1 24 54 q9 [23]<| T_ed 1 [24] [(10,vu x)]<| T_sz<| T_srz 8<| T_ed 2 [] [(26,.bool (decide (x>1114111)))] ?_
   by_cases c10:x>1114111
   ·rw[if_pos c10]at h
    refine T_cTz 26 (decide_eq_true c10)<| T_rz 9<| T_ed 1 [10,26] [(10,vu 65533)]<| T_rz 10<| T_nd 3 [8,10] [(27,vs sB sN sC),(29,.int .i32 (IntKind.wrap .i32 65533))]<| T_nw (some 30) (λb=>vs (pa b) 1 1) (.cells #[.int .i32 (IntKind.wrap .i32 65533)] 21) ?_
    intro b H3 e12 e13
    replace h:=h b H3 e12 e13
    refine T_pd [29] [(30,vs (pa b) 1 1)] ?_
    refine N_op (some 31) (appendN #[112,112] 112 #[vs sB sN sC,vs (pa b) 1 1]) _ (λ_=>by kernel_rfl) (ss_append (T:=21) (sz:=1) (bytes:=4) (zero:=(.int .i32 0:Value)) Tryz.underlying112 Tryz.underlying112 rfl (show Tryz.prog.info? 21=some Tryz.t21 from by kernel_rfl) (by kernel_rfl) (by kernel_rfl) (by decide) (by kernel_rfl) (by first | exact h | (simpa only[Value.cells,List.toList_toArray]using h))) ?_;clear h
    rintro _ H4 ⟨ap,o,rfl,h⟩
    refine T_pd [27,30] [(31,vs ap (sN+1) o)]<| T_nd 1 [31] [(8,vs ap (sN+1) o)] ?_
    refine N_end (by kernel_rfl) ?_
    refine S_blockEnd ?_
    refine S_then ?_
    refine T_rz 11<| T_ed 2 [21] [(21,vi (IntKind.wrap .i64 (s21+1)))] ?_
    exact S_round ((ap,(sN+1),o,(IntKind.wrap .i64 (s21+1))):(Option Addr)×Nat×Nat×Int) sk h
   rw[if_neg c10]at h
   refine T_cFz 26 (decide_eq_false c10)<| T_kt<| T_rz 10<| T_nd 3 [8,10,26] [(27,vs sB sN sC),(29,.int .i32 (IntKind.wrap .i32 x))]<| T_nw (some 30) (λb=>vs (pa b) 1 1) (.cells #[.int .i32 (IntKind.wrap .i32 x)] 21) ?_
   intro p H5 e14 e15
   replace h:=h p H5 e14 e15
   refine T_pd [29] [(30,vs (pa p) 1 1)] ?_
   refine N_op (some 31) (appendN #[112,112] 112 #[vs sB sN sC,vs (pa p) 1 1]) _ (λ_=>by kernel_rfl) (ss_append (T:=21) (sz:=1) (bytes:=4) (zero:=(.int .i32 0:Value)) Tryz.underlying112 Tryz.underlying112 rfl (show Tryz.prog.info? 21=some Tryz.t21 from by kernel_rfl) (by kernel_rfl) (by kernel_rfl) (by decide) (by kernel_rfl) (by first | exact h | (simpa only[Value.cells,List.toList_toArray]using h))) ?_;clear h
   rintro _ H6 ⟨m,j,rfl,h⟩
   refine T_pd [27,30] [(31,vs m (sN+1) j)]<| T_nd 1 [31] [(8,vs m (sN+1) j)] ?_
   refine N_end (by kernel_rfl) ?_
   refine S_blockEnd ?_
   refine S_then ?_
   refine T_rz 11<| T_ed 2 [21] [(21,vi (IntKind.wrap .i64 (s21+1)))] ?_
   exact S_round ((m,(sN+1),j,(IntKind.wrap .i64 (s21+1))):(Option Addr)×Nat×Nat×Int) sk h
  rw[if_neg c6]at h
  refine T_cFz 22 (decide_eq_false c6) ?_
  refine S_exit 0 (by kernel_rfl) ?_
  refine S_exitThen ?_
  refine S_exitThen ?_
  refine S_exitHere ?_
  refine S_then ?_
  refine T_srz 12<| T_n 1 [(33,vs sB sN sC)] ?_
  obtain⟨rs,q16,h⟩:=h
  refine T_v1 34 (convertN 112 9 (vs sB sN sC)) (.string (runesStr rs)) (λw hw=>convert_runes Tryz.underlying112 Tryz.underlying9 Tryz.underlying21 (by rw[hw];exact q16.1) q16.2) [33] ?_
  exact T_nr 2 [4,5] [.string (runesStr rs),vi 0] hQ h
 rw[if_neg c1]at h
 exact T_cTz 18 (congrArg Bool.not (eq_false_of_ne_true c1))<| T_srz 3<| T_nr 2 [4,5] [.string (ByteArray.mk #[]),vi 3] hQ h
end obj_Heap_Text

/-! (*moraine/obj.Heap).words -/
namespace obj_Heap_words
def K0:=Func.code Tryz.f72
def K2:=cb K0
def K4:=cb K2
def K6:=cb K4
def K14:=cb K6
def K15:=ca K14
def K18:=cb K15
def K19:=ca K18
def K20:=ca K19
end obj_Heap_words
def obj_Heap_words.pt(hv:Option Addr)(wv e:Int)(H:Array Obj)(R:Value->Array Obj->Prop):Prop:=
 obj_Heap_object.C hv wv H (λv H1=> ∃(ra rb rc rd:Int) (re:Bool),v=.tuple #[.int .i64 ra,.int .i64 rb,.int .i64 rc,.int .u64 rd,.bool re]/\
 if((!re) || (rb !=e))=true then(
 R (.tuple #[.slice none 0 0,.bool false]) H1)
 else
 0<=rc/\rc<=rc/\8*rc<=2 ^ 48/\rc<=9223372036854775807/\
 ∀(b:Nat) (H2:Array Obj),b=H1.size->H2=H1.push (.cells (Builtin.zeroCells #[.int .u64 0] (Int.toNat rc)) 54)->
 ∃(o:Int->Array Obj->Prop) (m21:Int->Array Obj->Nat),o 0 H2/\ ∀(d:Int) (H3:Array Obj),o d H3->
 if d< ((Int.toNat rc):Int)then(
 ∃f:Addr,hv=some f/\
 ∃x:Option Addr,hat H3 f=some (.pointer x)/\
 ∃xA:Addr,x=some xA/\
 ∃p:Option Addr,hat H3 xA=some (.pointer p)/\
 ∃m:Addr,p=some m/\
 ∃j:Option Addr,hat H3 m=some (.pointer j)/\
 seg_Mem_Read.C j (IntKind.wrap .i64 ((IntKind.wrap .i64 (ra+1))+d)) H3 (λr H4=> ∃g q:Int,r=.tuple #[.int .u64 g,.int .i64 q]/\
 ((0:Int)<=d/\d< ((Int.toNat rc):Int))/\
 (CanPuts H4 ((ad b).add (Int.toNat d*1)) 0 1)/\ ∀H5,H5=hputs H4 ((ad b).add (Int.toNat d*1)) [.int .u64 g] 0->
 (o (IntKind.wrap .i64 (d+1)) H5/\m21 (IntKind.wrap .i64 (d+1)) H5<m21 d H3)))
 else
 R (.tuple #[.slice (some (ad b)) (Int.toNat rc) (Int.toNat rc),.bool true]) H3)
namespace obj_Heap_words
theorem link{hv:Option Addr}{wv e:Int}{H:Array Obj}{R:Value->Array Obj->Prop}(h:pt hv wv e H R):C hv wv e H R:=by
 refine T_en K0 61 Tryz.func72 ?_
 intro w0 Q hQ
 unfold pt at h
 refine T_su [(0,vp hv),(1,vu wv),(2,vi e)]<| T_srz 0<| T_ed 2 [] []<| T_srz 1<| T_nd 2 [1] [(16,vp hv),(17,vu wv)] ?_
 refine T_c (some 18) h ?_;clear h
 rintro v H1 ⟨ra,rb,rc,rd,re,rfl,h⟩
 refine T_pd [16,17] [(18,.tuple #[vi ra,vi rb,vi rc,vu rd,.bool re])]<| T_ed 11 [18] [(8,vi ra),(9,vi rb),(10,vi rc),(12,.bool re)]<| T_sz<| T_srz 2 ?_
 refine N_cut [(0,vp hv),(8,vi ra),(10,vi rc),(30,.bool ((!re) || (rb !=e)))] ?_ ?_
 ·refine S_then ?_
  by_cases c3:((!re) || (rb !=e))=true
  ·rw[if_pos c3]at h
   exact T_cTz 30 c3<| T_srz 3<| T_nr 2 [6,7] [vs none 0 0,.bool false] hQ h
  rw[if_neg c3]at h
  refine T_cFz 30 (eq_false_of_ne_true c3)<| T_kt<| T_srz 4<| T_n 1 [(0,vp hv),(8,vi ra),(31,vi rc)] ?_
  obtain⟨q5,q6,q7,q8,h⟩:=h
  refine N_op (some 32) (makeSliceN 28 (vi rc) (vi rc)) (λv Hz=>v=Value.slice (some (Addr.mk H1.size 0 none)) (Int.toNat rc) (Int.toNat rc)/\Hz=H1.push (.cells (Builtin.zeroCells #[vu 0] (Int.toNat rc)) 54)) (λ_=>by kernel_rfl) (ss_make (T:=54) (zero:=vu 0) Tryz.underlying28 (show Tryz.prog.info? 54=some Tryz.t54 from by kernel_rfl) (by kernel_rfl) q5 q6 q7 q8 (by kernel_rfl) (by decide)) ?_
  rintro _ H2 ⟨rfl,e10⟩
  obtain⟨b,e9⟩: ∃b,b=H1.size:=⟨_,rfl⟩
  replace h:=h b H2 e9 e10
  rw[<-e9]
  refine T_pd [31] [(32,vs (pa b) (Int.toNat rc) (Int.toNat rc))]<| T_ed 1 [32] [(13,vs (pa b) (Int.toNat rc) (Int.toNat rc))]<| T_sz<| T_srz 5<| T_ed 3 [] [(34,vi ((Int.toNat rc):Int)),(35,vi 0)]<| T_bz 0 ?_
  obtain⟨o,m21,i11,i12⟩:=h
  refine S_loop (x:=K20) (σ:=Int) (λs_=> [(0,vp hv),(8,vi ra),(13,vs (pa b) (Int.toNat rc) (Int.toNat rc)),(34,vi ((Int.toNat rc):Int)),(35,vi s_)]) (λs_ H=>o s_ H) (λs_ H=>m21 s_ H) (0:Int) (by kernel_rfl) i11 sk ?_
  rintro d H3 i13
  have h:=i12 d H3 i13
  refine T_su [(0,vp hv),(8,vi ra),(13,vs (pa b) (Int.toNat rc) (Int.toNat rc)),(34,vi ((Int.toNat rc):Int)),(35,vi d)]<| T_srz 6<| T_ed 1 [] [(36,.bool (decide (d< ((Int.toNat rc):Int))))]<| T_sz ?_
  by_cases c14:d< ((Int.toNat rc):Int)
  ·rw[if_pos c14]at h
   refine T_cTz 36 (decide_eq_true c14)<| T_kt<| T_sz<| T_bz 1<| T_srz 7<| T_ed 2 [36] [(14,vi d)]<| T_rz 8<| T_nd 3 [] [(39,vs (pa b) (Int.toNat rc) (Int.toNat rc)),(40,vi d),(41,vp hv)] ?_
   obtain⟨f,rfl,h⟩:=h
   refine T_nd 2 [0,41] [(0,vp (some f)),(43,vp (some f))] ?_
   obtain⟨x,q16,h⟩:=h
   refine T_l1 44 33 q16 [43] ?_
   obtain⟨xA,rfl,h⟩:=h
   refine T_nd 2 [44] [(46,vp (some xA))] ?_
   obtain⟨p,q17,h⟩:=h
   refine T_l1 47 38 q17 [46] ?_
   obtain⟨m,rfl,h⟩:=h
   refine T_nd 2 [47] [(49,vp (some m))] ?_
   obtain⟨j,q18,h⟩:=h
   refine T_l1 50 41 q18 [49]<| T_nd 4 [14] [(54,vi (IntKind.wrap .i64 ((IntKind.wrap .i64 (ra+1))+d)))] ?_
   refine T_c (some 55) h ?_;clear h
   rintro r H4 ⟨g,q,rfl,h⟩
   refine T_pd [50,54] [(55,.tuple #[vu g,vi q])]<| T_nd 3 [55] [(56,vu g)] ?_
   obtain⟨q19,h⟩:=h
   refine T_v1 58 (indexAtN 28 (vs (pa b) (Int.toNat rc) (Int.toNat rc)) (vi d)) (vp (some ((ad b).add (Int.toNat d*1)))) (λw _=>indexAt_run (P:=Tryz.prog) (t:=28) (elem:=54) (sz:=1) (a:=(ad b)) (len:=(Int.toNat rc)) (cap:=(Int.toNat rc)) (k:=.i64) (i:=d) Tryz.underlying28 (λ_=>by kernel_rfl) q19.1 q19.2 w) [39,40] ?_
   obtain⟨q21,h⟩:=h
   refine T_st1 54 (vu g) q21 ?_
   intro H5 e20
   replace h:=h H5 e20
   refine T_pd [56,58] [] ?_
   refine N_end (by kernel_rfl) ?_
   refine S_blockEnd ?_
   refine S_then ?_
   refine T_rz 9<| T_ed 2 [35] [(35,vi (IntKind.wrap .i64 (d+1)))] ?_
   exact S_round ((IntKind.wrap .i64 (d+1)):Int) sk h
  rw[if_neg c14]at h
  refine T_cFz 36 (decide_eq_false c14) ?_
  refine S_exit 0 (by kernel_rfl) ?_
  refine S_exitThen ?_
  refine S_exitThen ?_
  refine S_exitHere ?_
  refine S_then ?_
  exact T_srz 10<| T_nr 3 [6,7] [vs (pa b) (Int.toNat rc) (Int.toNat rc),.bool true] hQ h
 intro hk
 refine T_n 3 [(0,vp hv),(2,vi e),(8,vi ra),(9,vi rb),(10,vi rc),(26,.bool (!re))] ?_
 by_cases c1:re=true
 ·have b2:(!re)=false:=congrArg Bool.not (c1)
  have b22:re=true:=c1
  refine N_env [(0,vp hv),(2,vi e),(8,vi ra),(9,vi rb),(10,vi rc),(26,.bool false)] (by simp only[b2,b22,Bool.not_true,Bool.not_false]) ?_
  refine T_nd 4 [2,9,26] [(30,.bool (rb !=e))] ?_
  refine N_end (by kernel_rfl) ?_
  refine S_bd 30 (b:=(rb !=e)) (v:=((!re) || (rb !=e))) (by simp only[b2,BL]) ?_
  exact hk
 have b2:(!re)=true:=congrArg Bool.not (eq_false_of_ne_true c1)
 have b22:re=false:=eq_false_of_ne_true c1
 refine N_env [(0,vp hv),(2,vi e),(8,vi ra),(9,vi rb),(10,vi rc),(26,.bool true)] (by simp only[b2,b22,Bool.not_true,Bool.not_false]) ?_
 refine T_nd 4 [2,9,26] [(30,.bool true)] ?_
 refine N_end (by kernel_rfl) ?_
 refine S_bd 30 (b:=true) (v:=((!re) || (rb !=e))) (by simp only[b2,BL]) ?_
 exact hk
end obj_Heap_words

end Go.Proofs.YtibpklpgmgakcaaGreatDoor
