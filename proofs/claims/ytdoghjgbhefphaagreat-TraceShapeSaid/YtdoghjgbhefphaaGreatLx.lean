/- Printed: what each function asks, and that it is sound. -/
import Derived.Test.YtdoghjgbhefphaaGreatFnsC
set_option linter.unusedSimpArgs false
set_option linter.unusedVariables false
set_option maxRecDepth 100000
set_option maxHeartbeats 1000000
noncomputable section
namespace Go.Proofs.YtdoghjgbhefphaaGreat
open Go
/-! (*moraine/space.Space).none -/
namespace space_Space_none
def K0:=Func.code Tryz.f109
end space_Space_none
def space_Space_none.pt(s:Option Addr)(H:Array Obj)(R:Value->Array Obj->Prop):Prop:=
 onPtr s (
 R (.bool true) H) (λsA=>
 ∃x:Option Addr,hat H sA=some (.pointer x)/\
 onPtr x (
 R (.bool true) H) (λxA=>
 R (.bool false) H))
namespace space_Space_none
theorem link{s:Option Addr}{H:Array Obj}{R:Value->Array Obj->Prop}(h:pt s H R):C s H R:=by
 refine T_en K0 12 Tryz.func109 ?_
 intro w0 Q hQ
 unfold pt at h
 refine T_su [(0,vp s)]<| T_srz 0<| T_ed 1 [] []<| T_srz 1<| T_nd 1 [] [(3,vp s)] ?_
 rcases s with _ | sA
 ·rw[onPtr_none]at h
  exact T_nr 9 [2] [.bool true] hQ h
 rw[onPtr_some]at h
 refine T_n 5 [(5,.bool false),(8,vp (some sA))] ?_
 obtain⟨x,q1,h⟩:=h
 refine T_l1 9 61 q1 [8] ?_
 rcases x with _ | xA
 ·rw[onPtr_none]at h
  exact T_nr 3 [2] [.bool true] hQ h
 rw[onPtr_some]at h
 exact T_nr 3 [2] [.bool false] hQ h
end space_Space_none

/-! (*moraine/space.Space).Alloc -/
namespace space_Space_Alloc
def K0:=Func.code Tryz.f111
end space_Space_Alloc
def space_Space_Alloc.pt(s:Option Addr)(d b nv:Int)(H:Array Obj)(R:Value->Array Obj->Prop):Prop:=
 space_Space_none.C s H (λv H1=> ∃x:Bool,v=.bool x/\
 if x=true then(
 R (.tuple #[.int .i64 0,.int .i64 1]) H1)
 else
 space_may.C d b nv H1 (λaf H2=> ∃p:Bool,af=.bool p/\
 if p=true then(
 space_Space_Current.C s d b H2 (λac H3=> ∃(ra:Int) (rb:Bool),ac=.tuple #[.int .i64 ra,.bool rb]/\
 ∃J:Array Obj->Prop,(
 if rb=true then(
 ∃l:Addr,s=some l/\
 ∃u:Option Addr,hat H3 l=some (.pointer u)/\
 seg_Mem_Bump.C u ra nv H3 (λaa H8=> ∃m o:Int,aa=.tuple #[.int .i64 m,.int .i64 o]/\
 if o=0 then(
 R (.tuple #[.int .i64 m,.int .i64 0]) H8)
 else
 J H8))
 else
 J H3)/\ ∀(H4:Array Obj),J H4->
 ∃sA:Addr,s=some sA/\
 ∃z:Option Addr,hat H4 sA=some (.pointer z)/\
 seg_Mem_Take.C z d b H4 (λae H5=> ∃f j:Int,ae=.tuple #[.int .i64 f,.int .i64 j]/\
 if j=0 then(
 ((0:Int)<=d/\d< (5:Int))/\
 ((0:Int)<=b/\b< (4:Int))/\
 (CanPuts H5 (((sA.add 1).add (Int.toNat d*4)).add (Int.toNat b*1)) 0 1)/\ ∀H6,H6=hputs H5 (((sA.add 1).add (Int.toNat d*4)).add (Int.toNat b*1)) [.int .i64 (IntKind.wrap .i64 (f+1))] 0->
 ∃y:Option Addr,hat H6 sA=some (.pointer y)/\
 seg_Mem_Bump.C y f nv H6 (λab H7=> ∃r q:Int,ab=.tuple #[.int .i64 r,.int .i64 q]/\
 R (.tuple #[.int .i64 r,.int .i64 q]) H7))
 else
 R (.tuple #[.int .i64 0,.int .i64 j]) H5)))
 else
 R (.tuple #[.int .i64 0,.int .i64 1]) H2))
namespace space_Space_Alloc
theorem link{s:Option Addr}{d b nv:Int}{H:Array Obj}{R:Value->Array Obj->Prop}(h:pt s d b nv H R):C s d b nv H R:=by
 refine T_en K0 77 Tryz.func111 ?_
 intro w0 Q hQ
 unfold pt at h
 refine T_su [(0,vp s),(1,vi d),(2,vi b),(3,vi nv)]<| T_srz 0<| T_ed 2 [] []<| T_sz<| T_srz 1<| T_nd 1 [] [(16,vp s)] ?_
 refine T_c (some 17) h ?_;clear h
 rintro v H1 ⟨x,rfl,h⟩
 refine T_pd [16] [(17,.bool x)]<| T_nd 1 [17] [(18,.bool x)] ?_
 by_cases c1:x=true
 ·rw[if_pos c1]at h
  exact N_bd 18 c1<| T_ed 6 [18] [(24,.bool true)]<| T_tz 24<| T_srz 2<| T_nr 2 [8,9] [vi 0,vi 1] hQ h
 rw[if_neg c1]at h
 refine N_bd 18 (eq_false_of_ne_true c1)<| T_nd 3 [] [(19,vi d),(20,vi b),(21,vi nv)] ?_
 refine T_c (some 22) h ?_;clear h
 rintro af H2 ⟨p,rfl,h⟩
 refine T_pd [19,20,21] [(22,.bool p)]<| T_ed 2 [18,22] [(24,.bool (!p))] ?_
 by_cases c3:p=true
 ·rw[if_pos c3]at h
  refine T_cFz 24 (congrArg Bool.not (c3))<| T_kt<| T_sz<| T_srz 3<| T_nd 3 [24] [(26,vp s),(27,vi d),(28,vi b)] ?_
  refine T_c (some 29) h ?_;clear h
  rintro ac H3 ⟨ra,rb,rfl,h⟩
  refine T_pd [26,27,28] [(29,.tuple #[vi ra,.bool rb])]<| T_ed 5 [29] [(10,vi ra),(11,.bool rb)]<| T_srz 4<| T_ne 1 [(0,vp s),(1,vi d),(2,vi b),(3,vi nv),(10,vi ra),(32,.bool rb)] ?_
  obtain⟨J,h,j6⟩:=h
  refine S_join (σ:=Unit) (λs_=> [(0,vp s),(1,vi d),(2,vi b),(3,vi nv)]) (λs_ H=>J H) ?_ ?_
  ·rintro _ H4 j7
   replace h:=j6 H4 j7
   refine T_su [(0,vp s),(1,vi d),(2,vi b),(3,vi nv)] ?_
   refine S_then ?_
   refine T_srz 8<| T_nd 1 [] [(47,vp s)] ?_
   obtain⟨sA,rfl,h⟩:=h
   refine T_nd 2 [0,47] [(0,vp (some sA)),(49,vp (some sA))] ?_
   obtain⟨z,q8,h⟩:=h
   refine T_l1 50 61 q8 [49]<| T_nd 2 [] [(51,vi d),(52,vi b)] ?_
   refine T_c (some 53) h ?_;clear h
   rintro ae H5 ⟨f,j,rfl,h⟩
   refine T_pd [50,51,52] [(53,.tuple #[vi f,vi j])]<| T_ed 5 [53] [(14,vi f),(15,vi j)]<| T_sz<| T_srz 9<| T_ed 2 [] [(57,.bool (j !=0))] ?_
   by_cases c9:j=0
   ·rw[if_pos c9]at h
    refine T_cFz 57 (bne_eq_false_iff_eq.mpr c9)<| T_kt<| T_srz 11<| T_nd 7 [1,2,15,57] [(60,vi d),(61,vi b),(63,vi (IntKind.wrap .i64 (f+1))),(65,vp (some (sA.add 1)))] ?_
    obtain⟨q11,h⟩:=h
    refine T_v1 66 (indexAtN 63 (vp (some (sA.add 1))) (vi d)) (vp (some ((sA.add 1).add (Int.toNat d*4)))) (λw _=>indexArr_run (P:=Tryz.prog) (t:=63) (elem:=62) (sz:=4) (n:=5) (a:=(sA.add 1)) (k:=.i64) (i:=d) Tryz.underlying63 (λ_=>by kernel_rfl) q11.1 q11.2 w) [60,65] ?_
    obtain⟨q12,h⟩:=h
    refine T_v1 67 (indexAtN 62 (vp (some ((sA.add 1).add (Int.toNat d*4)))) (vi b)) (vp (some (((sA.add 1).add (Int.toNat d*4)).add (Int.toNat b*1)))) (λw _=>indexArr_run (P:=Tryz.prog) (t:=62) (elem:=3) (sz:=1) (n:=4) (a:=((sA.add 1).add (Int.toNat d*4))) (k:=.i64) (i:=b) Tryz.underlying62 (λ_=>by kernel_rfl) q12.1 q12.2 w) [61,66] ?_
    obtain⟨q14,h⟩:=h
    refine T_st1 3 (vi (IntKind.wrap .i64 (f+1))) q14 ?_
    intro H6 e13
    replace h:=h H6 e13
    refine T_pd [63,67] []<| T_e<| T_srz 12<| T_nd 3 [0] [(70,vp (some sA))] ?_
    obtain⟨y,q15,h⟩:=h
    refine T_l1 71 61 q15 [70]<| T_nd 2 [3,14] [(72,vi f),(73,vi nv)] ?_
    refine T_c (some 74) h ?_;clear h
    rintro ab H7 ⟨r,q,rfl,h⟩
    refine⟨[(74,.tuple #[vi r,vi q])],pk,?_⟩
    exact T_nr 4 [8,9] [vi r,vi q] hQ h
   rw[if_neg c9]at h
   exact T_cTz 57 (bne_iff_ne.mpr c9)<| T_srz 10<| T_nr 3 [8,9] [vi 0,vi j] hQ h
  by_cases c16:rb=true
  ·rw[if_pos c16]at h
   have b17:rb=true:=c16
   refine S_env [(0,vp s),(1,vi d),(2,vi b),(3,vi nv),(10,vi ra),(32,.bool true)] (by simp only[b17,Bool.not_true,Bool.not_false]) ?_
   clear b17
   refine T_tz 32<| T_srz 5<| T_nd 1 [32] [(34,vp s)] ?_
   obtain⟨l,rfl,h⟩:=h
   refine T_nd 2 [0,34] [(0,vp (some l)),(36,vp (some l))] ?_
   obtain⟨u,q18,h⟩:=h
   refine T_l1 37 61 q18 [36]<| T_nd 2 [10] [(38,vi ra),(39,vi nv)] ?_
   refine T_c (some 40) h ?_;clear h
   rintro aa H8 ⟨m,o,rfl,h⟩
   refine T_pd [37,38,39] [(40,.tuple #[vi m,vi o])]<| T_ed 5 [40] [(12,vi m),(13,vi o)]<| T_srz 6<| T_ed 2 [13] [(44,.bool (o==0))] ?_
   by_cases c19:o=0
   ·rw[if_pos c19]at h
    exact T_cTz 44 (beq_iff_eq.mpr c19)<| T_srz 7<| T_nr 3 [8,9] [vi m,vi 0] hQ h
   rw[if_neg c19]at h
   refine T_cFz 44 (beq_eq_false_iff_ne.mpr c19)<| T_kt ?_
   exact S_meet (():Unit) sk h
  rw[if_neg c16]at h
  have b17:rb=false:=eq_false_of_ne_true c16
  refine S_env [(0,vp s),(1,vi d),(2,vi b),(3,vi nv),(10,vi ra),(32,.bool false)] (by simp only[b17,Bool.not_true,Bool.not_false]) ?_
  clear b17
  refine T_fz 32<| T_kt ?_
  exact S_meet (():Unit) sk h
 rw[if_neg c3]at h
 exact T_cTz 24 (congrArg Bool.not (eq_false_of_ne_true c3))<| T_srz 2<| T_nr 2 [8,9] [vi 0,vi 1] hQ h
end space_Space_Alloc

/-! moraine/space.New -/
namespace space_New
def K0:=Func.code Tryz.f132
end space_New
def space_New.pt(a:Int)(H:Array Obj)(R:Value->Array Obj->Prop):Prop:=
 seg_New.C a H (λv H1=> ∃(ra:Option Addr) (rb:Int),v=.tuple #[.pointer ra,.int .i64 rb]/\
 if rb=0 then(
 ∀(b:Nat) (H2:Array Obj),b=H1.size->H2=H1.push (.cells #[.pointer ra,.int .i64 0,.int .i64 0,.int .i64 0,.int .i64 0,.int .i64 0,.int .i64 0,.int .i64 0,.int .i64 0,.int .i64 0,.int .i64 0,.int .i64 0,.int .i64 0,.int .i64 0,.int .i64 0,.int .i64 0,.int .i64 0,.int .i64 0,.int .i64 0,.int .i64 0,.int .i64 0] 65)->
 R (.tuple #[.pointer (some (ad b)),.int .i64 0]) H2)
 else
 R (.tuple #[.pointer none,.int .i64 rb]) H1)
namespace space_New
theorem link{a:Int}{H:Array Obj}{R:Value->Array Obj->Prop}(h:pt a H R):C a H R:=by
 refine T_en K0 17 Tryz.func132 ?_
 intro w0 Q hQ
 unfold pt at h
 refine T_su [(0,vi a)]<| T_srz 0<| T_ed 2 [] []<| T_srz 1<| T_n 1 [(7,vi a)] ?_
 refine T_c (some 8) h ?_;clear h
 rintro v H1 ⟨ra,rb,rfl,h⟩
 refine⟨[(8,.tuple #[vp ra,vi rb])],pk,?_⟩
 refine T_ne 5 [(4,vp ra),(5,vi rb)]<| T_sz<| T_srz 2<| T_ed 2 [] [(12,.bool (rb !=0))] ?_
 by_cases c1:rb=0
 ·rw[if_pos c1]at h
  refine T_cFz 12 (bne_eq_false_iff_eq.mpr c1)<| T_kt<| T_srz 4<| T_n 2 [(15,.agg #[vp ra,vi 0,vi 0,vi 0,vi 0,vi 0,vi 0,vi 0,vi 0,vi 0,vi 0,vi 0,vi 0,vi 0,vi 0,vi 0,vi 0,vi 0,vi 0,vi 0,vi 0])]<| T_nw (some 16) (λb=>vp (pa b)) (.cells #[vp ra,vi 0,vi 0,vi 0,vi 0,vi 0,vi 0,vi 0,vi 0,vi 0,vi 0,vi 0,vi 0,vi 0,vi 0,vi 0,vi 0,vi 0,vi 0,vi 0,vi 0] 65) ?_
  intro b H2 e3 e4
  replace h:=h b H2 e3 e4
  refine⟨[(16,vp (pa b))],pk,?_⟩
  exact T_nr 2 [2,3] [vp (pa b),vi 0] hQ h
 rw[if_neg c1]at h
 exact T_cTz 12 (bne_iff_ne.mpr c1)<| T_srz 3<| T_nr 3 [2,3] [vp none,vi rb] hQ h
end space_New

/-! moraine/space.may -/
namespace space_may
def K0:=Func.code Tryz.f170
end space_may
def space_may.pt(b a nv:Int)(H:Array Obj)(R:Value->Array Obj->Prop):Prop:=
 if((decide (b<0)) || (decide (b>4)))=true then(
 R (.bool false) H)
 else
 if((a==0) || (a==1))=true then(
 R (.bool (nv==2)) H)
 else
 R (.bool ((((a==2) || (a==3)) && (decide (nv>=1))) && (decide (nv<=63)))) H
namespace space_may
theorem link{b a nv:Int}{H:Array Obj}{R:Value->Array Obj->Prop}(h:pt b a nv H R):C b a nv H R:=by
 refine T_en K0 37 Tryz.func170 ?_
 intro w0 Q hQ
 unfold pt at h
 refine T_su [(0,vi b),(1,vi a),(2,vi nv)]<| T_srz 0<| T_ed 1 [] []<| T_sz<| T_bz 0<| T_srz 1 ?_
 refine N_cut [(1,vi a),(2,vi nv),(7,.bool ((decide (b<0)) || (decide (b>4))))] ?_ ?_
 ·refine S_then ?_
  by_cases c3:((decide (b<0)) || (decide (b>4)))=true
  ·rw[if_pos c3]at h
   exact T_cTz 7 c3<| T_srz 2<| T_nr 1 [6] [.bool false] hQ h
  rw[if_neg c3]at h
  refine T_cFz 7 (eq_false_of_ne_true c3)<| T_srz 3 ?_
  refine N_cut [(1,vi a),(2,vi nv),(14,.bool ((a==0) || (a==1)))] ?_ ?_
  ·refine S_then ?_
   by_cases c7:((a==0) || (a==1))=true
   ·rw[if_pos c7]at h
    exact T_cTz 14 c7<| T_srz 4<| T_nr 3 [6] [.bool (nv==2)] hQ h
   rw[if_neg c7]at h
   refine T_cFz 14 (eq_false_of_ne_true c7)<| T_k ?_
   refine S_blockEnd ?_
   refine S_then ?_
   refine T_srz 5 ?_
   refine N_cut [(6,.bool ((((a==2) || (a==3)) && (decide (nv>=1))) && (decide (nv<=63))))] ?_ ?_
   ·refine S_then ?_
    exact T_ret [6] [.bool ((((a==2) || (a==3)) && (decide (nv>=1))) && (decide (nv<=63)))] hQ h
   intro hk
   refine T_n 3 [(1,vi a),(2,vi nv),(25,.bool (a==2))] ?_
   by_cases c9:a=2
   ·have b10:(a==2)=true:=beq_iff_eq.mpr c9
    refine N_env [(1,vi a),(2,vi nv),(25,.bool true)] (by rw[b10]) ?_
    refine T_nd 8 [1,25] [(33,.bool (decide (nv>=1)))] ?_
    by_cases c11:nv>=1
    ·have b12:(decide (nv>=1))=true:=decide_eq_true c11
     refine N_bd 33 b12<| T_n 4 [(6,.bool (decide (nv<=63)))] ?_
     refine N_end (by kernel_rfl) ?_
     refine S_env [(6,.bool ((((a==2) || (a==3)) && (decide (nv>=1))) && (decide (nv<=63))))] (by simp only[b10,b12,BL]) ?_
     exact hk
    have b12:(decide (nv>=1))=false:=decide_eq_false c11
    refine N_bd 33 b12<| T_n 4 [(6,.bool false)] ?_
    refine N_end (by kernel_rfl) ?_
    refine S_env [(6,.bool ((((a==2) || (a==3)) && (decide (nv>=1))) && (decide (nv<=63))))] (by simp only[b10,b12,BL]) ?_
    exact hk
   have b10:(a==2)=false:=beq_eq_false_iff_ne.mpr c9
   refine N_env [(1,vi a),(2,vi nv),(25,.bool false)] (by rw[b10]) ?_
   refine T_nd 4 [1,25] [(29,.bool (a==3))] ?_
   by_cases c13:a=3
   ·have b14:(a==3)=true:=beq_iff_eq.mpr c13
    refine N_bd 29 b14<| T_nd 4 [29] [(33,.bool (decide (nv>=1)))] ?_
    by_cases c15:nv>=1
    ·have b16:(decide (nv>=1))=true:=decide_eq_true c15
     refine N_bd 33 b16<| T_n 4 [(6,.bool (decide (nv<=63)))] ?_
     refine N_end (by kernel_rfl) ?_
     refine S_env [(6,.bool ((((a==2) || (a==3)) && (decide (nv>=1))) && (decide (nv<=63))))] (by simp only[b10,b14,b16,BL]) ?_
     exact hk
    have b16:(decide (nv>=1))=false:=decide_eq_false c15
    refine N_bd 33 b16<| T_n 4 [(6,.bool false)] ?_
    refine N_end (by kernel_rfl) ?_
    refine S_env [(6,.bool ((((a==2) || (a==3)) && (decide (nv>=1))) && (decide (nv<=63))))] (by simp only[b10,b14,b16,BL]) ?_
    exact hk
   have b14:(a==3)=false:=beq_eq_false_iff_ne.mpr c13
   refine N_bd 29 b14<| T_n 8 [(6,.bool false)] ?_
   refine N_end (by kernel_rfl) ?_
   refine S_env [(6,.bool ((((a==2) || (a==3)) && (decide (nv>=1))) && (decide (nv<=63))))] (by simp only[b10,b14,BL]) ?_
   exact hk
  intro hk
  refine T_n 3 [(1,vi a),(2,vi nv),(17,.bool (a==0))] ?_
  by_cases c5:a=0
  ·have b6:(a==0)=true:=beq_iff_eq.mpr c5
   refine N_env [(1,vi a),(2,vi nv),(17,.bool true)] (by rw[b6]) ?_
   refine T_nd 4 [17] [(14,.bool true)] ?_
   refine N_end (by kernel_rfl) ?_
   refine S_bd 14 (b:=true) (v:=((a==0) || (a==1))) (by simp only[b6,BL]) ?_
   exact hk
  have b6:(a==0)=false:=beq_eq_false_iff_ne.mpr c5
  refine N_env [(1,vi a),(2,vi nv),(17,.bool false)] (by rw[b6]) ?_
  refine T_nd 4 [17] [(14,.bool (a==1))] ?_
  refine N_end (by kernel_rfl) ?_
  refine S_bd 14 (b:=(a==1)) (v:=((a==0) || (a==1))) (by simp only[b6,BL]) ?_
  exact hk
 intro hk
 refine T_n 3 [(0,vi b),(1,vi a),(2,vi nv),(10,.bool (decide (b<0)))] ?_
 by_cases c1:b<0
 ·have b2:(decide (b<0))=true:=decide_eq_true c1
  refine N_env [(0,vi b),(1,vi a),(2,vi nv),(10,.bool true)] (by rw[b2]) ?_
  refine T_nd 4 [0,10] [(7,.bool true)] ?_
  refine N_end (by kernel_rfl) ?_
  refine S_bd 7 (b:=true) (v:=((decide (b<0)) || (decide (b>4)))) (by simp only[b2,BL]) ?_
  exact hk
 have b2:(decide (b<0))=false:=decide_eq_false c1
 refine N_env [(0,vi b),(1,vi a),(2,vi nv),(10,.bool false)] (by rw[b2]) ?_
 refine T_nd 4 [0,10] [(7,.bool (decide (b>4)))] ?_
 refine N_end (by kernel_rfl) ?_
 refine S_bd 7 (b:=(decide (b>4))) (v:=((decide (b<0)) || (decide (b>4)))) (by simp only[b2,BL]) ?_
 exact hk
end space_may

/-! (*moraine/space.Space).Current -/
namespace space_Space_Current
def K0:=Func.code Tryz.f171
end space_Space_Current
def space_Space_Current.pt(s:Option Addr)(d b:Int)(H:Array Obj)(R:Value->Array Obj->Prop):Prop:=
 onPtr s (
 R (.tuple #[.int .i64 0,.bool false]) H) (λsA=>
 if d<0 then(
 R (.tuple #[.int .i64 0,.bool false]) H)
 else
 if d>4 then(
 R (.tuple #[.int .i64 0,.bool false]) H)
 else
 if b<0 then(
 R (.tuple #[.int .i64 0,.bool false]) H)
 else
 if b>3 then(
 R (.tuple #[.int .i64 0,.bool false]) H)
 else
 ((0:Int)<=d/\d< (5:Int))/\
 ((0:Int)<=b/\b< (4:Int))/\
 ∃x:Int,hat H (((sA.add 1).add (Int.toNat d*4)).add (Int.toNat b*1))=some (.int .i64 x)/\
 if x=0 then(
 R (.tuple #[.int .i64 0,.bool false]) H)
 else
 ((0:Int)<=d/\d< (5:Int))/\
 ((0:Int)<=b/\b< (4:Int))/\
 ∃f:Int,hat H (((sA.add 1).add (Int.toNat d*4)).add (Int.toNat b*1))=some (.int .i64 f)/\
 R (.tuple #[.int .i64 (IntKind.wrap .i64 (f-1)),.bool true]) H)
namespace space_Space_Current
theorem link{s:Option Addr}{d b:Int}{H:Array Obj}{R:Value->Array Obj->Prop}(h:pt s d b H R):C s d b H R:=by
 refine T_en K0 46 Tryz.func171 ?_
 intro w0 Q hQ
 unfold pt at h
 refine T_su [(0,vp s),(1,vi d),(2,vi b)]<| T_srz 0<| T_ed 2 [] []<| T_sz<| T_srz 1<| T_nd 1 [] [(8,vp s)] ?_
 rcases s with _ | sA
 ·rw[onPtr_none]at h
  exact T_ed 28 [0,8] [(0,vp none),(36,.bool true)]<| T_tz 36<| T_srz 2<| T_nr 2 [6,7] [vi 0,.bool false] hQ h
 rw[onPtr_some]at h
 refine T_nd 6 [0,8] [(0,vp (some sA)),(14,.bool (decide (d<0)))] ?_
 by_cases c1:d<0
 ·rw[if_pos c1]at h
  exact N_bd 14 (decide_eq_true c1)<| T_ed 22 [14] [(36,.bool true)]<| T_tz 36<| T_srz 2<| T_nr 2 [6,7] [vi 0,.bool false] hQ h
 rw[if_neg c1]at h
 refine N_bd 14 (decide_eq_false c1)<| T_nd 4 [14] [(18,.bool (decide (d>4)))] ?_
 by_cases c3:d>4
 ·rw[if_pos c3]at h
  exact N_bd 18 (decide_eq_true c3)<| T_ed 18 [18] [(36,.bool true)]<| T_tz 36<| T_srz 2<| T_nr 2 [6,7] [vi 0,.bool false] hQ h
 rw[if_neg c3]at h
 refine N_bd 18 (decide_eq_false c3)<| T_nd 4 [18] [(22,.bool (decide (b<0)))] ?_
 by_cases c5:b<0
 ·rw[if_pos c5]at h
  exact N_bd 22 (decide_eq_true c5)<| T_ed 14 [22] [(36,.bool true)]<| T_tz 36<| T_srz 2<| T_nr 2 [6,7] [vi 0,.bool false] hQ h
 rw[if_neg c5]at h
 refine N_bd 22 (decide_eq_false c5)<| T_nd 4 [22] [(26,.bool (decide (b>3)))] ?_
 by_cases c7:b>3
 ·rw[if_pos c7]at h
  exact N_bd 26 (decide_eq_true c7)<| T_ed 10 [26] [(36,.bool true)]<| T_tz 36<| T_srz 2<| T_nr 2 [6,7] [vi 0,.bool false] hQ h
 rw[if_neg c7]at h
 refine N_bd 26 (decide_eq_false c7)<| T_nd 5 [] [(28,vi d),(29,vi b),(31,vp (some (sA.add 1)))] ?_
 obtain⟨q9,h⟩:=h
 refine T_v1 32 (indexAtN 63 (vp (some (sA.add 1))) (vi d)) (vp (some ((sA.add 1).add (Int.toNat d*4)))) (λw _=>indexArr_run (P:=Tryz.prog) (t:=63) (elem:=62) (sz:=4) (n:=5) (a:=(sA.add 1)) (k:=.i64) (i:=d) Tryz.underlying63 (λ_=>by kernel_rfl) q9.1 q9.2 w) [28,31] ?_
 obtain⟨q10,h⟩:=h
 refine T_v1 33 (indexAtN 62 (vp (some ((sA.add 1).add (Int.toNat d*4)))) (vi b)) (vp (some (((sA.add 1).add (Int.toNat d*4)).add (Int.toNat b*1)))) (λw _=>indexArr_run (P:=Tryz.prog) (t:=62) (elem:=3) (sz:=1) (n:=4) (a:=((sA.add 1).add (Int.toNat d*4))) (k:=.i64) (i:=b) Tryz.underlying62 (λ_=>by kernel_rfl) q10.1 q10.2 w) [29,32] ?_
 obtain⟨x,q11,h⟩:=h
 refine T_l1 34 3 q11 [33]<| T_ed 2 [26,34] [(36,.bool (x==0))] ?_
 by_cases c12:x=0
 ·rw[if_pos c12]at h
  exact T_cTz 36 (beq_iff_eq.mpr c12)<| T_srz 2<| T_nr 2 [6,7] [vi 0,.bool false] hQ h
 rw[if_neg c12]at h
 refine T_cFz 36 (beq_eq_false_iff_ne.mpr c12)<| T_kt<| T_srz 3<| T_n 5 [(38,vi d),(39,vi b),(41,vp (some (sA.add 1)))] ?_
 obtain⟨q14,h⟩:=h
 refine T_v1 42 (indexAtN 63 (vp (some (sA.add 1))) (vi d)) (vp (some ((sA.add 1).add (Int.toNat d*4)))) (λw _=>indexArr_run (P:=Tryz.prog) (t:=63) (elem:=62) (sz:=4) (n:=5) (a:=(sA.add 1)) (k:=.i64) (i:=d) Tryz.underlying63 (λ_=>by kernel_rfl) q14.1 q14.2 w) [38,41] ?_
 obtain⟨q15,h⟩:=h
 refine T_v1 43 (indexAtN 62 (vp (some ((sA.add 1).add (Int.toNat d*4)))) (vi b)) (vp (some (((sA.add 1).add (Int.toNat d*4)).add (Int.toNat b*1)))) (λw _=>indexArr_run (P:=Tryz.prog) (t:=62) (elem:=3) (sz:=1) (n:=4) (a:=((sA.add 1).add (Int.toNat d*4))) (k:=.i64) (i:=b) Tryz.underlying62 (λ_=>by kernel_rfl) q15.1 q15.2 w) [39,42] ?_
 obtain⟨f,q16,h⟩:=h
 exact T_l1 44 3 q16 [43]<| T_nr 3 [6,7] [vi (IntKind.wrap .i64 (f-1)),.bool true] hQ h
end space_Space_Current

/-! (*moraine/card.Cards).Gen -/
namespace card_Cards_Gen
def K0:=Func.code Tryz.f28
end card_Cards_Gen
def card_Cards_Gen.pt(c:Option Addr)(wv:Int)(H:Array Obj)(R:Value->Array Obj->Prop):Prop:=
 word_Addr.C wv H (λv H1=> ∃(ra:Int) (rb:Bool),v=.tuple #[.int .i64 ra,.bool rb]/\
 card_Cards_none.C c H1 (λu H2=> ∃x:Bool,u=.bool x/\
 if x=true then(
 R (.tuple #[.int .i64 0,.bool false]) H2)
 else
 if rb=true then(
 word_Tag.C wv H2 (λs H3=> ∃n:Int,s=.int .i64 n/\
 if n=6 then(
 R (.tuple #[.int .i64 0,.bool false]) H3)
 else
 ∃cA:Addr,c=some cA/\
 ∃r:Option Addr,hat H3 cA=some (.pointer r)/\
 ∃q:Addr,r=some q/\
 ∃p:Option Addr,hat H3 q=some (.pointer p)/\
 seg_Mem_Seg.C p (IntKind.wrap .i64 (Int.tdiv ra 64)) H3 (λt H4=> ∃(l j m f d i a:Int) (k:Bool),t=.tuple #[.agg #[.int .i64 l,.int .i64 j,.int .i64 m,.int .i64 f,.int .i64 d,.int .i64 i,.int .i64 a],.bool k]/\
 ∀(b:Nat) (H5:Array Obj),b=H4.size->H5=H4.push (.cells #[.int .i64 0,.int .i64 0,.int .i64 0,.int .i64 0,.int .i64 0,.int .i64 0,.int .i64 0] 82)->
 (CanPuts H5 (ad b) 0 7)/\ ∀H6,H6=hputs H5 (ad b) [.int .i64 l,.int .i64 j,.int .i64 m,.int .i64 f,.int .i64 d,.int .i64 i,.int .i64 a] 0->
 ∃o:Int,hat H6 (ad b)=some (.int .i64 o)/\
 R (.tuple #[.int .i64 o,.bool k]) H6)))
 else
 R (.tuple #[.int .i64 0,.bool false]) H2))
namespace card_Cards_Gen
theorem link{c:Option Addr}{wv:Int}{H:Array Obj}{R:Value->Array Obj->Prop}(h:pt c wv H R):C c wv H R:=by
 refine T_en K0 41 Tryz.func28 ?_
 intro w0 Q hQ
 unfold pt at h
 refine T_su [(0,vp c),(1,vu wv)]<| T_srz 0<| T_ed 2 [] []<| T_srz 1<| T_nd 1 [] [(10,vu wv)] ?_
 refine T_c (some 11) h ?_;clear h
 rintro v H1 ⟨ra,rb,rfl,h⟩
 refine T_pd [10] [(11,.tuple #[vi ra,.bool rb])]<| T_ed 5 [11] [(6,vi ra),(7,.bool rb)]<| T_sz<| T_srz 2<| T_nd 1 [] [(14,vp c)] ?_
 refine T_c (some 15) h ?_;clear h
 rintro u H2 ⟨x,rfl,h⟩
 refine T_pd [14] [(15,.bool x)]<| T_nd 1 [15] [(16,.bool x)] ?_
 by_cases c1:x=true
 ·rw[if_pos c1]at h
  exact N_bd 16 c1<| T_ed 8 [1,7,16] [(24,.bool true)]<| T_tz 24<| T_srz 3<| T_nr 2 [4,5] [vi 0,.bool false] hQ h
 rw[if_neg c1]at h
 refine N_bd 16 (eq_false_of_ne_true c1)<| T_nd 4 [7,16] [(20,.bool (!rb))] ?_
 by_cases c3:rb=true
 ·rw[if_pos c3]at h
  have b4:(!rb)=false:=congrArg Bool.not (c3)
  have b42:rb=true:=c3
  refine N_bd 20 (b:=(!rb)) (v:=false) (by simp only[b4,b42,Bool.not_true,Bool.not_false]) ?_
  clear b4 b42
  refine T_nd 1 [1] [(21,vu wv)] ?_
  refine T_c (some 22) h ?_;clear h
  rintro s H3 ⟨n,rfl,h⟩
  refine T_pd [21] [(22,vi n)]<| T_ed 2 [20,22] [(24,.bool (n==6))] ?_
  by_cases c5:n=6
  ·rw[if_pos c5]at h
   exact T_cTz 24 (beq_iff_eq.mpr c5)<| T_srz 3<| T_nr 2 [4,5] [vi 0,.bool false] hQ h
  rw[if_neg c5]at h
  refine T_cFz 24 (beq_eq_false_iff_ne.mpr c5)<| T_kt<| T_srz 4<| T_nd 1 [0,24] [(26,vp c)] ?_
  obtain⟨cA,rfl,h⟩:=h
  refine T_nd 2 [26] [(28,vp (some cA))] ?_
  obtain⟨r,q7,h⟩:=h
  refine T_l1 29 58 q7 [28] ?_
  obtain⟨q,rfl,h⟩:=h
  refine T_nd 2 [29] [(31,vp (some q))] ?_
  obtain⟨p,q8,h⟩:=h
  refine T_l1 32 61 q8 [31]<| T_nd 2 [6] [(34,vi (IntKind.wrap .i64 (Int.tdiv ra 64)))] ?_
  refine T_c (some 35) h ?_;clear h
  rintro t H4 ⟨l,j,m,f,d,i,a,k,rfl,h⟩
  refine⟨[(35,.tuple #[.agg #[vi l,vi j,vi m,vi f,vi d,vi i,vi a],.bool k])],pk,?_⟩
  refine T_n 3 [(36,.agg #[vi l,vi j,vi m,vi f,vi d,vi i,vi a]),(37,.bool k)]<| T_nw (some 8) (λb=>vp (pa b)) (.cells #[vi 0,vi 0,vi 0,vi 0,vi 0,vi 0,vi 0] 82) ?_
  intro b H5 e9 e10
  replace h:=h b H5 e9 e10
  refine T_pd [] [(8,vp (pa b))] ?_
  obtain⟨q12,h⟩:=h
  refine T_sta 82 [vi l,vi j,vi m,vi f,vi d,vi i,vi a] q12 ?_
  intro H6 e11
  replace h:=h H6 e11
  refine T_pd [36] []<| T_ed 1 [37] [(7,.bool k)]<| T_srz 5<| T_nd 1 [8] [(38,vp (pa b))] ?_
  obtain⟨o,q13,h⟩:=h
  exact T_l1 39 3 q13 [38]<| T_nr 3 [4,5] [vi o,.bool k] hQ h
 rw[if_neg c3]at h
 have b4:(!rb)=true:=congrArg Bool.not (eq_false_of_ne_true c3)
 have b42:rb=false:=eq_false_of_ne_true c3
 refine N_bd 20 (b:=(!rb)) (v:=true) (by simp only[b4,b42,Bool.not_true,Bool.not_false]) ?_
 clear b4 b42
 exact T_ed 4 [1,20] [(24,.bool true)]<| T_tz 24<| T_srz 3<| T_nr 2 [4,5] [vi 0,.bool false] hQ h
end card_Cards_Gen

/-! moraine/card.New -/
namespace card_New
def K0:=Func.code Tryz.f59
end card_New
def card_New.pt(a:Int)(H:Array Obj)(R:Value->Array Obj->Prop):Prop:=
 space_New.C a H (λv H1=> ∃(ra:Option Addr) (rb:Int),v=.tuple #[.pointer ra,.int .i64 rb]/\
 if rb=0 then(
 ∀(b:Nat) (H2:Array Obj),b=H1.size->H2=H1.push (.cells #[.pointer ra] 60)->
 R (.tuple #[.pointer (some (ad b)),.int .i64 0]) H2)
 else
 R (.tuple #[.pointer none,.int .i64 rb]) H1)
namespace card_New
theorem link{a:Int}{H:Array Obj}{R:Value->Array Obj->Prop}(h:pt a H R):C a H R:=by
 refine T_en K0 17 Tryz.func59 ?_
 intro w0 Q hQ
 unfold pt at h
 refine T_su [(0,vi a)]<| T_srz 0<| T_ed 2 [] []<| T_srz 1<| T_n 1 [(7,vi a)] ?_
 refine T_c (some 8) h ?_;clear h
 rintro v H1 ⟨ra,rb,rfl,h⟩
 refine⟨[(8,.tuple #[vp ra,vi rb])],pk,?_⟩
 refine T_ne 5 [(4,vp ra),(5,vi rb)]<| T_sz<| T_srz 2<| T_ed 2 [] [(12,.bool (rb !=0))] ?_
 by_cases c1:rb=0
 ·rw[if_pos c1]at h
  refine T_cFz 12 (bne_eq_false_iff_eq.mpr c1)<| T_kt<| T_srz 4<| T_n 2 [(15,.agg #[vp ra])]<| T_nw (some 16) (λb=>vp (pa b)) (.cells #[vp ra] 60) ?_
  intro b H2 e3 e4
  replace h:=h b H2 e3 e4
  refine⟨[(16,vp (pa b))],pk,?_⟩
  exact T_nr 2 [2,3] [vp (pa b),vi 0] hQ h
 rw[if_neg c1]at h
 exact T_cTz 12 (bne_iff_ne.mpr c1)<| T_srz 3<| T_nr 3 [2,3] [vp none,vi rb] hQ h
end card_New

/-! (*moraine/card.Cards).none -/
namespace card_Cards_none
def K0:=Func.code Tryz.f103
end card_Cards_none
def card_Cards_none.pt(c:Option Addr)(H:Array Obj)(R:Value->Array Obj->Prop):Prop:=
 onPtr c (
 R (.bool true) H) (λcA=>
 ∃x:Option Addr,hat H cA=some (.pointer x)/\
 onPtr x (
 R (.bool true) H) (λxA=>
 ∃b:Option Addr,hat H cA=some (.pointer b)/\
 ∃d:Addr,b=some d/\
 ∃a:Option Addr,hat H d=some (.pointer a)/\
 onPtr a (
 R (.bool true) H) (λf=>
 R (.bool false) H)))
namespace card_Cards_none
theorem link{c:Option Addr}{H:Array Obj}{R:Value->Array Obj->Prop}(h:pt c H R):C c H R:=by
 refine T_en K0 22 Tryz.func103 ?_
 intro w0 Q hQ
 unfold pt at h
 refine T_su [(0,vp c)]<| T_srz 0<| T_ed 1 [] []<| T_srz 1<| T_nd 1 [] [(3,vp c)] ?_
 rcases c with _ | cA
 ·rw[onPtr_none]at h
  exact T_nr 19 [2] [.bool true] hQ h
 rw[onPtr_some]at h
 refine T_n 5 [(0,vp (some cA)),(5,.bool false),(8,vp (some cA))] ?_
 obtain⟨x,q1,h⟩:=h
 refine T_l1 9 58 q1 [8] ?_
 rcases x with _ | xA
 ·rw[onPtr_none]at h
  exact T_nr 13 [2] [.bool true] hQ h
 rw[onPtr_some]at h
 refine T_n 6 [(12,.bool false),(15,vp (some cA))] ?_
 obtain⟨b,q2,h⟩:=h
 refine T_l1 16 58 q2 [15] ?_
 obtain⟨d,rfl,h⟩:=h
 refine T_nd 2 [16] [(18,vp (some d))] ?_
 obtain⟨a,q3,h⟩:=h
 refine T_l1 19 61 q3 [18] ?_
 rcases a with _ | f
 ·rw[onPtr_none]at h
  exact T_nr 3 [2] [.bool true] hQ h
 rw[onPtr_some]at h
 exact T_nr 3 [2] [.bool false] hQ h
end card_Cards_none

/-! (*moraine/card.Cards).Store -/
namespace card_Cards_Store
def K0:=Func.code Tryz.f150
def K2:=cb K0
def K4:=cb K2
def K12:=cb K4
def K20:=cb K12
def K22:=cb K20
def K23:=ca K22
end card_Cards_Store
def card_Cards_Store.pt(c:Option Addr)(d wv:Int)(H:Array Obj)(R:Value->Array Obj->Prop):Prop:=
 card_Cards_none.C c H (λv H1=> ∃x:Bool,v=.bool x/\
 if x=true then(
 R (.int .i64 18) H1)
 else
 ∃cA:Addr,c=some cA/\
 ∃an:Option Addr,hat H1 cA=some (.pointer an)/\
 ∃al:Addr,an=some al/\
 ∃aj:Option Addr,hat H1 al=some (.pointer aj)/\
 seg_Mem_Write.C aj d wv H1 (λav H2=> ∃ac:Int,av=.int .i64 ac/\
 if ac=0 then(
 ∃am:Option Addr,hat H2 cA=some (.pointer am)/\
 ∃ak:Addr,am=some ak/\
 ∃ai:Option Addr,hat H2 ak=some (.pointer ai)/\
 seg_Mem_Seg.C ai (IntKind.wrap .i64 (Int.tdiv d 64)) H2 (λaq H3=> ∃(ab u af q p r o:Int) (rb:Bool),aq=.tuple #[.agg #[.int .i64 ab,.int .i64 u,.int .i64 af,.int .i64 q,.int .i64 p,.int .i64 r,.int .i64 o],.bool rb]/\
 ∀(b:Nat) (H4:Array Obj),b=H3.size->H4=H3.push (.cells #[.int .i64 0,.int .i64 0,.int .i64 0,.int .i64 0,.int .i64 0,.int .i64 0,.int .i64 0] 82)->
 (CanPuts H4 (ad b) 0 7)/\ ∀H5,H5=hputs H4 (ad b) [.int .i64 ab,.int .i64 u,.int .i64 af,.int .i64 q,.int .i64 p,.int .i64 r,.int .i64 o] 0->
 ∃ao:Option Addr,hat H5 cA=some (.pointer ao)/\
 ∃aa:Addr,ao=some aa/\
 ∃y:Option Addr,hat H5 aa=some (.pointer y)/\
 ∃z s xN m j f l:Int,RowAt H5 (ad b) 0 [.int .i64 z,.int .i64 s,.int .i64 xN,.int .i64 m,.int .i64 j,.int .i64 f,.int .i64 l]/\
 ((0:Int)<=(IntKind.wrap .i64 (Int.tdiv (Int.tmod d 64) 16))/\(IntKind.wrap .i64 (Int.tdiv (Int.tmod d 64) 16))< (4:Int))/\
 ∃ah:Int,hat H5 (((ad b).add 3).add (Int.toNat (IntKind.wrap .i64 (Int.tdiv (Int.tmod d 64) 16))*1))=some (.int .i64 ah)/\
 card_Cards_younger.C (some cA) z s xN m j f l wv ah H5 (λau H6=> ∃ag:Int,au=.int .i64 ag/\RowAt H6 cA 0 [.pointer (some aa)]/\RowAt H6 aa 0 [.pointer y]/\
 seg_Mem_Mark.C y (IntKind.wrap .i64 (Int.tdiv d 64)) (IntKind.wrap .i64 (Int.tdiv (Int.tmod d 64) 16)) ag H6 (λap H7=> ∃ae:Int,ap=.int .i64 ae/\
 R (.int .i64 ae) H7))))
 else
 R (.int .i64 ac) H2))
namespace card_Cards_Store
theorem link{c:Option Addr}{d wv:Int}{H:Array Obj}{R:Value->Array Obj->Prop}(h:pt c d wv H R):C c d wv H R:=by
 refine T_en K0 62 Tryz.func150 ?_
 intro w0 Q hQ
 unfold pt at h
 refine T_su [(0,vp c),(1,vi d),(2,vu wv)]<| T_srz 0<| T_ed 1 [] []<| T_sz<| T_srz 1<| T_nd 1 [] [(12,vp c)] ?_
 refine T_c (some 13) h ?_;clear h
 rintro v H1 ⟨x,rfl,h⟩
 refine T_pd [12] [(13,.bool x)]<| T_e ?_
 by_cases c1:x=true
 ·rw[if_pos c1]at h
  exact T_cTz 13 c1<| T_srz 2<| T_nr 1 [6] [vi 18] hQ h
 rw[if_neg c1]at h
 refine T_cFz 13 (eq_false_of_ne_true c1)<| T_kt<| T_sz<| T_srz 3<| T_nd 1 [13] [(14,vp c)] ?_
 obtain⟨cA,rfl,h⟩:=h
 refine T_nd 2 [0,14] [(0,vp (some cA)),(16,vp (some cA))] ?_
 obtain⟨an,q3,h⟩:=h
 refine T_l1 17 58 q3 [16] ?_
 obtain⟨al,rfl,h⟩:=h
 refine T_nd 2 [17] [(19,vp (some al))] ?_
 obtain⟨aj,q4,h⟩:=h
 refine T_l1 20 61 q4 [19]<| T_nd 2 [] [(21,vi d),(22,vu wv)] ?_
 refine T_c (some 23) h ?_;clear h
 rintro av H2 ⟨ac,rfl,h⟩
 refine T_pd [20,21,22] [(23,vi ac)]<| T_ed 1 [23] [(7,vi ac)]<| T_srz 4<| T_ed 2 [] [(25,.bool (ac !=0))] ?_
 by_cases c5:ac=0
 ·rw[if_pos c5]at h
  refine T_cFz 25 (bne_eq_false_iff_eq.mpr c5)<| T_kt<| T_srz 6<| T_ed 7 [1,7,25] [(8,vi (IntKind.wrap .i64 (Int.tdiv d 64))),(9,vi (IntKind.wrap .i64 (Int.tdiv (Int.tmod d 64) 16)))]<| T_srz 7<| T_nd 3 [] [(35,vp (some cA))] ?_
  obtain⟨am,q7,h⟩:=h
  refine T_l1 36 58 q7 [35] ?_
  obtain⟨ak,rfl,h⟩:=h
  refine T_nd 2 [36] [(38,vp (some ak))] ?_
  obtain⟨ai,q8,h⟩:=h
  refine T_l1 39 61 q8 [38]<| T_nd 1 [] [(40,vi (IntKind.wrap .i64 (Int.tdiv d 64)))] ?_
  refine T_c (some 41) h ?_;clear h
  rintro aq H3 ⟨ab,u,af,q,p,r,o,rb,rfl,h⟩
  refine T_pd [39,40] [(41,.tuple #[.agg #[vi ab,vi u,vi af,vi q,vi p,vi r,vi o],.bool rb])]<| T_nd 3 [41] [(42,.agg #[vi ab,vi u,vi af,vi q,vi p,vi r,vi o]),(43,.bool rb)]<| T_nw (some 10) (λb=>vp (pa b)) (.cells #[vi 0,vi 0,vi 0,vi 0,vi 0,vi 0,vi 0] 82) ?_
  intro b H4 e9 e10
  replace h:=h b H4 e9 e10
  refine T_pd [] [(10,vp (pa b))] ?_
  obtain⟨q12,h⟩:=h
  refine T_sta 82 [vi ab,vi u,vi af,vi q,vi p,vi r,vi o] q12 ?_
  intro H5 e11
  replace h:=h H5 e11
  refine T_pd [42] []<| T_ed 1 [43] []<| T_sz ?_
  obtain⟨ao,q13,h⟩:=h
  obtain⟨aa,rfl,h⟩:=h
  obtain⟨y,q14,h⟩:=h
  obtain⟨z,s,xN,m,j,f,l,q15,h⟩:=h
  obtain⟨q16,h⟩:=h
  obtain⟨ah,q17,h⟩:=h
  refine S_regionG 8 (Code.ops K23) [(17,cA,[vp (some aa)]),(17,aa,[vp y]),(16,(ad b),[vi z,vi s,vi xN,vi m,vi j,vi f,vi l]),(16,(((ad b).add 3).add (Int.toNat (IntKind.wrap .i64 (Int.tdiv (Int.tmod d 64) 16))*1)),[vi ah])] 19 (bv 19 0) (by kernel_rfl) (by kernel_rfl) (by kernel_rfl) (by kernel_rfl) (by kernel_rfl) (show FactsAt _ _ _ from⟨⟨q13,trivial⟩,⟨q14,trivial⟩,q15,⟨q17,trivial⟩,trivial⟩) ?_
  refine T_gp 0 (some 44) (vp (some cA)) (bv 19 1) [(0,vp (some cA)),(2,vu wv),(8,vi (IntKind.wrap .i64 (Int.tdiv d 64))),(9,vi (IntKind.wrap .i64 (Int.tdiv (Int.tmod d 64) 16))),(10,vp (pa b)),(44,vp (some cA))]<| T_gp1 1 45 (vp (some cA)) (bv 19 3) [44]<| T_gp1 2 46 (vp (some cA)) (bv 19 7) [45]<| T_g1 3 47 (vp (some aa)) (bv 19 15) [46] (loadN 58 (vp (some cA))) (held_one 17 (λ_=>by kernel_rfl) (List.Mem.head _) (.inl (by kernel_rfl)))<| T_gp1 4 48 (vp (some aa)) (bv 19 31) [47]<| T_gp1 5 49 (vp (some aa)) (bv 19 63) [48]<| T_g1 6 50 (vp y) (bv 19 127) [49] (loadN 61 (vp (some aa))) (held_one 17 (λ_=>by kernel_rfl) (List.Mem.tail _ (List.Mem.head _)) (.inl (by kernel_rfl)))<| T_gp1 7 51 (vi (IntKind.wrap .i64 (Int.tdiv d 64))) (bv 19 255) [8]<| T_gp1 8 52 (vi (IntKind.wrap .i64 (Int.tdiv (Int.tmod d 64) 16))) (bv 19 511) [] ?_
  refine T_gp1 9 53 (vp (some cA)) (bv 19 1023) [0]<| T_g1 10 54 (.agg #[vi z,vi s,vi xN,vi m,vi j,vi f,vi l]) (bv 19 2047) [] (loadN 82 (vp (pa b))) (held_row 16 (λ_=>by kernel_rfl) (λ_=>by kernel_rfl) (List.Mem.tail _ (List.Mem.tail _ (List.Mem.head _))) (.inl (by kernel_rfl)))<| T_gp1 11 55 (vu wv) (bv 19 4095) [2]<| T_gp1 12 56 (vi (IntKind.wrap .i64 (Int.tdiv (Int.tmod d 64) 16))) (bv 19 8191) [9]<| T_gp1 13 57 (vp (some ((ad b).add 3))) (bv 19 16383) [10]<| T_g1 14 58 (vp (some (((ad b).add 3).add (Int.toNat (IntKind.wrap .i64 (Int.tdiv (Int.tmod d 64) 16))*1)))) (bv 19 32767) [56,57] (indexAtN 62 (vp (some ((ad b).add 3))) (vi (IntKind.wrap .i64 (Int.tdiv (Int.tmod d 64) 16)))) (λ_ w _ _ _=>indexArr_run (P:=Tryz.prog) (t:=62) (elem:=3) (sz:=1) (n:=4) (a:=((ad b).add 3)) (k:=.i64) (i:=(IntKind.wrap .i64 (Int.tdiv (Int.tmod d 64) 16))) Tryz.underlying62 (λ_=>by kernel_rfl) q16.1 q16.2 w)<| T_g1 15 59 (vi ah) (bv 19 65535) [58] (loadN 3 (vp (some (((ad b).add 3).add (Int.toNat (IntKind.wrap .i64 (Int.tdiv (Int.tmod d 64) 16))*1))))) (held_one 16 (λ_=>by kernel_rfl) (List.Mem.tail _ (List.Mem.tail _ (List.Mem.tail _ (List.Mem.head _)))) (.inl (by kernel_rfl))) ?_
  refine G_call 16 (some 60) (bv 19 131071) 177 #[vp (some cA),.agg #[vi z,vi s,vi xN,vi m,vi j,vi f,vi l],vu wv,vi ah] (by kernel_rfl) (λ_=>by kernel_rfl) h (by kernel_rfl) ?_;clear h
  rintro au H6 ⟨ag,rfl,h⟩
  obtain⟨f18,f19,h⟩:=h
  refine⟨[(50,vp y),(51,vi (IntKind.wrap .i64 (Int.tdiv d 64))),(52,vi (IntKind.wrap .i64 (Int.tdiv (Int.tmod d 64) 16))),(60,vi ag)],pk,(show FactsAt _ _ _ from⟨f18,f19,trivial,trivial,trivial⟩),?_⟩
  refine G_call 17 (some 61) (bv 19 262143) 178 #[vp y,vi (IntKind.wrap .i64 (Int.tdiv d 64)),vi (IntKind.wrap .i64 (Int.tdiv (Int.tmod d 64) 16)),vi ag] (by kernel_rfl) (λ_=>by kernel_rfl) h (by kernel_rfl) ?_;clear h
  rintro ap H7 ⟨ae,rfl,h⟩
  refine⟨[(61,vi ae)],pk,(show FactsAt _ _ _ from⟨trivial,trivial,trivial,trivial,trivial⟩),?_⟩
  refine T_g 18 (some 6) (vi ae) (bv 19 524287) [(6,vi ae)] (pure (.value (vi ae)):Sem Next) (λ_ _ _ _ _=>rfl) ?_
  refine G_sub [(6,vi ae)] sk ?_
  refine G_end (by kernel_rfl) ?_
  refine S_then ?_
  exact T_ret [6] [vi ae] hQ h
 rw[if_neg c5]at h
 exact T_cTz 25 (bne_iff_ne.mpr c5)<| T_srz 5<| T_nr 2 [6] [vi ac] hQ h
end card_Cards_Store

/-! (*moraine/card.Cards).younger -/
namespace card_Cards_younger
def K0:=Func.code Tryz.f177
end card_Cards_younger
def card_Cards_younger.pt(c:Option Addr)(m k sN d f i j wv a:Int)(H:Array Obj)(R:Value->Array Obj->Prop):Prop:=
 ∀(b:Nat) (H1:Array Obj),b=H.size->H1=H.push (.cells #[.int .i64 m,.int .i64 k,.int .i64 sN,.int .i64 d,.int .i64 f,.int .i64 i,.int .i64 j] 82)->
 card_Cards_Gen.C c wv H1 (λv H2=> ∃(ra:Int) (rb:Bool),v=.tuple #[.int .i64 ra,.bool rb]/\
 if rb=true then(
 ∃x:Int,hat H2 ((ad b).add 1)=some (.int .i64 x)/\
 if x=3 then(
 R (.int .i64 a) H2)
 else
 ∃l:Int,hat H2 (ad b)=some (.int .i64 l)/\
 if ra<l then(
 R (.int .i64 (if ra<a then ra else a)) H2)
 else
 R (.int .i64 a) H2)
 else
 R (.int .i64 a) H2)
namespace card_Cards_younger
theorem link{c:Option Addr}{m k sN d f i j wv a:Int}{H:Array Obj}{R:Value->Array Obj->Prop}(h:pt c m k sN d f i j wv a H R):C c m k sN d f i j wv a H R:=by
 refine T_en K0 33 Tryz.func177 ?_
 intro w0 Q hQ
 unfold pt at h
 refine T_su [(0,vp c),(1,.agg #[vi m,vi k,vi sN,vi d,vi f,vi i,vi j]),(2,vu wv),(3,vi a)]<| T_srz 0<| T_nw (some 5) (λb=>vp (pa b)) (.cells #[vi m,vi k,vi sN,vi d,vi f,vi i,vi j] 82) ?_
 intro b H1 e1 e2
 replace h:=h b H1 e1 e2
 refine T_pd [1] [(5,vp (pa b))]<| T_ed 1 [] []<| T_sz<| T_srz 1<| T_nd 2 [0,2] [(12,vp c),(13,vu wv)] ?_
 refine T_c (some 14) h ?_;clear h
 rintro v H2 ⟨ra,rb,rfl,h⟩
 refine T_pd [12,13] [(14,.tuple #[vi ra,.bool rb])]<| T_ed 5 [14] [(9,vi ra),(10,.bool rb)]<| T_srz 2<| T_nd 2 [10] [(18,.bool rb)] ?_
 by_cases c3:rb=true
 ·rw[if_pos c3]at h
  refine N_bd 18 c3<| T_nd 1 [] [(19,vp (some ((ad b).add 1)))] ?_
  obtain⟨x,q5,h⟩:=h
  refine T_l1 20 3 q5 [19]<| T_nd 3 [18,20] [(23,.bool (x !=3))] ?_
  by_cases c6:x=3
  ·rw[if_pos c6]at h
   exact N_bd 23 (bne_eq_false_iff_eq.mpr c6)<| T_ed 5 [5,23] [(28,.bool false)]<| T_fz 28<| T_kt<| T_srz 4<| T_nr 2 [8] [vi a] hQ h
  rw[if_neg c6]at h
  refine N_bd 23 (bne_iff_ne.mpr c6)<| T_nd 2 [5] [(24,vi ra),(25,vp (pa b))] ?_
  obtain⟨l,q8,h⟩:=h
  refine T_l1 26 3 q8 [25]<| T_ed 2 [23,24,26] [(28,.bool (decide (ra<l)))] ?_
  by_cases c9:ra<l
  ·rw[if_pos c9]at h
   exact T_cTz 28 (decide_eq_true c9)<| T_srz 3<| T_nr 4 [8] [vi (if ra<a then ra else a)] hQ h
  rw[if_neg c9]at h
  exact T_cFz 28 (decide_eq_false c9)<| T_kt<| T_srz 4<| T_nr 2 [8] [vi a] hQ h
 rw[if_neg c3]at h
 exact N_bd 18 (eq_false_of_ne_true c3)<| T_ed 10 [5,18] [(28,.bool false)]<| T_fz 28<| T_kt<| T_srz 4<| T_nr 2 [8] [vi a] hQ h
end card_Cards_younger

/-! (*moraine/obj.Heap).Cons -/
namespace obj_Heap_Cons
def K0:=Func.code Tryz.f15
end obj_Heap_Cons
def obj_Heap_Cons.pt(hv:Option Addr)(d a:Int)(H:Array Obj)(R:Value->Array Obj->Prop):Prop:=
 ∀(b:Nat) (H1:Array Obj),b=H.size->H1=H.push (.cells #[.int .u64 d,.int .u64 a] 36)->
 obj_Heap_put.C hv 0 1 (some (ad b)) 2 2 H1 (λv H2=> ∃ra rb:Int,v=.tuple #[.int .u64 ra,.int .i64 rb]/\
 R (.tuple #[.int .u64 ra,.int .i64 rb]) H2)
namespace obj_Heap_Cons
theorem link{hv:Option Addr}{d a:Int}{H:Array Obj}{R:Value->Array Obj->Prop}(h:pt hv d a H R):C hv d a H R:=by
 refine T_en K0 15 Tryz.func15 ?_
 intro w0 Q hQ
 unfold pt at h
 refine T_su [(0,vp hv),(1,vu d),(2,vu a)]<| T_srz 0<| T_ed 2 [] []<| T_srz 1<| T_n 3 [(8,vp hv),(9,vu d),(10,vu a)]<| T_nw (some 11) (λb=>vs (pa b) 2 2) (.cells #[vu d,vu a] 36) ?_
 intro b H1 e1 e2
 replace h:=h b H1 e1 e2
 refine T_pd [9,10] [(11,vs (pa b) 2 2)] ?_
 refine T_c (some 12) h ?_;clear h
 rintro v H2 ⟨ra,rb,rfl,h⟩
 refine⟨[(12,.tuple #[vu ra,vi rb])],pk,?_⟩
 exact T_nr 4 [6,7] [vu ra,vi rb] hQ h
end obj_Heap_Cons

/-! (*moraine/obj.Heap).Weak -/
namespace obj_Heap_Weak
def K0:=Func.code Tryz.f43
end obj_Heap_Weak
def obj_Heap_Weak.pt(hv:Option Addr)(d a:Int)(H:Array Obj)(R:Value->Array Obj->Prop):Prop:=
 ∀(b:Nat) (H1:Array Obj),b=H.size->H1=H.push (.cells #[.int .u64 d,.int .u64 a] 36)->
 obj_Heap_put.C hv 1 2 (some (ad b)) 2 2 H1 (λv H2=> ∃ra rb:Int,v=.tuple #[.int .u64 ra,.int .i64 rb]/\
 R (.tuple #[.int .u64 ra,.int .i64 rb]) H2)
namespace obj_Heap_Weak
theorem link{hv:Option Addr}{d a:Int}{H:Array Obj}{R:Value->Array Obj->Prop}(h:pt hv d a H R):C hv d a H R:=by
 refine T_en K0 15 Tryz.func43 ?_
 intro w0 Q hQ
 unfold pt at h
 refine T_su [(0,vp hv),(1,vu d),(2,vu a)]<| T_srz 0<| T_ed 2 [] []<| T_srz 1<| T_n 3 [(8,vp hv),(9,vu d),(10,vu a)]<| T_nw (some 11) (λb=>vs (pa b) 2 2) (.cells #[vu d,vu a] 36) ?_
 intro b H1 e1 e2
 replace h:=h b H1 e1 e2
 refine T_pd [9,10] [(11,vs (pa b) 2 2)] ?_
 refine T_c (some 12) h ?_;clear h
 rintro v H2 ⟨ra,rb,rfl,h⟩
 refine⟨[(12,.tuple #[vu ra,vi rb])],pk,?_⟩
 exact T_nr 4 [6,7] [vu ra,vi rb] hQ h
end obj_Heap_Weak

/-! (*moraine/obj.Heap).Car -/
namespace obj_Heap_Car
def K0:=Func.code Tryz.f52
end obj_Heap_Car
def obj_Heap_Car.pt(hv:Option Addr)(wv:Int)(H:Array Obj)(R:Value->Array Obj->Prop):Prop:=
 obj_Heap_half.C hv wv 0 H (λv H1=> ∃ra rb:Int,v=.tuple #[.int .u64 ra,.int .i64 rb]/\
 R (.tuple #[.int .u64 ra,.int .i64 rb]) H1)
namespace obj_Heap_Car
theorem link{hv:Option Addr}{wv:Int}{H:Array Obj}{R:Value->Array Obj->Prop}(h:pt hv wv H R):C hv wv H R:=by
 refine T_en K0 11 Tryz.func52 ?_
 intro w0 Q hQ
 unfold pt at h
 refine T_su [(0,vp hv),(1,vu wv)]<| T_srz 0<| T_ed 2 [] []<| T_srz 1<| T_n 2 [(6,vp hv),(7,vu wv)] ?_
 refine T_c (some 8) h ?_;clear h
 rintro v H1 ⟨ra,rb,rfl,h⟩
 refine⟨[(8,.tuple #[vu ra,vi rb])],pk,?_⟩
 exact T_nr 4 [4,5] [vu ra,vi rb] hQ h
end obj_Heap_Car

/-! (*moraine/obj.Heap).Cdr -/
namespace obj_Heap_Cdr
def K0:=Func.code Tryz.f53
end obj_Heap_Cdr
def obj_Heap_Cdr.pt(hv:Option Addr)(wv:Int)(H:Array Obj)(R:Value->Array Obj->Prop):Prop:=
 obj_Heap_half.C hv wv 1 H (λv H1=> ∃ra rb:Int,v=.tuple #[.int .u64 ra,.int .i64 rb]/\
 R (.tuple #[.int .u64 ra,.int .i64 rb]) H1)
namespace obj_Heap_Cdr
theorem link{hv:Option Addr}{wv:Int}{H:Array Obj}{R:Value->Array Obj->Prop}(h:pt hv wv H R):C hv wv H R:=by
 refine T_en K0 11 Tryz.func53 ?_
 intro w0 Q hQ
 unfold pt at h
 refine T_su [(0,vp hv),(1,vu wv)]<| T_srz 0<| T_ed 2 [] []<| T_srz 1<| T_n 2 [(6,vp hv),(7,vu wv)] ?_
 refine T_c (some 8) h ?_;clear h
 rintro v H1 ⟨ra,rb,rfl,h⟩
 refine⟨[(8,.tuple #[vu ra,vi rb])],pk,?_⟩
 exact T_nr 4 [4,5] [vu ra,vi rb] hQ h
end obj_Heap_Cdr

/-! (*moraine/obj.Heap).Pair -/
namespace obj_Heap_Pair
def K0:=Func.code Tryz.f81
end obj_Heap_Pair
def obj_Heap_Pair.pt(hv:Option Addr)(wv:Int)(H:Array Obj)(R:Value->Array Obj->Prop):Prop:=
 obj_Heap_pair.C hv wv H (λv H1=> ∃(ra:Int) (rb:Bool),v=.tuple #[.int .i64 ra,.bool rb]/\
 R (.bool rb) H1)
namespace obj_Heap_Pair
theorem link{hv:Option Addr}{wv:Int}{H:Array Obj}{R:Value->Array Obj->Prop}(h:pt hv wv H R):C hv wv H R:=by
 refine T_en K0 14 Tryz.func81 ?_
 intro w0 Q hQ
 unfold pt at h
 refine T_su [(0,vp hv),(1,vu wv)]<| T_srz 0<| T_ed 1 [] []<| T_srz 1<| T_n 2 [(8,vp hv),(9,vu wv)] ?_
 refine T_c (some 10) h ?_;clear h
 rintro v H1 ⟨ra,rb,rfl,h⟩
 refine⟨[(10,.tuple #[vi ra,.bool rb])],pk,?_⟩
 exact T_ne 5 [(6,.bool rb)]<| T_srz 2<| T_nr 2 [4] [.bool rb] hQ h
end obj_Heap_Pair

/-! (*moraine/obj.Heap).Size -/
namespace obj_Heap_Size
def K0:=Func.code Tryz.f83
end obj_Heap_Size
def obj_Heap_Size.pt(hv:Option Addr)(wv:Int)(H:Array Obj)(R:Value->Array Obj->Prop):Prop:=
 obj_Heap_Pair.C hv wv H (λv H1=> ∃x:Bool,v=.bool x/\
 if x=true then(
 R (.int .i64 2) H1)
 else
 obj_Heap_object.C hv wv H1 (λa H2=> ∃(ra rb rc rd:Int) (re:Bool),a=.tuple #[.int .i64 ra,.int .i64 rb,.int .i64 rc,.int .u64 rd,.bool re]/\
 if re=true then(
 R (.int .i64 (IntKind.wrap .i64 (rc+1))) H2)
 else
 R (.int .i64 0) H2))
namespace obj_Heap_Size
theorem link{hv:Option Addr}{wv:Int}{H:Array Obj}{R:Value->Array Obj->Prop}(h:pt hv wv H R):C hv wv H R:=by
 refine T_en K0 25 Tryz.func83 ?_
 intro w0 Q hQ
 unfold pt at h
 refine T_su [(0,vp hv),(1,vu wv)]<| T_srz 0<| T_ed 1 [] []<| T_sz<| T_srz 1<| T_nd 2 [] [(10,vp hv),(11,vu wv)] ?_
 refine T_c (some 12) h ?_;clear h
 rintro v H1 ⟨x,rfl,h⟩
 refine T_pd [10,11] [(12,.bool x)]<| T_e ?_
 by_cases c1:x=true
 ·rw[if_pos c1]at h
  exact T_cTz 12 c1<| T_srz 2<| T_nr 1 [4] [vi 2] hQ h
 rw[if_neg c1]at h
 refine T_cFz 12 (eq_false_of_ne_true c1)<| T_kt<| T_sz<| T_srz 3<| T_n 2 [(14,vp hv),(15,vu wv)] ?_
 refine T_c (some 16) h ?_;clear h
 rintro a H2 ⟨ra,rb,rc,rd,re,rfl,h⟩
 refine⟨[(16,.tuple #[vi ra,vi rb,vi rc,vu rd,.bool re])],pk,?_⟩
 refine T_ne 11 [(7,vi rc),(9,.bool re)]<| T_srz 4<| T_ed 1 [9] [(22,.bool re)] ?_
 by_cases c3:re=true
 ·rw[if_pos c3]at h
  exact T_cTz 22 c3<| T_srz 5<| T_nr 3 [4] [vi (IntKind.wrap .i64 (rc+1))] hQ h
 rw[if_neg c3]at h
 exact T_cFz 22 (eq_false_of_ne_true c3)<| T_kt<| T_srz 6<| T_nr 1 [4] [vi 0] hQ h
end obj_Heap_Size

/-! (*moraine/obj.Heap).half -/
namespace obj_Heap_half
def K0:=Func.code Tryz.f128
end obj_Heap_half
def obj_Heap_half.pt(hv:Option Addr)(wv i:Int)(H:Array Obj)(R:Value->Array Obj->Prop):Prop:=
 obj_Heap_pair.C hv wv H (λv H1=> ∃(ra:Int) (rb:Bool),v=.tuple #[.int .i64 ra,.bool rb]/\
 if rb=true then(
 ∃j:Addr,hv=some j/\
 ∃x:Option Addr,hat H1 j=some (.pointer x)/\
 ∃xA:Addr,x=some xA/\
 ∃f:Option Addr,hat H1 xA=some (.pointer f)/\
 ∃k:Addr,f=some k/\
 ∃d:Option Addr,hat H1 k=some (.pointer d)/\
 seg_Mem_Read.C d (IntKind.wrap .i64 (ra+i)) H1 (λl H2=> ∃b a:Int,l=.tuple #[.int .u64 b,.int .i64 a]/\
 R (.tuple #[.int .u64 b,.int .i64 a]) H2))
 else
 R (.tuple #[.int .u64 0,.int .i64 3]) H1)
namespace obj_Heap_half
theorem link{hv:Option Addr}{wv i:Int}{H:Array Obj}{R:Value->Array Obj->Prop}(h:pt hv wv i H R):C hv wv i H R:=by
 refine T_en K0 34 Tryz.func128 ?_
 intro w0 Q hQ
 unfold pt at h
 refine T_su [(0,vp hv),(1,vu wv),(2,vi i)]<| T_srz 0<| T_ed 2 [] []<| T_srz 1<| T_nd 2 [1] [(11,vp hv),(12,vu wv)] ?_
 refine T_c (some 13) h ?_;clear h
 rintro v H1 ⟨ra,rb,rfl,h⟩
 refine T_pd [11,12] [(13,.tuple #[vi ra,.bool rb])]<| T_ed 5 [13] [(8,vi ra),(9,.bool rb)]<| T_sz<| T_srz 2<| T_ed 2 [9] [(17,.bool (!rb))] ?_
 by_cases c1:rb=true
 ·rw[if_pos c1]at h
  refine T_cFz 17 (congrArg Bool.not (c1))<| T_kt<| T_srz 4<| T_nd 1 [0,17] [(18,vp hv)] ?_
  obtain⟨j,rfl,h⟩:=h
  refine T_nd 2 [18] [(20,vp (some j))] ?_
  obtain⟨x,q3,h⟩:=h
  refine T_l1 21 54 q3 [20] ?_
  obtain⟨xA,rfl,h⟩:=h
  refine T_nd 2 [21] [(23,vp (some xA))] ?_
  obtain⟨f,q4,h⟩:=h
  refine T_l1 24 58 q4 [23] ?_
  obtain⟨k,rfl,h⟩:=h
  refine T_nd 2 [24] [(26,vp (some k))] ?_
  obtain⟨d,q5,h⟩:=h
  refine T_l1 27 61 q5 [26]<| T_nd 3 [2,8] [(30,vi (IntKind.wrap .i64 (ra+i)))] ?_
  refine T_c (some 31) h ?_;clear h
  rintro l H2 ⟨b,a,rfl,h⟩
  refine⟨[(31,.tuple #[vu b,vi a])],pk,?_⟩
  exact T_nr 4 [6,7] [vu b,vi a] hQ h
 rw[if_neg c1]at h
 exact T_cTz 17 (congrArg Bool.not (eq_false_of_ne_true c1))<| T_srz 3<| T_nr 2 [6,7] [vu 0,vi 3] hQ h
end obj_Heap_half

/-! (*moraine/obj.Heap).SetCar -/
namespace obj_Heap_SetCar
def K0:=Func.code Tryz.f147
end obj_Heap_SetCar
def obj_Heap_SetCar.pt(hv:Option Addr)(wv v:Int)(H:Array Obj)(R:Value->Array Obj->Prop):Prop:=
 obj_Heap_set.C hv wv 0 v H (λa H1=> ∃x:Int,a=.int .i64 x/\
 R (.int .i64 x) H1)
namespace obj_Heap_SetCar
theorem link{hv:Option Addr}{wv v:Int}{H:Array Obj}{R:Value->Array Obj->Prop}(h:pt hv wv v H R):C hv wv v H R:=by
 refine T_en K0 11 Tryz.func147 ?_
 intro w0 Q hQ
 unfold pt at h
 refine T_su [(0,vp hv),(1,vu wv),(2,vu v)]<| T_srz 0<| T_ed 1 [] []<| T_srz 1<| T_n 3 [(7,vp hv),(8,vu wv),(9,vu v)] ?_
 refine T_c (some 10) h ?_;clear h
 rintro a H1 ⟨x,rfl,h⟩
 refine⟨[(10,vi x)],pk,?_⟩
 exact T_nr 1 [6] [vi x] hQ h
end obj_Heap_SetCar

/-! (*moraine/obj.Heap).SetCdr -/
namespace obj_Heap_SetCdr
def K0:=Func.code Tryz.f148
end obj_Heap_SetCdr
def obj_Heap_SetCdr.pt(hv:Option Addr)(wv v:Int)(H:Array Obj)(R:Value->Array Obj->Prop):Prop:=
 obj_Heap_set.C hv wv 1 v H (λa H1=> ∃x:Int,a=.int .i64 x/\
 R (.int .i64 x) H1)
namespace obj_Heap_SetCdr
theorem link{hv:Option Addr}{wv v:Int}{H:Array Obj}{R:Value->Array Obj->Prop}(h:pt hv wv v H R):C hv wv v H R:=by
 refine T_en K0 11 Tryz.func148 ?_
 intro w0 Q hQ
 unfold pt at h
 refine T_su [(0,vp hv),(1,vu wv),(2,vu v)]<| T_srz 0<| T_ed 1 [] []<| T_srz 1<| T_n 3 [(7,vp hv),(8,vu wv),(9,vu v)] ?_
 refine T_c (some 10) h ?_;clear h
 rintro a H1 ⟨x,rfl,h⟩
 refine⟨[(10,vi x)],pk,?_⟩
 exact T_nr 1 [6] [vi x] hQ h
end obj_Heap_SetCdr

/-! (*moraine/obj.Heap).pair -/
namespace obj_Heap_pair
def K0:=Func.code Tryz.f155
end obj_Heap_pair
def obj_Heap_pair.pt(hv:Option Addr)(wv:Int)(H:Array Obj)(R:Value->Array Obj->Prop):Prop:=
 obj_Heap_at.C hv wv 1 0 H (λv H1=> ∃(ra:Int) (rb:Bool),v=.tuple #[.int .i64 ra,.bool rb]/\
 if rb=true then(
 R (.tuple #[.int .i64 ra,.bool ((Int.tmod ra 2)==0)]) H1)
 else
 obj_Heap_at.C hv wv 2 1 H1 (λd H2=> ∃(a:Int) (b:Bool),d=.tuple #[.int .i64 a,.bool b]/\
 R (.tuple #[.int .i64 a,.bool (b && ((Int.tmod a 2)==0))]) H2))
namespace obj_Heap_pair
theorem link{hv:Option Addr}{wv:Int}{H:Array Obj}{R:Value->Array Obj->Prop}(h:pt hv wv H R):C hv wv H R:=by
 refine T_en K0 29 Tryz.func155 ?_
 intro w0 Q hQ
 unfold pt at h
 refine T_su [(0,vp hv),(1,vu wv)]<| T_srz 0<| T_ed 2 [] []<| T_srz 1<| T_nd 2 [] [(9,vp hv),(10,vu wv)] ?_
 refine T_c (some 11) h ?_;clear h
 rintro v H1 ⟨ra,rb,rfl,h⟩
 refine T_pd [9,10] [(11,.tuple #[vi ra,.bool rb])]<| T_ed 5 [11] [(6,vi ra),(7,.bool rb)]<| T_sz<| T_srz 2<| T_ed 2 [] [(15,.bool (!rb))] ?_
 by_cases c1:rb=true
 ·rw[if_pos c1]at h
  have b2:(!rb)=false:=congrArg Bool.not (c1)
  have b22:rb=true:=c1
  refine S_bd 7 (b:=rb) (v:=true) (by simp only[b2,b22,Bool.not_true,Bool.not_false])<| S_bd 15 (b:=(!rb)) (v:=false) (by simp only[b2,b22,Bool.not_true,Bool.not_false]) ?_
  clear b2 b22
  exact T_fz 15<| T_kt<| T_srz 4<| T_nr 9 [4,5] [vi ra,.bool ((Int.tmod ra 2)==0)] hQ h
 rw[if_neg c1]at h
 have b2:(!rb)=true:=congrArg Bool.not (eq_false_of_ne_true c1)
 have b22:rb=false:=eq_false_of_ne_true c1
 refine S_bd 7 (b:=rb) (v:=false) (by simp only[b2,b22,Bool.not_true,Bool.not_false])<| S_bd 15 (b:=(!rb)) (v:=true) (by simp only[b2,b22,Bool.not_true,Bool.not_false]) ?_
 clear b2 b22
 refine T_tz 15<| T_rz 3<| T_n 2 [(17,vp hv),(18,vu wv)] ?_
 refine T_c (some 19) h ?_;clear h
 rintro d H2 ⟨a,b,rfl,h⟩
 refine⟨[(19,.tuple #[vi a,.bool b])],pk,?_⟩
 refine T_ne 5 [(6,vi a),(7,.bool b)]<| T_srz 4 ?_
 refine N_cut [(4,vi a),(5,.bool (b && ((Int.tmod a 2)==0)))] ?_ ?_
 ·refine S_then ?_
  exact T_ret [4,5] [vi a,.bool (b && ((Int.tmod a 2)==0))] hQ h
 intro hk
 refine T_n 3 [(6,vi a),(22,vi a),(24,.bool b)] ?_
 by_cases c3:b=true
 ·have b4:b=true:=c3
  refine N_env [(6,vi a),(22,vi a),(24,.bool true)] (by rw[b4]) ?_
  refine T_n 6 [(4,vi a),(5,.bool ((Int.tmod a 2)==0))] ?_
  refine N_end (by kernel_rfl) ?_
  refine S_env [(4,vi a),(5,.bool (b && ((Int.tmod a 2)==0)))] (by simp only[b4,BL]) ?_
  exact hk
 have b4:b=false:=eq_false_of_ne_true c3
 refine N_env [(6,vi a),(22,vi a),(24,.bool false)] (by rw[b4]) ?_
 refine T_n 6 [(4,vi a),(5,.bool false)] ?_
 refine N_end (by kernel_rfl) ?_
 refine S_env [(4,vi a),(5,.bool (b && ((Int.tmod a 2)==0)))] (by simp only[b4,BL]) ?_
 exact hk
end obj_Heap_pair

/-! (*moraine/obj.Heap).set -/
namespace obj_Heap_set
def K0:=Func.code Tryz.f196
end obj_Heap_set
def obj_Heap_set.pt(hv:Option Addr)(wv i v:Int)(H:Array Obj)(R:Value->Array Obj->Prop):Prop:=
 obj_Heap_pair.C hv wv H (λf H1=> ∃(ra:Int) (rb:Bool),f=.tuple #[.int .i64 ra,.bool rb]/\
 if rb=true then(
 ∃b:Addr,hv=some b/\
 ∃x:Option Addr,hat H1 b=some (.pointer x)/\
 card_Cards_Store.C x (IntKind.wrap .i64 (ra+i)) v H1 (λd H2=> ∃a:Int,d=.int .i64 a/\
 R (.int .i64 a) H2))
 else
 R (.int .i64 3) H1)
namespace obj_Heap_set
theorem link{hv:Option Addr}{wv i v:Int}{H:Array Obj}{R:Value->Array Obj->Prop}(h:pt hv wv i v H R):C hv wv i v H R:=by
 refine T_en K0 28 Tryz.func196 ?_
 intro w0 Q hQ
 unfold pt at h
 refine T_su [(0,vp hv),(1,vu wv),(2,vi i),(3,vu v)]<| T_srz 0<| T_ed 1 [] []<| T_srz 1<| T_nd 2 [1] [(12,vp hv),(13,vu wv)] ?_
 refine T_c (some 14) h ?_;clear h
 rintro f H1 ⟨ra,rb,rfl,h⟩
 refine T_pd [12,13] [(14,.tuple #[vi ra,.bool rb])]<| T_ed 5 [14] [(9,vi ra),(10,.bool rb)]<| T_sz<| T_srz 2<| T_ed 2 [10] [(18,.bool (!rb))] ?_
 by_cases c1:rb=true
 ·rw[if_pos c1]at h
  refine T_cFz 18 (congrArg Bool.not (c1))<| T_kt<| T_srz 4<| T_nd 1 [0,18] [(19,vp hv)] ?_
  obtain⟨b,rfl,h⟩:=h
  refine T_nd 2 [19] [(21,vp (some b))] ?_
  obtain⟨x,q3,h⟩:=h
  refine T_l1 22 54 q3 [21]<| T_n 4 [(22,vp x),(25,vi (IntKind.wrap .i64 (ra+i))),(26,vu v)] ?_
  refine T_c (some 27) h ?_;clear h
  rintro d H2 ⟨a,rfl,h⟩
  refine⟨[(27,vi a)],pk,?_⟩
  exact T_nr 1 [8] [vi a] hQ h
 rw[if_neg c1]at h
 exact T_cTz 18 (congrArg Bool.not (eq_false_of_ne_true c1))<| T_srz 3<| T_nr 1 [8] [vi 3] hQ h
end obj_Heap_set

/-! (*moraine/seg.Mem).Taken -/
namespace seg_Mem_Taken
def K0:=Func.code Tryz.f20
def K2:=cb K0
def K4:=cb K2
def K12:=cb K4
def K13:=ca K12
def K16:=cb K13
def K17:=ca K16
def K18:=ca K17
end seg_Mem_Taken
def seg_Mem_Taken.pt(m j:Option Addr)(d f:Nat)(H:Array Obj)(R:Value->Array Obj->Prop):Prop:=
 ∀(b:Nat) (H1:Array Obj),b=H.size->H1=H.push (.cells #[.pointer m] 61)->
 ∃x:Option Addr,hat H1 (ad b)=some (.pointer x)/\
 onPtr x (
 R (.slice none 0 0) H1) (λxA=>
 ∃ah:Option Addr,hat H1 (ad b)=some (.pointer ah)/\
 ∃af:Addr,ah=some af/\
 ∃(xB:Option Addr) (xN xC:Nat),hat H1 af=some (.slice xB xN xC)/\
 ∃(u:(Option Addr)->Nat->Nat->Int->Array Obj->Prop) (m19:(Option Addr)->Nat->Nat->Int->Array Obj->Nat),u none 0 0 0 H1/\ ∀(lB:Option Addr) (lN:Nat) (lC:Nat) (s15:Int) (H2:Array Obj),u lB lN lC s15 H2->
 if s15< (xN:Int)then(
 ∃ag:Option Addr,hat H2 (ad b)=some (.pointer ag)/\
 ∃ae:Addr,ag=some ae/\
 ∃(s:Option Addr) (o p:Nat),hat H2 ae=some (.slice s o p)/\
 ∃l:Addr,s=some l/\
 ((0:Int)<=s15/\s15< (o:Int))/\
 ∃r:Int,hat H2 ((l.add (Int.toNat s15*72)).add 7)=some (.int .i64 r)/\
 if r>0 then(
 if(d:Int)=0 then(
 ∀(ac:Nat) (H3:Array Obj),ac=H2.size->H3=H2.push (.cells #[.int .i64 s15] 3)->
 appendK 1 3 8 [.int .i64 0] lB lN lC (some (ad ac)) 1 H3 (λap z H4=>
 (u ap (lN+1) z (IntKind.wrap .i64 (s15+1)) H4/\m19 ap (lN+1) z (IntKind.wrap .i64 (s15+1)) H4<m19 lB lN lC s15 H2)))
 else
 ∃aa:Int,hat H2 (l.add (Int.toNat s15*72))=some (.int .i64 aa)/\
 slices_Contains_int_int.C j d f aa H2 (λv H5=> ∃y:Bool,v=.bool y/\
 if y=true then(
 ∀(ab:Nat) (H6:Array Obj),ab=H5.size->H6=H5.push (.cells #[.int .i64 s15] 3)->
 appendK 1 3 8 [.int .i64 0] lB lN lC (some (ad ab)) 1 H6 (λq n H7=>
 (u q (lN+1) n (IntKind.wrap .i64 (s15+1)) H7/\m19 q (lN+1) n (IntKind.wrap .i64 (s15+1)) H7<m19 lB lN lC s15 H2)))
 else
 (u lB lN lC (IntKind.wrap .i64 (s15+1)) H5/\m19 lB lN lC (IntKind.wrap .i64 (s15+1)) H5<m19 lB lN lC s15 H2)))
 else
 (u lB lN lC (IntKind.wrap .i64 (s15+1)) H2/\m19 lB lN lC (IntKind.wrap .i64 (s15+1)) H2<m19 lB lN lC s15 H2))
 else
 slices_SortFunc_int_int.C lB lN lC (.func (.func 94) #[] #[.pointer (some (ad b))]) H2 (λ_ H8=>
 R (.slice lB lN lC) H8))
namespace seg_Mem_Taken
theorem link{m j:Option Addr}{d f:Nat}{H:Array Obj}{R:Value->Array Obj->Prop}(h:pt m j d f H R):C m j d f H R:=by
 refine T_en K0 52 Tryz.func20 ?_
 intro w0 Q hQ
 unfold pt at h
 refine T_su [(0,vp m),(1,vs j d f)]<| T_srz 0<| T_nw (some 2) (λb=>vp (pa b)) (.cells #[vp m] 61) ?_
 intro b H1 e1 e2
 replace h:=h b H1 e1 e2
 refine T_pd [0] [(2,vp (pa b))]<| T_ed 1 [] []<| T_sz<| T_srz 1 ?_
 obtain⟨x,q3,h⟩:=h
 refine T_l1 8 61 q3 [] ?_
 rcases x with _ | xA
 ·rw[onPtr_none]at h
  exact T_ed 1 [8] [(9,.bool true)]<| T_tz 9<| T_srz 2<| T_nr 1 [4] [vs none 0 0] hQ h
 rw[onPtr_some]at h
 refine T_ed 1 [8] [(9,.bool false)]<| T_fz 9<| T_kt<| T_srz 3<| T_ed 1 [9] [(5,vs none 0 0)]<| T_sz<| T_srz 4 ?_
 obtain⟨ah,q4,h⟩:=h
 refine T_l1 10 61 q4 [] ?_
 obtain⟨af,rfl,h⟩:=h
 refine T_nd 2 [10] [(12,vp (some af))] ?_
 obtain⟨xB,xN,xC,q5,h⟩:=h
 refine T_l1 13 162 q5 [12]<| T_ed 2 [13] [(14,vi xN),(15,vi 0)]<| T_bz 0 ?_
 obtain⟨u,m19,i6,i7⟩:=h
 refine S_loop (x:=K18) (σ:=(Option Addr)×Nat×Nat×Int) (λs_=> [(1,vs j d f),(2,vp (pa b)),(5,vs s_.1 s_.2.1 s_.2.2.1),(14,vi xN),(15,vi s_.2.2.2)]) (λs_ H=>u s_.1 s_.2.1 s_.2.2.1 s_.2.2.2 H) (λs_ H=>m19 s_.1 s_.2.1 s_.2.2.1 s_.2.2.2 H) ((none,0,0,0):(Option Addr)×Nat×Nat×Int) (by kernel_rfl) i6 sk ?_
 rintro⟨lB,lN,lC,s15⟩ H2 i8
 have h:=i7 lB lN lC s15 H2 i8
 refine T_su [(1,vs j d f),(2,vp (pa b)),(5,vs lB lN lC),(14,vi xN),(15,vi s15)]<| T_srz 5<| T_ed 1 [] [(16,.bool (decide (s15< (xN:Int))))]<| T_sz ?_
 by_cases c9:s15< (xN:Int)
 ·rw[if_pos c9]at h
  refine T_cTz 16 (decide_eq_true c9)<| T_kt<| T_sz<| T_bz 1<| T_srz 6<| T_ed 2 [16] [(6,vi s15)]<| T_srz 7 ?_
  obtain⟨ag,q11,h⟩:=h
  refine T_l1 18 61 q11 [] ?_
  obtain⟨ae,rfl,h⟩:=h
  refine T_nd 2 [18] [(20,vp (some ae))] ?_
  obtain⟨s,o,p,q12,h⟩:=h
  refine T_l1 21 162 q12 [20]<| T_nd 1 [] [(22,vi s15)] ?_
  obtain⟨l,rfl,h⟩:=h
  obtain⟨q13,h⟩:=h
  refine T_xd (some 23) 162 168 72 l o p .i64 s15 Tryz.underlying162 q13.1 q13.2 [21,22] [(23,vp (some (l.add (Int.toNat s15*72))))]<| T_ed 1 [23] [(7,vp (some (l.add (Int.toNat s15*72))))]<| T_srz 8<| T_nd 3 [] [(26,vp (some ((l.add (Int.toNat s15*72)).add 7)))] ?_
  obtain⟨r,q14,h⟩:=h
  refine T_l1 27 3 q14 [26]<| T_nd 2 [27] [(29,.bool (decide (r>0)))] ?_
  by_cases c15:r>0
  ·rw[if_pos c15]at h
   refine N_bd 29 (decide_eq_true c15)<| T_nd 4 [] [(33,.bool ((d:Int)==0))] ?_
   by_cases c17:(d:Int)=0
   ·rw[if_pos c17]at h
    refine N_bd 33 (beq_iff_eq.mpr c17)<| T_ed 9 [7,29,33] [(42,.bool true)]<| T_tz 42<| T_rz 9<| T_nd 2 [5,6,42] [(43,vs lB lN lC),(44,vi s15)]<| T_nw (some 45) (λb=>vs (pa b) 1 1) (.cells #[vi s15] 3) ?_
    intro ac H3 e19 e20
    replace h:=h ac H3 e19 e20
    refine T_pd [44] [(45,vs (pa ac) 1 1)] ?_
    refine N_op (some 46) (appendN #[52,52] 52 #[vs lB lN lC,vs (pa ac) 1 1]) _ (λ_=>by kernel_rfl) (ss_append (T:=3) (sz:=1) (bytes:=8) (zero:=(vi 0:Value)) Tryz.underlying52 Tryz.underlying52 rfl (show Tryz.prog.info? 3=some Tryz.t3 from by kernel_rfl) (by kernel_rfl) (by kernel_rfl) (by decide) (by kernel_rfl) (by first | exact h | (simpa only[Value.cells,List.toList_toArray]using h))) ?_;clear h
    rintro _ H4 ⟨ap,z,rfl,h⟩
    refine T_pd [43,45] [(46,vs ap (lN+1) z)]<| T_nd 1 [46] [(5,vs ap (lN+1) z)] ?_
    refine N_end (by kernel_rfl) ?_
    refine S_blockEnd ?_
    refine S_then ?_
    refine T_rz 10<| T_ed 2 [15] [(15,vi (IntKind.wrap .i64 (s15+1)))] ?_
    exact S_round ((ap,(lN+1),z,(IntKind.wrap .i64 (s15+1))):(Option Addr)×Nat×Nat×Int) sk h
   rw[if_neg c17]at h
   refine N_bd 33 (beq_eq_false_iff_ne.mpr c17)<| T_nd 5 [7] [(34,vs j d f),(38,vp (some (l.add (Int.toNat s15*72))))] ?_
   obtain⟨aa,q21,h⟩:=h
   refine T_l1 39 3 q21 [38] ?_
   refine T_c (some 40) h ?_;clear h
   rintro v H5 ⟨y,rfl,h⟩
   refine T_pd [34,39] [(40,.bool y)]<| T_ed 2 [29,33,40] [(42,.bool y)] ?_
   by_cases c22:y=true
   ·rw[if_pos c22]at h
    refine T_cTz 42 c22<| T_rz 9<| T_nd 2 [5,6,42] [(43,vs lB lN lC),(44,vi s15)]<| T_nw (some 45) (λb=>vs (pa b) 1 1) (.cells #[vi s15] 3) ?_
    intro ab H6 e24 e25
    replace h:=h ab H6 e24 e25
    refine T_pd [44] [(45,vs (pa ab) 1 1)] ?_
    refine N_op (some 46) (appendN #[52,52] 52 #[vs lB lN lC,vs (pa ab) 1 1]) _ (λ_=>by kernel_rfl) (ss_append (T:=3) (sz:=1) (bytes:=8) (zero:=(vi 0:Value)) Tryz.underlying52 Tryz.underlying52 rfl (show Tryz.prog.info? 3=some Tryz.t3 from by kernel_rfl) (by kernel_rfl) (by kernel_rfl) (by decide) (by kernel_rfl) (by first | exact h | (simpa only[Value.cells,List.toList_toArray]using h))) ?_;clear h
    rintro _ H7 ⟨q,n,rfl,h⟩
    refine T_pd [43,45] [(46,vs q (lN+1) n)]<| T_nd 1 [46] [(5,vs q (lN+1) n)] ?_
    refine N_end (by kernel_rfl) ?_
    refine S_blockEnd ?_
    refine S_then ?_
    refine T_rz 10<| T_ed 2 [15] [(15,vi (IntKind.wrap .i64 (s15+1)))] ?_
    exact S_round ((q,(lN+1),n,(IntKind.wrap .i64 (s15+1))):(Option Addr)×Nat×Nat×Int) sk h
   rw[if_neg c22]at h
   refine T_cFz 42 (eq_false_of_ne_true c22)<| T_k ?_
   refine S_blockEnd ?_
   refine S_then ?_
   refine T_rz 10<| T_ed 2 [6,15,42] [(15,vi (IntKind.wrap .i64 (s15+1)))] ?_
   exact S_round ((lB,lN,lC,(IntKind.wrap .i64 (s15+1))):(Option Addr)×Nat×Nat×Int) sk h
  rw[if_neg c15]at h
  refine N_bd 29 (decide_eq_false c15)<| T_ed 13 [7,29] [(42,.bool false)]<| T_fz 42<| T_k ?_
  refine S_blockEnd ?_
  refine S_then ?_
  refine T_rz 10<| T_ed 2 [6,15,42] [(15,vi (IntKind.wrap .i64 (s15+1)))] ?_
  exact S_round ((lB,lN,lC,(IntKind.wrap .i64 (s15+1))):(Option Addr)×Nat×Nat×Int) sk h
 rw[if_neg c9]at h
 refine T_cFz 16 (decide_eq_false c9) ?_
 refine S_exit 0 (by kernel_rfl) ?_
 refine S_exitThen ?_
 refine S_exitThen ?_
 refine S_exitHere ?_
 refine S_then ?_
 refine T_srz 11<| T_n 2 [(5,vs lB lN lC),(48,vs lB lN lC),(49,.func (.func 94) #[] #[vp (pa b)])] ?_
 refine T_c (some 50) h ?_;clear h
 intro v_2 H8 h
 exact T_pd [48,49] []<| T_e<| T_srz 12<| T_nr 2 [4] [vs lB lN lC] hQ h
end seg_Mem_Taken

/-! (*moraine/seg.Mem).Free -/
namespace seg_Mem_Free
def K0:=Func.code Tryz.f23
end seg_Mem_Free
def seg_Mem_Free.pt(m:Option Addr)(H:Array Obj)(R:Value->Array Obj->Prop):Prop:=
 onPtr m (
 R (.int .i64 0) H) (λmA=>
 ∃x:Int,hat H (mA.add 2)=some (.int .i64 x)/\
 R (.int .i64 x) H)
namespace seg_Mem_Free
theorem link{m:Option Addr}{H:Array Obj}{R:Value->Array Obj->Prop}(h:pt m H R):C m H R:=by
 refine T_en K0 9 Tryz.func23 ?_
 intro w0 Q hQ
 unfold pt at h
 refine T_su [(0,vp m)]<| T_srz 0<| T_ed 1 [] []<| T_sz<| T_srz 1<| T_nd 1 [] [(3,vp m)] ?_
 rcases m with _ | mA
 ·rw[onPtr_none]at h
  exact T_ne 1 [(0,vp none),(4,.bool true)]<| T_tz 4<| T_srz 2<| T_nr 1 [2] [vi 0] hQ h
 rw[onPtr_some]at h
 refine T_ne 1 [(0,vp (some mA)),(4,.bool false)]<| T_fz 4<| T_kt<| T_srz 3<| T_n 3 [(7,vp (some (mA.add 2)))] ?_
 obtain⟨x,q1,h⟩:=h
 exact T_l1 8 3 q1 [7]<| T_nr 1 [2] [vi x] hQ h
end seg_Mem_Free

/-! (*moraine/seg.Mem).Taken.1 -/
namespace seg_Mem_Taken_1
def K0:=Func.code Tryz.f94
def K2:=cb K0
def K3:=ca K2
end seg_Mem_Taken_1
def seg_Mem_Taken_1.pt(a b:Int)(q:Option Addr)(H:Array Obj)(R:Value->Array Obj->Prop):Prop:=
 ∃d:Addr,q=some d/\
 ∃x:Option Addr,hat H d=some (.pointer x)/\
 ∃xA:Addr,x=some xA/\
 ∃(xB:Option Addr) (xN xC:Nat),hat H xA=some (.slice xB xN xC)/\
 ∃j:Addr,xB=some j/\
 ((0:Int)<=a/\a< (xN:Int))/\
 ∃l:Int,hat H ((j.add (Int.toNat a*72)).add 7)=some (.int .i64 l)/\
 ∃u:Option Addr,hat H d=some (.pointer u)/\
 ∃m:Addr,u=some m/\
 ∃(s:Option Addr) (n o:Nat),hat H m=some (.slice s n o)/\
 ∃f:Addr,s=some f/\
 ((0:Int)<=b/\b< (n:Int))/\
 ∃r:Int,hat H ((f.add (Int.toNat b*72)).add 7)=some (.int .i64 r)/\
 cmp_Compare_int.C l r H (λv H1=> ∃p:Int,v=.int .i64 p/\
 R (.int .i64 p) H1)
namespace seg_Mem_Taken_1
theorem link{a b:Int}{q:Option Addr}{H:Array Obj}{R:Value->Array Obj->Prop}(h:pt a b q H R):C a b q H R:=by
 refine T_en K0 23 Tryz.func94 ?_
 intro w0 Q hQ
 unfold pt at h
 refine T_su [(0,vi a),(1,vi b),(2,vp q)]<| T_srz 0<| T_ed 1 [] []<| T_sz ?_
 obtain⟨d,rfl,h⟩:=h
 obtain⟨x,q1,h⟩:=h
 obtain⟨xA,rfl,h⟩:=h
 obtain⟨xB,xN,xC,q2,h⟩:=h
 obtain⟨j,rfl,h⟩:=h
 obtain⟨q3,h⟩:=h
 obtain⟨l,q4,h⟩:=h
 obtain⟨u,q5,h⟩:=h
 obtain⟨m,rfl,h⟩:=h
 obtain⟨s,n,o,q6,h⟩:=h
 obtain⟨f,rfl,h⟩:=h
 obtain⟨q7,h⟩:=h
 obtain⟨r,q8,h⟩:=h
 refine S_regionG 1 (Code.ops K3) [(16,d,[vp (some xA)]),(16,xA,[vs (some j) xN xC]),(16,((j.add (Int.toNat a*72)).add 7),[vi l]),(16,d,[vp (some m)]),(16,m,[vs (some f) n o]),(16,((f.add (Int.toNat b*72)).add 7),[vi r])] 18 (bv 18 0) (by kernel_rfl) (by kernel_rfl) (by kernel_rfl) (by kernel_rfl) (by kernel_rfl) (show FactsAt _ _ _ from⟨⟨q1,trivial⟩,⟨q2,trivial⟩,⟨q4,trivial⟩,⟨q5,trivial⟩,⟨q6,trivial⟩,⟨q8,trivial⟩,trivial⟩) ?_
 refine T_g 0 (some 6) (vp (some xA)) (bv 18 1) [(0,vi a),(1,vi b),(2,vp (some d)),(6,vp (some xA))] (loadN 61 (vp (some d))) (held_one 16 (λ_=>by kernel_rfl) (List.Mem.head _) (.inl (by kernel_rfl)))<| T_gp1 1 7 (vp (some xA)) (bv 18 3) [6]<| T_gp1 2 8 (vp (some xA)) (bv 18 7) [7]<| T_g1 3 9 (vs (some j) xN xC) (bv 18 15) [8] (loadN 162 (vp (some xA))) (held_one 16 (λ_=>by kernel_rfl) (List.Mem.tail _ (List.Mem.head _)) (.inl (by kernel_rfl)))<| T_gp1 4 10 (vi a) (bv 18 31) [0]<| T_g1 5 11 (vp (some (j.add (Int.toNat a*72)))) (bv 18 63) [9,10] (indexAtN 162 (vs (some j) xN xC) (vi a)) (λ_ w _ _ _=>indexAt_run (P:=Tryz.prog) (t:=162) (elem:=168) (sz:=72) (a:=j) (len:=xN) (cap:=xC) (k:=.i64) (i:=a) Tryz.underlying162 (λ_=>by kernel_rfl) q3.1 q3.2 w)<| T_gp1 6 12 (vp (some ((j.add (Int.toNat a*72)).add 7))) (bv 18 127) [11]<| T_g1 7 13 (vi l) (bv 18 255) [12] (loadN 3 (vp (some ((j.add (Int.toNat a*72)).add 7)))) (held_one 16 (λ_=>by kernel_rfl) (List.Mem.tail _ (List.Mem.tail _ (List.Mem.head _))) (.inl (by kernel_rfl)))<| T_g1 8 14 (vp (some m)) (bv 18 511) [2] (loadN 61 (vp (some d))) (held_one 16 (λ_=>by kernel_rfl) (List.Mem.tail _ (List.Mem.tail _ (List.Mem.tail _ (List.Mem.head _)))) (.inl (by kernel_rfl))) ?_
 refine T_gp1 9 15 (vp (some m)) (bv 18 1023) [14]<| T_gp1 10 16 (vp (some m)) (bv 18 2047) [15]<| T_g1 11 17 (vs (some f) n o) (bv 18 4095) [16] (loadN 162 (vp (some m))) (held_one 16 (λ_=>by kernel_rfl) (List.Mem.tail _ (List.Mem.tail _ (List.Mem.tail _ (List.Mem.tail _ (List.Mem.head _))))) (.inl (by kernel_rfl)))<| T_gp1 12 18 (vi b) (bv 18 8191) [1]<| T_g1 13 19 (vp (some (f.add (Int.toNat b*72)))) (bv 18 16383) [17,18] (indexAtN 162 (vs (some f) n o) (vi b)) (λ_ w _ _ _=>indexAt_run (P:=Tryz.prog) (t:=162) (elem:=168) (sz:=72) (a:=f) (len:=n) (cap:=o) (k:=.i64) (i:=b) Tryz.underlying162 (λ_=>by kernel_rfl) q7.1 q7.2 w)<| T_gp1 14 20 (vp (some ((f.add (Int.toNat b*72)).add 7))) (bv 18 32767) [19]<| T_g1 15 21 (vi r) (bv 18 65535) [20] (loadN 3 (vp (some ((f.add (Int.toNat b*72)).add 7)))) (held_one 16 (λ_=>by kernel_rfl) (List.Mem.tail _ (List.Mem.tail _ (List.Mem.tail _ (List.Mem.tail _ (List.Mem.tail _ (List.Mem.head _)))))) (.inl (by kernel_rfl))) ?_
 refine G_call 16 (some 22) (bv 18 131071) 95 #[vi l,vi r] (by kernel_rfl) (λ_=>by kernel_rfl) h (by kernel_rfl) ?_;clear h
 rintro v H1 ⟨p,rfl,h⟩
 refine⟨[(22,vi p)],pk,(show FactsAt _ _ _ from⟨trivial,trivial,trivial,trivial,trivial,trivial,trivial⟩),?_⟩
 refine T_g 17 (some 5) (vi p) (bv 18 262143) [(5,vi p)] (pure (.value (vi p)):Sem Next) (λ_ _ _ _ _=>rfl) ?_
 refine G_sub [(5,vi p)] sk ?_
 refine G_end (by kernel_rfl) ?_
 refine S_then ?_
 exact T_ret [5] [vi p] hQ h
end seg_Mem_Taken_1

/-! (*moraine/seg.Mem).Give -/
namespace seg_Mem_Give
def K0:=Func.code Tryz.f175
end seg_Mem_Give
def seg_Mem_Give.pt(m:Option Addr)(d:Int)(H:Array Obj)(R:Value->Array Obj->Prop):Prop:=
 seg_Mem_at.C m d H (λv H1=> ∃x:Option Addr,v=.pointer x/\
 onPtr x (
 R (.int .i64 19) H1) (λxA=>
 (CanPuts H1 xA 0 72)/\ ∀H2,H2=hputs H1 xA (List.replicate 8 (.int .i64 0)++List.replicate 64 (.int .u64 0):List Value) 0->
 ∃mA:Addr,m=some mA/\
 ∃b:Int,hat H2 (mA.add 2)=some (.int .i64 b)/\
 (CanPuts H2 (mA.add 2) 0 1)/\ ∀H3,H3=hputs H2 (mA.add 2) [.int .i64 (IntKind.wrap .i64 (b+1))] 0->
 R (.int .i64 0) H3))
namespace seg_Mem_Give
theorem link{m:Option Addr}{d:Int}{H:Array Obj}{R:Value->Array Obj->Prop}(h:pt m d H R):C m d H R:=by
 refine T_en K0 21 Tryz.func175 ?_
 intro w0 Q hQ
 unfold pt at h
 refine T_su [(0,vp m),(1,vi d)]<| T_srz 0<| T_ed 1 [] []<| T_srz 1<| T_nd 2 [1] [(6,vp m),(7,vi d)] ?_
 refine T_c (some 8) h ?_;clear h
 rintro v H1 ⟨x,rfl,h⟩
 refine T_pd [6,7] [(8,vp x)]<| T_ed 1 [8] [(5,vp x)]<| T_sz<| T_srz 2<| T_nd 1 [] [(9,vp x)] ?_
 rcases x with _ | xA
 ·rw[onPtr_none]at h
  exact T_ed 1 [5,9] [(5,vp none),(10,.bool true)]<| T_tz 10<| T_srz 3<| T_nr 1 [4] [vi 19] hQ h
 rw[onPtr_some]at h
 refine T_ed 1 [5,9] [(5,vp (some xA)),(10,.bool false)]<| T_fz 10<| T_kt<| T_srz 4<| T_nd 3 [5,10] [(12,.agg (List.replicate 8 (vi 0)++List.replicate 64 (vu 0):List Value).toArray),(13,vp (some xA))] ?_
 obtain⟨q2,h⟩:=h
 refine N_skipop none (storeN 168 (vp (some xA)) (.agg (List.replicate 8 (vi 0)++List.replicate 64 (vu 0):List Value).toArray)) (λHz=>Hz=hputs H1 xA (List.replicate 8 (vi 0)++List.replicate 64 (vu 0):List Value) 0) (λ_=>by kernel_rfl) (by intro w hw;obtain⟨w1,g1,g2,g3⟩:=ss_store (P:=Tryz.prog) (H:=H1) (t:=168) (a:=xA) (v:=(.agg (List.replicate 8 (vi 0)++List.replicate 64 (vu 0):List Value).toArray)) (List.replicate 8 (vi 0)++List.replicate 64 (vu 0):List Value) 72 (by kernel_rfl) (by kernel_rfl) (λ_=>by kernel_rfl) (by kernel_rfl) q2 w hw;exact⟨w1,g1,g2,g3⟩) ?_
 intro H2 e1
 replace h:=h H2 e1
 refine⟨[(0,vp m)],pk,?_⟩
 refine T_e<| T_srz 5<| T_n 1 [(14,vp m)] ?_
 obtain⟨mA,rfl,h⟩:=h
 refine T_n 2 [(14,vp (some mA)),(16,vp (some (mA.add 2)))] ?_
 obtain⟨b,q3,h⟩:=h
 refine T_l1 17 3 q3 [16]<| T_n 3 [(18,vi (IntKind.wrap .i64 (b+1))),(20,vp (some (mA.add 2)))] ?_
 obtain⟨q5,h⟩:=h
 refine T_st1 3 (vi (IntKind.wrap .i64 (b+1))) q5 ?_
 intro H3 e4
 replace h:=h H3 e4
 refine⟨[],pk,?_⟩
 exact T_e<| T_srz 6<| T_nr 1 [4] [vi 0] hQ h
end seg_Mem_Give

/-! (*moraine/space.Space).Words -/
namespace space_Space_Words
def K0:=Func.code Tryz.f33
def K2:=cb K0
def K4:=cb K2
def K12:=cb K4
def K13:=ca K12
def K16:=cb K13
def K17:=ca K16
def K18:=ca K17
end space_Space_Words
def space_Space_Words.pt(s p:Option Addr)(n o:Nat)(H:Array Obj)(R:Value->Array Obj->Prop):Prop:=
 space_Space_none.C s H (λv H1=> ∃x:Bool,v=.bool x/\
 if x=true then(
 R (.int .i64 0) H1)
 else
 ∃sA:Addr,s=some sA/\
 ∃ac:Option Addr,hat H1 sA=some (.pointer ac)/\
 seg_Mem_Taken.C ac p n o H1 (λag H2=> ∃(xB:Option Addr) (xN xC:Nat),ag=.slice xB xN xC/\
 ∃(ae:Int->Int->Array Obj->Prop) (m19:Int->Int->Array Obj->Nat),ae 0 0 H2/\ ∀(d:Int) (s19:Int) (H3:Array Obj),ae d s19 H3->
 if s19< (xN:Int)then(
 ∃q:Addr,xB=some q/\
 ((0:Int)<=s19/\s19< (xN:Int))/\
 ∃y:Int,hat H3 (q.add (Int.toNat s19*1))=some (.int .i64 y)/\
 ∃ab:Option Addr,hat H3 sA=some (.pointer ab)/\
 seg_Mem_Seg.C ab y H3 (λaf H4=> ∃(u r aa l j m f:Int) (rb:Bool),af=.tuple #[.agg #[.int .i64 u,.int .i64 r,.int .i64 aa,.int .i64 l,.int .i64 j,.int .i64 m,.int .i64 f],.bool rb]/\
 ∀(b:Nat) (H5:Array Obj),b=H4.size->H5=H4.push (.cells #[.int .i64 0,.int .i64 0,.int .i64 0,.int .i64 0,.int .i64 0,.int .i64 0,.int .i64 0] 82)->
 (CanPuts H5 (ad b) 0 7)/\ ∀H6,H6=hputs H5 (ad b) [.int .i64 u,.int .i64 r,.int .i64 aa,.int .i64 l,.int .i64 j,.int .i64 m,.int .i64 f] 0->
 ∃z:Int,hat H6 ((ad b).add 2)=some (.int .i64 z)/\
 (ae (IntKind.wrap .i64 (d+z)) (IntKind.wrap .i64 (s19+1)) H6/\m19 (IntKind.wrap .i64 (d+z)) (IntKind.wrap .i64 (s19+1)) H6<m19 d s19 H3)))
 else
 R (.int .i64 d) H3))
namespace space_Space_Words
theorem link{s p:Option Addr}{n o:Nat}{H:Array Obj}{R:Value->Array Obj->Prop}(h:pt s p n o H R):C s p n o H R:=by
 refine T_en K0 38 Tryz.func33 ?_
 intro w0 Q hQ
 unfold pt at h
 refine T_su [(0,vp s),(1,vs p n o)]<| T_srz 0<| T_ed 1 [] []<| T_sz<| T_srz 1<| T_nd 1 [] [(10,vp s)] ?_
 refine T_c (some 11) h ?_;clear h
 rintro v H1 ⟨x,rfl,h⟩
 refine T_pd [10] [(11,.bool x)]<| T_e ?_
 by_cases c1:x=true
 ·rw[if_pos c1]at h
  exact T_cTz 11 c1<| T_srz 2<| T_nr 1 [4] [vi 0] hQ h
 rw[if_neg c1]at h
 refine T_cFz 11 (eq_false_of_ne_true c1)<| T_kt<| T_srz 3<| T_ed 1 [11] [(5,vi 0)]<| T_sz<| T_srz 4<| T_nd 1 [] [(12,vp s)] ?_
 obtain⟨sA,rfl,h⟩:=h
 refine T_nd 2 [0,12] [(0,vp (some sA)),(14,vp (some sA))] ?_
 obtain⟨ac,q3,h⟩:=h
 refine T_l1 15 61 q3 [14]<| T_nd 1 [1] [(16,vs p n o)] ?_
 refine T_c (some 17) h ?_;clear h
 rintro ag H2 ⟨xB,xN,xC,rfl,h⟩
 refine T_pd [15,16] [(17,vs xB xN xC)]<| T_ed 2 [] [(18,vi xN),(19,vi 0)]<| T_bz 0 ?_
 obtain⟨ae,m19,i4,i5⟩:=h
 refine S_loop (x:=K18) (σ:=Int×Int) (λs_=> [(0,vp (some sA)),(5,vi s_.1),(17,vs xB xN xC),(18,vi xN),(19,vi s_.2)]) (λs_ H=>ae s_.1 s_.2 H) (λs_ H=>m19 s_.1 s_.2 H) ((0,0):Int×Int) (by kernel_rfl) i4 sk ?_
 rintro⟨d,s19⟩ H3 i6
 have h:=i5 d s19 H3 i6
 refine T_su [(0,vp (some sA)),(5,vi d),(17,vs xB xN xC),(18,vi xN),(19,vi s19)]<| T_srz 5<| T_ed 1 [] [(20,.bool (decide (s19< (xN:Int))))]<| T_sz ?_
 by_cases c7:s19< (xN:Int)
 ·rw[if_pos c7]at h
  refine T_cTz 20 (decide_eq_true c7)<| T_kt<| T_sz<| T_bz 1<| T_srz 6<| T_ud [20] [] ?_
  obtain⟨q,rfl,h⟩:=h
  obtain⟨q9,h⟩:=h
  refine T_xd (some 21) 52 3 1 q xN xC .i64 s19 Tryz.underlying52 q9.1 q9.2 [17] [(17,vs (some q) xN xC),(21,vp (some (q.add (Int.toNat s19*1))))] ?_
  obtain⟨y,q10,h⟩:=h
  refine T_l1 22 3 q10 [21]<| T_ed 1 [22] [(7,vi y)]<| T_srz 7<| T_nd 3 [] [(26,vp (some sA))] ?_
  obtain⟨ab,q11,h⟩:=h
  refine T_l1 27 61 q11 [26]<| T_nd 1 [7] [(28,vi y)] ?_
  refine T_c (some 29) h ?_;clear h
  rintro af H4 ⟨u,r,aa,l,j,m,f,rb,rfl,h⟩
  refine T_pd [27,28] [(29,.tuple #[.agg #[vi u,vi r,vi aa,vi l,vi j,vi m,vi f],.bool rb])]<| T_nd 3 [29] [(30,.agg #[vi u,vi r,vi aa,vi l,vi j,vi m,vi f]),(31,.bool rb)]<| T_nw (some 8) (λb=>vp (pa b)) (.cells #[vi 0,vi 0,vi 0,vi 0,vi 0,vi 0,vi 0] 82) ?_
  intro b H5 e12 e13
  replace h:=h b H5 e12 e13
  refine T_pd [] [(8,vp (pa b))] ?_
  obtain⟨q15,h⟩:=h
  refine T_sta 82 [vi u,vi r,vi aa,vi l,vi j,vi m,vi f] q15 ?_
  intro H6 e14
  replace h:=h H6 e14
  refine T_pd [30] []<| T_ed 1 [31] []<| T_rz 8<| T_nd 2 [5,8] [(32,vi d),(33,vp (some ((ad b).add 2)))] ?_
  obtain⟨z,q16,h⟩:=h
  refine T_l1 34 3 q16 [33]<| T_nd 2 [32,34] [(5,vi (IntKind.wrap .i64 (d+z)))] ?_
  refine N_end (by kernel_rfl) ?_
  refine S_blockEnd ?_
  refine S_then ?_
  refine T_rz 9<| T_ed 2 [19] [(19,vi (IntKind.wrap .i64 (s19+1)))] ?_
  exact S_round (((IntKind.wrap .i64 (d+z)),(IntKind.wrap .i64 (s19+1))):Int×Int) sk h
 rw[if_neg c7]at h
 refine T_cFz 20 (decide_eq_false c7) ?_
 refine S_exit 0 (by kernel_rfl) ?_
 refine S_exitThen ?_
 refine S_exitThen ?_
 refine S_exitHere ?_
 refine S_then ?_
 exact T_srz 10<| T_nr 2 [4] [vi d] hQ h
end space_Space_Words

/-! (*moraine/space.Space).Fresh -/
namespace space_Space_Fresh
def K0:=Func.code Tryz.f107
def K2:=cb K0
def K8:=cb K2
def K9:=ca K8
def K10:=ca K9
def K12:=cb K10
def K14:=cb K12
def K17:=ca K14
def K19:=ca K17
def K21:=cb K19
def K22:=ca K21
def K25:=cb K22
def K26:=ca K25
def K27:=ca K26
end space_Space_Fresh
def space_Space_Fresh.pt(s f:Option Addr)(b d:Nat)(H:Array Obj)(R:Value->Array Obj->Prop):Prop:=
 onPtr s (
 R (.tuple #[]) H) (λsA=>
 ∃(o:Int->Array Obj->Prop) (m11:Int->Array Obj->Nat),o 0 H/\ ∀(s9:Int) (H1:Array Obj),o s9 H1->
 if s9<5 then(
 ∃(m:Int->Array Obj->Prop) (m28:Int->Array Obj->Nat),m 0 H1/\ ∀(l:Int) (H2:Array Obj),m l H2->
 if l< (b:Int)then(
 ∃j:Addr,f=some j/\
 ((0:Int)<=l/\l< (b:Int))/\
 ∃x:Int,hat H2 (j.add (Int.toNat l*1))=some (.int .i64 x)/\
 if x=s9 then(
 ((0:Int)<=s9/\s9< (5:Int))/\
 (CanPuts H2 ((sA.add 1).add (Int.toNat s9*4)) 0 4)/\ ∀H3,H3=hputs H2 ((sA.add 1).add (Int.toNat s9*4)) [.int .i64 0,.int .i64 0,.int .i64 0,.int .i64 0] 0->
 (m (IntKind.wrap .i64 (l+1)) H3/\m28 (IntKind.wrap .i64 (l+1)) H3<m28 l H2))
 else
 (m (IntKind.wrap .i64 (l+1)) H2/\m28 (IntKind.wrap .i64 (l+1)) H2<m28 l H2))
 else
 if(b:Int)=0 then(
 ((0:Int)<=s9/\s9< (5:Int))/\
 (CanPuts H2 ((sA.add 1).add (Int.toNat s9*4)) 0 4)/\ ∀H4,H4=hputs H2 ((sA.add 1).add (Int.toNat s9*4)) [.int .i64 0,.int .i64 0,.int .i64 0,.int .i64 0] 0->
 (o (IntKind.wrap .i64 (s9+1)) H4/\m11 (IntKind.wrap .i64 (s9+1)) H4<m11 s9 H1))
 else
 (o (IntKind.wrap .i64 (s9+1)) H2/\m11 (IntKind.wrap .i64 (s9+1)) H2<m11 s9 H1))
 else
 R (.tuple #[]) H1)
namespace space_Space_Fresh
theorem link{s f:Option Addr}{b d:Nat}{H:Array Obj}{R:Value->Array Obj->Prop}(h:pt s f b d H R):C s f b d H R:=by
 refine T_en K0 38 Tryz.func107 ?_
 intro w0 Q hQ
 unfold pt at h
 refine T_su [(0,vp s),(1,vs f b d)]<| T_sz<| T_srz 0<| T_nd 1 [] [(7,vp s)] ?_
 rcases s with _ | sA
 ·rw[onPtr_none]at h
  exact T_ed 1 [0,7] [(0,vp none),(8,.bool true)]<| T_tz 8<| T_ret [] [] hQ h
 rw[onPtr_some]at h
 refine T_ed 1 [0,7] [(0,vp (some sA)),(8,.bool false)]<| T_fz 8<| T_kt<| T_srz 1<| T_ed 1 [8] [(9,vi 0)]<| T_bz 0 ?_
 obtain⟨o,m11,i1,i2⟩:=h
 refine S_loop (x:=K10) (σ:=Int) (λs_=> [(0,vp (some sA)),(1,vs f b d),(9,vi s_)]) (λs_ H=>o s_ H) (λs_ H=>m11 s_ H) (0:Int) (by kernel_rfl) i1 sk ?_
 rintro s9 H1 i3
 have h:=i2 s9 H1 i3
 refine T_su [(0,vp (some sA)),(1,vs f b d),(9,vi s9)]<| T_srz 2<| T_ed 1 [] [(10,.bool (decide (s9<5)))]<| T_sz ?_
 by_cases c4:s9<5
 ·rw[if_pos c4]at h
  refine T_cTz 10 (decide_eq_true c4)<| T_kt<| T_sz<| T_bz 1<| T_srz 3<| T_ed 2 [10] [(4,vi s9)]<| T_sz<| T_srz 4<| T_ed 3 [] [(12,vs f b d),(13,vi b),(14,vi 0)] ?_
  refine T_bz 2 ?_
  obtain⟨m,m28,i6,i7⟩:=h
  refine S_loop (x:=K27) (σ:=Int) (λs_=> [(0,vp (some sA)),(1,vs f b d),(4,vi s9),(9,vi s9),(12,vs f b d),(13,vi b),(14,vi s_)]) (λs_ H=>m s_ H) (λs_ H=>m28 s_ H) (0:Int) (by kernel_rfl) i6 sk ?_
  rintro l H2 i8
  have h:=i7 l H2 i8
  refine T_su [(0,vp (some sA)),(1,vs f b d),(4,vi s9),(9,vi s9),(12,vs f b d),(13,vi b),(14,vi l)]<| T_srz 5<| T_ed 1 [] [(15,.bool (decide (l< (b:Int))))]<| T_sz ?_
  by_cases c9:l< (b:Int)
  ·rw[if_pos c9]at h
   refine T_cTz 15 (decide_eq_true c9)<| T_kt<| T_sz<| T_bz 3<| T_srz 6<| T_ud [15] [] ?_
   obtain⟨j,rfl,h⟩:=h
   obtain⟨q11,h⟩:=h
   refine T_xd (some 16) 52 3 1 j b d .i64 l Tryz.underlying52 q11.1 q11.2 [1,12] [(1,vs (some j) b d),(12,vs (some j) b d),(16,vp (some (j.add (Int.toNat l*1))))] ?_
   obtain⟨x,q12,h⟩:=h
   refine T_l1 17 3 q12 [16]<| T_ed 1 [17] [(6,vi x)]<| T_srz 7<| T_ed 3 [6] [(20,.bool (x==s9))] ?_
   by_cases c13:x=s9
   ·rw[if_pos c13]at h
    refine T_cTz 20 (beq_iff_eq.mpr c13)<| T_rz 8<| T_nd 5 [20] [(22,vi s9),(23,.agg #[vi 0,vi 0,vi 0,vi 0]),(25,vp (some (sA.add 1)))] ?_
    obtain⟨q15,h⟩:=h
    refine T_v1 26 (indexAtN 63 (vp (some (sA.add 1))) (vi s9)) (vp (some ((sA.add 1).add (Int.toNat s9*4)))) (λw _=>indexArr_run (P:=Tryz.prog) (t:=63) (elem:=62) (sz:=4) (n:=5) (a:=(sA.add 1)) (k:=.i64) (i:=s9) Tryz.underlying63 (λ_=>by kernel_rfl) q15.1 q15.2 w) [22,25] ?_
    obtain⟨q17,h⟩:=h
    refine T_sta 62 [vi 0,vi 0,vi 0,vi 0] q17 ?_
    intro H3 e16
    replace h:=h H3 e16
    refine T_pd [23,26] [] ?_
    refine N_end (by kernel_rfl) ?_
    refine S_blockEnd ?_
    refine S_then ?_
    refine T_rz 9<| T_ed 2 [14] [(14,vi (IntKind.wrap .i64 (l+1)))] ?_
    exact S_round ((IntKind.wrap .i64 (l+1)):Int) sk h
   rw[if_neg c13]at h
   refine T_cFz 20 (beq_eq_false_iff_ne.mpr c13)<| T_k ?_
   refine S_blockEnd ?_
   refine S_then ?_
   refine T_rz 9<| T_ed 2 [14,20] [(14,vi (IntKind.wrap .i64 (l+1)))] ?_
   exact S_round ((IntKind.wrap .i64 (l+1)):Int) sk h
  rw[if_neg c9]at h
  refine T_cFz 15 (decide_eq_false c9) ?_
  refine S_exit 2 (by kernel_rfl) ?_
  refine S_exitThen ?_
  refine S_exitThen ?_
  refine S_exitHere ?_
  refine S_then ?_
  refine T_srz 10<| T_ed 3 [12,13,14,15] [(30,.bool ((b:Int)==0))] ?_
  by_cases c18:(b:Int)=0
  ·rw[if_pos c18]at h
   refine T_cTz 30 (beq_iff_eq.mpr c18)<| T_rz 11<| T_nd 5 [4,30] [(32,vi s9),(33,.agg #[vi 0,vi 0,vi 0,vi 0]),(35,vp (some (sA.add 1)))] ?_
   obtain⟨q20,h⟩:=h
   refine T_v1 36 (indexAtN 63 (vp (some (sA.add 1))) (vi s9)) (vp (some ((sA.add 1).add (Int.toNat s9*4)))) (λw _=>indexArr_run (P:=Tryz.prog) (t:=63) (elem:=62) (sz:=4) (n:=5) (a:=(sA.add 1)) (k:=.i64) (i:=s9) Tryz.underlying63 (λ_=>by kernel_rfl) q20.1 q20.2 w) [32,35] ?_
   obtain⟨q22,h⟩:=h
   refine T_sta 62 [vi 0,vi 0,vi 0,vi 0] q22 ?_
   intro H4 e21
   replace h:=h H4 e21
   refine T_pd [33,36] [] ?_
   refine N_end (by kernel_rfl) ?_
   refine S_blockEnd ?_
   refine S_then ?_
   refine T_rz 12<| T_ed 2 [9] [(9,vi (IntKind.wrap .i64 (s9+1)))] ?_
   exact S_round ((IntKind.wrap .i64 (s9+1)):Int) sk h
  rw[if_neg c18]at h
  refine T_cFz 30 (beq_eq_false_iff_ne.mpr c18)<| T_k ?_
  refine S_blockEnd ?_
  refine S_then ?_
  refine T_rz 12<| T_ed 2 [4,9,30] [(9,vi (IntKind.wrap .i64 (s9+1)))] ?_
  exact S_round ((IntKind.wrap .i64 (s9+1)):Int) sk h
 rw[if_neg c4]at h
 refine T_cFz 10 (decide_eq_false c4) ?_
 refine S_exit 0 (by kernel_rfl) ?_
 refine S_exitThen ?_
 refine S_exitThen ?_
 refine S_exitHere ?_
 exact S_doneN (fn:=Tryz.f107) [] hQ (show ResOK _ _ _ [] _ from .nil) h
end space_Space_Fresh

/-! (*moraine/space.Space).Give -/
namespace space_Space_Give
def K0:=Func.code Tryz.f118
def K2:=cb K0
def K4:=cb K2
def K11:=ca K4
def K14:=cb K11
def K16:=cb K14
def K17:=ca K16
end space_Space_Give
def space_Space_Give.pt(s:Option Addr)(d:Int)(H:Array Obj)(R:Value->Array Obj->Prop):Prop:=
 space_Space_none.C s H (λv H1=> ∃x:Bool,v=.bool x/\
 if x=true then(
 R (.int .i64 19) H1)
 else
 ∃sA:Addr,s=some sA/\
 ∃ah:Option Addr,hat H1 sA=some (.pointer ah)/\
 seg_Mem_Seg.C ah d H1 (λam H2=> ∃(u q ac l j m f:Int) (rb:Bool),am=.tuple #[.agg #[.int .i64 u,.int .i64 q,.int .i64 ac,.int .i64 l,.int .i64 j,.int .i64 m,.int .i64 f],.bool rb]/\
 ∀(b:Nat) (H3:Array Obj),b=H2.size->H3=H2.push (.cells #[.int .i64 0,.int .i64 0,.int .i64 0,.int .i64 0,.int .i64 0,.int .i64 0,.int .i64 0] 82)->
 (CanPuts H3 (ad b) 0 7)/\ ∀H4,H4=hputs H3 (ad b) [.int .i64 u,.int .i64 q,.int .i64 ac,.int .i64 l,.int .i64 j,.int .i64 m,.int .i64 f] 0->
 if rb=true then(
 ∃p:Int,hat H4 (ad b)=some (.int .i64 p)/\
 ∃z:Int,hat H4 ((ad b).add 1)=some (.int .i64 z)/\
 ((0:Int)<=p/\p< (5:Int))/\
 ((0:Int)<=z/\z< (4:Int))/\
 ∃y:Int,hat H4 (((sA.add 1).add (Int.toNat p*4)).add (Int.toNat z*1))=some (.int .i64 y)/\
 if y=(IntKind.wrap .i64 (d+1))then(
 ∃o:Int,hat H4 (ad b)=some (.int .i64 o)/\
 ∃r:Int,hat H4 ((ad b).add 1)=some (.int .i64 r)/\
 ((0:Int)<=o/\o< (5:Int))/\
 ((0:Int)<=r/\r< (4:Int))/\
 (CanPuts H4 (((sA.add 1).add (Int.toNat o*4)).add (Int.toNat r*1)) 0 1)/\ ∀H5,H5=hputs H4 (((sA.add 1).add (Int.toNat o*4)).add (Int.toNat r*1)) [.int .i64 0] 0->
 ∃ag:Option Addr,hat H5 sA=some (.pointer ag)/\
 seg_Mem_Give.C ag d H5 (λak H6=> ∃ai:Int,ak=.int .i64 ai/\
 R (.int .i64 ai) H6))
 else
 ∃ab:Option Addr,hat H4 sA=some (.pointer ab)/\
 seg_Mem_Give.C ab d H4 (λal H7=> ∃af:Int,al=.int .i64 af/\
 R (.int .i64 af) H7))
 else
 ∃aa:Option Addr,hat H4 sA=some (.pointer aa)/\
 seg_Mem_Give.C aa d H4 (λaj H8=> ∃ae:Int,aj=.int .i64 ae/\
 R (.int .i64 ae) H8)))
namespace space_Space_Give
theorem link{s:Option Addr}{d:Int}{H:Array Obj}{R:Value->Array Obj->Prop}(h:pt s d H R):C s d H R:=by
 refine T_en K0 49 Tryz.func118 ?_
 intro w0 Q hQ
 unfold pt at h
 refine T_su [(0,vp s),(1,vi d)]<| T_srz 0<| T_ed 1 [] []<| T_sz<| T_srz 1<| T_nd 1 [] [(7,vp s)] ?_
 refine T_c (some 8) h ?_;clear h
 rintro v H1 ⟨x,rfl,h⟩
 refine T_pd [7] [(8,.bool x)]<| T_e ?_
 by_cases c1:x=true
 ·rw[if_pos c1]at h
  exact T_cTz 8 c1<| T_srz 2<| T_nr 1 [4] [vi 19] hQ h
 rw[if_neg c1]at h
 refine T_cFz 8 (eq_false_of_ne_true c1)<| T_kt<| T_sz<| T_srz 3<| T_nd 1 [8] [(10,vp s)] ?_
 obtain⟨sA,rfl,h⟩:=h
 refine T_nd 2 [0,10] [(0,vp (some sA)),(12,vp (some sA))] ?_
 obtain⟨ah,q3,h⟩:=h
 refine T_l1 13 61 q3 [12]<| T_nd 1 [] [(14,vi d)] ?_
 refine T_c (some 15) h ?_;clear h
 rintro am H2 ⟨u,q,ac,l,j,m,f,rb,rfl,h⟩
 refine T_pd [13,14] [(15,.tuple #[.agg #[vi u,vi q,vi ac,vi l,vi j,vi m,vi f],.bool rb])]<| T_nd 3 [15] [(16,.agg #[vi u,vi q,vi ac,vi l,vi j,vi m,vi f]),(17,.bool rb)]<| T_nw (some 5) (λb=>vp (pa b)) (.cells #[vi 0,vi 0,vi 0,vi 0,vi 0,vi 0,vi 0] 82) ?_
 intro b H3 e4 e5
 replace h:=h b H3 e4 e5
 refine T_pd [] [(5,vp (pa b))] ?_
 obtain⟨q7,h⟩:=h
 refine T_sta 82 [vi u,vi q,vi ac,vi l,vi j,vi m,vi f] q7 ?_
 intro H4 e6
 replace h:=h H4 e6
 refine T_pd [16] []<| T_ed 1 [17] [(6,.bool rb)]<| T_sz<| T_rqz 4<| T_q1 18 (.bool rb) [6]<| T_q1 19 (.bool rb) [18] ?_
 by_cases c8:rb=true
 ·rw[if_pos c8]at h
  refine Q_bd 19 c8<| T_q1 20 (vp (some sA)) []<| T_q1 21 (vp (pa b)) [] ?_
  obtain⟨p,q10,h⟩:=h
  refine T_qld (some 22) 3 q10 [21] [(22,vi p)]<| T_q1 23 (vp (some ((ad b).add 1))) [] ?_
  obtain⟨z,q11,h⟩:=h
  refine T_qld (some 24) 3 q11 [23] [(24,vi z)]<| T_q1 25 (vp (some sA)) [20]<| T_q1 26 (vp (some (sA.add 1))) [25] ?_
  obtain⟨q12,h⟩:=h
  refine Q_op (some 27) (indexAtN 63 (vp (some (sA.add 1))) (vi p)) (vp (some ((sA.add 1).add (Int.toNat p*4)))) (λ_=>by kernel_rfl) (λw _=>indexArr_run (P:=Tryz.prog) (t:=63) (elem:=62) (sz:=4) (n:=5) (a:=(sA.add 1)) (k:=.i64) (i:=p) Tryz.underlying63 (λ_=>by kernel_rfl) q12.1 q12.2 w) [(0,vp (some sA)),(1,vi d),(5,vp (pa b)),(19,.bool true),(24,vi z),(27,vp (some ((sA.add 1).add (Int.toNat p*4))))] pk ?_
  obtain⟨q13,h⟩:=h
  refine Q_op (some 28) (indexAtN 62 (vp (some ((sA.add 1).add (Int.toNat p*4)))) (vi z)) (vp (some (((sA.add 1).add (Int.toNat p*4)).add (Int.toNat z*1)))) (λ_=>by kernel_rfl) (λw _=>indexArr_run (P:=Tryz.prog) (t:=62) (elem:=3) (sz:=1) (n:=4) (a:=((sA.add 1).add (Int.toNat p*4))) (k:=.i64) (i:=z) Tryz.underlying62 (λ_=>by kernel_rfl) q13.1 q13.2 w) [(0,vp (some sA)),(1,vi d),(5,vp (pa b)),(19,.bool true),(28,vp (some (((sA.add 1).add (Int.toNat p*4)).add (Int.toNat z*1))))] pk ?_
  obtain⟨y,q14,h⟩:=h
  refine T_ql (some 29) 3 q14 [(0,vp (some sA)),(1,vi d),(5,vp (pa b)),(19,.bool true),(29,vi y)]<| T_q1 30 (vi d) []<| T_q1 31 (vi (IntKind.wrap .i64 (d+1))) [30]<| T_q1 32 (.bool (y==(IntKind.wrap .i64 (d+1)))) [29,31]<| T_q1 33 (.bool (y==(IntKind.wrap .i64 (d+1)))) [19,32] ?_
  refine Q_sub [(0,vp (some sA)),(1,vi d),(5,vp (pa b)),(33,.bool (y==(IntKind.wrap .i64 (d+1))))] sk ?_
  refine T_qe ?_
  by_cases c15:y=(IntKind.wrap .i64 (d+1))
  ·rw[if_pos c15]at h
   refine T_cTz 33 (beq_iff_eq.mpr c15) ?_
   obtain⟨o,q17,h⟩:=h
   obtain⟨r,q18,h⟩:=h
   obtain⟨q19,h⟩:=h
   obtain⟨q20,h⟩:=h
   refine S_regionG 5 (Code.ops K17) [(9,(ad b),[vi o]),(9,((ad b).add 1),[vi r])] 10 (bv 10 0) (by kernel_rfl) (by kernel_rfl) (by kernel_rfl) (by kernel_rfl) (by kernel_rfl) (show FactsAt _ _ _ from⟨⟨q17,trivial⟩,⟨q18,trivial⟩,trivial⟩) ?_
   refine T_gp 0 (some 34) (vp (some sA)) (bv 10 1) [(0,vp (some sA)),(1,vi d),(5,vp (pa b)),(34,vp (some sA))]<| T_gp1 1 35 (vp (pa b)) (bv 10 3) []<| T_g1 2 36 (vi o) (bv 10 7) [35] (loadN 3 (vp (pa b))) (held_one 9 (λ_=>by kernel_rfl) (List.Mem.head _) (.inl (by kernel_rfl)))<| T_gp1 3 37 (vp (some ((ad b).add 1))) (bv 10 15) [5]<| T_g1 4 38 (vi r) (bv 10 31) [37] (loadN 3 (vp (some ((ad b).add 1)))) (held_one 9 (λ_=>by kernel_rfl) (List.Mem.tail _ (List.Mem.head _)) (.inl (by kernel_rfl)))<| T_gp1 5 39 (vp (some sA)) (bv 10 63) [34]<| T_gp1 6 40 (vp (some (sA.add 1))) (bv 10 127) [39]<| T_g1 7 41 (vp (some ((sA.add 1).add (Int.toNat o*4)))) (bv 10 255) [36,40] (indexAtN 63 (vp (some (sA.add 1))) (vi o)) (λ_ w _ _ _=>indexArr_run (P:=Tryz.prog) (t:=63) (elem:=62) (sz:=4) (n:=5) (a:=(sA.add 1)) (k:=.i64) (i:=o) Tryz.underlying63 (λ_=>by kernel_rfl) q19.1 q19.2 w)<| T_g1 8 42 (vp (some (((sA.add 1).add (Int.toNat o*4)).add (Int.toNat r*1)))) (bv 10 511) [38,41] (indexAtN 62 (vp (some ((sA.add 1).add (Int.toNat o*4)))) (vi r)) (λ_ w _ _ _=>indexArr_run (P:=Tryz.prog) (t:=62) (elem:=3) (sz:=1) (n:=4) (a:=((sA.add 1).add (Int.toNat o*4))) (k:=.i64) (i:=r) Tryz.underlying62 (λ_=>by kernel_rfl) q20.1 q20.2 w) ?_
   obtain⟨q22,h⟩:=h
   refine G_onlyskip 9 none (bv 10 1023) (storeN 3 (vp (some (((sA.add 1).add (Int.toNat o*4)).add (Int.toNat r*1)))) (vi 0)) (λHz=>Hz=hputs H4 (((sA.add 1).add (Int.toNat o*4)).add (Int.toNat r*1)) [vi 0] 0) (by kernel_rfl) (λ_=>by kernel_rfl) (ss_store [vi 0] 1 (by kernel_rfl) (by kernel_rfl) (λ_=>by kernel_rfl) (by kernel_rfl) q22) (by kernel_rfl) ?_
   intro H5 e21
   replace h:=h H5 e21
   refine⟨[(0,vp (some sA)),(1,vi d)],pk,(show FactsAt _ _ _ from⟨trivial,trivial,trivial⟩),?_⟩
   refine G_sub [(0,vp (some sA)),(1,vi d)] sk ?_
   refine G_end (by kernel_rfl) ?_
   refine S_then ?_
   refine T_srz 6<| T_n 3 [(1,vi d),(45,vp (some sA))] ?_
   obtain⟨ag,q23,h⟩:=h
   refine T_l1 46 61 q23 [45]<| T_nd 1 [1] [(47,vi d)] ?_
   refine T_c (some 48) h ?_;clear h
   rintro ak H6 ⟨ai,rfl,h⟩
   refine⟨[(48,vi ai)],pk,?_⟩
   exact T_nr 1 [4] [vi ai] hQ h
  rw[if_neg c15]at h
  refine T_cFz 33 (beq_eq_false_iff_ne.mpr c15)<| T_kt<| T_srz 6<| T_n 3 [(1,vi d),(45,vp (some sA))] ?_
  obtain⟨ab,q24,h⟩:=h
  refine T_l1 46 61 q24 [45]<| T_nd 1 [1] [(47,vi d)] ?_
  refine T_c (some 48) h ?_;clear h
  rintro al H7 ⟨af,rfl,h⟩
  refine⟨[(48,vi af)],pk,?_⟩
  exact T_nr 1 [4] [vi af] hQ h
 rw[if_neg c8]at h
 refine Q_bd 19 (eq_false_of_ne_true c8)<| T_q1 20 (undef) []<| T_q1 21 (undef) []<| T_q1 22 (undef) [21]<| T_q1 23 (undef) []<| T_q1 24 (undef) [23]<| T_q1 25 (undef) [20]<| T_q1 26 (undef) [25]<| T_q1 27 (undef) [22,26] ?_
 refine T_q1 28 (undef) [24,27]<| T_q1 29 (undef) [28]<| T_q1 30 (undef) []<| T_q1 31 (undef) [30]<| T_q1 32 (undef) [29,31]<| T_q1 33 (.bool false) [19,32] ?_
 refine Q_sub [(0,vp (some sA)),(1,vi d),(5,vp (pa b)),(33,.bool false)] sk ?_
 refine T_qe<| T_fz 33<| T_kt<| T_srz 6<| T_n 3 [(1,vi d),(45,vp (some sA))] ?_
 obtain⟨aa,q25,h⟩:=h
 refine T_l1 46 61 q25 [45]<| T_nd 1 [1] [(47,vi d)] ?_
 refine T_c (some 48) h ?_;clear h
 rintro aj H8 ⟨ae,rfl,h⟩
 refine⟨[(48,vi ae)],pk,?_⟩
 exact T_nr 1 [4] [vi ae] hQ h
end space_Space_Give

/-! cmp.Compare[int] -/
namespace cmp_Compare_int
def K0:=Func.code Tryz.f95
end cmp_Compare_int
def cmp_Compare_int.pt(x y:Int)(H:Array Obj)(R:Value->Array Obj->Prop):Prop:=
 cmp_isNaN_int.C x H (λv H1=> ∃b:Bool,v=.bool b/\
 cmp_isNaN_int.C y H1 (λd H2=> ∃a:Bool,d=.bool a/\
 if b=true then(
 if a=true then(
 R (.int .i64 0) H2)
 else
 R (.int .i64 (-1)) H2)
 else
 if a=true then(
 R (.int .i64 1) H2)
 else
 if x<y then(
 R (.int .i64 (-1)) H2)
 else
 if x>y then(
 R (.int .i64 1) H2)
 else
 R (.int .i64 0) H2))
namespace cmp_Compare_int
theorem link{x y:Int}{H:Array Obj}{R:Value->Array Obj->Prop}(h:pt x y H R):C x y H R:=by
 refine T_en K0 20 Tryz.func95 ?_
 intro w0 Q hQ
 unfold pt at h
 refine T_su [(0,vi x),(1,vi y)]<| T_srz 0<| T_ed 1 [] []<| T_srz 1<| T_nd 1 [] [(7,vi x)] ?_
 refine T_c (some 8) h ?_;clear h
 rintro v H1 ⟨b,rfl,h⟩
 refine T_pd [7] [(8,.bool b)]<| T_ed 1 [8] [(5,.bool b)]<| T_srz 2<| T_nd 1 [] [(9,vi y)] ?_
 refine T_c (some 10) h ?_;clear h
 rintro d H2 ⟨a,rfl,h⟩
 refine T_pd [9] [(10,.bool a)]<| T_ed 1 [10] [(6,.bool a)]<| T_sz<| T_srz 3<| T_ed 1 [5] [(11,.bool b)] ?_
 by_cases c1:b=true
 ·rw[if_pos c1]at h
  refine T_cTz 11 c1<| T_sz<| T_srz 4<| T_ne 1 [(12,.bool a)] ?_
  by_cases c3:a=true
  ·rw[if_pos c3]at h
   exact T_cTz 12 c3<| T_srz 5<| T_nr 1 [4] [vi 0] hQ h
  rw[if_neg c3]at h
  exact T_cFz 12 (eq_false_of_ne_true c3)<| T_kt<| T_srz 6<| T_nr 1 [4] [vi (-1)] hQ h
 rw[if_neg c1]at h
 refine T_cFz 11 (eq_false_of_ne_true c1)<| T_kt<| T_sz<| T_srz 7<| T_ed 1 [6,11] [(13,.bool a)] ?_
 by_cases c5:a=true
 ·rw[if_pos c5]at h
  exact T_cTz 13 c5<| T_srz 8<| T_nr 1 [4] [vi 1] hQ h
 rw[if_neg c5]at h
 refine T_cFz 13 (eq_false_of_ne_true c5)<| T_kt<| T_sz<| T_srz 9<| T_ed 3 [13] [(16,.bool (decide (x<y)))] ?_
 by_cases c7:x<y
 ·rw[if_pos c7]at h
  exact T_cTz 16 (decide_eq_true c7)<| T_srz 10<| T_nr 1 [4] [vi (-1)] hQ h
 rw[if_neg c7]at h
 refine T_cFz 16 (decide_eq_false c7)<| T_kt<| T_sz<| T_srz 11<| T_ne 3 [(19,.bool (decide (x>y)))] ?_
 by_cases c9:x>y
 ·rw[if_pos c9]at h
  exact T_cTz 19 (decide_eq_true c9)<| T_srz 12<| T_nr 1 [4] [vi 1] hQ h
 rw[if_neg c9]at h
 exact T_cFz 19 (decide_eq_false c9)<| T_kt<| T_srz 13<| T_nr 1 [4] [vi 0] hQ h
end cmp_Compare_int

/-! cmp.isNaN[int] -/
namespace cmp_isNaN_int
def K0:=Func.code Tryz.f166
end cmp_isNaN_int
def cmp_isNaN_int.pt(x:Int)(H:Array Obj)(R:Value->Array Obj->Prop):Prop:=
 R (.bool (x !=x)) H
namespace cmp_isNaN_int
theorem link{x:Int}{H:Array Obj}{R:Value->Array Obj->Prop}(h:pt x H R):C x H R:=by
 refine T_en K0 6 Tryz.func166 ?_
 intro w0 Q hQ
 unfold pt at h
 exact T_su [(0,vi x)]<| T_srz 0<| T_ed 1 [] []<| T_srz 1<| T_nr 4 [2] [.bool (x !=x)] hQ h
end cmp_isNaN_int

/-! slices.Contains[[]int,int] -/
namespace slices_Contains_int_int
def K0:=Func.code Tryz.f92
end slices_Contains_int_int
def slices_Contains_int_int.pt(sB:Option Addr)(sN sC:Nat)(v:Int)(H:Array Obj)(R:Value->Array Obj->Prop):Prop:=
 slices_Index_int_int.C sB sN sC v H (λa H1=> ∃x:Int,a=.int .i64 x/\
 R (.bool (decide (x>=0))) H1)
namespace slices_Contains_int_int
theorem link{sB:Option Addr}{sN sC:Nat}{v:Int}{H:Array Obj}{R:Value->Array Obj->Prop}(h:pt sB sN sC v H R):C sB sN sC v H R:=by
 refine T_en K0 9 Tryz.func92 ?_
 intro w0 Q hQ
 unfold pt at h
 refine T_su [(0,vs sB sN sC),(1,vi v)]<| T_srz 0<| T_ed 1 [] []<| T_srz 1<| T_n 2 [(5,vs sB sN sC),(6,vi v)] ?_
 refine T_c (some 7) h ?_;clear h
 rintro a H1 ⟨x,rfl,h⟩
 refine⟨[(7,vi x)],pk,?_⟩
 exact T_nr 2 [4] [.bool (decide (x>=0))] hQ h
end slices_Contains_int_int

/-! slices.Index[[]int,int] -/
namespace slices_Index_int_int
def K0:=Func.code Tryz.f163
def K2:=cb K0
def K3:=ca K2
def K6:=cb K3
def K7:=ca K6
def K8:=ca K7
end slices_Index_int_int
def slices_Index_int_int.pt(sB:Option Addr)(sN sC:Nat)(v:Int)(H:Array Obj)(R:Value->Array Obj->Prop):Prop:=
 ∃(I9:Int->Array Obj->Prop) (m9:Int->Array Obj->Nat),I9 0 H/\ ∀(s8:Int) (H1:Array Obj),I9 s8 H1->
 if s8< (sN:Int)then(
 ∃b:Addr,sB=some b/\
 ((0:Int)<=s8/\s8< (sN:Int))/\
 ∃x:Int,hat H1 (b.add (Int.toNat s8*1))=some (.int .i64 x)/\
 if v=x then(
 R (.int .i64 s8) H1)
 else
 (I9 (IntKind.wrap .i64 (s8+1)) H1/\m9 (IntKind.wrap .i64 (s8+1)) H1<m9 s8 H1))
 else
 R (.int .i64 (-1)) H1
namespace slices_Index_int_int
theorem link{sB:Option Addr}{sN sC:Nat}{v:Int}{H:Array Obj}{R:Value->Array Obj->Prop}(h:pt sB sN sC v H R):C sB sN sC v H R:=by
 refine T_en K0 19 Tryz.func163 ?_
 intro w0 Q hQ
 unfold pt at h
 refine T_su [(0,vs sB sN sC),(1,vi v)]<| T_srz 0<| T_ed 1 [] []<| T_sz<| T_srz 1<| T_ed 3 [] [(7,vi sN),(8,vi 0)]<| T_bz 0 ?_
 obtain⟨I9,m9,i1,i2⟩:=h
 refine S_loop (x:=K8) (σ:=Int) (λs_=> [(0,vs sB sN sC),(1,vi v),(7,vi sN),(8,vi s_)]) (λs_ H=>I9 s_ H) (λs_ H=>m9 s_ H) (0:Int) (by kernel_rfl) i1 sk ?_
 rintro s8 H1 i3
 have h:=i2 s8 H1 i3
 refine T_su [(0,vs sB sN sC),(1,vi v),(7,vi sN),(8,vi s8)]<| T_srz 2<| T_ed 1 [] [(9,.bool (decide (s8< (sN:Int))))]<| T_sz ?_
 by_cases c4:s8< (sN:Int)
 ·rw[if_pos c4]at h
  refine T_cTz 9 (decide_eq_true c4)<| T_kt<| T_sz<| T_bz 1<| T_srz 3<| T_ed 2 [9] [(5,vi s8)]<| T_srz 4<| T_nd 3 [] [(11,vi v),(12,vs sB sN sC),(13,vi s8)] ?_
  obtain⟨b,rfl,h⟩:=h
  obtain⟨q6,h⟩:=h
  refine T_xd (some 14) 52 3 1 b sN sC .i64 s8 Tryz.underlying52 q6.1 q6.2 [0,12,13] [(0,vs (some b) sN sC),(14,vp (some (b.add (Int.toNat s8*1))))] ?_
  obtain⟨x,q7,h⟩:=h
  refine T_l1 15 3 q7 [14]<| T_ed 1 [11,15] [(16,.bool (v==x))] ?_
  by_cases c8:v=x
  ·rw[if_pos c8]at h
   exact T_cTz 16 (beq_iff_eq.mpr c8)<| T_srz 5<| T_nr 2 [4] [vi s8] hQ h
  rw[if_neg c8]at h
  refine T_cFz 16 (beq_eq_false_iff_ne.mpr c8)<| T_k ?_
  refine S_blockEnd ?_
  refine S_then ?_
  refine T_rz 6<| T_ed 2 [5,8,16] [(8,vi (IntKind.wrap .i64 (s8+1)))] ?_
  exact S_round ((IntKind.wrap .i64 (s8+1)):Int) sk h
 rw[if_neg c4]at h
 refine T_cFz 9 (decide_eq_false c4) ?_
 refine S_exit 0 (by kernel_rfl) ?_
 refine S_exitThen ?_
 refine S_exitThen ?_
 refine S_exitHere ?_
 refine S_then ?_
 exact T_srz 7<| T_nr 1 [4] [vi (-1)] hQ h
end slices_Index_int_int

/-! (*moraine/obj.Heap).Next -/
namespace obj_Heap_Next
def K0:=Func.code Tryz.f16
end obj_Heap_Next
def obj_Heap_Next.pt(hv:Option Addr)(H:Array Obj)(R:Value->Array Obj->Prop):Prop:=
 obj_Heap_none.C hv H (λv H1=> ∃x:Bool,v=.bool x/\
 if x=true then(
 R (.tuple #[]) H1)
 else
 ∃a:Addr,hv=some a/\
 ∃b:Int,hat H1 (a.add 3)=some (.int .u64 b)/\
 (CanPuts H1 (a.add 3) 0 1)/\ ∀H2,H2=hputs H1 (a.add 3) [.int .u64 (IntKind.wrap .u64 (b+1))] 0->
 R (.tuple #[]) H2)
namespace obj_Heap_Next
set_option maxRecDepth 100000 in
theorem link{hv:Option Addr}{H:Array Obj}{R:Value->Array Obj->Prop}(h:pt hv H R):C hv H R:=by
 refine T_en K0 12 Tryz.func16 ?_
 intro w0 Q hQ
 unfold pt at h
 refine T_su [(0,vp hv)]<| T_srz 0<| T_nd 1 [] [(2,vp hv)] ?_
 refine T_c (some 3) h ?_;clear h
 rintro v H1 ⟨x,rfl,h⟩
 refine T_pd [2] [(3,.bool x)]<| T_ed 1 [3] [(4,.bool (!x))] ?_
 by_cases c1:x=true
 ·rw[if_pos c1]at h
  refine T_cFz 4 (congrArg Bool.not (c1))<| T_k ?_
  exact S_doneN (fn:=Tryz.f16) [] hQ (show ResOK _ _ _ [] _ from .nil) h
 rw[if_neg c1]at h
 refine T_cTz 4 (congrArg Bool.not (eq_false_of_ne_true c1))<| T_rz 1<| T_n 1 [(5,vp hv)] ?_
 obtain⟨a,rfl,h⟩:=h
 refine T_n 2 [(5,vp (some a)),(7,vp (some (a.add 3)))] ?_
 obtain⟨b,q3,h⟩:=h
 refine T_l1 8 35 q3 [7]<| T_n 3 [(9,vu (IntKind.wrap .u64 (b+1))),(11,vp (some (a.add 3)))] ?_
 obtain⟨q5,h⟩:=h
 refine T_st1 35 (vu (IntKind.wrap .u64 (b+1))) q5 ?_
 intro H2 e4
 replace h:=h H2 e4
 refine⟨[],pk,?_⟩
 refine N_end (by kernel_rfl) ?_
 exact S_doneN (fn:=Tryz.f16) [] hQ (show ResOK _ _ _ [] _ from .nil) h
end obj_Heap_Next

/-! (*moraine/morainelaw11.walk).put -/
namespace morainelaw11_walk_put
def K0:=Func.code Tryz.f105
end morainelaw11_walk_put
def morainelaw11_walk_put.pt(x:Option Addr)(ac:Int)(l:Option Addr)(m n:Nat)(ah:Option Addr)(af ag:Nat)(wv:Int)(H:Array Obj)(R:Value->Array Obj->Prop):Prop:=
 ∀(b:Nat) (H1:Array Obj),b=H.size->H1=H.push (.cells #[.int .i64 ac,.slice l m n,.slice ah af ag] 182)->
 ∀(a:Nat) (H2:Array Obj),a=H1.size->H2=H1.push (.cells #[.int .i64 0,.slice none 0 0,.slice none 0 0] 182)->
 morainelaw11_walk_of.C x wv H2 (λv H3=> ∃d:Int,v=.int .i64 d/\
 ∃J:Int->Array Obj->Prop,(
 if d>0 then(
 J 0 H3)
 else
 J wv H3)/\ ∀(q:Int) (H4:Array Obj),J q H4->
 ∃(xB:Option Addr) (xN xC:Nat),hat H4 ((ad b).add 1)=some (.slice xB xN xC)/\
 ∀(am:Nat) (H5:Array Obj),am=H4.size->H5=H4.push (.cells #[.int .u64 q] 36)->
 appendK 1 36 8 [.int .u64 0] xB xN xC (some (ad am)) 1 H5 (λap aj H6=>
 (CanPuts H6 ((ad b).add 1) 0 1)/\ ∀H7,H7=hputs H6 ((ad b).add 1) [.slice ap (xN+1) aj] 0->
 ∃(y:Option Addr) (k u:Nat),hat H7 ((ad b).add 2)=some (.slice y k u)/\
 ∀(al:Nat) (H8:Array Obj),al=H7.size->H8=H7.push (.cells #[.int .i64 d] 3)->
 appendK 1 3 8 [.int .i64 0] y k u (some (ad al)) 1 H8 (λae p H9=>
 (CanPuts H9 ((ad b).add 2) 0 1)/\ ∀ak,ak=hputs H9 ((ad b).add 2) [.slice ae (k+1) p] 0->
 ∃(o:Int) (i:Option Addr) (f j:Nat) (s:Option Addr) (r t:Nat),RowAt ak (ad b) 0 [.int .i64 o,.slice i f j,.slice s r t]/\
 (CanPuts ak (ad a) 0 3)/\ ∀au,au=hputs ak (ad a) [.int .i64 o,.slice i f j,.slice s r t] 0->
 ∃(ai:Int) (z:Option Addr) (aa ab:Nat) (aq:Option Addr) (an ao:Nat),RowAt au (ad a) 0 [.int .i64 ai,.slice z aa ab,.slice aq an ao]/\
 R (.agg #[.int .i64 ai,.slice z aa ab,.slice aq an ao]) au)))
namespace morainelaw11_walk_put
theorem link{x:Option Addr}{ac:Int}{l:Option Addr}{m n:Nat}{ah:Option Addr}{af ag:Nat}{wv:Int}{H:Array Obj}{R:Value->Array Obj->Prop}(h:pt x ac l m n ah af ag wv H R):C x ac l m n ah af ag wv H R:=by
 refine T_en K0 26 Tryz.func105 ?_
 intro w0 Q hQ
 unfold pt at h
 refine T_su [(0,vp x),(1,.agg #[vi ac,vs l m n,vs ah af ag]),(2,vu wv)]<| T_srz 0<| T_nw (some 4) (λb=>vp (pa b)) (.cells #[vi ac,vs l m n,vs ah af ag] 182) ?_
 intro b H1 e1 e2
 replace h:=h b H1 e1 e2
 refine T_pd [1] [(4,vp (pa b))]<| T_nw (some 6) (λb=>vp (pa b)) (.cells #[vi 0,vs none 0 0,vs none 0 0] 182) ?_
 intro a H2 e3 e4
 replace h:=h a H2 e3 e4
 refine T_pd [] [(6,vp (pa a))]<| T_e<| T_srz 1<| T_nd 2 [0] [(8,vp x),(9,vu wv)] ?_
 refine T_c (some 10) h ?_;clear h
 rintro v H3 ⟨d,rfl,h⟩
 refine T_pd [8,9] [(10,vi d)]<| T_ed 1 [10] [(7,vi d)]<| T_sz<| T_srz 2<| T_ne 2 [(2,vu wv),(4,vp (pa b)),(6,vp (pa a)),(7,vi d),(12,.bool (decide (d>0)))] ?_
 obtain⟨J,h,j6⟩:=h
 refine S_join (σ:=Int) (λs_=> [(2,vu s_),(4,vp (pa b)),(6,vp (pa a)),(7,vi d)]) (λs_ H=>J s_ H) ?_ ?_
 ·rintro q H4 j7
  replace h:=j6 q H4 j7
  refine T_su [(2,vu q),(4,vp (pa b)),(6,vp (pa a)),(7,vi d)] ?_
  refine S_then ?_
  refine T_srz 4<| T_nd 1 [] [(13,vp (some ((ad b).add 1)))] ?_
  obtain⟨xB,xN,xC,q8,h⟩:=h
  refine T_l1 14 34 q8 [13]<| T_nd 1 [2] [(15,vu q)]<| T_nw (some 16) (λb=>vs (pa b) 1 1) (.cells #[vu q] 36) ?_
  intro am H5 e9 e10
  replace h:=h am H5 e9 e10
  refine T_pd [15] [(16,vs (pa am) 1 1)] ?_
  refine N_op (some 17) (appendN #[34,34] 34 #[vs xB xN xC,vs (pa am) 1 1]) _ (λ_=>by kernel_rfl) (ss_append (T:=36) (sz:=1) (bytes:=8) (zero:=(vu 0:Value)) Tryz.underlying34 Tryz.underlying34 rfl (show Tryz.prog.info? 36=some Tryz.t36 from by kernel_rfl) (by kernel_rfl) (by kernel_rfl) (by decide) (by kernel_rfl) (by first | exact h | (simpa only[Value.cells,List.toList_toArray]using h))) ?_;clear h
  rintro _ H6 ⟨ap,aj,rfl,h⟩
  refine T_pd [14,16] [(17,vs ap (xN+1) aj)]<| T_nd 1 [] [(18,vp (some ((ad b).add 1)))] ?_
  obtain⟨q12,h⟩:=h
  refine T_st1 34 (vs ap (xN+1) aj) q12 ?_
  intro H7 e11
  replace h:=h H7 e11
  refine T_pd [17,18] []<| T_e<| T_srz 5<| T_nd 1 [] [(19,vp (some ((ad b).add 2)))] ?_
  obtain⟨y,k,u,q13,h⟩:=h
  refine T_l1 20 52 q13 [19]<| T_nd 1 [7] [(21,vi d)]<| T_nw (some 22) (λb=>vs (pa b) 1 1) (.cells #[vi d] 3) ?_
  intro al H8 e14 e15
  replace h:=h al H8 e14 e15
  refine T_pd [21] [(22,vs (pa al) 1 1)] ?_
  refine N_op (some 23) (appendN #[52,52] 52 #[vs y k u,vs (pa al) 1 1]) _ (λ_=>by kernel_rfl) (ss_append (T:=3) (sz:=1) (bytes:=8) (zero:=(vi 0:Value)) Tryz.underlying52 Tryz.underlying52 rfl (show Tryz.prog.info? 3=some Tryz.t3 from by kernel_rfl) (by kernel_rfl) (by kernel_rfl) (by decide) (by kernel_rfl) (by first | exact h | (simpa only[Value.cells,List.toList_toArray]using h))) ?_;clear h
  rintro _ H9 ⟨ae,p,rfl,h⟩
  refine T_pd [20,22] [(23,vs ae (k+1) p)]<| T_nd 1 [] [(24,vp (some ((ad b).add 2)))] ?_
  obtain⟨q17,h⟩:=h
  refine T_st1 52 (vs ae (k+1) p) q17 ?_
  intro ak e16
  replace h:=h ak e16
  refine T_pd [23,24] []<| T_e<| T_srz 6 ?_
  obtain⟨o,i,f,j,s,r,t,q18,h⟩:=h
  refine T_lr 25 182 q18 [4] ?_
  obtain⟨q20,h⟩:=h
  refine T_sta 182 [vi o,vs i f j,vs s r t] q20 ?_
  intro au e19
  replace h:=h au e19
  refine T_pd [25] []<| T_e ?_
  refine S_ret (by kernel_rfl) ?_
  show At _ _ _ _ _ (Q .ret)
  obtain⟨ai,z,aa,ab,aq,an,ao,q21,h⟩:=h
  exact S_done (fn:=Tryz.f105) [.agg #[vi ai,vs z aa ab,vs aq an ao]] hQ (show ResOK _ _ _ [.cell 6 182] _ from .cell (by kernel_rfl) (loadOK_row (λ_=>by kernel_rfl) (λ_=>by kernel_rfl) q21) (.nil)) h
 by_cases c22:d>0
 ·rw[if_pos c22]at h
  have b23:(decide (d>0))=true:=decide_eq_true c22
  refine S_env [(2,vu wv),(4,vp (pa b)),(6,vp (pa a)),(7,vi d),(12,.bool true)] (by simp only[b23,Bool.not_true,Bool.not_false]) ?_
  clear b23
  refine T_tz 12<| T_rz 3<| T_ed 1 [2,12] [(2,vu 0)] ?_
  exact S_meet (0:Int) sk h
 rw[if_neg c22]at h
 have b23:(decide (d>0))=false:=decide_eq_false c22
 refine S_env [(2,vu wv),(4,vp (pa b)),(6,vp (pa a)),(7,vi d),(12,.bool false)] (by simp only[b23,Bool.not_true,Bool.not_false]) ?_
 clear b23
 refine T_fz 12<| T_kt ?_
 exact S_meet (wv:Int) sk h
end morainelaw11_walk_put

/-! (*moraine/morainelaw11.walk).come -/
namespace morainelaw11_walk_come
def K0:=Func.code Tryz.f106
end morainelaw11_walk_come
def morainelaw11_walk_come.pt(x:Option Addr)(wv g:Int)(H:Array Obj)(R:Value->Array Obj->Prop):Prop:=
 ∃xA:Addr,x=some xA/\
 ∃b:Option Addr,hat H xA=some (.pointer b)/\
 ∃d:Addr,b=some d/\
 ∃a:Option Addr,hat H d=some (.pointer a)/\
 card_Cards_Gen.C a wv H (λv H1=> ∃(ra:Int) (rb:Bool),v=.tuple #[.int .i64 ra,.bool rb]/\
 if(rb && (decide (ra<=g)))=true then(
 morainelaw11_walk_of.C (some xA) wv H1 (λi H2=> ∃f:Int,i=.int .i64 f/\
 R (.tuple #[]) H2))
 else
 R (.tuple #[]) H1)
namespace morainelaw11_walk_come
theorem link{x:Option Addr}{wv g:Int}{H:Array Obj}{R:Value->Array Obj->Prop}(h:pt x wv g H R):C x wv g H R:=by
 refine T_en K0 29 Tryz.func106 ?_
 intro w0 Q hQ
 unfold pt at h
 refine T_su [(0,vp x),(1,vu wv),(2,vi g)]<| T_srz 0<| T_nd 1 [] [(9,vp x)] ?_
 obtain⟨xA,rfl,h⟩:=h
 refine T_nd 2 [0,9] [(0,vp (some xA)),(11,vp (some xA))] ?_
 obtain⟨b,q1,h⟩:=h
 refine T_l1 12 28 q1 [11] ?_
 obtain⟨d,rfl,h⟩:=h
 refine T_nd 2 [12] [(14,vp (some d))] ?_
 obtain⟨a,q2,h⟩:=h
 refine T_l1 15 54 q2 [14]<| T_nd 1 [] [(16,vu wv)] ?_
 refine T_c (some 17) h ?_;clear h
 rintro v H1 ⟨ra,rb,rfl,h⟩
 refine T_pd [15,16] [(17,.tuple #[vi ra,.bool rb])]<| T_ed 5 [17] [(6,vi ra),(7,.bool rb)]<| T_srz 1 ?_
 refine N_cut [(0,vp (some xA)),(1,vu wv),(25,.bool (rb && (decide (ra<=g))))] ?_ ?_
 ·refine S_then ?_
  by_cases c5:(rb && (decide (ra<=g)))=true
  ·rw[if_pos c5]at h
   refine T_cTz 25 c5<| T_rz 2<| T_n 2 [(26,vp (some xA)),(27,vu wv)] ?_
   refine T_c (some 28) h ?_;clear h
   rintro i H2 ⟨f,rfl,h⟩
   refine⟨[],pk,?_⟩
   refine N_end (by kernel_rfl) ?_
   exact S_doneN (fn:=Tryz.f106) [] hQ (show ResOK _ _ _ [] _ from .nil) h
  rw[if_neg c5]at h
  refine T_cFz 25 (eq_false_of_ne_true c5)<| T_k ?_
  exact S_doneN (fn:=Tryz.f106) [] hQ (show ResOK _ _ _ [] _ from .nil) h
 intro hk
 refine T_n 2 [(0,vp (some xA)),(1,vu wv),(2,vi g),(6,vi ra),(21,.bool rb)] ?_
 by_cases c3:rb=true
 ·have b4:rb=true:=c3
  refine N_env [(0,vp (some xA)),(1,vu wv),(2,vi g),(6,vi ra),(21,.bool true)] (by rw[b4]) ?_
  refine T_nd 4 [2,6,21] [(25,.bool (decide (ra<=g)))] ?_
  refine N_end (by kernel_rfl) ?_
  refine S_bd 25 (b:=(decide (ra<=g))) (v:=(rb && (decide (ra<=g)))) (by simp only[b4,BL]) ?_
  exact hk
 have b4:rb=false:=eq_false_of_ne_true c3
 refine N_env [(0,vp (some xA)),(1,vu wv),(2,vi g),(6,vi ra),(21,.bool false)] (by rw[b4]) ?_
 refine T_nd 4 [2,6,21] [(25,.bool false)] ?_
 refine N_end (by kernel_rfl) ?_
 refine S_bd 25 (b:=false) (v:=(rb && (decide (ra<=g)))) (by simp only[b4,BL]) ?_
 exact hk
end morainelaw11_walk_come

/-! (*moraine/morainelaw11.walk).of -/
namespace morainelaw11_walk_of
def K0:=Func.code Tryz.f169
def K2:=cb K0
def K4:=cb K2
def K11:=ca K4
def K14:=cb K11
def K15:=ca K14
def K18:=cb K15
end morainelaw11_walk_of
def morainelaw11_walk_of.pt(x:Option Addr)(wv:Int)(H:Array Obj)(R:Value->Array Obj->Prop):Prop:=
 ∃xA:Addr,x=some xA/\
 ∃p:Option Addr,hat H xA=some (.pointer p)/\
 obj_Heap_Size.C p wv H (λv H1=> ∃l:Int,v=.int .i64 l/\
 if l=0 then(
 R (.int .i64 0) H1)
 else
 ∃s:Option Nat,hat H1 (xA.add 2)=some (.map s)/\
 ∃mr:Nat,s=some mr/\
 ∃(es:Array MapEntry) (cl:Nat) (ks:List (Int×Value)),H1[mr]?=some (.map es cl)/\Ents (intKey .u64) es.toList ks/\
 ∃i:Int,(mget ks wv).getD (.int .i64 0)=.int .i64 i/\
 if i=0 then(
 ∃(xB:Option Addr) (xN xC:Nat),hat H1 (xA.add 1)=some (.slice xB xN xC)/\
 ∀(b:Nat) (H2:Array Obj),b=H1.size->H2=H1.push (.cells #[.int .u64 wv] 36)->
 appendK 1 36 8 [.int .u64 0] xB xN xC (some (ad b)) 1 H2 (λap n H3=>
 (CanPuts H3 (xA.add 1) 0 1)/\ ∀H4,H4=hputs H3 (xA.add 1) [.slice ap (xN+1) n] 0->
 ∃d:Option Nat,hat H4 (xA.add 2)=some (.map d)/\
 ∃(q:Option Addr) (a o:Nat),hat H4 (xA.add 1)=some (.slice q a o)/\
 ∃j:Nat,d=some j/\
 ∃(ae:Array MapEntry) (cl_2:Nat) (ks_2:List (Int×Value)),H4[j]?=some (.map ae cl_2)/\Ents (intKey .u64) ae.toList ks_2/\
 ∀(u:Array MapEntry) (cl_3:Nat) (H5:Array Obj),H5=setBlk H4 j (.map u cl_3)->Ents (intKey .u64) u.toList (mput ks_2 wv (.int .i64 (a:Int)))->
 ∃t:Option Nat,hat H5 (xA.add 2)=some (.map t)/\
 ∃aa:Nat,t=some aa/\
 ∃(ac:Array MapEntry) (cl_4:Nat) (ks_3:List (Int×Value)),H5[aa]?=some (.map ac cl_4)/\Ents (intKey .u64) ac.toList ks_3/\
 ∃m:Int,(mget ks_3 wv).getD (.int .i64 0)=.int .i64 m/\
 R (.int .i64 m) H5))
 else
 ∃r:Option Nat,hat H1 (xA.add 2)=some (.map r)/\
 ∃y:Nat,r=some y/\
 ∃(ab:Array MapEntry) (cl_5:Nat) (ks_4:List (Int×Value)),H1[y]?=some (.map ab cl_5)/\Ents (intKey .u64) ab.toList ks_4/\
 ∃f:Int,(mget ks_4 wv).getD (.int .i64 0)=.int .i64 f/\
 R (.int .i64 f) H1)
namespace morainelaw11_walk_of
theorem link{x:Option Addr}{wv:Int}{H:Array Obj}{R:Value->Array Obj->Prop}(h:pt x wv H R):C x wv H R:=by
 refine T_en K0 45 Tryz.func169 ?_
 intro w0 Q hQ
 unfold pt at h
 refine T_su [(0,vp x),(1,vu wv)]<| T_srz 0<| T_ed 1 [] []<| T_sz<| T_srz 1<| T_nd 1 [] [(5,vp x)] ?_
 obtain⟨xA,rfl,h⟩:=h
 refine T_nd 2 [0,5] [(0,vp (some xA)),(7,vp (some xA))] ?_
 obtain⟨p,q1,h⟩:=h
 refine T_l1 8 28 q1 [7]<| T_nd 1 [] [(9,vu wv)] ?_
 refine T_c (some 10) h ?_;clear h
 rintro v H1 ⟨l,rfl,h⟩
 refine T_pd [8,9] [(10,vi l)]<| T_ed 1 [10] [(11,.bool (l==0))] ?_
 by_cases c2:l=0
 ·rw[if_pos c2]at h
  exact T_cTz 11 (beq_iff_eq.mpr c2)<| T_srz 2<| T_nr 1 [4] [vi 0] hQ h
 rw[if_neg c2]at h
 refine T_cFz 11 (beq_eq_false_iff_ne.mpr c2)<| T_kt<| T_sz<| T_srz 3<| T_nd 3 [11] [(14,vp (some (xA.add 2)))] ?_
 obtain⟨s,q4,h⟩:=h
 refine T_l1 15 178 q4 [14]<| T_nd 1 [] [(16,vu wv)] ?_
 obtain⟨mr,rfl,h⟩:=h
 obtain⟨es,cl,ks,q5,q6,i,e34,h⟩:=h
 refine T_v1 17 (lookupN 178 (.map (some mr)) (vu wv) false) (vi i) (λw hw=>(lookup_run (kk:=(intKey .u64)) (z:=vi 0) Tryz.underlying178 Tryz.underlying36 (λ_=>by kernel_rfl) (by rw[hw];exact q5) q6 false).trans (by simp only[if_true,Bool.false_eq_true,if_false,e34])) [15,16] ?_
 refine T_ed 1 [17] [(18,.bool (i==0))] ?_
 by_cases c8:i=0
 ·rw[if_pos c8]at h
  refine T_cTz 18 (beq_iff_eq.mpr c8)<| T_srz 4<| T_nd 4 [18] [(19,vp (some xA)),(22,vp (some (xA.add 1)))] ?_
  obtain⟨xB,xN,xC,q10,h⟩:=h
  refine T_l1 23 34 q10 [22]<| T_nd 1 [] [(24,vu wv)]<| T_nw (some 25) (λb=>vs (pa b) 1 1) (.cells #[vu wv] 36) ?_
  intro b H2 e11 e12
  replace h:=h b H2 e11 e12
  refine T_pd [24] [(25,vs (pa b) 1 1)] ?_
  refine N_op (some 26) (appendN #[34,34] 34 #[vs xB xN xC,vs (pa b) 1 1]) _ (λ_=>by kernel_rfl) (ss_append (T:=36) (sz:=1) (bytes:=8) (zero:=(vu 0:Value)) Tryz.underlying34 Tryz.underlying34 rfl (show Tryz.prog.info? 36=some Tryz.t36 from by kernel_rfl) (by kernel_rfl) (by kernel_rfl) (by decide) (by kernel_rfl) (by first | exact h | (simpa only[Value.cells,List.toList_toArray]using h))) ?_;clear h
  rintro _ H3 ⟨ap,n,rfl,h⟩
  refine T_pd [23,25] [(26,vs ap (xN+1) n)]<| T_nd 2 [19] [(28,vp (some (xA.add 1)))] ?_
  obtain⟨q14,h⟩:=h
  refine T_st1 34 (vs ap (xN+1) n) q14 ?_
  intro H4 e13
  replace h:=h H4 e13
  refine T_pd [26,28] []<| T_e ?_
  obtain⟨d,q15,h⟩:=h
  obtain⟨q,a,o,q16,h⟩:=h
  refine S_regionG 5 (Code.ops K18) [(10,(xA.add 2),[.map d]),(10,(xA.add 1),[vs q a o])] 11 (bv 11 0) (by kernel_rfl) (by kernel_rfl) (by kernel_rfl) (by kernel_rfl) (by kernel_rfl) (show FactsAt _ _ _ from⟨⟨q15,trivial⟩,⟨q16,trivial⟩,trivial⟩) ?_
  refine T_gp 0 (some 29) (vp (some xA)) (bv 11 1) [(0,vp (some xA)),(1,vu wv),(29,vp (some xA))]<| T_gp1 1 30 (vp (some xA)) (bv 11 3) [29]<| T_gp1 2 31 (vp (some (xA.add 2))) (bv 11 7) [30]<| T_g1 3 32 (.map d) (bv 11 15) [31] (loadN 178 (vp (some (xA.add 2)))) (held_one 10 (λ_=>by kernel_rfl) (List.Mem.head _) (.inl (by kernel_rfl)))<| T_gp1 4 33 (vu wv) (bv 11 31) []<| T_gp1 5 34 (vp (some xA)) (bv 11 63) []<| T_gp1 6 35 (vp (some xA)) (bv 11 127) [34]<| T_gp1 7 36 (vp (some (xA.add 1))) (bv 11 255) [35]<| T_g1 8 37 (vs q a o) (bv 11 511) [36] (loadN 34 (vp (some (xA.add 1)))) (held_one 10 (λ_=>by kernel_rfl) (List.Mem.tail _ (List.Mem.head _)) (.inl (by kernel_rfl))) ?_
  refine T_gp1 9 38 (vi a) (bv 11 1023) [37] ?_
  obtain⟨j,rfl,h⟩:=h
  obtain⟨ae,cl_2,ks_2,q17,q18,h⟩:=h
  refine G_onlyskip 10 none (bv 11 2047) (mapPutN 178 (.map (some j)) (vu wv) (vi a)) (λHz=> ∃es2 cl2,Hz=setBlk H4 j (.map es2 cl2)/\Ents (intKey .u64) es2.toList (mput ks_2 wv (vi a))) (by kernel_rfl) (λ_=>by kernel_rfl) (λw hw=>by obtain⟨es2,cl2,q1,q2⟩:=mapPut_run (kk:=(intKey .u64)) (P:=Tryz.prog) (w:=w) (k:=wv) (v:=vi a) Tryz.underlying178 Tryz.underlying36 (by rw[hw];exact q17) q18;exact⟨_,q1,⟨rfl,rfl,rfl,Nat.le_refl _⟩,es2,cl2,by rw[<-hw],q2⟩) (by kernel_rfl) ?_
  rintro H5 ⟨u,cl_3,e20,e21⟩
  replace h:=h u cl_3 H5 e20 e21
  refine⟨[(0,vp (some xA)),(1,vu wv)],pk,(show FactsAt _ _ _ from⟨trivial,trivial,trivial⟩),?_⟩
  refine G_sub [(0,vp (some xA)),(1,vu wv)] sk ?_
  refine G_end (by kernel_rfl) ?_
  refine S_then ?_
  refine T_srz 6<| T_n 3 [(1,vu wv),(41,vp (some (xA.add 2)))] ?_
  obtain⟨t,q22,h⟩:=h
  refine T_l1 42 178 q22 [41]<| T_nd 1 [1] [(43,vu wv)] ?_
  obtain⟨aa,rfl,h⟩:=h
  obtain⟨ac,cl_4,ks_3,q23,q24,m,e26,h⟩:=h
  refine T_v1 44 (lookupN 178 (.map (some aa)) (vu wv) false) (vi m) (λw hw=>(lookup_run (kk:=(intKey .u64)) (z:=vi 0) Tryz.underlying178 Tryz.underlying36 (λ_=>by kernel_rfl) (by rw[hw];exact q23) q24 false).trans (by simp only[if_true,Bool.false_eq_true,if_false,e26])) [42,43] ?_
  exact T_nr 1 [4] [vi m] hQ h
 rw[if_neg c8]at h
 refine T_cFz 18 (beq_eq_false_iff_ne.mpr c8)<| T_kt<| T_srz 6<| T_nd 3 [0,18] [(41,vp (some (xA.add 2)))] ?_
 obtain⟨r,q28,h⟩:=h
 refine T_l1 42 178 q28 [41]<| T_nd 1 [1] [(43,vu wv)] ?_
 obtain⟨y,rfl,h⟩:=h
 obtain⟨ab,cl_5,ks_4,q29,q30,f,e32,h⟩:=h
 refine T_v1 44 (lookupN 178 (.map (some y)) (vu wv) false) (vi f) (λw hw=>(lookup_run (kk:=(intKey .u64)) (z:=vi 0) Tryz.underlying178 Tryz.underlying36 (λ_=>by kernel_rfl) (by rw[hw];exact q29) q30 false).trans (by simp only[if_true,Bool.false_eq_true,if_false,e32])) [42,43] ?_
 exact T_nr 1 [4] [vi f] hQ h
end morainelaw11_walk_of

/-! moraine/morainelaw11.picture -/
namespace morainelaw11_picture
def K0:=Func.code Tryz.f30
def K2:=cb K0
def K4:=cb K2
def K6:=cb K4
def K7:=ca K6
def K8:=cb K6
def K10:=cb K7
def K11:=ca K10
def K12:=ca K11
def K14:=cb K12
def K19:=ca K14
def K21:=ca K19
def K23:=cb K8
def K24:=ca K23
def K27:=cb K24
def K28:=ca K27
def K29:=ca K28
def K31:=cb K29
def K36:=ca K31
def K38:=ca K36
def K40:=cb K38
def K42:=cb K40
def K43:=ca K42
def K45:=ca K43
def K47:=cb K45
def K49:=cb K47
def K55:=cb K49
def K57:=cb K55
def K63:=cb K57
def K65:=cb K63
def K66:=ca K65
def K67:=ca K66
end morainelaw11_picture
def morainelaw11_picture.pt(hv p:Option Addr)(m n:Nat)(H:Array Obj)(R:Value->Array Obj->Prop):Prop:=
 ∀(b:Nat) (H1:Array Obj),b=H.size->H1=H.push (.map #[] 0)->
 ∀(d:Nat) (H2:Array Obj),d=H1.size->H2=H1.push (.cells #[.pointer hv,.slice none 0 0,.map (some b)] 180)->
 ∀(r:Nat) (H3:Array Obj),r=H2.size->H3=H2.push (.cells #[.int .i64 0,.slice none 0 0,.slice none 0 0] 182)->
 (CanPuts H3 (ad r) 0 3)/\ ∀H4,H4=hputs H3 (ad r) [.int .i64 (-1),.slice none 0 0,.slice none 0 0] 0->
 ∃(d6:Int->Array Obj->Prop) (m13:Int->Array Obj->Nat),d6 0 H4/\ ∀(i:Int) (H5:Array Obj),d6 i H5->
 if i< (m:Int)then(
 ∃(bh:Int) (y:Option Addr) (s u:Nat) (b9:Option Addr) (cl co:Nat),RowAt H5 (ad r) 0 [.int .i64 bh,.slice y s u,.slice b9 cl co]/\
 ∃o:Addr,p=some o/\
 ((0:Int)<=i/\i< (m:Int))/\
 ∃x:Int,hat H5 (o.add (Int.toNat i*1))=some (.int .u64 x)/\
 morainelaw11_walk_put.C (some (ad d)) bh y s u b9 cl co x H5 (λv H6=> ∃(br:Int) (ak:Option Addr) (al av:Nat) (cn:Option Addr) (b8 cq:Nat),v=.agg #[.int .i64 br,.slice ak al av,.slice cn b8 cq]/\
 (CanPuts H6 (ad r) 0 3)/\ ∀H7,H7=hputs H6 (ad r) [.int .i64 br,.slice ak al av,.slice cn b8 cq] 0->
 (d6 (IntKind.wrap .i64 (i+1)) H7/\m13 (IntKind.wrap .i64 (i+1)) H7<m13 i H5)))
 else
 ∃(b2:Int) (a7:Option Addr) (ba a8:Nat) (c1:Option Addr) (c3 cy:Nat),RowAt H5 (ad r) 0 [.int .i64 b2,.slice a7 ba a8,.slice c1 c3 cy]/\
 ∀(dp:Nat) (H8:Array Obj),dp=H5.size->H8=H5.push (.cells #[.int .i64 b2,.slice a7 ba a8,.slice c1 c3 cy] 182)->
 ∃(du:(Option Addr)->Nat->Nat->Int->Array Obj->Prop) (m30:(Option Addr)->Nat->Nat->Int->Array Obj->Nat),du (some (ad dp)) 1 1 0 H8/\ ∀(f:Option Addr) (outN:Nat) (outC:Nat) (i_2:Int) (H9:Array Obj),du f outN outC i_2 H9->
 ∃(xB:Option Addr) (xN xC:Nat),hat H9 ((ad d).add 1)=some (.slice xB xN xC)/\
 if i_2< (xN:Int)then(
 ∃(dj:Option Addr) (c9 dc:Nat),hat H9 ((ad d).add 1)=some (.slice dj c9 dc)/\
 ∃da:Addr,dj=some da/\
 ((0:Int)<=i_2/\i_2< (c9:Int))/\
 ∃l:Int,hat H9 (da.add (Int.toNat i_2*1))=some (.int .u64 l)/\
 ∀(j:Nat) (H10:Array Obj),j=H9.size->H10=H9.push (.cells #[.int .i64 0,.slice none 0 0,.slice none 0 0] 182)->
 (CanPuts H10 (ad j) 0 3)/\ ∀ej,ej=hputs H10 (ad j) [.int .i64 0,.slice none 0 0,.slice none 0 0] 0->
 obj_Heap_Pair.C hv l ej (λfe d7=> ∃ce:Bool,fe=.bool ce/\
 if(ce && ((iand .u64 l 7)==2))=true then(
 (CanPuts d7 (ad j) 0 1)/\ ∀ef,ef=hputs d7 (ad j) [.int .i64 1] 0->
 obj_Heap_Cdr.C hv l ef (λfd ev=> ∃ra rb:Int,fd=.tuple #[.int .u64 ra,.int .i64 rb]/\
 ∃(bo:Int) (aj:Option Addr) (ay an:Nat) (cg:Option Addr) (cm cs:Nat),RowAt ev (ad j) 0 [.int .i64 bo,.slice aj ay an,.slice cg cm cs]/\
 morainelaw11_walk_put.C (some (ad d)) bo aj ay an cg cm cs ra ev (λfj eh=> ∃(bm:Int) (ah:Option Addr) (ax aw:Nat) (cc:Option Addr) (cj ck:Nat),fj=.agg #[.int .i64 bm,.slice ah ax aw,.slice cc cj ck]/\
 (CanPuts eh (ad j) 0 3)/\ ∀d0,d0=hputs eh (ad j) [.int .i64 bm,.slice ah ax aw,.slice cc cj ck] 0->
 ∃(b3:Int) (bf:Option Addr) (be bc:Nat) (cv:Option Addr) (cx c2:Nat),RowAt d0 (ad j) 0 [.int .i64 b3,.slice bf be bc,.slice cv cx c2]/\
 ∀(dy:Nat) (H17:Array Obj),dy=d0.size->H17=d0.push (.cells #[.int .i64 b3,.slice bf be bc,.slice cv cx c2] 182)->
 appendK 3 182 56 [.int .i64 0,.slice none 0 0,.slice none 0 0] f outN outC (some (ad dy)) 1 H17 (λap dt et=>
 (du ap (outN+1) dt (IntKind.wrap .i64 (i_2+1)) et/\m30 ap (outN+1) dt (IntKind.wrap .i64 (i_2+1)) et<m30 f outN outC i_2 H9)))))
 else
 obj_Heap_Pair.C hv l d7 (λe9 ey=> ∃dm:Bool,e9=.bool dm/\
 if dm=true then(
 obj_Heap_Car.C hv l ey (λfg fh=> ∃bx ea:Int,fg=.tuple #[.int .u64 bx,.int .i64 ea]/\
 obj_Heap_Cdr.C hv l fh (λfc e8=> ∃cp ec:Int,fc=.tuple #[.int .u64 cp,.int .i64 ec]/\
 ∃(bt:Int) (ao:Option Addr) (au ag:Nat) (cr:Option Addr) (ci cu:Nat),RowAt e8 (ad j) 0 [.int .i64 bt,.slice ao au ag,.slice cr ci cu]/\
 morainelaw11_walk_put.C (some (ad d)) bt ao au ag cr ci cu bx e8 (λfo fi=> ∃(b5:Int) (bd:Option Addr) (a9 bb:Nat) (c0:Option Addr) (cz cw:Nat),fo=.agg #[.int .i64 b5,.slice bd a9 bb,.slice c0 cz cw]/\
 morainelaw11_walk_put.C (some (ad d)) b5 bd a9 bb c0 cz cw cp fi (λfk ei=> ∃(bj:Int) (ai:Option Addr) (am aq:Nat) (ct:Option Addr) (cd ch:Nat),fk=.agg #[.int .i64 bj,.slice ai am aq,.slice ct cd ch]/\
 (CanPuts ei (ad j) 0 3)/\ ∀d1,d1=hputs ei (ad j) [.int .i64 bj,.slice ai am aq,.slice ct cd ch] 0->
 ∃(bw:Int) (a1:Option Addr) (a0 az:Nat) (b0:Option Addr) (b4 b7:Nat),RowAt d1 (ad j) 0 [.int .i64 bw,.slice a1 a0 az,.slice b0 b4 b7]/\
 ∀(d4:Nat) (H25:Array Obj),d4=d1.size->H25=d1.push (.cells #[.int .i64 bw,.slice a1 a0 az,.slice b0 b4 b7] 182)->
 appendK 3 182 56 [.int .i64 0,.slice none 0 0,.slice none 0 0] f outN outC (some (ad d4)) 1 H25 (λdd c4 ew=>
 (du dd (outN+1) c4 (IntKind.wrap .i64 (i_2+1)) ew/\m30 dd (outN+1) c4 (IntKind.wrap .i64 (i_2+1)) ew<m30 f outN outC i_2 H9)))))))
 else
 obj_Heap_Type.C hv l ey (λex el=> ∃dn:Int,ex=.int .i64 dn/\
 (CanPuts el (ad j) 0 1)/\ ∀ek,ek=hputs el (ad j) [.int .i64 (IntKind.wrap .i64 (dn+1))] 0->
 ∃(dw:Int->Array Obj->Prop) (m68:Int->Array Obj->Nat),dw 0 ek/\ ∀(nv:Int) (H29:Array Obj),dw nv H29->
 obj_Heap_Len.C hv l H29 (λep d9=> ∃dq:Int,ep=.int .i64 dq/\
 if nv<dq then(
 obj_Heap_Type.C hv l d9 (λe0 fl=> ∃dv:Int,e0=.int .i64 dv/\
 obj_Heap_Get.C hv l dv nv fl (λen fm=> ∃q eb:Int,en=.tuple #[.int .u64 q,.int .i64 eb]/\
 ∃J:Bool->Array Obj->Prop,(
 obj_Heap_Type.C hv l fm (λez er=> ∃dl:Int,ez=.int .i64 dl/\
 if dl=2 then(
 J true er)
 else
 obj_Heap_Type.C hv l er (λes ff=> ∃dz:Int,es=.int .i64 dz/\
 J (dz==3) ff)))/\ ∀(dr:Bool) (H33:Array Obj),J dr H33->
 if dr=true then(
 ∃(db:Option Addr) (bg c8:Nat),hat H33 ((ad j).add 1)=some (.slice db bg c8)/\
 ∀(dx:Nat) (H34:Array Obj),dx=H33.size->H34=H33.push (.cells #[.int .u64 q] 36)->
 appendK 1 36 8 [.int .u64 0] db bg c8 (some (ad dx)) 1 H34 (λdh c6 eg=>
 (CanPuts eg ((ad j).add 1) 0 1)/\ ∀d2,d2=hputs eg ((ad j).add 1) [.slice dh (bg+1) c6] 0->
 ∃(dg:Option Addr) (bp df:Nat),hat d2 ((ad j).add 2)=some (.slice dg bp df)/\
 ∀(d3:Nat) (H37:Array Obj),d3=d2.size->H37=d2.push (.cells #[.int .i64 0] 3)->
 appendK 1 3 8 [.int .i64 0] dg bp df (some (ad d3)) 1 H37 (λdi c5 ee=>
 (CanPuts ee ((ad j).add 2) 0 1)/\ ∀d5,d5=hputs ee ((ad j).add 2) [.slice di (bp+1) c5] 0->
 (dw (IntKind.wrap .i64 (nv+1)) d5/\m68 (IntKind.wrap .i64 (nv+1)) d5<m68 nv H29))))
 else
 ∃(a6:Int) (ac:Option Addr) (aa ae:Nat) (bl:Option Addr) (bk bu:Nat),RowAt H33 (ad j) 0 [.int .i64 a6,.slice ac aa ae,.slice bl bk bu]/\
 morainelaw11_walk_put.C (some (ad d)) a6 ac aa ae bl bk bu q H33 (λeu em=> ∃(a5:Int) (z:Option Addr) (ab af:Nat) (bq:Option Addr) (bi bs:Nat),eu=.agg #[.int .i64 a5,.slice z ab af,.slice bq bi bs]/\
 (CanPuts em (ad j) 0 3)/\ ∀d8,d8=hputs em (ad j) [.int .i64 a5,.slice z ab af,.slice bq bi bs] 0->
 (dw (IntKind.wrap .i64 (nv+1)) d8/\m68 (IntKind.wrap .i64 (nv+1)) d8<m68 nv H29)))))
 else
 ∃(bn:Int) (a3:Option Addr) (a4 a2:Nat) (b1:Option Addr) (b6 bz:Nat),RowAt d9 (ad j) 0 [.int .i64 bn,.slice a3 a4 a2,.slice b1 b6 bz]/\
 ∀(dk:Nat) (H44:Array Obj),dk=d9.size->H44=d9.push (.cells #[.int .i64 bn,.slice a3 a4 a2,.slice b1 b6 bz] 182)->
 appendK 3 182 56 [.int .i64 0,.slice none 0 0,.slice none 0 0] f outN outC (some (ad dk)) 1 H44 (λde c7 eo=>
 (du de (outN+1) c7 (IntKind.wrap .i64 (i_2+1)) eo/\m30 de (outN+1) c7 (IntKind.wrap .i64 (i_2+1)) eo<m30 f outN outC i_2 H9)))))))
 else
 R (.slice f outN outC) H9
namespace morainelaw11_picture
theorem link{hv p:Option Addr}{m n:Nat}{H:Array Obj}{R:Value->Array Obj->Prop}(h:pt hv p m n H R):C hv p m n H R:=by
 refine T_en K0 153 Tryz.func30 ?_
 intro w0 Q hQ
 unfold pt at h
 refine T_su [(0,vp hv),(1,vs p m n)]<| T_srz 0<| T_ed 1 [] []<| T_srz 1<| T_nd 1 [] [(21,vp hv)]<| T_nw (some 22) (λb=> .map (some b)) (.map #[] 0) ?_
 intro b H1 e1 e2
 replace h:=h b H1 e1 e2
 refine T_pd [] [(22,.map (some b))]<| T_nd 1 [21,22] [(23,.agg #[vp hv,vs none 0 0,.map (some b)])]<| T_nw (some 24) (λb=>vp (pa b)) (.cells #[vp hv,vs none 0 0,.map (some b)] 180) ?_
 intro d H2 e3 e4
 replace h:=h d H2 e3 e4
 refine T_pd [23] [(24,vp (pa d))]<| T_ed 1 [24] [(5,vp (pa d))]<| T_srz 2<| T_nd 1 [] [(25,.agg #[vi (-1),vs none 0 0,vs none 0 0])]<| T_nw (some 6) (λb=>vp (pa b)) (.cells #[vi 0,vs none 0 0,vs none 0 0] 182) ?_
 intro r H3 e5 e6
 replace h:=h r H3 e5 e6
 refine T_pd [] [(6,vp (pa r))] ?_
 obtain⟨q8,h⟩:=h
 refine T_sta 182 [vi (-1),vs none 0 0,vs none 0 0] q8 ?_
 intro H4 e7
 replace h:=h H4 e7
 refine T_pd [25] []<| T_e<| T_sz<| T_srz 3<| T_ed 1 [] [(7,vi 0)]<| T_bz 0 ?_
 obtain⟨d6,m13,i9,i10⟩:=h
 refine S_loop (x:=K12) (σ:=Int) (λs_=> [(0,vp hv),(1,vs p m n),(5,vp (pa d)),(6,vp (pa r)),(7,vi s_)]) (λs_ H=>d6 s_ H) (λs_ H=>m13 s_ H) (0:Int) (by kernel_rfl) i9 sk ?_
 rintro i H5 i11
 have h:=i10 i H5 i11
 refine T_su [(0,vp hv),(1,vs p m n),(5,vp (pa d)),(6,vp (pa r)),(7,vi i)]<| T_sz<| T_srz 4<| T_ed 4 [] [(29,.bool (decide (i< (m:Int))))] ?_
 by_cases c12:i< (m:Int)
 ·rw[if_pos c12]at h
  refine T_cTz 29 (decide_eq_true c12)<| T_kt<| T_sz<| T_bz 1 ?_
  obtain⟨bh,y,s,u,b9,cl,co,q14,h⟩:=h
  obtain⟨o,rfl,h⟩:=h
  obtain⟨q15,h⟩:=h
  obtain⟨x,q16,h⟩:=h
  refine S_regionG 6 (Code.ops K21) [(6,(ad r),[vi bh,vs y s u,vs b9 cl co]),(6,(o.add (Int.toNat i*1)),[vu x])] 8 (bv 8 0) (by kernel_rfl) (by kernel_rfl) (by kernel_rfl) (by kernel_rfl) (by kernel_rfl) (show FactsAt _ _ _ from⟨q14,⟨q16,trivial⟩,trivial⟩) ?_
  refine T_gp 0 (some 32) (vp (pa d)) (bv 8 1) [(0,vp hv),(1,vs (some o) m n),(5,vp (pa d)),(6,vp (pa r)),(7,vi i),(32,vp (pa d))]<| T_g1 1 33 (.agg #[vi bh,vs y s u,vs b9 cl co]) (bv 8 3) [] (loadN 182 (vp (pa r))) (held_row 6 (λ_=>by kernel_rfl) (λ_=>by kernel_rfl) (List.Mem.head _) (.inl (by kernel_rfl)))<| T_gp1 2 34 (vs (some o) m n) (bv 8 7) []<| T_gp1 3 35 (vi i) (bv 8 15) []<| T_g1 4 36 (vp (some (o.add (Int.toNat i*1)))) (bv 8 31) [34,35] (indexAtN 34 (vs (some o) m n) (vi i)) (λ_ w _ _ _=>indexAt_run (P:=Tryz.prog) (t:=34) (elem:=36) (sz:=1) (a:=o) (len:=m) (cap:=n) (k:=.i64) (i:=i) Tryz.underlying34 (λ_=>by kernel_rfl) q15.1 q15.2 w)<| T_g1 5 37 (vu x) (bv 8 63) [36] (loadN 36 (vp (some (o.add (Int.toNat i*1))))) (held_one 6 (λ_=>by kernel_rfl) (List.Mem.tail _ (List.Mem.head _)) (.inl (by kernel_rfl))) ?_
  refine G_call 6 (some 38) (bv 8 127) 105 #[vp (pa d),.agg #[vi bh,vs y s u,vs b9 cl co],vu x] (by kernel_rfl) (λ_=>by kernel_rfl) h (by kernel_rfl) ?_;clear h
  rintro v H6 ⟨br,ak,al,av,cn,b8,cq,rfl,h⟩
  refine⟨[(0,vp hv),(1,vs (some o) m n),(5,vp (pa d)),(6,vp (pa r)),(7,vi i),(38,.agg #[vi br,vs ak al av,vs cn b8 cq])],pk,(show FactsAt _ _ _ from⟨trivial,trivial,trivial⟩),?_⟩
  obtain⟨q18,h⟩:=h
  refine G_onlyskip 7 none (bv 8 255) (storeN 182 (vp (pa r)) (.agg #[vi br,vs ak al av,vs cn b8 cq])) (λHz=>Hz=hputs H6 (ad r) [vi br,vs ak al av,vs cn b8 cq] 0) (by kernel_rfl) (λ_=>by kernel_rfl) (ss_store [vi br,vs ak al av,vs cn b8 cq] 3 (by kernel_rfl) (by kernel_rfl) (λ_=>by kernel_rfl) (by kernel_rfl) q18) (by kernel_rfl) ?_
  intro H7 e17
  replace h:=h H7 e17
  refine⟨[(0,vp hv),(1,vs (some o) m n),(5,vp (pa d)),(6,vp (pa r)),(7,vi i)],pk,(show FactsAt _ _ _ from⟨trivial,trivial,trivial⟩),?_⟩
  refine G_sub [(0,vp hv),(1,vs (some o) m n),(5,vp (pa d)),(6,vp (pa r)),(7,vi i)] sk ?_
  refine G_end (by kernel_rfl) ?_
  refine S_blockEnd ?_
  refine S_then ?_
  refine T_rz 5<| T_ne 3 [(0,vp hv),(1,vs (some o) m n),(5,vp (pa d)),(6,vp (pa r)),(7,vi (IntKind.wrap .i64 (i+1)))] ?_
  exact S_round ((IntKind.wrap .i64 (i+1)):Int) sk h
 rw[if_neg c12]at h
 refine T_cFz 29 (decide_eq_false c12) ?_
 refine S_exit 0 (by kernel_rfl) ?_
 refine S_exitThen ?_
 refine S_exitThen ?_
 refine S_exitHere ?_
 refine S_then ?_
 refine T_srz 7<| T_ud [1,7,29] [] ?_
 obtain⟨b2,a7,ba,a8,c1,c3,cy,q19,h⟩:=h
 refine T_lr 39 182 q19 [6]<| T_nw (some 40) (λb=>vs (pa b) 1 1) (.cells #[vi b2,vs a7 ba a8,vs c1 c3 cy] 182) ?_
 intro dp H8 e20 e21
 replace h:=h dp H8 e20 e21
 refine T_pd [39] [(40,vs (pa dp) 1 1)]<| T_ed 1 [40] [(8,vs (pa dp) 1 1)]<| T_sz<| T_srz 8<| T_ed 1 [] [(9,vi 0)]<| T_bz 2 ?_
 obtain⟨du,m30,i22,i23⟩:=h
 refine S_loop (x:=K29) (σ:=(Option Addr)×Nat×Nat×Int) (λs_=> [(0,vp hv),(5,vp (pa d)),(8,vs s_.1 s_.2.1 s_.2.2.1),(9,vi s_.2.2.2)]) (λs_ H=>du s_.1 s_.2.1 s_.2.2.1 s_.2.2.2 H) (λs_ H=>m30 s_.1 s_.2.1 s_.2.2.1 s_.2.2.2 H) (((pa dp),1,1,0):(Option Addr)×Nat×Nat×Int) (by kernel_rfl) i22 sk ?_
 rintro⟨f,outN,outC,i_2⟩ H9 i24
 have h:=i23 f outN outC i_2 H9 i24
 refine T_su [(0,vp hv),(5,vp (pa d)),(8,vs f outN outC),(9,vi i_2)]<| T_sz<| T_srz 9<| T_nd 4 [] [(41,vi i_2),(44,vp (some ((ad d).add 1)))] ?_
 obtain⟨xB,xN,xC,q25,h⟩:=h
 refine T_l1 45 34 q25 [44]<| T_ed 2 [41,45] [(47,.bool (decide (i_2< (xN:Int))))] ?_
 by_cases c26:i_2< (xN:Int)
 ·rw[if_pos c26]at h
  refine T_cTz 47 (decide_eq_true c26)<| T_kt<| T_sz<| T_bz 3<| T_srz 11<| T_nd 3 [47] [(52,vp (some ((ad d).add 1)))] ?_
  obtain⟨dj,c9,dc,q28,h⟩:=h
  refine T_l1 53 34 q28 [52]<| T_nd 1 [] [(54,vi i_2)] ?_
  obtain⟨da,rfl,h⟩:=h
  obtain⟨q29,h⟩:=h
  refine T_xd (some 55) 34 36 1 da c9 dc .i64 i_2 Tryz.underlying34 q29.1 q29.2 [53,54] [(55,vp (some (da.add (Int.toNat i_2*1))))] ?_
  obtain⟨l,q30,h⟩:=h
  refine T_l1 56 36 q30 [55]<| T_ed 1 [56] [(10,vu l)]<| T_srz 12<| T_nd 1 [] [(57,.agg #[vi 0,vs none 0 0,vs none 0 0])]<| T_nw (some 11) (λb=>vp (pa b)) (.cells #[vi 0,vs none 0 0,vs none 0 0] 182) ?_
  intro j H10 e31 e32
  replace h:=h j H10 e31 e32
  refine T_pd [] [(11,vp (pa j))] ?_
  obtain⟨q34,h⟩:=h
  refine T_sta 182 [vi 0,vs none 0 0,vs none 0 0] q34 ?_
  intro ej e33
  replace h:=h ej e33
  refine T_pd [57] []<| T_e<| T_sz<| T_bz 4<| T_srz 22<| T_nd 2 [] [(106,vp hv),(107,vu l)] ?_
  refine T_c (some 108) h ?_;clear h
  rintro fe d7 ⟨ce,rfl,h⟩
  refine T_pd [106,107] [(108,.bool ce)]<| T_nd 1 [108] [(109,.bool ce)] ?_
  refine N_cut [(0,vp hv),(5,vp (pa d)),(8,vs f outN outC),(9,vi i_2),(10,vu l),(11,vp (pa j)),(105,.bool (ce && ((iand .u64 l 7)==2)))] ?_ ?_
  ·refine S_then ?_
   by_cases c37:(ce && ((iand .u64 l 7)==2))=true
   ·rw[if_pos c37]at h
    refine T_cTz 105 c37<| T_srz 23<| T_n 1 [(0,vp hv),(5,vp (pa d)),(8,vs f outN outC),(9,vi i_2),(10,vu l),(11,vp (pa j)),(114,vp (pa j))] ?_
    obtain⟨q40,h⟩:=h
    refine T_st1 3 (vi 1) q40 ?_
    intro ef e39
    replace h:=h ef e39
    refine T_pd [114] []<| T_e<| T_srz 24<| T_nd 2 [10] [(116,vp hv),(117,vu l)] ?_
    refine T_c (some 118) h ?_;clear h
    rintro fd ev ⟨ra,rb,rfl,h⟩
    refine T_pd [116,117] [(118,.tuple #[vu ra,vi rb])]<| T_ed 5 [118] [(12,vu ra)]<| T_rz 25<| T_nd 1 [] [(121,vp (pa d))] ?_
    obtain⟨bo,aj,ay,an,cg,cm,cs,q41,h⟩:=h
    refine T_lr 122 182 q41 []<| T_nd 1 [12] [(123,vu ra)] ?_
    refine T_c (some 124) h ?_;clear h
    rintro fj eh ⟨bm,ah,ax,aw,cc,cj,ck,rfl,h⟩
    refine T_pd [121,122,123] [(124,.agg #[vi bm,vs ah ax aw,vs cc cj ck])] ?_
    obtain⟨q43,h⟩:=h
    refine T_sta 182 [vi bm,vs ah ax aw,vs cc cj ck] q43 ?_
    intro d0 e42
    replace h:=h d0 e42
    refine T_pd [124] [] ?_
    refine N_end (by kernel_rfl) ?_
    refine S_blockEnd ?_
    refine S_then ?_
    refine T_rz 30<| T_nd 1 [8] [(148,vs f outN outC)] ?_
    obtain⟨b3,bf,be,bc,cv,cx,c2,q44,h⟩:=h
    refine T_lr 149 182 q44 [11]<| T_nw (some 150) (λb=>vs (pa b) 1 1) (.cells #[vi b3,vs bf be bc,vs cv cx c2] 182) ?_
    intro dy H17 e45 e46
    replace h:=h dy H17 e45 e46
    refine T_pd [149] [(150,vs (pa dy) 1 1)] ?_
    refine N_op (some 151) (appendN #[102,102] 102 #[vs f outN outC,vs (pa dy) 1 1]) _ (λ_=>by kernel_rfl) (ss_append (T:=182) (sz:=3) (bytes:=56) (zero:=(.agg #[vi 0,vs none 0 0,vs none 0 0]:Value)) Tryz.underlying102 Tryz.underlying102 rfl (show Tryz.prog.info? 182=some Tryz.t182 from by kernel_rfl) (by kernel_rfl) (by kernel_rfl) (by decide) (by kernel_rfl) (by first | exact h | (simpa only[Value.cells,List.toList_toArray]using h))) ?_;clear h
    rintro _ et ⟨ap,dt,rfl,h⟩
    refine T_pd [148,150] [(151,vs ap (outN+1) dt)]<| T_nd 1 [151] [(8,vs ap (outN+1) dt)] ?_
    refine N_end (by kernel_rfl) ?_
    refine S_blockEnd ?_
    refine S_then ?_
    refine T_rz 10<| T_ed 3 [9] [(9,vi (IntKind.wrap .i64 (i_2+1)))] ?_
    exact S_round ((ap,(outN+1),dt,(IntKind.wrap .i64 (i_2+1))):(Option Addr)×Nat×Nat×Int) sk h
   rw[if_neg c37]at h
   refine T_cFz 105 (eq_false_of_ne_true c37)<| T_srz 26<| T_n 2 [(0,vp hv),(5,vp (pa d)),(8,vs f outN outC),(9,vi i_2),(10,vu l),(11,vp (pa j)),(126,vp hv),(127,vu l)] ?_
   refine T_c (some 128) h ?_;clear h
   rintro e9 ey ⟨dm,rfl,h⟩
   refine T_pd [126,127] [(128,.bool dm)]<| T_ed 1 [128] [(125,.bool dm)] ?_
   by_cases c47:dm=true
   ·rw[if_pos c47]at h
    refine T_cTz 125 c47<| T_srz 27<| T_nd 2 [125] [(130,vp hv),(131,vu l)] ?_
    refine T_c (some 132) h ?_;clear h
    rintro fg fh ⟨bx,ea,rfl,h⟩
    refine T_pd [130,131] [(132,.tuple #[vu bx,vi ea])]<| T_ed 5 [132] [(14,vu bx)]<| T_srz 28<| T_nd 2 [10] [(136,vp hv),(137,vu l)] ?_
    refine T_c (some 138) h ?_;clear h
    rintro fc e8 ⟨cp,ec,rfl,h⟩
    refine T_pd [136,137] [(138,.tuple #[vu cp,vi ec])]<| T_ed 5 [138] [(16,vu cp)]<| T_rz 29<| T_nd 2 [] [(141,vp (pa d)),(142,vp (pa d))] ?_
    obtain⟨bt,ao,au,ag,cr,ci,cu,q49,h⟩:=h
    refine T_lr 143 182 q49 []<| T_nd 1 [14] [(144,vu bx)] ?_
    refine T_c (some 145) h ?_;clear h
    rintro fo fi ⟨b5,bd,a9,bb,c0,cz,cw,rfl,h⟩
    refine T_pd [142,143,144] [(145,.agg #[vi b5,vs bd a9 bb,vs c0 cz cw])]<| T_nd 1 [16] [(146,vu cp)] ?_
    refine T_c (some 147) h ?_;clear h
    rintro fk ei ⟨bj,ai,am,aq,ct,cd,ch,rfl,h⟩
    refine T_pd [141,145,146] [(147,.agg #[vi bj,vs ai am aq,vs ct cd ch])] ?_
    obtain⟨q51,h⟩:=h
    refine T_sta 182 [vi bj,vs ai am aq,vs ct cd ch] q51 ?_
    intro d1 e50
    replace h:=h d1 e50
    refine T_pd [147] [] ?_
    refine N_end (by kernel_rfl) ?_
    refine S_blockEnd ?_
    refine S_then ?_
    refine T_rz 30<| T_nd 1 [8] [(148,vs f outN outC)] ?_
    obtain⟨bw,a1,a0,az,b0,b4,b7,q52,h⟩:=h
    refine T_lr 149 182 q52 [11]<| T_nw (some 150) (λb=>vs (pa b) 1 1) (.cells #[vi bw,vs a1 a0 az,vs b0 b4 b7] 182) ?_
    intro d4 H25 e53 e54
    replace h:=h d4 H25 e53 e54
    refine T_pd [149] [(150,vs (pa d4) 1 1)] ?_
    refine N_op (some 151) (appendN #[102,102] 102 #[vs f outN outC,vs (pa d4) 1 1]) _ (λ_=>by kernel_rfl) (ss_append (T:=182) (sz:=3) (bytes:=56) (zero:=(.agg #[vi 0,vs none 0 0,vs none 0 0]:Value)) Tryz.underlying102 Tryz.underlying102 rfl (show Tryz.prog.info? 182=some Tryz.t182 from by kernel_rfl) (by kernel_rfl) (by kernel_rfl) (by decide) (by kernel_rfl) (by first | exact h | (simpa only[Value.cells,List.toList_toArray]using h))) ?_;clear h
    rintro _ ew ⟨dd,c4,rfl,h⟩
    refine T_pd [148,150] [(151,vs dd (outN+1) c4)]<| T_nd 1 [151] [(8,vs dd (outN+1) c4)] ?_
    refine N_end (by kernel_rfl) ?_
    refine S_blockEnd ?_
    refine S_then ?_
    refine T_rz 10<| T_ed 3 [9] [(9,vi (IntKind.wrap .i64 (i_2+1)))] ?_
    exact S_round ((dd,(outN+1),c4,(IntKind.wrap .i64 (i_2+1))):(Option Addr)×Nat×Nat×Int) sk h
   rw[if_neg c47]at h
   refine T_cFz 125 (eq_false_of_ne_true c47)<| T_srz 13<| T_nd 2 [125] [(58,vp hv),(59,vu l)] ?_
   refine T_c (some 60) h ?_;clear h
   rintro ex el ⟨dn,rfl,h⟩
   refine T_pd [58,59] [(60,vi dn)]<| T_nd 2 [60] [(61,vi (IntKind.wrap .i64 (dn+1))),(62,vp (pa j))] ?_
   obtain⟨q56,h⟩:=h
   refine T_st1 3 (vi (IntKind.wrap .i64 (dn+1))) q56 ?_
   intro ek e55
   replace h:=h ek e55
   refine T_pd [61,62] []<| T_e<| T_srz 14<| T_ed 1 [] [(18,vi 0)]<| T_bz 5 ?_
   obtain⟨dw,m68,i57,i58⟩:=h
   refine S_loop (x:=K67) (σ:=Int) (λs_=> [(0,vp hv),(5,vp (pa d)),(8,vs f outN outC),(9,vi i_2),(10,vu l),(11,vp (pa j)),(18,vi s_)]) (λs_ H=>dw s_ H) (λs_ H=>m68 s_ H) (0:Int) (by kernel_rfl) i57 sk ?_
   rintro nv H29 i59
   have h:=i58 nv H29 i59
   refine T_su [(0,vp hv),(5,vp (pa d)),(8,vs f outN outC),(9,vi i_2),(10,vu l),(11,vp (pa j)),(18,vi nv)]<| T_sz<| T_srz 15<| T_nd 3 [] [(63,vi nv),(64,vp hv),(65,vu l)] ?_
   refine T_c (some 66) h ?_;clear h
   rintro ep d9 ⟨dq,rfl,h⟩
   refine T_pd [64,65] [(66,vi dq)]<| T_ed 1 [63,66] [(67,.bool (decide (nv<dq)))] ?_
   by_cases c60:nv<dq
   ·rw[if_pos c60]at h
    refine T_cTz 67 (decide_eq_true c60)<| T_kt<| T_sz<| T_bz 6<| T_srz 17<| T_nd 4 [67] [(71,vp hv),(72,vu l),(73,vp hv),(74,vu l)] ?_
    refine T_c (some 75) h ?_;clear h
    rintro e0 fl ⟨dv,rfl,h⟩
    refine T_pd [73,74] [(75,vi dv)]<| T_nd 1 [] [(76,vi nv)] ?_
    refine T_c (some 77) h ?_;clear h
    rintro en fm ⟨q,eb,rfl,h⟩
    refine T_pd [71,72,75,76] [(77,.tuple #[vu q,vi eb])]<| T_ne 5 [(0,vp hv),(5,vp (pa d)),(8,vs f outN outC),(9,vi i_2),(10,vu l),(11,vp (pa j)),(18,vi nv),(19,vu q)]<| T_sz ?_
    obtain⟨J,h,j63⟩:=h
    refine S_join (σ:=Bool) (λs_=> [(0,vp hv),(5,vp (pa d)),(8,vs f outN outC),(9,vi i_2),(10,vu l),(11,vp (pa j)),(18,vi nv),(19,vu q),(89,.bool s_)]) (λs_ H=>J s_ H) ?_ ?_
    ·rintro dr H33 j64
     replace h:=j63 dr H33 j64
     refine T_su [(0,vp hv),(5,vp (pa d)),(8,vs f outN outC),(9,vi i_2),(10,vu l),(11,vp (pa j)),(18,vi nv),(19,vu q),(89,.bool dr)] ?_
     refine S_then ?_
     by_cases c65:dr=true
     ·rw[if_pos c65]at h
      have b66:dr=true:=c65
      refine S_env [(0,vp hv),(5,vp (pa d)),(8,vs f outN outC),(9,vi i_2),(10,vu l),(11,vp (pa j)),(18,vi nv),(19,vu q),(89,.bool true)] (by rw[b66]) ?_
      clear b66
      refine T_tz 89<| T_srz 19<| T_nd 1 [89] [(90,vp (some ((ad j).add 1)))] ?_
      obtain⟨db,bg,c8,q67,h⟩:=h
      refine T_l1 91 34 q67 [90]<| T_nd 1 [19] [(92,vu q)]<| T_nw (some 93) (λb=>vs (pa b) 1 1) (.cells #[vu q] 36) ?_
      intro dx H34 e68 e69
      replace h:=h dx H34 e68 e69
      refine T_pd [92] [(93,vs (pa dx) 1 1)] ?_
      refine N_op (some 94) (appendN #[34,34] 34 #[vs db bg c8,vs (pa dx) 1 1]) _ (λ_=>by kernel_rfl) (ss_append (T:=36) (sz:=1) (bytes:=8) (zero:=(vu 0:Value)) Tryz.underlying34 Tryz.underlying34 rfl (show Tryz.prog.info? 36=some Tryz.t36 from by kernel_rfl) (by kernel_rfl) (by kernel_rfl) (by decide) (by kernel_rfl) (by first | exact h | (simpa only[Value.cells,List.toList_toArray]using h))) ?_;clear h
      rintro _ eg ⟨dh,c6,rfl,h⟩
      refine T_pd [91,93] [(94,vs dh (bg+1) c6)]<| T_nd 1 [] [(95,vp (some ((ad j).add 1)))] ?_
      obtain⟨q71,h⟩:=h
      refine T_st1 34 (vs dh (bg+1) c6) q71 ?_
      intro d2 e70
      replace h:=h d2 e70
      refine T_pd [94,95] []<| T_e<| T_rz 20<| T_nd 1 [] [(96,vp (some ((ad j).add 2)))] ?_
      obtain⟨dg,bp,df,q72,h⟩:=h
      refine T_l1 97 52 q72 [96]<| T_nw (some 98) (λb=>vs (pa b) 1 1) (.cells #[vi 0] 3) ?_
      intro d3 H37 e73 e74
      replace h:=h d3 H37 e73 e74
      refine T_pd [] [(98,vs (pa d3) 1 1)] ?_
      refine N_op (some 99) (appendN #[52,52] 52 #[vs dg bp df,vs (pa d3) 1 1]) _ (λ_=>by kernel_rfl) (ss_append (T:=3) (sz:=1) (bytes:=8) (zero:=(vi 0:Value)) Tryz.underlying52 Tryz.underlying52 rfl (show Tryz.prog.info? 3=some Tryz.t3 from by kernel_rfl) (by kernel_rfl) (by kernel_rfl) (by decide) (by kernel_rfl) (by first | exact h | (simpa only[Value.cells,List.toList_toArray]using h))) ?_;clear h
      rintro _ ee ⟨di,c5,rfl,h⟩
      refine T_pd [97,98] [(99,vs di (bp+1) c5)]<| T_nd 1 [] [(100,vp (some ((ad j).add 2)))] ?_
      obtain⟨q76,h⟩:=h
      refine T_st1 52 (vs di (bp+1) c5) q76 ?_
      intro d5 e75
      replace h:=h d5 e75
      refine T_pd [99,100] [] ?_
      refine N_end (by kernel_rfl) ?_
      refine S_blockEnd ?_
      refine S_then ?_
      refine T_rz 16<| T_ed 3 [18] [(18,vi (IntKind.wrap .i64 (nv+1)))] ?_
      exact S_round ((IntKind.wrap .i64 (nv+1)):Int) sk h
     rw[if_neg c65]at h
     have b66:dr=false:=eq_false_of_ne_true c65
     refine S_env [(0,vp hv),(5,vp (pa d)),(8,vs f outN outC),(9,vi i_2),(10,vu l),(11,vp (pa j)),(18,vi nv),(19,vu q),(89,.bool false)] (by rw[b66]) ?_
     clear b66
     refine T_fz 89<| T_rz 21<| T_nd 1 [89] [(101,vp (pa d))] ?_
     obtain⟨a6,ac,aa,ae,bl,bk,bu,q77,h⟩:=h
     refine T_lr 102 182 q77 []<| T_nd 1 [19] [(103,vu q)] ?_
     refine T_c (some 104) h ?_;clear h
     rintro eu em ⟨a5,z,ab,af,bq,bi,bs,rfl,h⟩
     refine T_pd [101,102,103] [(104,.agg #[vi a5,vs z ab af,vs bq bi bs])] ?_
     obtain⟨q79,h⟩:=h
     refine T_sta 182 [vi a5,vs z ab af,vs bq bi bs] q79 ?_
     intro d8 e78
     replace h:=h d8 e78
     refine T_pd [104] [] ?_
     refine N_end (by kernel_rfl) ?_
     refine S_blockEnd ?_
     refine S_then ?_
     refine T_rz 16<| T_ed 3 [18] [(18,vi (IntKind.wrap .i64 (nv+1)))] ?_
     exact S_round ((IntKind.wrap .i64 (nv+1)):Int) sk h
    refine T_rz 18<| T_n 2 [(0,vp hv),(5,vp (pa d)),(8,vs f outN outC),(9,vi i_2),(10,vu l),(11,vp (pa j)),(18,vi nv),(19,vu q),(80,vp hv),(81,vu l)] ?_
    refine T_c (some 82) h ?_;clear h
    rintro ez er ⟨dl,rfl,h⟩
    refine T_pd [80,81] [(82,vi dl)]<| T_nd 2 [82] [(84,.bool (dl==2))] ?_
    by_cases c80:dl=2
    ·rw[if_pos c80]at h
     refine N_bd 84 (beq_iff_eq.mpr c80)<| T_ed 5 [84] [(89,.bool true)] ?_
     exact S_meet (true:Bool) sk h
    rw[if_neg c80]at h
    refine N_bd 84 (beq_eq_false_iff_ne.mpr c80)<| T_nd 2 [] [(85,vp hv),(86,vu l)] ?_
    refine T_c (some 87) h ?_;clear h
    rintro es ff ⟨dz,rfl,h⟩
    refine T_pd [85,86] [(87,vi dz)]<| T_ed 2 [84,87] [(89,.bool (dz==3))] ?_
    exact S_meet ((dz==3):Bool) sk h
   rw[if_neg c60]at h
   refine T_cFz 67 (decide_eq_false c60) ?_
   refine S_exit 5 (by kernel_rfl) ?_
   refine S_exitThen ?_
   refine S_exitThen ?_
   refine S_exitHere ?_
   refine S_blockEnd ?_
   refine S_then ?_
   refine T_rz 30<| T_nd 1 [8,10,18,67] [(148,vs f outN outC)] ?_
   obtain⟨bn,a3,a4,a2,b1,b6,bz,q82,h⟩:=h
   refine T_lr 149 182 q82 [11]<| T_nw (some 150) (λb=>vs (pa b) 1 1) (.cells #[vi bn,vs a3 a4 a2,vs b1 b6 bz] 182) ?_
   intro dk H44 e83 e84
   replace h:=h dk H44 e83 e84
   refine T_pd [149] [(150,vs (pa dk) 1 1)] ?_
   refine N_op (some 151) (appendN #[102,102] 102 #[vs f outN outC,vs (pa dk) 1 1]) _ (λ_=>by kernel_rfl) (ss_append (T:=182) (sz:=3) (bytes:=56) (zero:=(.agg #[vi 0,vs none 0 0,vs none 0 0]:Value)) Tryz.underlying102 Tryz.underlying102 rfl (show Tryz.prog.info? 182=some Tryz.t182 from by kernel_rfl) (by kernel_rfl) (by kernel_rfl) (by decide) (by kernel_rfl) (by first | exact h | (simpa only[Value.cells,List.toList_toArray]using h))) ?_;clear h
   rintro _ eo ⟨de,c7,rfl,h⟩
   refine T_pd [148,150] [(151,vs de (outN+1) c7)]<| T_nd 1 [151] [(8,vs de (outN+1) c7)] ?_
   refine N_end (by kernel_rfl) ?_
   refine S_blockEnd ?_
   refine S_then ?_
   refine T_rz 10<| T_ed 3 [9] [(9,vi (IntKind.wrap .i64 (i_2+1)))] ?_
   exact S_round ((de,(outN+1),c7,(IntKind.wrap .i64 (i_2+1))):(Option Addr)×Nat×Nat×Int) sk h
  intro hk
  refine T_nu [(0,vp hv),(5,vp (pa d)),(8,vs f outN outC),(9,vi i_2),(10,vu l),(11,vp (pa j)),(109,.bool ce)] ?_
  by_cases c35:ce=true
  ·have b36:ce=true:=c35
   refine N_env [(0,vp hv),(5,vp (pa d)),(8,vs f outN outC),(9,vi i_2),(10,vu l),(11,vp (pa j)),(109,.bool true)] (by rw[b36]) ?_
   refine T_nd 5 [109] [(105,.bool ((iand .u64 l 7)==2))] ?_
   refine N_end (by kernel_rfl) ?_
   refine S_bd 105 (b:=((iand .u64 l 7)==2)) (v:=(ce && ((iand .u64 l 7)==2))) (by simp only[b36,BL]) ?_
   exact hk
  have b36:ce=false:=eq_false_of_ne_true c35
  refine N_env [(0,vp hv),(5,vp (pa d)),(8,vs f outN outC),(9,vi i_2),(10,vu l),(11,vp (pa j)),(109,.bool false)] (by rw[b36]) ?_
  refine T_nd 5 [109] [(105,.bool false)] ?_
  refine N_end (by kernel_rfl) ?_
  refine S_bd 105 (b:=false) (v:=(ce && ((iand .u64 l 7)==2))) (by simp only[b36,BL]) ?_
  exact hk
 rw[if_neg c26]at h
 refine T_cFz 47 (decide_eq_false c26) ?_
 refine S_exit 2 (by kernel_rfl) ?_
 refine S_exitThen ?_
 refine S_exitThen ?_
 refine S_exitHere ?_
 refine S_then ?_
 exact T_srz 31<| T_nr 2 [4] [vs f outN outC] hQ h
end morainelaw11_picture

/-! moraine/morainelaw11.Word -/
namespace morainelaw11_Word
def K0:=Func.code Tryz.f98
end morainelaw11_Word
def morainelaw11_Word.pt(vW ag:Int)(j:Option Addr)(d f:Nat)(H:Array Obj)(R:Value->Array Obj->Prop):Prop:=
 ∀(b:Nat) (H1:Array Obj),b=H.size->H1=H.push (.cells #[.int .u64 vW,.int .i64 ag] 95)->
 ∃x:Int,hat H1 ((ad b).add 1)=some (.int .i64 x)/\
 if((decide (x>0)) && (decide ((d:Int)>0)))=true then(
 ∃o:Int,hat H1 ((ad b).add 1)=some (.int .i64 o)/\
 ((d:Int)≠0)/\
 ∃n:Addr,j=some n/\
 ((0:Int)<=(Int.tmod (IntKind.wrap .i64 (o-1)) (d:Int))/\(Int.tmod (IntKind.wrap .i64 (o-1)) (d:Int))< (d:Int))/\
 ∃ab:Int,hat H1 (n.add (Int.toNat (Int.tmod (IntKind.wrap .i64 (o-1)) (d:Int))*1))=some (.int .u64 ab)/\
 R (.int .u64 ab) H1)
 else
 ∃m:Int,hat H1 (ad b)=some (.int .u64 m)/\
 if(iand .u64 m 7)=0 then(
 ∃af:Int,hat H1 (ad b)=some (.int .u64 af)/\
 moraineref01_Of.C af H1 (λv H2=> ∃p ak xA xX ah:Int,v=.agg #[.int .i64 p,.int .i64 ak,.int .i64 xA,.int .i64 xX,.int .u64 ah]/\
 if p=0 then(
 ∃z:Int,hat H2 (ad b)=some (.int .u64 z)/\
 R (.int .u64 (iandnot .u64 z 7)) H2)
 else
 ∃ac:Int,hat H2 (ad b)=some (.int .u64 ac)/\
 R (.int .u64 ac) H2))
 else
 if(iand .u64 m 7)=4 then(
 ∃ae:Int,hat H1 (ad b)=some (.int .u64 ae)/\
 moraineref01_Of.C ae H1 (λal H3=> ∃l aa aj ai s:Int,al=.agg #[.int .i64 l,.int .i64 aa,.int .i64 aj,.int .i64 ai,.int .u64 s]/\
 if l=0 then(
 ∃u:Int,hat H3 (ad b)=some (.int .u64 u)/\
 R (.int .u64 (iandnot .u64 u 7)) H3)
 else
 ∃q:Int,hat H3 (ad b)=some (.int .u64 q)/\
 R (.int .u64 q) H3))
 else
 ∃r:Int,hat H1 (ad b)=some (.int .u64 r)/\
 R (.int .u64 (iandnot .u64 r 7)) H1
namespace morainelaw11_Word
set_option maxRecDepth 100000 in
theorem link{vW ag:Int}{j:Option Addr}{d f:Nat}{H:Array Obj}{R:Value->Array Obj->Prop}(h:pt vW ag j d f H R):C vW ag j d f H R:=by
 refine T_en K0 44 Tryz.func98 ?_
 intro w0 Q hQ
 unfold pt at h
 refine T_su [(0,.agg #[vu vW,vi ag]),(1,vs j d f)]<| T_srz 0<| T_nw (some 2) (λb=>vp (pa b)) (.cells #[vu vW,vi ag] 95) ?_
 intro b H1 e1 e2
 replace h:=h b H1 e1 e2
 refine T_pd [0] [(2,vp (pa b))]<| T_ed 1 [] []<| T_sz<| T_srz 1<| T_nd 1 [] [(6,vp (some ((ad b).add 1)))] ?_
 obtain⟨x,q3,h⟩:=h
 refine T_l1 7 3 q3 [6]<| T_nd 2 [7] [(9,.bool (decide (x>0)))] ?_
 refine N_cut [(1,vs j d f),(2,vp (pa b)),(13,.bool ((decide (x>0)) && (decide ((d:Int)>0))))] ?_ ?_
 ·refine S_then ?_
  by_cases c6:((decide (x>0)) && (decide ((d:Int)>0)))=true
  ·rw[if_pos c6]at h
   refine T_cTz 13 c6<| T_srz 2<| T_n 2 [(1,vs j d f),(14,vs j d f),(15,vp (some ((ad b).add 1)))] ?_
   obtain⟨o,q8,h⟩:=h
   refine T_l1 16 3 q8 [15]<| T_nd 3 [1,16] [(17,vi (IntKind.wrap .i64 (o-1))),(19,vi d)] ?_
   obtain⟨q9,h⟩:=h
   refine T_v1 20 (binN .rem 3 (vi (IntKind.wrap .i64 (o-1))) (vi d)) (vi (Int.tmod (IntKind.wrap .i64 (o-1)) (d:Int))) (λw _=>rem_run (P:=Tryz.prog) (t:=3) (k:=.i64) (x:=(IntKind.wrap .i64 (o-1))) (y:=(d:Int)) q9 w) [17,19] ?_
   obtain⟨n,rfl,h⟩:=h
   obtain⟨q10,h⟩:=h
   refine T_ix (some 21) 34 36 1 n d f .i64 (Int.tmod (IntKind.wrap .i64 (o-1)) (d:Int)) Tryz.underlying34 q10.1 q10.2 [(21,vp (some (n.add (Int.toNat (Int.tmod (IntKind.wrap .i64 (o-1)) (d:Int))*1))))] ?_
   obtain⟨ab,q11,h⟩:=h
   exact T_l1 22 36 q11 [21]<| T_nr 1 [4] [vu ab] hQ h
  rw[if_neg c6]at h
  refine T_cFz 13 (eq_false_of_ne_true c6)<| T_kt<| T_sz<| T_srz 3<| T_n 1 [(2,vp (pa b)),(23,vp (pa b))] ?_
  obtain⟨m,q12,h⟩:=h
  refine T_l1 24 36 q12 [23]<| T_ed 2 [24] [(5,vu (iand .u64 m 7))]<| T_srz 4<| T_nd 3 [] [(28,.bool ((iand .u64 m 7) !=0))] ?_
  by_cases c13:(iand .u64 m 7)=0
  ·rw[if_pos c13]at h
   refine N_bd 28 (bne_eq_false_iff_eq.mpr c13)<| T_nd 5 [5,28] [(32,.bool false),(33,vp (pa b))] ?_
   obtain⟨af,q15,h⟩:=h
   refine T_l1 34 36 q15 [33] ?_
   refine T_c (some 35) h ?_;clear h
   rintro v H2 ⟨p,ak,xA,xX,ah,rfl,h⟩
   refine T_pd [34] [(35,.agg #[vi p,vi ak,vi xA,vi xX,vu ah])]<| T_ed 3 [32,35] [(38,.bool (p==0))] ?_
   by_cases c16:p=0
   ·rw[if_pos c16]at h
    refine T_cTz 38 (beq_iff_eq.mpr c16)<| T_srz 5<| T_n 1 [(39,vp (pa b))] ?_
    obtain⟨z,q18,h⟩:=h
    exact T_l1 40 36 q18 [39]<| T_nr 2 [4] [vu (iandnot .u64 z 7)] hQ h
   rw[if_neg c16]at h
   refine T_cFz 38 (beq_eq_false_iff_ne.mpr c16)<| T_kt<| T_srz 6<| T_n 1 [(42,vp (pa b))] ?_
   obtain⟨ac,q19,h⟩:=h
   exact T_l1 43 36 q19 [42]<| T_nr 1 [4] [vu ac] hQ h
  rw[if_neg c13]at h
  refine N_bd 28 (bne_iff_ne.mpr c13)<| T_nd 4 [5,28] [(32,.bool ((iand .u64 m 7) !=4))] ?_
  by_cases c20:(iand .u64 m 7)=4
  ·rw[if_pos c20]at h
   refine N_bd 32 (bne_eq_false_iff_eq.mpr c20)<| T_nd 1 [] [(33,vp (pa b))] ?_
   obtain⟨ae,q22,h⟩:=h
   refine T_l1 34 36 q22 [33] ?_
   refine T_c (some 35) h ?_;clear h
   rintro al H3 ⟨l,aa,aj,ai,s,rfl,h⟩
   refine T_pd [34] [(35,.agg #[vi l,vi aa,vi aj,vi ai,vu s])]<| T_ed 3 [32,35] [(38,.bool (l==0))] ?_
   by_cases c23:l=0
   ·rw[if_pos c23]at h
    refine T_cTz 38 (beq_iff_eq.mpr c23)<| T_srz 5<| T_n 1 [(39,vp (pa b))] ?_
    obtain⟨u,q25,h⟩:=h
    exact T_l1 40 36 q25 [39]<| T_nr 2 [4] [vu (iandnot .u64 u 7)] hQ h
   rw[if_neg c23]at h
   refine T_cFz 38 (beq_eq_false_iff_ne.mpr c23)<| T_kt<| T_srz 6<| T_n 1 [(42,vp (pa b))] ?_
   obtain⟨q,q26,h⟩:=h
   exact T_l1 43 36 q26 [42]<| T_nr 1 [4] [vu q] hQ h
  rw[if_neg c20]at h
  refine N_bd 32 (bne_iff_ne.mpr c20)<| T_ed 6 [32] [(38,.bool true)]<| T_tz 38<| T_srz 5<| T_n 1 [(39,vp (pa b))] ?_
  obtain⟨r,q27,h⟩:=h
  exact T_l1 40 36 q27 [39]<| T_nr 2 [4] [vu (iandnot .u64 r 7)] hQ h
 intro hk
 refine T_nu [(1,vs j d f),(2,vp (pa b)),(9,.bool (decide (x>0)))] ?_
 by_cases c4:x>0
 ·have b5:(decide (x>0))=true:=decide_eq_true c4
  refine N_env [(1,vs j d f),(2,vp (pa b)),(9,.bool true)] (by rw[b5]) ?_
  refine T_nd 4 [9] [(13,.bool (decide ((d:Int)>0)))] ?_
  refine N_end (by kernel_rfl) ?_
  refine S_bd 13 (b:=(decide ((d:Int)>0))) (v:=((decide (x>0)) && (decide ((d:Int)>0)))) (by simp only[b5,BL]) ?_
  exact hk
 have b5:(decide (x>0))=false:=decide_eq_false c4
 refine N_env [(1,vs j d f),(2,vp (pa b)),(9,.bool false)] (by rw[b5]) ?_
 refine T_nd 4 [9] [(13,.bool false)] ?_
 refine N_end (by kernel_rfl) ?_
 refine S_bd 13 (b:=false) (v:=((decide (x>0)) && (decide ((d:Int)>0)))) (by simp only[b5,BL]) ?_
 exact hk
end morainelaw11_Word

/-! moraine/morainelaw11.words -/
namespace morainelaw11_words
def K0:=Func.code Tryz.f100
def K2:=cb K0
def K4:=cb K2
def K5:=ca K4
def K8:=cb K5
def K9:=ca K8
def K10:=ca K9
end morainelaw11_words
def morainelaw11_words.pt(lB:Option Addr)(lN lC:Nat)(j:Option Addr)(d f:Nat)(H:Array Obj)(R:Value->Array Obj->Prop):Prop:=
 ∃(p:(Option Addr)->Nat->Nat->Int->Array Obj->Prop) (m11:(Option Addr)->Nat->Nat->Int->Array Obj->Nat),p none 0 0 0 H/\ ∀(l:Option Addr) (outN:Nat) (outC:Nat) (i:Int) (H1:Array Obj),p l outN outC i H1->
 if((decide (i< (lN:Int))) && (decide (i<62)))=true then(
 ∃m:Addr,lB=some m/\
 ((0:Int)<=i/\i< (lN:Int))/\
 ∃xW o:Int,RowAt H1 (m.add (Int.toNat i*2)) 0 [.int .u64 xW,.int .i64 o]/\
 morainelaw11_Word.C xW o j d f H1 (λv H2=> ∃x:Int,v=.int .u64 x/\
 ∀(b:Nat) (H3:Array Obj),b=H2.size->H3=H2.push (.cells #[.int .u64 x] 36)->
 appendK 1 36 8 [.int .u64 0] l outN outC (some (ad b)) 1 H3 (λap n H4=>
 (p ap (outN+1) n (IntKind.wrap .i64 (i+1)) H4/\m11 ap (outN+1) n (IntKind.wrap .i64 (i+1)) H4<m11 l outN outC i H1))))
 else
 R (.slice l outN outC) H1
namespace morainelaw11_words
set_option maxRecDepth 100000 in
theorem link{lB:Option Addr}{lN lC:Nat}{j:Option Addr}{d f:Nat}{H:Array Obj}{R:Value->Array Obj->Prop}(h:pt lB lN lC j d f H R):C lB lN lC j d f H R:=by
 refine T_en K0 27 Tryz.func100 ?_
 intro w0 Q hQ
 unfold pt at h
 refine T_su [(0,vs lB lN lC),(1,vs j d f)]<| T_srz 0<| T_ed 1 [] []<| T_srz 1<| T_ed 1 [] [(5,vs none 0 0)]<| T_sz<| T_srz 2<| T_ed 1 [] [(6,vi 0)]<| T_bz 0 ?_
 obtain⟨p,m11,i1,i2⟩:=h
 refine S_loop (x:=K10) (σ:=(Option Addr)×Nat×Nat×Int) (λs_=> [(0,vs lB lN lC),(1,vs j d f),(5,vs s_.1 s_.2.1 s_.2.2.1),(6,vi s_.2.2.2)]) (λs_ H=>p s_.1 s_.2.1 s_.2.2.1 s_.2.2.2 H) (λs_ H=>m11 s_.1 s_.2.1 s_.2.2.1 s_.2.2.2 H) ((none,0,0,0):(Option Addr)×Nat×Nat×Int) (by kernel_rfl) i1 sk ?_
 rintro⟨l,outN,outC,i⟩ H1 i3
 have h:=i2 l outN outC i H1 i3
 refine T_su [(0,vs lB lN lC),(1,vs j d f),(5,vs l outN outC),(6,vi i)]<| T_sz<| T_srz 3 ?_
 refine N_cut [(0,vs lB lN lC),(1,vs j d f),(5,vs l outN outC),(6,vi i),(14,.bool ((decide (i< (lN:Int))) && (decide (i<62))))] ?_ ?_
 ·refine S_then ?_
  by_cases c6:((decide (i< (lN:Int))) && (decide (i<62)))=true
  ·rw[if_pos c6]at h
   refine T_cTz 14 c6<| T_kt<| T_sz<| T_bz 1<| T_rz 5<| T_n 3 [(0,vs lB lN lC),(1,vs j d f),(6,vi i),(17,vs l outN outC),(18,vs lB lN lC),(19,vi i)] ?_
   obtain⟨m,rfl,h⟩:=h
   obtain⟨q8,h⟩:=h
   refine T_xd (some 20) 96 95 2 m lN lC .i64 i Tryz.underlying96 q8.1 q8.2 [0,18,19] [(0,vs (some m) lN lC),(20,vp (some (m.add (Int.toNat i*2))))] ?_
   obtain⟨xW,o,q9,h⟩:=h
   refine T_lr 21 95 q9 [20]<| T_nd 1 [] [(22,vs j d f)] ?_
   refine T_c (some 23) h ?_;clear h
   rintro v H2 ⟨x,rfl,h⟩
   refine T_pd [21,22] [(23,vu x)]<| T_nw (some 24) (λb=>vs (pa b) 1 1) (.cells #[vu x] 36) ?_
   intro b H3 e10 e11
   replace h:=h b H3 e10 e11
   refine T_pd [23] [(24,vs (pa b) 1 1)] ?_
   refine N_op (some 25) (appendN #[34,34] 34 #[vs l outN outC,vs (pa b) 1 1]) _ (λ_=>by kernel_rfl) (ss_append (T:=36) (sz:=1) (bytes:=8) (zero:=(vu 0:Value)) Tryz.underlying34 Tryz.underlying34 rfl (show Tryz.prog.info? 36=some Tryz.t36 from by kernel_rfl) (by kernel_rfl) (by kernel_rfl) (by decide) (by kernel_rfl) (by first | exact h | (simpa only[Value.cells,List.toList_toArray]using h))) ?_;clear h
   rintro _ H4 ⟨ap,n,rfl,h⟩
   refine T_pd [17,24] [(25,vs ap (outN+1) n)]<| T_nd 1 [25] [(5,vs ap (outN+1) n)] ?_
   refine N_end (by kernel_rfl) ?_
   refine S_blockEnd ?_
   refine S_then ?_
   refine T_rz 4<| T_ed 3 [6] [(6,vi (IntKind.wrap .i64 (i+1)))] ?_
   exact S_round ((ap,(outN+1),n,(IntKind.wrap .i64 (i+1))):(Option Addr)×Nat×Nat×Int) sk h
  rw[if_neg c6]at h
  refine T_cFz 14 (eq_false_of_ne_true c6) ?_
  refine S_exit 0 (by kernel_rfl) ?_
  refine S_exitThen ?_
  refine S_exitThen ?_
  refine S_exitHere ?_
  refine S_then ?_
  exact T_srz 6<| T_nr 2 [4] [vs l outN outC] hQ h
 intro hk
 refine T_n 5 [(0,vs lB lN lC),(1,vs j d f),(5,vs l outN outC),(6,vi i),(11,.bool (decide (i< (lN:Int))))] ?_
 by_cases c4:i< (lN:Int)
 ·have b5:(decide (i< (lN:Int)))=true:=decide_eq_true c4
  refine N_env [(0,vs lB lN lC),(1,vs j d f),(5,vs l outN outC),(6,vi i),(11,.bool true)] (by rw[b5]) ?_
  refine T_nd 3 [11] [(14,.bool (decide (i<62)))] ?_
  refine N_end (by kernel_rfl) ?_
  refine S_bd 14 (b:=(decide (i<62))) (v:=((decide (i< (lN:Int))) && (decide (i<62)))) (by simp only[b5,BL]) ?_
  exact hk
 have b5:(decide (i< (lN:Int)))=false:=decide_eq_false c4
 refine N_env [(0,vs lB lN lC),(1,vs j d f),(5,vs l outN outC),(6,vi i),(11,.bool false)] (by rw[b5]) ?_
 refine T_nd 3 [11] [(14,.bool false)] ?_
 refine N_end (by kernel_rfl) ?_
 refine S_bd 14 (b:=false) (v:=((decide (i< (lN:Int))) && (decide (i<62)))) (by simp only[b5,BL]) ?_
 exact hk
end morainelaw11_words

/-! moraine/morainelaw11.kind -/
namespace morainelaw11_kind
def K0:=Func.code Tryz.f99
end morainelaw11_kind
def morainelaw11_kind.pt(nv:Int)(H:Array Obj)(R:Value->Array Obj->Prop):Prop:=
 ∀(b:Nat) (H1:Array Obj),b=H.size->H1=H.push (.cells #[.int .i64 1,.int .i64 5,.int .i64 2] 3)->
 ((0:Int)<=(Int.tmod (iand .i64 nv 65535) 3)/\(Int.tmod (iand .i64 nv 65535) 3)< (3:Int))/\
 ∃x:Int,hat H1 ((ad b).add (Int.toNat (Int.tmod (iand .i64 nv 65535) 3)*1))=some (.int .i64 x)/\
 R (.int .i64 x) H1
namespace morainelaw11_kind
set_option maxRecDepth 100000 in
theorem link{nv:Int}{H:Array Obj}{R:Value->Array Obj->Prop}(h:pt nv H R):C nv H R:=by
 refine T_en K0 9 Tryz.func99 ?_
 intro w0 Q hQ
 unfold pt at h
 refine T_su [(0,vi nv)]<| T_srz 0<| T_ed 1 [] []<| T_srz 1<| T_nw (some 3) (λb=>vs (pa b) 3 3) (.cells #[vi 1,vi 5,vi 2] 3) ?_
 intro b H1 e1 e2
 replace h:=h b H1 e1 e2
 refine T_pd [] [(3,vs (pa b) 3 3)]<| T_nd 3 [0] [(6,vi (Int.tmod (iand .i64 nv 65535) 3))] ?_
 obtain⟨q3,h⟩:=h
 refine T_ix (some 7) 52 3 1 (ad b) 3 3 .i64 (Int.tmod (iand .i64 nv 65535) 3) Tryz.underlying52 q3.1 q3.2 [(7,vp (some ((ad b).add (Int.toNat (Int.tmod (iand .i64 nv 65535) 3)*1))))] ?_
 obtain⟨x,q4,h⟩:=h
 exact T_l1 8 3 q4 [7]<| T_nr 1 [2] [vi x] hQ h
end morainelaw11_kind

/-! moraine/morainelaw11.Set -/
namespace morainelaw11_Set
def K0:=Func.code Tryz.f101
end morainelaw11_Set
def morainelaw11_Set.pt(hv:Option Addr)(wv nv v:Int)(H:Array Obj)(R:Value->Array Obj->Prop):Prop:=
 obj_Heap_Pair.C hv wv H (λah H1=> ∃x:Bool,ah=.bool x/\
 if(x && ((iand .i64 (iand .i64 nv 65535) 1)==0))=true then(
 obj_Heap_SetCar.C hv wv v H1 (λae H2=> ∃o:Int,ae=.int .i64 o/\
 R (.int .i64 o) H2))
 else
 obj_Heap_Pair.C hv wv H1 (λaf H3=> ∃l:Bool,af=.bool l/\
 if l=true then(
 obj_Heap_SetCdr.C hv wv v H3 (λaa H4=> ∃n:Int,aa=.int .i64 n/\
 R (.int .i64 n) H4))
 else
 obj_Heap_Type.C hv wv H3 (λu H5=> ∃j:Int,u=.int .i64 j/\
 if j=0 then(
 R (.int .i64 3) H5)
 else
 obj_Heap_Len.C hv wv H5 (λz H6=> ∃i:Int,z=.int .i64 i/\
 if i=0 then(
 R (.int .i64 3) H6)
 else
 obj_Heap_Type.C hv wv H6 (λab H7=> ∃m:Int,ab=.int .i64 m/\
 if m=2 then(
 R (.int .i64 3) H7)
 else
 obj_Heap_Type.C hv wv H7 (λag H8=> ∃f:Int,ag=.int .i64 f/\
 if f=10 then(
 R (.int .i64 3) H8)
 else
 obj_Heap_Type.C hv wv H8 (λp H9=> ∃b:Int,p=.int .i64 b/\
 obj_Heap_Len.C hv wv H9 (λr ac=> ∃a:Int,r=.int .i64 a/\
 (a≠0)/\
 obj_Heap_Set.C hv wv b (Int.tmod (iand .i64 nv 65535) a) v ac (λq s=> ∃d:Int,q=.int .i64 d/\
 R (.int .i64 d) s)))))))))
namespace morainelaw11_Set
set_option maxRecDepth 100000 in
theorem link{hv:Option Addr}{wv nv v:Int}{H:Array Obj}{R:Value->Array Obj->Prop}(h:pt hv wv nv v H R):C hv wv nv v H R:=by
 refine T_en K0 67 Tryz.func101 ?_
 intro w0 Q hQ
 unfold pt at h
 refine T_su [(0,vp hv),(1,vu wv),(2,vi nv),(3,vu v)]<| T_srz 0<| T_ed 1 [] []<| T_srz 1<| T_ed 3 [2] [(2,vi (iand .i64 nv 65535))]<| T_sz<| T_bz 0<| T_srz 2<| T_nd 2 [] [(12,vp hv),(13,vu wv)] ?_
 refine T_c (some 14) h ?_;clear h
 rintro ah H1 ⟨x,rfl,h⟩
 refine T_pd [12,13] [(14,.bool x)]<| T_nd 1 [14] [(15,.bool x)] ?_
 refine N_cut [(0,vp hv),(1,vu wv),(2,vi (iand .i64 nv 65535)),(3,vu v),(11,.bool (x && ((iand .i64 (iand .i64 nv 65535) 1)==0)))] ?_ ?_
 ·refine S_then ?_
  by_cases c3:(x && ((iand .i64 (iand .i64 nv 65535) 1)==0))=true
  ·rw[if_pos c3]at h
   refine T_cTz 11 c3<| T_srz 3<| T_n 3 [(20,vp hv),(21,vu wv),(22,vu v)] ?_
   refine T_c (some 23) h ?_;clear h
   rintro ae H2 ⟨o,rfl,h⟩
   refine⟨[(23,vi o)],pk,?_⟩
   exact T_nr 1 [8] [vi o] hQ h
  rw[if_neg c3]at h
  refine T_cFz 11 (eq_false_of_ne_true c3)<| T_srz 4<| T_n 2 [(0,vp hv),(1,vu wv),(2,vi (iand .i64 nv 65535)),(3,vu v),(25,vp hv),(26,vu wv)] ?_
  refine T_c (some 27) h ?_;clear h
  rintro af H3 ⟨l,rfl,h⟩
  refine T_pd [25,26] [(27,.bool l)]<| T_ed 1 [27] [(24,.bool l)] ?_
  by_cases c5:l=true
  ·rw[if_pos c5]at h
   refine T_cTz 24 c5<| T_srz 5<| T_n 3 [(28,vp hv),(29,vu wv),(30,vu v)] ?_
   refine T_c (some 31) h ?_;clear h
   rintro aa H4 ⟨n,rfl,h⟩
   refine⟨[(31,vi n)],pk,?_⟩
   exact T_nr 1 [8] [vi n] hQ h
  rw[if_neg c5]at h
  refine T_cFz 24 (eq_false_of_ne_true c5)<| T_srz 6<| T_nd 2 [24] [(33,vp hv),(34,vu wv)] ?_
  refine T_c (some 35) h ?_;clear h
  rintro u H5 ⟨j,rfl,h⟩
  refine T_pd [33,34] [(35,vi j)]<| T_nd 2 [35] [(37,.bool (j==0))] ?_
  by_cases c7:j=0
  ·rw[if_pos c7]at h
   exact N_bd 37 (beq_iff_eq.mpr c7)<| T_ed 18 [37] [(32,.bool true)]<| T_tz 32<| T_srz 7<| T_nr 1 [8] [vi 3] hQ h
  rw[if_neg c7]at h
  refine N_bd 37 (beq_eq_false_iff_ne.mpr c7)<| T_nd 2 [] [(38,vp hv),(39,vu wv)] ?_
  refine T_c (some 40) h ?_;clear h
  rintro z H6 ⟨i,rfl,h⟩
  refine T_pd [38,39] [(40,vi i)]<| T_nd 3 [37,40] [(43,.bool (i==0))] ?_
  by_cases c9:i=0
  ·rw[if_pos c9]at h
   exact N_bd 43 (beq_iff_eq.mpr c9)<| T_ed 12 [43] [(32,.bool true)]<| T_tz 32<| T_srz 7<| T_nr 1 [8] [vi 3] hQ h
  rw[if_neg c9]at h
  refine N_bd 43 (beq_eq_false_iff_ne.mpr c9)<| T_nd 2 [] [(44,vp hv),(45,vu wv)] ?_
  refine T_c (some 46) h ?_;clear h
  rintro ab H7 ⟨m,rfl,h⟩
  refine T_pd [44,45] [(46,vi m)]<| T_nd 3 [43,46] [(49,.bool (m==2))] ?_
  by_cases c11:m=2
  ·rw[if_pos c11]at h
   exact N_bd 49 (beq_iff_eq.mpr c11)<| T_ed 6 [49] [(32,.bool true)]<| T_tz 32<| T_srz 7<| T_nr 1 [8] [vi 3] hQ h
  rw[if_neg c11]at h
  refine N_bd 49 (beq_eq_false_iff_ne.mpr c11)<| T_nd 2 [] [(50,vp hv),(51,vu wv)] ?_
  refine T_c (some 52) h ?_;clear h
  rintro ag H8 ⟨f,rfl,h⟩
  refine T_pd [50,51] [(52,vi f)]<| T_ed 3 [49,52] [(32,.bool (f==10))] ?_
  by_cases c13:f=10
  ·rw[if_pos c13]at h
   exact T_cTz 32 (beq_iff_eq.mpr c13)<| T_srz 7<| T_nr 1 [8] [vi 3] hQ h
  rw[if_neg c13]at h
  refine T_cFz 32 (beq_eq_false_iff_ne.mpr c13)<| T_k ?_
  refine S_blockEnd ?_
  refine S_then ?_
  refine T_srz 8<| T_nd 4 [32] [(55,vp hv),(56,vu wv),(57,vp hv),(58,vu wv)] ?_
  refine T_c (some 59) h ?_;clear h
  rintro p H9 ⟨b,rfl,h⟩
  refine T_pd [57,58] [(59,vi b)]<| T_nd 3 [0,1,2] [(60,vi (iand .i64 nv 65535)),(61,vp hv),(62,vu wv)] ?_
  refine T_c (some 63) h ?_;clear h
  rintro r ac ⟨a,rfl,h⟩
  refine T_pd [61,62] [(63,vi a)] ?_
  obtain⟨q15,h⟩:=h
  refine T_v1 64 (binN .rem 3 (vi (iand .i64 nv 65535)) (vi a)) (vi (Int.tmod (iand .i64 nv 65535) a)) (λw _=>rem_run (P:=Tryz.prog) (t:=3) (k:=.i64) (x:=(iand .i64 nv 65535)) (y:=a) q15 w) [60,63]<| T_nd 1 [3] [(65,vu v)] ?_
  refine T_c (some 66) h ?_;clear h
  rintro q s ⟨d,rfl,h⟩
  refine⟨[(66,vi d)],pk,?_⟩
  exact T_nr 1 [8] [vi d] hQ h
 intro hk
 refine T_nu [(0,vp hv),(1,vu wv),(2,vi (iand .i64 nv 65535)),(3,vu v),(15,.bool x)] ?_
 by_cases c1:x=true
 ·have b2:x=true:=c1
  refine N_env [(0,vp hv),(1,vu wv),(2,vi (iand .i64 nv 65535)),(3,vu v),(15,.bool true)] (by rw[b2]) ?_
  refine T_nd 5 [15] [(11,.bool ((iand .i64 (iand .i64 nv 65535) 1)==0))] ?_
  refine N_end (by kernel_rfl) ?_
  refine S_bd 11 (b:=((iand .i64 (iand .i64 nv 65535) 1)==0)) (v:=(x && ((iand .i64 (iand .i64 nv 65535) 1)==0))) (by simp only[b2,BL]) ?_
  exact hk
 have b2:x=false:=eq_false_of_ne_true c1
 refine N_env [(0,vp hv),(1,vu wv),(2,vi (iand .i64 nv 65535)),(3,vu v),(15,.bool false)] (by rw[b2]) ?_
 refine T_nd 5 [15] [(11,.bool false)] ?_
 refine N_end (by kernel_rfl) ?_
 refine S_bd 11 (b:=false) (v:=(x && ((iand .i64 (iand .i64 nv 65535) 1)==0))) (by simp only[b2,BL]) ?_
 exact hk
end morainelaw11_Set

/-! moraine/morainelaw11.Made -/
namespace morainelaw11_Made
def K0:=Func.code Tryz.f27
def K2:=cb K0
def K3:=ca K2
def K4:=cb K2
def K6:=cb K4
def K8:=cb K6
def K9:=ca K8
def K12:=cb K9
def K13:=ca K12
def K15:=cb K13
def K17:=cb K15
def K27:=cb K17
def K29:=cb K27
def K31:=cb K29
def K32:=ca K31
end morainelaw11_Made
def morainelaw11_Made.pt(hv:Option Addr)(ay aa xN ax ah a0 ag:Int)(a1:Option Addr)(az a2:Nat)(f:Option Addr)(a d:Nat)(H:Array Obj)(R:Value->Array Obj->Prop):Prop:=
 ∀(b:Nat) (H1:Array Obj),b=H.size->H1=H.push (.cells #[.int .i64 ay,.int .i64 aa,.int .i64 xN,.int .u64 ax,.int .i64 ah,.int .u64 a0,.int .i64 ag,.slice a1 az a2] 98)->
 ∃xW t:Int,RowAt H1 ((ad b).add 3) 0 [.int .u64 xW,.int .i64 t]/\
 ∃n m:Int,RowAt H1 ((ad b).add 5) 0 [.int .u64 n,.int .i64 m]/\
 morainelaw11_Word.C xW t f a d H1 (λv H2=> ∃x:Int,v=.int .u64 x/\RowAt H2 ((ad b).add 5) 0 [.int .u64 n,.int .i64 m]/\
 morainelaw11_Word.C n m f a d H2 (λbh H3=> ∃j:Int,bh=.int .u64 j/\
 ∃i:Int,hat H3 (ad b)=some (.int .i64 i)/\
 if i=0 then(
 obj_Heap_Cons.C hv x j H3 (λbe H4=> ∃ra rb:Int,be=.tuple #[.int .u64 ra,.int .i64 rb]/\
 if rb=0 then(
 ∀(aw:Nat) (H5:Array Obj),aw=H4.size->H5=H4.push (.cells #[.int .u64 ra] 36)->
 appendK 1 36 8 [.int .u64 0] f a d (some (ad aw)) 1 H5 (λap an H6=>
 R (.slice ap (a+1) an) H6))
 else
 R (.slice f a d) H4))
 else
 if i=1 then(
 obj_Heap_Weak.C hv x j H3 (λbf H7=> ∃o r:Int,bf=.tuple #[.int .u64 o,.int .i64 r]/\
 if r=0 then(
 ∀(av:Nat) (H8:Array Obj),av=H7.size->H8=H7.push (.cells #[.int .u64 o] 36)->
 appendK 1 36 8 [.int .u64 0] f a d (some (ad av)) 1 H8 (λae z H9=>
 R (.slice ae (a+1) z) H9))
 else
 R (.slice f a d) H7))
 else
 if i=2 then(
 ∃ab:Int,hat H3 ((ad b).add 1)=some (.int .i64 ab)/\
 ∃(xB:Option Addr) (q xC:Nat),hat H3 ((ad b).add 7)=some (.slice xB q xC)/\
 morainelaw11_kind.C ab H3 (λbb a5=> ∃au:Int,bb=.int .i64 au/\RowAt a5 ((ad b).add 7) 0 [.slice xB q xC]/\
 morainelaw11_words.C xB q xC f a d a5 (λa7 a6=> ∃(al:Option Addr) (ai ak:Nat),a7=.slice al ai ak/\
 obj_Heap_Make.C hv au 0 al ai ak a6 (λa8 a3=> ∃k l:Int,a8=.tuple #[.int .u64 k,.int .i64 l]/\
 if l=0 then(
 ∀(ao:Nat) (H13:Array Obj),ao=a3.size->H13=a3.push (.cells #[.int .u64 k] 36)->
 appendK 1 36 8 [.int .u64 0] f a d (some (ad ao)) 1 H13 (λaf y bg=>
 R (.slice af (a+1) y) bg))
 else
 R (.slice f a d) a3))))
 else
 if i=3 then(
 ∃aj:Int,hat H3 ((ad b).add 2)=some (.int .i64 aj)/\
 morainelaw11_Set.C hv x aj j H3 (λbc ba=> ∃bd:Int,bc=.int .i64 bd/\
 R (.slice f a d) ba))
 else
 if i=4 then(
 ∀(am:Nat) (H16:Array Obj),am=H3.size->H16=H3.push (.cells #[.int .u64 20,.int .u64 20] 36)->
 obj_Heap_Make.C hv 10 0 (some (ad am)) 2 2 H16 (λbi a4=> ∃p s:Int,bi=.tuple #[.int .u64 p,.int .i64 s]/\
 if s=0 then(
 ∀(aq:Nat) (H18:Array Obj),aq=a4.size->H18=a4.push (.cells #[.int .u64 p] 36)->
 appendK 1 36 8 [.int .u64 0] f a d (some (ad aq)) 1 H18 (λac u a9=>
 R (.slice ac (a+1) u) a9))
 else
 R (.slice f a d) a4))
 else
 R (.slice f a d) H3))
namespace morainelaw11_Made
set_option maxRecDepth 100000 in
theorem link{hv:Option Addr}{ay aa xN ax ah a0 ag:Int}{a1:Option Addr}{az a2:Nat}{f:Option Addr}{a d:Nat}{H:Array Obj}{R:Value->Array Obj->Prop}(h:pt hv ay aa xN ax ah a0 ag a1 az a2 f a d H R):C hv ay aa xN ax ah a0 ag a1 az a2 f a d H R:=by
 refine T_en K0 76 Tryz.func27 ?_
 intro w0 Q hQ
 unfold pt at h
 refine T_su [(0,vp hv),(1,.agg #[vi ay,vi aa,vi xN,vu ax,vi ah,vu a0,vi ag,vs a1 az a2]),(2,vs f a d)]<| T_srz 0<| T_nw (some 4) (λb=>vp (pa b)) (.cells #[vi ay,vi aa,vi xN,vu ax,vi ah,vu a0,vi ag,vs a1 az a2] 98) ?_
 intro b H1 e1 e2
 replace h:=h b H1 e1 e2
 refine T_pd [1] [(4,vp (pa b))]<| T_ed 1 [] []<| T_sz ?_
 obtain⟨xW,t,q3,h⟩:=h
 obtain⟨n,m,q4,h⟩:=h
 refine S_regionG 1 (Code.ops K3) [(3,((ad b).add 3),[vu xW,vi t]),(7,((ad b).add 5),[vu n,vi m])] 10 (bv 10 0) (by kernel_rfl) (by kernel_rfl) (by kernel_rfl) (by kernel_rfl) (by kernel_rfl) (show FactsAt _ _ _ from⟨q3,q4,trivial⟩) ?_
 refine T_gp 0 (some 11) (vp (some ((ad b).add 3))) (bv 10 1) [(0,vp hv),(2,vs f a d),(4,vp (pa b)),(11,vp (some ((ad b).add 3)))]<| T_g1 1 12 (.agg #[vu xW,vi t]) (bv 10 3) [11] (loadN 95 (vp (some ((ad b).add 3)))) (held_row 3 (λ_=>by kernel_rfl) (λ_=>by kernel_rfl) (List.Mem.head _) (.inl (by kernel_rfl)))<| T_gp1 2 13 (vs f a d) (bv 10 7) []<| T_gp1 4 15 (vp (some ((ad b).add 5))) (bv 10 23) []<| T_g1 5 16 (.agg #[vu n,vi m]) (bv 10 55) [15] (loadN 95 (vp (some ((ad b).add 5)))) (held_row 7 (λ_=>by kernel_rfl) (λ_=>by kernel_rfl) (List.Mem.tail _ (List.Mem.head _)) (.inl (by kernel_rfl)))<| T_gp1 6 17 (vs f a d) (bv 10 119) [] ?_
 refine G_call 3 (some 14) (bv 10 127) 98 #[.agg #[vu xW,vi t],vs f a d] (by kernel_rfl) (λ_=>by kernel_rfl) h (by kernel_rfl) ?_;clear h
 rintro v H2 ⟨x,rfl,h⟩
 obtain⟨f5,h⟩:=h
 refine⟨[(0,vp hv),(2,vs f a d),(4,vp (pa b)),(14,vu x),(16,.agg #[vu n,vi m]),(17,vs f a d)],pk,(show FactsAt _ _ _ from⟨trivial,f5,trivial⟩),?_⟩
 refine G_call 7 (some 18) (bv 10 255) 98 #[.agg #[vu n,vi m],vs f a d] (by kernel_rfl) (λ_=>by kernel_rfl) h (by kernel_rfl) ?_;clear h
 rintro bh H3 ⟨j,rfl,h⟩
 refine⟨[(0,vp hv),(2,vs f a d),(4,vp (pa b)),(14,vu x),(18,vu j)],pk,(show FactsAt _ _ _ from⟨trivial,trivial,trivial⟩),?_⟩
 refine T_g 8 (some 7) (vu x) (bv 10 511) [(0,vp hv),(2,vs f a d),(4,vp (pa b)),(7,vu x),(18,vu j)] (pure (.value (vu x)):Sem Next) (λ_ _ _ _ _=>rfl)<| T_g1 9 8 (vu j) (bv 10 1023) [18] (pure (.value (vu j)):Sem Next) (λ_ _ _ _ _=>rfl) ?_
 refine G_sub [(0,vp hv),(2,vs f a d),(4,vp (pa b)),(7,vu x),(8,vu j)] sk ?_
 refine G_end (by kernel_rfl) ?_
 refine S_then ?_
 refine T_srz 2<| T_ne 1 [(0,vp hv),(2,vs f a d),(4,vp (pa b)),(7,vu x),(8,vu j),(9,vu 0)]<| T_srz 3<| T_ed 1 [] [(10,vi 1)]<| T_sz<| T_srz 4<| T_nd 1 [] [(19,vp (pa b))] ?_
 obtain⟨i,q6,h⟩:=h
 refine T_l1 20 3 q6 [19]<| T_e<| T_bz 0<| T_srz 5<| T_ed 2 [] [(21,.bool (i==0))] ?_
 by_cases c7:i=0
 ·rw[if_pos c7]at h
  refine T_cTz 21 (beq_iff_eq.mpr c7)<| T_rz 6<| T_n 3 [(2,vs f a d),(24,vp hv),(25,vu x),(26,vu j)] ?_
  refine T_c (some 27) h ?_;clear h
  rintro be H4 ⟨ra,rb,rfl,h⟩
  refine⟨[(2,vs f a d),(27,.tuple #[vu ra,vi rb])],pk,?_⟩
  refine T_nd 5 [27] [(9,vu ra),(10,vi rb)] ?_
  refine N_end (by kernel_rfl) ?_
  refine S_blockEnd ?_
  refine S_then ?_
  refine T_sz<| T_srz 15<| T_ed 2 [10] [(70,.bool (rb==0))] ?_
  by_cases c9:rb=0
  ·rw[if_pos c9]at h
   refine T_cTz 70 (beq_iff_eq.mpr c9)<| T_rz 16<| T_n 2 [(71,vs f a d),(72,vu ra)]<| T_nw (some 73) (λb=>vs (pa b) 1 1) (.cells #[vu ra] 36) ?_
   intro aw H5 e11 e12
   replace h:=h aw H5 e11 e12
   refine T_pd [72] [(73,vs (pa aw) 1 1)] ?_
   refine N_op (some 74) (appendN #[34,34] 34 #[vs f a d,vs (pa aw) 1 1]) _ (λ_=>by kernel_rfl) (ss_append (T:=36) (sz:=1) (bytes:=8) (zero:=(vu 0:Value)) Tryz.underlying34 Tryz.underlying34 rfl (show Tryz.prog.info? 36=some Tryz.t36 from by kernel_rfl) (by kernel_rfl) (by kernel_rfl) (by decide) (by kernel_rfl) (by first | exact h | (simpa only[Value.cells,List.toList_toArray]using h))) ?_;clear h
   rintro _ H6 ⟨ap,an,rfl,h⟩
   refine⟨[(74,vs ap (a+1) an)],pk,?_⟩
   exact T_ne 1 [(2,vs ap (a+1) an)]<| T_srz 17<| T_nr 2 [6] [vs ap (a+1) an] hQ h
  rw[if_neg c9]at h
  exact T_cFz 70 (beq_eq_false_iff_ne.mpr c9)<| T_kt<| T_srz 17<| T_nr 2 [6] [vs f a d] hQ h
 rw[if_neg c7]at h
 refine T_cFz 21 (beq_eq_false_iff_ne.mpr c7)<| T_srz 7<| T_ed 2 [21] [(30,.bool (i==1))] ?_
 by_cases c13:i=1
 ·rw[if_pos c13]at h
  refine T_cTz 30 (beq_iff_eq.mpr c13)<| T_rz 8<| T_n 3 [(2,vs f a d),(33,vp hv),(34,vu x),(35,vu j)] ?_
  refine T_c (some 36) h ?_;clear h
  rintro bf H7 ⟨o,r,rfl,h⟩
  refine⟨[(2,vs f a d),(36,.tuple #[vu o,vi r])],pk,?_⟩
  refine T_nd 5 [36] [(9,vu o),(10,vi r)] ?_
  refine N_end (by kernel_rfl) ?_
  refine S_blockEnd ?_
  refine S_then ?_
  refine T_sz<| T_srz 15<| T_ed 2 [10] [(70,.bool (r==0))] ?_
  by_cases c15:r=0
  ·rw[if_pos c15]at h
   refine T_cTz 70 (beq_iff_eq.mpr c15)<| T_rz 16<| T_n 2 [(71,vs f a d),(72,vu o)]<| T_nw (some 73) (λb=>vs (pa b) 1 1) (.cells #[vu o] 36) ?_
   intro av H8 e17 e18
   replace h:=h av H8 e17 e18
   refine T_pd [72] [(73,vs (pa av) 1 1)] ?_
   refine N_op (some 74) (appendN #[34,34] 34 #[vs f a d,vs (pa av) 1 1]) _ (λ_=>by kernel_rfl) (ss_append (T:=36) (sz:=1) (bytes:=8) (zero:=(vu 0:Value)) Tryz.underlying34 Tryz.underlying34 rfl (show Tryz.prog.info? 36=some Tryz.t36 from by kernel_rfl) (by kernel_rfl) (by kernel_rfl) (by decide) (by kernel_rfl) (by first | exact h | (simpa only[Value.cells,List.toList_toArray]using h))) ?_;clear h
   rintro _ H9 ⟨ae,z,rfl,h⟩
   refine⟨[(74,vs ae (a+1) z)],pk,?_⟩
   exact T_ne 1 [(2,vs ae (a+1) z)]<| T_srz 17<| T_nr 2 [6] [vs ae (a+1) z] hQ h
  rw[if_neg c15]at h
  exact T_cFz 70 (beq_eq_false_iff_ne.mpr c15)<| T_kt<| T_srz 17<| T_nr 2 [6] [vs f a d] hQ h
 rw[if_neg c13]at h
 refine T_cFz 30 (beq_eq_false_iff_ne.mpr c13)<| T_srz 9<| T_ed 2 [30] [(39,.bool (i==2))] ?_
 by_cases c19:i=2
 ·rw[if_pos c19]at h
  refine T_cTz 39 (beq_iff_eq.mpr c19) ?_
  obtain⟨ab,q21,h⟩:=h
  obtain⟨xB,q,xC,q22,h⟩:=h
  refine S_regionG 10 (Code.ops K32) [(3,((ad b).add 1),[vi ab]),(7,((ad b).add 7),[vs xB q xC])] 14 (bv 14 0) (by kernel_rfl) (by kernel_rfl) (by kernel_rfl) (by kernel_rfl) (by kernel_rfl) (show FactsAt _ _ _ from⟨⟨q21,trivial⟩,⟨q22,trivial⟩,trivial⟩) ?_
  refine T_gp 0 (some 42) (vp hv) (bv 14 1) [(2,vs f a d),(4,vp (pa b)),(9,vu 0),(10,vi 1),(42,vp hv)]<| T_gp1 1 43 (vp (some ((ad b).add 1))) (bv 14 3) []<| T_g1 2 44 (vi ab) (bv 14 7) [43] (loadN 3 (vp (some ((ad b).add 1)))) (held_one 3 (λ_=>by kernel_rfl) (List.Mem.head _) (.inl (by kernel_rfl)))<| T_gp1 4 46 (vp (some ((ad b).add 7))) (bv 14 23) [4]<| T_g1 5 47 (vs xB q xC) (bv 14 55) [46] (loadN 96 (vp (some ((ad b).add 7)))) (held_one 7 (λ_=>by kernel_rfl) (List.Mem.tail _ (List.Mem.head _)) (.inl (by kernel_rfl)))<| T_gp1 6 48 (vs f a d) (bv 14 119) [] ?_
  refine G_call 3 (some 45) (bv 14 127) 99 #[vi ab] (by kernel_rfl) (λ_=>by kernel_rfl) h (by kernel_rfl) ?_;clear h
  rintro bb a5 ⟨au,rfl,h⟩
  obtain⟨f23,h⟩:=h
  refine⟨[(2,vs f a d),(9,vu 0),(10,vi 1),(42,vp hv),(45,vi au),(47,vs xB q xC),(48,vs f a d)],pk,(show FactsAt _ _ _ from⟨trivial,f23,trivial⟩),?_⟩
  refine G_call 7 (some 49) (bv 14 255) 100 #[vs xB q xC,vs f a d] (by kernel_rfl) (λ_=>by kernel_rfl) h (by kernel_rfl) ?_;clear h
  rintro a7 a6 ⟨al,ai,ak,rfl,h⟩
  refine⟨[(2,vs f a d),(9,vu 0),(10,vi 1),(42,vp hv),(45,vi au),(49,vs al ai ak)],pk,(show FactsAt _ _ _ from⟨trivial,trivial,trivial⟩),?_⟩
  refine G_call 8 (some 50) (bv 14 511) 69 #[vp hv,vi au,vu 0,vs al ai ak] (by kernel_rfl) (λ_=>by kernel_rfl) h (by kernel_rfl) ?_;clear h
  rintro a8 a3 ⟨k,l,rfl,h⟩
  refine⟨[(2,vs f a d),(9,vu 0),(10,vi 1),(50,.tuple #[vu k,vi l])],pk,(show FactsAt _ _ _ from⟨trivial,trivial,trivial⟩),?_⟩
  refine T_g 9 (some 41) (.tuple #[vu k,vi l]) (bv 14 1023) [(2,vs f a d),(9,vu 0),(10,vi 1),(41,.tuple #[vu k,vi l])] (pure (.value (.tuple #[vu k,vi l])):Sem Next) (λ_ _ _ _ _=>rfl)<| T_g1 10 51 (vu k) (bv 14 2047) [] (pure (.value (vu k)):Sem Next) (λ_ _ _ _ _=>rfl)<| T_g1 11 52 (vi l) (bv 14 4095) [41] (pure (.value (vi l)):Sem Next) (λ_ _ _ _ _=>rfl)<| T_g1 12 9 (vu k) (bv 14 8191) [9,51] (pure (.value (vu k)):Sem Next) (λ_ _ _ _ _=>rfl)<| T_g1 13 10 (vi l) (bv 14 16383) [10,52] (pure (.value (vi l)):Sem Next) (λ_ _ _ _ _=>rfl) ?_
  refine G_sub [(2,vs f a d),(9,vu k),(10,vi l)] sk ?_
  refine G_end (by kernel_rfl) ?_
  refine S_blockEnd ?_
  refine S_then ?_
  refine T_sz<| T_srz 15<| T_ne 2 [(2,vs f a d),(9,vu k),(70,.bool (l==0))] ?_
  by_cases c24:l=0
  ·rw[if_pos c24]at h
   refine T_cTz 70 (beq_iff_eq.mpr c24)<| T_rz 16<| T_n 2 [(71,vs f a d),(72,vu k)]<| T_nw (some 73) (λb=>vs (pa b) 1 1) (.cells #[vu k] 36) ?_
   intro ao H13 e26 e27
   replace h:=h ao H13 e26 e27
   refine T_pd [72] [(73,vs (pa ao) 1 1)] ?_
   refine N_op (some 74) (appendN #[34,34] 34 #[vs f a d,vs (pa ao) 1 1]) _ (λ_=>by kernel_rfl) (ss_append (T:=36) (sz:=1) (bytes:=8) (zero:=(vu 0:Value)) Tryz.underlying34 Tryz.underlying34 rfl (show Tryz.prog.info? 36=some Tryz.t36 from by kernel_rfl) (by kernel_rfl) (by kernel_rfl) (by decide) (by kernel_rfl) (by first | exact h | (simpa only[Value.cells,List.toList_toArray]using h))) ?_;clear h
   rintro _ bg ⟨af,y,rfl,h⟩
   refine⟨[(74,vs af (a+1) y)],pk,?_⟩
   exact T_ne 1 [(2,vs af (a+1) y)]<| T_srz 17<| T_nr 2 [6] [vs af (a+1) y] hQ h
  rw[if_neg c24]at h
  exact T_cFz 70 (beq_eq_false_iff_ne.mpr c24)<| T_kt<| T_srz 17<| T_nr 2 [6] [vs f a d] hQ h
 rw[if_neg c19]at h
 refine T_cFz 39 (beq_eq_false_iff_ne.mpr c19)<| T_srz 11<| T_ed 2 [39] [(53,.bool (i==3))] ?_
 by_cases c28:i=3
 ·rw[if_pos c28]at h
  refine T_cTz 53 (beq_iff_eq.mpr c28)<| T_rz 12<| T_nd 3 [0,4,7,20,53] [(55,vp hv),(56,vu x),(57,vp (some ((ad b).add 2)))] ?_
  obtain⟨aj,q30,h⟩:=h
  refine T_l1 58 3 q30 [57]<| T_nd 1 [8] [(59,vu j)] ?_
  refine T_c (some 60) h ?_;clear h
  rintro bc ba ⟨bd,rfl,h⟩
  refine T_pd [55,56,58,59] [] ?_
  refine N_end (by kernel_rfl) ?_
  refine S_blockEnd ?_
  refine S_then ?_
  exact T_sz<| T_srz 15<| T_ed 2 [10] [(70,.bool false)]<| T_fz 70<| T_kt<| T_srz 17<| T_nr 2 [6] [vs f a d] hQ h
 rw[if_neg c28]at h
 refine T_cFz 53 (beq_eq_false_iff_ne.mpr c28)<| T_srz 13<| T_ed 2 [4,7,8,20,53] [(61,.bool (i==4))] ?_
 by_cases c31:i=4
 ·rw[if_pos c31]at h
  refine T_cTz 61 (beq_iff_eq.mpr c31)<| T_rz 14<| T_n 1 [(2,vs f a d),(64,vp hv)]<| T_nw (some 65) (λb=>vs (pa b) 2 2) (.cells #[vu 20,vu 20] 36) ?_
  intro am H16 e33 e34
  replace h:=h am H16 e33 e34
  refine T_pd [] [(65,vs (pa am) 2 2)] ?_
  refine T_c (some 66) h ?_;clear h
  rintro bi a4 ⟨p,s,rfl,h⟩
  refine T_pd [64,65] [(66,.tuple #[vu p,vi s])]<| T_nd 5 [66] [(9,vu p),(10,vi s)] ?_
  refine N_end (by kernel_rfl) ?_
  refine S_blockEnd ?_
  refine S_then ?_
  refine T_sz<| T_srz 15<| T_ed 2 [10] [(70,.bool (s==0))] ?_
  by_cases c35:s=0
  ·rw[if_pos c35]at h
   refine T_cTz 70 (beq_iff_eq.mpr c35)<| T_rz 16<| T_n 2 [(71,vs f a d),(72,vu p)]<| T_nw (some 73) (λb=>vs (pa b) 1 1) (.cells #[vu p] 36) ?_
   intro aq H18 e37 e38
   replace h:=h aq H18 e37 e38
   refine T_pd [72] [(73,vs (pa aq) 1 1)] ?_
   refine N_op (some 74) (appendN #[34,34] 34 #[vs f a d,vs (pa aq) 1 1]) _ (λ_=>by kernel_rfl) (ss_append (T:=36) (sz:=1) (bytes:=8) (zero:=(vu 0:Value)) Tryz.underlying34 Tryz.underlying34 rfl (show Tryz.prog.info? 36=some Tryz.t36 from by kernel_rfl) (by kernel_rfl) (by kernel_rfl) (by decide) (by kernel_rfl) (by first | exact h | (simpa only[Value.cells,List.toList_toArray]using h))) ?_;clear h
   rintro _ a9 ⟨ac,u,rfl,h⟩
   refine⟨[(74,vs ac (a+1) u)],pk,?_⟩
   exact T_ne 1 [(2,vs ac (a+1) u)]<| T_srz 17<| T_nr 2 [6] [vs ac (a+1) u] hQ h
  rw[if_neg c35]at h
  exact T_cFz 70 (beq_eq_false_iff_ne.mpr c35)<| T_kt<| T_srz 17<| T_nr 2 [6] [vs f a d] hQ h
 rw[if_neg c31]at h
 refine T_cFz 61 (beq_eq_false_iff_ne.mpr c31)<| T_k ?_
 refine S_blockEnd ?_
 refine S_then ?_
 exact T_sz<| T_srz 15<| T_ed 2 [0,10,61] [(70,.bool false)]<| T_fz 70<| T_kt<| T_srz 17<| T_nr 2 [6] [vs f a d] hQ h
end morainelaw11_Made

/-! moraine/morainelaw11.many -/
namespace morainelaw11_many
def K0:=Func.code Tryz.f25
def K2:=cb K0
def K4:=cb K2
def K12:=cb K4
def K13:=ca K12
def K16:=cb K13
def K17:=ca K16
def K18:=ca K17
def K20:=cb K18
def K25:=ca K20
def K27:=ca K25
def K29:=cb K27
def K30:=ca K29
def K31:=ca K30
end morainelaw11_many
def morainelaw11_many.pt(lB:Option Addr)(lN lC:Nat)(H:Array Obj)(R:Value->Array Obj->Prop):Prop:=
 if(lN:Int)>12 then(
 R (.bool true) H)
 else
 ∃(r:Int->Int->Array Obj->Prop) (m19:Int->Int->Array Obj->Nat),r 0 0 H/\ ∀(nv:Int) (i:Int) (H1:Array Obj),r nv i H1->
 if i< (lN:Int)then(
 ∃(q:Int->Int->Array Obj->Prop) (m32:Int->Int->Array Obj->Nat),q nv 0 H1/\ ∀(b:Int) (k:Int) (H2:Array Obj),q b k H2->
 ∃d:Addr,lB=some d/\
 ((0:Int)<=i/\i< (lN:Int))/\
 ∃(xB:Option Addr) (xN xC:Nat),hat H2 (d.add (Int.toNat i*4))=some (.slice xB xN xC)/\
 if((decide (k< (xN:Int))) && (decide (b<=400)))=true then(
 ((0:Int)<=i/\i< (lN:Int))/\
 ∃(n:Option Addr) (l m:Nat),hat H2 (d.add (Int.toNat i*4))=some (.slice n l m)/\
 ∃j:Addr,n=some j/\
 ((0:Int)<=k/\k< (l:Int))/\
 ∃(o:Option Addr) (f p:Nat),hat H2 ((j.add (Int.toNat k*8)).add 7)=some (.slice o f p)/\
 (q (IntKind.wrap .i64 (b+(IntKind.wrap .i64 (1+(IntKind.wrap .i64 (Int.tdiv (f:Int) 8)))))) (IntKind.wrap .i64 (k+1)) H2/\m32 (IntKind.wrap .i64 (b+(IntKind.wrap .i64 (1+(IntKind.wrap .i64 (Int.tdiv (f:Int) 8)))))) (IntKind.wrap .i64 (k+1)) H2<m32 b k H2))
 else
 (r b (IntKind.wrap .i64 (i+1)) H2/\m19 b (IntKind.wrap .i64 (i+1)) H2<m19 nv i H1))
 else
 R (.bool (decide (nv>400))) H1
namespace morainelaw11_many
set_option maxRecDepth 100000 in
theorem link{lB:Option Addr}{lN lC:Nat}{H:Array Obj}{R:Value->Array Obj->Prop}(h:pt lB lN lC H R):C lB lN lC H R:=by
 refine T_en K0 45 Tryz.func25 ?_
 intro w0 Q hQ
 unfold pt at h
 refine T_su [(0,vs lB lN lC)]<| T_srz 0<| T_ed 1 [] []<| T_sz<| T_srz 1<| T_ed 3 [] [(8,.bool (decide ((lN:Int)>12)))] ?_
 by_cases c1:(lN:Int)>12
 ·rw[if_pos c1]at h
  exact T_cTz 8 (decide_eq_true c1)<| T_srz 2<| T_nr 1 [2] [.bool true] hQ h
 rw[if_neg c1]at h
 refine T_cFz 8 (decide_eq_false c1)<| T_kt<| T_srz 3<| T_ed 1 [8] [(3,vi 0)]<| T_sz<| T_srz 4<| T_ed 1 [] [(4,vi 0)]<| T_bz 0 ?_
 obtain⟨r,m19,i3,i4⟩:=h
 refine S_loop (x:=K18) (σ:=Int×Int) (λs_=> [(0,vs lB lN lC),(3,vi s_.1),(4,vi s_.2)]) (λs_ H=>r s_.1 s_.2 H) (λs_ H=>m19 s_.1 s_.2 H) ((0,0):Int×Int) (by kernel_rfl) i3 sk ?_
 rintro⟨nv,i⟩ H1 i5
 have h:=i4 nv i H1 i5
 refine T_su [(0,vs lB lN lC),(3,vi nv),(4,vi i)]<| T_sz<| T_srz 5<| T_ed 4 [] [(12,.bool (decide (i< (lN:Int))))] ?_
 by_cases c6:i< (lN:Int)
 ·rw[if_pos c6]at h
  refine T_cTz 12 (decide_eq_true c6)<| T_kt<| T_sz<| T_bz 1<| T_srz 7<| T_ed 1 [12] [(5,vi 0)]<| T_bz 2 ?_
  obtain⟨q,m32,i8,i9⟩:=h
  refine S_loop (x:=K31) (σ:=Int×Int) (λs_=> [(0,vs lB lN lC),(3,vi s_.1),(4,vi i),(5,vi s_.2)]) (λs_ H=>q s_.1 s_.2 H) (λs_ H=>m32 s_.1 s_.2 H) ((nv,0):Int×Int) (by kernel_rfl) i8 sk ?_
  rintro⟨b,k⟩ H2 i10
  have h:=i9 b k H2 i10
  refine T_su [(0,vs lB lN lC),(3,vi b),(4,vi i),(5,vi k)]<| T_sz<| T_srz 8<| T_nd 3 [] [(15,vi k),(16,vs lB lN lC),(17,vi i)] ?_
  obtain⟨d,rfl,h⟩:=h
  obtain⟨q11,h⟩:=h
  refine T_xd (some 18) 88 93 4 d lN lC .i64 i Tryz.underlying88 q11.1 q11.2 [0,16,17] [(0,vs (some d) lN lC),(18,vp (some (d.add (Int.toNat i*4))))]<| T_nd 1 [18] [(19,vp (some (d.add (Int.toNat i*4))))] ?_
  obtain⟨xB,xN,xC,q12,h⟩:=h
  refine T_l1 20 90 q12 [19]<| T_nd 3 [15,20] [(23,.bool (decide (k< (xN:Int))))] ?_
  refine N_cut [(0,vs (some d) lN lC),(3,vi b),(4,vi i),(5,vi k),(26,.bool ((decide (k< (xN:Int))) && (decide (b<=400))))] ?_ ?_
  ·refine S_then ?_
   by_cases c15:((decide (k< (xN:Int))) && (decide (b<=400)))=true
   ·rw[if_pos c15]at h
    refine T_cTz 26 c15<| T_kt<| T_sz<| T_bz 3<| T_rz 10<| T_n 3 [(0,vs (some d) lN lC),(4,vi i),(5,vi k),(29,vi b),(30,vs (some d) lN lC),(31,vi i)] ?_
    obtain⟨q17,h⟩:=h
    refine T_xd (some 32) 88 93 4 d lN lC .i64 i Tryz.underlying88 q17.1 q17.2 [30,31] [(32,vp (some (d.add (Int.toNat i*4))))]<| T_nd 1 [32] [(33,vp (some (d.add (Int.toNat i*4))))] ?_
    obtain⟨n,l,m,q18,h⟩:=h
    refine T_l1 34 90 q18 [33]<| T_nd 1 [] [(35,vi k)] ?_
    obtain⟨j,rfl,h⟩:=h
    obtain⟨q19,h⟩:=h
    refine T_xd (some 36) 90 98 8 j l m .i64 k Tryz.underlying90 q19.1 q19.2 [34,35] [(36,vp (some (j.add (Int.toNat k*8))))]<| T_nd 1 [36] [(37,vp (some ((j.add (Int.toNat k*8)).add 7)))] ?_
    obtain⟨o,f,p,q20,h⟩:=h
    refine T_l1 38 96 q20 [37]<| T_nd 5 [29,38] [(3,vi (IntKind.wrap .i64 (b+(IntKind.wrap .i64 (1+(IntKind.wrap .i64 (Int.tdiv (f:Int) 8)))))))] ?_
    refine N_end (by kernel_rfl) ?_
    refine S_blockEnd ?_
    refine S_then ?_
    refine T_rz 9<| T_ed 3 [5] [(5,vi (IntKind.wrap .i64 (k+1)))] ?_
    exact S_round (((IntKind.wrap .i64 (b+(IntKind.wrap .i64 (1+(IntKind.wrap .i64 (Int.tdiv (f:Int) 8)))))),(IntKind.wrap .i64 (k+1))):Int×Int) sk h
   rw[if_neg c15]at h
   refine T_cFz 26 (eq_false_of_ne_true c15) ?_
   refine S_exit 2 (by kernel_rfl) ?_
   refine S_exitThen ?_
   refine S_exitThen ?_
   refine S_exitHere ?_
   refine S_blockEnd ?_
   refine S_then ?_
   refine T_rz 6<| T_ne 3 [(0,vs (some d) lN lC),(3,vi b),(4,vi (IntKind.wrap .i64 (i+1)))] ?_
   exact S_round ((b,(IntKind.wrap .i64 (i+1))):Int×Int) sk h
  intro hk
  refine T_nu [(0,vs (some d) lN lC),(3,vi b),(4,vi i),(5,vi k),(23,.bool (decide (k< (xN:Int))))] ?_
  by_cases c13:k< (xN:Int)
  ·have b14:(decide (k< (xN:Int)))=true:=decide_eq_true c13
   refine N_env [(0,vs (some d) lN lC),(3,vi b),(4,vi i),(5,vi k),(23,.bool true)] (by rw[b14]) ?_
   refine T_nd 3 [23] [(26,.bool (decide (b<=400)))] ?_
   refine N_end (by kernel_rfl) ?_
   refine S_bd 26 (b:=(decide (b<=400))) (v:=((decide (k< (xN:Int))) && (decide (b<=400)))) (by simp only[b14,BL]) ?_
   exact hk
  have b14:(decide (k< (xN:Int)))=false:=decide_eq_false c13
  refine N_env [(0,vs (some d) lN lC),(3,vi b),(4,vi i),(5,vi k),(23,.bool false)] (by rw[b14]) ?_
  refine T_nd 3 [23] [(26,.bool false)] ?_
  refine N_end (by kernel_rfl) ?_
  refine S_bd 26 (b:=false) (v:=((decide (k< (xN:Int))) && (decide (b<=400)))) (by simp only[b14,BL]) ?_
  exact hk
 rw[if_neg c6]at h
 refine T_cFz 12 (decide_eq_false c6) ?_
 refine S_exit 0 (by kernel_rfl) ?_
 refine S_exitThen ?_
 refine S_exitThen ?_
 refine S_exitHere ?_
 refine S_then ?_
 exact T_srz 11<| T_nr 3 [2] [.bool (decide (nv>400))] hQ h
end morainelaw11_many

/-! moraine/morainelaw11.kept -/
namespace morainelaw11_kept
def K0:=Func.code Tryz.f29
end morainelaw11_kept
def morainelaw11_kept.pt(a i:Int)(H:Array Obj)(R:Value->Array Obj->Prop):Prop:=
 (0<=(Int.tmod i 32))/\
 R (.bool ((iand .u32 (ishr .u32 a (Int.tmod i 32)) 1)==1)) H
namespace morainelaw11_kept
set_option maxRecDepth 100000 in
theorem link{a i:Int}{H:Array Obj}{R:Value->Array Obj->Prop}(h:pt a i H R):C a i H R:=by
 refine T_en K0 11 Tryz.func29 ?_
 intro w0 Q hQ
 unfold pt at h
 refine T_su [(0,.int .u32 a),(1,vi i)]<| T_srz 0<| T_ed 1 [] []<| T_srz 1<| T_n 3 [(5,.int .u32 a),(7,vi (Int.tmod i 32))] ?_
 obtain⟨q1,h⟩:=h
 exact T_v1 8 (binN .shr 91 (.int .u32 a) (vi (Int.tmod i 32))) (.int .u32 (ishr .u32 a (Int.tmod i 32))) (λw _=>shr_run (P:=Tryz.prog) (t:=91) (k:=.u32) (k':=.i64) (x:=a) (y:=(Int.tmod i 32)) q1 w) [5,7]<| T_nr 3 [4] [.bool ((iand .u32 (ishr .u32 a (Int.tmod i 32)) 1)==1)] hQ h
end morainelaw11_kept

/-! moraine/morainelaw11.alike -/
namespace morainelaw11_alike
def K0:=Func.code Tryz.f42
def K2:=cb K0
def K4:=cb K2
def K9:=ca K4
def K12:=cb K9
def K13:=ca K12
def K14:=ca K13
def K16:=cb K14
def K21:=ca K16
def K23:=ca K21
def K25:=cb K23
def K31:=cb K25
def K32:=ca K31
def K33:=ca K32
end morainelaw11_alike
def morainelaw11_alike.pt(aB:Option Addr)(aN aC:Nat)(bB:Option Addr)(bN bC:Nat)(H:Array Obj)(R:Value->Array Obj->Prop):Prop:=
 if(aN:Int)=(bN:Int)then(
 ∃(ao:Int->Array Obj->Prop) (m15:Int->Array Obj->Nat),ao 0 H/\ ∀(i:Int) (H1:Array Obj),ao i H1->
 if i< (aN:Int)then(
 ∃b:Addr,aB=some b/\
 ((0:Int)<=i/\i< (aN:Int))/\
 ∃x:Int,hat H1 (b.add (Int.toNat i*3))=some (.int .i64 x)/\
 ∃d:Addr,bB=some d/\
 ((0:Int)<=i/\i< (bN:Int))/\
 ∃p:Int,hat H1 (d.add (Int.toNat i*3))=some (.int .i64 p)/\
 if x=p then(
 ((0:Int)<=i/\i< (aN:Int))/\
 ∃(xB:Option Addr) (xN xC:Nat),hat H1 ((b.add (Int.toNat i*3)).add 1)=some (.slice xB xN xC)/\
 ((0:Int)<=i/\i< (bN:Int))/\
 ∃(an:Option Addr) (j al:Nat),hat H1 ((d.add (Int.toNat i*3)).add 1)=some (.slice an j al)/\
 if(xN:Int)=(j:Int)then(
 ∃(ap:Int->Array Obj->Prop) (m34:Int->Array Obj->Nat),ap 0 H1/\ ∀(k:Int) (H2:Array Obj),ap k H2->
 ((0:Int)<=i/\i< (aN:Int))/\
 ∃(am:Option Addr) (n ak:Nat),hat H2 ((b.add (Int.toNat i*3)).add 1)=some (.slice am n ak)/\
 if k< (n:Int)then(
 ((0:Int)<=i/\i< (aN:Int))/\
 ∃(aj:Option Addr) (r ae:Nat),hat H2 ((b.add (Int.toNat i*3)).add 1)=some (.slice aj r ae)/\
 ∃q:Addr,aj=some q/\
 ((0:Int)<=k/\k< (r:Int))/\
 ∃l:Int,hat H2 (q.add (Int.toNat k*1))=some (.int .u64 l)/\
 ((0:Int)<=i/\i< (bN:Int))/\
 ∃(ag:Option Addr) (aa ab:Nat),hat H2 ((d.add (Int.toNat i*3)).add 1)=some (.slice ag aa ab)/\
 ∃u:Addr,ag=some u/\
 ((0:Int)<=k/\k< (aa:Int))/\
 ∃o:Int,hat H2 (u.add (Int.toNat k*1))=some (.int .u64 o)/\
 if l=o then(
 ((0:Int)<=i/\i< (aN:Int))/\
 ∃(ah:Option Addr) (y ac:Nat),hat H2 ((b.add (Int.toNat i*3)).add 2)=some (.slice ah y ac)/\
 ∃s:Addr,ah=some s/\
 ((0:Int)<=k/\k< (y:Int))/\
 ∃f:Int,hat H2 (s.add (Int.toNat k*1))=some (.int .i64 f)/\
 ((0:Int)<=i/\i< (bN:Int))/\
 ∃(ai:Option Addr) (v af:Nat),hat H2 ((d.add (Int.toNat i*3)).add 2)=some (.slice ai v af)/\
 ∃z:Addr,ai=some z/\
 ((0:Int)<=k/\k< (v:Int))/\
 ∃m:Int,hat H2 (z.add (Int.toNat k*1))=some (.int .i64 m)/\
 if f=m then(
 (ap (IntKind.wrap .i64 (k+1)) H2/\m34 (IntKind.wrap .i64 (k+1)) H2<m34 k H2))
 else
 R (.bool false) H2)
 else
 R (.bool false) H2)
 else
 (ao (IntKind.wrap .i64 (i+1)) H2/\m15 (IntKind.wrap .i64 (i+1)) H2<m15 i H1))
 else
 R (.bool false) H1)
 else
 R (.bool false) H1)
 else
 R (.bool true) H1)
 else
 R (.bool false) H
namespace morainelaw11_alike
set_option maxRecDepth 100000 in
theorem link{aB:Option Addr}{aN aC:Nat}{bB:Option Addr}{bN bC:Nat}{H:Array Obj}{R:Value->Array Obj->Prop}(h:pt aB aN aC bB bN bC H R):C aB aN aC bB bN bC H R:=by
 refine T_en K0 90 Tryz.func42 ?_
 intro w0 Q hQ
 unfold pt at h
 refine T_su [(0,vs aB aN aC),(1,vs bB bN bC)]<| T_srz 0<| T_ed 1 [] []<| T_sz<| T_srz 1<| T_ed 5 [] [(11,.bool ((aN:Int) !=(bN:Int)))] ?_
 by_cases c1:(aN:Int)=(bN:Int)
 ·rw[if_pos c1]at h
  refine T_cFz 11 (bne_eq_false_iff_eq.mpr c1)<| T_kt<| T_sz<| T_srz 3<| T_ed 1 [11] [(5,vi 0)]<| T_bz 0 ?_
  obtain⟨ao,m15,i3,i4⟩:=h
  refine S_loop (x:=K14) (σ:=Int) (λs_=> [(0,vs aB aN aC),(1,vs bB bN bC),(5,vi s_)]) (λs_ H=>ao s_ H) (λs_ H=>m15 s_ H) (0:Int) (by kernel_rfl) i3 sk ?_
  rintro i H1 i5
  have h:=i4 i H1 i5
  refine T_su [(0,vs aB aN aC),(1,vs bB bN bC),(5,vi i)]<| T_sz<| T_srz 4<| T_ed 4 [] [(15,.bool (decide (i< (aN:Int))))] ?_
  by_cases c6:i< (aN:Int)
  ·rw[if_pos c6]at h
   refine T_cTz 15 (decide_eq_true c6)<| T_kt<| T_sz<| T_bz 1<| T_sz<| T_sz<| T_rqz 6<| T_q1 18 (vs aB aN aC) [15]<| T_q1 19 (vi i) [] ?_
   obtain⟨b,rfl,h⟩:=h
   obtain⟨q8,h⟩:=h
   refine Q_op (some 20) (indexAtN 102 (vs (some b) aN aC) (vi i)) (vp (some (b.add (Int.toNat i*3)))) (λ_=>by kernel_rfl) (λw _=>indexAt_run (P:=Tryz.prog) (t:=102) (elem:=182) (sz:=3) (a:=b) (len:=aN) (cap:=aC) (k:=.i64) (i:=i) Tryz.underlying102 (λ_=>by kernel_rfl) q8.1 q8.2 w) [(0,vs (some b) aN aC),(1,vs bB bN bC),(5,vi i),(20,vp (some (b.add (Int.toNat i*3))))] pk ?_
   refine T_q (some 21) (vp (some (b.add (Int.toNat i*3)))) [(0,vs (some b) aN aC),(1,vs bB bN bC),(5,vi i),(21,vp (some (b.add (Int.toNat i*3))))] ?_
   obtain⟨x,q9,h⟩:=h
   refine T_qld (some 22) 3 q9 [21] [(22,vi x)]<| T_q1 23 (vs bB bN bC) []<| T_q1 24 (vi i) [] ?_
   obtain⟨d,rfl,h⟩:=h
   obtain⟨q10,h⟩:=h
   refine Q_op (some 25) (indexAtN 102 (vs (some d) bN bC) (vi i)) (vp (some (d.add (Int.toNat i*3)))) (λ_=>by kernel_rfl) (λw _=>indexAt_run (P:=Tryz.prog) (t:=102) (elem:=182) (sz:=3) (a:=d) (len:=bN) (cap:=bC) (k:=.i64) (i:=i) Tryz.underlying102 (λ_=>by kernel_rfl) q10.1 q10.2 w) [(0,vs (some b) aN aC),(1,vs (some d) bN bC),(5,vi i),(22,vi x),(25,vp (some (d.add (Int.toNat i*3))))] pk ?_
   refine T_q (some 26) (vp (some (d.add (Int.toNat i*3)))) [(0,vs (some b) aN aC),(1,vs (some d) bN bC),(5,vi i),(22,vi x),(26,vp (some (d.add (Int.toNat i*3))))] ?_
   obtain⟨p,q11,h⟩:=h
   refine T_qld (some 27) 3 q11 [26] [(27,vi p)]<| T_q1 28 (.bool (x !=p)) [22,27]<| T_q1 29 (.bool (x !=p)) [28] ?_
   by_cases c12:x=p
   ·rw[if_pos c12]at h
    refine Q_bd 29 (bne_eq_false_iff_eq.mpr c12)<| T_q1 30 (vs (some b) aN aC) []<| T_q1 31 (vi i) [] ?_
    obtain⟨q14,h⟩:=h
    refine Q_op (some 32) (indexAtN 102 (vs (some b) aN aC) (vi i)) (vp (some (b.add (Int.toNat i*3)))) (λ_=>by kernel_rfl) (λw _=>indexAt_run (P:=Tryz.prog) (t:=102) (elem:=182) (sz:=3) (a:=b) (len:=aN) (cap:=aC) (k:=.i64) (i:=i) Tryz.underlying102 (λ_=>by kernel_rfl) q14.1 q14.2 w) [(0,vs (some b) aN aC),(1,vs (some d) bN bC),(5,vi i),(29,.bool false),(32,vp (some (b.add (Int.toNat i*3))))] pk ?_
    refine T_q (some 33) (vp (some ((b.add (Int.toNat i*3)).add 1))) [(0,vs (some b) aN aC),(1,vs (some d) bN bC),(5,vi i),(29,.bool false),(33,vp (some ((b.add (Int.toNat i*3)).add 1)))] ?_
    obtain⟨xB,xN,xC,q15,h⟩:=h
    refine T_qld (some 34) 34 q15 [33] [(34,vs xB xN xC)]<| T_q1 35 (vi xN) [34]<| T_q1 36 (vs (some d) bN bC) []<| T_q1 37 (vi i) [] ?_
    obtain⟨q16,h⟩:=h
    refine Q_op (some 38) (indexAtN 102 (vs (some d) bN bC) (vi i)) (vp (some (d.add (Int.toNat i*3)))) (λ_=>by kernel_rfl) (λw _=>indexAt_run (P:=Tryz.prog) (t:=102) (elem:=182) (sz:=3) (a:=d) (len:=bN) (cap:=bC) (k:=.i64) (i:=i) Tryz.underlying102 (λ_=>by kernel_rfl) q16.1 q16.2 w) [(0,vs (some b) aN aC),(1,vs (some d) bN bC),(5,vi i),(29,.bool false),(35,vi xN),(38,vp (some (d.add (Int.toNat i*3))))] pk ?_
    refine T_q (some 39) (vp (some ((d.add (Int.toNat i*3)).add 1))) [(0,vs (some b) aN aC),(1,vs (some d) bN bC),(5,vi i),(29,.bool false),(35,vi xN),(39,vp (some ((d.add (Int.toNat i*3)).add 1)))] ?_
    obtain⟨an,j,al,q17,h⟩:=h
    refine T_qld (some 40) 34 q17 [39] [(40,vs an j al)]<| T_q1 41 (vi j) [40]<| T_q1 42 (.bool ((xN:Int) !=(j:Int))) [35,41]<| T_q1 43 (.bool ((xN:Int) !=(j:Int))) [29,42] ?_
    refine Q_sub [(0,vs (some b) aN aC),(1,vs (some d) bN bC),(5,vi i),(43,.bool ((xN:Int) !=(j:Int)))] sk ?_
    refine T_qe ?_
    by_cases c18:(xN:Int)=(j:Int)
    ·rw[if_pos c18]at h
     refine T_cFz 43 (bne_eq_false_iff_eq.mpr c18)<| T_kt<| T_srz 8<| T_ne 1 [(0,vs (some b) aN aC),(1,vs (some d) bN bC),(5,vi i),(6,vi 0)]<| T_bz 2 ?_
     obtain⟨ap,m34,i20,i21⟩:=h
     refine S_loop (x:=K33) (σ:=Int) (λs_=> [(0,vs (some b) aN aC),(1,vs (some d) bN bC),(5,vi i),(6,vi s_)]) (λs_ H=>ap s_ H) (λs_ H=>m34 s_ H) (0:Int) (by kernel_rfl) i20 sk ?_
     rintro k H2 i22
     have h:=i21 k H2 i22
     refine T_su [(0,vs (some b) aN aC),(1,vs (some d) bN bC),(5,vi i),(6,vi k)]<| T_sz<| T_srz 9<| T_nd 3 [] [(44,vi k),(45,vs (some b) aN aC),(46,vi i)] ?_
     obtain⟨q23,h⟩:=h
     refine T_xd (some 47) 102 182 3 b aN aC .i64 i Tryz.underlying102 q23.1 q23.2 [45,46] [(47,vp (some (b.add (Int.toNat i*3))))]<| T_nd 1 [47] [(48,vp (some ((b.add (Int.toNat i*3)).add 1)))] ?_
     obtain⟨am,n,ak,q24,h⟩:=h
     refine T_l1 49 34 q24 [48]<| T_ed 2 [44,49] [(51,.bool (decide (k< (n:Int))))] ?_
     by_cases c25:k< (n:Int)
     ·rw[if_pos c25]at h
      refine T_cTz 51 (decide_eq_true c25)<| T_kt<| T_sz<| T_bz 3<| T_sz<| T_rqz 11<| T_q1 54 (vs (some b) aN aC) [51]<| T_q1 55 (vi i) [] ?_
      obtain⟨q27,h⟩:=h
      refine Q_op (some 56) (indexAtN 102 (vs (some b) aN aC) (vi i)) (vp (some (b.add (Int.toNat i*3)))) (λ_=>by kernel_rfl) (λw _=>indexAt_run (P:=Tryz.prog) (t:=102) (elem:=182) (sz:=3) (a:=b) (len:=aN) (cap:=aC) (k:=.i64) (i:=i) Tryz.underlying102 (λ_=>by kernel_rfl) q27.1 q27.2 w) [(0,vs (some b) aN aC),(1,vs (some d) bN bC),(5,vi i),(6,vi k),(56,vp (some (b.add (Int.toNat i*3))))] pk ?_
      refine T_q (some 57) (vp (some ((b.add (Int.toNat i*3)).add 1))) [(0,vs (some b) aN aC),(1,vs (some d) bN bC),(5,vi i),(6,vi k),(57,vp (some ((b.add (Int.toNat i*3)).add 1)))] ?_
      obtain⟨aj,r,ae,q28,h⟩:=h
      refine T_qld (some 58) 34 q28 [57] [(58,vs aj r ae)]<| T_q1 59 (vi k) [] ?_
      obtain⟨q,rfl,h⟩:=h
      obtain⟨q29,h⟩:=h
      refine Q_op (some 60) (indexAtN 34 (vs (some q) r ae) (vi k)) (vp (some (q.add (Int.toNat k*1)))) (λ_=>by kernel_rfl) (λw _=>indexAt_run (P:=Tryz.prog) (t:=34) (elem:=36) (sz:=1) (a:=q) (len:=r) (cap:=ae) (k:=.i64) (i:=k) Tryz.underlying34 (λ_=>by kernel_rfl) q29.1 q29.2 w) [(0,vs (some b) aN aC),(1,vs (some d) bN bC),(5,vi i),(6,vi k),(60,vp (some (q.add (Int.toNat k*1))))] pk ?_
      obtain⟨l,q30,h⟩:=h
      refine T_ql (some 61) 36 q30 [(0,vs (some b) aN aC),(1,vs (some d) bN bC),(5,vi i),(6,vi k),(61,vu l)]<| T_q1 62 (vs (some d) bN bC) []<| T_q1 63 (vi i) [] ?_
      obtain⟨q31,h⟩:=h
      refine Q_op (some 64) (indexAtN 102 (vs (some d) bN bC) (vi i)) (vp (some (d.add (Int.toNat i*3)))) (λ_=>by kernel_rfl) (λw _=>indexAt_run (P:=Tryz.prog) (t:=102) (elem:=182) (sz:=3) (a:=d) (len:=bN) (cap:=bC) (k:=.i64) (i:=i) Tryz.underlying102 (λ_=>by kernel_rfl) q31.1 q31.2 w) [(0,vs (some b) aN aC),(1,vs (some d) bN bC),(5,vi i),(6,vi k),(61,vu l),(64,vp (some (d.add (Int.toNat i*3))))] pk ?_
      refine T_q (some 65) (vp (some ((d.add (Int.toNat i*3)).add 1))) [(0,vs (some b) aN aC),(1,vs (some d) bN bC),(5,vi i),(6,vi k),(61,vu l),(65,vp (some ((d.add (Int.toNat i*3)).add 1)))] ?_
      obtain⟨ag,aa,ab,q32,h⟩:=h
      refine T_qld (some 66) 34 q32 [65] [(66,vs ag aa ab)]<| T_q1 67 (vi k) [] ?_
      obtain⟨u,rfl,h⟩:=h
      obtain⟨q33,h⟩:=h
      refine Q_op (some 68) (indexAtN 34 (vs (some u) aa ab) (vi k)) (vp (some (u.add (Int.toNat k*1)))) (λ_=>by kernel_rfl) (λw _=>indexAt_run (P:=Tryz.prog) (t:=34) (elem:=36) (sz:=1) (a:=u) (len:=aa) (cap:=ab) (k:=.i64) (i:=k) Tryz.underlying34 (λ_=>by kernel_rfl) q33.1 q33.2 w) [(0,vs (some b) aN aC),(1,vs (some d) bN bC),(5,vi i),(6,vi k),(61,vu l),(68,vp (some (u.add (Int.toNat k*1))))] pk ?_
      obtain⟨o,q34,h⟩:=h
      refine T_ql (some 69) 36 q34 [(0,vs (some b) aN aC),(1,vs (some d) bN bC),(5,vi i),(6,vi k),(61,vu l),(69,vu o)]<| T_q1 70 (.bool (l !=o)) [61,69]<| T_q1 71 (.bool (l !=o)) [70] ?_
      by_cases c35:l=o
      ·rw[if_pos c35]at h
       refine Q_bd 71 (bne_eq_false_iff_eq.mpr c35)<| T_q1 72 (vs (some b) aN aC) []<| T_q1 73 (vi i) [] ?_
       obtain⟨q37,h⟩:=h
       refine Q_op (some 74) (indexAtN 102 (vs (some b) aN aC) (vi i)) (vp (some (b.add (Int.toNat i*3)))) (λ_=>by kernel_rfl) (λw _=>indexAt_run (P:=Tryz.prog) (t:=102) (elem:=182) (sz:=3) (a:=b) (len:=aN) (cap:=aC) (k:=.i64) (i:=i) Tryz.underlying102 (λ_=>by kernel_rfl) q37.1 q37.2 w) [(0,vs (some b) aN aC),(1,vs (some d) bN bC),(5,vi i),(6,vi k),(71,.bool false),(74,vp (some (b.add (Int.toNat i*3))))] pk ?_
       refine T_q (some 75) (vp (some ((b.add (Int.toNat i*3)).add 2))) [(0,vs (some b) aN aC),(1,vs (some d) bN bC),(5,vi i),(6,vi k),(71,.bool false),(75,vp (some ((b.add (Int.toNat i*3)).add 2)))] ?_
       obtain⟨ah,y,ac,q38,h⟩:=h
       refine T_qld (some 76) 52 q38 [75] [(76,vs ah y ac)]<| T_q1 77 (vi k) [] ?_
       obtain⟨s,rfl,h⟩:=h
       obtain⟨q39,h⟩:=h
       refine Q_op (some 78) (indexAtN 52 (vs (some s) y ac) (vi k)) (vp (some (s.add (Int.toNat k*1)))) (λ_=>by kernel_rfl) (λw _=>indexAt_run (P:=Tryz.prog) (t:=52) (elem:=3) (sz:=1) (a:=s) (len:=y) (cap:=ac) (k:=.i64) (i:=k) Tryz.underlying52 (λ_=>by kernel_rfl) q39.1 q39.2 w) [(0,vs (some b) aN aC),(1,vs (some d) bN bC),(5,vi i),(6,vi k),(71,.bool false),(78,vp (some (s.add (Int.toNat k*1))))] pk ?_
       obtain⟨f,q40,h⟩:=h
       refine T_ql (some 79) 3 q40 [(0,vs (some b) aN aC),(1,vs (some d) bN bC),(5,vi i),(6,vi k),(71,.bool false),(79,vi f)]<| T_q1 80 (vs (some d) bN bC) []<| T_q1 81 (vi i) [] ?_
       obtain⟨q41,h⟩:=h
       refine Q_op (some 82) (indexAtN 102 (vs (some d) bN bC) (vi i)) (vp (some (d.add (Int.toNat i*3)))) (λ_=>by kernel_rfl) (λw _=>indexAt_run (P:=Tryz.prog) (t:=102) (elem:=182) (sz:=3) (a:=d) (len:=bN) (cap:=bC) (k:=.i64) (i:=i) Tryz.underlying102 (λ_=>by kernel_rfl) q41.1 q41.2 w) [(0,vs (some b) aN aC),(1,vs (some d) bN bC),(5,vi i),(6,vi k),(71,.bool false),(79,vi f),(82,vp (some (d.add (Int.toNat i*3))))] pk ?_
       refine T_q (some 83) (vp (some ((d.add (Int.toNat i*3)).add 2))) [(0,vs (some b) aN aC),(1,vs (some d) bN bC),(5,vi i),(6,vi k),(71,.bool false),(79,vi f),(83,vp (some ((d.add (Int.toNat i*3)).add 2)))] ?_
       obtain⟨ai,v,af,q42,h⟩:=h
       refine T_qld (some 84) 52 q42 [83] [(84,vs ai v af)]<| T_q1 85 (vi k) [] ?_
       obtain⟨z,rfl,h⟩:=h
       obtain⟨q43,h⟩:=h
       refine Q_op (some 86) (indexAtN 52 (vs (some z) v af) (vi k)) (vp (some (z.add (Int.toNat k*1)))) (λ_=>by kernel_rfl) (λw _=>indexAt_run (P:=Tryz.prog) (t:=52) (elem:=3) (sz:=1) (a:=z) (len:=v) (cap:=af) (k:=.i64) (i:=k) Tryz.underlying52 (λ_=>by kernel_rfl) q43.1 q43.2 w) [(0,vs (some b) aN aC),(1,vs (some d) bN bC),(5,vi i),(6,vi k),(71,.bool false),(79,vi f),(86,vp (some (z.add (Int.toNat k*1))))] pk ?_
       obtain⟨m,q44,h⟩:=h
       refine T_ql (some 87) 3 q44 [(0,vs (some b) aN aC),(1,vs (some d) bN bC),(5,vi i),(6,vi k),(71,.bool false),(79,vi f),(87,vi m)]<| T_q1 88 (.bool (f !=m)) [79,87]<| T_q1 89 (.bool (f !=m)) [71,88] ?_
       refine Q_sub [(0,vs (some b) aN aC),(1,vs (some d) bN bC),(5,vi i),(6,vi k),(89,.bool (f !=m))] sk ?_
       refine T_qe ?_
       by_cases c45:f=m
       ·rw[if_pos c45]at h
        refine T_cFz 89 (bne_eq_false_iff_eq.mpr c45)<| T_k ?_
        refine S_blockEnd ?_
        refine S_then ?_
        refine T_rz 10<| T_ne 3 [(0,vs (some b) aN aC),(1,vs (some d) bN bC),(5,vi i),(6,vi (IntKind.wrap .i64 (k+1)))] ?_
        exact S_round ((IntKind.wrap .i64 (k+1)):Int) sk h
       rw[if_neg c45]at h
       exact T_cTz 89 (bne_iff_ne.mpr c45)<| T_srz 12<| T_nr 1 [4] [.bool false] hQ h
      rw[if_neg c35]at h
      refine Q_bd 71 (bne_iff_ne.mpr c35)<| T_q1 72 (undef) []<| T_q1 73 (undef) []<| T_q1 74 (undef) [72,73]<| T_q1 75 (undef) [74]<| T_q1 76 (undef) [75]<| T_q1 77 (undef) []<| T_q1 78 (undef) [76,77]<| T_q1 79 (undef) [78] ?_
      refine T_q1 80 (undef) []<| T_q1 81 (undef) []<| T_q1 82 (undef) [80,81]<| T_q1 83 (undef) [82]<| T_q1 84 (undef) [83]<| T_q1 85 (undef) []<| T_q1 86 (undef) [84,85]<| T_q1 87 (undef) [86]<| T_q1 88 (undef) [79,87] ?_
      refine T_q1 89 (.bool true) [71,88] ?_
      refine Q_sub [(0,vs (some b) aN aC),(1,vs (some d) bN bC),(5,vi i),(6,vi k),(89,.bool true)] sk ?_
      exact T_qe<| T_tz 89<| T_srz 12<| T_nr 1 [4] [.bool false] hQ h
     rw[if_neg c25]at h
     refine T_cFz 51 (decide_eq_false c25) ?_
     refine S_exit 2 (by kernel_rfl) ?_
     refine S_exitThen ?_
     refine S_exitThen ?_
     refine S_exitHere ?_
     refine S_blockEnd ?_
     refine S_then ?_
     refine T_rz 5<| T_ed 3 [5,6,51] [(5,vi (IntKind.wrap .i64 (i+1)))] ?_
     exact S_round ((IntKind.wrap .i64 (i+1)):Int) sk h
    rw[if_neg c18]at h
    exact T_cTz 43 (bne_iff_ne.mpr c18)<| T_srz 7<| T_nr 1 [4] [.bool false] hQ h
   rw[if_neg c12]at h
   refine Q_bd 29 (bne_iff_ne.mpr c12)<| T_q1 30 (undef) []<| T_q1 31 (undef) []<| T_q1 32 (undef) [30,31]<| T_q1 33 (undef) [32]<| T_q1 34 (undef) [33]<| T_q1 35 (undef) [34]<| T_q1 36 (undef) []<| T_q1 37 (undef) [] ?_
   refine T_q1 38 (undef) [36,37]<| T_q1 39 (undef) [38]<| T_q1 40 (undef) [39]<| T_q1 41 (undef) [40]<| T_q1 42 (undef) [35,41]<| T_q1 43 (.bool true) [29,42] ?_
   refine Q_sub [(0,vs (some b) aN aC),(1,vs (some d) bN bC),(5,vi i),(43,.bool true)] sk ?_
   exact T_qe<| T_tz 43<| T_srz 7<| T_nr 1 [4] [.bool false] hQ h
  rw[if_neg c6]at h
  refine T_cFz 15 (decide_eq_false c6) ?_
  refine S_exit 0 (by kernel_rfl) ?_
  refine S_exitThen ?_
  refine S_exitThen ?_
  refine S_exitHere ?_
  refine S_then ?_
  exact T_srz 13<| T_nr 1 [4] [.bool true] hQ h
 rw[if_neg c1]at h
 exact T_cTz 11 (bne_iff_ne.mpr c1)<| T_srz 2<| T_nr 1 [4] [.bool false] hQ h
end morainelaw11_alike

/-! moraine/morainelaw11.awake -/
namespace morainelaw11_awake
def K0:=Func.code Tryz.f26
end morainelaw11_awake
def morainelaw11_awake.pt(H:Array Obj)(R:Value->Array Obj->Prop):Prop:=
 obj_New.C 20 H (λv H1=> ∃(ra:Option Addr) (rb:Int),v=.tuple #[.pointer ra,.int .i64 rb]/\
 if rb=0 then(
 onPtr ra (
 R (.bool false) H1) (λa=>
 obj_Heap_Cons.C (some a) 8 20 H1 (λa8 H2=> ∃f ao:Int,a8=.tuple #[.int .u64 f,.int .i64 ao]/\
 obj_Heap_Cons.C (some a) f f H2 (λbb H3=> ∃i ap:Int,bb=.tuple #[.int .u64 i,.int .i64 ap]/\
 trace_Start.C (some a) 0 1 0 H3 (λbc H4=> ∃(u:Option Addr) (z:Int),bc=.tuple #[.pointer u,.int .i64 z]/\
 if z=0 then(
 onPtr u (
 R (.bool false) H4) (λd=>
 trace_Trace_Old.C (some d) i H4 (λa7 H5=> ∃x:Bool,a7=.bool x/\
 if x=true then(
 trace_Trace_Reached.C (some d) i H5 (λa2 H6=> ∃af:Bool,a2=.bool af/\
 if af=true then(
 R (.bool false) H6)
 else
 trace_Trace_Old.C (some d) 20 H6 (λa4 H7=> ∃ae:Bool,a4=.bool ae/\
 if ae=true then(
 R (.bool false) H7)
 else
 trace_Trace_Visit.C (some d) i H7 (λa9 H8=> ∃r:Int,a9=.int .u64 r/\
 trace_Trace_Reached.C (some d) i H8 (λbd H9=> ∃t:Bool,bd=.bool t/\
 trace_Trace_Reached.C (some d) f H9 (λau ba=> ∃s:Bool,au=.bool s/\
 trace_Trace_Drain.C (some d) ba (λ_ a1=>
 trace_Trace_End.C (some d) a1 (λ_ a5=>
 obj_Heap_Car.C (some a) r a5 (λay a3=> ∃j q:Int,ay=.tuple #[.int .u64 j,.int .i64 q]/\
 obj_Heap_Cdr.C (some a) r a3 (λav be=> ∃n p:Int,av=.tuple #[.int .u64 n,.int .i64 p]/\
 obj_Heap_Car.C (some a) j be (λaz a0=> ∃o l:Int,az=.tuple #[.int .u64 o,.int .i64 l]/\
 ∃ai:Option Addr,hat a0 a=some (.pointer ai)/\
 card_Cards_Gen.C ai r a0 (λaq y=> ∃(m:Int) (k:Bool),aq=.tuple #[.int .i64 m,.bool k]/\
 if t=true then(
 if s=true then(
 R (.bool false) y)
 else
 if q=0 then(
 if p=0 then(
 if j=n then(
 if o=8 then(
 if l=0 then(
 if m=1 then(
 if k=true then(
 ∃am:Option Addr,hat y a=some (.pointer am)/\
 ∃an:Addr,am=some an/\
 ∃ah:Option Addr,hat y an=some (.pointer ah)/\
 ∀(b:Nat) (H17:Array Obj),b=y.size->H17=y.push (.cells #[.int .i64 0] 3)->
 space_Space_Words.C ah (some (ad b)) 1 1 H17 (λaw ak=> ∃aa:Int,aw=.int .i64 aa/\
 if aa=0 then(
 ∃aj:Option Addr,hat ak a=some (.pointer aj)/\
 ∃ag:Addr,aj=some ag/\
 ∃ab:Option Addr,hat ak ag=some (.pointer ab)/\
 ∀(al:Nat) (H19:Array Obj),al=ak.size->H19=ak.push (.cells #[.int .i64 1] 3)->
 space_Space_Words.C ab (some (ad al)) 1 1 H19 (λax a6=> ∃ac:Int,ax=.int .i64 ac/\
 R (.bool (ac==4)) a6))
 else
 R (.bool false) ak))
 else
 R (.bool false) y)
 else
 R (.bool false) y)
 else
 R (.bool false) y)
 else
 R (.bool false) y)
 else
 R (.bool false) y)
 else
 R (.bool false) y)
 else
 R (.bool false) y)
 else
 R (.bool false) y))))))))))))
 else
 R (.bool false) H5)))
 else
 R (.bool false) H4)))))
 else
 R (.bool false) H1)
namespace morainelaw11_awake
theorem link{H:Array Obj}{R:Value->Array Obj->Prop}(h:pt H R):C H R:=by
 refine T_en K0 165 Tryz.func26 ?_
 intro w0 Q hQ
 unfold pt at h
 refine T_su []<| T_srz 0<| T_ne 1 []<| T_srz 1 ?_
 refine T_c (some 21) h ?_;clear h
 rintro v H1 ⟨ra,rb,rfl,h⟩
 refine⟨[(21,.tuple #[vp ra,vi rb])],pk,?_⟩
 refine T_ne 5 [(1,vp ra),(2,vi rb)]<| T_sz<| T_srz 2<| T_nd 3 [2] [(26,.bool (rb !=0))] ?_
 by_cases c1:rb=0
 ·rw[if_pos c1]at h
  refine N_bd 26 (bne_eq_false_iff_eq.mpr c1)<| T_nd 1 [] [(27,vp ra)] ?_
  rcases ra with _ | a
  ·rw[onPtr_none]at h
   exact T_ne 2 [(1,vp none),(29,.bool true)]<| T_tz 29<| T_srz 3<| T_nr 1 [0] [.bool false] hQ h
  rw[onPtr_some]at h
  refine T_ne 2 [(1,vp (some a)),(29,.bool false)]<| T_fz 29<| T_kt<| T_srz 4<| T_nd 1 [29] [(31,vp (some a))] ?_
  refine T_c (some 32) h ?_;clear h
  rintro a8 H2 ⟨f,ao,rfl,h⟩
  refine T_pd [31] [(32,.tuple #[vu f,vi ao])]<| T_ed 5 [32] [(3,vu f)]<| T_srz 5<| T_nd 3 [] [(36,vp (some a)),(37,vu f),(38,vu f)] ?_
  refine T_c (some 39) h ?_;clear h
  rintro bb H3 ⟨i,ap,rfl,h⟩
  refine T_pd [36,37,38] [(39,.tuple #[vu i,vi ap])]<| T_ed 5 [39] [(5,vu i)]<| T_srz 6<| T_nd 1 [] [(43,vp (some a))] ?_
  refine T_c (some 44) h ?_;clear h
  rintro bc H4 ⟨u,z,rfl,h⟩
  refine T_pd [43] [(44,.tuple #[vp u,vi z])]<| T_ed 5 [44] [(7,vp u),(8,vi z)]<| T_sz<| T_srz 7<| T_nd 3 [8] [(49,.bool (z !=0))] ?_
  by_cases c3:z=0
  ·rw[if_pos c3]at h
   refine N_bd 49 (bne_eq_false_iff_eq.mpr c3)<| T_nd 1 [] [(50,vp u)] ?_
   rcases u with _ | d
   ·rw[onPtr_none]at h
    exact T_ed 17 [7,49,50] [(7,vp none),(67,.bool true)]<| T_tz 67<| T_srz 8<| T_nr 1 [0] [.bool false] hQ h
   rw[onPtr_some]at h
   refine T_nd 5 [7,49,50] [(7,vp (some d)),(53,.bool false),(54,vp (some d)),(55,vu i)] ?_
   refine T_c (some 56) h ?_;clear h
   rintro a7 H5 ⟨x,rfl,h⟩
   refine T_pd [54,55] [(56,.bool x)]<| T_nd 3 [53,56] [(59,.bool (!x))] ?_
   by_cases c5:x=true
   ·rw[if_pos c5]at h
    have b6:(!x)=false:=congrArg Bool.not (c5)
    have b62:x=true:=c5
    refine N_bd 59 (b:=(!x)) (v:=false) (by simp only[b6,b62,Bool.not_true,Bool.not_false]) ?_
    clear b6 b62
    refine T_nd 2 [] [(60,vp (some d)),(61,vu i)] ?_
    refine T_c (some 62) h ?_;clear h
    rintro a2 H6 ⟨af,rfl,h⟩
    refine T_pd [60,61] [(62,.bool af)]<| T_nd 2 [59,62] [(64,.bool af)] ?_
    by_cases c7:af=true
    ·rw[if_pos c7]at h
     exact N_bd 64 c7<| T_ed 3 [64] [(67,.bool true)]<| T_tz 67<| T_srz 8<| T_nr 1 [0] [.bool false] hQ h
    rw[if_neg c7]at h
    refine N_bd 64 (eq_false_of_ne_true c7)<| T_nd 1 [] [(65,vp (some d))] ?_
    refine T_c (some 66) h ?_;clear h
    rintro a4 H7 ⟨ae,rfl,h⟩
    refine T_pd [65] [(66,.bool ae)]<| T_ed 1 [64,66] [(67,.bool ae)] ?_
    by_cases c9:ae=true
    ·rw[if_pos c9]at h
     exact T_cTz 67 c9<| T_srz 8<| T_nr 1 [0] [.bool false] hQ h
    rw[if_neg c9]at h
    refine T_cFz 67 (eq_false_of_ne_true c9)<| T_kt<| T_srz 9<| T_nd 2 [67] [(68,vp (some d)),(69,vu i)] ?_
    refine T_c (some 70) h ?_;clear h
    rintro a9 H8 ⟨r,rfl,h⟩
    refine T_pd [68,69] [(70,vu r)]<| T_ed 1 [70] [(9,vu r)]<| T_srz 10<| T_nd 2 [5] [(71,vp (some d)),(72,vu i)] ?_
    refine T_c (some 73) h ?_;clear h
    rintro bd H9 ⟨t,rfl,h⟩
    refine T_pd [71,72] [(73,.bool t)]<| T_nd 2 [3] [(74,vp (some d)),(75,vu f)] ?_
    refine T_c (some 76) h ?_;clear h
    rintro au ba ⟨s,rfl,h⟩
    refine T_pd [74,75] [(76,.bool s)]<| T_ed 2 [73,76] [(10,.bool t),(11,.bool s)]<| T_srz 11<| T_nd 1 [] [(77,vp (some d))] ?_
    refine T_c (some 78) h ?_;clear h
    intro v_11 a1 h
    refine T_pd [77] []<| T_e<| T_srz 12<| T_nd 1 [7] [(79,vp (some d))] ?_
    refine T_c (some 80) h ?_;clear h
    intro v_12 a5 h
    refine T_pd [79] []<| T_e<| T_srz 13<| T_nd 2 [] [(82,vp (some a)),(83,vu r)] ?_
    refine T_c (some 84) h ?_;clear h
    rintro ay a3 ⟨j,q,rfl,h⟩
    refine T_pd [82,83] [(84,.tuple #[vu j,vi q])]<| T_ed 5 [84] [(12,vu j),(13,vi q)]<| T_srz 14<| T_nd 2 [] [(88,vp (some a)),(89,vu r)] ?_
    refine T_c (some 90) h ?_;clear h
    rintro av be ⟨n,p,rfl,h⟩
    refine T_pd [88,89] [(90,.tuple #[vu n,vi p])]<| T_ed 5 [90] [(14,vu n),(15,vi p)]<| T_srz 15<| T_nd 2 [] [(94,vp (some a)),(95,vu j)] ?_
    refine T_c (some 96) h ?_;clear h
    rintro az a0 ⟨o,l,rfl,h⟩
    refine T_pd [94,95] [(96,.tuple #[vu o,vi l])]<| T_ed 5 [96] [(16,vu o),(17,vi l)]<| T_srz 16<| T_nd 3 [] [(102,vp (some a))] ?_
    obtain⟨ai,q11,h⟩:=h
    refine T_l1 103 54 q11 [102]<| T_nd 1 [9] [(104,vu r)] ?_
    refine T_c (some 105) h ?_;clear h
    rintro aq y ⟨m,k,rfl,h⟩
    refine T_pd [103,104] [(105,.tuple #[vi m,.bool k])]<| T_ed 5 [105] [(18,vi m),(19,.bool k)]<| T_srz 17<| T_nd 2 [10] [(109,.bool t)] ?_
    by_cases c12:t=true
    ·rw[if_pos c12]at h
     refine N_bd 109 c12<| T_nd 4 [11,109] [(113,.bool (!s))] ?_
     by_cases c14:s=true
     ·rw[if_pos c14]at h
      have b15:(!s)=false:=congrArg Bool.not (c14)
      have b152:s=true:=c14
      refine N_bd 113 (b:=(!s)) (v:=false) (by simp only[b15,b152,Bool.not_true,Bool.not_false]) ?_
      clear b15 b152
      exact T_nr 52 [0] [.bool false] hQ h
     rw[if_neg c14]at h
     have b15:(!s)=true:=congrArg Bool.not (eq_false_of_ne_true c14)
     have b152:s=false:=eq_false_of_ne_true c14
     refine N_bd 113 (b:=(!s)) (v:=true) (by simp only[b15,b152,Bool.not_true,Bool.not_false]) ?_
     clear b15 b152
     refine T_nd 4 [13,113] [(117,.bool (q==0))] ?_
     by_cases c16:q=0
     ·rw[if_pos c16]at h
      refine N_bd 117 (beq_iff_eq.mpr c16)<| T_nd 4 [15,117] [(121,.bool (p==0))] ?_
      by_cases c18:p=0
      ·rw[if_pos c18]at h
       refine N_bd 121 (beq_iff_eq.mpr c18)<| T_nd 5 [12,14,121] [(126,.bool (j==n))] ?_
       by_cases c20:j=n
       ·rw[if_pos c20]at h
        refine N_bd 126 (beq_iff_eq.mpr c20)<| T_nd 4 [16,126] [(130,.bool (o==8))] ?_
        by_cases c22:o=8
        ·rw[if_pos c22]at h
         refine N_bd 130 (beq_iff_eq.mpr c22)<| T_nd 4 [17,130] [(134,.bool (l==0))] ?_
         by_cases c24:l=0
         ·rw[if_pos c24]at h
          refine N_bd 134 (beq_iff_eq.mpr c24)<| T_nd 4 [18,134] [(138,.bool (m==1))] ?_
          by_cases c26:m=1
          ·rw[if_pos c26]at h
           refine N_bd 138 (beq_iff_eq.mpr c26)<| T_nd 3 [19,138] [(141,.bool k)] ?_
           by_cases c28:k=true
           ·rw[if_pos c28]at h
            refine N_bd 141 c28<| T_nd 3 [] [(144,vp (some a))] ?_
            obtain⟨am,q30,h⟩:=h
            refine T_l1 145 54 q30 [144] ?_
            obtain⟨an,rfl,h⟩:=h
            refine T_nd 2 [145] [(147,vp (some an))] ?_
            obtain⟨ah,q31,h⟩:=h
            refine T_l1 148 58 q31 [147]<| T_nw (some 149) (λb=>vs (pa b) 1 1) (.cells #[vi 0] 3) ?_
            intro b H17 e32 e33
            replace h:=h b H17 e32 e33
            refine T_pd [] [(149,vs (pa b) 1 1)] ?_
            refine T_c (some 150) h ?_;clear h
            rintro aw ak ⟨aa,rfl,h⟩
            refine T_pd [148,149] [(150,vi aa)]<| T_nd 3 [141,150] [(153,.bool (aa==0))] ?_
            by_cases c34:aa=0
            ·rw[if_pos c34]at h
             refine N_bd 153 (beq_iff_eq.mpr c34)<| T_nd 3 [1] [(156,vp (some a))] ?_
             obtain⟨aj,q36,h⟩:=h
             refine T_l1 157 54 q36 [156] ?_
             obtain⟨ag,rfl,h⟩:=h
             refine T_nd 2 [157] [(159,vp (some ag))] ?_
             obtain⟨ab,q37,h⟩:=h
             refine T_l1 160 58 q37 [159]<| T_nw (some 161) (λb=>vs (pa b) 1 1) (.cells #[vi 1] 3) ?_
             intro al H19 e38 e39
             replace h:=h al H19 e38 e39
             refine T_pd [] [(161,vs (pa al) 1 1)] ?_
             refine T_c (some 162) h ?_;clear h
             rintro ax a6 ⟨ac,rfl,h⟩
             exact T_pd [160,161] [(162,vi ac)]<| T_nr 3 [0] [.bool (ac==4)] hQ h
            rw[if_neg c34]at h
            exact N_bd 153 (beq_eq_false_iff_ne.mpr c34)<| T_nr 12 [0] [.bool false] hQ h
           rw[if_neg c28]at h
           exact N_bd 141 (eq_false_of_ne_true c28)<| T_nr 24 [0] [.bool false] hQ h
          rw[if_neg c26]at h
          exact N_bd 138 (beq_eq_false_iff_ne.mpr c26)<| T_nr 27 [0] [.bool false] hQ h
         rw[if_neg c24]at h
         exact N_bd 134 (beq_eq_false_iff_ne.mpr c24)<| T_nr 31 [0] [.bool false] hQ h
        rw[if_neg c22]at h
        exact N_bd 130 (beq_eq_false_iff_ne.mpr c22)<| T_nr 35 [0] [.bool false] hQ h
       rw[if_neg c20]at h
       exact N_bd 126 (beq_eq_false_iff_ne.mpr c20)<| T_nr 39 [0] [.bool false] hQ h
      rw[if_neg c18]at h
      exact N_bd 121 (beq_eq_false_iff_ne.mpr c18)<| T_nr 44 [0] [.bool false] hQ h
     rw[if_neg c16]at h
     exact N_bd 117 (beq_eq_false_iff_ne.mpr c16)<| T_nr 48 [0] [.bool false] hQ h
    rw[if_neg c12]at h
    exact N_bd 109 (eq_false_of_ne_true c12)<| T_nr 56 [0] [.bool false] hQ h
   rw[if_neg c5]at h
   have b6:(!x)=true:=congrArg Bool.not (eq_false_of_ne_true c5)
   have b62:x=false:=eq_false_of_ne_true c5
   refine N_bd 59 (b:=(!x)) (v:=true) (by simp only[b6,b62,Bool.not_true,Bool.not_false]) ?_
   clear b6 b62
   exact T_ed 8 [59] [(67,.bool true)]<| T_tz 67<| T_srz 8<| T_nr 1 [0] [.bool false] hQ h
  rw[if_neg c3]at h
  exact N_bd 49 (bne_iff_ne.mpr c3)<| T_ed 18 [49] [(67,.bool true)]<| T_tz 67<| T_srz 8<| T_nr 1 [0] [.bool false] hQ h
 rw[if_neg c1]at h
 exact N_bd 26 (bne_iff_ne.mpr c1)<| T_ed 3 [26] [(29,.bool true)]<| T_tz 29<| T_srz 3<| T_nr 1 [0] [.bool false] hQ h
end morainelaw11_awake

end Go.Proofs.YtdoghjgbhefphaaGreat
