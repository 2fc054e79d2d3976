/- Printed: what each function asks, and that it is sound. -/
import Derived.Test.YtibpklpgmgakcaaGreatFnsC
set_option linter.unusedSimpArgs false
set_option linter.unusedVariables false
set_option maxRecDepth 100000
set_option maxHeartbeats 1000000
noncomputable section
namespace Go.Proofs.YtibpklpgmgakcaaGreat
open Go
/-! moraine/space.New -/
namespace space_New
def K0:=Func.code Tryz.f110
end space_New
def space_New.pt(a:Int)(H:Array Obj)(R:Value->Array Obj->Prop):Prop:=
 seg_New.C a H (λv H1=> ∃(ra:Option Addr) (rb:Int),v=.tuple #[.pointer ra,.int .i64 rb]/\
 if rb=0 then(
 ∀(b:Nat) (H2:Array Obj),b=H1.size->H2=H1.push (.cells #[.pointer ra,.int .i64 0,.int .i64 0,.int .i64 0,.int .i64 0,.int .i64 0,.int .i64 0,.int .i64 0,.int .i64 0,.int .i64 0,.int .i64 0,.int .i64 0,.int .i64 0,.int .i64 0,.int .i64 0,.int .i64 0,.int .i64 0,.int .i64 0,.int .i64 0,.int .i64 0,.int .i64 0] 75)->
 R (.tuple #[.pointer (some (ad b)),.int .i64 0]) H2)
 else
 R (.tuple #[.pointer none,.int .i64 rb]) H1)
namespace space_New
theorem link{a:Int}{H:Array Obj}{R:Value->Array Obj->Prop}(h:pt a H R):C a H R:=by
 refine T_en K0 17 Tryz.func110 ?_
 intro w0 Q hQ
 unfold pt at h
 refine T_su [(0,vi a)]<| T_srz 0<| T_ed 2 [] []<| T_srz 1<| T_n 1 [(7,vi a)] ?_
 refine T_c (some 8) h ?_;clear h
 rintro v H1 ⟨ra,rb,rfl,h⟩
 refine⟨[(8,.tuple #[vp ra,vi rb])],pk,?_⟩
 refine T_ne 5 [(4,vp ra),(5,vi rb)]<| T_sz<| T_srz 2<| T_ed 2 [] [(12,.bool (rb !=0))] ?_
 by_cases c1:rb=0
 ·rw[if_pos c1]at h
  refine T_cFz 12 (bne_eq_false_iff_eq.mpr c1)<| T_kt<| T_srz 4<| T_n 2 [(15,.agg #[vp ra,vi 0,vi 0,vi 0,vi 0,vi 0,vi 0,vi 0,vi 0,vi 0,vi 0,vi 0,vi 0,vi 0,vi 0,vi 0,vi 0,vi 0,vi 0,vi 0,vi 0])]<| T_nw (some 16) (λb=>vp (pa b)) (.cells #[vp ra,vi 0,vi 0,vi 0,vi 0,vi 0,vi 0,vi 0,vi 0,vi 0,vi 0,vi 0,vi 0,vi 0,vi 0,vi 0,vi 0,vi 0,vi 0,vi 0,vi 0] 75) ?_
  intro b H2 e3 e4
  replace h:=h b H2 e3 e4
  refine⟨[(16,vp (pa b))],pk,?_⟩
  exact T_nr 2 [2,3] [vp (pa b),vi 0] hQ h
 rw[if_neg c1]at h
 exact T_cTz 12 (bne_iff_ne.mpr c1)<| T_srz 3<| T_nr 3 [2,3] [vp none,vi rb] hQ h
end space_New

/-! (*moraine/space.Space).Alloc -/
namespace space_Space_Alloc
def K0:=Func.code Tryz.f137
end space_Space_Alloc
def space_Space_Alloc.pt(s:Option Addr)(d b nv:Int)(H:Array Obj)(R:Value->Array Obj->Prop):Prop:=
 space_Space_none.C s H (λv H1=> ∃x:Bool,v=.bool x/\
 if x=true then(
 R (.tuple #[.int .i64 0,.int .i64 1]) H1)
 else
 space_may.C d b nv H1 (λaa H2=> ∃o:Bool,aa=.bool o/\
 if o=true then(
 space_Space_Current.C s d b H2 (λz H3=> ∃(ra:Int) (rb:Bool),z=.tuple #[.int .i64 ra,.bool rb]/\
 ∃J:Array Obj->Prop,(
 if rb=true then(
 ∃j:Addr,s=some j/\
 ∃u:Option Addr,hat H3 j=some (.pointer u)/\
 seg_Mem_Bump.C u ra nv H3 (λac H8=> ∃l m:Int,ac=.tuple #[.int .i64 l,.int .i64 m]/\
 if m=0 then(
 R (.tuple #[.int .i64 l,.int .i64 0]) H8)
 else
 J H8))
 else
 J H3)/\ ∀(H4:Array Obj),J H4->
 ∃sA:Addr,s=some sA/\
 ∃y:Option Addr,hat H4 sA=some (.pointer y)/\
 seg_Mem_Take.C y d b H4 (λab H5=> ∃e f:Int,ab=.tuple #[.int .i64 e,.int .i64 f]/\
 if f=0 then(
 ((0:Int)<=d/\d< (5:Int))/\
 ((0:Int)<=b/\b< (4:Int))/\
 (CanPuts H5 (((sA.add 1).add (Int.toNat d*4)).add (Int.toNat b*1)) 0 1)/\ ∀H6,H6=hputs H5 (((sA.add 1).add (Int.toNat d*4)).add (Int.toNat b*1)) [.int .i64 (IntKind.wrap .i64 (e+1))] 0->
 ∃r:Option Addr,hat H6 sA=some (.pointer r)/\
 seg_Mem_Bump.C r e nv H6 (λae H7=> ∃q p:Int,ae=.tuple #[.int .i64 q,.int .i64 p]/\
 R (.tuple #[.int .i64 q,.int .i64 p]) H7))
 else
 R (.tuple #[.int .i64 0,.int .i64 f]) H5)))
 else
 R (.tuple #[.int .i64 0,.int .i64 1]) H2))
namespace space_Space_Alloc
theorem link{s:Option Addr}{d b nv:Int}{H:Array Obj}{R:Value->Array Obj->Prop}(h:pt s d b nv H R):C s d b nv H R:=by
 refine T_en K0 77 Tryz.func137 ?_
 intro w0 Q hQ
 unfold pt at h
 refine T_su [(0,vp s),(1,vi d),(2,vi b),(3,vi nv)]<| T_srz 0<| T_ed 2 [] []<| T_sz<| T_srz 1<| T_nd 1 [] [(16,vp s)] ?_
 refine T_c (some 17) h ?_;clear h
 rintro v H1 ⟨x,rfl,h⟩
 refine T_pd [16] [(17,.bool x)]<| T_nd 1 [17] [(18,.bool x)] ?_
 by_cases c1:x=true
 ·rw[if_pos c1]at h
  exact N_bd 18 c1<| T_ed 6 [18] [(24,.bool true)]<| T_tz 24<| T_srz 2<| T_nr 2 [8,9] [vi 0,vi 1] hQ h
 rw[if_neg c1]at h
 refine N_bd 18 (eq_false_of_ne_true c1)<| T_nd 3 [] [(19,vi d),(20,vi b),(21,vi nv)] ?_
 refine T_c (some 22) h ?_;clear h
 rintro aa H2 ⟨o,rfl,h⟩
 refine T_pd [19,20,21] [(22,.bool o)]<| T_ed 2 [18,22] [(24,.bool (!o))] ?_
 by_cases c3:o=true
 ·rw[if_pos c3]at h
  refine T_cFz 24 (congrArg Bool.not (c3))<| T_kt<| T_sz<| T_srz 3<| T_nd 3 [24] [(26,vp s),(27,vi d),(28,vi b)] ?_
  refine T_c (some 29) h ?_;clear h
  rintro z H3 ⟨ra,rb,rfl,h⟩
  refine T_pd [26,27,28] [(29,.tuple #[vi ra,.bool rb])]<| T_ed 5 [29] [(10,vi ra),(11,.bool rb)]<| T_srz 4<| T_ne 1 [(0,vp s),(1,vi d),(2,vi b),(3,vi nv),(10,vi ra),(32,.bool rb)] ?_
  obtain⟨J,h,j6⟩:=h
  refine S_join (σ:=Unit) (λs_=> [(0,vp s),(1,vi d),(2,vi b),(3,vi nv)]) (λs_ H=>J H) ?_ ?_
  ·rintro _ H4 j7
   replace h:=j6 H4 j7
   refine T_su [(0,vp s),(1,vi d),(2,vi b),(3,vi nv)] ?_
   refine S_then ?_
   refine T_srz 8<| T_nd 1 [] [(47,vp s)] ?_
   obtain⟨sA,rfl,h⟩:=h
   refine T_nd 2 [0,47] [(0,vp (some sA)),(49,vp (some sA))] ?_
   obtain⟨y,q8,h⟩:=h
   refine T_l1 50 71 q8 [49]<| T_nd 2 [] [(51,vi d),(52,vi b)] ?_
   refine T_c (some 53) h ?_;clear h
   rintro ab H5 ⟨e,f,rfl,h⟩
   refine T_pd [50,51,52] [(53,.tuple #[vi e,vi f])]<| T_ed 5 [53] [(14,vi e),(15,vi f)]<| T_sz<| T_srz 9<| T_ed 2 [] [(57,.bool (f !=0))] ?_
   by_cases c9:f=0
   ·rw[if_pos c9]at h
    refine T_cFz 57 (bne_eq_false_iff_eq.mpr c9)<| T_kt<| T_srz 11<| T_nd 7 [1,2,15,57] [(60,vi d),(61,vi b),(63,vi (IntKind.wrap .i64 (e+1))),(65,vp (some (sA.add 1)))] ?_
    obtain⟨q11,h⟩:=h
    refine T_v1 66 (indexAtN 73 (vp (some (sA.add 1))) (vi d)) (vp (some ((sA.add 1).add (Int.toNat d*4)))) (λw _=>indexArr_run (P:=Tryz.prog) (t:=73) (elem:=72) (sz:=4) (n:=5) (a:=(sA.add 1)) (k:=.i64) (i:=d) Tryz.underlying73 (λ_=>by kernel_rfl) q11.1 q11.2 w) [60,65] ?_
    obtain⟨q12,h⟩:=h
    refine T_v1 67 (indexAtN 72 (vp (some ((sA.add 1).add (Int.toNat d*4)))) (vi b)) (vp (some (((sA.add 1).add (Int.toNat d*4)).add (Int.toNat b*1)))) (λw _=>indexArr_run (P:=Tryz.prog) (t:=72) (elem:=3) (sz:=1) (n:=4) (a:=((sA.add 1).add (Int.toNat d*4))) (k:=.i64) (i:=b) Tryz.underlying72 (λ_=>by kernel_rfl) q12.1 q12.2 w) [61,66] ?_
    obtain⟨q14,h⟩:=h
    refine T_st1 3 (vi (IntKind.wrap .i64 (e+1))) q14 ?_
    intro H6 e13
    replace h:=h H6 e13
    refine T_pd [63,67] []<| T_e<| T_srz 12<| T_nd 3 [0] [(70,vp (some sA))] ?_
    obtain⟨r,q15,h⟩:=h
    refine T_l1 71 71 q15 [70]<| T_nd 2 [3,14] [(72,vi e),(73,vi nv)] ?_
    refine T_c (some 74) h ?_;clear h
    rintro ae H7 ⟨q,p,rfl,h⟩
    refine⟨[(74,.tuple #[vi q,vi p])],pk,?_⟩
    exact T_nr 4 [8,9] [vi q,vi p] hQ h
   rw[if_neg c9]at h
   exact T_cTz 57 (bne_iff_ne.mpr c9)<| T_srz 10<| T_nr 3 [8,9] [vi 0,vi f] hQ h
  by_cases c16:rb=true
  ·rw[if_pos c16]at h
   have b17:rb=true:=c16
   refine S_env [(0,vp s),(1,vi d),(2,vi b),(3,vi nv),(10,vi ra),(32,.bool true)] (by simp only[b17,Bool.not_true,Bool.not_false]) ?_
   clear b17
   refine T_tz 32<| T_srz 5<| T_nd 1 [32] [(34,vp s)] ?_
   obtain⟨j,rfl,h⟩:=h
   refine T_nd 2 [0,34] [(0,vp (some j)),(36,vp (some j))] ?_
   obtain⟨u,q18,h⟩:=h
   refine T_l1 37 71 q18 [36]<| T_nd 2 [10] [(38,vi ra),(39,vi nv)] ?_
   refine T_c (some 40) h ?_;clear h
   rintro ac H8 ⟨l,m,rfl,h⟩
   refine T_pd [37,38,39] [(40,.tuple #[vi l,vi m])]<| T_ed 5 [40] [(12,vi l),(13,vi m)]<| T_srz 6<| T_ed 2 [13] [(44,.bool (m==0))] ?_
   by_cases c19:m=0
   ·rw[if_pos c19]at h
    exact T_cTz 44 (beq_iff_eq.mpr c19)<| T_srz 7<| T_nr 3 [8,9] [vi l,vi 0] hQ h
   rw[if_neg c19]at h
   refine T_cFz 44 (beq_eq_false_iff_ne.mpr c19)<| T_kt ?_
   exact S_meet (():Unit) sk h
  rw[if_neg c16]at h
  have b17:rb=false:=eq_false_of_ne_true c16
  refine S_env [(0,vp s),(1,vi d),(2,vi b),(3,vi nv),(10,vi ra),(32,.bool false)] (by simp only[b17,Bool.not_true,Bool.not_false]) ?_
  clear b17
  refine T_fz 32<| T_kt ?_
  exact S_meet (():Unit) sk h
 rw[if_neg c3]at h
 exact T_cTz 24 (congrArg Bool.not (eq_false_of_ne_true c3))<| T_srz 2<| T_nr 2 [8,9] [vi 0,vi 1] hQ h
end space_Space_Alloc

/-! (*moraine/space.Space).none -/
namespace space_Space_none
def K0:=Func.code Tryz.f182
end space_Space_none
def space_Space_none.pt(s:Option Addr)(H:Array Obj)(R:Value->Array Obj->Prop):Prop:=
 onPtr s (
 R (.bool true) H) (λsA=>
 ∃x:Option Addr,hat H sA=some (.pointer x)/\
 onPtr x (
 R (.bool true) H) (λxA=>
 R (.bool false) H))
namespace space_Space_none
theorem link{s:Option Addr}{H:Array Obj}{R:Value->Array Obj->Prop}(h:pt s H R):C s H R:=by
 refine T_en K0 12 Tryz.func182 ?_
 intro w0 Q hQ
 unfold pt at h
 refine T_su [(0,vp s)]<| T_srz 0<| T_ed 1 [] []<| T_srz 1<| T_nd 1 [] [(3,vp s)] ?_
 rcases s with _ | sA
 ·rw[onPtr_none]at h
  exact T_nr 9 [2] [.bool true] hQ h
 rw[onPtr_some]at h
 refine T_n 5 [(5,.bool false),(8,vp (some sA))] ?_
 obtain⟨x,q1,h⟩:=h
 refine T_l1 9 71 q1 [8] ?_
 rcases x with _ | xA
 ·rw[onPtr_none]at h
  exact T_nr 3 [2] [.bool true] hQ h
 rw[onPtr_some]at h
 exact T_nr 3 [2] [.bool false] hQ h
end space_Space_none

/-! moraine/space.may -/
namespace space_may
def K0:=Func.code Tryz.f183
end space_may
def space_may.pt(b a nv:Int)(H:Array Obj)(R:Value->Array Obj->Prop):Prop:=
 if((decide (b<0)) || (decide (b>4)))=true then(
 R (.bool false) H)
 else
 if((a==0) || (a==1))=true then(
 R (.bool (nv==2)) H)
 else
 R (.bool ((((a==2) || (a==3)) && (decide (nv>=1))) && (decide (nv<=63)))) H
namespace space_may
theorem link{b a nv:Int}{H:Array Obj}{R:Value->Array Obj->Prop}(h:pt b a nv H R):C b a nv H R:=by
 refine T_en K0 37 Tryz.func183 ?_
 intro w0 Q hQ
 unfold pt at h
 refine T_su [(0,vi b),(1,vi a),(2,vi nv)]<| T_srz 0<| T_ed 1 [] []<| T_sz<| T_bz 0<| T_srz 1 ?_
 refine N_cut [(1,vi a),(2,vi nv),(7,.bool ((decide (b<0)) || (decide (b>4))))] ?_ ?_
 ·refine S_then ?_
  by_cases c3:((decide (b<0)) || (decide (b>4)))=true
  ·rw[if_pos c3]at h
   exact T_cTz 7 c3<| T_srz 2<| T_nr 1 [6] [.bool false] hQ h
  rw[if_neg c3]at h
  refine T_cFz 7 (eq_false_of_ne_true c3)<| T_srz 3 ?_
  refine N_cut [(1,vi a),(2,vi nv),(14,.bool ((a==0) || (a==1)))] ?_ ?_
  ·refine S_then ?_
   by_cases c7:((a==0) || (a==1))=true
   ·rw[if_pos c7]at h
    exact T_cTz 14 c7<| T_srz 4<| T_nr 3 [6] [.bool (nv==2)] hQ h
   rw[if_neg c7]at h
   refine T_cFz 14 (eq_false_of_ne_true c7)<| T_k ?_
   refine S_blockEnd ?_
   refine S_then ?_
   refine T_srz 5 ?_
   refine N_cut [(6,.bool ((((a==2) || (a==3)) && (decide (nv>=1))) && (decide (nv<=63))))] ?_ ?_
   ·refine S_then ?_
    exact T_ret [6] [.bool ((((a==2) || (a==3)) && (decide (nv>=1))) && (decide (nv<=63)))] hQ h
   intro hk
   refine T_n 3 [(1,vi a),(2,vi nv),(25,.bool (a==2))] ?_
   by_cases c9:a=2
   ·have b10:(a==2)=true:=beq_iff_eq.mpr c9
    refine N_env [(1,vi a),(2,vi nv),(25,.bool true)] (by rw[b10]) ?_
    refine T_nd 8 [1,25] [(33,.bool (decide (nv>=1)))] ?_
    by_cases c11:nv>=1
    ·have b12:(decide (nv>=1))=true:=decide_eq_true c11
     refine N_bd 33 b12<| T_n 4 [(6,.bool (decide (nv<=63)))] ?_
     refine N_end (by kernel_rfl) ?_
     refine S_env [(6,.bool ((((a==2) || (a==3)) && (decide (nv>=1))) && (decide (nv<=63))))] (by simp only[b10,b12,BL]) ?_
     exact hk
    have b12:(decide (nv>=1))=false:=decide_eq_false c11
    refine N_bd 33 b12<| T_n 4 [(6,.bool false)] ?_
    refine N_end (by kernel_rfl) ?_
    refine S_env [(6,.bool ((((a==2) || (a==3)) && (decide (nv>=1))) && (decide (nv<=63))))] (by simp only[b10,b12,BL]) ?_
    exact hk
   have b10:(a==2)=false:=beq_eq_false_iff_ne.mpr c9
   refine N_env [(1,vi a),(2,vi nv),(25,.bool false)] (by rw[b10]) ?_
   refine T_nd 4 [1,25] [(29,.bool (a==3))] ?_
   by_cases c13:a=3
   ·have b14:(a==3)=true:=beq_iff_eq.mpr c13
    refine N_bd 29 b14<| T_nd 4 [29] [(33,.bool (decide (nv>=1)))] ?_
    by_cases c15:nv>=1
    ·have b16:(decide (nv>=1))=true:=decide_eq_true c15
     refine N_bd 33 b16<| T_n 4 [(6,.bool (decide (nv<=63)))] ?_
     refine N_end (by kernel_rfl) ?_
     refine S_env [(6,.bool ((((a==2) || (a==3)) && (decide (nv>=1))) && (decide (nv<=63))))] (by simp only[b10,b14,b16,BL]) ?_
     exact hk
    have b16:(decide (nv>=1))=false:=decide_eq_false c15
    refine N_bd 33 b16<| T_n 4 [(6,.bool false)] ?_
    refine N_end (by kernel_rfl) ?_
    refine S_env [(6,.bool ((((a==2) || (a==3)) && (decide (nv>=1))) && (decide (nv<=63))))] (by simp only[b10,b14,b16,BL]) ?_
    exact hk
   have b14:(a==3)=false:=beq_eq_false_iff_ne.mpr c13
   refine N_bd 29 b14<| T_n 8 [(6,.bool false)] ?_
   refine N_end (by kernel_rfl) ?_
   refine S_env [(6,.bool ((((a==2) || (a==3)) && (decide (nv>=1))) && (decide (nv<=63))))] (by simp only[b10,b14,BL]) ?_
   exact hk
  intro hk
  refine T_n 3 [(1,vi a),(2,vi nv),(17,.bool (a==0))] ?_
  by_cases c5:a=0
  ·have b6:(a==0)=true:=beq_iff_eq.mpr c5
   refine N_env [(1,vi a),(2,vi nv),(17,.bool true)] (by rw[b6]) ?_
   refine T_nd 4 [17] [(14,.bool true)] ?_
   refine N_end (by kernel_rfl) ?_
   refine S_bd 14 (b:=true) (v:=((a==0) || (a==1))) (by simp only[b6,BL]) ?_
   exact hk
  have b6:(a==0)=false:=beq_eq_false_iff_ne.mpr c5
  refine N_env [(1,vi a),(2,vi nv),(17,.bool false)] (by rw[b6]) ?_
  refine T_nd 4 [17] [(14,.bool (a==1))] ?_
  refine N_end (by kernel_rfl) ?_
  refine S_bd 14 (b:=(a==1)) (v:=((a==0) || (a==1))) (by simp only[b6,BL]) ?_
  exact hk
 intro hk
 refine T_n 3 [(0,vi b),(1,vi a),(2,vi nv),(10,.bool (decide (b<0)))] ?_
 by_cases c1:b<0
 ·have b2:(decide (b<0))=true:=decide_eq_true c1
  refine N_env [(0,vi b),(1,vi a),(2,vi nv),(10,.bool true)] (by rw[b2]) ?_
  refine T_nd 4 [0,10] [(7,.bool true)] ?_
  refine N_end (by kernel_rfl) ?_
  refine S_bd 7 (b:=true) (v:=((decide (b<0)) || (decide (b>4)))) (by simp only[b2,BL]) ?_
  exact hk
 have b2:(decide (b<0))=false:=decide_eq_false c1
 refine N_env [(0,vi b),(1,vi a),(2,vi nv),(10,.bool false)] (by rw[b2]) ?_
 refine T_nd 4 [0,10] [(7,.bool (decide (b>4)))] ?_
 refine N_end (by kernel_rfl) ?_
 refine S_bd 7 (b:=(decide (b>4))) (v:=((decide (b<0)) || (decide (b>4)))) (by simp only[b2,BL]) ?_
 exact hk
end space_may

/-! (*moraine/space.Space).Current -/
namespace space_Space_Current
def K0:=Func.code Tryz.f184
end space_Space_Current
def space_Space_Current.pt(s:Option Addr)(d b:Int)(H:Array Obj)(R:Value->Array Obj->Prop):Prop:=
 onPtr s (
 R (.tuple #[.int .i64 0,.bool false]) H) (λsA=>
 if d<0 then(
 R (.tuple #[.int .i64 0,.bool false]) H)
 else
 if d>4 then(
 R (.tuple #[.int .i64 0,.bool false]) H)
 else
 if b<0 then(
 R (.tuple #[.int .i64 0,.bool false]) H)
 else
 if b>3 then(
 R (.tuple #[.int .i64 0,.bool false]) H)
 else
 ((0:Int)<=d/\d< (5:Int))/\
 ((0:Int)<=b/\b< (4:Int))/\
 ∃x:Int,hat H (((sA.add 1).add (Int.toNat d*4)).add (Int.toNat b*1))=some (.int .i64 x)/\
 if x=0 then(
 R (.tuple #[.int .i64 0,.bool false]) H)
 else
 ((0:Int)<=d/\d< (5:Int))/\
 ((0:Int)<=b/\b< (4:Int))/\
 ∃e:Int,hat H (((sA.add 1).add (Int.toNat d*4)).add (Int.toNat b*1))=some (.int .i64 e)/\
 R (.tuple #[.int .i64 (IntKind.wrap .i64 (e-1)),.bool true]) H)
namespace space_Space_Current
theorem link{s:Option Addr}{d b:Int}{H:Array Obj}{R:Value->Array Obj->Prop}(h:pt s d b H R):C s d b H R:=by
 refine T_en K0 46 Tryz.func184 ?_
 intro w0 Q hQ
 unfold pt at h
 refine T_su [(0,vp s),(1,vi d),(2,vi b)]<| T_srz 0<| T_ed 2 [] []<| T_sz<| T_srz 1<| T_nd 1 [] [(8,vp s)] ?_
 rcases s with _ | sA
 ·rw[onPtr_none]at h
  exact T_ed 28 [0,8] [(0,vp none),(36,.bool true)]<| T_tz 36<| T_srz 2<| T_nr 2 [6,7] [vi 0,.bool false] hQ h
 rw[onPtr_some]at h
 refine T_nd 6 [0,8] [(0,vp (some sA)),(14,.bool (decide (d<0)))] ?_
 by_cases c1:d<0
 ·rw[if_pos c1]at h
  exact N_bd 14 (decide_eq_true c1)<| T_ed 22 [14] [(36,.bool true)]<| T_tz 36<| T_srz 2<| T_nr 2 [6,7] [vi 0,.bool false] hQ h
 rw[if_neg c1]at h
 refine N_bd 14 (decide_eq_false c1)<| T_nd 4 [14] [(18,.bool (decide (d>4)))] ?_
 by_cases c3:d>4
 ·rw[if_pos c3]at h
  exact N_bd 18 (decide_eq_true c3)<| T_ed 18 [18] [(36,.bool true)]<| T_tz 36<| T_srz 2<| T_nr 2 [6,7] [vi 0,.bool false] hQ h
 rw[if_neg c3]at h
 refine N_bd 18 (decide_eq_false c3)<| T_nd 4 [18] [(22,.bool (decide (b<0)))] ?_
 by_cases c5:b<0
 ·rw[if_pos c5]at h
  exact N_bd 22 (decide_eq_true c5)<| T_ed 14 [22] [(36,.bool true)]<| T_tz 36<| T_srz 2<| T_nr 2 [6,7] [vi 0,.bool false] hQ h
 rw[if_neg c5]at h
 refine N_bd 22 (decide_eq_false c5)<| T_nd 4 [22] [(26,.bool (decide (b>3)))] ?_
 by_cases c7:b>3
 ·rw[if_pos c7]at h
  exact N_bd 26 (decide_eq_true c7)<| T_ed 10 [26] [(36,.bool true)]<| T_tz 36<| T_srz 2<| T_nr 2 [6,7] [vi 0,.bool false] hQ h
 rw[if_neg c7]at h
 refine N_bd 26 (decide_eq_false c7)<| T_nd 5 [] [(28,vi d),(29,vi b),(31,vp (some (sA.add 1)))] ?_
 obtain⟨q9,h⟩:=h
 refine T_v1 32 (indexAtN 73 (vp (some (sA.add 1))) (vi d)) (vp (some ((sA.add 1).add (Int.toNat d*4)))) (λw _=>indexArr_run (P:=Tryz.prog) (t:=73) (elem:=72) (sz:=4) (n:=5) (a:=(sA.add 1)) (k:=.i64) (i:=d) Tryz.underlying73 (λ_=>by kernel_rfl) q9.1 q9.2 w) [28,31] ?_
 obtain⟨q10,h⟩:=h
 refine T_v1 33 (indexAtN 72 (vp (some ((sA.add 1).add (Int.toNat d*4)))) (vi b)) (vp (some (((sA.add 1).add (Int.toNat d*4)).add (Int.toNat b*1)))) (λw _=>indexArr_run (P:=Tryz.prog) (t:=72) (elem:=3) (sz:=1) (n:=4) (a:=((sA.add 1).add (Int.toNat d*4))) (k:=.i64) (i:=b) Tryz.underlying72 (λ_=>by kernel_rfl) q10.1 q10.2 w) [29,32] ?_
 obtain⟨x,q11,h⟩:=h
 refine T_l1 34 3 q11 [33]<| T_ed 2 [26,34] [(36,.bool (x==0))] ?_
 by_cases c12:x=0
 ·rw[if_pos c12]at h
  exact T_cTz 36 (beq_iff_eq.mpr c12)<| T_srz 2<| T_nr 2 [6,7] [vi 0,.bool false] hQ h
 rw[if_neg c12]at h
 refine T_cFz 36 (beq_eq_false_iff_ne.mpr c12)<| T_kt<| T_srz 3<| T_n 5 [(38,vi d),(39,vi b),(41,vp (some (sA.add 1)))] ?_
 obtain⟨q14,h⟩:=h
 refine T_v1 42 (indexAtN 73 (vp (some (sA.add 1))) (vi d)) (vp (some ((sA.add 1).add (Int.toNat d*4)))) (λw _=>indexArr_run (P:=Tryz.prog) (t:=73) (elem:=72) (sz:=4) (n:=5) (a:=(sA.add 1)) (k:=.i64) (i:=d) Tryz.underlying73 (λ_=>by kernel_rfl) q14.1 q14.2 w) [38,41] ?_
 obtain⟨q15,h⟩:=h
 refine T_v1 43 (indexAtN 72 (vp (some ((sA.add 1).add (Int.toNat d*4)))) (vi b)) (vp (some (((sA.add 1).add (Int.toNat d*4)).add (Int.toNat b*1)))) (λw _=>indexArr_run (P:=Tryz.prog) (t:=72) (elem:=3) (sz:=1) (n:=4) (a:=((sA.add 1).add (Int.toNat d*4))) (k:=.i64) (i:=b) Tryz.underlying72 (λ_=>by kernel_rfl) q15.1 q15.2 w) [39,42] ?_
 obtain⟨e,q16,h⟩:=h
 exact T_l1 44 3 q16 [43]<| T_nr 3 [6,7] [vi (IntKind.wrap .i64 (e-1)),.bool true] hQ h
end space_Space_Current

end Go.Proofs.YtibpklpgmgakcaaGreat
