/- Printed: what each function asks, and that it is sound. -/
import Derived.Test.YtibpklpgmgakcaaGreatDoorFnsC
set_option linter.unusedSimpArgs false
set_option linter.unusedVariables false
set_option maxRecDepth 100000
set_option maxHeartbeats 1000000
noncomputable section
namespace Go.Proofs.YtibpklpgmgakcaaGreatDoor
open Go
/-! moraine/space.New -/
namespace space_New
def K0:=Func.code Tryz.f33
end space_New
def space_New.pt(a:Int)(H:Array Obj)(R:Value->Array Obj->Prop):Prop:=
 seg_New.C a H (λv H1=> ∃(ra:Option Addr) (rb:Int),v=.tuple #[.pointer ra,.int .i64 rb]/\
 if rb=0 then(
 ∀(b:Nat) (H2:Array Obj),b=H1.size->H2=H1.push (.cells #[.pointer ra,.int .i64 0,.int .i64 0,.int .i64 0,.int .i64 0,.int .i64 0,.int .i64 0,.int .i64 0,.int .i64 0,.int .i64 0,.int .i64 0,.int .i64 0,.int .i64 0,.int .i64 0,.int .i64 0,.int .i64 0,.int .i64 0,.int .i64 0,.int .i64 0,.int .i64 0,.int .i64 0] 45)->
 R (.tuple #[.pointer (some (ad b)),.int .i64 0]) H2)
 else
 R (.tuple #[.pointer none,.int .i64 rb]) H1)
namespace space_New
theorem link{a:Int}{H:Array Obj}{R:Value->Array Obj->Prop}(h:pt a H R):C a H R:=by
 refine T_en K0 17 Tryz.func33 ?_
 intro w0 Q hQ
 unfold pt at h
 refine T_su [(0,vi a)]<| T_srz 0<| T_ed 2 [] []<| T_srz 1<| T_n 1 [(7,vi a)] ?_
 refine T_c (some 8) h ?_;clear h
 rintro v H1 ⟨ra,rb,rfl,h⟩
 refine⟨[(8,.tuple #[vp ra,vi rb])],pk,?_⟩
 refine T_ne 5 [(4,vp ra),(5,vi rb)]<| T_sz<| T_srz 2<| T_ed 2 [] [(12,.bool (rb !=0))] ?_
 by_cases c1:rb=0
 ·rw[if_pos c1]at h
  refine T_cFz 12 (bne_eq_false_iff_eq.mpr c1)<| T_kt<| T_srz 4<| T_n 2 [(15,.agg #[vp ra,vi 0,vi 0,vi 0,vi 0,vi 0,vi 0,vi 0,vi 0,vi 0,vi 0,vi 0,vi 0,vi 0,vi 0,vi 0,vi 0,vi 0,vi 0,vi 0,vi 0])]<| T_nw (some 16) (λb=>vp (pa b)) (.cells #[vp ra,vi 0,vi 0,vi 0,vi 0,vi 0,vi 0,vi 0,vi 0,vi 0,vi 0,vi 0,vi 0,vi 0,vi 0,vi 0,vi 0,vi 0,vi 0,vi 0,vi 0] 45) ?_
  intro b H2 e3 e4
  replace h:=h b H2 e3 e4
  refine⟨[(16,vp (pa b))],pk,?_⟩
  exact T_nr 2 [2,3] [vp (pa b),vi 0] hQ h
 rw[if_neg c1]at h
 exact T_cTz 12 (bne_iff_ne.mpr c1)<| T_srz 3<| T_nr 3 [2,3] [vp none,vi rb] hQ h
end space_New

/-! (*moraine/space.Space).Alloc -/
namespace space_Space_Alloc
def K0:=Func.code Tryz.f65
end space_Space_Alloc
def space_Space_Alloc.pt(s:Option Addr)(d b nv:Int)(H:Array Obj)(R:Value->Array Obj->Prop):Prop:=
 space_Space_none.C s H (λv H1=> ∃x:Bool,v=.bool x/\
 if x=true then(
 R (.tuple #[.int .i64 0,.int .i64 1]) H1)
 else
 space_may.C d b nv H1 (λaa H2=> ∃o:Bool,aa=.bool o/\
 if o=true then(
 space_Space_Current.C s d b H2 (λab H3=> ∃(ra:Int) (rb:Bool),ab=.tuple #[.int .i64 ra,.bool rb]/\
 ∃J:Array Obj->Prop,(
 if rb=true then(
 ∃g:Addr,s=some g/\
 ∃y:Option Addr,hat H3 g=some (.pointer y)/\
 seg_Mem_Bump.C y ra nv H3 (λz H8=> ∃j m:Int,z=.tuple #[.int .i64 j,.int .i64 m]/\
 if m=0 then(
 R (.tuple #[.int .i64 j,.int .i64 0]) H8)
 else
 J H8))
 else
 J H3)/\ ∀(H4:Array Obj),J H4->
 ∃sA:Addr,s=some sA/\
 ∃u:Option Addr,hat H4 sA=some (.pointer u)/\
 seg_Mem_Take.C u d b H4 (λac H5=> ∃e f:Int,ac=.tuple #[.int .i64 e,.int .i64 f]/\
 if f=0 then(
 ((0:Int)<=d/\d< (5:Int))/\
 ((0:Int)<=b/\b< (4:Int))/\
 (CanPuts H5 (((sA.add 1).add (Int.toNat d*4)).add (Int.toNat b*1)) 0 1)/\ ∀H6,H6=hputs H5 (((sA.add 1).add (Int.toNat d*4)).add (Int.toNat b*1)) [.int .i64 (IntKind.wrap .i64 (e+1))] 0->
 ∃r:Option Addr,hat H6 sA=some (.pointer r)/\
 seg_Mem_Bump.C r e nv H6 (λae H7=> ∃p q:Int,ae=.tuple #[.int .i64 p,.int .i64 q]/\
 R (.tuple #[.int .i64 p,.int .i64 q]) H7))
 else
 R (.tuple #[.int .i64 0,.int .i64 f]) H5)))
 else
 R (.tuple #[.int .i64 0,.int .i64 1]) H2))
namespace space_Space_Alloc
theorem link{s:Option Addr}{d b nv:Int}{H:Array Obj}{R:Value->Array Obj->Prop}(h:pt s d b nv H R):C s d b nv H R:=by
 refine T_en K0 77 Tryz.func65 ?_
 intro w0 Q hQ
 unfold pt at h
 refine T_su [(0,vp s),(1,vi d),(2,vi b),(3,vi nv)]<| T_srz 0<| T_ed 2 [] []<| T_sz<| T_srz 1<| T_nd 1 [] [(16,vp s)] ?_
 refine T_c (some 17) h ?_;clear h
 rintro v H1 ⟨x,rfl,h⟩
 refine T_pd [16] [(17,.bool x)]<| T_nd 1 [17] [(18,.bool x)] ?_
 by_cases c1:x=true
 ·rw[if_pos c1]at h
  exact N_bd 18 c1<| T_ed 6 [18] [(24,.bool true)]<| T_tz 24<| T_srz 2<| T_nr 2 [8,9] [vi 0,vi 1] hQ h
 rw[if_neg c1]at h
 refine N_bd 18 (eq_false_of_ne_true c1)<| T_nd 3 [] [(19,vi d),(20,vi b),(21,vi nv)] ?_
 refine T_c (some 22) h ?_;clear h
 rintro aa H2 ⟨o,rfl,h⟩
 refine T_pd [19,20,21] [(22,.bool o)]<| T_ed 2 [18,22] [(24,.bool (!o))] ?_
 by_cases c3:o=true
 ·rw[if_pos c3]at h
  refine T_cFz 24 (congrArg Bool.not (c3))<| T_kt<| T_sz<| T_srz 3<| T_nd 3 [24] [(26,vp s),(27,vi d),(28,vi b)] ?_
  refine T_c (some 29) h ?_;clear h
  rintro ab H3 ⟨ra,rb,rfl,h⟩
  refine T_pd [26,27,28] [(29,.tuple #[vi ra,.bool rb])]<| T_ed 5 [29] [(10,vi ra),(11,.bool rb)]<| T_srz 4<| T_ne 1 [(0,vp s),(1,vi d),(2,vi b),(3,vi nv),(10,vi ra),(32,.bool rb)] ?_
  obtain⟨J,h,j6⟩:=h
  refine S_join (σ:=Unit) (λs_=> [(0,vp s),(1,vi d),(2,vi b),(3,vi nv)]) (λs_ H=>J H) ?_ ?_
  ·rintro _ H4 j7
   replace h:=j6 H4 j7
   refine T_su [(0,vp s),(1,vi d),(2,vi b),(3,vi nv)] ?_
   refine S_then ?_
   refine T_srz 8<| T_nd 1 [] [(47,vp s)] ?_
   obtain⟨sA,rfl,h⟩:=h
   refine T_nd 2 [0,47] [(0,vp (some sA)),(49,vp (some sA))] ?_
   obtain⟨u,q8,h⟩:=h
   refine T_l1 50 41 q8 [49]<| T_nd 2 [] [(51,vi d),(52,vi b)] ?_
   refine T_c (some 53) h ?_;clear h
   rintro ac H5 ⟨e,f,rfl,h⟩
   refine T_pd [50,51,52] [(53,.tuple #[vi e,vi f])]<| T_ed 5 [53] [(14,vi e),(15,vi f)]<| T_sz<| T_srz 9<| T_ed 2 [] [(57,.bool (f !=0))] ?_
   by_cases c9:f=0
   ·rw[if_pos c9]at h
    refine T_cFz 57 (bne_eq_false_iff_eq.mpr c9)<| T_kt<| T_srz 11<| T_nd 7 [1,2,15,57] [(60,vi d),(61,vi b),(63,vi (IntKind.wrap .i64 (e+1))),(65,vp (some (sA.add 1)))] ?_
    obtain⟨q11,h⟩:=h
    refine T_v1 66 (indexAtN 43 (vp (some (sA.add 1))) (vi d)) (vp (some ((sA.add 1).add (Int.toNat d*4)))) (λw _=>indexArr_run (P:=Tryz.prog) (t:=43) (elem:=42) (sz:=4) (n:=5) (a:=(sA.add 1)) (k:=.i64) (i:=d) Tryz.underlying43 (λ_=>by kernel_rfl) q11.1 q11.2 w) [60,65] ?_
    obtain⟨q12,h⟩:=h
    refine T_v1 67 (indexAtN 42 (vp (some ((sA.add 1).add (Int.toNat d*4)))) (vi b)) (vp (some (((sA.add 1).add (Int.toNat d*4)).add (Int.toNat b*1)))) (λw _=>indexArr_run (P:=Tryz.prog) (t:=42) (elem:=3) (sz:=1) (n:=4) (a:=((sA.add 1).add (Int.toNat d*4))) (k:=.i64) (i:=b) Tryz.underlying42 (λ_=>by kernel_rfl) q12.1 q12.2 w) [61,66] ?_
    obtain⟨q14,h⟩:=h
    refine T_st1 3 (vi (IntKind.wrap .i64 (e+1))) q14 ?_
    intro H6 e13
    replace h:=h H6 e13
    refine T_pd [63,67] []<| T_e<| T_srz 12<| T_nd 3 [0] [(70,vp (some sA))] ?_
    obtain⟨r,q15,h⟩:=h
    refine T_l1 71 41 q15 [70]<| T_nd 2 [3,14] [(72,vi e),(73,vi nv)] ?_
    refine T_c (some 74) h ?_;clear h
    rintro ae H7 ⟨p,q,rfl,h⟩
    refine⟨[(74,.tuple #[vi p,vi q])],pk,?_⟩
    exact T_nr 4 [8,9] [vi p,vi q] hQ h
   rw[if_neg c9]at h
   exact T_cTz 57 (bne_iff_ne.mpr c9)<| T_srz 10<| T_nr 3 [8,9] [vi 0,vi f] hQ h
  by_cases c16:rb=true
  ·rw[if_pos c16]at h
   have b17:rb=true:=c16
   refine S_env [(0,vp s),(1,vi d),(2,vi b),(3,vi nv),(10,vi ra),(32,.bool true)] (by simp only[b17,Bool.not_true,Bool.not_false]) ?_
   clear b17
   refine T_tz 32<| T_srz 5<| T_nd 1 [32] [(34,vp s)] ?_
   obtain⟨g,rfl,h⟩:=h
   refine T_nd 2 [0,34] [(0,vp (some g)),(36,vp (some g))] ?_
   obtain⟨y,q18,h⟩:=h
   refine T_l1 37 41 q18 [36]<| T_nd 2 [10] [(38,vi ra),(39,vi nv)] ?_
   refine T_c (some 40) h ?_;clear h
   rintro z H8 ⟨j,m,rfl,h⟩
   refine T_pd [37,38,39] [(40,.tuple #[vi j,vi m])]<| T_ed 5 [40] [(12,vi j),(13,vi m)]<| T_srz 6<| T_ed 2 [13] [(44,.bool (m==0))] ?_
   by_cases c19:m=0
   ·rw[if_pos c19]at h
    exact T_cTz 44 (beq_iff_eq.mpr c19)<| T_srz 7<| T_nr 3 [8,9] [vi j,vi 0] hQ h
   rw[if_neg c19]at h
   refine T_cFz 44 (beq_eq_false_iff_ne.mpr c19)<| T_kt ?_
   exact S_meet (():Unit) sk h
  rw[if_neg c16]at h
  have b17:rb=false:=eq_false_of_ne_true c16
  refine S_env [(0,vp s),(1,vi d),(2,vi b),(3,vi nv),(10,vi ra),(32,.bool false)] (by simp only[b17,Bool.not_true,Bool.not_false]) ?_
  clear b17
  refine T_fz 32<| T_kt ?_
  exact S_meet (():Unit) sk h
 rw[if_neg c3]at h
 exact T_cTz 24 (congrArg Bool.not (eq_false_of_ne_true c3))<| T_srz 2<| T_nr 2 [8,9] [vi 0,vi 1] hQ h
end space_Space_Alloc

/-! (*moraine/space.Space).none -/
namespace space_Space_none
def K0:=Func.code Tryz.f93
end space_Space_none
def space_Space_none.pt(s:Option Addr)(H:Array Obj)(R:Value->Array Obj->Prop):Prop:=
 onPtr s (
 R (.bool true) H) (λsA=>
 ∃x:Option Addr,hat H sA=some (.pointer x)/\
 onPtr x (
 R (.bool true) H) (λxA=>
 R (.bool false) H))
namespace space_Space_none
theorem link{s:Option Addr}{H:Array Obj}{R:Value->Array Obj->Prop}(h:pt s H R):C s H R:=by
 refine T_en K0 12 Tryz.func93 ?_
 intro w0 Q hQ
 unfold pt at h
 refine T_su [(0,vp s)]<| T_srz 0<| T_ed 1 [] []<| T_srz 1<| T_nd 1 [] [(3,vp s)] ?_
 rcases s with _ | sA
 ·rw[onPtr_none]at h
  exact T_nr 9 [2] [.bool true] hQ h
 rw[onPtr_some]at h
 refine T_n 5 [(5,.bool false),(8,vp (some sA))] ?_
 obtain⟨x,q1,h⟩:=h
 refine T_l1 9 41 q1 [8] ?_
 rcases x with _ | xA
 ·rw[onPtr_none]at h
  exact T_nr 3 [2] [.bool true] hQ h
 rw[onPtr_some]at h
 exact T_nr 3 [2] [.bool false] hQ h
end space_Space_none

/-! moraine/space.may -/
namespace space_may
def K0:=Func.code Tryz.f94
end space_may
def space_may.pt(b a nv:Int)(H:Array Obj)(R:Value->Array Obj->Prop):Prop:=
 if((decide (b<0)) || (decide (b>4)))=true then(
 R (.bool false) H)
 else
 if((a==0) || (a==1))=true then(
 R (.bool (nv==2)) H)
 else
 R (.bool ((((a==2) || (a==3)) && (decide (nv>=1))) && (decide (nv<=63)))) H
namespace space_may
theorem link{b a nv:Int}{H:Array Obj}{R:Value->Array Obj->Prop}(h:pt b a nv H R):C b a nv H R:=by
 refine T_en K0 37 Tryz.func94 ?_
 intro w0 Q hQ
 unfold pt at h
 refine T_su [(0,vi b),(1,vi a),(2,vi nv)]<| T_srz 0<| T_ed 1 [] []<| T_sz<| T_bz 0<| T_srz 1 ?_
 refine N_cut [(1,vi a),(2,vi nv),(7,.bool ((decide (b<0)) || (decide (b>4))))] ?_ ?_
 ·refine S_then ?_
  by_cases c3:((decide (b<0)) || (decide (b>4)))=true
  ·rw[if_pos c3]at h
   exact T_cTz 7 c3<| T_srz 2<| T_nr 1 [6] [.bool false] hQ h
  rw[if_neg c3]at h
  refine T_cFz 7 (eq_false_of_ne_true c3)<| T_srz 3 ?_
  refine N_cut [(1,vi a),(2,vi nv),(14,.bool ((a==0) || (a==1)))] ?_ ?_
  ·refine S_then ?_
   by_cases c7:((a==0) || (a==1))=true
   ·rw[if_pos c7]at h
    exact T_cTz 14 c7<| T_srz 4<| T_nr 3 [6] [.bool (nv==2)] hQ h
   rw[if_neg c7]at h
   refine T_cFz 14 (eq_false_of_ne_true c7)<| T_k ?_
   refine S_blockEnd ?_
   refine S_then ?_
   refine T_srz 5 ?_
   refine N_cut [(6,.bool ((((a==2) || (a==3)) && (decide (nv>=1))) && (decide (nv<=63))))] ?_ ?_
   ·refine S_then ?_
    exact T_ret [6] [.bool ((((a==2) || (a==3)) && (decide (nv>=1))) && (decide (nv<=63)))] hQ h
   intro hk
   refine T_n 3 [(1,vi a),(2,vi nv),(25,.bool (a==2))] ?_
   by_cases c9:a=2
   ·have b10:(a==2)=true:=beq_iff_eq.mpr c9
    refine N_env [(1,vi a),(2,vi nv),(25,.bool true)] (by rw[b10]) ?_
    refine T_nd 8 [1,25] [(33,.bool (decide (nv>=1)))] ?_
    by_cases c11:nv>=1
    ·have b12:(decide (nv>=1))=true:=decide_eq_true c11
     refine N_bd 33 b12<| T_n 4 [(6,.bool (decide (nv<=63)))] ?_
     refine N_end (by kernel_rfl) ?_
     refine S_env [(6,.bool ((((a==2) || (a==3)) && (decide (nv>=1))) && (decide (nv<=63))))] (by simp only[b10,b12,BL]) ?_
     exact hk
    have b12:(decide (nv>=1))=false:=decide_eq_false c11
    refine N_bd 33 b12<| T_n 4 [(6,.bool false)] ?_
    refine N_end (by kernel_rfl) ?_
    refine S_env [(6,.bool ((((a==2) || (a==3)) && (decide (nv>=1))) && (decide (nv<=63))))] (by simp only[b10,b12,BL]) ?_
    exact hk
   have b10:(a==2)=false:=beq_eq_false_iff_ne.mpr c9
   refine N_env [(1,vi a),(2,vi nv),(25,.bool false)] (by rw[b10]) ?_
   refine T_nd 4 [1,25] [(29,.bool (a==3))] ?_
   by_cases c13:a=3
   ·have b14:(a==3)=true:=beq_iff_eq.mpr c13
    refine N_bd 29 b14<| T_nd 4 [29] [(33,.bool (decide (nv>=1)))] ?_
    by_cases c15:nv>=1
    ·have b16:(decide (nv>=1))=true:=decide_eq_true c15
     refine N_bd 33 b16<| T_n 4 [(6,.bool (decide (nv<=63)))] ?_
     refine N_end (by kernel_rfl) ?_
     refine S_env [(6,.bool ((((a==2) || (a==3)) && (decide (nv>=1))) && (decide (nv<=63))))] (by simp only[b10,b14,b16,BL]) ?_
     exact hk
    have b16:(decide (nv>=1))=false:=decide_eq_false c15
    refine N_bd 33 b16<| T_n 4 [(6,.bool false)] ?_
    refine N_end (by kernel_rfl) ?_
    refine S_env [(6,.bool ((((a==2) || (a==3)) && (decide (nv>=1))) && (decide (nv<=63))))] (by simp only[b10,b14,b16,BL]) ?_
    exact hk
   have b14:(a==3)=false:=beq_eq_false_iff_ne.mpr c13
   refine N_bd 29 b14<| T_n 8 [(6,.bool false)] ?_
   refine N_end (by kernel_rfl) ?_
   refine S_env [(6,.bool ((((a==2) || (a==3)) && (decide (nv>=1))) && (decide (nv<=63))))] (by simp only[b10,b14,BL]) ?_
   exact hk
  intro hk
  refine T_n 3 [(1,vi a),(2,vi nv),(17,.bool (a==0))] ?_
  by_cases c5:a=0
  ·have b6:(a==0)=true:=beq_iff_eq.mpr c5
   refine N_env [(1,vi a),(2,vi nv),(17,.bool true)] (by rw[b6]) ?_
   refine T_nd 4 [17] [(14,.bool true)] ?_
   refine N_end (by kernel_rfl) ?_
   refine S_bd 14 (b:=true) (v:=((a==0) || (a==1))) (by simp only[b6,BL]) ?_
   exact hk
  have b6:(a==0)=false:=beq_eq_false_iff_ne.mpr c5
  refine N_env [(1,vi a),(2,vi nv),(17,.bool false)] (by rw[b6]) ?_
  refine T_nd 4 [17] [(14,.bool (a==1))] ?_
  refine N_end (by kernel_rfl) ?_
  refine S_bd 14 (b:=(a==1)) (v:=((a==0) || (a==1))) (by simp only[b6,BL]) ?_
  exact hk
 intro hk
 refine T_n 3 [(0,vi b),(1,vi a),(2,vi nv),(10,.bool (decide (b<0)))] ?_
 by_cases c1:b<0
 ·have b2:(decide (b<0))=true:=decide_eq_true c1
  refine N_env [(0,vi b),(1,vi a),(2,vi nv),(10,.bool true)] (by rw[b2]) ?_
  refine T_nd 4 [0,10] [(7,.bool true)] ?_
  refine N_end (by kernel_rfl) ?_
  refine S_bd 7 (b:=true) (v:=((decide (b<0)) || (decide (b>4)))) (by simp only[b2,BL]) ?_
  exact hk
 have b2:(decide (b<0))=false:=decide_eq_false c1
 refine N_env [(0,vi b),(1,vi a),(2,vi nv),(10,.bool false)] (by rw[b2]) ?_
 refine T_nd 4 [0,10] [(7,.bool (decide (b>4)))] ?_
 refine N_end (by kernel_rfl) ?_
 refine S_bd 7 (b:=(decide (b>4))) (v:=((decide (b<0)) || (decide (b>4)))) (by simp only[b2,BL]) ?_
 exact hk
end space_may

/-! (*moraine/space.Space).Current -/
namespace space_Space_Current
def K0:=Func.code Tryz.f95
end space_Space_Current
def space_Space_Current.pt(s:Option Addr)(d b:Int)(H:Array Obj)(R:Value->Array Obj->Prop):Prop:=
 onPtr s (
 R (.tuple #[.int .i64 0,.bool false]) H) (λsA=>
 if d<0 then(
 R (.tuple #[.int .i64 0,.bool false]) H)
 else
 if d>4 then(
 R (.tuple #[.int .i64 0,.bool false]) H)
 else
 if b<0 then(
 R (.tuple #[.int .i64 0,.bool false]) H)
 else
 if b>3 then(
 R (.tuple #[.int .i64 0,.bool false]) H)
 else
 ((0:Int)<=d/\d< (5:Int))/\
 ((0:Int)<=b/\b< (4:Int))/\
 ∃x:Int,hat H (((sA.add 1).add (Int.toNat d*4)).add (Int.toNat b*1))=some (.int .i64 x)/\
 if x=0 then(
 R (.tuple #[.int .i64 0,.bool false]) H)
 else
 ((0:Int)<=d/\d< (5:Int))/\
 ((0:Int)<=b/\b< (4:Int))/\
 ∃e:Int,hat H (((sA.add 1).add (Int.toNat d*4)).add (Int.toNat b*1))=some (.int .i64 e)/\
 R (.tuple #[.int .i64 (IntKind.wrap .i64 (e-1)),.bool true]) H)
namespace space_Space_Current
theorem link{s:Option Addr}{d b:Int}{H:Array Obj}{R:Value->Array Obj->Prop}(h:pt s d b H R):C s d b H R:=by
 refine T_en K0 46 Tryz.func95 ?_
 intro w0 Q hQ
 unfold pt at h
 refine T_su [(0,vp s),(1,vi d),(2,vi b)]<| T_srz 0<| T_ed 2 [] []<| T_sz<| T_srz 1<| T_nd 1 [] [(8,vp s)] ?_
 rcases s with _ | sA
 ·rw[onPtr_none]at h
  exact T_ed 28 [0,8] [(0,vp none),(36,.bool true)]<| T_tz 36<| T_srz 2<| T_nr 2 [6,7] [vi 0,.bool false] hQ h
 rw[onPtr_some]at h
 refine T_nd 6 [0,8] [(0,vp (some sA)),(14,.bool (decide (d<0)))] ?_
 by_cases c1:d<0
 ·rw[if_pos c1]at h
  exact N_bd 14 (decide_eq_true c1)<| T_ed 22 [14] [(36,.bool true)]<| T_tz 36<| T_srz 2<| T_nr 2 [6,7] [vi 0,.bool false] hQ h
 rw[if_neg c1]at h
 refine N_bd 14 (decide_eq_false c1)<| T_nd 4 [14] [(18,.bool (decide (d>4)))] ?_
 by_cases c3:d>4
 ·rw[if_pos c3]at h
  exact N_bd 18 (decide_eq_true c3)<| T_ed 18 [18] [(36,.bool true)]<| T_tz 36<| T_srz 2<| T_nr 2 [6,7] [vi 0,.bool false] hQ h
 rw[if_neg c3]at h
 refine N_bd 18 (decide_eq_false c3)<| T_nd 4 [18] [(22,.bool (decide (b<0)))] ?_
 by_cases c5:b<0
 ·rw[if_pos c5]at h
  exact N_bd 22 (decide_eq_true c5)<| T_ed 14 [22] [(36,.bool true)]<| T_tz 36<| T_srz 2<| T_nr 2 [6,7] [vi 0,.bool false] hQ h
 rw[if_neg c5]at h
 refine N_bd 22 (decide_eq_false c5)<| T_nd 4 [22] [(26,.bool (decide (b>3)))] ?_
 by_cases c7:b>3
 ·rw[if_pos c7]at h
  exact N_bd 26 (decide_eq_true c7)<| T_ed 10 [26] [(36,.bool true)]<| T_tz 36<| T_srz 2<| T_nr 2 [6,7] [vi 0,.bool false] hQ h
 rw[if_neg c7]at h
 refine N_bd 26 (decide_eq_false c7)<| T_nd 5 [] [(28,vi d),(29,vi b),(31,vp (some (sA.add 1)))] ?_
 obtain⟨q9,h⟩:=h
 refine T_v1 32 (indexAtN 43 (vp (some (sA.add 1))) (vi d)) (vp (some ((sA.add 1).add (Int.toNat d*4)))) (λw _=>indexArr_run (P:=Tryz.prog) (t:=43) (elem:=42) (sz:=4) (n:=5) (a:=(sA.add 1)) (k:=.i64) (i:=d) Tryz.underlying43 (λ_=>by kernel_rfl) q9.1 q9.2 w) [28,31] ?_
 obtain⟨q10,h⟩:=h
 refine T_v1 33 (indexAtN 42 (vp (some ((sA.add 1).add (Int.toNat d*4)))) (vi b)) (vp (some (((sA.add 1).add (Int.toNat d*4)).add (Int.toNat b*1)))) (λw _=>indexArr_run (P:=Tryz.prog) (t:=42) (elem:=3) (sz:=1) (n:=4) (a:=((sA.add 1).add (Int.toNat d*4))) (k:=.i64) (i:=b) Tryz.underlying42 (λ_=>by kernel_rfl) q10.1 q10.2 w) [29,32] ?_
 obtain⟨x,q11,h⟩:=h
 refine T_l1 34 3 q11 [33]<| T_ed 2 [26,34] [(36,.bool (x==0))] ?_
 by_cases c12:x=0
 ·rw[if_pos c12]at h
  exact T_cTz 36 (beq_iff_eq.mpr c12)<| T_srz 2<| T_nr 2 [6,7] [vi 0,.bool false] hQ h
 rw[if_neg c12]at h
 refine T_cFz 36 (beq_eq_false_iff_ne.mpr c12)<| T_kt<| T_srz 3<| T_n 5 [(38,vi d),(39,vi b),(41,vp (some (sA.add 1)))] ?_
 obtain⟨q14,h⟩:=h
 refine T_v1 42 (indexAtN 43 (vp (some (sA.add 1))) (vi d)) (vp (some ((sA.add 1).add (Int.toNat d*4)))) (λw _=>indexArr_run (P:=Tryz.prog) (t:=43) (elem:=42) (sz:=4) (n:=5) (a:=(sA.add 1)) (k:=.i64) (i:=d) Tryz.underlying43 (λ_=>by kernel_rfl) q14.1 q14.2 w) [38,41] ?_
 obtain⟨q15,h⟩:=h
 refine T_v1 43 (indexAtN 42 (vp (some ((sA.add 1).add (Int.toNat d*4)))) (vi b)) (vp (some (((sA.add 1).add (Int.toNat d*4)).add (Int.toNat b*1)))) (λw _=>indexArr_run (P:=Tryz.prog) (t:=42) (elem:=3) (sz:=1) (n:=4) (a:=((sA.add 1).add (Int.toNat d*4))) (k:=.i64) (i:=b) Tryz.underlying42 (λ_=>by kernel_rfl) q15.1 q15.2 w) [39,42] ?_
 obtain⟨e,q16,h⟩:=h
 exact T_l1 44 3 q16 [43]<| T_nr 3 [6,7] [vi (IntKind.wrap .i64 (e-1)),.bool true] hQ h
end space_Space_Current

/-! moraine/card.New -/
namespace card_New
def K0:=Func.code Tryz.f15
end card_New
def card_New.pt(a:Int)(H:Array Obj)(R:Value->Array Obj->Prop):Prop:=
 space_New.C a H (λv H1=> ∃(ra:Option Addr) (rb:Int),v=.tuple #[.pointer ra,.int .i64 rb]/\
 if rb=0 then(
 ∀(b:Nat) (H2:Array Obj),b=H1.size->H2=H1.push (.cells #[.pointer ra] 40)->
 R (.tuple #[.pointer (some (ad b)),.int .i64 0]) H2)
 else
 R (.tuple #[.pointer none,.int .i64 rb]) H1)
namespace card_New
theorem link{a:Int}{H:Array Obj}{R:Value->Array Obj->Prop}(h:pt a H R):C a H R:=by
 refine T_en K0 17 Tryz.func15 ?_
 intro w0 Q hQ
 unfold pt at h
 refine T_su [(0,vi a)]<| T_srz 0<| T_ed 2 [] []<| T_srz 1<| T_n 1 [(7,vi a)] ?_
 refine T_c (some 8) h ?_;clear h
 rintro v H1 ⟨ra,rb,rfl,h⟩
 refine⟨[(8,.tuple #[vp ra,vi rb])],pk,?_⟩
 refine T_ne 5 [(4,vp ra),(5,vi rb)]<| T_sz<| T_srz 2<| T_ed 2 [] [(12,.bool (rb !=0))] ?_
 by_cases c1:rb=0
 ·rw[if_pos c1]at h
  refine T_cFz 12 (bne_eq_false_iff_eq.mpr c1)<| T_kt<| T_srz 4<| T_n 2 [(15,.agg #[vp ra])]<| T_nw (some 16) (λb=>vp (pa b)) (.cells #[vp ra] 40) ?_
  intro b H2 e3 e4
  replace h:=h b H2 e3 e4
  refine⟨[(16,vp (pa b))],pk,?_⟩
  exact T_nr 2 [2,3] [vp (pa b),vi 0] hQ h
 rw[if_neg c1]at h
 exact T_cTz 12 (bne_iff_ne.mpr c1)<| T_srz 3<| T_nr 3 [2,3] [vp none,vi rb] hQ h
end card_New

/-! (*moraine/card.Cards).Store -/
namespace card_Cards_Store
def K0:=Func.code Tryz.f68
def K2:=cb K0
def K4:=cb K2
def K12:=cb K4
def K20:=cb K12
def K22:=cb K20
def K23:=ca K22
end card_Cards_Store
def card_Cards_Store.pt(c:Option Addr)(d wv:Int)(H:Array Obj)(R:Value->Array Obj->Prop):Prop:=
 card_Cards_none.C c H (λv H1=> ∃x:Bool,v=.bool x/\
 if x=true then(
 R (.int .i64 18) H1)
 else
 ∃cA:Addr,c=some cA/\
 ∃am:Option Addr,hat H1 cA=some (.pointer am)/\
 ∃aj:Addr,am=some aj/\
 ∃af:Option Addr,hat H1 aj=some (.pointer af)/\
 seg_Mem_Write.C af d wv H1 (λao H2=> ∃ab:Int,ao=.int .i64 ab/\
 if ab=0 then(
 ∃ak:Option Addr,hat H2 cA=some (.pointer ak)/\
 ∃al:Addr,ak=some al/\
 ∃ah:Option Addr,hat H2 al=some (.pointer ah)/\
 seg_Mem_Seg.C ah (IntKind.wrap .i64 (Int.tdiv d 64)) H2 (λap H3=> ∃(aa s ae m o q p:Int) (rb:Bool),ap=.tuple #[.agg #[.int .i64 aa,.int .i64 s,.int .i64 ae,.int .i64 m,.int .i64 o,.int .i64 q,.int .i64 p],.bool rb]/\
 ∀(b:Nat) (H4:Array Obj),b=H3.size->H4=H3.push (.cells #[.int .i64 0,.int .i64 0,.int .i64 0,.int .i64 0,.int .i64 0,.int .i64 0,.int .i64 0] 170)->
 (CanPuts H4 (ad b) 0 7)/\ ∀H5,H5=hputs H4 (ad b) [.int .i64 aa,.int .i64 s,.int .i64 ae,.int .i64 m,.int .i64 o,.int .i64 q,.int .i64 p] 0->
 ∃an:Option Addr,hat H5 cA=some (.pointer an)/\
 ∃z:Addr,an=some z/\
 ∃u:Option Addr,hat H5 z=some (.pointer u)/\
 ∃y r xN g j f e:Int,RowAt H5 (ad b) 0 [.int .i64 y,.int .i64 r,.int .i64 xN,.int .i64 g,.int .i64 j,.int .i64 f,.int .i64 e]/\
 ((0:Int)<=(IntKind.wrap .i64 (Int.tdiv (Int.tmod d 64) 16))/\(IntKind.wrap .i64 (Int.tdiv (Int.tmod d 64) 16))< (4:Int))/\
 ∃ag:Int,hat H5 (((ad b).add 3).add (Int.toNat (IntKind.wrap .i64 (Int.tdiv (Int.tmod d 64) 16))*1))=some (.int .i64 ag)/\
 card_Cards_younger.C (some cA) y r xN g j f e wv ag H5 (λaq H6=> ∃ai:Int,aq=.int .i64 ai/\RowAt H6 cA 0 [.pointer (some z)]/\RowAt H6 z 0 [.pointer u]/\
 seg_Mem_Mark.C u (IntKind.wrap .i64 (Int.tdiv d 64)) (IntKind.wrap .i64 (Int.tdiv (Int.tmod d 64) 16)) ai H6 (λau H7=> ∃ac:Int,au=.int .i64 ac/\
 R (.int .i64 ac) H7))))
 else
 R (.int .i64 ab) H2))
namespace card_Cards_Store
theorem link{c:Option Addr}{d wv:Int}{H:Array Obj}{R:Value->Array Obj->Prop}(h:pt c d wv H R):C c d wv H R:=by
 refine T_en K0 62 Tryz.func68 ?_
 intro w0 Q hQ
 unfold pt at h
 refine T_su [(0,vp c),(1,vi d),(2,vu wv)]<| T_srz 0<| T_ed 1 [] []<| T_sz<| T_srz 1<| T_nd 1 [] [(12,vp c)] ?_
 refine T_c (some 13) h ?_;clear h
 rintro v H1 ⟨x,rfl,h⟩
 refine T_pd [12] [(13,.bool x)]<| T_e ?_
 by_cases c1:x=true
 ·rw[if_pos c1]at h
  exact T_cTz 13 c1<| T_srz 2<| T_nr 1 [6] [vi 18] hQ h
 rw[if_neg c1]at h
 refine T_cFz 13 (eq_false_of_ne_true c1)<| T_kt<| T_sz<| T_srz 3<| T_nd 1 [13] [(14,vp c)] ?_
 obtain⟨cA,rfl,h⟩:=h
 refine T_nd 2 [0,14] [(0,vp (some cA)),(16,vp (some cA))] ?_
 obtain⟨am,q3,h⟩:=h
 refine T_l1 17 38 q3 [16] ?_
 obtain⟨aj,rfl,h⟩:=h
 refine T_nd 2 [17] [(19,vp (some aj))] ?_
 obtain⟨af,q4,h⟩:=h
 refine T_l1 20 41 q4 [19]<| T_nd 2 [] [(21,vi d),(22,vu wv)] ?_
 refine T_c (some 23) h ?_;clear h
 rintro ao H2 ⟨ab,rfl,h⟩
 refine T_pd [20,21,22] [(23,vi ab)]<| T_ed 1 [23] [(7,vi ab)]<| T_srz 4<| T_ed 2 [] [(25,.bool (ab !=0))] ?_
 by_cases c5:ab=0
 ·rw[if_pos c5]at h
  refine T_cFz 25 (bne_eq_false_iff_eq.mpr c5)<| T_kt<| T_srz 6<| T_ed 7 [1,7,25] [(8,vi (IntKind.wrap .i64 (Int.tdiv d 64))),(9,vi (IntKind.wrap .i64 (Int.tdiv (Int.tmod d 64) 16)))]<| T_srz 7<| T_nd 3 [] [(35,vp (some cA))] ?_
  obtain⟨ak,q7,h⟩:=h
  refine T_l1 36 38 q7 [35] ?_
  obtain⟨al,rfl,h⟩:=h
  refine T_nd 2 [36] [(38,vp (some al))] ?_
  obtain⟨ah,q8,h⟩:=h
  refine T_l1 39 41 q8 [38]<| T_nd 1 [] [(40,vi (IntKind.wrap .i64 (Int.tdiv d 64)))] ?_
  refine T_c (some 41) h ?_;clear h
  rintro ap H3 ⟨aa,s,ae,m,o,q,p,rb,rfl,h⟩
  refine T_pd [39,40] [(41,.tuple #[.agg #[vi aa,vi s,vi ae,vi m,vi o,vi q,vi p],.bool rb])]<| T_nd 3 [41] [(42,.agg #[vi aa,vi s,vi ae,vi m,vi o,vi q,vi p]),(43,.bool rb)]<| T_nw (some 10) (λb=>vp (pa b)) (.cells #[vi 0,vi 0,vi 0,vi 0,vi 0,vi 0,vi 0] 170) ?_
  intro b H4 e9 e10
  replace h:=h b H4 e9 e10
  refine T_pd [] [(10,vp (pa b))] ?_
  obtain⟨q12,h⟩:=h
  refine T_sta 170 [vi aa,vi s,vi ae,vi m,vi o,vi q,vi p] q12 ?_
  intro H5 e11
  replace h:=h H5 e11
  refine T_pd [42] []<| T_ed 1 [43] []<| T_sz ?_
  obtain⟨an,q13,h⟩:=h
  obtain⟨z,rfl,h⟩:=h
  obtain⟨u,q14,h⟩:=h
  obtain⟨y,r,xN,g,j,f,e,q15,h⟩:=h
  obtain⟨q16,h⟩:=h
  obtain⟨ag,q17,h⟩:=h
  refine S_regionG 8 (Code.ops K23) [(17,cA,[vp (some z)]),(17,z,[vp u]),(16,(ad b),[vi y,vi r,vi xN,vi g,vi j,vi f,vi e]),(16,(((ad b).add 3).add (Int.toNat (IntKind.wrap .i64 (Int.tdiv (Int.tmod d 64) 16))*1)),[vi ag])] 19 (bv 19 0) (by kernel_rfl) (by kernel_rfl) (by kernel_rfl) (by kernel_rfl) (by kernel_rfl) (show FactsAt _ _ _ from⟨⟨q13,trivial⟩,⟨q14,trivial⟩,q15,⟨q17,trivial⟩,trivial⟩) ?_
  refine T_gp 0 (some 44) (vp (some cA)) (bv 19 1) [(0,vp (some cA)),(2,vu wv),(8,vi (IntKind.wrap .i64 (Int.tdiv d 64))),(9,vi (IntKind.wrap .i64 (Int.tdiv (Int.tmod d 64) 16))),(10,vp (pa b)),(44,vp (some cA))]<| T_gp1 1 45 (vp (some cA)) (bv 19 3) [44]<| T_gp1 2 46 (vp (some cA)) (bv 19 7) [45]<| T_g1 3 47 (vp (some z)) (bv 19 15) [46] (loadN 38 (vp (some cA))) (held_one 17 (λ_=>by kernel_rfl) (List.Mem.head _) (.inl (by kernel_rfl)))<| T_gp1 4 48 (vp (some z)) (bv 19 31) [47]<| T_gp1 5 49 (vp (some z)) (bv 19 63) [48]<| T_g1 6 50 (vp u) (bv 19 127) [49] (loadN 41 (vp (some z))) (held_one 17 (λ_=>by kernel_rfl) (List.Mem.tail _ (List.Mem.head _)) (.inl (by kernel_rfl)))<| T_gp1 7 51 (vi (IntKind.wrap .i64 (Int.tdiv d 64))) (bv 19 255) [8]<| T_gp1 8 52 (vi (IntKind.wrap .i64 (Int.tdiv (Int.tmod d 64) 16))) (bv 19 511) [] ?_
  refine T_gp1 9 53 (vp (some cA)) (bv 19 1023) [0]<| T_g1 10 54 (.agg #[vi y,vi r,vi xN,vi g,vi j,vi f,vi e]) (bv 19 2047) [] (loadN 170 (vp (pa b))) (held_row 16 (λ_=>by kernel_rfl) (λ_=>by kernel_rfl) (List.Mem.tail _ (List.Mem.tail _ (List.Mem.head _))) (.inl (by kernel_rfl)))<| T_gp1 11 55 (vu wv) (bv 19 4095) [2]<| T_gp1 12 56 (vi (IntKind.wrap .i64 (Int.tdiv (Int.tmod d 64) 16))) (bv 19 8191) [9]<| T_gp1 13 57 (vp (some ((ad b).add 3))) (bv 19 16383) [10]<| T_g1 14 58 (vp (some (((ad b).add 3).add (Int.toNat (IntKind.wrap .i64 (Int.tdiv (Int.tmod d 64) 16))*1)))) (bv 19 32767) [56,57] (indexAtN 42 (vp (some ((ad b).add 3))) (vi (IntKind.wrap .i64 (Int.tdiv (Int.tmod d 64) 16)))) (λ_ w _ _ _=>indexArr_run (P:=Tryz.prog) (t:=42) (elem:=3) (sz:=1) (n:=4) (a:=((ad b).add 3)) (k:=.i64) (i:=(IntKind.wrap .i64 (Int.tdiv (Int.tmod d 64) 16))) Tryz.underlying42 (λ_=>by kernel_rfl) q16.1 q16.2 w)<| T_g1 15 59 (vi ag) (bv 19 65535) [58] (loadN 3 (vp (some (((ad b).add 3).add (Int.toNat (IntKind.wrap .i64 (Int.tdiv (Int.tmod d 64) 16))*1))))) (held_one 16 (λ_=>by kernel_rfl) (List.Mem.tail _ (List.Mem.tail _ (List.Mem.tail _ (List.Mem.head _)))) (.inl (by kernel_rfl))) ?_
  refine G_call 16 (some 60) (bv 19 131071) 102 #[vp (some cA),.agg #[vi y,vi r,vi xN,vi g,vi j,vi f,vi e],vu wv,vi ag] (by kernel_rfl) (λ_=>by kernel_rfl) h (by kernel_rfl) ?_;clear h
  rintro aq H6 ⟨ai,rfl,h⟩
  obtain⟨f18,f19,h⟩:=h
  refine⟨[(50,vp u),(51,vi (IntKind.wrap .i64 (Int.tdiv d 64))),(52,vi (IntKind.wrap .i64 (Int.tdiv (Int.tmod d 64) 16))),(60,vi ai)],pk,(show FactsAt _ _ _ from⟨f18,f19,trivial,trivial,trivial⟩),?_⟩
  refine G_call 17 (some 61) (bv 19 262143) 101 #[vp u,vi (IntKind.wrap .i64 (Int.tdiv d 64)),vi (IntKind.wrap .i64 (Int.tdiv (Int.tmod d 64) 16)),vi ai] (by kernel_rfl) (λ_=>by kernel_rfl) h (by kernel_rfl) ?_;clear h
  rintro au H7 ⟨ac,rfl,h⟩
  refine⟨[(61,vi ac)],pk,(show FactsAt _ _ _ from⟨trivial,trivial,trivial,trivial,trivial⟩),?_⟩
  refine T_g 18 (some 6) (vi ac) (bv 19 524287) [(6,vi ac)] (pure (.value (vi ac)):Sem Next) (λ_ _ _ _ _=>rfl) ?_
  refine G_sub [(6,vi ac)] sk ?_
  refine G_end (by kernel_rfl) ?_
  refine S_then ?_
  exact T_ret [6] [vi ac] hQ h
 rw[if_neg c5]at h
 exact T_cTz 25 (bne_iff_ne.mpr c5)<| T_srz 5<| T_nr 2 [6] [vi ab] hQ h
end card_Cards_Store

/-! (*moraine/card.Cards).none -/
namespace card_Cards_none
def K0:=Func.code Tryz.f99
end card_Cards_none
def card_Cards_none.pt(c:Option Addr)(H:Array Obj)(R:Value->Array Obj->Prop):Prop:=
 onPtr c (
 R (.bool true) H) (λcA=>
 ∃x:Option Addr,hat H cA=some (.pointer x)/\
 onPtr x (
 R (.bool true) H) (λxA=>
 ∃d:Option Addr,hat H cA=some (.pointer d)/\
 ∃b:Addr,d=some b/\
 ∃a:Option Addr,hat H b=some (.pointer a)/\
 onPtr a (
 R (.bool true) H) (λe=>
 R (.bool false) H)))
namespace card_Cards_none
theorem link{c:Option Addr}{H:Array Obj}{R:Value->Array Obj->Prop}(h:pt c H R):C c H R:=by
 refine T_en K0 22 Tryz.func99 ?_
 intro w0 Q hQ
 unfold pt at h
 refine T_su [(0,vp c)]<| T_srz 0<| T_ed 1 [] []<| T_srz 1<| T_nd 1 [] [(3,vp c)] ?_
 rcases c with _ | cA
 ·rw[onPtr_none]at h
  exact T_nr 19 [2] [.bool true] hQ h
 rw[onPtr_some]at h
 refine T_n 5 [(0,vp (some cA)),(5,.bool false),(8,vp (some cA))] ?_
 obtain⟨x,q1,h⟩:=h
 refine T_l1 9 38 q1 [8] ?_
 rcases x with _ | xA
 ·rw[onPtr_none]at h
  exact T_nr 13 [2] [.bool true] hQ h
 rw[onPtr_some]at h
 refine T_n 6 [(12,.bool false),(15,vp (some cA))] ?_
 obtain⟨d,q2,h⟩:=h
 refine T_l1 16 38 q2 [15] ?_
 obtain⟨b,rfl,h⟩:=h
 refine T_nd 2 [16] [(18,vp (some b))] ?_
 obtain⟨a,q3,h⟩:=h
 refine T_l1 19 41 q3 [18] ?_
 rcases a with _ | e
 ·rw[onPtr_none]at h
  exact T_nr 3 [2] [.bool true] hQ h
 rw[onPtr_some]at h
 exact T_nr 3 [2] [.bool false] hQ h
end card_Cards_none

/-! (*moraine/card.Cards).younger -/
namespace card_Cards_younger
def K0:=Func.code Tryz.f102
end card_Cards_younger
def card_Cards_younger.pt(c:Option Addr)(k i sN f e d g wv a:Int)(H:Array Obj)(R:Value->Array Obj->Prop):Prop:=
 ∀(b:Nat) (H1:Array Obj),b=H.size->H1=H.push (.cells #[.int .i64 k,.int .i64 i,.int .i64 sN,.int .i64 f,.int .i64 e,.int .i64 d,.int .i64 g] 170)->
 card_Cards_Gen.C c wv H1 (λv H2=> ∃(ra:Int) (rb:Bool),v=.tuple #[.int .i64 ra,.bool rb]/\
 if rb=true then(
 ∃x:Int,hat H2 ((ad b).add 1)=some (.int .i64 x)/\
 if x=3 then(
 R (.int .i64 a) H2)
 else
 ∃j:Int,hat H2 (ad b)=some (.int .i64 j)/\
 if ra<j then(
 R (.int .i64 (if ra<a then ra else a)) H2)
 else
 R (.int .i64 a) H2)
 else
 R (.int .i64 a) H2)
namespace card_Cards_younger
theorem link{c:Option Addr}{k i sN f e d g wv a:Int}{H:Array Obj}{R:Value->Array Obj->Prop}(h:pt c k i sN f e d g wv a H R):C c k i sN f e d g wv a H R:=by
 refine T_en K0 33 Tryz.func102 ?_
 intro w0 Q hQ
 unfold pt at h
 refine T_su [(0,vp c),(1,.agg #[vi k,vi i,vi sN,vi f,vi e,vi d,vi g]),(2,vu wv),(3,vi a)]<| T_srz 0<| T_nw (some 5) (λb=>vp (pa b)) (.cells #[vi k,vi i,vi sN,vi f,vi e,vi d,vi g] 170) ?_
 intro b H1 e1 e2
 replace h:=h b H1 e1 e2
 refine T_pd [1] [(5,vp (pa b))]<| T_ed 1 [] []<| T_sz<| T_srz 1<| T_nd 2 [0,2] [(12,vp c),(13,vu wv)] ?_
 refine T_c (some 14) h ?_;clear h
 rintro v H2 ⟨ra,rb,rfl,h⟩
 refine T_pd [12,13] [(14,.tuple #[vi ra,.bool rb])]<| T_ed 5 [14] [(9,vi ra),(10,.bool rb)]<| T_srz 2<| T_nd 2 [10] [(18,.bool rb)] ?_
 by_cases c3:rb=true
 ·rw[if_pos c3]at h
  refine N_bd 18 c3<| T_nd 1 [] [(19,vp (some ((ad b).add 1)))] ?_
  obtain⟨x,q5,h⟩:=h
  refine T_l1 20 3 q5 [19]<| T_nd 3 [18,20] [(23,.bool (x !=3))] ?_
  by_cases c6:x=3
  ·rw[if_pos c6]at h
   exact N_bd 23 (bne_eq_false_iff_eq.mpr c6)<| T_ed 5 [5,23] [(28,.bool false)]<| T_fz 28<| T_kt<| T_srz 4<| T_nr 2 [8] [vi a] hQ h
  rw[if_neg c6]at h
  refine N_bd 23 (bne_iff_ne.mpr c6)<| T_nd 2 [5] [(24,vi ra),(25,vp (pa b))] ?_
  obtain⟨j,q8,h⟩:=h
  refine T_l1 26 3 q8 [25]<| T_ed 2 [23,24,26] [(28,.bool (decide (ra<j)))] ?_
  by_cases c9:ra<j
  ·rw[if_pos c9]at h
   exact T_cTz 28 (decide_eq_true c9)<| T_srz 3<| T_nr 4 [8] [vi (if ra<a then ra else a)] hQ h
  rw[if_neg c9]at h
  exact T_cFz 28 (decide_eq_false c9)<| T_kt<| T_srz 4<| T_nr 2 [8] [vi a] hQ h
 rw[if_neg c3]at h
 exact N_bd 18 (eq_false_of_ne_true c3)<| T_ed 10 [5,18] [(28,.bool false)]<| T_fz 28<| T_kt<| T_srz 4<| T_nr 2 [8] [vi a] hQ h
end card_Cards_younger

/-! (*moraine/card.Cards).Gen -/
namespace card_Cards_Gen
def K0:=Func.code Tryz.f114
end card_Cards_Gen
def card_Cards_Gen.pt(c:Option Addr)(wv:Int)(H:Array Obj)(R:Value->Array Obj->Prop):Prop:=
 word_Addr.C wv H (λv H1=> ∃(ra:Int) (rb:Bool),v=.tuple #[.int .i64 ra,.bool rb]/\
 card_Cards_none.C c H1 (λs H2=> ∃x:Bool,s=.bool x/\
 if x=true then(
 R (.tuple #[.int .i64 0,.bool false]) H2)
 else
 if rb=true then(
 word_Tag.C wv H2 (λt H3=> ∃m:Int,t=.int .i64 m/\
 if m=6 then(
 R (.tuple #[.int .i64 0,.bool false]) H3)
 else
 ∃cA:Addr,c=some cA/\
 ∃q:Option Addr,hat H3 cA=some (.pointer q)/\
 ∃r:Addr,q=some r/\
 ∃o:Option Addr,hat H3 r=some (.pointer o)/\
 seg_Mem_Seg.C o (IntKind.wrap .i64 (Int.tdiv ra 64)) H3 (λu H4=> ∃(j g k a d f e:Int) (i:Bool),u=.tuple #[.agg #[.int .i64 j,.int .i64 g,.int .i64 k,.int .i64 a,.int .i64 d,.int .i64 f,.int .i64 e],.bool i]/\
 ∀(b:Nat) (H5:Array Obj),b=H4.size->H5=H4.push (.cells #[.int .i64 0,.int .i64 0,.int .i64 0,.int .i64 0,.int .i64 0,.int .i64 0,.int .i64 0] 170)->
 (CanPuts H5 (ad b) 0 7)/\ ∀H6,H6=hputs H5 (ad b) [.int .i64 j,.int .i64 g,.int .i64 k,.int .i64 a,.int .i64 d,.int .i64 f,.int .i64 e] 0->
 ∃p:Int,hat H6 (ad b)=some (.int .i64 p)/\
 R (.tuple #[.int .i64 p,.bool i]) H6)))
 else
 R (.tuple #[.int .i64 0,.bool false]) H2))
namespace card_Cards_Gen
theorem link{c:Option Addr}{wv:Int}{H:Array Obj}{R:Value->Array Obj->Prop}(h:pt c wv H R):C c wv H R:=by
 refine T_en K0 41 Tryz.func114 ?_
 intro w0 Q hQ
 unfold pt at h
 refine T_su [(0,vp c),(1,vu wv)]<| T_srz 0<| T_ed 2 [] []<| T_srz 1<| T_nd 1 [] [(10,vu wv)] ?_
 refine T_c (some 11) h ?_;clear h
 rintro v H1 ⟨ra,rb,rfl,h⟩
 refine T_pd [10] [(11,.tuple #[vi ra,.bool rb])]<| T_ed 5 [11] [(6,vi ra),(7,.bool rb)]<| T_sz<| T_srz 2<| T_nd 1 [] [(14,vp c)] ?_
 refine T_c (some 15) h ?_;clear h
 rintro s H2 ⟨x,rfl,h⟩
 refine T_pd [14] [(15,.bool x)]<| T_nd 1 [15] [(16,.bool x)] ?_
 by_cases c1:x=true
 ·rw[if_pos c1]at h
  exact N_bd 16 c1<| T_ed 8 [1,7,16] [(24,.bool true)]<| T_tz 24<| T_srz 3<| T_nr 2 [4,5] [vi 0,.bool false] hQ h
 rw[if_neg c1]at h
 refine N_bd 16 (eq_false_of_ne_true c1)<| T_nd 4 [7,16] [(20,.bool (!rb))] ?_
 by_cases c3:rb=true
 ·rw[if_pos c3]at h
  have b4:(!rb)=false:=congrArg Bool.not (c3)
  have b42:rb=true:=c3
  refine N_bd 20 (b:=(!rb)) (v:=false) (by simp only[b4,b42,Bool.not_true,Bool.not_false]) ?_
  clear b4 b42
  refine T_nd 1 [1] [(21,vu wv)] ?_
  refine T_c (some 22) h ?_;clear h
  rintro t H3 ⟨m,rfl,h⟩
  refine T_pd [21] [(22,vi m)]<| T_ed 2 [20,22] [(24,.bool (m==6))] ?_
  by_cases c5:m=6
  ·rw[if_pos c5]at h
   exact T_cTz 24 (beq_iff_eq.mpr c5)<| T_srz 3<| T_nr 2 [4,5] [vi 0,.bool false] hQ h
  rw[if_neg c5]at h
  refine T_cFz 24 (beq_eq_false_iff_ne.mpr c5)<| T_kt<| T_srz 4<| T_nd 1 [0,24] [(26,vp c)] ?_
  obtain⟨cA,rfl,h⟩:=h
  refine T_nd 2 [26] [(28,vp (some cA))] ?_
  obtain⟨q,q7,h⟩:=h
  refine T_l1 29 38 q7 [28] ?_
  obtain⟨r,rfl,h⟩:=h
  refine T_nd 2 [29] [(31,vp (some r))] ?_
  obtain⟨o,q8,h⟩:=h
  refine T_l1 32 41 q8 [31]<| T_nd 2 [6] [(34,vi (IntKind.wrap .i64 (Int.tdiv ra 64)))] ?_
  refine T_c (some 35) h ?_;clear h
  rintro u H4 ⟨j,g,k,a,d,f,e,i,rfl,h⟩
  refine⟨[(35,.tuple #[.agg #[vi j,vi g,vi k,vi a,vi d,vi f,vi e],.bool i])],pk,?_⟩
  refine T_n 3 [(36,.agg #[vi j,vi g,vi k,vi a,vi d,vi f,vi e]),(37,.bool i)]<| T_nw (some 8) (λb=>vp (pa b)) (.cells #[vi 0,vi 0,vi 0,vi 0,vi 0,vi 0,vi 0] 170) ?_
  intro b H5 e9 e10
  replace h:=h b H5 e9 e10
  refine T_pd [] [(8,vp (pa b))] ?_
  obtain⟨q12,h⟩:=h
  refine T_sta 170 [vi j,vi g,vi k,vi a,vi d,vi f,vi e] q12 ?_
  intro H6 e11
  replace h:=h H6 e11
  refine T_pd [36] []<| T_ed 1 [37] [(7,.bool i)]<| T_srz 5<| T_nd 1 [8] [(38,vp (pa b))] ?_
  obtain⟨p,q13,h⟩:=h
  exact T_l1 39 3 q13 [38]<| T_nr 3 [4,5] [vi p,.bool i] hQ h
 rw[if_neg c3]at h
 have b4:(!rb)=true:=congrArg Bool.not (eq_false_of_ne_true c3)
 have b42:rb=false:=eq_false_of_ne_true c3
 refine N_bd 20 (b:=(!rb)) (v:=true) (by simp only[b4,b42,Bool.not_true,Bool.not_false]) ?_
 clear b4 b42
 exact T_ed 4 [1,20] [(24,.bool true)]<| T_tz 24<| T_srz 3<| T_nr 2 [4,5] [vi 0,.bool false] hQ h
end card_Cards_Gen

/-! (*moraine/obj.Heap).Car -/
namespace obj_Heap_Car
def K0:=Func.code Tryz.f14
end obj_Heap_Car
def obj_Heap_Car.pt(hv:Option Addr)(wv:Int)(H:Array Obj)(R:Value->Array Obj->Prop):Prop:=
 obj_Heap_half.C hv wv 0 H (λv H1=> ∃ra rb:Int,v=.tuple #[.int .u64 ra,.int .i64 rb]/\
 R (.tuple #[.int .u64 ra,.int .i64 rb]) H1)
namespace obj_Heap_Car
theorem link{hv:Option Addr}{wv:Int}{H:Array Obj}{R:Value->Array Obj->Prop}(h:pt hv wv H R):C hv wv H R:=by
 refine T_en K0 11 Tryz.func14 ?_
 intro w0 Q hQ
 unfold pt at h
 refine T_su [(0,vp hv),(1,vu wv)]<| T_srz 0<| T_ed 2 [] []<| T_srz 1<| T_n 2 [(6,vp hv),(7,vu wv)] ?_
 refine T_c (some 8) h ?_;clear h
 rintro v H1 ⟨ra,rb,rfl,h⟩
 refine⟨[(8,.tuple #[vu ra,vi rb])],pk,?_⟩
 exact T_nr 4 [4,5] [vu ra,vi rb] hQ h
end obj_Heap_Car

/-! (*moraine/obj.Heap).Weak -/
namespace obj_Heap_Weak
def K0:=Func.code Tryz.f19
end obj_Heap_Weak
def obj_Heap_Weak.pt(hv:Option Addr)(a d:Int)(H:Array Obj)(R:Value->Array Obj->Prop):Prop:=
 ∀(b:Nat) (H1:Array Obj),b=H.size->H1=H.push (.cells #[.int .u64 a,.int .u64 d] 54)->
 obj_Heap_put.C hv 1 2 (some (ad b)) 2 2 H1 (λv H2=> ∃ra rb:Int,v=.tuple #[.int .u64 ra,.int .i64 rb]/\
 R (.tuple #[.int .u64 ra,.int .i64 rb]) H2)
namespace obj_Heap_Weak
theorem link{hv:Option Addr}{a d:Int}{H:Array Obj}{R:Value->Array Obj->Prop}(h:pt hv a d H R):C hv a d H R:=by
 refine T_en K0 15 Tryz.func19 ?_
 intro w0 Q hQ
 unfold pt at h
 refine T_su [(0,vp hv),(1,vu a),(2,vu d)]<| T_srz 0<| T_ed 2 [] []<| T_srz 1<| T_n 3 [(8,vp hv),(9,vu a),(10,vu d)]<| T_nw (some 11) (λb=>vs (pa b) 2 2) (.cells #[vu a,vu d] 54) ?_
 intro b H1 e1 e2
 replace h:=h b H1 e1 e2
 refine T_pd [9,10] [(11,vs (pa b) 2 2)] ?_
 refine T_c (some 12) h ?_;clear h
 rintro v H2 ⟨ra,rb,rfl,h⟩
 refine⟨[(12,.tuple #[vu ra,vi rb])],pk,?_⟩
 exact T_nr 4 [6,7] [vu ra,vi rb] hQ h
end obj_Heap_Weak

/-! (*moraine/obj.Heap).Cons -/
namespace obj_Heap_Cons
def K0:=Func.code Tryz.f20
end obj_Heap_Cons
def obj_Heap_Cons.pt(hv:Option Addr)(a d:Int)(H:Array Obj)(R:Value->Array Obj->Prop):Prop:=
 ∀(b:Nat) (H1:Array Obj),b=H.size->H1=H.push (.cells #[.int .u64 a,.int .u64 d] 54)->
 obj_Heap_put.C hv 0 1 (some (ad b)) 2 2 H1 (λv H2=> ∃ra rb:Int,v=.tuple #[.int .u64 ra,.int .i64 rb]/\
 R (.tuple #[.int .u64 ra,.int .i64 rb]) H2)
namespace obj_Heap_Cons
theorem link{hv:Option Addr}{a d:Int}{H:Array Obj}{R:Value->Array Obj->Prop}(h:pt hv a d H R):C hv a d H R:=by
 refine T_en K0 15 Tryz.func20 ?_
 intro w0 Q hQ
 unfold pt at h
 refine T_su [(0,vp hv),(1,vu a),(2,vu d)]<| T_srz 0<| T_ed 2 [] []<| T_srz 1<| T_n 3 [(8,vp hv),(9,vu a),(10,vu d)]<| T_nw (some 11) (λb=>vs (pa b) 2 2) (.cells #[vu a,vu d] 54) ?_
 intro b H1 e1 e2
 replace h:=h b H1 e1 e2
 refine T_pd [9,10] [(11,vs (pa b) 2 2)] ?_
 refine T_c (some 12) h ?_;clear h
 rintro v H2 ⟨ra,rb,rfl,h⟩
 refine⟨[(12,.tuple #[vu ra,vi rb])],pk,?_⟩
 exact T_nr 4 [6,7] [vu ra,vi rb] hQ h
end obj_Heap_Cons

/-! (*moraine/obj.Heap).SetCdr -/
namespace obj_Heap_SetCdr
def K0:=Func.code Tryz.f21
end obj_Heap_SetCdr
def obj_Heap_SetCdr.pt(hv:Option Addr)(wv v:Int)(H:Array Obj)(R:Value->Array Obj->Prop):Prop:=
 obj_Heap_set.C hv wv 1 v H (λa H1=> ∃x:Int,a=.int .i64 x/\
 R (.int .i64 x) H1)
namespace obj_Heap_SetCdr
theorem link{hv:Option Addr}{wv v:Int}{H:Array Obj}{R:Value->Array Obj->Prop}(h:pt hv wv v H R):C hv wv v H R:=by
 refine T_en K0 11 Tryz.func21 ?_
 intro w0 Q hQ
 unfold pt at h
 refine T_su [(0,vp hv),(1,vu wv),(2,vu v)]<| T_srz 0<| T_ed 1 [] []<| T_srz 1<| T_n 3 [(7,vp hv),(8,vu wv),(9,vu v)] ?_
 refine T_c (some 10) h ?_;clear h
 rintro a H1 ⟨x,rfl,h⟩
 refine⟨[(10,vi x)],pk,?_⟩
 exact T_nr 1 [6] [vi x] hQ h
end obj_Heap_SetCdr

/-! (*moraine/obj.Heap).half -/
namespace obj_Heap_half
def K0:=Func.code Tryz.f32
end obj_Heap_half
def obj_Heap_half.pt(hv:Option Addr)(wv i:Int)(H:Array Obj)(R:Value->Array Obj->Prop):Prop:=
 obj_Heap_pair.C hv wv H (λv H1=> ∃(ra:Int) (rb:Bool),v=.tuple #[.int .i64 ra,.bool rb]/\
 if rb=true then(
 ∃e:Addr,hv=some e/\
 ∃x:Option Addr,hat H1 e=some (.pointer x)/\
 ∃xA:Addr,x=some xA/\
 ∃g:Option Addr,hat H1 xA=some (.pointer g)/\
 ∃f:Addr,g=some f/\
 ∃d:Option Addr,hat H1 f=some (.pointer d)/\
 seg_Mem_Read.C d (IntKind.wrap .i64 (ra+i)) H1 (λj H2=> ∃a b:Int,j=.tuple #[.int .u64 a,.int .i64 b]/\
 R (.tuple #[.int .u64 a,.int .i64 b]) H2))
 else
 R (.tuple #[.int .u64 0,.int .i64 3]) H1)
namespace obj_Heap_half
theorem link{hv:Option Addr}{wv i:Int}{H:Array Obj}{R:Value->Array Obj->Prop}(h:pt hv wv i H R):C hv wv i H R:=by
 refine T_en K0 34 Tryz.func32 ?_
 intro w0 Q hQ
 unfold pt at h
 refine T_su [(0,vp hv),(1,vu wv),(2,vi i)]<| T_srz 0<| T_ed 2 [] []<| T_srz 1<| T_nd 2 [1] [(11,vp hv),(12,vu wv)] ?_
 refine T_c (some 13) h ?_;clear h
 rintro v H1 ⟨ra,rb,rfl,h⟩
 refine T_pd [11,12] [(13,.tuple #[vi ra,.bool rb])]<| T_ed 5 [13] [(8,vi ra),(9,.bool rb)]<| T_sz<| T_srz 2<| T_ed 2 [9] [(17,.bool (!rb))] ?_
 by_cases c1:rb=true
 ·rw[if_pos c1]at h
  refine T_cFz 17 (congrArg Bool.not (c1))<| T_kt<| T_srz 4<| T_nd 1 [0,17] [(18,vp hv)] ?_
  obtain⟨e,rfl,h⟩:=h
  refine T_nd 2 [18] [(20,vp (some e))] ?_
  obtain⟨x,q3,h⟩:=h
  refine T_l1 21 33 q3 [20] ?_
  obtain⟨xA,rfl,h⟩:=h
  refine T_nd 2 [21] [(23,vp (some xA))] ?_
  obtain⟨g,q4,h⟩:=h
  refine T_l1 24 38 q4 [23] ?_
  obtain⟨f,rfl,h⟩:=h
  refine T_nd 2 [24] [(26,vp (some f))] ?_
  obtain⟨d,q5,h⟩:=h
  refine T_l1 27 41 q5 [26]<| T_nd 3 [2,8] [(30,vi (IntKind.wrap .i64 (ra+i)))] ?_
  refine T_c (some 31) h ?_;clear h
  rintro j H2 ⟨a,b,rfl,h⟩
  refine⟨[(31,.tuple #[vu a,vi b])],pk,?_⟩
  exact T_nr 4 [6,7] [vu a,vi b] hQ h
 rw[if_neg c1]at h
 exact T_cTz 17 (congrArg Bool.not (eq_false_of_ne_true c1))<| T_srz 3<| T_nr 2 [6,7] [vu 0,vi 3] hQ h
end obj_Heap_half

/-! (*moraine/obj.Heap).set -/
namespace obj_Heap_set
def K0:=Func.code Tryz.f37
end obj_Heap_set
def obj_Heap_set.pt(hv:Option Addr)(wv i v:Int)(H:Array Obj)(R:Value->Array Obj->Prop):Prop:=
 obj_Heap_pair.C hv wv H (λd H1=> ∃(ra:Int) (rb:Bool),d=.tuple #[.int .i64 ra,.bool rb]/\
 if rb=true then(
 ∃b:Addr,hv=some b/\
 ∃x:Option Addr,hat H1 b=some (.pointer x)/\
 card_Cards_Store.C x (IntKind.wrap .i64 (ra+i)) v H1 (λe H2=> ∃a:Int,e=.int .i64 a/\
 R (.int .i64 a) H2))
 else
 R (.int .i64 3) H1)
namespace obj_Heap_set
theorem link{hv:Option Addr}{wv i v:Int}{H:Array Obj}{R:Value->Array Obj->Prop}(h:pt hv wv i v H R):C hv wv i v H R:=by
 refine T_en K0 28 Tryz.func37 ?_
 intro w0 Q hQ
 unfold pt at h
 refine T_su [(0,vp hv),(1,vu wv),(2,vi i),(3,vu v)]<| T_srz 0<| T_ed 1 [] []<| T_srz 1<| T_nd 2 [1] [(12,vp hv),(13,vu wv)] ?_
 refine T_c (some 14) h ?_;clear h
 rintro d H1 ⟨ra,rb,rfl,h⟩
 refine T_pd [12,13] [(14,.tuple #[vi ra,.bool rb])]<| T_ed 5 [14] [(9,vi ra),(10,.bool rb)]<| T_sz<| T_srz 2<| T_ed 2 [10] [(18,.bool (!rb))] ?_
 by_cases c1:rb=true
 ·rw[if_pos c1]at h
  refine T_cFz 18 (congrArg Bool.not (c1))<| T_kt<| T_srz 4<| T_nd 1 [0,18] [(19,vp hv)] ?_
  obtain⟨b,rfl,h⟩:=h
  refine T_nd 2 [19] [(21,vp (some b))] ?_
  obtain⟨x,q3,h⟩:=h
  refine T_l1 22 33 q3 [21]<| T_n 4 [(22,vp x),(25,vi (IntKind.wrap .i64 (ra+i))),(26,vu v)] ?_
  refine T_c (some 27) h ?_;clear h
  rintro e H2 ⟨a,rfl,h⟩
  refine⟨[(27,vi a)],pk,?_⟩
  exact T_nr 1 [8] [vi a] hQ h
 rw[if_neg c1]at h
 exact T_cTz 18 (congrArg Bool.not (eq_false_of_ne_true c1))<| T_srz 3<| T_nr 1 [8] [vi 3] hQ h
end obj_Heap_set

/-! (*moraine/obj.Heap).Pair -/
namespace obj_Heap_Pair
def K0:=Func.code Tryz.f46
end obj_Heap_Pair
def obj_Heap_Pair.pt(hv:Option Addr)(wv:Int)(H:Array Obj)(R:Value->Array Obj->Prop):Prop:=
 obj_Heap_pair.C hv wv H (λv H1=> ∃(ra:Int) (rb:Bool),v=.tuple #[.int .i64 ra,.bool rb]/\
 R (.bool rb) H1)
namespace obj_Heap_Pair
theorem link{hv:Option Addr}{wv:Int}{H:Array Obj}{R:Value->Array Obj->Prop}(h:pt hv wv H R):C hv wv H R:=by
 refine T_en K0 14 Tryz.func46 ?_
 intro w0 Q hQ
 unfold pt at h
 refine T_su [(0,vp hv),(1,vu wv)]<| T_srz 0<| T_ed 1 [] []<| T_srz 1<| T_n 2 [(8,vp hv),(9,vu wv)] ?_
 refine T_c (some 10) h ?_;clear h
 rintro v H1 ⟨ra,rb,rfl,h⟩
 refine⟨[(10,.tuple #[vi ra,.bool rb])],pk,?_⟩
 exact T_ne 5 [(6,.bool rb)]<| T_srz 2<| T_nr 2 [4] [.bool rb] hQ h
end obj_Heap_Pair

/-! (*moraine/obj.Heap).pair -/
namespace obj_Heap_pair
def K0:=Func.code Tryz.f61
end obj_Heap_pair
def obj_Heap_pair.pt(hv:Option Addr)(wv:Int)(H:Array Obj)(R:Value->Array Obj->Prop):Prop:=
 obj_Heap_at.C hv wv 1 0 H (λv H1=> ∃(ra:Int) (rb:Bool),v=.tuple #[.int .i64 ra,.bool rb]/\
 if rb=true then(
 R (.tuple #[.int .i64 ra,.bool ((Int.tmod ra 2)==0)]) H1)
 else
 obj_Heap_at.C hv wv 2 1 H1 (λd H2=> ∃(a:Int) (b:Bool),d=.tuple #[.int .i64 a,.bool b]/\
 R (.tuple #[.int .i64 a,.bool (b && ((Int.tmod a 2)==0))]) H2))
namespace obj_Heap_pair
theorem link{hv:Option Addr}{wv:Int}{H:Array Obj}{R:Value->Array Obj->Prop}(h:pt hv wv H R):C hv wv H R:=by
 refine T_en K0 29 Tryz.func61 ?_
 intro w0 Q hQ
 unfold pt at h
 refine T_su [(0,vp hv),(1,vu wv)]<| T_srz 0<| T_ed 2 [] []<| T_srz 1<| T_nd 2 [] [(9,vp hv),(10,vu wv)] ?_
 refine T_c (some 11) h ?_;clear h
 rintro v H1 ⟨ra,rb,rfl,h⟩
 refine T_pd [9,10] [(11,.tuple #[vi ra,.bool rb])]<| T_ed 5 [11] [(6,vi ra),(7,.bool rb)]<| T_sz<| T_srz 2<| T_ed 2 [] [(15,.bool (!rb))] ?_
 by_cases c1:rb=true
 ·rw[if_pos c1]at h
  have b2:(!rb)=false:=congrArg Bool.not (c1)
  have b22:rb=true:=c1
  refine S_bd 7 (b:=rb) (v:=true) (by simp only[b2,b22,Bool.not_true,Bool.not_false])<| S_bd 15 (b:=(!rb)) (v:=false) (by simp only[b2,b22,Bool.not_true,Bool.not_false]) ?_
  clear b2 b22
  exact T_fz 15<| T_kt<| T_srz 4<| T_nr 9 [4,5] [vi ra,.bool ((Int.tmod ra 2)==0)] hQ h
 rw[if_neg c1]at h
 have b2:(!rb)=true:=congrArg Bool.not (eq_false_of_ne_true c1)
 have b22:rb=false:=eq_false_of_ne_true c1
 refine S_bd 7 (b:=rb) (v:=false) (by simp only[b2,b22,Bool.not_true,Bool.not_false])<| S_bd 15 (b:=(!rb)) (v:=true) (by simp only[b2,b22,Bool.not_true,Bool.not_false]) ?_
 clear b2 b22
 refine T_tz 15<| T_rz 3<| T_n 2 [(17,vp hv),(18,vu wv)] ?_
 refine T_c (some 19) h ?_;clear h
 rintro d H2 ⟨a,b,rfl,h⟩
 refine⟨[(19,.tuple #[vi a,.bool b])],pk,?_⟩
 refine T_ne 5 [(6,vi a),(7,.bool b)]<| T_srz 4 ?_
 refine N_cut [(4,vi a),(5,.bool (b && ((Int.tmod a 2)==0)))] ?_ ?_
 ·refine S_then ?_
  exact T_ret [4,5] [vi a,.bool (b && ((Int.tmod a 2)==0))] hQ h
 intro hk
 refine T_n 3 [(6,vi a),(22,vi a),(24,.bool b)] ?_
 by_cases c3:b=true
 ·have b4:b=true:=c3
  refine N_env [(6,vi a),(22,vi a),(24,.bool true)] (by rw[b4]) ?_
  refine T_n 6 [(4,vi a),(5,.bool ((Int.tmod a 2)==0))] ?_
  refine N_end (by kernel_rfl) ?_
  refine S_env [(4,vi a),(5,.bool (b && ((Int.tmod a 2)==0)))] (by simp only[b4,BL]) ?_
  exact hk
 have b4:b=false:=eq_false_of_ne_true c3
 refine N_env [(6,vi a),(22,vi a),(24,.bool false)] (by rw[b4]) ?_
 refine T_n 6 [(4,vi a),(5,.bool false)] ?_
 refine N_end (by kernel_rfl) ?_
 refine S_env [(4,vi a),(5,.bool (b && ((Int.tmod a 2)==0)))] (by simp only[b4,BL]) ?_
 exact hk
end obj_Heap_pair

/-! (*moraine/obj.Heap).Cdr -/
namespace obj_Heap_Cdr
def K0:=Func.code Tryz.f78
end obj_Heap_Cdr
def obj_Heap_Cdr.pt(hv:Option Addr)(wv:Int)(H:Array Obj)(R:Value->Array Obj->Prop):Prop:=
 obj_Heap_half.C hv wv 1 H (λv H1=> ∃ra rb:Int,v=.tuple #[.int .u64 ra,.int .i64 rb]/\
 R (.tuple #[.int .u64 ra,.int .i64 rb]) H1)
namespace obj_Heap_Cdr
theorem link{hv:Option Addr}{wv:Int}{H:Array Obj}{R:Value->Array Obj->Prop}(h:pt hv wv H R):C hv wv H R:=by
 refine T_en K0 11 Tryz.func78 ?_
 intro w0 Q hQ
 unfold pt at h
 refine T_su [(0,vp hv),(1,vu wv)]<| T_srz 0<| T_ed 2 [] []<| T_srz 1<| T_n 2 [(6,vp hv),(7,vu wv)] ?_
 refine T_c (some 8) h ?_;clear h
 rintro v H1 ⟨ra,rb,rfl,h⟩
 refine⟨[(8,.tuple #[vu ra,vi rb])],pk,?_⟩
 exact T_nr 4 [4,5] [vu ra,vi rb] hQ h
end obj_Heap_Cdr

/-! slices.ContainsFunc[[]moraine/api.Datum,moraine/api.Datum] -/
namespace slices_ContainsFunc_api_Datum_api_Datum
def K0:=Func.code Tryz.f85
end slices_ContainsFunc_api_Datum_api_Datum
def slices_ContainsFunc_api_Datum_api_Datum.pt(sB:Option Addr)(sN sC:Nat)(f:Value)(H:Array Obj)(R:Value->Array Obj->Prop):Prop:=
 slices_IndexFunc_api_Datum_api_Datum.C sB sN sC f H (λv H1=> ∃x:Int,v=.int .i64 x/\
 R (.bool (decide (x>=0))) H1)
namespace slices_ContainsFunc_api_Datum_api_Datum
theorem link{sB:Option Addr}{sN sC:Nat}{f:Value}{H:Array Obj}{R:Value->Array Obj->Prop}(h:pt sB sN sC f H R):C sB sN sC f H R:=by
 refine T_en K0 9 Tryz.func85 ?_
 intro w0 Q hQ
 unfold pt at h
 refine T_su [(0,vs sB sN sC),(1,f)]<| T_srz 0<| T_ed 1 [] []<| T_srz 1<| T_n 2 [(5,vs sB sN sC),(6,f)] ?_
 refine T_c (some 7) h ?_;clear h
 rintro v H1 ⟨x,rfl,h⟩
 refine⟨[(7,vi x)],pk,?_⟩
 exact T_nr 2 [4] [.bool (decide (x>=0))] hQ h
end slices_ContainsFunc_api_Datum_api_Datum

/-! slices.Equal[[]uint32,uint32] -/
namespace slices_Equal_uint32_uint32
def K0:=Func.code Tryz.f108
def K2:=cb K0
def K4:=cb K2
def K9:=ca K4
def K12:=cb K9
def K13:=ca K12
def K14:=ca K13
end slices_Equal_uint32_uint32
def slices_Equal_uint32_uint32.pt(o:Option Addr)(b g:Nat)(m:Option Addr)(e f:Nat)(H:Array Obj)(R:Value->Array Obj->Prop):Prop:=
 if(b:Int)=(e:Int)then(
 ∃(r:Int->Array Obj->Prop) (m15:Int->Array Obj->Nat),r 0 H/\ ∀(d:Int) (H1:Array Obj),r d H1->
 if d< (b:Int)then(
 ∃j:Addr,o=some j/\
 ((0:Int)<=d/\d< (b:Int))/\
 ∃x:Int,hat H1 (j.add (Int.toNat d*1))=some (.int .u32 x)/\
 ∃p:Addr,m=some p/\
 ((0:Int)<=d/\d< (e:Int))/\
 ∃q:Int,hat H1 (p.add (Int.toNat d*1))=some (.int .u32 q)/\
 if x=q then(
 (r (IntKind.wrap .i64 (d+1)) H1/\m15 (IntKind.wrap .i64 (d+1)) H1<m15 d H1))
 else
 R (.bool false) H1)
 else
 R (.bool true) H1)
 else
 R (.bool false) H
namespace slices_Equal_uint32_uint32
theorem link{o:Option Addr}{b g:Nat}{m:Option Addr}{e f:Nat}{H:Array Obj}{R:Value->Array Obj->Prop}(h:pt o b g m e f H R):C o b g m e f H R:=by
 refine T_en K0 26 Tryz.func108 ?_
 intro w0 Q hQ
 unfold pt at h
 refine T_su [(0,vs o b g),(1,vs m e f)]<| T_srz 0<| T_ed 1 [] []<| T_sz<| T_srz 1<| T_ed 5 [] [(10,.bool ((b:Int) !=(e:Int)))] ?_
 by_cases c1:(b:Int)=(e:Int)
 ·rw[if_pos c1]at h
  refine T_cFz 10 (bne_eq_false_iff_eq.mpr c1)<| T_kt<| T_sz<| T_srz 3<| T_ed 3 [10] [(12,vi b),(13,vi 0)]<| T_bz 0 ?_
  obtain⟨r,m15,i3,i4⟩:=h
  refine S_loop (x:=K14) (σ:=Int) (λs_=> [(0,vs o b g),(1,vs m e f),(12,vi b),(13,vi s_)]) (λs_ H=>r s_ H) (λs_ H=>m15 s_ H) (0:Int) (by kernel_rfl) i3 sk ?_
  rintro d H1 i5
  have h:=i4 d H1 i5
  refine T_su [(0,vs o b g),(1,vs m e f),(12,vi b),(13,vi d)]<| T_srz 4<| T_ed 1 [] [(14,.bool (decide (d< (b:Int))))]<| T_sz ?_
  by_cases c6:d< (b:Int)
  ·rw[if_pos c6]at h
   refine T_cTz 14 (decide_eq_true c6)<| T_kt<| T_sz<| T_bz 1<| T_srz 5<| T_ed 2 [14] [(5,vi d)]<| T_sz<| T_rqz 6<| T_q1 16 (vs o b g) [] ?_
   refine T_q1 17 (vi d) [] ?_
   obtain⟨j,rfl,h⟩:=h
   obtain⟨q8,h⟩:=h
   refine Q_op (some 18) (indexAtN 46 (vs (some j) b g) (vi d)) (vp (some (j.add (Int.toNat d*1)))) (λ_=>by kernel_rfl) (λw _=>indexAt_run (P:=Tryz.prog) (t:=46) (elem:=74) (sz:=1) (a:=j) (len:=b) (cap:=g) (k:=.i64) (i:=d) Tryz.underlying46 (λ_=>by kernel_rfl) q8.1 q8.2 w) [(0,vs (some j) b g),(1,vs m e f),(5,vi d),(12,vi b),(13,vi d),(18,vp (some (j.add (Int.toNat d*1))))] pk ?_
   obtain⟨x,q9,h⟩:=h
   refine T_ql (some 19) 74 q9 [(0,vs (some j) b g),(1,vs m e f),(5,vi d),(12,vi b),(13,vi d),(19,.int .u32 x)]<| T_q1 20 (vs m e f) []<| T_q1 21 (vi d) [5] ?_
   obtain⟨p,rfl,h⟩:=h
   obtain⟨q10,h⟩:=h
   refine Q_op (some 22) (indexAtN 46 (vs (some p) e f) (vi d)) (vp (some (p.add (Int.toNat d*1)))) (λ_=>by kernel_rfl) (λw _=>indexAt_run (P:=Tryz.prog) (t:=46) (elem:=74) (sz:=1) (a:=p) (len:=e) (cap:=f) (k:=.i64) (i:=d) Tryz.underlying46 (λ_=>by kernel_rfl) q10.1 q10.2 w) [(0,vs (some j) b g),(1,vs (some p) e f),(12,vi b),(13,vi d),(19,.int .u32 x),(22,vp (some (p.add (Int.toNat d*1))))] pk ?_
   obtain⟨q,q11,h⟩:=h
   refine T_ql (some 23) 74 q11 [(0,vs (some j) b g),(1,vs (some p) e f),(12,vi b),(13,vi d),(19,.int .u32 x),(23,.int .u32 q)]<| T_q1 24 (.bool (x !=q)) [19,23] ?_
   refine Q_sub [(0,vs (some j) b g),(1,vs (some p) e f),(12,vi b),(13,vi d),(24,.bool (x !=q))] sk ?_
   refine T_qe ?_
   by_cases c12:x=q
   ·rw[if_pos c12]at h
    refine T_cFz 24 (bne_eq_false_iff_eq.mpr c12)<| T_k ?_
    refine S_blockEnd ?_
    refine S_then ?_
    refine T_rz 8<| T_ne 2 [(0,vs (some j) b g),(1,vs (some p) e f),(12,vi b),(13,vi (IntKind.wrap .i64 (d+1)))] ?_
    exact S_round ((IntKind.wrap .i64 (d+1)):Int) sk h
   rw[if_neg c12]at h
   exact T_cTz 24 (bne_iff_ne.mpr c12)<| T_srz 7<| T_nr 1 [4] [.bool false] hQ h
  rw[if_neg c6]at h
  refine T_cFz 14 (decide_eq_false c6) ?_
  refine S_exit 0 (by kernel_rfl) ?_
  refine S_exitThen ?_
  refine S_exitThen ?_
  refine S_exitHere ?_
  refine S_then ?_
  exact T_srz 9<| T_nr 1 [4] [.bool true] hQ h
 rw[if_neg c1]at h
 exact T_cTz 10 (bne_iff_ne.mpr c1)<| T_srz 2<| T_nr 1 [4] [.bool false] hQ h
end slices_Equal_uint32_uint32

/-! slices.IndexFunc[[]moraine/api.Datum,moraine/api.Datum] -/
namespace slices_IndexFunc_api_Datum_api_Datum
def K0:=Func.code Tryz.f109
def K2:=cb K0
def K3:=ca K2
def K6:=cb K3
def K7:=ca K6
def K8:=ca K7
end slices_IndexFunc_api_Datum_api_Datum
def slices_IndexFunc_api_Datum_api_Datum.pt(sB:Option Addr)(sN sC:Nat)(f:Value)(H:Array Obj)(R:Value->Array Obj->Prop):Prop:=
 ∃(I9:Int->Array Obj->Prop) (m9:Int->Array Obj->Nat),I9 0 H/\ ∀(s8:Int) (H1:Array Obj),I9 s8 H1->
 if s8< (sN:Int)then(
 ∃b:Addr,sB=some b/\
 ((0:Int)<=s8/\s8< (sN:Int))/\
 ∃m xC j g d e xT p o q,RowAt H1 (b.add (Int.toNat s8*6)) 0 (DR m xC j g d e xT p o q)/\
 FC Tryz.prog f #[.agg (DR m xC j g d e xT p o q).toArray] H1 (λv H2=> ∃x:Bool,v=.bool x/\
 if x=true then(
 R (.int .i64 s8) H2)
 else
 (I9 (IntKind.wrap .i64 (s8+1)) H2/\m9 (IntKind.wrap .i64 (s8+1)) H2<m9 s8 H1)))
 else
 R (.int .i64 (-1)) H1
namespace slices_IndexFunc_api_Datum_api_Datum
theorem link{sB:Option Addr}{sN sC:Nat}{f:Value}{H:Array Obj}{R:Value->Array Obj->Prop}(h:pt sB sN sC f H R):C sB sN sC f H R:=by
 refine T_en K0 19 Tryz.func109 ?_
 intro w0 Q hQ
 unfold pt at h
 refine T_su [(0,vs sB sN sC),(1,f)]<| T_srz 0<| T_ed 1 [] []<| T_sz<| T_srz 1<| T_ed 3 [] [(7,vi sN),(8,vi 0)]<| T_bz 0 ?_
 obtain⟨I9,m9,i1,i2⟩:=h
 refine S_loop (x:=K8) (σ:=Int) (λs_=> [(0,vs sB sN sC),(1,f),(7,vi sN),(8,vi s_)]) (λs_ H=>I9 s_ H) (λs_ H=>m9 s_ H) (0:Int) (by kernel_rfl) i1 sk ?_
 rintro s8 H1 i3
 have h:=i2 s8 H1 i3
 refine T_su [(0,vs sB sN sC),(1,f),(7,vi sN),(8,vi s8)]<| T_srz 2<| T_ed 1 [] [(9,.bool (decide (s8< (sN:Int))))]<| T_sz ?_
 by_cases c4:s8< (sN:Int)
 ·rw[if_pos c4]at h
  refine T_cTz 9 (decide_eq_true c4)<| T_kt<| T_sz<| T_bz 1<| T_srz 3<| T_ed 2 [9] [(5,vi s8)]<| T_srz 4<| T_nd 3 [] [(11,f),(12,vs sB sN sC),(13,vi s8)] ?_
  obtain⟨b,rfl,h⟩:=h
  obtain⟨q6,h⟩:=h
  refine T_xd (some 14) 49 51 6 b sN sC .i64 s8 Tryz.underlying49 q6.1 q6.2 [0,12,13] [(0,vs (some b) sN sC),(14,vp (some (b.add (Int.toNat s8*6))))] ?_
  obtain⟨m,xC,j,g,d,e,xT,p,o,q,q7,h⟩:=h
  refine T_lr 15 51 q7 [14] ?_
  refine N_callv (some 16) f #[.agg (DR m xC j g d e xT p o q).toArray] (λ_=>by kernel_rfl) h ?_;clear h
  rintro v H2 ⟨x,rfl,h⟩
  refine T_pd [11,15] [(16,.bool x)]<| T_e ?_
  by_cases c8:x=true
  ·rw[if_pos c8]at h
   exact T_cTz 16 c8<| T_srz 5<| T_nr 2 [4] [vi s8] hQ h
  rw[if_neg c8]at h
  refine T_cFz 16 (eq_false_of_ne_true c8)<| T_k ?_
  refine S_blockEnd ?_
  refine S_then ?_
  refine T_rz 6<| T_ed 2 [5,8,16] [(8,vi (IntKind.wrap .i64 (s8+1)))] ?_
  exact S_round ((IntKind.wrap .i64 (s8+1)):Int) sk h
 rw[if_neg c4]at h
 refine T_cFz 9 (decide_eq_false c4) ?_
 refine S_exit 0 (by kernel_rfl) ?_
 refine S_exitThen ?_
 refine S_exitThen ?_
 refine S_exitHere ?_
 refine S_then ?_
 exact T_srz 7<| T_nr 1 [4] [vi (-1)] hQ h
end slices_IndexFunc_api_Datum_api_Datum

/-! slices.Clone[[]uint32,uint32] -/
namespace slices_Clone_uint32_uint32
def K0:=Func.code Tryz.f110
end slices_Clone_uint32_uint32
def slices_Clone_uint32_uint32.pt(sB:Option Addr)(sN sC:Nat)(H:Array Obj)(R:Value->Array Obj->Prop):Prop:=
 onPtr sB (
 R (.slice none 0 0) H) (λa=>
 ∀(b:Nat) (H1:Array Obj),b=H.size->H1=H.push (.cells #[] 74)->
 appendK 1 74 4 [.int .u32 0] (some (ad b)) 0 0 (some a) sN H1 (λap d H2=>
 R (.slice ap (0+sN) d) H2))
namespace slices_Clone_uint32_uint32
theorem link{sB:Option Addr}{sN sC:Nat}{H:Array Obj}{R:Value->Array Obj->Prop}(h:pt sB sN sC H R):C sB sN sC H R:=by
 refine T_en K0 8 Tryz.func110 ?_
 intro w0 Q hQ
 unfold pt at h
 refine T_su [(0,vs sB sN sC)]<| T_srz 0<| T_ed 1 [] []<| T_sz<| T_srz 1<| T_nd 1 [] [(3,vs sB sN sC)] ?_
 rcases sB with _ | a
 ·rw[onPtr_none]at h
  exact T_ne 1 [(0,vs none sN sC),(4,.bool true)]<| T_tz 4<| T_srz 2<| T_nr 1 [2] [vs none 0 0] hQ h
 rw[onPtr_some]at h
 refine T_ne 1 [(0,vs (some a) sN sC),(4,.bool false)]<| T_fz 4<| T_kt<| T_srz 3<| T_ud [4] []<| T_nw (some 5) (λb=>vs (pa b) 0 0) (.cells #[] 74) ?_
 intro b H1 e1 e2
 replace h:=h b H1 e1 e2
 refine T_pd [] [(5,vs (pa b) 0 0)]<| T_nd 1 [0] [(6,vs (some a) sN sC)] ?_
 refine N_op (some 7) (appendN #[46,46] 46 #[vs (pa b) 0 0,vs (some a) sN sC]) _ (λ_=>by kernel_rfl) (ss_append (T:=74) (sz:=1) (bytes:=4) (zero:=(.int .u32 0:Value)) Tryz.underlying46 Tryz.underlying46 rfl (show Tryz.prog.info? 74=some Tryz.t74 from by kernel_rfl) (by kernel_rfl) (by kernel_rfl) (by decide) (by kernel_rfl) (by first | exact h | (simpa only[Value.cells,List.toList_toArray]using h))) ?_;clear h
 rintro _ H2 ⟨ap,d,rfl,h⟩
 refine⟨[(7,vs ap (0+sN) d)],pk,?_⟩
 exact T_nr 1 [2] [vs ap (0+sN) d] hQ h
end slices_Clone_uint32_uint32

/-! moraine/syms.Intern -/
namespace syms_Intern
def K0:=Func.code Tryz.f31
end syms_Intern
def syms_Intern.pt(hv:Option Addr)(a:ByteArray)(H:Array Obj)(R:Value->Array Obj->Prop):Prop:=
 if a.toList=(ByteArray.mk #[]).toList then(
 R (.tuple #[.int .u64 0,.int .i64 1]) H)
 else
 unicode_utf8_ValidString.C a H (λv H1=> ∃x:Bool,v=.bool x/\
 if x=true then(
 unicode_utf8_RuneCountInString.C a H1 (λo H2=> ∃j:Int,o=.int .i64 j/\
 if j>62 then(
 R (.tuple #[.int .u64 0,.int .i64 6]) H2)
 else
 syms_Find.C hv a H2 (λp H3=> ∃(ra:Int) (rb:Bool),p=.tuple #[.int .u64 ra,.bool rb]/\
 if rb=true then(
 R (.tuple #[.int .u64 ra,.int .i64 0]) H3)
 else
 onPtr hv (
 R (.tuple #[.int .u64 0,.int .i64 2]) H3) (λd=>
 obj_Heap_String.C (some d) a H3 (λq H4=> ∃i g:Int,q=.tuple #[.int .u64 i,.int .i64 g]/\
 if g=0 then(
 ∀(b:Nat) (H5:Array Obj),b=H4.size->H5=H4.push (.cells #[.int .u64 i] 54)->
 obj_Heap_Make.C (some d) 4 0 (some (ad b)) 1 1 H5 (λr H6=> ∃f e:Int,r=.tuple #[.int .u64 f,.int .i64 e]/\
 if e=0 then(
 ∃(xB:Option Addr) (xN xC:Nat),hat H6 (d.add 1)=some (.slice xB xN xC)/\
 ∀(m:Nat) (H7:Array Obj),m=H6.size->H7=H6.push (.cells #[.int .u64 f] 54)->
 appendK 1 54 8 [.int .u64 0] xB xN xC (some (ad m)) 1 H7 (λap k H8=>
 (CanPuts H8 (d.add 1) 0 1)/\ ∀H9,H9=hputs H8 (d.add 1) [.slice ap (xN+1) k] 0->
 R (.tuple #[.int .u64 f,.int .i64 e]) H9))
 else
 R (.tuple #[.int .u64 f,.int .i64 e]) H6))
 else
 R (.tuple #[.int .u64 0,.int .i64 g]) H4)))))
 else
 R (.tuple #[.int .u64 0,.int .i64 1]) H1)
namespace syms_Intern
theorem link{hv:Option Addr}{a:ByteArray}{H:Array Obj}{R:Value->Array Obj->Prop}(h:pt hv a H R):C hv a H R:=by
 refine T_en K0 63 Tryz.func31 ?_
 intro w0 Q hQ
 unfold pt at h
 refine T_su [(0,vp hv),(1,.string a)]<| T_srz 0<| T_ed 2 [] []<| T_sz<| T_bz 0<| T_srz 1<| T_nd 3 [] [(14,.bool (a.toList==(ByteArray.mk #[]).toList))] ?_
 by_cases c1:a.toList=(ByteArray.mk #[]).toList
 ·rw[if_pos c1]at h
  exact N_bd 14 (beq_iff_eq.mpr c1)<| T_ed 5 [14] [(11,.bool true)]<| T_tz 11<| T_srz 2<| T_nr 2 [4,5] [vu 0,vi 1] hQ h
 rw[if_neg c1]at h
 refine N_bd 14 (beq_eq_false_iff_ne.mpr c1)<| T_nd 1 [] [(15,.string a)] ?_
 refine T_c (some 16) h ?_;clear h
 rintro v H1 ⟨x,rfl,h⟩
 refine T_pd [15] [(16,.bool x)]<| T_ed 3 [14,16] [(11,.bool (!x))] ?_
 by_cases c3:x=true
 ·rw[if_pos c3]at h
  refine T_cFz 11 (congrArg Bool.not (c3))<| T_srz 3<| T_nd 1 [11] [(20,.string a)] ?_
  refine T_c (some 21) h ?_;clear h
  rintro o H2 ⟨j,rfl,h⟩
  refine T_pd [20] [(21,vi j)]<| T_ed 2 [21] [(19,.bool (decide (j>62)))] ?_
  by_cases c5:j>62
  ·rw[if_pos c5]at h
   exact T_cTz 19 (decide_eq_true c5)<| T_srz 4<| T_nr 2 [4,5] [vu 0,vi 6] hQ h
  rw[if_neg c5]at h
  refine T_cFz 19 (decide_eq_false c5)<| T_k ?_
  refine S_blockEnd ?_
  refine S_then ?_
  refine T_sz<| T_srz 5<| T_nd 2 [19] [(24,vp hv),(25,.string a)] ?_
  refine T_c (some 26) h ?_;clear h
  rintro p H3 ⟨ra,rb,rfl,h⟩
  refine T_pd [24,25] [(26,.tuple #[vu ra,.bool rb])]<| T_ed 5 [26] [(6,vu ra),(7,.bool rb)]<| T_srz 6<| T_ed 1 [7] [(29,.bool rb)] ?_
  by_cases c7:rb=true
  ·rw[if_pos c7]at h
   exact T_cTz 29 c7<| T_srz 7<| T_nr 3 [4,5] [vu ra,vi 0] hQ h
  rw[if_neg c7]at h
  refine T_cFz 29 (eq_false_of_ne_true c7)<| T_kt<| T_sz<| T_srz 8<| T_nd 1 [6,29] [(31,vp hv)] ?_
  rcases hv with _ | d
  ·rw[onPtr_none]at h
   exact T_ed 1 [0,31] [(0,vp none),(32,.bool true)]<| T_tz 32<| T_srz 9<| T_nr 2 [4,5] [vu 0,vi 2] hQ h
  rw[onPtr_some]at h
  refine T_ed 1 [0,31] [(0,vp (some d)),(32,.bool false)]<| T_fz 32<| T_kt<| T_srz 10<| T_nd 2 [1,32] [(34,vp (some d)),(35,.string a)] ?_
  refine T_c (some 36) h ?_;clear h
  rintro q H4 ⟨i,g,rfl,h⟩
  refine T_pd [34,35] [(36,.tuple #[vu i,vi g])]<| T_ed 5 [36] [(8,vu i),(9,vi g)]<| T_sz<| T_srz 11<| T_ed 2 [] [(40,.bool (g !=0))] ?_
  by_cases c9:g=0
  ·rw[if_pos c9]at h
   refine T_cFz 40 (bne_eq_false_iff_eq.mpr c9)<| T_kt<| T_srz 13<| T_nd 2 [8,9,40] [(43,vp (some d)),(44,vu i)]<| T_nw (some 45) (λb=>vs (pa b) 1 1) (.cells #[vu i] 54) ?_
   intro b H5 e11 e12
   replace h:=h b H5 e11 e12
   refine T_pd [44] [(45,vs (pa b) 1 1)] ?_
   refine T_c (some 46) h ?_;clear h
   rintro r H6 ⟨f,e,rfl,h⟩
   refine T_pd [43,45] [(46,.tuple #[vu f,vi e])]<| T_ed 5 [46] [(9,vi e),(10,vu f)]<| T_sz<| T_srz 14<| T_ed 2 [] [(50,.bool (e==0))] ?_
   by_cases c13:e=0
   ·rw[if_pos c13]at h
    refine T_cTz 50 (beq_iff_eq.mpr c13)<| T_rz 15<| T_nd 4 [0,50] [(51,vp (some d)),(54,vp (some (d.add 1)))] ?_
    obtain⟨xB,xN,xC,q15,h⟩:=h
    refine T_l1 55 28 q15 [54]<| T_nd 1 [] [(56,vu f)]<| T_nw (some 57) (λb=>vs (pa b) 1 1) (.cells #[vu f] 54) ?_
    intro m H7 e16 e17
    replace h:=h m H7 e16 e17
    refine T_pd [56] [(57,vs (pa m) 1 1)] ?_
    refine N_op (some 58) (appendN #[28,28] 28 #[vs xB xN xC,vs (pa m) 1 1]) _ (λ_=>by kernel_rfl) (ss_append (T:=54) (sz:=1) (bytes:=8) (zero:=(vu 0:Value)) Tryz.underlying28 Tryz.underlying28 rfl (show Tryz.prog.info? 54=some Tryz.t54 from by kernel_rfl) (by kernel_rfl) (by kernel_rfl) (by decide) (by kernel_rfl) (by first | exact h | (simpa only[Value.cells,List.toList_toArray]using h))) ?_;clear h
    rintro _ H8 ⟨ap,k,rfl,h⟩
    refine T_pd [55,57] [(58,vs ap (xN+1) k)]<| T_nd 2 [51] [(60,vp (some (d.add 1)))] ?_
    obtain⟨q19,h⟩:=h
    refine T_st1 28 (vs ap (xN+1) k) q19 ?_
    intro H9 e18
    replace h:=h H9 e18
    exact T_pd [58,60] []<| T_e<| T_srz 16<| T_nr 4 [4,5] [vu f,vi e] hQ h
   rw[if_neg c13]at h
   exact T_cFz 50 (beq_eq_false_iff_ne.mpr c13)<| T_kt<| T_srz 16<| T_nr 4 [4,5] [vu f,vi e] hQ h
  rw[if_neg c9]at h
  exact T_cTz 40 (bne_iff_ne.mpr c9)<| T_srz 12<| T_nr 3 [4,5] [vu 0,vi g] hQ h
 rw[if_neg c3]at h
 exact T_cTz 11 (congrArg Bool.not (eq_false_of_ne_true c3))<| T_srz 2<| T_nr 2 [4,5] [vu 0,vi 1] hQ h
end syms_Intern

/-! moraine/syms.Name -/
namespace syms_Name
def K0:=Func.code Tryz.f43
end syms_Name
def syms_Name.pt(hv:Option Addr)(wv:Int)(H:Array Obj)(R:Value->Array Obj->Prop):Prop:=
 onPtr hv (
 R (.tuple #[.string (ByteArray.mk #[]),.int .i64 3]) H) (λa=>
 obj_Heap_Get.C (some a) wv 4 0 H (λv H1=> ∃ra rb:Int,v=.tuple #[.int .u64 ra,.int .i64 rb]/\
 if rb=0 then(
 obj_Heap_Text.C (some a) ra H1 (λe H2=> ∃(d:ByteArray) (b:Int),e=.tuple #[.string d,.int .i64 b]/\
 R (.tuple #[.string d,.int .i64 b]) H2))
 else
 R (.tuple #[.string (ByteArray.mk #[]),.int .i64 3]) H1))
namespace syms_Name
theorem link{hv:Option Addr}{wv:Int}{H:Array Obj}{R:Value->Array Obj->Prop}(h:pt hv wv H R):C hv wv H R:=by
 refine T_en K0 23 Tryz.func43 ?_
 intro w0 Q hQ
 unfold pt at h
 refine T_su [(0,vp hv),(1,vu wv)]<| T_srz 0<| T_ed 2 [] []<| T_sz<| T_srz 1<| T_nd 1 [] [(8,vp hv)] ?_
 rcases hv with _ | a
 ·rw[onPtr_none]at h
  exact T_ed 1 [0,8] [(0,vp none),(9,.bool true)]<| T_tz 9<| T_srz 2<| T_nr 2 [4,5] [.string (ByteArray.mk #[]),vi 3] hQ h
 rw[onPtr_some]at h
 refine T_ed 1 [0,8] [(0,vp (some a)),(9,.bool false)]<| T_fz 9<| T_kt<| T_srz 3<| T_nd 2 [1,9] [(11,vp (some a)),(12,vu wv)] ?_
 refine T_c (some 13) h ?_;clear h
 rintro v H1 ⟨ra,rb,rfl,h⟩
 refine T_pd [11,12] [(13,.tuple #[vu ra,vi rb])]<| T_ed 5 [13] [(6,vu ra),(7,vi rb)]<| T_sz<| T_srz 4<| T_ed 2 [7] [(17,.bool (rb !=0))] ?_
 by_cases c1:rb=0
 ·rw[if_pos c1]at h
  refine T_cFz 17 (bne_eq_false_iff_eq.mpr c1)<| T_kt<| T_srz 6<| T_n 2 [(18,vp (some a)),(19,vu ra)] ?_
  refine T_c (some 20) h ?_;clear h
  rintro e H2 ⟨d,b,rfl,h⟩
  refine⟨[(20,.tuple #[.string d,vi b])],pk,?_⟩
  exact T_nr 4 [4,5] [.string d,vi b] hQ h
 rw[if_neg c1]at h
 exact T_cTz 17 (bne_iff_ne.mpr c1)<| T_srz 5<| T_nr 2 [4,5] [.string (ByteArray.mk #[]),vi 3] hQ h
end syms_Name

/-! moraine/syms.Find -/
namespace syms_Find
def K0:=Func.code Tryz.f60
def K2:=cb K0
def K4:=cb K2
def K11:=ca K4
def K14:=cb K11
def K15:=ca K14
def K16:=ca K15
def K17:=cb K15
end syms_Find
def syms_Find.pt(hv:Option Addr)(j:ByteArray)(H:Array Obj)(R:Value->Array Obj->Prop):Prop:=
 ∀(b:Nat) (H1:Array Obj),b=H.size->H1=H.push (.cells #[.string j] 9)->
 ∀(a:Nat) (H2:Array Obj),a=H1.size->H2=H1.push (.cells #[.int .u64 0] 54)->
 ∀(d:Nat) (H3:Array Obj),d=H2.size->H3=H2.push (.cells #[.bool false] 4)->
 onPtr hv (
 (CanPuts H3 (ad a) 0 1)/\ ∀H4,H4=hputs H3 (ad a) [.int .u64 0] 0->
 (CanPuts H4 (ad d) 0 1)/\ ∀H5,H5=hputs H4 (ad d) [.bool false] 0->
 ∃r:Int,hat H5 (ad a)=some (.int .u64 r)/\
 ∃ab:Bool,hat H5 (ad d)=some (.bool ab)/\
 R (.tuple #[.int .u64 r,.bool ab]) H5) (λo=>
 syms_named.C (some o) H3 (λv H6=>v=v/\
 ∀(rc:LoopState->Option Code->Obj) (lp:Nat) (H7:Array Obj),lp=H6.size+1->H7=(H6.push (.deferred (some []))).push (rc .ready none)->
 ∀vY:Value,(∀(e:Int) (x_3:ByteArray) (H8:Array Obj) (vRy:Value->Array Obj->Prop),H8[lp]?=some (rc .ready none)->
 (H8[lp]?=some (rc .ready none)/\ ∀H9:Array Obj,H9=setBlk H8 lp (rc .busy none)->
 ∃i:ByteArray,hat H9 (ad b)=some (.string i)/\
 if x_3.toList=i.toList then(
 (CanPuts H9 (ad a) 0 1)/\ ∀m,m=hputs H9 (ad a) [.int .u64 e] 0->
 (CanPuts m (ad d) 0 1)/\ ∀q,q=hputs m (ad d) [.bool true] 0->
 q[lp]?=some (rc .busy none)/\
 vRy (.bool false) (setBlk q lp (rc .done (some .ret))))
 else
 H9[lp]?=some (rc .busy none)/\
 vRy (.bool true) (setBlk H9 lp (rc .ready none)))->
 FC Tryz.prog vY #[.int .u64 e,.string x_3] H8 vRy)->
 FE Tryz.prog v #[vY] H7 (λ_ p=>
 (p[lp]?=some (rc .ready none)/\ ∀f:Array Obj,f=setBlk p lp (rc .exhausted none)->
 (CanPuts f (ad a) 0 1)/\ ∀k,k=hputs f (ad a) [.int .u64 0] 0->
 (CanPuts k (ad d) 0 1)/\ ∀aa,aa=hputs k (ad d) [.bool false] 0->
 Shut (H6.size::[]) aa (λt=>
 ∃u:Int,hat t (ad a)=some (.int .u64 u)/\
 ∃z:Bool,hat t (ad d)=some (.bool z)/\
 R (.tuple #[.int .u64 u,.bool z]) t))\/
 (p[lp]?=some (rc .done (some .ret))/\ ∀f:Array Obj,f=setBlk p lp (rc .exhausted (some .ret))->
 Shut (H6.size::[]) f (λx=>
 ∃s:Int,hat x (ad a)=some (.int .u64 s)/\
 ∃y:Bool,hat x (ad d)=some (.bool y)/\
 R (.tuple #[.int .u64 s,.bool y]) x)))))
namespace syms_Find
theorem link{hv:Option Addr}{j:ByteArray}{H:Array Obj}{R:Value->Array Obj->Prop}(h:pt hv j H R):C hv j H R:=by
 refine T_en K0 18 Tryz.func60 ?_
 intro w0 Q hQ
 unfold pt at h
 refine T_su [(0,vp hv),(1,.string j)]<| T_srz 0<| T_nw (some 3) (λb=>vp (pa b)) (.cells #[.string j] 9) ?_
 intro b H1 e1 e2
 replace h:=h b H1 e1 e2
 refine T_pd [1] [(3,vp (pa b))]<| T_nw (some 4) (λb=>vp (pa b)) (.cells #[vu 0] 54) ?_
 intro a H2 e3 e4
 replace h:=h a H2 e3 e4
 refine T_pd [] [(4,vp (pa a))]<| T_nw (some 5) (λb=>vp (pa b)) (.cells #[.bool false] 4) ?_
 intro d H3 e5 e6
 replace h:=h d H3 e5 e6
 refine T_pd [] [(5,vp (pa d))]<| T_e<| T_sz<| T_srz 1<| T_nd 1 [] [(8,vp hv)] ?_
 rcases hv with _ | o
 ·rw[onPtr_none]at h
  refine T_ed 1 [0,8] [(0,vp none),(9,.bool true)]<| T_tz 9<| T_srz 2<| T_ud [0,3,9] [] ?_
  obtain⟨q8,h⟩:=h
  refine T_st1 54 (vu 0) q8 ?_
  intro H4 e7
  replace h:=h H4 e7
  refine T_pd [] [] ?_
  obtain⟨q10,h⟩:=h
  refine T_st1 4 (.bool false) q10 ?_
  intro H5 e9
  replace h:=h H5 e9
  refine T_pd [] []<| T_e ?_
  refine S_ret (by kernel_rfl) ?_
  show At _ _ _ _ _ (Q .ret)
  obtain⟨r,q11,h⟩:=h
  obtain⟨ab,q12,h⟩:=h
  exact S_done (fn:=Tryz.f60) [vu r,.bool ab] hQ (show ResOK _ _ _ [.cell 4 54,.cell 5 4] _ from .cell (by kernel_rfl) (loadOK_one (λ_=>by kernel_rfl) q11) (.cell (by kernel_rfl) (loadOK_one (λ_=>by kernel_rfl) q12) (.nil))) h
 rw[onPtr_some]at h
 refine T_ed 1 [0,8] [(0,vp (some o)),(9,.bool false)]<| T_fz 9<| T_kt<| T_sz<| T_srz 3<| T_nd 1 [0,9] [(10,vp (some o))] ?_
 refine T_c (some 11) h ?_;clear h
 rintro v H6 ⟨-,h⟩
 refine T_pd [10] [(11,v)]<| T_e<| T_bz 0 ?_
 refine S_range (g:=.tmp 11) (ps:= #[12,13]) (assign:=K16) (body:=K17) (v) (by kernel_rfl) (by kernel_rfl) (by kernel_rfl) ?_
 intro rc lp H7 r13 e14 e15 y16
 refine FE.mono (h rc lp H7 e14 e15 (.func (.yield lp) #[] #[]) ?_) ?_
 ·clear h
  intro e x_3 H8 vRy q17 h
  refine y16 #[vu e,.string x_3] H8 vRy (by kernel_rfl) q17 (λw1x=>?_)
  refine T_sd [] [(12,vu e),(13,.string x_3)]<| T_srz 4<| T_ed 1 [11,12] [(6,vu e)]<| T_rz 5<| T_nd 1 [13] [(7,.string x_3)] ?_
  refine N_end (by kernel_rfl) ?_
  obtain⟨q19,h⟩:=h
  refine S_then ?_
  refine S_begin r13 q19 ?_
  intro H9 e18
  replace h:=h H9 e18
  refine T_bz 1<| T_srz 6<| T_nd 1 [7] [(14,.string x_3)] ?_
  obtain⟨i,q20,h⟩:=h
  refine T_l1 15 9 q20 [3]<| T_ed 1 [14,15] [(16,.bool (x_3.toList==i.toList))] ?_
  by_cases c21:x_3.toList=i.toList
  ·rw[if_pos c21]at h
   refine T_cTz 16 (beq_iff_eq.mpr c21)<| T_srz 7<| T_nd 1 [6,16] [(17,vu e)] ?_
   obtain⟨q24,h⟩:=h
   refine T_st1 54 (vu e) q24 ?_
   intro m e23
   replace h:=h m e23
   refine T_pd [4,17] [] ?_
   obtain⟨q26,h⟩:=h
   refine T_st1 4 (.bool true) q26 ?_
   intro q e25
   replace h:=h q e25
   refine⟨[],pk,?_⟩
   refine T_e ?_
   refine S_ret (by kernel_rfl) ?_
   show At _ _ _ _ _ (roundPost _ _ _ .ret)
   obtain⟨q27,h⟩:=h
   exact S_rret r13 q27 h
  rw[if_neg c21]at h
  refine T_cFz 16 (beq_eq_false_iff_ne.mpr c21)<| T_k ?_
  refine S_blockEnd ?_
  obtain⟨q28,h⟩:=h
  exact S_rnormal r13 q28 h
 clear h y16
 rintro _ p (⟨q29,h⟩ | ⟨q29,h⟩)
 ·refine .inl ⟨q29,λf e38=>?_⟩
  replace h:=h f e38
  refine S_marks (H6.size::[]) rfl ?_
  refine T_sd [3,11] [] ?_
  refine S_blockEnd ?_
  refine S_then ?_
  refine T_srz 8 ?_
  obtain⟨q31,h⟩:=h
  refine T_st1 54 (vu 0) q31 ?_
  intro k e30
  replace h:=h k e30
  refine T_pd [] [] ?_
  obtain⟨q33,h⟩:=h
  refine T_st1 4 (.bool false) q33 ?_
  intro aa e32
  replace h:=h aa e32
  refine T_pd [] []<| T_e ?_
  refine S_ret (by kernel_rfl) ?_
  show At _ _ _ _ _ (Q .ret)
  refine S_doneM (fn:=Tryz.f60) (H6.size::[]) hQ (Shut.mono (λt h=>?_) h)
  obtain⟨u,q34,h⟩:=h
  obtain⟨z,q35,h⟩:=h
  exact⟨[vu u,.bool z],(show ResOK _ _ _ [.cell 4 54,.cell 5 4] _ from .cell (by kernel_rfl) (loadOK_one (λ_=>by kernel_rfl) q34) (.cell (by kernel_rfl) (loadOK_one (λ_=>by kernel_rfl) q35) (.nil))),h⟩
 refine .inr ⟨_,q29,λf e38=>?_⟩
 replace h:=h f e38
 refine S_marks (H6.size::[]) rfl ?_
 refine T_sd [3,11] [] ?_
 refine S_ret rfl ?_
 show At _ _ _ _ _ (Q .ret)
 refine S_doneM (fn:=Tryz.f60) (H6.size::[]) hQ (Shut.mono (λx h=>?_) h)
 obtain⟨s,q36,h⟩:=h
 obtain⟨y,q37,h⟩:=h
 exact⟨[vu s,.bool y],(show ResOK _ _ _ [.cell 4 54,.cell 5 4] _ from .cell (by kernel_rfl) (loadOK_one (λ_=>by kernel_rfl) q36) (.cell (by kernel_rfl) (loadOK_one (λ_=>by kernel_rfl) q37) (.nil))),h⟩
end syms_Find

/-! moraine/syms.named -/
namespace syms_named
def K0:=Func.code Tryz.f90
end syms_named
def syms_named.pt(hv:Option Addr)(H:Array Obj)(R:Value->Array Obj->Prop):Prop:=
 ∀(b:Nat) (H1:Array Obj),b=H.size->H1=H.push (.cells #[.pointer hv] 24)->
 R (.func (.func 111) #[] #[.pointer (some (ad b))]) H1
namespace syms_named
theorem link{hv:Option Addr}{H:Array Obj}{R:Value->Array Obj->Prop}(h:pt hv H R):C hv H R:=by
 refine T_en K0 4 Tryz.func90 ?_
 intro w0 Q hQ
 unfold pt at h
 refine T_su [(0,vp hv)]<| T_srz 0<| T_nw (some 1) (λb=>vp (pa b)) (.cells #[vp hv] 24) ?_
 intro b H1 e1 e2
 replace h:=h b H1 e1 e2
 refine⟨[(1,vp (pa b))],pk,?_⟩
 exact T_ed 1 [] []<| T_srz 1<| T_nr 2 [2] [.func (.func 111) #[] #[vp (pa b)]] hQ h
end syms_named

/-! moraine/syms.named.1 -/
namespace syms_named_1
def K0:=Func.code Tryz.f111
def K2:=cb K0
def K3:=ca K2
def K4:=ca K3
end syms_named_1
def syms_named_1.pt(b:Value)(o:Option Addr)(H:Array Obj)(R:Value->Array Obj->Prop):Prop:=
 ∃d:Addr,o=some d/\
 ∃x:Option Addr,hat H d=some (.pointer x)/\
 ∃xA:Addr,x=some xA/\
 ∃(xB:Option Addr) (xN xC:Nat),hat H (xA.add 1)=some (.slice xB xN xC)/\
 ∃(I5:Int->Array Obj->Prop) (m5:Int->Array Obj->Nat),I5 0 H/\ ∀(e:Int) (H1:Array Obj),I5 e H1->
 if e< (xN:Int)then(
 ∃f:Addr,xB=some f/\
 ((0:Int)<=e/\e< (xN:Int))/\
 ∃g:Int,hat H1 (f.add (Int.toNat e*1))=some (.int .u64 g)/\
 ∃m:Option Addr,hat H1 d=some (.pointer m)/\
 syms_Name.C m g H1 (λv H2=> ∃(ra:ByteArray) (rb:Int),v=.tuple #[.string ra,.int .i64 rb]/\
 if rb=0 then(
 FC Tryz.prog b #[.int .u64 g,.string ra] H2 (λp H3=> ∃j:Bool,p=.bool j/\
 if j=true then(
 (I5 (IntKind.wrap .i64 (e+1)) H3/\m5 (IntKind.wrap .i64 (e+1)) H3<m5 e H1))
 else
 R (.tuple #[]) H3))
 else
 (I5 (IntKind.wrap .i64 (e+1)) H2/\m5 (IntKind.wrap .i64 (e+1)) H2<m5 e H1)))
 else
 R (.tuple #[]) H1
namespace syms_named_1
theorem link{b:Value}{o:Option Addr}{H:Array Obj}{R:Value->Array Obj->Prop}(h:pt b o H R):C b o H R:=by
 refine T_en K0 32 Tryz.func111 ?_
 intro w0 Q hQ
 unfold pt at h
 refine T_su [(0,b),(1,vp o)]<| T_srz 0 ?_
 obtain⟨d,rfl,h⟩:=h
 obtain⟨x,q1,h⟩:=h
 refine T_ld (some 7) 24 q1 [1] [(1,vp (some d)),(7,vp x)] ?_
 obtain⟨xA,rfl,h⟩:=h
 refine T_nd 2 [7] [(9,vp (some (xA.add 1)))] ?_
 obtain⟨xB,xN,xC,q2,h⟩:=h
 refine T_l1 10 28 q2 [9]<| T_ed 2 [] [(11,vi xN),(12,vi 0)]<| T_bz 0 ?_
 obtain⟨I5,m5,i3,i4⟩:=h
 refine S_loop (x:=K4) (σ:=Int) (λs_=> [(0,b),(1,vp (some d)),(10,vs xB xN xC),(11,vi xN),(12,vi s_)]) (λs_ H=>I5 s_ H) (λs_ H=>m5 s_ H) (0:Int) (by kernel_rfl) i3 sk ?_
 rintro e H1 i5
 have h:=i4 e H1 i5
 refine T_su [(0,b),(1,vp (some d)),(10,vs xB xN xC),(11,vi xN),(12,vi e)]<| T_srz 1<| T_ed 1 [] [(13,.bool (decide (e< (xN:Int))))]<| T_sz ?_
 by_cases c6:e< (xN:Int)
 ·rw[if_pos c6]at h
  refine T_cTz 13 (decide_eq_true c6)<| T_kt<| T_sz<| T_bz 1<| T_srz 2<| T_ud [13] [] ?_
  obtain⟨f,rfl,h⟩:=h
  obtain⟨q8,h⟩:=h
  refine T_xd (some 14) 28 54 1 f xN xC .i64 e Tryz.underlying28 q8.1 q8.2 [10] [(10,vs (some f) xN xC),(14,vp (some (f.add (Int.toNat e*1))))] ?_
  obtain⟨g,q9,h⟩:=h
  refine T_l1 15 54 q9 [14]<| T_ed 1 [15] [(4,vu g)]<| T_srz 3 ?_
  obtain⟨m,q10,h⟩:=h
  refine T_l1 17 24 q10 []<| T_nd 1 [] [(18,vu g)] ?_
  refine T_c (some 19) h ?_;clear h
  rintro v H2 ⟨ra,rb,rfl,h⟩
  refine T_pd [17,18] [(19,.tuple #[.string ra,vi rb])]<| T_ed 5 [19] [(5,.string ra),(6,vi rb)]<| T_srz 4<| T_nd 3 [6] [(24,.bool (rb==0))] ?_
  by_cases c11:rb=0
  ·rw[if_pos c11]at h
   refine N_bd 24 (beq_iff_eq.mpr c11)<| T_nd 3 [4,5] [(25,b),(26,vu g),(27,.string ra)] ?_
   refine N_callv (some 28) b #[vu g,.string ra] (λ_=>by kernel_rfl) h ?_;clear h
   rintro p H3 ⟨j,rfl,h⟩
   refine T_pd [25,26,27] [(28,.bool j)]<| T_ed 2 [24,28] [(30,.bool (!j))] ?_
   by_cases c13:j=true
   ·rw[if_pos c13]at h
    refine T_cFz 30 (congrArg Bool.not (c13))<| T_k ?_
    refine S_blockEnd ?_
    refine S_then ?_
    refine T_rz 5<| T_ed 2 [12,30] [(12,vi (IntKind.wrap .i64 (e+1)))] ?_
    exact S_round ((IntKind.wrap .i64 (e+1)):Int) sk h
   rw[if_neg c13]at h
   exact T_cTz 30 (congrArg Bool.not (eq_false_of_ne_true c13))<| T_ret [] [] hQ h
  rw[if_neg c11]at h
  refine N_bd 24 (beq_eq_false_iff_ne.mpr c11)<| T_ed 6 [4,5,24] [(30,.bool false)]<| T_fz 30<| T_k ?_
  refine S_blockEnd ?_
  refine S_then ?_
  refine T_rz 5<| T_ed 2 [12,30] [(12,vi (IntKind.wrap .i64 (e+1)))] ?_
  exact S_round ((IntKind.wrap .i64 (e+1)):Int) sk h
 rw[if_neg c6]at h
 refine T_cFz 13 (decide_eq_false c6) ?_
 refine S_exit 0 (by kernel_rfl) ?_
 refine S_exitThen ?_
 refine S_exitThen ?_
 refine S_exitHere ?_
 exact S_doneN (fn:=Tryz.f111) [] hQ (show ResOK _ _ _ [] _ from .nil) h
end syms_named_1

/-! (*moraine/seg.Mem).Free -/
namespace seg_Mem_Free
def K0:=Func.code Tryz.f7
end seg_Mem_Free
def seg_Mem_Free.pt(m:Option Addr)(H:Array Obj)(R:Value->Array Obj->Prop):Prop:=
 onPtr m (
 R (.int .i64 0) H) (λmA=>
 ∃x:Int,hat H (mA.add 2)=some (.int .i64 x)/\
 R (.int .i64 x) H)
namespace seg_Mem_Free
set_option maxRecDepth 100000 in
theorem link{m:Option Addr}{H:Array Obj}{R:Value->Array Obj->Prop}(h:pt m H R):C m H R:=by
 refine T_en K0 9 Tryz.func7 ?_
 intro w0 Q hQ
 unfold pt at h
 refine T_su [(0,vp m)]<| T_srz 0<| T_ed 1 [] []<| T_sz<| T_srz 1<| T_nd 1 [] [(3,vp m)] ?_
 rcases m with _ | mA
 ·rw[onPtr_none]at h
  exact T_ne 1 [(0,vp none),(4,.bool true)]<| T_tz 4<| T_srz 2<| T_nr 1 [2] [vi 0] hQ h
 rw[onPtr_some]at h
 refine T_ne 1 [(0,vp (some mA)),(4,.bool false)]<| T_fz 4<| T_kt<| T_srz 3<| T_n 3 [(7,vp (some (mA.add 2)))] ?_
 obtain⟨x,q1,h⟩:=h
 exact T_l1 8 3 q1 [7]<| T_nr 1 [2] [vi x] hQ h
end seg_Mem_Free

/-! moraine/morainelaw17.awake -/
namespace morainelaw17_awake
def K0:=Func.code Tryz.f4
end morainelaw17_awake
def morainelaw17_awake.pt(H:Array Obj)(R:Value->Array Obj->Prop):Prop:=
 obj_New.C 16 H (λv H1=> ∃(ra:Option Addr) (rb:Int),v=.tuple #[.pointer ra,.int .i64 rb]/\
 if rb=0 then(
 ∀(b:Nat) (H2:Array Obj),b=H1.size->H2=H1.push (.cells #[.int .i64 1,.int .i32 0,.bool false,.slice none 0 0,.string (ByteArray.mk #[]),.slice none 0 0,.int .i64 6,.int .i32 0,.bool false,.slice none 0 0,.string (ByteArray.mk #[97]),.slice none 0 0] 51)->
 moraineref03_List.C (some (ad b)) 2 2 H2 (λbh H3=> ∃(an xC:Int) (ao:Bool) (ai:Option Addr) (ag ah:Nat) (xT:ByteArray) (bd:Option Addr) (bc be:Nat),bh=.agg (DR an xC ao ai ag ah xT bd bc be).toArray/\
 ∀(e:Nat) (H4:Array Obj),e=H3.size->H4=H3.push (.cells (DR 0 0 false none 0 0 (ByteArray.mk #[]) none 0 0).toArray 51)->
 (CanPuts H4 (ad e) 0 6)/\ ∀H5,H5=hputs H4 (ad e) (DR an xC ao ai ag ah xT bd bc be) 0->
 ∃al a9 am aa ab y a8 a2 a1 az,RowAt H5 (ad e) 0 (DR al a9 am aa ab y a8 a2 a1 az)/\
 build_Heap.C ra al a9 am aa ab y a8 a2 a1 az H5 (λbi H6=> ∃m f:Int,bi=.tuple #[.int .u64 m,.int .i64 f]/\
 build_Datum.C ra m H6 (λbj H7=> ∃(s a6:Int) (t:Bool) (j:Option Addr) (k i:Nat) (a7:ByteArray) (aw:Option Addr) (aq ap:Nat) (g:Int),bj=.tuple #[.agg (DR s a6 t j k i a7 aw aq ap).toArray,.int .i64 g]/\
 ∀(o:Nat) (H8:Array Obj),o=H7.size->H8=H7.push (.cells (DR 0 0 false none 0 0 (ByteArray.mk #[]) none 0 0).toArray 51)->
 (CanPuts H8 (ad o) 0 6)/\ ∀H9,H9=hputs H8 (ad o) (DR s a6 t j k i a7 aw aq ap) 0->
 obj_Heap_Car.C ra m H9 (λbk bf=> ∃d a:Int,bk=.tuple #[.int .u64 d,.int .i64 a]/\
 if f=0 then(
 if g=0 then(
 ∃ac a4 af p r q a5 au av ax,RowAt bf (ad o) 0 (DR ac a4 af p r q a5 au av ax)/\
 ∃ak bb aj z u ae ba a0 ay a3,RowAt bf (ad e) 0 (DR ak bb aj z u ae ba a0 ay a3)/\
 moraineref03_Same.C ac a4 af p r q a5 au av ax ak bb aj z u ae ba a0 ay a3 bf (λbg bl=> ∃x:Bool,bg=.bool x/\
 R (.bool ((x && (a==0)) && (d==12))) bl))
 else
 R (.bool false) bf)
 else
 R (.bool false) bf)))))
 else
 R (.bool false) H1)
namespace morainelaw17_awake
set_option maxRecDepth 100000 in
theorem link{H:Array Obj}{R:Value->Array Obj->Prop}(h:pt H R):C H R:=by
 refine T_en K0 57 Tryz.func4 ?_
 intro w0 Q hQ
 unfold pt at h
 refine T_su []<| T_srz 0<| T_ne 1 []<| T_srz 1 ?_
 refine T_c (some 11) h ?_;clear h
 rintro v H1 ⟨ra,rb,rfl,h⟩
 refine⟨[(11,.tuple #[vp ra,vi rb])],pk,?_⟩
 refine T_ne 5 [(1,vp ra),(2,vi rb)]<| T_sz<| T_srz 2<| T_ed 2 [2] [(15,.bool (rb !=0))] ?_
 by_cases c1:rb=0
 ·rw[if_pos c1]at h
  refine T_cFz 15 (bne_eq_false_iff_eq.mpr c1)<| T_kt<| T_srz 4<| T_nd 2 [15] [(16,.agg (DR 1 0 false none 0 0 (ByteArray.mk #[]) none 0 0).toArray),(17,.agg (DR 6 0 false none 0 0 (ByteArray.mk #[97]) none 0 0).toArray)]<| T_nw (some 18) (λb=>vs (pa b) 2 2) (.cells #[vi 1,.int .i32 0,.bool false,vs none 0 0,.string (ByteArray.mk #[]),vs none 0 0,vi 6,.int .i32 0,.bool false,vs none 0 0,.string (ByteArray.mk #[97]),vs none 0 0] 51) ?_
  intro b H2 e3 e4
  replace h:=h b H2 e3 e4
  refine T_pd [16,17] [(18,vs (pa b) 2 2)] ?_
  refine T_c (some 19) h ?_;clear h
  rintro bh H3 ⟨an,xC,ao,ai,ag,ah,xT,bd,bc,be,rfl,h⟩
  refine T_pd [18] [(19,.agg (DR an xC ao ai ag ah xT bd bc be).toArray)]<| T_nw (some 3) (λb=>vp (pa b)) (.cells (DR 0 0 false none 0 0 (ByteArray.mk #[]) none 0 0).toArray 51) ?_
  intro e H4 e5 e6
  replace h:=h e H4 e5 e6
  refine T_pd [] [(3,vp (pa e))] ?_
  obtain⟨q8,h⟩:=h
  refine T_sta 51 (DR an xC ao ai ag ah xT bd bc be) q8 ?_
  intro H5 e7
  replace h:=h H5 e7
  refine T_pd [19] []<| T_e<| T_srz 5<| T_nd 1 [] [(21,vp ra)] ?_
  obtain⟨al,a9,am,aa,ab,y,a8,a2,a1,az,q9,h⟩:=h
  refine T_lr 22 51 q9 [] ?_
  refine T_c (some 23) h ?_;clear h
  rintro bi H6 ⟨m,f,rfl,h⟩
  refine T_pd [21,22] [(23,.tuple #[vu m,vi f])]<| T_ed 5 [23] [(4,vu m),(5,vi f)]<| T_srz 6<| T_nd 2 [] [(27,vp ra),(28,vu m)] ?_
  refine T_c (some 29) h ?_;clear h
  rintro bj H7 ⟨s,a6,t,j,k,i,a7,aw,aq,ap,g,rfl,h⟩
  refine T_pd [27,28] [(29,.tuple #[.agg (DR s a6 t j k i a7 aw aq ap).toArray,vi g])]<| T_nd 3 [29] [(30,.agg (DR s a6 t j k i a7 aw aq ap).toArray),(31,vi g)]<| T_nw (some 6) (λb=>vp (pa b)) (.cells (DR 0 0 false none 0 0 (ByteArray.mk #[]) none 0 0).toArray 51) ?_
  intro o H8 e10 e11
  replace h:=h o H8 e10 e11
  refine T_pd [] [(6,vp (pa o))] ?_
  obtain⟨q13,h⟩:=h
  refine T_sta 51 (DR s a6 t j k i a7 aw aq ap) q13 ?_
  intro H9 e12
  replace h:=h H9 e12
  refine T_pd [30] []<| T_ed 1 [31] [(7,vi g)]<| T_srz 7<| T_nd 2 [1,4] [(33,vp ra),(34,vu m)] ?_
  refine T_c (some 35) h ?_;clear h
  rintro bk bf ⟨d,a,rfl,h⟩
  refine T_pd [33,34] [(35,.tuple #[vu d,vi a])]<| T_ed 5 [35] [(8,vu d),(9,vi a)]<| T_srz 8<| T_nd 3 [5] [(40,.bool (f==0))] ?_
  by_cases c14:f=0
  ·rw[if_pos c14]at h
   refine N_bd 40 (beq_iff_eq.mpr c14)<| T_nd 4 [7,40] [(44,.bool (g==0))] ?_
   by_cases c16:g=0
   ·rw[if_pos c16]at h
    refine N_bd 44 (beq_iff_eq.mpr c16) ?_
    obtain⟨ac,a4,af,p,r,q,a5,au,av,ax,q18,h⟩:=h
    refine T_lr 45 51 q18 [6] ?_
    obtain⟨ak,bb,aj,z,u,ae,ba,a0,ay,a3,q19,h⟩:=h
    refine T_lr 46 51 q19 [3] ?_
    refine T_c (some 47) h ?_;clear h
    rintro bg bl ⟨x,rfl,h⟩
    refine T_pd [45,46] [(47,.bool x)]<| T_nd 2 [44,47] [(49,.bool x)] ?_
    refine N_cut [(0,.bool ((x && (a==0)) && (d==12)))] ?_ ?_
    ·refine S_then ?_
     exact T_ret [0] [.bool ((x && (a==0)) && (d==12))] hQ h
    intro hk
    refine T_nu [(8,vu d),(9,vi a),(49,.bool x)] ?_
    by_cases c20:x=true
    ·have b21:x=true:=c20
     refine N_env [(8,vu d),(9,vi a),(49,.bool true)] (by rw[b21]) ?_
     refine T_nd 4 [9,49] [(53,.bool (a==0))] ?_
     by_cases c22:a=0
     ·have b23:(a==0)=true:=beq_iff_eq.mpr c22
      refine N_bd 53 b23<| T_n 4 [(0,.bool (d==12))] ?_
      refine N_end (by kernel_rfl) ?_
      refine S_env [(0,.bool ((x && (a==0)) && (d==12)))] (by simp only[b21,b23,BL]) ?_
      exact hk
     have b23:(a==0)=false:=beq_eq_false_iff_ne.mpr c22
     refine N_bd 53 b23<| T_n 4 [(0,.bool false)] ?_
     refine N_end (by kernel_rfl) ?_
     refine S_env [(0,.bool ((x && (a==0)) && (d==12)))] (by simp only[b21,b23,BL]) ?_
     exact hk
    have b21:x=false:=eq_false_of_ne_true c20
    refine N_env [(8,vu d),(9,vi a),(49,.bool false)] (by rw[b21]) ?_
    refine T_n 8 [(0,.bool false)] ?_
    refine N_end (by kernel_rfl) ?_
    refine S_env [(0,.bool ((x && (a==0)) && (d==12)))] (by simp only[b21,BL]) ?_
    exact hk
   rw[if_neg c16]at h
   exact N_bd 44 (beq_eq_false_iff_ne.mpr c16)<| T_nr 13 [0] [.bool false] hQ h
  rw[if_neg c14]at h
  exact N_bd 40 (beq_eq_false_iff_ne.mpr c14)<| T_nr 17 [0] [.bool false] hQ h
 rw[if_neg c1]at h
 exact T_cTz 15 (bne_iff_ne.mpr c1)<| T_srz 3<| T_nr 1 [0] [.bool false] hQ h
end morainelaw17_awake

/-! moraine/morainelaw17.drawn -/
namespace morainelaw17_drawn
def K0:=Func.code Tryz.f6
def K2:=cb K0
def K4:=cb K2
def K6:=cb K4
def K7:=ca K6
def K10:=cb K7
def K11:=ca K10
def K12:=ca K11
def K14:=cb K12
def K19:=ca K14
def K21:=ca K19
def K23:=cb K21
def K25:=cb K23
def K27:=cb K25
def K29:=cb K27
def K35:=cb K29
def K36:=ca K35
def K39:=cb K36
def K40:=ca K39
def K42:=cb K40
def K44:=cb K42
def K74:=cb K44
def K76:=cb K74
def K80:=cb K76
def K81:=ca K80
def K82:=cb K80
def K84:=cb K81
def K86:=cb K84
def K87:=ca K86
def K90:=cb K87
def K91:=ca K90
def K92:=ca K91
def K94:=cb K92
def K99:=ca K94
def K101:=ca K99
def K102:=ca K101
def K105:=cb K82
def K106:=ca K105
def K107:=cb K105
def K109:=cb K107
def K111:=cb K109
def K113:=cb K111
def K115:=cb K113
def K116:=ca K115
end morainelaw17_drawn
def morainelaw17_drawn.pt(hv ab:Option Addr)(e f:Nat)(H:Array Obj)(R:Value->Array Obj->Prop):Prop:=
 ∀(b:Nat) (H1:Array Obj),b=H.size->H1=H.push (.cells #[.int .u64 20] 54)->
 ∀(cs:Nat) (H2:Array Obj),cs=H1.size->H2=H1.push (.cells #[.int .i64 0,.int .i32 0,.bool false,.slice none 0 0,.string (ByteArray.mk #[]),.slice none 0 0,.slice none 0 0] 70)->
 ∃(ct:(Option Addr)->Nat->Nat->(Option Addr)->Nat->Nat->Int->Array Obj->Prop) (m13:(Option Addr)->Nat->Nat->(Option Addr)->Nat->Nat->Int->Array Obj->Nat),ct (some (ad b)) 1 1 (some (ad cs)) 1 1 0 H2/\ ∀(g:Option Addr) (wordsN:Nat) (wordsC:Nat) (thingsB:Option Addr) (thingsN:Nat) (thingsC:Nat) (i:Int) (H3:Array Obj),ct g wordsN wordsC thingsB thingsN thingsC i H3->
 if i< (e:Int)then(
 ∃d:Addr,ab=some d/\
 ((0:Int)<=i/\i< (e:Int))/\
 ∃(aw xN a8:Int) (b4:Option Addr) (b3 b2:Nat),RowAt H3 (d.add (Int.toNat i*4)) 0 [.int .i64 aw,.int .i64 xN,.int .i64 a8,.slice b4 b3 b2]/\
 ∀(m:Nat) (H4:Array Obj),m=H3.size->H4=H3.push (.cells #[.int .i64 0,.int .i64 0,.int .i64 0,.slice none 0 0] 72)->
 (CanPuts H4 (ad m) 0 4)/\ ∀H5,H5=hputs H4 (ad m) [.int .i64 aw,.int .i64 xN,.int .i64 a8,.slice b4 b3 b2] 0->
 ∀(j:Nat) (H6:Array Obj),j=H5.size->H6=H5.push (.cells #[.int .i64 0,.int .i32 0,.bool false,.slice none 0 0,.string (ByteArray.mk #[]),.slice none 0 0,.slice none 0 0] 70)->
 (CanPuts H6 (ad j) 0 7)/\ ∀H7,H7=hputs H6 (ad j) [.int .i64 (-1),.int .i32 0,.bool false,.slice none 0 0,.string (ByteArray.mk #[]),.slice none 0 0,.slice none 0 0] 0->
 ∃(xB:Option Addr) (bb xC:Nat),hat H7 ((ad m).add 3)=some (.slice xB bb xC)/\
 ∃J:Int->Int->Array Obj->Prop,(
 if(bb:Int)>0 then(
 ∃(c1:Option Addr) (bw cg:Nat),hat H7 ((ad m).add 3)=some (.slice c1 bw cg)/\
 ∃bh:Addr,c1=some bh/\
 ((0:Int)<=0/\0< (bw:Int))/\
 ∃bu:Int,hat H7 (bh.add (Int.toNat 0*1))=some (.int .i64 bu)/\
 morainelaw17_at.C bu (wordsN:Int) H7 (λdy dc=> ∃aq:Int,dy=.int .i64 aq/\
 ∃(bg:Option Addr) (a2 a6:Nat),hat dc ((ad m).add 3)=some (.slice bg a2 a6)/\
 ∃(c7:Option Addr) (an da:Nat),hat dc ((ad m).add 3)=some (.slice c7 an da)/\
 ∃bj:Addr,bg=some bj/\
 ((0:Int)<=(IntKind.wrap .i64 ((an:Int)-1))/\(IntKind.wrap .i64 ((an:Int)-1))< (a2:Int))/\
 ∃bs:Int,hat dc (bj.add (Int.toNat (IntKind.wrap .i64 ((an:Int)-1))*1))=some (.int .i64 bs)/\
 morainelaw17_at.C bs (wordsN:Int) dc (λdx d7=> ∃cj:Int,dx=.int .i64 cj/\
 J aq cj d7)))
 else
 J 0 0 H7)/\ ∀(a:Int) (b_5:Int) (H8:Array Obj),J a b_5 H8->
 ∃x:Int,hat H8 (ad m)=some (.int .i64 x)/\
 morainelaw17_at.C x 9 H8 (λv H9=> ∃y:Int,v=.int .i64 y/\
 ∃bf:Int->Int->Array Obj->Prop,(
 if y=0 then(
 ∃cq:Int,hat H9 ((ad m).add 1)=some (.int .i64 cq)/\
 morainelaw17_at.C cq 1000 H9 (λea dh=> ∃z:Int,ea=.int .i64 z/\
 (CanPuts dh (ad j) 0 6)/\ ∀c5,c5=hputs dh (ad j) (DR 4 0 false none 0 0 (ByteArray.mk #[]) none 0 0) 0->
 if z>0 then(
 ∀(b5:Nat) (H21:Array Obj),b5=c5.size->H21=c5.push (.cells #[.int .u32 (IntKind.wrap .u32 z)] 74)->
 (CanPuts H21 ((ad j).add 2) 0 2)/\ ∀dm,dm=hputs H21 ((ad j).add 2) [.bool false,.slice (some (ad b5)) 1 1] 0->
 bf (IntKind.wrap .u64 (IntKind.wrap .i64 (8*z))) 0 dm)
 else
 bf (IntKind.wrap .u64 (IntKind.wrap .i64 (8*z))) 0 c5))
 else
 if y=1 then(
 obj_Heap_String.C hv (ByteArray.mk #[97,98]) H9 (λd6 dt=> ∃ra rb:Int,d6=.tuple #[.int .u64 ra,.int .i64 rb]/\
 (CanPuts dt (ad j) 0 6)/\ ∀dn,dn=hputs dt (ad j) (DR 5 0 false none 0 0 (ByteArray.mk #[97,98]) none 0 0) 0->
 bf ra rb dn))
 else
 if y=2 then(
 (CanPuts H9 (ad j) 0 1)/\ ∀dk,dk=hputs H9 (ad j) [.int .i64 8] 0->
 ∃(df:(Option Addr)->Nat->Nat->Int->Array Obj->Prop) (m93:(Option Addr)->Nat->Nat->Int->Array Obj->Nat),df none 0 0 0 dk/\ ∀(lB:Option Addr) (lN:Nat) (lC:Nat) (k:Int) (H26:Array Obj),df lB lN lC k H26->
 ∃(db:Option Addr) (ao c9:Nat),hat H26 ((ad m).add 3)=some (.slice db ao c9)/\
 if((decide (k< (ao:Int))) && (decide (k<5)))=true then(
 ∃(al:Option Addr) (af ak:Nat),hat H26 ((ad j).add 6)=some (.slice al af ak)/\
 ∃(dg:Option Addr) (bc be:Nat),hat H26 ((ad m).add 3)=some (.slice dg bc be)/\
 ∃au:Addr,dg=some au/\
 ((0:Int)<=k/\k< (bc:Int))/\
 ∃a9:Int,hat H26 (au.add (Int.toNat k*1))=some (.int .i64 a9)/\
 morainelaw17_at.C a9 (wordsN:Int) H26 (λd0 dr=> ∃cy:Int,d0=.int .i64 cy/\RowAt dr ((ad j).add 6) 0 [.slice al af ak]/\
 ∀(b8:Nat) (H28:Array Obj),b8=dr.size->H28=dr.push (.cells #[.int .i64 cy] 3)->RowAt H28 ((ad j).add 6) 0 [.slice al af ak]/\
 appendK 1 3 8 [.int .i64 0] al af ak (some (ad b8)) 1 H28 (λbz a5 di=>
 (CanPuts di ((ad j).add 6) 0 1)/\ ∀cr,cr=hputs di ((ad j).add 6) [.slice bz (af+1) a5] 0->
 ∃(cn:Option Addr) (bi bp:Nat),hat cr ((ad j).add 6)=some (.slice cn bi bp)/\
 ∃bd:Addr,cn=some bd/\
 ((0:Int)<=k/\k< (bi:Int))/\
 ∃av:Int,hat cr (bd.add (Int.toNat k*1))=some (.int .i64 av)/\
 ∃ae:Addr,g=some ae/\
 ((0:Int)<=av/\av< (wordsN:Int))/\
 ∃cl:Int,hat cr (ae.add (Int.toNat av*1))=some (.int .u64 cl)/\
 ∀(ce:Nat) (H31:Array Obj),ce=cr.size->H31=cr.push (.cells #[.int .u64 cl] 54)->
 appendK 1 54 8 [.int .u64 0] lB lN lC (some (ad ce)) 1 H31 (λbx a7 dw=>
 (df bx (lN+1) a7 (IntKind.wrap .i64 (k+1)) dw/\m93 bx (lN+1) a7 (IntKind.wrap .i64 (k+1)) dw<m93 lB lN lC k H26)))))
 else
 obj_Heap_Make.C hv 1 0 lB lN lC H26 (λd4 d5=> ∃cp cc:Int,d4=.tuple #[.int .u64 cp,.int .i64 cc]/\
 bf cp cc d5))
 else
 if y=6 then(
 ∃q:Addr,g=some q/\
 ((0:Int)<=a/\a< (wordsN:Int))/\
 ∃a0:Int,hat H9 (q.add (Int.toNat a*1))=some (.int .u64 a0)/\
 ((0:Int)<=b_5/\b_5< (wordsN:Int))/\
 ∃br:Int,hat H9 (q.add (Int.toNat b_5*1))=some (.int .u64 br)/\
 obj_Heap_Weak.C hv a0 br H9 (λd9 d2=> ∃aj am:Int,d9=.tuple #[.int .u64 aj,.int .i64 am]/\
 bf aj am d2))
 else
 if y=7 then(
 ∃aa:Addr,g=some aa/\
 ((0:Int)<=a/\a< (wordsN:Int))/\
 ∃cd:Int,hat H9 (aa.add (Int.toNat a*1))=some (.int .u64 cd)/\
 ∀(ch:Nat) (H35:Array Obj),ch=H9.size->H35=H9.push (.cells #[.int .u64 cd] 54)->
 obj_Heap_Make.C hv 5 0 (some (ad ch)) 1 1 H35 (λdz d3=> ∃co ci:Int,dz=.tuple #[.int .u64 co,.int .i64 ci]/\
 bf co ci d3))
 else
 if y=8 then(
 (CanPuts H9 (ad j) 0 6)/\ ∀dl,dl=hputs H9 (ad j) (DR 1 0 false none 0 0 (ByteArray.mk #[]) none 0 0) 0->
 bf 12 0 dl)
 else
 ∃o:Addr,g=some o/\
 ((0:Int)<=a/\a< (wordsN:Int))/\
 ∃a1:Int,hat H9 (o.add (Int.toNat a*1))=some (.int .u64 a1)/\
 ((0:Int)<=b_5/\b_5< (wordsN:Int))/\
 ∃bt:Int,hat H9 (o.add (Int.toNat b_5*1))=some (.int .u64 bt)/\
 obj_Heap_Cons.C hv a1 bt H9 (λdv dq=> ∃ag ah:Int,dv=.tuple #[.int .u64 ag,.int .i64 ah]/\
 (CanPuts dq (ad j) 0 1)/\ ∀de,de=hputs dq (ad j) [.int .i64 7] 0->
 ∀(ba:Nat) (H40:Array Obj),ba=de.size->H40=de.push (.cells #[.int .i64 a,.int .i64 b_5] 3)->
 (CanPuts H40 ((ad j).add 6) 0 1)/\ ∀dp,dp=hputs H40 ((ad j).add 6) [.slice (some (ad ba)) 2 2] 0->
 bf ag ah dp))/\ ∀(wv:Int) (ev:Int) (H10:Array Obj),bf wv ev H10->
 if ev=0 then(
 ∀(c4:Nat) (H11:Array Obj),c4=H10.size->H11=H10.push (.cells #[.int .u64 wv] 54)->
 appendK 1 54 8 [.int .u64 0] g wordsN wordsC (some (ad c4)) 1 H11 (λap u dj=>
 ∃(a3 c3:Int) (a4:Bool) (ay:Option Addr) (ax az:Nat) (c6:ByteArray) (ck:Option Addr) (b7 cf:Nat) (bm:Option Addr) (bn bl:Nat),RowAt dj (ad j) 0 [.int .i64 a3,.int .i32 c3,.bool a4,.slice ay ax az,.string c6,.slice ck b7 cf,.slice bm bn bl]/\
 ∀(c2:Nat) (H13:Array Obj),c2=dj.size->H13=dj.push (.cells #[.int .i64 a3,.int .i32 c3,.bool a4,.slice ay ax az,.string c6,.slice ck b7 cf,.slice bm bn bl] 70)->
 appendK 7 70 112 [.int .i64 0,.int .i32 0,.bool false,.slice none 0 0,.string (ByteArray.mk #[]),.slice none 0 0,.slice none 0 0] thingsB thingsN thingsC (some (ad c2)) 1 H13 (λai p du=>
 ∃cw:Int,hat du ((ad m).add 2)=some (.int .i64 cw)/\
 morainelaw17_at.C cw ((wordsN+1):Int) du (λd1 b1=> ∃s:Int,d1=.int .i64 s/\
 ∃b6:Int,hat b1 ((ad m).add 2)=some (.int .i64 b6)/\
 if b6>0 then(
 ∃r:Addr,ai=some r/\
 ((0:Int)<=s/\s< ((thingsN+1):Int))/\
 ∃b0:Int,hat b1 (r.add (Int.toNat s*7))=some (.int .i64 b0)/\
 if b0=7 then(
 ∃ac:Addr,ap=some ac/\
 ((0:Int)<=s/\s< ((wordsN+1):Int))/\
 ∃cz:Int,hat b1 (ac.add (Int.toNat s*1))=some (.int .u64 cz)/\
 obj_Heap_SetCdr.C hv cz wv b1 (λd8 cv=> ∃cu:Int,d8=.int .i64 cu/\
 if cu=0 then(
 ((0:Int)<=s/\s< ((thingsN+1):Int))/\
 ∃(cx:Option Addr) (bq cm:Nat),hat cv ((r.add (Int.toNat s*7)).add 6)=some (.slice cx bq cm)/\
 ∃bk:Addr,cx=some bk/\
 ((0:Int)<=0/\0< (bq:Int))/\
 ∃c0:Int,hat cv (bk.add (Int.toNat 0*1))=some (.int .i64 c0)/\
 ∀(bo:Nat) (H17:Array Obj),bo=cv.size->H17=cv.push (.cells #[.int .i64 c0,.int .i64 (IntKind.wrap .i64 (((wordsN+1):Int)-1))] 3)->
 ((0:Int)<=s/\s< ((thingsN+1):Int))/\
 (CanPuts H17 ((r.add (Int.toNat s*7)).add 6) 0 1)/\ ∀dd,dd=hputs H17 ((r.add (Int.toNat s*7)).add 6) [.slice (some (ad bo)) 2 2] 0->
 (ct (some ac) (wordsN+1) u (some r) (thingsN+1) p (IntKind.wrap .i64 (i+1)) dd/\m13 (some ac) (wordsN+1) u (some r) (thingsN+1) p (IntKind.wrap .i64 (i+1)) dd<m13 g wordsN wordsC thingsB thingsN thingsC i H3))
 else
 (ct (some ac) (wordsN+1) u (some r) (thingsN+1) p (IntKind.wrap .i64 (i+1)) cv/\m13 (some ac) (wordsN+1) u (some r) (thingsN+1) p (IntKind.wrap .i64 (i+1)) cv<m13 g wordsN wordsC thingsB thingsN thingsC i H3)))
 else
 (ct ap (wordsN+1) u (some r) (thingsN+1) p (IntKind.wrap .i64 (i+1)) b1/\m13 ap (wordsN+1) u (some r) (thingsN+1) p (IntKind.wrap .i64 (i+1)) b1<m13 g wordsN wordsC thingsB thingsN thingsC i H3))
 else
 (ct ap (wordsN+1) u ai (thingsN+1) p (IntKind.wrap .i64 (i+1)) b1/\m13 ap (wordsN+1) u ai (thingsN+1) p (IntKind.wrap .i64 (i+1)) b1<m13 g wordsN wordsC thingsB thingsN thingsC i H3)))))
 else
 R (.tuple #[.slice none 0 0,.slice none 0 0,.bool false]) H10))
 else
 R (.tuple #[.slice g wordsN wordsC,.slice thingsB thingsN thingsC,.bool true]) H3
namespace morainelaw17_drawn
theorem link{hv ab:Option Addr}{e f:Nat}{H:Array Obj}{R:Value->Array Obj->Prop}(h:pt hv ab e f H R):C hv ab e f H R:=by
 refine T_en K0 236 Tryz.func6 ?_
 intro w0 Q hQ
 unfold pt at h
 refine T_su [(0,vp hv),(1,vs ab e f)]<| T_srz 0<| T_ed 3 [] []<| T_srz 1<| T_nw (some 20) (λb=>vs (pa b) 1 1) (.cells #[vu 20] 54) ?_
 intro b H1 e1 e2
 replace h:=h b H1 e1 e2
 refine T_pd [] [(20,vs (pa b) 1 1)]<| T_ed 1 [20] [(7,vs (pa b) 1 1)]<| T_srz 2<| T_nd 1 [] [(21,.agg #[vi 0,.int .i32 0,.bool false,vs none 0 0,.string (ByteArray.mk #[]),vs none 0 0,vs none 0 0])]<| T_nw (some 22) (λb=>vs (pa b) 1 1) (.cells #[vi 0,.int .i32 0,.bool false,vs none 0 0,.string (ByteArray.mk #[]),vs none 0 0,vs none 0 0] 70) ?_
 intro cs H2 e3 e4
 replace h:=h cs H2 e3 e4
 refine T_pd [21] [(22,vs (pa cs) 1 1)]<| T_ed 1 [22] [(8,vs (pa cs) 1 1)]<| T_sz<| T_srz 3<| T_ed 1 [] [(9,vi 0)]<| T_bz 0 ?_
 obtain⟨ct,m13,i5,i6⟩:=h
 refine S_loop (x:=K12) (σ:=(Option Addr)×Nat×Nat×(Option Addr)×Nat×Nat×Int) (λs_=> [(0,vp hv),(1,vs ab e f),(7,vs s_.1 s_.2.1 s_.2.2.1),(8,vs s_.2.2.2.1 s_.2.2.2.2.1 s_.2.2.2.2.2.1),(9,vi s_.2.2.2.2.2.2)]) (λs_ H=>ct s_.1 s_.2.1 s_.2.2.1 s_.2.2.2.1 s_.2.2.2.2.1 s_.2.2.2.2.2.1 s_.2.2.2.2.2.2 H) (λs_ H=>m13 s_.1 s_.2.1 s_.2.2.1 s_.2.2.2.1 s_.2.2.2.2.1 s_.2.2.2.2.2.1 s_.2.2.2.2.2.2 H) (((pa b),1,1,(pa cs),1,1,0):(Option Addr)×Nat×Nat×(Option Addr)×Nat×Nat×Int) (by kernel_rfl) i5 sk ?_
 rintro⟨g,wordsN,wordsC,thingsB,thingsN,thingsC,i⟩ H3 i7
 have h:=i6 g wordsN wordsC thingsB thingsN thingsC i H3 i7
 refine T_su [(0,vp hv),(1,vs ab e f),(7,vs g wordsN wordsC),(8,vs thingsB thingsN thingsC),(9,vi i)]<| T_sz<| T_srz 4<| T_ed 4 [] [(26,.bool (decide (i< (e:Int))))] ?_
 by_cases c8:i< (e:Int)
 ·rw[if_pos c8]at h
  refine T_cTz 26 (decide_eq_true c8)<| T_kt<| T_sz<| T_bz 1<| T_srz 6<| T_nd 2 [26] [(29,vs ab e f),(30,vi i)] ?_
  obtain⟨d,rfl,h⟩:=h
  obtain⟨q10,h⟩:=h
  refine T_xd (some 31) 22 72 4 d e f .i64 i Tryz.underlying22 q10.1 q10.2 [1,29,30] [(1,vs (some d) e f),(31,vp (some (d.add (Int.toNat i*4))))] ?_
  obtain⟨aw,xN,a8,b4,b3,b2,q11,h⟩:=h
  refine T_lr 32 72 q11 [31]<| T_nw (some 10) (λb=>vp (pa b)) (.cells #[vi 0,vi 0,vi 0,vs none 0 0] 72) ?_
  intro m H4 e12 e13
  replace h:=h m H4 e12 e13
  refine T_pd [] [(10,vp (pa m))] ?_
  obtain⟨q15,h⟩:=h
  refine T_sta 72 [vi aw,vi xN,vi a8,vs b4 b3 b2] q15 ?_
  intro H5 e14
  replace h:=h H5 e14
  refine T_pd [32] []<| T_e<| T_srz 7<| T_nd 2 [] [(34,.agg #[vi (-1),.int .i32 0,.bool false,vs none 0 0,.string (ByteArray.mk #[]),vs none 0 0,vs none 0 0])]<| T_nw (some 11) (λb=>vp (pa b)) (.cells #[vi 0,.int .i32 0,.bool false,vs none 0 0,.string (ByteArray.mk #[]),vs none 0 0,vs none 0 0] 70) ?_
  intro j H6 e16 e17
  replace h:=h j H6 e16 e17
  refine T_pd [] [(11,vp (pa j))] ?_
  obtain⟨q19,h⟩:=h
  refine T_sta 70 [vi (-1),.int .i32 0,.bool false,vs none 0 0,.string (ByteArray.mk #[]),vs none 0 0,vs none 0 0] q19 ?_
  intro H7 e18
  replace h:=h H7 e18
  refine T_pd [34] []<| T_e<| T_srz 8<| T_ed 2 [] [(12,vi 0),(13,vi 0)]<| T_sz<| T_srz 9<| T_nd 1 [] [(35,vp (some ((ad m).add 3)))] ?_
  obtain⟨xB,bb,xC,q20,h⟩:=h
  refine T_l1 36 68 q20 [35]<| T_ne 2 [(0,vp hv),(1,vs (some d) e f),(7,vs g wordsN wordsC),(8,vs thingsB thingsN thingsC),(9,vi i),(10,vp (pa m)),(11,vp (pa j)),(12,vi 0),(13,vi 0),(38,.bool (decide ((bb:Int)>0)))] ?_
  obtain⟨J,h,j22⟩:=h
  refine S_join (σ:=Int×Int) (λs_=> [(0,vp hv),(1,vs (some d) e f),(7,vs g wordsN wordsC),(8,vs thingsB thingsN thingsC),(9,vi i),(10,vp (pa m)),(11,vp (pa j)),(12,vi s_.1),(13,vi s_.2)]) (λs_ H=>J s_.1 s_.2 H) ?_ ?_
  ·rintro⟨a,b_5⟩ H8 j23
   replace h:=j22 a b_5 H8 j23
   refine T_su [(0,vp hv),(1,vs (some d) e f),(7,vs g wordsN wordsC),(8,vs thingsB thingsN thingsC),(9,vi i),(10,vp (pa m)),(11,vp (pa j)),(12,vi a),(13,vi b_5)] ?_
   refine S_then ?_
   refine T_srz 12<| T_ed 2 [] [(14,vu 12),(15,vi 0)]<| T_sz<| T_srz 13<| T_nd 1 [] [(57,vp (pa m))] ?_
   obtain⟨x,q24,h⟩:=h
   refine T_l1 58 3 q24 [57] ?_
   refine T_c (some 59) h ?_;clear h
   rintro v H9 ⟨y,rfl,h⟩
   refine T_pd [58] [(59,vi y)]<| T_e<| T_bz 2<| T_srz 17<| T_ne 2 [(0,vp hv),(1,vs (some d) e f),(7,vs g wordsN wordsC),(8,vs thingsB thingsN thingsC),(9,vi i),(10,vp (pa m)),(11,vp (pa j)),(12,vi a),(13,vi b_5),(14,vu 12),(15,vi 0),(59,vi y),(79,.bool (y==0))] ?_
   obtain⟨bf,h,j26⟩:=h
   refine S_join (σ:=Int×Int) (λs_=> [(0,vp hv),(1,vs (some d) e f),(7,vs g wordsN wordsC),(8,vs thingsB thingsN thingsC),(9,vi i),(10,vp (pa m)),(11,vp (pa j)),(14,vu s_.1),(15,vi s_.2)]) (λs_ H=>bf s_.1 s_.2 H) ?_ ?_
   ·rintro⟨wv,ev⟩ H10 j27
    replace h:=j26 wv ev H10 j27
    refine T_su [(0,vp hv),(1,vs (some d) e f),(7,vs g wordsN wordsC),(8,vs thingsB thingsN thingsC),(9,vi i),(10,vp (pa m)),(11,vp (pa j)),(14,vu wv),(15,vi ev)] ?_
    refine S_blockEnd ?_
    refine S_then ?_
    refine T_sz<| T_srz 41<| T_ed 2 [15] [(183,.bool (ev !=0))] ?_
    by_cases c28:ev=0
    ·rw[if_pos c28]at h
     refine T_cFz 183 (bne_eq_false_iff_eq.mpr c28)<| T_kt<| T_srz 43<| T_nd 2 [7,183] [(184,vs g wordsN wordsC),(185,vu wv)]<| T_nw (some 186) (λb=>vs (pa b) 1 1) (.cells #[vu wv] 54) ?_
     intro c4 H11 e30 e31
     replace h:=h c4 H11 e30 e31
     refine T_pd [185] [(186,vs (pa c4) 1 1)] ?_
     refine N_op (some 187) (appendN #[28,28] 28 #[vs g wordsN wordsC,vs (pa c4) 1 1]) _ (λ_=>by kernel_rfl) (ss_append (T:=54) (sz:=1) (bytes:=8) (zero:=(vu 0:Value)) Tryz.underlying28 Tryz.underlying28 rfl (show Tryz.prog.info? 54=some Tryz.t54 from by kernel_rfl) (by kernel_rfl) (by kernel_rfl) (by decide) (by kernel_rfl) (by first | exact h | (simpa only[Value.cells,List.toList_toArray]using h))) ?_;clear h
     rintro _ dj ⟨ap,u,rfl,h⟩
     refine T_pd [184,186] [(187,vs ap (wordsN+1) u)]<| T_ed 1 [187] [(7,vs ap (wordsN+1) u)]<| T_srz 44<| T_nd 1 [8] [(188,vs thingsB thingsN thingsC)] ?_
     obtain⟨a3,c3,a4,ay,ax,az,c6,ck,b7,cf,bm,bn,bl,q32,h⟩:=h
     refine T_lr 189 70 q32 [11]<| T_nw (some 190) (λb=>vs (pa b) 1 1) (.cells #[vi a3,.int .i32 c3,.bool a4,vs ay ax az,.string c6,vs ck b7 cf,vs bm bn bl] 70) ?_
     intro c2 H13 e33 e34
     replace h:=h c2 H13 e33 e34
     refine T_pd [189] [(190,vs (pa c2) 1 1)] ?_
     refine N_op (some 191) (appendN #[29,29] 29 #[vs thingsB thingsN thingsC,vs (pa c2) 1 1]) _ (λ_=>by kernel_rfl) (ss_append (T:=70) (sz:=7) (bytes:=112) (zero:=(.agg #[vi 0,.int .i32 0,.bool false,vs none 0 0,.string (ByteArray.mk #[]),vs none 0 0,vs none 0 0]:Value)) Tryz.underlying29 Tryz.underlying29 rfl (show Tryz.prog.info? 70=some Tryz.t70 from by kernel_rfl) (by kernel_rfl) (by kernel_rfl) (by decide) (by kernel_rfl) (by first | exact h | (simpa only[Value.cells,List.toList_toArray]using h))) ?_;clear h
     rintro _ du ⟨ai,p,rfl,h⟩
     refine T_pd [188,190] [(191,vs ai (thingsN+1) p)]<| T_ed 1 [191] [(8,vs ai (thingsN+1) p)]<| T_srz 45<| T_nd 1 [] [(192,vp (some ((ad m).add 2)))] ?_
     obtain⟨cw,q35,h⟩:=h
     refine T_l1 193 3 q35 [192]<| T_nd 2 [] [(195,vi ((wordsN+1):Int))] ?_
     refine T_c (some 196) h ?_;clear h
     rintro d1 b1 ⟨s,rfl,h⟩
     refine T_pd [193,195] [(196,vi s)]<| T_ed 1 [196] [(19,vi s)]<| T_srz 46<| T_nd 1 [10] [(197,vp (some ((ad m).add 2)))] ?_
     obtain⟨b6,q36,h⟩:=h
     refine T_l1 198 3 q36 [197]<| T_nd 2 [198] [(200,.bool (decide (b6>0)))] ?_
     by_cases c37:b6>0
     ·rw[if_pos c37]at h
      refine N_bd 200 (decide_eq_true c37)<| T_nd 2 [] [(201,vs ai (thingsN+1) p),(202,vi s)] ?_
      obtain⟨r,rfl,h⟩:=h
      obtain⟨q39,h⟩:=h
      refine T_vd (some 203) (indexAtN 29 (vs (some r) (thingsN+1) p) (vi s)) (vp (some (r.add (Int.toNat s*7)))) (λw _=>indexAt_run (P:=Tryz.prog) (t:=29) (elem:=70) (sz:=7) (a:=r) (len:=(thingsN+1)) (cap:=p) (k:=.i64) (i:=s) Tryz.underlying29 (λ_=>by kernel_rfl) q39.1 q39.2 w) [8,201,202] [(8,vs (some r) (thingsN+1) p),(203,vp (some (r.add (Int.toNat s*7))))]<| T_nd 2 [203] [(205,vp (some (r.add (Int.toNat s*7))))] ?_
      obtain⟨b0,q40,h⟩:=h
      refine T_l1 206 3 q40 [205]<| T_nd 3 [200,206] [(209,.bool (b0==7))] ?_
      by_cases c41:b0=7
      ·rw[if_pos c41]at h
       refine N_bd 209 (beq_iff_eq.mpr c41)<| T_nd 3 [] [(210,vp hv),(211,vs ap (wordsN+1) u),(212,vi s)] ?_
       obtain⟨ac,rfl,h⟩:=h
       obtain⟨q43,h⟩:=h
       refine T_vd (some 213) (indexAtN 28 (vs (some ac) (wordsN+1) u) (vi s)) (vp (some (ac.add (Int.toNat s*1)))) (λw _=>indexAt_run (P:=Tryz.prog) (t:=28) (elem:=54) (sz:=1) (a:=ac) (len:=(wordsN+1)) (cap:=u) (k:=.i64) (i:=s) Tryz.underlying28 (λ_=>by kernel_rfl) q43.1 q43.2 w) [7,211,212] [(7,vs (some ac) (wordsN+1) u),(213,vp (some (ac.add (Int.toNat s*1))))] ?_
       obtain⟨cz,q44,h⟩:=h
       refine T_l1 214 54 q44 [213]<| T_nd 1 [14] [(215,vu wv)] ?_
       refine T_c (some 216) h ?_;clear h
       rintro d8 cv ⟨cu,rfl,h⟩
       refine T_pd [210,214,215] [(216,vi cu)]<| T_ed 2 [209,216] [(218,.bool (cu==0))] ?_
       by_cases c45:cu=0
       ·rw[if_pos c45]at h
        refine T_cTz 218 (beq_iff_eq.mpr c45)<| T_rz 47<| T_nd 4 [19,218] [(219,vs (some r) (thingsN+1) p),(220,vi s),(221,vs (some r) (thingsN+1) p),(222,vi s)] ?_
        obtain⟨q47,h⟩:=h
        refine T_v1 223 (indexAtN 29 (vs (some r) (thingsN+1) p) (vi s)) (vp (some (r.add (Int.toNat s*7)))) (λw _=>indexAt_run (P:=Tryz.prog) (t:=29) (elem:=70) (sz:=7) (a:=r) (len:=(thingsN+1)) (cap:=p) (k:=.i64) (i:=s) Tryz.underlying29 (λ_=>by kernel_rfl) q47.1 q47.2 w) [221,222]<| T_nd 1 [223] [(224,vp (some ((r.add (Int.toNat s*7)).add 6)))] ?_
        obtain⟨cx,bq,cm,q48,h⟩:=h
        refine T_l1 225 68 q48 [224] ?_
        obtain⟨bk,rfl,h⟩:=h
        obtain⟨q49,h⟩:=h
        refine T_xd (some 226) 68 3 1 bk bq cm .i64 0 Tryz.underlying68 q49.1 q49.2 [225] [(226,vp (some (bk.add (Int.toNat 0*1))))] ?_
        obtain⟨c0,q50,h⟩:=h
        refine T_l1 227 3 q50 [226]<| T_nd 3 [] [(230,vi (IntKind.wrap .i64 (((wordsN+1):Int)-1)))]<| T_nw (some 231) (λb=>vs (pa b) 2 2) (.cells #[vi c0,vi (IntKind.wrap .i64 (((wordsN+1):Int)-1))] 3) ?_
        intro bo H17 e51 e52
        replace h:=h bo H17 e51 e52
        refine T_pd [227,230] [(231,vs (pa bo) 2 2)] ?_
        obtain⟨q53,h⟩:=h
        refine T_v1 232 (indexAtN 29 (vs (some r) (thingsN+1) p) (vi s)) (vp (some (r.add (Int.toNat s*7)))) (λw _=>indexAt_run (P:=Tryz.prog) (t:=29) (elem:=70) (sz:=7) (a:=r) (len:=(thingsN+1)) (cap:=p) (k:=.i64) (i:=s) Tryz.underlying29 (λ_=>by kernel_rfl) q53.1 q53.2 w) [219,220]<| T_nd 1 [232] [(233,vp (some ((r.add (Int.toNat s*7)).add 6)))] ?_
        obtain⟨q55,h⟩:=h
        refine T_st1 68 (vs (pa bo) 2 2) q55 ?_
        intro dd e54
        replace h:=h dd e54
        refine T_pd [231,233] [] ?_
        refine N_end (by kernel_rfl) ?_
        refine S_blockEnd ?_
        refine S_then ?_
        refine T_rz 5<| T_ed 3 [9] [(9,vi (IntKind.wrap .i64 (i+1)))] ?_
        exact S_round (((some ac),(wordsN+1),u,(some r),(thingsN+1),p,(IntKind.wrap .i64 (i+1))):(Option Addr)×Nat×Nat×(Option Addr)×Nat×Nat×Int) sk h
       rw[if_neg c45]at h
       refine T_cFz 218 (beq_eq_false_iff_ne.mpr c45)<| T_k ?_
       refine S_blockEnd ?_
       refine S_then ?_
       refine T_rz 5<| T_ed 3 [9,19,218] [(9,vi (IntKind.wrap .i64 (i+1)))] ?_
       exact S_round (((some ac),(wordsN+1),u,(some r),(thingsN+1),p,(IntKind.wrap .i64 (i+1))):(Option Addr)×Nat×Nat×(Option Addr)×Nat×Nat×Int) sk h
      rw[if_neg c41]at h
      refine N_bd 209 (beq_eq_false_iff_ne.mpr c41)<| T_ed 9 [14,209] [(218,.bool false)]<| T_fz 218<| T_k ?_
      refine S_blockEnd ?_
      refine S_then ?_
      refine T_rz 5<| T_ed 3 [9,19,218] [(9,vi (IntKind.wrap .i64 (i+1)))] ?_
      exact S_round ((ap,(wordsN+1),u,(some r),(thingsN+1),p,(IntKind.wrap .i64 (i+1))):(Option Addr)×Nat×Nat×(Option Addr)×Nat×Nat×Int) sk h
     rw[if_neg c37]at h
     refine N_bd 200 (decide_eq_false c37)<| T_ed 18 [14,200] [(218,.bool false)]<| T_fz 218<| T_k ?_
     refine S_blockEnd ?_
     refine S_then ?_
     refine T_rz 5<| T_ed 3 [9,19,218] [(9,vi (IntKind.wrap .i64 (i+1)))] ?_
     exact S_round ((ap,(wordsN+1),u,ai,(thingsN+1),p,(IntKind.wrap .i64 (i+1))):(Option Addr)×Nat×Nat×(Option Addr)×Nat×Nat×Int) sk h
    rw[if_neg c28]at h
    exact T_cTz 183 (bne_iff_ne.mpr c28)<| T_srz 42<| T_nr 3 [4,5,6] [vs none 0 0,vs none 0 0,.bool false] hQ h
   by_cases c56:y=0
   ·rw[if_pos c56]at h
    have b57:(y==0)=true:=beq_iff_eq.mpr c56
    refine S_env [(0,vp hv),(1,vs (some d) e f),(7,vs g wordsN wordsC),(8,vs thingsB thingsN thingsC),(9,vi i),(10,vp (pa m)),(11,vp (pa j)),(12,vi a),(13,vi b_5),(14,vu 12),(15,vi 0),(59,vi y),(79,.bool true)] (by simp only[b57,Bool.not_true,Bool.not_false]) ?_
    clear b57
    refine T_tz 79<| T_srz 18<| T_nd 1 [12,13,14,59,79] [(81,vp (some ((ad m).add 1)))] ?_
    obtain⟨cq,q58,h⟩:=h
    refine T_l1 82 3 q58 [81] ?_
    refine T_c (some 83) h ?_;clear h
    rintro ea dh ⟨z,rfl,h⟩
    refine T_pd [82] [(83,vi z)]<| T_ed 1 [83] [(16,vi z)]<| T_srz 19<| T_ed 4 [] [(14,vu (IntKind.wrap .u64 (IntKind.wrap .i64 (8*z))))]<| T_srz 20<| T_nd 2 [] [(87,.agg (DR 4 0 false none 0 0 (ByteArray.mk #[]) none 0 0).toArray),(88,vp (pa j))] ?_
    obtain⟨q60,h⟩:=h
    refine T_sta 51 (DR 4 0 false none 0 0 (ByteArray.mk #[]) none 0 0) q60 ?_
    intro c5 e59
    replace h:=h c5 e59
    refine T_pd [87,88] []<| T_e<| T_srz 21<| T_ed 2 [] [(90,.bool (decide (z>0)))] ?_
    by_cases c61:z>0
    ·rw[if_pos c61]at h
     refine T_cTz 90 (decide_eq_true c61)<| T_rz 22<| T_nd 2 [16,90] [(92,.int .u32 (IntKind.wrap .u32 z))]<| T_nw (some 93) (λb=>vs (pa b) 1 1) (.cells #[.int .u32 (IntKind.wrap .u32 z)] 74) ?_
     intro b5 H21 e63 e64
     replace h:=h b5 H21 e63 e64
     refine T_pd [92] [(93,vs (pa b5) 1 1)]<| T_nd 3 [93] [(94,.agg #[.bool false,vs (pa b5) 1 1]),(96,vp (some ((ad j).add 2)))] ?_
     obtain⟨q66,h⟩:=h
     refine T_sta 48 [.bool false,vs (pa b5) 1 1] q66 ?_
     intro dm e65
     replace h:=h dm e65
     refine T_pd [94,96] []<| T_e ?_
     exact S_meet (((IntKind.wrap .u64 (IntKind.wrap .i64 (8*z))),0):Int×Int) sk h
    rw[if_neg c61]at h
    refine T_cFz 90 (decide_eq_false c61)<| T_kt ?_
    exact S_meet (((IntKind.wrap .u64 (IntKind.wrap .i64 (8*z))),0):Int×Int) sk h
   rw[if_neg c56]at h
   have b57:(y==0)=false:=beq_eq_false_iff_ne.mpr c56
   refine S_env [(0,vp hv),(1,vs (some d) e f),(7,vs g wordsN wordsC),(8,vs thingsB thingsN thingsC),(9,vi i),(10,vp (pa m)),(11,vp (pa j)),(12,vi a),(13,vi b_5),(14,vu 12),(15,vi 0),(59,vi y),(79,.bool false)] (by simp only[b57,Bool.not_true,Bool.not_false]) ?_
   clear b57
   refine T_fz 79<| T_srz 23<| T_ed 2 [79] [(97,.bool (y==1))] ?_
   by_cases c67:y=1
   ·rw[if_pos c67]at h
    refine T_cTz 97 (beq_iff_eq.mpr c67)<| T_srz 24<| T_nd 1 [12,13,14,15,59,97] [(100,vp hv)] ?_
    refine T_c (some 101) h ?_;clear h
    rintro d6 dt ⟨ra,rb,rfl,h⟩
    refine T_pd [100] [(101,.tuple #[vu ra,vi rb])]<| T_ed 5 [101] [(14,vu ra),(15,vi rb)]<| T_rz 25<| T_nd 2 [] [(104,.agg (DR 5 0 false none 0 0 (ByteArray.mk #[97,98]) none 0 0).toArray),(105,vp (pa j))] ?_
    obtain⟨q70,h⟩:=h
    refine T_sta 51 (DR 5 0 false none 0 0 (ByteArray.mk #[97,98]) none 0 0) q70 ?_
    intro dn e69
    replace h:=h dn e69
    refine T_pd [104,105] []<| T_e ?_
    exact S_meet ((ra,rb):Int×Int) sk h
   rw[if_neg c67]at h
   refine T_cFz 97 (beq_eq_false_iff_ne.mpr c67)<| T_srz 26<| T_ed 2 [97] [(106,.bool (y==2))] ?_
   by_cases c71:y=2
   ·rw[if_pos c71]at h
    refine T_cTz 106 (beq_iff_eq.mpr c71)<| T_srz 27<| T_ed 1 [12,13,14,15,59,106] [(17,vs none 0 0)]<| T_srz 28<| T_nd 2 [] [(109,vp (pa j))] ?_
    obtain⟨q74,h⟩:=h
    refine T_st1 3 (vi 8) q74 ?_
    intro dk e73
    replace h:=h dk e73
    refine T_pd [109] []<| T_e<| T_sz<| T_srz 29<| T_ed 1 [] [(18,vi 0)]<| T_bz 3 ?_
    obtain⟨df,m93,i75,i76⟩:=h
    refine S_loop (x:=K92) (σ:=(Option Addr)×Nat×Nat×Int) (λs_=> [(0,vp hv),(1,vs (some d) e f),(7,vs g wordsN wordsC),(8,vs thingsB thingsN thingsC),(9,vi i),(10,vp (pa m)),(11,vp (pa j)),(17,vs s_.1 s_.2.1 s_.2.2.1),(18,vi s_.2.2.2)]) (λs_ H=>df s_.1 s_.2.1 s_.2.2.1 s_.2.2.2 H) (λs_ H=>m93 s_.1 s_.2.1 s_.2.2.1 s_.2.2.2 H) ((none,0,0,0):(Option Addr)×Nat×Nat×Int) (by kernel_rfl) i75 sk ?_
    rintro⟨lB,lN,lC,k⟩ H26 i77
    have h:=i76 lB lN lC k H26 i77
    refine T_su [(0,vp hv),(1,vs (some d) e f),(7,vs g wordsN wordsC),(8,vs thingsB thingsN thingsC),(9,vi i),(10,vp (pa m)),(11,vp (pa j)),(17,vs lB lN lC),(18,vi k)]<| T_sz<| T_srz 30<| T_nd 2 [] [(110,vi k),(111,vp (some ((ad m).add 3)))] ?_
    obtain⟨db,ao,c9,q78,h⟩:=h
    refine T_l1 112 68 q78 [111]<| T_nd 3 [110,112] [(115,.bool (decide (k< (ao:Int))))] ?_
    refine N_cut [(0,vp hv),(1,vs (some d) e f),(7,vs g wordsN wordsC),(8,vs thingsB thingsN thingsC),(9,vi i),(10,vp (pa m)),(11,vp (pa j)),(17,vs lB lN lC),(18,vi k),(118,.bool ((decide (k< (ao:Int))) && (decide (k<5))))] ?_ ?_
    ·refine S_then ?_
     by_cases c81:((decide (k< (ao:Int))) && (decide (k<5)))=true
     ·rw[if_pos c81]at h
      refine T_cTz 118 c81<| T_kt<| T_sz<| T_bz 4<| T_sz ?_
      obtain⟨al,af,ak,q83,h⟩:=h
      obtain⟨dg,bc,be,q84,h⟩:=h
      obtain⟨au,rfl,h⟩:=h
      obtain⟨q85,h⟩:=h
      obtain⟨a9,q86,h⟩:=h
      refine S_regionG 32 (Code.ops K102) [(11,((ad j).add 6),[vs al af ak]),(9,((ad m).add 3),[vs (some au) bc be]),(9,(au.add (Int.toNat k*1)),[vi a9])] 14 (bv 14 0) (by kernel_rfl) (by kernel_rfl) (by kernel_rfl) (by kernel_rfl) (by kernel_rfl) (show FactsAt _ _ _ from⟨⟨q83,trivial⟩,⟨q84,trivial⟩,⟨q86,trivial⟩,trivial⟩) ?_
      refine T_gp 0 (some 121) (vp (some ((ad j).add 6))) (bv 14 1) [(0,vp hv),(1,vs (some d) e f),(7,vs g wordsN wordsC),(8,vs thingsB thingsN thingsC),(9,vi i),(10,vp (pa m)),(11,vp (pa j)),(17,vs lB lN lC),(18,vi k),(121,vp (some ((ad j).add 6)))]<| T_g1 1 122 (vs al af ak) (bv 14 3) [121] (loadN 68 (vp (some ((ad j).add 6)))) (held_one 11 (λ_=>by kernel_rfl) (List.Mem.head _) (.inl (by kernel_rfl)))<| T_gp1 2 123 (vp (some ((ad m).add 3))) (bv 14 7) []<| T_g1 3 124 (vs (some au) bc be) (bv 14 15) [123] (loadN 68 (vp (some ((ad m).add 3)))) (held_one 9 (λ_=>by kernel_rfl) (List.Mem.tail _ (List.Mem.head _)) (.inl (by kernel_rfl)))<| T_gp1 4 125 (vi k) (bv 14 31) []<| T_g1 5 126 (vp (some (au.add (Int.toNat k*1)))) (bv 14 63) [124,125] (indexAtN 68 (vs (some au) bc be) (vi k)) (λ_ w _ _ _=>indexAt_run (P:=Tryz.prog) (t:=68) (elem:=3) (sz:=1) (a:=au) (len:=bc) (cap:=be) (k:=.i64) (i:=k) Tryz.underlying68 (λ_=>by kernel_rfl) q85.1 q85.2 w)<| T_g1 6 127 (vi a9) (bv 14 127) [126] (loadN 3 (vp (some (au.add (Int.toNat k*1))))) (held_one 9 (λ_=>by kernel_rfl) (List.Mem.tail _ (List.Mem.tail _ (List.Mem.head _))) (.inl (by kernel_rfl)))<| T_gp1 7 128 (vs g wordsN wordsC) (bv 14 255) []<| T_gp1 8 129 (vi wordsN) (bv 14 511) [128] ?_
      refine G_call 9 (some 130) (bv 14 1023) 16 #[vi a9,vi wordsN] (by kernel_rfl) (λ_=>by kernel_rfl) h (by kernel_rfl) ?_;clear h
      rintro d0 dr ⟨cy,rfl,h⟩
      obtain⟨f87,h⟩:=h
      refine⟨[(0,vp hv),(1,vs (some d) e f),(7,vs g wordsN wordsC),(8,vs thingsB thingsN thingsC),(9,vi i),(10,vp (pa m)),(11,vp (pa j)),(17,vs lB lN lC),(18,vi k),(122,vs al af ak),(130,vi cy)],pk,(show FactsAt _ _ _ from⟨f87,trivial,trivial,trivial⟩),?_⟩
      refine G_new 10 (some 131) (bv 14 2047) (λb=>vs (pa b) 1 1) (.cells #[vi cy] 3) (by kernel_rfl) (λ_=>by kernel_rfl) (by kernel_rfl) ?_
      intro b8 H28 e89 e90
      replace h:=h b8 H28 e89 e90
      obtain⟨f88,h⟩:=h
      refine⟨[(0,vp hv),(1,vs (some d) e f),(7,vs g wordsN wordsC),(8,vs thingsB thingsN thingsC),(9,vi i),(10,vp (pa m)),(11,vp (pa j)),(17,vs lB lN lC),(18,vi k),(122,vs al af ak),(131,vs (pa b8) 1 1)],pk,(show FactsAt _ _ _ from⟨f88,trivial,trivial,trivial⟩),?_⟩
      refine G_only 11 (some 132) (bv 14 4095) (appendN #[68,68] 68 #[vs al af ak,vs (pa b8) 1 1]) _ (by kernel_rfl) (λ_=>by kernel_rfl) (ss_append (T:=3) (sz:=1) (bytes:=8) (zero:=(vi 0:Value)) Tryz.underlying68 Tryz.underlying68 rfl (show Tryz.prog.info? 3=some Tryz.t3 from by kernel_rfl) (by kernel_rfl) (by kernel_rfl) (by decide) (by kernel_rfl) (by first | exact h | (simpa only[Value.cells,List.toList_toArray]using h))) (by kernel_rfl) ?_;clear h
      rintro _ di ⟨bz,a5,rfl,h⟩
      refine⟨[(0,vp hv),(1,vs (some d) e f),(7,vs g wordsN wordsC),(8,vs thingsB thingsN thingsC),(9,vi i),(10,vp (pa m)),(11,vp (pa j)),(17,vs lB lN lC),(18,vi k),(132,vs bz (af+1) a5)],pk,(show FactsAt _ _ _ from⟨trivial,trivial,trivial,trivial⟩),?_⟩
      refine T_g 12 (some 133) (vp (some ((ad j).add 6))) (bv 14 8191) [(0,vp hv),(1,vs (some d) e f),(7,vs g wordsN wordsC),(8,vs thingsB thingsN thingsC),(9,vi i),(10,vp (pa m)),(11,vp (pa j)),(17,vs lB lN lC),(18,vi k),(132,vs bz (af+1) a5),(133,vp (some ((ad j).add 6)))] (pure (.value (vp (some ((ad j).add 6)))):Sem Next) (λ_ _ _ _ _=>rfl) ?_
      obtain⟨q92,h⟩:=h
      refine G_onlyskip 13 none (bv 14 16383) (storeN 68 (vp (some ((ad j).add 6))) (vs bz (af+1) a5)) (λHz=>Hz=hputs di ((ad j).add 6) [vs bz (af+1) a5] 0) (by kernel_rfl) (λ_=>by kernel_rfl) (ss_store [vs bz (af+1) a5] 1 (by kernel_rfl) (by kernel_rfl) (λ_=>by kernel_rfl) (by kernel_rfl) q92) (by kernel_rfl) ?_
      intro cr e91
      replace h:=h cr e91
      refine⟨[(0,vp hv),(1,vs (some d) e f),(7,vs g wordsN wordsC),(8,vs thingsB thingsN thingsC),(9,vi i),(10,vp (pa m)),(11,vp (pa j)),(17,vs lB lN lC),(18,vi k)],pk,(show FactsAt _ _ _ from⟨trivial,trivial,trivial,trivial⟩),?_⟩
      refine G_sub [(0,vp hv),(1,vs (some d) e f),(7,vs g wordsN wordsC),(8,vs thingsB thingsN thingsC),(9,vi i),(10,vp (pa m)),(11,vp (pa j)),(17,vs lB lN lC),(18,vi k)] sk ?_
      refine G_end (by kernel_rfl) ?_
      refine S_then ?_
      refine T_rz 33<| T_n 3 [(0,vp hv),(1,vs (some d) e f),(7,vs g wordsN wordsC),(8,vs thingsB thingsN thingsC),(9,vi i),(10,vp (pa m)),(11,vp (pa j)),(18,vi k),(134,vs lB lN lC),(135,vs g wordsN wordsC),(136,vp (some ((ad j).add 6)))] ?_
      obtain⟨cn,bi,bp,q93,h⟩:=h
      refine T_l1 137 68 q93 [136]<| T_nd 1 [] [(138,vi k)] ?_
      obtain⟨bd,rfl,h⟩:=h
      obtain⟨q94,h⟩:=h
      refine T_xd (some 139) 68 3 1 bd bi bp .i64 k Tryz.underlying68 q94.1 q94.2 [137,138] [(139,vp (some (bd.add (Int.toNat k*1))))] ?_
      obtain⟨av,q95,h⟩:=h
      refine T_l1 140 3 q95 [139] ?_
      obtain⟨ae,rfl,h⟩:=h
      obtain⟨q96,h⟩:=h
      refine T_xd (some 141) 28 54 1 ae wordsN wordsC .i64 av Tryz.underlying28 q96.1 q96.2 [7,135,140] [(7,vs (some ae) wordsN wordsC),(141,vp (some (ae.add (Int.toNat av*1))))] ?_
      obtain⟨cl,q97,h⟩:=h
      refine T_l1 142 54 q97 [141]<| T_nw (some 143) (λb=>vs (pa b) 1 1) (.cells #[vu cl] 54) ?_
      intro ce H31 e98 e99
      replace h:=h ce H31 e98 e99
      refine T_pd [142] [(143,vs (pa ce) 1 1)] ?_
      refine N_op (some 144) (appendN #[28,28] 28 #[vs lB lN lC,vs (pa ce) 1 1]) _ (λ_=>by kernel_rfl) (ss_append (T:=54) (sz:=1) (bytes:=8) (zero:=(vu 0:Value)) Tryz.underlying28 Tryz.underlying28 rfl (show Tryz.prog.info? 54=some Tryz.t54 from by kernel_rfl) (by kernel_rfl) (by kernel_rfl) (by decide) (by kernel_rfl) (by first | exact h | (simpa only[Value.cells,List.toList_toArray]using h))) ?_;clear h
      rintro _ dw ⟨bx,a7,rfl,h⟩
      refine T_pd [134,143] [(144,vs bx (lN+1) a7)]<| T_nd 1 [144] [(17,vs bx (lN+1) a7)] ?_
      refine N_end (by kernel_rfl) ?_
      refine S_blockEnd ?_
      refine S_then ?_
      refine T_rz 31<| T_ed 3 [18] [(18,vi (IntKind.wrap .i64 (k+1)))] ?_
      exact S_round ((bx,(lN+1),a7,(IntKind.wrap .i64 (k+1))):(Option Addr)×Nat×Nat×Int) sk h
     rw[if_neg c81]at h
     refine T_cFz 118 (eq_false_of_ne_true c81) ?_
     refine S_exit 3 (by kernel_rfl) ?_
     refine S_exitThen ?_
     refine S_exitThen ?_
     refine S_exitHere ?_
     refine S_then ?_
     refine T_rz 34<| T_n 2 [(0,vp hv),(1,vs (some d) e f),(7,vs g wordsN wordsC),(8,vs thingsB thingsN thingsC),(9,vi i),(10,vp (pa m)),(11,vp (pa j)),(146,vp hv),(147,vs lB lN lC)] ?_
     refine T_c (some 148) h ?_;clear h
     rintro d4 d5 ⟨cp,cc,rfl,h⟩
     refine T_pd [146,147] [(148,.tuple #[vu cp,vi cc])]<| T_ed 5 [148] [(14,vu cp),(15,vi cc)] ?_
     exact S_meet ((cp,cc):Int×Int) sk h
    intro hk
    refine T_nu [(0,vp hv),(1,vs (some d) e f),(7,vs g wordsN wordsC),(8,vs thingsB thingsN thingsC),(9,vi i),(10,vp (pa m)),(11,vp (pa j)),(17,vs lB lN lC),(18,vi k),(115,.bool (decide (k< (ao:Int))))] ?_
    by_cases c79:k< (ao:Int)
    ·have b80:(decide (k< (ao:Int)))=true:=decide_eq_true c79
     refine N_env [(0,vp hv),(1,vs (some d) e f),(7,vs g wordsN wordsC),(8,vs thingsB thingsN thingsC),(9,vi i),(10,vp (pa m)),(11,vp (pa j)),(17,vs lB lN lC),(18,vi k),(115,.bool true)] (by rw[b80]) ?_
     refine T_nd 3 [115] [(118,.bool (decide (k<5)))] ?_
     refine N_end (by kernel_rfl) ?_
     refine S_bd 118 (b:=(decide (k<5))) (v:=((decide (k< (ao:Int))) && (decide (k<5)))) (by simp only[b80,BL]) ?_
     exact hk
    have b80:(decide (k< (ao:Int)))=false:=decide_eq_false c79
    refine N_env [(0,vp hv),(1,vs (some d) e f),(7,vs g wordsN wordsC),(8,vs thingsB thingsN thingsC),(9,vi i),(10,vp (pa m)),(11,vp (pa j)),(17,vs lB lN lC),(18,vi k),(115,.bool false)] (by rw[b80]) ?_
    refine T_nd 3 [115] [(118,.bool false)] ?_
    refine N_end (by kernel_rfl) ?_
    refine S_bd 118 (b:=false) (v:=((decide (k< (ao:Int))) && (decide (k<5)))) (by simp only[b80,BL]) ?_
    exact hk
   rw[if_neg c71]at h
   refine T_cFz 106 (beq_eq_false_iff_ne.mpr c71)<| T_srz 35<| T_ed 2 [106] [(151,.bool (y==6))] ?_
   by_cases c100:y=6
   ·rw[if_pos c100]at h
    refine T_cTz 151 (beq_iff_eq.mpr c100) ?_
    obtain⟨q,rfl,h⟩:=h
    obtain⟨q102,h⟩:=h
    obtain⟨a0,q103,h⟩:=h
    obtain⟨q104,h⟩:=h
    obtain⟨br,q105,h⟩:=h
    refine S_regionG 36 (Code.ops K106) [(9,(q.add (Int.toNat a*1)),[vu a0]),(9,(q.add (Int.toNat b_5*1)),[vu br])] 15 (bv 15 0) (by kernel_rfl) (by kernel_rfl) (by kernel_rfl) (by kernel_rfl) (by kernel_rfl) (show FactsAt _ _ _ from⟨⟨q103,trivial⟩,⟨q105,trivial⟩,trivial⟩) ?_
    refine T_gp 0 (some 154) (vp hv) (bv 15 1) [(0,vp hv),(1,vs (some d) e f),(7,vs (some q) wordsN wordsC),(8,vs thingsB thingsN thingsC),(9,vi i),(10,vp (pa m)),(11,vp (pa j)),(12,vi a),(13,vi b_5),(14,vu 12),(15,vi 0),(154,vp hv)]<| T_gp1 1 155 (vs (some q) wordsN wordsC) (bv 15 3) []<| T_gp1 2 156 (vi a) (bv 15 7) [12]<| T_g1 3 157 (vp (some (q.add (Int.toNat a*1)))) (bv 15 15) [155,156] (indexAtN 28 (vs (some q) wordsN wordsC) (vi a)) (λ_ w _ _ _=>indexAt_run (P:=Tryz.prog) (t:=28) (elem:=54) (sz:=1) (a:=q) (len:=wordsN) (cap:=wordsC) (k:=.i64) (i:=a) Tryz.underlying28 (λ_=>by kernel_rfl) q102.1 q102.2 w)<| T_g1 4 158 (vu a0) (bv 15 31) [157] (loadN 54 (vp (some (q.add (Int.toNat a*1))))) (held_one 9 (λ_=>by kernel_rfl) (List.Mem.head _) (.inl (by kernel_rfl)))<| T_gp1 5 159 (vs (some q) wordsN wordsC) (bv 15 63) []<| T_gp1 6 160 (vi b_5) (bv 15 127) [13]<| T_g1 7 161 (vp (some (q.add (Int.toNat b_5*1)))) (bv 15 255) [159,160] (indexAtN 28 (vs (some q) wordsN wordsC) (vi b_5)) (λ_ w _ _ _=>indexAt_run (P:=Tryz.prog) (t:=28) (elem:=54) (sz:=1) (a:=q) (len:=wordsN) (cap:=wordsC) (k:=.i64) (i:=b_5) Tryz.underlying28 (λ_=>by kernel_rfl) q104.1 q104.2 w)<| T_g1 8 162 (vu br) (bv 15 511) [161] (loadN 54 (vp (some (q.add (Int.toNat b_5*1))))) (held_one 9 (λ_=>by kernel_rfl) (List.Mem.tail _ (List.Mem.head _)) (.inl (by kernel_rfl))) ?_
    refine G_call 9 (some 163) (bv 15 1023) 19 #[vp hv,vu a0,vu br] (by kernel_rfl) (λ_=>by kernel_rfl) h (by kernel_rfl) ?_;clear h
    rintro d9 d2 ⟨aj,am,rfl,h⟩
    refine⟨[(0,vp hv),(1,vs (some d) e f),(7,vs (some q) wordsN wordsC),(8,vs thingsB thingsN thingsC),(9,vi i),(10,vp (pa m)),(11,vp (pa j)),(14,vu 12),(15,vi 0),(163,.tuple #[vu aj,vi am])],pk,(show FactsAt _ _ _ from⟨trivial,trivial,trivial⟩),?_⟩
    refine T_g 10 (some 153) (.tuple #[vu aj,vi am]) (bv 15 2047) [(0,vp hv),(1,vs (some d) e f),(7,vs (some q) wordsN wordsC),(8,vs thingsB thingsN thingsC),(9,vi i),(10,vp (pa m)),(11,vp (pa j)),(14,vu 12),(15,vi 0),(153,.tuple #[vu aj,vi am])] (pure (.value (.tuple #[vu aj,vi am])):Sem Next) (λ_ _ _ _ _=>rfl)<| T_g1 11 164 (vu aj) (bv 15 4095) [] (pure (.value (vu aj)):Sem Next) (λ_ _ _ _ _=>rfl)<| T_g1 12 165 (vi am) (bv 15 8191) [153] (pure (.value (vi am)):Sem Next) (λ_ _ _ _ _=>rfl)<| T_g1 13 14 (vu aj) (bv 15 16383) [14,164] (pure (.value (vu aj)):Sem Next) (λ_ _ _ _ _=>rfl)<| T_g1 14 15 (vi am) (bv 15 32767) [15,165] (pure (.value (vi am)):Sem Next) (λ_ _ _ _ _=>rfl) ?_
    refine G_sub [(0,vp hv),(1,vs (some d) e f),(7,vs (some q) wordsN wordsC),(8,vs thingsB thingsN thingsC),(9,vi i),(10,vp (pa m)),(11,vp (pa j)),(14,vu aj),(15,vi am)] sk ?_
    refine G_end (by kernel_rfl) ?_
    refine S_then ?_
    exact S_meet ((aj,am):Int×Int) sk h
   rw[if_neg c100]at h
   refine T_cFz 151 (beq_eq_false_iff_ne.mpr c100)<| T_srz 37<| T_ed 2 [151] [(166,.bool (y==7))] ?_
   by_cases c106:y=7
   ·rw[if_pos c106]at h
    refine T_cTz 166 (beq_iff_eq.mpr c106)<| T_rz 38<| T_nd 3 [12,13,14,15,59,166] [(169,vp hv),(170,vs g wordsN wordsC),(171,vi a)] ?_
    obtain⟨aa,rfl,h⟩:=h
    obtain⟨q108,h⟩:=h
    refine T_xd (some 172) 28 54 1 aa wordsN wordsC .i64 a Tryz.underlying28 q108.1 q108.2 [7,170,171] [(7,vs (some aa) wordsN wordsC),(172,vp (some (aa.add (Int.toNat a*1))))] ?_
    obtain⟨cd,q109,h⟩:=h
    refine T_l1 173 54 q109 [172]<| T_nw (some 174) (λb=>vs (pa b) 1 1) (.cells #[vu cd] 54) ?_
    intro ch H35 e110 e111
    replace h:=h ch H35 e110 e111
    refine T_pd [173] [(174,vs (pa ch) 1 1)] ?_
    refine T_c (some 175) h ?_;clear h
    rintro dz d3 ⟨co,ci,rfl,h⟩
    refine T_pd [169,174] [(175,.tuple #[vu co,vi ci])]<| T_ed 5 [175] [(14,vu co),(15,vi ci)] ?_
    exact S_meet ((co,ci):Int×Int) sk h
   rw[if_neg c106]at h
   refine T_cFz 166 (beq_eq_false_iff_ne.mpr c106)<| T_srz 39<| T_ed 2 [59,166] [(178,.bool (y==8))] ?_
   by_cases c112:y=8
   ·rw[if_pos c112]at h
    refine T_cTz 178 (beq_iff_eq.mpr c112)<| T_rz 40<| T_nd 2 [12,13,178] [(180,.agg (DR 1 0 false none 0 0 (ByteArray.mk #[]) none 0 0).toArray),(181,vp (pa j))] ?_
    obtain⟨q115,h⟩:=h
    refine T_sta 51 (DR 1 0 false none 0 0 (ByteArray.mk #[]) none 0 0) q115 ?_
    intro dl e114
    replace h:=h dl e114
    refine T_pd [180,181] []<| T_e ?_
    exact S_meet ((12,0):Int×Int) sk h
   rw[if_neg c112]at h
   refine T_cFz 178 (beq_eq_false_iff_ne.mpr c112)<| T_sz ?_
   obtain⟨o,rfl,h⟩:=h
   obtain⟨q116,h⟩:=h
   obtain⟨a1,q117,h⟩:=h
   obtain⟨q118,h⟩:=h
   obtain⟨bt,q119,h⟩:=h
   refine S_regionG 14 (Code.ops K116) [(9,(o.add (Int.toNat a*1)),[vu a1]),(9,(o.add (Int.toNat b_5*1)),[vu bt])] 15 (bv 15 0) (by kernel_rfl) (by kernel_rfl) (by kernel_rfl) (by kernel_rfl) (by kernel_rfl) (show FactsAt _ _ _ from⟨⟨q117,trivial⟩,⟨q119,trivial⟩,trivial⟩) ?_
   refine T_gp 0 (some 61) (vp hv) (bv 15 1) [(0,vp hv),(1,vs (some d) e f),(7,vs (some o) wordsN wordsC),(8,vs thingsB thingsN thingsC),(9,vi i),(10,vp (pa m)),(11,vp (pa j)),(12,vi a),(13,vi b_5),(14,vu 12),(15,vi 0),(61,vp hv)]<| T_gp1 1 62 (vs (some o) wordsN wordsC) (bv 15 3) []<| T_gp1 2 63 (vi a) (bv 15 7) []<| T_g1 3 64 (vp (some (o.add (Int.toNat a*1)))) (bv 15 15) [62,63] (indexAtN 28 (vs (some o) wordsN wordsC) (vi a)) (λ_ w _ _ _=>indexAt_run (P:=Tryz.prog) (t:=28) (elem:=54) (sz:=1) (a:=o) (len:=wordsN) (cap:=wordsC) (k:=.i64) (i:=a) Tryz.underlying28 (λ_=>by kernel_rfl) q116.1 q116.2 w)<| T_g1 4 65 (vu a1) (bv 15 31) [64] (loadN 54 (vp (some (o.add (Int.toNat a*1))))) (held_one 9 (λ_=>by kernel_rfl) (List.Mem.head _) (.inl (by kernel_rfl)))<| T_gp1 5 66 (vs (some o) wordsN wordsC) (bv 15 63) []<| T_gp1 6 67 (vi b_5) (bv 15 127) []<| T_g1 7 68 (vp (some (o.add (Int.toNat b_5*1)))) (bv 15 255) [66,67] (indexAtN 28 (vs (some o) wordsN wordsC) (vi b_5)) (λ_ w _ _ _=>indexAt_run (P:=Tryz.prog) (t:=28) (elem:=54) (sz:=1) (a:=o) (len:=wordsN) (cap:=wordsC) (k:=.i64) (i:=b_5) Tryz.underlying28 (λ_=>by kernel_rfl) q118.1 q118.2 w)<| T_g1 8 69 (vu bt) (bv 15 511) [68] (loadN 54 (vp (some (o.add (Int.toNat b_5*1))))) (held_one 9 (λ_=>by kernel_rfl) (List.Mem.tail _ (List.Mem.head _)) (.inl (by kernel_rfl))) ?_
   refine G_call 9 (some 70) (bv 15 1023) 20 #[vp hv,vu a1,vu bt] (by kernel_rfl) (λ_=>by kernel_rfl) h (by kernel_rfl) ?_;clear h
   rintro dv dq ⟨ag,ah,rfl,h⟩
   refine⟨[(0,vp hv),(1,vs (some d) e f),(7,vs (some o) wordsN wordsC),(8,vs thingsB thingsN thingsC),(9,vi i),(10,vp (pa m)),(11,vp (pa j)),(12,vi a),(13,vi b_5),(14,vu 12),(15,vi 0),(70,.tuple #[vu ag,vi ah])],pk,(show FactsAt _ _ _ from⟨trivial,trivial,trivial⟩),?_⟩
   refine T_g 10 (some 60) (.tuple #[vu ag,vi ah]) (bv 15 2047) [(0,vp hv),(1,vs (some d) e f),(7,vs (some o) wordsN wordsC),(8,vs thingsB thingsN thingsC),(9,vi i),(10,vp (pa m)),(11,vp (pa j)),(12,vi a),(13,vi b_5),(14,vu 12),(15,vi 0),(60,.tuple #[vu ag,vi ah])] (pure (.value (.tuple #[vu ag,vi ah])):Sem Next) (λ_ _ _ _ _=>rfl)<| T_g1 11 71 (vu ag) (bv 15 4095) [] (pure (.value (vu ag)):Sem Next) (λ_ _ _ _ _=>rfl)<| T_g1 12 72 (vi ah) (bv 15 8191) [60] (pure (.value (vi ah)):Sem Next) (λ_ _ _ _ _=>rfl)<| T_g1 13 14 (vu ag) (bv 15 16383) [14,71] (pure (.value (vu ag)):Sem Next) (λ_ _ _ _ _=>rfl)<| T_g1 14 15 (vi ah) (bv 15 32767) [15,72] (pure (.value (vi ah)):Sem Next) (λ_ _ _ _ _=>rfl) ?_
   refine G_sub [(0,vp hv),(1,vs (some d) e f),(7,vs (some o) wordsN wordsC),(8,vs thingsB thingsN thingsC),(9,vi i),(10,vp (pa m)),(11,vp (pa j)),(12,vi a),(13,vi b_5),(14,vu ag),(15,vi ah)] sk ?_
   refine G_end (by kernel_rfl) ?_
   refine S_then ?_
   refine T_srz 15<| T_n 2 [(0,vp hv),(1,vs (some d) e f),(7,vs (some o) wordsN wordsC),(8,vs thingsB thingsN thingsC),(9,vi i),(10,vp (pa m)),(11,vp (pa j)),(12,vi a),(13,vi b_5),(14,vu ag),(15,vi ah),(74,vp (pa j))] ?_
   obtain⟨q121,h⟩:=h
   refine T_st1 3 (vi 7) q121 ?_
   intro de e120
   replace h:=h de e120
   refine T_pd [74] []<| T_e<| T_rz 16<| T_nd 2 [12,13] [(75,vi a),(76,vi b_5)]<| T_nw (some 77) (λb=>vs (pa b) 2 2) (.cells #[vi a,vi b_5] 3) ?_
   intro ba H40 e122 e123
   replace h:=h ba H40 e122 e123
   refine T_pd [75,76] [(77,vs (pa ba) 2 2)]<| T_nd 1 [] [(78,vp (some ((ad j).add 6)))] ?_
   obtain⟨q125,h⟩:=h
   refine T_st1 68 (vs (pa ba) 2 2) q125 ?_
   intro dp e124
   replace h:=h dp e124
   refine T_pd [77,78] []<| T_e ?_
   exact S_meet ((ag,ah):Int×Int) sk h
  by_cases c126:(bb:Int)>0
  ·rw[if_pos c126]at h
   have b127:(decide ((bb:Int)>0))=true:=decide_eq_true c126
   refine S_env [(0,vp hv),(1,vs (some d) e f),(7,vs g wordsN wordsC),(8,vs thingsB thingsN thingsC),(9,vi i),(10,vp (pa m)),(11,vp (pa j)),(12,vi 0),(13,vi 0),(38,.bool true)] (by simp only[b127,Bool.not_true,Bool.not_false]) ?_
   clear b127
   refine T_tz 38<| T_srz 10<| T_nd 1 [12,13,38] [(39,vp (some ((ad m).add 3)))] ?_
   obtain⟨c1,bw,cg,q128,h⟩:=h
   refine T_l1 40 68 q128 [39] ?_
   obtain⟨bh,rfl,h⟩:=h
   obtain⟨q129,h⟩:=h
   refine T_xd (some 41) 68 3 1 bh bw cg .i64 0 Tryz.underlying68 q129.1 q129.2 [40] [(41,vp (some (bh.add (Int.toNat 0*1))))] ?_
   obtain⟨bu,q130,h⟩:=h
   refine T_l1 42 3 q130 [41]<| T_nd 2 [] [(44,vi wordsN)] ?_
   refine T_c (some 45) h ?_;clear h
   rintro dy dc ⟨aq,rfl,h⟩
   refine T_pd [42,44] [(45,vi aq)]<| T_ed 1 [45] [(12,vi aq)]<| T_rz 11<| T_nd 1 [] [(46,vp (some ((ad m).add 3)))] ?_
   obtain⟨bg,a2,a6,q131,h⟩:=h
   refine T_l1 47 68 q131 [46]<| T_nd 1 [] [(48,vp (some ((ad m).add 3)))] ?_
   obtain⟨c7,an,da,q132,h⟩:=h
   refine T_l1 49 68 q132 [48]<| T_nd 2 [49] [(51,vi (IntKind.wrap .i64 ((an:Int)-1)))] ?_
   obtain⟨bj,rfl,h⟩:=h
   obtain⟨q133,h⟩:=h
   refine T_xd (some 52) 68 3 1 bj a2 a6 .i64 (IntKind.wrap .i64 ((an:Int)-1)) Tryz.underlying68 q133.1 q133.2 [47,51] [(52,vp (some (bj.add (Int.toNat (IntKind.wrap .i64 ((an:Int)-1))*1))))] ?_
   obtain⟨bs,q134,h⟩:=h
   refine T_l1 53 3 q134 [52]<| T_nd 2 [] [(55,vi wordsN)] ?_
   refine T_c (some 56) h ?_;clear h
   rintro dx d7 ⟨cj,rfl,h⟩
   refine T_pd [53,55] [(56,vi cj)]<| T_ed 1 [56] [(13,vi cj)] ?_
   exact S_meet ((aq,cj):Int×Int) sk h
  rw[if_neg c126]at h
  have b127:(decide ((bb:Int)>0))=false:=decide_eq_false c126
  refine S_env [(0,vp hv),(1,vs (some d) e f),(7,vs g wordsN wordsC),(8,vs thingsB thingsN thingsC),(9,vi i),(10,vp (pa m)),(11,vp (pa j)),(12,vi 0),(13,vi 0),(38,.bool false)] (by simp only[b127,Bool.not_true,Bool.not_false]) ?_
  clear b127
  refine T_fz 38<| T_kt ?_
  exact S_meet ((0,0):Int×Int) sk h
 rw[if_neg c8]at h
 refine T_cFz 26 (decide_eq_false c8) ?_
 refine S_exit 0 (by kernel_rfl) ?_
 refine S_exitThen ?_
 refine S_exitThen ?_
 refine S_exitHere ?_
 refine S_then ?_
 exact T_srz 48<| T_nr 5 [4,5,6] [vs g wordsN wordsC,vs thingsB thingsN thingsC,.bool true] hQ h
end morainelaw17_drawn

/-! moraine/morainelaw17.at -/
namespace morainelaw17_at
def K0:=Func.code Tryz.f16
end morainelaw17_at
def morainelaw17_at.pt(x nv:Int)(H:Array Obj)(R:Value->Array Obj->Prop):Prop:=
 (nv≠0)/\
 (nv≠0)/\
 R (.int .i64 (Int.tmod (IntKind.wrap .i64 ((Int.tmod x nv)+nv)) nv)) H
namespace morainelaw17_at
set_option maxRecDepth 100000 in
theorem link{x nv:Int}{H:Array Obj}{R:Value->Array Obj->Prop}(h:pt x nv H R):C x nv H R:=by
 refine T_en K0 12 Tryz.func16 ?_
 intro w0 Q hQ
 unfold pt at h
 refine T_su [(0,vi x),(1,vi nv)]<| T_srz 0<| T_ed 1 [] []<| T_srz 1<| T_nd 2 [0] [(5,vi x),(6,vi nv)] ?_
 obtain⟨q1,h⟩:=h
 refine T_v1 7 (binN .rem 3 (vi x) (vi nv)) (vi (Int.tmod x nv)) (λw _=>rem_run (P:=Tryz.prog) (t:=3) (k:=.i64) (x:=x) (y:=nv) q1 w) [5,6]<| T_n 3 [(9,vi (IntKind.wrap .i64 ((Int.tmod x nv)+nv))),(10,vi nv)] ?_
 obtain⟨q2,h⟩:=h
 exact T_v1 11 (binN .rem 3 (vi (IntKind.wrap .i64 ((Int.tmod x nv)+nv))) (vi nv)) (vi (Int.tmod (IntKind.wrap .i64 ((Int.tmod x nv)+nv)) nv)) (λw _=>rem_run (P:=Tryz.prog) (t:=3) (k:=.i64) (x:=(IntKind.wrap .i64 ((Int.tmod x nv)+nv))) (y:=nv) q2 w) [9,10]<| T_nr 1 [4] [vi (Int.tmod (IntKind.wrap .i64 ((Int.tmod x nv)+nv)) nv)] hQ h
end morainelaw17_at

/-! moraine/morainelaw17.BuildTells -/
namespace morainelaw17_BuildTells
def K0:=Func.code Tryz.f3
end morainelaw17_BuildTells
def morainelaw17_BuildTells.pt(j:Option Addr)(f m:Nat)(H:Array Obj)(R:Value->Array Obj->Prop):Prop:=
 if(f:Int)>150 then(
 morainelaw17_awake.C H (λv H1=> ∃x:Bool,v=.bool x/\
 R (.bool x) H1))
 else
 obj_New.C 64 H (λcp H2=> ∃(ra:Option Addr) (rb:Int),cp=.tuple #[.pointer ra,.int .i64 rb]/\
 if rb=0 then(
 onPtr ra (
 R (.bool false) H2) (λe=>
 morainelaw17_drawn.C (some e) j f m H2 (λcu H3=> ∃(al:Option Addr) (g ak:Nat) (p:Option Addr) (q r:Nat) (rc:Bool),cu=.tuple #[.slice al g ak,.slice p q r,.bool rc]/\
 if rc=true then(
 ∃cc:Option Addr,hat H3 e=some (.pointer cc)/\
 ∃b9:Addr,cc=some b9/\
 ∃b8:Option Addr,hat H3 b9=some (.pointer b8)/\
 ∃cd:Addr,b8=some cd/\
 ∃b3:Option Addr,hat H3 cd=some (.pointer b3)/\
 seg_Mem_Free.C b3 H3 (λcw H4=> ∃o:Int,cw=.int .i64 o/\
 ∃bc:Addr,al=some bc/\
 ((0:Int)<=(IntKind.wrap .i64 ((g:Int)-1))/\(IntKind.wrap .i64 ((g:Int)-1))< (g:Int))/\
 ∃b7:Int,hat H4 (bc.add (Int.toNat (IntKind.wrap .i64 ((g:Int)-1))*1))=some (.int .u64 b7)/\
 build_Datum.C (some e) b7 H4 (λct H5=> ∃(aj ay:Int) (ah:Bool) (ab:Option Addr) (ae ac:Nat) (bm:ByteArray) (a9:Option Addr) (bb a8:Nat) (d:Int),ct=.tuple #[.agg (DR aj ay ah ab ae ac bm a9 bb a8).toArray,.int .i64 d]/\
 ∀(b:Nat) (H6:Array Obj),b=H5.size->H6=H5.push (.cells (DR 0 0 false none 0 0 (ByteArray.mk #[]) none 0 0).toArray 51)->
 (CanPuts H6 (ad b) 0 6)/\ ∀H7,H7=hputs H6 (ad b) (DR aj ay ah ab ae ac bm a9 bb a8) 0->
 ∀(bw:Nat) (H8:Array Obj),bw=H7.size->H8=H7.push (.cells #[.int .i64 0] 57)->
 moraineref17_Read_Datum.C (some (ad bw)) p q r (IntKind.wrap .i64 ((g:Int)-1)) 0 H8 (λco H9=> ∃(aa ax:Int) (z:Bool) (s:Option Addr) (u y:Nat) (az:ByteArray) (ai:Option Addr) (af ag:Nat) (av:Int),co=.tuple #[.agg (DR aa ax z s u y az ai af ag).toArray,.int .i64 av]/\
 ∀(aw:Nat) (H10:Array Obj),aw=H9.size->H10=H9.push (.cells (DR 0 0 false none 0 0 (ByteArray.mk #[]) none 0 0).toArray 51)->
 (CanPuts H10 (ad aw) 0 6)/\ ∀bx,bx=hputs H10 (ad aw) (DR aa ax z s u y az ai af ag) 0->
 if d=av then(
 ∃a7 xC ba a6 a4 a5 xT b1 b0 bz,RowAt bx (ad b) 0 (DR a7 xC ba a6 a4 a5 xT b1 b0 bz)/\
 ∃a1 bt a3 an ao aq bn bh bi bf,RowAt bx (ad aw) 0 (DR a1 bt a3 an ao aq bn bh bi bf)/\
 moraineref03_Same.C a7 xC ba a6 a4 a5 xT b1 b0 bz a1 bt a3 an ao aq bn bh bi bf bx (λcs b5=> ∃bl:Bool,cs=.bool bl/\
 if bl=true then(
 ∃cg:Option Addr,hat b5 e=some (.pointer cg)/\
 ∃ce:Addr,cg=some ce/\
 ∃cf:Option Addr,hat b5 ce=some (.pointer cf)/\
 ∃ch:Addr,cf=some ch/\
 ∃bu:Option Addr,hat b5 ch=some (.pointer bu)/\
 seg_Mem_Free.C bu b5 (λcv ci=> ∃be:Int,cv=.int .i64 be/\
 if be=o then(
 if d=0 then(
 ∃a0 bo a2 ap au am bp bg bk bj,RowAt ci (ad b) 0 (DR a0 bo a2 ap au am bp bg bk bj)/\
 moraineref03_May.C a0 bo a2 ap au am bp bg bk bj ci (λcn cj=> ∃bd:Bool,cn=.bool bd/\
 if bd=true then(
 morainelaw17_awake.C cj (λck cr=> ∃bq:Bool,ck=.bool bq/\
 R (.bool bq) cr))
 else
 R (.bool false) cj))
 else
 morainelaw17_awake.C ci (λcm cq=> ∃br:Bool,cm=.bool br/\
 R (.bool br) cq))
 else
 R (.bool false) ci))
 else
 R (.bool false) b5))
 else
 R (.bool false) bx))))
 else
 morainelaw17_awake.C H3 (λcl cx=> ∃bs:Bool,cl=.bool bs/\
 R (.bool bs) cx))))
 else
 R (.bool false) H2)
namespace morainelaw17_BuildTells
theorem link{j:Option Addr}{f m:Nat}{H:Array Obj}{R:Value->Array Obj->Prop}(h:pt j f m H R):C j f m H R:=by
 refine T_en K0 104 Tryz.func3 ?_
 intro w0 Q hQ
 unfold pt at h
 refine T_su [(0,vs j f m)]<| T_srz 0<| T_ed 1 [] []<| T_sz<| T_srz 1<| T_ed 3 [] [(17,.bool (decide ((f:Int)>150)))] ?_
 by_cases c1:(f:Int)>150
 ·rw[if_pos c1]at h
  refine T_cTz 17 (decide_eq_true c1)<| T_srz 2<| T_nu [] ?_
  refine T_c (some 18) h ?_;clear h
  rintro v H1 ⟨x,rfl,h⟩
  refine⟨[(18,.bool x)],pk,?_⟩
  exact T_nr 1 [2] [.bool x] hQ h
 rw[if_neg c1]at h
 refine T_cFz 17 (decide_eq_false c1)<| T_kt<| T_srz 3<| T_ud [17] [] ?_
 refine T_c (some 20) h ?_;clear h
 rintro cp H2 ⟨ra,rb,rfl,h⟩
 refine T_pd [] [(20,.tuple #[vp ra,vi rb])]<| T_ed 5 [20] [(3,vp ra),(4,vi rb)]<| T_sz<| T_srz 4<| T_nd 3 [4] [(25,.bool (rb !=0))] ?_
 by_cases c3:rb=0
 ·rw[if_pos c3]at h
  refine N_bd 25 (bne_eq_false_iff_eq.mpr c3)<| T_nd 1 [] [(26,vp ra)] ?_
  rcases ra with _ | e
  ·rw[onPtr_none]at h
   exact T_ed 2 [3,25,26] [(3,vp none),(28,.bool true)]<| T_tz 28<| T_srz 5<| T_nr 1 [2] [.bool false] hQ h
  rw[onPtr_some]at h
  refine T_ed 2 [3,25,26] [(3,vp (some e)),(28,.bool false)]<| T_fz 28<| T_kt<| T_srz 6<| T_nd 2 [0,28] [(30,vp (some e)),(31,vs j f m)] ?_
  refine T_c (some 32) h ?_;clear h
  rintro cu H3 ⟨al,g,ak,p,q,r,rc,rfl,h⟩
  refine T_pd [30,31] [(32,.tuple #[vs al g ak,vs p q r,.bool rc])]<| T_ed 7 [32] [(5,vs al g ak),(6,vs p q r),(7,.bool rc)]<| T_sz<| T_srz 7<| T_ed 2 [7] [(37,.bool (!rc))] ?_
  by_cases c5:rc=true
  ·rw[if_pos c5]at h
   refine T_cFz 37 (congrArg Bool.not (c5))<| T_kt<| T_srz 9<| T_ed 4 [37] [(8,vi (IntKind.wrap .i64 ((g:Int)-1)))]<| T_srz 10<| T_nd 3 [] [(44,vp (some e))] ?_
   obtain⟨cc,q7,h⟩:=h
   refine T_l1 45 33 q7 [44] ?_
   obtain⟨b9,rfl,h⟩:=h
   refine T_nd 2 [45] [(47,vp (some b9))] ?_
   obtain⟨b8,q8,h⟩:=h
   refine T_l1 48 38 q8 [47] ?_
   obtain⟨cd,rfl,h⟩:=h
   refine T_nd 2 [48] [(50,vp (some cd))] ?_
   obtain⟨b3,q9,h⟩:=h
   refine T_l1 51 41 q9 [50] ?_
   refine T_c (some 52) h ?_;clear h
   rintro cw H4 ⟨o,rfl,h⟩
   refine T_pd [51] [(52,vi o)]<| T_ed 1 [52] [(9,vi o)]<| T_srz 11<| T_nd 3 [5] [(54,vp (some e)),(55,vs al g ak),(56,vi (IntKind.wrap .i64 ((g:Int)-1)))] ?_
   obtain⟨bc,rfl,h⟩:=h
   obtain⟨q10,h⟩:=h
   refine T_xd (some 57) 28 54 1 bc g ak .i64 (IntKind.wrap .i64 ((g:Int)-1)) Tryz.underlying28 q10.1 q10.2 [55,56] [(57,vp (some (bc.add (Int.toNat (IntKind.wrap .i64 ((g:Int)-1))*1))))] ?_
   obtain⟨b7,q11,h⟩:=h
   refine T_l1 58 54 q11 [57] ?_
   refine T_c (some 59) h ?_;clear h
   rintro ct H5 ⟨aj,ay,ah,ab,ae,ac,bm,a9,bb,a8,d,rfl,h⟩
   refine T_pd [54,58] [(59,.tuple #[.agg (DR aj ay ah ab ae ac bm a9 bb a8).toArray,vi d])]<| T_nd 3 [59] [(60,.agg (DR aj ay ah ab ae ac bm a9 bb a8).toArray),(61,vi d)]<| T_nw (some 10) (λb=>vp (pa b)) (.cells (DR 0 0 false none 0 0 (ByteArray.mk #[]) none 0 0).toArray 51) ?_
   intro b H6 e12 e13
   replace h:=h b H6 e12 e13
   refine T_pd [] [(10,vp (pa b))] ?_
   obtain⟨q15,h⟩:=h
   refine T_sta 51 (DR aj ay ah ab ae ac bm a9 bb a8) q15 ?_
   intro H7 e14
   replace h:=h H7 e14
   refine T_pd [60] []<| T_ed 1 [61] [(11,vi d)]<| T_srz 12<| T_nd 1 [] [(62,.agg #[vi 0])]<| T_nw (some 63) (λb=>vp (pa b)) (.cells #[vi 0] 57) ?_
   intro bw H8 e16 e17
   replace h:=h bw H8 e16 e17
   refine T_pd [62] [(63,vp (pa bw))]<| T_ed 1 [63] [(12,vp (pa bw))]<| T_srz 13<| T_nd 3 [6,8,12] [(65,vp (pa bw)),(66,vs p q r),(67,vi (IntKind.wrap .i64 ((g:Int)-1)))] ?_
   refine T_c (some 68) h ?_;clear h
   rintro co H9 ⟨aa,ax,z,s,u,y,az,ai,af,ag,av,rfl,h⟩
   refine T_pd [65,66,67] [(68,.tuple #[.agg (DR aa ax z s u y az ai af ag).toArray,vi av])]<| T_nd 3 [68] [(69,.agg (DR aa ax z s u y az ai af ag).toArray),(70,vi av)]<| T_nw (some 13) (λb=>vp (pa b)) (.cells (DR 0 0 false none 0 0 (ByteArray.mk #[]) none 0 0).toArray 51) ?_
   intro aw H10 e18 e19
   replace h:=h aw H10 e18 e19
   refine T_pd [] [(13,vp (pa aw))] ?_
   obtain⟨q21,h⟩:=h
   refine T_sta 51 (DR aa ax z s u y az ai af ag) q21 ?_
   intro bx e20
   replace h:=h bx e20
   refine T_pd [69] []<| T_ed 1 [70] [(14,vi av)]<| T_sz<| T_srz 14<| T_nd 4 [14] [(74,.bool (d !=av))] ?_
   by_cases c22:d=av
   ·rw[if_pos c22]at h
    refine N_bd 74 (bne_eq_false_iff_eq.mpr c22) ?_
    obtain⟨a7,xC,ba,a6,a4,a5,xT,b1,b0,bz,q24,h⟩:=h
    refine T_lr 75 51 q24 [] ?_
    obtain⟨a1,bt,a3,an,ao,aq,bn,bh,bi,bf,q25,h⟩:=h
    refine T_lr 76 51 q25 [13] ?_
    refine T_c (some 77) h ?_;clear h
    rintro cs b5 ⟨bl,rfl,h⟩
    refine T_pd [75,76] [(77,.bool bl)]<| T_nd 3 [74,77] [(80,.bool (!bl))] ?_
    by_cases c26:bl=true
    ·rw[if_pos c26]at h
     have b27:(!bl)=false:=congrArg Bool.not (c26)
     have b272:bl=true:=c26
     refine N_bd 80 (b:=(!bl)) (v:=false) (by simp only[b27,b272,Bool.not_true,Bool.not_false]) ?_
     clear b27 b272
     refine T_nd 3 [3] [(83,vp (some e))] ?_
     obtain⟨cg,q28,h⟩:=h
     refine T_l1 84 33 q28 [83] ?_
     obtain⟨ce,rfl,h⟩:=h
     refine T_nd 2 [84] [(86,vp (some ce))] ?_
     obtain⟨cf,q29,h⟩:=h
     refine T_l1 87 38 q29 [86] ?_
     obtain⟨ch,rfl,h⟩:=h
     refine T_nd 2 [87] [(89,vp (some ch))] ?_
     obtain⟨bu,q30,h⟩:=h
     refine T_l1 90 41 q30 [89] ?_
     refine T_c (some 91) h ?_;clear h
     rintro cv ci ⟨be,rfl,h⟩
     refine T_pd [90] [(91,vi be)]<| T_ed 3 [9,80,91] [(94,.bool (be !=o))] ?_
     by_cases c31:be=o
     ·rw[if_pos c31]at h
      refine T_cFz 94 (bne_eq_false_iff_eq.mpr c31)<| T_kt<| T_srz 16<| T_nd 3 [11,94] [(97,.bool (d !=0))] ?_
      by_cases c33:d=0
      ·rw[if_pos c33]at h
       refine N_bd 97 (bne_eq_false_iff_eq.mpr c33) ?_
       obtain⟨a0,bo,a2,ap,au,am,bp,bg,bk,bj,q35,h⟩:=h
       refine T_lr 98 51 q35 [10] ?_
       refine T_c (some 99) h ?_;clear h
       rintro cn cj ⟨bd,rfl,h⟩
       refine T_pd [98] [(99,.bool bd)]<| T_n 2 [(101,.bool bd)] ?_
       by_cases c36:bd=true
       ·rw[if_pos c36]at h
        have b37:bd=true:=c36
        refine N_env [(101,.bool true)] (by rw[b37]) ?_
        clear b37
        refine T_c (some 102) h ?_;clear h
        rintro ck cr ⟨bq,rfl,h⟩
        exact T_pd [] [(102,.bool bq)]<| T_nr 2 [2] [.bool bq] hQ h
       rw[if_neg c36]at h
       have b37:bd=false:=eq_false_of_ne_true c36
       refine N_env [(101,.bool false)] (by rw[b37]) ?_
       clear b37
       exact T_nr 3 [2] [.bool false] hQ h
      rw[if_neg c33]at h
      refine N_bd 97 (bne_iff_ne.mpr c33)<| T_n 4 [(101,.bool true)] ?_
      refine T_c (some 102) h ?_;clear h
      rintro cm cq ⟨br,rfl,h⟩
      exact T_pd [] [(102,.bool br)]<| T_nr 2 [2] [.bool br] hQ h
     rw[if_neg c31]at h
     exact T_cTz 94 (bne_iff_ne.mpr c31)<| T_srz 15<| T_nr 1 [2] [.bool false] hQ h
    rw[if_neg c26]at h
    have b27:(!bl)=true:=congrArg Bool.not (eq_false_of_ne_true c26)
    have b272:bl=false:=eq_false_of_ne_true c26
    refine N_bd 80 (b:=(!bl)) (v:=true) (by simp only[b27,b272,Bool.not_true,Bool.not_false]) ?_
    clear b27 b272
    exact T_ed 14 [3,9,80] [(94,.bool true)]<| T_tz 94<| T_srz 15<| T_nr 1 [2] [.bool false] hQ h
   rw[if_neg c22]at h
   exact N_bd 74 (bne_iff_ne.mpr c22)<| T_ed 20 [3,9,13,74] [(94,.bool true)]<| T_tz 94<| T_srz 15<| T_nr 1 [2] [.bool false] hQ h
  rw[if_neg c5]at h
  refine T_cTz 37 (congrArg Bool.not (eq_false_of_ne_true c5))<| T_srz 8<| T_nu [] ?_
  refine T_c (some 38) h ?_;clear h
  rintro cl cx ⟨bs,rfl,h⟩
  refine⟨[(38,.bool bs)],pk,?_⟩
  exact T_nr 1 [2] [.bool bs] hQ h
 rw[if_neg c3]at h
 exact N_bd 25 (bne_iff_ne.mpr c3)<| T_ed 3 [25] [(28,.bool true)]<| T_tz 28<| T_srz 5<| T_nr 1 [2] [.bool false] hQ h
end morainelaw17_BuildTells

end Go.Proofs.YtibpklpgmgakcaaGreatDoor
