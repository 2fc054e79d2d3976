/- Printed: what each function asks, and that it is sound. -/
import Derived.Test.YtgnokbjknicahaaGreatFnsC
set_option linter.unusedSimpArgs false
set_option linter.unusedVariables false
set_option maxRecDepth 100000
set_option maxHeartbeats 1000000
noncomputable section
namespace Go.Proofs.YtgnokbjknicahaaGreat
open Go
/-! (*moraine/space.Space).none -/
namespace space_Space_none
def K0:=Func.code Tryz.f37
end space_Space_none
def space_Space_none.pt(s:Option Addr)(H:Array Obj)(R:Value->Array Obj->Prop):Prop:=
 onPtr s (
 R (.bool true) H) (λsA=>
 ∃x:Option Addr,hat H sA=some (.pointer x)/\
 onPtr x (
 R (.bool true) H) (λxA=>
 R (.bool false) H))
namespace space_Space_none
theorem link{s:Option Addr}{H:Array Obj}{R:Value->Array Obj->Prop}(h:pt s H R):C s H R:=by
 refine T_en K0 12 Tryz.func37 ?_
 intro w0 Q hQ
 unfold pt at h
 refine T_su [(0,vp s)]<| T_srz 0<| T_ed 1 [] []<| T_srz 1<| T_nd 1 [] [(3,vp s)] ?_
 rcases s with _ | sA
 ·rw[onPtr_none]at h
  exact T_nr 9 [2] [.bool true] hQ h
 rw[onPtr_some]at h
 refine T_n 5 [(5,.bool false),(8,vp (some sA))] ?_
 obtain⟨x,q1,h⟩:=h
 refine T_l1 9 69 q1 [8] ?_
 rcases x with _ | xA
 ·rw[onPtr_none]at h
  exact T_nr 3 [2] [.bool true] hQ h
 rw[onPtr_some]at h
 exact T_nr 3 [2] [.bool false] hQ h
end space_Space_none

/-! (*moraine/space.Space).Alloc -/
namespace space_Space_Alloc
def K0:=Func.code Tryz.f66
end space_Space_Alloc
def space_Space_Alloc.pt(s:Option Addr)(d b nv:Int)(H:Array Obj)(R:Value->Array Obj->Prop):Prop:=
 space_Space_none.C s H (λv H1=> ∃x:Bool,v=.bool x/\
 if x=true then(
 R (.tuple #[.int .i64 0,.int .i64 1]) H1)
 else
 space_may.C d b nv H1 (λaa H2=> ∃m:Bool,aa=.bool m/\
 if m=true then(
 space_Space_Current.C s d b H2 (λab H3=> ∃(ra:Int) (rb:Bool),ab=.tuple #[.int .i64 ra,.bool rb]/\
 ∃J:Array Obj->Prop,(
 if rb=true then(
 ∃g:Addr,s=some g/\
 ∃q:Option Addr,hat H3 g=some (.pointer q)/\
 seg_Mem_Bump.C q ra nv H3 (λy H8=> ∃j l:Int,y=.tuple #[.int .i64 j,.int .i64 l]/\
 if l=0 then(
 R (.tuple #[.int .i64 j,.int .i64 0]) H8)
 else
 J H8))
 else
 J H3)/\ ∀(H4:Array Obj),J H4->
 ∃sA:Addr,s=some sA/\
 ∃r:Option Addr,hat H4 sA=some (.pointer r)/\
 seg_Mem_Take.C r d b H4 (λac H5=> ∃e f:Int,ac=.tuple #[.int .i64 e,.int .i64 f]/\
 if f=0 then(
 ((0:Int)<=d/\d< (5:Int))/\
 ((0:Int)<=b/\b< (4:Int))/\
 (CanPuts H5 (((sA.add 1).add (Int.toNat d*4)).add (Int.toNat b*1)) 0 1)/\ ∀H6,H6=hputs H5 (((sA.add 1).add (Int.toNat d*4)).add (Int.toNat b*1)) [.int .i64 (IntKind.wrap .i64 (e+1))] 0->
 ∃u:Option Addr,hat H6 sA=some (.pointer u)/\
 seg_Mem_Bump.C u e nv H6 (λz H7=> ∃o p:Int,z=.tuple #[.int .i64 o,.int .i64 p]/\
 R (.tuple #[.int .i64 o,.int .i64 p]) H7))
 else
 R (.tuple #[.int .i64 0,.int .i64 f]) H5)))
 else
 R (.tuple #[.int .i64 0,.int .i64 1]) H2))
namespace space_Space_Alloc
theorem link{s:Option Addr}{d b nv:Int}{H:Array Obj}{R:Value->Array Obj->Prop}(h:pt s d b nv H R):C s d b nv H R:=by
 refine T_en K0 77 Tryz.func66 ?_
 intro w0 Q hQ
 unfold pt at h
 refine T_su [(0,vp s),(1,vi d),(2,vi b),(3,vi nv)]<| T_srz 0<| T_ed 2 [] []<| T_sz<| T_srz 1<| T_nd 1 [] [(16,vp s)] ?_
 refine T_c (some 17) h ?_;clear h
 rintro v H1 ⟨x,rfl,h⟩
 refine T_pd [16] [(17,.bool x)]<| T_nd 1 [17] [(18,.bool x)] ?_
 by_cases c1:x=true
 ·rw[if_pos c1]at h
  exact N_bd 18 c1<| T_ed 6 [18] [(24,.bool true)]<| T_tz 24<| T_srz 2<| T_nr 2 [8,9] [vi 0,vi 1] hQ h
 rw[if_neg c1]at h
 refine N_bd 18 (eq_false_of_ne_true c1)<| T_nd 3 [] [(19,vi d),(20,vi b),(21,vi nv)] ?_
 refine T_c (some 22) h ?_;clear h
 rintro aa H2 ⟨m,rfl,h⟩
 refine T_pd [19,20,21] [(22,.bool m)]<| T_ed 2 [18,22] [(24,.bool (!m))] ?_
 by_cases c3:m=true
 ·rw[if_pos c3]at h
  refine T_cFz 24 (congrArg Bool.not (c3))<| T_kt<| T_sz<| T_srz 3<| T_nd 3 [24] [(26,vp s),(27,vi d),(28,vi b)] ?_
  refine T_c (some 29) h ?_;clear h
  rintro ab H3 ⟨ra,rb,rfl,h⟩
  refine T_pd [26,27,28] [(29,.tuple #[vi ra,.bool rb])]<| T_ed 5 [29] [(10,vi ra),(11,.bool rb)]<| T_srz 4<| T_ne 1 [(0,vp s),(1,vi d),(2,vi b),(3,vi nv),(10,vi ra),(32,.bool rb)] ?_
  obtain⟨J,h,j6⟩:=h
  refine S_join (σ:=Unit) (λs_=> [(0,vp s),(1,vi d),(2,vi b),(3,vi nv)]) (λs_ H=>J H) ?_ ?_
  ·rintro _ H4 j7
   replace h:=j6 H4 j7
   refine T_su [(0,vp s),(1,vi d),(2,vi b),(3,vi nv)] ?_
   refine S_then ?_
   refine T_srz 8<| T_nd 1 [] [(47,vp s)] ?_
   obtain⟨sA,rfl,h⟩:=h
   refine T_nd 2 [0,47] [(0,vp (some sA)),(49,vp (some sA))] ?_
   obtain⟨r,q8,h⟩:=h
   refine T_l1 50 69 q8 [49]<| T_nd 2 [] [(51,vi d),(52,vi b)] ?_
   refine T_c (some 53) h ?_;clear h
   rintro ac H5 ⟨e,f,rfl,h⟩
   refine T_pd [50,51,52] [(53,.tuple #[vi e,vi f])]<| T_ed 5 [53] [(14,vi e),(15,vi f)]<| T_sz<| T_srz 9<| T_ed 2 [] [(57,.bool (f !=0))] ?_
   by_cases c9:f=0
   ·rw[if_pos c9]at h
    refine T_cFz 57 (bne_eq_false_iff_eq.mpr c9)<| T_kt<| T_srz 11<| T_nd 7 [1,2,15,57] [(60,vi d),(61,vi b),(63,vi (IntKind.wrap .i64 (e+1))),(65,vp (some (sA.add 1)))] ?_
    obtain⟨q11,h⟩:=h
    refine T_v1 66 (indexAtN 71 (vp (some (sA.add 1))) (vi d)) (vp (some ((sA.add 1).add (Int.toNat d*4)))) (λw _=>indexArr_run (P:=Tryz.prog) (t:=71) (elem:=70) (sz:=4) (n:=5) (a:=(sA.add 1)) (k:=.i64) (i:=d) Tryz.underlying71 (λ_=>by kernel_rfl) q11.1 q11.2 w) [60,65] ?_
    obtain⟨q12,h⟩:=h
    refine T_v1 67 (indexAtN 70 (vp (some ((sA.add 1).add (Int.toNat d*4)))) (vi b)) (vp (some (((sA.add 1).add (Int.toNat d*4)).add (Int.toNat b*1)))) (λw _=>indexArr_run (P:=Tryz.prog) (t:=70) (elem:=3) (sz:=1) (n:=4) (a:=((sA.add 1).add (Int.toNat d*4))) (k:=.i64) (i:=b) Tryz.underlying70 (λ_=>by kernel_rfl) q12.1 q12.2 w) [61,66] ?_
    obtain⟨q14,h⟩:=h
    refine T_st1 3 (vi (IntKind.wrap .i64 (e+1))) q14 ?_
    intro H6 e13
    replace h:=h H6 e13
    refine T_pd [63,67] []<| T_e<| T_srz 12<| T_nd 3 [0] [(70,vp (some sA))] ?_
    obtain⟨u,q15,h⟩:=h
    refine T_l1 71 69 q15 [70]<| T_nd 2 [3,14] [(72,vi e),(73,vi nv)] ?_
    refine T_c (some 74) h ?_;clear h
    rintro z H7 ⟨o,p,rfl,h⟩
    refine⟨[(74,.tuple #[vi o,vi p])],pk,?_⟩
    exact T_nr 4 [8,9] [vi o,vi p] hQ h
   rw[if_neg c9]at h
   exact T_cTz 57 (bne_iff_ne.mpr c9)<| T_srz 10<| T_nr 3 [8,9] [vi 0,vi f] hQ h
  by_cases c16:rb=true
  ·rw[if_pos c16]at h
   have b17:rb=true:=c16
   refine S_env [(0,vp s),(1,vi d),(2,vi b),(3,vi nv),(10,vi ra),(32,.bool true)] (by simp only[b17,Bool.not_true,Bool.not_false]) ?_
   clear b17
   refine T_tz 32<| T_srz 5<| T_nd 1 [32] [(34,vp s)] ?_
   obtain⟨g,rfl,h⟩:=h
   refine T_nd 2 [0,34] [(0,vp (some g)),(36,vp (some g))] ?_
   obtain⟨q,q18,h⟩:=h
   refine T_l1 37 69 q18 [36]<| T_nd 2 [10] [(38,vi ra),(39,vi nv)] ?_
   refine T_c (some 40) h ?_;clear h
   rintro y H8 ⟨j,l,rfl,h⟩
   refine T_pd [37,38,39] [(40,.tuple #[vi j,vi l])]<| T_ed 5 [40] [(12,vi j),(13,vi l)]<| T_srz 6<| T_ed 2 [13] [(44,.bool (l==0))] ?_
   by_cases c19:l=0
   ·rw[if_pos c19]at h
    exact T_cTz 44 (beq_iff_eq.mpr c19)<| T_srz 7<| T_nr 3 [8,9] [vi j,vi 0] hQ h
   rw[if_neg c19]at h
   refine T_cFz 44 (beq_eq_false_iff_ne.mpr c19)<| T_kt ?_
   exact S_meet (():Unit) sk h
  rw[if_neg c16]at h
  have b17:rb=false:=eq_false_of_ne_true c16
  refine S_env [(0,vp s),(1,vi d),(2,vi b),(3,vi nv),(10,vi ra),(32,.bool false)] (by simp only[b17,Bool.not_true,Bool.not_false]) ?_
  clear b17
  refine T_fz 32<| T_kt ?_
  exact S_meet (():Unit) sk h
 rw[if_neg c3]at h
 exact T_cTz 24 (congrArg Bool.not (eq_false_of_ne_true c3))<| T_srz 2<| T_nr 2 [8,9] [vi 0,vi 1] hQ h
end space_Space_Alloc

/-! moraine/space.New -/
namespace space_New
def K0:=Func.code Tryz.f78
end space_New
def space_New.pt(a:Int)(H:Array Obj)(R:Value->Array Obj->Prop):Prop:=
 seg_New.C a H (λv H1=> ∃(ra:Option Addr) (rb:Int),v=.tuple #[.pointer ra,.int .i64 rb]/\
 if rb=0 then(
 ∀(b:Nat) (H2:Array Obj),b=H1.size->H2=H1.push (.cells #[.pointer ra,.int .i64 0,.int .i64 0,.int .i64 0,.int .i64 0,.int .i64 0,.int .i64 0,.int .i64 0,.int .i64 0,.int .i64 0,.int .i64 0,.int .i64 0,.int .i64 0,.int .i64 0,.int .i64 0,.int .i64 0,.int .i64 0,.int .i64 0,.int .i64 0,.int .i64 0,.int .i64 0] 73)->
 R (.tuple #[.pointer (some (ad b)),.int .i64 0]) H2)
 else
 R (.tuple #[.pointer none,.int .i64 rb]) H1)
namespace space_New
theorem link{a:Int}{H:Array Obj}{R:Value->Array Obj->Prop}(h:pt a H R):C a H R:=by
 refine T_en K0 17 Tryz.func78 ?_
 intro w0 Q hQ
 unfold pt at h
 refine T_su [(0,vi a)]<| T_srz 0<| T_ed 2 [] []<| T_srz 1<| T_n 1 [(7,vi a)] ?_
 refine T_c (some 8) h ?_;clear h
 rintro v H1 ⟨ra,rb,rfl,h⟩
 refine⟨[(8,.tuple #[vp ra,vi rb])],pk,?_⟩
 refine T_ne 5 [(4,vp ra),(5,vi rb)]<| T_sz<| T_srz 2<| T_ed 2 [] [(12,.bool (rb !=0))] ?_
 by_cases c1:rb=0
 ·rw[if_pos c1]at h
  refine T_cFz 12 (bne_eq_false_iff_eq.mpr c1)<| T_kt<| T_srz 4<| T_n 2 [(15,.agg #[vp ra,vi 0,vi 0,vi 0,vi 0,vi 0,vi 0,vi 0,vi 0,vi 0,vi 0,vi 0,vi 0,vi 0,vi 0,vi 0,vi 0,vi 0,vi 0,vi 0,vi 0])]<| T_nw (some 16) (λb=>vp (pa b)) (.cells #[vp ra,vi 0,vi 0,vi 0,vi 0,vi 0,vi 0,vi 0,vi 0,vi 0,vi 0,vi 0,vi 0,vi 0,vi 0,vi 0,vi 0,vi 0,vi 0,vi 0,vi 0] 73) ?_
  intro b H2 e3 e4
  replace h:=h b H2 e3 e4
  refine⟨[(16,vp (pa b))],pk,?_⟩
  exact T_nr 2 [2,3] [vp (pa b),vi 0] hQ h
 rw[if_neg c1]at h
 exact T_cTz 12 (bne_iff_ne.mpr c1)<| T_srz 3<| T_nr 3 [2,3] [vp none,vi rb] hQ h
end space_New

/-! moraine/space.may -/
namespace space_may
def K0:=Func.code Tryz.f101
end space_may
def space_may.pt(b a nv:Int)(H:Array Obj)(R:Value->Array Obj->Prop):Prop:=
 if((decide (b<0)) || (decide (b>4)))=true then(
 R (.bool false) H)
 else
 if((a==0) || (a==1))=true then(
 R (.bool (nv==2)) H)
 else
 R (.bool ((((a==2) || (a==3)) && (decide (nv>=1))) && (decide (nv<=63)))) H
namespace space_may
theorem link{b a nv:Int}{H:Array Obj}{R:Value->Array Obj->Prop}(h:pt b a nv H R):C b a nv H R:=by
 refine T_en K0 37 Tryz.func101 ?_
 intro w0 Q hQ
 unfold pt at h
 refine T_su [(0,vi b),(1,vi a),(2,vi nv)]<| T_srz 0<| T_ed 1 [] []<| T_sz<| T_bz 0<| T_srz 1 ?_
 refine N_cut [(1,vi a),(2,vi nv),(7,.bool ((decide (b<0)) || (decide (b>4))))] ?_ ?_
 ·refine S_then ?_
  by_cases c3:((decide (b<0)) || (decide (b>4)))=true
  ·rw[if_pos c3]at h
   exact T_cTz 7 c3<| T_srz 2<| T_nr 1 [6] [.bool false] hQ h
  rw[if_neg c3]at h
  refine T_cFz 7 (eq_false_of_ne_true c3)<| T_srz 3 ?_
  refine N_cut [(1,vi a),(2,vi nv),(14,.bool ((a==0) || (a==1)))] ?_ ?_
  ·refine S_then ?_
   by_cases c7:((a==0) || (a==1))=true
   ·rw[if_pos c7]at h
    exact T_cTz 14 c7<| T_srz 4<| T_nr 3 [6] [.bool (nv==2)] hQ h
   rw[if_neg c7]at h
   refine T_cFz 14 (eq_false_of_ne_true c7)<| T_k ?_
   refine S_blockEnd ?_
   refine S_then ?_
   refine T_srz 5 ?_
   refine N_cut [(6,.bool ((((a==2) || (a==3)) && (decide (nv>=1))) && (decide (nv<=63))))] ?_ ?_
   ·refine S_then ?_
    exact T_ret [6] [.bool ((((a==2) || (a==3)) && (decide (nv>=1))) && (decide (nv<=63)))] hQ h
   intro hk
   refine T_n 3 [(1,vi a),(2,vi nv),(25,.bool (a==2))] ?_
   by_cases c9:a=2
   ·have b10:(a==2)=true:=beq_iff_eq.mpr c9
    refine N_env [(1,vi a),(2,vi nv),(25,.bool true)] (by rw[b10]) ?_
    refine T_nd 8 [1,25] [(33,.bool (decide (nv>=1)))] ?_
    by_cases c11:nv>=1
    ·have b12:(decide (nv>=1))=true:=decide_eq_true c11
     refine N_bd 33 b12<| T_n 4 [(6,.bool (decide (nv<=63)))] ?_
     refine N_end (by kernel_rfl) ?_
     refine S_env [(6,.bool ((((a==2) || (a==3)) && (decide (nv>=1))) && (decide (nv<=63))))] (by simp only[b10,b12,BL]) ?_
     exact hk
    have b12:(decide (nv>=1))=false:=decide_eq_false c11
    refine N_bd 33 b12<| T_n 4 [(6,.bool false)] ?_
    refine N_end (by kernel_rfl) ?_
    refine S_env [(6,.bool ((((a==2) || (a==3)) && (decide (nv>=1))) && (decide (nv<=63))))] (by simp only[b10,b12,BL]) ?_
    exact hk
   have b10:(a==2)=false:=beq_eq_false_iff_ne.mpr c9
   refine N_env [(1,vi a),(2,vi nv),(25,.bool false)] (by rw[b10]) ?_
   refine T_nd 4 [1,25] [(29,.bool (a==3))] ?_
   by_cases c13:a=3
   ·have b14:(a==3)=true:=beq_iff_eq.mpr c13
    refine N_bd 29 b14<| T_nd 4 [29] [(33,.bool (decide (nv>=1)))] ?_
    by_cases c15:nv>=1
    ·have b16:(decide (nv>=1))=true:=decide_eq_true c15
     refine N_bd 33 b16<| T_n 4 [(6,.bool (decide (nv<=63)))] ?_
     refine N_end (by kernel_rfl) ?_
     refine S_env [(6,.bool ((((a==2) || (a==3)) && (decide (nv>=1))) && (decide (nv<=63))))] (by simp only[b10,b14,b16,BL]) ?_
     exact hk
    have b16:(decide (nv>=1))=false:=decide_eq_false c15
    refine N_bd 33 b16<| T_n 4 [(6,.bool false)] ?_
    refine N_end (by kernel_rfl) ?_
    refine S_env [(6,.bool ((((a==2) || (a==3)) && (decide (nv>=1))) && (decide (nv<=63))))] (by simp only[b10,b14,b16,BL]) ?_
    exact hk
   have b14:(a==3)=false:=beq_eq_false_iff_ne.mpr c13
   refine N_bd 29 b14<| T_n 8 [(6,.bool false)] ?_
   refine N_end (by kernel_rfl) ?_
   refine S_env [(6,.bool ((((a==2) || (a==3)) && (decide (nv>=1))) && (decide (nv<=63))))] (by simp only[b10,b14,BL]) ?_
   exact hk
  intro hk
  refine T_n 3 [(1,vi a),(2,vi nv),(17,.bool (a==0))] ?_
  by_cases c5:a=0
  ·have b6:(a==0)=true:=beq_iff_eq.mpr c5
   refine N_env [(1,vi a),(2,vi nv),(17,.bool true)] (by rw[b6]) ?_
   refine T_nd 4 [17] [(14,.bool true)] ?_
   refine N_end (by kernel_rfl) ?_
   refine S_bd 14 (b:=true) (v:=((a==0) || (a==1))) (by simp only[b6,BL]) ?_
   exact hk
  have b6:(a==0)=false:=beq_eq_false_iff_ne.mpr c5
  refine N_env [(1,vi a),(2,vi nv),(17,.bool false)] (by rw[b6]) ?_
  refine T_nd 4 [17] [(14,.bool (a==1))] ?_
  refine N_end (by kernel_rfl) ?_
  refine S_bd 14 (b:=(a==1)) (v:=((a==0) || (a==1))) (by simp only[b6,BL]) ?_
  exact hk
 intro hk
 refine T_n 3 [(0,vi b),(1,vi a),(2,vi nv),(10,.bool (decide (b<0)))] ?_
 by_cases c1:b<0
 ·have b2:(decide (b<0))=true:=decide_eq_true c1
  refine N_env [(0,vi b),(1,vi a),(2,vi nv),(10,.bool true)] (by rw[b2]) ?_
  refine T_nd 4 [0,10] [(7,.bool true)] ?_
  refine N_end (by kernel_rfl) ?_
  refine S_bd 7 (b:=true) (v:=((decide (b<0)) || (decide (b>4)))) (by simp only[b2,BL]) ?_
  exact hk
 have b2:(decide (b<0))=false:=decide_eq_false c1
 refine N_env [(0,vi b),(1,vi a),(2,vi nv),(10,.bool false)] (by rw[b2]) ?_
 refine T_nd 4 [0,10] [(7,.bool (decide (b>4)))] ?_
 refine N_end (by kernel_rfl) ?_
 refine S_bd 7 (b:=(decide (b>4))) (v:=((decide (b<0)) || (decide (b>4)))) (by simp only[b2,BL]) ?_
 exact hk
end space_may

/-! (*moraine/space.Space).Current -/
namespace space_Space_Current
def K0:=Func.code Tryz.f102
end space_Space_Current
def space_Space_Current.pt(s:Option Addr)(d b:Int)(H:Array Obj)(R:Value->Array Obj->Prop):Prop:=
 onPtr s (
 R (.tuple #[.int .i64 0,.bool false]) H) (λsA=>
 if d<0 then(
 R (.tuple #[.int .i64 0,.bool false]) H)
 else
 if d>4 then(
 R (.tuple #[.int .i64 0,.bool false]) H)
 else
 if b<0 then(
 R (.tuple #[.int .i64 0,.bool false]) H)
 else
 if b>3 then(
 R (.tuple #[.int .i64 0,.bool false]) H)
 else
 ((0:Int)<=d/\d< (5:Int))/\
 ((0:Int)<=b/\b< (4:Int))/\
 ∃x:Int,hat H (((sA.add 1).add (Int.toNat d*4)).add (Int.toNat b*1))=some (.int .i64 x)/\
 if x=0 then(
 R (.tuple #[.int .i64 0,.bool false]) H)
 else
 ((0:Int)<=d/\d< (5:Int))/\
 ((0:Int)<=b/\b< (4:Int))/\
 ∃e:Int,hat H (((sA.add 1).add (Int.toNat d*4)).add (Int.toNat b*1))=some (.int .i64 e)/\
 R (.tuple #[.int .i64 (IntKind.wrap .i64 (e-1)),.bool true]) H)
namespace space_Space_Current
theorem link{s:Option Addr}{d b:Int}{H:Array Obj}{R:Value->Array Obj->Prop}(h:pt s d b H R):C s d b H R:=by
 refine T_en K0 46 Tryz.func102 ?_
 intro w0 Q hQ
 unfold pt at h
 refine T_su [(0,vp s),(1,vi d),(2,vi b)]<| T_srz 0<| T_ed 2 [] []<| T_sz<| T_srz 1<| T_nd 1 [] [(8,vp s)] ?_
 rcases s with _ | sA
 ·rw[onPtr_none]at h
  exact T_ed 28 [0,8] [(0,vp none),(36,.bool true)]<| T_tz 36<| T_srz 2<| T_nr 2 [6,7] [vi 0,.bool false] hQ h
 rw[onPtr_some]at h
 refine T_nd 6 [0,8] [(0,vp (some sA)),(14,.bool (decide (d<0)))] ?_
 by_cases c1:d<0
 ·rw[if_pos c1]at h
  exact N_bd 14 (decide_eq_true c1)<| T_ed 22 [14] [(36,.bool true)]<| T_tz 36<| T_srz 2<| T_nr 2 [6,7] [vi 0,.bool false] hQ h
 rw[if_neg c1]at h
 refine N_bd 14 (decide_eq_false c1)<| T_nd 4 [14] [(18,.bool (decide (d>4)))] ?_
 by_cases c3:d>4
 ·rw[if_pos c3]at h
  exact N_bd 18 (decide_eq_true c3)<| T_ed 18 [18] [(36,.bool true)]<| T_tz 36<| T_srz 2<| T_nr 2 [6,7] [vi 0,.bool false] hQ h
 rw[if_neg c3]at h
 refine N_bd 18 (decide_eq_false c3)<| T_nd 4 [18] [(22,.bool (decide (b<0)))] ?_
 by_cases c5:b<0
 ·rw[if_pos c5]at h
  exact N_bd 22 (decide_eq_true c5)<| T_ed 14 [22] [(36,.bool true)]<| T_tz 36<| T_srz 2<| T_nr 2 [6,7] [vi 0,.bool false] hQ h
 rw[if_neg c5]at h
 refine N_bd 22 (decide_eq_false c5)<| T_nd 4 [22] [(26,.bool (decide (b>3)))] ?_
 by_cases c7:b>3
 ·rw[if_pos c7]at h
  exact N_bd 26 (decide_eq_true c7)<| T_ed 10 [26] [(36,.bool true)]<| T_tz 36<| T_srz 2<| T_nr 2 [6,7] [vi 0,.bool false] hQ h
 rw[if_neg c7]at h
 refine N_bd 26 (decide_eq_false c7)<| T_nd 5 [] [(28,vi d),(29,vi b),(31,vp (some (sA.add 1)))] ?_
 obtain⟨q9,h⟩:=h
 refine T_v1 32 (indexAtN 71 (vp (some (sA.add 1))) (vi d)) (vp (some ((sA.add 1).add (Int.toNat d*4)))) (λw _=>indexArr_run (P:=Tryz.prog) (t:=71) (elem:=70) (sz:=4) (n:=5) (a:=(sA.add 1)) (k:=.i64) (i:=d) Tryz.underlying71 (λ_=>by kernel_rfl) q9.1 q9.2 w) [28,31] ?_
 obtain⟨q10,h⟩:=h
 refine T_v1 33 (indexAtN 70 (vp (some ((sA.add 1).add (Int.toNat d*4)))) (vi b)) (vp (some (((sA.add 1).add (Int.toNat d*4)).add (Int.toNat b*1)))) (λw _=>indexArr_run (P:=Tryz.prog) (t:=70) (elem:=3) (sz:=1) (n:=4) (a:=((sA.add 1).add (Int.toNat d*4))) (k:=.i64) (i:=b) Tryz.underlying70 (λ_=>by kernel_rfl) q10.1 q10.2 w) [29,32] ?_
 obtain⟨x,q11,h⟩:=h
 refine T_l1 34 3 q11 [33]<| T_ed 2 [26,34] [(36,.bool (x==0))] ?_
 by_cases c12:x=0
 ·rw[if_pos c12]at h
  exact T_cTz 36 (beq_iff_eq.mpr c12)<| T_srz 2<| T_nr 2 [6,7] [vi 0,.bool false] hQ h
 rw[if_neg c12]at h
 refine T_cFz 36 (beq_eq_false_iff_ne.mpr c12)<| T_kt<| T_srz 3<| T_n 5 [(38,vi d),(39,vi b),(41,vp (some (sA.add 1)))] ?_
 obtain⟨q14,h⟩:=h
 refine T_v1 42 (indexAtN 71 (vp (some (sA.add 1))) (vi d)) (vp (some ((sA.add 1).add (Int.toNat d*4)))) (λw _=>indexArr_run (P:=Tryz.prog) (t:=71) (elem:=70) (sz:=4) (n:=5) (a:=(sA.add 1)) (k:=.i64) (i:=d) Tryz.underlying71 (λ_=>by kernel_rfl) q14.1 q14.2 w) [38,41] ?_
 obtain⟨q15,h⟩:=h
 refine T_v1 43 (indexAtN 70 (vp (some ((sA.add 1).add (Int.toNat d*4)))) (vi b)) (vp (some (((sA.add 1).add (Int.toNat d*4)).add (Int.toNat b*1)))) (λw _=>indexArr_run (P:=Tryz.prog) (t:=70) (elem:=3) (sz:=1) (n:=4) (a:=((sA.add 1).add (Int.toNat d*4))) (k:=.i64) (i:=b) Tryz.underlying70 (λ_=>by kernel_rfl) q15.1 q15.2 w) [39,42] ?_
 obtain⟨e,q16,h⟩:=h
 exact T_l1 44 3 q16 [43]<| T_nr 3 [6,7] [vi (IntKind.wrap .i64 (e-1)),.bool true] hQ h
end space_Space_Current

/-! (*moraine/card.Cards).Gen -/
namespace card_Cards_Gen
def K0:=Func.code Tryz.f15
end card_Cards_Gen
def card_Cards_Gen.pt(c:Option Addr)(wv:Int)(H:Array Obj)(R:Value->Array Obj->Prop):Prop:=
 word_Addr.C wv H (λv H1=> ∃(ra:Int) (rb:Bool),v=.tuple #[.int .i64 ra,.bool rb]/\
 card_Cards_none.C c H1 (λq H2=> ∃x:Bool,q=.bool x/\
 if x=true then(
 R (.tuple #[.int .i64 0,.bool false]) H2)
 else
 if rb=true then(
 word_Tag.C wv H2 (λr H3=> ∃l:Int,r=.int .i64 l/\
 if l=6 then(
 R (.tuple #[.int .i64 0,.bool false]) H3)
 else
 ∃cA:Addr,c=some cA/\
 ∃o:Option Addr,hat H3 cA=some (.pointer o)/\
 ∃p:Addr,o=some p/\
 ∃n:Option Addr,hat H3 p=some (.pointer n)/\
 seg_Mem_Seg.C n (IntKind.wrap .i64 (Int.tdiv ra 64)) H3 (λs H4=> ∃(j g k f e a d:Int) (i:Bool),s=.tuple #[.agg #[.int .i64 j,.int .i64 g,.int .i64 k,.int .i64 f,.int .i64 e,.int .i64 a,.int .i64 d],.bool i]/\
 ∀(b:Nat) (H5:Array Obj),b=H4.size->H5=H4.push (.cells #[.int .i64 0,.int .i64 0,.int .i64 0,.int .i64 0,.int .i64 0,.int .i64 0,.int .i64 0] 76)->
 (CanPuts H5 (ad b) 0 7)/\ ∀H6,H6=hputs H5 (ad b) [.int .i64 j,.int .i64 g,.int .i64 k,.int .i64 f,.int .i64 e,.int .i64 a,.int .i64 d] 0->
 ∃m:Int,hat H6 (ad b)=some (.int .i64 m)/\
 R (.tuple #[.int .i64 m,.bool i]) H6)))
 else
 R (.tuple #[.int .i64 0,.bool false]) H2))
namespace card_Cards_Gen
theorem link{c:Option Addr}{wv:Int}{H:Array Obj}{R:Value->Array Obj->Prop}(h:pt c wv H R):C c wv H R:=by
 refine T_en K0 41 Tryz.func15 ?_
 intro w0 Q hQ
 unfold pt at h
 refine T_su [(0,vp c),(1,vu wv)]<| T_srz 0<| T_ed 2 [] []<| T_srz 1<| T_nd 1 [] [(10,vu wv)] ?_
 refine T_c (some 11) h ?_;clear h
 rintro v H1 ⟨ra,rb,rfl,h⟩
 refine T_pd [10] [(11,.tuple #[vi ra,.bool rb])]<| T_ed 5 [11] [(6,vi ra),(7,.bool rb)]<| T_sz<| T_srz 2<| T_nd 1 [] [(14,vp c)] ?_
 refine T_c (some 15) h ?_;clear h
 rintro q H2 ⟨x,rfl,h⟩
 refine T_pd [14] [(15,.bool x)]<| T_nd 1 [15] [(16,.bool x)] ?_
 by_cases c1:x=true
 ·rw[if_pos c1]at h
  exact N_bd 16 c1<| T_ed 8 [1,7,16] [(24,.bool true)]<| T_tz 24<| T_srz 3<| T_nr 2 [4,5] [vi 0,.bool false] hQ h
 rw[if_neg c1]at h
 refine N_bd 16 (eq_false_of_ne_true c1)<| T_nd 4 [7,16] [(20,.bool (!rb))] ?_
 by_cases c3:rb=true
 ·rw[if_pos c3]at h
  have b4:(!rb)=false:=congrArg Bool.not (c3)
  have b42:rb=true:=c3
  refine N_bd 20 (b:=(!rb)) (v:=false) (by simp only[b4,b42,Bool.not_true,Bool.not_false]) ?_
  clear b4 b42
  refine T_nd 1 [1] [(21,vu wv)] ?_
  refine T_c (some 22) h ?_;clear h
  rintro r H3 ⟨l,rfl,h⟩
  refine T_pd [21] [(22,vi l)]<| T_ed 2 [20,22] [(24,.bool (l==6))] ?_
  by_cases c5:l=6
  ·rw[if_pos c5]at h
   exact T_cTz 24 (beq_iff_eq.mpr c5)<| T_srz 3<| T_nr 2 [4,5] [vi 0,.bool false] hQ h
  rw[if_neg c5]at h
  refine T_cFz 24 (beq_eq_false_iff_ne.mpr c5)<| T_kt<| T_srz 4<| T_nd 1 [0,24] [(26,vp c)] ?_
  obtain⟨cA,rfl,h⟩:=h
  refine T_nd 2 [26] [(28,vp (some cA))] ?_
  obtain⟨o,q7,h⟩:=h
  refine T_l1 29 39 q7 [28] ?_
  obtain⟨p,rfl,h⟩:=h
  refine T_nd 2 [29] [(31,vp (some p))] ?_
  obtain⟨n,q8,h⟩:=h
  refine T_l1 32 69 q8 [31]<| T_nd 2 [6] [(34,vi (IntKind.wrap .i64 (Int.tdiv ra 64)))] ?_
  refine T_c (some 35) h ?_;clear h
  rintro s H4 ⟨j,g,k,f,e,a,d,i,rfl,h⟩
  refine⟨[(35,.tuple #[.agg #[vi j,vi g,vi k,vi f,vi e,vi a,vi d],.bool i])],pk,?_⟩
  refine T_n 3 [(36,.agg #[vi j,vi g,vi k,vi f,vi e,vi a,vi d]),(37,.bool i)]<| T_nw (some 8) (λb=>vp (pa b)) (.cells #[vi 0,vi 0,vi 0,vi 0,vi 0,vi 0,vi 0] 76) ?_
  intro b H5 e9 e10
  replace h:=h b H5 e9 e10
  refine T_pd [] [(8,vp (pa b))] ?_
  obtain⟨q12,h⟩:=h
  refine T_sta 76 [vi j,vi g,vi k,vi f,vi e,vi a,vi d] q12 ?_
  intro H6 e11
  replace h:=h H6 e11
  refine T_pd [36] []<| T_ed 1 [37] [(7,.bool i)]<| T_srz 5<| T_nd 1 [8] [(38,vp (pa b))] ?_
  obtain⟨m,q13,h⟩:=h
  exact T_l1 39 3 q13 [38]<| T_nr 3 [4,5] [vi m,.bool i] hQ h
 rw[if_neg c3]at h
 have b4:(!rb)=true:=congrArg Bool.not (eq_false_of_ne_true c3)
 have b42:rb=false:=eq_false_of_ne_true c3
 refine N_bd 20 (b:=(!rb)) (v:=true) (by simp only[b4,b42,Bool.not_true,Bool.not_false]) ?_
 clear b4 b42
 exact T_ed 4 [1,20] [(24,.bool true)]<| T_tz 24<| T_srz 3<| T_nr 2 [4,5] [vi 0,.bool false] hQ h
end card_Cards_Gen

/-! moraine/card.New -/
namespace card_New
def K0:=Func.code Tryz.f35
end card_New
def card_New.pt(a:Int)(H:Array Obj)(R:Value->Array Obj->Prop):Prop:=
 space_New.C a H (λv H1=> ∃(ra:Option Addr) (rb:Int),v=.tuple #[.pointer ra,.int .i64 rb]/\
 if rb=0 then(
 ∀(b:Nat) (H2:Array Obj),b=H1.size->H2=H1.push (.cells #[.pointer ra] 41)->
 R (.tuple #[.pointer (some (ad b)),.int .i64 0]) H2)
 else
 R (.tuple #[.pointer none,.int .i64 rb]) H1)
namespace card_New
theorem link{a:Int}{H:Array Obj}{R:Value->Array Obj->Prop}(h:pt a H R):C a H R:=by
 refine T_en K0 17 Tryz.func35 ?_
 intro w0 Q hQ
 unfold pt at h
 refine T_su [(0,vi a)]<| T_srz 0<| T_ed 2 [] []<| T_srz 1<| T_n 1 [(7,vi a)] ?_
 refine T_c (some 8) h ?_;clear h
 rintro v H1 ⟨ra,rb,rfl,h⟩
 refine⟨[(8,.tuple #[vp ra,vi rb])],pk,?_⟩
 refine T_ne 5 [(4,vp ra),(5,vi rb)]<| T_sz<| T_srz 2<| T_ed 2 [] [(12,.bool (rb !=0))] ?_
 by_cases c1:rb=0
 ·rw[if_pos c1]at h
  refine T_cFz 12 (bne_eq_false_iff_eq.mpr c1)<| T_kt<| T_srz 4<| T_n 2 [(15,.agg #[vp ra])]<| T_nw (some 16) (λb=>vp (pa b)) (.cells #[vp ra] 41) ?_
  intro b H2 e3 e4
  replace h:=h b H2 e3 e4
  refine⟨[(16,vp (pa b))],pk,?_⟩
  exact T_nr 2 [2,3] [vp (pa b),vi 0] hQ h
 rw[if_neg c1]at h
 exact T_cTz 12 (bne_iff_ne.mpr c1)<| T_srz 3<| T_nr 3 [2,3] [vp none,vi rb] hQ h
end card_New

/-! (*moraine/card.Cards).none -/
namespace card_Cards_none
def K0:=Func.code Tryz.f41
end card_Cards_none
def card_Cards_none.pt(c:Option Addr)(H:Array Obj)(R:Value->Array Obj->Prop):Prop:=
 onPtr c (
 R (.bool true) H) (λcA=>
 ∃x:Option Addr,hat H cA=some (.pointer x)/\
 onPtr x (
 R (.bool true) H) (λxA=>
 ∃d:Option Addr,hat H cA=some (.pointer d)/\
 ∃b:Addr,d=some b/\
 ∃a:Option Addr,hat H b=some (.pointer a)/\
 onPtr a (
 R (.bool true) H) (λe=>
 R (.bool false) H)))
namespace card_Cards_none
theorem link{c:Option Addr}{H:Array Obj}{R:Value->Array Obj->Prop}(h:pt c H R):C c H R:=by
 refine T_en K0 22 Tryz.func41 ?_
 intro w0 Q hQ
 unfold pt at h
 refine T_su [(0,vp c)]<| T_srz 0<| T_ed 1 [] []<| T_srz 1<| T_nd 1 [] [(3,vp c)] ?_
 rcases c with _ | cA
 ·rw[onPtr_none]at h
  exact T_nr 19 [2] [.bool true] hQ h
 rw[onPtr_some]at h
 refine T_n 5 [(0,vp (some cA)),(5,.bool false),(8,vp (some cA))] ?_
 obtain⟨x,q1,h⟩:=h
 refine T_l1 9 39 q1 [8] ?_
 rcases x with _ | xA
 ·rw[onPtr_none]at h
  exact T_nr 13 [2] [.bool true] hQ h
 rw[onPtr_some]at h
 refine T_n 6 [(12,.bool false),(15,vp (some cA))] ?_
 obtain⟨d,q2,h⟩:=h
 refine T_l1 16 39 q2 [15] ?_
 obtain⟨b,rfl,h⟩:=h
 refine T_nd 2 [16] [(18,vp (some b))] ?_
 obtain⟨a,q3,h⟩:=h
 refine T_l1 19 69 q3 [18] ?_
 rcases a with _ | e
 ·rw[onPtr_none]at h
  exact T_nr 3 [2] [.bool true] hQ h
 rw[onPtr_some]at h
 exact T_nr 3 [2] [.bool false] hQ h
end card_Cards_none

/-! (*moraine/card.Cards).younger -/
namespace card_Cards_younger
def K0:=Func.code Tryz.f99
end card_Cards_younger
def card_Cards_younger.pt(c:Option Addr)(k i sN g d f e wv a:Int)(H:Array Obj)(R:Value->Array Obj->Prop):Prop:=
 ∀(b:Nat) (H1:Array Obj),b=H.size->H1=H.push (.cells #[.int .i64 k,.int .i64 i,.int .i64 sN,.int .i64 g,.int .i64 d,.int .i64 f,.int .i64 e] 76)->
 card_Cards_Gen.C c wv H1 (λv H2=> ∃(ra:Int) (rb:Bool),v=.tuple #[.int .i64 ra,.bool rb]/\
 if rb=true then(
 ∃x:Int,hat H2 ((ad b).add 1)=some (.int .i64 x)/\
 if x=3 then(
 R (.int .i64 a) H2)
 else
 ∃j:Int,hat H2 (ad b)=some (.int .i64 j)/\
 if ra<j then(
 R (.int .i64 (if ra<a then ra else a)) H2)
 else
 R (.int .i64 a) H2)
 else
 R (.int .i64 a) H2)
namespace card_Cards_younger
theorem link{c:Option Addr}{k i sN g d f e wv a:Int}{H:Array Obj}{R:Value->Array Obj->Prop}(h:pt c k i sN g d f e wv a H R):C c k i sN g d f e wv a H R:=by
 refine T_en K0 33 Tryz.func99 ?_
 intro w0 Q hQ
 unfold pt at h
 refine T_su [(0,vp c),(1,.agg #[vi k,vi i,vi sN,vi g,vi d,vi f,vi e]),(2,vu wv),(3,vi a)]<| T_srz 0<| T_nw (some 5) (λb=>vp (pa b)) (.cells #[vi k,vi i,vi sN,vi g,vi d,vi f,vi e] 76) ?_
 intro b H1 e1 e2
 replace h:=h b H1 e1 e2
 refine T_pd [1] [(5,vp (pa b))]<| T_ed 1 [] []<| T_sz<| T_srz 1<| T_nd 2 [0,2] [(12,vp c),(13,vu wv)] ?_
 refine T_c (some 14) h ?_;clear h
 rintro v H2 ⟨ra,rb,rfl,h⟩
 refine T_pd [12,13] [(14,.tuple #[vi ra,.bool rb])]<| T_ed 5 [14] [(9,vi ra),(10,.bool rb)]<| T_srz 2<| T_nd 2 [10] [(18,.bool rb)] ?_
 by_cases c3:rb=true
 ·rw[if_pos c3]at h
  refine N_bd 18 c3<| T_nd 1 [] [(19,vp (some ((ad b).add 1)))] ?_
  obtain⟨x,q5,h⟩:=h
  refine T_l1 20 3 q5 [19]<| T_nd 3 [18,20] [(23,.bool (x !=3))] ?_
  by_cases c6:x=3
  ·rw[if_pos c6]at h
   exact N_bd 23 (bne_eq_false_iff_eq.mpr c6)<| T_ed 5 [5,23] [(28,.bool false)]<| T_fz 28<| T_kt<| T_srz 4<| T_nr 2 [8] [vi a] hQ h
  rw[if_neg c6]at h
  refine N_bd 23 (bne_iff_ne.mpr c6)<| T_nd 2 [5] [(24,vi ra),(25,vp (pa b))] ?_
  obtain⟨j,q8,h⟩:=h
  refine T_l1 26 3 q8 [25]<| T_ed 2 [23,24,26] [(28,.bool (decide (ra<j)))] ?_
  by_cases c9:ra<j
  ·rw[if_pos c9]at h
   exact T_cTz 28 (decide_eq_true c9)<| T_srz 3<| T_nr 4 [8] [vi (if ra<a then ra else a)] hQ h
  rw[if_neg c9]at h
  exact T_cFz 28 (decide_eq_false c9)<| T_kt<| T_srz 4<| T_nr 2 [8] [vi a] hQ h
 rw[if_neg c3]at h
 exact N_bd 18 (eq_false_of_ne_true c3)<| T_ed 10 [5,18] [(28,.bool false)]<| T_fz 28<| T_kt<| T_srz 4<| T_nr 2 [8] [vi a] hQ h
end card_Cards_younger

/-! (*moraine/card.Cards).Store -/
namespace card_Cards_Store
def K0:=Func.code Tryz.f132
def K2:=cb K0
def K4:=cb K2
def K12:=cb K4
def K20:=cb K12
def K22:=cb K20
def K23:=ca K22
end card_Cards_Store
def card_Cards_Store.pt(c:Option Addr)(d wv:Int)(H:Array Obj)(R:Value->Array Obj->Prop):Prop:=
 card_Cards_none.C c H (λv H1=> ∃x:Bool,v=.bool x/\
 if x=true then(
 R (.int .i64 18) H1)
 else
 ∃cA:Addr,c=some cA/\
 ∃ak:Option Addr,hat H1 cA=some (.pointer ak)/\
 ∃al:Addr,ak=some al/\
 ∃af:Option Addr,hat H1 al=some (.pointer af)/\
 seg_Mem_Write.C af d wv H1 (λao H2=> ∃aa:Int,ao=.int .i64 aa/\
 if aa=0 then(
 ∃ai:Option Addr,hat H2 cA=some (.pointer ai)/\
 ∃aj:Addr,ai=some aj/\
 ∃ah:Option Addr,hat H2 aj=some (.pointer ah)/\
 seg_Mem_Seg.C ah (IntKind.wrap .i64 (Int.tdiv d 64)) H2 (λap H3=> ∃(z r ac p o l m:Int) (rb:Bool),ap=.tuple #[.agg #[.int .i64 z,.int .i64 r,.int .i64 ac,.int .i64 p,.int .i64 o,.int .i64 l,.int .i64 m],.bool rb]/\
 ∀(b:Nat) (H4:Array Obj),b=H3.size->H4=H3.push (.cells #[.int .i64 0,.int .i64 0,.int .i64 0,.int .i64 0,.int .i64 0,.int .i64 0,.int .i64 0] 76)->
 (CanPuts H4 (ad b) 0 7)/\ ∀H5,H5=hputs H4 (ad b) [.int .i64 z,.int .i64 r,.int .i64 ac,.int .i64 p,.int .i64 o,.int .i64 l,.int .i64 m] 0->
 ∃am:Option Addr,hat H5 cA=some (.pointer am)/\
 ∃y:Addr,am=some y/\
 ∃s:Option Addr,hat H5 y=some (.pointer s)/\
 ∃u q xN f g e j:Int,RowAt H5 (ad b) 0 [.int .i64 u,.int .i64 q,.int .i64 xN,.int .i64 f,.int .i64 g,.int .i64 e,.int .i64 j]/\
 ((0:Int)<=(IntKind.wrap .i64 (Int.tdiv (Int.tmod d 64) 16))/\(IntKind.wrap .i64 (Int.tdiv (Int.tmod d 64) 16))< (4:Int))/\
 ∃ae:Int,hat H5 (((ad b).add 3).add (Int.toNat (IntKind.wrap .i64 (Int.tdiv (Int.tmod d 64) 16))*1))=some (.int .i64 ae)/\
 card_Cards_younger.C (some cA) u q xN f g e j wv ae H5 (λaq H6=> ∃ag:Int,aq=.int .i64 ag/\RowAt H6 cA 0 [.pointer (some y)]/\RowAt H6 y 0 [.pointer s]/\
 seg_Mem_Mark.C s (IntKind.wrap .i64 (Int.tdiv d 64)) (IntKind.wrap .i64 (Int.tdiv (Int.tmod d 64) 16)) ag H6 (λan H7=> ∃ab:Int,an=.int .i64 ab/\
 R (.int .i64 ab) H7))))
 else
 R (.int .i64 aa) H2))
namespace card_Cards_Store
theorem link{c:Option Addr}{d wv:Int}{H:Array Obj}{R:Value->Array Obj->Prop}(h:pt c d wv H R):C c d wv H R:=by
 refine T_en K0 62 Tryz.func132 ?_
 intro w0 Q hQ
 unfold pt at h
 refine T_su [(0,vp c),(1,vi d),(2,vu wv)]<| T_srz 0<| T_ed 1 [] []<| T_sz<| T_srz 1<| T_nd 1 [] [(12,vp c)] ?_
 refine T_c (some 13) h ?_;clear h
 rintro v H1 ⟨x,rfl,h⟩
 refine T_pd [12] [(13,.bool x)]<| T_e ?_
 by_cases c1:x=true
 ·rw[if_pos c1]at h
  exact T_cTz 13 c1<| T_srz 2<| T_nr 1 [6] [vi 18] hQ h
 rw[if_neg c1]at h
 refine T_cFz 13 (eq_false_of_ne_true c1)<| T_kt<| T_sz<| T_srz 3<| T_nd 1 [13] [(14,vp c)] ?_
 obtain⟨cA,rfl,h⟩:=h
 refine T_nd 2 [0,14] [(0,vp (some cA)),(16,vp (some cA))] ?_
 obtain⟨ak,q3,h⟩:=h
 refine T_l1 17 39 q3 [16] ?_
 obtain⟨al,rfl,h⟩:=h
 refine T_nd 2 [17] [(19,vp (some al))] ?_
 obtain⟨af,q4,h⟩:=h
 refine T_l1 20 69 q4 [19]<| T_nd 2 [] [(21,vi d),(22,vu wv)] ?_
 refine T_c (some 23) h ?_;clear h
 rintro ao H2 ⟨aa,rfl,h⟩
 refine T_pd [20,21,22] [(23,vi aa)]<| T_ed 1 [23] [(7,vi aa)]<| T_srz 4<| T_ed 2 [] [(25,.bool (aa !=0))] ?_
 by_cases c5:aa=0
 ·rw[if_pos c5]at h
  refine T_cFz 25 (bne_eq_false_iff_eq.mpr c5)<| T_kt<| T_srz 6<| T_ed 7 [1,7,25] [(8,vi (IntKind.wrap .i64 (Int.tdiv d 64))),(9,vi (IntKind.wrap .i64 (Int.tdiv (Int.tmod d 64) 16)))]<| T_srz 7<| T_nd 3 [] [(35,vp (some cA))] ?_
  obtain⟨ai,q7,h⟩:=h
  refine T_l1 36 39 q7 [35] ?_
  obtain⟨aj,rfl,h⟩:=h
  refine T_nd 2 [36] [(38,vp (some aj))] ?_
  obtain⟨ah,q8,h⟩:=h
  refine T_l1 39 69 q8 [38]<| T_nd 1 [] [(40,vi (IntKind.wrap .i64 (Int.tdiv d 64)))] ?_
  refine T_c (some 41) h ?_;clear h
  rintro ap H3 ⟨z,r,ac,p,o,l,m,rb,rfl,h⟩
  refine T_pd [39,40] [(41,.tuple #[.agg #[vi z,vi r,vi ac,vi p,vi o,vi l,vi m],.bool rb])]<| T_nd 3 [41] [(42,.agg #[vi z,vi r,vi ac,vi p,vi o,vi l,vi m]),(43,.bool rb)]<| T_nw (some 10) (λb=>vp (pa b)) (.cells #[vi 0,vi 0,vi 0,vi 0,vi 0,vi 0,vi 0] 76) ?_
  intro b H4 e9 e10
  replace h:=h b H4 e9 e10
  refine T_pd [] [(10,vp (pa b))] ?_
  obtain⟨q12,h⟩:=h
  refine T_sta 76 [vi z,vi r,vi ac,vi p,vi o,vi l,vi m] q12 ?_
  intro H5 e11
  replace h:=h H5 e11
  refine T_pd [42] []<| T_ed 1 [43] []<| T_sz ?_
  obtain⟨am,q13,h⟩:=h
  obtain⟨y,rfl,h⟩:=h
  obtain⟨s,q14,h⟩:=h
  obtain⟨u,q,xN,f,g,e,j,q15,h⟩:=h
  obtain⟨q16,h⟩:=h
  obtain⟨ae,q17,h⟩:=h
  refine S_regionG 8 (Code.ops K23) [(17,cA,[vp (some y)]),(17,y,[vp s]),(16,(ad b),[vi u,vi q,vi xN,vi f,vi g,vi e,vi j]),(16,(((ad b).add 3).add (Int.toNat (IntKind.wrap .i64 (Int.tdiv (Int.tmod d 64) 16))*1)),[vi ae])] 19 (bv 19 0) (by kernel_rfl) (by kernel_rfl) (by kernel_rfl) (by kernel_rfl) (by kernel_rfl) (show FactsAt _ _ _ from⟨⟨q13,trivial⟩,⟨q14,trivial⟩,q15,⟨q17,trivial⟩,trivial⟩) ?_
  refine T_gp 0 (some 44) (vp (some cA)) (bv 19 1) [(0,vp (some cA)),(2,vu wv),(8,vi (IntKind.wrap .i64 (Int.tdiv d 64))),(9,vi (IntKind.wrap .i64 (Int.tdiv (Int.tmod d 64) 16))),(10,vp (pa b)),(44,vp (some cA))]<| T_gp1 1 45 (vp (some cA)) (bv 19 3) [44]<| T_gp1 2 46 (vp (some cA)) (bv 19 7) [45]<| T_g1 3 47 (vp (some y)) (bv 19 15) [46] (loadN 39 (vp (some cA))) (held_one 17 (λ_=>by kernel_rfl) (List.Mem.head _) (.inl (by kernel_rfl)))<| T_gp1 4 48 (vp (some y)) (bv 19 31) [47]<| T_gp1 5 49 (vp (some y)) (bv 19 63) [48]<| T_g1 6 50 (vp s) (bv 19 127) [49] (loadN 69 (vp (some y))) (held_one 17 (λ_=>by kernel_rfl) (List.Mem.tail _ (List.Mem.head _)) (.inl (by kernel_rfl)))<| T_gp1 7 51 (vi (IntKind.wrap .i64 (Int.tdiv d 64))) (bv 19 255) [8]<| T_gp1 8 52 (vi (IntKind.wrap .i64 (Int.tdiv (Int.tmod d 64) 16))) (bv 19 511) [] ?_
  refine T_gp1 9 53 (vp (some cA)) (bv 19 1023) [0]<| T_g1 10 54 (.agg #[vi u,vi q,vi xN,vi f,vi g,vi e,vi j]) (bv 19 2047) [] (loadN 76 (vp (pa b))) (held_row 16 (λ_=>by kernel_rfl) (λ_=>by kernel_rfl) (List.Mem.tail _ (List.Mem.tail _ (List.Mem.head _))) (.inl (by kernel_rfl)))<| T_gp1 11 55 (vu wv) (bv 19 4095) [2]<| T_gp1 12 56 (vi (IntKind.wrap .i64 (Int.tdiv (Int.tmod d 64) 16))) (bv 19 8191) [9]<| T_gp1 13 57 (vp (some ((ad b).add 3))) (bv 19 16383) [10]<| T_g1 14 58 (vp (some (((ad b).add 3).add (Int.toNat (IntKind.wrap .i64 (Int.tdiv (Int.tmod d 64) 16))*1)))) (bv 19 32767) [56,57] (indexAtN 70 (vp (some ((ad b).add 3))) (vi (IntKind.wrap .i64 (Int.tdiv (Int.tmod d 64) 16)))) (λ_ w _ _ _=>indexArr_run (P:=Tryz.prog) (t:=70) (elem:=3) (sz:=1) (n:=4) (a:=((ad b).add 3)) (k:=.i64) (i:=(IntKind.wrap .i64 (Int.tdiv (Int.tmod d 64) 16))) Tryz.underlying70 (λ_=>by kernel_rfl) q16.1 q16.2 w)<| T_g1 15 59 (vi ae) (bv 19 65535) [58] (loadN 3 (vp (some (((ad b).add 3).add (Int.toNat (IntKind.wrap .i64 (Int.tdiv (Int.tmod d 64) 16))*1))))) (held_one 16 (λ_=>by kernel_rfl) (List.Mem.tail _ (List.Mem.tail _ (List.Mem.tail _ (List.Mem.head _)))) (.inl (by kernel_rfl))) ?_
  refine G_call 16 (some 60) (bv 19 131071) 99 #[vp (some cA),.agg #[vi u,vi q,vi xN,vi f,vi g,vi e,vi j],vu wv,vi ae] (by kernel_rfl) (λ_=>by kernel_rfl) h (by kernel_rfl) ?_;clear h
  rintro aq H6 ⟨ag,rfl,h⟩
  obtain⟨f18,f19,h⟩:=h
  refine⟨[(50,vp s),(51,vi (IntKind.wrap .i64 (Int.tdiv d 64))),(52,vi (IntKind.wrap .i64 (Int.tdiv (Int.tmod d 64) 16))),(60,vi ag)],pk,(show FactsAt _ _ _ from⟨f18,f19,trivial,trivial,trivial⟩),?_⟩
  refine G_call 17 (some 61) (bv 19 262143) 100 #[vp s,vi (IntKind.wrap .i64 (Int.tdiv d 64)),vi (IntKind.wrap .i64 (Int.tdiv (Int.tmod d 64) 16)),vi ag] (by kernel_rfl) (λ_=>by kernel_rfl) h (by kernel_rfl) ?_;clear h
  rintro an H7 ⟨ab,rfl,h⟩
  refine⟨[(61,vi ab)],pk,(show FactsAt _ _ _ from⟨trivial,trivial,trivial,trivial,trivial⟩),?_⟩
  refine T_g 18 (some 6) (vi ab) (bv 19 524287) [(6,vi ab)] (pure (.value (vi ab)):Sem Next) (λ_ _ _ _ _=>rfl) ?_
  refine G_sub [(6,vi ab)] sk ?_
  refine G_end (by kernel_rfl) ?_
  refine S_then ?_
  exact T_ret [6] [vi ab] hQ h
 rw[if_neg c5]at h
 exact T_cTz 25 (bne_iff_ne.mpr c5)<| T_srz 5<| T_nr 2 [6] [vi aa] hQ h
end card_Cards_Store

/-! (*moraine/obj.Heap).Cons -/
namespace obj_Heap_Cons
def K0:=Func.code Tryz.f11
end obj_Heap_Cons
def obj_Heap_Cons.pt(hv:Option Addr)(a d:Int)(H:Array Obj)(R:Value->Array Obj->Prop):Prop:=
 ∀(b:Nat) (H1:Array Obj),b=H.size->H1=H.push (.cells #[.int .u64 a,.int .u64 d] 24)->
 obj_Heap_put.C hv 0 1 (some (ad b)) 2 2 H1 (λv H2=> ∃ra rb:Int,v=.tuple #[.int .u64 ra,.int .i64 rb]/\
 R (.tuple #[.int .u64 ra,.int .i64 rb]) H2)
namespace obj_Heap_Cons
theorem link{hv:Option Addr}{a d:Int}{H:Array Obj}{R:Value->Array Obj->Prop}(h:pt hv a d H R):C hv a d H R:=by
 refine T_en K0 15 Tryz.func11 ?_
 intro w0 Q hQ
 unfold pt at h
 refine T_su [(0,vp hv),(1,vu a),(2,vu d)]<| T_srz 0<| T_ed 2 [] []<| T_srz 1<| T_n 3 [(8,vp hv),(9,vu a),(10,vu d)]<| T_nw (some 11) (λb=>vs (pa b) 2 2) (.cells #[vu a,vu d] 24) ?_
 intro b H1 e1 e2
 replace h:=h b H1 e1 e2
 refine T_pd [9,10] [(11,vs (pa b) 2 2)] ?_
 refine T_c (some 12) h ?_;clear h
 rintro v H2 ⟨ra,rb,rfl,h⟩
 refine⟨[(12,.tuple #[vu ra,vi rb])],pk,?_⟩
 exact T_nr 4 [6,7] [vu ra,vi rb] hQ h
end obj_Heap_Cons

/-! (*moraine/obj.Heap).Size -/
namespace obj_Heap_Size
def K0:=Func.code Tryz.f21
end obj_Heap_Size
def obj_Heap_Size.pt(hv:Option Addr)(wv:Int)(H:Array Obj)(R:Value->Array Obj->Prop):Prop:=
 obj_Heap_Pair.C hv wv H (λv H1=> ∃x:Bool,v=.bool x/\
 if x=true then(
 R (.int .i64 2) H1)
 else
 obj_Heap_object.C hv wv H1 (λa H2=> ∃(ra rb rc rd:Int) (re:Bool),a=.tuple #[.int .i64 ra,.int .i64 rb,.int .i64 rc,.int .u64 rd,.bool re]/\
 if re=true then(
 R (.int .i64 (IntKind.wrap .i64 (rc+1))) H2)
 else
 R (.int .i64 0) H2))
namespace obj_Heap_Size
theorem link{hv:Option Addr}{wv:Int}{H:Array Obj}{R:Value->Array Obj->Prop}(h:pt hv wv H R):C hv wv H R:=by
 refine T_en K0 25 Tryz.func21 ?_
 intro w0 Q hQ
 unfold pt at h
 refine T_su [(0,vp hv),(1,vu wv)]<| T_srz 0<| T_ed 1 [] []<| T_sz<| T_srz 1<| T_nd 2 [] [(10,vp hv),(11,vu wv)] ?_
 refine T_c (some 12) h ?_;clear h
 rintro v H1 ⟨x,rfl,h⟩
 refine T_pd [10,11] [(12,.bool x)]<| T_e ?_
 by_cases c1:x=true
 ·rw[if_pos c1]at h
  exact T_cTz 12 c1<| T_srz 2<| T_nr 1 [4] [vi 2] hQ h
 rw[if_neg c1]at h
 refine T_cFz 12 (eq_false_of_ne_true c1)<| T_kt<| T_sz<| T_srz 3<| T_n 2 [(14,vp hv),(15,vu wv)] ?_
 refine T_c (some 16) h ?_;clear h
 rintro a H2 ⟨ra,rb,rc,rd,re,rfl,h⟩
 refine⟨[(16,.tuple #[vi ra,vi rb,vi rc,vu rd,.bool re])],pk,?_⟩
 refine T_ne 11 [(7,vi rc),(9,.bool re)]<| T_srz 4<| T_ed 1 [9] [(22,.bool re)] ?_
 by_cases c3:re=true
 ·rw[if_pos c3]at h
  exact T_cTz 22 c3<| T_srz 5<| T_nr 3 [4] [vi (IntKind.wrap .i64 (rc+1))] hQ h
 rw[if_neg c3]at h
 exact T_cFz 22 (eq_false_of_ne_true c3)<| T_kt<| T_srz 6<| T_nr 1 [4] [vi 0] hQ h
end obj_Heap_Size

/-! (*moraine/obj.Heap).Car -/
namespace obj_Heap_Car
def K0:=Func.code Tryz.f39
end obj_Heap_Car
def obj_Heap_Car.pt(hv:Option Addr)(wv:Int)(H:Array Obj)(R:Value->Array Obj->Prop):Prop:=
 obj_Heap_half.C hv wv 0 H (λv H1=> ∃ra rb:Int,v=.tuple #[.int .u64 ra,.int .i64 rb]/\
 R (.tuple #[.int .u64 ra,.int .i64 rb]) H1)
namespace obj_Heap_Car
theorem link{hv:Option Addr}{wv:Int}{H:Array Obj}{R:Value->Array Obj->Prop}(h:pt hv wv H R):C hv wv H R:=by
 refine T_en K0 11 Tryz.func39 ?_
 intro w0 Q hQ
 unfold pt at h
 refine T_su [(0,vp hv),(1,vu wv)]<| T_srz 0<| T_ed 2 [] []<| T_srz 1<| T_n 2 [(6,vp hv),(7,vu wv)] ?_
 refine T_c (some 8) h ?_;clear h
 rintro v H1 ⟨ra,rb,rfl,h⟩
 refine⟨[(8,.tuple #[vu ra,vi rb])],pk,?_⟩
 exact T_nr 4 [4,5] [vu ra,vi rb] hQ h
end obj_Heap_Car

/-! (*moraine/obj.Heap).Pair -/
namespace obj_Heap_Pair
def K0:=Func.code Tryz.f48
end obj_Heap_Pair
def obj_Heap_Pair.pt(hv:Option Addr)(wv:Int)(H:Array Obj)(R:Value->Array Obj->Prop):Prop:=
 obj_Heap_pair.C hv wv H (λv H1=> ∃(ra:Int) (rb:Bool),v=.tuple #[.int .i64 ra,.bool rb]/\
 R (.bool rb) H1)
namespace obj_Heap_Pair
theorem link{hv:Option Addr}{wv:Int}{H:Array Obj}{R:Value->Array Obj->Prop}(h:pt hv wv H R):C hv wv H R:=by
 refine T_en K0 14 Tryz.func48 ?_
 intro w0 Q hQ
 unfold pt at h
 refine T_su [(0,vp hv),(1,vu wv)]<| T_srz 0<| T_ed 1 [] []<| T_srz 1<| T_n 2 [(8,vp hv),(9,vu wv)] ?_
 refine T_c (some 10) h ?_;clear h
 rintro v H1 ⟨ra,rb,rfl,h⟩
 refine⟨[(10,.tuple #[vi ra,.bool rb])],pk,?_⟩
 exact T_ne 5 [(6,.bool rb)]<| T_srz 2<| T_nr 2 [4] [.bool rb] hQ h
end obj_Heap_Pair

/-! (*moraine/obj.Heap).half -/
namespace obj_Heap_half
def K0:=Func.code Tryz.f79
end obj_Heap_half
def obj_Heap_half.pt(hv:Option Addr)(wv i:Int)(H:Array Obj)(R:Value->Array Obj->Prop):Prop:=
 obj_Heap_pair.C hv wv H (λv H1=> ∃(ra:Int) (rb:Bool),v=.tuple #[.int .i64 ra,.bool rb]/\
 if rb=true then(
 ∃g:Addr,hv=some g/\
 ∃x:Option Addr,hat H1 g=some (.pointer x)/\
 ∃xA:Addr,x=some xA/\
 ∃f:Option Addr,hat H1 xA=some (.pointer f)/\
 ∃e:Addr,f=some e/\
 ∃d:Option Addr,hat H1 e=some (.pointer d)/\
 seg_Mem_Read.C d (IntKind.wrap .i64 (ra+i)) H1 (λj H2=> ∃b a:Int,j=.tuple #[.int .u64 b,.int .i64 a]/\
 R (.tuple #[.int .u64 b,.int .i64 a]) H2))
 else
 R (.tuple #[.int .u64 0,.int .i64 3]) H1)
namespace obj_Heap_half
theorem link{hv:Option Addr}{wv i:Int}{H:Array Obj}{R:Value->Array Obj->Prop}(h:pt hv wv i H R):C hv wv i H R:=by
 refine T_en K0 34 Tryz.func79 ?_
 intro w0 Q hQ
 unfold pt at h
 refine T_su [(0,vp hv),(1,vu wv),(2,vi i)]<| T_srz 0<| T_ed 2 [] []<| T_srz 1<| T_nd 2 [1] [(11,vp hv),(12,vu wv)] ?_
 refine T_c (some 13) h ?_;clear h
 rintro v H1 ⟨ra,rb,rfl,h⟩
 refine T_pd [11,12] [(13,.tuple #[vi ra,.bool rb])]<| T_ed 5 [13] [(8,vi ra),(9,.bool rb)]<| T_sz<| T_srz 2<| T_ed 2 [9] [(17,.bool (!rb))] ?_
 by_cases c1:rb=true
 ·rw[if_pos c1]at h
  refine T_cFz 17 (congrArg Bool.not (c1))<| T_kt<| T_srz 4<| T_nd 1 [0,17] [(18,vp hv)] ?_
  obtain⟨g,rfl,h⟩:=h
  refine T_nd 2 [18] [(20,vp (some g))] ?_
  obtain⟨x,q3,h⟩:=h
  refine T_l1 21 26 q3 [20] ?_
  obtain⟨xA,rfl,h⟩:=h
  refine T_nd 2 [21] [(23,vp (some xA))] ?_
  obtain⟨f,q4,h⟩:=h
  refine T_l1 24 39 q4 [23] ?_
  obtain⟨e,rfl,h⟩:=h
  refine T_nd 2 [24] [(26,vp (some e))] ?_
  obtain⟨d,q5,h⟩:=h
  refine T_l1 27 69 q5 [26]<| T_nd 3 [2,8] [(30,vi (IntKind.wrap .i64 (ra+i)))] ?_
  refine T_c (some 31) h ?_;clear h
  rintro j H2 ⟨b,a,rfl,h⟩
  refine⟨[(31,.tuple #[vu b,vi a])],pk,?_⟩
  exact T_nr 4 [6,7] [vu b,vi a] hQ h
 rw[if_neg c1]at h
 exact T_cTz 17 (congrArg Bool.not (eq_false_of_ne_true c1))<| T_srz 3<| T_nr 2 [6,7] [vu 0,vi 3] hQ h
end obj_Heap_half

/-! (*moraine/obj.Heap).Weak -/
namespace obj_Heap_Weak
def K0:=Func.code Tryz.f83
end obj_Heap_Weak
def obj_Heap_Weak.pt(hv:Option Addr)(a d:Int)(H:Array Obj)(R:Value->Array Obj->Prop):Prop:=
 ∀(b:Nat) (H1:Array Obj),b=H.size->H1=H.push (.cells #[.int .u64 a,.int .u64 d] 24)->
 obj_Heap_put.C hv 1 2 (some (ad b)) 2 2 H1 (λv H2=> ∃ra rb:Int,v=.tuple #[.int .u64 ra,.int .i64 rb]/\
 R (.tuple #[.int .u64 ra,.int .i64 rb]) H2)
namespace obj_Heap_Weak
theorem link{hv:Option Addr}{a d:Int}{H:Array Obj}{R:Value->Array Obj->Prop}(h:pt hv a d H R):C hv a d H R:=by
 refine T_en K0 15 Tryz.func83 ?_
 intro w0 Q hQ
 unfold pt at h
 refine T_su [(0,vp hv),(1,vu a),(2,vu d)]<| T_srz 0<| T_ed 2 [] []<| T_srz 1<| T_n 3 [(8,vp hv),(9,vu a),(10,vu d)]<| T_nw (some 11) (λb=>vs (pa b) 2 2) (.cells #[vu a,vu d] 24) ?_
 intro b H1 e1 e2
 replace h:=h b H1 e1 e2
 refine T_pd [9,10] [(11,vs (pa b) 2 2)] ?_
 refine T_c (some 12) h ?_;clear h
 rintro v H2 ⟨ra,rb,rfl,h⟩
 refine⟨[(12,.tuple #[vu ra,vi rb])],pk,?_⟩
 exact T_nr 4 [6,7] [vu ra,vi rb] hQ h
end obj_Heap_Weak

/-! (*moraine/obj.Heap).pair -/
namespace obj_Heap_pair
def K0:=Func.code Tryz.f89
end obj_Heap_pair
def obj_Heap_pair.pt(hv:Option Addr)(wv:Int)(H:Array Obj)(R:Value->Array Obj->Prop):Prop:=
 obj_Heap_at.C hv wv 1 0 H (λv H1=> ∃(ra:Int) (rb:Bool),v=.tuple #[.int .i64 ra,.bool rb]/\
 if rb=true then(
 R (.tuple #[.int .i64 ra,.bool ((Int.tmod ra 2)==0)]) H1)
 else
 obj_Heap_at.C hv wv 2 1 H1 (λd H2=> ∃(a:Int) (b:Bool),d=.tuple #[.int .i64 a,.bool b]/\
 R (.tuple #[.int .i64 a,.bool (b && ((Int.tmod a 2)==0))]) H2))
namespace obj_Heap_pair
theorem link{hv:Option Addr}{wv:Int}{H:Array Obj}{R:Value->Array Obj->Prop}(h:pt hv wv H R):C hv wv H R:=by
 refine T_en K0 29 Tryz.func89 ?_
 intro w0 Q hQ
 unfold pt at h
 refine T_su [(0,vp hv),(1,vu wv)]<| T_srz 0<| T_ed 2 [] []<| T_srz 1<| T_nd 2 [] [(9,vp hv),(10,vu wv)] ?_
 refine T_c (some 11) h ?_;clear h
 rintro v H1 ⟨ra,rb,rfl,h⟩
 refine T_pd [9,10] [(11,.tuple #[vi ra,.bool rb])]<| T_ed 5 [11] [(6,vi ra),(7,.bool rb)]<| T_sz<| T_srz 2<| T_ed 2 [] [(15,.bool (!rb))] ?_
 by_cases c1:rb=true
 ·rw[if_pos c1]at h
  have b2:(!rb)=false:=congrArg Bool.not (c1)
  have b22:rb=true:=c1
  refine S_bd 7 (b:=rb) (v:=true) (by simp only[b2,b22,Bool.not_true,Bool.not_false])<| S_bd 15 (b:=(!rb)) (v:=false) (by simp only[b2,b22,Bool.not_true,Bool.not_false]) ?_
  clear b2 b22
  exact T_fz 15<| T_kt<| T_srz 4<| T_nr 9 [4,5] [vi ra,.bool ((Int.tmod ra 2)==0)] hQ h
 rw[if_neg c1]at h
 have b2:(!rb)=true:=congrArg Bool.not (eq_false_of_ne_true c1)
 have b22:rb=false:=eq_false_of_ne_true c1
 refine S_bd 7 (b:=rb) (v:=false) (by simp only[b2,b22,Bool.not_true,Bool.not_false])<| S_bd 15 (b:=(!rb)) (v:=true) (by simp only[b2,b22,Bool.not_true,Bool.not_false]) ?_
 clear b2 b22
 refine T_tz 15<| T_rz 3<| T_n 2 [(17,vp hv),(18,vu wv)] ?_
 refine T_c (some 19) h ?_;clear h
 rintro d H2 ⟨a,b,rfl,h⟩
 refine⟨[(19,.tuple #[vi a,.bool b])],pk,?_⟩
 refine T_ne 5 [(6,vi a),(7,.bool b)]<| T_srz 4 ?_
 refine N_cut [(4,vi a),(5,.bool (b && ((Int.tmod a 2)==0)))] ?_ ?_
 ·refine S_then ?_
  exact T_ret [4,5] [vi a,.bool (b && ((Int.tmod a 2)==0))] hQ h
 intro hk
 refine T_n 3 [(6,vi a),(22,vi a),(24,.bool b)] ?_
 by_cases c3:b=true
 ·have b4:b=true:=c3
  refine N_env [(6,vi a),(22,vi a),(24,.bool true)] (by rw[b4]) ?_
  refine T_n 6 [(4,vi a),(5,.bool ((Int.tmod a 2)==0))] ?_
  refine N_end (by kernel_rfl) ?_
  refine S_env [(4,vi a),(5,.bool (b && ((Int.tmod a 2)==0)))] (by simp only[b4,BL]) ?_
  exact hk
 have b4:b=false:=eq_false_of_ne_true c3
 refine N_env [(6,vi a),(22,vi a),(24,.bool false)] (by rw[b4]) ?_
 refine T_n 6 [(4,vi a),(5,.bool false)] ?_
 refine N_end (by kernel_rfl) ?_
 refine S_env [(4,vi a),(5,.bool (b && ((Int.tmod a 2)==0)))] (by simp only[b4,BL]) ?_
 exact hk
end obj_Heap_pair

/-! (*moraine/obj.Heap).SetCdr -/
namespace obj_Heap_SetCdr
def K0:=Func.code Tryz.f110
end obj_Heap_SetCdr
def obj_Heap_SetCdr.pt(hv:Option Addr)(wv v:Int)(H:Array Obj)(R:Value->Array Obj->Prop):Prop:=
 obj_Heap_set.C hv wv 1 v H (λa H1=> ∃x:Int,a=.int .i64 x/\
 R (.int .i64 x) H1)
namespace obj_Heap_SetCdr
theorem link{hv:Option Addr}{wv v:Int}{H:Array Obj}{R:Value->Array Obj->Prop}(h:pt hv wv v H R):C hv wv v H R:=by
 refine T_en K0 11 Tryz.func110 ?_
 intro w0 Q hQ
 unfold pt at h
 refine T_su [(0,vp hv),(1,vu wv),(2,vu v)]<| T_srz 0<| T_ed 1 [] []<| T_srz 1<| T_n 3 [(7,vp hv),(8,vu wv),(9,vu v)] ?_
 refine T_c (some 10) h ?_;clear h
 rintro a H1 ⟨x,rfl,h⟩
 refine⟨[(10,vi x)],pk,?_⟩
 exact T_nr 1 [6] [vi x] hQ h
end obj_Heap_SetCdr

/-! (*moraine/obj.Heap).SetCar -/
namespace obj_Heap_SetCar
def K0:=Func.code Tryz.f118
end obj_Heap_SetCar
def obj_Heap_SetCar.pt(hv:Option Addr)(wv v:Int)(H:Array Obj)(R:Value->Array Obj->Prop):Prop:=
 obj_Heap_set.C hv wv 0 v H (λa H1=> ∃x:Int,a=.int .i64 x/\
 R (.int .i64 x) H1)
namespace obj_Heap_SetCar
theorem link{hv:Option Addr}{wv v:Int}{H:Array Obj}{R:Value->Array Obj->Prop}(h:pt hv wv v H R):C hv wv v H R:=by
 refine T_en K0 11 Tryz.func118 ?_
 intro w0 Q hQ
 unfold pt at h
 refine T_su [(0,vp hv),(1,vu wv),(2,vu v)]<| T_srz 0<| T_ed 1 [] []<| T_srz 1<| T_n 3 [(7,vp hv),(8,vu wv),(9,vu v)] ?_
 refine T_c (some 10) h ?_;clear h
 rintro a H1 ⟨x,rfl,h⟩
 refine⟨[(10,vi x)],pk,?_⟩
 exact T_nr 1 [6] [vi x] hQ h
end obj_Heap_SetCar

/-! (*moraine/obj.Heap).set -/
namespace obj_Heap_set
def K0:=Func.code Tryz.f131
end obj_Heap_set
def obj_Heap_set.pt(hv:Option Addr)(wv i v:Int)(H:Array Obj)(R:Value->Array Obj->Prop):Prop:=
 obj_Heap_pair.C hv wv H (λd H1=> ∃(ra:Int) (rb:Bool),d=.tuple #[.int .i64 ra,.bool rb]/\
 if rb=true then(
 ∃b:Addr,hv=some b/\
 ∃x:Option Addr,hat H1 b=some (.pointer x)/\
 card_Cards_Store.C x (IntKind.wrap .i64 (ra+i)) v H1 (λe H2=> ∃a:Int,e=.int .i64 a/\
 R (.int .i64 a) H2))
 else
 R (.int .i64 3) H1)
namespace obj_Heap_set
theorem link{hv:Option Addr}{wv i v:Int}{H:Array Obj}{R:Value->Array Obj->Prop}(h:pt hv wv i v H R):C hv wv i v H R:=by
 refine T_en K0 28 Tryz.func131 ?_
 intro w0 Q hQ
 unfold pt at h
 refine T_su [(0,vp hv),(1,vu wv),(2,vi i),(3,vu v)]<| T_srz 0<| T_ed 1 [] []<| T_srz 1<| T_nd 2 [1] [(12,vp hv),(13,vu wv)] ?_
 refine T_c (some 14) h ?_;clear h
 rintro d H1 ⟨ra,rb,rfl,h⟩
 refine T_pd [12,13] [(14,.tuple #[vi ra,.bool rb])]<| T_ed 5 [14] [(9,vi ra),(10,.bool rb)]<| T_sz<| T_srz 2<| T_ed 2 [10] [(18,.bool (!rb))] ?_
 by_cases c1:rb=true
 ·rw[if_pos c1]at h
  refine T_cFz 18 (congrArg Bool.not (c1))<| T_kt<| T_srz 4<| T_nd 1 [0,18] [(19,vp hv)] ?_
  obtain⟨b,rfl,h⟩:=h
  refine T_nd 2 [19] [(21,vp (some b))] ?_
  obtain⟨x,q3,h⟩:=h
  refine T_l1 22 26 q3 [21]<| T_n 4 [(22,vp x),(25,vi (IntKind.wrap .i64 (ra+i))),(26,vu v)] ?_
  refine T_c (some 27) h ?_;clear h
  rintro e H2 ⟨a,rfl,h⟩
  refine⟨[(27,vi a)],pk,?_⟩
  exact T_nr 1 [8] [vi a] hQ h
 rw[if_neg c1]at h
 exact T_cTz 18 (congrArg Bool.not (eq_false_of_ne_true c1))<| T_srz 3<| T_nr 1 [8] [vi 3] hQ h
end obj_Heap_set

/-! (*moraine/seg.Mem).Taken -/
namespace seg_Mem_Taken
def K0:=Func.code Tryz.f23
def K2:=cb K0
def K4:=cb K2
def K12:=cb K4
def K13:=ca K12
def K16:=cb K13
def K17:=ca K16
def K18:=ca K17
end seg_Mem_Taken
def seg_Mem_Taken.pt(m e:Option Addr)(d f:Nat)(H:Array Obj)(R:Value->Array Obj->Prop):Prop:=
 ∀(b:Nat) (H1:Array Obj),b=H.size->H1=H.push (.cells #[.pointer m] 69)->
 ∃x:Option Addr,hat H1 (ad b)=some (.pointer x)/\
 onPtr x (
 R (.slice none 0 0) H1) (λxA=>
 ∃ac:Option Addr,hat H1 (ad b)=some (.pointer ac)/\
 ∃af:Addr,ac=some af/\
 ∃(xB:Option Addr) (xN xC:Nat),hat H1 af=some (.slice xB xN xC)/\
 ∃(r:(Option Addr)->Nat->Nat->Int->Array Obj->Prop) (m19:(Option Addr)->Nat->Nat->Int->Array Obj->Nat),r none 0 0 0 H1/\ ∀(lB:Option Addr) (lN:Nat) (lC:Nat) (s15:Int) (H2:Array Obj),r lB lN lC s15 H2->
 if s15< (xN:Int)then(
 ∃ab:Option Addr,hat H2 (ad b)=some (.pointer ab)/\
 ∃ae:Addr,ab=some ae/\
 ∃(q:Option Addr) (l n:Nat),hat H2 ae=some (.slice q l n)/\
 ∃g:Addr,q=some g/\
 ((0:Int)<=s15/\s15< (l:Int))/\
 ∃p:Int,hat H2 ((g.add (Int.toNat s15*72)).add 7)=some (.int .i64 p)/\
 if p>0 then(
 if(d:Int)=0 then(
 ∀(z:Nat) (H3:Array Obj),z=H2.size->H3=H2.push (.cells #[.int .i64 s15] 3)->
 appendK 1 3 8 [.int .i64 0] lB lN lC (some (ad z)) 1 H3 (λap u H4=>
 (r ap (lN+1) u (IntKind.wrap .i64 (s15+1)) H4/\m19 ap (lN+1) u (IntKind.wrap .i64 (s15+1)) H4<m19 lB lN lC s15 H2)))
 else
 ∃y:Int,hat H2 (g.add (Int.toNat s15*72))=some (.int .i64 y)/\
 slices_Contains_int_int.C e d f y H2 (λv H5=> ∃s:Bool,v=.bool s/\
 if s=true then(
 ∀(aa:Nat) (H6:Array Obj),aa=H5.size->H6=H5.push (.cells #[.int .i64 s15] 3)->
 appendK 1 3 8 [.int .i64 0] lB lN lC (some (ad aa)) 1 H6 (λo j H7=>
 (r o (lN+1) j (IntKind.wrap .i64 (s15+1)) H7/\m19 o (lN+1) j (IntKind.wrap .i64 (s15+1)) H7<m19 lB lN lC s15 H2)))
 else
 (r lB lN lC (IntKind.wrap .i64 (s15+1)) H5/\m19 lB lN lC (IntKind.wrap .i64 (s15+1)) H5<m19 lB lN lC s15 H2)))
 else
 (r lB lN lC (IntKind.wrap .i64 (s15+1)) H2/\m19 lB lN lC (IntKind.wrap .i64 (s15+1)) H2<m19 lB lN lC s15 H2))
 else
 slices_SortFunc_int_int.C lB lN lC (.func (.func 53) #[] #[.pointer (some (ad b))]) H2 (λ_ H8=>
 R (.slice lB lN lC) H8))
namespace seg_Mem_Taken
theorem link{m e:Option Addr}{d f:Nat}{H:Array Obj}{R:Value->Array Obj->Prop}(h:pt m e d f H R):C m e d f H R:=by
 refine T_en K0 52 Tryz.func23 ?_
 intro w0 Q hQ
 unfold pt at h
 refine T_su [(0,vp m),(1,vs e d f)]<| T_srz 0<| T_nw (some 2) (λb=>vp (pa b)) (.cells #[vp m] 69) ?_
 intro b H1 e1 e2
 replace h:=h b H1 e1 e2
 refine T_pd [0] [(2,vp (pa b))]<| T_ed 1 [] []<| T_sz<| T_srz 1 ?_
 obtain⟨x,q3,h⟩:=h
 refine T_l1 8 69 q3 [] ?_
 rcases x with _ | xA
 ·rw[onPtr_none]at h
  exact T_ed 1 [8] [(9,.bool true)]<| T_tz 9<| T_srz 2<| T_nr 1 [4] [vs none 0 0] hQ h
 rw[onPtr_some]at h
 refine T_ed 1 [8] [(9,.bool false)]<| T_fz 9<| T_kt<| T_srz 3<| T_ed 1 [9] [(5,vs none 0 0)]<| T_sz<| T_srz 4 ?_
 obtain⟨ac,q4,h⟩:=h
 refine T_l1 10 69 q4 [] ?_
 obtain⟨af,rfl,h⟩:=h
 refine T_nd 2 [10] [(12,vp (some af))] ?_
 obtain⟨xB,xN,xC,q5,h⟩:=h
 refine T_l1 13 110 q5 [12]<| T_ed 2 [13] [(14,vi xN),(15,vi 0)]<| T_bz 0 ?_
 obtain⟨r,m19,i6,i7⟩:=h
 refine S_loop (x:=K18) (σ:=(Option Addr)×Nat×Nat×Int) (λs_=> [(1,vs e d f),(2,vp (pa b)),(5,vs s_.1 s_.2.1 s_.2.2.1),(14,vi xN),(15,vi s_.2.2.2)]) (λs_ H=>r s_.1 s_.2.1 s_.2.2.1 s_.2.2.2 H) (λs_ H=>m19 s_.1 s_.2.1 s_.2.2.1 s_.2.2.2 H) ((none,0,0,0):(Option Addr)×Nat×Nat×Int) (by kernel_rfl) i6 sk ?_
 rintro⟨lB,lN,lC,s15⟩ H2 i8
 have h:=i7 lB lN lC s15 H2 i8
 refine T_su [(1,vs e d f),(2,vp (pa b)),(5,vs lB lN lC),(14,vi xN),(15,vi s15)]<| T_srz 5<| T_ed 1 [] [(16,.bool (decide (s15< (xN:Int))))]<| T_sz ?_
 by_cases c9:s15< (xN:Int)
 ·rw[if_pos c9]at h
  refine T_cTz 16 (decide_eq_true c9)<| T_kt<| T_sz<| T_bz 1<| T_srz 6<| T_ed 2 [16] [(6,vi s15)]<| T_srz 7 ?_
  obtain⟨ab,q11,h⟩:=h
  refine T_l1 18 69 q11 [] ?_
  obtain⟨ae,rfl,h⟩:=h
  refine T_nd 2 [18] [(20,vp (some ae))] ?_
  obtain⟨q,l,n,q12,h⟩:=h
  refine T_l1 21 110 q12 [20]<| T_nd 1 [] [(22,vi s15)] ?_
  obtain⟨g,rfl,h⟩:=h
  obtain⟨q13,h⟩:=h
  refine T_xd (some 23) 110 116 72 g l n .i64 s15 Tryz.underlying110 q13.1 q13.2 [21,22] [(23,vp (some (g.add (Int.toNat s15*72))))]<| T_ed 1 [23] [(7,vp (some (g.add (Int.toNat s15*72))))]<| T_srz 8<| T_nd 3 [] [(26,vp (some ((g.add (Int.toNat s15*72)).add 7)))] ?_
  obtain⟨p,q14,h⟩:=h
  refine T_l1 27 3 q14 [26]<| T_nd 2 [27] [(29,.bool (decide (p>0)))] ?_
  by_cases c15:p>0
  ·rw[if_pos c15]at h
   refine N_bd 29 (decide_eq_true c15)<| T_nd 4 [] [(33,.bool ((d:Int)==0))] ?_
   by_cases c17:(d:Int)=0
   ·rw[if_pos c17]at h
    refine N_bd 33 (beq_iff_eq.mpr c17)<| T_ed 9 [7,29,33] [(42,.bool true)]<| T_tz 42<| T_rz 9<| T_nd 2 [5,6,42] [(43,vs lB lN lC),(44,vi s15)]<| T_nw (some 45) (λb=>vs (pa b) 1 1) (.cells #[vi s15] 3) ?_
    intro z H3 e19 e20
    replace h:=h z H3 e19 e20
    refine T_pd [44] [(45,vs (pa z) 1 1)] ?_
    refine N_op (some 46) (appendN #[67,67] 67 #[vs lB lN lC,vs (pa z) 1 1]) _ (λ_=>by kernel_rfl) (ss_append (T:=3) (sz:=1) (bytes:=8) (zero:=(vi 0:Value)) Tryz.underlying67 Tryz.underlying67 rfl (show Tryz.prog.info? 3=some Tryz.t3 from by kernel_rfl) (by kernel_rfl) (by kernel_rfl) (by decide) (by kernel_rfl) (by first | exact h | (simpa only[Value.cells,List.toList_toArray]using h))) ?_;clear h
    rintro _ H4 ⟨ap,u,rfl,h⟩
    refine T_pd [43,45] [(46,vs ap (lN+1) u)]<| T_nd 1 [46] [(5,vs ap (lN+1) u)] ?_
    refine N_end (by kernel_rfl) ?_
    refine S_blockEnd ?_
    refine S_then ?_
    refine T_rz 10<| T_ed 2 [15] [(15,vi (IntKind.wrap .i64 (s15+1)))] ?_
    exact S_round ((ap,(lN+1),u,(IntKind.wrap .i64 (s15+1))):(Option Addr)×Nat×Nat×Int) sk h
   rw[if_neg c17]at h
   refine N_bd 33 (beq_eq_false_iff_ne.mpr c17)<| T_nd 5 [7] [(34,vs e d f),(38,vp (some (g.add (Int.toNat s15*72))))] ?_
   obtain⟨y,q21,h⟩:=h
   refine T_l1 39 3 q21 [38] ?_
   refine T_c (some 40) h ?_;clear h
   rintro v H5 ⟨s,rfl,h⟩
   refine T_pd [34,39] [(40,.bool s)]<| T_ed 2 [29,33,40] [(42,.bool s)] ?_
   by_cases c22:s=true
   ·rw[if_pos c22]at h
    refine T_cTz 42 c22<| T_rz 9<| T_nd 2 [5,6,42] [(43,vs lB lN lC),(44,vi s15)]<| T_nw (some 45) (λb=>vs (pa b) 1 1) (.cells #[vi s15] 3) ?_
    intro aa H6 e24 e25
    replace h:=h aa H6 e24 e25
    refine T_pd [44] [(45,vs (pa aa) 1 1)] ?_
    refine N_op (some 46) (appendN #[67,67] 67 #[vs lB lN lC,vs (pa aa) 1 1]) _ (λ_=>by kernel_rfl) (ss_append (T:=3) (sz:=1) (bytes:=8) (zero:=(vi 0:Value)) Tryz.underlying67 Tryz.underlying67 rfl (show Tryz.prog.info? 3=some Tryz.t3 from by kernel_rfl) (by kernel_rfl) (by kernel_rfl) (by decide) (by kernel_rfl) (by first | exact h | (simpa only[Value.cells,List.toList_toArray]using h))) ?_;clear h
    rintro _ H7 ⟨o,j,rfl,h⟩
    refine T_pd [43,45] [(46,vs o (lN+1) j)]<| T_nd 1 [46] [(5,vs o (lN+1) j)] ?_
    refine N_end (by kernel_rfl) ?_
    refine S_blockEnd ?_
    refine S_then ?_
    refine T_rz 10<| T_ed 2 [15] [(15,vi (IntKind.wrap .i64 (s15+1)))] ?_
    exact S_round ((o,(lN+1),j,(IntKind.wrap .i64 (s15+1))):(Option Addr)×Nat×Nat×Int) sk h
   rw[if_neg c22]at h
   refine T_cFz 42 (eq_false_of_ne_true c22)<| T_k ?_
   refine S_blockEnd ?_
   refine S_then ?_
   refine T_rz 10<| T_ed 2 [6,15,42] [(15,vi (IntKind.wrap .i64 (s15+1)))] ?_
   exact S_round ((lB,lN,lC,(IntKind.wrap .i64 (s15+1))):(Option Addr)×Nat×Nat×Int) sk h
  rw[if_neg c15]at h
  refine N_bd 29 (decide_eq_false c15)<| T_ed 13 [7,29] [(42,.bool false)]<| T_fz 42<| T_k ?_
  refine S_blockEnd ?_
  refine S_then ?_
  refine T_rz 10<| T_ed 2 [6,15,42] [(15,vi (IntKind.wrap .i64 (s15+1)))] ?_
  exact S_round ((lB,lN,lC,(IntKind.wrap .i64 (s15+1))):(Option Addr)×Nat×Nat×Int) sk h
 rw[if_neg c9]at h
 refine T_cFz 16 (decide_eq_false c9) ?_
 refine S_exit 0 (by kernel_rfl) ?_
 refine S_exitThen ?_
 refine S_exitThen ?_
 refine S_exitHere ?_
 refine S_then ?_
 refine T_srz 11<| T_n 2 [(5,vs lB lN lC),(48,vs lB lN lC),(49,.func (.func 53) #[] #[vp (pa b)])] ?_
 refine T_c (some 50) h ?_;clear h
 intro v_2 H8 h
 exact T_pd [48,49] []<| T_e<| T_srz 12<| T_nr 2 [4] [vs lB lN lC] hQ h
end seg_Mem_Taken

/-! (*moraine/seg.Mem).Taken.1 -/
namespace seg_Mem_Taken_1
def K0:=Func.code Tryz.f53
def K2:=cb K0
def K3:=ca K2
end seg_Mem_Taken_1
def seg_Mem_Taken_1.pt(a b:Int)(o:Option Addr)(H:Array Obj)(R:Value->Array Obj->Prop):Prop:=
 ∃d:Addr,o=some d/\
 ∃x:Option Addr,hat H d=some (.pointer x)/\
 ∃xA:Addr,x=some xA/\
 ∃(xB:Option Addr) (xN xC:Nat),hat H xA=some (.slice xB xN xC)/\
 ∃f:Addr,xB=some f/\
 ((0:Int)<=a/\a< (xN:Int))/\
 ∃g:Int,hat H ((f.add (Int.toNat a*72)).add 7)=some (.int .i64 g)/\
 ∃r:Option Addr,hat H d=some (.pointer r)/\
 ∃j:Addr,r=some j/\
 ∃(q:Option Addr) (l m:Nat),hat H j=some (.slice q l m)/\
 ∃e:Addr,q=some e/\
 ((0:Int)<=b/\b< (l:Int))/\
 ∃p:Int,hat H ((e.add (Int.toNat b*72)).add 7)=some (.int .i64 p)/\
 cmp_Compare_int.C g p H (λv H1=> ∃n:Int,v=.int .i64 n/\
 R (.int .i64 n) H1)
namespace seg_Mem_Taken_1
theorem link{a b:Int}{o:Option Addr}{H:Array Obj}{R:Value->Array Obj->Prop}(h:pt a b o H R):C a b o H R:=by
 refine T_en K0 23 Tryz.func53 ?_
 intro w0 Q hQ
 unfold pt at h
 refine T_su [(0,vi a),(1,vi b),(2,vp o)]<| T_srz 0<| T_ed 1 [] []<| T_sz ?_
 obtain⟨d,rfl,h⟩:=h
 obtain⟨x,q1,h⟩:=h
 obtain⟨xA,rfl,h⟩:=h
 obtain⟨xB,xN,xC,q2,h⟩:=h
 obtain⟨f,rfl,h⟩:=h
 obtain⟨q3,h⟩:=h
 obtain⟨g,q4,h⟩:=h
 obtain⟨r,q5,h⟩:=h
 obtain⟨j,rfl,h⟩:=h
 obtain⟨q,l,m,q6,h⟩:=h
 obtain⟨e,rfl,h⟩:=h
 obtain⟨q7,h⟩:=h
 obtain⟨p,q8,h⟩:=h
 refine S_regionG 1 (Code.ops K3) [(16,d,[vp (some xA)]),(16,xA,[vs (some f) xN xC]),(16,((f.add (Int.toNat a*72)).add 7),[vi g]),(16,d,[vp (some j)]),(16,j,[vs (some e) l m]),(16,((e.add (Int.toNat b*72)).add 7),[vi p])] 18 (bv 18 0) (by kernel_rfl) (by kernel_rfl) (by kernel_rfl) (by kernel_rfl) (by kernel_rfl) (show FactsAt _ _ _ from⟨⟨q1,trivial⟩,⟨q2,trivial⟩,⟨q4,trivial⟩,⟨q5,trivial⟩,⟨q6,trivial⟩,⟨q8,trivial⟩,trivial⟩) ?_
 refine T_g 0 (some 6) (vp (some xA)) (bv 18 1) [(0,vi a),(1,vi b),(2,vp (some d)),(6,vp (some xA))] (loadN 69 (vp (some d))) (held_one 16 (λ_=>by kernel_rfl) (List.Mem.head _) (.inl (by kernel_rfl)))<| T_gp1 1 7 (vp (some xA)) (bv 18 3) [6]<| T_gp1 2 8 (vp (some xA)) (bv 18 7) [7]<| T_g1 3 9 (vs (some f) xN xC) (bv 18 15) [8] (loadN 110 (vp (some xA))) (held_one 16 (λ_=>by kernel_rfl) (List.Mem.tail _ (List.Mem.head _)) (.inl (by kernel_rfl)))<| T_gp1 4 10 (vi a) (bv 18 31) [0]<| T_g1 5 11 (vp (some (f.add (Int.toNat a*72)))) (bv 18 63) [9,10] (indexAtN 110 (vs (some f) xN xC) (vi a)) (λ_ w _ _ _=>indexAt_run (P:=Tryz.prog) (t:=110) (elem:=116) (sz:=72) (a:=f) (len:=xN) (cap:=xC) (k:=.i64) (i:=a) Tryz.underlying110 (λ_=>by kernel_rfl) q3.1 q3.2 w)<| T_gp1 6 12 (vp (some ((f.add (Int.toNat a*72)).add 7))) (bv 18 127) [11]<| T_g1 7 13 (vi g) (bv 18 255) [12] (loadN 3 (vp (some ((f.add (Int.toNat a*72)).add 7)))) (held_one 16 (λ_=>by kernel_rfl) (List.Mem.tail _ (List.Mem.tail _ (List.Mem.head _))) (.inl (by kernel_rfl)))<| T_g1 8 14 (vp (some j)) (bv 18 511) [2] (loadN 69 (vp (some d))) (held_one 16 (λ_=>by kernel_rfl) (List.Mem.tail _ (List.Mem.tail _ (List.Mem.tail _ (List.Mem.head _)))) (.inl (by kernel_rfl))) ?_
 refine T_gp1 9 15 (vp (some j)) (bv 18 1023) [14]<| T_gp1 10 16 (vp (some j)) (bv 18 2047) [15]<| T_g1 11 17 (vs (some e) l m) (bv 18 4095) [16] (loadN 110 (vp (some j))) (held_one 16 (λ_=>by kernel_rfl) (List.Mem.tail _ (List.Mem.tail _ (List.Mem.tail _ (List.Mem.tail _ (List.Mem.head _))))) (.inl (by kernel_rfl)))<| T_gp1 12 18 (vi b) (bv 18 8191) [1]<| T_g1 13 19 (vp (some (e.add (Int.toNat b*72)))) (bv 18 16383) [17,18] (indexAtN 110 (vs (some e) l m) (vi b)) (λ_ w _ _ _=>indexAt_run (P:=Tryz.prog) (t:=110) (elem:=116) (sz:=72) (a:=e) (len:=l) (cap:=m) (k:=.i64) (i:=b) Tryz.underlying110 (λ_=>by kernel_rfl) q7.1 q7.2 w)<| T_gp1 14 20 (vp (some ((e.add (Int.toNat b*72)).add 7))) (bv 18 32767) [19]<| T_g1 15 21 (vi p) (bv 18 65535) [20] (loadN 3 (vp (some ((e.add (Int.toNat b*72)).add 7)))) (held_one 16 (λ_=>by kernel_rfl) (List.Mem.tail _ (List.Mem.tail _ (List.Mem.tail _ (List.Mem.tail _ (List.Mem.tail _ (List.Mem.head _)))))) (.inl (by kernel_rfl))) ?_
 refine G_call 16 (some 22) (bv 18 131071) 54 #[vi g,vi p] (by kernel_rfl) (λ_=>by kernel_rfl) h (by kernel_rfl) ?_;clear h
 rintro v H1 ⟨n,rfl,h⟩
 refine⟨[(22,vi n)],pk,(show FactsAt _ _ _ from⟨trivial,trivial,trivial,trivial,trivial,trivial,trivial⟩),?_⟩
 refine T_g 17 (some 5) (vi n) (bv 18 262143) [(5,vi n)] (pure (.value (vi n)):Sem Next) (λ_ _ _ _ _=>rfl) ?_
 refine G_sub [(5,vi n)] sk ?_
 refine G_end (by kernel_rfl) ?_
 refine S_then ?_
 exact T_ret [5] [vi n] hQ h
end seg_Mem_Taken_1

/-! (*moraine/seg.Mem).Free -/
namespace seg_Mem_Free
def K0:=Func.code Tryz.f57
end seg_Mem_Free
def seg_Mem_Free.pt(m:Option Addr)(H:Array Obj)(R:Value->Array Obj->Prop):Prop:=
 onPtr m (
 R (.int .i64 0) H) (λmA=>
 ∃x:Int,hat H (mA.add 2)=some (.int .i64 x)/\
 R (.int .i64 x) H)
namespace seg_Mem_Free
theorem link{m:Option Addr}{H:Array Obj}{R:Value->Array Obj->Prop}(h:pt m H R):C m H R:=by
 refine T_en K0 9 Tryz.func57 ?_
 intro w0 Q hQ
 unfold pt at h
 refine T_su [(0,vp m)]<| T_srz 0<| T_ed 1 [] []<| T_sz<| T_srz 1<| T_nd 1 [] [(3,vp m)] ?_
 rcases m with _ | mA
 ·rw[onPtr_none]at h
  exact T_ne 1 [(0,vp none),(4,.bool true)]<| T_tz 4<| T_srz 2<| T_nr 1 [2] [vi 0] hQ h
 rw[onPtr_some]at h
 refine T_ne 1 [(0,vp (some mA)),(4,.bool false)]<| T_fz 4<| T_kt<| T_srz 3<| T_n 3 [(7,vp (some (mA.add 2)))] ?_
 obtain⟨x,q1,h⟩:=h
 exact T_l1 8 3 q1 [7]<| T_nr 1 [2] [vi x] hQ h
end seg_Mem_Free

/-! (*moraine/seg.Mem).Give -/
namespace seg_Mem_Give
def K0:=Func.code Tryz.f97
end seg_Mem_Give
def seg_Mem_Give.pt(m:Option Addr)(d:Int)(H:Array Obj)(R:Value->Array Obj->Prop):Prop:=
 seg_Mem_at.C m d H (λv H1=> ∃x:Option Addr,v=.pointer x/\
 onPtr x (
 R (.int .i64 19) H1) (λxA=>
 (CanPuts H1 xA 0 72)/\ ∀H2,H2=hputs H1 xA (List.replicate 8 (.int .i64 0)++List.replicate 64 (.int .u64 0):List Value) 0->
 ∃mA:Addr,m=some mA/\
 ∃b:Int,hat H2 (mA.add 2)=some (.int .i64 b)/\
 (CanPuts H2 (mA.add 2) 0 1)/\ ∀H3,H3=hputs H2 (mA.add 2) [.int .i64 (IntKind.wrap .i64 (b+1))] 0->
 R (.int .i64 0) H3))
namespace seg_Mem_Give
theorem link{m:Option Addr}{d:Int}{H:Array Obj}{R:Value->Array Obj->Prop}(h:pt m d H R):C m d H R:=by
 refine T_en K0 21 Tryz.func97 ?_
 intro w0 Q hQ
 unfold pt at h
 refine T_su [(0,vp m),(1,vi d)]<| T_srz 0<| T_ed 1 [] []<| T_srz 1<| T_nd 2 [1] [(6,vp m),(7,vi d)] ?_
 refine T_c (some 8) h ?_;clear h
 rintro v H1 ⟨x,rfl,h⟩
 refine T_pd [6,7] [(8,vp x)]<| T_ed 1 [8] [(5,vp x)]<| T_sz<| T_srz 2<| T_nd 1 [] [(9,vp x)] ?_
 rcases x with _ | xA
 ·rw[onPtr_none]at h
  exact T_ed 1 [5,9] [(5,vp none),(10,.bool true)]<| T_tz 10<| T_srz 3<| T_nr 1 [4] [vi 19] hQ h
 rw[onPtr_some]at h
 refine T_ed 1 [5,9] [(5,vp (some xA)),(10,.bool false)]<| T_fz 10<| T_kt<| T_srz 4<| T_nd 3 [5,10] [(12,.agg (List.replicate 8 (vi 0)++List.replicate 64 (vu 0):List Value).toArray),(13,vp (some xA))] ?_
 obtain⟨q2,h⟩:=h
 refine N_skipop none (storeN 116 (vp (some xA)) (.agg (List.replicate 8 (vi 0)++List.replicate 64 (vu 0):List Value).toArray)) (λHz=>Hz=hputs H1 xA (List.replicate 8 (vi 0)++List.replicate 64 (vu 0):List Value) 0) (λ_=>by kernel_rfl) (by intro w hw;obtain⟨w1,g1,g2,g3⟩:=ss_store (P:=Tryz.prog) (H:=H1) (t:=116) (a:=xA) (v:=(.agg (List.replicate 8 (vi 0)++List.replicate 64 (vu 0):List Value).toArray)) (List.replicate 8 (vi 0)++List.replicate 64 (vu 0):List Value) 72 (by kernel_rfl) (by kernel_rfl) (λ_=>by kernel_rfl) (by kernel_rfl) q2 w hw;exact⟨w1,g1,g2,g3⟩) ?_
 intro H2 e1
 replace h:=h H2 e1
 refine⟨[(0,vp m)],pk,?_⟩
 refine T_e<| T_srz 5<| T_n 1 [(14,vp m)] ?_
 obtain⟨mA,rfl,h⟩:=h
 refine T_n 2 [(14,vp (some mA)),(16,vp (some (mA.add 2)))] ?_
 obtain⟨b,q3,h⟩:=h
 refine T_l1 17 3 q3 [16]<| T_n 3 [(18,vi (IntKind.wrap .i64 (b+1))),(20,vp (some (mA.add 2)))] ?_
 obtain⟨q5,h⟩:=h
 refine T_st1 3 (vi (IntKind.wrap .i64 (b+1))) q5 ?_
 intro H3 e4
 replace h:=h H3 e4
 refine⟨[],pk,?_⟩
 exact T_e<| T_srz 6<| T_nr 1 [4] [vi 0] hQ h
end seg_Mem_Give

/-! (*moraine/space.Space).Words -/
namespace space_Space_Words
def K0:=Func.code Tryz.f12
def K2:=cb K0
def K4:=cb K2
def K12:=cb K4
def K13:=ca K12
def K16:=cb K13
def K17:=ca K16
def K18:=ca K17
end space_Space_Words
def space_Space_Words.pt(s l:Option Addr)(n m:Nat)(H:Array Obj)(R:Value->Array Obj->Prop):Prop:=
 space_Space_none.C s H (λv H1=> ∃x:Bool,v=.bool x/\
 if x=true then(
 R (.int .i64 0) H1)
 else
 ∃sA:Addr,s=some sA/\
 ∃z:Option Addr,hat H1 sA=some (.pointer z)/\
 seg_Mem_Taken.C z l n m H1 (λac H2=> ∃(xB:Option Addr) (xN xC:Nat),ac=.slice xB xN xC/\
 ∃(ab:Int->Int->Array Obj->Prop) (m19:Int->Int->Array Obj->Nat),ab 0 0 H2/\ ∀(d:Int) (s19:Int) (H3:Array Obj),ab d s19 H3->
 if s19< (xN:Int)then(
 ∃o:Addr,xB=some o/\
 ((0:Int)<=s19/\s19< (xN:Int))/\
 ∃r:Int,hat H3 (o.add (Int.toNat s19*1))=some (.int .i64 r)/\
 ∃aa:Option Addr,hat H3 sA=some (.pointer aa)/\
 seg_Mem_Seg.C aa r H3 (λae H4=> ∃(q p y j g e f:Int) (rb:Bool),ae=.tuple #[.agg #[.int .i64 q,.int .i64 p,.int .i64 y,.int .i64 j,.int .i64 g,.int .i64 e,.int .i64 f],.bool rb]/\
 ∀(b:Nat) (H5:Array Obj),b=H4.size->H5=H4.push (.cells #[.int .i64 0,.int .i64 0,.int .i64 0,.int .i64 0,.int .i64 0,.int .i64 0,.int .i64 0] 76)->
 (CanPuts H5 (ad b) 0 7)/\ ∀H6,H6=hputs H5 (ad b) [.int .i64 q,.int .i64 p,.int .i64 y,.int .i64 j,.int .i64 g,.int .i64 e,.int .i64 f] 0->
 ∃u:Int,hat H6 ((ad b).add 2)=some (.int .i64 u)/\
 (ab (IntKind.wrap .i64 (d+u)) (IntKind.wrap .i64 (s19+1)) H6/\m19 (IntKind.wrap .i64 (d+u)) (IntKind.wrap .i64 (s19+1)) H6<m19 d s19 H3)))
 else
 R (.int .i64 d) H3))
namespace space_Space_Words
theorem link{s l:Option Addr}{n m:Nat}{H:Array Obj}{R:Value->Array Obj->Prop}(h:pt s l n m H R):C s l n m H R:=by
 refine T_en K0 38 Tryz.func12 ?_
 intro w0 Q hQ
 unfold pt at h
 refine T_su [(0,vp s),(1,vs l n m)]<| T_srz 0<| T_ed 1 [] []<| T_sz<| T_srz 1<| T_nd 1 [] [(10,vp s)] ?_
 refine T_c (some 11) h ?_;clear h
 rintro v H1 ⟨x,rfl,h⟩
 refine T_pd [10] [(11,.bool x)]<| T_e ?_
 by_cases c1:x=true
 ·rw[if_pos c1]at h
  exact T_cTz 11 c1<| T_srz 2<| T_nr 1 [4] [vi 0] hQ h
 rw[if_neg c1]at h
 refine T_cFz 11 (eq_false_of_ne_true c1)<| T_kt<| T_srz 3<| T_ed 1 [11] [(5,vi 0)]<| T_sz<| T_srz 4<| T_nd 1 [] [(12,vp s)] ?_
 obtain⟨sA,rfl,h⟩:=h
 refine T_nd 2 [0,12] [(0,vp (some sA)),(14,vp (some sA))] ?_
 obtain⟨z,q3,h⟩:=h
 refine T_l1 15 69 q3 [14]<| T_nd 1 [1] [(16,vs l n m)] ?_
 refine T_c (some 17) h ?_;clear h
 rintro ac H2 ⟨xB,xN,xC,rfl,h⟩
 refine T_pd [15,16] [(17,vs xB xN xC)]<| T_ed 2 [] [(18,vi xN),(19,vi 0)]<| T_bz 0 ?_
 obtain⟨ab,m19,i4,i5⟩:=h
 refine S_loop (x:=K18) (σ:=Int×Int) (λs_=> [(0,vp (some sA)),(5,vi s_.1),(17,vs xB xN xC),(18,vi xN),(19,vi s_.2)]) (λs_ H=>ab s_.1 s_.2 H) (λs_ H=>m19 s_.1 s_.2 H) ((0,0):Int×Int) (by kernel_rfl) i4 sk ?_
 rintro⟨d,s19⟩ H3 i6
 have h:=i5 d s19 H3 i6
 refine T_su [(0,vp (some sA)),(5,vi d),(17,vs xB xN xC),(18,vi xN),(19,vi s19)]<| T_srz 5<| T_ed 1 [] [(20,.bool (decide (s19< (xN:Int))))]<| T_sz ?_
 by_cases c7:s19< (xN:Int)
 ·rw[if_pos c7]at h
  refine T_cTz 20 (decide_eq_true c7)<| T_kt<| T_sz<| T_bz 1<| T_srz 6<| T_ud [20] [] ?_
  obtain⟨o,rfl,h⟩:=h
  obtain⟨q9,h⟩:=h
  refine T_xd (some 21) 67 3 1 o xN xC .i64 s19 Tryz.underlying67 q9.1 q9.2 [17] [(17,vs (some o) xN xC),(21,vp (some (o.add (Int.toNat s19*1))))] ?_
  obtain⟨r,q10,h⟩:=h
  refine T_l1 22 3 q10 [21]<| T_ed 1 [22] [(7,vi r)]<| T_srz 7<| T_nd 3 [] [(26,vp (some sA))] ?_
  obtain⟨aa,q11,h⟩:=h
  refine T_l1 27 69 q11 [26]<| T_nd 1 [7] [(28,vi r)] ?_
  refine T_c (some 29) h ?_;clear h
  rintro ae H4 ⟨q,p,y,j,g,e,f,rb,rfl,h⟩
  refine T_pd [27,28] [(29,.tuple #[.agg #[vi q,vi p,vi y,vi j,vi g,vi e,vi f],.bool rb])]<| T_nd 3 [29] [(30,.agg #[vi q,vi p,vi y,vi j,vi g,vi e,vi f]),(31,.bool rb)]<| T_nw (some 8) (λb=>vp (pa b)) (.cells #[vi 0,vi 0,vi 0,vi 0,vi 0,vi 0,vi 0] 76) ?_
  intro b H5 e12 e13
  replace h:=h b H5 e12 e13
  refine T_pd [] [(8,vp (pa b))] ?_
  obtain⟨q15,h⟩:=h
  refine T_sta 76 [vi q,vi p,vi y,vi j,vi g,vi e,vi f] q15 ?_
  intro H6 e14
  replace h:=h H6 e14
  refine T_pd [30] []<| T_ed 1 [31] []<| T_rz 8<| T_nd 2 [5,8] [(32,vi d),(33,vp (some ((ad b).add 2)))] ?_
  obtain⟨u,q16,h⟩:=h
  refine T_l1 34 3 q16 [33]<| T_nd 2 [32,34] [(5,vi (IntKind.wrap .i64 (d+u)))] ?_
  refine N_end (by kernel_rfl) ?_
  refine S_blockEnd ?_
  refine S_then ?_
  refine T_rz 9<| T_ed 2 [19] [(19,vi (IntKind.wrap .i64 (s19+1)))] ?_
  exact S_round (((IntKind.wrap .i64 (d+u)),(IntKind.wrap .i64 (s19+1))):Int×Int) sk h
 rw[if_neg c7]at h
 refine T_cFz 20 (decide_eq_false c7) ?_
 refine S_exit 0 (by kernel_rfl) ?_
 refine S_exitThen ?_
 refine S_exitThen ?_
 refine S_exitHere ?_
 refine S_then ?_
 exact T_srz 10<| T_nr 2 [4] [vi d] hQ h
end space_Space_Words

/-! (*moraine/space.Space).Fresh -/
namespace space_Space_Fresh
def K0:=Func.code Tryz.f58
def K2:=cb K0
def K8:=cb K2
def K9:=ca K8
def K10:=ca K9
def K12:=cb K10
def K14:=cb K12
def K17:=ca K14
def K19:=ca K17
def K21:=cb K19
def K22:=ca K21
def K25:=cb K22
def K26:=ca K25
def K27:=ca K26
end space_Space_Fresh
def space_Space_Fresh.pt(s e:Option Addr)(b d:Nat)(H:Array Obj)(R:Value->Array Obj->Prop):Prop:=
 onPtr s (
 R (.tuple #[]) H) (λsA=>
 ∃(l:Int->Array Obj->Prop) (m11:Int->Array Obj->Nat),l 0 H/\ ∀(s9:Int) (H1:Array Obj),l s9 H1->
 if s9<5 then(
 ∃(j:Int->Array Obj->Prop) (m28:Int->Array Obj->Nat),j 0 H1/\ ∀(g:Int) (H2:Array Obj),j g H2->
 if g< (b:Int)then(
 ∃f:Addr,e=some f/\
 ((0:Int)<=g/\g< (b:Int))/\
 ∃x:Int,hat H2 (f.add (Int.toNat g*1))=some (.int .i64 x)/\
 if x=s9 then(
 ((0:Int)<=s9/\s9< (5:Int))/\
 (CanPuts H2 ((sA.add 1).add (Int.toNat s9*4)) 0 4)/\ ∀H3,H3=hputs H2 ((sA.add 1).add (Int.toNat s9*4)) [.int .i64 0,.int .i64 0,.int .i64 0,.int .i64 0] 0->
 (j (IntKind.wrap .i64 (g+1)) H3/\m28 (IntKind.wrap .i64 (g+1)) H3<m28 g H2))
 else
 (j (IntKind.wrap .i64 (g+1)) H2/\m28 (IntKind.wrap .i64 (g+1)) H2<m28 g H2))
 else
 if(b:Int)=0 then(
 ((0:Int)<=s9/\s9< (5:Int))/\
 (CanPuts H2 ((sA.add 1).add (Int.toNat s9*4)) 0 4)/\ ∀H4,H4=hputs H2 ((sA.add 1).add (Int.toNat s9*4)) [.int .i64 0,.int .i64 0,.int .i64 0,.int .i64 0] 0->
 (l (IntKind.wrap .i64 (s9+1)) H4/\m11 (IntKind.wrap .i64 (s9+1)) H4<m11 s9 H1))
 else
 (l (IntKind.wrap .i64 (s9+1)) H2/\m11 (IntKind.wrap .i64 (s9+1)) H2<m11 s9 H1))
 else
 R (.tuple #[]) H1)
namespace space_Space_Fresh
theorem link{s e:Option Addr}{b d:Nat}{H:Array Obj}{R:Value->Array Obj->Prop}(h:pt s e b d H R):C s e b d H R:=by
 refine T_en K0 38 Tryz.func58 ?_
 intro w0 Q hQ
 unfold pt at h
 refine T_su [(0,vp s),(1,vs e b d)]<| T_sz<| T_srz 0<| T_nd 1 [] [(7,vp s)] ?_
 rcases s with _ | sA
 ·rw[onPtr_none]at h
  exact T_ed 1 [0,7] [(0,vp none),(8,.bool true)]<| T_tz 8<| T_ret [] [] hQ h
 rw[onPtr_some]at h
 refine T_ed 1 [0,7] [(0,vp (some sA)),(8,.bool false)]<| T_fz 8<| T_kt<| T_srz 1<| T_ed 1 [8] [(9,vi 0)]<| T_bz 0 ?_
 obtain⟨l,m11,i1,i2⟩:=h
 refine S_loop (x:=K10) (σ:=Int) (λs_=> [(0,vp (some sA)),(1,vs e b d),(9,vi s_)]) (λs_ H=>l s_ H) (λs_ H=>m11 s_ H) (0:Int) (by kernel_rfl) i1 sk ?_
 rintro s9 H1 i3
 have h:=i2 s9 H1 i3
 refine T_su [(0,vp (some sA)),(1,vs e b d),(9,vi s9)]<| T_srz 2<| T_ed 1 [] [(10,.bool (decide (s9<5)))]<| T_sz ?_
 by_cases c4:s9<5
 ·rw[if_pos c4]at h
  refine T_cTz 10 (decide_eq_true c4)<| T_kt<| T_sz<| T_bz 1<| T_srz 3<| T_ed 2 [10] [(4,vi s9)]<| T_sz<| T_srz 4<| T_ed 3 [] [(12,vs e b d),(13,vi b),(14,vi 0)] ?_
  refine T_bz 2 ?_
  obtain⟨j,m28,i6,i7⟩:=h
  refine S_loop (x:=K27) (σ:=Int) (λs_=> [(0,vp (some sA)),(1,vs e b d),(4,vi s9),(9,vi s9),(12,vs e b d),(13,vi b),(14,vi s_)]) (λs_ H=>j s_ H) (λs_ H=>m28 s_ H) (0:Int) (by kernel_rfl) i6 sk ?_
  rintro g H2 i8
  have h:=i7 g H2 i8
  refine T_su [(0,vp (some sA)),(1,vs e b d),(4,vi s9),(9,vi s9),(12,vs e b d),(13,vi b),(14,vi g)]<| T_srz 5<| T_ed 1 [] [(15,.bool (decide (g< (b:Int))))]<| T_sz ?_
  by_cases c9:g< (b:Int)
  ·rw[if_pos c9]at h
   refine T_cTz 15 (decide_eq_true c9)<| T_kt<| T_sz<| T_bz 3<| T_srz 6<| T_ud [15] [] ?_
   obtain⟨f,rfl,h⟩:=h
   obtain⟨q11,h⟩:=h
   refine T_xd (some 16) 67 3 1 f b d .i64 g Tryz.underlying67 q11.1 q11.2 [1,12] [(1,vs (some f) b d),(12,vs (some f) b d),(16,vp (some (f.add (Int.toNat g*1))))] ?_
   obtain⟨x,q12,h⟩:=h
   refine T_l1 17 3 q12 [16]<| T_ed 1 [17] [(6,vi x)]<| T_srz 7<| T_ed 3 [6] [(20,.bool (x==s9))] ?_
   by_cases c13:x=s9
   ·rw[if_pos c13]at h
    refine T_cTz 20 (beq_iff_eq.mpr c13)<| T_rz 8<| T_nd 5 [20] [(22,vi s9),(23,.agg #[vi 0,vi 0,vi 0,vi 0]),(25,vp (some (sA.add 1)))] ?_
    obtain⟨q15,h⟩:=h
    refine T_v1 26 (indexAtN 71 (vp (some (sA.add 1))) (vi s9)) (vp (some ((sA.add 1).add (Int.toNat s9*4)))) (λw _=>indexArr_run (P:=Tryz.prog) (t:=71) (elem:=70) (sz:=4) (n:=5) (a:=(sA.add 1)) (k:=.i64) (i:=s9) Tryz.underlying71 (λ_=>by kernel_rfl) q15.1 q15.2 w) [22,25] ?_
    obtain⟨q17,h⟩:=h
    refine T_sta 70 [vi 0,vi 0,vi 0,vi 0] q17 ?_
    intro H3 e16
    replace h:=h H3 e16
    refine T_pd [23,26] [] ?_
    refine N_end (by kernel_rfl) ?_
    refine S_blockEnd ?_
    refine S_then ?_
    refine T_rz 9<| T_ed 2 [14] [(14,vi (IntKind.wrap .i64 (g+1)))] ?_
    exact S_round ((IntKind.wrap .i64 (g+1)):Int) sk h
   rw[if_neg c13]at h
   refine T_cFz 20 (beq_eq_false_iff_ne.mpr c13)<| T_k ?_
   refine S_blockEnd ?_
   refine S_then ?_
   refine T_rz 9<| T_ed 2 [14,20] [(14,vi (IntKind.wrap .i64 (g+1)))] ?_
   exact S_round ((IntKind.wrap .i64 (g+1)):Int) sk h
  rw[if_neg c9]at h
  refine T_cFz 15 (decide_eq_false c9) ?_
  refine S_exit 2 (by kernel_rfl) ?_
  refine S_exitThen ?_
  refine S_exitThen ?_
  refine S_exitHere ?_
  refine S_then ?_
  refine T_srz 10<| T_ed 3 [12,13,14,15] [(30,.bool ((b:Int)==0))] ?_
  by_cases c18:(b:Int)=0
  ·rw[if_pos c18]at h
   refine T_cTz 30 (beq_iff_eq.mpr c18)<| T_rz 11<| T_nd 5 [4,30] [(32,vi s9),(33,.agg #[vi 0,vi 0,vi 0,vi 0]),(35,vp (some (sA.add 1)))] ?_
   obtain⟨q20,h⟩:=h
   refine T_v1 36 (indexAtN 71 (vp (some (sA.add 1))) (vi s9)) (vp (some ((sA.add 1).add (Int.toNat s9*4)))) (λw _=>indexArr_run (P:=Tryz.prog) (t:=71) (elem:=70) (sz:=4) (n:=5) (a:=(sA.add 1)) (k:=.i64) (i:=s9) Tryz.underlying71 (λ_=>by kernel_rfl) q20.1 q20.2 w) [32,35] ?_
   obtain⟨q22,h⟩:=h
   refine T_sta 70 [vi 0,vi 0,vi 0,vi 0] q22 ?_
   intro H4 e21
   replace h:=h H4 e21
   refine T_pd [33,36] [] ?_
   refine N_end (by kernel_rfl) ?_
   refine S_blockEnd ?_
   refine S_then ?_
   refine T_rz 12<| T_ed 2 [9] [(9,vi (IntKind.wrap .i64 (s9+1)))] ?_
   exact S_round ((IntKind.wrap .i64 (s9+1)):Int) sk h
  rw[if_neg c18]at h
  refine T_cFz 30 (beq_eq_false_iff_ne.mpr c18)<| T_k ?_
  refine S_blockEnd ?_
  refine S_then ?_
  refine T_rz 12<| T_ed 2 [4,9,30] [(9,vi (IntKind.wrap .i64 (s9+1)))] ?_
  exact S_round ((IntKind.wrap .i64 (s9+1)):Int) sk h
 rw[if_neg c4]at h
 refine T_cFz 10 (decide_eq_false c4) ?_
 refine S_exit 0 (by kernel_rfl) ?_
 refine S_exitThen ?_
 refine S_exitThen ?_
 refine S_exitHere ?_
 exact S_doneN (fn:=Tryz.f58) [] hQ (show ResOK _ _ _ [] _ from .nil) h
end space_Space_Fresh

/-! (*moraine/space.Space).Give -/
namespace space_Space_Give
def K0:=Func.code Tryz.f61
def K2:=cb K0
def K4:=cb K2
def K11:=ca K4
def K14:=cb K11
def K16:=cb K14
def K17:=ca K16
end space_Space_Give
def space_Space_Give.pt(s:Option Addr)(d:Int)(H:Array Obj)(R:Value->Array Obj->Prop):Prop:=
 space_Space_none.C s H (λv H1=> ∃x:Bool,v=.bool x/\
 if x=true then(
 R (.int .i64 19) H1)
 else
 ∃sA:Addr,s=some sA/\
 ∃af:Option Addr,hat H1 sA=some (.pointer af)/\
 seg_Mem_Seg.C af d H1 (λai H2=> ∃(q o aa j g e f:Int) (rb:Bool),ai=.tuple #[.agg #[.int .i64 q,.int .i64 o,.int .i64 aa,.int .i64 j,.int .i64 g,.int .i64 e,.int .i64 f],.bool rb]/\
 ∀(b:Nat) (H3:Array Obj),b=H2.size->H3=H2.push (.cells #[.int .i64 0,.int .i64 0,.int .i64 0,.int .i64 0,.int .i64 0,.int .i64 0,.int .i64 0] 76)->
 (CanPuts H3 (ad b) 0 7)/\ ∀H4,H4=hputs H3 (ad b) [.int .i64 q,.int .i64 o,.int .i64 aa,.int .i64 j,.int .i64 g,.int .i64 e,.int .i64 f] 0->
 if rb=true then(
 ∃m:Int,hat H4 (ad b)=some (.int .i64 m)/\
 ∃u:Int,hat H4 ((ad b).add 1)=some (.int .i64 u)/\
 ((0:Int)<=m/\m< (5:Int))/\
 ((0:Int)<=u/\u< (4:Int))/\
 ∃r:Int,hat H4 (((sA.add 1).add (Int.toNat m*4)).add (Int.toNat u*1))=some (.int .i64 r)/\
 if r=(IntKind.wrap .i64 (d+1))then(
 ∃l:Int,hat H4 (ad b)=some (.int .i64 l)/\
 ∃p:Int,hat H4 ((ad b).add 1)=some (.int .i64 p)/\
 ((0:Int)<=l/\l< (5:Int))/\
 ((0:Int)<=p/\p< (4:Int))/\
 (CanPuts H4 (((sA.add 1).add (Int.toNat l*4)).add (Int.toNat p*1)) 0 1)/\ ∀H5,H5=hputs H4 (((sA.add 1).add (Int.toNat l*4)).add (Int.toNat p*1)) [.int .i64 0] 0->
 ∃ae:Option Addr,hat H5 sA=some (.pointer ae)/\
 seg_Mem_Give.C ae d H5 (λaj H6=> ∃ag:Int,aj=.int .i64 ag/\
 R (.int .i64 ag) H6))
 else
 ∃y:Option Addr,hat H4 sA=some (.pointer y)/\
 seg_Mem_Give.C y d H4 (λak H7=> ∃ac:Int,ak=.int .i64 ac/\
 R (.int .i64 ac) H7))
 else
 ∃z:Option Addr,hat H4 sA=some (.pointer z)/\
 seg_Mem_Give.C z d H4 (λah H8=> ∃ab:Int,ah=.int .i64 ab/\
 R (.int .i64 ab) H8)))
namespace space_Space_Give
theorem link{s:Option Addr}{d:Int}{H:Array Obj}{R:Value->Array Obj->Prop}(h:pt s d H R):C s d H R:=by
 refine T_en K0 49 Tryz.func61 ?_
 intro w0 Q hQ
 unfold pt at h
 refine T_su [(0,vp s),(1,vi d)]<| T_srz 0<| T_ed 1 [] []<| T_sz<| T_srz 1<| T_nd 1 [] [(7,vp s)] ?_
 refine T_c (some 8) h ?_;clear h
 rintro v H1 ⟨x,rfl,h⟩
 refine T_pd [7] [(8,.bool x)]<| T_e ?_
 by_cases c1:x=true
 ·rw[if_pos c1]at h
  exact T_cTz 8 c1<| T_srz 2<| T_nr 1 [4] [vi 19] hQ h
 rw[if_neg c1]at h
 refine T_cFz 8 (eq_false_of_ne_true c1)<| T_kt<| T_sz<| T_srz 3<| T_nd 1 [8] [(10,vp s)] ?_
 obtain⟨sA,rfl,h⟩:=h
 refine T_nd 2 [0,10] [(0,vp (some sA)),(12,vp (some sA))] ?_
 obtain⟨af,q3,h⟩:=h
 refine T_l1 13 69 q3 [12]<| T_nd 1 [] [(14,vi d)] ?_
 refine T_c (some 15) h ?_;clear h
 rintro ai H2 ⟨q,o,aa,j,g,e,f,rb,rfl,h⟩
 refine T_pd [13,14] [(15,.tuple #[.agg #[vi q,vi o,vi aa,vi j,vi g,vi e,vi f],.bool rb])]<| T_nd 3 [15] [(16,.agg #[vi q,vi o,vi aa,vi j,vi g,vi e,vi f]),(17,.bool rb)]<| T_nw (some 5) (λb=>vp (pa b)) (.cells #[vi 0,vi 0,vi 0,vi 0,vi 0,vi 0,vi 0] 76) ?_
 intro b H3 e4 e5
 replace h:=h b H3 e4 e5
 refine T_pd [] [(5,vp (pa b))] ?_
 obtain⟨q7,h⟩:=h
 refine T_sta 76 [vi q,vi o,vi aa,vi j,vi g,vi e,vi f] q7 ?_
 intro H4 e6
 replace h:=h H4 e6
 refine T_pd [16] []<| T_ed 1 [17] [(6,.bool rb)]<| T_sz<| T_rqz 4<| T_q1 18 (.bool rb) [6]<| T_q1 19 (.bool rb) [18] ?_
 by_cases c8:rb=true
 ·rw[if_pos c8]at h
  refine Q_bd 19 c8<| T_q1 20 (vp (some sA)) []<| T_q1 21 (vp (pa b)) [] ?_
  obtain⟨m,q10,h⟩:=h
  refine T_qld (some 22) 3 q10 [21] [(22,vi m)]<| T_q1 23 (vp (some ((ad b).add 1))) [] ?_
  obtain⟨u,q11,h⟩:=h
  refine T_qld (some 24) 3 q11 [23] [(24,vi u)]<| T_q1 25 (vp (some sA)) [20]<| T_q1 26 (vp (some (sA.add 1))) [25] ?_
  obtain⟨q12,h⟩:=h
  refine Q_op (some 27) (indexAtN 71 (vp (some (sA.add 1))) (vi m)) (vp (some ((sA.add 1).add (Int.toNat m*4)))) (λ_=>by kernel_rfl) (λw _=>indexArr_run (P:=Tryz.prog) (t:=71) (elem:=70) (sz:=4) (n:=5) (a:=(sA.add 1)) (k:=.i64) (i:=m) Tryz.underlying71 (λ_=>by kernel_rfl) q12.1 q12.2 w) [(0,vp (some sA)),(1,vi d),(5,vp (pa b)),(19,.bool true),(24,vi u),(27,vp (some ((sA.add 1).add (Int.toNat m*4))))] pk ?_
  obtain⟨q13,h⟩:=h
  refine Q_op (some 28) (indexAtN 70 (vp (some ((sA.add 1).add (Int.toNat m*4)))) (vi u)) (vp (some (((sA.add 1).add (Int.toNat m*4)).add (Int.toNat u*1)))) (λ_=>by kernel_rfl) (λw _=>indexArr_run (P:=Tryz.prog) (t:=70) (elem:=3) (sz:=1) (n:=4) (a:=((sA.add 1).add (Int.toNat m*4))) (k:=.i64) (i:=u) Tryz.underlying70 (λ_=>by kernel_rfl) q13.1 q13.2 w) [(0,vp (some sA)),(1,vi d),(5,vp (pa b)),(19,.bool true),(28,vp (some (((sA.add 1).add (Int.toNat m*4)).add (Int.toNat u*1))))] pk ?_
  obtain⟨r,q14,h⟩:=h
  refine T_ql (some 29) 3 q14 [(0,vp (some sA)),(1,vi d),(5,vp (pa b)),(19,.bool true),(29,vi r)]<| T_q1 30 (vi d) []<| T_q1 31 (vi (IntKind.wrap .i64 (d+1))) [30]<| T_q1 32 (.bool (r==(IntKind.wrap .i64 (d+1)))) [29,31]<| T_q1 33 (.bool (r==(IntKind.wrap .i64 (d+1)))) [19,32] ?_
  refine Q_sub [(0,vp (some sA)),(1,vi d),(5,vp (pa b)),(33,.bool (r==(IntKind.wrap .i64 (d+1))))] sk ?_
  refine T_qe ?_
  by_cases c15:r=(IntKind.wrap .i64 (d+1))
  ·rw[if_pos c15]at h
   refine T_cTz 33 (beq_iff_eq.mpr c15) ?_
   obtain⟨l,q17,h⟩:=h
   obtain⟨p,q18,h⟩:=h
   obtain⟨q19,h⟩:=h
   obtain⟨q20,h⟩:=h
   refine S_regionG 5 (Code.ops K17) [(9,(ad b),[vi l]),(9,((ad b).add 1),[vi p])] 10 (bv 10 0) (by kernel_rfl) (by kernel_rfl) (by kernel_rfl) (by kernel_rfl) (by kernel_rfl) (show FactsAt _ _ _ from⟨⟨q17,trivial⟩,⟨q18,trivial⟩,trivial⟩) ?_
   refine T_gp 0 (some 34) (vp (some sA)) (bv 10 1) [(0,vp (some sA)),(1,vi d),(5,vp (pa b)),(34,vp (some sA))]<| T_gp1 1 35 (vp (pa b)) (bv 10 3) []<| T_g1 2 36 (vi l) (bv 10 7) [35] (loadN 3 (vp (pa b))) (held_one 9 (λ_=>by kernel_rfl) (List.Mem.head _) (.inl (by kernel_rfl)))<| T_gp1 3 37 (vp (some ((ad b).add 1))) (bv 10 15) [5]<| T_g1 4 38 (vi p) (bv 10 31) [37] (loadN 3 (vp (some ((ad b).add 1)))) (held_one 9 (λ_=>by kernel_rfl) (List.Mem.tail _ (List.Mem.head _)) (.inl (by kernel_rfl)))<| T_gp1 5 39 (vp (some sA)) (bv 10 63) [34]<| T_gp1 6 40 (vp (some (sA.add 1))) (bv 10 127) [39]<| T_g1 7 41 (vp (some ((sA.add 1).add (Int.toNat l*4)))) (bv 10 255) [36,40] (indexAtN 71 (vp (some (sA.add 1))) (vi l)) (λ_ w _ _ _=>indexArr_run (P:=Tryz.prog) (t:=71) (elem:=70) (sz:=4) (n:=5) (a:=(sA.add 1)) (k:=.i64) (i:=l) Tryz.underlying71 (λ_=>by kernel_rfl) q19.1 q19.2 w)<| T_g1 8 42 (vp (some (((sA.add 1).add (Int.toNat l*4)).add (Int.toNat p*1)))) (bv 10 511) [38,41] (indexAtN 70 (vp (some ((sA.add 1).add (Int.toNat l*4)))) (vi p)) (λ_ w _ _ _=>indexArr_run (P:=Tryz.prog) (t:=70) (elem:=3) (sz:=1) (n:=4) (a:=((sA.add 1).add (Int.toNat l*4))) (k:=.i64) (i:=p) Tryz.underlying70 (λ_=>by kernel_rfl) q20.1 q20.2 w) ?_
   obtain⟨q22,h⟩:=h
   refine G_onlyskip 9 none (bv 10 1023) (storeN 3 (vp (some (((sA.add 1).add (Int.toNat l*4)).add (Int.toNat p*1)))) (vi 0)) (λHz=>Hz=hputs H4 (((sA.add 1).add (Int.toNat l*4)).add (Int.toNat p*1)) [vi 0] 0) (by kernel_rfl) (λ_=>by kernel_rfl) (ss_store [vi 0] 1 (by kernel_rfl) (by kernel_rfl) (λ_=>by kernel_rfl) (by kernel_rfl) q22) (by kernel_rfl) ?_
   intro H5 e21
   replace h:=h H5 e21
   refine⟨[(0,vp (some sA)),(1,vi d)],pk,(show FactsAt _ _ _ from⟨trivial,trivial,trivial⟩),?_⟩
   refine G_sub [(0,vp (some sA)),(1,vi d)] sk ?_
   refine G_end (by kernel_rfl) ?_
   refine S_then ?_
   refine T_srz 6<| T_n 3 [(1,vi d),(45,vp (some sA))] ?_
   obtain⟨ae,q23,h⟩:=h
   refine T_l1 46 69 q23 [45]<| T_nd 1 [1] [(47,vi d)] ?_
   refine T_c (some 48) h ?_;clear h
   rintro aj H6 ⟨ag,rfl,h⟩
   refine⟨[(48,vi ag)],pk,?_⟩
   exact T_nr 1 [4] [vi ag] hQ h
  rw[if_neg c15]at h
  refine T_cFz 33 (beq_eq_false_iff_ne.mpr c15)<| T_kt<| T_srz 6<| T_n 3 [(1,vi d),(45,vp (some sA))] ?_
  obtain⟨y,q24,h⟩:=h
  refine T_l1 46 69 q24 [45]<| T_nd 1 [1] [(47,vi d)] ?_
  refine T_c (some 48) h ?_;clear h
  rintro ak H7 ⟨ac,rfl,h⟩
  refine⟨[(48,vi ac)],pk,?_⟩
  exact T_nr 1 [4] [vi ac] hQ h
 rw[if_neg c8]at h
 refine Q_bd 19 (eq_false_of_ne_true c8)<| T_q1 20 (undef) []<| T_q1 21 (undef) []<| T_q1 22 (undef) [21]<| T_q1 23 (undef) []<| T_q1 24 (undef) [23]<| T_q1 25 (undef) [20]<| T_q1 26 (undef) [25]<| T_q1 27 (undef) [22,26] ?_
 refine T_q1 28 (undef) [24,27]<| T_q1 29 (undef) [28]<| T_q1 30 (undef) []<| T_q1 31 (undef) [30]<| T_q1 32 (undef) [29,31]<| T_q1 33 (.bool false) [19,32] ?_
 refine Q_sub [(0,vp (some sA)),(1,vi d),(5,vp (pa b)),(33,.bool false)] sk ?_
 refine T_qe<| T_fz 33<| T_kt<| T_srz 6<| T_n 3 [(1,vi d),(45,vp (some sA))] ?_
 obtain⟨z,q25,h⟩:=h
 refine T_l1 46 69 q25 [45]<| T_nd 1 [1] [(47,vi d)] ?_
 refine T_c (some 48) h ?_;clear h
 rintro ah H8 ⟨ab,rfl,h⟩
 refine⟨[(48,vi ab)],pk,?_⟩
 exact T_nr 1 [4] [vi ab] hQ h
end space_Space_Give

/-! cmp.Compare[int] -/
namespace cmp_Compare_int
def K0:=Func.code Tryz.f54
end cmp_Compare_int
def cmp_Compare_int.pt(x y:Int)(H:Array Obj)(R:Value->Array Obj->Prop):Prop:=
 cmp_isNaN_int.C x H (λv H1=> ∃b:Bool,v=.bool b/\
 cmp_isNaN_int.C y H1 (λd H2=> ∃a:Bool,d=.bool a/\
 if b=true then(
 if a=true then(
 R (.int .i64 0) H2)
 else
 R (.int .i64 (-1)) H2)
 else
 if a=true then(
 R (.int .i64 1) H2)
 else
 if x<y then(
 R (.int .i64 (-1)) H2)
 else
 if x>y then(
 R (.int .i64 1) H2)
 else
 R (.int .i64 0) H2))
namespace cmp_Compare_int
theorem link{x y:Int}{H:Array Obj}{R:Value->Array Obj->Prop}(h:pt x y H R):C x y H R:=by
 refine T_en K0 20 Tryz.func54 ?_
 intro w0 Q hQ
 unfold pt at h
 refine T_su [(0,vi x),(1,vi y)]<| T_srz 0<| T_ed 1 [] []<| T_srz 1<| T_nd 1 [] [(7,vi x)] ?_
 refine T_c (some 8) h ?_;clear h
 rintro v H1 ⟨b,rfl,h⟩
 refine T_pd [7] [(8,.bool b)]<| T_ed 1 [8] [(5,.bool b)]<| T_srz 2<| T_nd 1 [] [(9,vi y)] ?_
 refine T_c (some 10) h ?_;clear h
 rintro d H2 ⟨a,rfl,h⟩
 refine T_pd [9] [(10,.bool a)]<| T_ed 1 [10] [(6,.bool a)]<| T_sz<| T_srz 3<| T_ed 1 [5] [(11,.bool b)] ?_
 by_cases c1:b=true
 ·rw[if_pos c1]at h
  refine T_cTz 11 c1<| T_sz<| T_srz 4<| T_ne 1 [(12,.bool a)] ?_
  by_cases c3:a=true
  ·rw[if_pos c3]at h
   exact T_cTz 12 c3<| T_srz 5<| T_nr 1 [4] [vi 0] hQ h
  rw[if_neg c3]at h
  exact T_cFz 12 (eq_false_of_ne_true c3)<| T_kt<| T_srz 6<| T_nr 1 [4] [vi (-1)] hQ h
 rw[if_neg c1]at h
 refine T_cFz 11 (eq_false_of_ne_true c1)<| T_kt<| T_sz<| T_srz 7<| T_ed 1 [6,11] [(13,.bool a)] ?_
 by_cases c5:a=true
 ·rw[if_pos c5]at h
  exact T_cTz 13 c5<| T_srz 8<| T_nr 1 [4] [vi 1] hQ h
 rw[if_neg c5]at h
 refine T_cFz 13 (eq_false_of_ne_true c5)<| T_kt<| T_sz<| T_srz 9<| T_ed 3 [13] [(16,.bool (decide (x<y)))] ?_
 by_cases c7:x<y
 ·rw[if_pos c7]at h
  exact T_cTz 16 (decide_eq_true c7)<| T_srz 10<| T_nr 1 [4] [vi (-1)] hQ h
 rw[if_neg c7]at h
 refine T_cFz 16 (decide_eq_false c7)<| T_kt<| T_sz<| T_srz 11<| T_ne 3 [(19,.bool (decide (x>y)))] ?_
 by_cases c9:x>y
 ·rw[if_pos c9]at h
  exact T_cTz 19 (decide_eq_true c9)<| T_srz 12<| T_nr 1 [4] [vi 1] hQ h
 rw[if_neg c9]at h
 exact T_cFz 19 (decide_eq_false c9)<| T_kt<| T_srz 13<| T_nr 1 [4] [vi 0] hQ h
end cmp_Compare_int

/-! cmp.isNaN[int] -/
namespace cmp_isNaN_int
def K0:=Func.code Tryz.f96
end cmp_isNaN_int
def cmp_isNaN_int.pt(x:Int)(H:Array Obj)(R:Value->Array Obj->Prop):Prop:=
 R (.bool (x !=x)) H
namespace cmp_isNaN_int
theorem link{x:Int}{H:Array Obj}{R:Value->Array Obj->Prop}(h:pt x H R):C x H R:=by
 refine T_en K0 6 Tryz.func96 ?_
 intro w0 Q hQ
 unfold pt at h
 exact T_su [(0,vi x)]<| T_srz 0<| T_ed 1 [] []<| T_srz 1<| T_nr 4 [2] [.bool (x !=x)] hQ h
end cmp_isNaN_int

/-! slices.Contains[[]int,int] -/
namespace slices_Contains_int_int
def K0:=Func.code Tryz.f51
end slices_Contains_int_int
def slices_Contains_int_int.pt(sB:Option Addr)(sN sC:Nat)(v:Int)(H:Array Obj)(R:Value->Array Obj->Prop):Prop:=
 slices_Index_int_int.C sB sN sC v H (λa H1=> ∃x:Int,a=.int .i64 x/\
 R (.bool (decide (x>=0))) H1)
namespace slices_Contains_int_int
theorem link{sB:Option Addr}{sN sC:Nat}{v:Int}{H:Array Obj}{R:Value->Array Obj->Prop}(h:pt sB sN sC v H R):C sB sN sC v H R:=by
 refine T_en K0 9 Tryz.func51 ?_
 intro w0 Q hQ
 unfold pt at h
 refine T_su [(0,vs sB sN sC),(1,vi v)]<| T_srz 0<| T_ed 1 [] []<| T_srz 1<| T_n 2 [(5,vs sB sN sC),(6,vi v)] ?_
 refine T_c (some 7) h ?_;clear h
 rintro a H1 ⟨x,rfl,h⟩
 refine⟨[(7,vi x)],pk,?_⟩
 exact T_nr 2 [4] [.bool (decide (x>=0))] hQ h
end slices_Contains_int_int

/-! slices.Clone[[]moraine/api.Entry,moraine/api.Entry] -/
namespace slices_Index_int_int
def K0:=Func.code Tryz.f93
def K2:=cb K0
def K3:=ca K2
def K6:=cb K3
def K7:=ca K6
def K8:=ca K7
end slices_Index_int_int
def slices_Index_int_int.pt(sB:Option Addr)(sN sC:Nat)(v:Int)(H:Array Obj)(R:Value->Array Obj->Prop):Prop:=
 ∃(I9:Int->Array Obj->Prop) (m9:Int->Array Obj->Nat),I9 0 H/\ ∀(s8:Int) (H1:Array Obj),I9 s8 H1->
 if s8< (sN:Int)then(
 ∃b:Addr,sB=some b/\
 ((0:Int)<=s8/\s8< (sN:Int))/\
 ∃x:Int,hat H1 (b.add (Int.toNat s8*1))=some (.int .i64 x)/\
 if v=x then(
 R (.int .i64 s8) H1)
 else
 (I9 (IntKind.wrap .i64 (s8+1)) H1/\m9 (IntKind.wrap .i64 (s8+1)) H1<m9 s8 H1))
 else
 R (.int .i64 (-1)) H1
namespace slices_Index_int_int
theorem link{sB:Option Addr}{sN sC:Nat}{v:Int}{H:Array Obj}{R:Value->Array Obj->Prop}(h:pt sB sN sC v H R):C sB sN sC v H R:=by
 refine T_en K0 19 Tryz.func93 ?_
 intro w0 Q hQ
 unfold pt at h
 refine T_su [(0,vs sB sN sC),(1,vi v)]<| T_srz 0<| T_ed 1 [] []<| T_sz<| T_srz 1<| T_ed 3 [] [(7,vi sN),(8,vi 0)]<| T_bz 0 ?_
 obtain⟨I9,m9,i1,i2⟩:=h
 refine S_loop (x:=K8) (σ:=Int) (λs_=> [(0,vs sB sN sC),(1,vi v),(7,vi sN),(8,vi s_)]) (λs_ H=>I9 s_ H) (λs_ H=>m9 s_ H) (0:Int) (by kernel_rfl) i1 sk ?_
 rintro s8 H1 i3
 have h:=i2 s8 H1 i3
 refine T_su [(0,vs sB sN sC),(1,vi v),(7,vi sN),(8,vi s8)]<| T_srz 2<| T_ed 1 [] [(9,.bool (decide (s8< (sN:Int))))]<| T_sz ?_
 by_cases c4:s8< (sN:Int)
 ·rw[if_pos c4]at h
  refine T_cTz 9 (decide_eq_true c4)<| T_kt<| T_sz<| T_bz 1<| T_srz 3<| T_ed 2 [9] [(5,vi s8)]<| T_srz 4<| T_nd 3 [] [(11,vi v),(12,vs sB sN sC),(13,vi s8)] ?_
  obtain⟨b,rfl,h⟩:=h
  obtain⟨q6,h⟩:=h
  refine T_xd (some 14) 67 3 1 b sN sC .i64 s8 Tryz.underlying67 q6.1 q6.2 [0,12,13] [(0,vs (some b) sN sC),(14,vp (some (b.add (Int.toNat s8*1))))] ?_
  obtain⟨x,q7,h⟩:=h
  refine T_l1 15 3 q7 [14]<| T_ed 1 [11,15] [(16,.bool (v==x))] ?_
  by_cases c8:v=x
  ·rw[if_pos c8]at h
   exact T_cTz 16 (beq_iff_eq.mpr c8)<| T_srz 5<| T_nr 2 [4] [vi s8] hQ h
  rw[if_neg c8]at h
  refine T_cFz 16 (beq_eq_false_iff_ne.mpr c8)<| T_k ?_
  refine S_blockEnd ?_
  refine S_then ?_
  refine T_rz 6<| T_ed 2 [5,8,16] [(8,vi (IntKind.wrap .i64 (s8+1)))] ?_
  exact S_round ((IntKind.wrap .i64 (s8+1)):Int) sk h
 rw[if_neg c4]at h
 refine T_cFz 9 (decide_eq_false c4) ?_
 refine S_exit 0 (by kernel_rfl) ?_
 refine S_exitThen ?_
 refine S_exitThen ?_
 refine S_exitHere ?_
 refine S_then ?_
 exact T_srz 7<| T_nr 1 [4] [vi (-1)] hQ h
end slices_Index_int_int

/-! (*moraine/obj.Heap).Epoch -/
namespace obj_Heap_Next
def K0:=Func.code Tryz.f63
end obj_Heap_Next
def obj_Heap_Next.pt(hv:Option Addr)(H:Array Obj)(R:Value->Array Obj->Prop):Prop:=
 obj_Heap_none.C hv H (λv H1=> ∃x:Bool,v=.bool x/\
 if x=true then(
 R (.tuple #[]) H1)
 else
 ∃a:Addr,hv=some a/\
 ∃b:Int,hat H1 (a.add 3)=some (.int .u64 b)/\
 (CanPuts H1 (a.add 3) 0 1)/\ ∀H2,H2=hputs H1 (a.add 3) [.int .u64 (IntKind.wrap .u64 (b+1))] 0->
 R (.tuple #[]) H2)
namespace obj_Heap_Next
set_option maxRecDepth 100000 in
theorem link{hv:Option Addr}{H:Array Obj}{R:Value->Array Obj->Prop}(h:pt hv H R):C hv H R:=by
 refine T_en K0 12 Tryz.func63 ?_
 intro w0 Q hQ
 unfold pt at h
 refine T_su [(0,vp hv)]<| T_srz 0<| T_nd 1 [] [(2,vp hv)] ?_
 refine T_c (some 3) h ?_;clear h
 rintro v H1 ⟨x,rfl,h⟩
 refine T_pd [2] [(3,.bool x)]<| T_ed 1 [3] [(4,.bool (!x))] ?_
 by_cases c1:x=true
 ·rw[if_pos c1]at h
  refine T_cFz 4 (congrArg Bool.not (c1))<| T_k ?_
  exact S_doneN (fn:=Tryz.f63) [] hQ (show ResOK _ _ _ [] _ from .nil) h
 rw[if_neg c1]at h
 refine T_cTz 4 (congrArg Bool.not (eq_false_of_ne_true c1))<| T_rz 1<| T_n 1 [(5,vp hv)] ?_
 obtain⟨a,rfl,h⟩:=h
 refine T_n 2 [(5,vp (some a)),(7,vp (some (a.add 3)))] ?_
 obtain⟨b,q3,h⟩:=h
 refine T_l1 8 23 q3 [7]<| T_n 3 [(9,vu (IntKind.wrap .u64 (b+1))),(11,vp (some (a.add 3)))] ?_
 obtain⟨q5,h⟩:=h
 refine T_st1 23 (vu (IntKind.wrap .u64 (b+1))) q5 ?_
 intro H2 e4
 replace h:=h H2 e4
 refine⟨[],pk,?_⟩
 refine N_end (by kernel_rfl) ?_
 exact S_doneN (fn:=Tryz.f63) [] hQ (show ResOK _ _ _ [] _ from .nil) h
end obj_Heap_Next

/-! moraine/morainelaw11.Word -/
namespace morainelaw11_Word
def K0:=Func.code Tryz.f82
end morainelaw11_Word
def morainelaw11_Word.pt(vW ae:Int)(f:Option Addr)(d e:Nat)(H:Array Obj)(R:Value->Array Obj->Prop):Prop:=
 ∀(b:Nat) (H1:Array Obj),b=H.size->H1=H.push (.cells #[.int .u64 vW,.int .i64 ae] 96)->
 ∃x:Int,hat H1 ((ad b).add 1)=some (.int .i64 x)/\
 if((decide (x>0)) && (decide ((d:Int)>0)))=true then(
 ∃l:Int,hat H1 ((ad b).add 1)=some (.int .i64 l)/\
 ((d:Int)≠0)/\
 ∃m:Addr,f=some m/\
 ((0:Int)<=(Int.tmod (IntKind.wrap .i64 (l-1)) (d:Int))/\(Int.tmod (IntKind.wrap .i64 (l-1)) (d:Int))< (d:Int))/\
 ∃s:Int,hat H1 (m.add (Int.toNat (Int.tmod (IntKind.wrap .i64 (l-1)) (d:Int))*1))=some (.int .u64 s)/\
 R (.int .u64 s) H1)
 else
 ∃j:Int,hat H1 (ad b)=some (.int .u64 j)/\
 if(iand .u64 j 7)=0 then(
 ∃ab:Int,hat H1 (ad b)=some (.int .u64 ab)/\
 moraineref01_Of.C ab H1 (λv H2=> ∃n ai xA xX af:Int,v=.agg #[.int .i64 n,.int .i64 ai,.int .i64 xA,.int .i64 xX,.int .u64 af]/\
 if n=0 then(
 ∃aa:Int,hat H2 (ad b)=some (.int .u64 aa)/\
 R (.int .u64 (iandnot .u64 aa 7)) H2)
 else
 ∃z:Int,hat H2 (ad b)=some (.int .u64 z)/\
 R (.int .u64 z) H2))
 else
 if(iand .u64 j 7)=4 then(
 ∃ac:Int,hat H1 (ad b)=some (.int .u64 ac)/\
 moraineref01_Of.C ac H1 (λaj H3=> ∃g u ag ah q:Int,aj=.agg #[.int .i64 g,.int .i64 u,.int .i64 ag,.int .i64 ah,.int .u64 q]/\
 if g=0 then(
 ∃r:Int,hat H3 (ad b)=some (.int .u64 r)/\
 R (.int .u64 (iandnot .u64 r 7)) H3)
 else
 ∃p:Int,hat H3 (ad b)=some (.int .u64 p)/\
 R (.int .u64 p) H3))
 else
 ∃o:Int,hat H1 (ad b)=some (.int .u64 o)/\
 R (.int .u64 (iandnot .u64 o 7)) H1
namespace morainelaw11_Word
set_option maxRecDepth 100000 in
theorem link{vW ae:Int}{f:Option Addr}{d e:Nat}{H:Array Obj}{R:Value->Array Obj->Prop}(h:pt vW ae f d e H R):C vW ae f d e H R:=by
 refine T_en K0 44 Tryz.func82 ?_
 intro w0 Q hQ
 unfold pt at h
 refine T_su [(0,.agg #[vu vW,vi ae]),(1,vs f d e)]<| T_srz 0<| T_nw (some 2) (λb=>vp (pa b)) (.cells #[vu vW,vi ae] 96) ?_
 intro b H1 e1 e2
 replace h:=h b H1 e1 e2
 refine T_pd [0] [(2,vp (pa b))]<| T_ed 1 [] []<| T_sz<| T_srz 1<| T_nd 1 [] [(6,vp (some ((ad b).add 1)))] ?_
 obtain⟨x,q3,h⟩:=h
 refine T_l1 7 3 q3 [6]<| T_nd 2 [7] [(9,.bool (decide (x>0)))] ?_
 refine N_cut [(1,vs f d e),(2,vp (pa b)),(13,.bool ((decide (x>0)) && (decide ((d:Int)>0))))] ?_ ?_
 ·refine S_then ?_
  by_cases c6:((decide (x>0)) && (decide ((d:Int)>0)))=true
  ·rw[if_pos c6]at h
   refine T_cTz 13 c6<| T_srz 2<| T_n 2 [(1,vs f d e),(14,vs f d e),(15,vp (some ((ad b).add 1)))] ?_
   obtain⟨l,q8,h⟩:=h
   refine T_l1 16 3 q8 [15]<| T_nd 3 [1,16] [(17,vi (IntKind.wrap .i64 (l-1))),(19,vi d)] ?_
   obtain⟨q9,h⟩:=h
   refine T_v1 20 (binN .rem 3 (vi (IntKind.wrap .i64 (l-1))) (vi d)) (vi (Int.tmod (IntKind.wrap .i64 (l-1)) (d:Int))) (λw _=>rem_run (P:=Tryz.prog) (t:=3) (k:=.i64) (x:=(IntKind.wrap .i64 (l-1))) (y:=(d:Int)) q9 w) [17,19] ?_
   obtain⟨m,rfl,h⟩:=h
   obtain⟨q10,h⟩:=h
   refine T_ix (some 21) 27 24 1 m d e .i64 (Int.tmod (IntKind.wrap .i64 (l-1)) (d:Int)) Tryz.underlying27 q10.1 q10.2 [(21,vp (some (m.add (Int.toNat (Int.tmod (IntKind.wrap .i64 (l-1)) (d:Int))*1))))] ?_
   obtain⟨s,q11,h⟩:=h
   exact T_l1 22 24 q11 [21]<| T_nr 1 [4] [vu s] hQ h
  rw[if_neg c6]at h
  refine T_cFz 13 (eq_false_of_ne_true c6)<| T_kt<| T_sz<| T_srz 3<| T_n 1 [(2,vp (pa b)),(23,vp (pa b))] ?_
  obtain⟨j,q12,h⟩:=h
  refine T_l1 24 24 q12 [23]<| T_ed 2 [24] [(5,vu (iand .u64 j 7))]<| T_srz 4<| T_nd 3 [] [(28,.bool ((iand .u64 j 7) !=0))] ?_
  by_cases c13:(iand .u64 j 7)=0
  ·rw[if_pos c13]at h
   refine N_bd 28 (bne_eq_false_iff_eq.mpr c13)<| T_nd 5 [5,28] [(32,.bool false),(33,vp (pa b))] ?_
   obtain⟨ab,q15,h⟩:=h
   refine T_l1 34 24 q15 [33] ?_
   refine T_c (some 35) h ?_;clear h
   rintro v H2 ⟨n,ai,xA,xX,af,rfl,h⟩
   refine T_pd [34] [(35,.agg #[vi n,vi ai,vi xA,vi xX,vu af])]<| T_ed 3 [32,35] [(38,.bool (n==0))] ?_
   by_cases c16:n=0
   ·rw[if_pos c16]at h
    refine T_cTz 38 (beq_iff_eq.mpr c16)<| T_srz 5<| T_n 1 [(39,vp (pa b))] ?_
    obtain⟨aa,q18,h⟩:=h
    exact T_l1 40 24 q18 [39]<| T_nr 2 [4] [vu (iandnot .u64 aa 7)] hQ h
   rw[if_neg c16]at h
   refine T_cFz 38 (beq_eq_false_iff_ne.mpr c16)<| T_kt<| T_srz 6<| T_n 1 [(42,vp (pa b))] ?_
   obtain⟨z,q19,h⟩:=h
   exact T_l1 43 24 q19 [42]<| T_nr 1 [4] [vu z] hQ h
  rw[if_neg c13]at h
  refine N_bd 28 (bne_iff_ne.mpr c13)<| T_nd 4 [5,28] [(32,.bool ((iand .u64 j 7) !=4))] ?_
  by_cases c20:(iand .u64 j 7)=4
  ·rw[if_pos c20]at h
   refine N_bd 32 (bne_eq_false_iff_eq.mpr c20)<| T_nd 1 [] [(33,vp (pa b))] ?_
   obtain⟨ac,q22,h⟩:=h
   refine T_l1 34 24 q22 [33] ?_
   refine T_c (some 35) h ?_;clear h
   rintro aj H3 ⟨g,u,ag,ah,q,rfl,h⟩
   refine T_pd [34] [(35,.agg #[vi g,vi u,vi ag,vi ah,vu q])]<| T_ed 3 [32,35] [(38,.bool (g==0))] ?_
   by_cases c23:g=0
   ·rw[if_pos c23]at h
    refine T_cTz 38 (beq_iff_eq.mpr c23)<| T_srz 5<| T_n 1 [(39,vp (pa b))] ?_
    obtain⟨r,q25,h⟩:=h
    exact T_l1 40 24 q25 [39]<| T_nr 2 [4] [vu (iandnot .u64 r 7)] hQ h
   rw[if_neg c23]at h
   refine T_cFz 38 (beq_eq_false_iff_ne.mpr c23)<| T_kt<| T_srz 6<| T_n 1 [(42,vp (pa b))] ?_
   obtain⟨p,q26,h⟩:=h
   exact T_l1 43 24 q26 [42]<| T_nr 1 [4] [vu p] hQ h
  rw[if_neg c20]at h
  refine N_bd 32 (bne_iff_ne.mpr c20)<| T_ed 6 [32] [(38,.bool true)]<| T_tz 38<| T_srz 5<| T_n 1 [(39,vp (pa b))] ?_
  obtain⟨o,q27,h⟩:=h
  exact T_l1 40 24 q27 [39]<| T_nr 2 [4] [vu (iandnot .u64 o 7)] hQ h
 intro hk
 refine T_nu [(1,vs f d e),(2,vp (pa b)),(9,.bool (decide (x>0)))] ?_
 by_cases c4:x>0
 ·have b5:(decide (x>0))=true:=decide_eq_true c4
  refine N_env [(1,vs f d e),(2,vp (pa b)),(9,.bool true)] (by rw[b5]) ?_
  refine T_nd 4 [9] [(13,.bool (decide ((d:Int)>0)))] ?_
  refine N_end (by kernel_rfl) ?_
  refine S_bd 13 (b:=(decide ((d:Int)>0))) (v:=((decide (x>0)) && (decide ((d:Int)>0)))) (by simp only[b5,BL]) ?_
  exact hk
 have b5:(decide (x>0))=false:=decide_eq_false c4
 refine N_env [(1,vs f d e),(2,vp (pa b)),(9,.bool false)] (by rw[b5]) ?_
 refine T_nd 4 [9] [(13,.bool false)] ?_
 refine N_end (by kernel_rfl) ?_
 refine S_bd 13 (b:=false) (v:=((decide (x>0)) && (decide ((d:Int)>0)))) (by simp only[b5,BL]) ?_
 exact hk
end morainelaw11_Word

/-! moraine/morainelaw11.words -/
namespace morainelaw11_words
def K0:=Func.code Tryz.f86
def K2:=cb K0
def K4:=cb K2
def K5:=ca K4
def K8:=cb K5
def K9:=ca K8
def K10:=ca K9
end morainelaw11_words
def morainelaw11_words.pt(lB:Option Addr)(lN lC:Nat)(d:Option Addr)(e f:Nat)(H:Array Obj)(R:Value->Array Obj->Prop):Prop:=
 ∃(n:(Option Addr)->Nat->Nat->Int->Array Obj->Prop) (m11:(Option Addr)->Nat->Nat->Int->Array Obj->Nat),n none 0 0 0 H/\ ∀(g:Option Addr) (outN:Nat) (outC:Nat) (i:Int) (H1:Array Obj),n g outN outC i H1->
 if((decide (i< (lN:Int))) && (decide (i<62)))=true then(
 ∃j:Addr,lB=some j/\
 ((0:Int)<=i/\i< (lN:Int))/\
 ∃xW l:Int,RowAt H1 (j.add (Int.toNat i*2)) 0 [.int .u64 xW,.int .i64 l]/\
 morainelaw11_Word.C xW l d e f H1 (λv H2=> ∃x:Int,v=.int .u64 x/\
 ∀(b:Nat) (H3:Array Obj),b=H2.size->H3=H2.push (.cells #[.int .u64 x] 24)->
 appendK 1 24 8 [.int .u64 0] g outN outC (some (ad b)) 1 H3 (λap m H4=>
 (n ap (outN+1) m (IntKind.wrap .i64 (i+1)) H4/\m11 ap (outN+1) m (IntKind.wrap .i64 (i+1)) H4<m11 g outN outC i H1))))
 else
 R (.slice g outN outC) H1
namespace morainelaw11_words
set_option maxRecDepth 100000 in
theorem link{lB:Option Addr}{lN lC:Nat}{d:Option Addr}{e f:Nat}{H:Array Obj}{R:Value->Array Obj->Prop}(h:pt lB lN lC d e f H R):C lB lN lC d e f H R:=by
 refine T_en K0 27 Tryz.func86 ?_
 intro w0 Q hQ
 unfold pt at h
 refine T_su [(0,vs lB lN lC),(1,vs d e f)]<| T_srz 0<| T_ed 1 [] []<| T_srz 1<| T_ed 1 [] [(5,vs none 0 0)]<| T_sz<| T_srz 2<| T_ed 1 [] [(6,vi 0)]<| T_bz 0 ?_
 obtain⟨n,m11,i1,i2⟩:=h
 refine S_loop (x:=K10) (σ:=(Option Addr)×Nat×Nat×Int) (λs_=> [(0,vs lB lN lC),(1,vs d e f),(5,vs s_.1 s_.2.1 s_.2.2.1),(6,vi s_.2.2.2)]) (λs_ H=>n s_.1 s_.2.1 s_.2.2.1 s_.2.2.2 H) (λs_ H=>m11 s_.1 s_.2.1 s_.2.2.1 s_.2.2.2 H) ((none,0,0,0):(Option Addr)×Nat×Nat×Int) (by kernel_rfl) i1 sk ?_
 rintro⟨g,outN,outC,i⟩ H1 i3
 have h:=i2 g outN outC i H1 i3
 refine T_su [(0,vs lB lN lC),(1,vs d e f),(5,vs g outN outC),(6,vi i)]<| T_sz<| T_srz 3 ?_
 refine N_cut [(0,vs lB lN lC),(1,vs d e f),(5,vs g outN outC),(6,vi i),(14,.bool ((decide (i< (lN:Int))) && (decide (i<62))))] ?_ ?_
 ·refine S_then ?_
  by_cases c6:((decide (i< (lN:Int))) && (decide (i<62)))=true
  ·rw[if_pos c6]at h
   refine T_cTz 14 c6<| T_kt<| T_sz<| T_bz 1<| T_rz 5<| T_n 3 [(0,vs lB lN lC),(1,vs d e f),(6,vi i),(17,vs g outN outC),(18,vs lB lN lC),(19,vi i)] ?_
   obtain⟨j,rfl,h⟩:=h
   obtain⟨q8,h⟩:=h
   refine T_xd (some 20) 52 96 2 j lN lC .i64 i Tryz.underlying52 q8.1 q8.2 [0,18,19] [(0,vs (some j) lN lC),(20,vp (some (j.add (Int.toNat i*2))))] ?_
   obtain⟨xW,l,q9,h⟩:=h
   refine T_lr 21 96 q9 [20]<| T_nd 1 [] [(22,vs d e f)] ?_
   refine T_c (some 23) h ?_;clear h
   rintro v H2 ⟨x,rfl,h⟩
   refine T_pd [21,22] [(23,vu x)]<| T_nw (some 24) (λb=>vs (pa b) 1 1) (.cells #[vu x] 24) ?_
   intro b H3 e10 e11
   replace h:=h b H3 e10 e11
   refine T_pd [23] [(24,vs (pa b) 1 1)] ?_
   refine N_op (some 25) (appendN #[27,27] 27 #[vs g outN outC,vs (pa b) 1 1]) _ (λ_=>by kernel_rfl) (ss_append (T:=24) (sz:=1) (bytes:=8) (zero:=(vu 0:Value)) Tryz.underlying27 Tryz.underlying27 rfl (show Tryz.prog.info? 24=some Tryz.t24 from by kernel_rfl) (by kernel_rfl) (by kernel_rfl) (by decide) (by kernel_rfl) (by first | exact h | (simpa only[Value.cells,List.toList_toArray]using h))) ?_;clear h
   rintro _ H4 ⟨ap,m,rfl,h⟩
   refine T_pd [17,24] [(25,vs ap (outN+1) m)]<| T_nd 1 [25] [(5,vs ap (outN+1) m)] ?_
   refine N_end (by kernel_rfl) ?_
   refine S_blockEnd ?_
   refine S_then ?_
   refine T_rz 4<| T_ed 3 [6] [(6,vi (IntKind.wrap .i64 (i+1)))] ?_
   exact S_round ((ap,(outN+1),m,(IntKind.wrap .i64 (i+1))):(Option Addr)×Nat×Nat×Int) sk h
  rw[if_neg c6]at h
  refine T_cFz 14 (eq_false_of_ne_true c6) ?_
  refine S_exit 0 (by kernel_rfl) ?_
  refine S_exitThen ?_
  refine S_exitThen ?_
  refine S_exitHere ?_
  refine S_then ?_
  exact T_srz 6<| T_nr 2 [4] [vs g outN outC] hQ h
 intro hk
 refine T_n 5 [(0,vs lB lN lC),(1,vs d e f),(5,vs g outN outC),(6,vi i),(11,.bool (decide (i< (lN:Int))))] ?_
 by_cases c4:i< (lN:Int)
 ·have b5:(decide (i< (lN:Int)))=true:=decide_eq_true c4
  refine N_env [(0,vs lB lN lC),(1,vs d e f),(5,vs g outN outC),(6,vi i),(11,.bool true)] (by rw[b5]) ?_
  refine T_nd 3 [11] [(14,.bool (decide (i<62)))] ?_
  refine N_end (by kernel_rfl) ?_
  refine S_bd 14 (b:=(decide (i<62))) (v:=((decide (i< (lN:Int))) && (decide (i<62)))) (by simp only[b5,BL]) ?_
  exact hk
 have b5:(decide (i< (lN:Int)))=false:=decide_eq_false c4
 refine N_env [(0,vs lB lN lC),(1,vs d e f),(5,vs g outN outC),(6,vi i),(11,.bool false)] (by rw[b5]) ?_
 refine T_nd 3 [11] [(14,.bool false)] ?_
 refine N_end (by kernel_rfl) ?_
 refine S_bd 14 (b:=false) (v:=((decide (i< (lN:Int))) && (decide (i<62)))) (by simp only[b5,BL]) ?_
 exact hk
end morainelaw11_words

/-! moraine/morainelaw11.kind -/
namespace morainelaw11_kind
def K0:=Func.code Tryz.f85
end morainelaw11_kind
def morainelaw11_kind.pt(nv:Int)(H:Array Obj)(R:Value->Array Obj->Prop):Prop:=
 ∀(b:Nat) (H1:Array Obj),b=H.size->H1=H.push (.cells #[.int .i64 1,.int .i64 5,.int .i64 2] 3)->
 ((0:Int)<=(Int.tmod (iand .i64 nv 65535) 3)/\(Int.tmod (iand .i64 nv 65535) 3)< (3:Int))/\
 ∃x:Int,hat H1 ((ad b).add (Int.toNat (Int.tmod (iand .i64 nv 65535) 3)*1))=some (.int .i64 x)/\
 R (.int .i64 x) H1
namespace morainelaw11_kind
set_option maxRecDepth 100000 in
theorem link{nv:Int}{H:Array Obj}{R:Value->Array Obj->Prop}(h:pt nv H R):C nv H R:=by
 refine T_en K0 9 Tryz.func85 ?_
 intro w0 Q hQ
 unfold pt at h
 refine T_su [(0,vi nv)]<| T_srz 0<| T_ed 1 [] []<| T_srz 1<| T_nw (some 3) (λb=>vs (pa b) 3 3) (.cells #[vi 1,vi 5,vi 2] 3) ?_
 intro b H1 e1 e2
 replace h:=h b H1 e1 e2
 refine T_pd [] [(3,vs (pa b) 3 3)]<| T_nd 3 [0] [(6,vi (Int.tmod (iand .i64 nv 65535) 3))] ?_
 obtain⟨q3,h⟩:=h
 refine T_ix (some 7) 67 3 1 (ad b) 3 3 .i64 (Int.tmod (iand .i64 nv 65535) 3) Tryz.underlying67 q3.1 q3.2 [(7,vp (some ((ad b).add (Int.toNat (Int.tmod (iand .i64 nv 65535) 3)*1))))] ?_
 obtain⟨x,q4,h⟩:=h
 exact T_l1 8 3 q4 [7]<| T_nr 1 [2] [vi x] hQ h
end morainelaw11_kind

/-! moraine/morainelaw11.Set -/
namespace morainelaw11_Set
def K0:=Func.code Tryz.f87
end morainelaw11_Set
def morainelaw11_Set.pt(hv:Option Addr)(wv nv v:Int)(H:Array Obj)(R:Value->Array Obj->Prop):Prop:=
 obj_Heap_Pair.C hv wv H (λaa H1=> ∃x:Bool,aa=.bool x/\
 if(x && ((iand .i64 (iand .i64 nv 65535) 1)==0))=true then(
 obj_Heap_SetCar.C hv wv v H1 (λae H2=> ∃l:Int,ae=.int .i64 l/\
 R (.int .i64 l) H2))
 else
 obj_Heap_Pair.C hv wv H1 (λaf H3=> ∃g:Bool,af=.bool g/\
 if g=true then(
 obj_Heap_SetCdr.C hv wv v H3 (λu H4=> ∃m:Int,u=.int .i64 m/\
 R (.int .i64 m) H4))
 else
 obj_Heap_Type.C hv wv H3 (λq H5=> ∃e:Int,q=.int .i64 e/\
 if e=0 then(
 R (.int .i64 3) H5)
 else
 obj_Heap_Len.C hv wv H5 (λz H6=> ∃j:Int,z=.int .i64 j/\
 if j=0 then(
 R (.int .i64 3) H6)
 else
 obj_Heap_Type.C hv wv H6 (λac H7=> ∃i:Int,ac=.int .i64 i/\
 if i=2 then(
 R (.int .i64 3) H7)
 else
 obj_Heap_Type.C hv wv H7 (λs H8=> ∃f:Int,s=.int .i64 f/\
 if f=10 then(
 R (.int .i64 3) H8)
 else
 obj_Heap_Type.C hv wv H8 (λo H9=> ∃b:Int,o=.int .i64 b/\
 obj_Heap_Len.C hv wv H9 (λp ab=> ∃a:Int,p=.int .i64 a/\
 (a≠0)/\
 obj_Heap_Set.C hv wv b (Int.tmod (iand .i64 nv 65535) a) v ab (λn r=> ∃d:Int,n=.int .i64 d/\
 R (.int .i64 d) r)))))))))
namespace morainelaw11_Set
set_option maxRecDepth 100000 in
theorem link{hv:Option Addr}{wv nv v:Int}{H:Array Obj}{R:Value->Array Obj->Prop}(h:pt hv wv nv v H R):C hv wv nv v H R:=by
 refine T_en K0 67 Tryz.func87 ?_
 intro w0 Q hQ
 unfold pt at h
 refine T_su [(0,vp hv),(1,vu wv),(2,vi nv),(3,vu v)]<| T_srz 0<| T_ed 1 [] []<| T_srz 1<| T_ed 3 [2] [(2,vi (iand .i64 nv 65535))]<| T_sz<| T_bz 0<| T_srz 2<| T_nd 2 [] [(12,vp hv),(13,vu wv)] ?_
 refine T_c (some 14) h ?_;clear h
 rintro aa H1 ⟨x,rfl,h⟩
 refine T_pd [12,13] [(14,.bool x)]<| T_nd 1 [14] [(15,.bool x)] ?_
 refine N_cut [(0,vp hv),(1,vu wv),(2,vi (iand .i64 nv 65535)),(3,vu v),(11,.bool (x && ((iand .i64 (iand .i64 nv 65535) 1)==0)))] ?_ ?_
 ·refine S_then ?_
  by_cases c3:(x && ((iand .i64 (iand .i64 nv 65535) 1)==0))=true
  ·rw[if_pos c3]at h
   refine T_cTz 11 c3<| T_srz 3<| T_n 3 [(20,vp hv),(21,vu wv),(22,vu v)] ?_
   refine T_c (some 23) h ?_;clear h
   rintro ae H2 ⟨l,rfl,h⟩
   refine⟨[(23,vi l)],pk,?_⟩
   exact T_nr 1 [8] [vi l] hQ h
  rw[if_neg c3]at h
  refine T_cFz 11 (eq_false_of_ne_true c3)<| T_srz 4<| T_n 2 [(0,vp hv),(1,vu wv),(2,vi (iand .i64 nv 65535)),(3,vu v),(25,vp hv),(26,vu wv)] ?_
  refine T_c (some 27) h ?_;clear h
  rintro af H3 ⟨g,rfl,h⟩
  refine T_pd [25,26] [(27,.bool g)]<| T_ed 1 [27] [(24,.bool g)] ?_
  by_cases c5:g=true
  ·rw[if_pos c5]at h
   refine T_cTz 24 c5<| T_srz 5<| T_n 3 [(28,vp hv),(29,vu wv),(30,vu v)] ?_
   refine T_c (some 31) h ?_;clear h
   rintro u H4 ⟨m,rfl,h⟩
   refine⟨[(31,vi m)],pk,?_⟩
   exact T_nr 1 [8] [vi m] hQ h
  rw[if_neg c5]at h
  refine T_cFz 24 (eq_false_of_ne_true c5)<| T_srz 6<| T_nd 2 [24] [(33,vp hv),(34,vu wv)] ?_
  refine T_c (some 35) h ?_;clear h
  rintro q H5 ⟨e,rfl,h⟩
  refine T_pd [33,34] [(35,vi e)]<| T_nd 2 [35] [(37,.bool (e==0))] ?_
  by_cases c7:e=0
  ·rw[if_pos c7]at h
   exact N_bd 37 (beq_iff_eq.mpr c7)<| T_ed 18 [37] [(32,.bool true)]<| T_tz 32<| T_srz 7<| T_nr 1 [8] [vi 3] hQ h
  rw[if_neg c7]at h
  refine N_bd 37 (beq_eq_false_iff_ne.mpr c7)<| T_nd 2 [] [(38,vp hv),(39,vu wv)] ?_
  refine T_c (some 40) h ?_;clear h
  rintro z H6 ⟨j,rfl,h⟩
  refine T_pd [38,39] [(40,vi j)]<| T_nd 3 [37,40] [(43,.bool (j==0))] ?_
  by_cases c9:j=0
  ·rw[if_pos c9]at h
   exact N_bd 43 (beq_iff_eq.mpr c9)<| T_ed 12 [43] [(32,.bool true)]<| T_tz 32<| T_srz 7<| T_nr 1 [8] [vi 3] hQ h
  rw[if_neg c9]at h
  refine N_bd 43 (beq_eq_false_iff_ne.mpr c9)<| T_nd 2 [] [(44,vp hv),(45,vu wv)] ?_
  refine T_c (some 46) h ?_;clear h
  rintro ac H7 ⟨i,rfl,h⟩
  refine T_pd [44,45] [(46,vi i)]<| T_nd 3 [43,46] [(49,.bool (i==2))] ?_
  by_cases c11:i=2
  ·rw[if_pos c11]at h
   exact N_bd 49 (beq_iff_eq.mpr c11)<| T_ed 6 [49] [(32,.bool true)]<| T_tz 32<| T_srz 7<| T_nr 1 [8] [vi 3] hQ h
  rw[if_neg c11]at h
  refine N_bd 49 (beq_eq_false_iff_ne.mpr c11)<| T_nd 2 [] [(50,vp hv),(51,vu wv)] ?_
  refine T_c (some 52) h ?_;clear h
  rintro s H8 ⟨f,rfl,h⟩
  refine T_pd [50,51] [(52,vi f)]<| T_ed 3 [49,52] [(32,.bool (f==10))] ?_
  by_cases c13:f=10
  ·rw[if_pos c13]at h
   exact T_cTz 32 (beq_iff_eq.mpr c13)<| T_srz 7<| T_nr 1 [8] [vi 3] hQ h
  rw[if_neg c13]at h
  refine T_cFz 32 (beq_eq_false_iff_ne.mpr c13)<| T_k ?_
  refine S_blockEnd ?_
  refine S_then ?_
  refine T_srz 8<| T_nd 4 [32] [(55,vp hv),(56,vu wv),(57,vp hv),(58,vu wv)] ?_
  refine T_c (some 59) h ?_;clear h
  rintro o H9 ⟨b,rfl,h⟩
  refine T_pd [57,58] [(59,vi b)]<| T_nd 3 [0,1,2] [(60,vi (iand .i64 nv 65535)),(61,vp hv),(62,vu wv)] ?_
  refine T_c (some 63) h ?_;clear h
  rintro p ab ⟨a,rfl,h⟩
  refine T_pd [61,62] [(63,vi a)] ?_
  obtain⟨q15,h⟩:=h
  refine T_v1 64 (binN .rem 3 (vi (iand .i64 nv 65535)) (vi a)) (vi (Int.tmod (iand .i64 nv 65535) a)) (λw _=>rem_run (P:=Tryz.prog) (t:=3) (k:=.i64) (x:=(iand .i64 nv 65535)) (y:=a) q15 w) [60,63]<| T_nd 1 [3] [(65,vu v)] ?_
  refine T_c (some 66) h ?_;clear h
  rintro n r ⟨d,rfl,h⟩
  refine⟨[(66,vi d)],pk,?_⟩
  exact T_nr 1 [8] [vi d] hQ h
 intro hk
 refine T_nu [(0,vp hv),(1,vu wv),(2,vi (iand .i64 nv 65535)),(3,vu v),(15,.bool x)] ?_
 by_cases c1:x=true
 ·have b2:x=true:=c1
  refine N_env [(0,vp hv),(1,vu wv),(2,vi (iand .i64 nv 65535)),(3,vu v),(15,.bool true)] (by rw[b2]) ?_
  refine T_nd 5 [15] [(11,.bool ((iand .i64 (iand .i64 nv 65535) 1)==0))] ?_
  refine N_end (by kernel_rfl) ?_
  refine S_bd 11 (b:=((iand .i64 (iand .i64 nv 65535) 1)==0)) (v:=(x && ((iand .i64 (iand .i64 nv 65535) 1)==0))) (by simp only[b2,BL]) ?_
  exact hk
 have b2:x=false:=eq_false_of_ne_true c1
 refine N_env [(0,vp hv),(1,vu wv),(2,vi (iand .i64 nv 65535)),(3,vu v),(15,.bool false)] (by rw[b2]) ?_
 refine T_nd 5 [15] [(11,.bool false)] ?_
 refine N_end (by kernel_rfl) ?_
 refine S_bd 11 (b:=false) (v:=(x && ((iand .i64 (iand .i64 nv 65535) 1)==0))) (by simp only[b2,BL]) ?_
 exact hk
end morainelaw11_Set

/-! moraine/morainelaw11.Made -/
namespace morainelaw11_Made
def K0:=Func.code Tryz.f44
def K2:=cb K0
def K3:=ca K2
def K4:=cb K2
def K6:=cb K4
def K8:=cb K6
def K9:=ca K8
def K12:=cb K9
def K13:=ca K12
def K15:=cb K13
def K17:=cb K15
def K27:=cb K17
def K29:=cb K27
def K31:=cb K29
def K32:=ca K31
end morainelaw11_Made
def morainelaw11_Made.pt(hv:Option Addr)(az y xN aw af a0 ae:Int)(av:Option Addr)(ax ay:Nat)(d:Option Addr)(a e:Nat)(H:Array Obj)(R:Value->Array Obj->Prop):Prop:=
 ∀(b:Nat) (H1:Array Obj),b=H.size->H1=H.push (.cells #[.int .i64 az,.int .i64 y,.int .i64 xN,.int .u64 aw,.int .i64 af,.int .u64 a0,.int .i64 ae,.slice av ax ay] 98)->
 ∃xW r:Int,RowAt H1 ((ad b).add 3) 0 [.int .u64 xW,.int .i64 r]/\
 ∃m k:Int,RowAt H1 ((ad b).add 5) 0 [.int .u64 m,.int .i64 k]/\
 morainelaw11_Word.C xW r d a e H1 (λv H2=> ∃x:Int,v=.int .u64 x/\RowAt H2 ((ad b).add 5) 0 [.int .u64 m,.int .i64 k]/\
 morainelaw11_Word.C m k d a e H2 (λbd H3=> ∃g:Int,bd=.int .u64 g/\
 ∃f:Int,hat H3 (ad b)=some (.int .i64 f)/\
 if f=0 then(
 obj_Heap_Cons.C hv x g H3 (λbg H4=> ∃ra rb:Int,bg=.tuple #[.int .u64 ra,.int .i64 rb]/\
 if rb=0 then(
 ∀(an:Nat) (H5:Array Obj),an=H4.size->H5=H4.push (.cells #[.int .u64 ra] 24)->
 appendK 1 24 8 [.int .u64 0] d a e (some (ad an)) 1 H5 (λap al H6=>
 R (.slice ap (a+1) al) H6))
 else
 R (.slice d a e) H4))
 else
 if f=1 then(
 obj_Heap_Weak.C hv x g H3 (λa9 H7=> ∃o q:Int,a9=.tuple #[.int .u64 o,.int .i64 q]/\
 if q=0 then(
 ∀(au:Nat) (H8:Array Obj),au=H7.size->H8=H7.push (.cells #[.int .u64 o] 24)->
 appendK 1 24 8 [.int .u64 0] d a e (some (ad au)) 1 H8 (λac t H9=>
 R (.slice ac (a+1) t) H9))
 else
 R (.slice d a e) H7))
 else
 if f=2 then(
 ∃z:Int,hat H3 ((ad b).add 1)=some (.int .i64 z)/\
 ∃(xB:Option Addr) (l xC:Nat),hat H3 ((ad b).add 7)=some (.slice xB l xC)/\
 morainelaw11_kind.C z H3 (λba a3=> ∃ak:Int,ba=.int .i64 ak/\RowAt a3 ((ad b).add 7) 0 [.slice xB l xC]/\
 morainelaw11_words.C xB l xC d a e a3 (λa4 a6=> ∃(aj:Option Addr) (ah ag:Nat),a4=.slice aj ah ag/\
 obj_Heap_Make.C hv ak 0 aj ah ag a6 (λbc a1=> ∃i j:Int,bc=.tuple #[.int .u64 i,.int .i64 j]/\
 if j=0 then(
 ∀(am:Nat) (H13:Array Obj),am=a1.size->H13=a1.push (.cells #[.int .u64 i] 24)->
 appendK 1 24 8 [.int .u64 0] d a e (some (ad am)) 1 H13 (λaa s bf=>
 R (.slice aa (a+1) s) bf))
 else
 R (.slice d a e) a1))))
 else
 if f=3 then(
 ∃ai:Int,hat H3 ((ad b).add 2)=some (.int .i64 ai)/\
 morainelaw11_Set.C hv x ai g H3 (λbe a8=> ∃bb:Int,be=.int .i64 bb/\
 R (.slice d a e) a8))
 else
 if f=4 then(
 ∀(aq:Nat) (H16:Array Obj),aq=H3.size->H16=H3.push (.cells #[.int .u64 20,.int .u64 20] 24)->
 obj_Heap_Make.C hv 10 0 (some (ad aq)) 2 2 H16 (λa7 a2=> ∃n p:Int,a7=.tuple #[.int .u64 n,.int .i64 p]/\
 if p=0 then(
 ∀(ao:Nat) (H18:Array Obj),ao=a2.size->H18=a2.push (.cells #[.int .u64 n] 24)->
 appendK 1 24 8 [.int .u64 0] d a e (some (ad ao)) 1 H18 (λab u a5=>
 R (.slice ab (a+1) u) a5))
 else
 R (.slice d a e) a2))
 else
 R (.slice d a e) H3))
namespace morainelaw11_Made
set_option maxRecDepth 100000 in
theorem link{hv:Option Addr}{az y xN aw af a0 ae:Int}{av:Option Addr}{ax ay:Nat}{d:Option Addr}{a e:Nat}{H:Array Obj}{R:Value->Array Obj->Prop}(h:pt hv az y xN aw af a0 ae av ax ay d a e H R):C hv az y xN aw af a0 ae av ax ay d a e H R:=by
 refine T_en K0 76 Tryz.func44 ?_
 intro w0 Q hQ
 unfold pt at h
 refine T_su [(0,vp hv),(1,.agg #[vi az,vi y,vi xN,vu aw,vi af,vu a0,vi ae,vs av ax ay]),(2,vs d a e)]<| T_srz 0<| T_nw (some 4) (λb=>vp (pa b)) (.cells #[vi az,vi y,vi xN,vu aw,vi af,vu a0,vi ae,vs av ax ay] 98) ?_
 intro b H1 e1 e2
 replace h:=h b H1 e1 e2
 refine T_pd [1] [(4,vp (pa b))]<| T_ed 1 [] []<| T_sz ?_
 obtain⟨xW,r,q3,h⟩:=h
 obtain⟨m,k,q4,h⟩:=h
 refine S_regionG 1 (Code.ops K3) [(3,((ad b).add 3),[vu xW,vi r]),(7,((ad b).add 5),[vu m,vi k])] 10 (bv 10 0) (by kernel_rfl) (by kernel_rfl) (by kernel_rfl) (by kernel_rfl) (by kernel_rfl) (show FactsAt _ _ _ from⟨q3,q4,trivial⟩) ?_
 refine T_gp 0 (some 11) (vp (some ((ad b).add 3))) (bv 10 1) [(0,vp hv),(2,vs d a e),(4,vp (pa b)),(11,vp (some ((ad b).add 3)))]<| T_g1 1 12 (.agg #[vu xW,vi r]) (bv 10 3) [11] (loadN 96 (vp (some ((ad b).add 3)))) (held_row 3 (λ_=>by kernel_rfl) (λ_=>by kernel_rfl) (List.Mem.head _) (.inl (by kernel_rfl)))<| T_gp1 2 13 (vs d a e) (bv 10 7) []<| T_gp1 4 15 (vp (some ((ad b).add 5))) (bv 10 23) []<| T_g1 5 16 (.agg #[vu m,vi k]) (bv 10 55) [15] (loadN 96 (vp (some ((ad b).add 5)))) (held_row 7 (λ_=>by kernel_rfl) (λ_=>by kernel_rfl) (List.Mem.tail _ (List.Mem.head _)) (.inl (by kernel_rfl)))<| T_gp1 6 17 (vs d a e) (bv 10 119) [] ?_
 refine G_call 3 (some 14) (bv 10 127) 82 #[.agg #[vu xW,vi r],vs d a e] (by kernel_rfl) (λ_=>by kernel_rfl) h (by kernel_rfl) ?_;clear h
 rintro v H2 ⟨x,rfl,h⟩
 obtain⟨f5,h⟩:=h
 refine⟨[(0,vp hv),(2,vs d a e),(4,vp (pa b)),(14,vu x),(16,.agg #[vu m,vi k]),(17,vs d a e)],pk,(show FactsAt _ _ _ from⟨trivial,f5,trivial⟩),?_⟩
 refine G_call 7 (some 18) (bv 10 255) 82 #[.agg #[vu m,vi k],vs d a e] (by kernel_rfl) (λ_=>by kernel_rfl) h (by kernel_rfl) ?_;clear h
 rintro bd H3 ⟨g,rfl,h⟩
 refine⟨[(0,vp hv),(2,vs d a e),(4,vp (pa b)),(14,vu x),(18,vu g)],pk,(show FactsAt _ _ _ from⟨trivial,trivial,trivial⟩),?_⟩
 refine T_g 8 (some 7) (vu x) (bv 10 511) [(0,vp hv),(2,vs d a e),(4,vp (pa b)),(7,vu x),(18,vu g)] (pure (.value (vu x)):Sem Next) (λ_ _ _ _ _=>rfl)<| T_g1 9 8 (vu g) (bv 10 1023) [18] (pure (.value (vu g)):Sem Next) (λ_ _ _ _ _=>rfl) ?_
 refine G_sub [(0,vp hv),(2,vs d a e),(4,vp (pa b)),(7,vu x),(8,vu g)] sk ?_
 refine G_end (by kernel_rfl) ?_
 refine S_then ?_
 refine T_srz 2<| T_ne 1 [(0,vp hv),(2,vs d a e),(4,vp (pa b)),(7,vu x),(8,vu g),(9,vu 0)]<| T_srz 3<| T_ed 1 [] [(10,vi 1)]<| T_sz<| T_srz 4<| T_nd 1 [] [(19,vp (pa b))] ?_
 obtain⟨f,q6,h⟩:=h
 refine T_l1 20 3 q6 [19]<| T_e<| T_bz 0<| T_srz 5<| T_ed 2 [] [(21,.bool (f==0))] ?_
 by_cases c7:f=0
 ·rw[if_pos c7]at h
  refine T_cTz 21 (beq_iff_eq.mpr c7)<| T_rz 6<| T_n 3 [(2,vs d a e),(24,vp hv),(25,vu x),(26,vu g)] ?_
  refine T_c (some 27) h ?_;clear h
  rintro bg H4 ⟨ra,rb,rfl,h⟩
  refine⟨[(2,vs d a e),(27,.tuple #[vu ra,vi rb])],pk,?_⟩
  refine T_nd 5 [27] [(9,vu ra),(10,vi rb)] ?_
  refine N_end (by kernel_rfl) ?_
  refine S_blockEnd ?_
  refine S_then ?_
  refine T_sz<| T_srz 15<| T_ed 2 [10] [(70,.bool (rb==0))] ?_
  by_cases c9:rb=0
  ·rw[if_pos c9]at h
   refine T_cTz 70 (beq_iff_eq.mpr c9)<| T_rz 16<| T_n 2 [(71,vs d a e),(72,vu ra)]<| T_nw (some 73) (λb=>vs (pa b) 1 1) (.cells #[vu ra] 24) ?_
   intro an H5 e11 e12
   replace h:=h an H5 e11 e12
   refine T_pd [72] [(73,vs (pa an) 1 1)] ?_
   refine N_op (some 74) (appendN #[27,27] 27 #[vs d a e,vs (pa an) 1 1]) _ (λ_=>by kernel_rfl) (ss_append (T:=24) (sz:=1) (bytes:=8) (zero:=(vu 0:Value)) Tryz.underlying27 Tryz.underlying27 rfl (show Tryz.prog.info? 24=some Tryz.t24 from by kernel_rfl) (by kernel_rfl) (by kernel_rfl) (by decide) (by kernel_rfl) (by first | exact h | (simpa only[Value.cells,List.toList_toArray]using h))) ?_;clear h
   rintro _ H6 ⟨ap,al,rfl,h⟩
   refine⟨[(74,vs ap (a+1) al)],pk,?_⟩
   exact T_ne 1 [(2,vs ap (a+1) al)]<| T_srz 17<| T_nr 2 [6] [vs ap (a+1) al] hQ h
  rw[if_neg c9]at h
  exact T_cFz 70 (beq_eq_false_iff_ne.mpr c9)<| T_kt<| T_srz 17<| T_nr 2 [6] [vs d a e] hQ h
 rw[if_neg c7]at h
 refine T_cFz 21 (beq_eq_false_iff_ne.mpr c7)<| T_srz 7<| T_ed 2 [21] [(30,.bool (f==1))] ?_
 by_cases c13:f=1
 ·rw[if_pos c13]at h
  refine T_cTz 30 (beq_iff_eq.mpr c13)<| T_rz 8<| T_n 3 [(2,vs d a e),(33,vp hv),(34,vu x),(35,vu g)] ?_
  refine T_c (some 36) h ?_;clear h
  rintro a9 H7 ⟨o,q,rfl,h⟩
  refine⟨[(2,vs d a e),(36,.tuple #[vu o,vi q])],pk,?_⟩
  refine T_nd 5 [36] [(9,vu o),(10,vi q)] ?_
  refine N_end (by kernel_rfl) ?_
  refine S_blockEnd ?_
  refine S_then ?_
  refine T_sz<| T_srz 15<| T_ed 2 [10] [(70,.bool (q==0))] ?_
  by_cases c15:q=0
  ·rw[if_pos c15]at h
   refine T_cTz 70 (beq_iff_eq.mpr c15)<| T_rz 16<| T_n 2 [(71,vs d a e),(72,vu o)]<| T_nw (some 73) (λb=>vs (pa b) 1 1) (.cells #[vu o] 24) ?_
   intro au H8 e17 e18
   replace h:=h au H8 e17 e18
   refine T_pd [72] [(73,vs (pa au) 1 1)] ?_
   refine N_op (some 74) (appendN #[27,27] 27 #[vs d a e,vs (pa au) 1 1]) _ (λ_=>by kernel_rfl) (ss_append (T:=24) (sz:=1) (bytes:=8) (zero:=(vu 0:Value)) Tryz.underlying27 Tryz.underlying27 rfl (show Tryz.prog.info? 24=some Tryz.t24 from by kernel_rfl) (by kernel_rfl) (by kernel_rfl) (by decide) (by kernel_rfl) (by first | exact h | (simpa only[Value.cells,List.toList_toArray]using h))) ?_;clear h
   rintro _ H9 ⟨ac,t,rfl,h⟩
   refine⟨[(74,vs ac (a+1) t)],pk,?_⟩
   exact T_ne 1 [(2,vs ac (a+1) t)]<| T_srz 17<| T_nr 2 [6] [vs ac (a+1) t] hQ h
  rw[if_neg c15]at h
  exact T_cFz 70 (beq_eq_false_iff_ne.mpr c15)<| T_kt<| T_srz 17<| T_nr 2 [6] [vs d a e] hQ h
 rw[if_neg c13]at h
 refine T_cFz 30 (beq_eq_false_iff_ne.mpr c13)<| T_srz 9<| T_ed 2 [30] [(39,.bool (f==2))] ?_
 by_cases c19:f=2
 ·rw[if_pos c19]at h
  refine T_cTz 39 (beq_iff_eq.mpr c19) ?_
  obtain⟨z,q21,h⟩:=h
  obtain⟨xB,l,xC,q22,h⟩:=h
  refine S_regionG 10 (Code.ops K32) [(3,((ad b).add 1),[vi z]),(7,((ad b).add 7),[vs xB l xC])] 14 (bv 14 0) (by kernel_rfl) (by kernel_rfl) (by kernel_rfl) (by kernel_rfl) (by kernel_rfl) (show FactsAt _ _ _ from⟨⟨q21,trivial⟩,⟨q22,trivial⟩,trivial⟩) ?_
  refine T_gp 0 (some 42) (vp hv) (bv 14 1) [(2,vs d a e),(4,vp (pa b)),(9,vu 0),(10,vi 1),(42,vp hv)]<| T_gp1 1 43 (vp (some ((ad b).add 1))) (bv 14 3) []<| T_g1 2 44 (vi z) (bv 14 7) [43] (loadN 3 (vp (some ((ad b).add 1)))) (held_one 3 (λ_=>by kernel_rfl) (List.Mem.head _) (.inl (by kernel_rfl)))<| T_gp1 4 46 (vp (some ((ad b).add 7))) (bv 14 23) [4]<| T_g1 5 47 (vs xB l xC) (bv 14 55) [46] (loadN 52 (vp (some ((ad b).add 7)))) (held_one 7 (λ_=>by kernel_rfl) (List.Mem.tail _ (List.Mem.head _)) (.inl (by kernel_rfl)))<| T_gp1 6 48 (vs d a e) (bv 14 119) [] ?_
  refine G_call 3 (some 45) (bv 14 127) 85 #[vi z] (by kernel_rfl) (λ_=>by kernel_rfl) h (by kernel_rfl) ?_;clear h
  rintro ba a3 ⟨ak,rfl,h⟩
  obtain⟨f23,h⟩:=h
  refine⟨[(2,vs d a e),(9,vu 0),(10,vi 1),(42,vp hv),(45,vi ak),(47,vs xB l xC),(48,vs d a e)],pk,(show FactsAt _ _ _ from⟨trivial,f23,trivial⟩),?_⟩
  refine G_call 7 (some 49) (bv 14 255) 86 #[vs xB l xC,vs d a e] (by kernel_rfl) (λ_=>by kernel_rfl) h (by kernel_rfl) ?_;clear h
  rintro a4 a6 ⟨aj,ah,ag,rfl,h⟩
  refine⟨[(2,vs d a e),(9,vu 0),(10,vi 1),(42,vp hv),(45,vi ak),(49,vs aj ah ag)],pk,(show FactsAt _ _ _ from⟨trivial,trivial,trivial⟩),?_⟩
  refine G_call 8 (some 50) (bv 14 511) 84 #[vp hv,vi ak,vu 0,vs aj ah ag] (by kernel_rfl) (λ_=>by kernel_rfl) h (by kernel_rfl) ?_;clear h
  rintro bc a1 ⟨i,j,rfl,h⟩
  refine⟨[(2,vs d a e),(9,vu 0),(10,vi 1),(50,.tuple #[vu i,vi j])],pk,(show FactsAt _ _ _ from⟨trivial,trivial,trivial⟩),?_⟩
  refine T_g 9 (some 41) (.tuple #[vu i,vi j]) (bv 14 1023) [(2,vs d a e),(9,vu 0),(10,vi 1),(41,.tuple #[vu i,vi j])] (pure (.value (.tuple #[vu i,vi j])):Sem Next) (λ_ _ _ _ _=>rfl)<| T_g1 10 51 (vu i) (bv 14 2047) [] (pure (.value (vu i)):Sem Next) (λ_ _ _ _ _=>rfl)<| T_g1 11 52 (vi j) (bv 14 4095) [41] (pure (.value (vi j)):Sem Next) (λ_ _ _ _ _=>rfl)<| T_g1 12 9 (vu i) (bv 14 8191) [9,51] (pure (.value (vu i)):Sem Next) (λ_ _ _ _ _=>rfl)<| T_g1 13 10 (vi j) (bv 14 16383) [10,52] (pure (.value (vi j)):Sem Next) (λ_ _ _ _ _=>rfl) ?_
  refine G_sub [(2,vs d a e),(9,vu i),(10,vi j)] sk ?_
  refine G_end (by kernel_rfl) ?_
  refine S_blockEnd ?_
  refine S_then ?_
  refine T_sz<| T_srz 15<| T_ne 2 [(2,vs d a e),(9,vu i),(70,.bool (j==0))] ?_
  by_cases c24:j=0
  ·rw[if_pos c24]at h
   refine T_cTz 70 (beq_iff_eq.mpr c24)<| T_rz 16<| T_n 2 [(71,vs d a e),(72,vu i)]<| T_nw (some 73) (λb=>vs (pa b) 1 1) (.cells #[vu i] 24) ?_
   intro am H13 e26 e27
   replace h:=h am H13 e26 e27
   refine T_pd [72] [(73,vs (pa am) 1 1)] ?_
   refine N_op (some 74) (appendN #[27,27] 27 #[vs d a e,vs (pa am) 1 1]) _ (λ_=>by kernel_rfl) (ss_append (T:=24) (sz:=1) (bytes:=8) (zero:=(vu 0:Value)) Tryz.underlying27 Tryz.underlying27 rfl (show Tryz.prog.info? 24=some Tryz.t24 from by kernel_rfl) (by kernel_rfl) (by kernel_rfl) (by decide) (by kernel_rfl) (by first | exact h | (simpa only[Value.cells,List.toList_toArray]using h))) ?_;clear h
   rintro _ bf ⟨aa,s,rfl,h⟩
   refine⟨[(74,vs aa (a+1) s)],pk,?_⟩
   exact T_ne 1 [(2,vs aa (a+1) s)]<| T_srz 17<| T_nr 2 [6] [vs aa (a+1) s] hQ h
  rw[if_neg c24]at h
  exact T_cFz 70 (beq_eq_false_iff_ne.mpr c24)<| T_kt<| T_srz 17<| T_nr 2 [6] [vs d a e] hQ h
 rw[if_neg c19]at h
 refine T_cFz 39 (beq_eq_false_iff_ne.mpr c19)<| T_srz 11<| T_ed 2 [39] [(53,.bool (f==3))] ?_
 by_cases c28:f=3
 ·rw[if_pos c28]at h
  refine T_cTz 53 (beq_iff_eq.mpr c28)<| T_rz 12<| T_nd 3 [0,4,7,20,53] [(55,vp hv),(56,vu x),(57,vp (some ((ad b).add 2)))] ?_
  obtain⟨ai,q30,h⟩:=h
  refine T_l1 58 3 q30 [57]<| T_nd 1 [8] [(59,vu g)] ?_
  refine T_c (some 60) h ?_;clear h
  rintro be a8 ⟨bb,rfl,h⟩
  refine T_pd [55,56,58,59] [] ?_
  refine N_end (by kernel_rfl) ?_
  refine S_blockEnd ?_
  refine S_then ?_
  exact T_sz<| T_srz 15<| T_ed 2 [10] [(70,.bool false)]<| T_fz 70<| T_kt<| T_srz 17<| T_nr 2 [6] [vs d a e] hQ h
 rw[if_neg c28]at h
 refine T_cFz 53 (beq_eq_false_iff_ne.mpr c28)<| T_srz 13<| T_ed 2 [4,7,8,20,53] [(61,.bool (f==4))] ?_
 by_cases c31:f=4
 ·rw[if_pos c31]at h
  refine T_cTz 61 (beq_iff_eq.mpr c31)<| T_rz 14<| T_n 1 [(2,vs d a e),(64,vp hv)]<| T_nw (some 65) (λb=>vs (pa b) 2 2) (.cells #[vu 20,vu 20] 24) ?_
  intro aq H16 e33 e34
  replace h:=h aq H16 e33 e34
  refine T_pd [] [(65,vs (pa aq) 2 2)] ?_
  refine T_c (some 66) h ?_;clear h
  rintro a7 a2 ⟨n,p,rfl,h⟩
  refine T_pd [64,65] [(66,.tuple #[vu n,vi p])]<| T_nd 5 [66] [(9,vu n),(10,vi p)] ?_
  refine N_end (by kernel_rfl) ?_
  refine S_blockEnd ?_
  refine S_then ?_
  refine T_sz<| T_srz 15<| T_ed 2 [10] [(70,.bool (p==0))] ?_
  by_cases c35:p=0
  ·rw[if_pos c35]at h
   refine T_cTz 70 (beq_iff_eq.mpr c35)<| T_rz 16<| T_n 2 [(71,vs d a e),(72,vu n)]<| T_nw (some 73) (λb=>vs (pa b) 1 1) (.cells #[vu n] 24) ?_
   intro ao H18 e37 e38
   replace h:=h ao H18 e37 e38
   refine T_pd [72] [(73,vs (pa ao) 1 1)] ?_
   refine N_op (some 74) (appendN #[27,27] 27 #[vs d a e,vs (pa ao) 1 1]) _ (λ_=>by kernel_rfl) (ss_append (T:=24) (sz:=1) (bytes:=8) (zero:=(vu 0:Value)) Tryz.underlying27 Tryz.underlying27 rfl (show Tryz.prog.info? 24=some Tryz.t24 from by kernel_rfl) (by kernel_rfl) (by kernel_rfl) (by decide) (by kernel_rfl) (by first | exact h | (simpa only[Value.cells,List.toList_toArray]using h))) ?_;clear h
   rintro _ a5 ⟨ab,u,rfl,h⟩
   refine⟨[(74,vs ab (a+1) u)],pk,?_⟩
   exact T_ne 1 [(2,vs ab (a+1) u)]<| T_srz 17<| T_nr 2 [6] [vs ab (a+1) u] hQ h
  rw[if_neg c35]at h
  exact T_cFz 70 (beq_eq_false_iff_ne.mpr c35)<| T_kt<| T_srz 17<| T_nr 2 [6] [vs d a e] hQ h
 rw[if_neg c31]at h
 refine T_cFz 61 (beq_eq_false_iff_ne.mpr c31)<| T_k ?_
 refine S_blockEnd ?_
 refine S_then ?_
 exact T_sz<| T_srz 15<| T_ed 2 [0,10,61] [(70,.bool false)]<| T_fz 70<| T_kt<| T_srz 17<| T_nr 2 [6] [vs d a e] hQ h
end morainelaw11_Made

/-! moraine/gc.Need -/
namespace gc_Collect
def K0:=Func.code Tryz.f9
def K2:=cb K0
def K4:=cb K2
def K12:=cb K4
def K14:=cb K12
def K20:=cb K14
def K21:=ca K20
def K24:=cb K21
def K25:=ca K24
def K26:=ca K25
end gc_Collect
def gc_Collect.pt(hv:Option Addr)(g n:Int)(j:Option Addr)(b d:Nat)(H:Array Obj)(R:Value->Array Obj->Prop):Prop:=
 onPtr hv (
 R (.int .i64 1) H) (λe=>
 gc_more.C (some e) H (λv H1=> ∃x:Int,v=.int .i64 x/\
 trace_Start.C (some e) g n x H1 (λam H2=> ∃(ra:Option Addr) (rb:Int),am=.tuple #[.pointer ra,.int .i64 rb]/\
 if rb=0 then(
 ∃(ag:Int->Array Obj->Prop) (m27:Int->Array Obj->Nat),ag 0 H2/\ ∀(m:Int) (H3:Array Obj),ag m H3->
 if m< (b:Int)then(
 ∃l:Addr,j=some l/\
 ((0:Int)<=m/\m< (b:Int))/\
 ∃z:Option Addr,hat H3 (l.add (Int.toNat m*1))=some (.pointer z)/\
 onPtr z (
 (ag (IntKind.wrap .i64 (m+1)) H3/\m27 (IntKind.wrap .i64 (m+1)) H3<m27 m H3)) (λo=>
 ∃af:Int,hat H3 o=some (.int .u64 af)/\
 trace_Trace_Visit.C ra af H3 (λao H4=> ∃ae:Int,ao=.int .u64 ae/\
 (CanPuts H4 o 0 1)/\ ∀H5,H5=hputs H4 o [.int .u64 ae] 0->
 (ag (IntKind.wrap .i64 (m+1)) H5/\m27 (IntKind.wrap .i64 (m+1)) H5<m27 m H3))))
 else
 trace_Trace_Cards.C ra H3 (λ_ H6=>
 trace_Trace_Drain.C ra H6 (λ_ H7=>
 ∃(xB:Option Addr) (xN xC:Nat),hat H7 (e.add 2)=some (.slice xB xN xC)/\
 weak_Guards.C ra xB xN xC H7 (λak H8=> ∃(y:Option Addr) (p s:Nat),ak=.slice y p s/\
 (CanPuts H8 (e.add 2) 0 1)/\ ∀H9,H9=hputs H8 (e.add 2) [.slice y p s] 0->
 weak_Breaks.C ra H9 (λ_ aj=>
 ∃(ab:Option Addr) (aa ac:Nat),hat aj (e.add 1)=some (.slice ab aa ac)/\
 weak_Prune.C ra ab aa ac aj (λan ah=> ∃(u:Option Addr) (q r:Nat),an=.slice u q r/\
 (CanPuts ah (e.add 1) 0 1)/\ ∀ai,ai=hputs ah (e.add 1) [.slice u q r] 0->
 trace_Trace_End.CD ra ai (λal=>
 R (.int .i64 0) al)))))))
 else
 R (.int .i64 rb) H2)))
namespace gc_Collect
theorem link{hv:Option Addr}{g n:Int}{j:Option Addr}{b d:Nat}{H:Array Obj}{R:Value->Array Obj->Prop}(h:pt hv g n j b d H R):C hv g n j b d H R:=by
 refine T_en K0 68 Tryz.func9 ?_
 intro w0 Q hQ
 unfold pt at h
 refine T_su [(0,vp hv),(1,vi g),(2,vi n),(3,vs j b d)]<| T_srz 0<| T_ed 1 [] []<| T_sz<| T_srz 1<| T_nd 1 [] [(13,vp hv)] ?_
 rcases hv with _ | e
 ·rw[onPtr_none]at h
  exact T_ed 1 [0,13] [(0,vp none),(14,.bool true)]<| T_tz 14<| T_srz 2<| T_nr 1 [8] [vi 1] hQ h
 rw[onPtr_some]at h
 refine T_ed 1 [0,13] [(0,vp (some e)),(14,.bool false)]<| T_fz 14<| T_kt<| T_srz 3<| T_nd 4 [1,2,14] [(16,vp (some e)),(17,vi g),(18,vi n),(19,vp (some e))] ?_
 refine T_c (some 20) h ?_;clear h
 rintro v H1 ⟨x,rfl,h⟩
 refine T_pd [19] [(20,vi x)] ?_
 refine T_c (some 21) h ?_;clear h
 rintro am H2 ⟨ra,rb,rfl,h⟩
 refine T_pd [16,17,18,20] [(21,.tuple #[vp ra,vi rb])]<| T_ed 5 [21] [(9,vp ra),(10,vi rb)]<| T_sz<| T_srz 4<| T_ed 2 [] [(25,.bool (rb !=0))] ?_
 by_cases c1:rb=0
 ·rw[if_pos c1]at h
  refine T_cFz 25 (bne_eq_false_iff_eq.mpr c1)<| T_kt<| T_srz 6<| T_nd 1 [10,25] [(27,vp ra)] ?_
  refine N_defer none 28 #[vp ra] (λ_=>by kernel_rfl) [(0,vp (some e)),(3,vs j b d),(9,vp ra)] pk ?_
  refine T_e<| T_sz<| T_srz 7<| T_ne 3 [(0,vp (some e)),(9,vp ra),(28,vs j b d),(29,vi b),(30,vi 0)]<| T_bz 0 ?_
  obtain⟨ag,m27,i3,i4⟩:=h
  refine S_loop (x:=K26) (σ:=Int) (λs_=> [(0,vp (some e)),(9,vp ra),(28,vs j b d),(29,vi b),(30,vi s_)]) (λs_ H=>ag s_ H) (λs_ H=>m27 s_ H) (0:Int) (by kernel_rfl) i3 sk ?_
  rintro m H3 i5
  have h:=i4 m H3 i5
  refine T_su [(0,vp (some e)),(9,vp ra),(28,vs j b d),(29,vi b),(30,vi m)]<| T_srz 8<| T_ed 1 [] [(31,.bool (decide (m< (b:Int))))]<| T_sz ?_
  by_cases c6:m< (b:Int)
  ·rw[if_pos c6]at h
   refine T_cTz 31 (decide_eq_true c6)<| T_kt<| T_sz<| T_bz 1<| T_srz 9<| T_ud [31] [] ?_
   obtain⟨l,rfl,h⟩:=h
   obtain⟨q8,h⟩:=h
   refine T_xd (some 32) 57 33 1 l b d .i64 m Tryz.underlying57 q8.1 q8.2 [28] [(28,vs (some l) b d),(32,vp (some (l.add (Int.toNat m*1))))] ?_
   obtain⟨z,q9,h⟩:=h
   refine T_l1 33 33 q9 [32]<| T_ed 1 [33] [(12,vp z)]<| T_srz 10<| T_nd 1 [] [(34,vp z)] ?_
   rcases z with _ | o
   ·rw[onPtr_none]at h
    refine T_ed 1 [12,34] [(12,vp none),(35,.bool false)]<| T_fz 35<| T_k ?_
    refine S_blockEnd ?_
    refine S_then ?_
    refine T_rz 12<| T_ed 2 [12,30,35] [(30,vi (IntKind.wrap .i64 (m+1)))] ?_
    exact S_round ((IntKind.wrap .i64 (m+1)):Int) sk h
   rw[onPtr_some]at h
   refine T_ed 1 [12,34] [(12,vp (some o)),(35,.bool true)]<| T_tz 35<| T_rz 11<| T_nd 4 [12,35] [(36,vp (some o)),(37,vp ra),(39,vp (some o))] ?_
   obtain⟨af,q10,h⟩:=h
   refine T_l1 40 24 q10 [39] ?_
   refine T_c (some 41) h ?_;clear h
   rintro ao H4 ⟨ae,rfl,h⟩
   refine T_pd [37,40] [(41,vu ae)]<| T_nd 1 [36] [(42,vp (some o))] ?_
   obtain⟨q12,h⟩:=h
   refine T_st1 24 (vu ae) q12 ?_
   intro H5 e11
   replace h:=h H5 e11
   refine T_pd [41,42] [] ?_
   refine N_end (by kernel_rfl) ?_
   refine S_blockEnd ?_
   refine S_then ?_
   refine T_rz 12<| T_ed 2 [30] [(30,vi (IntKind.wrap .i64 (m+1)))] ?_
   exact S_round ((IntKind.wrap .i64 (m+1)):Int) sk h
  rw[if_neg c6]at h
  refine T_cFz 31 (decide_eq_false c6) ?_
  refine S_exit 0 (by kernel_rfl) ?_
  refine S_exitThen ?_
  refine S_exitThen ?_
  refine S_exitHere ?_
  refine S_then ?_
  refine T_srz 13<| T_nd 1 [28,29,30,31] [(44,vp ra)] ?_
  refine T_c (some 45) h ?_;clear h
  intro v_4 H6 h
  refine T_pd [44] []<| T_e<| T_srz 14<| T_nd 1 [] [(46,vp ra)] ?_
  refine T_c (some 47) h ?_;clear h
  intro v_5 H7 h
  refine T_pd [46] []<| T_e<| T_srz 15<| T_nd 5 [] [(48,vp (some e)),(49,vp ra),(52,vp (some (e.add 2)))] ?_
  obtain⟨xB,xN,xC,q13,h⟩:=h
  refine T_l1 53 28 q13 [52] ?_
  refine T_c (some 54) h ?_;clear h
  rintro ak H8 ⟨y,p,s,rfl,h⟩
  refine T_pd [49,53] [(54,vs y p s)]<| T_nd 2 [48] [(56,vp (some (e.add 2)))] ?_
  obtain⟨q15,h⟩:=h
  refine T_st1 28 (vs y p s) q15 ?_
  intro H9 e14
  replace h:=h H9 e14
  refine T_pd [54,56] []<| T_e<| T_srz 16<| T_nd 1 [] [(57,vp ra)] ?_
  refine T_c (some 58) h ?_;clear h
  intro v_7 aj h
  refine T_pd [57] []<| T_e<| T_srz 17<| T_n 5 [(59,vp (some e)),(60,vp ra),(63,vp (some (e.add 1)))] ?_
  obtain⟨ab,aa,ac,q16,h⟩:=h
  refine T_l1 64 27 q16 [63] ?_
  refine T_c (some 65) h ?_;clear h
  rintro an ah ⟨u,q,r,rfl,h⟩
  refine T_pd [60,64] [(65,vs u q r)]<| T_nd 2 [59] [(67,vp (some (e.add 1)))] ?_
  obtain⟨q18,h⟩:=h
  refine T_st1 27 (vs u q r) q18 ?_
  intro ai e17
  replace h:=h ai e17
  refine⟨[],pk,?_⟩
  refine T_e<| T_srz 18<| T_ne 1 [(8,vi 0)] ?_
  refine S_ret (by kernel_rfl) ?_
  show At _ _ _ _ _ (Q .ret)
  refine S_doneD (f:=28) (args:= #[vp ra]) (enters_of Tryz.func28 (by kernel_rfl) rfl) hQ (HD.mono (h) (λal h=>?_))
  exact⟨[vi 0],(show ResOK _ _ _ [.tmp 8] _ from .tmp (by kernel_rfl) (.nil)),h⟩
 rw[if_neg c1]at h
 exact T_cTz 25 (bne_iff_ne.mpr c1)<| T_srz 5<| T_nr 2 [8] [vi rb] hQ h
end gc_Collect

/-! moraine/gc.more -/
namespace gc_more
def K0:=Func.code Tryz.f26
end gc_more
def gc_more.pt(hv:Option Addr)(H:Array Obj)(R:Value->Array Obj->Prop):Prop:=
 ∃a:Addr,hv=some a/\
 ∃(xB:Option Addr) (xN xC:Nat),hat H (a.add 2)=some (.slice xB xN xC)/\
 R (.int .i64 (IntKind.wrap .i64 ((IntKind.wrap .i64 (Int.tdiv (xN:Int) 32))+1))) H
namespace gc_more
theorem link{hv:Option Addr}{H:Array Obj}{R:Value->Array Obj->Prop}(h:pt hv H R):C hv H R:=by
 refine T_en K0 10 Tryz.func26 ?_
 intro w0 Q hQ
 unfold pt at h
 refine T_su [(0,vp hv)]<| T_srz 0<| T_ed 1 [] []<| T_srz 1<| T_n 1 [(3,vp hv)] ?_
 obtain⟨a,rfl,h⟩:=h
 refine T_n 2 [(5,vp (some (a.add 2)))] ?_
 obtain⟨xB,xN,xC,q1,h⟩:=h
 exact T_l1 6 28 q1 [5]<| T_nr 4 [2] [vi (IntKind.wrap .i64 ((IntKind.wrap .i64 (Int.tdiv (xN:Int) 32))+1))] hQ h
end gc_more

/-! moraine/morainelaw13.kept -/
namespace morainelaw13_kept
def K0:=Func.code Tryz.f45
end morainelaw13_kept
def morainelaw13_kept.pt(a i:Int)(H:Array Obj)(R:Value->Array Obj->Prop):Prop:=
 (0<=(Int.tmod i 32))/\
 R (.bool ((iand .u32 (ishr .u32 a (Int.tmod i 32)) 1)==1)) H
namespace morainelaw13_kept
set_option maxRecDepth 100000 in
theorem link{a i:Int}{H:Array Obj}{R:Value->Array Obj->Prop}(h:pt a i H R):C a i H R:=by
 refine T_en K0 11 Tryz.func45 ?_
 intro w0 Q hQ
 unfold pt at h
 refine T_su [(0,.int .u32 a),(1,vi i)]<| T_srz 0<| T_ed 1 [] []<| T_srz 1<| T_n 3 [(5,.int .u32 a),(7,vi (Int.tmod i 32))] ?_
 obtain⟨q1,h⟩:=h
 exact T_v1 8 (binN .shr 53 (.int .u32 a) (vi (Int.tmod i 32))) (.int .u32 (ishr .u32 a (Int.tmod i 32))) (λw _=>shr_run (P:=Tryz.prog) (t:=53) (k:=.u32) (k':=.i64) (x:=a) (y:=(Int.tmod i 32)) q1 w) [5,7]<| T_nr 3 [4] [.bool ((iand .u32 (ishr .u32 a (Int.tmod i 32)) 1)==1)] hQ h
end morainelaw13_kept

/-! moraine/morainelaw13.many -/
namespace morainelaw13_many
def K0:=Func.code Tryz.f43
def K2:=cb K0
def K4:=cb K2
def K12:=cb K4
def K13:=ca K12
def K16:=cb K13
def K17:=ca K16
def K18:=ca K17
def K20:=cb K18
def K25:=ca K20
def K27:=ca K25
def K29:=cb K27
def K31:=cb K29
def K32:=ca K31
def K33:=ca K32
end morainelaw13_many
def morainelaw13_many.pt(lB:Option Addr)(lN lC:Nat)(H:Array Obj)(R:Value->Array Obj->Prop):Prop:=
 if(lN:Int)>12 then(
 R (.bool true) H)
 else
 ∃(v:Int->Int->Array Obj->Prop) (m19:Int->Int->Array Obj->Nat),v 0 0 H/\ ∀(nv:Int) (i:Int) (H1:Array Obj),v nv i H1->
 if i< (lN:Int)then(
 ∃b:Addr,lB=some b/\
 ((0:Int)<=i/\i< (lN:Int))/\
 ∃(xB:Option Addr) (xN xC:Nat),hat H1 ((b.add (Int.toNat i*6)).add 1)=some (.slice xB xN xC)/\
 ((0:Int)<=i/\i< (lN:Int))/\
 ∃(q:Option Addr) (e p:Nat),hat H1 ((b.add (Int.toNat i*6)).add 2)=some (.slice q e p)/\
 ∃(y:Int->Int->Array Obj->Prop) (m34:Int->Int->Array Obj->Nat),y (IntKind.wrap .i64 (nv+(IntKind.wrap .i64 ((xN:Int)+(e:Int))))) 0 H1/\ ∀(d:Int) (k:Int) (H2:Array Obj),y d k H2->
 ((0:Int)<=i/\i< (lN:Int))/\
 ∃(r:Option Addr) (f s:Nat),hat H2 (b.add (Int.toNat i*6))=some (.slice r f s)/\
 if((decide (k< (f:Int))) && (decide (d<=400)))=true then(
 ((0:Int)<=i/\i< (lN:Int))/\
 ∃(n:Option Addr) (l m:Nat),hat H2 (b.add (Int.toNat i*6))=some (.slice n l m)/\
 ∃j:Addr,n=some j/\
 ((0:Int)<=k/\k< (l:Int))/\
 ∃(u:Option Addr) (g o:Nat),hat H2 ((j.add (Int.toNat k*8)).add 7)=some (.slice u g o)/\
 (y (IntKind.wrap .i64 (d+(IntKind.wrap .i64 (1+(IntKind.wrap .i64 (Int.tdiv (g:Int) 8)))))) (IntKind.wrap .i64 (k+1)) H2/\m34 (IntKind.wrap .i64 (d+(IntKind.wrap .i64 (1+(IntKind.wrap .i64 (Int.tdiv (g:Int) 8)))))) (IntKind.wrap .i64 (k+1)) H2<m34 d k H2))
 else
 (v d (IntKind.wrap .i64 (i+1)) H2/\m19 d (IntKind.wrap .i64 (i+1)) H2<m19 nv i H1))
 else
 R (.bool (decide (nv>400))) H1
namespace morainelaw13_many
set_option maxRecDepth 100000 in
theorem link{lB:Option Addr}{lN lC:Nat}{H:Array Obj}{R:Value->Array Obj->Prop}(h:pt lB lN lC H R):C lB lN lC H R:=by
 refine T_en K0 60 Tryz.func43 ?_
 intro w0 Q hQ
 unfold pt at h
 refine T_su [(0,vs lB lN lC)]<| T_srz 0<| T_ed 1 [] []<| T_sz<| T_srz 1<| T_ed 3 [] [(8,.bool (decide ((lN:Int)>12)))] ?_
 by_cases c1:(lN:Int)>12
 ·rw[if_pos c1]at h
  exact T_cTz 8 (decide_eq_true c1)<| T_srz 2<| T_nr 1 [2] [.bool true] hQ h
 rw[if_neg c1]at h
 refine T_cFz 8 (decide_eq_false c1)<| T_kt<| T_srz 3<| T_ed 1 [8] [(3,vi 0)]<| T_sz<| T_srz 4<| T_ed 1 [] [(4,vi 0)]<| T_bz 0 ?_
 obtain⟨v,m19,i3,i4⟩:=h
 refine S_loop (x:=K18) (σ:=Int×Int) (λs_=> [(0,vs lB lN lC),(3,vi s_.1),(4,vi s_.2)]) (λs_ H=>v s_.1 s_.2 H) (λs_ H=>m19 s_.1 s_.2 H) ((0,0):Int×Int) (by kernel_rfl) i3 sk ?_
 rintro⟨nv,i⟩ H1 i5
 have h:=i4 nv i H1 i5
 refine T_su [(0,vs lB lN lC),(3,vi nv),(4,vi i)]<| T_sz<| T_srz 5<| T_ed 4 [] [(12,.bool (decide (i< (lN:Int))))] ?_
 by_cases c6:i< (lN:Int)
 ·rw[if_pos c6]at h
  refine T_cTz 12 (decide_eq_true c6)<| T_kt<| T_sz<| T_bz 1<| T_sz<| T_rqz 7<| T_q1 15 (vi nv) [3,12]<| T_q1 16 (vs lB lN lC) []<| T_q1 17 (vi i) [] ?_
  obtain⟨b,rfl,h⟩:=h
  obtain⟨q8,h⟩:=h
  refine Q_op (some 18) (indexAtN 47 (vs (some b) lN lC) (vi i)) (vp (some (b.add (Int.toNat i*6)))) (λ_=>by kernel_rfl) (λw _=>indexAt_run (P:=Tryz.prog) (t:=47) (elem:=55) (sz:=6) (a:=b) (len:=lN) (cap:=lC) (k:=.i64) (i:=i) Tryz.underlying47 (λ_=>by kernel_rfl) q8.1 q8.2 w) [(0,vs (some b) lN lC),(4,vi i),(15,vi nv),(18,vp (some (b.add (Int.toNat i*6))))] pk ?_
  refine T_q (some 19) (vp (some ((b.add (Int.toNat i*6)).add 1))) [(0,vs (some b) lN lC),(4,vi i),(15,vi nv),(19,vp (some ((b.add (Int.toNat i*6)).add 1)))] ?_
  obtain⟨xB,xN,xC,q9,h⟩:=h
  refine T_qld (some 20) 51 q9 [19] [(20,vs xB xN xC)]<| T_q1 21 (vi xN) [20]<| T_q1 22 (vs (some b) lN lC) []<| T_q1 23 (vi i) [] ?_
  obtain⟨q10,h⟩:=h
  refine Q_op (some 24) (indexAtN 47 (vs (some b) lN lC) (vi i)) (vp (some (b.add (Int.toNat i*6)))) (λ_=>by kernel_rfl) (λw _=>indexAt_run (P:=Tryz.prog) (t:=47) (elem:=55) (sz:=6) (a:=b) (len:=lN) (cap:=lC) (k:=.i64) (i:=i) Tryz.underlying47 (λ_=>by kernel_rfl) q10.1 q10.2 w) [(0,vs (some b) lN lC),(4,vi i),(15,vi nv),(21,vi xN),(24,vp (some (b.add (Int.toNat i*6))))] pk ?_
  refine T_q (some 25) (vp (some ((b.add (Int.toNat i*6)).add 2))) [(0,vs (some b) lN lC),(4,vi i),(15,vi nv),(21,vi xN),(25,vp (some ((b.add (Int.toNat i*6)).add 2)))] ?_
  obtain⟨q,e,p,q11,h⟩:=h
  refine T_qld (some 26) 52 q11 [25] [(26,vs q e p)]<| T_q1 27 (vi e) [26]<| T_q1 28 (vi (IntKind.wrap .i64 ((xN:Int)+(e:Int)))) [21,27]<| T_q1 29 (vi (IntKind.wrap .i64 (nv+(IntKind.wrap .i64 ((xN:Int)+(e:Int)))))) [15,28]<| T_q1 3 (vi (IntKind.wrap .i64 (nv+(IntKind.wrap .i64 ((xN:Int)+(e:Int)))))) [29] ?_
  refine Q_sub [(0,vs (some b) lN lC),(3,vi (IntKind.wrap .i64 (nv+(IntKind.wrap .i64 ((xN:Int)+(e:Int)))))),(4,vi i)] sk ?_
  refine T_qe<| T_srz 8<| T_ne 1 [(0,vs (some b) lN lC),(3,vi (IntKind.wrap .i64 (nv+(IntKind.wrap .i64 ((xN:Int)+(e:Int)))))),(4,vi i),(5,vi 0)]<| T_bz 2 ?_
  obtain⟨y,m34,i12,i13⟩:=h
  refine S_loop (x:=K33) (σ:=Int×Int) (λs_=> [(0,vs (some b) lN lC),(3,vi s_.1),(4,vi i),(5,vi s_.2)]) (λs_ H=>y s_.1 s_.2 H) (λs_ H=>m34 s_.1 s_.2 H) (((IntKind.wrap .i64 (nv+(IntKind.wrap .i64 ((xN:Int)+(e:Int))))),0):Int×Int) (by kernel_rfl) i12 sk ?_
  rintro⟨d,k⟩ H2 i14
  have h:=i13 d k H2 i14
  refine T_su [(0,vs (some b) lN lC),(3,vi d),(4,vi i),(5,vi k)]<| T_sz<| T_srz 9<| T_nd 3 [] [(30,vi k),(31,vs (some b) lN lC),(32,vi i)] ?_
  obtain⟨q15,h⟩:=h
  refine T_xd (some 33) 47 55 6 b lN lC .i64 i Tryz.underlying47 q15.1 q15.2 [31,32] [(33,vp (some (b.add (Int.toNat i*6))))]<| T_nd 1 [33] [(34,vp (some (b.add (Int.toNat i*6))))] ?_
  obtain⟨r,f,s,q16,h⟩:=h
  refine T_l1 35 50 q16 [34]<| T_nd 3 [30,35] [(38,.bool (decide (k< (f:Int))))] ?_
  refine N_cut [(0,vs (some b) lN lC),(3,vi d),(4,vi i),(5,vi k),(41,.bool ((decide (k< (f:Int))) && (decide (d<=400))))] ?_ ?_
  ·refine S_then ?_
   by_cases c19:((decide (k< (f:Int))) && (decide (d<=400)))=true
   ·rw[if_pos c19]at h
    refine T_cTz 41 c19<| T_kt<| T_sz<| T_bz 3<| T_rz 11<| T_n 3 [(0,vs (some b) lN lC),(4,vi i),(5,vi k),(44,vi d),(45,vs (some b) lN lC),(46,vi i)] ?_
    obtain⟨q21,h⟩:=h
    refine T_xd (some 47) 47 55 6 b lN lC .i64 i Tryz.underlying47 q21.1 q21.2 [45,46] [(47,vp (some (b.add (Int.toNat i*6))))]<| T_nd 1 [47] [(48,vp (some (b.add (Int.toNat i*6))))] ?_
    obtain⟨n,l,m,q22,h⟩:=h
    refine T_l1 49 50 q22 [48]<| T_nd 1 [] [(50,vi k)] ?_
    obtain⟨j,rfl,h⟩:=h
    obtain⟨q23,h⟩:=h
    refine T_xd (some 51) 50 98 8 j l m .i64 k Tryz.underlying50 q23.1 q23.2 [49,50] [(51,vp (some (j.add (Int.toNat k*8))))]<| T_nd 1 [51] [(52,vp (some ((j.add (Int.toNat k*8)).add 7)))] ?_
    obtain⟨u,g,o,q24,h⟩:=h
    refine T_l1 53 52 q24 [52]<| T_nd 5 [44,53] [(3,vi (IntKind.wrap .i64 (d+(IntKind.wrap .i64 (1+(IntKind.wrap .i64 (Int.tdiv (g:Int) 8)))))))] ?_
    refine N_end (by kernel_rfl) ?_
    refine S_blockEnd ?_
    refine S_then ?_
    refine T_rz 10<| T_ed 3 [5] [(5,vi (IntKind.wrap .i64 (k+1)))] ?_
    exact S_round (((IntKind.wrap .i64 (d+(IntKind.wrap .i64 (1+(IntKind.wrap .i64 (Int.tdiv (g:Int) 8)))))),(IntKind.wrap .i64 (k+1))):Int×Int) sk h
   rw[if_neg c19]at h
   refine T_cFz 41 (eq_false_of_ne_true c19) ?_
   refine S_exit 2 (by kernel_rfl) ?_
   refine S_exitThen ?_
   refine S_exitThen ?_
   refine S_exitHere ?_
   refine S_blockEnd ?_
   refine S_then ?_
   refine T_rz 6<| T_ne 3 [(0,vs (some b) lN lC),(3,vi d),(4,vi (IntKind.wrap .i64 (i+1)))] ?_
   exact S_round ((d,(IntKind.wrap .i64 (i+1))):Int×Int) sk h
  intro hk
  refine T_nu [(0,vs (some b) lN lC),(3,vi d),(4,vi i),(5,vi k),(38,.bool (decide (k< (f:Int))))] ?_
  by_cases c17:k< (f:Int)
  ·have b18:(decide (k< (f:Int)))=true:=decide_eq_true c17
   refine N_env [(0,vs (some b) lN lC),(3,vi d),(4,vi i),(5,vi k),(38,.bool true)] (by rw[b18]) ?_
   refine T_nd 3 [38] [(41,.bool (decide (d<=400)))] ?_
   refine N_end (by kernel_rfl) ?_
   refine S_bd 41 (b:=(decide (d<=400))) (v:=((decide (k< (f:Int))) && (decide (d<=400)))) (by simp only[b18,BL]) ?_
   exact hk
  have b18:(decide (k< (f:Int)))=false:=decide_eq_false c17
  refine N_env [(0,vs (some b) lN lC),(3,vi d),(4,vi i),(5,vi k),(38,.bool false)] (by rw[b18]) ?_
  refine T_nd 3 [38] [(41,.bool false)] ?_
  refine N_end (by kernel_rfl) ?_
  refine S_bd 41 (b:=false) (v:=((decide (k< (f:Int))) && (decide (d<=400)))) (by simp only[b18,BL]) ?_
  exact hk
 rw[if_neg c6]at h
 refine T_cFz 12 (decide_eq_false c6) ?_
 refine S_exit 0 (by kernel_rfl) ?_
 refine S_exitThen ?_
 refine S_exitThen ?_
 refine S_exitHere ?_
 refine S_then ?_
 exact T_srz 12<| T_nr 3 [2] [.bool (decide (nv>400))] hQ h
end morainelaw13_many

/-! moraine/morainelaw13.roots -/
namespace morainelaw13_roots
def K0:=Func.code Tryz.f17
def K2:=cb K0
def K4:=cb K2
def K5:=ca K4
def K8:=cb K5
def K9:=ca K8
def K10:=ca K9
def K12:=cb K10
def K17:=ca K12
def K19:=ca K17
def K20:=ca K19
end morainelaw13_roots
def morainelaw13_roots.pt(hv y:Option Addr)(s u:Nat)(r:Option Addr)(o p:Nat)(n:Option Addr)(l m:Nat)(xG q aa:Int)(j:Option Addr)(e f:Nat)(H:Array Obj)(R:Value->Array Obj->Prop):Prop:=
 ∀(b:Nat) (H1:Array Obj),b=H.size->H1=H.push (.cells #[.slice y s u,.slice r o p,.slice n l m,.int .i64 xG,.int .i64 q,.int .u32 aa] 55)->
 ∃(af:(Option Addr)->Nat->Nat->Int->Array Obj->Prop) (m11:(Option Addr)->Nat->Nat->Int->Array Obj->Nat),af none 0 0 0 H1/\ ∀(lB:Option Addr) (lN:Nat) (lC:Nat) (i:Int) (H2:Array Obj),af lB lN lC i H2->
 if i< (e:Int)then(
 ∃g:Addr,hv=some g/\
 ∃x:Option Addr,hat H2 g=some (.pointer x)/\
 ∃d:Addr,j=some d/\
 ((0:Int)<=i/\i< (e:Int))/\
 ∃ai:Int,hat H2 (d.add (Int.toNat i*1))=some (.int .u64 ai)/\
 card_Cards_Gen.C x ai H2 (λv H3=> ∃(ra:Int) (rb:Bool),v=.tuple #[.int .i64 ra,.bool rb]/\
 ∃ah:Int,hat H3 ((ad b).add 5)=some (.int .u32 ah)/\
 morainelaw13_kept.C ah i H3 (λan H4=> ∃ae:Bool,an=.bool ae/\
 if ae=true then(
 ((0:Int)<=i/\i< (e:Int))/\
 ∃aj:Int,hat H4 (d.add (Int.toNat i*1))=some (.int .u64 aj)/\
 ∀(ak:Nat) (H5:Array Obj),ak=H4.size->H5=H4.push (.cells #[.int .u64 aj] 24)->
 appendK 1 24 8 [.int .u64 0] lB lN lC (some (ad ak)) 1 H5 (λap ag H6=>
 (af ap (lN+1) ag (IntKind.wrap .i64 (i+1)) H6/\m11 ap (lN+1) ag (IntKind.wrap .i64 (i+1)) H6<m11 lB lN lC i H2)))
 else
 if rb=true then(
 ∃ac:Int,hat H4 ((ad b).add 3)=some (.int .i64 ac)/\
 if ra>ac then(
 ((0:Int)<=i/\i< (e:Int))/\
 ∃al:Int,hat H4 (d.add (Int.toNat i*1))=some (.int .u64 al)/\
 ∀(am:Nat) (H7:Array Obj),am=H4.size->H7=H4.push (.cells #[.int .u64 al] 24)->
 appendK 1 24 8 [.int .u64 0] lB lN lC (some (ad am)) 1 H7 (λab z H8=>
 (af ab (lN+1) z (IntKind.wrap .i64 (i+1)) H8/\m11 ab (lN+1) z (IntKind.wrap .i64 (i+1)) H8<m11 lB lN lC i H2)))
 else
 (af lB lN lC (IntKind.wrap .i64 (i+1)) H4/\m11 lB lN lC (IntKind.wrap .i64 (i+1)) H4<m11 lB lN lC i H2))
 else
 (af lB lN lC (IntKind.wrap .i64 (i+1)) H4/\m11 lB lN lC (IntKind.wrap .i64 (i+1)) H4<m11 lB lN lC i H2))))
 else
 R (.slice lB lN lC) H2
namespace morainelaw13_roots
set_option maxRecDepth 100000 in
theorem link{hv y:Option Addr}{s u:Nat}{r:Option Addr}{o p:Nat}{n:Option Addr}{l m:Nat}{xG q aa:Int}{j:Option Addr}{e f:Nat}{H:Array Obj}{R:Value->Array Obj->Prop}(h:pt hv y s u r o p n l m xG q aa j e f H R):C hv y s u r o p n l m xG q aa j e f H R:=by
 refine T_en K0 50 Tryz.func17 ?_
 intro w0 Q hQ
 unfold pt at h
 refine T_su [(0,vp hv),(1,.agg #[vs y s u,vs r o p,vs n l m,vi xG,vi q,.int .u32 aa]),(2,vs j e f)]<| T_srz 0<| T_nw (some 4) (λb=>vp (pa b)) (.cells #[vs y s u,vs r o p,vs n l m,vi xG,vi q,.int .u32 aa] 55) ?_
 intro b H1 e1 e2
 replace h:=h b H1 e1 e2
 refine T_pd [1] [(4,vp (pa b))]<| T_ed 1 [] []<| T_srz 1<| T_ed 1 [] [(7,vs none 0 0)]<| T_sz<| T_srz 2<| T_ed 1 [] [(8,vi 0)]<| T_bz 0 ?_
 obtain⟨af,m11,i3,i4⟩:=h
 refine S_loop (x:=K10) (σ:=(Option Addr)×Nat×Nat×Int) (λs_=> [(0,vp hv),(2,vs j e f),(4,vp (pa b)),(7,vs s_.1 s_.2.1 s_.2.2.1),(8,vi s_.2.2.2)]) (λs_ H=>af s_.1 s_.2.1 s_.2.2.1 s_.2.2.2 H) (λs_ H=>m11 s_.1 s_.2.1 s_.2.2.1 s_.2.2.2 H) ((none,0,0,0):(Option Addr)×Nat×Nat×Int) (by kernel_rfl) i3 sk ?_
 rintro⟨lB,lN,lC,i⟩ H2 i5
 have h:=i4 lB lN lC i H2 i5
 refine T_su [(0,vp hv),(2,vs j e f),(4,vp (pa b)),(7,vs lB lN lC),(8,vi i)]<| T_sz<| T_srz 3<| T_ed 4 [] [(14,.bool (decide (i< (e:Int))))] ?_
 by_cases c6:i< (e:Int)
 ·rw[if_pos c6]at h
  refine T_cTz 14 (decide_eq_true c6)<| T_kt<| T_sz<| T_bz 1<| T_sz ?_
  obtain⟨g,rfl,h⟩:=h
  obtain⟨x,q8,h⟩:=h
  obtain⟨d,rfl,h⟩:=h
  obtain⟨q9,h⟩:=h
  obtain⟨ai,q10,h⟩:=h
  refine S_regionG 5 (Code.ops K20) [(8,g,[vp x]),(8,(d.add (Int.toNat i*1)),[vu ai])] 14 (bv 14 0) (by kernel_rfl) (by kernel_rfl) (by kernel_rfl) (by kernel_rfl) (by kernel_rfl) (show FactsAt _ _ _ from⟨⟨q8,trivial⟩,⟨q10,trivial⟩,trivial⟩) ?_
  refine T_gp 0 (some 18) (vp (some g)) (bv 14 1) [(0,vp (some g)),(2,vs (some d) e f),(4,vp (pa b)),(7,vs lB lN lC),(8,vi i),(18,vp (some g))]<| T_gp1 1 19 (vp (some g)) (bv 14 3) [18]<| T_gp1 2 20 (vp (some g)) (bv 14 7) [19]<| T_g1 3 21 (vp x) (bv 14 15) [20] (loadN 26 (vp (some g))) (held_one 8 (λ_=>by kernel_rfl) (List.Mem.head _) (.inl (by kernel_rfl)))<| T_gp1 4 22 (vs (some d) e f) (bv 14 31) []<| T_gp1 5 23 (vi i) (bv 14 63) []<| T_g1 6 24 (vp (some (d.add (Int.toNat i*1)))) (bv 14 127) [22,23] (indexAtN 27 (vs (some d) e f) (vi i)) (λ_ w _ _ _=>indexAt_run (P:=Tryz.prog) (t:=27) (elem:=24) (sz:=1) (a:=d) (len:=e) (cap:=f) (k:=.i64) (i:=i) Tryz.underlying27 (λ_=>by kernel_rfl) q9.1 q9.2 w)<| T_g1 7 25 (vu ai) (bv 14 255) [24] (loadN 24 (vp (some (d.add (Int.toNat i*1))))) (held_one 8 (λ_=>by kernel_rfl) (List.Mem.tail _ (List.Mem.head _)) (.inl (by kernel_rfl))) ?_
  refine G_call 8 (some 26) (bv 14 511) 15 #[vp x,vu ai] (by kernel_rfl) (λ_=>by kernel_rfl) h (by kernel_rfl) ?_;clear h
  rintro v H3 ⟨ra,rb,rfl,h⟩
  refine⟨[(0,vp (some g)),(2,vs (some d) e f),(4,vp (pa b)),(7,vs lB lN lC),(8,vi i),(26,.tuple #[vi ra,.bool rb])],pk,(show FactsAt _ _ _ from⟨trivial,trivial,trivial⟩),?_⟩
  refine T_g 9 (some 17) (.tuple #[vi ra,.bool rb]) (bv 14 1023) [(0,vp (some g)),(2,vs (some d) e f),(4,vp (pa b)),(7,vs lB lN lC),(8,vi i),(17,.tuple #[vi ra,.bool rb])] (pure (.value (.tuple #[vi ra,.bool rb])):Sem Next) (λ_ _ _ _ _=>rfl)<| T_g1 10 27 (vi ra) (bv 14 2047) [] (pure (.value (vi ra)):Sem Next) (λ_ _ _ _ _=>rfl)<| T_g1 11 28 (.bool rb) (bv 14 4095) [17] (pure (.value (.bool rb)):Sem Next) (λ_ _ _ _ _=>rfl)<| T_g1 12 9 (vi ra) (bv 14 8191) [27] (pure (.value (vi ra)):Sem Next) (λ_ _ _ _ _=>rfl)<| T_g1 13 10 (.bool rb) (bv 14 16383) [28] (pure (.value (.bool rb)):Sem Next) (λ_ _ _ _ _=>rfl) ?_
  refine G_sub [(0,vp (some g)),(2,vs (some d) e f),(4,vp (pa b)),(7,vs lB lN lC),(8,vi i),(9,vi ra),(10,.bool rb)] sk ?_
  refine G_end (by kernel_rfl) ?_
  refine S_then ?_
  refine T_srz 6<| T_n 1 [(0,vp (some g)),(2,vs (some d) e f),(4,vp (pa b)),(7,vs lB lN lC),(8,vi i),(9,vi ra),(10,.bool rb),(29,vp (some ((ad b).add 5)))] ?_
  obtain⟨ah,q11,h⟩:=h
  refine T_l1 30 53 q11 [29]<| T_nd 1 [] [(31,vi i)] ?_
  refine T_c (some 32) h ?_;clear h
  rintro an H4 ⟨ae,rfl,h⟩
  refine T_pd [30,31] [(32,.bool ae)]<| T_nd 1 [32] [(33,.bool ae)] ?_
  by_cases c12:ae=true
  ·rw[if_pos c12]at h
   refine N_bd 33 c12<| T_ed 8 [9,10,33] [(41,.bool true)]<| T_tz 41<| T_rz 7<| T_nd 3 [7,41] [(42,vs lB lN lC),(43,vs (some d) e f),(44,vi i)] ?_
   obtain⟨q14,h⟩:=h
   refine T_xd (some 45) 27 24 1 d e f .i64 i Tryz.underlying27 q14.1 q14.2 [43,44] [(45,vp (some (d.add (Int.toNat i*1))))] ?_
   obtain⟨aj,q15,h⟩:=h
   refine T_l1 46 24 q15 [45]<| T_nw (some 47) (λb=>vs (pa b) 1 1) (.cells #[vu aj] 24) ?_
   intro ak H5 e16 e17
   replace h:=h ak H5 e16 e17
   refine T_pd [46] [(47,vs (pa ak) 1 1)] ?_
   refine N_op (some 48) (appendN #[27,27] 27 #[vs lB lN lC,vs (pa ak) 1 1]) _ (λ_=>by kernel_rfl) (ss_append (T:=24) (sz:=1) (bytes:=8) (zero:=(vu 0:Value)) Tryz.underlying27 Tryz.underlying27 rfl (show Tryz.prog.info? 24=some Tryz.t24 from by kernel_rfl) (by kernel_rfl) (by kernel_rfl) (by decide) (by kernel_rfl) (by first | exact h | (simpa only[Value.cells,List.toList_toArray]using h))) ?_;clear h
   rintro _ H6 ⟨ap,ag,rfl,h⟩
   refine T_pd [42,47] [(48,vs ap (lN+1) ag)]<| T_nd 1 [48] [(7,vs ap (lN+1) ag)] ?_
   refine N_end (by kernel_rfl) ?_
   refine S_blockEnd ?_
   refine S_then ?_
   refine T_rz 4<| T_ed 3 [8] [(8,vi (IntKind.wrap .i64 (i+1)))] ?_
   exact S_round ((ap,(lN+1),ag,(IntKind.wrap .i64 (i+1))):(Option Addr)×Nat×Nat×Int) sk h
  rw[if_neg c12]at h
  refine N_bd 33 (eq_false_of_ne_true c12)<| T_nd 2 [10] [(35,.bool rb)] ?_
  by_cases c18:rb=true
  ·rw[if_pos c18]at h
   refine N_bd 35 c18<| T_nd 2 [9] [(36,vi ra),(37,vp (some ((ad b).add 3)))] ?_
   obtain⟨ac,q20,h⟩:=h
   refine T_l1 38 3 q20 [37]<| T_ed 3 [33,35,36,38] [(41,.bool (decide (ra>ac)))] ?_
   by_cases c21:ra>ac
   ·rw[if_pos c21]at h
    refine T_cTz 41 (decide_eq_true c21)<| T_rz 7<| T_nd 3 [7,41] [(42,vs lB lN lC),(43,vs (some d) e f),(44,vi i)] ?_
    obtain⟨q23,h⟩:=h
    refine T_xd (some 45) 27 24 1 d e f .i64 i Tryz.underlying27 q23.1 q23.2 [43,44] [(45,vp (some (d.add (Int.toNat i*1))))] ?_
    obtain⟨al,q24,h⟩:=h
    refine T_l1 46 24 q24 [45]<| T_nw (some 47) (λb=>vs (pa b) 1 1) (.cells #[vu al] 24) ?_
    intro am H7 e25 e26
    replace h:=h am H7 e25 e26
    refine T_pd [46] [(47,vs (pa am) 1 1)] ?_
    refine N_op (some 48) (appendN #[27,27] 27 #[vs lB lN lC,vs (pa am) 1 1]) _ (λ_=>by kernel_rfl) (ss_append (T:=24) (sz:=1) (bytes:=8) (zero:=(vu 0:Value)) Tryz.underlying27 Tryz.underlying27 rfl (show Tryz.prog.info? 24=some Tryz.t24 from by kernel_rfl) (by kernel_rfl) (by kernel_rfl) (by decide) (by kernel_rfl) (by first | exact h | (simpa only[Value.cells,List.toList_toArray]using h))) ?_;clear h
    rintro _ H8 ⟨ab,z,rfl,h⟩
    refine T_pd [42,47] [(48,vs ab (lN+1) z)]<| T_nd 1 [48] [(7,vs ab (lN+1) z)] ?_
    refine N_end (by kernel_rfl) ?_
    refine S_blockEnd ?_
    refine S_then ?_
    refine T_rz 4<| T_ed 3 [8] [(8,vi (IntKind.wrap .i64 (i+1)))] ?_
    exact S_round ((ab,(lN+1),z,(IntKind.wrap .i64 (i+1))):(Option Addr)×Nat×Nat×Int) sk h
   rw[if_neg c21]at h
   refine T_cFz 41 (decide_eq_false c21)<| T_k ?_
   refine S_blockEnd ?_
   refine S_then ?_
   refine T_rz 4<| T_ed 3 [8,41] [(8,vi (IntKind.wrap .i64 (i+1)))] ?_
   exact S_round ((lB,lN,lC,(IntKind.wrap .i64 (i+1))):(Option Addr)×Nat×Nat×Int) sk h
  rw[if_neg c18]at h
  refine N_bd 35 (eq_false_of_ne_true c18)<| T_ed 6 [9,33,35] [(41,.bool false)]<| T_fz 41<| T_k ?_
  refine S_blockEnd ?_
  refine S_then ?_
  refine T_rz 4<| T_ed 3 [8,41] [(8,vi (IntKind.wrap .i64 (i+1)))] ?_
  exact S_round ((lB,lN,lC,(IntKind.wrap .i64 (i+1))):(Option Addr)×Nat×Nat×Int) sk h
 rw[if_neg c6]at h
 refine T_cFz 14 (decide_eq_false c6) ?_
 refine S_exit 0 (by kernel_rfl) ?_
 refine S_exitThen ?_
 refine S_exitThen ?_
 refine S_exitHere ?_
 refine S_then ?_
 exact T_srz 8<| T_nr 2 [6] [vs lB lN lC] hQ h
end morainelaw13_roots

/-! moraine/morainelaw13.pointers -/
namespace morainelaw13_pointers
def K0:=Func.code Tryz.f18
def K2:=cb K0
def K4:=cb K2
def K5:=ca K4
def K8:=cb K5
def K9:=ca K8
def K10:=ca K9
end morainelaw13_pointers
def morainelaw13_pointers.pt(lB:Option Addr)(lN lC:Nat)(H:Array Obj)(R:Value->Array Obj->Prop):Prop:=
 ∀(b:Nat) (H1:Array Obj),b=H.size->H1=H.push (.cells #[.pointer none] 33)->
 ∃(j:(Option Addr)->Nat->Nat->Int->Array Obj->Prop) (m11:(Option Addr)->Nat->Nat->Int->Array Obj->Nat),j (some (ad b)) 1 1 0 H1/\ ∀(d:Option Addr) (outN:Nat) (outC:Nat) (i:Int) (H2:Array Obj),j d outN outC i H2->
 if i< (lN:Int)then(
 ∃e:Addr,lB=some e/\
 ((0:Int)<=i/\i< (lN:Int))/\
 ∀(g:Nat) (H3:Array Obj),g=H2.size->H3=H2.push (.cells #[.pointer (some (e.add (Int.toNat i*1)))] 33)->
 appendK 1 33 8 [.pointer none] d outN outC (some (ad g)) 1 H3 (λap f H4=>
 (j ap (outN+1) f (IntKind.wrap .i64 (i+1)) H4/\m11 ap (outN+1) f (IntKind.wrap .i64 (i+1)) H4<m11 d outN outC i H2)))
 else
 R (.slice d outN outC) H2
namespace morainelaw13_pointers
set_option maxRecDepth 100000 in
theorem link{lB:Option Addr}{lN lC:Nat}{H:Array Obj}{R:Value->Array Obj->Prop}(h:pt lB lN lC H R):C lB lN lC H R:=by
 refine T_en K0 19 Tryz.func18 ?_
 intro w0 Q hQ
 unfold pt at h
 refine T_su [(0,vs lB lN lC)]<| T_srz 0<| T_ed 1 [] []<| T_srz 1<| T_nw (some 5) (λb=>vs (pa b) 1 1) (.cells #[vp none] 33) ?_
 intro b H1 e1 e2
 replace h:=h b H1 e1 e2
 refine T_pd [] [(5,vs (pa b) 1 1)]<| T_ed 1 [5] [(3,vs (pa b) 1 1)]<| T_sz<| T_srz 2<| T_ed 1 [] [(4,vi 0)]<| T_bz 0 ?_
 obtain⟨j,m11,i3,i4⟩:=h
 refine S_loop (x:=K10) (σ:=(Option Addr)×Nat×Nat×Int) (λs_=> [(0,vs lB lN lC),(3,vs s_.1 s_.2.1 s_.2.2.1),(4,vi s_.2.2.2)]) (λs_ H=>j s_.1 s_.2.1 s_.2.2.1 s_.2.2.2 H) (λs_ H=>m11 s_.1 s_.2.1 s_.2.2.1 s_.2.2.2 H) (((pa b),1,1,0):(Option Addr)×Nat×Nat×Int) (by kernel_rfl) i3 sk ?_
 rintro⟨d,outN,outC,i⟩ H2 i5
 have h:=i4 d outN outC i H2 i5
 refine T_su [(0,vs lB lN lC),(3,vs d outN outC),(4,vi i)]<| T_sz<| T_srz 3<| T_ed 4 [] [(9,.bool (decide (i< (lN:Int))))] ?_
 by_cases c6:i< (lN:Int)
 ·rw[if_pos c6]at h
  refine T_cTz 9 (decide_eq_true c6)<| T_kt<| T_sz<| T_bz 1<| T_rz 5<| T_nd 3 [3,9] [(12,vs d outN outC),(13,vs lB lN lC),(14,vi i)] ?_
  obtain⟨e,rfl,h⟩:=h
  obtain⟨q8,h⟩:=h
  refine T_xd (some 15) 27 24 1 e lN lC .i64 i Tryz.underlying27 q8.1 q8.2 [0,13,14] [(0,vs (some e) lN lC),(15,vp (some (e.add (Int.toNat i*1))))]<| T_nw (some 16) (λb=>vs (pa b) 1 1) (.cells #[vp (some (e.add (Int.toNat i*1)))] 33) ?_
  intro g H3 e9 e10
  replace h:=h g H3 e9 e10
  refine T_pd [15] [(16,vs (pa g) 1 1)] ?_
  refine N_op (some 17) (appendN #[57,57] 57 #[vs d outN outC,vs (pa g) 1 1]) _ (λ_=>by kernel_rfl) (ss_append (T:=33) (sz:=1) (bytes:=8) (zero:=(vp none:Value)) Tryz.underlying57 Tryz.underlying57 rfl (show Tryz.prog.info? 33=some Tryz.t33 from by kernel_rfl) (by kernel_rfl) (by kernel_rfl) (by decide) (by kernel_rfl) (by first | exact h | (simpa only[Value.cells,List.toList_toArray]using h))) ?_;clear h
  rintro _ H4 ⟨ap,f,rfl,h⟩
  refine T_pd [12,16] [(17,vs ap (outN+1) f)]<| T_nd 1 [17] [(3,vs ap (outN+1) f)] ?_
  refine N_end (by kernel_rfl) ?_
  refine S_blockEnd ?_
  refine S_then ?_
  refine T_rz 4<| T_ed 3 [4] [(4,vi (IntKind.wrap .i64 (i+1)))] ?_
  exact S_round ((ap,(outN+1),f,(IntKind.wrap .i64 (i+1))):(Option Addr)×Nat×Nat×Int) sk h
 rw[if_neg c6]at h
 refine T_cFz 9 (decide_eq_false c6) ?_
 refine S_exit 0 (by kernel_rfl) ?_
 refine S_exitThen ?_
 refine S_exitThen ?_
 refine S_exitHere ?_
 refine S_then ?_
 exact T_srz 6<| T_nr 2 [2] [vs d outN outC] hQ h
end morainelaw13_pointers

/-! moraine/morainelaw13.begun -/
namespace morainelaw13_begun
def K0:=Func.code Tryz.f16
def K2:=cb K0
def K4:=cb K2
def K6:=cb K4
def K14:=cb K6
def K22:=cb K14
def K23:=ca K22
def K26:=cb K23
def K27:=ca K26
def K28:=ca K27
def K30:=cb K28
def K35:=ca K30
def K37:=ca K35
def K38:=ca K37
def K39:=cb K37
def K41:=cb K38
def K42:=ca K41
def K43:=ca K42
def K54:=cb K39
def K62:=cb K54
def K63:=ca K62
end morainelaw13_begun
def morainelaw13_begun.pt(ab:Int)(lB:Option Addr)(lN lC:Nat)(H:Array Obj)(R:Value->Array Obj->Prop):Prop:=
 obj_New.C ab H (λv H1=> ∃(ra:Option Addr) (rb:Int),v=.tuple #[.pointer ra,.int .i64 rb]/\
 if rb=0 then(
 morainelaw13_many.C lB lN lC H1 (λa8 H2=> ∃x:Bool,a8=.bool x/\
 if x=true then(
 R (.tuple #[.pointer none,.slice none 0 0]) H2)
 else
 onPtr ra (
 R (.tuple #[.pointer none,.slice none 0 0]) H2) (λe=>
 ∃(a3:(Option Addr)->Nat->Nat->Int->Array Obj->Prop) (m29:(Option Addr)->Nat->Nat->Int->Array Obj->Nat),a3 none 0 0 0 H2/\ ∀(l:Option Addr) (madeN:Nat) (madeC:Nat) (i:Int) (H3:Array Obj),a3 l madeN madeC i H3->
 if i< (lN:Int)then(
 ∃(a4:(Option Addr)->Nat->Nat->Int->Array Obj->Prop) (m44:(Option Addr)->Nat->Nat->Int->Array Obj->Nat),a4 l madeN madeC 0 H3/\ ∀(b:Option Addr) (madeN_2:Nat) (madeC_2:Nat) (k:Int) (H4:Array Obj),a4 b madeN_2 madeC_2 k H4->
 ∃d:Addr,lB=some d/\
 ((0:Int)<=i/\i< (lN:Int))/\
 ∃(xB:Option Addr) (xN xC:Nat),hat H4 (d.add (Int.toNat i*6))=some (.slice xB xN xC)/\
 if k< (xN:Int)then(
 ((0:Int)<=i/\i< (lN:Int))/\
 ∃(aq:Option Addr) (af an:Nat),hat H4 (d.add (Int.toNat i*6))=some (.slice aq af an)/\
 ∃ah:Addr,aq=some ah/\
 ((0:Int)<=k/\k< (af:Int))/\
 ∃(ax ac ap a0 am a1 ao:Int) (az:Option Addr) (aw au:Nat),RowAt H4 (ah.add (Int.toNat k*8)) 0 [.int .i64 ax,.int .i64 ac,.int .i64 ap,.int .u64 a0,.int .i64 am,.int .u64 a1,.int .i64 ao,.slice az aw au]/\
 morainelaw11_Made.C (some e) ax ac ap a0 am a1 ao az aw au b madeN_2 madeC_2 H4 (λa9 H5=> ∃(aj:Option Addr) (ag ak:Nat),a9=.slice aj ag ak/\
 (a4 aj ag ak (IntKind.wrap .i64 (k+1)) H5/\m44 aj ag ak (IntKind.wrap .i64 (k+1)) H5<m44 b madeN_2 madeC_2 k H4)))
 else
 if i=(IntKind.wrap .i64 ((lN:Int)-1))then(
 R (.tuple #[.pointer (some e),.slice b madeN_2 madeC_2]) H4)
 else
 ((0:Int)<=i/\i< (lN:Int))/\
 ∃(aa:Option Addr) (y z:Nat) (s:Option Addr) (q p:Nat) (o:Option Addr) (n m:Nat) (xG r ae:Int),RowAt H4 (d.add (Int.toNat i*6)) 0 [.slice aa y z,.slice s q p,.slice o n m,.int .i64 xG,.int .i64 r,.int .u32 ae]/\
 morainelaw13_roots.C (some e) aa y z s q p o n m xG r ae b madeN_2 madeC_2 H4 (λa6 H6=> ∃(j:Option Addr) (f g:Nat),a6=.slice j f g/\
 ((0:Int)<=i/\i< (lN:Int))/\
 ∃u:Int,hat H6 ((d.add (Int.toNat i*6)).add 3)=some (.int .i64 u)/\
 ((0:Int)<=i/\i< (lN:Int))/\
 ∃al:Int,hat H6 ((d.add (Int.toNat i*6)).add 4)=some (.int .i64 al)/\
 morainelaw13_pointers.C j f g H6 (λa7 H7=> ∃(a2:Option Addr) (av ay:Nat),a7=.slice a2 av ay/\RowAt H7 ((d.add (Int.toNat i*6)).add 3) 0 [.int .i64 u]/\RowAt H7 ((d.add (Int.toNat i*6)).add 4) 0 [.int .i64 al]/\
 gc_Collect.C (some e) u al a2 av ay H7 (λa5 H8=> ∃ai:Int,a5=.int .i64 ai/\
 if ai=0 then(
 (a3 j f g (IntKind.wrap .i64 (i+1)) H8/\m29 j f g (IntKind.wrap .i64 (i+1)) H8<m29 l madeN madeC i H3))
 else
 (a3 b madeN_2 madeC_2 (IntKind.wrap .i64 (i+1)) H8/\m29 b madeN_2 madeC_2 (IntKind.wrap .i64 (i+1)) H8<m29 l madeN madeC i H3)))))
 else
 R (.tuple #[.pointer (some e),.slice l madeN madeC]) H3)))
 else
 R (.tuple #[.pointer none,.slice none 0 0]) H1)
namespace morainelaw13_begun
theorem link{ab:Int}{lB:Option Addr}{lN lC:Nat}{H:Array Obj}{R:Value->Array Obj->Prop}(h:pt ab lB lN lC H R):C ab lB lN lC H R:=by
 refine T_en K0 82 Tryz.func16 ?_
 intro w0 Q hQ
 unfold pt at h
 refine T_su [(0,vi ab),(1,vs lB lN lC)]<| T_srz 0<| T_ed 2 [] []<| T_srz 1<| T_nd 1 [0] [(13,vi ab)] ?_
 refine T_c (some 14) h ?_;clear h
 rintro v H1 ⟨ra,rb,rfl,h⟩
 refine T_pd [13] [(14,.tuple #[vp ra,vi rb])]<| T_ed 5 [14] [(6,vp ra),(7,vi rb)]<| T_sz<| T_srz 2<| T_nd 3 [7] [(19,.bool (rb !=0))] ?_
 by_cases c1:rb=0
 ·rw[if_pos c1]at h
  refine N_bd 19 (bne_eq_false_iff_eq.mpr c1)<| T_nd 1 [] [(20,vs lB lN lC)] ?_
  refine T_c (some 21) h ?_;clear h
  rintro a8 H2 ⟨x,rfl,h⟩
  refine T_pd [20] [(21,.bool x)]<| T_ed 1 [19,21] [(22,.bool x)] ?_
  by_cases c3:x=true
  ·rw[if_pos c3]at h
   exact T_cTz 22 c3<| T_srz 3<| T_nr 2 [4,5] [vp none,vs none 0 0] hQ h
  rw[if_neg c3]at h
  refine T_cFz 22 (eq_false_of_ne_true c3)<| T_kt<| T_sz<| T_srz 4<| T_nd 1 [22] [(23,vp ra)] ?_
  rcases ra with _ | e
  ·rw[onPtr_none]at h
   exact T_ed 1 [6,23] [(6,vp none),(24,.bool true)]<| T_tz 24<| T_srz 5<| T_nr 2 [4,5] [vp none,vs none 0 0] hQ h
  rw[onPtr_some]at h
  refine T_ed 1 [6,23] [(6,vp (some e)),(24,.bool false)]<| T_fz 24<| T_kt<| T_srz 6<| T_ed 1 [24] [(8,vs none 0 0)]<| T_sz<| T_srz 7<| T_ed 1 [] [(9,vi 0)]<| T_bz 0 ?_
  obtain⟨a3,m29,i5,i6⟩:=h
  refine S_loop (x:=K28) (σ:=(Option Addr)×Nat×Nat×Int) (λs_=> [(1,vs lB lN lC),(6,vp (some e)),(8,vs s_.1 s_.2.1 s_.2.2.1),(9,vi s_.2.2.2)]) (λs_ H=>a3 s_.1 s_.2.1 s_.2.2.1 s_.2.2.2 H) (λs_ H=>m29 s_.1 s_.2.1 s_.2.2.1 s_.2.2.2 H) ((none,0,0,0):(Option Addr)×Nat×Nat×Int) (by kernel_rfl) i5 sk ?_
  rintro⟨l,madeN,madeC,i⟩ H3 i7
  have h:=i6 l madeN madeC i H3 i7
  refine T_su [(1,vs lB lN lC),(6,vp (some e)),(8,vs l madeN madeC),(9,vi i)]<| T_sz<| T_srz 8<| T_ed 4 [] [(28,.bool (decide (i< (lN:Int))))] ?_
  by_cases c8:i< (lN:Int)
  ·rw[if_pos c8]at h
   refine T_cTz 28 (decide_eq_true c8)<| T_kt<| T_sz<| T_bz 1<| T_sz<| T_srz 10<| T_ed 1 [28] [(10,vi 0)]<| T_bz 2 ?_
   obtain⟨a4,m44,i10,i11⟩:=h
   refine S_loop (x:=K43) (σ:=(Option Addr)×Nat×Nat×Int) (λs_=> [(1,vs lB lN lC),(6,vp (some e)),(8,vs s_.1 s_.2.1 s_.2.2.1),(9,vi i),(10,vi s_.2.2.2)]) (λs_ H=>a4 s_.1 s_.2.1 s_.2.2.1 s_.2.2.2 H) (λs_ H=>m44 s_.1 s_.2.1 s_.2.2.1 s_.2.2.2 H) ((l,madeN,madeC,0):(Option Addr)×Nat×Nat×Int) (by kernel_rfl) i10 sk ?_
   rintro⟨b,madeN_2,madeC_2,k⟩ H4 i12
   have h:=i11 b madeN_2 madeC_2 k H4 i12
   refine T_su [(1,vs lB lN lC),(6,vp (some e)),(8,vs b madeN_2 madeC_2),(9,vi i),(10,vi k)]<| T_sz<| T_srz 11<| T_nd 3 [] [(31,vi k),(32,vs lB lN lC),(33,vi i)] ?_
   obtain⟨d,rfl,h⟩:=h
   obtain⟨q13,h⟩:=h
   refine T_xd (some 34) 47 55 6 d lN lC .i64 i Tryz.underlying47 q13.1 q13.2 [1,32,33] [(1,vs (some d) lN lC),(34,vp (some (d.add (Int.toNat i*6))))]<| T_nd 1 [34] [(35,vp (some (d.add (Int.toNat i*6))))] ?_
   obtain⟨xB,xN,xC,q14,h⟩:=h
   refine T_l1 36 50 q14 [35]<| T_ed 2 [31,36] [(38,.bool (decide (k< (xN:Int))))] ?_
   by_cases c15:k< (xN:Int)
   ·rw[if_pos c15]at h
    refine T_cTz 38 (decide_eq_true c15)<| T_kt<| T_sz<| T_bz 3<| T_rz 13<| T_nd 3 [38] [(41,vp (some e)),(42,vs (some d) lN lC),(43,vi i)] ?_
    obtain⟨q17,h⟩:=h
    refine T_xd (some 44) 47 55 6 d lN lC .i64 i Tryz.underlying47 q17.1 q17.2 [42,43] [(44,vp (some (d.add (Int.toNat i*6))))]<| T_nd 1 [44] [(45,vp (some (d.add (Int.toNat i*6))))] ?_
    obtain⟨aq,af,an,q18,h⟩:=h
    refine T_l1 46 50 q18 [45]<| T_nd 1 [] [(47,vi k)] ?_
    obtain⟨ah,rfl,h⟩:=h
    obtain⟨q19,h⟩:=h
    refine T_xd (some 48) 50 98 8 ah af an .i64 k Tryz.underlying50 q19.1 q19.2 [46,47] [(48,vp (some (ah.add (Int.toNat k*8))))] ?_
    obtain⟨ax,ac,ap,a0,am,a1,ao,az,aw,au,q20,h⟩:=h
    refine T_lr 49 98 q20 [48]<| T_nd 1 [8] [(50,vs b madeN_2 madeC_2)] ?_
    refine T_c (some 51) h ?_;clear h
    rintro a9 H5 ⟨aj,ag,ak,rfl,h⟩
    refine T_pd [41,49,50] [(51,vs aj ag ak)]<| T_nd 1 [51] [(8,vs aj ag ak)] ?_
    refine N_end (by kernel_rfl) ?_
    refine S_blockEnd ?_
    refine S_then ?_
    refine T_rz 12<| T_ed 3 [10] [(10,vi (IntKind.wrap .i64 (k+1)))] ?_
    exact S_round ((aj,ag,ak,(IntKind.wrap .i64 (k+1))):(Option Addr)×Nat×Nat×Int) sk h
   rw[if_neg c15]at h
   refine T_cFz 38 (decide_eq_false c15) ?_
   refine S_exit 2 (by kernel_rfl) ?_
   refine S_exitThen ?_
   refine S_exitThen ?_
   refine S_exitHere ?_
   refine S_then ?_
   refine T_sz<| T_srz 14<| T_ed 5 [10,38] [(56,.bool (i==(IntKind.wrap .i64 ((lN:Int)-1))))] ?_
   by_cases c21:i=(IntKind.wrap .i64 ((lN:Int)-1))
   ·rw[if_pos c21]at h
    refine T_cTz 56 (beq_iff_eq.mpr c21) ?_
    refine S_exit 0 (by kernel_rfl) ?_
    refine S_exitThen ?_
    refine S_exitPast (by kernel_rfl) ?_
    refine S_exitThen ?_
    refine S_exitThen ?_
    refine S_exitHere ?_
    refine S_then ?_
    exact T_srz 18<| T_nr 4 [4,5] [vp (some e),vs b madeN_2 madeC_2] hQ h
   rw[if_neg c21]at h
   refine T_cFz 56 (beq_eq_false_iff_ne.mpr c21)<| T_kt<| T_srz 15<| T_nd 3 [56] [(57,vp (some e)),(58,vs (some d) lN lC),(59,vi i)] ?_
   obtain⟨q23,h⟩:=h
   refine T_xd (some 60) 47 55 6 d lN lC .i64 i Tryz.underlying47 q23.1 q23.2 [58,59] [(60,vp (some (d.add (Int.toNat i*6))))] ?_
   obtain⟨aa,y,z,s,q,p,o,n,m,xG,r,ae,q24,h⟩:=h
   refine T_lr 61 55 q24 [60]<| T_nd 1 [] [(62,vs b madeN_2 madeC_2)] ?_
   refine T_c (some 63) h ?_;clear h
   rintro a6 H6 ⟨j,f,g,rfl,h⟩
   refine T_pd [57,61,62] [(63,vs j f g)]<| T_ed 1 [63] [(11,vs j f g)]<| T_sz ?_
   obtain⟨q25,h⟩:=h
   obtain⟨u,q26,h⟩:=h
   obtain⟨q27,h⟩:=h
   obtain⟨al,q28,h⟩:=h
   refine S_regionG 16 (Code.ops K63) [(13,((d.add (Int.toNat i*6)).add 3),[vi u]),(13,((d.add (Int.toNat i*6)).add 4),[vi al])] 15 (bv 15 0) (by kernel_rfl) (by kernel_rfl) (by kernel_rfl) (by kernel_rfl) (by kernel_rfl) (show FactsAt _ _ _ from⟨⟨q26,trivial⟩,⟨q28,trivial⟩,trivial⟩) ?_
   refine T_gp 0 (some 64) (vp (some e)) (bv 15 1) [(1,vs (some d) lN lC),(6,vp (some e)),(8,vs b madeN_2 madeC_2),(9,vi i),(11,vs j f g),(64,vp (some e))]<| T_gp1 1 65 (vs (some d) lN lC) (bv 15 3) []<| T_gp1 2 66 (vi i) (bv 15 7) []<| T_g1 3 67 (vp (some (d.add (Int.toNat i*6)))) (bv 15 15) [65,66] (indexAtN 47 (vs (some d) lN lC) (vi i)) (λ_ w _ _ _=>indexAt_run (P:=Tryz.prog) (t:=47) (elem:=55) (sz:=6) (a:=d) (len:=lN) (cap:=lC) (k:=.i64) (i:=i) Tryz.underlying47 (λ_=>by kernel_rfl) q25.1 q25.2 w)<| T_gp1 4 68 (vp (some ((d.add (Int.toNat i*6)).add 3))) (bv 15 31) [67]<| T_g1 5 69 (vi u) (bv 15 63) [68] (loadN 3 (vp (some ((d.add (Int.toNat i*6)).add 3)))) (held_one 13 (λ_=>by kernel_rfl) (List.Mem.head _) (.inl (by kernel_rfl)))<| T_gp1 6 70 (vs (some d) lN lC) (bv 15 127) []<| T_gp1 7 71 (vi i) (bv 15 255) []<| T_g1 8 72 (vp (some (d.add (Int.toNat i*6)))) (bv 15 511) [70,71] (indexAtN 47 (vs (some d) lN lC) (vi i)) (λ_ w _ _ _=>indexAt_run (P:=Tryz.prog) (t:=47) (elem:=55) (sz:=6) (a:=d) (len:=lN) (cap:=lC) (k:=.i64) (i:=i) Tryz.underlying47 (λ_=>by kernel_rfl) q27.1 q27.2 w) ?_
   refine T_gp1 9 73 (vp (some ((d.add (Int.toNat i*6)).add 4))) (bv 15 1023) [72]<| T_g1 10 74 (vi al) (bv 15 2047) [73] (loadN 3 (vp (some ((d.add (Int.toNat i*6)).add 4)))) (held_one 13 (λ_=>by kernel_rfl) (List.Mem.tail _ (List.Mem.head _)) (.inl (by kernel_rfl)))<| T_gp1 11 75 (vs j f g) (bv 15 4095) [] ?_
   refine G_call 12 (some 76) (bv 15 8191) 18 #[vs j f g] (by kernel_rfl) (λ_=>by kernel_rfl) h (by kernel_rfl) ?_;clear h
   rintro a7 H7 ⟨a2,av,ay,rfl,h⟩
   obtain⟨f29,f30,h⟩:=h
   refine⟨[(1,vs (some d) lN lC),(6,vp (some e)),(8,vs b madeN_2 madeC_2),(9,vi i),(11,vs j f g),(64,vp (some e)),(69,vi u),(74,vi al),(76,vs a2 av ay)],pk,(show FactsAt _ _ _ from⟨f29,f30,trivial⟩),?_⟩
   refine G_call 13 (some 77) (bv 15 16383) 9 #[vp (some e),vi u,vi al,vs a2 av ay] (by kernel_rfl) (λ_=>by kernel_rfl) h (by kernel_rfl) ?_;clear h
   rintro a5 H8 ⟨ai,rfl,h⟩
   refine⟨[(1,vs (some d) lN lC),(6,vp (some e)),(8,vs b madeN_2 madeC_2),(9,vi i),(11,vs j f g),(77,vi ai)],pk,(show FactsAt _ _ _ from⟨trivial,trivial,trivial⟩),?_⟩
   refine T_g 14 (some 78) (.bool (ai==0)) (bv 15 32767) [(1,vs (some d) lN lC),(6,vp (some e)),(8,vs b madeN_2 madeC_2),(9,vi i),(11,vs j f g),(78,.bool (ai==0))] (pure (.value (.bool (ai==0))):Sem Next) (λ_ _ _ _ _=>rfl) ?_
   refine G_sub [(1,vs (some d) lN lC),(6,vp (some e)),(8,vs b madeN_2 madeC_2),(9,vi i),(11,vs j f g),(78,.bool (ai==0))] sk ?_
   refine G_end (by kernel_rfl) ?_
   refine S_then ?_
   by_cases c31:ai=0
   ·rw[if_pos c31]at h
    refine T_cTz 78 (beq_iff_eq.mpr c31)<| T_rz 17<| T_n 2 [(1,vs (some d) lN lC),(6,vp (some e)),(8,vs j f g),(9,vi i)] ?_
    refine N_end (by kernel_rfl) ?_
    refine S_blockEnd ?_
    refine S_then ?_
    refine T_rz 9<| T_ed 3 [9] [(9,vi (IntKind.wrap .i64 (i+1)))] ?_
    exact S_round ((j,f,g,(IntKind.wrap .i64 (i+1))):(Option Addr)×Nat×Nat×Int) sk h
   rw[if_neg c31]at h
   refine T_cFz 78 (beq_eq_false_iff_ne.mpr c31)<| T_k ?_
   refine S_blockEnd ?_
   refine S_then ?_
   refine T_rz 9<| T_ne 3 [(1,vs (some d) lN lC),(6,vp (some e)),(8,vs b madeN_2 madeC_2),(9,vi (IntKind.wrap .i64 (i+1)))] ?_
   exact S_round ((b,madeN_2,madeC_2,(IntKind.wrap .i64 (i+1))):(Option Addr)×Nat×Nat×Int) sk h
  rw[if_neg c8]at h
  refine T_cFz 28 (decide_eq_false c8) ?_
  refine S_exit 0 (by kernel_rfl) ?_
  refine S_exitThen ?_
  refine S_exitThen ?_
  refine S_exitHere ?_
  refine S_then ?_
  exact T_srz 18<| T_nr 4 [4,5] [vp (some e),vs l madeN madeC] hQ h
 rw[if_neg c1]at h
 exact N_bd 19 (bne_iff_ne.mpr c1)<| T_ed 3 [19] [(22,.bool true)]<| T_tz 22<| T_srz 3<| T_nr 2 [4,5] [vp none,vs none 0 0] hQ h
end morainelaw13_begun

/-! moraine/morainelaw13.awake -/
namespace morainelaw13_awake
def K0:=Func.code Tryz.f14
def K2:=cb K0
def K4:=cb K2
def K6:=cb K4
def K14:=cb K6
def K15:=ca K14
def K16:=cb K14
def K18:=cb K15
def K19:=ca K18
def K20:=ca K19
def K30:=ca K16
def K33:=cb K30
def K34:=ca K33
def K35:=ca K34
end morainelaw13_awake
def morainelaw13_awake.pt(H:Array Obj)(R:Value->Array Obj->Prop):Prop:=
 obj_New.C 200 H (λv H1=> ∃(ra:Option Addr) (rb:Int),v=.tuple #[.pointer ra,.int .i64 rb]/\
 if rb=0 then(
 onPtr ra (
 R (.bool false) H1) (λa=>
 ∀(b:Nat) (H2:Array Obj),b=H1.size->H2=H1.push (.cells #[.int .u64 0] 24)->
 (CanPuts H2 (ad b) 0 1)/\ ∀H3,H3=hputs H2 (ad b) [.int .u64 20] 0->
 ∃(af:Int->Array Obj->Prop) (m21:Int->Array Obj->Nat),af 0 H3/\ ∀(i:Int) (H4:Array Obj),af i H4->
 if i<3 then(
 ∃x:Int,hat H4 (ad b)=some (.int .u64 x)/\
 obj_Heap_Cons.C (some a) 8 x H4 (λap H5=> ∃k ah:Int,ap=.tuple #[.int .u64 k,.int .i64 ah]/\
 (CanPuts H5 (ad b) 0 1)/\ ∀H6,H6=hputs H5 (ad b) [.int .u64 k] 0->
 (af (IntKind.wrap .i64 (i+1)) H6/\m21 (IntKind.wrap .i64 (i+1)) H6<m21 i H4)))
 else
 ∃(aa:Int->Array Obj->Prop) (m36:Int->Array Obj->Nat),aa 0 H4/\ ∀(f:Int) (H7:Array Obj),aa f H7->
 if f<100 then(
 ∃s:Int,hat H7 (ad b)=some (.int .u64 s)/\
 obj_Heap_Cons.C (some a) 8 s H7 (λau H8=> ∃ai aj:Int,au=.tuple #[.int .u64 ai,.int .i64 aj]/\
 (aa (IntKind.wrap .i64 (f+1)) H8/\m36 (IntKind.wrap .i64 (f+1)) H8<m36 f H7)))
 else
 ∀(u:Nat) (H9:Array Obj),u=H7.size->H9=H7.push (.cells #[.pointer (some (ad b))] 33)->
 gc_Collect.C (some a) 0 1 (some (ad u)) 1 1 H9 (λav ak=> ∃g:Int,av=.int .i64 g/\
 ∃t:Int,hat ak (ad b)=some (.int .u64 t)/\
 obj_Heap_Car.C (some a) t ak (λam p=> ∃e d:Int,am=.tuple #[.int .u64 e,.int .i64 d]/\
 if g=0 then(
 ∃z:Option Addr,hat p a=some (.pointer z)/\
 ∃ab:Addr,z=some ab/\
 ∃o:Option Addr,hat p ab=some (.pointer o)/\
 ∀(y:Nat) (H12:Array Obj),y=p.size->H12=p.push (.cells #[.int .i64 0] 3)->
 space_Space_Words.C o (some (ad y)) 1 1 H12 (λal q=> ∃m:Int,al=.int .i64 m/\
 if m=0 then(
 ∃ac:Option Addr,hat q a=some (.pointer ac)/\
 ∃ag:Addr,ac=some ag/\
 ∃n:Option Addr,hat q ag=some (.pointer n)/\
 ∀(r:Nat) (H14:Array Obj),r=q.size->H14=q.push (.cells #[.int .i64 1] 3)->
 space_Space_Words.C n (some (ad r)) 1 1 H14 (λao ae=> ∃j:Int,ao=.int .i64 j/\
 if j=6 then(
 if e=8 then(
 if d=0 then(
 gc_Collect.C (some a) 4 4 none 0 0 ae (λaq an=> ∃l:Int,aq=.int .i64 l/\
 R (.bool (l==1)) an))
 else
 R (.bool false) ae)
 else
 R (.bool false) ae)
 else
 R (.bool false) ae))
 else
 R (.bool false) q))
 else
 R (.bool false) p))))
 else
 R (.bool false) H1)
namespace morainelaw13_awake
set_option maxRecDepth 100000 in
theorem link{H:Array Obj}{R:Value->Array Obj->Prop}(h:pt H R):C H R:=by
 refine T_en K0 84 Tryz.func14 ?_
 intro w0 Q hQ
 unfold pt at h
 refine T_su []<| T_srz 0<| T_ne 1 []<| T_srz 1 ?_
 refine T_c (some 10) h ?_;clear h
 rintro v H1 ⟨ra,rb,rfl,h⟩
 refine⟨[(10,.tuple #[vp ra,vi rb])],pk,?_⟩
 refine T_ne 5 [(1,vp ra),(2,vi rb)]<| T_sz<| T_srz 2<| T_nd 3 [2] [(15,.bool (rb !=0))] ?_
 by_cases c1:rb=0
 ·rw[if_pos c1]at h
  refine N_bd 15 (bne_eq_false_iff_eq.mpr c1)<| T_nd 1 [] [(16,vp ra)] ?_
  rcases ra with _ | a
  ·rw[onPtr_none]at h
   exact T_ne 2 [(1,vp none),(18,.bool true)]<| T_tz 18<| T_srz 3<| T_nr 1 [0] [.bool false] hQ h
  rw[onPtr_some]at h
  refine T_ne 2 [(1,vp (some a)),(18,.bool false)]<| T_fz 18<| T_kt<| T_srz 4<| T_ud [18] []<| T_nw (some 3) (λb=>vp (pa b)) (.cells #[vu 0] 24) ?_
  intro b H2 e3 e4
  replace h:=h b H2 e3 e4
  refine T_pd [] [(3,vp (pa b))] ?_
  obtain⟨q6,h⟩:=h
  refine T_st1 24 (vu 20) q6 ?_
  intro H3 e5
  replace h:=h H3 e5
  refine T_pd [] []<| T_e<| T_sz<| T_srz 5<| T_ed 1 [] [(4,vi 0)]<| T_bz 0 ?_
  obtain⟨af,m21,i7,i8⟩:=h
  refine S_loop (x:=K20) (σ:=Int) (λs_=> [(1,vp (some a)),(3,vp (pa b)),(4,vi s_)]) (λs_ H=>af s_ H) (λs_ H=>m21 s_ H) (0:Int) (by kernel_rfl) i7 sk ?_
  rintro i H4 i9
  have h:=i8 i H4 i9
  refine T_su [(1,vp (some a)),(3,vp (pa b)),(4,vi i)]<| T_sz<| T_srz 6<| T_ed 2 [] [(20,.bool (decide (i<3)))] ?_
  by_cases c10:i<3
  ·rw[if_pos c10]at h
   refine T_cTz 20 (decide_eq_true c10)<| T_kt<| T_sz<| T_bz 1<| T_rz 8<| T_nd 1 [20] [(24,vp (some a))] ?_
   obtain⟨x,q12,h⟩:=h
   refine T_l1 25 24 q12 [] ?_
   refine T_c (some 26) h ?_;clear h
   rintro ap H5 ⟨k,ah,rfl,h⟩
   refine T_pd [24,25] [(26,.tuple #[vu k,vi ah])]<| T_nd 3 [26] [(27,vu k)] ?_
   obtain⟨q14,h⟩:=h
   refine T_st1 24 (vu k) q14 ?_
   intro H6 e13
   replace h:=h H6 e13
   refine T_pd [27] [] ?_
   refine N_end (by kernel_rfl) ?_
   refine S_blockEnd ?_
   refine S_then ?_
   refine T_rz 7<| T_ed 3 [4] [(4,vi (IntKind.wrap .i64 (i+1)))] ?_
   exact S_round ((IntKind.wrap .i64 (i+1)):Int) sk h
  rw[if_neg c10]at h
  refine T_cFz 20 (decide_eq_false c10) ?_
  refine S_exit 0 (by kernel_rfl) ?_
  refine S_exitThen ?_
  refine S_exitThen ?_
  refine S_exitHere ?_
  refine S_then ?_
  refine T_sz<| T_srz 9<| T_ed 1 [4,20] [(5,vi 0)]<| T_bz 2 ?_
  obtain⟨aa,m36,i15,i16⟩:=h
  refine S_loop (x:=K35) (σ:=Int) (λs_=> [(1,vp (some a)),(3,vp (pa b)),(5,vi s_)]) (λs_ H=>aa s_ H) (λs_ H=>m36 s_ H) (0:Int) (by kernel_rfl) i15 sk ?_
  rintro f H7 i17
  have h:=i16 f H7 i17
  refine T_su [(1,vp (some a)),(3,vp (pa b)),(5,vi f)]<| T_sz<| T_srz 10<| T_ed 2 [] [(30,.bool (decide (f<100)))] ?_
  by_cases c18:f<100
  ·rw[if_pos c18]at h
   refine T_cTz 30 (decide_eq_true c18)<| T_kt<| T_sz<| T_bz 3<| T_rz 12<| T_nd 1 [30] [(33,vp (some a))] ?_
   obtain⟨s,q20,h⟩:=h
   refine T_l1 34 24 q20 [] ?_
   refine T_c (some 35) h ?_;clear h
   rintro au H8 ⟨ai,aj,rfl,h⟩
   refine T_pd [33,34] [] ?_
   refine N_end (by kernel_rfl) ?_
   refine S_blockEnd ?_
   refine S_then ?_
   refine T_rz 11<| T_ed 3 [5] [(5,vi (IntKind.wrap .i64 (f+1)))] ?_
   exact S_round ((IntKind.wrap .i64 (f+1)):Int) sk h
  rw[if_neg c18]at h
  refine T_cFz 30 (decide_eq_false c18) ?_
  refine S_exit 2 (by kernel_rfl) ?_
  refine S_exitThen ?_
  refine S_exitThen ?_
  refine S_exitHere ?_
  refine S_then ?_
  refine T_srz 13<| T_nd 1 [5,30] [(36,vp (some a))]<| T_nw (some 37) (λb=>vs (pa b) 1 1) (.cells #[vp (pa b)] 33) ?_
  intro u H9 e21 e22
  replace h:=h u H9 e21 e22
  refine T_pd [] [(37,vs (pa u) 1 1)] ?_
  refine T_c (some 38) h ?_;clear h
  rintro av ak ⟨g,rfl,h⟩
  refine T_pd [36,37] [(38,vi g)]<| T_ed 1 [38] [(6,vi g)]<| T_srz 14<| T_nd 1 [] [(40,vp (some a))] ?_
  obtain⟨t,q23,h⟩:=h
  refine T_l1 41 24 q23 [3] ?_
  refine T_c (some 42) h ?_;clear h
  rintro am p ⟨e,d,rfl,h⟩
  refine T_pd [40,41] [(42,.tuple #[vu e,vi d])]<| T_ed 5 [42] [(7,vu e),(8,vi d)]<| T_srz 15<| T_nd 3 [6] [(47,.bool (g==0))] ?_
  by_cases c24:g=0
  ·rw[if_pos c24]at h
   refine N_bd 47 (beq_iff_eq.mpr c24)<| T_nd 3 [] [(50,vp (some a))] ?_
   obtain⟨z,q26,h⟩:=h
   refine T_l1 51 26 q26 [50] ?_
   obtain⟨ab,rfl,h⟩:=h
   refine T_nd 2 [51] [(53,vp (some ab))] ?_
   obtain⟨o,q27,h⟩:=h
   refine T_l1 54 39 q27 [53]<| T_nw (some 55) (λb=>vs (pa b) 1 1) (.cells #[vi 0] 3) ?_
   intro y H12 e28 e29
   replace h:=h y H12 e28 e29
   refine T_pd [] [(55,vs (pa y) 1 1)] ?_
   refine T_c (some 56) h ?_;clear h
   rintro al q ⟨m,rfl,h⟩
   refine T_pd [54,55] [(56,vi m)]<| T_nd 3 [47,56] [(59,.bool (m==0))] ?_
   by_cases c30:m=0
   ·rw[if_pos c30]at h
    refine N_bd 59 (beq_iff_eq.mpr c30)<| T_nd 3 [] [(62,vp (some a))] ?_
    obtain⟨ac,q32,h⟩:=h
    refine T_l1 63 26 q32 [62] ?_
    obtain⟨ag,rfl,h⟩:=h
    refine T_nd 2 [63] [(65,vp (some ag))] ?_
    obtain⟨n,q33,h⟩:=h
    refine T_l1 66 39 q33 [65]<| T_nw (some 67) (λb=>vs (pa b) 1 1) (.cells #[vi 1] 3) ?_
    intro r H14 e34 e35
    replace h:=h r H14 e34 e35
    refine T_pd [] [(67,vs (pa r) 1 1)] ?_
    refine T_c (some 68) h ?_;clear h
    rintro ao ae ⟨j,rfl,h⟩
    refine T_pd [66,67] [(68,vi j)]<| T_nd 3 [59,68] [(71,.bool (j==6))] ?_
    by_cases c36:j=6
    ·rw[if_pos c36]at h
     refine N_bd 71 (beq_iff_eq.mpr c36)<| T_nd 4 [7,71] [(75,.bool (e==8))] ?_
     by_cases c38:e=8
     ·rw[if_pos c38]at h
      refine N_bd 75 (beq_iff_eq.mpr c38)<| T_nd 4 [8,75] [(79,.bool (d==0))] ?_
      by_cases c40:d=0
      ·rw[if_pos c40]at h
       refine N_bd 79 (beq_iff_eq.mpr c40)<| T_nd 1 [1] [(80,vp (some a))] ?_
       refine T_c (some 81) h ?_;clear h
       rintro aq an ⟨l,rfl,h⟩
       exact T_pd [80] [(81,vi l)]<| T_nr 3 [0] [.bool (l==1)] hQ h
      rw[if_neg c40]at h
      exact N_bd 79 (beq_eq_false_iff_ne.mpr c40)<| T_nr 5 [0] [.bool false] hQ h
     rw[if_neg c38]at h
     exact N_bd 75 (beq_eq_false_iff_ne.mpr c38)<| T_nr 9 [0] [.bool false] hQ h
    rw[if_neg c36]at h
    exact N_bd 71 (beq_eq_false_iff_ne.mpr c36)<| T_nr 13 [0] [.bool false] hQ h
   rw[if_neg c30]at h
   exact N_bd 59 (beq_eq_false_iff_ne.mpr c30)<| T_nr 25 [0] [.bool false] hQ h
  rw[if_neg c24]at h
  exact N_bd 47 (beq_eq_false_iff_ne.mpr c24)<| T_nr 37 [0] [.bool false] hQ h
 rw[if_neg c1]at h
 exact N_bd 15 (bne_iff_ne.mpr c1)<| T_ed 3 [15] [(18,.bool true)]<| T_tz 18<| T_srz 3<| T_nr 1 [0] [.bool false] hQ h
end morainelaw13_awake

end Go.Proofs.YtgnokbjknicahaaGreat
