/- Printed: what each function asks, and that it is sound. -/
import Derived.Test.YtgnokbjknicahaaGreatFnsC
set_option linter.unusedSimpArgs false
set_option linter.unusedVariables false
set_option maxRecDepth 100000
set_option maxHeartbeats 1000000
noncomputable section
namespace Go.Proofs.YtgnokbjknicahaaGreat
open Go
/-! moraine/word.Addr -/
namespace word_Addr
def K0:=Func.code Tryz.f40
end word_Addr
def word_Addr.pt(wv:Int)(H:Array Obj)(R:Value->Array Obj->Prop):Prop:=
 word_Tag.C wv H (λv H1=> ∃x:Int,v=.int .i64 x/\
 word_place.C x H1 (λe H2=> ∃b:Bool,e=.bool b/\
 if b=true then(
 word_May.C wv H2 (λd H3=> ∃a:Bool,d=.bool a/\
 if a=true then(
 R (.tuple #[.int .i64 (IntKind.wrap .i64 (ishr .u64 wv 3)),.bool true]) H3)
 else
 R (.tuple #[.int .i64 0,.bool false]) H3))
 else
 R (.tuple #[.int .i64 0,.bool false]) H2))
namespace word_Addr
theorem link{wv:Int}{H:Array Obj}{R:Value->Array Obj->Prop}(h:pt wv H R):C wv H R:=by
 refine T_en K0 16 Tryz.func40 ?_
 intro w0 Q hQ
 unfold pt at h
 refine T_su [(0,vu wv)]<| T_srz 0<| T_ed 2 [] []<| T_sz<| T_srz 1<| T_nd 1 [] [(4,vu wv)] ?_
 refine T_c (some 5) h ?_;clear h
 rintro v H1 ⟨x,rfl,h⟩
 refine T_pd [4] [(5,vi x)] ?_
 refine T_c (some 6) h ?_;clear h
 rintro e H2 ⟨b,rfl,h⟩
 refine T_pd [5] [(6,.bool b)]<| T_nd 2 [6] [(8,.bool (!b))] ?_
 by_cases c1:b=true
 ·rw[if_pos c1]at h
  have b2:(!b)=false:=congrArg Bool.not (c1)
  have b22:b=true:=c1
  refine N_bd 8 (b:=(!b)) (v:=false) (by simp only[b2,b22,Bool.not_true,Bool.not_false]) ?_
  clear b2 b22
  refine T_nd 1 [] [(9,vu wv)] ?_
  refine T_c (some 10) h ?_;clear h
  rintro d H3 ⟨a,rfl,h⟩
  refine T_pd [9] [(10,.bool a)]<| T_ed 2 [8,10] [(12,.bool (!a))] ?_
  by_cases c3:a=true
  ·rw[if_pos c3]at h
   exact T_cFz 12 (congrArg Bool.not (c3))<| T_kt<| T_srz 3<| T_nr 5 [2,3] [vi (IntKind.wrap .i64 (ishr .u64 wv 3)),.bool true] hQ h
  rw[if_neg c3]at h
  exact T_cTz 12 (congrArg Bool.not (eq_false_of_ne_true c3))<| T_srz 2<| T_nr 2 [2,3] [vi 0,.bool false] hQ h
 rw[if_neg c1]at h
 have b2:(!b)=true:=congrArg Bool.not (eq_false_of_ne_true c1)
 have b22:b=false:=eq_false_of_ne_true c1
 refine N_bd 8 (b:=(!b)) (v:=true) (by simp only[b2,b22,Bool.not_true,Bool.not_false]) ?_
 clear b2 b22
 exact T_ed 4 [8] [(12,.bool true)]<| T_tz 12<| T_srz 2<| T_nr 2 [2,3] [vi 0,.bool false] hQ h
end word_Addr

/-! moraine/word.Tag -/
namespace word_Tag
def K0:=Func.code Tryz.f42
end word_Tag
def word_Tag.pt(wv:Int)(H:Array Obj)(R:Value->Array Obj->Prop):Prop:=
 R (.int .i64 (IntKind.wrap .i64 (iand .u64 wv 7))) H
namespace word_Tag
theorem link{wv:Int}{H:Array Obj}{R:Value->Array Obj->Prop}(h:pt wv H R):C wv H R:=by
 refine T_en K0 6 Tryz.func42 ?_
 intro w0 Q hQ
 unfold pt at h
 exact T_su [(0,vu wv)]<| T_srz 0<| T_ed 1 [] []<| T_srz 1<| T_nr 4 [2] [vi (IntKind.wrap .i64 (iand .u64 wv 7))] hQ h
end word_Tag

/-! moraine/word.At -/
namespace word_At
def K0:=Func.code Tryz.f68
end word_At
def word_At.pt(b a:Int)(H:Array Obj)(R:Value->Array Obj->Prop):Prop:=
 word_place.C b H (λv H1=> ∃x:Bool,v=.bool x/\
 if x=true then(
 if((decide (a<0)) || (decide (a>=65536)))=true then(
 R (.tuple #[.int .u64 0,.int .i64 18]) H1)
 else
 R (.tuple #[.int .u64 (ior .u64 (ishl .u64 (IntKind.wrap .u64 a) 3) (IntKind.wrap .u64 b)),.int .i64 0]) H1)
 else
 R (.tuple #[.int .u64 0,.int .i64 1]) H1)
namespace word_At
theorem link{b a:Int}{H:Array Obj}{R:Value->Array Obj->Prop}(h:pt b a H R):C b a H R:=by
 refine T_en K0 23 Tryz.func68 ?_
 intro w0 Q hQ
 unfold pt at h
 refine T_su [(0,vi b),(1,vi a)]<| T_srz 0<| T_ed 2 [] []<| T_sz<| T_bz 0<| T_srz 1<| T_nd 1 [] [(7,vi b)] ?_
 refine T_c (some 8) h ?_;clear h
 rintro v H1 ⟨x,rfl,h⟩
 refine T_pd [7] [(8,.bool x)]<| T_ed 2 [8] [(6,.bool (!x))] ?_
 by_cases c1:x=true
 ·rw[if_pos c1]at h
  refine T_cFz 6 (congrArg Bool.not (c1))<| T_srz 3 ?_
  refine N_cut [(0,vi b),(1,vi a),(10,.bool ((decide (a<0)) || (decide (a>=65536))))] ?_ ?_
  ·refine S_then ?_
   by_cases c5:((decide (a<0)) || (decide (a>=65536)))=true
   ·rw[if_pos c5]at h
    exact T_cTz 10 c5<| T_srz 4<| T_nr 2 [4,5] [vu 0,vi 18] hQ h
   rw[if_neg c5]at h
   refine T_cFz 10 (eq_false_of_ne_true c5)<| T_k ?_
   refine S_blockEnd ?_
   refine S_then ?_
   exact T_srz 5<| T_nr 8 [4,5] [vu (ior .u64 (ishl .u64 (IntKind.wrap .u64 a) 3) (IntKind.wrap .u64 b)),vi 0] hQ h
  intro hk
  refine T_n 3 [(0,vi b),(1,vi a),(13,.bool (decide (a<0)))] ?_
  by_cases c3:a<0
  ·have b4:(decide (a<0))=true:=decide_eq_true c3
   refine N_env [(0,vi b),(1,vi a),(13,.bool true)] (by rw[b4]) ?_
   refine T_nd 4 [13] [(10,.bool true)] ?_
   refine N_end (by kernel_rfl) ?_
   refine S_bd 10 (b:=true) (v:=((decide (a<0)) || (decide (a>=65536)))) (by simp only[b4,BL]) ?_
   exact hk
  have b4:(decide (a<0))=false:=decide_eq_false c3
  refine N_env [(0,vi b),(1,vi a),(13,.bool false)] (by rw[b4]) ?_
  refine T_nd 4 [13] [(10,.bool (decide (a>=65536)))] ?_
  refine N_end (by kernel_rfl) ?_
  refine S_bd 10 (b:=(decide (a>=65536))) (v:=((decide (a<0)) || (decide (a>=65536)))) (by simp only[b4,BL]) ?_
  exact hk
 rw[if_neg c1]at h
 exact T_cTz 6 (congrArg Bool.not (eq_false_of_ne_true c1))<| T_srz 2<| T_nr 2 [4,5] [vu 0,vi 1] hQ h
end word_At

/-! moraine/word.place -/
namespace word_place
def K0:=Func.code Tryz.f80
end word_place
def word_place.pt(a:Int)(H:Array Obj)(R:Value->Array Obj->Prop):Prop:=
 R (.bool (((decide (a>=1)) && (decide (a<=3))) || (a==6))) H
namespace word_place
theorem link{a:Int}{H:Array Obj}{R:Value->Array Obj->Prop}(h:pt a H R):C a H R:=by
 refine T_en K0 13 Tryz.func80 ?_
 intro w0 Q hQ
 unfold pt at h
 refine T_su [(0,vi a)]<| T_srz 0<| T_ed 1 [] []<| T_srz 1 ?_
 refine N_cut [(2,.bool (((decide (a>=1)) && (decide (a<=3))) || (a==6)))] ?_ ?_
 ·refine S_then ?_
  exact T_ret [2] [.bool (((decide (a>=1)) && (decide (a<=3))) || (a==6))] hQ h
 intro hk
 refine T_n 3 [(0,vi a),(5,.bool (decide (a>=1)))] ?_
 by_cases c1:a>=1
 ·have b2:(decide (a>=1))=true:=decide_eq_true c1
  refine N_env [(0,vi a),(5,.bool true)] (by rw[b2]) ?_
  refine T_nd 4 [5] [(9,.bool (decide (a<=3)))] ?_
  by_cases c3:a<=3
  ·have b4:(decide (a<=3))=true:=decide_eq_true c3
   refine N_bd 9 b4<| T_n 4 [(2,.bool true)] ?_
   refine N_end (by kernel_rfl) ?_
   refine S_env [(2,.bool (((decide (a>=1)) && (decide (a<=3))) || (a==6)))] (by simp only[b2,b4,BL]) ?_
   exact hk
  have b4:(decide (a<=3))=false:=decide_eq_false c3
  refine N_bd 9 b4<| T_n 4 [(2,.bool (a==6))] ?_
  refine N_end (by kernel_rfl) ?_
  refine S_env [(2,.bool (((decide (a>=1)) && (decide (a<=3))) || (a==6)))] (by simp only[b2,b4,BL]) ?_
  exact hk
 have b2:(decide (a>=1))=false:=decide_eq_false c1
 refine N_env [(0,vi a),(5,.bool false)] (by rw[b2]) ?_
 refine T_n 8 [(2,.bool (a==6))] ?_
 refine N_end (by kernel_rfl) ?_
 refine S_env [(2,.bool (((decide (a>=1)) && (decide (a<=3))) || (a==6)))] (by simp only[b2,BL]) ?_
 exact hk
end word_place

/-! moraine/word.May -/
namespace word_May
def K0:=Func.code Tryz.f81
end word_May
def word_May.pt(wv:Int)(H:Array Obj)(R:Value->Array Obj->Prop):Prop:=
 word_parts.C wv H (λv H1=> ∃ra rb rc:Int,v=.tuple #[.int .i64 ra,.int .i64 rb,.int .u64 rc]/\
 word_Tag.C wv H1 (λd H2=> ∃x:Int,d=.int .i64 x/\
 if x=0 then(
 R (.bool true) H2)
 else
 if x=1 then(
 R (.bool (decide ((ishr .u64 wv 3)<65536))) H2)
 else
 if x=2 then(
 R (.bool (decide ((ishr .u64 wv 3)<65536))) H2)
 else
 if x=3 then(
 R (.bool (decide ((ishr .u64 wv 3)<65536))) H2)
 else
 if x=6 then(
 R (.bool (decide ((ishr .u64 wv 3)<65536))) H2)
 else
 if x=4 then(
 if ra=7 then(
 word_letter.C (ishr .u64 wv 8) H2 (λb H3=> ∃a:Bool,b=.bool a/\
 R (.bool a) H3))
 else
 R (.bool (decide ((ishr .u64 wv 3)<=6))) H2)
 else
 if x=5 then(
 R (.bool (((decide (ra>=1)) && (decide (ra<=13))) && (decide (rb<=62)))) H2)
 else
 R (.bool false) H2))
namespace word_May
theorem link{wv:Int}{H:Array Obj}{R:Value->Array Obj->Prop}(h:pt wv H R):C wv H R:=by
 refine T_en K0 49 Tryz.func81 ?_
 intro w0 Q hQ
 unfold pt at h
 refine T_su [(0,vu wv)]<| T_srz 0<| T_ed 1 [] []<| T_srz 1<| T_nd 1 [] [(7,vu wv)] ?_
 refine T_c (some 8) h ?_;clear h
 rintro v H1 ⟨ra,rb,rc,rfl,h⟩
 refine T_pd [7] [(8,.tuple #[vi ra,vi rb,vu rc])]<| T_ed 7 [8] [(3,vi ra),(4,vi rb)]<| T_sz<| T_srz 2<| T_nd 1 [] [(12,vu wv)] ?_
 refine T_c (some 13) h ?_;clear h
 rintro d H2 ⟨x,rfl,h⟩
 refine T_pd [12] [(13,vi x)]<| T_e<| T_bz 0<| T_sz<| T_bz 7<| T_sz<| T_bz 6<| T_sz<| T_bz 5 ?_
 refine T_bz 4<| T_bz 3<| T_bz 2<| T_sz<| T_bz 1<| T_sz<| T_sz<| T_srz 3<| T_ed 2 [] [(14,.bool (x==0))] ?_
 by_cases c1:x=0
 ·rw[if_pos c1]at h
  refine T_cTz 14 (beq_iff_eq.mpr c1) ?_
  refine S_exit 1 (by kernel_rfl) ?_
  refine S_exitThen ?_
  refine S_exitThen ?_
  refine S_exitHere ?_
  refine S_then ?_
  exact T_sz<| T_srz 10<| T_nr 1 [2] [.bool true] hQ h
 rw[if_neg c1]at h
 refine T_cFz 14 (beq_eq_false_iff_ne.mpr c1)<| T_kt<| T_sz<| T_srz 4<| T_ed 2 [14] [(16,.bool (x==1))] ?_
 by_cases c3:x=1
 ·rw[if_pos c3]at h
  refine T_cTz 16 (beq_iff_eq.mpr c3) ?_
  refine S_exit 2 (by kernel_rfl) ?_
  refine S_exitThen ?_
  refine S_exitThen ?_
  refine S_exitPast (by kernel_rfl) ?_
  refine S_exitThen ?_
  refine S_exitHere ?_
  refine S_blockEnd ?_
  refine S_blockEnd ?_
  refine S_blockEnd ?_
  refine S_then ?_
  exact T_sz<| T_srz 11<| T_nr 4 [2] [.bool (decide ((ishr .u64 wv 3)<65536))] hQ h
 rw[if_neg c3]at h
 refine T_cFz 16 (beq_eq_false_iff_ne.mpr c3)<| T_kt<| T_sz<| T_srz 5<| T_ed 2 [16] [(18,.bool (x==2))] ?_
 by_cases c5:x=2
 ·rw[if_pos c5]at h
  refine T_cTz 18 (beq_iff_eq.mpr c5) ?_
  refine S_exit 3 (by kernel_rfl) ?_
  refine S_exitThen ?_
  refine S_exitThen ?_
  refine S_exitPast (by kernel_rfl) ?_
  refine S_exitThen ?_
  refine S_exitPast (by kernel_rfl) ?_
  refine S_exitHere ?_
  refine S_blockEnd ?_
  refine S_blockEnd ?_
  refine S_then ?_
  exact T_sz<| T_srz 11<| T_nr 4 [2] [.bool (decide ((ishr .u64 wv 3)<65536))] hQ h
 rw[if_neg c5]at h
 refine T_cFz 18 (beq_eq_false_iff_ne.mpr c5)<| T_kt<| T_sz<| T_srz 6<| T_ed 2 [18] [(20,.bool (x==3))] ?_
 by_cases c7:x=3
 ·rw[if_pos c7]at h
  refine T_cTz 20 (beq_iff_eq.mpr c7) ?_
  refine S_exit 4 (by kernel_rfl) ?_
  refine S_exitThen ?_
  refine S_exitThen ?_
  refine S_exitPast (by kernel_rfl) ?_
  refine S_exitThen ?_
  refine S_exitPast (by kernel_rfl) ?_
  refine S_exitPast (by kernel_rfl) ?_
  refine S_exitHere ?_
  refine S_blockEnd ?_
  refine S_then ?_
  exact T_sz<| T_srz 11<| T_nr 4 [2] [.bool (decide ((ishr .u64 wv 3)<65536))] hQ h
 rw[if_neg c7]at h
 refine T_cFz 20 (beq_eq_false_iff_ne.mpr c7)<| T_kt<| T_sz<| T_srz 7<| T_ed 2 [20] [(22,.bool (x==6))] ?_
 by_cases c9:x=6
 ·rw[if_pos c9]at h
  refine T_cTz 22 (beq_iff_eq.mpr c9) ?_
  refine S_exit 5 (by kernel_rfl) ?_
  refine S_exitThen ?_
  refine S_exitThen ?_
  refine S_exitPast (by kernel_rfl) ?_
  refine S_exitThen ?_
  refine S_exitPast (by kernel_rfl) ?_
  refine S_exitPast (by kernel_rfl) ?_
  refine S_exitPast (by kernel_rfl) ?_
  refine S_exitHere ?_
  refine S_then ?_
  exact T_sz<| T_srz 11<| T_nr 4 [2] [.bool (decide ((ishr .u64 wv 3)<65536))] hQ h
 rw[if_neg c9]at h
 refine T_cFz 22 (beq_eq_false_iff_ne.mpr c9)<| T_kt<| T_sz<| T_srz 8<| T_ed 2 [22] [(24,.bool (x==4))] ?_
 by_cases c11:x=4
 ·rw[if_pos c11]at h
  refine T_cTz 24 (beq_iff_eq.mpr c11) ?_
  refine S_exit 6 (by kernel_rfl) ?_
  refine S_exitThen ?_
  refine S_exitThen ?_
  refine S_exitPast (by kernel_rfl) ?_
  refine S_exitThen ?_
  refine S_exitPast (by kernel_rfl) ?_
  refine S_exitPast (by kernel_rfl) ?_
  refine S_exitPast (by kernel_rfl) ?_
  refine S_exitPast (by kernel_rfl) ?_
  refine S_exitThen ?_
  refine S_exitHere ?_
  refine S_then ?_
  refine T_sz<| T_sz<| T_srz 12<| T_ne 2 [(0,vu wv),(32,.bool (ra==7))] ?_
  by_cases c13:ra=7
  ·rw[if_pos c13]at h
   refine T_cTz 32 (beq_iff_eq.mpr c13)<| T_srz 13<| T_n 2 [(34,vu (ishr .u64 wv 8))] ?_
   refine T_c (some 35) h ?_;clear h
   rintro b H3 ⟨a,rfl,h⟩
   refine⟨[(35,.bool a)],pk,?_⟩
   exact T_nr 1 [2] [.bool a] hQ h
  rw[if_neg c13]at h
  exact T_cFz 32 (beq_eq_false_iff_ne.mpr c13)<| T_kt<| T_srz 14<| T_nr 4 [2] [.bool (decide ((ishr .u64 wv 3)<=6))] hQ h
 rw[if_neg c11]at h
 refine T_cFz 24 (beq_eq_false_iff_ne.mpr c11)<| T_kt<| T_srz 9<| T_ed 2 [0,13,24] [(26,.bool (x==5))] ?_
 by_cases c15:x=5
 ·rw[if_pos c15]at h
  refine T_cTz 26 (beq_iff_eq.mpr c15) ?_
  refine S_exit 7 (by kernel_rfl) ?_
  refine S_exitThen ?_
  refine S_exitPast (by kernel_rfl) ?_
  refine S_exitThen ?_
  refine S_exitPast (by kernel_rfl) ?_
  refine S_exitPast (by kernel_rfl) ?_
  refine S_exitPast (by kernel_rfl) ?_
  refine S_exitPast (by kernel_rfl) ?_
  refine S_exitThen ?_
  refine S_exitPast (by kernel_rfl) ?_
  refine S_exitThen ?_
  refine S_exitHere ?_
  refine S_then ?_
  refine T_sz<| T_srz 15 ?_
  refine N_cut [(2,.bool (((decide (ra>=1)) && (decide (ra<=13))) && (decide (rb<=62))))] ?_ ?_
  ·refine S_then ?_
   exact T_ret [2] [.bool (((decide (ra>=1)) && (decide (ra<=13))) && (decide (rb<=62)))] hQ h
  intro hk
  refine T_n 3 [(3,vi ra),(4,vi rb),(41,.bool (decide (ra>=1)))] ?_
  by_cases c17:ra>=1
  ·have b18:(decide (ra>=1))=true:=decide_eq_true c17
   refine N_env [(3,vi ra),(4,vi rb),(41,.bool true)] (by rw[b18]) ?_
   refine T_nd 4 [3,41] [(45,.bool (decide (ra<=13)))] ?_
   by_cases c19:ra<=13
   ·have b20:(decide (ra<=13))=true:=decide_eq_true c19
    refine N_bd 45 b20<| T_n 4 [(2,.bool (decide (rb<=62)))] ?_
    refine N_end (by kernel_rfl) ?_
    refine S_env [(2,.bool (((decide (ra>=1)) && (decide (ra<=13))) && (decide (rb<=62))))] (by simp only[b18,b20,BL]) ?_
    exact hk
   have b20:(decide (ra<=13))=false:=decide_eq_false c19
   refine N_bd 45 b20<| T_n 4 [(2,.bool false)] ?_
   refine N_end (by kernel_rfl) ?_
   refine S_env [(2,.bool (((decide (ra>=1)) && (decide (ra<=13))) && (decide (rb<=62))))] (by simp only[b18,b20,BL]) ?_
   exact hk
  have b18:(decide (ra>=1))=false:=decide_eq_false c17
  refine N_env [(3,vi ra),(4,vi rb),(41,.bool false)] (by rw[b18]) ?_
  refine T_n 8 [(2,.bool false)] ?_
  refine N_end (by kernel_rfl) ?_
  refine S_env [(2,.bool (((decide (ra>=1)) && (decide (ra<=13))) && (decide (rb<=62))))] (by simp only[b18,BL]) ?_
  exact hk
 rw[if_neg c15]at h
 refine T_cFz 26 (beq_eq_false_iff_ne.mpr c15)<| T_kt ?_
 refine S_exit 0 (by kernel_rfl) ?_
 refine S_exitPast (by kernel_rfl) ?_
 refine S_exitThen ?_
 refine S_exitPast (by kernel_rfl) ?_
 refine S_exitPast (by kernel_rfl) ?_
 refine S_exitPast (by kernel_rfl) ?_
 refine S_exitPast (by kernel_rfl) ?_
 refine S_exitThen ?_
 refine S_exitPast (by kernel_rfl) ?_
 refine S_exitThen ?_
 refine S_exitPast (by kernel_rfl) ?_
 refine S_exitThen ?_
 refine S_exitHere ?_
 refine S_then ?_
 exact T_srz 16<| T_nr 1 [2] [.bool false] hQ h
end word_May

/-! moraine/word.Head -/
namespace word_Head
def K0:=Func.code Tryz.f91
end word_Head
def word_Head.pt(wv:Int)(H:Array Obj)(R:Value->Array Obj->Prop):Prop:=
 word_Tag.C wv H (λv H1=> ∃x:Int,v=.int .i64 x/\
 if x=5 then(
 word_May.C wv H1 (λd H2=> ∃a:Bool,d=.bool a/\
 if a=true then(
 word_parts.C wv H2 (λb H3=> ∃ra rb rc:Int,b=.tuple #[.int .i64 ra,.int .i64 rb,.int .u64 rc]/\
 R (.tuple #[.int .i64 ra,.int .i64 rb,.int .u64 rc,.bool true]) H3))
 else
 R (.tuple #[.int .i64 0,.int .i64 0,.int .u64 0,.bool false]) H2))
 else
 R (.tuple #[.int .i64 0,.int .i64 0,.int .u64 0,.bool false]) H1)
namespace word_Head
theorem link{wv:Int}{H:Array Obj}{R:Value->Array Obj->Prop}(h:pt wv H R):C wv H R:=by
 refine T_en K0 23 Tryz.func91 ?_
 intro w0 Q hQ
 unfold pt at h
 refine T_su [(0,vu wv)]<| T_srz 0<| T_ed 4 [] []<| T_sz<| T_srz 1<| T_nd 1 [] [(6,vu wv)] ?_
 refine T_c (some 7) h ?_;clear h
 rintro v H1 ⟨x,rfl,h⟩
 refine T_pd [6] [(7,vi x)]<| T_nd 2 [7] [(9,.bool (x !=5))] ?_
 by_cases c1:x=5
 ·rw[if_pos c1]at h
  refine N_bd 9 (bne_eq_false_iff_eq.mpr c1)<| T_nd 1 [] [(10,vu wv)] ?_
  refine T_c (some 11) h ?_;clear h
  rintro d H2 ⟨a,rfl,h⟩
  refine T_pd [10] [(11,.bool a)]<| T_ed 2 [9,11] [(13,.bool (!a))] ?_
  by_cases c3:a=true
  ·rw[if_pos c3]at h
   refine T_cFz 13 (congrArg Bool.not (c3))<| T_kt<| T_srz 3<| T_n 1 [(15,vu wv)] ?_
   refine T_c (some 16) h ?_;clear h
   rintro b H3 ⟨ra,rb,rc,rfl,h⟩
   refine⟨[(16,.tuple #[vi ra,vi rb,vu rc])],pk,?_⟩
   exact T_ne 7 [(2,vi ra),(3,vi rb),(4,vu rc)]<| T_srz 4<| T_nr 7 [2,3,4,5] [vi ra,vi rb,vu rc,.bool true] hQ h
  rw[if_neg c3]at h
  exact T_cTz 13 (congrArg Bool.not (eq_false_of_ne_true c3))<| T_srz 2<| T_nr 4 [2,3,4,5] [vi 0,vi 0,vu 0,.bool false] hQ h
 rw[if_neg c1]at h
 exact N_bd 9 (bne_iff_ne.mpr c1)<| T_ed 4 [9] [(13,.bool true)]<| T_tz 13<| T_srz 2<| T_nr 4 [2,3,4,5] [vi 0,vi 0,vu 0,.bool false] hQ h
end word_Head

/-! moraine/word.parts -/
namespace word_parts
def K0:=Func.code Tryz.f114
end word_parts
def word_parts.pt(wv:Int)(H:Array Obj)(R:Value->Array Obj->Prop):Prop:=
 ∀(b:Nat) (H1:Array Obj),b=H.size->H1=H.push (.cells #[.int .u64 wv] 24)->
 word_parts_1.C 3 5 (some (ad b)) H1 (λv H2=> ∃x:Int,v=.int .u64 x/\
 word_parts_1.C 8 8 (some (ad b)) H2 (λf H3=> ∃a:Int,f=.int .u64 a/\
 word_parts_1.C 16 48 (some (ad b)) H3 (λe H4=> ∃d:Int,e=.int .u64 d/\
 R (.tuple #[.int .i64 (IntKind.wrap .i64 x),.int .i64 (IntKind.wrap .i64 a),.int .u64 d]) H4)))
namespace word_parts
theorem link{wv:Int}{H:Array Obj}{R:Value->Array Obj->Prop}(h:pt wv H R):C wv H R:=by
 refine T_en K0 15 Tryz.func114 ?_
 intro w0 Q hQ
 unfold pt at h
 refine T_su [(0,vu wv)]<| T_srz 0<| T_nw (some 1) (λb=>vp (pa b)) (.cells #[vu wv] 24) ?_
 intro b H1 e1 e2
 replace h:=h b H1 e1 e2
 refine⟨[(1,vp (pa b))],pk,?_⟩
 refine T_ed 3 [] []<| T_srz 1<| T_ne 2 [(5,.func (.func 133) #[] #[vp (pa b)])]<| T_srz 2<| T_nd 1 [] [(7,.func (.func 133) #[] #[vp (pa b)])] ?_
 refine T_c (some 8) h ?_;clear h
 rintro v H2 ⟨x,rfl,h⟩
 refine T_pd [7] [(8,vu x)]<| T_nd 2 [8] [(9,vi (IntKind.wrap .i64 x)),(10,.func (.func 133) #[] #[vp (pa b)])] ?_
 refine T_c (some 11) h ?_;clear h
 rintro f H3 ⟨a,rfl,h⟩
 refine T_pd [10] [(11,vu a)]<| T_nd 2 [5,11] [(12,vi (IntKind.wrap .i64 a)),(13,.func (.func 133) #[] #[vp (pa b)])] ?_
 refine T_c (some 14) h ?_;clear h
 rintro e H4 ⟨d,rfl,h⟩
 exact T_pd [13] [(14,vu d)]<| T_nr 3 [2,3,4] [vi (IntKind.wrap .i64 x),vi (IntKind.wrap .i64 a),vu d] hQ h
end word_parts

/-! moraine/word.letter -/
namespace word_letter
def K0:=Func.code Tryz.f115
end word_letter
def word_letter.pt(c:Int)(H:Array Obj)(R:Value->Array Obj->Prop):Prop:=
 R (.bool ((decide (c<=1114111)) && ((decide (c<55296)) || (decide (c>57343))))) H
namespace word_letter
theorem link{c:Int}{H:Array Obj}{R:Value->Array Obj->Prop}(h:pt c H R):C c H R:=by
 refine T_en K0 13 Tryz.func115 ?_
 intro w0 Q hQ
 unfold pt at h
 refine T_su [(0,vu c)]<| T_srz 0<| T_ed 1 [] []<| T_srz 1 ?_
 refine N_cut [(2,.bool ((decide (c<=1114111)) && ((decide (c<55296)) || (decide (c>57343)))))] ?_ ?_
 ·refine S_then ?_
  exact T_ret [2] [.bool ((decide (c<=1114111)) && ((decide (c<55296)) || (decide (c>57343))))] hQ h
 intro hk
 refine T_n 3 [(0,vu c),(5,.bool (decide (c<=1114111)))] ?_
 by_cases c1:c<=1114111
 ·have b2:(decide (c<=1114111))=true:=decide_eq_true c1
  refine N_env [(0,vu c),(5,.bool true)] (by rw[b2]) ?_
  refine T_nd 3 [] [(8,.bool (decide (c<55296)))] ?_
  by_cases c3:c<55296
  ·have b4:(decide (c<55296))=true:=decide_eq_true c3
   refine N_bd 8 b4<| T_n 5 [(2,.bool true)] ?_
   refine N_end (by kernel_rfl) ?_
   refine S_env [(2,.bool ((decide (c<=1114111)) && ((decide (c<55296)) || (decide (c>57343)))))] (by simp only[b2,b4,BL]) ?_
   exact hk
  have b4:(decide (c<55296))=false:=decide_eq_false c3
  refine N_bd 8 b4<| T_n 5 [(2,.bool (decide (c>57343)))] ?_
  refine N_end (by kernel_rfl) ?_
  refine S_env [(2,.bool ((decide (c<=1114111)) && ((decide (c<55296)) || (decide (c>57343)))))] (by simp only[b2,b4,BL]) ?_
  exact hk
 have b2:(decide (c<=1114111))=false:=decide_eq_false c1
 refine N_env [(0,vu c),(5,.bool false)] (by rw[b2]) ?_
 refine T_n 8 [(2,.bool false)] ?_
 refine N_end (by kernel_rfl) ?_
 refine S_env [(2,.bool ((decide (c<=1114111)) && ((decide (c<55296)) || (decide (c>57343)))))] (by simp only[b2,BL]) ?_
 exact hk
end word_letter

/-! moraine/word.Header -/
namespace word_parts_1
def K0:=Func.code Tryz.f133
end word_parts_1
def word_parts_1.pt(a b:Int)(d:Option Addr)(H:Array Obj)(R:Value->Array Obj->Prop):Prop:=
 ∃e:Addr,d=some e/\
 ∃x:Int,hat H e=some (.int .u64 x)/\
 (0<=a)/\
 (0<=b)/\
 R (.int .u64 (iand .u64 (ishr .u64 x a) (IntKind.wrap .u64 ((ishl .u64 1 b)-1)))) H
namespace word_parts_1
theorem link{a b:Int}{d:Option Addr}{H:Array Obj}{R:Value->Array Obj->Prop}(h:pt a b d H R):C a b d H R:=by
 refine T_en K0 13 Tryz.func133 ?_
 intro w0 Q hQ
 unfold pt at h
 refine T_su [(0,vi a),(1,vi b),(2,vp d)]<| T_srz 0<| T_ed 1 [] []<| T_sz<| T_rqz 1 ?_
 obtain⟨e,rfl,h⟩:=h
 obtain⟨x,q1,h⟩:=h
 refine T_qld (some 6) 24 q1 [2] [(6,vu x)]<| T_q1 7 (vi a) [0] ?_
 obtain⟨q2,h⟩:=h
 refine Q_op (some 8) (binN .shr 23 (vu x) (vi a)) (vu (ishr .u64 x a)) (λ_=>by kernel_rfl) (λw _=>shr_run (P:=Tryz.prog) (t:=23) (k:=.u64) (k':=.i64) (x:=x) (y:=a) q2 w) [(1,vi b),(8,vu (ishr .u64 x a))] pk ?_
 refine T_q (some 9) (vi b) [(8,vu (ishr .u64 x a)),(9,vi b)] ?_
 obtain⟨q3,h⟩:=h
 refine Q_op (some 10) (binN .shl 23 (vu 1) (vi b)) (vu (ishl .u64 1 b)) (λ_=>by kernel_rfl) (λw _=>shl_run (P:=Tryz.prog) (t:=23) (k:=.u64) (k':=.i64) (x:=1) (y:=b) q3 w) [(8,vu (ishr .u64 x a)),(10,vu (ishl .u64 1 b))] pk ?_
 refine T_q (some 11) (vu (IntKind.wrap .u64 ((ishl .u64 1 b)-1))) [(8,vu (ishr .u64 x a)),(11,vu (IntKind.wrap .u64 ((ishl .u64 1 b)-1)))]<| T_q1 12 (vu (iand .u64 (ishr .u64 x a) (IntKind.wrap .u64 ((ishl .u64 1 b)-1)))) [8,11]<| T_q1 5 (vu (iand .u64 (ishr .u64 x a) (IntKind.wrap .u64 ((ishl .u64 1 b)-1)))) [12] ?_
 refine Q_sub [(5,vu (iand .u64 (ishr .u64 x a) (IntKind.wrap .u64 ((ishl .u64 1 b)-1))))] sk ?_
 exact T_qe<| T_ret [5] [vu (iand .u64 (ishr .u64 x a) (IntKind.wrap .u64 ((ishl .u64 1 b)-1)))] hQ h
end word_parts_1

/-! (*moraine/space.Space).none -/
namespace space_Space_none
def K0:=Func.code Tryz.f37
end space_Space_none
def space_Space_none.pt(s:Option Addr)(H:Array Obj)(R:Value->Array Obj->Prop):Prop:=
 onPtr s (
 R (.bool true) H) (λsA=>
 ∃x:Option Addr,hat H sA=some (.pointer x)/\
 onPtr x (
 R (.bool true) H) (λxA=>
 R (.bool false) H))
namespace space_Space_none
theorem link{s:Option Addr}{H:Array Obj}{R:Value->Array Obj->Prop}(h:pt s H R):C s H R:=by
 refine T_en K0 12 Tryz.func37 ?_
 intro w0 Q hQ
 unfold pt at h
 refine T_su [(0,vp s)]<| T_srz 0<| T_ed 1 [] []<| T_srz 1<| T_nd 1 [] [(3,vp s)] ?_
 rcases s with _ | sA
 ·rw[onPtr_none]at h
  exact T_nr 9 [2] [.bool true] hQ h
 rw[onPtr_some]at h
 refine T_n 5 [(5,.bool false),(8,vp (some sA))] ?_
 obtain⟨x,q1,h⟩:=h
 refine T_l1 9 69 q1 [8] ?_
 rcases x with _ | xA
 ·rw[onPtr_none]at h
  exact T_nr 3 [2] [.bool true] hQ h
 rw[onPtr_some]at h
 exact T_nr 3 [2] [.bool false] hQ h
end space_Space_none

/-! (*moraine/space.Space).Alloc -/
namespace space_Space_Alloc
def K0:=Func.code Tryz.f66
end space_Space_Alloc
def space_Space_Alloc.pt(s:Option Addr)(d b nv:Int)(H:Array Obj)(R:Value->Array Obj->Prop):Prop:=
 space_Space_none.C s H (λv H1=> ∃x:Bool,v=.bool x/\
 if x=true then(
 R (.tuple #[.int .i64 0,.int .i64 1]) H1)
 else
 space_may.C d b nv H1 (λaa H2=> ∃m:Bool,aa=.bool m/\
 if m=true then(
 space_Space_Current.C s d b H2 (λz H3=> ∃(ra:Int) (rb:Bool),z=.tuple #[.int .i64 ra,.bool rb]/\
 ∃J:Array Obj->Prop,(
 if rb=true then(
 ∃g:Addr,s=some g/\
 ∃r:Option Addr,hat H3 g=some (.pointer r)/\
 seg_Mem_Bump.C r ra nv H3 (λac H8=> ∃j l:Int,ac=.tuple #[.int .i64 j,.int .i64 l]/\
 if l=0 then(
 R (.tuple #[.int .i64 j,.int .i64 0]) H8)
 else
 J H8))
 else
 J H3)/\ ∀(H4:Array Obj),J H4->
 ∃sA:Addr,s=some sA/\
 ∃q:Option Addr,hat H4 sA=some (.pointer q)/\
 seg_Mem_Take.C q d b H4 (λab H5=> ∃e f:Int,ab=.tuple #[.int .i64 e,.int .i64 f]/\
 if f=0 then(
 ((0:Int)<=d/\d< (5:Int))/\
 ((0:Int)<=b/\b< (4:Int))/\
 (CanPuts H5 (((sA.add 1).add (Int.toNat d*4)).add (Int.toNat b*1)) 0 1)/\ ∀H6,H6=hputs H5 (((sA.add 1).add (Int.toNat d*4)).add (Int.toNat b*1)) [.int .i64 (IntKind.wrap .i64 (e+1))] 0->
 ∃u:Option Addr,hat H6 sA=some (.pointer u)/\
 seg_Mem_Bump.C u e nv H6 (λy H7=> ∃p o:Int,y=.tuple #[.int .i64 p,.int .i64 o]/\
 R (.tuple #[.int .i64 p,.int .i64 o]) H7))
 else
 R (.tuple #[.int .i64 0,.int .i64 f]) H5)))
 else
 R (.tuple #[.int .i64 0,.int .i64 1]) H2))
namespace space_Space_Alloc
theorem link{s:Option Addr}{d b nv:Int}{H:Array Obj}{R:Value->Array Obj->Prop}(h:pt s d b nv H R):C s d b nv H R:=by
 refine T_en K0 77 Tryz.func66 ?_
 intro w0 Q hQ
 unfold pt at h
 refine T_su [(0,vp s),(1,vi d),(2,vi b),(3,vi nv)]<| T_srz 0<| T_ed 2 [] []<| T_sz<| T_srz 1<| T_nd 1 [] [(16,vp s)] ?_
 refine T_c (some 17) h ?_;clear h
 rintro v H1 ⟨x,rfl,h⟩
 refine T_pd [16] [(17,.bool x)]<| T_nd 1 [17] [(18,.bool x)] ?_
 by_cases c1:x=true
 ·rw[if_pos c1]at h
  exact N_bd 18 c1<| T_ed 6 [18] [(24,.bool true)]<| T_tz 24<| T_srz 2<| T_nr 2 [8,9] [vi 0,vi 1] hQ h
 rw[if_neg c1]at h
 refine N_bd 18 (eq_false_of_ne_true c1)<| T_nd 3 [] [(19,vi d),(20,vi b),(21,vi nv)] ?_
 refine T_c (some 22) h ?_;clear h
 rintro aa H2 ⟨m,rfl,h⟩
 refine T_pd [19,20,21] [(22,.bool m)]<| T_ed 2 [18,22] [(24,.bool (!m))] ?_
 by_cases c3:m=true
 ·rw[if_pos c3]at h
  refine T_cFz 24 (congrArg Bool.not (c3))<| T_kt<| T_sz<| T_srz 3<| T_nd 3 [24] [(26,vp s),(27,vi d),(28,vi b)] ?_
  refine T_c (some 29) h ?_;clear h
  rintro z H3 ⟨ra,rb,rfl,h⟩
  refine T_pd [26,27,28] [(29,.tuple #[vi ra,.bool rb])]<| T_ed 5 [29] [(10,vi ra),(11,.bool rb)]<| T_srz 4<| T_ne 1 [(0,vp s),(1,vi d),(2,vi b),(3,vi nv),(10,vi ra),(32,.bool rb)] ?_
  obtain⟨J,h,j6⟩:=h
  refine S_join (σ:=Unit) (λs_=> [(0,vp s),(1,vi d),(2,vi b),(3,vi nv)]) (λs_ H=>J H) ?_ ?_
  ·rintro _ H4 j7
   replace h:=j6 H4 j7
   refine T_su [(0,vp s),(1,vi d),(2,vi b),(3,vi nv)] ?_
   refine S_then ?_
   refine T_srz 8<| T_nd 1 [] [(47,vp s)] ?_
   obtain⟨sA,rfl,h⟩:=h
   refine T_nd 2 [0,47] [(0,vp (some sA)),(49,vp (some sA))] ?_
   obtain⟨q,q8,h⟩:=h
   refine T_l1 50 69 q8 [49]<| T_nd 2 [] [(51,vi d),(52,vi b)] ?_
   refine T_c (some 53) h ?_;clear h
   rintro ab H5 ⟨e,f,rfl,h⟩
   refine T_pd [50,51,52] [(53,.tuple #[vi e,vi f])]<| T_ed 5 [53] [(14,vi e),(15,vi f)]<| T_sz<| T_srz 9<| T_ed 2 [] [(57,.bool (f !=0))] ?_
   by_cases c9:f=0
   ·rw[if_pos c9]at h
    refine T_cFz 57 (bne_eq_false_iff_eq.mpr c9)<| T_kt<| T_srz 11<| T_nd 7 [1,2,15,57] [(60,vi d),(61,vi b),(63,vi (IntKind.wrap .i64 (e+1))),(65,vp (some (sA.add 1)))] ?_
    obtain⟨q11,h⟩:=h
    refine T_v1 66 (indexAtN 71 (vp (some (sA.add 1))) (vi d)) (vp (some ((sA.add 1).add (Int.toNat d*4)))) (λw _=>indexArr_run (P:=Tryz.prog) (t:=71) (elem:=70) (sz:=4) (n:=5) (a:=(sA.add 1)) (k:=.i64) (i:=d) Tryz.underlying71 (λ_=>by kernel_rfl) q11.1 q11.2 w) [60,65] ?_
    obtain⟨q12,h⟩:=h
    refine T_v1 67 (indexAtN 70 (vp (some ((sA.add 1).add (Int.toNat d*4)))) (vi b)) (vp (some (((sA.add 1).add (Int.toNat d*4)).add (Int.toNat b*1)))) (λw _=>indexArr_run (P:=Tryz.prog) (t:=70) (elem:=3) (sz:=1) (n:=4) (a:=((sA.add 1).add (Int.toNat d*4))) (k:=.i64) (i:=b) Tryz.underlying70 (λ_=>by kernel_rfl) q12.1 q12.2 w) [61,66] ?_
    obtain⟨q14,h⟩:=h
    refine T_st1 3 (vi (IntKind.wrap .i64 (e+1))) q14 ?_
    intro H6 e13
    replace h:=h H6 e13
    refine T_pd [63,67] []<| T_e<| T_srz 12<| T_nd 3 [0] [(70,vp (some sA))] ?_
    obtain⟨u,q15,h⟩:=h
    refine T_l1 71 69 q15 [70]<| T_nd 2 [3,14] [(72,vi e),(73,vi nv)] ?_
    refine T_c (some 74) h ?_;clear h
    rintro y H7 ⟨p,o,rfl,h⟩
    refine⟨[(74,.tuple #[vi p,vi o])],pk,?_⟩
    exact T_nr 4 [8,9] [vi p,vi o] hQ h
   rw[if_neg c9]at h
   exact T_cTz 57 (bne_iff_ne.mpr c9)<| T_srz 10<| T_nr 3 [8,9] [vi 0,vi f] hQ h
  by_cases c16:rb=true
  ·rw[if_pos c16]at h
   have b17:rb=true:=c16
   refine S_env [(0,vp s),(1,vi d),(2,vi b),(3,vi nv),(10,vi ra),(32,.bool true)] (by simp only[b17,Bool.not_true,Bool.not_false]) ?_
   clear b17
   refine T_tz 32<| T_srz 5<| T_nd 1 [32] [(34,vp s)] ?_
   obtain⟨g,rfl,h⟩:=h
   refine T_nd 2 [0,34] [(0,vp (some g)),(36,vp (some g))] ?_
   obtain⟨r,q18,h⟩:=h
   refine T_l1 37 69 q18 [36]<| T_nd 2 [10] [(38,vi ra),(39,vi nv)] ?_
   refine T_c (some 40) h ?_;clear h
   rintro ac H8 ⟨j,l,rfl,h⟩
   refine T_pd [37,38,39] [(40,.tuple #[vi j,vi l])]<| T_ed 5 [40] [(12,vi j),(13,vi l)]<| T_srz 6<| T_ed 2 [13] [(44,.bool (l==0))] ?_
   by_cases c19:l=0
   ·rw[if_pos c19]at h
    exact T_cTz 44 (beq_iff_eq.mpr c19)<| T_srz 7<| T_nr 3 [8,9] [vi j,vi 0] hQ h
   rw[if_neg c19]at h
   refine T_cFz 44 (beq_eq_false_iff_ne.mpr c19)<| T_kt ?_
   exact S_meet (():Unit) sk h
  rw[if_neg c16]at h
  have b17:rb=false:=eq_false_of_ne_true c16
  refine S_env [(0,vp s),(1,vi d),(2,vi b),(3,vi nv),(10,vi ra),(32,.bool false)] (by simp only[b17,Bool.not_true,Bool.not_false]) ?_
  clear b17
  refine T_fz 32<| T_kt ?_
  exact S_meet (():Unit) sk h
 rw[if_neg c3]at h
 exact T_cTz 24 (congrArg Bool.not (eq_false_of_ne_true c3))<| T_srz 2<| T_nr 2 [8,9] [vi 0,vi 1] hQ h
end space_Space_Alloc

/-! moraine/space.New -/
namespace space_New
def K0:=Func.code Tryz.f78
end space_New
def space_New.pt(a:Int)(H:Array Obj)(R:Value->Array Obj->Prop):Prop:=
 seg_New.C a H (λv H1=> ∃(ra:Option Addr) (rb:Int),v=.tuple #[.pointer ra,.int .i64 rb]/\
 if rb=0 then(
 ∀(b:Nat) (H2:Array Obj),b=H1.size->H2=H1.push (.cells #[.pointer ra,.int .i64 0,.int .i64 0,.int .i64 0,.int .i64 0,.int .i64 0,.int .i64 0,.int .i64 0,.int .i64 0,.int .i64 0,.int .i64 0,.int .i64 0,.int .i64 0,.int .i64 0,.int .i64 0,.int .i64 0,.int .i64 0,.int .i64 0,.int .i64 0,.int .i64 0,.int .i64 0] 73)->
 R (.tuple #[.pointer (some (ad b)),.int .i64 0]) H2)
 else
 R (.tuple #[.pointer none,.int .i64 rb]) H1)
namespace space_New
theorem link{a:Int}{H:Array Obj}{R:Value->Array Obj->Prop}(h:pt a H R):C a H R:=by
 refine T_en K0 17 Tryz.func78 ?_
 intro w0 Q hQ
 unfold pt at h
 refine T_su [(0,vi a)]<| T_srz 0<| T_ed 2 [] []<| T_srz 1<| T_n 1 [(7,vi a)] ?_
 refine T_c (some 8) h ?_;clear h
 rintro v H1 ⟨ra,rb,rfl,h⟩
 refine⟨[(8,.tuple #[vp ra,vi rb])],pk,?_⟩
 refine T_ne 5 [(4,vp ra),(5,vi rb)]<| T_sz<| T_srz 2<| T_ed 2 [] [(12,.bool (rb !=0))] ?_
 by_cases c1:rb=0
 ·rw[if_pos c1]at h
  refine T_cFz 12 (bne_eq_false_iff_eq.mpr c1)<| T_kt<| T_srz 4<| T_n 2 [(15,.agg #[vp ra,vi 0,vi 0,vi 0,vi 0,vi 0,vi 0,vi 0,vi 0,vi 0,vi 0,vi 0,vi 0,vi 0,vi 0,vi 0,vi 0,vi 0,vi 0,vi 0,vi 0])]<| T_nw (some 16) (λb=>vp (pa b)) (.cells #[vp ra,vi 0,vi 0,vi 0,vi 0,vi 0,vi 0,vi 0,vi 0,vi 0,vi 0,vi 0,vi 0,vi 0,vi 0,vi 0,vi 0,vi 0,vi 0,vi 0,vi 0] 73) ?_
  intro b H2 e3 e4
  replace h:=h b H2 e3 e4
  refine⟨[(16,vp (pa b))],pk,?_⟩
  exact T_nr 2 [2,3] [vp (pa b),vi 0] hQ h
 rw[if_neg c1]at h
 exact T_cTz 12 (bne_iff_ne.mpr c1)<| T_srz 3<| T_nr 3 [2,3] [vp none,vi rb] hQ h
end space_New

/-! moraine/space.may -/
namespace space_may
def K0:=Func.code Tryz.f101
end space_may
def space_may.pt(b a nv:Int)(H:Array Obj)(R:Value->Array Obj->Prop):Prop:=
 if((decide (b<0)) || (decide (b>4)))=true then(
 R (.bool false) H)
 else
 if((a==0) || (a==1))=true then(
 R (.bool (nv==2)) H)
 else
 R (.bool ((((a==2) || (a==3)) && (decide (nv>=1))) && (decide (nv<=63)))) H
namespace space_may
theorem link{b a nv:Int}{H:Array Obj}{R:Value->Array Obj->Prop}(h:pt b a nv H R):C b a nv H R:=by
 refine T_en K0 37 Tryz.func101 ?_
 intro w0 Q hQ
 unfold pt at h
 refine T_su [(0,vi b),(1,vi a),(2,vi nv)]<| T_srz 0<| T_ed 1 [] []<| T_sz<| T_bz 0<| T_srz 1 ?_
 refine N_cut [(1,vi a),(2,vi nv),(7,.bool ((decide (b<0)) || (decide (b>4))))] ?_ ?_
 ·refine S_then ?_
  by_cases c3:((decide (b<0)) || (decide (b>4)))=true
  ·rw[if_pos c3]at h
   exact T_cTz 7 c3<| T_srz 2<| T_nr 1 [6] [.bool false] hQ h
  rw[if_neg c3]at h
  refine T_cFz 7 (eq_false_of_ne_true c3)<| T_srz 3 ?_
  refine N_cut [(1,vi a),(2,vi nv),(14,.bool ((a==0) || (a==1)))] ?_ ?_
  ·refine S_then ?_
   by_cases c7:((a==0) || (a==1))=true
   ·rw[if_pos c7]at h
    exact T_cTz 14 c7<| T_srz 4<| T_nr 3 [6] [.bool (nv==2)] hQ h
   rw[if_neg c7]at h
   refine T_cFz 14 (eq_false_of_ne_true c7)<| T_k ?_
   refine S_blockEnd ?_
   refine S_then ?_
   refine T_srz 5 ?_
   refine N_cut [(6,.bool ((((a==2) || (a==3)) && (decide (nv>=1))) && (decide (nv<=63))))] ?_ ?_
   ·refine S_then ?_
    exact T_ret [6] [.bool ((((a==2) || (a==3)) && (decide (nv>=1))) && (decide (nv<=63)))] hQ h
   intro hk
   refine T_n 3 [(1,vi a),(2,vi nv),(25,.bool (a==2))] ?_
   by_cases c9:a=2
   ·have b10:(a==2)=true:=beq_iff_eq.mpr c9
    refine N_env [(1,vi a),(2,vi nv),(25,.bool true)] (by rw[b10]) ?_
    refine T_nd 8 [1,25] [(33,.bool (decide (nv>=1)))] ?_
    by_cases c11:nv>=1
    ·have b12:(decide (nv>=1))=true:=decide_eq_true c11
     refine N_bd 33 b12<| T_n 4 [(6,.bool (decide (nv<=63)))] ?_
     refine N_end (by kernel_rfl) ?_
     refine S_env [(6,.bool ((((a==2) || (a==3)) && (decide (nv>=1))) && (decide (nv<=63))))] (by simp only[b10,b12,BL]) ?_
     exact hk
    have b12:(decide (nv>=1))=false:=decide_eq_false c11
    refine N_bd 33 b12<| T_n 4 [(6,.bool false)] ?_
    refine N_end (by kernel_rfl) ?_
    refine S_env [(6,.bool ((((a==2) || (a==3)) && (decide (nv>=1))) && (decide (nv<=63))))] (by simp only[b10,b12,BL]) ?_
    exact hk
   have b10:(a==2)=false:=beq_eq_false_iff_ne.mpr c9
   refine N_env [(1,vi a),(2,vi nv),(25,.bool false)] (by rw[b10]) ?_
   refine T_nd 4 [1,25] [(29,.bool (a==3))] ?_
   by_cases c13:a=3
   ·have b14:(a==3)=true:=beq_iff_eq.mpr c13
    refine N_bd 29 b14<| T_nd 4 [29] [(33,.bool (decide (nv>=1)))] ?_
    by_cases c15:nv>=1
    ·have b16:(decide (nv>=1))=true:=decide_eq_true c15
     refine N_bd 33 b16<| T_n 4 [(6,.bool (decide (nv<=63)))] ?_
     refine N_end (by kernel_rfl) ?_
     refine S_env [(6,.bool ((((a==2) || (a==3)) && (decide (nv>=1))) && (decide (nv<=63))))] (by simp only[b10,b14,b16,BL]) ?_
     exact hk
    have b16:(decide (nv>=1))=false:=decide_eq_false c15
    refine N_bd 33 b16<| T_n 4 [(6,.bool false)] ?_
    refine N_end (by kernel_rfl) ?_
    refine S_env [(6,.bool ((((a==2) || (a==3)) && (decide (nv>=1))) && (decide (nv<=63))))] (by simp only[b10,b14,b16,BL]) ?_
    exact hk
   have b14:(a==3)=false:=beq_eq_false_iff_ne.mpr c13
   refine N_bd 29 b14<| T_n 8 [(6,.bool false)] ?_
   refine N_end (by kernel_rfl) ?_
   refine S_env [(6,.bool ((((a==2) || (a==3)) && (decide (nv>=1))) && (decide (nv<=63))))] (by simp only[b10,b14,BL]) ?_
   exact hk
  intro hk
  refine T_n 3 [(1,vi a),(2,vi nv),(17,.bool (a==0))] ?_
  by_cases c5:a=0
  ·have b6:(a==0)=true:=beq_iff_eq.mpr c5
   refine N_env [(1,vi a),(2,vi nv),(17,.bool true)] (by rw[b6]) ?_
   refine T_nd 4 [17] [(14,.bool true)] ?_
   refine N_end (by kernel_rfl) ?_
   refine S_bd 14 (b:=true) (v:=((a==0) || (a==1))) (by simp only[b6,BL]) ?_
   exact hk
  have b6:(a==0)=false:=beq_eq_false_iff_ne.mpr c5
  refine N_env [(1,vi a),(2,vi nv),(17,.bool false)] (by rw[b6]) ?_
  refine T_nd 4 [17] [(14,.bool (a==1))] ?_
  refine N_end (by kernel_rfl) ?_
  refine S_bd 14 (b:=(a==1)) (v:=((a==0) || (a==1))) (by simp only[b6,BL]) ?_
  exact hk
 intro hk
 refine T_n 3 [(0,vi b),(1,vi a),(2,vi nv),(10,.bool (decide (b<0)))] ?_
 by_cases c1:b<0
 ·have b2:(decide (b<0))=true:=decide_eq_true c1
  refine N_env [(0,vi b),(1,vi a),(2,vi nv),(10,.bool true)] (by rw[b2]) ?_
  refine T_nd 4 [0,10] [(7,.bool true)] ?_
  refine N_end (by kernel_rfl) ?_
  refine S_bd 7 (b:=true) (v:=((decide (b<0)) || (decide (b>4)))) (by simp only[b2,BL]) ?_
  exact hk
 have b2:(decide (b<0))=false:=decide_eq_false c1
 refine N_env [(0,vi b),(1,vi a),(2,vi nv),(10,.bool false)] (by rw[b2]) ?_
 refine T_nd 4 [0,10] [(7,.bool (decide (b>4)))] ?_
 refine N_end (by kernel_rfl) ?_
 refine S_bd 7 (b:=(decide (b>4))) (v:=((decide (b<0)) || (decide (b>4)))) (by simp only[b2,BL]) ?_
 exact hk
end space_may

/-! (*moraine/space.Space).Current -/
namespace space_Space_Current
def K0:=Func.code Tryz.f102
end space_Space_Current
def space_Space_Current.pt(s:Option Addr)(d b:Int)(H:Array Obj)(R:Value->Array Obj->Prop):Prop:=
 onPtr s (
 R (.tuple #[.int .i64 0,.bool false]) H) (λsA=>
 if d<0 then(
 R (.tuple #[.int .i64 0,.bool false]) H)
 else
 if d>4 then(
 R (.tuple #[.int .i64 0,.bool false]) H)
 else
 if b<0 then(
 R (.tuple #[.int .i64 0,.bool false]) H)
 else
 if b>3 then(
 R (.tuple #[.int .i64 0,.bool false]) H)
 else
 ((0:Int)<=d/\d< (5:Int))/\
 ((0:Int)<=b/\b< (4:Int))/\
 ∃x:Int,hat H (((sA.add 1).add (Int.toNat d*4)).add (Int.toNat b*1))=some (.int .i64 x)/\
 if x=0 then(
 R (.tuple #[.int .i64 0,.bool false]) H)
 else
 ((0:Int)<=d/\d< (5:Int))/\
 ((0:Int)<=b/\b< (4:Int))/\
 ∃e:Int,hat H (((sA.add 1).add (Int.toNat d*4)).add (Int.toNat b*1))=some (.int .i64 e)/\
 R (.tuple #[.int .i64 (IntKind.wrap .i64 (e-1)),.bool true]) H)
namespace space_Space_Current
theorem link{s:Option Addr}{d b:Int}{H:Array Obj}{R:Value->Array Obj->Prop}(h:pt s d b H R):C s d b H R:=by
 refine T_en K0 46 Tryz.func102 ?_
 intro w0 Q hQ
 unfold pt at h
 refine T_su [(0,vp s),(1,vi d),(2,vi b)]<| T_srz 0<| T_ed 2 [] []<| T_sz<| T_srz 1<| T_nd 1 [] [(8,vp s)] ?_
 rcases s with _ | sA
 ·rw[onPtr_none]at h
  exact T_ed 28 [0,8] [(0,vp none),(36,.bool true)]<| T_tz 36<| T_srz 2<| T_nr 2 [6,7] [vi 0,.bool false] hQ h
 rw[onPtr_some]at h
 refine T_nd 6 [0,8] [(0,vp (some sA)),(14,.bool (decide (d<0)))] ?_
 by_cases c1:d<0
 ·rw[if_pos c1]at h
  exact N_bd 14 (decide_eq_true c1)<| T_ed 22 [14] [(36,.bool true)]<| T_tz 36<| T_srz 2<| T_nr 2 [6,7] [vi 0,.bool false] hQ h
 rw[if_neg c1]at h
 refine N_bd 14 (decide_eq_false c1)<| T_nd 4 [14] [(18,.bool (decide (d>4)))] ?_
 by_cases c3:d>4
 ·rw[if_pos c3]at h
  exact N_bd 18 (decide_eq_true c3)<| T_ed 18 [18] [(36,.bool true)]<| T_tz 36<| T_srz 2<| T_nr 2 [6,7] [vi 0,.bool false] hQ h
 rw[if_neg c3]at h
 refine N_bd 18 (decide_eq_false c3)<| T_nd 4 [18] [(22,.bool (decide (b<0)))] ?_
 by_cases c5:b<0
 ·rw[if_pos c5]at h
  exact N_bd 22 (decide_eq_true c5)<| T_ed 14 [22] [(36,.bool true)]<| T_tz 36<| T_srz 2<| T_nr 2 [6,7] [vi 0,.bool false] hQ h
 rw[if_neg c5]at h
 refine N_bd 22 (decide_eq_false c5)<| T_nd 4 [22] [(26,.bool (decide (b>3)))] ?_
 by_cases c7:b>3
 ·rw[if_pos c7]at h
  exact N_bd 26 (decide_eq_true c7)<| T_ed 10 [26] [(36,.bool true)]<| T_tz 36<| T_srz 2<| T_nr 2 [6,7] [vi 0,.bool false] hQ h
 rw[if_neg c7]at h
 refine N_bd 26 (decide_eq_false c7)<| T_nd 5 [] [(28,vi d),(29,vi b),(31,vp (some (sA.add 1)))] ?_
 obtain⟨q9,h⟩:=h
 refine T_v1 32 (indexAtN 71 (vp (some (sA.add 1))) (vi d)) (vp (some ((sA.add 1).add (Int.toNat d*4)))) (λw _=>indexArr_run (P:=Tryz.prog) (t:=71) (elem:=70) (sz:=4) (n:=5) (a:=(sA.add 1)) (k:=.i64) (i:=d) Tryz.underlying71 (λ_=>by kernel_rfl) q9.1 q9.2 w) [28,31] ?_
 obtain⟨q10,h⟩:=h
 refine T_v1 33 (indexAtN 70 (vp (some ((sA.add 1).add (Int.toNat d*4)))) (vi b)) (vp (some (((sA.add 1).add (Int.toNat d*4)).add (Int.toNat b*1)))) (λw _=>indexArr_run (P:=Tryz.prog) (t:=70) (elem:=3) (sz:=1) (n:=4) (a:=((sA.add 1).add (Int.toNat d*4))) (k:=.i64) (i:=b) Tryz.underlying70 (λ_=>by kernel_rfl) q10.1 q10.2 w) [29,32] ?_
 obtain⟨x,q11,h⟩:=h
 refine T_l1 34 3 q11 [33]<| T_ed 2 [26,34] [(36,.bool (x==0))] ?_
 by_cases c12:x=0
 ·rw[if_pos c12]at h
  exact T_cTz 36 (beq_iff_eq.mpr c12)<| T_srz 2<| T_nr 2 [6,7] [vi 0,.bool false] hQ h
 rw[if_neg c12]at h
 refine T_cFz 36 (beq_eq_false_iff_ne.mpr c12)<| T_kt<| T_srz 3<| T_n 5 [(38,vi d),(39,vi b),(41,vp (some (sA.add 1)))] ?_
 obtain⟨q14,h⟩:=h
 refine T_v1 42 (indexAtN 71 (vp (some (sA.add 1))) (vi d)) (vp (some ((sA.add 1).add (Int.toNat d*4)))) (λw _=>indexArr_run (P:=Tryz.prog) (t:=71) (elem:=70) (sz:=4) (n:=5) (a:=(sA.add 1)) (k:=.i64) (i:=d) Tryz.underlying71 (λ_=>by kernel_rfl) q14.1 q14.2 w) [38,41] ?_
 obtain⟨q15,h⟩:=h
 refine T_v1 43 (indexAtN 70 (vp (some ((sA.add 1).add (Int.toNat d*4)))) (vi b)) (vp (some (((sA.add 1).add (Int.toNat d*4)).add (Int.toNat b*1)))) (λw _=>indexArr_run (P:=Tryz.prog) (t:=70) (elem:=3) (sz:=1) (n:=4) (a:=((sA.add 1).add (Int.toNat d*4))) (k:=.i64) (i:=b) Tryz.underlying70 (λ_=>by kernel_rfl) q15.1 q15.2 w) [39,42] ?_
 obtain⟨e,q16,h⟩:=h
 exact T_l1 44 3 q16 [43]<| T_nr 3 [6,7] [vi (IntKind.wrap .i64 (e-1)),.bool true] hQ h
end space_Space_Current

/-! (*moraine/card.Cards).Gen -/
namespace card_Cards_Gen
def K0:=Func.code Tryz.f15
end card_Cards_Gen
def card_Cards_Gen.pt(c:Option Addr)(wv:Int)(H:Array Obj)(R:Value->Array Obj->Prop):Prop:=
 word_Addr.C wv H (λv H1=> ∃(ra:Int) (rb:Bool),v=.tuple #[.int .i64 ra,.bool rb]/\
 card_Cards_none.C c H1 (λr H2=> ∃x:Bool,r=.bool x/\
 if x=true then(
 R (.tuple #[.int .i64 0,.bool false]) H2)
 else
 if rb=true then(
 word_Tag.C wv H2 (λq H3=> ∃l:Int,q=.int .i64 l/\
 if l=6 then(
 R (.tuple #[.int .i64 0,.bool false]) H3)
 else
 ∃cA:Addr,c=some cA/\
 ∃o:Option Addr,hat H3 cA=some (.pointer o)/\
 ∃p:Addr,o=some p/\
 ∃m:Option Addr,hat H3 p=some (.pointer m)/\
 seg_Mem_Seg.C m (IntKind.wrap .i64 (Int.tdiv ra 64)) H3 (λs H4=> ∃(j g k a e d f:Int) (i:Bool),s=.tuple #[.agg #[.int .i64 j,.int .i64 g,.int .i64 k,.int .i64 a,.int .i64 e,.int .i64 d,.int .i64 f],.bool i]/\
 ∀(b:Nat) (H5:Array Obj),b=H4.size->H5=H4.push (.cells #[.int .i64 0,.int .i64 0,.int .i64 0,.int .i64 0,.int .i64 0,.int .i64 0,.int .i64 0] 76)->
 (CanPuts H5 (ad b) 0 7)/\ ∀H6,H6=hputs H5 (ad b) [.int .i64 j,.int .i64 g,.int .i64 k,.int .i64 a,.int .i64 e,.int .i64 d,.int .i64 f] 0->
 ∃n:Int,hat H6 (ad b)=some (.int .i64 n)/\
 R (.tuple #[.int .i64 n,.bool i]) H6)))
 else
 R (.tuple #[.int .i64 0,.bool false]) H2))
namespace card_Cards_Gen
theorem link{c:Option Addr}{wv:Int}{H:Array Obj}{R:Value->Array Obj->Prop}(h:pt c wv H R):C c wv H R:=by
 refine T_en K0 41 Tryz.func15 ?_
 intro w0 Q hQ
 unfold pt at h
 refine T_su [(0,vp c),(1,vu wv)]<| T_srz 0<| T_ed 2 [] []<| T_srz 1<| T_nd 1 [] [(10,vu wv)] ?_
 refine T_c (some 11) h ?_;clear h
 rintro v H1 ⟨ra,rb,rfl,h⟩
 refine T_pd [10] [(11,.tuple #[vi ra,.bool rb])]<| T_ed 5 [11] [(6,vi ra),(7,.bool rb)]<| T_sz<| T_srz 2<| T_nd 1 [] [(14,vp c)] ?_
 refine T_c (some 15) h ?_;clear h
 rintro r H2 ⟨x,rfl,h⟩
 refine T_pd [14] [(15,.bool x)]<| T_nd 1 [15] [(16,.bool x)] ?_
 by_cases c1:x=true
 ·rw[if_pos c1]at h
  exact N_bd 16 c1<| T_ed 8 [1,7,16] [(24,.bool true)]<| T_tz 24<| T_srz 3<| T_nr 2 [4,5] [vi 0,.bool false] hQ h
 rw[if_neg c1]at h
 refine N_bd 16 (eq_false_of_ne_true c1)<| T_nd 4 [7,16] [(20,.bool (!rb))] ?_
 by_cases c3:rb=true
 ·rw[if_pos c3]at h
  have b4:(!rb)=false:=congrArg Bool.not (c3)
  have b42:rb=true:=c3
  refine N_bd 20 (b:=(!rb)) (v:=false) (by simp only[b4,b42,Bool.not_true,Bool.not_false]) ?_
  clear b4 b42
  refine T_nd 1 [1] [(21,vu wv)] ?_
  refine T_c (some 22) h ?_;clear h
  rintro q H3 ⟨l,rfl,h⟩
  refine T_pd [21] [(22,vi l)]<| T_ed 2 [20,22] [(24,.bool (l==6))] ?_
  by_cases c5:l=6
  ·rw[if_pos c5]at h
   exact T_cTz 24 (beq_iff_eq.mpr c5)<| T_srz 3<| T_nr 2 [4,5] [vi 0,.bool false] hQ h
  rw[if_neg c5]at h
  refine T_cFz 24 (beq_eq_false_iff_ne.mpr c5)<| T_kt<| T_srz 4<| T_nd 1 [0,24] [(26,vp c)] ?_
  obtain⟨cA,rfl,h⟩:=h
  refine T_nd 2 [26] [(28,vp (some cA))] ?_
  obtain⟨o,q7,h⟩:=h
  refine T_l1 29 39 q7 [28] ?_
  obtain⟨p,rfl,h⟩:=h
  refine T_nd 2 [29] [(31,vp (some p))] ?_
  obtain⟨m,q8,h⟩:=h
  refine T_l1 32 69 q8 [31]<| T_nd 2 [6] [(34,vi (IntKind.wrap .i64 (Int.tdiv ra 64)))] ?_
  refine T_c (some 35) h ?_;clear h
  rintro s H4 ⟨j,g,k,a,e,d,f,i,rfl,h⟩
  refine⟨[(35,.tuple #[.agg #[vi j,vi g,vi k,vi a,vi e,vi d,vi f],.bool i])],pk,?_⟩
  refine T_n 3 [(36,.agg #[vi j,vi g,vi k,vi a,vi e,vi d,vi f]),(37,.bool i)]<| T_nw (some 8) (λb=>vp (pa b)) (.cells #[vi 0,vi 0,vi 0,vi 0,vi 0,vi 0,vi 0] 76) ?_
  intro b H5 e9 e10
  replace h:=h b H5 e9 e10
  refine T_pd [] [(8,vp (pa b))] ?_
  obtain⟨q12,h⟩:=h
  refine T_sta 76 [vi j,vi g,vi k,vi a,vi e,vi d,vi f] q12 ?_
  intro H6 e11
  replace h:=h H6 e11
  refine T_pd [36] []<| T_ed 1 [37] [(7,.bool i)]<| T_srz 5<| T_nd 1 [8] [(38,vp (pa b))] ?_
  obtain⟨n,q13,h⟩:=h
  exact T_l1 39 3 q13 [38]<| T_nr 3 [4,5] [vi n,.bool i] hQ h
 rw[if_neg c3]at h
 have b4:(!rb)=true:=congrArg Bool.not (eq_false_of_ne_true c3)
 have b42:rb=false:=eq_false_of_ne_true c3
 refine N_bd 20 (b:=(!rb)) (v:=true) (by simp only[b4,b42,Bool.not_true,Bool.not_false]) ?_
 clear b4 b42
 exact T_ed 4 [1,20] [(24,.bool true)]<| T_tz 24<| T_srz 3<| T_nr 2 [4,5] [vi 0,.bool false] hQ h
end card_Cards_Gen

/-! moraine/card.New -/
namespace card_New
def K0:=Func.code Tryz.f35
end card_New
def card_New.pt(a:Int)(H:Array Obj)(R:Value->Array Obj->Prop):Prop:=
 space_New.C a H (λv H1=> ∃(ra:Option Addr) (rb:Int),v=.tuple #[.pointer ra,.int .i64 rb]/\
 if rb=0 then(
 ∀(b:Nat) (H2:Array Obj),b=H1.size->H2=H1.push (.cells #[.pointer ra] 41)->
 R (.tuple #[.pointer (some (ad b)),.int .i64 0]) H2)
 else
 R (.tuple #[.pointer none,.int .i64 rb]) H1)
namespace card_New
theorem link{a:Int}{H:Array Obj}{R:Value->Array Obj->Prop}(h:pt a H R):C a H R:=by
 refine T_en K0 17 Tryz.func35 ?_
 intro w0 Q hQ
 unfold pt at h
 refine T_su [(0,vi a)]<| T_srz 0<| T_ed 2 [] []<| T_srz 1<| T_n 1 [(7,vi a)] ?_
 refine T_c (some 8) h ?_;clear h
 rintro v H1 ⟨ra,rb,rfl,h⟩
 refine⟨[(8,.tuple #[vp ra,vi rb])],pk,?_⟩
 refine T_ne 5 [(4,vp ra),(5,vi rb)]<| T_sz<| T_srz 2<| T_ed 2 [] [(12,.bool (rb !=0))] ?_
 by_cases c1:rb=0
 ·rw[if_pos c1]at h
  refine T_cFz 12 (bne_eq_false_iff_eq.mpr c1)<| T_kt<| T_srz 4<| T_n 2 [(15,.agg #[vp ra])]<| T_nw (some 16) (λb=>vp (pa b)) (.cells #[vp ra] 41) ?_
  intro b H2 e3 e4
  replace h:=h b H2 e3 e4
  refine⟨[(16,vp (pa b))],pk,?_⟩
  exact T_nr 2 [2,3] [vp (pa b),vi 0] hQ h
 rw[if_neg c1]at h
 exact T_cTz 12 (bne_iff_ne.mpr c1)<| T_srz 3<| T_nr 3 [2,3] [vp none,vi rb] hQ h
end card_New

/-! (*moraine/card.Cards).none -/
namespace card_Cards_none
def K0:=Func.code Tryz.f41
end card_Cards_none
def card_Cards_none.pt(c:Option Addr)(H:Array Obj)(R:Value->Array Obj->Prop):Prop:=
 onPtr c (
 R (.bool true) H) (λcA=>
 ∃x:Option Addr,hat H cA=some (.pointer x)/\
 onPtr x (
 R (.bool true) H) (λxA=>
 ∃b:Option Addr,hat H cA=some (.pointer b)/\
 ∃d:Addr,b=some d/\
 ∃a:Option Addr,hat H d=some (.pointer a)/\
 onPtr a (
 R (.bool true) H) (λe=>
 R (.bool false) H)))
namespace card_Cards_none
theorem link{c:Option Addr}{H:Array Obj}{R:Value->Array Obj->Prop}(h:pt c H R):C c H R:=by
 refine T_en K0 22 Tryz.func41 ?_
 intro w0 Q hQ
 unfold pt at h
 refine T_su [(0,vp c)]<| T_srz 0<| T_ed 1 [] []<| T_srz 1<| T_nd 1 [] [(3,vp c)] ?_
 rcases c with _ | cA
 ·rw[onPtr_none]at h
  exact T_nr 19 [2] [.bool true] hQ h
 rw[onPtr_some]at h
 refine T_n 5 [(0,vp (some cA)),(5,.bool false),(8,vp (some cA))] ?_
 obtain⟨x,q1,h⟩:=h
 refine T_l1 9 39 q1 [8] ?_
 rcases x with _ | xA
 ·rw[onPtr_none]at h
  exact T_nr 13 [2] [.bool true] hQ h
 rw[onPtr_some]at h
 refine T_n 6 [(12,.bool false),(15,vp (some cA))] ?_
 obtain⟨b,q2,h⟩:=h
 refine T_l1 16 39 q2 [15] ?_
 obtain⟨d,rfl,h⟩:=h
 refine T_nd 2 [16] [(18,vp (some d))] ?_
 obtain⟨a,q3,h⟩:=h
 refine T_l1 19 69 q3 [18] ?_
 rcases a with _ | e
 ·rw[onPtr_none]at h
  exact T_nr 3 [2] [.bool true] hQ h
 rw[onPtr_some]at h
 exact T_nr 3 [2] [.bool false] hQ h
end card_Cards_none

/-! (*moraine/card.Cards).younger -/
namespace card_Cards_younger
def K0:=Func.code Tryz.f99
end card_Cards_younger
def card_Cards_younger.pt(c:Option Addr)(k i sN e g f d wv a:Int)(H:Array Obj)(R:Value->Array Obj->Prop):Prop:=
 ∀(b:Nat) (H1:Array Obj),b=H.size->H1=H.push (.cells #[.int .i64 k,.int .i64 i,.int .i64 sN,.int .i64 e,.int .i64 g,.int .i64 f,.int .i64 d] 76)->
 card_Cards_Gen.C c wv H1 (λv H2=> ∃(ra:Int) (rb:Bool),v=.tuple #[.int .i64 ra,.bool rb]/\
 if rb=true then(
 ∃x:Int,hat H2 ((ad b).add 1)=some (.int .i64 x)/\
 if x=3 then(
 R (.int .i64 a) H2)
 else
 ∃j:Int,hat H2 (ad b)=some (.int .i64 j)/\
 if ra<j then(
 R (.int .i64 (if ra<a then ra else a)) H2)
 else
 R (.int .i64 a) H2)
 else
 R (.int .i64 a) H2)
namespace card_Cards_younger
theorem link{c:Option Addr}{k i sN e g f d wv a:Int}{H:Array Obj}{R:Value->Array Obj->Prop}(h:pt c k i sN e g f d wv a H R):C c k i sN e g f d wv a H R:=by
 refine T_en K0 33 Tryz.func99 ?_
 intro w0 Q hQ
 unfold pt at h
 refine T_su [(0,vp c),(1,.agg #[vi k,vi i,vi sN,vi e,vi g,vi f,vi d]),(2,vu wv),(3,vi a)]<| T_srz 0<| T_nw (some 5) (λb=>vp (pa b)) (.cells #[vi k,vi i,vi sN,vi e,vi g,vi f,vi d] 76) ?_
 intro b H1 e1 e2
 replace h:=h b H1 e1 e2
 refine T_pd [1] [(5,vp (pa b))]<| T_ed 1 [] []<| T_sz<| T_srz 1<| T_nd 2 [0,2] [(12,vp c),(13,vu wv)] ?_
 refine T_c (some 14) h ?_;clear h
 rintro v H2 ⟨ra,rb,rfl,h⟩
 refine T_pd [12,13] [(14,.tuple #[vi ra,.bool rb])]<| T_ed 5 [14] [(9,vi ra),(10,.bool rb)]<| T_srz 2<| T_nd 2 [10] [(18,.bool rb)] ?_
 by_cases c3:rb=true
 ·rw[if_pos c3]at h
  refine N_bd 18 c3<| T_nd 1 [] [(19,vp (some ((ad b).add 1)))] ?_
  obtain⟨x,q5,h⟩:=h
  refine T_l1 20 3 q5 [19]<| T_nd 3 [18,20] [(23,.bool (x !=3))] ?_
  by_cases c6:x=3
  ·rw[if_pos c6]at h
   exact N_bd 23 (bne_eq_false_iff_eq.mpr c6)<| T_ed 5 [5,23] [(28,.bool false)]<| T_fz 28<| T_kt<| T_srz 4<| T_nr 2 [8] [vi a] hQ h
  rw[if_neg c6]at h
  refine N_bd 23 (bne_iff_ne.mpr c6)<| T_nd 2 [5] [(24,vi ra),(25,vp (pa b))] ?_
  obtain⟨j,q8,h⟩:=h
  refine T_l1 26 3 q8 [25]<| T_ed 2 [23,24,26] [(28,.bool (decide (ra<j)))] ?_
  by_cases c9:ra<j
  ·rw[if_pos c9]at h
   exact T_cTz 28 (decide_eq_true c9)<| T_srz 3<| T_nr 4 [8] [vi (if ra<a then ra else a)] hQ h
  rw[if_neg c9]at h
  exact T_cFz 28 (decide_eq_false c9)<| T_kt<| T_srz 4<| T_nr 2 [8] [vi a] hQ h
 rw[if_neg c3]at h
 exact N_bd 18 (eq_false_of_ne_true c3)<| T_ed 10 [5,18] [(28,.bool false)]<| T_fz 28<| T_kt<| T_srz 4<| T_nr 2 [8] [vi a] hQ h
end card_Cards_younger

/-! (*moraine/card.Cards).Store -/
/-! (*moraine/obj.Heap).Cons -/
namespace obj_Heap_Cons
def K0:=Func.code Tryz.f11
end obj_Heap_Cons
def obj_Heap_Cons.pt(hv:Option Addr)(d a:Int)(H:Array Obj)(R:Value->Array Obj->Prop):Prop:=
 ∀(b:Nat) (H1:Array Obj),b=H.size->H1=H.push (.cells #[.int .u64 d,.int .u64 a] 24)->
 obj_Heap_put.C hv 0 1 (some (ad b)) 2 2 H1 (λv H2=> ∃ra rb:Int,v=.tuple #[.int .u64 ra,.int .i64 rb]/\
 R (.tuple #[.int .u64 ra,.int .i64 rb]) H2)
namespace obj_Heap_Cons
theorem link{hv:Option Addr}{d a:Int}{H:Array Obj}{R:Value->Array Obj->Prop}(h:pt hv d a H R):C hv d a H R:=by
 refine T_en K0 15 Tryz.func11 ?_
 intro w0 Q hQ
 unfold pt at h
 refine T_su [(0,vp hv),(1,vu d),(2,vu a)]<| T_srz 0<| T_ed 2 [] []<| T_srz 1<| T_n 3 [(8,vp hv),(9,vu d),(10,vu a)]<| T_nw (some 11) (λb=>vs (pa b) 2 2) (.cells #[vu d,vu a] 24) ?_
 intro b H1 e1 e2
 replace h:=h b H1 e1 e2
 refine T_pd [9,10] [(11,vs (pa b) 2 2)] ?_
 refine T_c (some 12) h ?_;clear h
 rintro v H2 ⟨ra,rb,rfl,h⟩
 refine⟨[(12,.tuple #[vu ra,vi rb])],pk,?_⟩
 exact T_nr 4 [6,7] [vu ra,vi rb] hQ h
end obj_Heap_Cons

/-! (*moraine/obj.Heap).Size -/
namespace obj_Heap_Size
def K0:=Func.code Tryz.f21
end obj_Heap_Size
def obj_Heap_Size.pt(hv:Option Addr)(wv:Int)(H:Array Obj)(R:Value->Array Obj->Prop):Prop:=
 obj_Heap_Pair.C hv wv H (λv H1=> ∃x:Bool,v=.bool x/\
 if x=true then(
 R (.int .i64 2) H1)
 else
 obj_Heap_object.C hv wv H1 (λa H2=> ∃(ra rb rc rd:Int) (re:Bool),a=.tuple #[.int .i64 ra,.int .i64 rb,.int .i64 rc,.int .u64 rd,.bool re]/\
 if re=true then(
 R (.int .i64 (IntKind.wrap .i64 (rc+1))) H2)
 else
 R (.int .i64 0) H2))
namespace obj_Heap_Size
theorem link{hv:Option Addr}{wv:Int}{H:Array Obj}{R:Value->Array Obj->Prop}(h:pt hv wv H R):C hv wv H R:=by
 refine T_en K0 25 Tryz.func21 ?_
 intro w0 Q hQ
 unfold pt at h
 refine T_su [(0,vp hv),(1,vu wv)]<| T_srz 0<| T_ed 1 [] []<| T_sz<| T_srz 1<| T_nd 2 [] [(10,vp hv),(11,vu wv)] ?_
 refine T_c (some 12) h ?_;clear h
 rintro v H1 ⟨x,rfl,h⟩
 refine T_pd [10,11] [(12,.bool x)]<| T_e ?_
 by_cases c1:x=true
 ·rw[if_pos c1]at h
  exact T_cTz 12 c1<| T_srz 2<| T_nr 1 [4] [vi 2] hQ h
 rw[if_neg c1]at h
 refine T_cFz 12 (eq_false_of_ne_true c1)<| T_kt<| T_sz<| T_srz 3<| T_n 2 [(14,vp hv),(15,vu wv)] ?_
 refine T_c (some 16) h ?_;clear h
 rintro a H2 ⟨ra,rb,rc,rd,re,rfl,h⟩
 refine⟨[(16,.tuple #[vi ra,vi rb,vi rc,vu rd,.bool re])],pk,?_⟩
 refine T_ne 11 [(7,vi rc),(9,.bool re)]<| T_srz 4<| T_ed 1 [9] [(22,.bool re)] ?_
 by_cases c3:re=true
 ·rw[if_pos c3]at h
  exact T_cTz 22 c3<| T_srz 5<| T_nr 3 [4] [vi (IntKind.wrap .i64 (rc+1))] hQ h
 rw[if_neg c3]at h
 exact T_cFz 22 (eq_false_of_ne_true c3)<| T_kt<| T_srz 6<| T_nr 1 [4] [vi 0] hQ h
end obj_Heap_Size

/-! (*moraine/obj.Heap).Car -/
namespace obj_Heap_Car
def K0:=Func.code Tryz.f39
end obj_Heap_Car
def obj_Heap_Car.pt(hv:Option Addr)(wv:Int)(H:Array Obj)(R:Value->Array Obj->Prop):Prop:=
 obj_Heap_half.C hv wv 0 H (λv H1=> ∃ra rb:Int,v=.tuple #[.int .u64 ra,.int .i64 rb]/\
 R (.tuple #[.int .u64 ra,.int .i64 rb]) H1)
namespace obj_Heap_Car
theorem link{hv:Option Addr}{wv:Int}{H:Array Obj}{R:Value->Array Obj->Prop}(h:pt hv wv H R):C hv wv H R:=by
 refine T_en K0 11 Tryz.func39 ?_
 intro w0 Q hQ
 unfold pt at h
 refine T_su [(0,vp hv),(1,vu wv)]<| T_srz 0<| T_ed 2 [] []<| T_srz 1<| T_n 2 [(6,vp hv),(7,vu wv)] ?_
 refine T_c (some 8) h ?_;clear h
 rintro v H1 ⟨ra,rb,rfl,h⟩
 refine⟨[(8,.tuple #[vu ra,vi rb])],pk,?_⟩
 exact T_nr 4 [4,5] [vu ra,vi rb] hQ h
end obj_Heap_Car

/-! (*moraine/obj.Heap).Pair -/
namespace obj_Heap_Pair
def K0:=Func.code Tryz.f48
end obj_Heap_Pair
def obj_Heap_Pair.pt(hv:Option Addr)(wv:Int)(H:Array Obj)(R:Value->Array Obj->Prop):Prop:=
 obj_Heap_pair.C hv wv H (λv H1=> ∃(ra:Int) (rb:Bool),v=.tuple #[.int .i64 ra,.bool rb]/\
 R (.bool rb) H1)
namespace obj_Heap_Pair
theorem link{hv:Option Addr}{wv:Int}{H:Array Obj}{R:Value->Array Obj->Prop}(h:pt hv wv H R):C hv wv H R:=by
 refine T_en K0 14 Tryz.func48 ?_
 intro w0 Q hQ
 unfold pt at h
 refine T_su [(0,vp hv),(1,vu wv)]<| T_srz 0<| T_ed 1 [] []<| T_srz 1<| T_n 2 [(8,vp hv),(9,vu wv)] ?_
 refine T_c (some 10) h ?_;clear h
 rintro v H1 ⟨ra,rb,rfl,h⟩
 refine⟨[(10,.tuple #[vi ra,.bool rb])],pk,?_⟩
 exact T_ne 5 [(6,.bool rb)]<| T_srz 2<| T_nr 2 [4] [.bool rb] hQ h
end obj_Heap_Pair

/-! (*moraine/obj.Heap).half -/
namespace obj_Heap_half
def K0:=Func.code Tryz.f79
end obj_Heap_half
def obj_Heap_half.pt(hv:Option Addr)(wv i:Int)(H:Array Obj)(R:Value->Array Obj->Prop):Prop:=
 obj_Heap_pair.C hv wv H (λv H1=> ∃(ra:Int) (rb:Bool),v=.tuple #[.int .i64 ra,.bool rb]/\
 if rb=true then(
 ∃e:Addr,hv=some e/\
 ∃x:Option Addr,hat H1 e=some (.pointer x)/\
 ∃xA:Addr,x=some xA/\
 ∃f:Option Addr,hat H1 xA=some (.pointer f)/\
 ∃g:Addr,f=some g/\
 ∃d:Option Addr,hat H1 g=some (.pointer d)/\
 seg_Mem_Read.C d (IntKind.wrap .i64 (ra+i)) H1 (λj H2=> ∃b a:Int,j=.tuple #[.int .u64 b,.int .i64 a]/\
 R (.tuple #[.int .u64 b,.int .i64 a]) H2))
 else
 R (.tuple #[.int .u64 0,.int .i64 3]) H1)
namespace obj_Heap_half
theorem link{hv:Option Addr}{wv i:Int}{H:Array Obj}{R:Value->Array Obj->Prop}(h:pt hv wv i H R):C hv wv i H R:=by
 refine T_en K0 34 Tryz.func79 ?_
 intro w0 Q hQ
 unfold pt at h
 refine T_su [(0,vp hv),(1,vu wv),(2,vi i)]<| T_srz 0<| T_ed 2 [] []<| T_srz 1<| T_nd 2 [1] [(11,vp hv),(12,vu wv)] ?_
 refine T_c (some 13) h ?_;clear h
 rintro v H1 ⟨ra,rb,rfl,h⟩
 refine T_pd [11,12] [(13,.tuple #[vi ra,.bool rb])]<| T_ed 5 [13] [(8,vi ra),(9,.bool rb)]<| T_sz<| T_srz 2<| T_ed 2 [9] [(17,.bool (!rb))] ?_
 by_cases c1:rb=true
 ·rw[if_pos c1]at h
  refine T_cFz 17 (congrArg Bool.not (c1))<| T_kt<| T_srz 4<| T_nd 1 [0,17] [(18,vp hv)] ?_
  obtain⟨e,rfl,h⟩:=h
  refine T_nd 2 [18] [(20,vp (some e))] ?_
  obtain⟨x,q3,h⟩:=h
  refine T_l1 21 26 q3 [20] ?_
  obtain⟨xA,rfl,h⟩:=h
  refine T_nd 2 [21] [(23,vp (some xA))] ?_
  obtain⟨f,q4,h⟩:=h
  refine T_l1 24 39 q4 [23] ?_
  obtain⟨g,rfl,h⟩:=h
  refine T_nd 2 [24] [(26,vp (some g))] ?_
  obtain⟨d,q5,h⟩:=h
  refine T_l1 27 69 q5 [26]<| T_nd 3 [2,8] [(30,vi (IntKind.wrap .i64 (ra+i)))] ?_
  refine T_c (some 31) h ?_;clear h
  rintro j H2 ⟨b,a,rfl,h⟩
  refine⟨[(31,.tuple #[vu b,vi a])],pk,?_⟩
  exact T_nr 4 [6,7] [vu b,vi a] hQ h
 rw[if_neg c1]at h
 exact T_cTz 17 (congrArg Bool.not (eq_false_of_ne_true c1))<| T_srz 3<| T_nr 2 [6,7] [vu 0,vi 3] hQ h
end obj_Heap_half

/-! (*moraine/obj.Heap).Weak -/
namespace obj_Heap_pair
def K0:=Func.code Tryz.f89
end obj_Heap_pair
def obj_Heap_pair.pt(hv:Option Addr)(wv:Int)(H:Array Obj)(R:Value->Array Obj->Prop):Prop:=
 obj_Heap_at.C hv wv 1 0 H (λv H1=> ∃(ra:Int) (rb:Bool),v=.tuple #[.int .i64 ra,.bool rb]/\
 if rb=true then(
 R (.tuple #[.int .i64 ra,.bool ((Int.tmod ra 2)==0)]) H1)
 else
 obj_Heap_at.C hv wv 2 1 H1 (λd H2=> ∃(a:Int) (b:Bool),d=.tuple #[.int .i64 a,.bool b]/\
 R (.tuple #[.int .i64 a,.bool (b && ((Int.tmod a 2)==0))]) H2))
namespace obj_Heap_pair
theorem link{hv:Option Addr}{wv:Int}{H:Array Obj}{R:Value->Array Obj->Prop}(h:pt hv wv H R):C hv wv H R:=by
 refine T_en K0 29 Tryz.func89 ?_
 intro w0 Q hQ
 unfold pt at h
 refine T_su [(0,vp hv),(1,vu wv)]<| T_srz 0<| T_ed 2 [] []<| T_srz 1<| T_nd 2 [] [(9,vp hv),(10,vu wv)] ?_
 refine T_c (some 11) h ?_;clear h
 rintro v H1 ⟨ra,rb,rfl,h⟩
 refine T_pd [9,10] [(11,.tuple #[vi ra,.bool rb])]<| T_ed 5 [11] [(6,vi ra),(7,.bool rb)]<| T_sz<| T_srz 2<| T_ed 2 [] [(15,.bool (!rb))] ?_
 by_cases c1:rb=true
 ·rw[if_pos c1]at h
  have b2:(!rb)=false:=congrArg Bool.not (c1)
  have b22:rb=true:=c1
  refine S_bd 7 (b:=rb) (v:=true) (by simp only[b2,b22,Bool.not_true,Bool.not_false])<| S_bd 15 (b:=(!rb)) (v:=false) (by simp only[b2,b22,Bool.not_true,Bool.not_false]) ?_
  clear b2 b22
  exact T_fz 15<| T_kt<| T_srz 4<| T_nr 9 [4,5] [vi ra,.bool ((Int.tmod ra 2)==0)] hQ h
 rw[if_neg c1]at h
 have b2:(!rb)=true:=congrArg Bool.not (eq_false_of_ne_true c1)
 have b22:rb=false:=eq_false_of_ne_true c1
 refine S_bd 7 (b:=rb) (v:=false) (by simp only[b2,b22,Bool.not_true,Bool.not_false])<| S_bd 15 (b:=(!rb)) (v:=true) (by simp only[b2,b22,Bool.not_true,Bool.not_false]) ?_
 clear b2 b22
 refine T_tz 15<| T_rz 3<| T_n 2 [(17,vp hv),(18,vu wv)] ?_
 refine T_c (some 19) h ?_;clear h
 rintro d H2 ⟨a,b,rfl,h⟩
 refine⟨[(19,.tuple #[vi a,.bool b])],pk,?_⟩
 refine T_ne 5 [(6,vi a),(7,.bool b)]<| T_srz 4 ?_
 refine N_cut [(4,vi a),(5,.bool (b && ((Int.tmod a 2)==0)))] ?_ ?_
 ·refine S_then ?_
  exact T_ret [4,5] [vi a,.bool (b && ((Int.tmod a 2)==0))] hQ h
 intro hk
 refine T_n 3 [(6,vi a),(22,vi a),(24,.bool b)] ?_
 by_cases c3:b=true
 ·have b4:b=true:=c3
  refine N_env [(6,vi a),(22,vi a),(24,.bool true)] (by rw[b4]) ?_
  refine T_n 6 [(4,vi a),(5,.bool ((Int.tmod a 2)==0))] ?_
  refine N_end (by kernel_rfl) ?_
  refine S_env [(4,vi a),(5,.bool (b && ((Int.tmod a 2)==0)))] (by simp only[b4,BL]) ?_
  exact hk
 have b4:b=false:=eq_false_of_ne_true c3
 refine N_env [(6,vi a),(22,vi a),(24,.bool false)] (by rw[b4]) ?_
 refine T_n 6 [(4,vi a),(5,.bool false)] ?_
 refine N_end (by kernel_rfl) ?_
 refine S_env [(4,vi a),(5,.bool (b && ((Int.tmod a 2)==0)))] (by simp only[b4,BL]) ?_
 exact hk
end obj_Heap_pair

/-! (*moraine/obj.Heap).SetCdr -/
/-! (*moraine/seg.Mem).Taken -/
namespace seg_Mem_Taken
def K0:=Func.code Tryz.f23
def K2:=cb K0
def K4:=cb K2
def K12:=cb K4
def K13:=ca K12
def K16:=cb K13
def K17:=ca K16
def K18:=ca K17
end seg_Mem_Taken
def seg_Mem_Taken.pt(m f:Option Addr)(d e:Nat)(H:Array Obj)(R:Value->Array Obj->Prop):Prop:=
 ∀(b:Nat) (H1:Array Obj),b=H.size->H1=H.push (.cells #[.pointer m] 69)->
 ∃x:Option Addr,hat H1 (ad b)=some (.pointer x)/\
 onPtr x (
 R (.slice none 0 0) H1) (λxA=>
 ∃ac:Option Addr,hat H1 (ad b)=some (.pointer ac)/\
 ∃af:Addr,ac=some af/\
 ∃(xB:Option Addr) (xN xC:Nat),hat H1 af=some (.slice xB xN xC)/\
 ∃(r:(Option Addr)->Nat->Nat->Int->Array Obj->Prop) (m19:(Option Addr)->Nat->Nat->Int->Array Obj->Nat),r none 0 0 0 H1/\ ∀(lB:Option Addr) (lN:Nat) (lC:Nat) (s15:Int) (H2:Array Obj),r lB lN lC s15 H2->
 if s15< (xN:Int)then(
 ∃ab:Option Addr,hat H2 (ad b)=some (.pointer ab)/\
 ∃ae:Addr,ab=some ae/\
 ∃(q:Option Addr) (l n:Nat),hat H2 ae=some (.slice q l n)/\
 ∃g:Addr,q=some g/\
 ((0:Int)<=s15/\s15< (l:Int))/\
 ∃p:Int,hat H2 ((g.add (Int.toNat s15*72)).add 7)=some (.int .i64 p)/\
 if p>0 then(
 if(d:Int)=0 then(
 ∀(z:Nat) (H3:Array Obj),z=H2.size->H3=H2.push (.cells #[.int .i64 s15] 3)->
 appendK 1 3 8 [.int .i64 0] lB lN lC (some (ad z)) 1 H3 (λap u H4=>
 (r ap (lN+1) u (IntKind.wrap .i64 (s15+1)) H4/\m19 ap (lN+1) u (IntKind.wrap .i64 (s15+1)) H4<m19 lB lN lC s15 H2)))
 else
 ∃aa:Int,hat H2 (g.add (Int.toNat s15*72))=some (.int .i64 aa)/\
 slices_Contains_int_int.C f d e aa H2 (λv H5=> ∃s:Bool,v=.bool s/\
 if s=true then(
 ∀(y:Nat) (H6:Array Obj),y=H5.size->H6=H5.push (.cells #[.int .i64 s15] 3)->
 appendK 1 3 8 [.int .i64 0] lB lN lC (some (ad y)) 1 H6 (λo j H7=>
 (r o (lN+1) j (IntKind.wrap .i64 (s15+1)) H7/\m19 o (lN+1) j (IntKind.wrap .i64 (s15+1)) H7<m19 lB lN lC s15 H2)))
 else
 (r lB lN lC (IntKind.wrap .i64 (s15+1)) H5/\m19 lB lN lC (IntKind.wrap .i64 (s15+1)) H5<m19 lB lN lC s15 H2)))
 else
 (r lB lN lC (IntKind.wrap .i64 (s15+1)) H2/\m19 lB lN lC (IntKind.wrap .i64 (s15+1)) H2<m19 lB lN lC s15 H2))
 else
 slices_SortFunc_int_int.C lB lN lC (.func (.func 53) #[] #[.pointer (some (ad b))]) H2 (λ_ H8=>
 R (.slice lB lN lC) H8))
namespace seg_Mem_Taken
theorem link{m f:Option Addr}{d e:Nat}{H:Array Obj}{R:Value->Array Obj->Prop}(h:pt m f d e H R):C m f d e H R:=by
 refine T_en K0 52 Tryz.func23 ?_
 intro w0 Q hQ
 unfold pt at h
 refine T_su [(0,vp m),(1,vs f d e)]<| T_srz 0<| T_nw (some 2) (λb=>vp (pa b)) (.cells #[vp m] 69) ?_
 intro b H1 e1 e2
 replace h:=h b H1 e1 e2
 refine T_pd [0] [(2,vp (pa b))]<| T_ed 1 [] []<| T_sz<| T_srz 1 ?_
 obtain⟨x,q3,h⟩:=h
 refine T_l1 8 69 q3 [] ?_
 rcases x with _ | xA
 ·rw[onPtr_none]at h
  exact T_ed 1 [8] [(9,.bool true)]<| T_tz 9<| T_srz 2<| T_nr 1 [4] [vs none 0 0] hQ h
 rw[onPtr_some]at h
 refine T_ed 1 [8] [(9,.bool false)]<| T_fz 9<| T_kt<| T_srz 3<| T_ed 1 [9] [(5,vs none 0 0)]<| T_sz<| T_srz 4 ?_
 obtain⟨ac,q4,h⟩:=h
 refine T_l1 10 69 q4 [] ?_
 obtain⟨af,rfl,h⟩:=h
 refine T_nd 2 [10] [(12,vp (some af))] ?_
 obtain⟨xB,xN,xC,q5,h⟩:=h
 refine T_l1 13 110 q5 [12]<| T_ed 2 [13] [(14,vi xN),(15,vi 0)]<| T_bz 0 ?_
 obtain⟨r,m19,i6,i7⟩:=h
 refine S_loop (x:=K18) (σ:=(Option Addr)×Nat×Nat×Int) (λs_=> [(1,vs f d e),(2,vp (pa b)),(5,vs s_.1 s_.2.1 s_.2.2.1),(14,vi xN),(15,vi s_.2.2.2)]) (λs_ H=>r s_.1 s_.2.1 s_.2.2.1 s_.2.2.2 H) (λs_ H=>m19 s_.1 s_.2.1 s_.2.2.1 s_.2.2.2 H) ((none,0,0,0):(Option Addr)×Nat×Nat×Int) (by kernel_rfl) i6 sk ?_
 rintro⟨lB,lN,lC,s15⟩ H2 i8
 have h:=i7 lB lN lC s15 H2 i8
 refine T_su [(1,vs f d e),(2,vp (pa b)),(5,vs lB lN lC),(14,vi xN),(15,vi s15)]<| T_srz 5<| T_ed 1 [] [(16,.bool (decide (s15< (xN:Int))))]<| T_sz ?_
 by_cases c9:s15< (xN:Int)
 ·rw[if_pos c9]at h
  refine T_cTz 16 (decide_eq_true c9)<| T_kt<| T_sz<| T_bz 1<| T_srz 6<| T_ed 2 [16] [(6,vi s15)]<| T_srz 7 ?_
  obtain⟨ab,q11,h⟩:=h
  refine T_l1 18 69 q11 [] ?_
  obtain⟨ae,rfl,h⟩:=h
  refine T_nd 2 [18] [(20,vp (some ae))] ?_
  obtain⟨q,l,n,q12,h⟩:=h
  refine T_l1 21 110 q12 [20]<| T_nd 1 [] [(22,vi s15)] ?_
  obtain⟨g,rfl,h⟩:=h
  obtain⟨q13,h⟩:=h
  refine T_xd (some 23) 110 116 72 g l n .i64 s15 Tryz.underlying110 q13.1 q13.2 [21,22] [(23,vp (some (g.add (Int.toNat s15*72))))]<| T_ed 1 [23] [(7,vp (some (g.add (Int.toNat s15*72))))]<| T_srz 8<| T_nd 3 [] [(26,vp (some ((g.add (Int.toNat s15*72)).add 7)))] ?_
  obtain⟨p,q14,h⟩:=h
  refine T_l1 27 3 q14 [26]<| T_nd 2 [27] [(29,.bool (decide (p>0)))] ?_
  by_cases c15:p>0
  ·rw[if_pos c15]at h
   refine N_bd 29 (decide_eq_true c15)<| T_nd 4 [] [(33,.bool ((d:Int)==0))] ?_
   by_cases c17:(d:Int)=0
   ·rw[if_pos c17]at h
    refine N_bd 33 (beq_iff_eq.mpr c17)<| T_ed 9 [7,29,33] [(42,.bool true)]<| T_tz 42<| T_rz 9<| T_nd 2 [5,6,42] [(43,vs lB lN lC),(44,vi s15)]<| T_nw (some 45) (λb=>vs (pa b) 1 1) (.cells #[vi s15] 3) ?_
    intro z H3 e19 e20
    replace h:=h z H3 e19 e20
    refine T_pd [44] [(45,vs (pa z) 1 1)] ?_
    refine N_op (some 46) (appendN #[67,67] 67 #[vs lB lN lC,vs (pa z) 1 1]) _ (λ_=>by kernel_rfl) (ss_append (T:=3) (sz:=1) (bytes:=8) (zero:=(vi 0:Value)) Tryz.underlying67 Tryz.underlying67 rfl (show Tryz.prog.info? 3=some Tryz.t3 from by kernel_rfl) (by kernel_rfl) (by kernel_rfl) (by decide) (by kernel_rfl) (by first | exact h | (simpa only[Value.cells,List.toList_toArray]using h))) ?_;clear h
    rintro _ H4 ⟨ap,u,rfl,h⟩
    refine T_pd [43,45] [(46,vs ap (lN+1) u)]<| T_nd 1 [46] [(5,vs ap (lN+1) u)] ?_
    refine N_end (by kernel_rfl) ?_
    refine S_blockEnd ?_
    refine S_then ?_
    refine T_rz 10<| T_ed 2 [15] [(15,vi (IntKind.wrap .i64 (s15+1)))] ?_
    exact S_round ((ap,(lN+1),u,(IntKind.wrap .i64 (s15+1))):(Option Addr)×Nat×Nat×Int) sk h
   rw[if_neg c17]at h
   refine N_bd 33 (beq_eq_false_iff_ne.mpr c17)<| T_nd 5 [7] [(34,vs f d e),(38,vp (some (g.add (Int.toNat s15*72))))] ?_
   obtain⟨aa,q21,h⟩:=h
   refine T_l1 39 3 q21 [38] ?_
   refine T_c (some 40) h ?_;clear h
   rintro v H5 ⟨s,rfl,h⟩
   refine T_pd [34,39] [(40,.bool s)]<| T_ed 2 [29,33,40] [(42,.bool s)] ?_
   by_cases c22:s=true
   ·rw[if_pos c22]at h
    refine T_cTz 42 c22<| T_rz 9<| T_nd 2 [5,6,42] [(43,vs lB lN lC),(44,vi s15)]<| T_nw (some 45) (λb=>vs (pa b) 1 1) (.cells #[vi s15] 3) ?_
    intro y H6 e24 e25
    replace h:=h y H6 e24 e25
    refine T_pd [44] [(45,vs (pa y) 1 1)] ?_
    refine N_op (some 46) (appendN #[67,67] 67 #[vs lB lN lC,vs (pa y) 1 1]) _ (λ_=>by kernel_rfl) (ss_append (T:=3) (sz:=1) (bytes:=8) (zero:=(vi 0:Value)) Tryz.underlying67 Tryz.underlying67 rfl (show Tryz.prog.info? 3=some Tryz.t3 from by kernel_rfl) (by kernel_rfl) (by kernel_rfl) (by decide) (by kernel_rfl) (by first | exact h | (simpa only[Value.cells,List.toList_toArray]using h))) ?_;clear h
    rintro _ H7 ⟨o,j,rfl,h⟩
    refine T_pd [43,45] [(46,vs o (lN+1) j)]<| T_nd 1 [46] [(5,vs o (lN+1) j)] ?_
    refine N_end (by kernel_rfl) ?_
    refine S_blockEnd ?_
    refine S_then ?_
    refine T_rz 10<| T_ed 2 [15] [(15,vi (IntKind.wrap .i64 (s15+1)))] ?_
    exact S_round ((o,(lN+1),j,(IntKind.wrap .i64 (s15+1))):(Option Addr)×Nat×Nat×Int) sk h
   rw[if_neg c22]at h
   refine T_cFz 42 (eq_false_of_ne_true c22)<| T_k ?_
   refine S_blockEnd ?_
   refine S_then ?_
   refine T_rz 10<| T_ed 2 [6,15,42] [(15,vi (IntKind.wrap .i64 (s15+1)))] ?_
   exact S_round ((lB,lN,lC,(IntKind.wrap .i64 (s15+1))):(Option Addr)×Nat×Nat×Int) sk h
  rw[if_neg c15]at h
  refine N_bd 29 (decide_eq_false c15)<| T_ed 13 [7,29] [(42,.bool false)]<| T_fz 42<| T_k ?_
  refine S_blockEnd ?_
  refine S_then ?_
  refine T_rz 10<| T_ed 2 [6,15,42] [(15,vi (IntKind.wrap .i64 (s15+1)))] ?_
  exact S_round ((lB,lN,lC,(IntKind.wrap .i64 (s15+1))):(Option Addr)×Nat×Nat×Int) sk h
 rw[if_neg c9]at h
 refine T_cFz 16 (decide_eq_false c9) ?_
 refine S_exit 0 (by kernel_rfl) ?_
 refine S_exitThen ?_
 refine S_exitThen ?_
 refine S_exitHere ?_
 refine S_then ?_
 refine T_srz 11<| T_n 2 [(5,vs lB lN lC),(48,vs lB lN lC),(49,.func (.func 53) #[] #[vp (pa b)])] ?_
 refine T_c (some 50) h ?_;clear h
 intro v_2 H8 h
 exact T_pd [48,49] []<| T_e<| T_srz 12<| T_nr 2 [4] [vs lB lN lC] hQ h
end seg_Mem_Taken

/-! (*moraine/seg.Mem).Taken.1 -/
namespace seg_Mem_Taken_1
def K0:=Func.code Tryz.f53
def K2:=cb K0
def K3:=ca K2
end seg_Mem_Taken_1
def seg_Mem_Taken_1.pt(a b:Int)(o:Option Addr)(H:Array Obj)(R:Value->Array Obj->Prop):Prop:=
 ∃d:Addr,o=some d/\
 ∃x:Option Addr,hat H d=some (.pointer x)/\
 ∃xA:Addr,x=some xA/\
 ∃(xB:Option Addr) (xN xC:Nat),hat H xA=some (.slice xB xN xC)/\
 ∃f:Addr,xB=some f/\
 ((0:Int)<=a/\a< (xN:Int))/\
 ∃g:Int,hat H ((f.add (Int.toNat a*72)).add 7)=some (.int .i64 g)/\
 ∃r:Option Addr,hat H d=some (.pointer r)/\
 ∃j:Addr,r=some j/\
 ∃(q:Option Addr) (l m:Nat),hat H j=some (.slice q l m)/\
 ∃e:Addr,q=some e/\
 ((0:Int)<=b/\b< (l:Int))/\
 ∃p:Int,hat H ((e.add (Int.toNat b*72)).add 7)=some (.int .i64 p)/\
 cmp_Compare_int.C g p H (λv H1=> ∃n:Int,v=.int .i64 n/\
 R (.int .i64 n) H1)
namespace seg_Mem_Taken_1
theorem link{a b:Int}{o:Option Addr}{H:Array Obj}{R:Value->Array Obj->Prop}(h:pt a b o H R):C a b o H R:=by
 refine T_en K0 23 Tryz.func53 ?_
 intro w0 Q hQ
 unfold pt at h
 refine T_su [(0,vi a),(1,vi b),(2,vp o)]<| T_srz 0<| T_ed 1 [] []<| T_sz ?_
 obtain⟨d,rfl,h⟩:=h
 obtain⟨x,q1,h⟩:=h
 obtain⟨xA,rfl,h⟩:=h
 obtain⟨xB,xN,xC,q2,h⟩:=h
 obtain⟨f,rfl,h⟩:=h
 obtain⟨q3,h⟩:=h
 obtain⟨g,q4,h⟩:=h
 obtain⟨r,q5,h⟩:=h
 obtain⟨j,rfl,h⟩:=h
 obtain⟨q,l,m,q6,h⟩:=h
 obtain⟨e,rfl,h⟩:=h
 obtain⟨q7,h⟩:=h
 obtain⟨p,q8,h⟩:=h
 refine S_regionG 1 (Code.ops K3) [(16,d,[vp (some xA)]),(16,xA,[vs (some f) xN xC]),(16,((f.add (Int.toNat a*72)).add 7),[vi g]),(16,d,[vp (some j)]),(16,j,[vs (some e) l m]),(16,((e.add (Int.toNat b*72)).add 7),[vi p])] 18 (bv 18 0) (by kernel_rfl) (by kernel_rfl) (by kernel_rfl) (by kernel_rfl) (by kernel_rfl) (show FactsAt _ _ _ from⟨⟨q1,trivial⟩,⟨q2,trivial⟩,⟨q4,trivial⟩,⟨q5,trivial⟩,⟨q6,trivial⟩,⟨q8,trivial⟩,trivial⟩) ?_
 refine T_g 0 (some 6) (vp (some xA)) (bv 18 1) [(0,vi a),(1,vi b),(2,vp (some d)),(6,vp (some xA))] (loadN 69 (vp (some d))) (held_one 16 (λ_=>by kernel_rfl) (List.Mem.head _) (.inl (by kernel_rfl)))<| T_gp1 1 7 (vp (some xA)) (bv 18 3) [6]<| T_gp1 2 8 (vp (some xA)) (bv 18 7) [7]<| T_g1 3 9 (vs (some f) xN xC) (bv 18 15) [8] (loadN 110 (vp (some xA))) (held_one 16 (λ_=>by kernel_rfl) (List.Mem.tail _ (List.Mem.head _)) (.inl (by kernel_rfl)))<| T_gp1 4 10 (vi a) (bv 18 31) [0]<| T_g1 5 11 (vp (some (f.add (Int.toNat a*72)))) (bv 18 63) [9,10] (indexAtN 110 (vs (some f) xN xC) (vi a)) (λ_ w _ _ _=>indexAt_run (P:=Tryz.prog) (t:=110) (elem:=116) (sz:=72) (a:=f) (len:=xN) (cap:=xC) (k:=.i64) (i:=a) Tryz.underlying110 (λ_=>by kernel_rfl) q3.1 q3.2 w)<| T_gp1 6 12 (vp (some ((f.add (Int.toNat a*72)).add 7))) (bv 18 127) [11]<| T_g1 7 13 (vi g) (bv 18 255) [12] (loadN 3 (vp (some ((f.add (Int.toNat a*72)).add 7)))) (held_one 16 (λ_=>by kernel_rfl) (List.Mem.tail _ (List.Mem.tail _ (List.Mem.head _))) (.inl (by kernel_rfl)))<| T_g1 8 14 (vp (some j)) (bv 18 511) [2] (loadN 69 (vp (some d))) (held_one 16 (λ_=>by kernel_rfl) (List.Mem.tail _ (List.Mem.tail _ (List.Mem.tail _ (List.Mem.head _)))) (.inl (by kernel_rfl))) ?_
 refine T_gp1 9 15 (vp (some j)) (bv 18 1023) [14]<| T_gp1 10 16 (vp (some j)) (bv 18 2047) [15]<| T_g1 11 17 (vs (some e) l m) (bv 18 4095) [16] (loadN 110 (vp (some j))) (held_one 16 (λ_=>by kernel_rfl) (List.Mem.tail _ (List.Mem.tail _ (List.Mem.tail _ (List.Mem.tail _ (List.Mem.head _))))) (.inl (by kernel_rfl)))<| T_gp1 12 18 (vi b) (bv 18 8191) [1]<| T_g1 13 19 (vp (some (e.add (Int.toNat b*72)))) (bv 18 16383) [17,18] (indexAtN 110 (vs (some e) l m) (vi b)) (λ_ w _ _ _=>indexAt_run (P:=Tryz.prog) (t:=110) (elem:=116) (sz:=72) (a:=e) (len:=l) (cap:=m) (k:=.i64) (i:=b) Tryz.underlying110 (λ_=>by kernel_rfl) q7.1 q7.2 w)<| T_gp1 14 20 (vp (some ((e.add (Int.toNat b*72)).add 7))) (bv 18 32767) [19]<| T_g1 15 21 (vi p) (bv 18 65535) [20] (loadN 3 (vp (some ((e.add (Int.toNat b*72)).add 7)))) (held_one 16 (λ_=>by kernel_rfl) (List.Mem.tail _ (List.Mem.tail _ (List.Mem.tail _ (List.Mem.tail _ (List.Mem.tail _ (List.Mem.head _)))))) (.inl (by kernel_rfl))) ?_
 refine G_call 16 (some 22) (bv 18 131071) 54 #[vi g,vi p] (by kernel_rfl) (λ_=>by kernel_rfl) h (by kernel_rfl) ?_;clear h
 rintro v H1 ⟨n,rfl,h⟩
 refine⟨[(22,vi n)],pk,(show FactsAt _ _ _ from⟨trivial,trivial,trivial,trivial,trivial,trivial,trivial⟩),?_⟩
 refine T_g 17 (some 5) (vi n) (bv 18 262143) [(5,vi n)] (pure (.value (vi n)):Sem Next) (λ_ _ _ _ _=>rfl) ?_
 refine G_sub [(5,vi n)] sk ?_
 refine G_end (by kernel_rfl) ?_
 refine S_then ?_
 exact T_ret [5] [vi n] hQ h
end seg_Mem_Taken_1

/-! (*moraine/seg.Mem).Free -/
namespace seg_Mem_Free
def K0:=Func.code Tryz.f57
end seg_Mem_Free
def seg_Mem_Free.pt(m:Option Addr)(H:Array Obj)(R:Value->Array Obj->Prop):Prop:=
 onPtr m (
 R (.int .i64 0) H) (λmA=>
 ∃x:Int,hat H (mA.add 2)=some (.int .i64 x)/\
 R (.int .i64 x) H)
namespace seg_Mem_Free
theorem link{m:Option Addr}{H:Array Obj}{R:Value->Array Obj->Prop}(h:pt m H R):C m H R:=by
 refine T_en K0 9 Tryz.func57 ?_
 intro w0 Q hQ
 unfold pt at h
 refine T_su [(0,vp m)]<| T_srz 0<| T_ed 1 [] []<| T_sz<| T_srz 1<| T_nd 1 [] [(3,vp m)] ?_
 rcases m with _ | mA
 ·rw[onPtr_none]at h
  exact T_ne 1 [(0,vp none),(4,.bool true)]<| T_tz 4<| T_srz 2<| T_nr 1 [2] [vi 0] hQ h
 rw[onPtr_some]at h
 refine T_ne 1 [(0,vp (some mA)),(4,.bool false)]<| T_fz 4<| T_kt<| T_srz 3<| T_n 3 [(7,vp (some (mA.add 2)))] ?_
 obtain⟨x,q1,h⟩:=h
 exact T_l1 8 3 q1 [7]<| T_nr 1 [2] [vi x] hQ h
end seg_Mem_Free

/-! (*moraine/seg.Mem).Give -/
namespace seg_Mem_Give
def K0:=Func.code Tryz.f97
end seg_Mem_Give
def seg_Mem_Give.pt(m:Option Addr)(d:Int)(H:Array Obj)(R:Value->Array Obj->Prop):Prop:=
 seg_Mem_at.C m d H (λv H1=> ∃x:Option Addr,v=.pointer x/\
 onPtr x (
 R (.int .i64 19) H1) (λxA=>
 (CanPuts H1 xA 0 72)/\ ∀H2,H2=hputs H1 xA (List.replicate 8 (.int .i64 0)++List.replicate 64 (.int .u64 0):List Value) 0->
 ∃mA:Addr,m=some mA/\
 ∃b:Int,hat H2 (mA.add 2)=some (.int .i64 b)/\
 (CanPuts H2 (mA.add 2) 0 1)/\ ∀H3,H3=hputs H2 (mA.add 2) [.int .i64 (IntKind.wrap .i64 (b+1))] 0->
 R (.int .i64 0) H3))
namespace seg_Mem_Give
theorem link{m:Option Addr}{d:Int}{H:Array Obj}{R:Value->Array Obj->Prop}(h:pt m d H R):C m d H R:=by
 refine T_en K0 21 Tryz.func97 ?_
 intro w0 Q hQ
 unfold pt at h
 refine T_su [(0,vp m),(1,vi d)]<| T_srz 0<| T_ed 1 [] []<| T_srz 1<| T_nd 2 [1] [(6,vp m),(7,vi d)] ?_
 refine T_c (some 8) h ?_;clear h
 rintro v H1 ⟨x,rfl,h⟩
 refine T_pd [6,7] [(8,vp x)]<| T_ed 1 [8] [(5,vp x)]<| T_sz<| T_srz 2<| T_nd 1 [] [(9,vp x)] ?_
 rcases x with _ | xA
 ·rw[onPtr_none]at h
  exact T_ed 1 [5,9] [(5,vp none),(10,.bool true)]<| T_tz 10<| T_srz 3<| T_nr 1 [4] [vi 19] hQ h
 rw[onPtr_some]at h
 refine T_ed 1 [5,9] [(5,vp (some xA)),(10,.bool false)]<| T_fz 10<| T_kt<| T_srz 4<| T_nd 3 [5,10] [(12,.agg (List.replicate 8 (vi 0)++List.replicate 64 (vu 0):List Value).toArray),(13,vp (some xA))] ?_
 obtain⟨q2,h⟩:=h
 refine N_skipop none (storeN 116 (vp (some xA)) (.agg (List.replicate 8 (vi 0)++List.replicate 64 (vu 0):List Value).toArray)) (λHz=>Hz=hputs H1 xA (List.replicate 8 (vi 0)++List.replicate 64 (vu 0):List Value) 0) (λ_=>by kernel_rfl) (by intro w hw;obtain⟨w1,g1,g2,g3⟩:=ss_store (P:=Tryz.prog) (H:=H1) (t:=116) (a:=xA) (v:=(.agg (List.replicate 8 (vi 0)++List.replicate 64 (vu 0):List Value).toArray)) (List.replicate 8 (vi 0)++List.replicate 64 (vu 0):List Value) 72 (by kernel_rfl) (by kernel_rfl) (λ_=>by kernel_rfl) (by kernel_rfl) q2 w hw;exact⟨w1,g1,g2,g3⟩) ?_
 intro H2 e1
 replace h:=h H2 e1
 refine⟨[(0,vp m)],pk,?_⟩
 refine T_e<| T_srz 5<| T_n 1 [(14,vp m)] ?_
 obtain⟨mA,rfl,h⟩:=h
 refine T_n 2 [(14,vp (some mA)),(16,vp (some (mA.add 2)))] ?_
 obtain⟨b,q3,h⟩:=h
 refine T_l1 17 3 q3 [16]<| T_n 3 [(18,vi (IntKind.wrap .i64 (b+1))),(20,vp (some (mA.add 2)))] ?_
 obtain⟨q5,h⟩:=h
 refine T_st1 3 (vi (IntKind.wrap .i64 (b+1))) q5 ?_
 intro H3 e4
 replace h:=h H3 e4
 refine⟨[],pk,?_⟩
 exact T_e<| T_srz 6<| T_nr 1 [4] [vi 0] hQ h
end seg_Mem_Give

/-! (*moraine/space.Space).Words -/
namespace space_Space_Words
def K0:=Func.code Tryz.f12
def K2:=cb K0
def K4:=cb K2
def K12:=cb K4
def K13:=ca K12
def K16:=cb K13
def K17:=ca K16
def K18:=ca K17
end space_Space_Words
def space_Space_Words.pt(s m:Option Addr)(n l:Nat)(H:Array Obj)(R:Value->Array Obj->Prop):Prop:=
 space_Space_none.C s H (λv H1=> ∃x:Bool,v=.bool x/\
 if x=true then(
 R (.int .i64 0) H1)
 else
 ∃sA:Addr,s=some sA/\
 ∃z:Option Addr,hat H1 sA=some (.pointer z)/\
 seg_Mem_Taken.C z m n l H1 (λae H2=> ∃(xB:Option Addr) (xN xC:Nat),ae=.slice xB xN xC/\
 ∃(ab:Int->Int->Array Obj->Prop) (m19:Int->Int->Array Obj->Nat),ab 0 0 H2/\ ∀(d:Int) (s19:Int) (H3:Array Obj),ab d s19 H3->
 if s19< (xN:Int)then(
 ∃o:Addr,xB=some o/\
 ((0:Int)<=s19/\s19< (xN:Int))/\
 ∃r:Int,hat H3 (o.add (Int.toNat s19*1))=some (.int .i64 r)/\
 ∃aa:Option Addr,hat H3 sA=some (.pointer aa)/\
 seg_Mem_Seg.C aa r H3 (λac H4=> ∃(q p u e g f j:Int) (rb:Bool),ac=.tuple #[.agg #[.int .i64 q,.int .i64 p,.int .i64 u,.int .i64 e,.int .i64 g,.int .i64 f,.int .i64 j],.bool rb]/\
 ∀(b:Nat) (H5:Array Obj),b=H4.size->H5=H4.push (.cells #[.int .i64 0,.int .i64 0,.int .i64 0,.int .i64 0,.int .i64 0,.int .i64 0,.int .i64 0] 76)->
 (CanPuts H5 (ad b) 0 7)/\ ∀H6,H6=hputs H5 (ad b) [.int .i64 q,.int .i64 p,.int .i64 u,.int .i64 e,.int .i64 g,.int .i64 f,.int .i64 j] 0->
 ∃y:Int,hat H6 ((ad b).add 2)=some (.int .i64 y)/\
 (ab (IntKind.wrap .i64 (d+y)) (IntKind.wrap .i64 (s19+1)) H6/\m19 (IntKind.wrap .i64 (d+y)) (IntKind.wrap .i64 (s19+1)) H6<m19 d s19 H3)))
 else
 R (.int .i64 d) H3))
namespace space_Space_Words
theorem link{s m:Option Addr}{n l:Nat}{H:Array Obj}{R:Value->Array Obj->Prop}(h:pt s m n l H R):C s m n l H R:=by
 refine T_en K0 38 Tryz.func12 ?_
 intro w0 Q hQ
 unfold pt at h
 refine T_su [(0,vp s),(1,vs m n l)]<| T_srz 0<| T_ed 1 [] []<| T_sz<| T_srz 1<| T_nd 1 [] [(10,vp s)] ?_
 refine T_c (some 11) h ?_;clear h
 rintro v H1 ⟨x,rfl,h⟩
 refine T_pd [10] [(11,.bool x)]<| T_e ?_
 by_cases c1:x=true
 ·rw[if_pos c1]at h
  exact T_cTz 11 c1<| T_srz 2<| T_nr 1 [4] [vi 0] hQ h
 rw[if_neg c1]at h
 refine T_cFz 11 (eq_false_of_ne_true c1)<| T_kt<| T_srz 3<| T_ed 1 [11] [(5,vi 0)]<| T_sz<| T_srz 4<| T_nd 1 [] [(12,vp s)] ?_
 obtain⟨sA,rfl,h⟩:=h
 refine T_nd 2 [0,12] [(0,vp (some sA)),(14,vp (some sA))] ?_
 obtain⟨z,q3,h⟩:=h
 refine T_l1 15 69 q3 [14]<| T_nd 1 [1] [(16,vs m n l)] ?_
 refine T_c (some 17) h ?_;clear h
 rintro ae H2 ⟨xB,xN,xC,rfl,h⟩
 refine T_pd [15,16] [(17,vs xB xN xC)]<| T_ed 2 [] [(18,vi xN),(19,vi 0)]<| T_bz 0 ?_
 obtain⟨ab,m19,i4,i5⟩:=h
 refine S_loop (x:=K18) (σ:=Int×Int) (λs_=> [(0,vp (some sA)),(5,vi s_.1),(17,vs xB xN xC),(18,vi xN),(19,vi s_.2)]) (λs_ H=>ab s_.1 s_.2 H) (λs_ H=>m19 s_.1 s_.2 H) ((0,0):Int×Int) (by kernel_rfl) i4 sk ?_
 rintro⟨d,s19⟩ H3 i6
 have h:=i5 d s19 H3 i6
 refine T_su [(0,vp (some sA)),(5,vi d),(17,vs xB xN xC),(18,vi xN),(19,vi s19)]<| T_srz 5<| T_ed 1 [] [(20,.bool (decide (s19< (xN:Int))))]<| T_sz ?_
 by_cases c7:s19< (xN:Int)
 ·rw[if_pos c7]at h
  refine T_cTz 20 (decide_eq_true c7)<| T_kt<| T_sz<| T_bz 1<| T_srz 6<| T_ud [20] [] ?_
  obtain⟨o,rfl,h⟩:=h
  obtain⟨q9,h⟩:=h
  refine T_xd (some 21) 67 3 1 o xN xC .i64 s19 Tryz.underlying67 q9.1 q9.2 [17] [(17,vs (some o) xN xC),(21,vp (some (o.add (Int.toNat s19*1))))] ?_
  obtain⟨r,q10,h⟩:=h
  refine T_l1 22 3 q10 [21]<| T_ed 1 [22] [(7,vi r)]<| T_srz 7<| T_nd 3 [] [(26,vp (some sA))] ?_
  obtain⟨aa,q11,h⟩:=h
  refine T_l1 27 69 q11 [26]<| T_nd 1 [7] [(28,vi r)] ?_
  refine T_c (some 29) h ?_;clear h
  rintro ac H4 ⟨q,p,u,e,g,f,j,rb,rfl,h⟩
  refine T_pd [27,28] [(29,.tuple #[.agg #[vi q,vi p,vi u,vi e,vi g,vi f,vi j],.bool rb])]<| T_nd 3 [29] [(30,.agg #[vi q,vi p,vi u,vi e,vi g,vi f,vi j]),(31,.bool rb)]<| T_nw (some 8) (λb=>vp (pa b)) (.cells #[vi 0,vi 0,vi 0,vi 0,vi 0,vi 0,vi 0] 76) ?_
  intro b H5 e12 e13
  replace h:=h b H5 e12 e13
  refine T_pd [] [(8,vp (pa b))] ?_
  obtain⟨q15,h⟩:=h
  refine T_sta 76 [vi q,vi p,vi u,vi e,vi g,vi f,vi j] q15 ?_
  intro H6 e14
  replace h:=h H6 e14
  refine T_pd [30] []<| T_ed 1 [31] []<| T_rz 8<| T_nd 2 [5,8] [(32,vi d),(33,vp (some ((ad b).add 2)))] ?_
  obtain⟨y,q16,h⟩:=h
  refine T_l1 34 3 q16 [33]<| T_nd 2 [32,34] [(5,vi (IntKind.wrap .i64 (d+y)))] ?_
  refine N_end (by kernel_rfl) ?_
  refine S_blockEnd ?_
  refine S_then ?_
  refine T_rz 9<| T_ed 2 [19] [(19,vi (IntKind.wrap .i64 (s19+1)))] ?_
  exact S_round (((IntKind.wrap .i64 (d+y)),(IntKind.wrap .i64 (s19+1))):Int×Int) sk h
 rw[if_neg c7]at h
 refine T_cFz 20 (decide_eq_false c7) ?_
 refine S_exit 0 (by kernel_rfl) ?_
 refine S_exitThen ?_
 refine S_exitThen ?_
 refine S_exitHere ?_
 refine S_then ?_
 exact T_srz 10<| T_nr 2 [4] [vi d] hQ h
end space_Space_Words

/-! (*moraine/space.Space).Fresh -/
namespace space_Space_Fresh
def K0:=Func.code Tryz.f58
def K2:=cb K0
def K8:=cb K2
def K9:=ca K8
def K10:=ca K9
def K12:=cb K10
def K14:=cb K12
def K17:=ca K14
def K19:=ca K17
def K21:=cb K19
def K22:=ca K21
def K25:=cb K22
def K26:=ca K25
def K27:=ca K26
end space_Space_Fresh
def space_Space_Fresh.pt(s e:Option Addr)(b d:Nat)(H:Array Obj)(R:Value->Array Obj->Prop):Prop:=
 onPtr s (
 R (.tuple #[]) H) (λsA=>
 ∃(l:Int->Array Obj->Prop) (m11:Int->Array Obj->Nat),l 0 H/\ ∀(s9:Int) (H1:Array Obj),l s9 H1->
 if s9<5 then(
 ∃(j:Int->Array Obj->Prop) (m28:Int->Array Obj->Nat),j 0 H1/\ ∀(g:Int) (H2:Array Obj),j g H2->
 if g< (b:Int)then(
 ∃f:Addr,e=some f/\
 ((0:Int)<=g/\g< (b:Int))/\
 ∃x:Int,hat H2 (f.add (Int.toNat g*1))=some (.int .i64 x)/\
 if x=s9 then(
 ((0:Int)<=s9/\s9< (5:Int))/\
 (CanPuts H2 ((sA.add 1).add (Int.toNat s9*4)) 0 4)/\ ∀H3,H3=hputs H2 ((sA.add 1).add (Int.toNat s9*4)) [.int .i64 0,.int .i64 0,.int .i64 0,.int .i64 0] 0->
 (j (IntKind.wrap .i64 (g+1)) H3/\m28 (IntKind.wrap .i64 (g+1)) H3<m28 g H2))
 else
 (j (IntKind.wrap .i64 (g+1)) H2/\m28 (IntKind.wrap .i64 (g+1)) H2<m28 g H2))
 else
 if(b:Int)=0 then(
 ((0:Int)<=s9/\s9< (5:Int))/\
 (CanPuts H2 ((sA.add 1).add (Int.toNat s9*4)) 0 4)/\ ∀H4,H4=hputs H2 ((sA.add 1).add (Int.toNat s9*4)) [.int .i64 0,.int .i64 0,.int .i64 0,.int .i64 0] 0->
 (l (IntKind.wrap .i64 (s9+1)) H4/\m11 (IntKind.wrap .i64 (s9+1)) H4<m11 s9 H1))
 else
 (l (IntKind.wrap .i64 (s9+1)) H2/\m11 (IntKind.wrap .i64 (s9+1)) H2<m11 s9 H1))
 else
 R (.tuple #[]) H1)
namespace space_Space_Fresh
theorem link{s e:Option Addr}{b d:Nat}{H:Array Obj}{R:Value->Array Obj->Prop}(h:pt s e b d H R):C s e b d H R:=by
 refine T_en K0 38 Tryz.func58 ?_
 intro w0 Q hQ
 unfold pt at h
 refine T_su [(0,vp s),(1,vs e b d)]<| T_sz<| T_srz 0<| T_nd 1 [] [(7,vp s)] ?_
 rcases s with _ | sA
 ·rw[onPtr_none]at h
  exact T_ed 1 [0,7] [(0,vp none),(8,.bool true)]<| T_tz 8<| T_ret [] [] hQ h
 rw[onPtr_some]at h
 refine T_ed 1 [0,7] [(0,vp (some sA)),(8,.bool false)]<| T_fz 8<| T_kt<| T_srz 1<| T_ed 1 [8] [(9,vi 0)]<| T_bz 0 ?_
 obtain⟨l,m11,i1,i2⟩:=h
 refine S_loop (x:=K10) (σ:=Int) (λs_=> [(0,vp (some sA)),(1,vs e b d),(9,vi s_)]) (λs_ H=>l s_ H) (λs_ H=>m11 s_ H) (0:Int) (by kernel_rfl) i1 sk ?_
 rintro s9 H1 i3
 have h:=i2 s9 H1 i3
 refine T_su [(0,vp (some sA)),(1,vs e b d),(9,vi s9)]<| T_srz 2<| T_ed 1 [] [(10,.bool (decide (s9<5)))]<| T_sz ?_
 by_cases c4:s9<5
 ·rw[if_pos c4]at h
  refine T_cTz 10 (decide_eq_true c4)<| T_kt<| T_sz<| T_bz 1<| T_srz 3<| T_ed 2 [10] [(4,vi s9)]<| T_sz<| T_srz 4<| T_ed 3 [] [(12,vs e b d),(13,vi b),(14,vi 0)] ?_
  refine T_bz 2 ?_
  obtain⟨j,m28,i6,i7⟩:=h
  refine S_loop (x:=K27) (σ:=Int) (λs_=> [(0,vp (some sA)),(1,vs e b d),(4,vi s9),(9,vi s9),(12,vs e b d),(13,vi b),(14,vi s_)]) (λs_ H=>j s_ H) (λs_ H=>m28 s_ H) (0:Int) (by kernel_rfl) i6 sk ?_
  rintro g H2 i8
  have h:=i7 g H2 i8
  refine T_su [(0,vp (some sA)),(1,vs e b d),(4,vi s9),(9,vi s9),(12,vs e b d),(13,vi b),(14,vi g)]<| T_srz 5<| T_ed 1 [] [(15,.bool (decide (g< (b:Int))))]<| T_sz ?_
  by_cases c9:g< (b:Int)
  ·rw[if_pos c9]at h
   refine T_cTz 15 (decide_eq_true c9)<| T_kt<| T_sz<| T_bz 3<| T_srz 6<| T_ud [15] [] ?_
   obtain⟨f,rfl,h⟩:=h
   obtain⟨q11,h⟩:=h
   refine T_xd (some 16) 67 3 1 f b d .i64 g Tryz.underlying67 q11.1 q11.2 [1,12] [(1,vs (some f) b d),(12,vs (some f) b d),(16,vp (some (f.add (Int.toNat g*1))))] ?_
   obtain⟨x,q12,h⟩:=h
   refine T_l1 17 3 q12 [16]<| T_ed 1 [17] [(6,vi x)]<| T_srz 7<| T_ed 3 [6] [(20,.bool (x==s9))] ?_
   by_cases c13:x=s9
   ·rw[if_pos c13]at h
    refine T_cTz 20 (beq_iff_eq.mpr c13)<| T_rz 8<| T_nd 5 [20] [(22,vi s9),(23,.agg #[vi 0,vi 0,vi 0,vi 0]),(25,vp (some (sA.add 1)))] ?_
    obtain⟨q15,h⟩:=h
    refine T_v1 26 (indexAtN 71 (vp (some (sA.add 1))) (vi s9)) (vp (some ((sA.add 1).add (Int.toNat s9*4)))) (λw _=>indexArr_run (P:=Tryz.prog) (t:=71) (elem:=70) (sz:=4) (n:=5) (a:=(sA.add 1)) (k:=.i64) (i:=s9) Tryz.underlying71 (λ_=>by kernel_rfl) q15.1 q15.2 w) [22,25] ?_
    obtain⟨q17,h⟩:=h
    refine T_sta 70 [vi 0,vi 0,vi 0,vi 0] q17 ?_
    intro H3 e16
    replace h:=h H3 e16
    refine T_pd [23,26] [] ?_
    refine N_end (by kernel_rfl) ?_
    refine S_blockEnd ?_
    refine S_then ?_
    refine T_rz 9<| T_ed 2 [14] [(14,vi (IntKind.wrap .i64 (g+1)))] ?_
    exact S_round ((IntKind.wrap .i64 (g+1)):Int) sk h
   rw[if_neg c13]at h
   refine T_cFz 20 (beq_eq_false_iff_ne.mpr c13)<| T_k ?_
   refine S_blockEnd ?_
   refine S_then ?_
   refine T_rz 9<| T_ed 2 [14,20] [(14,vi (IntKind.wrap .i64 (g+1)))] ?_
   exact S_round ((IntKind.wrap .i64 (g+1)):Int) sk h
  rw[if_neg c9]at h
  refine T_cFz 15 (decide_eq_false c9) ?_
  refine S_exit 2 (by kernel_rfl) ?_
  refine S_exitThen ?_
  refine S_exitThen ?_
  refine S_exitHere ?_
  refine S_then ?_
  refine T_srz 10<| T_ed 3 [12,13,14,15] [(30,.bool ((b:Int)==0))] ?_
  by_cases c18:(b:Int)=0
  ·rw[if_pos c18]at h
   refine T_cTz 30 (beq_iff_eq.mpr c18)<| T_rz 11<| T_nd 5 [4,30] [(32,vi s9),(33,.agg #[vi 0,vi 0,vi 0,vi 0]),(35,vp (some (sA.add 1)))] ?_
   obtain⟨q20,h⟩:=h
   refine T_v1 36 (indexAtN 71 (vp (some (sA.add 1))) (vi s9)) (vp (some ((sA.add 1).add (Int.toNat s9*4)))) (λw _=>indexArr_run (P:=Tryz.prog) (t:=71) (elem:=70) (sz:=4) (n:=5) (a:=(sA.add 1)) (k:=.i64) (i:=s9) Tryz.underlying71 (λ_=>by kernel_rfl) q20.1 q20.2 w) [32,35] ?_
   obtain⟨q22,h⟩:=h
   refine T_sta 70 [vi 0,vi 0,vi 0,vi 0] q22 ?_
   intro H4 e21
   replace h:=h H4 e21
   refine T_pd [33,36] [] ?_
   refine N_end (by kernel_rfl) ?_
   refine S_blockEnd ?_
   refine S_then ?_
   refine T_rz 12<| T_ed 2 [9] [(9,vi (IntKind.wrap .i64 (s9+1)))] ?_
   exact S_round ((IntKind.wrap .i64 (s9+1)):Int) sk h
  rw[if_neg c18]at h
  refine T_cFz 30 (beq_eq_false_iff_ne.mpr c18)<| T_k ?_
  refine S_blockEnd ?_
  refine S_then ?_
  refine T_rz 12<| T_ed 2 [4,9,30] [(9,vi (IntKind.wrap .i64 (s9+1)))] ?_
  exact S_round ((IntKind.wrap .i64 (s9+1)):Int) sk h
 rw[if_neg c4]at h
 refine T_cFz 10 (decide_eq_false c4) ?_
 refine S_exit 0 (by kernel_rfl) ?_
 refine S_exitThen ?_
 refine S_exitThen ?_
 refine S_exitHere ?_
 exact S_doneN (fn:=Tryz.f58) [] hQ (show ResOK _ _ _ [] _ from .nil) h
end space_Space_Fresh

/-! (*moraine/space.Space).Give -/
namespace space_Space_Give
def K0:=Func.code Tryz.f61
def K2:=cb K0
def K4:=cb K2
def K11:=ca K4
def K14:=cb K11
def K16:=cb K14
def K17:=ca K16
end space_Space_Give
def space_Space_Give.pt(s:Option Addr)(d:Int)(H:Array Obj)(R:Value->Array Obj->Prop):Prop:=
 space_Space_none.C s H (λv H1=> ∃x:Bool,v=.bool x/\
 if x=true then(
 R (.int .i64 19) H1)
 else
 ∃sA:Addr,s=some sA/\
 ∃ae:Option Addr,hat H1 sA=some (.pointer ae)/\
 seg_Mem_Seg.C ae d H1 (λaj H2=> ∃(q o aa e g f j:Int) (rb:Bool),aj=.tuple #[.agg #[.int .i64 q,.int .i64 o,.int .i64 aa,.int .i64 e,.int .i64 g,.int .i64 f,.int .i64 j],.bool rb]/\
 ∀(b:Nat) (H3:Array Obj),b=H2.size->H3=H2.push (.cells #[.int .i64 0,.int .i64 0,.int .i64 0,.int .i64 0,.int .i64 0,.int .i64 0,.int .i64 0] 76)->
 (CanPuts H3 (ad b) 0 7)/\ ∀H4,H4=hputs H3 (ad b) [.int .i64 q,.int .i64 o,.int .i64 aa,.int .i64 e,.int .i64 g,.int .i64 f,.int .i64 j] 0->
 if rb=true then(
 ∃m:Int,hat H4 (ad b)=some (.int .i64 m)/\
 ∃r:Int,hat H4 ((ad b).add 1)=some (.int .i64 r)/\
 ((0:Int)<=m/\m< (5:Int))/\
 ((0:Int)<=r/\r< (4:Int))/\
 ∃u:Int,hat H4 (((sA.add 1).add (Int.toNat m*4)).add (Int.toNat r*1))=some (.int .i64 u)/\
 if u=(IntKind.wrap .i64 (d+1))then(
 ∃l:Int,hat H4 (ad b)=some (.int .i64 l)/\
 ∃p:Int,hat H4 ((ad b).add 1)=some (.int .i64 p)/\
 ((0:Int)<=l/\l< (5:Int))/\
 ((0:Int)<=p/\p< (4:Int))/\
 (CanPuts H4 (((sA.add 1).add (Int.toNat l*4)).add (Int.toNat p*1)) 0 1)/\ ∀H5,H5=hputs H4 (((sA.add 1).add (Int.toNat l*4)).add (Int.toNat p*1)) [.int .i64 0] 0->
 ∃af:Option Addr,hat H5 sA=some (.pointer af)/\
 seg_Mem_Give.C af d H5 (λai H6=> ∃ag:Int,ai=.int .i64 ag/\
 R (.int .i64 ag) H6))
 else
 ∃z:Option Addr,hat H4 sA=some (.pointer z)/\
 seg_Mem_Give.C z d H4 (λak H7=> ∃ac:Int,ak=.int .i64 ac/\
 R (.int .i64 ac) H7))
 else
 ∃y:Option Addr,hat H4 sA=some (.pointer y)/\
 seg_Mem_Give.C y d H4 (λah H8=> ∃ab:Int,ah=.int .i64 ab/\
 R (.int .i64 ab) H8)))
namespace space_Space_Give
theorem link{s:Option Addr}{d:Int}{H:Array Obj}{R:Value->Array Obj->Prop}(h:pt s d H R):C s d H R:=by
 refine T_en K0 49 Tryz.func61 ?_
 intro w0 Q hQ
 unfold pt at h
 refine T_su [(0,vp s),(1,vi d)]<| T_srz 0<| T_ed 1 [] []<| T_sz<| T_srz 1<| T_nd 1 [] [(7,vp s)] ?_
 refine T_c (some 8) h ?_;clear h
 rintro v H1 ⟨x,rfl,h⟩
 refine T_pd [7] [(8,.bool x)]<| T_e ?_
 by_cases c1:x=true
 ·rw[if_pos c1]at h
  exact T_cTz 8 c1<| T_srz 2<| T_nr 1 [4] [vi 19] hQ h
 rw[if_neg c1]at h
 refine T_cFz 8 (eq_false_of_ne_true c1)<| T_kt<| T_sz<| T_srz 3<| T_nd 1 [8] [(10,vp s)] ?_
 obtain⟨sA,rfl,h⟩:=h
 refine T_nd 2 [0,10] [(0,vp (some sA)),(12,vp (some sA))] ?_
 obtain⟨ae,q3,h⟩:=h
 refine T_l1 13 69 q3 [12]<| T_nd 1 [] [(14,vi d)] ?_
 refine T_c (some 15) h ?_;clear h
 rintro aj H2 ⟨q,o,aa,e,g,f,j,rb,rfl,h⟩
 refine T_pd [13,14] [(15,.tuple #[.agg #[vi q,vi o,vi aa,vi e,vi g,vi f,vi j],.bool rb])]<| T_nd 3 [15] [(16,.agg #[vi q,vi o,vi aa,vi e,vi g,vi f,vi j]),(17,.bool rb)]<| T_nw (some 5) (λb=>vp (pa b)) (.cells #[vi 0,vi 0,vi 0,vi 0,vi 0,vi 0,vi 0] 76) ?_
 intro b H3 e4 e5
 replace h:=h b H3 e4 e5
 refine T_pd [] [(5,vp (pa b))] ?_
 obtain⟨q7,h⟩:=h
 refine T_sta 76 [vi q,vi o,vi aa,vi e,vi g,vi f,vi j] q7 ?_
 intro H4 e6
 replace h:=h H4 e6
 refine T_pd [16] []<| T_ed 1 [17] [(6,.bool rb)]<| T_sz<| T_rqz 4<| T_q1 18 (.bool rb) [6]<| T_q1 19 (.bool rb) [18] ?_
 by_cases c8:rb=true
 ·rw[if_pos c8]at h
  refine Q_bd 19 c8<| T_q1 20 (vp (some sA)) []<| T_q1 21 (vp (pa b)) [] ?_
  obtain⟨m,q10,h⟩:=h
  refine T_qld (some 22) 3 q10 [21] [(22,vi m)]<| T_q1 23 (vp (some ((ad b).add 1))) [] ?_
  obtain⟨r,q11,h⟩:=h
  refine T_qld (some 24) 3 q11 [23] [(24,vi r)]<| T_q1 25 (vp (some sA)) [20]<| T_q1 26 (vp (some (sA.add 1))) [25] ?_
  obtain⟨q12,h⟩:=h
  refine Q_op (some 27) (indexAtN 71 (vp (some (sA.add 1))) (vi m)) (vp (some ((sA.add 1).add (Int.toNat m*4)))) (λ_=>by kernel_rfl) (λw _=>indexArr_run (P:=Tryz.prog) (t:=71) (elem:=70) (sz:=4) (n:=5) (a:=(sA.add 1)) (k:=.i64) (i:=m) Tryz.underlying71 (λ_=>by kernel_rfl) q12.1 q12.2 w) [(0,vp (some sA)),(1,vi d),(5,vp (pa b)),(19,.bool true),(24,vi r),(27,vp (some ((sA.add 1).add (Int.toNat m*4))))] pk ?_
  obtain⟨q13,h⟩:=h
  refine Q_op (some 28) (indexAtN 70 (vp (some ((sA.add 1).add (Int.toNat m*4)))) (vi r)) (vp (some (((sA.add 1).add (Int.toNat m*4)).add (Int.toNat r*1)))) (λ_=>by kernel_rfl) (λw _=>indexArr_run (P:=Tryz.prog) (t:=70) (elem:=3) (sz:=1) (n:=4) (a:=((sA.add 1).add (Int.toNat m*4))) (k:=.i64) (i:=r) Tryz.underlying70 (λ_=>by kernel_rfl) q13.1 q13.2 w) [(0,vp (some sA)),(1,vi d),(5,vp (pa b)),(19,.bool true),(28,vp (some (((sA.add 1).add (Int.toNat m*4)).add (Int.toNat r*1))))] pk ?_
  obtain⟨u,q14,h⟩:=h
  refine T_ql (some 29) 3 q14 [(0,vp (some sA)),(1,vi d),(5,vp (pa b)),(19,.bool true),(29,vi u)]<| T_q1 30 (vi d) []<| T_q1 31 (vi (IntKind.wrap .i64 (d+1))) [30]<| T_q1 32 (.bool (u==(IntKind.wrap .i64 (d+1)))) [29,31]<| T_q1 33 (.bool (u==(IntKind.wrap .i64 (d+1)))) [19,32] ?_
  refine Q_sub [(0,vp (some sA)),(1,vi d),(5,vp (pa b)),(33,.bool (u==(IntKind.wrap .i64 (d+1))))] sk ?_
  refine T_qe ?_
  by_cases c15:u=(IntKind.wrap .i64 (d+1))
  ·rw[if_pos c15]at h
   refine T_cTz 33 (beq_iff_eq.mpr c15) ?_
   obtain⟨l,q17,h⟩:=h
   obtain⟨p,q18,h⟩:=h
   obtain⟨q19,h⟩:=h
   obtain⟨q20,h⟩:=h
   refine S_regionG 5 (Code.ops K17) [(9,(ad b),[vi l]),(9,((ad b).add 1),[vi p])] 10 (bv 10 0) (by kernel_rfl) (by kernel_rfl) (by kernel_rfl) (by kernel_rfl) (by kernel_rfl) (show FactsAt _ _ _ from⟨⟨q17,trivial⟩,⟨q18,trivial⟩,trivial⟩) ?_
   refine T_gp 0 (some 34) (vp (some sA)) (bv 10 1) [(0,vp (some sA)),(1,vi d),(5,vp (pa b)),(34,vp (some sA))]<| T_gp1 1 35 (vp (pa b)) (bv 10 3) []<| T_g1 2 36 (vi l) (bv 10 7) [35] (loadN 3 (vp (pa b))) (held_one 9 (λ_=>by kernel_rfl) (List.Mem.head _) (.inl (by kernel_rfl)))<| T_gp1 3 37 (vp (some ((ad b).add 1))) (bv 10 15) [5]<| T_g1 4 38 (vi p) (bv 10 31) [37] (loadN 3 (vp (some ((ad b).add 1)))) (held_one 9 (λ_=>by kernel_rfl) (List.Mem.tail _ (List.Mem.head _)) (.inl (by kernel_rfl)))<| T_gp1 5 39 (vp (some sA)) (bv 10 63) [34]<| T_gp1 6 40 (vp (some (sA.add 1))) (bv 10 127) [39]<| T_g1 7 41 (vp (some ((sA.add 1).add (Int.toNat l*4)))) (bv 10 255) [36,40] (indexAtN 71 (vp (some (sA.add 1))) (vi l)) (λ_ w _ _ _=>indexArr_run (P:=Tryz.prog) (t:=71) (elem:=70) (sz:=4) (n:=5) (a:=(sA.add 1)) (k:=.i64) (i:=l) Tryz.underlying71 (λ_=>by kernel_rfl) q19.1 q19.2 w)<| T_g1 8 42 (vp (some (((sA.add 1).add (Int.toNat l*4)).add (Int.toNat p*1)))) (bv 10 511) [38,41] (indexAtN 70 (vp (some ((sA.add 1).add (Int.toNat l*4)))) (vi p)) (λ_ w _ _ _=>indexArr_run (P:=Tryz.prog) (t:=70) (elem:=3) (sz:=1) (n:=4) (a:=((sA.add 1).add (Int.toNat l*4))) (k:=.i64) (i:=p) Tryz.underlying70 (λ_=>by kernel_rfl) q20.1 q20.2 w) ?_
   obtain⟨q22,h⟩:=h
   refine G_onlyskip 9 none (bv 10 1023) (storeN 3 (vp (some (((sA.add 1).add (Int.toNat l*4)).add (Int.toNat p*1)))) (vi 0)) (λHz=>Hz=hputs H4 (((sA.add 1).add (Int.toNat l*4)).add (Int.toNat p*1)) [vi 0] 0) (by kernel_rfl) (λ_=>by kernel_rfl) (ss_store [vi 0] 1 (by kernel_rfl) (by kernel_rfl) (λ_=>by kernel_rfl) (by kernel_rfl) q22) (by kernel_rfl) ?_
   intro H5 e21
   replace h:=h H5 e21
   refine⟨[(0,vp (some sA)),(1,vi d)],pk,(show FactsAt _ _ _ from⟨trivial,trivial,trivial⟩),?_⟩
   refine G_sub [(0,vp (some sA)),(1,vi d)] sk ?_
   refine G_end (by kernel_rfl) ?_
   refine S_then ?_
   refine T_srz 6<| T_n 3 [(1,vi d),(45,vp (some sA))] ?_
   obtain⟨af,q23,h⟩:=h
   refine T_l1 46 69 q23 [45]<| T_nd 1 [1] [(47,vi d)] ?_
   refine T_c (some 48) h ?_;clear h
   rintro ai H6 ⟨ag,rfl,h⟩
   refine⟨[(48,vi ag)],pk,?_⟩
   exact T_nr 1 [4] [vi ag] hQ h
  rw[if_neg c15]at h
  refine T_cFz 33 (beq_eq_false_iff_ne.mpr c15)<| T_kt<| T_srz 6<| T_n 3 [(1,vi d),(45,vp (some sA))] ?_
  obtain⟨z,q24,h⟩:=h
  refine T_l1 46 69 q24 [45]<| T_nd 1 [1] [(47,vi d)] ?_
  refine T_c (some 48) h ?_;clear h
  rintro ak H7 ⟨ac,rfl,h⟩
  refine⟨[(48,vi ac)],pk,?_⟩
  exact T_nr 1 [4] [vi ac] hQ h
 rw[if_neg c8]at h
 refine Q_bd 19 (eq_false_of_ne_true c8)<| T_q1 20 (undef) []<| T_q1 21 (undef) []<| T_q1 22 (undef) [21]<| T_q1 23 (undef) []<| T_q1 24 (undef) [23]<| T_q1 25 (undef) [20]<| T_q1 26 (undef) [25]<| T_q1 27 (undef) [22,26] ?_
 refine T_q1 28 (undef) [24,27]<| T_q1 29 (undef) [28]<| T_q1 30 (undef) []<| T_q1 31 (undef) [30]<| T_q1 32 (undef) [29,31]<| T_q1 33 (.bool false) [19,32] ?_
 refine Q_sub [(0,vp (some sA)),(1,vi d),(5,vp (pa b)),(33,.bool false)] sk ?_
 refine T_qe<| T_fz 33<| T_kt<| T_srz 6<| T_n 3 [(1,vi d),(45,vp (some sA))] ?_
 obtain⟨y,q25,h⟩:=h
 refine T_l1 46 69 q25 [45]<| T_nd 1 [1] [(47,vi d)] ?_
 refine T_c (some 48) h ?_;clear h
 rintro ah H8 ⟨ab,rfl,h⟩
 refine⟨[(48,vi ab)],pk,?_⟩
 exact T_nr 1 [4] [vi ab] hQ h
end space_Space_Give

/-! cmp.Compare[int] -/
namespace cmp_Compare_int
def K0:=Func.code Tryz.f54
end cmp_Compare_int
def cmp_Compare_int.pt(x y:Int)(H:Array Obj)(R:Value->Array Obj->Prop):Prop:=
 cmp_isNaN_int.C x H (λv H1=> ∃b:Bool,v=.bool b/\
 cmp_isNaN_int.C y H1 (λd H2=> ∃a:Bool,d=.bool a/\
 if b=true then(
 if a=true then(
 R (.int .i64 0) H2)
 else
 R (.int .i64 (-1)) H2)
 else
 if a=true then(
 R (.int .i64 1) H2)
 else
 if x<y then(
 R (.int .i64 (-1)) H2)
 else
 if x>y then(
 R (.int .i64 1) H2)
 else
 R (.int .i64 0) H2))
namespace cmp_Compare_int
theorem link{x y:Int}{H:Array Obj}{R:Value->Array Obj->Prop}(h:pt x y H R):C x y H R:=by
 refine T_en K0 20 Tryz.func54 ?_
 intro w0 Q hQ
 unfold pt at h
 refine T_su [(0,vi x),(1,vi y)]<| T_srz 0<| T_ed 1 [] []<| T_srz 1<| T_nd 1 [] [(7,vi x)] ?_
 refine T_c (some 8) h ?_;clear h
 rintro v H1 ⟨b,rfl,h⟩
 refine T_pd [7] [(8,.bool b)]<| T_ed 1 [8] [(5,.bool b)]<| T_srz 2<| T_nd 1 [] [(9,vi y)] ?_
 refine T_c (some 10) h ?_;clear h
 rintro d H2 ⟨a,rfl,h⟩
 refine T_pd [9] [(10,.bool a)]<| T_ed 1 [10] [(6,.bool a)]<| T_sz<| T_srz 3<| T_ed 1 [5] [(11,.bool b)] ?_
 by_cases c1:b=true
 ·rw[if_pos c1]at h
  refine T_cTz 11 c1<| T_sz<| T_srz 4<| T_ne 1 [(12,.bool a)] ?_
  by_cases c3:a=true
  ·rw[if_pos c3]at h
   exact T_cTz 12 c3<| T_srz 5<| T_nr 1 [4] [vi 0] hQ h
  rw[if_neg c3]at h
  exact T_cFz 12 (eq_false_of_ne_true c3)<| T_kt<| T_srz 6<| T_nr 1 [4] [vi (-1)] hQ h
 rw[if_neg c1]at h
 refine T_cFz 11 (eq_false_of_ne_true c1)<| T_kt<| T_sz<| T_srz 7<| T_ed 1 [6,11] [(13,.bool a)] ?_
 by_cases c5:a=true
 ·rw[if_pos c5]at h
  exact T_cTz 13 c5<| T_srz 8<| T_nr 1 [4] [vi 1] hQ h
 rw[if_neg c5]at h
 refine T_cFz 13 (eq_false_of_ne_true c5)<| T_kt<| T_sz<| T_srz 9<| T_ed 3 [13] [(16,.bool (decide (x<y)))] ?_
 by_cases c7:x<y
 ·rw[if_pos c7]at h
  exact T_cTz 16 (decide_eq_true c7)<| T_srz 10<| T_nr 1 [4] [vi (-1)] hQ h
 rw[if_neg c7]at h
 refine T_cFz 16 (decide_eq_false c7)<| T_kt<| T_sz<| T_srz 11<| T_ne 3 [(19,.bool (decide (x>y)))] ?_
 by_cases c9:x>y
 ·rw[if_pos c9]at h
  exact T_cTz 19 (decide_eq_true c9)<| T_srz 12<| T_nr 1 [4] [vi 1] hQ h
 rw[if_neg c9]at h
 exact T_cFz 19 (decide_eq_false c9)<| T_kt<| T_srz 13<| T_nr 1 [4] [vi 0] hQ h
end cmp_Compare_int

/-! cmp.isNaN[int] -/
namespace cmp_isNaN_int
def K0:=Func.code Tryz.f96
end cmp_isNaN_int
def cmp_isNaN_int.pt(x:Int)(H:Array Obj)(R:Value->Array Obj->Prop):Prop:=
 R (.bool (x !=x)) H
namespace cmp_isNaN_int
theorem link{x:Int}{H:Array Obj}{R:Value->Array Obj->Prop}(h:pt x H R):C x H R:=by
 refine T_en K0 6 Tryz.func96 ?_
 intro w0 Q hQ
 unfold pt at h
 exact T_su [(0,vi x)]<| T_srz 0<| T_ed 1 [] []<| T_srz 1<| T_nr 4 [2] [.bool (x !=x)] hQ h
end cmp_isNaN_int

/-! slices.Contains[[]int,int] -/
namespace slices_Contains_int_int
def K0:=Func.code Tryz.f51
end slices_Contains_int_int
def slices_Contains_int_int.pt(sB:Option Addr)(sN sC:Nat)(v:Int)(H:Array Obj)(R:Value->Array Obj->Prop):Prop:=
 slices_Index_int_int.C sB sN sC v H (λa H1=> ∃x:Int,a=.int .i64 x/\
 R (.bool (decide (x>=0))) H1)
namespace slices_Contains_int_int
theorem link{sB:Option Addr}{sN sC:Nat}{v:Int}{H:Array Obj}{R:Value->Array Obj->Prop}(h:pt sB sN sC v H R):C sB sN sC v H R:=by
 refine T_en K0 9 Tryz.func51 ?_
 intro w0 Q hQ
 unfold pt at h
 refine T_su [(0,vs sB sN sC),(1,vi v)]<| T_srz 0<| T_ed 1 [] []<| T_srz 1<| T_n 2 [(5,vs sB sN sC),(6,vi v)] ?_
 refine T_c (some 7) h ?_;clear h
 rintro a H1 ⟨x,rfl,h⟩
 refine⟨[(7,vi x)],pk,?_⟩
 exact T_nr 2 [4] [.bool (decide (x>=0))] hQ h
end slices_Contains_int_int

/-! slices.Clone[[]moraine/api.Entry,moraine/api.Entry] -/
namespace slices_Index_int_int
def K0:=Func.code Tryz.f93
def K2:=cb K0
def K3:=ca K2
def K6:=cb K3
def K7:=ca K6
def K8:=ca K7
end slices_Index_int_int
def slices_Index_int_int.pt(sB:Option Addr)(sN sC:Nat)(v:Int)(H:Array Obj)(R:Value->Array Obj->Prop):Prop:=
 ∃(I9:Int->Array Obj->Prop) (m9:Int->Array Obj->Nat),I9 0 H/\ ∀(s8:Int) (H1:Array Obj),I9 s8 H1->
 if s8< (sN:Int)then(
 ∃b:Addr,sB=some b/\
 ((0:Int)<=s8/\s8< (sN:Int))/\
 ∃x:Int,hat H1 (b.add (Int.toNat s8*1))=some (.int .i64 x)/\
 if v=x then(
 R (.int .i64 s8) H1)
 else
 (I9 (IntKind.wrap .i64 (s8+1)) H1/\m9 (IntKind.wrap .i64 (s8+1)) H1<m9 s8 H1))
 else
 R (.int .i64 (-1)) H1
namespace slices_Index_int_int
theorem link{sB:Option Addr}{sN sC:Nat}{v:Int}{H:Array Obj}{R:Value->Array Obj->Prop}(h:pt sB sN sC v H R):C sB sN sC v H R:=by
 refine T_en K0 19 Tryz.func93 ?_
 intro w0 Q hQ
 unfold pt at h
 refine T_su [(0,vs sB sN sC),(1,vi v)]<| T_srz 0<| T_ed 1 [] []<| T_sz<| T_srz 1<| T_ed 3 [] [(7,vi sN),(8,vi 0)]<| T_bz 0 ?_
 obtain⟨I9,m9,i1,i2⟩:=h
 refine S_loop (x:=K8) (σ:=Int) (λs_=> [(0,vs sB sN sC),(1,vi v),(7,vi sN),(8,vi s_)]) (λs_ H=>I9 s_ H) (λs_ H=>m9 s_ H) (0:Int) (by kernel_rfl) i1 sk ?_
 rintro s8 H1 i3
 have h:=i2 s8 H1 i3
 refine T_su [(0,vs sB sN sC),(1,vi v),(7,vi sN),(8,vi s8)]<| T_srz 2<| T_ed 1 [] [(9,.bool (decide (s8< (sN:Int))))]<| T_sz ?_
 by_cases c4:s8< (sN:Int)
 ·rw[if_pos c4]at h
  refine T_cTz 9 (decide_eq_true c4)<| T_kt<| T_sz<| T_bz 1<| T_srz 3<| T_ed 2 [9] [(5,vi s8)]<| T_srz 4<| T_nd 3 [] [(11,vi v),(12,vs sB sN sC),(13,vi s8)] ?_
  obtain⟨b,rfl,h⟩:=h
  obtain⟨q6,h⟩:=h
  refine T_xd (some 14) 67 3 1 b sN sC .i64 s8 Tryz.underlying67 q6.1 q6.2 [0,12,13] [(0,vs (some b) sN sC),(14,vp (some (b.add (Int.toNat s8*1))))] ?_
  obtain⟨x,q7,h⟩:=h
  refine T_l1 15 3 q7 [14]<| T_ed 1 [11,15] [(16,.bool (v==x))] ?_
  by_cases c8:v=x
  ·rw[if_pos c8]at h
   exact T_cTz 16 (beq_iff_eq.mpr c8)<| T_srz 5<| T_nr 2 [4] [vi s8] hQ h
  rw[if_neg c8]at h
  refine T_cFz 16 (beq_eq_false_iff_ne.mpr c8)<| T_k ?_
  refine S_blockEnd ?_
  refine S_then ?_
  refine T_rz 6<| T_ed 2 [5,8,16] [(8,vi (IntKind.wrap .i64 (s8+1)))] ?_
  exact S_round ((IntKind.wrap .i64 (s8+1)):Int) sk h
 rw[if_neg c4]at h
 refine T_cFz 9 (decide_eq_false c4) ?_
 refine S_exit 0 (by kernel_rfl) ?_
 refine S_exitThen ?_
 refine S_exitThen ?_
 refine S_exitHere ?_
 refine S_then ?_
 exact T_srz 7<| T_nr 1 [4] [vi (-1)] hQ h
end slices_Index_int_int

/-! (*moraine/obj.Heap).Epoch -/
namespace obj_Heap_Epoch
def K0:=Func.code Tryz.f13
end obj_Heap_Epoch
def obj_Heap_Epoch.pt(hv:Option Addr)(H:Array Obj)(R:Value->Array Obj->Prop):Prop:=
 obj_Heap_none.C hv H (λv H1=> ∃x:Bool,v=.bool x/\
 if x=true then(
 R (.int .u64 0) H1)
 else
 ∃b:Addr,hv=some b/\
 ∃a:Int,hat H1 (b.add 3)=some (.int .u64 a)/\
 R (.int .u64 a) H1)
namespace obj_Heap_Epoch
theorem link{hv:Option Addr}{H:Array Obj}{R:Value->Array Obj->Prop}(h:pt hv H R):C hv H R:=by
 refine T_en K0 9 Tryz.func13 ?_
 intro w0 Q hQ
 unfold pt at h
 refine T_su [(0,vp hv)]<| T_srz 0<| T_ed 1 [] []<| T_sz<| T_srz 1<| T_nd 1 [] [(3,vp hv)] ?_
 refine T_c (some 4) h ?_;clear h
 rintro v H1 ⟨x,rfl,h⟩
 refine T_pd [3] [(4,.bool x)]<| T_e ?_
 by_cases c1:x=true
 ·rw[if_pos c1]at h
  exact T_cTz 4 c1<| T_srz 2<| T_nr 1 [2] [vu 0] hQ h
 rw[if_neg c1]at h
 refine T_cFz 4 (eq_false_of_ne_true c1)<| T_kt<| T_srz 3<| T_n 1 [(5,vp hv)] ?_
 obtain⟨b,rfl,h⟩:=h
 refine T_n 2 [(7,vp (some (b.add 3)))] ?_
 obtain⟨a,q3,h⟩:=h
 exact T_l1 8 23 q3 [7]<| T_nr 1 [2] [vu a] hQ h
end obj_Heap_Epoch

/-! (*moraine/obj.Heap).Next -/
namespace obj_Heap_Next
def K0:=Func.code Tryz.f63
end obj_Heap_Next
def obj_Heap_Next.pt(hv:Option Addr)(H:Array Obj)(R:Value->Array Obj->Prop):Prop:=
 obj_Heap_none.C hv H (λv H1=> ∃x:Bool,v=.bool x/\
 if x=true then(
 R (.tuple #[]) H1)
 else
 ∃a:Addr,hv=some a/\
 ∃b:Int,hat H1 (a.add 3)=some (.int .u64 b)/\
 (CanPuts H1 (a.add 3) 0 1)/\ ∀H2,H2=hputs H1 (a.add 3) [.int .u64 (IntKind.wrap .u64 (b+1))] 0->
 R (.tuple #[]) H2)
namespace obj_Heap_Next
theorem link{hv:Option Addr}{H:Array Obj}{R:Value->Array Obj->Prop}(h:pt hv H R):C hv H R:=by
 refine T_en K0 12 Tryz.func63 ?_
 intro w0 Q hQ
 unfold pt at h
 refine T_su [(0,vp hv)]<| T_srz 0<| T_nd 1 [] [(2,vp hv)] ?_
 refine T_c (some 3) h ?_;clear h
 rintro v H1 ⟨x,rfl,h⟩
 refine T_pd [2] [(3,.bool x)]<| T_ed 1 [3] [(4,.bool (!x))] ?_
 by_cases c1:x=true
 ·rw[if_pos c1]at h
  refine T_cFz 4 (congrArg Bool.not (c1))<| T_k ?_
  exact S_doneN (fn:=Tryz.f63) [] hQ (show ResOK _ _ _ [] _ from .nil) h
 rw[if_neg c1]at h
 refine T_cTz 4 (congrArg Bool.not (eq_false_of_ne_true c1))<| T_rz 1<| T_n 1 [(5,vp hv)] ?_
 obtain⟨a,rfl,h⟩:=h
 refine T_n 2 [(5,vp (some a)),(7,vp (some (a.add 3)))] ?_
 obtain⟨b,q3,h⟩:=h
 refine T_l1 8 23 q3 [7]<| T_n 3 [(9,vu (IntKind.wrap .u64 (b+1))),(11,vp (some (a.add 3)))] ?_
 obtain⟨q5,h⟩:=h
 refine T_st1 23 (vu (IntKind.wrap .u64 (b+1))) q5 ?_
 intro H2 e4
 replace h:=h H2 e4
 refine⟨[],pk,?_⟩
 refine N_end (by kernel_rfl) ?_
 exact S_doneN (fn:=Tryz.f63) [] hQ (show ResOK _ _ _ [] _ from .nil) h
end obj_Heap_Next

/-! moraine/gc.Need -/
namespace gc_Need
def K0:=Func.code Tryz.f8
def K2:=cb K0
def K4:=cb K2
def K12:=cb K4
def K13:=ca K12
def K16:=cb K13
def K17:=ca K16
def K18:=ca K17
end gc_Need
def gc_Need.pt(hv:Option Addr)(g:Int)(H:Array Obj)(R:Value->Array Obj->Prop):Prop:=
 onPtr hv (
 R (.int .i64 0) H) (λa=>
 ∃x:Option Addr,hat H a=some (.pointer x)/\
 onPtr x (
 R (.int .i64 0) H) (λxA=>
 ∃(i:Int->Int->Array Obj->Prop) (m19:Int->Int->Array Obj->Nat),i 0 0 H/\ ∀(nv:Int) (k:Int) (H1:Array Obj),i nv k H1->
 if k<=(if 4<g then 4 else g)then(
 ∃j:Option Addr,hat H1 a=some (.pointer j)/\
 ∃m:Addr,j=some m/\
 ∃f:Option Addr,hat H1 m=some (.pointer f)/\
 ∃l:Addr,f=some l/\
 ∃d:Option Addr,hat H1 l=some (.pointer d)/\
 ∀(b:Nat) (H2:Array Obj),b=H1.size->H2=H1.push (.cells #[.int .i64 k] 3)->
 seg_Mem_Taken.C d (some (ad b)) 1 1 H2 (λv H3=> ∃(xB:Option Addr) (xN xC:Nat),v=.slice xB xN xC/\
 (i (IntKind.wrap .i64 (nv+(xN:Int))) (IntKind.wrap .i64 (k+1)) H3/\m19 (IntKind.wrap .i64 (nv+(xN:Int))) (IntKind.wrap .i64 (k+1)) H3<m19 nv k H1)))
 else
 gc_more.C (some a) H1 (λn H4=> ∃e:Int,n=.int .i64 e/\
 R (.int .i64 (IntKind.wrap .i64 ((IntKind.wrap .i64 ((IntKind.wrap .i64 (2*nv))+8))+e))) H4)))
namespace gc_Need
theorem link{hv:Option Addr}{g:Int}{H:Array Obj}{R:Value->Array Obj->Prop}(h:pt hv g H R):C hv g H R:=by
 refine T_en K0 44 Tryz.func8 ?_
 intro w0 Q hQ
 unfold pt at h
 refine T_su [(0,vp hv),(1,vi g)]<| T_srz 0<| T_ed 1 [] []<| T_sz<| T_srz 1<| T_nd 1 [] [(7,vp hv)] ?_
 rcases hv with _ | a
 ·rw[onPtr_none]at h
  exact T_ed 8 [0,7] [(0,vp none),(15,.bool true)]<| T_tz 15<| T_srz 2<| T_nr 1 [4] [vi 0] hQ h
 rw[onPtr_some]at h
 refine T_nd 5 [0,7] [(0,vp (some a)),(9,.bool false),(12,vp (some a))] ?_
 obtain⟨x,q1,h⟩:=h
 refine T_l1 13 26 q1 [12] ?_
 rcases x with _ | xA
 ·rw[onPtr_none]at h
  exact T_ed 2 [9,13] [(15,.bool true)]<| T_tz 15<| T_srz 2<| T_nr 1 [4] [vi 0] hQ h
 rw[onPtr_some]at h
 refine T_ed 2 [9,13] [(15,.bool false)]<| T_fz 15<| T_kt<| T_srz 3<| T_ed 1 [15] [(5,vi 0)]<| T_sz<| T_srz 4<| T_ed 1 [] [(6,vi 0)]<| T_bz 0 ?_
 obtain⟨i,m19,i2,i3⟩:=h
 refine S_loop (x:=K18) (σ:=Int×Int) (λs_=> [(0,vp (some a)),(1,vi g),(5,vi s_.1),(6,vi s_.2)]) (λs_ H=>i s_.1 s_.2 H) (λs_ H=>m19 s_.1 s_.2 H) ((0,0):Int×Int) (by kernel_rfl) i2 sk ?_
 rintro⟨nv,k⟩ H1 i4
 have h:=i3 nv k H1 i4
 refine T_su [(0,vp (some a)),(1,vi g),(5,vi nv),(6,vi k)]<| T_sz<| T_srz 5<| T_ed 4 [] [(19,.bool (decide (k<=(if 4<g then 4 else g))))] ?_
 by_cases c5:k<=(if 4<g then 4 else g)
 ·rw[if_pos c5]at h
  refine T_cTz 19 (decide_eq_true c5)<| T_kt<| T_sz<| T_bz 1<| T_rz 7<| T_nd 4 [5,19] [(22,vi nv),(25,vp (some a))] ?_
  obtain⟨j,q7,h⟩:=h
  refine T_l1 26 26 q7 [25] ?_
  obtain⟨m,rfl,h⟩:=h
  refine T_nd 2 [26] [(28,vp (some m))] ?_
  obtain⟨f,q8,h⟩:=h
  refine T_l1 29 39 q8 [28] ?_
  obtain⟨l,rfl,h⟩:=h
  refine T_nd 2 [29] [(31,vp (some l))] ?_
  obtain⟨d,q9,h⟩:=h
  refine T_l1 32 69 q9 [31]<| T_nd 1 [] [(33,vi k)]<| T_nw (some 34) (λb=>vs (pa b) 1 1) (.cells #[vi k] 3) ?_
  intro b H2 e10 e11
  replace h:=h b H2 e10 e11
  refine T_pd [33] [(34,vs (pa b) 1 1)] ?_
  refine T_c (some 35) h ?_;clear h
  rintro v H3 ⟨xB,xN,xC,rfl,h⟩
  refine T_pd [32,34] [(35,vs xB xN xC)]<| T_nd 3 [22,35] [(5,vi (IntKind.wrap .i64 (nv+(xN:Int))))] ?_
  refine N_end (by kernel_rfl) ?_
  refine S_blockEnd ?_
  refine S_then ?_
  refine T_rz 6<| T_ed 3 [6] [(6,vi (IntKind.wrap .i64 (k+1)))] ?_
  exact S_round (((IntKind.wrap .i64 (nv+(xN:Int))),(IntKind.wrap .i64 (k+1))):Int×Int) sk h
 rw[if_neg c5]at h
 refine T_cFz 19 (decide_eq_false c5) ?_
 refine S_exit 0 (by kernel_rfl) ?_
 refine S_exitThen ?_
 refine S_exitThen ?_
 refine S_exitHere ?_
 refine S_then ?_
 refine T_srz 8<| T_n 4 [(40,vi (IntKind.wrap .i64 ((IntKind.wrap .i64 (2*nv))+8))),(41,vp (some a))] ?_
 refine T_c (some 42) h ?_;clear h
 rintro n H4 ⟨e,rfl,h⟩
 exact T_pd [41] [(42,vi e)]<| T_nr 2 [4] [vi (IntKind.wrap .i64 ((IntKind.wrap .i64 ((IntKind.wrap .i64 (2*nv))+8))+e))] hQ h
end gc_Need

/-! moraine/gc.Collect -/
namespace gc_Collect
def K0:=Func.code Tryz.f9
def K2:=cb K0
def K4:=cb K2
def K12:=cb K4
def K14:=cb K12
def K20:=cb K14
def K21:=ca K20
def K24:=cb K21
def K25:=ca K24
def K26:=ca K25
end gc_Collect
def gc_Collect.pt(hv:Option Addr)(g n:Int)(j:Option Addr)(b d:Nat)(H:Array Obj)(R:Value->Array Obj->Prop):Prop:=
 onPtr hv (
 R (.int .i64 1) H) (λe=>
 gc_more.C (some e) H (λv H1=> ∃x:Int,v=.int .i64 x/\
 trace_Start.C (some e) g n x H1 (λal H2=> ∃(ra:Option Addr) (rb:Int),al=.tuple #[.pointer ra,.int .i64 rb]/\
 if rb=0 then(
 ∃(ag:Int->Array Obj->Prop) (m27:Int->Array Obj->Nat),ag 0 H2/\ ∀(m:Int) (H3:Array Obj),ag m H3->
 if m< (b:Int)then(
 ∃l:Addr,j=some l/\
 ((0:Int)<=m/\m< (b:Int))/\
 ∃z:Option Addr,hat H3 (l.add (Int.toNat m*1))=some (.pointer z)/\
 onPtr z (
 (ag (IntKind.wrap .i64 (m+1)) H3/\m27 (IntKind.wrap .i64 (m+1)) H3<m27 m H3)) (λo=>
 ∃af:Int,hat H3 o=some (.int .u64 af)/\
 trace_Trace_Visit.C ra af H3 (λak H4=> ∃ae:Int,ak=.int .u64 ae/\
 (CanPuts H4 o 0 1)/\ ∀H5,H5=hputs H4 o [.int .u64 ae] 0->
 (ag (IntKind.wrap .i64 (m+1)) H5/\m27 (IntKind.wrap .i64 (m+1)) H5<m27 m H3))))
 else
 trace_Trace_Cards.C ra H3 (λ_ H6=>
 trace_Trace_Drain.C ra H6 (λ_ H7=>
 ∃(xB:Option Addr) (xN xC:Nat),hat H7 (e.add 2)=some (.slice xB xN xC)/\
 weak_Guards.C ra xB xN xC H7 (λam H8=> ∃(p:Option Addr) (u s:Nat),am=.slice p u s/\
 (CanPuts H8 (e.add 2) 0 1)/\ ∀H9,H9=hputs H8 (e.add 2) [.slice p u s] 0->
 weak_Breaks.C ra H9 (λ_ aj=>
 ∃(aa:Option Addr) (ab ac:Nat),hat aj (e.add 1)=some (.slice aa ab ac)/\
 weak_Prune.C ra aa ab ac aj (λan ah=> ∃(q:Option Addr) (r y:Nat),an=.slice q r y/\
 (CanPuts ah (e.add 1) 0 1)/\ ∀ai,ai=hputs ah (e.add 1) [.slice q r y] 0->
 trace_Trace_End.CD ra ai (λao=>
 R (.int .i64 0) ao)))))))
 else
 R (.int .i64 rb) H2)))
namespace gc_Collect
theorem link{hv:Option Addr}{g n:Int}{j:Option Addr}{b d:Nat}{H:Array Obj}{R:Value->Array Obj->Prop}(h:pt hv g n j b d H R):C hv g n j b d H R:=by
 refine T_en K0 68 Tryz.func9 ?_
 intro w0 Q hQ
 unfold pt at h
 refine T_su [(0,vp hv),(1,vi g),(2,vi n),(3,vs j b d)]<| T_srz 0<| T_ed 1 [] []<| T_sz<| T_srz 1<| T_nd 1 [] [(13,vp hv)] ?_
 rcases hv with _ | e
 ·rw[onPtr_none]at h
  exact T_ed 1 [0,13] [(0,vp none),(14,.bool true)]<| T_tz 14<| T_srz 2<| T_nr 1 [8] [vi 1] hQ h
 rw[onPtr_some]at h
 refine T_ed 1 [0,13] [(0,vp (some e)),(14,.bool false)]<| T_fz 14<| T_kt<| T_srz 3<| T_nd 4 [1,2,14] [(16,vp (some e)),(17,vi g),(18,vi n),(19,vp (some e))] ?_
 refine T_c (some 20) h ?_;clear h
 rintro v H1 ⟨x,rfl,h⟩
 refine T_pd [19] [(20,vi x)] ?_
 refine T_c (some 21) h ?_;clear h
 rintro al H2 ⟨ra,rb,rfl,h⟩
 refine T_pd [16,17,18,20] [(21,.tuple #[vp ra,vi rb])]<| T_ed 5 [21] [(9,vp ra),(10,vi rb)]<| T_sz<| T_srz 4<| T_ed 2 [] [(25,.bool (rb !=0))] ?_
 by_cases c1:rb=0
 ·rw[if_pos c1]at h
  refine T_cFz 25 (bne_eq_false_iff_eq.mpr c1)<| T_kt<| T_srz 6<| T_nd 1 [10,25] [(27,vp ra)] ?_
  refine N_defer none 28 #[vp ra] (λ_=>by kernel_rfl) [(0,vp (some e)),(3,vs j b d),(9,vp ra)] pk ?_
  refine T_e<| T_sz<| T_srz 7<| T_ne 3 [(0,vp (some e)),(9,vp ra),(28,vs j b d),(29,vi b),(30,vi 0)]<| T_bz 0 ?_
  obtain⟨ag,m27,i3,i4⟩:=h
  refine S_loop (x:=K26) (σ:=Int) (λs_=> [(0,vp (some e)),(9,vp ra),(28,vs j b d),(29,vi b),(30,vi s_)]) (λs_ H=>ag s_ H) (λs_ H=>m27 s_ H) (0:Int) (by kernel_rfl) i3 sk ?_
  rintro m H3 i5
  have h:=i4 m H3 i5
  refine T_su [(0,vp (some e)),(9,vp ra),(28,vs j b d),(29,vi b),(30,vi m)]<| T_srz 8<| T_ed 1 [] [(31,.bool (decide (m< (b:Int))))]<| T_sz ?_
  by_cases c6:m< (b:Int)
  ·rw[if_pos c6]at h
   refine T_cTz 31 (decide_eq_true c6)<| T_kt<| T_sz<| T_bz 1<| T_srz 9<| T_ud [31] [] ?_
   obtain⟨l,rfl,h⟩:=h
   obtain⟨q8,h⟩:=h
   refine T_xd (some 32) 57 33 1 l b d .i64 m Tryz.underlying57 q8.1 q8.2 [28] [(28,vs (some l) b d),(32,vp (some (l.add (Int.toNat m*1))))] ?_
   obtain⟨z,q9,h⟩:=h
   refine T_l1 33 33 q9 [32]<| T_ed 1 [33] [(12,vp z)]<| T_srz 10<| T_nd 1 [] [(34,vp z)] ?_
   rcases z with _ | o
   ·rw[onPtr_none]at h
    refine T_ed 1 [12,34] [(12,vp none),(35,.bool false)]<| T_fz 35<| T_k ?_
    refine S_blockEnd ?_
    refine S_then ?_
    refine T_rz 12<| T_ed 2 [12,30,35] [(30,vi (IntKind.wrap .i64 (m+1)))] ?_
    exact S_round ((IntKind.wrap .i64 (m+1)):Int) sk h
   rw[onPtr_some]at h
   refine T_ed 1 [12,34] [(12,vp (some o)),(35,.bool true)]<| T_tz 35<| T_rz 11<| T_nd 4 [12,35] [(36,vp (some o)),(37,vp ra),(39,vp (some o))] ?_
   obtain⟨af,q10,h⟩:=h
   refine T_l1 40 24 q10 [39] ?_
   refine T_c (some 41) h ?_;clear h
   rintro ak H4 ⟨ae,rfl,h⟩
   refine T_pd [37,40] [(41,vu ae)]<| T_nd 1 [36] [(42,vp (some o))] ?_
   obtain⟨q12,h⟩:=h
   refine T_st1 24 (vu ae) q12 ?_
   intro H5 e11
   replace h:=h H5 e11
   refine T_pd [41,42] [] ?_
   refine N_end (by kernel_rfl) ?_
   refine S_blockEnd ?_
   refine S_then ?_
   refine T_rz 12<| T_ed 2 [30] [(30,vi (IntKind.wrap .i64 (m+1)))] ?_
   exact S_round ((IntKind.wrap .i64 (m+1)):Int) sk h
  rw[if_neg c6]at h
  refine T_cFz 31 (decide_eq_false c6) ?_
  refine S_exit 0 (by kernel_rfl) ?_
  refine S_exitThen ?_
  refine S_exitThen ?_
  refine S_exitHere ?_
  refine S_then ?_
  refine T_srz 13<| T_nd 1 [28,29,30,31] [(44,vp ra)] ?_
  refine T_c (some 45) h ?_;clear h
  intro v_4 H6 h
  refine T_pd [44] []<| T_e<| T_srz 14<| T_nd 1 [] [(46,vp ra)] ?_
  refine T_c (some 47) h ?_;clear h
  intro v_5 H7 h
  refine T_pd [46] []<| T_e<| T_srz 15<| T_nd 5 [] [(48,vp (some e)),(49,vp ra),(52,vp (some (e.add 2)))] ?_
  obtain⟨xB,xN,xC,q13,h⟩:=h
  refine T_l1 53 28 q13 [52] ?_
  refine T_c (some 54) h ?_;clear h
  rintro am H8 ⟨p,u,s,rfl,h⟩
  refine T_pd [49,53] [(54,vs p u s)]<| T_nd 2 [48] [(56,vp (some (e.add 2)))] ?_
  obtain⟨q15,h⟩:=h
  refine T_st1 28 (vs p u s) q15 ?_
  intro H9 e14
  replace h:=h H9 e14
  refine T_pd [54,56] []<| T_e<| T_srz 16<| T_nd 1 [] [(57,vp ra)] ?_
  refine T_c (some 58) h ?_;clear h
  intro v_7 aj h
  refine T_pd [57] []<| T_e<| T_srz 17<| T_n 5 [(59,vp (some e)),(60,vp ra),(63,vp (some (e.add 1)))] ?_
  obtain⟨aa,ab,ac,q16,h⟩:=h
  refine T_l1 64 27 q16 [63] ?_
  refine T_c (some 65) h ?_;clear h
  rintro an ah ⟨q,r,y,rfl,h⟩
  refine T_pd [60,64] [(65,vs q r y)]<| T_nd 2 [59] [(67,vp (some (e.add 1)))] ?_
  obtain⟨q18,h⟩:=h
  refine T_st1 27 (vs q r y) q18 ?_
  intro ai e17
  replace h:=h ai e17
  refine⟨[],pk,?_⟩
  refine T_e<| T_srz 18<| T_ne 1 [(8,vi 0)] ?_
  refine S_ret (by kernel_rfl) ?_
  show At _ _ _ _ _ (Q .ret)
  refine S_doneD (f:=28) (args:= #[vp ra]) (enters_of Tryz.func28 (by kernel_rfl) rfl) hQ (HD.mono (h) (λao h=>?_))
  exact⟨[vi 0],(show ResOK _ _ _ [.tmp 8] _ from .tmp (by kernel_rfl) (.nil)),h⟩
 rw[if_neg c1]at h
 exact T_cTz 25 (bne_iff_ne.mpr c1)<| T_srz 5<| T_nr 2 [8] [vi rb] hQ h
end gc_Collect

/-! moraine/gc.more -/
namespace gc_more
def K0:=Func.code Tryz.f26
end gc_more
def gc_more.pt(hv:Option Addr)(H:Array Obj)(R:Value->Array Obj->Prop):Prop:=
 ∃a:Addr,hv=some a/\
 ∃(xB:Option Addr) (xN xC:Nat),hat H (a.add 2)=some (.slice xB xN xC)/\
 R (.int .i64 (IntKind.wrap .i64 ((IntKind.wrap .i64 (Int.tdiv (xN:Int) 32))+1))) H
namespace gc_more
theorem link{hv:Option Addr}{H:Array Obj}{R:Value->Array Obj->Prop}(h:pt hv H R):C hv H R:=by
 refine T_en K0 10 Tryz.func26 ?_
 intro w0 Q hQ
 unfold pt at h
 refine T_su [(0,vp hv)]<| T_srz 0<| T_ed 1 [] []<| T_srz 1<| T_n 1 [(3,vp hv)] ?_
 obtain⟨a,rfl,h⟩:=h
 refine T_n 2 [(5,vp (some (a.add 2)))] ?_
 obtain⟨xB,xN,xC,q1,h⟩:=h
 exact T_l1 6 28 q1 [5]<| T_nr 4 [2] [vi (IntKind.wrap .i64 ((IntKind.wrap .i64 (Int.tdiv (xN:Int) 32))+1))] hQ h
end gc_more

/-! moraine/morainelaw13.awake -/
namespace morainelaw13_awake
def K0:=Func.code Tryz.f14
def K2:=cb K0
def K4:=cb K2
def K6:=cb K4
def K14:=cb K6
def K15:=ca K14
def K16:=cb K14
def K18:=cb K15
def K19:=ca K18
def K20:=ca K19
def K30:=ca K16
def K33:=cb K30
def K34:=ca K33
def K35:=ca K34
end morainelaw13_awake
def morainelaw13_awake.pt(H:Array Obj)(R:Value->Array Obj->Prop):Prop:=
 obj_New.C 200 H (λv H1=> ∃(ra:Option Addr) (rb:Int),v=.tuple #[.pointer ra,.int .i64 rb]/\
 if rb=0 then(
 onPtr ra (
 R (.bool false) H1) (λa=>
 ∀(b:Nat) (H2:Array Obj),b=H1.size->H2=H1.push (.cells #[.int .u64 0] 24)->
 (CanPuts H2 (ad b) 0 1)/\ ∀H3,H3=hputs H2 (ad b) [.int .u64 20] 0->
 ∃(aa:Int->Array Obj->Prop) (m21:Int->Array Obj->Nat),aa 0 H3/\ ∀(i:Int) (H4:Array Obj),aa i H4->
 if i<3 then(
 ∃x:Int,hat H4 (ad b)=some (.int .u64 x)/\
 obj_Heap_Cons.C (some a) 8 x H4 (λap H5=> ∃k ah:Int,ap=.tuple #[.int .u64 k,.int .i64 ah]/\
 (CanPuts H5 (ad b) 0 1)/\ ∀H6,H6=hputs H5 (ad b) [.int .u64 k] 0->
 (aa (IntKind.wrap .i64 (i+1)) H6/\m21 (IntKind.wrap .i64 (i+1)) H6<m21 i H4)))
 else
 ∃(ab:Int->Array Obj->Prop) (m36:Int->Array Obj->Nat),ab 0 H4/\ ∀(f:Int) (H7:Array Obj),ab f H7->
 if f<100 then(
 ∃r:Int,hat H7 (ad b)=some (.int .u64 r)/\
 obj_Heap_Cons.C (some a) 8 r H7 (λan H8=> ∃ak aj:Int,an=.tuple #[.int .u64 ak,.int .i64 aj]/\
 (ab (IntKind.wrap .i64 (f+1)) H8/\m36 (IntKind.wrap .i64 (f+1)) H8<m36 f H7)))
 else
 ∀(t:Nat) (H9:Array Obj),t=H7.size->H9=H7.push (.cells #[.pointer (some (ad b))] 33)->
 gc_Collect.C (some a) 0 1 (some (ad t)) 1 1 H9 (λaq ai=> ∃g:Int,aq=.int .i64 g/\
 ∃y:Int,hat ai (ad b)=some (.int .u64 y)/\
 obj_Heap_Car.C (some a) y ai (λal s=> ∃e d:Int,al=.tuple #[.int .u64 e,.int .i64 d]/\
 if g=0 then(
 ∃ag:Option Addr,hat s a=some (.pointer ag)/\
 ∃z:Addr,ag=some z/\
 ∃n:Option Addr,hat s z=some (.pointer n)/\
 ∀(q:Nat) (H12:Array Obj),q=s.size->H12=s.push (.cells #[.int .i64 0] 3)->
 space_Space_Words.C n (some (ad q)) 1 1 H12 (λau u=> ∃m:Int,au=.int .i64 m/\
 if m=0 then(
 ∃ae:Option Addr,hat u a=some (.pointer ae)/\
 ∃ac:Addr,ae=some ac/\
 ∃o:Option Addr,hat u ac=some (.pointer o)/\
 ∀(p:Nat) (H14:Array Obj),p=u.size->H14=u.push (.cells #[.int .i64 1] 3)->
 space_Space_Words.C o (some (ad p)) 1 1 H14 (λam af=> ∃j:Int,am=.int .i64 j/\
 if j=6 then(
 if e=8 then(
 if d=0 then(
 gc_Collect.C (some a) 4 4 none 0 0 af (λav ao=> ∃l:Int,av=.int .i64 l/\
 R (.bool (l==1)) ao))
 else
 R (.bool false) af)
 else
 R (.bool false) af)
 else
 R (.bool false) af))
 else
 R (.bool false) u))
 else
 R (.bool false) s))))
 else
 R (.bool false) H1)
namespace morainelaw13_awake
set_option maxRecDepth 100000 in
theorem link{H:Array Obj}{R:Value->Array Obj->Prop}(h:pt H R):C H R:=by
 refine T_en K0 84 Tryz.func14 ?_
 intro w0 Q hQ
 unfold pt at h
 refine T_su []<| T_srz 0<| T_ne 1 []<| T_srz 1 ?_
 refine T_c (some 10) h ?_;clear h
 rintro v H1 ⟨ra,rb,rfl,h⟩
 refine⟨[(10,.tuple #[vp ra,vi rb])],pk,?_⟩
 refine T_ne 5 [(1,vp ra),(2,vi rb)]<| T_sz<| T_srz 2<| T_nd 3 [2] [(15,.bool (rb !=0))] ?_
 by_cases c1:rb=0
 ·rw[if_pos c1]at h
  refine N_bd 15 (bne_eq_false_iff_eq.mpr c1)<| T_nd 1 [] [(16,vp ra)] ?_
  rcases ra with _ | a
  ·rw[onPtr_none]at h
   exact T_ne 2 [(1,vp none),(18,.bool true)]<| T_tz 18<| T_srz 3<| T_nr 1 [0] [.bool false] hQ h
  rw[onPtr_some]at h
  refine T_ne 2 [(1,vp (some a)),(18,.bool false)]<| T_fz 18<| T_kt<| T_srz 4<| T_ud [18] []<| T_nw (some 3) (λb=>vp (pa b)) (.cells #[vu 0] 24) ?_
  intro b H2 e3 e4
  replace h:=h b H2 e3 e4
  refine T_pd [] [(3,vp (pa b))] ?_
  obtain⟨q6,h⟩:=h
  refine T_st1 24 (vu 20) q6 ?_
  intro H3 e5
  replace h:=h H3 e5
  refine T_pd [] []<| T_e<| T_sz<| T_srz 5<| T_ed 1 [] [(4,vi 0)]<| T_bz 0 ?_
  obtain⟨aa,m21,i7,i8⟩:=h
  refine S_loop (x:=K20) (σ:=Int) (λs_=> [(1,vp (some a)),(3,vp (pa b)),(4,vi s_)]) (λs_ H=>aa s_ H) (λs_ H=>m21 s_ H) (0:Int) (by kernel_rfl) i7 sk ?_
  rintro i H4 i9
  have h:=i8 i H4 i9
  refine T_su [(1,vp (some a)),(3,vp (pa b)),(4,vi i)]<| T_sz<| T_srz 6<| T_ed 2 [] [(20,.bool (decide (i<3)))] ?_
  by_cases c10:i<3
  ·rw[if_pos c10]at h
   refine T_cTz 20 (decide_eq_true c10)<| T_kt<| T_sz<| T_bz 1<| T_rz 8<| T_nd 1 [20] [(24,vp (some a))] ?_
   obtain⟨x,q12,h⟩:=h
   refine T_l1 25 24 q12 [] ?_
   refine T_c (some 26) h ?_;clear h
   rintro ap H5 ⟨k,ah,rfl,h⟩
   refine T_pd [24,25] [(26,.tuple #[vu k,vi ah])]<| T_nd 3 [26] [(27,vu k)] ?_
   obtain⟨q14,h⟩:=h
   refine T_st1 24 (vu k) q14 ?_
   intro H6 e13
   replace h:=h H6 e13
   refine T_pd [27] [] ?_
   refine N_end (by kernel_rfl) ?_
   refine S_blockEnd ?_
   refine S_then ?_
   refine T_rz 7<| T_ed 3 [4] [(4,vi (IntKind.wrap .i64 (i+1)))] ?_
   exact S_round ((IntKind.wrap .i64 (i+1)):Int) sk h
  rw[if_neg c10]at h
  refine T_cFz 20 (decide_eq_false c10) ?_
  refine S_exit 0 (by kernel_rfl) ?_
  refine S_exitThen ?_
  refine S_exitThen ?_
  refine S_exitHere ?_
  refine S_then ?_
  refine T_sz<| T_srz 9<| T_ed 1 [4,20] [(5,vi 0)]<| T_bz 2 ?_
  obtain⟨ab,m36,i15,i16⟩:=h
  refine S_loop (x:=K35) (σ:=Int) (λs_=> [(1,vp (some a)),(3,vp (pa b)),(5,vi s_)]) (λs_ H=>ab s_ H) (λs_ H=>m36 s_ H) (0:Int) (by kernel_rfl) i15 sk ?_
  rintro f H7 i17
  have h:=i16 f H7 i17
  refine T_su [(1,vp (some a)),(3,vp (pa b)),(5,vi f)]<| T_sz<| T_srz 10<| T_ed 2 [] [(30,.bool (decide (f<100)))] ?_
  by_cases c18:f<100
  ·rw[if_pos c18]at h
   refine T_cTz 30 (decide_eq_true c18)<| T_kt<| T_sz<| T_bz 3<| T_rz 12<| T_nd 1 [30] [(33,vp (some a))] ?_
   obtain⟨r,q20,h⟩:=h
   refine T_l1 34 24 q20 [] ?_
   refine T_c (some 35) h ?_;clear h
   rintro an H8 ⟨ak,aj,rfl,h⟩
   refine T_pd [33,34] [] ?_
   refine N_end (by kernel_rfl) ?_
   refine S_blockEnd ?_
   refine S_then ?_
   refine T_rz 11<| T_ed 3 [5] [(5,vi (IntKind.wrap .i64 (f+1)))] ?_
   exact S_round ((IntKind.wrap .i64 (f+1)):Int) sk h
  rw[if_neg c18]at h
  refine T_cFz 30 (decide_eq_false c18) ?_
  refine S_exit 2 (by kernel_rfl) ?_
  refine S_exitThen ?_
  refine S_exitThen ?_
  refine S_exitHere ?_
  refine S_then ?_
  refine T_srz 13<| T_nd 1 [5,30] [(36,vp (some a))]<| T_nw (some 37) (λb=>vs (pa b) 1 1) (.cells #[vp (pa b)] 33) ?_
  intro t H9 e21 e22
  replace h:=h t H9 e21 e22
  refine T_pd [] [(37,vs (pa t) 1 1)] ?_
  refine T_c (some 38) h ?_;clear h
  rintro aq ai ⟨g,rfl,h⟩
  refine T_pd [36,37] [(38,vi g)]<| T_ed 1 [38] [(6,vi g)]<| T_srz 14<| T_nd 1 [] [(40,vp (some a))] ?_
  obtain⟨y,q23,h⟩:=h
  refine T_l1 41 24 q23 [3] ?_
  refine T_c (some 42) h ?_;clear h
  rintro al s ⟨e,d,rfl,h⟩
  refine T_pd [40,41] [(42,.tuple #[vu e,vi d])]<| T_ed 5 [42] [(7,vu e),(8,vi d)]<| T_srz 15<| T_nd 3 [6] [(47,.bool (g==0))] ?_
  by_cases c24:g=0
  ·rw[if_pos c24]at h
   refine N_bd 47 (beq_iff_eq.mpr c24)<| T_nd 3 [] [(50,vp (some a))] ?_
   obtain⟨ag,q26,h⟩:=h
   refine T_l1 51 26 q26 [50] ?_
   obtain⟨z,rfl,h⟩:=h
   refine T_nd 2 [51] [(53,vp (some z))] ?_
   obtain⟨n,q27,h⟩:=h
   refine T_l1 54 39 q27 [53]<| T_nw (some 55) (λb=>vs (pa b) 1 1) (.cells #[vi 0] 3) ?_
   intro q H12 e28 e29
   replace h:=h q H12 e28 e29
   refine T_pd [] [(55,vs (pa q) 1 1)] ?_
   refine T_c (some 56) h ?_;clear h
   rintro au u ⟨m,rfl,h⟩
   refine T_pd [54,55] [(56,vi m)]<| T_nd 3 [47,56] [(59,.bool (m==0))] ?_
   by_cases c30:m=0
   ·rw[if_pos c30]at h
    refine N_bd 59 (beq_iff_eq.mpr c30)<| T_nd 3 [] [(62,vp (some a))] ?_
    obtain⟨ae,q32,h⟩:=h
    refine T_l1 63 26 q32 [62] ?_
    obtain⟨ac,rfl,h⟩:=h
    refine T_nd 2 [63] [(65,vp (some ac))] ?_
    obtain⟨o,q33,h⟩:=h
    refine T_l1 66 39 q33 [65]<| T_nw (some 67) (λb=>vs (pa b) 1 1) (.cells #[vi 1] 3) ?_
    intro p H14 e34 e35
    replace h:=h p H14 e34 e35
    refine T_pd [] [(67,vs (pa p) 1 1)] ?_
    refine T_c (some 68) h ?_;clear h
    rintro am af ⟨j,rfl,h⟩
    refine T_pd [66,67] [(68,vi j)]<| T_nd 3 [59,68] [(71,.bool (j==6))] ?_
    by_cases c36:j=6
    ·rw[if_pos c36]at h
     refine N_bd 71 (beq_iff_eq.mpr c36)<| T_nd 4 [7,71] [(75,.bool (e==8))] ?_
     by_cases c38:e=8
     ·rw[if_pos c38]at h
      refine N_bd 75 (beq_iff_eq.mpr c38)<| T_nd 4 [8,75] [(79,.bool (d==0))] ?_
      by_cases c40:d=0
      ·rw[if_pos c40]at h
       refine N_bd 79 (beq_iff_eq.mpr c40)<| T_nd 1 [1] [(80,vp (some a))] ?_
       refine T_c (some 81) h ?_;clear h
       rintro av ao ⟨l,rfl,h⟩
       exact T_pd [80] [(81,vi l)]<| T_nr 3 [0] [.bool (l==1)] hQ h
      rw[if_neg c40]at h
      exact N_bd 79 (beq_eq_false_iff_ne.mpr c40)<| T_nr 5 [0] [.bool false] hQ h
     rw[if_neg c38]at h
     exact N_bd 75 (beq_eq_false_iff_ne.mpr c38)<| T_nr 9 [0] [.bool false] hQ h
    rw[if_neg c36]at h
    exact N_bd 71 (beq_eq_false_iff_ne.mpr c36)<| T_nr 13 [0] [.bool false] hQ h
   rw[if_neg c30]at h
   exact N_bd 59 (beq_eq_false_iff_ne.mpr c30)<| T_nr 25 [0] [.bool false] hQ h
  rw[if_neg c24]at h
  exact N_bd 47 (beq_eq_false_iff_ne.mpr c24)<| T_nr 37 [0] [.bool false] hQ h
 rw[if_neg c1]at h
 exact N_bd 15 (bne_iff_ne.mpr c1)<| T_ed 3 [15] [(18,.bool true)]<| T_tz 18<| T_srz 3<| T_nr 1 [0] [.bool false] hQ h
end morainelaw13_awake

/-! moraine/morainelaw13.GcNobody -/
namespace morainelaw13_GcNobody
def K0:=Func.code Tryz.f3
def K2:=cb K0
def K4:=cb K2
def K6:=cb K4
def K8:=cb K6
def K14:=cb K8
def K16:=cb K14
def K22:=cb K16
def K24:=cb K22
def K26:=cb K24
def K28:=cb K26
def K35:=ca K28
end morainelaw13_GcNobody
def morainelaw13_GcNobody.pt(g a:Int)(H:Array Obj)(R:Value->Array Obj->Prop):Prop:=
 ∀(b:Nat) (H1:Array Obj),b=H.size->H1=H.push (.cells #[.int .u64 0] 24)->
 (CanPuts H1 (ad b) 0 1)/\ ∀H2,H2=hputs H1 (ad b) [.int .u64 9] 0->
 gc_Need.C none g H2 (λv H3=> ∃x:Int,v=.int .i64 x/\
 if x=0 then(
 ∀(ai:Nat) (H4:Array Obj),ai=H3.size->H4=H3.push (.cells #[.pointer none,.slice none 0 0,.slice none 0 0,.int .u64 0] 30)->
 gc_Need.C (some (ad ai)) g H4 (λba H5=> ∃ac:Int,ba=.int .i64 ac/\
 if ac=0 then(
 ∀(ak:Nat) (H6:Array Obj),ak=H5.size->H6=H5.push (.cells #[.pointer (some (ad b))] 33)->
 gc_Collect.C none 0 0 (some (ad ak)) 1 1 H6 (λa8 H7=> ∃ab:Int,a8=.int .i64 ab/\
 if ab=1 then(
 ∀(af:Nat) (H8:Array Obj),af=H7.size->H8=H7.push (.cells #[.pointer none,.slice none 0 0,.slice none 0 0,.int .u64 0] 30)->
 ∀(am:Nat) (H9:Array Obj),am=H8.size->H9=H8.push (.cells #[.pointer (some (ad b))] 33)->
 gc_Collect.C (some (ad af)) 0 0 (some (ad am)) 1 1 H9 (λbc au=> ∃ae:Int,bc=.int .i64 ae/\
 if ae=1 then(
 ∃u:Int,hat au (ad b)=some (.int .u64 u)/\
 if u=9 then(
 obj_New.C 40 au (λa7 a0=> ∃(ra:Option Addr) (rb:Int),a7=.tuple #[.pointer ra,.int .i64 rb]/\
 if rb=0 then(
 obj_Heap_Cons.C ra 8 16 a0 (λbd a6=> ∃e av:Int,bd=.tuple #[.int .u64 e,.int .i64 av]/\
 ∀(f:Nat) (H13:Array Obj),f=a6.size->H13=a6.push (.cells #[.int .u64 0] 24)->
 (CanPuts H13 (ad f) 0 1)/\ ∀ao,ao=hputs H13 (ad f) [.int .u64 e] 0->
 ∀(al:Nat) (H15:Array Obj),al=ao.size->H15=ao.push (.cells #[.pointer (some (ad f))] 33)->
 gc_Collect.C ra g a (some (ad al)) 1 1 H15 (λa9 r=> ∃i:Int,a9=.int .i64 i/\
 if((((decide (g<0)) || (decide (g>3))) || (decide (a<0))) || ((a !=g) && ((IntKind.wrap .i64 (a-1)) !=g)))=true then(
 ∃J:Bool->Array Obj->Prop,(
 if i=1 then(
 ∃t:Int,hat r (ad f)=some (.int .u64 t)/\
 if t=e then(
 ∃l:Addr,ra=some l/\
 ∃aq:Option Addr,hat r l=some (.pointer aq)/\
 ∃ap:Addr,aq=some ap/\
 ∃an:Option Addr,hat r ap=some (.pointer an)/\
 space_Space_Words.C an none 0 0 r (λbg ay=> ∃p:Int,bg=.int .i64 p/\
 if p=2 then(
 obj_Heap_Epoch.C (some l) ay (λbb a4=> ∃o:Int,bb=.int .u64 o/\
 if o=0 then(
 morainelaw13_awake.C a4 (λa2 be=> ∃z:Bool,a2=.bool z/\
 J z be))
 else
 J false a4))
 else
 J false ay))
 else
 J false r)
 else
 J false r)/\ ∀(s4:Bool) (H17:Array Obj),J s4 H17->
 R (.bool s4) H17)
 else
 ∃d:Addr,ra=some d/\
 ∃n:Option Addr,hat r d=some (.pointer n)/\
 ∃s:Int,hat r (ad f)=some (.int .u64 s)/\
 card_Cards_Gen.C n s r (λa3 aj=> ∃(j:Int) (k:Bool),a3=.tuple #[.int .i64 j,.bool k]/\
 if i=0 then(
 if k=true then(
 if j=a then(
 ∃ah:Option Addr,hat aj d=some (.pointer ah)/\
 ∃ag:Addr,ah=some ag/\
 ∃y:Option Addr,hat aj ag=some (.pointer y)/\
 space_Space_Words.C y none 0 0 aj (λa5 az=> ∃q:Int,a5=.int .i64 q/\
 if q=2 then(
 obj_Heap_Epoch.C (some d) az (λa1 aw=> ∃m:Int,a1=.int .u64 m/\
 if m=1 then(
 morainelaw13_awake.C aw (λax bf=> ∃aa:Bool,ax=.bool aa/\
 R (.bool aa) bf))
 else
 R (.bool false) aw))
 else
 R (.bool false) az))
 else
 R (.bool false) aj)
 else
 R (.bool false) aj)
 else
 R (.bool false) aj))))
 else
 R (.bool false) a0))
 else
 R (.bool false) au)
 else
 R (.bool false) au))
 else
 R (.bool false) H7))
 else
 R (.bool false) H5))
 else
 R (.bool false) H3)
namespace morainelaw13_GcNobody
theorem link{g a:Int}{H:Array Obj}{R:Value->Array Obj->Prop}(h:pt g a H R):C g a H R:=by
 refine T_en K0 145 Tryz.func3 ?_
 intro w0 Q hQ
 unfold pt at h
 refine T_su [(0,vi g),(1,vi a)]<| T_srz 0<| T_ed 1 [] []<| T_srz 1<| T_ed 1 [] [(5,vp none)]<| T_srz 2<| T_nw (some 6) (λb=>vp (pa b)) (.cells #[vu 0] 24) ?_
 intro b H1 e1 e2
 replace h:=h b H1 e1 e2
 refine T_pd [] [(6,vp (pa b))] ?_
 obtain⟨q4,h⟩:=h
 refine T_st1 24 (vu 9) q4 ?_
 intro H2 e3
 replace h:=h H2 e3
 refine T_pd [] []<| T_e<| T_sz<| T_srz 3<| T_nd 2 [] [(15,vp none),(16,vi g)] ?_
 refine T_c (some 17) h ?_;clear h
 rintro v H3 ⟨x,rfl,h⟩
 refine T_pd [15,16] [(17,vi x)]<| T_nd 2 [17] [(19,.bool (x !=0))] ?_
 by_cases c5:x=0
 ·rw[if_pos c5]at h
  refine N_bd 19 (bne_eq_false_iff_eq.mpr c5)<| T_nd 1 [] [(20,.agg #[vp none,vs none 0 0,vs none 0 0,vu 0])]<| T_nw (some 21) (λb=>vp (pa b)) (.cells #[vp none,vs none 0 0,vs none 0 0,vu 0] 30) ?_
  intro ai H4 e7 e8
  replace h:=h ai H4 e7 e8
  refine T_pd [20] [(21,vp (pa ai))]<| T_nd 1 [] [(22,vi g)] ?_
  refine T_c (some 23) h ?_;clear h
  rintro ba H5 ⟨ac,rfl,h⟩
  refine T_pd [21,22] [(23,vi ac)]<| T_nd 3 [19,23] [(26,.bool (ac !=0))] ?_
  by_cases c9:ac=0
  ·rw[if_pos c9]at h
   refine N_bd 26 (bne_eq_false_iff_eq.mpr c9)<| T_nd 1 [5] [(27,vp none)]<| T_nw (some 28) (λb=>vs (pa b) 1 1) (.cells #[vp (pa b)] 33) ?_
   intro ak H6 e11 e12
   replace h:=h ak H6 e11 e12
   refine T_pd [] [(28,vs (pa ak) 1 1)] ?_
   refine T_c (some 29) h ?_;clear h
   rintro a8 H7 ⟨ab,rfl,h⟩
   refine T_pd [27,28] [(29,vi ab)]<| T_nd 3 [26,29] [(32,.bool (ab !=1))] ?_
   by_cases c13:ab=1
   ·rw[if_pos c13]at h
    refine N_bd 32 (bne_eq_false_iff_eq.mpr c13)<| T_nd 1 [] [(33,.agg #[vp none,vs none 0 0,vs none 0 0,vu 0])]<| T_nw (some 34) (λb=>vp (pa b)) (.cells #[vp none,vs none 0 0,vs none 0 0,vu 0] 30) ?_
    intro af H8 e15 e16
    replace h:=h af H8 e15 e16
    refine T_pd [33] [(34,vp (pa af))]<| T_nw (some 35) (λb=>vs (pa b) 1 1) (.cells #[vp (pa b)] 33) ?_
    intro am H9 e17 e18
    replace h:=h am H9 e17 e18
    refine T_pd [] [(35,vs (pa am) 1 1)] ?_
    refine T_c (some 36) h ?_;clear h
    rintro bc au ⟨ae,rfl,h⟩
    refine T_pd [34,35] [(36,vi ae)]<| T_nd 3 [32,36] [(39,.bool (ae !=1))] ?_
    by_cases c19:ae=1
    ·rw[if_pos c19]at h
     refine N_bd 39 (bne_eq_false_iff_eq.mpr c19) ?_
     obtain⟨u,q21,h⟩:=h
     refine T_l1 40 24 q21 [6]<| T_ed 2 [39,40] [(42,.bool (u !=9))] ?_
     by_cases c22:u=9
     ·rw[if_pos c22]at h
      refine T_cFz 42 (bne_eq_false_iff_eq.mpr c22)<| T_kt<| T_srz 5<| T_ud [42] [] ?_
      refine T_c (some 44) h ?_;clear h
      rintro a7 a0 ⟨ra,rb,rfl,h⟩
      refine T_pd [] [(44,.tuple #[vp ra,vi rb])]<| T_ed 5 [44] [(7,vp ra),(8,vi rb)]<| T_sz<| T_srz 6<| T_ed 2 [8] [(48,.bool (rb !=0))] ?_
      by_cases c24:rb=0
      ·rw[if_pos c24]at h
       refine T_cFz 48 (bne_eq_false_iff_eq.mpr c24)<| T_kt<| T_srz 8<| T_nd 1 [48] [(50,vp ra)] ?_
       refine T_c (some 51) h ?_;clear h
       rintro bd a6 ⟨e,av,rfl,h⟩
       refine T_pd [50] [(51,.tuple #[vu e,vi av])]<| T_ed 5 [51] [(9,vu e)]<| T_srz 9<| T_nd 1 [] [(54,vu e)]<| T_nw (some 11) (λb=>vp (pa b)) (.cells #[vu 0] 24) ?_
       intro f H13 e26 e27
       replace h:=h f H13 e26 e27
       refine T_pd [] [(11,vp (pa f))] ?_
       obtain⟨q29,h⟩:=h
       refine T_st1 24 (vu e) q29 ?_
       intro ao e28
       replace h:=h ao e28
       refine T_pd [54] []<| T_e<| T_srz 10<| T_nd 3 [] [(55,vp ra),(56,vi g),(57,vi a)]<| T_nw (some 58) (λb=>vs (pa b) 1 1) (.cells #[vp (pa f)] 33) ?_
       intro al H15 e30 e31
       replace h:=h al H15 e30 e31
       refine T_pd [] [(58,vs (pa al) 1 1)] ?_
       refine T_c (some 59) h ?_;clear h
       rintro a9 r ⟨i,rfl,h⟩
       refine T_pd [55,56,57,58] [(59,vi i)]<| T_ed 1 [59] [(12,vi i)]<| T_sz<| T_srz 11 ?_
       refine N_cut [(1,vi a),(7,vp ra),(9,vu e),(11,vp (pa f)),(12,vi i),(80,.bool ((((decide (g<0)) || (decide (g>3))) || (decide (a<0))) || ((a !=g) && ((IntKind.wrap .i64 (a-1)) !=g))))] ?_ ?_
       ·refine S_then ?_
        by_cases c40:((((decide (g<0)) || (decide (g>3))) || (decide (a<0))) || ((a !=g) && ((IntKind.wrap .i64 (a-1)) !=g)))=true
        ·rw[if_pos c40]at h
         refine T_cTz 80 c40<| T_sz ?_
         obtain⟨J,h,j43⟩:=h
         refine S_join (σ:=Bool) (λs_=> [(4,.bool s_)]) (λs_ H=>J s_ H) ?_ ?_
         ·rintro s4 H17 j44
          replace h:=j43 s4 H17 j44
          refine T_su [(4,.bool s4)] ?_
          refine S_then ?_
          exact T_ret [4] [.bool s4] hQ h
         refine T_rz 12<| T_n 3 [(7,vp ra),(9,vu e),(11,vp (pa f)),(83,.bool (i==1))] ?_
         by_cases c45:i=1
         ·rw[if_pos c45]at h
          have b46:(i==1)=true:=beq_iff_eq.mpr c45
          refine N_env [(7,vp ra),(9,vu e),(11,vp (pa f)),(83,.bool true)] (by rw[b46]) ?_
          clear b46
          obtain⟨t,q47,h⟩:=h
          refine T_l1 84 24 q47 [11]<| T_n 4 [(7,vp ra),(88,.bool (t==e))] ?_
          by_cases c48:t=e
          ·rw[if_pos c48]at h
           have b49:(t==e)=true:=beq_iff_eq.mpr c48
           refine N_env [(7,vp ra),(88,.bool true)] (by rw[b49]) ?_
           clear b49
           refine T_nd 1 [] [(89,vp ra)] ?_
           obtain⟨l,rfl,h⟩:=h
           refine T_nd 2 [7,89] [(7,vp (some l)),(91,vp (some l))] ?_
           obtain⟨aq,q50,h⟩:=h
           refine T_l1 92 26 q50 [91] ?_
           obtain⟨ap,rfl,h⟩:=h
           refine T_nd 2 [92] [(94,vp (some ap))] ?_
           obtain⟨an,q51,h⟩:=h
           refine T_l1 95 39 q51 [94] ?_
           refine T_c (some 96) h ?_;clear h
           rintro bg ay ⟨p,rfl,h⟩
           refine T_pd [95] [(96,vi p)]<| T_nd 3 [88,96] [(99,.bool (p==2))] ?_
           by_cases c52:p=2
           ·rw[if_pos c52]at h
            refine N_bd 99 (beq_iff_eq.mpr c52)<| T_nd 1 [7] [(100,vp (some l))] ?_
            refine T_c (some 101) h ?_;clear h
            rintro bb a4 ⟨o,rfl,h⟩
            refine T_pd [100] [(101,vu o)]<| T_n 3 [(104,.bool (o==0))] ?_
            by_cases c54:o=0
            ·rw[if_pos c54]at h
             have b55:(o==0)=true:=beq_iff_eq.mpr c54
             refine N_env [(104,.bool true)] (by rw[b55]) ?_
             clear b55
             refine T_c (some 105) h ?_;clear h
             rintro a2 be ⟨z,rfl,h⟩
             refine T_pd [] [(105,.bool z)]<| T_ne 2 [(4,.bool z)] ?_
             exact S_meet (z:Bool) sk h
            rw[if_neg c54]at h
            have b55:(o==0)=false:=beq_eq_false_iff_ne.mpr c54
            refine N_env [(104,.bool false)] (by rw[b55]) ?_
            clear b55
            refine T_ne 3 [(4,.bool false)] ?_
            exact S_meet (false:Bool) sk h
           rw[if_neg c52]at h
           refine N_bd 99 (beq_eq_false_iff_ne.mpr c52)<| T_ne 8 [(4,.bool false)] ?_
           exact S_meet (false:Bool) sk h
          rw[if_neg c48]at h
          have b49:(t==e)=false:=beq_eq_false_iff_ne.mpr c48
          refine N_env [(7,vp ra),(88,.bool false)] (by rw[b49]) ?_
          clear b49
          refine T_ne 19 [(4,.bool false)] ?_
          exact S_meet (false:Bool) sk h
         rw[if_neg c45]at h
         have b46:(i==1)=false:=beq_eq_false_iff_ne.mpr c45
         refine N_env [(7,vp ra),(9,vu e),(11,vp (pa f)),(83,.bool false)] (by rw[b46]) ?_
         clear b46
         refine T_ne 24 [(4,.bool false)] ?_
         exact S_meet (false:Bool) sk h
        rw[if_neg c40]at h
        refine T_cFz 80 (eq_false_of_ne_true c40)<| T_kt<| T_sz ?_
        obtain⟨d,rfl,h⟩:=h
        obtain⟨n,q56,h⟩:=h
        obtain⟨s,q57,h⟩:=h
        refine S_regionG 13 (Code.ops K35) [(5,d,[vp n]),(5,(ad f),[vu s])] 11 (bv 11 0) (by kernel_rfl) (by kernel_rfl) (by kernel_rfl) (by kernel_rfl) (by kernel_rfl) (show FactsAt _ _ _ from⟨⟨q56,trivial⟩,⟨q57,trivial⟩,trivial⟩) ?_
        refine T_gp 0 (some 108) (vp (some d)) (bv 11 1) [(1,vi a),(7,vp (some d)),(11,vp (pa f)),(12,vi i),(108,vp (some d))]<| T_gp1 1 109 (vp (some d)) (bv 11 3) [108]<| T_gp1 2 110 (vp (some d)) (bv 11 7) [109]<| T_g1 3 111 (vp n) (bv 11 15) [110] (loadN 26 (vp (some d))) (held_one 5 (λ_=>by kernel_rfl) (List.Mem.head _) (.inl (by kernel_rfl)))<| T_g1 4 112 (vu s) (bv 11 31) [11] (loadN 24 (vp (pa f))) (held_one 5 (λ_=>by kernel_rfl) (List.Mem.tail _ (List.Mem.head _)) (.inl (by kernel_rfl))) ?_
        refine G_call 5 (some 113) (bv 11 63) 15 #[vp n,vu s] (by kernel_rfl) (λ_=>by kernel_rfl) h (by kernel_rfl) ?_;clear h
        rintro a3 aj ⟨j,k,rfl,h⟩
        refine⟨[(1,vi a),(7,vp (some d)),(12,vi i),(113,.tuple #[vi j,.bool k])],pk,(show FactsAt _ _ _ from⟨trivial,trivial,trivial⟩),?_⟩
        refine T_g 6 (some 107) (.tuple #[vi j,.bool k]) (bv 11 127) [(1,vi a),(7,vp (some d)),(12,vi i),(107,.tuple #[vi j,.bool k])] (pure (.value (.tuple #[vi j,.bool k])):Sem Next) (λ_ _ _ _ _=>rfl)<| T_g1 7 114 (vi j) (bv 11 255) [] (pure (.value (vi j)):Sem Next) (λ_ _ _ _ _=>rfl)<| T_g1 8 115 (.bool k) (bv 11 511) [107] (pure (.value (.bool k)):Sem Next) (λ_ _ _ _ _=>rfl)<| T_g1 9 13 (vi j) (bv 11 1023) [114] (pure (.value (vi j)):Sem Next) (λ_ _ _ _ _=>rfl)<| T_g1 10 14 (.bool k) (bv 11 2047) [115] (pure (.value (.bool k)):Sem Next) (λ_ _ _ _ _=>rfl) ?_
        refine G_sub [(1,vi a),(7,vp (some d)),(12,vi i),(13,vi j),(14,.bool k)] sk ?_
        refine G_end (by kernel_rfl) ?_
        refine S_then ?_
        refine T_srz 14<| T_n 3 [(1,vi a),(7,vp (some d)),(13,vi j),(14,.bool k),(118,.bool (i==0))] ?_
        by_cases c58:i=0
        ·rw[if_pos c58]at h
         have b59:(i==0)=true:=beq_iff_eq.mpr c58
         refine N_env [(1,vi a),(7,vp (some d)),(13,vi j),(14,.bool k),(118,.bool true)] (by rw[b59]) ?_
         clear b59
         refine T_nd 3 [14,118] [(121,.bool k)] ?_
         by_cases c60:k=true
         ·rw[if_pos c60]at h
          refine N_bd 121 c60<| T_nd 5 [1,13,121] [(126,.bool (j==a))] ?_
          by_cases c62:j=a
          ·rw[if_pos c62]at h
           refine N_bd 126 (beq_iff_eq.mpr c62)<| T_nd 3 [] [(129,vp (some d))] ?_
           obtain⟨ah,q64,h⟩:=h
           refine T_l1 130 26 q64 [129] ?_
           obtain⟨ag,rfl,h⟩:=h
           refine T_nd 2 [130] [(132,vp (some ag))] ?_
           obtain⟨y,q65,h⟩:=h
           refine T_l1 133 39 q65 [132] ?_
           refine T_c (some 134) h ?_;clear h
           rintro a5 az ⟨q,rfl,h⟩
           refine T_pd [133] [(134,vi q)]<| T_nd 3 [126,134] [(137,.bool (q==2))] ?_
           by_cases c66:q=2
           ·rw[if_pos c66]at h
            refine N_bd 137 (beq_iff_eq.mpr c66)<| T_nd 1 [7] [(138,vp (some d))] ?_
            refine T_c (some 139) h ?_;clear h
            rintro a1 aw ⟨m,rfl,h⟩
            refine T_pd [138] [(139,vu m)]<| T_n 3 [(142,.bool (m==1))] ?_
            by_cases c68:m=1
            ·rw[if_pos c68]at h
             have b69:(m==1)=true:=beq_iff_eq.mpr c68
             refine N_env [(142,.bool true)] (by rw[b69]) ?_
             clear b69
             refine T_c (some 143) h ?_;clear h
             rintro ax bf ⟨aa,rfl,h⟩
             exact T_pd [] [(143,.bool aa)]<| T_nr 2 [4] [.bool aa] hQ h
            rw[if_neg c68]at h
            have b69:(m==1)=false:=beq_eq_false_iff_ne.mpr c68
            refine N_env [(142,.bool false)] (by rw[b69]) ?_
            clear b69
            exact T_nr 3 [4] [.bool false] hQ h
           rw[if_neg c66]at h
           exact N_bd 137 (beq_eq_false_iff_ne.mpr c66)<| T_nr 8 [4] [.bool false] hQ h
          rw[if_neg c62]at h
          exact N_bd 126 (beq_eq_false_iff_ne.mpr c62)<| T_nr 19 [4] [.bool false] hQ h
         rw[if_neg c60]at h
         exact N_bd 121 (eq_false_of_ne_true c60)<| T_nr 24 [4] [.bool false] hQ h
        rw[if_neg c58]at h
        have b59:(i==0)=false:=beq_eq_false_iff_ne.mpr c58
        refine N_env [(1,vi a),(7,vp (some d)),(13,vi j),(14,.bool k),(118,.bool false)] (by rw[b59]) ?_
        clear b59
        exact T_nr 27 [4] [.bool false] hQ h
       intro hk
       refine T_n 3 [(0,vi g),(1,vi a),(7,vp ra),(9,vu e),(11,vp (pa f)),(12,vi i),(62,.bool (decide (g<0)))] ?_
       by_cases c32:g<0
       ·have b33:(decide (g<0))=true:=decide_eq_true c32
        refine N_env [(0,vi g),(1,vi a),(7,vp ra),(9,vu e),(11,vp (pa f)),(12,vi i),(62,.bool true)] (by rw[b33]) ?_
        refine T_nd 18 [0,62] [(80,.bool true)] ?_
        refine N_end (by kernel_rfl) ?_
        refine S_bd 80 (b:=true) (v:=((((decide (g<0)) || (decide (g>3))) || (decide (a<0))) || ((a !=g) && ((IntKind.wrap .i64 (a-1)) !=g)))) (by simp only[b33,BL]) ?_
        exact hk
       have b33:(decide (g<0))=false:=decide_eq_false c32
       refine N_env [(0,vi g),(1,vi a),(7,vp ra),(9,vu e),(11,vp (pa f)),(12,vi i),(62,.bool false)] (by rw[b33]) ?_
       refine T_nd 4 [62] [(66,.bool (decide (g>3)))] ?_
       by_cases c34:g>3
       ·have b35:(decide (g>3))=true:=decide_eq_true c34
        refine N_bd 66 b35<| T_nd 14 [0,66] [(80,.bool true)] ?_
        refine N_end (by kernel_rfl) ?_
        refine S_bd 80 (b:=true) (v:=((((decide (g<0)) || (decide (g>3))) || (decide (a<0))) || ((a !=g) && ((IntKind.wrap .i64 (a-1)) !=g)))) (by simp only[b33,b35,BL]) ?_
        exact hk
       have b35:(decide (g>3))=false:=decide_eq_false c34
       refine N_bd 66 b35<| T_nd 4 [66] [(70,.bool (decide (a<0)))] ?_
       by_cases c36:a<0
       ·have b37:(decide (a<0))=true:=decide_eq_true c36
        refine N_bd 70 b37<| T_nd 10 [0,70] [(80,.bool true)] ?_
        refine N_end (by kernel_rfl) ?_
        refine S_bd 80 (b:=true) (v:=((((decide (g<0)) || (decide (g>3))) || (decide (a<0))) || ((a !=g) && ((IntKind.wrap .i64 (a-1)) !=g)))) (by simp only[b33,b35,b37,BL]) ?_
        exact hk
       have b37:(decide (a<0))=false:=decide_eq_false c36
       refine N_bd 70 b37<| T_nd 4 [] [(74,.bool (a !=g))] ?_
       by_cases c38:a=g
       ·have b39:(a !=g)=false:=bne_eq_false_iff_eq.mpr c38
        refine N_bd 74 b39<| T_nd 6 [0,70,74] [(80,.bool false)] ?_
        refine N_end (by kernel_rfl) ?_
        refine S_bd 80 (b:=false) (v:=((((decide (g<0)) || (decide (g>3))) || (decide (a<0))) || ((a !=g) && ((IntKind.wrap .i64 (a-1)) !=g)))) (by simp only[b33,b35,b37,b39,BL]) ?_
        exact hk
       have b39:(a !=g)=true:=bne_iff_ne.mpr c38
       refine N_bd 74 b39<| T_nd 6 [0,70,74] [(80,.bool ((IntKind.wrap .i64 (a-1)) !=g))] ?_
       refine N_end (by kernel_rfl) ?_
       refine S_bd 80 (b:=((IntKind.wrap .i64 (a-1)) !=g)) (v:=((((decide (g<0)) || (decide (g>3))) || (decide (a<0))) || ((a !=g) && ((IntKind.wrap .i64 (a-1)) !=g)))) (by simp only[b33,b35,b37,b39,BL]) ?_
       exact hk
      rw[if_neg c24]at h
      exact T_cTz 48 (bne_iff_ne.mpr c24)<| T_srz 7<| T_nr 1 [4] [.bool false] hQ h
     rw[if_neg c22]at h
     exact T_cTz 42 (bne_iff_ne.mpr c22)<| T_srz 4<| T_nr 1 [4] [.bool false] hQ h
    rw[if_neg c19]at h
    exact N_bd 39 (bne_iff_ne.mpr c19)<| T_ed 3 [6,39] [(42,.bool true)]<| T_tz 42<| T_srz 4<| T_nr 1 [4] [.bool false] hQ h
   rw[if_neg c13]at h
   exact N_bd 32 (bne_iff_ne.mpr c13)<| T_ed 10 [6,32] [(42,.bool true)]<| T_tz 42<| T_srz 4<| T_nr 1 [4] [.bool false] hQ h
  rw[if_neg c9]at h
  exact N_bd 26 (bne_iff_ne.mpr c9)<| T_ed 16 [5,6,26] [(42,.bool true)]<| T_tz 42<| T_srz 4<| T_nr 1 [4] [.bool false] hQ h
 rw[if_neg c5]at h
 exact N_bd 19 (bne_iff_ne.mpr c5)<| T_ed 23 [5,6,19] [(42,.bool true)]<| T_tz 42<| T_srz 4<| T_nr 1 [4] [.bool false] hQ h
end morainelaw13_GcNobody

end Go.Proofs.YtgnokbjknicahaaGreat
