/- Printed: what each function asks, and that it is sound. -/
import Derived.Test.YtgnokbjknicahaaGreatFnsC
set_option linter.unusedSimpArgs false
set_option linter.unusedVariables false
set_option maxRecDepth 100000
set_option maxHeartbeats 1000000
noncomputable section
namespace Go.Proofs.YtgnokbjknicahaaGreat
open Go
/-! (*moraine/space.Space).none -/
namespace space_Space_none
def K0:=Func.code Tryz.f37
end space_Space_none
def space_Space_none.pt(s:zW)(H:zV)(R:Value->zV->Prop):Prop:=
 onPtr s (
 R (.bool true) H) (λsA=>
 ∃x:zW,hat H sA=some (.pointer x)/\
 onPtr x (
 R (.bool true) H) (λxA=>
 R (.bool false) H))
namespace space_Space_none
theorem link{s:zW}{H:zV}{R:Value->zV->Prop}(h:pt s H R):C s H R:=by
 refine T_en K0 12 Tryz.func37 ?_
 intro w0 Q hQ
 unfold pt at h
 refine T_su [(0,vp s)]<| T_srz 0<| T_ed 1 [] []<| T_srz 1<| T_nd 1 [] [(3,vp s)] ?_
 rcases s with _ | sA
 ·rw[onPtr_none]at h
  exact T_nr 9 [2] [.bool true] hQ h
 rw[onPtr_some]at h
 refine T_n 5 [(5,.bool false),(8,vp (some sA))] ?_
 obtain⟨x,q1,h⟩:=h
 refine T_l1 9 69 q1 [8] ?_
 rcases x with _ | xA
 ·rw[onPtr_none]at h
  exact T_nr 3 [2] [.bool true] hQ h
 rw[onPtr_some]at h
 exact T_nr 3 [2] [.bool false] hQ h
end space_Space_none

/-! (*moraine/space.Space).Alloc -/
namespace space_Space_Alloc
def K0:=Func.code Tryz.f66
end space_Space_Alloc
def space_Space_Alloc.pt(s:zW)(d b nv:Int)(H:zV)(R:Value->zV->Prop):Prop:=
 space_Space_none.C s H (λv H1=> ∃x:Bool,v=.bool x/\
 if x=true then(
 R (.tuple #[.int .i64 0,.int .i64 1]) H1)
 else
 space_may.C d b nv H1 (λae H2=> ∃o:Bool,ae=.bool o/\
 if o=true then(
 space_Space_Current.C s d b H2 (λac H3=> ∃(ra:Int) (rb:Bool),ac=.tuple #[.int .i64 ra,.bool rb]/\
 ∃J:zV->Prop,(
 if rb=true then(
 ∃j:Addr,s=some j/\
 ∃r:zW,hat H3 j=some (.pointer r)/\
 seg_Mem_Bump.C r ra nv H3 (λz H8=> ∃l m:Int,z=.tuple #[.int .i64 l,.int .i64 m]/\
 if m=0 then(
 R (.tuple #[.int .i64 l,.int .i64 0]) H8)
 else
 J H8))
 else
 J H3)/\ ∀(H4:zV),J H4->
 ∃sA:Addr,s=some sA/\
 ∃y:zW,hat H4 sA=some (.pointer y)/\
 seg_Mem_Take.C y d b H4 (λab H5=> ∃f g:Int,ab=.tuple #[.int .i64 f,.int .i64 g]/\
 if g=0 then(
 ((0:Int)<=d/\d< (5:Int))/\
 ((0:Int)<=b/\b< (4:Int))/\
 (CanPuts H5 (((sA.add 1).add (Int.toNat d*4)).add (Int.toNat b*1)) 0 1)/\ ∀H6,H6=hputs H5 (((sA.add 1).add (Int.toNat d*4)).add (Int.toNat b*1)) [.int .i64 (zY (f+1))] 0->
 ∃u:zW,hat H6 sA=some (.pointer u)/\
 seg_Mem_Bump.C u f nv H6 (λaa H7=> ∃q p:Int,aa=.tuple #[.int .i64 q,.int .i64 p]/\
 R (.tuple #[.int .i64 q,.int .i64 p]) H7))
 else
 R (.tuple #[.int .i64 0,.int .i64 g]) H5)))
 else
 R (.tuple #[.int .i64 0,.int .i64 1]) H2))
namespace space_Space_Alloc
theorem link{s:zW}{d b nv:Int}{H:zV}{R:Value->zV->Prop}(h:pt s d b nv H R):C s d b nv H R:=by
 refine T_en K0 77 Tryz.func66 ?_
 intro w0 Q hQ
 unfold pt zY at h
 refine T_su [(0,vp s),(1,vi d),(2,vi b),(3,vi nv)]<| T_srz 0<| T_ed 2 [] []<| T_sz<| T_srz 1<| T_nd 1 [] [(16,vp s)] ?_
 refine T_c (some 17) h ?_;clear h
 rintro v H1 ⟨x,rfl,h⟩
 refine T_pd [16] [(17,.bool x)]<| T_nd 1 [17] [(18,.bool x)] ?_
 by_cases c1:x=true
 ·rw[if_pos c1]at h
  exact N_bd 18 c1<| T_ed 6 [18] [(24,.bool true)]<| T_tz 24<| T_srz 2<| T_nr 2 [8,9] [vi 0,vi 1] hQ h
 rw[if_neg c1]at h
 refine N_bd 18 (zZ c1)<| T_nd 3 [] [(19,vi d),(20,vi b),(21,vi nv)] ?_
 refine T_c (some 22) h ?_;clear h
 rintro ae H2 ⟨o,rfl,h⟩
 refine T_pd [19,20,21] [(22,.bool o)]<| T_ed 2 [18,22] [(24,.bool (!o))] ?_
 by_cases c3:o=true
 ·rw[if_pos c3]at h
  refine T_cFz 24 (congrArg Bool.not (c3))<| T_kt<| T_sz<| T_srz 3<| T_nd 3 [24] [(26,vp s),(27,vi d),(28,vi b)] ?_
  refine T_c (some 29) h ?_;clear h
  rintro ac H3 ⟨ra,rb,rfl,h⟩
  refine T_pd [26,27,28] [(29,.tuple #[vi ra,.bool rb])]<| T_ed 5 [29] [(10,vi ra),(11,.bool rb)]<| T_srz 4<| T_ne 1 [(0,vp s),(1,vi d),(2,vi b),(3,vi nv),(10,vi ra),(32,.bool rb)] ?_
  obtain⟨J,h,j6⟩:=h
  refine S_join (σ:=Unit) (λs_=> [(0,vp s),(1,vi d),(2,vi b),(3,vi nv)]) (λs_ H=>J H) ?_ ?_
  ·rintro _ H4 j7
   replace h:=j6 H4 j7
   refine T_su [(0,vp s),(1,vi d),(2,vi b),(3,vi nv)]<| S_then<| T_srz 8<| T_nd 1 [] [(47,vp s)] ?_
   obtain⟨sA,rfl,h⟩:=h
   refine T_nd 2 [0,47] [(0,vp (some sA)),(49,vp (some sA))] ?_
   obtain⟨y,q8,h⟩:=h
   refine T_l1 50 69 q8 [49]<| T_nd 2 [] [(51,vi d),(52,vi b)] ?_
   refine T_c (some 53) h ?_;clear h
   rintro ab H5 ⟨f,g,rfl,h⟩
   refine T_pd [50,51,52] [(53,.tuple #[vi f,vi g])]<| T_ed 5 [53] [(14,vi f),(15,vi g)]<| T_sz<| T_srz 9<| T_ed 2 [] [(57,.bool (g !=0))] ?_
   by_cases c9:g=0
   ·rw[if_pos c9]at h
    refine T_cFz 57 (bne_eq_false_iff_eq.mpr c9)<| T_kt<| T_srz 11<| T_nd 7 [1,2,15,57] [(60,vi d),(61,vi b),(63,vi (zY (f+1))),(65,vp (some (sA.add 1)))] ?_
    obtain⟨q11,h⟩:=h
    refine T_v1 66 (indexAtN 71 (vp (some (sA.add 1))) (vi d)) (vp (some ((sA.add 1).add (Int.toNat d*4)))) (λw _=>indexArr_run (P:=Tryz.prog) (t:=71) (elem:=70) (sz:=4) (n:=5) (a:=(sA.add 1)) (k:=.i64) (i:=d) Tryz.underlying71 (λ_=>by kernel_rfl) q11.1 q11.2 w) [60,65] ?_
    obtain⟨q12,h⟩:=h
    refine T_v1 67 (indexAtN 70 (vp (some ((sA.add 1).add (Int.toNat d*4)))) (vi b)) (vp (some (((sA.add 1).add (Int.toNat d*4)).add (Int.toNat b*1)))) (λw _=>indexArr_run (P:=Tryz.prog) (t:=70) (elem:=3) (sz:=1) (n:=4) (a:=((sA.add 1).add (Int.toNat d*4))) (k:=.i64) (i:=b) Tryz.underlying70 (λ_=>by kernel_rfl) q12.1 q12.2 w) [61,66] ?_
    obtain⟨q14,h⟩:=h
    refine T_st1 3 (vi (zY (f+1))) q14 ?_
    intro H6 e13
    replace h:=h H6 e13
    refine T_pd [63,67] []<| T_e<| T_srz 12<| T_nd 3 [0] [(70,vp (some sA))] ?_
    obtain⟨u,q15,h⟩:=h
    refine T_l1 71 69 q15 [70]<| T_nd 2 [3,14] [(72,vi f),(73,vi nv)] ?_
    refine T_c (some 74) h ?_;clear h
    rintro aa H7 ⟨q,p,rfl,h⟩
    refine⟨[(74,.tuple #[vi q,vi p])],pk,?_⟩
    exact T_nr 4 [8,9] [vi q,vi p] hQ h
   rw[if_neg c9]at h
   exact T_cTz 57 (bne_iff_ne.mpr c9)<| T_srz 10<| T_nr 3 [8,9] [vi 0,vi g] hQ h
  by_cases c16:rb=true
  ·rw[if_pos c16]at h
   have b17:rb=true:=c16
   refine S_env [(0,vp s),(1,vi d),(2,vi b),(3,vi nv),(10,vi ra),(32,.bool true)] (by simp only[b17,Bool.not_true,Bool.not_false]) ?_
   clear b17
   refine T_tz 32<| T_srz 5<| T_nd 1 [32] [(34,vp s)] ?_
   obtain⟨j,rfl,h⟩:=h
   refine T_nd 2 [0,34] [(0,vp (some j)),(36,vp (some j))] ?_
   obtain⟨r,q18,h⟩:=h
   refine T_l1 37 69 q18 [36]<| T_nd 2 [10] [(38,vi ra),(39,vi nv)] ?_
   refine T_c (some 40) h ?_;clear h
   rintro z H8 ⟨l,m,rfl,h⟩
   refine T_pd [37,38,39] [(40,.tuple #[vi l,vi m])]<| T_ed 5 [40] [(12,vi l),(13,vi m)]<| T_srz 6<| T_ed 2 [13] [(44,.bool (m==0))] ?_
   by_cases c19:m=0
   ·rw[if_pos c19]at h
    exact T_cTz 44 (zK c19)<| T_srz 7<| T_nr 3 [8,9] [vi l,vi 0] hQ h
   rw[if_neg c19]at h
   exact T_cFz 44 (zJ c19)<| T_kt<| S_meet (():Unit) sk h
  rw[if_neg c16]at h
  have b17:rb=false:=zZ c16
  refine S_env [(0,vp s),(1,vi d),(2,vi b),(3,vi nv),(10,vi ra),(32,.bool false)] (by simp only[b17,Bool.not_true,Bool.not_false]) ?_
  clear b17
  exact T_fz 32<| T_kt<| S_meet (():Unit) sk h
 rw[if_neg c3]at h
 exact T_cTz 24 (congrArg Bool.not (zZ c3))<| T_srz 2<| T_nr 2 [8,9] [vi 0,vi 1] hQ h
end space_Space_Alloc

/-! moraine/space.New -/
namespace space_New
def K0:=Func.code Tryz.f78
end space_New
def space_New.pt(a:Int)(H:zV)(R:Value->zV->Prop):Prop:=
 seg_New.C a H (λv H1=> ∃(ra:zW) (rb:Int),v=.tuple #[.pointer ra,.int .i64 rb]/\
 if rb=0 then(
 ∀(b:Nat) (H2:zV),b=H1.size->H2=H1.push (.cells #[.pointer ra,.int .i64 0,.int .i64 0,.int .i64 0,.int .i64 0,.int .i64 0,.int .i64 0,.int .i64 0,.int .i64 0,.int .i64 0,.int .i64 0,.int .i64 0,.int .i64 0,.int .i64 0,.int .i64 0,.int .i64 0,.int .i64 0,.int .i64 0,.int .i64 0,.int .i64 0,.int .i64 0] 73)->
 R (.tuple #[.pointer (some (ad b)),.int .i64 0]) H2)
 else
 R (.tuple #[.pointer none,.int .i64 rb]) H1)
namespace space_New
theorem link{a:Int}{H:zV}{R:Value->zV->Prop}(h:pt a H R):C a H R:=by
 refine T_en K0 17 Tryz.func78 ?_
 intro w0 Q hQ
 unfold pt at h
 refine T_su [(0,vi a)]<| T_srz 0<| T_ed 2 [] []<| T_srz 1<| T_n 1 [(7,vi a)] ?_
 refine T_c (some 8) h ?_;clear h
 rintro v H1 ⟨ra,rb,rfl,h⟩
 refine⟨[(8,.tuple #[vp ra,vi rb])],pk,?_⟩
 refine T_ne 5 [(4,vp ra),(5,vi rb)]<| T_sz<| T_srz 2<| T_ed 2 [] [(12,.bool (rb !=0))] ?_
 by_cases c1:rb=0
 ·rw[if_pos c1]at h
  refine T_cFz 12 (bne_eq_false_iff_eq.mpr c1)<| T_kt<| T_srz 4<| T_n 2 [(15,.agg #[vp ra,vi 0,vi 0,vi 0,vi 0,vi 0,vi 0,vi 0,vi 0,vi 0,vi 0,vi 0,vi 0,vi 0,vi 0,vi 0,vi 0,vi 0,vi 0,vi 0,vi 0])]<| T_nw (some 16) (λb=>vp (pa b)) (.cells #[vp ra,vi 0,vi 0,vi 0,vi 0,vi 0,vi 0,vi 0,vi 0,vi 0,vi 0,vi 0,vi 0,vi 0,vi 0,vi 0,vi 0,vi 0,vi 0,vi 0,vi 0] 73) ?_
  intro b H2 e3 e4
  replace h:=h b H2 e3 e4
  refine⟨[(16,vp (pa b))],pk,?_⟩
  exact T_nr 2 [2,3] [vp (pa b),vi 0] hQ h
 rw[if_neg c1]at h
 exact T_cTz 12 (bne_iff_ne.mpr c1)<| T_srz 3<| T_nr 3 [2,3] [vp none,vi rb] hQ h
end space_New

/-! moraine/space.may -/
namespace space_may
def K0:=Func.code Tryz.f101
end space_may
def space_may.pt(b a nv:Int)(H:zV)(R:Value->zV->Prop):Prop:=
 if((decide (b<0)) || (decide (b>4)))=true then(
 R (.bool false) H)
 else
 if((a==0) || (a==1))=true then(
 R (.bool (nv==2)) H)
 else
 R (.bool ((((a==2) || (a==3)) && (decide (nv>=1))) && (decide (nv<=63)))) H
namespace space_may
theorem link{b a nv:Int}{H:zV}{R:Value->zV->Prop}(h:pt b a nv H R):C b a nv H R:=by
 refine T_en K0 37 Tryz.func101 ?_
 intro w0 Q hQ
 unfold pt at h
 refine T_su [(0,vi b),(1,vi a),(2,vi nv)]<| T_srz 0<| T_ed 1 [] []<| T_sz<| T_bz 0<| T_srz 1 ?_
 refine N_cut [(1,vi a),(2,vi nv),(7,.bool ((decide (b<0)) || (decide (b>4))))] ?_ ?_
 ·refine S_then ?_
  by_cases c3:((decide (b<0)) || (decide (b>4)))=true
  ·rw[if_pos c3]at h
   exact T_cTz 7 c3<| T_srz 2<| T_nr 1 [6] [.bool false] hQ h
  rw[if_neg c3]at h
  refine T_cFz 7 (zZ c3)<| T_srz 3 ?_
  refine N_cut [(1,vi a),(2,vi nv),(14,.bool ((a==0) || (a==1)))] ?_ ?_
  ·refine S_then ?_
   by_cases c7:((a==0) || (a==1))=true
   ·rw[if_pos c7]at h
    exact T_cTz 14 c7<| T_srz 4<| T_nr 3 [6] [.bool (nv==2)] hQ h
   rw[if_neg c7]at h
   refine T_cFz 14 (zZ c7)<| T_k<| S_blockEnd<| S_then<| T_srz 5 ?_
   refine N_cut [(6,.bool ((((a==2) || (a==3)) && (decide (nv>=1))) && (decide (nv<=63))))] ?_ ?_
   ·exact S_then<| T_ret [6] [.bool ((((a==2) || (a==3)) && (decide (nv>=1))) && (decide (nv<=63)))] hQ h
   intro hk
   refine T_n 3 [(1,vi a),(2,vi nv),(25,.bool (a==2))] ?_
   by_cases c9:a=2
   ·have b10:(a==2)=true:=zK c9
    refine N_env [(1,vi a),(2,vi nv),(25,.bool true)] (by rw[b10]) ?_
    refine T_nd 8 [1,25] [(33,.bool (decide (nv>=1)))] ?_
    by_cases c11:nv>=1
    ·have b12:(decide (nv>=1))=true:=zX c11
     refine N_bd 33 b12<| T_n 4 [(6,.bool (decide (nv<=63)))] ?_
     refine zq<| S_env [(6,.bool ((((a==2) || (a==3)) && (decide (nv>=1))) && (decide (nv<=63))))] (by simp only[b10,b12,BL]) ?_
     exact hk
    have b12:(decide (nv>=1))=false:=zQ c11
    refine N_bd 33 b12<| T_n 4 [(6,.bool false)] ?_
    refine zq<| S_env [(6,.bool ((((a==2) || (a==3)) && (decide (nv>=1))) && (decide (nv<=63))))] (by simp only[b10,b12,BL]) ?_
    exact hk
   have b10:(a==2)=false:=zJ c9
   refine N_env [(1,vi a),(2,vi nv),(25,.bool false)] (by rw[b10]) ?_
   refine T_nd 4 [1,25] [(29,.bool (a==3))] ?_
   by_cases c13:a=3
   ·have b14:(a==3)=true:=zK c13
    refine N_bd 29 b14<| T_nd 4 [29] [(33,.bool (decide (nv>=1)))] ?_
    by_cases c15:nv>=1
    ·have b16:(decide (nv>=1))=true:=zX c15
     refine N_bd 33 b16<| T_n 4 [(6,.bool (decide (nv<=63)))] ?_
     refine zq<| S_env [(6,.bool ((((a==2) || (a==3)) && (decide (nv>=1))) && (decide (nv<=63))))] (by simp only[b10,b14,b16,BL]) ?_
     exact hk
    have b16:(decide (nv>=1))=false:=zQ c15
    refine N_bd 33 b16<| T_n 4 [(6,.bool false)] ?_
    refine zq<| S_env [(6,.bool ((((a==2) || (a==3)) && (decide (nv>=1))) && (decide (nv<=63))))] (by simp only[b10,b14,b16,BL]) ?_
    exact hk
   have b14:(a==3)=false:=zJ c13
   refine N_bd 29 b14<| T_n 8 [(6,.bool false)] ?_
   refine zq<| S_env [(6,.bool ((((a==2) || (a==3)) && (decide (nv>=1))) && (decide (nv<=63))))] (by simp only[b10,b14,BL]) ?_
   exact hk
  intro hk
  refine T_n 3 [(1,vi a),(2,vi nv),(17,.bool (a==0))] ?_
  by_cases c5:a=0
  ·have b6:(a==0)=true:=zK c5
   refine N_env [(1,vi a),(2,vi nv),(17,.bool true)] (by rw[b6]) ?_
   refine T_nd 4 [17] [(14,.bool true)]<| zq<| S_bd 14 (b:=true) (v:=((a==0) || (a==1))) (by simp only[b6,BL]) ?_
   exact hk
  have b6:(a==0)=false:=zJ c5
  refine N_env [(1,vi a),(2,vi nv),(17,.bool false)] (by rw[b6]) ?_
  refine T_nd 4 [17] [(14,.bool (a==1))]<| zq<| S_bd 14 (b:=(a==1)) (v:=((a==0) || (a==1))) (by simp only[b6,BL]) ?_
  exact hk
 intro hk
 refine T_n 3 [(0,vi b),(1,vi a),(2,vi nv),(10,.bool (decide (b<0)))] ?_
 by_cases c1:b<0
 ·have b2:(decide (b<0))=true:=zX c1
  refine N_env [(0,vi b),(1,vi a),(2,vi nv),(10,.bool true)] (by rw[b2]) ?_
  refine T_nd 4 [0,10] [(7,.bool true)]<| zq<| S_bd 7 (b:=true) (v:=((decide (b<0)) || (decide (b>4)))) (by simp only[b2,BL]) ?_
  exact hk
 have b2:(decide (b<0))=false:=zQ c1
 refine N_env [(0,vi b),(1,vi a),(2,vi nv),(10,.bool false)] (by rw[b2]) ?_
 refine T_nd 4 [0,10] [(7,.bool (decide (b>4)))]<| zq<| S_bd 7 (b:=(decide (b>4))) (v:=((decide (b<0)) || (decide (b>4)))) (by simp only[b2,BL]) ?_
 exact hk
end space_may

/-! (*moraine/space.Space).Current -/
namespace space_Space_Current
def K0:=Func.code Tryz.f102
end space_Space_Current
def space_Space_Current.pt(s:zW)(d b:Int)(H:zV)(R:Value->zV->Prop):Prop:=
 onPtr s (
 R (.tuple #[.int .i64 0,.bool false]) H) (λsA=>
 if d<0 then(
 R (.tuple #[.int .i64 0,.bool false]) H)
 else
 if d>4 then(
 R (.tuple #[.int .i64 0,.bool false]) H)
 else
 if b<0 then(
 R (.tuple #[.int .i64 0,.bool false]) H)
 else
 if b>3 then(
 R (.tuple #[.int .i64 0,.bool false]) H)
 else
 ((0:Int)<=d/\d< (5:Int))/\
 ((0:Int)<=b/\b< (4:Int))/\
 ∃x:Int,hat H (((sA.add 1).add (Int.toNat d*4)).add (Int.toNat b*1))=some (.int .i64 x)/\
 if x=0 then(
 R (.tuple #[.int .i64 0,.bool false]) H)
 else
 ((0:Int)<=d/\d< (5:Int))/\
 ((0:Int)<=b/\b< (4:Int))/\
 ∃f:Int,hat H (((sA.add 1).add (Int.toNat d*4)).add (Int.toNat b*1))=some (.int .i64 f)/\
 R (.tuple #[.int .i64 (zY (f-1)),.bool true]) H)
namespace space_Space_Current
theorem link{s:zW}{d b:Int}{H:zV}{R:Value->zV->Prop}(h:pt s d b H R):C s d b H R:=by
 refine T_en K0 46 Tryz.func102 ?_
 intro w0 Q hQ
 unfold pt zY at h
 refine T_su [(0,vp s),(1,vi d),(2,vi b)]<| T_srz 0<| T_ed 2 [] []<| T_sz<| T_srz 1<| T_nd 1 [] [(8,vp s)] ?_
 rcases s with _ | sA
 ·rw[onPtr_none]at h
  exact T_ed 28 [0,8] [(0,vp none),(36,.bool true)]<| T_tz 36<| T_srz 2<| T_nr 2 [6,7] [vi 0,.bool false] hQ h
 rw[onPtr_some]at h
 refine T_nd 6 [0,8] [(0,vp (some sA)),(14,.bool (decide (d<0)))] ?_
 by_cases c1:d<0
 ·rw[if_pos c1]at h
  exact N_bd 14 (zX c1)<| T_ed 22 [14] [(36,.bool true)]<| T_tz 36<| T_srz 2<| T_nr 2 [6,7] [vi 0,.bool false] hQ h
 rw[if_neg c1]at h
 refine N_bd 14 (zQ c1)<| T_nd 4 [14] [(18,.bool (decide (d>4)))] ?_
 by_cases c3:d>4
 ·rw[if_pos c3]at h
  exact N_bd 18 (zX c3)<| T_ed 18 [18] [(36,.bool true)]<| T_tz 36<| T_srz 2<| T_nr 2 [6,7] [vi 0,.bool false] hQ h
 rw[if_neg c3]at h
 refine N_bd 18 (zQ c3)<| T_nd 4 [18] [(22,.bool (decide (b<0)))] ?_
 by_cases c5:b<0
 ·rw[if_pos c5]at h
  exact N_bd 22 (zX c5)<| T_ed 14 [22] [(36,.bool true)]<| T_tz 36<| T_srz 2<| T_nr 2 [6,7] [vi 0,.bool false] hQ h
 rw[if_neg c5]at h
 refine N_bd 22 (zQ c5)<| T_nd 4 [22] [(26,.bool (decide (b>3)))] ?_
 by_cases c7:b>3
 ·rw[if_pos c7]at h
  exact N_bd 26 (zX c7)<| T_ed 10 [26] [(36,.bool true)]<| T_tz 36<| T_srz 2<| T_nr 2 [6,7] [vi 0,.bool false] hQ h
 rw[if_neg c7]at h
 refine N_bd 26 (zQ c7)<| T_nd 5 [] [(28,vi d),(29,vi b),(31,vp (some (sA.add 1)))] ?_
 obtain⟨q9,h⟩:=h
 refine T_v1 32 (indexAtN 71 (vp (some (sA.add 1))) (vi d)) (vp (some ((sA.add 1).add (Int.toNat d*4)))) (λw _=>indexArr_run (P:=Tryz.prog) (t:=71) (elem:=70) (sz:=4) (n:=5) (a:=(sA.add 1)) (k:=.i64) (i:=d) Tryz.underlying71 (λ_=>by kernel_rfl) q9.1 q9.2 w) [28,31] ?_
 obtain⟨q10,h⟩:=h
 refine T_v1 33 (indexAtN 70 (vp (some ((sA.add 1).add (Int.toNat d*4)))) (vi b)) (vp (some (((sA.add 1).add (Int.toNat d*4)).add (Int.toNat b*1)))) (λw _=>indexArr_run (P:=Tryz.prog) (t:=70) (elem:=3) (sz:=1) (n:=4) (a:=((sA.add 1).add (Int.toNat d*4))) (k:=.i64) (i:=b) Tryz.underlying70 (λ_=>by kernel_rfl) q10.1 q10.2 w) [29,32] ?_
 obtain⟨x,q11,h⟩:=h
 refine T_l1 34 3 q11 [33]<| T_ed 2 [26,34] [(36,.bool (x==0))] ?_
 by_cases c12:x=0
 ·rw[if_pos c12]at h
  exact T_cTz 36 (zK c12)<| T_srz 2<| T_nr 2 [6,7] [vi 0,.bool false] hQ h
 rw[if_neg c12]at h
 refine T_cFz 36 (zJ c12)<| T_kt<| T_srz 3<| T_n 5 [(38,vi d),(39,vi b),(41,vp (some (sA.add 1)))] ?_
 obtain⟨q14,h⟩:=h
 refine T_v1 42 (indexAtN 71 (vp (some (sA.add 1))) (vi d)) (vp (some ((sA.add 1).add (Int.toNat d*4)))) (λw _=>indexArr_run (P:=Tryz.prog) (t:=71) (elem:=70) (sz:=4) (n:=5) (a:=(sA.add 1)) (k:=.i64) (i:=d) Tryz.underlying71 (λ_=>by kernel_rfl) q14.1 q14.2 w) [38,41] ?_
 obtain⟨q15,h⟩:=h
 refine T_v1 43 (indexAtN 70 (vp (some ((sA.add 1).add (Int.toNat d*4)))) (vi b)) (vp (some (((sA.add 1).add (Int.toNat d*4)).add (Int.toNat b*1)))) (λw _=>indexArr_run (P:=Tryz.prog) (t:=70) (elem:=3) (sz:=1) (n:=4) (a:=((sA.add 1).add (Int.toNat d*4))) (k:=.i64) (i:=b) Tryz.underlying70 (λ_=>by kernel_rfl) q15.1 q15.2 w) [39,42] ?_
 obtain⟨f,q16,h⟩:=h
 exact T_l1 44 3 q16 [43]<| T_nr 3 [6,7] [vi (zY (f-1)),.bool true] hQ h
end space_Space_Current

/-! (*moraine/card.Cards).Gen -/
namespace card_Cards_Gen
def K0:=Func.code Tryz.f15
end card_Cards_Gen
def card_Cards_Gen.pt(c:zW)(wv:Int)(H:zV)(R:Value->zV->Prop):Prop:=
 word_Addr.C wv H (λv H1=> ∃(ra:Int) (rb:Bool),v=.tuple #[.int .i64 ra,.bool rb]/\
 card_Cards_none.C c H1 (λt H2=> ∃x:Bool,t=.bool x/\
 if x=true then(
 R (.tuple #[.int .i64 0,.bool false]) H2)
 else
 if rb=true then(
 word_Tag.C wv H2 (λs H3=> ∃m:Int,s=.int .i64 m/\
 if m=6 then(
 R (.tuple #[.int .i64 0,.bool false]) H3)
 else
 ∃cA:Addr,c=some cA/\
 ∃q:zW,hat H3 cA=some (.pointer q)/\
 ∃p:Addr,q=some p/\
 ∃o:zW,hat H3 p=some (.pointer o)/\
 seg_Mem_Seg.C o (zY (Int.tdiv ra 64)) H3 (λr H4=> ∃(k i l a f g d:Int) (j:Bool),r=.tuple #[.agg #[.int .i64 k,.int .i64 i,.int .i64 l,.int .i64 a,.int .i64 f,.int .i64 g,.int .i64 d],.bool j]/\
 ∀(b:Nat) (H5:zV),b=H4.size->H5=H4.push (.cells #[.int .i64 0,.int .i64 0,.int .i64 0,.int .i64 0,.int .i64 0,.int .i64 0,.int .i64 0] 76)->
 (CanPuts H5 (ad b) 0 7)/\ ∀H6,H6=hputs H5 (ad b) [.int .i64 k,.int .i64 i,.int .i64 l,.int .i64 a,.int .i64 f,.int .i64 g,.int .i64 d] 0->
 ∃n:Int,hat H6 (ad b)=some (.int .i64 n)/\
 R (.tuple #[.int .i64 n,.bool j]) H6)))
 else
 R (.tuple #[.int .i64 0,.bool false]) H2))
namespace card_Cards_Gen
theorem link{c:zW}{wv:Int}{H:zV}{R:Value->zV->Prop}(h:pt c wv H R):C c wv H R:=by
 refine T_en K0 41 Tryz.func15 ?_
 intro w0 Q hQ
 unfold pt zY at h
 refine T_su [(0,vp c),(1,vu wv)]<| T_srz 0<| T_ed 2 [] []<| T_srz 1<| T_nd 1 [] [(10,vu wv)] ?_
 refine T_c (some 11) h ?_;clear h
 rintro v H1 ⟨ra,rb,rfl,h⟩
 refine T_pd [10] [(11,.tuple #[vi ra,.bool rb])]<| T_ed 5 [11] [(6,vi ra),(7,.bool rb)]<| T_sz<| T_srz 2<| T_nd 1 [] [(14,vp c)] ?_
 refine T_c (some 15) h ?_;clear h
 rintro t H2 ⟨x,rfl,h⟩
 refine T_pd [14] [(15,.bool x)]<| T_nd 1 [15] [(16,.bool x)] ?_
 by_cases c1:x=true
 ·rw[if_pos c1]at h
  exact N_bd 16 c1<| T_ed 8 [1,7,16] [(24,.bool true)]<| T_tz 24<| T_srz 3<| T_nr 2 [4,5] [vi 0,.bool false] hQ h
 rw[if_neg c1]at h
 refine N_bd 16 (zZ c1)<| T_nd 4 [7,16] [(20,.bool (!rb))] ?_
 by_cases c3:rb=true
 ·rw[if_pos c3]at h
  have b4:(!rb)=false:=congrArg Bool.not (c3)
  have b42:rb=true:=c3
  refine N_bd 20 (b:=(!rb)) (v:=false) (by simp only[b4,b42,Bool.not_true,Bool.not_false]) ?_
  clear b4 b42
  refine T_nd 1 [1] [(21,vu wv)] ?_
  refine T_c (some 22) h ?_;clear h
  rintro s H3 ⟨m,rfl,h⟩
  refine T_pd [21] [(22,vi m)]<| T_ed 2 [20,22] [(24,.bool (m==6))] ?_
  by_cases c5:m=6
  ·rw[if_pos c5]at h
   exact T_cTz 24 (zK c5)<| T_srz 3<| T_nr 2 [4,5] [vi 0,.bool false] hQ h
  rw[if_neg c5]at h
  refine T_cFz 24 (zJ c5)<| T_kt<| T_srz 4<| T_nd 1 [0,24] [(26,vp c)] ?_
  obtain⟨cA,rfl,h⟩:=h
  refine T_nd 2 [26] [(28,vp (some cA))] ?_
  obtain⟨q,q7,h⟩:=h
  refine T_l1 29 39 q7 [28] ?_
  obtain⟨p,rfl,h⟩:=h
  refine T_nd 2 [29] [(31,vp (some p))] ?_
  obtain⟨o,q8,h⟩:=h
  refine T_l1 32 69 q8 [31]<| T_nd 2 [6] [(34,vi (zY (Int.tdiv ra 64)))] ?_
  refine T_c (some 35) h ?_;clear h
  rintro r H4 ⟨k,i,l,a,f,g,d,j,rfl,h⟩
  refine⟨[(35,.tuple #[.agg #[vi k,vi i,vi l,vi a,vi f,vi g,vi d],.bool j])],pk,?_⟩
  refine T_n 3 [(36,.agg #[vi k,vi i,vi l,vi a,vi f,vi g,vi d]),(37,.bool j)]<| T_nw (some 8) (λb=>vp (pa b)) (.cells #[vi 0,vi 0,vi 0,vi 0,vi 0,vi 0,vi 0] 76) ?_
  intro b H5 e9 e10
  replace h:=h b H5 e9 e10
  refine T_pd [] [(8,vp (pa b))] ?_
  obtain⟨q12,h⟩:=h
  refine T_sta 76 [vi k,vi i,vi l,vi a,vi f,vi g,vi d] q12 ?_
  intro H6 e11
  replace h:=h H6 e11
  refine T_pd [36] []<| T_ed 1 [37] [(7,.bool j)]<| T_srz 5<| T_nd 1 [8] [(38,vp (pa b))] ?_
  obtain⟨n,q13,h⟩:=h
  exact T_l1 39 3 q13 [38]<| T_nr 3 [4,5] [vi n,.bool j] hQ h
 rw[if_neg c3]at h
 have b4:(!rb)=true:=congrArg Bool.not (zZ c3)
 have b42:rb=false:=zZ c3
 refine N_bd 20 (b:=(!rb)) (v:=true) (by simp only[b4,b42,Bool.not_true,Bool.not_false]) ?_
 clear b4 b42
 exact T_ed 4 [1,20] [(24,.bool true)]<| T_tz 24<| T_srz 3<| T_nr 2 [4,5] [vi 0,.bool false] hQ h
end card_Cards_Gen

/-! moraine/card.New -/
namespace card_New
def K0:=Func.code Tryz.f35
end card_New
def card_New.pt(a:Int)(H:zV)(R:Value->zV->Prop):Prop:=
 space_New.C a H (λv H1=> ∃(ra:zW) (rb:Int),v=.tuple #[.pointer ra,.int .i64 rb]/\
 if rb=0 then(
 ∀(b:Nat) (H2:zV),b=H1.size->H2=H1.push (.cells #[.pointer ra] 41)->
 R (.tuple #[.pointer (some (ad b)),.int .i64 0]) H2)
 else
 R (.tuple #[.pointer none,.int .i64 rb]) H1)
namespace card_New
theorem link{a:Int}{H:zV}{R:Value->zV->Prop}(h:pt a H R):C a H R:=by
 refine T_en K0 17 Tryz.func35 ?_
 intro w0 Q hQ
 unfold pt at h
 refine T_su [(0,vi a)]<| T_srz 0<| T_ed 2 [] []<| T_srz 1<| T_n 1 [(7,vi a)] ?_
 refine T_c (some 8) h ?_;clear h
 rintro v H1 ⟨ra,rb,rfl,h⟩
 refine⟨[(8,.tuple #[vp ra,vi rb])],pk,?_⟩
 refine T_ne 5 [(4,vp ra),(5,vi rb)]<| T_sz<| T_srz 2<| T_ed 2 [] [(12,.bool (rb !=0))] ?_
 by_cases c1:rb=0
 ·rw[if_pos c1]at h
  refine T_cFz 12 (bne_eq_false_iff_eq.mpr c1)<| T_kt<| T_srz 4<| T_n 2 [(15,.agg #[vp ra])]<| T_nw (some 16) (λb=>vp (pa b)) (.cells #[vp ra] 41) ?_
  intro b H2 e3 e4
  replace h:=h b H2 e3 e4
  refine⟨[(16,vp (pa b))],pk,?_⟩
  exact T_nr 2 [2,3] [vp (pa b),vi 0] hQ h
 rw[if_neg c1]at h
 exact T_cTz 12 (bne_iff_ne.mpr c1)<| T_srz 3<| T_nr 3 [2,3] [vp none,vi rb] hQ h
end card_New

/-! (*moraine/card.Cards).none -/
namespace card_Cards_none
def K0:=Func.code Tryz.f41
end card_Cards_none
def card_Cards_none.pt(c:zW)(H:zV)(R:Value->zV->Prop):Prop:=
 onPtr c (
 R (.bool true) H) (λcA=>
 ∃x:zW,hat H cA=some (.pointer x)/\
 onPtr x (
 R (.bool true) H) (λxA=>
 ∃b:zW,hat H cA=some (.pointer b)/\
 ∃d:Addr,b=some d/\
 ∃a:zW,hat H d=some (.pointer a)/\
 onPtr a (
 R (.bool true) H) (λf=>
 R (.bool false) H)))
namespace card_Cards_none
theorem link{c:zW}{H:zV}{R:Value->zV->Prop}(h:pt c H R):C c H R:=by
 refine T_en K0 22 Tryz.func41 ?_
 intro w0 Q hQ
 unfold pt at h
 refine T_su [(0,vp c)]<| T_srz 0<| T_ed 1 [] []<| T_srz 1<| T_nd 1 [] [(3,vp c)] ?_
 rcases c with _ | cA
 ·rw[onPtr_none]at h
  exact T_nr 19 [2] [.bool true] hQ h
 rw[onPtr_some]at h
 refine T_n 5 [(0,vp (some cA)),(5,.bool false),(8,vp (some cA))] ?_
 obtain⟨x,q1,h⟩:=h
 refine T_l1 9 39 q1 [8] ?_
 rcases x with _ | xA
 ·rw[onPtr_none]at h
  exact T_nr 13 [2] [.bool true] hQ h
 rw[onPtr_some]at h
 refine T_n 6 [(12,.bool false),(15,vp (some cA))] ?_
 obtain⟨b,q2,h⟩:=h
 refine T_l1 16 39 q2 [15] ?_
 obtain⟨d,rfl,h⟩:=h
 refine T_nd 2 [16] [(18,vp (some d))] ?_
 obtain⟨a,q3,h⟩:=h
 refine T_l1 19 69 q3 [18] ?_
 rcases a with _ | f
 ·rw[onPtr_none]at h
  exact T_nr 3 [2] [.bool true] hQ h
 rw[onPtr_some]at h
 exact T_nr 3 [2] [.bool false] hQ h
end card_Cards_none

/-! (*moraine/card.Cards).younger -/
namespace card_Cards_younger
def K0:=Func.code Tryz.f99
end card_Cards_younger
def card_Cards_younger.pt(c:zW)(l j sN g f d i wv a:Int)(H:zV)(R:Value->zV->Prop):Prop:=
 ∀(b:Nat) (H1:zV),b=H.size->H1=H.push (.cells #[.int .i64 l,.int .i64 j,.int .i64 sN,.int .i64 g,.int .i64 f,.int .i64 d,.int .i64 i] 76)->
 card_Cards_Gen.C c wv H1 (λv H2=> ∃(ra:Int) (rb:Bool),v=.tuple #[.int .i64 ra,.bool rb]/\
 if rb=true then(
 ∃x:Int,hat H2 ((ad b).add 1)=some (.int .i64 x)/\
 if x=3 then(
 R (.int .i64 a) H2)
 else
 ∃k:Int,hat H2 (ad b)=some (.int .i64 k)/\
 if ra<k then(
 R (.int .i64 (if ra<a then ra else a)) H2)
 else
 R (.int .i64 a) H2)
 else
 R (.int .i64 a) H2)
namespace card_Cards_younger
theorem link{c:zW}{l j sN g f d i wv a:Int}{H:zV}{R:Value->zV->Prop}(h:pt c l j sN g f d i wv a H R):C c l j sN g f d i wv a H R:=by
 refine T_en K0 33 Tryz.func99 ?_
 intro w0 Q hQ
 unfold pt at h
 refine T_su [(0,vp c),(1,.agg #[vi l,vi j,vi sN,vi g,vi f,vi d,vi i]),(2,vu wv),(3,vi a)]<| T_srz 0<| T_nw (some 5) (λb=>vp (pa b)) (.cells #[vi l,vi j,vi sN,vi g,vi f,vi d,vi i] 76) ?_
 intro b H1 e1 e2
 replace h:=h b H1 e1 e2
 refine T_pd [1] [(5,vp (pa b))]<| T_ed 1 [] []<| T_sz<| T_srz 1<| T_nd 2 [0,2] [(12,vp c),(13,vu wv)] ?_
 refine T_c (some 14) h ?_;clear h
 rintro v H2 ⟨ra,rb,rfl,h⟩
 refine T_pd [12,13] [(14,.tuple #[vi ra,.bool rb])]<| T_ed 5 [14] [(9,vi ra),(10,.bool rb)]<| T_srz 2<| T_nd 2 [10] [(18,.bool rb)] ?_
 by_cases c3:rb=true
 ·rw[if_pos c3]at h
  refine N_bd 18 c3<| T_nd 1 [] [(19,vp (some ((ad b).add 1)))] ?_
  obtain⟨x,q5,h⟩:=h
  refine T_l1 20 3 q5 [19]<| T_nd 3 [18,20] [(23,.bool (x !=3))] ?_
  by_cases c6:x=3
  ·rw[if_pos c6]at h
   exact N_bd 23 (bne_eq_false_iff_eq.mpr c6)<| T_ed 5 [5,23] [(28,.bool false)]<| T_fz 28<| T_kt<| T_srz 4<| T_nr 2 [8] [vi a] hQ h
  rw[if_neg c6]at h
  refine N_bd 23 (bne_iff_ne.mpr c6)<| T_nd 2 [5] [(24,vi ra),(25,vp (pa b))] ?_
  obtain⟨k,q8,h⟩:=h
  refine T_l1 26 3 q8 [25]<| T_ed 2 [23,24,26] [(28,.bool (decide (ra<k)))] ?_
  by_cases c9:ra<k
  ·rw[if_pos c9]at h
   exact T_cTz 28 (zX c9)<| T_srz 3<| T_nr 4 [8] [vi (if ra<a then ra else a)] hQ h
  rw[if_neg c9]at h
  exact T_cFz 28 (zQ c9)<| T_kt<| T_srz 4<| T_nr 2 [8] [vi a] hQ h
 rw[if_neg c3]at h
 exact N_bd 18 (zZ c3)<| T_ed 10 [5,18] [(28,.bool false)]<| T_fz 28<| T_kt<| T_srz 4<| T_nr 2 [8] [vi a] hQ h
end card_Cards_younger

/-! (*moraine/card.Cards).Store -/
namespace card_Cards_Store
def K0:=Func.code Tryz.f132
def K2:=cb K0
def K4:=cb K2
def K12:=cb K4
def K20:=cb K12
def K22:=cb K20
def K23:=ca K22
end card_Cards_Store
def card_Cards_Store.pt(c:zW)(d wv:Int)(H:zV)(R:Value->zV->Prop):Prop:=
 card_Cards_none.C c H (λv H1=> ∃x:Bool,v=.bool x/\
 if x=true then(
 R (.int .i64 18) H1)
 else
 ∃cA:Addr,c=some cA/\
 ∃aj:zW,hat H1 cA=some (.pointer aj)/\
 ∃al:Addr,aj=some al/\
 ∃ah:zW,hat H1 al=some (.pointer ah)/\
 seg_Mem_Write.C ah d wv H1 (λau H2=> ∃ab:Int,au=.int .i64 ab/\
 if ab=0 then(
 ∃ak:zW,hat H2 cA=some (.pointer ak)/\
 ∃am:Addr,ak=some am/\
 ∃ag:zW,hat H2 am=some (.pointer ag)/\
 seg_Mem_Seg.C ag (zY (Int.tdiv d 64)) H2 (λaq H3=> ∃(aa s ae m p q o:Int) (rb:Bool),aq=.tuple #[.agg #[.int .i64 aa,.int .i64 s,.int .i64 ae,.int .i64 m,.int .i64 p,.int .i64 q,.int .i64 o],.bool rb]/\
 ∀(b:Nat) (H4:zV),b=H3.size->H4=H3.push (.cells #[.int .i64 0,.int .i64 0,.int .i64 0,.int .i64 0,.int .i64 0,.int .i64 0,.int .i64 0] 76)->
 (CanPuts H4 (ad b) 0 7)/\ ∀H5,H5=hputs H4 (ad b) [.int .i64 aa,.int .i64 s,.int .i64 ae,.int .i64 m,.int .i64 p,.int .i64 q,.int .i64 o] 0->
 ∃an:zW,hat H5 cA=some (.pointer an)/\
 ∃z:Addr,an=some z/\
 ∃u:zW,hat H5 z=some (.pointer u)/\
 ∃y r xN f g l j:Int,RowAt H5 (ad b) 0 [.int .i64 y,.int .i64 r,.int .i64 xN,.int .i64 f,.int .i64 g,.int .i64 l,.int .i64 j]/\
 ((0:Int)<=(zY (Int.tdiv (Int.tmod d 64) 16))/\(zY (Int.tdiv (Int.tmod d 64) 16))< (4:Int))/\
 ∃af:Int,hat H5 (((ad b).add 3).add (Int.toNat (zY (Int.tdiv (Int.tmod d 64) 16))*1))=some (.int .i64 af)/\
 card_Cards_younger.C (some cA) y r xN f g l j wv af H5 (λap H6=> ∃ai:Int,ap=.int .i64 ai/\RowAt H6 cA 0 [.pointer (some z)]/\RowAt H6 z 0 [.pointer u]/\
 seg_Mem_Mark.C u (zY (Int.tdiv d 64)) (zY (Int.tdiv (Int.tmod d 64) 16)) ai H6 (λao H7=> ∃ac:Int,ao=.int .i64 ac/\
 R (.int .i64 ac) H7))))
 else
 R (.int .i64 ab) H2))
namespace card_Cards_Store
theorem link{c:zW}{d wv:Int}{H:zV}{R:Value->zV->Prop}(h:pt c d wv H R):C c d wv H R:=by
 refine T_en K0 62 Tryz.func132 ?_
 intro w0 Q hQ
 unfold pt zY at h
 refine T_su [(0,vp c),(1,vi d),(2,vu wv)]<| T_srz 0<| T_ed 1 [] []<| T_sz<| T_srz 1<| T_nd 1 [] [(12,vp c)] ?_
 refine T_c (some 13) h ?_;clear h
 rintro v H1 ⟨x,rfl,h⟩
 refine T_pd [12] [(13,.bool x)]<| T_e ?_
 by_cases c1:x=true
 ·rw[if_pos c1]at h
  exact T_cTz 13 c1<| T_srz 2<| T_nr 1 [6] [vi 18] hQ h
 rw[if_neg c1]at h
 refine T_cFz 13 (zZ c1)<| T_kt<| T_sz<| T_srz 3<| T_nd 1 [13] [(14,vp c)] ?_
 obtain⟨cA,rfl,h⟩:=h
 refine T_nd 2 [0,14] [(0,vp (some cA)),(16,vp (some cA))] ?_
 obtain⟨aj,q3,h⟩:=h
 refine T_l1 17 39 q3 [16] ?_
 obtain⟨al,rfl,h⟩:=h
 refine T_nd 2 [17] [(19,vp (some al))] ?_
 obtain⟨ah,q4,h⟩:=h
 refine T_l1 20 69 q4 [19]<| T_nd 2 [] [(21,vi d),(22,vu wv)] ?_
 refine T_c (some 23) h ?_;clear h
 rintro au H2 ⟨ab,rfl,h⟩
 refine T_pd [20,21,22] [(23,vi ab)]<| T_ed 1 [23] [(7,vi ab)]<| T_srz 4<| T_ed 2 [] [(25,.bool (ab !=0))] ?_
 by_cases c5:ab=0
 ·rw[if_pos c5]at h
  refine T_cFz 25 (bne_eq_false_iff_eq.mpr c5)<| T_kt<| T_srz 6<| T_ed 7 [1,7,25] [(8,vi (zY (Int.tdiv d 64))),(9,vi (zY (Int.tdiv (Int.tmod d 64) 16)))]<| T_srz 7<| T_nd 3 [] [(35,vp (some cA))] ?_
  obtain⟨ak,q7,h⟩:=h
  refine T_l1 36 39 q7 [35] ?_
  obtain⟨am,rfl,h⟩:=h
  refine T_nd 2 [36] [(38,vp (some am))] ?_
  obtain⟨ag,q8,h⟩:=h
  refine T_l1 39 69 q8 [38]<| T_nd 1 [] [(40,vi (zY (Int.tdiv d 64)))] ?_
  refine T_c (some 41) h ?_;clear h
  rintro aq H3 ⟨aa,s,ae,m,p,q,o,rb,rfl,h⟩
  refine T_pd [39,40] [(41,.tuple #[.agg #[vi aa,vi s,vi ae,vi m,vi p,vi q,vi o],.bool rb])]<| T_nd 3 [41] [(42,.agg #[vi aa,vi s,vi ae,vi m,vi p,vi q,vi o]),(43,.bool rb)]<| T_nw (some 10) (λb=>vp (pa b)) (.cells #[vi 0,vi 0,vi 0,vi 0,vi 0,vi 0,vi 0] 76) ?_
  intro b H4 e9 e10
  replace h:=h b H4 e9 e10
  refine T_pd [] [(10,vp (pa b))] ?_
  obtain⟨q12,h⟩:=h
  refine T_sta 76 [vi aa,vi s,vi ae,vi m,vi p,vi q,vi o] q12 ?_
  intro H5 e11
  replace h:=h H5 e11
  refine T_pd [42] []<| T_ed 1 [43] []<| T_sz ?_
  obtain⟨an,q13,h⟩:=h
  obtain⟨z,rfl,h⟩:=h
  obtain⟨u,q14,h⟩:=h
  obtain⟨y,r,xN,f,g,l,j,q15,h⟩:=h
  obtain⟨q16,h⟩:=h
  obtain⟨af,q17,h⟩:=h
  refine S_regionG 8 (Code.ops K23) [(17,cA,[vp (some z)]),(17,z,[vp u]),(16,(ad b),[vi y,vi r,vi xN,vi f,vi g,vi l,vi j]),(16,(((ad b).add 3).add (Int.toNat (zY (Int.tdiv (Int.tmod d 64) 16))*1)),[vi af])] 19 (bv 19 0) (by kernel_rfl) (by kernel_rfl) (by kernel_rfl) (by kernel_rfl) (by kernel_rfl) (show FactsAt _ _ _ from⟨⟨q13,trivial⟩,⟨q14,trivial⟩,q15,⟨q17,trivial⟩,trivial⟩)<| T_gp 0 (some 44) (vp (some cA)) (bv 19 1) [(0,vp (some cA)),(2,vu wv),(8,vi (zY (Int.tdiv d 64))),(9,vi (zY (Int.tdiv (Int.tmod d 64) 16))),(10,vp (pa b)),(44,vp (some cA))]<| T_gp1 1 45 (vp (some cA)) (bv 19 3) [44]<| T_gp1 2 46 (vp (some cA)) (bv 19 7) [45]<| T_g1 3 47 (vp (some z)) (bv 19 15) [46] (loadN 39 (vp (some cA))) (held_one 17 (λ_=>by kernel_rfl) (List.Mem.head _) (.inl (by kernel_rfl)))<| T_gp1 4 48 (vp (some z)) (bv 19 31) [47]<| T_gp1 5 49 (vp (some z)) (bv 19 63) [48]<| T_g1 6 50 (vp u) (bv 19 127) [49] (loadN 69 (vp (some z))) (held_one 17 (λ_=>by kernel_rfl) (List.Mem.tail _ (List.Mem.head _)) (.inl (by kernel_rfl)))<| T_gp1 7 51 (vi (zY (Int.tdiv d 64))) (bv 19 255) [8]<| T_gp1 8 52 (vi (zY (Int.tdiv (Int.tmod d 64) 16))) (bv 19 511) []<| T_gp1 9 53 (vp (some cA)) (bv 19 1023) [0]<| T_g1 10 54 (.agg #[vi y,vi r,vi xN,vi f,vi g,vi l,vi j]) (bv 19 2047) [] (loadN 76 (vp (pa b))) (held_row 16 (λ_=>by kernel_rfl) (λ_=>by kernel_rfl) (List.Mem.tail _ (List.Mem.tail _ (List.Mem.head _))) (.inl (by kernel_rfl)))<| T_gp1 11 55 (vu wv) (bv 19 4095) [2]<| T_gp1 12 56 (vi (zY (Int.tdiv (Int.tmod d 64) 16))) (bv 19 8191) [9]<| T_gp1 13 57 (vp (some ((ad b).add 3))) (bv 19 16383) [10]<| T_g1 14 58 (vp (some (((ad b).add 3).add (Int.toNat (zY (Int.tdiv (Int.tmod d 64) 16))*1)))) (bv 19 32767) [56,57] (indexAtN 70 (vp (some ((ad b).add 3))) (vi (zY (Int.tdiv (Int.tmod d 64) 16)))) (λ_ w _ _ _=>indexArr_run (P:=Tryz.prog) (t:=70) (elem:=3) (sz:=1) (n:=4) (a:=((ad b).add 3)) (k:=.i64) (i:=(zY (Int.tdiv (Int.tmod d 64) 16))) Tryz.underlying70 (λ_=>by kernel_rfl) q16.1 q16.2 w)<| T_g1 15 59 (vi af) (bv 19 65535) [58] (loadN 3 (vp (some (((ad b).add 3).add (Int.toNat (zY (Int.tdiv (Int.tmod d 64) 16))*1))))) (held_one 16 (λ_=>by kernel_rfl) (List.Mem.tail _ (List.Mem.tail _ (List.Mem.tail _ (List.Mem.head _)))) (.inl (by kernel_rfl))) ?_
  refine G_call 16 (some 60) (bv 19 131071) 99 #[vp (some cA),.agg #[vi y,vi r,vi xN,vi f,vi g,vi l,vi j],vu wv,vi af] (by kernel_rfl) (λ_=>by kernel_rfl) h (by kernel_rfl) ?_;clear h
  rintro ap H6 ⟨ai,rfl,h⟩
  obtain⟨f18,f19,h⟩:=h
  refine⟨[(50,vp u),(51,vi (zY (Int.tdiv d 64))),(52,vi (zY (Int.tdiv (Int.tmod d 64) 16))),(60,vi ai)],pk,(show FactsAt _ _ _ from⟨f18,f19,trivial,trivial,trivial⟩),?_⟩
  refine G_call 17 (some 61) (bv 19 262143) 100 #[vp u,vi (zY (Int.tdiv d 64)),vi (zY (Int.tdiv (Int.tmod d 64) 16)),vi ai] (by kernel_rfl) (λ_=>by kernel_rfl) h (by kernel_rfl) ?_;clear h
  rintro ao H7 ⟨ac,rfl,h⟩
  refine⟨[(61,vi ac)],pk,(show FactsAt _ _ _ from⟨trivial,trivial,trivial,trivial,trivial⟩),?_⟩
  exact T_g 18 (some 6) (vi ac) (bv 19 524287) [(6,vi ac)] (pure (.value (vi ac)):Sem Next) (λ_ _ _ _ _=>rfl)<| G_sub [(6,vi ac)] sk<| G_end (by kernel_rfl)<| S_then<| T_ret [6] [vi ac] hQ h
 rw[if_neg c5]at h
 exact T_cTz 25 (bne_iff_ne.mpr c5)<| T_srz 5<| T_nr 2 [6] [vi ab] hQ h
end card_Cards_Store

/-! (*moraine/obj.Heap).Cons -/
namespace obj_Heap_Cons
def K0:=Func.code Tryz.f11
end obj_Heap_Cons
def obj_Heap_Cons.pt(hv:zW)(d a:Int)(H:zV)(R:Value->zV->Prop):Prop:=
 ∀(b:Nat) (H1:zV),b=H.size->H1=H.push (.cells #[.int .u64 d,.int .u64 a] 24)->
 obj_Heap_put.C hv 0 1 (some (ad b)) 2 2 H1 (λv H2=> ∃ra rb:Int,v=.tuple #[.int .u64 ra,.int .i64 rb]/\
 R (.tuple #[.int .u64 ra,.int .i64 rb]) H2)
namespace obj_Heap_Cons
theorem link{hv:zW}{d a:Int}{H:zV}{R:Value->zV->Prop}(h:pt hv d a H R):C hv d a H R:=by
 refine T_en K0 15 Tryz.func11 ?_
 intro w0 Q hQ
 unfold pt at h
 refine T_su [(0,vp hv),(1,vu d),(2,vu a)]<| T_srz 0<| T_ed 2 [] []<| T_srz 1<| T_n 3 [(8,vp hv),(9,vu d),(10,vu a)]<| T_nw (some 11) (λb=>vs (pa b) 2 2) (.cells #[vu d,vu a] 24) ?_
 intro b H1 e1 e2
 replace h:=h b H1 e1 e2
 refine T_pd [9,10] [(11,vs (pa b) 2 2)] ?_
 refine T_c (some 12) h ?_;clear h
 rintro v H2 ⟨ra,rb,rfl,h⟩
 refine⟨[(12,.tuple #[vu ra,vi rb])],pk,?_⟩
 exact T_nr 4 [6,7] [vu ra,vi rb] hQ h
end obj_Heap_Cons

/-! (*moraine/obj.Heap).Size -/
namespace obj_Heap_Size
def K0:=Func.code Tryz.f21
end obj_Heap_Size
def obj_Heap_Size.pt(hv:zW)(wv:Int)(H:zV)(R:Value->zV->Prop):Prop:=
 obj_Heap_Pair.C hv wv H (λv H1=> ∃x:Bool,v=.bool x/\
 if x=true then(
 R (.int .i64 2) H1)
 else
 obj_Heap_object.C hv wv H1 (λa H2=> ∃(ra rb rc rd:Int) (re:Bool),a=.tuple #[.int .i64 ra,.int .i64 rb,.int .i64 rc,.int .u64 rd,.bool re]/\
 if re=true then(
 R (.int .i64 (zY (rc+1))) H2)
 else
 R (.int .i64 0) H2))
namespace obj_Heap_Size
theorem link{hv:zW}{wv:Int}{H:zV}{R:Value->zV->Prop}(h:pt hv wv H R):C hv wv H R:=by
 refine T_en K0 25 Tryz.func21 ?_
 intro w0 Q hQ
 unfold pt zY at h
 refine T_su [(0,vp hv),(1,vu wv)]<| T_srz 0<| T_ed 1 [] []<| T_sz<| T_srz 1<| T_nd 2 [] [(10,vp hv),(11,vu wv)] ?_
 refine T_c (some 12) h ?_;clear h
 rintro v H1 ⟨x,rfl,h⟩
 refine T_pd [10,11] [(12,.bool x)]<| T_e ?_
 by_cases c1:x=true
 ·rw[if_pos c1]at h
  exact T_cTz 12 c1<| T_srz 2<| T_nr 1 [4] [vi 2] hQ h
 rw[if_neg c1]at h
 refine T_cFz 12 (zZ c1)<| T_kt<| T_sz<| T_srz 3<| T_n 2 [(14,vp hv),(15,vu wv)] ?_
 refine T_c (some 16) h ?_;clear h
 rintro a H2 ⟨ra,rb,rc,rd,re,rfl,h⟩
 refine⟨[(16,.tuple #[vi ra,vi rb,vi rc,vu rd,.bool re])],pk,?_⟩
 refine T_ne 11 [(7,vi rc),(9,.bool re)]<| T_srz 4<| T_ed 1 [9] [(22,.bool re)] ?_
 by_cases c3:re=true
 ·rw[if_pos c3]at h
  exact T_cTz 22 c3<| T_srz 5<| T_nr 3 [4] [vi (zY (rc+1))] hQ h
 rw[if_neg c3]at h
 exact T_cFz 22 (zZ c3)<| T_kt<| T_srz 6<| T_nr 1 [4] [vi 0] hQ h
end obj_Heap_Size

/-! (*moraine/obj.Heap).Car -/
namespace obj_Heap_Car
def K0:=Func.code Tryz.f39
end obj_Heap_Car
def obj_Heap_Car.pt(hv:zW)(wv:Int)(H:zV)(R:Value->zV->Prop):Prop:=
 obj_Heap_half.C hv wv 0 H (λv H1=> ∃ra rb:Int,v=.tuple #[.int .u64 ra,.int .i64 rb]/\
 R (.tuple #[.int .u64 ra,.int .i64 rb]) H1)
namespace obj_Heap_Car
theorem link{hv:zW}{wv:Int}{H:zV}{R:Value->zV->Prop}(h:pt hv wv H R):C hv wv H R:=by
 refine T_en K0 11 Tryz.func39 ?_
 intro w0 Q hQ
 unfold pt at h
 refine T_su [(0,vp hv),(1,vu wv)]<| T_srz 0<| T_ed 2 [] []<| T_srz 1<| T_n 2 [(6,vp hv),(7,vu wv)] ?_
 refine T_c (some 8) h ?_;clear h
 rintro v H1 ⟨ra,rb,rfl,h⟩
 refine⟨[(8,.tuple #[vu ra,vi rb])],pk,?_⟩
 exact T_nr 4 [4,5] [vu ra,vi rb] hQ h
end obj_Heap_Car

/-! (*moraine/obj.Heap).Pair -/
namespace obj_Heap_Pair
def K0:=Func.code Tryz.f48
end obj_Heap_Pair
def obj_Heap_Pair.pt(hv:zW)(wv:Int)(H:zV)(R:Value->zV->Prop):Prop:=
 obj_Heap_pair.C hv wv H (λv H1=> ∃(ra:Int) (rb:Bool),v=.tuple #[.int .i64 ra,.bool rb]/\
 R (.bool rb) H1)
namespace obj_Heap_Pair
theorem link{hv:zW}{wv:Int}{H:zV}{R:Value->zV->Prop}(h:pt hv wv H R):C hv wv H R:=by
 refine T_en K0 14 Tryz.func48 ?_
 intro w0 Q hQ
 unfold pt at h
 refine T_su [(0,vp hv),(1,vu wv)]<| T_srz 0<| T_ed 1 [] []<| T_srz 1<| T_n 2 [(8,vp hv),(9,vu wv)] ?_
 refine T_c (some 10) h ?_;clear h
 rintro v H1 ⟨ra,rb,rfl,h⟩
 refine⟨[(10,.tuple #[vi ra,.bool rb])],pk,?_⟩
 exact T_ne 5 [(6,.bool rb)]<| T_srz 2<| T_nr 2 [4] [.bool rb] hQ h
end obj_Heap_Pair

/-! (*moraine/obj.Heap).half -/
namespace obj_Heap_half
def K0:=Func.code Tryz.f79
end obj_Heap_half
def obj_Heap_half.pt(hv:zW)(wv i:Int)(H:zV)(R:Value->zV->Prop):Prop:=
 obj_Heap_pair.C hv wv H (λv H1=> ∃(ra:Int) (rb:Bool),v=.tuple #[.int .i64 ra,.bool rb]/\
 if rb=true then(
 ∃g:Addr,hv=some g/\
 ∃x:zW,hat H1 g=some (.pointer x)/\
 ∃xA:Addr,x=some xA/\
 ∃f:zW,hat H1 xA=some (.pointer f)/\
 ∃j:Addr,f=some j/\
 ∃d:zW,hat H1 j=some (.pointer d)/\
 seg_Mem_Read.C d (zY (ra+i)) H1 (λk H2=> ∃b a:Int,k=.tuple #[.int .u64 b,.int .i64 a]/\
 R (.tuple #[.int .u64 b,.int .i64 a]) H2))
 else
 R (.tuple #[.int .u64 0,.int .i64 3]) H1)
namespace obj_Heap_half
theorem link{hv:zW}{wv i:Int}{H:zV}{R:Value->zV->Prop}(h:pt hv wv i H R):C hv wv i H R:=by
 refine T_en K0 34 Tryz.func79 ?_
 intro w0 Q hQ
 unfold pt zY at h
 refine T_su [(0,vp hv),(1,vu wv),(2,vi i)]<| T_srz 0<| T_ed 2 [] []<| T_srz 1<| T_nd 2 [1] [(11,vp hv),(12,vu wv)] ?_
 refine T_c (some 13) h ?_;clear h
 rintro v H1 ⟨ra,rb,rfl,h⟩
 refine T_pd [11,12] [(13,.tuple #[vi ra,.bool rb])]<| T_ed 5 [13] [(8,vi ra),(9,.bool rb)]<| T_sz<| T_srz 2<| T_ed 2 [9] [(17,.bool (!rb))] ?_
 by_cases c1:rb=true
 ·rw[if_pos c1]at h
  refine T_cFz 17 (congrArg Bool.not (c1))<| T_kt<| T_srz 4<| T_nd 1 [0,17] [(18,vp hv)] ?_
  obtain⟨g,rfl,h⟩:=h
  refine T_nd 2 [18] [(20,vp (some g))] ?_
  obtain⟨x,q3,h⟩:=h
  refine T_l1 21 26 q3 [20] ?_
  obtain⟨xA,rfl,h⟩:=h
  refine T_nd 2 [21] [(23,vp (some xA))] ?_
  obtain⟨f,q4,h⟩:=h
  refine T_l1 24 39 q4 [23] ?_
  obtain⟨j,rfl,h⟩:=h
  refine T_nd 2 [24] [(26,vp (some j))] ?_
  obtain⟨d,q5,h⟩:=h
  refine T_l1 27 69 q5 [26]<| T_nd 3 [2,8] [(30,vi (zY (ra+i)))] ?_
  refine T_c (some 31) h ?_;clear h
  rintro k H2 ⟨b,a,rfl,h⟩
  refine⟨[(31,.tuple #[vu b,vi a])],pk,?_⟩
  exact T_nr 4 [6,7] [vu b,vi a] hQ h
 rw[if_neg c1]at h
 exact T_cTz 17 (congrArg Bool.not (zZ c1))<| T_srz 3<| T_nr 2 [6,7] [vu 0,vi 3] hQ h
end obj_Heap_half

/-! (*moraine/obj.Heap).Weak -/
namespace obj_Heap_Weak
def K0:=Func.code Tryz.f83
end obj_Heap_Weak
def obj_Heap_Weak.pt(hv:zW)(d a:Int)(H:zV)(R:Value->zV->Prop):Prop:=
 ∀(b:Nat) (H1:zV),b=H.size->H1=H.push (.cells #[.int .u64 d,.int .u64 a] 24)->
 obj_Heap_put.C hv 1 2 (some (ad b)) 2 2 H1 (λv H2=> ∃ra rb:Int,v=.tuple #[.int .u64 ra,.int .i64 rb]/\
 R (.tuple #[.int .u64 ra,.int .i64 rb]) H2)
namespace obj_Heap_Weak
theorem link{hv:zW}{d a:Int}{H:zV}{R:Value->zV->Prop}(h:pt hv d a H R):C hv d a H R:=by
 refine T_en K0 15 Tryz.func83 ?_
 intro w0 Q hQ
 unfold pt at h
 refine T_su [(0,vp hv),(1,vu d),(2,vu a)]<| T_srz 0<| T_ed 2 [] []<| T_srz 1<| T_n 3 [(8,vp hv),(9,vu d),(10,vu a)]<| T_nw (some 11) (λb=>vs (pa b) 2 2) (.cells #[vu d,vu a] 24) ?_
 intro b H1 e1 e2
 replace h:=h b H1 e1 e2
 refine T_pd [9,10] [(11,vs (pa b) 2 2)] ?_
 refine T_c (some 12) h ?_;clear h
 rintro v H2 ⟨ra,rb,rfl,h⟩
 refine⟨[(12,.tuple #[vu ra,vi rb])],pk,?_⟩
 exact T_nr 4 [6,7] [vu ra,vi rb] hQ h
end obj_Heap_Weak

/-! (*moraine/obj.Heap).pair -/
namespace obj_Heap_pair
def K0:=Func.code Tryz.f89
end obj_Heap_pair
def obj_Heap_pair.pt(hv:zW)(wv:Int)(H:zV)(R:Value->zV->Prop):Prop:=
 obj_Heap_at.C hv wv 1 0 H (λv H1=> ∃(ra:Int) (rb:Bool),v=.tuple #[.int .i64 ra,.bool rb]/\
 if rb=true then(
 R (.tuple #[.int .i64 ra,.bool ((Int.tmod ra 2)==0)]) H1)
 else
 obj_Heap_at.C hv wv 2 1 H1 (λd H2=> ∃(a:Int) (b:Bool),d=.tuple #[.int .i64 a,.bool b]/\
 R (.tuple #[.int .i64 a,.bool (b && ((Int.tmod a 2)==0))]) H2))
namespace obj_Heap_pair
theorem link{hv:zW}{wv:Int}{H:zV}{R:Value->zV->Prop}(h:pt hv wv H R):C hv wv H R:=by
 refine T_en K0 29 Tryz.func89 ?_
 intro w0 Q hQ
 unfold pt at h
 refine T_su [(0,vp hv),(1,vu wv)]<| T_srz 0<| T_ed 2 [] []<| T_srz 1<| T_nd 2 [] [(9,vp hv),(10,vu wv)] ?_
 refine T_c (some 11) h ?_;clear h
 rintro v H1 ⟨ra,rb,rfl,h⟩
 refine T_pd [9,10] [(11,.tuple #[vi ra,.bool rb])]<| T_ed 5 [11] [(6,vi ra),(7,.bool rb)]<| T_sz<| T_srz 2<| T_ed 2 [] [(15,.bool (!rb))] ?_
 by_cases c1:rb=true
 ·rw[if_pos c1]at h
  have b2:(!rb)=false:=congrArg Bool.not (c1)
  have b22:rb=true:=c1
  refine S_bd 7 (b:=rb) (v:=true) (by simp only[b2,b22,Bool.not_true,Bool.not_false])<| S_bd 15 (b:=(!rb)) (v:=false) (by simp only[b2,b22,Bool.not_true,Bool.not_false]) ?_
  clear b2 b22
  exact T_fz 15<| T_kt<| T_srz 4<| T_nr 9 [4,5] [vi ra,.bool ((Int.tmod ra 2)==0)] hQ h
 rw[if_neg c1]at h
 have b2:(!rb)=true:=congrArg Bool.not (zZ c1)
 have b22:rb=false:=zZ c1
 refine S_bd 7 (b:=rb) (v:=false) (by simp only[b2,b22,Bool.not_true,Bool.not_false])<| S_bd 15 (b:=(!rb)) (v:=true) (by simp only[b2,b22,Bool.not_true,Bool.not_false]) ?_
 clear b2 b22
 refine T_tz 15<| T_rz 3<| T_n 2 [(17,vp hv),(18,vu wv)] ?_
 refine T_c (some 19) h ?_;clear h
 rintro d H2 ⟨a,b,rfl,h⟩
 refine⟨[(19,.tuple #[vi a,.bool b])],pk,?_⟩
 refine T_ne 5 [(6,vi a),(7,.bool b)]<| T_srz 4 ?_
 refine N_cut [(4,vi a),(5,.bool (b && ((Int.tmod a 2)==0)))] ?_ ?_
 ·exact S_then<| T_ret [4,5] [vi a,.bool (b && ((Int.tmod a 2)==0))] hQ h
 intro hk
 refine T_n 3 [(6,vi a),(22,vi a),(24,.bool b)] ?_
 by_cases c3:b=true
 ·have b4:b=true:=c3
  refine N_env [(6,vi a),(22,vi a),(24,.bool true)] (by rw[b4]) ?_
  refine T_n 6 [(4,vi a),(5,.bool ((Int.tmod a 2)==0))]<| zq<| S_env [(4,vi a),(5,.bool (b && ((Int.tmod a 2)==0)))] (by simp only[b4,BL]) ?_
  exact hk
 have b4:b=false:=zZ c3
 refine N_env [(6,vi a),(22,vi a),(24,.bool false)] (by rw[b4]) ?_
 refine T_n 6 [(4,vi a),(5,.bool false)]<| zq<| S_env [(4,vi a),(5,.bool (b && ((Int.tmod a 2)==0)))] (by simp only[b4,BL]) ?_
 exact hk
end obj_Heap_pair

/-! (*moraine/obj.Heap).SetCdr -/
namespace obj_Heap_SetCdr
def K0:=Func.code Tryz.f110
end obj_Heap_SetCdr
def obj_Heap_SetCdr.pt(hv:zW)(wv v:Int)(H:zV)(R:Value->zV->Prop):Prop:=
 obj_Heap_set.C hv wv 1 v H (λa H1=> ∃x:Int,a=.int .i64 x/\
 R (.int .i64 x) H1)
namespace obj_Heap_SetCdr
theorem link{hv:zW}{wv v:Int}{H:zV}{R:Value->zV->Prop}(h:pt hv wv v H R):C hv wv v H R:=by
 refine T_en K0 11 Tryz.func110 ?_
 intro w0 Q hQ
 unfold pt at h
 refine T_su [(0,vp hv),(1,vu wv),(2,vu v)]<| T_srz 0<| T_ed 1 [] []<| T_srz 1<| T_n 3 [(7,vp hv),(8,vu wv),(9,vu v)] ?_
 refine T_c (some 10) h ?_;clear h
 rintro a H1 ⟨x,rfl,h⟩
 refine⟨[(10,vi x)],pk,?_⟩
 exact T_nr 1 [6] [vi x] hQ h
end obj_Heap_SetCdr

/-! (*moraine/obj.Heap).SetCar -/
namespace obj_Heap_SetCar
def K0:=Func.code Tryz.f118
end obj_Heap_SetCar
def obj_Heap_SetCar.pt(hv:zW)(wv v:Int)(H:zV)(R:Value->zV->Prop):Prop:=
 obj_Heap_set.C hv wv 0 v H (λa H1=> ∃x:Int,a=.int .i64 x/\
 R (.int .i64 x) H1)
namespace obj_Heap_SetCar
theorem link{hv:zW}{wv v:Int}{H:zV}{R:Value->zV->Prop}(h:pt hv wv v H R):C hv wv v H R:=by
 refine T_en K0 11 Tryz.func118 ?_
 intro w0 Q hQ
 unfold pt at h
 refine T_su [(0,vp hv),(1,vu wv),(2,vu v)]<| T_srz 0<| T_ed 1 [] []<| T_srz 1<| T_n 3 [(7,vp hv),(8,vu wv),(9,vu v)] ?_
 refine T_c (some 10) h ?_;clear h
 rintro a H1 ⟨x,rfl,h⟩
 refine⟨[(10,vi x)],pk,?_⟩
 exact T_nr 1 [6] [vi x] hQ h
end obj_Heap_SetCar

/-! (*moraine/obj.Heap).set -/
namespace obj_Heap_set
def K0:=Func.code Tryz.f131
end obj_Heap_set
def obj_Heap_set.pt(hv:zW)(wv i v:Int)(H:zV)(R:Value->zV->Prop):Prop:=
 obj_Heap_pair.C hv wv H (λd H1=> ∃(ra:Int) (rb:Bool),d=.tuple #[.int .i64 ra,.bool rb]/\
 if rb=true then(
 ∃b:Addr,hv=some b/\
 ∃x:zW,hat H1 b=some (.pointer x)/\
 card_Cards_Store.C x (zY (ra+i)) v H1 (λf H2=> ∃a:Int,f=.int .i64 a/\
 R (.int .i64 a) H2))
 else
 R (.int .i64 3) H1)
namespace obj_Heap_set
theorem link{hv:zW}{wv i v:Int}{H:zV}{R:Value->zV->Prop}(h:pt hv wv i v H R):C hv wv i v H R:=by
 refine T_en K0 28 Tryz.func131 ?_
 intro w0 Q hQ
 unfold pt zY at h
 refine T_su [(0,vp hv),(1,vu wv),(2,vi i),(3,vu v)]<| T_srz 0<| T_ed 1 [] []<| T_srz 1<| T_nd 2 [1] [(12,vp hv),(13,vu wv)] ?_
 refine T_c (some 14) h ?_;clear h
 rintro d H1 ⟨ra,rb,rfl,h⟩
 refine T_pd [12,13] [(14,.tuple #[vi ra,.bool rb])]<| T_ed 5 [14] [(9,vi ra),(10,.bool rb)]<| T_sz<| T_srz 2<| T_ed 2 [10] [(18,.bool (!rb))] ?_
 by_cases c1:rb=true
 ·rw[if_pos c1]at h
  refine T_cFz 18 (congrArg Bool.not (c1))<| T_kt<| T_srz 4<| T_nd 1 [0,18] [(19,vp hv)] ?_
  obtain⟨b,rfl,h⟩:=h
  refine T_nd 2 [19] [(21,vp (some b))] ?_
  obtain⟨x,q3,h⟩:=h
  refine T_l1 22 26 q3 [21]<| T_n 4 [(22,vp x),(25,vi (zY (ra+i))),(26,vu v)] ?_
  refine T_c (some 27) h ?_;clear h
  rintro f H2 ⟨a,rfl,h⟩
  refine⟨[(27,vi a)],pk,?_⟩
  exact T_nr 1 [8] [vi a] hQ h
 rw[if_neg c1]at h
 exact T_cTz 18 (congrArg Bool.not (zZ c1))<| T_srz 3<| T_nr 1 [8] [vi 3] hQ h
end obj_Heap_set

/-! (*moraine/seg.Mem).Taken -/
namespace seg_Mem_Taken
def K0:=Func.code Tryz.f23
def K2:=cb K0
def K4:=cb K2
def K12:=cb K4
def K13:=ca K12
def K16:=cb K13
def K17:=ca K16
def K18:=ca K17
end seg_Mem_Taken
def seg_Mem_Taken.pt(m g:zW)(d f:Nat)(H:zV)(R:Value->zV->Prop):Prop:=
 ∀(b:Nat) (H1:zV),b=H.size->H1=H.push (.cells #[.pointer m] 69)->
 ∃x:zW,hat H1 (ad b)=some (.pointer x)/\
 onPtr x (
 R (.slice none 0 0) H1) (λxA=>
 ∃ac:zW,hat H1 (ad b)=some (.pointer ac)/\
 ∃af:Addr,ac=some af/\
 ∃(xB:zW) (xN xC:Nat),hat H1 af=some (.slice xB xN xC)/\
 ∃(s:zW->Nat->Nat->Int->zV->Prop) (m19:zW->Nat->Nat->Int->zV->Nat),s none 0 0 0 H1/\ ∀(lB:zW) (lN:Nat) (lC:Nat) (s15:Int) (H2:zV),s lB lN lC s15 H2->
 if s15< (xN:Int)then(
 ∃ag:zW,hat H2 (ad b)=some (.pointer ag)/\
 ∃ae:Addr,ag=some ae/\
 ∃(r:zW) (n p:Nat),hat H2 ae=some (.slice r n p)/\
 ∃j:Addr,r=some j/\
 ((0:Int)<=s15/\s15< (n:Int))/\
 ∃q:Int,hat H2 ((j.add (Int.toNat s15*72)).add 7)=some (.int .i64 q)/\
 if q>0 then(
 if(d:Int)=0 then(
 ∀(aa:Nat) (H3:zV),aa=H2.size->H3=H2.push (.cells #[.int .i64 s15] 3)->
 appendK 1 3 8 [.int .i64 0] lB lN lC (some (ad aa)) 1 H3 (λap y H4=>
 (s ap (lN+1) y (zY (s15+1)) H4/\m19 ap (lN+1) y (zY (s15+1)) H4<m19 lB lN lC s15 H2)))
 else
 ∃ab:Int,hat H2 (j.add (Int.toNat s15*72))=some (.int .i64 ab)/\
 slices_Contains_int_int.C g d f ab H2 (λv H5=> ∃u:Bool,v=.bool u/\
 if u=true then(
 ∀(z:Nat) (H6:zV),z=H5.size->H6=H5.push (.cells #[.int .i64 s15] 3)->
 appendK 1 3 8 [.int .i64 0] lB lN lC (some (ad z)) 1 H6 (λo l H7=>
 (s o (lN+1) l (zY (s15+1)) H7/\m19 o (lN+1) l (zY (s15+1)) H7<m19 lB lN lC s15 H2)))
 else
 (s lB lN lC (zY (s15+1)) H5/\m19 lB lN lC (zY (s15+1)) H5<m19 lB lN lC s15 H2)))
 else
 (s lB lN lC (zY (s15+1)) H2/\m19 lB lN lC (zY (s15+1)) H2<m19 lB lN lC s15 H2))
 else
 slices_SortFunc_int_int.C lB lN lC (.func (.func 53) #[] #[.pointer (some (ad b))]) H2 (λ_ H8=>
 R (.slice lB lN lC) H8))
namespace seg_Mem_Taken
theorem link{m g:zW}{d f:Nat}{H:zV}{R:Value->zV->Prop}(h:pt m g d f H R):C m g d f H R:=by
 refine T_en K0 52 Tryz.func23 ?_
 intro w0 Q hQ
 unfold pt zY at h
 refine T_su [(0,vp m),(1,vs g d f)]<| T_srz 0<| T_nw (some 2) (λb=>vp (pa b)) (.cells #[vp m] 69) ?_
 intro b H1 e1 e2
 replace h:=h b H1 e1 e2
 refine T_pd [0] [(2,vp (pa b))]<| T_ed 1 [] []<| T_sz<| T_srz 1 ?_
 obtain⟨x,q3,h⟩:=h
 refine T_l1 8 69 q3 [] ?_
 rcases x with _ | xA
 ·rw[onPtr_none]at h
  exact T_ed 1 [8] [(9,.bool true)]<| T_tz 9<| T_srz 2<| T_nr 1 [4] [vs none 0 0] hQ h
 rw[onPtr_some]at h
 refine T_ed 1 [8] [(9,.bool false)]<| T_fz 9<| T_kt<| T_srz 3<| T_ed 1 [9] [(5,vs none 0 0)]<| T_sz<| T_srz 4 ?_
 obtain⟨ac,q4,h⟩:=h
 refine T_l1 10 69 q4 [] ?_
 obtain⟨af,rfl,h⟩:=h
 refine T_nd 2 [10] [(12,vp (some af))] ?_
 obtain⟨xB,xN,xC,q5,h⟩:=h
 refine T_l1 13 110 q5 [12]<| T_ed 2 [13] [(14,vi xN),(15,vi 0)]<| T_bz 0 ?_
 obtain⟨s,m19,i6,i7⟩:=h
 refine S_loop (x:=K18) (σ:=zW×Nat×Nat×Int) (λs_=> [(1,vs g d f),(2,vp (pa b)),(5,vs s_.1 s_.2.1 s_.2.2.1),(14,vi xN),(15,vi s_.2.2.2)]) (λs_ H=>s s_.1 s_.2.1 s_.2.2.1 s_.2.2.2 H) (λs_ H=>m19 s_.1 s_.2.1 s_.2.2.1 s_.2.2.2 H) ((none,0,0,0):zW×Nat×Nat×Int) (by kernel_rfl) i6 sk ?_
 rintro⟨lB,lN,lC,s15⟩ H2 i8
 have h:=i7 lB lN lC s15 H2 i8
 refine T_su [(1,vs g d f),(2,vp (pa b)),(5,vs lB lN lC),(14,vi xN),(15,vi s15)]<| T_srz 5<| T_ed 1 [] [(16,.bool (decide (s15< (xN:Int))))]<| T_sz ?_
 by_cases c9:s15< (xN:Int)
 ·rw[if_pos c9]at h
  refine T_cTz 16 (zX c9)<| T_kt<| T_sz<| T_bz 1<| T_srz 6<| T_ed 2 [16] [(6,vi s15)]<| T_srz 7 ?_
  obtain⟨ag,q11,h⟩:=h
  refine T_l1 18 69 q11 [] ?_
  obtain⟨ae,rfl,h⟩:=h
  refine T_nd 2 [18] [(20,vp (some ae))] ?_
  obtain⟨r,n,p,q12,h⟩:=h
  refine T_l1 21 110 q12 [20]<| T_nd 1 [] [(22,vi s15)] ?_
  obtain⟨j,rfl,h⟩:=h
  obtain⟨q13,h⟩:=h
  refine T_xd (some 23) 110 116 72 j n p .i64 s15 Tryz.underlying110 q13.1 q13.2 [21,22] [(23,vp (some (j.add (Int.toNat s15*72))))]<| T_ed 1 [23] [(7,vp (some (j.add (Int.toNat s15*72))))]<| T_srz 8<| T_nd 3 [] [(26,vp (some ((j.add (Int.toNat s15*72)).add 7)))] ?_
  obtain⟨q,q14,h⟩:=h
  refine T_l1 27 3 q14 [26]<| T_nd 2 [27] [(29,.bool (decide (q>0)))] ?_
  by_cases c15:q>0
  ·rw[if_pos c15]at h
   refine N_bd 29 (zX c15)<| T_nd 4 [] [(33,.bool ((d:Int)==0))] ?_
   by_cases c17:(d:Int)=0
   ·rw[if_pos c17]at h
    refine N_bd 33 (zK c17)<| T_ed 9 [7,29,33] [(42,.bool true)]<| T_tz 42<| T_rz 9<| T_nd 2 [5,6,42] [(43,vs lB lN lC),(44,vi s15)]<| T_nw (some 45) (λb=>vs (pa b) 1 1) (.cells #[vi s15] 3) ?_
    intro aa H3 e19 e20
    replace h:=h aa H3 e19 e20
    refine T_pd [44] [(45,vs (pa aa) 1 1)] ?_
    refine N_op (some 46) (appendN #[67,67] 67 #[vs lB lN lC,vs (pa aa) 1 1]) _ (λ_=>by kernel_rfl) (ss_append (T:=3) (sz:=1) (bytes:=8) (zero:=(vi 0:Value)) Tryz.underlying67 Tryz.underlying67 rfl (show Tryz.prog.info? 3=some Tryz.t3 from by kernel_rfl) (by kernel_rfl) (by kernel_rfl) (by decide) (by kernel_rfl) (by first | exact h | (simpa only[Value.cells,List.toList_toArray]using h))) ?_;clear h
    rintro _ H4 ⟨ap,y,rfl,h⟩
    exact T_pd [43,45] [(46,vs ap (lN+1) y)]<| T_nd 1 [46] [(5,vs ap (lN+1) y)]<| zq<| S_blockEnd<| S_then<| T_rz 10<| T_ed 2 [15] [(15,vi (zY (s15+1)))]<| S_round ((ap,(lN+1),y,(zY (s15+1))):zW×Nat×Nat×Int) sk h
   rw[if_neg c17]at h
   refine N_bd 33 (zJ c17)<| T_nd 5 [7] [(34,vs g d f),(38,vp (some (j.add (Int.toNat s15*72))))] ?_
   obtain⟨ab,q21,h⟩:=h
   refine T_l1 39 3 q21 [38] ?_
   refine T_c (some 40) h ?_;clear h
   rintro v H5 ⟨u,rfl,h⟩
   refine T_pd [34,39] [(40,.bool u)]<| T_ed 2 [29,33,40] [(42,.bool u)] ?_
   by_cases c22:u=true
   ·rw[if_pos c22]at h
    refine T_cTz 42 c22<| T_rz 9<| T_nd 2 [5,6,42] [(43,vs lB lN lC),(44,vi s15)]<| T_nw (some 45) (λb=>vs (pa b) 1 1) (.cells #[vi s15] 3) ?_
    intro z H6 e24 e25
    replace h:=h z H6 e24 e25
    refine T_pd [44] [(45,vs (pa z) 1 1)] ?_
    refine N_op (some 46) (appendN #[67,67] 67 #[vs lB lN lC,vs (pa z) 1 1]) _ (λ_=>by kernel_rfl) (ss_append (T:=3) (sz:=1) (bytes:=8) (zero:=(vi 0:Value)) Tryz.underlying67 Tryz.underlying67 rfl (show Tryz.prog.info? 3=some Tryz.t3 from by kernel_rfl) (by kernel_rfl) (by kernel_rfl) (by decide) (by kernel_rfl) (by first | exact h | (simpa only[Value.cells,List.toList_toArray]using h))) ?_;clear h
    rintro _ H7 ⟨o,l,rfl,h⟩
    exact T_pd [43,45] [(46,vs o (lN+1) l)]<| T_nd 1 [46] [(5,vs o (lN+1) l)]<| zq<| S_blockEnd<| S_then<| T_rz 10<| T_ed 2 [15] [(15,vi (zY (s15+1)))]<| S_round ((o,(lN+1),l,(zY (s15+1))):zW×Nat×Nat×Int) sk h
   rw[if_neg c22]at h
   exact T_cFz 42 (zZ c22)<| T_k<| S_blockEnd<| S_then<| T_rz 10<| T_ed 2 [6,15,42] [(15,vi (zY (s15+1)))]<| S_round ((lB,lN,lC,(zY (s15+1))):zW×Nat×Nat×Int) sk h
  rw[if_neg c15]at h
  refine N_bd 29 (zQ c15)<| T_ed 13 [7,29] [(42,.bool false)]<| T_fz 42<| T_k ?_
  exact S_blockEnd<| S_then<| T_rz 10<| T_ed 2 [6,15,42] [(15,vi (zY (s15+1)))]<| S_round ((lB,lN,lC,(zY (s15+1))):zW×Nat×Nat×Int) sk h
 rw[if_neg c9]at h
 refine T_cFz 16 (zQ c9)<| zj 0<| S_exitThen<| S_exitThen<| S_exitHere<| S_then<| T_srz 11<| T_n 2 [(5,vs lB lN lC),(48,vs lB lN lC),(49,.func (.func 53) #[] #[vp (pa b)])] ?_
 refine T_c (some 50) h ?_;clear h
 intro v_2 H8 h
 exact T_pd [48,49] []<| T_e<| T_srz 12<| T_nr 2 [4] [vs lB lN lC] hQ h
end seg_Mem_Taken

/-! (*moraine/seg.Mem).Taken.1 -/
namespace seg_Mem_Taken_1
def K0:=Func.code Tryz.f53
def K2:=cb K0
def K3:=ca K2
end seg_Mem_Taken_1
def seg_Mem_Taken_1.pt(a b:Int)(p:zW)(H:zV)(R:Value->zV->Prop):Prop:=
 ∃d:Addr,p=some d/\
 ∃x:zW,hat H d=some (.pointer x)/\
 ∃xA:Addr,x=some xA/\
 ∃(xB:zW) (xN xC:Nat),hat H xA=some (.slice xB xN xC)/\
 ∃g:Addr,xB=some g/\
 ((0:Int)<=a/\a< (xN:Int))/\
 ∃j:Int,hat H ((g.add (Int.toNat a*72)).add 7)=some (.int .i64 j)/\
 ∃s:zW,hat H d=some (.pointer s)/\
 ∃l:Addr,s=some l/\
 ∃(r:zW) (m n:Nat),hat H l=some (.slice r m n)/\
 ∃f:Addr,r=some f/\
 ((0:Int)<=b/\b< (m:Int))/\
 ∃q:Int,hat H ((f.add (Int.toNat b*72)).add 7)=some (.int .i64 q)/\
 cmp_Compare_int.C j q H (λv H1=> ∃o:Int,v=.int .i64 o/\
 R (.int .i64 o) H1)
namespace seg_Mem_Taken_1
theorem link{a b:Int}{p:zW}{H:zV}{R:Value->zV->Prop}(h:pt a b p H R):C a b p H R:=by
 refine T_en K0 23 Tryz.func53 ?_
 intro w0 Q hQ
 unfold pt at h
 refine T_su [(0,vi a),(1,vi b),(2,vp p)]<| T_srz 0<| T_ed 1 [] []<| T_sz ?_
 obtain⟨d,rfl,h⟩:=h
 obtain⟨x,q1,h⟩:=h
 obtain⟨xA,rfl,h⟩:=h
 obtain⟨xB,xN,xC,q2,h⟩:=h
 obtain⟨g,rfl,h⟩:=h
 obtain⟨q3,h⟩:=h
 obtain⟨j,q4,h⟩:=h
 obtain⟨s,q5,h⟩:=h
 obtain⟨l,rfl,h⟩:=h
 obtain⟨r,m,n,q6,h⟩:=h
 obtain⟨f,rfl,h⟩:=h
 obtain⟨q7,h⟩:=h
 obtain⟨q,q8,h⟩:=h
 refine S_regionG 1 (Code.ops K3) [(16,d,[vp (some xA)]),(16,xA,[vs (some g) xN xC]),(16,((g.add (Int.toNat a*72)).add 7),[vi j]),(16,d,[vp (some l)]),(16,l,[vs (some f) m n]),(16,((f.add (Int.toNat b*72)).add 7),[vi q])] 18 (bv 18 0) (by kernel_rfl) (by kernel_rfl) (by kernel_rfl) (by kernel_rfl) (by kernel_rfl) (show FactsAt _ _ _ from⟨⟨q1,trivial⟩,⟨q2,trivial⟩,⟨q4,trivial⟩,⟨q5,trivial⟩,⟨q6,trivial⟩,⟨q8,trivial⟩,trivial⟩)<| T_g 0 (some 6) (vp (some xA)) (bv 18 1) [(0,vi a),(1,vi b),(2,vp (some d)),(6,vp (some xA))] (loadN 69 (vp (some d))) (held_one 16 (λ_=>by kernel_rfl) (List.Mem.head _) (.inl (by kernel_rfl)))<| T_gp1 1 7 (vp (some xA)) (bv 18 3) [6]<| T_gp1 2 8 (vp (some xA)) (bv 18 7) [7]<| T_g1 3 9 (vs (some g) xN xC) (bv 18 15) [8] (loadN 110 (vp (some xA))) (held_one 16 (λ_=>by kernel_rfl) (List.Mem.tail _ (List.Mem.head _)) (.inl (by kernel_rfl)))<| T_gp1 4 10 (vi a) (bv 18 31) [0]<| T_g1 5 11 (vp (some (g.add (Int.toNat a*72)))) (bv 18 63) [9,10] (indexAtN 110 (vs (some g) xN xC) (vi a)) (λ_ w _ _ _=>indexAt_run (P:=Tryz.prog) (t:=110) (elem:=116) (sz:=72) (a:=g) (len:=xN) (cap:=xC) (k:=.i64) (i:=a) Tryz.underlying110 (λ_=>by kernel_rfl) q3.1 q3.2 w)<| T_gp1 6 12 (vp (some ((g.add (Int.toNat a*72)).add 7))) (bv 18 127) [11]<| T_g1 7 13 (vi j) (bv 18 255) [12] (loadN 3 (vp (some ((g.add (Int.toNat a*72)).add 7)))) (held_one 16 (λ_=>by kernel_rfl) (List.Mem.tail _ (List.Mem.tail _ (List.Mem.head _))) (.inl (by kernel_rfl)))<| T_g1 8 14 (vp (some l)) (bv 18 511) [2] (loadN 69 (vp (some d))) (held_one 16 (λ_=>by kernel_rfl) (List.Mem.tail _ (List.Mem.tail _ (List.Mem.tail _ (List.Mem.head _)))) (.inl (by kernel_rfl)))<| T_gp1 9 15 (vp (some l)) (bv 18 1023) [14]<| T_gp1 10 16 (vp (some l)) (bv 18 2047) [15]<| T_g1 11 17 (vs (some f) m n) (bv 18 4095) [16] (loadN 110 (vp (some l))) (held_one 16 (λ_=>by kernel_rfl) (List.Mem.tail _ (List.Mem.tail _ (List.Mem.tail _ (List.Mem.tail _ (List.Mem.head _))))) (.inl (by kernel_rfl)))<| T_gp1 12 18 (vi b) (bv 18 8191) [1]<| T_g1 13 19 (vp (some (f.add (Int.toNat b*72)))) (bv 18 16383) [17,18] (indexAtN 110 (vs (some f) m n) (vi b)) (λ_ w _ _ _=>indexAt_run (P:=Tryz.prog) (t:=110) (elem:=116) (sz:=72) (a:=f) (len:=m) (cap:=n) (k:=.i64) (i:=b) Tryz.underlying110 (λ_=>by kernel_rfl) q7.1 q7.2 w)<| T_gp1 14 20 (vp (some ((f.add (Int.toNat b*72)).add 7))) (bv 18 32767) [19]<| T_g1 15 21 (vi q) (bv 18 65535) [20] (loadN 3 (vp (some ((f.add (Int.toNat b*72)).add 7)))) (held_one 16 (λ_=>by kernel_rfl) (List.Mem.tail _ (List.Mem.tail _ (List.Mem.tail _ (List.Mem.tail _ (List.Mem.tail _ (List.Mem.head _)))))) (.inl (by kernel_rfl))) ?_
 refine G_call 16 (some 22) (bv 18 131071) 54 #[vi j,vi q] (by kernel_rfl) (λ_=>by kernel_rfl) h (by kernel_rfl) ?_;clear h
 rintro v H1 ⟨o,rfl,h⟩
 refine⟨[(22,vi o)],pk,(show FactsAt _ _ _ from⟨trivial,trivial,trivial,trivial,trivial,trivial,trivial⟩),?_⟩
 exact T_g 17 (some 5) (vi o) (bv 18 262143) [(5,vi o)] (pure (.value (vi o)):Sem Next) (λ_ _ _ _ _=>rfl)<| G_sub [(5,vi o)] sk<| G_end (by kernel_rfl)<| S_then<| T_ret [5] [vi o] hQ h
end seg_Mem_Taken_1

/-! (*moraine/seg.Mem).Free -/
namespace seg_Mem_Free
def K0:=Func.code Tryz.f57
end seg_Mem_Free
def seg_Mem_Free.pt(m:zW)(H:zV)(R:Value->zV->Prop):Prop:=
 onPtr m (
 R (.int .i64 0) H) (λmA=>
 ∃x:Int,hat H (mA.add 2)=some (.int .i64 x)/\
 R (.int .i64 x) H)
namespace seg_Mem_Free
theorem link{m:zW}{H:zV}{R:Value->zV->Prop}(h:pt m H R):C m H R:=by
 refine T_en K0 9 Tryz.func57 ?_
 intro w0 Q hQ
 unfold pt at h
 refine T_su [(0,vp m)]<| T_srz 0<| T_ed 1 [] []<| T_sz<| T_srz 1<| T_nd 1 [] [(3,vp m)] ?_
 rcases m with _ | mA
 ·rw[onPtr_none]at h
  exact T_ne 1 [(0,vp none),(4,.bool true)]<| T_tz 4<| T_srz 2<| T_nr 1 [2] [vi 0] hQ h
 rw[onPtr_some]at h
 refine T_ne 1 [(0,vp (some mA)),(4,.bool false)]<| T_fz 4<| T_kt<| T_srz 3<| T_n 3 [(7,vp (some (mA.add 2)))] ?_
 obtain⟨x,q1,h⟩:=h
 exact T_l1 8 3 q1 [7]<| T_nr 1 [2] [vi x] hQ h
end seg_Mem_Free

/-! (*moraine/seg.Mem).Give -/
namespace seg_Mem_Give
def K0:=Func.code Tryz.f97
end seg_Mem_Give
def seg_Mem_Give.pt(m:zW)(d:Int)(H:zV)(R:Value->zV->Prop):Prop:=
 seg_Mem_at.C m d H (λv H1=> ∃x:zW,v=.pointer x/\
 onPtr x (
 R (.int .i64 19) H1) (λxA=>
 (CanPuts H1 xA 0 72)/\ ∀H2,H2=hputs H1 xA (List.replicate 8 (.int .i64 0)++List.replicate 64 (.int .u64 0):List Value) 0->
 ∃mA:Addr,m=some mA/\
 ∃b:Int,hat H2 (mA.add 2)=some (.int .i64 b)/\
 (CanPuts H2 (mA.add 2) 0 1)/\ ∀H3,H3=hputs H2 (mA.add 2) [.int .i64 (zY (b+1))] 0->
 R (.int .i64 0) H3))
namespace seg_Mem_Give
theorem link{m:zW}{d:Int}{H:zV}{R:Value->zV->Prop}(h:pt m d H R):C m d H R:=by
 refine T_en K0 21 Tryz.func97 ?_
 intro w0 Q hQ
 unfold pt zY at h
 refine T_su [(0,vp m),(1,vi d)]<| T_srz 0<| T_ed 1 [] []<| T_srz 1<| T_nd 2 [1] [(6,vp m),(7,vi d)] ?_
 refine T_c (some 8) h ?_;clear h
 rintro v H1 ⟨x,rfl,h⟩
 refine T_pd [6,7] [(8,vp x)]<| T_ed 1 [8] [(5,vp x)]<| T_sz<| T_srz 2<| T_nd 1 [] [(9,vp x)] ?_
 rcases x with _ | xA
 ·rw[onPtr_none]at h
  exact T_ed 1 [5,9] [(5,vp none),(10,.bool true)]<| T_tz 10<| T_srz 3<| T_nr 1 [4] [vi 19] hQ h
 rw[onPtr_some]at h
 refine T_ed 1 [5,9] [(5,vp (some xA)),(10,.bool false)]<| T_fz 10<| T_kt<| T_srz 4<| T_nd 3 [5,10] [(12,.agg (List.replicate 8 (vi 0)++List.replicate 64 (vu 0):List Value).toArray),(13,vp (some xA))] ?_
 obtain⟨q2,h⟩:=h
 refine N_skipop none (storeN 116 (vp (some xA)) (.agg (List.replicate 8 (vi 0)++List.replicate 64 (vu 0):List Value).toArray)) (λHz=>Hz=hputs H1 xA (List.replicate 8 (vi 0)++List.replicate 64 (vu 0):List Value) 0) (λ_=>by kernel_rfl) (by intro w hw;obtain⟨w1,g1,g2,g3⟩:=ss_store (P:=Tryz.prog) (H:=H1) (t:=116) (a:=xA) (v:=(.agg (List.replicate 8 (vi 0)++List.replicate 64 (vu 0):List Value).toArray)) (List.replicate 8 (vi 0)++List.replicate 64 (vu 0):List Value) 72 (by kernel_rfl) (by kernel_rfl) (λ_=>by kernel_rfl) (by kernel_rfl) q2 w hw;exact⟨w1,g1,g2,g3⟩) ?_
 intro H2 e1
 replace h:=h H2 e1
 refine⟨[(0,vp m)],pk,?_⟩
 refine T_e<| T_srz 5<| T_n 1 [(14,vp m)] ?_
 obtain⟨mA,rfl,h⟩:=h
 refine T_n 2 [(14,vp (some mA)),(16,vp (some (mA.add 2)))] ?_
 obtain⟨b,q3,h⟩:=h
 refine T_l1 17 3 q3 [16]<| T_n 3 [(18,vi (zY (b+1))),(20,vp (some (mA.add 2)))] ?_
 obtain⟨q5,h⟩:=h
 refine T_st1 3 (vi (zY (b+1))) q5 ?_
 intro H3 e4
 replace h:=h H3 e4
 refine⟨[],pk,?_⟩
 exact T_e<| T_srz 6<| T_nr 1 [4] [vi 0] hQ h
end seg_Mem_Give

/-! (*moraine/space.Space).Words -/
namespace space_Space_Words
def K0:=Func.code Tryz.f12
def K2:=cb K0
def K4:=cb K2
def K12:=cb K4
def K13:=ca K12
def K16:=cb K13
def K17:=ca K16
def K18:=ca K17
end space_Space_Words
def space_Space_Words.pt(s n:zW)(o m:Nat)(H:zV)(R:Value->zV->Prop):Prop:=
 space_Space_none.C s H (λv H1=> ∃x:Bool,v=.bool x/\
 if x=true then(
 R (.int .i64 0) H1)
 else
 ∃sA:Addr,s=some sA/\
 ∃aa:zW,hat H1 sA=some (.pointer aa)/\
 seg_Mem_Taken.C aa n o m H1 (λaf H2=> ∃(xB:zW) (xN xC:Nat),af=.slice xB xN xC/\
 ∃(ac:Int->Int->zV->Prop) (m19:Int->Int->zV->Nat),ac 0 0 H2/\ ∀(d:Int) (s19:Int) (H3:zV),ac d s19 H3->
 if s19< (xN:Int)then(
 ∃p:Addr,xB=some p/\
 ((0:Int)<=s19/\s19< (xN:Int))/\
 ∃u:Int,hat H3 (p.add (Int.toNat s19*1))=some (.int .i64 u)/\
 ∃ab:zW,hat H3 sA=some (.pointer ab)/\
 seg_Mem_Seg.C ab u H3 (λae H4=> ∃(r q z f j l g:Int) (rb:Bool),ae=.tuple #[.agg #[.int .i64 r,.int .i64 q,.int .i64 z,.int .i64 f,.int .i64 j,.int .i64 l,.int .i64 g],.bool rb]/\
 ∀(b:Nat) (H5:zV),b=H4.size->H5=H4.push (.cells #[.int .i64 0,.int .i64 0,.int .i64 0,.int .i64 0,.int .i64 0,.int .i64 0,.int .i64 0] 76)->
 (CanPuts H5 (ad b) 0 7)/\ ∀H6,H6=hputs H5 (ad b) [.int .i64 r,.int .i64 q,.int .i64 z,.int .i64 f,.int .i64 j,.int .i64 l,.int .i64 g] 0->
 ∃y:Int,hat H6 ((ad b).add 2)=some (.int .i64 y)/\
 (ac (zY (d+y)) (zY (s19+1)) H6/\m19 (zY (d+y)) (zY (s19+1)) H6<m19 d s19 H3)))
 else
 R (.int .i64 d) H3))
namespace space_Space_Words
theorem link{s n:zW}{o m:Nat}{H:zV}{R:Value->zV->Prop}(h:pt s n o m H R):C s n o m H R:=by
 refine T_en K0 38 Tryz.func12 ?_
 intro w0 Q hQ
 unfold pt zY at h
 refine T_su [(0,vp s),(1,vs n o m)]<| T_srz 0<| T_ed 1 [] []<| T_sz<| T_srz 1<| T_nd 1 [] [(10,vp s)] ?_
 refine T_c (some 11) h ?_;clear h
 rintro v H1 ⟨x,rfl,h⟩
 refine T_pd [10] [(11,.bool x)]<| T_e ?_
 by_cases c1:x=true
 ·rw[if_pos c1]at h
  exact T_cTz 11 c1<| T_srz 2<| T_nr 1 [4] [vi 0] hQ h
 rw[if_neg c1]at h
 refine T_cFz 11 (zZ c1)<| T_kt<| T_srz 3<| T_ed 1 [11] [(5,vi 0)]<| T_sz<| T_srz 4<| T_nd 1 [] [(12,vp s)] ?_
 obtain⟨sA,rfl,h⟩:=h
 refine T_nd 2 [0,12] [(0,vp (some sA)),(14,vp (some sA))] ?_
 obtain⟨aa,q3,h⟩:=h
 refine T_l1 15 69 q3 [14]<| T_nd 1 [1] [(16,vs n o m)] ?_
 refine T_c (some 17) h ?_;clear h
 rintro af H2 ⟨xB,xN,xC,rfl,h⟩
 refine T_pd [15,16] [(17,vs xB xN xC)]<| T_ed 2 [] [(18,vi xN),(19,vi 0)]<| T_bz 0 ?_
 obtain⟨ac,m19,i4,i5⟩:=h
 refine S_loop (x:=K18) (σ:=Int×Int) (λs_=> [(0,vp (some sA)),(5,vi s_.1),(17,vs xB xN xC),(18,vi xN),(19,vi s_.2)]) (λs_ H=>ac s_.1 s_.2 H) (λs_ H=>m19 s_.1 s_.2 H) ((0,0):Int×Int) (by kernel_rfl) i4 sk ?_
 rintro⟨d,s19⟩ H3 i6
 have h:=i5 d s19 H3 i6
 refine T_su [(0,vp (some sA)),(5,vi d),(17,vs xB xN xC),(18,vi xN),(19,vi s19)]<| T_srz 5<| T_ed 1 [] [(20,.bool (decide (s19< (xN:Int))))]<| T_sz ?_
 by_cases c7:s19< (xN:Int)
 ·rw[if_pos c7]at h
  refine T_cTz 20 (zX c7)<| T_kt<| T_sz<| T_bz 1<| T_srz 6<| T_ud [20] [] ?_
  obtain⟨p,rfl,h⟩:=h
  obtain⟨q9,h⟩:=h
  refine T_xd (some 21) 67 3 1 p xN xC .i64 s19 Tryz.underlying67 q9.1 q9.2 [17] [(17,vs (some p) xN xC),(21,vp (some (p.add (Int.toNat s19*1))))] ?_
  obtain⟨u,q10,h⟩:=h
  refine T_l1 22 3 q10 [21]<| T_ed 1 [22] [(7,vi u)]<| T_srz 7<| T_nd 3 [] [(26,vp (some sA))] ?_
  obtain⟨ab,q11,h⟩:=h
  refine T_l1 27 69 q11 [26]<| T_nd 1 [7] [(28,vi u)] ?_
  refine T_c (some 29) h ?_;clear h
  rintro ae H4 ⟨r,q,z,f,j,l,g,rb,rfl,h⟩
  refine T_pd [27,28] [(29,.tuple #[.agg #[vi r,vi q,vi z,vi f,vi j,vi l,vi g],.bool rb])]<| T_nd 3 [29] [(30,.agg #[vi r,vi q,vi z,vi f,vi j,vi l,vi g]),(31,.bool rb)]<| T_nw (some 8) (λb=>vp (pa b)) (.cells #[vi 0,vi 0,vi 0,vi 0,vi 0,vi 0,vi 0] 76) ?_
  intro b H5 e12 e13
  replace h:=h b H5 e12 e13
  refine T_pd [] [(8,vp (pa b))] ?_
  obtain⟨q15,h⟩:=h
  refine T_sta 76 [vi r,vi q,vi z,vi f,vi j,vi l,vi g] q15 ?_
  intro H6 e14
  replace h:=h H6 e14
  refine T_pd [30] []<| T_ed 1 [31] []<| T_rz 8<| T_nd 2 [5,8] [(32,vi d),(33,vp (some ((ad b).add 2)))] ?_
  obtain⟨y,q16,h⟩:=h
  exact T_l1 34 3 q16 [33]<| T_nd 2 [32,34] [(5,vi (zY (d+y)))]<| zq<| S_blockEnd<| S_then<| T_rz 9<| T_ed 2 [19] [(19,vi (zY (s19+1)))]<| S_round (((zY (d+y)),(zY (s19+1))):Int×Int) sk h
 rw[if_neg c7]at h
 exact T_cFz 20 (zQ c7)<| zj 0<| S_exitThen<| S_exitThen<| S_exitHere<| S_then<| T_srz 10<| T_nr 2 [4] [vi d] hQ h
end space_Space_Words

/-! (*moraine/space.Space).Fresh -/
namespace space_Space_Fresh
def K0:=Func.code Tryz.f58
def K2:=cb K0
def K8:=cb K2
def K9:=ca K8
def K10:=ca K9
def K12:=cb K10
def K14:=cb K12
def K17:=ca K14
def K19:=ca K17
def K21:=cb K19
def K22:=ca K21
def K25:=cb K22
def K26:=ca K25
def K27:=ca K26
end space_Space_Fresh
def space_Space_Fresh.pt(s f:zW)(b d:Nat)(H:zV)(R:Value->zV->Prop):Prop:=
 onPtr s (
 R (.tuple #[]) H) (λsA=>
 ∃(m:Int->zV->Prop) (m11:Int->zV->Nat),m 0 H/\ ∀(s9:Int) (H1:zV),m s9 H1->
 if s9<5 then(
 ∃(l:Int->zV->Prop) (m28:Int->zV->Nat),l 0 H1/\ ∀(j:Int) (H2:zV),l j H2->
 if j< (b:Int)then(
 ∃g:Addr,f=some g/\
 ((0:Int)<=j/\j< (b:Int))/\
 ∃x:Int,hat H2 (g.add (Int.toNat j*1))=some (.int .i64 x)/\
 if x=s9 then(
 ((0:Int)<=s9/\s9< (5:Int))/\
 (CanPuts H2 ((sA.add 1).add (Int.toNat s9*4)) 0 4)/\ ∀H3,H3=hputs H2 ((sA.add 1).add (Int.toNat s9*4)) [.int .i64 0,.int .i64 0,.int .i64 0,.int .i64 0] 0->
 (l (zY (j+1)) H3/\m28 (zY (j+1)) H3<m28 j H2))
 else
 (l (zY (j+1)) H2/\m28 (zY (j+1)) H2<m28 j H2))
 else
 if(b:Int)=0 then(
 ((0:Int)<=s9/\s9< (5:Int))/\
 (CanPuts H2 ((sA.add 1).add (Int.toNat s9*4)) 0 4)/\ ∀H4,H4=hputs H2 ((sA.add 1).add (Int.toNat s9*4)) [.int .i64 0,.int .i64 0,.int .i64 0,.int .i64 0] 0->
 (m (zY (s9+1)) H4/\m11 (zY (s9+1)) H4<m11 s9 H1))
 else
 (m (zY (s9+1)) H2/\m11 (zY (s9+1)) H2<m11 s9 H1))
 else
 R (.tuple #[]) H1)
namespace space_Space_Fresh
theorem link{s f:zW}{b d:Nat}{H:zV}{R:Value->zV->Prop}(h:pt s f b d H R):C s f b d H R:=by
 refine T_en K0 38 Tryz.func58 ?_
 intro w0 Q hQ
 unfold pt zY at h
 refine T_su [(0,vp s),(1,vs f b d)]<| T_sz<| T_srz 0<| T_nd 1 [] [(7,vp s)] ?_
 rcases s with _ | sA
 ·rw[onPtr_none]at h
  exact T_ed 1 [0,7] [(0,vp none),(8,.bool true)]<| T_tz 8<| T_ret [] [] hQ h
 rw[onPtr_some]at h
 refine T_ed 1 [0,7] [(0,vp (some sA)),(8,.bool false)]<| T_fz 8<| T_kt<| T_srz 1<| T_ed 1 [8] [(9,vi 0)]<| T_bz 0 ?_
 obtain⟨m,m11,i1,i2⟩:=h
 refine S_loop (x:=K10) (σ:=Int) (λs_=> [(0,vp (some sA)),(1,vs f b d),(9,vi s_)]) (λs_ H=>m s_ H) (λs_ H=>m11 s_ H) (0:Int) (by kernel_rfl) i1 sk ?_
 rintro s9 H1 i3
 have h:=i2 s9 H1 i3
 refine T_su [(0,vp (some sA)),(1,vs f b d),(9,vi s9)]<| T_srz 2<| T_ed 1 [] [(10,.bool (decide (s9<5)))]<| T_sz ?_
 by_cases c4:s9<5
 ·rw[if_pos c4]at h
  refine T_cTz 10 (zX c4)<| T_kt<| T_sz<| T_bz 1<| T_srz 3<| T_ed 2 [10] [(4,vi s9)]<| T_sz<| T_srz 4<| T_ed 3 [] [(12,vs f b d),(13,vi b),(14,vi 0)]<| T_bz 2 ?_
  obtain⟨l,m28,i6,i7⟩:=h
  refine S_loop (x:=K27) (σ:=Int) (λs_=> [(0,vp (some sA)),(1,vs f b d),(4,vi s9),(9,vi s9),(12,vs f b d),(13,vi b),(14,vi s_)]) (λs_ H=>l s_ H) (λs_ H=>m28 s_ H) (0:Int) (by kernel_rfl) i6 sk ?_
  rintro j H2 i8
  have h:=i7 j H2 i8
  refine T_su [(0,vp (some sA)),(1,vs f b d),(4,vi s9),(9,vi s9),(12,vs f b d),(13,vi b),(14,vi j)]<| T_srz 5<| T_ed 1 [] [(15,.bool (decide (j< (b:Int))))]<| T_sz ?_
  by_cases c9:j< (b:Int)
  ·rw[if_pos c9]at h
   refine T_cTz 15 (zX c9)<| T_kt<| T_sz<| T_bz 3<| T_srz 6<| T_ud [15] [] ?_
   obtain⟨g,rfl,h⟩:=h
   obtain⟨q11,h⟩:=h
   refine T_xd (some 16) 67 3 1 g b d .i64 j Tryz.underlying67 q11.1 q11.2 [1,12] [(1,vs (some g) b d),(12,vs (some g) b d),(16,vp (some (g.add (Int.toNat j*1))))] ?_
   obtain⟨x,q12,h⟩:=h
   refine T_l1 17 3 q12 [16]<| T_ed 1 [17] [(6,vi x)]<| T_srz 7<| T_ed 3 [6] [(20,.bool (x==s9))] ?_
   by_cases c13:x=s9
   ·rw[if_pos c13]at h
    refine T_cTz 20 (zK c13)<| T_rz 8<| T_nd 5 [20] [(22,vi s9),(23,.agg #[vi 0,vi 0,vi 0,vi 0]),(25,vp (some (sA.add 1)))] ?_
    obtain⟨q15,h⟩:=h
    refine T_v1 26 (indexAtN 71 (vp (some (sA.add 1))) (vi s9)) (vp (some ((sA.add 1).add (Int.toNat s9*4)))) (λw _=>indexArr_run (P:=Tryz.prog) (t:=71) (elem:=70) (sz:=4) (n:=5) (a:=(sA.add 1)) (k:=.i64) (i:=s9) Tryz.underlying71 (λ_=>by kernel_rfl) q15.1 q15.2 w) [22,25] ?_
    obtain⟨q17,h⟩:=h
    refine T_sta 70 [vi 0,vi 0,vi 0,vi 0] q17 ?_
    intro H3 e16
    replace h:=h H3 e16
    exact T_pd [23,26] []<| zq<| S_blockEnd<| S_then<| T_rz 9<| T_ed 2 [14] [(14,vi (zY (j+1)))]<| S_round ((zY (j+1)):Int) sk h
   rw[if_neg c13]at h
   exact T_cFz 20 (zJ c13)<| T_k<| S_blockEnd<| S_then<| T_rz 9<| T_ed 2 [14,20] [(14,vi (zY (j+1)))]<| S_round ((zY (j+1)):Int) sk h
  rw[if_neg c9]at h
  refine T_cFz 15 (zQ c9)<| zj 2<| S_exitThen<| S_exitThen<| S_exitHere<| S_then<| T_srz 10<| T_ed 3 [12,13,14,15] [(30,.bool ((b:Int)==0))] ?_
  by_cases c18:(b:Int)=0
  ·rw[if_pos c18]at h
   refine T_cTz 30 (zK c18)<| T_rz 11<| T_nd 5 [4,30] [(32,vi s9),(33,.agg #[vi 0,vi 0,vi 0,vi 0]),(35,vp (some (sA.add 1)))] ?_
   obtain⟨q20,h⟩:=h
   refine T_v1 36 (indexAtN 71 (vp (some (sA.add 1))) (vi s9)) (vp (some ((sA.add 1).add (Int.toNat s9*4)))) (λw _=>indexArr_run (P:=Tryz.prog) (t:=71) (elem:=70) (sz:=4) (n:=5) (a:=(sA.add 1)) (k:=.i64) (i:=s9) Tryz.underlying71 (λ_=>by kernel_rfl) q20.1 q20.2 w) [32,35] ?_
   obtain⟨q22,h⟩:=h
   refine T_sta 70 [vi 0,vi 0,vi 0,vi 0] q22 ?_
   intro H4 e21
   replace h:=h H4 e21
   exact T_pd [33,36] []<| zq<| S_blockEnd<| S_then<| T_rz 12<| T_ed 2 [9] [(9,vi (zY (s9+1)))]<| S_round ((zY (s9+1)):Int) sk h
  rw[if_neg c18]at h
  exact T_cFz 30 (zJ c18)<| T_k<| S_blockEnd<| S_then<| T_rz 12<| T_ed 2 [4,9,30] [(9,vi (zY (s9+1)))]<| S_round ((zY (s9+1)):Int) sk h
 rw[if_neg c4]at h
 exact T_cFz 10 (zQ c4)<| zj 0<| S_exitThen<| S_exitThen<| S_exitHere<| S_doneN (fn:=Tryz.f58) [] hQ (show ResOK _ _ _ [] _ from .nil) h
end space_Space_Fresh

/-! (*moraine/space.Space).Give -/
namespace space_Space_Give
def K0:=Func.code Tryz.f61
def K2:=cb K0
def K4:=cb K2
def K11:=ca K4
def K14:=cb K11
def K16:=cb K14
def K17:=ca K16
end space_Space_Give
def space_Space_Give.pt(s:zW)(d:Int)(H:zV)(R:Value->zV->Prop):Prop:=
 space_Space_none.C s H (λv H1=> ∃x:Bool,v=.bool x/\
 if x=true then(
 R (.int .i64 19) H1)
 else
 ∃sA:Addr,s=some sA/\
 ∃af:zW,hat H1 sA=some (.pointer af)/\
 seg_Mem_Seg.C af d H1 (λal H2=> ∃(r p ab f j l g:Int) (rb:Bool),al=.tuple #[.agg #[.int .i64 r,.int .i64 p,.int .i64 ab,.int .i64 f,.int .i64 j,.int .i64 l,.int .i64 g],.bool rb]/\
 ∀(b:Nat) (H3:zV),b=H2.size->H3=H2.push (.cells #[.int .i64 0,.int .i64 0,.int .i64 0,.int .i64 0,.int .i64 0,.int .i64 0,.int .i64 0] 76)->
 (CanPuts H3 (ad b) 0 7)/\ ∀H4,H4=hputs H3 (ad b) [.int .i64 r,.int .i64 p,.int .i64 ab,.int .i64 f,.int .i64 j,.int .i64 l,.int .i64 g] 0->
 if rb=true then(
 ∃o:Int,hat H4 (ad b)=some (.int .i64 o)/\
 ∃y:Int,hat H4 ((ad b).add 1)=some (.int .i64 y)/\
 ((0:Int)<=o/\o< (5:Int))/\
 ((0:Int)<=y/\y< (4:Int))/\
 ∃u:Int,hat H4 (((sA.add 1).add (Int.toNat o*4)).add (Int.toNat y*1))=some (.int .i64 u)/\
 if u=(zY (d+1))then(
 ∃m:Int,hat H4 (ad b)=some (.int .i64 m)/\
 ∃q:Int,hat H4 ((ad b).add 1)=some (.int .i64 q)/\
 ((0:Int)<=m/\m< (5:Int))/\
 ((0:Int)<=q/\q< (4:Int))/\
 (CanPuts H4 (((sA.add 1).add (Int.toNat m*4)).add (Int.toNat q*1)) 0 1)/\ ∀H5,H5=hputs H4 (((sA.add 1).add (Int.toNat m*4)).add (Int.toNat q*1)) [.int .i64 0] 0->
 ∃ag:zW,hat H5 sA=some (.pointer ag)/\
 seg_Mem_Give.C ag d H5 (λak H6=> ∃ah:Int,ak=.int .i64 ah/\
 R (.int .i64 ah) H6))
 else
 ∃aa:zW,hat H4 sA=some (.pointer aa)/\
 seg_Mem_Give.C aa d H4 (λaj H7=> ∃ac:Int,aj=.int .i64 ac/\
 R (.int .i64 ac) H7))
 else
 ∃z:zW,hat H4 sA=some (.pointer z)/\
 seg_Mem_Give.C z d H4 (λai H8=> ∃ae:Int,ai=.int .i64 ae/\
 R (.int .i64 ae) H8)))
namespace space_Space_Give
theorem link{s:zW}{d:Int}{H:zV}{R:Value->zV->Prop}(h:pt s d H R):C s d H R:=by
 refine T_en K0 49 Tryz.func61 ?_
 intro w0 Q hQ
 unfold pt zY at h
 refine T_su [(0,vp s),(1,vi d)]<| T_srz 0<| T_ed 1 [] []<| T_sz<| T_srz 1<| T_nd 1 [] [(7,vp s)] ?_
 refine T_c (some 8) h ?_;clear h
 rintro v H1 ⟨x,rfl,h⟩
 refine T_pd [7] [(8,.bool x)]<| T_e ?_
 by_cases c1:x=true
 ·rw[if_pos c1]at h
  exact T_cTz 8 c1<| T_srz 2<| T_nr 1 [4] [vi 19] hQ h
 rw[if_neg c1]at h
 refine T_cFz 8 (zZ c1)<| T_kt<| T_sz<| T_srz 3<| T_nd 1 [8] [(10,vp s)] ?_
 obtain⟨sA,rfl,h⟩:=h
 refine T_nd 2 [0,10] [(0,vp (some sA)),(12,vp (some sA))] ?_
 obtain⟨af,q3,h⟩:=h
 refine T_l1 13 69 q3 [12]<| T_nd 1 [] [(14,vi d)] ?_
 refine T_c (some 15) h ?_;clear h
 rintro al H2 ⟨r,p,ab,f,j,l,g,rb,rfl,h⟩
 refine T_pd [13,14] [(15,.tuple #[.agg #[vi r,vi p,vi ab,vi f,vi j,vi l,vi g],.bool rb])]<| T_nd 3 [15] [(16,.agg #[vi r,vi p,vi ab,vi f,vi j,vi l,vi g]),(17,.bool rb)]<| T_nw (some 5) (λb=>vp (pa b)) (.cells #[vi 0,vi 0,vi 0,vi 0,vi 0,vi 0,vi 0] 76) ?_
 intro b H3 e4 e5
 replace h:=h b H3 e4 e5
 refine T_pd [] [(5,vp (pa b))] ?_
 obtain⟨q7,h⟩:=h
 refine T_sta 76 [vi r,vi p,vi ab,vi f,vi j,vi l,vi g] q7 ?_
 intro H4 e6
 replace h:=h H4 e6
 refine T_pd [16] []<| T_ed 1 [17] [(6,.bool rb)]<| T_sz<| T_rqz 4<| T_q1 18 (.bool rb) [6]<| T_q1 19 (.bool rb) [18] ?_
 by_cases c8:rb=true
 ·rw[if_pos c8]at h
  refine Q_bd 19 c8<| T_q1 20 (vp (some sA)) []<| T_q1 21 (vp (pa b)) [] ?_
  obtain⟨o,q10,h⟩:=h
  refine T_qld (some 22) 3 q10 [21] [(22,vi o)]<| T_q1 23 (vp (some ((ad b).add 1))) [] ?_
  obtain⟨y,q11,h⟩:=h
  refine T_qld (some 24) 3 q11 [23] [(24,vi y)]<| T_q1 25 (vp (some sA)) [20]<| T_q1 26 (vp (some (sA.add 1))) [25] ?_
  obtain⟨q12,h⟩:=h
  refine Q_op (some 27) (indexAtN 71 (vp (some (sA.add 1))) (vi o)) (vp (some ((sA.add 1).add (Int.toNat o*4)))) (λ_=>by kernel_rfl) (λw _=>indexArr_run (P:=Tryz.prog) (t:=71) (elem:=70) (sz:=4) (n:=5) (a:=(sA.add 1)) (k:=.i64) (i:=o) Tryz.underlying71 (λ_=>by kernel_rfl) q12.1 q12.2 w) [(0,vp (some sA)),(1,vi d),(5,vp (pa b)),(19,.bool true),(24,vi y),(27,vp (some ((sA.add 1).add (Int.toNat o*4))))] pk ?_
  obtain⟨q13,h⟩:=h
  refine Q_op (some 28) (indexAtN 70 (vp (some ((sA.add 1).add (Int.toNat o*4)))) (vi y)) (vp (some (((sA.add 1).add (Int.toNat o*4)).add (Int.toNat y*1)))) (λ_=>by kernel_rfl) (λw _=>indexArr_run (P:=Tryz.prog) (t:=70) (elem:=3) (sz:=1) (n:=4) (a:=((sA.add 1).add (Int.toNat o*4))) (k:=.i64) (i:=y) Tryz.underlying70 (λ_=>by kernel_rfl) q13.1 q13.2 w) [(0,vp (some sA)),(1,vi d),(5,vp (pa b)),(19,.bool true),(28,vp (some (((sA.add 1).add (Int.toNat o*4)).add (Int.toNat y*1))))] pk ?_
  obtain⟨u,q14,h⟩:=h
  refine T_ql (some 29) 3 q14 [(0,vp (some sA)),(1,vi d),(5,vp (pa b)),(19,.bool true),(29,vi u)]<| T_q1 30 (vi d) []<| T_q1 31 (vi (zY (d+1))) [30]<| T_q1 32 (.bool (u==(zY (d+1)))) [29,31]<| T_q1 33 (.bool (u==(zY (d+1)))) [19,32]<| Q_sub [(0,vp (some sA)),(1,vi d),(5,vp (pa b)),(33,.bool (u==(zY (d+1))))] sk<| T_qe ?_
  by_cases c15:u=(zY (d+1))
  ·rw[if_pos c15]at h
   refine T_cTz 33 (zK c15) ?_
   obtain⟨m,q17,h⟩:=h
   obtain⟨q,q18,h⟩:=h
   obtain⟨q19,h⟩:=h
   obtain⟨q20,h⟩:=h
   refine S_regionG 5 (Code.ops K17) [(9,(ad b),[vi m]),(9,((ad b).add 1),[vi q])] 10 (bv 10 0) (by kernel_rfl) (by kernel_rfl) (by kernel_rfl) (by kernel_rfl) (by kernel_rfl) (show FactsAt _ _ _ from⟨⟨q17,trivial⟩,⟨q18,trivial⟩,trivial⟩)<| T_gp 0 (some 34) (vp (some sA)) (bv 10 1) [(0,vp (some sA)),(1,vi d),(5,vp (pa b)),(34,vp (some sA))]<| T_gp1 1 35 (vp (pa b)) (bv 10 3) []<| T_g1 2 36 (vi m) (bv 10 7) [35] (loadN 3 (vp (pa b))) (held_one 9 (λ_=>by kernel_rfl) (List.Mem.head _) (.inl (by kernel_rfl)))<| T_gp1 3 37 (vp (some ((ad b).add 1))) (bv 10 15) [5]<| T_g1 4 38 (vi q) (bv 10 31) [37] (loadN 3 (vp (some ((ad b).add 1)))) (held_one 9 (λ_=>by kernel_rfl) (List.Mem.tail _ (List.Mem.head _)) (.inl (by kernel_rfl)))<| T_gp1 5 39 (vp (some sA)) (bv 10 63) [34]<| T_gp1 6 40 (vp (some (sA.add 1))) (bv 10 127) [39]<| T_g1 7 41 (vp (some ((sA.add 1).add (Int.toNat m*4)))) (bv 10 255) [36,40] (indexAtN 71 (vp (some (sA.add 1))) (vi m)) (λ_ w _ _ _=>indexArr_run (P:=Tryz.prog) (t:=71) (elem:=70) (sz:=4) (n:=5) (a:=(sA.add 1)) (k:=.i64) (i:=m) Tryz.underlying71 (λ_=>by kernel_rfl) q19.1 q19.2 w)<| T_g1 8 42 (vp (some (((sA.add 1).add (Int.toNat m*4)).add (Int.toNat q*1)))) (bv 10 511) [38,41] (indexAtN 70 (vp (some ((sA.add 1).add (Int.toNat m*4)))) (vi q)) (λ_ w _ _ _=>indexArr_run (P:=Tryz.prog) (t:=70) (elem:=3) (sz:=1) (n:=4) (a:=((sA.add 1).add (Int.toNat m*4))) (k:=.i64) (i:=q) Tryz.underlying70 (λ_=>by kernel_rfl) q20.1 q20.2 w) ?_
   obtain⟨q22,h⟩:=h
   refine G_onlyskip 9 none (bv 10 1023) (storeN 3 (vp (some (((sA.add 1).add (Int.toNat m*4)).add (Int.toNat q*1)))) (vi 0)) (λHz=>Hz=hputs H4 (((sA.add 1).add (Int.toNat m*4)).add (Int.toNat q*1)) [vi 0] 0) (by kernel_rfl) (λ_=>by kernel_rfl) (ss_store [vi 0] 1 (by kernel_rfl) (by kernel_rfl) (λ_=>by kernel_rfl) (by kernel_rfl) q22) (by kernel_rfl) ?_
   intro H5 e21
   replace h:=h H5 e21
   refine⟨[(0,vp (some sA)),(1,vi d)],pk,(show FactsAt _ _ _ from⟨trivial,trivial,trivial⟩),?_⟩
   refine G_sub [(0,vp (some sA)),(1,vi d)] sk ?_
   refine G_end (by kernel_rfl)<| S_then<| T_srz 6<| T_n 3 [(1,vi d),(45,vp (some sA))] ?_
   obtain⟨ag,q23,h⟩:=h
   refine T_l1 46 69 q23 [45]<| T_nd 1 [1] [(47,vi d)] ?_
   refine T_c (some 48) h ?_;clear h
   rintro ak H6 ⟨ah,rfl,h⟩
   refine⟨[(48,vi ah)],pk,?_⟩
   exact T_nr 1 [4] [vi ah] hQ h
  rw[if_neg c15]at h
  refine T_cFz 33 (zJ c15)<| T_kt<| T_srz 6<| T_n 3 [(1,vi d),(45,vp (some sA))] ?_
  obtain⟨aa,q24,h⟩:=h
  refine T_l1 46 69 q24 [45]<| T_nd 1 [1] [(47,vi d)] ?_
  refine T_c (some 48) h ?_;clear h
  rintro aj H7 ⟨ac,rfl,h⟩
  refine⟨[(48,vi ac)],pk,?_⟩
  exact T_nr 1 [4] [vi ac] hQ h
 rw[if_neg c8]at h
 refine Q_bd 19 (zZ c8)<| T_q1 20 (undef) []<| T_q1 21 (undef) []<| T_q1 22 (undef) [21]<| T_q1 23 (undef) []<| T_q1 24 (undef) [23]<| T_q1 25 (undef) [20]<| T_q1 26 (undef) [25]<| T_q1 27 (undef) [22,26] ?_
 refine T_q1 28 (undef) [24,27]<| T_q1 29 (undef) [28]<| T_q1 30 (undef) []<| T_q1 31 (undef) [30]<| T_q1 32 (undef) [29,31]<| T_q1 33 (.bool false) [19,32]<| Q_sub [(0,vp (some sA)),(1,vi d),(5,vp (pa b)),(33,.bool false)] sk<| T_qe<| T_fz 33<| T_kt<| T_srz 6<| T_n 3 [(1,vi d),(45,vp (some sA))] ?_
 obtain⟨z,q25,h⟩:=h
 refine T_l1 46 69 q25 [45]<| T_nd 1 [1] [(47,vi d)] ?_
 refine T_c (some 48) h ?_;clear h
 rintro ai H8 ⟨ae,rfl,h⟩
 refine⟨[(48,vi ae)],pk,?_⟩
 exact T_nr 1 [4] [vi ae] hQ h
end space_Space_Give

/-! cmp.Compare[int] -/
namespace cmp_Compare_int
def K0:=Func.code Tryz.f54
end cmp_Compare_int
def cmp_Compare_int.pt(x y:Int)(H:zV)(R:Value->zV->Prop):Prop:=
 cmp_isNaN_int.C x H (λv H1=> ∃b:Bool,v=.bool b/\
 cmp_isNaN_int.C y H1 (λd H2=> ∃a:Bool,d=.bool a/\
 if b=true then(
 if a=true then(
 R (.int .i64 0) H2)
 else
 R (.int .i64 (-1)) H2)
 else
 if a=true then(
 R (.int .i64 1) H2)
 else
 if x<y then(
 R (.int .i64 (-1)) H2)
 else
 if x>y then(
 R (.int .i64 1) H2)
 else
 R (.int .i64 0) H2))
namespace cmp_Compare_int
theorem link{x y:Int}{H:zV}{R:Value->zV->Prop}(h:pt x y H R):C x y H R:=by
 refine T_en K0 20 Tryz.func54 ?_
 intro w0 Q hQ
 unfold pt at h
 refine T_su [(0,vi x),(1,vi y)]<| T_srz 0<| T_ed 1 [] []<| T_srz 1<| T_nd 1 [] [(7,vi x)] ?_
 refine T_c (some 8) h ?_;clear h
 rintro v H1 ⟨b,rfl,h⟩
 refine T_pd [7] [(8,.bool b)]<| T_ed 1 [8] [(5,.bool b)]<| T_srz 2<| T_nd 1 [] [(9,vi y)] ?_
 refine T_c (some 10) h ?_;clear h
 rintro d H2 ⟨a,rfl,h⟩
 refine T_pd [9] [(10,.bool a)]<| T_ed 1 [10] [(6,.bool a)]<| T_sz<| T_srz 3<| T_ed 1 [5] [(11,.bool b)] ?_
 by_cases c1:b=true
 ·rw[if_pos c1]at h
  refine T_cTz 11 c1<| T_sz<| T_srz 4<| T_ne 1 [(12,.bool a)] ?_
  by_cases c3:a=true
  ·rw[if_pos c3]at h
   exact T_cTz 12 c3<| T_srz 5<| T_nr 1 [4] [vi 0] hQ h
  rw[if_neg c3]at h
  exact T_cFz 12 (zZ c3)<| T_kt<| T_srz 6<| T_nr 1 [4] [vi (-1)] hQ h
 rw[if_neg c1]at h
 refine T_cFz 11 (zZ c1)<| T_kt<| T_sz<| T_srz 7<| T_ed 1 [6,11] [(13,.bool a)] ?_
 by_cases c5:a=true
 ·rw[if_pos c5]at h
  exact T_cTz 13 c5<| T_srz 8<| T_nr 1 [4] [vi 1] hQ h
 rw[if_neg c5]at h
 refine T_cFz 13 (zZ c5)<| T_kt<| T_sz<| T_srz 9<| T_ed 3 [13] [(16,.bool (decide (x<y)))] ?_
 by_cases c7:x<y
 ·rw[if_pos c7]at h
  exact T_cTz 16 (zX c7)<| T_srz 10<| T_nr 1 [4] [vi (-1)] hQ h
 rw[if_neg c7]at h
 refine T_cFz 16 (zQ c7)<| T_kt<| T_sz<| T_srz 11<| T_ne 3 [(19,.bool (decide (x>y)))] ?_
 by_cases c9:x>y
 ·rw[if_pos c9]at h
  exact T_cTz 19 (zX c9)<| T_srz 12<| T_nr 1 [4] [vi 1] hQ h
 rw[if_neg c9]at h
 exact T_cFz 19 (zQ c9)<| T_kt<| T_srz 13<| T_nr 1 [4] [vi 0] hQ h
end cmp_Compare_int

/-! cmp.isNaN[int] -/
namespace cmp_isNaN_int
def K0:=Func.code Tryz.f96
end cmp_isNaN_int
def cmp_isNaN_int.pt(x:Int)(H:zV)(R:Value->zV->Prop):Prop:=
 R (.bool (x !=x)) H
namespace cmp_isNaN_int
theorem link{x:Int}{H:zV}{R:Value->zV->Prop}(h:pt x H R):C x H R:=by
 refine T_en K0 6 Tryz.func96 ?_
 intro w0 Q hQ
 unfold pt at h
 exact T_su [(0,vi x)]<| T_srz 0<| T_ed 1 [] []<| T_srz 1<| T_nr 4 [2] [.bool (x !=x)] hQ h
end cmp_isNaN_int

/-! slices.Contains[[]int,int] -/
namespace slices_Contains_int_int
def K0:=Func.code Tryz.f51
end slices_Contains_int_int
def slices_Contains_int_int.pt(sB:zW)(sN sC:Nat)(v:Int)(H:zV)(R:Value->zV->Prop):Prop:=
 slices_Index_int_int.C sB sN sC v H (λa H1=> ∃x:Int,a=.int .i64 x/\
 R (.bool (decide (x>=0))) H1)
namespace slices_Contains_int_int
theorem link{sB:zW}{sN sC:Nat}{v:Int}{H:zV}{R:Value->zV->Prop}(h:pt sB sN sC v H R):C sB sN sC v H R:=by
 refine T_en K0 9 Tryz.func51 ?_
 intro w0 Q hQ
 unfold pt at h
 refine T_su [(0,vs sB sN sC),(1,vi v)]<| T_srz 0<| T_ed 1 [] []<| T_srz 1<| T_n 2 [(5,vs sB sN sC),(6,vi v)] ?_
 refine T_c (some 7) h ?_;clear h
 rintro a H1 ⟨x,rfl,h⟩
 refine⟨[(7,vi x)],pk,?_⟩
 exact T_nr 2 [4] [.bool (decide (x>=0))] hQ h
end slices_Contains_int_int

/-! slices.Clone[[]moraine/api.Entry,moraine/api.Entry] -/
namespace slices_Index_int_int
def K0:=Func.code Tryz.f93
def K2:=cb K0
def K3:=ca K2
def K6:=cb K3
def K7:=ca K6
def K8:=ca K7
end slices_Index_int_int
def slices_Index_int_int.pt(sB:zW)(sN sC:Nat)(v:Int)(H:zV)(R:Value->zV->Prop):Prop:=
 ∃(I9:Int->zV->Prop) (m9:Int->zV->Nat),I9 0 H/\ ∀(s8:Int) (H1:zV),I9 s8 H1->
 if s8< (sN:Int)then(
 ∃b:Addr,sB=some b/\
 ((0:Int)<=s8/\s8< (sN:Int))/\
 ∃x:Int,hat H1 (b.add (Int.toNat s8*1))=some (.int .i64 x)/\
 if v=x then(
 R (.int .i64 s8) H1)
 else
 (I9 (zY (s8+1)) H1/\m9 (zY (s8+1)) H1<m9 s8 H1))
 else
 R (.int .i64 (-1)) H1
namespace slices_Index_int_int
theorem link{sB:zW}{sN sC:Nat}{v:Int}{H:zV}{R:Value->zV->Prop}(h:pt sB sN sC v H R):C sB sN sC v H R:=by
 refine T_en K0 19 Tryz.func93 ?_
 intro w0 Q hQ
 unfold pt zY at h
 refine T_su [(0,vs sB sN sC),(1,vi v)]<| T_srz 0<| T_ed 1 [] []<| T_sz<| T_srz 1<| T_ed 3 [] [(7,vi sN),(8,vi 0)]<| T_bz 0 ?_
 obtain⟨I9,m9,i1,i2⟩:=h
 refine S_loop (x:=K8) (σ:=Int) (λs_=> [(0,vs sB sN sC),(1,vi v),(7,vi sN),(8,vi s_)]) (λs_ H=>I9 s_ H) (λs_ H=>m9 s_ H) (0:Int) (by kernel_rfl) i1 sk ?_
 rintro s8 H1 i3
 have h:=i2 s8 H1 i3
 refine T_su [(0,vs sB sN sC),(1,vi v),(7,vi sN),(8,vi s8)]<| T_srz 2<| T_ed 1 [] [(9,.bool (decide (s8< (sN:Int))))]<| T_sz ?_
 by_cases c4:s8< (sN:Int)
 ·rw[if_pos c4]at h
  refine T_cTz 9 (zX c4)<| T_kt<| T_sz<| T_bz 1<| T_srz 3<| T_ed 2 [9] [(5,vi s8)]<| T_srz 4<| T_nd 3 [] [(11,vi v),(12,vs sB sN sC),(13,vi s8)] ?_
  obtain⟨b,rfl,h⟩:=h
  obtain⟨q6,h⟩:=h
  refine T_xd (some 14) 67 3 1 b sN sC .i64 s8 Tryz.underlying67 q6.1 q6.2 [0,12,13] [(0,vs (some b) sN sC),(14,vp (some (b.add (Int.toNat s8*1))))] ?_
  obtain⟨x,q7,h⟩:=h
  refine T_l1 15 3 q7 [14]<| T_ed 1 [11,15] [(16,.bool (v==x))] ?_
  by_cases c8:v=x
  ·rw[if_pos c8]at h
   exact T_cTz 16 (zK c8)<| T_srz 5<| T_nr 2 [4] [vi s8] hQ h
  rw[if_neg c8]at h
  exact T_cFz 16 (zJ c8)<| T_k<| S_blockEnd<| S_then<| T_rz 6<| T_ed 2 [5,8,16] [(8,vi (zY (s8+1)))]<| S_round ((zY (s8+1)):Int) sk h
 rw[if_neg c4]at h
 exact T_cFz 9 (zQ c4)<| zj 0<| S_exitThen<| S_exitThen<| S_exitHere<| S_then<| T_srz 7<| T_nr 1 [4] [vi (-1)] hQ h
end slices_Index_int_int

/-! (*moraine/obj.Heap).Epoch -/
namespace obj_Heap_Next
def K0:=Func.code Tryz.f63
end obj_Heap_Next
def obj_Heap_Next.pt(hv:zW)(H:zV)(R:Value->zV->Prop):Prop:=
 obj_Heap_none.C hv H (λv H1=> ∃x:Bool,v=.bool x/\
 if x=true then(
 R (.tuple #[]) H1)
 else
 ∃a:Addr,hv=some a/\
 ∃b:Int,hat H1 (a.add 3)=some (.int .u64 b)/\
 (CanPuts H1 (a.add 3) 0 1)/\ ∀H2,H2=hputs H1 (a.add 3) [.int .u64 (IntKind.wrap .u64 (b+1))] 0->
 R (.tuple #[]) H2)
namespace obj_Heap_Next
set_option maxRecDepth 100000 in
theorem link{hv:zW}{H:zV}{R:Value->zV->Prop}(h:pt hv H R):C hv H R:=by
 refine T_en K0 12 Tryz.func63 ?_
 intro w0 Q hQ
 unfold pt at h
 refine T_su [(0,vp hv)]<| T_srz 0<| T_nd 1 [] [(2,vp hv)] ?_
 refine T_c (some 3) h ?_;clear h
 rintro v H1 ⟨x,rfl,h⟩
 refine T_pd [2] [(3,.bool x)]<| T_ed 1 [3] [(4,.bool (!x))] ?_
 by_cases c1:x=true
 ·rw[if_pos c1]at h
  exact T_cFz 4 (congrArg Bool.not (c1))<| T_k<| S_doneN (fn:=Tryz.f63) [] hQ (show ResOK _ _ _ [] _ from .nil) h
 rw[if_neg c1]at h
 refine T_cTz 4 (congrArg Bool.not (zZ c1))<| T_rz 1<| T_n 1 [(5,vp hv)] ?_
 obtain⟨a,rfl,h⟩:=h
 refine T_n 2 [(5,vp (some a)),(7,vp (some (a.add 3)))] ?_
 obtain⟨b,q3,h⟩:=h
 refine T_l1 8 23 q3 [7]<| T_n 3 [(9,vu (IntKind.wrap .u64 (b+1))),(11,vp (some (a.add 3)))] ?_
 obtain⟨q5,h⟩:=h
 refine T_st1 23 (vu (IntKind.wrap .u64 (b+1))) q5 ?_
 intro H2 e4
 replace h:=h H2 e4
 refine⟨[],pk,?_⟩
 exact zq<| S_doneN (fn:=Tryz.f63) [] hQ (show ResOK _ _ _ [] _ from .nil) h
end obj_Heap_Next

/-! moraine/morainelaw11.Word -/
namespace morainelaw11_Word
def K0:=Func.code Tryz.f82
end morainelaw11_Word
def morainelaw11_Word.pt(vW af:Int)(g:zW)(d f:Nat)(H:zV)(R:Value->zV->Prop):Prop:=
 ∀(b:Nat) (H1:zV),b=H.size->H1=H.push (.cells #[.int .u64 vW,.int .i64 af] 96)->
 ∃x:Int,hat H1 ((ad b).add 1)=some (.int .i64 x)/\
 if((decide (x>0)) && (decide ((d:Int)>0)))=true then(
 ∃m:Int,hat H1 ((ad b).add 1)=some (.int .i64 m)/\
 ((d:Int)≠0)/\
 ∃n:Addr,g=some n/\
 ((0:Int)<=(Int.tmod (zY (m-1)) (d:Int))/\(Int.tmod (zY (m-1)) (d:Int))< (d:Int))/\
 ∃ab:Int,hat H1 (n.add (Int.toNat (Int.tmod (zY (m-1)) (d:Int))*1))=some (.int .u64 ab)/\
 R (.int .u64 ab) H1)
 else
 ∃l:Int,hat H1 (ad b)=some (.int .u64 l)/\
 if(iand .u64 l 7)=0 then(
 ∃ac:Int,hat H1 (ad b)=some (.int .u64 ac)/\
 moraineref01_Of.C ac H1 (λv H2=> ∃o ai xA xX ag:Int,v=.agg #[.int .i64 o,.int .i64 ai,.int .i64 xA,.int .i64 xX,.int .u64 ag]/\
 if o=0 then(
 ∃aa:Int,hat H2 (ad b)=some (.int .u64 aa)/\
 R (.int .u64 (iandnot .u64 aa 7)) H2)
 else
 ∃s:Int,hat H2 (ad b)=some (.int .u64 s)/\
 R (.int .u64 s) H2))
 else
 if(iand .u64 l 7)=4 then(
 ∃ae:Int,hat H1 (ad b)=some (.int .u64 ae)/\
 moraineref01_Of.C ae H1 (λak H3=> ∃j u ah aj r:Int,ak=.agg #[.int .i64 j,.int .i64 u,.int .i64 ah,.int .i64 aj,.int .u64 r]/\
 if j=0 then(
 ∃z:Int,hat H3 (ad b)=some (.int .u64 z)/\
 R (.int .u64 (iandnot .u64 z 7)) H3)
 else
 ∃q:Int,hat H3 (ad b)=some (.int .u64 q)/\
 R (.int .u64 q) H3))
 else
 ∃p:Int,hat H1 (ad b)=some (.int .u64 p)/\
 R (.int .u64 (iandnot .u64 p 7)) H1
namespace morainelaw11_Word
set_option maxRecDepth 100000 in
theorem link{vW af:Int}{g:zW}{d f:Nat}{H:zV}{R:Value->zV->Prop}(h:pt vW af g d f H R):C vW af g d f H R:=by
 refine T_en K0 44 Tryz.func82 ?_
 intro w0 Q hQ
 unfold pt zY at h
 refine T_su [(0,.agg #[vu vW,vi af]),(1,vs g d f)]<| T_srz 0<| T_nw (some 2) (λb=>vp (pa b)) (.cells #[vu vW,vi af] 96) ?_
 intro b H1 e1 e2
 replace h:=h b H1 e1 e2
 refine T_pd [0] [(2,vp (pa b))]<| T_ed 1 [] []<| T_sz<| T_srz 1<| T_nd 1 [] [(6,vp (some ((ad b).add 1)))] ?_
 obtain⟨x,q3,h⟩:=h
 refine T_l1 7 3 q3 [6]<| T_nd 2 [7] [(9,.bool (decide (x>0)))] ?_
 refine N_cut [(1,vs g d f),(2,vp (pa b)),(13,.bool ((decide (x>0)) && (decide ((d:Int)>0))))] ?_ ?_
 ·refine S_then ?_
  by_cases c6:((decide (x>0)) && (decide ((d:Int)>0)))=true
  ·rw[if_pos c6]at h
   refine T_cTz 13 c6<| T_srz 2<| T_n 2 [(1,vs g d f),(14,vs g d f),(15,vp (some ((ad b).add 1)))] ?_
   obtain⟨m,q8,h⟩:=h
   refine T_l1 16 3 q8 [15]<| T_nd 3 [1,16] [(17,vi (zY (m-1))),(19,vi d)] ?_
   obtain⟨q9,h⟩:=h
   refine T_v1 20 (binN .rem 3 (vi (zY (m-1))) (vi d)) (vi (Int.tmod (zY (m-1)) (d:Int))) (λw _=>rem_run (P:=Tryz.prog) (t:=3) (k:=.i64) (x:=(zY (m-1))) (y:=(d:Int)) q9 w) [17,19] ?_
   obtain⟨n,rfl,h⟩:=h
   obtain⟨q10,h⟩:=h
   refine T_ix (some 21) 27 24 1 n d f .i64 (Int.tmod (zY (m-1)) (d:Int)) Tryz.underlying27 q10.1 q10.2 [(21,vp (some (n.add (Int.toNat (Int.tmod (zY (m-1)) (d:Int))*1))))] ?_
   obtain⟨ab,q11,h⟩:=h
   exact T_l1 22 24 q11 [21]<| T_nr 1 [4] [vu ab] hQ h
  rw[if_neg c6]at h
  refine T_cFz 13 (zZ c6)<| T_kt<| T_sz<| T_srz 3<| T_n 1 [(2,vp (pa b)),(23,vp (pa b))] ?_
  obtain⟨l,q12,h⟩:=h
  refine T_l1 24 24 q12 [23]<| T_ed 2 [24] [(5,vu (iand .u64 l 7))]<| T_srz 4<| T_nd 3 [] [(28,.bool ((iand .u64 l 7) !=0))] ?_
  by_cases c13:(iand .u64 l 7)=0
  ·rw[if_pos c13]at h
   refine N_bd 28 (bne_eq_false_iff_eq.mpr c13)<| T_nd 5 [5,28] [(32,.bool false),(33,vp (pa b))] ?_
   obtain⟨ac,q15,h⟩:=h
   refine T_l1 34 24 q15 [33] ?_
   refine T_c (some 35) h ?_;clear h
   rintro v H2 ⟨o,ai,xA,xX,ag,rfl,h⟩
   refine T_pd [34] [(35,.agg #[vi o,vi ai,vi xA,vi xX,vu ag])]<| T_ed 3 [32,35] [(38,.bool (o==0))] ?_
   by_cases c16:o=0
   ·rw[if_pos c16]at h
    refine T_cTz 38 (zK c16)<| T_srz 5<| T_n 1 [(39,vp (pa b))] ?_
    obtain⟨aa,q18,h⟩:=h
    exact T_l1 40 24 q18 [39]<| T_nr 2 [4] [vu (iandnot .u64 aa 7)] hQ h
   rw[if_neg c16]at h
   refine T_cFz 38 (zJ c16)<| T_kt<| T_srz 6<| T_n 1 [(42,vp (pa b))] ?_
   obtain⟨s,q19,h⟩:=h
   exact T_l1 43 24 q19 [42]<| T_nr 1 [4] [vu s] hQ h
  rw[if_neg c13]at h
  refine N_bd 28 (bne_iff_ne.mpr c13)<| T_nd 4 [5,28] [(32,.bool ((iand .u64 l 7) !=4))] ?_
  by_cases c20:(iand .u64 l 7)=4
  ·rw[if_pos c20]at h
   refine N_bd 32 (bne_eq_false_iff_eq.mpr c20)<| T_nd 1 [] [(33,vp (pa b))] ?_
   obtain⟨ae,q22,h⟩:=h
   refine T_l1 34 24 q22 [33] ?_
   refine T_c (some 35) h ?_;clear h
   rintro ak H3 ⟨j,u,ah,aj,r,rfl,h⟩
   refine T_pd [34] [(35,.agg #[vi j,vi u,vi ah,vi aj,vu r])]<| T_ed 3 [32,35] [(38,.bool (j==0))] ?_
   by_cases c23:j=0
   ·rw[if_pos c23]at h
    refine T_cTz 38 (zK c23)<| T_srz 5<| T_n 1 [(39,vp (pa b))] ?_
    obtain⟨z,q25,h⟩:=h
    exact T_l1 40 24 q25 [39]<| T_nr 2 [4] [vu (iandnot .u64 z 7)] hQ h
   rw[if_neg c23]at h
   refine T_cFz 38 (zJ c23)<| T_kt<| T_srz 6<| T_n 1 [(42,vp (pa b))] ?_
   obtain⟨q,q26,h⟩:=h
   exact T_l1 43 24 q26 [42]<| T_nr 1 [4] [vu q] hQ h
  rw[if_neg c20]at h
  refine N_bd 32 (bne_iff_ne.mpr c20)<| T_ed 6 [32] [(38,.bool true)]<| T_tz 38<| T_srz 5<| T_n 1 [(39,vp (pa b))] ?_
  obtain⟨p,q27,h⟩:=h
  exact T_l1 40 24 q27 [39]<| T_nr 2 [4] [vu (iandnot .u64 p 7)] hQ h
 intro hk
 refine T_nu [(1,vs g d f),(2,vp (pa b)),(9,.bool (decide (x>0)))] ?_
 by_cases c4:x>0
 ·have b5:(decide (x>0))=true:=zX c4
  refine N_env [(1,vs g d f),(2,vp (pa b)),(9,.bool true)] (by rw[b5]) ?_
  refine T_nd 4 [9] [(13,.bool (decide ((d:Int)>0)))]<| zq<| S_bd 13 (b:=(decide ((d:Int)>0))) (v:=((decide (x>0)) && (decide ((d:Int)>0)))) (by simp only[b5,BL]) ?_
  exact hk
 have b5:(decide (x>0))=false:=zQ c4
 refine N_env [(1,vs g d f),(2,vp (pa b)),(9,.bool false)] (by rw[b5]) ?_
 refine T_nd 4 [9] [(13,.bool false)]<| zq<| S_bd 13 (b:=false) (v:=((decide (x>0)) && (decide ((d:Int)>0)))) (by simp only[b5,BL]) ?_
 exact hk
end morainelaw11_Word

/-! moraine/morainelaw11.words -/
namespace morainelaw11_words
def K0:=Func.code Tryz.f86
def K2:=cb K0
def K4:=cb K2
def K5:=ca K4
def K8:=cb K5
def K9:=ca K8
def K10:=ca K9
end morainelaw11_words
def morainelaw11_words.pt(lB:zW)(lN lC:Nat)(f:zW)(d g:Nat)(H:zV)(R:Value->zV->Prop):Prop:=
 ∃(o:zW->Nat->Nat->Int->zV->Prop) (m11:zW->Nat->Nat->Int->zV->Nat),o none 0 0 0 H/\ ∀(j:zW) (outN:Nat) (outC:Nat) (i:Int) (H1:zV),o j outN outC i H1->
 if((decide (i< (lN:Int))) && (decide (i<62)))=true then(
 ∃l:Addr,lB=some l/\
 ((0:Int)<=i/\i< (lN:Int))/\
 ∃xW n:Int,RowAt H1 (l.add (Int.toNat i*2)) 0 [.int .u64 xW,.int .i64 n]/\
 morainelaw11_Word.C xW n f d g H1 (λv H2=> ∃x:Int,v=.int .u64 x/\
 ∀(b:Nat) (H3:zV),b=H2.size->H3=H2.push (.cells #[.int .u64 x] 24)->
 appendK 1 24 8 [.int .u64 0] j outN outC (some (ad b)) 1 H3 (λap m H4=>
 (o ap (outN+1) m (zY (i+1)) H4/\m11 ap (outN+1) m (zY (i+1)) H4<m11 j outN outC i H1))))
 else
 R (.slice j outN outC) H1
namespace morainelaw11_words
set_option maxRecDepth 100000 in
theorem link{lB:zW}{lN lC:Nat}{f:zW}{d g:Nat}{H:zV}{R:Value->zV->Prop}(h:pt lB lN lC f d g H R):C lB lN lC f d g H R:=by
 refine T_en K0 27 Tryz.func86 ?_
 intro w0 Q hQ
 unfold pt zY at h
 refine T_su [(0,vs lB lN lC),(1,vs f d g)]<| T_srz 0<| T_ed 1 [] []<| T_srz 1<| T_ed 1 [] [(5,vs none 0 0)]<| T_sz<| T_srz 2<| T_ed 1 [] [(6,vi 0)]<| T_bz 0 ?_
 obtain⟨o,m11,i1,i2⟩:=h
 refine S_loop (x:=K10) (σ:=zW×Nat×Nat×Int) (λs_=> [(0,vs lB lN lC),(1,vs f d g),(5,vs s_.1 s_.2.1 s_.2.2.1),(6,vi s_.2.2.2)]) (λs_ H=>o s_.1 s_.2.1 s_.2.2.1 s_.2.2.2 H) (λs_ H=>m11 s_.1 s_.2.1 s_.2.2.1 s_.2.2.2 H) ((none,0,0,0):zW×Nat×Nat×Int) (by kernel_rfl) i1 sk ?_
 rintro⟨j,outN,outC,i⟩ H1 i3
 have h:=i2 j outN outC i H1 i3
 refine T_su [(0,vs lB lN lC),(1,vs f d g),(5,vs j outN outC),(6,vi i)]<| T_sz<| T_srz 3 ?_
 refine N_cut [(0,vs lB lN lC),(1,vs f d g),(5,vs j outN outC),(6,vi i),(14,.bool ((decide (i< (lN:Int))) && (decide (i<62))))] ?_ ?_
 ·refine S_then ?_
  by_cases c6:((decide (i< (lN:Int))) && (decide (i<62)))=true
  ·rw[if_pos c6]at h
   refine T_cTz 14 c6<| T_kt<| T_sz<| T_bz 1<| T_rz 5<| T_n 3 [(0,vs lB lN lC),(1,vs f d g),(6,vi i),(17,vs j outN outC),(18,vs lB lN lC),(19,vi i)] ?_
   obtain⟨l,rfl,h⟩:=h
   obtain⟨q8,h⟩:=h
   refine T_xd (some 20) 52 96 2 l lN lC .i64 i Tryz.underlying52 q8.1 q8.2 [0,18,19] [(0,vs (some l) lN lC),(20,vp (some (l.add (Int.toNat i*2))))] ?_
   obtain⟨xW,n,q9,h⟩:=h
   refine T_lr 21 96 q9 [20]<| T_nd 1 [] [(22,vs f d g)] ?_
   refine T_c (some 23) h ?_;clear h
   rintro v H2 ⟨x,rfl,h⟩
   refine T_pd [21,22] [(23,vu x)]<| T_nw (some 24) (λb=>vs (pa b) 1 1) (.cells #[vu x] 24) ?_
   intro b H3 e10 e11
   replace h:=h b H3 e10 e11
   refine T_pd [23] [(24,vs (pa b) 1 1)] ?_
   refine N_op (some 25) (appendN #[27,27] 27 #[vs j outN outC,vs (pa b) 1 1]) _ (λ_=>by kernel_rfl) (ss_append (T:=24) (sz:=1) (bytes:=8) (zero:=(vu 0:Value)) Tryz.underlying27 Tryz.underlying27 rfl (show Tryz.prog.info? 24=some Tryz.t24 from by kernel_rfl) (by kernel_rfl) (by kernel_rfl) (by decide) (by kernel_rfl) (by first | exact h | (simpa only[Value.cells,List.toList_toArray]using h))) ?_;clear h
   rintro _ H4 ⟨ap,m,rfl,h⟩
   exact T_pd [17,24] [(25,vs ap (outN+1) m)]<| T_nd 1 [25] [(5,vs ap (outN+1) m)]<| zq<| S_blockEnd<| S_then<| T_rz 4<| T_ed 3 [6] [(6,vi (zY (i+1)))]<| S_round ((ap,(outN+1),m,(zY (i+1))):zW×Nat×Nat×Int) sk h
  rw[if_neg c6]at h
  exact T_cFz 14 (zZ c6)<| zj 0<| S_exitThen<| S_exitThen<| S_exitHere<| S_then<| T_srz 6<| T_nr 2 [4] [vs j outN outC] hQ h
 intro hk
 refine T_n 5 [(0,vs lB lN lC),(1,vs f d g),(5,vs j outN outC),(6,vi i),(11,.bool (decide (i< (lN:Int))))] ?_
 by_cases c4:i< (lN:Int)
 ·have b5:(decide (i< (lN:Int)))=true:=zX c4
  refine N_env [(0,vs lB lN lC),(1,vs f d g),(5,vs j outN outC),(6,vi i),(11,.bool true)] (by rw[b5]) ?_
  refine T_nd 3 [11] [(14,.bool (decide (i<62)))]<| zq<| S_bd 14 (b:=(decide (i<62))) (v:=((decide (i< (lN:Int))) && (decide (i<62)))) (by simp only[b5,BL]) ?_
  exact hk
 have b5:(decide (i< (lN:Int)))=false:=zQ c4
 refine N_env [(0,vs lB lN lC),(1,vs f d g),(5,vs j outN outC),(6,vi i),(11,.bool false)] (by rw[b5]) ?_
 refine T_nd 3 [11] [(14,.bool false)]<| zq<| S_bd 14 (b:=false) (v:=((decide (i< (lN:Int))) && (decide (i<62)))) (by simp only[b5,BL]) ?_
 exact hk
end morainelaw11_words

/-! moraine/morainelaw11.kind -/
namespace morainelaw11_kind
def K0:=Func.code Tryz.f85
end morainelaw11_kind
def morainelaw11_kind.pt(nv:Int)(H:zV)(R:Value->zV->Prop):Prop:=
 ∀(b:Nat) (H1:zV),b=H.size->H1=H.push (.cells #[.int .i64 1,.int .i64 5,.int .i64 2] 3)->
 ((0:Int)<=(Int.tmod (iand .i64 nv 65535) 3)/\(Int.tmod (iand .i64 nv 65535) 3)< (3:Int))/\
 ∃x:Int,hat H1 ((ad b).add (Int.toNat (Int.tmod (iand .i64 nv 65535) 3)*1))=some (.int .i64 x)/\
 R (.int .i64 x) H1
namespace morainelaw11_kind
set_option maxRecDepth 100000 in
theorem link{nv:Int}{H:zV}{R:Value->zV->Prop}(h:pt nv H R):C nv H R:=by
 refine T_en K0 9 Tryz.func85 ?_
 intro w0 Q hQ
 unfold pt at h
 refine T_su [(0,vi nv)]<| T_srz 0<| T_ed 1 [] []<| T_srz 1<| T_nw (some 3) (λb=>vs (pa b) 3 3) (.cells #[vi 1,vi 5,vi 2] 3) ?_
 intro b H1 e1 e2
 replace h:=h b H1 e1 e2
 refine T_pd [] [(3,vs (pa b) 3 3)]<| T_nd 3 [0] [(6,vi (Int.tmod (iand .i64 nv 65535) 3))] ?_
 obtain⟨q3,h⟩:=h
 refine T_ix (some 7) 67 3 1 (ad b) 3 3 .i64 (Int.tmod (iand .i64 nv 65535) 3) Tryz.underlying67 q3.1 q3.2 [(7,vp (some ((ad b).add (Int.toNat (Int.tmod (iand .i64 nv 65535) 3)*1))))] ?_
 obtain⟨x,q4,h⟩:=h
 exact T_l1 8 3 q4 [7]<| T_nr 1 [2] [vi x] hQ h
end morainelaw11_kind

/-! moraine/morainelaw11.Set -/
namespace morainelaw11_Set
def K0:=Func.code Tryz.f87
end morainelaw11_Set
def morainelaw11_Set.pt(hv:zW)(wv nv v:Int)(H:zV)(R:Value->zV->Prop):Prop:=
 obj_Heap_Pair.C hv wv H (λag H1=> ∃x:Bool,ag=.bool x/\
 if(x && ((iand .i64 (iand .i64 nv 65535) 1)==0))=true then(
 obj_Heap_SetCar.C hv wv v H1 (λac H2=> ∃m:Int,ac=.int .i64 m/\
 R (.int .i64 m) H2))
 else
 obj_Heap_Pair.C hv wv H1 (λab H3=> ∃j:Bool,ab=.bool j/\
 if j=true then(
 obj_Heap_SetCdr.C hv wv v H3 (λu H4=> ∃n:Int,u=.int .i64 n/\
 R (.int .i64 n) H4))
 else
 obj_Heap_Type.C hv wv H3 (λz H5=> ∃g:Int,z=.int .i64 g/\
 if g=0 then(
 R (.int .i64 3) H5)
 else
 obj_Heap_Len.C hv wv H5 (λaf H6=> ∃i:Int,af=.int .i64 i/\
 if i=0 then(
 R (.int .i64 3) H6)
 else
 obj_Heap_Type.C hv wv H6 (λaa H7=> ∃f:Int,aa=.int .i64 f/\
 if f=2 then(
 R (.int .i64 3) H7)
 else
 obj_Heap_Type.C hv wv H7 (λae H8=> ∃l:Int,ae=.int .i64 l/\
 if l=10 then(
 R (.int .i64 3) H8)
 else
 obj_Heap_Type.C hv wv H8 (λq H9=> ∃b:Int,q=.int .i64 b/\
 obj_Heap_Len.C hv wv H9 (λo s=> ∃a:Int,o=.int .i64 a/\
 (a≠0)/\
 obj_Heap_Set.C hv wv b (Int.tmod (iand .i64 nv 65535) a) v s (λp r=> ∃d:Int,p=.int .i64 d/\
 R (.int .i64 d) r)))))))))
namespace morainelaw11_Set
set_option maxRecDepth 100000 in
theorem link{hv:zW}{wv nv v:Int}{H:zV}{R:Value->zV->Prop}(h:pt hv wv nv v H R):C hv wv nv v H R:=by
 refine T_en K0 67 Tryz.func87 ?_
 intro w0 Q hQ
 unfold pt at h
 refine T_su [(0,vp hv),(1,vu wv),(2,vi nv),(3,vu v)]<| T_srz 0<| T_ed 1 [] []<| T_srz 1<| T_ed 3 [2] [(2,vi (iand .i64 nv 65535))]<| T_sz<| T_bz 0<| T_srz 2<| T_nd 2 [] [(12,vp hv),(13,vu wv)] ?_
 refine T_c (some 14) h ?_;clear h
 rintro ag H1 ⟨x,rfl,h⟩
 refine T_pd [12,13] [(14,.bool x)]<| T_nd 1 [14] [(15,.bool x)] ?_
 refine N_cut [(0,vp hv),(1,vu wv),(2,vi (iand .i64 nv 65535)),(3,vu v),(11,.bool (x && ((iand .i64 (iand .i64 nv 65535) 1)==0)))] ?_ ?_
 ·refine S_then ?_
  by_cases c3:(x && ((iand .i64 (iand .i64 nv 65535) 1)==0))=true
  ·rw[if_pos c3]at h
   refine T_cTz 11 c3<| T_srz 3<| T_n 3 [(20,vp hv),(21,vu wv),(22,vu v)] ?_
   refine T_c (some 23) h ?_;clear h
   rintro ac H2 ⟨m,rfl,h⟩
   refine⟨[(23,vi m)],pk,?_⟩
   exact T_nr 1 [8] [vi m] hQ h
  rw[if_neg c3]at h
  refine T_cFz 11 (zZ c3)<| T_srz 4<| T_n 2 [(0,vp hv),(1,vu wv),(2,vi (iand .i64 nv 65535)),(3,vu v),(25,vp hv),(26,vu wv)] ?_
  refine T_c (some 27) h ?_;clear h
  rintro ab H3 ⟨j,rfl,h⟩
  refine T_pd [25,26] [(27,.bool j)]<| T_ed 1 [27] [(24,.bool j)] ?_
  by_cases c5:j=true
  ·rw[if_pos c5]at h
   refine T_cTz 24 c5<| T_srz 5<| T_n 3 [(28,vp hv),(29,vu wv),(30,vu v)] ?_
   refine T_c (some 31) h ?_;clear h
   rintro u H4 ⟨n,rfl,h⟩
   refine⟨[(31,vi n)],pk,?_⟩
   exact T_nr 1 [8] [vi n] hQ h
  rw[if_neg c5]at h
  refine T_cFz 24 (zZ c5)<| T_srz 6<| T_nd 2 [24] [(33,vp hv),(34,vu wv)] ?_
  refine T_c (some 35) h ?_;clear h
  rintro z H5 ⟨g,rfl,h⟩
  refine T_pd [33,34] [(35,vi g)]<| T_nd 2 [35] [(37,.bool (g==0))] ?_
  by_cases c7:g=0
  ·rw[if_pos c7]at h
   exact N_bd 37 (zK c7)<| T_ed 18 [37] [(32,.bool true)]<| T_tz 32<| T_srz 7<| T_nr 1 [8] [vi 3] hQ h
  rw[if_neg c7]at h
  refine N_bd 37 (zJ c7)<| T_nd 2 [] [(38,vp hv),(39,vu wv)] ?_
  refine T_c (some 40) h ?_;clear h
  rintro af H6 ⟨i,rfl,h⟩
  refine T_pd [38,39] [(40,vi i)]<| T_nd 3 [37,40] [(43,.bool (i==0))] ?_
  by_cases c9:i=0
  ·rw[if_pos c9]at h
   exact N_bd 43 (zK c9)<| T_ed 12 [43] [(32,.bool true)]<| T_tz 32<| T_srz 7<| T_nr 1 [8] [vi 3] hQ h
  rw[if_neg c9]at h
  refine N_bd 43 (zJ c9)<| T_nd 2 [] [(44,vp hv),(45,vu wv)] ?_
  refine T_c (some 46) h ?_;clear h
  rintro aa H7 ⟨f,rfl,h⟩
  refine T_pd [44,45] [(46,vi f)]<| T_nd 3 [43,46] [(49,.bool (f==2))] ?_
  by_cases c11:f=2
  ·rw[if_pos c11]at h
   exact N_bd 49 (zK c11)<| T_ed 6 [49] [(32,.bool true)]<| T_tz 32<| T_srz 7<| T_nr 1 [8] [vi 3] hQ h
  rw[if_neg c11]at h
  refine N_bd 49 (zJ c11)<| T_nd 2 [] [(50,vp hv),(51,vu wv)] ?_
  refine T_c (some 52) h ?_;clear h
  rintro ae H8 ⟨l,rfl,h⟩
  refine T_pd [50,51] [(52,vi l)]<| T_ed 3 [49,52] [(32,.bool (l==10))] ?_
  by_cases c13:l=10
  ·rw[if_pos c13]at h
   exact T_cTz 32 (zK c13)<| T_srz 7<| T_nr 1 [8] [vi 3] hQ h
  rw[if_neg c13]at h
  refine T_cFz 32 (zJ c13)<| T_k<| S_blockEnd<| S_then<| T_srz 8<| T_nd 4 [32] [(55,vp hv),(56,vu wv),(57,vp hv),(58,vu wv)] ?_
  refine T_c (some 59) h ?_;clear h
  rintro q H9 ⟨b,rfl,h⟩
  refine T_pd [57,58] [(59,vi b)]<| T_nd 3 [0,1,2] [(60,vi (iand .i64 nv 65535)),(61,vp hv),(62,vu wv)] ?_
  refine T_c (some 63) h ?_;clear h
  rintro o s ⟨a,rfl,h⟩
  refine T_pd [61,62] [(63,vi a)] ?_
  obtain⟨q15,h⟩:=h
  refine T_v1 64 (binN .rem 3 (vi (iand .i64 nv 65535)) (vi a)) (vi (Int.tmod (iand .i64 nv 65535) a)) (λw _=>rem_run (P:=Tryz.prog) (t:=3) (k:=.i64) (x:=(iand .i64 nv 65535)) (y:=a) q15 w) [60,63]<| T_nd 1 [3] [(65,vu v)] ?_
  refine T_c (some 66) h ?_;clear h
  rintro p r ⟨d,rfl,h⟩
  refine⟨[(66,vi d)],pk,?_⟩
  exact T_nr 1 [8] [vi d] hQ h
 intro hk
 refine T_nu [(0,vp hv),(1,vu wv),(2,vi (iand .i64 nv 65535)),(3,vu v),(15,.bool x)] ?_
 by_cases c1:x=true
 ·have b2:x=true:=c1
  refine N_env [(0,vp hv),(1,vu wv),(2,vi (iand .i64 nv 65535)),(3,vu v),(15,.bool true)] (by rw[b2]) ?_
  refine T_nd 5 [15] [(11,.bool ((iand .i64 (iand .i64 nv 65535) 1)==0))]<| zq<| S_bd 11 (b:=((iand .i64 (iand .i64 nv 65535) 1)==0)) (v:=(x && ((iand .i64 (iand .i64 nv 65535) 1)==0))) (by simp only[b2,BL]) ?_
  exact hk
 have b2:x=false:=zZ c1
 refine N_env [(0,vp hv),(1,vu wv),(2,vi (iand .i64 nv 65535)),(3,vu v),(15,.bool false)] (by rw[b2]) ?_
 refine T_nd 5 [15] [(11,.bool false)]<| zq<| S_bd 11 (b:=false) (v:=(x && ((iand .i64 (iand .i64 nv 65535) 1)==0))) (by simp only[b2,BL]) ?_
 exact hk
end morainelaw11_Set

/-! moraine/morainelaw11.Made -/
namespace morainelaw11_Made
def K0:=Func.code Tryz.f44
def K2:=cb K0
def K3:=ca K2
def K4:=cb K2
def K6:=cb K4
def K8:=cb K6
def K9:=ca K8
def K12:=cb K9
def K13:=ca K12
def K15:=cb K13
def K17:=cb K15
def K27:=cb K17
def K29:=cb K27
def K31:=cb K29
def K32:=ca K31
end morainelaw11_Made
def morainelaw11_Made.pt(hv:zW)(ay z xN a0 ag ax af:Int)(az:zW)(aw a1:Nat)(d:zW)(a f:Nat)(H:zV)(R:Value->zV->Prop):Prop:=
 ∀(b:Nat) (H1:zV),b=H.size->H1=H.push (.cells #[.int .i64 ay,.int .i64 z,.int .i64 xN,.int .u64 a0,.int .i64 ag,.int .u64 ax,.int .i64 af,.slice az aw a1] 98)->
 ∃xW s:Int,RowAt H1 ((ad b).add 3) 0 [.int .u64 xW,.int .i64 s]/\
 ∃p l:Int,RowAt H1 ((ad b).add 5) 0 [.int .u64 p,.int .i64 l]/\
 morainelaw11_Word.C xW s d a f H1 (λv H2=> ∃x:Int,v=.int .u64 x/\RowAt H2 ((ad b).add 5) 0 [.int .u64 p,.int .i64 l]/\
 morainelaw11_Word.C p l d a f H2 (λbh H3=> ∃i:Int,bh=.int .u64 i/\
 ∃g:Int,hat H3 (ad b)=some (.int .i64 g)/\
 if g=0 then(
 obj_Heap_Cons.C hv x i H3 (λbc H4=> ∃ra rb:Int,bc=.tuple #[.int .u64 ra,.int .i64 rb]/\
 if rb=0 then(
 ∀(au:Nat) (H5:zV),au=H4.size->H5=H4.push (.cells #[.int .u64 ra] 24)->
 appendK 1 24 8 [.int .u64 0] d a f (some (ad au)) 1 H5 (λap an H6=>
 R (.slice ap (a+1) an) H6))
 else
 R (.slice d a f) H4))
 else
 if g=1 then(
 obj_Heap_Weak.C hv x i H3 (λbb H7=> ∃n q:Int,bb=.tuple #[.int .u64 n,.int .i64 q]/\
 if q=0 then(
 ∀(ao:Nat) (H8:zV),ao=H7.size->H8=H7.push (.cells #[.int .u64 n] 24)->
 appendK 1 24 8 [.int .u64 0] d a f (some (ad ao)) 1 H8 (λac t H9=>
 R (.slice ac (a+1) t) H9))
 else
 R (.slice d a f) H7))
 else
 if g=2 then(
 ∃aa:Int,hat H3 ((ad b).add 1)=some (.int .i64 aa)/\
 ∃(xB:zW) (o xC:Nat),hat H3 ((ad b).add 7)=some (.slice xB o xC)/\
 morainelaw11_kind.C aa H3 (λa7 a4=> ∃av:Int,a7=.int .i64 av/\RowAt a4 ((ad b).add 7) 0 [.slice xB o xC]/\
 morainelaw11_words.C xB o xC d a f a4 (λa8 a5=> ∃(ak:zW) (ah ai:Nat),a8=.slice ak ah ai/\
 obj_Heap_Make.C hv av 0 ak ah ai a5 (λbg a2=> ∃j k:Int,bg=.tuple #[.int .u64 j,.int .i64 k]/\
 if k=0 then(
 ∀(aq:Nat) (H13:zV),aq=a2.size->H13=a2.push (.cells #[.int .u64 j] 24)->
 appendK 1 24 8 [.int .u64 0] d a f (some (ad aq)) 1 H13 (λae y bf=>
 R (.slice ae (a+1) y) bf))
 else
 R (.slice d a f) a2))))
 else
 if g=3 then(
 ∃aj:Int,hat H3 ((ad b).add 2)=some (.int .i64 aj)/\
 morainelaw11_Set.C hv x aj i H3 (λba a6=> ∃a9:Int,ba=.int .i64 a9/\
 R (.slice d a f) a6))
 else
 if g=4 then(
 ∀(al:Nat) (H16:zV),al=H3.size->H16=H3.push (.cells #[.int .u64 20,.int .u64 20] 24)->
 obj_Heap_Make.C hv 10 0 (some (ad al)) 2 2 H16 (λbe a3=> ∃m r:Int,be=.tuple #[.int .u64 m,.int .i64 r]/\
 if r=0 then(
 ∀(am:Nat) (H18:zV),am=a3.size->H18=a3.push (.cells #[.int .u64 m] 24)->
 appendK 1 24 8 [.int .u64 0] d a f (some (ad am)) 1 H18 (λab u bd=>
 R (.slice ab (a+1) u) bd))
 else
 R (.slice d a f) a3))
 else
 R (.slice d a f) H3))
namespace morainelaw11_Made
set_option maxRecDepth 100000 in
theorem link{hv:zW}{ay z xN a0 ag ax af:Int}{az:zW}{aw a1:Nat}{d:zW}{a f:Nat}{H:zV}{R:Value->zV->Prop}(h:pt hv ay z xN a0 ag ax af az aw a1 d a f H R):C hv ay z xN a0 ag ax af az aw a1 d a f H R:=by
 refine T_en K0 76 Tryz.func44 ?_
 intro w0 Q hQ
 unfold pt at h
 refine T_su [(0,vp hv),(1,.agg #[vi ay,vi z,vi xN,vu a0,vi ag,vu ax,vi af,vs az aw a1]),(2,vs d a f)]<| T_srz 0<| T_nw (some 4) (λb=>vp (pa b)) (.cells #[vi ay,vi z,vi xN,vu a0,vi ag,vu ax,vi af,vs az aw a1] 98) ?_
 intro b H1 e1 e2
 replace h:=h b H1 e1 e2
 refine T_pd [1] [(4,vp (pa b))]<| T_ed 1 [] []<| T_sz ?_
 obtain⟨xW,s,q3,h⟩:=h
 obtain⟨p,l,q4,h⟩:=h
 refine S_regionG 1 (Code.ops K3) [(3,((ad b).add 3),[vu xW,vi s]),(7,((ad b).add 5),[vu p,vi l])] 10 (bv 10 0) (by kernel_rfl) (by kernel_rfl) (by kernel_rfl) (by kernel_rfl) (by kernel_rfl) (show FactsAt _ _ _ from⟨q3,q4,trivial⟩)<| T_gp 0 (some 11) (vp (some ((ad b).add 3))) (bv 10 1) [(0,vp hv),(2,vs d a f),(4,vp (pa b)),(11,vp (some ((ad b).add 3)))]<| T_g1 1 12 (.agg #[vu xW,vi s]) (bv 10 3) [11] (loadN 96 (vp (some ((ad b).add 3)))) (held_row 3 (λ_=>by kernel_rfl) (λ_=>by kernel_rfl) (List.Mem.head _) (.inl (by kernel_rfl)))<| T_gp1 2 13 (vs d a f) (bv 10 7) []<| T_gp1 4 15 (vp (some ((ad b).add 5))) (bv 10 23) []<| T_g1 5 16 (.agg #[vu p,vi l]) (bv 10 55) [15] (loadN 96 (vp (some ((ad b).add 5)))) (held_row 7 (λ_=>by kernel_rfl) (λ_=>by kernel_rfl) (List.Mem.tail _ (List.Mem.head _)) (.inl (by kernel_rfl)))<| T_gp1 6 17 (vs d a f) (bv 10 119) [] ?_
 refine G_call 3 (some 14) (bv 10 127) 82 #[.agg #[vu xW,vi s],vs d a f] (by kernel_rfl) (λ_=>by kernel_rfl) h (by kernel_rfl) ?_;clear h
 rintro v H2 ⟨x,rfl,h⟩
 obtain⟨f5,h⟩:=h
 refine⟨[(0,vp hv),(2,vs d a f),(4,vp (pa b)),(14,vu x),(16,.agg #[vu p,vi l]),(17,vs d a f)],pk,(show FactsAt _ _ _ from⟨trivial,f5,trivial⟩),?_⟩
 refine G_call 7 (some 18) (bv 10 255) 82 #[.agg #[vu p,vi l],vs d a f] (by kernel_rfl) (λ_=>by kernel_rfl) h (by kernel_rfl) ?_;clear h
 rintro bh H3 ⟨i,rfl,h⟩
 refine⟨[(0,vp hv),(2,vs d a f),(4,vp (pa b)),(14,vu x),(18,vu i)],pk,(show FactsAt _ _ _ from⟨trivial,trivial,trivial⟩),?_⟩
 refine T_g 8 (some 7) (vu x) (bv 10 511) [(0,vp hv),(2,vs d a f),(4,vp (pa b)),(7,vu x),(18,vu i)] (pure (.value (vu x)):Sem Next) (λ_ _ _ _ _=>rfl)<| T_g1 9 8 (vu i) (bv 10 1023) [18] (pure (.value (vu i)):Sem Next) (λ_ _ _ _ _=>rfl)<| G_sub [(0,vp hv),(2,vs d a f),(4,vp (pa b)),(7,vu x),(8,vu i)] sk<| G_end (by kernel_rfl)<| S_then<| T_srz 2<| T_ne 1 [(0,vp hv),(2,vs d a f),(4,vp (pa b)),(7,vu x),(8,vu i),(9,vu 0)]<| T_srz 3<| T_ed 1 [] [(10,vi 1)]<| T_sz<| T_srz 4<| T_nd 1 [] [(19,vp (pa b))] ?_
 obtain⟨g,q6,h⟩:=h
 refine T_l1 20 3 q6 [19]<| T_e<| T_bz 0<| T_srz 5<| T_ed 2 [] [(21,.bool (g==0))] ?_
 by_cases c7:g=0
 ·rw[if_pos c7]at h
  refine T_cTz 21 (zK c7)<| T_rz 6<| T_n 3 [(2,vs d a f),(24,vp hv),(25,vu x),(26,vu i)] ?_
  refine T_c (some 27) h ?_;clear h
  rintro bc H4 ⟨ra,rb,rfl,h⟩
  refine⟨[(2,vs d a f),(27,.tuple #[vu ra,vi rb])],pk,?_⟩
  refine T_nd 5 [27] [(9,vu ra),(10,vi rb)]<| zq<| S_blockEnd<| S_then<| T_sz<| T_srz 15<| T_ed 2 [10] [(70,.bool (rb==0))] ?_
  by_cases c9:rb=0
  ·rw[if_pos c9]at h
   refine T_cTz 70 (zK c9)<| T_rz 16<| T_n 2 [(71,vs d a f),(72,vu ra)]<| T_nw (some 73) (λb=>vs (pa b) 1 1) (.cells #[vu ra] 24) ?_
   intro au H5 e11 e12
   replace h:=h au H5 e11 e12
   refine T_pd [72] [(73,vs (pa au) 1 1)] ?_
   refine N_op (some 74) (appendN #[27,27] 27 #[vs d a f,vs (pa au) 1 1]) _ (λ_=>by kernel_rfl) (ss_append (T:=24) (sz:=1) (bytes:=8) (zero:=(vu 0:Value)) Tryz.underlying27 Tryz.underlying27 rfl (show Tryz.prog.info? 24=some Tryz.t24 from by kernel_rfl) (by kernel_rfl) (by kernel_rfl) (by decide) (by kernel_rfl) (by first | exact h | (simpa only[Value.cells,List.toList_toArray]using h))) ?_;clear h
   rintro _ H6 ⟨ap,an,rfl,h⟩
   refine⟨[(74,vs ap (a+1) an)],pk,?_⟩
   exact T_ne 1 [(2,vs ap (a+1) an)]<| T_srz 17<| T_nr 2 [6] [vs ap (a+1) an] hQ h
  rw[if_neg c9]at h
  exact T_cFz 70 (zJ c9)<| T_kt<| T_srz 17<| T_nr 2 [6] [vs d a f] hQ h
 rw[if_neg c7]at h
 refine T_cFz 21 (zJ c7)<| T_srz 7<| T_ed 2 [21] [(30,.bool (g==1))] ?_
 by_cases c13:g=1
 ·rw[if_pos c13]at h
  refine T_cTz 30 (zK c13)<| T_rz 8<| T_n 3 [(2,vs d a f),(33,vp hv),(34,vu x),(35,vu i)] ?_
  refine T_c (some 36) h ?_;clear h
  rintro bb H7 ⟨n,q,rfl,h⟩
  refine⟨[(2,vs d a f),(36,.tuple #[vu n,vi q])],pk,?_⟩
  refine T_nd 5 [36] [(9,vu n),(10,vi q)]<| zq<| S_blockEnd<| S_then<| T_sz<| T_srz 15<| T_ed 2 [10] [(70,.bool (q==0))] ?_
  by_cases c15:q=0
  ·rw[if_pos c15]at h
   refine T_cTz 70 (zK c15)<| T_rz 16<| T_n 2 [(71,vs d a f),(72,vu n)]<| T_nw (some 73) (λb=>vs (pa b) 1 1) (.cells #[vu n] 24) ?_
   intro ao H8 e17 e18
   replace h:=h ao H8 e17 e18
   refine T_pd [72] [(73,vs (pa ao) 1 1)] ?_
   refine N_op (some 74) (appendN #[27,27] 27 #[vs d a f,vs (pa ao) 1 1]) _ (λ_=>by kernel_rfl) (ss_append (T:=24) (sz:=1) (bytes:=8) (zero:=(vu 0:Value)) Tryz.underlying27 Tryz.underlying27 rfl (show Tryz.prog.info? 24=some Tryz.t24 from by kernel_rfl) (by kernel_rfl) (by kernel_rfl) (by decide) (by kernel_rfl) (by first | exact h | (simpa only[Value.cells,List.toList_toArray]using h))) ?_;clear h
   rintro _ H9 ⟨ac,t,rfl,h⟩
   refine⟨[(74,vs ac (a+1) t)],pk,?_⟩
   exact T_ne 1 [(2,vs ac (a+1) t)]<| T_srz 17<| T_nr 2 [6] [vs ac (a+1) t] hQ h
  rw[if_neg c15]at h
  exact T_cFz 70 (zJ c15)<| T_kt<| T_srz 17<| T_nr 2 [6] [vs d a f] hQ h
 rw[if_neg c13]at h
 refine T_cFz 30 (zJ c13)<| T_srz 9<| T_ed 2 [30] [(39,.bool (g==2))] ?_
 by_cases c19:g=2
 ·rw[if_pos c19]at h
  refine T_cTz 39 (zK c19) ?_
  obtain⟨aa,q21,h⟩:=h
  obtain⟨xB,o,xC,q22,h⟩:=h
  refine S_regionG 10 (Code.ops K32) [(3,((ad b).add 1),[vi aa]),(7,((ad b).add 7),[vs xB o xC])] 14 (bv 14 0) (by kernel_rfl) (by kernel_rfl) (by kernel_rfl) (by kernel_rfl) (by kernel_rfl) (show FactsAt _ _ _ from⟨⟨q21,trivial⟩,⟨q22,trivial⟩,trivial⟩)<| T_gp 0 (some 42) (vp hv) (bv 14 1) [(2,vs d a f),(4,vp (pa b)),(9,vu 0),(10,vi 1),(42,vp hv)]<| T_gp1 1 43 (vp (some ((ad b).add 1))) (bv 14 3) []<| T_g1 2 44 (vi aa) (bv 14 7) [43] (loadN 3 (vp (some ((ad b).add 1)))) (held_one 3 (λ_=>by kernel_rfl) (List.Mem.head _) (.inl (by kernel_rfl)))<| T_gp1 4 46 (vp (some ((ad b).add 7))) (bv 14 23) [4]<| T_g1 5 47 (vs xB o xC) (bv 14 55) [46] (loadN 52 (vp (some ((ad b).add 7)))) (held_one 7 (λ_=>by kernel_rfl) (List.Mem.tail _ (List.Mem.head _)) (.inl (by kernel_rfl)))<| T_gp1 6 48 (vs d a f) (bv 14 119) [] ?_
  refine G_call 3 (some 45) (bv 14 127) 85 #[vi aa] (by kernel_rfl) (λ_=>by kernel_rfl) h (by kernel_rfl) ?_;clear h
  rintro a7 a4 ⟨av,rfl,h⟩
  obtain⟨f23,h⟩:=h
  refine⟨[(2,vs d a f),(9,vu 0),(10,vi 1),(42,vp hv),(45,vi av),(47,vs xB o xC),(48,vs d a f)],pk,(show FactsAt _ _ _ from⟨trivial,f23,trivial⟩),?_⟩
  refine G_call 7 (some 49) (bv 14 255) 86 #[vs xB o xC,vs d a f] (by kernel_rfl) (λ_=>by kernel_rfl) h (by kernel_rfl) ?_;clear h
  rintro a8 a5 ⟨ak,ah,ai,rfl,h⟩
  refine⟨[(2,vs d a f),(9,vu 0),(10,vi 1),(42,vp hv),(45,vi av),(49,vs ak ah ai)],pk,(show FactsAt _ _ _ from⟨trivial,trivial,trivial⟩),?_⟩
  refine G_call 8 (some 50) (bv 14 511) 84 #[vp hv,vi av,vu 0,vs ak ah ai] (by kernel_rfl) (λ_=>by kernel_rfl) h (by kernel_rfl) ?_;clear h
  rintro bg a2 ⟨j,k,rfl,h⟩
  refine⟨[(2,vs d a f),(9,vu 0),(10,vi 1),(50,.tuple #[vu j,vi k])],pk,(show FactsAt _ _ _ from⟨trivial,trivial,trivial⟩),?_⟩
  refine T_g 9 (some 41) (.tuple #[vu j,vi k]) (bv 14 1023) [(2,vs d a f),(9,vu 0),(10,vi 1),(41,.tuple #[vu j,vi k])] (pure (.value (.tuple #[vu j,vi k])):Sem Next) (λ_ _ _ _ _=>rfl)<| T_g1 10 51 (vu j) (bv 14 2047) [] (pure (.value (vu j)):Sem Next) (λ_ _ _ _ _=>rfl)<| T_g1 11 52 (vi k) (bv 14 4095) [41] (pure (.value (vi k)):Sem Next) (λ_ _ _ _ _=>rfl)<| T_g1 12 9 (vu j) (bv 14 8191) [9,51] (pure (.value (vu j)):Sem Next) (λ_ _ _ _ _=>rfl)<| T_g1 13 10 (vi k) (bv 14 16383) [10,52] (pure (.value (vi k)):Sem Next) (λ_ _ _ _ _=>rfl)<| G_sub [(2,vs d a f),(9,vu j),(10,vi k)] sk<| G_end (by kernel_rfl)<| S_blockEnd<| S_then<| T_sz<| T_srz 15<| T_ne 2 [(2,vs d a f),(9,vu j),(70,.bool (k==0))] ?_
  by_cases c24:k=0
  ·rw[if_pos c24]at h
   refine T_cTz 70 (zK c24)<| T_rz 16<| T_n 2 [(71,vs d a f),(72,vu j)]<| T_nw (some 73) (λb=>vs (pa b) 1 1) (.cells #[vu j] 24) ?_
   intro aq H13 e26 e27
   replace h:=h aq H13 e26 e27
   refine T_pd [72] [(73,vs (pa aq) 1 1)] ?_
   refine N_op (some 74) (appendN #[27,27] 27 #[vs d a f,vs (pa aq) 1 1]) _ (λ_=>by kernel_rfl) (ss_append (T:=24) (sz:=1) (bytes:=8) (zero:=(vu 0:Value)) Tryz.underlying27 Tryz.underlying27 rfl (show Tryz.prog.info? 24=some Tryz.t24 from by kernel_rfl) (by kernel_rfl) (by kernel_rfl) (by decide) (by kernel_rfl) (by first | exact h | (simpa only[Value.cells,List.toList_toArray]using h))) ?_;clear h
   rintro _ bf ⟨ae,y,rfl,h⟩
   refine⟨[(74,vs ae (a+1) y)],pk,?_⟩
   exact T_ne 1 [(2,vs ae (a+1) y)]<| T_srz 17<| T_nr 2 [6] [vs ae (a+1) y] hQ h
  rw[if_neg c24]at h
  exact T_cFz 70 (zJ c24)<| T_kt<| T_srz 17<| T_nr 2 [6] [vs d a f] hQ h
 rw[if_neg c19]at h
 refine T_cFz 39 (zJ c19)<| T_srz 11<| T_ed 2 [39] [(53,.bool (g==3))] ?_
 by_cases c28:g=3
 ·rw[if_pos c28]at h
  refine T_cTz 53 (zK c28)<| T_rz 12<| T_nd 3 [0,4,7,20,53] [(55,vp hv),(56,vu x),(57,vp (some ((ad b).add 2)))] ?_
  obtain⟨aj,q30,h⟩:=h
  refine T_l1 58 3 q30 [57]<| T_nd 1 [8] [(59,vu i)] ?_
  refine T_c (some 60) h ?_;clear h
  rintro ba a6 ⟨a9,rfl,h⟩
  exact T_pd [55,56,58,59] []<| zq<| S_blockEnd<| S_then<| T_sz<| T_srz 15<| T_ed 2 [10] [(70,.bool false)]<| T_fz 70<| T_kt<| T_srz 17<| T_nr 2 [6] [vs d a f] hQ h
 rw[if_neg c28]at h
 refine T_cFz 53 (zJ c28)<| T_srz 13<| T_ed 2 [4,7,8,20,53] [(61,.bool (g==4))] ?_
 by_cases c31:g=4
 ·rw[if_pos c31]at h
  refine T_cTz 61 (zK c31)<| T_rz 14<| T_n 1 [(2,vs d a f),(64,vp hv)]<| T_nw (some 65) (λb=>vs (pa b) 2 2) (.cells #[vu 20,vu 20] 24) ?_
  intro al H16 e33 e34
  replace h:=h al H16 e33 e34
  refine T_pd [] [(65,vs (pa al) 2 2)] ?_
  refine T_c (some 66) h ?_;clear h
  rintro be a3 ⟨m,r,rfl,h⟩
  refine T_pd [64,65] [(66,.tuple #[vu m,vi r])]<| T_nd 5 [66] [(9,vu m),(10,vi r)]<| zq<| S_blockEnd<| S_then<| T_sz<| T_srz 15<| T_ed 2 [10] [(70,.bool (r==0))] ?_
  by_cases c35:r=0
  ·rw[if_pos c35]at h
   refine T_cTz 70 (zK c35)<| T_rz 16<| T_n 2 [(71,vs d a f),(72,vu m)]<| T_nw (some 73) (λb=>vs (pa b) 1 1) (.cells #[vu m] 24) ?_
   intro am H18 e37 e38
   replace h:=h am H18 e37 e38
   refine T_pd [72] [(73,vs (pa am) 1 1)] ?_
   refine N_op (some 74) (appendN #[27,27] 27 #[vs d a f,vs (pa am) 1 1]) _ (λ_=>by kernel_rfl) (ss_append (T:=24) (sz:=1) (bytes:=8) (zero:=(vu 0:Value)) Tryz.underlying27 Tryz.underlying27 rfl (show Tryz.prog.info? 24=some Tryz.t24 from by kernel_rfl) (by kernel_rfl) (by kernel_rfl) (by decide) (by kernel_rfl) (by first | exact h | (simpa only[Value.cells,List.toList_toArray]using h))) ?_;clear h
   rintro _ bd ⟨ab,u,rfl,h⟩
   refine⟨[(74,vs ab (a+1) u)],pk,?_⟩
   exact T_ne 1 [(2,vs ab (a+1) u)]<| T_srz 17<| T_nr 2 [6] [vs ab (a+1) u] hQ h
  rw[if_neg c35]at h
  exact T_cFz 70 (zJ c35)<| T_kt<| T_srz 17<| T_nr 2 [6] [vs d a f] hQ h
 rw[if_neg c31]at h
 exact T_cFz 61 (zJ c31)<| T_k<| S_blockEnd<| S_then<| T_sz<| T_srz 15<| T_ed 2 [0,10,61] [(70,.bool false)]<| T_fz 70<| T_kt<| T_srz 17<| T_nr 2 [6] [vs d a f] hQ h
end morainelaw11_Made

/-! moraine/gc.Need -/
namespace gc_Collect
def K0:=Func.code Tryz.f9
def K2:=cb K0
def K4:=cb K2
def K12:=cb K4
def K14:=cb K12
def K20:=cb K14
def K21:=ca K20
def K24:=cb K21
def K25:=ca K24
def K26:=ca K25
end gc_Collect
def gc_Collect.pt(hv:zW)(g o:Int)(l:zW)(b d:Nat)(H:zV)(R:Value->zV->Prop):Prop:=
 onPtr hv (
 R (.int .i64 1) H) (λj=>
 gc_more.C (some j) H (λv H1=> ∃x:Int,v=.int .i64 x/\
 trace_Start.C (some j) g o x H1 (λap H2=> ∃(ra:zW) (rb:Int),ap=.tuple #[.pointer ra,.int .i64 rb]/\
 if rb=0 then(
 ∃(ag:Int->zV->Prop) (m27:Int->zV->Nat),ag 0 H2/\ ∀(n:Int) (H3:zV),ag n H3->
 if n< (b:Int)then(
 ∃m:Addr,l=some m/\
 ((0:Int)<=n/\n< (b:Int))/\
 ∃aa:zW,hat H3 (m.add (Int.toNat n*1))=some (.pointer aa)/\
 onPtr aa (
 (ag (zY (n+1)) H3/\m27 (zY (n+1)) H3<m27 n H3)) (λp=>
 ∃ah:Int,hat H3 p=some (.int .u64 ah)/\
 trace_Trace_Visit.C ra ah H3 (λao H4=> ∃af:Int,ao=.int .u64 af/\
 (CanPuts H4 p 0 1)/\ ∀H5,H5=hputs H4 p [.int .u64 af] 0->
 (ag (zY (n+1)) H5/\m27 (zY (n+1)) H5<m27 n H3))))
 else
 trace_Trace_Cards.C ra H3 (λ_ H6=>
 trace_Trace_Drain.C ra H6 (λ_ H7=>
 ∃(xB:zW) (xN xC:Nat),hat H7 (j.add 2)=some (.slice xB xN xC)/\
 weak_Guards.C ra xB xN xC H7 (λam H8=> ∃(z:zW) (s r:Nat),am=.slice z s r/\
 (CanPuts H8 (j.add 2) 0 1)/\ ∀H9,H9=hputs H8 (j.add 2) [.slice z s r] 0->
 weak_Breaks.C ra H9 (λ_ ak=>
 ∃(ac:zW) (ab ae:Nat),hat ak (j.add 1)=some (.slice ac ab ae)/\
 weak_Prune.C ra ac ab ae ak (λan ai=> ∃(y:zW) (q u:Nat),an=.slice y q u/\
 (CanPuts ai (j.add 1) 0 1)/\ ∀aj,aj=hputs ai (j.add 1) [.slice y q u] 0->
 trace_Trace_End.CD ra aj (λal=>
 R (.int .i64 0) al)))))))
 else
 R (.int .i64 rb) H2)))
namespace gc_Collect
theorem link{hv:zW}{g o:Int}{l:zW}{b d:Nat}{H:zV}{R:Value->zV->Prop}(h:pt hv g o l b d H R):C hv g o l b d H R:=by
 refine T_en K0 68 Tryz.func9 ?_
 intro w0 Q hQ
 unfold pt zY at h
 refine T_su [(0,vp hv),(1,vi g),(2,vi o),(3,vs l b d)]<| T_srz 0<| T_ed 1 [] []<| T_sz<| T_srz 1<| T_nd 1 [] [(13,vp hv)] ?_
 rcases hv with _ | j
 ·rw[onPtr_none]at h
  exact T_ed 1 [0,13] [(0,vp none),(14,.bool true)]<| T_tz 14<| T_srz 2<| T_nr 1 [8] [vi 1] hQ h
 rw[onPtr_some]at h
 refine T_ed 1 [0,13] [(0,vp (some j)),(14,.bool false)]<| T_fz 14<| T_kt<| T_srz 3<| T_nd 4 [1,2,14] [(16,vp (some j)),(17,vi g),(18,vi o),(19,vp (some j))] ?_
 refine T_c (some 20) h ?_;clear h
 rintro v H1 ⟨x,rfl,h⟩
 refine T_pd [19] [(20,vi x)] ?_
 refine T_c (some 21) h ?_;clear h
 rintro ap H2 ⟨ra,rb,rfl,h⟩
 refine T_pd [16,17,18,20] [(21,.tuple #[vp ra,vi rb])]<| T_ed 5 [21] [(9,vp ra),(10,vi rb)]<| T_sz<| T_srz 4<| T_ed 2 [] [(25,.bool (rb !=0))] ?_
 by_cases c1:rb=0
 ·rw[if_pos c1]at h
  refine T_cFz 25 (bne_eq_false_iff_eq.mpr c1)<| T_kt<| T_srz 6<| T_nd 1 [10,25] [(27,vp ra)]<| N_defer none 28 #[vp ra] (λ_=>by kernel_rfl) [(0,vp (some j)),(3,vs l b d),(9,vp ra)] pk<| T_e<| T_sz<| T_srz 7<| T_ne 3 [(0,vp (some j)),(9,vp ra),(28,vs l b d),(29,vi b),(30,vi 0)]<| T_bz 0 ?_
  obtain⟨ag,m27,i3,i4⟩:=h
  refine S_loop (x:=K26) (σ:=Int) (λs_=> [(0,vp (some j)),(9,vp ra),(28,vs l b d),(29,vi b),(30,vi s_)]) (λs_ H=>ag s_ H) (λs_ H=>m27 s_ H) (0:Int) (by kernel_rfl) i3 sk ?_
  rintro n H3 i5
  have h:=i4 n H3 i5
  refine T_su [(0,vp (some j)),(9,vp ra),(28,vs l b d),(29,vi b),(30,vi n)]<| T_srz 8<| T_ed 1 [] [(31,.bool (decide (n< (b:Int))))]<| T_sz ?_
  by_cases c6:n< (b:Int)
  ·rw[if_pos c6]at h
   refine T_cTz 31 (zX c6)<| T_kt<| T_sz<| T_bz 1<| T_srz 9<| T_ud [31] [] ?_
   obtain⟨m,rfl,h⟩:=h
   obtain⟨q8,h⟩:=h
   refine T_xd (some 32) 57 33 1 m b d .i64 n Tryz.underlying57 q8.1 q8.2 [28] [(28,vs (some m) b d),(32,vp (some (m.add (Int.toNat n*1))))] ?_
   obtain⟨aa,q9,h⟩:=h
   refine T_l1 33 33 q9 [32]<| T_ed 1 [33] [(12,vp aa)]<| T_srz 10<| T_nd 1 [] [(34,vp aa)] ?_
   rcases aa with _ | p
   ·rw[onPtr_none]at h
    exact T_ed 1 [12,34] [(12,vp none),(35,.bool false)]<| T_fz 35<| T_k<| S_blockEnd<| S_then<| T_rz 12<| T_ed 2 [12,30,35] [(30,vi (zY (n+1)))]<| S_round ((zY (n+1)):Int) sk h
   rw[onPtr_some]at h
   refine T_ed 1 [12,34] [(12,vp (some p)),(35,.bool true)]<| T_tz 35<| T_rz 11<| T_nd 4 [12,35] [(36,vp (some p)),(37,vp ra),(39,vp (some p))] ?_
   obtain⟨ah,q10,h⟩:=h
   refine T_l1 40 24 q10 [39] ?_
   refine T_c (some 41) h ?_;clear h
   rintro ao H4 ⟨af,rfl,h⟩
   refine T_pd [37,40] [(41,vu af)]<| T_nd 1 [36] [(42,vp (some p))] ?_
   obtain⟨q12,h⟩:=h
   refine T_st1 24 (vu af) q12 ?_
   intro H5 e11
   replace h:=h H5 e11
   exact T_pd [41,42] []<| zq<| S_blockEnd<| S_then<| T_rz 12<| T_ed 2 [30] [(30,vi (zY (n+1)))]<| S_round ((zY (n+1)):Int) sk h
  rw[if_neg c6]at h
  refine T_cFz 31 (zQ c6)<| zj 0<| S_exitThen<| S_exitThen<| S_exitHere<| S_then<| T_srz 13<| T_nd 1 [28,29,30,31] [(44,vp ra)] ?_
  refine T_c (some 45) h ?_;clear h
  intro v_4 H6 h
  refine T_pd [44] []<| T_e<| T_srz 14<| T_nd 1 [] [(46,vp ra)] ?_
  refine T_c (some 47) h ?_;clear h
  intro v_5 H7 h
  refine T_pd [46] []<| T_e<| T_srz 15<| T_nd 5 [] [(48,vp (some j)),(49,vp ra),(52,vp (some (j.add 2)))] ?_
  obtain⟨xB,xN,xC,q13,h⟩:=h
  refine T_l1 53 28 q13 [52] ?_
  refine T_c (some 54) h ?_;clear h
  rintro am H8 ⟨z,s,r,rfl,h⟩
  refine T_pd [49,53] [(54,vs z s r)]<| T_nd 2 [48] [(56,vp (some (j.add 2)))] ?_
  obtain⟨q15,h⟩:=h
  refine T_st1 28 (vs z s r) q15 ?_
  intro H9 e14
  replace h:=h H9 e14
  refine T_pd [54,56] []<| T_e<| T_srz 16<| T_nd 1 [] [(57,vp ra)] ?_
  refine T_c (some 58) h ?_;clear h
  intro v_7 ak h
  refine T_pd [57] []<| T_e<| T_srz 17<| T_n 5 [(59,vp (some j)),(60,vp ra),(63,vp (some (j.add 1)))] ?_
  obtain⟨ac,ab,ae,q16,h⟩:=h
  refine T_l1 64 27 q16 [63] ?_
  refine T_c (some 65) h ?_;clear h
  rintro an ai ⟨y,q,u,rfl,h⟩
  refine T_pd [60,64] [(65,vs y q u)]<| T_nd 2 [59] [(67,vp (some (j.add 1)))] ?_
  obtain⟨q18,h⟩:=h
  refine T_st1 27 (vs y q u) q18 ?_
  intro aj e17
  replace h:=h aj e17
  refine⟨[],pk,?_⟩
  refine T_e<| T_srz 18<| T_ne 1 [(8,vi 0)]<| zx ?_
  show At _ _ _ _ _ (Q .ret)
  refine S_doneD (f:=28) (args:= #[vp ra]) (enters_of Tryz.func28 (by kernel_rfl) rfl) hQ (HD.mono (h) (λal h=>?_))
  exact⟨[vi 0],(show ResOK _ _ _ [.tmp 8] _ from .tmp (by kernel_rfl) (.nil)),h⟩
 rw[if_neg c1]at h
 exact T_cTz 25 (bne_iff_ne.mpr c1)<| T_srz 5<| T_nr 2 [8] [vi rb] hQ h
end gc_Collect

/-! moraine/gc.more -/
namespace gc_more
def K0:=Func.code Tryz.f26
end gc_more
def gc_more.pt(hv:zW)(H:zV)(R:Value->zV->Prop):Prop:=
 ∃a:Addr,hv=some a/\
 ∃(xB:zW) (xN xC:Nat),hat H (a.add 2)=some (.slice xB xN xC)/\
 R (.int .i64 (zY ((zY (Int.tdiv (xN:Int) 32))+1))) H
namespace gc_more
theorem link{hv:zW}{H:zV}{R:Value->zV->Prop}(h:pt hv H R):C hv H R:=by
 refine T_en K0 10 Tryz.func26 ?_
 intro w0 Q hQ
 unfold pt zY at h
 refine T_su [(0,vp hv)]<| T_srz 0<| T_ed 1 [] []<| T_srz 1<| T_n 1 [(3,vp hv)] ?_
 obtain⟨a,rfl,h⟩:=h
 refine T_n 2 [(5,vp (some (a.add 2)))] ?_
 obtain⟨xB,xN,xC,q1,h⟩:=h
 exact T_l1 6 28 q1 [5]<| T_nr 4 [2] [vi (zY ((zY (Int.tdiv (xN:Int) 32))+1))] hQ h
end gc_more

/-! moraine/morainelaw13.kept -/
namespace morainelaw13_kept
def K0:=Func.code Tryz.f45
end morainelaw13_kept
def morainelaw13_kept.pt(a i:Int)(H:zV)(R:Value->zV->Prop):Prop:=
 (0<=(Int.tmod i 32))/\
 R (.bool ((iand .u32 (ishr .u32 a (Int.tmod i 32)) 1)==1)) H
namespace morainelaw13_kept
set_option maxRecDepth 100000 in
theorem link{a i:Int}{H:zV}{R:Value->zV->Prop}(h:pt a i H R):C a i H R:=by
 refine T_en K0 11 Tryz.func45 ?_
 intro w0 Q hQ
 unfold pt at h
 refine T_su [(0,.int .u32 a),(1,vi i)]<| T_srz 0<| T_ed 1 [] []<| T_srz 1<| T_n 3 [(5,.int .u32 a),(7,vi (Int.tmod i 32))] ?_
 obtain⟨q1,h⟩:=h
 exact T_v1 8 (binN .shr 53 (.int .u32 a) (vi (Int.tmod i 32))) (.int .u32 (ishr .u32 a (Int.tmod i 32))) (λw _=>shr_run (P:=Tryz.prog) (t:=53) (k:=.u32) (k':=.i64) (x:=a) (y:=(Int.tmod i 32)) q1 w) [5,7]<| T_nr 3 [4] [.bool ((iand .u32 (ishr .u32 a (Int.tmod i 32)) 1)==1)] hQ h
end morainelaw13_kept

/-! moraine/morainelaw13.many -/
namespace morainelaw13_many
def K0:=Func.code Tryz.f43
def K2:=cb K0
def K4:=cb K2
def K12:=cb K4
def K13:=ca K12
def K16:=cb K13
def K17:=ca K16
def K18:=ca K17
def K20:=cb K18
def K25:=ca K20
def K27:=ca K25
def K29:=cb K27
def K31:=cb K29
def K32:=ca K31
def K33:=ca K32
end morainelaw13_many
def morainelaw13_many.pt(lB:zW)(lN lC:Nat)(H:zV)(R:Value->zV->Prop):Prop:=
 if(lN:Int)>12 then(
 R (.bool true) H)
 else
 ∃(y:Int->Int->zV->Prop) (m19:Int->Int->zV->Nat),y 0 0 H/\ ∀(nv:Int) (i:Int) (H1:zV),y nv i H1->
 if i< (lN:Int)then(
 ∃b:Addr,lB=some b/\
 ((0:Int)<=i/\i< (lN:Int))/\
 ∃(xB:zW) (xN xC:Nat),hat H1 ((b.add (Int.toNat i*6)).add 1)=some (.slice xB xN xC)/\
 ((0:Int)<=i/\i< (lN:Int))/\
 ∃(v:zW) (g r:Nat),hat H1 ((b.add (Int.toNat i*6)).add 2)=some (.slice v g r)/\
 ∃(z:Int->Int->zV->Prop) (m34:Int->Int->zV->Nat),z (zY (nv+(zY ((xN:Int)+(g:Int))))) 0 H1/\ ∀(d:Int) (k:Int) (H2:zV),z d k H2->
 ((0:Int)<=i/\i< (lN:Int))/\
 ∃(p:zW) (f u:Nat),hat H2 (b.add (Int.toNat i*6))=some (.slice p f u)/\
 if((decide (k< (f:Int))) && (decide (d<=400)))=true then(
 ((0:Int)<=i/\i< (lN:Int))/\
 ∃(o:zW) (m n:Nat),hat H2 (b.add (Int.toNat i*6))=some (.slice o m n)/\
 ∃l:Addr,o=some l/\
 ((0:Int)<=k/\k< (m:Int))/\
 ∃(q:zW) (j s:Nat),hat H2 ((l.add (Int.toNat k*8)).add 7)=some (.slice q j s)/\
 (z (zY (d+(zY (1+(zY (Int.tdiv (j:Int) 8)))))) (zY (k+1)) H2/\m34 (zY (d+(zY (1+(zY (Int.tdiv (j:Int) 8)))))) (zY (k+1)) H2<m34 d k H2))
 else
 (y d (zY (i+1)) H2/\m19 d (zY (i+1)) H2<m19 nv i H1))
 else
 R (.bool (decide (nv>400))) H1
namespace morainelaw13_many
set_option maxRecDepth 100000 in
theorem link{lB:zW}{lN lC:Nat}{H:zV}{R:Value->zV->Prop}(h:pt lB lN lC H R):C lB lN lC H R:=by
 refine T_en K0 60 Tryz.func43 ?_
 intro w0 Q hQ
 unfold pt zY at h
 refine T_su [(0,vs lB lN lC)]<| T_srz 0<| T_ed 1 [] []<| T_sz<| T_srz 1<| T_ed 3 [] [(8,.bool (decide ((lN:Int)>12)))] ?_
 by_cases c1:(lN:Int)>12
 ·rw[if_pos c1]at h
  exact T_cTz 8 (zX c1)<| T_srz 2<| T_nr 1 [2] [.bool true] hQ h
 rw[if_neg c1]at h
 refine T_cFz 8 (zQ c1)<| T_kt<| T_srz 3<| T_ed 1 [8] [(3,vi 0)]<| T_sz<| T_srz 4<| T_ed 1 [] [(4,vi 0)]<| T_bz 0 ?_
 obtain⟨y,m19,i3,i4⟩:=h
 refine S_loop (x:=K18) (σ:=Int×Int) (λs_=> [(0,vs lB lN lC),(3,vi s_.1),(4,vi s_.2)]) (λs_ H=>y s_.1 s_.2 H) (λs_ H=>m19 s_.1 s_.2 H) ((0,0):Int×Int) (by kernel_rfl) i3 sk ?_
 rintro⟨nv,i⟩ H1 i5
 have h:=i4 nv i H1 i5
 refine T_su [(0,vs lB lN lC),(3,vi nv),(4,vi i)]<| T_sz<| T_srz 5<| T_ed 4 [] [(12,.bool (decide (i< (lN:Int))))] ?_
 by_cases c6:i< (lN:Int)
 ·rw[if_pos c6]at h
  refine T_cTz 12 (zX c6)<| T_kt<| T_sz<| T_bz 1<| T_sz<| T_rqz 7<| T_q1 15 (vi nv) [3,12]<| T_q1 16 (vs lB lN lC) []<| T_q1 17 (vi i) [] ?_
  obtain⟨b,rfl,h⟩:=h
  obtain⟨q8,h⟩:=h
  refine Q_op (some 18) (indexAtN 47 (vs (some b) lN lC) (vi i)) (vp (some (b.add (Int.toNat i*6)))) (λ_=>by kernel_rfl) (λw _=>indexAt_run (P:=Tryz.prog) (t:=47) (elem:=55) (sz:=6) (a:=b) (len:=lN) (cap:=lC) (k:=.i64) (i:=i) Tryz.underlying47 (λ_=>by kernel_rfl) q8.1 q8.2 w) [(0,vs (some b) lN lC),(4,vi i),(15,vi nv),(18,vp (some (b.add (Int.toNat i*6))))] pk ?_
  refine T_q (some 19) (vp (some ((b.add (Int.toNat i*6)).add 1))) [(0,vs (some b) lN lC),(4,vi i),(15,vi nv),(19,vp (some ((b.add (Int.toNat i*6)).add 1)))] ?_
  obtain⟨xB,xN,xC,q9,h⟩:=h
  refine T_qld (some 20) 51 q9 [19] [(20,vs xB xN xC)]<| T_q1 21 (vi xN) [20]<| T_q1 22 (vs (some b) lN lC) []<| T_q1 23 (vi i) [] ?_
  obtain⟨q10,h⟩:=h
  refine Q_op (some 24) (indexAtN 47 (vs (some b) lN lC) (vi i)) (vp (some (b.add (Int.toNat i*6)))) (λ_=>by kernel_rfl) (λw _=>indexAt_run (P:=Tryz.prog) (t:=47) (elem:=55) (sz:=6) (a:=b) (len:=lN) (cap:=lC) (k:=.i64) (i:=i) Tryz.underlying47 (λ_=>by kernel_rfl) q10.1 q10.2 w) [(0,vs (some b) lN lC),(4,vi i),(15,vi nv),(21,vi xN),(24,vp (some (b.add (Int.toNat i*6))))] pk ?_
  refine T_q (some 25) (vp (some ((b.add (Int.toNat i*6)).add 2))) [(0,vs (some b) lN lC),(4,vi i),(15,vi nv),(21,vi xN),(25,vp (some ((b.add (Int.toNat i*6)).add 2)))] ?_
  obtain⟨v,g,r,q11,h⟩:=h
  refine T_qld (some 26) 52 q11 [25] [(26,vs v g r)]<| T_q1 27 (vi g) [26]<| T_q1 28 (vi (zY ((xN:Int)+(g:Int)))) [21,27]<| T_q1 29 (vi (zY (nv+(zY ((xN:Int)+(g:Int)))))) [15,28]<| T_q1 3 (vi (zY (nv+(zY ((xN:Int)+(g:Int)))))) [29]<| Q_sub [(0,vs (some b) lN lC),(3,vi (zY (nv+(zY ((xN:Int)+(g:Int)))))),(4,vi i)] sk<| T_qe<| T_srz 8<| T_ne 1 [(0,vs (some b) lN lC),(3,vi (zY (nv+(zY ((xN:Int)+(g:Int)))))),(4,vi i),(5,vi 0)]<| T_bz 2 ?_
  obtain⟨z,m34,i12,i13⟩:=h
  refine S_loop (x:=K33) (σ:=Int×Int) (λs_=> [(0,vs (some b) lN lC),(3,vi s_.1),(4,vi i),(5,vi s_.2)]) (λs_ H=>z s_.1 s_.2 H) (λs_ H=>m34 s_.1 s_.2 H) (((zY (nv+(zY ((xN:Int)+(g:Int))))),0):Int×Int) (by kernel_rfl) i12 sk ?_
  rintro⟨d,k⟩ H2 i14
  have h:=i13 d k H2 i14
  refine T_su [(0,vs (some b) lN lC),(3,vi d),(4,vi i),(5,vi k)]<| T_sz<| T_srz 9<| T_nd 3 [] [(30,vi k),(31,vs (some b) lN lC),(32,vi i)] ?_
  obtain⟨q15,h⟩:=h
  refine T_xd (some 33) 47 55 6 b lN lC .i64 i Tryz.underlying47 q15.1 q15.2 [31,32] [(33,vp (some (b.add (Int.toNat i*6))))]<| T_nd 1 [33] [(34,vp (some (b.add (Int.toNat i*6))))] ?_
  obtain⟨p,f,u,q16,h⟩:=h
  refine T_l1 35 50 q16 [34]<| T_nd 3 [30,35] [(38,.bool (decide (k< (f:Int))))] ?_
  refine N_cut [(0,vs (some b) lN lC),(3,vi d),(4,vi i),(5,vi k),(41,.bool ((decide (k< (f:Int))) && (decide (d<=400))))] ?_ ?_
  ·refine S_then ?_
   by_cases c19:((decide (k< (f:Int))) && (decide (d<=400)))=true
   ·rw[if_pos c19]at h
    refine T_cTz 41 c19<| T_kt<| T_sz<| T_bz 3<| T_rz 11<| T_n 3 [(0,vs (some b) lN lC),(4,vi i),(5,vi k),(44,vi d),(45,vs (some b) lN lC),(46,vi i)] ?_
    obtain⟨q21,h⟩:=h
    refine T_xd (some 47) 47 55 6 b lN lC .i64 i Tryz.underlying47 q21.1 q21.2 [45,46] [(47,vp (some (b.add (Int.toNat i*6))))]<| T_nd 1 [47] [(48,vp (some (b.add (Int.toNat i*6))))] ?_
    obtain⟨o,m,n,q22,h⟩:=h
    refine T_l1 49 50 q22 [48]<| T_nd 1 [] [(50,vi k)] ?_
    obtain⟨l,rfl,h⟩:=h
    obtain⟨q23,h⟩:=h
    refine T_xd (some 51) 50 98 8 l m n .i64 k Tryz.underlying50 q23.1 q23.2 [49,50] [(51,vp (some (l.add (Int.toNat k*8))))]<| T_nd 1 [51] [(52,vp (some ((l.add (Int.toNat k*8)).add 7)))] ?_
    obtain⟨q,j,s,q24,h⟩:=h
    exact T_l1 53 52 q24 [52]<| T_nd 5 [44,53] [(3,vi (zY (d+(zY (1+(zY (Int.tdiv (j:Int) 8)))))))]<| zq<| S_blockEnd<| S_then<| T_rz 10<| T_ed 3 [5] [(5,vi (zY (k+1)))]<| S_round (((zY (d+(zY (1+(zY (Int.tdiv (j:Int) 8)))))),(zY (k+1))):Int×Int) sk h
   rw[if_neg c19]at h
   exact T_cFz 41 (zZ c19)<| zj 2<| S_exitThen<| S_exitThen<| S_exitHere<| S_blockEnd<| S_then<| T_rz 6<| T_ne 3 [(0,vs (some b) lN lC),(3,vi d),(4,vi (zY (i+1)))]<| S_round ((d,(zY (i+1))):Int×Int) sk h
  intro hk
  refine T_nu [(0,vs (some b) lN lC),(3,vi d),(4,vi i),(5,vi k),(38,.bool (decide (k< (f:Int))))] ?_
  by_cases c17:k< (f:Int)
  ·have b18:(decide (k< (f:Int)))=true:=zX c17
   refine N_env [(0,vs (some b) lN lC),(3,vi d),(4,vi i),(5,vi k),(38,.bool true)] (by rw[b18]) ?_
   refine T_nd 3 [38] [(41,.bool (decide (d<=400)))]<| zq<| S_bd 41 (b:=(decide (d<=400))) (v:=((decide (k< (f:Int))) && (decide (d<=400)))) (by simp only[b18,BL]) ?_
   exact hk
  have b18:(decide (k< (f:Int)))=false:=zQ c17
  refine N_env [(0,vs (some b) lN lC),(3,vi d),(4,vi i),(5,vi k),(38,.bool false)] (by rw[b18]) ?_
  refine T_nd 3 [38] [(41,.bool false)]<| zq<| S_bd 41 (b:=false) (v:=((decide (k< (f:Int))) && (decide (d<=400)))) (by simp only[b18,BL]) ?_
  exact hk
 rw[if_neg c6]at h
 exact T_cFz 12 (zQ c6)<| zj 0<| S_exitThen<| S_exitThen<| S_exitHere<| S_then<| T_srz 12<| T_nr 3 [2] [.bool (decide (nv>400))] hQ h
end morainelaw13_many

/-! moraine/morainelaw13.roots -/
namespace morainelaw13_roots
def K0:=Func.code Tryz.f17
def K2:=cb K0
def K4:=cb K2
def K5:=ca K4
def K8:=cb K5
def K9:=ca K8
def K10:=ca K9
def K12:=cb K10
def K17:=ca K12
def K19:=ca K17
def K20:=ca K19
end morainelaw13_roots
def morainelaw13_roots.pt(hv z:zW)(y u:Nat)(s:zW)(p r:Nat)(o:zW)(n m:Nat)(xG q ab:Int)(l:zW)(f g:Nat)(H:zV)(R:Value->zV->Prop):Prop:=
 ∀(b:Nat) (H1:zV),b=H.size->H1=H.push (.cells #[.slice z y u,.slice s p r,.slice o n m,.int .i64 xG,.int .i64 q,.int .u32 ab] 55)->
 ∃(af:zW->Nat->Nat->Int->zV->Prop) (m11:zW->Nat->Nat->Int->zV->Nat),af none 0 0 0 H1/\ ∀(lB:zW) (lN:Nat) (lC:Nat) (i:Int) (H2:zV),af lB lN lC i H2->
 if i< (f:Int)then(
 ∃j:Addr,hv=some j/\
 ∃x:zW,hat H2 j=some (.pointer x)/\
 ∃d:Addr,l=some d/\
 ((0:Int)<=i/\i< (f:Int))/\
 ∃ah:Int,hat H2 (d.add (Int.toNat i*1))=some (.int .u64 ah)/\
 card_Cards_Gen.C x ah H2 (λv H3=> ∃(ra:Int) (rb:Bool),v=.tuple #[.int .i64 ra,.bool rb]/\
 ∃aj:Int,hat H3 ((ad b).add 5)=some (.int .u32 aj)/\
 morainelaw13_kept.C aj i H3 (λao H4=> ∃ag:Bool,ao=.bool ag/\
 if ag=true then(
 ((0:Int)<=i/\i< (f:Int))/\
 ∃an:Int,hat H4 (d.add (Int.toNat i*1))=some (.int .u64 an)/\
 ∀(am:Nat) (H5:zV),am=H4.size->H5=H4.push (.cells #[.int .u64 an] 24)->
 appendK 1 24 8 [.int .u64 0] lB lN lC (some (ad am)) 1 H5 (λap ai H6=>
 (af ap (lN+1) ai (zY (i+1)) H6/\m11 ap (lN+1) ai (zY (i+1)) H6<m11 lB lN lC i H2)))
 else
 if rb=true then(
 ∃ae:Int,hat H4 ((ad b).add 3)=some (.int .i64 ae)/\
 if ra>ae then(
 ((0:Int)<=i/\i< (f:Int))/\
 ∃ak:Int,hat H4 (d.add (Int.toNat i*1))=some (.int .u64 ak)/\
 ∀(al:Nat) (H7:zV),al=H4.size->H7=H4.push (.cells #[.int .u64 ak] 24)->
 appendK 1 24 8 [.int .u64 0] lB lN lC (some (ad al)) 1 H7 (λac aa H8=>
 (af ac (lN+1) aa (zY (i+1)) H8/\m11 ac (lN+1) aa (zY (i+1)) H8<m11 lB lN lC i H2)))
 else
 (af lB lN lC (zY (i+1)) H4/\m11 lB lN lC (zY (i+1)) H4<m11 lB lN lC i H2))
 else
 (af lB lN lC (zY (i+1)) H4/\m11 lB lN lC (zY (i+1)) H4<m11 lB lN lC i H2))))
 else
 R (.slice lB lN lC) H2
namespace morainelaw13_roots
set_option maxRecDepth 100000 in
theorem link{hv z:zW}{y u:Nat}{s:zW}{p r:Nat}{o:zW}{n m:Nat}{xG q ab:Int}{l:zW}{f g:Nat}{H:zV}{R:Value->zV->Prop}(h:pt hv z y u s p r o n m xG q ab l f g H R):C hv z y u s p r o n m xG q ab l f g H R:=by
 refine T_en K0 50 Tryz.func17 ?_
 intro w0 Q hQ
 unfold pt zY at h
 refine T_su [(0,vp hv),(1,.agg #[vs z y u,vs s p r,vs o n m,vi xG,vi q,.int .u32 ab]),(2,vs l f g)]<| T_srz 0<| T_nw (some 4) (λb=>vp (pa b)) (.cells #[vs z y u,vs s p r,vs o n m,vi xG,vi q,.int .u32 ab] 55) ?_
 intro b H1 e1 e2
 replace h:=h b H1 e1 e2
 refine T_pd [1] [(4,vp (pa b))]<| T_ed 1 [] []<| T_srz 1<| T_ed 1 [] [(7,vs none 0 0)]<| T_sz<| T_srz 2<| T_ed 1 [] [(8,vi 0)]<| T_bz 0 ?_
 obtain⟨af,m11,i3,i4⟩:=h
 refine S_loop (x:=K10) (σ:=zW×Nat×Nat×Int) (λs_=> [(0,vp hv),(2,vs l f g),(4,vp (pa b)),(7,vs s_.1 s_.2.1 s_.2.2.1),(8,vi s_.2.2.2)]) (λs_ H=>af s_.1 s_.2.1 s_.2.2.1 s_.2.2.2 H) (λs_ H=>m11 s_.1 s_.2.1 s_.2.2.1 s_.2.2.2 H) ((none,0,0,0):zW×Nat×Nat×Int) (by kernel_rfl) i3 sk ?_
 rintro⟨lB,lN,lC,i⟩ H2 i5
 have h:=i4 lB lN lC i H2 i5
 refine T_su [(0,vp hv),(2,vs l f g),(4,vp (pa b)),(7,vs lB lN lC),(8,vi i)]<| T_sz<| T_srz 3<| T_ed 4 [] [(14,.bool (decide (i< (f:Int))))] ?_
 by_cases c6:i< (f:Int)
 ·rw[if_pos c6]at h
  refine T_cTz 14 (zX c6)<| T_kt<| T_sz<| T_bz 1<| T_sz ?_
  obtain⟨j,rfl,h⟩:=h
  obtain⟨x,q8,h⟩:=h
  obtain⟨d,rfl,h⟩:=h
  obtain⟨q9,h⟩:=h
  obtain⟨ah,q10,h⟩:=h
  refine S_regionG 5 (Code.ops K20) [(8,j,[vp x]),(8,(d.add (Int.toNat i*1)),[vu ah])] 14 (bv 14 0) (by kernel_rfl) (by kernel_rfl) (by kernel_rfl) (by kernel_rfl) (by kernel_rfl) (show FactsAt _ _ _ from⟨⟨q8,trivial⟩,⟨q10,trivial⟩,trivial⟩)<| T_gp 0 (some 18) (vp (some j)) (bv 14 1) [(0,vp (some j)),(2,vs (some d) f g),(4,vp (pa b)),(7,vs lB lN lC),(8,vi i),(18,vp (some j))]<| T_gp1 1 19 (vp (some j)) (bv 14 3) [18]<| T_gp1 2 20 (vp (some j)) (bv 14 7) [19]<| T_g1 3 21 (vp x) (bv 14 15) [20] (loadN 26 (vp (some j))) (held_one 8 (λ_=>by kernel_rfl) (List.Mem.head _) (.inl (by kernel_rfl)))<| T_gp1 4 22 (vs (some d) f g) (bv 14 31) []<| T_gp1 5 23 (vi i) (bv 14 63) []<| T_g1 6 24 (vp (some (d.add (Int.toNat i*1)))) (bv 14 127) [22,23] (indexAtN 27 (vs (some d) f g) (vi i)) (λ_ w _ _ _=>indexAt_run (P:=Tryz.prog) (t:=27) (elem:=24) (sz:=1) (a:=d) (len:=f) (cap:=g) (k:=.i64) (i:=i) Tryz.underlying27 (λ_=>by kernel_rfl) q9.1 q9.2 w)<| T_g1 7 25 (vu ah) (bv 14 255) [24] (loadN 24 (vp (some (d.add (Int.toNat i*1))))) (held_one 8 (λ_=>by kernel_rfl) (List.Mem.tail _ (List.Mem.head _)) (.inl (by kernel_rfl))) ?_
  refine G_call 8 (some 26) (bv 14 511) 15 #[vp x,vu ah] (by kernel_rfl) (λ_=>by kernel_rfl) h (by kernel_rfl) ?_;clear h
  rintro v H3 ⟨ra,rb,rfl,h⟩
  refine⟨[(0,vp (some j)),(2,vs (some d) f g),(4,vp (pa b)),(7,vs lB lN lC),(8,vi i),(26,.tuple #[vi ra,.bool rb])],pk,(show FactsAt _ _ _ from⟨trivial,trivial,trivial⟩),?_⟩
  refine T_g 9 (some 17) (.tuple #[vi ra,.bool rb]) (bv 14 1023) [(0,vp (some j)),(2,vs (some d) f g),(4,vp (pa b)),(7,vs lB lN lC),(8,vi i),(17,.tuple #[vi ra,.bool rb])] (pure (.value (.tuple #[vi ra,.bool rb])):Sem Next) (λ_ _ _ _ _=>rfl)<| T_g1 10 27 (vi ra) (bv 14 2047) [] (pure (.value (vi ra)):Sem Next) (λ_ _ _ _ _=>rfl)<| T_g1 11 28 (.bool rb) (bv 14 4095) [17] (pure (.value (.bool rb)):Sem Next) (λ_ _ _ _ _=>rfl)<| T_g1 12 9 (vi ra) (bv 14 8191) [27] (pure (.value (vi ra)):Sem Next) (λ_ _ _ _ _=>rfl)<| T_g1 13 10 (.bool rb) (bv 14 16383) [28] (pure (.value (.bool rb)):Sem Next) (λ_ _ _ _ _=>rfl)<| G_sub [(0,vp (some j)),(2,vs (some d) f g),(4,vp (pa b)),(7,vs lB lN lC),(8,vi i),(9,vi ra),(10,.bool rb)] sk<| G_end (by kernel_rfl)<| S_then<| T_srz 6<| T_n 1 [(0,vp (some j)),(2,vs (some d) f g),(4,vp (pa b)),(7,vs lB lN lC),(8,vi i),(9,vi ra),(10,.bool rb),(29,vp (some ((ad b).add 5)))] ?_
  obtain⟨aj,q11,h⟩:=h
  refine T_l1 30 53 q11 [29]<| T_nd 1 [] [(31,vi i)] ?_
  refine T_c (some 32) h ?_;clear h
  rintro ao H4 ⟨ag,rfl,h⟩
  refine T_pd [30,31] [(32,.bool ag)]<| T_nd 1 [32] [(33,.bool ag)] ?_
  by_cases c12:ag=true
  ·rw[if_pos c12]at h
   refine N_bd 33 c12<| T_ed 8 [9,10,33] [(41,.bool true)]<| T_tz 41<| T_rz 7<| T_nd 3 [7,41] [(42,vs lB lN lC),(43,vs (some d) f g),(44,vi i)] ?_
   obtain⟨q14,h⟩:=h
   refine T_xd (some 45) 27 24 1 d f g .i64 i Tryz.underlying27 q14.1 q14.2 [43,44] [(45,vp (some (d.add (Int.toNat i*1))))] ?_
   obtain⟨an,q15,h⟩:=h
   refine T_l1 46 24 q15 [45]<| T_nw (some 47) (λb=>vs (pa b) 1 1) (.cells #[vu an] 24) ?_
   intro am H5 e16 e17
   replace h:=h am H5 e16 e17
   refine T_pd [46] [(47,vs (pa am) 1 1)] ?_
   refine N_op (some 48) (appendN #[27,27] 27 #[vs lB lN lC,vs (pa am) 1 1]) _ (λ_=>by kernel_rfl) (ss_append (T:=24) (sz:=1) (bytes:=8) (zero:=(vu 0:Value)) Tryz.underlying27 Tryz.underlying27 rfl (show Tryz.prog.info? 24=some Tryz.t24 from by kernel_rfl) (by kernel_rfl) (by kernel_rfl) (by decide) (by kernel_rfl) (by first | exact h | (simpa only[Value.cells,List.toList_toArray]using h))) ?_;clear h
   rintro _ H6 ⟨ap,ai,rfl,h⟩
   exact T_pd [42,47] [(48,vs ap (lN+1) ai)]<| T_nd 1 [48] [(7,vs ap (lN+1) ai)]<| zq<| S_blockEnd<| S_then<| T_rz 4<| T_ed 3 [8] [(8,vi (zY (i+1)))]<| S_round ((ap,(lN+1),ai,(zY (i+1))):zW×Nat×Nat×Int) sk h
  rw[if_neg c12]at h
  refine N_bd 33 (zZ c12)<| T_nd 2 [10] [(35,.bool rb)] ?_
  by_cases c18:rb=true
  ·rw[if_pos c18]at h
   refine N_bd 35 c18<| T_nd 2 [9] [(36,vi ra),(37,vp (some ((ad b).add 3)))] ?_
   obtain⟨ae,q20,h⟩:=h
   refine T_l1 38 3 q20 [37]<| T_ed 3 [33,35,36,38] [(41,.bool (decide (ra>ae)))] ?_
   by_cases c21:ra>ae
   ·rw[if_pos c21]at h
    refine T_cTz 41 (zX c21)<| T_rz 7<| T_nd 3 [7,41] [(42,vs lB lN lC),(43,vs (some d) f g),(44,vi i)] ?_
    obtain⟨q23,h⟩:=h
    refine T_xd (some 45) 27 24 1 d f g .i64 i Tryz.underlying27 q23.1 q23.2 [43,44] [(45,vp (some (d.add (Int.toNat i*1))))] ?_
    obtain⟨ak,q24,h⟩:=h
    refine T_l1 46 24 q24 [45]<| T_nw (some 47) (λb=>vs (pa b) 1 1) (.cells #[vu ak] 24) ?_
    intro al H7 e25 e26
    replace h:=h al H7 e25 e26
    refine T_pd [46] [(47,vs (pa al) 1 1)] ?_
    refine N_op (some 48) (appendN #[27,27] 27 #[vs lB lN lC,vs (pa al) 1 1]) _ (λ_=>by kernel_rfl) (ss_append (T:=24) (sz:=1) (bytes:=8) (zero:=(vu 0:Value)) Tryz.underlying27 Tryz.underlying27 rfl (show Tryz.prog.info? 24=some Tryz.t24 from by kernel_rfl) (by kernel_rfl) (by kernel_rfl) (by decide) (by kernel_rfl) (by first | exact h | (simpa only[Value.cells,List.toList_toArray]using h))) ?_;clear h
    rintro _ H8 ⟨ac,aa,rfl,h⟩
    exact T_pd [42,47] [(48,vs ac (lN+1) aa)]<| T_nd 1 [48] [(7,vs ac (lN+1) aa)]<| zq<| S_blockEnd<| S_then<| T_rz 4<| T_ed 3 [8] [(8,vi (zY (i+1)))]<| S_round ((ac,(lN+1),aa,(zY (i+1))):zW×Nat×Nat×Int) sk h
   rw[if_neg c21]at h
   exact T_cFz 41 (zQ c21)<| T_k<| S_blockEnd<| S_then<| T_rz 4<| T_ed 3 [8,41] [(8,vi (zY (i+1)))]<| S_round ((lB,lN,lC,(zY (i+1))):zW×Nat×Nat×Int) sk h
  rw[if_neg c18]at h
  refine N_bd 35 (zZ c18)<| T_ed 6 [9,33,35] [(41,.bool false)]<| T_fz 41<| T_k ?_
  exact S_blockEnd<| S_then<| T_rz 4<| T_ed 3 [8,41] [(8,vi (zY (i+1)))]<| S_round ((lB,lN,lC,(zY (i+1))):zW×Nat×Nat×Int) sk h
 rw[if_neg c6]at h
 exact T_cFz 14 (zQ c6)<| zj 0<| S_exitThen<| S_exitThen<| S_exitHere<| S_then<| T_srz 8<| T_nr 2 [6] [vs lB lN lC] hQ h
end morainelaw13_roots

/-! moraine/morainelaw13.pointers -/
namespace morainelaw13_pointers
def K0:=Func.code Tryz.f18
def K2:=cb K0
def K4:=cb K2
def K5:=ca K4
def K8:=cb K5
def K9:=ca K8
def K10:=ca K9
end morainelaw13_pointers
def morainelaw13_pointers.pt(lB:zW)(lN lC:Nat)(H:zV)(R:Value->zV->Prop):Prop:=
 ∀(b:Nat) (H1:zV),b=H.size->H1=H.push (.cells #[.pointer none] 33)->
 ∃(l:zW->Nat->Nat->Int->zV->Prop) (m11:zW->Nat->Nat->Int->zV->Nat),l (some (ad b)) 1 1 0 H1/\ ∀(d:zW) (outN:Nat) (outC:Nat) (i:Int) (H2:zV),l d outN outC i H2->
 if i< (lN:Int)then(
 ∃f:Addr,lB=some f/\
 ((0:Int)<=i/\i< (lN:Int))/\
 ∀(j:Nat) (H3:zV),j=H2.size->H3=H2.push (.cells #[.pointer (some (f.add (Int.toNat i*1)))] 33)->
 appendK 1 33 8 [.pointer none] d outN outC (some (ad j)) 1 H3 (λap g H4=>
 (l ap (outN+1) g (zY (i+1)) H4/\m11 ap (outN+1) g (zY (i+1)) H4<m11 d outN outC i H2)))
 else
 R (.slice d outN outC) H2
namespace morainelaw13_pointers
set_option maxRecDepth 100000 in
theorem link{lB:zW}{lN lC:Nat}{H:zV}{R:Value->zV->Prop}(h:pt lB lN lC H R):C lB lN lC H R:=by
 refine T_en K0 19 Tryz.func18 ?_
 intro w0 Q hQ
 unfold pt zY at h
 refine T_su [(0,vs lB lN lC)]<| T_srz 0<| T_ed 1 [] []<| T_srz 1<| T_nw (some 5) (λb=>vs (pa b) 1 1) (.cells #[vp none] 33) ?_
 intro b H1 e1 e2
 replace h:=h b H1 e1 e2
 refine T_pd [] [(5,vs (pa b) 1 1)]<| T_ed 1 [5] [(3,vs (pa b) 1 1)]<| T_sz<| T_srz 2<| T_ed 1 [] [(4,vi 0)]<| T_bz 0 ?_
 obtain⟨l,m11,i3,i4⟩:=h
 refine S_loop (x:=K10) (σ:=zW×Nat×Nat×Int) (λs_=> [(0,vs lB lN lC),(3,vs s_.1 s_.2.1 s_.2.2.1),(4,vi s_.2.2.2)]) (λs_ H=>l s_.1 s_.2.1 s_.2.2.1 s_.2.2.2 H) (λs_ H=>m11 s_.1 s_.2.1 s_.2.2.1 s_.2.2.2 H) (((pa b),1,1,0):zW×Nat×Nat×Int) (by kernel_rfl) i3 sk ?_
 rintro⟨d,outN,outC,i⟩ H2 i5
 have h:=i4 d outN outC i H2 i5
 refine T_su [(0,vs lB lN lC),(3,vs d outN outC),(4,vi i)]<| T_sz<| T_srz 3<| T_ed 4 [] [(9,.bool (decide (i< (lN:Int))))] ?_
 by_cases c6:i< (lN:Int)
 ·rw[if_pos c6]at h
  refine T_cTz 9 (zX c6)<| T_kt<| T_sz<| T_bz 1<| T_rz 5<| T_nd 3 [3,9] [(12,vs d outN outC),(13,vs lB lN lC),(14,vi i)] ?_
  obtain⟨f,rfl,h⟩:=h
  obtain⟨q8,h⟩:=h
  refine T_xd (some 15) 27 24 1 f lN lC .i64 i Tryz.underlying27 q8.1 q8.2 [0,13,14] [(0,vs (some f) lN lC),(15,vp (some (f.add (Int.toNat i*1))))]<| T_nw (some 16) (λb=>vs (pa b) 1 1) (.cells #[vp (some (f.add (Int.toNat i*1)))] 33) ?_
  intro j H3 e9 e10
  replace h:=h j H3 e9 e10
  refine T_pd [15] [(16,vs (pa j) 1 1)] ?_
  refine N_op (some 17) (appendN #[57,57] 57 #[vs d outN outC,vs (pa j) 1 1]) _ (λ_=>by kernel_rfl) (ss_append (T:=33) (sz:=1) (bytes:=8) (zero:=(vp none:Value)) Tryz.underlying57 Tryz.underlying57 rfl (show Tryz.prog.info? 33=some Tryz.t33 from by kernel_rfl) (by kernel_rfl) (by kernel_rfl) (by decide) (by kernel_rfl) (by first | exact h | (simpa only[Value.cells,List.toList_toArray]using h))) ?_;clear h
  rintro _ H4 ⟨ap,g,rfl,h⟩
  exact T_pd [12,16] [(17,vs ap (outN+1) g)]<| T_nd 1 [17] [(3,vs ap (outN+1) g)]<| zq<| S_blockEnd<| S_then<| T_rz 4<| T_ed 3 [4] [(4,vi (zY (i+1)))]<| S_round ((ap,(outN+1),g,(zY (i+1))):zW×Nat×Nat×Int) sk h
 rw[if_neg c6]at h
 exact T_cFz 9 (zQ c6)<| zj 0<| S_exitThen<| S_exitThen<| S_exitHere<| S_then<| T_srz 6<| T_nr 2 [2] [vs d outN outC] hQ h
end morainelaw13_pointers

/-! moraine/morainelaw13.begun -/
namespace morainelaw13_begun
def K0:=Func.code Tryz.f16
def K2:=cb K0
def K4:=cb K2
def K6:=cb K4
def K14:=cb K6
def K22:=cb K14
def K23:=ca K22
def K26:=cb K23
def K27:=ca K26
def K28:=ca K27
def K30:=cb K28
def K35:=ca K30
def K37:=ca K35
def K38:=ca K37
def K39:=cb K37
def K41:=cb K38
def K42:=ca K41
def K43:=ca K42
def K54:=cb K39
def K62:=cb K54
def K63:=ca K62
end morainelaw13_begun
def morainelaw13_begun.pt(ac:Int)(lB:zW)(lN lC:Nat)(H:zV)(R:Value->zV->Prop):Prop:=
 obj_New.C ac H (λv H1=> ∃(ra:zW) (rb:Int),v=.tuple #[.pointer ra,.int .i64 rb]/\
 if rb=0 then(
 morainelaw13_many.C lB lN lC H1 (λba H2=> ∃x:Bool,ba=.bool x/\
 if x=true then(
 R (.tuple #[.pointer none,.slice none 0 0]) H2)
 else
 onPtr ra (
 R (.tuple #[.pointer none,.slice none 0 0]) H2) (λf=>
 ∃(a4:zW->Nat->Nat->Int->zV->Prop) (m29:zW->Nat->Nat->Int->zV->Nat),a4 none 0 0 0 H2/\ ∀(m:zW) (madeN:Nat) (madeC:Nat) (i:Int) (H3:zV),a4 m madeN madeC i H3->
 if i< (lN:Int)then(
 ∃(a5:zW->Nat->Nat->Int->zV->Prop) (m44:zW->Nat->Nat->Int->zV->Nat),a5 m madeN madeC 0 H3/\ ∀(b:zW) (madeN_2:Nat) (madeC_2:Nat) (k:Int) (H4:zV),a5 b madeN_2 madeC_2 k H4->
 ∃d:Addr,lB=some d/\
 ((0:Int)<=i/\i< (lN:Int))/\
 ∃(xB:zW) (xN xC:Nat),hat H4 (d.add (Int.toNat i*6))=some (.slice xB xN xC)/\
 if k< (xN:Int)then(
 ((0:Int)<=i/\i< (lN:Int))/\
 ∃(au:zW) (al ap:Nat),hat H4 (d.add (Int.toNat i*6))=some (.slice au al ap)/\
 ∃ah:Addr,au=some ah/\
 ((0:Int)<=k/\k< (al:Int))/\
 ∃(az ae an aw aq av ao:Int) (a2:zW) (ax a1:Nat),RowAt H4 (ah.add (Int.toNat k*8)) 0 [.int .i64 az,.int .i64 ae,.int .i64 an,.int .u64 aw,.int .i64 aq,.int .u64 av,.int .i64 ao,.slice a2 ax a1]/\
 morainelaw11_Made.C (some f) az ae an aw aq av ao a2 ax a1 b madeN_2 madeC_2 H4 (λa9 H5=> ∃(ag:zW) (ai aj:Nat),a9=.slice ag ai aj/\
 (a5 ag ai aj (zY (k+1)) H5/\m44 ag ai aj (zY (k+1)) H5<m44 b madeN_2 madeC_2 k H4)))
 else
 if i=(zY ((lN:Int)-1))then(
 R (.tuple #[.pointer (some f),.slice b madeN_2 madeC_2]) H4)
 else
 ((0:Int)<=i/\i< (lN:Int))/\
 ∃(aa:zW) (ab z:Nat) (u:zW) (s r:Nat) (p:zW) (n o:Nat) (xG q af:Int),RowAt H4 (d.add (Int.toNat i*6)) 0 [.slice aa ab z,.slice u s r,.slice p n o,.int .i64 xG,.int .i64 q,.int .u32 af]/\
 morainelaw13_roots.C (some f) aa ab z u s r p n o xG q af b madeN_2 madeC_2 H4 (λa8 H6=> ∃(l:zW) (g j:Nat),a8=.slice l g j/\
 ((0:Int)<=i/\i< (lN:Int))/\
 ∃y:Int,hat H6 ((d.add (Int.toNat i*6)).add 3)=some (.int .i64 y)/\
 ((0:Int)<=i/\i< (lN:Int))/\
 ∃am:Int,hat H6 ((d.add (Int.toNat i*6)).add 4)=some (.int .i64 am)/\
 morainelaw13_pointers.C l g j H6 (λa6 H7=> ∃(ay:zW) (a3 a0:Nat),a6=.slice ay a3 a0/\RowAt H7 ((d.add (Int.toNat i*6)).add 3) 0 [.int .i64 y]/\RowAt H7 ((d.add (Int.toNat i*6)).add 4) 0 [.int .i64 am]/\
 gc_Collect.C (some f) y am ay a3 a0 H7 (λa7 H8=> ∃ak:Int,a7=.int .i64 ak/\
 if ak=0 then(
 (a4 l g j (zY (i+1)) H8/\m29 l g j (zY (i+1)) H8<m29 m madeN madeC i H3))
 else
 (a4 b madeN_2 madeC_2 (zY (i+1)) H8/\m29 b madeN_2 madeC_2 (zY (i+1)) H8<m29 m madeN madeC i H3)))))
 else
 R (.tuple #[.pointer (some f),.slice m madeN madeC]) H3)))
 else
 R (.tuple #[.pointer none,.slice none 0 0]) H1)
namespace morainelaw13_begun
theorem link{ac:Int}{lB:zW}{lN lC:Nat}{H:zV}{R:Value->zV->Prop}(h:pt ac lB lN lC H R):C ac lB lN lC H R:=by
 refine T_en K0 82 Tryz.func16 ?_
 intro w0 Q hQ
 unfold pt zY at h
 refine T_su [(0,vi ac),(1,vs lB lN lC)]<| T_srz 0<| T_ed 2 [] []<| T_srz 1<| T_nd 1 [0] [(13,vi ac)] ?_
 refine T_c (some 14) h ?_;clear h
 rintro v H1 ⟨ra,rb,rfl,h⟩
 refine T_pd [13] [(14,.tuple #[vp ra,vi rb])]<| T_ed 5 [14] [(6,vp ra),(7,vi rb)]<| T_sz<| T_srz 2<| T_nd 3 [7] [(19,.bool (rb !=0))] ?_
 by_cases c1:rb=0
 ·rw[if_pos c1]at h
  refine N_bd 19 (bne_eq_false_iff_eq.mpr c1)<| T_nd 1 [] [(20,vs lB lN lC)] ?_
  refine T_c (some 21) h ?_;clear h
  rintro ba H2 ⟨x,rfl,h⟩
  refine T_pd [20] [(21,.bool x)]<| T_ed 1 [19,21] [(22,.bool x)] ?_
  by_cases c3:x=true
  ·rw[if_pos c3]at h
   exact T_cTz 22 c3<| T_srz 3<| T_nr 2 [4,5] [vp none,vs none 0 0] hQ h
  rw[if_neg c3]at h
  refine T_cFz 22 (zZ c3)<| T_kt<| T_sz<| T_srz 4<| T_nd 1 [22] [(23,vp ra)] ?_
  rcases ra with _ | f
  ·rw[onPtr_none]at h
   exact T_ed 1 [6,23] [(6,vp none),(24,.bool true)]<| T_tz 24<| T_srz 5<| T_nr 2 [4,5] [vp none,vs none 0 0] hQ h
  rw[onPtr_some]at h
  refine T_ed 1 [6,23] [(6,vp (some f)),(24,.bool false)]<| T_fz 24<| T_kt<| T_srz 6<| T_ed 1 [24] [(8,vs none 0 0)]<| T_sz<| T_srz 7<| T_ed 1 [] [(9,vi 0)]<| T_bz 0 ?_
  obtain⟨a4,m29,i5,i6⟩:=h
  refine S_loop (x:=K28) (σ:=zW×Nat×Nat×Int) (λs_=> [(1,vs lB lN lC),(6,vp (some f)),(8,vs s_.1 s_.2.1 s_.2.2.1),(9,vi s_.2.2.2)]) (λs_ H=>a4 s_.1 s_.2.1 s_.2.2.1 s_.2.2.2 H) (λs_ H=>m29 s_.1 s_.2.1 s_.2.2.1 s_.2.2.2 H) ((none,0,0,0):zW×Nat×Nat×Int) (by kernel_rfl) i5 sk ?_
  rintro⟨m,madeN,madeC,i⟩ H3 i7
  have h:=i6 m madeN madeC i H3 i7
  refine T_su [(1,vs lB lN lC),(6,vp (some f)),(8,vs m madeN madeC),(9,vi i)]<| T_sz<| T_srz 8<| T_ed 4 [] [(28,.bool (decide (i< (lN:Int))))] ?_
  by_cases c8:i< (lN:Int)
  ·rw[if_pos c8]at h
   refine T_cTz 28 (zX c8)<| T_kt<| T_sz<| T_bz 1<| T_sz<| T_srz 10<| T_ed 1 [28] [(10,vi 0)]<| T_bz 2 ?_
   obtain⟨a5,m44,i10,i11⟩:=h
   refine S_loop (x:=K43) (σ:=zW×Nat×Nat×Int) (λs_=> [(1,vs lB lN lC),(6,vp (some f)),(8,vs s_.1 s_.2.1 s_.2.2.1),(9,vi i),(10,vi s_.2.2.2)]) (λs_ H=>a5 s_.1 s_.2.1 s_.2.2.1 s_.2.2.2 H) (λs_ H=>m44 s_.1 s_.2.1 s_.2.2.1 s_.2.2.2 H) ((m,madeN,madeC,0):zW×Nat×Nat×Int) (by kernel_rfl) i10 sk ?_
   rintro⟨b,madeN_2,madeC_2,k⟩ H4 i12
   have h:=i11 b madeN_2 madeC_2 k H4 i12
   refine T_su [(1,vs lB lN lC),(6,vp (some f)),(8,vs b madeN_2 madeC_2),(9,vi i),(10,vi k)]<| T_sz<| T_srz 11<| T_nd 3 [] [(31,vi k),(32,vs lB lN lC),(33,vi i)] ?_
   obtain⟨d,rfl,h⟩:=h
   obtain⟨q13,h⟩:=h
   refine T_xd (some 34) 47 55 6 d lN lC .i64 i Tryz.underlying47 q13.1 q13.2 [1,32,33] [(1,vs (some d) lN lC),(34,vp (some (d.add (Int.toNat i*6))))]<| T_nd 1 [34] [(35,vp (some (d.add (Int.toNat i*6))))] ?_
   obtain⟨xB,xN,xC,q14,h⟩:=h
   refine T_l1 36 50 q14 [35]<| T_ed 2 [31,36] [(38,.bool (decide (k< (xN:Int))))] ?_
   by_cases c15:k< (xN:Int)
   ·rw[if_pos c15]at h
    refine T_cTz 38 (zX c15)<| T_kt<| T_sz<| T_bz 3<| T_rz 13<| T_nd 3 [38] [(41,vp (some f)),(42,vs (some d) lN lC),(43,vi i)] ?_
    obtain⟨q17,h⟩:=h
    refine T_xd (some 44) 47 55 6 d lN lC .i64 i Tryz.underlying47 q17.1 q17.2 [42,43] [(44,vp (some (d.add (Int.toNat i*6))))]<| T_nd 1 [44] [(45,vp (some (d.add (Int.toNat i*6))))] ?_
    obtain⟨au,al,ap,q18,h⟩:=h
    refine T_l1 46 50 q18 [45]<| T_nd 1 [] [(47,vi k)] ?_
    obtain⟨ah,rfl,h⟩:=h
    obtain⟨q19,h⟩:=h
    refine T_xd (some 48) 50 98 8 ah al ap .i64 k Tryz.underlying50 q19.1 q19.2 [46,47] [(48,vp (some (ah.add (Int.toNat k*8))))] ?_
    obtain⟨az,ae,an,aw,aq,av,ao,a2,ax,a1,q20,h⟩:=h
    refine T_lr 49 98 q20 [48]<| T_nd 1 [8] [(50,vs b madeN_2 madeC_2)] ?_
    refine T_c (some 51) h ?_;clear h
    rintro a9 H5 ⟨ag,ai,aj,rfl,h⟩
    exact T_pd [41,49,50] [(51,vs ag ai aj)]<| T_nd 1 [51] [(8,vs ag ai aj)]<| zq<| S_blockEnd<| S_then<| T_rz 12<| T_ed 3 [10] [(10,vi (zY (k+1)))]<| S_round ((ag,ai,aj,(zY (k+1))):zW×Nat×Nat×Int) sk h
   rw[if_neg c15]at h
   refine T_cFz 38 (zQ c15)<| zj 2<| S_exitThen<| S_exitThen<| S_exitHere<| S_then<| T_sz<| T_srz 14<| T_ed 5 [10,38] [(56,.bool (i==(zY ((lN:Int)-1))))] ?_
   by_cases c21:i=(zY ((lN:Int)-1))
   ·rw[if_pos c21]at h
    exact T_cTz 56 (zK c21)<| zj 0<| S_exitThen<| zz<| S_exitThen<| S_exitThen<| S_exitHere<| S_then<| T_srz 18<| T_nr 4 [4,5] [vp (some f),vs b madeN_2 madeC_2] hQ h
   rw[if_neg c21]at h
   refine T_cFz 56 (zJ c21)<| T_kt<| T_srz 15<| T_nd 3 [56] [(57,vp (some f)),(58,vs (some d) lN lC),(59,vi i)] ?_
   obtain⟨q23,h⟩:=h
   refine T_xd (some 60) 47 55 6 d lN lC .i64 i Tryz.underlying47 q23.1 q23.2 [58,59] [(60,vp (some (d.add (Int.toNat i*6))))] ?_
   obtain⟨aa,ab,z,u,s,r,p,n,o,xG,q,af,q24,h⟩:=h
   refine T_lr 61 55 q24 [60]<| T_nd 1 [] [(62,vs b madeN_2 madeC_2)] ?_
   refine T_c (some 63) h ?_;clear h
   rintro a8 H6 ⟨l,g,j,rfl,h⟩
   refine T_pd [57,61,62] [(63,vs l g j)]<| T_ed 1 [63] [(11,vs l g j)]<| T_sz ?_
   obtain⟨q25,h⟩:=h
   obtain⟨y,q26,h⟩:=h
   obtain⟨q27,h⟩:=h
   obtain⟨am,q28,h⟩:=h
   refine S_regionG 16 (Code.ops K63) [(13,((d.add (Int.toNat i*6)).add 3),[vi y]),(13,((d.add (Int.toNat i*6)).add 4),[vi am])] 15 (bv 15 0) (by kernel_rfl) (by kernel_rfl) (by kernel_rfl) (by kernel_rfl) (by kernel_rfl) (show FactsAt _ _ _ from⟨⟨q26,trivial⟩,⟨q28,trivial⟩,trivial⟩)<| T_gp 0 (some 64) (vp (some f)) (bv 15 1) [(1,vs (some d) lN lC),(6,vp (some f)),(8,vs b madeN_2 madeC_2),(9,vi i),(11,vs l g j),(64,vp (some f))]<| T_gp1 1 65 (vs (some d) lN lC) (bv 15 3) []<| T_gp1 2 66 (vi i) (bv 15 7) []<| T_g1 3 67 (vp (some (d.add (Int.toNat i*6)))) (bv 15 15) [65,66] (indexAtN 47 (vs (some d) lN lC) (vi i)) (λ_ w _ _ _=>indexAt_run (P:=Tryz.prog) (t:=47) (elem:=55) (sz:=6) (a:=d) (len:=lN) (cap:=lC) (k:=.i64) (i:=i) Tryz.underlying47 (λ_=>by kernel_rfl) q25.1 q25.2 w)<| T_gp1 4 68 (vp (some ((d.add (Int.toNat i*6)).add 3))) (bv 15 31) [67]<| T_g1 5 69 (vi y) (bv 15 63) [68] (loadN 3 (vp (some ((d.add (Int.toNat i*6)).add 3)))) (held_one 13 (λ_=>by kernel_rfl) (List.Mem.head _) (.inl (by kernel_rfl)))<| T_gp1 6 70 (vs (some d) lN lC) (bv 15 127) []<| T_gp1 7 71 (vi i) (bv 15 255) []<| T_g1 8 72 (vp (some (d.add (Int.toNat i*6)))) (bv 15 511) [70,71] (indexAtN 47 (vs (some d) lN lC) (vi i)) (λ_ w _ _ _=>indexAt_run (P:=Tryz.prog) (t:=47) (elem:=55) (sz:=6) (a:=d) (len:=lN) (cap:=lC) (k:=.i64) (i:=i) Tryz.underlying47 (λ_=>by kernel_rfl) q27.1 q27.2 w)<| T_gp1 9 73 (vp (some ((d.add (Int.toNat i*6)).add 4))) (bv 15 1023) [72]<| T_g1 10 74 (vi am) (bv 15 2047) [73] (loadN 3 (vp (some ((d.add (Int.toNat i*6)).add 4)))) (held_one 13 (λ_=>by kernel_rfl) (List.Mem.tail _ (List.Mem.head _)) (.inl (by kernel_rfl)))<| T_gp1 11 75 (vs l g j) (bv 15 4095) [] ?_
   refine G_call 12 (some 76) (bv 15 8191) 18 #[vs l g j] (by kernel_rfl) (λ_=>by kernel_rfl) h (by kernel_rfl) ?_;clear h
   rintro a6 H7 ⟨ay,a3,a0,rfl,h⟩
   obtain⟨f29,f30,h⟩:=h
   refine⟨[(1,vs (some d) lN lC),(6,vp (some f)),(8,vs b madeN_2 madeC_2),(9,vi i),(11,vs l g j),(64,vp (some f)),(69,vi y),(74,vi am),(76,vs ay a3 a0)],pk,(show FactsAt _ _ _ from⟨f29,f30,trivial⟩),?_⟩
   refine G_call 13 (some 77) (bv 15 16383) 9 #[vp (some f),vi y,vi am,vs ay a3 a0] (by kernel_rfl) (λ_=>by kernel_rfl) h (by kernel_rfl) ?_;clear h
   rintro a7 H8 ⟨ak,rfl,h⟩
   refine⟨[(1,vs (some d) lN lC),(6,vp (some f)),(8,vs b madeN_2 madeC_2),(9,vi i),(11,vs l g j),(77,vi ak)],pk,(show FactsAt _ _ _ from⟨trivial,trivial,trivial⟩),?_⟩
   refine T_g 14 (some 78) (.bool (ak==0)) (bv 15 32767) [(1,vs (some d) lN lC),(6,vp (some f)),(8,vs b madeN_2 madeC_2),(9,vi i),(11,vs l g j),(78,.bool (ak==0))] (pure (.value (.bool (ak==0))):Sem Next) (λ_ _ _ _ _=>rfl)<| G_sub [(1,vs (some d) lN lC),(6,vp (some f)),(8,vs b madeN_2 madeC_2),(9,vi i),(11,vs l g j),(78,.bool (ak==0))] sk<| G_end (by kernel_rfl)<| S_then ?_
   by_cases c31:ak=0
   ·rw[if_pos c31]at h
    exact T_cTz 78 (zK c31)<| T_rz 17<| T_n 2 [(1,vs (some d) lN lC),(6,vp (some f)),(8,vs l g j),(9,vi i)]<| zq<| S_blockEnd<| S_then<| T_rz 9<| T_ed 3 [9] [(9,vi (zY (i+1)))]<| S_round ((l,g,j,(zY (i+1))):zW×Nat×Nat×Int) sk h
   rw[if_neg c31]at h
   exact T_cFz 78 (zJ c31)<| T_k<| S_blockEnd<| S_then<| T_rz 9<| T_ne 3 [(1,vs (some d) lN lC),(6,vp (some f)),(8,vs b madeN_2 madeC_2),(9,vi (zY (i+1)))]<| S_round ((b,madeN_2,madeC_2,(zY (i+1))):zW×Nat×Nat×Int) sk h
  rw[if_neg c8]at h
  exact T_cFz 28 (zQ c8)<| zj 0<| S_exitThen<| S_exitThen<| S_exitHere<| S_then<| T_srz 18<| T_nr 4 [4,5] [vp (some f),vs m madeN madeC] hQ h
 rw[if_neg c1]at h
 exact N_bd 19 (bne_iff_ne.mpr c1)<| T_ed 3 [19] [(22,.bool true)]<| T_tz 22<| T_srz 3<| T_nr 2 [4,5] [vp none,vs none 0 0] hQ h
end morainelaw13_begun

/-! moraine/morainelaw13.awake -/
namespace morainelaw13_awake
def K0:=Func.code Tryz.f14
def K2:=cb K0
def K4:=cb K2
def K6:=cb K4
def K14:=cb K6
def K15:=ca K14
def K16:=cb K14
def K18:=cb K15
def K19:=ca K18
def K20:=ca K19
def K30:=ca K16
def K33:=cb K30
def K34:=ca K33
def K35:=ca K34
end morainelaw13_awake
def morainelaw13_awake.pt(H:zV)(R:Value->zV->Prop):Prop:=
 obj_New.C 200 H (λv H1=> ∃(ra:zW) (rb:Int),v=.tuple #[.pointer ra,.int .i64 rb]/\
 if rb=0 then(
 onPtr ra (
 R (.bool false) H1) (λa=>
 ∀(b:Nat) (H2:zV),b=H1.size->H2=H1.push (.cells #[.int .u64 0] 24)->
 (CanPuts H2 (ad b) 0 1)/\ ∀H3,H3=hputs H2 (ad b) [.int .u64 20] 0->
 ∃(af:Int->zV->Prop) (m21:Int->zV->Nat),af 0 H3/\ ∀(i:Int) (H4:zV),af i H4->
 if i<3 then(
 ∃x:Int,hat H4 (ad b)=some (.int .u64 x)/\
 obj_Heap_Cons.C (some a) 8 x H4 (λav H5=> ∃k ai:Int,av=.tuple #[.int .u64 k,.int .i64 ai]/\
 (CanPuts H5 (ad b) 0 1)/\ ∀H6,H6=hputs H5 (ad b) [.int .u64 k] 0->
 (af (zY (i+1)) H6/\m21 (zY (i+1)) H6<m21 i H4)))
 else
 ∃(ae:Int->zV->Prop) (m36:Int->zV->Nat),ae 0 H4/\ ∀(g:Int) (H7:zV),ae g H7->
 if g<100 then(
 ∃r:Int,hat H7 (ad b)=some (.int .u64 r)/\
 obj_Heap_Cons.C (some a) 8 r H7 (λaq H8=> ∃al ak:Int,aq=.tuple #[.int .u64 al,.int .i64 ak]/\
 (ae (zY (g+1)) H8/\m36 (zY (g+1)) H8<m36 g H7)))
 else
 ∀(u:Nat) (H9:zV),u=H7.size->H9=H7.push (.cells #[.pointer (some (ad b))] 33)->
 gc_Collect.C (some a) 0 1 (some (ad u)) 1 1 H9 (λap aj=> ∃j:Int,ap=.int .i64 j/\
 ∃z:Int,hat aj (ad b)=some (.int .u64 z)/\
 obj_Heap_Car.C (some a) z aj (λam q=> ∃f d:Int,am=.tuple #[.int .u64 f,.int .i64 d]/\
 if j=0 then(
 ∃ac:zW,hat q a=some (.pointer ac)/\
 ∃ag:Addr,ac=some ag/\
 ∃p:zW,hat q ag=some (.pointer p)/\
 ∀(t:Nat) (H12:zV),t=q.size->H12=q.push (.cells #[.int .i64 0] 3)->
 space_Space_Words.C p (some (ad t)) 1 1 H12 (λan s=> ∃n:Int,an=.int .i64 n/\
 if n=0 then(
 ∃ah:zW,hat s a=some (.pointer ah)/\
 ∃ab:Addr,ah=some ab/\
 ∃o:zW,hat s ab=some (.pointer o)/\
 ∀(y:Nat) (H14:zV),y=s.size->H14=s.push (.cells #[.int .i64 1] 3)->
 space_Space_Words.C o (some (ad y)) 1 1 H14 (λau aa=> ∃l:Int,au=.int .i64 l/\
 if l=6 then(
 if f=8 then(
 if d=0 then(
 gc_Collect.C (some a) 4 4 none 0 0 aa (λao aw=> ∃m:Int,ao=.int .i64 m/\
 R (.bool (m==1)) aw))
 else
 R (.bool false) aa)
 else
 R (.bool false) aa)
 else
 R (.bool false) aa))
 else
 R (.bool false) s))
 else
 R (.bool false) q))))
 else
 R (.bool false) H1)
namespace morainelaw13_awake
set_option maxRecDepth 100000 in
theorem link{H:zV}{R:Value->zV->Prop}(h:pt H R):C H R:=by
 refine T_en K0 84 Tryz.func14 ?_
 intro w0 Q hQ
 unfold pt zY at h
 refine T_su []<| T_srz 0<| T_ne 1 []<| T_srz 1 ?_
 refine T_c (some 10) h ?_;clear h
 rintro v H1 ⟨ra,rb,rfl,h⟩
 refine⟨[(10,.tuple #[vp ra,vi rb])],pk,?_⟩
 refine T_ne 5 [(1,vp ra),(2,vi rb)]<| T_sz<| T_srz 2<| T_nd 3 [2] [(15,.bool (rb !=0))] ?_
 by_cases c1:rb=0
 ·rw[if_pos c1]at h
  refine N_bd 15 (bne_eq_false_iff_eq.mpr c1)<| T_nd 1 [] [(16,vp ra)] ?_
  rcases ra with _ | a
  ·rw[onPtr_none]at h
   exact T_ne 2 [(1,vp none),(18,.bool true)]<| T_tz 18<| T_srz 3<| T_nr 1 [0] [.bool false] hQ h
  rw[onPtr_some]at h
  refine T_ne 2 [(1,vp (some a)),(18,.bool false)]<| T_fz 18<| T_kt<| T_srz 4<| T_ud [18] []<| T_nw (some 3) (λb=>vp (pa b)) (.cells #[vu 0] 24) ?_
  intro b H2 e3 e4
  replace h:=h b H2 e3 e4
  refine T_pd [] [(3,vp (pa b))] ?_
  obtain⟨q6,h⟩:=h
  refine T_st1 24 (vu 20) q6 ?_
  intro H3 e5
  replace h:=h H3 e5
  refine T_pd [] []<| T_e<| T_sz<| T_srz 5<| T_ed 1 [] [(4,vi 0)]<| T_bz 0 ?_
  obtain⟨af,m21,i7,i8⟩:=h
  refine S_loop (x:=K20) (σ:=Int) (λs_=> [(1,vp (some a)),(3,vp (pa b)),(4,vi s_)]) (λs_ H=>af s_ H) (λs_ H=>m21 s_ H) (0:Int) (by kernel_rfl) i7 sk ?_
  rintro i H4 i9
  have h:=i8 i H4 i9
  refine T_su [(1,vp (some a)),(3,vp (pa b)),(4,vi i)]<| T_sz<| T_srz 6<| T_ed 2 [] [(20,.bool (decide (i<3)))] ?_
  by_cases c10:i<3
  ·rw[if_pos c10]at h
   refine T_cTz 20 (zX c10)<| T_kt<| T_sz<| T_bz 1<| T_rz 8<| T_nd 1 [20] [(24,vp (some a))] ?_
   obtain⟨x,q12,h⟩:=h
   refine T_l1 25 24 q12 [] ?_
   refine T_c (some 26) h ?_;clear h
   rintro av H5 ⟨k,ai,rfl,h⟩
   refine T_pd [24,25] [(26,.tuple #[vu k,vi ai])]<| T_nd 3 [26] [(27,vu k)] ?_
   obtain⟨q14,h⟩:=h
   refine T_st1 24 (vu k) q14 ?_
   intro H6 e13
   replace h:=h H6 e13
   exact T_pd [27] []<| zq<| S_blockEnd<| S_then<| T_rz 7<| T_ed 3 [4] [(4,vi (zY (i+1)))]<| S_round ((zY (i+1)):Int) sk h
  rw[if_neg c10]at h
  refine T_cFz 20 (zQ c10)<| zj 0<| S_exitThen<| S_exitThen<| S_exitHere<| S_then<| T_sz<| T_srz 9<| T_ed 1 [4,20] [(5,vi 0)]<| T_bz 2 ?_
  obtain⟨ae,m36,i15,i16⟩:=h
  refine S_loop (x:=K35) (σ:=Int) (λs_=> [(1,vp (some a)),(3,vp (pa b)),(5,vi s_)]) (λs_ H=>ae s_ H) (λs_ H=>m36 s_ H) (0:Int) (by kernel_rfl) i15 sk ?_
  rintro g H7 i17
  have h:=i16 g H7 i17
  refine T_su [(1,vp (some a)),(3,vp (pa b)),(5,vi g)]<| T_sz<| T_srz 10<| T_ed 2 [] [(30,.bool (decide (g<100)))] ?_
  by_cases c18:g<100
  ·rw[if_pos c18]at h
   refine T_cTz 30 (zX c18)<| T_kt<| T_sz<| T_bz 3<| T_rz 12<| T_nd 1 [30] [(33,vp (some a))] ?_
   obtain⟨r,q20,h⟩:=h
   refine T_l1 34 24 q20 [] ?_
   refine T_c (some 35) h ?_;clear h
   rintro aq H8 ⟨al,ak,rfl,h⟩
   exact T_pd [33,34] []<| zq<| S_blockEnd<| S_then<| T_rz 11<| T_ed 3 [5] [(5,vi (zY (g+1)))]<| S_round ((zY (g+1)):Int) sk h
  rw[if_neg c18]at h
  refine T_cFz 30 (zQ c18)<| zj 2<| S_exitThen<| S_exitThen<| S_exitHere<| S_then<| T_srz 13<| T_nd 1 [5,30] [(36,vp (some a))]<| T_nw (some 37) (λb=>vs (pa b) 1 1) (.cells #[vp (pa b)] 33) ?_
  intro u H9 e21 e22
  replace h:=h u H9 e21 e22
  refine T_pd [] [(37,vs (pa u) 1 1)] ?_
  refine T_c (some 38) h ?_;clear h
  rintro ap aj ⟨j,rfl,h⟩
  refine T_pd [36,37] [(38,vi j)]<| T_ed 1 [38] [(6,vi j)]<| T_srz 14<| T_nd 1 [] [(40,vp (some a))] ?_
  obtain⟨z,q23,h⟩:=h
  refine T_l1 41 24 q23 [3] ?_
  refine T_c (some 42) h ?_;clear h
  rintro am q ⟨f,d,rfl,h⟩
  refine T_pd [40,41] [(42,.tuple #[vu f,vi d])]<| T_ed 5 [42] [(7,vu f),(8,vi d)]<| T_srz 15<| T_nd 3 [6] [(47,.bool (j==0))] ?_
  by_cases c24:j=0
  ·rw[if_pos c24]at h
   refine N_bd 47 (zK c24)<| T_nd 3 [] [(50,vp (some a))] ?_
   obtain⟨ac,q26,h⟩:=h
   refine T_l1 51 26 q26 [50] ?_
   obtain⟨ag,rfl,h⟩:=h
   refine T_nd 2 [51] [(53,vp (some ag))] ?_
   obtain⟨p,q27,h⟩:=h
   refine T_l1 54 39 q27 [53]<| T_nw (some 55) (λb=>vs (pa b) 1 1) (.cells #[vi 0] 3) ?_
   intro t H12 e28 e29
   replace h:=h t H12 e28 e29
   refine T_pd [] [(55,vs (pa t) 1 1)] ?_
   refine T_c (some 56) h ?_;clear h
   rintro an s ⟨n,rfl,h⟩
   refine T_pd [54,55] [(56,vi n)]<| T_nd 3 [47,56] [(59,.bool (n==0))] ?_
   by_cases c30:n=0
   ·rw[if_pos c30]at h
    refine N_bd 59 (zK c30)<| T_nd 3 [] [(62,vp (some a))] ?_
    obtain⟨ah,q32,h⟩:=h
    refine T_l1 63 26 q32 [62] ?_
    obtain⟨ab,rfl,h⟩:=h
    refine T_nd 2 [63] [(65,vp (some ab))] ?_
    obtain⟨o,q33,h⟩:=h
    refine T_l1 66 39 q33 [65]<| T_nw (some 67) (λb=>vs (pa b) 1 1) (.cells #[vi 1] 3) ?_
    intro y H14 e34 e35
    replace h:=h y H14 e34 e35
    refine T_pd [] [(67,vs (pa y) 1 1)] ?_
    refine T_c (some 68) h ?_;clear h
    rintro au aa ⟨l,rfl,h⟩
    refine T_pd [66,67] [(68,vi l)]<| T_nd 3 [59,68] [(71,.bool (l==6))] ?_
    by_cases c36:l=6
    ·rw[if_pos c36]at h
     refine N_bd 71 (zK c36)<| T_nd 4 [7,71] [(75,.bool (f==8))] ?_
     by_cases c38:f=8
     ·rw[if_pos c38]at h
      refine N_bd 75 (zK c38)<| T_nd 4 [8,75] [(79,.bool (d==0))] ?_
      by_cases c40:d=0
      ·rw[if_pos c40]at h
       refine N_bd 79 (zK c40)<| T_nd 1 [1] [(80,vp (some a))] ?_
       refine T_c (some 81) h ?_;clear h
       rintro ao aw ⟨m,rfl,h⟩
       exact T_pd [80] [(81,vi m)]<| T_nr 3 [0] [.bool (m==1)] hQ h
      rw[if_neg c40]at h
      exact N_bd 79 (zJ c40)<| T_nr 5 [0] [.bool false] hQ h
     rw[if_neg c38]at h
     exact N_bd 75 (zJ c38)<| T_nr 9 [0] [.bool false] hQ h
    rw[if_neg c36]at h
    exact N_bd 71 (zJ c36)<| T_nr 13 [0] [.bool false] hQ h
   rw[if_neg c30]at h
   exact N_bd 59 (zJ c30)<| T_nr 25 [0] [.bool false] hQ h
  rw[if_neg c24]at h
  exact N_bd 47 (zJ c24)<| T_nr 37 [0] [.bool false] hQ h
 rw[if_neg c1]at h
 exact N_bd 15 (bne_iff_ne.mpr c1)<| T_ed 3 [15] [(18,.bool true)]<| T_tz 18<| T_srz 3<| T_nr 1 [0] [.bool false] hQ h
end morainelaw13_awake

/-! (*moraine/morainelaw13.walk).of -/
namespace morainelaw13_walk_of
def K0:=Func.code Tryz.f46
def K2:=cb K0
def K3:=ca K2
def K6:=cb K3
def K7:=ca K6
def K10:=cb K7
end morainelaw13_walk_of
def morainelaw13_walk_of.pt(x:zW)(wv:Int)(H:zV)(R:Value->zV->Prop):Prop:=
 ∃J:Bool->zV->Prop,(
 ∃a:Addr,x=some a/\
 ∃m:zW,hat H a=some (.pointer m)/\
 obj_Heap_Size.C m wv H (λv H6=> ∃j:Int,v=.int .i64 j/\
 if j>0 then(
 ∃t:Option Nat,hat H6 (a.add 2)=some (.map t)/\
 ∃y:Nat,t=some y/\
 ∃(af:Array MapEntry) (cl_5:Nat) (ks_4:List (Int×Value)),H6[y]?=some (.map af cl_5)/\Ents (intKey .u64) af.toList ks_4/\
 ∃g:Int,(mget ks_4 wv).getD (.int .i64 0)=.int .i64 g/\
 J (g==0) H6)
 else
 J false H6))/\ ∀(i:Bool) (H1:zV),J i H1->
 if i=true then(
 ∃xA:Addr,x=some xA/\
 ∃(xB:zW) (xN xC:Nat),hat H1 (xA.add 1)=some (.slice xB xN xC)/\
 ∀(b:Nat) (H2:zV),b=H1.size->H2=H1.push (.cells #[.int .u64 wv] 24)->
 appendK 1 24 8 [.int .u64 0] xB xN xC (some (ad b)) 1 H2 (λap n H3=>
 (CanPuts H3 (xA.add 1) 0 1)/\ ∀H4,H4=hputs H3 (xA.add 1) [.slice ap (xN+1) n] 0->
 ∃f:Option Nat,hat H4 (xA.add 2)=some (.map f)/\
 ∃(r:zW) (d o:Nat),hat H4 (xA.add 1)=some (.slice r d o)/\
 ∃mr:Nat,f=some mr/\
 ∃(es:Array MapEntry) (cl:Nat) (ks:List (Int×Value)),H4[mr]?=some (.map es cl)/\Ents (intKey .u64) es.toList ks/\
 ∀(aa:Array MapEntry) (cl_2:Nat) (H5:zV),H5=setBlk H4 mr (.map aa cl_2)->Ents (intKey .u64) aa.toList (mput ks wv (.int .i64 (d:Int)))->
 ∃u:Option Nat,hat H5 (xA.add 2)=some (.map u)/\
 ∃ac:Nat,u=some ac/\
 ∃(ae:Array MapEntry) (cl_3:Nat) (ks_2:List (Int×Value)),H5[ac]?=some (.map ae cl_3)/\Ents (intKey .u64) ae.toList ks_2/\
 ∃p:Int,(mget ks_2 wv).getD (.int .i64 0)=.int .i64 p/\
 R (.int .i64 p) H5))
 else
 ∃l:Addr,x=some l/\
 ∃s:Option Nat,hat H1 (l.add 2)=some (.map s)/\
 ∃ab:Nat,s=some ab/\
 ∃(ag:Array MapEntry) (cl_4:Nat) (ks_3:List (Int×Value)),H1[ab]?=some (.map ag cl_4)/\Ents (intKey .u64) ag.toList ks_3/\
 ∃q:Int,(mget ks_3 wv).getD (.int .i64 0)=.int .i64 q/\
 R (.int .i64 q) H1
namespace morainelaw13_walk_of
set_option maxRecDepth 100000 in
theorem link{x:zW}{wv:Int}{H:zV}{R:Value->zV->Prop}(h:pt x wv H R):C x wv H R:=by
 refine T_en K0 47 Tryz.func46 ?_
 intro w0 Q hQ
 unfold pt at h
 refine T_su [(0,vp x),(1,vu wv)]<| T_srz 0<| T_ne 1 [(0,vp x),(1,vu wv)]<| T_sz<| T_sz ?_
 obtain⟨J,h,j2⟩:=h
 refine S_join (σ:=Bool) (λs_=> [(0,vp x),(1,vu wv),(20,.bool s_)]) (λs_ H=>J s_ H) ?_ ?_
 ·rintro i H1 j3
  replace h:=j2 i H1 j3
  refine T_su [(0,vp x),(1,vu wv),(20,.bool i)]<| S_then ?_
  by_cases c4:i=true
  ·rw[if_pos c4]at h
   have b5:i=true:=c4
   refine S_env [(0,vp x),(1,vu wv),(20,.bool true)] (by rw[b5]) ?_
   clear b5
   refine T_tz 20<| T_srz 2<| T_nd 2 [20] [(21,vp x),(22,vp x)] ?_
   obtain⟨xA,rfl,h⟩:=h
   refine T_n 2 [(0,vp (some xA)),(1,vu wv),(21,vp (some xA)),(24,vp (some (xA.add 1)))] ?_
   obtain⟨xB,xN,xC,q6,h⟩:=h
   refine T_l1 25 27 q6 [24]<| T_nd 1 [] [(26,vu wv)]<| T_nw (some 27) (λb=>vs (pa b) 1 1) (.cells #[vu wv] 24) ?_
   intro b H2 e7 e8
   replace h:=h b H2 e7 e8
   refine T_pd [26] [(27,vs (pa b) 1 1)] ?_
   refine N_op (some 28) (appendN #[27,27] 27 #[vs xB xN xC,vs (pa b) 1 1]) _ (λ_=>by kernel_rfl) (ss_append (T:=24) (sz:=1) (bytes:=8) (zero:=(vu 0:Value)) Tryz.underlying27 Tryz.underlying27 rfl (show Tryz.prog.info? 24=some Tryz.t24 from by kernel_rfl) (by kernel_rfl) (by kernel_rfl) (by decide) (by kernel_rfl) (by first | exact h | (simpa only[Value.cells,List.toList_toArray]using h))) ?_;clear h
   rintro _ H3 ⟨ap,n,rfl,h⟩
   refine T_pd [25,27] [(28,vs ap (xN+1) n)]<| T_nd 2 [21] [(30,vp (some (xA.add 1)))] ?_
   obtain⟨q10,h⟩:=h
   refine T_st1 27 (vs ap (xN+1) n) q10 ?_
   intro H4 e9
   replace h:=h H4 e9
   refine T_pd [28,30] []<| T_e ?_
   obtain⟨f,q11,h⟩:=h
   obtain⟨r,d,o,q12,h⟩:=h
   refine S_regionG 3 (Code.ops K10) [(10,(xA.add 2),[.map f]),(10,(xA.add 1),[vs r d o])] 11 (bv 11 0) (by kernel_rfl) (by kernel_rfl) (by kernel_rfl) (by kernel_rfl) (by kernel_rfl) (show FactsAt _ _ _ from⟨⟨q11,trivial⟩,⟨q12,trivial⟩,trivial⟩)<| T_gp 0 (some 31) (vp (some xA)) (bv 11 1) [(0,vp (some xA)),(1,vu wv),(31,vp (some xA))]<| T_gp1 1 32 (vp (some xA)) (bv 11 3) [31]<| T_gp1 2 33 (vp (some (xA.add 2))) (bv 11 7) [32]<| T_g1 3 34 (.map f) (bv 11 15) [33] (loadN 61 (vp (some (xA.add 2)))) (held_one 10 (λ_=>by kernel_rfl) (List.Mem.head _) (.inl (by kernel_rfl)))<| T_gp1 4 35 (vu wv) (bv 11 31) []<| T_gp1 5 36 (vp (some xA)) (bv 11 63) []<| T_gp1 6 37 (vp (some xA)) (bv 11 127) [36]<| T_gp1 7 38 (vp (some (xA.add 1))) (bv 11 255) [37]<| T_g1 8 39 (vs r d o) (bv 11 511) [38] (loadN 27 (vp (some (xA.add 1)))) (held_one 10 (λ_=>by kernel_rfl) (List.Mem.tail _ (List.Mem.head _)) (.inl (by kernel_rfl)))<| T_gp1 9 40 (vi d) (bv 11 1023) [39] ?_
   obtain⟨mr,rfl,h⟩:=h
   obtain⟨es,cl,ks,q13,q14,h⟩:=h
   refine G_onlyskip 10 none (bv 11 2047) (mapPutN 61 (.map (some mr)) (vu wv) (vi d)) (λHz=> ∃es2 cl2,Hz=setBlk H4 mr (.map es2 cl2)/\Ents (intKey .u64) es2.toList (mput ks wv (vi d))) (by kernel_rfl) (λ_=>by kernel_rfl) (λw hw=>by obtain⟨es2,cl2,q1,q2⟩:=mapPut_run (kk:=(intKey .u64)) (P:=Tryz.prog) (w:=w) (k:=wv) (v:=vi d) Tryz.underlying61 Tryz.underlying24 (by rw[hw];exact q13) q14;exact⟨_,q1,⟨rfl,rfl,rfl,Nat.le_refl _⟩,es2,cl2,by rw[<-hw],q2⟩) (by kernel_rfl) ?_
   rintro H5 ⟨aa,cl_2,e16,e17⟩
   replace h:=h aa cl_2 H5 e16 e17
   refine⟨[(0,vp (some xA)),(1,vu wv)],pk,(show FactsAt _ _ _ from⟨trivial,trivial,trivial⟩),?_⟩
   refine G_sub [(0,vp (some xA)),(1,vu wv)] sk ?_
   refine G_end (by kernel_rfl)<| S_then<| T_srz 4<| T_n 3 [(1,vu wv),(43,vp (some (xA.add 2)))] ?_
   obtain⟨u,q18,h⟩:=h
   refine T_l1 44 61 q18 [43]<| T_nd 1 [1] [(45,vu wv)] ?_
   obtain⟨ac,rfl,h⟩:=h
   obtain⟨ae,cl_3,ks_2,q19,q20,p,e22,h⟩:=h
   exact T_v1 46 (lookupN 61 (.map (some ac)) (vu wv) false) (vi p) (λw hw=>(lookup_run (kk:=(intKey .u64)) (z:=vi 0) Tryz.underlying61 Tryz.underlying24 (λ_=>by kernel_rfl) (by rw[hw];exact q19) q20 false).trans (by simp only[if_true,Bool.false_eq_true,if_false,e22])) [44,45]<| T_nr 1 [4] [vi p] hQ h
  rw[if_neg c4]at h
  have b5:i=false:=zZ c4
  refine S_env [(0,vp x),(1,vu wv),(20,.bool false)] (by rw[b5]) ?_
  clear b5
  refine T_fz 20<| T_kt<| T_srz 4<| T_nd 1 [0,20] [(41,vp x)] ?_
  obtain⟨l,rfl,h⟩:=h
  refine T_nd 2 [41] [(43,vp (some (l.add 2)))] ?_
  obtain⟨s,q24,h⟩:=h
  refine T_l1 44 61 q24 [43]<| T_nd 1 [1] [(45,vu wv)] ?_
  obtain⟨ab,rfl,h⟩:=h
  obtain⟨ag,cl_4,ks_3,q25,q26,q,e28,h⟩:=h
  exact T_v1 46 (lookupN 61 (.map (some ab)) (vu wv) false) (vi q) (λw hw=>(lookup_run (kk:=(intKey .u64)) (z:=vi 0) Tryz.underlying61 Tryz.underlying24 (λ_=>by kernel_rfl) (by rw[hw];exact q25) q26 false).trans (by simp only[if_true,Bool.false_eq_true,if_false,e28])) [44,45]<| T_nr 1 [4] [vi q] hQ h
 refine T_rz 1<| T_n 1 [(0,vp x),(1,vu wv),(5,vp x)] ?_
 obtain⟨a,rfl,h⟩:=h
 refine T_nd 2 [0,5] [(0,vp (some a)),(7,vp (some a))] ?_
 obtain⟨m,q30,h⟩:=h
 refine T_l1 8 22 q30 [7]<| T_nd 1 [] [(9,vu wv)] ?_
 refine T_c (some 10) h ?_;clear h
 rintro v H6 ⟨j,rfl,h⟩
 refine T_pd [8,9] [(10,vi j)]<| T_nd 2 [10] [(12,.bool (decide (j>0)))] ?_
 by_cases c31:j>0
 ·rw[if_pos c31]at h
  refine N_bd 12 (zX c31)<| T_nd 3 [] [(15,vp (some (a.add 2)))] ?_
  obtain⟨t,q33,h⟩:=h
  refine T_l1 16 61 q33 [15]<| T_nd 1 [] [(17,vu wv)] ?_
  obtain⟨y,rfl,h⟩:=h
  obtain⟨af,cl_5,ks_4,q34,q35,g,e37,h⟩:=h
  exact T_v1 18 (lookupN 61 (.map (some y)) (vu wv) false) (vi g) (λw hw=>(lookup_run (kk:=(intKey .u64)) (z:=vi 0) Tryz.underlying61 Tryz.underlying24 (λ_=>by kernel_rfl) (by rw[hw];exact q34) q35 false).trans (by simp only[if_true,Bool.false_eq_true,if_false,e37])) [16,17]<| T_ed 2 [12,18] [(20,.bool (g==0))]<| S_meet ((g==0):Bool) sk h
 rw[if_neg c31]at h
 refine N_bd 12 (zQ c31)<| T_ed 8 [12] [(20,.bool false)] ?_
 exact S_meet (false:Bool) sk h
end morainelaw13_walk_of

/-! moraine/morainelaw13.raw -/
namespace morainelaw13_raw
def K0:=Func.code Tryz.f47
end morainelaw13_raw
def morainelaw13_raw.pt(hv:zW)(wv:Int)(H:zV)(R:Value->zV->Prop):Prop:=
 obj_Heap_Type.C hv wv H (λv H1=> ∃x:Int,v=.int .i64 x/\
 if x=2 then(
 R (.bool true) H1)
 else
 obj_Heap_Type.C hv wv H1 (λb H2=> ∃a:Int,b=.int .i64 a/\
 R (.bool (a==3)) H2))
namespace morainelaw13_raw
set_option maxRecDepth 100000 in
theorem link{hv:zW}{wv:Int}{H:zV}{R:Value->zV->Prop}(h:pt hv wv H R):C hv wv H R:=by
 refine T_en K0 15 Tryz.func47 ?_
 intro w0 Q hQ
 unfold pt at h
 refine T_su [(0,vp hv),(1,vu wv)]<| T_srz 0<| T_ed 1 [] []<| T_srz 1<| T_nd 2 [] [(5,vp hv),(6,vu wv)] ?_
 refine T_c (some 7) h ?_;clear h
 rintro v H1 ⟨x,rfl,h⟩
 refine T_pd [5,6] [(7,vi x)]<| T_nd 2 [7] [(9,.bool (x==2))] ?_
 by_cases c1:x=2
 ·rw[if_pos c1]at h
  exact N_bd 9 (zK c1)<| T_nr 6 [4] [.bool true] hQ h
 rw[if_neg c1]at h
 refine N_bd 9 (zJ c1)<| T_nd 2 [0,1] [(10,vp hv),(11,vu wv)] ?_
 refine T_c (some 12) h ?_;clear h
 rintro b H2 ⟨a,rfl,h⟩
 exact T_pd [10,11] [(12,vi a)]<| T_nr 3 [4] [.bool (a==3)] hQ h
end morainelaw13_raw

/-! moraine/morainelaw13.alike -/
namespace morainelaw13_alike
def K0:=Func.code Tryz.f22
def K2:=cb K0
def K4:=cb K2
def K9:=ca K4
def K12:=cb K9
def K13:=ca K12
def K14:=ca K13
def K16:=cb K14
def K21:=ca K16
def K23:=ca K21
def K24:=ca K23
def K25:=cb K23
def K26:=ca K24
def K31:=cb K25
def K32:=ca K31
def K33:=ca K32
end morainelaw13_alike
def morainelaw13_alike.pt(aB:zW)(aN aC:Nat)(bB:zW)(bN bC:Nat)(H:zV)(R:Value->zV->Prop):Prop:=
 if(aN:Int)=(bN:Int)then(
 ∃(am:Int->zV->Prop) (m15:Int->zV->Nat),am 0 H/\ ∀(i:Int) (H1:zV),am i H1->
 if i< (aN:Int)then(
 ∃b:Addr,aB=some b/\
 ((0:Int)<=i/\i< (aN:Int))/\
 ∃x:Int,hat H1 (b.add (Int.toNat i*3))=some (.int .u64 x)/\
 ∃d:Addr,bB=some d/\
 ((0:Int)<=i/\i< (bN:Int))/\
 ∃j:Int,hat H1 (d.add (Int.toNat i*3))=some (.int .u64 j)/\
 if x=j then(
 ((0:Int)<=i/\i< (aN:Int))/\
 ∃(xB:zW) (xN xC:Nat),hat H1 ((b.add (Int.toNat i*3)).add 1)=some (.slice xB xN xC)/\
 ((0:Int)<=i/\i< (bN:Int))/\
 ∃(ac:zW) (ab z:Nat),hat H1 ((d.add (Int.toNat i*3)).add 1)=some (.slice ac ab z)/\
 morainelaw13_words.C xB xN xC ac ab z H1 (λv H2=> ∃m:Bool,v=.bool m/\
 if m=true then(
 ((0:Int)<=i/\i< (aN:Int))/\
 ∃(af:zW) (f ah:Nat),hat H2 ((b.add (Int.toNat i*3)).add 2)=some (.slice af f ah)/\
 ((0:Int)<=i/\i< (bN:Int))/\
 ∃(al:zW) (g ak:Nat),hat H2 ((d.add (Int.toNat i*3)).add 2)=some (.slice al g ak)/\
 RowAt H2 ((b.add (Int.toNat i*3)).add 2) 0 [.slice af f ah]/\if(f:Int)=(g:Int)then(
 ∃(an:Int->zV->Prop) (m34:Int->zV->Nat),an 0 H2/\ ∀(k:Int) (H3:zV),an k H3->
 ((0:Int)<=i/\i< (aN:Int))/\
 ∃(ai:zW) (n aj:Nat),hat H3 ((b.add (Int.toNat i*3)).add 2)=some (.slice ai n aj)/\
 if k< (n:Int)then(
 ((0:Int)<=i/\i< (aN:Int))/\
 ∃(ae:zW) (s aa:Nat),hat H3 ((b.add (Int.toNat i*3)).add 2)=some (.slice ae s aa)/\
 ∃r:Addr,ae=some r/\
 ((0:Int)<=k/\k< (s:Int))/\
 ∃l:Int,hat H3 (r.add (Int.toNat k*1))=some (.int .i64 l)/\
 ((0:Int)<=i/\i< (bN:Int))/\
 ∃(ag:zW) (o y:Nat),hat H3 ((d.add (Int.toNat i*3)).add 2)=some (.slice ag o y)/\
 ∃q:Addr,ag=some q/\
 ((0:Int)<=k/\k< (o:Int))/\
 ∃p:Int,hat H3 (q.add (Int.toNat k*1))=some (.int .i64 p)/\
 if l=p then(
 (an (zY (k+1)) H3/\m34 (zY (k+1)) H3<m34 k H3))
 else
 R (.bool false) H3)
 else
 (am (zY (i+1)) H3/\m15 (zY (i+1)) H3<m15 i H1))
 else
 R (.bool false) H2)
 else
 R (.bool false) H2))
 else
 R (.bool false) H1)
 else
 R (.bool true) H1)
 else
 R (.bool false) H
namespace morainelaw13_alike
set_option maxRecDepth 100000 in
theorem link{aB:zW}{aN aC:Nat}{bB:zW}{bN bC:Nat}{H:zV}{R:Value->zV->Prop}(h:pt aB aN aC bB bN bC H R):C aB aN aC bB bN bC H R:=by
 refine T_en K0 85 Tryz.func22 ?_
 intro w0 Q hQ
 unfold pt zY at h
 refine T_su [(0,vs aB aN aC),(1,vs bB bN bC)]<| T_srz 0<| T_ed 1 [] []<| T_sz<| T_srz 1<| T_ed 5 [] [(11,.bool ((aN:Int) !=(bN:Int)))] ?_
 by_cases c1:(aN:Int)=(bN:Int)
 ·rw[if_pos c1]at h
  refine T_cFz 11 (bne_eq_false_iff_eq.mpr c1)<| T_kt<| T_sz<| T_srz 3<| T_ed 1 [11] [(5,vi 0)]<| T_bz 0 ?_
  obtain⟨am,m15,i3,i4⟩:=h
  refine S_loop (x:=K14) (σ:=Int) (λs_=> [(0,vs aB aN aC),(1,vs bB bN bC),(5,vi s_)]) (λs_ H=>am s_ H) (λs_ H=>m15 s_ H) (0:Int) (by kernel_rfl) i3 sk ?_
  rintro i H1 i5
  have h:=i4 i H1 i5
  refine T_su [(0,vs aB aN aC),(1,vs bB bN bC),(5,vi i)]<| T_sz<| T_srz 4<| T_ed 4 [] [(15,.bool (decide (i< (aN:Int))))] ?_
  by_cases c6:i< (aN:Int)
  ·rw[if_pos c6]at h
   refine T_cTz 15 (zX c6)<| T_kt<| T_sz<| T_bz 1<| T_sz<| T_sz ?_
   obtain⟨b,rfl,h⟩:=h
   obtain⟨q8,h⟩:=h
   obtain⟨x,q9,h⟩:=h
   obtain⟨d,rfl,h⟩:=h
   obtain⟨q10,h⟩:=h
   obtain⟨j,q11,h⟩:=h
   by_cases c12:x=j
   ·rw[if_pos c12]at h
    obtain⟨q14,h⟩:=h
    obtain⟨xB,xN,xC,q15,h⟩:=h
    obtain⟨q16,h⟩:=h
    obtain⟨ac,ab,z,q17,h⟩:=h
    refine S_regionG 6 (Code.ops K26) [(22,(b.add (Int.toNat i*3)),[vu x]),(22,(d.add (Int.toNat i*3)),[vu j]),(22,((b.add (Int.toNat i*3)).add 1),[vs xB xN xC]),(22,((d.add (Int.toNat i*3)).add 1),[vs ac ab z])] 40 (bv 40 0) (by kernel_rfl) (by kernel_rfl) (by kernel_rfl) (by kernel_rfl) (by kernel_rfl) (show FactsAt _ _ _ from⟨⟨q9,trivial⟩,⟨q11,trivial⟩,⟨q15,trivial⟩,⟨q17,trivial⟩,trivial⟩)<| T_gp 0 (some 18) (vs (some b) aN aC) (bv 40 1) [(0,vs (some b) aN aC),(1,vs (some d) bN bC),(5,vi i),(18,vs (some b) aN aC)]<| T_gp1 1 19 (vi i) (bv 40 3) []<| T_g1 2 20 (vp (some (b.add (Int.toNat i*3)))) (bv 40 7) [18,19] (indexAtN 59 (vs (some b) aN aC) (vi i)) (λ_ w _ _ _=>indexAt_run (P:=Tryz.prog) (t:=59) (elem:=104) (sz:=3) (a:=b) (len:=aN) (cap:=aC) (k:=.i64) (i:=i) Tryz.underlying59 (λ_=>by kernel_rfl) q8.1 q8.2 w)<| T_gp1 3 21 (vp (some (b.add (Int.toNat i*3)))) (bv 40 15) [20]<| T_g1 4 22 (vu x) (bv 40 31) [21] (loadN 24 (vp (some (b.add (Int.toNat i*3))))) (held_one 22 (λ_=>by kernel_rfl) (List.Mem.head _) (.inl (by kernel_rfl)))<| T_gp1 5 23 (vs (some d) bN bC) (bv 40 63) []<| T_gp1 6 24 (vi i) (bv 40 127) []<| T_g1 7 25 (vp (some (d.add (Int.toNat i*3)))) (bv 40 255) [23,24] (indexAtN 59 (vs (some d) bN bC) (vi i)) (λ_ w _ _ _=>indexAt_run (P:=Tryz.prog) (t:=59) (elem:=104) (sz:=3) (a:=d) (len:=bN) (cap:=bC) (k:=.i64) (i:=i) Tryz.underlying59 (λ_=>by kernel_rfl) q10.1 q10.2 w)<| T_gp1 8 26 (vp (some (d.add (Int.toNat i*3)))) (bv 40 511) [25]<| T_g1 9 27 (vu j) (bv 40 1023) [26] (loadN 24 (vp (some (d.add (Int.toNat i*3))))) (held_one 22 (λ_=>by kernel_rfl) (List.Mem.tail _ (List.Mem.head _)) (.inl (by kernel_rfl)))<| T_gp1 10 28 (.bool (x !=j)) (bv 40 2047) [22,27]<| T_gp1 11 29 (.bool (x !=j)) (bv 40 4095) [28]<| G_bd 29 (bne_eq_false_iff_eq.mpr c12)<| T_gp1 12 30 (vs (some b) aN aC) (bv 40 8191) []<| T_gp1 13 31 (vi i) (bv 40 16383) []<| T_g1 14 32 (vp (some (b.add (Int.toNat i*3)))) (bv 40 32767) [30,31] (indexAtN 59 (vs (some b) aN aC) (vi i)) (λ_ w _ _ _=>indexAt_run (P:=Tryz.prog) (t:=59) (elem:=104) (sz:=3) (a:=b) (len:=aN) (cap:=aC) (k:=.i64) (i:=i) Tryz.underlying59 (λ_=>by kernel_rfl) q14.1 q14.2 w)<| T_gp1 15 33 (vp (some ((b.add (Int.toNat i*3)).add 1))) (bv 40 65535) [32]<| T_g1 16 34 (vs xB xN xC) (bv 40 131071) [33] (loadN 27 (vp (some ((b.add (Int.toNat i*3)).add 1)))) (held_one 22 (λ_=>by kernel_rfl) (List.Mem.tail _ (List.Mem.tail _ (List.Mem.head _))) (.inl (by kernel_rfl)))<| T_gp1 17 35 (vs (some d) bN bC) (bv 40 262143) []<| T_gp1 18 36 (vi i) (bv 40 524287) []<| T_g1 19 37 (vp (some (d.add (Int.toNat i*3)))) (bv 40 1048575) [35,36] (indexAtN 59 (vs (some d) bN bC) (vi i)) (λ_ w _ _ _=>indexAt_run (P:=Tryz.prog) (t:=59) (elem:=104) (sz:=3) (a:=d) (len:=bN) (cap:=bC) (k:=.i64) (i:=i) Tryz.underlying59 (λ_=>by kernel_rfl) q16.1 q16.2 w)<| T_gp1 20 38 (vp (some ((d.add (Int.toNat i*3)).add 1))) (bv 40 2097151) [37]<| T_g1 21 39 (vs ac ab z) (bv 40 4194303) [38] (loadN 27 (vp (some ((d.add (Int.toNat i*3)).add 1)))) (held_one 22 (λ_=>by kernel_rfl) (List.Mem.tail _ (List.Mem.tail _ (List.Mem.tail _ (List.Mem.head _)))) (.inl (by kernel_rfl))) ?_
    refine G_call 22 (some 40) (bv 40 8388607) 50 #[vs xB xN xC,vs ac ab z] (by kernel_rfl) (λ_=>by kernel_rfl) h (by kernel_rfl) ?_;clear h
    rintro v H2 ⟨m,rfl,h⟩
    refine⟨[(0,vs (some b) aN aC),(1,vs (some d) bN bC),(5,vi i),(29,.bool false),(40,.bool m)],pk,(show FactsAt _ _ _ from⟨trivial,trivial,trivial,trivial,trivial⟩),?_⟩
    refine T_g 23 (some 41) (.bool (!m)) (bv 40 16777215) [(0,vs (some b) aN aC),(1,vs (some d) bN bC),(5,vi i),(29,.bool false),(41,.bool (!m))] (pure (.value (.bool (!m))):Sem Next) (λ_ _ _ _ _=>rfl)<| T_g1 24 42 (.bool (!m)) (bv 40 33554431) [29,41] (pure (.value (.bool (!m))):Sem Next) (λ_ _ _ _ _=>rfl)<| T_g1 25 43 (.bool (!m)) (bv 40 67108863) [42] (pure (.value (.bool (!m))):Sem Next) (λ_ _ _ _ _=>rfl) ?_
    by_cases c18:m=true
    ·rw[if_pos c18]at h
     have b19:(!m)=false:=congrArg Bool.not (c18)
     have b192:m=true:=c18
     refine G_bd 43 (b:=(!m)) (v:=false) (by simp only[b19,b192,Bool.not_true,Bool.not_false]) ?_
     clear b19 b192
     refine T_g1 26 44 (vs (some b) aN aC) (bv 40 134217727) [] (pure (.value (vs (some b) aN aC)):Sem Next) (λ_ _ _ _ _=>rfl)<| T_g1 27 45 (vi i) (bv 40 268435455) [] (pure (.value (vi i)):Sem Next) (λ_ _ _ _ _=>rfl) ?_
     obtain⟨q20,h⟩:=h
     refine T_g1 28 46 (vp (some (b.add (Int.toNat i*3)))) (bv 40 536870911) [44,45] (indexAtN 59 (vs (some b) aN aC) (vi i)) (λ_ w _ _ _=>indexAt_run (P:=Tryz.prog) (t:=59) (elem:=104) (sz:=3) (a:=b) (len:=aN) (cap:=aC) (k:=.i64) (i:=i) Tryz.underlying59 (λ_=>by kernel_rfl) q20.1 q20.2 w)<| T_g1 29 47 (vp (some ((b.add (Int.toNat i*3)).add 2))) (bv 40 1073741823) [46] (pure (.value (vp (some ((b.add (Int.toNat i*3)).add 2)))):Sem Next) (λ_ _ _ _ _=>rfl) ?_
     obtain⟨af,f,ah,q21,h⟩:=h
     refine G_more (40,((b.add (Int.toNat i*3)).add 2),[vs af f ah]) ⟨q21,trivial⟩ ?_
     refine T_g1 30 48 (vs af f ah) (bv 40 2147483647) [47] (loadN 67 (vp (some ((b.add (Int.toNat i*3)).add 2)))) (held_one 40 (λ_=>by kernel_rfl) (List.Mem.head _) (.inr (by kernel_rfl)))<| T_g1 31 49 (vi f) (bv 40 4294967295) [48] (pure (.value (vi f)):Sem Next) (λ_ _ _ _ _=>rfl)<| T_g1 32 50 (vs (some d) bN bC) (bv 40 8589934591) [] (pure (.value (vs (some d) bN bC)):Sem Next) (λ_ _ _ _ _=>rfl)<| T_g1 33 51 (vi i) (bv 40 17179869183) [] (pure (.value (vi i)):Sem Next) (λ_ _ _ _ _=>rfl) ?_
     obtain⟨q22,h⟩:=h
     refine T_g1 34 52 (vp (some (d.add (Int.toNat i*3)))) (bv 40 34359738367) [50,51] (indexAtN 59 (vs (some d) bN bC) (vi i)) (λ_ w _ _ _=>indexAt_run (P:=Tryz.prog) (t:=59) (elem:=104) (sz:=3) (a:=d) (len:=bN) (cap:=bC) (k:=.i64) (i:=i) Tryz.underlying59 (λ_=>by kernel_rfl) q22.1 q22.2 w)<| T_g1 35 53 (vp (some ((d.add (Int.toNat i*3)).add 2))) (bv 40 68719476735) [52] (pure (.value (vp (some ((d.add (Int.toNat i*3)).add 2)))):Sem Next) (λ_ _ _ _ _=>rfl) ?_
     obtain⟨al,g,ak,q24,h⟩:=h
     refine G_only 36 (some 54) (bv 40 137438953471) (loadN 67 (vp (some ((d.add (Int.toNat i*3)).add 2)))) (λu H1=>u=vs al g ak/\H1=H2) (by kernel_rfl) (λ_=>by kernel_rfl) (ss_load (loadOK_one (λ_=>by kernel_rfl) q24)) (by kernel_rfl) ?_
     rintro _ _ ⟨rfl,rfl⟩
     obtain⟨f23,h⟩:=h
     refine⟨[(0,vs (some b) aN aC),(1,vs (some d) bN bC),(5,vi i),(43,.bool false),(49,vi f),(54,vs al g ak)],pk,(show FactsAt _ _ _ from⟨f23,trivial,trivial,trivial,trivial,trivial⟩),?_⟩
     refine T_g 37 (some 55) (vi g) (bv 40 274877906943) [(0,vs (some b) aN aC),(1,vs (some d) bN bC),(5,vi i),(43,.bool false),(49,vi f),(55,vi g)] (pure (.value (vi g)):Sem Next) (λ_ _ _ _ _=>rfl)<| T_g1 38 56 (.bool ((f:Int) !=(g:Int))) (bv 40 549755813887) [49,55] (pure (.value (.bool ((f:Int) !=(g:Int)))):Sem Next) (λ_ _ _ _ _=>rfl)<| T_g1 39 57 (.bool ((f:Int) !=(g:Int))) (bv 40 1099511627775) [43,56] (pure (.value (.bool ((f:Int) !=(g:Int)))):Sem Next) (λ_ _ _ _ _=>rfl)<| G_sub [(0,vs (some b) aN aC),(1,vs (some d) bN bC),(5,vi i),(57,.bool ((f:Int) !=(g:Int)))] sk<| G_end (by kernel_rfl)<| S_then ?_
     by_cases c25:(f:Int)=(g:Int)
     ·rw[if_pos c25]at h
      refine T_cFz 57 (bne_eq_false_iff_eq.mpr c25)<| T_kt<| T_srz 8<| T_ne 1 [(0,vs (some b) aN aC),(1,vs (some d) bN bC),(5,vi i),(6,vi 0)]<| T_bz 2 ?_
      obtain⟨an,m34,i27,i28⟩:=h
      refine S_loop (x:=K33) (σ:=Int) (λs_=> [(0,vs (some b) aN aC),(1,vs (some d) bN bC),(5,vi i),(6,vi s_)]) (λs_ H=>an s_ H) (λs_ H=>m34 s_ H) (0:Int) (by kernel_rfl) i27 sk ?_
      rintro k H3 i29
      have h:=i28 k H3 i29
      refine T_su [(0,vs (some b) aN aC),(1,vs (some d) bN bC),(5,vi i),(6,vi k)]<| T_sz<| T_srz 9<| T_nd 3 [] [(58,vi k),(59,vs (some b) aN aC),(60,vi i)] ?_
      obtain⟨q30,h⟩:=h
      refine T_xd (some 61) 59 104 3 b aN aC .i64 i Tryz.underlying59 q30.1 q30.2 [59,60] [(61,vp (some (b.add (Int.toNat i*3))))]<| T_nd 1 [61] [(62,vp (some ((b.add (Int.toNat i*3)).add 2)))] ?_
      obtain⟨ai,n,aj,q31,h⟩:=h
      refine T_l1 63 67 q31 [62]<| T_ed 2 [58,63] [(65,.bool (decide (k< (n:Int))))] ?_
      by_cases c32:k< (n:Int)
      ·rw[if_pos c32]at h
       refine T_cTz 65 (zX c32)<| T_kt<| T_sz<| T_bz 3<| T_sz<| T_rqz 11<| T_q1 68 (vs (some b) aN aC) [65]<| T_q1 69 (vi i) [] ?_
       obtain⟨q34,h⟩:=h
       refine Q_op (some 70) (indexAtN 59 (vs (some b) aN aC) (vi i)) (vp (some (b.add (Int.toNat i*3)))) (λ_=>by kernel_rfl) (λw _=>indexAt_run (P:=Tryz.prog) (t:=59) (elem:=104) (sz:=3) (a:=b) (len:=aN) (cap:=aC) (k:=.i64) (i:=i) Tryz.underlying59 (λ_=>by kernel_rfl) q34.1 q34.2 w) [(0,vs (some b) aN aC),(1,vs (some d) bN bC),(5,vi i),(6,vi k),(70,vp (some (b.add (Int.toNat i*3))))] pk ?_
       refine T_q (some 71) (vp (some ((b.add (Int.toNat i*3)).add 2))) [(0,vs (some b) aN aC),(1,vs (some d) bN bC),(5,vi i),(6,vi k),(71,vp (some ((b.add (Int.toNat i*3)).add 2)))] ?_
       obtain⟨ae,s,aa,q35,h⟩:=h
       refine T_qld (some 72) 67 q35 [71] [(72,vs ae s aa)]<| T_q1 73 (vi k) [] ?_
       obtain⟨r,rfl,h⟩:=h
       obtain⟨q36,h⟩:=h
       refine Q_op (some 74) (indexAtN 67 (vs (some r) s aa) (vi k)) (vp (some (r.add (Int.toNat k*1)))) (λ_=>by kernel_rfl) (λw _=>indexAt_run (P:=Tryz.prog) (t:=67) (elem:=3) (sz:=1) (a:=r) (len:=s) (cap:=aa) (k:=.i64) (i:=k) Tryz.underlying67 (λ_=>by kernel_rfl) q36.1 q36.2 w) [(0,vs (some b) aN aC),(1,vs (some d) bN bC),(5,vi i),(6,vi k),(74,vp (some (r.add (Int.toNat k*1))))] pk ?_
       obtain⟨l,q37,h⟩:=h
       refine T_ql (some 75) 3 q37 [(0,vs (some b) aN aC),(1,vs (some d) bN bC),(5,vi i),(6,vi k),(75,vi l)]<| T_q1 76 (vs (some d) bN bC) []<| T_q1 77 (vi i) [] ?_
       obtain⟨q38,h⟩:=h
       refine Q_op (some 78) (indexAtN 59 (vs (some d) bN bC) (vi i)) (vp (some (d.add (Int.toNat i*3)))) (λ_=>by kernel_rfl) (λw _=>indexAt_run (P:=Tryz.prog) (t:=59) (elem:=104) (sz:=3) (a:=d) (len:=bN) (cap:=bC) (k:=.i64) (i:=i) Tryz.underlying59 (λ_=>by kernel_rfl) q38.1 q38.2 w) [(0,vs (some b) aN aC),(1,vs (some d) bN bC),(5,vi i),(6,vi k),(75,vi l),(78,vp (some (d.add (Int.toNat i*3))))] pk ?_
       refine T_q (some 79) (vp (some ((d.add (Int.toNat i*3)).add 2))) [(0,vs (some b) aN aC),(1,vs (some d) bN bC),(5,vi i),(6,vi k),(75,vi l),(79,vp (some ((d.add (Int.toNat i*3)).add 2)))] ?_
       obtain⟨ag,o,y,q39,h⟩:=h
       refine T_qld (some 80) 67 q39 [79] [(80,vs ag o y)]<| T_q1 81 (vi k) [] ?_
       obtain⟨q,rfl,h⟩:=h
       obtain⟨q40,h⟩:=h
       refine Q_op (some 82) (indexAtN 67 (vs (some q) o y) (vi k)) (vp (some (q.add (Int.toNat k*1)))) (λ_=>by kernel_rfl) (λw _=>indexAt_run (P:=Tryz.prog) (t:=67) (elem:=3) (sz:=1) (a:=q) (len:=o) (cap:=y) (k:=.i64) (i:=k) Tryz.underlying67 (λ_=>by kernel_rfl) q40.1 q40.2 w) [(0,vs (some b) aN aC),(1,vs (some d) bN bC),(5,vi i),(6,vi k),(75,vi l),(82,vp (some (q.add (Int.toNat k*1))))] pk ?_
       obtain⟨p,q41,h⟩:=h
       refine T_ql (some 83) 3 q41 [(0,vs (some b) aN aC),(1,vs (some d) bN bC),(5,vi i),(6,vi k),(75,vi l),(83,vi p)]<| T_q1 84 (.bool (l !=p)) [75,83]<| Q_sub [(0,vs (some b) aN aC),(1,vs (some d) bN bC),(5,vi i),(6,vi k),(84,.bool (l !=p))] sk<| T_qe ?_
       by_cases c42:l=p
       ·rw[if_pos c42]at h
        exact T_cFz 84 (bne_eq_false_iff_eq.mpr c42)<| T_k<| S_blockEnd<| S_then<| T_rz 10<| T_ne 3 [(0,vs (some b) aN aC),(1,vs (some d) bN bC),(5,vi i),(6,vi (zY (k+1)))]<| S_round ((zY (k+1)):Int) sk h
       rw[if_neg c42]at h
       exact T_cTz 84 (bne_iff_ne.mpr c42)<| T_srz 12<| T_nr 1 [4] [.bool false] hQ h
      rw[if_neg c32]at h
      exact T_cFz 65 (zQ c32)<| zj 2<| S_exitThen<| S_exitThen<| S_exitHere<| S_blockEnd<| S_then<| T_rz 5<| T_ed 3 [5,6,65] [(5,vi (zY (i+1)))]<| S_round ((zY (i+1)):Int) sk h
     rw[if_neg c25]at h
     exact T_cTz 57 (bne_iff_ne.mpr c25)<| T_srz 7<| T_nr 1 [4] [.bool false] hQ h
    rw[if_neg c18]at h
    have b19:(!m)=true:=congrArg Bool.not (zZ c18)
    have b192:m=false:=zZ c18
    refine G_bd 43 (b:=(!m)) (v:=true) (by simp only[b19,b192,Bool.not_true,Bool.not_false]) ?_
    clear b19 b192
    exact T_gsd 26 (some 44) (bv 40 134217727) [] [(44,undef)]<| T_gsd 27 (some 45) (bv 40 268435455) [] [(45,undef)]<| T_gsd 28 (some 46) (bv 40 536870911) [44,45] [(46,undef)]<| T_gsd 29 (some 47) (bv 40 1073741823) [46] [(47,undef)]<| T_gsd 30 (some 48) (bv 40 2147483647) [47] [(48,undef)]<| T_gsd 31 (some 49) (bv 40 4294967295) [48] [(49,undef)]<| T_gsd 32 (some 50) (bv 40 8589934591) [] [(50,undef)]<| T_gsd 33 (some 51) (bv 40 17179869183) [] [(51,undef)]<| T_gsd 34 (some 52) (bv 40 34359738367) [50,51] [(52,undef)]<| T_gsd 35 (some 53) (bv 40 68719476735) [52] [(53,undef)]<| T_gsd 36 (some 54) (bv 40 137438953471) [53] [(54,undef)]<| T_gsd 37 (some 55) (bv 40 274877906943) [54] [(55,undef)]<| T_gsd 38 (some 56) (bv 40 549755813887) [49,55] [(56,undef)]<| T_g1 39 57 (.bool true) (bv 40 1099511627775) [43,56] (pure (.value (.bool true)):Sem Next) (λ_ _ _ _ _=>rfl)<| G_sub [(0,vs (some b) aN aC),(1,vs (some d) bN bC),(5,vi i),(57,.bool true)] sk<| G_end (by kernel_rfl)<| S_then<| T_tz 57<| T_srz 7<| T_nr 1 [4] [.bool false] hQ h
   rw[if_neg c12]at h
   exact S_regionG 6 (Code.ops K26) [(40,(b.add (Int.toNat i*3)),[vu x]),(40,(d.add (Int.toNat i*3)),[vu j])] 40 (bv 40 0) (by kernel_rfl) (by kernel_rfl) (by kernel_rfl) (by kernel_rfl) (by kernel_rfl) (show FactsAt _ _ _ from⟨⟨q9,trivial⟩,⟨q11,trivial⟩,trivial⟩)<| T_gp 0 (some 18) (vs (some b) aN aC) (bv 40 1) [(0,vs (some b) aN aC),(1,vs (some d) bN bC),(5,vi i),(18,vs (some b) aN aC)]<| T_gp1 1 19 (vi i) (bv 40 3) []<| T_g1 2 20 (vp (some (b.add (Int.toNat i*3)))) (bv 40 7) [18,19] (indexAtN 59 (vs (some b) aN aC) (vi i)) (λ_ w _ _ _=>indexAt_run (P:=Tryz.prog) (t:=59) (elem:=104) (sz:=3) (a:=b) (len:=aN) (cap:=aC) (k:=.i64) (i:=i) Tryz.underlying59 (λ_=>by kernel_rfl) q8.1 q8.2 w)<| T_gp1 3 21 (vp (some (b.add (Int.toNat i*3)))) (bv 40 15) [20]<| T_g1 4 22 (vu x) (bv 40 31) [21] (loadN 24 (vp (some (b.add (Int.toNat i*3))))) (held_one 40 (λ_=>by kernel_rfl) (List.Mem.head _) (.inr (by kernel_rfl)))<| T_gp1 5 23 (vs (some d) bN bC) (bv 40 63) []<| T_gp1 6 24 (vi i) (bv 40 127) []<| T_g1 7 25 (vp (some (d.add (Int.toNat i*3)))) (bv 40 255) [23,24] (indexAtN 59 (vs (some d) bN bC) (vi i)) (λ_ w _ _ _=>indexAt_run (P:=Tryz.prog) (t:=59) (elem:=104) (sz:=3) (a:=d) (len:=bN) (cap:=bC) (k:=.i64) (i:=i) Tryz.underlying59 (λ_=>by kernel_rfl) q10.1 q10.2 w)<| T_gp1 8 26 (vp (some (d.add (Int.toNat i*3)))) (bv 40 511) [25]<| T_g1 9 27 (vu j) (bv 40 1023) [26] (loadN 24 (vp (some (d.add (Int.toNat i*3))))) (held_one 40 (λ_=>by kernel_rfl) (List.Mem.tail _ (List.Mem.head _)) (.inr (by kernel_rfl)))<| T_gp1 10 28 (.bool (x !=j)) (bv 40 2047) [22,27]<| T_gp1 11 29 (.bool (x !=j)) (bv 40 4095) [28]<| G_bd 29 (bne_iff_ne.mpr c12)<| T_gsd 12 (some 30) (bv 40 8191) [] [(30,undef)]<| T_gsd 13 (some 31) (bv 40 16383) [] [(31,undef)]<| T_gsd 14 (some 32) (bv 40 32767) [30,31] [(32,undef)]<| T_gsd 15 (some 33) (bv 40 65535) [32] [(33,undef)]<| T_gsd 16 (some 34) (bv 40 131071) [33] [(34,undef)]<| T_gsd 17 (some 35) (bv 40 262143) [] [(35,undef)]<| T_gsd 18 (some 36) (bv 40 524287) [] [(36,undef)]<| T_gsd 19 (some 37) (bv 40 1048575) [35,36] [(37,undef)]<| T_gsd 20 (some 38) (bv 40 2097151) [37] [(38,undef)]<| T_gsd 21 (some 39) (bv 40 4194303) [38] [(39,undef)]<| T_gsd 22 (some 40) (bv 40 8388607) [34,39] [(40,undef)]<| T_gsd 23 (some 41) (bv 40 16777215) [40] [(41,undef)]<| T_gp1 24 42 (.bool true) (bv 40 33554431) [29,41]<| T_gp1 25 43 (.bool true) (bv 40 67108863) [42]<| T_gsd 26 (some 44) (bv 40 134217727) [] [(44,undef)]<| T_gsd 27 (some 45) (bv 40 268435455) [] [(45,undef)]<| T_gsd 28 (some 46) (bv 40 536870911) [44,45] [(46,undef)]<| T_gsd 29 (some 47) (bv 40 1073741823) [46] [(47,undef)]<| T_gsd 30 (some 48) (bv 40 2147483647) [47] [(48,undef)]<| T_gsd 31 (some 49) (bv 40 4294967295) [48] [(49,undef)]<| T_gsd 32 (some 50) (bv 40 8589934591) [] [(50,undef)]<| T_gsd 33 (some 51) (bv 40 17179869183) [] [(51,undef)]<| T_gsd 34 (some 52) (bv 40 34359738367) [50,51] [(52,undef)]<| T_gsd 35 (some 53) (bv 40 68719476735) [52] [(53,undef)]<| T_gsd 36 (some 54) (bv 40 137438953471) [53] [(54,undef)]<| T_gsd 37 (some 55) (bv 40 274877906943) [54] [(55,undef)]<| T_gsd 38 (some 56) (bv 40 549755813887) [49,55] [(56,undef)]<| T_gp1 39 57 (.bool true) (bv 40 1099511627775) [43,56]<| G_sub [(0,vs (some b) aN aC),(1,vs (some d) bN bC),(5,vi i),(57,.bool true)] sk<| G_end (by kernel_rfl)<| S_then<| T_tz 57<| T_srz 7<| T_nr 1 [4] [.bool false] hQ h
  rw[if_neg c6]at h
  exact T_cFz 15 (zQ c6)<| zj 0<| S_exitThen<| S_exitThen<| S_exitHere<| S_then<| T_srz 13<| T_nr 1 [4] [.bool true] hQ h
 rw[if_neg c1]at h
 exact T_cTz 11 (bne_iff_ne.mpr c1)<| T_srz 2<| T_nr 1 [4] [.bool false] hQ h
end morainelaw13_alike

/-! moraine/morainelaw13.words -/
namespace morainelaw13_words
def K0:=Func.code Tryz.f50
def K2:=cb K0
def K4:=cb K2
def K9:=ca K4
def K12:=cb K9
def K13:=ca K12
def K14:=ca K13
end morainelaw13_words
def morainelaw13_words.pt(aB:zW)(aN aC:Nat)(bB:zW)(bN bC:Nat)(H:zV)(R:Value->zV->Prop):Prop:=
 if(aN:Int)=(bN:Int)then(
 ∃(g:Int->zV->Prop) (m15:Int->zV->Nat),g 0 H/\ ∀(i:Int) (H1:zV),g i H1->
 if i< (aN:Int)then(
 ∃b:Addr,aB=some b/\
 ((0:Int)<=i/\i< (aN:Int))/\
 ∃x:Int,hat H1 (b.add (Int.toNat i*1))=some (.int .u64 x)/\
 ∃d:Addr,bB=some d/\
 ((0:Int)<=i/\i< (bN:Int))/\
 ∃f:Int,hat H1 (d.add (Int.toNat i*1))=some (.int .u64 f)/\
 if x=f then(
 (g (zY (i+1)) H1/\m15 (zY (i+1)) H1<m15 i H1))
 else
 R (.bool false) H1)
 else
 R (.bool true) H1)
 else
 R (.bool false) H
namespace morainelaw13_words
set_option maxRecDepth 100000 in
theorem link{aB:zW}{aN aC:Nat}{bB:zW}{bN bC:Nat}{H:zV}{R:Value->zV->Prop}(h:pt aB aN aC bB bN bC H R):C aB aN aC bB bN bC H R:=by
 refine T_en K0 26 Tryz.func50 ?_
 intro w0 Q hQ
 unfold pt zY at h
 refine T_su [(0,vs aB aN aC),(1,vs bB bN bC)]<| T_srz 0<| T_ed 1 [] []<| T_sz<| T_srz 1<| T_ed 5 [] [(10,.bool ((aN:Int) !=(bN:Int)))] ?_
 by_cases c1:(aN:Int)=(bN:Int)
 ·rw[if_pos c1]at h
  refine T_cFz 10 (bne_eq_false_iff_eq.mpr c1)<| T_kt<| T_sz<| T_srz 3<| T_ed 1 [10] [(5,vi 0)]<| T_bz 0 ?_
  obtain⟨g,m15,i3,i4⟩:=h
  refine S_loop (x:=K14) (σ:=Int) (λs_=> [(0,vs aB aN aC),(1,vs bB bN bC),(5,vi s_)]) (λs_ H=>g s_ H) (λs_ H=>m15 s_ H) (0:Int) (by kernel_rfl) i3 sk ?_
  rintro i H1 i5
  have h:=i4 i H1 i5
  refine T_su [(0,vs aB aN aC),(1,vs bB bN bC),(5,vi i)]<| T_sz<| T_srz 4<| T_ed 4 [] [(14,.bool (decide (i< (aN:Int))))] ?_
  by_cases c6:i< (aN:Int)
  ·rw[if_pos c6]at h
   refine T_cTz 14 (zX c6)<| T_kt<| T_sz<| T_bz 1<| T_sz<| T_rqz 6<| T_q1 17 (vs aB aN aC) [14]<| T_q1 18 (vi i) [] ?_
   obtain⟨b,rfl,h⟩:=h
   obtain⟨q8,h⟩:=h
   refine Q_op (some 19) (indexAtN 27 (vs (some b) aN aC) (vi i)) (vp (some (b.add (Int.toNat i*1)))) (λ_=>by kernel_rfl) (λw _=>indexAt_run (P:=Tryz.prog) (t:=27) (elem:=24) (sz:=1) (a:=b) (len:=aN) (cap:=aC) (k:=.i64) (i:=i) Tryz.underlying27 (λ_=>by kernel_rfl) q8.1 q8.2 w) [(0,vs (some b) aN aC),(1,vs bB bN bC),(5,vi i),(19,vp (some (b.add (Int.toNat i*1))))] pk ?_
   obtain⟨x,q9,h⟩:=h
   refine T_ql (some 20) 24 q9 [(0,vs (some b) aN aC),(1,vs bB bN bC),(5,vi i),(20,vu x)]<| T_q1 21 (vs bB bN bC) []<| T_q1 22 (vi i) [] ?_
   obtain⟨d,rfl,h⟩:=h
   obtain⟨q10,h⟩:=h
   refine Q_op (some 23) (indexAtN 27 (vs (some d) bN bC) (vi i)) (vp (some (d.add (Int.toNat i*1)))) (λ_=>by kernel_rfl) (λw _=>indexAt_run (P:=Tryz.prog) (t:=27) (elem:=24) (sz:=1) (a:=d) (len:=bN) (cap:=bC) (k:=.i64) (i:=i) Tryz.underlying27 (λ_=>by kernel_rfl) q10.1 q10.2 w) [(0,vs (some b) aN aC),(1,vs (some d) bN bC),(5,vi i),(20,vu x),(23,vp (some (d.add (Int.toNat i*1))))] pk ?_
   obtain⟨f,q11,h⟩:=h
   refine T_ql (some 24) 24 q11 [(0,vs (some b) aN aC),(1,vs (some d) bN bC),(5,vi i),(20,vu x),(24,vu f)]<| T_q1 25 (.bool (x !=f)) [20,24]<| Q_sub [(0,vs (some b) aN aC),(1,vs (some d) bN bC),(5,vi i),(25,.bool (x !=f))] sk<| T_qe ?_
   by_cases c12:x=f
   ·rw[if_pos c12]at h
    exact T_cFz 25 (bne_eq_false_iff_eq.mpr c12)<| T_k<| S_blockEnd<| S_then<| T_rz 5<| T_ne 3 [(0,vs (some b) aN aC),(1,vs (some d) bN bC),(5,vi (zY (i+1)))]<| S_round ((zY (i+1)):Int) sk h
   rw[if_neg c12]at h
   exact T_cTz 25 (bne_iff_ne.mpr c12)<| T_srz 7<| T_nr 1 [4] [.bool false] hQ h
  rw[if_neg c6]at h
  exact T_cFz 14 (zQ c6)<| zj 0<| S_exitThen<| S_exitThen<| S_exitHere<| S_then<| T_srz 8<| T_nr 1 [4] [.bool true] hQ h
 rw[if_neg c1]at h
 exact T_cTz 10 (bne_iff_ne.mpr c1)<| T_srz 2<| T_nr 1 [4] [.bool false] hQ h
end morainelaw13_words

/-! moraine/morainelaw13.GcAgain -/
namespace morainelaw13_GcAgain
def K0:=Func.code Tryz.f5
def K2:=cb K0
def K4:=cb K2
def K6:=cb K4
def K14:=cb K6
def K16:=cb K14
def K17:=ca K16
def K18:=cb K16
def K19:=ca K17
def K23:=ca K18
def K24:=cb K18
def K25:=ca K24
def K27:=ca K25
end morainelaw13_GcAgain
def morainelaw13_GcAgain.pt(ax:Int)(lB:zW)(lN lC:Nat)(H:zV)(R:Value->zV->Prop):Prop:=
 morainelaw13_begun.C ax lB lN lC H (λv H1=> ∃(ra am:zW) (ak al:Nat),v=.tuple #[.pointer ra,.slice am ak al]/\
 onPtr ra (
 morainelaw13_awake.C H1 (λci H2=> ∃x:Bool,ci=.bool x/\
 R (.bool x) H2)) (λd=>
 if(lN:Int)=0 then(
 morainelaw13_awake.C H1 (λb6 H3=> ∃bn:Bool,b6=.bool bn/\
 R (.bool bn) H3))
 else
 ∃be:Addr,lB=some be/\
 ((0:Int)<=(zY ((lN:Int)-1))/\(zY ((lN:Int)-1))< (lN:Int))/\
 ∃(an:zW) (ai aj:Nat) (ac:zW) (aa ab:Nat) (o:zW) (m n:Nat) (xG ae au:Int),RowAt H1 (be.add (Int.toNat (zY ((lN:Int)-1))*6)) 0 [.slice an ai aj,.slice ac aa ab,.slice o m n,.int .i64 xG,.int .i64 ae,.int .u32 au]/\
 ∀(b:Nat) (H4:zV),b=H1.size->H4=H1.push (.cells #[.slice none 0 0,.slice none 0 0,.slice none 0 0,.int .i64 0,.int .i64 0,.int .u32 0] 55)->
 (CanPuts H4 (ad b) 0 6)/\ ∀H5,H5=hputs H4 (ad b) [.slice an ai aj,.slice ac aa ab,.slice o m n,.int .i64 xG,.int .i64 ae,.int .u32 au] 0->
 ∃(af:zW) (ag ah:Nat) (s:zW) (z u:Nat) (p:zW) (q r:Nat) (a4 y ao:Int),RowAt H5 (ad b) 0 [.slice af ag ah,.slice s z u,.slice p q r,.int .i64 a4,.int .i64 y,.int .u32 ao]/\
 morainelaw13_roots.C (some d) af ag ah s z u p q r a4 y ao am ak al H5 (λcg H6=> ∃(xB:zW) (xN xC:Nat),cg=.slice xB xN xC/\
 ∃az:Int,hat H6 ((ad b).add 3)=some (.int .i64 az)/\
 ∃a3:Int,hat H6 ((ad b).add 3)=some (.int .i64 a3)/\
 morainelaw13_pointers.C xB xN xC H6 (λb7 H7=> ∃(bh:zW) (bj bm:Nat),b7=.slice bh bj bm/\RowAt H7 ((ad b).add 3) 0 [.int .i64 az]/\RowAt H7 ((ad b).add 3) 0 [.int .i64 a3]/\
 gc_Collect.C (some d) az a3 bh bj bm H7 (λb5 H8=> ∃a1:Int,b5=.int .i64 a1/\
 if a1=0 then(
 ∃aw:Int,hat H8 ((ad b).add 3)=some (.int .i64 aw)/\
 ∃bw:zW,hat H8 d=some (.pointer bw)/\
 ∃aq:Addr,bw=some aq/\
 ∃a5:zW,hat H8 aq=some (.pointer a5)/\
 morainelaw13_picture.C (some d) xB xN xC aw false H8 (λch H9=> ∃(l:zW) (j g:Nat),ch=.slice l j g/\RowAt H9 d 0 [.pointer (some aq)]/\RowAt H9 aq 0 [.pointer a5]/\
 space_Space_Words.C a5 none 0 0 H9 (λce bp=> ∃f:Int,ce=.int .i64 f/\
 ∃ap:Int,hat bp ((ad b).add 3)=some (.int .i64 ap)/\
 ∃ay:Int,hat bp ((ad b).add 3)=some (.int .i64 ay)/\
 morainelaw13_pointers.C xB xN xC bp (λb8 bq=> ∃(bk:zW) (bf bg:Nat),b8=.slice bk bf bg/\RowAt bq ((ad b).add 3) 0 [.int .i64 ap]/\RowAt bq ((ad b).add 3) 0 [.int .i64 ay]/\
 gc_Collect.C (some d) ap ay bk bf bg bq (λb3 br=> ∃av:Int,b3=.int .i64 av/\
 if av=0 then(
 ∃a7:Int,hat br ((ad b).add 3)=some (.int .i64 a7)/\
 morainelaw13_picture.C (some d) xB xN xC a7 false br (λbs cd=> ∃(bc:zW) (a9 bd:Nat),bs=.slice bc a9 bd/\
 morainelaw13_alike.C bc a9 bd l j g cd (λbx bo=> ∃a2:Bool,bx=.bool a2/\
 if a2=true then(
 ∃bl:zW,hat bo d=some (.pointer bl)/\
 ∃bi:Addr,bl=some bi/\
 ∃bb:zW,hat bo bi=some (.pointer bb)/\
 space_Space_Words.C bb none 0 0 bo (λbt bu=> ∃a0:Int,bt=.int .i64 a0/\
 if a0=f then(
 morainelaw13_awake.C bu (λbz cc=> ∃a8:Bool,bz=.bool a8/\
 R (.bool a8) cc))
 else
 R (.bool false) bu))
 else
 R (.bool false) bo)))
 else
 morainelaw13_awake.C br (λb1 b9=> ∃ba:Bool,b1=.bool ba/\
 R (.bool ba) b9))))))
 else
 morainelaw13_awake.C H8 (λb0 b4=> ∃a6:Bool,b0=.bool a6/\
 R (.bool a6) b4))))))
namespace morainelaw13_GcAgain
theorem link{ax:Int}{lB:zW}{lN lC:Nat}{H:zV}{R:Value->zV->Prop}(h:pt ax lB lN lC H R):C ax lB lN lC H R:=by
 refine T_en K0 90 Tryz.func5 ?_
 intro w0 Q hQ
 unfold pt zY at h
 refine T_su [(0,vi ax),(1,vs lB lN lC)]<| T_srz 0<| T_ed 1 [] []<| T_srz 1<| T_nd 2 [0] [(12,vi ax),(13,vs lB lN lC)] ?_
 refine T_c (some 14) h ?_;clear h
 rintro v H1 ⟨ra,am,ak,al,rfl,h⟩
 refine T_pd [12,13] [(14,.tuple #[vp ra,vs am ak al])]<| T_ed 5 [14] [(5,vp ra),(6,vs am ak al)]<| T_sz<| T_srz 2<| T_nd 1 [] [(17,vp ra)] ?_
 rcases ra with _ | d
 ·rw[onPtr_none]at h
  refine T_ed 6 [5,17] [(5,vp none),(23,.bool true)]<| T_tz 23<| T_srz 3<| T_nu [] ?_
  refine T_c (some 24) h ?_;clear h
  rintro ci H2 ⟨x,rfl,h⟩
  refine⟨[(24,.bool x)],pk,?_⟩
  exact T_nr 1 [4] [.bool x] hQ h
 rw[onPtr_some]at h
 refine T_ed 6 [5,17] [(5,vp (some d)),(23,.bool ((lN:Int)==0))] ?_
 by_cases c1:(lN:Int)=0
 ·rw[if_pos c1]at h
  refine T_cTz 23 (zK c1)<| T_srz 3<| T_nu [] ?_
  refine T_c (some 24) h ?_;clear h
  rintro b6 H3 ⟨bn,rfl,h⟩
  refine⟨[(24,.bool bn)],pk,?_⟩
  exact T_nr 1 [4] [.bool bn] hQ h
 rw[if_neg c1]at h
 refine T_cFz 23 (zJ c1)<| T_kt<| T_srz 4<| T_nd 4 [1,23] [(25,vs lB lN lC),(28,vi (zY ((lN:Int)-1)))] ?_
 obtain⟨be,rfl,h⟩:=h
 obtain⟨q3,h⟩:=h
 refine T_xd (some 29) 47 55 6 be lN lC .i64 (zY ((lN:Int)-1)) Tryz.underlying47 q3.1 q3.2 [25,28] [(29,vp (some (be.add (Int.toNat (zY ((lN:Int)-1))*6))))] ?_
 obtain⟨an,ai,aj,ac,aa,ab,o,m,n,xG,ae,au,q4,h⟩:=h
 refine T_lr 30 55 q4 [29]<| T_nw (some 7) (λb=>vp (pa b)) (.cells #[vs none 0 0,vs none 0 0,vs none 0 0,vi 0,vi 0,.int .u32 0] 55) ?_
 intro b H4 e5 e6
 replace h:=h b H4 e5 e6
 refine T_pd [] [(7,vp (pa b))] ?_
 obtain⟨q8,h⟩:=h
 refine T_sta 55 [vs an ai aj,vs ac aa ab,vs o m n,vi xG,vi ae,.int .u32 au] q8 ?_
 intro H5 e7
 replace h:=h H5 e7
 refine T_pd [30] []<| T_e<| T_srz 5<| T_nd 1 [] [(31,vp (some d))] ?_
 obtain⟨af,ag,ah,s,z,u,p,q,r,a4,y,ao,q9,h⟩:=h
 refine T_lr 32 55 q9 []<| T_nd 1 [6] [(33,vs am ak al)] ?_
 refine T_c (some 34) h ?_;clear h
 rintro cg H6 ⟨xB,xN,xC,rfl,h⟩
 refine T_pd [31,32,33] [(34,vs xB xN xC)]<| T_ed 1 [34] [(8,vs xB xN xC)]<| T_sz<| T_sz ?_
 obtain⟨az,q10,h⟩:=h
 obtain⟨a3,q11,h⟩:=h
 refine S_regionG 6 (Code.ops K19) [(7,((ad b).add 3),[vi az]),(7,((ad b).add 3),[vi a3])] 9 (bv 9 0) (by kernel_rfl) (by kernel_rfl) (by kernel_rfl) (by kernel_rfl) (by kernel_rfl) (show FactsAt _ _ _ from⟨⟨q10,trivial⟩,⟨q11,trivial⟩,trivial⟩)<| T_gp 0 (some 35) (vp (some d)) (bv 9 1) [(5,vp (some d)),(7,vp (pa b)),(8,vs xB xN xC),(35,vp (some d))]<| T_gp1 1 36 (vp (some ((ad b).add 3))) (bv 9 3) []<| T_g1 2 37 (vi az) (bv 9 7) [36] (loadN 3 (vp (some ((ad b).add 3)))) (held_one 7 (λ_=>by kernel_rfl) (List.Mem.head _) (.inl (by kernel_rfl)))<| T_gp1 3 38 (vp (some ((ad b).add 3))) (bv 9 15) []<| T_g1 4 39 (vi a3) (bv 9 31) [38] (loadN 3 (vp (some ((ad b).add 3)))) (held_one 7 (λ_=>by kernel_rfl) (List.Mem.tail _ (List.Mem.head _)) (.inl (by kernel_rfl)))<| T_gp1 5 40 (vs xB xN xC) (bv 9 63) [] ?_
 refine G_call 6 (some 41) (bv 9 127) 18 #[vs xB xN xC] (by kernel_rfl) (λ_=>by kernel_rfl) h (by kernel_rfl) ?_;clear h
 rintro b7 H7 ⟨bh,bj,bm,rfl,h⟩
 obtain⟨f12,f13,h⟩:=h
 refine⟨[(5,vp (some d)),(7,vp (pa b)),(8,vs xB xN xC),(35,vp (some d)),(37,vi az),(39,vi a3),(41,vs bh bj bm)],pk,(show FactsAt _ _ _ from⟨f12,f13,trivial⟩),?_⟩
 refine G_call 7 (some 42) (bv 9 255) 9 #[vp (some d),vi az,vi a3,vs bh bj bm] (by kernel_rfl) (λ_=>by kernel_rfl) h (by kernel_rfl) ?_;clear h
 rintro b5 H8 ⟨a1,rfl,h⟩
 refine⟨[(5,vp (some d)),(7,vp (pa b)),(8,vs xB xN xC),(42,vi a1)],pk,(show FactsAt _ _ _ from⟨trivial,trivial,trivial⟩),?_⟩
 refine T_g 8 (some 43) (.bool (a1 !=0)) (bv 9 511) [(5,vp (some d)),(7,vp (pa b)),(8,vs xB xN xC),(43,.bool (a1 !=0))] (pure (.value (.bool (a1 !=0))):Sem Next) (λ_ _ _ _ _=>rfl)<| G_sub [(5,vp (some d)),(7,vp (pa b)),(8,vs xB xN xC),(43,.bool (a1 !=0))] sk<| G_end (by kernel_rfl)<| S_then ?_
 by_cases c14:a1=0
 ·rw[if_pos c14]at h
  refine T_cFz 43 (bne_eq_false_iff_eq.mpr c14)<| T_kt<| T_sz ?_
  obtain⟨aw,q16,h⟩:=h
  obtain⟨bw,q17,h⟩:=h
  obtain⟨aq,rfl,h⟩:=h
  obtain⟨a5,q18,h⟩:=h
  refine S_regionG 8 (Code.ops K23) [(4,((ad b).add 3),[vi aw]),(12,d,[vp (some aq)]),(12,aq,[vp a5])] 15 (bv 15 0) (by kernel_rfl) (by kernel_rfl) (by kernel_rfl) (by kernel_rfl) (by kernel_rfl) (show FactsAt _ _ _ from⟨⟨q16,trivial⟩,⟨q17,trivial⟩,⟨q18,trivial⟩,trivial⟩)<| T_gp 0 (some 45) (vp (some d)) (bv 15 1) [(5,vp (some d)),(7,vp (pa b)),(8,vs xB xN xC),(45,vp (some d))]<| T_gp1 1 46 (vs xB xN xC) (bv 15 3) []<| T_gp1 2 47 (vp (some ((ad b).add 3))) (bv 15 7) []<| T_g1 3 48 (vi aw) (bv 15 15) [47] (loadN 3 (vp (some ((ad b).add 3)))) (held_one 4 (λ_=>by kernel_rfl) (List.Mem.head _) (.inl (by kernel_rfl)))<| T_gp1 5 50 (vp (some d)) (bv 15 47) []<| T_gp1 6 51 (vp (some d)) (bv 15 111) [50]<| T_gp1 7 52 (vp (some d)) (bv 15 239) [51]<| T_g1 8 53 (vp (some aq)) (bv 15 495) [52] (loadN 26 (vp (some d))) (held_one 12 (λ_=>by kernel_rfl) (List.Mem.tail _ (List.Mem.head _)) (.inl (by kernel_rfl)))<| T_gp1 9 54 (vp (some aq)) (bv 15 1007) [53]<| T_gp1 10 55 (vp (some aq)) (bv 15 2031) [54]<| T_g1 11 56 (vp a5) (bv 15 4079) [55] (loadN 39 (vp (some aq))) (held_one 12 (λ_=>by kernel_rfl) (List.Mem.tail _ (List.Mem.tail _ (List.Mem.head _))) (.inl (by kernel_rfl))) ?_
  refine G_call 4 (some 49) (bv 15 4095) 19 #[vp (some d),vs xB xN xC,vi aw,.bool false] (by kernel_rfl) (λ_=>by kernel_rfl) h (by kernel_rfl) ?_;clear h
  rintro ch H9 ⟨l,j,g,rfl,h⟩
  obtain⟨f19,f20,h⟩:=h
  refine⟨[(5,vp (some d)),(7,vp (pa b)),(8,vs xB xN xC),(49,vs l j g),(56,vp a5)],pk,(show FactsAt _ _ _ from⟨trivial,f19,f20,trivial⟩),?_⟩
  refine G_call 12 (some 57) (bv 15 8191) 12 #[vp a5,vs none 0 0] (by kernel_rfl) (λ_=>by kernel_rfl) h (by kernel_rfl) ?_;clear h
  rintro ce bp ⟨f,rfl,h⟩
  refine⟨[(5,vp (some d)),(7,vp (pa b)),(8,vs xB xN xC),(49,vs l j g),(57,vi f)],pk,(show FactsAt _ _ _ from⟨trivial,trivial,trivial,trivial⟩),?_⟩
  refine T_g 13 (some 9) (vs l j g) (bv 15 16383) [(5,vp (some d)),(7,vp (pa b)),(8,vs xB xN xC),(9,vs l j g),(57,vi f)] (pure (.value (vs l j g)):Sem Next) (λ_ _ _ _ _=>rfl)<| T_g1 14 10 (vi f) (bv 15 32767) [57] (pure (.value (vi f)):Sem Next) (λ_ _ _ _ _=>rfl)<| G_sub [(5,vp (some d)),(7,vp (pa b)),(8,vs xB xN xC),(9,vs l j g),(10,vi f)] sk<| G_end (by kernel_rfl)<| S_then<| T_sz<| T_sz ?_
  obtain⟨ap,q21,h⟩:=h
  obtain⟨ay,q22,h⟩:=h
  refine S_regionG 9 (Code.ops K27) [(7,((ad b).add 3),[vi ap]),(7,((ad b).add 3),[vi ay])] 9 (bv 9 0) (by kernel_rfl) (by kernel_rfl) (by kernel_rfl) (by kernel_rfl) (by kernel_rfl) (show FactsAt _ _ _ from⟨⟨q21,trivial⟩,⟨q22,trivial⟩,trivial⟩)<| T_gp 0 (some 58) (vp (some d)) (bv 9 1) [(5,vp (some d)),(7,vp (pa b)),(8,vs xB xN xC),(9,vs l j g),(10,vi f),(58,vp (some d))]<| T_gp1 1 59 (vp (some ((ad b).add 3))) (bv 9 3) []<| T_g1 2 60 (vi ap) (bv 9 7) [59] (loadN 3 (vp (some ((ad b).add 3)))) (held_one 7 (λ_=>by kernel_rfl) (List.Mem.head _) (.inl (by kernel_rfl)))<| T_gp1 3 61 (vp (some ((ad b).add 3))) (bv 9 15) []<| T_g1 4 62 (vi ay) (bv 9 31) [61] (loadN 3 (vp (some ((ad b).add 3)))) (held_one 7 (λ_=>by kernel_rfl) (List.Mem.tail _ (List.Mem.head _)) (.inl (by kernel_rfl)))<| T_gp1 5 63 (vs xB xN xC) (bv 9 63) [] ?_
  refine G_call 6 (some 64) (bv 9 127) 18 #[vs xB xN xC] (by kernel_rfl) (λ_=>by kernel_rfl) h (by kernel_rfl) ?_;clear h
  rintro b8 bq ⟨bk,bf,bg,rfl,h⟩
  obtain⟨f23,f24,h⟩:=h
  refine⟨[(5,vp (some d)),(7,vp (pa b)),(8,vs xB xN xC),(9,vs l j g),(10,vi f),(58,vp (some d)),(60,vi ap),(62,vi ay),(64,vs bk bf bg)],pk,(show FactsAt _ _ _ from⟨f23,f24,trivial⟩),?_⟩
  refine G_call 7 (some 65) (bv 9 255) 9 #[vp (some d),vi ap,vi ay,vs bk bf bg] (by kernel_rfl) (λ_=>by kernel_rfl) h (by kernel_rfl) ?_;clear h
  rintro b3 br ⟨av,rfl,h⟩
  refine⟨[(5,vp (some d)),(7,vp (pa b)),(8,vs xB xN xC),(9,vs l j g),(10,vi f),(65,vi av)],pk,(show FactsAt _ _ _ from⟨trivial,trivial,trivial⟩),?_⟩
  refine T_g 8 (some 66) (.bool (av !=0)) (bv 9 511) [(5,vp (some d)),(7,vp (pa b)),(8,vs xB xN xC),(9,vs l j g),(10,vi f),(66,.bool (av !=0))] (pure (.value (.bool (av !=0))):Sem Next) (λ_ _ _ _ _=>rfl)<| G_sub [(5,vp (some d)),(7,vp (pa b)),(8,vs xB xN xC),(9,vs l j g),(10,vi f),(66,.bool (av !=0))] sk<| G_end (by kernel_rfl)<| S_then ?_
  by_cases c25:av=0
  ·rw[if_pos c25]at h
   refine T_cFz 66 (bne_eq_false_iff_eq.mpr c25)<| T_kt<| T_srz 11<| T_n 3 [(5,vp (some d)),(9,vs l j g),(10,vi f),(68,vp (some d)),(69,vs xB xN xC),(70,vp (some ((ad b).add 3)))] ?_
   obtain⟨a7,q27,h⟩:=h
   refine T_l1 71 3 q27 [70] ?_
   refine T_c (some 72) h ?_;clear h
   rintro bs cd ⟨bc,a9,bd,rfl,h⟩
   refine T_pd [68,69,71] [(72,vs bc a9 bd)]<| T_nd 1 [9] [(73,vs l j g)] ?_
   refine T_c (some 74) h ?_;clear h
   rintro bx bo ⟨a2,rfl,h⟩
   refine T_pd [72,73] [(74,.bool a2)]<| T_nd 1 [74] [(75,.bool a2)] ?_
   by_cases c28:a2=true
   ·rw[if_pos c28]at h
    refine N_bd 75 c28<| T_nd 3 [5] [(78,vp (some d))] ?_
    obtain⟨bl,q30,h⟩:=h
    refine T_l1 79 26 q30 [78] ?_
    obtain⟨bi,rfl,h⟩:=h
    refine T_nd 2 [79] [(81,vp (some bi))] ?_
    obtain⟨bb,q31,h⟩:=h
    refine T_l1 82 39 q31 [81] ?_
    refine T_c (some 83) h ?_;clear h
    rintro bt bu ⟨a0,rfl,h⟩
    refine T_pd [82] [(83,vi a0)]<| T_n 4 [(87,.bool (a0==f))] ?_
    by_cases c32:a0=f
    ·rw[if_pos c32]at h
     have b33:(a0==f)=true:=zK c32
     refine N_env [(87,.bool true)] (by rw[b33]) ?_
     clear b33
     refine T_c (some 88) h ?_;clear h
     rintro bz cc ⟨a8,rfl,h⟩
     exact T_pd [] [(88,.bool a8)]<| T_nr 2 [4] [.bool a8] hQ h
    rw[if_neg c32]at h
    have b33:(a0==f)=false:=zJ c32
    refine N_env [(87,.bool false)] (by rw[b33]) ?_
    clear b33
    exact T_nr 3 [4] [.bool false] hQ h
   rw[if_neg c28]at h
   exact N_bd 75 (zZ c28)<| T_nr 15 [4] [.bool false] hQ h
  rw[if_neg c25]at h
  refine T_cTz 66 (bne_iff_ne.mpr c25)<| T_srz 10<| T_nu [] ?_
  refine T_c (some 67) h ?_;clear h
  rintro b1 b9 ⟨ba,rfl,h⟩
  refine⟨[(67,.bool ba)],pk,?_⟩
  exact T_nr 1 [4] [.bool ba] hQ h
 rw[if_neg c14]at h
 refine T_cTz 43 (bne_iff_ne.mpr c14)<| T_srz 7<| T_nu [] ?_
 refine T_c (some 44) h ?_;clear h
 rintro b0 b4 ⟨a6,rfl,h⟩
 refine⟨[(44,.bool a6)],pk,?_⟩
 exact T_nr 1 [4] [.bool a6] hQ h
end morainelaw13_GcAgain

