/- Printed: what each function asks, and that it is sound. -/
import Derived.Test.YtgnokbjknicahaaGreatFnsC
set_option linter.unusedSimpArgs false
set_option linter.unusedVariables false
set_option maxRecDepth 100000
set_option maxHeartbeats 1000000
noncomputable section
namespace Go.Proofs.YtgnokbjknicahaaGreat
open Go
/-! (*moraine/space.Space).none -/
namespace space_Space_none
def K0:=Func.code Tryz.f37
end space_Space_none
def space_Space_none.pt(s:zW)(H:zV)(R:zk):Prop:=
 onPtr s (
 R (.bool true) H) (λsA=>
 ∃x:zW,hat H sA=some (.pointer x)/\
 onPtr x (
 R (.bool true) H) (λxA=>
 R (.bool false) H))
namespace space_Space_none
theorem link{s:zW}{H:zV}{R:zk}(h:pt s H R):C s H R:=by
 refine T_en K0 12 Tryz.func37 ?_
 intro w0 Q hQ
 unfold pt at h
 refine T_su [(0,vp s)]<| T_srz 0<| T_ed 1 [] []<| T_srz 1<| T_nd 1 [] [(3,vp s)] ?_
 rcases s with _ | sA
 ·rw[onPtr_none]at h
  exact T_nr 9 [2] [.bool true] hQ h
 rw[onPtr_some]at h
 refine T_n 5 [(5,.bool false),(8,vp (some sA))] ?_
 obtain⟨x,q1,h⟩:=h
 refine T_l1 9 69 q1 [8] ?_
 rcases x with _ | xA
 ·rw[onPtr_none]at h
  exact T_nr 3 [2] [.bool true] hQ h
 rw[onPtr_some]at h
 exact T_nr 3 [2] [.bool false] hQ h
end space_Space_none

/-! (*moraine/space.Space).Alloc -/
namespace space_Space_Alloc
def K0:=Func.code Tryz.f66
end space_Space_Alloc
def space_Space_Alloc.pt(s:zW)(d b nv:Int)(H:zV)(R:zk):Prop:=
 space_Space_none.C s H (λv H1=> ∃x:Bool,v=.bool x/\
 if x=true then(
 R (.tuple #[.int .i64 0,.int .i64 1]) H1)
 else
 space_may.C d b nv H1 (λz H2=> ∃o:Bool,z=.bool o/\
 if o=true then(
 space_Space_Current.C s d b H2 (λaa H3=> ∃(ra:Int) (rb:Bool),aa=.tuple #[.int .i64 ra,.bool rb]/\
 ∃J:zV->Prop,(
 if rb=true then(
 ∃j:Addr,s=some j/\
 ∃u:zW,hat H3 j=some (.pointer u)/\
 seg_Mem_Bump.C u ra nv H3 (λac H8=> ∃l m:Int,ac=.tuple #[.int .i64 l,.int .i64 m]/\
 if m=0 then(
 R (.tuple #[.int .i64 l,.int .i64 0]) H8)
 else
 J H8))
 else
 J H3)/\ ∀(H4:zV),J H4->
 ∃sA:Addr,s=some sA/\
 ∃r:zW,hat H4 sA=some (.pointer r)/\
 seg_Mem_Take.C r d b H4 (λae H5=> ∃f g:Int,ae=.tuple #[.int .i64 f,.int .i64 g]/\
 if g=0 then(
 zw d 5/\
 zw b 4/\
 (CanPuts H5 (((sA.add 1).add (Int.toNat d*4)).add (Int.toNat b*1)) 0 1)/\ ∀H6,H6=hputs H5 (((sA.add 1).add (Int.toNat d*4)).add (Int.toNat b*1)) [.int .i64 (zY (f+1))] 0->
 ∃y:zW,hat H6 sA=some (.pointer y)/\
 seg_Mem_Bump.C y f nv H6 (λab H7=> ∃p q:Int,ab=.tuple #[.int .i64 p,.int .i64 q]/\
 R (.tuple #[.int .i64 p,.int .i64 q]) H7))
 else
 R (.tuple #[.int .i64 0,.int .i64 g]) H5)))
 else
 R (.tuple #[.int .i64 0,.int .i64 1]) H2))
namespace space_Space_Alloc
theorem link{s:zW}{d b nv:Int}{H:zV}{R:zk}(h:pt s d b nv H R):C s d b nv H R:=by
 refine T_en K0 77 Tryz.func66 ?_
 intro w0 Q hQ
 unfold pt zY at h
 refine T_su [(0,vp s),(1,vi d),(2,vi b),(3,vi nv)]<| T_srz 0<| T_ed 2 [] []<| T_sz<| T_srz 1<| T_nd 1 [] [(16,vp s)]<| T_c (some 17) h ?_;clear h
 rintro v H1 ⟨x,rfl,h⟩
 refine T_pd [16] [(17,.bool x)]<| T_nd 1 [17] [(18,.bool x)] ?_
 by_cases c1:x=true
 ·rw[if_pos c1]at h
  exact N_bd 18 c1<| T_ed 6 [18] [(24,.bool true)]<| T_tz 24<| T_srz 2<| T_nr 2 [8,9] [vi 0,vi 1] hQ h
 rw[if_neg c1]at h
 refine N_bd 18 (zZ c1)<| T_nd 3 [] [(19,vi d),(20,vi b),(21,vi nv)] ?_
 refine T_c (some 22) h ?_;clear h
 rintro z H2 ⟨o,rfl,h⟩
 refine T_pd [19,20,21] [(22,.bool o)]<| T_ed 2 [18,22] [(24,.bool (!o))] ?_
 by_cases c3:o=true
 ·rw[if_pos c3]at h
  refine T_cFz 24 (congrArg Bool.not (c3))<| T_kt<| T_sz<| T_srz 3<| T_nd 3 [24] [(26,vp s),(27,vi d),(28,vi b)]<| T_c (some 29) h ?_;clear h
  rintro aa H3 ⟨ra,rb,rfl,h⟩
  refine T_pd [26,27,28] [(29,.tuple #[vi ra,.bool rb])]<| T_ed 5 [29] [(10,vi ra),(11,.bool rb)]<| T_srz 4<| T_ne 1 [(0,vp s),(1,vi d),(2,vi b),(3,vi nv),(10,vi ra),(32,.bool rb)] ?_
  obtain⟨J,h,j6⟩:=h
  refine S_join (σ:=Unit) (λs_=> [(0,vp s),(1,vi d),(2,vi b),(3,vi nv)]) (λs_ H=>J H) ?_ ?_
  ·rintro _ H4 j7
   replace h:=j6 H4 j7
   refine T_su [(0,vp s),(1,vi d),(2,vi b),(3,vi nv)]<| S_then<| T_srz 8<| T_nd 1 [] [(47,vp s)] ?_
   obtain⟨sA,rfl,h⟩:=h
   refine T_nd 2 [0,47] [(0,vp (some sA)),(49,vp (some sA))] ?_
   obtain⟨r,q8,h⟩:=h
   refine T_l1 50 69 q8 [49]<| T_nd 2 [] [(51,vi d),(52,vi b)]<| T_c (some 53) h ?_;clear h
   rintro ae H5 ⟨f,g,rfl,h⟩
   refine T_pd [50,51,52] [(53,.tuple #[vi f,vi g])]<| T_ed 5 [53] [(14,vi f),(15,vi g)]<| T_sz<| T_srz 9<| T_ed 2 [] [(57,.bool (g !=0))] ?_
   by_cases c9:g=0
   ·rw[if_pos c9]at h
    refine T_cFz 57 (bne_eq_false_iff_eq.mpr c9)<| T_kt<| T_srz 11<| T_nd 7 [1,2,15,57] [(60,vi d),(61,vi b),(63,vi (zY (f+1))),(65,vp (some (sA.add 1)))] ?_
    obtain⟨q11,h⟩:=h
    refine T_v1 66 (indexAtN 71 (vp (some (sA.add 1))) (vi d)) (vp (some ((sA.add 1).add (Int.toNat d*4)))) (λw _=>indexArr_run (P:=Tryz.prog) (t:=71) (elem:=70) (sz:=4) (n:=5) (a:=(sA.add 1)) (k:=.i64) (i:=d) Tryz.underlying71 (λ_=>by kernel_rfl) q11.1 q11.2 w) [60,65] ?_
    obtain⟨q12,h⟩:=h
    refine T_v1 67 (indexAtN 70 (vp (some ((sA.add 1).add (Int.toNat d*4)))) (vi b)) (vp (some (((sA.add 1).add (Int.toNat d*4)).add (Int.toNat b*1)))) (λw _=>indexArr_run (P:=Tryz.prog) (t:=70) (elem:=3) (sz:=1) (n:=4) (a:=((sA.add 1).add (Int.toNat d*4))) (k:=.i64) (i:=b) Tryz.underlying70 (λ_=>by kernel_rfl) q12.1 q12.2 w) [61,66] ?_
    obtain⟨q14,h⟩:=h
    refine T_st1 3 (vi (zY (f+1))) q14 ?_
    intro H6 e13
    replace h:=h H6 e13
    refine T_pd [63,67] []<| T_e<| T_srz 12<| T_nd 3 [0] [(70,vp (some sA))] ?_
    obtain⟨y,q15,h⟩:=h
    refine T_l1 71 69 q15 [70]<| T_nd 2 [3,14] [(72,vi f),(73,vi nv)]<| T_c (some 74) h ?_;clear h
    rintro ab H7 ⟨p,q,rfl,h⟩
    refine⟨[(74,.tuple #[vi p,vi q])],pk,?_⟩
    exact T_nr 4 [8,9] [vi p,vi q] hQ h
   rw[if_neg c9]at h
   exact T_cTz 57 (bne_iff_ne.mpr c9)<| T_srz 10<| T_nr 3 [8,9] [vi 0,vi g] hQ h
  by_cases c16:rb=true
  ·rw[if_pos c16]at h
   have b17:rb=true:=c16
   refine S_env [(0,vp s),(1,vi d),(2,vi b),(3,vi nv),(10,vi ra),(32,.bool true)] (by simp only[b17,Bool.not_true,Bool.not_false]) ?_
   clear b17
   refine T_tz 32<| T_srz 5<| T_nd 1 [32] [(34,vp s)] ?_
   obtain⟨j,rfl,h⟩:=h
   refine T_nd 2 [0,34] [(0,vp (some j)),(36,vp (some j))] ?_
   obtain⟨u,q18,h⟩:=h
   refine T_l1 37 69 q18 [36]<| T_nd 2 [10] [(38,vi ra),(39,vi nv)]<| T_c (some 40) h ?_;clear h
   rintro ac H8 ⟨l,m,rfl,h⟩
   refine T_pd [37,38,39] [(40,.tuple #[vi l,vi m])]<| T_ed 5 [40] [(12,vi l),(13,vi m)]<| T_srz 6<| T_ed 2 [13] [(44,.bool (m==0))] ?_
   by_cases c19:m=0
   ·rw[if_pos c19]at h
    exact T_cTz 44 (zK c19)<| T_srz 7<| T_nr 3 [8,9] [vi l,vi 0] hQ h
   rw[if_neg c19]at h
   exact T_cFz 44 (zJ c19)<| T_kt<| S_meet (():Unit) sk h
  rw[if_neg c16]at h
  have b17:rb=false:=zZ c16
  refine S_env [(0,vp s),(1,vi d),(2,vi b),(3,vi nv),(10,vi ra),(32,.bool false)] (by simp only[b17,Bool.not_true,Bool.not_false]) ?_
  clear b17
  exact T_fz 32<| T_kt<| S_meet (():Unit) sk h
 rw[if_neg c3]at h
 exact T_cTz 24 (congrArg Bool.not (zZ c3))<| T_srz 2<| T_nr 2 [8,9] [vi 0,vi 1] hQ h
end space_Space_Alloc

/-! moraine/space.New -/
namespace space_New
def K0:=Func.code Tryz.f78
end space_New
def space_New.pt(a:Int)(H:zV)(R:zk):Prop:=
 seg_New.C a H (λv H1=> ∃(ra:zW) (rb:Int),v=.tuple #[.pointer ra,.int .i64 rb]/\
 if rb=0 then(
 ∀(b:Nat) (H2:zV),b=H1.size->H2=H1.push (.cells #[.pointer ra,.int .i64 0,.int .i64 0,.int .i64 0,.int .i64 0,.int .i64 0,.int .i64 0,.int .i64 0,.int .i64 0,.int .i64 0,.int .i64 0,.int .i64 0,.int .i64 0,.int .i64 0,.int .i64 0,.int .i64 0,.int .i64 0,.int .i64 0,.int .i64 0,.int .i64 0,.int .i64 0] 73)->
 R (.tuple #[.pointer (some (ad b)),.int .i64 0]) H2)
 else
 R (.tuple #[.pointer none,.int .i64 rb]) H1)
namespace space_New
theorem link{a:Int}{H:zV}{R:zk}(h:pt a H R):C a H R:=by
 refine T_en K0 17 Tryz.func78 ?_
 intro w0 Q hQ
 unfold pt at h
 refine T_su [(0,vi a)]<| T_srz 0<| T_ed 2 [] []<| T_srz 1<| T_n 1 [(7,vi a)]<| T_c (some 8) h ?_;clear h
 rintro v H1 ⟨ra,rb,rfl,h⟩
 refine⟨[(8,.tuple #[vp ra,vi rb])],pk,?_⟩
 refine T_ne 5 [(4,vp ra),(5,vi rb)]<| T_sz<| T_srz 2<| T_ed 2 [] [(12,.bool (rb !=0))] ?_
 by_cases c1:rb=0
 ·rw[if_pos c1]at h
  refine T_cFz 12 (bne_eq_false_iff_eq.mpr c1)<| T_kt<| T_srz 4<| T_n 2 [(15,.agg #[vp ra,vi 0,vi 0,vi 0,vi 0,vi 0,vi 0,vi 0,vi 0,vi 0,vi 0,vi 0,vi 0,vi 0,vi 0,vi 0,vi 0,vi 0,vi 0,vi 0,vi 0])]<| T_nw (some 16) (λb=>vp (pa b)) (.cells #[vp ra,vi 0,vi 0,vi 0,vi 0,vi 0,vi 0,vi 0,vi 0,vi 0,vi 0,vi 0,vi 0,vi 0,vi 0,vi 0,vi 0,vi 0,vi 0,vi 0,vi 0] 73) ?_
  intro b H2 e3 e4
  replace h:=h b H2 e3 e4
  refine⟨[(16,vp (pa b))],pk,?_⟩
  exact T_nr 2 [2,3] [vp (pa b),vi 0] hQ h
 rw[if_neg c1]at h
 exact T_cTz 12 (bne_iff_ne.mpr c1)<| T_srz 3<| T_nr 3 [2,3] [vp none,vi rb] hQ h
end space_New

/-! moraine/space.may -/
namespace space_may
def K0:=Func.code Tryz.f101
end space_may
def space_may.pt(b a nv:Int)(H:zV)(R:zk):Prop:=
 if((decide (b<0)) || (decide (b>4)))=true then(
 R (.bool false) H)
 else
 if((a==0) || (a==1))=true then(
 R (.bool (nv==2)) H)
 else
 R (.bool ((((a==2) || (a==3)) && (decide (nv>=1))) && (decide (nv<=63)))) H
namespace space_may
theorem link{b a nv:Int}{H:zV}{R:zk}(h:pt b a nv H R):C b a nv H R:=by
 refine T_en K0 37 Tryz.func101 ?_
 intro w0 Q hQ
 unfold pt at h
 refine T_su [(0,vi b),(1,vi a),(2,vi nv)]<| T_srz 0<| T_ed 1 [] []<| T_sz<| T_bz 0<| T_srz 1 ?_
 refine N_cut [(1,vi a),(2,vi nv),(7,.bool ((decide (b<0)) || (decide (b>4))))] ?_ ?_
 ·refine S_then ?_
  by_cases c3:((decide (b<0)) || (decide (b>4)))=true
  ·rw[if_pos c3]at h
   exact T_cTz 7 c3<| T_srz 2<| T_nr 1 [6] [.bool false] hQ h
  rw[if_neg c3]at h
  refine T_cFz 7 (zZ c3)<| T_srz 3 ?_
  refine N_cut [(1,vi a),(2,vi nv),(14,.bool ((a==0) || (a==1)))] ?_ ?_
  ·refine S_then ?_
   by_cases c7:((a==0) || (a==1))=true
   ·rw[if_pos c7]at h
    exact T_cTz 14 c7<| T_srz 4<| T_nr 3 [6] [.bool (nv==2)] hQ h
   rw[if_neg c7]at h
   refine T_cFz 14 (zZ c7)<| T_k<| S_blockEnd<| S_then<| T_srz 5 ?_
   refine N_cut [(6,.bool ((((a==2) || (a==3)) && (decide (nv>=1))) && (decide (nv<=63))))] ?_ ?_
   ·exact S_then<| T_ret [6] [.bool ((((a==2) || (a==3)) && (decide (nv>=1))) && (decide (nv<=63)))] hQ h
   intro hk
   refine T_n 3 [(1,vi a),(2,vi nv),(25,.bool (a==2))] ?_
   by_cases c9:a=2
   ·have b10:(a==2)=true:=zK c9
    refine N_env [(1,vi a),(2,vi nv),(25,.bool true)] (by rw[b10]) ?_
    refine T_nd 8 [1,25] [(33,.bool (decide (nv>=1)))] ?_
    by_cases c11:nv>=1
    ·have b12:(decide (nv>=1))=true:=zX c11
     refine N_bd 33 b12<| T_n 4 [(6,.bool (decide (nv<=63)))] ?_
     refine zq<| S_env [(6,.bool ((((a==2) || (a==3)) && (decide (nv>=1))) && (decide (nv<=63))))] (by simp only[b10,b12,BL]) ?_
     exact hk
    have b12:(decide (nv>=1))=false:=zQ c11
    refine N_bd 33 b12<| T_n 4 [(6,.bool false)] ?_
    refine zq<| S_env [(6,.bool ((((a==2) || (a==3)) && (decide (nv>=1))) && (decide (nv<=63))))] (by simp only[b10,b12,BL]) ?_
    exact hk
   have b10:(a==2)=false:=zJ c9
   refine N_env [(1,vi a),(2,vi nv),(25,.bool false)] (by rw[b10]) ?_
   refine T_nd 4 [1,25] [(29,.bool (a==3))] ?_
   by_cases c13:a=3
   ·have b14:(a==3)=true:=zK c13
    refine N_bd 29 b14<| T_nd 4 [29] [(33,.bool (decide (nv>=1)))] ?_
    by_cases c15:nv>=1
    ·have b16:(decide (nv>=1))=true:=zX c15
     refine N_bd 33 b16<| T_n 4 [(6,.bool (decide (nv<=63)))] ?_
     refine zq<| S_env [(6,.bool ((((a==2) || (a==3)) && (decide (nv>=1))) && (decide (nv<=63))))] (by simp only[b10,b14,b16,BL]) ?_
     exact hk
    have b16:(decide (nv>=1))=false:=zQ c15
    refine N_bd 33 b16<| T_n 4 [(6,.bool false)] ?_
    refine zq<| S_env [(6,.bool ((((a==2) || (a==3)) && (decide (nv>=1))) && (decide (nv<=63))))] (by simp only[b10,b14,b16,BL]) ?_
    exact hk
   have b14:(a==3)=false:=zJ c13
   refine N_bd 29 b14<| T_n 8 [(6,.bool false)] ?_
   refine zq<| S_env [(6,.bool ((((a==2) || (a==3)) && (decide (nv>=1))) && (decide (nv<=63))))] (by simp only[b10,b14,BL]) ?_
   exact hk
  intro hk
  refine T_n 3 [(1,vi a),(2,vi nv),(17,.bool (a==0))] ?_
  by_cases c5:a=0
  ·have b6:(a==0)=true:=zK c5
   refine N_env [(1,vi a),(2,vi nv),(17,.bool true)] (by rw[b6]) ?_
   refine T_nd 4 [17] [(14,.bool true)]<| zq<| S_bd 14 (b:=true) (v:=((a==0) || (a==1))) (by simp only[b6,BL]) ?_
   exact hk
  have b6:(a==0)=false:=zJ c5
  refine N_env [(1,vi a),(2,vi nv),(17,.bool false)] (by rw[b6]) ?_
  refine T_nd 4 [17] [(14,.bool (a==1))]<| zq<| S_bd 14 (b:=(a==1)) (v:=((a==0) || (a==1))) (by simp only[b6,BL]) ?_
  exact hk
 intro hk
 refine T_n 3 [(0,vi b),(1,vi a),(2,vi nv),(10,.bool (decide (b<0)))] ?_
 by_cases c1:b<0
 ·have b2:(decide (b<0))=true:=zX c1
  refine N_env [(0,vi b),(1,vi a),(2,vi nv),(10,.bool true)] (by rw[b2]) ?_
  refine T_nd 4 [0,10] [(7,.bool true)]<| zq<| S_bd 7 (b:=true) (v:=((decide (b<0)) || (decide (b>4)))) (by simp only[b2,BL]) ?_
  exact hk
 have b2:(decide (b<0))=false:=zQ c1
 refine N_env [(0,vi b),(1,vi a),(2,vi nv),(10,.bool false)] (by rw[b2]) ?_
 refine T_nd 4 [0,10] [(7,.bool (decide (b>4)))]<| zq<| S_bd 7 (b:=(decide (b>4))) (v:=((decide (b<0)) || (decide (b>4)))) (by simp only[b2,BL]) ?_
 exact hk
end space_may

/-! (*moraine/space.Space).Current -/
namespace space_Space_Current
def K0:=Func.code Tryz.f102
end space_Space_Current
def space_Space_Current.pt(s:zW)(d b:Int)(H:zV)(R:zk):Prop:=
 onPtr s (
 R (.tuple #[.int .i64 0,.bool false]) H) (λsA=>
 if d<0 then(
 R (.tuple #[.int .i64 0,.bool false]) H)
 else
 if d>4 then(
 R (.tuple #[.int .i64 0,.bool false]) H)
 else
 if b<0 then(
 R (.tuple #[.int .i64 0,.bool false]) H)
 else
 if b>3 then(
 R (.tuple #[.int .i64 0,.bool false]) H)
 else
 zw d 5/\
 zw b 4/\
 ∃x:Int,hat H (((sA.add 1).add (Int.toNat d*4)).add (Int.toNat b*1))=some (.int .i64 x)/\
 if x=0 then(
 R (.tuple #[.int .i64 0,.bool false]) H)
 else
 zw d 5/\
 zw b 4/\
 ∃f:Int,hat H (((sA.add 1).add (Int.toNat d*4)).add (Int.toNat b*1))=some (.int .i64 f)/\
 R (.tuple #[.int .i64 (zY (f-1)),.bool true]) H)
namespace space_Space_Current
theorem link{s:zW}{d b:Int}{H:zV}{R:zk}(h:pt s d b H R):C s d b H R:=by
 refine T_en K0 46 Tryz.func102 ?_
 intro w0 Q hQ
 unfold pt zY at h
 refine T_su [(0,vp s),(1,vi d),(2,vi b)]<| T_srz 0<| T_ed 2 [] []<| T_sz<| T_srz 1<| T_nd 1 [] [(8,vp s)] ?_
 rcases s with _ | sA
 ·rw[onPtr_none]at h
  exact T_ed 28 [0,8] [(0,vp none),(36,.bool true)]<| T_tz 36<| T_srz 2<| T_nr 2 [6,7] [vi 0,.bool false] hQ h
 rw[onPtr_some]at h
 refine T_nd 6 [0,8] [(0,vp (some sA)),(14,.bool (decide (d<0)))] ?_
 by_cases c1:d<0
 ·rw[if_pos c1]at h
  exact N_bd 14 (zX c1)<| T_ed 22 [14] [(36,.bool true)]<| T_tz 36<| T_srz 2<| T_nr 2 [6,7] [vi 0,.bool false] hQ h
 rw[if_neg c1]at h
 refine N_bd 14 (zQ c1)<| T_nd 4 [14] [(18,.bool (decide (d>4)))] ?_
 by_cases c3:d>4
 ·rw[if_pos c3]at h
  exact N_bd 18 (zX c3)<| T_ed 18 [18] [(36,.bool true)]<| T_tz 36<| T_srz 2<| T_nr 2 [6,7] [vi 0,.bool false] hQ h
 rw[if_neg c3]at h
 refine N_bd 18 (zQ c3)<| T_nd 4 [18] [(22,.bool (decide (b<0)))] ?_
 by_cases c5:b<0
 ·rw[if_pos c5]at h
  exact N_bd 22 (zX c5)<| T_ed 14 [22] [(36,.bool true)]<| T_tz 36<| T_srz 2<| T_nr 2 [6,7] [vi 0,.bool false] hQ h
 rw[if_neg c5]at h
 refine N_bd 22 (zQ c5)<| T_nd 4 [22] [(26,.bool (decide (b>3)))] ?_
 by_cases c7:b>3
 ·rw[if_pos c7]at h
  exact N_bd 26 (zX c7)<| T_ed 10 [26] [(36,.bool true)]<| T_tz 36<| T_srz 2<| T_nr 2 [6,7] [vi 0,.bool false] hQ h
 rw[if_neg c7]at h
 refine N_bd 26 (zQ c7)<| T_nd 5 [] [(28,vi d),(29,vi b),(31,vp (some (sA.add 1)))] ?_
 obtain⟨q9,h⟩:=h
 refine T_v1 32 (indexAtN 71 (vp (some (sA.add 1))) (vi d)) (vp (some ((sA.add 1).add (Int.toNat d*4)))) (λw _=>indexArr_run (P:=Tryz.prog) (t:=71) (elem:=70) (sz:=4) (n:=5) (a:=(sA.add 1)) (k:=.i64) (i:=d) Tryz.underlying71 (λ_=>by kernel_rfl) q9.1 q9.2 w) [28,31] ?_
 obtain⟨q10,h⟩:=h
 refine T_v1 33 (indexAtN 70 (vp (some ((sA.add 1).add (Int.toNat d*4)))) (vi b)) (vp (some (((sA.add 1).add (Int.toNat d*4)).add (Int.toNat b*1)))) (λw _=>indexArr_run (P:=Tryz.prog) (t:=70) (elem:=3) (sz:=1) (n:=4) (a:=((sA.add 1).add (Int.toNat d*4))) (k:=.i64) (i:=b) Tryz.underlying70 (λ_=>by kernel_rfl) q10.1 q10.2 w) [29,32] ?_
 obtain⟨x,q11,h⟩:=h
 refine T_l1 34 3 q11 [33]<| T_ed 2 [26,34] [(36,.bool (x==0))] ?_
 by_cases c12:x=0
 ·rw[if_pos c12]at h
  exact T_cTz 36 (zK c12)<| T_srz 2<| T_nr 2 [6,7] [vi 0,.bool false] hQ h
 rw[if_neg c12]at h
 refine T_cFz 36 (zJ c12)<| T_kt<| T_srz 3<| T_n 5 [(38,vi d),(39,vi b),(41,vp (some (sA.add 1)))] ?_
 obtain⟨q14,h⟩:=h
 refine T_v1 42 (indexAtN 71 (vp (some (sA.add 1))) (vi d)) (vp (some ((sA.add 1).add (Int.toNat d*4)))) (λw _=>indexArr_run (P:=Tryz.prog) (t:=71) (elem:=70) (sz:=4) (n:=5) (a:=(sA.add 1)) (k:=.i64) (i:=d) Tryz.underlying71 (λ_=>by kernel_rfl) q14.1 q14.2 w) [38,41] ?_
 obtain⟨q15,h⟩:=h
 refine T_v1 43 (indexAtN 70 (vp (some ((sA.add 1).add (Int.toNat d*4)))) (vi b)) (vp (some (((sA.add 1).add (Int.toNat d*4)).add (Int.toNat b*1)))) (λw _=>indexArr_run (P:=Tryz.prog) (t:=70) (elem:=3) (sz:=1) (n:=4) (a:=((sA.add 1).add (Int.toNat d*4))) (k:=.i64) (i:=b) Tryz.underlying70 (λ_=>by kernel_rfl) q15.1 q15.2 w) [39,42] ?_
 obtain⟨f,q16,h⟩:=h
 exact T_l1 44 3 q16 [43]<| T_nr 3 [6,7] [vi (zY (f-1)),.bool true] hQ h
end space_Space_Current

/-! (*moraine/card.Cards).Gen -/
namespace card_Cards_Gen
def K0:=Func.code Tryz.f15
end card_Cards_Gen
def card_Cards_Gen.pt(c:zW)(wv:Int)(H:zV)(R:zk):Prop:=
 word_Addr.C wv H (λv H1=> ∃(ra:Int) (rb:Bool),v=.tuple #[.int .i64 ra,.bool rb]/\
 card_Cards_none.C c H1 (λr H2=> ∃x:Bool,r=.bool x/\
 if x=true then(
 R (.tuple #[.int .i64 0,.bool false]) H2)
 else
 if rb=true then(
 word_Tag.C wv H2 (λs H3=> ∃m:Int,s=.int .i64 m/\
 if m=6 then(
 R (.tuple #[.int .i64 0,.bool false]) H3)
 else
 ∃cA:Addr,c=some cA/\
 ∃q:zW,hat H3 cA=some (.pointer q)/\
 ∃p:Addr,q=some p/\
 ∃o:zW,hat H3 p=some (.pointer o)/\
 seg_Mem_Seg.C o (zY (Int.tdiv ra 64)) H3 (λt H4=> ∃(k i l d g a f:Int) (j:Bool),t=.tuple #[.agg #[.int .i64 k,.int .i64 i,.int .i64 l,.int .i64 d,.int .i64 g,.int .i64 a,.int .i64 f],.bool j]/\
 ∀(b:Nat) (H5:zV),b=H4.size->H5=H4.push (.cells #[.int .i64 0,.int .i64 0,.int .i64 0,.int .i64 0,.int .i64 0,.int .i64 0,.int .i64 0] 76)->
 (CanPuts H5 (ad b) 0 7)/\ ∀H6,H6=hputs H5 (ad b) [.int .i64 k,.int .i64 i,.int .i64 l,.int .i64 d,.int .i64 g,.int .i64 a,.int .i64 f] 0->
 ∃n:Int,hat H6 (ad b)=some (.int .i64 n)/\
 R (.tuple #[.int .i64 n,.bool j]) H6)))
 else
 R (.tuple #[.int .i64 0,.bool false]) H2))
namespace card_Cards_Gen
theorem link{c:zW}{wv:Int}{H:zV}{R:zk}(h:pt c wv H R):C c wv H R:=by
 refine T_en K0 41 Tryz.func15 ?_
 intro w0 Q hQ
 unfold pt zY at h
 refine T_su [(0,vp c),(1,vu wv)]<| T_srz 0<| T_ed 2 [] []<| T_srz 1<| T_nd 1 [] [(10,vu wv)]<| T_c (some 11) h ?_;clear h
 rintro v H1 ⟨ra,rb,rfl,h⟩
 refine T_pd [10] [(11,.tuple #[vi ra,.bool rb])]<| T_ed 5 [11] [(6,vi ra),(7,.bool rb)]<| T_sz<| T_srz 2<| T_nd 1 [] [(14,vp c)]<| T_c (some 15) h ?_;clear h
 rintro r H2 ⟨x,rfl,h⟩
 refine T_pd [14] [(15,.bool x)]<| T_nd 1 [15] [(16,.bool x)] ?_
 by_cases c1:x=true
 ·rw[if_pos c1]at h
  exact N_bd 16 c1<| T_ed 8 [1,7,16] [(24,.bool true)]<| T_tz 24<| T_srz 3<| T_nr 2 [4,5] [vi 0,.bool false] hQ h
 rw[if_neg c1]at h
 refine N_bd 16 (zZ c1)<| T_nd 4 [7,16] [(20,.bool (!rb))] ?_
 by_cases c3:rb=true
 ·rw[if_pos c3]at h
  have b4:(!rb)=false:=congrArg Bool.not (c3)
  have b42:rb=true:=c3
  refine N_bd 20 (b:=(!rb)) (v:=false) (by simp only[b4,b42,Bool.not_true,Bool.not_false]) ?_
  clear b4 b42
  refine T_nd 1 [1] [(21,vu wv)]<| T_c (some 22) h ?_;clear h
  rintro s H3 ⟨m,rfl,h⟩
  refine T_pd [21] [(22,vi m)]<| T_ed 2 [20,22] [(24,.bool (m==6))] ?_
  by_cases c5:m=6
  ·rw[if_pos c5]at h
   exact T_cTz 24 (zK c5)<| T_srz 3<| T_nr 2 [4,5] [vi 0,.bool false] hQ h
  rw[if_neg c5]at h
  refine T_cFz 24 (zJ c5)<| T_kt<| T_srz 4<| T_nd 1 [0,24] [(26,vp c)] ?_
  obtain⟨cA,rfl,h⟩:=h
  refine T_nd 2 [26] [(28,vp (some cA))] ?_
  obtain⟨q,q7,h⟩:=h
  refine T_l1 29 39 q7 [28] ?_
  obtain⟨p,rfl,h⟩:=h
  refine T_nd 2 [29] [(31,vp (some p))] ?_
  obtain⟨o,q8,h⟩:=h
  refine T_l1 32 69 q8 [31]<| T_nd 2 [6] [(34,vi (zY (Int.tdiv ra 64)))]<| T_c (some 35) h ?_;clear h
  rintro t H4 ⟨k,i,l,d,g,a,f,j,rfl,h⟩
  refine⟨[(35,.tuple #[.agg #[vi k,vi i,vi l,vi d,vi g,vi a,vi f],.bool j])],pk,?_⟩
  refine T_n 3 [(36,.agg #[vi k,vi i,vi l,vi d,vi g,vi a,vi f]),(37,.bool j)]<| T_nw (some 8) (λb=>vp (pa b)) (.cells #[vi 0,vi 0,vi 0,vi 0,vi 0,vi 0,vi 0] 76) ?_
  intro b H5 e9 e10
  replace h:=h b H5 e9 e10
  refine T_pd [] [(8,vp (pa b))] ?_
  obtain⟨q12,h⟩:=h
  refine T_sta 76 [vi k,vi i,vi l,vi d,vi g,vi a,vi f] q12 ?_
  intro H6 e11
  replace h:=h H6 e11
  refine T_pd [36] []<| T_ed 1 [37] [(7,.bool j)]<| T_srz 5<| T_nd 1 [8] [(38,vp (pa b))] ?_
  obtain⟨n,q13,h⟩:=h
  exact T_l1 39 3 q13 [38]<| T_nr 3 [4,5] [vi n,.bool j] hQ h
 rw[if_neg c3]at h
 have b4:(!rb)=true:=congrArg Bool.not (zZ c3)
 have b42:rb=false:=zZ c3
 refine N_bd 20 (b:=(!rb)) (v:=true) (by simp only[b4,b42,Bool.not_true,Bool.not_false]) ?_
 clear b4 b42
 exact T_ed 4 [1,20] [(24,.bool true)]<| T_tz 24<| T_srz 3<| T_nr 2 [4,5] [vi 0,.bool false] hQ h
end card_Cards_Gen

/-! moraine/card.New -/
namespace card_New
def K0:=Func.code Tryz.f35
end card_New
def card_New.pt(a:Int)(H:zV)(R:zk):Prop:=
 space_New.C a H (λv H1=> ∃(ra:zW) (rb:Int),v=.tuple #[.pointer ra,.int .i64 rb]/\
 if rb=0 then(
 ∀(b:Nat) (H2:zV),b=H1.size->H2=H1.push (.cells #[.pointer ra] 41)->
 R (.tuple #[.pointer (some (ad b)),.int .i64 0]) H2)
 else
 R (.tuple #[.pointer none,.int .i64 rb]) H1)
namespace card_New
theorem link{a:Int}{H:zV}{R:zk}(h:pt a H R):C a H R:=by
 refine T_en K0 17 Tryz.func35 ?_
 intro w0 Q hQ
 unfold pt at h
 refine T_su [(0,vi a)]<| T_srz 0<| T_ed 2 [] []<| T_srz 1<| T_n 1 [(7,vi a)]<| T_c (some 8) h ?_;clear h
 rintro v H1 ⟨ra,rb,rfl,h⟩
 refine⟨[(8,.tuple #[vp ra,vi rb])],pk,?_⟩
 refine T_ne 5 [(4,vp ra),(5,vi rb)]<| T_sz<| T_srz 2<| T_ed 2 [] [(12,.bool (rb !=0))] ?_
 by_cases c1:rb=0
 ·rw[if_pos c1]at h
  refine T_cFz 12 (bne_eq_false_iff_eq.mpr c1)<| T_kt<| T_srz 4<| T_n 2 [(15,.agg #[vp ra])]<| T_nw (some 16) (λb=>vp (pa b)) (.cells #[vp ra] 41) ?_
  intro b H2 e3 e4
  replace h:=h b H2 e3 e4
  refine⟨[(16,vp (pa b))],pk,?_⟩
  exact T_nr 2 [2,3] [vp (pa b),vi 0] hQ h
 rw[if_neg c1]at h
 exact T_cTz 12 (bne_iff_ne.mpr c1)<| T_srz 3<| T_nr 3 [2,3] [vp none,vi rb] hQ h
end card_New

/-! (*moraine/card.Cards).none -/
namespace card_Cards_none
def K0:=Func.code Tryz.f41
end card_Cards_none
def card_Cards_none.pt(c:zW)(H:zV)(R:zk):Prop:=
 onPtr c (
 R (.bool true) H) (λcA=>
 ∃x:zW,hat H cA=some (.pointer x)/\
 onPtr x (
 R (.bool true) H) (λxA=>
 ∃b:zW,hat H cA=some (.pointer b)/\
 ∃d:Addr,b=some d/\
 ∃a:zW,hat H d=some (.pointer a)/\
 onPtr a (
 R (.bool true) H) (λf=>
 R (.bool false) H)))
namespace card_Cards_none
theorem link{c:zW}{H:zV}{R:zk}(h:pt c H R):C c H R:=by
 refine T_en K0 22 Tryz.func41 ?_
 intro w0 Q hQ
 unfold pt at h
 refine T_su [(0,vp c)]<| T_srz 0<| T_ed 1 [] []<| T_srz 1<| T_nd 1 [] [(3,vp c)] ?_
 rcases c with _ | cA
 ·rw[onPtr_none]at h
  exact T_nr 19 [2] [.bool true] hQ h
 rw[onPtr_some]at h
 refine T_n 5 [(0,vp (some cA)),(5,.bool false),(8,vp (some cA))] ?_
 obtain⟨x,q1,h⟩:=h
 refine T_l1 9 39 q1 [8] ?_
 rcases x with _ | xA
 ·rw[onPtr_none]at h
  exact T_nr 13 [2] [.bool true] hQ h
 rw[onPtr_some]at h
 refine T_n 6 [(12,.bool false),(15,vp (some cA))] ?_
 obtain⟨b,q2,h⟩:=h
 refine T_l1 16 39 q2 [15] ?_
 obtain⟨d,rfl,h⟩:=h
 refine T_nd 2 [16] [(18,vp (some d))] ?_
 obtain⟨a,q3,h⟩:=h
 refine T_l1 19 69 q3 [18] ?_
 rcases a with _ | f
 ·rw[onPtr_none]at h
  exact T_nr 3 [2] [.bool true] hQ h
 rw[onPtr_some]at h
 exact T_nr 3 [2] [.bool false] hQ h
end card_Cards_none

/-! (*moraine/card.Cards).younger -/
namespace card_Cards_younger
def K0:=Func.code Tryz.f99
end card_Cards_younger
def card_Cards_younger.pt(c:zW)(l j sN i g d f wv a:Int)(H:zV)(R:zk):Prop:=
 ∀(b:Nat) (H1:zV),b=H.size->H1=H.push (.cells #[.int .i64 l,.int .i64 j,.int .i64 sN,.int .i64 i,.int .i64 g,.int .i64 d,.int .i64 f] 76)->
 card_Cards_Gen.C c wv H1 (λv H2=> ∃(ra:Int) (rb:Bool),v=.tuple #[.int .i64 ra,.bool rb]/\
 if rb=true then(
 ∃x:Int,hat H2 ((ad b).add 1)=some (.int .i64 x)/\
 if x=3 then(
 R (.int .i64 a) H2)
 else
 ∃k:Int,hat H2 (ad b)=some (.int .i64 k)/\
 if ra<k then(
 R (.int .i64 (if ra<a then ra else a)) H2)
 else
 R (.int .i64 a) H2)
 else
 R (.int .i64 a) H2)
namespace card_Cards_younger
theorem link{c:zW}{l j sN i g d f wv a:Int}{H:zV}{R:zk}(h:pt c l j sN i g d f wv a H R):C c l j sN i g d f wv a H R:=by
 refine T_en K0 33 Tryz.func99 ?_
 intro w0 Q hQ
 unfold pt at h
 refine T_su [(0,vp c),(1,.agg #[vi l,vi j,vi sN,vi i,vi g,vi d,vi f]),(2,vu wv),(3,vi a)]<| T_srz 0<| T_nw (some 5) (λb=>vp (pa b)) (.cells #[vi l,vi j,vi sN,vi i,vi g,vi d,vi f] 76) ?_
 intro b H1 e1 e2
 replace h:=h b H1 e1 e2
 refine T_pd [1] [(5,vp (pa b))]<| T_ed 1 [] []<| T_sz<| T_srz 1<| T_nd 2 [0,2] [(12,vp c),(13,vu wv)]<| T_c (some 14) h ?_;clear h
 rintro v H2 ⟨ra,rb,rfl,h⟩
 refine T_pd [12,13] [(14,.tuple #[vi ra,.bool rb])]<| T_ed 5 [14] [(9,vi ra),(10,.bool rb)]<| T_srz 2<| T_nd 2 [10] [(18,.bool rb)] ?_
 by_cases c3:rb=true
 ·rw[if_pos c3]at h
  refine N_bd 18 c3<| T_nd 1 [] [(19,vp (some ((ad b).add 1)))] ?_
  obtain⟨x,q5,h⟩:=h
  refine T_l1 20 3 q5 [19]<| T_nd 3 [18,20] [(23,.bool (x !=3))] ?_
  by_cases c6:x=3
  ·rw[if_pos c6]at h
   exact N_bd 23 (bne_eq_false_iff_eq.mpr c6)<| T_ed 5 [5,23] [(28,.bool false)]<| T_fz 28<| T_kt<| T_srz 4<| T_nr 2 [8] [vi a] hQ h
  rw[if_neg c6]at h
  refine N_bd 23 (bne_iff_ne.mpr c6)<| T_nd 2 [5] [(24,vi ra),(25,vp (pa b))] ?_
  obtain⟨k,q8,h⟩:=h
  refine T_l1 26 3 q8 [25]<| T_ed 2 [23,24,26] [(28,.bool (decide (ra<k)))] ?_
  by_cases c9:ra<k
  ·rw[if_pos c9]at h
   exact T_cTz 28 (zX c9)<| T_srz 3<| T_nr 4 [8] [vi (if ra<a then ra else a)] hQ h
  rw[if_neg c9]at h
  exact T_cFz 28 (zQ c9)<| T_kt<| T_srz 4<| T_nr 2 [8] [vi a] hQ h
 rw[if_neg c3]at h
 exact N_bd 18 (zZ c3)<| T_ed 10 [5,18] [(28,.bool false)]<| T_fz 28<| T_kt<| T_srz 4<| T_nr 2 [8] [vi a] hQ h
end card_Cards_younger

/-! (*moraine/card.Cards).Store -/
namespace card_Cards_Store
def K0:=Func.code Tryz.f132
def K2:=cb K0
def K4:=cb K2
def K12:=cb K4
def K20:=cb K12
def K22:=cb K20
def K23:=ca K22
end card_Cards_Store
def card_Cards_Store.pt(c:zW)(d wv:Int)(H:zV)(R:zk):Prop:=
 card_Cards_none.C c H (λv H1=> ∃x:Bool,v=.bool x/\
 if x=true then(
 R (.int .i64 18) H1)
 else
 ∃cA:Addr,c=some cA/\
 ∃am:zW,hat H1 cA=some (.pointer am)/\
 ∃aj:Addr,am=some aj/\
 ∃ah:zW,hat H1 aj=some (.pointer ah)/\
 seg_Mem_Write.C ah d wv H1 (λao H2=> ∃ab:Int,ao=.int .i64 ab/\
 if ab=0 then(
 ∃ak:zW,hat H2 cA=some (.pointer ak)/\
 ∃al:Addr,ak=some al/\
 ∃ai:zW,hat H2 al=some (.pointer ai)/\
 seg_Mem_Seg.C ai (zY (Int.tdiv d 64)) H2 (λap H3=> ∃(aa s ae o q m p:Int) (rb:Bool),ap=.tuple #[.agg #[.int .i64 aa,.int .i64 s,.int .i64 ae,.int .i64 o,.int .i64 q,.int .i64 m,.int .i64 p],.bool rb]/\
 ∀(b:Nat) (H4:zV),b=H3.size->H4=H3.push (.cells #[.int .i64 0,.int .i64 0,.int .i64 0,.int .i64 0,.int .i64 0,.int .i64 0,.int .i64 0] 76)->
 (CanPuts H4 (ad b) 0 7)/\ ∀H5,H5=hputs H4 (ad b) [.int .i64 aa,.int .i64 s,.int .i64 ae,.int .i64 o,.int .i64 q,.int .i64 m,.int .i64 p] 0->
 ∃an:zW,hat H5 cA=some (.pointer an)/\
 ∃z:Addr,an=some z/\
 ∃u:zW,hat H5 z=some (.pointer u)/\
 ∃y r xN l f g j:Int,RowAt H5 (ad b) 0 [.int .i64 y,.int .i64 r,.int .i64 xN,.int .i64 l,.int .i64 f,.int .i64 g,.int .i64 j]/\
 ((0:Int)<=(zY (Int.tdiv (Int.tmod d 64) 16))/\(zY (Int.tdiv (Int.tmod d 64) 16))< (4:Int))/\
 ∃ag:Int,hat H5 (((ad b).add 3).add (Int.toNat (zY (Int.tdiv (Int.tmod d 64) 16))*1))=some (.int .i64 ag)/\
 card_Cards_younger.C (some cA) y r xN l f g j wv ag H5 (λau H6=> ∃af:Int,au=.int .i64 af/\RowAt H6 cA 0 [.pointer (some z)]/\RowAt H6 z 0 [.pointer u]/\
 seg_Mem_Mark.C u (zY (Int.tdiv d 64)) (zY (Int.tdiv (Int.tmod d 64) 16)) af H6 (λaq H7=> ∃ac:Int,aq=.int .i64 ac/\
 R (.int .i64 ac) H7))))
 else
 R (.int .i64 ab) H2))
namespace card_Cards_Store
theorem link{c:zW}{d wv:Int}{H:zV}{R:zk}(h:pt c d wv H R):C c d wv H R:=by
 refine T_en K0 62 Tryz.func132 ?_
 intro w0 Q hQ
 unfold pt zY at h
 refine T_su [(0,vp c),(1,vi d),(2,vu wv)]<| T_srz 0<| T_ed 1 [] []<| T_sz<| T_srz 1<| T_nd 1 [] [(12,vp c)]<| T_c (some 13) h ?_;clear h
 rintro v H1 ⟨x,rfl,h⟩
 refine T_pd [12] [(13,.bool x)]<| T_e ?_
 by_cases c1:x=true
 ·rw[if_pos c1]at h
  exact T_cTz 13 c1<| T_srz 2<| T_nr 1 [6] [vi 18] hQ h
 rw[if_neg c1]at h
 refine T_cFz 13 (zZ c1)<| T_kt<| T_sz<| T_srz 3<| T_nd 1 [13] [(14,vp c)] ?_
 obtain⟨cA,rfl,h⟩:=h
 refine T_nd 2 [0,14] [(0,vp (some cA)),(16,vp (some cA))] ?_
 obtain⟨am,q3,h⟩:=h
 refine T_l1 17 39 q3 [16] ?_
 obtain⟨aj,rfl,h⟩:=h
 refine T_nd 2 [17] [(19,vp (some aj))] ?_
 obtain⟨ah,q4,h⟩:=h
 refine T_l1 20 69 q4 [19]<| T_nd 2 [] [(21,vi d),(22,vu wv)]<| T_c (some 23) h ?_;clear h
 rintro ao H2 ⟨ab,rfl,h⟩
 refine T_pd [20,21,22] [(23,vi ab)]<| T_ed 1 [23] [(7,vi ab)]<| T_srz 4<| T_ed 2 [] [(25,.bool (ab !=0))] ?_
 by_cases c5:ab=0
 ·rw[if_pos c5]at h
  refine T_cFz 25 (bne_eq_false_iff_eq.mpr c5)<| T_kt<| T_srz 6<| T_ed 7 [1,7,25] [(8,vi (zY (Int.tdiv d 64))),(9,vi (zY (Int.tdiv (Int.tmod d 64) 16)))]<| T_srz 7<| T_nd 3 [] [(35,vp (some cA))] ?_
  obtain⟨ak,q7,h⟩:=h
  refine T_l1 36 39 q7 [35] ?_
  obtain⟨al,rfl,h⟩:=h
  refine T_nd 2 [36] [(38,vp (some al))] ?_
  obtain⟨ai,q8,h⟩:=h
  refine T_l1 39 69 q8 [38]<| T_nd 1 [] [(40,vi (zY (Int.tdiv d 64)))]<| T_c (some 41) h ?_;clear h
  rintro ap H3 ⟨aa,s,ae,o,q,m,p,rb,rfl,h⟩
  refine T_pd [39,40] [(41,.tuple #[.agg #[vi aa,vi s,vi ae,vi o,vi q,vi m,vi p],.bool rb])]<| T_nd 3 [41] [(42,.agg #[vi aa,vi s,vi ae,vi o,vi q,vi m,vi p]),(43,.bool rb)]<| T_nw (some 10) (λb=>vp (pa b)) (.cells #[vi 0,vi 0,vi 0,vi 0,vi 0,vi 0,vi 0] 76) ?_
  intro b H4 e9 e10
  replace h:=h b H4 e9 e10
  refine T_pd [] [(10,vp (pa b))] ?_
  obtain⟨q12,h⟩:=h
  refine T_sta 76 [vi aa,vi s,vi ae,vi o,vi q,vi m,vi p] q12 ?_
  intro H5 e11
  replace h:=h H5 e11
  refine T_pd [42] []<| T_ed 1 [43] []<| T_sz ?_
  obtain⟨an,q13,z,rfl,u,q14,y,r,xN,l,f,g,j,q15,q16,ag,q17,h⟩:=h
  refine yY 8 (Code.ops K23) [(17,cA,[vp (some z)]),(17,z,[vp u]),(16,(ad b),[vi y,vi r,vi xN,vi l,vi f,vi g,vi j]),(16,(((ad b).add 3).add (Int.toNat (zY (Int.tdiv (Int.tmod d 64) 16))*1)),[vi ag])] 19 (bv 19 0) (show FactsAt _ _ _ from⟨⟨q13,trivial⟩,⟨q14,trivial⟩,q15,⟨q17,trivial⟩,trivial⟩)<| T_gp 0 (some 44) (vp (some cA)) (bv 19 1) [(0,vp (some cA)),(2,vu wv),(8,vi (zY (Int.tdiv d 64))),(9,vi (zY (Int.tdiv (Int.tmod d 64) 16))),(10,vp (pa b)),(44,vp (some cA))]<| T_gp1 1 45 (vp (some cA)) (bv 19 3) [44]<| T_gp1 2 46 (vp (some cA)) (bv 19 7) [45]<| T_g1 3 47 (vp (some z)) (bv 19 15) [46] (loadN 39 (vp (some cA))) (yW 17 yZ)<| T_gp1 4 48 (vp (some z)) (bv 19 31) [47]<| T_gp1 5 49 (vp (some z)) (bv 19 63) [48]<| T_g1 6 50 (vp u) (bv 19 127) [49] (loadN 69 (vp (some z))) (yW 17 yX)<| T_gp1 7 51 (vi (zY (Int.tdiv d 64))) (bv 19 255) [8]<| T_gp1 8 52 (vi (zY (Int.tdiv (Int.tmod d 64) 16))) (bv 19 511) []<| T_gp1 9 53 (vp (some cA)) (bv 19 1023) [0]<| T_g1 10 54 (.agg #[vi y,vi r,vi xN,vi l,vi f,vi g,vi j]) (bv 19 2047) [] (loadN 76 (vp (pa b))) (held_row 16 (λ_=>by kernel_rfl) (λ_=>by kernel_rfl) yQ (.inl (by kernel_rfl)))<| T_gp1 11 55 (vu wv) (bv 19 4095) [2]<| T_gp1 12 56 (vi (zY (Int.tdiv (Int.tmod d 64) 16))) (bv 19 8191) [9]<| T_gp1 13 57 (vp (some ((ad b).add 3))) (bv 19 16383) [10]<| T_g1 14 58 (vp (some (((ad b).add 3).add (Int.toNat (zY (Int.tdiv (Int.tmod d 64) 16))*1)))) (bv 19 32767) [56,57] (indexAtN 70 (vp (some ((ad b).add 3))) (vi (zY (Int.tdiv (Int.tmod d 64) 16)))) (λ_ w _ _ _=>indexArr_run (P:=Tryz.prog) (t:=70) (elem:=3) (sz:=1) (n:=4) (a:=((ad b).add 3)) (k:=.i64) (i:=(zY (Int.tdiv (Int.tmod d 64) 16))) Tryz.underlying70 (λ_=>by kernel_rfl) q16.1 q16.2 w)<| T_g1 15 59 (vi ag) (bv 19 65535) [58] (loadN 3 (vp (some (((ad b).add 3).add (Int.toNat (zY (Int.tdiv (Int.tmod d 64) 16))*1))))) (yW 16 yJ)<| yq 16 (some 60) (bv 19 131071) 99 #[vp (some cA),.agg #[vi y,vi r,vi xN,vi l,vi f,vi g,vi j],vu wv,vi ag] h ?_;clear h
  rintro au H6 ⟨af,rfl,f18,f19,h⟩
  refine⟨[(50,vp u),(51,vi (zY (Int.tdiv d 64))),(52,vi (zY (Int.tdiv (Int.tmod d 64) 16))),(60,vi af)],pk,(show FactsAt _ _ _ from⟨f18,f19,trivial,trivial,trivial⟩),?_⟩
  refine yq 17 (some 61) (bv 19 262143) 100 #[vp u,vi (zY (Int.tdiv d 64)),vi (zY (Int.tdiv (Int.tmod d 64) 16)),vi af] h ?_;clear h
  rintro aq H7 ⟨ac,rfl,h⟩
  refine⟨[(61,vi ac)],pk,(show FactsAt _ _ _ from⟨trivial,trivial,trivial,trivial,trivial⟩),?_⟩
  exact T_g 18 (some 6) (vi ac) (bv 19 524287) [(6,vi ac)] (pure (.value (vi ac)):Sem Next) (λ_ _ _ _ _=>rfl)<| G_sub [(6,vi ac)] sk<| yx<| S_then<| T_ret [6] [vi ac] hQ h
 rw[if_neg c5]at h
 exact T_cTz 25 (bne_iff_ne.mpr c5)<| T_srz 5<| T_nr 2 [6] [vi ab] hQ h
end card_Cards_Store

/-! (*moraine/obj.Heap).Cons -/
namespace obj_Heap_Cons
def K0:=Func.code Tryz.f11
end obj_Heap_Cons
def obj_Heap_Cons.pt(hv:zW)(d a:Int)(H:zV)(R:zk):Prop:=
 ∀(b:Nat) (H1:zV),b=H.size->H1=H.push (.cells #[.int .u64 d,.int .u64 a] 24)->
 obj_Heap_put.C hv 0 1 (some (ad b)) 2 2 H1 (λv H2=> ∃ra rb:Int,v=.tuple #[.int .u64 ra,.int .i64 rb]/\
 R (.tuple #[.int .u64 ra,.int .i64 rb]) H2)
namespace obj_Heap_Cons
theorem link{hv:zW}{d a:Int}{H:zV}{R:zk}(h:pt hv d a H R):C hv d a H R:=by
 refine T_en K0 15 Tryz.func11 ?_
 intro w0 Q hQ
 unfold pt at h
 refine T_su [(0,vp hv),(1,vu d),(2,vu a)]<| T_srz 0<| T_ed 2 [] []<| T_srz 1<| T_n 3 [(8,vp hv),(9,vu d),(10,vu a)]<| T_nw (some 11) (λb=>vs (pa b) 2 2) (.cells #[vu d,vu a] 24) ?_
 intro b H1 e1 e2
 replace h:=h b H1 e1 e2
 refine T_pd [9,10] [(11,vs (pa b) 2 2)]<| T_c (some 12) h ?_;clear h
 rintro v H2 ⟨ra,rb,rfl,h⟩
 refine⟨[(12,.tuple #[vu ra,vi rb])],pk,?_⟩
 exact T_nr 4 [6,7] [vu ra,vi rb] hQ h
end obj_Heap_Cons

/-! (*moraine/obj.Heap).Size -/
namespace obj_Heap_Size
def K0:=Func.code Tryz.f21
end obj_Heap_Size
def obj_Heap_Size.pt(hv:zW)(wv:Int)(H:zV)(R:zk):Prop:=
 obj_Heap_Pair.C hv wv H (λv H1=> ∃x:Bool,v=.bool x/\
 if x=true then(
 R (.int .i64 2) H1)
 else
 obj_Heap_object.C hv wv H1 (λa H2=> ∃(ra rb rc rd:Int) (re:Bool),a=.tuple #[.int .i64 ra,.int .i64 rb,.int .i64 rc,.int .u64 rd,.bool re]/\
 if re=true then(
 R (.int .i64 (zY (rc+1))) H2)
 else
 R (.int .i64 0) H2))
namespace obj_Heap_Size
theorem link{hv:zW}{wv:Int}{H:zV}{R:zk}(h:pt hv wv H R):C hv wv H R:=by
 refine T_en K0 25 Tryz.func21 ?_
 intro w0 Q hQ
 unfold pt zY at h
 refine T_su [(0,vp hv),(1,vu wv)]<| T_srz 0<| T_ed 1 [] []<| T_sz<| T_srz 1<| T_nd 2 [] [(10,vp hv),(11,vu wv)]<| T_c (some 12) h ?_;clear h
 rintro v H1 ⟨x,rfl,h⟩
 refine T_pd [10,11] [(12,.bool x)]<| T_e ?_
 by_cases c1:x=true
 ·rw[if_pos c1]at h
  exact T_cTz 12 c1<| T_srz 2<| T_nr 1 [4] [vi 2] hQ h
 rw[if_neg c1]at h
 refine T_cFz 12 (zZ c1)<| T_kt<| T_sz<| T_srz 3<| T_n 2 [(14,vp hv),(15,vu wv)]<| T_c (some 16) h ?_;clear h
 rintro a H2 ⟨ra,rb,rc,rd,re,rfl,h⟩
 refine⟨[(16,.tuple #[vi ra,vi rb,vi rc,vu rd,.bool re])],pk,?_⟩
 refine T_ne 11 [(7,vi rc),(9,.bool re)]<| T_srz 4<| T_ed 1 [9] [(22,.bool re)] ?_
 by_cases c3:re=true
 ·rw[if_pos c3]at h
  exact T_cTz 22 c3<| T_srz 5<| T_nr 3 [4] [vi (zY (rc+1))] hQ h
 rw[if_neg c3]at h
 exact T_cFz 22 (zZ c3)<| T_kt<| T_srz 6<| T_nr 1 [4] [vi 0] hQ h
end obj_Heap_Size

/-! (*moraine/obj.Heap).Car -/
namespace obj_Heap_Car
def K0:=Func.code Tryz.f39
end obj_Heap_Car
def obj_Heap_Car.pt(hv:zW)(wv:Int)(H:zV)(R:zk):Prop:=
 obj_Heap_half.C hv wv 0 H (λv H1=> ∃ra rb:Int,v=.tuple #[.int .u64 ra,.int .i64 rb]/\
 R (.tuple #[.int .u64 ra,.int .i64 rb]) H1)
namespace obj_Heap_Car
theorem link{hv:zW}{wv:Int}{H:zV}{R:zk}(h:pt hv wv H R):C hv wv H R:=by
 refine T_en K0 11 Tryz.func39 ?_
 intro w0 Q hQ
 unfold pt at h
 refine T_su [(0,vp hv),(1,vu wv)]<| T_srz 0<| T_ed 2 [] []<| T_srz 1<| T_n 2 [(6,vp hv),(7,vu wv)]<| T_c (some 8) h ?_;clear h
 rintro v H1 ⟨ra,rb,rfl,h⟩
 refine⟨[(8,.tuple #[vu ra,vi rb])],pk,?_⟩
 exact T_nr 4 [4,5] [vu ra,vi rb] hQ h
end obj_Heap_Car

/-! (*moraine/obj.Heap).Pair -/
namespace obj_Heap_Pair
def K0:=Func.code Tryz.f48
end obj_Heap_Pair
def obj_Heap_Pair.pt(hv:zW)(wv:Int)(H:zV)(R:zk):Prop:=
 obj_Heap_pair.C hv wv H (λv H1=> ∃(ra:Int) (rb:Bool),v=.tuple #[.int .i64 ra,.bool rb]/\
 R (.bool rb) H1)
namespace obj_Heap_Pair
theorem link{hv:zW}{wv:Int}{H:zV}{R:zk}(h:pt hv wv H R):C hv wv H R:=by
 refine T_en K0 14 Tryz.func48 ?_
 intro w0 Q hQ
 unfold pt at h
 refine T_su [(0,vp hv),(1,vu wv)]<| T_srz 0<| T_ed 1 [] []<| T_srz 1<| T_n 2 [(8,vp hv),(9,vu wv)]<| T_c (some 10) h ?_;clear h
 rintro v H1 ⟨ra,rb,rfl,h⟩
 refine⟨[(10,.tuple #[vi ra,.bool rb])],pk,?_⟩
 exact T_ne 5 [(6,.bool rb)]<| T_srz 2<| T_nr 2 [4] [.bool rb] hQ h
end obj_Heap_Pair

/-! (*moraine/obj.Heap).half -/
namespace obj_Heap_half
def K0:=Func.code Tryz.f79
end obj_Heap_half
def obj_Heap_half.pt(hv:zW)(wv i:Int)(H:zV)(R:zk):Prop:=
 obj_Heap_pair.C hv wv H (λv H1=> ∃(ra:Int) (rb:Bool),v=.tuple #[.int .i64 ra,.bool rb]/\
 if rb=true then(
 ∃f:Addr,hv=some f/\
 ∃x:zW,hat H1 f=some (.pointer x)/\
 ∃xA:Addr,x=some xA/\
 ∃g:zW,hat H1 xA=some (.pointer g)/\
 ∃j:Addr,g=some j/\
 ∃d:zW,hat H1 j=some (.pointer d)/\
 seg_Mem_Read.C d (zY (ra+i)) H1 (λk H2=> ∃a b:Int,k=.tuple #[.int .u64 a,.int .i64 b]/\
 R (.tuple #[.int .u64 a,.int .i64 b]) H2))
 else
 R (.tuple #[.int .u64 0,.int .i64 3]) H1)
namespace obj_Heap_half
theorem link{hv:zW}{wv i:Int}{H:zV}{R:zk}(h:pt hv wv i H R):C hv wv i H R:=by
 refine T_en K0 34 Tryz.func79 ?_
 intro w0 Q hQ
 unfold pt zY at h
 refine T_su [(0,vp hv),(1,vu wv),(2,vi i)]<| T_srz 0<| T_ed 2 [] []<| T_srz 1<| T_nd 2 [1] [(11,vp hv),(12,vu wv)]<| T_c (some 13) h ?_;clear h
 rintro v H1 ⟨ra,rb,rfl,h⟩
 refine T_pd [11,12] [(13,.tuple #[vi ra,.bool rb])]<| T_ed 5 [13] [(8,vi ra),(9,.bool rb)]<| T_sz<| T_srz 2<| T_ed 2 [9] [(17,.bool (!rb))] ?_
 by_cases c1:rb=true
 ·rw[if_pos c1]at h
  refine T_cFz 17 (congrArg Bool.not (c1))<| T_kt<| T_srz 4<| T_nd 1 [0,17] [(18,vp hv)] ?_
  obtain⟨f,rfl,h⟩:=h
  refine T_nd 2 [18] [(20,vp (some f))] ?_
  obtain⟨x,q3,h⟩:=h
  refine T_l1 21 26 q3 [20] ?_
  obtain⟨xA,rfl,h⟩:=h
  refine T_nd 2 [21] [(23,vp (some xA))] ?_
  obtain⟨g,q4,h⟩:=h
  refine T_l1 24 39 q4 [23] ?_
  obtain⟨j,rfl,h⟩:=h
  refine T_nd 2 [24] [(26,vp (some j))] ?_
  obtain⟨d,q5,h⟩:=h
  refine T_l1 27 69 q5 [26]<| T_nd 3 [2,8] [(30,vi (zY (ra+i)))]<| T_c (some 31) h ?_;clear h
  rintro k H2 ⟨a,b,rfl,h⟩
  refine⟨[(31,.tuple #[vu a,vi b])],pk,?_⟩
  exact T_nr 4 [6,7] [vu a,vi b] hQ h
 rw[if_neg c1]at h
 exact T_cTz 17 (congrArg Bool.not (zZ c1))<| T_srz 3<| T_nr 2 [6,7] [vu 0,vi 3] hQ h
end obj_Heap_half

/-! (*moraine/obj.Heap).Weak -/
namespace obj_Heap_Weak
def K0:=Func.code Tryz.f83
end obj_Heap_Weak
def obj_Heap_Weak.pt(hv:zW)(d a:Int)(H:zV)(R:zk):Prop:=
 ∀(b:Nat) (H1:zV),b=H.size->H1=H.push (.cells #[.int .u64 d,.int .u64 a] 24)->
 obj_Heap_put.C hv 1 2 (some (ad b)) 2 2 H1 (λv H2=> ∃ra rb:Int,v=.tuple #[.int .u64 ra,.int .i64 rb]/\
 R (.tuple #[.int .u64 ra,.int .i64 rb]) H2)
namespace obj_Heap_Weak
theorem link{hv:zW}{d a:Int}{H:zV}{R:zk}(h:pt hv d a H R):C hv d a H R:=by
 refine T_en K0 15 Tryz.func83 ?_
 intro w0 Q hQ
 unfold pt at h
 refine T_su [(0,vp hv),(1,vu d),(2,vu a)]<| T_srz 0<| T_ed 2 [] []<| T_srz 1<| T_n 3 [(8,vp hv),(9,vu d),(10,vu a)]<| T_nw (some 11) (λb=>vs (pa b) 2 2) (.cells #[vu d,vu a] 24) ?_
 intro b H1 e1 e2
 replace h:=h b H1 e1 e2
 refine T_pd [9,10] [(11,vs (pa b) 2 2)]<| T_c (some 12) h ?_;clear h
 rintro v H2 ⟨ra,rb,rfl,h⟩
 refine⟨[(12,.tuple #[vu ra,vi rb])],pk,?_⟩
 exact T_nr 4 [6,7] [vu ra,vi rb] hQ h
end obj_Heap_Weak

/-! (*moraine/obj.Heap).pair -/
namespace obj_Heap_pair
def K0:=Func.code Tryz.f89
end obj_Heap_pair
def obj_Heap_pair.pt(hv:zW)(wv:Int)(H:zV)(R:zk):Prop:=
 obj_Heap_at.C hv wv 1 0 H (λv H1=> ∃(ra:Int) (rb:Bool),v=.tuple #[.int .i64 ra,.bool rb]/\
 if rb=true then(
 R (.tuple #[.int .i64 ra,.bool ((Int.tmod ra 2)==0)]) H1)
 else
 obj_Heap_at.C hv wv 2 1 H1 (λd H2=> ∃(a:Int) (b:Bool),d=.tuple #[.int .i64 a,.bool b]/\
 R (.tuple #[.int .i64 a,.bool (b && ((Int.tmod a 2)==0))]) H2))
namespace obj_Heap_pair
theorem link{hv:zW}{wv:Int}{H:zV}{R:zk}(h:pt hv wv H R):C hv wv H R:=by
 refine T_en K0 29 Tryz.func89 ?_
 intro w0 Q hQ
 unfold pt at h
 refine T_su [(0,vp hv),(1,vu wv)]<| T_srz 0<| T_ed 2 [] []<| T_srz 1<| T_nd 2 [] [(9,vp hv),(10,vu wv)]<| T_c (some 11) h ?_;clear h
 rintro v H1 ⟨ra,rb,rfl,h⟩
 refine T_pd [9,10] [(11,.tuple #[vi ra,.bool rb])]<| T_ed 5 [11] [(6,vi ra),(7,.bool rb)]<| T_sz<| T_srz 2<| T_ed 2 [] [(15,.bool (!rb))] ?_
 by_cases c1:rb=true
 ·rw[if_pos c1]at h
  have b2:(!rb)=false:=congrArg Bool.not (c1)
  have b22:rb=true:=c1
  refine S_bd 7 (b:=rb) (v:=true) (by simp only[b2,b22,Bool.not_true,Bool.not_false])<| S_bd 15 (b:=(!rb)) (v:=false) (by simp only[b2,b22,Bool.not_true,Bool.not_false]) ?_
  clear b2 b22
  exact T_fz 15<| T_kt<| T_srz 4<| T_nr 9 [4,5] [vi ra,.bool ((Int.tmod ra 2)==0)] hQ h
 rw[if_neg c1]at h
 have b2:(!rb)=true:=congrArg Bool.not (zZ c1)
 have b22:rb=false:=zZ c1
 refine S_bd 7 (b:=rb) (v:=false) (by simp only[b2,b22,Bool.not_true,Bool.not_false])<| S_bd 15 (b:=(!rb)) (v:=true) (by simp only[b2,b22,Bool.not_true,Bool.not_false]) ?_
 clear b2 b22
 refine T_tz 15<| T_rz 3<| T_n 2 [(17,vp hv),(18,vu wv)]<| T_c (some 19) h ?_;clear h
 rintro d H2 ⟨a,b,rfl,h⟩
 refine⟨[(19,.tuple #[vi a,.bool b])],pk,?_⟩
 refine T_ne 5 [(6,vi a),(7,.bool b)]<| T_srz 4 ?_
 refine N_cut [(4,vi a),(5,.bool (b && ((Int.tmod a 2)==0)))] ?_ ?_
 ·exact S_then<| T_ret [4,5] [vi a,.bool (b && ((Int.tmod a 2)==0))] hQ h
 intro hk
 refine T_n 3 [(6,vi a),(22,vi a),(24,.bool b)] ?_
 by_cases c3:b=true
 ·have b4:b=true:=c3
  refine N_env [(6,vi a),(22,vi a),(24,.bool true)] (by rw[b4]) ?_
  refine T_n 6 [(4,vi a),(5,.bool ((Int.tmod a 2)==0))]<| zq<| S_env [(4,vi a),(5,.bool (b && ((Int.tmod a 2)==0)))] (by simp only[b4,BL]) ?_
  exact hk
 have b4:b=false:=zZ c3
 refine N_env [(6,vi a),(22,vi a),(24,.bool false)] (by rw[b4]) ?_
 refine T_n 6 [(4,vi a),(5,.bool false)]<| zq<| S_env [(4,vi a),(5,.bool (b && ((Int.tmod a 2)==0)))] (by simp only[b4,BL]) ?_
 exact hk
end obj_Heap_pair

/-! (*moraine/obj.Heap).SetCdr -/
namespace obj_Heap_SetCdr
def K0:=Func.code Tryz.f110
end obj_Heap_SetCdr
def obj_Heap_SetCdr.pt(hv:zW)(wv v:Int)(H:zV)(R:zk):Prop:=
 obj_Heap_set.C hv wv 1 v H (λa H1=> ∃x:Int,a=.int .i64 x/\
 R (.int .i64 x) H1)
namespace obj_Heap_SetCdr
theorem link{hv:zW}{wv v:Int}{H:zV}{R:zk}(h:pt hv wv v H R):C hv wv v H R:=by
 refine T_en K0 11 Tryz.func110 ?_
 intro w0 Q hQ
 unfold pt at h
 refine T_su [(0,vp hv),(1,vu wv),(2,vu v)]<| T_srz 0<| T_ed 1 [] []<| T_srz 1<| T_n 3 [(7,vp hv),(8,vu wv),(9,vu v)]<| T_c (some 10) h ?_;clear h
 rintro a H1 ⟨x,rfl,h⟩
 refine⟨[(10,vi x)],pk,?_⟩
 exact T_nr 1 [6] [vi x] hQ h
end obj_Heap_SetCdr

/-! (*moraine/obj.Heap).SetCar -/
namespace obj_Heap_SetCar
def K0:=Func.code Tryz.f118
end obj_Heap_SetCar
def obj_Heap_SetCar.pt(hv:zW)(wv v:Int)(H:zV)(R:zk):Prop:=
 obj_Heap_set.C hv wv 0 v H (λa H1=> ∃x:Int,a=.int .i64 x/\
 R (.int .i64 x) H1)
namespace obj_Heap_SetCar
theorem link{hv:zW}{wv v:Int}{H:zV}{R:zk}(h:pt hv wv v H R):C hv wv v H R:=by
 refine T_en K0 11 Tryz.func118 ?_
 intro w0 Q hQ
 unfold pt at h
 refine T_su [(0,vp hv),(1,vu wv),(2,vu v)]<| T_srz 0<| T_ed 1 [] []<| T_srz 1<| T_n 3 [(7,vp hv),(8,vu wv),(9,vu v)]<| T_c (some 10) h ?_;clear h
 rintro a H1 ⟨x,rfl,h⟩
 refine⟨[(10,vi x)],pk,?_⟩
 exact T_nr 1 [6] [vi x] hQ h
end obj_Heap_SetCar

/-! (*moraine/obj.Heap).set -/
namespace obj_Heap_set
def K0:=Func.code Tryz.f131
end obj_Heap_set
def obj_Heap_set.pt(hv:zW)(wv i v:Int)(H:zV)(R:zk):Prop:=
 obj_Heap_pair.C hv wv H (λd H1=> ∃(ra:Int) (rb:Bool),d=.tuple #[.int .i64 ra,.bool rb]/\
 if rb=true then(
 ∃b:Addr,hv=some b/\
 ∃x:zW,hat H1 b=some (.pointer x)/\
 card_Cards_Store.C x (zY (ra+i)) v H1 (λf H2=> ∃a:Int,f=.int .i64 a/\
 R (.int .i64 a) H2))
 else
 R (.int .i64 3) H1)
namespace obj_Heap_set
theorem link{hv:zW}{wv i v:Int}{H:zV}{R:zk}(h:pt hv wv i v H R):C hv wv i v H R:=by
 refine T_en K0 28 Tryz.func131 ?_
 intro w0 Q hQ
 unfold pt zY at h
 refine T_su [(0,vp hv),(1,vu wv),(2,vi i),(3,vu v)]<| T_srz 0<| T_ed 1 [] []<| T_srz 1<| T_nd 2 [1] [(12,vp hv),(13,vu wv)]<| T_c (some 14) h ?_;clear h
 rintro d H1 ⟨ra,rb,rfl,h⟩
 refine T_pd [12,13] [(14,.tuple #[vi ra,.bool rb])]<| T_ed 5 [14] [(9,vi ra),(10,.bool rb)]<| T_sz<| T_srz 2<| T_ed 2 [10] [(18,.bool (!rb))] ?_
 by_cases c1:rb=true
 ·rw[if_pos c1]at h
  refine T_cFz 18 (congrArg Bool.not (c1))<| T_kt<| T_srz 4<| T_nd 1 [0,18] [(19,vp hv)] ?_
  obtain⟨b,rfl,h⟩:=h
  refine T_nd 2 [19] [(21,vp (some b))] ?_
  obtain⟨x,q3,h⟩:=h
  refine T_l1 22 26 q3 [21]<| T_n 4 [(22,vp x),(25,vi (zY (ra+i))),(26,vu v)]<| T_c (some 27) h ?_;clear h
  rintro f H2 ⟨a,rfl,h⟩
  refine⟨[(27,vi a)],pk,?_⟩
  exact T_nr 1 [8] [vi a] hQ h
 rw[if_neg c1]at h
 exact T_cTz 18 (congrArg Bool.not (zZ c1))<| T_srz 3<| T_nr 1 [8] [vi 3] hQ h
end obj_Heap_set

/-! (*moraine/seg.Mem).Taken -/
namespace seg_Mem_Taken
def K0:=Func.code Tryz.f23
def K2:=cb K0
def K4:=cb K2
def K12:=cb K4
def K13:=ca K12
def K16:=cb K13
def K17:=ca K16
def K18:=ca K17
end seg_Mem_Taken
def seg_Mem_Taken.pt(m f:zW)(d g:Nat)(H:zV)(R:zk):Prop:=
 ∀(b:Nat) (H1:zV),b=H.size->H1=H.push (.cells #[.pointer m] 69)->
 ∃x:zW,hat H1 (ad b)=some (.pointer x)/\
 onPtr x (
 R (.slice none 0 0) H1) (λxA=>
 ∃ag:zW,hat H1 (ad b)=some (.pointer ag)/\
 ∃af:Addr,ag=some af/\
 ∃(xB:zW) (xN xC:Nat),hat H1 af=some (.slice xB xN xC)/\
 ∃(s:zW->Nat->Nat->zv) (m19:zW->Nat->Nat->Int->zV->Nat),s none 0 0 0 H1/\ ∀(lB:zW) (lN:Nat) (lC:Nat) (s15:Int) (H2:zV),s lB lN lC s15 H2->
 if s15< (xN:Int)then(
 ∃ae:zW,hat H2 (ad b)=some (.pointer ae)/\
 ∃ac:Addr,ae=some ac/\
 ∃(r:zW) (n p:Nat),hat H2 ac=some (.slice r n p)/\
 ∃j:Addr,r=some j/\
 zw s15 n/\
 ∃q:Int,hat H2 ((j.add (Int.toNat s15*72)).add 7)=some (.int .i64 q)/\
 if q>0 then(
 if(d:Int)=0 then(
 ∀(aa:Nat) (H3:zV),aa=H2.size->H3=H2.push (.cells #[.int .i64 s15] 3)->
 appendK 1 3 8 [.int .i64 0] lB lN lC (some (ad aa)) 1 H3 (λap y H4=>
 (s ap (lN+1) y (zY (s15+1)) H4/\m19 ap (lN+1) y (zY (s15+1)) H4<m19 lB lN lC s15 H2)))
 else
 ∃ab:Int,hat H2 (j.add (Int.toNat s15*72))=some (.int .i64 ab)/\
 slices_Contains_int_int.C f d g ab H2 (λv H5=> ∃u:Bool,v=.bool u/\
 if u=true then(
 ∀(z:Nat) (H6:zV),z=H5.size->H6=H5.push (.cells #[.int .i64 s15] 3)->
 appendK 1 3 8 [.int .i64 0] lB lN lC (some (ad z)) 1 H6 (λo l H7=>
 (s o (lN+1) l (zY (s15+1)) H7/\m19 o (lN+1) l (zY (s15+1)) H7<m19 lB lN lC s15 H2)))
 else
 (s lB lN lC (zY (s15+1)) H5/\m19 lB lN lC (zY (s15+1)) H5<m19 lB lN lC s15 H2)))
 else
 (s lB lN lC (zY (s15+1)) H2/\m19 lB lN lC (zY (s15+1)) H2<m19 lB lN lC s15 H2))
 else
 slices_SortFunc_int_int.C lB lN lC (.func (.func 53) #[] #[.pointer (some (ad b))]) H2 (λ_ H8=>
 R (.slice lB lN lC) H8))
namespace seg_Mem_Taken
theorem link{m f:zW}{d g:Nat}{H:zV}{R:zk}(h:pt m f d g H R):C m f d g H R:=by
 refine T_en K0 52 Tryz.func23 ?_
 intro w0 Q hQ
 unfold pt zY at h
 refine T_su [(0,vp m),(1,vs f d g)]<| T_srz 0<| T_nw (some 2) (λb=>vp (pa b)) (.cells #[vp m] 69) ?_
 intro b H1 e1 e2
 replace h:=h b H1 e1 e2
 refine T_pd [0] [(2,vp (pa b))]<| T_ed 1 [] []<| T_sz<| T_srz 1 ?_
 obtain⟨x,q3,h⟩:=h
 refine T_l1 8 69 q3 [] ?_
 rcases x with _ | xA
 ·rw[onPtr_none]at h
  exact T_ed 1 [8] [(9,.bool true)]<| T_tz 9<| T_srz 2<| T_nr 1 [4] [vs none 0 0] hQ h
 rw[onPtr_some]at h
 refine T_ed 1 [8] [(9,.bool false)]<| T_fz 9<| T_kt<| T_srz 3<| T_ed 1 [9] [(5,vs none 0 0)]<| T_sz<| T_srz 4 ?_
 obtain⟨ag,q4,h⟩:=h
 refine T_l1 10 69 q4 [] ?_
 obtain⟨af,rfl,h⟩:=h
 refine T_nd 2 [10] [(12,vp (some af))] ?_
 obtain⟨xB,xN,xC,q5,h⟩:=h
 refine T_l1 13 110 q5 [12]<| T_ed 2 [13] [(14,vi xN),(15,vi 0)]<| T_bz 0 ?_
 obtain⟨s,m19,i6,i7⟩:=h
 refine S_loop (x:=K18) (σ:=zW×Nat×Nat×Int) (λs_=> [(1,vs f d g),(2,vp (pa b)),(5,vs s_.1 s_.2.1 s_.2.2.1),(14,vi xN),(15,vi s_.2.2.2)]) (λs_ H=>s s_.1 s_.2.1 s_.2.2.1 s_.2.2.2 H) (λs_ H=>m19 s_.1 s_.2.1 s_.2.2.1 s_.2.2.2 H) ((none,0,0,0):zW×Nat×Nat×Int) (by kernel_rfl) i6 sk ?_
 rintro⟨lB,lN,lC,s15⟩ H2 i8
 have h:=i7 lB lN lC s15 H2 i8
 refine T_su [(1,vs f d g),(2,vp (pa b)),(5,vs lB lN lC),(14,vi xN),(15,vi s15)]<| T_srz 5<| T_ed 1 [] [(16,.bool (decide (s15< (xN:Int))))]<| T_sz ?_
 by_cases c9:s15< (xN:Int)
 ·rw[if_pos c9]at h
  refine T_cTz 16 (zX c9)<| T_kt<| T_sz<| T_bz 1<| T_srz 6<| T_ed 2 [16] [(6,vi s15)]<| T_srz 7 ?_
  obtain⟨ae,q11,h⟩:=h
  refine T_l1 18 69 q11 [] ?_
  obtain⟨ac,rfl,h⟩:=h
  refine T_nd 2 [18] [(20,vp (some ac))] ?_
  obtain⟨r,n,p,q12,h⟩:=h
  refine T_l1 21 110 q12 [20]<| T_nd 1 [] [(22,vi s15)] ?_
  obtain⟨j,rfl,q13,h⟩:=h
  refine T_xd (some 23) 110 116 72 j n p .i64 s15 Tryz.underlying110 q13.1 q13.2 [21,22] [(23,vp (some (j.add (Int.toNat s15*72))))]<| T_ed 1 [23] [(7,vp (some (j.add (Int.toNat s15*72))))]<| T_srz 8<| T_nd 3 [] [(26,vp (some ((j.add (Int.toNat s15*72)).add 7)))] ?_
  obtain⟨q,q14,h⟩:=h
  refine T_l1 27 3 q14 [26]<| T_nd 2 [27] [(29,.bool (decide (q>0)))] ?_
  by_cases c15:q>0
  ·rw[if_pos c15]at h
   refine N_bd 29 (zX c15)<| T_nd 4 [] [(33,.bool ((d:Int)==0))] ?_
   by_cases c17:(d:Int)=0
   ·rw[if_pos c17]at h
    refine N_bd 33 (zK c17)<| T_ed 9 [7,29,33] [(42,.bool true)]<| T_tz 42<| T_rz 9<| T_nd 2 [5,6,42] [(43,vs lB lN lC),(44,vi s15)]<| T_nw (some 45) (λb=>vs (pa b) 1 1) (.cells #[vi s15] 3) ?_
    intro aa H3 e19 e20
    replace h:=h aa H3 e19 e20
    refine T_pd [44] [(45,vs (pa aa) 1 1)]<| N_op (some 46) (appendN #[67,67] 67 #[vs lB lN lC,vs (pa aa) 1 1]) _ (λ_=>by kernel_rfl) (ss_append (T:=3) (sz:=1) (bytes:=8) (zero:=(vi 0:Value)) Tryz.underlying67 Tryz.underlying67 rfl (show Tryz.prog.info? 3=some Tryz.t3 from by kernel_rfl) (by kernel_rfl) (by kernel_rfl) (by decide) (by kernel_rfl) (by first | exact h | (simpa only[Value.cells,List.toList_toArray]using h))) ?_;clear h
    rintro _ H4 ⟨ap,y,rfl,h⟩
    exact T_pd [43,45] [(46,vs ap (lN+1) y)]<| T_nd 1 [46] [(5,vs ap (lN+1) y)]<| zq<| S_blockEnd<| S_then<| T_rz 10<| T_ed 2 [15] [(15,vi (zY (s15+1)))]<| S_round ((ap,(lN+1),y,(zY (s15+1))):zW×Nat×Nat×Int) sk h
   rw[if_neg c17]at h
   refine N_bd 33 (zJ c17)<| T_nd 5 [7] [(34,vs f d g),(38,vp (some (j.add (Int.toNat s15*72))))] ?_
   obtain⟨ab,q21,h⟩:=h
   refine T_l1 39 3 q21 [38]<| T_c (some 40) h ?_;clear h
   rintro v H5 ⟨u,rfl,h⟩
   refine T_pd [34,39] [(40,.bool u)]<| T_ed 2 [29,33,40] [(42,.bool u)] ?_
   by_cases c22:u=true
   ·rw[if_pos c22]at h
    refine T_cTz 42 c22<| T_rz 9<| T_nd 2 [5,6,42] [(43,vs lB lN lC),(44,vi s15)]<| T_nw (some 45) (λb=>vs (pa b) 1 1) (.cells #[vi s15] 3) ?_
    intro z H6 e24 e25
    replace h:=h z H6 e24 e25
    refine T_pd [44] [(45,vs (pa z) 1 1)]<| N_op (some 46) (appendN #[67,67] 67 #[vs lB lN lC,vs (pa z) 1 1]) _ (λ_=>by kernel_rfl) (ss_append (T:=3) (sz:=1) (bytes:=8) (zero:=(vi 0:Value)) Tryz.underlying67 Tryz.underlying67 rfl (show Tryz.prog.info? 3=some Tryz.t3 from by kernel_rfl) (by kernel_rfl) (by kernel_rfl) (by decide) (by kernel_rfl) (by first | exact h | (simpa only[Value.cells,List.toList_toArray]using h))) ?_;clear h
    rintro _ H7 ⟨o,l,rfl,h⟩
    exact T_pd [43,45] [(46,vs o (lN+1) l)]<| T_nd 1 [46] [(5,vs o (lN+1) l)]<| zq<| S_blockEnd<| S_then<| T_rz 10<| T_ed 2 [15] [(15,vi (zY (s15+1)))]<| S_round ((o,(lN+1),l,(zY (s15+1))):zW×Nat×Nat×Int) sk h
   rw[if_neg c22]at h
   exact T_cFz 42 (zZ c22)<| T_k<| S_blockEnd<| S_then<| T_rz 10<| T_ed 2 [6,15,42] [(15,vi (zY (s15+1)))]<| S_round ((lB,lN,lC,(zY (s15+1))):zW×Nat×Nat×Int) sk h
  rw[if_neg c15]at h
  refine N_bd 29 (zQ c15)<| T_ed 13 [7,29] [(42,.bool false)]<| T_fz 42<| T_k ?_
  exact S_blockEnd<| S_then<| T_rz 10<| T_ed 2 [6,15,42] [(15,vi (zY (s15+1)))]<| S_round ((lB,lN,lC,(zY (s15+1))):zW×Nat×Nat×Int) sk h
 rw[if_neg c9]at h
 refine T_cFz 16 (zQ c9)<| zj 0<| S_exitThen<| S_exitThen<| S_exitHere<| S_then<| T_srz 11<| T_n 2 [(5,vs lB lN lC),(48,vs lB lN lC),(49,.func (.func 53) #[] #[vp (pa b)])]<| T_c (some 50) h ?_;clear h
 intro v_2 H8 h
 exact T_pd [48,49] []<| T_e<| T_srz 12<| T_nr 2 [4] [vs lB lN lC] hQ h
end seg_Mem_Taken

/-! (*moraine/seg.Mem).Taken.1 -/
namespace seg_Mem_Taken_1
def K0:=Func.code Tryz.f53
def K2:=cb K0
def K3:=ca K2
end seg_Mem_Taken_1
def seg_Mem_Taken_1.pt(a b:Int)(p:zW)(H:zV)(R:zk):Prop:=
 ∃d:Addr,p=some d/\
 ∃x:zW,hat H d=some (.pointer x)/\
 ∃xA:Addr,x=some xA/\
 ∃(xB:zW) (xN xC:Nat),hat H xA=some (.slice xB xN xC)/\
 ∃g:Addr,xB=some g/\
 zw a xN/\
 ∃j:Int,hat H ((g.add (Int.toNat a*72)).add 7)=some (.int .i64 j)/\
 ∃s:zW,hat H d=some (.pointer s)/\
 ∃l:Addr,s=some l/\
 ∃(r:zW) (m n:Nat),hat H l=some (.slice r m n)/\
 ∃f:Addr,r=some f/\
 zw b m/\
 ∃q:Int,hat H ((f.add (Int.toNat b*72)).add 7)=some (.int .i64 q)/\
 cmp_Compare_int.C j q H (λv H1=> ∃o:Int,v=.int .i64 o/\
 R (.int .i64 o) H1)
namespace seg_Mem_Taken_1
theorem link{a b:Int}{p:zW}{H:zV}{R:zk}(h:pt a b p H R):C a b p H R:=by
 refine T_en K0 23 Tryz.func53 ?_
 intro w0 Q hQ
 unfold pt at h
 refine T_su [(0,vi a),(1,vi b),(2,vp p)]<| T_srz 0<| T_ed 1 [] []<| T_sz ?_
 obtain⟨d,rfl,x,q1,xA,rfl,xB,xN,xC,q2,g,rfl,q3,j,q4,s,q5,l,rfl,r,m,n,q6,f,rfl,q7,q,q8,h⟩:=h
 refine yY 1 (Code.ops K3) [(16,d,[vp (some xA)]),(16,xA,[vs (some g) xN xC]),(16,((g.add (Int.toNat a*72)).add 7),[vi j]),(16,d,[vp (some l)]),(16,l,[vs (some f) m n]),(16,((f.add (Int.toNat b*72)).add 7),[vi q])] 18 (bv 18 0) (show FactsAt _ _ _ from⟨⟨q1,trivial⟩,⟨q2,trivial⟩,⟨q4,trivial⟩,⟨q5,trivial⟩,⟨q6,trivial⟩,⟨q8,trivial⟩,trivial⟩)<| T_g 0 (some 6) (vp (some xA)) (bv 18 1) [(0,vi a),(1,vi b),(2,vp (some d)),(6,vp (some xA))] (loadN 69 (vp (some d))) (yW 16 yZ)<| T_gp1 1 7 (vp (some xA)) (bv 18 3) [6]<| T_gp1 2 8 (vp (some xA)) (bv 18 7) [7]<| T_g1 3 9 (vs (some g) xN xC) (bv 18 15) [8] (loadN 110 (vp (some xA))) (yW 16 yX)<| T_gp1 4 10 (vi a) (bv 18 31) [0]<| T_g1 5 11 (vp (some (g.add (Int.toNat a*72)))) (bv 18 63) [9,10] (indexAtN 110 (vs (some g) xN xC) (vi a)) (λ_ w _ _ _=>indexAt_run (P:=Tryz.prog) (t:=110) (elem:=116) (sz:=72) (a:=g) (len:=xN) (cap:=xC) (k:=.i64) (i:=a) Tryz.underlying110 (λ_=>by kernel_rfl) q3.1 q3.2 w)<| T_gp1 6 12 (vp (some ((g.add (Int.toNat a*72)).add 7))) (bv 18 127) [11]<| T_g1 7 13 (vi j) (bv 18 255) [12] (loadN 3 (vp (some ((g.add (Int.toNat a*72)).add 7)))) (yW 16 yQ)<| T_g1 8 14 (vp (some l)) (bv 18 511) [2] (loadN 69 (vp (some d))) (yW 16 yJ)<| T_gp1 9 15 (vp (some l)) (bv 18 1023) [14]<| T_gp1 10 16 (vp (some l)) (bv 18 2047) [15]<| T_g1 11 17 (vs (some f) m n) (bv 18 4095) [16] (loadN 110 (vp (some l))) (yW 16 yK)<| T_gp1 12 18 (vi b) (bv 18 8191) [1]<| T_g1 13 19 (vp (some (f.add (Int.toNat b*72)))) (bv 18 16383) [17,18] (indexAtN 110 (vs (some f) m n) (vi b)) (λ_ w _ _ _=>indexAt_run (P:=Tryz.prog) (t:=110) (elem:=116) (sz:=72) (a:=f) (len:=m) (cap:=n) (k:=.i64) (i:=b) Tryz.underlying110 (λ_=>by kernel_rfl) q7.1 q7.2 w)<| T_gp1 14 20 (vp (some ((f.add (Int.toNat b*72)).add 7))) (bv 18 32767) [19]<| T_g1 15 21 (vi q) (bv 18 65535) [20] (loadN 3 (vp (some ((f.add (Int.toNat b*72)).add 7)))) (yW 16 yV)<| yq 16 (some 22) (bv 18 131071) 54 #[vi j,vi q] h ?_;clear h
 rintro v H1 ⟨o,rfl,h⟩
 refine⟨[(22,vi o)],pk,(show FactsAt _ _ _ from⟨trivial,trivial,trivial,trivial,trivial,trivial,trivial⟩),?_⟩
 exact T_g 17 (some 5) (vi o) (bv 18 262143) [(5,vi o)] (pure (.value (vi o)):Sem Next) (λ_ _ _ _ _=>rfl)<| G_sub [(5,vi o)] sk<| yx<| S_then<| T_ret [5] [vi o] hQ h
end seg_Mem_Taken_1

/-! (*moraine/seg.Mem).Free -/
namespace seg_Mem_Free
def K0:=Func.code Tryz.f57
end seg_Mem_Free
def seg_Mem_Free.pt(m:zW)(H:zV)(R:zk):Prop:=
 onPtr m (
 R (.int .i64 0) H) (λmA=>
 ∃x:Int,hat H (mA.add 2)=some (.int .i64 x)/\
 R (.int .i64 x) H)
namespace seg_Mem_Free
theorem link{m:zW}{H:zV}{R:zk}(h:pt m H R):C m H R:=by
 refine T_en K0 9 Tryz.func57 ?_
 intro w0 Q hQ
 unfold pt at h
 refine T_su [(0,vp m)]<| T_srz 0<| T_ed 1 [] []<| T_sz<| T_srz 1<| T_nd 1 [] [(3,vp m)] ?_
 rcases m with _ | mA
 ·rw[onPtr_none]at h
  exact T_ne 1 [(0,vp none),(4,.bool true)]<| T_tz 4<| T_srz 2<| T_nr 1 [2] [vi 0] hQ h
 rw[onPtr_some]at h
 refine T_ne 1 [(0,vp (some mA)),(4,.bool false)]<| T_fz 4<| T_kt<| T_srz 3<| T_n 3 [(7,vp (some (mA.add 2)))] ?_
 obtain⟨x,q1,h⟩:=h
 exact T_l1 8 3 q1 [7]<| T_nr 1 [2] [vi x] hQ h
end seg_Mem_Free

/-! (*moraine/seg.Mem).Give -/
namespace seg_Mem_Give
def K0:=Func.code Tryz.f97
end seg_Mem_Give
def seg_Mem_Give.pt(m:zW)(d:Int)(H:zV)(R:zk):Prop:=
 seg_Mem_at.C m d H (λv H1=> ∃x:zW,v=.pointer x/\
 onPtr x (
 R (.int .i64 19) H1) (λxA=>
 (CanPuts H1 xA 0 72)/\ ∀H2,H2=hputs H1 xA (List.replicate 8 (.int .i64 0)++List.replicate 64 (.int .u64 0):List Value) 0->
 ∃mA:Addr,m=some mA/\
 ∃b:Int,hat H2 (mA.add 2)=some (.int .i64 b)/\
 (CanPuts H2 (mA.add 2) 0 1)/\ ∀H3,H3=hputs H2 (mA.add 2) [.int .i64 (zY (b+1))] 0->
 R (.int .i64 0) H3))
namespace seg_Mem_Give
theorem link{m:zW}{d:Int}{H:zV}{R:zk}(h:pt m d H R):C m d H R:=by
 refine T_en K0 21 Tryz.func97 ?_
 intro w0 Q hQ
 unfold pt zY at h
 refine T_su [(0,vp m),(1,vi d)]<| T_srz 0<| T_ed 1 [] []<| T_srz 1<| T_nd 2 [1] [(6,vp m),(7,vi d)]<| T_c (some 8) h ?_;clear h
 rintro v H1 ⟨x,rfl,h⟩
 refine T_pd [6,7] [(8,vp x)]<| T_ed 1 [8] [(5,vp x)]<| T_sz<| T_srz 2<| T_nd 1 [] [(9,vp x)] ?_
 rcases x with _ | xA
 ·rw[onPtr_none]at h
  exact T_ed 1 [5,9] [(5,vp none),(10,.bool true)]<| T_tz 10<| T_srz 3<| T_nr 1 [4] [vi 19] hQ h
 rw[onPtr_some]at h
 refine T_ed 1 [5,9] [(5,vp (some xA)),(10,.bool false)]<| T_fz 10<| T_kt<| T_srz 4<| T_nd 3 [5,10] [(12,.agg (List.replicate 8 (vi 0)++List.replicate 64 (vu 0):List Value).toArray),(13,vp (some xA))] ?_
 obtain⟨q2,h⟩:=h
 refine N_skipop none (storeN 116 (vp (some xA)) (.agg (List.replicate 8 (vi 0)++List.replicate 64 (vu 0):List Value).toArray)) (λHz=>Hz=hputs H1 xA (List.replicate 8 (vi 0)++List.replicate 64 (vu 0):List Value) 0) (λ_=>by kernel_rfl) (by intro w hw;obtain⟨w1,g1,g2,g3⟩:=ss_store (P:=Tryz.prog) (H:=H1) (t:=116) (a:=xA) (v:=(.agg (List.replicate 8 (vi 0)++List.replicate 64 (vu 0):List Value).toArray)) (List.replicate 8 (vi 0)++List.replicate 64 (vu 0):List Value) 72 (by kernel_rfl) (by kernel_rfl) (λ_=>by kernel_rfl) (by kernel_rfl) q2 w hw;exact⟨w1,g1,g2,g3⟩) ?_
 intro H2 e1
 replace h:=h H2 e1
 refine⟨[(0,vp m)],pk,?_⟩
 refine T_e<| T_srz 5<| T_n 1 [(14,vp m)] ?_
 obtain⟨mA,rfl,h⟩:=h
 refine T_n 2 [(14,vp (some mA)),(16,vp (some (mA.add 2)))] ?_
 obtain⟨b,q3,h⟩:=h
 refine T_l1 17 3 q3 [16]<| T_n 3 [(18,vi (zY (b+1))),(20,vp (some (mA.add 2)))] ?_
 obtain⟨q5,h⟩:=h
 refine T_st1 3 (vi (zY (b+1))) q5 ?_
 intro H3 e4
 replace h:=h H3 e4
 refine⟨[],pk,?_⟩
 exact T_e<| T_srz 6<| T_nr 1 [4] [vi 0] hQ h
end seg_Mem_Give

/-! (*moraine/space.Space).Words -/
namespace space_Space_Words
def K0:=Func.code Tryz.f12
def K2:=cb K0
def K4:=cb K2
def K12:=cb K4
def K13:=ca K12
def K16:=cb K13
def K17:=ca K16
def K18:=ca K17
end space_Space_Words
def space_Space_Words.pt(s m:zW)(n o:Nat)(H:zV)(R:zk):Prop:=
 space_Space_none.C s H (λv H1=> ∃x:Bool,v=.bool x/\
 if x=true then(
 R (.int .i64 0) H1)
 else
 ∃sA:Addr,s=some sA/\
 ∃aa:zW,hat H1 sA=some (.pointer aa)/\
 seg_Mem_Taken.C aa m n o H1 (λae H2=> ∃(xB:zW) (xN xC:Nat),ae=.slice xB xN xC/\
 ∃(ac:Int->zv) (m19:Int->Int->zV->Nat),ac 0 0 H2/\ ∀(d:Int) (s19:Int) (H3:zV),ac d s19 H3->
 if s19< (xN:Int)then(
 ∃p:Addr,xB=some p/\
 zw s19 xN/\
 ∃u:Int,hat H3 (p.add (Int.toNat s19*1))=some (.int .i64 u)/\
 ∃ab:zW,hat H3 sA=some (.pointer ab)/\
 seg_Mem_Seg.C ab u H3 (λaf H4=> ∃(r q y g l f j:Int) (rb:Bool),af=.tuple #[.agg #[.int .i64 r,.int .i64 q,.int .i64 y,.int .i64 g,.int .i64 l,.int .i64 f,.int .i64 j],.bool rb]/\
 ∀(b:Nat) (H5:zV),b=H4.size->H5=H4.push (.cells #[.int .i64 0,.int .i64 0,.int .i64 0,.int .i64 0,.int .i64 0,.int .i64 0,.int .i64 0] 76)->
 (CanPuts H5 (ad b) 0 7)/\ ∀H6,H6=hputs H5 (ad b) [.int .i64 r,.int .i64 q,.int .i64 y,.int .i64 g,.int .i64 l,.int .i64 f,.int .i64 j] 0->
 ∃z:Int,hat H6 ((ad b).add 2)=some (.int .i64 z)/\
 (ac (zY (d+z)) (zY (s19+1)) H6/\m19 (zY (d+z)) (zY (s19+1)) H6<m19 d s19 H3)))
 else
 R (.int .i64 d) H3))
namespace space_Space_Words
theorem link{s m:zW}{n o:Nat}{H:zV}{R:zk}(h:pt s m n o H R):C s m n o H R:=by
 refine T_en K0 38 Tryz.func12 ?_
 intro w0 Q hQ
 unfold pt zY at h
 refine T_su [(0,vp s),(1,vs m n o)]<| T_srz 0<| T_ed 1 [] []<| T_sz<| T_srz 1<| T_nd 1 [] [(10,vp s)]<| T_c (some 11) h ?_;clear h
 rintro v H1 ⟨x,rfl,h⟩
 refine T_pd [10] [(11,.bool x)]<| T_e ?_
 by_cases c1:x=true
 ·rw[if_pos c1]at h
  exact T_cTz 11 c1<| T_srz 2<| T_nr 1 [4] [vi 0] hQ h
 rw[if_neg c1]at h
 refine T_cFz 11 (zZ c1)<| T_kt<| T_srz 3<| T_ed 1 [11] [(5,vi 0)]<| T_sz<| T_srz 4<| T_nd 1 [] [(12,vp s)] ?_
 obtain⟨sA,rfl,h⟩:=h
 refine T_nd 2 [0,12] [(0,vp (some sA)),(14,vp (some sA))] ?_
 obtain⟨aa,q3,h⟩:=h
 refine T_l1 15 69 q3 [14]<| T_nd 1 [1] [(16,vs m n o)]<| T_c (some 17) h ?_;clear h
 rintro ae H2 ⟨xB,xN,xC,rfl,h⟩
 refine T_pd [15,16] [(17,vs xB xN xC)]<| T_ed 2 [] [(18,vi xN),(19,vi 0)]<| T_bz 0 ?_
 obtain⟨ac,m19,i4,i5⟩:=h
 refine S_loop (x:=K18) (σ:=Int×Int) (λs_=> [(0,vp (some sA)),(5,vi s_.1),(17,vs xB xN xC),(18,vi xN),(19,vi s_.2)]) (λs_ H=>ac s_.1 s_.2 H) (λs_ H=>m19 s_.1 s_.2 H) ((0,0):Int×Int) (by kernel_rfl) i4 sk ?_
 rintro⟨d,s19⟩ H3 i6
 have h:=i5 d s19 H3 i6
 refine T_su [(0,vp (some sA)),(5,vi d),(17,vs xB xN xC),(18,vi xN),(19,vi s19)]<| T_srz 5<| T_ed 1 [] [(20,.bool (decide (s19< (xN:Int))))]<| T_sz ?_
 by_cases c7:s19< (xN:Int)
 ·rw[if_pos c7]at h
  refine T_cTz 20 (zX c7)<| T_kt<| T_sz<| T_bz 1<| T_srz 6<| T_ud [20] [] ?_
  obtain⟨p,rfl,q9,h⟩:=h
  refine T_xd (some 21) 67 3 1 p xN xC .i64 s19 Tryz.underlying67 q9.1 q9.2 [17] [(17,vs (some p) xN xC),(21,vp (some (p.add (Int.toNat s19*1))))] ?_
  obtain⟨u,q10,h⟩:=h
  refine T_l1 22 3 q10 [21]<| T_ed 1 [22] [(7,vi u)]<| T_srz 7<| T_nd 3 [] [(26,vp (some sA))] ?_
  obtain⟨ab,q11,h⟩:=h
  refine T_l1 27 69 q11 [26]<| T_nd 1 [7] [(28,vi u)]<| T_c (some 29) h ?_;clear h
  rintro af H4 ⟨r,q,y,g,l,f,j,rb,rfl,h⟩
  refine T_pd [27,28] [(29,.tuple #[.agg #[vi r,vi q,vi y,vi g,vi l,vi f,vi j],.bool rb])]<| T_nd 3 [29] [(30,.agg #[vi r,vi q,vi y,vi g,vi l,vi f,vi j]),(31,.bool rb)]<| T_nw (some 8) (λb=>vp (pa b)) (.cells #[vi 0,vi 0,vi 0,vi 0,vi 0,vi 0,vi 0] 76) ?_
  intro b H5 e12 e13
  replace h:=h b H5 e12 e13
  refine T_pd [] [(8,vp (pa b))] ?_
  obtain⟨q15,h⟩:=h
  refine T_sta 76 [vi r,vi q,vi y,vi g,vi l,vi f,vi j] q15 ?_
  intro H6 e14
  replace h:=h H6 e14
  refine T_pd [30] []<| T_ed 1 [31] []<| T_rz 8<| T_nd 2 [5,8] [(32,vi d),(33,vp (some ((ad b).add 2)))] ?_
  obtain⟨z,q16,h⟩:=h
  exact T_l1 34 3 q16 [33]<| T_nd 2 [32,34] [(5,vi (zY (d+z)))]<| zq<| S_blockEnd<| S_then<| T_rz 9<| T_ed 2 [19] [(19,vi (zY (s19+1)))]<| S_round (((zY (d+z)),(zY (s19+1))):Int×Int) sk h
 rw[if_neg c7]at h
 exact T_cFz 20 (zQ c7)<| zj 0<| S_exitThen<| S_exitThen<| S_exitHere<| S_then<| T_srz 10<| T_nr 2 [4] [vi d] hQ h
end space_Space_Words

/-! (*moraine/space.Space).Fresh -/
namespace space_Space_Fresh
def K0:=Func.code Tryz.f58
def K2:=cb K0
def K8:=cb K2
def K9:=ca K8
def K10:=ca K9
def K12:=cb K10
def K14:=cb K12
def K17:=ca K14
def K19:=ca K17
def K21:=cb K19
def K22:=ca K21
def K25:=cb K22
def K26:=ca K25
def K27:=ca K26
end space_Space_Fresh
def space_Space_Fresh.pt(s f:zW)(b d:Nat)(H:zV)(R:zk):Prop:=
 onPtr s (
 R (.tuple #[]) H) (λsA=>
 ∃(l:zv) (m11:Int->zV->Nat),l 0 H/\ ∀(s9:Int) (H1:zV),l s9 H1->
 if s9<5 then(
 ∃(m:zv) (m28:Int->zV->Nat),m 0 H1/\ ∀(j:Int) (H2:zV),m j H2->
 if j< (b:Int)then(
 ∃g:Addr,f=some g/\
 zw j b/\
 ∃x:Int,hat H2 (g.add (Int.toNat j*1))=some (.int .i64 x)/\
 if x=s9 then(
 zw s9 5/\
 (CanPuts H2 ((sA.add 1).add (Int.toNat s9*4)) 0 4)/\ ∀H3,H3=hputs H2 ((sA.add 1).add (Int.toNat s9*4)) [.int .i64 0,.int .i64 0,.int .i64 0,.int .i64 0] 0->
 (m (zY (j+1)) H3/\m28 (zY (j+1)) H3<m28 j H2))
 else
 (m (zY (j+1)) H2/\m28 (zY (j+1)) H2<m28 j H2))
 else
 if(b:Int)=0 then(
 zw s9 5/\
 (CanPuts H2 ((sA.add 1).add (Int.toNat s9*4)) 0 4)/\ ∀H4,H4=hputs H2 ((sA.add 1).add (Int.toNat s9*4)) [.int .i64 0,.int .i64 0,.int .i64 0,.int .i64 0] 0->
 (l (zY (s9+1)) H4/\m11 (zY (s9+1)) H4<m11 s9 H1))
 else
 (l (zY (s9+1)) H2/\m11 (zY (s9+1)) H2<m11 s9 H1))
 else
 R (.tuple #[]) H1)
namespace space_Space_Fresh
theorem link{s f:zW}{b d:Nat}{H:zV}{R:zk}(h:pt s f b d H R):C s f b d H R:=by
 refine T_en K0 38 Tryz.func58 ?_
 intro w0 Q hQ
 unfold pt zY at h
 refine T_su [(0,vp s),(1,vs f b d)]<| T_sz<| T_srz 0<| T_nd 1 [] [(7,vp s)] ?_
 rcases s with _ | sA
 ·rw[onPtr_none]at h
  exact T_ed 1 [0,7] [(0,vp none),(8,.bool true)]<| T_tz 8<| T_ret [] [] hQ h
 rw[onPtr_some]at h
 refine T_ed 1 [0,7] [(0,vp (some sA)),(8,.bool false)]<| T_fz 8<| T_kt<| T_srz 1<| T_ed 1 [8] [(9,vi 0)]<| T_bz 0 ?_
 obtain⟨l,m11,i1,i2⟩:=h
 refine S_loop (x:=K10) (σ:=Int) (λs_=> [(0,vp (some sA)),(1,vs f b d),(9,vi s_)]) (λs_ H=>l s_ H) (λs_ H=>m11 s_ H) (0:Int) (by kernel_rfl) i1 sk ?_
 rintro s9 H1 i3
 have h:=i2 s9 H1 i3
 refine T_su [(0,vp (some sA)),(1,vs f b d),(9,vi s9)]<| T_srz 2<| T_ed 1 [] [(10,.bool (decide (s9<5)))]<| T_sz ?_
 by_cases c4:s9<5
 ·rw[if_pos c4]at h
  refine T_cTz 10 (zX c4)<| T_kt<| T_sz<| T_bz 1<| T_srz 3<| T_ed 2 [10] [(4,vi s9)]<| T_sz<| T_srz 4<| T_ed 3 [] [(12,vs f b d),(13,vi b),(14,vi 0)]<| T_bz 2 ?_
  obtain⟨m,m28,i6,i7⟩:=h
  refine S_loop (x:=K27) (σ:=Int) (λs_=> [(0,vp (some sA)),(1,vs f b d),(4,vi s9),(9,vi s9),(12,vs f b d),(13,vi b),(14,vi s_)]) (λs_ H=>m s_ H) (λs_ H=>m28 s_ H) (0:Int) (by kernel_rfl) i6 sk ?_
  rintro j H2 i8
  have h:=i7 j H2 i8
  refine T_su [(0,vp (some sA)),(1,vs f b d),(4,vi s9),(9,vi s9),(12,vs f b d),(13,vi b),(14,vi j)]<| T_srz 5<| T_ed 1 [] [(15,.bool (decide (j< (b:Int))))]<| T_sz ?_
  by_cases c9:j< (b:Int)
  ·rw[if_pos c9]at h
   refine T_cTz 15 (zX c9)<| T_kt<| T_sz<| T_bz 3<| T_srz 6<| T_ud [15] [] ?_
   obtain⟨g,rfl,q11,h⟩:=h
   refine T_xd (some 16) 67 3 1 g b d .i64 j Tryz.underlying67 q11.1 q11.2 [1,12] [(1,vs (some g) b d),(12,vs (some g) b d),(16,vp (some (g.add (Int.toNat j*1))))] ?_
   obtain⟨x,q12,h⟩:=h
   refine T_l1 17 3 q12 [16]<| T_ed 1 [17] [(6,vi x)]<| T_srz 7<| T_ed 3 [6] [(20,.bool (x==s9))] ?_
   by_cases c13:x=s9
   ·rw[if_pos c13]at h
    refine T_cTz 20 (zK c13)<| T_rz 8<| T_nd 5 [20] [(22,vi s9),(23,.agg #[vi 0,vi 0,vi 0,vi 0]),(25,vp (some (sA.add 1)))] ?_
    obtain⟨q15,h⟩:=h
    refine T_v1 26 (indexAtN 71 (vp (some (sA.add 1))) (vi s9)) (vp (some ((sA.add 1).add (Int.toNat s9*4)))) (λw _=>indexArr_run (P:=Tryz.prog) (t:=71) (elem:=70) (sz:=4) (n:=5) (a:=(sA.add 1)) (k:=.i64) (i:=s9) Tryz.underlying71 (λ_=>by kernel_rfl) q15.1 q15.2 w) [22,25] ?_
    obtain⟨q17,h⟩:=h
    refine T_sta 70 [vi 0,vi 0,vi 0,vi 0] q17 ?_
    intro H3 e16
    replace h:=h H3 e16
    exact T_pd [23,26] []<| zq<| S_blockEnd<| S_then<| T_rz 9<| T_ed 2 [14] [(14,vi (zY (j+1)))]<| S_round ((zY (j+1)):Int) sk h
   rw[if_neg c13]at h
   exact T_cFz 20 (zJ c13)<| T_k<| S_blockEnd<| S_then<| T_rz 9<| T_ed 2 [14,20] [(14,vi (zY (j+1)))]<| S_round ((zY (j+1)):Int) sk h
  rw[if_neg c9]at h
  refine T_cFz 15 (zQ c9)<| zj 2<| S_exitThen<| S_exitThen<| S_exitHere<| S_then<| T_srz 10<| T_ed 3 [12,13,14,15] [(30,.bool ((b:Int)==0))] ?_
  by_cases c18:(b:Int)=0
  ·rw[if_pos c18]at h
   refine T_cTz 30 (zK c18)<| T_rz 11<| T_nd 5 [4,30] [(32,vi s9),(33,.agg #[vi 0,vi 0,vi 0,vi 0]),(35,vp (some (sA.add 1)))] ?_
   obtain⟨q20,h⟩:=h
   refine T_v1 36 (indexAtN 71 (vp (some (sA.add 1))) (vi s9)) (vp (some ((sA.add 1).add (Int.toNat s9*4)))) (λw _=>indexArr_run (P:=Tryz.prog) (t:=71) (elem:=70) (sz:=4) (n:=5) (a:=(sA.add 1)) (k:=.i64) (i:=s9) Tryz.underlying71 (λ_=>by kernel_rfl) q20.1 q20.2 w) [32,35] ?_
   obtain⟨q22,h⟩:=h
   refine T_sta 70 [vi 0,vi 0,vi 0,vi 0] q22 ?_
   intro H4 e21
   replace h:=h H4 e21
   exact T_pd [33,36] []<| zq<| S_blockEnd<| S_then<| T_rz 12<| T_ed 2 [9] [(9,vi (zY (s9+1)))]<| S_round ((zY (s9+1)):Int) sk h
  rw[if_neg c18]at h
  exact T_cFz 30 (zJ c18)<| T_k<| S_blockEnd<| S_then<| T_rz 12<| T_ed 2 [4,9,30] [(9,vi (zY (s9+1)))]<| S_round ((zY (s9+1)):Int) sk h
 rw[if_neg c4]at h
 exact T_cFz 10 (zQ c4)<| zj 0<| S_exitThen<| S_exitThen<| S_exitHere<| S_doneN (fn:=Tryz.f58) [] hQ (show ResOK _ _ _ [] _ from .nil) h
end space_Space_Fresh

/-! (*moraine/space.Space).Give -/
namespace space_Space_Give
def K0:=Func.code Tryz.f61
def K2:=cb K0
def K4:=cb K2
def K11:=ca K4
def K14:=cb K11
def K16:=cb K14
def K17:=ca K16
end space_Space_Give
def space_Space_Give.pt(s:zW)(d:Int)(H:zV)(R:zk):Prop:=
 space_Space_none.C s H (λv H1=> ∃x:Bool,v=.bool x/\
 if x=true then(
 R (.int .i64 19) H1)
 else
 ∃sA:Addr,s=some sA/\
 ∃ag:zW,hat H1 sA=some (.pointer ag)/\
 seg_Mem_Seg.C ag d H1 (λai H2=> ∃(r p ab g l f j:Int) (rb:Bool),ai=.tuple #[.agg #[.int .i64 r,.int .i64 p,.int .i64 ab,.int .i64 g,.int .i64 l,.int .i64 f,.int .i64 j],.bool rb]/\
 ∀(b:Nat) (H3:zV),b=H2.size->H3=H2.push (.cells #[.int .i64 0,.int .i64 0,.int .i64 0,.int .i64 0,.int .i64 0,.int .i64 0,.int .i64 0] 76)->
 (CanPuts H3 (ad b) 0 7)/\ ∀H4,H4=hputs H3 (ad b) [.int .i64 r,.int .i64 p,.int .i64 ab,.int .i64 g,.int .i64 l,.int .i64 f,.int .i64 j] 0->
 if rb=true then(
 ∃o:Int,hat H4 (ad b)=some (.int .i64 o)/\
 ∃y:Int,hat H4 ((ad b).add 1)=some (.int .i64 y)/\
 zw o 5/\
 zw y 4/\
 ∃u:Int,hat H4 (((sA.add 1).add (Int.toNat o*4)).add (Int.toNat y*1))=some (.int .i64 u)/\
 if u=(zY (d+1))then(
 ∃m:Int,hat H4 (ad b)=some (.int .i64 m)/\
 ∃q:Int,hat H4 ((ad b).add 1)=some (.int .i64 q)/\
 zw m 5/\
 zw q 4/\
 (CanPuts H4 (((sA.add 1).add (Int.toNat m*4)).add (Int.toNat q*1)) 0 1)/\ ∀H5,H5=hputs H4 (((sA.add 1).add (Int.toNat m*4)).add (Int.toNat q*1)) [.int .i64 0] 0->
 ∃af:zW,hat H5 sA=some (.pointer af)/\
 seg_Mem_Give.C af d H5 (λaj H6=> ∃ah:Int,aj=.int .i64 ah/\
 R (.int .i64 ah) H6))
 else
 ∃z:zW,hat H4 sA=some (.pointer z)/\
 seg_Mem_Give.C z d H4 (λal H7=> ∃ac:Int,al=.int .i64 ac/\
 R (.int .i64 ac) H7))
 else
 ∃aa:zW,hat H4 sA=some (.pointer aa)/\
 seg_Mem_Give.C aa d H4 (λak H8=> ∃ae:Int,ak=.int .i64 ae/\
 R (.int .i64 ae) H8)))
namespace space_Space_Give
theorem link{s:zW}{d:Int}{H:zV}{R:zk}(h:pt s d H R):C s d H R:=by
 refine T_en K0 49 Tryz.func61 ?_
 intro w0 Q hQ
 unfold pt zY at h
 refine T_su [(0,vp s),(1,vi d)]<| T_srz 0<| T_ed 1 [] []<| T_sz<| T_srz 1<| T_nd 1 [] [(7,vp s)]<| T_c (some 8) h ?_;clear h
 rintro v H1 ⟨x,rfl,h⟩
 refine T_pd [7] [(8,.bool x)]<| T_e ?_
 by_cases c1:x=true
 ·rw[if_pos c1]at h
  exact T_cTz 8 c1<| T_srz 2<| T_nr 1 [4] [vi 19] hQ h
 rw[if_neg c1]at h
 refine T_cFz 8 (zZ c1)<| T_kt<| T_sz<| T_srz 3<| T_nd 1 [8] [(10,vp s)] ?_
 obtain⟨sA,rfl,h⟩:=h
 refine T_nd 2 [0,10] [(0,vp (some sA)),(12,vp (some sA))] ?_
 obtain⟨ag,q3,h⟩:=h
 refine T_l1 13 69 q3 [12]<| T_nd 1 [] [(14,vi d)]<| T_c (some 15) h ?_;clear h
 rintro ai H2 ⟨r,p,ab,g,l,f,j,rb,rfl,h⟩
 refine T_pd [13,14] [(15,.tuple #[.agg #[vi r,vi p,vi ab,vi g,vi l,vi f,vi j],.bool rb])]<| T_nd 3 [15] [(16,.agg #[vi r,vi p,vi ab,vi g,vi l,vi f,vi j]),(17,.bool rb)]<| T_nw (some 5) (λb=>vp (pa b)) (.cells #[vi 0,vi 0,vi 0,vi 0,vi 0,vi 0,vi 0] 76) ?_
 intro b H3 e4 e5
 replace h:=h b H3 e4 e5
 refine T_pd [] [(5,vp (pa b))] ?_
 obtain⟨q7,h⟩:=h
 refine T_sta 76 [vi r,vi p,vi ab,vi g,vi l,vi f,vi j] q7 ?_
 intro H4 e6
 replace h:=h H4 e6
 refine T_pd [16] []<| T_ed 1 [17] [(6,.bool rb)]<| T_sz<| T_rqz 4<| T_q1 18 (.bool rb) [6]<| T_q1 19 (.bool rb) [18] ?_
 by_cases c8:rb=true
 ·rw[if_pos c8]at h
  refine Q_bd 19 c8<| T_q1 20 (vp (some sA)) []<| T_q1 21 (vp (pa b)) [] ?_
  obtain⟨o,q10,h⟩:=h
  refine T_qld (some 22) 3 q10 [21] [(22,vi o)]<| T_q1 23 (vp (some ((ad b).add 1))) [] ?_
  obtain⟨y,q11,h⟩:=h
  refine T_qld (some 24) 3 q11 [23] [(24,vi y)]<| T_q1 25 (vp (some sA)) [20]<| T_q1 26 (vp (some (sA.add 1))) [25] ?_
  obtain⟨q12,h⟩:=h
  refine Q_op (some 27) (indexAtN 71 (vp (some (sA.add 1))) (vi o)) (vp (some ((sA.add 1).add (Int.toNat o*4)))) (λ_=>by kernel_rfl) (λw _=>indexArr_run (P:=Tryz.prog) (t:=71) (elem:=70) (sz:=4) (n:=5) (a:=(sA.add 1)) (k:=.i64) (i:=o) Tryz.underlying71 (λ_=>by kernel_rfl) q12.1 q12.2 w) [(0,vp (some sA)),(1,vi d),(5,vp (pa b)),(19,.bool true),(24,vi y),(27,vp (some ((sA.add 1).add (Int.toNat o*4))))] pk ?_
  obtain⟨q13,h⟩:=h
  refine Q_op (some 28) (indexAtN 70 (vp (some ((sA.add 1).add (Int.toNat o*4)))) (vi y)) (vp (some (((sA.add 1).add (Int.toNat o*4)).add (Int.toNat y*1)))) (λ_=>by kernel_rfl) (λw _=>indexArr_run (P:=Tryz.prog) (t:=70) (elem:=3) (sz:=1) (n:=4) (a:=((sA.add 1).add (Int.toNat o*4))) (k:=.i64) (i:=y) Tryz.underlying70 (λ_=>by kernel_rfl) q13.1 q13.2 w) [(0,vp (some sA)),(1,vi d),(5,vp (pa b)),(19,.bool true),(28,vp (some (((sA.add 1).add (Int.toNat o*4)).add (Int.toNat y*1))))] pk ?_
  obtain⟨u,q14,h⟩:=h
  refine T_ql (some 29) 3 q14 [(0,vp (some sA)),(1,vi d),(5,vp (pa b)),(19,.bool true),(29,vi u)]<| T_q1 30 (vi d) []<| T_q1 31 (vi (zY (d+1))) [30]<| T_q1 32 (.bool (u==(zY (d+1)))) [29,31]<| T_q1 33 (.bool (u==(zY (d+1)))) [19,32]<| Q_sub [(0,vp (some sA)),(1,vi d),(5,vp (pa b)),(33,.bool (u==(zY (d+1))))] sk<| T_qe ?_
  by_cases c15:u=(zY (d+1))
  ·rw[if_pos c15]at h
   refine T_cTz 33 (zK c15) ?_
   obtain⟨m,q17,q,q18,q19,q20,h⟩:=h
   refine yY 5 (Code.ops K17) [(9,(ad b),[vi m]),(9,((ad b).add 1),[vi q])] 10 (bv 10 0) (show FactsAt _ _ _ from⟨⟨q17,trivial⟩,⟨q18,trivial⟩,trivial⟩)<| T_gp 0 (some 34) (vp (some sA)) (bv 10 1) [(0,vp (some sA)),(1,vi d),(5,vp (pa b)),(34,vp (some sA))]<| T_gp1 1 35 (vp (pa b)) (bv 10 3) []<| T_g1 2 36 (vi m) (bv 10 7) [35] (loadN 3 (vp (pa b))) (yW 9 yZ)<| T_gp1 3 37 (vp (some ((ad b).add 1))) (bv 10 15) [5]<| T_g1 4 38 (vi q) (bv 10 31) [37] (loadN 3 (vp (some ((ad b).add 1)))) (yW 9 yX)<| T_gp1 5 39 (vp (some sA)) (bv 10 63) [34]<| T_gp1 6 40 (vp (some (sA.add 1))) (bv 10 127) [39]<| T_g1 7 41 (vp (some ((sA.add 1).add (Int.toNat m*4)))) (bv 10 255) [36,40] (indexAtN 71 (vp (some (sA.add 1))) (vi m)) (λ_ w _ _ _=>indexArr_run (P:=Tryz.prog) (t:=71) (elem:=70) (sz:=4) (n:=5) (a:=(sA.add 1)) (k:=.i64) (i:=m) Tryz.underlying71 (λ_=>by kernel_rfl) q19.1 q19.2 w)<| T_g1 8 42 (vp (some (((sA.add 1).add (Int.toNat m*4)).add (Int.toNat q*1)))) (bv 10 511) [38,41] (indexAtN 70 (vp (some ((sA.add 1).add (Int.toNat m*4)))) (vi q)) (λ_ w _ _ _=>indexArr_run (P:=Tryz.prog) (t:=70) (elem:=3) (sz:=1) (n:=4) (a:=((sA.add 1).add (Int.toNat m*4))) (k:=.i64) (i:=q) Tryz.underlying70 (λ_=>by kernel_rfl) q20.1 q20.2 w) ?_
   obtain⟨q22,h⟩:=h
   refine G_onlyskip 9 none (bv 10 1023) (storeN 3 (vp (some (((sA.add 1).add (Int.toNat m*4)).add (Int.toNat q*1)))) (vi 0)) (λHz=>Hz=hputs H4 (((sA.add 1).add (Int.toNat m*4)).add (Int.toNat q*1)) [vi 0] 0) (by kernel_rfl) (λ_=>by kernel_rfl) (ss_store [vi 0] 1 (by kernel_rfl) (by kernel_rfl) (λ_=>by kernel_rfl) (by kernel_rfl) q22) (by kernel_rfl) ?_
   intro H5 e21
   replace h:=h H5 e21
   refine⟨[(0,vp (some sA)),(1,vi d)],pk,(show FactsAt _ _ _ from⟨trivial,trivial,trivial⟩),?_⟩
   refine G_sub [(0,vp (some sA)),(1,vi d)] sk ?_
   refine yx<| S_then<| T_srz 6<| T_n 3 [(1,vi d),(45,vp (some sA))] ?_
   obtain⟨af,q23,h⟩:=h
   refine T_l1 46 69 q23 [45]<| T_nd 1 [1] [(47,vi d)]<| T_c (some 48) h ?_;clear h
   rintro aj H6 ⟨ah,rfl,h⟩
   refine⟨[(48,vi ah)],pk,?_⟩
   exact T_nr 1 [4] [vi ah] hQ h
  rw[if_neg c15]at h
  refine T_cFz 33 (zJ c15)<| T_kt<| T_srz 6<| T_n 3 [(1,vi d),(45,vp (some sA))] ?_
  obtain⟨z,q24,h⟩:=h
  refine T_l1 46 69 q24 [45]<| T_nd 1 [1] [(47,vi d)]<| T_c (some 48) h ?_;clear h
  rintro al H7 ⟨ac,rfl,h⟩
  refine⟨[(48,vi ac)],pk,?_⟩
  exact T_nr 1 [4] [vi ac] hQ h
 rw[if_neg c8]at h
 refine Q_bd 19 (zZ c8)<| T_q1 20 (undef) []<| T_q1 21 (undef) []<| T_q1 22 (undef) [21]<| T_q1 23 (undef) []<| T_q1 24 (undef) [23]<| T_q1 25 (undef) [20]<| T_q1 26 (undef) [25]<| T_q1 27 (undef) [22,26] ?_
 refine T_q1 28 (undef) [24,27]<| T_q1 29 (undef) [28]<| T_q1 30 (undef) []<| T_q1 31 (undef) [30]<| T_q1 32 (undef) [29,31]<| T_q1 33 (.bool false) [19,32]<| Q_sub [(0,vp (some sA)),(1,vi d),(5,vp (pa b)),(33,.bool false)] sk<| T_qe<| T_fz 33<| T_kt<| T_srz 6<| T_n 3 [(1,vi d),(45,vp (some sA))] ?_
 obtain⟨aa,q25,h⟩:=h
 refine T_l1 46 69 q25 [45]<| T_nd 1 [1] [(47,vi d)]<| T_c (some 48) h ?_;clear h
 rintro ak H8 ⟨ae,rfl,h⟩
 refine⟨[(48,vi ae)],pk,?_⟩
 exact T_nr 1 [4] [vi ae] hQ h
end space_Space_Give

/-! cmp.Compare[int] -/
namespace cmp_Compare_int
def K0:=Func.code Tryz.f54
end cmp_Compare_int
def cmp_Compare_int.pt(x y:Int)(H:zV)(R:zk):Prop:=
 cmp_isNaN_int.C x H (λv H1=> ∃b:Bool,v=.bool b/\
 cmp_isNaN_int.C y H1 (λd H2=> ∃a:Bool,d=.bool a/\
 if b=true then(
 if a=true then(
 R (.int .i64 0) H2)
 else
 R (.int .i64 (-1)) H2)
 else
 if a=true then(
 R (.int .i64 1) H2)
 else
 if x<y then(
 R (.int .i64 (-1)) H2)
 else
 if x>y then(
 R (.int .i64 1) H2)
 else
 R (.int .i64 0) H2))
namespace cmp_Compare_int
theorem link{x y:Int}{H:zV}{R:zk}(h:pt x y H R):C x y H R:=by
 refine T_en K0 20 Tryz.func54 ?_
 intro w0 Q hQ
 unfold pt at h
 refine T_su [(0,vi x),(1,vi y)]<| T_srz 0<| T_ed 1 [] []<| T_srz 1<| T_nd 1 [] [(7,vi x)]<| T_c (some 8) h ?_;clear h
 rintro v H1 ⟨b,rfl,h⟩
 refine T_pd [7] [(8,.bool b)]<| T_ed 1 [8] [(5,.bool b)]<| T_srz 2<| T_nd 1 [] [(9,vi y)]<| T_c (some 10) h ?_;clear h
 rintro d H2 ⟨a,rfl,h⟩
 refine T_pd [9] [(10,.bool a)]<| T_ed 1 [10] [(6,.bool a)]<| T_sz<| T_srz 3<| T_ed 1 [5] [(11,.bool b)] ?_
 by_cases c1:b=true
 ·rw[if_pos c1]at h
  refine T_cTz 11 c1<| T_sz<| T_srz 4<| T_ne 1 [(12,.bool a)] ?_
  by_cases c3:a=true
  ·rw[if_pos c3]at h
   exact T_cTz 12 c3<| T_srz 5<| T_nr 1 [4] [vi 0] hQ h
  rw[if_neg c3]at h
  exact T_cFz 12 (zZ c3)<| T_kt<| T_srz 6<| T_nr 1 [4] [vi (-1)] hQ h
 rw[if_neg c1]at h
 refine T_cFz 11 (zZ c1)<| T_kt<| T_sz<| T_srz 7<| T_ed 1 [6,11] [(13,.bool a)] ?_
 by_cases c5:a=true
 ·rw[if_pos c5]at h
  exact T_cTz 13 c5<| T_srz 8<| T_nr 1 [4] [vi 1] hQ h
 rw[if_neg c5]at h
 refine T_cFz 13 (zZ c5)<| T_kt<| T_sz<| T_srz 9<| T_ed 3 [13] [(16,.bool (decide (x<y)))] ?_
 by_cases c7:x<y
 ·rw[if_pos c7]at h
  exact T_cTz 16 (zX c7)<| T_srz 10<| T_nr 1 [4] [vi (-1)] hQ h
 rw[if_neg c7]at h
 refine T_cFz 16 (zQ c7)<| T_kt<| T_sz<| T_srz 11<| T_ne 3 [(19,.bool (decide (x>y)))] ?_
 by_cases c9:x>y
 ·rw[if_pos c9]at h
  exact T_cTz 19 (zX c9)<| T_srz 12<| T_nr 1 [4] [vi 1] hQ h
 rw[if_neg c9]at h
 exact T_cFz 19 (zQ c9)<| T_kt<| T_srz 13<| T_nr 1 [4] [vi 0] hQ h
end cmp_Compare_int

/-! cmp.isNaN[int] -/
namespace cmp_isNaN_int
def K0:=Func.code Tryz.f96
end cmp_isNaN_int
def cmp_isNaN_int.pt(x:Int)(H:zV)(R:zk):Prop:=
 R (.bool (x !=x)) H
namespace cmp_isNaN_int
theorem link{x:Int}{H:zV}{R:zk}(h:pt x H R):C x H R:=by
 refine T_en K0 6 Tryz.func96 ?_
 intro w0 Q hQ
 unfold pt at h
 exact T_su [(0,vi x)]<| T_srz 0<| T_ed 1 [] []<| T_srz 1<| T_nr 4 [2] [.bool (x !=x)] hQ h
end cmp_isNaN_int

/-! slices.Contains[[]int,int] -/
namespace slices_Contains_int_int
def K0:=Func.code Tryz.f51
end slices_Contains_int_int
def slices_Contains_int_int.pt(sB:zW)(sN sC:Nat)(v:Int)(H:zV)(R:zk):Prop:=
 slices_Index_int_int.C sB sN sC v H (λa H1=> ∃x:Int,a=.int .i64 x/\
 R (.bool (decide (x>=0))) H1)
namespace slices_Contains_int_int
theorem link{sB:zW}{sN sC:Nat}{v:Int}{H:zV}{R:zk}(h:pt sB sN sC v H R):C sB sN sC v H R:=by
 refine T_en K0 9 Tryz.func51 ?_
 intro w0 Q hQ
 unfold pt at h
 refine T_su [(0,vs sB sN sC),(1,vi v)]<| T_srz 0<| T_ed 1 [] []<| T_srz 1<| T_n 2 [(5,vs sB sN sC),(6,vi v)]<| T_c (some 7) h ?_;clear h
 rintro a H1 ⟨x,rfl,h⟩
 refine⟨[(7,vi x)],pk,?_⟩
 exact T_nr 2 [4] [.bool (decide (x>=0))] hQ h
end slices_Contains_int_int

/-! slices.Clone[[]moraine/api.Entry,moraine/api.Entry] -/
namespace slices_Index_int_int
def K0:=Func.code Tryz.f93
def K2:=cb K0
def K3:=ca K2
def K6:=cb K3
def K7:=ca K6
def K8:=ca K7
end slices_Index_int_int
def slices_Index_int_int.pt(sB:zW)(sN sC:Nat)(v:Int)(H:zV)(R:zk):Prop:=
 ∃(I9:zv) (m9:Int->zV->Nat),I9 0 H/\ ∀(s8:Int) (H1:zV),I9 s8 H1->
 if s8< (sN:Int)then(
 ∃b:Addr,sB=some b/\
 zw s8 sN/\
 ∃x:Int,hat H1 (b.add (Int.toNat s8*1))=some (.int .i64 x)/\
 if v=x then(
 R (.int .i64 s8) H1)
 else
 (I9 (zY (s8+1)) H1/\m9 (zY (s8+1)) H1<m9 s8 H1))
 else
 R (.int .i64 (-1)) H1
namespace slices_Index_int_int
theorem link{sB:zW}{sN sC:Nat}{v:Int}{H:zV}{R:zk}(h:pt sB sN sC v H R):C sB sN sC v H R:=by
 refine T_en K0 19 Tryz.func93 ?_
 intro w0 Q hQ
 unfold pt zY at h
 refine T_su [(0,vs sB sN sC),(1,vi v)]<| T_srz 0<| T_ed 1 [] []<| T_sz<| T_srz 1<| T_ed 3 [] [(7,vi sN),(8,vi 0)]<| T_bz 0 ?_
 obtain⟨I9,m9,i1,i2⟩:=h
 refine S_loop (x:=K8) (σ:=Int) (λs_=> [(0,vs sB sN sC),(1,vi v),(7,vi sN),(8,vi s_)]) (λs_ H=>I9 s_ H) (λs_ H=>m9 s_ H) (0:Int) (by kernel_rfl) i1 sk ?_
 rintro s8 H1 i3
 have h:=i2 s8 H1 i3
 refine T_su [(0,vs sB sN sC),(1,vi v),(7,vi sN),(8,vi s8)]<| T_srz 2<| T_ed 1 [] [(9,.bool (decide (s8< (sN:Int))))]<| T_sz ?_
 by_cases c4:s8< (sN:Int)
 ·rw[if_pos c4]at h
  refine T_cTz 9 (zX c4)<| T_kt<| T_sz<| T_bz 1<| T_srz 3<| T_ed 2 [9] [(5,vi s8)]<| T_srz 4<| T_nd 3 [] [(11,vi v),(12,vs sB sN sC),(13,vi s8)] ?_
  obtain⟨b,rfl,q6,h⟩:=h
  refine T_xd (some 14) 67 3 1 b sN sC .i64 s8 Tryz.underlying67 q6.1 q6.2 [0,12,13] [(0,vs (some b) sN sC),(14,vp (some (b.add (Int.toNat s8*1))))] ?_
  obtain⟨x,q7,h⟩:=h
  refine T_l1 15 3 q7 [14]<| T_ed 1 [11,15] [(16,.bool (v==x))] ?_
  by_cases c8:v=x
  ·rw[if_pos c8]at h
   exact T_cTz 16 (zK c8)<| T_srz 5<| T_nr 2 [4] [vi s8] hQ h
  rw[if_neg c8]at h
  exact T_cFz 16 (zJ c8)<| T_k<| S_blockEnd<| S_then<| T_rz 6<| T_ed 2 [5,8,16] [(8,vi (zY (s8+1)))]<| S_round ((zY (s8+1)):Int) sk h
 rw[if_neg c4]at h
 exact T_cFz 9 (zQ c4)<| zj 0<| S_exitThen<| S_exitThen<| S_exitHere<| S_then<| T_srz 7<| T_nr 1 [4] [vi (-1)] hQ h
end slices_Index_int_int

/-! (*moraine/obj.Heap).Epoch -/
namespace obj_Heap_Next
def K0:=Func.code Tryz.f63
end obj_Heap_Next
def obj_Heap_Next.pt(hv:zW)(H:zV)(R:zk):Prop:=
 obj_Heap_none.C hv H (λv H1=> ∃x:Bool,v=.bool x/\
 if x=true then(
 R (.tuple #[]) H1)
 else
 ∃a:Addr,hv=some a/\
 ∃b:Int,hat H1 (a.add 3)=some (.int .u64 b)/\
 (CanPuts H1 (a.add 3) 0 1)/\ ∀H2,H2=hputs H1 (a.add 3) [.int .u64 (IntKind.wrap .u64 (b+1))] 0->
 R (.tuple #[]) H2)
namespace obj_Heap_Next
set_option maxRecDepth 100000 in
theorem link{hv:zW}{H:zV}{R:zk}(h:pt hv H R):C hv H R:=by
 refine T_en K0 12 Tryz.func63 ?_
 intro w0 Q hQ
 unfold pt at h
 refine T_su [(0,vp hv)]<| T_srz 0<| T_nd 1 [] [(2,vp hv)]<| T_c (some 3) h ?_;clear h
 rintro v H1 ⟨x,rfl,h⟩
 refine T_pd [2] [(3,.bool x)]<| T_ed 1 [3] [(4,.bool (!x))] ?_
 by_cases c1:x=true
 ·rw[if_pos c1]at h
  exact T_cFz 4 (congrArg Bool.not (c1))<| T_k<| S_doneN (fn:=Tryz.f63) [] hQ (show ResOK _ _ _ [] _ from .nil) h
 rw[if_neg c1]at h
 refine T_cTz 4 (congrArg Bool.not (zZ c1))<| T_rz 1<| T_n 1 [(5,vp hv)] ?_
 obtain⟨a,rfl,h⟩:=h
 refine T_n 2 [(5,vp (some a)),(7,vp (some (a.add 3)))] ?_
 obtain⟨b,q3,h⟩:=h
 refine T_l1 8 23 q3 [7]<| T_n 3 [(9,vu (IntKind.wrap .u64 (b+1))),(11,vp (some (a.add 3)))] ?_
 obtain⟨q5,h⟩:=h
 refine T_st1 23 (vu (IntKind.wrap .u64 (b+1))) q5 ?_
 intro H2 e4
 replace h:=h H2 e4
 refine⟨[],pk,?_⟩
 exact zq<| S_doneN (fn:=Tryz.f63) [] hQ (show ResOK _ _ _ [] _ from .nil) h
end obj_Heap_Next

/-! moraine/morainelaw11.Word -/
namespace morainelaw11_Word
def K0:=Func.code Tryz.f82
end morainelaw11_Word
def morainelaw11_Word.pt(vW af:Int)(g:zW)(d f:Nat)(H:zV)(R:zk):Prop:=
 ∀(b:Nat) (H1:zV),b=H.size->H1=H.push (.cells #[.int .u64 vW,.int .i64 af] 96)->
 ∃x:Int,hat H1 ((ad b).add 1)=some (.int .i64 x)/\
 if((decide (x>0)) && (decide ((d:Int)>0)))=true then(
 ∃n:Int,hat H1 ((ad b).add 1)=some (.int .i64 n)/\
 ((d:Int)≠0)/\
 ∃m:Addr,g=some m/\
 ((0:Int)<=(Int.tmod (zY (n-1)) (d:Int))/\(Int.tmod (zY (n-1)) (d:Int))< (d:Int))/\
 ∃aa:Int,hat H1 (m.add (Int.toNat (Int.tmod (zY (n-1)) (d:Int))*1))=some (.int .u64 aa)/\
 R (.int .u64 aa) H1)
 else
 ∃l:Int,hat H1 (ad b)=some (.int .u64 l)/\
 if(iand .u64 l 7)=0 then(
 ∃ac:Int,hat H1 (ad b)=some (.int .u64 ac)/\
 moraineref01_Of.C ac H1 (λv H2=> ∃o ai xA xX ag:Int,v=.agg #[.int .i64 o,.int .i64 ai,.int .i64 xA,.int .i64 xX,.int .u64 ag]/\
 if o=0 then(
 ∃ab:Int,hat H2 (ad b)=some (.int .u64 ab)/\
 R (.int .u64 (iandnot .u64 ab 7)) H2)
 else
 ∃s:Int,hat H2 (ad b)=some (.int .u64 s)/\
 R (.int .u64 s) H2))
 else
 if(iand .u64 l 7)=4 then(
 ∃ae:Int,hat H1 (ad b)=some (.int .u64 ae)/\
 moraineref01_Of.C ae H1 (λak H3=> ∃j u aj ah r:Int,ak=.agg #[.int .i64 j,.int .i64 u,.int .i64 aj,.int .i64 ah,.int .u64 r]/\
 if j=0 then(
 ∃z:Int,hat H3 (ad b)=some (.int .u64 z)/\
 R (.int .u64 (iandnot .u64 z 7)) H3)
 else
 ∃p:Int,hat H3 (ad b)=some (.int .u64 p)/\
 R (.int .u64 p) H3))
 else
 ∃q:Int,hat H1 (ad b)=some (.int .u64 q)/\
 R (.int .u64 (iandnot .u64 q 7)) H1
namespace morainelaw11_Word
set_option maxRecDepth 100000 in
theorem link{vW af:Int}{g:zW}{d f:Nat}{H:zV}{R:zk}(h:pt vW af g d f H R):C vW af g d f H R:=by
 refine T_en K0 44 Tryz.func82 ?_
 intro w0 Q hQ
 unfold pt zY at h
 refine T_su [(0,.agg #[vu vW,vi af]),(1,vs g d f)]<| T_srz 0<| T_nw (some 2) (λb=>vp (pa b)) (.cells #[vu vW,vi af] 96) ?_
 intro b H1 e1 e2
 replace h:=h b H1 e1 e2
 refine T_pd [0] [(2,vp (pa b))]<| T_ed 1 [] []<| T_sz<| T_srz 1<| T_nd 1 [] [(6,vp (some ((ad b).add 1)))] ?_
 obtain⟨x,q3,h⟩:=h
 refine T_l1 7 3 q3 [6]<| T_nd 2 [7] [(9,.bool (decide (x>0)))] ?_
 refine N_cut [(1,vs g d f),(2,vp (pa b)),(13,.bool ((decide (x>0)) && (decide ((d:Int)>0))))] ?_ ?_
 ·refine S_then ?_
  by_cases c6:((decide (x>0)) && (decide ((d:Int)>0)))=true
  ·rw[if_pos c6]at h
   refine T_cTz 13 c6<| T_srz 2<| T_n 2 [(1,vs g d f),(14,vs g d f),(15,vp (some ((ad b).add 1)))] ?_
   obtain⟨n,q8,h⟩:=h
   refine T_l1 16 3 q8 [15]<| T_nd 3 [1,16] [(17,vi (zY (n-1))),(19,vi d)] ?_
   obtain⟨q9,h⟩:=h
   refine T_v1 20 (binN .rem 3 (vi (zY (n-1))) (vi d)) (vi (Int.tmod (zY (n-1)) (d:Int))) (λw _=>rem_run (P:=Tryz.prog) (t:=3) (k:=.i64) (x:=(zY (n-1))) (y:=(d:Int)) q9 w) [17,19] ?_
   obtain⟨m,rfl,q10,h⟩:=h
   refine T_ix (some 21) 27 24 1 m d f .i64 (Int.tmod (zY (n-1)) (d:Int)) Tryz.underlying27 q10.1 q10.2 [(21,vp (some (m.add (Int.toNat (Int.tmod (zY (n-1)) (d:Int))*1))))] ?_
   obtain⟨aa,q11,h⟩:=h
   exact T_l1 22 24 q11 [21]<| T_nr 1 [4] [vu aa] hQ h
  rw[if_neg c6]at h
  refine T_cFz 13 (zZ c6)<| T_kt<| T_sz<| T_srz 3<| T_n 1 [(2,vp (pa b)),(23,vp (pa b))] ?_
  obtain⟨l,q12,h⟩:=h
  refine T_l1 24 24 q12 [23]<| T_ed 2 [24] [(5,vu (iand .u64 l 7))]<| T_srz 4<| T_nd 3 [] [(28,.bool ((iand .u64 l 7) !=0))] ?_
  by_cases c13:(iand .u64 l 7)=0
  ·rw[if_pos c13]at h
   refine N_bd 28 (bne_eq_false_iff_eq.mpr c13)<| T_nd 5 [5,28] [(32,.bool false),(33,vp (pa b))] ?_
   obtain⟨ac,q15,h⟩:=h
   refine T_l1 34 24 q15 [33]<| T_c (some 35) h ?_;clear h
   rintro v H2 ⟨o,ai,xA,xX,ag,rfl,h⟩
   refine T_pd [34] [(35,.agg #[vi o,vi ai,vi xA,vi xX,vu ag])]<| T_ed 3 [32,35] [(38,.bool (o==0))] ?_
   by_cases c16:o=0
   ·rw[if_pos c16]at h
    refine T_cTz 38 (zK c16)<| T_srz 5<| T_n 1 [(39,vp (pa b))] ?_
    obtain⟨ab,q18,h⟩:=h
    exact T_l1 40 24 q18 [39]<| T_nr 2 [4] [vu (iandnot .u64 ab 7)] hQ h
   rw[if_neg c16]at h
   refine T_cFz 38 (zJ c16)<| T_kt<| T_srz 6<| T_n 1 [(42,vp (pa b))] ?_
   obtain⟨s,q19,h⟩:=h
   exact T_l1 43 24 q19 [42]<| T_nr 1 [4] [vu s] hQ h
  rw[if_neg c13]at h
  refine N_bd 28 (bne_iff_ne.mpr c13)<| T_nd 4 [5,28] [(32,.bool ((iand .u64 l 7) !=4))] ?_
  by_cases c20:(iand .u64 l 7)=4
  ·rw[if_pos c20]at h
   refine N_bd 32 (bne_eq_false_iff_eq.mpr c20)<| T_nd 1 [] [(33,vp (pa b))] ?_
   obtain⟨ae,q22,h⟩:=h
   refine T_l1 34 24 q22 [33]<| T_c (some 35) h ?_;clear h
   rintro ak H3 ⟨j,u,aj,ah,r,rfl,h⟩
   refine T_pd [34] [(35,.agg #[vi j,vi u,vi aj,vi ah,vu r])]<| T_ed 3 [32,35] [(38,.bool (j==0))] ?_
   by_cases c23:j=0
   ·rw[if_pos c23]at h
    refine T_cTz 38 (zK c23)<| T_srz 5<| T_n 1 [(39,vp (pa b))] ?_
    obtain⟨z,q25,h⟩:=h
    exact T_l1 40 24 q25 [39]<| T_nr 2 [4] [vu (iandnot .u64 z 7)] hQ h
   rw[if_neg c23]at h
   refine T_cFz 38 (zJ c23)<| T_kt<| T_srz 6<| T_n 1 [(42,vp (pa b))] ?_
   obtain⟨p,q26,h⟩:=h
   exact T_l1 43 24 q26 [42]<| T_nr 1 [4] [vu p] hQ h
  rw[if_neg c20]at h
  refine N_bd 32 (bne_iff_ne.mpr c20)<| T_ed 6 [32] [(38,.bool true)]<| T_tz 38<| T_srz 5<| T_n 1 [(39,vp (pa b))] ?_
  obtain⟨q,q27,h⟩:=h
  exact T_l1 40 24 q27 [39]<| T_nr 2 [4] [vu (iandnot .u64 q 7)] hQ h
 intro hk
 refine T_nu [(1,vs g d f),(2,vp (pa b)),(9,.bool (decide (x>0)))] ?_
 by_cases c4:x>0
 ·have b5:(decide (x>0))=true:=zX c4
  refine N_env [(1,vs g d f),(2,vp (pa b)),(9,.bool true)] (by rw[b5]) ?_
  refine T_nd 4 [9] [(13,.bool (decide ((d:Int)>0)))]<| zq<| S_bd 13 (b:=(decide ((d:Int)>0))) (v:=((decide (x>0)) && (decide ((d:Int)>0)))) (by simp only[b5,BL]) ?_
  exact hk
 have b5:(decide (x>0))=false:=zQ c4
 refine N_env [(1,vs g d f),(2,vp (pa b)),(9,.bool false)] (by rw[b5]) ?_
 refine T_nd 4 [9] [(13,.bool false)]<| zq<| S_bd 13 (b:=false) (v:=((decide (x>0)) && (decide ((d:Int)>0)))) (by simp only[b5,BL]) ?_
 exact hk
end morainelaw11_Word

/-! moraine/morainelaw11.words -/
namespace morainelaw11_words
def K0:=Func.code Tryz.f86
def K2:=cb K0
def K4:=cb K2
def K5:=ca K4
def K8:=cb K5
def K9:=ca K8
def K10:=ca K9
end morainelaw11_words
def morainelaw11_words.pt(lB:zW)(lN lC:Nat)(f:zW)(d g:Nat)(H:zV)(R:zk):Prop:=
 ∃(o:zW->Nat->Nat->zv) (m11:zW->Nat->Nat->Int->zV->Nat),o none 0 0 0 H/\ ∀(j:zW) (outN:Nat) (outC:Nat) (i:Int) (H1:zV),o j outN outC i H1->
 if((decide (i< (lN:Int))) && (decide (i<62)))=true then(
 ∃l:Addr,lB=some l/\
 zw i lN/\
 ∃xW m:Int,RowAt H1 (l.add (Int.toNat i*2)) 0 [.int .u64 xW,.int .i64 m]/\
 morainelaw11_Word.C xW m f d g H1 (λv H2=> ∃x:Int,v=.int .u64 x/\
 ∀(b:Nat) (H3:zV),b=H2.size->H3=H2.push (.cells #[.int .u64 x] 24)->
 appendK 1 24 8 [.int .u64 0] j outN outC (some (ad b)) 1 H3 (λap n H4=>
 (o ap (outN+1) n (zY (i+1)) H4/\m11 ap (outN+1) n (zY (i+1)) H4<m11 j outN outC i H1))))
 else
 R (.slice j outN outC) H1
namespace morainelaw11_words
set_option maxRecDepth 100000 in
theorem link{lB:zW}{lN lC:Nat}{f:zW}{d g:Nat}{H:zV}{R:zk}(h:pt lB lN lC f d g H R):C lB lN lC f d g H R:=by
 refine T_en K0 27 Tryz.func86 ?_
 intro w0 Q hQ
 unfold pt zY at h
 refine T_su [(0,vs lB lN lC),(1,vs f d g)]<| T_srz 0<| T_ed 1 [] []<| T_srz 1<| T_ed 1 [] [(5,vs none 0 0)]<| T_sz<| T_srz 2<| T_ed 1 [] [(6,vi 0)]<| T_bz 0 ?_
 obtain⟨o,m11,i1,i2⟩:=h
 refine S_loop (x:=K10) (σ:=zW×Nat×Nat×Int) (λs_=> [(0,vs lB lN lC),(1,vs f d g),(5,vs s_.1 s_.2.1 s_.2.2.1),(6,vi s_.2.2.2)]) (λs_ H=>o s_.1 s_.2.1 s_.2.2.1 s_.2.2.2 H) (λs_ H=>m11 s_.1 s_.2.1 s_.2.2.1 s_.2.2.2 H) ((none,0,0,0):zW×Nat×Nat×Int) (by kernel_rfl) i1 sk ?_
 rintro⟨j,outN,outC,i⟩ H1 i3
 have h:=i2 j outN outC i H1 i3
 refine T_su [(0,vs lB lN lC),(1,vs f d g),(5,vs j outN outC),(6,vi i)]<| T_sz<| T_srz 3 ?_
 refine N_cut [(0,vs lB lN lC),(1,vs f d g),(5,vs j outN outC),(6,vi i),(14,.bool ((decide (i< (lN:Int))) && (decide (i<62))))] ?_ ?_
 ·refine S_then ?_
  by_cases c6:((decide (i< (lN:Int))) && (decide (i<62)))=true
  ·rw[if_pos c6]at h
   refine T_cTz 14 c6<| T_kt<| T_sz<| T_bz 1<| T_rz 5<| T_n 3 [(0,vs lB lN lC),(1,vs f d g),(6,vi i),(17,vs j outN outC),(18,vs lB lN lC),(19,vi i)] ?_
   obtain⟨l,rfl,q8,h⟩:=h
   refine T_xd (some 20) 52 96 2 l lN lC .i64 i Tryz.underlying52 q8.1 q8.2 [0,18,19] [(0,vs (some l) lN lC),(20,vp (some (l.add (Int.toNat i*2))))] ?_
   obtain⟨xW,m,q9,h⟩:=h
   refine T_lr 21 96 q9 [20]<| T_nd 1 [] [(22,vs f d g)]<| T_c (some 23) h ?_;clear h
   rintro v H2 ⟨x,rfl,h⟩
   refine T_pd [21,22] [(23,vu x)]<| T_nw (some 24) (λb=>vs (pa b) 1 1) (.cells #[vu x] 24) ?_
   intro b H3 e10 e11
   replace h:=h b H3 e10 e11
   refine T_pd [23] [(24,vs (pa b) 1 1)]<| N_op (some 25) (appendN #[27,27] 27 #[vs j outN outC,vs (pa b) 1 1]) _ (λ_=>by kernel_rfl) (ss_append (T:=24) (sz:=1) (bytes:=8) (zero:=(vu 0:Value)) Tryz.underlying27 Tryz.underlying27 rfl (show Tryz.prog.info? 24=some Tryz.t24 from by kernel_rfl) (by kernel_rfl) (by kernel_rfl) (by decide) (by kernel_rfl) (by first | exact h | (simpa only[Value.cells,List.toList_toArray]using h))) ?_;clear h
   rintro _ H4 ⟨ap,n,rfl,h⟩
   exact T_pd [17,24] [(25,vs ap (outN+1) n)]<| T_nd 1 [25] [(5,vs ap (outN+1) n)]<| zq<| S_blockEnd<| S_then<| T_rz 4<| T_ed 3 [6] [(6,vi (zY (i+1)))]<| S_round ((ap,(outN+1),n,(zY (i+1))):zW×Nat×Nat×Int) sk h
  rw[if_neg c6]at h
  exact T_cFz 14 (zZ c6)<| zj 0<| S_exitThen<| S_exitThen<| S_exitHere<| S_then<| T_srz 6<| T_nr 2 [4] [vs j outN outC] hQ h
 intro hk
 refine T_n 5 [(0,vs lB lN lC),(1,vs f d g),(5,vs j outN outC),(6,vi i),(11,.bool (decide (i< (lN:Int))))] ?_
 by_cases c4:i< (lN:Int)
 ·have b5:(decide (i< (lN:Int)))=true:=zX c4
  refine N_env [(0,vs lB lN lC),(1,vs f d g),(5,vs j outN outC),(6,vi i),(11,.bool true)] (by rw[b5]) ?_
  refine T_nd 3 [11] [(14,.bool (decide (i<62)))]<| zq<| S_bd 14 (b:=(decide (i<62))) (v:=((decide (i< (lN:Int))) && (decide (i<62)))) (by simp only[b5,BL]) ?_
  exact hk
 have b5:(decide (i< (lN:Int)))=false:=zQ c4
 refine N_env [(0,vs lB lN lC),(1,vs f d g),(5,vs j outN outC),(6,vi i),(11,.bool false)] (by rw[b5]) ?_
 refine T_nd 3 [11] [(14,.bool false)]<| zq<| S_bd 14 (b:=false) (v:=((decide (i< (lN:Int))) && (decide (i<62)))) (by simp only[b5,BL]) ?_
 exact hk
end morainelaw11_words

/-! moraine/morainelaw11.kind -/
namespace morainelaw11_kind
def K0:=Func.code Tryz.f85
end morainelaw11_kind
def morainelaw11_kind.pt(nv:Int)(H:zV)(R:zk):Prop:=
 ∀(b:Nat) (H1:zV),b=H.size->H1=H.push (.cells #[.int .i64 1,.int .i64 5,.int .i64 2] 3)->
 ((0:Int)<=(Int.tmod (iand .i64 nv 65535) 3)/\(Int.tmod (iand .i64 nv 65535) 3)< (3:Int))/\
 ∃x:Int,hat H1 ((ad b).add (Int.toNat (Int.tmod (iand .i64 nv 65535) 3)*1))=some (.int .i64 x)/\
 R (.int .i64 x) H1
namespace morainelaw11_kind
set_option maxRecDepth 100000 in
theorem link{nv:Int}{H:zV}{R:zk}(h:pt nv H R):C nv H R:=by
 refine T_en K0 9 Tryz.func85 ?_
 intro w0 Q hQ
 unfold pt at h
 refine T_su [(0,vi nv)]<| T_srz 0<| T_ed 1 [] []<| T_srz 1<| T_nw (some 3) (λb=>vs (pa b) 3 3) (.cells #[vi 1,vi 5,vi 2] 3) ?_
 intro b H1 e1 e2
 replace h:=h b H1 e1 e2
 refine T_pd [] [(3,vs (pa b) 3 3)]<| T_nd 3 [0] [(6,vi (Int.tmod (iand .i64 nv 65535) 3))] ?_
 obtain⟨q3,h⟩:=h
 refine T_ix (some 7) 67 3 1 (ad b) 3 3 .i64 (Int.tmod (iand .i64 nv 65535) 3) Tryz.underlying67 q3.1 q3.2 [(7,vp (some ((ad b).add (Int.toNat (Int.tmod (iand .i64 nv 65535) 3)*1))))] ?_
 obtain⟨x,q4,h⟩:=h
 exact T_l1 8 3 q4 [7]<| T_nr 1 [2] [vi x] hQ h
end morainelaw11_kind

/-! moraine/morainelaw11.Set -/
namespace morainelaw11_Set
def K0:=Func.code Tryz.f87
end morainelaw11_Set
def morainelaw11_Set.pt(hv:zW)(wv nv v:Int)(H:zV)(R:zk):Prop:=
 obj_Heap_Pair.C hv wv H (λr H1=> ∃x:Bool,r=.bool x/\
 if(x && ((iand .i64 (iand .i64 nv 65535) 1)==0))=true then(
 obj_Heap_SetCar.C hv wv v H1 (λs H2=> ∃n:Int,s=.int .i64 n/\
 R (.int .i64 n) H2))
 else
 obj_Heap_Pair.C hv wv H1 (λaf H3=> ∃g:Bool,af=.bool g/\
 if g=true then(
 obj_Heap_SetCdr.C hv wv v H3 (λu H4=> ∃m:Int,u=.int .i64 m/\
 R (.int .i64 m) H4))
 else
 obj_Heap_Type.C hv wv H3 (λz H5=> ∃i:Int,z=.int .i64 i/\
 if i=0 then(
 R (.int .i64 3) H5)
 else
 obj_Heap_Len.C hv wv H5 (λaa H6=> ∃l:Int,aa=.int .i64 l/\
 if l=0 then(
 R (.int .i64 3) H6)
 else
 obj_Heap_Type.C hv wv H6 (λag H7=> ∃f:Int,ag=.int .i64 f/\
 if f=2 then(
 R (.int .i64 3) H7)
 else
 obj_Heap_Type.C hv wv H7 (λae H8=> ∃j:Int,ae=.int .i64 j/\
 if j=10 then(
 R (.int .i64 3) H8)
 else
 obj_Heap_Type.C hv wv H8 (λq H9=> ∃b:Int,q=.int .i64 b/\
 obj_Heap_Len.C hv wv H9 (λp ab=> ∃a:Int,p=.int .i64 a/\
 (a≠0)/\
 obj_Heap_Set.C hv wv b (Int.tmod (iand .i64 nv 65535) a) v ab (λo ac=> ∃d:Int,o=.int .i64 d/\
 R (.int .i64 d) ac)))))))))
namespace morainelaw11_Set
set_option maxRecDepth 100000 in
theorem link{hv:zW}{wv nv v:Int}{H:zV}{R:zk}(h:pt hv wv nv v H R):C hv wv nv v H R:=by
 refine T_en K0 67 Tryz.func87 ?_
 intro w0 Q hQ
 unfold pt at h
 refine T_su [(0,vp hv),(1,vu wv),(2,vi nv),(3,vu v)]<| T_srz 0<| T_ed 1 [] []<| T_srz 1<| T_ed 3 [2] [(2,vi (iand .i64 nv 65535))]<| T_sz<| T_bz 0<| T_srz 2<| T_nd 2 [] [(12,vp hv),(13,vu wv)]<| T_c (some 14) h ?_;clear h
 rintro r H1 ⟨x,rfl,h⟩
 refine T_pd [12,13] [(14,.bool x)]<| T_nd 1 [14] [(15,.bool x)] ?_
 refine N_cut [(0,vp hv),(1,vu wv),(2,vi (iand .i64 nv 65535)),(3,vu v),(11,.bool (x && ((iand .i64 (iand .i64 nv 65535) 1)==0)))] ?_ ?_
 ·refine S_then ?_
  by_cases c3:(x && ((iand .i64 (iand .i64 nv 65535) 1)==0))=true
  ·rw[if_pos c3]at h
   refine T_cTz 11 c3<| T_srz 3<| T_n 3 [(20,vp hv),(21,vu wv),(22,vu v)]<| T_c (some 23) h ?_;clear h
   rintro s H2 ⟨n,rfl,h⟩
   refine⟨[(23,vi n)],pk,?_⟩
   exact T_nr 1 [8] [vi n] hQ h
  rw[if_neg c3]at h
  refine T_cFz 11 (zZ c3)<| T_srz 4<| T_n 2 [(0,vp hv),(1,vu wv),(2,vi (iand .i64 nv 65535)),(3,vu v),(25,vp hv),(26,vu wv)]<| T_c (some 27) h ?_;clear h
  rintro af H3 ⟨g,rfl,h⟩
  refine T_pd [25,26] [(27,.bool g)]<| T_ed 1 [27] [(24,.bool g)] ?_
  by_cases c5:g=true
  ·rw[if_pos c5]at h
   refine T_cTz 24 c5<| T_srz 5<| T_n 3 [(28,vp hv),(29,vu wv),(30,vu v)]<| T_c (some 31) h ?_;clear h
   rintro u H4 ⟨m,rfl,h⟩
   refine⟨[(31,vi m)],pk,?_⟩
   exact T_nr 1 [8] [vi m] hQ h
  rw[if_neg c5]at h
  refine T_cFz 24 (zZ c5)<| T_srz 6<| T_nd 2 [24] [(33,vp hv),(34,vu wv)]<| T_c (some 35) h ?_;clear h
  rintro z H5 ⟨i,rfl,h⟩
  refine T_pd [33,34] [(35,vi i)]<| T_nd 2 [35] [(37,.bool (i==0))] ?_
  by_cases c7:i=0
  ·rw[if_pos c7]at h
   exact N_bd 37 (zK c7)<| T_ed 18 [37] [(32,.bool true)]<| T_tz 32<| T_srz 7<| T_nr 1 [8] [vi 3] hQ h
  rw[if_neg c7]at h
  refine N_bd 37 (zJ c7)<| T_nd 2 [] [(38,vp hv),(39,vu wv)] ?_
  refine T_c (some 40) h ?_;clear h
  rintro aa H6 ⟨l,rfl,h⟩
  refine T_pd [38,39] [(40,vi l)]<| T_nd 3 [37,40] [(43,.bool (l==0))] ?_
  by_cases c9:l=0
  ·rw[if_pos c9]at h
   exact N_bd 43 (zK c9)<| T_ed 12 [43] [(32,.bool true)]<| T_tz 32<| T_srz 7<| T_nr 1 [8] [vi 3] hQ h
  rw[if_neg c9]at h
  refine N_bd 43 (zJ c9)<| T_nd 2 [] [(44,vp hv),(45,vu wv)] ?_
  refine T_c (some 46) h ?_;clear h
  rintro ag H7 ⟨f,rfl,h⟩
  refine T_pd [44,45] [(46,vi f)]<| T_nd 3 [43,46] [(49,.bool (f==2))] ?_
  by_cases c11:f=2
  ·rw[if_pos c11]at h
   exact N_bd 49 (zK c11)<| T_ed 6 [49] [(32,.bool true)]<| T_tz 32<| T_srz 7<| T_nr 1 [8] [vi 3] hQ h
  rw[if_neg c11]at h
  refine N_bd 49 (zJ c11)<| T_nd 2 [] [(50,vp hv),(51,vu wv)] ?_
  refine T_c (some 52) h ?_;clear h
  rintro ae H8 ⟨j,rfl,h⟩
  refine T_pd [50,51] [(52,vi j)]<| T_ed 3 [49,52] [(32,.bool (j==10))] ?_
  by_cases c13:j=10
  ·rw[if_pos c13]at h
   exact T_cTz 32 (zK c13)<| T_srz 7<| T_nr 1 [8] [vi 3] hQ h
  rw[if_neg c13]at h
  refine T_cFz 32 (zJ c13)<| T_k<| S_blockEnd<| S_then<| T_srz 8<| T_nd 4 [32] [(55,vp hv),(56,vu wv),(57,vp hv),(58,vu wv)]<| T_c (some 59) h ?_;clear h
  rintro q H9 ⟨b,rfl,h⟩
  refine T_pd [57,58] [(59,vi b)]<| T_nd 3 [0,1,2] [(60,vi (iand .i64 nv 65535)),(61,vp hv),(62,vu wv)]<| T_c (some 63) h ?_;clear h
  rintro p ab ⟨a,rfl,h⟩
  refine T_pd [61,62] [(63,vi a)] ?_
  obtain⟨q15,h⟩:=h
  refine T_v1 64 (binN .rem 3 (vi (iand .i64 nv 65535)) (vi a)) (vi (Int.tmod (iand .i64 nv 65535) a)) (λw _=>rem_run (P:=Tryz.prog) (t:=3) (k:=.i64) (x:=(iand .i64 nv 65535)) (y:=a) q15 w) [60,63]<| T_nd 1 [3] [(65,vu v)]<| T_c (some 66) h ?_;clear h
  rintro o ac ⟨d,rfl,h⟩
  refine⟨[(66,vi d)],pk,?_⟩
  exact T_nr 1 [8] [vi d] hQ h
 intro hk
 refine T_nu [(0,vp hv),(1,vu wv),(2,vi (iand .i64 nv 65535)),(3,vu v),(15,.bool x)] ?_
 by_cases c1:x=true
 ·have b2:x=true:=c1
  refine N_env [(0,vp hv),(1,vu wv),(2,vi (iand .i64 nv 65535)),(3,vu v),(15,.bool true)] (by rw[b2]) ?_
  refine T_nd 5 [15] [(11,.bool ((iand .i64 (iand .i64 nv 65535) 1)==0))]<| zq<| S_bd 11 (b:=((iand .i64 (iand .i64 nv 65535) 1)==0)) (v:=(x && ((iand .i64 (iand .i64 nv 65535) 1)==0))) (by simp only[b2,BL]) ?_
  exact hk
 have b2:x=false:=zZ c1
 refine N_env [(0,vp hv),(1,vu wv),(2,vi (iand .i64 nv 65535)),(3,vu v),(15,.bool false)] (by rw[b2]) ?_
 refine T_nd 5 [15] [(11,.bool false)]<| zq<| S_bd 11 (b:=false) (v:=(x && ((iand .i64 (iand .i64 nv 65535) 1)==0))) (by simp only[b2,BL]) ?_
 exact hk
end morainelaw11_Set

/-! moraine/morainelaw11.Made -/
namespace morainelaw11_Made
def K0:=Func.code Tryz.f44
def K2:=cb K0
def K3:=ca K2
def K4:=cb K2
def K6:=cb K4
def K8:=cb K6
def K9:=ca K8
def K12:=cb K9
def K13:=ca K12
def K15:=cb K13
def K17:=cb K15
def K27:=cb K17
def K29:=cb K27
def K31:=cb K29
def K32:=ca K31
end morainelaw11_Made
def morainelaw11_Made.pt(hv:zW)(a1 z xN ay af ax ag:Int)(a0:zW)(aw az:Nat)(d:zW)(a f:Nat)(H:zV)(R:zk):Prop:=
 ∀(b:Nat) (H1:zV),b=H.size->H1=H.push (.cells #[.int .i64 a1,.int .i64 z,.int .i64 xN,.int .u64 ay,.int .i64 af,.int .u64 ax,.int .i64 ag,.slice a0 aw az] 98)->
 ∃xW s:Int,RowAt H1 ((ad b).add 3) 0 [.int .u64 xW,.int .i64 s]/\
 ∃m l:Int,RowAt H1 ((ad b).add 5) 0 [.int .u64 m,.int .i64 l]/\
 morainelaw11_Word.C xW s d a f H1 (λv H2=> ∃x:Int,v=.int .u64 x/\RowAt H2 ((ad b).add 5) 0 [.int .u64 m,.int .i64 l]/\
 morainelaw11_Word.C m l d a f H2 (λa5 H3=> ∃i:Int,a5=.int .u64 i/\
 ∃g:Int,hat H3 (ad b)=some (.int .i64 g)/\
 if g=0 then(
 obj_Heap_Cons.C hv x i H3 (λa7 H4=> ∃ra rb:Int,a7=.tuple #[.int .u64 ra,.int .i64 rb]/\
 if rb=0 then(
 ∀(ao:Nat) (H5:zV),ao=H4.size->H5=H4.push (.cells #[.int .u64 ra] 24)->
 appendK 1 24 8 [.int .u64 0] d a f (some (ad ao)) 1 H5 (λap an H6=>
 R (.slice ap (a+1) an) H6))
 else
 R (.slice d a f) H4))
 else
 if g=1 then(
 obj_Heap_Weak.C hv x i H3 (λbg H7=> ∃o r:Int,bg=.tuple #[.int .u64 o,.int .i64 r]/\
 if r=0 then(
 ∀(am:Nat) (H8:zV),am=H7.size->H8=H7.push (.cells #[.int .u64 o] 24)->
 appendK 1 24 8 [.int .u64 0] d a f (some (ad am)) 1 H8 (λab u H9=>
 R (.slice ab (a+1) u) H9))
 else
 R (.slice d a f) H7))
 else
 if g=2 then(
 ∃aa:Int,hat H3 ((ad b).add 1)=some (.int .i64 aa)/\
 ∃(xB:zW) (n xC:Nat),hat H3 ((ad b).add 7)=some (.slice xB n xC)/\
 morainelaw11_kind.C aa H3 (λa8 a4=> ∃au:Int,a8=.int .i64 au/\RowAt a4 ((ad b).add 7) 0 [.slice xB n xC]/\
 morainelaw11_words.C xB n xC d a f a4 (λba bc=> ∃(aj:zW) (ai ah:Nat),ba=.slice aj ai ah/\
 obj_Heap_Make.C hv au 0 aj ai ah bc (λbb a3=> ∃j k:Int,bb=.tuple #[.int .u64 j,.int .i64 k]/\
 if k=0 then(
 ∀(al:Nat) (H13:zV),al=a3.size->H13=a3.push (.cells #[.int .u64 j] 24)->
 appendK 1 24 8 [.int .u64 0] d a f (some (ad al)) 1 H13 (λae y a9=>
 R (.slice ae (a+1) y) a9))
 else
 R (.slice d a f) a3))))
 else
 if g=3 then(
 ∃ak:Int,hat H3 ((ad b).add 2)=some (.int .i64 ak)/\
 morainelaw11_Set.C hv x ak i H3 (λbh bd=> ∃a6:Int,bh=.int .i64 a6/\
 R (.slice d a f) bd))
 else
 if g=4 then(
 ∀(av:Nat) (H16:zV),av=H3.size->H16=H3.push (.cells #[.int .u64 20,.int .u64 20] 24)->
 obj_Heap_Make.C hv 10 0 (some (ad av)) 2 2 H16 (λbe a2=> ∃p q:Int,be=.tuple #[.int .u64 p,.int .i64 q]/\
 if q=0 then(
 ∀(aq:Nat) (H18:zV),aq=a2.size->H18=a2.push (.cells #[.int .u64 p] 24)->
 appendK 1 24 8 [.int .u64 0] d a f (some (ad aq)) 1 H18 (λac t bf=>
 R (.slice ac (a+1) t) bf))
 else
 R (.slice d a f) a2))
 else
 R (.slice d a f) H3))
namespace morainelaw11_Made
set_option maxRecDepth 100000 in
theorem link{hv:zW}{a1 z xN ay af ax ag:Int}{a0:zW}{aw az:Nat}{d:zW}{a f:Nat}{H:zV}{R:zk}(h:pt hv a1 z xN ay af ax ag a0 aw az d a f H R):C hv a1 z xN ay af ax ag a0 aw az d a f H R:=by
 refine T_en K0 76 Tryz.func44 ?_
 intro w0 Q hQ
 unfold pt at h
 refine T_su [(0,vp hv),(1,.agg #[vi a1,vi z,vi xN,vu ay,vi af,vu ax,vi ag,vs a0 aw az]),(2,vs d a f)]<| T_srz 0<| T_nw (some 4) (λb=>vp (pa b)) (.cells #[vi a1,vi z,vi xN,vu ay,vi af,vu ax,vi ag,vs a0 aw az] 98) ?_
 intro b H1 e1 e2
 replace h:=h b H1 e1 e2
 refine T_pd [1] [(4,vp (pa b))]<| T_ed 1 [] []<| T_sz ?_
 obtain⟨xW,s,q3,m,l,q4,h⟩:=h
 refine yY 1 (Code.ops K3) [(3,((ad b).add 3),[vu xW,vi s]),(7,((ad b).add 5),[vu m,vi l])] 10 (bv 10 0) (show FactsAt _ _ _ from⟨q3,q4,trivial⟩)<| T_gp 0 (some 11) (vp (some ((ad b).add 3))) (bv 10 1) [(0,vp hv),(2,vs d a f),(4,vp (pa b)),(11,vp (some ((ad b).add 3)))]<| T_g1 1 12 (.agg #[vu xW,vi s]) (bv 10 3) [11] (loadN 96 (vp (some ((ad b).add 3)))) (held_row 3 (λ_=>by kernel_rfl) (λ_=>by kernel_rfl) yZ (.inl (by kernel_rfl)))<| T_gp1 2 13 (vs d a f) (bv 10 7) []<| T_gp1 4 15 (vp (some ((ad b).add 5))) (bv 10 23) []<| T_g1 5 16 (.agg #[vu m,vi l]) (bv 10 55) [15] (loadN 96 (vp (some ((ad b).add 5)))) (held_row 7 (λ_=>by kernel_rfl) (λ_=>by kernel_rfl) yX (.inl (by kernel_rfl)))<| T_gp1 6 17 (vs d a f) (bv 10 119) []<| yq 3 (some 14) (bv 10 127) 82 #[.agg #[vu xW,vi s],vs d a f] h ?_;clear h
 rintro v H2 ⟨x,rfl,f5,h⟩
 refine⟨[(0,vp hv),(2,vs d a f),(4,vp (pa b)),(14,vu x),(16,.agg #[vu m,vi l]),(17,vs d a f)],pk,(show FactsAt _ _ _ from⟨trivial,f5,trivial⟩),?_⟩
 refine yq 7 (some 18) (bv 10 255) 82 #[.agg #[vu m,vi l],vs d a f] h ?_;clear h
 rintro a5 H3 ⟨i,rfl,h⟩
 refine⟨[(0,vp hv),(2,vs d a f),(4,vp (pa b)),(14,vu x),(18,vu i)],pk,(show FactsAt _ _ _ from⟨trivial,trivial,trivial⟩),?_⟩
 refine T_g 8 (some 7) (vu x) (bv 10 511) [(0,vp hv),(2,vs d a f),(4,vp (pa b)),(7,vu x),(18,vu i)] (pure (.value (vu x)):Sem Next) (λ_ _ _ _ _=>rfl)<| T_g1 9 8 (vu i) (bv 10 1023) [18] (pure (.value (vu i)):Sem Next) (λ_ _ _ _ _=>rfl)<| G_sub [(0,vp hv),(2,vs d a f),(4,vp (pa b)),(7,vu x),(8,vu i)] sk<| yx<| S_then<| T_srz 2<| T_ne 1 [(0,vp hv),(2,vs d a f),(4,vp (pa b)),(7,vu x),(8,vu i),(9,vu 0)]<| T_srz 3<| T_ed 1 [] [(10,vi 1)]<| T_sz<| T_srz 4<| T_nd 1 [] [(19,vp (pa b))] ?_
 obtain⟨g,q6,h⟩:=h
 refine T_l1 20 3 q6 [19]<| T_e<| T_bz 0<| T_srz 5<| T_ed 2 [] [(21,.bool (g==0))] ?_
 by_cases c7:g=0
 ·rw[if_pos c7]at h
  refine T_cTz 21 (zK c7)<| T_rz 6<| T_n 3 [(2,vs d a f),(24,vp hv),(25,vu x),(26,vu i)]<| T_c (some 27) h ?_;clear h
  rintro a7 H4 ⟨ra,rb,rfl,h⟩
  refine⟨[(2,vs d a f),(27,.tuple #[vu ra,vi rb])],pk,?_⟩
  refine T_nd 5 [27] [(9,vu ra),(10,vi rb)]<| zq<| S_blockEnd<| S_then<| T_sz<| T_srz 15<| T_ed 2 [10] [(70,.bool (rb==0))] ?_
  by_cases c9:rb=0
  ·rw[if_pos c9]at h
   refine T_cTz 70 (zK c9)<| T_rz 16<| T_n 2 [(71,vs d a f),(72,vu ra)]<| T_nw (some 73) (λb=>vs (pa b) 1 1) (.cells #[vu ra] 24) ?_
   intro ao H5 e11 e12
   replace h:=h ao H5 e11 e12
   refine T_pd [72] [(73,vs (pa ao) 1 1)]<| N_op (some 74) (appendN #[27,27] 27 #[vs d a f,vs (pa ao) 1 1]) _ (λ_=>by kernel_rfl) (ss_append (T:=24) (sz:=1) (bytes:=8) (zero:=(vu 0:Value)) Tryz.underlying27 Tryz.underlying27 rfl (show Tryz.prog.info? 24=some Tryz.t24 from by kernel_rfl) (by kernel_rfl) (by kernel_rfl) (by decide) (by kernel_rfl) (by first | exact h | (simpa only[Value.cells,List.toList_toArray]using h))) ?_;clear h
   rintro _ H6 ⟨ap,an,rfl,h⟩
   refine⟨[(74,vs ap (a+1) an)],pk,?_⟩
   exact T_ne 1 [(2,vs ap (a+1) an)]<| T_srz 17<| T_nr 2 [6] [vs ap (a+1) an] hQ h
  rw[if_neg c9]at h
  exact T_cFz 70 (zJ c9)<| T_kt<| T_srz 17<| T_nr 2 [6] [vs d a f] hQ h
 rw[if_neg c7]at h
 refine T_cFz 21 (zJ c7)<| T_srz 7<| T_ed 2 [21] [(30,.bool (g==1))] ?_
 by_cases c13:g=1
 ·rw[if_pos c13]at h
  refine T_cTz 30 (zK c13)<| T_rz 8<| T_n 3 [(2,vs d a f),(33,vp hv),(34,vu x),(35,vu i)]<| T_c (some 36) h ?_;clear h
  rintro bg H7 ⟨o,r,rfl,h⟩
  refine⟨[(2,vs d a f),(36,.tuple #[vu o,vi r])],pk,?_⟩
  refine T_nd 5 [36] [(9,vu o),(10,vi r)]<| zq<| S_blockEnd<| S_then<| T_sz<| T_srz 15<| T_ed 2 [10] [(70,.bool (r==0))] ?_
  by_cases c15:r=0
  ·rw[if_pos c15]at h
   refine T_cTz 70 (zK c15)<| T_rz 16<| T_n 2 [(71,vs d a f),(72,vu o)]<| T_nw (some 73) (λb=>vs (pa b) 1 1) (.cells #[vu o] 24) ?_
   intro am H8 e17 e18
   replace h:=h am H8 e17 e18
   refine T_pd [72] [(73,vs (pa am) 1 1)]<| N_op (some 74) (appendN #[27,27] 27 #[vs d a f,vs (pa am) 1 1]) _ (λ_=>by kernel_rfl) (ss_append (T:=24) (sz:=1) (bytes:=8) (zero:=(vu 0:Value)) Tryz.underlying27 Tryz.underlying27 rfl (show Tryz.prog.info? 24=some Tryz.t24 from by kernel_rfl) (by kernel_rfl) (by kernel_rfl) (by decide) (by kernel_rfl) (by first | exact h | (simpa only[Value.cells,List.toList_toArray]using h))) ?_;clear h
   rintro _ H9 ⟨ab,u,rfl,h⟩
   refine⟨[(74,vs ab (a+1) u)],pk,?_⟩
   exact T_ne 1 [(2,vs ab (a+1) u)]<| T_srz 17<| T_nr 2 [6] [vs ab (a+1) u] hQ h
  rw[if_neg c15]at h
  exact T_cFz 70 (zJ c15)<| T_kt<| T_srz 17<| T_nr 2 [6] [vs d a f] hQ h
 rw[if_neg c13]at h
 refine T_cFz 30 (zJ c13)<| T_srz 9<| T_ed 2 [30] [(39,.bool (g==2))] ?_
 by_cases c19:g=2
 ·rw[if_pos c19]at h
  refine T_cTz 39 (zK c19) ?_
  obtain⟨aa,q21,xB,n,xC,q22,h⟩:=h
  refine yY 10 (Code.ops K32) [(3,((ad b).add 1),[vi aa]),(7,((ad b).add 7),[vs xB n xC])] 14 (bv 14 0) (show FactsAt _ _ _ from⟨⟨q21,trivial⟩,⟨q22,trivial⟩,trivial⟩)<| T_gp 0 (some 42) (vp hv) (bv 14 1) [(2,vs d a f),(4,vp (pa b)),(9,vu 0),(10,vi 1),(42,vp hv)]<| T_gp1 1 43 (vp (some ((ad b).add 1))) (bv 14 3) []<| T_g1 2 44 (vi aa) (bv 14 7) [43] (loadN 3 (vp (some ((ad b).add 1)))) (yW 3 yZ)<| T_gp1 4 46 (vp (some ((ad b).add 7))) (bv 14 23) [4]<| T_g1 5 47 (vs xB n xC) (bv 14 55) [46] (loadN 52 (vp (some ((ad b).add 7)))) (yW 7 yX)<| T_gp1 6 48 (vs d a f) (bv 14 119) []<| yq 3 (some 45) (bv 14 127) 85 #[vi aa] h ?_;clear h
  rintro a8 a4 ⟨au,rfl,f23,h⟩
  refine⟨[(2,vs d a f),(9,vu 0),(10,vi 1),(42,vp hv),(45,vi au),(47,vs xB n xC),(48,vs d a f)],pk,(show FactsAt _ _ _ from⟨trivial,f23,trivial⟩),?_⟩
  refine yq 7 (some 49) (bv 14 255) 86 #[vs xB n xC,vs d a f] h ?_;clear h
  rintro ba bc ⟨aj,ai,ah,rfl,h⟩
  refine⟨[(2,vs d a f),(9,vu 0),(10,vi 1),(42,vp hv),(45,vi au),(49,vs aj ai ah)],pk,(show FactsAt _ _ _ from⟨trivial,trivial,trivial⟩),?_⟩
  refine yq 8 (some 50) (bv 14 511) 84 #[vp hv,vi au,vu 0,vs aj ai ah] h ?_;clear h
  rintro bb a3 ⟨j,k,rfl,h⟩
  refine⟨[(2,vs d a f),(9,vu 0),(10,vi 1),(50,.tuple #[vu j,vi k])],pk,(show FactsAt _ _ _ from⟨trivial,trivial,trivial⟩),?_⟩
  refine T_g 9 (some 41) (.tuple #[vu j,vi k]) (bv 14 1023) [(2,vs d a f),(9,vu 0),(10,vi 1),(41,.tuple #[vu j,vi k])] (pure (.value (.tuple #[vu j,vi k])):Sem Next) (λ_ _ _ _ _=>rfl)<| T_g1 10 51 (vu j) (bv 14 2047) [] (pure (.value (vu j)):Sem Next) (λ_ _ _ _ _=>rfl)<| T_g1 11 52 (vi k) (bv 14 4095) [41] (pure (.value (vi k)):Sem Next) (λ_ _ _ _ _=>rfl)<| T_g1 12 9 (vu j) (bv 14 8191) [9,51] (pure (.value (vu j)):Sem Next) (λ_ _ _ _ _=>rfl)<| T_g1 13 10 (vi k) (bv 14 16383) [10,52] (pure (.value (vi k)):Sem Next) (λ_ _ _ _ _=>rfl)<| G_sub [(2,vs d a f),(9,vu j),(10,vi k)] sk<| yx<| S_blockEnd<| S_then<| T_sz<| T_srz 15<| T_ne 2 [(2,vs d a f),(9,vu j),(70,.bool (k==0))] ?_
  by_cases c24:k=0
  ·rw[if_pos c24]at h
   refine T_cTz 70 (zK c24)<| T_rz 16<| T_n 2 [(71,vs d a f),(72,vu j)]<| T_nw (some 73) (λb=>vs (pa b) 1 1) (.cells #[vu j] 24) ?_
   intro al H13 e26 e27
   replace h:=h al H13 e26 e27
   refine T_pd [72] [(73,vs (pa al) 1 1)]<| N_op (some 74) (appendN #[27,27] 27 #[vs d a f,vs (pa al) 1 1]) _ (λ_=>by kernel_rfl) (ss_append (T:=24) (sz:=1) (bytes:=8) (zero:=(vu 0:Value)) Tryz.underlying27 Tryz.underlying27 rfl (show Tryz.prog.info? 24=some Tryz.t24 from by kernel_rfl) (by kernel_rfl) (by kernel_rfl) (by decide) (by kernel_rfl) (by first | exact h | (simpa only[Value.cells,List.toList_toArray]using h))) ?_;clear h
   rintro _ a9 ⟨ae,y,rfl,h⟩
   refine⟨[(74,vs ae (a+1) y)],pk,?_⟩
   exact T_ne 1 [(2,vs ae (a+1) y)]<| T_srz 17<| T_nr 2 [6] [vs ae (a+1) y] hQ h
  rw[if_neg c24]at h
  exact T_cFz 70 (zJ c24)<| T_kt<| T_srz 17<| T_nr 2 [6] [vs d a f] hQ h
 rw[if_neg c19]at h
 refine T_cFz 39 (zJ c19)<| T_srz 11<| T_ed 2 [39] [(53,.bool (g==3))] ?_
 by_cases c28:g=3
 ·rw[if_pos c28]at h
  refine T_cTz 53 (zK c28)<| T_rz 12<| T_nd 3 [0,4,7,20,53] [(55,vp hv),(56,vu x),(57,vp (some ((ad b).add 2)))] ?_
  obtain⟨ak,q30,h⟩:=h
  refine T_l1 58 3 q30 [57]<| T_nd 1 [8] [(59,vu i)]<| T_c (some 60) h ?_;clear h
  rintro bh bd ⟨a6,rfl,h⟩
  exact T_pd [55,56,58,59] []<| zq<| S_blockEnd<| S_then<| T_sz<| T_srz 15<| T_ed 2 [10] [(70,.bool false)]<| T_fz 70<| T_kt<| T_srz 17<| T_nr 2 [6] [vs d a f] hQ h
 rw[if_neg c28]at h
 refine T_cFz 53 (zJ c28)<| T_srz 13<| T_ed 2 [4,7,8,20,53] [(61,.bool (g==4))] ?_
 by_cases c31:g=4
 ·rw[if_pos c31]at h
  refine T_cTz 61 (zK c31)<| T_rz 14<| T_n 1 [(2,vs d a f),(64,vp hv)]<| T_nw (some 65) (λb=>vs (pa b) 2 2) (.cells #[vu 20,vu 20] 24) ?_
  intro av H16 e33 e34
  replace h:=h av H16 e33 e34
  refine T_pd [] [(65,vs (pa av) 2 2)]<| T_c (some 66) h ?_;clear h
  rintro be a2 ⟨p,q,rfl,h⟩
  refine T_pd [64,65] [(66,.tuple #[vu p,vi q])]<| T_nd 5 [66] [(9,vu p),(10,vi q)]<| zq<| S_blockEnd<| S_then<| T_sz<| T_srz 15<| T_ed 2 [10] [(70,.bool (q==0))] ?_
  by_cases c35:q=0
  ·rw[if_pos c35]at h
   refine T_cTz 70 (zK c35)<| T_rz 16<| T_n 2 [(71,vs d a f),(72,vu p)]<| T_nw (some 73) (λb=>vs (pa b) 1 1) (.cells #[vu p] 24) ?_
   intro aq H18 e37 e38
   replace h:=h aq H18 e37 e38
   refine T_pd [72] [(73,vs (pa aq) 1 1)]<| N_op (some 74) (appendN #[27,27] 27 #[vs d a f,vs (pa aq) 1 1]) _ (λ_=>by kernel_rfl) (ss_append (T:=24) (sz:=1) (bytes:=8) (zero:=(vu 0:Value)) Tryz.underlying27 Tryz.underlying27 rfl (show Tryz.prog.info? 24=some Tryz.t24 from by kernel_rfl) (by kernel_rfl) (by kernel_rfl) (by decide) (by kernel_rfl) (by first | exact h | (simpa only[Value.cells,List.toList_toArray]using h))) ?_;clear h
   rintro _ bf ⟨ac,t,rfl,h⟩
   refine⟨[(74,vs ac (a+1) t)],pk,?_⟩
   exact T_ne 1 [(2,vs ac (a+1) t)]<| T_srz 17<| T_nr 2 [6] [vs ac (a+1) t] hQ h
  rw[if_neg c35]at h
  exact T_cFz 70 (zJ c35)<| T_kt<| T_srz 17<| T_nr 2 [6] [vs d a f] hQ h
 rw[if_neg c31]at h
 exact T_cFz 61 (zJ c31)<| T_k<| S_blockEnd<| S_then<| T_sz<| T_srz 15<| T_ed 2 [0,10,61] [(70,.bool false)]<| T_fz 70<| T_kt<| T_srz 17<| T_nr 2 [6] [vs d a f] hQ h
end morainelaw11_Made

/-! moraine/gc.Need -/
namespace gc_Collect
def K0:=Func.code Tryz.f9
def K2:=cb K0
def K4:=cb K2
def K12:=cb K4
def K14:=cb K12
def K20:=cb K14
def K21:=ca K20
def K24:=cb K21
def K25:=ca K24
def K26:=ca K25
end gc_Collect
def gc_Collect.pt(hv:zW)(g o:Int)(l:zW)(b d:Nat)(H:zV)(R:zk):Prop:=
 onPtr hv (
 R (.int .i64 1) H) (λj=>
 gc_more.C (some j) H (λv H1=> ∃x:Int,v=.int .i64 x/\
 trace_Start.C (some j) g o x H1 (λal H2=> ∃(ra:zW) (rb:Int),al=.tuple #[.pointer ra,.int .i64 rb]/\
 if rb=0 then(
 ∃(ag:zv) (m27:Int->zV->Nat),ag 0 H2/\ ∀(n:Int) (H3:zV),ag n H3->
 if n< (b:Int)then(
 ∃m:Addr,l=some m/\
 zw n b/\
 ∃aa:zW,hat H3 (m.add (Int.toNat n*1))=some (.pointer aa)/\
 onPtr aa (
 (ag (zY (n+1)) H3/\m27 (zY (n+1)) H3<m27 n H3)) (λp=>
 ∃ah:Int,hat H3 p=some (.int .u64 ah)/\
 trace_Trace_Visit.C ra ah H3 (λam H4=> ∃af:Int,am=.int .u64 af/\
 (CanPuts H4 p 0 1)/\ ∀H5,H5=hputs H4 p [.int .u64 af] 0->
 (ag (zY (n+1)) H5/\m27 (zY (n+1)) H5<m27 n H3))))
 else
 trace_Trace_Cards.C ra H3 (λ_ H6=>
 trace_Trace_Drain.C ra H6 (λ_ H7=>
 ∃(xB:zW) (xN xC:Nat),hat H7 (j.add 2)=some (.slice xB xN xC)/\
 weak_Guards.C ra xB xN xC H7 (λan H8=> ∃(u:zW) (r q:Nat),an=.slice u r q/\
 (CanPuts H8 (j.add 2) 0 1)/\ ∀H9,H9=hputs H8 (j.add 2) [.slice u r q] 0->
 weak_Breaks.C ra H9 (λ_ ak=>
 ∃(ac:zW) (ab ae:Nat),hat ak (j.add 1)=some (.slice ac ab ae)/\
 weak_Prune.C ra ac ab ae ak (λap ai=> ∃(z:zW) (y s:Nat),ap=.slice z y s/\
 (CanPuts ai (j.add 1) 0 1)/\ ∀aj,aj=hputs ai (j.add 1) [.slice z y s] 0->
 trace_Trace_End.CD ra aj (λao=>
 R (.int .i64 0) ao)))))))
 else
 R (.int .i64 rb) H2)))
namespace gc_Collect
theorem link{hv:zW}{g o:Int}{l:zW}{b d:Nat}{H:zV}{R:zk}(h:pt hv g o l b d H R):C hv g o l b d H R:=by
 refine T_en K0 68 Tryz.func9 ?_
 intro w0 Q hQ
 unfold pt zY at h
 refine T_su [(0,vp hv),(1,vi g),(2,vi o),(3,vs l b d)]<| T_srz 0<| T_ed 1 [] []<| T_sz<| T_srz 1<| T_nd 1 [] [(13,vp hv)] ?_
 rcases hv with _ | j
 ·rw[onPtr_none]at h
  exact T_ed 1 [0,13] [(0,vp none),(14,.bool true)]<| T_tz 14<| T_srz 2<| T_nr 1 [8] [vi 1] hQ h
 rw[onPtr_some]at h
 refine T_ed 1 [0,13] [(0,vp (some j)),(14,.bool false)]<| T_fz 14<| T_kt<| T_srz 3<| T_nd 4 [1,2,14] [(16,vp (some j)),(17,vi g),(18,vi o),(19,vp (some j))]<| T_c (some 20) h ?_;clear h
 rintro v H1 ⟨x,rfl,h⟩
 refine T_pd [19] [(20,vi x)]<| T_c (some 21) h ?_;clear h
 rintro al H2 ⟨ra,rb,rfl,h⟩
 refine T_pd [16,17,18,20] [(21,.tuple #[vp ra,vi rb])]<| T_ed 5 [21] [(9,vp ra),(10,vi rb)]<| T_sz<| T_srz 4<| T_ed 2 [] [(25,.bool (rb !=0))] ?_
 by_cases c1:rb=0
 ·rw[if_pos c1]at h
  refine T_cFz 25 (bne_eq_false_iff_eq.mpr c1)<| T_kt<| T_srz 6<| T_nd 1 [10,25] [(27,vp ra)]<| N_defer none 28 #[vp ra] (λ_=>by kernel_rfl) [(0,vp (some j)),(3,vs l b d),(9,vp ra)] pk<| T_e<| T_sz<| T_srz 7<| T_ne 3 [(0,vp (some j)),(9,vp ra),(28,vs l b d),(29,vi b),(30,vi 0)]<| T_bz 0 ?_
  obtain⟨ag,m27,i3,i4⟩:=h
  refine S_loop (x:=K26) (σ:=Int) (λs_=> [(0,vp (some j)),(9,vp ra),(28,vs l b d),(29,vi b),(30,vi s_)]) (λs_ H=>ag s_ H) (λs_ H=>m27 s_ H) (0:Int) (by kernel_rfl) i3 sk ?_
  rintro n H3 i5
  have h:=i4 n H3 i5
  refine T_su [(0,vp (some j)),(9,vp ra),(28,vs l b d),(29,vi b),(30,vi n)]<| T_srz 8<| T_ed 1 [] [(31,.bool (decide (n< (b:Int))))]<| T_sz ?_
  by_cases c6:n< (b:Int)
  ·rw[if_pos c6]at h
   refine T_cTz 31 (zX c6)<| T_kt<| T_sz<| T_bz 1<| T_srz 9<| T_ud [31] [] ?_
   obtain⟨m,rfl,q8,h⟩:=h
   refine T_xd (some 32) 57 33 1 m b d .i64 n Tryz.underlying57 q8.1 q8.2 [28] [(28,vs (some m) b d),(32,vp (some (m.add (Int.toNat n*1))))] ?_
   obtain⟨aa,q9,h⟩:=h
   refine T_l1 33 33 q9 [32]<| T_ed 1 [33] [(12,vp aa)]<| T_srz 10<| T_nd 1 [] [(34,vp aa)] ?_
   rcases aa with _ | p
   ·rw[onPtr_none]at h
    exact T_ed 1 [12,34] [(12,vp none),(35,.bool false)]<| T_fz 35<| T_k<| S_blockEnd<| S_then<| T_rz 12<| T_ed 2 [12,30,35] [(30,vi (zY (n+1)))]<| S_round ((zY (n+1)):Int) sk h
   rw[onPtr_some]at h
   refine T_ed 1 [12,34] [(12,vp (some p)),(35,.bool true)]<| T_tz 35<| T_rz 11<| T_nd 4 [12,35] [(36,vp (some p)),(37,vp ra),(39,vp (some p))] ?_
   obtain⟨ah,q10,h⟩:=h
   refine T_l1 40 24 q10 [39]<| T_c (some 41) h ?_;clear h
   rintro am H4 ⟨af,rfl,h⟩
   refine T_pd [37,40] [(41,vu af)]<| T_nd 1 [36] [(42,vp (some p))] ?_
   obtain⟨q12,h⟩:=h
   refine T_st1 24 (vu af) q12 ?_
   intro H5 e11
   replace h:=h H5 e11
   exact T_pd [41,42] []<| zq<| S_blockEnd<| S_then<| T_rz 12<| T_ed 2 [30] [(30,vi (zY (n+1)))]<| S_round ((zY (n+1)):Int) sk h
  rw[if_neg c6]at h
  refine T_cFz 31 (zQ c6)<| zj 0<| S_exitThen<| S_exitThen<| S_exitHere<| S_then<| T_srz 13<| T_nd 1 [28,29,30,31] [(44,vp ra)]<| T_c (some 45) h ?_;clear h
  intro v_4 H6 h
  refine T_pd [44] []<| T_e<| T_srz 14<| T_nd 1 [] [(46,vp ra)]<| T_c (some 47) h ?_;clear h
  intro v_5 H7 h
  refine T_pd [46] []<| T_e<| T_srz 15<| T_nd 5 [] [(48,vp (some j)),(49,vp ra),(52,vp (some (j.add 2)))] ?_
  obtain⟨xB,xN,xC,q13,h⟩:=h
  refine T_l1 53 28 q13 [52]<| T_c (some 54) h ?_;clear h
  rintro an H8 ⟨u,r,q,rfl,h⟩
  refine T_pd [49,53] [(54,vs u r q)]<| T_nd 2 [48] [(56,vp (some (j.add 2)))] ?_
  obtain⟨q15,h⟩:=h
  refine T_st1 28 (vs u r q) q15 ?_
  intro H9 e14
  replace h:=h H9 e14
  refine T_pd [54,56] []<| T_e<| T_srz 16<| T_nd 1 [] [(57,vp ra)]<| T_c (some 58) h ?_;clear h
  intro v_7 ak h
  refine T_pd [57] []<| T_e<| T_srz 17<| T_n 5 [(59,vp (some j)),(60,vp ra),(63,vp (some (j.add 1)))] ?_
  obtain⟨ac,ab,ae,q16,h⟩:=h
  refine T_l1 64 27 q16 [63]<| T_c (some 65) h ?_;clear h
  rintro ap ai ⟨z,y,s,rfl,h⟩
  refine T_pd [60,64] [(65,vs z y s)]<| T_nd 2 [59] [(67,vp (some (j.add 1)))] ?_
  obtain⟨q18,h⟩:=h
  refine T_st1 27 (vs z y s) q18 ?_
  intro aj e17
  replace h:=h aj e17
  refine⟨[],pk,?_⟩
  refine T_e<| T_srz 18<| T_ne 1 [(8,vi 0)]<| zx ?_
  show At _ _ _ _ _ (Q .ret)
  refine S_doneD (f:=28) (args:= #[vp ra]) (enters_of Tryz.func28 (by kernel_rfl) rfl) hQ (HD.mono (h) (λao h=>?_))
  exact⟨[vi 0],(show ResOK _ _ _ [.tmp 8] _ from .tmp (by kernel_rfl) (.nil)),h⟩
 rw[if_neg c1]at h
 exact T_cTz 25 (bne_iff_ne.mpr c1)<| T_srz 5<| T_nr 2 [8] [vi rb] hQ h
end gc_Collect

/-! moraine/gc.more -/
namespace gc_more
def K0:=Func.code Tryz.f26
end gc_more
def gc_more.pt(hv:zW)(H:zV)(R:zk):Prop:=
 ∃a:Addr,hv=some a/\
 ∃(xB:zW) (xN xC:Nat),hat H (a.add 2)=some (.slice xB xN xC)/\
 R (.int .i64 (zY ((zY (Int.tdiv (xN:Int) 32))+1))) H
namespace gc_more
theorem link{hv:zW}{H:zV}{R:zk}(h:pt hv H R):C hv H R:=by
 refine T_en K0 10 Tryz.func26 ?_
 intro w0 Q hQ
 unfold pt zY at h
 refine T_su [(0,vp hv)]<| T_srz 0<| T_ed 1 [] []<| T_srz 1<| T_n 1 [(3,vp hv)] ?_
 obtain⟨a,rfl,h⟩:=h
 refine T_n 2 [(5,vp (some (a.add 2)))] ?_
 obtain⟨xB,xN,xC,q1,h⟩:=h
 exact T_l1 6 28 q1 [5]<| T_nr 4 [2] [vi (zY ((zY (Int.tdiv (xN:Int) 32))+1))] hQ h
end gc_more

/-! moraine/morainelaw13.kept -/
namespace morainelaw13_kept
def K0:=Func.code Tryz.f45
end morainelaw13_kept
def morainelaw13_kept.pt(a i:Int)(H:zV)(R:zk):Prop:=
 (0<=(Int.tmod i 32))/\
 R (.bool ((iand .u32 (ishr .u32 a (Int.tmod i 32)) 1)==1)) H
namespace morainelaw13_kept
set_option maxRecDepth 100000 in
theorem link{a i:Int}{H:zV}{R:zk}(h:pt a i H R):C a i H R:=by
 refine T_en K0 11 Tryz.func45 ?_
 intro w0 Q hQ
 unfold pt at h
 refine T_su [(0,.int .u32 a),(1,vi i)]<| T_srz 0<| T_ed 1 [] []<| T_srz 1<| T_n 3 [(5,.int .u32 a),(7,vi (Int.tmod i 32))] ?_
 obtain⟨q1,h⟩:=h
 exact T_v1 8 (binN .shr 53 (.int .u32 a) (vi (Int.tmod i 32))) (.int .u32 (ishr .u32 a (Int.tmod i 32))) (λw _=>shr_run (P:=Tryz.prog) (t:=53) (k:=.u32) (k':=.i64) (x:=a) (y:=(Int.tmod i 32)) q1 w) [5,7]<| T_nr 3 [4] [.bool ((iand .u32 (ishr .u32 a (Int.tmod i 32)) 1)==1)] hQ h
end morainelaw13_kept

/-! moraine/morainelaw13.many -/
namespace morainelaw13_many
def K0:=Func.code Tryz.f43
def K2:=cb K0
def K4:=cb K2
def K12:=cb K4
def K13:=ca K12
def K16:=cb K13
def K17:=ca K16
def K18:=ca K17
def K20:=cb K18
def K25:=ca K20
def K27:=ca K25
def K29:=cb K27
def K31:=cb K29
def K32:=ca K31
def K33:=ca K32
end morainelaw13_many
def morainelaw13_many.pt(lB:zW)(lN lC:Nat)(H:zV)(R:zk):Prop:=
 if(lN:Int)>12 then(
 R (.bool true) H)
 else
 ∃(y:Int->zv) (m19:Int->Int->zV->Nat),y 0 0 H/\ ∀(nv:Int) (i:Int) (H1:zV),y nv i H1->
 if i< (lN:Int)then(
 ∃b:Addr,lB=some b/\
 zw i lN/\
 ∃(xB:zW) (xN xC:Nat),hat H1 ((b.add (Int.toNat i*6)).add 1)=some (.slice xB xN xC)/\
 zw i lN/\
 ∃(s:zW) (g p:Nat),hat H1 ((b.add (Int.toNat i*6)).add 2)=some (.slice s g p)/\
 ∃(z:Int->zv) (m34:Int->Int->zV->Nat),z (zY (nv+(zY ((xN:Int)+(g:Int))))) 0 H1/\ ∀(d:Int) (k:Int) (H2:zV),z d k H2->
 zw i lN/\
 ∃(q:zW) (f r:Nat),hat H2 (b.add (Int.toNat i*6))=some (.slice q f r)/\
 if((decide (k< (f:Int))) && (decide (d<=400)))=true then(
 zw i lN/\
 ∃(o:zW) (m n:Nat),hat H2 (b.add (Int.toNat i*6))=some (.slice o m n)/\
 ∃j:Addr,o=some j/\
 zw k m/\
 ∃(u:zW) (l v:Nat),hat H2 ((j.add (Int.toNat k*8)).add 7)=some (.slice u l v)/\
 (z (zY (d+(zY (1+(zY (Int.tdiv (l:Int) 8)))))) (zY (k+1)) H2/\m34 (zY (d+(zY (1+(zY (Int.tdiv (l:Int) 8)))))) (zY (k+1)) H2<m34 d k H2))
 else
 (y d (zY (i+1)) H2/\m19 d (zY (i+1)) H2<m19 nv i H1))
 else
 R (.bool (decide (nv>400))) H1
namespace morainelaw13_many
set_option maxRecDepth 100000 in
theorem link{lB:zW}{lN lC:Nat}{H:zV}{R:zk}(h:pt lB lN lC H R):C lB lN lC H R:=by
 refine T_en K0 60 Tryz.func43 ?_
 intro w0 Q hQ
 unfold pt zY at h
 refine T_su [(0,vs lB lN lC)]<| T_srz 0<| T_ed 1 [] []<| T_sz<| T_srz 1<| T_ed 3 [] [(8,.bool (decide ((lN:Int)>12)))] ?_
 by_cases c1:(lN:Int)>12
 ·rw[if_pos c1]at h
  exact T_cTz 8 (zX c1)<| T_srz 2<| T_nr 1 [2] [.bool true] hQ h
 rw[if_neg c1]at h
 refine T_cFz 8 (zQ c1)<| T_kt<| T_srz 3<| T_ed 1 [8] [(3,vi 0)]<| T_sz<| T_srz 4<| T_ed 1 [] [(4,vi 0)]<| T_bz 0 ?_
 obtain⟨y,m19,i3,i4⟩:=h
 refine S_loop (x:=K18) (σ:=Int×Int) (λs_=> [(0,vs lB lN lC),(3,vi s_.1),(4,vi s_.2)]) (λs_ H=>y s_.1 s_.2 H) (λs_ H=>m19 s_.1 s_.2 H) ((0,0):Int×Int) (by kernel_rfl) i3 sk ?_
 rintro⟨nv,i⟩ H1 i5
 have h:=i4 nv i H1 i5
 refine T_su [(0,vs lB lN lC),(3,vi nv),(4,vi i)]<| T_sz<| T_srz 5<| T_ed 4 [] [(12,.bool (decide (i< (lN:Int))))] ?_
 by_cases c6:i< (lN:Int)
 ·rw[if_pos c6]at h
  refine T_cTz 12 (zX c6)<| T_kt<| T_sz<| T_bz 1<| T_sz<| T_rqz 7<| T_q1 15 (vi nv) [3,12]<| T_q1 16 (vs lB lN lC) []<| T_q1 17 (vi i) [] ?_
  obtain⟨b,rfl,q8,h⟩:=h
  refine Q_op (some 18) (indexAtN 47 (vs (some b) lN lC) (vi i)) (vp (some (b.add (Int.toNat i*6)))) (λ_=>by kernel_rfl) (λw _=>indexAt_run (P:=Tryz.prog) (t:=47) (elem:=55) (sz:=6) (a:=b) (len:=lN) (cap:=lC) (k:=.i64) (i:=i) Tryz.underlying47 (λ_=>by kernel_rfl) q8.1 q8.2 w) [(0,vs (some b) lN lC),(4,vi i),(15,vi nv),(18,vp (some (b.add (Int.toNat i*6))))] pk ?_
  refine T_q (some 19) (vp (some ((b.add (Int.toNat i*6)).add 1))) [(0,vs (some b) lN lC),(4,vi i),(15,vi nv),(19,vp (some ((b.add (Int.toNat i*6)).add 1)))] ?_
  obtain⟨xB,xN,xC,q9,h⟩:=h
  refine T_qld (some 20) 51 q9 [19] [(20,vs xB xN xC)]<| T_q1 21 (vi xN) [20]<| T_q1 22 (vs (some b) lN lC) []<| T_q1 23 (vi i) [] ?_
  obtain⟨q10,h⟩:=h
  refine Q_op (some 24) (indexAtN 47 (vs (some b) lN lC) (vi i)) (vp (some (b.add (Int.toNat i*6)))) (λ_=>by kernel_rfl) (λw _=>indexAt_run (P:=Tryz.prog) (t:=47) (elem:=55) (sz:=6) (a:=b) (len:=lN) (cap:=lC) (k:=.i64) (i:=i) Tryz.underlying47 (λ_=>by kernel_rfl) q10.1 q10.2 w) [(0,vs (some b) lN lC),(4,vi i),(15,vi nv),(21,vi xN),(24,vp (some (b.add (Int.toNat i*6))))] pk ?_
  refine T_q (some 25) (vp (some ((b.add (Int.toNat i*6)).add 2))) [(0,vs (some b) lN lC),(4,vi i),(15,vi nv),(21,vi xN),(25,vp (some ((b.add (Int.toNat i*6)).add 2)))] ?_
  obtain⟨s,g,p,q11,h⟩:=h
  refine T_qld (some 26) 52 q11 [25] [(26,vs s g p)]<| T_q1 27 (vi g) [26]<| T_q1 28 (vi (zY ((xN:Int)+(g:Int)))) [21,27]<| T_q1 29 (vi (zY (nv+(zY ((xN:Int)+(g:Int)))))) [15,28]<| T_q1 3 (vi (zY (nv+(zY ((xN:Int)+(g:Int)))))) [29]<| Q_sub [(0,vs (some b) lN lC),(3,vi (zY (nv+(zY ((xN:Int)+(g:Int)))))),(4,vi i)] sk<| T_qe<| T_srz 8<| T_ne 1 [(0,vs (some b) lN lC),(3,vi (zY (nv+(zY ((xN:Int)+(g:Int)))))),(4,vi i),(5,vi 0)]<| T_bz 2 ?_
  obtain⟨z,m34,i12,i13⟩:=h
  refine S_loop (x:=K33) (σ:=Int×Int) (λs_=> [(0,vs (some b) lN lC),(3,vi s_.1),(4,vi i),(5,vi s_.2)]) (λs_ H=>z s_.1 s_.2 H) (λs_ H=>m34 s_.1 s_.2 H) (((zY (nv+(zY ((xN:Int)+(g:Int))))),0):Int×Int) (by kernel_rfl) i12 sk ?_
  rintro⟨d,k⟩ H2 i14
  have h:=i13 d k H2 i14
  refine T_su [(0,vs (some b) lN lC),(3,vi d),(4,vi i),(5,vi k)]<| T_sz<| T_srz 9<| T_nd 3 [] [(30,vi k),(31,vs (some b) lN lC),(32,vi i)] ?_
  obtain⟨q15,h⟩:=h
  refine T_xd (some 33) 47 55 6 b lN lC .i64 i Tryz.underlying47 q15.1 q15.2 [31,32] [(33,vp (some (b.add (Int.toNat i*6))))]<| T_nd 1 [33] [(34,vp (some (b.add (Int.toNat i*6))))] ?_
  obtain⟨q,f,r,q16,h⟩:=h
  refine T_l1 35 50 q16 [34]<| T_nd 3 [30,35] [(38,.bool (decide (k< (f:Int))))] ?_
  refine N_cut [(0,vs (some b) lN lC),(3,vi d),(4,vi i),(5,vi k),(41,.bool ((decide (k< (f:Int))) && (decide (d<=400))))] ?_ ?_
  ·refine S_then ?_
   by_cases c19:((decide (k< (f:Int))) && (decide (d<=400)))=true
   ·rw[if_pos c19]at h
    refine T_cTz 41 c19<| T_kt<| T_sz<| T_bz 3<| T_rz 11<| T_n 3 [(0,vs (some b) lN lC),(4,vi i),(5,vi k),(44,vi d),(45,vs (some b) lN lC),(46,vi i)] ?_
    obtain⟨q21,h⟩:=h
    refine T_xd (some 47) 47 55 6 b lN lC .i64 i Tryz.underlying47 q21.1 q21.2 [45,46] [(47,vp (some (b.add (Int.toNat i*6))))]<| T_nd 1 [47] [(48,vp (some (b.add (Int.toNat i*6))))] ?_
    obtain⟨o,m,n,q22,h⟩:=h
    refine T_l1 49 50 q22 [48]<| T_nd 1 [] [(50,vi k)] ?_
    obtain⟨j,rfl,q23,h⟩:=h
    refine T_xd (some 51) 50 98 8 j m n .i64 k Tryz.underlying50 q23.1 q23.2 [49,50] [(51,vp (some (j.add (Int.toNat k*8))))]<| T_nd 1 [51] [(52,vp (some ((j.add (Int.toNat k*8)).add 7)))] ?_
    obtain⟨u,l,v,q24,h⟩:=h
    exact T_l1 53 52 q24 [52]<| T_nd 5 [44,53] [(3,vi (zY (d+(zY (1+(zY (Int.tdiv (l:Int) 8)))))))]<| zq<| S_blockEnd<| S_then<| T_rz 10<| T_ed 3 [5] [(5,vi (zY (k+1)))]<| S_round (((zY (d+(zY (1+(zY (Int.tdiv (l:Int) 8)))))),(zY (k+1))):Int×Int) sk h
   rw[if_neg c19]at h
   exact T_cFz 41 (zZ c19)<| zj 2<| S_exitThen<| S_exitThen<| S_exitHere<| S_blockEnd<| S_then<| T_rz 6<| T_ne 3 [(0,vs (some b) lN lC),(3,vi d),(4,vi (zY (i+1)))]<| S_round ((d,(zY (i+1))):Int×Int) sk h
  intro hk
  refine T_nu [(0,vs (some b) lN lC),(3,vi d),(4,vi i),(5,vi k),(38,.bool (decide (k< (f:Int))))] ?_
  by_cases c17:k< (f:Int)
  ·have b18:(decide (k< (f:Int)))=true:=zX c17
   refine N_env [(0,vs (some b) lN lC),(3,vi d),(4,vi i),(5,vi k),(38,.bool true)] (by rw[b18]) ?_
   refine T_nd 3 [38] [(41,.bool (decide (d<=400)))]<| zq<| S_bd 41 (b:=(decide (d<=400))) (v:=((decide (k< (f:Int))) && (decide (d<=400)))) (by simp only[b18,BL]) ?_
   exact hk
  have b18:(decide (k< (f:Int)))=false:=zQ c17
  refine N_env [(0,vs (some b) lN lC),(3,vi d),(4,vi i),(5,vi k),(38,.bool false)] (by rw[b18]) ?_
  refine T_nd 3 [38] [(41,.bool false)]<| zq<| S_bd 41 (b:=false) (v:=((decide (k< (f:Int))) && (decide (d<=400)))) (by simp only[b18,BL]) ?_
  exact hk
 rw[if_neg c6]at h
 exact T_cFz 12 (zQ c6)<| zj 0<| S_exitThen<| S_exitThen<| S_exitHere<| S_then<| T_srz 12<| T_nr 3 [2] [.bool (decide (nv>400))] hQ h
end morainelaw13_many

/-! moraine/morainelaw13.roots -/
namespace morainelaw13_roots
def K0:=Func.code Tryz.f17
def K2:=cb K0
def K4:=cb K2
def K5:=ca K4
def K8:=cb K5
def K9:=ca K8
def K10:=ca K9
def K12:=cb K10
def K17:=ca K12
def K19:=ca K17
def K20:=ca K19
end morainelaw13_roots
def morainelaw13_roots.pt(hv y:zW)(u z:Nat)(p:zW)(r s:Nat)(m:zW)(n o:Nat)(xG q ab:Int)(l:zW)(f g:Nat)(H:zV)(R:zk):Prop:=
 ∀(b:Nat) (H1:zV),b=H.size->H1=H.push (.cells #[.slice y u z,.slice p r s,.slice m n o,.int .i64 xG,.int .i64 q,.int .u32 ab] 55)->
 ∃(af:zW->Nat->Nat->zv) (m11:zW->Nat->Nat->Int->zV->Nat),af none 0 0 0 H1/\ ∀(lB:zW) (lN:Nat) (lC:Nat) (i:Int) (H2:zV),af lB lN lC i H2->
 if i< (f:Int)then(
 ∃j:Addr,hv=some j/\
 ∃x:zW,hat H2 j=some (.pointer x)/\
 ∃d:Addr,l=some d/\
 zw i f/\
 ∃aj:Int,hat H2 (d.add (Int.toNat i*1))=some (.int .u64 aj)/\
 card_Cards_Gen.C x aj H2 (λv H3=> ∃(ra:Int) (rb:Bool),v=.tuple #[.int .i64 ra,.bool rb]/\
 ∃ah:Int,hat H3 ((ad b).add 5)=some (.int .u32 ah)/\
 morainelaw13_kept.C ah i H3 (λao H4=> ∃ag:Bool,ao=.bool ag/\
 if ag=true then(
 zw i f/\
 ∃an:Int,hat H4 (d.add (Int.toNat i*1))=some (.int .u64 an)/\
 ∀(am:Nat) (H5:zV),am=H4.size->H5=H4.push (.cells #[.int .u64 an] 24)->
 appendK 1 24 8 [.int .u64 0] lB lN lC (some (ad am)) 1 H5 (λap ai H6=>
 (af ap (lN+1) ai (zY (i+1)) H6/\m11 ap (lN+1) ai (zY (i+1)) H6<m11 lB lN lC i H2)))
 else
 if rb=true then(
 ∃ae:Int,hat H4 ((ad b).add 3)=some (.int .i64 ae)/\
 if ra>ae then(
 zw i f/\
 ∃ak:Int,hat H4 (d.add (Int.toNat i*1))=some (.int .u64 ak)/\
 ∀(al:Nat) (H7:zV),al=H4.size->H7=H4.push (.cells #[.int .u64 ak] 24)->
 appendK 1 24 8 [.int .u64 0] lB lN lC (some (ad al)) 1 H7 (λac aa H8=>
 (af ac (lN+1) aa (zY (i+1)) H8/\m11 ac (lN+1) aa (zY (i+1)) H8<m11 lB lN lC i H2)))
 else
 (af lB lN lC (zY (i+1)) H4/\m11 lB lN lC (zY (i+1)) H4<m11 lB lN lC i H2))
 else
 (af lB lN lC (zY (i+1)) H4/\m11 lB lN lC (zY (i+1)) H4<m11 lB lN lC i H2))))
 else
 R (.slice lB lN lC) H2
namespace morainelaw13_roots
set_option maxRecDepth 100000 in
theorem link{hv y:zW}{u z:Nat}{p:zW}{r s:Nat}{m:zW}{n o:Nat}{xG q ab:Int}{l:zW}{f g:Nat}{H:zV}{R:zk}(h:pt hv y u z p r s m n o xG q ab l f g H R):C hv y u z p r s m n o xG q ab l f g H R:=by
 refine T_en K0 50 Tryz.func17 ?_
 intro w0 Q hQ
 unfold pt zY at h
 refine T_su [(0,vp hv),(1,.agg #[vs y u z,vs p r s,vs m n o,vi xG,vi q,.int .u32 ab]),(2,vs l f g)]<| T_srz 0<| T_nw (some 4) (λb=>vp (pa b)) (.cells #[vs y u z,vs p r s,vs m n o,vi xG,vi q,.int .u32 ab] 55) ?_
 intro b H1 e1 e2
 replace h:=h b H1 e1 e2
 refine T_pd [1] [(4,vp (pa b))]<| T_ed 1 [] []<| T_srz 1<| T_ed 1 [] [(7,vs none 0 0)]<| T_sz<| T_srz 2<| T_ed 1 [] [(8,vi 0)]<| T_bz 0 ?_
 obtain⟨af,m11,i3,i4⟩:=h
 refine S_loop (x:=K10) (σ:=zW×Nat×Nat×Int) (λs_=> [(0,vp hv),(2,vs l f g),(4,vp (pa b)),(7,vs s_.1 s_.2.1 s_.2.2.1),(8,vi s_.2.2.2)]) (λs_ H=>af s_.1 s_.2.1 s_.2.2.1 s_.2.2.2 H) (λs_ H=>m11 s_.1 s_.2.1 s_.2.2.1 s_.2.2.2 H) ((none,0,0,0):zW×Nat×Nat×Int) (by kernel_rfl) i3 sk ?_
 rintro⟨lB,lN,lC,i⟩ H2 i5
 have h:=i4 lB lN lC i H2 i5
 refine T_su [(0,vp hv),(2,vs l f g),(4,vp (pa b)),(7,vs lB lN lC),(8,vi i)]<| T_sz<| T_srz 3<| T_ed 4 [] [(14,.bool (decide (i< (f:Int))))] ?_
 by_cases c6:i< (f:Int)
 ·rw[if_pos c6]at h
  refine T_cTz 14 (zX c6)<| T_kt<| T_sz<| T_bz 1<| T_sz ?_
  obtain⟨j,rfl,x,q8,d,rfl,q9,aj,q10,h⟩:=h
  refine yY 5 (Code.ops K20) [(8,j,[vp x]),(8,(d.add (Int.toNat i*1)),[vu aj])] 14 (bv 14 0) (show FactsAt _ _ _ from⟨⟨q8,trivial⟩,⟨q10,trivial⟩,trivial⟩)<| T_gp 0 (some 18) (vp (some j)) (bv 14 1) [(0,vp (some j)),(2,vs (some d) f g),(4,vp (pa b)),(7,vs lB lN lC),(8,vi i),(18,vp (some j))]<| T_gp1 1 19 (vp (some j)) (bv 14 3) [18]<| T_gp1 2 20 (vp (some j)) (bv 14 7) [19]<| T_g1 3 21 (vp x) (bv 14 15) [20] (loadN 26 (vp (some j))) (yW 8 yZ)<| T_gp1 4 22 (vs (some d) f g) (bv 14 31) []<| T_gp1 5 23 (vi i) (bv 14 63) []<| T_g1 6 24 (vp (some (d.add (Int.toNat i*1)))) (bv 14 127) [22,23] (indexAtN 27 (vs (some d) f g) (vi i)) (λ_ w _ _ _=>indexAt_run (P:=Tryz.prog) (t:=27) (elem:=24) (sz:=1) (a:=d) (len:=f) (cap:=g) (k:=.i64) (i:=i) Tryz.underlying27 (λ_=>by kernel_rfl) q9.1 q9.2 w)<| T_g1 7 25 (vu aj) (bv 14 255) [24] (loadN 24 (vp (some (d.add (Int.toNat i*1))))) (yW 8 yX)<| yq 8 (some 26) (bv 14 511) 15 #[vp x,vu aj] h ?_;clear h
  rintro v H3 ⟨ra,rb,rfl,h⟩
  refine⟨[(0,vp (some j)),(2,vs (some d) f g),(4,vp (pa b)),(7,vs lB lN lC),(8,vi i),(26,.tuple #[vi ra,.bool rb])],pk,(show FactsAt _ _ _ from⟨trivial,trivial,trivial⟩),?_⟩
  refine T_g 9 (some 17) (.tuple #[vi ra,.bool rb]) (bv 14 1023) [(0,vp (some j)),(2,vs (some d) f g),(4,vp (pa b)),(7,vs lB lN lC),(8,vi i),(17,.tuple #[vi ra,.bool rb])] (pure (.value (.tuple #[vi ra,.bool rb])):Sem Next) (λ_ _ _ _ _=>rfl)<| T_g1 10 27 (vi ra) (bv 14 2047) [] (pure (.value (vi ra)):Sem Next) (λ_ _ _ _ _=>rfl)<| T_g1 11 28 (.bool rb) (bv 14 4095) [17] (pure (.value (.bool rb)):Sem Next) (λ_ _ _ _ _=>rfl)<| T_g1 12 9 (vi ra) (bv 14 8191) [27] (pure (.value (vi ra)):Sem Next) (λ_ _ _ _ _=>rfl)<| T_g1 13 10 (.bool rb) (bv 14 16383) [28] (pure (.value (.bool rb)):Sem Next) (λ_ _ _ _ _=>rfl)<| G_sub [(0,vp (some j)),(2,vs (some d) f g),(4,vp (pa b)),(7,vs lB lN lC),(8,vi i),(9,vi ra),(10,.bool rb)] sk<| yx<| S_then<| T_srz 6<| T_n 1 [(0,vp (some j)),(2,vs (some d) f g),(4,vp (pa b)),(7,vs lB lN lC),(8,vi i),(9,vi ra),(10,.bool rb),(29,vp (some ((ad b).add 5)))] ?_
  obtain⟨ah,q11,h⟩:=h
  refine T_l1 30 53 q11 [29]<| T_nd 1 [] [(31,vi i)]<| T_c (some 32) h ?_;clear h
  rintro ao H4 ⟨ag,rfl,h⟩
  refine T_pd [30,31] [(32,.bool ag)]<| T_nd 1 [32] [(33,.bool ag)] ?_
  by_cases c12:ag=true
  ·rw[if_pos c12]at h
   refine N_bd 33 c12<| T_ed 8 [9,10,33] [(41,.bool true)]<| T_tz 41<| T_rz 7<| T_nd 3 [7,41] [(42,vs lB lN lC),(43,vs (some d) f g),(44,vi i)] ?_
   obtain⟨q14,h⟩:=h
   refine T_xd (some 45) 27 24 1 d f g .i64 i Tryz.underlying27 q14.1 q14.2 [43,44] [(45,vp (some (d.add (Int.toNat i*1))))] ?_
   obtain⟨an,q15,h⟩:=h
   refine T_l1 46 24 q15 [45]<| T_nw (some 47) (λb=>vs (pa b) 1 1) (.cells #[vu an] 24) ?_
   intro am H5 e16 e17
   replace h:=h am H5 e16 e17
   refine T_pd [46] [(47,vs (pa am) 1 1)]<| N_op (some 48) (appendN #[27,27] 27 #[vs lB lN lC,vs (pa am) 1 1]) _ (λ_=>by kernel_rfl) (ss_append (T:=24) (sz:=1) (bytes:=8) (zero:=(vu 0:Value)) Tryz.underlying27 Tryz.underlying27 rfl (show Tryz.prog.info? 24=some Tryz.t24 from by kernel_rfl) (by kernel_rfl) (by kernel_rfl) (by decide) (by kernel_rfl) (by first | exact h | (simpa only[Value.cells,List.toList_toArray]using h))) ?_;clear h
   rintro _ H6 ⟨ap,ai,rfl,h⟩
   exact T_pd [42,47] [(48,vs ap (lN+1) ai)]<| T_nd 1 [48] [(7,vs ap (lN+1) ai)]<| zq<| S_blockEnd<| S_then<| T_rz 4<| T_ed 3 [8] [(8,vi (zY (i+1)))]<| S_round ((ap,(lN+1),ai,(zY (i+1))):zW×Nat×Nat×Int) sk h
  rw[if_neg c12]at h
  refine N_bd 33 (zZ c12)<| T_nd 2 [10] [(35,.bool rb)] ?_
  by_cases c18:rb=true
  ·rw[if_pos c18]at h
   refine N_bd 35 c18<| T_nd 2 [9] [(36,vi ra),(37,vp (some ((ad b).add 3)))] ?_
   obtain⟨ae,q20,h⟩:=h
   refine T_l1 38 3 q20 [37]<| T_ed 3 [33,35,36,38] [(41,.bool (decide (ra>ae)))] ?_
   by_cases c21:ra>ae
   ·rw[if_pos c21]at h
    refine T_cTz 41 (zX c21)<| T_rz 7<| T_nd 3 [7,41] [(42,vs lB lN lC),(43,vs (some d) f g),(44,vi i)] ?_
    obtain⟨q23,h⟩:=h
    refine T_xd (some 45) 27 24 1 d f g .i64 i Tryz.underlying27 q23.1 q23.2 [43,44] [(45,vp (some (d.add (Int.toNat i*1))))] ?_
    obtain⟨ak,q24,h⟩:=h
    refine T_l1 46 24 q24 [45]<| T_nw (some 47) (λb=>vs (pa b) 1 1) (.cells #[vu ak] 24) ?_
    intro al H7 e25 e26
    replace h:=h al H7 e25 e26
    refine T_pd [46] [(47,vs (pa al) 1 1)]<| N_op (some 48) (appendN #[27,27] 27 #[vs lB lN lC,vs (pa al) 1 1]) _ (λ_=>by kernel_rfl) (ss_append (T:=24) (sz:=1) (bytes:=8) (zero:=(vu 0:Value)) Tryz.underlying27 Tryz.underlying27 rfl (show Tryz.prog.info? 24=some Tryz.t24 from by kernel_rfl) (by kernel_rfl) (by kernel_rfl) (by decide) (by kernel_rfl) (by first | exact h | (simpa only[Value.cells,List.toList_toArray]using h))) ?_;clear h
    rintro _ H8 ⟨ac,aa,rfl,h⟩
    exact T_pd [42,47] [(48,vs ac (lN+1) aa)]<| T_nd 1 [48] [(7,vs ac (lN+1) aa)]<| zq<| S_blockEnd<| S_then<| T_rz 4<| T_ed 3 [8] [(8,vi (zY (i+1)))]<| S_round ((ac,(lN+1),aa,(zY (i+1))):zW×Nat×Nat×Int) sk h
   rw[if_neg c21]at h
   exact T_cFz 41 (zQ c21)<| T_k<| S_blockEnd<| S_then<| T_rz 4<| T_ed 3 [8,41] [(8,vi (zY (i+1)))]<| S_round ((lB,lN,lC,(zY (i+1))):zW×Nat×Nat×Int) sk h
  rw[if_neg c18]at h
  refine N_bd 35 (zZ c18)<| T_ed 6 [9,33,35] [(41,.bool false)]<| T_fz 41<| T_k ?_
  exact S_blockEnd<| S_then<| T_rz 4<| T_ed 3 [8,41] [(8,vi (zY (i+1)))]<| S_round ((lB,lN,lC,(zY (i+1))):zW×Nat×Nat×Int) sk h
 rw[if_neg c6]at h
 exact T_cFz 14 (zQ c6)<| zj 0<| S_exitThen<| S_exitThen<| S_exitHere<| S_then<| T_srz 8<| T_nr 2 [6] [vs lB lN lC] hQ h
end morainelaw13_roots

/-! moraine/morainelaw13.pointers -/
namespace morainelaw13_pointers
def K0:=Func.code Tryz.f18
def K2:=cb K0
def K4:=cb K2
def K5:=ca K4
def K8:=cb K5
def K9:=ca K8
def K10:=ca K9
end morainelaw13_pointers
def morainelaw13_pointers.pt(lB:zW)(lN lC:Nat)(H:zV)(R:zk):Prop:=
 ∀(b:Nat) (H1:zV),b=H.size->H1=H.push (.cells #[.pointer none] 33)->
 ∃(l:zW->Nat->Nat->zv) (m11:zW->Nat->Nat->Int->zV->Nat),l (some (ad b)) 1 1 0 H1/\ ∀(d:zW) (outN:Nat) (outC:Nat) (i:Int) (H2:zV),l d outN outC i H2->
 if i< (lN:Int)then(
 ∃f:Addr,lB=some f/\
 zw i lN/\
 ∀(j:Nat) (H3:zV),j=H2.size->H3=H2.push (.cells #[.pointer (some (f.add (Int.toNat i*1)))] 33)->
 appendK 1 33 8 [.pointer none] d outN outC (some (ad j)) 1 H3 (λap g H4=>
 (l ap (outN+1) g (zY (i+1)) H4/\m11 ap (outN+1) g (zY (i+1)) H4<m11 d outN outC i H2)))
 else
 R (.slice d outN outC) H2
namespace morainelaw13_pointers
set_option maxRecDepth 100000 in
theorem link{lB:zW}{lN lC:Nat}{H:zV}{R:zk}(h:pt lB lN lC H R):C lB lN lC H R:=by
 refine T_en K0 19 Tryz.func18 ?_
 intro w0 Q hQ
 unfold pt zY at h
 refine T_su [(0,vs lB lN lC)]<| T_srz 0<| T_ed 1 [] []<| T_srz 1<| T_nw (some 5) (λb=>vs (pa b) 1 1) (.cells #[vp none] 33) ?_
 intro b H1 e1 e2
 replace h:=h b H1 e1 e2
 refine T_pd [] [(5,vs (pa b) 1 1)]<| T_ed 1 [5] [(3,vs (pa b) 1 1)]<| T_sz<| T_srz 2<| T_ed 1 [] [(4,vi 0)]<| T_bz 0 ?_
 obtain⟨l,m11,i3,i4⟩:=h
 refine S_loop (x:=K10) (σ:=zW×Nat×Nat×Int) (λs_=> [(0,vs lB lN lC),(3,vs s_.1 s_.2.1 s_.2.2.1),(4,vi s_.2.2.2)]) (λs_ H=>l s_.1 s_.2.1 s_.2.2.1 s_.2.2.2 H) (λs_ H=>m11 s_.1 s_.2.1 s_.2.2.1 s_.2.2.2 H) (((pa b),1,1,0):zW×Nat×Nat×Int) (by kernel_rfl) i3 sk ?_
 rintro⟨d,outN,outC,i⟩ H2 i5
 have h:=i4 d outN outC i H2 i5
 refine T_su [(0,vs lB lN lC),(3,vs d outN outC),(4,vi i)]<| T_sz<| T_srz 3<| T_ed 4 [] [(9,.bool (decide (i< (lN:Int))))] ?_
 by_cases c6:i< (lN:Int)
 ·rw[if_pos c6]at h
  refine T_cTz 9 (zX c6)<| T_kt<| T_sz<| T_bz 1<| T_rz 5<| T_nd 3 [3,9] [(12,vs d outN outC),(13,vs lB lN lC),(14,vi i)] ?_
  obtain⟨f,rfl,q8,h⟩:=h
  refine T_xd (some 15) 27 24 1 f lN lC .i64 i Tryz.underlying27 q8.1 q8.2 [0,13,14] [(0,vs (some f) lN lC),(15,vp (some (f.add (Int.toNat i*1))))]<| T_nw (some 16) (λb=>vs (pa b) 1 1) (.cells #[vp (some (f.add (Int.toNat i*1)))] 33) ?_
  intro j H3 e9 e10
  replace h:=h j H3 e9 e10
  refine T_pd [15] [(16,vs (pa j) 1 1)]<| N_op (some 17) (appendN #[57,57] 57 #[vs d outN outC,vs (pa j) 1 1]) _ (λ_=>by kernel_rfl) (ss_append (T:=33) (sz:=1) (bytes:=8) (zero:=(vp none:Value)) Tryz.underlying57 Tryz.underlying57 rfl (show Tryz.prog.info? 33=some Tryz.t33 from by kernel_rfl) (by kernel_rfl) (by kernel_rfl) (by decide) (by kernel_rfl) (by first | exact h | (simpa only[Value.cells,List.toList_toArray]using h))) ?_;clear h
  rintro _ H4 ⟨ap,g,rfl,h⟩
  exact T_pd [12,16] [(17,vs ap (outN+1) g)]<| T_nd 1 [17] [(3,vs ap (outN+1) g)]<| zq<| S_blockEnd<| S_then<| T_rz 4<| T_ed 3 [4] [(4,vi (zY (i+1)))]<| S_round ((ap,(outN+1),g,(zY (i+1))):zW×Nat×Nat×Int) sk h
 rw[if_neg c6]at h
 exact T_cFz 9 (zQ c6)<| zj 0<| S_exitThen<| S_exitThen<| S_exitHere<| S_then<| T_srz 6<| T_nr 2 [2] [vs d outN outC] hQ h
end morainelaw13_pointers

/-! moraine/morainelaw13.begun -/
namespace morainelaw13_begun
def K0:=Func.code Tryz.f16
def K2:=cb K0
def K4:=cb K2
def K6:=cb K4
def K14:=cb K6
def K22:=cb K14
def K23:=ca K22
def K26:=cb K23
def K27:=ca K26
def K28:=ca K27
def K30:=cb K28
def K35:=ca K30
def K37:=ca K35
def K38:=ca K37
def K39:=cb K37
def K41:=cb K38
def K42:=ca K41
def K43:=ca K42
def K54:=cb K39
def K62:=cb K54
def K63:=ca K62
end morainelaw13_begun
def morainelaw13_begun.pt(ac:Int)(lB:zW)(lN lC:Nat)(H:zV)(R:zk):Prop:=
 obj_New.C ac H (λv H1=> ∃(ra:zW) (rb:Int),v=.tuple #[.pointer ra,.int .i64 rb]/\
 if rb=0 then(
 morainelaw13_many.C lB lN lC H1 (λa6 H2=> ∃x:Bool,a6=.bool x/\
 if x=true then(
 R (.tuple #[.pointer none,.slice none 0 0]) H2)
 else
 onPtr ra (
 R (.tuple #[.pointer none,.slice none 0 0]) H2) (λf=>
 ∃(a4:zW->Nat->Nat->zv) (m29:zW->Nat->Nat->Int->zV->Nat),a4 none 0 0 0 H2/\ ∀(m:zW) (madeN:Nat) (madeC:Nat) (i:Int) (H3:zV),a4 m madeN madeC i H3->
 if i< (lN:Int)then(
 ∃(a5:zW->Nat->Nat->zv) (m44:zW->Nat->Nat->Int->zV->Nat),a5 m madeN madeC 0 H3/\ ∀(b:zW) (madeN_2:Nat) (madeC_2:Nat) (k:Int) (H4:zV),a5 b madeN_2 madeC_2 k H4->
 ∃d:Addr,lB=some d/\
 zw i lN/\
 ∃(xB:zW) (xN xC:Nat),hat H4 (d.add (Int.toNat i*6))=some (.slice xB xN xC)/\
 if k< (xN:Int)then(
 zw i lN/\
 ∃(au:zW) (ag an:Nat),hat H4 (d.add (Int.toNat i*6))=some (.slice au ag an)/\
 ∃al:Addr,au=some al/\
 zw k ag/\
 ∃(av ae aq a1 ap ax ao:Int) (az:zW) (aw ay:Nat),RowAt H4 (al.add (Int.toNat k*8)) 0 [.int .i64 av,.int .i64 ae,.int .i64 aq,.int .u64 a1,.int .i64 ap,.int .u64 ax,.int .i64 ao,.slice az aw ay]/\
 morainelaw11_Made.C (some f) av ae aq a1 ap ax ao az aw ay b madeN_2 madeC_2 H4 (λa7 H5=> ∃(ah:zW) (aj ai:Nat),a7=.slice ah aj ai/\
 (a5 ah aj ai (zY (k+1)) H5/\m44 ah aj ai (zY (k+1)) H5<m44 b madeN_2 madeC_2 k H4)))
 else
 if i=(zY ((lN:Int)-1))then(
 R (.tuple #[.pointer (some f),.slice b madeN_2 madeC_2]) H4)
 else
 zw i lN/\
 ∃(y:zW) (aa z:Nat) (s:zW) (q r:Nat) (p:zW) (n o:Nat) (xG u af:Int),RowAt H4 (d.add (Int.toNat i*6)) 0 [.slice y aa z,.slice s q r,.slice p n o,.int .i64 xG,.int .i64 u,.int .u32 af]/\
 morainelaw13_roots.C (some f) y aa z s q r p n o xG u af b madeN_2 madeC_2 H4 (λba H6=> ∃(j:zW) (l g:Nat),ba=.slice j l g/\
 zw i lN/\
 ∃ab:Int,hat H6 ((d.add (Int.toNat i*6)).add 3)=some (.int .i64 ab)/\
 zw i lN/\
 ∃am:Int,hat H6 ((d.add (Int.toNat i*6)).add 4)=some (.int .i64 am)/\
 morainelaw13_pointers.C j l g H6 (λa8 H7=> ∃(a2:zW) (a0 a3:Nat),a8=.slice a2 a0 a3/\RowAt H7 ((d.add (Int.toNat i*6)).add 3) 0 [.int .i64 ab]/\RowAt H7 ((d.add (Int.toNat i*6)).add 4) 0 [.int .i64 am]/\
 gc_Collect.C (some f) ab am a2 a0 a3 H7 (λa9 H8=> ∃ak:Int,a9=.int .i64 ak/\
 if ak=0 then(
 (a4 j l g (zY (i+1)) H8/\m29 j l g (zY (i+1)) H8<m29 m madeN madeC i H3))
 else
 (a4 b madeN_2 madeC_2 (zY (i+1)) H8/\m29 b madeN_2 madeC_2 (zY (i+1)) H8<m29 m madeN madeC i H3)))))
 else
 R (.tuple #[.pointer (some f),.slice m madeN madeC]) H3)))
 else
 R (.tuple #[.pointer none,.slice none 0 0]) H1)
namespace morainelaw13_begun
theorem link{ac:Int}{lB:zW}{lN lC:Nat}{H:zV}{R:zk}(h:pt ac lB lN lC H R):C ac lB lN lC H R:=by
 refine T_en K0 82 Tryz.func16 ?_
 intro w0 Q hQ
 unfold pt zY at h
 refine T_su [(0,vi ac),(1,vs lB lN lC)]<| T_srz 0<| T_ed 2 [] []<| T_srz 1<| T_nd 1 [0] [(13,vi ac)]<| T_c (some 14) h ?_;clear h
 rintro v H1 ⟨ra,rb,rfl,h⟩
 refine T_pd [13] [(14,.tuple #[vp ra,vi rb])]<| T_ed 5 [14] [(6,vp ra),(7,vi rb)]<| T_sz<| T_srz 2<| T_nd 3 [7] [(19,.bool (rb !=0))] ?_
 by_cases c1:rb=0
 ·rw[if_pos c1]at h
  refine N_bd 19 (bne_eq_false_iff_eq.mpr c1)<| T_nd 1 [] [(20,vs lB lN lC)] ?_
  refine T_c (some 21) h ?_;clear h
  rintro a6 H2 ⟨x,rfl,h⟩
  refine T_pd [20] [(21,.bool x)]<| T_ed 1 [19,21] [(22,.bool x)] ?_
  by_cases c3:x=true
  ·rw[if_pos c3]at h
   exact T_cTz 22 c3<| T_srz 3<| T_nr 2 [4,5] [vp none,vs none 0 0] hQ h
  rw[if_neg c3]at h
  refine T_cFz 22 (zZ c3)<| T_kt<| T_sz<| T_srz 4<| T_nd 1 [22] [(23,vp ra)] ?_
  rcases ra with _ | f
  ·rw[onPtr_none]at h
   exact T_ed 1 [6,23] [(6,vp none),(24,.bool true)]<| T_tz 24<| T_srz 5<| T_nr 2 [4,5] [vp none,vs none 0 0] hQ h
  rw[onPtr_some]at h
  refine T_ed 1 [6,23] [(6,vp (some f)),(24,.bool false)]<| T_fz 24<| T_kt<| T_srz 6<| T_ed 1 [24] [(8,vs none 0 0)]<| T_sz<| T_srz 7<| T_ed 1 [] [(9,vi 0)]<| T_bz 0 ?_
  obtain⟨a4,m29,i5,i6⟩:=h
  refine S_loop (x:=K28) (σ:=zW×Nat×Nat×Int) (λs_=> [(1,vs lB lN lC),(6,vp (some f)),(8,vs s_.1 s_.2.1 s_.2.2.1),(9,vi s_.2.2.2)]) (λs_ H=>a4 s_.1 s_.2.1 s_.2.2.1 s_.2.2.2 H) (λs_ H=>m29 s_.1 s_.2.1 s_.2.2.1 s_.2.2.2 H) ((none,0,0,0):zW×Nat×Nat×Int) (by kernel_rfl) i5 sk ?_
  rintro⟨m,madeN,madeC,i⟩ H3 i7
  have h:=i6 m madeN madeC i H3 i7
  refine T_su [(1,vs lB lN lC),(6,vp (some f)),(8,vs m madeN madeC),(9,vi i)]<| T_sz<| T_srz 8<| T_ed 4 [] [(28,.bool (decide (i< (lN:Int))))] ?_
  by_cases c8:i< (lN:Int)
  ·rw[if_pos c8]at h
   refine T_cTz 28 (zX c8)<| T_kt<| T_sz<| T_bz 1<| T_sz<| T_srz 10<| T_ed 1 [28] [(10,vi 0)]<| T_bz 2 ?_
   obtain⟨a5,m44,i10,i11⟩:=h
   refine S_loop (x:=K43) (σ:=zW×Nat×Nat×Int) (λs_=> [(1,vs lB lN lC),(6,vp (some f)),(8,vs s_.1 s_.2.1 s_.2.2.1),(9,vi i),(10,vi s_.2.2.2)]) (λs_ H=>a5 s_.1 s_.2.1 s_.2.2.1 s_.2.2.2 H) (λs_ H=>m44 s_.1 s_.2.1 s_.2.2.1 s_.2.2.2 H) ((m,madeN,madeC,0):zW×Nat×Nat×Int) (by kernel_rfl) i10 sk ?_
   rintro⟨b,madeN_2,madeC_2,k⟩ H4 i12
   have h:=i11 b madeN_2 madeC_2 k H4 i12
   refine T_su [(1,vs lB lN lC),(6,vp (some f)),(8,vs b madeN_2 madeC_2),(9,vi i),(10,vi k)]<| T_sz<| T_srz 11<| T_nd 3 [] [(31,vi k),(32,vs lB lN lC),(33,vi i)] ?_
   obtain⟨d,rfl,q13,h⟩:=h
   refine T_xd (some 34) 47 55 6 d lN lC .i64 i Tryz.underlying47 q13.1 q13.2 [1,32,33] [(1,vs (some d) lN lC),(34,vp (some (d.add (Int.toNat i*6))))]<| T_nd 1 [34] [(35,vp (some (d.add (Int.toNat i*6))))] ?_
   obtain⟨xB,xN,xC,q14,h⟩:=h
   refine T_l1 36 50 q14 [35]<| T_ed 2 [31,36] [(38,.bool (decide (k< (xN:Int))))] ?_
   by_cases c15:k< (xN:Int)
   ·rw[if_pos c15]at h
    refine T_cTz 38 (zX c15)<| T_kt<| T_sz<| T_bz 3<| T_rz 13<| T_nd 3 [38] [(41,vp (some f)),(42,vs (some d) lN lC),(43,vi i)] ?_
    obtain⟨q17,h⟩:=h
    refine T_xd (some 44) 47 55 6 d lN lC .i64 i Tryz.underlying47 q17.1 q17.2 [42,43] [(44,vp (some (d.add (Int.toNat i*6))))]<| T_nd 1 [44] [(45,vp (some (d.add (Int.toNat i*6))))] ?_
    obtain⟨au,ag,an,q18,h⟩:=h
    refine T_l1 46 50 q18 [45]<| T_nd 1 [] [(47,vi k)] ?_
    obtain⟨al,rfl,q19,h⟩:=h
    refine T_xd (some 48) 50 98 8 al ag an .i64 k Tryz.underlying50 q19.1 q19.2 [46,47] [(48,vp (some (al.add (Int.toNat k*8))))] ?_
    obtain⟨av,ae,aq,a1,ap,ax,ao,az,aw,ay,q20,h⟩:=h
    refine T_lr 49 98 q20 [48]<| T_nd 1 [8] [(50,vs b madeN_2 madeC_2)]<| T_c (some 51) h ?_;clear h
    rintro a7 H5 ⟨ah,aj,ai,rfl,h⟩
    exact T_pd [41,49,50] [(51,vs ah aj ai)]<| T_nd 1 [51] [(8,vs ah aj ai)]<| zq<| S_blockEnd<| S_then<| T_rz 12<| T_ed 3 [10] [(10,vi (zY (k+1)))]<| S_round ((ah,aj,ai,(zY (k+1))):zW×Nat×Nat×Int) sk h
   rw[if_neg c15]at h
   refine T_cFz 38 (zQ c15)<| zj 2<| S_exitThen<| S_exitThen<| S_exitHere<| S_then<| T_sz<| T_srz 14<| T_ed 5 [10,38] [(56,.bool (i==(zY ((lN:Int)-1))))] ?_
   by_cases c21:i=(zY ((lN:Int)-1))
   ·rw[if_pos c21]at h
    exact T_cTz 56 (zK c21)<| zj 0<| S_exitThen<| zz<| S_exitThen<| S_exitThen<| S_exitHere<| S_then<| T_srz 18<| T_nr 4 [4,5] [vp (some f),vs b madeN_2 madeC_2] hQ h
   rw[if_neg c21]at h
   refine T_cFz 56 (zJ c21)<| T_kt<| T_srz 15<| T_nd 3 [56] [(57,vp (some f)),(58,vs (some d) lN lC),(59,vi i)] ?_
   obtain⟨q23,h⟩:=h
   refine T_xd (some 60) 47 55 6 d lN lC .i64 i Tryz.underlying47 q23.1 q23.2 [58,59] [(60,vp (some (d.add (Int.toNat i*6))))] ?_
   obtain⟨y,aa,z,s,q,r,p,n,o,xG,u,af,q24,h⟩:=h
   refine T_lr 61 55 q24 [60]<| T_nd 1 [] [(62,vs b madeN_2 madeC_2)]<| T_c (some 63) h ?_;clear h
   rintro ba H6 ⟨j,l,g,rfl,h⟩
   refine T_pd [57,61,62] [(63,vs j l g)]<| T_ed 1 [63] [(11,vs j l g)]<| T_sz ?_
   obtain⟨q25,ab,q26,q27,am,q28,h⟩:=h
   refine yY 16 (Code.ops K63) [(13,((d.add (Int.toNat i*6)).add 3),[vi ab]),(13,((d.add (Int.toNat i*6)).add 4),[vi am])] 15 (bv 15 0) (show FactsAt _ _ _ from⟨⟨q26,trivial⟩,⟨q28,trivial⟩,trivial⟩)<| T_gp 0 (some 64) (vp (some f)) (bv 15 1) [(1,vs (some d) lN lC),(6,vp (some f)),(8,vs b madeN_2 madeC_2),(9,vi i),(11,vs j l g),(64,vp (some f))]<| T_gp1 1 65 (vs (some d) lN lC) (bv 15 3) []<| T_gp1 2 66 (vi i) (bv 15 7) []<| T_g1 3 67 (vp (some (d.add (Int.toNat i*6)))) (bv 15 15) [65,66] (indexAtN 47 (vs (some d) lN lC) (vi i)) (λ_ w _ _ _=>indexAt_run (P:=Tryz.prog) (t:=47) (elem:=55) (sz:=6) (a:=d) (len:=lN) (cap:=lC) (k:=.i64) (i:=i) Tryz.underlying47 (λ_=>by kernel_rfl) q25.1 q25.2 w)<| T_gp1 4 68 (vp (some ((d.add (Int.toNat i*6)).add 3))) (bv 15 31) [67]<| T_g1 5 69 (vi ab) (bv 15 63) [68] (loadN 3 (vp (some ((d.add (Int.toNat i*6)).add 3)))) (yW 13 yZ)<| T_gp1 6 70 (vs (some d) lN lC) (bv 15 127) []<| T_gp1 7 71 (vi i) (bv 15 255) []<| T_g1 8 72 (vp (some (d.add (Int.toNat i*6)))) (bv 15 511) [70,71] (indexAtN 47 (vs (some d) lN lC) (vi i)) (λ_ w _ _ _=>indexAt_run (P:=Tryz.prog) (t:=47) (elem:=55) (sz:=6) (a:=d) (len:=lN) (cap:=lC) (k:=.i64) (i:=i) Tryz.underlying47 (λ_=>by kernel_rfl) q27.1 q27.2 w)<| T_gp1 9 73 (vp (some ((d.add (Int.toNat i*6)).add 4))) (bv 15 1023) [72]<| T_g1 10 74 (vi am) (bv 15 2047) [73] (loadN 3 (vp (some ((d.add (Int.toNat i*6)).add 4)))) (yW 13 yX)<| T_gp1 11 75 (vs j l g) (bv 15 4095) []<| yq 12 (some 76) (bv 15 8191) 18 #[vs j l g] h ?_;clear h
   rintro a8 H7 ⟨a2,a0,a3,rfl,f29,f30,h⟩
   refine⟨[(1,vs (some d) lN lC),(6,vp (some f)),(8,vs b madeN_2 madeC_2),(9,vi i),(11,vs j l g),(64,vp (some f)),(69,vi ab),(74,vi am),(76,vs a2 a0 a3)],pk,(show FactsAt _ _ _ from⟨f29,f30,trivial⟩),?_⟩
   refine yq 13 (some 77) (bv 15 16383) 9 #[vp (some f),vi ab,vi am,vs a2 a0 a3] h ?_;clear h
   rintro a9 H8 ⟨ak,rfl,h⟩
   refine⟨[(1,vs (some d) lN lC),(6,vp (some f)),(8,vs b madeN_2 madeC_2),(9,vi i),(11,vs j l g),(77,vi ak)],pk,(show FactsAt _ _ _ from⟨trivial,trivial,trivial⟩),?_⟩
   refine T_g 14 (some 78) (.bool (ak==0)) (bv 15 32767) [(1,vs (some d) lN lC),(6,vp (some f)),(8,vs b madeN_2 madeC_2),(9,vi i),(11,vs j l g),(78,.bool (ak==0))] (pure (.value (.bool (ak==0))):Sem Next) (λ_ _ _ _ _=>rfl)<| G_sub [(1,vs (some d) lN lC),(6,vp (some f)),(8,vs b madeN_2 madeC_2),(9,vi i),(11,vs j l g),(78,.bool (ak==0))] sk<| yx<| S_then ?_
   by_cases c31:ak=0
   ·rw[if_pos c31]at h
    exact T_cTz 78 (zK c31)<| T_rz 17<| T_n 2 [(1,vs (some d) lN lC),(6,vp (some f)),(8,vs j l g),(9,vi i)]<| zq<| S_blockEnd<| S_then<| T_rz 9<| T_ed 3 [9] [(9,vi (zY (i+1)))]<| S_round ((j,l,g,(zY (i+1))):zW×Nat×Nat×Int) sk h
   rw[if_neg c31]at h
   exact T_cFz 78 (zJ c31)<| T_k<| S_blockEnd<| S_then<| T_rz 9<| T_ne 3 [(1,vs (some d) lN lC),(6,vp (some f)),(8,vs b madeN_2 madeC_2),(9,vi (zY (i+1)))]<| S_round ((b,madeN_2,madeC_2,(zY (i+1))):zW×Nat×Nat×Int) sk h
  rw[if_neg c8]at h
  exact T_cFz 28 (zQ c8)<| zj 0<| S_exitThen<| S_exitThen<| S_exitHere<| S_then<| T_srz 18<| T_nr 4 [4,5] [vp (some f),vs m madeN madeC] hQ h
 rw[if_neg c1]at h
 exact N_bd 19 (bne_iff_ne.mpr c1)<| T_ed 3 [19] [(22,.bool true)]<| T_tz 22<| T_srz 3<| T_nr 2 [4,5] [vp none,vs none 0 0] hQ h
end morainelaw13_begun

/-! moraine/morainelaw13.awake -/
namespace morainelaw13_awake
def K0:=Func.code Tryz.f14
def K2:=cb K0
def K4:=cb K2
def K6:=cb K4
def K14:=cb K6
def K15:=ca K14
def K16:=cb K14
def K18:=cb K15
def K19:=ca K18
def K20:=ca K19
def K30:=ca K16
def K33:=cb K30
def K34:=ca K33
def K35:=ca K34
end morainelaw13_awake
def morainelaw13_awake.pt(H:zV)(R:zk):Prop:=
 obj_New.C 200 H (λv H1=> ∃(ra:zW) (rb:Int),v=.tuple #[.pointer ra,.int .i64 rb]/\
 if rb=0 then(
 onPtr ra (
 R (.bool false) H1) (λa=>
 ∀(b:Nat) (H2:zV),b=H1.size->H2=H1.push (.cells #[.int .u64 0] 24)->
 (CanPuts H2 (ad b) 0 1)/\ ∀H3,H3=hputs H2 (ad b) [.int .u64 20] 0->
 ∃(aa:zv) (m21:Int->zV->Nat),aa 0 H3/\ ∀(i:Int) (H4:zV),aa i H4->
 if i<3 then(
 ∃x:Int,hat H4 (ad b)=some (.int .u64 x)/\
 obj_Heap_Cons.C (some a) 8 x H4 (λam H5=> ∃l ai:Int,am=.tuple #[.int .u64 l,.int .i64 ai]/\
 (CanPuts H5 (ad b) 0 1)/\ ∀H6,H6=hputs H5 (ad b) [.int .u64 l] 0->
 (aa (zY (i+1)) H6/\m21 (zY (i+1)) H6<m21 i H4)))
 else
 ∃(ac:zv) (m36:Int->zV->Nat),ac 0 H4/\ ∀(g:Int) (H7:zV),ac g H7->
 if g<100 then(
 ∃y:Int,hat H7 (ad b)=some (.int .u64 y)/\
 obj_Heap_Cons.C (some a) 8 y H7 (λan H8=> ∃ak al:Int,an=.tuple #[.int .u64 ak,.int .i64 al]/\
 (ac (zY (g+1)) H8/\m36 (zY (g+1)) H8<m36 g H7)))
 else
 ∀(t:Nat) (H9:zV),t=H7.size->H9=H7.push (.cells #[.pointer (some (ad b))] 33)->
 gc_Collect.C (some a) 0 1 (some (ad t)) 1 1 H9 (λav aj=> ∃j:Int,av=.int .i64 j/\
 ∃z:Int,hat aj (ad b)=some (.int .u64 z)/\
 obj_Heap_Car.C (some a) z aj (λao s=> ∃f d:Int,ao=.tuple #[.int .u64 f,.int .i64 d]/\
 if j=0 then(
 ∃af:zW,hat s a=some (.pointer af)/\
 ∃ah:Addr,af=some ah/\
 ∃p:zW,hat s ah=some (.pointer p)/\
 ∀(r:Nat) (H12:zV),r=s.size->H12=s.push (.cells #[.int .i64 0] 3)->
 space_Space_Words.C p (some (ad r)) 1 1 H12 (λap u=> ∃n:Int,ap=.int .i64 n/\
 if n=0 then(
 ∃ag:zW,hat u a=some (.pointer ag)/\
 ∃ab:Addr,ag=some ab/\
 ∃o:zW,hat u ab=some (.pointer o)/\
 ∀(q:Nat) (H14:zV),q=u.size->H14=u.push (.cells #[.int .i64 1] 3)->
 space_Space_Words.C o (some (ad q)) 1 1 H14 (λaq ae=> ∃k:Int,aq=.int .i64 k/\
 if k=6 then(
 if f=8 then(
 if d=0 then(
 gc_Collect.C (some a) 4 4 none 0 0 ae (λaw au=> ∃m:Int,aw=.int .i64 m/\
 R (.bool (m==1)) au))
 else
 R (.bool false) ae)
 else
 R (.bool false) ae)
 else
 R (.bool false) ae))
 else
 R (.bool false) u))
 else
 R (.bool false) s))))
 else
 R (.bool false) H1)
namespace morainelaw13_awake
set_option maxRecDepth 100000 in
theorem link{H:zV}{R:zk}(h:pt H R):C H R:=by
 refine T_en K0 84 Tryz.func14 ?_
 intro w0 Q hQ
 unfold pt zY at h
 refine T_su []<| T_srz 0<| T_ne 1 []<| T_srz 1<| T_c (some 10) h ?_;clear h
 rintro v H1 ⟨ra,rb,rfl,h⟩
 refine⟨[(10,.tuple #[vp ra,vi rb])],pk,?_⟩
 refine T_ne 5 [(1,vp ra),(2,vi rb)]<| T_sz<| T_srz 2<| T_nd 3 [2] [(15,.bool (rb !=0))] ?_
 by_cases c1:rb=0
 ·rw[if_pos c1]at h
  refine N_bd 15 (bne_eq_false_iff_eq.mpr c1)<| T_nd 1 [] [(16,vp ra)] ?_
  rcases ra with _ | a
  ·rw[onPtr_none]at h
   exact T_ne 2 [(1,vp none),(18,.bool true)]<| T_tz 18<| T_srz 3<| T_nr 1 [0] [.bool false] hQ h
  rw[onPtr_some]at h
  refine T_ne 2 [(1,vp (some a)),(18,.bool false)]<| T_fz 18<| T_kt<| T_srz 4<| T_ud [18] []<| T_nw (some 3) (λb=>vp (pa b)) (.cells #[vu 0] 24) ?_
  intro b H2 e3 e4
  replace h:=h b H2 e3 e4
  refine T_pd [] [(3,vp (pa b))] ?_
  obtain⟨q6,h⟩:=h
  refine T_st1 24 (vu 20) q6 ?_
  intro H3 e5
  replace h:=h H3 e5
  refine T_pd [] []<| T_e<| T_sz<| T_srz 5<| T_ed 1 [] [(4,vi 0)]<| T_bz 0 ?_
  obtain⟨aa,m21,i7,i8⟩:=h
  refine S_loop (x:=K20) (σ:=Int) (λs_=> [(1,vp (some a)),(3,vp (pa b)),(4,vi s_)]) (λs_ H=>aa s_ H) (λs_ H=>m21 s_ H) (0:Int) (by kernel_rfl) i7 sk ?_
  rintro i H4 i9
  have h:=i8 i H4 i9
  refine T_su [(1,vp (some a)),(3,vp (pa b)),(4,vi i)]<| T_sz<| T_srz 6<| T_ed 2 [] [(20,.bool (decide (i<3)))] ?_
  by_cases c10:i<3
  ·rw[if_pos c10]at h
   refine T_cTz 20 (zX c10)<| T_kt<| T_sz<| T_bz 1<| T_rz 8<| T_nd 1 [20] [(24,vp (some a))] ?_
   obtain⟨x,q12,h⟩:=h
   refine T_l1 25 24 q12 []<| T_c (some 26) h ?_;clear h
   rintro am H5 ⟨l,ai,rfl,h⟩
   refine T_pd [24,25] [(26,.tuple #[vu l,vi ai])]<| T_nd 3 [26] [(27,vu l)] ?_
   obtain⟨q14,h⟩:=h
   refine T_st1 24 (vu l) q14 ?_
   intro H6 e13
   replace h:=h H6 e13
   exact T_pd [27] []<| zq<| S_blockEnd<| S_then<| T_rz 7<| T_ed 3 [4] [(4,vi (zY (i+1)))]<| S_round ((zY (i+1)):Int) sk h
  rw[if_neg c10]at h
  refine T_cFz 20 (zQ c10)<| zj 0<| S_exitThen<| S_exitThen<| S_exitHere<| S_then<| T_sz<| T_srz 9<| T_ed 1 [4,20] [(5,vi 0)]<| T_bz 2 ?_
  obtain⟨ac,m36,i15,i16⟩:=h
  refine S_loop (x:=K35) (σ:=Int) (λs_=> [(1,vp (some a)),(3,vp (pa b)),(5,vi s_)]) (λs_ H=>ac s_ H) (λs_ H=>m36 s_ H) (0:Int) (by kernel_rfl) i15 sk ?_
  rintro g H7 i17
  have h:=i16 g H7 i17
  refine T_su [(1,vp (some a)),(3,vp (pa b)),(5,vi g)]<| T_sz<| T_srz 10<| T_ed 2 [] [(30,.bool (decide (g<100)))] ?_
  by_cases c18:g<100
  ·rw[if_pos c18]at h
   refine T_cTz 30 (zX c18)<| T_kt<| T_sz<| T_bz 3<| T_rz 12<| T_nd 1 [30] [(33,vp (some a))] ?_
   obtain⟨y,q20,h⟩:=h
   refine T_l1 34 24 q20 []<| T_c (some 35) h ?_;clear h
   rintro an H8 ⟨ak,al,rfl,h⟩
   exact T_pd [33,34] []<| zq<| S_blockEnd<| S_then<| T_rz 11<| T_ed 3 [5] [(5,vi (zY (g+1)))]<| S_round ((zY (g+1)):Int) sk h
  rw[if_neg c18]at h
  refine T_cFz 30 (zQ c18)<| zj 2<| S_exitThen<| S_exitThen<| S_exitHere<| S_then<| T_srz 13<| T_nd 1 [5,30] [(36,vp (some a))]<| T_nw (some 37) (λb=>vs (pa b) 1 1) (.cells #[vp (pa b)] 33) ?_
  intro t H9 e21 e22
  replace h:=h t H9 e21 e22
  refine T_pd [] [(37,vs (pa t) 1 1)]<| T_c (some 38) h ?_;clear h
  rintro av aj ⟨j,rfl,h⟩
  refine T_pd [36,37] [(38,vi j)]<| T_ed 1 [38] [(6,vi j)]<| T_srz 14<| T_nd 1 [] [(40,vp (some a))] ?_
  obtain⟨z,q23,h⟩:=h
  refine T_l1 41 24 q23 [3]<| T_c (some 42) h ?_;clear h
  rintro ao s ⟨f,d,rfl,h⟩
  refine T_pd [40,41] [(42,.tuple #[vu f,vi d])]<| T_ed 5 [42] [(7,vu f),(8,vi d)]<| T_srz 15<| T_nd 3 [6] [(47,.bool (j==0))] ?_
  by_cases c24:j=0
  ·rw[if_pos c24]at h
   refine N_bd 47 (zK c24)<| T_nd 3 [] [(50,vp (some a))] ?_
   obtain⟨af,q26,h⟩:=h
   refine T_l1 51 26 q26 [50] ?_
   obtain⟨ah,rfl,h⟩:=h
   refine T_nd 2 [51] [(53,vp (some ah))] ?_
   obtain⟨p,q27,h⟩:=h
   refine T_l1 54 39 q27 [53]<| T_nw (some 55) (λb=>vs (pa b) 1 1) (.cells #[vi 0] 3) ?_
   intro r H12 e28 e29
   replace h:=h r H12 e28 e29
   refine T_pd [] [(55,vs (pa r) 1 1)]<| T_c (some 56) h ?_;clear h
   rintro ap u ⟨n,rfl,h⟩
   refine T_pd [54,55] [(56,vi n)]<| T_nd 3 [47,56] [(59,.bool (n==0))] ?_
   by_cases c30:n=0
   ·rw[if_pos c30]at h
    refine N_bd 59 (zK c30)<| T_nd 3 [] [(62,vp (some a))] ?_
    obtain⟨ag,q32,h⟩:=h
    refine T_l1 63 26 q32 [62] ?_
    obtain⟨ab,rfl,h⟩:=h
    refine T_nd 2 [63] [(65,vp (some ab))] ?_
    obtain⟨o,q33,h⟩:=h
    refine T_l1 66 39 q33 [65]<| T_nw (some 67) (λb=>vs (pa b) 1 1) (.cells #[vi 1] 3) ?_
    intro q H14 e34 e35
    replace h:=h q H14 e34 e35
    refine T_pd [] [(67,vs (pa q) 1 1)]<| T_c (some 68) h ?_;clear h
    rintro aq ae ⟨k,rfl,h⟩
    refine T_pd [66,67] [(68,vi k)]<| T_nd 3 [59,68] [(71,.bool (k==6))] ?_
    by_cases c36:k=6
    ·rw[if_pos c36]at h
     refine N_bd 71 (zK c36)<| T_nd 4 [7,71] [(75,.bool (f==8))] ?_
     by_cases c38:f=8
     ·rw[if_pos c38]at h
      refine N_bd 75 (zK c38)<| T_nd 4 [8,75] [(79,.bool (d==0))] ?_
      by_cases c40:d=0
      ·rw[if_pos c40]at h
       refine N_bd 79 (zK c40)<| T_nd 1 [1] [(80,vp (some a))] ?_
       refine T_c (some 81) h ?_;clear h
       rintro aw au ⟨m,rfl,h⟩
       exact T_pd [80] [(81,vi m)]<| T_nr 3 [0] [.bool (m==1)] hQ h
      rw[if_neg c40]at h
      exact N_bd 79 (zJ c40)<| T_nr 5 [0] [.bool false] hQ h
     rw[if_neg c38]at h
     exact N_bd 75 (zJ c38)<| T_nr 9 [0] [.bool false] hQ h
    rw[if_neg c36]at h
    exact N_bd 71 (zJ c36)<| T_nr 13 [0] [.bool false] hQ h
   rw[if_neg c30]at h
   exact N_bd 59 (zJ c30)<| T_nr 25 [0] [.bool false] hQ h
  rw[if_neg c24]at h
  exact N_bd 47 (zJ c24)<| T_nr 37 [0] [.bool false] hQ h
 rw[if_neg c1]at h
 exact N_bd 15 (bne_iff_ne.mpr c1)<| T_ed 3 [15] [(18,.bool true)]<| T_tz 18<| T_srz 3<| T_nr 1 [0] [.bool false] hQ h
end morainelaw13_awake

/-! (*moraine/morainelaw13.walk).of -/
namespace morainelaw13_walk_of
def K0:=Func.code Tryz.f46
def K2:=cb K0
def K3:=ca K2
def K6:=cb K3
def K7:=ca K6
def K10:=cb K7
end morainelaw13_walk_of
def morainelaw13_walk_of.pt(x:zW)(wv:Int)(H:zV)(R:zk):Prop:=
 ∃J:Bool->zV->Prop,(
 ∃a:Addr,x=some a/\
 ∃l:zW,hat H a=some (.pointer l)/\
 obj_Heap_Size.C l wv H (λv H6=> ∃j:Int,v=.int .i64 j/\
 if j>0 then(
 ∃s:Option Nat,hat H6 (a.add 2)=some (.map s)/\
 ∃ab:Nat,s=some ab/\
 ∃(ae:Array MapEntry) (cl_5:Nat) (ks_4:List (Int×Value)),H6[ab]?=some (.map ae cl_5)/\Ents (intKey .u64) ae.toList ks_4/\
 ∃g:Int,(mget ks_4 wv).getD (.int .i64 0)=.int .i64 g/\
 J (g==0) H6)
 else
 J false H6))/\ ∀(i:Bool) (H1:zV),J i H1->
 if i=true then(
 ∃xA:Addr,x=some xA/\
 ∃(xB:zW) (xN xC:Nat),hat H1 (xA.add 1)=some (.slice xB xN xC)/\
 ∀(b:Nat) (H2:zV),b=H1.size->H2=H1.push (.cells #[.int .u64 wv] 24)->
 appendK 1 24 8 [.int .u64 0] xB xN xC (some (ad b)) 1 H2 (λap o H3=>
 (CanPuts H3 (xA.add 1) 0 1)/\ ∀H4,H4=hputs H3 (xA.add 1) [.slice ap (xN+1) o] 0->
 ∃f:Option Nat,hat H4 (xA.add 2)=some (.map f)/\
 ∃(n:zW) (d m:Nat),hat H4 (xA.add 1)=some (.slice n d m)/\
 ∃mr:Nat,f=some mr/\
 ∃(es:Array MapEntry) (cl:Nat) (ks:List (Int×Value)),H4[mr]?=some (.map es cl)/\Ents (intKey .u64) es.toList ks/\
 ∀(y:Array MapEntry) (cl_2:Nat) (H5:zV),H5=setBlk H4 mr (.map y cl_2)->Ents (intKey .u64) y.toList (mput ks wv (.int .i64 (d:Int)))->
 ∃t:Option Nat,hat H5 (xA.add 2)=some (.map t)/\
 ∃ac:Nat,t=some ac/\
 ∃(af:Array MapEntry) (cl_3:Nat) (ks_2:List (Int×Value)),H5[ac]?=some (.map af cl_3)/\Ents (intKey .u64) af.toList ks_2/\
 ∃q:Int,(mget ks_2 wv).getD (.int .i64 0)=.int .i64 q/\
 R (.int .i64 q) H5))
 else
 ∃p:Addr,x=some p/\
 ∃u:Option Nat,hat H1 (p.add 2)=some (.map u)/\
 ∃aa:Nat,u=some aa/\
 ∃(ag:Array MapEntry) (cl_4:Nat) (ks_3:List (Int×Value)),H1[aa]?=some (.map ag cl_4)/\Ents (intKey .u64) ag.toList ks_3/\
 ∃r:Int,(mget ks_3 wv).getD (.int .i64 0)=.int .i64 r/\
 R (.int .i64 r) H1
namespace morainelaw13_walk_of
set_option maxRecDepth 100000 in
theorem link{x:zW}{wv:Int}{H:zV}{R:zk}(h:pt x wv H R):C x wv H R:=by
 refine T_en K0 47 Tryz.func46 ?_
 intro w0 Q hQ
 unfold pt at h
 refine T_su [(0,vp x),(1,vu wv)]<| T_srz 0<| T_ne 1 [(0,vp x),(1,vu wv)]<| T_sz<| T_sz ?_
 obtain⟨J,h,j2⟩:=h
 refine S_join (σ:=Bool) (λs_=> [(0,vp x),(1,vu wv),(20,.bool s_)]) (λs_ H=>J s_ H) ?_ ?_
 ·rintro i H1 j3
  replace h:=j2 i H1 j3
  refine T_su [(0,vp x),(1,vu wv),(20,.bool i)]<| S_then ?_
  by_cases c4:i=true
  ·rw[if_pos c4]at h
   have b5:i=true:=c4
   refine S_env [(0,vp x),(1,vu wv),(20,.bool true)] (by rw[b5]) ?_
   clear b5
   refine T_tz 20<| T_srz 2<| T_nd 2 [20] [(21,vp x),(22,vp x)] ?_
   obtain⟨xA,rfl,h⟩:=h
   refine T_n 2 [(0,vp (some xA)),(1,vu wv),(21,vp (some xA)),(24,vp (some (xA.add 1)))] ?_
   obtain⟨xB,xN,xC,q6,h⟩:=h
   refine T_l1 25 27 q6 [24]<| T_nd 1 [] [(26,vu wv)]<| T_nw (some 27) (λb=>vs (pa b) 1 1) (.cells #[vu wv] 24) ?_
   intro b H2 e7 e8
   replace h:=h b H2 e7 e8
   refine T_pd [26] [(27,vs (pa b) 1 1)]<| N_op (some 28) (appendN #[27,27] 27 #[vs xB xN xC,vs (pa b) 1 1]) _ (λ_=>by kernel_rfl) (ss_append (T:=24) (sz:=1) (bytes:=8) (zero:=(vu 0:Value)) Tryz.underlying27 Tryz.underlying27 rfl (show Tryz.prog.info? 24=some Tryz.t24 from by kernel_rfl) (by kernel_rfl) (by kernel_rfl) (by decide) (by kernel_rfl) (by first | exact h | (simpa only[Value.cells,List.toList_toArray]using h))) ?_;clear h
   rintro _ H3 ⟨ap,o,rfl,h⟩
   refine T_pd [25,27] [(28,vs ap (xN+1) o)]<| T_nd 2 [21] [(30,vp (some (xA.add 1)))] ?_
   obtain⟨q10,h⟩:=h
   refine T_st1 27 (vs ap (xN+1) o) q10 ?_
   intro H4 e9
   replace h:=h H4 e9
   refine T_pd [28,30] []<| T_e ?_
   obtain⟨f,q11,n,d,m,q12,h⟩:=h
   refine yY 3 (Code.ops K10) [(10,(xA.add 2),[.map f]),(10,(xA.add 1),[vs n d m])] 11 (bv 11 0) (show FactsAt _ _ _ from⟨⟨q11,trivial⟩,⟨q12,trivial⟩,trivial⟩)<| T_gp 0 (some 31) (vp (some xA)) (bv 11 1) [(0,vp (some xA)),(1,vu wv),(31,vp (some xA))]<| T_gp1 1 32 (vp (some xA)) (bv 11 3) [31]<| T_gp1 2 33 (vp (some (xA.add 2))) (bv 11 7) [32]<| T_g1 3 34 (.map f) (bv 11 15) [33] (loadN 61 (vp (some (xA.add 2)))) (yW 10 yZ)<| T_gp1 4 35 (vu wv) (bv 11 31) []<| T_gp1 5 36 (vp (some xA)) (bv 11 63) []<| T_gp1 6 37 (vp (some xA)) (bv 11 127) [36]<| T_gp1 7 38 (vp (some (xA.add 1))) (bv 11 255) [37]<| T_g1 8 39 (vs n d m) (bv 11 511) [38] (loadN 27 (vp (some (xA.add 1)))) (yW 10 yX)<| T_gp1 9 40 (vi d) (bv 11 1023) [39] ?_
   obtain⟨mr,rfl,es,cl,ks,q13,q14,h⟩:=h
   refine G_onlyskip 10 none (bv 11 2047) (mapPutN 61 (.map (some mr)) (vu wv) (vi d)) (λHz=> ∃es2 cl2,Hz=setBlk H4 mr (.map es2 cl2)/\Ents (intKey .u64) es2.toList (mput ks wv (vi d))) (by kernel_rfl) (λ_=>by kernel_rfl) (λw hw=>by obtain⟨es2,cl2,q1,q2⟩:=mapPut_run (kk:=(intKey .u64)) (P:=Tryz.prog) (w:=w) (k:=wv) (v:=vi d) Tryz.underlying61 Tryz.underlying24 (by rw[hw];exact q13) q14;exact⟨_,q1,⟨rfl,rfl,rfl,Nat.le_refl _⟩,es2,cl2,by rw[<-hw],q2⟩) (by kernel_rfl) ?_
   rintro H5 ⟨y,cl_2,e16,e17⟩
   replace h:=h y cl_2 H5 e16 e17
   refine⟨[(0,vp (some xA)),(1,vu wv)],pk,(show FactsAt _ _ _ from⟨trivial,trivial,trivial⟩),?_⟩
   refine G_sub [(0,vp (some xA)),(1,vu wv)] sk ?_
   refine yx<| S_then<| T_srz 4<| T_n 3 [(1,vu wv),(43,vp (some (xA.add 2)))] ?_
   obtain⟨t,q18,h⟩:=h
   refine T_l1 44 61 q18 [43]<| T_nd 1 [1] [(45,vu wv)] ?_
   obtain⟨ac,rfl,af,cl_3,ks_2,q19,q20,q,e22,h⟩:=h
   exact T_v1 46 (lookupN 61 (.map (some ac)) (vu wv) false) (vi q) (λw hw=>(lookup_run (kk:=(intKey .u64)) (z:=vi 0) Tryz.underlying61 Tryz.underlying24 (λ_=>by kernel_rfl) (by rw[hw];exact q19) q20 false).trans (by simp only[if_true,Bool.false_eq_true,if_false,e22])) [44,45]<| T_nr 1 [4] [vi q] hQ h
  rw[if_neg c4]at h
  have b5:i=false:=zZ c4
  refine S_env [(0,vp x),(1,vu wv),(20,.bool false)] (by rw[b5]) ?_
  clear b5
  refine T_fz 20<| T_kt<| T_srz 4<| T_nd 1 [0,20] [(41,vp x)] ?_
  obtain⟨p,rfl,h⟩:=h
  refine T_nd 2 [41] [(43,vp (some (p.add 2)))] ?_
  obtain⟨u,q24,h⟩:=h
  refine T_l1 44 61 q24 [43]<| T_nd 1 [1] [(45,vu wv)] ?_
  obtain⟨aa,rfl,ag,cl_4,ks_3,q25,q26,r,e28,h⟩:=h
  exact T_v1 46 (lookupN 61 (.map (some aa)) (vu wv) false) (vi r) (λw hw=>(lookup_run (kk:=(intKey .u64)) (z:=vi 0) Tryz.underlying61 Tryz.underlying24 (λ_=>by kernel_rfl) (by rw[hw];exact q25) q26 false).trans (by simp only[if_true,Bool.false_eq_true,if_false,e28])) [44,45]<| T_nr 1 [4] [vi r] hQ h
 refine T_rz 1<| T_n 1 [(0,vp x),(1,vu wv),(5,vp x)] ?_
 obtain⟨a,rfl,h⟩:=h
 refine T_nd 2 [0,5] [(0,vp (some a)),(7,vp (some a))] ?_
 obtain⟨l,q30,h⟩:=h
 refine T_l1 8 22 q30 [7]<| T_nd 1 [] [(9,vu wv)]<| T_c (some 10) h ?_;clear h
 rintro v H6 ⟨j,rfl,h⟩
 refine T_pd [8,9] [(10,vi j)]<| T_nd 2 [10] [(12,.bool (decide (j>0)))] ?_
 by_cases c31:j>0
 ·rw[if_pos c31]at h
  refine N_bd 12 (zX c31)<| T_nd 3 [] [(15,vp (some (a.add 2)))] ?_
  obtain⟨s,q33,h⟩:=h
  refine T_l1 16 61 q33 [15]<| T_nd 1 [] [(17,vu wv)] ?_
  obtain⟨ab,rfl,ae,cl_5,ks_4,q34,q35,g,e37,h⟩:=h
  exact T_v1 18 (lookupN 61 (.map (some ab)) (vu wv) false) (vi g) (λw hw=>(lookup_run (kk:=(intKey .u64)) (z:=vi 0) Tryz.underlying61 Tryz.underlying24 (λ_=>by kernel_rfl) (by rw[hw];exact q34) q35 false).trans (by simp only[if_true,Bool.false_eq_true,if_false,e37])) [16,17]<| T_ed 2 [12,18] [(20,.bool (g==0))]<| S_meet ((g==0):Bool) sk h
 rw[if_neg c31]at h
 refine N_bd 12 (zQ c31)<| T_ed 8 [12] [(20,.bool false)] ?_
 exact S_meet (false:Bool) sk h
end morainelaw13_walk_of

/-! moraine/morainelaw13.raw -/
namespace morainelaw13_raw
def K0:=Func.code Tryz.f47
end morainelaw13_raw
def morainelaw13_raw.pt(hv:zW)(wv:Int)(H:zV)(R:zk):Prop:=
 obj_Heap_Type.C hv wv H (λv H1=> ∃x:Int,v=.int .i64 x/\
 if x=2 then(
 R (.bool true) H1)
 else
 obj_Heap_Type.C hv wv H1 (λb H2=> ∃a:Int,b=.int .i64 a/\
 R (.bool (a==3)) H2))
namespace morainelaw13_raw
set_option maxRecDepth 100000 in
theorem link{hv:zW}{wv:Int}{H:zV}{R:zk}(h:pt hv wv H R):C hv wv H R:=by
 refine T_en K0 15 Tryz.func47 ?_
 intro w0 Q hQ
 unfold pt at h
 refine T_su [(0,vp hv),(1,vu wv)]<| T_srz 0<| T_ed 1 [] []<| T_srz 1<| T_nd 2 [] [(5,vp hv),(6,vu wv)]<| T_c (some 7) h ?_;clear h
 rintro v H1 ⟨x,rfl,h⟩
 refine T_pd [5,6] [(7,vi x)]<| T_nd 2 [7] [(9,.bool (x==2))] ?_
 by_cases c1:x=2
 ·rw[if_pos c1]at h
  exact N_bd 9 (zK c1)<| T_nr 6 [4] [.bool true] hQ h
 rw[if_neg c1]at h
 refine N_bd 9 (zJ c1)<| T_nd 2 [0,1] [(10,vp hv),(11,vu wv)] ?_
 refine T_c (some 12) h ?_;clear h
 rintro b H2 ⟨a,rfl,h⟩
 exact T_pd [10,11] [(12,vi a)]<| T_nr 3 [4] [.bool (a==3)] hQ h
end morainelaw13_raw

/-! moraine/morainelaw13.picture -/
namespace morainelaw13_picture
def K0:=Func.code Tryz.f19
def K2:=cb K0
def K4:=cb K2
def K6:=cb K4
def K8:=cb K6
def K9:=ca K8
def K10:=cb K8
def K12:=cb K9
def K13:=ca K12
def K14:=ca K13
def K16:=cb K14
def K21:=ca K16
def K23:=ca K21
def K25:=cb K10
def K26:=ca K25
def K29:=cb K26
def K30:=ca K29
def K31:=ca K30
def K33:=cb K31
def K38:=ca K33
def K40:=ca K38
def K42:=cb K40
def K44:=cb K42
def K45:=ca K44
def K48:=cb K45
def K49:=ca K48
def K50:=ca K49
end morainelaw13_picture
def morainelaw13_picture.pt(hv r:zW)(o p:Nat)(g:Int)(d:Bool)(H:zV)(R:zk):Prop:=
 morainelaw13_strong.C hv r o p g H (λv H1=> ∃(de:zW) (dg df:Nat) (rb:Option Nat),v=.tuple #[.slice de dg df,.map rb]/\
 ∀(b:Nat) (H2:zV),b=H1.size->H2=H1.push (.map #[] 0)->
 ∀(j:Nat) (H3:zV),j=H2.size->H3=H2.push (.cells #[.pointer hv,.slice none 0 0,.map (some b)] 102)->
 ∀(u:Nat) (H4:zV),u=H3.size->H4=H3.push (.cells #[.int .u64 0,.slice none 0 0,.slice none 0 0] 104)->
 (CanPuts H4 (ad u) 0 3)/\ ∀H5,H5=hputs H4 (ad u) [.int .u64 0,.slice none 0 0,.slice none 0 0] 0->
 ∃(cu:zv) (m15:Int->zV->Nat),cu 0 H5/\ ∀(i:Int) (H6:zV),cu i H6->
 if i< (o:Int)then(
 ∃(xB:zW) (xN xC:Nat),hat H6 ((ad u).add 2)=some (.slice xB xN xC)/\
 ∃q:Addr,r=some q/\
 zw i o/\
 ∃x:Int,hat H6 (q.add (Int.toNat i*1))=some (.int .u64 x)/\
 morainelaw13_walk_of.C (some (ad j)) x H6 (λdh H7=> ∃c1:Int,dh=.int .i64 c1/\RowAt H7 ((ad u).add 2) 0 [.slice xB xN xC]/\
 ∀(cn:Nat) (H8:zV),cn=H7.size->H8=H7.push (.cells #[.int .i64 c1] 3)->RowAt H8 ((ad u).add 2) 0 [.slice xB xN xC]/\
 appendK 1 3 8 [.int .i64 0] xB xN xC (some (ad cn)) 1 H8 (λap cg H9=>
 (CanPuts H9 ((ad u).add 2) 0 1)/\ ∀c2,c2=hputs H9 ((ad u).add 2) [.slice ap (xN+1) cg] 0->
 (cu (zY (i+1)) c2/\m15 (zY (i+1)) c2<m15 i H6))))
 else
 ∃(b3:Int) (ao:zW) (am an:Nat) (b0:zW) (bx b1:Nat),RowAt H6 (ad u) 0 [.int .u64 b3,.slice ao am an,.slice b0 bx b1]/\
 ∀(b8:Nat) (H11:zV),b8=H6.size->H11=H6.push (.cells #[.int .u64 b3,.slice ao am an,.slice b0 bx b1] 104)->
 ∃(ct:zW->Nat->Nat->zv) (m32:zW->Nat->Nat->Int->zV->Nat),ct (some (ad b8)) 1 1 0 H11/\ ∀(f:zW) (outN:Nat) (outC:Nat) (i_2:Int) (H12:zV),ct f outN outC i_2 H12->
 ∃(cq:zW) (az cp:Nat),hat H12 ((ad j).add 1)=some (.slice cq az cp)/\
 if i_2< (az:Int)then(
 ∃(bu:zW) (bd bp:Nat),hat H12 ((ad j).add 1)=some (.slice bu bd bp)/\
 ∃a5:Addr,bu=some a5/\
 zw i_2 bd/\
 ∃m:Int,hat H12 (a5.add (Int.toNat i_2*1))=some (.int .u64 m)/\
 ∀(l:Nat) (H13:zV),l=H12.size->H13=H12.push (.cells #[.int .u64 0,.slice none 0 0,.slice none 0 0] 104)->
 (CanPuts H13 (ad l) 0 3)/\ ∀c6,c6=hputs H13 (ad l) [.int .u64 (iand .u64 m 7),.slice none 0 0,.slice none 0 0] 0->
 ∃(cc:zv) (m51:Int->zV->Nat),cc 0 c6/\ ∀(nv:Int) (H15:zV),cc nv H15->
 obj_Heap_Size.C hv m H15 (λdj b6=> ∃b7:Int,dj=.int .i64 b7/\
 if nv<b7 then(
 ∃n:Addr,hv=some n/\
 ∃cr:zW,hat b6 n=some (.pointer cr)/\
 ∃cs:Addr,cr=some cs/\
 ∃cw:zW,hat b6 cs=some (.pointer cw)/\
 ∃c0:Addr,cw=some c0/\
 ∃b9:zW,hat b6 c0=some (.pointer b9)/\
 seg_Mem_Read.C b9 (zY ((zY (ishr .u64 m 3))+nv)) b6 (λdi dd=> ∃ra c4:Int,di=.tuple #[.int .u64 ra,.int .i64 c4]/\
 ∃ce:zW,hat dd n=some (.pointer ce)/\
 card_Cards_Gen.C ce ra dd (λdl b5=> ∃(aa:Int) (ab:Bool),dl=.tuple #[.int .i64 aa,.bool ab]/\
 ∃J:Bool->zV->Prop,(
 if(iand .u64 m 7)=2 then(
 if nv=0 then(
 if d=true then(
 if ab=true then(
 if aa<=g then(
 ∃mr:Nat,rb=some mr/\
 ∃(es:Array MapEntry) (cl:Nat) (ks:List (Int×Value)),b5[mr]?=some (.map es cl)/\Ents (intKey .u64) es.toList ks/\
 ∃bs:Int,(mget ks ra).getD (.int .i64 0)=.int .i64 bs/\
 J (bs==0) b5)
 else
 J false b5)
 else
 J false b5)
 else
 J false b5)
 else
 J false b5)
 else
 J false b5)/\ ∀(bj:Bool) (H19:zV),J bj H19->
 ∃cx:zv,(
 if bj=true then(
 cx 44 H19)
 else
 cx ra H19)/\ ∀(y:Int) (H20:zV),cx y H20->
 morainelaw13_raw.C (some n) m H20 (λdk cz=> ∃bk:Bool,dk=.bool bk/\
 if bk=true then(
 ∃(bf:zW) (ah a8:Nat),hat cz ((ad l).add 1)=some (.slice bf ah a8)/\
 ∀(co:Nat) (H22:zV),co=cz.size->H22=cz.push (.cells #[.int .u64 y] 24)->
 appendK 1 24 8 [.int .u64 0] bf ah a8 (some (ad co)) 1 H22 (λbr a3 c8=>
 (CanPuts c8 ((ad l).add 1) 0 1)/\ ∀cj,cj=hputs c8 ((ad l).add 1) [.slice br (ah+1) a3] 0->
 ∃(bb:zW) (ai bg:Nat),hat cj ((ad l).add 2)=some (.slice bb ai bg)/\
 ∀(cm:Nat) (H25:zV),cm=cj.size->H25=cj.push (.cells #[.int .i64 0] 3)->
 appendK 1 3 8 [.int .i64 0] bb ai bg (some (ad cm)) 1 H25 (λbt ay c5=>
 (CanPuts c5 ((ad l).add 2) 0 1)/\ ∀cy,cy=hputs c5 ((ad l).add 2) [.slice bt (ai+1) ay] 0->
 (cc (zY (nv+1)) cy/\m51 (zY (nv+1)) cy<m51 nv H15))))
 else
 morainelaw13_walk_of.C (some (ad j)) y cz (λdm cd=> ∃s:Int,dm=.int .i64 s/\
 if s>0 then(
 ∃(ba:zW) (ag a9:Nat),hat cd ((ad l).add 1)=some (.slice ba ag a9)/\
 ∀(ch:Nat) (H29:zV),ch=cd.size->H29=cd.push (.cells #[.int .u64 0] 24)->
 appendK 1 24 8 [.int .u64 0] ba ag a9 (some (ad ch)) 1 H29 (λbm a2 c9=>
 (CanPuts c9 ((ad l).add 1) 0 1)/\ ∀ci,ci=hputs c9 ((ad l).add 1) [.slice bm (ag+1) a2] 0->
 ∃(a7:zW) (aj be:Nat),hat ci ((ad l).add 2)=some (.slice a7 aj be)/\
 ∀(bw:Nat) (H32:zV),bw=ci.size->H32=ci.push (.cells #[.int .i64 s] 3)->
 appendK 1 3 8 [.int .i64 0] a7 aj be (some (ad bw)) 1 H32 (λbl ax da=>
 (CanPuts da ((ad l).add 2) 0 1)/\ ∀c3,c3=hputs da ((ad l).add 2) [.slice bl (aj+1) ax] 0->
 (cc (zY (nv+1)) c3/\m51 (zY (nv+1)) c3<m51 nv H15))))
 else
 ∃(bh:zW) (al bi:Nat),hat cd ((ad l).add 1)=some (.slice bh al bi)/\
 ∀(b2:Nat) (H35:zV),b2=cd.size->H35=cd.push (.cells #[.int .u64 y] 24)->
 appendK 1 24 8 [.int .u64 0] bh al bi (some (ad b2)) 1 H35 (λbq a0 c7=>
 (CanPuts c7 ((ad l).add 1) 0 1)/\ ∀ck,ck=hputs c7 ((ad l).add 1) [.slice bq (al+1) a0] 0->
 ∃(bc:zW) (ak a6:Nat),hat ck ((ad l).add 2)=some (.slice bc ak a6)/\
 ∀(b4:Nat) (H38:zV),b4=ck.size->H38=ck.push (.cells #[.int .i64 s] 3)->
 appendK 1 3 8 [.int .i64 0] bc ak a6 (some (ad b4)) 1 H38 (λbo a1 db=>
 (CanPuts db ((ad l).add 2) 0 1)/\ ∀cv,cv=hputs db ((ad l).add 2) [.slice bo (ak+1) a1] 0->
 (cc (zY (nv+1)) cv/\m51 (zY (nv+1)) cv<m51 nv H15))))))))
 else
 ∃(au:Int) (ae:zW) (ac af:Nat) (aq:zW) (av aw:Nat),RowAt b6 (ad l) 0 [.int .u64 au,.slice ae ac af,.slice aq av aw]/\
 ∀(bz:Nat) (H41:zV),bz=b6.size->H41=b6.push (.cells #[.int .u64 au,.slice ae ac af,.slice aq av aw] 104)->
 appendK 3 104 56 [.int .u64 0,.slice none 0 0,.slice none 0 0] f outN outC (some (ad bz)) 1 H41 (λbn a4 dc=>
 (ct bn (outN+1) a4 (zY (i_2+1)) dc/\m32 bn (outN+1) a4 (zY (i_2+1)) dc<m32 f outN outC i_2 H12))))
 else
 R (.slice f outN outC) H12)
namespace morainelaw13_picture
theorem link{hv r:zW}{o p:Nat}{g:Int}{d:Bool}{H:zV}{R:zk}(h:pt hv r o p g d H R):C hv r o p g d H R:=by
 refine T_en K0 159 Tryz.func19 ?_
 intro w0 Q hQ
 unfold pt zY at h
 refine T_su [(0,vp hv),(1,vs r o p),(2,vi g),(3,.bool d)]<| T_srz 0<| T_ed 1 [] []<| T_srz 1<| T_nd 3 [] [(25,vp hv),(26,vs r o p),(27,vi g)]<| T_c (some 28) h ?_;clear h
 rintro v H1 ⟨de,dg,df,rb,rfl,h⟩
 refine T_pd [25,26,27] [(28,.tuple #[vs de dg df,.map rb])]<| T_ed 5 [28] [(10,.map rb)]<| T_srz 2<| T_nd 1 [] [(31,vp hv)]<| T_nw (some 32) (λb=> .map (some b)) (.map #[] 0) ?_
 intro b H2 e1 e2
 replace h:=h b H2 e1 e2
 refine T_pd [] [(32,.map (some b))]<| T_nd 1 [31,32] [(33,.agg #[vp hv,vs none 0 0,.map (some b)])]<| T_nw (some 34) (λb=>vp (pa b)) (.cells #[vp hv,vs none 0 0,.map (some b)] 102) ?_
 intro j H3 e3 e4
 replace h:=h j H3 e3 e4
 refine T_pd [33] [(34,vp (pa j))]<| T_ed 1 [34] [(11,vp (pa j))]<| T_srz 3<| T_nd 1 [] [(35,.agg #[vu 0,vs none 0 0,vs none 0 0])]<| T_nw (some 12) (λb=>vp (pa b)) (.cells #[vu 0,vs none 0 0,vs none 0 0] 104) ?_
 intro u H4 e5 e6
 replace h:=h u H4 e5 e6
 refine T_pd [] [(12,vp (pa u))] ?_
 obtain⟨q8,h⟩:=h
 refine T_sta 104 [vu 0,vs none 0 0,vs none 0 0] q8 ?_
 intro H5 e7
 replace h:=h H5 e7
 refine T_pd [35] []<| T_e<| T_sz<| T_srz 4<| T_ed 1 [] [(13,vi 0)]<| T_bz 0 ?_
 obtain⟨cu,m15,i9,i10⟩:=h
 refine S_loop (x:=K14) (σ:=Int) (λs_=> [(0,vp hv),(1,vs r o p),(2,vi g),(3,.bool d),(10,.map rb),(11,vp (pa j)),(12,vp (pa u)),(13,vi s_)]) (λs_ H=>cu s_ H) (λs_ H=>m15 s_ H) (0:Int) (by kernel_rfl) i9 sk ?_
 rintro i H6 i11
 have h:=i10 i H6 i11
 refine T_su [(0,vp hv),(1,vs r o p),(2,vi g),(3,.bool d),(10,.map rb),(11,vp (pa j)),(12,vp (pa u)),(13,vi i)]<| T_sz<| T_srz 5<| T_ed 4 [] [(39,.bool (decide (i< (o:Int))))] ?_
 by_cases c12:i< (o:Int)
 ·rw[if_pos c12]at h
  refine T_cTz 39 (zX c12)<| T_kt<| T_sz<| T_bz 1 ?_
  obtain⟨xB,xN,xC,q14,q,rfl,q15,x,q16,h⟩:=h
  refine yY 7 (Code.ops K23) [(9,((ad u).add 2),[vs xB xN xC]),(7,(q.add (Int.toNat i*1)),[vu x])] 12 (bv 12 0) (show FactsAt _ _ _ from⟨⟨q14,trivial⟩,⟨q16,trivial⟩,trivial⟩)<| T_gp 0 (some 42) (vp (some ((ad u).add 2))) (bv 12 1) [(0,vp hv),(1,vs (some q) o p),(2,vi g),(3,.bool d),(10,.map rb),(11,vp (pa j)),(12,vp (pa u)),(13,vi i),(42,vp (some ((ad u).add 2)))]<| T_g1 1 43 (vs xB xN xC) (bv 12 3) [42] (loadN 67 (vp (some ((ad u).add 2)))) (yW 9 yZ)<| T_gp1 2 44 (vp (pa j)) (bv 12 7) []<| T_gp1 3 45 (vs (some q) o p) (bv 12 15) []<| T_gp1 4 46 (vi i) (bv 12 31) []<| T_g1 5 47 (vp (some (q.add (Int.toNat i*1)))) (bv 12 63) [45,46] (indexAtN 27 (vs (some q) o p) (vi i)) (λ_ w _ _ _=>indexAt_run (P:=Tryz.prog) (t:=27) (elem:=24) (sz:=1) (a:=q) (len:=o) (cap:=p) (k:=.i64) (i:=i) Tryz.underlying27 (λ_=>by kernel_rfl) q15.1 q15.2 w)<| T_g1 6 48 (vu x) (bv 12 127) [47] (loadN 24 (vp (some (q.add (Int.toNat i*1))))) (yW 7 yX)<| yq 7 (some 49) (bv 12 255) 46 #[vp (pa j),vu x] h ?_;clear h
  rintro dh H7 ⟨c1,rfl,f17,h⟩
  refine⟨[(0,vp hv),(1,vs (some q) o p),(2,vi g),(3,.bool d),(10,.map rb),(11,vp (pa j)),(12,vp (pa u)),(13,vi i),(43,vs xB xN xC),(49,vi c1)],pk,(show FactsAt _ _ _ from⟨f17,trivial,trivial⟩),?_⟩
  refine G_new 8 (some 50) (bv 12 511) (λb=>vs (pa b) 1 1) (.cells #[vi c1] 3) (by kernel_rfl) (λ_=>by kernel_rfl) (by kernel_rfl) ?_
  intro cn H8 e19 e20
  replace h:=h cn H8 e19 e20
  obtain⟨f18,h⟩:=h
  refine⟨[(0,vp hv),(1,vs (some q) o p),(2,vi g),(3,.bool d),(10,.map rb),(11,vp (pa j)),(12,vp (pa u)),(13,vi i),(43,vs xB xN xC),(50,vs (pa cn) 1 1)],pk,(show FactsAt _ _ _ from⟨f18,trivial,trivial⟩),?_⟩
  refine G_only 9 (some 51) (bv 12 1023) (appendN #[67,67] 67 #[vs xB xN xC,vs (pa cn) 1 1]) _ (by kernel_rfl) (λ_=>by kernel_rfl) (ss_append (T:=3) (sz:=1) (bytes:=8) (zero:=(vi 0:Value)) Tryz.underlying67 Tryz.underlying67 rfl (show Tryz.prog.info? 3=some Tryz.t3 from by kernel_rfl) (by kernel_rfl) (by kernel_rfl) (by decide) (by kernel_rfl) (by first | exact h | (simpa only[Value.cells,List.toList_toArray]using h))) (by kernel_rfl) ?_;clear h
  rintro _ H9 ⟨ap,cg,rfl,h⟩
  refine⟨[(0,vp hv),(1,vs (some q) o p),(2,vi g),(3,.bool d),(10,.map rb),(11,vp (pa j)),(12,vp (pa u)),(13,vi i),(51,vs ap (xN+1) cg)],pk,(show FactsAt _ _ _ from⟨trivial,trivial,trivial⟩),?_⟩
  refine T_g 10 (some 52) (vp (some ((ad u).add 2))) (bv 12 2047) [(0,vp hv),(1,vs (some q) o p),(2,vi g),(3,.bool d),(10,.map rb),(11,vp (pa j)),(12,vp (pa u)),(13,vi i),(51,vs ap (xN+1) cg),(52,vp (some ((ad u).add 2)))] (pure (.value (vp (some ((ad u).add 2)))):Sem Next) (λ_ _ _ _ _=>rfl) ?_
  obtain⟨q22,h⟩:=h
  refine G_onlyskip 11 none (bv 12 4095) (storeN 67 (vp (some ((ad u).add 2))) (vs ap (xN+1) cg)) (λHz=>Hz=hputs H9 ((ad u).add 2) [vs ap (xN+1) cg] 0) (by kernel_rfl) (λ_=>by kernel_rfl) (ss_store [vs ap (xN+1) cg] 1 (by kernel_rfl) (by kernel_rfl) (λ_=>by kernel_rfl) (by kernel_rfl) q22) (by kernel_rfl) ?_
  intro c2 e21
  replace h:=h c2 e21
  refine⟨[(0,vp hv),(1,vs (some q) o p),(2,vi g),(3,.bool d),(10,.map rb),(11,vp (pa j)),(12,vp (pa u)),(13,vi i)],pk,(show FactsAt _ _ _ from⟨trivial,trivial,trivial⟩),?_⟩
  refine G_sub [(0,vp hv),(1,vs (some q) o p),(2,vi g),(3,.bool d),(10,.map rb),(11,vp (pa j)),(12,vp (pa u)),(13,vi i)] sk ?_
  exact yx<| S_blockEnd<| S_then<| T_rz 6<| T_ne 3 [(0,vp hv),(1,vs (some q) o p),(2,vi g),(3,.bool d),(10,.map rb),(11,vp (pa j)),(12,vp (pa u)),(13,vi (zY (i+1)))]<| S_round ((zY (i+1)):Int) sk h
 rw[if_neg c12]at h
 refine T_cFz 39 (zQ c12)<| zj 0<| S_exitThen<| S_exitThen<| S_exitHere<| S_then<| T_srz 8<| T_ud [1,13,39] [] ?_
 obtain⟨b3,ao,am,an,b0,bx,b1,q23,h⟩:=h
 refine T_lr 53 104 q23 [12]<| T_nw (some 54) (λb=>vs (pa b) 1 1) (.cells #[vu b3,vs ao am an,vs b0 bx b1] 104) ?_
 intro b8 H11 e24 e25
 replace h:=h b8 H11 e24 e25
 refine T_pd [53] [(54,vs (pa b8) 1 1)]<| T_ed 1 [54] [(14,vs (pa b8) 1 1)]<| T_sz<| T_srz 9<| T_ed 1 [] [(15,vi 0)]<| T_bz 2 ?_
 obtain⟨ct,m32,i26,i27⟩:=h
 refine S_loop (x:=K31) (σ:=zW×Nat×Nat×Int) (λs_=> [(0,vp hv),(2,vi g),(3,.bool d),(10,.map rb),(11,vp (pa j)),(14,vs s_.1 s_.2.1 s_.2.2.1),(15,vi s_.2.2.2)]) (λs_ H=>ct s_.1 s_.2.1 s_.2.2.1 s_.2.2.2 H) (λs_ H=>m32 s_.1 s_.2.1 s_.2.2.1 s_.2.2.2 H) (((pa b8),1,1,0):zW×Nat×Nat×Int) (by kernel_rfl) i26 sk ?_
 rintro⟨f,outN,outC,i_2⟩ H12 i28
 have h:=i27 f outN outC i_2 H12 i28
 refine T_su [(0,vp hv),(2,vi g),(3,.bool d),(10,.map rb),(11,vp (pa j)),(14,vs f outN outC),(15,vi i_2)]<| T_sz<| T_srz 10<| T_nd 4 [] [(55,vi i_2),(58,vp (some ((ad j).add 1)))] ?_
 obtain⟨cq,az,cp,q29,h⟩:=h
 refine T_l1 59 27 q29 [58]<| T_ed 2 [55,59] [(61,.bool (decide (i_2< (az:Int))))] ?_
 by_cases c30:i_2< (az:Int)
 ·rw[if_pos c30]at h
  refine T_cTz 61 (zX c30)<| T_kt<| T_sz<| T_bz 3<| T_srz 12<| T_nd 3 [61] [(66,vp (some ((ad j).add 1)))] ?_
  obtain⟨bu,bd,bp,q32,h⟩:=h
  refine T_l1 67 27 q32 [66]<| T_nd 1 [] [(68,vi i_2)] ?_
  obtain⟨a5,rfl,q33,h⟩:=h
  refine T_xd (some 69) 27 24 1 a5 bd bp .i64 i_2 Tryz.underlying27 q33.1 q33.2 [67,68] [(69,vp (some (a5.add (Int.toNat i_2*1))))] ?_
  obtain⟨m,q34,h⟩:=h
  refine T_l1 70 24 q34 [69]<| T_ed 1 [70] [(16,vu m)]<| T_srz 13<| T_nd 3 [] [(73,.agg #[vu (iand .u64 m 7),vs none 0 0,vs none 0 0])]<| T_nw (some 17) (λb=>vp (pa b)) (.cells #[vu 0,vs none 0 0,vs none 0 0] 104) ?_
  intro l H13 e35 e36
  replace h:=h l H13 e35 e36
  refine T_pd [] [(17,vp (pa l))] ?_
  obtain⟨q38,h⟩:=h
  refine T_sta 104 [vu (iand .u64 m 7),vs none 0 0,vs none 0 0] q38 ?_
  intro c6 e37
  replace h:=h c6 e37
  refine T_pd [73] []<| T_e<| T_sz<| T_srz 14<| T_ed 1 [] [(18,vi 0)]<| T_bz 4 ?_
  obtain⟨cc,m51,i39,i40⟩:=h
  refine S_loop (x:=K50) (σ:=Int) (λs_=> [(0,vp hv),(2,vi g),(3,.bool d),(10,.map rb),(11,vp (pa j)),(14,vs f outN outC),(15,vi i_2),(16,vu m),(17,vp (pa l)),(18,vi s_)]) (λs_ H=>cc s_ H) (λs_ H=>m51 s_ H) (0:Int) (by kernel_rfl) i39 sk ?_
  rintro nv H15 i41
  have h:=i40 nv H15 i41
  refine T_su [(0,vp hv),(2,vi g),(3,.bool d),(10,.map rb),(11,vp (pa j)),(14,vs f outN outC),(15,vi i_2),(16,vu m),(17,vp (pa l)),(18,vi nv)]<| T_sz<| T_srz 15<| T_nd 3 [] [(74,vi nv),(75,vp hv),(76,vu m)]<| T_c (some 77) h ?_;clear h
  rintro dj b6 ⟨b7,rfl,h⟩
  refine T_pd [75,76] [(77,vi b7)]<| T_ed 1 [74,77] [(78,.bool (decide (nv<b7)))] ?_
  by_cases c42:nv<b7
  ·rw[if_pos c42]at h
   refine T_cTz 78 (zX c42)<| T_kt<| T_sz<| T_bz 5<| T_srz 17<| T_nd 1 [78] [(82,vp hv)] ?_
   obtain⟨n,rfl,h⟩:=h
   refine T_nd 2 [0,82] [(0,vp (some n)),(84,vp (some n))] ?_
   obtain⟨cr,q44,h⟩:=h
   refine T_l1 85 26 q44 [84] ?_
   obtain⟨cs,rfl,h⟩:=h
   refine T_nd 2 [85] [(87,vp (some cs))] ?_
   obtain⟨cw,q45,h⟩:=h
   refine T_l1 88 39 q45 [87] ?_
   obtain⟨c0,rfl,h⟩:=h
   refine T_nd 2 [88] [(90,vp (some c0))] ?_
   obtain⟨b9,q46,h⟩:=h
   refine T_l1 91 69 q46 [90]<| T_nd 5 [] [(96,vi (zY ((zY (ishr .u64 m 3))+nv)))]<| T_c (some 97) h ?_;clear h
   rintro di dd ⟨ra,c4,rfl,h⟩
   refine T_pd [91,96] [(97,.tuple #[vu ra,vi c4])]<| T_ed 5 [97] [(19,vu ra)]<| T_sz<| T_srz 18<| T_nd 3 [] [(103,vp (some n))] ?_
   obtain⟨ce,q47,h⟩:=h
   refine T_l1 104 26 q47 [103]<| T_nd 1 [] [(105,vu ra)]<| T_c (some 106) h ?_;clear h
   rintro dl b5 ⟨aa,ab,rfl,h⟩
   refine T_pd [104,105] [(106,.tuple #[vi aa,.bool ab])]<| T_ne 5 [(0,vp (some n)),(2,vi g),(3,.bool d),(10,.map rb),(11,vp (pa j)),(14,vs f outN outC),(15,vi i_2),(16,vu m),(17,vp (pa l)),(18,vi nv),(19,vu ra),(21,vi aa),(22,.bool ab)]<| T_sz ?_
   obtain⟨J,h,j49⟩:=h
   refine S_join (σ:=Bool) (λs_=> [(0,vp (some n)),(2,vi g),(3,.bool d),(10,.map rb),(11,vp (pa j)),(14,vs f outN outC),(15,vi i_2),(16,vu m),(17,vp (pa l)),(18,vi nv),(19,vu ra),(132,.bool s_)]) (λs_ H=>J s_ H) ?_ ?_
   ·rintro bj H19 j50
    replace h:=j49 bj H19 j50
    refine T_su [(0,vp (some n)),(2,vi g),(3,.bool d),(10,.map rb),(11,vp (pa j)),(14,vs f outN outC),(15,vi i_2),(16,vu m),(17,vp (pa l)),(18,vi nv),(19,vu ra),(132,.bool bj)]<| S_then ?_
    obtain⟨cx,h,j52⟩:=h
    refine S_join (σ:=Int) (λs_=> [(0,vp (some n)),(2,vi g),(3,.bool d),(10,.map rb),(11,vp (pa j)),(14,vs f outN outC),(15,vi i_2),(16,vu m),(17,vp (pa l)),(18,vi nv),(19,vu s_)]) (λs_ H=>cx s_ H) ?_ ?_
    ·rintro y H20 j53
     replace h:=j52 y H20 j53
     refine T_su [(0,vp (some n)),(2,vi g),(3,.bool d),(10,.map rb),(11,vp (pa j)),(14,vs f outN outC),(15,vi i_2),(16,vu m),(17,vp (pa l)),(18,vi nv),(19,vu y)]<| S_then<| T_srz 21<| T_ed 1 [] [(23,vi 0)]<| T_sz<| T_srz 22<| T_nd 2 [] [(133,vp (some n)),(134,vu m)]<| T_c (some 135) h ?_;clear h
     rintro dk cz ⟨bk,rfl,h⟩
     refine T_pd [133,134] [(135,.bool bk)]<| T_ed 1 [135] [(136,.bool (!bk))] ?_
     by_cases c54:bk=true
     ·rw[if_pos c54]at h
      refine T_cFz 136 (congrArg Bool.not (c54))<| T_kt<| T_sz<| T_srz 24<| T_ed 2 [136] [(141,.bool false)]<| T_fz 141<| T_kt<| T_srz 26<| T_nd 1 [141] [(142,vp (some ((ad l).add 1)))] ?_
      obtain⟨bf,ah,a8,q56,h⟩:=h
      refine T_l1 143 27 q56 [142]<| T_nd 1 [19] [(144,vu y)]<| T_nw (some 145) (λb=>vs (pa b) 1 1) (.cells #[vu y] 24) ?_
      intro co H22 e57 e58
      replace h:=h co H22 e57 e58
      refine T_pd [144] [(145,vs (pa co) 1 1)]<| N_op (some 146) (appendN #[27,27] 27 #[vs bf ah a8,vs (pa co) 1 1]) _ (λ_=>by kernel_rfl) (ss_append (T:=24) (sz:=1) (bytes:=8) (zero:=(vu 0:Value)) Tryz.underlying27 Tryz.underlying27 rfl (show Tryz.prog.info? 24=some Tryz.t24 from by kernel_rfl) (by kernel_rfl) (by kernel_rfl) (by decide) (by kernel_rfl) (by first | exact h | (simpa only[Value.cells,List.toList_toArray]using h))) ?_;clear h
      rintro _ c8 ⟨br,a3,rfl,h⟩
      refine T_pd [143,145] [(146,vs br (ah+1) a3)]<| T_nd 1 [] [(147,vp (some ((ad l).add 1)))] ?_
      obtain⟨q60,h⟩:=h
      refine T_st1 27 (vs br (ah+1) a3) q60 ?_
      intro cj e59
      replace h:=h cj e59
      refine T_pd [146,147] []<| T_e<| T_rz 27<| T_nd 1 [] [(148,vp (some ((ad l).add 2)))] ?_
      obtain⟨bb,ai,bg,q61,h⟩:=h
      refine T_l1 149 67 q61 [148]<| T_nd 1 [23] [(150,vi 0)]<| T_nw (some 151) (λb=>vs (pa b) 1 1) (.cells #[vi 0] 3) ?_
      intro cm H25 e62 e63
      replace h:=h cm H25 e62 e63
      refine T_pd [150] [(151,vs (pa cm) 1 1)]<| N_op (some 152) (appendN #[67,67] 67 #[vs bb ai bg,vs (pa cm) 1 1]) _ (λ_=>by kernel_rfl) (ss_append (T:=3) (sz:=1) (bytes:=8) (zero:=(vi 0:Value)) Tryz.underlying67 Tryz.underlying67 rfl (show Tryz.prog.info? 3=some Tryz.t3 from by kernel_rfl) (by kernel_rfl) (by kernel_rfl) (by decide) (by kernel_rfl) (by first | exact h | (simpa only[Value.cells,List.toList_toArray]using h))) ?_;clear h
      rintro _ c5 ⟨bt,ay,rfl,h⟩
      refine T_pd [149,151] [(152,vs bt (ai+1) ay)]<| T_nd 1 [] [(153,vp (some ((ad l).add 2)))] ?_
      obtain⟨q65,h⟩:=h
      refine T_st1 67 (vs bt (ai+1) ay) q65 ?_
      intro cy e64
      replace h:=h cy e64
      exact T_pd [152,153] []<| zq<| S_blockEnd<| S_then<| T_rz 16<| T_ed 3 [18] [(18,vi (zY (nv+1)))]<| S_round ((zY (nv+1)):Int) sk h
     rw[if_neg c54]at h
     refine T_cTz 136 (congrArg Bool.not (zZ c54))<| T_rz 23<| T_nd 2 [23,136] [(137,vp (pa j)),(138,vu y)]<| T_c (some 139) h ?_;clear h
     rintro dm cd ⟨s,rfl,h⟩
     refine T_pd [137,138] [(139,vi s)]<| T_ed 1 [139] [(23,vi s)]<| T_sz<| T_srz 24<| T_ed 2 [] [(141,.bool (decide (s>0)))] ?_
     by_cases c66:s>0
     ·rw[if_pos c66]at h
      refine T_cTz 141 (zX c66)<| T_rz 25<| T_ed 1 [19,141] [(19,vu 0)]<| T_srz 26<| T_nd 1 [] [(142,vp (some ((ad l).add 1)))] ?_
      obtain⟨ba,ag,a9,q68,h⟩:=h
      refine T_l1 143 27 q68 [142]<| T_nd 1 [19] [(144,vu 0)]<| T_nw (some 145) (λb=>vs (pa b) 1 1) (.cells #[vu 0] 24) ?_
      intro ch H29 e69 e70
      replace h:=h ch H29 e69 e70
      refine T_pd [144] [(145,vs (pa ch) 1 1)]<| N_op (some 146) (appendN #[27,27] 27 #[vs ba ag a9,vs (pa ch) 1 1]) _ (λ_=>by kernel_rfl) (ss_append (T:=24) (sz:=1) (bytes:=8) (zero:=(vu 0:Value)) Tryz.underlying27 Tryz.underlying27 rfl (show Tryz.prog.info? 24=some Tryz.t24 from by kernel_rfl) (by kernel_rfl) (by kernel_rfl) (by decide) (by kernel_rfl) (by first | exact h | (simpa only[Value.cells,List.toList_toArray]using h))) ?_;clear h
      rintro _ c9 ⟨bm,a2,rfl,h⟩
      refine T_pd [143,145] [(146,vs bm (ag+1) a2)]<| T_nd 1 [] [(147,vp (some ((ad l).add 1)))] ?_
      obtain⟨q72,h⟩:=h
      refine T_st1 27 (vs bm (ag+1) a2) q72 ?_
      intro ci e71
      replace h:=h ci e71
      refine T_pd [146,147] []<| T_e<| T_rz 27<| T_nd 1 [] [(148,vp (some ((ad l).add 2)))] ?_
      obtain⟨a7,aj,be,q73,h⟩:=h
      refine T_l1 149 67 q73 [148]<| T_nd 1 [23] [(150,vi s)]<| T_nw (some 151) (λb=>vs (pa b) 1 1) (.cells #[vi s] 3) ?_
      intro bw H32 e74 e75
      replace h:=h bw H32 e74 e75
      refine T_pd [150] [(151,vs (pa bw) 1 1)]<| N_op (some 152) (appendN #[67,67] 67 #[vs a7 aj be,vs (pa bw) 1 1]) _ (λ_=>by kernel_rfl) (ss_append (T:=3) (sz:=1) (bytes:=8) (zero:=(vi 0:Value)) Tryz.underlying67 Tryz.underlying67 rfl (show Tryz.prog.info? 3=some Tryz.t3 from by kernel_rfl) (by kernel_rfl) (by kernel_rfl) (by decide) (by kernel_rfl) (by first | exact h | (simpa only[Value.cells,List.toList_toArray]using h))) ?_;clear h
      rintro _ da ⟨bl,ax,rfl,h⟩
      refine T_pd [149,151] [(152,vs bl (aj+1) ax)]<| T_nd 1 [] [(153,vp (some ((ad l).add 2)))] ?_
      obtain⟨q77,h⟩:=h
      refine T_st1 67 (vs bl (aj+1) ax) q77 ?_
      intro c3 e76
      replace h:=h c3 e76
      exact T_pd [152,153] []<| zq<| S_blockEnd<| S_then<| T_rz 16<| T_ed 3 [18] [(18,vi (zY (nv+1)))]<| S_round ((zY (nv+1)):Int) sk h
     rw[if_neg c66]at h
     refine T_cFz 141 (zQ c66)<| T_kt<| T_srz 26<| T_nd 1 [141] [(142,vp (some ((ad l).add 1)))] ?_
     obtain⟨bh,al,bi,q78,h⟩:=h
     refine T_l1 143 27 q78 [142]<| T_nd 1 [19] [(144,vu y)]<| T_nw (some 145) (λb=>vs (pa b) 1 1) (.cells #[vu y] 24) ?_
     intro b2 H35 e79 e80
     replace h:=h b2 H35 e79 e80
     refine T_pd [144] [(145,vs (pa b2) 1 1)]<| N_op (some 146) (appendN #[27,27] 27 #[vs bh al bi,vs (pa b2) 1 1]) _ (λ_=>by kernel_rfl) (ss_append (T:=24) (sz:=1) (bytes:=8) (zero:=(vu 0:Value)) Tryz.underlying27 Tryz.underlying27 rfl (show Tryz.prog.info? 24=some Tryz.t24 from by kernel_rfl) (by kernel_rfl) (by kernel_rfl) (by decide) (by kernel_rfl) (by first | exact h | (simpa only[Value.cells,List.toList_toArray]using h))) ?_;clear h
     rintro _ c7 ⟨bq,a0,rfl,h⟩
     refine T_pd [143,145] [(146,vs bq (al+1) a0)]<| T_nd 1 [] [(147,vp (some ((ad l).add 1)))] ?_
     obtain⟨q82,h⟩:=h
     refine T_st1 27 (vs bq (al+1) a0) q82 ?_
     intro ck e81
     replace h:=h ck e81
     refine T_pd [146,147] []<| T_e<| T_rz 27<| T_nd 1 [] [(148,vp (some ((ad l).add 2)))] ?_
     obtain⟨bc,ak,a6,q83,h⟩:=h
     refine T_l1 149 67 q83 [148]<| T_nd 1 [23] [(150,vi s)]<| T_nw (some 151) (λb=>vs (pa b) 1 1) (.cells #[vi s] 3) ?_
     intro b4 H38 e84 e85
     replace h:=h b4 H38 e84 e85
     refine T_pd [150] [(151,vs (pa b4) 1 1)]<| N_op (some 152) (appendN #[67,67] 67 #[vs bc ak a6,vs (pa b4) 1 1]) _ (λ_=>by kernel_rfl) (ss_append (T:=3) (sz:=1) (bytes:=8) (zero:=(vi 0:Value)) Tryz.underlying67 Tryz.underlying67 rfl (show Tryz.prog.info? 3=some Tryz.t3 from by kernel_rfl) (by kernel_rfl) (by kernel_rfl) (by decide) (by kernel_rfl) (by first | exact h | (simpa only[Value.cells,List.toList_toArray]using h))) ?_;clear h
     rintro _ db ⟨bo,a1,rfl,h⟩
     refine T_pd [149,151] [(152,vs bo (ak+1) a1)]<| T_nd 1 [] [(153,vp (some ((ad l).add 2)))] ?_
     obtain⟨q87,h⟩:=h
     refine T_st1 67 (vs bo (ak+1) a1) q87 ?_
     intro cv e86
     replace h:=h cv e86
     exact T_pd [152,153] []<| zq<| S_blockEnd<| S_then<| T_rz 16<| T_ed 3 [18] [(18,vi (zY (nv+1)))]<| S_round ((zY (nv+1)):Int) sk h
    by_cases c88:bj=true
    ·rw[if_pos c88]at h
     have b89:bj=true:=c88
     refine S_env [(0,vp (some n)),(2,vi g),(3,.bool d),(10,.map rb),(11,vp (pa j)),(14,vs f outN outC),(15,vi i_2),(16,vu m),(17,vp (pa l)),(18,vi nv),(19,vu ra),(132,.bool true)] (by simp only[b89,Bool.not_true,Bool.not_false]) ?_
     clear b89
     exact T_tz 132<| T_rz 20<| T_ed 1 [19,132] [(19,vu 44)]<| S_meet (44:Int) sk h
    rw[if_neg c88]at h
    have b89:bj=false:=zZ c88
    refine S_env [(0,vp (some n)),(2,vi g),(3,.bool d),(10,.map rb),(11,vp (pa j)),(14,vs f outN outC),(15,vi i_2),(16,vu m),(17,vp (pa l)),(18,vi nv),(19,vu ra),(132,.bool false)] (by simp only[b89,Bool.not_true,Bool.not_false]) ?_
    clear b89
    exact T_fz 132<| T_kt<| S_meet (ra:Int) sk h
   refine T_rz 19<| T_n 4 [(0,vp (some n)),(2,vi g),(3,.bool d),(10,.map rb),(11,vp (pa j)),(14,vs f outN outC),(15,vi i_2),(16,vu m),(17,vp (pa l)),(18,vi nv),(19,vu ra),(21,vi aa),(22,.bool ab),(112,.bool ((iand .u64 m 7)==2))] ?_
   by_cases c90:(iand .u64 m 7)=2
   ·rw[if_pos c90]at h
    have b91:((iand .u64 m 7)==2)=true:=zK c90
    refine N_env [(0,vp (some n)),(2,vi g),(3,.bool d),(10,.map rb),(11,vp (pa j)),(14,vs f outN outC),(15,vi i_2),(16,vu m),(17,vp (pa l)),(18,vi nv),(19,vu ra),(21,vi aa),(22,.bool ab),(112,.bool true)] (by rw[b91]) ?_
    clear b91
    refine T_nd 4 [112] [(116,.bool (nv==0))] ?_
    by_cases c92:nv=0
    ·rw[if_pos c92]at h
     refine N_bd 116 (zK c92)<| T_nd 3 [116] [(119,.bool d)] ?_
     by_cases c94:d=true
     ·rw[if_pos c94]at h
      refine N_bd 119 c94<| T_nd 3 [22,119] [(122,.bool ab)] ?_
      by_cases c96:ab=true
      ·rw[if_pos c96]at h
       refine N_bd 122 c96<| T_nd 5 [21,122] [(127,.bool (decide (aa<=g)))] ?_
       by_cases c98:aa<=g
       ·rw[if_pos c98]at h
        refine N_bd 127 (zX c98)<| T_nd 2 [] [(128,.map rb),(129,vu ra)] ?_
        obtain⟨mr,rfl,es,cl,ks,q100,q101,bs,e103,h⟩:=h
        exact T_vd (some 130) (lookupN 61 (.map (some mr)) (vu ra) false) (vi bs) (λw hw=>(lookup_run (kk:=(intKey .u64)) (z:=vi 0) Tryz.underlying61 Tryz.underlying24 (λ_=>by kernel_rfl) (by rw[hw];exact q100) q101 false).trans (by simp only[if_true,Bool.false_eq_true,if_false,e103])) [10,128,129] [(10,.map (some mr)),(130,vi bs)]<| T_ed 2 [127,130] [(132,.bool (bs==0))]<| S_meet ((bs==0):Bool) sk h
       rw[if_neg c98]at h
       refine N_bd 127 (zQ c98)<| T_ed 5 [127] [(132,.bool false)] ?_
       exact S_meet (false:Bool) sk h
      rw[if_neg c96]at h
      refine N_bd 122 (zZ c96)<| T_ed 10 [21,122] [(132,.bool false)] ?_
      exact S_meet (false:Bool) sk h
     rw[if_neg c94]at h
     refine N_bd 119 (zZ c94)<| T_ed 13 [21,22,119] [(132,.bool false)] ?_
     exact S_meet (false:Bool) sk h
    rw[if_neg c92]at h
    refine N_bd 116 (zJ c92)<| T_ed 16 [21,22,116] [(132,.bool false)] ?_
    exact S_meet (false:Bool) sk h
   rw[if_neg c90]at h
   have b91:((iand .u64 m 7)==2)=false:=zJ c90
   refine N_env [(0,vp (some n)),(2,vi g),(3,.bool d),(10,.map rb),(11,vp (pa j)),(14,vs f outN outC),(15,vi i_2),(16,vu m),(17,vp (pa l)),(18,vi nv),(19,vu ra),(21,vi aa),(22,.bool ab),(112,.bool false)] (by rw[b91]) ?_
   clear b91
   exact T_ed 20 [21,22,112] [(132,.bool false)]<| S_meet (false:Bool) sk h
  rw[if_neg c42]at h
  refine T_cFz 78 (zQ c42)<| zj 4<| S_exitThen<| S_exitThen<| S_exitHere<| S_then<| T_rz 28<| T_nd 1 [14,16,18,78] [(154,vs f outN outC)] ?_
  obtain⟨au,ae,ac,af,aq,av,aw,q105,h⟩:=h
  refine T_lr 155 104 q105 [17]<| T_nw (some 156) (λb=>vs (pa b) 1 1) (.cells #[vu au,vs ae ac af,vs aq av aw] 104) ?_
  intro bz H41 e106 e107
  replace h:=h bz H41 e106 e107
  refine T_pd [155] [(156,vs (pa bz) 1 1)]<| N_op (some 157) (appendN #[59,59] 59 #[vs f outN outC,vs (pa bz) 1 1]) _ (λ_=>by kernel_rfl) (ss_append (T:=104) (sz:=3) (bytes:=56) (zero:=(.agg #[vu 0,vs none 0 0,vs none 0 0]:Value)) Tryz.underlying59 Tryz.underlying59 rfl (show Tryz.prog.info? 104=some Tryz.t104 from by kernel_rfl) (by kernel_rfl) (by kernel_rfl) (by decide) (by kernel_rfl) (by first | exact h | (simpa only[Value.cells,List.toList_toArray]using h))) ?_;clear h
  rintro _ dc ⟨bn,a4,rfl,h⟩
  exact T_pd [154,156] [(157,vs bn (outN+1) a4)]<| T_nd 1 [157] [(14,vs bn (outN+1) a4)]<| zq<| S_blockEnd<| S_then<| T_rz 11<| T_ed 3 [15] [(15,vi (zY (i_2+1)))]<| S_round ((bn,(outN+1),a4,(zY (i_2+1))):zW×Nat×Nat×Int) sk h
 rw[if_neg c30]at h
 exact T_cFz 61 (zQ c30)<| zj 2<| S_exitThen<| S_exitThen<| S_exitHere<| S_then<| T_srz 29<| T_nr 2 [8] [vs f outN outC] hQ h
end morainelaw13_picture

/-! moraine/morainelaw13.alike -/
namespace morainelaw13_alike
def K0:=Func.code Tryz.f22
def K2:=cb K0
def K4:=cb K2
def K9:=ca K4
def K12:=cb K9
def K13:=ca K12
def K14:=ca K13
def K16:=cb K14
def K21:=ca K16
def K23:=ca K21
def K24:=ca K23
def K25:=cb K23
def K26:=ca K24
def K31:=cb K25
def K32:=ca K31
def K33:=ca K32
end morainelaw13_alike
def morainelaw13_alike.pt(aB:zW)(aN aC:Nat)(bB:zW)(bN bC:Nat)(H:zV)(R:zk):Prop:=
 if(aN:Int)=(bN:Int)then(
 ∃(am:zv) (m15:Int->zV->Nat),am 0 H/\ ∀(i:Int) (H1:zV),am i H1->
 if i< (aN:Int)then(
 ∃b:Addr,aB=some b/\
 zw i aN/\
 ∃x:Int,hat H1 (b.add (Int.toNat i*3))=some (.int .u64 x)/\
 ∃d:Addr,bB=some d/\
 zw i bN/\
 ∃j:Int,hat H1 (d.add (Int.toNat i*3))=some (.int .u64 j)/\
 if x=j then(
 zw i aN/\
 ∃(xB:zW) (xN xC:Nat),hat H1 ((b.add (Int.toNat i*3)).add 1)=some (.slice xB xN xC)/\
 zw i bN/\
 ∃(aa:zW) (z y:Nat),hat H1 ((d.add (Int.toNat i*3)).add 1)=some (.slice aa z y)/\
 morainelaw13_words.C xB xN xC aa z y H1 (λv H2=> ∃m:Bool,v=.bool m/\
 if m=true then(
 zw i aN/\
 ∃(ae:zW) (f af:Nat),hat H2 ((b.add (Int.toNat i*3)).add 2)=some (.slice ae f af)/\
 zw i bN/\
 ∃(aj:zW) (g ai:Nat),hat H2 ((d.add (Int.toNat i*3)).add 2)=some (.slice aj g ai)/\
 RowAt H2 ((b.add (Int.toNat i*3)).add 2) 0 [.slice ae f af]/\if(f:Int)=(g:Int)then(
 ∃(an:zv) (m34:Int->zV->Nat),an 0 H2/\ ∀(k:Int) (H3:zV),an k H3->
 zw i aN/\
 ∃(ak:zW) (n al:Nat),hat H3 ((b.add (Int.toNat i*3)).add 2)=some (.slice ak n al)/\
 if k< (n:Int)then(
 zw i aN/\
 ∃(ah:zW) (q ab:Nat),hat H3 ((b.add (Int.toNat i*3)).add 2)=some (.slice ah q ab)/\
 ∃s:Addr,ah=some s/\
 zw k q/\
 ∃l:Int,hat H3 (s.add (Int.toNat k*1))=some (.int .i64 l)/\
 zw i bN/\
 ∃(ag:zW) (o ac:Nat),hat H3 ((d.add (Int.toNat i*3)).add 2)=some (.slice ag o ac)/\
 ∃p:Addr,ag=some p/\
 zw k o/\
 ∃r:Int,hat H3 (p.add (Int.toNat k*1))=some (.int .i64 r)/\
 if l=r then(
 (an (zY (k+1)) H3/\m34 (zY (k+1)) H3<m34 k H3))
 else
 R (.bool false) H3)
 else
 (am (zY (i+1)) H3/\m15 (zY (i+1)) H3<m15 i H1))
 else
 R (.bool false) H2)
 else
 R (.bool false) H2))
 else
 R (.bool false) H1)
 else
 R (.bool true) H1)
 else
 R (.bool false) H
namespace morainelaw13_alike
set_option maxRecDepth 100000 in
theorem link{aB:zW}{aN aC:Nat}{bB:zW}{bN bC:Nat}{H:zV}{R:zk}(h:pt aB aN aC bB bN bC H R):C aB aN aC bB bN bC H R:=by
 refine T_en K0 85 Tryz.func22 ?_
 intro w0 Q hQ
 unfold pt zY at h
 refine T_su [(0,vs aB aN aC),(1,vs bB bN bC)]<| T_srz 0<| T_ed 1 [] []<| T_sz<| T_srz 1<| T_ed 5 [] [(11,.bool ((aN:Int) !=(bN:Int)))] ?_
 by_cases c1:(aN:Int)=(bN:Int)
 ·rw[if_pos c1]at h
  refine T_cFz 11 (bne_eq_false_iff_eq.mpr c1)<| T_kt<| T_sz<| T_srz 3<| T_ed 1 [11] [(5,vi 0)]<| T_bz 0 ?_
  obtain⟨am,m15,i3,i4⟩:=h
  refine S_loop (x:=K14) (σ:=Int) (λs_=> [(0,vs aB aN aC),(1,vs bB bN bC),(5,vi s_)]) (λs_ H=>am s_ H) (λs_ H=>m15 s_ H) (0:Int) (by kernel_rfl) i3 sk ?_
  rintro i H1 i5
  have h:=i4 i H1 i5
  refine T_su [(0,vs aB aN aC),(1,vs bB bN bC),(5,vi i)]<| T_sz<| T_srz 4<| T_ed 4 [] [(15,.bool (decide (i< (aN:Int))))] ?_
  by_cases c6:i< (aN:Int)
  ·rw[if_pos c6]at h
   refine T_cTz 15 (zX c6)<| T_kt<| T_sz<| T_bz 1<| T_sz<| T_sz ?_
   obtain⟨b,rfl,q8,x,q9,d,rfl,q10,j,q11,h⟩:=h
   by_cases c12:x=j
   ·rw[if_pos c12]at h
    obtain⟨q14,xB,xN,xC,q15,q16,aa,z,y,q17,h⟩:=h
    refine yY 6 (Code.ops K26) [(22,(b.add (Int.toNat i*3)),[vu x]),(22,(d.add (Int.toNat i*3)),[vu j]),(22,((b.add (Int.toNat i*3)).add 1),[vs xB xN xC]),(22,((d.add (Int.toNat i*3)).add 1),[vs aa z y])] 40 (bv 40 0) (show FactsAt _ _ _ from⟨⟨q9,trivial⟩,⟨q11,trivial⟩,⟨q15,trivial⟩,⟨q17,trivial⟩,trivial⟩)<| T_gp 0 (some 18) (vs (some b) aN aC) (bv 40 1) [(0,vs (some b) aN aC),(1,vs (some d) bN bC),(5,vi i),(18,vs (some b) aN aC)]<| T_gp1 1 19 (vi i) (bv 40 3) []<| T_g1 2 20 (vp (some (b.add (Int.toNat i*3)))) (bv 40 7) [18,19] (indexAtN 59 (vs (some b) aN aC) (vi i)) (λ_ w _ _ _=>indexAt_run (P:=Tryz.prog) (t:=59) (elem:=104) (sz:=3) (a:=b) (len:=aN) (cap:=aC) (k:=.i64) (i:=i) Tryz.underlying59 (λ_=>by kernel_rfl) q8.1 q8.2 w)<| T_gp1 3 21 (vp (some (b.add (Int.toNat i*3)))) (bv 40 15) [20]<| T_g1 4 22 (vu x) (bv 40 31) [21] (loadN 24 (vp (some (b.add (Int.toNat i*3))))) (yW 22 yZ)<| T_gp1 5 23 (vs (some d) bN bC) (bv 40 63) []<| T_gp1 6 24 (vi i) (bv 40 127) []<| T_g1 7 25 (vp (some (d.add (Int.toNat i*3)))) (bv 40 255) [23,24] (indexAtN 59 (vs (some d) bN bC) (vi i)) (λ_ w _ _ _=>indexAt_run (P:=Tryz.prog) (t:=59) (elem:=104) (sz:=3) (a:=d) (len:=bN) (cap:=bC) (k:=.i64) (i:=i) Tryz.underlying59 (λ_=>by kernel_rfl) q10.1 q10.2 w)<| T_gp1 8 26 (vp (some (d.add (Int.toNat i*3)))) (bv 40 511) [25]<| T_g1 9 27 (vu j) (bv 40 1023) [26] (loadN 24 (vp (some (d.add (Int.toNat i*3))))) (yW 22 yX)<| T_gp1 10 28 (.bool (x !=j)) (bv 40 2047) [22,27]<| T_gp1 11 29 (.bool (x !=j)) (bv 40 4095) [28]<| G_bd 29 (bne_eq_false_iff_eq.mpr c12)<| T_gp1 12 30 (vs (some b) aN aC) (bv 40 8191) []<| T_gp1 13 31 (vi i) (bv 40 16383) []<| T_g1 14 32 (vp (some (b.add (Int.toNat i*3)))) (bv 40 32767) [30,31] (indexAtN 59 (vs (some b) aN aC) (vi i)) (λ_ w _ _ _=>indexAt_run (P:=Tryz.prog) (t:=59) (elem:=104) (sz:=3) (a:=b) (len:=aN) (cap:=aC) (k:=.i64) (i:=i) Tryz.underlying59 (λ_=>by kernel_rfl) q14.1 q14.2 w)<| T_gp1 15 33 (vp (some ((b.add (Int.toNat i*3)).add 1))) (bv 40 65535) [32]<| T_g1 16 34 (vs xB xN xC) (bv 40 131071) [33] (loadN 27 (vp (some ((b.add (Int.toNat i*3)).add 1)))) (yW 22 yQ)<| T_gp1 17 35 (vs (some d) bN bC) (bv 40 262143) []<| T_gp1 18 36 (vi i) (bv 40 524287) []<| T_g1 19 37 (vp (some (d.add (Int.toNat i*3)))) (bv 40 1048575) [35,36] (indexAtN 59 (vs (some d) bN bC) (vi i)) (λ_ w _ _ _=>indexAt_run (P:=Tryz.prog) (t:=59) (elem:=104) (sz:=3) (a:=d) (len:=bN) (cap:=bC) (k:=.i64) (i:=i) Tryz.underlying59 (λ_=>by kernel_rfl) q16.1 q16.2 w)<| T_gp1 20 38 (vp (some ((d.add (Int.toNat i*3)).add 1))) (bv 40 2097151) [37]<| T_g1 21 39 (vs aa z y) (bv 40 4194303) [38] (loadN 27 (vp (some ((d.add (Int.toNat i*3)).add 1)))) (yW 22 yJ)<| yq 22 (some 40) (bv 40 8388607) 50 #[vs xB xN xC,vs aa z y] h ?_;clear h
    rintro v H2 ⟨m,rfl,h⟩
    refine⟨[(0,vs (some b) aN aC),(1,vs (some d) bN bC),(5,vi i),(29,.bool false),(40,.bool m)],pk,(show FactsAt _ _ _ from⟨trivial,trivial,trivial,trivial,trivial⟩),?_⟩
    refine T_g 23 (some 41) (.bool (!m)) (bv 40 16777215) [(0,vs (some b) aN aC),(1,vs (some d) bN bC),(5,vi i),(29,.bool false),(41,.bool (!m))] (pure (.value (.bool (!m))):Sem Next) (λ_ _ _ _ _=>rfl)<| T_g1 24 42 (.bool (!m)) (bv 40 33554431) [29,41] (pure (.value (.bool (!m))):Sem Next) (λ_ _ _ _ _=>rfl)<| T_g1 25 43 (.bool (!m)) (bv 40 67108863) [42] (pure (.value (.bool (!m))):Sem Next) (λ_ _ _ _ _=>rfl) ?_
    by_cases c18:m=true
    ·rw[if_pos c18]at h
     have b19:(!m)=false:=congrArg Bool.not (c18)
     have b192:m=true:=c18
     refine G_bd 43 (b:=(!m)) (v:=false) (by simp only[b19,b192,Bool.not_true,Bool.not_false]) ?_
     clear b19 b192
     refine T_g1 26 44 (vs (some b) aN aC) (bv 40 134217727) [] (pure (.value (vs (some b) aN aC)):Sem Next) (λ_ _ _ _ _=>rfl)<| T_g1 27 45 (vi i) (bv 40 268435455) [] (pure (.value (vi i)):Sem Next) (λ_ _ _ _ _=>rfl) ?_
     obtain⟨q20,h⟩:=h
     refine T_g1 28 46 (vp (some (b.add (Int.toNat i*3)))) (bv 40 536870911) [44,45] (indexAtN 59 (vs (some b) aN aC) (vi i)) (λ_ w _ _ _=>indexAt_run (P:=Tryz.prog) (t:=59) (elem:=104) (sz:=3) (a:=b) (len:=aN) (cap:=aC) (k:=.i64) (i:=i) Tryz.underlying59 (λ_=>by kernel_rfl) q20.1 q20.2 w)<| T_g1 29 47 (vp (some ((b.add (Int.toNat i*3)).add 2))) (bv 40 1073741823) [46] (pure (.value (vp (some ((b.add (Int.toNat i*3)).add 2)))):Sem Next) (λ_ _ _ _ _=>rfl) ?_
     obtain⟨ae,f,af,q21,h⟩:=h
     refine G_more (40,((b.add (Int.toNat i*3)).add 2),[vs ae f af]) ⟨q21,trivial⟩ ?_
     refine T_g1 30 48 (vs ae f af) (bv 40 2147483647) [47] (loadN 67 (vp (some ((b.add (Int.toNat i*3)).add 2)))) (held_one 40 (λ_=>by kernel_rfl) yZ (.inr (by kernel_rfl)))<| T_g1 31 49 (vi f) (bv 40 4294967295) [48] (pure (.value (vi f)):Sem Next) (λ_ _ _ _ _=>rfl)<| T_g1 32 50 (vs (some d) bN bC) (bv 40 8589934591) [] (pure (.value (vs (some d) bN bC)):Sem Next) (λ_ _ _ _ _=>rfl)<| T_g1 33 51 (vi i) (bv 40 17179869183) [] (pure (.value (vi i)):Sem Next) (λ_ _ _ _ _=>rfl) ?_
     obtain⟨q22,h⟩:=h
     refine T_g1 34 52 (vp (some (d.add (Int.toNat i*3)))) (bv 40 34359738367) [50,51] (indexAtN 59 (vs (some d) bN bC) (vi i)) (λ_ w _ _ _=>indexAt_run (P:=Tryz.prog) (t:=59) (elem:=104) (sz:=3) (a:=d) (len:=bN) (cap:=bC) (k:=.i64) (i:=i) Tryz.underlying59 (λ_=>by kernel_rfl) q22.1 q22.2 w)<| T_g1 35 53 (vp (some ((d.add (Int.toNat i*3)).add 2))) (bv 40 68719476735) [52] (pure (.value (vp (some ((d.add (Int.toNat i*3)).add 2)))):Sem Next) (λ_ _ _ _ _=>rfl) ?_
     obtain⟨aj,g,ai,q24,h⟩:=h
     refine G_only 36 (some 54) (bv 40 137438953471) (loadN 67 (vp (some ((d.add (Int.toNat i*3)).add 2)))) (λu H1=>u=vs aj g ai/\H1=H2) (by kernel_rfl) (λ_=>by kernel_rfl) (ss_load (loadOK_one (λ_=>by kernel_rfl) q24)) (by kernel_rfl) ?_
     rintro _ _ ⟨rfl,rfl⟩
     obtain⟨f23,h⟩:=h
     refine⟨[(0,vs (some b) aN aC),(1,vs (some d) bN bC),(5,vi i),(43,.bool false),(49,vi f),(54,vs aj g ai)],pk,(show FactsAt _ _ _ from⟨f23,trivial,trivial,trivial,trivial,trivial⟩),?_⟩
     refine T_g 37 (some 55) (vi g) (bv 40 274877906943) [(0,vs (some b) aN aC),(1,vs (some d) bN bC),(5,vi i),(43,.bool false),(49,vi f),(55,vi g)] (pure (.value (vi g)):Sem Next) (λ_ _ _ _ _=>rfl)<| T_g1 38 56 (.bool ((f:Int) !=(g:Int))) (bv 40 549755813887) [49,55] (pure (.value (.bool ((f:Int) !=(g:Int)))):Sem Next) (λ_ _ _ _ _=>rfl)<| T_g1 39 57 (.bool ((f:Int) !=(g:Int))) (bv 40 1099511627775) [43,56] (pure (.value (.bool ((f:Int) !=(g:Int)))):Sem Next) (λ_ _ _ _ _=>rfl)<| G_sub [(0,vs (some b) aN aC),(1,vs (some d) bN bC),(5,vi i),(57,.bool ((f:Int) !=(g:Int)))] sk<| yx<| S_then ?_
     by_cases c25:(f:Int)=(g:Int)
     ·rw[if_pos c25]at h
      refine T_cFz 57 (bne_eq_false_iff_eq.mpr c25)<| T_kt<| T_srz 8<| T_ne 1 [(0,vs (some b) aN aC),(1,vs (some d) bN bC),(5,vi i),(6,vi 0)]<| T_bz 2 ?_
      obtain⟨an,m34,i27,i28⟩:=h
      refine S_loop (x:=K33) (σ:=Int) (λs_=> [(0,vs (some b) aN aC),(1,vs (some d) bN bC),(5,vi i),(6,vi s_)]) (λs_ H=>an s_ H) (λs_ H=>m34 s_ H) (0:Int) (by kernel_rfl) i27 sk ?_
      rintro k H3 i29
      have h:=i28 k H3 i29
      refine T_su [(0,vs (some b) aN aC),(1,vs (some d) bN bC),(5,vi i),(6,vi k)]<| T_sz<| T_srz 9<| T_nd 3 [] [(58,vi k),(59,vs (some b) aN aC),(60,vi i)] ?_
      obtain⟨q30,h⟩:=h
      refine T_xd (some 61) 59 104 3 b aN aC .i64 i Tryz.underlying59 q30.1 q30.2 [59,60] [(61,vp (some (b.add (Int.toNat i*3))))]<| T_nd 1 [61] [(62,vp (some ((b.add (Int.toNat i*3)).add 2)))] ?_
      obtain⟨ak,n,al,q31,h⟩:=h
      refine T_l1 63 67 q31 [62]<| T_ed 2 [58,63] [(65,.bool (decide (k< (n:Int))))] ?_
      by_cases c32:k< (n:Int)
      ·rw[if_pos c32]at h
       refine T_cTz 65 (zX c32)<| T_kt<| T_sz<| T_bz 3<| T_sz<| T_rqz 11<| T_q1 68 (vs (some b) aN aC) [65]<| T_q1 69 (vi i) [] ?_
       obtain⟨q34,h⟩:=h
       refine Q_op (some 70) (indexAtN 59 (vs (some b) aN aC) (vi i)) (vp (some (b.add (Int.toNat i*3)))) (λ_=>by kernel_rfl) (λw _=>indexAt_run (P:=Tryz.prog) (t:=59) (elem:=104) (sz:=3) (a:=b) (len:=aN) (cap:=aC) (k:=.i64) (i:=i) Tryz.underlying59 (λ_=>by kernel_rfl) q34.1 q34.2 w) [(0,vs (some b) aN aC),(1,vs (some d) bN bC),(5,vi i),(6,vi k),(70,vp (some (b.add (Int.toNat i*3))))] pk ?_
       refine T_q (some 71) (vp (some ((b.add (Int.toNat i*3)).add 2))) [(0,vs (some b) aN aC),(1,vs (some d) bN bC),(5,vi i),(6,vi k),(71,vp (some ((b.add (Int.toNat i*3)).add 2)))] ?_
       obtain⟨ah,q,ab,q35,h⟩:=h
       refine T_qld (some 72) 67 q35 [71] [(72,vs ah q ab)]<| T_q1 73 (vi k) [] ?_
       obtain⟨s,rfl,q36,h⟩:=h
       refine Q_op (some 74) (indexAtN 67 (vs (some s) q ab) (vi k)) (vp (some (s.add (Int.toNat k*1)))) (λ_=>by kernel_rfl) (λw _=>indexAt_run (P:=Tryz.prog) (t:=67) (elem:=3) (sz:=1) (a:=s) (len:=q) (cap:=ab) (k:=.i64) (i:=k) Tryz.underlying67 (λ_=>by kernel_rfl) q36.1 q36.2 w) [(0,vs (some b) aN aC),(1,vs (some d) bN bC),(5,vi i),(6,vi k),(74,vp (some (s.add (Int.toNat k*1))))] pk ?_
       obtain⟨l,q37,h⟩:=h
       refine T_ql (some 75) 3 q37 [(0,vs (some b) aN aC),(1,vs (some d) bN bC),(5,vi i),(6,vi k),(75,vi l)]<| T_q1 76 (vs (some d) bN bC) []<| T_q1 77 (vi i) [] ?_
       obtain⟨q38,h⟩:=h
       refine Q_op (some 78) (indexAtN 59 (vs (some d) bN bC) (vi i)) (vp (some (d.add (Int.toNat i*3)))) (λ_=>by kernel_rfl) (λw _=>indexAt_run (P:=Tryz.prog) (t:=59) (elem:=104) (sz:=3) (a:=d) (len:=bN) (cap:=bC) (k:=.i64) (i:=i) Tryz.underlying59 (λ_=>by kernel_rfl) q38.1 q38.2 w) [(0,vs (some b) aN aC),(1,vs (some d) bN bC),(5,vi i),(6,vi k),(75,vi l),(78,vp (some (d.add (Int.toNat i*3))))] pk ?_
       refine T_q (some 79) (vp (some ((d.add (Int.toNat i*3)).add 2))) [(0,vs (some b) aN aC),(1,vs (some d) bN bC),(5,vi i),(6,vi k),(75,vi l),(79,vp (some ((d.add (Int.toNat i*3)).add 2)))] ?_
       obtain⟨ag,o,ac,q39,h⟩:=h
       refine T_qld (some 80) 67 q39 [79] [(80,vs ag o ac)]<| T_q1 81 (vi k) [] ?_
       obtain⟨p,rfl,q40,h⟩:=h
       refine Q_op (some 82) (indexAtN 67 (vs (some p) o ac) (vi k)) (vp (some (p.add (Int.toNat k*1)))) (λ_=>by kernel_rfl) (λw _=>indexAt_run (P:=Tryz.prog) (t:=67) (elem:=3) (sz:=1) (a:=p) (len:=o) (cap:=ac) (k:=.i64) (i:=k) Tryz.underlying67 (λ_=>by kernel_rfl) q40.1 q40.2 w) [(0,vs (some b) aN aC),(1,vs (some d) bN bC),(5,vi i),(6,vi k),(75,vi l),(82,vp (some (p.add (Int.toNat k*1))))] pk ?_
       obtain⟨r,q41,h⟩:=h
       refine T_ql (some 83) 3 q41 [(0,vs (some b) aN aC),(1,vs (some d) bN bC),(5,vi i),(6,vi k),(75,vi l),(83,vi r)]<| T_q1 84 (.bool (l !=r)) [75,83]<| Q_sub [(0,vs (some b) aN aC),(1,vs (some d) bN bC),(5,vi i),(6,vi k),(84,.bool (l !=r))] sk<| T_qe ?_
       by_cases c42:l=r
       ·rw[if_pos c42]at h
        exact T_cFz 84 (bne_eq_false_iff_eq.mpr c42)<| T_k<| S_blockEnd<| S_then<| T_rz 10<| T_ne 3 [(0,vs (some b) aN aC),(1,vs (some d) bN bC),(5,vi i),(6,vi (zY (k+1)))]<| S_round ((zY (k+1)):Int) sk h
       rw[if_neg c42]at h
       exact T_cTz 84 (bne_iff_ne.mpr c42)<| T_srz 12<| T_nr 1 [4] [.bool false] hQ h
      rw[if_neg c32]at h
      exact T_cFz 65 (zQ c32)<| zj 2<| S_exitThen<| S_exitThen<| S_exitHere<| S_blockEnd<| S_then<| T_rz 5<| T_ed 3 [5,6,65] [(5,vi (zY (i+1)))]<| S_round ((zY (i+1)):Int) sk h
     rw[if_neg c25]at h
     exact T_cTz 57 (bne_iff_ne.mpr c25)<| T_srz 7<| T_nr 1 [4] [.bool false] hQ h
    rw[if_neg c18]at h
    have b19:(!m)=true:=congrArg Bool.not (zZ c18)
    have b192:m=false:=zZ c18
    refine G_bd 43 (b:=(!m)) (v:=true) (by simp only[b19,b192,Bool.not_true,Bool.not_false]) ?_
    clear b19 b192
    exact T_gsd 26 (some 44) (bv 40 134217727) [] [(44,undef)]<| T_gsd 27 (some 45) (bv 40 268435455) [] [(45,undef)]<| T_gsd 28 (some 46) (bv 40 536870911) [44,45] [(46,undef)]<| T_gsd 29 (some 47) (bv 40 1073741823) [46] [(47,undef)]<| T_gsd 30 (some 48) (bv 40 2147483647) [47] [(48,undef)]<| T_gsd 31 (some 49) (bv 40 4294967295) [48] [(49,undef)]<| T_gsd 32 (some 50) (bv 40 8589934591) [] [(50,undef)]<| T_gsd 33 (some 51) (bv 40 17179869183) [] [(51,undef)]<| T_gsd 34 (some 52) (bv 40 34359738367) [50,51] [(52,undef)]<| T_gsd 35 (some 53) (bv 40 68719476735) [52] [(53,undef)]<| T_gsd 36 (some 54) (bv 40 137438953471) [53] [(54,undef)]<| T_gsd 37 (some 55) (bv 40 274877906943) [54] [(55,undef)]<| T_gsd 38 (some 56) (bv 40 549755813887) [49,55] [(56,undef)]<| T_g1 39 57 (.bool true) (bv 40 1099511627775) [43,56] (pure (.value (.bool true)):Sem Next) (λ_ _ _ _ _=>rfl)<| G_sub [(0,vs (some b) aN aC),(1,vs (some d) bN bC),(5,vi i),(57,.bool true)] sk<| yx<| S_then<| T_tz 57<| T_srz 7<| T_nr 1 [4] [.bool false] hQ h
   rw[if_neg c12]at h
   exact yY 6 (Code.ops K26) [(40,(b.add (Int.toNat i*3)),[vu x]),(40,(d.add (Int.toNat i*3)),[vu j])] 40 (bv 40 0) (show FactsAt _ _ _ from⟨⟨q9,trivial⟩,⟨q11,trivial⟩,trivial⟩)<| T_gp 0 (some 18) (vs (some b) aN aC) (bv 40 1) [(0,vs (some b) aN aC),(1,vs (some d) bN bC),(5,vi i),(18,vs (some b) aN aC)]<| T_gp1 1 19 (vi i) (bv 40 3) []<| T_g1 2 20 (vp (some (b.add (Int.toNat i*3)))) (bv 40 7) [18,19] (indexAtN 59 (vs (some b) aN aC) (vi i)) (λ_ w _ _ _=>indexAt_run (P:=Tryz.prog) (t:=59) (elem:=104) (sz:=3) (a:=b) (len:=aN) (cap:=aC) (k:=.i64) (i:=i) Tryz.underlying59 (λ_=>by kernel_rfl) q8.1 q8.2 w)<| T_gp1 3 21 (vp (some (b.add (Int.toNat i*3)))) (bv 40 15) [20]<| T_g1 4 22 (vu x) (bv 40 31) [21] (loadN 24 (vp (some (b.add (Int.toNat i*3))))) (held_one 40 (λ_=>by kernel_rfl) yZ (.inr (by kernel_rfl)))<| T_gp1 5 23 (vs (some d) bN bC) (bv 40 63) []<| T_gp1 6 24 (vi i) (bv 40 127) []<| T_g1 7 25 (vp (some (d.add (Int.toNat i*3)))) (bv 40 255) [23,24] (indexAtN 59 (vs (some d) bN bC) (vi i)) (λ_ w _ _ _=>indexAt_run (P:=Tryz.prog) (t:=59) (elem:=104) (sz:=3) (a:=d) (len:=bN) (cap:=bC) (k:=.i64) (i:=i) Tryz.underlying59 (λ_=>by kernel_rfl) q10.1 q10.2 w)<| T_gp1 8 26 (vp (some (d.add (Int.toNat i*3)))) (bv 40 511) [25]<| T_g1 9 27 (vu j) (bv 40 1023) [26] (loadN 24 (vp (some (d.add (Int.toNat i*3))))) (held_one 40 (λ_=>by kernel_rfl) yX (.inr (by kernel_rfl)))<| T_gp1 10 28 (.bool (x !=j)) (bv 40 2047) [22,27]<| T_gp1 11 29 (.bool (x !=j)) (bv 40 4095) [28]<| G_bd 29 (bne_iff_ne.mpr c12)<| T_gsd 12 (some 30) (bv 40 8191) [] [(30,undef)]<| T_gsd 13 (some 31) (bv 40 16383) [] [(31,undef)]<| T_gsd 14 (some 32) (bv 40 32767) [30,31] [(32,undef)]<| T_gsd 15 (some 33) (bv 40 65535) [32] [(33,undef)]<| T_gsd 16 (some 34) (bv 40 131071) [33] [(34,undef)]<| T_gsd 17 (some 35) (bv 40 262143) [] [(35,undef)]<| T_gsd 18 (some 36) (bv 40 524287) [] [(36,undef)]<| T_gsd 19 (some 37) (bv 40 1048575) [35,36] [(37,undef)]<| T_gsd 20 (some 38) (bv 40 2097151) [37] [(38,undef)]<| T_gsd 21 (some 39) (bv 40 4194303) [38] [(39,undef)]<| T_gsd 22 (some 40) (bv 40 8388607) [34,39] [(40,undef)]<| T_gsd 23 (some 41) (bv 40 16777215) [40] [(41,undef)]<| T_gp1 24 42 (.bool true) (bv 40 33554431) [29,41]<| T_gp1 25 43 (.bool true) (bv 40 67108863) [42]<| T_gsd 26 (some 44) (bv 40 134217727) [] [(44,undef)]<| T_gsd 27 (some 45) (bv 40 268435455) [] [(45,undef)]<| T_gsd 28 (some 46) (bv 40 536870911) [44,45] [(46,undef)]<| T_gsd 29 (some 47) (bv 40 1073741823) [46] [(47,undef)]<| T_gsd 30 (some 48) (bv 40 2147483647) [47] [(48,undef)]<| T_gsd 31 (some 49) (bv 40 4294967295) [48] [(49,undef)]<| T_gsd 32 (some 50) (bv 40 8589934591) [] [(50,undef)]<| T_gsd 33 (some 51) (bv 40 17179869183) [] [(51,undef)]<| T_gsd 34 (some 52) (bv 40 34359738367) [50,51] [(52,undef)]<| T_gsd 35 (some 53) (bv 40 68719476735) [52] [(53,undef)]<| T_gsd 36 (some 54) (bv 40 137438953471) [53] [(54,undef)]<| T_gsd 37 (some 55) (bv 40 274877906943) [54] [(55,undef)]<| T_gsd 38 (some 56) (bv 40 549755813887) [49,55] [(56,undef)]<| T_gp1 39 57 (.bool true) (bv 40 1099511627775) [43,56]<| G_sub [(0,vs (some b) aN aC),(1,vs (some d) bN bC),(5,vi i),(57,.bool true)] sk<| yx<| S_then<| T_tz 57<| T_srz 7<| T_nr 1 [4] [.bool false] hQ h
  rw[if_neg c6]at h
  exact T_cFz 15 (zQ c6)<| zj 0<| S_exitThen<| S_exitThen<| S_exitHere<| S_then<| T_srz 13<| T_nr 1 [4] [.bool true] hQ h
 rw[if_neg c1]at h
 exact T_cTz 11 (bne_iff_ne.mpr c1)<| T_srz 2<| T_nr 1 [4] [.bool false] hQ h
end morainelaw13_alike

/-! moraine/morainelaw13.words -/
namespace morainelaw13_words
def K0:=Func.code Tryz.f50
def K2:=cb K0
def K4:=cb K2
def K9:=ca K4
def K12:=cb K9
def K13:=ca K12
def K14:=ca K13
end morainelaw13_words
def morainelaw13_words.pt(aB:zW)(aN aC:Nat)(bB:zW)(bN bC:Nat)(H:zV)(R:zk):Prop:=
 if(aN:Int)=(bN:Int)then(
 ∃(g:zv) (m15:Int->zV->Nat),g 0 H/\ ∀(i:Int) (H1:zV),g i H1->
 if i< (aN:Int)then(
 ∃b:Addr,aB=some b/\
 zw i aN/\
 ∃x:Int,hat H1 (b.add (Int.toNat i*1))=some (.int .u64 x)/\
 ∃d:Addr,bB=some d/\
 zw i bN/\
 ∃f:Int,hat H1 (d.add (Int.toNat i*1))=some (.int .u64 f)/\
 if x=f then(
 (g (zY (i+1)) H1/\m15 (zY (i+1)) H1<m15 i H1))
 else
 R (.bool false) H1)
 else
 R (.bool true) H1)
 else
 R (.bool false) H
namespace morainelaw13_words
set_option maxRecDepth 100000 in
theorem link{aB:zW}{aN aC:Nat}{bB:zW}{bN bC:Nat}{H:zV}{R:zk}(h:pt aB aN aC bB bN bC H R):C aB aN aC bB bN bC H R:=by
 refine T_en K0 26 Tryz.func50 ?_
 intro w0 Q hQ
 unfold pt zY at h
 refine T_su [(0,vs aB aN aC),(1,vs bB bN bC)]<| T_srz 0<| T_ed 1 [] []<| T_sz<| T_srz 1<| T_ed 5 [] [(10,.bool ((aN:Int) !=(bN:Int)))] ?_
 by_cases c1:(aN:Int)=(bN:Int)
 ·rw[if_pos c1]at h
  refine T_cFz 10 (bne_eq_false_iff_eq.mpr c1)<| T_kt<| T_sz<| T_srz 3<| T_ed 1 [10] [(5,vi 0)]<| T_bz 0 ?_
  obtain⟨g,m15,i3,i4⟩:=h
  refine S_loop (x:=K14) (σ:=Int) (λs_=> [(0,vs aB aN aC),(1,vs bB bN bC),(5,vi s_)]) (λs_ H=>g s_ H) (λs_ H=>m15 s_ H) (0:Int) (by kernel_rfl) i3 sk ?_
  rintro i H1 i5
  have h:=i4 i H1 i5
  refine T_su [(0,vs aB aN aC),(1,vs bB bN bC),(5,vi i)]<| T_sz<| T_srz 4<| T_ed 4 [] [(14,.bool (decide (i< (aN:Int))))] ?_
  by_cases c6:i< (aN:Int)
  ·rw[if_pos c6]at h
   refine T_cTz 14 (zX c6)<| T_kt<| T_sz<| T_bz 1<| T_sz<| T_rqz 6<| T_q1 17 (vs aB aN aC) [14]<| T_q1 18 (vi i) [] ?_
   obtain⟨b,rfl,q8,h⟩:=h
   refine Q_op (some 19) (indexAtN 27 (vs (some b) aN aC) (vi i)) (vp (some (b.add (Int.toNat i*1)))) (λ_=>by kernel_rfl) (λw _=>indexAt_run (P:=Tryz.prog) (t:=27) (elem:=24) (sz:=1) (a:=b) (len:=aN) (cap:=aC) (k:=.i64) (i:=i) Tryz.underlying27 (λ_=>by kernel_rfl) q8.1 q8.2 w) [(0,vs (some b) aN aC),(1,vs bB bN bC),(5,vi i),(19,vp (some (b.add (Int.toNat i*1))))] pk ?_
   obtain⟨x,q9,h⟩:=h
   refine T_ql (some 20) 24 q9 [(0,vs (some b) aN aC),(1,vs bB bN bC),(5,vi i),(20,vu x)]<| T_q1 21 (vs bB bN bC) []<| T_q1 22 (vi i) [] ?_
   obtain⟨d,rfl,q10,h⟩:=h
   refine Q_op (some 23) (indexAtN 27 (vs (some d) bN bC) (vi i)) (vp (some (d.add (Int.toNat i*1)))) (λ_=>by kernel_rfl) (λw _=>indexAt_run (P:=Tryz.prog) (t:=27) (elem:=24) (sz:=1) (a:=d) (len:=bN) (cap:=bC) (k:=.i64) (i:=i) Tryz.underlying27 (λ_=>by kernel_rfl) q10.1 q10.2 w) [(0,vs (some b) aN aC),(1,vs (some d) bN bC),(5,vi i),(20,vu x),(23,vp (some (d.add (Int.toNat i*1))))] pk ?_
   obtain⟨f,q11,h⟩:=h
   refine T_ql (some 24) 24 q11 [(0,vs (some b) aN aC),(1,vs (some d) bN bC),(5,vi i),(20,vu x),(24,vu f)]<| T_q1 25 (.bool (x !=f)) [20,24]<| Q_sub [(0,vs (some b) aN aC),(1,vs (some d) bN bC),(5,vi i),(25,.bool (x !=f))] sk<| T_qe ?_
   by_cases c12:x=f
   ·rw[if_pos c12]at h
    exact T_cFz 25 (bne_eq_false_iff_eq.mpr c12)<| T_k<| S_blockEnd<| S_then<| T_rz 5<| T_ne 3 [(0,vs (some b) aN aC),(1,vs (some d) bN bC),(5,vi (zY (i+1)))]<| S_round ((zY (i+1)):Int) sk h
   rw[if_neg c12]at h
   exact T_cTz 25 (bne_iff_ne.mpr c12)<| T_srz 7<| T_nr 1 [4] [.bool false] hQ h
  rw[if_neg c6]at h
  exact T_cFz 14 (zQ c6)<| zj 0<| S_exitThen<| S_exitThen<| S_exitHere<| S_then<| T_srz 8<| T_nr 1 [4] [.bool true] hQ h
 rw[if_neg c1]at h
 exact T_cTz 10 (bne_iff_ne.mpr c1)<| T_srz 2<| T_nr 1 [4] [.bool false] hQ h
end morainelaw13_words

