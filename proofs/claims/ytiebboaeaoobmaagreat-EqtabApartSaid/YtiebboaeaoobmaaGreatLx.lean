/- Printed: what each function asks, and that it is sound. -/
import Derived.Test.YtiebboaeaoobmaaGreatFnsC
set_option linter.unusedSimpArgs false
set_option linter.unusedVariables false
set_option maxRecDepth 100000
set_option maxHeartbeats 1000000
noncomputable section
namespace Go.Proofs.YtiebboaeaoobmaaGreat
open Go
/-! (*moraine/space.Space).Alloc -/
namespace space_Space_Alloc
def K0:=Func.code Tryz.f53
end space_Space_Alloc
def space_Space_Alloc.pt(s:zW)(d b nv:Int)(H:zV)(R:zw):Prop:=
 space_Space_none.C s H (λv H1=> ∃x:Bool,v=.bool x/\
 if x=true then(
 R (.tuple #[.int .i64 0,.int .i64 1]) H1)
 else
 space_may.C d b nv H1 (λab H2=> ∃m:Bool,ab=.bool m/\
 if m=true then(
 space_Space_Current.C s d b H2 (λac H3=> ∃(ra:Int) (rb:Bool),ac=.tuple #[.int .i64 ra,.bool rb]/\
 ∃J:zV->Prop,(
 if rb=true then(
 ∃g:Addr,s=some g/\
 ∃q:zW,hat H3 g=some (.pointer q)/\
 seg_Mem_Bump.C q ra nv H3 (λz H8=> ∃j l:Int,z=.tuple #[.int .i64 j,.int .i64 l]/\
 if l=0 then(
 R (.tuple #[.int .i64 j,.int .i64 0]) H8)
 else
 J H8))
 else
 J H3)/\ ∀(H4:zV),J H4->
 ∃sA:Addr,s=some sA/\
 ∃u:zW,hat H4 sA=some (.pointer u)/\
 seg_Mem_Take.C u d b H4 (λaa H5=> ∃e f:Int,aa=.tuple #[.int .i64 e,.int .i64 f]/\
 if f=0 then(
 yX d 5/\
 yX b 4/\
 (CanPuts H5 (((sA.add 1).add (Int.toNat d*4)).add (Int.toNat b*1)) 0 1)/\ ∀H6,H6=hputs H5 (((sA.add 1).add (Int.toNat d*4)).add (Int.toNat b*1)) [.int .i64 (zY (e+1))] 0->
 ∃r:zW,hat H6 sA=some (.pointer r)/\
 seg_Mem_Bump.C r e nv H6 (λy H7=> ∃o p:Int,y=.tuple #[.int .i64 o,.int .i64 p]/\
 R (.tuple #[.int .i64 o,.int .i64 p]) H7))
 else
 R (.tuple #[.int .i64 0,.int .i64 f]) H5)))
 else
 R (.tuple #[.int .i64 0,.int .i64 1]) H2))
namespace space_Space_Alloc
theorem link{s:zW}{d b nv:Int}{H:zV}{R:zw}(h:pt s d b nv H R):C s d b nv H R:=by
 refine T_en K0 77 Tryz.func53 ?_
 intro w0 Q hQ
 unfold pt zY at h
 refine T_su [(0,vp s),(1,vi d),(2,vi b),(3,vi nv)]<| T_srz 0<| T_ed 2 [] []<| T_sz<| T_srz 1<| T_nd 1 [] [(16,vp s)]<| T_c (some 17) h ?_;clear h
 rintro v H1 ⟨x,rfl,h⟩
 refine T_pd [16] [(17,.bool x)]<| T_nd 1 [17] [(18,.bool x)] ?_
 by_cases c1:x=true
 ·rw[if_pos c1]at h
  exact N_bd 18 c1<| T_ed 6 [18] [(24,.bool true)]<| T_tz 24<| T_srz 2<| T_nr 2 [8,9] [vi 0,vi 1] hQ h
 rw[if_neg c1]at h
 refine N_bd 18 (zZ c1)<| T_nd 3 [] [(19,vi d),(20,vi b),(21,vi nv)] ?_
 refine T_c (some 22) h ?_;clear h
 rintro ab H2 ⟨m,rfl,h⟩
 refine T_pd [19,20,21] [(22,.bool m)]<| T_ed 2 [18,22] [(24,.bool (!m))] ?_
 by_cases c3:m=true
 ·rw[if_pos c3]at h
  refine T_cFz 24 (congrArg Bool.not (c3))<| T_kt<| T_sz<| T_srz 3<| T_nd 3 [24] [(26,vp s),(27,vi d),(28,vi b)]<| T_c (some 29) h ?_;clear h
  rintro ac H3 ⟨ra,rb,rfl,h⟩
  refine T_pd [26,27,28] [(29,.tuple #[vi ra,.bool rb])]<| T_ed 5 [29] [(10,vi ra),(11,.bool rb)]<| T_srz 4<| T_ne 1 [(0,vp s),(1,vi d),(2,vi b),(3,vi nv),(10,vi ra),(32,.bool rb)] ?_
  obtain⟨J,h,j6⟩:=h
  refine S_join (σ:=Unit) (λs_=> [(0,vp s),(1,vi d),(2,vi b),(3,vi nv)]) (λs_ H=>J H) ?_ ?_
  ·rintro _ H4 j7
   replace h:=j6 H4 j7
   refine T_su [(0,vp s),(1,vi d),(2,vi b),(3,vi nv)]<| S_then<| T_srz 8<| T_nd 1 [] [(47,vp s)] ?_
   obtain⟨sA,rfl,h⟩:=h
   refine T_nd 2 [0,47] [(0,vp (some sA)),(49,vp (some sA))] ?_
   obtain⟨u,q8,h⟩:=h
   refine T_l1 50 103 q8 [49]<| T_nd 2 [] [(51,vi d),(52,vi b)]<| T_c (some 53) h ?_;clear h
   rintro aa H5 ⟨e,f,rfl,h⟩
   refine T_pd [50,51,52] [(53,.tuple #[vi e,vi f])]<| T_ed 5 [53] [(14,vi e),(15,vi f)]<| T_sz<| T_srz 9<| T_ed 2 [] [(57,.bool (f !=0))] ?_
   by_cases c9:f=0
   ·rw[if_pos c9]at h
    refine T_cFz 57 (bne_eq_false_iff_eq.mpr c9)<| T_kt<| T_srz 11<| T_nd 7 [1,2,15,57] [(60,vi d),(61,vi b),(63,vi (zY (e+1))),(65,vp (some (sA.add 1)))] ?_
    obtain⟨q11,h⟩:=h
    refine T_v1 66 (indexAtN 105 (vp (some (sA.add 1))) (vi d)) (vp (some ((sA.add 1).add (Int.toNat d*4)))) (λw _=>indexArr_run (P:=Tryz.prog) (t:=105) (elem:=104) (sz:=4) (n:=5) (a:=(sA.add 1)) (k:=.i64) (i:=d) Tryz.underlying105 (λ_=>by kernel_rfl) q11.1 q11.2 w) [60,65] ?_
    obtain⟨q12,h⟩:=h
    refine T_v1 67 (indexAtN 104 (vp (some ((sA.add 1).add (Int.toNat d*4)))) (vi b)) (vp (some (((sA.add 1).add (Int.toNat d*4)).add (Int.toNat b*1)))) (λw _=>indexArr_run (P:=Tryz.prog) (t:=104) (elem:=3) (sz:=1) (n:=4) (a:=((sA.add 1).add (Int.toNat d*4))) (k:=.i64) (i:=b) Tryz.underlying104 (λ_=>by kernel_rfl) q12.1 q12.2 w) [61,66] ?_
    obtain⟨q14,h⟩:=h
    refine T_st1 3 (vi (zY (e+1))) q14 ?_
    intro H6 e13
    replace h:=h H6 e13
    refine T_pd [63,67] []<| T_e<| T_srz 12<| T_nd 3 [0] [(70,vp (some sA))] ?_
    obtain⟨r,q15,h⟩:=h
    refine T_l1 71 103 q15 [70]<| T_nd 2 [3,14] [(72,vi e),(73,vi nv)]<| T_c (some 74) h ?_;clear h
    rintro y H7 ⟨o,p,rfl,h⟩
    refine⟨[(74,.tuple #[vi o,vi p])],pk,?_⟩
    exact T_nr 4 [8,9] [vi o,vi p] hQ h
   rw[if_neg c9]at h
   exact T_cTz 57 (bne_iff_ne.mpr c9)<| T_srz 10<| T_nr 3 [8,9] [vi 0,vi f] hQ h
  by_cases c16:rb=true
  ·rw[if_pos c16]at h
   have b17:rb=true:=c16
   refine S_env [(0,vp s),(1,vi d),(2,vi b),(3,vi nv),(10,vi ra),(32,.bool true)] (by simp only[b17,Bool.not_true,Bool.not_false]) ?_
   clear b17
   refine T_tz 32<| T_srz 5<| T_nd 1 [32] [(34,vp s)] ?_
   obtain⟨g,rfl,h⟩:=h
   refine T_nd 2 [0,34] [(0,vp (some g)),(36,vp (some g))] ?_
   obtain⟨q,q18,h⟩:=h
   refine T_l1 37 103 q18 [36]<| T_nd 2 [10] [(38,vi ra),(39,vi nv)]<| T_c (some 40) h ?_;clear h
   rintro z H8 ⟨j,l,rfl,h⟩
   refine T_pd [37,38,39] [(40,.tuple #[vi j,vi l])]<| T_ed 5 [40] [(12,vi j),(13,vi l)]<| T_srz 6<| T_ed 2 [13] [(44,.bool (l==0))] ?_
   by_cases c19:l=0
   ·rw[if_pos c19]at h
    exact T_cTz 44 (zK c19)<| T_srz 7<| T_nr 3 [8,9] [vi j,vi 0] hQ h
   rw[if_neg c19]at h
   exact T_cFz 44 (zJ c19)<| T_kt<| S_meet (():Unit) sk h
  rw[if_neg c16]at h
  have b17:rb=false:=zZ c16
  refine S_env [(0,vp s),(1,vi d),(2,vi b),(3,vi nv),(10,vi ra),(32,.bool false)] (by simp only[b17,Bool.not_true,Bool.not_false]) ?_
  clear b17
  exact T_fz 32<| T_kt<| S_meet (():Unit) sk h
 rw[if_neg c3]at h
 exact T_cTz 24 (congrArg Bool.not (zZ c3))<| T_srz 2<| T_nr 2 [8,9] [vi 0,vi 1] hQ h
end space_Space_Alloc

/-! moraine/space.New -/
namespace space_New
def K0:=Func.code Tryz.f66
end space_New
def space_New.pt(a:Int)(H:zV)(R:zw):Prop:=
 seg_New.C a H (λv H1=> ∃(ra:zW) (rb:Int),v=.tuple #[.pointer ra,.int .i64 rb]/\
 if rb=0 then(
 ∀(b:Nat) (H2:zV),b=H1.size->H2=H1.push (.cells #[.pointer ra,.int .i64 0,.int .i64 0,.int .i64 0,.int .i64 0,.int .i64 0,.int .i64 0,.int .i64 0,.int .i64 0,.int .i64 0,.int .i64 0,.int .i64 0,.int .i64 0,.int .i64 0,.int .i64 0,.int .i64 0,.int .i64 0,.int .i64 0,.int .i64 0,.int .i64 0,.int .i64 0] 107)->
 R (.tuple #[.pointer (some (ad b)),.int .i64 0]) H2)
 else
 R (.tuple #[.pointer none,.int .i64 rb]) H1)
namespace space_New
theorem link{a:Int}{H:zV}{R:zw}(h:pt a H R):C a H R:=by
 refine T_en K0 17 Tryz.func66 ?_
 intro w0 Q hQ
 unfold pt at h
 refine T_su [(0,vi a)]<| T_srz 0<| T_ed 2 [] []<| T_srz 1<| T_n 1 [(7,vi a)]<| T_c (some 8) h ?_;clear h
 rintro v H1 ⟨ra,rb,rfl,h⟩
 refine⟨[(8,.tuple #[vp ra,vi rb])],pk,?_⟩
 refine T_ne 5 [(4,vp ra),(5,vi rb)]<| T_sz<| T_srz 2<| T_ed 2 [] [(12,.bool (rb !=0))] ?_
 by_cases c1:rb=0
 ·rw[if_pos c1]at h
  refine T_cFz 12 (bne_eq_false_iff_eq.mpr c1)<| T_kt<| T_srz 4<| T_n 2 [(15,.agg #[vp ra,vi 0,vi 0,vi 0,vi 0,vi 0,vi 0,vi 0,vi 0,vi 0,vi 0,vi 0,vi 0,vi 0,vi 0,vi 0,vi 0,vi 0,vi 0,vi 0,vi 0])]<| T_nw (some 16) (λb=>vp (pa b)) (.cells #[vp ra,vi 0,vi 0,vi 0,vi 0,vi 0,vi 0,vi 0,vi 0,vi 0,vi 0,vi 0,vi 0,vi 0,vi 0,vi 0,vi 0,vi 0,vi 0,vi 0,vi 0] 107) ?_
  intro b H2 e3 e4
  replace h:=h b H2 e3 e4
  refine⟨[(16,vp (pa b))],pk,?_⟩
  exact T_nr 2 [2,3] [vp (pa b),vi 0] hQ h
 rw[if_neg c1]at h
 exact T_cTz 12 (bne_iff_ne.mpr c1)<| T_srz 3<| T_nr 3 [2,3] [vp none,vi rb] hQ h
end space_New

/-! (*moraine/space.Space).none -/
namespace space_Space_none
def K0:=Func.code Tryz.f82
end space_Space_none
def space_Space_none.pt(s:zW)(H:zV)(R:zw):Prop:=
 onPtr s (
 R (.bool true) H) (λsA=>
 ∃x:zW,hat H sA=some (.pointer x)/\
 onPtr x (
 R (.bool true) H) (λxA=>
 R (.bool false) H))
namespace space_Space_none
theorem link{s:zW}{H:zV}{R:zw}(h:pt s H R):C s H R:=by
 refine T_en K0 12 Tryz.func82 ?_
 intro w0 Q hQ
 unfold pt at h
 refine T_su [(0,vp s)]<| T_srz 0<| T_ed 1 [] []<| T_srz 1<| T_nd 1 [] [(3,vp s)] ?_
 rcases s with _ | sA
 ·rw[onPtr_none]at h
  exact T_nr 9 [2] [.bool true] hQ h
 rw[onPtr_some]at h
 refine T_n 5 [(5,.bool false),(8,vp (some sA))] ?_
 obtain⟨x,q1,h⟩:=h
 refine T_l1 9 103 q1 [8] ?_
 rcases x with _ | xA
 ·rw[onPtr_none]at h
  exact T_nr 3 [2] [.bool true] hQ h
 rw[onPtr_some]at h
 exact T_nr 3 [2] [.bool false] hQ h
end space_Space_none

/-! moraine/space.may -/
namespace space_may
def K0:=Func.code Tryz.f83
end space_may
def space_may.pt(b a nv:Int)(H:zV)(R:zw):Prop:=
 if((decide (b<0)) || (decide (b>4)))=true then(
 R (.bool false) H)
 else
 if((a==0) || (a==1))=true then(
 R (.bool (nv==2)) H)
 else
 R (.bool ((((a==2) || (a==3)) && (decide (nv>=1))) && (decide (nv<=63)))) H
namespace space_may
theorem link{b a nv:Int}{H:zV}{R:zw}(h:pt b a nv H R):C b a nv H R:=by
 refine T_en K0 37 Tryz.func83 ?_
 intro w0 Q hQ
 unfold pt at h
 refine T_su [(0,vi b),(1,vi a),(2,vi nv)]<| T_srz 0<| T_ed 1 [] []<| T_sz<| T_bz 0<| T_srz 1 ?_
 refine N_cut [(1,vi a),(2,vi nv),(7,.bool ((decide (b<0)) || (decide (b>4))))] ?_ ?_
 ·refine S_then ?_
  by_cases c3:((decide (b<0)) || (decide (b>4)))=true
  ·rw[if_pos c3]at h
   exact T_cTz 7 c3<| T_srz 2<| T_nr 1 [6] [.bool false] hQ h
  rw[if_neg c3]at h
  refine T_cFz 7 (zZ c3)<| T_srz 3 ?_
  refine N_cut [(1,vi a),(2,vi nv),(14,.bool ((a==0) || (a==1)))] ?_ ?_
  ·refine S_then ?_
   by_cases c7:((a==0) || (a==1))=true
   ·rw[if_pos c7]at h
    exact T_cTz 14 c7<| T_srz 4<| T_nr 3 [6] [.bool (nv==2)] hQ h
   rw[if_neg c7]at h
   refine T_cFz 14 (zZ c7)<| T_k<| S_blockEnd<| S_then<| T_srz 5 ?_
   refine N_cut [(6,.bool ((((a==2) || (a==3)) && (decide (nv>=1))) && (decide (nv<=63))))] ?_ ?_
   ·exact S_then<| T_ret [6] [.bool ((((a==2) || (a==3)) && (decide (nv>=1))) && (decide (nv<=63)))] hQ h
   intro hk
   refine T_n 3 [(1,vi a),(2,vi nv),(25,.bool (a==2))] ?_
   by_cases c9:a=2
   ·have b10:(a==2)=true:=zK c9
    refine N_env [(1,vi a),(2,vi nv),(25,.bool true)] (by rw[b10]) ?_
    refine T_nd 8 [1,25] [(33,.bool (decide (nv>=1)))] ?_
    by_cases c11:nv>=1
    ·have b12:(decide (nv>=1))=true:=zX c11
     refine N_bd 33 b12<| T_n 4 [(6,.bool (decide (nv<=63)))] ?_
     refine zq<| S_env [(6,.bool ((((a==2) || (a==3)) && (decide (nv>=1))) && (decide (nv<=63))))] (by simp only[b10,b12,BL]) ?_
     exact hk
    have b12:(decide (nv>=1))=false:=zQ c11
    refine N_bd 33 b12<| T_n 4 [(6,.bool false)] ?_
    refine zq<| S_env [(6,.bool ((((a==2) || (a==3)) && (decide (nv>=1))) && (decide (nv<=63))))] (by simp only[b10,b12,BL]) ?_
    exact hk
   have b10:(a==2)=false:=zJ c9
   refine N_env [(1,vi a),(2,vi nv),(25,.bool false)] (by rw[b10]) ?_
   refine T_nd 4 [1,25] [(29,.bool (a==3))] ?_
   by_cases c13:a=3
   ·have b14:(a==3)=true:=zK c13
    refine N_bd 29 b14<| T_nd 4 [29] [(33,.bool (decide (nv>=1)))] ?_
    by_cases c15:nv>=1
    ·have b16:(decide (nv>=1))=true:=zX c15
     refine N_bd 33 b16<| T_n 4 [(6,.bool (decide (nv<=63)))] ?_
     refine zq<| S_env [(6,.bool ((((a==2) || (a==3)) && (decide (nv>=1))) && (decide (nv<=63))))] (by simp only[b10,b14,b16,BL]) ?_
     exact hk
    have b16:(decide (nv>=1))=false:=zQ c15
    refine N_bd 33 b16<| T_n 4 [(6,.bool false)] ?_
    refine zq<| S_env [(6,.bool ((((a==2) || (a==3)) && (decide (nv>=1))) && (decide (nv<=63))))] (by simp only[b10,b14,b16,BL]) ?_
    exact hk
   have b14:(a==3)=false:=zJ c13
   refine N_bd 29 b14<| T_n 8 [(6,.bool false)] ?_
   refine zq<| S_env [(6,.bool ((((a==2) || (a==3)) && (decide (nv>=1))) && (decide (nv<=63))))] (by simp only[b10,b14,BL]) ?_
   exact hk
  intro hk
  refine T_n 3 [(1,vi a),(2,vi nv),(17,.bool (a==0))] ?_
  by_cases c5:a=0
  ·have b6:(a==0)=true:=zK c5
   refine N_env [(1,vi a),(2,vi nv),(17,.bool true)] (by rw[b6]) ?_
   refine T_nd 4 [17] [(14,.bool true)]<| zq<| S_bd 14 (b:=true) (v:=((a==0) || (a==1))) (by simp only[b6,BL]) ?_
   exact hk
  have b6:(a==0)=false:=zJ c5
  refine N_env [(1,vi a),(2,vi nv),(17,.bool false)] (by rw[b6]) ?_
  refine T_nd 4 [17] [(14,.bool (a==1))]<| zq<| S_bd 14 (b:=(a==1)) (v:=((a==0) || (a==1))) (by simp only[b6,BL]) ?_
  exact hk
 intro hk
 refine T_n 3 [(0,vi b),(1,vi a),(2,vi nv),(10,.bool (decide (b<0)))] ?_
 by_cases c1:b<0
 ·have b2:(decide (b<0))=true:=zX c1
  refine N_env [(0,vi b),(1,vi a),(2,vi nv),(10,.bool true)] (by rw[b2]) ?_
  refine T_nd 4 [0,10] [(7,.bool true)]<| zq<| S_bd 7 (b:=true) (v:=((decide (b<0)) || (decide (b>4)))) (by simp only[b2,BL]) ?_
  exact hk
 have b2:(decide (b<0))=false:=zQ c1
 refine N_env [(0,vi b),(1,vi a),(2,vi nv),(10,.bool false)] (by rw[b2]) ?_
 refine T_nd 4 [0,10] [(7,.bool (decide (b>4)))]<| zq<| S_bd 7 (b:=(decide (b>4))) (v:=((decide (b<0)) || (decide (b>4)))) (by simp only[b2,BL]) ?_
 exact hk
end space_may

/-! (*moraine/space.Space).Current -/
namespace space_Space_Current
def K0:=Func.code Tryz.f84
end space_Space_Current
def space_Space_Current.pt(s:zW)(d b:Int)(H:zV)(R:zw):Prop:=
 onPtr s (
 R (.tuple #[.int .i64 0,.bool false]) H) (λsA=>
 if d<0 then(
 R (.tuple #[.int .i64 0,.bool false]) H)
 else
 if d>4 then(
 R (.tuple #[.int .i64 0,.bool false]) H)
 else
 if b<0 then(
 R (.tuple #[.int .i64 0,.bool false]) H)
 else
 if b>3 then(
 R (.tuple #[.int .i64 0,.bool false]) H)
 else
 yX d 5/\
 yX b 4/\
 ∃x:Int,hat H (((sA.add 1).add (Int.toNat d*4)).add (Int.toNat b*1))=some (.int .i64 x)/\
 if x=0 then(
 R (.tuple #[.int .i64 0,.bool false]) H)
 else
 yX d 5/\
 yX b 4/\
 ∃e:Int,hat H (((sA.add 1).add (Int.toNat d*4)).add (Int.toNat b*1))=some (.int .i64 e)/\
 R (.tuple #[.int .i64 (zY (e-1)),.bool true]) H)
namespace space_Space_Current
theorem link{s:zW}{d b:Int}{H:zV}{R:zw}(h:pt s d b H R):C s d b H R:=by
 refine T_en K0 46 Tryz.func84 ?_
 intro w0 Q hQ
 unfold pt zY at h
 refine T_su [(0,vp s),(1,vi d),(2,vi b)]<| T_srz 0<| T_ed 2 [] []<| T_sz<| T_srz 1<| T_nd 1 [] [(8,vp s)] ?_
 rcases s with _ | sA
 ·rw[onPtr_none]at h
  exact T_ed 28 [0,8] [(0,vp none),(36,.bool true)]<| T_tz 36<| T_srz 2<| T_nr 2 [6,7] [vi 0,.bool false] hQ h
 rw[onPtr_some]at h
 refine T_nd 6 [0,8] [(0,vp (some sA)),(14,.bool (decide (d<0)))] ?_
 by_cases c1:d<0
 ·rw[if_pos c1]at h
  exact N_bd 14 (zX c1)<| T_ed 22 [14] [(36,.bool true)]<| T_tz 36<| T_srz 2<| T_nr 2 [6,7] [vi 0,.bool false] hQ h
 rw[if_neg c1]at h
 refine N_bd 14 (zQ c1)<| T_nd 4 [14] [(18,.bool (decide (d>4)))] ?_
 by_cases c3:d>4
 ·rw[if_pos c3]at h
  exact N_bd 18 (zX c3)<| T_ed 18 [18] [(36,.bool true)]<| T_tz 36<| T_srz 2<| T_nr 2 [6,7] [vi 0,.bool false] hQ h
 rw[if_neg c3]at h
 refine N_bd 18 (zQ c3)<| T_nd 4 [18] [(22,.bool (decide (b<0)))] ?_
 by_cases c5:b<0
 ·rw[if_pos c5]at h
  exact N_bd 22 (zX c5)<| T_ed 14 [22] [(36,.bool true)]<| T_tz 36<| T_srz 2<| T_nr 2 [6,7] [vi 0,.bool false] hQ h
 rw[if_neg c5]at h
 refine N_bd 22 (zQ c5)<| T_nd 4 [22] [(26,.bool (decide (b>3)))] ?_
 by_cases c7:b>3
 ·rw[if_pos c7]at h
  exact N_bd 26 (zX c7)<| T_ed 10 [26] [(36,.bool true)]<| T_tz 36<| T_srz 2<| T_nr 2 [6,7] [vi 0,.bool false] hQ h
 rw[if_neg c7]at h
 refine N_bd 26 (zQ c7)<| T_nd 5 [] [(28,vi d),(29,vi b),(31,vp (some (sA.add 1)))] ?_
 obtain⟨q9,h⟩:=h
 refine T_v1 32 (indexAtN 105 (vp (some (sA.add 1))) (vi d)) (vp (some ((sA.add 1).add (Int.toNat d*4)))) (λw _=>indexArr_run (P:=Tryz.prog) (t:=105) (elem:=104) (sz:=4) (n:=5) (a:=(sA.add 1)) (k:=.i64) (i:=d) Tryz.underlying105 (λ_=>by kernel_rfl) q9.1 q9.2 w) [28,31] ?_
 obtain⟨q10,h⟩:=h
 refine T_v1 33 (indexAtN 104 (vp (some ((sA.add 1).add (Int.toNat d*4)))) (vi b)) (vp (some (((sA.add 1).add (Int.toNat d*4)).add (Int.toNat b*1)))) (λw _=>indexArr_run (P:=Tryz.prog) (t:=104) (elem:=3) (sz:=1) (n:=4) (a:=((sA.add 1).add (Int.toNat d*4))) (k:=.i64) (i:=b) Tryz.underlying104 (λ_=>by kernel_rfl) q10.1 q10.2 w) [29,32] ?_
 obtain⟨x,q11,h⟩:=h
 refine T_l1 34 3 q11 [33]<| T_ed 2 [26,34] [(36,.bool (x==0))] ?_
 by_cases c12:x=0
 ·rw[if_pos c12]at h
  exact T_cTz 36 (zK c12)<| T_srz 2<| T_nr 2 [6,7] [vi 0,.bool false] hQ h
 rw[if_neg c12]at h
 refine T_cFz 36 (zJ c12)<| T_kt<| T_srz 3<| T_n 5 [(38,vi d),(39,vi b),(41,vp (some (sA.add 1)))] ?_
 obtain⟨q14,h⟩:=h
 refine T_v1 42 (indexAtN 105 (vp (some (sA.add 1))) (vi d)) (vp (some ((sA.add 1).add (Int.toNat d*4)))) (λw _=>indexArr_run (P:=Tryz.prog) (t:=105) (elem:=104) (sz:=4) (n:=5) (a:=(sA.add 1)) (k:=.i64) (i:=d) Tryz.underlying105 (λ_=>by kernel_rfl) q14.1 q14.2 w) [38,41] ?_
 obtain⟨q15,h⟩:=h
 refine T_v1 43 (indexAtN 104 (vp (some ((sA.add 1).add (Int.toNat d*4)))) (vi b)) (vp (some (((sA.add 1).add (Int.toNat d*4)).add (Int.toNat b*1)))) (λw _=>indexArr_run (P:=Tryz.prog) (t:=104) (elem:=3) (sz:=1) (n:=4) (a:=((sA.add 1).add (Int.toNat d*4))) (k:=.i64) (i:=b) Tryz.underlying104 (λ_=>by kernel_rfl) q15.1 q15.2 w) [39,42] ?_
 obtain⟨e,q16,h⟩:=h
 exact T_l1 44 3 q16 [43]<| T_nr 3 [6,7] [vi (zY (e-1)),.bool true] hQ h
end space_Space_Current

/-! moraine/card.New -/
namespace card_New
def K0:=Func.code Tryz.f40
end card_New
def card_New.pt(a:Int)(H:zV)(R:zw):Prop:=
 space_New.C a H (λv H1=> ∃(ra:zW) (rb:Int),v=.tuple #[.pointer ra,.int .i64 rb]/\
 if rb=0 then(
 ∀(b:Nat) (H2:zV),b=H1.size->H2=H1.push (.cells #[.pointer ra] 101)->
 R (.tuple #[.pointer (some (ad b)),.int .i64 0]) H2)
 else
 R (.tuple #[.pointer none,.int .i64 rb]) H1)
namespace card_New
theorem link{a:Int}{H:zV}{R:zw}(h:pt a H R):C a H R:=by
 refine T_en K0 17 Tryz.func40 ?_
 intro w0 Q hQ
 unfold pt at h
 refine T_su [(0,vi a)]<| T_srz 0<| T_ed 2 [] []<| T_srz 1<| T_n 1 [(7,vi a)]<| T_c (some 8) h ?_;clear h
 rintro v H1 ⟨ra,rb,rfl,h⟩
 refine⟨[(8,.tuple #[vp ra,vi rb])],pk,?_⟩
 refine T_ne 5 [(4,vp ra),(5,vi rb)]<| T_sz<| T_srz 2<| T_ed 2 [] [(12,.bool (rb !=0))] ?_
 by_cases c1:rb=0
 ·rw[if_pos c1]at h
  refine T_cFz 12 (bne_eq_false_iff_eq.mpr c1)<| T_kt<| T_srz 4<| T_n 2 [(15,.agg #[vp ra])]<| T_nw (some 16) (λb=>vp (pa b)) (.cells #[vp ra] 101) ?_
  intro b H2 e3 e4
  replace h:=h b H2 e3 e4
  refine⟨[(16,vp (pa b))],pk,?_⟩
  exact T_nr 2 [2,3] [vp (pa b),vi 0] hQ h
 rw[if_neg c1]at h
 exact T_cTz 12 (bne_iff_ne.mpr c1)<| T_srz 3<| T_nr 3 [2,3] [vp none,vi rb] hQ h
end card_New

/-! (*moraine/card.Cards).Store -/
namespace card_Cards_Store
def K0:=Func.code Tryz.f95
def K2:=cb K0
def K4:=cb K2
def K12:=cb K4
def K20:=cb K12
def K22:=cb K20
def K23:=ca K22
end card_Cards_Store
def card_Cards_Store.pt(c:zW)(d wv:Int)(H:zV)(R:zw):Prop:=
 card_Cards_none.C c H (λv H1=> ∃x:Bool,v=.bool x/\
 if x=true then(
 R (.int .i64 18) H1)
 else
 ∃cA:Addr,c=some cA/\
 ∃ai:zW,hat H1 cA=some (.pointer ai)/\
 ∃al:Addr,ai=some al/\
 ∃ag:zW,hat H1 al=some (.pointer ag)/\
 seg_Mem_Write.C ag d wv H1 (λap H2=> ∃aa:Int,ap=.int .i64 aa/\
 if aa=0 then(
 ∃ak:zW,hat H2 cA=some (.pointer ak)/\
 ∃aj:Addr,ak=some aj/\
 ∃af:zW,hat H2 aj=some (.pointer af)/\
 seg_Mem_Seg.C af (zY (Int.tdiv d 64)) H2 (λaq H3=> ∃(z r ac o p m l:Int) (rb:Bool),aq=.tuple #[.agg #[.int .i64 z,.int .i64 r,.int .i64 ac,.int .i64 o,.int .i64 p,.int .i64 m,.int .i64 l],.bool rb]/\
 ∀(b:Nat) (H4:zV),b=H3.size->H4=H3.push (.cells #[.int .i64 0,.int .i64 0,.int .i64 0,.int .i64 0,.int .i64 0,.int .i64 0,.int .i64 0] 158)->
 (CanPuts H4 (ad b) 0 7)/\ ∀H5,H5=hputs H4 (ad b) [.int .i64 z,.int .i64 r,.int .i64 ac,.int .i64 o,.int .i64 p,.int .i64 m,.int .i64 l] 0->
 ∃am:zW,hat H5 cA=some (.pointer am)/\
 ∃y:Addr,am=some y/\
 ∃s:zW,hat H5 y=some (.pointer s)/\
 ∃u q xN e j g f:Int,RowAt H5 (ad b) 0 [.int .i64 u,.int .i64 q,.int .i64 xN,.int .i64 e,.int .i64 j,.int .i64 g,.int .i64 f]/\
 ((0:Int)<=(zY (Int.tdiv (Int.tmod d 64) 16))/\(zY (Int.tdiv (Int.tmod d 64) 16))< (4:Int))/\
 ∃ae:Int,hat H5 (((ad b).add 3).add (Int.toNat (zY (Int.tdiv (Int.tmod d 64) 16))*1))=some (.int .i64 ae)/\
 card_Cards_younger.C (some cA) u q xN e j g f wv ae H5 (λao H6=> ∃ah:Int,ao=.int .i64 ah/\RowAt H6 cA 0 [.pointer (some y)]/\RowAt H6 y 0 [.pointer s]/\
 seg_Mem_Mark.C s (zY (Int.tdiv d 64)) (zY (Int.tdiv (Int.tmod d 64) 16)) ah H6 (λan H7=> ∃ab:Int,an=.int .i64 ab/\
 R (.int .i64 ab) H7))))
 else
 R (.int .i64 aa) H2))
namespace card_Cards_Store
theorem link{c:zW}{d wv:Int}{H:zV}{R:zw}(h:pt c d wv H R):C c d wv H R:=by
 refine T_en K0 62 Tryz.func95 ?_
 intro w0 Q hQ
 unfold pt zY at h
 refine T_su [(0,vp c),(1,vi d),(2,vu wv)]<| T_srz 0<| T_ed 1 [] []<| T_sz<| T_srz 1<| T_nd 1 [] [(12,vp c)]<| T_c (some 13) h ?_;clear h
 rintro v H1 ⟨x,rfl,h⟩
 refine T_pd [12] [(13,.bool x)]<| T_e ?_
 by_cases c1:x=true
 ·rw[if_pos c1]at h
  exact T_cTz 13 c1<| T_srz 2<| T_nr 1 [6] [vi 18] hQ h
 rw[if_neg c1]at h
 refine T_cFz 13 (zZ c1)<| T_kt<| T_sz<| T_srz 3<| T_nd 1 [13] [(14,vp c)] ?_
 obtain⟨cA,rfl,h⟩:=h
 refine T_nd 2 [0,14] [(0,vp (some cA)),(16,vp (some cA))] ?_
 obtain⟨ai,q3,h⟩:=h
 refine T_l1 17 99 q3 [16] ?_
 obtain⟨al,rfl,h⟩:=h
 refine T_nd 2 [17] [(19,vp (some al))] ?_
 obtain⟨ag,q4,h⟩:=h
 refine T_l1 20 103 q4 [19]<| T_nd 2 [] [(21,vi d),(22,vu wv)]<| T_c (some 23) h ?_;clear h
 rintro ap H2 ⟨aa,rfl,h⟩
 refine T_pd [20,21,22] [(23,vi aa)]<| T_ed 1 [23] [(7,vi aa)]<| T_srz 4<| T_ed 2 [] [(25,.bool (aa !=0))] ?_
 by_cases c5:aa=0
 ·rw[if_pos c5]at h
  refine T_cFz 25 (bne_eq_false_iff_eq.mpr c5)<| T_kt<| T_srz 6<| T_ed 7 [1,7,25] [(8,vi (zY (Int.tdiv d 64))),(9,vi (zY (Int.tdiv (Int.tmod d 64) 16)))]<| T_srz 7<| T_nd 3 [] [(35,vp (some cA))] ?_
  obtain⟨ak,q7,h⟩:=h
  refine T_l1 36 99 q7 [35] ?_
  obtain⟨aj,rfl,h⟩:=h
  refine T_nd 2 [36] [(38,vp (some aj))] ?_
  obtain⟨af,q8,h⟩:=h
  refine T_l1 39 103 q8 [38]<| T_nd 1 [] [(40,vi (zY (Int.tdiv d 64)))]<| T_c (some 41) h ?_;clear h
  rintro aq H3 ⟨z,r,ac,o,p,m,l,rb,rfl,h⟩
  refine T_pd [39,40] [(41,.tuple #[.agg #[vi z,vi r,vi ac,vi o,vi p,vi m,vi l],.bool rb])]<| T_nd 3 [41] [(42,.agg #[vi z,vi r,vi ac,vi o,vi p,vi m,vi l]),(43,.bool rb)]<| T_nw (some 10) (λb=>vp (pa b)) (.cells #[vi 0,vi 0,vi 0,vi 0,vi 0,vi 0,vi 0] 158) ?_
  intro b H4 e9 e10
  replace h:=h b H4 e9 e10
  refine T_pd [] [(10,vp (pa b))] ?_
  obtain⟨q12,h⟩:=h
  refine T_sta 158 [vi z,vi r,vi ac,vi o,vi p,vi m,vi l] q12 ?_
  intro H5 e11
  replace h:=h H5 e11
  refine T_pd [42] []<| T_ed 1 [43] []<| T_sz ?_
  obtain⟨am,q13,y,rfl,s,q14,u,q,xN,e,j,g,f,q15,q16,ae,q17,h⟩:=h
  refine yk 8 (Code.ops K23) [(17,cA,[vp (some y)]),(17,y,[vp s]),(16,(ad b),[vi u,vi q,vi xN,vi e,vi j,vi g,vi f]),(16,(((ad b).add 3).add (Int.toNat (zY (Int.tdiv (Int.tmod d 64) 16))*1)),[vi ae])] 19 (bv 19 0) (show FactsAt _ _ _ from⟨⟨q13,trivial⟩,⟨q14,trivial⟩,q15,⟨q17,trivial⟩,trivial⟩)<| T_gp 0 (some 44) (vp (some cA)) (bv 19 1) [(0,vp (some cA)),(2,vu wv),(8,vi (zY (Int.tdiv d 64))),(9,vi (zY (Int.tdiv (Int.tmod d 64) 16))),(10,vp (pa b)),(44,vp (some cA))]<| T_gp1 1 45 (vp (some cA)) (bv 19 3) [44]<| T_gp1 2 46 (vp (some cA)) (bv 19 7) [45]<| T_g1 3 47 (vp (some y)) (bv 19 15) [46] (loadN 99 (vp (some cA))) (yj 17 yQ)<| T_gp1 4 48 (vp (some y)) (bv 19 31) [47]<| T_gp1 5 49 (vp (some y)) (bv 19 63) [48]<| T_g1 6 50 (vp s) (bv 19 127) [49] (loadN 103 (vp (some y))) (yj 17 yJ)<| T_gp1 7 51 (vi (zY (Int.tdiv d 64))) (bv 19 255) [8]<| T_gp1 8 52 (vi (zY (Int.tdiv (Int.tmod d 64) 16))) (bv 19 511) []<| T_gp1 9 53 (vp (some cA)) (bv 19 1023) [0]<| T_g1 10 54 (.agg #[vi u,vi q,vi xN,vi e,vi j,vi g,vi f]) (bv 19 2047) [] (loadN 158 (vp (pa b))) (held_row 16 (λ_=>by kernel_rfl) (λ_=>by kernel_rfl) yK (.inl (by kernel_rfl)))<| T_gp1 11 55 (vu wv) (bv 19 4095) [2]<| T_gp1 12 56 (vi (zY (Int.tdiv (Int.tmod d 64) 16))) (bv 19 8191) [9]<| T_gp1 13 57 (vp (some ((ad b).add 3))) (bv 19 16383) [10]<| T_g1 14 58 (vp (some (((ad b).add 3).add (Int.toNat (zY (Int.tdiv (Int.tmod d 64) 16))*1)))) (bv 19 32767) [56,57] (indexAtN 104 (vp (some ((ad b).add 3))) (vi (zY (Int.tdiv (Int.tmod d 64) 16)))) (λ_ w _ _ _=>indexArr_run (P:=Tryz.prog) (t:=104) (elem:=3) (sz:=1) (n:=4) (a:=((ad b).add 3)) (k:=.i64) (i:=(zY (Int.tdiv (Int.tmod d 64) 16))) Tryz.underlying104 (λ_=>by kernel_rfl) q16.1 q16.2 w)<| T_g1 15 59 (vi ae) (bv 19 65535) [58] (loadN 3 (vp (some (((ad b).add 3).add (Int.toNat (zY (Int.tdiv (Int.tmod d 64) 16))*1))))) (yj 16 yV)<| yv 16 (some 60) (bv 19 131071) 127 #[vp (some cA),.agg #[vi u,vi q,vi xN,vi e,vi j,vi g,vi f],vu wv,vi ae] h ?_;clear h
  rintro ao H6 ⟨ah,rfl,f18,f19,h⟩
  refine⟨[(50,vp s),(51,vi (zY (Int.tdiv d 64))),(52,vi (zY (Int.tdiv (Int.tmod d 64) 16))),(60,vi ah)],pk,(show FactsAt _ _ _ from⟨f18,f19,trivial,trivial,trivial⟩),?_⟩
  refine yv 17 (some 61) (bv 19 262143) 126 #[vp s,vi (zY (Int.tdiv d 64)),vi (zY (Int.tdiv (Int.tmod d 64) 16)),vi ah] h ?_;clear h
  rintro an H7 ⟨ab,rfl,h⟩
  refine⟨[(61,vi ab)],pk,(show FactsAt _ _ _ from⟨trivial,trivial,trivial,trivial,trivial⟩),?_⟩
  exact T_g 18 (some 6) (vi ab) (bv 19 524287) [(6,vi ab)] (pure (.value (vi ab)):Sem Next) (λ_ _ _ _ _=>rfl)<| G_sub [(6,vi ab)] sk<| yw<| S_then<| T_ret [6] [vi ab] hQ h
 rw[if_neg c5]at h
 exact T_cTz 25 (bne_iff_ne.mpr c5)<| T_srz 5<| T_nr 2 [6] [vi aa] hQ h
end card_Cards_Store

/-! (*moraine/card.Cards).none -/
namespace card_Cards_none
def K0:=Func.code Tryz.f125
end card_Cards_none
def card_Cards_none.pt(c:zW)(H:zV)(R:zw):Prop:=
 onPtr c (
 R (.bool true) H) (λcA=>
 ∃x:zW,hat H cA=some (.pointer x)/\
 onPtr x (
 R (.bool true) H) (λxA=>
 ∃b:zW,hat H cA=some (.pointer b)/\
 ∃d:Addr,b=some d/\
 ∃a:zW,hat H d=some (.pointer a)/\
 onPtr a (
 R (.bool true) H) (λe=>
 R (.bool false) H)))
namespace card_Cards_none
theorem link{c:zW}{H:zV}{R:zw}(h:pt c H R):C c H R:=by
 refine T_en K0 22 Tryz.func125 ?_
 intro w0 Q hQ
 unfold pt at h
 refine T_su [(0,vp c)]<| T_srz 0<| T_ed 1 [] []<| T_srz 1<| T_nd 1 [] [(3,vp c)] ?_
 rcases c with _ | cA
 ·rw[onPtr_none]at h
  exact T_nr 19 [2] [.bool true] hQ h
 rw[onPtr_some]at h
 refine T_n 5 [(0,vp (some cA)),(5,.bool false),(8,vp (some cA))] ?_
 obtain⟨x,q1,h⟩:=h
 refine T_l1 9 99 q1 [8] ?_
 rcases x with _ | xA
 ·rw[onPtr_none]at h
  exact T_nr 13 [2] [.bool true] hQ h
 rw[onPtr_some]at h
 refine T_n 6 [(12,.bool false),(15,vp (some cA))] ?_
 obtain⟨b,q2,h⟩:=h
 refine T_l1 16 99 q2 [15] ?_
 obtain⟨d,rfl,h⟩:=h
 refine T_nd 2 [16] [(18,vp (some d))] ?_
 obtain⟨a,q3,h⟩:=h
 refine T_l1 19 103 q3 [18] ?_
 rcases a with _ | e
 ·rw[onPtr_none]at h
  exact T_nr 3 [2] [.bool true] hQ h
 rw[onPtr_some]at h
 exact T_nr 3 [2] [.bool false] hQ h
end card_Cards_none

/-! (*moraine/card.Cards).younger -/
namespace card_Cards_younger
def K0:=Func.code Tryz.f127
end card_Cards_younger
def card_Cards_younger.pt(c:zW)(k i sN g f d e wv a:Int)(H:zV)(R:zw):Prop:=
 ∀(b:Nat) (H1:zV),b=H.size->H1=H.push (.cells #[.int .i64 k,.int .i64 i,.int .i64 sN,.int .i64 g,.int .i64 f,.int .i64 d,.int .i64 e] 158)->
 card_Cards_Gen.C c wv H1 (λv H2=> ∃(ra:Int) (rb:Bool),v=.tuple #[.int .i64 ra,.bool rb]/\
 if rb=true then(
 ∃x:Int,hat H2 ((ad b).add 1)=some (.int .i64 x)/\
 if x=3 then(
 R (.int .i64 a) H2)
 else
 ∃j:Int,hat H2 (ad b)=some (.int .i64 j)/\
 if ra<j then(
 R (.int .i64 (if ra<a then ra else a)) H2)
 else
 R (.int .i64 a) H2)
 else
 R (.int .i64 a) H2)
namespace card_Cards_younger
theorem link{c:zW}{k i sN g f d e wv a:Int}{H:zV}{R:zw}(h:pt c k i sN g f d e wv a H R):C c k i sN g f d e wv a H R:=by
 refine T_en K0 33 Tryz.func127 ?_
 intro w0 Q hQ
 unfold pt at h
 refine T_su [(0,vp c),(1,.agg #[vi k,vi i,vi sN,vi g,vi f,vi d,vi e]),(2,vu wv),(3,vi a)]<| T_srz 0<| T_nw (some 5) (λb=>vp (pa b)) (.cells #[vi k,vi i,vi sN,vi g,vi f,vi d,vi e] 158) ?_
 intro b H1 e1 e2
 replace h:=h b H1 e1 e2
 refine T_pd [1] [(5,vp (pa b))]<| T_ed 1 [] []<| T_sz<| T_srz 1<| T_nd 2 [0,2] [(12,vp c),(13,vu wv)]<| T_c (some 14) h ?_;clear h
 rintro v H2 ⟨ra,rb,rfl,h⟩
 refine T_pd [12,13] [(14,.tuple #[vi ra,.bool rb])]<| T_ed 5 [14] [(9,vi ra),(10,.bool rb)]<| T_srz 2<| T_nd 2 [10] [(18,.bool rb)] ?_
 by_cases c3:rb=true
 ·rw[if_pos c3]at h
  refine N_bd 18 c3<| T_nd 1 [] [(19,vp (some ((ad b).add 1)))] ?_
  obtain⟨x,q5,h⟩:=h
  refine T_l1 20 3 q5 [19]<| T_nd 3 [18,20] [(23,.bool (x !=3))] ?_
  by_cases c6:x=3
  ·rw[if_pos c6]at h
   exact N_bd 23 (bne_eq_false_iff_eq.mpr c6)<| T_ed 5 [5,23] [(28,.bool false)]<| T_fz 28<| T_kt<| T_srz 4<| T_nr 2 [8] [vi a] hQ h
  rw[if_neg c6]at h
  refine N_bd 23 (bne_iff_ne.mpr c6)<| T_nd 2 [5] [(24,vi ra),(25,vp (pa b))] ?_
  obtain⟨j,q8,h⟩:=h
  refine T_l1 26 3 q8 [25]<| T_ed 2 [23,24,26] [(28,.bool (decide (ra<j)))] ?_
  by_cases c9:ra<j
  ·rw[if_pos c9]at h
   exact T_cTz 28 (zX c9)<| T_srz 3<| T_nr 4 [8] [vi (if ra<a then ra else a)] hQ h
  rw[if_neg c9]at h
  exact T_cFz 28 (zQ c9)<| T_kt<| T_srz 4<| T_nr 2 [8] [vi a] hQ h
 rw[if_neg c3]at h
 exact N_bd 18 (zZ c3)<| T_ed 10 [5,18] [(28,.bool false)]<| T_fz 28<| T_kt<| T_srz 4<| T_nr 2 [8] [vi a] hQ h
end card_Cards_younger

/-! (*moraine/card.Cards).Gen -/
namespace card_Cards_Gen
def K0:=Func.code Tryz.f142
end card_Cards_Gen
def card_Cards_Gen.pt(c:zW)(wv:Int)(H:zV)(R:zw):Prop:=
 word_Addr.C wv H (λv H1=> ∃(ra:Int) (rb:Bool),v=.tuple #[.int .i64 ra,.bool rb]/\
 card_Cards_none.C c H1 (λr H2=> ∃x:Bool,r=.bool x/\
 if x=true then(
 R (.tuple #[.int .i64 0,.bool false]) H2)
 else
 if rb=true then(
 word_Tag.C wv H2 (λs H3=> ∃l:Int,s=.int .i64 l/\
 if l=6 then(
 R (.tuple #[.int .i64 0,.bool false]) H3)
 else
 ∃cA:Addr,c=some cA/\
 ∃o:zW,hat H3 cA=some (.pointer o)/\
 ∃p:Addr,o=some p/\
 ∃n:zW,hat H3 p=some (.pointer n)/\
 seg_Mem_Seg.C n (zY (Int.tdiv ra 64)) H3 (λq H4=> ∃(j g k e f d a:Int) (i:Bool),q=.tuple #[.agg #[.int .i64 j,.int .i64 g,.int .i64 k,.int .i64 e,.int .i64 f,.int .i64 d,.int .i64 a],.bool i]/\
 ∀(b:Nat) (H5:zV),b=H4.size->H5=H4.push (.cells #[.int .i64 0,.int .i64 0,.int .i64 0,.int .i64 0,.int .i64 0,.int .i64 0,.int .i64 0] 158)->
 (CanPuts H5 (ad b) 0 7)/\ ∀H6,H6=hputs H5 (ad b) [.int .i64 j,.int .i64 g,.int .i64 k,.int .i64 e,.int .i64 f,.int .i64 d,.int .i64 a] 0->
 ∃m:Int,hat H6 (ad b)=some (.int .i64 m)/\
 R (.tuple #[.int .i64 m,.bool i]) H6)))
 else
 R (.tuple #[.int .i64 0,.bool false]) H2))
namespace card_Cards_Gen
theorem link{c:zW}{wv:Int}{H:zV}{R:zw}(h:pt c wv H R):C c wv H R:=by
 refine T_en K0 41 Tryz.func142 ?_
 intro w0 Q hQ
 unfold pt zY at h
 refine T_su [(0,vp c),(1,vu wv)]<| T_srz 0<| T_ed 2 [] []<| T_srz 1<| T_nd 1 [] [(10,vu wv)]<| T_c (some 11) h ?_;clear h
 rintro v H1 ⟨ra,rb,rfl,h⟩
 refine T_pd [10] [(11,.tuple #[vi ra,.bool rb])]<| T_ed 5 [11] [(6,vi ra),(7,.bool rb)]<| T_sz<| T_srz 2<| T_nd 1 [] [(14,vp c)]<| T_c (some 15) h ?_;clear h
 rintro r H2 ⟨x,rfl,h⟩
 refine T_pd [14] [(15,.bool x)]<| T_nd 1 [15] [(16,.bool x)] ?_
 by_cases c1:x=true
 ·rw[if_pos c1]at h
  exact N_bd 16 c1<| T_ed 8 [1,7,16] [(24,.bool true)]<| T_tz 24<| T_srz 3<| T_nr 2 [4,5] [vi 0,.bool false] hQ h
 rw[if_neg c1]at h
 refine N_bd 16 (zZ c1)<| T_nd 4 [7,16] [(20,.bool (!rb))] ?_
 by_cases c3:rb=true
 ·rw[if_pos c3]at h
  have b4:(!rb)=false:=congrArg Bool.not (c3)
  have b42:rb=true:=c3
  refine N_bd 20 (b:=(!rb)) (v:=false) (by simp only[b4,b42,Bool.not_true,Bool.not_false]) ?_
  clear b4 b42
  refine T_nd 1 [1] [(21,vu wv)]<| T_c (some 22) h ?_;clear h
  rintro s H3 ⟨l,rfl,h⟩
  refine T_pd [21] [(22,vi l)]<| T_ed 2 [20,22] [(24,.bool (l==6))] ?_
  by_cases c5:l=6
  ·rw[if_pos c5]at h
   exact T_cTz 24 (zK c5)<| T_srz 3<| T_nr 2 [4,5] [vi 0,.bool false] hQ h
  rw[if_neg c5]at h
  refine T_cFz 24 (zJ c5)<| T_kt<| T_srz 4<| T_nd 1 [0,24] [(26,vp c)] ?_
  obtain⟨cA,rfl,h⟩:=h
  refine T_nd 2 [26] [(28,vp (some cA))] ?_
  obtain⟨o,q7,h⟩:=h
  refine T_l1 29 99 q7 [28] ?_
  obtain⟨p,rfl,h⟩:=h
  refine T_nd 2 [29] [(31,vp (some p))] ?_
  obtain⟨n,q8,h⟩:=h
  refine T_l1 32 103 q8 [31]<| T_nd 2 [6] [(34,vi (zY (Int.tdiv ra 64)))]<| T_c (some 35) h ?_;clear h
  rintro q H4 ⟨j,g,k,e,f,d,a,i,rfl,h⟩
  refine⟨[(35,.tuple #[.agg #[vi j,vi g,vi k,vi e,vi f,vi d,vi a],.bool i])],pk,?_⟩
  refine T_n 3 [(36,.agg #[vi j,vi g,vi k,vi e,vi f,vi d,vi a]),(37,.bool i)]<| T_nw (some 8) (λb=>vp (pa b)) (.cells #[vi 0,vi 0,vi 0,vi 0,vi 0,vi 0,vi 0] 158) ?_
  intro b H5 e9 e10
  replace h:=h b H5 e9 e10
  refine T_pd [] [(8,vp (pa b))] ?_
  obtain⟨q12,h⟩:=h
  refine T_sta 158 [vi j,vi g,vi k,vi e,vi f,vi d,vi a] q12 ?_
  intro H6 e11
  replace h:=h H6 e11
  refine T_pd [36] []<| T_ed 1 [37] [(7,.bool i)]<| T_srz 5<| T_nd 1 [8] [(38,vp (pa b))] ?_
  obtain⟨m,q13,h⟩:=h
  exact T_l1 39 3 q13 [38]<| T_nr 3 [4,5] [vi m,.bool i] hQ h
 rw[if_neg c3]at h
 have b4:(!rb)=true:=congrArg Bool.not (zZ c3)
 have b42:rb=false:=zZ c3
 refine N_bd 20 (b:=(!rb)) (v:=true) (by simp only[b4,b42,Bool.not_true,Bool.not_false]) ?_
 clear b4 b42
 exact T_ed 4 [1,20] [(24,.bool true)]<| T_tz 24<| T_srz 3<| T_nr 2 [4,5] [vi 0,.bool false] hQ h
end card_Cards_Gen

/-! (*moraine/obj.Heap).Cons -/
namespace obj_Heap_Cons
def K0:=Func.code Tryz.f12
end obj_Heap_Cons
def obj_Heap_Cons.pt(hv:zW)(d a:Int)(H:zV)(R:zw):Prop:=
 ∀(b:Nat) (H1:zV),b=H.size->H1=H.push (.cells #[.int .u64 d,.int .u64 a] 31)->
 obj_Heap_put.C hv 0 1 (some (ad b)) 2 2 H1 (λv H2=> ∃ra rb:Int,v=.tuple #[.int .u64 ra,.int .i64 rb]/\
 R (.tuple #[.int .u64 ra,.int .i64 rb]) H2)
namespace obj_Heap_Cons
theorem link{hv:zW}{d a:Int}{H:zV}{R:zw}(h:pt hv d a H R):C hv d a H R:=by
 refine T_en K0 15 Tryz.func12 ?_
 intro w0 Q hQ
 unfold pt at h
 refine T_su [(0,vp hv),(1,vu d),(2,vu a)]<| T_srz 0<| T_ed 2 [] []<| T_srz 1<| T_n 3 [(8,vp hv),(9,vu d),(10,vu a)]<| T_nw (some 11) (λb=>vs (pa b) 2 2) (.cells #[vu d,vu a] 31) ?_
 intro b H1 e1 e2
 replace h:=h b H1 e1 e2
 refine T_pd [9,10] [(11,vs (pa b) 2 2)]<| T_c (some 12) h ?_;clear h
 rintro v H2 ⟨ra,rb,rfl,h⟩
 refine⟨[(12,.tuple #[vu ra,vi rb])],pk,?_⟩
 exact T_nr 4 [6,7] [vu ra,vi rb] hQ h
end obj_Heap_Cons

/-! (*moraine/obj.Heap).Weak -/
namespace obj_Heap_Weak
def K0:=Func.code Tryz.f26
end obj_Heap_Weak
def obj_Heap_Weak.pt(hv:zW)(d a:Int)(H:zV)(R:zw):Prop:=
 ∀(b:Nat) (H1:zV),b=H.size->H1=H.push (.cells #[.int .u64 d,.int .u64 a] 31)->
 obj_Heap_put.C hv 1 2 (some (ad b)) 2 2 H1 (λv H2=> ∃ra rb:Int,v=.tuple #[.int .u64 ra,.int .i64 rb]/\
 R (.tuple #[.int .u64 ra,.int .i64 rb]) H2)
namespace obj_Heap_Weak
theorem link{hv:zW}{d a:Int}{H:zV}{R:zw}(h:pt hv d a H R):C hv d a H R:=by
 refine T_en K0 15 Tryz.func26 ?_
 intro w0 Q hQ
 unfold pt at h
 refine T_su [(0,vp hv),(1,vu d),(2,vu a)]<| T_srz 0<| T_ed 2 [] []<| T_srz 1<| T_n 3 [(8,vp hv),(9,vu d),(10,vu a)]<| T_nw (some 11) (λb=>vs (pa b) 2 2) (.cells #[vu d,vu a] 31) ?_
 intro b H1 e1 e2
 replace h:=h b H1 e1 e2
 refine T_pd [9,10] [(11,vs (pa b) 2 2)]<| T_c (some 12) h ?_;clear h
 rintro v H2 ⟨ra,rb,rfl,h⟩
 refine⟨[(12,.tuple #[vu ra,vi rb])],pk,?_⟩
 exact T_nr 4 [6,7] [vu ra,vi rb] hQ h
end obj_Heap_Weak

/-! (*moraine/obj.Heap).SetCdr -/
namespace obj_Heap_SetCdr
def K0:=Func.code Tryz.f32
end obj_Heap_SetCdr
def obj_Heap_SetCdr.pt(hv:zW)(wv v:Int)(H:zV)(R:zw):Prop:=
 obj_Heap_set.C hv wv 1 v H (λa H1=> ∃x:Int,a=.int .i64 x/\
 R (.int .i64 x) H1)
namespace obj_Heap_SetCdr
theorem link{hv:zW}{wv v:Int}{H:zV}{R:zw}(h:pt hv wv v H R):C hv wv v H R:=by
 refine T_en K0 11 Tryz.func32 ?_
 intro w0 Q hQ
 unfold pt at h
 refine T_su [(0,vp hv),(1,vu wv),(2,vu v)]<| T_srz 0<| T_ed 1 [] []<| T_srz 1<| T_n 3 [(7,vp hv),(8,vu wv),(9,vu v)]<| T_c (some 10) h ?_;clear h
 rintro a H1 ⟨x,rfl,h⟩
 refine⟨[(10,vi x)],pk,?_⟩
 exact T_nr 1 [6] [vi x] hQ h
end obj_Heap_SetCdr

/-! (*moraine/obj.Heap).Cdr -/
namespace obj_Heap_Cdr
def K0:=Func.code Tryz.f41
end obj_Heap_Cdr
def obj_Heap_Cdr.pt(hv:zW)(wv:Int)(H:zV)(R:zw):Prop:=
 obj_Heap_half.C hv wv 1 H (λv H1=> ∃ra rb:Int,v=.tuple #[.int .u64 ra,.int .i64 rb]/\
 R (.tuple #[.int .u64 ra,.int .i64 rb]) H1)
namespace obj_Heap_Cdr
theorem link{hv:zW}{wv:Int}{H:zV}{R:zw}(h:pt hv wv H R):C hv wv H R:=by
 refine T_en K0 11 Tryz.func41 ?_
 intro w0 Q hQ
 unfold pt at h
 refine T_su [(0,vp hv),(1,vu wv)]<| T_srz 0<| T_ed 2 [] []<| T_srz 1<| T_n 2 [(6,vp hv),(7,vu wv)]<| T_c (some 8) h ?_;clear h
 rintro v H1 ⟨ra,rb,rfl,h⟩
 refine⟨[(8,.tuple #[vu ra,vi rb])],pk,?_⟩
 exact T_nr 4 [4,5] [vu ra,vi rb] hQ h
end obj_Heap_Cdr

/-! (*moraine/obj.Heap).Car -/
namespace obj_Heap_Car
def K0:=Func.code Tryz.f46
end obj_Heap_Car
def obj_Heap_Car.pt(hv:zW)(wv:Int)(H:zV)(R:zw):Prop:=
 obj_Heap_half.C hv wv 0 H (λv H1=> ∃ra rb:Int,v=.tuple #[.int .u64 ra,.int .i64 rb]/\
 R (.tuple #[.int .u64 ra,.int .i64 rb]) H1)
namespace obj_Heap_Car
theorem link{hv:zW}{wv:Int}{H:zV}{R:zw}(h:pt hv wv H R):C hv wv H R:=by
 refine T_en K0 11 Tryz.func46 ?_
 intro w0 Q hQ
 unfold pt at h
 refine T_su [(0,vp hv),(1,vu wv)]<| T_srz 0<| T_ed 2 [] []<| T_srz 1<| T_n 2 [(6,vp hv),(7,vu wv)]<| T_c (some 8) h ?_;clear h
 rintro v H1 ⟨ra,rb,rfl,h⟩
 refine⟨[(8,.tuple #[vu ra,vi rb])],pk,?_⟩
 exact T_nr 4 [4,5] [vu ra,vi rb] hQ h
end obj_Heap_Car

/-! (*moraine/obj.Heap).set -/
namespace obj_Heap_set
def K0:=Func.code Tryz.f61
end obj_Heap_set
def obj_Heap_set.pt(hv:zW)(wv i v:Int)(H:zV)(R:zw):Prop:=
 obj_Heap_pair.C hv wv H (λd H1=> ∃(ra:Int) (rb:Bool),d=.tuple #[.int .i64 ra,.bool rb]/\
 if rb=true then(
 ∃b:Addr,hv=some b/\
 ∃x:zW,hat H1 b=some (.pointer x)/\
 card_Cards_Store.C x (zY (ra+i)) v H1 (λe H2=> ∃a:Int,e=.int .i64 a/\
 R (.int .i64 a) H2))
 else
 R (.int .i64 3) H1)
namespace obj_Heap_set
theorem link{hv:zW}{wv i v:Int}{H:zV}{R:zw}(h:pt hv wv i v H R):C hv wv i v H R:=by
 refine T_en K0 28 Tryz.func61 ?_
 intro w0 Q hQ
 unfold pt zY at h
 refine T_su [(0,vp hv),(1,vu wv),(2,vi i),(3,vu v)]<| T_srz 0<| T_ed 1 [] []<| T_srz 1<| T_nd 2 [1] [(12,vp hv),(13,vu wv)]<| T_c (some 14) h ?_;clear h
 rintro d H1 ⟨ra,rb,rfl,h⟩
 refine T_pd [12,13] [(14,.tuple #[vi ra,.bool rb])]<| T_ed 5 [14] [(9,vi ra),(10,.bool rb)]<| T_sz<| T_srz 2<| T_ed 2 [10] [(18,.bool (!rb))] ?_
 by_cases c1:rb=true
 ·rw[if_pos c1]at h
  refine T_cFz 18 (congrArg Bool.not (c1))<| T_kt<| T_srz 4<| T_nd 1 [0,18] [(19,vp hv)] ?_
  obtain⟨b,rfl,h⟩:=h
  refine T_nd 2 [19] [(21,vp (some b))] ?_
  obtain⟨x,q3,h⟩:=h
  refine T_l1 22 82 q3 [21]<| T_n 4 [(22,vp x),(25,vi (zY (ra+i))),(26,vu v)]<| T_c (some 27) h ?_;clear h
  rintro e H2 ⟨a,rfl,h⟩
  refine⟨[(27,vi a)],pk,?_⟩
  exact T_nr 1 [8] [vi a] hQ h
 rw[if_neg c1]at h
 exact T_cTz 18 (congrArg Bool.not (zZ c1))<| T_srz 3<| T_nr 1 [8] [vi 3] hQ h
end obj_Heap_set

/-! (*moraine/obj.Heap).half -/
namespace obj_Heap_half
def K0:=Func.code Tryz.f67
end obj_Heap_half
def obj_Heap_half.pt(hv:zW)(wv i:Int)(H:zV)(R:zw):Prop:=
 obj_Heap_pair.C hv wv H (λv H1=> ∃(ra:Int) (rb:Bool),v=.tuple #[.int .i64 ra,.bool rb]/\
 if rb=true then(
 ∃f:Addr,hv=some f/\
 ∃x:zW,hat H1 f=some (.pointer x)/\
 ∃xA:Addr,x=some xA/\
 ∃e:zW,hat H1 xA=some (.pointer e)/\
 ∃g:Addr,e=some g/\
 ∃d:zW,hat H1 g=some (.pointer d)/\
 seg_Mem_Read.C d (zY (ra+i)) H1 (λj H2=> ∃a b:Int,j=.tuple #[.int .u64 a,.int .i64 b]/\
 R (.tuple #[.int .u64 a,.int .i64 b]) H2))
 else
 R (.tuple #[.int .u64 0,.int .i64 3]) H1)
namespace obj_Heap_half
theorem link{hv:zW}{wv i:Int}{H:zV}{R:zw}(h:pt hv wv i H R):C hv wv i H R:=by
 refine T_en K0 34 Tryz.func67 ?_
 intro w0 Q hQ
 unfold pt zY at h
 refine T_su [(0,vp hv),(1,vu wv),(2,vi i)]<| T_srz 0<| T_ed 2 [] []<| T_srz 1<| T_nd 2 [1] [(11,vp hv),(12,vu wv)]<| T_c (some 13) h ?_;clear h
 rintro v H1 ⟨ra,rb,rfl,h⟩
 refine T_pd [11,12] [(13,.tuple #[vi ra,.bool rb])]<| T_ed 5 [13] [(8,vi ra),(9,.bool rb)]<| T_sz<| T_srz 2<| T_ed 2 [9] [(17,.bool (!rb))] ?_
 by_cases c1:rb=true
 ·rw[if_pos c1]at h
  refine T_cFz 17 (congrArg Bool.not (c1))<| T_kt<| T_srz 4<| T_nd 1 [0,17] [(18,vp hv)] ?_
  obtain⟨f,rfl,h⟩:=h
  refine T_nd 2 [18] [(20,vp (some f))] ?_
  obtain⟨x,q3,h⟩:=h
  refine T_l1 21 82 q3 [20] ?_
  obtain⟨xA,rfl,h⟩:=h
  refine T_nd 2 [21] [(23,vp (some xA))] ?_
  obtain⟨e,q4,h⟩:=h
  refine T_l1 24 99 q4 [23] ?_
  obtain⟨g,rfl,h⟩:=h
  refine T_nd 2 [24] [(26,vp (some g))] ?_
  obtain⟨d,q5,h⟩:=h
  refine T_l1 27 103 q5 [26]<| T_nd 3 [2,8] [(30,vi (zY (ra+i)))]<| T_c (some 31) h ?_;clear h
  rintro j H2 ⟨a,b,rfl,h⟩
  refine⟨[(31,.tuple #[vu a,vi b])],pk,?_⟩
  exact T_nr 4 [6,7] [vu a,vi b] hQ h
 rw[if_neg c1]at h
 exact T_cTz 17 (congrArg Bool.not (zZ c1))<| T_srz 3<| T_nr 2 [6,7] [vu 0,vi 3] hQ h
end obj_Heap_half

/-! (*moraine/obj.Heap).SetCar -/
namespace obj_Heap_SetCar
def K0:=Func.code Tryz.f68
end obj_Heap_SetCar
def obj_Heap_SetCar.pt(hv:zW)(wv v:Int)(H:zV)(R:zw):Prop:=
 obj_Heap_set.C hv wv 0 v H (λa H1=> ∃x:Int,a=.int .i64 x/\
 R (.int .i64 x) H1)
namespace obj_Heap_SetCar
theorem link{hv:zW}{wv v:Int}{H:zV}{R:zw}(h:pt hv wv v H R):C hv wv v H R:=by
 refine T_en K0 11 Tryz.func68 ?_
 intro w0 Q hQ
 unfold pt at h
 refine T_su [(0,vp hv),(1,vu wv),(2,vu v)]<| T_srz 0<| T_ed 1 [] []<| T_srz 1<| T_n 3 [(7,vp hv),(8,vu wv),(9,vu v)]<| T_c (some 10) h ?_;clear h
 rintro a H1 ⟨x,rfl,h⟩
 refine⟨[(10,vi x)],pk,?_⟩
 exact T_nr 1 [6] [vi x] hQ h
end obj_Heap_SetCar

/-! (*moraine/obj.Heap).Pair -/
namespace obj_Heap_Pair
def K0:=Func.code Tryz.f93
end obj_Heap_Pair
def obj_Heap_Pair.pt(hv:zW)(wv:Int)(H:zV)(R:zw):Prop:=
 obj_Heap_pair.C hv wv H (λv H1=> ∃(ra:Int) (rb:Bool),v=.tuple #[.int .i64 ra,.bool rb]/\
 R (.bool rb) H1)
namespace obj_Heap_Pair
theorem link{hv:zW}{wv:Int}{H:zV}{R:zw}(h:pt hv wv H R):C hv wv H R:=by
 refine T_en K0 14 Tryz.func93 ?_
 intro w0 Q hQ
 unfold pt at h
 refine T_su [(0,vp hv),(1,vu wv)]<| T_srz 0<| T_ed 1 [] []<| T_srz 1<| T_n 2 [(8,vp hv),(9,vu wv)]<| T_c (some 10) h ?_;clear h
 rintro v H1 ⟨ra,rb,rfl,h⟩
 refine⟨[(10,.tuple #[vi ra,.bool rb])],pk,?_⟩
 exact T_ne 5 [(6,.bool rb)]<| T_srz 2<| T_nr 2 [4] [.bool rb] hQ h
end obj_Heap_Pair

/-! (*moraine/obj.Heap).pair -/
namespace obj_Heap_pair
def K0:=Func.code Tryz.f94
end obj_Heap_pair
def obj_Heap_pair.pt(hv:zW)(wv:Int)(H:zV)(R:zw):Prop:=
 obj_Heap_at.C hv wv 1 0 H (λv H1=> ∃(ra:Int) (rb:Bool),v=.tuple #[.int .i64 ra,.bool rb]/\
 if rb=true then(
 R (.tuple #[.int .i64 ra,.bool ((Int.tmod ra 2)==0)]) H1)
 else
 obj_Heap_at.C hv wv 2 1 H1 (λd H2=> ∃(a:Int) (b:Bool),d=.tuple #[.int .i64 a,.bool b]/\
 R (.tuple #[.int .i64 a,.bool (b && ((Int.tmod a 2)==0))]) H2))
namespace obj_Heap_pair
theorem link{hv:zW}{wv:Int}{H:zV}{R:zw}(h:pt hv wv H R):C hv wv H R:=by
 refine T_en K0 29 Tryz.func94 ?_
 intro w0 Q hQ
 unfold pt at h
 refine T_su [(0,vp hv),(1,vu wv)]<| T_srz 0<| T_ed 2 [] []<| T_srz 1<| T_nd 2 [] [(9,vp hv),(10,vu wv)]<| T_c (some 11) h ?_;clear h
 rintro v H1 ⟨ra,rb,rfl,h⟩
 refine T_pd [9,10] [(11,.tuple #[vi ra,.bool rb])]<| T_ed 5 [11] [(6,vi ra),(7,.bool rb)]<| T_sz<| T_srz 2<| T_ed 2 [] [(15,.bool (!rb))] ?_
 by_cases c1:rb=true
 ·rw[if_pos c1]at h
  have b2:(!rb)=false:=congrArg Bool.not (c1)
  have b22:rb=true:=c1
  refine S_bd 7 (b:=rb) (v:=true) (by simp only[b2,b22,Bool.not_true,Bool.not_false])<| S_bd 15 (b:=(!rb)) (v:=false) (by simp only[b2,b22,Bool.not_true,Bool.not_false]) ?_
  clear b2 b22
  exact T_fz 15<| T_kt<| T_srz 4<| T_nr 9 [4,5] [vi ra,.bool ((Int.tmod ra 2)==0)] hQ h
 rw[if_neg c1]at h
 have b2:(!rb)=true:=congrArg Bool.not (zZ c1)
 have b22:rb=false:=zZ c1
 refine S_bd 7 (b:=rb) (v:=false) (by simp only[b2,b22,Bool.not_true,Bool.not_false])<| S_bd 15 (b:=(!rb)) (v:=true) (by simp only[b2,b22,Bool.not_true,Bool.not_false]) ?_
 clear b2 b22
 refine T_tz 15<| T_rz 3<| T_n 2 [(17,vp hv),(18,vu wv)]<| T_c (some 19) h ?_;clear h
 rintro d H2 ⟨a,b,rfl,h⟩
 refine⟨[(19,.tuple #[vi a,.bool b])],pk,?_⟩
 refine T_ne 5 [(6,vi a),(7,.bool b)]<| T_srz 4 ?_
 refine N_cut [(4,vi a),(5,.bool (b && ((Int.tmod a 2)==0)))] ?_ ?_
 ·exact S_then<| T_ret [4,5] [vi a,.bool (b && ((Int.tmod a 2)==0))] hQ h
 intro hk
 refine T_n 3 [(6,vi a),(22,vi a),(24,.bool b)] ?_
 by_cases c3:b=true
 ·have b4:b=true:=c3
  refine N_env [(6,vi a),(22,vi a),(24,.bool true)] (by rw[b4]) ?_
  refine T_n 6 [(4,vi a),(5,.bool ((Int.tmod a 2)==0))]<| zq<| S_env [(4,vi a),(5,.bool (b && ((Int.tmod a 2)==0)))] (by simp only[b4,BL]) ?_
  exact hk
 have b4:b=false:=zZ c3
 refine N_env [(6,vi a),(22,vi a),(24,.bool false)] (by rw[b4]) ?_
 refine T_n 6 [(4,vi a),(5,.bool false)]<| zq<| S_env [(4,vi a),(5,.bool (b && ((Int.tmod a 2)==0)))] (by simp only[b4,BL]) ?_
 exact hk
end obj_Heap_pair

/-! (*moraine/obj.Heap).Size -/
/-! (*moraine/obj.Heap).String -/
namespace obj_Heap_String
def K0:=Func.code Tryz.f25
def K2:=cb K0
def K4:=cb K2
def K5:=ca K4
def K8:=cb K5
def K9:=ca K8
def K10:=ca K9
end obj_Heap_String
def obj_Heap_String.pt(hv:zW)(s:ByteArray)(H:zV)(R:zw):Prop:=
 ∀(b:Nat) (H1:zV),b=H.size->H1=H.push (.stringIter s 0)->
 ∃(f:zW->Nat->Nat->zV->Prop) (m11:zW->Nat->Nat->zV->Nat),f none 0 0 H1/\ ∀(lB:zW) (lN:Nat) (lC:Nat) (H2:zV),f lB lN lC H2->
 ∃(a:ByteArray) (pos:Nat),H2[b]?=some (.stringIter a pos)/\
 if pos<a.size then(∀H3:zV,H3=setBlk H2 b (.stringIter a (pos+(Utf8.decode a pos).2))->
 ∀(e:Nat) (H4:zV),e=H3.size->H4=H3.push (.cells #[.int .u64 (IntKind.wrap .u64 ((Utf8.decode a pos).1:Int))] 31)->
 appendK 1 31 8 [.int .u64 0] lB lN lC (some (ad e)) 1 H4 (λap d H5=>
 if((lN+1):Int)>62 then(
 R (.tuple #[.int .u64 0,.int .i64 6]) H5)
 else
 (f ap (lN+1) d H5/\m11 ap (lN+1) d H5<m11 lB lN lC H2)))
 else
 obj_Heap_Make.C hv 2 0 lB lN lC H2 (λv H6=> ∃ra rb:Int,v=.tuple #[.int .u64 ra,.int .i64 rb]/\
 R (.tuple #[.int .u64 ra,.int .i64 rb]) H6)
namespace obj_Heap_String
theorem link{hv:zW}{s:ByteArray}{H:zV}{R:zw}(h:pt hv s H R):C hv s H R:=by
 refine T_en K0 27 Tryz.func25 ?_
 intro w0 Q hQ
 unfold pt at h
 refine T_su [(0,vp hv),(1,.string s)]<| T_srz 0<| T_ed 2 [] []<| T_srz 1<| T_ed 1 [] [(6,vs none 0 0)]<| T_sz<| T_srz 2<| T_nd 1 [1] [(9,.string s)]<| T_nw (some 10) (λb=>vp (pa b)) (.stringIter s 0) ?_
 intro b H1 e1 e2
 replace h:=h b H1 e1 e2
 refine T_pd [9] [(10,vp (pa b))]<| T_e<| T_bz 0 ?_
 obtain⟨f,m11,i3,i4⟩:=h
 refine S_loop (x:=K10) (σ:=zW×Nat×Nat) (λs_=> [(0,vp hv),(6,vs s_.1 s_.2.1 s_.2.2),(10,vp (pa b))]) (λs_ H=>f s_.1 s_.2.1 s_.2.2 H) (λs_ H=>m11 s_.1 s_.2.1 s_.2.2 H) ((none,0,0):zW×Nat×Nat) (by kernel_rfl) i3 sk ?_
 rintro⟨lB,lN,lC⟩ H2 i5
 have h:=i4 lB lN lC H2 i5
 refine T_su [(0,vp hv),(6,vs lB lN lC),(10,vp (pa b))]<| T_srz 3 ?_
 obtain⟨a,pos,q6,h⟩:=h
 by_cases c7:pos<a.size
 ·rw[if_pos c7]at h
  refine N_op (some 11) (nextN (vp (pa b)) true 0) _ (λ_=>by kernel_rfl) (next_go q6 c7) ?_
  rintro _ H3 ⟨rfl,e12⟩
  replace h:=h H3 (by assumption)
  refine T_pd [] [(11,.tuple #[.bool true,vi pos,.int .i32 ((Utf8.decode a pos).1:Int)])]<| T_ed 1 [] [(12,.bool true)]<| T_sz<| T_tz 12<| T_kt<| T_bz 1<| T_srz 4<| T_ed 2 [11,12] [(8,.int .i32 ((Utf8.decode a pos).1:Int))]<| T_srz 5<| T_nd 3 [6,8] [(14,vs lB lN lC),(16,vu (IntKind.wrap .u64 ((Utf8.decode a pos).1:Int)))]<| T_nw (some 17) (λb=>vs (pa b) 1 1) (.cells #[vu (IntKind.wrap .u64 ((Utf8.decode a pos).1:Int))] 31) ?_
  intro e H4 e8 e9
  replace h:=h e H4 e8 e9
  refine T_pd [16] [(17,vs (pa e) 1 1)]<| N_op (some 18) (appendN #[54,54] 54 #[vs lB lN lC,vs (pa e) 1 1]) _ (λ_=>by kernel_rfl) (ss_append (T:=31) (sz:=1) (bytes:=8) (zero:=(vu 0:Value)) Tryz.underlying54 Tryz.underlying54 rfl (show Tryz.prog.info? 31=some Tryz.t31 from by kernel_rfl) (by kernel_rfl) (by kernel_rfl) (by decide) (by kernel_rfl) (by first | exact h | (simpa only[Value.cells,List.toList_toArray]using h))) ?_;clear h
  rintro _ H5 ⟨ap,d,rfl,h⟩
  refine T_pd [14,17] [(18,vs ap (lN+1) d)]<| T_ed 1 [18] [(6,vs ap (lN+1) d)]<| T_srz 6<| T_ed 3 [] [(21,.bool (decide (((lN+1):Int)>62)))] ?_
  by_cases c10:((lN+1):Int)>62
  ·rw[if_pos c10]at h
   exact T_cTz 21 (zX c10)<| T_srz 7<| T_nr 2 [4,5] [vu 0,vi 6] hQ h
  rw[if_neg c10]at h
  exact T_cFz 21 (zQ c10)<| T_k<| S_blockEnd<| S_then<| S_round ((ap,(lN+1),d):zW×Nat×Nat) sk h
 rw[if_neg c7]at h
 refine N_op (some 11) (nextN (vp (pa b)) true 0) _ (λ_=>by kernel_rfl) (next_end q6 c7) ?_
 rintro _ _ ⟨rfl,rfl⟩
 refine T_pd [] [(11,.tuple #[.bool false])]<| T_ed 1 [] [(12,.bool false)]<| T_sz<| T_fz 12<| zj 0<| S_exitThen<| S_exitThen<| S_exitHere<| S_then<| T_srz 8<| T_n 2 [(22,vp hv),(23,vs lB lN lC)]<| T_c (some 24) h ?_;clear h
 rintro v H6 ⟨ra,rb,rfl,h⟩
 refine⟨[(24,.tuple #[vu ra,vi rb])],pk,?_⟩
 exact T_nr 4 [4,5] [vu ra,vi rb] hQ h
end obj_Heap_String

/-! (*moraine/obj.Heap).Vector -/
namespace obj_Heap_Vector
def K0:=Func.code Tryz.f47
end obj_Heap_Vector
def obj_Heap_Vector.pt(hv:zW)(nv a:Int)(H:zV)(R:zw):Prop:=
 if nv<0 then(
 R (.tuple #[.int .u64 0,.int .i64 4]) H)
 else
 if nv>62 then(
 R (.tuple #[.int .u64 0,.int .i64 6]) H)
 else
 ∀(b:Nat) (H1:zV),b=H.size->H1=H.push (.cells #[.int .u64 a] 31)->
 slices_Repeat_api_Word_api_Word.C (some (ad b)) 1 1 nv H1 (λv H2=> ∃(xB:zW) (xN xC:Nat),v=.slice xB xN xC/\
 obj_Heap_Make.C hv 1 0 xB xN xC H2 (λd H3=> ∃ra rb:Int,d=.tuple #[.int .u64 ra,.int .i64 rb]/\
 R (.tuple #[.int .u64 ra,.int .i64 rb]) H3))
namespace obj_Heap_Vector
theorem link{hv:zW}{nv a:Int}{H:zV}{R:zw}(h:pt hv nv a H R):C hv nv a H R:=by
 refine T_en K0 22 Tryz.func47 ?_
 intro w0 Q hQ
 unfold pt at h
 refine T_su [(0,vp hv),(1,vi nv),(2,vu a)]<| T_srz 0<| T_ed 2 [] []<| T_sz<| T_bz 0<| T_srz 1<| T_ed 3 [] [(8,.bool (decide (nv<0)))] ?_
 by_cases c1:nv<0
 ·rw[if_pos c1]at h
  exact T_cTz 8 (zX c1)<| T_srz 2<| T_nr 2 [6,7] [vu 0,vi 4] hQ h
 rw[if_neg c1]at h
 refine T_cFz 8 (zQ c1)<| T_srz 3<| T_ed 3 [8] [(11,.bool (decide (nv>62)))] ?_
 by_cases c3:nv>62
 ·rw[if_pos c3]at h
  exact T_cTz 11 (zX c3)<| T_srz 4<| T_nr 2 [6,7] [vu 0,vi 6] hQ h
 rw[if_neg c3]at h
 refine T_cFz 11 (zQ c3)<| T_k<| S_blockEnd<| S_then<| T_srz 5<| T_n 2 [(1,vi nv),(14,vp hv),(15,vu a)]<| T_nw (some 16) (λb=>vs (pa b) 1 1) (.cells #[vu a] 31) ?_
 intro b H1 e5 e6
 replace h:=h b H1 e5 e6
 refine T_pd [15] [(16,vs (pa b) 1 1)]<| T_nd 1 [1] [(17,vi nv)]<| T_c (some 18) h ?_;clear h
 rintro v H2 ⟨xB,xN,xC,rfl,h⟩
 refine T_pd [16,17] [(18,vs xB xN xC)]<| T_c (some 19) h ?_;clear h
 rintro d H3 ⟨ra,rb,rfl,h⟩
 refine⟨[(19,.tuple #[vu ra,vi rb])],pk,?_⟩
 exact T_nr 4 [6,7] [vu ra,vi rb] hQ h
end obj_Heap_Vector

/-! (*moraine/obj.Heap).Epoch -/
namespace obj_Heap_Epoch
def K0:=Func.code Tryz.f49
end obj_Heap_Epoch
def obj_Heap_Epoch.pt(hv:zW)(H:zV)(R:zw):Prop:=
 obj_Heap_none.C hv H (λv H1=> ∃x:Bool,v=.bool x/\
 if x=true then(
 R (.int .u64 0) H1)
 else
 ∃b:Addr,hv=some b/\
 ∃a:Int,hat H1 (b.add 3)=some (.int .u64 a)/\
 R (.int .u64 a) H1)
namespace obj_Heap_Epoch
theorem link{hv:zW}{H:zV}{R:zw}(h:pt hv H R):C hv H R:=by
 refine T_en K0 9 Tryz.func49 ?_
 intro w0 Q hQ
 unfold pt at h
 refine T_su [(0,vp hv)]<| T_srz 0<| T_ed 1 [] []<| T_sz<| T_srz 1<| T_nd 1 [] [(3,vp hv)]<| T_c (some 4) h ?_;clear h
 rintro v H1 ⟨x,rfl,h⟩
 refine T_pd [3] [(4,.bool x)]<| T_e ?_
 by_cases c1:x=true
 ·rw[if_pos c1]at h
  exact T_cTz 4 c1<| T_srz 2<| T_nr 1 [2] [vu 0] hQ h
 rw[if_neg c1]at h
 refine T_cFz 4 (zZ c1)<| T_kt<| T_srz 3<| T_n 1 [(5,vp hv)] ?_
 obtain⟨b,rfl,h⟩:=h
 refine T_n 2 [(7,vp (some (b.add 3)))] ?_
 obtain⟨a,q3,h⟩:=h
 exact T_l1 8 30 q3 [7]<| T_nr 1 [2] [vu a] hQ h
end obj_Heap_Epoch

/-! (*moraine/obj.Heap).Next -/
/-! slices.Reverse[[]moraine/api.Word,moraine/api.Word] -/
namespace slices_Reverse_api_Word_api_Word
def K0:=Func.code Tryz.f69
def K2:=cb K0
def K3:=ca K2
def K4:=ca K3
def K6:=cb K4
def K11:=ca K6
def K13:=ca K11
end slices_Reverse_api_Word_api_Word
def slices_Reverse_api_Word_api_Word.pt(sB:zW)(sN sC:Nat)(H:zV)(R:zw):Prop:=
 ∃(I5:Int->yZ) (m5:Int->Int->zV->Nat),I5 0 (zY ((sN:Int)-1)) H/\ ∀(i:Int) (j:Int) (H1:zV),I5 i j H1->
 if i<j then(
 ∃b:Addr,sB=some b/\
 yX j sN/\
 ∃x:Int,hat H1 (b.add (Int.toNat j*1))=some (.int .u64 x)/\
 yX i sN/\
 ∃d:Int,hat H1 (b.add (Int.toNat i*1))=some (.int .u64 d)/\
 yX i sN/\
 (CanPuts H1 (b.add (Int.toNat i*1)) 0 1)/\ ∀H2,H2=hputs H1 (b.add (Int.toNat i*1)) [.int .u64 x] 0->
 yX j sN/\
 (CanPuts H2 (b.add (Int.toNat j*1)) 0 1)/\ ∀H3,H3=hputs H2 (b.add (Int.toNat j*1)) [.int .u64 d] 0->
 (I5 (zY (i+1)) (zY (j-1)) H3/\m5 (zY (i+1)) (zY (j-1)) H3<m5 i j H1))
 else
 R (.tuple #[]) H1
namespace slices_Reverse_api_Word_api_Word
theorem link{sB:zW}{sN sC:Nat}{H:zV}{R:zw}(h:pt sB sN sC H R):C sB sN sC H R:=by
 refine T_en K0 28 Tryz.func69 ?_
 intro w0 Q hQ
 unfold pt zY at h
 refine T_su [(0,vs sB sN sC)]<| T_srz 0<| T_ed 5 [] [(2,vi 0),(3,vi (zY ((sN:Int)-1)))]<| T_bz 0 ?_
 obtain⟨I5,m5,i1,i2⟩:=h
 refine S_loop (x:=K4) (σ:=Int×Int) (λs_=> [(0,vs sB sN sC),(2,vi s_.1),(3,vi s_.2)]) (λs_ H=>I5 s_.1 s_.2 H) (λs_ H=>m5 s_.1 s_.2 H) ((0,(zY ((sN:Int)-1))):Int×Int) (by kernel_rfl) i1 sk ?_
 rintro⟨i,j⟩ H1 i3
 have h:=i2 i j H1 i3
 refine T_su [(0,vs sB sN sC),(2,vi i),(3,vi j)]<| T_sz<| T_srz 1<| T_ed 3 [] [(9,.bool (decide (i<j)))] ?_
 by_cases c4:i<j
 ·rw[if_pos c4]at h
  refine T_cTz 9 (zX c4)<| T_kt<| T_sz<| T_bz 1 ?_
  obtain⟨b,rfl,q6,x,q7,q8,d,q9,q10,h⟩:=h
  refine yk 3 (Code.ops K13) [(13,(b.add (Int.toNat j*1)),[vu x]),(13,(b.add (Int.toNat i*1)),[vu d])] 16 (bv 16 0) (show FactsAt _ _ _ from⟨⟨q7,trivial⟩,⟨q9,trivial⟩,trivial⟩)<| T_gp 0 (some 14) (vs (some b) sN sC) (bv 16 1) [(0,vs (some b) sN sC),(2,vi i),(3,vi j),(14,vs (some b) sN sC)]<| T_gp1 1 15 (vi i) (bv 16 3) []<| T_gp1 2 16 (vs (some b) sN sC) (bv 16 7) []<| T_gp1 3 17 (vi j) (bv 16 15) []<| T_gp1 4 18 (vs (some b) sN sC) (bv 16 31) []<| T_gp1 5 19 (vi j) (bv 16 63) []<| T_g1 6 20 (vp (some (b.add (Int.toNat j*1)))) (bv 16 127) [18,19] (indexAtN 54 (vs (some b) sN sC) (vi j)) (λ_ w _ _ _=>indexAt_run (P:=Tryz.prog) (t:=54) (elem:=31) (sz:=1) (a:=b) (len:=sN) (cap:=sC) (k:=.i64) (i:=j) Tryz.underlying54 (λ_=>by kernel_rfl) q6.1 q6.2 w)<| T_g1 7 21 (vu x) (bv 16 255) [20] (loadN 31 (vp (some (b.add (Int.toNat j*1))))) (yj 13 yQ)<| T_gp1 8 22 (vs (some b) sN sC) (bv 16 511) []<| T_gp1 9 23 (vi i) (bv 16 1023) []<| T_g1 10 24 (vp (some (b.add (Int.toNat i*1)))) (bv 16 2047) [22,23] (indexAtN 54 (vs (some b) sN sC) (vi i)) (λ_ w _ _ _=>indexAt_run (P:=Tryz.prog) (t:=54) (elem:=31) (sz:=1) (a:=b) (len:=sN) (cap:=sC) (k:=.i64) (i:=i) Tryz.underlying54 (λ_=>by kernel_rfl) q8.1 q8.2 w)<| T_g1 11 25 (vu d) (bv 16 4095) [24] (loadN 31 (vp (some (b.add (Int.toNat i*1))))) (yj 13 yJ)<| T_g1 12 26 (vp (some (b.add (Int.toNat i*1)))) (bv 16 8191) [14,15] (indexAtN 54 (vs (some b) sN sC) (vi i)) (λ_ w _ _ _=>indexAt_run (P:=Tryz.prog) (t:=54) (elem:=31) (sz:=1) (a:=b) (len:=sN) (cap:=sC) (k:=.i64) (i:=i) Tryz.underlying54 (λ_=>by kernel_rfl) q10.1 q10.2 w) ?_
  obtain⟨q12,h⟩:=h
  refine G_onlyskip 13 none (bv 16 16383) (storeN 31 (vp (some (b.add (Int.toNat i*1)))) (vu x)) (λHz=>Hz=hputs H1 (b.add (Int.toNat i*1)) [vu x] 0) (by kernel_rfl) (λ_=>by kernel_rfl) (ss_store [vu x] 1 (by kernel_rfl) (by kernel_rfl) (λ_=>by kernel_rfl) (by kernel_rfl) q12) (by kernel_rfl) ?_
  intro H2 e11
  replace h:=h H2 e11
  refine⟨[(0,vs (some b) sN sC),(2,vi i),(3,vi j),(16,vs (some b) sN sC),(17,vi j),(25,vu d)],pk,(show FactsAt _ _ _ from⟨trivial,trivial,trivial⟩),?_⟩
  obtain⟨q13,h⟩:=h
  refine T_g 14 (some 27) (vp (some (b.add (Int.toNat j*1)))) (bv 16 32767) [(0,vs (some b) sN sC),(2,vi i),(3,vi j),(25,vu d),(27,vp (some (b.add (Int.toNat j*1))))] (indexAtN 54 (vs (some b) sN sC) (vi j)) (λ_ w _ _ _=>indexAt_run (P:=Tryz.prog) (t:=54) (elem:=31) (sz:=1) (a:=b) (len:=sN) (cap:=sC) (k:=.i64) (i:=j) Tryz.underlying54 (λ_=>by kernel_rfl) q13.1 q13.2 w) ?_
  obtain⟨q15,h⟩:=h
  refine G_onlyskip 15 none (bv 16 65535) (storeN 31 (vp (some (b.add (Int.toNat j*1)))) (vu d)) (λHz=>Hz=hputs H2 (b.add (Int.toNat j*1)) [vu d] 0) (by kernel_rfl) (λ_=>by kernel_rfl) (ss_store [vu d] 1 (by kernel_rfl) (by kernel_rfl) (λ_=>by kernel_rfl) (by kernel_rfl) q15) (by kernel_rfl) ?_
  intro H3 e14
  replace h:=h H3 e14
  refine⟨[(0,vs (some b) sN sC),(2,vi i),(3,vi j)],pk,(show FactsAt _ _ _ from⟨trivial,trivial,trivial⟩),?_⟩
  refine G_sub [(0,vs (some b) sN sC),(2,vi i),(3,vi j)] sk ?_
  exact yw<| S_blockEnd<| S_then<| T_rz 2<| T_ne 6 [(0,vs (some b) sN sC),(2,vi (zY (i+1))),(3,vi (zY (j-1)))]<| S_round (((zY (i+1)),(zY (j-1))):Int×Int) sk h
 rw[if_neg c4]at h
 exact T_cFz 9 (zQ c4)<| zj 0<| S_exitThen<| S_exitThen<| S_exitHere<| S_doneN (fn:=Tryz.f69) [] hQ (show ResOK _ _ _ [] _ from .nil) h
end slices_Reverse_api_Word_api_Word

/-! slices.Repeat[[]moraine/api.Word,moraine/api.Word] -/
namespace slices_Repeat_api_Word_api_Word
def K0:=Func.code Tryz.f70
def K2:=cb K0
def K4:=cb K2
def K10:=cb K4
def K12:=cb K10
def K18:=cb K12
def K20:=cb K18
def K21:=ca K20
def K23:=ca K21
def K24:=ca K23
def K26:=cb K24
def K31:=ca K26
end slices_Repeat_api_Word_api_Word
def slices_Repeat_api_Word_api_Word.pt(xB:zW)(xN xC:Nat)(d:Int)(H:zV)(R:zw):Prop:=
 if d<0 then(
 False)
 else
 math_bits_Mul.C (IntKind.wrap .u64 (xN:Int)) (IntKind.wrap .u64 d) H (λv H1=> ∃ra rb:Int,v=.tuple #[.int .u64 ra,.int .u64 rb]/\
 if((decide (ra>0)) || (decide (rb>9223372036854775807)))=true then(
 False)
 else
 0<=(zY rb)/\(zY rb)<=(zY rb)/\8*(zY rb)<=2 ^ 48/\(zY rb)<=9223372036854775807/\
 ∀(b:Nat) (H2:zV),b=H1.size->H2=H1.push (.cells (Builtin.zeroCells #[.int .u64 0] (Int.toNat (zY rb))) 31)->
 copyK 1 (some (ad b)) (Int.toNat (zY rb)) xB xN H2 (λcn H3=>
 ∃(j:yZ) (m25:Int->zV->Nat),j (cn:Int) H3/\ ∀(nv:Int) (H4:zV),j nv H4->
 if nv< ((Int.toNat (zY rb)):Int)then(
 ∃(lo hi:Nat),nv=(lo:Int)/\hi=(Int.toNat (zY rb))/\lo<=hi/\hi<=(Int.toNat (zY rb))/\
 ∀sl:zW,sl=(if(Int.toNat (zY rb))=lo then(some (ad b))else Option.map (λa:Addr=>a.add (lo*1)) (some (ad b)))->
 ∃(e g:Nat),e=0/\nv=(g:Int)/\e<=g/\g<=(Int.toNat (zY rb))/\
 ∀i:zW,i=(if(Int.toNat (zY rb))=e then(some (ad b))else Option.map (λa:Addr=>a.add (e*1)) (some (ad b)))->
 copyK 1 sl (hi-lo) i (g-e) H4 (λf H5=>
 (j (zY (nv+(f:Int))) H5/\m25 (zY (nv+(f:Int))) H5<m25 nv H4)))
 else
 R (.slice (some (ad b)) (Int.toNat (zY rb)) (Int.toNat (zY rb))) H4))
namespace slices_Repeat_api_Word_api_Word
theorem link{xB:zW}{xN xC:Nat}{d:Int}{H:zV}{R:zw}(h:pt xB xN xC d H R):C xB xN xC d H R:=by
 refine T_en K0 48 Tryz.func70 ?_
 intro w0 Q hQ
 unfold pt zY at h
 refine T_su [(0,vs xB xN xC),(1,vi d)]<| T_srz 0<| T_ed 1 [] []<| T_sz<| T_srz 1<| T_ed 2 [] [(10,.bool (decide (d<0)))] ?_
 by_cases c1:d<0
 ·rw[if_pos c1]at h
  refine T_cTz 10 (zX c1)<| T_rz 2<| T_ud [10] [] ?_
  exact h.elim
 rw[if_neg c1]at h
 refine T_cFz 10 (zQ c1)<| T_kt<| T_srz 3<| T_nd 5 [1,10] [(15,vu (IntKind.wrap .u64 (xN:Int))),(17,vu (IntKind.wrap .u64 d))]<| T_c (some 18) h ?_;clear h
 rintro v H1 ⟨ra,rb,rfl,h⟩
 refine T_pd [15,17] [(18,.tuple #[vu ra,vu rb])]<| T_ed 5 [18] [(5,vu ra),(6,vu rb)]<| T_sz<| T_srz 4 ?_
 refine N_cut [(0,vs xB xN xC),(6,vu rb),(26,.bool ((decide (ra>0)) || (decide (rb>9223372036854775807))))] ?_ ?_
 ·refine S_then ?_
  by_cases c5:((decide (ra>0)) || (decide (rb>9223372036854775807)))=true
  ·rw[if_pos c5]at h
   refine T_cTz 26 c5<| T_rz 5<| T_nu [(0,vs xB xN xC),(6,vu rb)] ?_
   exact h.elim
  rw[if_neg c5]at h
  refine T_cFz 26 (zZ c5)<| T_kt<| T_srz 6<| T_n 2 [(0,vs xB xN xC),(29,vi (zY rb))] ?_
  obtain⟨q7,q8,q9,q10,h⟩:=h
  refine N_op (some 30) (makeSliceN 54 (vi (zY rb)) (vi (zY rb))) (λv Hz=>v=Value.slice (some (Addr.mk H1.size 0 none)) (Int.toNat (zY rb)) (Int.toNat (zY rb))/\Hz=H1.push (.cells (Builtin.zeroCells #[vu 0] (Int.toNat (zY rb))) 31)) (λ_=>by kernel_rfl) (ss_make (T:=31) (zero:=vu 0) Tryz.underlying54 (show Tryz.prog.info? 31=some Tryz.t31 from by kernel_rfl) (by kernel_rfl) q7 q8 q9 q10 (by kernel_rfl) (by decide)) ?_
  rintro _ H2 ⟨rfl,e12⟩
  obtain⟨b,e11⟩: ∃b,b=H1.size:=⟨_,rfl⟩
  replace h:=h b H2 e11 e12
  rw[<-e11]
  refine T_pd [29] [(30,vs (pa b) (Int.toNat (zY rb)) (Int.toNat (zY rb)))]<| T_ed 1 [30] [(7,vs (pa b) (Int.toNat (zY rb)) (Int.toNat (zY rb)))]<| T_srz 7<| T_nd 2 [0] [(31,vs (pa b) (Int.toNat (zY rb)) (Int.toNat (zY rb))),(32,vs xB xN xC)]<| N_op (some 33) (copyN #[54,54] 3 #[vs (pa b) (Int.toNat (zY rb)) (Int.toNat (zY rb)),vs xB xN xC]) _ (λ_=>by kernel_rfl) (ss_copy (T:=31) (sz:=1) Tryz.underlying54 (λ_=>by kernel_rfl) h) ?_;clear h
  rintro _ H3 ⟨cn,rfl,h⟩
  refine T_pd [31,32] [(33,vi cn)]<| T_ed 1 [33] [(8,vi cn)]<| T_sz<| T_bz 0 ?_
  obtain⟨j,m25,i13,i14⟩:=h
  refine S_loop (x:=K24) (σ:=Int) (λs_=> [(7,vs (pa b) (Int.toNat (zY rb)) (Int.toNat (zY rb))),(8,vi s_)]) (λs_ H=>j s_ H) (λs_ H=>m25 s_ H) ((cn:Int):Int) (by kernel_rfl) i13 sk ?_
  rintro nv H4 i15
  have h:=i14 nv H4 i15
  refine T_su [(7,vs (pa b) (Int.toNat (zY rb)) (Int.toNat (zY rb))),(8,vi nv)]<| T_sz<| T_srz 8<| T_ed 4 [] [(37,.bool (decide (nv< ((Int.toNat (zY rb)):Int))))] ?_
  by_cases c16:nv< ((Int.toNat (zY rb)):Int)
  ·rw[if_pos c16]at h
   refine T_cTz 37 (zX c16)<| T_kt<| T_bz 1 ?_
   obtain⟨lo,hi,q18,q19,q20,q21,h⟩:=h
   obtain⟨sl,e22⟩: ∃B,B=(if(Int.toNat (zY rb))=lo then(pa b)else Option.map (λa:Addr=>a.add (lo*1)) (pa b)):=⟨_,rfl⟩
   replace h:=h sl e22
   obtain⟨e,g,q23,q24,q25,q26,h⟩:=h
   obtain⟨i,e27⟩: ∃B,B=(if(Int.toNat (zY rb))=e then(pa b)else Option.map (λa:Addr=>a.add (e*1)) (pa b)):=⟨_,rfl⟩
   replace h:=h i e27
   refine yk 9 (Code.ops K31) [] 10 (bv 10 0) (show FactsAt _ _ _ from trivial)<| T_gp1 0 38 (vi nv) (bv 10 1) [37]<| T_gp1 1 39 (vs (pa b) (Int.toNat (zY rb)) (Int.toNat (zY rb))) (bv 10 3) []<| T_gp1 2 40 (vi nv) (bv 10 7) [] ?_
   refine T_g1 3 41 (vs sl (hi-lo) ((Int.toNat (zY rb))-lo)) (bv 10 15) [39,40] (sliceN 54 (vs (pa b) (Int.toNat (zY rb)) (Int.toNat (zY rb))) (some (vi nv)) none none) (λ_ w _ _ _=>(slice_run (P:=Tryz.prog) (t:=54) (elem:=31) (sz:=1) (a:=(pa b)) (len:=(Int.toNat (zY rb))) (cap:=(Int.toNat (zY rb))) (some (vi nv)) none lo hi Tryz.underlying54 (λ_=>by kernel_rfl) (.inr ⟨.i64,congrArg (fun q=>some (Value.int .i64 q)) q18⟩) (.inl ⟨rfl,q19⟩) q20 q21 w).trans (by rw[e22];try rfl))<| T_gp1 4 42 (vs (pa b) (Int.toNat (zY rb)) (Int.toNat (zY rb))) (bv 10 31) []<| T_gp1 5 43 (vi nv) (bv 10 63) [] ?_
   refine T_g1 6 44 (vs i (g-e) ((Int.toNat (zY rb))-e)) (bv 10 127) [42,43] (sliceN 54 (vs (pa b) (Int.toNat (zY rb)) (Int.toNat (zY rb))) none (some (vi nv)) none) (λ_ w _ _ _=>(slice_run (P:=Tryz.prog) (t:=54) (elem:=31) (sz:=1) (a:=(pa b)) (len:=(Int.toNat (zY rb))) (cap:=(Int.toNat (zY rb))) none (some (vi nv)) e g Tryz.underlying54 (λ_=>by kernel_rfl) (.inl ⟨rfl,q23⟩) (.inr ⟨.i64,congrArg (fun q=>some (Value.int .i64 q)) q24⟩) q25 q26 w).trans (by rw[e27];try rfl))<| G_only 7 (some 45) (bv 10 255) (copyN #[54,54] 3 #[vs sl (hi-lo) ((Int.toNat (zY rb))-lo),vs i (g-e) ((Int.toNat (zY rb))-e)]) _ (by kernel_rfl) (λ_=>by kernel_rfl) (ss_copy (T:=31) (sz:=1) Tryz.underlying54 (λ_=>by kernel_rfl) h) (by kernel_rfl) ?_;clear h
   rintro _ H5 ⟨f,rfl,h⟩
   refine⟨[(7,vs (pa b) (Int.toNat (zY rb)) (Int.toNat (zY rb))),(8,vi nv),(38,vi nv),(45,vi f)],pk,(show FactsAt _ _ _ from trivial),?_⟩
   exact T_g 8 (some 46) (vi (zY (nv+(f:Int)))) (bv 10 511) [(7,vs (pa b) (Int.toNat (zY rb)) (Int.toNat (zY rb))),(8,vi nv),(46,vi (zY (nv+(f:Int))))] (pure (.value (vi (zY (nv+(f:Int))))):Sem Next) (λ_ _ _ _ _=>rfl)<| T_g1 9 8 (vi (zY (nv+(f:Int)))) (bv 10 1023) [8,46] (pure (.value (vi (zY (nv+(f:Int))))):Sem Next) (λ_ _ _ _ _=>rfl)<| G_sub [(7,vs (pa b) (Int.toNat (zY rb)) (Int.toNat (zY rb))),(8,vi (zY (nv+(f:Int))))] sk<| yw<| S_blockEnd<| S_then<| S_round ((zY (nv+(f:Int))):Int) sk h
  rw[if_neg c16]at h
  exact T_cFz 37 (zQ c16)<| zj 0<| S_exitThen<| S_exitThen<| S_exitHere<| S_then<| T_srz 10<| T_nr 2 [4] [vs (pa b) (Int.toNat (zY rb)) (Int.toNat (zY rb))] hQ h
 intro hk
 refine T_n 3 [(0,vs xB xN xC),(6,vu rb),(23,.bool (decide (ra>0)))] ?_
 by_cases c3:ra>0
 ·have b4:(decide (ra>0))=true:=zX c3
  refine N_env [(0,vs xB xN xC),(6,vu rb),(23,.bool true)] (by rw[b4]) ?_
  refine T_nd 3 [23] [(26,.bool true)]<| zq<| S_bd 26 (b:=true) (v:=((decide (ra>0)) || (decide (rb>9223372036854775807)))) (by simp only[b4,BL]) ?_
  exact hk
 have b4:(decide (ra>0))=false:=zQ c3
 refine N_env [(0,vs xB xN xC),(6,vu rb),(23,.bool false)] (by rw[b4]) ?_
 refine T_nd 3 [23] [(26,.bool (decide (rb>9223372036854775807)))]<| zq<| S_bd 26 (b:=(decide (rb>9223372036854775807))) (v:=((decide (ra>0)) || (decide (rb>9223372036854775807)))) (by simp only[b4,BL]) ?_
 exact hk
end slices_Repeat_api_Word_api_Word

/-! slices.AppendSeq[[]moraine/api.Word,moraine/api.Word] -/
/-! math/bits.Mul -/
namespace math_bits_Mul
def K0:=Func.code Tryz.f99
def K2:=cb K0
def K3:=ca K2
def K5:=ca K3
def K6:=cb K3
end math_bits_Mul
def math_bits_Mul.pt(x y:Int)(H:zV)(R:zw):Prop:=
 math_bits_Mul64.C x y H (λv H1=> ∃ra rb:Int,v=.tuple #[.int .u64 ra,.int .u64 rb]/\
 R (.tuple #[.int .u64 ra,.int .u64 rb]) H1)
namespace math_bits_Mul
theorem link{x y:Int}{H:zV}{R:zw}(h:pt x y H R):C x y H R:=by
 refine T_en K0 30 Tryz.func99 ?_
 intro w0 Q hQ
 unfold pt at h
 refine T_su [(0,vu x),(1,vu y)]<| T_srz 0<| T_ed 2 [] []<| T_sz<| S_condF (.const (.bool false)) K5 K6 (by kernel_rfl) (by kernel_rfl)<| T_kt<| T_srz 3<| T_n 2 [(23,vu x),(24,vu y)]<| T_c (some 25) h ?_;clear h
 rintro v H1 ⟨ra,rb,rfl,h⟩
 refine⟨[(25,.tuple #[vu ra,vu rb])],pk,?_⟩
 exact T_ne 5 [(8,vu ra),(9,vu rb)]<| T_srz 4<| T_nr 4 [4,5] [vu ra,vu rb] hQ h
end math_bits_Mul

/-! math/bits.Mul32 -/
namespace math_bits_Mul64
def K0:=Func.code Tryz.f129
end math_bits_Mul64
def math_bits_Mul64.pt(x y:Int)(H:zV)(R:zw):Prop:=
 R (.tuple #[.int .u64 (IntKind.wrap .u64 ((IntKind.wrap .u64 ((IntKind.wrap .u64 ((ishr .u64 x 32)*(ishr .u64 y 32)))+(ishr .u64 (IntKind.wrap .u64 ((IntKind.wrap .u64 ((ishr .u64 x 32)*(iand .u64 y 4294967295)))+(ishr .u64 (IntKind.wrap .u64 ((iand .u64 x 4294967295)*(iand .u64 y 4294967295))) 32))) 32)))+(ishr .u64 (IntKind.wrap .u64 ((iand .u64 (IntKind.wrap .u64 ((IntKind.wrap .u64 ((ishr .u64 x 32)*(iand .u64 y 4294967295)))+(ishr .u64 (IntKind.wrap .u64 ((iand .u64 x 4294967295)*(iand .u64 y 4294967295))) 32))) 4294967295)+(IntKind.wrap .u64 ((iand .u64 x 4294967295)*(ishr .u64 y 32))))) 32))),.int .u64 (IntKind.wrap .u64 (x*y))]) H
namespace math_bits_Mul64
theorem link{x y:Int}{H:zV}{R:zw}(h:pt x y H R):C x y H R:=by
 refine T_en K0 51 Tryz.func129 ?_
 intro w0 Q hQ
 unfold pt at h
 exact T_su [(0,vu x),(1,vu y)]<| T_srz 0<| T_ed 2 [] []<| T_srz 1<| T_ed 3 [] [(6,vu (iand .u64 x 4294967295))]<| T_srz 2<| T_ed 3 [] [(7,vu (ishr .u64 x 32))]<| T_srz 3<| T_ed 3 [] [(8,vu (iand .u64 y 4294967295))]<| T_srz 4<| T_ed 3 [] [(9,vu (ishr .u64 y 32))]<| T_srz 5<| T_ed 4 [] [(10,vu (IntKind.wrap .u64 ((iand .u64 x 4294967295)*(iand .u64 y 4294967295))))]<| T_srz 6<| T_ed 7 [8,10] [(11,vu (IntKind.wrap .u64 ((IntKind.wrap .u64 ((ishr .u64 x 32)*(iand .u64 y 4294967295)))+(ishr .u64 (IntKind.wrap .u64 ((iand .u64 x 4294967295)*(iand .u64 y 4294967295))) 32))))]<| T_srz 7<| T_ed 3 [] [(12,vu (iand .u64 (IntKind.wrap .u64 ((IntKind.wrap .u64 ((ishr .u64 x 32)*(iand .u64 y 4294967295)))+(ishr .u64 (IntKind.wrap .u64 ((iand .u64 x 4294967295)*(iand .u64 y 4294967295))) 32))) 4294967295))]<| T_srz 8<| T_ed 3 [11] [(13,vu (ishr .u64 (IntKind.wrap .u64 ((IntKind.wrap .u64 ((ishr .u64 x 32)*(iand .u64 y 4294967295)))+(ishr .u64 (IntKind.wrap .u64 ((iand .u64 x 4294967295)*(iand .u64 y 4294967295))) 32))) 32))]<| T_srz 9<| T_ed 6 [6,12] [(12,vu (IntKind.wrap .u64 ((iand .u64 (IntKind.wrap .u64 ((IntKind.wrap .u64 ((ishr .u64 x 32)*(iand .u64 y 4294967295)))+(ishr .u64 (IntKind.wrap .u64 ((iand .u64 x 4294967295)*(iand .u64 y 4294967295))) 32))) 4294967295)+(IntKind.wrap .u64 ((iand .u64 x 4294967295)*(ishr .u64 y 32))))))]<| T_srz 10<| T_ed 9 [7,9,12,13] [(4,vu (IntKind.wrap .u64 ((IntKind.wrap .u64 ((IntKind.wrap .u64 ((ishr .u64 x 32)*(ishr .u64 y 32)))+(ishr .u64 (IntKind.wrap .u64 ((IntKind.wrap .u64 ((ishr .u64 x 32)*(iand .u64 y 4294967295)))+(ishr .u64 (IntKind.wrap .u64 ((iand .u64 x 4294967295)*(iand .u64 y 4294967295))) 32))) 32)))+(ishr .u64 (IntKind.wrap .u64 ((iand .u64 (IntKind.wrap .u64 ((IntKind.wrap .u64 ((ishr .u64 x 32)*(iand .u64 y 4294967295)))+(ishr .u64 (IntKind.wrap .u64 ((iand .u64 x 4294967295)*(iand .u64 y 4294967295))) 32))) 4294967295)+(IntKind.wrap .u64 ((iand .u64 x 4294967295)*(ishr .u64 y 32))))) 32))))]<| T_srz 11<| T_nr 4 [4,5] [vu (IntKind.wrap .u64 ((IntKind.wrap .u64 ((IntKind.wrap .u64 ((ishr .u64 x 32)*(ishr .u64 y 32)))+(ishr .u64 (IntKind.wrap .u64 ((IntKind.wrap .u64 ((ishr .u64 x 32)*(iand .u64 y 4294967295)))+(ishr .u64 (IntKind.wrap .u64 ((iand .u64 x 4294967295)*(iand .u64 y 4294967295))) 32))) 32)))+(ishr .u64 (IntKind.wrap .u64 ((iand .u64 (IntKind.wrap .u64 ((IntKind.wrap .u64 ((ishr .u64 x 32)*(iand .u64 y 4294967295)))+(ishr .u64 (IntKind.wrap .u64 ((iand .u64 x 4294967295)*(iand .u64 y 4294967295))) 32))) 4294967295)+(IntKind.wrap .u64 ((iand .u64 x 4294967295)*(ishr .u64 y 32))))) 32))),vu (IntKind.wrap .u64 (x*y))] hQ h
end math_bits_Mul64

/-! (moraine/eqtab.table).fresh -/
namespace eqtab_table_fresh
def K0:=Func.code Tryz.f58
def K2:=cb K0
def K3:=ca K2
def K4:=cb K2
def K5:=ca K3
def K10:=cb K4
def K11:=ca K10
def K12:=cb K10
def K14:=cb K11
def K15:=ca K14
def K16:=ca K15
def K18:=cb K16
def K20:=cb K18
def K23:=ca K20
def K25:=ca K23
def K27:=cb K25
def K28:=ca K27
def K30:=ca K12
def K31:=cb K12
def K33:=cb K30
def K34:=ca K33
def K35:=ca K34
def K37:=cb K35
def K39:=cb K37
def K42:=ca K39
def K44:=ca K42
def K46:=cb K44
def K48:=cb K46
def K50:=cb K48
def K51:=ca K50
end eqtab_table_fresh
def eqtab_table_fresh.pt(ai:zW)(tw:Int)(H:zV)(R:zw):Prop:=
 ∀(b:Nat) (H1:zV),b=H.size->H1=H.push (.cells #[.pointer ai,.int .u64 tw] 72)->
 ∃(z:zW) (xw:Int),RowAt H1 (ad b) 0 [.pointer z,.int .u64 xw]/\
 ∃(m:zW) (ac:Int),RowAt H1 (ad b) 0 [.pointer m,.int .u64 ac]/\
 eqtab_table_get.C z xw 3 H1 (λv H2=> ∃x:Int,v=.int .u64 x/\RowAt H2 (ad b) 0 [.pointer m,.int .u64 ac]/\
 eqtab_table_now.C m ac H2 (λa9 H3=> ∃af:Int,a9=.int .u64 af/\
 if x=af then(
 R (.tuple #[]) H3)
 else
 ∃(au:zW->Nat->Nat->yZ) (m17:zW->Nat->Nat->Int->zV->Nat),au none 0 0 0 H3/\ ∀(f:zW) (allN:Nat) (allC:Nat) (s14:Int) (H4:zV),au f allN allC s14 H4->
 if s14<31 then(
 ∃(j:zW) (y:Int),RowAt H4 (ad b) 0 [.pointer j,.int .u64 y]/\
 ∃(p:zW) (ag:Int),RowAt H4 (ad b) 0 [.pointer p,.int .u64 ag]/\
 eqtab_table_bucket.C p ag s14 H4 (λba H5=> ∃aq:Int,ba=.int .u64 aq/\RowAt H5 (ad b) 0 [.pointer j,.int .u64 y]/\
 eqtab_table_pairs.C j y aq H5 (λan H6=>an=an/\
 slices_AppendSeq_api_Word_api_Word.C f allN allC an H6 (λa4 H7=> ∃(xB:zW) (xN xC:Nat),a4=.slice xB xN xC/\
 ∃(u:zW) (ak:Int),RowAt H7 (ad b) 0 [.pointer u,.int .u64 ak]/\
 eqtab_table_setBucket.C u ak s14 20 H7 (λ_ H8=>
 (au xB xN xC (zY (s14+1)) H8/\m17 xB xN xC (zY (s14+1)) H8<m17 f allN allC s14 H4))))))
 else
 ∃(ao:yZ) (m36:Int->zV->Nat),ao 0 H4/\ ∀(e:Int) (H9:zV),ao e H9->
 if e< (allN:Int)then(
 ∃d:Addr,f=some d/\
 yX e allN/\
 ∃g:Int,hat H9 (d.add (Int.toNat e*1))=some (.int .u64 g)/\
 ∃(r:zW) (aj:Int),RowAt H9 (ad b) 0 [.pointer r,.int .u64 aj]/\
 eqtab_table_key.C r aj g H9 (λa7 a6=> ∃ra rb:Int,a7=.tuple #[.int .u64 ra,.int .u64 rb]/\
 eqtab_index.C rb a6 (λa5 av=> ∃n:Int,a5=.int .i64 n/\
 ∃ae:zW,hat av (ad b)=some (.pointer ae)/\
 ∃(q:zW) (ah:Int),RowAt av (ad b) 0 [.pointer q,.int .u64 ah]/\
 eqtab_table_bucket.C q ah n av (λa8 a0=> ∃ap:Int,a8=.int .u64 ap/\RowAt a0 (ad b) 0 [.pointer ae]/\
 obj_Heap_SetCdr.C ae g ap a0 (λax ay=> ∃a3:Int,ax=.int .i64 a3/\
 ∃(s:zW) (al:Int),RowAt ay (ad b) 0 [.pointer s,.int .u64 al]/\
 eqtab_table_setBucket.C s al n g ay (λ_ az=>
 (ao (zY (e+1)) az/\m36 (zY (e+1)) az<m36 e H9)))))))
 else
 ∃(l:zW) (aa:Int),RowAt H9 (ad b) 0 [.pointer l,.int .u64 aa]/\
 ∃(o:zW) (ab:Int),RowAt H9 (ad b) 0 [.pointer o,.int .u64 ab]/\
 eqtab_table_now.C o ab H9 (λa1 aw=> ∃am:Int,a1=.int .u64 am/\RowAt aw (ad b) 0 [.pointer l,.int .u64 aa]/\
 eqtab_table_set.C l aa 3 am aw (λ_ a2=>
 R (.tuple #[]) a2))))
namespace eqtab_table_fresh
theorem link{ai:zW}{tw:Int}{H:zV}{R:zw}(h:pt ai tw H R):C ai tw H R:=by
 refine T_en K0 58 Tryz.func58 ?_
 intro w0 Q hQ
 unfold pt zY at h
 refine T_su [(0,.agg #[vp ai,vu tw])]<| T_srz 0<| T_nw (some 1) (λb=>vp (pa b)) (.cells #[vp ai,vu tw] 72) ?_
 intro b H1 e1 e2
 replace h:=h b H1 e1 e2
 refine⟨[(1,vp (pa b))],pk,?_⟩
 refine T_e<| T_sz<| T_sz ?_
 obtain⟨z,xw,q3,m,ac,q4,h⟩:=h
 refine yk 1 (Code.ops K5) [(1,(ad b),[vp z,vu xw]),(3,(ad b),[vp m,vu ac])] 5 (bv 5 0) (show FactsAt _ _ _ from⟨q3,q4,trivial⟩)<| T_g 0 (some 9) (.agg #[vp z,vu xw]) (bv 5 1) [(1,vp (pa b)),(9,.agg #[vp z,vu xw])] (loadN 72 (vp (pa b))) (held_row 1 (λ_=>by kernel_rfl) (λ_=>by kernel_rfl) yQ (.inl (by kernel_rfl)))<| T_g1 2 11 (.agg #[vp m,vu ac]) (bv 5 5) [] (loadN 72 (vp (pa b))) (held_row 3 (λ_=>by kernel_rfl) (λ_=>by kernel_rfl) yJ (.inl (by kernel_rfl)))<| yv 1 (some 10) (bv 5 7) 34 #[.agg #[vp z,vu xw],vi 3] h ?_;clear h
 rintro v H2 ⟨x,rfl,f5,h⟩
 refine⟨[(1,vp (pa b)),(10,vu x),(11,.agg #[vp m,vu ac])],pk,(show FactsAt _ _ _ from⟨trivial,f5,trivial⟩),?_⟩
 refine yv 3 (some 12) (bv 5 15) 90 #[.agg #[vp m,vu ac]] h ?_;clear h
 rintro a9 H3 ⟨af,rfl,h⟩
 refine⟨[(1,vp (pa b)),(10,vu x),(12,vu af)],pk,(show FactsAt _ _ _ from⟨trivial,trivial,trivial⟩),?_⟩
 refine T_g 4 (some 13) (.bool (x==af)) (bv 5 31) [(1,vp (pa b)),(13,.bool (x==af))] (pure (.value (.bool (x==af))):Sem Next) (λ_ _ _ _ _=>rfl)<| G_sub [(1,vp (pa b)),(13,.bool (x==af))] sk<| yw<| S_then ?_
 by_cases c6:x=af
 ·rw[if_pos c6]at h
  exact T_cTz 13 (zK c6)<| T_ret [] [] hQ h
 rw[if_neg c6]at h
 refine T_cFz 13 (zJ c6)<| T_kt<| T_srz 2<| T_ne 1 [(1,vp (pa b)),(2,vs none 0 0)]<| T_sz<| T_srz 3<| T_ed 1 [] [(14,vi 0)]<| T_bz 0 ?_
 obtain⟨au,m17,i8,i9⟩:=h
 refine S_loop (x:=K16) (σ:=zW×Nat×Nat×Int) (λs_=> [(1,vp (pa b)),(2,vs s_.1 s_.2.1 s_.2.2.1),(14,vi s_.2.2.2)]) (λs_ H=>au s_.1 s_.2.1 s_.2.2.1 s_.2.2.2 H) (λs_ H=>m17 s_.1 s_.2.1 s_.2.2.1 s_.2.2.2 H) ((none,0,0,0):zW×Nat×Nat×Int) (by kernel_rfl) i8 sk ?_
 rintro⟨f,allN,allC,s14⟩ H4 i10
 have h:=i9 f allN allC s14 H4 i10
 refine T_su [(1,vp (pa b)),(2,vs f allN allC),(14,vi s14)]<| T_srz 4<| T_ed 1 [] [(15,.bool (decide (s14<31)))]<| T_sz ?_
 by_cases c11:s14<31
 ·rw[if_pos c11]at h
  refine T_cTz 15 (zX c11)<| T_kt<| T_sz<| T_bz 1<| T_srz 5<| T_ed 2 [15] [(3,vi s14)]<| T_sz ?_
  obtain⟨j,y,q13,p,ag,q14,h⟩:=h
  refine yk 6 (Code.ops K28) [(5,(ad b),[vp j,vu y]),(4,(ad b),[vp p,vu ag])] 8 (bv 8 0) (show FactsAt _ _ _ from⟨q13,q14,trivial⟩)<| T_gp 0 (some 17) (vs f allN allC) (bv 8 1) [(1,vp (pa b)),(2,vs f allN allC),(3,vi s14),(14,vi s14),(17,vs f allN allC)]<| T_g1 1 18 (.agg #[vp j,vu y]) (bv 8 3) [] (loadN 72 (vp (pa b))) (held_row 5 (λ_=>by kernel_rfl) (λ_=>by kernel_rfl) yQ (.inl (by kernel_rfl)))<| T_g1 2 19 (.agg #[vp p,vu ag]) (bv 8 7) [] (loadN 72 (vp (pa b))) (held_row 4 (λ_=>by kernel_rfl) (λ_=>by kernel_rfl) yJ (.inl (by kernel_rfl)))<| T_gp1 3 20 (vi s14) (bv 8 15) []<| yv 4 (some 21) (bv 8 31) 35 #[.agg #[vp p,vu ag],vi s14] h ?_;clear h
  rintro ba H5 ⟨aq,rfl,f15,h⟩
  refine⟨[(1,vp (pa b)),(2,vs f allN allC),(3,vi s14),(14,vi s14),(17,vs f allN allC),(18,.agg #[vp j,vu y]),(21,vu aq)],pk,(show FactsAt _ _ _ from⟨f15,trivial,trivial⟩),?_⟩
  refine yv 5 (some 22) (bv 8 63) 59 #[.agg #[vp j,vu y],vu aq] h ?_;clear h
  rintro an H6 ⟨-,h⟩
  refine⟨[(1,vp (pa b)),(2,vs f allN allC),(3,vi s14),(14,vi s14),(17,vs f allN allC),(22,an)],pk,(show FactsAt _ _ _ from⟨trivial,trivial,trivial⟩),?_⟩
  refine yv 6 (some 23) (bv 8 127) 91 #[vs f allN allC,an] h ?_;clear h
  rintro a4 H7 ⟨xB,xN,xC,rfl,h⟩
  refine⟨[(1,vp (pa b)),(2,vs f allN allC),(3,vi s14),(14,vi s14),(23,vs xB xN xC)],pk,(show FactsAt _ _ _ from⟨trivial,trivial,trivial⟩),?_⟩
  refine T_g 7 (some 2) (vs xB xN xC) (bv 8 255) [(1,vp (pa b)),(2,vs xB xN xC),(3,vi s14),(14,vi s14)] (pure (.value (vs xB xN xC)):Sem Next) (λ_ _ _ _ _=>rfl)<| G_sub [(1,vp (pa b)),(2,vs xB xN xC),(3,vi s14),(14,vi s14)] sk<| yw<| S_then<| T_rz 7 ?_
  obtain⟨u,ak,q16,h⟩:=h
  refine T_v (some 24) (loadN 72 (vp (pa b))) (.agg #[vp u,vu ak]) (loadN_run (loadOK_row (λ_=>by kernel_rfl) (λ_=>by kernel_rfl) q16)) [(1,vp (pa b)),(2,vs xB xN xC),(3,vi s14),(14,vi s14),(24,.agg #[vp u,vu ak])]<| T_nd 1 [3] [(25,vi s14)]<| T_c (some 26) h ?_;clear h
  intro v_6 H8 h
  exact T_pd [24,25] []<| zq<| S_blockEnd<| S_then<| T_rz 8<| T_ed 2 [14] [(14,vi (zY (s14+1)))]<| S_round ((xB,xN,xC,(zY (s14+1))):zW×Nat×Nat×Int) sk h
 rw[if_neg c11]at h
 refine T_cFz 15 (zQ c11)<| zj 0<| S_exitThen<| S_exitThen<| S_exitHere<| S_then<| T_sz<| T_srz 9<| T_ed 3 [2,14,15] [(28,vs f allN allC),(29,vi allN),(30,vi 0)]<| T_bz 2 ?_
 obtain⟨ao,m36,i17,i18⟩:=h
 refine S_loop (x:=K35) (σ:=Int) (λs_=> [(1,vp (pa b)),(28,vs f allN allC),(29,vi allN),(30,vi s_)]) (λs_ H=>ao s_ H) (λs_ H=>m36 s_ H) (0:Int) (by kernel_rfl) i17 sk ?_
 rintro e H9 i19
 have h:=i18 e H9 i19
 refine T_su [(1,vp (pa b)),(28,vs f allN allC),(29,vi allN),(30,vi e)]<| T_srz 10<| T_ed 1 [] [(31,.bool (decide (e< (allN:Int))))]<| T_sz ?_
 by_cases c20:e< (allN:Int)
 ·rw[if_pos c20]at h
  refine T_cTz 31 (zX c20)<| T_kt<| T_sz<| T_bz 3<| T_srz 11<| T_ud [31] [] ?_
  obtain⟨d,rfl,q22,h⟩:=h
  refine T_xd (some 32) 54 31 1 d allN allC .i64 e Tryz.underlying54 q22.1 q22.2 [28] [(28,vs (some d) allN allC),(32,vp (some (d.add (Int.toNat e*1))))] ?_
  obtain⟨g,q23,h⟩:=h
  refine T_l1 33 31 q23 [32]<| T_ed 1 [33] [(5,vu g)]<| T_srz 12 ?_
  obtain⟨r,aj,q24,h⟩:=h
  refine T_lr 35 72 q24 []<| T_nd 1 [] [(36,vu g)]<| T_c (some 37) h ?_;clear h
  rintro a7 a6 ⟨ra,rb,rfl,h⟩
  refine T_pd [35,36] [(37,.tuple #[vu ra,vu rb])]<| T_ed 5 [37] [(7,vu rb)]<| T_srz 13<| T_nd 1 [7] [(40,vu rb)]<| T_c (some 41) h ?_;clear h
  rintro a5 av ⟨n,rfl,h⟩
  refine T_pd [40] [(41,vi n)]<| T_ed 1 [41] [(8,vi n)]<| T_sz ?_
  obtain⟨ae,q25,q,ah,q26,h⟩:=h
  refine yk 14 (Code.ops K51) [(6,(ad b),[vp ae]),(5,(ad b),[vp q,vu ah])] 7 (bv 7 0) (show FactsAt _ _ _ from⟨⟨q25,trivial⟩,q26,trivial⟩)<| T_gp 0 (some 42) (vp (pa b)) (bv 7 1) [(1,vp (pa b)),(5,vu g),(8,vi n),(28,vs (some d) allN allC),(29,vi allN),(30,vi e),(42,vp (pa b))]<| T_g1 1 43 (vp ae) (bv 7 3) [42] (loadN 34 (vp (pa b))) (yj 6 yQ)<| T_gp1 2 44 (vu g) (bv 7 7) []<| T_g1 3 45 (.agg #[vp q,vu ah]) (bv 7 15) [] (loadN 72 (vp (pa b))) (held_row 5 (λ_=>by kernel_rfl) (λ_=>by kernel_rfl) yJ (.inl (by kernel_rfl)))<| T_gp1 4 46 (vi n) (bv 7 31) []<| yv 5 (some 47) (bv 7 63) 35 #[.agg #[vp q,vu ah],vi n] h ?_;clear h
  rintro a8 a0 ⟨ap,rfl,f27,h⟩
  refine⟨[(1,vp (pa b)),(5,vu g),(8,vi n),(28,vs (some d) allN allC),(29,vi allN),(30,vi e),(43,vp ae),(44,vu g),(47,vu ap)],pk,(show FactsAt _ _ _ from⟨f27,trivial,trivial⟩),?_⟩
  refine yv 6 (some 48) (bv 7 127) 32 #[vp ae,vu g,vu ap] h ?_;clear h
  rintro ax ay ⟨a3,rfl,h⟩
  refine⟨[(1,vp (pa b)),(5,vu g),(8,vi n),(28,vs (some d) allN allC),(29,vi allN),(30,vi e)],pk,(show FactsAt _ _ _ from⟨trivial,trivial,trivial⟩),?_⟩
  refine G_sub [(1,vp (pa b)),(5,vu g),(8,vi n),(28,vs (some d) allN allC),(29,vi allN),(30,vi e)] sk ?_
  refine yw<| S_then<| T_rz 15 ?_
  obtain⟨s,al,q28,h⟩:=h
  refine T_v (some 49) (loadN 72 (vp (pa b))) (.agg #[vp s,vu al]) (loadN_run (loadOK_row (λ_=>by kernel_rfl) (λ_=>by kernel_rfl) q28)) [(1,vp (pa b)),(5,vu g),(8,vi n),(28,vs (some d) allN allC),(29,vi allN),(30,vi e),(49,.agg #[vp s,vu al])]<| T_nd 2 [5,8] [(50,vi n),(51,vu g)]<| T_c (some 52) h ?_;clear h
  intro v_11 az h
  exact T_pd [49,50,51] []<| zq<| S_blockEnd<| S_then<| T_rz 16<| T_ed 2 [30] [(30,vi (zY (e+1)))]<| S_round ((zY (e+1)):Int) sk h
 rw[if_neg c20]at h
 refine T_cFz 31 (zQ c20)<| zj 2<| S_exitThen<| S_exitThen<| S_exitHere<| S_then ?_
 obtain⟨l,aa,q29,o,ab,q30,h⟩:=h
 refine yk 17 (Code.ops K31) [(3,(ad b),[vp l,vu aa]),(2,(ad b),[vp o,vu ab])] 4 (bv 4 0) (show FactsAt _ _ _ from⟨q29,q30,trivial⟩)<| T_g 0 (some 54) (.agg #[vp l,vu aa]) (bv 4 1) [(1,vp (pa b)),(54,.agg #[vp l,vu aa])] (loadN 72 (vp (pa b))) (held_row 3 (λ_=>by kernel_rfl) (λ_=>by kernel_rfl) yQ (.inl (by kernel_rfl)))<| T_g1 1 55 (.agg #[vp o,vu ab]) (bv 4 3) [1] (loadN 72 (vp (pa b))) (held_row 2 (λ_=>by kernel_rfl) (λ_=>by kernel_rfl) yJ (.inl (by kernel_rfl)))<| yv 2 (some 56) (bv 4 7) 90 #[.agg #[vp o,vu ab]] h ?_;clear h
 rintro a1 aw ⟨am,rfl,f31,h⟩
 refine⟨[(54,.agg #[vp l,vu aa]),(56,vu am)],pk,(show FactsAt _ _ _ from⟨f31,trivial,trivial⟩),?_⟩
 refine yv 3 (some 57) (bv 4 15) 37 #[.agg #[vp l,vu aa],vi 3,vu am] h ?_;clear h
 intro v_13 a2 h
 refine⟨[],pk,(show FactsAt _ _ _ from⟨trivial,trivial,trivial⟩),?_⟩
 refine G_sub [] sk ?_
 exact yw<| S_doneN (fn:=Tryz.f58) [] hQ (show ResOK _ _ _ [] _ from .nil) h
end eqtab_table_fresh

/-! (moraine/eqtab.table).pairs -/
namespace eqtab_table_pairs
def K0:=Func.code Tryz.f59
end eqtab_table_pairs
def eqtab_table_pairs.pt(a:zW)(tw l:Int)(H:zV)(R:zw):Prop:=
 ∀(b:Nat) (H1:zV),b=H.size->H1=H.push (.cells #[.pointer a,.int .u64 tw] 72)->
 ∀(d:Nat) (H2:zV),d=H1.size->H2=H1.push (.cells #[.int .u64 l] 31)->
 R (.func (.func 92) #[] #[.pointer (some (ad b)),.pointer (some (ad d))]) H2
namespace eqtab_table_pairs
theorem link{a:zW}{tw l:Int}{H:zV}{R:zw}(h:pt a tw l H R):C a tw l H R:=by
 refine T_en K0 6 Tryz.func59 ?_
 intro w0 Q hQ
 unfold pt at h
 refine T_su [(0,.agg #[vp a,vu tw]),(1,vu l)]<| T_srz 0<| T_nw (some 2) (λb=>vp (pa b)) (.cells #[vp a,vu tw] 72) ?_
 intro b H1 e1 e2
 replace h:=h b H1 e1 e2
 refine T_pd [0] [(2,vp (pa b))]<| T_nw (some 3) (λb=>vp (pa b)) (.cells #[vu l] 31) ?_
 intro d H2 e3 e4
 replace h:=h d H2 e3 e4
 exact T_pd [1] [(3,vp (pa d))]<| T_ed 1 [] []<| T_srz 1<| T_nr 2 [4] [.func (.func 92) #[] #[vp (pa b),vp (pa d)]] hQ h
end eqtab_table_pairs

/-! (moraine/eqtab.table).key -/
namespace eqtab_table_key
def K0:=Func.code Tryz.f60
end eqtab_table_key
def eqtab_table_key.pt(a:zW)(tw p:Int)(H:zV)(R:zw):Prop:=
 ∀(b:Nat) (H1:zV),b=H.size->H1=H.push (.cells #[.pointer a,.int .u64 tw] 72)->
 ∃x:zW,hat H1 (ad b)=some (.pointer x)/\
 obj_Heap_Car.C x p H1 (λv H2=> ∃ra rb:Int,v=.tuple #[.int .u64 ra,.int .i64 rb]/\
 ∃e:zW,hat H2 (ad b)=some (.pointer e)/\
 obj_Heap_Car.C e ra H2 (λg H3=> ∃d f:Int,g=.tuple #[.int .u64 d,.int .i64 f]/\
 R (.tuple #[.int .u64 ra,.int .u64 d]) H3))
namespace eqtab_table_key
theorem link{a:zW}{tw p:Int}{H:zV}{R:zw}(h:pt a tw p H R):C a tw p H R:=by
 refine T_en K0 22 Tryz.func60 ?_
 intro w0 Q hQ
 unfold pt at h
 refine T_su [(0,.agg #[vp a,vu tw]),(1,vu p)]<| T_srz 0<| T_nw (some 2) (λb=>vp (pa b)) (.cells #[vp a,vu tw] 72) ?_
 intro b H1 e1 e2
 replace h:=h b H1 e1 e2
 refine T_pd [0] [(2,vp (pa b))]<| T_ed 2 [] []<| T_srz 1<| T_nd 1 [] [(7,vp (pa b))] ?_
 obtain⟨x,q3,h⟩:=h
 refine T_l1 8 34 q3 [7]<| T_nd 1 [1] [(9,vu p)]<| T_c (some 10) h ?_;clear h
 rintro v H2 ⟨ra,rb,rfl,h⟩
 refine T_pd [8,9] [(10,.tuple #[vu ra,vi rb])]<| T_ed 4 [10] [(4,vu ra)]<| T_srz 2<| T_nd 1 [2] [(14,vp (pa b))] ?_
 obtain⟨e,q4,h⟩:=h
 refine T_l1 15 34 q4 [14]<| T_nd 1 [] [(16,vu ra)]<| T_c (some 17) h ?_;clear h
 rintro g H3 ⟨d,f,rfl,h⟩
 exact T_pd [15,16] [(17,.tuple #[vu d,vi f])]<| T_ed 4 [17] [(5,vu d)]<| T_srz 3<| T_nr 4 [4,5] [vu ra,vu d] hQ h
end eqtab_table_key

/-! (moraine/eqtab.table).now -/
namespace eqtab_table_now
def K0:=Func.code Tryz.f90
end eqtab_table_now
def eqtab_table_now.pt(a:zW)(tw:Int)(H:zV)(R:zw):Prop:=
 ∀(b:Nat) (H1:zV),b=H.size->H1=H.push (.cells #[.pointer a,.int .u64 tw] 72)->
 ∃x:zW,hat H1 (ad b)=some (.pointer x)/\
 obj_Heap_Epoch.C x H1 (λv H2=> ∃d:Int,v=.int .u64 d/\
 eqtab_fix.C (zY d) H2 (λf H3=> ∃e:Int,f=.int .u64 e/\
 R (.int .u64 e) H3))
namespace eqtab_table_now
theorem link{a:zW}{tw:Int}{H:zV}{R:zw}(h:pt a tw H R):C a tw H R:=by
 refine T_en K0 8 Tryz.func90 ?_
 intro w0 Q hQ
 unfold pt zY at h
 refine T_su [(0,.agg #[vp a,vu tw])]<| T_srz 0<| T_nw (some 1) (λb=>vp (pa b)) (.cells #[vp a,vu tw] 72) ?_
 intro b H1 e1 e2
 replace h:=h b H1 e1 e2
 refine⟨[(1,vp (pa b))],pk,?_⟩
 refine T_ed 1 [] []<| T_srz 1<| T_n 1 [(3,vp (pa b))] ?_
 obtain⟨x,q3,h⟩:=h
 refine T_l1 4 34 q3 [3]<| T_c (some 5) h ?_;clear h
 rintro v H2 ⟨d,rfl,h⟩
 refine⟨[(5,vu d)],pk,?_⟩
 refine T_n 1 [(6,vi (zY d))]<| T_c (some 7) h ?_;clear h
 rintro f H3 ⟨e,rfl,h⟩
 refine⟨[(7,vu e)],pk,?_⟩
 exact T_nr 1 [2] [vu e] hQ h
end eqtab_table_now

/-! (moraine/eqtab.table).pairs.1 -/
namespace eqtab_table_pairs_1
def K0:=Func.code Tryz.f92
def K1:=ca K0
def K2:=ca K1
end eqtab_table_pairs_1
def eqtab_table_pairs_1.pt(b:Value)(g e:zW)(H:zV)(R:zw):Prop:=
 ∃(I3:zV->Prop) (m3:zV->Nat),I3 H/\ ∀(H1:zV),I3 H1->
 ∃d:Addr,g=some d/\
 ∃x:zW,hat H1 d=some (.pointer x)/\
 ∃a:Addr,e=some a/\
 ∃k:Int,hat H1 a=some (.int .u64 k)/\
 obj_Heap_Pair.C x k H1 (λv H2=> ∃j:Bool,v=.bool j/\
 if j=true then(
 ∃i:zW,hat H2 d=some (.pointer i)/\
 ∃l:Int,hat H2 a=some (.int .u64 l)/\
 obj_Heap_Cdr.C i l H2 (λn H3=> ∃ra rb:Int,n=.tuple #[.int .u64 ra,.int .i64 rb]/\
 ∃m:Int,hat H3 a=some (.int .u64 m)/\
 FC Tryz.prog b #[.int .u64 m] H3 (λo H4=> ∃f:Bool,o=.bool f/\
 if f=true then(
 (CanPuts H4 a 0 1)/\ ∀H5,H5=hputs H4 a [.int .u64 ra] 0->
 (I3 H5/\m3 H5<m3 H1))
 else
 R (.tuple #[]) H4)))
 else
 R (.tuple #[]) H2)
namespace eqtab_table_pairs_1
theorem link{b:Value}{g e:zW}{H:zV}{R:zw}(h:pt b g e H R):C b g e H R:=by
 refine T_en K0 22 Tryz.func92 ?_
 intro w0 Q hQ
 unfold pt at h
 refine T_su [(0,b),(1,vp g),(2,vp e)]<| T_bz 0 ?_
 obtain⟨I3,m3,i1,i2⟩:=h
 refine S_loop (x:=K2) (σ:=Unit) (λs_=> [(0,b),(1,vp g),(2,vp e)]) (λs_ H=>I3 H) (λs_ H=>m3 H) (():Unit) (by kernel_rfl) i1 sk ?_
 rintro _ H1 i3
 have h:=i2 H1 i3
 refine T_su [(0,b),(1,vp g),(2,vp e)]<| T_sz<| T_srz 0 ?_
 obtain⟨d,rfl,h⟩:=h
 refine T_nd 1 [1] [(1,vp (some d)),(6,vp (some d))] ?_
 obtain⟨x,q4,h⟩:=h
 refine T_l1 7 34 q4 [6] ?_
 obtain⟨a,rfl,k,q5,h⟩:=h
 refine T_ld (some 8) 31 q5 [2] [(2,vp (some a)),(8,vu k)]<| T_c (some 9) h ?_;clear h
 rintro v H2 ⟨j,rfl,h⟩
 refine T_pd [7,8] [(9,.bool j)]<| T_e ?_
 by_cases c6:j=true
 ·rw[if_pos c6]at h
  refine T_cTz 9 c6<| T_kt<| T_bz 1<| T_srz 1<| T_nd 1 [9] [(11,vp (some d))] ?_
  obtain⟨i,q8,h⟩:=h
  refine T_l1 12 34 q8 [11] ?_
  obtain⟨l,q9,h⟩:=h
  refine T_l1 13 31 q9 []<| T_c (some 14) h ?_;clear h
  rintro n H3 ⟨ra,rb,rfl,h⟩
  refine T_pd [12,13] [(14,.tuple #[vu ra,vi rb])]<| T_ed 5 [14] [(4,vu ra)]<| T_sz<| T_srz 2<| T_nd 1 [] [(17,b)] ?_
  obtain⟨m,q10,h⟩:=h
  refine T_l1 18 31 q10 []<| N_callv (some 19) b #[vu m] (λ_=>by kernel_rfl) h ?_;clear h
  rintro o H4 ⟨f,rfl,h⟩
  refine T_pd [17,18] [(19,.bool f)]<| T_ed 1 [19] [(20,.bool (!f))] ?_
  by_cases c11:f=true
  ·rw[if_pos c11]at h
   refine T_cFz 20 (congrArg Bool.not (c11))<| T_kt<| T_rz 3<| T_nd 1 [4,20] [(21,vu ra)] ?_
   obtain⟨q14,h⟩:=h
   refine T_st1 31 (vu ra) q14 ?_
   intro H5 e13
   replace h:=h H5 e13
   exact T_pd [21] []<| zq<| S_blockEnd<| S_then<| S_round (s:=()) (():Unit) sk h
  rw[if_neg c11]at h
  exact T_cTz 20 (congrArg Bool.not (zZ c11))<| T_ret [] [] hQ h
 rw[if_neg c6]at h
 exact T_cFz 9 (zZ c6)<| zj 0<| S_exitThen<| S_exitThen<| S_exitHere<| S_doneN (fn:=Tryz.f92) [] hQ (show ResOK _ _ _ [] _ from .nil) h
end eqtab_table_pairs_1

/-! (*moraine/moraineref15.Table).Find -/
namespace moraineref15_Table_Find
def K0:=Func.code Tryz.f14
def K2:=cb K0
def K3:=ca K2
def K6:=cb K3
def K7:=ca K6
def K8:=ca K7
end moraineref15_Table_Find
def moraineref15_Table_Find.pt(tv:zW)(b:Int)(H:zV)(R:zw):Prop:=
 ∃(I9:yZ) (m9:Int->zV->Nat),I9 0 H/\ ∀(i:Int) (H1:zV),I9 i H1->
 ∃d:Addr,tv=some d/\
 ∃(xB:zW) (xN xC:Nat),hat H1 d=some (.slice xB xN xC)/\
 if i< (xN:Int)then(
 ∃(j:zW) (f g:Nat),hat H1 d=some (.slice j f g)/\
 ∃e:Addr,j=some e/\
 yX i f/\
 ∃x:Int,hat H1 (e.add (Int.toNat i*2))=some (.int .i64 x)/\
 if x=b then(
 R (.int .i64 i) H1)
 else
 (I9 (zY (i+1)) H1/\m9 (zY (i+1)) H1<m9 i H1))
 else
 R (.int .i64 (-1)) H1
namespace moraineref15_Table_Find
theorem link{tv:zW}{b:Int}{H:zV}{R:zw}(h:pt tv b H R):C tv b H R:=by
 refine T_en K0 26 Tryz.func14 ?_
 intro w0 Q hQ
 unfold pt zY at h
 refine T_su [(0,vp tv),(1,vi b)]<| T_srz 0<| T_ed 1 [] []<| T_sz<| T_srz 1<| T_ed 1 [] [(5,vi 0)]<| T_bz 0 ?_
 obtain⟨I9,m9,i1,i2⟩:=h
 refine S_loop (x:=K8) (σ:=Int) (λs_=> [(0,vp tv),(1,vi b),(5,vi s_)]) (λs_ H=>I9 s_ H) (λs_ H=>m9 s_ H) (0:Int) (by kernel_rfl) i1 sk ?_
 rintro i H1 i3
 have h:=i2 i H1 i3
 refine T_su [(0,vp tv),(1,vi b),(5,vi i)]<| T_sz<| T_srz 2<| T_nd 2 [] [(6,vi i),(7,vp tv)] ?_
 obtain⟨d,rfl,h⟩:=h
 refine T_nd 2 [0,7] [(0,vp (some d)),(9,vp (some d))] ?_
 obtain⟨xB,xN,xC,q4,h⟩:=h
 refine T_l1 10 62 q4 [9]<| T_ed 2 [6,10] [(12,.bool (decide (i< (xN:Int))))] ?_
 by_cases c5:i< (xN:Int)
 ·rw[if_pos c5]at h
  refine T_cTz 12 (zX c5)<| T_kt<| T_sz<| T_bz 1<| T_srz 4<| T_nd 3 [12] [(17,vp (some d))] ?_
  obtain⟨j,f,g,q7,h⟩:=h
  refine T_l1 18 62 q7 [17]<| T_nd 1 [] [(19,vi i)] ?_
  obtain⟨e,rfl,q8,h⟩:=h
  refine T_xd (some 20) 62 67 2 e f g .i64 i Tryz.underlying62 q8.1 q8.2 [18,19] [(20,vp (some (e.add (Int.toNat i*2))))]<| T_nd 1 [20] [(21,vp (some (e.add (Int.toNat i*2))))] ?_
  obtain⟨x,q9,h⟩:=h
  refine T_l1 22 3 q9 [21]<| T_ed 2 [22] [(24,.bool (x==b))] ?_
  by_cases c10:x=b
  ·rw[if_pos c10]at h
   exact T_cTz 24 (zK c10)<| T_srz 5<| T_nr 2 [4] [vi i] hQ h
  rw[if_neg c10]at h
  exact T_cFz 24 (zJ c10)<| T_k<| S_blockEnd<| S_then<| T_rz 3<| T_ed 3 [5,24] [(5,vi (zY (i+1)))]<| S_round ((zY (i+1)):Int) sk h
 rw[if_neg c5]at h
 exact T_cFz 12 (zQ c5)<| zj 0<| S_exitThen<| S_exitThen<| S_exitHere<| S_then<| T_srz 6<| T_nr 1 [4] [vi (-1)] hQ h
end moraineref15_Table_Find

/-! (*moraine/moraineref15.Table).Put -/
namespace moraineref15_Table_Put
def K0:=Func.code Tryz.f17
end moraineref15_Table_Put
def moraineref15_Table_Put.pt(tv:zW)(e d:Int)(H:zV)(R:zw):Prop:=
 moraineref15_Table_Find.C tv e H (λv H1=> ∃x:Int,v=.int .i64 x/\
 if x<0 then(
 ∃f:Addr,tv=some f/\
 ∃(xB:zW) (xN xC:Nat),hat H1 f=some (.slice xB xN xC)/\
 ∀(b:Nat) (H2:zV),b=H1.size->H2=H1.push (.cells #[.int .i64 e,.int .i64 d] 67)->
 appendK 2 67 16 [.int .i64 0,.int .i64 0] xB xN xC (some (ad b)) 1 H2 (λap o H3=>
 (CanPuts H3 f 0 1)/\ ∀H4,H4=hputs H3 f [.slice ap (xN+1) o] 0->
 R (.tuple #[]) H4))
 else
 ∃m:Addr,tv=some m/\
 ∃(n:zW) (j l:Nat),hat H1 m=some (.slice n j l)/\
 ∃g:Addr,n=some g/\
 yX x j/\
 (CanPuts H1 ((g.add (Int.toNat x*2)).add 1) 0 1)/\ ∀H5,H5=hputs H1 ((g.add (Int.toNat x*2)).add 1) [.int .i64 d] 0->
 R (.tuple #[]) H5)
namespace moraineref15_Table_Put
theorem link{tv:zW}{e d:Int}{H:zV}{R:zw}(h:pt tv e d H R):C tv e d H R:=by
 refine T_en K0 32 Tryz.func17 ?_
 intro w0 Q hQ
 unfold pt at h
 refine T_su [(0,vp tv),(1,vi e),(2,vi d)]<| T_srz 0<| T_nd 2 [] [(7,vp tv),(8,vi e)]<| T_c (some 9) h ?_;clear h
 rintro v H1 ⟨x,rfl,h⟩
 refine T_pd [7,8] [(9,vi x)]<| T_ed 1 [9] [(6,vi x)]<| T_sz<| T_srz 1<| T_ed 2 [] [(11,.bool (decide (x<0)))] ?_
 by_cases c1:x<0
 ·rw[if_pos c1]at h
  refine T_cTz 11 (zX c1)<| T_srz 2<| T_nd 2 [0,6,11] [(12,vp tv),(13,vp tv)] ?_
  obtain⟨f,rfl,h⟩:=h
  refine T_nd 2 [12,13] [(12,vp (some f)),(15,vp (some f))] ?_
  obtain⟨xB,xN,xC,q3,h⟩:=h
  refine T_l1 16 62 q3 [15]<| T_nd 3 [1,2] [(19,.agg #[vi e,vi d])]<| T_nw (some 20) (λb=>vs (pa b) 1 1) (.cells #[vi e,vi d] 67) ?_
  intro b H2 e4 e5
  replace h:=h b H2 e4 e5
  refine T_pd [19] [(20,vs (pa b) 1 1)]<| N_op (some 21) (appendN #[62,62] 62 #[vs xB xN xC,vs (pa b) 1 1]) _ (λ_=>by kernel_rfl) (ss_append (T:=67) (sz:=2) (bytes:=16) (zero:=(.agg #[vi 0,vi 0]:Value)) Tryz.underlying62 Tryz.underlying62 rfl (show Tryz.prog.info? 67=some Tryz.t67 from by kernel_rfl) (by kernel_rfl) (by kernel_rfl) (by decide) (by kernel_rfl) (by first | exact h | (simpa only[Value.cells,List.toList_toArray]using h))) ?_;clear h
  rintro _ H3 ⟨ap,o,rfl,h⟩
  refine T_pd [16,20] [(21,vs ap (xN+1) o)]<| T_nd 2 [12] [(23,vp (some f))] ?_
  obtain⟨q7,h⟩:=h
  refine T_st1 62 (vs ap (xN+1) o) q7 ?_
  intro H4 e6
  replace h:=h H4 e6
  refine⟨[],pk,?_⟩
  exact T_e<| T_ret [] [] hQ h
 rw[if_neg c1]at h
 refine T_cFz 11 (zQ c1)<| T_kt<| T_rz 3<| T_nd 1 [0,1,11] [(24,vp tv)] ?_
 obtain⟨m,rfl,h⟩:=h
 refine T_nd 2 [24] [(26,vp (some m))] ?_
 obtain⟨n,j,l,q8,h⟩:=h
 refine T_l1 27 62 q8 [26]<| T_nd 2 [2,6] [(28,vi x),(29,vi d)] ?_
 obtain⟨g,rfl,q9,h⟩:=h
 refine T_xd (some 30) 62 67 2 g j l .i64 x Tryz.underlying62 q9.1 q9.2 [27,28] [(30,vp (some (g.add (Int.toNat x*2))))]<| T_nd 1 [30] [(31,vp (some ((g.add (Int.toNat x*2)).add 1)))] ?_
 obtain⟨q11,h⟩:=h
 refine T_st1 3 (vi d) q11 ?_
 intro H5 e10
 replace h:=h H5 e10
 refine⟨[],pk,?_⟩
 exact zq<| S_doneN (fn:=Tryz.f17) [] hQ (show ResOK _ _ _ [] _ from .nil) h
end moraineref15_Table_Put

/-! (*moraine/moraineref15.Table).Delete -/
namespace moraineref15_Table_Delete
def K0:=Func.code Tryz.f27
end moraineref15_Table_Delete
def moraineref15_Table_Delete.pt(tv:zW)(o:Int)(H:zV)(R:zw):Prop:=
 moraineref15_Table_Find.C tv o H (λv H1=> ∃x:Int,v=.int .i64 x/\
 if x<0 then(
 R (.bool false) H1)
 else
 ∀(b:Nat) (H2:zV),b=H1.size->H2=H1.push (.cells #[] 67)->
 ∃e:Addr,tv=some e/\
 ∃(xB:zW) (xN xC:Nat),hat H2 e=some (.slice xB xN xC)/\
 ∃(lo hi:Nat),lo=0/\x=(hi:Int)/\lo<=hi/\hi<=xC/\
 ∀sl:zW,sl=(if xC=lo then xB else Option.map (λa:Addr=>a.add (lo*2)) xB)->
 appendK 2 67 16 [.int .i64 0,.int .i64 0] (some (ad b)) 0 0 sl (hi-lo) H2 (λap n H3=>
 ∃(i:zW) (k g:Nat),hat H3 e=some (.slice i k g)/\
 ∃(d f:Nat),(zY (x+1))=(d:Int)/\f=k/\d<=f/\f<=g/\
 ∀l:zW,l=(if g=d then i else Option.map (λa:Addr=>a.add (d*2)) i)->
 appendK 2 67 16 [.int .i64 0,.int .i64 0] ap (0+(hi-lo)) n l (f-d) H3 (λm j H4=>
 (CanPuts H4 e 0 1)/\ ∀H5,H5=hputs H4 e [.slice m ((0+(hi-lo))+(f-d)) j] 0->
 R (.bool true) H5)))
namespace moraineref15_Table_Delete
theorem link{tv:zW}{o:Int}{H:zV}{R:zw}(h:pt tv o H R):C tv o H R:=by
 refine T_en K0 32 Tryz.func27 ?_
 intro w0 Q hQ
 unfold pt zY at h
 refine T_su [(0,vp tv),(1,vi o)]<| T_srz 0<| T_ed 1 [] []<| T_srz 1<| T_nd 2 [1] [(7,vp tv),(8,vi o)]<| T_c (some 9) h ?_;clear h
 rintro v H1 ⟨x,rfl,h⟩
 refine T_pd [7,8] [(9,vi x)]<| T_ed 1 [9] [(5,vi x)]<| T_sz<| T_srz 2<| T_ed 2 [] [(11,.bool (decide (x<0)))] ?_
 by_cases c1:x<0
 ·rw[if_pos c1]at h
  exact T_cTz 11 (zX c1)<| T_srz 3<| T_nr 1 [4] [.bool false] hQ h
 rw[if_neg c1]at h
 refine T_cFz 11 (zQ c1)<| T_kt<| T_srz 4<| T_ud [11] []<| T_nw (some 12) (λb=>vs (pa b) 0 0) (.cells #[] 67) ?_
 intro b H2 e3 e4
 replace h:=h b H2 e3 e4
 refine T_pd [] [(12,vs (pa b) 0 0)]<| T_nd 1 [] [(13,vp tv)] ?_
 obtain⟨e,rfl,h⟩:=h
 refine T_nd 2 [0,13] [(0,vp (some e)),(15,vp (some e))] ?_
 obtain⟨xB,xN,xC,q5,h⟩:=h
 refine T_l1 16 62 q5 [15]<| T_nd 1 [] [(17,vi x)] ?_
 obtain⟨lo,hi,q6,q7,q8,q9,h⟩:=h
 obtain⟨sl,e10⟩: ∃B,B=(if xC=lo then xB else Option.map (λa:Addr=>a.add (lo*2)) xB):=⟨_,rfl⟩
 replace h:=h sl e10
 refine T_v1 18 (sliceN 62 (vs xB xN xC) none (some (vi x)) none) (vs sl (hi-lo) (xC-lo)) (λw _=>(slice_run (P:=Tryz.prog) (t:=62) (elem:=67) (sz:=2) (a:=xB) (len:=xN) (cap:=xC) none (some (vi x)) lo hi Tryz.underlying62 (λ_=>by kernel_rfl) (.inl ⟨rfl,q6⟩) (.inr ⟨.i64,congrArg (fun q=>some (Value.int .i64 q)) q7⟩) q8 q9 w).trans (by rw[e10];try rfl)) [16,17]<| N_op (some 19) (appendN #[62,62] 62 #[vs (pa b) 0 0,vs sl (hi-lo) (xC-lo)]) _ (λ_=>by kernel_rfl) (ss_append (T:=67) (sz:=2) (bytes:=16) (zero:=(.agg #[vi 0,vi 0]:Value)) Tryz.underlying62 Tryz.underlying62 rfl (show Tryz.prog.info? 67=some Tryz.t67 from by kernel_rfl) (by kernel_rfl) (by kernel_rfl) (by decide) (by kernel_rfl) (by first | exact h | (simpa only[Value.cells,List.toList_toArray]using h))) ?_;clear h
 rintro _ H3 ⟨ap,n,rfl,h⟩
 refine T_pd [12,18] [(19,vs ap (0+(hi-lo)) n)]<| T_ed 1 [19] [(6,vs ap (0+(hi-lo)) n)]<| T_srz 5<| T_nd 5 [0,6] [(20,vp (some e)),(21,vs ap (0+(hi-lo)) n),(24,vp (some e))] ?_
 obtain⟨i,k,g,q11,h⟩:=h
 refine T_l1 25 62 q11 [24]<| T_nd 2 [5] [(27,vi (zY (x+1)))] ?_
 obtain⟨d,f,q12,q13,q14,q15,h⟩:=h
 obtain⟨l,e16⟩: ∃B,B=(if g=d then i else Option.map (λa:Addr=>a.add (d*2)) i):=⟨_,rfl⟩
 replace h:=h l e16
 refine T_v1 28 (sliceN 62 (vs i k g) (some (vi (zY (x+1)))) none none) (vs l (f-d) (g-d)) (λw _=>(slice_run (P:=Tryz.prog) (t:=62) (elem:=67) (sz:=2) (a:=i) (len:=k) (cap:=g) (some (vi (zY (x+1)))) none d f Tryz.underlying62 (λ_=>by kernel_rfl) (.inr ⟨.i64,congrArg (fun q=>some (Value.int .i64 q)) q12⟩) (.inl ⟨rfl,q13⟩) q14 q15 w).trans (by rw[e16];try rfl)) [25,27]<| N_op (some 29) (appendN #[62,62] 62 #[vs ap (0+(hi-lo)) n,vs l (f-d) (g-d)]) _ (λ_=>by kernel_rfl) (ss_append (T:=67) (sz:=2) (bytes:=16) (zero:=(.agg #[vi 0,vi 0]:Value)) Tryz.underlying62 Tryz.underlying62 rfl (show Tryz.prog.info? 67=some Tryz.t67 from by kernel_rfl) (by kernel_rfl) (by kernel_rfl) (by decide) (by kernel_rfl) (by first | exact h | (simpa only[Value.cells,List.toList_toArray]using h))) ?_;clear h
 rintro _ H4 ⟨m,j,rfl,h⟩
 refine T_pd [21,28] [(29,vs m ((0+(hi-lo))+(f-d)) j)]<| T_nd 2 [20] [(31,vp (some e))] ?_
 obtain⟨q18,h⟩:=h
 refine T_st1 62 (vs m ((0+(hi-lo))+(f-d)) j) q18 ?_
 intro H5 e17
 replace h:=h H5 e17
 refine⟨[],pk,?_⟩
 exact T_e<| T_srz 6<| T_nr 1 [4] [.bool true] hQ h
end moraineref15_Table_Delete

/-! moraine/morainelaw15.at -/
namespace morainelaw15_at
def K0:=Func.code Tryz.f13
end morainelaw15_at
def morainelaw15_at.pt(x nv:Int)(H:zV)(R:zw):Prop:=
 (nv≠0)/\
 (nv≠0)/\
 R (.int .i64 (Int.tmod (zY ((Int.tmod x nv)+nv)) nv)) H
namespace morainelaw15_at
set_option maxRecDepth 100000 in
theorem link{x nv:Int}{H:zV}{R:zw}(h:pt x nv H R):C x nv H R:=by
 refine T_en K0 12 Tryz.func13 ?_
 intro w0 Q hQ
 unfold pt zY at h
 refine T_su [(0,vi x),(1,vi nv)]<| T_srz 0<| T_ed 1 [] []<| T_srz 1<| T_nd 2 [0] [(5,vi x),(6,vi nv)] ?_
 obtain⟨q1,h⟩:=h
 refine T_v1 7 (binN .rem 3 (vi x) (vi nv)) (vi (Int.tmod x nv)) (λw _=>rem_run (P:=Tryz.prog) (t:=3) (k:=.i64) (x:=x) (y:=nv) q1 w) [5,6]<| T_n 3 [(9,vi (zY ((Int.tmod x nv)+nv))),(10,vi nv)] ?_
 obtain⟨q2,h⟩:=h
 exact T_v1 11 (binN .rem 3 (vi (zY ((Int.tmod x nv)+nv))) (vi nv)) (vi (Int.tmod (zY ((Int.tmod x nv)+nv)) nv)) (λw _=>rem_run (P:=Tryz.prog) (t:=3) (k:=.i64) (x:=(zY ((Int.tmod x nv)+nv))) (y:=nv) q2 w) [9,10]<| T_nr 1 [4] [vi (Int.tmod (zY ((Int.tmod x nv)+nv)) nv)] hQ h
end morainelaw15_at

/-! moraine/morainelaw15.fix -/
namespace morainelaw15_fix
def K0:=Func.code Tryz.f16
end morainelaw15_fix
def morainelaw15_fix.pt(nv:Int)(H:zV)(R:zw):Prop:=
 R (.int .u64 (IntKind.wrap .u64 (zY ((Int.tmod nv 1000)*8)))) H
namespace morainelaw15_fix
set_option maxRecDepth 100000 in
theorem link{nv:Int}{H:zV}{R:zw}(h:pt nv H R):C nv H R:=by
 refine T_en K0 7 Tryz.func16 ?_
 intro w0 Q hQ
 unfold pt zY at h
 exact T_su [(0,vi nv)]<| T_srz 0<| T_ed 1 [] []<| T_srz 1<| T_nr 5 [2] [vu (IntKind.wrap .u64 (zY ((Int.tmod nv 1000)*8)))] hQ h
end morainelaw15_fix

/-! moraine/morainelaw15.begun -/
namespace morainelaw15_begun
def K0:=Func.code Tryz.f9
def K2:=cb K0
def K4:=cb K2
def K6:=cb K4
def K14:=cb K6
def K16:=cb K14
def K18:=cb K16
def K24:=cb K18
def K25:=ca K24
def K28:=cb K25
def K29:=ca K28
def K30:=ca K29
end morainelaw15_begun
def morainelaw15_begun.pt(H:zV)(R:zw):Prop:=
 obj_New.C 200 H (λv H1=> ∃(ra:zW) (rb:Int),v=.tuple #[.pointer ra,.int .i64 rb]/\
 if rb=0 then(
 onPtr ra (
 R (.pointer none) H1) (λe=>
 ∀(b:Nat) (H2:zV),b=H1.size->H2=H1.push (.cells #[.slice none 0 0] 64)->
 ∀(d:Nat) (H3:zV),d=H2.size->H3=H2.push (.cells ([.pointer (some e)]++List.replicate 41 (.int .u64 0)++[.pointer (some (ad b))]:List Value).toArray 38)->
 eqtab_New.C (some e) H3 (λao H4=> ∃l q:Int,ao=.tuple #[.int .u64 l,.int .i64 q]/\
 if q=0 then(
 (CanPuts H4 ((ad d).add 1) 0 1)/\ ∀H5,H5=hputs H4 ((ad d).add 1) [.int .u64 l] 0->
 ∃(s:yZ) (m31:Int->zV->Nat),s 0 H5/\ ∀(i:Int) (H6:zV),s i H6->
 if i<40 then(
 ∃J:Bool->zV->Prop,(
 if(Int.tmod i 5)=0 then(
 J true H6)
 else
 J ((Int.tmod i 5)==1) H6)/\ ∀(u:Bool) (H7:zV),J u H7->
 if u=true then(
 morainelaw15_fix.C i H7 (λap H8=> ∃x:Int,ap=.int .u64 x/\
 obj_Heap_Cons.C (some e) x 20 H8 (λam H9=> ∃f o:Int,am=.tuple #[.int .u64 f,.int .i64 o]/\
 if o=0 then(
 yX i 40/\
 (CanPuts H9 (((ad d).add 2).add (Int.toNat i*1)) 0 1)/\ ∀aa,aa=hputs H9 (((ad d).add 2).add (Int.toNat i*1)) [.int .u64 f] 0->
 (s (zY (i+1)) aa/\m31 (zY (i+1)) aa<m31 i H6))
 else
 R (.pointer none) H9)))
 else
 if(Int.tmod i 5)=2 then(
 obj_Heap_String.C (some e) (ByteArray.mk #[107]) H7 (λaj ag=> ∃j p:Int,aj=.tuple #[.int .u64 j,.int .i64 p]/\
 if p=0 then(
 yX i 40/\
 (CanPuts ag (((ad d).add 2).add (Int.toNat i*1)) 0 1)/\ ∀ae,ae=hputs ag (((ad d).add 2).add (Int.toNat i*1)) [.int .u64 j] 0->
 (s (zY (i+1)) ae/\m31 (zY (i+1)) ae<m31 i H6))
 else
 R (.pointer none) ag))
 else
 if(Int.tmod i 5)=3 then(
 morainelaw15_fix.C i H7 (λal ah=> ∃r:Int,al=.int .u64 r/\
 yX i 40/\
 (CanPuts ah (((ad d).add 2).add (Int.toNat i*1)) 0 1)/\ ∀ac,ac=hputs ah (((ad d).add 2).add (Int.toNat i*1)) [.int .u64 r] 0->
 (s (zY (i+1)) ac/\m31 (zY (i+1)) ac<m31 i H6)))
 else
 if(Int.tmod i 5)=4 then(
 morainelaw15_fix.C i H7 (λan ai=> ∃ab:Int,an=.int .u64 ab/\
 obj_Heap_Weak.C (some e) ab 20 ai (λak y=> ∃g m:Int,ak=.tuple #[.int .u64 g,.int .i64 m]/\
 if m=0 then(
 yX i 40/\
 (CanPuts y (((ad d).add 2).add (Int.toNat i*1)) 0 1)/\ ∀z,z=hputs y (((ad d).add 2).add (Int.toNat i*1)) [.int .u64 g] 0->
 (s (zY (i+1)) z/\m31 (zY (i+1)) z<m31 i H6))
 else
 R (.pointer none) y)))
 else
 yX i 40/\
 (CanPuts H7 (((ad d).add 2).add (Int.toNat i*1)) 0 1)/\ ∀af,af=hputs H7 (((ad d).add 2).add (Int.toNat i*1)) [.int .u64 0] 0->
 (s (zY (i+1)) af/\m31 (zY (i+1)) af<m31 i H6))
 else
 R (.pointer (some (ad d))) H6)
 else
 R (.pointer none) H4)))
 else
 R (.pointer none) H1)
namespace morainelaw15_begun
set_option maxRecDepth 100000 in
theorem link{H:zV}{R:zw}(h:pt H R):C H R:=by
 refine T_en K0 79 Tryz.func9 ?_
 intro w0 Q hQ
 unfold pt zY at h
 refine T_su []<| T_srz 0<| T_ne 1 []<| T_srz 1<| T_c (some 9) h ?_;clear h
 rintro v H1 ⟨ra,rb,rfl,h⟩
 refine⟨[(9,.tuple #[vp ra,vi rb])],pk,?_⟩
 refine T_ne 5 [(1,vp ra),(2,vi rb)]<| T_sz<| T_srz 2<| T_nd 3 [2] [(14,.bool (rb !=0))] ?_
 by_cases c1:rb=0
 ·rw[if_pos c1]at h
  refine N_bd 14 (bne_eq_false_iff_eq.mpr c1)<| T_nd 1 [] [(15,vp ra)] ?_
  rcases ra with _ | e
  ·rw[onPtr_none]at h
   exact T_ne 2 [(1,vp none),(17,.bool true)]<| T_tz 17<| T_srz 3<| T_nr 1 [0] [vp none] hQ h
  rw[onPtr_some]at h
  refine T_ne 2 [(1,vp (some e)),(17,.bool false)]<| T_fz 17<| T_kt<| T_srz 4<| T_nd 2 [17] [(18,vp (some e)),(19,.agg #[vs none 0 0])]<| T_nw (some 20) (λb=>vp (pa b)) (.cells #[vs none 0 0] 64) ?_
  intro b H2 e3 e4
  replace h:=h b H2 e3 e4
  refine T_pd [19] [(20,vp (pa b))]<| T_nd 1 [18,20] [(21,.agg ([vp (some e)]++List.replicate 41 (vu 0)++[vp (pa b)]:List Value).toArray)]<| T_nw (some 22) (λb=>vp (pa b)) (.cells ([vp (some e)]++List.replicate 41 (vu 0)++[vp (pa b)]:List Value).toArray 38) ?_
  intro d H3 e5 e6
  replace h:=h d H3 e5 e6
  refine T_pd [21] [(22,vp (pa d))]<| T_ed 1 [22] [(3,vp (pa d))]<| T_srz 5<| T_nd 1 [] [(24,vp (some e))]<| T_c (some 25) h ?_;clear h
  rintro ao H4 ⟨l,q,rfl,h⟩
  refine T_pd [24] [(25,.tuple #[vu l,vi q])]<| T_ed 5 [25] [(2,vi q),(4,vu l)]<| T_sz<| T_srz 6<| T_ed 2 [2] [(29,.bool (q !=0))] ?_
  by_cases c7:q=0
  ·rw[if_pos c7]at h
   refine T_cFz 29 (bne_eq_false_iff_eq.mpr c7)<| T_kt<| T_srz 8<| T_nd 4 [4,29] [(31,vu l),(33,vp (some ((ad d).add 1)))] ?_
   obtain⟨q10,h⟩:=h
   refine T_st1 31 (vu l) q10 ?_
   intro H5 e9
   replace h:=h H5 e9
   refine T_pd [31,33] []<| T_e<| T_sz<| T_srz 9<| T_ed 1 [] [(5,vi 0)]<| T_bz 0 ?_
   obtain⟨s,m31,i11,i12⟩:=h
   refine S_loop (x:=K30) (σ:=Int) (λs_=> [(1,vp (some e)),(3,vp (pa d)),(5,vi s_)]) (λs_ H=>s s_ H) (λs_ H=>m31 s_ H) (0:Int) (by kernel_rfl) i11 sk ?_
   rintro i H6 i13
   have h:=i12 i H6 i13
   refine T_su [(1,vp (some e)),(3,vp (pa d)),(5,vi i)]<| T_sz<| T_srz 10<| T_ed 2 [] [(35,.bool (decide (i<40)))] ?_
   by_cases c14:i<40
   ·rw[if_pos c14]at h
    refine T_cTz 35 (zX c14)<| T_kt<| T_sz<| T_bz 1<| T_srz 12<| T_ed 1 [35] [(6,vu 0)]<| T_srz 13<| T_ed 1 [] [(7,vi 0)]<| T_sz<| T_srz 14<| T_ed 2 [] [(39,vi (Int.tmod i 5))]<| T_bz 2<| T_sz<| T_srz 15<| T_ne 2 [(1,vp (some e)),(3,vp (pa d)),(5,vi i),(6,vu 0),(7,vi 0),(39,vi (Int.tmod i 5)),(40,.bool ((Int.tmod i 5)==0))] ?_
    obtain⟨J,h,j17⟩:=h
    refine S_join (σ:=Bool) (λs_=> [(1,vp (some e)),(3,vp (pa d)),(5,vi i),(6,vu 0),(7,vi 0),(39,vi (Int.tmod i 5)),(40,.bool s_)]) (λs_ H=>J s_ H) ?_ ?_
    ·rintro u H7 j18
     replace h:=j17 u H7 j18
     refine T_su [(1,vp (some e)),(3,vp (pa d)),(5,vi i),(6,vu 0),(7,vi 0),(39,vi (Int.tmod i 5)),(40,.bool u)]<| S_then ?_
     by_cases c19:u=true
     ·rw[if_pos c19]at h
      have b20:u=true:=c19
      refine S_env [(1,vp (some e)),(3,vp (pa d)),(5,vi i),(6,vu 0),(7,vi 0),(39,vi (Int.tmod i 5)),(40,.bool true)] (by simp only[b20,Bool.not_true,Bool.not_false]) ?_
      clear b20
      refine T_tz 40<| T_rz 17<| T_nd 2 [6,7,39,40] [(44,vp (some e)),(45,vi i)]<| T_c (some 46) h ?_;clear h
      rintro ap H8 ⟨x,rfl,h⟩
      refine T_pd [45] [(46,vu x)]<| T_c (some 47) h ?_;clear h
      rintro am H9 ⟨f,o,rfl,h⟩
      refine T_pd [44,46] [(47,.tuple #[vu f,vi o])]<| T_nd 5 [47] [(6,vu f),(7,vi o)]<| zq<| S_blockEnd<| S_then<| T_sz<| T_srz 24<| T_ed 2 [7] [(71,.bool (o !=0))] ?_
      by_cases c21:o=0
      ·rw[if_pos c21]at h
       refine T_cFz 71 (bne_eq_false_iff_eq.mpr c21)<| T_kt<| T_rz 26<| T_nd 5 [6,71] [(73,vi i),(74,vu f),(76,vp (some ((ad d).add 2)))] ?_
       obtain⟨q23,h⟩:=h
       refine T_v1 77 (indexAtN 35 (vp (some ((ad d).add 2))) (vi i)) (vp (some (((ad d).add 2).add (Int.toNat i*1)))) (λw _=>indexArr_run (P:=Tryz.prog) (t:=35) (elem:=31) (sz:=1) (n:=40) (a:=((ad d).add 2)) (k:=.i64) (i:=i) Tryz.underlying35 (λ_=>by kernel_rfl) q23.1 q23.2 w) [73,76] ?_
       obtain⟨q25,h⟩:=h
       refine T_st1 31 (vu f) q25 ?_
       intro aa e24
       replace h:=h aa e24
       exact T_pd [74,77] []<| zq<| S_blockEnd<| S_then<| T_rz 11<| T_ed 3 [5] [(5,vi (zY (i+1)))]<| S_round ((zY (i+1)):Int) sk h
      rw[if_neg c21]at h
      exact T_cTz 71 (bne_iff_ne.mpr c21)<| T_srz 25<| T_nr 1 [0] [vp none] hQ h
     rw[if_neg c19]at h
     have b20:u=false:=zZ c19
     refine S_env [(1,vp (some e)),(3,vp (pa d)),(5,vi i),(6,vu 0),(7,vi 0),(39,vi (Int.tmod i 5)),(40,.bool false)] (by simp only[b20,Bool.not_true,Bool.not_false]) ?_
     clear b20
     refine T_fz 40<| T_srz 18<| T_ed 2 [40] [(50,.bool ((Int.tmod i 5)==2))] ?_
     by_cases c26:(Int.tmod i 5)=2
     ·rw[if_pos c26]at h
      refine T_cTz 50 (zK c26)<| T_rz 19<| T_nd 1 [6,7,39,50] [(53,vp (some e))]<| T_c (some 54) h ?_;clear h
      rintro aj ag ⟨j,p,rfl,h⟩
      refine T_pd [53] [(54,.tuple #[vu j,vi p])]<| T_nd 5 [54] [(6,vu j),(7,vi p)]<| zq<| S_blockEnd<| S_then<| T_sz<| T_srz 24<| T_ed 2 [7] [(71,.bool (p !=0))] ?_
      by_cases c28:p=0
      ·rw[if_pos c28]at h
       refine T_cFz 71 (bne_eq_false_iff_eq.mpr c28)<| T_kt<| T_rz 26<| T_nd 5 [6,71] [(73,vi i),(74,vu j),(76,vp (some ((ad d).add 2)))] ?_
       obtain⟨q30,h⟩:=h
       refine T_v1 77 (indexAtN 35 (vp (some ((ad d).add 2))) (vi i)) (vp (some (((ad d).add 2).add (Int.toNat i*1)))) (λw _=>indexArr_run (P:=Tryz.prog) (t:=35) (elem:=31) (sz:=1) (n:=40) (a:=((ad d).add 2)) (k:=.i64) (i:=i) Tryz.underlying35 (λ_=>by kernel_rfl) q30.1 q30.2 w) [73,76] ?_
       obtain⟨q32,h⟩:=h
       refine T_st1 31 (vu j) q32 ?_
       intro ae e31
       replace h:=h ae e31
       exact T_pd [74,77] []<| zq<| S_blockEnd<| S_then<| T_rz 11<| T_ed 3 [5] [(5,vi (zY (i+1)))]<| S_round ((zY (i+1)):Int) sk h
      rw[if_neg c28]at h
      exact T_cTz 71 (bne_iff_ne.mpr c28)<| T_srz 25<| T_nr 1 [0] [vp none] hQ h
     rw[if_neg c26]at h
     refine T_cFz 50 (zJ c26)<| T_srz 20<| T_ed 2 [50] [(57,.bool ((Int.tmod i 5)==3))] ?_
     by_cases c33:(Int.tmod i 5)=3
     ·rw[if_pos c33]at h
      refine T_cTz 57 (zK c33)<| T_rz 21<| T_nd 1 [6,39,57] [(59,vi i)]<| T_c (some 60) h ?_;clear h
      rintro al ah ⟨r,rfl,h⟩
      refine T_pd [59] [(60,vu r)]<| T_nd 1 [60] [(6,vu r)]<| zq<| S_blockEnd<| S_then<| T_sz<| T_srz 24<| T_ed 2 [7] [(71,.bool false)]<| T_fz 71<| T_kt<| T_rz 26<| T_nd 5 [6,71] [(73,vi i),(74,vu r),(76,vp (some ((ad d).add 2)))] ?_
      obtain⟨q35,h⟩:=h
      refine T_v1 77 (indexAtN 35 (vp (some ((ad d).add 2))) (vi i)) (vp (some (((ad d).add 2).add (Int.toNat i*1)))) (λw _=>indexArr_run (P:=Tryz.prog) (t:=35) (elem:=31) (sz:=1) (n:=40) (a:=((ad d).add 2)) (k:=.i64) (i:=i) Tryz.underlying35 (λ_=>by kernel_rfl) q35.1 q35.2 w) [73,76] ?_
      obtain⟨q37,h⟩:=h
      refine T_st1 31 (vu r) q37 ?_
      intro ac e36
      replace h:=h ac e36
      exact T_pd [74,77] []<| zq<| S_blockEnd<| S_then<| T_rz 11<| T_ed 3 [5] [(5,vi (zY (i+1)))]<| S_round ((zY (i+1)):Int) sk h
     rw[if_neg c33]at h
     refine T_cFz 57 (zJ c33)<| T_srz 22<| T_ed 2 [39,57] [(61,.bool ((Int.tmod i 5)==4))] ?_
     by_cases c38:(Int.tmod i 5)=4
     ·rw[if_pos c38]at h
      refine T_cTz 61 (zK c38)<| T_rz 23<| T_nd 2 [6,7,61] [(64,vp (some e)),(65,vi i)]<| T_c (some 66) h ?_;clear h
      rintro an ai ⟨ab,rfl,h⟩
      refine T_pd [65] [(66,vu ab)]<| T_c (some 67) h ?_;clear h
      rintro ak y ⟨g,m,rfl,h⟩
      refine T_pd [64,66] [(67,.tuple #[vu g,vi m])]<| T_nd 5 [67] [(6,vu g),(7,vi m)]<| zq<| S_blockEnd<| S_then<| T_sz<| T_srz 24<| T_ed 2 [7] [(71,.bool (m !=0))] ?_
      by_cases c40:m=0
      ·rw[if_pos c40]at h
       refine T_cFz 71 (bne_eq_false_iff_eq.mpr c40)<| T_kt<| T_rz 26<| T_nd 5 [6,71] [(73,vi i),(74,vu g),(76,vp (some ((ad d).add 2)))] ?_
       obtain⟨q42,h⟩:=h
       refine T_v1 77 (indexAtN 35 (vp (some ((ad d).add 2))) (vi i)) (vp (some (((ad d).add 2).add (Int.toNat i*1)))) (λw _=>indexArr_run (P:=Tryz.prog) (t:=35) (elem:=31) (sz:=1) (n:=40) (a:=((ad d).add 2)) (k:=.i64) (i:=i) Tryz.underlying35 (λ_=>by kernel_rfl) q42.1 q42.2 w) [73,76] ?_
       obtain⟨q44,h⟩:=h
       refine T_st1 31 (vu g) q44 ?_
       intro z e43
       replace h:=h z e43
       exact T_pd [74,77] []<| zq<| S_blockEnd<| S_then<| T_rz 11<| T_ed 3 [5] [(5,vi (zY (i+1)))]<| S_round ((zY (i+1)):Int) sk h
      rw[if_neg c40]at h
      exact T_cTz 71 (bne_iff_ne.mpr c40)<| T_srz 25<| T_nr 1 [0] [vp none] hQ h
     rw[if_neg c38]at h
     refine T_cFz 61 (zJ c38)<| T_k<| S_blockEnd<| S_then<| T_sz<| T_srz 24<| T_ed 2 [7,61] [(71,.bool false)]<| T_fz 71<| T_kt<| T_rz 26<| T_nd 5 [6,71] [(73,vi i),(74,vu 0),(76,vp (some ((ad d).add 2)))] ?_
     obtain⟨q45,h⟩:=h
     refine T_v1 77 (indexAtN 35 (vp (some ((ad d).add 2))) (vi i)) (vp (some (((ad d).add 2).add (Int.toNat i*1)))) (λw _=>indexArr_run (P:=Tryz.prog) (t:=35) (elem:=31) (sz:=1) (n:=40) (a:=((ad d).add 2)) (k:=.i64) (i:=i) Tryz.underlying35 (λ_=>by kernel_rfl) q45.1 q45.2 w) [73,76] ?_
     obtain⟨q47,h⟩:=h
     refine T_st1 31 (vu 0) q47 ?_
     intro af e46
     replace h:=h af e46
     exact T_pd [74,77] []<| zq<| S_blockEnd<| S_then<| T_rz 11<| T_ed 3 [5] [(5,vi (zY (i+1)))]<| S_round ((zY (i+1)):Int) sk h
    by_cases c48:(Int.tmod i 5)=0
    ·rw[if_pos c48]at h
     have b49:((Int.tmod i 5)==0)=true:=zK c48
     refine S_env [(1,vp (some e)),(3,vp (pa d)),(5,vi i),(6,vu 0),(7,vi 0),(39,vi (Int.tmod i 5)),(40,.bool true)] (by simp only[b49,Bool.not_true,Bool.not_false]) ?_
     clear b49
     exact T_tz 40<| T_kt<| S_meet (true:Bool) sk h
    rw[if_neg c48]at h
    have b49:((Int.tmod i 5)==0)=false:=zJ c48
    refine S_env [(1,vp (some e)),(3,vp (pa d)),(5,vi i),(6,vu 0),(7,vi 0),(39,vi (Int.tmod i 5)),(40,.bool false)] (by simp only[b49,Bool.not_true,Bool.not_false]) ?_
    clear b49
    exact T_fz 40<| T_rz 16<| T_ed 2 [40] [(40,.bool ((Int.tmod i 5)==1))]<| S_meet (((Int.tmod i 5)==1):Bool) sk h
   rw[if_neg c14]at h
   exact T_cFz 35 (zQ c14)<| zj 0<| S_exitThen<| S_exitThen<| S_exitHere<| S_then<| T_srz 27<| T_nr 2 [0] [vp (pa d)] hQ h
  rw[if_neg c7]at h
  exact T_cTz 29 (bne_iff_ne.mpr c7)<| T_srz 7<| T_nr 1 [0] [vp none] hQ h
 rw[if_neg c1]at h
 exact N_bd 14 (bne_iff_ne.mpr c1)<| T_ed 3 [14] [(17,.bool true)]<| T_tz 17<| T_srz 3<| T_nr 1 [0] [vp none] hQ h
end morainelaw15_begun

/-! moraine/morainelaw15.awake -/
namespace morainelaw15_awake
def K0:=Func.code Tryz.f8
end morainelaw15_awake
def morainelaw15_awake.pt(H:zV)(R:zw):Prop:=
 morainelaw15_begun.C H (λv H1=> ∃x:zW,v=.pointer x/\
 onPtr x (
 R (.bool false) H1) (λxA=>
 morainelaw15_play_call.C (some xA) 0 0 1 0 false H1 (λk H2=> ∃a:Bool,k=.bool a/\
 if a=true then(
 morainelaw15_play_call.C (some xA) 0 1 2 0 false H2 (λl H3=> ∃e:Bool,l=.bool e/\
 if e=true then(
 morainelaw15_play_call.C (some xA) 0 0 3 0 false H3 (λj H4=> ∃d:Bool,j=.bool d/\
 if d=true then(
 morainelaw15_play_told.C (some xA) H4 (λi H5=> ∃b:Bool,i=.bool b/\
 if b=true then(
 ∃g:zW,hat H5 (xA.add 42)=some (.pointer g)/\
 ∃f:Addr,g=some f/\
 ∃(xB:zW) (xN xC:Nat),hat H5 f=some (.slice xB xN xC)/\
 R (.bool ((xN:Int)==2)) H5)
 else
 R (.bool false) H5))
 else
 R (.bool false) H4))
 else
 R (.bool false) H3))
 else
 R (.bool false) H2)))
namespace morainelaw15_awake
set_option maxRecDepth 100000 in
theorem link{H:zV}{R:zw}(h:pt H R):C H R:=by
 refine T_en K0 35 Tryz.func8 ?_
 intro w0 Q hQ
 unfold pt at h
 refine T_su []<| T_srz 0<| T_ne 1 []<| T_srz 1<| T_c (some 2) h ?_;clear h
 rintro v H1 ⟨x,rfl,h⟩
 refine⟨[(2,vp x)],pk,?_⟩
 refine T_ne 1 [(1,vp x)]<| T_srz 2<| T_nd 1 [] [(3,vp x)] ?_
 rcases x with _ | xA
 ·rw[onPtr_none]at h
  exact T_nr 32 [0] [.bool false] hQ h
 rw[onPtr_some]at h
 refine T_n 4 [(1,vp (some xA)),(5,.bool true),(6,vp (some xA)),(7,.agg #[vi 0,vi 0,vi 1,vi 0,.bool false])]<| T_c (some 8) h ?_;clear h
 rintro k H2 ⟨a,rfl,h⟩
 refine T_pd [6,7] [(8,.bool a)]<| T_nd 2 [5,8] [(10,.bool a)] ?_
 by_cases c1:a=true
 ·rw[if_pos c1]at h
  refine N_bd 10 c1<| T_nd 2 [] [(11,vp (some xA)),(12,.agg #[vi 0,vi 1,vi 2,vi 0,.bool false])] ?_
  refine T_c (some 13) h ?_;clear h
  rintro l H3 ⟨e,rfl,h⟩
  refine T_pd [11,12] [(13,.bool e)]<| T_nd 2 [10,13] [(15,.bool e)] ?_
  by_cases c3:e=true
  ·rw[if_pos c3]at h
   refine N_bd 15 c3<| T_nd 2 [] [(16,vp (some xA)),(17,.agg #[vi 0,vi 0,vi 3,vi 0,.bool false])] ?_
   refine T_c (some 18) h ?_;clear h
   rintro j H4 ⟨d,rfl,h⟩
   refine T_pd [16,17] [(18,.bool d)]<| T_nd 2 [15,18] [(20,.bool d)] ?_
   by_cases c5:d=true
   ·rw[if_pos c5]at h
    refine N_bd 20 c5<| T_nd 1 [] [(21,vp (some xA))] ?_
    refine T_c (some 22) h ?_;clear h
    rintro i H5 ⟨b,rfl,h⟩
    refine T_pd [21] [(22,.bool b)]<| T_nd 2 [20,22] [(24,.bool b)] ?_
    by_cases c7:b=true
    ·rw[if_pos c7]at h
     refine N_bd 24 c7<| T_nd 3 [1] [(27,vp (some (xA.add 42)))] ?_
     obtain⟨g,q9,h⟩:=h
     refine T_l1 28 36 q9 [27] ?_
     obtain⟨f,rfl,h⟩:=h
     refine T_nd 2 [28] [(30,vp (some f))] ?_
     obtain⟨xB,xN,xC,q10,h⟩:=h
     exact T_l1 31 62 q10 [30]<| T_nr 4 [0] [.bool ((xN:Int)==2)] hQ h
    rw[if_neg c7]at h
    exact N_bd 24 (zZ c7)<| T_nr 11 [0] [.bool false] hQ h
   rw[if_neg c5]at h
   exact N_bd 20 (zZ c5)<| T_nr 15 [0] [.bool false] hQ h
  rw[if_neg c3]at h
  exact N_bd 15 (zZ c3)<| T_nr 20 [0] [.bool false] hQ h
 rw[if_neg c1]at h
 exact N_bd 10 (zZ c1)<| T_nr 25 [0] [.bool false] hQ h
end morainelaw15_awake

/-! moraine/morainelaw15.EqtabApart -/
namespace morainelaw15_EqtabApart
def K0:=Func.code Tryz.f6
def K2:=cb K0
def K4:=cb K2
def K12:=cb K4
def K14:=cb K12
def K22:=cb K14
def K24:=cb K22
def K29:=ca K24
def K30:=cb K24
def K32:=cb K29
def K33:=ca K32
def K34:=ca K33
def K36:=cb K34
def K41:=ca K36
def K43:=ca K41
def K45:=cb K43
def K47:=cb K45
def K48:=ca K47
def K50:=ca K48
def K59:=cb K30
def K61:=cb K59
def K62:=ca K61
def K63:=cb K61
def K65:=cb K62
def K66:=ca K65
def K67:=ca K66
def K90:=cb K63
def K92:=cb K90
def K94:=cb K92
def K101:=ca K94
def K104:=cb K101
def K105:=ca K104
def K106:=ca K105
end morainelaw15_EqtabApart
def morainelaw15_EqtabApart.pt(lB:zW)(lN lC:Nat)(mB:zW)(mN mC:Nat)(H:zV)(R:zw):Prop:=
 if((decide ((lN:Int)>150)) || (decide ((mN:Int)>150)))=true then(
 morainelaw15_awake.C H (λv H1=> ∃x:Bool,v=.bool x/\
 R (.bool x) H1))
 else
 morainelaw15_begun.C H (λcn H2=> ∃bg:zW,cn=.pointer bg/\
 onPtr bg (
 R (.bool false) H2) (λg=>
 ∃bo:zW,hat H2 g=some (.pointer bo)/\
 eqtab_New.C bo H2 (λco H3=> ∃ra rb:Int,co=.tuple #[.int .u64 ra,.int .i64 rb]/\
 if rb=0 then(
 ∃(bl:yZ) (m35:Int->zV->Nat),bl 0 H3/\ ∀(i:Int) (H4:zV),bl i H4->
 if i< (mN:Int)then(
 ∃ac:Addr,mB=some ac/\
 yX i mN/\
 ∃(av a3 am a2:Int) (bc:Bool),RowAt H4 (ac.add (Int.toNat i*5)) 0 [.int .i64 av,.int .i64 a3,.int .i64 am,.int .i64 a2,.bool bc]/\
 ∀(b:Nat) (H5:zV),b=H4.size->H5=H4.push (.cells #[.int .i64 0,.int .i64 0,.int .i64 0,.int .i64 0,.bool false] 28)->
 (CanPuts H5 (ad b) 0 5)/\ ∀H6,H6=hputs H5 (ad b) [.int .i64 av,.int .i64 a3,.int .i64 am,.int .i64 a2,.bool bc] 0->
 ∃bn:Int,hat H6 (ad b)=some (.int .i64 bn)/\
 morainelaw15_at.C bn 6 H6 (λch H7=> ∃bh:Int,ch=.int .i64 bh/\
 if bh<2 then(
 ∃aj:zW,hat H7 g=some (.pointer aj)/\
 ∃a5:Int,hat H7 ((ad b).add 1)=some (.int .i64 a5)/\
 ∃a6:Int,hat H7 ((ad b).add 2)=some (.int .i64 a6)/\
 morainelaw15_at.C a5 40 H7 (λce H8=> ∃ax:Int,ce=.int .i64 ax/\RowAt H8 g 0 [.pointer aj]/\RowAt H8 ((ad b).add 2) 0 [.int .i64 a6]/\
 yX ax 40/\
 ∃au:Int,hat H8 ((g.add 2).add (Int.toNat ax*1))=some (.int .u64 au)/\
 morainelaw15_at.C a6 1000 H8 (λcj H9=> ∃bj:Int,cj=.int .i64 bj/\RowAt H9 ((g.add 2).add (Int.toNat ax*1)) 0 [.int .u64 au]/\RowAt H9 g 0 [.pointer aj]/\
 morainelaw15_fix.C bj H9 (λck bt=> ∃bi:Int,ck=.int .u64 bi/\RowAt bt ((g.add 2).add (Int.toNat ax*1)) 0 [.int .u64 au]/\RowAt bt g 0 [.pointer aj]/\
 eqtab_Put.C aj ra au bi bt (λcg bp=> ∃ap:Int,cg=.int .i64 ap/\RowAt bp ((g.add 2).add (Int.toNat ax*1)) 0 [.int .u64 au]/\
 if ap=0 then(
 (bl (zY (i+1)) bp/\m35 (zY (i+1)) bp<m35 i H4))
 else
 morainelaw15_awake.C bp (λci cm=> ∃be:Bool,ci=.bool be/\
 R (.bool be) cm))))))
 else
 (bl (zY (i+1)) H7/\m35 (zY (i+1)) H7<m35 i H4)))
 else
 ∃bb:zW,hat H4 g=some (.pointer bb)/\
 eqtab_Keys.C bb ra H4 (λb0 b9=> ∃(u:zW) (m q:Nat) (br:Int),b0=.tuple #[.slice u m q,.int .i64 br]/\
 ∃ba:zW,hat b9 g=some (.pointer ba)/\
 eqtab_Values.C ba ra b9 (λb1 cl=> ∃(f:zW) (d e:Nat) (bs:Int),b1=.tuple #[.slice f d e,.int .i64 bs]/\
 ∃(bm:yZ) (m68:Int->zV->Nat),bm 0 cl/\ ∀(aa:Int) (H15:zV),bm aa H15->
 if aa< (lN:Int)then(
 ∃ae:Addr,lB=some ae/\
 yX aa lN/\
 ∃bf:Int,hat H15 (ae.add (Int.toNat aa*5))=some (.int .i64 bf)/\
 morainelaw15_at.C bf 6 H15 (λcd bq=> ∃a4:Int,cd=.int .i64 a4/\
 if a4=5 then(
 (bm (zY (aa+1)) bq/\m68 (zY (aa+1)) bq<m68 aa H15))
 else
 yX aa lN/\
 ∃(aw a1 an a0:Int) (a7:Bool),RowAt bq (ae.add (Int.toNat aa*5)) 0 [.int .i64 aw,.int .i64 a1,.int .i64 an,.int .i64 a0,.bool a7]/\
 morainelaw15_play_call.C (some g) aw a1 an a0 a7 bq (λbz b6=> ∃az:Bool,bz=.bool az/\
 if az=true then(
 morainelaw15_play_told.C (some g) b6 (λb5 bu=> ∃ay:Bool,b5=.bool ay/\
 if ay=true then(
 (bm (zY (aa+1)) bu/\m68 (zY (aa+1)) bu<m68 aa H15))
 else
 R (.bool false) bu))
 else
 R (.bool false) b6)))
 else
 ∃a9:zW,hat H15 g=some (.pointer a9)/\
 eqtab_Keys.C a9 ra H15 (λbx b8=> ∃(y:zW) (j o:Nat) (ag:Int),bx=.tuple #[.slice y j o,.int .i64 ag]/\
 ∃a8:zW,hat b8 g=some (.pointer a8)/\
 eqtab_Values.C a8 ra b8 (λcc bw=> ∃(r:zW) (l p:Nat) (ai:Int),cc=.tuple #[.slice r l p,.int .i64 ai]/\
 if((((ag !=0) || (ai !=0)) || ((m:Int) !=(j:Int))) || ((d:Int) !=(l:Int)))=true then(
 R (.bool false) bw)
 else
 ∃(bk:yZ) (m107:Int->zV->Nat),bk 0 bw/\ ∀(s:Int) (H21:zV),bk s H21->
 if s< (m:Int)then(
 ∃ab:Addr,u=some ab/\
 yX s m/\
 ∃al:Int,hat H21 (ab.add (Int.toNat s*1))=some (.int .u64 al)/\
 ∃z:Addr,y=some z/\
 yX s j/\
 ∃aq:Int,hat H21 (z.add (Int.toNat s*1))=some (.int .u64 aq)/\
 if al=aq then(
 ∃af:Addr,f=some af/\
 yX s d/\
 ∃ak:Int,hat H21 (af.add (Int.toNat s*1))=some (.int .u64 ak)/\
 ∃ah:Addr,r=some ah/\
 yX s l/\
 ∃ao:Int,hat H21 (ah.add (Int.toNat s*1))=some (.int .u64 ao)/\
 if ak=ao then(
 (bk (zY (s+1)) H21/\m107 (zY (s+1)) H21<m107 s H21))
 else
 R (.bool false) H21)
 else
 R (.bool false) H21)
 else
 morainelaw15_awake.C H21 (λb3 cp=> ∃bd:Bool,b3=.bool bd/\
 R (.bool bd) cp))))))
 else
 R (.bool false) H3)))
namespace morainelaw15_EqtabApart
theorem link{lB:zW}{lN lC:Nat}{mB:zW}{mN mC:Nat}{H:zV}{R:zw}(h:pt lB lN lC mB mN mC H R):C lB lN lC mB mN mC H R:=by
 refine T_en K0 186 Tryz.func6 ?_
 intro w0 Q hQ
 unfold pt zY at h
 refine T_su [(0,vs lB lN lC),(1,vs mB mN mC)]<| T_srz 0<| T_ed 1 [] []<| T_sz<| T_srz 1 ?_
 refine N_cut [(0,vs lB lN lC),(1,vs mB mN mC),(28,.bool ((decide ((lN:Int)>150)) || (decide ((mN:Int)>150))))] ?_ ?_
 ·refine S_then ?_
  by_cases c3:((decide ((lN:Int)>150)) || (decide ((mN:Int)>150)))=true
  ·rw[if_pos c3]at h
   refine T_cTz 28 c3<| T_srz 2<| T_nu []<| T_c (some 29) h ?_;clear h
   rintro v H1 ⟨x,rfl,h⟩
   refine⟨[(29,.bool x)],pk,?_⟩
   exact T_nr 1 [4] [.bool x] hQ h
  rw[if_neg c3]at h
  refine T_cFz 28 (zZ c3)<| T_kt<| T_srz 3<| T_nu [(0,vs lB lN lC),(1,vs mB mN mC)]<| T_c (some 30) h ?_;clear h
  rintro cn H2 ⟨bg,rfl,h⟩
  refine T_pd [] [(30,vp bg)]<| T_ed 1 [30] [(5,vp bg)]<| T_sz<| T_srz 4<| T_nd 1 [] [(31,vp bg)] ?_
  rcases bg with _ | g
  ·rw[onPtr_none]at h
   exact T_ed 1 [5,31] [(5,vp none),(32,.bool true)]<| T_tz 32<| T_srz 5<| T_nr 1 [4] [.bool false] hQ h
  rw[onPtr_some]at h
  refine T_ed 1 [5,31] [(5,vp (some g)),(32,.bool false)]<| T_fz 32<| T_kt<| T_srz 6<| T_nd 3 [32] [(36,vp (some g))] ?_
  obtain⟨bo,q5,h⟩:=h
  refine T_l1 37 34 q5 [36]<| T_c (some 38) h ?_;clear h
  rintro co H3 ⟨ra,rb,rfl,h⟩
  refine T_pd [37] [(38,.tuple #[vu ra,vi rb])]<| T_ed 5 [38] [(6,vu ra),(7,vi rb)]<| T_sz<| T_srz 7<| T_ed 2 [7] [(42,.bool (rb !=0))] ?_
  by_cases c6:rb=0
  ·rw[if_pos c6]at h
   refine T_cFz 42 (bne_eq_false_iff_eq.mpr c6)<| T_kt<| T_sz<| T_srz 9<| T_ed 1 [42] [(8,vi 0)]<| T_bz 0 ?_
   obtain⟨bl,m35,i8,i9⟩:=h
   refine S_loop (x:=K34) (σ:=Int) (λs_=> [(0,vs lB lN lC),(1,vs mB mN mC),(5,vp (some g)),(6,vu ra),(8,vi s_)]) (λs_ H=>bl s_ H) (λs_ H=>m35 s_ H) (0:Int) (by kernel_rfl) i8 sk ?_
   rintro i H4 i10
   have h:=i9 i H4 i10
   refine T_su [(0,vs lB lN lC),(1,vs mB mN mC),(5,vp (some g)),(6,vu ra),(8,vi i)]<| T_sz<| T_srz 10<| T_ed 4 [] [(46,.bool (decide (i< (mN:Int))))] ?_
   by_cases c11:i< (mN:Int)
   ·rw[if_pos c11]at h
    refine T_cTz 46 (zX c11)<| T_kt<| T_sz<| T_bz 1<| T_srz 12<| T_nd 2 [46] [(49,vs mB mN mC),(50,vi i)] ?_
    obtain⟨ac,rfl,q13,h⟩:=h
    refine T_xd (some 51) 22 28 5 ac mN mC .i64 i Tryz.underlying22 q13.1 q13.2 [1,49,50] [(1,vs (some ac) mN mC),(51,vp (some (ac.add (Int.toNat i*5))))] ?_
    obtain⟨av,a3,am,a2,bc,q14,h⟩:=h
    refine T_lr 52 28 q14 [51]<| T_nw (some 9) (λb=>vp (pa b)) (.cells #[vi 0,vi 0,vi 0,vi 0,.bool false] 28) ?_
    intro b H5 e15 e16
    replace h:=h b H5 e15 e16
    refine T_pd [] [(9,vp (pa b))] ?_
    obtain⟨q18,h⟩:=h
    refine T_sta 28 [vi av,vi a3,vi am,vi a2,.bool bc] q18 ?_
    intro H6 e17
    replace h:=h H6 e17
    refine T_pd [52] []<| T_e<| T_srz 13<| T_nd 1 [] [(53,vp (pa b))] ?_
    obtain⟨bn,q19,h⟩:=h
    refine T_l1 54 3 q19 [53]<| T_c (some 55) h ?_;clear h
    rintro ch H7 ⟨bh,rfl,h⟩
    refine T_pd [54] [(55,vi bh)]<| T_ed 1 [55] [(56,.bool (decide (bh<2)))] ?_
    by_cases c20:bh<2
    ·rw[if_pos c20]at h
     refine T_cTz 56 (zX c20)<| T_sz ?_
     obtain⟨aj,q22,a5,q23,a6,q24,h⟩:=h
     refine yk 14 (Code.ops K50) [(17,g,[vp aj]),(8,((ad b).add 1),[vi a5]),(15,((ad b).add 2),[vi a6])] 19 (bv 19 0) (show FactsAt _ _ _ from⟨⟨q22,trivial⟩,⟨q23,trivial⟩,⟨q24,trivial⟩,trivial⟩)<| T_gp 0 (some 57) (vp (some g)) (bv 19 1) [(0,vs lB lN lC),(1,vs (some ac) mN mC),(5,vp (some g)),(6,vu ra),(8,vi i),(9,vp (pa b)),(57,vp (some g))]<| T_gp1 1 58 (vp (some g)) (bv 19 3) [57]<| T_gp1 2 59 (vp (some g)) (bv 19 7) [58]<| T_g1 3 60 (vp aj) (bv 19 15) [59] (loadN 34 (vp (some g))) (yj 17 yQ)<| T_gp1 4 61 (vu ra) (bv 19 31) []<| T_gp1 5 62 (vp (some g)) (bv 19 63) []<| T_gp1 6 63 (vp (some ((ad b).add 1))) (bv 19 127) []<| T_g1 7 64 (vi a5) (bv 19 255) [63] (loadN 3 (vp (some ((ad b).add 1)))) (yj 8 yJ)<| T_gp1 9 66 (vp (some g)) (bv 19 767) [62]<| T_gp1 10 67 (vp (some (g.add 2))) (bv 19 1791) [66]<| T_gp1 13 70 (vp (some ((ad b).add 2))) (bv 19 9983) [9]<| T_g1 14 71 (vi a6) (bv 19 26367) [70] (loadN 3 (vp (some ((ad b).add 2)))) (yj 15 yK)<| yv 8 (some 65) (bv 19 26623) 13 #[vi a5,vi 40] h ?_;clear h
     rintro ce H8 ⟨ax,rfl,f25,f26,h⟩
     refine⟨[(0,vs lB lN lC),(1,vs (some ac) mN mC),(5,vp (some g)),(6,vu ra),(8,vi i),(60,vp aj),(61,vu ra),(65,vi ax),(67,vp (some (g.add 2))),(71,vi a6)],pk,(show FactsAt _ _ _ from⟨f25,trivial,f26,trivial⟩),?_⟩
     obtain⟨q27,h⟩:=h
     refine T_g 11 (some 68) (vp (some ((g.add 2).add (Int.toNat ax*1)))) (bv 19 28671) [(0,vs lB lN lC),(1,vs (some ac) mN mC),(5,vp (some g)),(6,vu ra),(8,vi i),(60,vp aj),(61,vu ra),(68,vp (some ((g.add 2).add (Int.toNat ax*1)))),(71,vi a6)] (indexAtN 35 (vp (some (g.add 2))) (vi ax)) (λ_ w _ _ _=>indexArr_run (P:=Tryz.prog) (t:=35) (elem:=31) (sz:=1) (n:=40) (a:=(g.add 2)) (k:=.i64) (i:=ax) Tryz.underlying35 (λ_=>by kernel_rfl) q27.1 q27.2 w) ?_
     obtain⟨au,q28,h⟩:=h
     refine G_more (19,((g.add 2).add (Int.toNat ax*1)),[vu au]) ⟨q28,trivial⟩ ?_
     refine T_g1 12 69 (vu au) (bv 19 32767) [68] (loadN 31 (vp (some ((g.add 2).add (Int.toNat ax*1))))) (held_one 19 (λ_=>by kernel_rfl) yQ (.inr (by kernel_rfl)))<| yv 15 (some 72) (bv 19 65535) 13 #[vi a6,vi 1000] h ?_;clear h
     rintro cj H9 ⟨bj,rfl,f29,f30,h⟩
     refine⟨[(0,vs lB lN lC),(1,vs (some ac) mN mC),(5,vp (some g)),(6,vu ra),(8,vi i),(60,vp aj),(61,vu ra),(69,vu au),(72,vi bj)],pk,(show FactsAt _ _ _ from⟨f29,f30,trivial,trivial,trivial⟩),?_⟩
     refine yv 16 (some 73) (bv 19 131071) 16 #[vi bj] h ?_;clear h
     rintro ck bt ⟨bi,rfl,f31,f32,h⟩
     refine⟨[(0,vs lB lN lC),(1,vs (some ac) mN mC),(5,vp (some g)),(6,vu ra),(8,vi i),(60,vp aj),(61,vu ra),(69,vu au),(73,vu bi)],pk,(show FactsAt _ _ _ from⟨f31,f32,trivial,trivial,trivial⟩),?_⟩
     refine yv 17 (some 74) (bv 19 262143) 15 #[vp aj,vu ra,vu au,vu bi] h ?_;clear h
     rintro cg bp ⟨ap,rfl,f33,h⟩
     refine⟨[(0,vs lB lN lC),(1,vs (some ac) mN mC),(5,vp (some g)),(6,vu ra),(8,vi i),(74,vi ap)],pk,(show FactsAt _ _ _ from⟨f33,trivial,trivial,trivial,trivial⟩),?_⟩
     refine T_g 18 (some 10) (vi ap) (bv 19 524287) [(0,vs lB lN lC),(1,vs (some ac) mN mC),(5,vp (some g)),(6,vu ra),(8,vi i),(10,vi ap)] (pure (.value (vi ap)):Sem Next) (λ_ _ _ _ _=>rfl)<| G_sub [(0,vs lB lN lC),(1,vs (some ac) mN mC),(5,vp (some g)),(6,vu ra),(8,vi i),(10,vi ap)] sk<| yw<| S_then<| T_srz 15<| T_ne 2 [(0,vs lB lN lC),(1,vs (some ac) mN mC),(5,vp (some g)),(6,vu ra),(8,vi i),(76,.bool (ap !=0))] ?_
     by_cases c34:ap=0
     ·rw[if_pos c34]at h
      exact T_cFz 76 (bne_eq_false_iff_eq.mpr c34)<| T_k<| S_blockEnd<| S_then<| T_rz 11<| T_ed 3 [8,76] [(8,vi (zY (i+1)))]<| S_round ((zY (i+1)):Int) sk h
     rw[if_neg c34]at h
     refine T_cTz 76 (bne_iff_ne.mpr c34)<| T_srz 16<| T_nu []<| T_c (some 77) h ?_;clear h
     rintro ci cm ⟨be,rfl,h⟩
     refine⟨[(77,.bool be)],pk,?_⟩
     exact T_nr 1 [4] [.bool be] hQ h
    rw[if_neg c20]at h
    exact T_cFz 56 (zQ c20)<| T_k<| S_blockEnd<| S_then<| T_rz 11<| T_ed 3 [8,9,56] [(8,vi (zY (i+1)))]<| S_round ((zY (i+1)):Int) sk h
   rw[if_neg c11]at h
   refine T_cFz 46 (zQ c11)<| zj 0<| S_exitThen<| S_exitThen<| S_exitHere<| S_then<| T_srz 17<| T_nd 3 [1,8,46] [(81,vp (some g))] ?_
   obtain⟨bb,q36,h⟩:=h
   refine T_l1 82 34 q36 [81]<| T_nd 1 [] [(83,vu ra)]<| T_c (some 84) h ?_;clear h
   rintro b0 b9 ⟨u,m,q,br,rfl,h⟩
   refine T_pd [82,83] [(84,.tuple #[vs u m q,vi br])]<| T_ed 5 [84] [(11,vs u m q)]<| T_srz 18<| T_nd 3 [] [(90,vp (some g))] ?_
   obtain⟨ba,q37,h⟩:=h
   refine T_l1 91 34 q37 [90]<| T_nd 1 [] [(92,vu ra)]<| T_c (some 93) h ?_;clear h
   rintro b1 cl ⟨f,d,e,bs,rfl,h⟩
   refine T_pd [91,92] [(93,.tuple #[vs f d e,vi bs])]<| T_ed 5 [93] [(13,vs f d e)]<| T_sz<| T_srz 19<| T_ed 1 [] [(15,vi 0)]<| T_bz 2 ?_
   obtain⟨bm,m68,i38,i39⟩:=h
   refine S_loop (x:=K67) (σ:=Int) (λs_=> [(0,vs lB lN lC),(5,vp (some g)),(6,vu ra),(11,vs u m q),(13,vs f d e),(15,vi s_)]) (λs_ H=>bm s_ H) (λs_ H=>m68 s_ H) (0:Int) (by kernel_rfl) i38 sk ?_
   rintro aa H15 i40
   have h:=i39 aa H15 i40
   refine T_su [(0,vs lB lN lC),(5,vp (some g)),(6,vu ra),(11,vs u m q),(13,vs f d e),(15,vi aa)]<| T_sz<| T_srz 20<| T_ed 4 [] [(99,.bool (decide (aa< (lN:Int))))] ?_
   by_cases c41:aa< (lN:Int)
   ·rw[if_pos c41]at h
    refine T_cTz 99 (zX c41)<| T_kt<| T_sz<| T_bz 3<| T_sz<| T_srz 22<| T_nd 2 [99] [(102,vs lB lN lC),(103,vi aa)] ?_
    obtain⟨ae,rfl,q43,h⟩:=h
    refine T_xd (some 104) 22 28 5 ae lN lC .i64 aa Tryz.underlying22 q43.1 q43.2 [0,102,103] [(0,vs (some ae) lN lC),(104,vp (some (ae.add (Int.toNat aa*5))))]<| T_nd 1 [104] [(105,vp (some (ae.add (Int.toNat aa*5))))] ?_
    obtain⟨bf,q44,h⟩:=h
    refine T_l1 106 3 q44 [105]<| T_c (some 107) h ?_;clear h
    rintro cd bq ⟨a4,rfl,h⟩
    refine T_pd [106] [(107,vi a4)]<| T_ed 1 [107] [(108,.bool (a4==5))] ?_
    by_cases c45:a4=5
    ·rw[if_pos c45]at h
     exact T_cTz 108 (zK c45)<| zj 3<| S_exitThen<| S_exitHere<| S_then<| T_rz 21<| T_ed 3 [15,108] [(15,vi (zY (aa+1)))]<| S_round ((zY (aa+1)):Int) sk h
    rw[if_neg c45]at h
    refine T_cFz 108 (zJ c45)<| T_kt<| T_srz 23<| T_nd 3 [108] [(109,vp (some g)),(110,vs (some ae) lN lC),(111,vi aa)] ?_
    obtain⟨q47,h⟩:=h
    refine T_xd (some 112) 22 28 5 ae lN lC .i64 aa Tryz.underlying22 q47.1 q47.2 [110,111] [(112,vp (some (ae.add (Int.toNat aa*5))))] ?_
    obtain⟨aw,a1,an,a0,a7,q48,h⟩:=h
    refine T_lr 113 28 q48 [112]<| T_c (some 114) h ?_;clear h
    rintro bz b6 ⟨az,rfl,h⟩
    refine T_pd [109,113] [(114,.bool az)]<| T_nd 2 [114] [(116,.bool (!az))] ?_
    by_cases c49:az=true
    ·rw[if_pos c49]at h
     have b50:(!az)=false:=congrArg Bool.not (c49)
     have b502:az=true:=c49
     refine N_bd 116 (b:=(!az)) (v:=false) (by simp only[b50,b502,Bool.not_true,Bool.not_false]) ?_
     clear b50 b502
     refine T_nd 1 [] [(117,vp (some g))]<| T_c (some 118) h ?_;clear h
     rintro b5 bu ⟨ay,rfl,h⟩
     refine T_pd [117] [(118,.bool ay)]<| T_ed 2 [116,118] [(120,.bool (!ay))] ?_
     by_cases c51:ay=true
     ·rw[if_pos c51]at h
      exact T_cFz 120 (congrArg Bool.not (c51))<| T_k<| S_blockEnd<| S_then<| T_rz 21<| T_ed 3 [15,120] [(15,vi (zY (aa+1)))]<| S_round ((zY (aa+1)):Int) sk h
     rw[if_neg c51]at h
     exact T_cTz 120 (congrArg Bool.not (zZ c51))<| T_srz 24<| T_nr 1 [4] [.bool false] hQ h
    rw[if_neg c49]at h
    have b50:(!az)=true:=congrArg Bool.not (zZ c49)
    have b502:az=false:=zZ c49
    refine N_bd 116 (b:=(!az)) (v:=true) (by simp only[b50,b502,Bool.not_true,Bool.not_false]) ?_
    clear b50 b502
    exact T_ed 4 [116] [(120,.bool true)]<| T_tz 120<| T_srz 24<| T_nr 1 [4] [.bool false] hQ h
   rw[if_neg c41]at h
   refine T_cFz 99 (zQ c41)<| zj 2<| S_exitThen<| S_exitThen<| S_exitHere<| S_then<| T_srz 25<| T_nd 3 [0,15,99] [(124,vp (some g))] ?_
   obtain⟨a9,q53,h⟩:=h
   refine T_l1 125 34 q53 [124]<| T_nd 1 [] [(126,vu ra)]<| T_c (some 127) h ?_;clear h
   rintro bx b8 ⟨y,j,o,ag,rfl,h⟩
   refine T_pd [125,126] [(127,.tuple #[vs y j o,vi ag])]<| T_ed 5 [127] [(16,vs y j o),(17,vi ag)]<| T_srz 26<| T_nd 3 [5] [(133,vp (some g))] ?_
   obtain⟨a8,q54,h⟩:=h
   refine T_l1 134 34 q54 [133]<| T_nd 1 [6] [(135,vu ra)]<| T_c (some 136) h ?_;clear h
   rintro cc bw ⟨r,l,p,ai,rfl,h⟩
   refine T_pd [134,135] [(136,.tuple #[vs r l p,vi ai])]<| T_ed 5 [136] [(18,vs r l p),(19,vi ai)]<| T_sz<| T_srz 27 ?_
   refine N_cut [(11,vs u m q),(13,vs f d e),(16,vs y j o),(18,vs r l p),(158,.bool ((((ag !=0) || (ai !=0)) || ((m:Int) !=(j:Int))) || ((d:Int) !=(l:Int))))] ?_ ?_
   ·refine S_then ?_
    by_cases c61:((((ag !=0) || (ai !=0)) || ((m:Int) !=(j:Int))) || ((d:Int) !=(l:Int)))=true
    ·rw[if_pos c61]at h
     exact T_cTz 158 c61<| T_srz 28<| T_nr 1 [4] [.bool false] hQ h
    rw[if_neg c61]at h
    refine T_cFz 158 (zZ c61)<| T_kt<| T_sz<| T_srz 29<| T_ne 1 [(11,vs u m q),(13,vs f d e),(16,vs y j o),(18,vs r l p),(20,vi 0)]<| T_bz 4 ?_
    obtain⟨bk,m107,i63,i64⟩:=h
    refine S_loop (x:=K106) (σ:=Int) (λs_=> [(11,vs u m q),(13,vs f d e),(16,vs y j o),(18,vs r l p),(20,vi s_)]) (λs_ H=>bk s_ H) (λs_ H=>m107 s_ H) (0:Int) (by kernel_rfl) i63 sk ?_
    rintro s H21 i65
    have h:=i64 s H21 i65
    refine T_su [(11,vs u m q),(13,vs f d e),(16,vs y j o),(18,vs r l p),(20,vi s)]<| T_sz<| T_srz 30<| T_ed 4 [] [(162,.bool (decide (s< (m:Int))))] ?_
    by_cases c66:s< (m:Int)
    ·rw[if_pos c66]at h
     refine T_cTz 162 (zX c66)<| T_kt<| T_sz<| T_bz 5<| T_sz<| T_rqz 32<| T_q1 165 (vs u m q) [162]<| T_q1 166 (vi s) [] ?_
     obtain⟨ab,rfl,q68,h⟩:=h
     refine Q_op (some 167) (indexAtN 54 (vs (some ab) m q) (vi s)) (vp (some (ab.add (Int.toNat s*1)))) (λ_=>by kernel_rfl) (λw _=>indexAt_run (P:=Tryz.prog) (t:=54) (elem:=31) (sz:=1) (a:=ab) (len:=m) (cap:=q) (k:=.i64) (i:=s) Tryz.underlying54 (λ_=>by kernel_rfl) q68.1 q68.2 w) [(11,vs (some ab) m q),(13,vs f d e),(16,vs y j o),(18,vs r l p),(20,vi s),(167,vp (some (ab.add (Int.toNat s*1))))] pk ?_
     obtain⟨al,q69,h⟩:=h
     refine T_ql (some 168) 31 q69 [(11,vs (some ab) m q),(13,vs f d e),(16,vs y j o),(18,vs r l p),(20,vi s),(168,vu al)]<| T_q1 169 (vs y j o) []<| T_q1 170 (vi s) [] ?_
     obtain⟨z,rfl,q70,h⟩:=h
     refine Q_op (some 171) (indexAtN 54 (vs (some z) j o) (vi s)) (vp (some (z.add (Int.toNat s*1)))) (λ_=>by kernel_rfl) (λw _=>indexAt_run (P:=Tryz.prog) (t:=54) (elem:=31) (sz:=1) (a:=z) (len:=j) (cap:=o) (k:=.i64) (i:=s) Tryz.underlying54 (λ_=>by kernel_rfl) q70.1 q70.2 w) [(11,vs (some ab) m q),(13,vs f d e),(16,vs (some z) j o),(18,vs r l p),(20,vi s),(168,vu al),(171,vp (some (z.add (Int.toNat s*1))))] pk ?_
     obtain⟨aq,q71,h⟩:=h
     refine T_ql (some 172) 31 q71 [(11,vs (some ab) m q),(13,vs f d e),(16,vs (some z) j o),(18,vs r l p),(20,vi s),(168,vu al),(172,vu aq)]<| T_q1 173 (.bool (al !=aq)) [168,172]<| T_q1 174 (.bool (al !=aq)) [173] ?_
     by_cases c72:al=aq
     ·rw[if_pos c72]at h
      refine Q_bd 174 (bne_eq_false_iff_eq.mpr c72)<| T_q1 175 (vs f d e) []<| T_q1 176 (vi s) [] ?_
      obtain⟨af,rfl,q74,h⟩:=h
      refine Q_op (some 177) (indexAtN 54 (vs (some af) d e) (vi s)) (vp (some (af.add (Int.toNat s*1)))) (λ_=>by kernel_rfl) (λw _=>indexAt_run (P:=Tryz.prog) (t:=54) (elem:=31) (sz:=1) (a:=af) (len:=d) (cap:=e) (k:=.i64) (i:=s) Tryz.underlying54 (λ_=>by kernel_rfl) q74.1 q74.2 w) [(11,vs (some ab) m q),(13,vs (some af) d e),(16,vs (some z) j o),(18,vs r l p),(20,vi s),(174,.bool false),(177,vp (some (af.add (Int.toNat s*1))))] pk ?_
      obtain⟨ak,q75,h⟩:=h
      refine T_ql (some 178) 31 q75 [(11,vs (some ab) m q),(13,vs (some af) d e),(16,vs (some z) j o),(18,vs r l p),(20,vi s),(174,.bool false),(178,vu ak)]<| T_q1 179 (vs r l p) []<| T_q1 180 (vi s) [] ?_
      obtain⟨ah,rfl,q76,h⟩:=h
      refine Q_op (some 181) (indexAtN 54 (vs (some ah) l p) (vi s)) (vp (some (ah.add (Int.toNat s*1)))) (λ_=>by kernel_rfl) (λw _=>indexAt_run (P:=Tryz.prog) (t:=54) (elem:=31) (sz:=1) (a:=ah) (len:=l) (cap:=p) (k:=.i64) (i:=s) Tryz.underlying54 (λ_=>by kernel_rfl) q76.1 q76.2 w) [(11,vs (some ab) m q),(13,vs (some af) d e),(16,vs (some z) j o),(18,vs (some ah) l p),(20,vi s),(174,.bool false),(178,vu ak),(181,vp (some (ah.add (Int.toNat s*1))))] pk ?_
      obtain⟨ao,q77,h⟩:=h
      refine T_ql (some 182) 31 q77 [(11,vs (some ab) m q),(13,vs (some af) d e),(16,vs (some z) j o),(18,vs (some ah) l p),(20,vi s),(174,.bool false),(178,vu ak),(182,vu ao)]<| T_q1 183 (.bool (ak !=ao)) [178,182]<| T_q1 184 (.bool (ak !=ao)) [174,183]<| Q_sub [(11,vs (some ab) m q),(13,vs (some af) d e),(16,vs (some z) j o),(18,vs (some ah) l p),(20,vi s),(184,.bool (ak !=ao))] sk<| T_qe ?_
      by_cases c78:ak=ao
      ·rw[if_pos c78]at h
       exact T_cFz 184 (bne_eq_false_iff_eq.mpr c78)<| T_k<| S_blockEnd<| S_then<| T_rz 31<| T_ne 3 [(11,vs (some ab) m q),(13,vs (some af) d e),(16,vs (some z) j o),(18,vs (some ah) l p),(20,vi (zY (s+1)))]<| S_round ((zY (s+1)):Int) sk h
      rw[if_neg c78]at h
      exact T_cTz 184 (bne_iff_ne.mpr c78)<| T_srz 33<| T_nr 1 [4] [.bool false] hQ h
     rw[if_neg c72]at h
     refine Q_bd 174 (bne_iff_ne.mpr c72)<| T_q1 175 (undef) []<| T_q1 176 (undef) []<| T_q1 177 (undef) [175,176]<| T_q1 178 (undef) [177]<| T_q1 179 (undef) []<| T_q1 180 (undef) []<| T_q1 181 (undef) [179,180]<| T_q1 182 (undef) [181] ?_
     exact T_q1 183 (undef) [178,182]<| T_q1 184 (.bool true) [174,183]<| Q_sub [(11,vs (some ab) m q),(13,vs f d e),(16,vs (some z) j o),(18,vs r l p),(20,vi s),(184,.bool true)] sk<| T_qe<| T_tz 184<| T_srz 33<| T_nr 1 [4] [.bool false] hQ h
    rw[if_neg c66]at h
    refine T_cFz 162 (zQ c66)<| zj 4<| S_exitThen<| S_exitThen<| S_exitHere<| S_then<| T_srz 34<| T_nu []<| T_c (some 185) h ?_;clear h
    rintro b3 cp ⟨bd,rfl,h⟩
    refine⟨[(185,.bool bd)],pk,?_⟩
    exact T_nr 1 [4] [.bool bd] hQ h
   intro hk
   refine T_n 3 [(11,vs u m q),(13,vs f d e),(16,vs y j o),(18,vs r l p),(19,vi ai),(141,.bool (ag !=0))] ?_
   by_cases c55:ag=0
   ·have b56:(ag !=0)=false:=bne_eq_false_iff_eq.mpr c55
    refine N_env [(11,vs u m q),(13,vs f d e),(16,vs y j o),(18,vs r l p),(19,vi ai),(141,.bool false)] (by rw[b56]) ?_
    refine T_nd 4 [19,141] [(145,.bool (ai !=0))] ?_
    by_cases c57:ai=0
    ·have b58:(ai !=0)=false:=bne_eq_false_iff_eq.mpr c57
     refine N_bd 145 b58<| T_nd 7 [145] [(152,.bool ((m:Int) !=(j:Int)))] ?_
     by_cases c59:(m:Int)=(j:Int)
     ·have b60:((m:Int) !=(j:Int))=false:=bne_eq_false_iff_eq.mpr c59
      refine N_bd 152 b60<| T_nd 6 [152] [(158,.bool ((d:Int) !=(l:Int)))] ?_
      refine zq<| S_bd 158 (b:=((d:Int) !=(l:Int))) (v:=((((ag !=0) || (ai !=0)) || ((m:Int) !=(j:Int))) || ((d:Int) !=(l:Int)))) (by simp only[b56,b58,b60,BL]) ?_
      exact hk
     have b60:((m:Int) !=(j:Int))=true:=bne_iff_ne.mpr c59
     refine N_bd 152 b60<| T_nd 6 [152] [(158,.bool true)] ?_
     refine zq<| S_bd 158 (b:=true) (v:=((((ag !=0) || (ai !=0)) || ((m:Int) !=(j:Int))) || ((d:Int) !=(l:Int)))) (by simp only[b56,b58,b60,BL]) ?_
     exact hk
    have b58:(ai !=0)=true:=bne_iff_ne.mpr c57
    refine N_bd 145 b58<| T_nd 13 [145] [(158,.bool true)] ?_
    refine zq<| S_bd 158 (b:=true) (v:=((((ag !=0) || (ai !=0)) || ((m:Int) !=(j:Int))) || ((d:Int) !=(l:Int)))) (by simp only[b56,b58,BL]) ?_
    exact hk
   have b56:(ag !=0)=true:=bne_iff_ne.mpr c55
   refine N_env [(11,vs u m q),(13,vs f d e),(16,vs y j o),(18,vs r l p),(19,vi ai),(141,.bool true)] (by rw[b56]) ?_
   refine T_nd 17 [19,141] [(158,.bool true)]<| zq<| S_bd 158 (b:=true) (v:=((((ag !=0) || (ai !=0)) || ((m:Int) !=(j:Int))) || ((d:Int) !=(l:Int)))) (by simp only[b56,BL]) ?_
   exact hk
  rw[if_neg c6]at h
  exact T_cTz 42 (bne_iff_ne.mpr c6)<| T_srz 8<| T_nr 1 [4] [.bool false] hQ h
 intro hk
 refine T_n 4 [(0,vs lB lN lC),(1,vs mB mN mC),(24,.bool (decide ((lN:Int)>150)))] ?_
 by_cases c1:(lN:Int)>150
 ·have b2:(decide ((lN:Int)>150))=true:=zX c1
  refine N_env [(0,vs lB lN lC),(1,vs mB mN mC),(24,.bool true)] (by rw[b2]) ?_
  refine T_nd 4 [24] [(28,.bool true)]<| zq<| S_bd 28 (b:=true) (v:=((decide ((lN:Int)>150)) || (decide ((mN:Int)>150)))) (by simp only[b2,BL]) ?_
  exact hk
 have b2:(decide ((lN:Int)>150))=false:=zQ c1
 refine N_env [(0,vs lB lN lC),(1,vs mB mN mC),(24,.bool false)] (by rw[b2]) ?_
 refine T_nd 4 [24] [(28,.bool (decide ((mN:Int)>150)))]<| zq<| S_bd 28 (b:=(decide ((mN:Int)>150))) (v:=((decide ((lN:Int)>150)) || (decide ((mN:Int)>150)))) (by simp only[b2,BL]) ?_
 exact hk
end morainelaw15_EqtabApart

