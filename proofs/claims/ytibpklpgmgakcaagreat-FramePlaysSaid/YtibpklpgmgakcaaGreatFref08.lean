/- Printed: what each function asks, and that it is sound. -/
import Derived.Test.YtibpklpgmgakcaaGreatFnsC
set_option linter.unusedSimpArgs false
set_option linter.unusedVariables false
set_option maxRecDepth 100000
set_option maxHeartbeats 1000000
noncomputable section
namespace Go.Proofs.YtibpklpgmgakcaaGreat
open Go
/-! moraine/moraineref08.New -/
namespace moraineref08_New
def K0:=Func.code Tryz.f111
end moraineref08_New
def moraineref08_New.pt(a:Int)(H:Array Obj)(R:Value->Array Obj->Prop):Prop:=
 moraineref07_New.C a H (λv H1=> ∃x:Option Addr,v=.pointer x/\
 onPtr x (
 R (.pointer none) H1) (λxA=>
 ∀(b:Nat) (H2:Array Obj),b=H1.size->H2=H1.push (.cells #[.pointer (some xA),.int .i64 0,.int .i64 0,.int .i64 0,.int .i64 0,.int .i64 0,.int .i64 0,.int .i64 0,.int .i64 0,.int .i64 0,.int .i64 0,.int .i64 0,.int .i64 0,.int .i64 0,.int .i64 0,.int .i64 0,.int .i64 0,.int .i64 0,.int .i64 0,.int .i64 0,.int .i64 0] 78)->
 moraineref08_Space_Fresh.C (some (ad b)) none 0 0 H2 (λ_ H3=>
 R (.pointer (some (ad b))) H3)))
namespace moraineref08_New
theorem link{a:Int}{H:Array Obj}{R:Value->Array Obj->Prop}(h:pt a H R):C a H R:=by
 refine T_en K0 15 Tryz.func111 ?_
 intro w0 Q hQ
 unfold pt at h
 refine T_su [(0,vi a)]<| T_srz 0<| T_ed 1 [] []<| T_srz 1<| T_n 1 [(5,vi a)] ?_
 refine T_c (some 6) h ?_;clear h
 rintro v H1 ⟨x,rfl,h⟩
 refine⟨[(6,vp x)],pk,?_⟩
 refine T_ne 1 [(3,vp x)]<| T_sz<| T_srz 2<| T_nd 1 [] [(7,vp x)] ?_
 rcases x with _ | xA
 ·rw[onPtr_none]at h
  exact T_ne 1 [(3,vp none),(8,.bool true)]<| T_tz 8<| T_srz 3<| T_nr 1 [2] [vp none] hQ h
 rw[onPtr_some]at h
 refine T_ne 1 [(3,vp (some xA)),(8,.bool false)]<| T_fz 8<| T_kt<| T_srz 4<| T_n 2 [(10,.agg #[vp (some xA),vi 0,vi 0,vi 0,vi 0,vi 0,vi 0,vi 0,vi 0,vi 0,vi 0,vi 0,vi 0,vi 0,vi 0,vi 0,vi 0,vi 0,vi 0,vi 0,vi 0])]<| T_nw (some 11) (λb=>vp (pa b)) (.cells #[vp (some xA),vi 0,vi 0,vi 0,vi 0,vi 0,vi 0,vi 0,vi 0,vi 0,vi 0,vi 0,vi 0,vi 0,vi 0,vi 0,vi 0,vi 0,vi 0,vi 0,vi 0] 78) ?_
 intro b H2 e1 e2
 replace h:=h b H2 e1 e2
 refine⟨[(11,vp (pa b))],pk,?_⟩
 refine T_ne 1 [(4,vp (pa b))]<| T_srz 5<| T_nd 1 [] [(12,vp (pa b))] ?_
 refine T_c (some 13) h ?_;clear h
 intro v_2 H3 h
 exact T_pd [12] []<| T_e<| T_srz 6<| T_nr 2 [2] [vp (pa b)] hQ h
end moraineref08_New

/-! (*moraine/moraineref08.Space).Fresh -/
namespace moraineref08_Space_Fresh
def K0:=Func.code Tryz.f163
def K2:=cb K0
def K3:=ca K2
def K4:=ca K3
def K6:=cb K4
def K11:=ca K6
def K13:=ca K11
def K15:=cb K13
def K16:=ca K15
def K19:=cb K16
def K20:=ca K19
def K21:=ca K20
end moraineref08_Space_Fresh
def moraineref08_Space_Fresh.pt(s e:Option Addr)(b d:Nat)(H:Array Obj)(R:Value->Array Obj->Prop):Prop:=
 ∃(I5:Int->Array Obj->Prop) (m5:Int->Array Obj->Nat),I5 0 H/\ ∀(g:Int) (H1:Array Obj),I5 g H1->
 if g<=4 then(
 ∃(l:Bool->Int->Array Obj->Prop) (m22:Bool->Int->Array Obj->Nat),l ((b:Int)==0) 0 H1/\ ∀(j:Bool) (i:Int) (H2:Array Obj),l j i H2->
 if i< (b:Int)then(
 if j=true then(
 (l true (IntKind.wrap .i64 (i+1)) H2/\m22 true (IntKind.wrap .i64 (i+1)) H2<m22 j i H2))
 else
 ∃f:Addr,e=some f/\
 ((0:Int)<=i/\i< (b:Int))/\
 ∃x:Int,hat H2 (f.add (Int.toNat i*1))=some (.int .i64 x)/\
 (l (x==g) (IntKind.wrap .i64 (i+1)) H2/\m22 (x==g) (IntKind.wrap .i64 (i+1)) H2<m22 j i H2))
 else
 if j=true then(
 ∃sA:Addr,s=some sA/\
 ((0:Int)<=g/\g< (5:Int))/\
 (CanPuts H2 ((sA.add 1).add (Int.toNat g*4)) 0 4)/\ ∀H3,H3=hputs H2 ((sA.add 1).add (Int.toNat g*4)) [.int .i64 (-1),.int .i64 (-1),.int .i64 (-1),.int .i64 (-1)] 0->
 (I5 (IntKind.wrap .i64 (g+1)) H3/\m5 (IntKind.wrap .i64 (g+1)) H3<m5 g H1))
 else
 (I5 (IntKind.wrap .i64 (g+1)) H2/\m5 (IntKind.wrap .i64 (g+1)) H2<m5 g H1))
 else
 R (.tuple #[]) H1
namespace moraineref08_Space_Fresh
theorem link{s e:Option Addr}{b d:Nat}{H:Array Obj}{R:Value->Array Obj->Prop}(h:pt s e b d H R):C s e b d H R:=by
 refine T_en K0 36 Tryz.func163 ?_
 intro w0 Q hQ
 unfold pt at h
 refine T_su [(0,vp s),(1,vs e b d)]<| T_srz 0<| T_ed 1 [] [(4,vi 0)]<| T_bz 0 ?_
 obtain⟨I5,m5,i1,i2⟩:=h
 refine S_loop (x:=K4) (σ:=Int) (λs_=> [(0,vp s),(1,vs e b d),(4,vi s_)]) (λs_ H=>I5 s_ H) (λs_ H=>m5 s_ H) (0:Int) (by kernel_rfl) i1 sk ?_
 rintro g H1 i3
 have h:=i2 g H1 i3
 refine T_su [(0,vp s),(1,vs e b d),(4,vi g)]<| T_sz<| T_srz 1<| T_ed 2 [] [(8,.bool (decide (g<=4)))] ?_
 by_cases c4:g<=4
 ·rw[if_pos c4]at h
  refine T_cTz 8 (decide_eq_true c4)<| T_kt<| T_sz<| T_bz 1<| T_srz 3<| T_ed 4 [8] [(5,.bool ((b:Int)==0))]<| T_sz<| T_srz 4<| T_ed 1 [] [(6,vi 0)] ?_
  refine T_bz 2 ?_
  obtain⟨l,m22,i6,i7⟩:=h
  refine S_loop (x:=K21) (σ:=Bool×Int) (λs_=> [(0,vp s),(1,vs e b d),(4,vi g),(5,.bool s_.1),(6,vi s_.2)]) (λs_ H=>l s_.1 s_.2 H) (λs_ H=>m22 s_.1 s_.2 H) ((((b:Int)==0),0):Bool×Int) (by kernel_rfl) i6 sk ?_
  rintro⟨j,i⟩ H2 i8
  have h:=i7 j i H2 i8
  refine T_su [(0,vp s),(1,vs e b d),(4,vi g),(5,.bool j),(6,vi i)]<| T_sz<| T_srz 5<| T_ed 4 [] [(17,.bool (decide (i< (b:Int))))] ?_
  by_cases c9:i< (b:Int)
  ·rw[if_pos c9]at h
   refine T_cTz 17 (decide_eq_true c9)<| T_kt<| T_sz<| T_bz 3<| T_rz 7<| T_nd 2 [5,17] [(21,.bool j)] ?_
   by_cases c11:j=true
   ·rw[if_pos c11]at h
    refine N_bd 21 c11<| T_nd 8 [21] [(5,.bool true)] ?_
    refine N_end (by kernel_rfl) ?_
    refine S_blockEnd ?_
    refine S_then ?_
    refine T_rz 6<| T_ed 3 [6] [(6,vi (IntKind.wrap .i64 (i+1)))] ?_
    exact S_round ((true,(IntKind.wrap .i64 (i+1))):Bool×Int) sk h
   rw[if_neg c11]at h
   refine N_bd 21 (eq_false_of_ne_true c11)<| T_nd 2 [] [(22,vs e b d),(23,vi i)] ?_
   obtain⟨f,rfl,h⟩:=h
   obtain⟨q13,h⟩:=h
   refine T_xd (some 24) 62 3 1 f b d .i64 i Tryz.underlying62 q13.1 q13.2 [1,22,23] [(1,vs (some f) b d),(24,vp (some (f.add (Int.toNat i*1))))] ?_
   obtain⟨x,q14,h⟩:=h
   refine T_l1 25 3 q14 [24]<| T_nd 4 [21,25] [(5,.bool (x==g))] ?_
   refine N_end (by kernel_rfl) ?_
   refine S_blockEnd ?_
   refine S_then ?_
   refine T_rz 6<| T_ed 3 [6] [(6,vi (IntKind.wrap .i64 (i+1)))] ?_
   exact S_round (((x==g),(IntKind.wrap .i64 (i+1))):Bool×Int) sk h
  rw[if_neg c9]at h
  refine T_cFz 17 (decide_eq_false c9) ?_
  refine S_exit 2 (by kernel_rfl) ?_
  refine S_exitThen ?_
  refine S_exitThen ?_
  refine S_exitHere ?_
  refine S_then ?_
  refine T_srz 8<| T_ed 1 [5,6,17] [(29,.bool j)] ?_
  by_cases c15:j=true
  ·rw[if_pos c15]at h
   refine T_cTz 29 c15<| T_rz 9<| T_nd 3 [29] [(30,vp s),(31,vi g),(32,.agg #[vi (-1),vi (-1),vi (-1),vi (-1)])] ?_
   obtain⟨sA,rfl,h⟩:=h
   refine T_nd 2 [0,30] [(0,vp (some sA)),(34,vp (some (sA.add 1)))] ?_
   obtain⟨q17,h⟩:=h
   refine T_v1 35 (indexAtN 73 (vp (some (sA.add 1))) (vi g)) (vp (some ((sA.add 1).add (Int.toNat g*4)))) (λw _=>indexArr_run (P:=Tryz.prog) (t:=73) (elem:=72) (sz:=4) (n:=5) (a:=(sA.add 1)) (k:=.i64) (i:=g) Tryz.underlying73 (λ_=>by kernel_rfl) q17.1 q17.2 w) [31,34] ?_
   obtain⟨q19,h⟩:=h
   refine T_sta 72 [vi (-1),vi (-1),vi (-1),vi (-1)] q19 ?_
   intro H3 e18
   replace h:=h H3 e18
   refine T_pd [32,35] [] ?_
   refine N_end (by kernel_rfl) ?_
   refine S_blockEnd ?_
   refine S_then ?_
   refine T_rz 2<| T_ed 3 [4] [(4,vi (IntKind.wrap .i64 (g+1)))] ?_
   exact S_round ((IntKind.wrap .i64 (g+1)):Int) sk h
  rw[if_neg c15]at h
  refine T_cFz 29 (eq_false_of_ne_true c15)<| T_k ?_
  refine S_blockEnd ?_
  refine S_then ?_
  refine T_rz 2<| T_ed 3 [4,29] [(4,vi (IntKind.wrap .i64 (g+1)))] ?_
  exact S_round ((IntKind.wrap .i64 (g+1)):Int) sk h
 rw[if_neg c4]at h
 refine T_cFz 8 (decide_eq_false c4) ?_
 refine S_exit 0 (by kernel_rfl) ?_
 refine S_exitThen ?_
 refine S_exitThen ?_
 refine S_exitHere ?_
 exact S_doneN (fn:=Tryz.f163) [] hQ (show ResOK _ _ _ [] _ from .nil) h
end moraineref08_Space_Fresh

/-! (*moraine/moraineref08.Space).Alloc -/
namespace moraineref08_Space_Alloc
def K0:=Func.code Tryz.f165
def K2:=cb K0
def K4:=cb K2
def K10:=cb K4
def K11:=ca K10
def K13:=ca K11
end moraineref08_Space_Alloc
def moraineref08_Space_Alloc.pt(s:Option Addr)(d b nv:Int)(H:Array Obj)(R:Value->Array Obj->Prop):Prop:=
 moraineref08_May.C d b nv H (λv H1=> ∃x:Bool,v=.bool x/\
 if x=true then(
 ∃sA:Addr,s=some sA/\
 ((0:Int)<=d/\d< (5:Int))/\
 ((0:Int)<=b/\b< (4:Int))/\
 ∃e:Int,hat H1 (((sA.add 1).add (Int.toNat d*4)).add (Int.toNat b*1))=some (.int .i64 e)/\
 ∃J:Bool->Array Obj->Prop,(
 if e>=0 then(
 ∃ag:Option Addr,hat H1 sA=some (.pointer ag)/\
 ∃m:Addr,ag=some m/\
 ∃(xB:Option Addr) (xN xC:Nat),hat H1 (m.add 1)=some (.slice xB xN xC)/\
 ∃q:Option Addr,hat H1 sA=some (.pointer q)/\
 moraineref07_Mem_Place.C q e H1 (λak H7=> ∃o:Int,ak=.int .i64 o/\RowAt H7 sA 0 [.pointer (some m)]/\RowAt H7 (m.add 1) 0 [.slice xB xN xC]/\
 ∃p:Addr,xB=some p/\
 ((0:Int)<=o/\o< (xN:Int))/\
 ∃(ae:Option Addr) (j af:Nat),hat H7 ((p.add (Int.toNat o*9)).add 8)=some (.slice ae j af)/\
 RowAt H7 sA 0 [.pointer (some m)]/\RowAt H7 (m.add 1) 0 [.slice xB xN xC]/\J (decide ((IntKind.wrap .i64 ((j:Int)+nv))<=64)) H7))
 else
 J false H1)/\ ∀(z:Bool) (H2:Array Obj),J z H2->
 if z=true then(
 ∃ac:Option Addr,hat H2 sA=some (.pointer ac)/\
 moraineref07_Mem_Bump.C ac e nv H2 (λai H3=> ∃ra rb:Int,ai=.tuple #[.int .i64 ra,.int .i64 rb]/\
 R (.tuple #[.int .i64 ra,.int .i64 rb]) H3))
 else
 ∃aa:Option Addr,hat H2 sA=some (.pointer aa)/\
 moraineref07_Mem_Take.C aa d b H2 (λah H4=> ∃f l:Int,ah=.tuple #[.int .i64 f,.int .i64 l]/\
 if l=0 then(
 ((0:Int)<=d/\d< (5:Int))/\
 ((0:Int)<=b/\b< (4:Int))/\
 (CanPuts H4 (((sA.add 1).add (Int.toNat d*4)).add (Int.toNat b*1)) 0 1)/\ ∀H5,H5=hputs H4 (((sA.add 1).add (Int.toNat d*4)).add (Int.toNat b*1)) [.int .i64 f] 0->
 ∃ab:Option Addr,hat H5 sA=some (.pointer ab)/\
 moraineref07_Mem_Bump.C ab f nv H5 (λaj H6=> ∃y r:Int,aj=.tuple #[.int .i64 y,.int .i64 r]/\
 R (.tuple #[.int .i64 y,.int .i64 r]) H6))
 else
 R (.tuple #[.int .i64 0,.int .i64 l]) H4))
 else
 R (.tuple #[.int .i64 0,.int .i64 1]) H1)
namespace moraineref08_Space_Alloc
theorem link{s:Option Addr}{d b nv:Int}{H:Array Obj}{R:Value->Array Obj->Prop}(h:pt s d b nv H R):C s d b nv H R:=by
 refine T_en K0 88 Tryz.func165 ?_
 intro w0 Q hQ
 unfold pt at h
 refine T_su [(0,vp s),(1,vi d),(2,vi b),(3,vi nv)]<| T_srz 0<| T_ed 2 [] []<| T_sz<| T_srz 1<| T_nd 3 [] [(12,vi d),(13,vi b),(14,vi nv)] ?_
 refine T_c (some 15) h ?_;clear h
 rintro v H1 ⟨x,rfl,h⟩
 refine T_pd [12,13,14] [(15,.bool x)]<| T_ed 1 [15] [(16,.bool (!x))] ?_
 by_cases c1:x=true
 ·rw[if_pos c1]at h
  refine T_cFz 16 (congrArg Bool.not (c1))<| T_kt<| T_srz 3<| T_nd 3 [16] [(17,vp s),(18,vi d),(19,vi b)] ?_
  obtain⟨sA,rfl,h⟩:=h
  refine T_nd 2 [0,17] [(0,vp (some sA)),(21,vp (some (sA.add 1)))] ?_
  obtain⟨q3,h⟩:=h
  refine T_v1 22 (indexAtN 73 (vp (some (sA.add 1))) (vi d)) (vp (some ((sA.add 1).add (Int.toNat d*4)))) (λw _=>indexArr_run (P:=Tryz.prog) (t:=73) (elem:=72) (sz:=4) (n:=5) (a:=(sA.add 1)) (k:=.i64) (i:=d) Tryz.underlying73 (λ_=>by kernel_rfl) q3.1 q3.2 w) [18,21] ?_
  obtain⟨q4,h⟩:=h
  refine T_v1 23 (indexAtN 72 (vp (some ((sA.add 1).add (Int.toNat d*4)))) (vi b)) (vp (some (((sA.add 1).add (Int.toNat d*4)).add (Int.toNat b*1)))) (λw _=>indexArr_run (P:=Tryz.prog) (t:=72) (elem:=3) (sz:=1) (n:=4) (a:=((sA.add 1).add (Int.toNat d*4))) (k:=.i64) (i:=b) Tryz.underlying72 (λ_=>by kernel_rfl) q4.1 q4.2 w) [19,22] ?_
  obtain⟨e,q5,h⟩:=h
  refine T_l1 24 3 q5 [23]<| T_ne 1 [(0,vp (some sA)),(1,vi d),(2,vi b),(3,vi nv),(10,vi e)]<| T_sz<| T_sz ?_
  obtain⟨J,h,j7⟩:=h
  refine S_join (σ:=Bool) (λs_=> [(0,vp (some sA)),(1,vi d),(2,vi b),(3,vi nv),(10,vi e),(48,.bool s_)]) (λs_ H=>J s_ H) ?_ ?_
  ·rintro z H2 j8
   replace h:=j7 z H2 j8
   refine T_su [(0,vp (some sA)),(1,vi d),(2,vi b),(3,vi nv),(10,vi e),(48,.bool z)] ?_
   refine S_then ?_
   by_cases c9:z=true
   ·rw[if_pos c9]at h
    have b10:z=true:=c9
    refine S_env [(0,vp (some sA)),(1,vi d),(2,vi b),(3,vi nv),(10,vi e),(48,.bool true)] (by rw[b10]) ?_
    clear b10
    refine T_tz 48<| T_srz 5<| T_nd 3 [0,1,2,48] [(51,vp (some sA))] ?_
    obtain⟨ac,q11,h⟩:=h
    refine T_l1 52 76 q11 [51]<| T_nd 2 [3,10] [(53,vi e),(54,vi nv)] ?_
    refine T_c (some 55) h ?_;clear h
    rintro ai H3 ⟨ra,rb,rfl,h⟩
    refine⟨[(55,.tuple #[vi ra,vi rb])],pk,?_⟩
    exact T_nr 4 [8,9] [vi ra,vi rb] hQ h
   rw[if_neg c9]at h
   have b10:z=false:=eq_false_of_ne_true c9
   refine S_env [(0,vp (some sA)),(1,vi d),(2,vi b),(3,vi nv),(10,vi e),(48,.bool false)] (by rw[b10]) ?_
   clear b10
   refine T_fz 48<| T_kt<| T_srz 6<| T_nd 3 [10,48] [(61,vp (some sA))] ?_
   obtain⟨aa,q12,h⟩:=h
   refine T_l1 62 76 q12 [61]<| T_nd 2 [] [(63,vi d),(64,vi b)] ?_
   refine T_c (some 65) h ?_;clear h
   rintro ah H4 ⟨f,l,rfl,h⟩
   refine T_pd [62,63,64] [(65,.tuple #[vi f,vi l])]<| T_ed 5 [65] [(10,vi f),(11,vi l)]<| T_sz<| T_srz 7<| T_ed 2 [] [(69,.bool (l !=0))] ?_
   by_cases c13:l=0
   ·rw[if_pos c13]at h
    refine T_cFz 69 (bne_eq_false_iff_eq.mpr c13)<| T_kt<| T_srz 9<| T_nd 6 [1,2,11,69] [(72,vi d),(73,vi b),(74,vi f),(76,vp (some (sA.add 1)))] ?_
    obtain⟨q15,h⟩:=h
    refine T_v1 77 (indexAtN 73 (vp (some (sA.add 1))) (vi d)) (vp (some ((sA.add 1).add (Int.toNat d*4)))) (λw _=>indexArr_run (P:=Tryz.prog) (t:=73) (elem:=72) (sz:=4) (n:=5) (a:=(sA.add 1)) (k:=.i64) (i:=d) Tryz.underlying73 (λ_=>by kernel_rfl) q15.1 q15.2 w) [72,76] ?_
    obtain⟨q16,h⟩:=h
    refine T_v1 78 (indexAtN 72 (vp (some ((sA.add 1).add (Int.toNat d*4)))) (vi b)) (vp (some (((sA.add 1).add (Int.toNat d*4)).add (Int.toNat b*1)))) (λw _=>indexArr_run (P:=Tryz.prog) (t:=72) (elem:=3) (sz:=1) (n:=4) (a:=((sA.add 1).add (Int.toNat d*4))) (k:=.i64) (i:=b) Tryz.underlying72 (λ_=>by kernel_rfl) q16.1 q16.2 w) [73,77] ?_
    obtain⟨q18,h⟩:=h
    refine T_st1 3 (vi f) q18 ?_
    intro H5 e17
    replace h:=h H5 e17
    refine T_pd [74,78] []<| T_e<| T_srz 10<| T_nd 3 [0] [(81,vp (some sA))] ?_
    obtain⟨ab,q19,h⟩:=h
    refine T_l1 82 76 q19 [81]<| T_nd 2 [3,10] [(83,vi f),(84,vi nv)] ?_
    refine T_c (some 85) h ?_;clear h
    rintro aj H6 ⟨y,r,rfl,h⟩
    refine⟨[(85,.tuple #[vi y,vi r])],pk,?_⟩
    exact T_nr 4 [8,9] [vi y,vi r] hQ h
   rw[if_neg c13]at h
   exact T_cTz 69 (bne_iff_ne.mpr c13)<| T_srz 8<| T_nr 3 [8,9] [vi 0,vi l] hQ h
  by_cases c20:e>=0
  ·rw[if_pos c20]at h
   obtain⟨ag,q22,h⟩:=h
   obtain⟨m,rfl,h⟩:=h
   obtain⟨xB,xN,xC,q23,h⟩:=h
   obtain⟨q,q24,h⟩:=h
   refine S_regionG 4 (Code.ops K13) [(24,sA,[vp (some m)]),(24,(m.add 1),[vs xB xN xC]),(15,sA,[vp q])] 24 (bv 24 0) (by kernel_rfl) (by kernel_rfl) (by kernel_rfl) (by kernel_rfl) (by kernel_rfl) (show FactsAt _ _ _ from⟨⟨q22,trivial⟩,⟨q23,trivial⟩,⟨q24,trivial⟩,trivial⟩) ?_
   refine T_gp 0 (some 25) (vi e) (bv 24 1) [(0,vp (some sA)),(1,vi d),(2,vi b),(3,vi nv),(10,vi e),(25,vi e)]<| T_gp1 1 26 (.bool (decide (e>=0))) (bv 24 3) [25]<| T_gp1 2 27 (.bool (decide (e>=0))) (bv 24 7) [26] ?_
   refine G_bd 27 (decide_eq_true c20) ?_
   refine T_gp1 3 28 (vp (some sA)) (bv 24 15) []<| T_gp1 4 29 (vp (some sA)) (bv 24 31) [28]<| T_gp1 5 30 (vp (some sA)) (bv 24 63) [29]<| T_g1 6 31 (vp (some m)) (bv 24 127) [30] (loadN 76 (vp (some sA))) (held_one 24 (λ_=>by kernel_rfl) (List.Mem.head _) (.inr (by kernel_rfl)))<| T_gp1 7 32 (vp (some m)) (bv 24 255) [31]<| T_gp1 8 33 (vp (some (m.add 1))) (bv 24 511) [32]<| T_g1 9 34 (vs xB xN xC) (bv 24 1023) [33] (loadN 88 (vp (some (m.add 1)))) (held_one 24 (λ_=>by kernel_rfl) (List.Mem.tail _ (List.Mem.head _)) (.inr (by kernel_rfl)))<| T_gp1 10 35 (vp (some sA)) (bv 24 2047) []<| T_gp1 11 36 (vp (some sA)) (bv 24 4095) [35] ?_
   refine T_gp1 12 37 (vp (some sA)) (bv 24 8191) [36]<| T_g1 13 38 (vp q) (bv 24 16383) [37] (loadN 76 (vp (some sA))) (held_one 15 (λ_=>by kernel_rfl) (List.Mem.tail _ (List.Mem.tail _ (List.Mem.head _))) (.inl (by kernel_rfl)))<| T_gp1 14 39 (vi e) (bv 24 32767) []<| T_gp1 20 45 (vi nv) (bv 24 1081343) [] ?_
   refine G_call 15 (some 40) (bv 24 1114111) 170 #[vp q,vi e] (by kernel_rfl) (λ_=>by kernel_rfl) h (by kernel_rfl) ?_;clear h
   rintro ak H7 ⟨o,rfl,h⟩
   obtain⟨f25,f26,h⟩:=h
   refine⟨[(0,vp (some sA)),(1,vi d),(2,vi b),(3,vi nv),(10,vi e),(27,.bool true),(34,vs xB xN xC),(40,vi o),(45,vi nv)],pk,(show FactsAt _ _ _ from⟨f25,f26,trivial,trivial⟩),?_⟩
   obtain⟨p,rfl,h⟩:=h
   obtain⟨q27,h⟩:=h
   refine T_g 16 (some 41) (vp (some (p.add (Int.toNat o*9)))) (bv 24 1179647) [(0,vp (some sA)),(1,vi d),(2,vi b),(3,vi nv),(10,vi e),(27,.bool true),(41,vp (some (p.add (Int.toNat o*9)))),(45,vi nv)] (indexAtN 88 (vs (some p) xN xC) (vi o)) (λ_ w _ _ _=>indexAt_run (P:=Tryz.prog) (t:=88) (elem:=96) (sz:=9) (a:=p) (len:=xN) (cap:=xC) (k:=.i64) (i:=o) Tryz.underlying88 (λ_=>by kernel_rfl) q27.1 q27.2 w)<| T_g1 17 42 (vp (some ((p.add (Int.toNat o*9)).add 8))) (bv 24 1310719) [41] (pure (.value (vp (some ((p.add (Int.toNat o*9)).add 8)))):Sem Next) (λ_ _ _ _ _=>rfl) ?_
   obtain⟨ae,j,af,q30,h⟩:=h
   refine G_only 18 (some 43) (bv 24 1572863) (loadN 31 (vp (some ((p.add (Int.toNat o*9)).add 8)))) (λu H1=>u=vs ae j af/\H1=H7) (by kernel_rfl) (λ_=>by kernel_rfl) (ss_load (loadOK_one (λ_=>by kernel_rfl) q30)) (by kernel_rfl) ?_
   rintro _ _ ⟨rfl,rfl⟩
   obtain⟨f28,f29,h⟩:=h
   refine⟨[(0,vp (some sA)),(1,vi d),(2,vi b),(3,vi nv),(10,vi e),(27,.bool true),(43,vs ae j af),(45,vi nv)],pk,(show FactsAt _ _ _ from⟨f28,f29,trivial,trivial⟩),?_⟩
   refine T_g 19 (some 44) (vi j) (bv 24 2097151) [(0,vp (some sA)),(1,vi d),(2,vi b),(3,vi nv),(10,vi e),(27,.bool true),(44,vi j),(45,vi nv)] (pure (.value (vi j)):Sem Next) (λ_ _ _ _ _=>rfl)<| T_g1 21 46 (vi (IntKind.wrap .i64 ((j:Int)+nv))) (bv 24 4194303) [44,45] (pure (.value (vi (IntKind.wrap .i64 ((j:Int)+nv)))):Sem Next) (λ_ _ _ _ _=>rfl)<| T_g1 22 47 (.bool (decide ((IntKind.wrap .i64 ((j:Int)+nv))<=64))) (bv 24 8388607) [46] (pure (.value (.bool (decide ((IntKind.wrap .i64 ((j:Int)+nv))<=64)))):Sem Next) (λ_ _ _ _ _=>rfl)<| T_g1 23 48 (.bool (decide ((IntKind.wrap .i64 ((j:Int)+nv))<=64))) (bv 24 16777215) [27,47] (pure (.value (.bool (decide ((IntKind.wrap .i64 ((j:Int)+nv))<=64)))):Sem Next) (λ_ _ _ _ _=>rfl) ?_
   refine G_sub [(0,vp (some sA)),(1,vi d),(2,vi b),(3,vi nv),(10,vi e),(48,.bool (decide ((IntKind.wrap .i64 ((j:Int)+nv))<=64)))] sk ?_
   refine G_end (by kernel_rfl) ?_
   refine S_then ?_
   exact S_meet ((decide ((IntKind.wrap .i64 ((j:Int)+nv))<=64)):Bool) sk h
  rw[if_neg c20]at h
  refine S_regionG 4 (Code.ops K13) [] 24 (bv 24 0) (by kernel_rfl) (by kernel_rfl) (by kernel_rfl) (by kernel_rfl) (by kernel_rfl) (show FactsAt _ _ _ from trivial) ?_
  refine T_gp 0 (some 25) (vi e) (bv 24 1) [(0,vp (some sA)),(1,vi d),(2,vi b),(3,vi nv),(10,vi e),(25,vi e)]<| T_gp1 1 26 (.bool (decide (e>=0))) (bv 24 3) [25]<| T_gp1 2 27 (.bool (decide (e>=0))) (bv 24 7) [26] ?_
  refine G_bd 27 (decide_eq_false c20) ?_
  refine T_gsd 3 (some 28) (bv 24 15) [] [(28,undef)]<| T_gsd 4 (some 29) (bv 24 31) [28] [(29,undef)]<| T_gsd 5 (some 30) (bv 24 63) [29] [(30,undef)]<| T_gsd 6 (some 31) (bv 24 127) [30] [(31,undef)]<| T_gsd 7 (some 32) (bv 24 255) [31] [(32,undef)]<| T_gsd 8 (some 33) (bv 24 511) [32] [(33,undef)]<| T_gsd 9 (some 34) (bv 24 1023) [33] [(34,undef)]<| T_gsd 10 (some 35) (bv 24 2047) [] [(35,undef)]<| T_gsd 11 (some 36) (bv 24 4095) [35] [(36,undef)] ?_
  refine T_gsd 12 (some 37) (bv 24 8191) [36] [(37,undef)]<| T_gsd 13 (some 38) (bv 24 16383) [37] [(38,undef)]<| T_gsd 14 (some 39) (bv 24 32767) [] [(39,undef)]<| T_gsd 15 (some 40) (bv 24 65535) [38,39] [(40,undef)]<| T_gsd 16 (some 41) (bv 24 131071) [34,40] [(41,undef)]<| T_gsd 17 (some 42) (bv 24 262143) [41] [(42,undef)]<| T_gsd 18 (some 43) (bv 24 524287) [42] [(43,undef)]<| T_gsd 19 (some 44) (bv 24 1048575) [43] [(44,undef)]<| T_gsd 20 (some 45) (bv 24 2097151) [] [(45,undef)] ?_
  refine T_gsd 21 (some 46) (bv 24 4194303) [44,45] [(46,undef)]<| T_gsd 22 (some 47) (bv 24 8388607) [46] [(47,undef)]<| T_gp1 23 48 (.bool false) (bv 24 16777215) [27,47] ?_
  refine G_sub [(0,vp (some sA)),(1,vi d),(2,vi b),(3,vi nv),(10,vi e),(48,.bool false)] sk ?_
  refine G_end (by kernel_rfl) ?_
  refine S_then ?_
  exact S_meet (false:Bool) sk h
 rw[if_neg c1]at h
 exact T_cTz 16 (congrArg Bool.not (eq_false_of_ne_true c1))<| T_srz 2<| T_nr 2 [8,9] [vi 0,vi 1] hQ h
end moraineref08_Space_Alloc

/-! moraine/moraineref08.May -/
namespace moraineref08_May
def K0:=Func.code Tryz.f204
end moraineref08_May
def moraineref08_May.pt(b a nv:Int)(H:Array Obj)(R:Value->Array Obj->Prop):Prop:=
 if((((decide (b<0)) || (decide (b>4))) || (decide (a<0))) || (decide (a>3)))=true then(
 R (.bool false) H)
 else
 if a<2 then(
 R (.bool (nv==2)) H)
 else
 R (.bool ((decide (nv>=1)) && (decide (nv<=63)))) H
namespace moraineref08_May
theorem link{b a nv:Int}{H:Array Obj}{R:Value->Array Obj->Prop}(h:pt b a nv H R):C b a nv H R:=by
 refine T_en K0 31 Tryz.func204 ?_
 intro w0 Q hQ
 unfold pt at h
 refine T_su [(0,vi b),(1,vi a),(2,vi nv)]<| T_srz 0<| T_ed 1 [] []<| T_sz<| T_srz 1 ?_
 refine N_cut [(1,vi a),(2,vi nv),(20,.bool ((((decide (b<0)) || (decide (b>4))) || (decide (a<0))) || (decide (a>3))))] ?_ ?_
 ·refine S_then ?_
  by_cases c7:((((decide (b<0)) || (decide (b>4))) || (decide (a<0))) || (decide (a>3)))=true
  ·rw[if_pos c7]at h
   exact T_cTz 20 c7<| T_srz 2<| T_nr 1 [6] [.bool false] hQ h
  rw[if_neg c7]at h
  refine T_cFz 20 (eq_false_of_ne_true c7)<| T_kt<| T_sz<| T_srz 3<| T_ne 2 [(2,vi nv),(22,.bool (decide (a<2)))] ?_
  by_cases c9:a<2
  ·rw[if_pos c9]at h
   exact T_cTz 22 (decide_eq_true c9)<| T_srz 4<| T_nr 3 [6] [.bool (nv==2)] hQ h
  rw[if_neg c9]at h
  refine T_cFz 22 (decide_eq_false c9)<| T_kt<| T_srz 5 ?_
  refine N_cut [(6,.bool ((decide (nv>=1)) && (decide (nv<=63))))] ?_ ?_
  ·refine S_then ?_
   exact T_ret [6] [.bool ((decide (nv>=1)) && (decide (nv<=63)))] hQ h
  intro hk
  refine T_n 3 [(2,vi nv),(27,.bool (decide (nv>=1)))] ?_
  by_cases c11:nv>=1
  ·have b12:(decide (nv>=1))=true:=decide_eq_true c11
   refine N_env [(2,vi nv),(27,.bool true)] (by rw[b12]) ?_
   refine T_n 4 [(6,.bool (decide (nv<=63)))] ?_
   refine N_end (by kernel_rfl) ?_
   refine S_env [(6,.bool ((decide (nv>=1)) && (decide (nv<=63))))] (by simp only[b12,BL]) ?_
   exact hk
  have b12:(decide (nv>=1))=false:=decide_eq_false c11
  refine N_env [(2,vi nv),(27,.bool false)] (by rw[b12]) ?_
  refine T_n 4 [(6,.bool false)] ?_
  refine N_end (by kernel_rfl) ?_
  refine S_env [(6,.bool ((decide (nv>=1)) && (decide (nv<=63))))] (by simp only[b12,BL]) ?_
  exact hk
 intro hk
 refine T_n 3 [(0,vi b),(1,vi a),(2,vi nv),(9,.bool (decide (b<0)))] ?_
 by_cases c1:b<0
 ·have b2:(decide (b<0))=true:=decide_eq_true c1
  refine N_env [(0,vi b),(1,vi a),(2,vi nv),(9,.bool true)] (by rw[b2]) ?_
  refine T_nd 11 [0,9] [(20,.bool true)] ?_
  refine N_end (by kernel_rfl) ?_
  refine S_bd 20 (b:=true) (v:=((((decide (b<0)) || (decide (b>4))) || (decide (a<0))) || (decide (a>3)))) (by simp only[b2,BL]) ?_
  exact hk
 have b2:(decide (b<0))=false:=decide_eq_false c1
 refine N_env [(0,vi b),(1,vi a),(2,vi nv),(9,.bool false)] (by rw[b2]) ?_
 refine T_nd 4 [0,9] [(13,.bool (decide (b>4)))] ?_
 by_cases c3:b>4
 ·have b4:(decide (b>4))=true:=decide_eq_true c3
  refine N_bd 13 b4<| T_nd 7 [13] [(20,.bool true)] ?_
  refine N_end (by kernel_rfl) ?_
  refine S_bd 20 (b:=true) (v:=((((decide (b<0)) || (decide (b>4))) || (decide (a<0))) || (decide (a>3)))) (by simp only[b2,b4,BL]) ?_
  exact hk
 have b4:(decide (b>4))=false:=decide_eq_false c3
 refine N_bd 13 b4<| T_nd 4 [13] [(17,.bool (decide (a<0)))] ?_
 by_cases c5:a<0
 ·have b6:(decide (a<0))=true:=decide_eq_true c5
  refine N_bd 17 b6<| T_nd 3 [17] [(20,.bool true)] ?_
  refine N_end (by kernel_rfl) ?_
  refine S_bd 20 (b:=true) (v:=((((decide (b<0)) || (decide (b>4))) || (decide (a<0))) || (decide (a>3)))) (by simp only[b2,b4,b6,BL]) ?_
  exact hk
 have b6:(decide (a<0))=false:=decide_eq_false c5
 refine N_bd 17 b6<| T_nd 3 [17] [(20,.bool (decide (a>3)))] ?_
 refine N_end (by kernel_rfl) ?_
 refine S_bd 20 (b:=(decide (a>3))) (v:=((((decide (b<0)) || (decide (b>4))) || (decide (a<0))) || (decide (a>3)))) (by simp only[b2,b4,b6,BL]) ?_
 exact hk
end moraineref08_May

end Go.Proofs.YtibpklpgmgakcaaGreat
