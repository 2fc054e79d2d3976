/- Printed: what each function asks, and that it is sound. -/
import Derived.Test.YtibpklpgmgakcaaGreatFnsC
set_option linter.unusedSimpArgs false
set_option linter.unusedVariables false
set_option maxRecDepth 100000
set_option maxHeartbeats 1000000
noncomputable section
namespace Go.Proofs.YtibpklpgmgakcaaGreat
open Go
/-! (*moraine/seg.Mem).Taken -/
namespace seg_Mem_Taken
def K0:=Func.code Tryz.f25
def K2:=cb K0
def K4:=cb K2
def K12:=cb K4
def K13:=ca K12
def K16:=cb K13
def K17:=ca K16
def K18:=ca K17
end seg_Mem_Taken
def seg_Mem_Taken.pt(m e:Option Addr)(d f:Nat)(H:Array Obj)(R:Value->Array Obj->Prop):Prop:=
 ∀(b:Nat) (H1:Array Obj),b=H.size->H1=H.push (.cells #[.pointer m] 71)->
 ∃x:Option Addr,hat H1 (ad b)=some (.pointer x)/\
 onPtr x (
 R (.slice none 0 0) H1) (λxA=>
 ∃af:Option Addr,hat H1 (ad b)=some (.pointer af)/\
 ∃ae:Addr,af=some ae/\
 ∃(xB:Option Addr) (xN xC:Nat),hat H1 ae=some (.slice xB xN xC)/\
 ∃(s:(Option Addr)->Nat->Nat->Int->Array Obj->Prop) (m19:(Option Addr)->Nat->Nat->Int->Array Obj->Nat),s none 0 0 0 H1/\ ∀(lB:Option Addr) (lN:Nat) (lC:Nat) (s15:Int) (H2:Array Obj),s lB lN lC s15 H2->
 if s15< (xN:Int)then(
 ∃ag:Option Addr,hat H2 (ad b)=some (.pointer ag)/\
 ∃ac:Addr,ag=some ac/\
 ∃(r:Option Addr) (n o:Nat),hat H2 ac=some (.slice r n o)/\
 ∃j:Addr,r=some j/\
 ((0:Int)<=s15/\s15< (n:Int))/\
 ∃q:Int,hat H2 ((j.add (Int.toNat s15*72)).add 7)=some (.int .i64 q)/\
 if q>0 then(
 if(d:Int)=0 then(
 ∀(z:Nat) (H3:Array Obj),z=H2.size->H3=H2.push (.cells #[.int .i64 s15] 3)->
 appendK 1 3 8 [.int .i64 0] lB lN lC (some (ad z)) 1 H3 (λap y H4=>
 (s ap (lN+1) y (IntKind.wrap .i64 (s15+1)) H4/\m19 ap (lN+1) y (IntKind.wrap .i64 (s15+1)) H4<m19 lB lN lC s15 H2)))
 else
 ∃ab:Int,hat H2 (j.add (Int.toNat s15*72))=some (.int .i64 ab)/\
 slices_Contains_int_int.C e d f ab H2 (λv H5=> ∃u:Bool,v=.bool u/\
 if u=true then(
 ∀(aa:Nat) (H6:Array Obj),aa=H5.size->H6=H5.push (.cells #[.int .i64 s15] 3)->
 appendK 1 3 8 [.int .i64 0] lB lN lC (some (ad aa)) 1 H6 (λp l H7=>
 (s p (lN+1) l (IntKind.wrap .i64 (s15+1)) H7/\m19 p (lN+1) l (IntKind.wrap .i64 (s15+1)) H7<m19 lB lN lC s15 H2)))
 else
 (s lB lN lC (IntKind.wrap .i64 (s15+1)) H5/\m19 lB lN lC (IntKind.wrap .i64 (s15+1)) H5<m19 lB lN lC s15 H2)))
 else
 (s lB lN lC (IntKind.wrap .i64 (s15+1)) H2/\m19 lB lN lC (IntKind.wrap .i64 (s15+1)) H2<m19 lB lN lC s15 H2))
 else
 slices_SortFunc_int_int.C lB lN lC (.func (.func 103) #[] #[.pointer (some (ad b))]) H2 (λ_ H8=>
 R (.slice lB lN lC) H8))
namespace seg_Mem_Taken
theorem link{m e:Option Addr}{d f:Nat}{H:Array Obj}{R:Value->Array Obj->Prop}(h:pt m e d f H R):C m e d f H R:=by
 refine T_en K0 52 Tryz.func25 ?_
 intro w0 Q hQ
 unfold pt at h
 refine T_su [(0,vp m),(1,vs e d f)]<| T_srz 0<| T_nw (some 2) (λb=>vp (pa b)) (.cells #[vp m] 71) ?_
 intro b H1 e1 e2
 replace h:=h b H1 e1 e2
 refine T_pd [0] [(2,vp (pa b))]<| T_ed 1 [] []<| T_sz<| T_srz 1 ?_
 obtain⟨x,q3,h⟩:=h
 refine T_l1 8 71 q3 [] ?_
 rcases x with _ | xA
 ·rw[onPtr_none]at h
  exact T_ed 1 [8] [(9,.bool true)]<| T_tz 9<| T_srz 2<| T_nr 1 [4] [vs none 0 0] hQ h
 rw[onPtr_some]at h
 refine T_ed 1 [8] [(9,.bool false)]<| T_fz 9<| T_kt<| T_srz 3<| T_ed 1 [9] [(5,vs none 0 0)]<| T_sz<| T_srz 4 ?_
 obtain⟨af,q4,h⟩:=h
 refine T_l1 10 71 q4 [] ?_
 obtain⟨ae,rfl,h⟩:=h
 refine T_nd 2 [10] [(12,vp (some ae))] ?_
 obtain⟨xB,xN,xC,q5,h⟩:=h
 refine T_l1 13 165 q5 [12]<| T_ed 2 [13] [(14,vi xN),(15,vi 0)]<| T_bz 0 ?_
 obtain⟨s,m19,i6,i7⟩:=h
 refine S_loop (x:=K18) (σ:=(Option Addr)×Nat×Nat×Int) (λs_=> [(1,vs e d f),(2,vp (pa b)),(5,vs s_.1 s_.2.1 s_.2.2.1),(14,vi xN),(15,vi s_.2.2.2)]) (λs_ H=>s s_.1 s_.2.1 s_.2.2.1 s_.2.2.2 H) (λs_ H=>m19 s_.1 s_.2.1 s_.2.2.1 s_.2.2.2 H) ((none,0,0,0):(Option Addr)×Nat×Nat×Int) (by kernel_rfl) i6 sk ?_
 rintro⟨lB,lN,lC,s15⟩ H2 i8
 have h:=i7 lB lN lC s15 H2 i8
 refine T_su [(1,vs e d f),(2,vp (pa b)),(5,vs lB lN lC),(14,vi xN),(15,vi s15)]<| T_srz 5<| T_ed 1 [] [(16,.bool (decide (s15< (xN:Int))))]<| T_sz ?_
 by_cases c9:s15< (xN:Int)
 ·rw[if_pos c9]at h
  refine T_cTz 16 (decide_eq_true c9)<| T_kt<| T_sz<| T_bz 1<| T_srz 6<| T_ed 2 [16] [(6,vi s15)]<| T_srz 7 ?_
  obtain⟨ag,q11,h⟩:=h
  refine T_l1 18 71 q11 [] ?_
  obtain⟨ac,rfl,h⟩:=h
  refine T_nd 2 [18] [(20,vp (some ac))] ?_
  obtain⟨r,n,o,q12,h⟩:=h
  refine T_l1 21 165 q12 [20]<| T_nd 1 [] [(22,vi s15)] ?_
  obtain⟨j,rfl,h⟩:=h
  obtain⟨q13,h⟩:=h
  refine T_xd (some 23) 165 171 72 j n o .i64 s15 Tryz.underlying165 q13.1 q13.2 [21,22] [(23,vp (some (j.add (Int.toNat s15*72))))]<| T_ed 1 [23] [(7,vp (some (j.add (Int.toNat s15*72))))]<| T_srz 8<| T_nd 3 [] [(26,vp (some ((j.add (Int.toNat s15*72)).add 7)))] ?_
  obtain⟨q,q14,h⟩:=h
  refine T_l1 27 3 q14 [26]<| T_nd 2 [27] [(29,.bool (decide (q>0)))] ?_
  by_cases c15:q>0
  ·rw[if_pos c15]at h
   refine N_bd 29 (decide_eq_true c15)<| T_nd 4 [] [(33,.bool ((d:Int)==0))] ?_
   by_cases c17:(d:Int)=0
   ·rw[if_pos c17]at h
    refine N_bd 33 (beq_iff_eq.mpr c17)<| T_ed 9 [7,29,33] [(42,.bool true)]<| T_tz 42<| T_rz 9<| T_nd 2 [5,6,42] [(43,vs lB lN lC),(44,vi s15)]<| T_nw (some 45) (λb=>vs (pa b) 1 1) (.cells #[vi s15] 3) ?_
    intro z H3 e19 e20
    replace h:=h z H3 e19 e20
    refine T_pd [44] [(45,vs (pa z) 1 1)] ?_
    refine N_op (some 46) (appendN #[62,62] 62 #[vs lB lN lC,vs (pa z) 1 1]) _ (λ_=>by kernel_rfl) (ss_append (T:=3) (sz:=1) (bytes:=8) (zero:=(vi 0:Value)) Tryz.underlying62 Tryz.underlying62 rfl (show Tryz.prog.info? 3=some Tryz.t3 from by kernel_rfl) (by kernel_rfl) (by kernel_rfl) (by decide) (by kernel_rfl) (by first | exact h | (simpa only[Value.cells,List.toList_toArray]using h))) ?_;clear h
    rintro _ H4 ⟨ap,y,rfl,h⟩
    refine T_pd [43,45] [(46,vs ap (lN+1) y)]<| T_nd 1 [46] [(5,vs ap (lN+1) y)] ?_
    refine N_end (by kernel_rfl) ?_
    refine S_blockEnd ?_
    refine S_then ?_
    refine T_rz 10<| T_ed 2 [15] [(15,vi (IntKind.wrap .i64 (s15+1)))] ?_
    exact S_round ((ap,(lN+1),y,(IntKind.wrap .i64 (s15+1))):(Option Addr)×Nat×Nat×Int) sk h
   rw[if_neg c17]at h
   refine N_bd 33 (beq_eq_false_iff_ne.mpr c17)<| T_nd 5 [7] [(34,vs e d f),(38,vp (some (j.add (Int.toNat s15*72))))] ?_
   obtain⟨ab,q21,h⟩:=h
   refine T_l1 39 3 q21 [38] ?_
   refine T_c (some 40) h ?_;clear h
   rintro v H5 ⟨u,rfl,h⟩
   refine T_pd [34,39] [(40,.bool u)]<| T_ed 2 [29,33,40] [(42,.bool u)] ?_
   by_cases c22:u=true
   ·rw[if_pos c22]at h
    refine T_cTz 42 c22<| T_rz 9<| T_nd 2 [5,6,42] [(43,vs lB lN lC),(44,vi s15)]<| T_nw (some 45) (λb=>vs (pa b) 1 1) (.cells #[vi s15] 3) ?_
    intro aa H6 e24 e25
    replace h:=h aa H6 e24 e25
    refine T_pd [44] [(45,vs (pa aa) 1 1)] ?_
    refine N_op (some 46) (appendN #[62,62] 62 #[vs lB lN lC,vs (pa aa) 1 1]) _ (λ_=>by kernel_rfl) (ss_append (T:=3) (sz:=1) (bytes:=8) (zero:=(vi 0:Value)) Tryz.underlying62 Tryz.underlying62 rfl (show Tryz.prog.info? 3=some Tryz.t3 from by kernel_rfl) (by kernel_rfl) (by kernel_rfl) (by decide) (by kernel_rfl) (by first | exact h | (simpa only[Value.cells,List.toList_toArray]using h))) ?_;clear h
    rintro _ H7 ⟨p,l,rfl,h⟩
    refine T_pd [43,45] [(46,vs p (lN+1) l)]<| T_nd 1 [46] [(5,vs p (lN+1) l)] ?_
    refine N_end (by kernel_rfl) ?_
    refine S_blockEnd ?_
    refine S_then ?_
    refine T_rz 10<| T_ed 2 [15] [(15,vi (IntKind.wrap .i64 (s15+1)))] ?_
    exact S_round ((p,(lN+1),l,(IntKind.wrap .i64 (s15+1))):(Option Addr)×Nat×Nat×Int) sk h
   rw[if_neg c22]at h
   refine T_cFz 42 (eq_false_of_ne_true c22)<| T_k ?_
   refine S_blockEnd ?_
   refine S_then ?_
   refine T_rz 10<| T_ed 2 [6,15,42] [(15,vi (IntKind.wrap .i64 (s15+1)))] ?_
   exact S_round ((lB,lN,lC,(IntKind.wrap .i64 (s15+1))):(Option Addr)×Nat×Nat×Int) sk h
  rw[if_neg c15]at h
  refine N_bd 29 (decide_eq_false c15)<| T_ed 13 [7,29] [(42,.bool false)]<| T_fz 42<| T_k ?_
  refine S_blockEnd ?_
  refine S_then ?_
  refine T_rz 10<| T_ed 2 [6,15,42] [(15,vi (IntKind.wrap .i64 (s15+1)))] ?_
  exact S_round ((lB,lN,lC,(IntKind.wrap .i64 (s15+1))):(Option Addr)×Nat×Nat×Int) sk h
 rw[if_neg c9]at h
 refine T_cFz 16 (decide_eq_false c9) ?_
 refine S_exit 0 (by kernel_rfl) ?_
 refine S_exitThen ?_
 refine S_exitThen ?_
 refine S_exitHere ?_
 refine S_then ?_
 refine T_srz 11<| T_n 2 [(5,vs lB lN lC),(48,vs lB lN lC),(49,.func (.func 103) #[] #[vp (pa b)])] ?_
 refine T_c (some 50) h ?_;clear h
 intro v_2 H8 h
 exact T_pd [48,49] []<| T_e<| T_srz 12<| T_nr 2 [4] [vs lB lN lC] hQ h
end seg_Mem_Taken

/-! (*moraine/seg.Mem).Free -/
namespace seg_Mem_Free
def K0:=Func.code Tryz.f28
end seg_Mem_Free
def seg_Mem_Free.pt(m:Option Addr)(H:Array Obj)(R:Value->Array Obj->Prop):Prop:=
 onPtr m (
 R (.int .i64 0) H) (λmA=>
 ∃x:Int,hat H (mA.add 2)=some (.int .i64 x)/\
 R (.int .i64 x) H)
namespace seg_Mem_Free
theorem link{m:Option Addr}{H:Array Obj}{R:Value->Array Obj->Prop}(h:pt m H R):C m H R:=by
 refine T_en K0 9 Tryz.func28 ?_
 intro w0 Q hQ
 unfold pt at h
 refine T_su [(0,vp m)]<| T_srz 0<| T_ed 1 [] []<| T_sz<| T_srz 1<| T_nd 1 [] [(3,vp m)] ?_
 rcases m with _ | mA
 ·rw[onPtr_none]at h
  exact T_ne 1 [(0,vp none),(4,.bool true)]<| T_tz 4<| T_srz 2<| T_nr 1 [2] [vi 0] hQ h
 rw[onPtr_some]at h
 refine T_ne 1 [(0,vp (some mA)),(4,.bool false)]<| T_fz 4<| T_kt<| T_srz 3<| T_n 3 [(7,vp (some (mA.add 2)))] ?_
 obtain⟨x,q1,h⟩:=h
 exact T_l1 8 3 q1 [7]<| T_nr 1 [2] [vi x] hQ h
end seg_Mem_Free

/-! (*moraine/seg.Mem).Taken.1 -/
namespace seg_Mem_Taken_1
def K0:=Func.code Tryz.f103
def K2:=cb K0
def K3:=ca K2
end seg_Mem_Taken_1
def seg_Mem_Taken_1.pt(a b:Int)(p:Option Addr)(H:Array Obj)(R:Value->Array Obj->Prop):Prop:=
 ∃d:Addr,p=some d/\
 ∃x:Option Addr,hat H d=some (.pointer x)/\
 ∃xA:Addr,x=some xA/\
 ∃(xB:Option Addr) (xN xC:Nat),hat H xA=some (.slice xB xN xC)/\
 ∃f:Addr,xB=some f/\
 ((0:Int)<=a/\a< (xN:Int))/\
 ∃j:Int,hat H ((f.add (Int.toNat a*72)).add 7)=some (.int .i64 j)/\
 ∃s:Option Addr,hat H d=some (.pointer s)/\
 ∃l:Addr,s=some l/\
 ∃(r:Option Addr) (m n:Nat),hat H l=some (.slice r m n)/\
 ∃e:Addr,r=some e/\
 ((0:Int)<=b/\b< (m:Int))/\
 ∃q:Int,hat H ((e.add (Int.toNat b*72)).add 7)=some (.int .i64 q)/\
 cmp_Compare_int.C j q H (λv H1=> ∃o:Int,v=.int .i64 o/\
 R (.int .i64 o) H1)
namespace seg_Mem_Taken_1
theorem link{a b:Int}{p:Option Addr}{H:Array Obj}{R:Value->Array Obj->Prop}(h:pt a b p H R):C a b p H R:=by
 refine T_en K0 23 Tryz.func103 ?_
 intro w0 Q hQ
 unfold pt at h
 refine T_su [(0,vi a),(1,vi b),(2,vp p)]<| T_srz 0<| T_ed 1 [] []<| T_sz ?_
 obtain⟨d,rfl,h⟩:=h
 obtain⟨x,q1,h⟩:=h
 obtain⟨xA,rfl,h⟩:=h
 obtain⟨xB,xN,xC,q2,h⟩:=h
 obtain⟨f,rfl,h⟩:=h
 obtain⟨q3,h⟩:=h
 obtain⟨j,q4,h⟩:=h
 obtain⟨s,q5,h⟩:=h
 obtain⟨l,rfl,h⟩:=h
 obtain⟨r,m,n,q6,h⟩:=h
 obtain⟨e,rfl,h⟩:=h
 obtain⟨q7,h⟩:=h
 obtain⟨q,q8,h⟩:=h
 refine S_regionG 1 (Code.ops K3) [(16,d,[vp (some xA)]),(16,xA,[vs (some f) xN xC]),(16,((f.add (Int.toNat a*72)).add 7),[vi j]),(16,d,[vp (some l)]),(16,l,[vs (some e) m n]),(16,((e.add (Int.toNat b*72)).add 7),[vi q])] 18 (bv 18 0) (by kernel_rfl) (by kernel_rfl) (by kernel_rfl) (by kernel_rfl) (by kernel_rfl) (show FactsAt _ _ _ from⟨⟨q1,trivial⟩,⟨q2,trivial⟩,⟨q4,trivial⟩,⟨q5,trivial⟩,⟨q6,trivial⟩,⟨q8,trivial⟩,trivial⟩) ?_
 refine T_g 0 (some 6) (vp (some xA)) (bv 18 1) [(0,vi a),(1,vi b),(2,vp (some d)),(6,vp (some xA))] (loadN 71 (vp (some d))) (held_one 16 (λ_=>by kernel_rfl) (List.Mem.head _) (.inl (by kernel_rfl)))<| T_gp1 1 7 (vp (some xA)) (bv 18 3) [6]<| T_gp1 2 8 (vp (some xA)) (bv 18 7) [7]<| T_g1 3 9 (vs (some f) xN xC) (bv 18 15) [8] (loadN 165 (vp (some xA))) (held_one 16 (λ_=>by kernel_rfl) (List.Mem.tail _ (List.Mem.head _)) (.inl (by kernel_rfl)))<| T_gp1 4 10 (vi a) (bv 18 31) [0]<| T_g1 5 11 (vp (some (f.add (Int.toNat a*72)))) (bv 18 63) [9,10] (indexAtN 165 (vs (some f) xN xC) (vi a)) (λ_ w _ _ _=>indexAt_run (P:=Tryz.prog) (t:=165) (elem:=171) (sz:=72) (a:=f) (len:=xN) (cap:=xC) (k:=.i64) (i:=a) Tryz.underlying165 (λ_=>by kernel_rfl) q3.1 q3.2 w)<| T_gp1 6 12 (vp (some ((f.add (Int.toNat a*72)).add 7))) (bv 18 127) [11]<| T_g1 7 13 (vi j) (bv 18 255) [12] (loadN 3 (vp (some ((f.add (Int.toNat a*72)).add 7)))) (held_one 16 (λ_=>by kernel_rfl) (List.Mem.tail _ (List.Mem.tail _ (List.Mem.head _))) (.inl (by kernel_rfl)))<| T_g1 8 14 (vp (some l)) (bv 18 511) [2] (loadN 71 (vp (some d))) (held_one 16 (λ_=>by kernel_rfl) (List.Mem.tail _ (List.Mem.tail _ (List.Mem.tail _ (List.Mem.head _)))) (.inl (by kernel_rfl))) ?_
 refine T_gp1 9 15 (vp (some l)) (bv 18 1023) [14]<| T_gp1 10 16 (vp (some l)) (bv 18 2047) [15]<| T_g1 11 17 (vs (some e) m n) (bv 18 4095) [16] (loadN 165 (vp (some l))) (held_one 16 (λ_=>by kernel_rfl) (List.Mem.tail _ (List.Mem.tail _ (List.Mem.tail _ (List.Mem.tail _ (List.Mem.head _))))) (.inl (by kernel_rfl)))<| T_gp1 12 18 (vi b) (bv 18 8191) [1]<| T_g1 13 19 (vp (some (e.add (Int.toNat b*72)))) (bv 18 16383) [17,18] (indexAtN 165 (vs (some e) m n) (vi b)) (λ_ w _ _ _=>indexAt_run (P:=Tryz.prog) (t:=165) (elem:=171) (sz:=72) (a:=e) (len:=m) (cap:=n) (k:=.i64) (i:=b) Tryz.underlying165 (λ_=>by kernel_rfl) q7.1 q7.2 w)<| T_gp1 14 20 (vp (some ((e.add (Int.toNat b*72)).add 7))) (bv 18 32767) [19]<| T_g1 15 21 (vi q) (bv 18 65535) [20] (loadN 3 (vp (some ((e.add (Int.toNat b*72)).add 7)))) (held_one 16 (λ_=>by kernel_rfl) (List.Mem.tail _ (List.Mem.tail _ (List.Mem.tail _ (List.Mem.tail _ (List.Mem.tail _ (List.Mem.head _)))))) (.inl (by kernel_rfl))) ?_
 refine G_call 16 (some 22) (bv 18 131071) 104 #[vi j,vi q] (by kernel_rfl) (λ_=>by kernel_rfl) h (by kernel_rfl) ?_;clear h
 rintro v H1 ⟨o,rfl,h⟩
 refine⟨[(22,vi o)],pk,(show FactsAt _ _ _ from⟨trivial,trivial,trivial,trivial,trivial,trivial,trivial⟩),?_⟩
 refine T_g 17 (some 5) (vi o) (bv 18 262143) [(5,vi o)] (pure (.value (vi o)):Sem Next) (λ_ _ _ _ _=>rfl) ?_
 refine G_sub [(5,vi o)] sk ?_
 refine G_end (by kernel_rfl) ?_
 refine S_then ?_
 exact T_ret [5] [vi o] hQ h
end seg_Mem_Taken_1

end Go.Proofs.YtibpklpgmgakcaaGreat
