/- Printed: what each function asks, and that it is sound. -/
import Derived.Test.YtibpklpgmgakcaaGreatFnsC
set_option linter.unusedSimpArgs false
set_option linter.unusedVariables false
set_option maxRecDepth 100000
set_option maxHeartbeats 1000000
noncomputable section
namespace Go.Proofs.YtibpklpgmgakcaaGreat
open Go
/-! (*moraine/moraineref07.Mem).Taken -/
namespace moraineref07_Mem_Taken
def K0:=Func.code Tryz.f26
def K2:=cb K0
def K4:=cb K2
def K5:=ca K4
def K8:=cb K5
def K9:=ca K8
def K10:=ca K9
def K12:=cb K10
def K17:=ca K12
def K19:=ca K17
def K21:=cb K19
def K22:=ca K21
def K25:=cb K22
def K26:=ca K25
def K27:=ca K26
end moraineref07_Mem_Taken
def moraineref07_Mem_Taken.pt(m f:Option Addr)(d e:Nat)(H:Array Obj)(R:Value->Array Obj->Prop):Prop:=
 ∃(ac:(Option Addr)->Nat->Nat->Int->Array Obj->Prop) (m11:(Option Addr)->Nat->Nat->Int->Array Obj->Nat),ac none 0 0 0 H/\ ∀(lB:Option Addr) (lN:Nat) (lC:Nat) (i:Int) (H1:Array Obj),ac lB lN lC i H1->
 ∃mA:Addr,m=some mA/\
 ∃(xB:Option Addr) (xN xC:Nat),hat H1 (mA.add 1)=some (.slice xB xN xC)/\
 if i< (xN:Int)then(
 ∃(aa:Bool->Int->Array Obj->Prop) (m28:Bool->Int->Array Obj->Nat),aa ((d:Int)==0) 0 H1/\ ∀(l:Bool) (k:Int) (H2:Array Obj),aa l k H2->
 if k< (d:Int)then(
 if l=true then(
 (aa true (IntKind.wrap .i64 (k+1)) H2/\m28 true (IntKind.wrap .i64 (k+1)) H2<m28 l k H2))
 else
 ∃j:Addr,f=some j/\
 ((0:Int)<=k/\k< (d:Int))/\
 ∃x:Int,hat H2 (j.add (Int.toNat k*1))=some (.int .i64 x)/\
 ∃(v:Option Addr) (r s:Nat),hat H2 (mA.add 1)=some (.slice v r s)/\
 ∃n:Addr,v=some n/\
 ((0:Int)<=i/\i< (r:Int))/\
 ∃o:Int,hat H2 ((n.add (Int.toNat i*9)).add 1)=some (.int .i64 o)/\
 (aa (x==o) (IntKind.wrap .i64 (k+1)) H2/\m28 (x==o) (IntKind.wrap .i64 (k+1)) H2<m28 l k H2))
 else
 if l=true then(
 ∃(y:Option Addr) (q u:Nat),hat H2 (mA.add 1)=some (.slice y q u)/\
 ∃p:Addr,y=some p/\
 ((0:Int)<=i/\i< (q:Int))/\
 ∃ab:Int,hat H2 (p.add (Int.toNat i*9))=some (.int .i64 ab)/\
 ∀(b:Nat) (H3:Array Obj),b=H2.size->H3=H2.push (.cells #[.int .i64 ab] 3)->
 appendK 1 3 8 [.int .i64 0] lB lN lC (some (ad b)) 1 H3 (λap z H4=>
 (ac ap (lN+1) z (IntKind.wrap .i64 (i+1)) H4/\m11 ap (lN+1) z (IntKind.wrap .i64 (i+1)) H4<m11 lB lN lC i H1)))
 else
 (ac lB lN lC (IntKind.wrap .i64 (i+1)) H2/\m11 lB lN lC (IntKind.wrap .i64 (i+1)) H2<m11 lB lN lC i H1))
 else
 R (.slice lB lN lC) H1
namespace moraineref07_Mem_Taken
theorem link{m f:Option Addr}{d e:Nat}{H:Array Obj}{R:Value->Array Obj->Prop}(h:pt m f d e H R):C m f d e H R:=by
 refine T_en K0 57 Tryz.func26 ?_
 intro w0 Q hQ
 unfold pt at h
 refine T_su [(0,vp m),(1,vs f d e)]<| T_srz 0<| T_ed 1 [] []<| T_srz 1<| T_ed 1 [] [(5,vs none 0 0)]<| T_sz<| T_srz 2<| T_ed 1 [] [(6,vi 0)]<| T_bz 0 ?_
 obtain⟨ac,m11,i1,i2⟩:=h
 refine S_loop (x:=K10) (σ:=(Option Addr)×Nat×Nat×Int) (λs_=> [(0,vp m),(1,vs f d e),(5,vs s_.1 s_.2.1 s_.2.2.1),(6,vi s_.2.2.2)]) (λs_ H=>ac s_.1 s_.2.1 s_.2.2.1 s_.2.2.2 H) (λs_ H=>m11 s_.1 s_.2.1 s_.2.2.1 s_.2.2.2 H) ((none,0,0,0):(Option Addr)×Nat×Nat×Int) (by kernel_rfl) i1 sk ?_
 rintro⟨lB,lN,lC,i⟩ H1 i3
 have h:=i2 lB lN lC i H1 i3
 refine T_su [(0,vp m),(1,vs f d e),(5,vs lB lN lC),(6,vi i)]<| T_sz<| T_srz 3<| T_nd 2 [] [(9,vi i),(10,vp m)] ?_
 obtain⟨mA,rfl,h⟩:=h
 refine T_nd 2 [0,10] [(0,vp (some mA)),(12,vp (some (mA.add 1)))] ?_
 obtain⟨xB,xN,xC,q4,h⟩:=h
 refine T_l1 13 88 q4 [12]<| T_ed 2 [9,13] [(15,.bool (decide (i< (xN:Int))))] ?_
 by_cases c5:i< (xN:Int)
 ·rw[if_pos c5]at h
  refine T_cTz 15 (decide_eq_true c5)<| T_kt<| T_sz<| T_bz 1<| T_srz 5<| T_ed 4 [15] [(7,.bool ((d:Int)==0))]<| T_sz<| T_srz 6<| T_ed 1 [] [(8,vi 0)] ?_
  refine T_bz 2 ?_
  obtain⟨aa,m28,i7,i8⟩:=h
  refine S_loop (x:=K27) (σ:=Bool×Int) (λs_=> [(0,vp (some mA)),(1,vs f d e),(5,vs lB lN lC),(6,vi i),(7,.bool s_.1),(8,vi s_.2)]) (λs_ H=>aa s_.1 s_.2 H) (λs_ H=>m28 s_.1 s_.2 H) ((((d:Int)==0),0):Bool×Int) (by kernel_rfl) i7 sk ?_
  rintro⟨l,k⟩ H2 i9
  have h:=i8 l k H2 i9
  refine T_su [(0,vp (some mA)),(1,vs f d e),(5,vs lB lN lC),(6,vi i),(7,.bool l),(8,vi k)]<| T_sz<| T_srz 7<| T_ed 4 [] [(24,.bool (decide (k< (d:Int))))] ?_
  by_cases c10:k< (d:Int)
  ·rw[if_pos c10]at h
   refine T_cTz 24 (decide_eq_true c10)<| T_kt<| T_sz<| T_bz 3<| T_rqz 9<| T_q1 27 (.bool l) [7,24]<| T_q1 28 (.bool l) [27] ?_
   by_cases c12:l=true
   ·rw[if_pos c12]at h
    refine Q_bd 28 c12<| T_q1 29 (undef) []<| T_q1 30 (undef) []<| T_q1 31 (undef) [29,30]<| T_q1 32 (undef) [31]<| T_q1 33 (undef) []<| T_q1 34 (undef) [33]<| T_q1 35 (undef) [34]<| T_q1 36 (undef) [35] ?_
    refine T_q1 37 (undef) []<| T_q1 38 (undef) [36,37]<| T_q1 39 (undef) [38]<| T_q1 40 (undef) [39]<| T_q1 41 (undef) [40]<| T_q1 42 (undef) [32,41]<| T_q1 43 (.bool true) [28,42]<| T_q1 7 (.bool true) [43] ?_
    refine Q_sub [(0,vp (some mA)),(1,vs f d e),(5,vs lB lN lC),(6,vi i),(7,.bool true),(8,vi k)] sk ?_
    refine Q_end (by kernel_rfl) ?_
    refine S_blockEnd ?_
    refine S_then ?_
    refine T_rz 8<| T_ne 3 [(0,vp (some mA)),(1,vs f d e),(5,vs lB lN lC),(6,vi i),(7,.bool true),(8,vi (IntKind.wrap .i64 (k+1)))] ?_
    exact S_round ((true,(IntKind.wrap .i64 (k+1))):Bool×Int) sk h
   rw[if_neg c12]at h
   refine Q_bd 28 (eq_false_of_ne_true c12)<| T_q1 29 (vs f d e) []<| T_q1 30 (vi k) [] ?_
   obtain⟨j,rfl,h⟩:=h
   obtain⟨q14,h⟩:=h
   refine Q_op (some 31) (indexAtN 62 (vs (some j) d e) (vi k)) (vp (some (j.add (Int.toNat k*1)))) (λ_=>by kernel_rfl) (λw _=>indexAt_run (P:=Tryz.prog) (t:=62) (elem:=3) (sz:=1) (a:=j) (len:=d) (cap:=e) (k:=.i64) (i:=k) Tryz.underlying62 (λ_=>by kernel_rfl) q14.1 q14.2 w) [(0,vp (some mA)),(1,vs (some j) d e),(5,vs lB lN lC),(6,vi i),(8,vi k),(28,.bool false),(31,vp (some (j.add (Int.toNat k*1))))] pk ?_
   obtain⟨x,q15,h⟩:=h
   refine T_ql (some 32) 3 q15 [(0,vp (some mA)),(1,vs (some j) d e),(5,vs lB lN lC),(6,vi i),(8,vi k),(28,.bool false),(32,vi x)]<| T_q1 33 (vp (some mA)) []<| T_q1 34 (vp (some mA)) [33]<| T_q1 35 (vp (some (mA.add 1))) [34] ?_
   obtain⟨v,r,s,q16,h⟩:=h
   refine T_qld (some 36) 88 q16 [35] [(36,vs v r s)]<| T_q1 37 (vi i) [] ?_
   obtain⟨n,rfl,h⟩:=h
   obtain⟨q17,h⟩:=h
   refine Q_op (some 38) (indexAtN 88 (vs (some n) r s) (vi i)) (vp (some (n.add (Int.toNat i*9)))) (λ_=>by kernel_rfl) (λw _=>indexAt_run (P:=Tryz.prog) (t:=88) (elem:=96) (sz:=9) (a:=n) (len:=r) (cap:=s) (k:=.i64) (i:=i) Tryz.underlying88 (λ_=>by kernel_rfl) q17.1 q17.2 w) [(0,vp (some mA)),(1,vs (some j) d e),(5,vs lB lN lC),(6,vi i),(8,vi k),(28,.bool false),(32,vi x),(38,vp (some (n.add (Int.toNat i*9))))] pk ?_
   refine T_q (some 39) (vp (some ((n.add (Int.toNat i*9)).add 1))) [(0,vp (some mA)),(1,vs (some j) d e),(5,vs lB lN lC),(6,vi i),(8,vi k),(28,.bool false),(32,vi x),(39,vp (some ((n.add (Int.toNat i*9)).add 1)))]<| T_q1 40 (vp (some ((n.add (Int.toNat i*9)).add 1))) [39] ?_
   obtain⟨o,q18,h⟩:=h
   refine T_qld (some 41) 3 q18 [40] [(41,vi o)]<| T_q1 42 (.bool (x==o)) [32,41]<| T_q1 43 (.bool (x==o)) [28,42]<| T_q1 7 (.bool (x==o)) [43] ?_
   refine Q_sub [(0,vp (some mA)),(1,vs (some j) d e),(5,vs lB lN lC),(6,vi i),(7,.bool (x==o)),(8,vi k)] sk ?_
   refine Q_end (by kernel_rfl) ?_
   refine S_blockEnd ?_
   refine S_then ?_
   refine T_rz 8<| T_ne 3 [(0,vp (some mA)),(1,vs (some j) d e),(5,vs lB lN lC),(6,vi i),(7,.bool (x==o)),(8,vi (IntKind.wrap .i64 (k+1)))] ?_
   exact S_round (((x==o),(IntKind.wrap .i64 (k+1))):Bool×Int) sk h
  rw[if_neg c10]at h
  refine T_cFz 24 (decide_eq_false c10) ?_
  refine S_exit 2 (by kernel_rfl) ?_
  refine S_exitThen ?_
  refine S_exitThen ?_
  refine S_exitHere ?_
  refine S_then ?_
  refine T_srz 10<| T_ed 1 [7,8,24] [(44,.bool l)] ?_
  by_cases c19:l=true
  ·rw[if_pos c19]at h
   refine T_cTz 44 c19<| T_rz 11<| T_nd 4 [5,44] [(45,vs lB lN lC),(48,vp (some (mA.add 1)))] ?_
   obtain⟨y,q,u,q21,h⟩:=h
   refine T_l1 49 88 q21 [48]<| T_nd 1 [] [(50,vi i)] ?_
   obtain⟨p,rfl,h⟩:=h
   obtain⟨q22,h⟩:=h
   refine T_xd (some 51) 88 96 9 p q u .i64 i Tryz.underlying88 q22.1 q22.2 [49,50] [(51,vp (some (p.add (Int.toNat i*9))))]<| T_nd 1 [51] [(52,vp (some (p.add (Int.toNat i*9))))] ?_
   obtain⟨ab,q23,h⟩:=h
   refine T_l1 53 3 q23 [52]<| T_nw (some 54) (λb=>vs (pa b) 1 1) (.cells #[vi ab] 3) ?_
   intro b H3 e24 e25
   replace h:=h b H3 e24 e25
   refine T_pd [53] [(54,vs (pa b) 1 1)] ?_
   refine N_op (some 55) (appendN #[62,62] 62 #[vs lB lN lC,vs (pa b) 1 1]) _ (λ_=>by kernel_rfl) (ss_append (T:=3) (sz:=1) (bytes:=8) (zero:=(vi 0:Value)) Tryz.underlying62 Tryz.underlying62 rfl (show Tryz.prog.info? 3=some Tryz.t3 from by kernel_rfl) (by kernel_rfl) (by kernel_rfl) (by decide) (by kernel_rfl) (by first | exact h | (simpa only[Value.cells,List.toList_toArray]using h))) ?_;clear h
   rintro _ H4 ⟨ap,z,rfl,h⟩
   refine T_pd [45,54] [(55,vs ap (lN+1) z)]<| T_nd 1 [55] [(5,vs ap (lN+1) z)] ?_
   refine N_end (by kernel_rfl) ?_
   refine S_blockEnd ?_
   refine S_then ?_
   refine T_rz 4<| T_ed 3 [6] [(6,vi (IntKind.wrap .i64 (i+1)))] ?_
   exact S_round ((ap,(lN+1),z,(IntKind.wrap .i64 (i+1))):(Option Addr)×Nat×Nat×Int) sk h
  rw[if_neg c19]at h
  refine T_cFz 44 (eq_false_of_ne_true c19)<| T_k ?_
  refine S_blockEnd ?_
  refine S_then ?_
  refine T_rz 4<| T_ed 3 [6,44] [(6,vi (IntKind.wrap .i64 (i+1)))] ?_
  exact S_round ((lB,lN,lC,(IntKind.wrap .i64 (i+1))):(Option Addr)×Nat×Nat×Int) sk h
 rw[if_neg c5]at h
 refine T_cFz 15 (decide_eq_false c5) ?_
 refine S_exit 0 (by kernel_rfl) ?_
 refine S_exitThen ?_
 refine S_exitThen ?_
 refine S_exitHere ?_
 refine S_then ?_
 exact T_srz 12<| T_nr 2 [4] [vs lB lN lC] hQ h
end moraineref07_Mem_Taken

/-! (*moraine/moraineref07.Mem).Read -/
namespace moraineref07_Mem_Read
def K0:=Func.code Tryz.f148
end moraineref07_Mem_Read
def moraineref07_Mem_Read.pt(m:Option Addr)(e:Int)(H:Array Obj)(R:Value->Array Obj->Prop):Prop:=
 moraineref07_Mem_Word.C m e H (λv H1=> ∃(ra rb:Int) (rc:Bool),v=.tuple #[.int .i64 ra,.int .i64 rb,.bool rc]/\
 if rc=true then(
 ∃mA:Addr,m=some mA/\
 ∃(xB:Option Addr) (xN xC:Nat),hat H1 (mA.add 1)=some (.slice xB xN xC)/\
 ∃j:Addr,xB=some j/\
 ((0:Int)<=ra/\ra< (xN:Int))/\
 ∃(l:Option Addr) (d f:Nat),hat H1 ((j.add (Int.toNat ra*9)).add 8)=some (.slice l d f)/\
 ∃b:Addr,l=some b/\
 ((0:Int)<=rb/\rb< (d:Int))/\
 ∃x:Int,hat H1 (b.add (Int.toNat rb*1))=some (.int .u64 x)/\
 R (.tuple #[.int .u64 x,.int .i64 0]) H1)
 else
 R (.tuple #[.int .u64 0,.int .i64 18]) H1)
namespace moraineref07_Mem_Read
theorem link{m:Option Addr}{e:Int}{H:Array Obj}{R:Value->Array Obj->Prop}(h:pt m e H R):C m e H R:=by
 refine T_en K0 29 Tryz.func148 ?_
 intro w0 Q hQ
 unfold pt at h
 refine T_su [(0,vp m),(1,vi e)]<| T_srz 0<| T_ed 2 [] []<| T_srz 1<| T_nd 2 [1] [(10,vp m),(11,vi e)] ?_
 refine T_c (some 12) h ?_;clear h
 rintro v H1 ⟨ra,rb,rc,rfl,h⟩
 refine⟨[(0,vp m),(12,.tuple #[vi ra,vi rb,.bool rc])],pk,?_⟩
 refine T_ed 7 [12] [(6,vi ra),(7,vi rb),(8,.bool rc)]<| T_sz<| T_srz 2<| T_ed 2 [8] [(17,.bool (!rc))] ?_
 by_cases c1:rc=true
 ·rw[if_pos c1]at h
  refine T_cFz 17 (congrArg Bool.not (c1))<| T_kt<| T_srz 4<| T_nd 1 [0,17] [(18,vp m)] ?_
  obtain⟨mA,rfl,h⟩:=h
  refine T_nd 2 [18] [(20,vp (some (mA.add 1)))] ?_
  obtain⟨xB,xN,xC,q3,h⟩:=h
  refine T_l1 21 88 q3 [20]<| T_nd 1 [6] [(22,vi ra)] ?_
  obtain⟨j,rfl,h⟩:=h
  obtain⟨q4,h⟩:=h
  refine T_xd (some 23) 88 96 9 j xN xC .i64 ra Tryz.underlying88 q4.1 q4.2 [21,22] [(23,vp (some (j.add (Int.toNat ra*9))))]<| T_nd 1 [23] [(24,vp (some ((j.add (Int.toNat ra*9)).add 8)))] ?_
  obtain⟨l,d,f,q5,h⟩:=h
  refine T_l1 25 31 q5 [24]<| T_nd 1 [7] [(26,vi rb)] ?_
  obtain⟨b,rfl,h⟩:=h
  obtain⟨q6,h⟩:=h
  refine T_ix (some 27) 31 35 1 b d f .i64 rb Tryz.underlying31 q6.1 q6.2 [(27,vp (some (b.add (Int.toNat rb*1))))] ?_
  obtain⟨x,q7,h⟩:=h
  exact T_l1 28 35 q7 [27]<| T_nr 2 [4,5] [vu x,vi 0] hQ h
 rw[if_neg c1]at h
 exact T_cTz 17 (congrArg Bool.not (eq_false_of_ne_true c1))<| T_srz 3<| T_nr 2 [4,5] [vu 0,vi 18] hQ h
end moraineref07_Mem_Read

/-! (*moraine/moraineref07.Mem).Word -/
namespace moraineref07_Mem_Word
def K0:=Func.code Tryz.f149
end moraineref07_Mem_Word
def moraineref07_Mem_Word.pt(m:Option Addr)(b:Int)(H:Array Obj)(R:Value->Array Obj->Prop):Prop:=
 if b<0 then(
 R (.tuple #[.int .i64 0,.int .i64 0,.bool false]) H)
 else
 moraineref07_Mem_Place.C m (IntKind.wrap .i64 (Int.tdiv b 64)) H (λv H1=> ∃x:Int,v=.int .i64 x/\
 if x<0 then(
 R (.tuple #[.int .i64 0,.int .i64 0,.bool false]) H1)
 else
 ∃mA:Addr,m=some mA/\
 ∃(xB:Option Addr) (xN xC:Nat),hat H1 (mA.add 1)=some (.slice xB xN xC)/\
 ∃e:Addr,xB=some e/\
 ((0:Int)<=x/\x< (xN:Int))/\
 ∃(f:Option Addr) (d j:Nat),hat H1 ((e.add (Int.toNat x*9)).add 8)=some (.slice f d j)/\
 if(Int.tmod b 64)>=(d:Int)then(
 R (.tuple #[.int .i64 0,.int .i64 0,.bool false]) H1)
 else
 R (.tuple #[.int .i64 x,.int .i64 (Int.tmod b 64),.bool true]) H1)
namespace moraineref07_Mem_Word
theorem link{m:Option Addr}{b:Int}{H:Array Obj}{R:Value->Array Obj->Prop}(h:pt m b H R):C m b H R:=by
 refine T_en K0 33 Tryz.func149 ?_
 intro w0 Q hQ
 unfold pt at h
 refine T_su [(0,vp m),(1,vi b)]<| T_srz 0<| T_ed 3 [] []<| T_sz<| T_srz 1<| T_ed 2 [] [(9,.bool (decide (b<0)))] ?_
 by_cases c1:b<0
 ·rw[if_pos c1]at h
  exact T_cTz 9 (decide_eq_true c1)<| T_srz 2<| T_nr 3 [4,5,6] [vi 0,vi 0,.bool false] hQ h
 rw[if_neg c1]at h
 refine T_cFz 9 (decide_eq_false c1)<| T_kt<| T_srz 3<| T_nd 3 [9] [(10,vp m),(12,vi (IntKind.wrap .i64 (Int.tdiv b 64)))] ?_
 refine T_c (some 13) h ?_;clear h
 rintro v H1 ⟨x,rfl,h⟩
 refine T_pd [10,12] [(13,vi x)]<| T_ed 1 [13] [(7,vi x)]<| T_sz<| T_srz 4<| T_nd 3 [] [(16,.bool (decide (x<0)))] ?_
 by_cases c3:x<0
 ·rw[if_pos c3]at h
  exact N_bd 16 (decide_eq_true c3)<| T_ed 13 [0,16] [(29,.bool true)]<| T_tz 29<| T_srz 5<| T_nr 3 [4,5,6] [vi 0,vi 0,.bool false] hQ h
 rw[if_neg c3]at h
 refine N_bd 16 (decide_eq_false c3)<| T_nd 3 [0] [(18,vi (Int.tmod b 64)),(19,vp m)] ?_
 obtain⟨mA,rfl,h⟩:=h
 refine T_nd 2 [19] [(21,vp (some (mA.add 1)))] ?_
 obtain⟨xB,xN,xC,q5,h⟩:=h
 refine T_l1 22 88 q5 [21]<| T_nd 1 [] [(23,vi x)] ?_
 obtain⟨e,rfl,h⟩:=h
 obtain⟨q6,h⟩:=h
 refine T_xd (some 24) 88 96 9 e xN xC .i64 x Tryz.underlying88 q6.1 q6.2 [22,23] [(24,vp (some (e.add (Int.toNat x*9))))]<| T_nd 1 [24] [(25,vp (some ((e.add (Int.toNat x*9)).add 8)))] ?_
 obtain⟨f,d,j,q7,h⟩:=h
 refine T_l1 26 31 q7 [25]<| T_ed 3 [16,18,26] [(29,.bool (decide ((Int.tmod b 64)>=(d:Int))))] ?_
 by_cases c8:(Int.tmod b 64)>=(d:Int)
 ·rw[if_pos c8]at h
  exact T_cTz 29 (decide_eq_true c8)<| T_srz 5<| T_nr 3 [4,5,6] [vi 0,vi 0,.bool false] hQ h
 rw[if_neg c8]at h
 exact T_cFz 29 (decide_eq_false c8)<| T_kt<| T_srz 6<| T_nr 6 [4,5,6] [vi x,vi (Int.tmod b 64),.bool true] hQ h
end moraineref07_Mem_Word

/-! moraine/moraineref07.New -/
namespace moraineref07_New
def K0:=Func.code Tryz.f162
end moraineref07_New
def moraineref07_New.pt(a:Int)(H:Array Obj)(R:Value->Array Obj->Prop):Prop:=
 if((decide (a<8)) || (decide (a>1024)))=true then(
 R (.pointer none) H)
 else
 ∀(b:Nat) (H1:Array Obj),b=H.size->H1=H.push (.cells #[.int .i64 a,.slice none 0 0] 90)->
 R (.pointer (some (ad b))) H1
namespace moraineref07_New
theorem link{a:Int}{H:Array Obj}{R:Value->Array Obj->Prop}(h:pt a H R):C a H R:=by
 refine T_en K0 12 Tryz.func162 ?_
 intro w0 Q hQ
 unfold pt at h
 refine T_su [(0,vi a)]<| T_srz 0<| T_ed 1 [] []<| T_sz<| T_srz 1 ?_
 refine N_cut [(0,vi a),(8,.bool ((decide (a<8)) || (decide (a>1024))))] ?_ ?_
 ·refine S_then ?_
  by_cases c3:((decide (a<8)) || (decide (a>1024)))=true
  ·rw[if_pos c3]at h
   exact T_cTz 8 c3<| T_srz 2<| T_nr 1 [2] [vp none] hQ h
  rw[if_neg c3]at h
  refine T_cFz 8 (eq_false_of_ne_true c3)<| T_kt<| T_srz 3<| T_n 2 [(10,.agg #[vi a,vs none 0 0])]<| T_nw (some 11) (λb=>vp (pa b)) (.cells #[vi a,vs none 0 0] 90) ?_
  intro b H1 e5 e6
  replace h:=h b H1 e5 e6
  refine⟨[(11,vp (pa b))],pk,?_⟩
  exact T_nr 1 [2] [vp (pa b)] hQ h
 intro hk
 refine T_n 3 [(0,vi a),(5,.bool (decide (a<8)))] ?_
 by_cases c1:a<8
 ·have b2:(decide (a<8))=true:=decide_eq_true c1
  refine N_env [(0,vi a),(5,.bool true)] (by rw[b2]) ?_
  refine T_nd 3 [5] [(8,.bool true)] ?_
  refine N_end (by kernel_rfl) ?_
  refine S_bd 8 (b:=true) (v:=((decide (a<8)) || (decide (a>1024)))) (by simp only[b2,BL]) ?_
  exact hk
 have b2:(decide (a<8))=false:=decide_eq_false c1
 refine N_env [(0,vi a),(5,.bool false)] (by rw[b2]) ?_
 refine T_nd 3 [5] [(8,.bool (decide (a>1024)))] ?_
 refine N_end (by kernel_rfl) ?_
 refine S_bd 8 (b:=(decide (a>1024))) (v:=((decide (a<8)) || (decide (a>1024)))) (by simp only[b2,BL]) ?_
 exact hk
end moraineref07_New

/-! (*moraine/moraineref07.Mem).Write -/
namespace moraineref07_Mem_Write
def K0:=Func.code Tryz.f166
end moraineref07_Mem_Write
def moraineref07_Mem_Write.pt(m:Option Addr)(e wv:Int)(H:Array Obj)(R:Value->Array Obj->Prop):Prop:=
 moraineref07_Mem_Word.C m e H (λv H1=> ∃(ra rb:Int) (rc:Bool),v=.tuple #[.int .i64 ra,.int .i64 rb,.bool rc]/\
 if rc=true then(
 ∃mA:Addr,m=some mA/\
 ∃(xB:Option Addr) (xN xC:Nat),hat H1 (mA.add 1)=some (.slice xB xN xC)/\
 ∃j:Addr,xB=some j/\
 ((0:Int)<=ra/\ra< (xN:Int))/\
 ∃(l:Option Addr) (d f:Nat),hat H1 ((j.add (Int.toNat ra*9)).add 8)=some (.slice l d f)/\
 ∃b:Addr,l=some b/\
 ((0:Int)<=rb/\rb< (d:Int))/\
 (CanPuts H1 (b.add (Int.toNat rb*1)) 0 1)/\ ∀H2,H2=hputs H1 (b.add (Int.toNat rb*1)) [.int .u64 wv] 0->
 R (.int .i64 0) H2)
 else
 R (.int .i64 18) H1)
namespace moraineref07_Mem_Write
theorem link{m:Option Addr}{e wv:Int}{H:Array Obj}{R:Value->Array Obj->Prop}(h:pt m e wv H R):C m e wv H R:=by
 refine T_en K0 30 Tryz.func166 ?_
 intro w0 Q hQ
 unfold pt at h
 refine T_su [(0,vp m),(1,vi e),(2,vu wv)]<| T_srz 0<| T_ed 1 [] []<| T_srz 1<| T_nd 2 [1] [(11,vp m),(12,vi e)] ?_
 refine T_c (some 13) h ?_;clear h
 rintro v H1 ⟨ra,rb,rc,rfl,h⟩
 refine T_pd [11,12] [(13,.tuple #[vi ra,vi rb,.bool rc])]<| T_ed 7 [13] [(7,vi ra),(8,vi rb),(9,.bool rc)]<| T_sz<| T_srz 2<| T_ed 2 [9] [(18,.bool (!rc))] ?_
 by_cases c1:rc=true
 ·rw[if_pos c1]at h
  refine T_cFz 18 (congrArg Bool.not (c1))<| T_kt<| T_srz 4<| T_nd 1 [0,18] [(19,vp m)] ?_
  obtain⟨mA,rfl,h⟩:=h
  refine T_nd 2 [19] [(21,vp (some (mA.add 1)))] ?_
  obtain⟨xB,xN,xC,q3,h⟩:=h
  refine T_l1 22 88 q3 [21]<| T_nd 1 [7] [(23,vi ra)] ?_
  obtain⟨j,rfl,h⟩:=h
  obtain⟨q4,h⟩:=h
  refine T_xd (some 24) 88 96 9 j xN xC .i64 ra Tryz.underlying88 q4.1 q4.2 [22,23] [(24,vp (some (j.add (Int.toNat ra*9))))]<| T_nd 1 [24] [(25,vp (some ((j.add (Int.toNat ra*9)).add 8)))] ?_
  obtain⟨l,d,f,q5,h⟩:=h
  refine T_l1 26 31 q5 [25]<| T_nd 2 [2,8] [(27,vi rb),(28,vu wv)] ?_
  obtain⟨b,rfl,h⟩:=h
  obtain⟨q6,h⟩:=h
  refine T_xd (some 29) 31 35 1 b d f .i64 rb Tryz.underlying31 q6.1 q6.2 [26,27] [(29,vp (some (b.add (Int.toNat rb*1))))] ?_
  obtain⟨q8,h⟩:=h
  refine T_st1 35 (vu wv) q8 ?_
  intro H2 e7
  replace h:=h H2 e7
  refine⟨[],pk,?_⟩
  exact T_e<| T_srz 5<| T_nr 1 [6] [vi 0] hQ h
 rw[if_neg c1]at h
 exact T_cTz 18 (congrArg Bool.not (eq_false_of_ne_true c1))<| T_srz 3<| T_nr 1 [6] [vi 18] hQ h
end moraineref07_Mem_Write

/-! (*moraine/moraineref07.Mem).Place -/
namespace moraineref07_Mem_Place
def K0:=Func.code Tryz.f170
def K2:=cb K0
def K3:=ca K2
def K6:=cb K3
def K7:=ca K6
def K8:=ca K7
end moraineref07_Mem_Place
def moraineref07_Mem_Place.pt(m:Option Addr)(b:Int)(H:Array Obj)(R:Value->Array Obj->Prop):Prop:=
 ∃(I9:Int->Array Obj->Prop) (m9:Int->Array Obj->Nat),I9 0 H/\ ∀(i:Int) (H1:Array Obj),I9 i H1->
 ∃mA:Addr,m=some mA/\
 ∃(xB:Option Addr) (xN xC:Nat),hat H1 (mA.add 1)=some (.slice xB xN xC)/\
 if i< (xN:Int)then(
 ∃(j:Option Addr) (e f:Nat),hat H1 (mA.add 1)=some (.slice j e f)/\
 ∃d:Addr,j=some d/\
 ((0:Int)<=i/\i< (e:Int))/\
 ∃x:Int,hat H1 (d.add (Int.toNat i*9))=some (.int .i64 x)/\
 if x=b then(
 R (.int .i64 i) H1)
 else
 (I9 (IntKind.wrap .i64 (i+1)) H1/\m9 (IntKind.wrap .i64 (i+1)) H1<m9 i H1))
 else
 R (.int .i64 (-1)) H1
namespace moraineref07_Mem_Place
theorem link{m:Option Addr}{b:Int}{H:Array Obj}{R:Value->Array Obj->Prop}(h:pt m b H R):C m b H R:=by
 refine T_en K0 26 Tryz.func170 ?_
 intro w0 Q hQ
 unfold pt at h
 refine T_su [(0,vp m),(1,vi b)]<| T_srz 0<| T_ed 1 [] []<| T_sz<| T_srz 1<| T_ed 1 [] [(5,vi 0)]<| T_bz 0 ?_
 obtain⟨I9,m9,i1,i2⟩:=h
 refine S_loop (x:=K8) (σ:=Int) (λs_=> [(0,vp m),(1,vi b),(5,vi s_)]) (λs_ H=>I9 s_ H) (λs_ H=>m9 s_ H) (0:Int) (by kernel_rfl) i1 sk ?_
 rintro i H1 i3
 have h:=i2 i H1 i3
 refine T_su [(0,vp m),(1,vi b),(5,vi i)]<| T_sz<| T_srz 2<| T_nd 2 [] [(6,vi i),(7,vp m)] ?_
 obtain⟨mA,rfl,h⟩:=h
 refine T_nd 2 [0,7] [(0,vp (some mA)),(9,vp (some (mA.add 1)))] ?_
 obtain⟨xB,xN,xC,q4,h⟩:=h
 refine T_l1 10 88 q4 [9]<| T_ed 2 [6,10] [(12,.bool (decide (i< (xN:Int))))] ?_
 by_cases c5:i< (xN:Int)
 ·rw[if_pos c5]at h
  refine T_cTz 12 (decide_eq_true c5)<| T_kt<| T_sz<| T_bz 1<| T_srz 4<| T_nd 3 [12] [(17,vp (some (mA.add 1)))] ?_
  obtain⟨j,e,f,q7,h⟩:=h
  refine T_l1 18 88 q7 [17]<| T_nd 1 [] [(19,vi i)] ?_
  obtain⟨d,rfl,h⟩:=h
  obtain⟨q8,h⟩:=h
  refine T_xd (some 20) 88 96 9 d e f .i64 i Tryz.underlying88 q8.1 q8.2 [18,19] [(20,vp (some (d.add (Int.toNat i*9))))]<| T_nd 1 [20] [(21,vp (some (d.add (Int.toNat i*9))))] ?_
  obtain⟨x,q9,h⟩:=h
  refine T_l1 22 3 q9 [21]<| T_ed 2 [22] [(24,.bool (x==b))] ?_
  by_cases c10:x=b
  ·rw[if_pos c10]at h
   exact T_cTz 24 (beq_iff_eq.mpr c10)<| T_srz 5<| T_nr 2 [4] [vi i] hQ h
  rw[if_neg c10]at h
  refine T_cFz 24 (beq_eq_false_iff_ne.mpr c10)<| T_k ?_
  refine S_blockEnd ?_
  refine S_then ?_
  refine T_rz 3<| T_ed 3 [5,24] [(5,vi (IntKind.wrap .i64 (i+1)))] ?_
  exact S_round ((IntKind.wrap .i64 (i+1)):Int) sk h
 rw[if_neg c5]at h
 refine T_cFz 12 (decide_eq_false c5) ?_
 refine S_exit 0 (by kernel_rfl) ?_
 refine S_exitThen ?_
 refine S_exitThen ?_
 refine S_exitHere ?_
 refine S_then ?_
 exact T_srz 6<| T_nr 1 [4] [vi (-1)] hQ h
end moraineref07_Mem_Place

/-! (*moraine/moraineref07.Mem).Bump -/
namespace moraineref07_Mem_Bump
def K0:=Func.code Tryz.f205
def K2:=cb K0
def K4:=cb K2
def K6:=cb K4
def K14:=cb K6
def K22:=cb K14
def K24:=cb K22
def K32:=cb K24
def K33:=ca K32
def K36:=cb K33
def K37:=ca K36
def K38:=ca K37
end moraineref07_Mem_Bump
def moraineref07_Mem_Bump.pt(m:Option Addr)(e nv:Int)(H:Array Obj)(R:Value->Array Obj->Prop):Prop:=
 moraineref07_Mem_Place.C m e H (λv H1=> ∃x:Int,v=.int .i64 x/\
 if x<0 then(
 R (.tuple #[.int .i64 0,.int .i64 19]) H1)
 else
 if nv<1 then(
 R (.tuple #[.int .i64 0,.int .i64 1]) H1)
 else
 ∃mA:Addr,m=some mA/\
 ∃(xB:Option Addr) (xN xC:Nat),hat H1 (mA.add 1)=some (.slice xB xN xC)/\
 ∃d:Addr,xB=some d/\
 ((0:Int)<=x/\x< (xN:Int))/\
 if nv>64 then(
 R (.tuple #[.int .i64 0,.int .i64 2]) H1)
 else
 ∃(u:Option Addr) (n y:Nat),hat H1 ((d.add (Int.toNat x*9)).add 8)=some (.slice u n y)/\
 if(IntKind.wrap .i64 ((n:Int)+nv))>64 then(
 R (.tuple #[.int .i64 0,.int .i64 2]) H1)
 else
 ∃(z:Option Addr) (f aa:Nat),hat H1 ((d.add (Int.toNat x*9)).add 8)=some (.slice z f aa)/\
 ∃(ab:Int->Array Obj->Prop) (m39:Int->Array Obj->Nat),ab 0 H1/\ ∀(i:Int) (H2:Array Obj),ab i H2->
 if i<nv then(
 ∃(o:Option Addr) (j p:Nat),hat H2 ((d.add (Int.toNat x*9)).add 8)=some (.slice o j p)/\
 ∀(b:Nat) (H3:Array Obj),b=H2.size->H3=H2.push (.cells #[.int .u64 0] 35)->
 appendK 1 35 8 [.int .u64 0] o j p (some (ad b)) 1 H3 (λap q H4=>
 (CanPuts H4 ((d.add (Int.toNat x*9)).add 8) 0 1)/\ ∀H5,H5=hputs H4 ((d.add (Int.toNat x*9)).add 8) [.slice ap (j+1) q] 0->
 (ab (IntKind.wrap .i64 (i+1)) H5/\m39 (IntKind.wrap .i64 (i+1)) H5<m39 i H2)))
 else
 ∃(r:Option Addr) (l s:Nat),hat H2 ((d.add (Int.toNat x*9)).add 8)=some (.slice r l s)/\
 (CanPuts H2 (((d.add (Int.toNat x*9)).add 1).add 2) 0 1)/\ ∀H6,H6=hputs H2 (((d.add (Int.toNat x*9)).add 1).add 2) [.int .i64 (l:Int)] 0->
 R (.tuple #[.int .i64 (IntKind.wrap .i64 ((IntKind.wrap .i64 (e*64))+(f:Int))),.int .i64 0]) H6)
namespace moraineref07_Mem_Bump
theorem link{m:Option Addr}{e nv:Int}{H:Array Obj}{R:Value->Array Obj->Prop}(h:pt m e nv H R):C m e nv H R:=by
 refine T_en K0 69 Tryz.func205 ?_
 intro w0 Q hQ
 unfold pt at h
 refine T_su [(0,vp m),(1,vi e),(2,vi nv)]<| T_srz 0<| T_ed 2 [] []<| T_srz 1<| T_nd 2 [] [(12,vp m),(13,vi e)] ?_
 refine T_c (some 14) h ?_;clear h
 rintro v H1 ⟨x,rfl,h⟩
 refine T_pd [12,13] [(14,vi x)]<| T_ed 1 [14] [(8,vi x)]<| T_sz<| T_srz 2<| T_ed 2 [] [(16,.bool (decide (x<0)))] ?_
 by_cases c1:x<0
 ·rw[if_pos c1]at h
  exact T_cTz 16 (decide_eq_true c1)<| T_srz 3<| T_nr 2 [6,7] [vi 0,vi 19] hQ h
 rw[if_neg c1]at h
 refine T_cFz 16 (decide_eq_false c1)<| T_kt<| T_sz<| T_srz 4<| T_ed 2 [16] [(18,.bool (decide (nv<1)))] ?_
 by_cases c3:nv<1
 ·rw[if_pos c3]at h
  exact T_cTz 18 (decide_eq_true c3)<| T_srz 5<| T_nr 2 [6,7] [vi 0,vi 1] hQ h
 rw[if_neg c3]at h
 refine T_cFz 18 (decide_eq_false c3)<| T_kt<| T_srz 6<| T_nd 1 [0,18] [(19,vp m)] ?_
 obtain⟨mA,rfl,h⟩:=h
 refine T_nd 2 [19] [(21,vp (some (mA.add 1)))] ?_
 obtain⟨xB,xN,xC,q5,h⟩:=h
 refine T_l1 22 88 q5 [21]<| T_nd 1 [8] [(23,vi x)] ?_
 obtain⟨d,rfl,h⟩:=h
 obtain⟨q6,h⟩:=h
 refine T_xd (some 24) 88 96 9 d xN xC .i64 x Tryz.underlying88 q6.1 q6.2 [22,23] [(24,vp (some (d.add (Int.toNat x*9))))]<| T_ed 1 [24] [(9,vp (some (d.add (Int.toNat x*9))))]<| T_sz<| T_srz 7<| T_nd 3 [] [(27,.bool (decide (nv>64)))] ?_
 by_cases c7:nv>64
 ·rw[if_pos c7]at h
  exact N_bd 27 (decide_eq_true c7)<| T_ed 9 [27] [(36,.bool true)]<| T_tz 36<| T_srz 8<| T_nr 2 [6,7] [vi 0,vi 2] hQ h
 rw[if_neg c7]at h
 refine N_bd 27 (decide_eq_false c7)<| T_nd 3 [] [(30,vp (some ((d.add (Int.toNat x*9)).add 8)))] ?_
 obtain⟨u,n,y,q9,h⟩:=h
 refine T_l1 31 31 q9 [30]<| T_ed 5 [27,31] [(36,.bool (decide ((IntKind.wrap .i64 ((n:Int)+nv))>64)))] ?_
 by_cases c10:(IntKind.wrap .i64 ((n:Int)+nv))>64
 ·rw[if_pos c10]at h
  exact T_cTz 36 (decide_eq_true c10)<| T_srz 8<| T_nr 2 [6,7] [vi 0,vi 2] hQ h
 rw[if_neg c10]at h
 refine T_cFz 36 (decide_eq_false c10)<| T_kt<| T_srz 9<| T_nd 5 [1,36] [(38,vi (IntKind.wrap .i64 (e*64))),(41,vp (some ((d.add (Int.toNat x*9)).add 8)))] ?_
 obtain⟨z,f,aa,q12,h⟩:=h
 refine T_l1 42 31 q12 [41]<| T_ed 3 [38,42] [(10,vi (IntKind.wrap .i64 ((IntKind.wrap .i64 (e*64))+(f:Int))))]<| T_sz<| T_srz 10<| T_ed 1 [] [(11,vi 0)]<| T_bz 0 ?_
 obtain⟨ab,m39,i13,i14⟩:=h
 refine S_loop (x:=K38) (σ:=Int) (λs_=> [(2,vi nv),(9,vp (some (d.add (Int.toNat x*9)))),(10,vi (IntKind.wrap .i64 ((IntKind.wrap .i64 (e*64))+(f:Int)))),(11,vi s_)]) (λs_ H=>ab s_ H) (λs_ H=>m39 s_ H) (0:Int) (by kernel_rfl) i13 sk ?_
 rintro i H2 i15
 have h:=i14 i H2 i15
 refine T_su [(2,vi nv),(9,vp (some (d.add (Int.toNat x*9)))),(10,vi (IntKind.wrap .i64 ((IntKind.wrap .i64 (e*64))+(f:Int)))),(11,vi i)]<| T_sz<| T_srz 11<| T_ed 3 [] [(47,.bool (decide (i<nv)))] ?_
 by_cases c16:i<nv
 ·rw[if_pos c16]at h
  refine T_cTz 47 (decide_eq_true c16)<| T_kt<| T_sz<| T_bz 1<| T_rz 13<| T_nd 4 [47] [(50,vp (some (d.add (Int.toNat x*9)))),(53,vp (some ((d.add (Int.toNat x*9)).add 8)))] ?_
  obtain⟨o,j,p,q18,h⟩:=h
  refine T_l1 54 31 q18 [53]<| T_nw (some 55) (λb=>vs (pa b) 1 1) (.cells #[vu 0] 35) ?_
  intro b H3 e19 e20
  replace h:=h b H3 e19 e20
  refine T_pd [] [(55,vs (pa b) 1 1)] ?_
  refine N_op (some 56) (appendN #[31,31] 31 #[vs o j p,vs (pa b) 1 1]) _ (λ_=>by kernel_rfl) (ss_append (T:=35) (sz:=1) (bytes:=8) (zero:=(vu 0:Value)) Tryz.underlying31 Tryz.underlying31 rfl (show Tryz.prog.info? 35=some Tryz.t35 from by kernel_rfl) (by kernel_rfl) (by kernel_rfl) (by decide) (by kernel_rfl) (by first | exact h | (simpa only[Value.cells,List.toList_toArray]using h))) ?_;clear h
  rintro _ H4 ⟨ap,q,rfl,h⟩
  refine T_pd [54,55] [(56,vs ap (j+1) q)]<| T_nd 2 [50] [(58,vp (some ((d.add (Int.toNat x*9)).add 8)))] ?_
  obtain⟨q22,h⟩:=h
  refine T_st1 31 (vs ap (j+1) q) q22 ?_
  intro H5 e21
  replace h:=h H5 e21
  refine T_pd [56,58] [] ?_
  refine N_end (by kernel_rfl) ?_
  refine S_blockEnd ?_
  refine S_then ?_
  refine T_rz 12<| T_ed 3 [11] [(11,vi (IntKind.wrap .i64 (i+1)))] ?_
  exact S_round ((IntKind.wrap .i64 (i+1)):Int) sk h
 rw[if_neg c16]at h
 refine T_cFz 47 (decide_eq_false c16) ?_
 refine S_exit 0 (by kernel_rfl) ?_
 refine S_exitThen ?_
 refine S_exitThen ?_
 refine S_exitHere ?_
 refine S_then ?_
 refine T_srz 14<| T_nd 4 [2,9,11,47] [(59,vp (some (d.add (Int.toNat x*9)))),(62,vp (some ((d.add (Int.toNat x*9)).add 8)))] ?_
 obtain⟨r,l,s,q23,h⟩:=h
 refine T_l1 63 31 q23 [62]<| T_nd 4 [59,63] [(64,vi l),(67,vp (some (((d.add (Int.toNat x*9)).add 1).add 2)))] ?_
 obtain⟨q25,h⟩:=h
 refine T_st1 3 (vi l) q25 ?_
 intro H6 e24
 replace h:=h H6 e24
 exact T_pd [64,67] []<| T_e<| T_srz 15<| T_nr 3 [6,7] [vi (IntKind.wrap .i64 ((IntKind.wrap .i64 (e*64))+(f:Int))),vi 0] hQ h
end moraineref07_Mem_Bump

/-! (*moraine/moraineref07.Mem).Take -/
namespace moraineref07_Mem_Take
def K0:=Func.code Tryz.f206
def K2:=cb K0
def K4:=cb K2
def K11:=ca K4
def K14:=cb K11
def K15:=ca K14
def K16:=ca K15
end moraineref07_Mem_Take
def moraineref07_Mem_Take.pt(m:Option Addr)(d a:Int)(H:Array Obj)(R:Value->Array Obj->Prop):Prop:=
 if((((decide (d<0)) || (decide (d>4))) || (decide (a<0))) || (decide (a>3)))=true then(
 R (.tuple #[.int .i64 0,.int .i64 1]) H)
 else
 ∃(i:Int->Array Obj->Prop) (m17:Int->Array Obj->Nat),i 0 H/\ ∀(k:Int) (H1:Array Obj),i k H1->
 ∃mA:Addr,m=some mA/\
 ∃x:Int,hat H1 mA=some (.int .i64 x)/\
 if k<x then(
 moraineref07_Mem_Place.C (some mA) k H1 (λv H2=> ∃e:Int,v=.int .i64 e/\
 if e<0 then(
 ∃(xB:Option Addr) (xN xC:Nat),hat H2 (mA.add 1)=some (.slice xB xN xC)/\
 ∀(b:Nat) (H3:Array Obj),b=H2.size->H3=H2.push (.cells #[.int .i64 k,.int .i64 d,.int .i64 a,.int .i64 0,.int .i64 5,.int .i64 5,.int .i64 5,.int .i64 5,.slice none 0 0] 96)->
 appendK 9 96 88 [.int .i64 0,.int .i64 0,.int .i64 0,.int .i64 0,.int .i64 0,.int .i64 0,.int .i64 0,.int .i64 0,.slice none 0 0] xB xN xC (some (ad b)) 1 H3 (λap f H4=>
 (CanPuts H4 (mA.add 1) 0 1)/\ ∀H5,H5=hputs H4 (mA.add 1) [.slice ap (xN+1) f] 0->
 R (.tuple #[.int .i64 k,.int .i64 0]) H5))
 else
 (i (IntKind.wrap .i64 (k+1)) H2/\m17 (IntKind.wrap .i64 (k+1)) H2<m17 k H1)))
 else
 R (.tuple #[.int .i64 0,.int .i64 2]) H1
namespace moraineref07_Mem_Take
theorem link{m:Option Addr}{d a:Int}{H:Array Obj}{R:Value->Array Obj->Prop}(h:pt m d a H R):C m d a H R:=by
 refine T_en K0 51 Tryz.func206 ?_
 intro w0 Q hQ
 unfold pt at h
 refine T_su [(0,vp m),(1,vi d),(2,vi a)]<| T_srz 0<| T_ed 2 [] []<| T_sz<| T_srz 1 ?_
 refine N_cut [(0,vp m),(1,vi d),(2,vi a),(22,.bool ((((decide (d<0)) || (decide (d>4))) || (decide (a<0))) || (decide (a>3))))] ?_ ?_
 ·refine S_then ?_
  by_cases c7:((((decide (d<0)) || (decide (d>4))) || (decide (a<0))) || (decide (a>3)))=true
  ·rw[if_pos c7]at h
   exact T_cTz 22 c7<| T_srz 2<| T_nr 2 [6,7] [vi 0,vi 1] hQ h
  rw[if_neg c7]at h
  refine T_cFz 22 (eq_false_of_ne_true c7)<| T_kt<| T_sz<| T_srz 3<| T_ne 1 [(0,vp m),(1,vi d),(2,vi a),(8,vi 0)]<| T_bz 0 ?_
  obtain⟨i,m17,i9,i10⟩:=h
  refine S_loop (x:=K16) (σ:=Int) (λs_=> [(0,vp m),(1,vi d),(2,vi a),(8,vi s_)]) (λs_ H=>i s_ H) (λs_ H=>m17 s_ H) (0:Int) (by kernel_rfl) i9 sk ?_
  rintro k H1 i11
  have h:=i10 k H1 i11
  refine T_su [(0,vp m),(1,vi d),(2,vi a),(8,vi k)]<| T_sz<| T_srz 4<| T_nd 2 [] [(23,vi k),(24,vp m)] ?_
  obtain⟨mA,rfl,h⟩:=h
  refine T_nd 2 [0,24] [(0,vp (some mA)),(26,vp (some mA))] ?_
  obtain⟨x,q12,h⟩:=h
  refine T_l1 27 3 q12 [26]<| T_ed 1 [23,27] [(28,.bool (decide (k<x)))] ?_
  by_cases c13:k<x
  ·rw[if_pos c13]at h
   refine T_cTz 28 (decide_eq_true c13)<| T_kt<| T_sz<| T_bz 1<| T_srz 6<| T_nd 2 [28] [(31,vp (some mA)),(32,vi k)] ?_
   refine T_c (some 33) h ?_;clear h
   rintro v H2 ⟨e,rfl,h⟩
   refine T_pd [31,32] [(33,vi e)]<| T_ed 1 [33] [(34,.bool (decide (e<0)))] ?_
   by_cases c15:e<0
   ·rw[if_pos c15]at h
    refine T_cTz 34 (decide_eq_true c15)<| T_srz 7<| T_nd 4 [0,34] [(35,vp (some mA)),(38,vp (some (mA.add 1)))] ?_
    obtain⟨xB,xN,xC,q17,h⟩:=h
    refine T_l1 39 88 q17 [38]<| T_nd 6 [1,2] [(45,.agg #[vi k,vi d,vi a,vi 0,vi 5,vi 5,vi 5,vi 5,vs none 0 0])]<| T_nw (some 46) (λb=>vs (pa b) 1 1) (.cells #[vi k,vi d,vi a,vi 0,vi 5,vi 5,vi 5,vi 5,vs none 0 0] 96) ?_
    intro b H3 e18 e19
    replace h:=h b H3 e18 e19
    refine T_pd [45] [(46,vs (pa b) 1 1)] ?_
    refine N_op (some 47) (appendN #[88,88] 88 #[vs xB xN xC,vs (pa b) 1 1]) _ (λ_=>by kernel_rfl) (ss_append (T:=96) (sz:=9) (bytes:=88) (zero:=(.agg #[vi 0,vi 0,vi 0,vi 0,vi 0,vi 0,vi 0,vi 0,vs none 0 0]:Value)) Tryz.underlying88 Tryz.underlying88 rfl (show Tryz.prog.info? 96=some Tryz.t96 from by kernel_rfl) (by kernel_rfl) (by kernel_rfl) (by decide) (by kernel_rfl) (by first | exact h | (simpa only[Value.cells,List.toList_toArray]using h))) ?_;clear h
    rintro _ H4 ⟨ap,f,rfl,h⟩
    refine T_pd [39,46] [(47,vs ap (xN+1) f)]<| T_nd 2 [35] [(49,vp (some (mA.add 1)))] ?_
    obtain⟨q21,h⟩:=h
    refine T_st1 88 (vs ap (xN+1) f) q21 ?_
    intro H5 e20
    replace h:=h H5 e20
    refine⟨[(8,vi k)],pk,?_⟩
    exact T_e<| T_srz 8<| T_nr 3 [6,7] [vi k,vi 0] hQ h
   rw[if_neg c15]at h
   refine T_cFz 34 (decide_eq_false c15)<| T_k ?_
   refine S_blockEnd ?_
   refine S_then ?_
   refine T_rz 5<| T_ed 3 [8,34] [(8,vi (IntKind.wrap .i64 (k+1)))] ?_
   exact S_round ((IntKind.wrap .i64 (k+1)):Int) sk h
  rw[if_neg c13]at h
  refine T_cFz 28 (decide_eq_false c13) ?_
  refine S_exit 0 (by kernel_rfl) ?_
  refine S_exitThen ?_
  refine S_exitThen ?_
  refine S_exitHere ?_
  refine S_then ?_
  exact T_srz 9<| T_nr 2 [6,7] [vi 0,vi 2] hQ h
 intro hk
 refine T_n 3 [(0,vp m),(1,vi d),(2,vi a),(11,.bool (decide (d<0)))] ?_
 by_cases c1:d<0
 ·have b2:(decide (d<0))=true:=decide_eq_true c1
  refine N_env [(0,vp m),(1,vi d),(2,vi a),(11,.bool true)] (by rw[b2]) ?_
  refine T_nd 11 [11] [(22,.bool true)] ?_
  refine N_end (by kernel_rfl) ?_
  refine S_bd 22 (b:=true) (v:=((((decide (d<0)) || (decide (d>4))) || (decide (a<0))) || (decide (a>3)))) (by simp only[b2,BL]) ?_
  exact hk
 have b2:(decide (d<0))=false:=decide_eq_false c1
 refine N_env [(0,vp m),(1,vi d),(2,vi a),(11,.bool false)] (by rw[b2]) ?_
 refine T_nd 4 [11] [(15,.bool (decide (d>4)))] ?_
 by_cases c3:d>4
 ·have b4:(decide (d>4))=true:=decide_eq_true c3
  refine N_bd 15 b4<| T_nd 7 [15] [(22,.bool true)] ?_
  refine N_end (by kernel_rfl) ?_
  refine S_bd 22 (b:=true) (v:=((((decide (d<0)) || (decide (d>4))) || (decide (a<0))) || (decide (a>3)))) (by simp only[b2,b4,BL]) ?_
  exact hk
 have b4:(decide (d>4))=false:=decide_eq_false c3
 refine N_bd 15 b4<| T_nd 4 [15] [(19,.bool (decide (a<0)))] ?_
 by_cases c5:a<0
 ·have b6:(decide (a<0))=true:=decide_eq_true c5
  refine N_bd 19 b6<| T_nd 3 [19] [(22,.bool true)] ?_
  refine N_end (by kernel_rfl) ?_
  refine S_bd 22 (b:=true) (v:=((((decide (d<0)) || (decide (d>4))) || (decide (a<0))) || (decide (a>3)))) (by simp only[b2,b4,b6,BL]) ?_
  exact hk
 have b6:(decide (a<0))=false:=decide_eq_false c5
 refine N_bd 19 b6<| T_nd 3 [19] [(22,.bool (decide (a>3)))] ?_
 refine N_end (by kernel_rfl) ?_
 refine S_bd 22 (b:=(decide (a>3))) (v:=((((decide (d<0)) || (decide (d>4))) || (decide (a<0))) || (decide (a>3)))) (by simp only[b2,b4,b6,BL]) ?_
 exact hk
end moraineref07_Mem_Take

end Go.Proofs.YtibpklpgmgakcaaGreat
