/- Printed: what each function asks, and that it is sound. -/
import Derived.Test.YtihdffpekpnglaaGreatFnsC
set_option linter.unusedSimpArgs false
set_option linter.unusedVariables false
set_option maxRecDepth 100000
set_option maxHeartbeats 1000000
noncomputable section
namespace Go.Proofs.YtihdffpekpnglaaGreat
open Go
/-! (*moraine/moraineref07.Mem).Taken -/
namespace cL
def K0:=Func.code Tryz.f15
def K2:=cb K0
def K4:=cb K2
def K5:=ca K4
def K8:=cb K5
def K9:=ca K8
def K10:=ca K9
def K12:=cb K10
def K17:=ca K12
def K19:=ca K17
def K21:=cb K19
def K22:=ca K21
def K25:=cb K22
def K26:=ca K25
def K27:=ca K26
end cL
def cL.pt(m f:zY)(d e:Nat)(H:zW)(R:zv):Prop:=
 ∃(aa:zY->Nat->Nat->zw) (m11:zY->Nat->Nat->Int->zW->Nat),aa none 0 0 0 H/\ ∀(lB:zY) (lN:Nat) (lC:Nat) (i:Int) (H1:zW),aa lB lN lC i H1->
 ∃mA:Addr,m=some mA/\
 ∃(xB:zY) (xN xC:Nat),hat H1 (mA.add 1)=some (.slice xB xN xC)/\
 if i< (xN:Int)then(
 ∃(ac:Bool->zw) (m28:Bool->Int->zW->Nat),ac ((d:Int)==0) 0 H1/\ ∀(l:Bool) (k:Int) (H2:zW),ac l k H2->
 if k< (d:Int)then(
 if l=true then(
 (ac true (zq (k+1)) H2/\m28 true (zq (k+1)) H2<m28 l k H2))
 else
 ∃j:Addr,f=some j/\
 yZ k d/\
 ∃x:Int,hat H2 (j.add (Int.toNat k*1))=some (.int .i64 x)/\
 ∃(y:zY) (q u:Nat),hat H2 (mA.add 1)=some (.slice y q u)/\
 ∃n:Addr,y=some n/\
 yZ i q/\
 ∃o:Int,hat H2 ((n.add (Int.toNat i*9)).add 1)=some (.int .i64 o)/\
 (ac (x==o) (zq (k+1)) H2/\m28 (x==o) (zq (k+1)) H2<m28 l k H2))
 else
 if l=true then(
 ∃(v:zY) (r s:Nat),hat H2 (mA.add 1)=some (.slice v r s)/\
 ∃p:Addr,v=some p/\
 yZ i r/\
 ∃ab:Int,hat H2 (p.add (Int.toNat i*9))=some (.int .i64 ab)/\
 ∀(b:Nat) (H3:zW),b=H2.size->H3=H2.push (.cells #[.int .i64 ab] 3)->
 bW 1 3 8 [.int .i64 0] lB lN lC (some (ad b)) 1 H3 (λap z H4=>
 (aa ap (lN+1) z (zq (i+1)) H4/\m11 ap (lN+1) z (zq (i+1)) H4<m11 lB lN lC i H1)))
 else
 (aa lB lN lC (zq (i+1)) H2/\m11 lB lN lC (zq (i+1)) H2<m11 lB lN lC i H1))
 else
 R (.slice lB lN lC) H1
namespace cL
theorem link{m f:zY}{d e:Nat}{H:zW}{R:zv}(h:pt m f d e H R):C m f d e H R:=by
 refine T_en K0 57 Tryz.func15 ?_
 intro w0 Q hQ
 unfold pt zq at h
 refine T_su [(0,vp m),(1,vs f d e)]<| ar 0<| T_ed 1 [] []<| ar 1<| T_ed 1 [] [(5,vs none 0 0)]<| T_sz<| ar 2<| T_ed 1 [] [(6,vi 0)]<| T_bz 0 ?_
 obtain⟨aa,m11,i1,i2⟩:=h
 refine dS (x:=K10) (σ:=zY×Nat×Nat×Int) (λs_=> [(0,vp m),(1,vs f d e),(5,vs s_.1 s_.2.1 s_.2.2.1),(6,vi s_.2.2.2)]) (λs_ H=>aa s_.1 s_.2.1 s_.2.2.1 s_.2.2.2 H) (λs_ H=>m11 s_.1 s_.2.1 s_.2.2.1 s_.2.2.2 H) ((none,0,0,0):zY×Nat×Nat×Int) (by kernel_rfl) i1 sk ?_
 rintro⟨lB,lN,lC,i⟩ H1 i3
 have h:=i2 lB lN lC i H1 i3
 refine T_su [(0,vp m),(1,vs f d e),(5,vs lB lN lC),(6,vi i)]<| T_sz<| ar 3<| T_nd 2 [] [(9,vi i),(10,vp m)] ?_
 obtain⟨mA,rfl,h⟩:=h
 refine T_nd 2 [0,10] [(0,vp (some mA)),(12,vp (some (mA.add 1)))] ?_
 obtain⟨xB,xN,xC,q4,h⟩:=h
 refine T_l1 13 75 q4 [12]<| T_ed 2 [9,13] [(15,.bool (decide (i< (xN:Int))))] ?_
 by_cases c5:i< (xN:Int)
 ·rw[if_pos c5]at h
  refine aH 15 (zQ c5)<| T_kt<| T_sz<| T_bz 1<| ar 5<| T_ed 4 [15] [(7,.bool ((d:Int)==0))]<| T_sz<| ar 6<| T_ed 1 [] [(8,vi 0)]<| T_bz 2 ?_
  obtain⟨ac,m28,i7,i8⟩:=h
  refine dS (x:=K27) (σ:=Bool×Int) (λs_=> [(0,vp (some mA)),(1,vs f d e),(5,vs lB lN lC),(6,vi i),(7,.bool s_.1),(8,vi s_.2)]) (λs_ H=>ac s_.1 s_.2 H) (λs_ H=>m28 s_.1 s_.2 H) ((((d:Int)==0),0):Bool×Int) (by kernel_rfl) i7 sk ?_
  rintro⟨l,k⟩ H2 i9
  have h:=i8 l k H2 i9
  refine T_su [(0,vp (some mA)),(1,vs f d e),(5,vs lB lN lC),(6,vi i),(7,.bool l),(8,vi k)]<| T_sz<| ar 7<| T_ed 4 [] [(24,.bool (decide (k< (d:Int))))] ?_
  by_cases c10:k< (d:Int)
  ·rw[if_pos c10]at h
   refine aH 24 (zQ c10)<| T_kt<| T_sz<| T_bz 3<| ll 9<| T_q1 27 (.bool l) [7,24]<| T_q1 28 (.bool l) [27] ?_
   by_cases c12:l=true
   ·rw[if_pos c12]at h
    refine Q_bd 28 c12<| T_q1 29 (undef) []<| T_q1 30 (undef) []<| T_q1 31 (undef) [29,30]<| T_q1 32 (undef) [31]<| T_q1 33 (undef) []<| T_q1 34 (undef) [33]<| T_q1 35 (undef) [34]<| T_q1 36 (undef) [35] ?_
    exact T_q1 37 (undef) []<| T_q1 38 (undef) [36,37]<| T_q1 39 (undef) [38]<| T_q1 40 (undef) [39]<| T_q1 41 (undef) [40]<| T_q1 42 (undef) [32,41]<| T_q1 43 (.bool true) [28,42]<| T_q1 7 (.bool true) [43]<| jp [(0,vp (some mA)),(1,vs f d e),(5,vs lB lN lC),(6,vi i),(7,.bool true),(8,vi k)] sk<| rz (by kernel_rfl)<| aL<| aE<| T_rz 8<| T_ne 3 [(0,vp (some mA)),(1,vs f d e),(5,vs lB lN lC),(6,vi i),(7,.bool true),(8,vi (zq (k+1)))]<| bG ((true,(zq (k+1))):Bool×Int) sk h
   rw[if_neg c12]at h
   refine Q_bd 28 (zZ c12)<| T_q1 29 (vs f d e) []<| T_q1 30 (vi k) [] ?_
   obtain⟨j,rfl,q14,h⟩:=h
   refine Q_op (some 31) (bD 49 (vs (some j) d e) (vi k)) (vp (some (j.add (Int.toNat k*1)))) (λ_=>by kernel_rfl) (λw _=>bR (P:=Tryz.prog) (t:=49) (elem:=3) (sz:=1) (a:=j) (len:=d) (cap:=e) (k:=.i64) (i:=k) Tryz.underlying49 (λ_=>by kernel_rfl) q14.1 q14.2 w) [(0,vp (some mA)),(1,vs (some j) d e),(5,vs lB lN lC),(6,vi i),(8,vi k),(28,.bool false),(31,vp (some (j.add (Int.toNat k*1))))] pk ?_
   obtain⟨x,q15,h⟩:=h
   refine T_ql (some 32) 3 q15 [(0,vp (some mA)),(1,vs (some j) d e),(5,vs lB lN lC),(6,vi i),(8,vi k),(28,.bool false),(32,vi x)]<| T_q1 33 (vp (some mA)) []<| T_q1 34 (vp (some mA)) [33]<| T_q1 35 (vp (some (mA.add 1))) [34] ?_
   obtain⟨y,q,u,q16,h⟩:=h
   refine iL (some 36) 75 q16 [35] [(36,vs y q u)]<| T_q1 37 (vi i) [] ?_
   obtain⟨n,rfl,q17,h⟩:=h
   refine Q_op (some 38) (bD 75 (vs (some n) q u) (vi i)) (vp (some (n.add (Int.toNat i*9)))) (λ_=>by kernel_rfl) (λw _=>bR (P:=Tryz.prog) (t:=75) (elem:=83) (sz:=9) (a:=n) (len:=q) (cap:=u) (k:=.i64) (i:=i) Tryz.underlying75 (λ_=>by kernel_rfl) q17.1 q17.2 w) [(0,vp (some mA)),(1,vs (some j) d e),(5,vs lB lN lC),(6,vi i),(8,vi k),(28,.bool false),(32,vi x),(38,vp (some (n.add (Int.toNat i*9))))] pk ?_
   refine T_q (some 39) (vp (some ((n.add (Int.toNat i*9)).add 1))) [(0,vp (some mA)),(1,vs (some j) d e),(5,vs lB lN lC),(6,vi i),(8,vi k),(28,.bool false),(32,vi x),(39,vp (some ((n.add (Int.toNat i*9)).add 1)))]<| T_q1 40 (vp (some ((n.add (Int.toNat i*9)).add 1))) [39] ?_
   obtain⟨o,q18,h⟩:=h
   exact iL (some 41) 3 q18 [40] [(41,vi o)]<| T_q1 42 (.bool (x==o)) [32,41]<| T_q1 43 (.bool (x==o)) [28,42]<| T_q1 7 (.bool (x==o)) [43]<| jp [(0,vp (some mA)),(1,vs (some j) d e),(5,vs lB lN lC),(6,vi i),(7,.bool (x==o)),(8,vi k)] sk<| rz (by kernel_rfl)<| aL<| aE<| T_rz 8<| T_ne 3 [(0,vp (some mA)),(1,vs (some j) d e),(5,vs lB lN lC),(6,vi i),(7,.bool (x==o)),(8,vi (zq (k+1)))]<| bG (((x==o),(zq (k+1))):Bool×Int) sk h
  rw[if_neg c10]at h
  refine aI 24 (zJ c10)<| zk 2<| aD<| aD<| aR<| aE<| ar 10<| T_ed 1 [7,8,24] [(44,.bool l)] ?_
  by_cases c19:l=true
  ·rw[if_pos c19]at h
   refine aH 44 c19<| T_rz 11<| T_nd 4 [5,44] [(45,vs lB lN lC),(48,vp (some (mA.add 1)))] ?_
   obtain⟨v,r,s,q21,h⟩:=h
   refine T_l1 49 75 q21 [48]<| T_nd 1 [] [(50,vi i)] ?_
   obtain⟨p,rfl,q22,h⟩:=h
   refine T_xd (some 51) 75 83 9 p r s .i64 i Tryz.underlying75 q22.1 q22.2 [49,50] [(51,vp (some (p.add (Int.toNat i*9))))]<| T_nd 1 [51] [(52,vp (some (p.add (Int.toNat i*9))))] ?_
   obtain⟨ab,q23,h⟩:=h
   refine T_l1 53 3 q23 [52]<| T_nw (some 54) (λb=>vs (pa b) 1 1) (.cells #[vi ab] 3) ?_
   intro b H3 e24 e25
   replace h:=h b H3 e24 e25
   refine T_pd [53] [(54,vs (pa b) 1 1)]<| N_op (some 55) (cS #[49,49] 49 #[vs lB lN lC,vs (pa b) 1 1]) _ (λ_=>by kernel_rfl) (bP (T:=3) (sz:=1) (bytes:=8) (zero:=(vi 0:Value)) Tryz.underlying49 Tryz.underlying49 rfl (show Tryz.prog.info? 3=some Tryz.t3 from by kernel_rfl) (by kernel_rfl) (by kernel_rfl) (by decide) (by kernel_rfl) (by first | exact h | (simpa only[Value.cells,List.toList_toArray]using h))) ?_;clear h
   rintro _ H4 ⟨ap,z,rfl,h⟩
   exact T_pd [45,54] [(55,vs ap (lN+1) z)]<| T_nd 1 [55] [(5,vs ap (lN+1) z)]<| zx<| aL<| aE<| T_rz 4<| T_ed 3 [6] [(6,vi (zq (i+1)))]<| bG ((ap,(lN+1),z,(zq (i+1))):zY×Nat×Nat×Int) sk h
  rw[if_neg c19]at h
  exact aI 44 (zZ c19)<| T_k<| aL<| aE<| T_rz 4<| T_ed 3 [6,44] [(6,vi (zq (i+1)))]<| bG ((lB,lN,lC,(zq (i+1))):zY×Nat×Nat×Int) sk h
 rw[if_neg c5]at h
 exact aI 15 (zJ c5)<| zk 0<| aD<| aD<| aR<| aE<| ar 12<| T_nr 2 [4] [vs lB lN lC] hQ h
end cL

/-! (*moraine/moraineref07.Mem).Read -/
namespace bL
def K0:=Func.code Tryz.f93
end bL
def bL.pt(m:zY)(e:Int)(H:zW)(R:zv):Prop:=
 bM.C m e H (λv H1=> ∃(ra rb:Int) (rc:Bool),v=.tuple #[.int .i64 ra,.int .i64 rb,.bool rc]/\
 if rc=true then(
 ∃mA:Addr,m=some mA/\
 ∃(xB:zY) (xN xC:Nat),hat H1 (mA.add 1)=some (.slice xB xN xC)/\
 ∃j:Addr,xB=some j/\
 yZ ra xN/\
 ∃(l:zY) (d f:Nat),hat H1 ((j.add (Int.toNat ra*9)).add 8)=some (.slice l d f)/\
 ∃b:Addr,l=some b/\
 yZ rb d/\
 ∃x:Int,hat H1 (b.add (Int.toNat rb*1))=some (.int .u64 x)/\
 R (.tuple #[.int .u64 x,.int .i64 0]) H1)
 else
 R (.tuple #[.int .u64 0,.int .i64 18]) H1)
namespace bL
theorem link{m:zY}{e:Int}{H:zW}{R:zv}(h:pt m e H R):C m e H R:=by
 refine T_en K0 29 Tryz.func93 ?_
 intro w0 Q hQ
 unfold pt at h
 refine T_su [(0,vp m),(1,vi e)]<| ar 0<| T_ed 2 [] []<| ar 1<| T_nd 2 [1] [(10,vp m),(11,vi e)]<| T_c (some 12) h ?_;clear h
 rintro v H1 ⟨ra,rb,rc,rfl,h⟩
 refine⟨[(0,vp m),(12,.tuple #[vi ra,vi rb,.bool rc])],pk,?_⟩
 refine T_ed 7 [12] [(6,vi ra),(7,vi rb),(8,.bool rc)]<| T_sz<| ar 2<| T_ed 2 [8] [(17,.bool (!rc))] ?_
 by_cases c1:rc=true
 ·rw[if_pos c1]at h
  refine aI 17 (congrArg Bool.not (c1))<| T_kt<| ar 4<| T_nd 1 [0,17] [(18,vp m)] ?_
  obtain⟨mA,rfl,h⟩:=h
  refine T_nd 2 [18] [(20,vp (some (mA.add 1)))] ?_
  obtain⟨xB,xN,xC,q3,h⟩:=h
  refine T_l1 21 75 q3 [20]<| T_nd 1 [6] [(22,vi ra)] ?_
  obtain⟨j,rfl,q4,h⟩:=h
  refine T_xd (some 23) 75 83 9 j xN xC .i64 ra Tryz.underlying75 q4.1 q4.2 [21,22] [(23,vp (some (j.add (Int.toNat ra*9))))]<| T_nd 1 [23] [(24,vp (some ((j.add (Int.toNat ra*9)).add 8)))] ?_
  obtain⟨l,d,f,q5,h⟩:=h
  refine T_l1 25 31 q5 [24]<| T_nd 1 [7] [(26,vi rb)] ?_
  obtain⟨b,rfl,q6,h⟩:=h
  refine T_ix (some 27) 31 33 1 b d f .i64 rb Tryz.underlying31 q6.1 q6.2 [(27,vp (some (b.add (Int.toNat rb*1))))] ?_
  obtain⟨x,q7,h⟩:=h
  exact T_l1 28 33 q7 [27]<| T_nr 2 [4,5] [vu x,vi 0] hQ h
 rw[if_neg c1]at h
 exact aH 17 (congrArg Bool.not (zZ c1))<| ar 3<| T_nr 2 [4,5] [vu 0,vi 18] hQ h
end bL

/-! (*moraine/moraineref07.Mem).Word -/
namespace bM
def K0:=Func.code Tryz.f95
end bM
def bM.pt(m:zY)(b:Int)(H:zW)(R:zv):Prop:=
 if b<0 then(
 R (.tuple #[.int .i64 0,.int .i64 0,.bool false]) H)
 else
 aZ.C m (zq (Int.tdiv b 64)) H (λv H1=> ∃x:Int,v=.int .i64 x/\
 if x<0 then(
 R (.tuple #[.int .i64 0,.int .i64 0,.bool false]) H1)
 else
 ∃mA:Addr,m=some mA/\
 ∃(xB:zY) (xN xC:Nat),hat H1 (mA.add 1)=some (.slice xB xN xC)/\
 ∃e:Addr,xB=some e/\
 yZ x xN/\
 ∃(j:zY) (d f:Nat),hat H1 ((e.add (Int.toNat x*9)).add 8)=some (.slice j d f)/\
 if(Int.tmod b 64)>=(d:Int)then(
 R (.tuple #[.int .i64 0,.int .i64 0,.bool false]) H1)
 else
 R (.tuple #[.int .i64 x,.int .i64 (Int.tmod b 64),.bool true]) H1)
namespace bM
theorem link{m:zY}{b:Int}{H:zW}{R:zv}(h:pt m b H R):C m b H R:=by
 refine T_en K0 33 Tryz.func95 ?_
 intro w0 Q hQ
 unfold pt zq at h
 refine T_su [(0,vp m),(1,vi b)]<| ar 0<| T_ed 3 [] []<| T_sz<| ar 1<| T_ed 2 [] [(9,.bool (decide (b<0)))] ?_
 by_cases c1:b<0
 ·rw[if_pos c1]at h
  exact aH 9 (zQ c1)<| ar 2<| T_nr 3 [4,5,6] [vi 0,vi 0,.bool false] hQ h
 rw[if_neg c1]at h
 refine aI 9 (zJ c1)<| T_kt<| ar 3<| T_nd 3 [9] [(10,vp m),(12,vi (zq (Int.tdiv b 64)))]<| T_c (some 13) h ?_;clear h
 rintro v H1 ⟨x,rfl,h⟩
 refine T_pd [10,12] [(13,vi x)]<| T_ed 1 [13] [(7,vi x)]<| T_sz<| ar 4<| T_nd 3 [] [(16,.bool (decide (x<0)))] ?_
 by_cases c3:x<0
 ·rw[if_pos c3]at h
  exact N_bd 16 (zQ c3)<| T_ed 13 [0,16] [(29,.bool true)]<| T_tz 29<| ar 5<| T_nr 3 [4,5,6] [vi 0,vi 0,.bool false] hQ h
 rw[if_neg c3]at h
 refine N_bd 16 (zJ c3)<| T_nd 3 [0] [(18,vi (Int.tmod b 64)),(19,vp m)] ?_
 obtain⟨mA,rfl,h⟩:=h
 refine T_nd 2 [19] [(21,vp (some (mA.add 1)))] ?_
 obtain⟨xB,xN,xC,q5,h⟩:=h
 refine T_l1 22 75 q5 [21]<| T_nd 1 [] [(23,vi x)] ?_
 obtain⟨e,rfl,q6,h⟩:=h
 refine T_xd (some 24) 75 83 9 e xN xC .i64 x Tryz.underlying75 q6.1 q6.2 [22,23] [(24,vp (some (e.add (Int.toNat x*9))))]<| T_nd 1 [24] [(25,vp (some ((e.add (Int.toNat x*9)).add 8)))] ?_
 obtain⟨j,d,f,q7,h⟩:=h
 refine T_l1 26 31 q7 [25]<| T_ed 3 [16,18,26] [(29,.bool (decide ((Int.tmod b 64)>=(d:Int))))] ?_
 by_cases c8:(Int.tmod b 64)>=(d:Int)
 ·rw[if_pos c8]at h
  exact aH 29 (zQ c8)<| ar 5<| T_nr 3 [4,5,6] [vi 0,vi 0,.bool false] hQ h
 rw[if_neg c8]at h
 exact aI 29 (zJ c8)<| T_kt<| ar 6<| T_nr 6 [4,5,6] [vi x,vi (Int.tmod b 64),.bool true] hQ h
end bM

/-! moraine/moraineref07.New -/
namespace fy
def K0:=Func.code Tryz.f111
end fy
def fy.pt(a:Int)(H:zW)(R:zv):Prop:=
 if((decide (a<8)) || (decide (a>1024)))=true then(
 R (.pointer none) H)
 else
 ∀(b:Nat) (H1:zW),b=H.size->H1=H.push (.cells #[.int .i64 a,.slice none 0 0] 77)->
 R (.pointer (some (ad b))) H1
namespace fy
theorem link{a:Int}{H:zW}{R:zv}(h:pt a H R):C a H R:=by
 refine T_en K0 12 Tryz.func111 ?_
 intro w0 Q hQ
 unfold pt at h
 refine T_su [(0,vi a)]<| ar 0<| T_ed 1 [] []<| T_sz<| ar 1 ?_
 refine gp [(0,vi a),(8,.bool ((decide (a<8)) || (decide (a>1024))))] ?_ ?_
 ·refine aE ?_
  by_cases c3:((decide (a<8)) || (decide (a>1024)))=true
  ·rw[if_pos c3]at h
   exact aH 8 c3<| ar 2<| T_nr 1 [2] [vp none] hQ h
  rw[if_neg c3]at h
  refine aI 8 (zZ c3)<| T_kt<| ar 3<| T_n 2 [(10,.agg #[vi a,vs none 0 0])]<| T_nw (some 11) (λb=>vp (pa b)) (.cells #[vi a,vs none 0 0] 77) ?_
  intro b H1 e5 e6
  replace h:=h b H1 e5 e6
  refine⟨[(11,vp (pa b))],pk,?_⟩
  exact T_nr 1 [2] [vp (pa b)] hQ h
 intro hk
 refine T_n 3 [(0,vi a),(5,.bool (decide (a<8)))] ?_
 by_cases c1:a<8
 ·have b2:(decide (a<8))=true:=zQ c1
  refine bV [(0,vi a),(5,.bool true)] (by rw[b2]) ?_
  refine T_nd 3 [5] [(8,.bool true)]<| zx<| S_bd 8 (b:=true) (v:=((decide (a<8)) || (decide (a>1024)))) (by simp only[b2,BL]) ?_
  exact hk
 have b2:(decide (a<8))=false:=zJ c1
 refine bV [(0,vi a),(5,.bool false)] (by rw[b2]) ?_
 refine T_nd 3 [5] [(8,.bool (decide (a>1024)))]<| zx<| S_bd 8 (b:=(decide (a>1024))) (v:=((decide (a<8)) || (decide (a>1024)))) (by simp only[b2,BL]) ?_
 exact hk
end fy

/-! (*moraine/moraineref07.Mem).Write -/
namespace cD
def K0:=Func.code Tryz.f121
end cD
def cD.pt(m:zY)(e wv:Int)(H:zW)(R:zv):Prop:=
 bM.C m e H (λv H1=> ∃(ra rb:Int) (rc:Bool),v=.tuple #[.int .i64 ra,.int .i64 rb,.bool rc]/\
 if rc=true then(
 ∃mA:Addr,m=some mA/\
 ∃(xB:zY) (xN xC:Nat),hat H1 (mA.add 1)=some (.slice xB xN xC)/\
 ∃j:Addr,xB=some j/\
 yZ ra xN/\
 ∃(l:zY) (d f:Nat),hat H1 ((j.add (Int.toNat ra*9)).add 8)=some (.slice l d f)/\
 ∃b:Addr,l=some b/\
 yZ rb d/\
 (aJ H1 (b.add (Int.toNat rb*1)) 0 1)/\ ∀H2,H2=aP H1 (b.add (Int.toNat rb*1)) [.int .u64 wv] 0->
 R (.int .i64 0) H2)
 else
 R (.int .i64 18) H1)
namespace cD
theorem link{m:zY}{e wv:Int}{H:zW}{R:zv}(h:pt m e wv H R):C m e wv H R:=by
 refine T_en K0 30 Tryz.func121 ?_
 intro w0 Q hQ
 unfold pt at h
 refine T_su [(0,vp m),(1,vi e),(2,vu wv)]<| ar 0<| T_ed 1 [] []<| ar 1<| T_nd 2 [1] [(11,vp m),(12,vi e)]<| T_c (some 13) h ?_;clear h
 rintro v H1 ⟨ra,rb,rc,rfl,h⟩
 refine T_pd [11,12] [(13,.tuple #[vi ra,vi rb,.bool rc])]<| T_ed 7 [13] [(7,vi ra),(8,vi rb),(9,.bool rc)]<| T_sz<| ar 2<| T_ed 2 [9] [(18,.bool (!rc))] ?_
 by_cases c1:rc=true
 ·rw[if_pos c1]at h
  refine aI 18 (congrArg Bool.not (c1))<| T_kt<| ar 4<| T_nd 1 [0,18] [(19,vp m)] ?_
  obtain⟨mA,rfl,h⟩:=h
  refine T_nd 2 [19] [(21,vp (some (mA.add 1)))] ?_
  obtain⟨xB,xN,xC,q3,h⟩:=h
  refine T_l1 22 75 q3 [21]<| T_nd 1 [7] [(23,vi ra)] ?_
  obtain⟨j,rfl,q4,h⟩:=h
  refine T_xd (some 24) 75 83 9 j xN xC .i64 ra Tryz.underlying75 q4.1 q4.2 [22,23] [(24,vp (some (j.add (Int.toNat ra*9))))]<| T_nd 1 [24] [(25,vp (some ((j.add (Int.toNat ra*9)).add 8)))] ?_
  obtain⟨l,d,f,q5,h⟩:=h
  refine T_l1 26 31 q5 [25]<| T_nd 2 [2,8] [(27,vi rb),(28,vu wv)] ?_
  obtain⟨b,rfl,q6,h⟩:=h
  refine T_xd (some 29) 31 33 1 b d f .i64 rb Tryz.underlying31 q6.1 q6.2 [26,27] [(29,vp (some (b.add (Int.toNat rb*1))))] ?_
  obtain⟨q8,h⟩:=h
  refine je 33 (vu wv) q8 ?_
  intro H2 e7
  replace h:=h H2 e7
  refine⟨[],pk,?_⟩
  exact T_e<| ar 5<| T_nr 1 [6] [vi 0] hQ h
 rw[if_neg c1]at h
 exact aH 18 (congrArg Bool.not (zZ c1))<| ar 3<| T_nr 1 [6] [vi 18] hQ h
end cD

/-! (*moraine/moraineref07.Mem).Place -/
namespace aZ
def K0:=Func.code Tryz.f128
def K2:=cb K0
def K3:=ca K2
def K6:=cb K3
def K7:=ca K6
def K8:=ca K7
end aZ
def aZ.pt(m:zY)(b:Int)(H:zW)(R:zv):Prop:=
 ∃(I9:zw) (m9:Int->zW->Nat),I9 0 H/\ ∀(i:Int) (H1:zW),I9 i H1->
 ∃mA:Addr,m=some mA/\
 ∃(xB:zY) (xN xC:Nat),hat H1 (mA.add 1)=some (.slice xB xN xC)/\
 if i< (xN:Int)then(
 ∃(j:zY) (e f:Nat),hat H1 (mA.add 1)=some (.slice j e f)/\
 ∃d:Addr,j=some d/\
 yZ i e/\
 ∃x:Int,hat H1 (d.add (Int.toNat i*9))=some (.int .i64 x)/\
 if x=b then(
 R (.int .i64 i) H1)
 else
 (I9 (zq (i+1)) H1/\m9 (zq (i+1)) H1<m9 i H1))
 else
 R (.int .i64 (-1)) H1
namespace aZ
theorem link{m:zY}{b:Int}{H:zW}{R:zv}(h:pt m b H R):C m b H R:=by
 refine T_en K0 26 Tryz.func128 ?_
 intro w0 Q hQ
 unfold pt zq at h
 refine T_su [(0,vp m),(1,vi b)]<| ar 0<| T_ed 1 [] []<| T_sz<| ar 1<| T_ed 1 [] [(5,vi 0)]<| T_bz 0 ?_
 obtain⟨I9,m9,i1,i2⟩:=h
 refine dS (x:=K8) (σ:=Int) (λs_=> [(0,vp m),(1,vi b),(5,vi s_)]) (λs_ H=>I9 s_ H) (λs_ H=>m9 s_ H) (0:Int) (by kernel_rfl) i1 sk ?_
 rintro i H1 i3
 have h:=i2 i H1 i3
 refine T_su [(0,vp m),(1,vi b),(5,vi i)]<| T_sz<| ar 2<| T_nd 2 [] [(6,vi i),(7,vp m)] ?_
 obtain⟨mA,rfl,h⟩:=h
 refine T_nd 2 [0,7] [(0,vp (some mA)),(9,vp (some (mA.add 1)))] ?_
 obtain⟨xB,xN,xC,q4,h⟩:=h
 refine T_l1 10 75 q4 [9]<| T_ed 2 [6,10] [(12,.bool (decide (i< (xN:Int))))] ?_
 by_cases c5:i< (xN:Int)
 ·rw[if_pos c5]at h
  refine aH 12 (zQ c5)<| T_kt<| T_sz<| T_bz 1<| ar 4<| T_nd 3 [12] [(17,vp (some (mA.add 1)))] ?_
  obtain⟨j,e,f,q7,h⟩:=h
  refine T_l1 18 75 q7 [17]<| T_nd 1 [] [(19,vi i)] ?_
  obtain⟨d,rfl,q8,h⟩:=h
  refine T_xd (some 20) 75 83 9 d e f .i64 i Tryz.underlying75 q8.1 q8.2 [18,19] [(20,vp (some (d.add (Int.toNat i*9))))]<| T_nd 1 [20] [(21,vp (some (d.add (Int.toNat i*9))))] ?_
  obtain⟨x,q9,h⟩:=h
  refine T_l1 22 3 q9 [21]<| T_ed 2 [22] [(24,.bool (x==b))] ?_
  by_cases c10:x=b
  ·rw[if_pos c10]at h
   exact aH 24 (zV c10)<| ar 5<| T_nr 2 [4] [vi i] hQ h
  rw[if_neg c10]at h
  exact aI 24 (zK c10)<| T_k<| aL<| aE<| T_rz 3<| T_ed 3 [5,24] [(5,vi (zq (i+1)))]<| bG ((zq (i+1)):Int) sk h
 rw[if_neg c5]at h
 exact aI 12 (zJ c5)<| zk 0<| aD<| aD<| aR<| aE<| ar 6<| T_nr 1 [4] [vi (-1)] hQ h
end aZ

/-! (*moraine/moraineref07.Mem).Bump -/
namespace bU
def K0:=Func.code Tryz.f151
def K2:=cb K0
def K4:=cb K2
def K6:=cb K4
def K14:=cb K6
def K22:=cb K14
def K24:=cb K22
def K32:=cb K24
def K33:=ca K32
def K36:=cb K33
def K37:=ca K36
def K38:=ca K37
end bU
def bU.pt(m:zY)(e nv:Int)(H:zW)(R:zv):Prop:=
 aZ.C m e H (λv H1=> ∃x:Int,v=.int .i64 x/\
 if x<0 then(
 R (.tuple #[.int .i64 0,.int .i64 19]) H1)
 else
 if nv<1 then(
 R (.tuple #[.int .i64 0,.int .i64 1]) H1)
 else
 ∃mA:Addr,m=some mA/\
 ∃(xB:zY) (xN xC:Nat),hat H1 (mA.add 1)=some (.slice xB xN xC)/\
 ∃d:Addr,xB=some d/\
 yZ x xN/\
 if nv>64 then(
 R (.tuple #[.int .i64 0,.int .i64 2]) H1)
 else
 ∃(z:zY) (l y:Nat),hat H1 ((d.add (Int.toNat x*9)).add 8)=some (.slice z l y)/\
 if(zq ((l:Int)+nv))>64 then(
 R (.tuple #[.int .i64 0,.int .i64 2]) H1)
 else
 ∃(s:zY) (f u:Nat),hat H1 ((d.add (Int.toNat x*9)).add 8)=some (.slice s f u)/\
 ∃(ab:zw) (m39:Int->zW->Nat),ab 0 H1/\ ∀(i:Int) (H2:zW),ab i H2->
 if i<nv then(
 ∃(p:zY) (j o:Nat),hat H2 ((d.add (Int.toNat x*9)).add 8)=some (.slice p j o)/\
 ∀(b:Nat) (H3:zW),b=H2.size->H3=H2.push (.cells #[.int .u64 0] 33)->
 bW 1 33 8 [.int .u64 0] p j o (some (ad b)) 1 H3 (λap q H4=>
 (aJ H4 ((d.add (Int.toNat x*9)).add 8) 0 1)/\ ∀H5,H5=aP H4 ((d.add (Int.toNat x*9)).add 8) [.slice ap (j+1) q] 0->
 (ab (zq (i+1)) H5/\m39 (zq (i+1)) H5<m39 i H2)))
 else
 ∃(r:zY) (n aa:Nat),hat H2 ((d.add (Int.toNat x*9)).add 8)=some (.slice r n aa)/\
 (aJ H2 (((d.add (Int.toNat x*9)).add 1).add 2) 0 1)/\ ∀H6,H6=aP H2 (((d.add (Int.toNat x*9)).add 1).add 2) [.int .i64 (n:Int)] 0->
 R (.tuple #[.int .i64 (zq ((zq (e*64))+(f:Int))),.int .i64 0]) H6)
namespace bU
theorem link{m:zY}{e nv:Int}{H:zW}{R:zv}(h:pt m e nv H R):C m e nv H R:=by
 refine T_en K0 69 Tryz.func151 ?_
 intro w0 Q hQ
 unfold pt zq at h
 refine T_su [(0,vp m),(1,vi e),(2,vi nv)]<| ar 0<| T_ed 2 [] []<| ar 1<| T_nd 2 [] [(12,vp m),(13,vi e)]<| T_c (some 14) h ?_;clear h
 rintro v H1 ⟨x,rfl,h⟩
 refine T_pd [12,13] [(14,vi x)]<| T_ed 1 [14] [(8,vi x)]<| T_sz<| ar 2<| T_ed 2 [] [(16,.bool (decide (x<0)))] ?_
 by_cases c1:x<0
 ·rw[if_pos c1]at h
  exact aH 16 (zQ c1)<| ar 3<| T_nr 2 [6,7] [vi 0,vi 19] hQ h
 rw[if_neg c1]at h
 refine aI 16 (zJ c1)<| T_kt<| T_sz<| ar 4<| T_ed 2 [16] [(18,.bool (decide (nv<1)))] ?_
 by_cases c3:nv<1
 ·rw[if_pos c3]at h
  exact aH 18 (zQ c3)<| ar 5<| T_nr 2 [6,7] [vi 0,vi 1] hQ h
 rw[if_neg c3]at h
 refine aI 18 (zJ c3)<| T_kt<| ar 6<| T_nd 1 [0,18] [(19,vp m)] ?_
 obtain⟨mA,rfl,h⟩:=h
 refine T_nd 2 [19] [(21,vp (some (mA.add 1)))] ?_
 obtain⟨xB,xN,xC,q5,h⟩:=h
 refine T_l1 22 75 q5 [21]<| T_nd 1 [8] [(23,vi x)] ?_
 obtain⟨d,rfl,q6,h⟩:=h
 refine T_xd (some 24) 75 83 9 d xN xC .i64 x Tryz.underlying75 q6.1 q6.2 [22,23] [(24,vp (some (d.add (Int.toNat x*9))))]<| T_ed 1 [24] [(9,vp (some (d.add (Int.toNat x*9))))]<| T_sz<| ar 7<| T_nd 3 [] [(27,.bool (decide (nv>64)))] ?_
 by_cases c7:nv>64
 ·rw[if_pos c7]at h
  exact N_bd 27 (zQ c7)<| T_ed 9 [27] [(36,.bool true)]<| T_tz 36<| ar 8<| T_nr 2 [6,7] [vi 0,vi 2] hQ h
 rw[if_neg c7]at h
 refine N_bd 27 (zJ c7)<| T_nd 3 [] [(30,vp (some ((d.add (Int.toNat x*9)).add 8)))] ?_
 obtain⟨z,l,y,q9,h⟩:=h
 refine T_l1 31 31 q9 [30]<| T_ed 5 [27,31] [(36,.bool (decide ((zq ((l:Int)+nv))>64)))] ?_
 by_cases c10:(zq ((l:Int)+nv))>64
 ·rw[if_pos c10]at h
  exact aH 36 (zQ c10)<| ar 8<| T_nr 2 [6,7] [vi 0,vi 2] hQ h
 rw[if_neg c10]at h
 refine aI 36 (zJ c10)<| T_kt<| ar 9<| T_nd 5 [1,36] [(38,vi (zq (e*64))),(41,vp (some ((d.add (Int.toNat x*9)).add 8)))] ?_
 obtain⟨s,f,u,q12,h⟩:=h
 refine T_l1 42 31 q12 [41]<| T_ed 3 [38,42] [(10,vi (zq ((zq (e*64))+(f:Int))))]<| T_sz<| ar 10<| T_ed 1 [] [(11,vi 0)]<| T_bz 0 ?_
 obtain⟨ab,m39,i13,i14⟩:=h
 refine dS (x:=K38) (σ:=Int) (λs_=> [(2,vi nv),(9,vp (some (d.add (Int.toNat x*9)))),(10,vi (zq ((zq (e*64))+(f:Int)))),(11,vi s_)]) (λs_ H=>ab s_ H) (λs_ H=>m39 s_ H) (0:Int) (by kernel_rfl) i13 sk ?_
 rintro i H2 i15
 have h:=i14 i H2 i15
 refine T_su [(2,vi nv),(9,vp (some (d.add (Int.toNat x*9)))),(10,vi (zq ((zq (e*64))+(f:Int)))),(11,vi i)]<| T_sz<| ar 11<| T_ed 3 [] [(47,.bool (decide (i<nv)))] ?_
 by_cases c16:i<nv
 ·rw[if_pos c16]at h
  refine aH 47 (zQ c16)<| T_kt<| T_sz<| T_bz 1<| T_rz 13<| T_nd 4 [47] [(50,vp (some (d.add (Int.toNat x*9)))),(53,vp (some ((d.add (Int.toNat x*9)).add 8)))] ?_
  obtain⟨p,j,o,q18,h⟩:=h
  refine T_l1 54 31 q18 [53]<| T_nw (some 55) (λb=>vs (pa b) 1 1) (.cells #[vu 0] 33) ?_
  intro b H3 e19 e20
  replace h:=h b H3 e19 e20
  refine T_pd [] [(55,vs (pa b) 1 1)]<| N_op (some 56) (cS #[31,31] 31 #[vs p j o,vs (pa b) 1 1]) _ (λ_=>by kernel_rfl) (bP (T:=33) (sz:=1) (bytes:=8) (zero:=(vu 0:Value)) Tryz.underlying31 Tryz.underlying31 rfl (show Tryz.prog.info? 33=some Tryz.t33 from by kernel_rfl) (by kernel_rfl) (by kernel_rfl) (by decide) (by kernel_rfl) (by first | exact h | (simpa only[Value.cells,List.toList_toArray]using h))) ?_;clear h
  rintro _ H4 ⟨ap,q,rfl,h⟩
  refine T_pd [54,55] [(56,vs ap (j+1) q)]<| T_nd 2 [50] [(58,vp (some ((d.add (Int.toNat x*9)).add 8)))] ?_
  obtain⟨q22,h⟩:=h
  refine je 31 (vs ap (j+1) q) q22 ?_
  intro H5 e21
  replace h:=h H5 e21
  exact T_pd [56,58] []<| zx<| aL<| aE<| T_rz 12<| T_ed 3 [11] [(11,vi (zq (i+1)))]<| bG ((zq (i+1)):Int) sk h
 rw[if_neg c16]at h
 refine aI 47 (zJ c16)<| zk 0<| aD<| aD<| aR<| aE<| ar 14<| T_nd 4 [2,9,11,47] [(59,vp (some (d.add (Int.toNat x*9)))),(62,vp (some ((d.add (Int.toNat x*9)).add 8)))] ?_
 obtain⟨r,n,aa,q23,h⟩:=h
 refine T_l1 63 31 q23 [62]<| T_nd 4 [59,63] [(64,vi n),(67,vp (some (((d.add (Int.toNat x*9)).add 1).add 2)))] ?_
 obtain⟨q25,h⟩:=h
 refine je 3 (vi n) q25 ?_
 intro H6 e24
 replace h:=h H6 e24
 exact T_pd [64,67] []<| T_e<| ar 15<| T_nr 3 [6,7] [vi (zq ((zq (e*64))+(f:Int))),vi 0] hQ h
end bU

/-! (*moraine/moraineref07.Mem).Take -/
namespace cX
def K0:=Func.code Tryz.f152
def K2:=cb K0
def K4:=cb K2
def K11:=ca K4
def K14:=cb K11
def K15:=ca K14
def K16:=ca K15
end cX
def cX.pt(m:zY)(d a:Int)(H:zW)(R:zv):Prop:=
 if((((decide (d<0)) || (decide (d>4))) || (decide (a<0))) || (decide (a>3)))=true then(
 R (.tuple #[.int .i64 0,.int .i64 1]) H)
 else
 ∃(i:zw) (m17:Int->zW->Nat),i 0 H/\ ∀(k:Int) (H1:zW),i k H1->
 ∃mA:Addr,m=some mA/\
 ∃x:Int,hat H1 mA=some (.int .i64 x)/\
 if k<x then(
 aZ.C (some mA) k H1 (λv H2=> ∃e:Int,v=.int .i64 e/\
 if e<0 then(
 ∃(xB:zY) (xN xC:Nat),hat H2 (mA.add 1)=some (.slice xB xN xC)/\
 ∀(b:Nat) (H3:zW),b=H2.size->H3=H2.push (.cells #[.int .i64 k,.int .i64 d,.int .i64 a,.int .i64 0,.int .i64 5,.int .i64 5,.int .i64 5,.int .i64 5,.slice none 0 0] 83)->
 bW 9 83 88 [.int .i64 0,.int .i64 0,.int .i64 0,.int .i64 0,.int .i64 0,.int .i64 0,.int .i64 0,.int .i64 0,.slice none 0 0] xB xN xC (some (ad b)) 1 H3 (λap f H4=>
 (aJ H4 (mA.add 1) 0 1)/\ ∀H5,H5=aP H4 (mA.add 1) [.slice ap (xN+1) f] 0->
 R (.tuple #[.int .i64 k,.int .i64 0]) H5))
 else
 (i (zq (k+1)) H2/\m17 (zq (k+1)) H2<m17 k H1)))
 else
 R (.tuple #[.int .i64 0,.int .i64 2]) H1
namespace cX
theorem link{m:zY}{d a:Int}{H:zW}{R:zv}(h:pt m d a H R):C m d a H R:=by
 refine T_en K0 51 Tryz.func152 ?_
 intro w0 Q hQ
 unfold pt zq at h
 refine T_su [(0,vp m),(1,vi d),(2,vi a)]<| ar 0<| T_ed 2 [] []<| T_sz<| ar 1 ?_
 refine gp [(0,vp m),(1,vi d),(2,vi a),(22,.bool ((((decide (d<0)) || (decide (d>4))) || (decide (a<0))) || (decide (a>3))))] ?_ ?_
 ·refine aE ?_
  by_cases c7:((((decide (d<0)) || (decide (d>4))) || (decide (a<0))) || (decide (a>3)))=true
  ·rw[if_pos c7]at h
   exact aH 22 c7<| ar 2<| T_nr 2 [6,7] [vi 0,vi 1] hQ h
  rw[if_neg c7]at h
  refine aI 22 (zZ c7)<| T_kt<| T_sz<| ar 3<| T_ne 1 [(0,vp m),(1,vi d),(2,vi a),(8,vi 0)]<| T_bz 0 ?_
  obtain⟨i,m17,i9,i10⟩:=h
  refine dS (x:=K16) (σ:=Int) (λs_=> [(0,vp m),(1,vi d),(2,vi a),(8,vi s_)]) (λs_ H=>i s_ H) (λs_ H=>m17 s_ H) (0:Int) (by kernel_rfl) i9 sk ?_
  rintro k H1 i11
  have h:=i10 k H1 i11
  refine T_su [(0,vp m),(1,vi d),(2,vi a),(8,vi k)]<| T_sz<| ar 4<| T_nd 2 [] [(23,vi k),(24,vp m)] ?_
  obtain⟨mA,rfl,h⟩:=h
  refine T_nd 2 [0,24] [(0,vp (some mA)),(26,vp (some mA))] ?_
  obtain⟨x,q12,h⟩:=h
  refine T_l1 27 3 q12 [26]<| T_ed 1 [23,27] [(28,.bool (decide (k<x)))] ?_
  by_cases c13:k<x
  ·rw[if_pos c13]at h
   refine aH 28 (zQ c13)<| T_kt<| T_sz<| T_bz 1<| ar 6<| T_nd 2 [28] [(31,vp (some mA)),(32,vi k)]<| T_c (some 33) h ?_;clear h
   rintro v H2 ⟨e,rfl,h⟩
   refine T_pd [31,32] [(33,vi e)]<| T_ed 1 [33] [(34,.bool (decide (e<0)))] ?_
   by_cases c15:e<0
   ·rw[if_pos c15]at h
    refine aH 34 (zQ c15)<| ar 7<| T_nd 4 [0,34] [(35,vp (some mA)),(38,vp (some (mA.add 1)))] ?_
    obtain⟨xB,xN,xC,q17,h⟩:=h
    refine T_l1 39 75 q17 [38]<| T_nd 6 [1,2] [(45,.agg #[vi k,vi d,vi a,vi 0,vi 5,vi 5,vi 5,vi 5,vs none 0 0])]<| T_nw (some 46) (λb=>vs (pa b) 1 1) (.cells #[vi k,vi d,vi a,vi 0,vi 5,vi 5,vi 5,vi 5,vs none 0 0] 83) ?_
    intro b H3 e18 e19
    replace h:=h b H3 e18 e19
    refine T_pd [45] [(46,vs (pa b) 1 1)]<| N_op (some 47) (cS #[75,75] 75 #[vs xB xN xC,vs (pa b) 1 1]) _ (λ_=>by kernel_rfl) (bP (T:=83) (sz:=9) (bytes:=88) (zero:=(.agg #[vi 0,vi 0,vi 0,vi 0,vi 0,vi 0,vi 0,vi 0,vs none 0 0]:Value)) Tryz.underlying75 Tryz.underlying75 rfl (show Tryz.prog.info? 83=some Tryz.t83 from by kernel_rfl) (by kernel_rfl) (by kernel_rfl) (by decide) (by kernel_rfl) (by first | exact h | (simpa only[Value.cells,List.toList_toArray]using h))) ?_;clear h
    rintro _ H4 ⟨ap,f,rfl,h⟩
    refine T_pd [39,46] [(47,vs ap (xN+1) f)]<| T_nd 2 [35] [(49,vp (some (mA.add 1)))] ?_
    obtain⟨q21,h⟩:=h
    refine je 75 (vs ap (xN+1) f) q21 ?_
    intro H5 e20
    replace h:=h H5 e20
    refine⟨[(8,vi k)],pk,?_⟩
    exact T_e<| ar 8<| T_nr 3 [6,7] [vi k,vi 0] hQ h
   rw[if_neg c15]at h
   exact aI 34 (zJ c15)<| T_k<| aL<| aE<| T_rz 5<| T_ed 3 [8,34] [(8,vi (zq (k+1)))]<| bG ((zq (k+1)):Int) sk h
  rw[if_neg c13]at h
  exact aI 28 (zJ c13)<| zk 0<| aD<| aD<| aR<| aE<| ar 9<| T_nr 2 [6,7] [vi 0,vi 2] hQ h
 intro hk
 refine T_n 3 [(0,vp m),(1,vi d),(2,vi a),(11,.bool (decide (d<0)))] ?_
 by_cases c1:d<0
 ·have b2:(decide (d<0))=true:=zQ c1
  refine bV [(0,vp m),(1,vi d),(2,vi a),(11,.bool true)] (by rw[b2]) ?_
  refine T_nd 11 [11] [(22,.bool true)]<| zx<| S_bd 22 (b:=true) (v:=((((decide (d<0)) || (decide (d>4))) || (decide (a<0))) || (decide (a>3)))) (by simp only[b2,BL]) ?_
  exact hk
 have b2:(decide (d<0))=false:=zJ c1
 refine bV [(0,vp m),(1,vi d),(2,vi a),(11,.bool false)] (by rw[b2]) ?_
 refine T_nd 4 [11] [(15,.bool (decide (d>4)))] ?_
 by_cases c3:d>4
 ·have b4:(decide (d>4))=true:=zQ c3
  refine N_bd 15 b4<| T_nd 7 [15] [(22,.bool true)] ?_
  refine zx<| S_bd 22 (b:=true) (v:=((((decide (d<0)) || (decide (d>4))) || (decide (a<0))) || (decide (a>3)))) (by simp only[b2,b4,BL]) ?_
  exact hk
 have b4:(decide (d>4))=false:=zJ c3
 refine N_bd 15 b4<| T_nd 4 [15] [(19,.bool (decide (a<0)))] ?_
 by_cases c5:a<0
 ·have b6:(decide (a<0))=true:=zQ c5
  refine N_bd 19 b6<| T_nd 3 [19] [(22,.bool true)] ?_
  refine zx<| S_bd 22 (b:=true) (v:=((((decide (d<0)) || (decide (d>4))) || (decide (a<0))) || (decide (a>3)))) (by simp only[b2,b4,b6,BL]) ?_
  exact hk
 have b6:(decide (a<0))=false:=zJ c5
 refine N_bd 19 b6<| T_nd 3 [19] [(22,.bool (decide (a>3)))] ?_
 refine zx<| S_bd 22 (b:=(decide (a>3))) (v:=((((decide (d<0)) || (decide (d>4))) || (decide (a<0))) || (decide (a>3)))) (by simp only[b2,b4,b6,BL]) ?_
 exact hk
end cX

