/- Printed: what each function asks, and that it is sound. -/
import Derived.Test.YtffacgdneichhaaGreatDoorFnsC
set_option linter.unusedSimpArgs false
set_option linter.unusedVariables false
set_option maxRecDepth 100000
set_option maxHeartbeats 1000000
noncomputable section
namespace Go.Proofs.YtffacgdneichhaaGreatDoor
open Go
/-! moraine/moraineref03.Runes -/
namespace cH
def K0:=Func.code Tryz.f32
def K2:=cb K0
def K4:=cb K2
def K5:=ca K4
def K8:=cb K5
def K9:=ca K8
def K10:=ca K9
def K12:=cb K10
def K17:=ca K12
def K19:=cb K17
def K21:=cb K19
def K28:=cb K21
def K35:=ca K28
def K38:=cb K35
def K39:=ca K38
def K40:=ca K39
end cH
def cH.pt(s:ByteArray)(H:zV)(R:zk):Prop:=
 ∃(z:zW->Nat->Nat->zv) (m11:zW->Nat->Nat->Int->zV->Nat),z none 0 0 0 H/\ ∀(a:zW) (outN:Nat) (outC:Nat) (i:Int) (H1:zV),z a outN outC i H1->
 if i< (s.size:Int)then(
 ∃c:UInt8,((0:Int)<=i/\s[Int.toNat i]?=some c)/\
 ∃J:Int->zv,(
 if(IntKind.wrap .i32 ((c.toNat:Nat):Int))<128 then(
 J 1 (IntKind.wrap .i32 ((c.toNat:Nat):Int)) H1)
 else
 if((decide ((IntKind.wrap .i32 ((c.toNat:Nat):Int))>=194)) && (decide ((IntKind.wrap .i32 ((c.toNat:Nat):Int))<224)))=true then(
 J 2 (iand .i32 (IntKind.wrap .i32 ((c.toNat:Nat):Int)) 31) H1)
 else
 if((decide ((IntKind.wrap .i32 ((c.toNat:Nat):Int))>=224)) && (decide ((IntKind.wrap .i32 ((c.toNat:Nat):Int))<240)))=true then(
 J 3 (iand .i32 (IntKind.wrap .i32 ((c.toNat:Nat):Int)) 15) H1)
 else
 if((decide ((IntKind.wrap .i32 ((c.toNat:Nat):Int))>=240)) && (decide ((IntKind.wrap .i32 ((c.toNat:Nat):Int))<245)))=true then(
 J 4 (iand .i32 (IntKind.wrap .i32 ((c.toNat:Nat):Int)) 7) H1)
 else
 R (.tuple #[.slice none 0 0,.bool false]) H1)/\ ∀(nv:Int) (c_2:Int) (H2:zV),J nv c_2 H2->
 if(zY (i+nv))>(s.size:Int)then(
 R (.tuple #[.slice none 0 0,.bool false]) H2)
 else
 ∃(af:Int->zv) (m41:Int->Int->zV->Nat),af c_2 1 H2/\ ∀(d:Int) (k:Int) (H3:zV),af d k H3->
 if k<nv then(
 ∃y:UInt8,((0:Int)<=(zY (i+k))/\s[Int.toNat (zY (i+k))]?=some y)/\
 if(iand .u8 ((y.toNat:Nat):Int) 192)=128 then(
 ∃u:UInt8,((0:Int)<=(zY (i+k))/\s[Int.toNat (zY (i+k))]?=some u)/\
 (af (ior .i32 (ishl .i32 d 6) (IntKind.wrap .i32 (iand .u8 ((u.toNat:Nat):Int) 63))) (zY (k+1)) H3/\m41 (ior .i32 (ishl .i32 d 6) (IntKind.wrap .i32 (iand .u8 ((u.toNat:Nat):Int) 63))) (zY (k+1)) H3<m41 d k H3))
 else
 R (.tuple #[.slice none 0 0,.bool false]) H3)
 else
 if nv=3 then(
 if d<2048 then(
 R (.tuple #[.slice none 0 0,.bool false]) H3)
 else
 if nv=4 then(
 if d<65536 then(
 R (.tuple #[.slice none 0 0,.bool false]) H3)
 else
 bP.C d H3 (λv H4=> ∃x:Bool,v=.bool x/\
 if x=true then(
 ∀(b:Nat) (H5:zV),b=H4.size->H5=H4.push (.cells #[.int .i32 d] 21)->
 dw 1 21 4 [.int .i32 0] a outN outC (some (ad b)) 1 H5 (λap aa H6=>
 (z ap (outN+1) aa (zY (i+nv)) H6/\m11 ap (outN+1) aa (zY (i+nv)) H6<m11 a outN outC i H1)))
 else
 R (.tuple #[.slice none 0 0,.bool false]) H4))
 else
 bP.C d H3 (λam H7=> ∃l:Bool,am=.bool l/\
 if l=true then(
 ∀(ab:Nat) (H8:zV),ab=H7.size->H8=H7.push (.cells #[.int .i32 d] 21)->
 dw 1 21 4 [.int .i32 0] a outN outC (some (ad ab)) 1 H8 (λr j H9=>
 (z r (outN+1) j (zY (i+nv)) H9/\m11 r (outN+1) j (zY (i+nv)) H9<m11 a outN outC i H1)))
 else
 R (.tuple #[.slice none 0 0,.bool false]) H7))
 else
 if nv=4 then(
 if d<65536 then(
 R (.tuple #[.slice none 0 0,.bool false]) H3)
 else
 bP.C d H3 (λal ag=> ∃o:Bool,al=.bool o/\
 if o=true then(
 ∀(ae:Nat) (H11:zV),ae=ag.size->H11=ag.push (.cells #[.int .i32 d] 21)->
 dw 1 21 4 [.int .i32 0] a outN outC (some (ad ae)) 1 H11 (λq g ai=>
 (z q (outN+1) g (zY (i+nv)) ai/\m11 q (outN+1) g (zY (i+nv)) ai<m11 a outN outC i H1)))
 else
 R (.tuple #[.slice none 0 0,.bool false]) ag))
 else
 bP.C d H3 (λak ah=> ∃m:Bool,ak=.bool m/\
 if m=true then(
 ∀(ac:Nat) (H14:zV),ac=ah.size->H14=ah.push (.cells #[.int .i32 d] 21)->
 dw 1 21 4 [.int .i32 0] a outN outC (some (ad ac)) 1 H14 (λp f aj=>
 (z p (outN+1) f (zY (i+nv)) aj/\m11 p (outN+1) f (zY (i+nv)) aj<m11 a outN outC i H1)))
 else
 R (.tuple #[.slice none 0 0,.bool false]) ah))
 else
 R (.tuple #[.slice a outN outC,.bool true]) H1
namespace cH
theorem link{s:ByteArray}{H:zV}{R:zk}(h:pt s H R):C s H R:=by
 refine T_en K0 102 Tryz.func32 ?_
 intro w0 Q hQ
 unfold pt zY at h
 refine T_su [(0,.string s)]<| ar 0<| T_ed 2 [] []<| ar 1<| T_ed 1 [] [(4,vs none 0 0)]<| T_sz<| ar 2<| T_ed 1 [] [(5,vi 0)]<| T_bz 0 ?_
 obtain⟨z,m11,i1,i2⟩:=h
 refine bO (x:=K10) (σ:=zW×Nat×Nat×Int) (λs_=> [(0,.string s),(4,vs s_.1 s_.2.1 s_.2.2.1),(5,vi s_.2.2.2)]) (λs_ H=>z s_.1 s_.2.1 s_.2.2.1 s_.2.2.2 H) (λs_ H=>m11 s_.1 s_.2.1 s_.2.2.1 s_.2.2.2 H) ((none,0,0,0):zW×Nat×Nat×Int) (by kernel_rfl) i1 sk ?_
 rintro⟨a,outN,outC,i⟩ H1 i3
 have h:=i2 a outN outC i H1 i3
 refine T_su [(0,.string s),(4,vs a outN outC),(5,vi i)]<| T_sz<| ar 3<| T_ed 4 [] [(12,.bool (decide (i< (s.size:Int))))] ?_
 by_cases c4:i< (s.size:Int)
 ·rw[if_pos c4]at h
  refine aF 12 (zX c4)<| T_kt<| T_bz 1<| T_sz<| jm 4<| T_q1 13 (.string s) [12]<| T_q1 14 (vi i) [] ?_
  obtain⟨c,q6,h⟩:=h
  refine Q_op (some 15) (dj 9 (.string s) (vi i)) (.int .u8 ((c.toNat:Nat):Int)) (λ_=>by kernel_rfl) (λw _=>aZ (P:=Tryz.prog) (t:=9) (s:=s) (k:=.i64) (i:=i) Tryz.underlying9 q6.1 q6.2 w) [(0,.string s),(4,vs a outN outC),(5,vi i),(15,.int .u8 ((c.toNat:Nat):Int))] pk ?_
  refine T_q (some 16) (.int .i32 (IntKind.wrap .i32 ((c.toNat:Nat):Int))) [(0,.string s),(4,vs a outN outC),(5,vi i),(16,.int .i32 (IntKind.wrap .i32 ((c.toNat:Nat):Int)))]<| T_q1 6 (vi 1) []<| T_q1 7 (.int .i32 (IntKind.wrap .i32 ((c.toNat:Nat):Int))) [16]<| eV [(0,.string s),(4,vs a outN outC),(5,vi i),(6,vi 1),(7,.int .i32 (IntKind.wrap .i32 ((c.toNat:Nat):Int)))] sk<| T_qe<| T_sz<| T_bz 2<| ar 6<| T_ne 3 [(0,.string s),(4,vs a outN outC),(5,vi i),(6,vi 1),(7,.int .i32 (IntKind.wrap .i32 ((c.toNat:Nat):Int))),(17,.bool (decide ((IntKind.wrap .i32 ((c.toNat:Nat):Int))<128)))] ?_
  obtain⟨J,h,j8⟩:=h
  refine kB (σ:=Int×Int) (λs_=> [(0,.string s),(4,vs a outN outC),(5,vi i),(6,vi s_.1),(7,.int .i32 s_.2)]) (λs_ H=>J s_.1 s_.2 H) ?_ ?_
  ·rintro⟨nv,c_2⟩ H2 j9
   replace h:=j8 nv c_2 H2 j9
   refine T_su [(0,.string s),(4,vs a outN outC),(5,vi i),(6,vi nv),(7,.int .i32 c_2)]<| aB<| aC<| T_sz<| ar 13<| T_ed 6 [] [(52,.bool (decide ((zY (i+nv))>(s.size:Int))))] ?_
   by_cases c10:(zY (i+nv))>(s.size:Int)
   ·rw[if_pos c10]at h
    exact aF 52 (zX c10)<| ar 14<| T_nr 2 [2,3] [vs none 0 0,.bool false] hQ h
   rw[if_neg c10]at h
   refine aE 52 (zQ c10)<| T_kt<| T_sz<| ar 15<| T_ed 1 [52] [(8,vi 1)]<| T_bz 3 ?_
   obtain⟨af,m41,i12,i13⟩:=h
   refine bO (x:=K40) (σ:=Int×Int) (λs_=> [(0,.string s),(4,vs a outN outC),(5,vi i),(6,vi nv),(7,.int .i32 s_.1),(8,vi s_.2)]) (λs_ H=>af s_.1 s_.2 H) (λs_ H=>m41 s_.1 s_.2 H) ((c_2,1):Int×Int) (by kernel_rfl) i12 sk ?_
   rintro⟨d,k⟩ H3 i14
   have h:=i13 d k H3 i14
   refine T_su [(0,.string s),(4,vs a outN outC),(5,vi i),(6,vi nv),(7,.int .i32 d),(8,vi k)]<| T_sz<| ar 16<| T_ed 3 [] [(55,.bool (decide (k<nv)))] ?_
   by_cases c15:k<nv
   ·rw[if_pos c15]at h
    refine aF 55 (zX c15)<| T_kt<| T_sz<| T_bz 4<| T_sz<| ar 18<| T_nd 4 [55] [(58,.string s),(61,vi (zY (i+k)))] ?_
    obtain⟨y,q17,h⟩:=h
    refine T_v1 62 (dj 9 (.string s) (vi (zY (i+k)))) (.int .u8 ((y.toNat:Nat):Int)) (λw _=>aZ (P:=Tryz.prog) (t:=9) (s:=s) (k:=.i64) (i:=(zY (i+k))) Tryz.underlying9 q17.1 q17.2 w) [58,61]<| T_ed 2 [62] [(64,.bool ((iand .u8 ((y.toNat:Nat):Int) 192) !=128))] ?_
    by_cases c18:(iand .u8 ((y.toNat:Nat):Int) 192)=128
    ·rw[if_pos c18]at h
     refine aE 64 (bne_eq_false_iff_eq.mpr c18)<| T_kt<| T_rz 20<| T_nd 6 [7,64] [(66,.int .i32 (ishl .i32 d 6)),(67,.string s),(70,vi (zY (i+k)))] ?_
     obtain⟨u,q20,h⟩:=h
     exact T_v1 71 (dj 9 (.string s) (vi (zY (i+k)))) (.int .u8 ((u.toNat:Nat):Int)) (λw _=>aZ (P:=Tryz.prog) (t:=9) (s:=s) (k:=.i64) (i:=(zY (i+k))) Tryz.underlying9 q20.1 q20.2 w) [67,70]<| T_nd 4 [66,71] [(7,.int .i32 (ior .i32 (ishl .i32 d 6) (IntKind.wrap .i32 (iand .u8 ((u.toNat:Nat):Int) 63))))]<| zq<| aB<| aC<| T_rz 17<| T_ed 3 [8] [(8,vi (zY (k+1)))]<| aK (((ior .i32 (ishl .i32 d 6) (IntKind.wrap .i32 (iand .u8 ((u.toNat:Nat):Int) 63))),(zY (k+1))):Int×Int) sk h
    rw[if_neg c18]at h
    exact aF 64 (bne_iff_ne.mpr c18)<| ar 19<| T_nr 2 [2,3] [vs none 0 0,.bool false] hQ h
   rw[if_neg c15]at h
   refine aE 55 (zQ c15)<| zj 3<| aA<| aA<| aH<| aC<| T_sz<| ar 21<| T_nd 3 [8,55] [(77,.bool (nv==3))] ?_
   by_cases c21:nv=3
   ·rw[if_pos c21]at h
    refine N_bd 77 (zK c21)<| T_nd 4 [77] [(81,.bool (decide (d<2048)))] ?_
    by_cases c23:d<2048
    ·rw[if_pos c23]at h
     exact N_bd 81 (zX c23)<| T_ed 12 [81] [(93,.bool true)]<| T_tz 93<| ar 22<| T_nr 2 [2,3] [vs none 0 0,.bool false] hQ h
    rw[if_neg c23]at h
    refine N_bd 81 (zQ c23)<| T_nd 3 [] [(84,.bool (nv==4))] ?_
    by_cases c25:nv=4
    ·rw[if_pos c25]at h
     refine N_bd 84 (zK c25)<| T_nd 5 [81,84] [(89,.bool (decide (d<65536)))] ?_
     by_cases c27:d<65536
     ·rw[if_pos c27]at h
      exact N_bd 89 (zX c27)<| T_ed 4 [89] [(93,.bool true)]<| T_tz 93<| ar 22<| T_nr 2 [2,3] [vs none 0 0,.bool false] hQ h
     rw[if_neg c27]at h
     refine N_bd 89 (zQ c27)<| T_nd 1 [] [(90,.int .i32 d)] ?_
     refine T_c (some 91) h ?_;clear h
     rintro v H4 ⟨x,rfl,h⟩
     refine T_pd [90] [(91,.bool x)]<| T_ed 2 [89,91] [(93,.bool (!x))] ?_
     by_cases c29:x=true
     ·rw[if_pos c29]at h
      refine aE 93 (congrArg Bool.not (c29))<| T_kt<| ar 23<| T_nd 2 [4,7,93] [(94,vs a outN outC),(95,.int .i32 d)]<| T_nw (some 96) (λb=>vs (pa b) 1 1) (.cells #[.int .i32 d] 21) ?_
      intro b H5 e31 e32
      replace h:=h b H5 e31 e32
      refine T_pd [95] [(96,vs (pa b) 1 1)]<| N_op (some 97) (dJ #[74,74] 74 #[vs a outN outC,vs (pa b) 1 1]) _ (λ_=>by kernel_rfl) (di (T:=21) (sz:=1) (bytes:=4) (zero:=(.int .i32 0:Value)) Tryz.underlying74 Tryz.underlying74 rfl (show Tryz.prog.info? 21=some Tryz.t21 from by kernel_rfl) (by kernel_rfl) (by kernel_rfl) (by decide) (by kernel_rfl) (by first | exact h | (simpa only[Value.cells,List.toList_toArray]using h))) ?_;clear h
      rintro _ H6 ⟨ap,aa,rfl,h⟩
      exact T_pd [94,96] [(97,vs ap (outN+1) aa)]<| T_ed 1 [97] [(4,vs ap (outN+1) aa)]<| T_rz 24<| T_nd 4 [5,6] [(5,vi (zY (i+nv)))]<| zq<| aB<| aC<| aK ((ap,(outN+1),aa,(zY (i+nv))):zW×Nat×Nat×Int) sk h
     rw[if_neg c29]at h
     exact aF 93 (congrArg Bool.not (zZ c29))<| ar 22<| T_nr 2 [2,3] [vs none 0 0,.bool false] hQ h
    rw[if_neg c25]at h
    refine N_bd 84 (zJ c25)<| T_nd 6 [81,84] [(89,.bool false),(90,.int .i32 d)] ?_
    refine T_c (some 91) h ?_;clear h
    rintro am H7 ⟨l,rfl,h⟩
    refine T_pd [90] [(91,.bool l)]<| T_ed 2 [89,91] [(93,.bool (!l))] ?_
    by_cases c33:l=true
    ·rw[if_pos c33]at h
     refine aE 93 (congrArg Bool.not (c33))<| T_kt<| ar 23<| T_nd 2 [4,7,93] [(94,vs a outN outC),(95,.int .i32 d)]<| T_nw (some 96) (λb=>vs (pa b) 1 1) (.cells #[.int .i32 d] 21) ?_
     intro ab H8 e35 e36
     replace h:=h ab H8 e35 e36
     refine T_pd [95] [(96,vs (pa ab) 1 1)]<| N_op (some 97) (dJ #[74,74] 74 #[vs a outN outC,vs (pa ab) 1 1]) _ (λ_=>by kernel_rfl) (di (T:=21) (sz:=1) (bytes:=4) (zero:=(.int .i32 0:Value)) Tryz.underlying74 Tryz.underlying74 rfl (show Tryz.prog.info? 21=some Tryz.t21 from by kernel_rfl) (by kernel_rfl) (by kernel_rfl) (by decide) (by kernel_rfl) (by first | exact h | (simpa only[Value.cells,List.toList_toArray]using h))) ?_;clear h
     rintro _ H9 ⟨r,j,rfl,h⟩
     exact T_pd [94,96] [(97,vs r (outN+1) j)]<| T_ed 1 [97] [(4,vs r (outN+1) j)]<| T_rz 24<| T_nd 4 [5,6] [(5,vi (zY (i+nv)))]<| zq<| aB<| aC<| aK ((r,(outN+1),j,(zY (i+nv))):zW×Nat×Nat×Int) sk h
    rw[if_neg c33]at h
    exact aF 93 (congrArg Bool.not (zZ c33))<| ar 22<| T_nr 2 [2,3] [vs none 0 0,.bool false] hQ h
   rw[if_neg c21]at h
   refine N_bd 77 (zJ c21)<| T_nd 7 [77] [(81,.bool false),(84,.bool (nv==4))] ?_
   by_cases c37:nv=4
   ·rw[if_pos c37]at h
    refine N_bd 84 (zK c37)<| T_nd 5 [81,84] [(89,.bool (decide (d<65536)))] ?_
    by_cases c39:d<65536
    ·rw[if_pos c39]at h
     exact N_bd 89 (zX c39)<| T_ed 4 [89] [(93,.bool true)]<| T_tz 93<| ar 22<| T_nr 2 [2,3] [vs none 0 0,.bool false] hQ h
    rw[if_neg c39]at h
    refine N_bd 89 (zQ c39)<| T_nd 1 [] [(90,.int .i32 d)] ?_
    refine T_c (some 91) h ?_;clear h
    rintro al ag ⟨o,rfl,h⟩
    refine T_pd [90] [(91,.bool o)]<| T_ed 2 [89,91] [(93,.bool (!o))] ?_
    by_cases c41:o=true
    ·rw[if_pos c41]at h
     refine aE 93 (congrArg Bool.not (c41))<| T_kt<| ar 23<| T_nd 2 [4,7,93] [(94,vs a outN outC),(95,.int .i32 d)]<| T_nw (some 96) (λb=>vs (pa b) 1 1) (.cells #[.int .i32 d] 21) ?_
     intro ae H11 e43 e44
     replace h:=h ae H11 e43 e44
     refine T_pd [95] [(96,vs (pa ae) 1 1)]<| N_op (some 97) (dJ #[74,74] 74 #[vs a outN outC,vs (pa ae) 1 1]) _ (λ_=>by kernel_rfl) (di (T:=21) (sz:=1) (bytes:=4) (zero:=(.int .i32 0:Value)) Tryz.underlying74 Tryz.underlying74 rfl (show Tryz.prog.info? 21=some Tryz.t21 from by kernel_rfl) (by kernel_rfl) (by kernel_rfl) (by decide) (by kernel_rfl) (by first | exact h | (simpa only[Value.cells,List.toList_toArray]using h))) ?_;clear h
     rintro _ ai ⟨q,g,rfl,h⟩
     exact T_pd [94,96] [(97,vs q (outN+1) g)]<| T_ed 1 [97] [(4,vs q (outN+1) g)]<| T_rz 24<| T_nd 4 [5,6] [(5,vi (zY (i+nv)))]<| zq<| aB<| aC<| aK ((q,(outN+1),g,(zY (i+nv))):zW×Nat×Nat×Int) sk h
    rw[if_neg c41]at h
    exact aF 93 (congrArg Bool.not (zZ c41))<| ar 22<| T_nr 2 [2,3] [vs none 0 0,.bool false] hQ h
   rw[if_neg c37]at h
   refine N_bd 84 (zJ c37)<| T_nd 6 [81,84] [(89,.bool false),(90,.int .i32 d)] ?_
   refine T_c (some 91) h ?_;clear h
   rintro ak ah ⟨m,rfl,h⟩
   refine T_pd [90] [(91,.bool m)]<| T_ed 2 [89,91] [(93,.bool (!m))] ?_
   by_cases c45:m=true
   ·rw[if_pos c45]at h
    refine aE 93 (congrArg Bool.not (c45))<| T_kt<| ar 23<| T_nd 2 [4,7,93] [(94,vs a outN outC),(95,.int .i32 d)]<| T_nw (some 96) (λb=>vs (pa b) 1 1) (.cells #[.int .i32 d] 21) ?_
    intro ac H14 e47 e48
    replace h:=h ac H14 e47 e48
    refine T_pd [95] [(96,vs (pa ac) 1 1)]<| N_op (some 97) (dJ #[74,74] 74 #[vs a outN outC,vs (pa ac) 1 1]) _ (λ_=>by kernel_rfl) (di (T:=21) (sz:=1) (bytes:=4) (zero:=(.int .i32 0:Value)) Tryz.underlying74 Tryz.underlying74 rfl (show Tryz.prog.info? 21=some Tryz.t21 from by kernel_rfl) (by kernel_rfl) (by kernel_rfl) (by decide) (by kernel_rfl) (by first | exact h | (simpa only[Value.cells,List.toList_toArray]using h))) ?_;clear h
    rintro _ aj ⟨p,f,rfl,h⟩
    exact T_pd [94,96] [(97,vs p (outN+1) f)]<| T_ed 1 [97] [(4,vs p (outN+1) f)]<| T_rz 24<| T_nd 4 [5,6] [(5,vi (zY (i+nv)))]<| zq<| aB<| aC<| aK ((p,(outN+1),f,(zY (i+nv))):zW×Nat×Nat×Int) sk h
   rw[if_neg c45]at h
   exact aF 93 (congrArg Bool.not (zZ c45))<| ar 22<| T_nr 2 [2,3] [vs none 0 0,.bool false] hQ h
  by_cases c49:(IntKind.wrap .i32 ((c.toNat:Nat):Int))<128
  ·rw[if_pos c49]at h
   have b50:(decide ((IntKind.wrap .i32 ((c.toNat:Nat):Int))<128))=true:=zX c49
   refine dI [(0,.string s),(4,vs a outN outC),(5,vi i),(6,vi 1),(7,.int .i32 (IntKind.wrap .i32 ((c.toNat:Nat):Int))),(17,.bool true)] (by simp only[b50,Bool.not_true,Bool.not_false]) ?_
   clear b50
   exact T_tz 17<| T_kt<| fW ((1,(IntKind.wrap .i32 ((c.toNat:Nat):Int))):Int×Int) sk h
  rw[if_neg c49]at h
  have b50:(decide ((IntKind.wrap .i32 ((c.toNat:Nat):Int))<128))=false:=zQ c49
  refine dI [(0,.string s),(4,vs a outN outC),(5,vi i),(6,vi 1),(7,.int .i32 (IntKind.wrap .i32 ((c.toNat:Nat):Int))),(17,.bool false)] (by simp only[b50,Bool.not_true,Bool.not_false]) ?_
  clear b50
  refine T_fz 17<| ar 7 ?_
  refine eQ [(0,.string s),(4,vs a outN outC),(5,vi i),(7,.int .i32 (IntKind.wrap .i32 ((c.toNat:Nat):Int))),(20,.bool ((decide ((IntKind.wrap .i32 ((c.toNat:Nat):Int))>=194)) && (decide ((IntKind.wrap .i32 ((c.toNat:Nat):Int))<224))))] ?_ ?_
  ·refine aC ?_
   by_cases c53:((decide ((IntKind.wrap .i32 ((c.toNat:Nat):Int))>=194)) && (decide ((IntKind.wrap .i32 ((c.toNat:Nat):Int))<224)))=true
   ·rw[if_pos c53]at h
    exact aF 20 c53<| T_rz 8<| T_ne 4 [(0,.string s),(4,vs a outN outC),(5,vi i),(6,vi 2),(7,.int .i32 (iand .i32 (IntKind.wrap .i32 ((c.toNat:Nat):Int)) 31))]<| fW ((2,(iand .i32 (IntKind.wrap .i32 ((c.toNat:Nat):Int)) 31)):Int×Int) sk h
   rw[if_neg c53]at h
   refine aE 20 (zZ c53)<| ar 9 ?_
   refine eQ [(0,.string s),(4,vs a outN outC),(5,vi i),(7,.int .i32 (IntKind.wrap .i32 ((c.toNat:Nat):Int))),(29,.bool ((decide ((IntKind.wrap .i32 ((c.toNat:Nat):Int))>=224)) && (decide ((IntKind.wrap .i32 ((c.toNat:Nat):Int))<240))))] ?_ ?_
   ·refine aC ?_
    by_cases c57:((decide ((IntKind.wrap .i32 ((c.toNat:Nat):Int))>=224)) && (decide ((IntKind.wrap .i32 ((c.toNat:Nat):Int))<240)))=true
    ·rw[if_pos c57]at h
     exact aF 29 c57<| T_rz 10<| T_ne 4 [(0,.string s),(4,vs a outN outC),(5,vi i),(6,vi 3),(7,.int .i32 (iand .i32 (IntKind.wrap .i32 ((c.toNat:Nat):Int)) 15))]<| fW ((3,(iand .i32 (IntKind.wrap .i32 ((c.toNat:Nat):Int)) 15)):Int×Int) sk h
    rw[if_neg c57]at h
    refine aE 29 (zZ c57)<| ar 11 ?_
    refine eQ [(0,.string s),(4,vs a outN outC),(5,vi i),(7,.int .i32 (IntKind.wrap .i32 ((c.toNat:Nat):Int))),(38,.bool ((decide ((IntKind.wrap .i32 ((c.toNat:Nat):Int))>=240)) && (decide ((IntKind.wrap .i32 ((c.toNat:Nat):Int))<245))))] ?_ ?_
    ·refine aC ?_
     by_cases c61:((decide ((IntKind.wrap .i32 ((c.toNat:Nat):Int))>=240)) && (decide ((IntKind.wrap .i32 ((c.toNat:Nat):Int))<245)))=true
     ·rw[if_pos c61]at h
      exact aF 38 c61<| T_rz 12<| T_ne 4 [(0,.string s),(4,vs a outN outC),(5,vi i),(6,vi 4),(7,.int .i32 (iand .i32 (IntKind.wrap .i32 ((c.toNat:Nat):Int)) 7))]<| fW ((4,(iand .i32 (IntKind.wrap .i32 ((c.toNat:Nat):Int)) 7)):Int×Int) sk h
     rw[if_neg c61]at h
     exact aE 38 (zZ c61)<| ar 5<| T_nr 2 [2,3] [vs none 0 0,.bool false] hQ h
    intro hk
    refine T_n 3 [(0,.string s),(4,vs a outN outC),(5,vi i),(7,.int .i32 (IntKind.wrap .i32 ((c.toNat:Nat):Int))),(41,.bool (decide ((IntKind.wrap .i32 ((c.toNat:Nat):Int))>=240)))] ?_
    by_cases c59:(IntKind.wrap .i32 ((c.toNat:Nat):Int))>=240
    ·have b60:(decide ((IntKind.wrap .i32 ((c.toNat:Nat):Int))>=240))=true:=zX c59
     refine bJ [(0,.string s),(4,vs a outN outC),(5,vi i),(7,.int .i32 (IntKind.wrap .i32 ((c.toNat:Nat):Int))),(41,.bool true)] (by rw[b60]) ?_
     refine T_nd 4 [41] [(38,.bool (decide ((IntKind.wrap .i32 ((c.toNat:Nat):Int))<245)))]<| zq<| S_bd 38 (b:=(decide ((IntKind.wrap .i32 ((c.toNat:Nat):Int))<245))) (v:=((decide ((IntKind.wrap .i32 ((c.toNat:Nat):Int))>=240)) && (decide ((IntKind.wrap .i32 ((c.toNat:Nat):Int))<245)))) (by simp only[b60,BL]) ?_
     exact hk
    have b60:(decide ((IntKind.wrap .i32 ((c.toNat:Nat):Int))>=240))=false:=zQ c59
    refine bJ [(0,.string s),(4,vs a outN outC),(5,vi i),(7,.int .i32 (IntKind.wrap .i32 ((c.toNat:Nat):Int))),(41,.bool false)] (by rw[b60]) ?_
    refine T_nd 4 [41] [(38,.bool false)]<| zq<| S_bd 38 (b:=false) (v:=((decide ((IntKind.wrap .i32 ((c.toNat:Nat):Int))>=240)) && (decide ((IntKind.wrap .i32 ((c.toNat:Nat):Int))<245)))) (by simp only[b60,BL]) ?_
    exact hk
   intro hk
   refine T_n 3 [(0,.string s),(4,vs a outN outC),(5,vi i),(7,.int .i32 (IntKind.wrap .i32 ((c.toNat:Nat):Int))),(32,.bool (decide ((IntKind.wrap .i32 ((c.toNat:Nat):Int))>=224)))] ?_
   by_cases c55:(IntKind.wrap .i32 ((c.toNat:Nat):Int))>=224
   ·have b56:(decide ((IntKind.wrap .i32 ((c.toNat:Nat):Int))>=224))=true:=zX c55
    refine bJ [(0,.string s),(4,vs a outN outC),(5,vi i),(7,.int .i32 (IntKind.wrap .i32 ((c.toNat:Nat):Int))),(32,.bool true)] (by rw[b56]) ?_
    refine T_nd 4 [32] [(29,.bool (decide ((IntKind.wrap .i32 ((c.toNat:Nat):Int))<240)))]<| zq<| S_bd 29 (b:=(decide ((IntKind.wrap .i32 ((c.toNat:Nat):Int))<240))) (v:=((decide ((IntKind.wrap .i32 ((c.toNat:Nat):Int))>=224)) && (decide ((IntKind.wrap .i32 ((c.toNat:Nat):Int))<240)))) (by simp only[b56,BL]) ?_
    exact hk
   have b56:(decide ((IntKind.wrap .i32 ((c.toNat:Nat):Int))>=224))=false:=zQ c55
   refine bJ [(0,.string s),(4,vs a outN outC),(5,vi i),(7,.int .i32 (IntKind.wrap .i32 ((c.toNat:Nat):Int))),(32,.bool false)] (by rw[b56]) ?_
   refine T_nd 4 [32] [(29,.bool false)]<| zq<| S_bd 29 (b:=false) (v:=((decide ((IntKind.wrap .i32 ((c.toNat:Nat):Int))>=224)) && (decide ((IntKind.wrap .i32 ((c.toNat:Nat):Int))<240)))) (by simp only[b56,BL]) ?_
   exact hk
  intro hk
  refine T_n 3 [(0,.string s),(4,vs a outN outC),(5,vi i),(7,.int .i32 (IntKind.wrap .i32 ((c.toNat:Nat):Int))),(23,.bool (decide ((IntKind.wrap .i32 ((c.toNat:Nat):Int))>=194)))] ?_
  by_cases c51:(IntKind.wrap .i32 ((c.toNat:Nat):Int))>=194
  ·have b52:(decide ((IntKind.wrap .i32 ((c.toNat:Nat):Int))>=194))=true:=zX c51
   refine bJ [(0,.string s),(4,vs a outN outC),(5,vi i),(7,.int .i32 (IntKind.wrap .i32 ((c.toNat:Nat):Int))),(23,.bool true)] (by rw[b52]) ?_
   refine T_nd 4 [23] [(20,.bool (decide ((IntKind.wrap .i32 ((c.toNat:Nat):Int))<224)))]<| zq<| S_bd 20 (b:=(decide ((IntKind.wrap .i32 ((c.toNat:Nat):Int))<224))) (v:=((decide ((IntKind.wrap .i32 ((c.toNat:Nat):Int))>=194)) && (decide ((IntKind.wrap .i32 ((c.toNat:Nat):Int))<224)))) (by simp only[b52,BL]) ?_
   exact hk
  have b52:(decide ((IntKind.wrap .i32 ((c.toNat:Nat):Int))>=194))=false:=zQ c51
  refine bJ [(0,.string s),(4,vs a outN outC),(5,vi i),(7,.int .i32 (IntKind.wrap .i32 ((c.toNat:Nat):Int))),(23,.bool false)] (by rw[b52]) ?_
  refine T_nd 4 [23] [(20,.bool false)]<| zq<| S_bd 20 (b:=false) (v:=((decide ((IntKind.wrap .i32 ((c.toNat:Nat):Int))>=194)) && (decide ((IntKind.wrap .i32 ((c.toNat:Nat):Int))<224)))) (by simp only[b52,BL]) ?_
  exact hk
 rw[if_neg c4]at h
 exact aE 12 (zQ c4)<| zj 0<| aA<| aA<| aH<| aC<| ar 25<| T_nr 3 [2,3] [vs a outN outC,.bool true] hQ h
end cH

/-! moraine/moraineref03.Char -/
namespace bP
def K0:=Func.code Tryz.f68
end bP
def bP.pt(c:Int)(H:zV)(R:zk):Prop:=
 R (.bool (((decide (c>=0)) && (decide (c<=1114111))) && ((decide (c<55296)) || (decide (c>57343))))) H
namespace bP
theorem link{c:Int}{H:zV}{R:zk}(h:pt c H R):C c H R:=by
 refine T_en K0 17 Tryz.func68 ?_
 intro w0 Q hQ
 unfold pt at h
 refine T_su [(0,.int .i32 c)]<| ar 0<| T_ed 1 [] []<| ar 1 ?_
 refine eQ [(2,.bool (((decide (c>=0)) && (decide (c<=1114111))) && ((decide (c<55296)) || (decide (c>57343)))))] ?_ ?_
 ·exact aC<| fF [2] [.bool (((decide (c>=0)) && (decide (c<=1114111))) && ((decide (c<55296)) || (decide (c>57343))))] hQ h
 intro hk
 refine T_n 3 [(0,.int .i32 c),(5,.bool (decide (c>=0)))] ?_
 by_cases c1:c>=0
 ·have b2:(decide (c>=0))=true:=zX c1
  refine bJ [(0,.int .i32 c),(5,.bool true)] (by rw[b2]) ?_
  refine T_nd 4 [5] [(9,.bool (decide (c<=1114111)))] ?_
  by_cases c3:c<=1114111
  ·have b4:(decide (c<=1114111))=true:=zX c3
   refine N_bd 9 b4<| T_nd 3 [] [(12,.bool (decide (c<55296)))] ?_
   by_cases c5:c<55296
   ·have b6:(decide (c<55296))=true:=zX c5
    refine N_bd 12 b6<| T_n 5 [(2,.bool true)] ?_
    refine zq<| dI [(2,.bool (((decide (c>=0)) && (decide (c<=1114111))) && ((decide (c<55296)) || (decide (c>57343)))))] (by simp only[b2,b4,b6,BL]) ?_
    exact hk
   have b6:(decide (c<55296))=false:=zQ c5
   refine N_bd 12 b6<| T_n 5 [(2,.bool (decide (c>57343)))] ?_
   refine zq<| dI [(2,.bool (((decide (c>=0)) && (decide (c<=1114111))) && ((decide (c<55296)) || (decide (c>57343)))))] (by simp only[b2,b4,b6,BL]) ?_
   exact hk
  have b4:(decide (c<=1114111))=false:=zQ c3
  refine N_bd 9 b4<| T_n 8 [(2,.bool false)] ?_
  refine zq<| dI [(2,.bool (((decide (c>=0)) && (decide (c<=1114111))) && ((decide (c<55296)) || (decide (c>57343)))))] (by simp only[b2,b4,BL]) ?_
  exact hk
 have b2:(decide (c>=0))=false:=zQ c1
 refine bJ [(0,.int .i32 c),(5,.bool false)] (by rw[b2]) ?_
 refine T_n 12 [(2,.bool false)]<| zq<| dI [(2,.bool (((decide (c>=0)) && (decide (c<=1114111))) && ((decide (c<55296)) || (decide (c>57343)))))] (by simp only[b2,BL]) ?_
 exact hk
end bP

