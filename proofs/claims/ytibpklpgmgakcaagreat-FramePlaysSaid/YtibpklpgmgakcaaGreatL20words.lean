/- Printed: what each function asks, and that it is sound. -/
import Derived.Test.YtibpklpgmgakcaaGreatFnsC
set_option linter.unusedSimpArgs false
set_option linter.unusedVariables false
set_option maxHeartbeats 1000000
noncomputable section
namespace Go.Proofs.YtibpklpgmgakcaaGreat
open Go
/-! moraine/morainelaw20.words -/
namespace morainelaw20_words
def K0:=Func.code Tryz.f39
def K2:=cb K0
def K4:=cb K2
def K5:=ca K4
def K8:=cb K5
def K9:=ca K8
def K10:=ca K9
end morainelaw20_words
def morainelaw20_words.pt(lB:Option Addr)(lN lC:Nat)(f:Option Addr)(d e:Nat)(H:Array Obj)(R:Value->Array Obj->Prop):Prop:=
 ∃(o:(Option Addr)->Nat->Nat->Int->Array Obj->Prop) (m11:(Option Addr)->Nat->Nat->Int->Array Obj->Nat),o none 0 0 0 H/\ ∀(j:Option Addr) (outN:Nat) (outC:Nat) (i:Int) (H1:Array Obj),o j outN outC i H1->
 if i< (lN:Int)then(
 ∃l:Addr,lB=some l/\
 ((0:Int)<=i/\i< (lN:Int))/\
 ∃xW m:Int,RowAt H1 (l.add (Int.toNat i*2)) 0 [.int .u64 xW,.int .i64 m]/\
 morainelaw11_Word.C xW m f d e H1 (λv H2=> ∃x:Int,v=.int .u64 x/\
 ∀(b:Nat) (H3:Array Obj),b=H2.size->H3=H2.push (.cells #[.int .u64 x] 35)->
 appendK 1 35 8 [.int .u64 0] j outN outC (some (ad b)) 1 H3 (λap n H4=>
 (o ap (outN+1) n (IntKind.wrap .i64 (i+1)) H4/\m11 ap (outN+1) n (IntKind.wrap .i64 (i+1)) H4<m11 j outN outC i H1))))
 else
 R (.slice j outN outC) H1
namespace morainelaw20_words
set_option maxRecDepth 100000 in
theorem link{lB:Option Addr}{lN lC:Nat}{f:Option Addr}{d e:Nat}{H:Array Obj}{R:Value->Array Obj->Prop}(h:pt lB lN lC f d e H R):C lB lN lC f d e H R:=by
 refine T_en K0 23 Tryz.func39 ?_
 intro w0 Q hQ
 unfold pt at h
 refine T_su [(0,vs lB lN lC),(1,vs f d e)]<| T_srz 0<| T_ed 1 [] []<| T_srz 1<| T_ed 1 [] [(5,vs none 0 0)]<| T_sz<| T_srz 2<| T_ed 1 [] [(6,vi 0)]<| T_bz 0 ?_
 obtain⟨o,m11,i1,i2⟩:=h
 refine S_loop (x:=K10) (σ:=(Option Addr)×Nat×Nat×Int) (λs_=> [(0,vs lB lN lC),(1,vs f d e),(5,vs s_.1 s_.2.1 s_.2.2.1),(6,vi s_.2.2.2)]) (λs_ H=>o s_.1 s_.2.1 s_.2.2.1 s_.2.2.2 H) (λs_ H=>m11 s_.1 s_.2.1 s_.2.2.1 s_.2.2.2 H) ((none,0,0,0):(Option Addr)×Nat×Nat×Int) (by kernel_rfl) i1 sk ?_
 rintro⟨j,outN,outC,i⟩ H1 i3
 have h:=i2 j outN outC i H1 i3
 refine T_su [(0,vs lB lN lC),(1,vs f d e),(5,vs j outN outC),(6,vi i)]<| T_sz<| T_srz 3<| T_ed 4 [] [(10,.bool (decide (i< (lN:Int))))] ?_
 by_cases c4:i< (lN:Int)
 ·rw[if_pos c4]at h
  refine T_cTz 10 (decide_eq_true c4)<| T_kt<| T_sz<| T_bz 1<| T_rz 5<| T_nd 3 [5,10] [(13,vs j outN outC),(14,vs lB lN lC),(15,vi i)] ?_
  obtain⟨l,rfl,h⟩:=h
  obtain⟨q6,h⟩:=h
  refine T_xd (some 16) 38 37 2 l lN lC .i64 i Tryz.underlying38 q6.1 q6.2 [0,14,15] [(0,vs (some l) lN lC),(16,vp (some (l.add (Int.toNat i*2))))] ?_
  obtain⟨xW,m,q7,h⟩:=h
  refine T_lr 17 37 q7 [16]<| T_nd 1 [] [(18,vs f d e)] ?_
  refine T_c (some 19) h ?_;clear h
  rintro v H2 ⟨x,rfl,h⟩
  refine T_pd [17,18] [(19,vu x)]<| T_nw (some 20) (λb=>vs (pa b) 1 1) (.cells #[vu x] 35) ?_
  intro b H3 e8 e9
  replace h:=h b H3 e8 e9
  refine T_pd [19] [(20,vs (pa b) 1 1)] ?_
  refine N_op (some 21) (appendN #[31,31] 31 #[vs j outN outC,vs (pa b) 1 1]) _ (λ_=>by kernel_rfl) (ss_append (T:=35) (sz:=1) (bytes:=8) (zero:=(vu 0:Value)) Tryz.underlying31 Tryz.underlying31 rfl (show Tryz.prog.info? 35=some Tryz.t35 from by kernel_rfl) (by kernel_rfl) (by kernel_rfl) (by decide) (by kernel_rfl) (by first | exact h | (simpa only[Value.cells,List.toList_toArray]using h))) ?_;clear h
  rintro _ H4 ⟨ap,n,rfl,h⟩
  refine T_pd [13,20] [(21,vs ap (outN+1) n)]<| T_nd 1 [21] [(5,vs ap (outN+1) n)] ?_
  refine N_end (by kernel_rfl) ?_
  refine S_blockEnd ?_
  refine S_then ?_
  refine T_rz 4<| T_ed 3 [6] [(6,vi (IntKind.wrap .i64 (i+1)))] ?_
  exact S_round ((ap,(outN+1),n,(IntKind.wrap .i64 (i+1))):(Option Addr)×Nat×Nat×Int) sk h
 rw[if_neg c4]at h
 refine T_cFz 10 (decide_eq_false c4) ?_
 refine S_exit 0 (by kernel_rfl) ?_
 refine S_exitThen ?_
 refine S_exitThen ?_
 refine S_exitHere ?_
 refine S_then ?_
 exact T_srz 6<| T_nr 2 [4] [vs j outN outC] hQ h
end morainelaw20_words

end Go.Proofs.YtibpklpgmgakcaaGreat
