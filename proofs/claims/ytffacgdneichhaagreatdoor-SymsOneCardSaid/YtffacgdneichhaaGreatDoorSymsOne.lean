/- The law SymsOne of morainelaw16 holds: called with any arguments it answers true and leaves what it was handed as it was. No condition beside the tables that the row lists. -/
import Derived.Lib.LaidU8T
import Derived.Lib.LaidIn
import Derived.Test.YtffacgdneichhaaGreatDoorSyE
import Derived.Test.YtffacgdneichhaaGreatDoorLawL
import Derived.Test.YtffacgdneichhaaGreatDoorTie
import Derived.Test.YtffacgdneichhaaGreatDoorCards
set_option linter.unusedVariables false
set_option linter.unusedSimpArgs false
namespace Go.Proofs.YtffacgdneichhaaGreatDoor.symsOne
open Go Go.Proofs.YtffacgdneichhaaGreatDoor
open Go.ChangeShapes Go.WideShapes Go.ChangeAt Go.RowKit

def ren:Go.Shelf.Ren:=⟨id,λ| 5=>5 | 119=>126 | 138=>128 | 139=>129 | n=>n,λ| 3=>0 | 4=>1 | n=>n⟩
theorem sZ{W:World}(h:laidMetH Tryz.prog Rows.symsOneRow.laid W):km W.heap:=by
 rw[MakeChecks.laidMetH_plain _ _ _ (by kernel_rfl)]at h
 have ef:Pinned.utf8First=Lib.firstData:=by kernel_rfl
 have ea:Rows.laid_unicode_utf8_acceptRanges (H:=Unit)=Lib.acceptData:=by kernel_rfl
 have r2:=Lib.laidMet.reads h (.head _)
 have r1:=Lib.laidMet.reads h (.tail _ (.head _))
 rw[show Rows.laid_unicode_utf8_first=Lib.firstData from ef]at r1
 rw[ea]at r2
 have t:=utf8Tabs_of_readsT (P:=Tryz.prog) (ρ:=ren) ⟨Tryz.underlying5,Tryz.underlying126,Tryz.underlying128,Tryz.underlying129⟩
  ⟨by kernel_rfl,by kernel_rfl,by kernel_rfl,by kernel_rfl,by kernel_rfl,by kernel_rfl,by kernel_rfl⟩ r1 r2
 refine⟨λc hc=>?_,λi hi=>⟨?_,?_,trivial⟩⟩
 ·have:=t.1 c hc
  rw[iL]at this
  rw[addr_add_mk,Nat.zero_add];exact this
 ·have:=(t.2 i hi).1
  rw[iL]at this
  rw[addr_add_mk,addr_add_mk,Nat.zero_add,Nat.add_zero,Nat.mul_comm];exact this
 ·have:=(t.2 i hi).2
  rw[iL]at this
  rw[addr_add_mk,addr_add_mk,Nat.zero_add,Nat.mul_comm];exact this
def io(n:Nat)(H0 A:zV)(P:Nat):Prop:= ∃(b:Blk) (x:Hp) (G:Int->Prop) (th:TF) (held:List Int) (names:List ByteArray) (Ls:List SyE),SPl (100+1024*n) H0 A b x G th P held names Ls/\Ls.length<=n
theorem io.e{n:Nat}{H0 A:zV}{P:Nat}(h:io n H0 A P):Ext H0 A:=by
 obtain⟨b,x,G,th,held,names,Ls,S,_⟩:=h
 exact S.hs.e
theorem io.ext{n:Nat}{H0 A A':zV}{P:Nat}(h:io n H0 A P)(e:Ext A A'):io n H0 A' P:=by
 obtain⟨b,x,G,th,held,names,Ls,S,q⟩:=h
 exact⟨b,x,G,th,held,names,Ls,S.ext e,q⟩
theorem nI{n:Nat}{H0 A:zV}{P:Nat}(h:io n H0 A P)(T8:km H0)(hn:n<=300){what at' gen:Int}{name:ByteArray}(hs:name.size<=1000):
  bI.C (some ⟨P,0,none⟩) what at' gen name A (λv A'=>v=.bool true/\io (n+1) H0 A' P):=by
 obtain⟨b,x,G,th,held,names,Ls,S,q⟩:=h
 refine HC.mono (rR S T8 (by omega) (by omega) hs) ?_
 rintro _ A' ⟨rfl,x',G',th',held',names',Ls',S',hl⟩
 exact⟨rfl,b,x',G',th',held',names',Ls',S'.le (by omega),by omega⟩
theorem ox{n:Nat}{H0 A:zV}{P:Nat}(h:io n H0 A P)(hn:n<=300):bL.C (some ⟨P,0,none⟩) A (λv A'=>v=.bool true/\Ext A A'):=by
 obtain⟨b,x,G,th,held,names,Ls,S,q⟩:=h
 exact sM S (by omega)
set_option maxRecDepth 100000 in
theorem law(l:Sl jf)(H:zV)(Al:SlOK 4 nE maxLen H l)(T8:km H):
  cz.C l.p l.n l.c H (λv H'=>v=.bool true/\Ext H H'):=by
 refine HC.via λR hR=>cz.link ?_
 unfold cz.pt zY
 have awk: ∀{A:zV},Ext H A->bP.C A (λv H1=> ∃x:Bool,v=.bool x/\R (.bool x) H1):=λ{A} e=>by
  refine HC.mono qi ?_
  rintro _ H1 ⟨rfl,e1⟩
  exact⟨_,rfl,hR _ _ ⟨rfl,e.trans e1⟩⟩
 refine HC.mono (rS Al) ?_
 rintro _ _ ⟨rfl,(rfl | ⟨rfl,hn,hsz⟩)⟩
 ·exact⟨_,rfl,by rw[if_pos rfl];exact awk (Ext.refl _)⟩
 refine⟨_,rfl,?_⟩
 rw[if_neg (by decide)]
 have hll:=Al.len
 refine HC.mono rm ?_
 rintro _ H2 ⟨P,b,x,G,rfl,S0⟩
 refine⟨_,rfl,?_⟩
 rw[onPtr_some]
 refine⟨λi A=> ∃k:Nat,i=k/\k<=l.n/\io k _ A P,λi _=>((l.n:Int)-i).toNat,⟨0,rfl,by omega,b,x,G,_,_,_,_,S0.le (by omega),by simp⟩,?_⟩
 rintro _ A ⟨k,rfl,hk,S⟩
 by_cases hlt:(k:Int)< (l.n:Int)
 case neg=>rw[if_neg hlt];exact awk S.e
 rw[if_pos hlt]
 obtain⟨a,ha,hrow⟩:=(Al.ext S.e).row k (by omega)
 have hz:=hsz k (by omega)
 generalize l.xs[k]'(by omega)=cl at hrow hz
 refine⟨a,ha,⟨by omega,hlt⟩,cl.what,cl.atv,cl.gen,cl.name,by rw[show Int.toNat (k:Int)=k by omega];exact hrow,?_⟩
 refine HC.mono (nI S T8 (by omega) (by omega)) ?_
 rintro _ A2 ⟨rfl,S2⟩
 refine⟨_,rfl,?_⟩
 rw[if_pos rfl]
 refine HC.mono (ox S2 (by omega)) ?_
 rintro _ A3 ⟨rfl,e3⟩
 refine⟨_,rfl,?_⟩
 rw[if_pos rfl]
 have hw:IntKind.wrap .i64 ((k:Int)+1)=((k+1:Nat):Int):=by rw[w64 (n:=(k:Int)+1) (by omega)];omega
 rw[hw]
 exact⟨⟨k+1,rfl,by omega,S2.ext e3⟩,by show((l.n:Int)-((k+1:Nat):Int)).toNat< ((l.n:Int)-(k:Int)).toNat;omega⟩

set_option maxRecDepth 100000 in
theorem lifted(os:Os)(started:os.Started)(H:Type)(enc:TypeId×Value->H):
  ReturnsInHanded {} Tryz.checked os 3 .any (λw args=>(Rows.symsOneSpec.pre enc Tryz.prog Tryz.f3 Rows.symsOneRow.domain false w args/\laidMetH Tryz.prog Rows.symsOneRow.laid w)/\sizedMet enc Tryz.prog Tryz.f3 (OpenSpec.ofChange Rows.symsOneSpec) false w args)
   (Rows.symsOneSpec.post enc Tryz.prog Tryz.f3 false true false false):=by
 refine k7 (tb:=4) started (by kernel_rfl) Tryz.func3
  (ChangeSpec.witness_shaped (enc:=enc) (C:=Tryz.checked) (os:=os) (X:=λw _=>laidMetH Tryz.prog Rows.symsOneRow.laid w) false (World.laidAll Tryz.prog os Rows.symsOneRow.laid) #[.slice none 0 0] 8 (World.laidAll_os _ _ _)
   (World.shaped_of_ZipB (by kernel_rfl) (by kernel_rfl)) (by kernel_rfl) (by kernel_rfl) (by kernel_rfl)
   (by rw[MakeChecks.laidMetH_plain _ _ _ (by kernel_rfl)];exact laidMet_laidAll _ (by kernel_rfl) (by kernel_rfl)))
  rfl (by kernel_rfl) rfl Tryz.underlying4 (λds hds=>?_) ?_
 ·match ds,hds with
  | [d0],_=>rfl
 intro W base args ds p hL hval hA _
 rw[Tryz.params3]at hA hval
 obtain⟨v0,vs0,d0,ds0,p0,q0,hargs,rfl,rfl,h0,r0⟩:=trodAll_cons hA
 obtain⟨rfl,rfl,rfl⟩:=trodAll_nil r0
 obtain rfl:args= #[v0]:=by cases args;simp_all
 obtain⟨s0,rfl,w0⟩:=qg Tryz.underlying22 (by kernel_rfl) nF (B:=maxLen) (.inl rfl) (hval 0 22 v0 rfl rfl) h0
 exact law s0 W.heap w0 (sZ hL)

theorem over:Rows.SymsOneSaid:=
 OpenClaim.holds_of_wide 3 Tryz.f3 rfl rfl rfl rfl rfl rfl rfl ⟨rfl,rfl,rfl,rfl,rfl⟩ rfl rfl rfl rfl rfl (by kernel_rfl) Tryz.func3 (by kernel_rfl)
  (of_decide_eq_true (by kernel_rfl)) (by unfold Func.isWrapper;first | (rw[if_pos (by decide+kernel)];kernel_rfl) | (rw[if_neg (by decide+kernel)];exact⟨rfl,rfl⟩))
  (λos started H enc _=>lifted os started H enc)
theorem proved:Rows.SymsOneCardSaid:=
 Claim7.holds_tied_plain_at .later [] [.data,.pinned] true (true, "b6bc01cf4bb9f4cbd1fef1c07a6ed00ad375863604883af91f598663071c1e71") false over (λ_ h=>by cases h) (by kernel_rfl) (λ_ h=>by cases h) symsOne_row_tie rfl ⟨rfl,rfl⟩ (by kernel_rfl) rfl
  (λf fn hf hfn=>by
   obtain rfl:f=3:=Option.some.inj ((show Tryz.prog.funcNamed "moraine/morainelaw16.SymsOne" =some 3 by kernel_rfl).symm.trans hf) |>.symm
   obtain rfl:fn=Tryz.f3:=(Option.some.inj (Tryz.func3.symm.trans hfn)).symm
   exact⟨by kernel_rfl,λj t ht=>by
    rw[Tryz.params3]at ht
    have hm:t∈[22]:=by simpa using Array.mem_of_getElem? ht
    have hall:([22].all λu=> !Tryz.prog.wantsStandIn u)=true:=by kernel_rfl
    exact(show Tryz.prog.wantsStandIn t=false by simpa using List.all_eq_true.1 hall t hm)⟩)
  (by kernel_rfl)
#print axioms proved
end Go.Proofs.YtffacgdneichhaaGreatDoor.symsOne
