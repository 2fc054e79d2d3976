/-
 BuildBack: any datum is built, and told again, also behind collections that move it; one that may not be is refused; one that there is no room for is, too. The condition: the first argument does not hold itself (the row's cell).
-/
import Derived.Lib.LaidU8T
import Derived.Lib.LaidIn
import Derived.Test.YtillhdiiglamhaaGreatDoorLawL
import Derived.Test.YtillhdiiglamhaaGreatDoorTie
import Derived.Test.YtillhdiiglamhaaGreatDoorCards
set_option linter.unusedVariables false
set_option linter.unusedSimpArgs false
namespace Go.Proofs.YtillhdiiglamhaaGreatDoor.buildBack
open Go Go.Proofs.Tryz Go.Proofs.YtillhdiiglamhaaGreatDoor
open Go.ChangeShapes Go.WideShapes Go.ChangeAt Go.RowKit
def ren:Go.Shelf.Ren:=⟨id,λ| 5=>5 | 119=>160 | 138=>162 | 139=>163 | n=>n,λ| 3=>0 | 4=>1 | n=>n⟩
theorem AV{W:World}(h:laidMetH prog Rows.buildBackRow.laid W):lA W.heap:=by
 rw[MakeChecks.laidMetH_plain _ _ _ GE]at h;have f:Pinned.utf8First=Lib.firstData:=GE;have e:Rows.laid_unicode_utf8_acceptRanges (H:=Unit)=Lib.acceptData:=GE;have d:=Lib.laidMet.reads h (.head _);have b:=Lib.laidMet.reads h (.tail _ (.head _));rw[show Rows.laid_unicode_utf8_first=Lib.firstData from f]at b;rw[e]at d
 have t:=utf8Tabs_of_readsT (P:=prog) (ρ:=ren) ⟨underlying5,underlying160,underlying162,underlying163⟩
  ⟨GE,GE,GE,GE,GE,GE,GE⟩ b d
 refine⟨λc g=>?_,λi a=>⟨?_,?_,GB⟩⟩
 ·have:=t.1 c g;rw[lS]at this;rw[Ej,Eo];exact this
 ·have:=(t.2 i a).1;rw[lS]at this;rw[Ej,Ej,Eo,Nat.add_zero,Nat.mul_comm];exact this
 ·have:=(t.2 i a).2;rw[lS]at this;rw[Ej,Ej,Eo,Nat.mul_comm];exact this
set_option maxRecDepth 100000 in
theorem lifted(os:Os)(b:os.Started)(H:Type)(enc:TypeId×Value->H):
  ReturnsInHanded {} Tryz.checked os 3 .any (λw args=>(Rows.buildBackSpec.pre enc prog f3 Rows.buildBackRow.domain false w args/\laidMetH prog Rows.buildBackRow.laid w)/\sizedMet enc prog f3 (OpenSpec.ofChange Rows.buildBackSpec) false w args)
   (Rows.buildBackSpec.post enc prog f3 false true false false):=by
 refine pL (tb:=4) b GE func3
  (ChangeSpec.witness_shaped (enc:=enc) (C:=Tryz.checked) (os:=os) (X:=λw _=>laidMetH prog Rows.buildBackRow.laid w) false (World.laidAll prog os Rows.buildBackRow.laid) #[.agg #[vi 0,.int .i32 0,VF,vs Option.none 0 0,.string (ByteArray.mk #[]),vs Option.none 0 0],vi 0,VN] 8 (World.laidAll_os _ _ _)
   (World.shaped_of_ZipB GE GE) GE GE GE
   (by rw[MakeChecks.laidMetH_plain _ _ _ GE];exact laidMet_laidAll _ GE GE))
  rfl GE rfl underlying4 (λf d=>?_) ?_
 ·match f,d with
  | [k,l,m],_=>rfl
 intro W e args f p u a g _;rw[params3]at g a;obtain⟨h,A,k,n,N,P,c,rfl,rfl,r,x⟩:=trodAll_cons g;obtain⟨i,D,l,o,O,Q,rfl,rfl,rfl,s,y⟩:=trodAll_cons x;obtain⟨j,E,m,q,v,R,rfl,rfl,rfl,t,z⟩:=trodAll_cons y;obtain⟨rfl,rfl,rfl⟩:=trodAll_nil z;obtain rfl:args= #[h,i,j]:=by cases args;simp_all
 obtain⟨J,rfl,F⟩:=uM underlying27 (xz GG) (B:=maxLen) (.inl rfl) (a 0 27 h rfl rfl) r;obtain⟨K,rfl,rfl,rfl,G⟩:=open_int Fx (a 1 3 i rfl rfl) s;obtain⟨v,M,L,T,rfl,I,S⟩:=xx EW Fx GE (B:=maxLen) (.inl rfl) (a 2 28 j rfl rfl) t;exact uV (AV u) F (wf_i64 G) I
theorem over:Rows.BuildBackSaid:=
 OpenClaim.holds_of_wide 3 f3 rfl rfl rfl rfl rfl rfl rfl ⟨rfl,rfl,rfl,rfl,rfl⟩ rfl rfl rfl rfl rfl GE func3 GE
  (Gv GE) (by unfold Func.isWrapper;first | (rw[ka (by decide+kernel)];kernel_rfl) | (rw[kb (by decide+kernel)];exact⟨rfl,rfl⟩))
  (λc a H b _=>lifted c a H b)
theorem proved:Rows.BuildBackCardSaid:=
 Claim7.holds_tied_plain_at .later [] [.data,.pinned] true (true, "baa8dea45f2fb877ce498a9319362f89e43c7e534be910a1ace9b7b7bdcdf1d7") false over (λ_ h=>by cases h) GE (λ_ h=>by cases h) buildBack_row_tie rfl ⟨rfl,rfl⟩ GE rfl
  (λf fn d b=>by
   obtain rfl:f=3:=FN ((show prog.funcNamed "moraine/morainelaw17.BuildBack" =some 3 by kernel_rfl).symm.trans d) |>.symm
   obtain rfl:fn=f3:=(FN (func3.symm.trans b)).symm
   exact⟨GE,λj t c=>by
    rw[params3]at c;have hm:t∈[27,3,28]:=by simpa using Array.mem_of_getElem? c
    have a:([27,3,28].all λu=> !prog.wantsStandIn u)=true:=GE;exact(show prog.wantsStandIn t=false by simpa using List.all_eq_true.1 a t hm)⟩)
  GE
#print axioms proved
end Go.Proofs.YtillhdiiglamhaaGreatDoor.buildBack
