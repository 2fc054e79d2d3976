/- The law EqtabPlays of morainelaw15 holds: called with any arguments it answers true and leaves what it was handed as it was. No condition. -/
import Derived.Test.YtiebboaeaoobmaaGreatTabV
import Derived.Test.YtiebboaeaoobmaaGreatAct15
set_option linter.unusedVariables false
set_option linter.unusedSimpArgs false
namespace Go.Proofs.YtiebboaeaoobmaaGreat.eqtabPlays
open Go Go.Proofs.YtiebboaeaoobmaaGreat
open Go.ChangeShapes Go.WideShapes Go.ChangeAt Go.RowKit

set_option maxRecDepth 100000 in
theorem law(l:Sl j5)(H:zV)(Al:SlOK 5 qt maxLen H l):
  bX.C l.p l.n l.c H (λv H'=>v=.bool true/\Ext H H'):=by
 refine HC.via λR hR=>bX.link ?_
 unfold bX.pt zY
 have awk: ∀{A:zV},Ext H A->bV.C A (λv H1=> ∃x:Bool,v=.bool x/\R (.bool x) H1):=λ{A} e=>by
  refine HC.mono qH ?_
  rintro _ H1 ⟨rfl,e1⟩
  exact⟨_,rfl,hR _ _ ⟨rfl,e.trans e1⟩⟩
 by_cases hn:(l.n:Int)>300
 ·rw[if_pos hn];exact awk (Ext.refl H)
 rw[if_neg hn]
 have hll:=Al.len
 refine HC.mono m8 ?_
 rintro _ H2 ⟨P,rfl,S0⟩
 refine⟨_,rfl,?_⟩
 rw[onPtr_some]
 refine⟨λi A=> ∃k:Nat,i=k/\k<=l.n/\jt k H A P,λi _=>((l.n:Int)-i).toNat,⟨0,rfl,by omega,S0⟩,?_⟩
 rintro _ A ⟨k,rfl,hk,S⟩
 by_cases hlt:(k:Int)< (l.n:Int)
 case neg=>rw[if_neg hlt];exact awk S.e
 rw[if_pos hlt]
 obtain⟨a,ha,hrow⟩:=(Al.ext S.e).row k (by omega)
 generalize l.xs[k]'(by omega)=cl at hrow
 refine⟨a,ha,⟨by omega,hlt⟩,cl.what,cl.key,cl.value,cl.gen,cl.up,by rw[show Int.toNat (k:Int)=k by omega];exact hrow,?_⟩
 refine HC.mono (sa S (by omega)) ?_
 rintro _ A2 ⟨rfl,S2⟩
 refine⟨_,rfl,?_⟩
 rw[if_pos rfl]
 refine HC.mono (sc S2) ?_
 rintro _ A3 ⟨rfl,S3⟩
 refine⟨_,rfl,?_⟩
 rw[if_pos rfl]
 have hw:IntKind.wrap .i64 ((k:Int)+1)=((k+1:Nat):Int):=by rw[w64 (n:=(k:Int)+1) (by omega)];omega
 rw[hw]
 exact⟨⟨k+1,rfl,by omega,S3⟩,by show((l.n:Int)-((k+1:Nat):Int)).toNat< ((l.n:Int)-(k:Int)).toNat;omega⟩
set_option maxRecDepth 100000 in
theorem lifted(os:Os)(started:os.Started)(H:Type)(enc:TypeId×Value->H):
  ReturnsInHanded {} Tryz.checked os 3 .any (Rows.eqtabPlaysSpec.pre6 enc Tryz.prog Tryz.f3 Rows.eqtabPlaysRow.domain false) (Rows.eqtabPlaysSpec.post enc Tryz.prog Tryz.f3 false true false false):=by
 refine pO (tb:=4) started (by kernel_rfl) Tryz.func3
  (ChangeSpec.witness6 (enc:=enc) (C:=Tryz.checked) false ⟨#[],#[.slice none 0 0],[]⟩ 8 (by kernel_rfl) (by kernel_rfl) (by kernel_rfl) (by kernel_rfl))
  rfl (by kernel_rfl) rfl Tryz.underlying4 (λds hds=>?_) ?_
 ·match ds,hds with
  | [d0],_=>rfl
 intro W base args ds p hval hA _
 rw[Tryz.params3]at hA hval
 obtain⟨v0,vs0,d0,ds0,p0,q0,hargs,rfl,rfl,h0,r0⟩:=trodAll_cons hA
 obtain⟨rfl,rfl,rfl⟩:=trodAll_nil r0
 obtain rfl:args= #[v0]:=by cases args;simp_all
 obtain⟨s0,rfl,w0⟩:=qP Tryz.underlying22 (by kernel_rfl) og (B:=maxLen) (.inl rfl) (hval 0 22 v0 rfl rfl) h0
 exact law s0 W.heap w0

theorem over:Rows.eqtabPlaysRow.holds Tryz.pinned (OpenSpec.ofChange Rows.eqtabPlaysSpec):=
 OpenClaim.holds_of_wide 3 Tryz.f3 rfl rfl rfl rfl rfl rfl rfl ⟨rfl,rfl,rfl,rfl,rfl⟩ rfl rfl rfl rfl rfl (by kernel_rfl) Tryz.func3 (by kernel_rfl)
  (of_decide_eq_true (by kernel_rfl)) (by unfold Func.isWrapper;first | (rw[if_pos (by decide+kernel)];kernel_rfl) | (rw[if_neg (by decide+kernel)];exact⟨rfl,rfl⟩))
  (λos started H enc _=>lifted os started H enc)

theorem proved:Rows.EqtabPlaysSaid:=
 over
#print axioms proved
end Go.Proofs.YtiebboaeaoobmaaGreat.eqtabPlays
