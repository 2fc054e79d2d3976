/- The law AuditSame of morainelaw14 holds: called with any arguments it answers true and leaves what it was handed as it was. No condition. -/
import Derived.Test.YtojbbgcjiaphjaaGreatAuS
import Derived.Test.YtojbbgcjiaphjaaGreatAuW
set_option linter.unusedVariables false
set_option linter.unusedSimpArgs false
namespace Go.Proofs.YtojbbgcjiaphjaaGreat.auditSame
open Go Go.Proofs.YtojbbgcjiaphjaaGreat
open Go.ChangeShapes Go.WideShapes Go.ChangeAt Go.RowKit

theorem law(a b:Sl eM)(H:zV)(Al:SlOK 5 eU maxLen H a)(Bl:SlOK 5 eU maxLen H b):
  bI.C a.p a.n a.c b.p b.n b.c H (λv H'=>v=.bool true/\Ext H H'):=lR o9 a b H Al Bl
set_option maxRecDepth 100000 in
theorem lifted(os:Os)(started:os.Started)(H:Type)(enc:TypeId×Value->H):
  ReturnsInHanded {} Tryz.checked os 3 .any (Rows.auditSameSpec.pre6 enc Tryz.prog Tryz.f3 Rows.auditSameRow.domain false) (Rows.auditSameSpec.post enc Tryz.prog Tryz.f3 false true false false):=by
 refine nN (tb:=4) started (by kernel_rfl) Tryz.func3
  (ChangeSpec.witness6 (enc:=enc) (C:=Tryz.checked) false ⟨#[],#[.slice none 0 0,.slice none 0 0],[]⟩ 8 (by kernel_rfl) (by kernel_rfl) (by kernel_rfl) (by kernel_rfl))
  rfl (by kernel_rfl) rfl Tryz.underlying4 (λds hds=>?_) ?_
 ·match ds,hds with
  | [d0,d1],_=>rfl
 intro W base args ds p hval hA _
 rw[Tryz.params3]at hA hval
 obtain⟨v0,vs0,d0,ds0,p0,q0,hargs,rfl,rfl,h0,r0⟩:=trodAll_cons hA
 obtain⟨v1,vs1,d1,ds1,p1,q1,rfl,rfl,rfl,h1,r1⟩:=trodAll_cons r0
 obtain⟨rfl,rfl,rfl⟩:=trodAll_nil r1
 obtain rfl:args= #[v0,v1]:=by cases args;simp_all
 obtain⟨s0,rfl,w0⟩:=mh Tryz.underlying22 (by kernel_rfl) kZ (B:=maxLen) (.inl rfl) (hval 0 22 v0 rfl rfl) h0
 obtain⟨s1,rfl,w1⟩:=mh Tryz.underlying22 (by kernel_rfl) kZ (B:=maxLen) (.inl rfl) (hval 1 22 v1 rfl rfl) h1
 exact law s0 s1 W.heap w0 w1

theorem over:Rows.auditSameRow.holds Tryz.pinned (OpenSpec.ofChange Rows.auditSameSpec):=
 OpenClaim.holds_of_wide 3 Tryz.f3 rfl rfl rfl rfl rfl rfl rfl ⟨rfl,rfl,rfl,rfl,rfl⟩ rfl rfl rfl rfl rfl (by kernel_rfl) Tryz.func3 (by kernel_rfl)
  (of_decide_eq_true (by kernel_rfl)) (by unfold Func.isWrapper;first | (rw[if_pos (by decide+kernel)];kernel_rfl) | (rw[if_neg (by decide+kernel)];exact⟨rfl,rfl⟩))
  (λos started H enc _=>lifted os started H enc)

theorem proved:Rows.AuditSameSaid:=
 over
#print axioms proved
end Go.Proofs.YtojbbgcjiaphjaaGreat.auditSame
