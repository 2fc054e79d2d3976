/- The law TraceShape of morainelaw11 holds: called with any arguments it answers true and leaves what it was handed as it was. No condition. -/
import Derived.Test.YtdoghjgbhefphaaGreatTsG
import Derived.Test.YtdoghjgbhefphaaGreatAwake11
import Derived.Test.YtdoghjgbhefphaaGreatL11TraceShape
import Derived.Test.YtdoghjgbhefphaaGreatRead
set_option linter.unusedVariables false
set_option linter.unusedSimpArgs false
namespace Go.Proofs.YtdoghjgbhefphaaGreat.traceShape
open Go Go.Proofs.YtdoghjgbhefphaaGreat
open Go.ChangeShapes Go.WideShapes Go.ChangeAt Go.RowKit

theorem law(limit:Int)(s:Sl RoundOf)(H:Array Obj)(hl:I64 limit)(A:SlOK 4 roundOfR maxLen H s):
  morainelaw11_TraceShape.C limit s.p s.n s.c H (λv H'=>v=.bool true/\Ext H H'):=
 rounds awake11_c limit s H hl A

set_option maxRecDepth 100000 in
theorem lifted(os:Os)(started:os.Started)(H:Type)(enc:TypeId×Value->H):
  ReturnsInHanded {} Tryz.checked os 5 .any (Rows.traceShapeSpec.pre6 enc Tryz.prog Tryz.f5 Rows.traceShapeRow.domain false) (Rows.traceShapeSpec.post enc Tryz.prog Tryz.f5 false true false false):=by
 refine law_lifted (tb:=4) started (by kernel_rfl) Tryz.func5
  (ChangeSpec.witness6 (enc:=enc) (C:=Tryz.checked) false ⟨#[],#[.int .i64 0,.slice none 0 0],[]⟩ 8 (by kernel_rfl) (by kernel_rfl) (by kernel_rfl) (by kernel_rfl))
  rfl (by kernel_rfl) rfl Tryz.underlying4 (λds hds=>?_) ?_
 ·match ds,hds with
  | [d0,d1],_=>rfl
 intro W base args ds p hval hA _
 rw[Tryz.params5]at hA hval
 obtain⟨v0,vs0,d0,ds0,p0,q0,hargs,rfl,rfl,h0,r0⟩:=trodAll_cons hA
 obtain⟨v1,vs1,d1,ds1,p1,q1,rfl,rfl,rfl,h1,r1⟩:=trodAll_cons r0
 obtain⟨rfl,rfl,rfl⟩:=trodAll_nil r1
 obtain rfl:args= #[v0,v1]:=by cases args;simp_all
 obtain⟨a0,rfl,rfl,rfl,w0⟩:=open_int Tryz.underlying3 (hval 0 3 v0 rfl rfl) h0
 obtain⟨s1,rfl,w1⟩:=open_read Tryz.underlying88 (by kernel_rfl) reads_RoundOf (B:=maxLen) (.inl rfl) (hval 1 88 v1 rfl rfl) h1
 exact law a0 s1 W.heap (wf_i64 w0) w1

theorem over:Rows.traceShapeRow.holds Tryz.pinned (OpenSpec.ofChange Rows.traceShapeSpec):=
 OpenClaim.holds_of_wide 5 Tryz.f5 rfl rfl rfl rfl rfl rfl rfl ⟨rfl,rfl,rfl,rfl,rfl⟩ rfl rfl rfl rfl rfl (by kernel_rfl) Tryz.func5 (by kernel_rfl)
  (of_decide_eq_true (by kernel_rfl)) (by unfold Func.isWrapper;first | (rw[if_pos (by decide+kernel)];kernel_rfl) | (rw[if_neg (by decide+kernel)];exact⟨rfl,rfl⟩))
  (λos started H enc _=>lifted os started H enc)

theorem proved:Rows.TraceShapeSaid:=
 over
#print axioms proved
end Go.Proofs.YtdoghjgbhefphaaGreat.traceShape
