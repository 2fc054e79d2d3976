/- The law AuditSound of morainelaw14 holds: called with any arguments that hold no more than a machine can (Upto) it answers true and leaves what it was handed as it was. No other condition. -/
import Derived.Test.YtfhbhckhmnleoaaGreatAmH
set_option linter.unusedVariables false
set_option linter.unusedSimpArgs false
namespace Go.Proofs.YtfhbhckhmnleoaaGreat.auditSound
open Go Go.Proofs.Tryz Go.Proofs.YtfhbhckhmnleoaaGreat
open Go.ChangeShapes Go.WideShapes Go.ChangeAt Go.RowKit
theorem law(a:Int)(s:Sl gM)(H:zV)(D:zO a)(A:SlOK 6 lc 1048576 H s):
  cE.C a s.p s.n s.c H (λv l=>v=VT/\Ext H l):=by
 have A:SlOK 6 lc bulk H s:=A
 have B:SlOK 6 lc maxLen H s:=AS A (by decide) (λ_=>rfl) (λy=>roundUp (by decide))
 refine HC.via λR u=>cE.link ?_
 unfold cE.pt
 refine HC.mono (wd A) ?_
 rintro _ m ⟨t,rfl,d,i⟩
 obtain rfl:H=m:=i.symm
 refine⟨_,rfl,?_⟩
 have h: ∀g:zV,Ext H g->bZ.C g (λv o=> ∃f:Bool,v=.bool f/\R (.bool f) o):=λg e=>HC.mono uU (by rintro _ J ⟨rfl,q⟩;exact⟨true,rfl,u _ _ ⟨rfl,e.trans q⟩⟩)
 by_cases j:t=true
 ·rw[qB j];exact h _ (Ext.refl _)
 rw[za j]
 have F:=d (by simpa using j)
 refine HC.mono (wx D B F) ?_
 rintro _ K (⟨rfl,r⟩ | ⟨b,O,mN,P,rfl,x,U,k,Q,T,I,L,M,N,rfl,S,w,E,G,z⟩)
 ·refine⟨_,_,_,_,_,rfl,?_⟩
  rw[qB rfl];exact h _ r
 ·refine⟨_,_,_,_,_,rfl,?_⟩
  rw[qB rfl];exact h _ S.e
set_option maxRecDepth 100000 in
theorem lifted(i:Os)(b:i.Started)(H:Type)(enc:TypeId×Value->H)(F:Stop.Interp):
  ReturnsInHanded {} Tryz.checked i 6 .any ((Rows.OpenSpec.upto Rows.auditSoundSpec).pre6 enc prog f6 Rows.auditSoundUptoRow.domain false) (((Rows.OpenSpec.upto Rows.auditSoundSpec).at F).post enc prog f6 false true false false):=by
 refine oV (tb:=4) b (by kernel_rfl) func6
  (OpenSpec.witness (enc:=enc) (C:=Tryz.checked) (s:=Rows.OpenSpec.upto Rows.auditSoundSpec) (k:=Rows.uptoSmall) rfl false ⟨#[],#[vi 0,VN],[]⟩ 8 (by kernel_rfl) (by kernel_rfl) (by kernel_rfl)
   (x:=([.lit (.int .i64 0),.nil],[],[])) (by kernel_rfl) rfl (by kernel_rfl))
  rfl (by kernel_rfl) rfl underlying4 (λg e=>?_) ?_
 ·match g,e with
  | [n,o],_=>rfl
 intro W f args g p a h c
 rw[params6]at h a
 obtain⟨j,z,n,q,G,J,d,rfl,rfl,t,v⟩:=trodAll_cons h
 obtain⟨l,A,o,r,I,K,rfl,rfl,rfl,u,w⟩:=trodAll_cons v
 obtain⟨rfl,rfl,rfl⟩:=trodAll_nil w
 obtain rfl:args= #[j,l]:=by cases args;simp_all
 obtain⟨m,rfl,rfl,rfl,D⟩:=open_int underlying3 (a 0 3 j rfl rfl) t
 obtain⟨y,rfl,E⟩:=uB underlying85 (by kernel_rfl) qg (B:=1048576) (.inr (Nat.le_trans (od (by simp)) c)) (a 1 85 l rfl rfl) u
 exact law m y W.heap (wf_i64 D) E
theorem over:Rows.auditSoundUptoRow.holds Tryz.pinned (Rows.OpenSpec.upto Rows.auditSoundSpec):=
 OpenClaim.holds_of_cond 6 f6 rfl rfl rfl rfl rfl rfl rfl ⟨rfl,rfl,rfl,rfl,rfl⟩ rfl rfl rfl rfl rfl (by kernel_rfl) func6 (by kernel_rfl)
  (of_decide_eq_true (by kernel_rfl)) (by unfold Func.isWrapper;first | (rw[qB (by decide+kernel)];kernel_rfl) | (rw[za (by decide+kernel)];exact⟨rfl,rfl⟩))
  (λc a H b _ F=>lifted c a H b F)
theorem proved:Rows.AuditSoundUptoSaid:=
 over
#print axioms proved
end Go.Proofs.YtfhbhckhmnleoaaGreat.auditSound
