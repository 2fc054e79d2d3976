/- The law EqtabNone of morainelaw15 holds: called with any arguments it answers true and leaves what it was handed as it was. No condition. -/
import Derived.Test.YtiebboaeaoobmaaGreatTabM
import Derived.Test.YtiebboaeaoobmaaGreatArg
set_option linter.unusedVariables false
set_option linter.unusedSimpArgs false
namespace Go.Proofs.YtiebboaeaoobmaaGreat.eqtabNone
open Go Go.Proofs.YtiebboaeaoobmaaGreat
open Go.ChangeShapes Go.WideShapes Go.ChangeAt Go.RowKit

section
variable {H:zV} {hv:zW} {o:Option (Blk×Hp)} {w k v:Int}
theorem Put_no(V:View H hv o)(hw:IsWord w)(h:hv=none\/ ¬((mof o).typ w=11/\(mof o).len w=4)):eqtab_Put.C hv w k v H (λu H'=>u=.int .i64 3/\Ext H H'):=by
 refine HC.via λR hR=>eqtab_Put.link ?_
 unfold eqtab_Put.pt zY
 refine HC.mono (open_no V hw h) ?_
 rintro _ H1 ⟨rfl,e1⟩
 refine⟨_,_,_,rfl,λc H2 hc hH2=>?_⟩
 have e2:Ext H1 H2:=Ext.push' hH2
 obtain⟨hcp,hs⟩:=box_set (vs:=[.pointer none,.int .u64 0]) (push_get hc hH2) rfl rfl
 refine⟨hcp,λH3 hH3=>?_⟩
 obtain⟨g3,f3⟩:=hs H3 hH3
 rw[if_neg (by decide)]
 exact hR _ _ ⟨rfl,(e1.trans e2).fr_trans f3 (λj hj=>by have:=e1.size;simp at hj;omega)⟩
theorem Get_no(V:View H hv o)(hw:IsWord w)(h:hv=none\/ ¬((mof o).typ w=11/\(mof o).len w=4)):eqtab_Get.C hv w k H (λu H'=>u=.tuple #[.int .u64 0,.bool false,.int .i64 3]/\Ext H H'):=by
 refine HC.via λR hR=>eqtab_Get.link ?_
 unfold eqtab_Get.pt
 refine HC.mono (open_no V hw h) ?_
 rintro _ H1 ⟨rfl,e1⟩
 refine⟨_,_,_,rfl,λc H2 hc hH2=>?_⟩
 have e2:Ext H1 H2:=Ext.push' hH2
 obtain⟨hcp,hs⟩:=box_set (vs:=[.pointer none,.int .u64 0]) (push_get hc hH2) rfl rfl
 refine⟨hcp,λH3 hH3=>?_⟩
 obtain⟨g3,f3⟩:=hs H3 hH3
 rw[if_neg (by decide)]
 exact hR _ _ ⟨rfl,(e1.trans e2).fr_trans f3 (λj hj=>by have:=e1.size;simp at hj;omega)⟩
theorem Delete_no(V:View H hv o)(hw:IsWord w)(h:hv=none\/ ¬((mof o).typ w=11/\(mof o).len w=4)):eqtab_Delete.C hv w k H (λu H'=>u=.tuple #[.bool false,.int .i64 3]/\Ext H H'):=by
 refine HC.via λR hR=>eqtab_Delete.link ?_
 unfold eqtab_Delete.pt zY
 refine HC.mono (open_no V hw h) ?_
 rintro _ H1 ⟨rfl,e1⟩
 refine⟨_,_,_,rfl,λc H2 hc hH2=>?_⟩
 have e2:Ext H1 H2:=Ext.push' hH2
 obtain⟨hcp,hs⟩:=box_set (vs:=[.pointer none,.int .u64 0]) (push_get hc hH2) rfl rfl
 refine⟨hcp,λH3 hH3=>?_⟩
 obtain⟨g3,f3⟩:=hs H3 hH3
 rw[if_neg (by decide)]
 exact hR _ _ ⟨rfl,(e1.trans e2).fr_trans f3 (λj hj=>by have:=e1.size;simp at hj;omega)⟩
theorem Count_no(V:View H hv o)(hw:IsWord w)(h:hv=none\/ ¬((mof o).typ w=11/\(mof o).len w=4)):eqtab_Count.C hv w H (λu H'=>u=.tuple #[.int .i64 0,.int .i64 3]/\Ext H H'):=by
 refine HC.via λR hR=>eqtab_Count.link ?_
 unfold eqtab_Count.pt
 refine HC.mono (open_no V hw h) ?_
 rintro _ H1 ⟨rfl,e1⟩
 refine⟨_,_,_,rfl,λc H2 hc hH2=>?_⟩
 have e2:Ext H1 H2:=Ext.push' hH2
 obtain⟨hcp,hs⟩:=box_set (vs:=[.pointer none,.int .u64 0]) (push_get hc hH2) rfl rfl
 refine⟨hcp,λH3 hH3=>?_⟩
 obtain⟨g3,f3⟩:=hs H3 hH3
 rw[if_neg (by decide)]
 exact hR _ _ ⟨rfl,(e1.trans e2).fr_trans f3 (λj hj=>by have:=e1.size;simp at hj;omega)⟩
theorem Keys_no(hw:IsWord w):eqtab_Keys.C none w H (λu H'=>u=.tuple #[.slice none 0 0,.int .i64 3]/\Ext H H'):=by
 refine HC.via λR hR=>eqtab_Keys.link ?_
 unfold eqtab_Keys.pt
 intro c H1 hc hH1
 have e1:Ext H H1:=Ext.push' hH1
 refine⟨_,hat_blk (push_get hc hH1),?_⟩
 have told:eqtab_told.C none w (.func (.func 45) #[] #[.pointer (some (Addr.mk c 0 none))]) H1 (λu H'=>u=.tuple #[.slice none 0 0,.int .i64 3]/\Ext H1 H'):=by
  refine HC.via λR hR=>eqtab_told.link ?_
  unfold eqtab_told.pt
  refine⟨_,_,rfl,λb1 A1 hb1 hA1 b2 A2 hb2 hA2=>?_⟩
  have f1:Ext H1 A1:=Ext.push' hA1
  have f2:Ext A1 A2:=Ext.push' hA2
  refine⟨_,hat_blk (f2.get (push_get hb1 hA1)),?_⟩
  refine HC.mono (open_no .nobody hw (.inl rfl)) ?_
  rintro _ A3 ⟨rfl,f3⟩
  refine⟨_,_,_,rfl,λc H2 hc hH2=>?_⟩
  have e2:Ext A3 H2:=Ext.push' hH2
  obtain⟨hcp,hs⟩:=box_set (vs:=[.pointer none,.int .u64 0]) (push_get hc hH2) rfl rfl
  refine⟨hcp,λH3 hH3=>?_⟩
  obtain⟨g3,f4⟩:=hs H3 hH3
  rw[if_neg (by decide)]
  have f13:=(f1.trans f2).trans f3
  exact hR _ _ ⟨rfl,(f13.trans e2).fr_trans f4 (λj hj=>by have:=f13.size;simp at hj;omega)⟩
 refine HC.mono told ?_
 rintro _ H2 ⟨rfl,e2⟩
 exact⟨_,_,_,_,rfl,hR _ _ ⟨rfl,e1.trans e2⟩⟩
end
set_option maxRecDepth 100000 in
theorem law(w key value:Int)(hw:IsWord w)(hk:IsWord key)(hv:IsWord value)(H:zV):morainelaw15_EqtabNone.C w key value H (λv H'=>v=.bool true/\Ext H H'):=by
 refine HC.via λR hR=>morainelaw15_EqtabNone.link ?_
 unfold morainelaw15_EqtabNone.pt
 refine HC.mono (obj_New_c (limit:=8) (by decide)) ?_
 rintro _ H1 (⟨hno,rfl,e1⟩ | ⟨-,b,x0,rfl,V,hx,e1,hb1⟩)
 ·exact absurd (by decide) hno
 have hno: ¬((mof (some (b,x0))).typ w=11/\(mof (some (b,x0))).len w=4):=λh=>by
  have hm:mof (some (b,x0))=Mem.fresh 8:=by subst hx;rfl
  rw[hm]at h
  have h1:=h.1
  unfold Mem.typ at h1
  by_cases ho:(Mem.fresh 8).isObj w
  ·have hu:=ho.1.used hw
   exact hu.2.1.2.2 rfl
  ·rw[if_neg ho]at h1;exact absurd h1 (by decide)
 refine⟨_,_,rfl,?_⟩
 rw[if_pos rfl]
 refine HC.mono (Put_no V hw (.inr hno)) ?_
 rintro _ H2 ⟨rfl,e2⟩
 refine⟨_,rfl,?_⟩
 have V2:=V.ext e2
 refine HC.mono (Get_no V2 hw (.inr hno)) ?_
 rintro _ H3 ⟨rfl,e3⟩
 refine⟨_,_,_,rfl,?_⟩
 have V3:=V2.ext e3
 refine HC.mono (Delete_no V3 hw (.inr hno)) ?_
 rintro _ H4 ⟨rfl,e4⟩
 refine⟨_,_,rfl,?_⟩
 refine HC.mono (Count_no (V3.ext e4) hw (.inr hno)) ?_
 rintro _ H5 ⟨rfl,e5⟩
 refine⟨_,_,rfl,?_⟩
 refine HC.mono (Keys_no hw) ?_
 rintro _ H6 ⟨rfl,e6⟩
 refine⟨_,_,_,_,rfl,?_⟩
 have hnew: ∀{A:zV},eqtab_New.C none A (λu A'=>u=.tuple #[.int .u64 0,.int .i64 2]/\A'=A):=λ{A}=>by
  refine HC.via λR hR=>eqtab_New.link ?_
  unfold eqtab_New.pt zY
  rw[onPtr_none];exact hR _ _ ⟨rfl,rfl⟩
 refine HC.mono hnew ?_
 rintro _ H7 ⟨rfl,rfl⟩
 refine⟨_,_,rfl,?_⟩
 rw[if_pos rfl,if_neg (by decide),if_pos rfl,if_neg (by decide),if_pos rfl,if_pos rfl,if_pos rfl,if_pos rfl,if_pos rfl,if_pos rfl,if_pos (show((0:Nat):Int)=0 from rfl)]
 refine HC.mono awake15_c ?_
 rintro _ H8 ⟨rfl,e8⟩
 exact⟨_,rfl,hR _ _ ⟨rfl,((((((e1.trans e2).trans e3).trans e4).trans e5).trans e6).trans e8)⟩⟩
set_option maxRecDepth 100000 in
theorem lifted(os:Os)(started:os.Started)(H:Type)(enc:TypeId×Value->H):
  ReturnsInHanded {} Tryz.checked os 5 .any (Rows.eqtabNoneSpec.pre6 enc Tryz.prog Tryz.f5 Rows.eqtabNoneRow.domain false) (Rows.eqtabNoneSpec.post enc Tryz.prog Tryz.f5 false true false false):=by
 refine law_lifted (tb:=4) started (by kernel_rfl) Tryz.func5
  (ChangeSpec.witness6 (enc:=enc) (C:=Tryz.checked) false ⟨#[],#[.int .u64 0,.int .u64 0,.int .u64 0],[]⟩ 8 (by kernel_rfl) (by kernel_rfl) (by kernel_rfl) (by kernel_rfl))
  rfl (by kernel_rfl) rfl Tryz.underlying4 (λds hds=>?_) ?_
 ·match ds,hds with
  | [d0,d1,d2],_=>rfl
 intro W base args ds p hval hA _
 rw[Tryz.params5]at hA hval
 obtain⟨v0,vs0,d0,ds0,p0,q0,hargs,rfl,rfl,h0,r0⟩:=trodAll_cons hA
 obtain⟨v1,vs1,d1,ds1,p1,q1,rfl,rfl,rfl,h1,r1⟩:=trodAll_cons r0
 obtain⟨v2,vs2,d2,ds2,p2,q2,rfl,rfl,rfl,h2,r2⟩:=trodAll_cons r1
 obtain⟨rfl,rfl,rfl⟩:=trodAll_nil r2
 obtain rfl:args= #[v0,v1,v2]:=by cases args;simp_all
 obtain⟨a0,rfl,rfl,rfl,w0⟩:=open_int Tryz.underlying31 (hval 0 31 v0 rfl rfl) h0
 obtain⟨a1,rfl,rfl,rfl,w1⟩:=open_int Tryz.underlying31 (hval 1 31 v1 rfl rfl) h1
 obtain⟨a2,rfl,rfl,rfl,w2⟩:=open_int Tryz.underlying31 (hval 2 31 v2 rfl rfl) h2
 exact law a0 a1 a2 (wf_u64 w0) (wf_u64 w1) (wf_u64 w2) W.heap

theorem over:Rows.eqtabNoneRow.holds Tryz.pinned (OpenSpec.ofChange Rows.eqtabNoneSpec):=
 OpenClaim.holds_of_wide 5 Tryz.f5 rfl rfl rfl rfl rfl rfl rfl ⟨rfl,rfl,rfl,rfl,rfl⟩ rfl rfl rfl rfl rfl (by kernel_rfl) Tryz.func5 (by kernel_rfl)
  (of_decide_eq_true (by kernel_rfl)) (by unfold Func.isWrapper;first | (rw[if_pos (by decide+kernel)];kernel_rfl) | (rw[if_neg (by decide+kernel)];exact⟨rfl,rfl⟩))
  (λos started H enc _=>lifted os started H enc)

theorem proved:Rows.EqtabNoneSaid:=
 over
#print axioms proved
end Go.Proofs.YtiebboaeaoobmaaGreat.eqtabNone
