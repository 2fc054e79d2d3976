/- The law WeakNobody of morainelaw12 holds: called with any arguments it answers true and leaves what it was handed as it was. No condition. -/
import Derived.Test.YtmlhlkbpglcccaaGreatWnD
import Derived.Test.YtmlhlkbpglcccaaGreatWnE
set_option linter.unusedVariables false
set_option linter.unusedSimpArgs false
namespace Go.Proofs.YtmlhlkbpglcccaaGreat.weakNobody
open Go Go.Proofs.YtmlhlkbpglcccaaGreat
open Go.ChangeShapes Go.WideShapes Go.ChangeAt Go.RowKit

set_option maxRecDepth 100000 in
theorem law(s:Sl dw)(p:zW)(n c:Nat)(x:List Int)(H:zV)(Al:SlOK 2 j2 maxLen H s)(W:Nums H .u64 p n x)(u:n<=maxLen):
  bO.C s.p s.n s.c p n c H (λv H'=>v=.bool true/\Ext H H'):=by
 refine HC.via λR hR=>bO.link ?_
 unfold bO.pt zY
 have fin: ∀{A:zV},Ext H A->bM.C A (λv H1=> ∃x:Bool,v=.bool x/\R (.bool x) H1):=λ{A} e=>by
  refine HC.mono ni ?_
  rintro _ H1 ⟨rfl,e1⟩
  exact⟨_,rfl,hR _ _ ⟨rfl,e.trans e1⟩⟩
 by_cases hbig:(s.n:Int)>1000\/(n:Int)>1000
 ·rw[if_pos (by simpa using hbig)]
  exact fin (Ext.refl _)
 rw[if_neg (by simpa using hbig)]
 have hsl:=Al.len
 have hnl:=W.len
 have hsrc:=nU Al
 have hw:dd H p (wvs x):=W.src
 refine HC.mono mm ?_
 rintro _ H2 h2
 obtain rfl:H=H2:=h2.symm
 refine HC.mono (mn hsrc (by rw[j3,hsl]) (lE _) (by omega)) ?_
 rintro _ H3 ⟨B,cB,rfl,o3,hB,e3⟩
 refine⟨_,_,_,rfl,HC.mono (nj (hw.ext e3) hnl.symm (by omega)) ?_⟩
 rintro _ H4 ⟨B2,c2,rfl,o4,hB2,e4⟩
 have e34:=e3.trans e4
 have o34:=o3.ext e4
 refine⟨_,_,_,rfl,HC.mono (nW o34.src (hsrc.ext e34) hsl.symm (by omega)) ?_⟩
 rintro _ H5 ⟨rfl,h5⟩
 obtain rfl:H4=H5:=h5.symm
 refine⟨_,rfl,?_⟩
 rw[if_pos rfl,hnl]
 refine HC.mono (nk o4.src (hw.ext e34) hnl.symm (by omega)) ?_
 rintro _ H6 ⟨rfl,h6⟩
 obtain rfl:H4=H6:=h6.symm
 refine⟨_,rfl,?_⟩
 rw[if_pos rfl]
 refine⟨λi A=> ∃k:Nat,i=k/\k<=s.xs.length/\Ext H A/\ ∀a,B=some a->a=⟨a.block,0,none⟩/\H.size<=a.block/\ ∃cs:Array Value,A[a.block]?=some (.cells cs 36 (0,0))/\s.xs.length*2<=cs.size/\ ∀(j:Nat) (h:j<s.xs.length),k<=j->cs[j*2]?=some (.int .u64 s.xs[j].obj)/\cs[j*2+1]?=some (.int .u64 s.xs[j].guardian),λi _=>((s.n:Int)-i).toNat,
  ⟨0,rfl,by omega,e34,λa ha=>?_⟩,?_⟩
 ·subst ha
  obtain⟨h1,cs,h2,h3,h4,h5,h6⟩:=o34
  refine⟨h1,hB _ (by simp),cs,h2,by rw[h3];have:=Nat.mul_le_mul_right 2 h4;omega,λj hj _=>?_⟩
  obtain⟨g0,g1⟩:=iO s.xs j hj
  exact⟨by rw[h6 _ (by omega)];exact g0,by rw[h6 _ (by omega)];exact g1⟩
 rintro _ A ⟨k,rfl,hk,eA,hA⟩
 by_cases hlt:(k:Int)< (s.n:Int)
 case neg=>rw[if_neg hlt];exact fin eA
 rw[if_pos hlt]
 have hkl:k<s.xs.length:=by omega
 obtain⟨a,ha,row⟩:=Al.row k hkl
 obtain⟨B',hB'⟩: ∃a',B=some a':=by
  cases hb:B with
  | none=>
   rw[hb]at o3
   obtain⟨h0,_,_⟩:=o3
   omega
  | some a'=>exact⟨a',rfl⟩
 obtain⟨hz,hbl,cs,g,hcs,hall⟩:=hA B' hB'
 obtain⟨g0,g1⟩:=hall k hkl (Nat.le_refl _)
 have htk:Int.toNat (k:Int)=k:=by omega
 have had:B'.add (k*2)=(Addr.mk B'.block 0 none).add (k*2):=by rw[<-hz]
 refine⟨B',hB',⟨by omega,hlt⟩,s.xs[k].obj,by rw[htk,had,jp g];exact g0,⟨by omega,hlt⟩,?_⟩
 rw[htk,had]
 obtain⟨cp,hp⟩:=og g (k*2) (.int .u64 (IntKind.wrap .u64 (s.xs[k].obj+1))) (by omega)
 refine⟨cp,λH8 hH8=>?_⟩
 obtain⟨g8,f8⟩:=hp H8 hH8
 have e8:Ext H H8:=eA.fr_trans f8 (λi hi=>by simp at hi;omega)
 have hw0:=wf_u64 (Al.each _ (List.getElem_mem hkl)).obj
 have hne:IntKind.wrap .u64 (s.xs[k].obj+1)≠s.xs[k].obj:=by
  obtain⟨w0,w1⟩:=hw0
  by_cases hm:s.xs[k].obj+1<18446744073709551616
  ·rw[wu64 ⟨by omega,by omega⟩];omega
  ·have:s.xs[k].obj+1=18446744073709551616:=by omega
   rw[this,show IntKind.wrap .u64 18446744073709551616=0 from by decide];omega
 have hk2:k*2<cs.size:=by omega
 refine⟨⟨by omega,hlt⟩,IntKind.wrap .u64 (s.xs[k].obj+1),s.xs[k].guardian,⟨?_,?_,trivial⟩,a,ha,⟨by omega,hlt⟩,s.xs[k].obj,s.xs[k].guardian,e8.rowAt row,trivial,?_⟩
 ·rw[iW,jp g8,Array.getElem?_setIfInBounds];simp[hk2]
 ·have e:((Addr.mk B'.block 0 none).add (k*2)).add (0+1)=(Addr.mk B'.block 0 none).add (k*2+1):=by rw[fI]
  rw[e,jp g8,Array.getElem?_setIfInBounds,if_neg (by omega)];exact g1
 rw[if_neg (λh=>hne h.1)]
 have hwr:IntKind.wrap .i64 ((k:Int)+1)=((k+1:Nat):Int):=by rw[w64 (n:=(k:Int)+1) (by omega)];omega
 rw[hwr]
 refine⟨⟨k+1,rfl,hkl,e8,λa' ha'=>?_⟩,by show((s.n:Int)-((k+1:Nat):Int)).toNat< ((s.n:Int)-(k:Int)).toNat;omega⟩
 rw[hB']at ha'
 cases ha'
 refine⟨hz,hbl,_,g8,by simpa using hcs,λj hj hkj=>?_⟩
 obtain⟨j0,j1⟩:=hall j hj (by omega)
 rw[Array.getElem?_setIfInBounds,if_neg (by omega),Array.getElem?_setIfInBounds,if_neg (by omega)]
 exact⟨j0,j1⟩
set_option maxRecDepth 100000 in
theorem lifted(os:Os)(started:os.Started)(H:Type)(enc:TypeId×Value->H):
  ReturnsInHanded {} Tryz.checked os 4 .any (Rows.weakNobodySpec.pre6 enc Tryz.prog Tryz.f4 Rows.weakNobodyRow.domain false) (Rows.weakNobodySpec.post enc Tryz.prog Tryz.f4 false true false false):=by
 refine mh (tb:=4) started (by kernel_rfl) Tryz.func4
  (ChangeSpec.witness6 (enc:=enc) (C:=Tryz.checked) false ⟨#[],#[.slice none 0 0,.slice none 0 0],[]⟩ 8 (by kernel_rfl) (by kernel_rfl) (by kernel_rfl) (by kernel_rfl))
  rfl (by kernel_rfl) rfl Tryz.underlying4 (λds hds=>?_) ?_
 ·match ds,hds with
  | [d0,d1],_=>rfl
 intro W base args ds p hval hA _
 rw[Tryz.params4]at hA hval
 obtain⟨v0,vs0,d0,ds0,p0,q0,hargs,rfl,rfl,h0,r0⟩:=trodAll_cons hA
 obtain⟨v1,vs1,d1,ds1,p1,q1,rfl,rfl,rfl,h1,r1⟩:=trodAll_cons r0
 obtain⟨rfl,rfl,rfl⟩:=trodAll_nil r1
 obtain rfl:args= #[v0,v1]:=by cases args;simp_all
 obtain⟨s0,rfl,w0⟩:=nf Tryz.underlying31 (by kernel_rfl) kg (B:=maxLen) (.inl rfl) (hval 0 31 v0 rfl rfl) h0
 obtain⟨p1,n1,c1,x1,rfl,w1,u1⟩:=nd Tryz.underlying32 Tryz.underlying28 (by kernel_rfl) (B:=maxLen) (.inl rfl) (hval 1 32 v1 rfl rfl) h1
 exact law s0 p1 n1 c1 x1 W.heap w0 w1 u1

theorem over:Rows.weakNobodyRow.holds Tryz.pinned (OpenSpec.ofChange Rows.weakNobodySpec):=
 OpenClaim.holds_of_wide 4 Tryz.f4 rfl rfl rfl rfl rfl rfl rfl ⟨rfl,rfl,rfl,rfl,rfl⟩ rfl rfl rfl rfl rfl (by kernel_rfl) Tryz.func4 (by kernel_rfl)
  (of_decide_eq_true (by kernel_rfl)) (by unfold Func.isWrapper;first | (rw[if_pos (by decide+kernel)];kernel_rfl) | (rw[if_neg (by decide+kernel)];exact⟨rfl,rfl⟩))
  (λos started H enc _=>lifted os started H enc)

theorem proved:Rows.WeakNobodySaid:=
 over
#print axioms proved
end Go.Proofs.YtmlhlkbpglcccaaGreat.weakNobody
