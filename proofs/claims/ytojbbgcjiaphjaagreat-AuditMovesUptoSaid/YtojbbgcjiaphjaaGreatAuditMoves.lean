/- The law AuditMoves of morainelaw14 holds: called with any arguments that hold no more than a machine can (Upto) it answers true and leaves what it was handed as it was. No other condition. -/
import Derived.Test.YtojbbgcjiaphjaaGreatAmI
set_option linter.unusedVariables false
set_option linter.unusedSimpArgs false
namespace Go.Proofs.YtojbbgcjiaphjaaGreat.auditMoves
open Go Go.Proofs.Tryz Go.Proofs.YtojbbgcjiaphjaaGreat
open Go.ChangeShapes Go.WideShapes Go.ChangeAt Go.RowKit
set_option maxRecDepth 100000 in
set_option maxHeartbeats 2000000 in
theorem law(V:Int)(s:Sl gO)(H:zV)(hl:I64 V)(A:SlOK 6 kX 1048576 H s):
  cL.C V s.p s.n s.c H (λv H'=>v=VT/\Ext H H'):=by
 have A:SlOK 6 kX bulk H s:=A
 have B:SlOK 6 kX maxLen H s:=slUp A (by decide) (λ_=>rfl) (λy=>roundUp (by decide))
 refine HC.via λR hR=>cL.link ?_
 unfold cL.pt zY
 refine HC.mono (vJ A) ?_
 rintro _ H1 ⟨t,rfl,aT,bm⟩
 obtain rfl:H=H1:=bm.symm
 refine⟨_,rfl,?_⟩
 have de: ∀u:zV,Ext H u->bM.C u (λv H2=> ∃b8:Bool,v=.bool b8/\R (.bool b8) H2):=λu e=>HC.mono rg (by rintro _ A2 ⟨rfl,e2⟩;exact⟨true,rfl,hR _ _ ⟨rfl,e.trans e2⟩⟩)
 by_cases m:(t || ((s.n:Int)==0))=true
 ·rw[if_pos m];exact de _ (Ext.refl _)
 rw[if_neg m]
 have ht:t=false:=by cases t<;>simp_all
 have cO:0<s.n:=by
  rcases Nat.eq_zero_or_pos s.n with h | h
  ·rw[h]at m;simp at m
  ·exact h
 have F:=aT ht
 have c9:=A.len
 have cd:=F.1
 refine⟨λi u=>u=H/\(0<=i/\i<=s.n)/\ ∀r∈s.xs.take i.toNat,r.guard.n=0/\ ∀a∈r.acts.xs,a.dov≠1,λi _=>(s.n-i).toNat,⟨rfl,⟨by omega,by omega⟩,λr h=>by simp at h⟩,?_⟩
 rintro i H3 ⟨bn,hi,Z⟩
 obtain rfl:H=H3:=bn.symm
 by_cases M:i< (s.n:Int)
 case pos=>
  rw[if_pos M]
  have K:i.toNat<s.xs.length:=by omega
  obtain⟨la,ac,I⟩:=A.row i.toNat K
  have a0:gO.OK bulk _ s.xs[i.toNat]:=A.each _ (List.getElem_mem K)
  have bH:s.xs.take (i+1).toNat=s.xs.take i.toNat++[s.xs[i.toNat]]:=by rw[show(i+1).toNat=i.toNat+1 by omega,List.take_succ_eq_append_getElem K]
  generalize s.xs[i.toNat]=r at*
  have D:=fD I 0 (vs r.acts.p r.acts.n r.acts.c) rfl
  have a4:=fD I 1 (vs r.guard.p r.guard.n r.guard.c) rfl
  rw[Nat.zero_add,lv,Nat.add_zero]at D
  rw[Nat.zero_add]at a4
  have z:SlOK 8 lQ bulk _ r.acts:=a0.acts
  have bu:=z.len
  have az:=z.le
  have hB:bulk=1048576:=rfl
  rw[hB]at az
  refine⟨λk u=>u=H/\(0<=k/\k<=r.acts.n)/\ ∀a∈r.acts.xs.take k.toNat,a.dov≠1,λk _=>(r.acts.n-k).toNat,⟨rfl,⟨by omega,by omega⟩,λa h=>by simp at h⟩,?_⟩
  rintro k H4 ⟨bo,hk,ae⟩
  obtain rfl:H=H4:=bo.symm
  refine⟨la,ac,⟨hi.1,M⟩,_,_,_,D,?_⟩
  by_cases Y:k< (r.acts.n:Int)
  ·rw[if_pos Y]
   have aZ:k.toNat<r.acts.xs.length:=by omega
   obtain⟨ka,b0,bG⟩:=z.row k.toNat aZ
   have aN:r.acts.xs.take (k+1).toNat=r.acts.xs.take k.toNat++[r.acts.xs[k.toNat]]:=by rw[show(k+1).toNat=k.toNat+1 by omega,List.take_succ_eq_append_getElem aZ]
   generalize r.acts.xs[k.toNat]=a at*
   have P:=fD bG 0 (vi a.dov) rfl
   rw[Nat.zero_add,lv,Nat.add_zero]at P
   refine⟨⟨hi.1,M⟩,_,_,_,D,ka,b0,⟨hk.1,Y⟩,_,P,?_⟩
   by_cases h1:a.dov=1
   ·rw[if_pos h1];exact de _ (Ext.refl _)
   rw[if_neg h1]
   refine⟨⟨hi.1,M⟩,_,_,_,D,ka,b0,⟨hk.1,Y⟩,_,P,?_⟩
   by_cases h4:a.dov=4
   ·rw[if_pos h4];exact de _ (Ext.refl _)
   rw[if_neg h4]
   have hd:((r.acts.n:Int)-(k+1)).toNat< ((r.acts.n:Int)-k).toNat:=by omega
   rw[w64 (n:=k+1) (by omega)]
   refine⟨⟨rfl,⟨by omega,by omega⟩,λa' ay=>?_⟩,hd⟩
   rw[aN]at ay
   rcases List.mem_append.1 ay with q | q
   ·exact ae a' q
   ·simp at q;rw[q];exact h1
  ·rw[if_neg Y]
   rw[List.take_of_length_le (by omega)]at ae
   refine⟨⟨hi.1,M⟩,_,_,_,a4,?_⟩
   by_cases hg:(r.guard.n:Int)>0
   ·rw[if_pos hg];exact de _ (Ext.refl _)
   rw[if_neg hg]
   have hd:((s.n:Int)-(i+1)).toNat< ((s.n:Int)-i).toNat:=by omega
   rw[w64 (n:=i+1) (by omega)]
   refine⟨⟨rfl,⟨by omega,by omega⟩,λr' b3=>?_⟩,hd⟩
   rw[bH]at b3
   rcases List.mem_append.1 b3 with q | q
   ·exact Z r' q
   ·simp at q;subst q;exact⟨by omega,ae⟩
 rw[if_neg M]
 rw[List.take_of_length_le (by omega)]at Z
 refine HC.mono (vU hl B F (λr hr=>(Z r hr).1) (λr hr=>(Z r hr).2)) ?_
 rintro _ H8 (⟨rfl,e8⟩ | ⟨b,mB,mN,mC,rfl,x,sz,d,sB,sC,ah,rfl,S,cK,cN,cP⟩)
 ·refine⟨_,_,_,_,_,rfl,?_⟩
  rw[onPtr_none]
  refine⟨λt u=>t=true/\Ext H u,?_,?_⟩
  ·rw[if_pos rfl]
   refine HC.mono rg ?_
   rintro _ A2 ⟨rfl,e2⟩
   exact⟨true,rfl,rfl,e8.trans e2⟩
  ·rintro t A2 ⟨rfl,e2⟩
   exact hR _ _ ⟨rfl,e2⟩
 refine⟨_,_,_,_,_,rfl,?_⟩
 rw[onPtr_some]
 rw[w64 (n:=(s.n:Int)-1) (by omega)]
 have K:((s.n:Int)-1).toNat<s.xs.length:=by omega
 obtain⟨la,ac,I⟩:=B.row ((s.n:Int)-1).toNat K
 have a0:gO.OK maxLen _ s.xs[((s.n:Int)-1).toNat]:=B.each _ (List.getElem_mem K)
 generalize s.xs[((s.n:Int)-1).toNat]=r at*
 refine⟨la,ac,⟨by omega,by omega⟩,_,_,_,_,_,_,_,_,_,_,_,_,S.e.rowAt I,?_⟩
 intro c cj bw a3
 obtain⟨p1,p2⟩:=jP (n:=6) (vs:=[vs r.acts.p r.acts.n r.acts.c,vs r.guard.p r.guard.n r.guard.c,vs r.symbols.p r.symbols.n r.symbols.c,vi r.g,vi r.target,.int .u32 r.keep]) (aH bw a3) rfl rfl
 refine⟨p1,λa9 aw=>?_⟩
 obtain⟨bl,bj⟩:=p2 a9 aw
 have ap:Ext H8 a9:=(Ext.push' a3).fr_trans bj (λj E=>by simp at E;omega)
 have J:=S.ext ap
 have ag:kv a9 c r:=⟨bl⟩
 have N: ∀{x:Hp} {sz:Int->Nat} {u:zV} {d:List Int} {sB:zW} {sC:Nat} {ah:List Int},Gs H u b x sz mB mC d sB sC ah->Nums u .u64 mB d.length d/\ ∀w∈d,aG w:=λS=>⟨⟨rfl,S.own.src,λy hy=>lY (S.good y hy).1⟩,λw hw=>(S.good w hw).1⟩
 refine HC.mono (oD J.hp J.inv.ok (N J).1 (by omega) (N J).2 J.own.lt) ?_
 rintro _ ck ⟨oB,oC,ks,T,L,hL,rfl,O,b1,hT,bB,ab,bs,cC⟩
 refine⟨_,_,_,rfl,?_⟩
 have aj:=J.ext ab
 refine HC.mono (qg aj (by omega)) ?_
 rintro _ cm ⟨L2,bq,rfl,_,W⟩
 refine⟨_,rfl,?_⟩
 have ak:=aj.ext W
 refine oX ak.some (by omega) ?_
 intro aa pB pC X bC af
 have al:=ak.ext X
 have a7:=((ag.ext ab).ext W).ext X
 have aB:hat aa ((Addr.mk c 0 none).add 3)=some (vi r.g):=by rw[eO a7.at'];rfl
 have aC:hat aa ((Addr.mk c 0 none).add 4)=some (vi r.target):=by rw[eO a7.at'];rfl
 refine⟨_,aB,_,aC,?_⟩
 have d5:=ap.size
 have d6:=ab.size
 have d7:=W.size
 have d8:=X.size
 have Q: ∀j∈b.all,j<H8.size:=λj E=>S.hp.lt j E
 have U: ∀j∈blks mB,j<H8.size:=λj E=>S.own.lt j E
 refine HC.mono (R:=λv u=> ∃(e:Int) (x':Hp) (a1:Int->Nat) (l:List Int) (b5:zW) (b6:Nat) (a8:List Int),v=vi e/\(e=0\/e=1\/e=2)/\l.length=d.length/\Gs H u b x' a1 mB mC l b5 b6 a8/\Fr (b.all++blks mB) aa u/\
   ∀L L',(∃k,L=bD x.sp.mem d k/\L.length=k)->(∃k,L'=bD x'.sp.mem l k/\L'.length=k)->picL x'.sp.mem l L'=picL x.sp.mem d L/\ko x'.sp.mem L'=ko x.sp.mem L)
  (HC.mono (uh al (by omega) (by omega) (by omega) (wf_i64 a0.g) (wf_i64 a0.target) bC rfl (λj E=>⟨λh=>by have:=Q j h;have:=(af j E).1;omega,λh=>by have:=U j h;have:=(af j E).1;omega,(af j E).2⟩)) ?_) ?_
 ·rintro v u (⟨e,rfl,he,ao⟩ | ⟨rfl,x',a1,bU,bY,b7,f,G,bg,h1,h2,h3,h4,h5,h6⟩)
  ·refine⟨e,x,sz,d,sB,sC,ah,rfl,by omega,rfl,al.ext ao,ao.fr,?_⟩
   rintro L L' ⟨j,rfl,E⟩ ⟨k,rfl,hk⟩
   rw[mp x.sp.mem d (j:=k) (k:=j) (by omega) (by omega)];exact⟨rfl,rfl⟩
  ·exact⟨0,x',a1,d.map f,bU,bY,b7,rfl,.inl rfl,by rw[List.length_map],bg,h5,λL L' q1 q2=>h3.pic h4 q1 q2⟩
 rintro _ bd ⟨e,x',a1,l,b5,b6,a8,rfl,he,b2,o,bk,a6⟩
 refine⟨_,rfl,?_⟩
 rw[if_neg (by rcases he with rfl | rfl | rfl<;>decide)]
 have bf:kh bd oB ks.length oC ks T:=((O.ext W).ext X).keep bk (λj E h=>by
  have:=bB j E
  rcases List.mem_append.1 h with q | q
  ·have:=Q j q;omega
  ·have:=U j q;omega) (λj E h=>by
  have:=hT j E
  rcases List.mem_append.1 h with q | q
  ·have:=Q j q;omega
  ·have:=U j q;omega)
 rw[<-b2]
 refine HC.mono (oD o.hp o.inv.ok (N o).1 (by omega) (N o).2 o.own.lt) ?_
 rintro _ cn ⟨cU,cZ,bN,T',L',bp,rfl,O',a5,cI,cc,au,ax,c5⟩
 refine⟨_,_,_,rfl,?_⟩
 have A1:=vX o.inv.ok.mem O' a5 (N o).2 (by omega) ax
 have A2:=vX S.inv.ok.mem (bf.ext au) b1 (N S).2 (by omega) bs
 refine HC.mono (wM A1 A2) ?_
 rintro _ cp ⟨rfl,bh⟩
 refine⟨_,rfl,?_⟩
 have bA:bN.map keyK=ks.map keyK:=by rw[a5,b1];exact(a6 L L' hL bp).1
 rw[if_pos (by exact zX bA)]
 have am:=(o.ext au).ext bh
 refine HC.mono (qg am (by omega)) ?_
 rintro _ cq ⟨L3,br,rfl,_,bi⟩
 refine⟨_,rfl,?_⟩
 rw[if_pos (a6 L2 L3 bq br).2]
 exact de _ (am.ext bi).e
set_option maxRecDepth 100000 in
theorem lifted(i:Os)(b:i.Started)(H:Type)(enc:TypeId×Value->H)(F:Stop.Interp):
  ReturnsInHanded {} Tryz.checked i 6 .any ((Rows.OpenSpec.upto Rows.auditMovesSpec).pre6 enc prog f6 Rows.auditMovesUptoRow.domain false) (((Rows.OpenSpec.upto Rows.auditMovesSpec).at F).post enc prog f6 false true false false):=by
 refine oZ (tb:=4) b (by kernel_rfl) func6
  (OpenSpec.witness (enc:=enc) (C:=Tryz.checked) (s:=Rows.OpenSpec.upto Rows.auditMovesSpec) (k:=Rows.uptoSmall) rfl false ⟨#[],#[vi 0,VN],[]⟩ 8 (by kernel_rfl) (by kernel_rfl) (by kernel_rfl)
   (x:=([.lit (.int .i64 0),.nil],[],[])) (by kernel_rfl) rfl (by kernel_rfl))
  rfl (by kernel_rfl) rfl underlying4 (λg e=>?_) ?_
 ·match g,e with
  | [n,o],_=>rfl
 intro W f args g p a h c
 rw[params6]at h a
 obtain⟨j,z,n,q,G,J,d,rfl,rfl,t,v⟩:=trodAll_cons h
 obtain⟨l,A,o,r,I,K,rfl,rfl,rfl,u,w⟩:=trodAll_cons v
 obtain⟨rfl,rfl,rfl⟩:=trodAll_nil w
 obtain rfl:args= #[j,l]:=by cases args;simp_all
 obtain⟨m,rfl,rfl,rfl,D⟩:=open_int underlying3 (a 0 3 j rfl rfl) t
 obtain⟨y,rfl,E⟩:=un underlying26 (by kernel_rfl) qi (B:=1048576) (.inr (Nat.le_trans (og (by simp)) c)) (a 1 26 l rfl rfl) u
 exact law m y W.heap (wf_i64 D) E
theorem over:Rows.auditMovesUptoRow.holds Tryz.pinned (Rows.OpenSpec.upto Rows.auditMovesSpec):=
 OpenClaim.holds_of_cond 6 f6 rfl rfl rfl rfl rfl rfl rfl ⟨rfl,rfl,rfl,rfl,rfl⟩ rfl rfl rfl rfl rfl (by kernel_rfl) func6 (by kernel_rfl)
  (of_decide_eq_true (by kernel_rfl)) (by unfold Func.isWrapper;first | (rw[if_pos (by decide+kernel)];kernel_rfl) | (rw[if_neg (by decide+kernel)];exact⟨rfl,rfl⟩))
  (λc a H b _ F=>lifted c a H b F)
theorem proved:Rows.AuditMovesUptoSaid:=
 over
#print axioms proved
end Go.Proofs.YtojbbgcjiaphjaaGreat.auditMoves
