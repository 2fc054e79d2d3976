/- The law AuditLive of morainelaw14 holds: called with any arguments that hold no more than a machine can (Upto) it answers true and leaves what it was handed as it was. No other condition. -/
import Derived.Test.YtfhbhckhmnleoaaGreatAmJ
set_option linter.unusedVariables false
set_option linter.unusedSimpArgs false
set_option maxRecDepth 100000
namespace Go.Proofs.YtfhbhckhmnleoaaGreat.auditLive
open Go Go.Proofs.Tryz Go.Proofs.YtfhbhckhmnleoaaGreat
open Go.ChangeShapes Go.WideShapes Go.ChangeAt Go.RowKit
theorem law(z:Int)(s:Sl gP)(H:zV)(hl:Ah z)(A:SlOK 6 lk 1048576 H s):
  cK.C z s.p s.n s.c H (λv H'=>v=VT/\Ext H H'):=by
 have A:SlOK 6 lk bulk H s:=A
 have B:SlOK 6 lk maxLen H s:=Bi A (by decide) (λ_=>rfl) (λy=>roundUp (by decide))
 refine HC.via λR hR=>cK.link ?_
 unfold cK.pt zY
 refine HC.mono (wy A) ?_
 rintro _ H1 ⟨t,rfl,a2,ao⟩
 obtain rfl:H=H1:=ao.symm
 refine⟨_,rfl,?_⟩
 have ck: ∀U:zV,Ext H U->bI.C U (λv H2=> ∃a5:Bool,v=.bool a5/\R (.bool a5) H2):=λU e=>HC.mono oQ (by rintro _ A2 ⟨rfl,e2⟩;exact⟨true,rfl,hR _ _ ⟨rfl,e.trans e2⟩⟩)
 by_cases ht:t=true
 ·rw[qB ht];exact ck _ (CW _)
 rw[za ht]
 have F:=a2 (by simpa using ht)
 refine HC.mono (wM hl B F) ?_
 rintro _ H3 (⟨rfl,e8⟩ | ⟨b,mB,mN,mC,rfl,x,sz,g,sB,sC,bO,eB,eC,el,rfl,S,bm,bp,bq,bn⟩)
 ·refine⟨_,_,_,_,_,rfl,?_⟩
  rw[CP]
  refine⟨λt U=>t=true/\Ext H U,?_,?_⟩
  ·rw[qB rfl]
   refine HC.mono oQ ?_
   rintro _ A2 ⟨rfl,e2⟩
   exact⟨true,rfl,rfl,e8.trans e2⟩
  ·rintro t A2 ⟨rfl,e2⟩
   exact hR _ _ ⟨rfl,e2⟩
 have b3:=A.len
 have b4:=F.1
 refine⟨_,_,_,_,_,rfl,?_⟩
 rw[CK]
 obtain⟨p1,p2,f6⟩:=S.hp.putEn2 (VN)
 refine⟨p1,λH6 ap=>?_⟩
 rw[<-ap]at p2 f6
 obtain⟨p3,p4,f7⟩:=p2.putSy2 (VN)
 refine⟨p3,λH7 au=>?_⟩
 rw[<-au]at p4 f7
 have E:b.h∈b.all:=by simp[Blk.all]
 have S7:Gs H H7 b {x with en:=VN,sy:=VN} sz mB mC g none 0 [] none 0 []:=
  ⟨(S.e.fr_trans f6 (λj f=>by simp at f;rw[f];exact S.hb _ E)).fr_trans f7 (λj f=>by simp at f;rw[f];exact S.hb _ E),p4,S.inv,S.snd,(S.own.keep f6 (λj f q=>by simp at q;rw[q]at f;exact(S.hm _ f).2 E)).keep f7 (λj f q=>by simp at q;rw[q]at f;exact(S.hm _ f).2 E),S.good,rfl,gI,λw N=>by simp at N,rfl,gI,λw N=>by simp at N,S.hb,S.hm,λj f=>by simp at f,λj f=>by simp at f⟩
 clear f6 f7 p2 p4 S
 refine pf S7.some (by omega) ?_
 intro A8 pB pC e8 az Q
 have S8:=S7.ext e8
 refine⟨_,S8.hp.hPtr,_,rfl,_,S8.hp.cd.cPtr,λb2 X aw K=>?_⟩
 have Y:Ext A8 X:=CI K
 have O:=S8.ext Y
 refine HC.mono (kw (gs:=[4]) O.hp.cd.sp O.inv.ok (show dO X (some ⟨b2,0,none⟩) (zf [4])from⟨by rw[CH,aI (aF aw K)];rfl,EO⟩) rfl (by decide)) ?_
 rintro _ aa ⟨rfl,Z⟩
 have m:=O.ext Z
 refine⟨_,rfl,?_⟩
 by_cases h4:x.sp.mem.words [4]>0
 ·rw[qB h4];exact ck _ m.e
 rw[za h4]
 have an:x.sp.mem.words [4]=0:=by
  rw[Ei m.inv.ok.mem]at h4⊢
  omega
 have J:=Y.trans Z
 have T:dO aa pB (zR 0 (mB.getD default) g.length):=az.ext J
 have a1: ∀j∈b.all,j<H7.size:=λj f=>S7.hp.lt j f
 have b7:=J.size
 refine HC.mono (tM m (by show x.sp.cf<=_;omega) (by omega) (by simp) (by simp) (by decide) (by decide) T rfl (λj f=>⟨λh=>by have:=a1 j h;have:=(Q j f).1;omega,λh=>by have:=S7.own.lt j h;have:=(Q j f).1;omega,by have:=(Q j f).2;omega⟩)) ?_
 rintro v bb (⟨e,rfl,he,af⟩ | ⟨rfl,V,q,P,fw,al,bS,tr,s3,s4,s5,bA,W⟩)
 ·refine⟨e,rfl,?_⟩
  rw[za (by omega)];exact ck _ (m.e.trans af)
 refine⟨0,rfl,?_⟩
 rw[qB rfl]
 obtain⟨x',bM,bN,bk,bl,I,G⟩:=W.gs m
 obtain⟨n1,n2,n3⟩:=W.none rfl
 have t:=W.col.t
 have d: ∀{A:zV} {a:Addr} {v:Value},hat A a=some v->aL A a 0 [v]:=λh=>⟨by rw[m7];exact h,EO⟩
 have key: ∀L,(∃k,L=bZ s5.mem (g.map (Fw tr.old fw)) k/\L.length=k)->s5.mem.words []<=kH s5.mem L/\s5.mem.words [3]=s5.mem.words []:=λL hL=>
  t.live W.col.inv (by rw[<-I];exact G.snd) n1 n2 n3 an (λw N=>⟨(m.good w N).1,(m.good w N).2.1⟩) (λw N=>t.roots w (W.kept w N)) rfl hL
 have a3:(g.map (Fw tr.old fw)).length=g.length:=by rw[Dl]
 refine⟨_,G.hp.hPtr,_,rfl,_,G.hp.cd.cPtr,_,G.hp.hPtr,_,G.hp.hPtr,?_⟩
 refine HC.mono (kw (gs:=[]) G.hp.cd.sp G.inv.ok (by rw[DF];rfl) rfl (by decide)) ?_
 rintro _ bc ⟨rfl,ag⟩
 have D:=G.ext ag
 refine⟨_,rfl,d D.hp.hPtr,d D.hp.hPtr,?_⟩
 rw[<-a3]
 refine HC.mono (tL D (by omega)) ?_
 rintro _ bd ⟨L,hL,rfl,ay,ah⟩
 have o:=D.ext ah
 rw[I]at hL ay
 obtain⟨k1,k2⟩:=key L hL
 refine⟨_,rfl,d o.hp.hPtr,d o.hp.hPtr,?_⟩
 rw[I,qB (by omega)]
 refine⟨_,rfl,_,o.hp.cd.cPtr,_,rfl,_,o.hp.cd.cPtr,λbj ab ax M=>?_⟩
 have i:=o.ext (CI M)
 refine⟨d i.hp.cd.cPtr,d i.hp.cd.cPtr,d i.hp.hPtr,d i.hp.hPtr,?_⟩
 refine HC.mono (kw (gs:=[3]) i.hp.cd.sp i.inv.ok (show dO ab (some ⟨bj,0,none⟩) (zf [3])from⟨by rw[CH,aI (aF ax M)];rfl,EO⟩) rfl (by decide)) ?_
 rintro _ be ⟨rfl,ai⟩
 have l:=i.ext ai
 refine⟨_,rfl,d l.hp.cd.cPtr,d l.hp.cd.cPtr,d l.hp.hPtr,d l.hp.hPtr,?_⟩
 refine HC.mono (kw (gs:=[]) l.hp.cd.sp l.inv.ok (by rw[DF];rfl) rfl (by decide)) ?_
 rintro _ bf ⟨rfl,aj⟩
 have r:=l.ext aj
 refine⟨_,rfl,d r.hp.cd.cPtr,d r.hp.cd.cPtr,d r.hp.hPtr,d r.hp.hPtr,?_⟩
 rw[I,qB k2]
 refine HC.mono oQ ?_
 rintro _ bh ⟨rfl,ak⟩
 have u:=r.ext ak
 exact⟨true,rfl,d u.hp.cd.cPtr,d u.hp.cd.cPtr,d u.hp.hPtr,d u.hp.hPtr,hR _ _ ⟨rfl,u.e⟩⟩
theorem lifted(i:Os)(b:i.Started)(H:Type)(enc:TypeId×Value->H)(F:Stop.Interp):
  ReturnsInHanded {} Tryz.checked i 7 .any ((Rows.OpenSpec.upto Rows.auditLiveSpec).pre6 enc prog Tryz.f7 Rows.auditLiveUptoRow.domain false) (((Rows.OpenSpec.upto Rows.auditLiveSpec).at F).post enc prog Tryz.f7 false true false false):=by
 refine ph (tb:=4) b (by kernel_rfl) func7
  (OpenSpec.witness (enc:=enc) (C:=Tryz.checked) (s:=Rows.OpenSpec.upto Rows.auditLiveSpec) (k:=Rows.uptoSmall) rfl false ⟨#[],#[vi 0,VN],[]⟩ 8 (by kernel_rfl) (by kernel_rfl) (by kernel_rfl)
   (x:=([.lit (.int .i64 0),.nil],[],[])) (by kernel_rfl) rfl (by kernel_rfl))
  rfl (by kernel_rfl) rfl underlying4 (λg e=>?_) ?_
 ·match g,e with
  | [n,o],_=>rfl
 intro W f args g p a h c
 rw[params7]at h a
 obtain⟨j,z,n,q,G,J,d,rfl,rfl,t,v⟩:=trodAll_cons h
 obtain⟨l,A,o,r,I,K,rfl,rfl,rfl,u,w⟩:=trodAll_cons v
 obtain⟨rfl,rfl,rfl⟩:=trodAll_nil w
 obtain rfl:args= #[j,l]:=by cases args;simp_all
 obtain⟨m,rfl,rfl,rfl,D⟩:=open_int underlying3 (a 0 3 j rfl rfl) t
 obtain⟨y,rfl,E⟩:=uQ Ez (by kernel_rfl) qE (B:=1048576) (.inr (Dz (oz (by simp)) c)) (a 1 85 l rfl rfl) u
 exact law m y W.heap (wf_i64 D) E
theorem over:Rows.auditLiveUptoRow.holds Tryz.pinned (Rows.OpenSpec.upto Rows.auditLiveSpec):=
 OpenClaim.holds_of_cond 7 Tryz.f7 rfl rfl rfl rfl rfl rfl rfl ⟨rfl,rfl,rfl,rfl,rfl⟩ rfl rfl rfl rfl rfl (by kernel_rfl) func7 (by kernel_rfl)
  (Eo (by kernel_rfl)) (by unfold Func.isWrapper;first | (rw[qB (by decide+kernel)];kernel_rfl) | (rw[za (by decide+kernel)];exact⟨rfl,rfl⟩))
  (λc a H b _ F=>lifted c a H b F)
theorem proved:Rows.AuditLiveUptoSaid:=
 over
#print axioms proved
end Go.Proofs.YtfhbhckhmnleoaaGreat.auditLive
