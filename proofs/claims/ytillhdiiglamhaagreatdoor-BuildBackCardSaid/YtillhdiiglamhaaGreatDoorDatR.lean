/-
 build.Heap's walk: a datum is laid on the heap, or there is no room. Proves nothing of any one statement.
-/
import Derived.Test.YtillhdiiglamhaaGreatDoorBuildP
import Derived.Test.YtillhdiiglamhaaGreatDoorRows
import Derived.WalkKit
import Derived.ProofKit
import Derived.SizedLaws
import Derived.OpenShut
import Derived.ShutString
import Derived.JoinedCond
import Derived.Test.YtillhdiiglamhaaGreatDoorOwn
import Derived.Test.YtillhdiiglamhaaGreatDoorDatM
set_option linter.unusedVariables false
set_option linter.unusedSimpArgs false
set_option maxHeartbeats 1000000
set_option maxRecDepth 100000
namespace Go.Proofs.YtillhdiiglamhaaGreatDoor
open Go Go.Proofs.Tryz
variable{a:List Int}{b:Int}{d:Bool}{g:ByteArray}{i:List Dt}{H k:zV}{j:Hp}{o:Nat}{q:Blk}
def Out(H:zV)(k:Blk)(x:Hp)(i:Nat):Prop:=i<H.size/\i ∉ k.all/\i ∉ syB x.sy
theorem Out.not{x:Hp}(h:Out H q x o):o ∉ q.all++syB x.sy:=λa=>by
 rcases EH.1 a with a | a
 ·exact h.2.1 a
 ·exact h.2.2 a
theorem Out.step{g H e:zV}{k:Blk}{x f:Hp}{d a:List Int}{c j:Int}{l:List ByteArray}(S:Step g H e k x f d a c j l){i:Nat}(h:Out H k x i):Out e k f i:=
 ⟨Fh h.1 S.fr.size,h.2.1,λb=>by
  rcases S.syB i b with b | b
  ·exact h.2.2 b
  ·have:=h.1;omega⟩
theorem Out.grow{a:zV}{k:Blk}(h:Out H k j o)(e:Ext H a):Out a k j o:=⟨Fh h.1 e.size,h.2⟩
theorem Out.fresh{c:zV}(L:Live H k q j)(S:SyAt H k q j a)(e:k.size<=o)(d:o<c.size):Out c q j o:=
 ⟨d,λb=>by have:=L.lt b;omega,λb=>by have:=L.addSy S o b;omega⟩
structure PEnv (H:zV) (k:Blk) (x:Hp) (b b3:Nat):Prop where
 hb:hat H ⟨b,0,none⟩=some (vp (some ⟨k.h,0,none⟩))
 hb3:hat H ⟨b3,0,none⟩=some (.func (.func 19) #[] #[vp (some ⟨b,0,none⟩),vp (some ⟨b3,0,none⟩)])
 ob:Out H k x b
 ob3:Out H k x b3
theorem PEnv.step{h H e:zV}{k:Blk}{x g:Hp}{b f:Nat}{d a:List Int}{c i:Int}{j:List ByteArray}(E:PEnv H k x b f)(S:Step h H e k x g d a c i j):PEnv e k g b f:=
 ⟨S.fr.hat E.ob.not E.hb,S.fr.hat E.ob3.not E.hb3,E.ob.step S,E.ob3.step S⟩
theorem PEnv.grow{a:zV}{k:Blk}{b:Nat}(E:PEnv H k j o b)(e:Ext H a):PEnv a k j o b:=⟨e.hat E.hb,e.hat E.hb3,E.ob.grow e,E.ob3.grow e⟩
theorem cD.step{j H b:zV}{k:Blk}{x g:Hp}{f a:List Int}{c l:Int}{n:List ByteArray}(S:Step j H b k x g f a c l n){v:Dv}{d:Dt}(h:cD (Out H k x) H v d):cD (Out b k g) b v d:=
 h.keep S.fr (λi m e=>e.not m) (λi e=>e.step S)
theorem cD.grow{a:zV}{k:Blk}(e:Ext H a){v:Dv}{d:Dt}(h:cD (Out H k j) H v d):cD (Out a k j) a v d:=
 h.keep (S:=[]) e.fr GH (λi b=>b.grow e)
def NoPr(m:Mem)(u:Int):Prop:= ∀tag a d,¬Pr m u tag a d
theorem NoPr.elder{m e:Mem}(k:Keep m e)(h:NoPr e b):NoPr m b:=λc a d f=>h c a d (f.keep k)
def Dd(H0 H:zV)(k:Blk)(x:Hp)(syl:List Int)(d:Dt)(r:Value)(H':zV):Prop:=
 ∃(w e:Int) (x':Hp),r=.tuple #[vu w,vi e]/\Live H0 H' k x'/\((e=2/\w=0/\Fell H0 H H' k x x' syl (2*aY d))\/(e=0/\ ∃syl',Step H0 H H' k x x' syl syl' (2*aY d) (baseD d) (jr d)/\fZ (NoPr x.sp.mem) x'.sp.mem syl' w d/\JW x x' syl syl' [w]))
theorem xo{c:Int}(h:Plain (.mk b c d a g i))(k:b≠3)(f:b≠4)(l:b≠5)(m:b≠6)(n:b≠7)(o:b≠8):Dt.mk b c d a g i=.mk b 0 false [] tE []:=by
 cases h with
 | mk pk r s j v u p w t x q e=>
 rw[r k,(j f).1,(j f).2,uH (u l m),t n o]
theorem xp(h:Plain (.mk 3 b d a g i)):Dt.mk 3 b d a g i=.mk 3 b false [] tE []/\jW b=true:=by
 cases h with
 | mk pk q c f n m j o l p k e=>
 refine⟨?_,c rfl⟩;rw[(f GG).1,(f GG).2,uH (m GG GG),l GG GG]
theorem xq(h:Plain (.mk 4 b d a g i)):Dt.mk 4 b d a g i=.mk 4 0 d a tE []/\Bv d a=true:=by
 cases h with
 | mk pk k l q e n f o m p j c=>
 refine⟨?_,e rfl⟩;rw[k GG,uH (n GG GG),m GG GG]
theorem xr(h:Plain (.mk 5 b d a g i)):Dt.mk 5 b d a g i=.mk 5 0 false [] g []/\jp g:=by
 cases h with
 | mk pk k l f n q c o m p j e=>
 refine⟨?_,c (.inl rfl)⟩;rw[k GG,(f GG).1,(f GG).2,m GG GG]
theorem xt(h:Plain (.mk 6 b d a g i)):Dt.mk 6 b d a g i=.mk 6 0 false [] g []/\jp g/\1<=(cF g).length:=by
 cases h with
 | mk pk l m f o q c j n p k e=>
 refine⟨?_,c (.inr rfl),j rfl⟩;rw[l GG,(f GG).1,(f GG).2,n GG GG]
theorem xu(h:Plain (.mk 8 b d a g i)):Dt.mk 8 b d a g i=.mk 8 0 false [] tE i/\i.length<=62/\ ∀x∈i,Plain x:=by
 cases h with
 | mk pk k l f n m j o q p e c=>
 refine⟨?_,e,c⟩;rw[k GG,(f GG).1,(f GG).2,uH (m GG GG)]
theorem xv(h:Bv d a=true):a.length<=48/\wg a=a.length/\oo a=a/\eL d a=(d,a,0):=by
 unfold Bv at h;simp at h;obtain⟨f,c,b⟩:=h;have e:oo a=a:=by unfold oo;rw[ES GF]
 refine⟨f,c,e,?_⟩;unfold eL;rw[kb GF,e,c];rcases b with rfl | b
 ·simp
 ·have:decide (0<a.length)=true:=by simpa using b
  rw[this,Bool.and_true]
theorem zM{neg:Bool}(i: ∀x∈a,gK x)(h:(Bg neg a).2=true): -1152921504606846976<=(Bg neg a).1/\(Bg neg a).1<1152921504606846976:=by
 have d:=jM i 0;have e:=jM i 1;have k:sj a=a.getD 0 0+4294967296*a.getD 1 0:=rfl;unfold gK at d e;unfold Bg at h⊢;by_cases f:2<wg a
 ·rw[ka f]at h;cases h
 rw[kb f]at h⊢;by_cases g:sj a>1152921504606846976
 ·rw[ka g]at h;cases h
 rw[kb g]at h⊢;by_cases b:sj a=1152921504606846976/\neg=false
 ·rw[ka b]at h;cases h
 rw[kb b]at h⊢;by_cases c:neg=true
 ·rw[ka c];dsimp only;omega
 ·rw[kb c];have j:neg=false:=by simpa using c
  have:sj a≠1152921504606846976:=λh=>b ⟨h,j⟩;dsimp only;omega
theorem uJ(h:jW b=true):0<=b/\iG b=true:=by
 have a:(0<=b/\b<=1114111)/\(b<55296\/57343<b):=by simpa[jW]using h
 refine⟨a.1.1,?_⟩;unfold iG;simp;omega
theorem yS{S:List Nat}{l d:zV}{h:Hp}{c:List Int}{m:Int}{n:List ByteArray}(w:Step H k l q j h a c b m n)(f:Fr S l d)(p: ∀i∈S,k.size<=i)(r: ∀i∈S,i ∉ syB h.sy):Step H k d q j h a c b m n:=by
 refine⟨?_,w.fr.trans' f (λi g _=>g) (λi g t=>absurd (p i g) GF),w.syB,w.keep,w.even,w.count,w.len,w.inv,w.sub,w.words,w.names⟩;obtain⟨B,b,e,o,s,v⟩:=w.sy;refine⟨B,b,e,o.keep f (λi g u=>r i u (by rw[e];exact g)),s,v⟩
set_option maxRecDepth 20000 in
theorem AQ(N:Nat): ∀(d:Dt),aY d<=N->Plain d->gP d-> ∀{Y H:zV} {k:Blk} {x:Hp} {m:List Int} {v:Dv} {b b3:Nat} (L:Live Y H k x) (T:lA Y) (he:x.sp.mem.Even) (S:SyAt Y H k x m) (G:iO x.sp.mem m) (D:cD (Out H k x) H v d) (E:PEnv H k x b b3)
  (hs:(m.length:Int)+2*aY d<=100000) (hc:x.sp.mem.count+2*aY d<=100000),
  gx.C v.kind v.c v.neg v.mB v.mN v.mC v.t v.lB v.lN v.lC (some ⟨b,0,none⟩) (some ⟨b3,0,none⟩) H (Dd Y H k x m d):=by
 induction N with
 | zero=>intro d h;have:=cV d;omega
 | succ N ih=>
 intro d hN bi bg Y H k x m v b b3 L T he S G D E hs hc;have D0:=D;have F:=bi;have a4:=bg;have f4:=cV d;refine Ei λR hR=>gx.link ?_;unfold gx.pt zY;intro b1 H1 bd c8;have g9:=Eh c8;have B:=E5 (v:=v) bd c8;have g1:=aK bd c8;have L1:=L.grow g9;have S1:SyAt Y H1 k x m:=S.keep rfl (g9.fr (S:=[])) GH;have E1:=E.grow g9;have Z:=(Step.refl S he G).grow g9
 have ok: ∀(w:Int) (x':Hp) (g:List Int) (A:zV) (c:Int),Live Y A k x'->Step Y H A k x x' m g c (baseD d) (jr d)->c<=2*aY d->fZ (NoPr x.sp.mem) x'.sp.mem g w d->JW x x' m g [w]->R (.tuple #[vu w,vi 0]) A:=
  λw x' g A c LA sA e4 hB hJ=>hR _ _ ⟨w,0,x',rfl,LA,.inr ⟨rfl,g,sA.le e4,hB,hJ⟩⟩
 have no: ∀(x':Hp) (A:zV),Live Y A k x'->Fell Y H A k x x' m (2*aY d)->R (.tuple #[vu 0,vi 2]) A:=λx' A LA V=>hR _ _ ⟨0,2,x',rfl,LA,.inl ⟨rfl,rfl,V⟩⟩;refine⟨_,B.kind,?_⟩;rw[D.vkind]
 have ch: ∀(d':Dt),aY d'<=N->Plain d'->gP d'-> ∀{A:zV} {y:Hp} {sy:List Int} {u:Dv} (LA:Live Y A k y) (he:y.sp.mem.Even) (SA:SyAt Y A k y sy) (G:iO y.sp.mem sy) (DA:cD (Out A k y) A u d') (EA:PEnv A k y b b3)
   (hs:(sy.length:Int)+2*aY d'<=100000) (hc:y.sp.mem.count+2*aY d'<=100000) {K:zk},(∀r A',Dd Y A k y sy d' r A'->K r A')->
   FC prog (.func (.func 19) #[] #[vp (some ⟨b,0,none⟩),vp (some ⟨b3,0,none⟩)]) #[.agg u.cells.toArray] A K:=λd' h1 h2 h3 A y sy u LA he SA G DA EA hs hc K hK=>by
  refine FC.of (enters_of func19 GE rfl) ?_;show gx.C u.kind u.c u.neg u.mB u.mN u.mC u.t u.lB u.lN u.lC (some ⟨b,0,none⟩) (some ⟨b3,0,none⟩) A K;exact gc (ih d' h1 h2 h3 LA T he SA G DA EA hs hc) hK
 clear ih;by_cases h7:d.kind=7
 case pos=>
  rw[kb GF,kb GF,kb GF,kb GF,kb GF,kb GF,kb GF,kb GF,kb GF,ka h7];obtain⟨o,r,hd,et,ep,en,d0⟩:=uI (aY d).toNat d GF F;have e6:=d0 h7;clear d0;subst hd;obtain⟨d7,ee⟩:=qT a4;have fw:=pA r o;have fz:=ir o;have fH:=cV r;have ec:0<o.length:=List.length_pos_iff.2 e6;have cO:b1=H.size:=bd;have eZ:b1<H1.size:=aS g1
  refine⟨λcB cN cC A=> ∃(vs:List Dv) (u:Dv),cN<=o.length/\vs.length=cN/\Ext H A/\H1.size<=A.size/\A[b1]?=some (.cells u.cells.toArray 27 (0,0))/\cD (Out H k x) H u (ju (o.drop cN) r)/\Own A 27 6 cB cN cC (vs.flatMap Dv.cells)/\(∀i∈l6 cB,H1.size<=i)/\(∀(i:Nat) (h1:i<vs.length) (h2:i<o.length),cD (Out H k x) H vs[i] o[i]),
   λ_ n _ _=>o.length-n,⟨[],v,GF,rfl,g9,Er _,g1,by simpa using D,gW,GH,GH⟩,?_⟩
  rintro cB cN cC A ⟨vs,u,hj,bj,eA,f5,gA,DA,ho,be,dk⟩;have BA:=DBox.of gA;refine⟨_,BA.kind,?_⟩;rw[DA.vkind];by_cases d4:cN<o.length
  ·-- one more
   rw[Fn d4,jh]at DA;rw[Fn d4,jh];rw[ka (by rfl)];generalize cf:ju (o.drop (cN+1)) r=fa at DA;have cp:=DA;unfold gL at cp
   cases cp with
   | mk _ _ _ _ _ _ _ us fo eQ eR gg hk cS hm d9 eg bH a0 cd f2 eb dj mP lP row ab=>
   have f7:us.length=2:=dj;obtain⟨a,ha,eq⟩:=row 0 GF;obtain⟨a',cL,er⟩:=row 1 GF;have e1:a'=a:=by rw[ha]at cL;exact(FN cL).symm
   subst e1;have eO:=ab 0 GF GH;have eP:=ab 1 GF GH;simp only[Gu,List.getElem_cons_succ]at eO eP;have d5:u.lN=2:=cd;refine⟨_,_,_,BA.l,a',ha,⟨GG,by rw[d5];decide⟩,_,_,_,_,_,_,_,_,_,_,eA.rowAt eq,λb4 fg e2 bz=>?_⟩;have al:=Eh bz;refine dE (ys:=us[0].cells) (ho.ext al) (cX (aK e2 bz) _ 0 0 (λj hj=>GH)) rfl (by rfl) rfl GF ?_;intro p' c' cs da c5 aC;have cy:Ext H cs:=(eA.trans al).fr_trans c5 (λi G=>by have:=be i G;omega);have cI:cs[b1]?=_:=c5.get (λhh=>by have:=be _ hh;omega) (al.get gA);have dC:=DBox.of cI;refine⟨_,_,_,dC.l,a',ha,⟨GG,by rw[d5];decide⟩,_,_,_,_,_,_,_,_,_,_,cy.rowAt er,?_⟩;obtain⟨s1,s2⟩:=ff (vs:=us[1].cells) (n:=6) cI rfl rfl;refine⟨s1,λdI cK=>?_⟩;obtain⟨dT,c6⟩:=s2 dI cK
   have bh: ∀i∈l6 p',H1.size<=i:=λi G=>by
    rcases aC i G with h | h
    ·exact be i h
    ·have:=al.size;omega
   have z1:=al.size;have z2:=c5.size;have z3:=c6.size;refine⟨⟨vs++[us[0]],us[1],GF,by simp[bj],cy.fr_trans c6 (λi G=>by simp at G;omega),GF,dT,by rw[cf];exact eP,?_,bh,λi h1 h2=>?_⟩,by show o.length-(cN+1)<o.length-cN;omega⟩
   ·have:=da.keep c6 (λi G hh=>by simp at hh;have:=bh i G;omega);simpa using this
   ·by_cases G:i<vs.length
    ·rw[Gt G];exact dk i G h2
    ·have ax:i=cN:=by simp[bj]at h1;omega
     subst ax;simp only[bj.symm,GA (Er _),F7,Gu];simpa[bj]using eO
  ·-- the last
   have ea:cN=o.length:=GF;subst ea;rw[Fa (Er _)]at DA⊢;have DA:cD (Out H k x) H u r:=DA;rw[show(ju [] r)=r from rfl,kb et];have EA:PEnv A k x b b3:=E.grow eA;refine⟨_,rfl,_,EA.hb3,_,_,_,_,_,_,_,_,_,_,BA.row,?_⟩;have LA:=L.grow eA;have SA:SyAt Y A k x m:=S.keep rfl (eA.fr (S:=[])) GH;refine ch r GF ep ee (u:=u) LA he SA G (DA.grow eA) EA GF GF ?_;rintro _ fh ⟨w,e,y,rfl,dM,O⟩;refine⟨_,_,rfl,?_⟩;have dp:Step Y H A k x x m m 0 0 []:=(Step.refl S he G).grow eA;have bC: ∀i∈l6 cB,Out A k x i:=λi G=>Out.fresh L S (by have:=be i G;have:=g9.size;omega) (ho.lt i G);have dq:IntKind.wrap .i64 ((o.length:Int)-1)=(o.length:Int)-1:=n5 GF;rw[dq]
   refine⟨λwv gd i A'=>(-1<=i/\i<o.length)/\ ∃y:Hp,Live Y A' k y/\((gd=2/\Fell Y H A' k x y m (2*aY (ju o r)))\/(gd=0/\ ∃g,Step Y H A' k x y m g (2*(bO (o.drop (i+1).toNat)+aY r)+(o.length-1-i)) (2*(o.length-1-i)+jY (o.drop (i+1).toNat)+baseD r) (iy (o.drop (i+1).toNat)++jr r)/\fZ (NoPr x.sp.mem) y.sp.mem g wv (ju (o.drop (i+1).toNat) r)/\JW x y m g [wv]/\
     PEnv A' k y b b3/\Own A' 27 6 cB o.length cC (vs.flatMap Dv.cells)/\(∀i∈l6 cB,Out A' k y i)/\aO wv)),
    λ_ _ i _=>(i+1).toNat,?_,?_⟩
   ·refine⟨GF,y,dM,?_⟩;rcases O with⟨rfl,rfl,V⟩ | ⟨rfl,g,J,hB,hJ⟩
    ·exact .inl ⟨rfl,(Fell.after dp V).le GF⟩
    ·have d1:o.drop ((o.length:Int)-1+1).toNat=[]:=Fa GF;refine .inr ⟨rfl,g,?_,?_,hJ,EA.step J,ho.keep J.fr (λi G hh=>(bC i G).not hh),λi G=>(bC i G).step J,hB.word⟩
     ·rw[d1];exact((dp.trans J).le (by simp only[bO];omega)).at (by simp only[jY];omega) (λt=>by simp[iy])
     ·rw[d1];exact hB
   rintro wv gd i fi ⟨e9,y,b8,O⟩;by_cases bf:i>=0/\gd=0
   case neg=>
    rw[kb (by simpa using bf)];rcases O with⟨rfl,V⟩ | ⟨rfl,g,J,hB,hJ,_,_,_,_⟩
    ·rw[kb GG];exact no y _ b8 V
    ·rw[ka rfl]
     have ay:i= -1:=by
      have: ¬i>=0:=λh=>bf ⟨h,rfl⟩;omega
     subst ay;simp only[Int.reduceNeg,Int.reduceAdd,Int.toNat_zero,F5]at J hB;refine ok _ y g _ _ b8 (J.at ?_ ?_) ?_ hB hJ
     ·have hb: ∀o:List Dt,baseD (ju o r)=2*o.length+jY o+baseD r:=by
       intro o
       induction o with
       | nil=>simp[ju,jY]
       | cons c o ih=>rw[jh,vQ,ih];simp only[jY,List.length_cons];omega
      rw[hb];omega
     ·have hb: ∀o:List Dt,jr (ju o r)=iy o++jr r:=by
       intro o
       induction o with
       | nil=>simp[ju,iy]
       | cons c o ih=>rw[jh,uG,ih];simp only[iy,Ft]
      intro t;rw[hb]
     ·omega
   rw[ka (by simpa using bf)];obtain⟨h0,rfl⟩:=bf;rcases O with⟨h,_⟩ | ⟨_,g,J,hB,hJ,bT,bE,ao,bk⟩
   ·cases h
   refine⟨_,bT.hb3,?_⟩;have ay:i.toNat<o.length:=GF;have bD:i.toNat<vs.length:=GF;obtain⟨a,ha,_,de⟩:=bE.elem (f:=Dv.cells) (λ_=>rfl) GG bD;have W:o[i.toNat]∈o:=Eu ay;have e5:=j4 W;have f0:=ir (o.drop (i+1).toNat);have d2:o.drop i.toNat=o[i.toNat]::o.drop (i+1).toNat:=by rw[Fn ay,show(i+1).toNat=i.toNat+1 by omega]
   have bK:bO (o.drop i.toNat)<=bO o:=by
    have: ∀(l:List Dt) (n:Nat),bO (l.drop n)<=bO l:=by
     intro l
     induction l with
     | nil=>intro n;simp
     | cons z l ih=>intro n;cases n with
      | zero=>simp
      | succ n=>simp only[List.drop_succ_cons,bO];have:=ih n;have:=cV z;omega
    exact this o _
   rw[d2]at bK;simp only[bO]at bK;have dx:=J.count;have dy:=J.len.1;have eh:=cV o[i.toNat];refine⟨a,ha,⟨h0,e9.2⟩,_,_,_,_,_,_,_,_,_,_,de,?_⟩;refine ch o[i.toNat] GF (en _ W) (d7 _ W) (u:=vs[i.toNat]) b8 J.even J.sy J.inv ((dk _ bD ay).step J) bT GF GF ?_;rintro _ dJ ⟨w2,ge,y2,rfl,a8,db⟩;refine⟨_,_,rfl,?_⟩;rw[n5 (n:=i-1) GF];have a9:(i-1+1).toNat< (i+1).toNat:=GF;rcases db with⟨rfl,rfl,V⟩ | ⟨rfl,b2,I,a2,c9⟩
   ·rw[kb GG];exact⟨⟨GF,y2,a8,.inl ⟨rfl,(Fell.after J V).le GF⟩⟩,a9⟩
   rw[ka rfl];have cq:=bT.step I;refine⟨_,rfl,_,cq.hb,?_⟩;have bm:=J.trans I;have e7:=bm.count;refine gc (vm a8.view a2.word bk (show y2.sp.mem.count<_ by omega)) ?_;rintro _ fk ⟨rfl,cw,c7⟩;obtain⟨w3,g3,y3,q1,q2,dc⟩:=zF a8 I.even a2.word bk;have X:=cons_no a8 I.even a2.word bk;rw[q1]at X;rw[q2]at cw;rw[q1];have cu:=a8.step cw c7;refine⟨_,_,rfl,?_⟩;rcases dc with⟨rfl,M,D3⟩ | ⟨⟨rfl,rfl⟩,rfl⟩
   case inr=>exact⟨⟨GF,y3,cu,.inl ⟨rfl,(Fell.stay bm (FK c7) (X rfl)).le GF⟩⟩,a9⟩
   have cH:=FK c7;have bn:=Step.made I.sy a8 I.inv cH M.made.keep M.even M.made.count M.made.free M.rest.1 D3;have eF:=bm.trans bn;have d3:o.drop (i-1+1).toNat=o[i.toNat]::o.drop (i+1).toNat:=by rw[<-d2];congr 1;omega
   have ap: ∀j∈l6 cB,Out dJ k y2 j:=λj hj=>(ao j hj).step I;refine⟨⟨GF,y3,cu,.inr ⟨rfl,b2,?_,?_,(hJ.trans c9).cons a2.word bk q1 q2 GH,cq.step bn,(bE.keep I.fr (λj hj hh=>(ao j hj).not hh)).keep bn.fr (λj hj hh=>(ap j hj).not hh),λj hj=>(ap j hj).step bn,M.pr.word⟩⟩,a9⟩
   ·rw[d3];simp only[bO,jY,iy];exact(eF.le GF).at GF (λt=>by simp only[EH,E9,List.not_mem_nil,or_false];constructor<;>(intro h;rcases h with(h | h) | h<;>simp[h]))
   ·rw[d3,jh];have dm:=a8.n64;have ev:=b8.n64;refine .pair M.pr (λfW p q hp=>?_) ?_ ?_
    ·have:=M.made.fresh 0 GF;have dd:=(hp.keep bm.keep);exact this (by have:=dd.at'.used dd.word;simpa using this)
    ·exact(a2.weaken (λu hu=>hu.elder J.keep)).keep dm M.made.keep (λu hu=>hu)
    ·exact(hB.keep ev I.keep I.sub).keep dm M.made.keep (λu hu=>hu)
 case neg=>
  cases d with
  | mk kd c neg mag t l=>
  rw[show(Dt.mk kd c neg mag t l).kind=kd from rfl]at h7⊢
  cases D with
  | mk _ _ _ _ _ _ _ us fo eQ eR gg hk cS hm d9 eg bH a0 cd d7 eb dj mP lP row ab=>
  obtain⟨dz,ef,az⟩:=mZ a4
  have ak: ∀w,CI kd=some w->kd≠3->kd≠4->kd≠5->kd≠6->kd≠8->R (.tuple #[vu w,vi 0]) H1:=λw hw h3 h4 h5 h6 h8=>by
   have e:=xo F h3 h4 h5 h6 h7 h8;refine ok w x m H1 0 L1 (Z.at ?_ ?_) GF (by rw[e];exact .con hw) ((JW.refl x m).imm (.inr (oR hw).2))
   ·rw[e];simp[baseD,jY,h4,h5,h7,h8]
   ·rw[e];intro t;simp[jr,iy,h6]
  by_cases q1:kd=1
  ·rw[ka q1];exact ak 12 (by subst q1;rfl) GF GF GF GF GF
  rw[kb q1];by_cases q2:kd=2
  ·rw[ka q2];exact ak 4 (by subst q2;rfl) GF GF GF GF GF
  rw[kb q2];by_cases q9:kd=9
  ·rw[ka q9];exact ak 36 (by subst q9;rfl) GF GF GF GF GF
  rw[kb q9];by_cases cj:kd=10
  ·rw[ka cj];exact ak 28 (by subst cj;rfl) GF GF GF GF GF
  rw[kb cj];by_cases q3:kd=3
  ·rw[ka q3];subst q3;obtain⟨e,cU⟩:=xp F;refine⟨_,B.c,?_⟩;rw[eQ];refine gc (tZ cS) ?_;rintro _ H2 ⟨rfl,ge⟩;rw[ka (uJ cU)];refine⟨_,_,rfl,ok _ x m H2 0 (L1.grow ge) ((Z.grow ge).at ?_ ?_) GF (by rw[e];exact .chr cU) ((JW.refl x m).imm (.inr GF))⟩
   ·rw[e];simp[baseD,jY]
   ·rw[e];intro t;simp[jr,iy]
  rw[kb q3];have e8:x.sp.mem.count<1000000000:=GF;by_cases q4:kd=4
  ·rw[ka q4];subst q4;obtain⟨e,aB⟩:=xq F;obtain⟨f3,f6,U,Q⟩:=xv aB;refine⟨_,rfl,_,E1.hb,_,_,_,_,B.num,?_⟩;rw[eR];refine gc (wY L1.view (show x.sp.mem.count<_ by omega) (bV.stay bH (g9.fr (S:=[])) GH) hm d9 GF a0) ?_;rintro _ H2 ⟨rfl,V2,ga⟩;have LF:=λy (h:Cf (some (k,x)) neg mag=some (k,y))=>L1.step (h▸V2) ga;have af:=FK ga;by_cases a3:(Bg neg mag).2=true
   ·have q:Ci (some (k,x)) neg mag=(Cr (Bg neg mag).1,0)/\Cf (some (k,x)) neg mag=some (k,x):=by
     refine⟨?_,?_⟩
     ·unfold Ci;rw[Q,U,kb GF,ka a3]
     ·unfold Cf;rw[Q,U,kb GF,ka a3]
    rw[q.1];have L2:=LF x q.2;clear LF;have hz:=vP (zM a0 a3);have hb:=yR (neg:=neg) a0 GF (by rw[Q,U];exact a3);rw[Q,U]at hb;refine⟨_,_,rfl,ok _ x m H2 0 L2 ((sI Z af).at ?_ ?_) GF ?_ ((JW.refl x m).imm (.inl hz.1))⟩
    ·rw[e];simp[baseD,jY,a3]
    ·rw[e];intro t;simp[jr,iy]
    ·rw[e];refine .num (.inl ⟨hz.1,hz.2.2,?_,?_⟩) aB a0
     ·rw[hz.2.1,hb]
     ·rw[hz.2.1,hb]
   ·have q:Ci (some (k,x)) neg mag=iT (some (k,x)) 3 (if neg=true then 1 else 0) mag/\Cf (some (k,x)) neg mag=js (some (k,x)) 3 (if neg=true then 1 else 0) mag:=by
     refine⟨?_,?_⟩
     ·unfold Ci;rw[Q,U,kb GF,kb a3]
     ·unfold Cf;rw[Q,U,kb GF,kb a3]
    rw[q.1];obtain⟨w,ew,y,r1,r2,O⟩:=ow L1 he (kind:=3) (more:=if neg=true then 1 else 0) (ws:=mag) GG (by split<;>decide) GF (λz hz=>by have:=a0 z hz;unfold gK at this;exact⟨GF,GF⟩);have X:=make_no L1 he (kind:=3) (more:=if neg=true then 1 else 0) (ws:=mag) GG (by split<;>decide) GF (λz hz=>by have:=a0 z hz;unfold gK at this;exact⟨GF,GF⟩);rw[r1]at X;rw[r1];have L2:=LF y (q.2.trans r2);clear LF;refine⟨_,_,rfl,?_⟩;rcases O with⟨rfl,M,D3⟩ | ⟨⟨rfl,rfl⟩,rfl⟩
    case inr=>exact no y _ L2 ((Fell.stay Z af (X rfl)).le GF)
    refine ok w y m H2 (0+1) L2 ((Z.trans (nl S1 L1 G af M D3)).at ?_ ?_) GF ?_ ((JW.refl x m).make GG (by split<;>decide) GF (λz hz=>by have:=a0 z hz;unfold gK at this;exact⟨GF,GF⟩) r1 r2 (λh=>absurd rfl h))
    ·rw[e];simp[baseD,jY,a3]
    ·rw[e];intro t;simp[jr,iy]
    ·rw[e];exact .num (.inr M.thing) aB a0
  rw[kb q4];by_cases q5:kd=5
  ·rw[ka q5];subst q5;obtain⟨e,ag⟩:=xr F;have bb:=ag.2;refine⟨_,rfl,_,E1.hb,_,B.t,?_⟩;rw[gg];refine gc (oh (s:=t) L1.view (show x.sp.mem.count<_ by omega)) ?_;rintro _ H2 ⟨rfl,V2,ga⟩
   have dh:Cl (some (k,x)) t=iT (some (k,x)) 2 0 (cF t)/\Cw (some (k,x)) t=js (some (k,x)) 2 0 (cF t):=by
    unfold Cl Cw;rw[kb GF,kb GF];exact⟨rfl,rfl⟩
   obtain⟨w,ew,y,r1,r2,O⟩:=ow L1 he (kind:=2) (more:=0) GG GG bb (jf t);have X:=make_no L1 he (kind:=2) (more:=0) GG GG bb (jf t);rw[r1]at X;rw[dh.2,r2]at V2;rw[dh.1,r1];have L2:=L1.step V2 ga;have af:=FK ga;refine⟨_,_,rfl,?_⟩;rcases O with⟨rfl,M,D3⟩ | ⟨⟨rfl,rfl⟩,rfl⟩
   case inr=>exact no y _ L2 ((Fell.stay Z af (X rfl)).le GF)
   refine ok w y m H2 (0+1) L2 ((Z.trans (nl S1 L1 G af M D3)).at ?_ ?_) GF ?_ ((JW.refl x m).make GG GG bb (jf t) r1 r2 (λh=>absurd rfl h))
   ·rw[e];simp[baseD,jY]
   ·rw[e];intro t;simp[jr,iy]
   ·rw[e];exact .str M.thing ag
  rw[kb q5];by_cases q6:kd=6
  ·rw[ka q6];subst q6;obtain⟨e,ag,ei⟩:=xt F;refine⟨_,rfl,_,E1.hb,_,B.t,?_⟩;rw[gg];refine gc (rx (name:=t) L1 he S1 G GF ag ei (gc (nB (T.ext L1.ext) GF) (λv A' h=>⟨by rw[h.1,ag.1],h.2⟩)) GF) ?_;rintro _ H2 ⟨w,ew,y,rfl,L2,O⟩;refine⟨_,_,rfl,?_⟩;rcases O with⟨rfl,rfl,V⟩ | ⟨rfl,g,J,hw,hs,hJ⟩
   ·exact no y _ L2 ((Fell.after Z V).le GF)
   refine ok w y g H2 (0+2) L2 ((Z.trans J).at ?_ ?_) GF ?_ hJ
   ·rw[e];simp[baseD,jY]
   ·rw[e];intro t;simp[jr,iy]
   ·rw[e];exact .sym hw hs ag
  rw[kb q6];by_cases q8:kd=8
  case neg=>
   rw[kb q8,kb h7]
   have h0:kd=0:=by
    have hp:=F
    cases hp with
    | mk pk _ _ _ _ _ _ _ _ _ _ _=>omega
   exact ak 20 (by subst h0;rfl) GF GF GF GF GF
  rw[ka q8];subst q8;obtain⟨e,bb,eo⟩:=xu F;rw[show aY (.mk 8 c neg mag t l)=1+bO l from rfl]at hN hs hc ok no;have cO:b1=H.size:=bd;have fV:=g9.size
  have aT: ∀(n:Nat),bO (l.take n)<=bO l:=by
   have: ∀(l:List Dt) (n:Nat),bO (l.take n)<=bO l:=by
    intro l
    induction l with
    | nil=>intro n;simp
    | cons z l ih=>intro n;cases n with
     | zero=>have:=ir (z::l);simp only[List.take_zero,bO]at this⊢;omega
     | succ n=>simp only[List.take_succ_cons,bO];have:=ih n;omega
   exact this l
  refine⟨_,_,_,B.l,?_⟩
  refine⟨λlB P lC s A=> ∃(y:Hp) (g ws:List Int),s=P/\P<=l.length/\ws.length=P/\Live Y A k y/\Step Y H A k x y m g (2*bO (l.take P)) (jY (l.take P)) (iy (l.take P))/\Own A 37 1 lB P lC (Bi ws)/\(∀i∈l6 lB,H.size<=i/\Out A k y i)/\(∀w∈ws,aO w)/\JW x y m g ws/\
    ∀(i:Nat) (h1:i<ws.length) (h2:i<l.length),fZ (NoPr x.sp.mem) y.sp.mem g ws[i] l[i],λ_ n _ _ _=>l.length-n,
   ⟨x,m,[],rfl,GF,rfl,L1,by simpa[jY,bO,iy]using Z,gW,GH,GH,JW.refl x m,λi h1=>by simp at h1⟩,?_⟩
  rintro lB P lC s A ⟨y,g,ws,rfl,fF,aa,LA,J,ho,an,aX,hJ,cQ⟩;have cY:=J.count;have d8:=J.len.1;have fI:=aT P;rw[cd];by_cases ce:((P:Nat):Int)< ((l.length:Nat):Int)
  ·rw[ka ce];have ac:P<l.length:=GF;obtain⟨a,ha,hr⟩:=row P GF;have ek:Out H k x a.block:=lP (λh0=>by subst h0;simp at ac) a.block (by rw[ha];simp);have eu:aI A (a.add (P*6)) 0 us[P].cells:=J.fr.rowAt (by rw[iV];exact ek.not) hr;refine⟨a,ha,⟨GF,ce⟩,_,_,_,_,_,_,_,_,_,_,eu,λb7 H7 e3 dZ=>?_⟩;obtain⟨dQ,ey⟩:=fe (vs:=us[P].cells) e3 dZ rfl rfl;refine⟨dQ,λH8 e0=>?_⟩;obtain⟨g8,gb⟩:=ey H8 e0;have L8:=LA.grow gb;have a5:=J.grow gb;have E8:=E.step a5;refine⟨_,rfl,_,E8.hb3,_,_,_,_,_,_,_,_,_,_,bA g8,?_⟩;have W:l[P]∈l:=Eu ac;have e5:=j4 W;have eh:=cV l[P];have di:l.take (P+1)=l.take P++[l[P]]:=EL ac;have df:=aT (P+1);rw[di,lO]at df;refine ch l[P] GF (eo _ W) (az _ W) (u:=us[P]) L8 a5.even a5.sy a5.inv ((ab P GF ac).step a5) E8 GF GF ?_;rintro _ H9 ⟨w,ew,z,rfl,L9,O⟩;refine⟨_,_,rfl,?_⟩;rcases O with⟨rfl,rfl,V⟩ | ⟨rfl,b2,I,a2,c9⟩
   ·rw[kb GG];exact no z _ L9 ((Fell.after a5 V).le GF)
   rw[ka rfl];intro fm fc cM bw;have ae:=Eh bw;have ck:=a5.trans I;have au: ∀i∈l6 lB,H.size<=i/\Out H8 k y i:=λi G=>⟨(an i G).1,(an i G).2.grow gb⟩;have av: ∀i∈l6 lB,H.size<=i/\Out H9 k z i:=λi G=>⟨(au i G).1,(au i G).2.step I⟩;have ej:=(ho.ext gb).keep I.fr (λi G hh=>(au i G).2.not hh);have fN:=ck.fr.size;have fs:=ae.size;have fq:=L.ext.size;refine dE (ys:=Bi [w]) (ej.ext ae) (cX (aK cM bw) _ 0 0 (λj hj=>GH)) GH (j3 _) rfl GF ?_;intro p' c' cr aN cz aC;have dK:Live Y cr k z:=(L9.grow ae).keep cz (λi G=>by have:=(an i G).1;omega) (λi G=>(av i G).2.2.1);have dn:=yS (ck.grow ae) cz (λi G=>(an i G).1) (λi G=>(av i G).2.2.2)
   have bh: ∀i∈l6 p',H.size<=i/\Out cr k z i:=λi G=>by
    rcases aC i G with h | h
    ·refine⟨(an i h).1,?_,(av i h).2.2⟩;exact aN.lt i G
    ·exact⟨GF,Out.fresh (L9.grow ae) ((ck.grow ae).sy) h (aN.lt i G)⟩
   have n9:=L8.n64;refine⟨⟨z,b2,ws++[w],by rw[n5 GF];omega,GF,by simp[aa],dK,?_,by simpa[Bi]using aN,bh,λu hu=>?_,hJ.trans c9,λi h1 h2=>?_⟩,by show l.length-(P+1)<l.length-P;omega⟩
   ·rw[di,lO,qS,pz];exact(dn.le GF).at rfl (λt=>Iff.rfl)
   ·rcases EH.1 hu with h | h
    ·exact aX u h
    ·simp at h;subst h;exact a2.word
   ·by_cases G:i<ws.length
    ·rw[Gt G];exact(cQ i G h2).keep n9 I.keep I.sub
    ·have ax:i=P:=by simp[aa]at h1;omega
     subst ax;simp only[aa.symm,GA (Er _),F7,Gu];simpa[aa]using a2.weaken (λu hu=>hu.elder a5.keep)
  ·rw[kb ce];have d6:P=l.length:=GF;subst d6;rw[Fq]at J cY d8;have EA:=E.step J;refine⟨_,rfl,_,EA.hb,?_⟩;refine gc (mi (ws:=ws) LA.view ho.src aa.symm aX GG ⟨GG,GG⟩ (show y.sp.mem.count<_ by omega) GF) ?_;rintro _ dH ⟨rfl,cv,cA⟩;obtain⟨w,ew,z,r1,r2,O⟩:=ow LA J.even (kind:=1) (more:=0) (ws:=ws) GG GG GF aX;have X:=make_no LA J.even (kind:=1) (more:=0) (ws:=ws) GG GG GF aX;rw[r1]at X;rw[r2]at cv;rw[r1];have ct:=LA.step cv cA;have bu:=FK cA;refine⟨_,_,rfl,?_⟩;rcases O with⟨rfl,M,D3⟩ | ⟨⟨rfl,rfl⟩,rfl⟩
   case inr=>exact no z _ ct ((Fell.stay J bu (X rfl)).le GF)
   refine ok w z g dH (2*bO l+1) ct ((J.trans (nl J.sy LA J.inv bu M D3)).at ?_ ?_) GF ?_ (hJ.make GG GG GF aX r1 r2 (λ_ v hv=>hv))
   ·rw[e];simp only[baseD];simp[aa];omega
   ·rw[e];intro t;simp[jr,iy]
   ·rw[e];refine .vec M.thing aa (λi h1 h2=>(cQ i h1 h2).keep LA.n64 M.made.keep (λu hu=>hu))
end Go.Proofs.YtillhdiiglamhaaGreatDoor
namespace Go.Proofs.YtillhdiiglamhaaGreatDoor
open Go Go.Proofs.Tryz
open Go.ChangeShapes Go.WideShapes Go.ChangeAt Go.RowKit
variable{a:IntKind}{H d:zV}{b:List MemPlace}
theorem zN:ownKnob prog.godebug=none:=by kernel_rfl
theorem laidOut:laidOutB prog=true:=by kernel_rfl
theorem nE{H:Type}{enc:TypeId×Value->H}{P:Program}(i:laidOutB P=true){W f:World}(g:Below W.heap.size W f):
  ∀{a:List TypeId} {vs:List Value} {c:List (DataW H)} {ps:List MemPlace},(∀t∈a,P.readableRec t=true/\t<P.types.size)->DataW.TrodAll enc P W 0 (λ_=>true) true a vs c ps->(∀x∈ps,x.block<W.heap.size)->
   DataW.TrodAll enc P f 0 (λb=>decide (b<W.heap.size)) true a vs c ps
 | [],[],[],_,_,h,_=>h
 | [],[],_::_,_,_,h,_=>h.elim
 | [],_::_,_,_,_,h,_=>h.elim
 | _::_,[],_,_,_,h,_=>h.elim
 | _::_,_::_,[],_,_,h,_=>h.elim
 | t::a,v::vs,d::c,ps,hr,h,hlt=>by
  obtain⟨p,q,j,k,rfl⟩:=h
  exact⟨p,q,Below.trod i (hr t (FT ..)).1 (hr t (FT ..)).2 j g (λx e=>hlt x (Fp _ e)),
   nE i g (λu l=>hr u (FF _ l)) k (λx e=>hlt x (Gn _ e)),rfl⟩
theorem yT{H:Type}{enc:TypeId×Value->H}{P:Program}{fn:Func}{s:ChangeSpec}{W o:World}{args:Array Value}{f h:List (DataW H)}{u:TypeId}
  (y:laidOutB P=true) (c:s.vars=[]) (e: ∀t∈fn.params.toList,P.readableRec t=true/\t<P.types.size) (n:fn.resultTypes= #[u]) (d:P.underlying u=some .bool)
  (a:s.fn H f={results:=[.lit (.bool true)],args:=f})
  (j:DataW.Whole enc P fn.params.toList s.vars false W args.toList f h b) (r:Below W.heap.size W o):
  s.post enc P fn false true false false W args VT o:=by
 have k:=j;have m:=j.lt;obtain⟨p,q,v,i,rfl,_,_⟩:=j
 have l:h=[]/\q=[]:=by
  rw[c]at i
  cases h with
  | nil=>exact⟨rfl,i⟩
  | cons g h=>exact i.elim
 obtain⟨rfl,rfl⟩:=l;refine⟨f,[],p++[],[],p,[],k,?_,?_,?_,r.frame _,GH⟩
 ·rw[E9,a,n];exact trodAll_cons_mk (shut_bool d _) trodAll_mk0
 ·rw[E9,a];exact nE y r e v (λx z=>m x (Fp _ z))
 ·rw[E9,a,c];rfl
theorem wf_i64{n:Int}(h:(Lit.int .i64 n).wf=true): -9223372036854775808<=n/\n<=9223372036854775807:=by
 simp only[Lit.wf,EF,Ex]at h;exact h
open Go.ChangeShapes Go.WideShapes
inductive Shape where
 | int (k:IntKind)
 | bool
 | str
 | slice (sz:Nat) (e:Shape)
 | pair (n:Nat) (a b:Shape)
 | unit
def Rd(B:Nat)(H:zV):Shape->List Value->Prop
 | .int k,cs=> ∃n,cs=[.int k n]/\(Lit.int k n).wf=true
 | .bool,cs=> ∃b,cs=[.bool b]
 | .str,cs=> ∃s:ByteArray,cs=[.string s]/\s.size<=B
 | .slice sz e,cs=> ∃p n c,cs=[.slice p n c]/\n<=c/\n<=B/\(p=none->n=0)/\ ∀a,p=some a-> ∀i,i<n-> ∃vs,vs.length=sz/\aI H (a.add (i*sz)) 0 vs/\Rd B H e vs
 | .pair n a b,cs=>Rd B H a (cs.take n)/\Rd B H b (cs.drop n)
 | .unit,cs=>cs=[]
def kD{Hd:Type}(B:Nat)(d:DataW Hd):Prop:=B=maxLen\/Rows.uptoBulk d<=B
theorem sJ{Hd:Type}{d:DataW Hd}{l:List (DataW Hd)}(h:d∈l):Rows.uptoBulk d<=Rows.uptoBulkAll l:=by
 induction l with
 | nil=>cases h
 | cons x r a=>
  simp only[Rows.uptoBulkAll]
  cases Ew.1 h with
  | inl e=>subst e;omega
  | inr e=>have:=a e;omega
theorem yU{Hd:Type}(d:DataW Hd):1<=Rows.uptoBulk d:=by
 cases d with
 | lit l=>cases l<;>simp[Rows.uptoBulk]
 | nil=>simp[Rows.uptoBulk]
 | ptr d=>simp[Rows.uptoBulk]
 | slice b spare=>simp[Rows.uptoBulk]
 | agg c=>simp[Rows.uptoBulk]
 | iface t d=>simp[Rows.uptoBulk]
 | map a=>simp[Rows.uptoBulk]
 | held h=>simp[Rows.uptoBulk]
theorem qU{Hd:Type}(l:List (DataW Hd)):l.length<=Rows.uptoBulkAll l:=by
 induction l with
 | nil=>simp[Rows.uptoBulkAll]
 | cons x r a=>have:=yU x;simp only[Rows.uptoBulkAll,List.length_cons];omega
theorem kD.elem{Hd:Type}{B:Nat}{a sp:List (DataW Hd)}(h:kD B (.slice a sp)){d:DataW Hd}(b:d∈a):kD B d:=by
 rcases h with h | h
 ·exact .inl h
 ·have:=sJ b;simp only[Rows.uptoBulk]at h;exact .inr GF
theorem kD.part{Hd:Type}{B:Nat}{a:List (DataW Hd)}(h:kD B (.agg a)){d:DataW Hd}(b:d∈a):kD B d:=by
 rcases h with h | h
 ·exact .inl h
 ·have:=sJ b;simp only[Rows.uptoBulk]at h;exact .inr GF
section
variable {Hd:Type} {enc:TypeId×Value->Hd} {P:Program} {w:World} {base:Nat} {spare:Nat->Bool} {held:Bool} {B:Nat}
theorem y5{t:TypeId}(f:P.underlying t=some (.int a)){b:Nat}{c:List Value}{x:DataW Hd×List MemPlace}(h:DataW.trod enc P w base spare held b t c=some x)(_:kD B x.1):Rd B w.heap (.int a) c:=by
 obtain⟨n,d,_,e⟩:=DataW.trod_int f h;exact⟨n,d,e⟩
theorem zO{t:TypeId}(c:P.underlying t=some .bool){a:Nat}{b:List Value}{x:DataW Hd×List MemPlace}(h:DataW.trod enc P w base spare held a t b=some x)(_:kD B x.1):Rd B w.heap .bool b:=by
 cases a with
 | zero=>simp[DataW.trod]at h
 | succ n=>
  unfold DataW.trod at h;rw[c]at h;split at h<;>simp_all;exact⟨_,rfl⟩
theorem AC{t:TypeId}(f:P.underlying t=some .string){a:Nat}{b:List Value}{x:DataW Hd×List MemPlace}(h:DataW.trod enc P w base spare held a t b=some x)(d:kD B x.1):Rd B w.heap .str b:=by
 cases a with
 | zero=>simp[DataW.trod]at h
 | succ n=>
  unfold DataW.trod at h;rw[f]at h;split at h<;>simp_all
  rename_i s
  obtain⟨c,rfl⟩:=h;refine⟨_,rfl,?_⟩;rcases d with h | h
  ·rw[h];exact c
  ·simp only[Rows.uptoBulk]at h;have e:s.data.toList.length=s.size:=by rw[Array.length_toList];rfl
   omega
theorem lH{a:Addr}{n:Nat}{b:List Value}(h:w.cells? base a n=some b):b.length=n/\aI w.heap a 0 b:=by
 obtain⟨_,d,e⟩:=World.cells?_some h;refine⟨d,jS λj v c=>?_⟩
 have f:j<b.length:=by
  rcases EC j b.length with h | h
  ·exact h
  ·simp[List.getElem?_eq_none h]at c
 rw[Eo,<-lS,e j GF,c]
theorem y6{t e:TypeId}{y:Nat}{E:Shape}(G:P.underlying t=some (.slice e))(D:P.cellsOf e=y)(C: ∀{c:Nat} {f:List Value} {x:DataW Hd×List MemPlace},DataW.trod enc P w base spare held c e f=some x->kD B x.1->Rd B w.heap E f)
  {c:Nat} {f:List Value} {x:DataW Hd×List MemPlace} (h:DataW.trod enc P w base spare held c t f=some x) (j:kD B x.1):Rd B w.heap (.slice y E) f:=by
 rcases DataW.trod_slice G h with⟨z,_⟩ | ⟨a,r,g,b,v,n,_,A,H,_,u,hm,d,l,_⟩
 ·exact⟨none,0,0,z,Er _,Fm _,λ_=>rfl,λa k=>by cases k⟩
 ·rw[H]at j;refine⟨some a,r,g,A,u,?_,(λh=>by cases h),λI k i s=>?_⟩
  ·rcases j with h | h
   ·rw[h];exact Fe u hm
   ·simp only[Rows.uptoBulk]at h;have:=qU (b.map (·.1));rw[E2,d]at this;omega
  cases k;have:=l i s;rw[D]at this;have F:b[i]?=some b[i]:=by simp[d,s]
  rw[F]at this;obtain⟨vs,m,o⟩:=Option.bind_eq_some_iff.1 this;obtain⟨p,q⟩:=lH m;exact⟨vs,p,q,C o (j.elem (EZ.2 ⟨_,Eu _,rfl⟩))⟩
theorem xw{t:TypeId}{c:Array Field}(o:P.underlying t=some (.struct c)){a:Nat}{b:List Value}{x:DataW Hd×List MemPlace}(h:DataW.trod enc P w base spare held a t b=some x)(d:kD B x.1):
  b.length=P.cellsOf t/\ ∀(i:Nat) (f:Field),c[i]?=some f-> ∃(n:Nat) (y:DataW Hd×List MemPlace),DataW.trod enc P w base spare held n f.type ((b.drop f.offset).take (P.cellsOf f.type))=some y/\kD B y.1:=by
 obtain⟨g,n,_,p,j,k,l⟩:=DataW.trod_struct o h;rw[p]at d;refine⟨j,λi f e=>?_⟩
 have m:i<g.length:=by
  rw[k];rcases EC i c.size with h | h
  ·exact h
  ·simp[Array.getElem?_eq_none h]at e
 exact⟨n,g[i],by rw[l i f e];simp[m],d.part (EZ.2 ⟨_,Eu _,rfl⟩)⟩
end
theorem m0{α:Type}{n:Nat}{Q:Nat->α->Prop}(h: ∀i,i<n-> ∃y,Q i y): ∃L:List α,L.length=n/\ ∀i (a:i<L.length),Q i L[i]:=by
 induction n with
 | zero=>exact⟨[],rfl,λi a=>by simp at a⟩
 | succ n f=>
  obtain⟨L,b,d⟩:=f (λi a=>h i GF);obtain⟨y,e⟩:=h n GF;refine⟨L++[y],by simp[b],λi a=>?_⟩;by_cases c:i<L.length
  ·rw[Gt c];exact d i c
  ·have:i=L.length:=by simp at a;omega
   subst this;rw[GA (Er _)];simpa[b]using e
theorem nm(a:Addr):a.add 0=a:=by unfold Addr.add;cases a;split<;>simp_all
structure Nums (H:zV) (k:IntKind) (p:zW) (n:Nat) (xs:List Int):Prop where
 len:xs.length=n
 src:bV H p (xs.map (Value.int k))
 wf: ∀x∈xs,(Lit.int k x).wf=true
theorem Nums.ext{k:IntKind}{p:zW}{n:Nat}{b:List Int}(h:Nums H k p n b)(e:Ext H d):Nums d k p n b:=by
 refine⟨h.len,?_,h.wf⟩
 cases p with
 | none=>exact h.src
 | some a=>exact e.rowAt h.src
theorem Nums.at{H:zV}{k:IntKind}{p:zW}{n:Nat}{b:List Int}(h:Nums H k p n b){i:Nat}(c:i<b.length): ∃a,p=some a/\hat H (a.add (i*1))=some (.int k b[i]):=by
 cases p with
 | none=>have:b.map (Value.int k)=[]:=h.src;simp at this;subst this;simp at c
 | some a=>
  refine⟨a,rfl,?_⟩;have:=gM (show aI H a 0 _ from h.src) i (.int k b[i]) (by simp[c]);rw[Eo]at this;rw[EG];exact this
theorem zP{B:Nat}{d:List Value}(h:Rd B H (.slice 1 (.int a)) d): ∃p n c u,d=[.slice p n c]/\Nums H a p n u/\n<=B:=by
 obtain⟨p,n,c,rfl,hn,g,m,s⟩:=h
 cases p with
 | none=>exact⟨none,n,c,[],rfl,⟨by rw[m rfl];rfl,rfl,GH⟩,g⟩
 | some z=>
  obtain⟨L,r,f⟩:=m0 (n:=n) (Q:=λi (x:Int)=>hat H (z.add i)=some (.int a x)/\(Lit.int a x).wf=true) (λi b=>by
   obtain⟨vs,y,o,x,rfl,q⟩:=s z rfl i b;refine⟨x,?_,q⟩;have:=o.1;rw[nm,EG]at this;exact this)
  refine⟨some z,n,c,L,rfl,⟨r,?_,λx t=>?_⟩,g⟩
  ·refine jS λj v l=>?_;rw[Eo]
   have k:j<L.length:=by
    rcases EC j L.length with h | h
    ·exact h
    ·simp[List.getElem?_eq_none h]at l
   have e:v=.int a L[j]:=by simpa[k]using l.symm
   rw[e];exact(f j k).1
  ·obtain⟨i,b,rfl⟩:=Gh t;exact(f i b).2
structure vT where
 p:zW
 n:Nat
 c:Nat
 xs:List Int
structure uK (B:Nat) (H:zV) (k:IntKind) (p:zW) (n:Nat) (L:List vT):Prop where
 len:L.length=n
 src:bV H p (L.map λy=>Value.slice y.p y.n y.c)
 each: ∀y∈L,Nums H k y.p y.n y.xs/\y.n<=B
theorem uK.ext{B:Nat}{k:IntKind}{p:zW}{n:Nat}{L:List vT}(h:uK B H k p n L)(e:Ext H d):uK B d k p n L:=by
 refine⟨h.len,?_,λy b=>⟨(h.each y b).1.ext e,(h.each y b).2⟩⟩
 cases p with
 | none=>exact h.src
 | some a=>exact e.rowAt h.src
theorem uK.at{B:Nat}{H:zV}{k:IntKind}{p:zW}{n:Nat}{L:List vT}(h:uK B H k p n L){i:Nat}(b:i<L.length): ∃a,p=some a/\hat H (a.add (i*1))=some (.slice L[i].p L[i].n L[i].c)/\Nums H k L[i].p L[i].n L[i].xs/\L[i].n<=B:=by
 cases p with
 | none=>have:L.map (λy=>Value.slice y.p y.n y.c)=[]:=h.src;simp at this;subst this;simp at b
 | some a=>
  refine⟨a,rfl,?_,h.each _ (Eu _)⟩;have:=gM (show aI H a 0 _ from h.src) i (.slice L[i].p L[i].n L[i].c) (by simp[b]);rw[Eo]at this;rw[EG];exact this
section
variable {Hd:Type} {enc:TypeId×Value->Hd} {P:Program} {w:World} {base:Nat} {spare:Nat->Bool} {held:Bool} {B:Nat}
theorem xx{r:Go.Reach}{k:Nat}{t e:TypeId}{v:Value}{d:DataW Hd}(j:P.underlying t=some (.slice e))(u:P.underlying e=some (.int a))(q:P.cellsOf e=1)(o:kD B d)(f:Value.okWide P w r k t v)(s:DataW.Trod enc P w base spare held t v d b):
  ∃p n c g,v=vs p n c/\Nums w.heap a p n g/\n<=B:=by
 obtain⟨z,y,l,rfl⟩:=okWide_slice j f;obtain⟨h,x⟩:=s;obtain⟨p,n,c,g,i,m⟩:=zP (y6 j q (y5 u) x o);simp[Value.cells]at i;obtain⟨rfl,rfl,rfl⟩:=i;exact⟨_,_,_,g,rfl,m⟩
end
open Go.ChangeShapes Go.WideShapes
structure Cv (α:Type)where
 cells:α->List Value
 ok:Nat->zV->α->Prop
 mono: ∀{B:Nat} {H H':zV} {y:α},Ext H H'->ok B H y->ok B H' y
structure Sl (α:Type)where
 p:zW
 n:Nat
 c:Nat
 xs:List α
structure SlOK {α:Type} (sz:Nat) (r:Cv α) (B:Nat) (H:zV) (s:Sl α):Prop where
 len:s.xs.length=s.n
 le:s.n<=B
 cap:s.n<=s.c
 row: ∀(i:Nat) (h:i<s.xs.length),∃a,s.p=some a/\aI H (a.add (i*sz)) 0 (r.cells s.xs[i])
 each: ∀y∈s.xs,r.ok B H y
theorem SlOK.ext{α:Type}{b:Nat}{r:Cv α}{B:Nat}{s:Sl α}(h:SlOK b r B H s)(e:Ext H d):SlOK b r B d s:=
 ⟨h.len,h.le,h.cap,λi g=>by obtain⟨a,c,f⟩:=h.row i g;exact⟨a,c,e.rowAt f⟩,λy j=>r.mono e (h.each y j)⟩
def Dy{α:Type}(sz:Nat)(r:Cv α):Cv (Sl α):=⟨λs=> [vs s.p s.n s.c],SlOK sz r,λe h=>SlOK.ext h e⟩
def Cs(k:IntKind):Cv Int:=⟨λn=> [.int k n],λ_ _ n=>(Lit.int k n).wf=true,λ_ h=>h⟩
def Aj:Cv Bool:=⟨λb=> [.bool b],λ_ _ _=>True,λ_ h=>h⟩
def Ak:Cv ByteArray:=⟨λs=> [.string s],λB _ s=>s.size<=B,λ_ h=>h⟩
theorem SlOK.nums{B:Nat}{s:Sl Int}(h:SlOK 1 (Cs a) B H s):Nums H a s.p s.n s.xs:=by
 refine⟨h.len,?_,λx c=>h.each x c⟩
 cases f:s.p with
 | none=>
  have:s.xs=[]:=by
   cases c:s.xs with
   | nil=>rfl
   | cons m l=>obtain⟨m,b,_⟩:=h.row 0 (by rw[c];simp);rw[f]at b;cases b
  rw[this];rfl
 | some m=>
  refine jS λj v g=>?_
  have d:j<s.xs.length:=by
   rcases EC j s.xs.length with h | h
   ·exact h
   ·simp[List.getElem?_eq_none h]at g
  obtain⟨k,b,i⟩:=h.row j d;rw[f]at b;cases b;have:=i.1;rw[nm,EG]at this;have e:v=.int a s.xs[j]:=by simpa[d]using g.symm
  rw[Eo,e];exact this
section
variable {Hd:Type} {enc:TypeId×Value->Hd} {P:Program} {w:World} {base:Nat} {spare:Nat->Bool} {held:Bool} {B:Nat}
def Reads{α:Type}(enc:TypeId×Value->Hd)(P:Program)(w:World)(base:Nat)(spare:Nat->Bool)(held:Bool)(B:Nat)(t:TypeId)(r:Cv α):Prop:=
 ∀{fuel:Nat} {cs:List Value} {x:DataW Hd×List MemPlace},DataW.trod enc P w base spare held fuel t cs=some x->kD B x.1-> ∃y,cs=r.cells y/\r.ok B w.heap y
theorem oV{t:TypeId}(e:P.underlying t=some (.int a)):Reads enc P w base spare held B t (Cs a):=λh d=>by
 obtain⟨n,b,c⟩:=y5 e h d;exact⟨n,b,c⟩
theorem vU{t:TypeId}(c:P.underlying t=some .bool):Reads enc P w base spare held B t Aj:=λh b=>by
 obtain⟨n,a⟩:=zO c h b;exact⟨n,a,GB⟩
theorem xy{t:TypeId}(d:P.underlying t=some .string):Reads enc P w base spare held B t Ak:=λh c=>by
 obtain⟨n,a,b⟩:=AC d h c;exact⟨n,a,b⟩
theorem uL{α:Type}{t e:TypeId}{u:Nat}{r:Cv α}(H:P.underlying t=some (.slice e))(F:P.cellsOf e=u)(E:Reads enc P w base spare held B e r):Reads enc P w base spare held B t (Dy u r):=λ{v K x} h k=>by
 rcases DataW.trod_slice H h with⟨C,_⟩ | ⟨a,f,j,b,A,n,_,D,J,_,z,hm,d,m,_⟩
 ·exact⟨⟨none,0,0,[]⟩,C,rfl,Fm _,Er _,λi c=>by simp at c,GH⟩
 ·rw[J]at k
  obtain⟨L,l,g⟩:=m0 (n:=f) (Q:=λi (y:α)=>aI w.heap (a.add (i*u)) 0 (r.cells y)/\r.ok B w.heap y) (λi c=>by
   have:=m i c;rw[F]at this;have G:b[i]?=some b[i]:=by simp[d,c]
   rw[G]at this;obtain⟨vs,o,p⟩:=Option.bind_eq_some_iff.1 this;obtain⟨I,q⟩:=lH o;obtain⟨y,rfl,s⟩:=E p (k.elem (EZ.2 ⟨_,Eu _,rfl⟩));exact⟨y,q,s⟩)
  refine⟨⟨some a,f,j,L⟩,D,l,?_,z,λi c=>⟨a,rfl,(g i c).1⟩,λy s=>by obtain⟨i,c,rfl⟩:=Gh s;exact(g i c).2⟩;rcases k with h | h
  ·rw[h];exact Fe z hm
  ·simp only[Rows.uptoBulk]at h;have:=qU (b.map (·.1));rw[E2,d]at this;show f<=B;omega
theorem uM{α:Type}{r:Go.Reach}{g:Nat}{t:TypeId}{h:Array Field}{v:Value}{d:DataW Hd}{c:Cv α}(n:P.underlying t=some (.struct h))(k:Reads enc P w base spare held B t c)
  (j:kD B d) (a:Value.okWide P w r g t v) (l:DataW.Trod enc P w base spare held t v d b): ∃y:α,v=.agg (c.cells y).toArray/\c.ok B w.heap y:=by
 obtain⟨o,rfl,_⟩:=okWide_struct n a;obtain⟨e,m⟩:=l;obtain⟨y,f,i⟩:=k m j;simp[Value.cells]at f;exact⟨y,by rw[<-f],i⟩
end
end Go.Proofs.YtillhdiiglamhaaGreatDoor
namespace Go.Proofs.YtillhdiiglamhaaGreatDoor
open Go Go.Proofs.Tryz
open Go.ChangeShapes Go.WideShapes
section
variable {Hd:Type} {enc:TypeId×Value->Hd} {P:Program} {w:World} {base:Nat} {spare:Nat->Bool} {held:Bool} {B:Nat}
def tD{α:Type}(n:Nat)(enc:TypeId×Value->Hd)(P:Program)(w:World)(base:Nat)(spare:Nat->Bool)(held:Bool)(B:Nat)(t:TypeId)(r:Cv α):Prop:=
 ∀{cs:List Value} {x:DataW Hd×List MemPlace},DataW.trod enc P w base spare held n t cs=some x->kD B x.1-> ∃y,cs=r.cells y/\r.ok B w.heap y
theorem Reads.n{α:Type}{t:TypeId}{r:Cv α}(h:Reads enc P w base spare held B t r)(n:Nat):tD n enc P w base spare held B t r:=λa b=>h a b
theorem tF{α:Type}{n:Nat}{t e:TypeId}{v:Nat}{r:Cv α}(I:P.underlying t=some (.slice e))(F:P.cellsOf e=v)(E: ∀m,m<n->tD m enc P w base spare held B e r):tD n enc P w base spare held B t (Dy v r):=λ{M x} h k=>by
 rcases DataW.trod_slice I h with⟨C,_⟩ | ⟨a,f,j,b,A,m,H,D,K,_,z,hm,d,o,_⟩
 ·exact⟨⟨none,0,0,[]⟩,C,rfl,Fm _,Er _,λi c=>by simp at c,GH⟩
 ·rw[K]at k
  obtain⟨L,l,g⟩:=m0 (n:=f) (Q:=λi (y:α)=>aI w.heap (a.add (i*v)) 0 (r.cells y)/\r.ok B w.heap y) (λi c=>by
   have:=o i c;rw[F]at this;have G:b[i]?=some b[i]:=by simp[d,c]
   rw[G]at this;obtain⟨vs,p,q⟩:=Option.bind_eq_some_iff.1 this;obtain⟨J,s⟩:=lH p;obtain⟨y,rfl,u⟩:=E m GF q (k.elem (EZ.2 ⟨_,Eu _,rfl⟩));exact⟨y,s,u⟩)
  refine⟨⟨some a,f,j,L⟩,D,l,?_,z,λi c=>⟨a,rfl,(g i c).1⟩,λy u=>by obtain⟨i,c,rfl⟩:=Gh u;exact(g i c).2⟩;rcases k with h | h
  ·rw[h];exact Fe z hm
  ·simp only[Rows.uptoBulk]at h;have:=qU (b.map (·.1));rw[E2,d]at this;show f<=B;omega
theorem vV{t:TypeId}{c:Array Field}(o:P.underlying t=some (.struct c)){a:Nat}{b:List Value}{x:DataW Hd×List MemPlace}(h:DataW.trod enc P w base spare held a t b=some x)(d:kD B x.1):
  b.length=P.cellsOf t/\ ∃n,a=n+1/\ ∀(i:Nat) (f:Field),c[i]?=some f-> ∃(y:DataW Hd×List MemPlace),DataW.trod enc P w base spare held n f.type ((b.drop f.offset).take (P.cellsOf f.type))=some y/\kD B y.1:=by
 obtain⟨g,n,hn,p,j,k,l⟩:=DataW.trod_struct o h;rw[p]at d;refine⟨j,n,hn,λi f e=>?_⟩
 have m:i<g.length:=by
  rw[k];rcases EC i c.size with h | h
  ·exact h
  ·simp[Array.getElem?_eq_none h]at e
 exact⟨g[i],by rw[l i f e];simp[m],d.part (EZ.2 ⟨_,Eu _,rfl⟩)⟩
end
def DE(H:zV)(i:Nat):Prop:=i<H.size
theorem y8{H:zV}{a:Addr}{v:Value}(h:hat H a=some v):a.block<H.size:=by
 unfold hat at h;rcases EC a.block H.size with b | b
 ·exact b
 ·simp[b]at h
def C2:Cv (Dv×Dt):=⟨λy=>y.1.cells,λB H y=>cD (DE H) H y.1 y.2,λe h=>h.keep (S:=[]) e.fr GH (λi (hi:i<_)=>Fh hi e.size)⟩
structure wF where
 neg:Bool
 mag:Sl Int
abbrev wF.cells(y:wF):List Value:=[.bool y.neg,vs y.mag.p y.mag.n y.mag.c]
def AR:Cv wF:=⟨wF.cells,λB H y=>(Dy 1 (Cs .u32)).ok B H y.mag,λe h=>(Dy 1 (Cs .u32)).mono e h⟩
theorem uN{Hd:Type}{enc:TypeId×Value->Hd}{w:World}{base:Nat}{spare:Nat->Bool}{held:Bool}{B:Nat}:Reads enc prog w base spare held B 24 AR:=λ{e j x} h m=>by
 have b:prog.cellsOf 24=2:=GE;obtain⟨a,f⟩:=xw underlying24 h m;rw[b]at a
 match j,a with
 | [a0,a1],_=>
  obtain⟨p,u,c,s⟩:=f 0 _ rfl;have g:prog.cellsOf 4=1:=GE;have k:([a0,a1].drop 0).take (prog.cellsOf 4)=[a0]:=by rw[g];rfl
  replace c:DataW.trod enc prog w base spare held p 4 [a0]=some u:=by rw[<-k];exact c
  obtain⟨y,n,A⟩:=(vU underlying4:Reads enc prog w base spare held B 4 Aj) c s;obtain⟨q,v,d,t⟩:=f 1 _ rfl;have i:prog.cellsOf 22=1:=GE;have l:([a0,a1].drop 1).take (prog.cellsOf 22)=[a1]:=by rw[i];rfl
  replace d:DataW.trod enc prog w base spare held q 22 [a1]=some v:=by rw[<-l];exact d
  obtain⟨z,o,r⟩:=(uL ET GE (oV underlying91):Reads enc prog w base spare held B 22 (Dy 1 (Cs .u32))) d t;cases n;cases o;exact⟨⟨y,z⟩,rfl,r⟩
set_option maxHeartbeats 1000000 in
theorem vW{Hd:Type}{enc:TypeId×Value->Hd}{w:World}{base:Nat}{spare:Nat->Bool}{held:Bool}{B:Nat}(Q:B<9223372036854775808)(n:Nat):tD n enc prog w base spare held B 27 C2:=by
 induction n using Nat.strongRecOn with
 | ind n T=>
 intro N x h R;have q:prog.cellsOf 27=6:=GE;obtain⟨g,u,hn,s⟩:=vV underlying27 h R;rw[q]at g
 match N,g with
 | [a0,a1,a2,a3,a4,a5],_=>
  obtain⟨y0,z,s0⟩:=s 0 _ rfl;have I:prog.cellsOf 3=1:=GE;replace z:DataW.trod enc prog w base spare held u 3 [a0]=some y0:=by rw[<-show([a0,a1,a2,a3,a4,a5].drop 0).take (prog.cellsOf 3)=[a0]by rw[I];rfl];exact z
  obtain⟨y,U,Z⟩:=(oV Fx:Reads enc prog w base spare held B 3 (Cs .i64)) z s0;obtain⟨y1,A,s1⟩:=s 1 _ rfl;have J:prog.cellsOf 21=1:=GE;replace A:DataW.trod enc prog w base spare held u 21 [a1]=some y1:=by rw[<-show([a0,a1,a2,a3,a4,a5].drop 1).take (prog.cellsOf 21)=[a1]by rw[J];rfl];exact A
  obtain⟨o,V,o1⟩:=(oV underlying21:Reads enc prog w base spare held B 21 (Cs .i32)) A s1;obtain⟨y2,C,s2⟩:=s 2 _ rfl;have K:prog.cellsOf 24=2:=GE;replace C:DataW.trod enc prog w base spare held u 24 [a2,a3]=some y2:=by rw[<-show([a0,a1,a2,a3,a4,a5].drop 2).take (prog.cellsOf 24)=[a2,a3]by rw[K];rfl];exact C
  obtain⟨e,W,v⟩:=uN C s2;obtain⟨y3,D,s3⟩:=s 3 _ rfl;have L:prog.cellsOf 9=1:=GE;replace D:DataW.trod enc prog w base spare held u 9 [a4]=some y3:=by rw[<-show([a0,a1,a2,a3,a4,a5].drop 4).take (prog.cellsOf 9)=[a4]by rw[L];rfl];exact D
  obtain⟨H,X,o3⟩:=(xy EB:Reads enc prog w base spare held B 9 Ak) D s3;obtain⟨y4,E,s4⟩:=s 4 _ rfl;have M:prog.cellsOf 25=1:=GE;replace E:DataW.trod enc prog w base spare held u 25 [a5]=some y4:=by rw[<-show([a0,a1,a2,a3,a4,a5].drop 5).take (prog.cellsOf 25)=[a5]by rw[M];rfl];exact E
  obtain⟨f,Y,l⟩:=tF EK q (λm hm=>T m GF) E s4;cases U;cases V;cases W;cases X;cases Y
  have F:BT y:=by
   have h:(Lit.int .i64 y).wf=true:=Z;simp[Lit.wf,IntKind.signed,IntKind.bits,IntKind.min,IntKind.max]at h;exact⟨GF,GF⟩
  have G: -2147483648<=o/\o<=2147483647:=by
   have h:(Lit.int .i32 o).wf=true:=o1;simp[Lit.wf,IntKind.signed,IntKind.bits,IntKind.min,IntKind.max]at h;exact⟨GF,GF⟩
  have d:=SlOK.nums v;refine⟨(⟨y,o,e.neg,e.mag.p,e.mag.n,e.mag.c,H,f.p,f.n,f.c⟩,.mk y o e.neg e.mag.xs H (f.xs.map (·.2))),rfl,?_⟩;refine .mk _ y o e.neg e.mag.xs H _ (f.xs.map (·.1)) rfl rfl rfl rfl F G v.len.symm v.cap (by have:=v.le;show e.mag.n<_;omega) ?_ ?_ (by simpa using l.len.symm) l.cap (by have:=l.le;show f.n<_;omega) GH ?_ ?_ ?_ ?_
  ·exact d.src
  ·intro x S;have h:=d.wf x S;simp[Lit.wf,IntKind.signed,IntKind.bits,IntKind.min,IntKind.max]at h;exact⟨GF,GF⟩
  ·intro k i b;obtain⟨a,r,t⟩:=v.row 0 (List.length_pos_iff.2 k);have b:i∈l6 e.mag.p:=b;rw[r]at b;simp at b;subst b;have:=y8 t.1;simp only[iV]at this;exact this
  ·intro k i b;obtain⟨a,r,t⟩:=l.row 0 (List.length_pos_iff.2 (λh=>k (by rw[h];rfl)));have b:i∈l6 f.p:=b;rw[r]at b;simp at b;subst b;have:=y8 t.1;simp only[iV]at this;exact this
  ·intro i b;have j:i<f.xs.length:=by simpa using b
   obtain⟨a,r,t⟩:=l.row i j;exact⟨a,r,by simpa[C2]using t⟩
  ·intro i O h2;have j:i<f.xs.length:=by simpa using O
   have:=l.each _ (Eu j);simpa[C2]using this
theorem xz{Hd:Type}{enc:TypeId×Value->Hd}{w:World}{base:Nat}{spare:Nat->Bool}{held:Bool}{B:Nat}(b:B<9223372036854775808):Reads enc prog w base spare held B 27 C2:=λ{a d x} h c=>vW b a h c
