/-
 A collection in plain words: cars of weak pairs are told anew, or broken; what it leaves. Proves nothing of any one statement.
-/
import Derived.Test.YtillhdiiglamhaaGreatDoorWend
import Derived.Test.YtillhdiiglamhaaGreatDoorBuildP
import Derived.Test.YtillhdiiglamhaaGreatDoorDatR
import Derived.LaidMore
import Derived.Lay
import Derived.SevenTiedAt
import Derived.Stop.Joined
set_option linter.unusedVariables false
set_option linter.unusedSimpArgs false
set_option maxRecDepth 100000
set_option maxHeartbeats 2000000
namespace Go.Proofs.YtillhdiiglamhaaGreatDoor
open Go
variable{H:zV}{a:Blk}{b:Hp}{d:Tr}{i:Mem}{j:TB}{k:zW}
def wc(O:Nat->Bool)(m:Mem)(a:Int):Mem:=if aU O (m.read a)then m.wr a ((m.fwd (m.read a)).getD 44)else m
theorem sW(a:bP i)(w:Int):aO ((i.fwd w).getD 44):=by
 unfold Mem.fwd;split
 ·have:=(a.seg (w / 8 / 64).toNat).words (w / 8 % 64).toNat;have h:aO (i.get (w / 8)):=(a.seg _).words _;unfold aO at h⊢;show 0<=i.get (w / 8) / 8*8+w % 8/\_;simp only[Option.getD_some];omega
 ·decide
theorem l9(O:Nat->Bool)(m:Mem)(a:Int):bQ m (wc O m a):=by
 unfold wc;split
 ·exact bQ.wr m a _
 ·exact bQ.refl m
theorem Aa{s:Sp}(b:SpOK s)(O:Nat->Bool)(a:Int):SpOK {s with mem:=wc O s.mem a}:=by
 unfold wc;split
 ·exact b.wr a (sW b.mem _)
 ·exact b
theorem rk(O:Nat->Bool): ∀(l:List Int) (m:Mem),bQ m (l.foldl (wc O) m)
 | [],m=>bQ.refl m
 | a::l,m=>(l9 O m a).trans (rk O l _)
theorem uT(O:Nat->Bool): ∀(l:List Int) {s:Sp},SpOK s->SpOK {s with mem:=l.foldl (wc O) s.mem}
 | [],s,ok=>ok
 | a::l,s,ok=>uT O l (Aa ok O a)
theorem rl{O:Nat->Bool}{m:Mem}{a x:Int}(d:m.used x):(wc O m a).get x=if x=a/\aU O (m.get x)then(m.fwd (m.get x)).getD 44 else m.get x:=by
 have f:=d.1;unfold wc;by_cases e:x=a
 ·subst e;have h:m.read x=m.get x:=by unfold Mem.read;rw[ka d]
  rw[h];by_cases b:aU O (m.get x)
  ·rw[ka b,ka ⟨rfl,b⟩];unfold Mem.wr;rw[ka d,Fv x f f,ka rfl]
  ·rw[kb b,kb (λq=>b q.2)]
 ·rw[kb (show ¬(x=a/\aU O (m.get x))from λq=>e q.1)];split
  ·unfold Mem.wr;by_cases c:m.used a
   ·rw[ka c,Fv x f c.1,kb e]
   ·rw[kb c]
  ·rfl
theorem ze{O:Nat->Bool}{a w:Int}(d:O (a / 64).toNat=false)(f:aU O w):(wc O i a).fwd w=i.fwd w:=by
 unfold Mem.fwd;by_cases b:i.used (w / 8)
 ·have e:(wc O i a).get (w / 8)=i.get (w / 8):=by
   rw[rl b,kb];rintro⟨h,_⟩;have:=f.2.2;rw[h,d]at this;cases this
  rw[e];have c:=(l9 O i a).used.2 b;exact kC ⟨λq=>⟨b,q.2⟩,λq=>⟨c,q.2⟩⟩ _ _
 ·rw[kb (λq=>b ((l9 O i a).used.1 q.1)),kb (λq=>b q.1)]
theorem sY(O:Nat->Bool): ∀(l:List Int) {m:Mem} {x:Int},(∀a∈l,O (a / 64).toNat=false)->(aU O (m.get x)-> ∀v,m.fwd (m.get x)=some v-> ¬aU O v)->m.used x->
  (l.foldl (wc O) m).get x=if x∈l/\aU O (m.get x)then(m.fwd (m.get x)).getD 44 else m.get x
 | [],m,x,_,_,hx=>by rw[kb (λq=>by simp at q)];rfl
 | a::l,m,x,hl,hf,hx=>by
  have k:=hl a GH;have d: ∀w,aU O w->(wc O m a).fwd w=m.fwd w:=λw o=>ze k o
  have f:aU O (m.get x)-> ¬aU O ((m.fwd (m.get x)).getD 44):=λe=>by
   cases i:m.fwd (m.get x)with
   | none=>exact sS O
   | some v=>exact hf e v i
  have j:=rl (O:=O) (a:=a) hx
  have p:=sY O l (m:=wc O m a) (x:=x) (λb n=>hl b (by simp[n])) (λc v i=>by
   by_cases e:x=a/\aU O (m.get x)
   ·rw[j,ka e]at c;exact absurd c (f e.2)
   ·rw[j,kb e]at c i;exact hf c v (by rw[<-d _ c];exact i)) ((l9 O m a).used.2 hx)
  show(l.foldl (wc O) (wc O m a)).get x=_;rw[p,j];by_cases e:x=a/\aU O (m.get x)
  ·rw[ka e,kb (λq=>f e.2 q.2),ka ⟨by rw[e.1];simp,e.2⟩]
  ·rw[kb e];by_cases h:x∈l/\aU O (m.get x)
   ·rw[ka h,ka ⟨by simp[h.1],h.2⟩,d _ h.2]
   ·rw[kb h,kb (λq=>?_)];rcases Ew.1 q.1 with r | r
    ·exact e ⟨r,q.2⟩
    ·exact h ⟨r,q.2⟩
section
variable {Z:TZ} {g F0:Int} {fw:Int->Option Int} {al:List Int} {s:Sp} {sz:Int->Nat}
theorem xQ(S:fK Z g F0)(t:Tri Z F0 fw al s sz)(B:jX Z.m g Z.T d)(r:d.old=Z.O){l:List Nat}(y:iw s.mem [Z.T] l): ∀a∈s.mem.weaks d l,Z.O (a / 64).toNat=false:=by
 intro a f;have i:=t.ok.mem.lim;unfold Mem.weaks at f;rcases EH.1 f with h | h
 ·obtain⟨k,hk,h⟩:=FI.1 h;have v:((k:Nat):Int).toNat=k:=GF;unfold Mem.weakSeg at h;by_cases b:(s.mem.seg k).kind=1/\d.old k=false
  case neg=>rw[kb b]at h;simp at h
  rw[ka b]at h;obtain⟨j,e,rfl⟩:=iZ.1 h;rw[jB]at e;have hn:=(t.ok.mem.seg k).n;have u:=B.frmAt (k:=k) GF
  have q:0<=seenAt d.frm k:=by
   rw[u];split
   ·exact(S.ok.seg _).n.1
   ·exact EN _
  rw[show((k:Int)*64+(seenAt d.frm k+2*(j:Int))) / 64=k by omega,v,<-r];exact b.2
 ·obtain⟨c,b,h⟩:=FI.1 h;obtain⟨o,p,w,x⟩:=B.cardOf S c b;unfold Mem.weakCard at h;by_cases hk:(s.mem.segOr c.1).kind=1
  case neg=>rw[kb hk]at h;simp at h
  rw[ka hk]at h;obtain⟨j,e,rfl⟩:=iZ.1 h;rw[jB]at e;have q:=o.1;rw[show(c.1*64+(c.2*16+2*(j:Int))) / 64=c.1 by omega];exact p
theorem Tri.was_any(S:fK Z g F0)(t:Tri Z F0 fw al s sz){x v:Int}(l:Was Z fw x v)(hk:s.mem.kAt x≠3):aO v/\Good Z.m Z.sz v:=by
 rcases l with⟨c,f,rfl⟩ | ⟨a,b,i,c,f,j,rfl⟩
 ·exact⟨(S.ok.seg _).words _,S.sound.good x c (by rw[<-(t.kAt c).1];exact hk)⟩
 ·have h:=(t.img a b c).2;have e:=(t.olds.mem a ((t.al a).2 ⟨b,c⟩)).1;have d:=S.sound.usedAt e f (λk=>(S.ok.seg k).n.2);have o:=h.fit;refine⟨(S.ok.seg _).words _,S.sound.good _ d.1 ?_⟩
  have:s.mem.kAt x=Z.m.kAt (a+i):=by
   unfold Mem.kAt;rw[j,show(b+i) / 64=b / 64 by omega,d.2.1];exact h.kind
  rw[<-this];exact hk
theorem Tri.fwd_is(S:fK Z g F0)(t:Tri Z F0 fw al s sz){w:Int}(k:aO w)(d:Good Z.m Z.sz w)(f:aU Z.O w):s.mem.fwd w=(fw (w / 8)).map λb=>b*8+w % 8:=by
 obtain⟨h,o,p,q⟩:=S.oldWord d f;obtain⟨n,r⟩:=S.sound.used _ h
 cases c:fw (w / 8)with
 | none=>exact(t.same_size S k d f c).2.1
 | some b=>
  obtain⟨_,l⟩:=t.img _ _ c;have a:s.mem.used b:=by simpa using l.here 0 GF
  have e:=t.ok.mem.lim;have i:=a.2.1.2.1;have j:=a.1;unfold Mem.fwd;rw[t.word _ _ c,ka ⟨t.heads.used n,⟨GF,GF⟩,GF⟩];show some _=some _;congr 2;omega
structure tJ (Z:TZ) (fw:Int->Option Int) (s s':Sp):Prop extends Broke Z fw s s' where
 exact: ∀x v,s.mem.used x->Z.O (x / 64).toNat=false->s.mem.kAt x=1->x % 2=0->Was Z fw x v->s'.mem.get x=if aU Z.O v/\fw (v / 8)=none then 44 else Fw Z.O fw v
 old: ∀x,s.mem.used x->Z.O (x / 64).toNat=true->s'.mem.get x=s.mem.get x
theorem tJ.of{tr:Tr}(S:fK Z g F0)(t:Tri Z F0 fw al s sz)(hm:mD Z.m)(B:jX Z.m g Z.T tr)(D:tr.old=Z.O){l:List Nat}(A:iw s.mem [Z.T] l):tJ Z fw s {s with mem:=(s.mem.weaks tr l).foldl (wc Z.O) s.mem}:=by
 have i:=xQ S t B D A
 have key: ∀x v,s.mem.used x->Z.O (x / 64).toNat=false->s.mem.kAt x=1->x % 2=0->Was Z fw x v->((s.mem.weaks tr l).foldl (wc Z.O) s.mem).get x=if aU Z.O v/\fw (v / 8)=none then 44 else Fw Z.O fw v:=λx v d f hk y n=>by
  have j:s.mem.get x=v:=by
   rcases t.val x v n with r | ⟨r,_⟩
   ·exact r
   ·have:=r.2.resolve_left (λe=>e hk);omega
  obtain⟨J,K⟩:=t.was_any S n (by rw[hk];decide);have p:aU Z.O v->s.mem.fwd v=(fw (v / 8)).map λb=>b*8+v % 8:=λo=>t.fwd_is S J K o;rw[sY Z.O _ i (λo C c=>?_) d,j]
  ·by_cases o:aU Z.O v
   ·have z:=sV S t hm B D A d f hk y n o;rw[ka ⟨z,o⟩,p o]
    cases k:fw (v / 8)with
    | none=>rw[ka ⟨o,rfl⟩];rfl
    | some b=>rw[kb (λq=>by cases q.2),jO o k];rfl
   ·rw[kb (λq=>o q.2),kb (λq=>o q.1),km o]
  ·rw[j]at o c;rw[p o]at c
   cases k:fw (v / 8)with
   | none=>rw[k]at c;cases c
   | some b=>
    rw[k]at c;cases c;have I:=(t.img _ _ k).2;intro q;have:=q.2.2;rw[show(b*8+v % 8) / 8=b by omega,I.out]at this;cases this
 have u: ∀(l:List Int) (m:Mem) (x:Int),m.used x->x ∉ l->(l.foldl (wc Z.O) m).get x=m.get x:=λl=>by
  induction l with
  | nil=>intro m x _ _;rfl
  | cons a l H=>
   intro m x hm hn;show(l.foldl (wc Z.O) (wc Z.O m a)).get x=_;rw[H _ x ((l9 _ m a).used.2 hm) (λq=>hn (by simp[q])),rl hm,kb (λq=>hn (by simp[q.1]))]
 refine⟨⟨rk _ _ _,rfl,uT _ _ t.ok,λx d f G=>?_,λx d f hk y=>?_⟩,key,λx d f=>u _ _ x d (λq=>by have:=i x q;rw[f]at this;cases this)⟩
 ·show((s.mem.weaks tr l).foldl (wc Z.O) s.mem).get x=_
  have w:x ∉ s.mem.weaks tr l:=λq=>by
   obtain⟨E,F,_⟩:=sU S t B A x q;exact G ⟨E,F⟩
  exact u _ _ x d w
 ·obtain⟨v,n⟩:=t.was d f;show((s.mem.weaks tr l).foldl (wc Z.O) s.mem).get x=44\/_;by_cases o:aU Z.O v/\fw (v / 8)=none
  ·left;rw[key x v d f hk y n,ka o]
  ·right;intro C c;obtain rfl:=t.was_one c n;refine⟨λh=>?_,?_⟩
   ·cases k:fw (C / 8)with
    | none=>exact absurd ⟨h,k⟩ o
    | some b=>exact⟨b,rfl⟩
   ·show((s.mem.weaks tr l).foldl (wc Z.O) s.mem).get x=_;rw[key x C d f hk y n,kb o]
end
structure tK (s0:Sp) (sz0:Int->Nat) (g T:Int) (tr:Tr) (roots young:List Int) (fw:Int->Option Int) (al:List Int) (sz:Int->Nat) (s3 s4 s5:Sp):Prop where
 t:fy ⟨s0.mem,sz0,tr.old,T,(· ∈roots)⟩ g s0.mem.free fw al sz tr s3 s4 s5.mem
 brk:tJ ⟨s0.mem,sz0,tr.old,T,(· ∈roots)⟩ fw s3 s4
 yg:young=roots.map (Fw tr.old fw)
 inv:Inv s5 (B9 tr.old sz)
 good: ∀w∈young,aO w/\Good s5.mem (B9 tr.old sz) w
 cf:s5.cf<=s0.cf+1024
theorem rm{c:Sp}{g T a:Int}(hm:0<=a)(b:jz c g T a=0):(0<=g/\g<4/\g<=T/\T<=g+1)/\2*(c.mem.nyoung g:Int)+8+a<=c.mem.free:=by
 unfold jz at b;by_cases d:g<0\/4<=g\/T<g\/g+1<T\/a<0
 ·rw[ka d]at b;exact absurd b GG
 ·rw[kb d]at b;by_cases e:c.mem.free-2*c.mem.nyoung g-8<a
  ·rw[ka e]at b;exact absurd b GG
  ·omega
theorem uU{c:Sp}{e:Int->Nat}{g T p:Int}{tr:Tr}{a:List Int}{b:Sp}{Q:List (Int×Value)}{l:List Nat}(I:Inv c e)(G:0<=p)(H:jz c g T p=0)(B:jX c.mem g T tr)(P: ∀w∈a,aO w/\Good c.mem e w)
  (N:jg tr.old T (((c.fresh (fJ g)).visL tr.old T a).1.lookCards tr.old T tr.cards) tr.seen b Q) (D:pT tr.old T b Q) (hl:iw b.mem [T] l):
  ∃fw al sz,tK c e g T tr a ((c.fresh (fJ g)).visL tr.old T a).2 fw al sz b {b with mem:=(b.mem.weaks tr l).foldl (wc tr.old) b.mem} (({b with mem:=(b.mem.weaks tr l).foldl (wc tr.old) b.mem}:Sp).ended tr):=by
 have h:=rm G H
 have S:fK ⟨c.mem,e,tr.old,T,(· ∈a)⟩ g c.mem.free:=by
  refine⟨I.ok.mem,I.even,I.sound,λk hk=>?_,h.1,?_,λv o=>P v o⟩
  ·show tr.old k=true ↔ _;rw[B.old k hk];unfold Mem.young;rw[Ex]
  ·have hy: ∀Z:TZ,Z.m=c.mem->Z.O=tr.old->2*((Z.yk 0:Int)+Z.yk 1+Z.yk 2+Z.yk 3)+8<=c.mem.free:=λZ A W=>by
    have q:=AG (Z:=Z) (g:=g) (by rw[A];exact I.ok.mem) h.1.1 (λk hk=>by rw[A,W];exact B.old k hk);have K:=h.2;rw[A]at q;omega
   exact hy _ rfl rfl
 have t0:Tri ⟨c.mem,e,tr.old,T,(· ∈a)⟩ c.mem.free (λ_=>none) [] (c.fresh (fJ g)) e:=
  Tri.begin' S (Sp.fresh_ok I.ok _) rfl rfl (λi j Y=>by
   show(if fJ g=[]\/((i:Nat):Int)∈fJ g then(0:Int)else c.cur i j)=0;rw[ka (.inr (lG.2 ⟨GF,Y⟩))])
 obtain⟨X,V,a4,t1,_,r1,J⟩:=Tri.visL S a (acc:=[]) t0 (λw z=>z);obtain⟨fw,al,sz,y,R,C⟩:=Tri.final S t1 I.marked B rfl N D;have f: ∀v,v∈a->Dn tr.old fw v:=λv o=>(J v o).mono R
 have n:((c.fresh (fJ g)).visL tr.old T a).2=a.map (Fw tr.old fw):=by
  refine Eq.trans r1 ?_;rw[List.nil_append];exact Gm λv o=>(pU (J v o) R).symm
 have d:=tJ.of S y I.marked B rfl hl;have u: ∀k:Nat,k<1024->tr.old k=true->({b with mem:=(b.mem.weaks tr l).foldl (wc tr.old) b.mem}:Sp).mem.has k:=λk hk ho=>d.same.has.2 (y.heads.has ((S.old k hk).1 ho).1);obtain⟨E,x⟩:=Sp.ended_spec (Z:=⟨c.mem,e,tr.old,T,(· ∈a)⟩) (tr:=tr) rfl d.ok u;have F:({b with mem:=(b.mem.weaks tr l).foldl (wc tr.old) b.mem}:Sp).mem.Even:=d.same.even y.even;have r:=wb d.ok F tr
 have L:({b with mem:=(b.mem.weaks tr l).foldl (wc tr.old) b.mem}:Sp).cf=c.cf:=by
  have q:=xP N;rw[Sp.lookCards_cf,Sp.visL_cf]at q;have K:(c.fresh (fJ g)).cf=c.cf:=rfl;rw[K]at q;rw[<-q];unfold Sp.cf;show((b.mem.weaks tr l).foldl (wc tr.old) b.mem).count+((b.mem.weaks tr l).foldl (wc tr.old) b.mem).free=_;rw[d.same.count,d.same.free]
 have M:=Sp.ended_cf ({b with mem:=(b.mem.weaks tr l).foldl (wc tr.old) b.mem}:Sp) tr;have t:fy ⟨c.mem,e,tr.old,T,(· ∈a)⟩ g c.mem.free fw al sz tr b _ _:=⟨S,y,C,f,d.toBroke,E,B,I.marked⟩;refine⟨fw,al,sz,t,d,n,⟨x,r,t.sound,t.marks⟩,λw z=>?_,GF⟩;rw[n]at z;obtain⟨v,o,rfl⟩:=EZ.1 z;obtain⟨U,v2⟩:=P v o;exact⟨y.fw_word S U,(t.good U v2 (f v o)).1⟩
theorem Ab{b d:Nat}{a:Int}(h:eG H b d i)(f:bP i)(e:a<=9223372036854775807):
  cS.C (some ⟨b,0,none⟩) a H (λv c=>v=.tuple #[vu (i.read a),vi (if i.used a then 0 else 18)]/\c=H):=
 gc (je h f e) (by
  rintro _ _ ⟨rfl,rfl⟩;refine⟨?_,rfl⟩;unfold Mem.read;split<;>rfl)
theorem we{b o:Nat}{a:Array Value}{T:TypeId}{v:Value}(g:H[b]?=some (.cells a T (0,0)))(f:a[o]?=some v):aF H ((Addr.mk b 0 none).add o) 0 1/\ ∀c,c=aL H ((Addr.mk b 0 none).add o) [v] 0->c=H:=by
 have j:o<a.size:=by
  rcases EC o a.size with h | h
  ·exact h
  ·rw[Array.getElem?_eq_none h]at f;cases f
 rw[Ej,Eo];refine⟨cZ g 1 o 0 GF,λc d=>?_⟩;rw[dX [v] H a o 0 g,Nat.add_zero]at d
 have e:splice a o [v]=a:=by
  refine Gs λi=>?_;rcases EC i o with h | h
  ·exact eN a [v] o i h
  ·by_cases e:i=o
   ·subst e;have:=fE a [v] i 0 (by simp;omega) GH;rw[Nat.add_zero]at this;rw[this,f];rfl
   ·exact gt a [v] o i (by simp;omega)
 rw[e,oZ g]at d;exact d
theorem rH(T:Tc H a b j d)(Y:d.over=false):iC.C (some ⟨j.t,0,none⟩) none 0 0 H (λv J=>v=VN/\Ext H J):=by
 refine Ei λR S=>iC.link ?_;unfold iC.pt;intro c x U i M K t k;have Q:=aK U i;have B:Ext H x:=Eh i;have p:Ext x K:=Eh k;have E:=aK t k;refine⟨_,aW (p.get Q),?_⟩;refine gc (mG (T.ext (B.trans p))) ?_;rintro _ y ⟨rfl,rfl⟩;refine⟨_,rfl,?_⟩;rw[kb (by rw[Y];decide)];refine⟨_,_,_,aW E,GG,GG,GG,GG,?_⟩;intro N z V q c4 L u l;have D:Ext y z:=Eh q;have O:Ext z L:=Eh l;obtain⟨w,X⟩:=ff (n:=1) (vs:=[vs (some (Addr.mk N 0 none)) 0 0]) (aK u l) rfl rfl;refine⟨w,λm r=>?_⟩;obtain⟨g7,P⟩:=X m r;have h:Ext y m:=(D.trans O).fr_trans P (λa2 W=>by simp at W;have:=D.size;omega);have o:=(B.trans p).trans h;have e:hat m (Addr.mk M 0 none)=some (VN):=aW (h.get E);refine⟨_,_,_,e,λs A=>s=0/\A=m,λ_ _=>0,⟨rfl,rfl⟩,?_⟩;rintro s A ⟨rfl,rfl⟩;rw[kb GG];refine⟨λf=>f=A,λ_=>0,rfl,?_⟩;rintro f rfl;refine⟨_,_,_,e,λs A=>s=0/\A=f,λ_ _=>0,⟨rfl,rfl⟩,?_⟩;rintro s f ⟨rfl,rfl⟩;rw[kb GG];refine⟨_,_,_,e,λF I G s A=>F=none/\I=0/\G=0/\s=0/\A=f,λ_ _ _ _ _=>0,⟨rfl,rfl,rfl,rfl,rfl⟩,?_⟩;rintro F I G s A ⟨rfl,rfl,rfl,rfl,rfl⟩;rw[kb GG];exact S _ _ ⟨rfl,o⟩
theorem rI(T:Tg H a b j d)(hf:jq d.frm)(J:oz d.cards):
  iD.C (some ⟨j.t,0,none⟩) H (λ_ H'=> ∃l,iw b.sp.mem [d.tgt] l/\Tg H' a {b with sp:={b.sp with mem:=(b.sp.mem.weaks d l).foldl (wc d.old) b.sp.mem}} j d/\Fr (Bm a) H H'):=by
 refine Ei λR hR=>iD.link ?_;unfold iD.pt zY;refine gc (mG T.toTc) ?_;rintro _ H1 ⟨rfl,rfl⟩;refine⟨_,rfl,?_⟩;rw[kb (by rw[T.on];decide)];refine gc (vM T hf J) ?_;rintro _ H2 ⟨l,wB,wN,wC,hl,rfl,X,hr,a5,ao,e2⟩;have hw:=zd T.ok.mem hf J hl;have a2: ∀aB∈l6 wB,aB ∉ a.all:=λaB hj h=>by have:=a5 aB hj;have:=T.lt (.inl h);omega
 refine⟨_,_,_,rfl,?_⟩;generalize V:b.sp.mem.weaks d l=W at*;subst X
 refine⟨λk A=>(0<=k/\k<=W.length)/\Tg A a {b with sp:={b.sp with mem:=(W.take k.toNat).foldl (wc d.old) b.sp.mem}} j d/\Fr (Bm a) H2 A,λk _=>(W.length-k).toNat,
  ⟨⟨GF,GF⟩,T.grow e2,Ey _ _⟩,?_⟩
 rintro k A ⟨hk,q,N⟩;by_cases x:k< (W.length:Int)
 case neg=>
  rw[kb x];rw[ES GF]at q;exact hR _ _ ⟨l,hl,by rw[V];exact q,e2.fr.trans N⟩
 rw[ka x];have u:k.toNat<W.length:=GF;have L:=Eu u;have a1:=hr.keep N (λaB hj hs=>a2 aB hj (kQ hs));obtain⟨az,ha,I⟩:=pS a1.src (i:=k.toNat) u;have a3:W.take (k+1).toNat=W.take k.toNat++[W[k.toNat]]:=by rw[show(k+1).toNat=k.toNat+1 by omega,EL u]
 have K:(W.take (k+1).toNat).foldl (wc d.old) b.sp.mem=wc d.old ((W.take k.toNat).foldl (wc d.old) b.sp.mem) W[k.toNat]:=by rw[a3,Gp];rfl
 have ap:=hw _ L;generalize W[k.toNat]=w at*;have O:=q.hp;have hd:((W.length:Int)-(k+1)).toNat< ((W.length:Int)-k).toNat:=GF;refine⟨az,ha,⟨hk.1,x⟩,_,I,_,rfl,_,q.tr.hPtr,_,rfl,_,O.hPtr,_,rfl,_,O.cd.cPtr,_,rfl,_,O.cd.sp.memPtr,?_⟩;rw[n5 (n:=k+1) GF];generalize ai:(W.take k.toNat).foldl (wc d.old) b.sp.mem=m at*;refine gc (Ab O.cd.sp.mem q.ok.mem GF) ?_;rintro _ A1 ⟨rfl,rfl⟩;refine⟨_,_,rfl,?_⟩;have z:aO (m.read w):=Mem.read_word q.ok.mem w;refine gc (qL q.toTc z) ?_;rintro _ A2 ⟨rfl,t⟩;refine⟨_,rfl,?_⟩;have Q:=q.grow t;by_cases y:aU d.old (m.read w)
 case neg=>
  rw[kb (by simp[y])];have S:wc d.old m w=m:=by unfold wc;rw[kb y]
  exact⟨⟨⟨GF,GF⟩,by rw[K,S];exact Q,N.trans t.fr⟩,hd⟩
 rw[ka (zX ⟨q.on,y⟩)];refine gc (oy Q.toTc z) ?_;rintro _ A3 ⟨rfl,e3⟩;refine⟨_,rfl,?_⟩;have D:=Q.grow e3;have c:=D.hp;have F:=t.trans e3
 have G: ∀(B p:zV) (v:Int),aO v->v=(m.fwd (m.read w)).getD 44->Tg B a {b with sp:={b.sp with mem:=m}} j d->Fr (Bm a) A1 B->eG p a.m a.s (if m.used w then m.set w v else m)->Fr [a.s] B p->
   (((0<=k+1/\k+1<=(W.length:Int))/\Tg p a {b with sp:={b.sp with mem:=(W.take (k+1).toNat).foldl (wc d.old) b.sp.mem}} j d/\Fr (Bm a) H2 p)/\((W.length:Int)-(k+1)).toNat< ((W.length:Int)-k).toNat):=by
  intro B p v P a4 e U o E;have S:wc d.old m w=m.wr w v:=by unfold wc;rw[ka y,<-a4]
  refine⟨⟨⟨GF,GF⟩,?_,(N.trans U).trans (E.mono (λi Y _=>by simp at Y;simp[Bm];omega))⟩,hd⟩;rw[K,S];refine⟨e.toTc.withMem (m:=m.wr w v) E (λi Y=>by simp at Y;omega) o (e.ok.wr w P),(bQ.wr m w v).even e.even,?_,e.on⟩;have:=e.cf;unfold Sp.cf at this⊢;show(m.wr w v).count+(m.wr w v).free<_;rw[(bQ.wr m w v).count,(bQ.wr m w v).free];exact this
 have aj: ¬ ¬(d.over=false/\aU d.old (m.read w)):=λh=>h ⟨T.on,y⟩
 cases f:m.fwd (m.read w)with
 | some v=>
  rw[ka (by simp[f])];refine⟨_,D.tr.hPtr,_,rfl,_,c.hPtr,_,rfl,_,c.cd.cPtr,_,rfl,_,c.cd.sp.memPtr,?_⟩;have M:=Sp.visit_fwd (s:={b.sp with mem:=m}) (T:=d.tgt) y f;refine gc (mv D z) ?_;rintro _ B ⟨rfl,e,U⟩;rw[M]at e⊢;have r:=e.hp;refine⟨_,rfl,Bo e.tr.hPtr,Bo r.hPtr,Bo r.cd.cPtr,Bo r.cd.sp.memPtr,?_⟩;refine gc (kg r.cd.sp.mem e.ok.mem GF) ?_;rintro _ p ⟨rfl,o,E⟩;have P:v=(m.fwd (m.read w)).getD 44:=by rw[f];rfl
  exact⟨_,rfl,G B p v (by rw[P];exact sW e.ok.mem _) P e (F.fr.trans U) o E⟩
 | none=>
  rw[kb (by simp[f,T.on,y])];refine⟨_,D.tr.hPtr,_,rfl,_,c.hPtr,_,rfl,_,c.cd.cPtr,_,rfl,_,c.cd.sp.memPtr,?_⟩;refine gc (kg c.cd.sp.mem D.ok.mem GF) ?_;rintro _ p ⟨rfl,o,E⟩;exact⟨_,rfl,G A3 p 44 GG (by rw[f];rfl) D F.fr o E⟩
def Ck(k:Nat)(a:Addr)(n:Nat):List Value:=List.replicate k (vp none)++(List.range n).map λi=> Vq (a.add (i*1))
theorem Ac{k n i:Nat}{a:Addr}(h:i<k):(Ck k a n)[i]?=some (vp none):=by
 unfold Ck;rw[List.getElem?_append_left (by simpa using h),List.getElem?_replicate,ka h]
theorem Ad{k n i:Nat}{a:Addr}(h:i<n):(Ck k a n)[k+i]?=some (Vq (a.add (i*1))):=by
 unfold Ck;rw[List.getElem?_append_right GH,List.length_replicate,show k+i-k=i by omega,List.getElem?_map,List.getElem?_range h];rfl
theorem tL{B:zW}{vs:List Value}(h:bV H B vs){k:Nat}{v:Value}(hk:vs[k]?=some v): ∃a,B=some a/\hat H (a.add (k*1))=some v:=by
 have b:k<vs.length:=by
  rcases EC k vs.length with h | h
  ·exact h
  ·simp[List.getElem?_eq_none h]at hk
 cases B with
 | none=>have e:vs=[]:=h;rw[e]at b;simp at b
 | some a=>
  refine⟨a,rfl,?_⟩;have c:aI H a 0 vs:=h;have:=gM c k v hk;rw[Eo]at this;rw[EG];exact this
structure Cel (S:List Nat) (ra:Addr) (K:zV->List Int->Prop):Prop where
 keep: ∀{T:List Nat} {A A':zV} {ws:List Int},K A ws->Fr T A A'->(∀j∈S,j ∉ T)->K A' ws
 at': ∀{A:zV} {ws:List Int} {i:Nat},K A ws->(h:i<ws.length)->hat A (ra.add (i*1))=some (vu ws[i])
 put: ∀{A:zV} {ws:List Int} {i:Nat} (v:Int),K A ws->i<ws.length->aF A (ra.add (i*1)) 0 1/\ ∀A',A'=aL A (ra.add (i*1)) [vu v] 0->K A' (ws.set i v)/\Fr S A A'
 lt: ∀{A:zV} {ws:List Int},K A ws-> ∀j∈S,j<A.size
theorem Cel.own(l:zW)(n t:Nat):Cel (l6 l) (l.getD default) (λA ws=>ws.length=n/\Own A 37 1 l n t (Bi ws)):=by
 refine⟨λ{T A m ws} h f r=>⟨h.1,h.2.keep f r⟩,λ{A ws i} h b=>?_,λ{A ws i} v h b=>?_,λh=>h.2.lt⟩
 ·obtain⟨a,k,c⟩:=h.2.at (j:=i) (v:=vu ws[i]) (by unfold Bi;rw[List.getElem?_map,List.getElem?_eq_getElem b];rfl);subst k;rw[Option.getD_some,EG];exact c
 ·obtain⟨a,k,_⟩:=h.2.at (j:=i) (v:=vu ws[i]) (by unfold Bi;rw[List.getElem?_map,List.getElem?_eq_getElem b];rfl);subst k;obtain⟨c,o⟩:=h.2.put (i:=i) (by rw[<-h.1];exact b) (vu v);rw[Option.getD_some,EG];refine⟨c,λm d=>?_⟩;obtain⟨p,q⟩:=o m d;refine⟨⟨by rw[List.length_set];exact h.1,?_⟩,by simpa using q⟩;have e:(Bi ws).set i (vu v)=Bi (ws.set i v):=by unfold Bi;rw[List.map_set]
  rw[<-e];exact p
theorem HpAt.putSy2(h:HpAt H a b)(v:Value):aF H ((Addr.mk a.h 0 none).add 1) 0 1/\HpAt (aL H ((Addr.mk a.h 0 none).add 1) [v] 0) a {b with sy:=v}/\Fr [a.h] H (aL H ((Addr.mk a.h 0 none).add 1) [v] 0):=by
 obtain⟨c,d⟩:=ie h.h 1 v GH;obtain⟨g,f⟩:=d _ rfl;refine⟨c,⟨h.cd.keep f ?_ ?_ ?_ ?_,h.ne,g⟩,f⟩<;>have:=h.ne<;>simp<;>omega
theorem Tg.putSy{c:zV}{v:Value}(T:Tg H a b j d)(k:HpAt c a {b with sy:=v})(f:Fr [a.h] H c):Tg c a {b with sy:=v} j d:=
 ⟨⟨k,T.ok,T.tr.keep f (λi e h=>by
  simp at e;exact T.apart i h (by rw[e];simp[Blk.all])),T.apart⟩,T.even,T.cf,T.on⟩
def iL(O:Nat->Bool)(m:Mem)(l:List Int):List Int:=(l.filter λw=>decide (¬aU O w) || (m.fwd w).isSome).map λw=>if aU O w then(m.fwd w).getD 0 else w
theorem mH{O:Nat->Bool}{l:List Int}{w:Int}:iL O i (l++[w])=iL O i l++if(decide (¬aU O w) || (i.fwd w).isSome)=true then[if aU O w then(i.fwd w).getD 0 else w]else[]:=by
 unfold iL;rw[List.filter_append,E4];congr 1;rw[List.filter_cons];by_cases h:(decide (¬aU O w) || (i.fwd w).isSome)=true
 ·rw[ka h,ka h];rfl
 ·rw[kb h,kb h];rfl
theorem tM{G:zW}{lC:Nat}{l:List Int}(T:Tg H a b j d)(hs:bV H G (Bi l))(hw: ∀w∈l,aO w)(Q: ∀au∈l6 G,au ∉ a.all)(hl:l.length<=1000000):
  ja.C (some ⟨j.t,0,none⟩) G l.length lC H (λv K=> ∃B c,v=.slice B (iL d.old b.sp.mem l).length c/\Own K 37 1 B (iL d.old b.sp.mem l).length c (Bi (iL d.old b.sp.mem l))/\(∀au∈l6 B,H.size<=au)/\Tg K a b j d/\Fr (Bm a) H K):=by
 refine Ei λR hR=>ja.link ?_;unfold ja.pt zY;refine gc (mG T.toTc) ?_;rintro _ W ⟨rfl,rfl⟩;refine⟨_,rfl,?_⟩;rw[kb (by rw[T.on];decide)]
 refine⟨λB n c i A=> ∃k:Nat,i=k/\k<=l.length/\n=(iL d.old b.sp.mem (l.take k)).length/\Own A 37 1 B n c (Bi (iL d.old b.sp.mem (l.take k)))/\(∀au∈l6 B,W.size<=au)/\Tg A a b j d/\Fr (Bm a) W A,λ_ _ _ i _=>(l.length-i).toNat,
  ⟨0,rfl,GF,rfl,gW,GH,T,Ey _ _⟩,?_⟩
 rintro B n c i A ⟨k,rfl,hk,rfl,J,m,L,t⟩;by_cases f:(k:Int)< (l.length:Int)
 case neg=>
  rw[kb f];obtain rfl:k=l.length:=GF;rw[Fq]at J⊢;exact hR _ _ ⟨B,c,rfl,J,m,L,t⟩
 rw[ka f];have o:k<l.length:=GF;have hd:((l.length:Int)-((k:Int)+1)).toNat< ((l.length:Int)-(k:Int)).toNat:=GF;rw[n5 (n:=(k:Int)+1) GF]
 have V:bV A G (Bi l):=by
  cases G with
  | none=>exact hs
  | some ap=>exact t.rowAt (λh=>Q ap.block GH (kQ h)) hs
 obtain⟨ap,ha,x⟩:=tL V (k:=k) (v:=vu l[k]) (by unfold Bi;rw[List.getElem?_map,List.getElem?_eq_getElem o];rfl);have F:=hw _ (Eu o);have q:l.take (k+1)=l.take k++[l[k]]:=EL o
 have a4:(iL d.old b.sp.mem (l.take k)).length<=k:=by
  unfold iL;rw[E2];refine Fe (List.length_filter_le _ _) ?_;rw[E6];omega
 generalize l[k]=w at*;refine⟨ap,ha,⟨GF,f⟩,_,x,?_⟩;refine gc (oy L.toTc F) ?_;rintro _ H4 ⟨rfl,r⟩;refine⟨_,rfl,?_⟩
 have U:decide (¬(d.over=false/\aU d.old w))=decide (¬aU d.old w):=by
  by_cases h:aU d.old w
  ·rw[zQ (show ¬ ¬(d.over=false/\aU d.old w)from λj=>j ⟨T.on,h⟩),zQ (show ¬ ¬aU d.old w from λj=>j h)]
  ·rw[zX (show ¬(d.over=false/\aU d.old w)from λj=>h j.2),zX (show ¬aU d.old w from h)]
 rw[U];have Y:=L.grow r;have z4:=r.size;have zA:=t.size;by_cases p:(decide (¬aU d.old w) || (b.sp.mem.fwd w).isSome)=true
 case neg=>
  rw[kb p];exact⟨⟨k+1,GF,GF,by rw[q,mH,kb p,E9],by rw[q,mH,kb p,E9];exact J.ext r,m,Y,t.trans r.fr⟩,hd⟩
 rw[ka p]
 have E:b.sp.visit d.old d.tgt w=(b.sp,if aU d.old w then(b.sp.mem.fwd w).getD 0 else w):=by
  by_cases h:aU d.old w
  ·rw[ka h]
   cases hf:b.sp.mem.fwd w with
   | none=>rw[hf,zQ (show ¬ ¬aU d.old w from λj=>j h)]at p;exact absurd p GG
   | some v=>rw[Sp.visit_fwd h hf];rfl
  ·rw[kb h];exact Sp.visit_no h
 refine gc (mv Y F) ?_;rintro _ H5 ⟨rfl,T5,M⟩;rw[E]at T5⊢;refine⟨_,rfl,λb6 X N u=>?_⟩;have I:Ext H5 X:=Eh u;have T6:Tg X a b j d:=T5.grow I;have D: ∀au∈Bm a,au∈a.all:=λau e=>kQ e;have O: ∀au∈l6 B,au ∉ Bm a:=λau e h=>by have:=T.lt (.inl (D au h));have:=m au e;omega
 have z5:=M.size;have z6:=I.size
 refine dE (ys:=Bi [if aU d.old w then(b.sp.mem.fwd w).getD 0 else w]) (((J.ext r).keep M (λau e=>O au e)).ext I) (cX (aK N u) _ 0 0 (λau e=>by
  simp only[Bi,List.map_cons,List.map_nil,List.length_cons,List.length_nil]at e;obtain rfl:au=0:=GF;rfl)) rfl (j3 _) rfl GF ?_
 intro B' c' H7 y f7 S;have T7:Tg H7 a b j d:=T6.stay f7 (λau e h=>by have:=T.lt (.inl h);have:=m au e;omega) (λau e h=>by have:=T.lt (.inr h);have:=m au e;omega);have z:iL d.old b.sp.mem (l.take (k+1))=iL d.old b.sp.mem (l.take k)++[if aU d.old w then(b.sp.mem.fwd w).getD 0 else w]:=by rw[q,mH,ka p]
 have P:(iL d.old b.sp.mem (l.take (k+1))).length=(iL d.old b.sp.mem (l.take k)).length+1:=by rw[z,E3];rfl
 refine⟨⟨k+1,GF,GF,P.symm,?_,λau e=>?_,T7,?_⟩,hd⟩
 ·rw[z];unfold Bi at y⊢;rw[E4];exact y
 ·rcases S au e with h | h
  ·exact m au h
  ·omega
 ·exact(((t.trans r.fr).trans M).trans I.fr).trans' f7 (λau e _=>e) (λau e f=>by have:=m au e;omega)
def rn(O:Nat->Bool)(fw:Int->Option Int)(w:Int):Bool:=decide (¬aU O w) || (fw (w / 8)).isSome
def pG(O:Nat->Bool)(fw:Int->Option Int)(l:List Int):List Int:=(l.filter (rn O fw)).map (Fw O fw)
theorem tK.pruned{r y k B:Sp}{e sz:Int->Nat}{g T:Int}{c f:List Int}{fw:Int->Option Int}{al:List Int}(C:tK r e g T d c f fw al sz y k B){l:List Int}(x: ∀w∈l,aO w/\Good r.mem e w):
  iL d.old k.mem l=pG d.old fw l:=by
 have t:=C.t;have S:=t.S
 have key: ∀w,aO w->Good r.mem e w->aU d.old w->k.mem.fwd w=(fw (w / 8)).map λb=>b*8+w % 8:=λw n h a=>by
  rw[<-t.tri.fwd_is S n h a];obtain⟨z,A,D,E⟩:=S.oldWord h a;have o:=t.tri.heads.used (S.sound.used _ z).1;have i:=C.brk.old _ o A;unfold Mem.fwd;rw[i];have p:k.mem.used (w / 8) ↔ y.mem.used (w / 8):=C.brk.same.used;exact kC ⟨λq=>⟨o,q.2⟩,λq=>⟨p.2 o,q.2⟩⟩ _ _
 induction l with
 | nil=>rfl
 | cons w l j=>
  have j:=j (λv m=>x v (by simp[m]));obtain⟨n,h⟩:=x w GH
  have u:(decide (¬aU d.old w) || (k.mem.fwd w).isSome)=rn d.old fw w:=by
   unfold rn;by_cases a:aU d.old w
   ·rw[key w n h a,Option.isSome_map]
   ·rw[zX (show ¬aU d.old w from a)];rfl
  unfold iL pG at j⊢;by_cases hk:rn d.old fw w=true
  ·rw[Gy (by rw[u];exact hk),Gy hk,List.map_cons,List.map_cons,j];congr 1;by_cases a:aU d.old w
   ·rw[ka a,key w n h a];unfold rn at hk;rw[zQ (show ¬ ¬aU d.old w from λq=>q a)]at hk;obtain⟨v,m⟩:=FQ.1 (by simpa using hk);rw[m,jO a m];rfl
   ·rw[kb a,km a]
  ·rw[Gz (by rw[u];exact hk),Gz hk,j]
structure AU (K:zV->List Int->Prop) (S:List Nat) (H H':zV) (b:Blk) (x:Hp) (sz:Int->Nat) (g T:Int) (roots young:List Int) (fw:Int->Option Int) (al:List Int) (sz':Int->Nat) (tr:Tr) (s3 s4 s5:Sp) (syl:List Int):Prop where
 col:tK x.sp sz g T tr roots young fw al sz' s3 s4 s5
 own:K H' young
 fr:Fr (b.all++S) H H'
 free:2*(x.sp.mem.nyoung g:Int)+9<=x.sp.mem.free
 sym: ∃B c,HpAt H' b {x with sp:=s5,sy:=.slice B (pG tr.old fw syl).length c,ep:=IntKind.wrap .u64 (x.ep+1)}/\Own H' 37 1 B (pG tr.old fw syl).length c (Bi (pG tr.old fw syl))/\ ∀j∈l6 B,H.size<=j
theorem tO{K:zV->List Int->Prop}{S:List Nat}{ra:Addr}(Ce:Cel S ra K){cS:Blk}{sz:Int->Nat}{g T:Int}{k:Nat}{pB:zW}{W pC:Nat}{roots:List Int}(hp:HpAt H cS b)(I:Inv b.sp sz)(bq:b.sp.cf<4611686018427387904)(av:b.en=VN){X:zW}{sC:Nat}{e:List Int}(bN:b.sy=vs X e.length sC)(b2:Own H 37 1 X e.length sC (Bi e))(f: ∀j∈l6 X,j ∉ cS.all/\j ∉ S)(b4: ∀w∈e,aO w/\Good b.sp.mem sz w)(bK:e.length<=1000000)(hg:BT g)(hT:BT T)
  (hr:K H roots) (M: ∀j∈S,j ∉ cS.all) (aT:bV H pB (Ck k ra roots.length)) (cB:W=k+roots.length) (aC: ∀j∈l6 pB,j ∉ cS.all/\j ∉ S/\j<H.size) (x: ∀w∈roots,aO w/\Good b.sp.mem sz w) (hl:W<=1000000000):
  iM.C (some ⟨cS.h,0,none⟩) g T pB W pC H (λv H'=>(jz b.sp g T 1≠0->v=vi (jz b.sp g T 1)/\Ext H H')/\
   (jz b.sp g T 1=0->v=vi 0/\ ∃ab fw al aa tr s3 s4 s5,AU K S H H' cS b sz g T roots ab fw al aa tr s3 s4 s5 e)):=by
 refine Ei λR hR=>iM.link ?_;unfold iM.pt zY;rw[El];have ok:=I.ok
 have a4:k6.C (some ⟨cS.h,0,none⟩) H (λv H'=>v=vi 1/\H'=H):=by
  refine Ei λR hR=>k6.link ?_;unfold k6.pt zY;refine⟨_,rfl,none,0,0,?_,hR _ _ ⟨rfl,rfl⟩⟩;rw[fu hp.h 2];exact Eg some av
 refine gc a4 ?_;rintro _ H1 ⟨rfl,rfl⟩;refine⟨_,rfl,?_⟩;refine gc (vL hp ok I.even bq hg hT GG) ?_;rintro v2 H2 ⟨bz,b6⟩;by_cases m:jz b.sp g T 1=0
 case neg=>
  obtain⟨rfl,e2⟩:=bz m;refine⟨_,_,rfl,?_⟩;rw[kb m];exact hR _ _ ⟨λ_=>⟨rfl,e2⟩,λh=>absurd h m⟩
 obtain⟨q,t,rfl,T2,B,hq,f2⟩:=b6 m;refine⟨_,_,rfl,?_⟩;rw[ka rfl];obtain rfl:=B.tgt;have ch:=rm GG m;have cc:=hp.lt;have aV:=Ce.lt hr;have d: ∀j∈Bm cS,j∈cS.all:=λj c=>kQ c;have z2:=f2.size;have aX: ∀j∈S,j ∉ q.all:=λj c h=>by have:=aV j c;have:=hq j h;omega
 have hw: ∀w∈roots,aO w:=λw h=>(x w h).1;have bE:=Ce.keep hr f2 (λj c h=>M j c (d j h))
 have Q:bV H2 pB (Ck k ra roots.length):=by
  cases pB with
  | none=>exact aT
  | some a=>
   have p:=aC a.block GH;exact f2.rowAt (λh=>p.1 (d _ h)) aT
 have ey:({b with sp:=b.sp.fresh (fJ g)}:Hp).sp=b.sp.fresh (fJ g):=rfl;generalize z:({b with sp:=b.sp.fresh (fJ g)}:Hp)=y at*
 refine⟨λi A=>(0<=i/\i<=W)/\Tg A cS {y with sp:=(y.sp.visL t.old t.tgt (roots.take (i-k).toNat)).1} q t/\K A ((y.sp.visL t.old t.tgt (roots.take (i-k).toNat)).2++roots.drop (i-k).toNat)/\Fr (Bm cS++S) H2 A,λi _=>(W-i).toNat,
  ⟨⟨GF,GF⟩,?_,?_,Ey _ _⟩,?_⟩
 ·rw[show((0:Int)-(k:Int)).toNat=0 by omega];exact T2
 ·rw[show((0:Int)-(k:Int)).toNat=0 by omega];exact bE
 rintro i A ⟨D,TA,hA,fA⟩;by_cases J:i< (W:Int)
 case pos=>
  rw[ka J];have hd:((W:Int)-(i+1)).toNat< ((W:Int)-i).toNat:=GF;rw[n5 (n:=i+1) GF]
  have U:bV A pB (Ck k ra roots.length):=by
   cases pB with
   | none=>exact Q
   | some a=>
    have p:=aC a.block GH;exact fA.rowAt (λh=>by rcases EH.1 h with h | h;exact p.1 (d _ h);exact p.2.1 h) Q
  by_cases cz:i<k
  ·obtain⟨a,ha,u⟩:=tL U (Ac (k:=k) (i:=i.toNat) GF);refine⟨a,ha,⟨D.1,J⟩,_,u,?_⟩;rw[Ev];rw[show(i-(k:Int)).toNat=0 by omega]at TA hA;exact⟨⟨⟨GF,GF⟩,by rw[show(i+1-(k:Int)).toNat=0 by omega];exact TA,by rw[show(i+1-(k:Int)).toNat=0 by omega];exact hA,fA⟩,hd⟩
  ·obtain⟨j,c⟩: ∃j:Nat,i=k+j:=⟨(i-k).toNat,GF⟩;have F:j<roots.length:=GF;subst c;rw[show((k:Int)+(j:Int)-(k:Int)).toNat=j by omega]at TA hA;obtain⟨a,ha,u⟩:=tL U (Ad (k:=k) (a:=ra) F);refine⟨a,ha,⟨D.1,J⟩,_,by rw[show((k:Int)+(j:Int)).toNat=k+j by omega];exact u,?_⟩;rw[El];have a8:=Sp.visL_len t.old t.tgt y.sp (roots.take j);rw[E6,FG GF]at a8;have ax:j< ((y.sp.visL t.old t.tgt (roots.take j)).2++roots.drop j).length:=by rw[E3,F6];omega
   have bw:((y.sp.visL t.old t.tgt (roots.take j)).2++roots.drop j)[j]=roots[j]:=by
    rw[GA GF];simp only[a8,F7,List.getElem_drop,Nat.add_zero]
   have N:=Ce.at' hA ax;rw[bw]at N;refine⟨_,N,?_⟩;have ay:=Eu F;refine gc (mv TA (hw _ ay)) ?_;rintro _ A2 ⟨rfl,bi,an⟩;have bm:=Ce.keep hA an (λj c h=>M j c (d j h));obtain⟨br,hs⟩:=Ce.put ((y.sp.visL t.old t.tgt (roots.take j)).1.visit t.old t.tgt roots[j]).2 bm ax;refine⟨_,rfl,br,λA3 bn=>?_⟩;obtain⟨az,f3⟩:=hs A3 bn;have bS:roots.take (j+1)=roots.take j++[roots[j]]:=EL F;have b5:y.sp.visL t.old t.tgt (roots.take (j+1))=(((y.sp.visL t.old t.tgt (roots.take j)).1.visit t.old t.tgt roots[j]).1,(y.sp.visL t.old t.tgt (roots.take j)).2++[((y.sp.visL t.old t.tgt (roots.take j)).1.visit t.old t.tgt roots[j]).2]):=by rw[bS,Sp.visL_snoc]
   have b1:((y.sp.visL t.old t.tgt (roots.take j)).2++roots.drop j).set j ((y.sp.visL t.old t.tgt (roots.take j)).1.visit t.old t.tgt roots[j]).2=(y.sp.visL t.old t.tgt (roots.take (j+1))).2++roots.drop (j+1):=by
    rw[b5,List.set_append,kb GF,a8,F7,Fn F,List.set_cons_zero,Ft];rfl
   rw[b1]at az;refine⟨⟨⟨GF,GF⟩,?_,?_,?_⟩,hd⟩
   ·rw[show((k:Int)+(j:Int)+1-(k:Int)).toNat=j+1 by omega,b5];exact bi.stay f3 (λi D h=>M i D h) (λi D h=>aX i D h)
   ·rw[show((k:Int)+(j:Int)+1-(k:Int)).toNat=j+1 by omega];exact az
   ·exact(fA.trans (an.mono (λi D _=>Fp _ D))).trans (f3.mono (λi D _=>Gn _ D))
 rw[kb J];have O:(i-(k:Int)).toNat=roots.length:=GF;rw[O,Fq]at TA;rw[O,Fq,List.drop_length,E9]at hA;refine gc (vH TA (B.cardsOK ok.mem)) ?_;rintro _ H6 ⟨T6,f6⟩;refine gc (vJ T6 (B.seenOK ok.mem) GF) ?_;rintro _ H7 ⟨s3,bU,bu,bs,T7,ci,f7⟩;have V:y.en=VN:=by rw[<-z];exact av
 have b8:y.sy=vs X e.length sC:=by rw[<-z];exact bN
 have ce:y.ep=b.ep:=by rw[<-z]
 refine⟨none,0,0,by rw[fu T7.hp.h 2];exact Eg some V,?_⟩;refine gc (rH T7.toTc T7.on) ?_;rintro _ H8 ⟨rfl,e8⟩;have T8:=T7.grow e8;obtain⟨ap,bH⟩:=we (o:=2) (v:=VN) T8.hp.h (by rw[<-V];rfl);refine⟨_,_,_,rfl,ap,λH9 bo=>?_⟩;obtain rfl:=bH H9 bo;refine gc (rI T8 (B.frmOK ok.mem) (B.cardsOK ok.mem)) ?_;rintro _ Y ⟨l,aw,r,a0⟩;refine⟨X,e.length,sC,by rw[fu r.hp.h 1,<-b8];rfl,?_⟩
 have b0: ∀j∈l6 X,j ∉ cS.all++q.all:=λj c h=>by
  rcases EH.1 h with h | h
  ·exact(f j c).1 h
  ·have:=b2.lt j c;have:=hq j h;omega
 have b3:Own A 37 1 X e.length sC (Bi e):=(b2.keep f2 (λj c h=>(f j c).1 (d j h))).keep fA (λj c h=>by
  rcases EH.1 h with h | h
  ·exact(f j c).1 (d j h)
  ·exact(f j c).2 h)
 have a7:Own Y 37 1 X e.length sC (Bi e):=(((b3.keep f6 (λj c h=>(f j c).1 (d j h))).keep f7 (λj c h=>b0 j c (by
  rcases Ew.1 h with h | h
  ·rw[h];simp[TB.all]
  ·exact Fp _ (d j h)))).ext e8).keep a0 (λj c h=>(f j c).1 (d j h))
 refine gc (tM r a7.src (λw h=>(b4 w h).1) (λj c=>(f j c).1) bK) ?_;rintro _ co ⟨oB,oC,rfl,bB,a5,ak,bj⟩;obtain⟨a2,P,E⟩:=ak.hp.putSy2 (.slice oB (iL t.old _ e).length oC);refine⟨_,_,_,rfl,a2,λai ao=>?_⟩;rw[<-ao]at P E;have bh:=ak.putSy P E;refine HD.mono (yM bh) ?_;rintro aj ⟨aB,bT,am⟩;have b7:y.sp=b.sp.fresh (fJ g):=by rw[<-z]
 have au:jg t.old t.tgt (((b.sp.fresh (fJ g)).visL t.old t.tgt roots).1.lookCards t.old t.tgt t.cards) t.seen s3 bU:=by rw[<-b7];exact bu
 obtain⟨fw,al,aa,C⟩:=uU I GG m B x au bs (l:=l) aw;have sX: ∀j∈Bm cS,j∈cS.all++q.all:=λj c=>Fp _ (d j c)
 have G:Fr (cS.all++q.all) A aj:=by
  have a1:Fr (cS.all++q.all) A H6:=f6.mono (λj c _=>sX j c)
  have ct:Fr (cS.all++q.all) H6 H7:=f7.mono (λj c _=>by
   rcases Ew.1 c with h | h
   ·rw[h];simp[TB.all]
   ·exact sX j h)
  have cu:Fr (cS.all++q.all) H7 ai:=((e8.fr.trans (a0.mono (λj c _=>sX j c))).trans (bj.mono (λj c _=>sX j c))).trans (E.mono (λj c _=>by simp at c;rw[c];simp[Blk.all]))
  have cv:Fr (cS.all++q.all) ai aj:=am.mono (λj c _=>by
   rcases Ew.1 c with h | h
   ·rw[h];simp[Blk.all]
   ·rcases Ew.1 h with h | h
    ·rw[h];simp[TB.all]
    ·exact sX j h)
  exact((a1.trans ct).trans cu).trans cv
 have L:=Ce.keep hA G (λj c h=>by
  rcases EH.1 h with h | h
  ·exact M j c h
  ·exact aX j c h)
 have FA:Fr (cS.all++S) H1 A:=(f2.mono (λj c _=>Fp _ (d j c))).trans (fA.mono (λj c _=>by
  rcases EH.1 c with h | h
  ·exact Fp _ (d j h)
  ·exact Gn _ h))
 have aN:=C.pruned b4;have zb:=r.lt (i:=cS.h) (.inl (by simp[Blk.all]))
 have cK:H1.size<=Y.size:=by
  have:=f2.size;have:=fA.size;have:=f6.size;have:=f7.size;have:=e8.size;have:=a0.size;omega
 have a3: ∀j∈cS.h::q.t::Bm cS,j<Y.size:=λj c=>by
  rcases Ew.1 c with h | h
  ·rw[h];exact zb
  rcases Ew.1 h with h | h
  ·rw[h];exact r.lt (.inr (by simp[TB.all]))
  ·exact r.lt (.inl (d j h))
 have a6:=(bB.keep E (λj c h=>by simp at h;have:=a5 j c;omega)).keep am (λj c h=>by have:=a5 j c;have:=a3 j h;omega);refine hR _ _ ⟨λh=>absurd m h,λ_=>⟨rfl,_,fw,al,aa,t,s3,_,_,⟨C,?_,?_,GF,oB,oC,?_,?_,λj c=>by have:=a5 j c;omega⟩⟩⟩
 ·rw[<-b7];exact L
 ·exact FA.trans' G (λj c _=>c) (λj c hl=>by
   rcases EH.1 c with h | h
   ·exact Fp _ h
   ·have:=hq j h;omega)
 ·have:=aB;rw[<-z]at this;rw[<-aN];exact this
 ·rw[<-aN];exact a6
section
variable {Z:TZ} {g F0:Int} {fw:Int->Option Int} {al:List Int} {s:Sp} {sz:Int->Nat}
theorem fy.built{F:Tr}{D:Sp}{m:Mem}(t:fy Z g F0 fw al sz F s D m)(e:bP m){Q:Int->Prop}{l:List Int}{w:Int}{d:Dt}(h:fZ Q Z.m l w d):GW Z fw w->fZ (λ_=>True) m (pG Z.O fw l) (Fw Z.O fw w) d:=by
 have c: ∀v:Int,v % 8=0\/v % 8=4->Fw Z.O fw v=v:=λv I=>km (λq=>by have:=wE q;unfold gf at this;omega)
 induction h with
 | con h=>intro a;rw[c _ (.inr (oR h).2)];exact .con h
 | chr h=>intro a;rw[c _ (.inr GF)];exact .chr h
 | num h hm n=>
  intro a;rcases h with h | h
  ·rw[c _ (.inl h.1)];exact .num (.inl h) hm n
  ·exact .num (.inr ((t.thg e h a).2 rfl)) hm n
 | str h p=>intro a;exact .str ((t.thg e h a).2 rfl) p
 | @sym w J h B p=>
  intro a;obtain⟨E,f,o⟩:=B;obtain⟨j,k⟩:=(t.thg e f a).1 rfl;have x:=(t.thg e o (k E GH)).2 rfl;refine .sym (List.mem_map_of_mem (Fg.2 ⟨h,?_⟩)) ⟨_,j,x⟩ p;unfold rn;by_cases A:aU Z.O w
  ·obtain⟨b,z⟩:=a.2.2 A;rw[z];simp
  ·rw[zX (show ¬aU Z.O w from A)];rfl
 | vec h n y C=>
  intro a;obtain⟨j,k⟩:=(t.thg e h a).1 rfl;refine .vec j (by rw[E2];exact n) (λi f o=>?_);rw[E2]at f;rw[List.getElem_map];exact C i f o (k _ (Eu f))
 | pair h H G z r u=>
  intro a;obtain⟨j,k,x⟩:=t.pr e h a;exact .pair j trivial (r k) (u x)
end
end Go.Proofs.YtillhdiiglamhaaGreatDoor
namespace Go.Proofs.YtillhdiiglamhaaGreatDoor
open Go
open Int(tmod)
variable{a:Int}{b:Dt}{d:Hp}{g:List Int}{H j:zV}{i:Int->Nat}
def One(P:Nat)(A:zV)(ws:List Int):Prop:= ∃w,ws=[w]/\A[P]?=some (.cells #[vu w] 37 (0,0))
theorem Cel.one(P:Nat):Cel [P] ⟨P,0,none⟩ (One P):=by
 refine⟨λ{T A e d} h f m=>?_,λ{A d i} h c=>?_,λ{A d i} v h c=>?_,λ{A d} h j k=>?_⟩
 ·obtain⟨w,l,a⟩:=h;exact⟨w,l,f.get (m P GH) a⟩
 ·obtain⟨w,rfl,a⟩:=h;obtain rfl:i=0:=by simp at c;omega
  rw[Nat.zero_mul,nm,aW a];rfl
 ·obtain⟨w,rfl,a⟩:=h;obtain rfl:i=0:=by simp at c;omega
  rw[Nat.zero_mul];obtain⟨p,q⟩:=ie a 0 (vu v) (by show 0<1;omega);refine⟨p,λe b=>?_⟩;obtain⟨g,f⟩:=q e b;exact⟨⟨v,rfl,g⟩,f⟩
 ·obtain⟨w,_,a⟩:=h;simp at k;subst k;exact aS a
structure BkSt (H0 A:zV) (k:Blk) (x:Hp) (sz:Int->Nat) (syl:List Int) (w:Int) (d:Dt) (c:Int):Prop where
 live:Live H0 A k x
 inv:Inv x.sp sz
 sy:SyAt H0 A k x syl
 sgood: ∀s∈syl,Good x.sp.mem sz s
 en:x.en=VN
 built:fZ (λ_=>True) x.sp.mem syl w d
 good:Good x.sp.mem sz w
 cf:x.sp.cf<=c
 few:syl.length<=10000
theorem BkSt.ext{H0 A f:zV}{k:Blk}{c:Int}(S:BkSt H0 A k d i g a b c)(e:Ext A f):BkSt H0 f k d i g a b c:=
 ⟨S.live.grow e,S.inv,S.sy.keep rfl (e.fr (S:=[])) GH,S.sgood,S.en,S.built,S.good,S.cf,S.few⟩
theorem BkSt.le{k:Blk}{c e:Int}(S:BkSt H j k d i g a b c)(h:c<=e):BkSt H j k d i g a b e:=
 ⟨S.live,S.inv,S.sy,S.sgood,S.en,S.built,S.good,by have:=S.cf;omega,S.few⟩
theorem Ae{k:Blk}{c:Int}(S:BkSt H j k d i g a b c)(hc:c<=100000){P Q:Nat}(N:j[P]?=some (.cells #[vu a] 37 (0,0)))(l:P ∉ k.all/\P ∉ syB d.sy/\H.size<=P)
  (hQ:j[Q]?=some (.cells #[vp (some ⟨P,0,none⟩)] 45 (0,0))) (y:Q ∉ k.all/\Q≠P) {ao T:Int} (hg:BT ao) (hT:BT T):
  iM.C (some ⟨k.h,0,none⟩) ao T (some ⟨Q,0,none⟩) 1 1 j (λv L=>(∃e:Int,v=vi e)/\ ∃(x':Hp) (r:Int->Nat) (K:List Int) (x:Int),BkSt H L k x' r K x b (c+1024)/\L[P]?=some (.cells #[vu x] 37 (0,0))/\P ∉ syB x'.sy/\Fr (k.all++[P]) j L):=by
 obtain⟨sB,sC,G,X,V,p⟩:=S.sy;have A:=S.built.word;have ab:=S.cf;have a9:=aS N;have D: ∀ap∈k.all,ap<j.size:=λap f=>S.live.lt f;refine gc (tO (Cel.one P) (k:=0) (pC:=1) S.live.at' S.inv GF S.en G X (λap f=>⟨(V ap f).1,λh=>by simp at h;subst h;exact l.2.1 (by rw[G];exact f)⟩) (λs m=>⟨p s m,S.sgood s m⟩) (by have:=S.few;omega) hg hT (roots:=[a]) ⟨a,rfl,N⟩ (λap f=>by simp at f;subst f;exact l.1) ?_ rfl (λap f=>by simp at f;subst f;exact⟨y.1,by simpa using y.2,aS hQ⟩) (λs m=>by simp at m;subst m;exact⟨A,S.good⟩) GF) ?_
 ·show aI j ⟨Q,0,none⟩ 0 _;unfold Ck;refine⟨?_,GB⟩;rw[nm,aW hQ];rfl
 rintro v L ⟨h1,h2⟩;by_cases F:jz d.sp ao T 1=0
 case neg=>
  obtain⟨rfl,e⟩:=h1 F;exact⟨⟨_,rfl⟩,d,i,g,a,(S.ext e).le GF,e.get N,l.2.1,e.fr⟩
 obtain⟨rfl,a1,M,al,r,w,s3,s4,s5,W⟩:=h2 F;have C:=W.col;have t:=C.t;have Z:=C.inv.ok.mem;obtain⟨B,cc,U,E,o⟩:=W.sym;obtain⟨x,I,O⟩:=W.own;have J:=C.yg;rw[I]at J;have Y:x=Fw w.old M a:=by simpa using J
 have R:=C.good x (by rw[I];simp);have gw:GW ⟨d.sp.mem,i,w.old,T,(· ∈[a])⟩ M a:=⟨A,S.good,t.roots a GH⟩;have z:=W.fr.size;have zh:=S.live.ext.size;refine⟨⟨_,rfl⟩,_,B9 w.old r,pG w.old M g,x,⟨⟨U,C.inv.ok,S.live.ext.fr_trans W.fr (λap f=>?_),S.live.young⟩,C.inv,⟨B,cc,rfl,E,λap f=>⟨λh=>by have:=D ap h;have:=o ap f;omega,by have:=o ap f;omega⟩,λs m=>?_⟩,λs m=>?_,S.en,?_,R.2,by have:=C.cf;show s5.cf<=_;omega,?_⟩,O,λh=>?_,W.fr⟩
 ·rcases EH.1 f with h | h
  ·exact S.live.young ap h
  ·simp at h;subst h;exact l.2.2
 ·obtain⟨u,n,rfl⟩:=EZ.1 m;exact t.tri.fw_word t.S (p u (Fg.1 n).1)
 ·obtain⟨u,n,rfl⟩:=EZ.1 m;obtain⟨q1,q2⟩:=Fg.1 n
  have hd:Dn w.old M u:=λho=>by
   unfold rn at q2;rw[zQ (show ¬ ¬aU w.old u from λq=>q ho)]at q2;exact FQ.1 (by simpa using q2)
  exact(t.good (p u q1) (S.sgood u q1) hd).1
 ·rw[Y];exact t.built Z S.built gw
 ·unfold pG;rw[E2];exact Fe (List.length_filter_le _ _) S.few
 ·have h:P∈l6 B:=h;have:=o P h;omega
theorem Af{k:Blk}(N:wO H j k d a):Inv d.sp (λ_=>0)/\d.en=VN/\d.sp.cf=a:=⟨N.inv,N.en,by
 have b:=N.count;have c:=N.free;unfold Sp.cf;omega⟩
theorem uV{v:Dv}{gB:zW}{N gC:Nat}(T:lA H)(D:cD (DE H) H v b)(hs:BT a)(G:Nums H .i64 gB N g):
  dA.C v.kind v.c v.neg v.mB v.mN v.mC v.t v.lB v.lN v.lC a gB N gC H (λr H'=>r=VT/\Ext H H'):=by
 refine Ei λR hR=>dA.link ?_;unfold dA.pt zY;intro dQ H1 hb ay;have e1:=Eh ay;have g1:=aK hb ay;have di:dQ=H.size:=hb;have dh:=aS g1
 have ct: ∀A,Ext H A->bS.C A (λv' A'=> ∃q:Bool,v'=.bool q/\R (.bool q) A'):=λA Q=>by
  refine gc (oX (T.ext Q)) ?_;rintro _ A' ⟨rfl,E⟩;exact⟨true,rfl,hR _ _ ⟨rfl,Q.trans E⟩⟩
 refine⟨_,_,_,_,_,_,_,_,_,_,bA (vs:=v.cells) g1,?_⟩;refine gc (zC (D.ext e1)) ?_;rintro _ H2 ⟨⟨q,rfl,hq⟩,e2⟩;have s:=e1.trans e2;refine⟨_,rfl,?_⟩;by_cases hc:(((q || (decide (a<8))) || (decide (a>400))) || (decide ((N:Int)>20)))=true
 ·rw[ka hc];exact ct H2 s
 rw[kb hc]
 have c6:q=false/\8<=a/\a<=400/\N<=20:=by
  simp only[EU,Ex,not_or]at hc;refine⟨by simpa using hc.1.1.1,GF,GF,GF⟩
 obtain⟨cd,dp,ce,cH⟩:=c6;obtain⟨hl,bE⟩:=hq cd;have dk:=cV b;refine gc (zc (n:=a) ⟨GF,GF⟩) ?_;rintro _ H4 ⟨k,x,rfl,N4⟩;have L4:=N4.live;have e4:=L4.ext;have am:=s.trans e4;have dv:=s.size;have z2:=e2.size;have z4:=e4.size;refine⟨_,_,rfl,?_⟩;rw[ka rfl,El];have g4:=(e2.trans e4).get g1;refine⟨_,_,_,_,_,_,_,_,_,_,bA (vs:=v.cells) g4,?_⟩;have D4:cD (λ_=>True) H4 v b:=wM D am (λ_ _=>trivial);refine gc (tI b D4 hl GF) ?_;rintro _ H5 ⟨u,rfl,Du,e5⟩;refine⟨_,_,_,_,_,_,_,_,_,_,rfl,λbc H6 aN bK=>?_⟩;obtain⟨s7,p7⟩:=fe (vs:=u.cells) aN bK rfl rfl;refine⟨s7,λH7 bN=>?_⟩;obtain⟨g7,e7⟩:=p7 H7 bN;have cA:bc=H5.size:=aN;have z5:=e5.size;have z7:=e7.size;have a4:=e5.trans e7;have L7:=L4.grow a4;have S7:SyAt H2 H7 k x []:=SyAt.nil N4.sy;have Z: ∀j∈k.all,j<H4.size:=λj hj=>L4.lt hj;have a9:syB x.sy=[]:=by rw[N4.sy];rfl
 have m:cD (Out H7 k x) H7 u b:=Du.keep (S:=[]) e7.fr GH (λj hj=>⟨by have:=hj.2;omega,λh=>by have:=Z j h;have:=hj.1;omega,by rw[a9];simp⟩);have ob:Out H7 k x dQ:=⟨GF,λh=>by have:=L4.young dQ h;omega,by rw[a9];simp⟩;have b6:Out H7 k x bc:=⟨aS g7,λh=>by have:=Z bc h;omega,by rw[a9];simp⟩;have a6:=a4.get g4;have an:=am.trans a4;obtain⟨I0,bs,da⟩:=Af N4;refine⟨_,_,_,_,_,_,_,_,_,_,bA (vs:=u.cells) g7,?_⟩
 refine gc (R:=λr M=> ∃(w e:Int),r=.tuple #[vu w,vi e]/\Ext H M/\H7.size<=M.size/\M[dQ]?=some (.cells v.cells.toArray 27 (0,0))/\M[bc]?=some (.cells u.cells.toArray 27 (0,0))/\cD (λ_=>True) M u b/\
   ((¬(Plain b/\bZ b<=64)/\w=0/\e=1)\/((Plain b/\bZ b<=64)/\w=0/\e=2)\/((Plain b/\bZ b<=64)/\e=0/\ ∃(x8:Hp) (sz:Int->Nat) (ac:List Int),BkSt H2 M k x8 sz ac w b 400))) ?_ ?_
 ·by_cases O:Plain b/\bZ b<=64
  case neg=>
   refine gc (rz hl GF O (T.ext an) m) ?_;rintro _ M ⟨rfl,e8⟩;exact⟨0,1,rfl,an.trans e8,e8.size,e8.get a6,e8.get g7,(m.any).ext e8,.inl ⟨O,rfl,rfl⟩⟩
  obtain⟨hp,a7⟩:=O;have dj:=N4.count;refine gc (oF hp hl a7 L7 (T.ext s) N4.even S7 (λw hw=>by simp at hw) m (by simp;omega) GF) ?_;rintro _ M ⟨w,e,x8,rfl,L8,aa⟩;refine⟨w,e,rfl,s.trans L8.ext,?_⟩;rcases aa with⟨rfl,rfl,_,l,dC,dB,ns,L,_⟩ | ⟨rfl,l,L,hB,hJ⟩
  ·exact⟨L.fr.size,L.fr.get ob.not a6,L.fr.get b6.not g7,(m.step L).any,.inr (.inl ⟨⟨hp,a7⟩,rfl,rfl⟩)⟩
  ·obtain⟨ae,I8,_,cm,cq,db⟩:=hJ.2 (λ_=>0) I0 (λw hw=>by simp at hw);have b4:=L.len.1;exact⟨L.fr.size,L.fr.get ob.not a6,L.fr.get b6.not g7,(m.step L).any,.inr (.inr ⟨⟨hp,a7⟩,rfl,x8,ae,l,L8,I8,L.sy,cm,hJ.1.trans bs,hB.weaken (λ_ _=>trivial),cq w GH,GF,by simp at b4;omega⟩)⟩
 rintro _ M ⟨w,er,rfl,a2,z8,U,bD,bf,aa⟩;refine⟨_,_,rfl,λP H9 aV bT=>?_⟩;obtain⟨cj,ch⟩:=fe (vs:=[vu w]) aV bT rfl rfl;refine⟨cj,λbg az=>?_⟩;obtain⟨bw,p⟩:=ch bg az;have cB:P=M.size:=aV;have al:=a2.trans p;have DA: ∀{A:zV},Ext H A->cD (λ_=>True) A v b:=λe=>wM D e (λ_ _=>trivial);refine⟨_,_,_,_,_,_,_,_,_,_,bA (vs:=u.cells) (p.get bD),_,_,_,_,_,_,_,_,_,_,bA (vs:=v.cells) (p.get U),?_⟩;refine gc (mq b (bf.ext p) (DA al) hl) ?_;rintro _ cU ⟨rfl,ao⟩;refine⟨_,rfl,?_⟩;rw[ka rfl];have y:=p.trans ao;refine⟨_,_,_,_,_,_,_,_,_,_,bA (vs:=v.cells) (y.get U),?_⟩;refine gc (uz (DA (a2.trans y)) hl GF) ?_;rintro _ bh ⟨⟨qm,rfl,ab⟩,W⟩;refine⟨_,rfl,?_⟩;have z:=y.trans W;have f:=a2.trans z;have a5:bh[P]?=some (.cells #[vu w] 37 (0,0)):=W.get (ao.get bw);rcases aa with⟨O,rfl,rfl⟩ | ⟨O,rfl,rfl⟩ | ⟨O,rfl,x8,ae,l,S8⟩
 ·have:qm=false:=by
   cases qm with
   | false=>rfl
   | true=>exact absurd (ab.1 rfl) O
  subst this;rw[kb GG];refine⟨λq A=>q=true/\Ext H A,⟨_,by rw[aW a5];rfl,?_⟩,λq A h=>by obtain⟨rfl,h⟩:=h;exact hR _ _ ⟨rfl,h⟩⟩;rw[ka rfl,ka rfl];refine gc (oX (T.ext f)) ?_;rintro _ A' ⟨rfl,E⟩;exact⟨_,rfl,rfl,f.trans E⟩
 ·rw[ka (ab.2 O),kb GG];refine⟨λq A=>q=true/\Ext H A,⟨_,by rw[aW a5];rfl,?_⟩,λq A h=>by obtain⟨rfl,h⟩:=h;exact hR _ _ ⟨rfl,h⟩⟩;rw[ka rfl,ka rfl];refine gc (oX (T.ext f)) ?_;rintro _ A' ⟨rfl,E⟩;exact⟨_,rfl,rfl,f.trans E⟩
 rw[ka (ab.2 O),ka rfl];have bk:=S8.ext z;have b5:=S8.sy
 have K:P ∉ k.all/\P ∉ syB x8.sy/\H2.size<=P:=by
  refine⟨λh=>by have:=S8.live.lt h;omega,λh=>?_,GF⟩;obtain⟨B,c,e,o,_⟩:=b5;rw[e]at h;have:=o.lt P h;omega
 have c5:dQ ∉ k.all:=λh=>by have:=L4.young dQ h;omega
 have aX:P≠dQ:=by have:=aS U;omega
 refine⟨λi A=>(0<=i/\i<=(N:Int)+1)/\Ext H A/\A[dQ]?=some (.cells v.cells.toArray 27 (0,0))/\ ∃(x:Hp) (sz:Int->Nat) (ac:List Int) (w:Int),BkSt H2 A k x sz ac w b (400+1024*i)/\A[P]?=some (.cells #[vu w] 37 (0,0))/\P ∉ syB x.sy,
  λi _=>((N:Int)+1-i).toNat,⟨⟨GF,GF⟩,f,z.get U,x8,ae,l,w,bk.le GF,a5,K.2.1⟩,?_⟩
 rintro i A ⟨hi,Q,gA,x9,cp,b8,w9,S9,V,b1⟩;by_cases b3:i<=(N:Int)
 case neg=>rw[kb b3];exact ct A Q
 rw[ka b3];refine⟨_,by rw[aW V];rfl,?_⟩;refine gc (nF S9.live S9.built.word) ?_;have c7:m8 x9.sp.mem w9=(0,b,aY b):=pE S9.built GF O.2;rw[c7];rintro _ cY ⟨u7,rfl,bn,bH,_⟩;refine⟨_,_,_,_,_,_,_,_,_,_,_,rfl,λdz d0 bX aB=>?_⟩;obtain⟨ck,ci⟩:=fe (vs:=u7.cells) bX aB rfl rfl;refine⟨ck,λbi aC=>?_⟩;obtain⟨bz,ap⟩:=ci bi aC;have F:=bn.trans ap;refine⟨_,_,_,_,_,_,_,_,_,_,bA (vs:=v.cells) (F.get gA),?_⟩;refine gc (ry b (DA (Q.trans F)) GF) ?_;rintro _ d1 ⟨rfl,a3⟩;refine⟨_,rfl,?_⟩;rw[kb GF,ka rfl];have I:=F.trans a3;refine⟨_,_,_,_,_,_,_,_,_,_,bA (vs:=u7.cells) (a3.get bz),_,_,_,_,_,_,_,_,_,_,bA (vs:=v.cells) (I.get gA),?_⟩;refine gc (mq b (((bH rfl).ext ap).ext a3) (DA (Q.trans I)) hl) ?_;rintro _ bj ⟨rfl,bp⟩;refine⟨_,rfl,?_⟩;rw[ka rfl];have d:=I.trans bp;have hd:((N:Int)+1-(i+1)).toNat< ((N:Int)+1-i).toNat:=GF;rw[n5 (n:=i+1) GF];have a1:=S9.ext d;by_cases a8:i< (N:Int)
 case neg=>
  rw[kb a8];exact⟨⟨⟨GF,GF⟩,Q.trans d,d.get gA,x9,cp,b8,w9,a1.le GF,d.get V,b1⟩,hd⟩
 rw[ka a8];have c9:=G.len;obtain⟨ga,c8,b2⟩:=G.at (i:=i.toNat) GF;have dl:=wf_i64 (G.wf _ (Eu (show i.toNat<g.length by omega)));refine⟨ga,c8,⟨hi.1,a8⟩,_,(Q.trans d).hat b2,λd9 d2 b0 Y=>?_⟩;have au:=Eh Y;have bB:=aK b0 Y;have J:=d.trans au;have cC:d9=bj.size:=b0;have cO:=d.size;have cI:=aS V;generalize g[i.toNat]=X at*;have m1: -4<tmod X 4/\tmod X 4<4:=⟨by have:=Int.lt_tmod_of_pos X (show(0:Int)<4 by decide);omega,Int.tmod_lt_of_pos X GG⟩;rw[n5 (n:=tmod X 4+4) GF];have m2:0<=tmod (tmod X 4+4) 4/\tmod (tmod X 4+4) 4<4:=⟨Int.tmod_nonneg _ GF,Int.tmod_lt_of_pos _ GG⟩;generalize tmod (tmod X 4+4) 4=kk at*;rw[n5 (n:=kk+1) GF];have hT:BT (if 3<kk+1 then 3 else kk+1):=by unfold BT;split<;>omega
 refine gc (Ae (a1.ext au) GF (J.get V) ⟨K.1,b1,K.2.2⟩ bB ⟨λh=>by have:=a1.live.lt h;omega,GF⟩ (by unfold BT;omega) hT) ?_;rintro _ d3 ⟨⟨e,rfl⟩,x',co,b7,w',bl,bC,aT,aw⟩;refine⟨_,rfl,⟨⟨GF,GF⟩,(Q.trans J).fr_trans aw (λj hj=>?_),aw.get (λh=>?_) (J.get gA),x',co,b7,w',bl.le GF,bC,aT⟩,hd⟩
 ·rcases EH.1 hj with h | h
  ·have:=L4.young j h;omega
  ·simp at h;subst h;omega
 ·rcases EH.1 h with h | h
  ·exact c5 h
  ·simp at h;exact aX h.symm
end Go.Proofs.YtillhdiiglamhaaGreatDoor
namespace Go.Proofs.YtillhdiiglamhaaGreatDoor
open Go Go.Proofs.Tryz
open Go.ChangeShapes Go.WideShapes Go.ChangeAt Go.RowKit
set_option maxRecDepth 100000 in
theorem pL{os:Os}(l:os.Started){H:Type}{enc:TypeId×Value->H}{f:FuncId}{fn:Func}{s:ChangeSpec}{tb:TypeId}{d:List (String×DataW Unit)}
  (n:Tryz.checked.prog.inits.idxOf? f=none) (I:prog.funcs[f]?=some fn)
  (m: ∃(w:World) (a:Tape) (i:Input),w.os=os/\(w.forCall a i).Shaped Tryz.checked.prog/\i.vars=[]/\Input.okWide Tryz.checked.prog (w.forCall a i) .any w.heap.size f i/\
   ((s.pre enc Tryz.checked.prog fn [] false (w.forCall a i).memory i.args/\laidMetH prog d (w.forCall a i).memory)/\sizedMet enc Tryz.checked.prog fn (OpenSpec.ofChange s) false (w.forCall a i).memory i.args)/\Assume.holds {} Tryz.checked.prog (lone (Frame.enter Tryz.checked.prog f i.args .normal) [] (w.forCall a i)))
  (c:s.vars=[]) (x:(fn.params.toList.all λt=>prog.readableRec t && decide (t<prog.types.size))=true) (K:fn.resultTypes= #[tb]) (o:prog.underlying tb=some .bool)
  (r: ∀b:List (DataW H),b.length=fn.params.size->s.fn H b={results:=[.lit (.bool true)],args:=b})
  (D: ∀(W:World) (k:Nat) (args:Array Value) (b:List (DataW H)) (p:List MemPlace),laidMetH prog d W->
   (∀(j:Nat) t v,fn.params[j]?=some t->args[j]?=some v->Value.okWide prog W .any k t v)->
   DataW.TrodAll enc prog W 0 (λ_=>true) true fn.params.toList args.toList b p->
   (DataW.weightsEach prog fn.params.toList b).all (· <=reachBytes)=true->
   HC prog f args W.heap (λv Q=>v=VT/\Ext W.heap Q)):
  ReturnsInHanded {} Tryz.checked os f .any (λw args=>(s.pre enc prog fn [] false w args/\laidMetH prog d w)/\sizedMet enc prog fn (OpenSpec.ofChange s) false w args) (s.post enc prog fn false true false false):=by
 refine returnsInHanded_of_change_and (C:=Tryz.checked) (X:=λw _=>laidMetH prog d w) (λ_ _ _ U h=>h.of_heap U) zN l n I m ?_;intro W k args b F E A O _ y S _;have G:=O;obtain⟨p,q,M,N,rfl,_,_⟩:=O
 have J:F=[]:=by
  rw[c]at N
  cases F with
  | nil=>rfl
  | cons g F=>exact N.elim
 subst J
 have u:b.length=fn.params.size:=by
  have: ∀(B:List TypeId) (vs:List Value) (b:List (DataW H)) (ps:List MemPlace),DataW.TrodAll enc prog W 0 (λ_=>true) true B vs b ps->b.length=B.length:=by
   intro B
   induction B with
   | nil=>intro vs b ps h;cases vs<;>cases b<;>first | rfl | exact h.elim
   | cons t B Z=>intro vs b ps h;cases vs<;>cases b<;>first | exact h.elim | (obtain⟨p,q,_,R,_⟩:=h;simp[Z _ _ _ R])
  simpa using this _ _ _ _ M
 have z:(DataW.weightsEach prog fn.params.toList b).all (· <=reachBytes)=true:=by
  have e:s.plain.varTypes prog=[]:=by unfold ChangeSpec.plain DataSpec.varTypes;simp[c]
  rw[E9]at y;have:=y;rw[show fn.params.toList++s.plain.varTypes Tryz.checked.prog=fn.params.toList by rw[show s.plain.varTypes Tryz.checked.prog=[]from e,E9]]at this;exact this
 refine(D W k args b p S A M z W rfl).mono λe W' ⟨v,T,L,Y,P⟩=>?_;subst Y;refine⟨_,T,yT laidOut c (λt V=>?_) K o (r b u) G ⟨L.os,L.tape,L.output,P.size,P.old⟩⟩;have:=F3.1 x t V;rw[EF]at this;exact⟨this.1,Gv this.2⟩
