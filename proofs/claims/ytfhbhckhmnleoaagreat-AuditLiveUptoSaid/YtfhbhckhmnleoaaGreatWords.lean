/-
 A heap of a law's own: what is made on it. Proves nothing of any one statement.
-/
import Derived.Test.YtfhbhckhmnleoaaGreatPair
import Derived.Test.YtfhbhckhmnleoaaGreatFword
import Derived.Laws.RangeAny
import Derived.Shelf.SlSortCmp.NoneTotal
import Derived.Test.YtfhbhckhmnleoaaGreatFref01
set_option linter.unusedVariables false
set_option linter.unusedSimpArgs false
namespace Go.Proofs.YtfhbhckhmnleoaaGreat
open Go
variable{d:Blk}{i:Hp}{H o:zV}{j r u:Int}{k:Mem}
theorem View.inv{a:zW}(V:View H a (some (d,i))):a=some ⟨d.h,0,none⟩/\HpAt H d i/\SpOK i.sp:=by
 cases V with
 | real h b=>exact⟨rfl,h,b⟩
structure Live (H0 H:zV) (b:Blk) (x:Hp):Prop where
 at':HpAt H b x
 ok:SpOK x.sp
 ext:Ext H0 H
 young: ∀i,i∈b.all->H0.size<=i
theorem Live.view(h:Live H o d i):View o (some ⟨d.h,0,none⟩) (some (d,i)):=.real h.at' h.ok
theorem Live.grow{a:zV}(h:Live H o d i)(e:Ext o a):Live H a d i:=⟨h.at'.ext e,h.ok,h.ext.trans e,h.young⟩
theorem Live.step{d H a:zV}{b:Blk}{x e:Hp}(h:Live d H b x)(V:View a (some ⟨b.h,0,none⟩) (some (b,e)))(f:Fr (own (some (b,x))) H a):Live d a b e:=by
 obtain⟨_,g,c⟩:=V.inv
 exact⟨g,c,h.ext.fr_trans f (λi j=>h.young i (by simp[own]at j;simp[Blk.all];omega)),h.young⟩
theorem Live.others(f:Fr (own (some (d,i))) H o):Fr d.all H o:=f.mono (λb a _=>by simp[own]at a;simp[Blk.all];omega)
theorem Live.n64(h:Live H o d i)(k:Nat):(i.sp.mem.seg k).n<=64:=(h.ok.mem.seg k).n.2
def Mem.Even(m:Mem):Prop:= ∀k,(m.seg k).kind<=1->(m.seg k).n % 2=0
theorem tZ(a:Nat):(Mem.fresh a).Even:=λ_ _=>rfl
theorem bG.even{m a:Mem}(h:bG m a)(b:m.Even):a.Even:=λk hk=>by
 rw[(h.seg k).2.2.1];exact b k (by rw[<-(h.seg k).2.1];exact hk)
theorem Mem.Even.store{m:Mem}(h:m.Even)(a w:Int):(m.store a w).1.Even:=λk hk=>by
 rw[(Dh k).2.2];exact h k (by rw[<-(Dh k).2.1];exact hk)
theorem Grown.even{m g:Mem}{k:Int}(a:Grown m g j r u k)(d:m.Even)(hn:k<=1->r % 2=0):g.Even/\(k<=1->j % 2=0):=by
 obtain⟨o,p,q⟩:=a.addr
 have c:k<=1->j % 64 % 2=0:=λhk=>by
  by_cases f:(m.seg (j / 64).toNat).taken=0
  ·rw[a.fresh f];rfl
  ·obtain⟨_,l,n,_⟩:=a.old f
   rw[<-n];exact d _ (by rw[l];exact hk)
 refine⟨λs b=>?_,λhk=>by have:=c hk;omega⟩
 by_cases e:s=(j / 64).toNat
 ·subst e
  obtain⟨_,_,h,i⟩:=a.new
  rw[h]at b
  have:=c b
  have:=hn b
  rw[i];omega
 ·rw[a.others s e]at b⊢;exact d s b
structure Pr (m:Mem) (w tag a d:Int):Prop where
 word:aD w
 istag:tag=1\/tag=2
 at':m.atW w tag (tag-1)
 even:w / 8 % 2=0
 used:m.used (w / 8+1)
 car:m.get (w / 8)=a
 cdr:m.get (w / 8+1)=d
theorem Pr.isPair{m:Mem}{d:Int}(h:Pr m j r u d):m.isPair j:=by
 refine⟨?_,h.even⟩
 rcases h.istag with e | e
 ·have:=h.at';rw[e]at this;exact .inl this
 ·have:=h.at';rw[e]at this;exact .inr this
theorem kE.notPair{b:List Int}(h:kE k j r u b): ¬k.isPair j:=λa=>by
 have c:=h.obj.1.2.1
 rcases a.1 with a | a<;>have:=a.2.1<;>omega
theorem Pr.size{w b a d:Int}(h:Pr k w b a d):k.sizeOf w=2:=by unfold Mem.sizeOf;rw[qB h.isPair]
theorem kE.size{w a b:Int}{ws:List Int}(h:kE k w a b ws):k.sizeOf w=ws.length+1:=by
 unfold Mem.sizeOf;rw[za h.notPair,qB h.obj,h.len]
theorem Pr.keep{m c:Mem}{w b a d:Int}(h:Pr m w b a d)(k:Keep m c):Pr c w b a d:=by
 obtain⟨e,f,g,_,_⟩:=k.used _ (h.at'.used h.word)
 obtain⟨i,j,_⟩:=k.used _ h.used
 exact⟨h.word,h.istag,⟨h.at'.1,h.at'.2.1,e.2.1,by rw[g];exact h.at'.2.2.2.1,e.2.2⟩,h.even,i,by rw[f];exact h.car,by rw[j];exact h.cdr⟩
theorem Pr.set{m:Mem}{w b a d v:Int}(h:Pr m w b a d)(i:bD m)(c:j=0\/j=1):Pr (m.store (w / 8+j) v).1 w b (if j=0 then v else a) (if j=0 then d else v):=by
 have g:0<=w / 8:=by have:=h.word.1;omega
 have e:=h.at'.used h.word
 have f:m.used (w / 8+j):=by
  rcases c with rfl | rfl
  ·rw[Int.add_zero];exact e
  ·exact h.used
 refine⟨h.word,h.istag,⟨h.at'.1,h.at'.2.1,Mem.store_has.2 h.at'.2.2.1,by rw[(Dh _).2.1];exact h.at'.2.2.2.1,by rw[(Dh _).2.2];exact h.at'.2.2.2.2⟩,h.even,Dx.2 h.used,?_,?_⟩
 ·rw[DI f _ g]
  rcases c with rfl | rfl
  ·rw[qB (by omega),qB rfl]
  ·rw[za (by omega),za (by decide)];exact h.car
 ·rw[DI f _ (by omega)]
  rcases c with rfl | rfl
  ·rw[za (by omega),qB rfl];exact h.cdr
  ·rw[qB rfl,za (by decide)]
variable{H u:zV}{j:Blk}{k v:Int}{o:Hp}{r:Nat->Bool}{z:Sp}
structure Tr where
 tgt:Int
 old:Nat->Bool
 frm:List (Int×Value)
 seen:List (Int×Value)
 cards:List (Int×Int)
 over:Bool
variable{i:Tr}
structure TB where
 t:Nat
 f:Nat
 s:Nat
 cB:zW
 cN:Nat
 cC:Nat
variable{d:TB}
def TB.all(q:TB):List Nat:=q.t::q.f::q.s::kd q.cB
def eP(l:List (Int×Int)):List Value:=l.flatMap λc=> [vi c.1,vi c.2]
structure TrAt (H:zV) (b:Blk) (q:TB) (t:Tr):Prop where
 tr: ∃cs:Array Value,H[q.t]?=some (.cells cs 106 (0,0))/\cs.size=1030/\cs[0]?=some (vp (some ⟨b.h,0,none⟩))/\cs[1]?=some (vi t.tgt)/\(∀k,k<1024->cs[2+k]?=some (vi (if t.old k then 1 else 0)))/\cs[1026]?=some (.map (some q.f))/\cs[1027]?=some (.map (some q.s))/\cs[1028]?=some (vs q.cB q.cN q.cC)/\cs[1029]?=some (vi (if t.over then 1 else 0))
 frm: ∃(es:Array MapEntry) (cl:Nat),H[q.f]?=some (.map es cl)/\vb (aY .i64) es.toList t.frm
 seen: ∃(es:Array MapEntry) (cl:Nat),H[q.s]?=some (.map es cl)/\vb (aY .i64) es.toList t.seen
 cards:dO H q.cB (eP t.cards)
 cB: ∀a,q.cB=some a->a.block<H.size
 clen:q.cN=t.cards.length/\q.cN<=4096
 ne:q.t≠q.f/\q.t≠q.s/\q.f≠q.s/\ ∀i∈kd q.cB,i≠q.t/\i≠q.f/\i≠q.s
theorem TrAt.lt{b:Blk}{t:Tr}(h:TrAt H b d t): ∀i,i∈d.all->i<H.size:=by
 intro i c
 obtain⟨q,j,_⟩:=h.tr
 obtain⟨r,p,k,_⟩:=h.frm
 obtain⟨g,f,l,_⟩:=h.seen
 have m:=aS j
 have n:=aS k
 have o:=aS l
 simp only[TB.all,CR]at c
 rcases c with rfl | rfl | rfl | c
 ·exact m
 ·exact n
 ·exact o
 ·cases e:d.cB with
  | none=>rw[e]at c;simp at c
  | some a=>rw[e]at c;simp at c;rw[c];exact h.cB a e
theorem TrAt.keep{S:List Nat}{t:Tr}(h:TrAt H j d t)(f:Fr S H u)(c: ∀i,i∈S->i ∉ d.all):TrAt u j d t:=by
 obtain⟨p,r,x⟩:=h.tr
 obtain⟨q,o,s,m⟩:=h.frm
 obtain⟨k,g,v,n⟩:=h.seen
 refine⟨⟨p,f.get (λb=>c _ b (by simp[TB.all])) r,x⟩,⟨q,o,f.get (λb=>c _ b (by simp[TB.all])) s,m⟩,⟨k,g,f.get (λb=>c _ b (by simp[TB.all])) v,n⟩,?_,λa w=>DJ (h.cB a w) f.size,h.clen,h.ne⟩
 have e:=h.cards
 cases l:d.cB with
 | none=>rw[l]at e;exact e
 | some a=>
  rw[l]at e
  exact f.rowAt (λb=>c _ b (by simp[TB.all,l])) e
theorem TrAt.ext{b:Blk}(h:TrAt H b d i)(e:Ext H u):TrAt u b d i:=h.keep (S:=[]) e.fr (by simp)
theorem TrAt.hPtr(h:TrAt H j d i):hat H ⟨d.t,0,none⟩=some (vp (some ⟨j.h,0,none⟩)):=by
 obtain⟨c,b,_,a,_⟩:=h.tr
 rw[aI b,a]
theorem TrAt.tgtAt(h:TrAt H j d i):hat H ⟨d.t,1,none⟩=some (vi i.tgt):=by
 obtain⟨c,b,_,_,a,_⟩:=h.tr
 rw[aI b,a]
theorem TrAt.oldAt(h:TrAt H j d i){k:Nat}(hk:k<1024):hat H ⟨d.t,2+k,none⟩=some (vi (if i.old k then 1 else 0)):=by
 obtain⟨c,b,_,_,_,a,_⟩:=h.tr
 rw[aI b,a k hk]
theorem TrAt.fAt{H:zV}(h:TrAt H j d i):hat H ⟨d.t,1026,none⟩=some (.map (some d.f)):=by
 obtain⟨c,b,_,_,_,_,a,_⟩:=h.tr
 rw[aI b,a]
theorem TrAt.sAt(h:TrAt H j d i):hat H ⟨d.t,1027,none⟩=some (.map (some d.s)):=by
 obtain⟨c,b,_,_,_,_,_,a,_⟩:=h.tr
 rw[aI b,a]
theorem TrAt.cAt(h:TrAt H j d i):hat H ⟨d.t,1028,none⟩=some (vs d.cB d.cN d.cC):=by
 obtain⟨c,b,_,_,_,_,_,_,a,_⟩:=h.tr
 rw[aI b,a]
theorem TrAt.oAt(h:TrAt H j d i):hat H ⟨d.t,1029,none⟩=some (vi (if i.over then 1 else 0)):=by
 obtain⟨c,b,_,_,_,_,_,_,_,a⟩:=h.tr
 rw[aI b,a]
structure Tc (H:zV) (b:Blk) (x:Hp) (q:TB) (t:Tr):Prop where
 hp:HpAt H b x
 ok:SpOK x.sp
 tr:TrAt H b q t
 apart: ∀i,i∈q.all->i ∉ b.all
theorem Tc.ext{b:Blk}(h:Tc H b o d i)(e:Ext H u):Tc u b o d i:=⟨h.hp.ext e,h.ok,h.tr.ext e,h.apart⟩
theorem Tc.keep{S:List Nat}{x:Hp}{t:Tr}(h:Tc H j x d t)(f:Fr S H u)(a: ∀i,i∈S->i ∉ j.all)(b: ∀i,i∈S->i ∉ d.all):Tc u j x d t:=⟨h.hp.keep f a,h.ok,h.tr.keep f b,h.apart⟩
theorem Tc.view(h:Tc H j o d i):View H (some ⟨j.h,0,none⟩) (some (j,o)):=.real h.hp h.ok
theorem Tc.step{S:List Nat}{H a:zV}{b:Blk}{x c:Hp}{q:TB}{t:Tr}(h:Tc H b x q t)(f:Fr S H a)(d: ∀i,i∈S->i∈b.all)(g:HpAt a b c)(k:SpOK c.sp):Tc a b c q t:=
 ⟨g,k,h.tr.keep f (λi e j=>h.apart i j (d i e)),h.apart⟩
abbrev y9(b:Blk):List Nat:=[b.sp,b.m,b.s]
theorem jO{i:Nat}(h:i∈y9 j):i∈j.all:=by simp[y9]at h;simp[Blk.all];omega
theorem Tc.withMem{S:List Nat}{m:Mem}(h:Tc H j o d i)(f:Fr S H u)(a: ∀e,e∈S->e=j.m\/e=j.s)(hm:cS u j.m j.s m)(c:SpOK {o.sp with mem:=m}):Tc u j {o with sp:={o.sp with mem:=m}} d i:=
 h.step f (λe b=>by rcases a e b with rfl | rfl<;>simp[Blk.all]) (h.hp.withMem f a hm) c
theorem Tc.s1{x:Hp}(h:Tc H j x d i):hat H ⟨d.t,0,none⟩=some (vp (some ⟨j.h,0,none⟩))/\hat H ⟨j.h,0,none⟩=some (vp (some ⟨j.c,0,none⟩))/\hat H ⟨j.c,0,none⟩=some (vp (some ⟨j.sp,0,none⟩))/\hat H ⟨j.sp,0,none⟩=some (vp (some ⟨j.m,0,none⟩)):=
 ⟨h.tr.hPtr,h.hp.hPtr,h.hp.cd.cPtr,h.hp.cd.sp.memPtr⟩
theorem k8(T:Tc H j o d i):bM.C (some ⟨d.t,0,none⟩) H (λv a=>v=.bool i.over/\a=H):=by
 refine HC.via λR b=>bM.link ?_
 unfold bM.pt
 rw[CK]
 refine⟨_,T.tr.hPtr,?_⟩
 rw[CK]
 refine⟨_,by rw[CH];exact T.tr.oAt,b _ _ ⟨?_,rfl⟩⟩
 cases i.over<;>rfl
def aO(old:Nat->Bool)(w:Int):Prop:=gM w/\w % 8≠6/\old (w / 8 / 64).toNat=true
instance (old:Nat->Bool) (w:Int):Decidable (aO old w):=by unfold aO;infer_instance
theorem pX(w:Int): ∃(a:Int) (p:Bool),(if(w % 8=1\/w % 8=2\/w % 8=3\/w % 8=6)/\w / 8<65536 then Value.tuple #[vi (w / 8),VT]else .tuple #[vi 0,VF])=.tuple #[vi a,.bool p]/\((gM w/\p=true/\a=w / 8)\/(¬gM w/\p=false/\a=0)):=by
 by_cases b:(w % 8=1\/w % 8=2\/w % 8=3\/w % 8=6)/\w / 8<65536
 ·rw[qB b];exact⟨_,_,rfl,.inl ⟨b,rfl,rfl⟩⟩
 ·rw[za b];exact⟨_,_,rfl,.inr ⟨b,rfl,rfl⟩⟩
theorem pY(T:Tc H j o d i)(r:aD k):
  dJ.C (some ⟨d.t,0,none⟩) k H (λv c=>v=.bool (decide (i.over=false/\aO i.old k))/\Ext H c):=by
 refine HC.via λR t=>dJ.link ?_
 unfold dJ.pt zY
 refine HC.mono (jW r) ?_
 rintro _ z ⟨rfl,b⟩
 obtain⟨a,p,x,w⟩:=pX k
 refine⟨a,p,x,?_⟩
 refine HC.mono (k8 (T.ext b)) ?_
 rintro _ A ⟨rfl,rfl⟩
 refine⟨_,rfl,?_⟩
 have no: ∀c,¬(i.over=false/\aO i.old k)->Ext H c->R VF c:=λc hn e=>t _ _ ⟨by rw[zQ hn],e⟩
 by_cases l:i.over=true
 ·rw[qB l];exact no _ (λh=>by rw[l]at h;cases h.1) b
 rw[za l]
 rcases w with⟨g,rfl,rfl⟩ | ⟨g,rfl,rfl⟩
 case inr=>rw[za (by decide)];exact no _ (λh=>g h.2.1) b
 rw[qB rfl]
 refine HC.mono (fZ r) ?_
 rintro _ B ⟨rfl,q⟩
 refine⟨_,rfl,?_⟩
 by_cases f:k % 8=6
 ·rw[qB f];exact no _ (λh=>h.2.2.1 f) (b.trans q)
 rw[za f]
 have y:k / 8<65536:=g.2
 have s:0<=k / 8:=by have:=r.1;omega
 rw[jw s,xT (n:=k / 8 / 64) (by omega)]
 have u:=T.ext (b.trans q)
 refine⟨_,rfl,⟨by omega,by omega⟩,(if i.old (k / 8 / 64).toNat then 1 else 0),?_,t _ _ ⟨?_,b.trans q⟩⟩
 ·rw[CH,CH,CQ,Dd];exact u.tr.oldAt (by omega)
 ·congr 1
  by_cases m:i.old (k / 8 / 64).toNat=true
  ·rw[qB m,zX ⟨by simpa using l,g,f,m⟩];rfl
  ·rw[za m,zQ (λh=>m h.2.2.2)];rfl
def Mem.fwd(m:Mem)(w:Int):Option Int:=if m.used (w / 8)/\gM (m.get (w / 8))/\m.get (w / 8) % 8=6 then some (m.get (w / 8) / 8*8+w % 8)else none
theorem pZ(T:Tc H j o d i)(w:aD k)(s:gM k):
  cY.C (some ⟨d.t,0,none⟩) k H (λv l=>v=.tuple #[vu ((o.sp.mem.fwd k).getD k),.bool (o.sp.mem.fwd k).isSome]/\Ext H l):=by
 refine HC.via λR y=>cY.link ?_
 unfold cY.pt
 refine HC.mono (jW w) ?_
 rintro _ O ⟨rfl,m⟩
 rw[qB (show(k % 8=1\/k % 8=2\/k % 8=3\/k % 8=6)/\k / 8<65536 from s)]
 have r:=T.ext m
 obtain⟨K,L,M,N⟩:=r.s1
 refine⟨_,_,rfl,_,rfl,_,K,_,rfl,_,L,_,rfl,_,M,_,rfl,_,N,?_⟩
 have J:k / 8<65536:=s.2
 have I:0<=k / 8:=by have:=w.1;omega
 refine HC.mono (jX r.hp.cd.sp.mem r.ok.mem (by omega)) ?_
 rintro _ P ⟨rfl,rfl⟩
 have f: ∃(g e:Int),(if o.sp.mem.used (k / 8)then Value.tuple #[vu (o.sp.mem.get (k / 8)),vi 0]else .tuple #[vu 0,vi 18])=.tuple #[vu g,vi e]/\aD g/\((o.sp.mem.used (k / 8)/\g=o.sp.mem.get (k / 8)/\e=0)\/(¬o.sp.mem.used (k / 8)/\g=0/\e=18)):=by
  by_cases b:o.sp.mem.used (k / 8)
  ·rw[qB b];exact⟨_,_,rfl,(T.ok.mem.seg _).words _,.inl ⟨b,rfl,rfl⟩⟩
  ·rw[za b];exact⟨_,_,rfl,by decide,.inr ⟨b,rfl,rfl⟩⟩
 obtain⟨g,e,u,c,B⟩:=f
 refine⟨g,e,u,?_⟩
 refine HC.mono (jW c) ?_
 rintro _ Q ⟨rfl,n⟩
 obtain⟨a,p,G,t⟩:=pX g
 refine⟨a,p,G,?_⟩
 have no: ∀l,¬(o.sp.mem.used (k / 8)/\gM (o.sp.mem.get (k / 8))/\o.sp.mem.get (k / 8) % 8=6)->Ext H l->R (.tuple #[vu k,VF]) l:=λl hn e=>y _ _ ⟨by unfold Mem.fwd;rw[za hn];rfl,e⟩
 rcases B with⟨b,rfl,rfl⟩ | ⟨b,rfl,rfl⟩
 case inr=>rw[za (by decide)];exact no _ (λh=>b h.1) (m.trans n)
 rw[qB rfl]
 rcases t with⟨f,rfl,rfl⟩ | ⟨f,rfl,rfl⟩
 case inr=>rw[za (by decide)];exact no _ (λh=>f h.2.1) (m.trans n)
 rw[qB rfl]
 refine HC.mono (fZ c) ?_
 rintro _ S ⟨rfl,x⟩
 refine⟨_,rfl,?_⟩
 by_cases q:o.sp.mem.get (k / 8) % 8=6
 case neg=>rw[za q];exact no _ (λh=>q h.2.2) ((m.trans n).trans x)
 rw[qB q]
 refine HC.mono (fZ w) ?_
 rintro _ U ⟨rfl,z⟩
 refine⟨_,rfl,?_⟩
 have E:o.sp.mem.get (k / 8) / 8<65536:=f.2
 have D:=c.1
 refine HC.mono (lG (by omega) (by omega)) ?_
 rintro _ V ⟨rfl,A⟩
 rw[za (λF=>F s.1),qB (by omega)]
 refine⟨_,_,rfl,y _ _ ⟨?_,((((m.trans n).trans x).trans z).trans A)⟩⟩
 unfold Mem.fwd
 rw[qB ⟨b,f,q⟩];rfl
theorem kP(T:Tc H j o d i)(e:aD k):
  bK.C (some ⟨d.t,0,none⟩) k H (λv f=>v=.bool (decide (¬(i.over=false/\aO i.old k)) || (o.sp.mem.fwd k).isSome)/\Ext H f):=by
 refine HC.via λR c=>bK.link ?_
 unfold bK.pt
 refine HC.mono (pY T e) ?_
 rintro _ l ⟨rfl,b⟩
 refine⟨_,rfl,?_⟩
 by_cases a:i.over=false/\aO i.old k
 ·rw[qB (zX a)]
  refine HC.mono (pZ (T.ext b) e a.2.1) ?_
  rintro _ m ⟨rfl,g⟩
  refine⟨_,_,rfl,c _ _ ⟨?_,b.trans g⟩⟩
  rw[zQ (λh=>h a),Bool.false_or]
 ·rw[za (by simpa using a)]
  exact c _ _ ⟨by rw[zX a,Bool.true_or],b⟩
def Mem.row(m:Mem)(a:Int)(n:Nat):List Int:=(List.range n).map λi:Nat=>m.get (a+(i:Int))
theorem Mem.row_len(m:Mem)(a:Int)(n:Nat):(m.row a n).length=n:=by simp[Mem.row]
theorem Mem.row_get(m:Mem)(a:Int){n i:Nat}(h:i<n):(m.row a n)[i]'(by rw[Mem.row_len];exact h)=m.get (a+i):=by simp[Mem.row]
theorem Mem.row_take(m:Mem)(a:Int){n i:Nat}(h:i<n):(m.row a n).take (i+1)=(m.row a n).take i++[m.get (a+i)]:=by
 rw[Db (by rw[Mem.row_len];exact h),Mem.row_get m a h]
def Mem.kindOf(m:Mem)(w:Int):Int:=(m.seg (w / 8 / 64).toNat).kind
def Sp.moved(m:Mem)(w:Int)(r:Sp×Int×Int):Sp:={r.1 with mem:=(r.1.mem.sets r.2.1 (m.row (w / 8) (m.sizeOf w).toNat)).set (w / 8) (r.2.1*8+6)}
def Sp.visit(s:Sp)(old:Nat->Bool)(T w:Int):Sp×Int:=
 if ¬aO old w then(s,w)
 else match s.mem.fwd w with
  | some v=>(s,v)
  | none=>
   if s.mem.sizeOf w=0 then(s,w)
   else if(s.alloc T (s.mem.kindOf w) (s.mem.sizeOf w)).2.2=0 then
    (Sp.moved s.mem w (s.alloc T (s.mem.kindOf w) (s.mem.sizeOf w)),(s.alloc T (s.mem.kindOf w) (s.mem.sizeOf w)).2.1*8+w % 8)
   else(s,w)
theorem Sp.visit_no(h: ¬aO r v):z.visit r k v=(z,v):=by unfold Sp.visit;rw[qB h]
theorem Ea:type_of% @Sp.visit_no:=@Sp.visit_no
theorem Sp.visit_fwd{s:Sp}{T w v:Int}(h:aO r w)(a:s.mem.fwd w=some v):s.visit r T w=(s,v):=by unfold Sp.visit;rw[za (λb=>b h),a]
theorem Sp.visit_0(h:aO r v)(b:z.mem.fwd v=none)(a:z.mem.sizeOf v=0):z.visit r k v=(z,v):=by unfold Sp.visit;rw[za (λc=>c h),b];simp only[];rw[qB a]
theorem Sp.visit_full(h:aO r v)(c:z.mem.fwd v=none)(a:z.mem.sizeOf v≠0)(b:(z.alloc k (z.mem.kindOf v) (z.mem.sizeOf v)).2.2≠0):z.visit r k v=(z,v):=by unfold Sp.visit;rw[za (λd=>d h),c];simp only[];rw[za a,za b]
theorem Sp.visit_go{T w:Int}(h:aO r w)(c:z.mem.fwd w=none)(a:z.mem.sizeOf w≠0)(b:(z.alloc T (z.mem.kindOf w) (z.mem.sizeOf w)).2.2=0):
  z.visit r T w=(Sp.moved z.mem w (z.alloc T (z.mem.kindOf w) (z.mem.sizeOf w)),(z.alloc T (z.mem.kindOf w) (z.mem.sizeOf w)).2.1*8+w % 8):=by unfold Sp.visit;rw[za (λd=>d h),c];simp only[];rw[za a,qB b]
theorem Mem.size_used{m:Mem}(l:bD m)(p:m.Even)(u:aD k)(h:m.sizeOf k≠0):0<m.sizeOf k/\m.sizeOf k<=63/\(∀i:Nat,(i:Int)<m.sizeOf k->m.used (k / 8+i))/\k / 8 % 64+m.sizeOf k<=64/\0<=k / 8/\m.has (k / 8 / 64):=by
 unfold Mem.sizeOf at*
 have o:0<=k / 8:=by have:=u.1;omega
 by_cases d:m.isPair k
 ·rw[qB d]at h⊢
  have f:m.has (k / 8 / 64)/\(m.seg (k / 8 / 64).toNat).kind<=1/\k / 8 % 64< (m.seg (k / 8 / 64).toNat).n:=by
   rcases d.1 with q | q
   ·exact⟨q.2.2.1,by rw[q.2.2.2.1];decide,q.2.2.2.2⟩
   ·exact⟨q.2.2.1,by rw[q.2.2.2.1];decide,q.2.2.2.2⟩
  have r:=p _ f.2.1
  have v:=d.2
  have hn:=(l.seg (k / 8 / 64).toNat).n
  refine⟨by decide,by decide,λi s=>?_,by omega,o,f.1⟩
  have c:(k / 8+i) / 64=k / 8 / 64:=by omega
  have e:(k / 8+i) % 64=k / 8 % 64+i:=by omega
  exact⟨by omega,by rw[c];exact f.1,by rw[c,e];omega⟩
 ·rw[za d]at h⊢
  by_cases b:m.isObj k
  ·rw[qB b]at h⊢
   have w:=b.len_lt
   have g:m.len k=hn (m.get (k / 8)):=by unfold Mem.len;rw[qB b]
   have t:=b.2.2
   have j:=(l.seg (k / 8 / 64).toNat).n
   have a:=b.1.2.2.1
   rw[g]
   refine⟨by omega,by omega,λi s=>?_,by omega,o,a⟩
   have c:(k / 8+i) / 64=k / 8 / 64:=by omega
   have e:(k / 8+i) % 64=k / 8 % 64+i:=by omega
   exact⟨by omega,by rw[c];exact a,by rw[c,e];omega⟩
  ·rw[za b]at h;exact absurd rfl h
theorem Grown.not_in{m f:Mem}{o n:Int}(b:Grown m f k n v o){x:Int}(d:m.used x): ¬(k<=x/\x<k+n):=λh=>by
 obtain⟨g,i,j⟩:=b.addr
 have a:x / 64=k / 64:=by omega
 by_cases c:(m.seg (k / 64).toNat).taken=0
 ·have:=d.2.1.2.2;rw[a]at this;exact this c
 ·have l:=(b.old c).2.2.1
  have e:=d.2.2
  rw[a]at e
  omega
theorem Grown.get{m d:Mem}{a g k n:Int}(c:Grown m d a n g k){x:Int}(f:m.used x):d.get x=m.get x:=by
 unfold Mem.get
 by_cases b:(x / 64).toNat=(a / 64).toNat
 ·have e:(m.seg (a / 64).toNat).taken≠0:=by rw[<-b];exact f.2.1.2.2
  rw[b,(c.old e).2.2.2.1]
 ·rw[c.others _ b]
set_option maxRecDepth 100000 in
theorem t7(T:Tc H j o d i)(he:o.sp.mem.Even)(S:aD k)(hc:o.sp.mem.count<4611686018427387904)(az:i.over=false):
  bA.C (some ⟨d.t,0,none⟩) k H (λv t=>v=vu (o.sp.visit i.old i.tgt k).2/\Tc t j {o with sp:=(o.sp.visit i.old i.tgt k).1} d i/\Fr (y9 j) H t):=by
 refine HC.via λR z=>bA.link ?_
 unfold bA.pt zY
 refine HC.mono (pY T S) ?_
 rintro _ H1 ⟨rfl,N⟩
 refine⟨_,rfl,?_⟩
 have q: ∀(v:Int) t,(o.sp.visit i.old i.tgt k)=(o.sp,v)->Ext H t->R (vu v) t:=λv t h e=>by
  rw[h]at z;exact z _ _ ⟨rfl,T.ext e,e.fr⟩
 by_cases l:aO i.old k
 case neg=>
  rw[za (by simp[l])]
  exact q k _ (Ea l) N
 rw[qB (zX ⟨az,l⟩)]
 have T1:=T.ext N
 refine HC.mono (pZ T1 S l.1) ?_
 rintro _ H2 ⟨rfl,e2⟩
 refine⟨_,_,rfl,?_⟩
 have J:=N.trans e2
 cases hf:o.sp.mem.fwd k with
 | some v=>
  rw[qB (show(some v).isSome=true from rfl)]
  exact q v _ (Sp.visit_fwd l hf) J
 | none=>
 rw[za (by simp)]
 have T2:=T.ext J
 refine⟨_,rfl,_,T2.tr.hPtr,?_⟩
 refine HC.mono (kZ T2.view S) ?_
 rintro _ H3 ⟨rfl,e3⟩
 have ay:yP (some (j,o))=o.sp.mem:=rfl
 rw[ay]
 refine⟨_,rfl,?_⟩
 have W:=J.trans e3
 by_cases O:o.sp.mem.sizeOf k=0
 ·rw[qB O];exact q k _ (Sp.visit_0 l hf O) W
 rw[za O]
 obtain⟨n0,bM,hu,ba,w0,A⟩:=Mem.size_used T.ok.mem he S O
 have bK:k / 8<65536:=l.1.2
 refine HC.mono (jW S) ?_
 rintro _ H4 ⟨rfl,e4⟩
 rw[qB (show(k % 8=1\/k % 8=2\/k % 8=3\/k % 8=6)/\k / 8<65536 from l.1)]
 have X:=W.trans e4
 have T4:=T.ext X
 obtain⟨E,F,G,M⟩:=T4.s1
 refine⟨_,_,rfl,_,E,_,rfl,_,F,_,rfl,_,G,_,rfl,_,M,?_⟩
 rw[jw w0,xT (n:=k / 8 / 64) (by omega)]
 refine HC.mono (kY T4.hp.cd.sp.mem) ?_
 rintro _ H5 ⟨rfl,e5⟩
 rw[qB A,zX A]
 have aw:(o.sp.mem.seg (k / 8 / 64).toNat).kind=o.sp.mem.kindOf k:=rfl
 generalize bI:o.sp.mem.seg (k / 8 / 64).toNat=I at*
 refine⟨_,_,_,_,_,_,_,_,rfl,λb1 H6 hb a6=>?_⟩
 obtain⟨ap,hs⟩:=boxed (vs:=[vi I.gen,vi I.kind,vi I.n,vi (I.cards 0),vi (I.cards 1),vi (I.cards 2),vi (I.cards 3)]) (H1:=H6) (aF hb a6) rfl rfl
 refine⟨ap,λH7 ao=>?_⟩
 obtain⟨a9,hE⟩:=hs H7 ao
 have Z:=X.trans e5
 have e7:Ext H H7:=hE H (Z.trans (CI a6)) (by have:=Z.size;omega)
 have V:=T.ext e7
 obtain⟨E,F,G,M⟩:=V.s1
 refine⟨_,E,_,rfl,_,F,_,rfl,_,G,_,by rw[CH];exact V.tr.tgtAt,I.kind,a9.2.1,?_⟩
 rw[aw]
 refine HC.mono (l9 V.hp.cd.sp V.ok hc) ?_
 rintro _ H8 ⟨rfl,aU,f8⟩
 refine⟨_,_,rfl,?_⟩
 have h8:=V.hp.withSp f8 (λcf Q=>by simp at Q;omega) aU
 have w:Fr (y9 j) H H8:=e7.fr.trans f8
 by_cases P:(o.sp.alloc i.tgt (o.sp.mem.kindOf k) (o.sp.mem.sizeOf k)).2.2=0
 case neg=>
  rw[za P]
  have ev:=Sp.visit_full l hf O P
  rw[ev]at z
  rw[Sp.alloc_fail T.ok P]at h8
  exact z _ _ ⟨rfl,T.step w (λcf Q=>jO Q) h8 T.ok,w⟩
 rw[qB P]
 have ev:=Sp.visit_go l hf O P
 rw[ev]at z
 obtain⟨L,c⟩:=DG T.ok P
 unfold Sp.moved at z
 simp only at z
 generalize hn:o.sp.mem.sizeOf k=n at*
 generalize hr:o.sp.alloc i.tgt (o.sp.mem.kindOf k) n=r at*
 obtain⟨f,a,e⟩:=r
 simp only at*
 have bb:=T.ok.mem.lim
 obtain⟨bk,bl,c8⟩:=c.addr
 have bm:a<65536:=by omega
 have ac: ∀v∈o.sp.mem.row (k / 8) n.toNat,aD v:=λv hv=>by
  unfold Mem.row at hv
  obtain⟨cf,_,rfl⟩:=CT.1 hv
  exact(T.ok.mem.seg _).words _
 refine⟨λcf t=>(0<=cf/\cf<=n)/\Tc t j {o with sp:={f with mem:=f.mem.sets a ((o.sp.mem.row (k / 8) n.toNat).take cf.toNat)}} d i/\Fr (y9 j) H t,λcf _=>(n-cf).toNat,⟨by omega,?_,w⟩,?_⟩
 ·rw[show(0:Int).toNat=0 from rfl,List.take_zero]
  exact T.step w (λcf Q=>jO Q) h8 L
 rintro cf H9 ⟨Q,x,f9⟩
 by_cases a7:cf<n
 ·rw[qB a7]
  obtain⟨E,F,G,M⟩:=x.s1
  refine⟨_,E,_,rfl,_,F,_,rfl,_,G,_,rfl,_,M,?_⟩
  rw[xT (n:=k / 8+cf) (by omega)]
  refine HC.mono (jX x.hp.cd.sp.mem x.ok.mem (by omega)) ?_
  rintro _ bd ⟨rfl,rfl⟩
  have K:o.sp.mem.used (k / 8+cf):=by have:=hu cf.toNat (by omega);rw[show((cf.toNat:Nat):Int)=cf by omega]at this;exact this
  have sm:=bG.sets ((o.sp.mem.row (k / 8) n.toNat).take cf.toNat) f.mem a
  have ab:f.mem.used (k / 8+cf):=by
   obtain⟨k1,g,k3⟩:=K
   by_cases b:((k / 8+cf) / 64).toNat=(a / 64).toNat
   ·have ht:(o.sp.mem.seg (a / 64).toNat).taken≠0:=by rw[<-b];exact g.2.2
    obtain⟨o1,o2,o3,o4,o5,o6⟩:=c.old ht
    rw[b,o3]at k3
    exact⟨k1,⟨g.1,by rw[c.limit];exact g.2.1,by rw[b,o6];exact ht⟩,by rw[b,c.new.2.2.2];omega⟩
   ·have p:=c.others _ b
    exact⟨k1,⟨g.1,by rw[c.limit];exact g.2.1,by rw[p];exact g.2.2⟩,by rw[p];exact k3⟩
  have B:(((o.sp.mem.row (k / 8) n.toNat).take cf.toNat).length:Int)=cf:=by rw[Di,Mem.row_len];omega
  have au:(f.mem.sets a ((o.sp.mem.row (k / 8) n.toNat).take cf.toNat)).get (k / 8+cf)=o.sp.mem.get (k / 8+cf):=by
   rw[Mem.sets_get _ _ (by omega) bk (λcg b=>?_),za (by rw[B];have:=c.not_in K;omega),c.get K]
   have b:(cg:Int)<cf:=by omega
   have N:(a+cg) / 64=a / 64:=by omega
   have e2:(a+cg) % 64=a % 64+cg:=by omega
   exact⟨by omega,by rw[N];exact⟨by omega,by rw[c.limit];exact bl,c.new.1⟩,by rw[N,e2,c.new.2.2.2];omega⟩
  rw[qB (sm.used.2 ab),au]
  refine⟨_,_,rfl,_,E,_,rfl,_,F,_,rfl,_,G,_,rfl,_,M,?_⟩
  rw[xT (n:=a+cf) (by omega),xT (n:=cf+1) (by omega)]
  refine HC.mono (iQ x.hp.cd.sp.mem x.ok.mem (by omega)) ?_
  rintro _ U ⟨rfl,a8,a2⟩
  have a3:Fr (y9 j) H U:=f9.trans (a2.mono (λcg b _=>by simp at b;simp[y9];omega))
  have et:(o.sp.mem.row (k / 8) n.toNat).take (cf+1).toNat=(o.sp.mem.row (k / 8) n.toNat).take cf.toNat++[o.sp.mem.get (k / 8+cf)]:=by
   rw[show(cf+1).toNat=cf.toNat+1 by omega,Mem.row_take _ _ (by omega),show((cf.toNat:Nat):Int)=cf by omega]
  have es:f.mem.sets a ((o.sp.mem.row (k / 8) n.toNat).take (cf+1).toNat)=(if(f.mem.sets a ((o.sp.mem.row (k / 8) n.toNat).take cf.toNat)).used (a+cf)then(f.mem.sets a ((o.sp.mem.row (k / 8) n.toNat).take cf.toNat)).set (a+cf) (o.sp.mem.get (k / 8+cf))else f.mem.sets a ((o.sp.mem.row (k / 8) n.toNat).take cf.toNat)):=by
   rw[et,Mem.sets_snoc,B]
  have ax:cS U j.m j.s (f.mem.sets a ((o.sp.mem.row (k / 8) n.toNat).take (cf+1).toNat)):=by rw[es];exact a8
  refine⟨_,rfl,⟨by omega,?_,a3⟩,by show(n-(cf+1)).toNat< (n-cf).toNat;omega⟩
  exact x.withMem (m:=f.mem.sets a ((o.sp.mem.row (k / 8) n.toNat).take (cf+1).toNat)) a2 (λcg b=>by simp at b;omega) ax (L.sets a (λv hv=>ac v (List.mem_of_mem_take hv)))
 ·rw[za a7]
  have av:cf.toNat=n.toNat:=by omega
  rw[av,De (by rw[Mem.row_len];omega)]at x
  refine HC.mono (lG (by omega) (by omega)) ?_
  rintro _ be ⟨rfl,y⟩
  rw[za (by decide),qB (by omega)]
  have u:=x.ext y
  obtain⟨E,F,G,M⟩:=u.s1
  refine⟨_,_,rfl,_,E,_,rfl,_,F,_,rfl,_,G,_,rfl,_,M,?_⟩
  refine HC.mono (iQ u.hp.cd.sp.mem u.ok.mem (by omega)) ?_
  rintro _ aj ⟨rfl,D,a4⟩
  refine⟨_,rfl,?_⟩
  have aV:o.sp.mem.used (k / 8):=by have:=hu 0 (by omega);simpa using this
  have sm:=bG.sets (o.sp.mem.row (k / 8) n.toNat) f.mem a
  have aW:f.mem.used (k / 8):=by
   obtain⟨k1,g,k3⟩:=aV
   by_cases b:(k / 8 / 64).toNat=(a / 64).toNat
   ·have ht:(o.sp.mem.seg (a / 64).toNat).taken≠0:=by rw[<-b];exact g.2.2
    obtain⟨o1,o2,o3,o4,o5,o6⟩:=c.old ht
    rw[b,o3]at k3
    exact⟨k1,⟨g.1,by rw[c.limit];exact g.2.1,by rw[b,o6];exact ht⟩,by rw[b,c.new.2.2.2];omega⟩
   ·have p:=c.others _ b
    exact⟨k1,⟨g.1,by rw[c.limit];exact g.2.1,by rw[p];exact g.2.2⟩,by rw[p];exact k3⟩
  rw[qB (sm.used.2 aW)]at D
  have a5:Fr (y9 j) H aj:=(f9.trans y.fr).trans (a4.mono (λcg b _=>by simp at b;simp[y9];omega))
  have ag:=L.sets a ac
  have b2:SpOK {f with mem:=(f.mem.sets a (o.sp.mem.row (k / 8) n.toNat)).set (k / 8) (a*8+6)}:=ag.withMem (ag.mem.set (k / 8) ⟨by omega,by omega⟩) (λch h=>D6.2 h) (λch=>⟨((bG.set _ _ _).seg ch).1,((bG.set _ _ _).seg ch).2.1⟩)
  have ak:=u.withMem a4 (λcg b=>by simp at b;omega) D b2
  refine HC.mono (fZ S) ?_
  rintro _ bf ⟨rfl,Y⟩
  refine⟨_,rfl,?_⟩
  refine HC.mono (lG (by omega) (by omega)) ?_
  rintro _ bg ⟨rfl,a0⟩
  rw[za (λhh=>hh l.1.1),qB (by omega)]
  have a1:=Y.trans a0
  exact⟨_,_,rfl,z _ _ ⟨rfl,ak.ext a1,a5.trans a1.fr⟩⟩
theorem DL:type_of% @List.append_assoc:=@List.append_assoc
variable{H:zV}{d:TypeId}{i:Nat}{j:Array Value}{k:Addr}{o:List Value}
theorem vR{a:zV}{z:Value}{n b:Nat}(e:b=H.size)(c:a=H.push (.cells (Builtin.zeroCells #[z] n) d)):Own a d 1 (some ⟨b,0,none⟩) n n (List.replicate n z):=by
 refine⟨rfl,_,aF e c,by rw[lL];rfl,CU _,by simp,λj f=>?_⟩
 have:=nj (z:= #[z]) (n:=n) (k:=j) (j:=0) (by omega) (by simp)
 simp only[List.size_toArray,List.length_singleton,Dd,Nat.add_zero]at this
 rw[this,List.getElem?_replicate,qB (by omega)];rfl
theorem Own.put{n c i:Nat}(h:Own H d 1 (some k) n c o)(t:i<n)(v:Value):
  aH H (k.add i) 0 1/\ ∀e,e=aP H (k.add i) [v] 0->Own e d 1 (some k) n c (o.set i v)/\Fr [k.block] H e:=by
 obtain⟨l,g,f,s,hn,r,p⟩:=h
 have m:k.add i=⟨k.block,i,none⟩:=by rw[l];simp
 rw[m]
 refine⟨cR f _ _ _ (by omega),λe a=>?_⟩
 rw[bY _ H g i 0 f]at a
 subst a
 refine⟨⟨l,_,aT (aS f),by rw[DK];exact s,hn,by rw[EB];exact r,λj q=>?_⟩,Fr.set⟩
 rw[List.getElem?_set]
 by_cases b:i=j
 ·subst b
  rw[qB rfl,qB (by omega)]
  have:=fO g [v] (i+0) 0 (by simp;omega) (by simp)
  simpa using this
 ·rw[za b,<-p j q]
  rcases C6 j i with h | h
  ·exact eF _ _ _ _ (by omega)
  ·exact iO _ _ _ _ (by simp;omega)
theorem Own.puts{b n c o:Nat}{l vs:List Value}(h:Own H d b (some k) n c l)(x:o+vs.length<=n*b):
  aH H (k.add o) 0 vs.length/\ ∀f,f=aP H (k.add o) vs 0->Own f d b (some k) n c (l.take o++vs++l.drop (o+vs.length))/\Fr [k.block] H f:=by
 obtain⟨q,m,i,v,hn,w,r⟩:=h
 have u:n*b<=c*b:=DV _ hn
 have t:k.add o=⟨k.block,o,none⟩:=by rw[q];simp
 rw[t]
 refine⟨cR i _ _ _ (by omega),λf a=>?_⟩
 rw[bY _ H m o 0 i]at a
 subst a
 refine⟨⟨q,_,aT (aS i),by rw[DK];exact v,hn,by simp;omega,λj s=>?_⟩,Fr.set⟩
 rw[Nat.add_zero]
 rcases C6 j o with g | g
 ·rw[eF _ _ _ _ g,r j s,DL,List.getElem?_append_left (by simp;omega),List.getElem?_take,qB g]
 rcases C6 j (o+vs.length)with p | p
 ·have e:=fO m vs o (j-o) (by omega) (by omega)
  rw[show o+(j-o)=j by omega]at e
  rw[e,DL,List.getElem?_append_right (by simp;omega),Di,Nat.min_eq_left (by omega),List.getElem?_append_left (by omega)]
 ·rw[iO _ _ _ _ p,r j s,List.getElem?_append_right (by simp;omega),List.getElem?_drop]
  simp only[CV,Di]
  rw[Nat.min_eq_left (by omega)]
  congr 1;omega
theorem Own.part{n c p m:Nat}(h:Own H d i (some k) n c o):aL H (k.add p) 0 ((o.drop p).take m):=by
 refine kL λj v a=>?_
 have b:o[p+j]?=some v:=by
  rw[List.getElem?_take]at a
  split at a
  ·rw[List.getElem?_drop]at a;exact a
  ·cases a
 obtain⟨l,g,e⟩:=h.at b
 cases g
 rw[CQ]
 obtain⟨f,_⟩:=h
 rw[f]at e⊢
 simpa using e
theorem flat_get{α:Type}{f:α->List Value}{b:Nat}(c: ∀a,(f a).length=b): ∀(l:List α) (k r:Nat) (hk:k<l.length),r<b->(l.flatMap f)[k*b+r]?=(f l[k])[r]?
 | [],k,r,hk,hr=>by simp at hk
 | a::l,0,r,hk,hr=>by
  simp only[List.flatMap_cons,Nat.zero_mul,CQ,List.getElem_cons_zero]
  rw[List.getElem?_append_left (by rw[c];exact hr)]
 | a::l,k+1,r,hk,hr=>by
  simp only[List.flatMap_cons,List.getElem_cons_succ]
  rw[List.getElem?_append_right (by rw[c,DX];omega),c,show(k+1)*b+r-b=k*b+r by rw[DX];omega]
  exact flat_get c l k r (by simpa using hk) hr
theorem Own.elem{α:Type}{f:α->List Value}{H:zV}{sz n c:Nat}{p:zW}{l:List α}(h:Own H d sz p n c (l.flatMap f))(i: ∀a,(f a).length=sz)(w:0<sz){k:Nat}(hk:k<l.length):
  ∃a,p=some a/\(∀r v,(f l[k])[r]?=some v->hat H ((a.add (k*sz)).add r)=some v)/\aL H (a.add (k*sz)) 0 (f l[k]):=by
 have q: ∃v,(f l[k])[0]?=some v:=⟨(f l[k])[0]'(by rw[i];exact w),by simp⟩
 obtain⟨A,t⟩:=q
 have u:=flat_get i l k 0 hk w
 rw[t,Nat.add_zero]at u
 obtain⟨a,y,_⟩:=h.at u
 subst y
 have g: ∀r,(a.add (k*sz)).add r=a.add (k*sz+r):=λr=>by rw[h.1];simp
 have x: ∀r v,(f l[k])[r]?=some v->hat H ((a.add (k*sz)).add r)=some v:=λr v m=>by
  have s:r<sz:=by
   rcases C6 r (f l[k]).length with b | b
   ·rw[i]at b;exact b
   ·simp[List.getElem?_eq_none b]at m
  have e:=flat_get i l k r hk s
  rw[m]at e
  obtain⟨z,o,b⟩:=h.at e
  cases o
  rw[g];exact b
 exact⟨a,rfl,x,kL λj v m=>by rw[CQ];exact x j v m⟩
theorem iW(a:Addr)(i j:Nat):(a.add i).add j=a.add (i+j):=by
 by_cases b:i=0<;>by_cases c:j=0<;>simp[Addr.add,b,c,Nat.add_assoc]
theorem getD_at{α:Type}{l:List α}(h:i<l.length)(d:α):l.getD i d=l[i]:=by
 rw[List.getD,List.getElem?_eq_getElem h];rfl
theorem nV(h:j.size=o.length):splice j 0 o=o.toArray:=by
 refine Array.ext_getElem? λi=>?_
 have e:o.toArray[i]?=o[i]?:=by simp
 rw[e]
 rcases C6 i o.length with a | a
 ·have:=fO j o 0 i (by omega) a
  rw[CQ]at this;exact this
 ·rw[List.getElem?_eq_none a,Array.getElem?_eq_none (by rw[DK];omega)]
theorem wX{a:zV}{b n:Nat}{vs:List Value}(h:b=H.size)(f:a=H.push (.cells j d))(hn:j.size=n)(i:vs.length=n):
  aH a ⟨b,0,none⟩ 0 n/\ ∀c,c=aP a ⟨b,0,none⟩ vs 0->c[b]?=some (.cells vs.toArray d (0,0))/\Ext H c:=by
 have g:=aF h f
 refine⟨cR g n 0 0 (by omega),λc e=>?_⟩
 rw[bY vs a j 0 0 g,Nat.add_zero,nV (by omega)]at e
 subst e
 exact⟨aT (aS g),(CI f).set (by omega)⟩
theorem mx(g:H[i]?=some (.cells j d (0,0)))(o:Nat)(v:Value)(c:o<j.size):
  aH H ((Addr.mk i 0 none).add o) 0 1/\ ∀a,a=aP H ((Addr.mk i 0 none).add o) [v] 0->a[i]?=some (.cells (j.setIfInBounds o v) d (0,0))/\Fr [i] H a:=by
 rw[CH,CQ]
 refine⟨cR g 1 o 0 (by omega),λa b=>?_⟩
 rw[bY _ H j o 0 g]at b
 subst b
 exact⟨aT (aS g),Fr.set⟩
theorem fG{a:Nat×Nat}(g:H[i]?=some (.cells j d a))(o:Nat):hat H ((Addr.mk i 0 none).add o)=j[o]?:=by
 rw[CH,CQ];exact aI g
theorem aL.sub{vs us:List Value}(c:Nat)(h:aL H k 0 vs)(e:(vs.drop c).take us.length=us):aL H (k.add c) 0 us:=by
 refine kL λj v a=>?_
 have b:vs[c+j]?=some v:=by
  rw[<-e,List.getElem?_take]at a
  split at a
  ·rw[List.getElem?_drop]at a;exact a
  ·cases a
 have:=gE h (c+j) v b
 rw[iW,CQ]
 rw[CQ]at this;exact this
theorem kl{vs:List Value}{a:Nat×Nat}(g:H[i]?=some (.cells vs.toArray d a)):aL H ⟨i,0,none⟩ 0 vs:=
 eJ g vs 0 0 (λj b=>by simp)
theorem ko{b n:Nat}{vs:List Value}(g:H[b]?=some (.cells j d (0,0)))(hn:j.size=n)(e:vs.length=n):
  aH H ⟨b,0,none⟩ 0 n/\ ∀a,a=aP H ⟨b,0,none⟩ vs 0->a[b]?=some (.cells vs.toArray d (0,0))/\Fr [b] H a:=by
 refine⟨cR g n 0 0 (by omega),λa c=>?_⟩
 rw[bY vs H j 0 0 g,Nat.add_zero,nV (by omega)]at c
 subst c
 exact⟨aT (aS g),Fr.set⟩
theorem nE(a:Addr):a.add 0=a:=by unfold Addr.add;cases a;split<;>simp_all
def ym(o:Option (Blk×Hp)):Option (Blk×Hp):=match o with | none=>none | some (b,x)=>some (b,{x with ep:=IntKind.wrap .u64 (x.ep+1)})
def Ax(o:Option (Blk×Hp)):List Nat:=match o with | none=> [] | some (b,_)=> [b.h]
theorem HpAt.epAt{b:Blk}{x:Hp}(h:HpAt H b x):hat H ⟨b.h,3,none⟩=some (vu x.ep):=by rw[aI h.h];rfl
theorem HpAt.putEp{b:Blk}{x:Hp}(h:HpAt H b x)(e:Int):aH H ⟨b.h,3,none⟩ 0 1/\HpAt (aP H ⟨b.h,3,none⟩ [vu e] 0) b {x with ep:=e}/\Fr [b.h] H (aP H ⟨b.h,3,none⟩ [vu e] 0):=by
 refine⟨cR h.h _ _ _ (by simp),?_⟩
 rw[bY _ _ _ _ _ h.h]
 have f:Fr [b.h] H (aM H b.h (.cells (splice #[vp (some ⟨b.c,0,none⟩),x.sy,x.en,vu x.ep] (3+0) [vu e]) 51 (0,0))):=Fr.set
 refine⟨⟨h.cd.keep f ?_ ?_ ?_ ?_,h.ne,by rw[aT (aS h.h)];rfl⟩,f⟩<;>have:=h.ne<;>simp<;>omega
theorem t8{d:zW}{o:Option (Blk×Hp)}(V:View H d o):gR.C d H (λv e=>View e d (ym o)/\Fr (Ax o) H e):=by
 refine HC.via λR c=>gR.link ?_
 unfold gR.pt
 refine HC.mono (nC V) ?_
 rintro _ j ⟨rfl,rfl⟩
 refine⟨_,rfl,?_⟩
 cases V with
 | nobody=>rw[qB (show(none:Option (Blk×Hp)).isNone=true from rfl)];exact c _ _ ⟨.nobody,Fr.refl _ _⟩
 | empty h=>rw[qB (show(none:Option (Blk×Hp)).isNone=true from rfl)];exact c _ _ ⟨.empty h,Fr.refl _ _⟩
 | @real b x h i=>
  rw[za (show ¬(some (b,x)).isNone=true from Bool.false_ne_true)]
  obtain⟨g,f⟩:=h.putEp (IntKind.wrap .u64 (x.ep+1))
  refine⟨_,rfl,_,by rw[CH];exact h.epAt,by rw[CH];exact g,λk a=>?_⟩
  rw[CH]at a
  subst a
  exact c _ _ ⟨.real f.1 i,f.2⟩
def Mem.objWords(m:Mem)(w:Int):List Int:=(List.range (m.len w).toNat).map λ(i:Nat)=>m.get (w / 8+1+(i:Int))
theorem Mem.objWords_len(m:Mem)(w:Int):(m.objWords w).length=(m.len w).toNat:=by unfold Mem.objWords;simp
theorem Mem.objWords_get(m:Mem)(w:Int)(h:i< (m.objWords w).length):(m.objWords w)[i]=m.get (w / 8+1+(i:Int)):=by simp[Mem.objWords]
theorem kE.words{m:Mem}{w a b:Int}{c:List Int}(h:kE m w a b c):m.objWords w=c:=by
 refine List.ext_getElem (by rw[Mem.objWords_len,h.len];omega) λi e d=>?_
 rw[Mem.objWords_get]
 exact h.get i d
end Go.Proofs.YtfhbhckhmnleoaaGreat
namespace Go.Proofs.YtfhbhckhmnleoaaGreat
open Go Go.Proofs.Tryz
open Go Go.Proofs.Tryz Go.Shelf Go.RowKit Go.Lib Go.Sort Go.Proofs
variable{H:zV}
def nW:Go.Shelf.Ren:=⟨λ| 6=>88 | 15=>128 | 14=>127 | 28=>148 | 29=>149 | 20=>140 | 21=>141 | 22=>142 | 23=>143 | 24=>144 | 25=>145 | 26=>146 | 27=>147 | 46=>152 | 47=>153 | 48=>154 | 49=>155 | 50=>156 | 57=>158 | n=>n,λ| 22=>75 | 24=>3 | 25=>164 | 3=>3 | 39=>34 | 0=>0 | 53=>60 | 55=>22 | 4=>4 | 46=>214 | 45=>213 | 50=>115 | 5=>5 | 9=>9 | 66=>223 | 70=>227 | 76=>230 | 77=>231 | n=>n,λ| n=>n⟩
theorem sR:Go.Proofs.SlLaysF.n6 prog nW:={
 mixed:=by kernel_rfl
 f6:=⟨f88.name,by decide,func88.trans (CJ some (by kernel_rfl))⟩
 f14:=⟨f127.name,by decide,func127.trans (CJ some (by kernel_rfl))⟩
 f15:=func128.trans (CJ some (by kernel_rfl))
 f20:=⟨f140.name,by decide,func140.trans (CJ some (by kernel_rfl))⟩
 f21:=⟨f141.name,by decide,func141.trans (CJ some (by kernel_rfl))⟩
 f22:=⟨f142.name,by decide,func142.trans (CJ some (by kernel_rfl))⟩
 f23:=⟨f143.name,by decide,func143.trans (CJ some (by kernel_rfl))⟩
 f24:=⟨f144.name,by decide,func144.trans (CJ some (by kernel_rfl))⟩
 f25:=⟨f145.name,by decide,func145.trans (CJ some (by kernel_rfl))⟩
 f26:=⟨f146.name,by decide,func146.trans (CJ some (by kernel_rfl))⟩
 f27:=⟨f147.name,by decide,func147.trans (CJ some (by kernel_rfl))⟩
 f28:=func148.trans (CJ some (by kernel_rfl))
 f29:=func149.trans (CJ some (by kernel_rfl))
 f46:=⟨f152.name,by decide,func152.trans (CJ some (by kernel_rfl))⟩
 f47:=func153.trans (CJ some (by kernel_rfl))
 f48:=func154.trans (CJ some (by kernel_rfl))
 f49:=⟨f155.name,by decide,func155.trans (CJ some (by kernel_rfl))⟩
 f50:=⟨f156.name,by decide,func156.trans (CJ some (by kernel_rfl))⟩
 f57:=⟨f158.name,by decide,func158.trans (CJ some (by kernel_rfl))⟩
 t0:=underlying0
 a0:=isAgg0
 z0:=sizeOf0
 v0:=zeroValue0
 t3:=underlying3
 a3:=isAgg3
 z3:=sizeOf3
 v3:=zeroValue3
 t4:=underlying4
 a4:=isAgg4
 z4:=sizeOf4
 v4:=zeroValue4
 t5:=underlying5
 a5:=isAgg5
 z5:=sizeOf5
 v5:=zeroValue5
 t9:=underlying9
 a9:=isAgg9
 z9:=sizeOf9
 v9:=zeroValue9
 t22:=C3
 a22:=isAgg75
 z22:=sizeOf75
 v22:=zeroValue75
 a24:=isAgg3
 z24:=sizeOf3
 t25:=underlying164
 a25:=isAgg164
 z25:=sizeOf164
 v25:=zeroValue164
 t39:=underlying34
 a39:=isAgg34
 z39:=sizeOf34
 v39:=zeroValue34
 t45:=underlying213
 a45:=isAgg213
 z45:=sizeOf213
 v45:=zeroValue213
 t46:=underlying214
 a46:=isAgg214
 z46:=sizeOf214
 v46:=zeroValue214
 t50:=underlying115
 a50:=isAgg115
 z50:=sizeOf115
 v50:=zeroValue115
 t53:=underlying60
 a53:=isAgg60
 z53:=sizeOf60
 v53:=zeroValue60
 t55:=underlying22
 a55:=isAgg22
 z55:=sizeOf22
 v55:=zeroValue22
 t66:=underlying223
 a66:=isAgg223
 z66:=sizeOf223
 v66:=zeroValue223
 t70:=underlying227
 a70:=isAgg227
 z70:=sizeOf227
 v70:=zeroValue227
 t76:=underlying230
 a76:=isAgg230
 z76:=sizeOf230
 v76:=zeroValue230
 t77:=underlying231
 a77:=isAgg231
 z77:=sizeOf231
 v77:=zeroValue231}
theorem sS{p:zW}{c:Nat}{b:Value}:HC prog 88 #[vs p 0 c,b] H (λv d=>v=.tuple #[]/\d=H):=λw g=>by
 have h:=AnyF.slices_SortFunc_none (P:=prog) (ρ:=nW) {sR with} p c b w
 exact h.mono λe i ⟨f,a⟩=>⟨_,f,by subst a;exact D0 _,rfl,by rw[a];exact g⟩
theorem ua{w c:World}(s:Same w c)(e:Ext w.heap c.heap): ∃q d,c=grow (w.drewN q) d:=by
 refine⟨c.drawn-w.drawn,c.heap.extract w.heap.size c.heap.size,?_⟩
 obtain⟨l,m,n,p⟩:=s
 cases w with
 | mk heap o drawn v g=>
 cases c with
 | mk a j b d f=>
 simp only at l m n p e
 subst l m n
 have r:drawn+(b-drawn)=b:=by omega
 have t:heap++a.extract heap.size a.size=a:=by
  refine Array.ext_getElem? λi=>?_
  have u:=e.size
  rcases C6 i heap.size with h | h
  ·rw[Array.getElem?_append_left h,e.old i h]
  ·rw[Array.getElem?_append_right h,Array.getElem?_extract]
   split
   ·congr 1;omega
   ·rw[Array.getElem?_eq_none (by omega)]
 simp only[grow,World.drewN,r,t]
variable {k:Nat}
def zT(i:Fin (k+1)):Value:=vi (i.val:Int)
theorem oW{b i:Nat}{f:Obj->Obj}:(H.modify b f)[i]?=if b=i then H[i]?.map f else H[i]?:=by
 rw[Array.getElem?_modify]
theorem xY{T:TypeId}{b n c g:Nat}{cb:Array Value}{o:List (Fin (k+1))}{tk:Fin (k+1)->Int}(D:Own H T 1 (some ⟨b,0,none⟩) n c (o.map zT))(hn:n<4611686018427387904)
  (X: ∀args w,(callFunc g args).run prog w=.ok (.enter g args) w)
  (I: ∀s,Fr [b] H s-> ∀x y:Fin (k+1),HC prog g (#[zT x,zT y]++cb) s (λv G=>v=vi (Lib.compareInt (tk x) (tk y))/\Ext s G)):
  HC prog 88 #[vs (some ⟨b,0,none⟩) n c,.func (.func g) #[] cb] H (λv s=>v=.tuple #[]/\ ∃R:List (Fin (k+1)),R.Perm o/\R.Pairwise (λx y=>tk x<=tk y)/\Own s T 1 (some ⟨b,0,none⟩) n c (R.map zT)/\Fr [b] H s):=λw hw=>by
 subst hw
 have f:=D.len
 simp only[Dl,Dd]at f
 obtain⟨_,S,E,J,P,hl,hc⟩:=D
 have q:=aS E
 have r: ∀(d:Array (Fin (k+1))),d.size=n-> ∀m l,(sortWorld zT w b 0 m d l).heap=(w.heap.modify b (onCells (putCells zT 0 d)))++l:=λd F m l=>rfl
 have C: ∀(d:Array (Fin (k+1))) (l:zV),((w.heap.modify b (onCells (putCells zT 0 d)))++l)[b]?=some (.cells (putCells zT 0 d S) T (0,0)):=λd l=>by
  rw[Array.getElem?_append_left (by simpa using q),oW,qB rfl,E];rfl
 have B: ∀(d:Array (Fin (k+1))) (l:zV),Fr [b] w.heap ((w.heap.modify b (onCells (putCells zT 0 d)))++l):=λd l=>by
  refine⟨by simp,λi L hn=>?_⟩
  rw[Array.getElem?_append_left (by simpa using L),oW,za (by simp at hn;omega)]
 have Z:SWO (ltOf λx y:Fin (k+1)=>Lib.compareInt (tk x) (tk y)):=by
  have e: ∀x y,ltOf (λx y:Fin (k+1)=>Lib.compareInt (tk x) (tk y)) x y=decide (tk x<tk y):=λx y=>by
   unfold ltOf Lib.compareInt
   by_cases a:tk x<tk y
   ·simp[a]
   ·by_cases u:tk y<tk x<;>simp[a,u]
  exact⟨λx=>by rw[e];simp,λx y z a u=>by rw[e]at*;simp at*;omega,λx y z a u=>by rw[e]at*;simp at*;omega⟩
 have Y:Holds zT w b 0 o.toArray:=λj t=>by
  have N:j<o.length:=by simpa using t
  have a:=hc j (by omega)
  rw[List.getElem?_map,List.getElem?_eq_getElem N]at a
  refine⟨?_,?_⟩
  ·unfold World.cell?
   simp only[E]
   simp only[Option.isSome_none,Dj,Df,CQ]
   rw[a]
   simp[getElem!_pos o.toArray j t]
  ·unfold World.frozen?
   simp only[E]
   simp
 have A:CmpLays1 prog g cb zT (λx y:Fin (k+1)=>Lib.compareInt (tk x) (tk y)) b 0 o.toArray.size w:=λm l U K x y=>by
  refine(I _ (by rw[r U (by simpa using K.trans (by simpa using f))];exact B U l) x y _ rfl).mono ?_
  rintro e w' ⟨v,rfl,Q,rfl,he⟩
  exact⟨rfl,ua Q he⟩
 have h:=Any.slices_SortFunc sR zT (λ_=>rfl) (λx y:Fin (k+1)=>Lib.compareInt (tk x) (tk y)) Z g cb b 0 c o.toArray w X A Y q (by simpa using(by omega:o.length<4611686018427387904))
 rw[show o.toArray.size=n by simpa using f]at h
 refine h.mono ?_
 rintro e w' ⟨rfl,p,m,l,V,Q,rfl⟩
 have F:p.size=n:=by rw[V.1];simpa using f
 refine⟨_,rfl,⟨rfl,rfl,rfl,Nat.le_add_right _ _⟩,rfl,p.toList,?_,?_,?_,B p l⟩
 ·have a:=V.2.2
  simp only[Array.extract_eq_self_of_le,F,CU]at a
  have W:((o.toArray).extract 0 n).toList=o:=by rw[show n=o.toArray.size by simp;omega];simp
  rw[W]at a
  exact a
 ·rw[List.pairwise_iff_getElem]
  intro i j L t M
  have a:=Q i j (Ef _) M (by simpa using(by simpa[F]using t))
  unfold ltOf Lib.compareInt at a
  rw[getElem!_pos p i (by simpa using L),getElem!_pos p j (by simpa using t)]at a
  simp only[Array.getElem_toList]
  by_cases u:tk p[j]<tk p[i]
  ·simp[u]at a
  ·omega
 ·refine⟨rfl,_,C p l,by simp[putCells,J],P,by simp[F],λj t=>?_⟩
  have O:j<S.size:=by omega
  simp only[putCells,Array.getElem?_mapIdx,Array.getElem?_eq_getElem O,Option.map_some]
  rw[qB ⟨Ef _,by omega⟩,Nat.sub_zero,getElem!_pos p j (by omega)]
  simp[List.getElem?_eq_getElem (show j<p.toList.length by simp;omega)]
end Go.Proofs.YtfhbhckhmnleoaaGreat
namespace Go.Proofs.YtfhbhckhmnleoaaGreat
open Go Go.Proofs.Tryz
theorem En:type_of% @List.length_filter_le:=@List.length_filter_le
theorem D7:type_of% @List.filter_append:=@List.filter_append
theorem Dm:type_of% @List.mem_filter:=@List.mem_filter
variable{d:Mem}{H:zV}{i:List Int}{j:zW}{k r:Nat}{o:List Nat}
def zf(l:List Int):List Value:=l.map (Value.int .i64)
theorem nX{x y:Int}:cmp_Compare_int.C x y H (λv d=>v=vi (Lib.compareInt x y)/\d=H):=by
 refine HC.via λR a=>cmp_Compare_int.link ?_
 unfold cmp_Compare_int.pt
 refine cmp_isNaN_int.link ?_
 unfold cmp_isNaN_int.pt
 refine⟨_,rfl,cmp_isNaN_int.link ?_⟩
 unfold cmp_isNaN_int.pt
 refine⟨_,rfl,?_⟩
 have e: ¬(x !=x)=true:=by simp
 have f: ¬(y !=y)=true:=by simp
 rw[za e,za f]
 unfold Lib.compareInt at a
 by_cases b:x<y
 ·rw[qB b]at a⊢;exact a _ _ ⟨rfl,rfl⟩
 rw[za b]at a⊢
 by_cases c:x>y
 ·rw[qB c]at a⊢;exact a _ _ ⟨rfl,rfl⟩
 ·rw[za c]at a⊢;exact a _ _ ⟨rfl,rfl⟩
theorem nY{b:List Int}(h:dO H j (zf b)){i:Nat}(c:i<b.length): ∃a,j=some a/\hat H (a.add (i*1))=some (vi b[i]):=by
 cases j with
 | none=>rw[DF]at h;simp[zf]at h;subst h;simp at c
 | some a=>
  refine⟨a,rfl,?_⟩
  have:=gE (show aL H a 0 _ from h) i (vi b[i]) (by simp[zf,c])
  rw[CQ]at this;rw[Dd];exact this
theorem mJ{n c:Nat}{v:Int}(f:dO H j (zf i))(hn:n=i.length)(p:n<=1000000):
  bS.C j n c v H (λu o=>u=.bool (decide (v∈i))/\o=H):=by
 subst hn
 refine HC.via λR l=>bS.link ?_
 unfold bS.pt
 refine dD.link ?_
 unfold dD.pt zY
 refine⟨λq A=>(0<=q/\q<=i.length)/\v ∉ i.take q.toNat/\A=H,λq _=>(i.length-q).toNat,⟨by omega,by simp,rfl⟩,?_⟩
 rintro q A ⟨m,k,rfl⟩
 by_cases b:q< (i.length:Int)
 ·rw[qB b]
  have e:q.toNat<i.length:=by omega
  obtain⟨a,rfl,g⟩:=nY f e
  refine⟨a,rfl,⟨m.1,b⟩,_,g,?_⟩
  by_cases d:v=i[q.toNat]
  ·rw[qB d]
   refine⟨_,rfl,?_⟩
   rw[zX (show q>=0 from m.1)]
   exact l _ _ ⟨by rw[zX (d▸CS e)],rfl⟩
  ·rw[za d,xT (n:=q+1) (by omega)]
   have f:(q+1).toNat=q.toNat+1:=by omega
   refine⟨⟨by omega,?_,rfl⟩,by show((i.length:Int)-(q+1)).toNat< ((i.length:Int)-q).toNat;omega⟩
   rw[f,Db e]
   intro h
   rcases CM.1 h with h | h
   ·exact k h
   ·exact d (by simpa using h)
 ·rw[za b]
  rw[De (by omega)]at k
  refine⟨_,rfl,?_⟩
  rw[zQ (by decide)]
  exact l _ _ ⟨by rw[zQ k],rfl⟩
def Mem.takenTo(m:Mem)(gs:List Int)(k:Nat):List Nat:=(List.range k).filter λi=>decide (0< (m.seg i).taken) && (gs.isEmpty || decide ((m.seg i).gen∈gs))
structure dA (m:Mem) (gs:List Int) (l:List Nat):Prop where
 perm:l.Perm (m.takenTo gs m.limit)
 sorted:l.Pairwise (λi j=>(m.seg i).taken<=(m.seg j).taken)
theorem Mem.takenTo_lt(h:r∈d.takenTo i k):r<k:=by
 unfold Mem.takenTo at h;rw[Dm,Dc]at h;exact h.1
theorem Mem.takenTo_len(m:Mem)(a:List Int)(k:Nat):(m.takenTo a k).length<=k:=by
 unfold Mem.takenTo;refine Dz (En _ _) (by simp)
theorem Mem.takenTo_succ(m:Mem)(a:List Int)(k:Nat):m.takenTo a (k+1)=m.takenTo a k++(if 0< (m.seg k).taken/\(a=[]\/(m.seg k).gen∈a)then[k]else[]):=by
 unfold Mem.takenTo
 rw[DP,D7]
 congr 1
 by_cases h:0< (m.seg k).taken/\(a=[]\/(m.seg k).gen∈a)
 ·rw[qB h]
  have:(decide (0< (m.seg k).taken) && (a.isEmpty || decide ((m.seg k).gen∈a)))=true:=by
   rcases h with⟨b,rfl | c⟩<;>simp_all
  simp[this]
 ·rw[za h]
  have:(decide (0< (m.seg k).taken) && (a.isEmpty || decide ((m.seg k).gen∈a)))=false:=by
   simp only[Bool.and_eq_false_iff,Bool.or_eq_false_iff,decide_eq_false_iff_not,List.isEmpty_eq_false_iff]
   by_cases b:0< (m.seg k).taken
   ·refine .inr ⟨λc=>h ⟨b,.inl c⟩,λc=>h ⟨b,.inr c⟩⟩
   ·exact .inl b
  simp[this]
set_option maxRecDepth 100000 in
theorem jG{bs:Nat}{gB:zW}{gN gC:Nat}{gs:List Int}(M:cS H r bs d)(ok:bD d)(hg:dO H gB (zf gs))(N:gN=gs.length)(bc:gN<=1000):
  cH.C (some ⟨r,0,none⟩) gB gN gC H (λv H'=> ∃(B:zW) (c:Nat) (l:List Nat),v=vs B l.length c/\dA d gs l/\Own H' 3 1 B l.length c (zf (l.map λi:Nat=>(i:Int)))/\(∀i∈kd B,H.size<=i)/\Ext H H'):=by
 refine HC.via λR hR=>cH.link ?_
 unfold cH.pt zY
 have ax:=ok.lim
 intro b s hb z
 have Z:Ext H s:=CI z
 have g1:=aF hb z
 have s1:s.size=H.size+1:=by rw[z];simp
 refine⟨_,by rw[aI g1];rfl,?_⟩
 rw[CK]
 have M1:=M.ext Z
 refine⟨_,by rw[aI g1];rfl,_,rfl,_,_,_,M1.segsAt.choose_spec,?_⟩
 refine⟨λB n c i A=>(0<=i/\i<=d.limit)/\n=(d.takenTo gs i.toNat).length/\Own A 3 1 B n c (zf ((d.takenTo gs i.toNat).map λi:Nat=>(i:Int)))/\(∀j∈kd B,s.size<=j)/\Ext s A,λ_ _ _ i _=>(d.limit-i).toNat,
  ⟨by omega,rfl,gI,by simp,CW _⟩,?_⟩
 rintro B n c i A ⟨hi,rfl,g,G,t⟩
 have Y:=M1.ext t
 have gA:=t.get g1
 by_cases F:i< (d.limit:Int)
 ·rw[qB F]
  have O:i.toNat<d.limit:=by omega
  have hs:(i+1).toNat=i.toNat+1:=by omega
  have h7:=Y.at O (j:=7) (by decide)
  have h0:=Y.at O (j:=0) (by decide)
  refine⟨_,by rw[aI gA];rfl,_,rfl,_,_,_,Y.segsAt.choose_spec,_,rfl,⟨hi.1,F⟩,(d.seg i.toNat).taken,by rw[CH,CH,CQ];exact h7,?_⟩
  rw[xT (n:=i+1) (by omega)]
  have hm:((d.limit:Int)-(i+1)).toNat< ((d.limit:Int)-i).toNat:=by omega
  have bd:=d.takenTo_len gs i.toNat
  have w: ∀(q:zV) (J:Nat) (W:zV),Ext A q->J=q.size->W=q.push (.cells #[vi i] 3)->(0< (d.seg i.toNat).taken/\(gs=[]\/(d.seg i.toNat).gen∈gs))->
    bH 1 3 8 [vi 0] B (d.takenTo gs i.toNat).length c (some (Addr.mk J 0 none)) 1 W (λap a5 H4=>
     ((0<=i+1/\i+1<=d.limit)/\(d.takenTo gs i.toNat).length+1=(d.takenTo gs (i+1).toNat).length/\Own H4 3 1 ap ((d.takenTo gs i.toNat).length+1) a5 (zf ((d.takenTo gs (i+1).toNat).map λi:Nat=>(i:Int)))/\(∀j∈kd ap,s.size<=j)/\Ext s H4)/\((d.limit:Int)-(i+1)).toNat< ((d.limit:Int)-i).toNat):=by
   intro q J W p D K e
   have e2:Ext q W:=CI K
   refine cI (ys:=[vi i]) (g.ext (p.trans e2)) (eJ (aF D K) _ 0 0 (λj I=>by simp)) rfl rfl rfl (by omega) ?_
   intro p' c' H4 T f4 ah
   have m:d.takenTo gs (i.toNat+1)=d.takenTo gs i.toNat++[i.toNat]:=by rw[Mem.takenTo_succ,qB e]
   refine⟨⟨by omega,by rw[hs,m];simp,?_,λj I=>?_,((t.trans p).trans e2).fr_trans f4 G⟩,hm⟩
   ·rw[hs,m,C7]
    have:(i.toNat:Int)=i:=by omega
    simpa[zf,this]using T
   ·rcases ah j I with h | h
    ·exact G j h
    ·have:=t.size;have:=p.size;have:=e2.size;omega
  have skip: ∀(q:zV),Ext A q-> ¬(0< (d.seg i.toNat).taken/\(gs=[]\/(d.seg i.toNat).gen∈gs))->
    ((0<=i+1/\i+1<=d.limit)/\(d.takenTo gs i.toNat).length=(d.takenTo gs (i+1).toNat).length/\Own q 3 1 B (d.takenTo gs i.toNat).length c (zf ((d.takenTo gs (i+1).toNat).map λi:Nat=>(i:Int)))/\(∀j∈kd B,s.size<=j)/\Ext s q)/\((d.limit:Int)-(i+1)).toNat< ((d.limit:Int)-i).toNat:=by
   intro q p e
   have m:d.takenTo gs (i.toNat+1)=d.takenTo gs i.toNat:=by rw[Mem.takenTo_succ,za e,DC]
   exact⟨⟨by omega,by rw[hs,m],by rw[hs,m];exact g.ext p,G,t.trans p⟩,hm⟩
  by_cases V:(d.seg i.toNat).taken>0
  ·rw[qB V]
   by_cases E:(gN:Int)=0
   ·rw[qB E]
    have ae:gs=[]:=EM.1 (by omega)
    intro J H3 D a9
    exact w A J H3 (CW _) D a9 ⟨V,.inl ae⟩
   ·rw[za E]
    refine⟨(d.seg i.toNat).gen,by rw[CH,CQ];exact h0,?_⟩
    refine HC.mono (mJ ((hg.ext Z).ext t) N (by omega)) ?_
    rintro _ H5 ⟨rfl,h5⟩
    subst h5
    refine⟨_,rfl,?_⟩
    have ai:gs≠[]:=λh=>E (by rw[N,h];rfl)
    by_cases e:(d.seg i.toNat).gen∈gs
    ·rw[qB (zX e)]
     intro b3 H6 ac aa
     exact w _ b3 H6 (CW _) ac aa ⟨V,.inr e⟩
    ·rw[za (by simpa using e)]
     exact skip _ (CW _) (λh=>h.2.elim ai e)
  ·rw[za V]
   exact skip _ (CW _) (λh=>V h.1)
 rw[za F]
 have ag:i.toNat=d.limit:=by omega
 rw[ag]at g⊢
 cases B with
 | none=>
  obtain⟨h0,rfl,_⟩:=g
  have S:d.takenTo gs d.limit=[]:=EM.1 h0
  rw[h0]
  refine HC.mono sS ?_
  rintro _ H8 ⟨_,rfl⟩
  exact hR _ _ ⟨none,0,[],rfl,⟨by rw[S],List.Pairwise.nil⟩,gI,by simp,Z.trans t⟩
 | some a=>
  have ha:a=⟨a.block,0,none⟩:=g.1
  obtain⟨k,hk⟩: ∃k,d.limit=k+1:=⟨d.limit-1,by omega⟩
  have Q: ∀i∈d.takenTo gs d.limit,i<k+1:=λi hi=>hk▸Mem.takenTo_lt hi
  generalize ak:(d.takenTo gs d.limit).attach.map (λi=>(⟨i.1,Q i.1 i.2⟩:Fin (k+1)))=xs
  have o:xs.map (λx=>x.val)=d.takenTo gs d.limit:=by rw[<-ak];simp
  have L:zf ((d.takenTo gs d.limit).map λi:Nat=>(i:Int))=xs.map zT:=by
   rw[<-o];simp[zf,zT,Function.comp_def]
  rw[L]at g
  rw[ha]at g⊢
  have ba:a.block≠b:=by have:=G a.block (by simp);omega
  have b7:a.block≠r/\a.block≠bs:=by
   have:=G a.block (by simp);have:=M.lt;omega
  refine HC.mono (xY (k:=k) (tk:=λx=>(d.seg x.val).taken) g (by have:=d.takenTo_len gs d.limit;omega) (DU func89 (by kernel_rfl) rfl) ?_) ?_
  ·intro H' f x y
   refine HC.via λR' ab=>iF.link ?_
   unfold iF.pt
   have gb:=f.get (b:=b) (by simp;omega) gA
   have X:=Y.keep f (by simp;omega) (by simp;omega)
   have aj:=X.at (k:=x.val) (by have:=x.isLt;omega) (j:=7) (by decide)
   have al:=X.at (k:=y.val) (by have:=y.isLt;omega) (j:=7) (by decide)
   have be:=x.isLt
   have bf:=y.isLt
   refine⟨_,rfl,_,by rw[aI gb];rfl,_,rfl,_,_,_,X.segsAt.choose_spec,_,rfl,⟨by omega,by omega⟩,(d.seg x.val).taken,by rw[show Int.toNat (x.val:Int)=x.val by omega,CH,CH,CQ];exact aj,
    _,by rw[aI gb];rfl,_,rfl,_,_,_,X.segsAt.choose_spec,_,rfl,⟨by omega,by omega⟩,(d.seg y.val).taken,by rw[show Int.toNat (y.val:Int)=y.val by omega,CH,CH,CQ];exact al,?_⟩
   refine HC.mono nX ?_
   rintro _ aU ⟨rfl,a8⟩
   exact⟨_,rfl,ab _ _ ⟨rfl,a8▸CW _⟩⟩
  ·rintro _ H8 ⟨_,ys,hp,U,u,f8⟩
   have P:(ys.map (λy=>y.val)).length=(d.takenTo gs d.limit).length:=by
    rw[Dl,hp.length_eq,<-o,Dl]
   rw[<-P]at u⊢
   refine hR _ _ ⟨some ⟨a.block,0,none⟩,c,ys.map (λy=>y.val),rfl,⟨?_,?_⟩,?_,λj I=>?_,(Z.trans t).fr_trans f8 (λj I=>?_)⟩
   ·rw[<-o];exact hp.map _
   ·exact List.pairwise_map.2 U
   ·have:zf ((ys.map λy=>y.val).map λi:Nat=>(i:Int))=ys.map zT:=by simp[zf,zT,Function.comp_def]
    rw[this];exact u
   ·simp at I;have:=G a.block (by simp);omega
   ·simp at I;have:=G a.block (by simp);omega
def Mem.sumN(m:Mem)(l:List Nat):Int:=(l.map λi=>(m.seg i).n).sum
def Mem.words(m:Mem)(gs:List Int):Int:=m.sumN (m.takenTo gs m.limit)
theorem uS{a:List Nat}(h:o.Perm a):d.sumN o=d.sumN a:=by
 induction h with
 | nil=>rfl
 | cons x _ e=>simp only[Mem.sumN,List.map_cons,List.sum_cons]at*;omega
 | swap x y o=>simp only[Mem.sumN,List.map_cons,List.sum_cons];omega
 | trans _ _ b c=>exact b.trans c
theorem oX(m:Mem)(l a:List Nat):m.sumN (l++a)=m.sumN l+m.sumN a:=by unfold Mem.sumN;rw[C7,List.sum_append]
theorem wY(a:bD d)(l:List Nat):0<=d.sumN l/\d.sumN l<=64*l.length:=by
 induction l with
 | nil=>simp[Mem.sumN]
 | cons i l b=>
  have h:=(a.seg i).n
  have e:d.sumN (i::l)=(d.seg i).n+d.sumN l:=by simp[Mem.sumN]
  rw[e];simp only[List.length_cons];omega
theorem dA.has(h:dA d i o)(c:k∈o):d.has (k:Int)/\k<d.limit/\0< (d.seg k).taken/\(i=[]\/(d.seg k).gen∈i):=by
 have a:=h.perm.subset c
 have b:=Mem.takenTo_lt a
 unfold Mem.takenTo at a
 rw[Dm]at a
 simp only[CZ,CN,Dw,List.isEmpty_iff]at a
 refine⟨⟨by omega,by omega,?_⟩,b,a.2.1,a.2.2⟩
 have:((k:Int)).toNat=k:=by omega
 rw[this];omega
theorem dA.len{l:List Nat}(h:dA d i l):l.length<=d.limit:=by
 rw[h.perm.length_eq];exact d.takenTo_len i _
theorem mS{T:TypeId}{n c:Nat}(b:Own H T 1 j n c (zf (o.map λi:Nat=>(i:Int)))){i:Nat}(e:i<o.length): ∃a,j=some a/\hat H (a.add (i*1))=some (vi (o[i]:Int)):=by
 obtain⟨a,d,h⟩:=nY b.src (i:=i) (by simpa using e)
 exact⟨a,d,by simpa using h⟩
theorem kw{b:Blk}{s:Sp}{gs:List Int}(h:SpAt H b s)(m:SpOK s)(Q:dO H j (zf gs))(u:k=gs.length)(t:k<=1000):
  bR.C (some ⟨b.sp,0,none⟩) j k r H (λv E=>v=vi (s.mem.words gs)/\Ext H E):=by
 refine HC.via λR O=>bR.link ?_
 unfold bR.pt zY
 refine HC.mono (mt h) ?_
 rintro _ Y ⟨rfl,N⟩
 subst N
 refine⟨_,rfl,?_⟩
 rw[za (by decide)]
 refine⟨_,rfl,_,h.memPtr,HC.mono (jG h.mem m.mem Q u t) ?_⟩
 rintro _ F ⟨B,c,l,rfl,T,w,hy,x⟩
 have D:=m.mem.lim
 have V:=T.len
 refine⟨_,_,_,rfl,λf i A=>(0<=i/\i<=l.length)/\f=s.mem.sumN (l.take i.toNat)/\Ext F A,λ_ i _=>(l.length-i).toNat,⟨by omega,by simp[Mem.sumN],CW _⟩,?_⟩
 rintro f i A ⟨U,rfl,g⟩
 by_cases e:i< (l.length:Int)
 ·rw[qB e]
  have d:i.toNat<l.length:=by omega
  obtain⟨a,rfl,M⟩:=mS (w.ext g) d
  have y:=(h.ext x).ext g
  refine⟨a,rfl,⟨U.1,e⟩,_,M,_,y.memPtr,HC.mono (kY y.mem) ?_⟩
  rintro _ Z ⟨rfl,J⟩
  have S:=(T.has (CS d)).1
  have hk:((l[i.toNat]:Nat):Int).toNat=l[i.toNat]:=by omega
  rw[qB S,hk]
  refine⟨_,_,_,_,_,_,_,_,rfl,λb5 H5 q o=>?_⟩
  obtain⟨I,X⟩:=wX (n:=7) (vs:=[vi (s.mem.seg l[i.toNat]).gen,vi (s.mem.seg l[i.toNat]).kind,vi (s.mem.seg l[i.toNat]).n,vi ((s.mem.seg l[i.toNat]).cards 0),vi ((s.mem.seg l[i.toNat]).cards 1),vi ((s.mem.seg l[i.toNat]).cards 2),vi ((s.mem.seg l[i.toNat]).cards 3)]) q o rfl rfl
  refine⟨I,λG p=>?_⟩
  obtain⟨L,K⟩:=X G p
  have W:(i+1).toNat=i.toNat+1:=by omega
  have P:=wY m.mem (l.take i.toNat)
  have hn:=(m.mem.seg l[i.toNat]).n
  have z:(l.take i.toNat).length<=1024:=by simp;omega
  refine⟨_,by rw[fG L 2];rfl,?_⟩
  rw[xT (n:=i+1) (by omega),xT (n:=s.mem.sumN (l.take i.toNat)+(s.mem.seg l[i.toNat]).n) (by omega)]
  refine⟨⟨by omega,?_,(g.trans J).trans K⟩,by show((l.length:Int)-(i+1)).toNat< ((l.length:Int)-i).toNat;omega⟩
  rw[W,Db d,oX]
  simp[Mem.sumN]
 ·rw[za e]
  rw[De (by omega)]
  exact O _ _ ⟨by rw[uS T.perm];rfl,x.trans g⟩
