/-
 A heap of a law's own: what is made on it. Proves nothing of any one statement.
-/
import Derived.Test.YtfhbhckhmnleoaaGreatPair
import Derived.Test.YtfhbhckhmnleoaaGreatFword
import Derived.Laws.RangeAny
import Derived.Shelf.SlSortCmp.NoneTotal
set_option linter.unusedVariables false
set_option linter.unusedSimpArgs false
namespace Go.Proofs.YtfhbhckhmnleoaaGreat
open Go
variable{d:Blk}{i:Hp}{H j:zV}{k o u:Int}{v:Mem}
theorem View.inv{a:zW}(V:View H a (some (d,i))):a=some ⟨d.h,0,none⟩/\HpAt H d i/\SpOK i.sp:=by
 cases V with
 | real h b=>exact⟨rfl,h,b⟩
structure Live (H0 H:zV) (b:Blk) (x:Hp):Prop where
 at':HpAt H b x
 ok:SpOK x.sp
 ext:Ext H0 H
 young: ∀i,i∈b.all->H0.size<=i
theorem Live.view(h:Live H j d i):View j (some ⟨d.h,0,none⟩) (some (d,i)):=.real h.at' h.ok
theorem Live.grow{a:zV}(h:Live H j d i)(e:Ext j a):Live H a d i:=⟨h.at'.ext e,h.ok,h.ext.trans e,h.young⟩
theorem Live.step{d H a:zV}{b:Blk}{x e:Hp}(h:Live d H b x)(V:View a (some ⟨b.h,0,none⟩) (some (b,e)))(f:Fr (own (some (b,x))) H a):Live d a b e:=by
 obtain⟨_,g,c⟩:=V.inv
 exact⟨g,c,h.ext.fr_trans f (λi j=>h.young i (by simp[own]at j;simp[Blk.all];omega)),h.young⟩
theorem Live.others(f:Fr (own (some (d,i))) H j):Fr d.all H j:=f.mono (λb a _=>by simp[own]at a;simp[Blk.all];omega)
theorem Live.n64(h:Live H j d i)(k:Nat):(i.sp.mem.seg k).n<=64:=(h.ok.mem.seg k).n.2
theorem oc(b:Blk)(x:Hp)(a c:Int)(d:List Int):ix (some (b,x)) a c d=(x.sp.make a c d).2/\jC (some (b,x)) a c d=some (b,{x with sp:=(x.sp.make a c d).1}):=by
 unfold ix jC Sp.make
 split
 ·exact⟨rfl,rfl⟩
 split
 ·exact⟨rfl,rfl⟩
 ·exact⟨rfl,rfl⟩
structure ut (x x':Hp) (w kind more:Int) (ws:List Int):Prop where
 thing:ib x'.sp.mem w kind more ws
 made:Made x.sp.mem x'.sp.mem w ws.length
theorem rJ(L:Live H j d i){kind more:Int}{a:List Int}(b:1<=kind/\kind<=13)(c:0<=more/\more<281474976710656)(n:a.length<=62)(o: ∀w∈a,aC w)(m:1<=i.sp.mem.free):
  ∃(w:Int) (e:Hp),ix (some (d,i)) kind more a=(w,0)/\jC (some (d,i)) kind more a=some (d,e)/\ut i e w kind more a:=by
 obtain⟨h,k,p,l⟩:=Sp.make_ok L.ok b c n o m
 obtain⟨f,g⟩:=oc d i kind more a
 exact⟨_,_,by rw[f,<-h],g,⟨k,l⟩⟩
def Mem.Even(m:Mem):Prop:= ∀k,(m.seg k).kind<=1->(m.seg k).n % 2=0
theorem nh(a:Nat):(Mem.fresh a).Even:=λ_ _=>rfl
theorem aY.even{m a:Mem}(h:aY m a)(b:m.Even):a.Even:=λk hk=>by
 rw[(h.seg k).2.2.1];exact b k (by rw[<-(h.seg k).2.1];exact hk)
theorem Mem.Even.store{m:Mem}(h:m.Even)(a w:Int):(m.store a w).1.Even:=λk hk=>by
 rw[(Mem.store_seg k).2.2];exact h k (by rw[<-(Mem.store_seg k).2.1];exact hk)
theorem Grown.even{m g:Mem}{s:Int}(a:Grown m g k o u s)(d:m.Even)(hn:s<=1->o % 2=0):g.Even/\(s<=1->k % 2=0):=by
 obtain⟨p,q,r⟩:=a.addr
 have c:s<=1->k % 64 % 2=0:=λhk=>by
  by_cases f:(m.seg (k / 64).toNat).taken=0
  ·rw[a.fresh f];rfl
  ·obtain⟨_,l,n,_⟩:=a.old f
   rw[<-n];exact d _ (by rw[l];exact hk)
 refine⟨λj b=>?_,λhk=>by have:=c hk;omega⟩
 by_cases e:j=(k / 64).toNat
 ·subst e
  obtain⟨_,_,h,i⟩:=a.new
  rw[h]at b
  have:=c b
  have:=hn b
  rw[i];omega
 ·rw[a.others j e]at b⊢;exact d j b
structure Pr (m:Mem) (w tag a d:Int):Prop where
 word:aC w
 istag:tag=1\/tag=2
 at':m.atW w tag (tag-1)
 even:w / 8 % 2=0
 used:m.used (w / 8+1)
 car:m.get (w / 8)=a
 cdr:m.get (w / 8+1)=d
theorem Pr.isPair{m:Mem}{w b a d:Int}(h:Pr m w b a d):m.isPair w:=by
 refine⟨?_,h.even⟩
 rcases h.istag with e | e
 ·have:=h.at';rw[e]at this;exact .inl this
 ·have:=h.at';rw[e]at this;exact .inr this
theorem ib.notPair{b:List Int}(h:ib v k o u b): ¬v.isPair k:=λa=>by
 have c:=h.obj.1.2.1
 rcases a.1 with a | a<;>have:=a.2.1<;>omega
theorem Pr.size{w b a d:Int}(h:Pr v w b a d):v.sizeOf w=2:=by unfold Mem.sizeOf;rw[if_pos h.isPair]
theorem ib.size{ws:List Int}(h:ib v k o u ws):v.sizeOf k=ws.length+1:=by
 unfold Mem.sizeOf;rw[if_neg h.notPair,if_pos h.obj,h.len]
theorem Pr.keep{c:Mem}{w b a d:Int}(h:Pr v w b a d)(k:Keep v c):Pr c w b a d:=by
 obtain⟨e,f,g,_,_⟩:=k.used _ (h.at'.used h.word)
 obtain⟨i,j,_⟩:=k.used _ h.used
 exact⟨h.word,h.istag,⟨h.at'.1,h.at'.2.1,e.2.1,by rw[g];exact h.at'.2.2.2.1,e.2.2⟩,h.even,i,by rw[f];exact h.car,by rw[j];exact h.cdr⟩
theorem Sp.cons_ok0{s:Sp}(u:SpOK s)(D:s.mem.Even){tag x y:Int}(E:tag=1\/tag=2)(J:aC x)(K:aC y)(g:(s.alloc 0 (tag-1) 2).2.2=0):
  (s.put (tag-1) tag [x,y]).2.2=0/\Pr (s.put (tag-1) tag [x,y]).1.mem (s.put (tag-1) tag [x,y]).2.1 tag x y/\SpOK (s.put (tag-1) tag [x,y]).1/\Made s.mem (s.put (tag-1) tag [x,y]).1.mem (s.put (tag-1) tag [x,y]).2.1 1/\(s.put (tag-1) tag [x,y]).1.mem.Even:=by
 have k:may 0 (tag-1) (([x,y]:List Int).length:Nat):=⟨by omega,.inl ⟨by omega,rfl⟩⟩
 have g:(s.alloc 0 (tag-1) (([x,y]:List Int).length:Nat)).2.2=0:=g
 have j: ∀w∈[x,y],aC w:=λw t=>by
  simp at t;rcases t with rfl | rfl<;>assumption
 obtain⟨a,l,f,n,p,A,_⟩:=Sp.put_ok (tag:=tag) u k (by omega) j g
 obtain⟨F,d,b⟩:=f.lay u.mem
 have m:=aY.sets [x,y] (s.alloc 0 (tag-1) (([x,y]:List Int).length:Nat)).1.mem a
 obtain⟨B,e⟩:=f.even D (λ_=>by simp)
 have e:=e (by omega)
 rw[l,n]
 obtain⟨v,G,z⟩:=f.addr
 simp only[List.length_cons,List.length_nil]at z
 have c:(a*8+tag) / 8=a:=by omega
 have h:=b 0 (by simp)
 have o:=b 1 (by simp)
 rw[show a+((0:Nat):Int)=a by omega]at h
 refine⟨rfl,⟨⟨by omega,by omega⟩,E,⟨⟨by omega,by omega⟩,by omega,by rw[c];exact h.2.1,?_,by rw[c];exact h.2.2⟩,by rw[c];exact e,by rw[c];exact o,?_,?_⟩,p,⟨F,?_,?_,?_⟩,m.even B⟩
 ·rw[c,(m.seg _).2.1,f.new.2.2.1]
 ·rw[c,d a v,if_pos ⟨by omega,by simp<;>omega⟩];simp
 ·rw[c,d _ (by omega),if_pos ⟨by omega,by simp<;>omega⟩,show(a+1-a).toNat=1 by omega];rfl
 ·rw[m.free];exact f.free
 ·rw[m.count];exact f.count
 ·rw[c]
  intro i I r
  have l:(a+i) / 64=a / 64:=by omega
  have n:(a+i) % 64=a % 64+i:=by omega
  by_cases q:(s.mem.seg (a / 64).toNat).taken=0
  ·have:=r.2.1.2.2
   rw[l]at this
   exact this q
  ·have H:=(f.old q).2.2.1
   have C:=r.2.2
   rw[l,n]at C
   omega
theorem Sp.cons_ok{s:Sp}(a:SpOK s)(b:s.mem.Even)(d:k=1\/k=2)(e:aC o)(f:aC u)(c:1<=s.mem.free):
  (s.put (k-1) k [o,u]).2.2=0/\Pr (s.put (k-1) k [o,u]).1.mem (s.put (k-1) k [o,u]).2.1 k o u/\SpOK (s.put (k-1) k [o,u]).1/\Made s.mem (s.put (k-1) k [o,u]).1.mem (s.put (k-1) k [o,u]).2.1 1/\(s.put (k-1) k [o,u]).1.mem.Even:=
 Sp.cons_ok0 a b d e f (Sp.alloc_can a ⟨by omega,.inl ⟨by omega,rfl⟩⟩ c)
theorem Pr.set{m:Mem}{w b a d v:Int}(h:Pr m w b a d)(i:aX m)(c:k=0\/k=1):Pr (m.store (w / 8+k) v).1 w b (if k=0 then v else a) (if k=0 then d else v):=by
 have g:0<=w / 8:=by have:=h.word.1;omega
 have e:=h.at'.used h.word
 have f:m.used (w / 8+k):=by
  rcases c with rfl | rfl
  ·rw[Int.add_zero];exact e
  ·exact h.used
 refine⟨h.word,h.istag,⟨h.at'.1,h.at'.2.1,Mem.store_has.2 h.at'.2.2.1,by rw[(Mem.store_seg _).2.1];exact h.at'.2.2.2.1,by rw[(Mem.store_seg _).2.2];exact h.at'.2.2.2.2⟩,h.even,Mem.store_used.2 h.used,?_,?_⟩
 ·rw[Mem.store_get f _ g]
  rcases c with rfl | rfl
  ·rw[if_pos (by omega),if_pos rfl]
  ·rw[if_neg (by omega),if_neg (by decide)];exact h.car
 ·rw[Mem.store_get f _ (by omega)]
  rcases c with rfl | rfl
  ·rw[if_neg (by omega),if_pos rfl];exact h.cdr
  ·rw[if_pos rfl,if_neg (by decide)]
structure sL (x x':Hp) (w tag a d:Int):Prop where
 pr:Pr x'.sp.mem w tag a d
 made:Made x.sp.mem x'.sp.mem w 1
 even:x'.sp.mem.Even
 rest:x'.sy=x.sy/\x'.en=x.en/\x'.ep=x.ep
theorem rK(L:Live H j d i)(l:i.sp.mem.Even){tag a p:Int}(n:tag=1\/tag=2)(h:aC a)(k:aC p)(m:1<=i.sp.mem.free):
  ∃(w:Int) (b:Hp),putR (some (d,i)) (tag-1) tag [a,p]=(w,0)/\putO (some (d,i)) (tag-1) tag [a,p]=some (d,b)/\sL i b w tag a p:=by
 obtain⟨c,e,o,f,g⟩:=Sp.cons_ok L.ok l n h k m
 exact⟨_,_,by show(i.sp.put (tag-1) tag [a,p]).2=_;rw[<-c],rfl,⟨e,f,g,rfl,rfl,rfl⟩⟩
variable{H v:zV}{j:Blk}{k z:Int}{o:Hp}{u:Nat->Bool}{A:Sp}
structure Tr where
 tgt:Int
 old:Nat->Bool
 frm:List (Int×Value)
 seen:List (Int×Value)
 cards:List (Int×Int)
 over:Bool
variable{i:Tr}
structure TB where
 t:Nat
 f:Nat
 s:Nat
 cB:zW
 cN:Nat
 cC:Nat
variable{d:TB}
def TB.all(q:TB):List Nat:=q.t::q.f::q.s::blks q.cB
def dV(l:List (Int×Int)):List Value:=l.flatMap λc=> [vi c.1,vi c.2]
structure TrAt (H:zV) (b:Blk) (q:TB) (t:Tr):Prop where
 tr: ∃cs:Array Value,H[q.t]?=some (.cells cs 106 (0,0))/\cs.size=1030/\cs[0]?=some (vp (some ⟨b.h,0,none⟩))/\cs[1]?=some (vi t.tgt)/\(∀k,k<1024->cs[2+k]?=some (vi (if t.old k then 1 else 0)))/\cs[1026]?=some (.map (some q.f))/\cs[1027]?=some (.map (some q.s))/\cs[1028]?=some (vs q.cB q.cN q.cC)/\cs[1029]?=some (vi (if t.over then 1 else 0))
 frm: ∃(es:Array MapEntry) (cl:Nat),H[q.f]?=some (.map es cl)/\Ents (dX .i64) es.toList t.frm
 seen: ∃(es:Array MapEntry) (cl:Nat),H[q.s]?=some (.map es cl)/\Ents (dX .i64) es.toList t.seen
 cards:gc H q.cB (dV t.cards)
 cB: ∀a,q.cB=some a->a.block<H.size
 clen:q.cN=t.cards.length/\q.cN<=4096
 ne:q.t≠q.f/\q.t≠q.s/\q.f≠q.s/\ ∀i∈blks q.cB,i≠q.t/\i≠q.f/\i≠q.s
theorem TrAt.lt{b:Blk}(h:TrAt H b d i): ∀s,s∈d.all->s<H.size:=by
 intro s c
 obtain⟨q,j,_⟩:=h.tr
 obtain⟨r,p,k,_⟩:=h.frm
 obtain⟨g,f,l,_⟩:=h.seen
 have m:=bC j
 have n:=bC k
 have o:=bC l
 simp only[TB.all,List.mem_cons]at c
 rcases c with rfl | rfl | rfl | c
 ·exact m
 ·exact n
 ·exact o
 ·cases e:d.cB with
  | none=>rw[e]at c;simp at c
  | some a=>rw[e]at c;simp at c;rw[c];exact h.cB a e
theorem TrAt.keep{S:List Nat}{t:Tr}(h:TrAt H j d t)(f:Fr S H v)(c: ∀i,i∈S->i ∉ d.all):TrAt v j d t:=by
 obtain⟨p,r,x⟩:=h.tr
 obtain⟨q,o,s,m⟩:=h.frm
 obtain⟨k,g,u,n⟩:=h.seen
 refine⟨⟨p,f.get (λb=>c _ b (by simp[TB.all])) r,x⟩,⟨q,o,f.get (λb=>c _ b (by simp[TB.all])) s,m⟩,⟨k,g,f.get (λb=>c _ b (by simp[TB.all])) u,n⟩,?_,λa w=>Nat.lt_of_lt_of_le (h.cB a w) f.size,h.clen,h.ne⟩
 have e:=h.cards
 cases l:d.cB with
 | none=>rw[l]at e;exact e
 | some a=>
  rw[l]at e
  exact f.rowAt (λb=>c _ b (by simp[TB.all,l])) e
theorem TrAt.ext{b:Blk}(h:TrAt H b d i)(e:Ext H v):TrAt v b d i:=h.keep (S:=[]) e.fr (by simp)
theorem TrAt.hPtr(h:TrAt H j d i):hat H ⟨d.t,0,none⟩=some (vp (some ⟨j.h,0,none⟩)):=by
 obtain⟨c,b,_,a,_⟩:=h.tr
 rw[aK b,a]
theorem TrAt.tgtAt(h:TrAt H j d i):hat H ⟨d.t,1,none⟩=some (vi i.tgt):=by
 obtain⟨c,b,_,_,a,_⟩:=h.tr
 rw[aK b,a]
theorem TrAt.oldAt(h:TrAt H j d i){k:Nat}(hk:k<1024):hat H ⟨d.t,2+k,none⟩=some (vi (if i.old k then 1 else 0)):=by
 obtain⟨c,b,_,_,_,a,_⟩:=h.tr
 rw[aK b,a k hk]
theorem TrAt.fAt{H:zV}(h:TrAt H j d i):hat H ⟨d.t,1026,none⟩=some (.map (some d.f)):=by
 obtain⟨c,b,_,_,_,_,a,_⟩:=h.tr
 rw[aK b,a]
theorem TrAt.sAt(h:TrAt H j d i):hat H ⟨d.t,1027,none⟩=some (.map (some d.s)):=by
 obtain⟨c,b,_,_,_,_,_,a,_⟩:=h.tr
 rw[aK b,a]
theorem TrAt.cAt(h:TrAt H j d i):hat H ⟨d.t,1028,none⟩=some (vs d.cB d.cN d.cC):=by
 obtain⟨c,b,_,_,_,_,_,_,a,_⟩:=h.tr
 rw[aK b,a]
theorem TrAt.oAt(h:TrAt H j d i):hat H ⟨d.t,1029,none⟩=some (vi (if i.over then 1 else 0)):=by
 obtain⟨c,b,_,_,_,_,_,_,_,a⟩:=h.tr
 rw[aK b,a]
structure Tc (H:zV) (b:Blk) (x:Hp) (q:TB) (t:Tr):Prop where
 hp:HpAt H b x
 ok:SpOK x.sp
 tr:TrAt H b q t
 apart: ∀i,i∈q.all->i ∉ b.all
theorem Tc.ext{b:Blk}(h:Tc H b o d i)(e:Ext H v):Tc v b o d i:=⟨h.hp.ext e,h.ok,h.tr.ext e,h.apart⟩
theorem Tc.keep{S:List Nat}{x:Hp}{t:Tr}(h:Tc H j x d t)(f:Fr S H v)(a: ∀i,i∈S->i ∉ j.all)(b: ∀i,i∈S->i ∉ d.all):Tc v j x d t:=⟨h.hp.keep f a,h.ok,h.tr.keep f b,h.apart⟩
theorem Tc.view(h:Tc H j o d i):View H (some ⟨j.h,0,none⟩) (some (j,o)):=.real h.hp h.ok
theorem Tc.step{S:List Nat}{H a:zV}{b:Blk}{x c:Hp}{q:TB}{t:Tr}(h:Tc H b x q t)(f:Fr S H a)(d: ∀i,i∈S->i∈b.all)(g:HpAt a b c)(k:SpOK c.sp):Tc a b c q t:=
 ⟨g,k,h.tr.keep f (λi e j=>h.apart i j (d i e)),h.apart⟩
abbrev spB(b:Blk):List Nat:=[b.sp,b.m,b.s]
theorem gH{i:Nat}(h:i∈spB j):i∈j.all:=by simp[spB]at h;simp[Blk.all];omega
theorem Tc.withMem{S:List Nat}{m:Mem}(h:Tc H j o d i)(f:Fr S H v)(a: ∀e,e∈S->e=j.m\/e=j.s)(hm:cR v j.m j.s m)(c:SpOK {o.sp with mem:=m}):Tc v j {o with sp:={o.sp with mem:=m}} d i:=
 h.step f (λe b=>by rcases a e b with rfl | rfl<;>simp[Blk.all]) (h.hp.withMem f a hm) c
theorem Tc.s1{x:Hp}(h:Tc H j x d i):hat H ⟨d.t,0,none⟩=some (vp (some ⟨j.h,0,none⟩))/\hat H ⟨j.h,0,none⟩=some (vp (some ⟨j.c,0,none⟩))/\hat H ⟨j.c,0,none⟩=some (vp (some ⟨j.sp,0,none⟩))/\hat H ⟨j.sp,0,none⟩=some (vp (some ⟨j.m,0,none⟩)):=
 ⟨h.tr.hPtr,h.hp.hPtr,h.hp.cd.cPtr,h.hp.cd.sp.memPtr⟩
theorem iW(T:Tc H j o d i):bE.C (some ⟨d.t,0,none⟩) H (λv a=>v=.bool i.over/\a=H):=by
 refine HC.via λR b=>bE.link ?_
 unfold bE.pt
 rw[onPtr_some]
 refine⟨_,T.tr.hPtr,?_⟩
 rw[onPtr_some]
 refine⟨_,by rw[addr_add_mk];exact T.tr.oAt,b _ _ ⟨?_,rfl⟩⟩
 cases i.over<;>rfl
def aG(old:Nat->Bool)(w:Int):Prop:=fC w/\w % 8≠6/\old (w / 8 / 64).toNat=true
instance (old:Nat->Bool) (w:Int):Decidable (aG old w):=by unfold aG;infer_instance
theorem ni(w:Int): ∃(a:Int) (p:Bool),(if(w % 8=1\/w % 8=2\/w % 8=3\/w % 8=6)/\w / 8<65536 then Value.tuple #[vi (w / 8),vT]else .tuple #[vi 0,vF])=.tuple #[vi a,.bool p]/\((fC w/\p=true/\a=w / 8)\/(¬fC w/\p=false/\a=0)):=by
 by_cases b:(w % 8=1\/w % 8=2\/w % 8=3\/w % 8=6)/\w / 8<65536
 ·rw[if_pos b];exact⟨_,_,rfl,.inl ⟨b,rfl,rfl⟩⟩
 ·rw[if_neg b];exact⟨_,_,rfl,.inr ⟨b,rfl,rfl⟩⟩
theorem jD(T:Tc H j o d i)(r:aC k):
  aZ.C (some ⟨d.t,0,none⟩) k H (λv c=>v=.bool (decide (i.over=false/\aG i.old k))/\Ext H c):=by
 refine HC.via λR t=>aZ.link ?_
 unfold aZ.pt zY
 refine HC.mono (iH r) ?_
 rintro _ z ⟨rfl,b⟩
 obtain⟨a,p,x,w⟩:=ni k
 refine⟨a,p,x,?_⟩
 refine HC.mono (iW (T.ext b)) ?_
 rintro _ A ⟨rfl,rfl⟩
 refine⟨_,rfl,?_⟩
 have no: ∀c,¬(i.over=false/\aG i.old k)->Ext H c->R vF c:=λc hn e=>t _ _ ⟨by rw[zQ hn],e⟩
 by_cases l:i.over=true
 ·rw[if_pos l];exact no _ (λh=>by rw[l]at h;cases h.1) b
 rw[if_neg l]
 rcases w with⟨g,rfl,rfl⟩ | ⟨g,rfl,rfl⟩
 case inr=>rw[if_neg (by decide)];exact no _ (λh=>g h.2.1) b
 rw[if_pos rfl]
 refine HC.mono (hM r) ?_
 rintro _ B ⟨rfl,q⟩
 refine⟨_,rfl,?_⟩
 by_cases f:k % 8=6
 ·rw[if_pos f];exact no _ (λh=>h.2.2.1 f) (b.trans q)
 rw[if_neg f]
 have y:k / 8<65536:=g.2
 have s:0<=k / 8:=by have:=r.1;omega
 rw[hX s,w64 (n:=k / 8 / 64) (by omega)]
 have u:=T.ext (b.trans q)
 refine⟨_,rfl,⟨by omega,by omega⟩,(if i.old (k / 8 / 64).toNat then 1 else 0),?_,t _ _ ⟨?_,b.trans q⟩⟩
 ·rw[addr_add_mk,addr_add_mk,Nat.zero_add,Nat.mul_one];exact u.tr.oldAt (by omega)
 ·congr 1
  by_cases m:i.old (k / 8 / 64).toNat=true
  ·rw[if_pos m,zX ⟨by simpa using l,g,f,m⟩];rfl
  ·rw[if_neg m,zQ (λh=>m h.2.2.2)];rfl
def Mem.fwd(m:Mem)(w:Int):Option Int:=if m.used (w / 8)/\fC (m.get (w / 8))/\m.get (w / 8) % 8=6 then some (m.get (w / 8) / 8*8+w % 8)else none
theorem nj(T:Tc H j o d i)(w:aC k)(s:fC k):
  cL.C (some ⟨d.t,0,none⟩) k H (λv l=>v=.tuple #[vu ((o.sp.mem.fwd k).getD k),.bool (o.sp.mem.fwd k).isSome]/\Ext H l):=by
 refine HC.via λR y=>cL.link ?_
 unfold cL.pt
 refine HC.mono (iH w) ?_
 rintro _ O ⟨rfl,m⟩
 rw[if_pos (show(k % 8=1\/k % 8=2\/k % 8=3\/k % 8=6)/\k / 8<65536 from s)]
 have r:=T.ext m
 obtain⟨K,L,M,N⟩:=r.s1
 refine⟨_,_,rfl,_,rfl,_,K,_,rfl,_,L,_,rfl,_,M,_,rfl,_,N,?_⟩
 have J:k / 8<65536:=s.2
 have I:0<=k / 8:=by have:=w.1;omega
 refine HC.mono (hU r.hp.cd.sp.mem r.ok.mem (by omega)) ?_
 rintro _ P ⟨rfl,rfl⟩
 have f: ∃(g e:Int),(if o.sp.mem.used (k / 8)then Value.tuple #[vu (o.sp.mem.get (k / 8)),vi 0]else .tuple #[vu 0,vi 18])=.tuple #[vu g,vi e]/\aC g/\((o.sp.mem.used (k / 8)/\g=o.sp.mem.get (k / 8)/\e=0)\/(¬o.sp.mem.used (k / 8)/\g=0/\e=18)):=by
  by_cases b:o.sp.mem.used (k / 8)
  ·rw[if_pos b];exact⟨_,_,rfl,(T.ok.mem.seg _).words _,.inl ⟨b,rfl,rfl⟩⟩
  ·rw[if_neg b];exact⟨_,_,rfl,by decide,.inr ⟨b,rfl,rfl⟩⟩
 obtain⟨g,e,u,c,B⟩:=f
 refine⟨g,e,u,?_⟩
 refine HC.mono (iH c) ?_
 rintro _ Q ⟨rfl,n⟩
 obtain⟨a,p,G,t⟩:=ni g
 refine⟨a,p,G,?_⟩
 have no: ∀l,¬(o.sp.mem.used (k / 8)/\fC (o.sp.mem.get (k / 8))/\o.sp.mem.get (k / 8) % 8=6)->Ext H l->R (.tuple #[vu k,vF]) l:=λl hn e=>y _ _ ⟨by unfold Mem.fwd;rw[if_neg hn];rfl,e⟩
 rcases B with⟨b,rfl,rfl⟩ | ⟨b,rfl,rfl⟩
 case inr=>rw[if_neg (by decide)];exact no _ (λh=>b h.1) (m.trans n)
 rw[if_pos rfl]
 rcases t with⟨f,rfl,rfl⟩ | ⟨f,rfl,rfl⟩
 case inr=>rw[if_neg (by decide)];exact no _ (λh=>f h.2.1) (m.trans n)
 rw[if_pos rfl]
 refine HC.mono (hM c) ?_
 rintro _ S ⟨rfl,x⟩
 refine⟨_,rfl,?_⟩
 by_cases q:o.sp.mem.get (k / 8) % 8=6
 case neg=>rw[if_neg q];exact no _ (λh=>q h.2.2) ((m.trans n).trans x)
 rw[if_pos q]
 refine HC.mono (hM w) ?_
 rintro _ U ⟨rfl,z⟩
 refine⟨_,rfl,?_⟩
 have E:o.sp.mem.get (k / 8) / 8<65536:=f.2
 have D:=c.1
 refine HC.mono (jV (by omega) (by omega)) ?_
 rintro _ V ⟨rfl,A⟩
 rw[if_neg (λF=>F s.1),if_pos (by omega)]
 refine⟨_,_,rfl,y _ _ ⟨?_,((((m.trans n).trans x).trans z).trans A)⟩⟩
 unfold Mem.fwd
 rw[if_pos ⟨b,f,q⟩];rfl
theorem fp(T:Tc H j o d i)(e:aC k):
  aU.C (some ⟨d.t,0,none⟩) k H (λv f=>v=.bool (decide (¬(i.over=false/\aG i.old k)) || (o.sp.mem.fwd k).isSome)/\Ext H f):=by
 refine HC.via λR c=>aU.link ?_
 unfold aU.pt
 refine HC.mono (jD T e) ?_
 rintro _ l ⟨rfl,b⟩
 refine⟨_,rfl,?_⟩
 by_cases a:i.over=false/\aG i.old k
 ·rw[if_pos (zX a)]
  refine HC.mono (nj (T.ext b) e a.2.1) ?_
  rintro _ m ⟨rfl,g⟩
  refine⟨_,_,rfl,c _ _ ⟨?_,b.trans g⟩⟩
  rw[zQ (λh=>h a),Bool.false_or]
 ·rw[if_neg (by simpa using a)]
  exact c _ _ ⟨by rw[zX a,Bool.true_or],b⟩
def Mem.row(m:Mem)(a:Int)(n:Nat):List Int:=(List.range n).map λi:Nat=>m.get (a+(i:Int))
theorem Mem.row_len(m:Mem)(a:Int)(n:Nat):(m.row a n).length=n:=by simp[Mem.row]
theorem Mem.row_get(m:Mem)(a:Int){n i:Nat}(h:i<n):(m.row a n)[i]'(by rw[Mem.row_len];exact h)=m.get (a+i):=by simp[Mem.row]
theorem Mem.row_take(m:Mem)(a:Int){n i:Nat}(h:i<n):(m.row a n).take (i+1)=(m.row a n).take i++[m.get (a+i)]:=by
 rw[List.take_succ_eq_append_getElem (by rw[Mem.row_len];exact h),Mem.row_get m a h]
def Mem.kindOf(m:Mem)(w:Int):Int:=(m.seg (w / 8 / 64).toNat).kind
def Sp.moved(m:Mem)(w:Int)(r:Sp×Int×Int):Sp:={r.1 with mem:=(r.1.mem.sets r.2.1 (m.row (w / 8) (m.sizeOf w).toNat)).set (w / 8) (r.2.1*8+6)}
def Sp.visit(s:Sp)(old:Nat->Bool)(T w:Int):Sp×Int:=
 if ¬aG old w then(s,w)
 else match s.mem.fwd w with
  | some v=>(s,v)
  | none=>
   if s.mem.sizeOf w=0 then(s,w)
   else if(s.alloc T (s.mem.kindOf w) (s.mem.sizeOf w)).2.2=0 then
    (Sp.moved s.mem w (s.alloc T (s.mem.kindOf w) (s.mem.sizeOf w)),(s.alloc T (s.mem.kindOf w) (s.mem.sizeOf w)).2.1*8+w % 8)
   else(s,w)
theorem Sp.visit_no(h: ¬aG u z):A.visit u k z=(A,z):=by unfold Sp.visit;rw[if_pos h]
theorem Sp.visit_fwd{s:Sp}{T w v:Int}(h:aG u w)(a:s.mem.fwd w=some v):s.visit u T w=(s,v):=by unfold Sp.visit;rw[if_neg (λb=>b h),a]
theorem Sp.visit_0(h:aG u z)(b:A.mem.fwd z=none)(a:A.mem.sizeOf z=0):A.visit u k z=(A,z):=by unfold Sp.visit;rw[if_neg (λc=>c h),b];simp only[];rw[if_pos a]
theorem Sp.visit_full(h:aG u z)(c:A.mem.fwd z=none)(a:A.mem.sizeOf z≠0)(b:(A.alloc k (A.mem.kindOf z) (A.mem.sizeOf z)).2.2≠0):A.visit u k z=(A,z):=by unfold Sp.visit;rw[if_neg (λd=>d h),c];simp only[];rw[if_neg a,if_neg b]
theorem Sp.visit_go{T w:Int}(h:aG u w)(c:A.mem.fwd w=none)(a:A.mem.sizeOf w≠0)(b:(A.alloc T (A.mem.kindOf w) (A.mem.sizeOf w)).2.2=0):
  A.visit u T w=(Sp.moved A.mem w (A.alloc T (A.mem.kindOf w) (A.mem.sizeOf w)),(A.alloc T (A.mem.kindOf w) (A.mem.sizeOf w)).2.1*8+w % 8):=by unfold Sp.visit;rw[if_neg (λd=>d h),c];simp only[];rw[if_neg a,if_pos b]
theorem Mem.size_used{m:Mem}(l:aX m)(p:m.Even)(u:aC k)(h:m.sizeOf k≠0):0<m.sizeOf k/\m.sizeOf k<=63/\(∀i:Nat,(i:Int)<m.sizeOf k->m.used (k / 8+i))/\k / 8 % 64+m.sizeOf k<=64/\0<=k / 8/\m.has (k / 8 / 64):=by
 unfold Mem.sizeOf at*
 have o:0<=k / 8:=by have:=u.1;omega
 by_cases d:m.isPair k
 ·rw[if_pos d]at h⊢
  have f:m.has (k / 8 / 64)/\(m.seg (k / 8 / 64).toNat).kind<=1/\k / 8 % 64< (m.seg (k / 8 / 64).toNat).n:=by
   rcases d.1 with q | q
   ·exact⟨q.2.2.1,by rw[q.2.2.2.1];decide,q.2.2.2.2⟩
   ·exact⟨q.2.2.1,by rw[q.2.2.2.1];decide,q.2.2.2.2⟩
  have r:=p _ f.2.1
  have v:=d.2
  have hn:=(l.seg (k / 8 / 64).toNat).n
  refine⟨by decide,by decide,λi s=>?_,by omega,o,f.1⟩
  have c:(k / 8+i) / 64=k / 8 / 64:=by omega
  have e:(k / 8+i) % 64=k / 8 % 64+i:=by omega
  exact⟨by omega,by rw[c];exact f.1,by rw[c,e];omega⟩
 ·rw[if_neg d]at h⊢
  by_cases b:m.isObj k
  ·rw[if_pos b]at h⊢
   have w:=b.len_lt
   have g:m.len k=hn (m.get (k / 8)):=by unfold Mem.len;rw[if_pos b]
   have t:=b.2.2
   have j:=(l.seg (k / 8 / 64).toNat).n
   have a:=b.1.2.2.1
   rw[g]
   refine⟨by omega,by omega,λi s=>?_,by omega,o,a⟩
   have c:(k / 8+i) / 64=k / 8 / 64:=by omega
   have e:(k / 8+i) % 64=k / 8 % 64+i:=by omega
   exact⟨by omega,by rw[c];exact a,by rw[c,e];omega⟩
  ·rw[if_neg b]at h;exact absurd rfl h
theorem Grown.not_in{m f:Mem}{o n:Int}(b:Grown m f k n z o){x:Int}(d:m.used x): ¬(k<=x/\x<k+n):=λh=>by
 obtain⟨g,i,j⟩:=b.addr
 have a:x / 64=k / 64:=by omega
 by_cases c:(m.seg (k / 64).toNat).taken=0
 ·have:=d.2.1.2.2;rw[a]at this;exact this c
 ·have l:=(b.old c).2.2.1
  have e:=d.2.2
  rw[a]at e
  omega
theorem Grown.get{m d:Mem}{a g k n:Int}(c:Grown m d a n g k){x:Int}(f:m.used x):d.get x=m.get x:=by
 unfold Mem.get
 by_cases b:(x / 64).toNat=(a / 64).toNat
 ·have e:(m.seg (a / 64).toNat).taken≠0:=by rw[<-b];exact f.2.1.2.2
  rw[b,(c.old e).2.2.2.1]
 ·rw[c.others _ b]
set_option maxRecDepth 100000 in
theorem qs(T:Tc H j o d i)(he:o.sp.mem.Even)(S:aC k)(hc:o.sp.mem.count<4611686018427387904)(az:i.over=false):
  aT.C (some ⟨d.t,0,none⟩) k H (λv t=>v=vu (o.sp.visit i.old i.tgt k).2/\Tc t j {o with sp:=(o.sp.visit i.old i.tgt k).1} d i/\Fr (spB j) H t):=by
 refine HC.via λR z=>aT.link ?_
 unfold aT.pt zY
 refine HC.mono (jD T S) ?_
 rintro _ H1 ⟨rfl,N⟩
 refine⟨_,rfl,?_⟩
 have q: ∀(v:Int) t,(o.sp.visit i.old i.tgt k)=(o.sp,v)->Ext H t->R (vu v) t:=λv t h e=>by
  rw[h]at z;exact z _ _ ⟨rfl,T.ext e,e.fr⟩
 by_cases l:aG i.old k
 case neg=>
  rw[if_neg (by simp[l])]
  exact q k _ (Sp.visit_no l) N
 rw[if_pos (zX ⟨az,l⟩)]
 have T1:=T.ext N
 refine HC.mono (nj T1 S l.1) ?_
 rintro _ H2 ⟨rfl,e2⟩
 refine⟨_,_,rfl,?_⟩
 have J:=N.trans e2
 cases hf:o.sp.mem.fwd k with
 | some v=>
  rw[if_pos (show(some v).isSome=true from rfl)]
  exact q v _ (Sp.visit_fwd l hf) J
 | none=>
 rw[if_neg (by simp)]
 have T2:=T.ext J
 refine⟨_,rfl,_,T2.tr.hPtr,?_⟩
 refine HC.mono (qr T2.view S) ?_
 rintro _ H3 ⟨rfl,e3⟩
 have ay:mof (some (j,o))=o.sp.mem:=rfl
 rw[ay]
 refine⟨_,rfl,?_⟩
 have W:=J.trans e3
 by_cases O:o.sp.mem.sizeOf k=0
 ·rw[if_pos O];exact q k _ (Sp.visit_0 l hf O) W
 rw[if_neg O]
 obtain⟨n0,bH,hu,b9,w0,A⟩:=Mem.size_used T.ok.mem he S O
 have bF:k / 8<65536:=l.1.2
 refine HC.mono (iH S) ?_
 rintro _ H4 ⟨rfl,e4⟩
 rw[if_pos (show(k % 8=1\/k % 8=2\/k % 8=3\/k % 8=6)/\k / 8<65536 from l.1)]
 have X:=W.trans e4
 have T4:=T.ext X
 obtain⟨E,F,G,M⟩:=T4.s1
 refine⟨_,_,rfl,_,E,_,rfl,_,F,_,rfl,_,G,_,rfl,_,M,?_⟩
 rw[hX w0,w64 (n:=k / 8 / 64) (by omega)]
 refine HC.mono (js T4.hp.cd.sp.mem) ?_
 rintro _ H5 ⟨rfl,e5⟩
 rw[if_pos A,zX A]
 have aw:(o.sp.mem.seg (k / 8 / 64).toNat).kind=o.sp.mem.kindOf k:=rfl
 generalize bE:o.sp.mem.seg (k / 8 / 64).toNat=I at*
 refine⟨_,_,_,_,_,_,_,_,rfl,λbW H6 hb a6=>?_⟩
 obtain⟨ap,hs⟩:=boxed (vs:=[vi I.gen,vi I.kind,vi I.n,vi (I.cards 0),vi (I.cards 1),vi (I.cards 2),vi (I.cards 3)]) (H1:=H6) (aO hb a6) rfl rfl
 refine⟨ap,λH7 ao=>?_⟩
 obtain⟨a9,hE⟩:=hs H7 ao
 have Z:=X.trans e5
 have e7:Ext H H7:=hE H (Z.trans (Ext.push' a6)) (by have:=Z.size;omega)
 have V:=T.ext e7
 obtain⟨E,F,G,M⟩:=V.s1
 refine⟨_,E,_,rfl,_,F,_,rfl,_,G,_,by rw[addr_add_mk];exact V.tr.tgtAt,I.kind,a9.2.1,?_⟩
 rw[aw]
 refine HC.mono (jS V.hp.cd.sp V.ok hc) ?_
 rintro _ H8 ⟨rfl,aL,f8⟩
 refine⟨_,_,rfl,?_⟩
 have h8:=V.hp.withSp f8 (λbZ Q=>by simp at Q;omega) aL
 have w:Fr (spB j) H H8:=e7.fr.trans f8
 by_cases P:(o.sp.alloc i.tgt (o.sp.mem.kindOf k) (o.sp.mem.sizeOf k)).2.2=0
 case neg=>
  rw[if_neg P]
  have ev:=Sp.visit_full l hf O P
  rw[ev]at z
  rw[Sp.alloc_fail T.ok P]at h8
  exact z _ _ ⟨rfl,T.step w (λbZ Q=>gH Q) h8 T.ok,w⟩
 rw[if_pos P]
 have ev:=Sp.visit_go l hf O P
 rw[ev]at z
 obtain⟨L,c⟩:=Sp.alloc_ok T.ok P
 unfold Sp.moved at z
 simp only at z
 generalize hn:o.sp.mem.sizeOf k=n at*
 generalize hr:o.sp.alloc i.tgt (o.sp.mem.kindOf k) n=r at*
 obtain⟨f,a,e⟩:=r
 simp only at*
 have ba:=T.ok.mem.lim
 obtain⟨bj,bk,bV⟩:=c.addr
 have bl:a<65536:=by omega
 have ac: ∀v∈o.sp.mem.row (k / 8) n.toNat,aC v:=λv hv=>by
  unfold Mem.row at hv
  obtain⟨bZ,_,rfl⟩:=List.mem_map.1 hv
  exact(T.ok.mem.seg _).words _
 refine⟨λbZ t=>(0<=bZ/\bZ<=n)/\Tc t j {o with sp:={f with mem:=f.mem.sets a ((o.sp.mem.row (k / 8) n.toNat).take bZ.toNat)}} d i/\Fr (spB j) H t,λbZ _=>(n-bZ).toNat,⟨by omega,?_,w⟩,?_⟩
 ·rw[show(0:Int).toNat=0 from rfl,List.take_zero]
  exact T.step w (λbZ Q=>gH Q) h8 L
 rintro bZ H9 ⟨Q,x,f9⟩
 by_cases a7:bZ<n
 ·rw[if_pos a7]
  obtain⟨E,F,G,M⟩:=x.s1
  refine⟨_,E,_,rfl,_,F,_,rfl,_,G,_,rfl,_,M,?_⟩
  rw[w64 (n:=k / 8+bZ) (by omega)]
  refine HC.mono (hU x.hp.cd.sp.mem x.ok.mem (by omega)) ?_
  rintro _ bc ⟨rfl,rfl⟩
  have K:o.sp.mem.used (k / 8+bZ):=by have:=hu bZ.toNat (by omega);rw[show((bZ.toNat:Nat):Int)=bZ by omega]at this;exact this
  have sm:=aY.sets ((o.sp.mem.row (k / 8) n.toNat).take bZ.toNat) f.mem a
  have ab:f.mem.used (k / 8+bZ):=by
   obtain⟨k1,g,k3⟩:=K
   by_cases b:((k / 8+bZ) / 64).toNat=(a / 64).toNat
   ·have ht:(o.sp.mem.seg (a / 64).toNat).taken≠0:=by rw[<-b];exact g.2.2
    obtain⟨o1,o2,o3,o4,o5,o6⟩:=c.old ht
    rw[b,o3]at k3
    exact⟨k1,⟨g.1,by rw[c.limit];exact g.2.1,by rw[b,o6];exact ht⟩,by rw[b,c.new.2.2.2];omega⟩
   ·have p:=c.others _ b
    exact⟨k1,⟨g.1,by rw[c.limit];exact g.2.1,by rw[p];exact g.2.2⟩,by rw[p];exact k3⟩
  have B:(((o.sp.mem.row (k / 8) n.toNat).take bZ.toNat).length:Int)=bZ:=by rw[List.length_take,Mem.row_len];omega
  have au:(f.mem.sets a ((o.sp.mem.row (k / 8) n.toNat).take bZ.toNat)).get (k / 8+bZ)=o.sp.mem.get (k / 8+bZ):=by
   rw[Mem.sets_get _ _ (by omega) bj (λc5 b=>?_),if_neg (by rw[B];have:=c.not_in K;omega),c.get K]
   have b:(c5:Int)<bZ:=by omega
   have N:(a+c5) / 64=a / 64:=by omega
   have e2:(a+c5) % 64=a % 64+c5:=by omega
   exact⟨by omega,by rw[N];exact⟨by omega,by rw[c.limit];exact bk,c.new.1⟩,by rw[N,e2,c.new.2.2.2];omega⟩
  rw[if_pos (sm.used.2 ab),au]
  refine⟨_,_,rfl,_,E,_,rfl,_,F,_,rfl,_,G,_,rfl,_,M,?_⟩
  rw[w64 (n:=a+bZ) (by omega),w64 (n:=bZ+1) (by omega)]
  refine HC.mono (gP x.hp.cd.sp.mem x.ok.mem (by omega)) ?_
  rintro _ U ⟨rfl,a8,a2⟩
  have a3:Fr (spB j) H U:=f9.trans (a2.mono (λc5 b _=>by simp at b;simp[spB];omega))
  have et:(o.sp.mem.row (k / 8) n.toNat).take (bZ+1).toNat=(o.sp.mem.row (k / 8) n.toNat).take bZ.toNat++[o.sp.mem.get (k / 8+bZ)]:=by
   rw[show(bZ+1).toNat=bZ.toNat+1 by omega,Mem.row_take _ _ (by omega),show((bZ.toNat:Nat):Int)=bZ by omega]
  have es:f.mem.sets a ((o.sp.mem.row (k / 8) n.toNat).take (bZ+1).toNat)=(if(f.mem.sets a ((o.sp.mem.row (k / 8) n.toNat).take bZ.toNat)).used (a+bZ)then(f.mem.sets a ((o.sp.mem.row (k / 8) n.toNat).take bZ.toNat)).set (a+bZ) (o.sp.mem.get (k / 8+bZ))else f.mem.sets a ((o.sp.mem.row (k / 8) n.toNat).take bZ.toNat)):=by
   rw[et,Mem.sets_snoc,B]
  have ax:cR U j.m j.s (f.mem.sets a ((o.sp.mem.row (k / 8) n.toNat).take (bZ+1).toNat)):=by rw[es];exact a8
  refine⟨_,rfl,⟨by omega,?_,a3⟩,by show(n-(bZ+1)).toNat< (n-bZ).toNat;omega⟩
  exact x.withMem (m:=f.mem.sets a ((o.sp.mem.row (k / 8) n.toNat).take (bZ+1).toNat)) a2 (λc5 b=>by simp at b;omega) ax (L.sets a (λv hv=>ac v (List.mem_of_mem_take hv)))
 ·rw[if_neg a7]
  have av:bZ.toNat=n.toNat:=by omega
  rw[av,List.take_of_length_le (by rw[Mem.row_len];omega)]at x
  refine HC.mono (jV (by omega) (by omega)) ?_
  rintro _ bd ⟨rfl,y⟩
  rw[if_neg (by decide),if_pos (by omega)]
  have u:=x.ext y
  obtain⟨E,F,G,M⟩:=u.s1
  refine⟨_,_,rfl,_,E,_,rfl,_,F,_,rfl,_,G,_,rfl,_,M,?_⟩
  refine HC.mono (gP u.hp.cd.sp.mem u.ok.mem (by omega)) ?_
  rintro _ aj ⟨rfl,D,a4⟩
  refine⟨_,rfl,?_⟩
  have aS:o.sp.mem.used (k / 8):=by have:=hu 0 (by omega);simpa using this
  have sm:=aY.sets (o.sp.mem.row (k / 8) n.toNat) f.mem a
  have aU:f.mem.used (k / 8):=by
   obtain⟨k1,g,k3⟩:=aS
   by_cases b:(k / 8 / 64).toNat=(a / 64).toNat
   ·have ht:(o.sp.mem.seg (a / 64).toNat).taken≠0:=by rw[<-b];exact g.2.2
    obtain⟨o1,o2,o3,o4,o5,o6⟩:=c.old ht
    rw[b,o3]at k3
    exact⟨k1,⟨g.1,by rw[c.limit];exact g.2.1,by rw[b,o6];exact ht⟩,by rw[b,c.new.2.2.2];omega⟩
   ·have p:=c.others _ b
    exact⟨k1,⟨g.1,by rw[c.limit];exact g.2.1,by rw[p];exact g.2.2⟩,by rw[p];exact k3⟩
  rw[if_pos (sm.used.2 aU)]at D
  have a5:Fr (spB j) H aj:=(f9.trans y.fr).trans (a4.mono (λc5 b _=>by simp at b;simp[spB];omega))
  have ag:=L.sets a ac
  have b1:SpOK {f with mem:=(f.mem.sets a (o.sp.mem.row (k / 8) n.toNat)).set (k / 8) (a*8+6)}:=ag.withMem (ag.mem.set (k / 8) ⟨by omega,by omega⟩) (λc6 h=>Mem.set_has.2 h) (λc6=>⟨((aY.set _ _ _).seg c6).1,((aY.set _ _ _).seg c6).2.1⟩)
  have ak:=u.withMem a4 (λc5 b=>by simp at b;omega) D b1
  refine HC.mono (hM S) ?_
  rintro _ be ⟨rfl,Y⟩
  refine⟨_,rfl,?_⟩
  refine HC.mono (jV (by omega) (by omega)) ?_
  rintro _ bf ⟨rfl,a0⟩
  rw[if_neg (λhh=>hh l.1.1),if_pos (by omega)]
  have a1:=Y.trans a0
  exact⟨_,_,rfl,z _ _ ⟨rfl,ak.ext a1,a5.trans a1.fr⟩⟩
variable{H:zV}{d:TypeId}{i:Nat}{j:Addr}{k:Array Value}{o:List Value}
theorem sM{a:zV}{z:Value}{n b:Nat}(e:b=H.size)(c:a=H.push (.cells (Builtin.zeroCells #[z] n) d)):Own a d 1 (some ⟨b,0,none⟩) n n (List.replicate n z):=by
 refine⟨rfl,_,aO e c,by rw[jx];rfl,Nat.le_refl _,by simp,λj f=>?_⟩
 have:=kL (z:= #[z]) (n:=n) (k:=j) (j:=0) (by omega) (by simp)
 simp only[List.size_toArray,List.length_singleton,Nat.mul_one,Nat.add_zero]at this
 rw[this,List.getElem?_replicate,if_pos (by omega)];rfl
theorem Own.put{n c i:Nat}{a:Addr}(h:Own H d 1 (some a) n c o)(t:i<n)(v:Value):
  aN H (a.add i) 0 1/\ ∀f,f=aV H (a.add i) [v] 0->Own f d 1 (some a) n c (o.set i v)/\Fr [a.block] H f:=by
 obtain⟨l,k,g,s,hn,r,p⟩:=h
 have m:a.add i=⟨a.block,i,none⟩:=by rw[l];simp
 rw[m]
 refine⟨cD g _ _ _ (by omega),λf b=>?_⟩
 rw[dO _ H k i 0 g]at b
 subst b
 refine⟨⟨l,_,bD (bC g),by rw[splice_size];exact s,hn,by rw[List.length_set];exact r,λj q=>?_⟩,Fr.set⟩
 rw[List.getElem?_set]
 by_cases e:i=j
 ·subst e
  rw[if_pos rfl,if_pos (by omega)]
  have:=eU k [v] (i+0) 0 (by simp;omega) (by simp)
  simpa using this
 ·rw[if_neg e,<-p j q]
  rcases Nat.lt_or_ge j i with h | h
  ·exact dJ _ _ _ _ (by omega)
  ·exact gf _ _ _ _ (by simp;omega)
theorem Own.puts{b n c o:Nat}{k vs:List Value}(h:Own H d b (some j) n c k)(w:o+vs.length<=n*b):
  aN H (j.add o) 0 vs.length/\ ∀f,f=aV H (j.add o) vs 0->Own f d b (some j) n c (k.take o++vs++k.drop (o+vs.length))/\Fr [j.block] H f:=by
 obtain⟨p,l,i,u,hn,v,q⟩:=h
 have t:n*b<=c*b:=Nat.mul_le_mul_right _ hn
 have s:j.add o=⟨j.block,o,none⟩:=by rw[p];simp
 rw[s]
 refine⟨cD i _ _ _ (by omega),λf a=>?_⟩
 rw[dO _ H l o 0 i]at a
 subst a
 refine⟨⟨p,_,bD (bC i),by rw[splice_size];exact u,hn,by simp;omega,λx r=>?_⟩,Fr.set⟩
 rw[Nat.add_zero]
 rcases Nat.lt_or_ge x o with g | g
 ·rw[dJ _ _ _ _ g,q x r,List.append_assoc,List.getElem?_append_left (by simp;omega),List.getElem?_take,if_pos g]
 rcases Nat.lt_or_ge x (o+vs.length)with m | m
 ·have e:=eU l vs o (x-o) (by omega) (by omega)
  rw[show o+(x-o)=x by omega]at e
  rw[e,List.append_assoc,List.getElem?_append_right (by simp;omega),List.length_take,Nat.min_eq_left (by omega),List.getElem?_append_left (by omega)]
 ·rw[gf _ _ _ _ m,q x r,List.getElem?_append_right (by simp;omega),List.getElem?_drop]
  simp only[List.length_append,List.length_take]
  rw[Nat.min_eq_left (by omega)]
  congr 1;omega
theorem Own.part{n c p k:Nat}(h:Own H d i (some j) n c o):aP H (j.add p) 0 ((o.drop p).take k):=by
 refine jw λm v a=>?_
 have b:o[p+m]?=some v:=by
  rw[List.getElem?_take]at a
  split at a
  ·rw[List.getElem?_drop]at a;exact a
  ·cases a
 obtain⟨l,g,e⟩:=h.at b
 cases g
 rw[Nat.zero_add]
 obtain⟨f,_⟩:=h
 rw[f]at e⊢
 simpa using e
theorem flat_get{α:Type}{f:α->List Value}{b:Nat}(c: ∀a,(f a).length=b): ∀(l:List α) (k r:Nat) (hk:k<l.length),r<b->(l.flatMap f)[k*b+r]?=(f l[k])[r]?
 | [],k,r,hk,hr=>by simp at hk
 | a::l,0,r,hk,hr=>by
  simp only[List.flatMap_cons,Nat.zero_mul,Nat.zero_add,List.getElem_cons_zero]
  rw[List.getElem?_append_left (by rw[c];exact hr)]
 | a::l,k+1,r,hk,hr=>by
  simp only[List.flatMap_cons,List.getElem_cons_succ]
  rw[List.getElem?_append_right (by rw[c,Nat.add_mul];omega),c,show(k+1)*b+r-b=k*b+r by rw[Nat.add_mul];omega]
  exact flat_get c l k r (by simpa using hk) hr
theorem Own.elem{α:Type}{f:α->List Value}{H:zV}{sz n c:Nat}{p:zW}{l:List α}(h:Own H d sz p n c (l.flatMap f))(i: ∀a,(f a).length=sz)(w:0<sz){k:Nat}(hk:k<l.length):
  ∃a,p=some a/\(∀r v,(f l[k])[r]?=some v->hat H ((a.add (k*sz)).add r)=some v)/\aP H (a.add (k*sz)) 0 (f l[k]):=by
 have q: ∃v,(f l[k])[0]?=some v:=⟨(f l[k])[0]'(by rw[i];exact w),by simp⟩
 obtain⟨A,t⟩:=q
 have u:=flat_get i l k 0 hk w
 rw[t,Nat.add_zero]at u
 obtain⟨a,y,_⟩:=h.at u
 subst y
 have g: ∀r,(a.add (k*sz)).add r=a.add (k*sz+r):=λr=>by rw[h.1];simp
 have x: ∀r v,(f l[k])[r]?=some v->hat H ((a.add (k*sz)).add r)=some v:=λr v m=>by
  have s:r<sz:=by
   rcases Nat.lt_or_ge r (f l[k]).length with b | b
   ·rw[i]at b;exact b
   ·simp[List.getElem?_eq_none b]at m
  have e:=flat_get i l k r hk s
  rw[m]at e
  obtain⟨z,o,b⟩:=h.at e
  cases o
  rw[g];exact b
 exact⟨a,rfl,x,jw λj v m=>by rw[Nat.zero_add];exact x j v m⟩
theorem gL(a:Addr)(i j:Nat):(a.add i).add j=a.add (i+j):=by
 by_cases b:i=0<;>by_cases c:j=0<;>simp[Addr.add,b,c,Nat.add_assoc]
theorem getD_at{α:Type}{l:List α}(h:i<l.length)(d:α):l.getD i d=l[i]:=by
 rw[List.getD,List.getElem?_eq_getElem h];rfl
theorem lG(h:k.size=o.length):splice k 0 o=o.toArray:=by
 refine Array.ext_getElem? λi=>?_
 have e:o.toArray[i]?=o[i]?:=by simp
 rw[e]
 rcases Nat.lt_or_ge i o.length with a | a
 ·have:=eU k o 0 i (by omega) a
  rw[Nat.zero_add]at this;exact this
 ·rw[List.getElem?_eq_none a,Array.getElem?_eq_none (by rw[splice_size];omega)]
theorem tK{a:zV}{b n:Nat}{vs:List Value}(h:b=H.size)(f:a=H.push (.cells k d))(hn:k.size=n)(i:vs.length=n):
  aN a ⟨b,0,none⟩ 0 n/\ ∀c,c=aV a ⟨b,0,none⟩ vs 0->c[b]?=some (.cells vs.toArray d (0,0))/\Ext H c:=by
 have g:=aO h f
 refine⟨cD g n 0 0 (by omega),λc e=>?_⟩
 rw[dO vs a k 0 0 g,Nat.add_zero,lG (by omega)]at e
 subst e
 exact⟨bD (bC g),(Ext.push' f).set (by omega)⟩
theorem ig{a:Nat×Nat}(g:H[i]?=some (.cells k d a))(o:Nat):hat H ((Addr.mk i 0 none).add o)=k[o]?:=by
 rw[addr_add_mk,Nat.zero_add];exact aK g
theorem aP.sub{b:List Value}(k:Nat)(h:aP H j 0 o)(e:(o.drop k).take b.length=b):aP H (j.add k) 0 b:=by
 refine jw λd v a=>?_
 have c:o[k+d]?=some v:=by
  rw[<-e,List.getElem?_take]at a
  split at a
  ·rw[List.getElem?_drop]at a;exact a
  ·cases a
 have:=gy h (k+d) v c
 rw[gL,Nat.zero_add]
 rw[Nat.zero_add]at this;exact this
theorem iO{vs:List Value}{a:Nat×Nat}(g:H[i]?=some (.cells vs.toArray d a)):aP H ⟨i,0,none⟩ 0 vs:=
 gK g vs 0 0 (λj b=>by simp)
theorem lH{b n:Nat}{vs:List Value}(g:H[b]?=some (.cells k d (0,0)))(hn:k.size=n)(e:vs.length=n):
  aN H ⟨b,0,none⟩ 0 n/\ ∀a,a=aV H ⟨b,0,none⟩ vs 0->a[b]?=some (.cells vs.toArray d (0,0))/\Fr [b] H a:=by
 refine⟨cD g n 0 0 (by omega),λa c=>?_⟩
 rw[dO vs H k 0 0 g,Nat.add_zero,lG (by omega)]at c
 subst c
 exact⟨bD (bC g),Fr.set⟩
theorem k8(a:Addr):a.add 0=a:=by unfold Addr.add;cases a;split<;>simp_all
def uM(o:Option (Blk×Hp)):Option (Blk×Hp):=match o with | none=>none | some (b,x)=>some (b,{x with ep:=IntKind.wrap .u64 (x.ep+1)})
def hown(o:Option (Blk×Hp)):List Nat:=match o with | none=> [] | some (b,_)=> [b.h]
theorem HpAt.epAt{b:Blk}{x:Hp}(h:HpAt H b x):hat H ⟨b.h,3,none⟩=some (vu x.ep):=by rw[aK h.h];rfl
theorem HpAt.putEp{b:Blk}{x:Hp}(h:HpAt H b x)(e:Int):aN H ⟨b.h,3,none⟩ 0 1/\HpAt (aV H ⟨b.h,3,none⟩ [vu e] 0) b {x with ep:=e}/\Fr [b.h] H (aV H ⟨b.h,3,none⟩ [vu e] 0):=by
 refine⟨cD h.h _ _ _ (by simp),?_⟩
 rw[dO _ _ _ _ _ h.h]
 have f:Fr [b.h] H (bN H b.h (.cells (splice #[vp (some ⟨b.c,0,none⟩),x.sy,x.en,vu x.ep] (3+0) [vu e]) 51 (0,0))):=Fr.set
 refine⟨⟨h.cd.keep f ?_ ?_ ?_ ?_,h.ne,by rw[bD (bC h.h)];rfl⟩,f⟩<;>have:=h.ne<;>simp<;>omega
theorem qt{d:zW}{o:Option (Blk×Hp)}(V:View H d o):fG.C d H (λv e=>View e d (uM o)/\Fr (hown o) H e):=by
 refine HC.via λR c=>fG.link ?_
 unfold fG.pt
 refine HC.mono (kX V) ?_
 rintro _ j ⟨rfl,rfl⟩
 refine⟨_,rfl,?_⟩
 cases V with
 | nobody=>rw[if_pos (show(none:Option (Blk×Hp)).isNone=true from rfl)];exact c _ _ ⟨.nobody,Fr.refl _ _⟩
 | empty h=>rw[if_pos (show(none:Option (Blk×Hp)).isNone=true from rfl)];exact c _ _ ⟨.empty h,Fr.refl _ _⟩
 | @real b x h i=>
  rw[if_neg (show ¬(some (b,x)).isNone=true from Bool.false_ne_true)]
  obtain⟨g,f⟩:=h.putEp (IntKind.wrap .u64 (x.ep+1))
  refine⟨_,rfl,_,by rw[addr_add_mk];exact h.epAt,by rw[addr_add_mk];exact g,λk a=>?_⟩
  rw[addr_add_mk]at a
  subst a
  exact c _ _ ⟨.real f.1 i,f.2⟩
def Mem.objWords(m:Mem)(w:Int):List Int:=(List.range (m.len w).toNat).map λ(i:Nat)=>m.get (w / 8+1+(i:Int))
theorem Mem.objWords_len(m:Mem)(w:Int):(m.objWords w).length=(m.len w).toNat:=by unfold Mem.objWords;simp
theorem Mem.objWords_get(m:Mem)(w:Int)(h:i< (m.objWords w).length):(m.objWords w)[i]=m.get (w / 8+1+(i:Int)):=by simp[Mem.objWords]
theorem ib.words{m:Mem}{w a b:Int}{c:List Int}(h:ib m w a b c):m.objWords w=c:=by
 refine List.ext_getElem (by rw[Mem.objWords_len,h.len];omega) λi e d=>?_
 rw[Mem.objWords_get]
 exact h.get i d
end Go.Proofs.YtfhbhckhmnleoaaGreat
namespace Go.Proofs.YtfhbhckhmnleoaaGreat
open Go Go.Proofs.Tryz
open Go Go.Proofs.Tryz Go.Shelf Go.RowKit Go.Lib Go.Sort Go.Proofs
variable{H:zV}
def lI:Go.Shelf.Ren:=⟨λ| 6=>88 | 15=>128 | 14=>127 | 28=>148 | 29=>149 | 20=>140 | 21=>141 | 22=>142 | 23=>143 | 24=>144 | 25=>145 | 26=>146 | 27=>147 | 46=>152 | 47=>153 | 48=>154 | 49=>155 | 50=>156 | 57=>158 | n=>n,λ| 22=>75 | 24=>3 | 25=>164 | 3=>3 | 39=>34 | 0=>0 | 53=>60 | 55=>22 | 4=>4 | 46=>214 | 45=>213 | 50=>115 | 5=>5 | 9=>9 | 66=>223 | 70=>227 | 76=>230 | 77=>231 | n=>n,λ| n=>n⟩
theorem pm:Go.Proofs.SlLaysF.n6 prog lI:={
 mixed:=by kernel_rfl
 f6:=⟨f88.name,by decide,func88.trans (congrArg some (by kernel_rfl))⟩
 f14:=⟨f127.name,by decide,func127.trans (congrArg some (by kernel_rfl))⟩
 f15:=func128.trans (congrArg some (by kernel_rfl))
 f20:=⟨f140.name,by decide,func140.trans (congrArg some (by kernel_rfl))⟩
 f21:=⟨f141.name,by decide,func141.trans (congrArg some (by kernel_rfl))⟩
 f22:=⟨f142.name,by decide,func142.trans (congrArg some (by kernel_rfl))⟩
 f23:=⟨f143.name,by decide,func143.trans (congrArg some (by kernel_rfl))⟩
 f24:=⟨f144.name,by decide,func144.trans (congrArg some (by kernel_rfl))⟩
 f25:=⟨f145.name,by decide,func145.trans (congrArg some (by kernel_rfl))⟩
 f26:=⟨f146.name,by decide,func146.trans (congrArg some (by kernel_rfl))⟩
 f27:=⟨f147.name,by decide,func147.trans (congrArg some (by kernel_rfl))⟩
 f28:=func148.trans (congrArg some (by kernel_rfl))
 f29:=func149.trans (congrArg some (by kernel_rfl))
 f46:=⟨f152.name,by decide,func152.trans (congrArg some (by kernel_rfl))⟩
 f47:=func153.trans (congrArg some (by kernel_rfl))
 f48:=func154.trans (congrArg some (by kernel_rfl))
 f49:=⟨f155.name,by decide,func155.trans (congrArg some (by kernel_rfl))⟩
 f50:=⟨f156.name,by decide,func156.trans (congrArg some (by kernel_rfl))⟩
 f57:=⟨f158.name,by decide,func158.trans (congrArg some (by kernel_rfl))⟩
 t0:=underlying0
 a0:=isAgg0
 z0:=sizeOf0
 v0:=zeroValue0
 t3:=underlying3
 a3:=isAgg3
 z3:=sizeOf3
 v3:=zeroValue3
 t4:=underlying4
 a4:=isAgg4
 z4:=sizeOf4
 v4:=zeroValue4
 t5:=underlying5
 a5:=isAgg5
 z5:=sizeOf5
 v5:=zeroValue5
 t9:=underlying9
 a9:=isAgg9
 z9:=sizeOf9
 v9:=zeroValue9
 t22:=underlying75
 a22:=isAgg75
 z22:=sizeOf75
 v22:=zeroValue75
 a24:=isAgg3
 z24:=sizeOf3
 t25:=underlying164
 a25:=isAgg164
 z25:=sizeOf164
 v25:=zeroValue164
 t39:=underlying34
 a39:=isAgg34
 z39:=sizeOf34
 v39:=zeroValue34
 t45:=underlying213
 a45:=isAgg213
 z45:=sizeOf213
 v45:=zeroValue213
 t46:=underlying214
 a46:=isAgg214
 z46:=sizeOf214
 v46:=zeroValue214
 t50:=underlying115
 a50:=isAgg115
 z50:=sizeOf115
 v50:=zeroValue115
 t53:=underlying60
 a53:=isAgg60
 z53:=sizeOf60
 v53:=zeroValue60
 t55:=underlying22
 a55:=isAgg22
 z55:=sizeOf22
 v55:=zeroValue22
 t66:=underlying223
 a66:=isAgg223
 z66:=sizeOf223
 v66:=zeroValue223
 t70:=underlying227
 a70:=isAgg227
 z70:=sizeOf227
 v70:=zeroValue227
 t76:=underlying230
 a76:=isAgg230
 z76:=sizeOf230
 v76:=zeroValue230
 t77:=underlying231
 a77:=isAgg231
 z77:=sizeOf231
 v77:=zeroValue231}
theorem po{p:zW}{c:Nat}{b:Value}:HC prog 88 #[vs p 0 c,b] H (λv d=>v=.tuple #[]/\d=H):=λw g=>by
 have h:=AnyF.slices_SortFunc_none (P:=prog) (ρ:=lI) {pm with} p c b w
 exact h.mono λe i ⟨f,a⟩=>⟨_,f,by subst a;exact Same.refl _,rfl,by rw[a];exact g⟩
theorem qv{w c:World}(s:Same w c)(e:Ext w.heap c.heap): ∃q d,c=grow (w.drewN q) d:=by
 refine⟨c.drawn-w.drawn,c.heap.extract w.heap.size c.heap.size,?_⟩
 obtain⟨l,m,n,p⟩:=s
 cases w with
 | mk heap o drawn v g=>
 cases c with
 | mk a j b d f=>
 simp only at l m n p e
 subst l m n
 have r:drawn+(b-drawn)=b:=by omega
 have t:heap++a.extract heap.size a.size=a:=by
  refine Array.ext_getElem? λi=>?_
  have u:=e.size
  rcases Nat.lt_or_ge i heap.size with h | h
  ·rw[Array.getElem?_append_left h,e.old i h]
  ·rw[Array.getElem?_append_right h,Array.getElem?_extract]
   split
   ·congr 1;omega
   ·rw[Array.getElem?_eq_none (by omega)]
 simp only[grow,World.drewN,r,t]
variable {k:Nat}
def encF(i:Fin (k+1)):Value:=vi (i.val:Int)
theorem ml{b i:Nat}{f:Obj->Obj}:(H.modify b f)[i]?=if b=i then H[i]?.map f else H[i]?:=by
 rw[Array.getElem?_modify]
theorem ux{T:TypeId}{b n c g:Nat}{cb:Array Value}{o:List (Fin (k+1))}{tk:Fin (k+1)->Int}(D:Own H T 1 (some ⟨b,0,none⟩) n c (o.map encF))(hn:n<4611686018427387904)
  (X: ∀args w,(callFunc g args).run prog w=.ok (.enter g args) w)
  (I: ∀s,Fr [b] H s-> ∀x y:Fin (k+1),HC prog g (#[encF x,encF y]++cb) s (λv G=>v=vi (Lib.compareInt (tk x) (tk y))/\Ext s G)):
  HC prog 88 #[vs (some ⟨b,0,none⟩) n c,.func (.func g) #[] cb] H (λv s=>v=.tuple #[]/\ ∃R:List (Fin (k+1)),R.Perm o/\R.Pairwise (λx y=>tk x<=tk y)/\Own s T 1 (some ⟨b,0,none⟩) n c (R.map encF)/\Fr [b] H s):=λw hw=>by
 subst hw
 have f:=D.len
 simp only[List.length_map,Nat.mul_one]at f
 obtain⟨_,S,E,J,P,hl,hc⟩:=D
 have q:=bC E
 have r: ∀(d:Array (Fin (k+1))),d.size=n-> ∀m l,(sortWorld encF w b 0 m d l).heap=(w.heap.modify b (onCells (putCells encF 0 d)))++l:=λd F m l=>rfl
 have C: ∀(d:Array (Fin (k+1))) (l:zV),((w.heap.modify b (onCells (putCells encF 0 d)))++l)[b]?=some (.cells (putCells encF 0 d S) T (0,0)):=λd l=>by
  rw[Array.getElem?_append_left (by simpa using q),ml,if_pos rfl,E];rfl
 have B: ∀(d:Array (Fin (k+1))) (l:zV),Fr [b] w.heap ((w.heap.modify b (onCells (putCells encF 0 d)))++l):=λd l=>by
  refine⟨by simp,λi L hn=>?_⟩
  rw[Array.getElem?_append_left (by simpa using L),ml,if_neg (by simp at hn;omega)]
 have Z:SWO (ltOf λx y:Fin (k+1)=>Lib.compareInt (tk x) (tk y)):=by
  have e: ∀x y,ltOf (λx y:Fin (k+1)=>Lib.compareInt (tk x) (tk y)) x y=decide (tk x<tk y):=λx y=>by
   unfold ltOf Lib.compareInt
   by_cases a:tk x<tk y
   ·simp[a]
   ·by_cases u:tk y<tk x<;>simp[a,u]
  exact⟨λx=>by rw[e];simp,λx y z a u=>by rw[e]at*;simp at*;omega,λx y z a u=>by rw[e]at*;simp at*;omega⟩
 have Y:Holds encF w b 0 o.toArray:=λj t=>by
  have N:j<o.length:=by simpa using t
  have a:=hc j (by omega)
  rw[List.getElem?_map,List.getElem?_eq_getElem N]at a
  refine⟨?_,?_⟩
  ·unfold World.cell?
   simp only[E]
   simp only[Option.isSome_none,Bool.false_eq_true,if_false,Nat.zero_add]
   rw[a]
   simp[getElem!_pos o.toArray j t]
  ·unfold World.frozen?
   simp only[E]
   simp
 have A:CmpLays1 prog g cb encF (λx y:Fin (k+1)=>Lib.compareInt (tk x) (tk y)) b 0 o.toArray.size w:=λm l U K x y=>by
  refine(I _ (by rw[r U (by simpa using K.trans (by simpa using f))];exact B U l) x y _ rfl).mono ?_
  rintro e w' ⟨v,rfl,Q,rfl,he⟩
  exact⟨rfl,qv Q he⟩
 have h:=Any.slices_SortFunc pm encF (λ_=>rfl) (λx y:Fin (k+1)=>Lib.compareInt (tk x) (tk y)) Z g cb b 0 c o.toArray w X A Y q (by simpa using(by omega:o.length<4611686018427387904))
 rw[show o.toArray.size=n by simpa using f]at h
 refine h.mono ?_
 rintro e w' ⟨rfl,p,m,l,V,Q,rfl⟩
 have F:p.size=n:=by rw[V.1];simpa using f
 refine⟨_,rfl,⟨rfl,rfl,rfl,Nat.le_add_right _ _⟩,rfl,p.toList,?_,?_,?_,B p l⟩
 ·have a:=V.2.2
  simp only[Array.extract_eq_self_of_le,F,Nat.le_refl]at a
  have W:((o.toArray).extract 0 n).toList=o:=by rw[show n=o.toArray.size by simp;omega];simp
  rw[W]at a
  exact a
 ·rw[List.pairwise_iff_getElem]
  intro i j L t M
  have a:=Q i j (Nat.zero_le _) M (by simpa using(by simpa[F]using t))
  unfold ltOf Lib.compareInt at a
  rw[getElem!_pos p i (by simpa using L),getElem!_pos p j (by simpa using t)]at a
  simp only[Array.getElem_toList]
  by_cases u:tk p[j]<tk p[i]
  ·simp[u]at a
  ·omega
 ·refine⟨rfl,_,C p l,by simp[putCells,J],P,by simp[F],λj t=>?_⟩
  have O:j<S.size:=by omega
  simp only[putCells,Array.getElem?_mapIdx,Array.getElem?_eq_getElem O,Option.map_some]
  rw[if_pos ⟨Nat.zero_le _,by omega⟩,Nat.sub_zero,getElem!_pos p j (by omega)]
  simp[List.getElem?_eq_getElem (show j<p.toList.length by simp;omega)]
end Go.Proofs.YtfhbhckhmnleoaaGreat
namespace Go.Proofs.YtfhbhckhmnleoaaGreat
open Go Go.Proofs.Tryz
variable{d:List Int}{H:zV}{i:Mem}{j:zW}{k:Nat}
def ivs(l:List Int):List Value:=l.map (Value.int .i64)
theorem lJ{x y:Int}:cmp_Compare_int.C x y H (λv d=>v=vi (Lib.compareInt x y)/\d=H):=by
 refine HC.via λR a=>cmp_Compare_int.link ?_
 unfold cmp_Compare_int.pt
 refine cmp_isNaN_int.link ?_
 unfold cmp_isNaN_int.pt
 refine⟨_,rfl,cmp_isNaN_int.link ?_⟩
 unfold cmp_isNaN_int.pt
 refine⟨_,rfl,?_⟩
 have e: ¬(x !=x)=true:=by simp
 have f: ¬(y !=y)=true:=by simp
 rw[if_neg e,if_neg f]
 unfold Lib.compareInt at a
 by_cases b:x<y
 ·rw[if_pos b]at a⊢;exact a _ _ ⟨rfl,rfl⟩
 rw[if_neg b]at a⊢
 by_cases c:x>y
 ·rw[if_pos c]at a⊢;exact a _ _ ⟨rfl,rfl⟩
 ·rw[if_neg c]at a⊢;exact a _ _ ⟨rfl,rfl⟩
theorem mG(h:gc H j (ivs d)){i:Nat}(b:i<d.length): ∃a,j=some a/\hat H (a.add (i*1))=some (vi d[i]):=by
 cases j with
 | none=>rw[SrcAt_none]at h;simp[ivs]at h;subst h;simp at b
 | some a=>
  refine⟨a,rfl,?_⟩
  have:=gy (show aP H a 0 _ from h) i (vi d[i]) (by simp[ivs,b])
  rw[Nat.zero_add]at this;rw[Nat.mul_one];exact this
theorem kn{n c:Nat}{v:Int}(k:gc H j (ivs d))(hn:n=d.length)(q:n<=1000000):
  bI.C j n c v H (λu p=>u=.bool (decide (v∈d))/\p=H):=by
 subst hn
 refine HC.via λR m=>bI.link ?_
 unfold bI.pt
 refine cM.link ?_
 unfold cM.pt zY
 refine⟨λi A=>(0<=i/\i<=d.length)/\v ∉ d.take i.toNat/\A=H,λi _=>(d.length-i).toNat,⟨by omega,by simp,rfl⟩,?_⟩
 rintro i A ⟨o,l,rfl⟩
 by_cases b:i< (d.length:Int)
 ·rw[if_pos b]
  have f:i.toNat<d.length:=by omega
  obtain⟨a,rfl,g⟩:=mG k f
  refine⟨a,rfl,⟨o.1,b⟩,_,g,?_⟩
  by_cases e:v=d[i.toNat]
  ·rw[if_pos e]
   refine⟨_,rfl,?_⟩
   rw[zX (show i>=0 from o.1)]
   exact m _ _ ⟨by rw[zX (e▸List.getElem_mem f)],rfl⟩
  ·rw[if_neg e,w64 (n:=i+1) (by omega)]
   have k:(i+1).toNat=i.toNat+1:=by omega
   refine⟨⟨by omega,?_,rfl⟩,by show((d.length:Int)-(i+1)).toNat< ((d.length:Int)-i).toNat;omega⟩
   rw[k,List.take_succ_eq_append_getElem f]
   intro h
   rcases List.mem_append.1 h with h | h
   ·exact l h
   ·exact e (by simpa using h)
 ·rw[if_neg b]
  rw[List.take_of_length_le (by omega)]at l
  refine⟨_,rfl,?_⟩
  rw[zQ (by decide)]
  exact m _ _ ⟨by rw[zQ l],rfl⟩
def Mem.takenTo(m:Mem)(gs:List Int)(k:Nat):List Nat:=(List.range k).filter λi=>decide (0< (m.seg i).taken) && (gs.isEmpty || decide ((m.seg i).gen∈gs))
structure cU (m:Mem) (gs:List Int) (l:List Nat):Prop where
 perm:l.Perm (m.takenTo gs m.limit)
 sorted:l.Pairwise (λi j=>(m.seg i).taken<=(m.seg j).taken)
theorem Mem.takenTo_lt{a:Nat}(h:a∈i.takenTo d k):a<k:=by
 unfold Mem.takenTo at h;rw[List.mem_filter,List.mem_range]at h;exact h.1
theorem Mem.takenTo_len(m:Mem)(a:List Int)(k:Nat):(m.takenTo a k).length<=k:=by
 unfold Mem.takenTo;refine Nat.le_trans (List.length_filter_le _ _) (by simp)
theorem Mem.takenTo_succ(m:Mem)(a:List Int)(k:Nat):m.takenTo a (k+1)=m.takenTo a k++(if 0< (m.seg k).taken/\(a=[]\/(m.seg k).gen∈a)then[k]else[]):=by
 unfold Mem.takenTo
 rw[List.range_succ,List.filter_append]
 congr 1
 by_cases h:0< (m.seg k).taken/\(a=[]\/(m.seg k).gen∈a)
 ·rw[if_pos h]
  have:(decide (0< (m.seg k).taken) && (a.isEmpty || decide ((m.seg k).gen∈a)))=true:=by
   rcases h with⟨b,rfl | c⟩<;>simp_all
  simp[this]
 ·rw[if_neg h]
  have:(decide (0< (m.seg k).taken) && (a.isEmpty || decide ((m.seg k).gen∈a)))=false:=by
   simp only[Bool.and_eq_false_iff,Bool.or_eq_false_iff,decide_eq_false_iff_not,List.isEmpty_eq_false_iff]
   by_cases b:0< (m.seg k).taken
   ·refine .inr ⟨λc=>h ⟨b,.inl c⟩,λc=>h ⟨b,.inr c⟩⟩
   ·exact .inl b
  simp[this]
set_option maxRecDepth 100000 in
theorem jg{bm bs:Nat}{gB:zW}{Y gC:Nat}{gs:List Int}(M:cR H bm bs i)(ok:aX i)(hg:gc H gB (ivs gs))(K:Y=gs.length)(b9:Y<=1000):
  cW.C (some ⟨bm,0,none⟩) gB Y gC H (λv H'=> ∃(B:zW) (c:Nat) (l:List Nat),v=vs B l.length c/\cU i gs l/\Own H' 3 1 B l.length c (ivs (l.map λbj:Nat=>(bj:Int)))/\(∀bj∈blks B,H.size<=bj)/\Ext H H'):=by
 refine HC.via λR hR=>cW.link ?_
 unfold cW.pt zY
 have aw:=ok.lim
 intro b q hb u
 have X:Ext H q:=Ext.push' u
 have g1:=aO hb u
 have s1:q.size=H.size+1:=by rw[u];simp
 refine⟨_,by rw[aK g1];rfl,?_⟩
 rw[onPtr_some]
 have M1:=M.ext X
 refine⟨_,by rw[aK g1];rfl,_,rfl,_,_,_,M1.segsAt.choose_spec,?_⟩
 refine⟨λB n c bj A=>(0<=bj/\bj<=i.limit)/\n=(i.takenTo gs bj.toNat).length/\Own A 3 1 B n c (ivs ((i.takenTo gs bj.toNat).map λbj:Nat=>(bj:Int)))/\(∀j∈blks B,q.size<=j)/\Ext q A,λ_ _ _ bj _=>(i.limit-bj).toNat,
  ⟨by omega,rfl,iB,by simp,Ext.refl _⟩,?_⟩
 rintro B n c bj A ⟨hi,rfl,e,E,r⟩
 have W:=M1.ext r
 have gA:=r.get g1
 by_cases D:bj< (i.limit:Int)
 ·rw[if_pos D]
  have L:bj.toNat<i.limit:=by omega
  have hs:(bj+1).toNat=bj.toNat+1:=by omega
  have h7:=W.at L (j:=7) (by decide)
  have Z:=W.at L (j:=0) (by decide)
  refine⟨_,by rw[aK gA];rfl,_,rfl,_,_,_,W.segsAt.choose_spec,_,rfl,⟨hi.1,D⟩,(i.seg bj.toNat).taken,by rw[addr_add_mk,addr_add_mk,Nat.zero_add];exact h7,?_⟩
  rw[w64 (n:=bj+1) (by omega)]
  have hm:((i.limit:Int)-(bj+1)).toNat< ((i.limit:Int)-bj).toNat:=by omega
  have ba:=i.takenTo_len gs bj.toNat
  have t: ∀(p:zV) (G:Nat) (U:zV),Ext A p->G=p.size->U=p.push (.cells #[vi bj] 3)->(0< (i.seg bj.toNat).taken/\(gs=[]\/(i.seg bj.toNat).gen∈gs))->
    fE 1 3 8 [vi 0] B (i.takenTo gs bj.toNat).length c (some (Addr.mk G 0 none)) 1 U (λap a3 H4=>
     ((0<=bj+1/\bj+1<=i.limit)/\(i.takenTo gs bj.toNat).length+1=(i.takenTo gs (bj+1).toNat).length/\Own H4 3 1 ap ((i.takenTo gs bj.toNat).length+1) a3 (ivs ((i.takenTo gs (bj+1).toNat).map λbj:Nat=>(bj:Int)))/\(∀j∈blks ap,q.size<=j)/\Ext q H4)/\((i.limit:Int)-(bj+1)).toNat< ((i.limit:Int)-bj).toNat):=by
   intro p G U o w I d
   have e2:Ext p U:=Ext.push' I
   refine fU (ys:=[vi bj]) (e.ext (o.trans e2)) (gK (aO w I) _ 0 0 (λj F=>by simp)) rfl rfl rfl (by omega) ?_
   intro p' c' H4 Q f4 ag
   have g:i.takenTo gs (bj.toNat+1)=i.takenTo gs bj.toNat++[bj.toNat]:=by rw[Mem.takenTo_succ,if_pos d]
   refine⟨⟨by omega,by rw[hs,g];simp,?_,λj F=>?_,((r.trans o).trans e2).fr_trans f4 E⟩,hm⟩
   ·rw[hs,g,List.map_append]
    have:(bj.toNat:Int)=bj:=by omega
    simpa[ivs,this]using Q
   ·rcases ag j F with h | h
    ·exact E j h
    ·have:=r.size;have:=o.size;have:=e2.size;omega
  have skip: ∀(p:zV),Ext A p-> ¬(0< (i.seg bj.toNat).taken/\(gs=[]\/(i.seg bj.toNat).gen∈gs))->
    ((0<=bj+1/\bj+1<=i.limit)/\(i.takenTo gs bj.toNat).length=(i.takenTo gs (bj+1).toNat).length/\Own p 3 1 B (i.takenTo gs bj.toNat).length c (ivs ((i.takenTo gs (bj+1).toNat).map λbj:Nat=>(bj:Int)))/\(∀j∈blks B,q.size<=j)/\Ext q p)/\((i.limit:Int)-(bj+1)).toNat< ((i.limit:Int)-bj).toNat:=by
   intro p o d
   have g:i.takenTo gs (bj.toNat+1)=i.takenTo gs bj.toNat:=by rw[Mem.takenTo_succ,if_neg d,List.append_nil]
   exact⟨⟨by omega,by rw[hs,g],by rw[hs,g];exact e.ext o,E,r.trans o⟩,hm⟩
  by_cases T:(i.seg bj.toNat).taken>0
  ·rw[if_pos T]
   by_cases z:(Y:Int)=0
   ·rw[if_pos z]
    have ac:gs=[]:=List.length_eq_zero_iff.1 (by omega)
    intro G H3 w a8
    exact t A G H3 (Ext.refl _) w a8 ⟨T,.inl ac⟩
   ·rw[if_neg z]
    refine⟨(i.seg bj.toNat).gen,by rw[addr_add_mk,Nat.zero_add];exact Z,?_⟩
    refine HC.mono (kn ((hg.ext X).ext r) K (by omega)) ?_
    rintro _ H5 ⟨rfl,h5⟩
    subst h5
    refine⟨_,rfl,?_⟩
    have ah:gs≠[]:=λh=>z (by rw[K,h];rfl)
    by_cases d:(i.seg bj.toNat).gen∈gs
    ·rw[if_pos (zX d)]
     intro b3 H6 ab a9
     exact t _ b3 H6 (Ext.refl _) ab a9 ⟨T,.inr d⟩
    ·rw[if_neg (by simpa using d)]
     exact skip _ (Ext.refl _) (λh=>h.2.elim ah d)
  ·rw[if_neg T]
   exact skip _ (Ext.refl _) (λh=>T h.1)
 rw[if_neg D]
 have af:bj.toNat=i.limit:=by omega
 rw[af]at e⊢
 cases B with
 | none=>
  obtain⟨Z,rfl,_⟩:=e
  have P:i.takenTo gs i.limit=[]:=List.length_eq_zero_iff.1 Z
  rw[Z]
  refine HC.mono po ?_
  rintro _ H8 ⟨_,rfl⟩
  exact hR _ _ ⟨none,0,[],rfl,⟨by rw[P],List.Pairwise.nil⟩,iB,by simp,X.trans r⟩
 | some a=>
  have ha:a=⟨a.block,0,none⟩:=e.1
  obtain⟨k,hk⟩: ∃k,i.limit=k+1:=⟨i.limit-1,by omega⟩
  have O: ∀bj∈i.takenTo gs i.limit,bj<k+1:=λbj hi=>hk▸Mem.takenTo_lt hi
  generalize aj:(i.takenTo gs i.limit).attach.map (λbj=>(⟨bj.1,O bj.1 bj.2⟩:Fin (k+1)))=xs
  have m:xs.map (λx=>x.val)=i.takenTo gs i.limit:=by rw[<-aj];simp
  have J:ivs ((i.takenTo gs i.limit).map λbj:Nat=>(bj:Int))=xs.map encF:=by
   rw[<-m];simp[ivs,encF,Function.comp_def]
  rw[J]at e
  rw[ha]at e⊢
  have b7:a.block≠b:=by have:=E a.block (by simp);omega
  have b4:a.block≠bm/\a.block≠bs:=by
   have:=E a.block (by simp);have:=M.lt;omega
  refine HC.mono (ux (k:=k) (tk:=λx=>(i.seg x.val).taken) e (by have:=i.takenTo_len gs i.limit;omega) (enters_of func89 (by kernel_rfl) rfl) ?_) ?_
  ·intro H' f x y
   refine HC.via λR' aa=>fV.link ?_
   unfold fV.pt
   have gb:=f.get (b:=b) (by simp;omega) gA
   have V:=W.keep f (by simp;omega) (by simp;omega)
   have ai:=V.at (k:=x.val) (by have:=x.isLt;omega) (j:=7) (by decide)
   have ak:=V.at (k:=y.val) (by have:=y.isLt;omega) (j:=7) (by decide)
   have bb:=x.isLt
   have bc:=y.isLt
   refine⟨_,rfl,_,by rw[aK gb];rfl,_,rfl,_,_,_,V.segsAt.choose_spec,_,rfl,⟨by omega,by omega⟩,(i.seg x.val).taken,by rw[show Int.toNat (x.val:Int)=x.val by omega,addr_add_mk,addr_add_mk,Nat.zero_add];exact ai,
    _,by rw[aK gb];rfl,_,rfl,_,_,_,V.segsAt.choose_spec,_,rfl,⟨by omega,by omega⟩,(i.seg y.val).taken,by rw[show Int.toNat (y.val:Int)=y.val by omega,addr_add_mk,addr_add_mk,Nat.zero_add];exact ak,?_⟩
   refine HC.mono lJ ?_
   rintro _ az ⟨rfl,a7⟩
   exact⟨_,rfl,aa _ _ ⟨rfl,a7▸Ext.refl _⟩⟩
  ·rintro _ H8 ⟨_,ys,hp,S,s,f8⟩
   have N:(ys.map (λy=>y.val)).length=(i.takenTo gs i.limit).length:=by
    rw[List.length_map,hp.length_eq,<-m,List.length_map]
   rw[<-N]at s⊢
   refine hR _ _ ⟨some ⟨a.block,0,none⟩,c,ys.map (λy=>y.val),rfl,⟨?_,?_⟩,?_,λj F=>?_,(X.trans r).fr_trans f8 (λj F=>?_)⟩
   ·rw[<-m];exact hp.map _
   ·exact List.pairwise_map.2 S
   ·have:ivs ((ys.map λy=>y.val).map λbj:Nat=>(bj:Int))=ys.map encF:=by simp[ivs,encF,Function.comp_def]
    rw[this];exact s
   ·simp at F;have:=E a.block (by simp);omega
   ·simp at F;have:=E a.block (by simp);omega
def Mem.sumN(m:Mem)(l:List Nat):Int:=(l.map λi=>(m.seg i).n).sum
def Mem.words(m:Mem)(gs:List Int):Int:=m.sumN (m.takenTo gs m.limit)
theorem pp(m:Mem)(l a:List Nat):m.sumN (l++a)=m.sumN l+m.sumN a:=by unfold Mem.sumN;rw[List.map_append,List.sum_append]
theorem cU.has{l:List Nat}(h:cU i d l)(c:k∈l):i.has (k:Int)/\k<i.limit/\0< (i.seg k).taken/\(d=[]\/(i.seg k).gen∈d):=by
 have a:=h.perm.subset c
 have b:=Mem.takenTo_lt a
 unfold Mem.takenTo at a
 rw[List.mem_filter]at a
 simp only[Bool.and_eq_true,decide_eq_true_eq,Bool.or_eq_true,List.isEmpty_iff]at a
 refine⟨⟨by omega,by omega,?_⟩,b,a.2.1,a.2.2⟩
 have:((k:Int)).toNat=k:=by omega
 rw[this];omega
theorem cU.len{l:List Nat}(h:cU i d l):l.length<=i.limit:=by
 rw[h.perm.length_eq];exact i.takenTo_len d _
theorem nk{T:TypeId}{n c:Nat}{l:List Nat}(b:Own H T 1 j n c (ivs (l.map λi:Nat=>(i:Int)))){i:Nat}(e:i<l.length): ∃a,j=some a/\hat H (a.add (i*1))=some (vi (l[i]:Int)):=by
 obtain⟨a,d,h⟩:=mG b.src (i:=i) (by simpa using e)
 exact⟨a,d,by simpa using h⟩
