/-
 A heap of a law's own: what is made on it. Proves nothing of any one statement.
-/
import Derived.Test.YtfhbhckhmnleoaaGreatPair
import Derived.Test.YtfhbhckhmnleoaaGreatLx
import Derived.Laws.RangeAny
import Derived.Shelf.SlSortCmp.NoneTotal
set_option linter.unusedVariables false
set_option linter.unusedSimpArgs false
namespace Go.Proofs.YtfhbhckhmnleoaaGreat
open Go
variable{a:Blk}{b:Hp}{d g i k:Int}{H j:zV}{o:Mem}
theorem View.inv{c:zW}(V:View H c (some (a,b))):c=some ⟨a.h,0,none⟩/\HpAt H a b/\SpOK b.sp:=by
 cases V with
 | real h d=>exact⟨rfl,h,d⟩
structure Live (H0 H:zV) (b:Blk) (x:Hp):Prop where
 at':HpAt H b x
 ok:SpOK x.sp
 ext:Ext H0 H
 young: ∀i,i∈b.all->H0.size<=i
theorem Live.view(h:Live H j a b):View j (some ⟨a.h,0,none⟩) (some (a,b)):=.real h.at' h.ok
theorem Live.grow{H0 H c:zV}(h:Live H0 H a b)(e:Ext H c):Live H0 c a b:=⟨h.at'.ext e,h.ok,h.ext.trans e,h.young⟩
theorem Live.step{d H a:zV}{b:Blk}{x e:Hp}(h:Live d H b x)(V:View a (some ⟨b.h,0,none⟩) (some (b,e)))(f:Fr (own (some (b,x))) H a):Live d a b e:=by
 obtain⟨_,g,c⟩:=V.inv
 exact⟨g,c,h.ext.fr_trans f (λi j=>h.young i (by simp[own]at j;simp[Blk.all];omega)),h.young⟩
theorem Live.others(f:Fr (own (some (a,b))) H j):Fr a.all H j:=f.mono (λi c _=>by simp[own]at c;simp[Blk.all];omega)
theorem Live.n64(h:Live H j a b)(k:Nat):(b.sp.mem.seg k).n<=64:=(h.ok.mem.seg k).n.2
theorem lZ(b:Blk)(x:Hp)(a c:Int)(d:List Int):iy (some (b,x)) a c d=(x.sp.make a c d).2/\iM (some (b,x)) a c d=some (b,{x with sp:=(x.sp.make a c d).1}):=by
 unfold iy iM Sp.make
 split
 ·exact⟨rfl,rfl⟩
 split
 ·exact⟨rfl,rfl⟩
 ·exact⟨rfl,rfl⟩
structure ru (x x':Hp) (w kind more:Int) (ws:List Int):Prop where
 thing:fi x'.sp.mem w kind more ws
 made:Made x.sp.mem x'.sp.mem w ws.length
theorem o9(L:Live H j a b){kind more:Int}{c:List Int}(d:1<=kind/\kind<=13)(e:0<=more/\more<281474976710656)(n:c.length<=62)(o: ∀w∈c,aC w)(m:1<=b.sp.mem.free):
  ∃(w:Int) (f:Hp),iy (some (a,b)) kind more c=(w,0)/\iM (some (a,b)) kind more c=some (a,f)/\ru b f w kind more c:=by
 obtain⟨i,k,p,l⟩:=Sp.make_ok L.ok d e n o m
 obtain⟨g,h⟩:=lZ a b kind more c
 exact⟨_,_,by rw[g,<-i],h,⟨k,l⟩⟩
def Mem.Even(m:Mem):Prop:= ∀k,(m.seg k).kind<=1->(m.seg k).n % 2=0
theorem kX(a:Nat):(Mem.fresh a).Even:=λ_ _=>rfl
theorem aS.even{m a:Mem}(h:aS m a)(b:m.Even):a.Even:=λk hk=>by
 rw[(h.seg k).2.2.1];exact b k (by rw[<-(h.seg k).2.1];exact hk)
theorem Mem.Even.store{m:Mem}(h:m.Even)(a w:Int):(m.store a w).1.Even:=λk hk=>by
 rw[(Mem.store_seg k).2.2];exact h k (by rw[<-(Mem.store_seg k).2.1];exact hk)
theorem Grown.even{m l:Mem}(a:Grown m l d g i k)(f:m.Even)(hn:k<=1->g % 2=0):l.Even/\(k<=1->d % 2=0):=by
 obtain⟨r,s,t⟩:=a.addr
 have c:k<=1->d % 64 % 2=0:=λhk=>by
  by_cases h:(m.seg (d / 64).toNat).taken=0
  ·rw[a.fresh h];rfl
  ·obtain⟨_,p,q,_⟩:=a.old h
   rw[<-q];exact f _ (by rw[p];exact hk)
 refine⟨λj b=>?_,λhk=>by have:=c hk;omega⟩
 by_cases e:j=(d / 64).toNat
 ·subst e
  obtain⟨_,_,n,o⟩:=a.new
  rw[n]at b
  have:=c b
  have:=hn b
  rw[o];omega
 ·rw[a.others j e]at b⊢;exact f j b
structure Pr (m:Mem) (w tag a d:Int):Prop where
 word:aC w
 istag:tag=1\/tag=2
 at':m.atW w tag (tag-1)
 even:w / 8 % 2=0
 used:m.used (w / 8+1)
 car:m.get (w / 8)=a
 cdr:m.get (w / 8+1)=d
theorem Pr.isPair{m:Mem}(h:Pr m d g i k):m.isPair d:=by
 refine⟨?_,h.even⟩
 rcases h.istag with e | e
 ·have:=h.at';rw[e]at this;exact .inl this
 ·have:=h.at';rw[e]at this;exact .inr this
theorem Pr.half(h:Pr o d g i k):o.halfE d 0=0/\o.halfE d 1=0:=by
 unfold Mem.halfE
 rw[if_pos h.isPair,if_pos h.isPair,if_pos h.used]
 refine⟨?_,rfl⟩
 rw[if_pos]
 rw[show d / 8+0=d / 8 by omega];exact h.at'.used h.word
theorem fi.notPair{b:List Int}(h:fi o d g i b): ¬o.isPair d:=λa=>by
 have c:=h.obj.1.2.1
 rcases a.1 with a | a<;>have:=a.2.1<;>omega
theorem Pr.size{m:Mem}{w b a d:Int}(h:Pr m w b a d):m.sizeOf w=2:=by unfold Mem.sizeOf;rw[if_pos h.isPair]
theorem fi.size{m:Mem}{ws:List Int}(h:fi m d g i ws):m.sizeOf d=ws.length+1:=by
 unfold Mem.sizeOf;rw[if_neg h.notPair,if_pos h.obj,h.len]
theorem Pr.keep{c:Mem}{w b a d:Int}(h:Pr o w b a d)(k:Keep o c):Pr c w b a d:=by
 obtain⟨e,f,g,_,_⟩:=k.used _ (h.at'.used h.word)
 obtain⟨i,j,_⟩:=k.used _ h.used
 exact⟨h.word,h.istag,⟨h.at'.1,h.at'.2.1,e.2.1,by rw[g];exact h.at'.2.2.2.1,e.2.2⟩,h.even,i,by rw[f];exact h.car,by rw[j];exact h.cdr⟩
theorem Sp.cons_ok0{s:Sp}(u:SpOK s)(D:s.mem.Even){tag x y:Int}(E:tag=1\/tag=2)(J:aC x)(K:aC y)(g:(s.alloc 0 (tag-1) 2).2.2=0):
  (s.put (tag-1) tag [x,y]).2.2=0/\Pr (s.put (tag-1) tag [x,y]).1.mem (s.put (tag-1) tag [x,y]).2.1 tag x y/\SpOK (s.put (tag-1) tag [x,y]).1/\Made s.mem (s.put (tag-1) tag [x,y]).1.mem (s.put (tag-1) tag [x,y]).2.1 1/\(s.put (tag-1) tag [x,y]).1.mem.Even:=by
 have k:may 0 (tag-1) (([x,y]:List Int).length:Nat):=⟨by omega,.inl ⟨by omega,rfl⟩⟩
 have g:(s.alloc 0 (tag-1) (([x,y]:List Int).length:Nat)).2.2=0:=g
 have j: ∀w∈[x,y],aC w:=λw t=>by
  simp at t;rcases t with rfl | rfl<;>assumption
 obtain⟨a,l,f,n,p,A,_⟩:=Sp.put_ok (tag:=tag) u k (by omega) j g
 obtain⟨F,d,b⟩:=f.lay u.mem
 have m:=aS.sets [x,y] (s.alloc 0 (tag-1) (([x,y]:List Int).length:Nat)).1.mem a
 obtain⟨B,e⟩:=f.even D (λ_=>by simp)
 have e:=e (by omega)
 rw[l,n]
 obtain⟨v,G,z⟩:=f.addr
 simp only[List.length_cons,List.length_nil]at z
 have c:(a*8+tag) / 8=a:=by omega
 have h:=b 0 (by simp)
 have o:=b 1 (by simp)
 rw[show a+((0:Nat):Int)=a by omega]at h
 refine⟨rfl,⟨⟨by omega,by omega⟩,E,⟨⟨by omega,by omega⟩,by omega,by rw[c];exact h.2.1,?_,by rw[c];exact h.2.2⟩,by rw[c];exact e,by rw[c];exact o,?_,?_⟩,p,⟨F,?_,?_,?_⟩,m.even B⟩
 ·rw[c,(m.seg _).2.1,f.new.2.2.1]
 ·rw[c,d a v,if_pos ⟨by omega,by simp<;>omega⟩];simp
 ·rw[c,d _ (by omega),if_pos ⟨by omega,by simp<;>omega⟩,show(a+1-a).toNat=1 by omega];rfl
 ·rw[m.free];exact f.free
 ·rw[m.count];exact f.count
 ·rw[c]
  intro i I r
  have l:(a+i) / 64=a / 64:=by omega
  have n:(a+i) % 64=a % 64+i:=by omega
  by_cases q:(s.mem.seg (a / 64).toNat).taken=0
  ·have:=r.2.1.2.2
   rw[l]at this
   exact this q
  ·have H:=(f.old q).2.2.1
   have C:=r.2.2
   rw[l,n]at C
   omega
theorem Sp.cons_ok{s:Sp}(a:SpOK s)(b:s.mem.Even)(e:d=1\/d=2)(f:aC g)(h:aC i)(c:1<=s.mem.free):
  (s.put (d-1) d [g,i]).2.2=0/\Pr (s.put (d-1) d [g,i]).1.mem (s.put (d-1) d [g,i]).2.1 d g i/\SpOK (s.put (d-1) d [g,i]).1/\Made s.mem (s.put (d-1) d [g,i]).1.mem (s.put (d-1) d [g,i]).2.1 1/\(s.put (d-1) d [g,i]).1.mem.Even:=
 Sp.cons_ok0 a b e f h (Sp.alloc_can a ⟨by omega,.inl ⟨by omega,rfl⟩⟩ c)
theorem Pr.set{m:Mem}{w b a j v:Int}(h:Pr m w b a j)(i:aV m)(c:d=0\/d=1):Pr (m.store (w / 8+d) v).1 w b (if d=0 then v else a) (if d=0 then j else v):=by
 have g:0<=w / 8:=by have:=h.word.1;omega
 have e:=h.at'.used h.word
 have f:m.used (w / 8+d):=by
  rcases c with rfl | rfl
  ·rw[Int.add_zero];exact e
  ·exact h.used
 refine⟨h.word,h.istag,⟨h.at'.1,h.at'.2.1,Mem.store_has.2 h.at'.2.2.1,by rw[(Mem.store_seg _).2.1];exact h.at'.2.2.2.1,by rw[(Mem.store_seg _).2.2];exact h.at'.2.2.2.2⟩,h.even,Mem.store_used.2 h.used,?_,?_⟩
 ·rw[Mem.store_get f _ g]
  rcases c with rfl | rfl
  ·rw[if_pos (by omega),if_pos rfl]
  ·rw[if_neg (by omega),if_neg (by decide)];exact h.car
 ·rw[Mem.store_get f _ (by omega)]
  rcases c with rfl | rfl
  ·rw[if_neg (by omega),if_pos rfl];exact h.cdr
  ·rw[if_pos rfl,if_neg (by decide)]
structure jS (x x':Hp) (w tag a d:Int):Prop where
 pr:Pr x'.sp.mem w tag a d
 made:Made x.sp.mem x'.sp.mem w 1
 even:x'.sp.mem.Even
 rest:x'.sy=x.sy/\x'.en=x.en/\x'.ep=x.ep
theorem pb(L:Live H j a b)(l:b.sp.mem.Even){tag p d:Int}(n:tag=1\/tag=2)(i:aC p)(k:aC d)(m:1<=b.sp.mem.free):
  ∃(w:Int) (c:Hp),putR (some (a,b)) (tag-1) tag [p,d]=(w,0)/\putO (some (a,b)) (tag-1) tag [p,d]=some (a,c)/\jS b c w tag p d:=by
 obtain⟨e,f,o,g,h⟩:=Sp.cons_ok L.ok l n i k m
 exact⟨_,_,by show(b.sp.put (tag-1) tag [p,d]).2=_;rw[<-e],rfl,⟨f,g,h,rfl,rfl,rfl⟩⟩
variable{H k:zV}{d:Blk}{g o:Int}{i:Hp}{j:Nat->Bool}{u:Sp}
structure Tr where
 tgt:Int
 old:Nat->Bool
 frm:List (Int×Value)
 seen:List (Int×Value)
 cards:List (Int×Int)
 over:Bool
variable{b:Tr}
structure TB where
 t:Nat
 f:Nat
 s:Nat
 cB:zW
 cN:Nat
 cC:Nat
variable{a:TB}
def TB.all(q:TB):List Nat:=q.t::q.f::q.s::blks q.cB
def cT(l:List (Int×Int)):List Value:=l.flatMap λc=> [vi c.1,vi c.2]
structure TrAt (H:zV) (b:Blk) (q:TB) (t:Tr):Prop where
 tr: ∃cs:Array Value,H[q.t]?=some (.cells cs 106 (0,0))/\cs.size=1030/\cs[0]?=some (vp (some ⟨b.h,0,none⟩))/\cs[1]?=some (vi t.tgt)/\(∀k,k<1024->cs[2+k]?=some (vi (if t.old k then 1 else 0)))/\cs[1026]?=some (.map (some q.f))/\cs[1027]?=some (.map (some q.s))/\cs[1028]?=some (vs q.cB q.cN q.cC)/\cs[1029]?=some (vi (if t.over then 1 else 0))
 frm: ∃(es:Array MapEntry) (cl:Nat),H[q.f]?=some (.map es cl)/\Ents (cU .i64) es.toList t.frm
 seen: ∃(es:Array MapEntry) (cl:Nat),H[q.s]?=some (.map es cl)/\Ents (cU .i64) es.toList t.seen
 cards:eK H q.cB (cT t.cards)
 cB: ∀a,q.cB=some a->a.block<H.size
 clen:q.cN=t.cards.length/\q.cN<=4096
 ne:q.t≠q.f/\q.t≠q.s/\q.f≠q.s/\ ∀i∈blks q.cB,i≠q.t/\i≠q.f/\i≠q.s
theorem TrAt.lt{b:Blk}{q:TB}{t:Tr}(h:TrAt H b q t): ∀i,i∈q.all->i<H.size:=by
 intro i c
 obtain⟨p,g,_⟩:=h.tr
 obtain⟨r,o,j,_⟩:=h.frm
 obtain⟨f,e,k,_⟩:=h.seen
 have l:=bB g
 have m:=bB j
 have n:=bB k
 simp only[TB.all,List.mem_cons]at c
 rcases c with rfl | rfl | rfl | c
 ·exact l
 ·exact m
 ·exact n
 ·cases d:q.cB with
  | none=>rw[d]at c;simp at c
  | some a=>rw[d]at c;simp at c;rw[c];exact h.cB a d
theorem TrAt.keep{S:List Nat}{q:TB}(h:TrAt H d q b)(f:Fr S H k)(e: ∀i,i∈S->i ∉ q.all):TrAt k d q b:=by
 obtain⟨r,t,x⟩:=h.tr
 obtain⟨s,p,u,n⟩:=h.frm
 obtain⟨l,j,v,o⟩:=h.seen
 refine⟨⟨r,f.get (λc=>e _ c (by simp[TB.all])) t,x⟩,⟨s,p,f.get (λc=>e _ c (by simp[TB.all])) u,n⟩,⟨l,j,f.get (λc=>e _ c (by simp[TB.all])) v,o⟩,?_,λa w=>Nat.lt_of_lt_of_le (h.cB a w) f.size,h.clen,h.ne⟩
 have g:=h.cards
 cases m:q.cB with
 | none=>rw[m]at g;exact g
 | some a=>
  rw[m]at g
  exact f.rowAt (λc=>e _ c (by simp[TB.all,m])) g
theorem TrAt.ext{b:Blk}{t:Tr}(h:TrAt H b a t)(e:Ext H k):TrAt k b a t:=h.keep (S:=[]) e.fr (by simp)
theorem TrAt.hPtr(h:TrAt H d a b):hat H ⟨a.t,0,none⟩=some (vp (some ⟨d.h,0,none⟩)):=by
 obtain⟨f,e,_,c,_⟩:=h.tr
 rw[aH e,c]
theorem TrAt.tgtAt(h:TrAt H d a b):hat H ⟨a.t,1,none⟩=some (vi b.tgt):=by
 obtain⟨f,e,_,_,c,_⟩:=h.tr
 rw[aH e,c]
theorem TrAt.oldAt(h:TrAt H d a b){k:Nat}(hk:k<1024):hat H ⟨a.t,2+k,none⟩=some (vi (if b.old k then 1 else 0)):=by
 obtain⟨f,e,_,_,_,c,_⟩:=h.tr
 rw[aH e,c k hk]
theorem TrAt.fAt{H:zV}(h:TrAt H d a b):hat H ⟨a.t,1026,none⟩=some (.map (some a.f)):=by
 obtain⟨g,e,_,_,_,_,c,_⟩:=h.tr
 rw[aH e,c]
theorem TrAt.sAt(h:TrAt H d a b):hat H ⟨a.t,1027,none⟩=some (.map (some a.s)):=by
 obtain⟨f,e,_,_,_,_,_,c,_⟩:=h.tr
 rw[aH e,c]
theorem TrAt.cAt(h:TrAt H d a b):hat H ⟨a.t,1028,none⟩=some (vs a.cB a.cN a.cC):=by
 obtain⟨f,e,_,_,_,_,_,_,c,_⟩:=h.tr
 rw[aH e,c]
theorem TrAt.oAt(h:TrAt H d a b):hat H ⟨a.t,1029,none⟩=some (vi (if b.over then 1 else 0)):=by
 obtain⟨f,e,_,_,_,_,_,_,_,c⟩:=h.tr
 rw[aH e,c]
structure Tc (H:zV) (b:Blk) (x:Hp) (q:TB) (t:Tr):Prop where
 hp:HpAt H b x
 ok:SpOK x.sp
 tr:TrAt H b q t
 apart: ∀i,i∈q.all->i ∉ b.all
theorem Tc.ext{b:Blk}{t:Tr}(h:Tc H b i a t)(e:Ext H k):Tc k b i a t:=⟨h.hp.ext e,h.ok,h.tr.ext e,h.apart⟩
theorem Tc.keep{S:List Nat}{x:Hp}(h:Tc H d x a b)(f:Fr S H k)(c: ∀i,i∈S->i ∉ d.all)(e: ∀i,i∈S->i ∉ a.all):Tc k d x a b:=⟨h.hp.keep f c,h.ok,h.tr.keep f e,h.apart⟩
theorem Tc.view(h:Tc H d i a b):View H (some ⟨d.h,0,none⟩) (some (d,i)):=.real h.hp h.ok
theorem Tc.step{S:List Nat}{H a:zV}{b:Blk}{x c:Hp}{q:TB}{t:Tr}(h:Tc H b x q t)(f:Fr S H a)(d: ∀i,i∈S->i∈b.all)(g:HpAt a b c)(k:SpOK c.sp):Tc a b c q t:=
 ⟨g,k,h.tr.keep f (λi e j=>h.apart i j (d i e)),h.apart⟩
abbrev spB(b:Blk):List Nat:=[b.sp,b.m,b.s]
theorem eY{i:Nat}(h:i∈spB d):i∈d.all:=by simp[spB]at h;simp[Blk.all];omega
theorem Tc.withMem{S:List Nat}{m:Mem}(h:Tc H d i a b)(f:Fr S H k)(c: ∀j,j∈S->j=d.m\/j=d.s)(hm:cw k d.m d.s m)(g:SpOK {i.sp with mem:=m}):Tc k d {i with sp:={i.sp with mem:=m}} a b:=
 h.step f (λj e=>by rcases c j e with rfl | rfl<;>simp[Blk.all]) (h.hp.withMem f c hm) g
theorem Tc.s1{x:Hp}(h:Tc H d x a b):hat H ⟨a.t,0,none⟩=some (vp (some ⟨d.h,0,none⟩))/\hat H ⟨d.h,0,none⟩=some (vp (some ⟨d.c,0,none⟩))/\hat H ⟨d.c,0,none⟩=some (vp (some ⟨d.sp,0,none⟩))/\hat H ⟨d.sp,0,none⟩=some (vp (some ⟨d.m,0,none⟩)):=
 ⟨h.tr.hPtr,h.hp.hPtr,h.hp.cd.cPtr,h.hp.cd.sp.memPtr⟩
theorem gU(T:Tc H d i a b):bC.C (some ⟨a.t,0,none⟩) H (λv c=>v=.bool b.over/\c=H):=by
 refine HC.via λR e=>bC.link ?_
 unfold bC.pt
 rw[onPtr_some]
 refine⟨_,T.tr.hPtr,?_⟩
 rw[onPtr_some]
 refine⟨_,by rw[addr_add_mk];exact T.tr.oAt,e _ _ ⟨?_,rfl⟩⟩
 cases b.over<;>rfl
def aF(old:Nat->Bool)(w:Int):Prop:=dH w/\w % 8≠6/\old (w / 8 / 64).toNat=true
instance (old:Nat->Bool) (w:Int):Decidable (aF old w):=by unfold aF;infer_instance
theorem kY(w:Int): ∃(a:Int) (p:Bool),(if(w % 8=1\/w % 8=2\/w % 8=3\/w % 8=6)/\w / 8<65536 then Value.tuple #[vi (w / 8),vT]else .tuple #[vi 0,vF])=.tuple #[vi a,.bool p]/\((dH w/\p=true/\a=w / 8)\/(¬dH w/\p=false/\a=0)):=by
 by_cases b:(w % 8=1\/w % 8=2\/w % 8=3\/w % 8=6)/\w / 8<65536
 ·rw[if_pos b];exact⟨_,_,rfl,.inl ⟨b,rfl,rfl⟩⟩
 ·rw[if_neg b];exact⟨_,_,rfl,.inr ⟨b,rfl,rfl⟩⟩
theorem kZ(T:Tc H d i a b)(q:aC g):
  cy.C (some ⟨a.t,0,none⟩) g H (λv f=>v=.bool (decide (b.over=false/\aF b.old g))/\Ext H f):=by
 refine HC.via λR s=>cy.link ?_
 unfold cy.pt zY
 refine HC.mono (gc q) ?_
 rintro _ y ⟨rfl,c⟩
 obtain⟨B,p,w,u⟩:=kY g
 refine⟨B,p,w,?_⟩
 refine HC.mono (gU (T.ext c)) ?_
 rintro _ z ⟨rfl,rfl⟩
 refine⟨_,rfl,?_⟩
 have no: ∀f,¬(b.over=false/\aF b.old g)->Ext H f->R vF f:=λf hn e=>s _ _ ⟨by rw[zQ hn],e⟩
 by_cases l:b.over=true
 ·rw[if_pos l];exact no _ (λh=>by rw[l]at h;cases h.1) c
 rw[if_neg l]
 rcases u with⟨k,rfl,rfl⟩ | ⟨k,rfl,rfl⟩
 case inr=>rw[if_neg (by decide)];exact no _ (λh=>k h.2.1) c
 rw[if_pos rfl]
 refine HC.mono (fp q) ?_
 rintro _ A ⟨rfl,o⟩
 refine⟨_,rfl,?_⟩
 by_cases j:g % 8=6
 ·rw[if_pos j];exact no _ (λh=>h.2.2.1 j) (c.trans o)
 rw[if_neg j]
 have x:g / 8<65536:=k.2
 have r:0<=g / 8:=by have:=q.1;omega
 rw[gJ r,w64 (n:=g / 8 / 64) (by omega)]
 have t:=T.ext (c.trans o)
 refine⟨_,rfl,⟨by omega,by omega⟩,(if b.old (g / 8 / 64).toNat then 1 else 0),?_,s _ _ ⟨?_,c.trans o⟩⟩
 ·rw[addr_add_mk,addr_add_mk,Nat.zero_add,Nat.mul_one];exact t.tr.oldAt (by omega)
 ·congr 1
  by_cases m:b.old (g / 8 / 64).toNat=true
  ·rw[if_pos m,zX ⟨by simpa using l,k,j,m⟩];rfl
  ·rw[if_neg m,zQ (λh=>m h.2.2.2)];rfl
def Mem.fwd(m:Mem)(w:Int):Option Int:=if m.used (w / 8)/\dH (m.get (w / 8))/\m.get (w / 8) % 8=6 then some (m.get (w / 8) / 8*8+w % 8)else none
theorem k8(T:Tc H d i a b)(t:aC g)(q:dH g):
  bU.C (some ⟨a.t,0,none⟩) g H (λv k=>v=.tuple #[vu ((i.sp.mem.fwd g).getD g),.bool (i.sp.mem.fwd g).isSome]/\Ext H k):=by
 refine HC.via λR w=>bU.link ?_
 unfold bU.pt
 refine HC.mono (gc t) ?_
 rintro _ M ⟨rfl,l⟩
 rw[if_pos (show(g % 8=1\/g % 8=2\/g % 8=3\/g % 8=6)/\g / 8<65536 from q)]
 have o:=T.ext l
 obtain⟨I,J,K,L⟩:=o.s1
 refine⟨_,_,rfl,_,rfl,_,I,_,rfl,_,J,_,rfl,_,K,_,rfl,_,L,?_⟩
 have G:g / 8<65536:=q.2
 have F:0<=g / 8:=by have:=t.1;omega
 refine HC.mono (fF o.hp.cd.sp.mem o.ok.mem (by omega)) ?_
 rintro _ N ⟨rfl,rfl⟩
 have j: ∃(V e:Int),(if i.sp.mem.used (g / 8)then Value.tuple #[vu (i.sp.mem.get (g / 8)),vi 0]else .tuple #[vu 0,vi 18])=.tuple #[vu V,vi e]/\aC V/\((i.sp.mem.used (g / 8)/\V=i.sp.mem.get (g / 8)/\e=0)\/(¬i.sp.mem.used (g / 8)/\V=0/\e=18)):=by
  by_cases c:i.sp.mem.used (g / 8)
  ·rw[if_pos c];exact⟨_,_,rfl,(T.ok.mem.seg _).words _,.inl ⟨c,rfl,rfl⟩⟩
  ·rw[if_neg c];exact⟨_,_,rfl,by decide,.inr ⟨c,rfl,rfl⟩⟩
 obtain⟨V,e,s,f,z⟩:=j
 refine⟨V,e,s,?_⟩
 refine HC.mono (gc f) ?_
 rintro _ O ⟨rfl,m⟩
 obtain⟨U,p,E,r⟩:=kY V
 refine⟨U,p,E,?_⟩
 have no: ∀k,¬(i.sp.mem.used (g / 8)/\dH (i.sp.mem.get (g / 8))/\i.sp.mem.get (g / 8) % 8=6)->Ext H k->R (.tuple #[vu g,vF]) k:=λk hn e=>w _ _ ⟨by unfold Mem.fwd;rw[if_neg hn];rfl,e⟩
 rcases z with⟨c,rfl,rfl⟩ | ⟨c,rfl,rfl⟩
 case inr=>rw[if_neg (by decide)];exact no _ (λh=>c h.1) (l.trans m)
 rw[if_pos rfl]
 rcases r with⟨j,rfl,rfl⟩ | ⟨j,rfl,rfl⟩
 case inr=>rw[if_neg (by decide)];exact no _ (λh=>j h.2.1) (l.trans m)
 rw[if_pos rfl]
 refine HC.mono (fp f) ?_
 rintro _ P ⟨rfl,u⟩
 refine⟨_,rfl,?_⟩
 by_cases n:i.sp.mem.get (g / 8) % 8=6
 case neg=>rw[if_neg n];exact no _ (λh=>n h.2.2) ((l.trans m).trans u)
 rw[if_pos n]
 refine HC.mono (fp t) ?_
 rintro _ Q ⟨rfl,x⟩
 refine⟨_,rfl,?_⟩
 have B:i.sp.mem.get (g / 8) / 8<65536:=j.2
 have A:=f.1
 refine HC.mono (ix (by omega) (by omega)) ?_
 rintro _ S ⟨rfl,y⟩
 rw[if_neg (λD=>D q.1),if_pos (by omega)]
 refine⟨_,_,rfl,w _ _ ⟨?_,((((l.trans m).trans u).trans x).trans y)⟩⟩
 unfold Mem.fwd
 rw[if_pos ⟨c,j,n⟩];rfl
theorem fP(T:Tc H d i a b)(j:aC g):
  aX.C (some ⟨a.t,0,none⟩) g H (λv k=>v=.bool (decide (¬(b.over=false/\aF b.old g)) || (i.sp.mem.fwd g).isSome)/\Ext H k):=by
 refine HC.via λR f=>aX.link ?_
 unfold aX.pt
 refine HC.mono (kZ T j) ?_
 rintro _ m ⟨rfl,e⟩
 refine⟨_,rfl,?_⟩
 by_cases c:b.over=false/\aF b.old g
 ·rw[if_pos (zX c)]
  refine HC.mono (k8 (T.ext e) j c.2.1) ?_
  rintro _ n ⟨rfl,l⟩
  refine⟨_,_,rfl,f _ _ ⟨?_,e.trans l⟩⟩
  rw[zQ (λh=>h c),Bool.false_or]
 ·rw[if_neg (by simpa using c)]
  exact f _ _ ⟨by rw[zX c,Bool.true_or],e⟩
def Mem.row(m:Mem)(a:Int)(n:Nat):List Int:=(List.range n).map λi:Nat=>m.get (a+(i:Int))
theorem Mem.row_len(m:Mem)(a:Int)(n:Nat):(m.row a n).length=n:=by simp[Mem.row]
theorem Mem.row_get(m:Mem)(a:Int){n i:Nat}(h:i<n):(m.row a n)[i]'(by rw[Mem.row_len];exact h)=m.get (a+i):=by simp[Mem.row]
theorem Mem.row_take(m:Mem)(a:Int){n i:Nat}(h:i<n):(m.row a n).take (i+1)=(m.row a n).take i++[m.get (a+i)]:=by
 rw[List.take_succ_eq_append_getElem (by rw[Mem.row_len];exact h),Mem.row_get m a h]
def Mem.kindOf(m:Mem)(w:Int):Int:=(m.seg (w / 8 / 64).toNat).kind
def Sp.moved(m:Mem)(w:Int)(r:Sp×Int×Int):Sp:={r.1 with mem:=(r.1.mem.sets r.2.1 (m.row (w / 8) (m.sizeOf w).toNat)).set (w / 8) (r.2.1*8+6)}
def Sp.visit(s:Sp)(old:Nat->Bool)(T w:Int):Sp×Int:=
 if ¬aF old w then(s,w)
 else match s.mem.fwd w with
  | some v=>(s,v)
  | none=>
   if s.mem.sizeOf w=0 then(s,w)
   else if(s.alloc T (s.mem.kindOf w) (s.mem.sizeOf w)).2.2=0 then
    (Sp.moved s.mem w (s.alloc T (s.mem.kindOf w) (s.mem.sizeOf w)),(s.alloc T (s.mem.kindOf w) (s.mem.sizeOf w)).2.1*8+w % 8)
   else(s,w)
theorem Sp.visit_no(h: ¬aF j o):u.visit j g o=(u,o):=by unfold Sp.visit;rw[if_pos h]
theorem Sp.visit_fwd{s:Sp}{T w v:Int}(h:aF j w)(a:s.mem.fwd w=some v):s.visit j T w=(s,v):=by unfold Sp.visit;rw[if_neg (λb=>b h),a]
theorem Sp.visit_0(h:aF j o)(b:u.mem.fwd o=none)(a:u.mem.sizeOf o=0):u.visit j g o=(u,o):=by unfold Sp.visit;rw[if_neg (λc=>c h),b];simp only[];rw[if_pos a]
theorem Sp.visit_full(h:aF j o)(c:u.mem.fwd o=none)(a:u.mem.sizeOf o≠0)(b:(u.alloc g (u.mem.kindOf o) (u.mem.sizeOf o)).2.2≠0):u.visit j g o=(u,o):=by unfold Sp.visit;rw[if_neg (λd=>d h),c];simp only[];rw[if_neg a,if_neg b]
theorem Sp.visit_go{T w:Int}(h:aF j w)(c:u.mem.fwd w=none)(a:u.mem.sizeOf w≠0)(b:(u.alloc T (u.mem.kindOf w) (u.mem.sizeOf w)).2.2=0):
  u.visit j T w=(Sp.moved u.mem w (u.alloc T (u.mem.kindOf w) (u.mem.sizeOf w)),(u.alloc T (u.mem.kindOf w) (u.mem.sizeOf w)).2.1*8+w % 8):=by unfold Sp.visit;rw[if_neg (λd=>d h),c];simp only[];rw[if_neg a,if_pos b]
theorem Mem.size_used{m:Mem}(l:aV m)(p:m.Even)(u:aC g)(h:m.sizeOf g≠0):0<m.sizeOf g/\m.sizeOf g<=63/\(∀i:Nat,(i:Int)<m.sizeOf g->m.used (g / 8+i))/\g / 8 % 64+m.sizeOf g<=64/\0<=g / 8/\m.has (g / 8 / 64):=by
 unfold Mem.sizeOf at*
 have o:0<=g / 8:=by have:=u.1;omega
 by_cases d:m.isPair g
 ·rw[if_pos d]at h⊢
  have f:m.has (g / 8 / 64)/\(m.seg (g / 8 / 64).toNat).kind<=1/\g / 8 % 64< (m.seg (g / 8 / 64).toNat).n:=by
   rcases d.1 with q | q
   ·exact⟨q.2.2.1,by rw[q.2.2.2.1];decide,q.2.2.2.2⟩
   ·exact⟨q.2.2.1,by rw[q.2.2.2.1];decide,q.2.2.2.2⟩
  have r:=p _ f.2.1
  have v:=d.2
  have hn:=(l.seg (g / 8 / 64).toNat).n
  refine⟨by decide,by decide,λi s=>?_,by omega,o,f.1⟩
  have c:(g / 8+i) / 64=g / 8 / 64:=by omega
  have e:(g / 8+i) % 64=g / 8 % 64+i:=by omega
  exact⟨by omega,by rw[c];exact f.1,by rw[c,e];omega⟩
 ·rw[if_neg d]at h⊢
  by_cases b:m.isObj g
  ·rw[if_pos b]at h⊢
   have w:=b.len_lt
   have j:m.len g=hn (m.get (g / 8)):=by unfold Mem.len;rw[if_pos b]
   have t:=b.2.2
   have k:=(l.seg (g / 8 / 64).toNat).n
   have a:=b.1.2.2.1
   rw[j]
   refine⟨by omega,by omega,λi s=>?_,by omega,o,a⟩
   have c:(g / 8+i) / 64=g / 8 / 64:=by omega
   have e:(g / 8+i) % 64=g / 8 % 64+i:=by omega
   exact⟨by omega,by rw[c];exact a,by rw[c,e];omega⟩
  ·rw[if_neg b]at h;exact absurd rfl h
theorem Grown.not_in{m f:Mem}{k n:Int}(b:Grown m f g n o k){x:Int}(d:m.used x): ¬(g<=x/\x<g+n):=λh=>by
 obtain⟨i,j,l⟩:=b.addr
 have a:x / 64=g / 64:=by omega
 by_cases c:(m.seg (g / 64).toNat).taken=0
 ·have:=d.2.1.2.2;rw[a]at this;exact this c
 ·have p:=(b.old c).2.2.1
  have e:=d.2.2
  rw[a]at e
  omega
theorem Grown.get{m d:Mem}{a g k n:Int}(c:Grown m d a n g k){x:Int}(f:m.used x):d.get x=m.get x:=by
 unfold Mem.get
 by_cases b:(x / 64).toNat=(a / 64).toNat
 ·have e:(m.seg (a / 64).toNat).taken≠0:=by rw[<-b];exact f.2.1.2.2
  rw[b,(c.old e).2.2.2.1]
 ·rw[c.others _ b]
set_option maxRecDepth 100000 in
theorem nT(T:Tc H d i a b)(he:i.sp.mem.Even)(U:aC g)(hc:i.sp.mem.count<4611686018427387904)(aX:b.over=false):
  aR.C (some ⟨a.t,0,none⟩) g H (λv u=>v=vu (i.sp.visit b.old b.tgt g).2/\Tc u d {i with sp:=(i.sp.visit b.old b.tgt g).1} a b/\Fr (spB d) H u):=by
 refine HC.via λR A=>aR.link ?_
 unfold aR.pt zY
 refine HC.mono (kZ T U) ?_
 rintro _ H1 ⟨rfl,O⟩
 refine⟨_,rfl,?_⟩
 have t: ∀(v:Int) u,(i.sp.visit b.old b.tgt g)=(i.sp,v)->Ext H u->R (vu v) u:=λv u h e=>by
  rw[h]at A;exact A _ _ ⟨rfl,T.ext e,e.fr⟩
 by_cases p:aF b.old g
 case neg=>
  rw[if_neg (by simp[p])]
  exact t g _ (Sp.visit_no p) O
 rw[if_pos (zX ⟨aX,p⟩)]
 have T1:=T.ext O
 refine HC.mono (k8 T1 U p.1) ?_
 rintro _ H2 ⟨rfl,e2⟩
 refine⟨_,_,rfl,?_⟩
 have K:=O.trans e2
 cases hf:i.sp.mem.fwd g with
 | some v=>
  rw[if_pos (show(some v).isSome=true from rfl)]
  exact t v _ (Sp.visit_fwd p hf) K
 | none=>
 rw[if_neg (by simp)]
 have T2:=T.ext K
 refine⟨_,rfl,_,T2.tr.hPtr,?_⟩
 refine HC.mono (nR T2.view U) ?_
 rintro _ H3 ⟨rfl,e3⟩
 have az:mof (some (d,i))=i.sp.mem:=rfl
 rw[az]
 refine⟨_,rfl,?_⟩
 have X:=K.trans e3
 by_cases P:i.sp.mem.sizeOf g=0
 ·rw[if_pos P];exact t g _ (Sp.visit_0 p hf P) X
 rw[if_neg P]
 obtain⟨n0,bL,hu,bc,w0,B⟩:=Mem.size_used T.ok.mem he U P
 have bK:g / 8<65536:=p.1.2
 refine HC.mono (gc U) ?_
 rintro _ H4 ⟨rfl,e4⟩
 rw[if_pos (show(g % 8=1\/g % 8=2\/g % 8=3\/g % 8=6)/\g / 8<65536 from p.1)]
 have Y:=X.trans e4
 have T4:=T.ext Y
 obtain⟨F,G,I,N⟩:=T4.s1
 refine⟨_,_,rfl,_,F,_,rfl,_,G,_,rfl,_,I,_,rfl,_,N,?_⟩
 rw[gJ w0,w64 (n:=g / 8 / 64) (by omega)]
 refine HC.mono (gT T4.hp.cd.sp.mem) ?_
 rintro _ H5 ⟨rfl,e5⟩
 rw[if_pos B,zX B]
 have ax:(i.sp.mem.seg (g / 8 / 64).toNat).kind=i.sp.mem.kindOf g:=rfl
 generalize bJ:i.sp.mem.seg (g / 8 / 64).toNat=J at*
 refine⟨_,_,_,_,_,_,_,_,rfl,λc5 H6 hb a7=>?_⟩
 obtain⟨au,hs⟩:=boxed (vs:=[vi J.gen,vi J.kind,vi J.n,vi (J.cards 0),vi (J.cards 1),vi (J.cards 2),vi (J.cards 3)]) (H1:=H6) (aL hb a7) rfl rfl
 refine⟨au,λH7 ap=>?_⟩
 obtain⟨aa,hE⟩:=hs H7 ap
 have a0:=Y.trans e5
 have e7:Ext H H7:=hE H (a0.trans (Ext.push' a7)) (by have:=a0.size;omega)
 have W:=T.ext e7
 obtain⟨F,G,I,N⟩:=W.s1
 refine⟨_,F,_,rfl,_,G,_,rfl,_,I,_,by rw[addr_add_mk];exact W.tr.tgtAt,J.kind,aa.2.1,?_⟩
 rw[ax]
 refine HC.mono (iu W.hp.cd.sp W.ok hc) ?_
 rintro _ H8 ⟨rfl,aY,f8⟩
 refine⟨_,_,rfl,?_⟩
 have h8:=W.hp.withSp f8 (λc9 S=>by simp at S;omega) aY
 have x:Fr (spB d) H H8:=e7.fr.trans f8
 by_cases Q:(i.sp.alloc b.tgt (i.sp.mem.kindOf g) (i.sp.mem.sizeOf g)).2.2=0
 case neg=>
  rw[if_neg Q]
  have ev:=Sp.visit_full p hf P Q
  rw[ev]at A
  rw[Sp.alloc_fail T.ok Q]at h8
  exact A _ _ ⟨rfl,T.step x (λc9 S=>eY S) h8 T.ok,x⟩
 rw[if_pos Q]
 have ev:=Sp.visit_go p hf P Q
 rw[ev]at A
 obtain⟨M,f⟩:=Sp.alloc_ok T.ok Q
 unfold Sp.moved at A
 simp only at A
 generalize hn:i.sp.mem.sizeOf g=n at*
 generalize hr:i.sp.alloc b.tgt (i.sp.mem.kindOf g) n=r at*
 obtain⟨l,c8,e⟩:=r
 simp only at*
 have bd:=T.ok.mem.lim
 obtain⟨bm,bn,bZ⟩:=f.addr
 have bo:c8<65536:=by omega
 have ae: ∀v∈i.sp.mem.row (g / 8) n.toNat,aC v:=λv hv=>by
  unfold Mem.row at hv
  obtain⟨c9,_,rfl⟩:=List.mem_map.1 hv
  exact(T.ok.mem.seg _).words _
 refine⟨λc9 u=>(0<=c9/\c9<=n)/\Tc u d {i with sp:={l with mem:=l.mem.sets c8 ((i.sp.mem.row (g / 8) n.toNat).take c9.toNat)}} a b/\Fr (spB d) H u,λc9 _=>(n-c9).toNat,⟨by omega,?_,x⟩,?_⟩
 ·rw[show(0:Int).toNat=0 from rfl,List.take_zero]
  exact T.step x (λc9 S=>eY S) h8 M
 rintro c9 H9 ⟨S,y,f9⟩
 by_cases a8:c9<n
 ·rw[if_pos a8]
  obtain⟨F,G,I,N⟩:=y.s1
  refine⟨_,F,_,rfl,_,G,_,rfl,_,I,_,rfl,_,N,?_⟩
  rw[w64 (n:=g / 8+c9) (by omega)]
  refine HC.mono (fF y.hp.cd.sp.mem y.ok.mem (by omega)) ?_
  rintro _ bf ⟨rfl,rfl⟩
  have L:i.sp.mem.used (g / 8+c9):=by have:=hu c9.toNat (by omega);rw[show((c9.toNat:Nat):Int)=c9 by omega]at this;exact this
  have sm:=aS.sets ((i.sp.mem.row (g / 8) n.toNat).take c9.toNat) l.mem c8
  have ac:l.mem.used (g / 8+c9):=by
   obtain⟨k1,o,k3⟩:=L
   by_cases c:((g / 8+c9) / 64).toNat=(c8 / 64).toNat
   ·have ht:(i.sp.mem.seg (c8 / 64).toNat).taken≠0:=by rw[<-c];exact o.2.2
    obtain⟨o1,o2,o3,o4,o5,o6⟩:=f.old ht
    rw[c,o3]at k3
    exact⟨k1,⟨o.1,by rw[f.limit];exact o.2.1,by rw[c,o6];exact ht⟩,by rw[c,f.new.2.2.2];omega⟩
   ·have q:=f.others _ c
    exact⟨k1,⟨o.1,by rw[f.limit];exact o.2.1,by rw[q];exact o.2.2⟩,by rw[q];exact k3⟩
  have D:(((i.sp.mem.row (g / 8) n.toNat).take c9.toNat).length:Int)=c9:=by rw[List.length_take,Mem.row_len];omega
  have av:(l.mem.sets c8 ((i.sp.mem.row (g / 8) n.toNat).take c9.toNat)).get (g / 8+c9)=i.sp.mem.get (g / 8+c9):=by
   rw[Mem.sets_get _ _ (by omega) bm (λj c=>?_),if_neg (by rw[D];have:=f.not_in L;omega),f.get L]
   have c:(j:Int)<c9:=by omega
   have O:(c8+j) / 64=c8 / 64:=by omega
   have e2:(c8+j) % 64=c8 % 64+j:=by omega
   exact⟨by omega,by rw[O];exact⟨by omega,by rw[f.limit];exact bn,f.new.1⟩,by rw[O,e2,f.new.2.2.2];omega⟩
  rw[if_pos (sm.used.2 ac),av]
  refine⟨_,_,rfl,_,F,_,rfl,_,G,_,rfl,_,I,_,rfl,_,N,?_⟩
  rw[w64 (n:=c8+c9) (by omega),w64 (n:=c9+1) (by omega)]
  refine HC.mono (eQ y.hp.cd.sp.mem y.ok.mem (by omega)) ?_
  rintro _ V ⟨rfl,a9,a3⟩
  have a4:Fr (spB d) H V:=f9.trans (a3.mono (λj c _=>by simp at c;simp[spB];omega))
  have et:(i.sp.mem.row (g / 8) n.toNat).take (c9+1).toNat=(i.sp.mem.row (g / 8) n.toNat).take c9.toNat++[i.sp.mem.get (g / 8+c9)]:=by
   rw[show(c9+1).toNat=c9.toNat+1 by omega,Mem.row_take _ _ (by omega),show((c9.toNat:Nat):Int)=c9 by omega]
  have es:l.mem.sets c8 ((i.sp.mem.row (g / 8) n.toNat).take (c9+1).toNat)=(if(l.mem.sets c8 ((i.sp.mem.row (g / 8) n.toNat).take c9.toNat)).used (c8+c9)then(l.mem.sets c8 ((i.sp.mem.row (g / 8) n.toNat).take c9.toNat)).set (c8+c9) (i.sp.mem.get (g / 8+c9))else l.mem.sets c8 ((i.sp.mem.row (g / 8) n.toNat).take c9.toNat)):=by
   rw[et,Mem.sets_snoc,D]
  have ay:cw V d.m d.s (l.mem.sets c8 ((i.sp.mem.row (g / 8) n.toNat).take (c9+1).toNat)):=by rw[es];exact a9
  refine⟨_,rfl,⟨by omega,?_,a4⟩,by show(n-(c9+1)).toNat< (n-c9).toNat;omega⟩
  exact y.withMem (m:=l.mem.sets c8 ((i.sp.mem.row (g / 8) n.toNat).take (c9+1).toNat)) a3 (λj c=>by simp at c;omega) ay (M.sets c8 (λv hv=>ae v (List.mem_of_mem_take hv)))
 ·rw[if_neg a8]
  have aw:c9.toNat=n.toNat:=by omega
  rw[aw,List.take_of_length_le (by rw[Mem.row_len];omega)]at y
  refine HC.mono (ix (by omega) (by omega)) ?_
  rintro _ bg ⟨rfl,z⟩
  rw[if_neg (by decide),if_pos (by omega)]
  have w:=y.ext z
  obtain⟨F,G,I,N⟩:=w.s1
  refine⟨_,_,rfl,_,F,_,rfl,_,G,_,rfl,_,I,_,rfl,_,N,?_⟩
  refine HC.mono (eQ w.hp.cd.sp.mem w.ok.mem (by omega)) ?_
  rintro _ ak ⟨rfl,E,a5⟩
  refine⟨_,rfl,?_⟩
  have b0:i.sp.mem.used (g / 8):=by have:=hu 0 (by omega);simpa using this
  have sm:=aS.sets (i.sp.mem.row (g / 8) n.toNat) l.mem c8
  have b1:l.mem.used (g / 8):=by
   obtain⟨k1,o,k3⟩:=b0
   by_cases c:(g / 8 / 64).toNat=(c8 / 64).toNat
   ·have ht:(i.sp.mem.seg (c8 / 64).toNat).taken≠0:=by rw[<-c];exact o.2.2
    obtain⟨o1,o2,o3,o4,o5,o6⟩:=f.old ht
    rw[c,o3]at k3
    exact⟨k1,⟨o.1,by rw[f.limit];exact o.2.1,by rw[c,o6];exact ht⟩,by rw[c,f.new.2.2.2];omega⟩
   ·have q:=f.others _ c
    exact⟨k1,⟨o.1,by rw[f.limit];exact o.2.1,by rw[q];exact o.2.2⟩,by rw[q];exact k3⟩
  rw[if_pos (sm.used.2 b1)]at E
  have a6:Fr (spB d) H ak:=(f9.trans z.fr).trans (a5.mono (λj c _=>by simp at c;simp[spB];omega))
  have ah:=M.sets c8 ae
  have b4:SpOK {l with mem:=(l.mem.sets c8 (i.sp.mem.row (g / 8) n.toNat)).set (g / 8) (c8*8+6)}:=ah.withMem (ah.mem.set (g / 8) ⟨by omega,by omega⟩) (λk h=>Mem.set_has.2 h) (λk=>⟨((aS.set _ _ _).seg k).1,((aS.set _ _ _).seg k).2.1⟩)
  have al:=w.withMem a5 (λj c=>by simp at c;omega) E b4
  refine HC.mono (fp U) ?_
  rintro _ bh ⟨rfl,Z⟩
  refine⟨_,rfl,?_⟩
  refine HC.mono (ix (by omega) (by omega)) ?_
  rintro _ bi ⟨rfl,a1⟩
  rw[if_neg (λhh=>hh p.1.1),if_pos (by omega)]
  have a2:=Z.trans a1
  exact⟨_,_,rfl,A _ _ ⟨rfl,al.ext a2,a6.trans a2.fr⟩⟩
variable{H:zV}{a:TypeId}{b:List Value}{d:Addr}{g:Array Value}{i:Nat}
theorem pN{c:zV}{z:Value}{n b:Nat}(e:b=H.size)(d:c=H.push (.cells (Builtin.zeroCells #[z] n) a)):Own c a 1 (some ⟨b,0,none⟩) n n (List.replicate n z):=by
 refine⟨rfl,_,aL e d,by rw[hU];rfl,Nat.le_refl _,by simp,λj f=>?_⟩
 have:=ja (z:= #[z]) (n:=n) (k:=j) (j:=0) (by omega) (by simp)
 simp only[List.size_toArray,List.length_singleton,Nat.mul_one,Nat.add_zero]at this
 rw[this,List.getElem?_replicate,if_pos (by omega)];rfl
theorem Own.put{n c i:Nat}(h:Own H a 1 (some d) n c b)(t:i<n)(v:Value):
  aM H (d.add i) 0 1/\ ∀g,g=aP H (d.add i) [v] 0->Own g a 1 (some d) n c (b.set i v)/\Fr [d.block] H g:=by
 obtain⟨m,l,k,s,hn,r,p⟩:=h
 have o:d.add i=⟨d.block,i,none⟩:=by rw[m];simp
 rw[o]
 refine⟨bV k _ _ _ (by omega),λg e=>?_⟩
 rw[cW _ H l i 0 k]at e
 subst e
 refine⟨⟨m,_,aZ (bB k),by rw[splice_size];exact s,hn,by rw[List.length_set];exact r,λj q=>?_⟩,Fr.set⟩
 rw[List.getElem?_set]
 by_cases f:i=j
 ·subst f
  rw[if_pos rfl,if_pos (by omega)]
  have:=dv l [v] (i+0) 0 (by simp;omega) (by simp)
  simpa using this
 ·rw[if_neg f,<-p j q]
  rcases Nat.lt_or_ge j i with h | h
  ·exact cL _ _ _ _ (by omega)
  ·exact eG _ _ _ _ (by simp;omega)
theorem Own.puts{f n c o:Nat}{l vs:List Value}(h:Own H a f (some d) n c l)(x:o+vs.length<=n*f):
  aM H (d.add o) 0 vs.length/\ ∀g,g=aP H (d.add o) vs 0->Own g a f (some d) n c (l.take o++vs++l.drop (o+vs.length))/\Fr [d.block] H g:=by
 obtain⟨q,m,k,v,hn,w,r⟩:=h
 have u:n*f<=c*f:=Nat.mul_le_mul_right _ hn
 have t:d.add o=⟨d.block,o,none⟩:=by rw[q];simp
 rw[t]
 refine⟨bV k _ _ _ (by omega),λg b=>?_⟩
 rw[cW _ H m o 0 k]at b
 subst b
 refine⟨⟨q,_,aZ (bB k),by rw[splice_size];exact v,hn,by simp;omega,λj s=>?_⟩,Fr.set⟩
 rw[Nat.add_zero]
 rcases Nat.lt_or_ge j o with i | i
 ·rw[cL _ _ _ _ i,r j s,List.append_assoc,List.getElem?_append_left (by simp;omega),List.getElem?_take,if_pos i]
 rcases Nat.lt_or_ge j (o+vs.length)with p | p
 ·have e:=dv m vs o (j-o) (by omega) (by omega)
  rw[show o+(j-o)=j by omega]at e
  rw[e,List.append_assoc,List.getElem?_append_right (by simp;omega),List.length_take,Nat.min_eq_left (by omega),List.getElem?_append_left (by omega)]
 ·rw[eG _ _ _ _ p,r j s,List.getElem?_append_right (by simp;omega),List.getElem?_drop]
  simp only[List.length_append,List.length_take]
  rw[Nat.min_eq_left (by omega)]
  congr 1;omega
theorem flat_get{α:Type}{f:α->List Value}{b:Nat}(c: ∀a,(f a).length=b): ∀(l:List α) (k r:Nat) (hk:k<l.length),r<b->(l.flatMap f)[k*b+r]?=(f l[k])[r]?
 | [],k,r,hk,hr=>by simp at hk
 | a::l,0,r,hk,hr=>by
  simp only[List.flatMap_cons,Nat.zero_mul,Nat.zero_add,List.getElem_cons_zero]
  rw[List.getElem?_append_left (by rw[c];exact hr)]
 | a::l,k+1,r,hk,hr=>by
  simp only[List.flatMap_cons,List.getElem_cons_succ]
  rw[List.getElem?_append_right (by rw[c,Nat.add_mul];omega),c,show(k+1)*b+r-b=k*b+r by rw[Nat.add_mul];omega]
  exact flat_get c l k r (by simpa using hk) hr
theorem Own.elem{α:Type}{f:α->List Value}{H:zV}{T:TypeId}{sz n c:Nat}{p:zW}{l:List α}(h:Own H T sz p n c (l.flatMap f))(g: ∀a,(f a).length=sz)(u:0<sz){k:Nat}(hk:k<l.length):
  ∃a,p=some a/\(∀r v,(f l[k])[r]?=some v->hat H ((a.add (k*sz)).add r)=some v)/\aU H (a.add (k*sz)) 0 (f l[k]):=by
 have o: ∃v,(f l[k])[0]?=some v:=⟨(f l[k])[0]'(by rw[g];exact u),by simp⟩
 obtain⟨z,s⟩:=o
 have t:=flat_get g l k 0 hk u
 rw[s,Nat.add_zero]at t
 obtain⟨a,x,_⟩:=h.at t
 subst x
 have d: ∀r,(a.add (k*sz)).add r=a.add (k*sz+r):=λr=>by rw[h.1];simp
 have w: ∀r v,(f l[k])[r]?=some v->hat H ((a.add (k*sz)).add r)=some v:=λr v i=>by
  have q:r<sz:=by
   rcases Nat.lt_or_ge r (f l[k]).length with b | b
   ·rw[g]at b;exact b
   ·simp[List.getElem?_eq_none b]at i
  have e:=flat_get g l k r hk q
  rw[i]at e
  obtain⟨y,m,b⟩:=h.at e
  cases m
  rw[d];exact b
 exact⟨a,rfl,w,jv λj v i=>by rw[Nat.zero_add];exact w j v i⟩
theorem jT(a:Addr)(i j:Nat):(a.add i).add j=a.add (i+j):=by
 by_cases b:i=0<;>by_cases c:j=0<;>simp[Addr.add,b,c,Nat.add_assoc]
theorem mv(h:g.size=b.length):splice g 0 b=b.toArray:=by
 refine Array.ext_getElem? λi=>?_
 have e:b.toArray[i]?=b[i]?:=by simp
 rw[e]
 rcases Nat.lt_or_ge i b.length with a | a
 ·have:=dv g b 0 i (by omega) a
  rw[Nat.zero_add]at this;exact this
 ·rw[List.getElem?_eq_none a,Array.getElem?_eq_none (by rw[splice_size];omega)]
theorem jD{b:Nat×Nat}(c:H[i]?=some (.cells g a b))(o:Nat):hat H ((Addr.mk i 0 none).add o)=g[o]?:=by
 rw[addr_add_mk,Nat.zero_add];exact aH c
theorem aU.sub{c:List Value}(k:Nat)(h:aU H d 0 b)(e:(b.drop k).take c.length=c):aU H (d.add k) 0 c:=by
 refine jv λj v a=>?_
 have f:b[k+j]?=some v:=by
  rw[<-e,List.getElem?_take]at a
  split at a
  ·rw[List.getElem?_drop]at a;exact a
  ·cases a
 have:=fJ h (k+j) v f
 rw[jT,Nat.zero_add]
 rw[Nat.zero_add]at this;exact this
theorem gS{c:Nat×Nat}(g:H[i]?=some (.cells b.toArray a c)):aU H ⟨i,0,none⟩ 0 b:=
 ft g b 0 0 (λj d=>by simp)
theorem jE{b n:Nat}{vs:List Value}(f:H[b]?=some (.cells g a (0,0)))(hn:g.size=n)(e:vs.length=n):
  aM H ⟨b,0,none⟩ 0 n/\ ∀c,c=aP H ⟨b,0,none⟩ vs 0->c[b]?=some (.cells vs.toArray a (0,0))/\Fr [b] H c:=by
 refine⟨bV f n 0 0 (by omega),λc d=>?_⟩
 rw[cW vs H g 0 0 f,Nat.add_zero,mv (by omega)]at d
 subst d
 exact⟨aZ (bB f),Fr.set⟩
theorem nU(a:Addr):a.add 0=a:=by unfold Addr.add;cases a;split<;>simp_all
def rO(o:Option (Blk×Hp)):Option (Blk×Hp):=match o with | none=>none | some (b,x)=>some (b,{x with ep:=IntKind.wrap .u64 (x.ep+1)})
def hown(o:Option (Blk×Hp)):List Nat:=match o with | none=> [] | some (b,_)=> [b.h]
theorem HpAt.epAt{b:Blk}{x:Hp}(h:HpAt H b x):hat H ⟨b.h,3,none⟩=some (vu x.ep):=by rw[aH h.h];rfl
theorem HpAt.putEp{b:Blk}{x:Hp}(h:HpAt H b x)(e:Int):aM H ⟨b.h,3,none⟩ 0 1/\HpAt (aP H ⟨b.h,3,none⟩ [vu e] 0) b {x with ep:=e}/\Fr [b.h] H (aP H ⟨b.h,3,none⟩ [vu e] 0):=by
 refine⟨bV h.h _ _ _ (by simp),?_⟩
 rw[cW _ _ _ _ _ h.h]
 have f:Fr [b.h] H (bH H b.h (.cells (splice #[vp (some ⟨b.c,0,none⟩),x.sy,x.en,vu x.ep] (3+0) [vu e]) 51 (0,0))):=Fr.set
 refine⟨⟨h.cd.keep f ?_ ?_ ?_ ?_,h.ne,by rw[aZ (bB h.h)];rfl⟩,f⟩<;>have:=h.ne<;>simp<;>omega
theorem nV{d:zW}{o:Option (Blk×Hp)}(V:View H d o):dM.C d H (λv e=>View e d (rO o)/\Fr (hown o) H e):=by
 refine HC.via λR c=>dM.link ?_
 unfold dM.pt
 refine HC.mono (jl V) ?_
 rintro _ j ⟨rfl,rfl⟩
 refine⟨_,rfl,?_⟩
 cases V with
 | nobody=>rw[if_pos (show(none:Option (Blk×Hp)).isNone=true from rfl)];exact c _ _ ⟨.nobody,Fr.refl _ _⟩
 | empty h=>rw[if_pos (show(none:Option (Blk×Hp)).isNone=true from rfl)];exact c _ _ ⟨.empty h,Fr.refl _ _⟩
 | @real b x h i=>
  rw[if_neg (show ¬(some (b,x)).isNone=true from Bool.false_ne_true)]
  obtain⟨g,f⟩:=h.putEp (IntKind.wrap .u64 (x.ep+1))
  refine⟨_,rfl,_,by rw[addr_add_mk];exact h.epAt,by rw[addr_add_mk];exact g,λk a=>?_⟩
  rw[addr_add_mk]at a
  subst a
  exact c _ _ ⟨.real f.1 i,f.2⟩
def Mem.objWords(m:Mem)(w:Int):List Int:=(List.range (m.len w).toNat).map λ(i:Nat)=>m.get (w / 8+1+(i:Int))
theorem Mem.objWords_len(m:Mem)(w:Int):(m.objWords w).length=(m.len w).toNat:=by unfold Mem.objWords;simp
theorem Mem.objWords_get(m:Mem)(w:Int)(h:i< (m.objWords w).length):(m.objWords w)[i]=m.get (w / 8+1+(i:Int)):=by simp[Mem.objWords]
theorem fi.words{m:Mem}{w a b:Int}{c:List Int}(h:fi m w a b c):m.objWords w=c:=by
 refine List.ext_getElem (by rw[Mem.objWords_len,h.len];omega) λi e d=>?_
 rw[Mem.objWords_get]
 exact h.get i d
end Go.Proofs.YtfhbhckhmnleoaaGreat
namespace Go.Proofs.YtfhbhckhmnleoaaGreat
open Go Go.Proofs.Tryz
open Go Go.Proofs.Tryz Go.Shelf Go.RowKit Go.Lib Go.Sort Go.Proofs
variable{H:zV}
def jF:Go.Shelf.Ren:=⟨λ| 6=>88 | 15=>128 | 14=>127 | 28=>148 | 29=>149 | 20=>140 | 21=>141 | 22=>142 | 23=>143 | 24=>144 | 25=>145 | 26=>146 | 27=>147 | 46=>152 | 47=>153 | 48=>154 | 49=>155 | 50=>156 | 57=>158 | n=>n,λ| 22=>75 | 24=>3 | 25=>164 | 3=>3 | 39=>34 | 0=>0 | 53=>60 | 55=>22 | 4=>4 | 46=>214 | 45=>213 | 50=>115 | 5=>5 | 9=>9 | 66=>223 | 70=>227 | 76=>230 | 77=>231 | n=>n,λ| n=>n⟩
theorem mZ:Go.Proofs.SlLaysF.n6 prog jF:={
 mixed:=by kernel_rfl
 f6:=⟨f88.name,by decide,func88.trans (congrArg some (by kernel_rfl))⟩
 f14:=⟨f127.name,by decide,func127.trans (congrArg some (by kernel_rfl))⟩
 f15:=func128.trans (congrArg some (by kernel_rfl))
 f20:=⟨f140.name,by decide,func140.trans (congrArg some (by kernel_rfl))⟩
 f21:=⟨f141.name,by decide,func141.trans (congrArg some (by kernel_rfl))⟩
 f22:=⟨f142.name,by decide,func142.trans (congrArg some (by kernel_rfl))⟩
 f23:=⟨f143.name,by decide,func143.trans (congrArg some (by kernel_rfl))⟩
 f24:=⟨f144.name,by decide,func144.trans (congrArg some (by kernel_rfl))⟩
 f25:=⟨f145.name,by decide,func145.trans (congrArg some (by kernel_rfl))⟩
 f26:=⟨f146.name,by decide,func146.trans (congrArg some (by kernel_rfl))⟩
 f27:=⟨f147.name,by decide,func147.trans (congrArg some (by kernel_rfl))⟩
 f28:=func148.trans (congrArg some (by kernel_rfl))
 f29:=func149.trans (congrArg some (by kernel_rfl))
 f46:=⟨f152.name,by decide,func152.trans (congrArg some (by kernel_rfl))⟩
 f47:=func153.trans (congrArg some (by kernel_rfl))
 f48:=func154.trans (congrArg some (by kernel_rfl))
 f49:=⟨f155.name,by decide,func155.trans (congrArg some (by kernel_rfl))⟩
 f50:=⟨f156.name,by decide,func156.trans (congrArg some (by kernel_rfl))⟩
 f57:=⟨f158.name,by decide,func158.trans (congrArg some (by kernel_rfl))⟩
 t0:=underlying0
 a0:=isAgg0
 z0:=sizeOf0
 v0:=zeroValue0
 t3:=underlying3
 a3:=isAgg3
 z3:=sizeOf3
 v3:=zeroValue3
 t4:=underlying4
 a4:=isAgg4
 z4:=sizeOf4
 v4:=zeroValue4
 t5:=underlying5
 a5:=isAgg5
 z5:=sizeOf5
 v5:=zeroValue5
 t9:=underlying9
 a9:=isAgg9
 z9:=sizeOf9
 v9:=zeroValue9
 t22:=underlying75
 a22:=isAgg75
 z22:=sizeOf75
 v22:=zeroValue75
 a24:=isAgg3
 z24:=sizeOf3
 t25:=underlying164
 a25:=isAgg164
 z25:=sizeOf164
 v25:=zeroValue164
 t39:=underlying34
 a39:=isAgg34
 z39:=sizeOf34
 v39:=zeroValue34
 t45:=underlying213
 a45:=isAgg213
 z45:=sizeOf213
 v45:=zeroValue213
 t46:=underlying214
 a46:=isAgg214
 z46:=sizeOf214
 v46:=zeroValue214
 t50:=underlying115
 a50:=isAgg115
 z50:=sizeOf115
 v50:=zeroValue115
 t53:=underlying60
 a53:=isAgg60
 z53:=sizeOf60
 v53:=zeroValue60
 t55:=underlying22
 a55:=isAgg22
 z55:=sizeOf22
 v55:=zeroValue22
 t66:=underlying223
 a66:=isAgg223
 z66:=sizeOf223
 v66:=zeroValue223
 t70:=underlying227
 a70:=isAgg227
 z70:=sizeOf227
 v70:=zeroValue227
 t76:=underlying230
 a76:=isAgg230
 z76:=sizeOf230
 v76:=zeroValue230
 t77:=underlying231
 a77:=isAgg231
 z77:=sizeOf231
 v77:=zeroValue231}
theorem m0{p:zW}{c:Nat}{b:Value}:HC prog 88 #[vs p 0 c,b] H (λv d=>v=.tuple #[]/\d=H):=λw g=>by
 have h:=AnyF.slices_SortFunc_none (P:=prog) (ρ:=jF) {mZ with} p c b w
 exact h.mono λe i ⟨f,a⟩=>⟨_,f,by subst a;exact Same.refl _,rfl,by rw[a];exact g⟩
theorem nW{w c:World}(s:Same w c)(e:Ext w.heap c.heap): ∃q d,c=grow (w.drewN q) d:=by
 refine⟨c.drawn-w.drawn,c.heap.extract w.heap.size c.heap.size,?_⟩
 obtain⟨l,m,n,p⟩:=s
 cases w with
 | mk heap o drawn v g=>
 cases c with
 | mk a j b d f=>
 simp only at l m n p e
 subst l m n
 have r:drawn+(b-drawn)=b:=by omega
 have t:heap++a.extract heap.size a.size=a:=by
  refine Array.ext_getElem? λi=>?_
  have u:=e.size
  rcases Nat.lt_or_ge i heap.size with h | h
  ·rw[Array.getElem?_append_left h,e.old i h]
  ·rw[Array.getElem?_append_right h,Array.getElem?_extract]
   split
   ·congr 1;omega
   ·rw[Array.getElem?_eq_none (by omega)]
 simp only[grow,World.drewN,r,t]
variable {k:Nat}
def encF(i:Fin (k+1)):Value:=vi (i.val:Int)
theorem kj{b i:Nat}{f:Obj->Obj}:(H.modify b f)[i]?=if b=i then H[i]?.map f else H[i]?:=by
 rw[Array.getElem?_modify]
theorem rv{T:TypeId}{b n c g:Nat}{cb:Array Value}{o:List (Fin (k+1))}{tk:Fin (k+1)->Int}(D:Own H T 1 (some ⟨b,0,none⟩) n c (o.map encF))(hn:n<4611686018427387904)
  (X: ∀args w,(callFunc g args).run prog w=.ok (.enter g args) w)
  (I: ∀s,Fr [b] H s-> ∀x y:Fin (k+1),HC prog g (#[encF x,encF y]++cb) s (λv G=>v=vi (Lib.compareInt (tk x) (tk y))/\Ext s G)):
  HC prog 88 #[vs (some ⟨b,0,none⟩) n c,.func (.func g) #[] cb] H (λv s=>v=.tuple #[]/\ ∃R:List (Fin (k+1)),R.Perm o/\R.Pairwise (λx y=>tk x<=tk y)/\Own s T 1 (some ⟨b,0,none⟩) n c (R.map encF)/\Fr [b] H s):=λw hw=>by
 subst hw
 have f:=D.len
 simp only[List.length_map,Nat.mul_one]at f
 obtain⟨_,S,E,J,P,hl,hc⟩:=D
 have q:=bB E
 have r: ∀(d:Array (Fin (k+1))),d.size=n-> ∀m l,(sortWorld encF w b 0 m d l).heap=(w.heap.modify b (onCells (putCells encF 0 d)))++l:=λd F m l=>rfl
 have C: ∀(d:Array (Fin (k+1))) (l:zV),((w.heap.modify b (onCells (putCells encF 0 d)))++l)[b]?=some (.cells (putCells encF 0 d S) T (0,0)):=λd l=>by
  rw[Array.getElem?_append_left (by simpa using q),kj,if_pos rfl,E];rfl
 have B: ∀(d:Array (Fin (k+1))) (l:zV),Fr [b] w.heap ((w.heap.modify b (onCells (putCells encF 0 d)))++l):=λd l=>by
  refine⟨by simp,λi L hn=>?_⟩
  rw[Array.getElem?_append_left (by simpa using L),kj,if_neg (by simp at hn;omega)]
 have Z:SWO (ltOf λx y:Fin (k+1)=>Lib.compareInt (tk x) (tk y)):=by
  have e: ∀x y,ltOf (λx y:Fin (k+1)=>Lib.compareInt (tk x) (tk y)) x y=decide (tk x<tk y):=λx y=>by
   unfold ltOf Lib.compareInt
   by_cases a:tk x<tk y
   ·simp[a]
   ·by_cases u:tk y<tk x<;>simp[a,u]
  exact⟨λx=>by rw[e];simp,λx y z a u=>by rw[e]at*;simp at*;omega,λx y z a u=>by rw[e]at*;simp at*;omega⟩
 have Y:Holds encF w b 0 o.toArray:=λj t=>by
  have N:j<o.length:=by simpa using t
  have a:=hc j (by omega)
  rw[List.getElem?_map,List.getElem?_eq_getElem N]at a
  refine⟨?_,?_⟩
  ·unfold World.cell?
   simp only[E]
   simp only[Option.isSome_none,Bool.false_eq_true,if_false,Nat.zero_add]
   rw[a]
   simp[getElem!_pos o.toArray j t]
  ·unfold World.frozen?
   simp only[E]
   simp
 have A:CmpLays1 prog g cb encF (λx y:Fin (k+1)=>Lib.compareInt (tk x) (tk y)) b 0 o.toArray.size w:=λm l U K x y=>by
  refine(I _ (by rw[r U (by simpa using K.trans (by simpa using f))];exact B U l) x y _ rfl).mono ?_
  rintro e w' ⟨v,rfl,Q,rfl,he⟩
  exact⟨rfl,nW Q he⟩
 have h:=Any.slices_SortFunc mZ encF (λ_=>rfl) (λx y:Fin (k+1)=>Lib.compareInt (tk x) (tk y)) Z g cb b 0 c o.toArray w X A Y q (by simpa using(by omega:o.length<4611686018427387904))
 rw[show o.toArray.size=n by simpa using f]at h
 refine h.mono ?_
 rintro e w' ⟨rfl,p,m,l,V,Q,rfl⟩
 have F:p.size=n:=by rw[V.1];simpa using f
 refine⟨_,rfl,⟨rfl,rfl,rfl,Nat.le_add_right _ _⟩,rfl,p.toList,?_,?_,?_,B p l⟩
 ·have a:=V.2.2
  simp only[Array.extract_eq_self_of_le,F,Nat.le_refl]at a
  have W:((o.toArray).extract 0 n).toList=o:=by rw[show n=o.toArray.size by simp;omega];simp
  rw[W]at a
  exact a
 ·rw[List.pairwise_iff_getElem]
  intro i j L t M
  have a:=Q i j (Nat.zero_le _) M (by simpa using(by simpa[F]using t))
  unfold ltOf Lib.compareInt at a
  rw[getElem!_pos p i (by simpa using L),getElem!_pos p j (by simpa using t)]at a
  simp only[Array.getElem_toList]
  by_cases u:tk p[j]<tk p[i]
  ·simp[u]at a
  ·omega
 ·refine⟨rfl,_,C p l,by simp[putCells,J],P,by simp[F],λj t=>?_⟩
  have O:j<S.size:=by omega
  simp only[putCells,Array.getElem?_mapIdx,Array.getElem?_eq_getElem O,Option.map_some]
  rw[if_pos ⟨Nat.zero_le _,by omega⟩,Nat.sub_zero,getElem!_pos p j (by omega)]
  simp[List.getElem?_eq_getElem (show j<p.toList.length by simp;omega)]
end Go.Proofs.YtfhbhckhmnleoaaGreat
namespace Go.Proofs.YtfhbhckhmnleoaaGreat
open Go Go.Proofs.Tryz
variable{a:List Int}{H:zV}{b:Mem}{d:zW}{g:Nat}
def ivs(l:List Int):List Value:=l.map (Value.int .i64)
theorem jG{x y:Int}:cmp_Compare_int.C x y H (λv d=>v=vi (Lib.compareInt x y)/\d=H):=by
 refine HC.via λR a=>cmp_Compare_int.link ?_
 unfold cmp_Compare_int.pt
 refine cmp_isNaN_int.link ?_
 unfold cmp_isNaN_int.pt
 refine⟨_,rfl,cmp_isNaN_int.link ?_⟩
 unfold cmp_isNaN_int.pt
 refine⟨_,rfl,?_⟩
 have e: ¬(x !=x)=true:=by simp
 have f: ¬(y !=y)=true:=by simp
 rw[if_neg e,if_neg f]
 unfold Lib.compareInt at a
 by_cases b:x<y
 ·rw[if_pos b]at a⊢;exact a _ _ ⟨rfl,rfl⟩
 rw[if_neg b]at a⊢
 by_cases c:x>y
 ·rw[if_pos c]at a⊢;exact a _ _ ⟨rfl,rfl⟩
 ·rw[if_neg c]at a⊢;exact a _ _ ⟨rfl,rfl⟩
theorem kz(h:eK H d (ivs a)){i:Nat}(b:i<a.length): ∃c,d=some c/\hat H (c.add (i*1))=some (vi a[i]):=by
 cases d with
 | none=>rw[SrcAt_none]at h;simp[ivs]at h;subst h;simp at b
 | some c=>
  refine⟨c,rfl,?_⟩
  have:=fJ (show aU H c 0 _ from h) i (vi a[i]) (by simp[ivs,b])
  rw[Nat.zero_add]at this;rw[Nat.mul_one];exact this
theorem iN{n c:Nat}{v:Int}(j:eK H d (ivs a))(hn:n=a.length)(p:n<=1000000):
  bD.C d n c v H (λu o=>u=.bool (decide (v∈a))/\o=H):=by
 subst hn
 refine HC.via λR l=>bD.link ?_
 unfold bD.pt
 refine bW.link ?_
 unfold bW.pt zY
 refine⟨λi A=>(0<=i/\i<=a.length)/\v ∉ a.take i.toNat/\A=H,λi _=>(a.length-i).toNat,⟨by omega,by simp,rfl⟩,?_⟩
 rintro i A ⟨m,k,rfl⟩
 by_cases b:i< (a.length:Int)
 ·rw[if_pos b]
  have f:i.toNat<a.length:=by omega
  obtain⟨q,rfl,g⟩:=kz j f
  refine⟨q,rfl,⟨m.1,b⟩,_,g,?_⟩
  by_cases e:v=a[i.toNat]
  ·rw[if_pos e]
   refine⟨_,rfl,?_⟩
   rw[zX (show i>=0 from m.1)]
   exact l _ _ ⟨by rw[zX (e▸List.getElem_mem f)],rfl⟩
  ·rw[if_neg e,w64 (n:=i+1) (by omega)]
   have j:(i+1).toNat=i.toNat+1:=by omega
   refine⟨⟨by omega,?_,rfl⟩,by show((a.length:Int)-(i+1)).toNat< ((a.length:Int)-i).toNat;omega⟩
   rw[j,List.take_succ_eq_append_getElem f]
   intro h
   rcases List.mem_append.1 h with h | h
   ·exact k h
   ·exact e (by simpa using h)
 ·rw[if_neg b]
  rw[List.take_of_length_le (by omega)]at k
  refine⟨_,rfl,?_⟩
  rw[zQ (by decide)]
  exact l _ _ ⟨by rw[zQ k],rfl⟩
def Mem.takenTo(m:Mem)(gs:List Int)(k:Nat):List Nat:=(List.range k).filter λi=>decide (0< (m.seg i).taken) && (gs.isEmpty || decide ((m.seg i).gen∈gs))
structure dT (m:Mem) (gs:List Int) (l:List Nat):Prop where
 perm:l.Perm (m.takenTo gs m.limit)
 sorted:l.Pairwise (λi j=>(m.seg i).taken<=(m.seg j).taken)
theorem Mem.takenTo_lt{i:Nat}(h:i∈b.takenTo a g):i<g:=by
 unfold Mem.takenTo at h;rw[List.mem_filter,List.mem_range]at h;exact h.1
theorem Mem.takenTo_len(m:Mem)(a:List Int)(k:Nat):(m.takenTo a k).length<=k:=by
 unfold Mem.takenTo;refine Nat.le_trans (List.length_filter_le _ _) (by simp)
theorem Mem.takenTo_succ(m:Mem)(a:List Int)(k:Nat):m.takenTo a (k+1)=m.takenTo a k++(if 0< (m.seg k).taken/\(a=[]\/(m.seg k).gen∈a)then[k]else[]):=by
 unfold Mem.takenTo
 rw[List.range_succ,List.filter_append]
 congr 1
 by_cases h:0< (m.seg k).taken/\(a=[]\/(m.seg k).gen∈a)
 ·rw[if_pos h]
  have:(decide (0< (m.seg k).taken) && (a.isEmpty || decide ((m.seg k).gen∈a)))=true:=by
   rcases h with⟨b,rfl | c⟩<;>simp_all
  simp[this]
 ·rw[if_neg h]
  have:(decide (0< (m.seg k).taken) && (a.isEmpty || decide ((m.seg k).gen∈a)))=false:=by
   simp only[Bool.and_eq_false_iff,Bool.or_eq_false_iff,decide_eq_false_iff_not,List.isEmpty_eq_false_iff]
   by_cases b:0< (m.seg k).taken
   ·refine .inr ⟨λc=>h ⟨b,.inl c⟩,λc=>h ⟨b,.inr c⟩⟩
   ·exact .inl b
  simp[this]
set_option maxRecDepth 100000 in
theorem gM{bs:Nat}{m:Mem}{gN gC:Nat}{gs:List Int}(M:cw H g bs m)(ok:aV m)(hg:eK H d (ivs gs))(O:gN=gs.length)(bc:gN<=1000):
  cz.C (some ⟨g,0,none⟩) d gN gC H (λv H'=> ∃(B:zW) (c:Nat) (l:List Nat),v=vs B l.length c/\dT m gs l/\Own H' 3 1 B l.length c (ivs (l.map λi:Nat=>(i:Int)))/\(∀i∈blks B,H.size<=i)/\Ext H H'):=by
 refine HC.via λR hR=>cz.link ?_
 unfold cz.pt zY
 have ax:=ok.lim
 intro b t hb D
 have e1:Ext H t:=Ext.push' D
 have g1:=aL hb D
 have s1:t.size=H.size+1:=by rw[D];simp
 refine⟨_,by rw[aH g1];rfl,?_⟩
 rw[onPtr_some]
 have M1:=M.ext e1
 refine⟨_,by rw[aH g1];rfl,_,rfl,_,_,_,M1.segsAt.choose_spec,?_⟩
 refine⟨λB n c i A=>(0<=i/\i<=m.limit)/\n=(m.takenTo gs i.toNat).length/\Own A 3 1 B n c (ivs ((m.takenTo gs i.toNat).map λi:Nat=>(i:Int)))/\(∀j∈blks B,t.size<=j)/\Ext t A,λ_ _ _ i _=>(m.limit-i).toNat,
  ⟨by omega,rfl,gF,by simp,Ext.refl _⟩,?_⟩
 rintro B n c i A ⟨hi,rfl,o,I,u⟩
 have Z:=M1.ext u
 have gA:=u.get g1
 by_cases G:i< (m.limit:Int)
 ·rw[if_pos G]
  have P:i.toNat<m.limit:=by omega
  have hs:(i+1).toNat=i.toNat+1:=by omega
  have h7:=Z.at P (j:=7) (by decide)
  have h0:=Z.at P (j:=0) (by decide)
  refine⟨_,by rw[aH gA];rfl,_,rfl,_,_,_,Z.segsAt.choose_spec,_,rfl,⟨hi.1,G⟩,(m.seg i.toNat).taken,by rw[addr_add_mk,addr_add_mk,Nat.zero_add];exact h7,?_⟩
  rw[w64 (n:=i+1) (by omega)]
  have hm:((m.limit:Int)-(i+1)).toNat< ((m.limit:Int)-i).toNat:=by omega
  have bd:=m.takenTo_len gs i.toNat
  have z: ∀(s:zV) (K:Nat) (X:zV),Ext A s->K=s.size->X=s.push (.cells #[vi i] 3)->(0< (m.seg i.toNat).taken/\(gs=[]\/(m.seg i.toNat).gen∈gs))->
    fy 1 3 8 [vi 0] B (m.takenTo gs i.toNat).length c (some (Addr.mk K 0 none)) 1 X (λap a6 H4=>
     ((0<=i+1/\i+1<=m.limit)/\(m.takenTo gs i.toNat).length+1=(m.takenTo gs (i+1).toNat).length/\Own H4 3 1 ap ((m.takenTo gs i.toNat).length+1) a6 (ivs ((m.takenTo gs (i+1).toNat).map λi:Nat=>(i:Int)))/\(∀j∈blks ap,t.size<=j)/\Ext t H4)/\((m.limit:Int)-(i+1)).toNat< ((m.limit:Int)-i).toNat):=by
   intro s K X r E L e
   have e2:Ext s X:=Ext.push' L
   refine eV (ys:=[vi i]) (o.ext (r.trans e2)) (ft (aL E L) _ 0 0 (λj J=>by simp)) rfl rfl rfl (by omega) ?_
   intro p' c' H4 U f4 ai
   have p:m.takenTo gs (i.toNat+1)=m.takenTo gs i.toNat++[i.toNat]:=by rw[Mem.takenTo_succ,if_pos e]
   refine⟨⟨by omega,by rw[hs,p];simp,?_,λj J=>?_,((u.trans r).trans e2).fr_trans f4 I⟩,hm⟩
   ·rw[hs,p,List.map_append]
    have:(i.toNat:Int)=i:=by omega
    simpa[ivs,this]using U
   ·rcases ai j J with h | h
    ·exact I j h
    ·have:=u.size;have:=r.size;have:=e2.size;omega
  have skip: ∀(s:zV),Ext A s-> ¬(0< (m.seg i.toNat).taken/\(gs=[]\/(m.seg i.toNat).gen∈gs))->
    ((0<=i+1/\i+1<=m.limit)/\(m.takenTo gs i.toNat).length=(m.takenTo gs (i+1).toNat).length/\Own s 3 1 B (m.takenTo gs i.toNat).length c (ivs ((m.takenTo gs (i+1).toNat).map λi:Nat=>(i:Int)))/\(∀j∈blks B,t.size<=j)/\Ext t s)/\((m.limit:Int)-(i+1)).toNat< ((m.limit:Int)-i).toNat:=by
   intro s r e
   have p:m.takenTo gs (i.toNat+1)=m.takenTo gs i.toNat:=by rw[Mem.takenTo_succ,if_neg e,List.append_nil]
   exact⟨⟨by omega,by rw[hs,p],by rw[hs,p];exact o.ext r,I,u.trans r⟩,hm⟩
  by_cases W:(m.seg i.toNat).taken>0
  ·rw[if_pos W]
   by_cases F:(gN:Int)=0
   ·rw[if_pos F]
    have af:gs=[]:=List.length_eq_zero_iff.1 (by omega)
    intro K H3 E aa
    exact z A K H3 (Ext.refl _) E aa ⟨W,.inl af⟩
   ·rw[if_neg F]
    refine⟨(m.seg i.toNat).gen,by rw[addr_add_mk,Nat.zero_add];exact h0,?_⟩
    refine HC.mono (iN ((hg.ext e1).ext u) O (by omega)) ?_
    rintro _ H5 ⟨rfl,h5⟩
    subst h5
    refine⟨_,rfl,?_⟩
    have aj:gs≠[]:=λh=>F (by rw[O,h];rfl)
    by_cases e:(m.seg i.toNat).gen∈gs
    ·rw[if_pos (zX e)]
     intro b3 H6 ae ab
     exact z _ b3 H6 (Ext.refl _) ae ab ⟨W,.inr e⟩
    ·rw[if_neg (by simpa using e)]
     exact skip _ (Ext.refl _) (λh=>h.2.elim aj e)
  ·rw[if_neg W]
   exact skip _ (Ext.refl _) (λh=>W h.1)
 rw[if_neg G]
 have ah:i.toNat=m.limit:=by omega
 rw[ah]at o⊢
 cases B with
 | none=>
  obtain⟨h0,rfl,_⟩:=o
  have T:m.takenTo gs m.limit=[]:=List.length_eq_zero_iff.1 h0
  rw[h0]
  refine HC.mono m0 ?_
  rintro _ H8 ⟨_,rfl⟩
  exact hR _ _ ⟨none,0,[],rfl,⟨by rw[T],List.Pairwise.nil⟩,gF,by simp,e1.trans u⟩
 | some a=>
  have ha:a=⟨a.block,0,none⟩:=o.1
  obtain⟨k,hk⟩: ∃k,m.limit=k+1:=⟨m.limit-1,by omega⟩
  have S: ∀i∈m.takenTo gs m.limit,i<k+1:=λi hi=>hk▸Mem.takenTo_lt hi
  generalize al:(m.takenTo gs m.limit).attach.map (λi=>(⟨i.1,S i.1 i.2⟩:Fin (k+1)))=xs
  have q:xs.map (λx=>x.val)=m.takenTo gs m.limit:=by rw[<-al];simp
  have N:ivs ((m.takenTo gs m.limit).map λi:Nat=>(i:Int))=xs.map encF:=by
   rw[<-q];simp[ivs,encF,Function.comp_def]
  rw[N]at o
  rw[ha]at o⊢
  have ba:a.block≠b:=by have:=I a.block (by simp);omega
  have b7:a.block≠g/\a.block≠bs:=by
   have:=I a.block (by simp);have:=M.lt;omega
  refine HC.mono (rv (k:=k) (tk:=λx=>(m.seg x.val).taken) o (by have:=m.takenTo_len gs m.limit;omega) (enters_of func89 (by kernel_rfl) rfl) ?_) ?_
  ·intro H' f x y
   refine HC.via λR' ac=>ee.link ?_
   unfold ee.pt
   have gb:=f.get (b:=b) (by simp;omega) gA
   have Y:=Z.keep f (by simp;omega) (by simp;omega)
   have ak:=Y.at (k:=x.val) (by have:=x.isLt;omega) (j:=7) (by decide)
   have am:=Y.at (k:=y.val) (by have:=y.isLt;omega) (j:=7) (by decide)
   have be:=x.isLt
   have bf:=y.isLt
   refine⟨_,rfl,_,by rw[aH gb];rfl,_,rfl,_,_,_,Y.segsAt.choose_spec,_,rfl,⟨by omega,by omega⟩,(m.seg x.val).taken,by rw[show Int.toNat (x.val:Int)=x.val by omega,addr_add_mk,addr_add_mk,Nat.zero_add];exact ak,
    _,by rw[aH gb];rfl,_,rfl,_,_,_,Y.segsAt.choose_spec,_,rfl,⟨by omega,by omega⟩,(m.seg y.val).taken,by rw[show Int.toNat (y.val:Int)=y.val by omega,addr_add_mk,addr_add_mk,Nat.zero_add];exact am,?_⟩
   refine HC.mono jG ?_
   rintro _ aR ⟨rfl,a9⟩
   exact⟨_,rfl,ac _ _ ⟨rfl,a9▸Ext.refl _⟩⟩
  ·rintro _ H8 ⟨_,ys,hp,V,w,f8⟩
   have Q:(ys.map (λy=>y.val)).length=(m.takenTo gs m.limit).length:=by
    rw[List.length_map,hp.length_eq,<-q,List.length_map]
   rw[<-Q]at w⊢
   refine hR _ _ ⟨some ⟨a.block,0,none⟩,c,ys.map (λy=>y.val),rfl,⟨?_,?_⟩,?_,λj J=>?_,(e1.trans u).fr_trans f8 (λj J=>?_)⟩
   ·rw[<-q];exact hp.map _
   ·exact List.pairwise_map.2 V
   ·have:ivs ((ys.map λy=>y.val).map λi:Nat=>(i:Int))=ys.map encF:=by simp[ivs,encF,Function.comp_def]
    rw[this];exact w
   ·simp at J;have:=I a.block (by simp);omega
   ·simp at J;have:=I a.block (by simp);omega
def Mem.sumN(m:Mem)(l:List Nat):Int:=(l.map λi=>(m.seg i).n).sum
def Mem.words(m:Mem)(gs:List Int):Int:=m.sumN (m.takenTo gs m.limit)
theorem m4(m:Mem)(l a:List Nat):m.sumN (l++a)=m.sumN l+m.sumN a:=by unfold Mem.sumN;rw[List.map_append,List.sum_append]
theorem dT.has{l:List Nat}(h:dT b a l)(e:g∈l):b.has (g:Int)/\g<b.limit/\0< (b.seg g).taken/\(a=[]\/(b.seg g).gen∈a):=by
 have c:=h.perm.subset e
 have d:=Mem.takenTo_lt c
 unfold Mem.takenTo at c
 rw[List.mem_filter]at c
 simp only[Bool.and_eq_true,decide_eq_true_eq,Bool.or_eq_true,List.isEmpty_iff]at c
 refine⟨⟨by omega,by omega,?_⟩,d,c.2.1,c.2.2⟩
 have:((g:Int)).toNat=g:=by omega
 rw[this];omega
theorem dT.len{l:List Nat}(h:dT b a l):l.length<=b.limit:=by
 rw[h.perm.length_eq];exact b.takenTo_len a _
theorem k9{T:TypeId}{n c:Nat}{l:List Nat}(b:Own H T 1 d n c (ivs (l.map λi:Nat=>(i:Int)))){i:Nat}(f:i<l.length): ∃a,d=some a/\hat H (a.add (i*1))=some (vi (l[i]:Int)):=by
 obtain⟨a,e,h⟩:=kz b.src (i:=i) (by simpa using f)
 exact⟨a,e,by simpa using h⟩
