/-
 A heap of a law's own: what is made on it. Proves nothing of any one statement.
-/
import Derived.Test.YtojbbgcjiaphjaaGreatPair
import Derived.Test.YtojbbgcjiaphjaaGreatFword
import Derived.Laws.RangeAny
import Derived.Shelf.SlSortCmp.NoneTotal
import Derived.Test.YtojbbgcjiaphjaaGreatFcardx
set_option linter.unusedVariables false
set_option linter.unusedSimpArgs false
namespace Go.Proofs.YtojbbgcjiaphjaaGreat
open Go
variable{a:Blk}{b:Hp}{d:Mem}{H j:zV}{i k o:Int}
theorem View.inv{c:zW}(V:View H c (some (a,b))):c=some ⟨a.h,0,none⟩/\HpAt H a b/\SpOK b.sp:=by
 cases V with
 | real h d=>exact⟨rfl,h,d⟩
structure Live (H0 H:zV) (b:Blk) (x:Hp):Prop where
 at':HpAt H b x
 ok:SpOK x.sp
 ext:Ext H0 H
 young: ∀i,i∈b.all->H0.size<=i
theorem Live.view(h:Live H j a b):View j (some ⟨a.h,0,none⟩) (some (a,b)):=.real h.at' h.ok
theorem Live.grow{c:zV}(h:Live H j a b)(e:Ext j c):Live H c a b:=⟨h.at'.ext e,h.ok,h.ext.trans e,h.young⟩
theorem Live.step{d H a:zV}{b:Blk}{x e:Hp}(h:Live d H b x)(V:View a (some ⟨b.h,0,none⟩) (some (b,e)))(f:Fr (own (some (b,x))) H a):Live d a b e:=by
 obtain⟨_,g,c⟩:=V.inv
 exact⟨g,c,h.ext.fr_trans f (λi j=>h.young i (by simp[own]at j;simp[Blk.all];omega)),h.young⟩
theorem Live.others(f:Fr (own (some (a,b))) H j):Fr a.all H j:=f.mono (λi c _=>by simp[own]at c;simp[Blk.all];omega)
theorem Live.n64(h:Live H j a b)(k:Nat):(b.sp.mem.seg k).n<=64:=(h.ok.mem.seg k).n.2
def Mem.Even(m:Mem):Prop:= ∀k,(m.seg k).kind<=1->(m.seg k).n % 2=0
theorem tn(a:Nat):(Mem.fresh a).Even:=λ_ _=>rfl
theorem bS.even{m a:Mem}(h:bS m a)(b:m.Even):a.Even:=λk hk=>by
 rw[(h.seg k).2.2.1];exact b k (by rw[<-(h.seg k).2.1];exact hk)
theorem Mem.Even.store{m:Mem}(h:m.Even)(a w:Int):(m.store a w).1.Even:=λk hk=>by
 rw[(Mem.store_seg k).2.2];exact h k (by rw[<-(Mem.store_seg k).2.1];exact hk)
theorem Grown.even{m g:Mem}{t:Int}(a:Grown m g i k o t)(d:m.Even)(hn:t<=1->k % 2=0):g.Even/\(t<=1->i % 2=0):=by
 obtain⟨q,r,s⟩:=a.addr
 have c:t<=1->i % 64 % 2=0:=λhk=>by
  by_cases f:(m.seg (i / 64).toNat).taken=0
  ·rw[a.fresh f];rfl
  ·obtain⟨_,n,p,_⟩:=a.old f
   rw[<-p];exact d _ (by rw[n];exact hk)
 refine⟨λj b=>?_,λhk=>by have:=c hk;omega⟩
 by_cases e:j=(i / 64).toNat
 ·subst e
  obtain⟨_,_,h,l⟩:=a.new
  rw[h]at b
  have:=c b
  have:=hn b
  rw[l];omega
 ·rw[a.others j e]at b⊢;exact d j b
structure Pr (m:Mem) (w tag a d:Int):Prop where
 word:aG w
 istag:tag=1\/tag=2
 at':m.atW w tag (tag-1)
 even:w / 8 % 2=0
 used:m.used (w / 8+1)
 car:m.get (w / 8)=a
 cdr:m.get (w / 8+1)=d
theorem Pr.isPair{a:Int}(h:Pr d i k o a):d.isPair i:=by
 refine⟨?_,h.even⟩
 rcases h.istag with e | e
 ·have:=h.at';rw[e]at this;exact .inl this
 ·have:=h.at';rw[e]at this;exact .inr this
theorem ky.notPair{b:List Int}(h:ky d i k o b): ¬d.isPair i:=λa=>by
 have c:=h.obj.1.2.1
 rcases a.1 with a | a<;>have:=a.2.1<;>omega
theorem Pr.size{w b a c:Int}(h:Pr d w b a c):d.sizeOf w=2:=by unfold Mem.sizeOf;rw[if_pos h.isPair]
theorem ky.size{w a b:Int}{ws:List Int}(h:ky d w a b ws):d.sizeOf w=ws.length+1:=by
 unfold Mem.sizeOf;rw[if_neg h.notPair,if_pos h.obj,h.len]
theorem Pr.keep{c:Mem}{w b a l:Int}(h:Pr d w b a l)(k:Keep d c):Pr c w b a l:=by
 obtain⟨e,f,g,_,_⟩:=k.used _ (h.at'.used h.word)
 obtain⟨i,j,_⟩:=k.used _ h.used
 exact⟨h.word,h.istag,⟨h.at'.1,h.at'.2.1,e.2.1,by rw[g];exact h.at'.2.2.2.1,e.2.2⟩,h.even,i,by rw[f];exact h.car,by rw[j];exact h.cdr⟩
theorem Pr.set{m:Mem}{w b a d v:Int}(h:Pr m w b a d)(j:bJ m)(c:i=0\/i=1):Pr (m.store (w / 8+i) v).1 w b (if i=0 then v else a) (if i=0 then d else v):=by
 have g:0<=w / 8:=by have:=h.word.1;omega
 have e:=h.at'.used h.word
 have f:m.used (w / 8+i):=by
  rcases c with rfl | rfl
  ·rw[Int.add_zero];exact e
  ·exact h.used
 refine⟨h.word,h.istag,⟨h.at'.1,h.at'.2.1,Mem.store_has.2 h.at'.2.2.1,by rw[(Mem.store_seg _).2.1];exact h.at'.2.2.2.1,by rw[(Mem.store_seg _).2.2];exact h.at'.2.2.2.2⟩,h.even,Mem.store_used.2 h.used,?_,?_⟩
 ·rw[Mem.store_get f _ g]
  rcases c with rfl | rfl
  ·rw[if_pos (by omega),if_pos rfl]
  ·rw[if_neg (by omega),if_neg (by decide)];exact h.car
 ·rw[Mem.store_get f _ (by omega)]
  rcases c with rfl | rfl
  ·rw[if_neg (by omega),if_pos rfl];exact h.cdr
  ·rw[if_pos rfl,if_neg (by decide)]
variable{H o:zV}{d:Blk}{i:Hp}{j q:Int}{k:Nat->Bool}{r:Sp}
structure Tr where
 tgt:Int
 old:Nat->Bool
 frm:List (Int×Value)
 seen:List (Int×Value)
 cards:List (Int×Int)
 over:Bool
variable{b:Tr}
structure TB where
 t:Nat
 f:Nat
 s:Nat
 cB:zW
 cN:Nat
 cC:Nat
variable{a:TB}
def TB.all(q:TB):List Nat:=q.t::q.f::q.s::blks q.cB
def eY(l:List (Int×Int)):List Value:=l.flatMap λc=> [vi c.1,vi c.2]
structure TrAt (H:zV) (b:Blk) (q:TB) (t:Tr):Prop where
 tr: ∃cs:Array Value,H[q.t]?=some (.cells cs 144 (0,0))/\cs.size=1030/\cs[0]?=some (vp (some ⟨b.h,0,none⟩))/\cs[1]?=some (vi t.tgt)/\(∀k,k<1024->cs[2+k]?=some (vi (if t.old k then 1 else 0)))/\cs[1026]?=some (.map (some q.f))/\cs[1027]?=some (.map (some q.s))/\cs[1028]?=some (vs q.cB q.cN q.cC)/\cs[1029]?=some (vi (if t.over then 1 else 0))
 frm: ∃(es:Array MapEntry) (cl:Nat),H[q.f]?=some (.map es cl)/\Ents (bF .i64) es.toList t.frm
 seen: ∃(es:Array MapEntry) (cl:Nat),H[q.s]?=some (.map es cl)/\Ents (bF .i64) es.toList t.seen
 cards:fB H q.cB (eY t.cards)
 cB: ∀a,q.cB=some a->a.block<H.size
 clen:q.cN=t.cards.length/\q.cN<=4096
 ne:q.t≠q.f/\q.t≠q.s/\q.f≠q.s/\ ∀i∈blks q.cB,i≠q.t/\i≠q.f/\i≠q.s
theorem TrAt.lt{b:Blk}{t:Tr}(h:TrAt H b a t): ∀i,i∈a.all->i<H.size:=by
 intro i c
 obtain⟨p,g,_⟩:=h.tr
 obtain⟨q,o,j,_⟩:=h.frm
 obtain⟨f,e,k,_⟩:=h.seen
 have l:=aW g
 have m:=aW j
 have n:=aW k
 simp only[TB.all,List.mem_cons]at c
 rcases c with rfl | rfl | rfl | c
 ·exact l
 ·exact m
 ·exact n
 ·cases d:a.cB with
  | none=>rw[d]at c;simp at c
  | some r=>rw[d]at c;simp at c;rw[c];exact h.cB r d
theorem TrAt.keep{S:List Nat}{q:TB}(h:TrAt H d q b)(f:Fr S H o)(e: ∀i,i∈S->i ∉ q.all):TrAt o d q b:=by
 obtain⟨r,t,x⟩:=h.tr
 obtain⟨s,p,u,m⟩:=h.frm
 obtain⟨k,j,v,n⟩:=h.seen
 refine⟨⟨r,f.get (λc=>e _ c (by simp[TB.all])) t,x⟩,⟨s,p,f.get (λc=>e _ c (by simp[TB.all])) u,m⟩,⟨k,j,f.get (λc=>e _ c (by simp[TB.all])) v,n⟩,?_,λa w=>Nat.lt_of_lt_of_le (h.cB a w) f.size,h.clen,h.ne⟩
 have g:=h.cards
 cases l:q.cB with
 | none=>rw[l]at g;exact g
 | some a=>
  rw[l]at g
  exact f.rowAt (λc=>e _ c (by simp[TB.all,l])) g
theorem TrAt.ext{b:Blk}{t:Tr}(h:TrAt H b a t)(e:Ext H o):TrAt o b a t:=h.keep (S:=[]) e.fr (by simp)
theorem TrAt.hPtr(h:TrAt H d a b):hat H ⟨a.t,0,none⟩=some (vp (some ⟨d.h,0,none⟩)):=by
 obtain⟨f,e,_,c,_⟩:=h.tr
 rw[aP e,c]
theorem TrAt.tgtAt(h:TrAt H d a b):hat H ⟨a.t,1,none⟩=some (vi b.tgt):=by
 obtain⟨f,e,_,_,c,_⟩:=h.tr
 rw[aP e,c]
theorem TrAt.oldAt(h:TrAt H d a b){k:Nat}(hk:k<1024):hat H ⟨a.t,2+k,none⟩=some (vi (if b.old k then 1 else 0)):=by
 obtain⟨f,e,_,_,_,c,_⟩:=h.tr
 rw[aP e,c k hk]
theorem TrAt.fAt{H:zV}(h:TrAt H d a b):hat H ⟨a.t,1026,none⟩=some (.map (some a.f)):=by
 obtain⟨g,e,_,_,_,_,c,_⟩:=h.tr
 rw[aP e,c]
theorem TrAt.sAt(h:TrAt H d a b):hat H ⟨a.t,1027,none⟩=some (.map (some a.s)):=by
 obtain⟨f,e,_,_,_,_,_,c,_⟩:=h.tr
 rw[aP e,c]
theorem TrAt.cAt(h:TrAt H d a b):hat H ⟨a.t,1028,none⟩=some (vs a.cB a.cN a.cC):=by
 obtain⟨f,e,_,_,_,_,_,_,c,_⟩:=h.tr
 rw[aP e,c]
theorem TrAt.oAt(h:TrAt H d a b):hat H ⟨a.t,1029,none⟩=some (vi (if b.over then 1 else 0)):=by
 obtain⟨f,e,_,_,_,_,_,_,_,c⟩:=h.tr
 rw[aP e,c]
structure Tc (H:zV) (b:Blk) (x:Hp) (q:TB) (t:Tr):Prop where
 hp:HpAt H b x
 ok:SpOK x.sp
 tr:TrAt H b q t
 apart: ∀i,i∈q.all->i ∉ b.all
theorem Tc.ext{b:Blk}{t:Tr}(h:Tc H b i a t)(e:Ext H o):Tc o b i a t:=⟨h.hp.ext e,h.ok,h.tr.ext e,h.apart⟩
theorem Tc.keep{S:List Nat}{x:Hp}(h:Tc H d x a b)(f:Fr S H o)(c: ∀i,i∈S->i ∉ d.all)(e: ∀i,i∈S->i ∉ a.all):Tc o d x a b:=⟨h.hp.keep f c,h.ok,h.tr.keep f e,h.apart⟩
theorem Tc.view(h:Tc H d i a b):View H (some ⟨d.h,0,none⟩) (some (d,i)):=.real h.hp h.ok
theorem Tc.step{S:List Nat}{H a:zV}{b:Blk}{x c:Hp}{q:TB}{t:Tr}(h:Tc H b x q t)(f:Fr S H a)(d: ∀i,i∈S->i∈b.all)(g:HpAt a b c)(k:SpOK c.sp):Tc a b c q t:=
 ⟨g,k,h.tr.keep f (λi e j=>h.apart i j (d i e)),h.apart⟩
abbrev spB(b:Blk):List Nat:=[b.sp,b.m,b.s]
theorem kV{i:Nat}(h:i∈spB d):i∈d.all:=by simp[spB]at h;simp[Blk.all];omega
theorem Tc.withMem{S:List Nat}{m:Mem}(h:Tc H d i a b)(f:Fr S H o)(c: ∀j,j∈S->j=d.m\/j=d.s)(hm:cX o d.m d.s m)(g:SpOK {i.sp with mem:=m}):Tc o d {i with sp:={i.sp with mem:=m}} a b:=
 h.step f (λj e=>by rcases c j e with rfl | rfl<;>simp[Blk.all]) (h.hp.withMem f c hm) g
theorem Tc.s1(h:Tc H d i a b):hat H ⟨a.t,0,none⟩=some (vp (some ⟨d.h,0,none⟩))/\hat H ⟨d.h,0,none⟩=some (vp (some ⟨d.c,0,none⟩))/\hat H ⟨d.c,0,none⟩=some (vp (some ⟨d.sp,0,none⟩))/\hat H ⟨d.sp,0,none⟩=some (vp (some ⟨d.m,0,none⟩)):=
 ⟨h.tr.hPtr,h.hp.hPtr,h.hp.cd.cPtr,h.hp.cd.sp.memPtr⟩
theorem lu(T:Tc H d i a b):cD.C (some ⟨a.t,0,none⟩) H (λv c=>v=.bool b.over/\c=H):=by
 refine HC.via λR e=>cD.link ?_
 unfold cD.pt
 rw[onPtr_some]
 refine⟨_,T.tr.hPtr,?_⟩
 rw[onPtr_some]
 refine⟨_,by rw[addr_add_mk];exact T.tr.oAt,e _ _ ⟨?_,rfl⟩⟩
 cases b.over<;>rfl
def aV(old:Nat->Bool)(w:Int):Prop:=iZ w/\w % 8≠6/\old (w / 8 / 64).toNat=true
instance (old:Nat->Bool) (w:Int):Decidable (aV old w):=by unfold aV;infer_instance
theorem pO(w:Int): ∃(a:Int) (p:Bool),(if(w % 8=1\/w % 8=2\/w % 8=3\/w % 8=6)/\w / 8<65536 then Value.tuple #[vi (w / 8),VT]else .tuple #[vi 0,VF])=.tuple #[vi a,.bool p]/\((iZ w/\p=true/\a=w / 8)\/(¬iZ w/\p=false/\a=0)):=by
 by_cases b:(w % 8=1\/w % 8=2\/w % 8=3\/w % 8=6)/\w / 8<65536
 ·rw[if_pos b];exact⟨_,_,rfl,.inl ⟨b,rfl,rfl⟩⟩
 ·rw[if_neg b];exact⟨_,_,rfl,.inr ⟨b,rfl,rfl⟩⟩
theorem pP(T:Tc H d i a b)(q:aG j):
  dT.C (some ⟨a.t,0,none⟩) j H (λv f=>v=.bool (decide (b.over=false/\aV b.old j))/\Ext H f):=by
 refine HC.via λR s=>dT.link ?_
 unfold dT.pt zY
 refine HC.mono (jW q) ?_
 rintro _ y ⟨rfl,c⟩
 obtain⟨B,p,w,u⟩:=pO j
 refine⟨B,p,w,?_⟩
 refine HC.mono (lu (T.ext c)) ?_
 rintro _ z ⟨rfl,rfl⟩
 refine⟨_,rfl,?_⟩
 have no: ∀f,¬(b.over=false/\aV b.old j)->Ext H f->R VF f:=λf hn e=>s _ _ ⟨by rw[zQ hn],e⟩
 by_cases l:b.over=true
 ·rw[if_pos l];exact no _ (λh=>by rw[l]at h;cases h.1) c
 rw[if_neg l]
 rcases u with⟨k,rfl,rfl⟩ | ⟨k,rfl,rfl⟩
 case inr=>rw[if_neg (by decide)];exact no _ (λh=>k h.2.1) c
 rw[if_pos rfl]
 refine HC.mono (gK q) ?_
 rintro _ A ⟨rfl,o⟩
 refine⟨_,rfl,?_⟩
 by_cases g:j % 8=6
 ·rw[if_pos g];exact no _ (λh=>h.2.2.1 g) (c.trans o)
 rw[if_neg g]
 have x:j / 8<65536:=k.2
 have r:0<=j / 8:=by have:=q.1;omega
 rw[jR r,w64 (n:=j / 8 / 64) (by omega)]
 have t:=T.ext (c.trans o)
 refine⟨_,rfl,⟨by omega,by omega⟩,(if b.old (j / 8 / 64).toNat then 1 else 0),?_,s _ _ ⟨?_,c.trans o⟩⟩
 ·rw[addr_add_mk,addr_add_mk,Nat.zero_add,Nat.mul_one];exact t.tr.oldAt (by omega)
 ·congr 1
  by_cases m:b.old (j / 8 / 64).toNat=true
  ·rw[if_pos m,zX ⟨by simpa using l,k,g,m⟩];rfl
  ·rw[if_neg m,zQ (λh=>m h.2.2.2)];rfl
def Mem.fwd(m:Mem)(w:Int):Option Int:=if m.used (w / 8)/\iZ (m.get (w / 8))/\m.get (w / 8) % 8=6 then some (m.get (w / 8) / 8*8+w % 8)else none
theorem pQ(T:Tc H d i a b)(u:aG j)(r:iZ j):
  dI.C (some ⟨a.t,0,none⟩) j H (λv l=>v=.tuple #[vu ((i.sp.mem.fwd j).getD j),.bool (i.sp.mem.fwd j).isSome]/\Ext H l):=by
 refine HC.via λR x=>dI.link ?_
 unfold dI.pt
 refine HC.mono (jW u) ?_
 rintro _ N ⟨rfl,m⟩
 rw[if_pos (show(j % 8=1\/j % 8=2\/j % 8=3\/j % 8=6)/\j / 8<65536 from r)]
 have q:=T.ext m
 obtain⟨J,K,L,M⟩:=q.s1
 refine⟨_,_,rfl,_,rfl,_,J,_,rfl,_,K,_,rfl,_,L,_,rfl,_,M,?_⟩
 have I:j / 8<65536:=r.2
 have G:0<=j / 8:=by have:=u.1;omega
 refine HC.mono (jX q.hp.cd.sp.mem q.ok.mem (by omega)) ?_
 rintro _ O ⟨rfl,rfl⟩
 have k: ∃(g e:Int),(if i.sp.mem.used (j / 8)then Value.tuple #[vu (i.sp.mem.get (j / 8)),vi 0]else .tuple #[vu 0,vi 18])=.tuple #[vu g,vi e]/\aG g/\((i.sp.mem.used (j / 8)/\g=i.sp.mem.get (j / 8)/\e=0)\/(¬i.sp.mem.used (j / 8)/\g=0/\e=18)):=by
  by_cases c:i.sp.mem.used (j / 8)
  ·rw[if_pos c];exact⟨_,_,rfl,(T.ok.mem.seg _).words _,.inl ⟨c,rfl,rfl⟩⟩
  ·rw[if_neg c];exact⟨_,_,rfl,by decide,.inr ⟨c,rfl,rfl⟩⟩
 obtain⟨g,e,t,f,A⟩:=k
 refine⟨g,e,t,?_⟩
 refine HC.mono (jW f) ?_
 rintro _ P ⟨rfl,n⟩
 obtain⟨V,p,F,s⟩:=pO g
 refine⟨V,p,F,?_⟩
 have no: ∀l,¬(i.sp.mem.used (j / 8)/\iZ (i.sp.mem.get (j / 8))/\i.sp.mem.get (j / 8) % 8=6)->Ext H l->R (.tuple #[vu j,VF]) l:=λl hn e=>x _ _ ⟨by unfold Mem.fwd;rw[if_neg hn];rfl,e⟩
 rcases A with⟨c,rfl,rfl⟩ | ⟨c,rfl,rfl⟩
 case inr=>rw[if_neg (by decide)];exact no _ (λh=>c h.1) (m.trans n)
 rw[if_pos rfl]
 rcases s with⟨k,rfl,rfl⟩ | ⟨k,rfl,rfl⟩
 case inr=>rw[if_neg (by decide)];exact no _ (λh=>k h.2.1) (m.trans n)
 rw[if_pos rfl]
 refine HC.mono (gK f) ?_
 rintro _ Q ⟨rfl,w⟩
 refine⟨_,rfl,?_⟩
 by_cases o:i.sp.mem.get (j / 8) % 8=6
 case neg=>rw[if_neg o];exact no _ (λh=>o h.2.2) ((m.trans n).trans w)
 rw[if_pos o]
 refine HC.mono (gK u) ?_
 rintro _ S ⟨rfl,y⟩
 refine⟨_,rfl,?_⟩
 have D:i.sp.mem.get (j / 8) / 8<65536:=k.2
 have B:=f.1
 refine HC.mono (lU (by omega) (by omega)) ?_
 rintro _ U ⟨rfl,z⟩
 rw[if_neg (λE=>E r.1),if_pos (by omega)]
 refine⟨_,_,rfl,x _ _ ⟨?_,((((m.trans n).trans w).trans y).trans z)⟩⟩
 unfold Mem.fwd
 rw[if_pos ⟨c,k,o⟩];rfl
theorem nO(T:Tc H d i a b)(g:aG j):
  bT.C (some ⟨a.t,0,none⟩) j H (λv k=>v=.bool (decide (¬(b.over=false/\aV b.old j)) || (i.sp.mem.fwd j).isSome)/\Ext H k):=by
 refine HC.via λR f=>bT.link ?_
 unfold bT.pt
 refine HC.mono (pP T g) ?_
 rintro _ m ⟨rfl,e⟩
 refine⟨_,rfl,?_⟩
 by_cases c:b.over=false/\aV b.old j
 ·rw[if_pos (zX c)]
  refine HC.mono (pQ (T.ext e) g c.2.1) ?_
  rintro _ n ⟨rfl,l⟩
  refine⟨_,_,rfl,f _ _ ⟨?_,e.trans l⟩⟩
  rw[zQ (λh=>h c),Bool.false_or]
 ·rw[if_neg (by simpa using c)]
  exact f _ _ ⟨by rw[zX c,Bool.true_or],e⟩
def Mem.row(m:Mem)(a:Int)(n:Nat):List Int:=(List.range n).map λi:Nat=>m.get (a+(i:Int))
theorem Mem.row_len(m:Mem)(a:Int)(n:Nat):(m.row a n).length=n:=by simp[Mem.row]
theorem Mem.row_get(m:Mem)(a:Int){n i:Nat}(h:i<n):(m.row a n)[i]'(by rw[Mem.row_len];exact h)=m.get (a+i):=by simp[Mem.row]
theorem Mem.row_take(m:Mem)(a:Int){n i:Nat}(h:i<n):(m.row a n).take (i+1)=(m.row a n).take i++[m.get (a+i)]:=by
 rw[List.take_succ_eq_append_getElem (by rw[Mem.row_len];exact h),Mem.row_get m a h]
def Mem.kindOf(m:Mem)(w:Int):Int:=(m.seg (w / 8 / 64).toNat).kind
def Sp.moved(m:Mem)(w:Int)(r:Sp×Int×Int):Sp:={r.1 with mem:=(r.1.mem.sets r.2.1 (m.row (w / 8) (m.sizeOf w).toNat)).set (w / 8) (r.2.1*8+6)}
def Sp.visit(s:Sp)(old:Nat->Bool)(T w:Int):Sp×Int:=
 if ¬aV old w then(s,w)
 else match s.mem.fwd w with
  | some v=>(s,v)
  | none=>
   if s.mem.sizeOf w=0 then(s,w)
   else if(s.alloc T (s.mem.kindOf w) (s.mem.sizeOf w)).2.2=0 then
    (Sp.moved s.mem w (s.alloc T (s.mem.kindOf w) (s.mem.sizeOf w)),(s.alloc T (s.mem.kindOf w) (s.mem.sizeOf w)).2.1*8+w % 8)
   else(s,w)
theorem Sp.visit_no(h: ¬aV k q):r.visit k j q=(r,q):=by unfold Sp.visit;rw[if_pos h]
theorem Sp.visit_fwd{s:Sp}{T w v:Int}(h:aV k w)(a:s.mem.fwd w=some v):s.visit k T w=(s,v):=by unfold Sp.visit;rw[if_neg (λb=>b h),a]
theorem Sp.visit_0(h:aV k q)(b:r.mem.fwd q=none)(a:r.mem.sizeOf q=0):r.visit k j q=(r,q):=by unfold Sp.visit;rw[if_neg (λc=>c h),b];simp only[];rw[if_pos a]
theorem Sp.visit_full(h:aV k q)(c:r.mem.fwd q=none)(a:r.mem.sizeOf q≠0)(b:(r.alloc j (r.mem.kindOf q) (r.mem.sizeOf q)).2.2≠0):r.visit k j q=(r,q):=by unfold Sp.visit;rw[if_neg (λd=>d h),c];simp only[];rw[if_neg a,if_neg b]
theorem Sp.visit_go{T w:Int}(h:aV k w)(c:r.mem.fwd w=none)(a:r.mem.sizeOf w≠0)(b:(r.alloc T (r.mem.kindOf w) (r.mem.sizeOf w)).2.2=0):
  r.visit k T w=(Sp.moved r.mem w (r.alloc T (r.mem.kindOf w) (r.mem.sizeOf w)),(r.alloc T (r.mem.kindOf w) (r.mem.sizeOf w)).2.1*8+w % 8):=by unfold Sp.visit;rw[if_neg (λd=>d h),c];simp only[];rw[if_neg a,if_pos b]
theorem Mem.size_used{m:Mem}(l:bJ m)(p:m.Even)(u:aG j)(h:m.sizeOf j≠0):0<m.sizeOf j/\m.sizeOf j<=63/\(∀i:Nat,(i:Int)<m.sizeOf j->m.used (j / 8+i))/\j / 8 % 64+m.sizeOf j<=64/\0<=j / 8/\m.has (j / 8 / 64):=by
 unfold Mem.sizeOf at*
 have o:0<=j / 8:=by have:=u.1;omega
 by_cases d:m.isPair j
 ·rw[if_pos d]at h⊢
  have f:m.has (j / 8 / 64)/\(m.seg (j / 8 / 64).toNat).kind<=1/\j / 8 % 64< (m.seg (j / 8 / 64).toNat).n:=by
   rcases d.1 with q | q
   ·exact⟨q.2.2.1,by rw[q.2.2.2.1];decide,q.2.2.2.2⟩
   ·exact⟨q.2.2.1,by rw[q.2.2.2.1];decide,q.2.2.2.2⟩
  have r:=p _ f.2.1
  have v:=d.2
  have hn:=(l.seg (j / 8 / 64).toNat).n
  refine⟨by decide,by decide,λi s=>?_,by omega,o,f.1⟩
  have c:(j / 8+i) / 64=j / 8 / 64:=by omega
  have e:(j / 8+i) % 64=j / 8 % 64+i:=by omega
  exact⟨by omega,by rw[c];exact f.1,by rw[c,e];omega⟩
 ·rw[if_neg d]at h⊢
  by_cases b:m.isObj j
  ·rw[if_pos b]at h⊢
   have w:=b.len_lt
   have g:m.len j=hn (m.get (j / 8)):=by unfold Mem.len;rw[if_pos b]
   have t:=b.2.2
   have k:=(l.seg (j / 8 / 64).toNat).n
   have a:=b.1.2.2.1
   rw[g]
   refine⟨by omega,by omega,λi s=>?_,by omega,o,a⟩
   have c:(j / 8+i) / 64=j / 8 / 64:=by omega
   have e:(j / 8+i) % 64=j / 8 % 64+i:=by omega
   exact⟨by omega,by rw[c];exact a,by rw[c,e];omega⟩
  ·rw[if_neg b]at h;exact absurd rfl h
theorem Grown.not_in{m f:Mem}{k n:Int}(b:Grown m f j n q k){x:Int}(d:m.used x): ¬(j<=x/\x<j+n):=λh=>by
 obtain⟨g,i,l⟩:=b.addr
 have a:x / 64=j / 64:=by omega
 by_cases c:(m.seg (j / 64).toNat).taken=0
 ·have:=d.2.1.2.2;rw[a]at this;exact this c
 ·have o:=(b.old c).2.2.1
  have e:=d.2.2
  rw[a]at e
  omega
theorem Grown.get{m d:Mem}{a g k n:Int}(c:Grown m d a n g k){x:Int}(f:m.used x):d.get x=m.get x:=by
 unfold Mem.get
 by_cases b:(x / 64).toNat=(a / 64).toNat
 ·have e:(m.seg (a / 64).toNat).taken≠0:=by rw[<-b];exact f.2.1.2.2
  rw[b,(c.old e).2.2.2.1]
 ·rw[c.others _ b]
set_option maxRecDepth 100000 in
theorem tp(T:Tc H d i a b)(he:i.sp.mem.Even)(S:aG j)(hc:i.sp.mem.count<4611686018427387904)(az:b.over=false):
  bI.C (some ⟨a.t,0,none⟩) j H (λv t=>v=vu (i.sp.visit b.old b.tgt j).2/\Tc t d {i with sp:=(i.sp.visit b.old b.tgt j).1} a b/\Fr (spB d) H t):=by
 refine HC.via λR z=>bI.link ?_
 unfold bI.pt zY
 refine HC.mono (pP T S) ?_
 rintro _ H1 ⟨rfl,N⟩
 refine⟨_,rfl,?_⟩
 have q: ∀(v:Int) t,(i.sp.visit b.old b.tgt j)=(i.sp,v)->Ext H t->R (vu v) t:=λv t h e=>by
  rw[h]at z;exact z _ _ ⟨rfl,T.ext e,e.fr⟩
 by_cases o:aV b.old j
 case neg=>
  rw[if_neg (by simp[o])]
  exact q j _ (Sp.visit_no o) N
 rw[if_pos (zX ⟨az,o⟩)]
 have T1:=T.ext N
 refine HC.mono (pQ T1 S o.1) ?_
 rintro _ H2 ⟨rfl,e2⟩
 refine⟨_,_,rfl,?_⟩
 have J:=N.trans e2
 cases hf:i.sp.mem.fwd j with
 | some v=>
  rw[if_pos (show(some v).isSome=true from rfl)]
  exact q v _ (Sp.visit_fwd o hf) J
 | none=>
 rw[if_neg (by simp)]
 have T2:=T.ext J
 refine⟨_,rfl,_,T2.tr.hPtr,?_⟩
 refine HC.mono (kN T2.view S) ?_
 rintro _ H3 ⟨rfl,e3⟩
 have ay:mof (some (d,i))=i.sp.mem:=rfl
 rw[ay]
 refine⟨_,rfl,?_⟩
 have W:=J.trans e3
 by_cases O:i.sp.mem.sizeOf j=0
 ·rw[if_pos O];exact q j _ (Sp.visit_0 o hf O) W
 rw[if_neg O]
 obtain⟨n0,bC,hu,b8,w0,A⟩:=Mem.size_used T.ok.mem he S O
 have bB:j / 8<65536:=o.1.2
 refine HC.mono (jW S) ?_
 rintro _ H4 ⟨rfl,e4⟩
 rw[if_pos (show(j % 8=1\/j % 8=2\/j % 8=3\/j % 8=6)/\j / 8<65536 from o.1)]
 have X:=W.trans e4
 have T4:=T.ext X
 obtain⟨E,F,G,M⟩:=T4.s1
 refine⟨_,_,rfl,_,E,_,rfl,_,F,_,rfl,_,G,_,rfl,_,M,?_⟩
 rw[jR w0,w64 (n:=j / 8 / 64) (by omega)]
 refine HC.mono (kL T4.hp.cd.sp.mem) ?_
 rintro _ H5 ⟨rfl,e5⟩
 rw[if_pos A,zX A]
 have aw:(i.sp.mem.seg (j / 8 / 64).toNat).kind=i.sp.mem.kindOf j:=rfl
 generalize bA:i.sp.mem.seg (j / 8 / 64).toNat=I at*
 refine⟨_,_,_,_,_,_,_,_,rfl,λb1 H6 hb a6=>?_⟩
 obtain⟨ap,hs⟩:=boxed (vs:=[vi I.gen,vi I.kind,vi I.n,vi (I.cards 0),vi (I.cards 1),vi (I.cards 2),vi (I.cards 3)]) (H1:=H6) (aH hb a6) rfl rfl
 refine⟨ap,λH7 ao=>?_⟩
 obtain⟨a9,hE⟩:=hs H7 ao
 have Z:=X.trans e5
 have e7:Ext H H7:=hE H (Z.trans (Ext.push' a6)) (by have:=Z.size;omega)
 have V:=T.ext e7
 obtain⟨E,F,G,M⟩:=V.s1
 refine⟨_,E,_,rfl,_,F,_,rfl,_,G,_,by rw[addr_add_mk];exact V.tr.tgtAt,I.kind,a9.2.1,?_⟩
 rw[aw]
 refine HC.mono (nj V.hp.cd.sp V.ok hc) ?_
 rintro _ H8 ⟨rfl,aB,f8⟩
 refine⟨_,_,rfl,?_⟩
 have h8:=V.hp.withSp f8 (λc9 Q=>by simp at Q;omega) aB
 have w:Fr (spB d) H H8:=e7.fr.trans f8
 by_cases P:(i.sp.alloc b.tgt (i.sp.mem.kindOf j) (i.sp.mem.sizeOf j)).2.2=0
 case neg=>
  rw[if_neg P]
  have ev:=Sp.visit_full o hf O P
  rw[ev]at z
  rw[Sp.alloc_fail T.ok P]at h8
  exact z _ _ ⟨rfl,T.step w (λc9 Q=>kV Q) h8 T.ok,w⟩
 rw[if_pos P]
 have ev:=Sp.visit_go o hf O P
 rw[ev]at z
 obtain⟨L,f⟩:=Sp.alloc_ok T.ok P
 unfold Sp.moved at z
 simp only at z
 generalize hn:i.sp.mem.sizeOf j=n at*
 generalize hr:i.sp.alloc b.tgt (i.sp.mem.kindOf j) n=r at*
 obtain⟨g,c8,e⟩:=r
 simp only at*
 have b9:=T.ok.mem.lim
 obtain⟨bi,bj,bZ⟩:=f.addr
 have bk:c8<65536:=by omega
 have ac: ∀v∈i.sp.mem.row (j / 8) n.toNat,aG v:=λv hv=>by
  unfold Mem.row at hv
  obtain⟨c9,_,rfl⟩:=List.mem_map.1 hv
  exact(T.ok.mem.seg _).words _
 refine⟨λc9 t=>(0<=c9/\c9<=n)/\Tc t d {i with sp:={g with mem:=g.mem.sets c8 ((i.sp.mem.row (j / 8) n.toNat).take c9.toNat)}} a b/\Fr (spB d) H t,λc9 _=>(n-c9).toNat,⟨by omega,?_,w⟩,?_⟩
 ·rw[show(0:Int).toNat=0 from rfl,List.take_zero]
  exact T.step w (λc9 Q=>kV Q) h8 L
 rintro c9 H9 ⟨Q,x,f9⟩
 by_cases a7:c9<n
 ·rw[if_pos a7]
  obtain⟨E,F,G,M⟩:=x.s1
  refine⟨_,E,_,rfl,_,F,_,rfl,_,G,_,rfl,_,M,?_⟩
  rw[w64 (n:=j / 8+c9) (by omega)]
  refine HC.mono (jX x.hp.cd.sp.mem x.ok.mem (by omega)) ?_
  rintro _ bb ⟨rfl,rfl⟩
  have K:i.sp.mem.used (j / 8+c9):=by have:=hu c9.toNat (by omega);rw[show((c9.toNat:Nat):Int)=c9 by omega]at this;exact this
  have sm:=bS.sets ((i.sp.mem.row (j / 8) n.toNat).take c9.toNat) g.mem c8
  have ab:g.mem.used (j / 8+c9):=by
   obtain⟨k1,l,k3⟩:=K
   by_cases c:((j / 8+c9) / 64).toNat=(c8 / 64).toNat
   ·have ht:(i.sp.mem.seg (c8 / 64).toNat).taken≠0:=by rw[<-c];exact l.2.2
    obtain⟨o1,o2,o3,o4,o5,o6⟩:=f.old ht
    rw[c,o3]at k3
    exact⟨k1,⟨l.1,by rw[f.limit];exact l.2.1,by rw[c,o6];exact ht⟩,by rw[c,f.new.2.2.2];omega⟩
   ·have p:=f.others _ c
    exact⟨k1,⟨l.1,by rw[f.limit];exact l.2.1,by rw[p];exact l.2.2⟩,by rw[p];exact k3⟩
  have B:(((i.sp.mem.row (j / 8) n.toNat).take c9.toNat).length:Int)=c9:=by rw[List.length_take,Mem.row_len];omega
  have au:(g.mem.sets c8 ((i.sp.mem.row (j / 8) n.toNat).take c9.toNat)).get (j / 8+c9)=i.sp.mem.get (j / 8+c9):=by
   rw[Mem.sets_get _ _ (by omega) bi (λcc c=>?_),if_neg (by rw[B];have:=f.not_in K;omega),f.get K]
   have c:(cc:Int)<c9:=by omega
   have N:(c8+cc) / 64=c8 / 64:=by omega
   have e2:(c8+cc) % 64=c8 % 64+cc:=by omega
   exact⟨by omega,by rw[N];exact⟨by omega,by rw[f.limit];exact bj,f.new.1⟩,by rw[N,e2,f.new.2.2.2];omega⟩
  rw[if_pos (sm.used.2 ab),au]
  refine⟨_,_,rfl,_,E,_,rfl,_,F,_,rfl,_,G,_,rfl,_,M,?_⟩
  rw[w64 (n:=c8+c9) (by omega),w64 (n:=c9+1) (by omega)]
  refine HC.mono (jH x.hp.cd.sp.mem x.ok.mem (by omega)) ?_
  rintro _ U ⟨rfl,a8,a2⟩
  have a3:Fr (spB d) H U:=f9.trans (a2.mono (λcc c _=>by simp at c;simp[spB];omega))
  have et:(i.sp.mem.row (j / 8) n.toNat).take (c9+1).toNat=(i.sp.mem.row (j / 8) n.toNat).take c9.toNat++[i.sp.mem.get (j / 8+c9)]:=by
   rw[show(c9+1).toNat=c9.toNat+1 by omega,Mem.row_take _ _ (by omega),show((c9.toNat:Nat):Int)=c9 by omega]
  have es:g.mem.sets c8 ((i.sp.mem.row (j / 8) n.toNat).take (c9+1).toNat)=(if(g.mem.sets c8 ((i.sp.mem.row (j / 8) n.toNat).take c9.toNat)).used (c8+c9)then(g.mem.sets c8 ((i.sp.mem.row (j / 8) n.toNat).take c9.toNat)).set (c8+c9) (i.sp.mem.get (j / 8+c9))else g.mem.sets c8 ((i.sp.mem.row (j / 8) n.toNat).take c9.toNat)):=by
   rw[et,Mem.sets_snoc,B]
  have ax:cX U d.m d.s (g.mem.sets c8 ((i.sp.mem.row (j / 8) n.toNat).take (c9+1).toNat)):=by rw[es];exact a8
  refine⟨_,rfl,⟨by omega,?_,a3⟩,by show(n-(c9+1)).toNat< (n-c9).toNat;omega⟩
  exact x.withMem (m:=g.mem.sets c8 ((i.sp.mem.row (j / 8) n.toNat).take (c9+1).toNat)) a2 (λcc c=>by simp at c;omega) ax (L.sets c8 (λv hv=>ac v (List.mem_of_mem_take hv)))
 ·rw[if_neg a7]
  have av:c9.toNat=n.toNat:=by omega
  rw[av,List.take_of_length_le (by rw[Mem.row_len];omega)]at x
  refine HC.mono (lU (by omega) (by omega)) ?_
  rintro _ bc ⟨rfl,y⟩
  rw[if_neg (by decide),if_pos (by omega)]
  have u:=x.ext y
  obtain⟨E,F,G,M⟩:=u.s1
  refine⟨_,_,rfl,_,E,_,rfl,_,F,_,rfl,_,G,_,rfl,_,M,?_⟩
  refine HC.mono (jH u.hp.cd.sp.mem u.ok.mem (by omega)) ?_
  rintro _ aj ⟨rfl,D,a4⟩
  refine⟨_,rfl,?_⟩
  have aC:i.sp.mem.used (j / 8):=by have:=hu 0 (by omega);simpa using this
  have sm:=bS.sets (i.sp.mem.row (j / 8) n.toNat) g.mem c8
  have aN:g.mem.used (j / 8):=by
   obtain⟨k1,l,k3⟩:=aC
   by_cases c:(j / 8 / 64).toNat=(c8 / 64).toNat
   ·have ht:(i.sp.mem.seg (c8 / 64).toNat).taken≠0:=by rw[<-c];exact l.2.2
    obtain⟨o1,o2,o3,o4,o5,o6⟩:=f.old ht
    rw[c,o3]at k3
    exact⟨k1,⟨l.1,by rw[f.limit];exact l.2.1,by rw[c,o6];exact ht⟩,by rw[c,f.new.2.2.2];omega⟩
   ·have p:=f.others _ c
    exact⟨k1,⟨l.1,by rw[f.limit];exact l.2.1,by rw[p];exact l.2.2⟩,by rw[p];exact k3⟩
  rw[if_pos (sm.used.2 aN)]at D
  have a5:Fr (spB d) H aj:=(f9.trans y.fr).trans (a4.mono (λcc c _=>by simp at c;simp[spB];omega))
  have ag:=L.sets c8 ac
  have b0:SpOK {g with mem:=(g.mem.sets c8 (i.sp.mem.row (j / 8) n.toNat)).set (j / 8) (c8*8+6)}:=ag.withMem (ag.mem.set (j / 8) ⟨by omega,by omega⟩) (λk h=>Mem.set_has.2 h) (λk=>⟨((bS.set _ _ _).seg k).1,((bS.set _ _ _).seg k).2.1⟩)
  have ak:=u.withMem a4 (λcc c=>by simp at c;omega) D b0
  refine HC.mono (gK S) ?_
  rintro _ bd ⟨rfl,Y⟩
  refine⟨_,rfl,?_⟩
  refine HC.mono (lU (by omega) (by omega)) ?_
  rintro _ be ⟨rfl,a0⟩
  rw[if_neg (λhh=>hh o.1.1),if_pos (by omega)]
  have a1:=Y.trans a0
  exact⟨_,_,rfl,z _ _ ⟨rfl,ak.ext a1,a5.trans a1.fr⟩⟩
variable{H:zV}{a:TypeId}{b:Nat}{d:Array Value}{i:Addr}{j:List Value}
theorem Own.put{n c i:Nat}{t:Addr}{l:List Value}(h:Own H a 1 (some t) n c l)(s:i<n)(v:Value):
  aK H (t.add i) 0 1/\ ∀e,e=aR H (t.add i) [v] 0->Own e a 1 (some t) n c (l.set i v)/\Fr [t.block] H e:=by
 obtain⟨k,g,f,r,hn,q,o⟩:=h
 have m:t.add i=⟨t.block,i,none⟩:=by rw[k];simp
 rw[m]
 refine⟨cW f _ _ _ (by omega),λe b=>?_⟩
 rw[cH _ H g i 0 f]at b
 subst b
 refine⟨⟨k,_,aY (aW f),by rw[splice_size];exact r,hn,by rw[List.length_set];exact q,λj p=>?_⟩,Fr.set⟩
 rw[List.getElem?_set]
 by_cases d:i=j
 ·subst d
  rw[if_pos rfl,if_pos (by omega)]
  have:=fF g [v] (i+0) 0 (by simp;omega) (by simp)
  simpa using this
 ·rw[if_neg d,<-o j p]
  rcases Nat.lt_or_ge j i with h | h
  ·exact dU _ _ _ _ (by omega)
  ·exact gW _ _ _ _ (by simp;omega)
theorem Own.puts{d n c o:Nat}{l vs:List Value}(h:Own H a d (some i) n c l)(x:o+vs.length<=n*d):
  aK H (i.add o) 0 vs.length/\ ∀f,f=aR H (i.add o) vs 0->Own f a d (some i) n c (l.take o++vs++l.drop (o+vs.length))/\Fr [i.block] H f:=by
 obtain⟨q,m,k,v,hn,w,r⟩:=h
 have u:n*d<=c*d:=Nat.mul_le_mul_right _ hn
 have t:i.add o=⟨i.block,o,none⟩:=by rw[q];simp
 rw[t]
 refine⟨cW k _ _ _ (by omega),λf b=>?_⟩
 rw[cH _ H m o 0 k]at b
 subst b
 refine⟨⟨q,_,aY (aW k),by rw[splice_size];exact v,hn,by simp;omega,λj s=>?_⟩,Fr.set⟩
 rw[Nat.add_zero]
 rcases Nat.lt_or_ge j o with g | g
 ·rw[dU _ _ _ _ g,r j s,List.append_assoc,List.getElem?_append_left (by simp;omega),List.getElem?_take,if_pos g]
 rcases Nat.lt_or_ge j (o+vs.length)with p | p
 ·have e:=fF m vs o (j-o) (by omega) (by omega)
  rw[show o+(j-o)=j by omega]at e
  rw[e,List.append_assoc,List.getElem?_append_right (by simp;omega),List.length_take,Nat.min_eq_left (by omega),List.getElem?_append_left (by omega)]
 ·rw[gW _ _ _ _ p,r j s,List.getElem?_append_right (by simp;omega),List.getElem?_drop]
  simp only[List.length_append,List.length_take]
  rw[Nat.min_eq_left (by omega)]
  congr 1;omega
theorem Own.part{n c o k:Nat}(h:Own H a b (some i) n c j):aQ H (i.add o) 0 ((j.drop o).take k):=by
 refine kE λp v d=>?_
 have e:j[o+p]?=some v:=by
  rw[List.getElem?_take]at d
  split at d
  ·rw[List.getElem?_drop]at d;exact d
  ·cases d
 obtain⟨m,l,f⟩:=h.at e
 cases l
 rw[Nat.zero_add]
 obtain⟨g,_⟩:=h
 rw[g]at f⊢
 simpa using f
theorem flat_get{α:Type}{f:α->List Value}{b:Nat}(c: ∀a,(f a).length=b): ∀(l:List α) (k r:Nat) (hk:k<l.length),r<b->(l.flatMap f)[k*b+r]?=(f l[k])[r]?
 | [],k,r,hk,hr=>by simp at hk
 | a::l,0,r,hk,hr=>by
  simp only[List.flatMap_cons,Nat.zero_mul,Nat.zero_add,List.getElem_cons_zero]
  rw[List.getElem?_append_left (by rw[c];exact hr)]
 | a::l,k+1,r,hk,hr=>by
  simp only[List.flatMap_cons,List.getElem_cons_succ]
  rw[List.getElem?_append_right (by rw[c,Nat.add_mul];omega),c,show(k+1)*b+r-b=k*b+r by rw[Nat.add_mul];omega]
  exact flat_get c l k r (by simpa using hk) hr
theorem Own.elem{α:Type}{f:α->List Value}{H:zV}{T:TypeId}{sz n c:Nat}{p:zW}{l:List α}(h:Own H T sz p n c (l.flatMap f))(g: ∀a,(f a).length=sz)(u:0<sz){k:Nat}(hk:k<l.length):
  ∃a,p=some a/\(∀r v,(f l[k])[r]?=some v->hat H ((a.add (k*sz)).add r)=some v)/\aQ H (a.add (k*sz)) 0 (f l[k]):=by
 have o: ∃v,(f l[k])[0]?=some v:=⟨(f l[k])[0]'(by rw[g];exact u),by simp⟩
 obtain⟨z,s⟩:=o
 have t:=flat_get g l k 0 hk u
 rw[s,Nat.add_zero]at t
 obtain⟨a,x,_⟩:=h.at t
 subst x
 have d: ∀r,(a.add (k*sz)).add r=a.add (k*sz+r):=λr=>by rw[h.1];simp
 have w: ∀r v,(f l[k])[r]?=some v->hat H ((a.add (k*sz)).add r)=some v:=λr v i=>by
  have q:r<sz:=by
   rcases Nat.lt_or_ge r (f l[k]).length with b | b
   ·rw[g]at b;exact b
   ·simp[List.getElem?_eq_none b]at i
  have e:=flat_get g l k r hk q
  rw[i]at e
  obtain⟨y,m,b⟩:=h.at e
  cases m
  rw[d];exact b
 exact⟨a,rfl,w,kE λj v i=>by rw[Nat.zero_add];exact w j v i⟩
theorem lv(a:Addr)(i j:Nat):(a.add i).add j=a.add (i+j):=by
 by_cases b:i=0<;>by_cases c:j=0<;>simp[Addr.add,b,c,Nat.add_assoc]
theorem getD_at{α:Type}{l:List α}(h:b<l.length)(d:α):l.getD b d=l[b]:=by
 rw[List.getD,List.getElem?_eq_getElem h];rfl
theorem nP(h:d.size=j.length):splice d 0 j=j.toArray:=by
 refine Array.ext_getElem? λi=>?_
 have e:j.toArray[i]?=j[i]?:=by simp
 rw[e]
 rcases Nat.lt_or_ge i j.length with a | a
 ·have:=fF d j 0 i (by omega) a
  rw[Nat.zero_add]at this;exact this
 ·rw[List.getElem?_eq_none a,Array.getElem?_eq_none (by rw[splice_size];omega)]
theorem wi{c:zV}{b n:Nat}{vs:List Value}(i:b=H.size)(h:c=H.push (.cells d a))(hn:d.size=n)(j:vs.length=n):
  aK c ⟨b,0,none⟩ 0 n/\ ∀e,e=aR c ⟨b,0,none⟩ vs 0->e[b]?=some (.cells vs.toArray a (0,0))/\Ext H e:=by
 have g:=aH i h
 refine⟨cW g n 0 0 (by omega),λe f=>?_⟩
 rw[cH vs c d 0 0 g,Nat.add_zero,nP (by omega)]at f
 subst f
 exact⟨aY (aW g),(Ext.push' h).set (by omega)⟩
theorem mX(g:H[b]?=some (.cells d a (0,0)))(o:Nat)(v:Value)(f:o<d.size):
  aK H ((Addr.mk b 0 none).add o) 0 1/\ ∀c,c=aR H ((Addr.mk b 0 none).add o) [v] 0->c[b]?=some (.cells (d.setIfInBounds o v) a (0,0))/\Fr [b] H c:=by
 rw[addr_add_mk,Nat.zero_add]
 refine⟨cW g 1 o 0 (by omega),λc e=>?_⟩
 rw[cH _ H d o 0 g]at e
 subst e
 exact⟨aY (aW g),Fr.set⟩
theorem eO{c:Nat×Nat}(g:H[b]?=some (.cells d a c))(o:Nat):hat H ((Addr.mk b 0 none).add o)=d[o]?:=by
 rw[addr_add_mk,Nat.zero_add];exact aP g
theorem aQ.sub{vs us:List Value}(k:Nat)(h:aQ H i 0 vs)(e:(vs.drop k).take us.length=us):aQ H (i.add k) 0 us:=by
 refine kE λj v a=>?_
 have b:vs[k+j]?=some v:=by
  rw[<-e,List.getElem?_take]at a
  split at a
  ·rw[List.getElem?_drop]at a;exact a
  ·cases a
 have:=fD h (k+j) v b
 rw[lv,Nat.zero_add]
 rw[Nat.zero_add]at this;exact this
theorem ls{vs:List Value}{c:Nat×Nat}(g:H[b]?=some (.cells vs.toArray a c)):aQ H ⟨b,0,none⟩ 0 vs:=
 dV g vs 0 0 (λj d=>by simp)
theorem jP{b n:Nat}{vs:List Value}(g:H[b]?=some (.cells d a (0,0)))(hn:d.size=n)(f:vs.length=n):
  aK H ⟨b,0,none⟩ 0 n/\ ∀c,c=aR H ⟨b,0,none⟩ vs 0->c[b]?=some (.cells vs.toArray a (0,0))/\Fr [b] H c:=by
 refine⟨cW g n 0 0 (by omega),λc e=>?_⟩
 rw[cH vs H d 0 0 g,Nat.add_zero,nP (by omega)]at e
 subst e
 exact⟨aY (aW g),Fr.set⟩
theorem nz(a:Addr):a.add 0=a:=by unfold Addr.add;cases a;split<;>simp_all
def xu(o:Option (Blk×Hp)):Option (Blk×Hp):=match o with | none=>none | some (b,x)=>some (b,{x with ep:=IntKind.wrap .u64 (x.ep+1)})
def hown(o:Option (Blk×Hp)):List Nat:=match o with | none=> [] | some (b,_)=> [b.h]
theorem HpAt.epAt{b:Blk}{x:Hp}(h:HpAt H b x):hat H ⟨b.h,3,none⟩=some (vu x.ep):=by rw[aP h.h];rfl
theorem HpAt.putEp{b:Blk}{x:Hp}(h:HpAt H b x)(e:Int):aK H ⟨b.h,3,none⟩ 0 1/\HpAt (aR H ⟨b.h,3,none⟩ [vu e] 0) b {x with ep:=e}/\Fr [b.h] H (aR H ⟨b.h,3,none⟩ [vu e] 0):=by
 refine⟨cW h.h _ _ _ (by simp),?_⟩
 rw[cH _ _ _ _ _ h.h]
 have f:Fr [b.h] H (aO H b.h (.cells (splice #[vp (some ⟨b.c,0,none⟩),x.sy,x.en,vu x.ep] (3+0) [vu e]) 37 (0,0))):=Fr.set
 refine⟨⟨h.cd.keep f ?_ ?_ ?_ ?_,h.ne,by rw[aY (aW h.h)];rfl⟩,f⟩<;>have:=h.ne<;>simp<;>omega
theorem tq{d:zW}{o:Option (Blk×Hp)}(V:View H d o):gZ.C d H (λv e=>View e d (xu o)/\Fr (hown o) H e):=by
 refine HC.via λR c=>gZ.link ?_
 unfold gZ.pt
 refine HC.mono (nu V) ?_
 rintro _ j ⟨rfl,rfl⟩
 refine⟨_,rfl,?_⟩
 cases V with
 | nobody=>rw[if_pos (show(none:Option (Blk×Hp)).isNone=true from rfl)];exact c _ _ ⟨.nobody,Fr.refl _ _⟩
 | empty h=>rw[if_pos (show(none:Option (Blk×Hp)).isNone=true from rfl)];exact c _ _ ⟨.empty h,Fr.refl _ _⟩
 | @real b x h i=>
  rw[if_neg (show ¬(some (b,x)).isNone=true from Bool.false_ne_true)]
  obtain⟨g,f⟩:=h.putEp (IntKind.wrap .u64 (x.ep+1))
  refine⟨_,rfl,_,by rw[addr_add_mk];exact h.epAt,by rw[addr_add_mk];exact g,λk a=>?_⟩
  rw[addr_add_mk]at a
  subst a
  exact c _ _ ⟨.real f.1 i,f.2⟩
def Mem.objWords(m:Mem)(w:Int):List Int:=(List.range (m.len w).toNat).map λ(i:Nat)=>m.get (w / 8+1+(i:Int))
theorem Mem.objWords_len(m:Mem)(w:Int):(m.objWords w).length=(m.len w).toNat:=by unfold Mem.objWords;simp
theorem Mem.objWords_get(m:Mem)(w:Int)(h:b< (m.objWords w).length):(m.objWords w)[b]=m.get (w / 8+1+(b:Int)):=by simp[Mem.objWords]
theorem ky.words{m:Mem}{w a b:Int}{c:List Int}(h:ky m w a b c):m.objWords w=c:=by
 refine List.ext_getElem (by rw[Mem.objWords_len,h.len];omega) λi e d=>?_
 rw[Mem.objWords_get]
 exact h.get i d
end Go.Proofs.YtojbbgcjiaphjaaGreat
namespace Go.Proofs.YtojbbgcjiaphjaaGreat
open Go Go.Proofs.Tryz
open Go Go.Proofs.Tryz Go.Shelf Go.RowKit Go.Lib Go.Sort Go.Proofs
variable{H:zV}
def nQ:Go.Shelf.Ren:=⟨λ| 6=>68 | 15=>114 | 14=>113 | 28=>145 | 29=>146 | 20=>137 | 21=>138 | 22=>139 | 23=>140 | 24=>141 | 25=>142 | 26=>143 | 27=>144 | 46=>150 | 47=>151 | 48=>152 | 49=>153 | 50=>154 | 57=>156 | n=>n,λ| 22=>59 | 24=>3 | 25=>137 | 3=>3 | 39=>178 | 0=>0 | 53=>51 | 55=>35 | 4=>4 | 46=>206 | 45=>205 | 50=>84 | 5=>5 | 9=>9 | 66=>215 | 70=>219 | 76=>222 | 77=>223 | n=>n,λ| n=>n⟩
theorem sn:Go.Proofs.SlLaysF.n6 prog nQ:={
 mixed:=by kernel_rfl
 f6:=⟨f68.name,by decide,func68.trans (congrArg some (by kernel_rfl))⟩
 f14:=⟨f113.name,by decide,func113.trans (congrArg some (by kernel_rfl))⟩
 f15:=func114.trans (congrArg some (by kernel_rfl))
 f20:=⟨f137.name,by decide,func137.trans (congrArg some (by kernel_rfl))⟩
 f21:=⟨f138.name,by decide,func138.trans (congrArg some (by kernel_rfl))⟩
 f22:=⟨f139.name,by decide,func139.trans (congrArg some (by kernel_rfl))⟩
 f23:=⟨f140.name,by decide,func140.trans (congrArg some (by kernel_rfl))⟩
 f24:=⟨f141.name,by decide,func141.trans (congrArg some (by kernel_rfl))⟩
 f25:=⟨f142.name,by decide,func142.trans (congrArg some (by kernel_rfl))⟩
 f26:=⟨f143.name,by decide,func143.trans (congrArg some (by kernel_rfl))⟩
 f27:=⟨f144.name,by decide,func144.trans (congrArg some (by kernel_rfl))⟩
 f28:=func145.trans (congrArg some (by kernel_rfl))
 f29:=func146.trans (congrArg some (by kernel_rfl))
 f46:=⟨f150.name,by decide,func150.trans (congrArg some (by kernel_rfl))⟩
 f47:=func151.trans (congrArg some (by kernel_rfl))
 f48:=func152.trans (congrArg some (by kernel_rfl))
 f49:=⟨f153.name,by decide,func153.trans (congrArg some (by kernel_rfl))⟩
 f50:=⟨f154.name,by decide,func154.trans (congrArg some (by kernel_rfl))⟩
 f57:=⟨f156.name,by decide,func156.trans (congrArg some (by kernel_rfl))⟩
 t0:=underlying0
 a0:=isAgg0
 z0:=sizeOf0
 v0:=zeroValue0
 t3:=underlying3
 a3:=isAgg3
 z3:=sizeOf3
 v3:=zeroValue3
 t4:=underlying4
 a4:=isAgg4
 z4:=sizeOf4
 v4:=zeroValue4
 t5:=underlying5
 a5:=isAgg5
 z5:=sizeOf5
 v5:=zeroValue5
 t9:=underlying9
 a9:=isAgg9
 z9:=sizeOf9
 v9:=zeroValue9
 t22:=underlying59
 a22:=isAgg59
 z22:=sizeOf59
 v22:=zeroValue59
 a24:=isAgg3
 z24:=sizeOf3
 t25:=underlying137
 a25:=isAgg137
 z25:=sizeOf137
 v25:=zeroValue137
 t39:=underlying178
 a39:=isAgg178
 z39:=sizeOf178
 v39:=zeroValue178
 t45:=underlying205
 a45:=isAgg205
 z45:=sizeOf205
 v45:=zeroValue205
 t46:=underlying206
 a46:=isAgg206
 z46:=sizeOf206
 v46:=zeroValue206
 t50:=underlying84
 a50:=isAgg84
 z50:=sizeOf84
 v50:=zeroValue84
 t53:=underlying51
 a53:=isAgg51
 z53:=sizeOf51
 v53:=zeroValue51
 t55:=underlying35
 a55:=isAgg35
 z55:=sizeOf35
 v55:=zeroValue35
 t66:=underlying215
 a66:=isAgg215
 z66:=sizeOf215
 v66:=zeroValue215
 t70:=underlying219
 a70:=isAgg219
 z70:=sizeOf219
 v70:=zeroValue219
 t76:=underlying222
 a76:=isAgg222
 z76:=sizeOf222
 v76:=zeroValue222
 t77:=underlying223
 a77:=isAgg223
 z77:=sizeOf223
 v77:=zeroValue223}
theorem sq{p:zW}{c:Nat}{b:Value}:HC prog 68 #[vs p 0 c,b] H (λv d=>v=.tuple #[]/\d=H):=λw g=>by
 have h:=AnyF.slices_SortFunc_none (P:=prog) (ρ:=nQ) {sn with} p c b w
 exact h.mono λe i ⟨f,a⟩=>⟨_,f,by subst a;exact Same.refl _,rfl,by rw[a];exact g⟩
theorem tt{w c:World}(s:Same w c)(e:Ext w.heap c.heap): ∃q d,c=grow (w.drewN q) d:=by
 refine⟨c.drawn-w.drawn,c.heap.extract w.heap.size c.heap.size,?_⟩
 obtain⟨l,m,n,p⟩:=s
 cases w with
 | mk heap o drawn v g=>
 cases c with
 | mk a j b d f=>
 simp only at l m n p e
 subst l m n
 have r:drawn+(b-drawn)=b:=by omega
 have t:heap++a.extract heap.size a.size=a:=by
  refine Array.ext_getElem? λi=>?_
  have u:=e.size
  rcases Nat.lt_or_ge i heap.size with h | h
  ·rw[Array.getElem?_append_left h,e.old i h]
  ·rw[Array.getElem?_append_right h,Array.getElem?_extract]
   split
   ·congr 1;omega
   ·rw[Array.getElem?_eq_none (by omega)]
 simp only[grow,World.drewN,r,t]
variable {k:Nat}
def encF(i:Fin (k+1)):Value:=vi (i.val:Int)
theorem oM{b i:Nat}{f:Obj->Obj}:(H.modify b f)[i]?=if b=i then H[i]?.map f else H[i]?:=by
 rw[Array.getElem?_modify]
theorem xf{T:TypeId}{b n c g:Nat}{cb:Array Value}{o:List (Fin (k+1))}{tk:Fin (k+1)->Int}(D:Own H T 1 (some ⟨b,0,none⟩) n c (o.map encF))(hn:n<4611686018427387904)
  (X: ∀args w,(callFunc g args).run prog w=.ok (.enter g args) w)
  (I: ∀s,Fr [b] H s-> ∀x y:Fin (k+1),HC prog g (#[encF x,encF y]++cb) s (λv G=>v=vi (Lib.compareInt (tk x) (tk y))/\Ext s G)):
  HC prog 68 #[vs (some ⟨b,0,none⟩) n c,.func (.func g) #[] cb] H (λv s=>v=.tuple #[]/\ ∃R:List (Fin (k+1)),R.Perm o/\R.Pairwise (λx y=>tk x<=tk y)/\Own s T 1 (some ⟨b,0,none⟩) n c (R.map encF)/\Fr [b] H s):=λw hw=>by
 subst hw
 have f:=D.len
 simp only[List.length_map,Nat.mul_one]at f
 obtain⟨_,S,E,J,P,hl,hc⟩:=D
 have q:=aW E
 have r: ∀(d:Array (Fin (k+1))),d.size=n-> ∀m l,(sortWorld encF w b 0 m d l).heap=(w.heap.modify b (onCells (putCells encF 0 d)))++l:=λd F m l=>rfl
 have C: ∀(d:Array (Fin (k+1))) (l:zV),((w.heap.modify b (onCells (putCells encF 0 d)))++l)[b]?=some (.cells (putCells encF 0 d S) T (0,0)):=λd l=>by
  rw[Array.getElem?_append_left (by simpa using q),oM,if_pos rfl,E];rfl
 have B: ∀(d:Array (Fin (k+1))) (l:zV),Fr [b] w.heap ((w.heap.modify b (onCells (putCells encF 0 d)))++l):=λd l=>by
  refine⟨by simp,λi L hn=>?_⟩
  rw[Array.getElem?_append_left (by simpa using L),oM,if_neg (by simp at hn;omega)]
 have Z:SWO (ltOf λx y:Fin (k+1)=>Lib.compareInt (tk x) (tk y)):=by
  have e: ∀x y,ltOf (λx y:Fin (k+1)=>Lib.compareInt (tk x) (tk y)) x y=decide (tk x<tk y):=λx y=>by
   unfold ltOf Lib.compareInt
   by_cases a:tk x<tk y
   ·simp[a]
   ·by_cases u:tk y<tk x<;>simp[a,u]
  exact⟨λx=>by rw[e];simp,λx y z a u=>by rw[e]at*;simp at*;omega,λx y z a u=>by rw[e]at*;simp at*;omega⟩
 have Y:Holds encF w b 0 o.toArray:=λj t=>by
  have N:j<o.length:=by simpa using t
  have a:=hc j (by omega)
  rw[List.getElem?_map,List.getElem?_eq_getElem N]at a
  refine⟨?_,?_⟩
  ·unfold World.cell?
   simp only[E]
   simp only[Option.isSome_none,Bool.false_eq_true,if_false,Nat.zero_add]
   rw[a]
   simp[getElem!_pos o.toArray j t]
  ·unfold World.frozen?
   simp only[E]
   simp
 have A:CmpLays1 prog g cb encF (λx y:Fin (k+1)=>Lib.compareInt (tk x) (tk y)) b 0 o.toArray.size w:=λm l U K x y=>by
  refine(I _ (by rw[r U (by simpa using K.trans (by simpa using f))];exact B U l) x y _ rfl).mono ?_
  rintro e w' ⟨v,rfl,Q,rfl,he⟩
  exact⟨rfl,tt Q he⟩
 have h:=Any.slices_SortFunc sn encF (λ_=>rfl) (λx y:Fin (k+1)=>Lib.compareInt (tk x) (tk y)) Z g cb b 0 c o.toArray w X A Y q (by simpa using(by omega:o.length<4611686018427387904))
 rw[show o.toArray.size=n by simpa using f]at h
 refine h.mono ?_
 rintro e w' ⟨rfl,p,m,l,V,Q,rfl⟩
 have F:p.size=n:=by rw[V.1];simpa using f
 refine⟨_,rfl,⟨rfl,rfl,rfl,Nat.le_add_right _ _⟩,rfl,p.toList,?_,?_,?_,B p l⟩
 ·have a:=V.2.2
  simp only[Array.extract_eq_self_of_le,F,Nat.le_refl]at a
  have W:((o.toArray).extract 0 n).toList=o:=by rw[show n=o.toArray.size by simp;omega];simp
  rw[W]at a
  exact a
 ·rw[List.pairwise_iff_getElem]
  intro i j L t M
  have a:=Q i j (Nat.zero_le _) M (by simpa using(by simpa[F]using t))
  unfold ltOf Lib.compareInt at a
  rw[getElem!_pos p i (by simpa using L),getElem!_pos p j (by simpa using t)]at a
  simp only[Array.getElem_toList]
  by_cases u:tk p[j]<tk p[i]
  ·simp[u]at a
  ·omega
 ·refine⟨rfl,_,C p l,by simp[putCells,J],P,by simp[F],λj t=>?_⟩
  have O:j<S.size:=by omega
  simp only[putCells,Array.getElem?_mapIdx,Array.getElem?_eq_getElem O,Option.map_some]
  rw[if_pos ⟨Nat.zero_le _,by omega⟩,Nat.sub_zero,getElem!_pos p j (by omega)]
  simp[List.getElem?_eq_getElem (show j<p.toList.length by simp;omega)]
end Go.Proofs.YtojbbgcjiaphjaaGreat
namespace Go.Proofs.YtojbbgcjiaphjaaGreat
open Go Go.Proofs.Tryz
variable{a:Mem}{H:zV}{b:List Int}{d:zW}{i k:Nat}{j:List Nat}
def ivs(l:List Int):List Value:=l.map (Value.int .i64)
theorem nR{x y:Int}:cmp_Compare_int.C x y H (λv d=>v=vi (Lib.compareInt x y)/\d=H):=by
 refine HC.via λR a=>cmp_Compare_int.link ?_
 unfold cmp_Compare_int.pt
 refine cmp_isNaN_int.link ?_
 unfold cmp_isNaN_int.pt
 refine⟨_,rfl,cmp_isNaN_int.link ?_⟩
 unfold cmp_isNaN_int.pt
 refine⟨_,rfl,?_⟩
 have e: ¬(x !=x)=true:=by simp
 have f: ¬(y !=y)=true:=by simp
 rw[if_neg e,if_neg f]
 unfold Lib.compareInt at a
 by_cases b:x<y
 ·rw[if_pos b]at a⊢;exact a _ _ ⟨rfl,rfl⟩
 rw[if_neg b]at a⊢
 by_cases c:x>y
 ·rw[if_pos c]at a⊢;exact a _ _ ⟨rfl,rfl⟩
 ·rw[if_neg c]at a⊢;exact a _ _ ⟨rfl,rfl⟩
theorem nS(h:fB H d (ivs b)){i:Nat}(c:i<b.length): ∃a,d=some a/\hat H (a.add (i*1))=some (vi b[i]):=by
 cases d with
 | none=>rw[SrcAt_none]at h;simp[ivs]at h;subst h;simp at c
 | some a=>
  refine⟨a,rfl,?_⟩
  have:=fD (show aQ H a 0 _ from h) i (vi b[i]) (by simp[ivs,c])
  rw[Nat.zero_add]at this;rw[Nat.mul_one];exact this
theorem my{n c:Nat}{v:Int}(k:fB H d (ivs b))(hn:n=b.length)(q:n<=1000000):
  bZ.C d n c v H (λu p=>u=.bool (decide (v∈b))/\p=H):=by
 subst hn
 refine HC.via λR m=>bZ.link ?_
 unfold bZ.pt
 refine dL.link ?_
 unfold dL.pt zY
 refine⟨λi A=>(0<=i/\i<=b.length)/\v ∉ b.take i.toNat/\A=H,λi _=>(b.length-i).toNat,⟨by omega,by simp,rfl⟩,?_⟩
 rintro i A ⟨o,l,rfl⟩
 by_cases e:i< (b.length:Int)
 ·rw[if_pos e]
  have j:i.toNat<b.length:=by omega
  obtain⟨a,rfl,g⟩:=nS k j
  refine⟨a,rfl,⟨o.1,e⟩,_,g,?_⟩
  by_cases f:v=b[i.toNat]
  ·rw[if_pos f]
   refine⟨_,rfl,?_⟩
   rw[zX (show i>=0 from o.1)]
   exact m _ _ ⟨by rw[zX (f▸List.getElem_mem j)],rfl⟩
  ·rw[if_neg f,w64 (n:=i+1) (by omega)]
   have k:(i+1).toNat=i.toNat+1:=by omega
   refine⟨⟨by omega,?_,rfl⟩,by show((b.length:Int)-(i+1)).toNat< ((b.length:Int)-i).toNat;omega⟩
   rw[k,List.take_succ_eq_append_getElem j]
   intro h
   rcases List.mem_append.1 h with h | h
   ·exact l h
   ·exact f (by simpa using h)
 ·rw[if_neg e]
  rw[List.take_of_length_le (by omega)]at l
  refine⟨_,rfl,?_⟩
  rw[zQ (by decide)]
  exact m _ _ ⟨by rw[zQ l],rfl⟩
def Mem.takenTo(m:Mem)(gs:List Int)(k:Nat):List Nat:=(List.range k).filter λi=>decide (0< (m.seg i).taken) && (gs.isEmpty || decide ((m.seg i).gen∈gs))
structure dK (m:Mem) (gs:List Int) (l:List Nat):Prop where
 perm:l.Perm (m.takenTo gs m.limit)
 sorted:l.Pairwise (λi j=>(m.seg i).taken<=(m.seg j).taken)
theorem Mem.takenTo_lt(h:k∈a.takenTo b i):k<i:=by
 unfold Mem.takenTo at h;rw[List.mem_filter,List.mem_range]at h;exact h.1
theorem Mem.takenTo_len(m:Mem)(a:List Int)(k:Nat):(m.takenTo a k).length<=k:=by
 unfold Mem.takenTo;refine Nat.le_trans (List.length_filter_le _ _) (by simp)
theorem Mem.takenTo_succ(m:Mem)(a:List Int)(k:Nat):m.takenTo a (k+1)=m.takenTo a k++(if 0< (m.seg k).taken/\(a=[]\/(m.seg k).gen∈a)then[k]else[]):=by
 unfold Mem.takenTo
 rw[List.range_succ,List.filter_append]
 congr 1
 by_cases h:0< (m.seg k).taken/\(a=[]\/(m.seg k).gen∈a)
 ·rw[if_pos h]
  have:(decide (0< (m.seg k).taken) && (a.isEmpty || decide ((m.seg k).gen∈a)))=true:=by
   rcases h with⟨b,rfl | c⟩<;>simp_all
  simp[this]
 ·rw[if_neg h]
  have:(decide (0< (m.seg k).taken) && (a.isEmpty || decide ((m.seg k).gen∈a)))=false:=by
   simp only[Bool.and_eq_false_iff,Bool.or_eq_false_iff,decide_eq_false_iff_not,List.isEmpty_eq_false_iff]
   by_cases b:0< (m.seg k).taken
   ·refine .inr ⟨λc=>h ⟨b,.inl c⟩,λc=>h ⟨b,.inr c⟩⟩
   ·exact .inl b
  simp[this]
set_option maxRecDepth 100000 in
theorem jI{bs:Nat}{Z gC:Nat}{gs:List Int}(M:cX H i bs a)(ok:bJ a)(hg:fB H d (ivs gs))(L:Z=gs.length)(b8:Z<=1000):
  cO.C (some ⟨i,0,none⟩) d Z gC H (λv H'=> ∃(B:zW) (c:Nat) (l:List Nat),v=vs B l.length c/\dK a gs l/\Own H' 3 1 B l.length c (ivs (l.map λbj:Nat=>(bj:Int)))/\(∀bj∈blks B,H.size<=bj)/\Ext H H'):=by
 refine HC.via λR hR=>cO.link ?_
 unfold cO.pt zY
 have av:=ok.lim
 intro b r hb w
 have Y:Ext H r:=Ext.push' w
 have g1:=aH hb w
 have s1:r.size=H.size+1:=by rw[w];simp
 refine⟨_,by rw[aP g1];rfl,?_⟩
 rw[onPtr_some]
 have M1:=M.ext Y
 refine⟨_,by rw[aP g1];rfl,_,rfl,_,_,_,M1.segsAt.choose_spec,?_⟩
 refine⟨λB n c bj A=>(0<=bj/\bj<=a.limit)/\n=(a.takenTo gs bj.toNat).length/\Own A 3 1 B n c (ivs ((a.takenTo gs bj.toNat).map λbj:Nat=>(bj:Int)))/\(∀j∈blks B,r.size<=j)/\Ext r A,λ_ _ _ bj _=>(a.limit-bj).toNat,
  ⟨by omega,rfl,iY,by simp,Ext.refl _⟩,?_⟩
 rintro B n c bj A ⟨hi,rfl,g,F,s⟩
 have X:=M1.ext s
 have gA:=s.get g1
 by_cases E:bj< (a.limit:Int)
 ·rw[if_pos E]
  have N:bj.toNat<a.limit:=by omega
  have hs:(bj+1).toNat=bj.toNat+1:=by omega
  have h7:=X.at N (j:=7) (by decide)
  have h0:=X.at N (j:=0) (by decide)
  refine⟨_,by rw[aP gA];rfl,_,rfl,_,_,_,X.segsAt.choose_spec,_,rfl,⟨hi.1,E⟩,(a.seg bj.toNat).taken,by rw[addr_add_mk,addr_add_mk,Nat.zero_add];exact h7,?_⟩
  rw[w64 (n:=bj+1) (by omega)]
  have hm:((a.limit:Int)-(bj+1)).toNat< ((a.limit:Int)-bj).toNat:=by omega
  have b9:=a.takenTo_len gs bj.toNat
  have u: ∀(q:zV) (I:Nat) (V:zV),Ext A q->I=q.size->V=q.push (.cells #[vi bj] 3)->(0< (a.seg bj.toNat).taken/\(gs=[]\/(a.seg bj.toNat).gen∈gs))->
    bR 1 3 8 [vi 0] B (a.takenTo gs bj.toNat).length c (some (Addr.mk I 0 none)) 1 V (λap a4 H4=>
     ((0<=bj+1/\bj+1<=a.limit)/\(a.takenTo gs bj.toNat).length+1=(a.takenTo gs (bj+1).toNat).length/\Own H4 3 1 ap ((a.takenTo gs bj.toNat).length+1) a4 (ivs ((a.takenTo gs (bj+1).toNat).map λbj:Nat=>(bj:Int)))/\(∀j∈blks ap,r.size<=j)/\Ext r H4)/\((a.limit:Int)-(bj+1)).toNat< ((a.limit:Int)-bj).toNat):=by
   intro q I V p z J e
   have e2:Ext q V:=Ext.push' J
   refine dD (ys:=[vi bj]) (g.ext (p.trans e2)) (dV (aH z J) _ 0 0 (λj G=>by simp)) rfl rfl rfl (by omega) ?_
   intro p' c' H4 S f4 ag
   have m:a.takenTo gs (bj.toNat+1)=a.takenTo gs bj.toNat++[bj.toNat]:=by rw[Mem.takenTo_succ,if_pos e]
   refine⟨⟨by omega,by rw[hs,m];simp,?_,λj G=>?_,((s.trans p).trans e2).fr_trans f4 F⟩,hm⟩
   ·rw[hs,m,List.map_append]
    have:(bj.toNat:Int)=bj:=by omega
    simpa[ivs,this]using S
   ·rcases ag j G with h | h
    ·exact F j h
    ·have:=s.size;have:=p.size;have:=e2.size;omega
  have skip: ∀(q:zV),Ext A q-> ¬(0< (a.seg bj.toNat).taken/\(gs=[]\/(a.seg bj.toNat).gen∈gs))->
    ((0<=bj+1/\bj+1<=a.limit)/\(a.takenTo gs bj.toNat).length=(a.takenTo gs (bj+1).toNat).length/\Own q 3 1 B (a.takenTo gs bj.toNat).length c (ivs ((a.takenTo gs (bj+1).toNat).map λbj:Nat=>(bj:Int)))/\(∀j∈blks B,r.size<=j)/\Ext r q)/\((a.limit:Int)-(bj+1)).toNat< ((a.limit:Int)-bj).toNat:=by
   intro q p e
   have m:a.takenTo gs (bj.toNat+1)=a.takenTo gs bj.toNat:=by rw[Mem.takenTo_succ,if_neg e,List.append_nil]
   exact⟨⟨by omega,by rw[hs,m],by rw[hs,m];exact g.ext p,F,s.trans p⟩,hm⟩
  by_cases U:(a.seg bj.toNat).taken>0
  ·rw[if_pos U]
   by_cases D:(Z:Int)=0
   ·rw[if_pos D]
    have ac:gs=[]:=List.length_eq_zero_iff.1 (by omega)
    intro I H3 z a8
    exact u A I H3 (Ext.refl _) z a8 ⟨U,.inl ac⟩
   ·rw[if_neg D]
    refine⟨(a.seg bj.toNat).gen,by rw[addr_add_mk,Nat.zero_add];exact h0,?_⟩
    refine HC.mono (my ((hg.ext Y).ext s) L (by omega)) ?_
    rintro _ H5 ⟨rfl,h5⟩
    subst h5
    refine⟨_,rfl,?_⟩
    have ah:gs≠[]:=λh=>D (by rw[L,h];rfl)
    by_cases e:(a.seg bj.toNat).gen∈gs
    ·rw[if_pos (zX e)]
     intro bk H6 ab a9
     exact u _ bk H6 (Ext.refl _) ab a9 ⟨U,.inr e⟩
    ·rw[if_neg (by simpa using e)]
     exact skip _ (Ext.refl _) (λh=>h.2.elim ah e)
  ·rw[if_neg U]
   exact skip _ (Ext.refl _) (λh=>U h.1)
 rw[if_neg E]
 have af:bj.toNat=a.limit:=by omega
 rw[af]at g⊢
 cases B with
 | none=>
  obtain⟨h0,rfl,_⟩:=g
  have Q:a.takenTo gs a.limit=[]:=List.length_eq_zero_iff.1 h0
  rw[h0]
  refine HC.mono sq ?_
  rintro _ H8 ⟨_,rfl⟩
  exact hR _ _ ⟨none,0,[],rfl,⟨by rw[Q],List.Pairwise.nil⟩,iY,by simp,Y.trans s⟩
 | some bi=>
  have ha:bi=⟨bi.block,0,none⟩:=g.1
  obtain⟨k,hk⟩: ∃k,a.limit=k+1:=⟨a.limit-1,by omega⟩
  have P: ∀bj∈a.takenTo gs a.limit,bj<k+1:=λbj hi=>hk▸Mem.takenTo_lt hi
  generalize aj:(a.takenTo gs a.limit).attach.map (λbj=>(⟨bj.1,P bj.1 bj.2⟩:Fin (k+1)))=xs
  have o:xs.map (λx=>x.val)=a.takenTo gs a.limit:=by rw[<-aj];simp
  have K:ivs ((a.takenTo gs a.limit).map λbj:Nat=>(bj:Int))=xs.map encF:=by
   rw[<-o];simp[ivs,encF,Function.comp_def]
  rw[K]at g
  rw[ha]at g⊢
  have b6:bi.block≠b:=by have:=F bi.block (by simp);omega
  have b3:bi.block≠i/\bi.block≠bs:=by
   have:=F bi.block (by simp);have:=M.lt;omega
  refine HC.mono (xf (k:=k) (tk:=λx=>(a.seg x.val).taken) g (by have:=a.takenTo_len gs a.limit;omega) (enters_of func69 (by kernel_rfl) rfl) ?_) ?_
  ·intro H' f x y
   refine HC.via λR' aa=>iJ.link ?_
   unfold iJ.pt
   have gb:=f.get (b:=b) (by simp;omega) gA
   have W:=X.keep f (by simp;omega) (by simp;omega)
   have ai:=W.at (k:=x.val) (by have:=x.isLt;omega) (j:=7) (by decide)
   have ak:=W.at (k:=y.val) (by have:=y.isLt;omega) (j:=7) (by decide)
   have ba:=x.isLt
   have bb:=y.isLt
   refine⟨_,rfl,_,by rw[aP gb];rfl,_,rfl,_,_,_,W.segsAt.choose_spec,_,rfl,⟨by omega,by omega⟩,(a.seg x.val).taken,by rw[show Int.toNat (x.val:Int)=x.val by omega,addr_add_mk,addr_add_mk,Nat.zero_add];exact ai,
    _,by rw[aP gb];rfl,_,rfl,_,_,_,W.segsAt.choose_spec,_,rfl,⟨by omega,by omega⟩,(a.seg y.val).taken,by rw[show Int.toNat (y.val:Int)=y.val by omega,addr_add_mk,addr_add_mk,Nat.zero_add];exact ak,?_⟩
   refine HC.mono nR ?_
   rintro _ ay ⟨rfl,a7⟩
   exact⟨_,rfl,aa _ _ ⟨rfl,a7▸Ext.refl _⟩⟩
  ·rintro _ H8 ⟨_,ys,hp,T,t,f8⟩
   have O:(ys.map (λy=>y.val)).length=(a.takenTo gs a.limit).length:=by
    rw[List.length_map,hp.length_eq,<-o,List.length_map]
   rw[<-O]at t⊢
   refine hR _ _ ⟨some ⟨bi.block,0,none⟩,c,ys.map (λy=>y.val),rfl,⟨?_,?_⟩,?_,λj G=>?_,(Y.trans s).fr_trans f8 (λj G=>?_)⟩
   ·rw[<-o];exact hp.map _
   ·exact List.pairwise_map.2 T
   ·have:ivs ((ys.map λy=>y.val).map λbj:Nat=>(bj:Int))=ys.map encF:=by simp[ivs,encF,Function.comp_def]
    rw[this];exact t
   ·simp at G;have:=F bi.block (by simp);omega
   ·simp at G;have:=F bi.block (by simp);omega
def Mem.sumN(m:Mem)(l:List Nat):Int:=(l.map λi=>(m.seg i).n).sum
def Mem.words(m:Mem)(gs:List Int):Int:=m.sumN (m.takenTo gs m.limit)
theorem uu{b:List Nat}(h:j.Perm b):a.sumN j=a.sumN b:=by
 induction h with
 | nil=>rfl
 | cons x _ e=>simp only[Mem.sumN,List.map_cons,List.sum_cons]at*;omega
 | swap x y j=>simp only[Mem.sumN,List.map_cons,List.sum_cons];omega
 | trans _ _ c d=>exact c.trans d
theorem oO(m:Mem)(l a:List Nat):m.sumN (l++a)=m.sumN l+m.sumN a:=by unfold Mem.sumN;rw[List.map_append,List.sum_append]
theorem wj(b:bJ a)(l:List Nat):0<=a.sumN l/\a.sumN l<=64*l.length:=by
 induction l with
 | nil=>simp[Mem.sumN]
 | cons i l c=>
  have h:=(b.seg i).n
  have e:a.sumN (i::l)=(a.seg i).n+a.sumN l:=by simp[Mem.sumN]
  rw[e];simp only[List.length_cons];omega
theorem dK.has(h:dK a b j)(e:i∈j):a.has (i:Int)/\i<a.limit/\0< (a.seg i).taken/\(b=[]\/(a.seg i).gen∈b):=by
 have c:=h.perm.subset e
 have d:=Mem.takenTo_lt c
 unfold Mem.takenTo at c
 rw[List.mem_filter]at c
 simp only[Bool.and_eq_true,decide_eq_true_eq,Bool.or_eq_true,List.isEmpty_iff]at c
 refine⟨⟨by omega,by omega,?_⟩,d,c.2.1,c.2.2⟩
 have:((i:Int)).toNat=i:=by omega
 rw[this];omega
theorem dK.len{l:List Nat}(h:dK a b l):l.length<=a.limit:=by
 rw[h.perm.length_eq];exact a.takenTo_len b _
theorem mL{T:TypeId}{n c:Nat}(b:Own H T 1 d n c (ivs (j.map λi:Nat=>(i:Int)))){i:Nat}(f:i<j.length): ∃a,d=some a/\hat H (a.add (i*1))=some (vi (j[i]:Int)):=by
 obtain⟨a,e,h⟩:=nS b.src (i:=i) (by simpa using f)
 exact⟨a,e,by simpa using h⟩
theorem qq{b:Blk}{s:Sp}{gs:List Int}(h:SpAt H b s)(m:SpOK s)(P:fB H d (ivs gs))(t:i=gs.length)(r:i<=1000):
  eE.C (some ⟨b.sp,0,none⟩) d i k H (λv D=>v=vi (s.mem.words gs)/\Ext H D):=by
 refine HC.via λR N=>eE.link ?_
 unfold eE.pt zY
 refine HC.mono (me h) ?_
 rintro _ X ⟨rfl,M⟩
 subst M
 refine⟨_,rfl,?_⟩
 rw[if_neg (by decide)]
 refine⟨_,rfl,_,h.memPtr,HC.mono (jI h.mem m.mem P t r) ?_⟩
 rintro _ E ⟨B,c,l,rfl,T,u,hy,w⟩
 have z:=m.mem.lim
 have U:=T.len
 refine⟨_,_,_,rfl,λg a2 A=>(0<=a2/\a2<=l.length)/\g=s.mem.sumN (l.take a2.toNat)/\Ext E A,λ_ a2 _=>(l.length-a2).toNat,⟨by omega,by simp[Mem.sumN],Ext.refl _⟩,?_⟩
 rintro g a2 A ⟨S,rfl,j⟩
 by_cases f:a2< (l.length:Int)
 ·rw[if_pos f]
  have e:a2.toNat<l.length:=by omega
  obtain⟨a,rfl,L⟩:=mL (u.ext j) e
  have x:=(h.ext w).ext j
  refine⟨a,rfl,⟨S.1,f⟩,_,L,_,x.memPtr,HC.mono (kL x.mem) ?_⟩
  rintro _ Y ⟨rfl,I⟩
  have Q:=(T.has (List.getElem_mem e)).1
  have hk:((l[a2.toNat]:Nat):Int).toNat=l[a2.toNat]:=by omega
  rw[if_pos Q,hk]
  refine⟨_,_,_,_,_,_,_,_,rfl,λb5 Z q o=>?_⟩
  obtain⟨G,W⟩:=wi (n:=7) (vs:=[vi (s.mem.seg l[a2.toNat]).gen,vi (s.mem.seg l[a2.toNat]).kind,vi (s.mem.seg l[a2.toNat]).n,vi ((s.mem.seg l[a2.toNat]).cards 0),vi ((s.mem.seg l[a2.toNat]).cards 1),vi ((s.mem.seg l[a2.toNat]).cards 2),vi ((s.mem.seg l[a2.toNat]).cards 3)]) q o rfl rfl
  refine⟨G,λF p=>?_⟩
  obtain⟨K,J⟩:=W F p
  have V:(a2+1).toNat=a2.toNat+1:=by omega
  have O:=wj m.mem (l.take a2.toNat)
  have hn:=(m.mem.seg l[a2.toNat]).n
  have y:(l.take a2.toNat).length<=1024:=by simp;omega
  refine⟨_,by rw[eO K 2];rfl,?_⟩
  rw[w64 (n:=a2+1) (by omega),w64 (n:=s.mem.sumN (l.take a2.toNat)+(s.mem.seg l[a2.toNat]).n) (by omega)]
  refine⟨⟨by omega,?_,(j.trans I).trans J⟩,by show((l.length:Int)-(a2+1)).toNat< ((l.length:Int)-a2).toNat;omega⟩
  rw[V,List.take_succ_eq_append_getElem e,oO]
  simp[Mem.sumN]
 ·rw[if_neg f]
  rw[List.take_of_length_le (by omega)]
  exact N _ _ ⟨by rw[uu T.perm];rfl,w.trans j⟩
