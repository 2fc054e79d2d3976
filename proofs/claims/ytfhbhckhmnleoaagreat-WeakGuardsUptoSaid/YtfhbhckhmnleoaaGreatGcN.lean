/-
 A trace puts pairs of its own (trace.Put), and a thing behind a guardian's queue (weak.puts); a trace where nothing is old any more. Proves nothing of any one statement.
-/
import Derived.Test.YtfhbhckhmnleoaaGreatTrF
import Derived.Test.YtfhbhckhmnleoaaGreatCol
set_option linter.unusedVariables false
set_option linter.unusedSimpArgs false
namespace Go.Proofs.YtfhbhckhmnleoaaGreat
open Go
variable{d j z:Int}{i:Hp}{k:TB}{o:Tr}{u:Blk}{v:Sp}{H B:zV}{A:Addr}{C:Mem}{D:Nat}
theorem gx{A a A3:zV}{b:Array Value}{T:TypeId}(h:D=A.size)(c:a=A.push (.cells b T (0,0)))(vs:List Value)(k:vs.length=b.size):
  aN a (Addr.mk D 0 none) 0 vs.length/\(A3=aV a (Addr.mk D 0 none) vs 0->A3[D]?=some (.cells (splice b 0 vs) T (0,0))/\Ext A A3):=by
 have g:=aO h c
 have e:Ext A a:=Ext.push' c
 refine⟨cD g _ _ _ (by omega),λd=>?_⟩
 rw[dO vs a b 0 0 g]at d
 rw[d]
 have f:Fr [D] a (bN a D (.cells (splice b (0+0) vs) T (0,0))):=Fr.set
 exact⟨bD (bC g),e.fr_trans f (λi j=>by simp at j;omega)⟩
def Sp.putT(s:Sp)(T car cdr:Int):Sp×Int:=
 if(s.alloc T 0 2).2.2=0 then({(s.alloc T 0 2).1 with mem:=(s.alloc T 0 2).1.mem.sets (s.alloc T 0 2).2.1 [car,cdr]},(s.alloc T 0 2).2.1*8+1)else(s,20)
theorem Sp.putT_word(a:SpOK v):aC (v.putT d j z).2:=by
 unfold Sp.putT
 split
 ·rename_i h
  obtain⟨c,b⟩:=Sp.alloc_ok a h
  obtain⟨e,f,g⟩:=b.addr
  have:=a.mem.lim
  show aC ((v.alloc d 0 2).2.1*8+1)
  constructor<;>omega
 ·exact(by decide:aC 20)
set_option maxRecDepth 100000 in
theorem sX(T:Tg H u i k o)(q:aC d)(S:aC j):
  eI.C (some ⟨k.t,0,none⟩) d j H (λv K=>v=vu (i.sp.putT o.tgt d j).2/\Tg K u {i with sp:=(i.sp.putT o.tgt d j).1} k o/\Fr (spB u) H K):=by
 refine HC.via λR p=>eI.link ?_
 unfold eI.pt zY
 refine HC.mono (iW T.toTc) ?_
 rintro _ X ⟨rfl,D⟩
 obtain rfl:H=X:=D.symm
 refine⟨_,rfl,?_⟩
 rw[if_neg (by rw[T.on];decide)]
 obtain⟨Z,p2,p3,p4⟩:=T.s1
 refine⟨_,rfl,_,Z,_,rfl,_,p2,_,rfl,_,p3,_,by rw[addr_add_mk];exact T.tr.tgtAt,?_⟩
 refine HC.mono (jS T.hp.cd.sp T.ok (Sp.cf_count T.ok T.cf)) ?_
 rintro _ L ⟨rfl,G,N⟩
 refine⟨_,_,rfl,?_⟩
 have B:=T.hp.withSp N (λah c=>by simp at c;omega) G
 have f:Fr (spB u) H L:=N
 by_cases l:(i.sp.alloc o.tgt 0 2).2.2=0
 case neg=>
  rw[if_neg l]
  have A:i.sp.putT o.tgt d j=(i.sp,20):=by unfold Sp.putT;rw[if_neg l]
  rw[A]at p
  rw[Sp.alloc_fail T.ok l]at B
  exact p _ _ ⟨rfl,⟨T.toTc.step f (λah c=>gH c) B T.ok,T.even,T.cf,T.on⟩,f⟩
 rw[if_pos l]
 have A:i.sp.putT o.tgt d j=({(i.sp.alloc o.tgt 0 2).1 with mem:=(i.sp.alloc o.tgt 0 2).1.mem.sets (i.sp.alloc o.tgt 0 2).2.1 [d,j]},(i.sp.alloc o.tgt 0 2).2.1*8+1):=by unfold Sp.putT;rw[if_pos l]
 rw[A]at p
 obtain⟨g,Q⟩:=Sp.alloc_ok T.ok l
 have t:=(Q.even T.even (λ_=>by decide)).1
 have s:(i.sp.alloc o.tgt 0 2).1.cf=i.sp.cf:=Sp.alloc_cf _ _ _ _
 simp only at p
 generalize hr:i.sp.alloc o.tgt 0 2=r at*
 obtain⟨b,a,e⟩:=r
 simp only at*
 have U:=T.ok.mem.lim
 obtain⟨a0,a1,a2⟩:=Q.addr
 have y:Tc L u {i with sp:=b} k o:=T.toTc.step f (λah c=>gH c) B g
 obtain⟨r1,r2,r3,r4⟩:=y.s1
 refine⟨_,r1,_,rfl,_,r2,_,rfl,_,r3,_,rfl,_,r4,?_⟩
 refine HC.mono (gP y.hp.cd.sp.mem y.ok.mem (by omega)) ?_
 rintro _ V ⟨rfl,E,O⟩
 have I:SpOK {b with mem:=if b.mem.used a then b.mem.set a d else b.mem}:=g.sets a (ws:=[d]) (by intro w x;simp at x;rw[x];exact q)
 have z:Tc V u {i with sp:={b with mem:=if b.mem.used a then b.mem.set a d else b.mem}} k o:=y.withMem O (λah c=>by simp at c;exact .inr c) E I
 obtain⟨q1,q2,q3,q4⟩:=z.s1
 refine⟨_,rfl,_,q1,_,rfl,_,q2,_,rfl,_,q3,_,rfl,_,q4,?_⟩
 rw[w64 (n:=a+1) (by omega)]
 refine HC.mono (gP z.hp.cd.sp.mem z.ok.mem (by omega)) ?_
 rintro _ W ⟨rfl,F,P⟩
 have J:SpOK {b with mem:=b.mem.sets a [d,j]}:=g.sets a (ws:=[d,j]) (by intro w x;simp at x;rcases x with rfl | rfl<;>assumption)
 have Y:Tc W u {i with sp:={b with mem:=b.mem.sets a [d,j]}} k o:=z.withMem (m:=b.mem.sets a [d,j]) P (λah c=>by simp at c;exact .inr c) F J
 refine⟨_,rfl,HC.mono (jV (by omega) (by omega)) ?_⟩
 rintro _ H5 ⟨rfl,M⟩
 rw[if_neg (by decide),if_pos (by omega)]
 refine⟨_,_,rfl,p _ _ ⟨rfl,⟨Y.ext M,(aY.sets _ _ _).even t,?_,T.on⟩,?_⟩⟩
 ·have h:=aY.sets [d,j] b.mem a
  show({b with mem:=b.mem.sets a [d,j]}:Sp).cf<_
  have:({b with mem:=b.mem.sets a [d,j]}:Sp).cf=b.cf:=by unfold Sp.cf;simp only[];rw[h.count,h.free]
  rw[this,s];exact T.cf
 ·exact((f.trans (O.mono (λah c _=>by simp at c;simp[spB];omega))).trans (P.mono (λah c _=>by simp at c;simp[spB];omega))).trans M.fr
theorem Mem.store_even{m:Mem}(h:m.Even)(a w:Int):(m.store a w).1.Even:=λk hk=>by
 obtain⟨_,b,c⟩:=Mem.store_seg (m:=m) (a:=a) (w:=w) k
 rw[c];exact h k (by rw[<-b];exact hk)
theorem Tg.set(T:Tg H u i k o)(V:View B (some ⟨u.h,0,none⟩) (some (u,i.setMem C)))(f:Fr (own (some (u,i))) H B)(b:C.Even)(a:C.free=i.sp.mem.free/\C.count=i.sp.mem.count):Tg B u (i.setMem C) k o/\Fr (spB u) H B:=by
 obtain⟨-,d,e⟩:=V.inv
 refine⟨⟨T.toTc.step f (λg c=>gH c) d e,b,?_,T.on⟩,f⟩
 have:(i.setMem C).sp.cf=i.sp.cf:=by unfold Sp.cf Hp.setMem;simp only[];rw[a.1,a.2]
 rw[this];exact T.cf
def Mem.hset(m:Mem)(w i v:Int):Mem:=if m.isPair w then(m.store (w / 8+i) v).1 else m
def Mem.hsetE(m:Mem)(w i v:Int):Int:=if m.isPair w then(m.store (w / 8+i) v).2 else 3
def Mem.fset(m:Mem)(w kind i v:Int):Mem:=if m.fieldE w kind i=0 then(m.store (w / 8+1+i) v).1 else m
theorem Mem.hset_fc(m:Mem)(w i v:Int):(m.hset w i v).free=m.free/\(m.hset w i v).count=m.count:=by
 unfold Mem.hset
 split
 ·exact(Mem.store_lim (m:=m)).2
 ·exact⟨rfl,rfl⟩
theorem Mem.fset_fc(m:Mem)(w k i v:Int):(m.fset w k i v).free=m.free/\(m.fset w k i v).count=m.count:=by
 unfold Mem.fset
 split
 ·exact(Mem.store_lim (m:=m)).2
 ·exact⟨rfl,rfl⟩
theorem Mem.hset_even(h:C.Even)(w i v:Int):(C.hset w i v).Even:=by
 unfold Mem.hset;split
 ·exact Mem.store_even h _ _
 ·exact h
theorem Mem.fset_even(h:C.Even)(w k i v:Int):(C.fset w k i v).Even:=by
 unfold Mem.fset;split
 ·exact Mem.store_even h _ _
 ·exact h
def Mem.lastG(m:Mem)(g:Int):Int:=if m.fieldE g 10 1=0 then m.get (g / 8+1+1)else 0
def Mem.queued(m:Mem)(g p:Int):Mem:=
 if m.hsetE (m.lastG g) 1 p=0 then(m.hset (m.lastG g) 1 p).fset g 10 1 p else((m.hset (m.lastG g) 1 p).fset g 10 0 p).fset g 10 1 p
def Sp.putsG(s:Sp)(T g th:Int):Sp:=
 if s.mem.typ g=10/\s.mem.len g=2 then(if(s.putT T th 20).2=20 then(s.putT T th 20).1 else{(s.putT T th 20).1 with mem:=(s.putT T th 20).1.mem.queued g (s.putT T th 20).2})else s
theorem oK(a:SpOK v)(g k i p:Int)(b:aC p)(c:aC g):SpOK {v with mem:=v.mem.fset g k i p}:=by
 unfold Mem.fset
 split
 ·exact SpOK.store a _ b
 ·exact a
theorem tU(a:SpOK v)(w i p:Int)(b:aC p):SpOK {v with mem:=v.mem.hset w i p}:=by
 unfold Mem.hset
 split
 ·exact SpOK.store a _ b
 ·exact a
theorem rT(d:SpOK v)(g p:Int)(a:aC p)(b:aC g):SpOK {v with mem:=v.mem.queued g p}:=by
 unfold Mem.queued
 have c:=tU d (v.mem.lastG g) 1 p a
 split
 ·exact oK c g 10 1 p a b
 ·exact oK (oK c g 10 0 p a b) g 10 1 p a b
theorem rk(b:SpOK v)(T:Int)(c:aC d)(e:aC j):SpOK (v.putT T d j).1:=by
 unfold Sp.putT
 split
 ·rename_i h
  exact(Sp.alloc_ok b h).1.sets _ (by intro w a;simp at a;rcases a with rfl | rfl<;>assumption)
 ·exact b
theorem pE(b:SpOK v){T:Int}(e:(0:Int)<=0)(g c:Int)(d:aC g)(a:aC c):SpOK (v.putsG T g c):=by
 unfold Sp.putsG
 split
 ·split
  ·exact rk b T a (by decide)
  ·exact rT (rk b T a (by decide)) g _ (Sp.putT_word b) d
 ·exact b
set_option maxRecDepth 100000 in
theorem sY(T:Tg H u i k o)(G:aC d)(P:aC j):
  io.C (some ⟨k.t,0,none⟩) d j H (λ_ Q=>Tg Q u {i with sp:=i.sp.putsG o.tgt d j} k o/\Fr (spB u) H Q):=by
 refine HC.via λR e=>io.link ?_
 unfold io.pt
 have hm: ∀y:Hp,mof (some (u,y))=y.sp.mem:=λ_=>rfl
 refine⟨_,rfl,_,T.s1.1,HC.mono (iV T.view G) ?_⟩
 rw[hm]
 rintro _ H1 ⟨rfl,n⟩
 refine⟨_,rfl,?_⟩
 by_cases w:i.sp.mem.typ d=10
 case neg=>
  rw[if_neg w]
  have g:i.sp.putsG o.tgt d j=i.sp:=by unfold Sp.putsG;rw[if_neg (λh=>w h.1)]
  rw[g]at e
  exact e _ _ ⟨T.grow n,n.fr⟩
 rw[if_pos w]
 have z:=T.grow n
 refine⟨_,z.s1.1,HC.mono (lW z.view G) ?_⟩
 rw[hm]
 rintro _ H2 ⟨rfl,E⟩
 refine⟨_,rfl,?_⟩
 by_cases s:i.sp.mem.len d=2
 case neg=>
  rw[if_neg s]
  have g:i.sp.putsG o.tgt d j=i.sp:=by unfold Sp.putsG;rw[if_neg (λh=>s h.2)]
  rw[g]at e
  exact e _ _ ⟨z.grow E,(n.trans E).fr⟩
 rw[if_pos s]
 have T2:=z.grow E
 refine HC.mono (sX T2 P (by decide)) ?_
 rintro _ X ⟨rfl,m,f3⟩
 refine⟨_,rfl,?_⟩
 have q:Fr (spB u) H X:=(n.trans E).fr.trans f3
 by_cases hn:(i.sp.putT o.tgt j 20).2=20
 ·rw[if_pos hn]
  have g:i.sp.putsG o.tgt d j=(i.sp.putT o.tgt j 20).1:=by unfold Sp.putsG;rw[if_pos ⟨w,s⟩,if_pos hn]
  rw[g]at e
  exact e _ _ ⟨m,q⟩
 rw[if_neg hn]
 have g:i.sp.putsG o.tgt d j={(i.sp.putT o.tgt j 20).1 with mem:=(i.sp.putT o.tgt j 20).1.mem.queued d (i.sp.putT o.tgt j 20).2}:=by unfold Sp.putsG;rw[if_pos ⟨w,s⟩,if_neg hn]
 rw[g]at e
 have t:aC (i.sp.putT o.tgt j 20).2:=Sp.putT_word T.ok
 generalize i.sp.putT o.tgt j 20=pr at*
 obtain⟨a,p⟩:=pr
 simp only at*
 refine⟨_,m.s1.1,HC.mono (kC m.view G (by decide)) ?_⟩
 rw[hm]
 rintro _ H4 ⟨rfl,S⟩
 have I:=m.grow S
 have O:aC (a.mem.lastG d):=by
  unfold Mem.lastG
  split
  ·exact(m.ok.mem.seg _).words _
  ·decide
 refine⟨a.mem.lastG d,_,rfl,_,I.s1.1,HC.mono (lF I.view O t) ?_⟩
 rintro _ Y ⟨rfl,V5,f5⟩
 have W:hsetE (some (u,({i with sp:=a}:Hp))) (a.mem.lastG d) 1 p=a.mem.hsetE (a.mem.lastG d) 1 p:=rfl
 have L:View Y (some ⟨u.h,0,none⟩) (some (u,({i with sp:=a}:Hp).setMem (a.mem.hset (a.mem.lastG d) 1 p))):=V5
 obtain⟨B,M⟩:=I.set L f5 (Mem.hset_even m.even _ _ _) (Mem.hset_fc _ _ _ _)
 have r:=(q.trans S.fr).trans M
 refine⟨_,rfl,?_⟩
 rw[W]
 have b: ∀{A:zV} {y:Hp} {af:Int} {K:zV->Prop},Tg A u y k o->I64 af->(∀c,Tg c u (y.setMem (y.sp.mem.fset d 10 af p)) k o->Fr (spB u) A c->K c)->dU.C (some ⟨u.h,0,none⟩) d 10 af p A (λv c=> ∃x:Int,v=vi x/\K c):=λ{A y af K} J hi hK=>by
  refine HC.mono (n9 J.view G hi t) ?_
  rintro _ c ⟨rfl,V,f⟩
  have V':View c (some ⟨u.h,0,none⟩) (some (u,y.setMem (y.sp.mem.fset d 10 af p))):=V
  obtain⟨Z,f'⟩:=J.set V' f (Mem.fset_even J.even _ _ _ _) (Mem.fset_fc _ _ _ _ _)
  exact⟨_,rfl,hK c Z f'⟩
 by_cases F:a.mem.hsetE (a.mem.lastG d) 1 p=0
 ·rw[if_pos F]
  refine⟨_,B.s1.1,b B (by decide) λc D N=>e _ _ ⟨?_,r.trans N⟩⟩
  have l:a.mem.queued d p=(a.mem.hset (a.mem.lastG d) 1 p).fset d 10 1 p:=by unfold Mem.queued;rw[if_pos F]
  rw[l];exact D
 ·rw[if_neg F]
  refine⟨_,B.s1.1,b B (by decide) λc D N=>?_⟩
  refine⟨_,D.s1.1,b D (by decide) λU T7 f7=>e _ _ ⟨?_,(r.trans N).trans f7⟩⟩
  have l:a.mem.queued d p=((a.mem.hset (a.mem.lastG d) 1 p).fset d 10 0 p).fset d 10 1 p:=by unfold Mem.queued;rw[if_neg F]
  rw[l];exact T7
def rn(old:Nat->Bool)(T:Int)(m:Mem):Prop:= ∀k i:Nat,m.has k->(m.seg k).gen=T->old k=false->(i:Int)< (m.seg k).n->looks (m.seg k).kind i-> ¬aG old (m.read ((k:Int)*64+i))
theorem Mem.wr_read(m:Mem)(a:Int):m.wr a (m.read a)=m:=by
 unfold Mem.wr Mem.read
 by_cases h:m.used a
 ·rw[if_pos h,if_pos h]
  unfold Mem.set Mem.get Mem.upd
  cases m with
  | mk f seg b l=>
   simp only[Mem.mk.injEq,true_and,and_true]
   funext i
   split
   ·rename_i d
    subst d
    cases o:seg (a / 64).toNat with
    | mk g k n c t w=>
     simp only[Seg.set,Seg.mk.injEq,true_and]
     funext j
     split
     ·rename_i e;rw[e]
     ·rfl
   ·rfl
 ·rw[if_neg h]
theorem Sp.lookAt_settled{old:Nat->Bool}(h: ¬aG old (v.mem.read j)):v.lookAt old d j=v:=by
 unfold Sp.lookAt
 rw[Sp.visit_no h]
 simp only[]
 rw[Mem.wr_read]
theorem Sp.look_settled{s:Sp}{old:Nat->Bool}{T k a b:Int}: ∀n:Nat,(∀j:Nat,j<n->looks a (b+j)-> ¬aG old (s.mem.read (k*64+(b+j))))->s.look old T k a b n=s
 | 0,_=>rfl
 | n+1,h=>by
  unfold Sp.look
  rw[Sp.look_settled n (λj d=>h j (by omega))]
  split
  ·rename_i c;exact Sp.lookAt_settled (h n (by omega) c)
  ·rfl
theorem dY.settled{old:Nat->Bool}{s:Sp}{g i:List (Int×Value)}(h:dY old d v g s i)(q:rn old d v.mem)(t:aX v.mem)(hk:eR g):s=v/\eR i:=by
 induction h with
 | refl=>exact⟨rfl,hk⟩
 | @step x b k _ hk l p hn r=>
  obtain⟨rfl,c⟩:=r
  have f:=(t.seg k.toNat).n
  refine⟨Sp.look_settled _ (λj w o=>?_),λa y e=>?_⟩
  ·have u:=(iX c k).2.1
   have m:=hk.1
   have:=q k.toNat (seenAt b k+j).toNat (by rw[show((k.toNat:Nat):Int)=k by omega];exact hk) l p (by omega) (by rw[show(((seenAt b k+j).toNat:Nat):Int)=seenAt b k+j by omega];exact o)
   rw[show((k.toNat:Nat):Int)=k by omega,show(((seenAt b k+j).toNat:Nat):Int)=seenAt b k+j by omega]at this
   exact this
  ·rw[jE]at e
   split at e
   ·cases e;exact⟨_,rfl,f⟩
   ·exact c a y e
theorem Tg.withOld(T:Tg H u i k o){old:Nat->Bool}(h: ∀A,A<1024->o.old A=old A):Tg H u i k {o with old:=old}:=by
 obtain⟨⟨j,l,m,n⟩,p,q,r⟩:=T
 obtain⟨s,t,v,w,x,y,z⟩:=m
 obtain⟨g,a,b,c,d,e,f⟩:=s
 exact⟨⟨j,l,⟨⟨g,a,b,c,d,λA hk=>by rw[e A hk,h A hk],f⟩,t,v,w,x,y,z⟩,n⟩,p,q,r⟩
def nC(A:zV)(c:Nat):Nat:=match A[c]? with | some (Obj.cells cs _ _)=>(match(cs[0]?:Option Value)with | some (Value.int _ n)=>(2-n).toNat | _=>0) | _=>0
structure GdSt (H:zV) (b:Blk) (x:Hp) (q:TB) (t:Tr) (c c2 c3 c4:Nat) (a:Addr) (o g lv:Int) (A:zV):Prop where
 tg:Tg A b x q t
 g0:A[c]?=some (.cells #[vp (some ⟨q.t,0,none⟩)] 37 (0,0))
 g2:A[c2]?=some (.cells #[vs (some a) 1 1] 31 (0,0))
 g4:A[c4]?=some (.cells #[vs (some ⟨c3,0,none⟩) 1 1] 75 (0,0))
 g3:A[c3]?=some (.cells #[vi lv] 3 (0,0))
 row:aP A a 0 [vu o,vu g]
 fr:Fr (q.s::spB b) H A
 new:H.size<=c/\H.size<=c2/\H.size<=c3/\H.size<=c4/\c≠c3/\c2≠c3/\c4≠c3/\a.block<H.size
theorem GdSt.ext{a:zV}{b:Blk}{c f g l:Nat}(h:GdSt H b i k o c f g l A d j z B)(e:Ext B a):GdSt H b i k o c f g l A d j z a:=
 ⟨h.tg.grow e,e.get h.g0,e.get h.g2,e.get h.g4,e.get h.g3,e.rowAt h.row,h.fr.trans e.fr,h.new⟩
theorem GdSt.go{H F a:zV}{q:Hp}{p:Tr}{c g l m:Nat}(h:GdSt H u i k o c g l m A d j z F)(T:Tg a u q k p)(f:Fr (k.s::spB u) F a)(n:A.block ∉ u.all/\A.block ∉ k.all)(r: ∀G∈k.s::spB u,G<H.size):GdSt H u q k p c g l m A d j z a:=by
 obtain⟨t,v,w,x,B,C,D,E⟩:=h.new
 have no: ∀I,H.size<=I->I ∉ k.s::spB u:=λI y b=>by have:=r I b;omega
 refine⟨T,f.get (no _ t) h.g0,f.get (no _ v) h.g2,f.get (no _ x) h.g4,f.get (no _ w) h.g3,f.rowAt (λb=>?_) h.row,h.fr.trans f,h.new⟩
 rcases List.mem_cons.1 b with e | e
 ·exact n.2 (by rw[e];simp[TB.all])
 ·exact n.1 (gH e)
theorem GdSt.lost{c:zV}{l e m:Nat}{b:Int}(h:GdSt H u i k o D l e m A d j z B)(q:c=aV B (Addr.mk e 0 none) [vi b] 0)(p: ∀J,J∈u.all\/J∈k.all->J<H.size):GdSt H u i k o D l e m A d j b c:=by
 obtain⟨w,x,y,C,E,F,G,I⟩:=h.new
 obtain⟨_,s⟩:=lH (n:=1) (vs:=[vi b]) h.g3 rfl rfl
 obtain⟨r,f⟩:=s c q
 have v:=bC h.g3
 refine⟨h.tg.stay f (λJ a g=>by simp at a;have:=p J (.inl g);omega) (λJ a g=>by simp at a;have:=p J (.inr g);omega),f.get (by simp;omega) h.g0,f.get (by simp;omega) h.g2,f.get (by simp;omega) h.g4,r,f.rowAt (by simp;omega) h.row,h.fr.trans' f (λJ a _=>a) (λJ a t=>by simp at a;omega),h.new⟩
theorem uj{g c h:Nat}(S:GdSt H u i k o D g c h A d j z B)(m:aC j):
  dL.C 0 (some (Addr.mk h 0 none)) (some (Addr.mk D 0 none)) (some (Addr.mk g 0 none)) B (λv f=>v=.bool (decide (z=1) && (decide (¬(o.over=false/\aG o.old j)) || (i.sp.mem.fwd j).isSome))/\Ext B f):=by
 refine HC.via λR l=>dL.link ?_
 unfold dL.pt
 refine⟨_,rfl,_,_,_,by rw[aK S.g4];rfl,_,rfl,⟨by decide,by decide⟩,z,by rw[show(Addr.mk c 0 none).add (Int.toNat 0*1)=Addr.mk c 0 none from rfl,aK S.g3];rfl,?_⟩
 by_cases b:z=1
 ·rw[if_pos b]
  have a:=S.row.2.1
  refine⟨_,rfl,_,by rw[aK S.g0];rfl,_,rfl,_,_,_,by rw[aK S.g2];rfl,_,rfl,⟨by decide,by decide⟩,j,by
   have e:(A.add (Int.toNat 0*2)).add 1=A.add (0+1):=by unfold Addr.add;split<;>simp_all
   rw[e];exact a,HC.mono (fp S.tg.toTc m) ?_⟩
  rintro _ f ⟨rfl,e⟩
  exact⟨_,rfl,l _ _ ⟨by rw[zX b,Bool.true_and],e⟩⟩
 ·rw[if_neg b]
  exact l _ _ ⟨by rw[zQ b,Bool.false_and],Ext.refl _⟩
set_option maxRecDepth 100000 in
set_option maxHeartbeats 1000000 in
theorem oL{t:Tr}{a:Addr}{o g:Int}(T:Tg H u i k t)(bw:eR t.seen)(bz:0<=t.tgt)(ho:aC o)(hg:aC g)(ay:aP H a 0 [vu o,vu g])(ha:a.block ∉ u.all/\a.block ∉ k.all)(bo:a.block<H.size)
  (G:aG t.old o/\i.sp.mem.fwd o=none) (ae: ¬aG t.old g\/(i.sp.mem.fwd g).isSome=true):
  eO.C (some ⟨k.t,0,none⟩) (some a) 1 1 H (λv H'=>v=vN/\ ∃(r:Sp) (b:List (Int×Value)),
   dY t.old t.tgt (((i.sp.visit t.old t.tgt o).1.visit t.old t.tgt g).1.putsG t.tgt ((i.sp.visit t.old t.tgt o).1.visit t.old t.tgt g).2 (i.sp.visit t.old t.tgt o).2) t.seen r b/\ii t.old t.tgt r b/\Tg H' u {i with sp:=r} k {t with seen:=b}/\eR b/\Fr (k.s::spB u) H H'):=by
 refine HC.via λR hR=>eO.link ?_
 unfold eO.pt zY
 intro c H1 hc aa B H2 bp ab
 have e1:Ext H H1:=Ext.push' aa
 have e2:Ext H1 H2:=Ext.push' ab
 have z1:H1.size=H.size+1:=by rw[aa];simp
 have z2:H2.size=H1.size+1:=by rw[ab];simp
 have k0:=e2.get (aO hc aa)
 have k2:=aO bp ab
 refine⟨_,by rw[aK k0];rfl,HC.mono (jr (T.grow (e1.trans e2)).toTc) ?_⟩
 rintro _ HH ⟨rfl,bn⟩
 obtain rfl:H2=HH:=bn.symm
 refine⟨_,rfl,?_⟩
 rw[if_neg (by rw[T.on];decide)]
 refine⟨some a,1,1,by rw[aK k2];rfl,by decide,by decide,by decide,by decide,λd H5 bq ac D H6 br av=>?_⟩
 have e5:Ext H2 H5:=Ext.push' ac
 have z5:H5.size=H2.size+1:=by rw[ac];simp
 have z6:H6.size=H5.size+1:=by rw[av];simp
 obtain⟨q6,s6⟩:=gx (A3:=aV H6 (Addr.mk D 0 none) [vs (some (Addr.mk d 0 none)) 1 1] 0) br av [vs (some (Addr.mk d 0 none)) 1 1] rfl
 refine⟨q6,λH7 bl=>?_⟩
 have aw:H7=aV H6 (Addr.mk D 0 none) [vs (some (Addr.mk d 0 none)) 1 1] 0:=bl
 obtain⟨k4,e7⟩:=s6 rfl
 rw[<-aw]at k4 e7
 have k3:H5[d]?=some (.cells #[vi 0] 3 (0,0)):=by
  have:=aO bq ac
  rw[show Builtin.zeroCells #[vi 0] (Int.toNat ((1:Nat):Int))=(#[vi 0]:Array Value)from by kernel_rfl]at this
  exact this
 have E7:=((e1.trans e2).trans e5).trans e7
 have a8:=e5.trans e7
 have P: ∀ct,ct∈u.all\/ct∈k.all->ct<H.size:=λct q=>T.lt q
 have I: ∀ct∈k.s::spB u,ct<H.size:=λct q=>by
  rcases List.mem_cons.1 q with h | h
  ·exact P ct (.inr (by rw[h];simp[TB.all]))
  ·exact P ct (.inl (gH h))
 have S0:GdSt H u i k t c B d D a o g 0 H7:=⟨T.grow E7,a8.get k0,a8.get k2,k4,e7.get k3,E7.rowAt ay,E7.fr,by omega,by omega,by omega,by omega,by omega,by omega,by omega,bo⟩
 have af:IntKind.wrap .i64 ((0:Int)+1)=1:=by decide
 refine⟨some a,1,1,by rw[aK (a8.get k2)];rfl,λct A=>(ct=0/\GdSt H u i k t c B d D a o g 0 A)\/(ct=1/\GdSt H u i k t c B d D a o g 1 A),λct _=>(1-ct).toNat,.inl ⟨rfl,S0⟩,?_⟩
 rintro ct H8 (⟨rfl,S8⟩ | ⟨rfl,S8⟩)
 ·rw[if_pos (by decide)]
  refine⟨a,rfl,⟨by decide,by decide⟩,o,g,by rw[show a.add (Int.toNat 0*2)=a from by unfold Addr.add;simp];exact S8.row,λcv H9 bs bm=>?_⟩
  obtain⟨q9,s9⟩:=gx (A3:=aV H9 (Addr.mk cv 0 none) [vu o,vu g] 0) bs bm [vu o,vu g] rfl
  refine⟨q9,λb3 ap=>?_⟩
  obtain⟨k5,an⟩:=s9 rfl
  rw[<-ap]at k5 an
  have bE:b3[cv]?=some (.cells #[vu o,vu g] 36 (0,0)):=k5
  have a3:=S8.ext an
  refine⟨_,by rw[aK a3.g0];rfl,o,by rw[aK bE];rfl,HC.mono (fp a3.tg.toTc ho) ?_⟩
  rintro _ bW ⟨rfl,bd⟩
  refine⟨_,rfl,?_⟩
  rw[if_neg (by rw[G.2];simp[T.on,G.1])]
  have a4:=a3.ext bd
  refine⟨_,_,_,by rw[aK a4.g4];rfl,_,rfl,⟨by decide,by decide⟩,?_⟩
  rw[show(Addr.mk d 0 none).add (Int.toNat 0*1)=Addr.mk d 0 none from rfl,af]
  refine⟨cD a4.g3 _ _ _ (by simp),λbX au=>⟨.inr ⟨rfl,a4.lost au P⟩,show((1:Int)-1).toNat< ((1:Int)-0).toNat by decide⟩⟩
 rw[if_neg (by decide)]
 obtain⟨s3,az⟩: ∃s3:Sp,s3=((i.sp.visit t.old t.tgt o).1.visit t.old t.tgt g).1.putsG t.tgt ((i.sp.visit t.old t.tgt o).1.visit t.old t.tgt g).2 (i.sp.visit t.old t.tgt o).2:=⟨_,rfl⟩
 rw[<-az]at hR
 obtain⟨S2,E⟩: ∃S2:zV->Prop,S2=λA=> ∃(r:Sp) (b:List (Int×Value)),dY t.old t.tgt s3 t.seen r b/\ii t.old t.tgt r b/\eR b/\GdSt H u {i with sp:=r} k {t with seen:=b} c B d D a o g 2 A:=⟨_,rfl⟩
 have m1: ∀{A:zV} {y:Hp} {cu:Tr} {lv:Int},GdSt H u y k cu c B d D a o g lv A->nC A d=(2-lv).toNat:=λS=>by unfold nC;rw[S.g3];rfl
 refine⟨λA=>GdSt H u i k t c B d D a o g 1 A\/S2 A,λA=>nC A d,.inl S8,?_⟩
 intro a0 ao
 have a9:a0[B]?=some (.cells #[vs (some a) 1 1] 31 (0,0)):=by
  rcases ao with S | S
  ·exact S.g2
  ·rw[E]at S;obtain⟨_,_,_,_,_,S⟩:=S;exact S.g2
 refine⟨some a,1,1,by rw[aK a9];rfl,λct A=>(ct=0/\GdSt H u i k t c B d D a o g 1 A/\GdSt H u i k t c B d D a o g 1 a0)\/((ct=0\/ct=1)/\S2 A),λct _=>(1-ct).toNat,?_,?_⟩
 ·rcases ao with S | S
  ·exact .inl ⟨rfl,S,S⟩
  ·exact .inr ⟨.inl rfl,S⟩
 rintro ct ai bk
 have c9:S2 ai-> ∃Y:zW,∃Z:Nat,∃aL:Nat,hat ai (Addr.mk B 0 none)=some (vs Y Z aL)/\Y=some a/\Z=1:=λS=>by
  rw[E]at S;obtain⟨_,_,_,_,_,S⟩:=S
  exact⟨_,_,_,by rw[aK S.g2];rfl,rfl,rfl⟩
 rcases bk with⟨rfl,p,b7⟩ | ⟨q,p⟩
 ·rw[if_pos (by decide)]
  refine⟨a,rfl,⟨by decide,by decide⟩,o,g,by rw[show a.add (Int.toNat 0*2)=a from by unfold Addr.add;simp];exact p.row,λN w F j=>?_⟩
  obtain⟨K,L⟩:=gx (A3:=aV w (Addr.mk N 0 none) [vu o,vu g] 0) F j [vu o,vu g] rfl
  refine⟨K,λa1 l=>?_⟩
  obtain⟨k6,f⟩:=L rfl
  rw[<-l]at k6 f
  have bF:a1[N]?=some (.cells #[vu o,vu g] 36 (0,0)):=k6
  have e:=p.ext f
  refine HC.mono (uj e hg) ?_
  rintro _ aj ⟨rfl,O⟩
  refine⟨_,rfl,?_⟩
  rw[if_pos (by
   rcases ae with h | h
   ·simp[h]
   ·simp[h])]
  have x:=e.ext O
  refine⟨_,_,_,by rw[aK x.g4];rfl,_,rfl,⟨by decide,by decide⟩,?_⟩
  rw[show(Addr.mk d 0 none).add (Int.toNat 0*1)=Addr.mk d 0 none from rfl]
  refine⟨cD x.g3 _ _ _ (by simp),λa2 X=>?_⟩
  have a5:=x.lost X P
  have cm:=p.fr.size
  have l3:=bC x.g3
  have ax:N≠d:=by have:=bC p.g3;omega
  have bf:Fr [d] aj a2:=(lH (n:=1) (vs:=[vi 2]) x.g3 rfl rfl).2 a2 X |>.2
  have J:=bf.get (by simp;exact ax) (O.get bF)
  refine⟨_,by rw[aK a5.g0];rfl,o,by rw[aK J];rfl,HC.mono (fq a5.tg ho) ?_⟩
  rintro _ b4 ⟨rfl,b8,bg⟩
  have W:Fr (k.s::spB u) a2 b4:=bg.mono (λct q _=>List.mem_cons_of_mem _ q)
  have z:=a5.go b8 W ha I
  have bc:N ∉ k.s::spB u:=λh=>by have:=I N h;omega
  have ag:=W.get bc J
  refine⟨_,rfl,_,by rw[aK z.g0];rfl,_,by rw[aK z.g0];rfl,g,ig ag 1,HC.mono (fq z.tg hg) ?_⟩
  rintro _ bY ⟨rfl,b9,bh⟩
  have a6:=z.go b9 (bh.mono (λct q _=>List.mem_cons_of_mem _ q)) ha I
  refine⟨_,rfl,iO a6.g0,HC.mono (sY a6.tg (Sp.visit_word z.tg.ok hg) (Sp.visit_word T.ok ho)) ?_⟩
  rintro _ bZ ⟨ba,bi⟩
  have a7:=a6.go ba (bi.mono (λct q _=>List.mem_cons_of_mem _ q)) ha I
  refine⟨_,by rw[aK a7.g0];rfl,HC.mono (kf a7.tg bw bz) ?_⟩
  rintro _ b5 ⟨r,b,U,Q,bb,m,bj⟩
  have am:=a7.go bb bj ha I
  refine⟨.inr ?_,?_⟩
  ·rw[E];exact⟨r,b,by rw[az];exact U,Q,m,am⟩
  ·show nC b5 d<nC a0 d
   rw[m1 am,m1 b7];decide
 ·have V:=p
  rw[E]at V
  obtain⟨r,b,U,Q,m,S⟩:=V
  rcases q with rfl | rfl
  ·rw[if_pos (by decide)]
   refine⟨a,rfl,⟨by decide,by decide⟩,o,g,by rw[show a.add (Int.toNat 0*2)=a from by unfold Addr.add;simp];exact S.row,λN w F j=>?_⟩
   obtain⟨K,L⟩:=gx (A3:=aV w (Addr.mk N 0 none) [vu o,vu g] 0) F j [vu o,vu g] rfl
   refine⟨K,λa1 l=>?_⟩
   obtain⟨k6,f⟩:=L rfl
   rw[<-l]at k6 f
   have e:=S.ext f
   refine HC.mono (uj e hg) ?_
   rintro _ aj ⟨rfl,O⟩
   refine⟨_,rfl,?_⟩
   rw[if_neg (by simp),af]
   exact⟨.inr ⟨.inr rfl,by rw[E];exact⟨r,b,U,Q,m,e.ext O⟩⟩,show((1:Int)-1).toNat< ((1:Int)-0).toNat by decide⟩
  rw[if_neg (by decide)]
  refine⟨some a,1,1,by rw[aK S.g2];rfl,λoB oN oC ct A=>oB=none/\oN=0/\oC=0/\(ct=0\/ct=1)/\GdSt H u {i with sp:=r} k {t with seen:=b} c B d D a o g 2 A,λ_ _ _ ct _=>(1-ct).toNat,⟨rfl,rfl,rfl,.inl rfl,S⟩,?_⟩
  rintro _ _ _ ct c5 ⟨rfl,rfl,rfl,q,M⟩
  rcases q with rfl | rfl
  ·rw[if_pos (by decide)]
   refine⟨a,rfl,⟨by decide,by decide⟩,o,g,by rw[show a.add (Int.toNat 0*2)=a from by unfold Addr.add;simp];exact M.row,λN w F j=>?_⟩
   obtain⟨K,L⟩:=gx (A3:=aV w (Addr.mk N 0 none) [vu o,vu g] 0) F j [vu o,vu g] rfl
   refine⟨K,λa1 l=>?_⟩
   obtain⟨k6,f⟩:=L rfl
   rw[<-l]at k6 f
   have e:=M.ext f
   refine⟨_,_,_,by rw[aK e.g4];rfl,_,rfl,⟨by decide,by decide⟩,2,by rw[show(Addr.mk d 0 none).add (Int.toNat 0*1)=Addr.mk d 0 none from rfl,aK e.g3];rfl,?_⟩
   rw[if_neg (by decide),af]
   exact⟨⟨rfl,rfl,rfl,.inr rfl,e⟩,show((1:Int)-1).toNat< ((1:Int)-0).toNat by decide⟩
  ·rw[if_neg (by decide)]
   exact hR _ _ ⟨rfl,r,b,U,Q,M.tg,m,M.fr⟩
variable{d:Mem}
theorem Mem.mark_taken{k c v:Int}(j:Nat):((d.mark k c v).1.seg j).taken=(d.seg j).taken:=by
 unfold Mem.mark
 split
 ·rfl
 ·split
  ·rfl
  ·show((d.upd _ _).seg j).taken=_
   rw[Mem.upd_seg]
   split
   ·rename_i h;rw[h];rfl
   ·rfl
theorem Mem.store_taken{a w:Int}(j:Nat):((d.store a w).1.seg j).taken=(d.seg j).taken:=by
 unfold Mem.store
 split
 ·rw[Mem.mark_taken];exact((aY.set d a w).seg j).2.2.2.1
 ·rfl
theorem Mem.store_headsL(e:aX d){x v:Int}(b:aC v):fO d (d.store x v).1:=by
 refine⟨Mem.store_lim.1,λk _=>⟨(Mem.store_seg k).1,(Mem.store_seg k).2.1,Mem.store_taken k,by rw[(Mem.store_seg k).2.2];exact Int.le_refl _⟩,λk _ c=>?_⟩
 by_cases a:d.used x
 ·rw[Mem.store_cards e a b]
  split
  ·exact Mem.younger_le _ _ _ _
  ·exact Int.le_refl _
 ·unfold Mem.store;rw[if_neg a];exact Int.le_refl _
theorem Mem.store_kAt{m:Mem}{a w:Int}(x:Int):(m.store a w).1.kAt x=m.kAt x/\(m.store a w).1.gAt x=m.gAt x:=⟨(Mem.store_seg _).2.1,(Mem.store_seg _).1⟩
theorem Reach.of{Z Z':TZ}(hm:Z'.m=Z.m)(k:Z'.sz=Z.sz)(c:Z'.O=Z.O)(e: ∀v,Z.V v->Z'.V v){a:Int}(h:Reach Z a):Reach Z' a:=by
 induction h with
 | root h b=>exact .root (e _ h) (by rw[c];exact b)
 | @older x j hn d b=>
  have:=Reach.older (Z:=Z') (x:=x) (by rw[hm];exact j) (by rw[c];exact hn) (by rw[hm];exact d) (by rw[hm,c];exact b)
  rw[hm]at this;exact this
 | @step a i h f d b l=>
  have:=Reach.step (Z:=Z') (a:=a) (i:=i) l (by rw[k];exact f) (by rw[hm];exact d) (by rw[hm,c];exact b)
  rw[hm]at this;exact this
section
variable {Z:TZ} {g F0:Int} {fw:Int->Option Int} {al:List Int} {s:Sp} {sz:Int->Nat} {ks:List (Int×Value)}
def TZ.more(Z:TZ)(w:Int):TZ:={Z with V:=λv=>v=w\/Z.V v}
theorem aW.more(S:aW Z g F0){w:Int}(c:aC w)(b:Good Z.m Z.sz w):aW (Z.more w) g F0:=
 ⟨S.ok,S.even,S.sound,S.old,S.rng,S.room,λv a=>by
  rcases a with rfl | a
  ·exact⟨c,b⟩
  ·exact S.V v a⟩
theorem Tri.more(t:Tri Z F0 fw al s sz)(w:Int):Tri (Z.more w) F0 fw al s sz:=
 ⟨t.ok,t.even,t.heads,t.oldN,t.curO,(by obtain⟨c,h⟩:=t.cap;exact⟨c,h.free,h.none,h.le⟩),⟨t.olds.nodup,t.olds.mem⟩,t.al,λa b h=>by
  obtain⟨e,d⟩:=t.img a b h
  exact⟨e,d.fit,d.here,d.new,d.gen,d.kind,d.out,d.even⟩,t.inj,t.apart,t.sz0,t.szn,t.word,t.keep,t.cover,t.val,λa b h=>Reach.of (Z:=Z) (Z':=Z.more w) rfl rfl rfl (λv i=>Or.inr i) (t.reach a b h),λp f=>by
  have N:=t.pair p f
  exact⟨N.used,N.new,N.gen,N.kind,N.out,N.even,N.sz,N.q⟩,t.pnd,λx w h=>by
  have W:=t.qok x w h
  exact⟨W.used,W.out,W.strong,W.word,W.young,W.good,W.head,W.mark,W.tagged⟩,t.qwas,t.pim⟩
theorem Pend.more(p:Pend Z fw s ks)(w:Int):Pend (Z.more w) fw s ks:=⟨p.ok,p.here,p.pend⟩
theorem mH.done{w:Int}{f:Sp}{v:Int}{a:Int->Option Int}{b:List Int}{c:Int->Nat}(t:Tri Z F0 fw al s sz)(V:mH Z F0 fw s w f v a b c){x:Int}(e:s.mem.used x)(d:Z.O (x / 64).toNat=false)(h:Done Z fw s x):Done Z a f x:=
 h.keep t V.tri V.le e d (V.rest x e d)
theorem Tri.newT(t:Tri Z F0 fw al s sz){k:Sp}{d:Int->Option Int}{c:List Int}{f:Int->Nat}(l:Tri Z F0 d c k f){x:Int}(n:s.mem.used x)(hn: ¬k.mem.used x):s.mem.gAt x=Z.T:=by
 rcases t.cover x n with q | ⟨a,b,i,e,h,m⟩ | ⟨q,e,h⟩
 ·exact absurd (l.heads.used q) hn
 ·have j:=(t.img a b e).2
  have o:=j.fit
  unfold Mem.gAt
  rw[m,show(b+(i:Int)) / 64=b / 64 by omega];exact j.gen
 ·have N:=(l.pair q e).used
  rcases h with rfl | rfl
  ·exact absurd N.1 hn
  ·exact absurd N.2 hn
theorem Pend.visited{w:Int}{o:Sp}{v:Int}{b:Int->Option Int}{d:List Int}{m:Int->Nat}(t:Tri Z F0 fw al s sz)(p:Pend Z fw s ks)(V:mH Z F0 fw s w o v b d m):Pend Z b o ks:=by
 refine⟨p.ok,λk i q e f c=>V.heads.used (p.here k i q e f c),λx n c r=>?_⟩
 by_cases a:s.mem.used x
 ·have hk:=V.heads.l.kAt a
  have j:s.mem.strong x:=by unfold Mem.strong at*;rw[<-hk.1];exact r
  rcases p.pend x a c j with h | ⟨e,f⟩
  ·exact .inl (V.done t a c h)
  ·exact .inr ⟨hk.2.trans e,f⟩
 ·exact .inr ⟨V.tri.newT t n a,p.unseen n.1 c a⟩
def TZ.wrt(Z:TZ)(x w:Int):TZ:={Z with q:=λy=>if y=x then some w else Z.q y}
theorem aW.wrt(S:aW Z g F0)(x w:Int):aW (Z.wrt x w) g F0:=⟨S.ok,S.even,S.sound,S.old,S.rng,S.room,S.V⟩
theorem rp{x w y u:Int}(h:y≠x):Was (Z.wrt x w) fw y u ↔ Was Z fw y u:=by
 show((if y=x then some w else Z.q y)=some u\/((if y=x then some w else Z.q y)=none/\Was0 Z fw y u)) ↔ _
 rw[if_neg h];exact Iff.rfl
theorem pF{x w u:Int}:Was (Z.wrt x w) fw x u ↔ u=w:=by
 show((if x=x then some w else Z.q x)=some u\/((if x=x then some w else Z.q x)=none/\Was0 Z fw x u)) ↔ _
 rw[if_pos rfl]
 constructor
 ·rintro(h | ⟨h,_⟩)
  ·exact(Option.some.inj h).symm
  ·cases h
 ·rintro rfl;exact .inl rfl
theorem Tri.write(S:aW Z g F0)(t:Tri Z F0 fw al s sz){x w:Int}(G:s.mem.used x)(ho:Z.O (x / 64).toNat=false)(hs:s.mem.strong x)(hd:Done Z fw s x)(hh:sz x≠0->s.mem.kAt x<=1)(M:aC w)(C: ¬aG Z.O w)(Q:Good s.mem sz w)(Y:isTag w\/w=20):
  Tri (Z.wrt x w) F0 fw al {s with mem:=(s.mem.store x w).1} sz/\Done (Z.wrt x w) fw {s with mem:=(s.mem.store x w).1} x:=by
 have L:=Mem.store_headsL t.ok.mem (x:=x) M
 have f: ∀y,0<=y->(s.mem.store x w).1.get y=if y=x then w else s.mem.get y:=λy C=>Mem.store_get G y C
 have E: ∀y,Z.O (y / 64).toNat=true->y≠x:=λy C e=>by rw[e,ho]at C;cases C
 have B: ∀y,sz y≠0->s.mem.used y:=λy h=>t.sz_used S h
 have A: ∀y,(s.mem.store x w).1.strong y ↔ s.mem.strong y:=λy=>by unfold Mem.strong;rw[(Mem.store_kAt y).1]
 obtain⟨c,j⟩:=t.cap
 refine⟨⟨t.ok.store x M,Mem.store_even t.even x w,t.heads.trans L,λk V X=>?_,t.curO,⟨c,?_,j.none,λk U=>?_⟩,⟨t.olds.nodup,t.olds.mem⟩,t.al,λa b r=>?_,t.inj,t.apart,t.sz0,t.szn,λa b r=>?_,λy z J a0=>?_,λy z=>t.cover y (Mem.store_used.1 z),λy u m=>?_,λa b h=>Reach.of (Z:=Z) (Z':=Z.wrt x w) rfl rfl rfl (λv I=>I) (t.reach a b h),λp hp=>?_,t.pnd,λy v l=>?_,λy v l I=>?_,t.pim⟩,λu H=>?_⟩
 ·show((s.mem.store x w).1.seg k).n=_
  rw[(Mem.store_seg k).2.2];exact t.oldN k V X
 ·show(s.mem.store x w).1.free+_=_
  rw[Mem.store_lim.2.1];exact j.free
 ·have:=j.le k U
  have e:({s with mem:=(s.mem.store x w).1}:Sp).fill Z.T k=s.fill Z.T k:=by
   unfold Sp.fill
   show(if s.cur Z.T.toNat k=0 then 0 else((s.mem.store x w).1.seg _).n)=_
   rw[(Mem.store_seg _).2.2]
  show _+({s with mem:=(s.mem.store x w).1}:Sp).fill Z.T k<=_
  rw[e];exact this
 ·obtain⟨h1,D⟩:=t.img a b r
  exact⟨h1,D.fit,λi hi=>Mem.store_used.2 (D.here i hi),D.new,(Mem.store_kAt b).2.trans D.gen,(Mem.store_kAt b).1.trans D.kind,D.out,D.even⟩
 ·have ha:=t.olds.mem a ((t.al a).2 ⟨b,r⟩)
  show(s.mem.store x w).1.get a=_
  rw[f a (S.sound.used a ha.1).1.1,if_neg (E a ha.2)];exact t.word a b r
 ·show(s.mem.store x w).1.get y=_
  rw[f y z.1,if_neg (E y J)];exact t.keep y z J a0
 ·show(s.mem.store x w).1.get y=u\/_
  by_cases d:y=x
  ·subst d
   rw[pF]at m
   rw[f y G.1,if_pos rfl];exact .inl m.symm
  ·rw[rp d]at m
   rw[f y (t.usedOf m).1.1,if_neg d]
   rcases t.val y u m with q | ⟨P,K,q3⟩
   ·exact .inl q
   ·exact .inr ⟨(A y).2 P,K,q3⟩
 ·have N:=(t.pair p hp).keep (s':={s with mem:=(s.mem.store x w).1}) L (λ_ _=>rfl)
  refine⟨N.used,N.new,N.gen,N.kind,N.out,N.even,N.sz,?_,?_⟩
  ·show(if p=x then some w else Z.q p)≠none
   split
   ·simp
   ·exact N.q.1
  ·show(if p+1=x then some w else Z.q (p+1))≠none
   split
   ·simp
   ·exact N.q.2
 ·have l:(if y=x then some w else Z.q y)=some v:=l
  by_cases d:y=x
  ·rw[if_pos d]at l
   cases l
   subst d
   have ht:isTag w->s.mem.used (w / 8):=λq=>B _ (Q.2 q).1
   have R:=nt L ht
   refine⟨Mem.store_used.2 G,ho,(A y).2 hs,M,C,⟨Q.1,λq=>by rw[(Mem.store_kAt _).1];exact Q.2 q⟩,λq=>by rw[(Mem.store_kAt _).1];exact hh q,λP K=>?_,Y⟩
   rw[R]at P K⊢
   rw[(Mem.store_kAt _).2]at K
   show((s.mem.store y w).1.seg _).cards _<=_
   rw[Mem.store_cards t.ok.mem G M,if_pos ⟨rfl,rfl⟩]
   unfold Mem.younger
   rw[if_pos ⟨P,hs.1,K⟩]
   exact Int.min_le_right _ _
  ·rw[if_neg d]at l
   have W:=(t.qok y v l).keep (s':={s with mem:=(s.mem.store x w).1}) L B (λ_ _=>rfl)
   exact⟨W.used,W.out,W.strong,W.word,W.young,W.good,W.head,W.mark,W.tagged⟩
 ·by_cases d:y=x
  ·subst d
   by_cases F:Z.q y=none
   ·exact(hd v (.inr ⟨F,I⟩)).1
   ·exact t.qwas y v F I
  ·have l:(if y=x then some w else Z.q y)≠none:=l
   rw[if_neg d]at l
   exact t.qwas y v l I
 ·rw[pF]at H
  subst H
  refine⟨λo=>absurd o C,?_⟩
  show(s.mem.store x u).1.get x=Fw Z.O fw u
  rw[f x G.1,if_pos rfl,ft C]
theorem Done.wrt(t:Tri Z F0 fw al s sz){x w y:Int}(f:s.mem.used x)(b:s.mem.used y)(a:y≠x)(h:Done Z fw s y):Done (Z.wrt x w) fw {s with mem:=(s.mem.store x w).1} y:=λv c=>by
 rw[rp a]at c
 obtain⟨d,e⟩:=h v c
 refine⟨d,?_⟩
 show(s.mem.store x w).1.get y=_
 rw[Mem.store_get f y b.1,if_neg a];exact e
theorem Pend.write(S:aW Z g F0)(t:Tri Z F0 fw al s sz)(p:Pend Z fw s ks){x w:Int}(q:s.mem.used x)(n:Done (Z.wrt x w) fw {s with mem:=(s.mem.store x w).1} x):Pend (Z.wrt x w) fw {s with mem:=(s.mem.store x w).1} ks:=by
 refine⟨p.ok,λk i l d e f=>Mem.store_used.2 (p.here k i l d e f),λy r f o=>?_⟩
 have b:s.mem.used y:=Mem.store_used.1 r
 by_cases c:y=x
 ·rw[c];exact .inl n
 ·have j:s.mem.strong y:=by unfold Mem.strong at*;rw[<-(Mem.store_kAt (m:=s.mem) (a:=x) (w:=w) y).1];exact o
  rcases p.pend y b f j with h | ⟨d,e⟩
  ·exact .inl (h.wrt t q b c)
  ·exact .inr ⟨(Mem.store_kAt y).2.trans d,e⟩
def TZ.putP(Z:TZ)(p a d:Int):TZ:={Z with q:=λy=>if y=p then some a else if y=p+1 then some d else Z.q y,P:=p::Z.P}
theorem aW.putP(S:aW Z g F0){p a d:Int}(h:2*((Z.yk 0:Int)+Z.yk 1+Z.yk 2+Z.yk 3)+8+(((Z.P.length+1) / 32:Nat):Int)<=F0):aW (Z.putP p a d) g F0:=⟨S.ok,S.even,S.sound,S.old,S.rng,h,S.V⟩
theorem pG{p a d y u:Int}(h:y≠p/\y≠p+1):Was (Z.putP p a d) fw y u ↔ Was Z fw y u:=by
 show((if y=p then some a else if y=p+1 then some d else Z.q y)=some u\/((if y=p then some a else if y=p+1 then some d else Z.q y)=none/\Was0 Z fw y u)) ↔ _
 rw[if_neg h.1,if_neg h.2];exact Iff.rfl
theorem ov{p a d y u:Int}(h:y=p\/y=p+1):Was (Z.putP p a d) fw y u ↔ u=if y=p then a else d:=by
 show((if y=p then some a else if y=p+1 then some d else Z.q y)=some u\/((if y=p then some a else if y=p+1 then some d else Z.q y)=none/\Was0 Z fw y u)) ↔ _
 have e:(if y=p then some a else if y=p+1 then some d else Z.q y)=some (if y=p then a else d):=by
  by_cases b:y=p
  ·rw[if_pos b,if_pos b]
  ·rw[if_neg b,if_neg b,if_pos (h.resolve_left b)]
 rw[e]
 constructor
 ·rintro(h | ⟨h,_⟩)
  ·exact(Option.some.inj h).symm
  ·cases h
 ·rintro rfl;exact .inl rfl
structure PutP (Z:TZ) (F0:Int) (fw:Int->Option Int) (al:List Int) (s:Sp) (sz:Int->Nat) (a d p:Int) (s':Sp) (sz':Int->Nat):Prop where
 tri:Tri (Z.putP p a d) F0 fw al s' sz'
 heads:eK s.mem s'.mem
 get: ∀x,s.mem.used x->s'.mem.get x=s.mem.get x
 szo: ∀y,s.mem.used y->sz' y=sz y
 new: ¬s.mem.used p/\ ¬s.mem.used (p+1)
 used: ∀x,s'.mem.used x ↔ s.mem.used x\/x=p\/x=p+1
 car:s'.mem.get p=a
 cdr:s'.mem.get (p+1)=d
 word:aC (p*8+1)/\Good s'.mem sz' (p*8+1)/\ ¬aG Z.O (p*8+1)/\p*8+1≠20
theorem Tri.putP(S:aW Z g F0)(t:Tri Z F0 fw al s sz){a d:Int}(ha:aC a)(hd:aC d)(ap: ¬aG Z.O a)(au: ¬aG Z.O d)(aj:Good s.mem sz a)(ak:Good s.mem sz d)(aT:isTag a\/a=20)(aU:isTag d\/d=20){p:Int}{s':Sp}{m:Mem}
  (a0:(s.alloc Z.T 0 2).2.2=0) (hp:(s.alloc Z.T 0 2).2.1=p) (an:(s.alloc Z.T 0 2).1=s') (hm:m=s'.mem.sets p [a,d]):PutP Z F0 fw al s sz a d p {s' with mem:=m} (λx=>if x=p then 2 else sz x):=by
 obtain⟨aw,K⟩:=Sp.alloc_ok t.ok a0
 obtain⟨ev,af⟩:=K.even t.even (λ_=>by decide)
 rw[hp]at K af
 obtain⟨c,ah⟩:=t.cap
 have sm:aY s'.mem m:=by rw[hm];exact aY.sets _ _ _
 obtain⟨c',Q⟩:=ah.put (Z':=Z.putP p a d) t.ok t.even (m:=m) a0 (by rw[an];exact sm) rfl (λ_=>rfl) rfl
 have ai:=Sp.alloc_curS t.ok a0
 have Y:=Sp.alloc_addr t.ok a0
 rw[hp]at Y
 rw[an]at aw K ev ai Y Q
 have b7:=t.ok.mem.lim
 obtain⟨b4,a1,bp⟩:=K.addr
 have aS:=af (by decide)
 have ae:(p+1) / 64=p / 64:=by omega
 have b:eK s.mem m:=(K.heads (by omega)).trans sm.heads
 have a3: ∀k:Nat,k<1024->(s.mem.seg k).taken=0->Z.O k=false:=λk hk h0=>by
  by_cases L:Z.O k=true
  ·have:=((S.old k hk).1 L).1.2.2
   rw[show((k:Nat):Int).toNat=k by omega]at this
   have f:=(t.heads.seg k this).2.2.1
   rw[h0]at f;exact absurd f.symm this
  ·simpa using L
 have R: ∀k,k<4->s'.cur Z.T.toNat k≠0->Z.O (s'.cur Z.T.toNat k-1).toNat=false:=λk hk h0=>by
  rcases ai k h0 with e | ⟨e1,e2⟩
  ·rw[e]at h0⊢;exact t.curO k hk h0
  ·exact a3 _ (by omega) e1
 have E:Z.O (p / 64).toNat=false:=by
  rw[Y.1];exact R _ (by decide) Y.2
 have b0: ∀i:Nat,i<2->s'.mem.used (p+i):=λi hi=>(K.usedIff (by omega)).2 (.inr (by omega))
 have J: ∀x,0<=x->m.get x=if x=p then a else if x=p+1 then d else s'.mem.get x:=λx u=>by
  rw[hm,Mem.sets_get _ x u b4 (λi hi=>b0 i (by simpa using hi))]
  by_cases z:x=p
  ·rw[if_pos z,if_pos (by simp;omega),z];simp
  ·by_cases f:x=p+1
   ·rw[if_neg z,if_pos f,if_pos (by simp;omega),f,show(p+1-p).toNat=1 by omega];rfl
   ·rw[if_neg z,if_neg f,if_neg (by simp;omega)]
 have A: ¬s.mem.used p/\ ¬s.mem.used (p+1):=⟨λh=>K.not_in h (by omega),λh=>K.not_in h (by omega)⟩
 have C: ∀x,s.mem.used x->x≠p/\x≠p+1:=λx u=>⟨λe=>A.1 (e▸u),λe=>A.2 (e▸u)⟩
 have D: ∀x,s.mem.used x->m.get x=s.mem.get x:=λx u=>by
  rw[J x u.1,if_neg (C x u).1,if_neg (C x u).2,K.get u]
 have j: ∀x,m.used x ↔ s.mem.used x\/x=p\/x=p+1:=λx=>by
  rw[sm.used,K.usedIff (by omega)]
  exact⟨λh=>by rcases h with h | h;exact .inl h;exact .inr (by omega),λh=>by rcases h with h | h;exact .inl h;exact .inr (by omega)⟩
 have a5:m.used p/\m.used (p+1):=⟨(j p).2 (.inr (.inl rfl)),(j _).2 (.inr (.inr rfl))⟩
 have H:m.kAt p=0/\m.gAt p=Z.T:=⟨((sm.seg _).2.1).trans K.new.2.2.1,((sm.seg _).1).trans K.new.2.1⟩
 have U:m.kAt (p+1)=0/\m.gAt (p+1)=Z.T:=by unfold Mem.kAt Mem.gAt;rw[ae];exact H
 have G: ∀y,s.mem.used y->(λx=>if x=p then 2 else sz x) y=sz y:=λy I=>if_neg (C y I).1
 have B: ∀y,sz y≠0->s.mem.used y:=λy h=>t.sz_used S h
 have bi:sz p=0/\sz (p+1)=0:=⟨by
  by_cases h:sz p=0
  ·exact h
  ·exact absurd (B _ h) A.1,by
  by_cases h:sz (p+1)=0
  ·exact h
  ·exact absurd (B _ h) A.2⟩
 have a4: ∀x,Z.m.used x->x≠p/\x≠p+1:=λx u=>C x (t.heads.used u)
 have a2: ∀v,Good s.mem sz v->Good m (λx=>if x=p then 2 else sz x) v:=λv hv=>⟨hv.1,λaZ=>by
  obtain⟨z,f⟩:=hv.2 aZ
  have M:=B _ z
  have e:(λx=>if x=p then 2 else sz x) (v / 8)=sz (v / 8):=G _ M
  rw[e,(b.l.kAt M).1]
  exact⟨z,f⟩⟩
 have F:m.strong p/\m.strong (p+1):=by
  unfold Mem.strong
  rw[H.1,U.1];exact⟨⟨by decide,.inl (by decide)⟩,⟨by decide,.inl (by decide)⟩⟩
 have a8: ∀x,sz x≠0-> ∀i:Nat,i<sz x->s.mem.used (x+i):=λx u i hi=>by
  rcases t.szn x u with q | ⟨a',q⟩ | q
  ·have e:=t.sz0 x q
   rw[e]at u hi
   exact t.heads.used (S.sound.usedAt u hi (λk=>(S.ok.seg k).n.2)).1
  ·obtain⟨f,aL⟩:=t.img a' x q
   exact aL.here i (by omega)
  ·have N:=t.pair x q
   rw[N.sz]at hi
   rcases(show i=0\/i=1 by omega)with rfl | rfl
   ·simpa using N.used.1
   ·exact N.used.2
 have X: ∀v,Good s.mem sz v-> ¬aG Z.O v->(m.genOf v).2=true-> ¬(m.genOf v).1<Z.T:=λv hv I z f=>by
  unfold Mem.genOf at z f
  by_cases V:fC v/\v % 8≠6
  ·rw[if_pos V]at z f
   have ht:isTag v:=by have:=V.1.1;have:=V.2;unfold isTag;omega
   have M:=B _ (hv.2 ht).1
   have b1:=b.used M
   simp only[if_pos b1.2.1]at f
   have L:Z.O (v / 8 / 64).toNat=false:=by
    by_cases q:Z.O (v / 8 / 64).toNat=true
    ·exact absurd ⟨V.1,V.2,q⟩ I
    ·simpa using q
   have h3:=t.gAtT S M L
   have h4:=(b.l.kAt M).2
   have h5:m.gAt (v / 8)<Z.T:=f
   omega
  ·rw[if_neg V]at z;cases z
 have wr: ∀x v,(x=p/\v=a\/x=p+1/\v=d)->Wrt (Z.putP p a d) {s' with mem:=m} (λx=>if x=p then 2 else sz x) x v:=λx v h=>by
  rcases h with⟨rfl,rfl⟩ | ⟨rfl,rfl⟩
  ·exact⟨a5.1,E,F.1,ha,ap,a2 _ aj,λ_=>by show m.kAt x<=1;rw[H.1];decide,λq1 q2=>absurd (by rw[<-H.2];exact q2) (X v aj ap q1),aT⟩
  ·exact⟨a5.2,by show Z.O _=false;rw[ae];exact E,F.2,hd,au,a2 _ ak,λ_=>by show m.kAt (p+1)<=1;rw[U.1];decide,λq1 q2=>absurd (by rw[<-U.2];exact q2) (X v ak au q1),aU⟩
 have aa: ∀{x v},Was0 Z fw x v->s.mem.used x:=λh=>(t.used0 h).1
 have az:Tri (Z.putP p a d) F0 fw al {s' with mem:=m} (λx=>if x=p then 2 else sz x):=by
  refine⟨?_,sm.even ev,t.heads.trans b.l,λk hk L=>?_,R,⟨c',Q⟩,⟨t.olds.nodup,t.olds.mem⟩,t.al,λx y h=>?_,t.inj,λx y u I b3=>?_,λx u=>?_,λy I=>?_,λx y h=>?_,λx u L h=>?_,λx u=>?_,λx v h=>?_,λx y h=>Reach.of (Z:=Z) (Z':=Z.putP p a d) rfl rfl rfl (λv hv=>hv) (t.reach x y h),λr hr=>?_,?_,λx v h=>?_,λx v V h=>?_,λx y h hp=>?_⟩
  ·have:=aw.sets p (ws:=[a,d]) (by intro w hw;simp at hw;rcases hw with rfl | rfl<;>assumption)
   rw[hm];exact this
  ·show(m.seg k).n=_
   rw[(sm.seg k).2.2.1]
   have am:k≠(p / 64).toNat:=λe=>by
    have L:Z.O k=true:=L
    rw[e,E]at L;cases L
   rw[K.others k am];exact t.oldN k hk L
  ·obtain⟨z,f⟩:=t.img x y h
   have bj:=(t.olds.mem x ((t.al x).2 ⟨y,h⟩)).1
   have a7:s.mem.used y:=by simpa using f.here 0 (by omega)
   exact⟨(G y a7).trans z,f.fit,λi hi=>(j _).2 (.inl (f.here i hi)),f.new,(b.l.kAt a7).2.trans f.gen,(b.l.kAt a7).1.trans f.kind,f.out,f.even⟩
  ·have u:(if x=p then 2 else sz x)≠0:=u
   have I:(if y=p then 2 else sz y)≠0:=I
   show x+((if x=p then 2 else sz x:Nat):Int)<=y
   by_cases z:x=p
   ·rw[if_neg (show y≠p by omega)]at I
    rw[if_pos z]
    have:=C y (B y I)
    omega
   ·rw[if_neg z]at u⊢
    by_cases f:y=p
    ·rcases Int.lt_or_le p (x+sz x)with b8 | b6
     ·have:=a8 x u (p-x).toNat (by omega)
      rw[show x+((p-x).toNat:Int)=p by omega]at this
      exact absurd this A.1
     ·omega
    ·rw[if_neg f]at I
     exact t.apart x y u I b3
  ·show(if x=p then 2 else sz x)=_
   rw[if_neg (a4 x u).1];exact t.sz0 x u
  ·have I:(if y=p then 2 else sz y)≠0:=I
   show Z.m.used y\/_\/y∈p::Z.P
   by_cases av:y=p
   ·exact .inr (.inr (by rw[av];simp))
   ·rw[if_neg av]at I
    rcases t.szn y I with q | q | q
    ·exact .inl q
    ·exact .inr (.inl q)
    ·exact .inr (.inr (List.mem_cons_of_mem _ q))
  ·have b2:=(t.olds.mem x ((t.al x).2 ⟨y,h⟩)).1
   show m.get x=_
   rw[D x (t.heads.used (S.sound.used x b2).1)];exact t.word x y h
  ·show m.get x=_
   rw[D x (t.heads.used u)];exact t.keep x u L h
  ·show Z.m.used x\/_\/ ∃r∈p::Z.P,_
   rcases(j x).1 u with q | q
   ·rcases t.cover x q with r | r | ⟨r,r1,r2⟩
    ·exact .inl r
    ·exact .inr (.inl r)
    ·exact .inr (.inr ⟨r,List.mem_cons_of_mem _ r1,r2⟩)
   ·exact .inr (.inr ⟨p,by simp,q⟩)
  ·show m.get x=v\/_
   by_cases ao:x=p\/x=p+1
   ·rw[ov ao]at h
    left
    rw[J x (by omega),h]
    by_cases z:x=p
    ·rw[if_pos z,if_pos z]
    ·rw[if_neg z,if_neg z,if_pos (ao.resolve_left z)]
   ·rw[pG (by omega)]at h
    have M:=(t.usedOf h).1
    rw[D x M]
    rcases t.val x v h with q | ⟨q1,q2,q3⟩
    ·exact .inl q
    ·refine .inr ⟨?_,q2,q3⟩
     show m.strong x
     unfold Mem.strong at*;rw[(b.l.kAt M).1];exact q1
  ·have hr:r∈p::Z.P:=hr
   rcases List.mem_cons.1 hr with rfl | hr
   ·refine⟨a5,⟨λh=>(a4 _ h).1 rfl,λh=>(a4 _ h).2 rfl⟩,H.2,H.1,E,aS,if_pos rfl,?_,?_⟩
    ·show(if r=r then some a else _)≠none
     rw[if_pos rfl];simp
    ·show(if r+1=r then some a else if r+1=r+1 then some d else _)≠none
     rw[if_neg (by omega),if_pos rfl];simp
   ·have N:=(t.pair r hr).keep (s':={s' with mem:=m}) b.l G
    have n1:=C _ (t.pair r hr).used.1
    have n2:=C _ (t.pair r hr).used.2
    refine⟨N.used,N.new,N.gen,N.kind,N.out,N.even,N.sz,?_,?_⟩
    ·show(if r=p then some a else if r=p+1 then some d else Z.q r)≠none
     rw[if_neg n1.1,if_neg n1.2];exact N.q.1
    ·show(if r+1=p then some a else if r+1=p+1 then some d else Z.q (r+1))≠none
     rw[if_neg n2.1,if_neg n2.2];exact N.q.2
  ·show(p::Z.P).Nodup
   rw[List.nodup_cons]
   exact⟨λh=>A.1 (t.pair p h).used.1,t.pnd⟩
  ·have h:(if x=p then some a else if x=p+1 then some d else Z.q x)=some v:=h
   by_cases z:x=p
   ·rw[if_pos z]at h;cases h;exact wr x _ (.inl ⟨z,rfl⟩)
   ·rw[if_neg z]at h
    by_cases f:x=p+1
    ·rw[if_pos f]at h;cases h;exact wr x _ (.inr ⟨f,rfl⟩)
    ·rw[if_neg f]at h
     have W:=(t.qok x v h).keep (s':={s' with mem:=m}) b.l B G
     exact⟨W.used,W.out,W.strong,W.word,W.young,W.good,W.head,W.mark,W.tagged⟩
  ·have M:=aa h
   have V:(if x=p then some a else if x=p+1 then some d else Z.q x)≠none:=V
   rw[if_neg (C x M).1,if_neg (C x M).2]at V
   exact t.qwas x v V h
  ·have hz:=(t.olds.mem x ((t.al x).2 ⟨y,h⟩)).1
   rcases List.mem_cons.1 hp with e | hp
   ·have:=(t.img x y h).2.here 0 (by omega)
    rw[e]at this
    exact A.1 (by simpa using this)
   ·exact t.pim x y h hp
 refine⟨az,b,D,G,A,j,?_,?_,⟨⟨by omega,by omega⟩,⟨by omega,λ_=>?_⟩,λo=>?_,by omega⟩⟩
 ·show m.get p=a
  rw[J p b4,if_pos rfl]
 ·show m.get (p+1)=d
  rw[J (p+1) (by omega),if_neg (by omega),if_pos rfl]
 ·rw[show(p*8+1) / 8=p by omega,show(p*8+1) % 8=1 by omega]
  show(if p=p then 2 else sz p)≠0/\1=tagK (m.kAt p)
  rw[if_pos rfl,H.1]
  exact⟨by decide,rfl⟩
 ·have:=o.2.2
  rw[show(p*8+1) / 8=p by omega,E]at this
  cases this
theorem PutP.done(t:Tri Z F0 fw al s sz){a d p:Int}{i:Sp}{c:Int->Nat}(h:PutP Z F0 fw al s sz a d p i c){y:Int}(b:s.mem.used y)(l:Done Z fw s y):Done (Z.putP p a d) fw i y:=λv f=>by
 have hn:y≠p/\y≠p+1:=⟨λe=>h.new.1 (e▸b),λe=>h.new.2 (e▸b)⟩
 rw[pG hn]at f
 obtain⟨j,k⟩:=l v f
 exact⟨j,by rw[h.get y b];exact k⟩
theorem PutP.doneN(S:aW Z g F0){a d p:Int}{i:Sp}{e:Int->Nat}(h:PutP Z F0 fw al s sz a d p i e){y:Int}(f:y=p\/y=p+1):Done (Z.putP p a d) fw i y:=λv c=>by
 have j:(Z.putP p a d).q y=some v:=by
  rw[ov f]at c
  show(if y=p then some a else if y=p+1 then some d else Z.q y)=some v
  rw[c]
  by_cases b:y=p
  ·rw[if_pos b,if_pos b]
  ·rw[if_neg b,if_neg b,if_pos (f.resolve_left b)]
 have W:=h.tri.qok y v j
 refine⟨λo=>absurd o W.young,?_⟩
 rw[ft W.young]
 rcases h.tri.val y v c with q | ⟨_,_,q⟩
 ·exact q
 ·rw[q,ft W.young]
theorem Pend.putP(S:aW Z g F0)(t:Tri Z F0 fw al s sz)(q:Pend Z fw s ks){a d p:Int}{m:Sp}{j:Int->Nat}(h:PutP Z F0 fw al s sz a d p m j):Pend (Z.putP p a d) fw m ks:=by
 refine⟨q.ok,λk i n o u e=>h.heads.used (q.here k i n o u e),λy w e v=>?_⟩
 by_cases c:y=p\/y=p+1
 ·exact .inl (h.doneN S c)
 ·have b:s.mem.used y:=((h.used y).1 w).resolve_right c
  have hk:=h.heads.l.kAt b
  have f:s.mem.strong y:=by unfold Mem.strong at*;rw[<-hk.1];exact v
  rcases q.pend y b e f with r | ⟨x,z⟩
  ·exact .inl (h.done t b r)
  ·exact .inr ⟨hk.2.trans x,z⟩
end
section
variable {Z:TZ} {g F0:Int} {fw:Int->Option Int} {al:List Int} {s:Sp} {sz:Int->Nat} {ks:List (Int×Value)}
theorem Tri.places(S:aW Z g F0)(t:Tri Z F0 fw al s sz){a:Int}(h:sz a≠0){i:Nat}(b:i<sz a):s.mem.used (a+i)/\(a+i) / 64=a / 64/\(a+i) % 64=a % 64+i:=by
 rcases t.szn a h with q | ⟨d,q⟩ | q
 ·have e:=t.sz0 a q
  rw[e]at h b
  have:=S.sound.usedAt h b (λk=>(S.ok.seg k).n.2)
  exact⟨t.heads.used this.1,this.2⟩
 ·obtain⟨j,c⟩:=t.img d a q
  have m:=c.fit
  exact⟨c.here i (by omega),by omega,by omega⟩
 ·have N:=t.pair a q
  have f:=N.used.1.1
  have l:=N.even
  rw[N.sz]at b
  refine⟨?_,by omega,by omega⟩
  rcases(show i=0\/i=1 by omega)with rfl | rfl
  ·simpa using N.used.1
  ·exact N.used.2
theorem Tri.pairs(S:aW Z g F0)(t:Tri Z F0 fw al s sz){a:Int}(h:sz a≠0)(hk:s.mem.kAt a<=1):sz a=2/\a % 2=0:=by
 rcases t.szn a h with q | ⟨c,q⟩ | q
 ·have e:=t.sz0 a q
  rw[e]at h⊢
  exact S.sound.two a h (by rw[<-(t.kAt q).1];exact hk)
 ·obtain⟨d,f⟩:=t.img c a q
  have b:Z.m.kAt c<=1:=by rw[<-f.kind];exact hk
  rw[d]
  exact⟨(S.sound.two c (by rw[<-d];exact h) b).1,f.even b⟩
 ·exact⟨(t.pair a q).sz,(t.pair a q).even⟩
theorem Tri.obj(S:aW Z g F0)(t:Tri Z F0 fw al s sz){a:Int}(h:sz a≠0)(n:Z.O (a / 64).toNat=false)(k:2<=s.mem.kAt a):gJ (s.mem.get a)/\s.mem.kAt a=rawK (hk (s.mem.get a))/\(sz a:Int)=hn (s.mem.get a)+1:=by
 have d:Z.q a=none:=by
  cases d:Z.q a with
  | none=>rfl
  | some w=>have:=(t.qok a w d).head h;omega
 have key: ∀v,Was0 Z fw a v->gJ v->s.mem.get a=v:=λv o m=>by
  rcases t.val a v (.inr ⟨d,o⟩)with e | ⟨_,_,e⟩
  ·exact e
  ·rw[e,ft (jh m _)]
 rcases t.szn a h with q | ⟨c,q⟩ | q
 ·have e:=t.sz0 a q
  have hk:=(t.kAt q).1
  obtain⟨b,f,i⟩:=S.sound.obj a (by rw[<-e];exact h) (by rw[<-hk];exact k)
  rw[key _ (.inl ⟨q,n,rfl⟩) b,hk,e]
  exact⟨b,f,i⟩
 ·obtain⟨j,l⟩:=t.img c a q
  obtain⟨b,f,i⟩:=S.sound.obj c (by rw[<-j];exact h) (by rw[<-l.kind];exact k)
  rw[key _ (.inr ⟨c,a,0,q,by omega,by simp,by simp⟩) b,l.kind,j]
  exact⟨b,f,i⟩
 ·have:=(t.pair a q).kind;omega
theorem Tri.alone(t:Tri Z F0 fw al s sz){a:Int}(h:sz a≠0){i:Nat}(c:0<i)(d:i<sz a):sz (a+i)=0:=by
 by_cases b:sz (a+i)=0
 ·exact b
 ·have:=t.apart a (a+i) h b (by omega);omega
theorem Tri.outOf(S:aW Z g F0)(t:Tri Z F0 fw al s sz){w:Int}(d:Good s.mem sz w)(e: ¬aG Z.O w)(a:isTag w):Z.O (w / 8 / 64).toNat=false/\fC w/\s.mem.used (w / 8):=by
 have b:=t.sz_used S (d.2 a).1
 have i:=t.ok.mem.lim
 have h:=b.2.1.2.1
 have f:=b.1
 have c:fC w:=⟨by unfold isTag at a;omega,by omega⟩
 refine⟨?_,c,b⟩
 by_cases q:Z.O (w / 8 / 64).toNat=true
 ·exact absurd ⟨c,by unfold isTag at a;omega,q⟩ e
 ·simpa using q
theorem Tri.isPair(S:aW Z g F0)(t:Tri Z F0 fw al s sz){w:Int}(i:Good s.mem sz w)(n: ¬aG Z.O w):s.mem.isPair w ↔ w % 8=1\/w % 8=2:=by
 constructor
 ·intro m
  rcases m.1 with q | q
  ·exact .inl q.2.1
  ·exact .inr q.2.1
 ·intro h
  have j:isTag w:=by unfold isTag;omega
  obtain⟨k,a⟩:=i.2 j
  obtain⟨_,f,d⟩:=t.outOf S i n j
  unfold tagK at a
  have e:s.mem.kAt (w / 8)<=1:=by
   by_cases b:s.mem.kAt (w / 8)=0
   ·omega
   ·rw[if_neg b]at a
    by_cases c:s.mem.kAt (w / 8)=1
    ·omega
    ·rw[if_neg c]at a;omega
  have l:=(t.pairs S k e).2
  refine⟨?_,l⟩
  by_cases b:s.mem.kAt (w / 8)=0
  ·rw[if_pos b]at a;exact .inl ⟨f,a,d.2.1,b,d.2.2⟩
  ·rw[if_neg b]at a
   by_cases c:s.mem.kAt (w / 8)=1
   ·rw[if_pos c]at a;exact .inr ⟨f,a,d.2.1,c,d.2.2⟩
   ·rw[if_neg c]at a;omega
theorem Tri.cdrAt(S:aW Z g F0)(t:Tri Z F0 fw al s sz){w:Int}(f:Good s.mem sz w)(n: ¬aG Z.O w)(h:w % 8=1\/w % 8=2):s.mem.used (w / 8+1)/\Z.O ((w / 8+1) / 64).toNat=false/\s.mem.strong (w / 8+1)/\sz (w / 8+1)=0/\s.mem.kAt (w / 8+1)<=1:=by
 have j:isTag w:=by unfold isTag;omega
 obtain⟨b,c⟩:=f.2 j
 obtain⟨m,q,r⟩:=t.outOf S f n j
 have e:=(t.ok.mem.seg (w / 8 / 64).toNat).kind
 have e:0<=s.mem.kAt (w / 8)/\s.mem.kAt (w / 8)<=3:=e
 have a:s.mem.kAt (w / 8)<=1:=by
  unfold tagK at c
  by_cases o:s.mem.kAt (w / 8)=0
  ·omega
  ·rw[if_neg o]at c
   by_cases p:s.mem.kAt (w / 8)=1
   ·omega
   ·rw[if_neg p]at c;omega
 obtain⟨u,v⟩:=t.pairs S b a
 obtain⟨k,d,x⟩:=t.places S b (i:=1) (by omega)
 have l:w / 8+((1:Nat):Int)=w / 8+1:=rfl
 rw[l]at k d
 have hk:s.mem.kAt (w / 8+1)=s.mem.kAt (w / 8):=by unfold Mem.kAt;rw[d]
 refine⟨k,by rw[d];exact m,?_,t.alone b (i:=1) (by decide) (by omega),by rw[hk];exact a⟩
 unfold Mem.strong
 rw[hk]
 exact⟨by omega,.inr (by omega)⟩
structure GdAt (Z:TZ) (s:Sp) (sz:Int->Nat) (gd:Int):Prop where
 tag:gd % 8=3
 three:sz (gd / 8)=3
 kind:s.mem.kAt (gd / 8)=2
 out:Z.O (gd / 8 / 64).toNat=false
 used: ∀i:Nat,i<3->s.mem.used (gd / 8+i)/\(gd / 8+i) / 64=gd / 8 / 64
 alone: ∀i:Nat,0<i->i<3->sz (gd / 8+i)=0
 head:gJ (s.mem.get (gd / 8))/\hk (s.mem.get (gd / 8))=10/\hn (s.mem.get (gd / 8))=2
theorem GdAt.strong{a:Int}(h:GdAt Z s sz a){i:Nat}(b:i<3):s.mem.kAt (a / 8+i)=2/\s.mem.strong (a / 8+i)/\Z.O ((a / 8+i) / 64).toNat=false:=by
 have e:=(h.used i b).2
 have hk:s.mem.kAt (a / 8+i)=2:=by unfold Mem.kAt;rw[e];exact h.kind
 refine⟨hk,?_,by rw[e];exact h.out⟩
 unfold Mem.strong
 rw[hk];exact⟨by decide,.inl (by decide)⟩
theorem Tri.gdAt(S:aW Z g F0)(t:Tri Z F0 fw al s sz){a:Int}(h:Good s.mem sz a)(p: ¬aG Z.O a)(n:a % 8=3)(d:hk (s.mem.get (a / 8))=10/\hn (s.mem.get (a / 8))=2):GdAt Z s sz a:=by
 have k:isTag a:=by unfold isTag;omega
 obtain⟨c,b⟩:=h.2 k
 obtain⟨j,z,A⟩:=t.outOf S h p k
 have y:0<=s.mem.kAt (a / 8)/\s.mem.kAt (a / 8)<=3:=(t.ok.mem.seg (a / 8 / 64).toNat).kind
 have e:2<=s.mem.kAt (a / 8):=by
  unfold tagK at b
  by_cases l:s.mem.kAt (a / 8)=0
  ·rw[if_pos l]at b;omega
  ·rw[if_neg l]at b
   by_cases v:s.mem.kAt (a / 8)=1
   ·rw[if_pos v]at b;omega
   ·omega
 obtain⟨q,r,u⟩:=t.obj S c j e
 rw[d.2]at u
 have f:sz (a / 8)=3:=by omega
 exact⟨n,f,by rw[r,d.1];rfl,j,λi o=>by
  obtain⟨w,x,_⟩:=t.places S c (i:=i) (by omega)
  exact⟨w,x⟩,λi m o=>t.alone c m (by omega),q,d⟩
theorem GdAt.isObj(t:Tri Z F0 fw al s sz){a:Int}(h:GdAt Z s sz a):s.mem.isObj a/\s.mem.typ a=10/\s.mem.len a=2:=by
 have c:s.mem.used (a / 8):=by simpa using(h.used 0 (by decide)).1
 obtain⟨f,e⟩:=h.used 2 (by decide)
 have k:=t.ok.mem.lim
 have j:=c.2.1.2.1
 have i:=c.1
 have hn:=(t.ok.mem.seg (a / 8 / 64).toNat).n
 have b:s.mem.isObj a:=by
  refine⟨⟨⟨by have:=h.tag;omega,by omega⟩,h.tag,c.2.1,?_,c.2.2⟩,h.head.1,?_⟩
  ·rw[h.head.2.1];exact h.kind
  ·rw[h.head.2.2]
   have:=f.2.2
   have d:(a / 8+2) / 64=a / 8 / 64:=e
   rw[show(a / 8+((2:Nat):Int))=a / 8+2 from rfl,d]at this
   omega
 exact⟨b,by unfold Mem.typ;rw[if_pos b];exact h.head.2.1,by unfold Mem.len;rw[if_pos b];exact h.head.2.2⟩
theorem GdAt.field(t:Tri Z F0 fw al s sz){a:Int}(h:GdAt Z s sz a){i:Int}(e:i=0\/i=1):s.mem.fieldE a 10 i=0:=by
 obtain⟨b,c,d⟩:=h.isObj t
 unfold Mem.fieldE
 rw[if_neg (λq=>by rcases q with q | q;exact q b;exact q c),if_neg (by rw[d];omega)]
theorem Tri.gdOf(S:aW Z g F0)(t:Tri Z F0 fw al s sz){b:Int}(e:Good s.mem sz b)(f: ¬aG Z.O b)(c:s.mem.typ b=10)(d:s.mem.len b=2):GdAt Z s sz b:=by
 by_cases a:s.mem.isObj b
 ·unfold Mem.typ at c
  unfold Mem.len at d
  rw[if_pos a]at c d
  exact t.gdAt S e f a.1.2.1 ⟨c,d⟩
 ·unfold Mem.typ at c
  rw[if_neg a]at c;exact absurd c (by decide)
theorem GdAt.keep{a:Int}(h:GdAt Z s sz a){Z':TZ}{s':Sp}{c:Int->Nat}(k:Z'.O=Z.O)(d:fO s.mem s'.mem)(e: ∀y,s.mem.used y->c y=sz y)(l:s'.mem.get (a / 8)=s.mem.get (a / 8)):GdAt Z' s' c a:=by
 have f:s.mem.used (a / 8):=by simpa using(h.used 0 (by decide)).1
 exact⟨h.tag,(e _ f).trans h.three,(d.kAt f).1.trans h.kind,by rw[k];exact h.out,λi b=>⟨d.used (h.used i b).1,(h.used i b).2⟩,λi j b=>(e _ (h.used i b).1).trans (h.alone i j b),by rw[l];exact h.head⟩
theorem Good.keep{m c:Mem}{sz a:Int->Nat}{v:Int}(h:Good m sz v)(e:fO m c)(i: ∀y,sz y≠0->m.used y)(j: ∀y,m.used y->a y=sz y):Good c a v:=⟨h.1,λf=>by
 obtain⟨b,d⟩:=h.2 f
 have u:=i _ b
 rw[j _ u,(e.kAt u).1];exact⟨b,d⟩⟩
def jX(v:Int):Prop:=v % 8=1\/v % 8=2
instance (v:Int):Decidable (jX v):=by unfold jX;infer_instance
def kI(m:Mem)(gd th p x:Int):Int:=
 if x=p then th else if x=p+1 then 20 else if x=gd / 8+2 then p*8+1 else if x=(if jX (m.get (gd / 8+2))then m.get (gd / 8+2) / 8+1 else gd / 8+1)then p*8+1 else m.get x
structure uB (Z:TZ) (F0:Int) (fw:Int->Option Int) (al:List Int) (s:Sp) (sz:Int->Nat) (ks:List (Int×Value)) (gd th p:Int) (q:Int->Option Int) (s':Sp) (sz':Int->Nat):Prop where
 tri:Tri {Z with q:=q,P:=p::Z.P} F0 fw al s' sz'
 pend:Pend {Z with q:=q,P:=p::Z.P} fw s' ks
 heads:fO s.mem s'.mem
 new: ¬s.mem.used p/\ ¬s.mem.used (p+1)
 used: ∀x,s'.mem.used x ↔ s.mem.used x\/x=p\/x=p+1
 get: ∀x,s'.mem.used x->s'.mem.get x=kI s.mem gd th p x
 szo: ∀y,s.mem.used y->sz' y=sz y
 done: ∀y,s.mem.used y->Done Z fw s y->Done {Z with q:=q,P:=p::Z.P} fw s' y
 qo: ∀y,s.mem.used y->y≠gd / 8+2->y≠(if jX (s.mem.get (gd / 8+2))then s.mem.get (gd / 8+2) / 8+1 else gd / 8+1)->q y=Z.q y
 qz: ∀y,Z.q y≠none->q y≠none
 cf:s'.cf=s.cf
 qn: ∀y,q y≠none->Z.q y≠none\/(y=p\/y=p+1)\/y=gd / 8+2\/y=(if jX (s.mem.get (gd / 8+2))then s.mem.get (gd / 8+2) / 8+1 else gd / 8+1)
theorem Tri.putsG(S:aW Z g F0)(t:Tri Z F0 fw al s sz)(p:Pend Z fw s ks){a f:Int}(bl:aC a)(ao:Good s.mem sz a)(ap: ¬aG Z.O a)(ay:aC f)(aw:Good s.mem sz f)(az: ¬aG Z.O f)(ax:isTag f)
  (D:2*((Z.yk 0:Int)+Z.yk 1+Z.yk 2+Z.yk 3)+8+(((Z.P.length+1) / 32:Nat):Int)<=F0)
  (hg:s.mem.typ a=10/\s.mem.len a=2) (hf: ∀i:Nat,i=1\/i=2->Done Z fw s (a / 8+i))
  (hl:jX (s.mem.get (a / 8+2))->Good s.mem sz (s.mem.get (a / 8+2))/\ ¬aG Z.O (s.mem.get (a / 8+2))/\Done Z fw s (s.mem.get (a / 8+2) / 8+1)):
  ∃p q aS,uB Z F0 fw al s sz ks a f p q (s.putsG Z.T a f) aS:=by
 obtain⟨c,V⟩:=t.cap
 have av:=V.room t.ok S.sound S.ok t.olds S.room
 have b2:=S.rng
 have a3:may Z.T 0 2:=⟨by omega,.inl ⟨.inl rfl,rfl⟩⟩
 have U:=Sp.alloc_can t.ok a3 av
 have A:=t.putP S ay (by decide:aC 20) az (λo=>absurd o.1.1 (by decide)) aw ⟨by decide,λh=>absurd h (by decide)⟩ (.inl ax) (.inr rfl) U rfl rfl rfl
 have Y:(s.alloc Z.T 0 2).1.cf=s.cf:=Sp.alloc_cf _ _ _ _
 have e0:s.putT Z.T f 20=({(s.alloc Z.T 0 2).1 with mem:=(s.alloc Z.T 0 2).1.mem.sets (s.alloc Z.T 0 2).2.1 [f,20]},(s.alloc Z.T 0 2).2.1*8+1):=by unfold Sp.putT;rw[if_pos U]
 have W:({(s.alloc Z.T 0 2).1 with mem:=(s.alloc Z.T 0 2).1.mem.sets (s.alloc Z.T 0 2).2.1 [f,20]}:Sp).cf=s.cf:=by
  have h:=aY.sets [f,20] (s.alloc Z.T 0 2).1.mem (s.alloc Z.T 0 2).2.1
  rw[<-Y]
  unfold Sp.cf
  show((s.alloc Z.T 0 2).1.mem.sets _ _).count+((s.alloc Z.T 0 2).1.mem.sets _ _).free=_
  rw[h.count,h.free]
 generalize ({(s.alloc Z.T 0 2).1 with mem:=(s.alloc Z.T 0 2).1.mem.sets (s.alloc Z.T 0 2).2.1 [f,20]}:Sp)=b at*
 generalize (s.alloc Z.T 0 2).2.1=pa at*
 generalize b3:(λx=>if x=pa then 2 else sz x)=k at*
 obtain⟨w1,w2,w3,w4⟩:=A.word
 have w5:isTag (pa*8+1)\/pa*8+1=20:=.inl (by unfold isTag;omega)
 have H:aW (Z.putP pa f 20) g F0:=S.putP D
 have n:=A.tri
 have p1:=p.putP S t A
 have a6: ∀y,sz y≠0->s.mem.used y:=λy h=>t.sz_used S h
 have B:=t.gdOf S ao ap hg.1 hg.2
 have e1: ∀{z:Int},z+((1:Nat):Int)=z+1:=rfl
 have e2: ∀{z:Int},z+((2:Nat):Int)=z+2:=rfl
 have u0:s.mem.used (a / 8):=by simpa using(B.used 0 (by decide)).1
 have u1:s.mem.used (a / 8+1):=(B.used 1 (by decide)).1
 have u2:s.mem.used (a / 8+2):=(B.used 2 (by decide)).1
 have K:GdAt (Z.putP pa f 20) b k a:=B.keep rfl A.heads.l A.szo (A.get _ u0)
 have m:b.mem.lastG a=s.mem.get (a / 8+2):=by
  unfold Mem.lastG
  rw[if_pos (K.field n (.inr rfl)),show a / 8+1+1=a / 8+2 by omega,A.get _ u2]
 have d1: ∀i:Nat,i=1\/i=2->Done (Z.putP pa f 20) fw b (a / 8+i):=λi hi=>A.done t (B.used i (by omega)).1 (hf i hi)
 have C: ∀y,s.mem.used y->y≠pa/\y≠pa+1:=λy w=>⟨λe=>A.new.1 (e▸w),λe=>A.new.2 (e▸w)⟩
 have ev:s.putsG Z.T a f={b with mem:=b.mem.queued a (pa*8+1)}:=by
  unfold Sp.putsG
  rw[if_pos hg,e0,if_neg w4]
 rw[ev]
 generalize hL:s.mem.get (a / 8+2)=L at*
 obtain⟨d,E,M,c2,c3,c4,aj,a4,au⟩: ∃d,d=(if jX L then L / 8+1 else a / 8+1)/\s.mem.used d/\Z.O (d / 64).toNat=false/\b.mem.strong d/\k d=0/\Done (Z.putP pa f 20) fw b d/\(d≠a / 8/\d≠a / 8+2)/\b.mem.queued a (pa*8+1)=(b.mem.store d (pa*8+1)).1.fset a 10 1 (pa*8+1):=by
  by_cases j:jX L
  ·obtain⟨l1,l2,l3⟩:=hl j
   have v:Good b.mem k L:=l1.keep A.heads.l a6 A.szo
   obtain⟨u,c2,c3,c4,c5⟩:=n.cdrAt H v l2 j
   obtain⟨M,bH,bI,b4,b5⟩:=t.cdrAt S l1 l2 j
   have a2:=(n.isPair H v l2).2 j
   refine⟨L / 8+1,by rw[if_pos j],M,c2,c3,c4,A.done t M l3,⟨λe=>?_,λe=>?_⟩,?_⟩
   ·have k0:=B.kind
    rw[e,k0]at b5;omega
   ·have k2:s.mem.kAt (a / 8+2)=2:=(B.strong (i:=2) (by decide)).1
    rw[e,k2]at b5;omega
   ·have hE:b.mem.hsetE L 1 (pa*8+1)=0:=by unfold Mem.hsetE;rw[if_pos a2];exact Mem.store_0 n.ok.mem u w1
    unfold Mem.queued
    rw[m,if_pos hE]
    unfold Mem.hset
    rw[if_pos a2]
  ·have a5: ¬b.mem.isPair L:=λhp=>j (by
    rcases hp.1 with q | q
    ·exact .inl q.2.1
    ·exact .inr q.2.1)
   have F:=K.strong (i:=1) (by decide)
   rw[e1]at F
   refine⟨a / 8+1,by rw[if_neg j],u1,F.2.2,F.2.1,K.alone 1 (by decide) (by decide),d1 1 (.inl rfl),⟨by omega,by omega⟩,?_⟩
   have hE: ¬b.mem.hsetE L 1 (pa*8+1)=0:=by unfold Mem.hsetE;rw[if_neg a5];decide
   have hS:b.mem.hset L 1 (pa*8+1)=b.mem:=by unfold Mem.hset;rw[if_neg a5]
   have e:b.mem.fset a 10 0 (pa*8+1)=(b.mem.store (a / 8+1) (pa*8+1)).1:=by
    unfold Mem.fset
    rw[if_pos (K.field n (.inl rfl)),show a / 8+1+0=a / 8+1 by omega]
   unfold Mem.queued
   rw[m,if_neg hE,hS,e]
 have u:=A.heads.used M
 obtain⟨t2,N⟩:=n.write H u c2 c3 aj (λh=>absurd c4 h) w1 w3 w2 w5
 have p2:=p1.write H n u N
 have r:=Mem.store_headsL n.ok.mem (x:=d) w1
 have S2:=H.wrt d (pa*8+1)
 have G2:GdAt ((Z.putP pa f 20).wrt d (pa*8+1)) {b with mem:=(b.mem.store d (pa*8+1)).1} k a:=K.keep rfl r (λ_ _=>rfl) (by
  show(b.mem.store d (pa*8+1)).1.get _=_
  rw[Mem.store_get u _ u0.1,if_neg (λe=>a4.1 e.symm)])
 have hq:b.mem.queued a (pa*8+1)=((b.mem.store d (pa*8+1)).1.store (a / 8+2) (pa*8+1)).1:=by
  rw[au]
  unfold Mem.fset
  rw[if_pos (G2.field t2 (.inr rfl)),show a / 8+1+1=a / 8+2 by omega]
 have v2:=(G2.used 2 (by decide)).1
 have G:=G2.strong (i:=2) (by decide)
 rw[e2]at v2 G
 have af:Done ((Z.putP pa f 20).wrt d (pa*8+1)) fw {b with mem:=(b.mem.store d (pa*8+1)).1} (a / 8+2):=(d1 2 (.inr rfl)).wrt n u (A.heads.used u2) (λe=>a4.2 e.symm)
 have an:Good (b.mem.store d (pa*8+1)).1 k (pa*8+1):=w2.keep r (λy h=>n.sz_used H h) (λ_ _=>rfl)
 obtain⟨t3,Q⟩:=t2.write S2 v2 G.2.2 G.2.1 af (λh=>absurd (G2.alone 2 (by decide) (by decide)) h) w1 w3 an w5
 have p3:=p2.write S2 t2 v2 Q
 have ai:=Mem.store_headsL t2.ok.mem (x:=a / 8+2) w1
 rw[hq]
 have X:({b with mem:=((b.mem.store d (pa*8+1)).1.store (a / 8+2) (pa*8+1)).1}:Sp).cf=s.cf:=by
  rw[<-W]
  unfold Sp.cf
  show((b.mem.store _ _).1.store _ _).1.count+((b.mem.store _ _).1.store _ _).1.free=_
  rw[Mem.store_lim.2.2,Mem.store_lim.2.1,Mem.store_lim.2.2,Mem.store_lim.2.1]
 refine⟨pa,_,k,t3,p3,(A.heads.l.trans r).trans ai,A.new,λx=>?_,λx J=>?_,A.szo,λy w ak=>?_,λy w R I=>?_,λy h=>?_,X,λy h=>?_⟩
 ·show((b.mem.store _ _).1.store _ _).1.used x ↔ _
  rw[Mem.store_used,Mem.store_used,A.used]
 ·have J:((b.mem.store d (pa*8+1)).1.store (a / 8+2) (pa*8+1)).1.used x:=J
  rw[Mem.store_used,Mem.store_used]at J
  show((b.mem.store d (pa*8+1)).1.store (a / 8+2) (pa*8+1)).1.get x=_
  have aU:(b.mem.store d (pa*8+1)).1.used (a / 8+2):=v2
  rw[Mem.store_get aU x J.1,Mem.store_get u x J.1]
  unfold kI
  rw[hL,<-E]
  have n1:=C _ u2
  have n2:=C _ M
  by_cases R:x=pa
  ·rw[if_pos R,if_neg (by omega),if_neg (by omega),R,A.car]
  rw[if_neg R]
  by_cases I:x=pa+1
  ·rw[if_pos I,if_neg (by omega),if_neg (by omega),I,A.cdr]
  rw[if_neg I]
  refine ite_congr rfl (λ_=>rfl) (λ_=>ite_congr rfl (λ_=>rfl) (λ_=>?_))
  exact A.get x (((A.used x).1 J).resolve_right (by omega))
 ·have a0:=A.done t w ak
  have a1:Done ((Z.putP pa f 20).wrt d (pa*8+1)) fw {b with mem:=(b.mem.store d (pa*8+1)).1} y:=by
   by_cases e:y=d
   ·rw[e];exact N
   ·exact a0.wrt n u (A.heads.used w) e
  by_cases e:y=a / 8+2
  ·rw[e];exact Q
  ·exact a1.wrt t2 v2 (r.used (A.heads.used w)) e
 ·rw[hL,<-E]at I
  obtain⟨n1,n2⟩:=C y w
  show(if y=a / 8+2 then _ else if y=d then _ else if y=pa then _ else if y=pa+1 then _ else Z.q y)=_
  rw[if_neg R,if_neg I,if_neg n1,if_neg n2]
 ·show(if y=a / 8+2 then _ else if y=d then _ else if y=pa then _ else if y=pa+1 then _ else Z.q y)≠none
  split
  ·simp
  split
  ·simp
  split
  ·simp
  split
  ·simp
  ·exact h
 ·rw[hL,<-E]
  have h:(if y=a / 8+2 then some (pa*8+1)else if y=d then some (pa*8+1)else if y=pa then some f else if y=pa+1 then some 20 else Z.q y)≠none:=h
  by_cases q1:y=a / 8+2
  ·exact .inr (.inr (.inl q1))
  by_cases q2:y=d
  ·exact .inr (.inr (.inr q2))
  by_cases q3:y=pa
  ·exact .inr (.inl (.inl q3))
  by_cases q4:y=pa+1
  ·exact .inr (.inl (.inr q4))
  rw[if_neg q1,if_neg q2,if_neg q3,if_neg q4]at h
  exact .inl h
end
def reachedB(O:Nat->Bool)(m:Mem)(w:Int):Bool:=decide (¬aG O w) || (m.fwd w).isSome
def dnB(O:Nat->Bool)(fw:Int->Option Int)(w:Int):Bool:=decide (¬aG O w) || (fw (w / 8)).isSome
theorem gT{O:Nat->Bool}{fw:Int->Option Int}{w:Int}:dnB O fw w=true ↔ Dn O fw w:=by
 unfold dnB Dn
 by_cases h:aG O w
 ·rw[zQ (show ¬ ¬aG O w from λq=>q h),Bool.false_or,Option.isSome_iff_exists]
  exact⟨λq _=>q,λq=>q h⟩
 ·rw[zX h,Bool.true_or]
  exact⟨λ_ q=>absurd q h,λ_=>rfl⟩
def Fit(O:Nat->Bool)(m:Mem)(l:List (Int×Int))(lost:List Int)(i:Nat):Prop:= ∃e,l[i]?=some e/\lost[i]?=some 1/\reachedB O m e.2=true
def lk(O:Nat->Bool)(T:Int)(s:Sp)(e:Int×Int):Sp:=((s.visit O T e.1).1.visit O T e.2).1.putsG T ((s.visit O T e.1).1.visit O T e.2).2 (s.visit O T e.1).2
inductive Rdy (O:Nat->Bool) (T:Int) (l:List (Int×Int)) (s:Sp) (ks:List (Int×Value)) (lost:List Int):Sp->List (Int×Value)->List Int->Prop
 | refl:Rdy O T l s ks lost s ks lost
 | step {s1 s2:Sp} {k1 k2:List (Int×Value)} {lost1:List Int} {i:Nat} {e:Int×Int} (h:Rdy O T l s ks lost s1 k1 lost1) (he:l[i]?=some e) (hl:lost1[i]?=some 1) (hr:reachedB O s1.mem e.2=true) (hf: ∀j,j<i-> ¬Fit O s1.mem l lost1 j)
   (hd:dY O T (lk O T s1 e) k1 s2 k2) (hdd:ii O T s2 k2):Rdy O T l s ks lost s2 k2 (lost1.set i 2)
def fP(O:Nat->Bool)(m:Mem)(l:List (Int×Int)):List Int:=l.map λe=>if reachedB O m e.1=true then 0 else 1
def ga(O:Nat->Bool)(T:Int)(st:Sp×List (Int×Int))(e:(Int×Int)×Int):Sp×List (Int×Int):=
 if e.2<2/\reachedB O st.1.mem e.1.2=true then(((st.1.visit O T e.1.1).1.visit O T e.1.2).1,st.2++[((st.1.visit O T e.1.1).2,((st.1.visit O T e.1.1).1.visit O T e.1.2).2)])else st
def outG(O:Nat->Bool)(T:Int)(s:Sp)(l:List (Int×Int))(lost:List Int):Sp×List (Int×Int):=(l.zip lost).foldl (ga O T) (s,[])
section
variable {Z:TZ} {g F0:Int} {fw:Int->Option Int} {al:List Int} {s:Sp} {sz:Int->Nat} {ks:List (Int×Value)}
theorem Tri.reachedB(S:aW Z g F0)(t:Tri Z F0 fw al s sz){w:Int}(b:aC w)(a:Good Z.m Z.sz w):reachedB Z.O s.mem w=dnB Z.O fw w:=by
 unfold Go.Proofs.YtfhbhckhmnleoaaGreat.reachedB dnB
 by_cases h:aG Z.O w
 ·rw[t.fwd_is S b a h,Option.isSome_map]
 ·rw[zX h];rfl
theorem Tri.visit_dn(S:aW Z g F0)(t:Tri Z F0 fw al s sz){w:Int}(f:aC w)(d:Good Z.m Z.sz w)(c:Dn Z.O fw w):s.visit Z.O Z.T w=(s,Fw Z.O fw w):=by
 by_cases h:aG Z.O w
 ·obtain⟨b,a⟩:=c h
  have e:=t.fwd_is S f d h
  rw[a]at e
  rw[Sp.visit_fwd h e,fy h a]
 ·rw[Sp.visit_no h,ft h]
theorem Tri.goodFw(S:aW Z g F0)(t:Tri Z F0 fw al s sz){v:Int}(n:aC v)(c:Good Z.m Z.sz v)(h:Dn Z.O fw v):aC (Fw Z.O fw v)/\Good s.mem sz (Fw Z.O fw v)/\ ¬aG Z.O (Fw Z.O fw v):=by
 refine⟨t.fw_word S n,?_,t.fw_young h⟩
 by_cases d:aG Z.O v
 ·obtain⟨b,f⟩:=h d
  obtain⟨a,e,p,k⟩:=S.oldWord c d
  obtain⟨j,o⟩:=t.img _ _ f
  rw[fy d f]
  refine⟨by have:=c.1;omega,λ_=>?_⟩
  rw[show(b*8+v % 8) / 8=b by omega,show(b*8+v % 8) % 8=v % 8 by omega,j,o.kind]
  exact⟨a,k⟩
 ·rw[ft d]
  refine⟨c.1,λl=>?_⟩
  obtain⟨a,e⟩:=c.2 l
  have i:=(S.sound.used _ a).1
  rw[t.sz0 _ i,(t.kAt i).1]
  exact⟨a,e⟩
theorem Tri.doneWord(S:aW Z g F0)(t:Tri Z F0 fw al s sz){x:Int}(k:s.mem.used x)(i:Z.O (x / 64).toNat=false)(j:s.mem.strong x)(f:Done Z fw s x):aC (s.mem.get x)/\Good s.mem sz (s.mem.get x)/\ ¬aG Z.O (s.mem.get x):=by
 obtain⟨v,a⟩:=t.was k i
 obtain⟨d,e⟩:=f v a
 rw[e]
 rcases a with h | ⟨_,h⟩
 ·have W:=t.qok x v h
  rw[ft W.young];exact⟨W.word,W.good,W.young⟩
 ·obtain⟨b,c⟩:=t.was0_any S h j.1
  exact t.goodFw S b c d
theorem Tri.sz_same(t:Tri Z F0 fw al s sz){Z':TZ}(hm:Z'.m=Z.m)(f:Z'.sz=Z.sz)(i: ∀p∈Z.P,p∈Z'.P){b:Int->Option Int}{d:List Int}{k:Sp}{c:Int->Nat}(e:Tri Z' F0 b d k c)(j:Le fw b){y:Int}(h:sz y≠0):c y=sz y:=by
 rcases t.szn y h with q | ⟨a,q⟩ | q
 ·rw[t.sz0 y q,e.sz0 y (by rw[hm];exact q),f]
 ·rw[(t.img a y q).1,(e.img a y (j _ _ q)).1,f]
 ·rw[(t.pair y q).sz,(e.pair y (i y q)).sz]
theorem Tri.stay(t:Tri Z F0 fw al s sz){a:Int->Option Int}{d:List Int}{b:Sp}{i:Int->Nat}(y:Tri Z F0 a d b i)(h:Le fw a)(hk:fO s.mem b.mem){x:Int}(j:s.mem.used x)(w:Z.O (x / 64).toNat=false)(u:s.mem.strong x->Done Z fw s x/\Done Z a b x):b.mem.get x=s.mem.get x:=by
 obtain⟨v,c⟩:=t.was j w
 by_cases e:s.mem.strong x
 ·obtain⟨p,r⟩:=u e
  obtain⟨k,l⟩:=p v c
  obtain⟨z,m⟩:=r v (c.mono h)
  rw[l,m,fZ k h]
 ·have f: ¬b.mem.strong x:=λq=>e (by unfold Mem.strong at*;rw[<-(hk.kAt j).1];exact q)
  have n:s.mem.get x=v:=by
   rcases t.val x v c with q | ⟨q,_⟩
   ·exact q
   ·exact absurd q e
  have o:b.mem.get x=v:=by
   rcases y.val x v (c.mono h)with q | ⟨q,_⟩
   ·exact q
   ·exact absurd q f
  rw[n,o]
theorem lm{O:Nat->Bool}{fw:Int->Option Int}(v:Int):Fw O fw v % 8=v % 8:=by
 unfold Fw
 split
 ·cases fw (v / 8)with
  | none=>rfl
  | some b=>show(b*8+v % 8) % 8=_;omega
 ·rfl
structure On (M:Mem) (szM:Int->Nat) (O:Nat->Bool) (T g F0:Int) (V:Int->Prop) (q:Int->Option Int) (P:List Int) (fw:Int->Option Int) (al:List Int) (s:Sp) (sz:Int->Nat) (ks:List (Int×Value)):Prop where
 S:aW ⟨M,szM,O,T,V,q,P⟩ g F0
 tri:Tri ⟨M,szM,O,T,V,q,P⟩ F0 fw al s sz
 fin:Fin ⟨M,szM,O,T,V,q,P⟩ fw s
 pend:Pend ⟨M,szM,O,T,V,q,P⟩ fw s ks
 roots: ∀v,V v->Dn O fw v
end
structure tV (M:Mem) (szM:Int->Nat) (O:Nat->Bool) (T g F0:Int) (V:Int->Prop) (q:Int->Option Int) (P:List Int) (fw:Int->Option Int) (s:Sp) (sz:Int->Nat) (o gd:Int) (q':Int->Option Int) (P':List Int) (fw':Int->Option Int) (al':List Int) (s2:Sp) (sz':Int->Nat) (ks2:List (Int×Value)):Prop where
 on:On M szM O T g F0 (λv=>v=o\/V v) q' P' fw' al' s2 sz' ks2
 le:Le fw fw'
 heads:fO s.mem s2.mem
 cf:s2.cf=s.cf
 szo: ∀y,sz y≠0->sz' y=sz y
 qz: ∀y,q y≠none->q' y≠none
 how:(¬(s.mem.typ (Fw O fw gd)=10/\s.mem.len (Fw O fw gd)=2)/\q'=q/\P'=P/\ ∀x,s.mem.used x->O (x / 64).toNat=false->s2.mem.get x=s.mem.get x)\/
  ((s.mem.typ (Fw O fw gd)=10/\s.mem.len (Fw O fw gd)=2)/\ ∃p,P'=p::P/\ ¬s.mem.used p/\ ¬s.mem.used (p+1)/\ ∀x,(s.mem.used x/\O (x / 64).toNat=false)\/x=p\/x=p+1->s2.mem.get x=kI s.mem (Fw O fw gd) (Fw O fw' o) p x)
 qn: ∀y,q' y≠none->q y≠none\/(∃p,P'=p::P/\(y=p\/y=p+1))\/y=Fw O fw gd / 8+2\/y=(if jX (s.mem.get (Fw O fw gd / 8+2))then s.mem.get (Fw O fw gd / 8+2) / 8+1 else Fw O fw gd / 8+1)
theorem On.ready{M:Mem}{j:Int->Nat}{O:Nat->Bool}{T g F0:Int}{V:Int->Prop}{q:Int->Option Int}{P:List Int}{fw:Int->Option Int}{al:List Int}{s:Sp}{sz:Int->Nat}{ks:List (Int×Value)}(h:On M j O T g F0 V q P fw al s sz ks)
  {o d:Int} (ag:aC o) (af:Good M j o) (b1:isTag o) (ae:aC d) (ac:Good M j d) (hr:reachedB O s.mem d=true) (a1: ∀Z:TZ,Z.m=M->Z.O=O->2*((Z.yk 0:Int)+Z.yk 1+Z.yk 2+Z.yk 3)+8+(((P.length+1) / 32:Nat):Int)<=F0)
  {s2:Sp} {ai:List (Int×Value)} (hd:dY O T (lk O T s (o,d)) ks s2 ai) (ap:ii O T s2 ai):
  ∃q' P' K Y a4,tV M j O T g F0 V q P fw s sz o d q' P' K Y s2 a4 ai:=by
 obtain⟨S,t,f,p,r⟩:=h
 have ab:Dn O fw d:=by
  have:=t.reachedB S ae ac
  rw[this]at hr
  exact gT.1 hr
 have w:aW ⟨M,j,O,T,λv=>v=o\/V v,q,P⟩ g F0:=S.more ag af
 have I:Tri ⟨M,j,O,T,λv=>v=o\/V v,q,P⟩ F0 fw al s sz:=t.more o
 have p1:Pend ⟨M,j,O,T,λv=>v=o\/V v,q,P⟩ fw s ks:=p.more o
 have f1:Fin ⟨M,j,O,T,λv=>v=o\/V v,q,P⟩ fw s:=f
 clear t p f S
 obtain⟨b,bk,aw,W⟩:=I.visit w ag af (λC=> .root (.inl rfl) C)
 have t2:=W.tri
 have A:=W.le
 have au:Dn O b d:=ab.mono A
 have b5:(s.visit O T o).1.visit O T d=((s.visit O T o).1,Fw O b d):=t2.visit_dn w ae ac au
 have aZ:Fw O b d=Fw O fw d:=fZ ab A
 have b6:(s.visit O T o).2=Fw O b o:=W.val
 have e:lk O T s (o,d)=(s.visit O T o).1.putsG T (Fw O fw d) (Fw O b o):=by
  unfold lk
  show((s.visit O T o).1.visit O T d).1.putsG T ((s.visit O T o).1.visit O T d).2 (s.visit O T o).2=_
  rw[b5,b6,aZ]
 rw[e]at hd
 have av:=p1.visited I W
 obtain⟨bj,a7,a3⟩:=I.goodFw w ae ac ab
 obtain⟨bl,bm,bn⟩:=t2.goodFw w ag af W.dn
 have bo:isTag (Fw O b o):=by
  have e:=lm (O:=O) (fw:=b) o
  unfold isTag at*;rw[e];exact b1
 have a8:(s.visit O T o).1.cf=s.cf:=Sp.visit_cf _ _ _ _
 have ah: ∀y,sz y≠0->aw y=sz y:=λy R=>I.sz_same rfl rfl (λ_ h=>h) t2 A R
 have a2: ∀y,sz y≠0->s.mem.used y:=λy R=>I.sz_used w R
 have n: ∀v,Good s.mem sz v->Good (s.visit O T o).1.mem aw v:=λv E=>⟨E.1,λht=>by
  obtain⟨g1,g2⟩:=E.2 ht
  rw[ah _ g1,(W.heads.l.kAt (a2 _ g1)).1]
  exact⟨g1,g2⟩⟩
 have B:=W.rest
 have a:=W.heads
 have k: ∀x,s.mem.used x->O (x / 64).toNat=false->s.mem.strong x->Done ⟨M,j,O,T,λv=>v=o\/V v,q,P⟩ b (s.visit O T o).1 x:=λx hu C hs=>W.done I hu C (f1 x hu C hs)
 have D: ∀v,(v=o\/V v)->Dn O b v:=λv E=>by
  rcases E with rfl | E
  ·exact W.dn
  ·exact(r v E).mono A
 generalize (s.visit O T o).1=X at*
 have J:(X.mem.typ (Fw O fw d)=10/\X.mem.len (Fw O fw d)=2) ↔ (s.mem.typ (Fw O fw d)=10/\s.mem.len (Fw O fw d)=2):=by
  constructor
  ·rintro⟨c1,c2⟩
   have G:=t2.gdOf w (n _ a7) a3 c1 c2
   have h3:=G.tag
   have hu:s.mem.used (Fw O fw d / 8):=a2 _ (a7.2 (by unfold isTag;omega)).1
   have C:=G.out
   have:=(I.gdAt w a7 a3 h3 (by rw[<-B _ hu C];exact G.head.2)).isObj I
   exact this.2
  ·rintro⟨c1,c2⟩
   have G:=I.gdOf w a7 a3 c1 c2
   have h3:=G.tag
   have hu:s.mem.used (Fw O fw d / 8):=a2 _ (a7.2 (by unfold isTag;omega)).1
   have:=(t2.gdAt w (n _ a7) a3 h3 (by rw[B _ hu G.out];exact G.head.2)).isObj t2
   exact this.2
 by_cases hG:X.mem.typ (Fw O fw d)=10/\X.mem.len (Fw O fw d)=2
 case neg=>
  have ep:X.putsG T (Fw O fw d) (Fw O b o)=X:=by unfold Sp.putsG;rw[if_neg hG]
  rw[ep]at hd
  obtain⟨K,Y,a4,L,a0,H⟩:=t2.pends w av hd ap
  refine⟨q,P,K,Y,a4,⟨w,L.tri,a0,H,λv E=>(D v E).mono L.le⟩,A.trans L.le,a.l.trans L.heads.l,(ma hd).trans a8,λy R=>?_,λy R=>R,.inl ⟨λq=>hG (J.2 q),rfl,rfl,λx hu C=>?_⟩,λy R=> .inl R⟩
  ·exact I.sz_same rfl rfl (λ_ h=>h) L.tri (A.trans L.le) R
  ·exact I.stay L.tri (A.trans L.le) (a.l.trans L.heads.l) hu C (λhs=>⟨f1 x hu C hs,L.done x (a.used hu) C (k x hu C hs)⟩)
 have G1:=I.gdOf w a7 a3 (J.1 hG).1 (J.1 hG).2
 have u2:s.mem.used (Fw O fw d / 8+2):=(G1.used 2 (by decide)).1
 have U:=G1.strong (i:=2) (by decide)
 have e2:Fw O fw d / 8+((2:Nat):Int)=Fw O fw d / 8+2:=rfl
 rw[e2]at U
 have F:X.mem.get (Fw O fw d / 8+2)=s.mem.get (Fw O fw d / 8+2):=B _ u2 U.2.2
 obtain⟨l1,l2,l3⟩:=I.doneWord w u2 U.2.2 U.2.1 (f1 _ u2 U.2.2 U.2.1)
 have aL:=λa6=>I.cdrAt w l2 l3 a6
 obtain⟨pa,q',bE,Q⟩:=t2.putsG w av bj (n _ a7) a3 bl bm bn bo (a1 _ rfl rfl) hG (λi hi=>by
   have u:=G1.used i (by omega)
   have st:=G1.strong (i:=i) (by omega)
   exact k _ u.1 st.2.2 st.2.1) (λa6=>by
   rw[F]at a6⊢
   obtain⟨c1,c2,c3,_,_⟩:=aL a6
   exact⟨n _ l2,l3,k _ c1 c2 c3⟩)
 have t3:=Q.tri
 have S3:aW ⟨M,j,O,T,λv=>v=o\/V v,q',pa::P⟩ g F0:=⟨w.ok,w.even,w.sound,w.old,w.rng,a1 ⟨M,j,O,T,λv=>v=o\/V v,q',pa::P⟩ rfl rfl,w.V⟩
 obtain⟨K,Y,a4,L,a0,H⟩:=t3.pends S3 Q.pend hd ap
 have b3: ∀x,s.mem.used x->(X.putsG T (Fw O fw d) (Fw O b o)).mem.used x:=λx z=>Q.heads.used (a.used z)
 have b0:Fw O K o=Fw O b o:=fZ W.dn L.le
 refine⟨q',pa::P,K,Y,a4,⟨S3,L.tri,a0,H,λv E=>(D v E).mono L.le⟩,A.trans L.le,(a.l.trans Q.heads).trans L.heads.l,((ma hd).trans Q.cf).trans a8,λy R=>?_,Q.qz,.inr ⟨J.1 hG,pa,rfl,λq=>Q.new.1 (a.used q),λq=>Q.new.2 (a.used q),λx z=>?_⟩,λy R=>by
  rcases Q.qn y R with q | q | q | q
  ·exact .inl q
  ·exact .inr (.inl ⟨pa,rfl,q⟩)
  ·exact .inr (.inr (.inl q))
  ·rw[F]at q;exact .inr (.inr (.inr q))⟩
 ·exact I.sz_same (Z':=⟨M,j,O,T,λv=>v=o\/V v,q',pa::P⟩) rfl rfl (λ_ h=>List.mem_cons_of_mem _ h) L.tri (A.trans L.le) R
 ·-- what stands there
  have b7:(X.putsG T (Fw O fw d) (Fw O b o)).mem.used x/\O (x / 64).toNat=false/\((X.putsG T (Fw O fw d) (Fw O b o)).mem.strong x->Done ⟨M,j,O,T,λv=>v=o\/V v,q',pa::P⟩ b (X.putsG T (Fw O fw d) (Fw O b o)) x):=by
   rcases z with⟨z,C⟩ | z
   ·refine⟨b3 x z,C,λhs=>Q.done x (a.used z) (k x z C ?_)⟩
    have hk:=(a.l.trans Q.heads).kAt z
    unfold Mem.strong at*;rw[<-hk.1];exact hs
   ·have N:=t3.pair pa (by simp)
    have h0:=N.used.1.1
    have he:=N.even
    have C:O (x / 64).toNat=false:=by
     have:=N.out
     rcases z with rfl | rfl
     ·exact this
     ·rw[show(pa+1) / 64=pa / 64 by omega];exact this
    have b4:(X.putsG T (Fw O fw d) (Fw O b o)).mem.used x:=by
     rcases z with rfl | rfl
     ·exact N.used.1
     ·exact N.used.2
    refine⟨b4,C,λhs v E=>?_⟩
    have hq:q' x≠none:=by
     rcases z with rfl | rfl
     ·exact N.q.1
     ·exact N.q.2
    rcases E with E | ⟨E,_⟩
    ·have Wr:=t3.qok x v E
     refine⟨λo'=>absurd o' Wr.young,?_⟩
     rw[ft Wr.young]
     rcases t3.val x v (.inl E)with c | ⟨_,_,c⟩
     ·exact c
     ·rw[c,ft Wr.young]
    ·exact absurd E hq
  obtain⟨x1,x2,x3⟩:=b7
  have b2:=t3.stay L.tri L.le L.heads.l x1 x2 (λhs=>⟨x3 hs,L.done x x1 x2 (x3 hs)⟩)
  rw[b2,Q.get x x1,b0]
  unfold kI
  rw[F]
  refine ite_congr rfl (λ_=>rfl) (λn1=>ite_congr rfl (λ_=>rfl) (λn2=>ite_congr rfl (λ_=>rfl) (λn3=>ite_congr rfl (λ_=>rfl) (λn4=>?_))))
  rcases z with⟨z,C⟩ | z
  ·exact B x z C
  ·rcases z with z | z
   ·exact absurd z n1
   ·exact absurd z n2
theorem jP: ∀(l:List Int) {i:Nat},l[i]?=some 1->(l.set i 2).countP (λv=>decide (v=1))+1=l.countP (λv=>decide (v=1))
 | [],i,h=>by simp at h
 | a::l,0,h=>by
  simp only[List.getElem?_cons_zero,Option.some.injEq]at h
  subst h
  rw[List.set_cons_zero,List.countP_cons,List.countP_cons];simp
 | a::l,i+1,h=>by
  rw[List.getElem?_cons_succ]at h
  have:=jP l h
  rw[List.set_cons_succ,List.countP_cons,List.countP_cons];omega
theorem sZ{l:List Int}{i j:Nat}{v:Int}(h:(l.set i 2)[j]?=some v):l[j]?=some v\/v=2:=by
 rw[List.getElem?_set]at h
 by_cases e:i=j
 ·rw[if_pos e]at h
  split at h
  ·exact .inr (Option.some.inj h).symm
  ·cases h
 ·rw[if_neg e]at h;exact .inl h
def kl(M:Mem)(szM:Int->Nat)(e:Int×Int):Prop:=(aC e.1/\Good M szM e.1)/\aC e.2/\Good M szM e.2
section
variable {M:Mem} {szM:Int->Nat} {O:Nat->Bool} {T g F0:Int} {V:Int->Prop} {q:Int->Option Int} {P:List Int} {fw:Int->Option Int} {al:List Int} {s:Sp} {sz:Int->Nat} {ks:List (Int×Value)}
theorem Rdy.lost{l:List (Int×Int)}{b a:List Int}{k:Sp}{f:List (Int×Value)}(R:Rdy O T l s ks b k f a):a.length=b.length/\ ∀(i:Nat) (v:Int),a[i]?=some v->b[i]?=some v\/v=2:=by
 induction R with
 | refl=>exact⟨rfl,λi v h=> .inl h⟩
 | @step x k w f c i e R r o u t p m d=>
  refine⟨by rw[List.length_set];exact d.1,λj v n=>?_⟩
  rcases sZ n with h | h
  ·exact d.2 j v h
  ·exact .inr h
theorem On.rdy(h:On M szM O T g F0 V q P fw al s sz ks){l:List (Int×Int)}(hl: ∀e∈l,kl M szM e)(d: ∀Z:TZ,Z.m=M->Z.O=O->2*((Z.yk 0:Int)+Z.yk 1+Z.yk 2+Z.yk 3)+8+((l.length / 32:Nat):Int)<=F0)
  {lost c:List Int} (hc:P.length+lost.countP (λv=>decide (v=1))<=l.length) (D: ∀(i:Nat) (e:Int×Int),l[i]?=some e->lost[i]?=some 1->isTag e.1) {o:Sp} {F:List (Int×Value)} (R:Rdy O T l s ks lost o F c):
  ∃J q' I j t r,On M szM O T g F0 J q' I j t o r F/\Le fw j/\fO s.mem o.mem/\o.cf=s.cf/\I.length+c.countP (λv=>decide (v=1))<=l.length/\(∀v,V v->J v)/\(∀y,sz y≠0->r y=sz y):=by
 induction R with
 | refl=>exact⟨V,q,P,fw,al,sz,h,Le.refl _,fO.refl _,rfl,hc,λv E=>E,λ_ _=>rfl⟩
 | @step s1 o k1 F f i e R K k hr hf hd A ih=>
  obtain⟨V1,q1,N,a1,S,ab,h1,G,z,w,c1,v1,z1⟩:=ih
  have B:e∈l:=List.mem_of_getElem? K
  obtain⟨⟨U,X⟩,Y,e4⟩:=hl e B
  have a4:=jP f k
  obtain⟨q2,Q,x,u,H,W⟩:=h1.ready U X (D i e K ((R.lost.2 i 1 k).resolve_right (by decide))) Y e4 hr (λZ a b=>by
   have:=d Z a b
   have h3:(N.length+1) / 32<=l.length / 32:=Nat.div_le_div_right (by omega)
   omega) hd A
  refine⟨_,q2,Q,x,u,H,W.on,G.trans W.le,z.trans W.heads,W.cf.trans w,?_,λv E=> .inr (v1 v E),λy L=>?_⟩
  ·rcases W.how with⟨_,_,C,_⟩ | ⟨_,p,C,_⟩
   ·rw[C];omega
   ·rw[C,List.length_cons];omega
  ·have n:=z1 y L
   rw[W.szo y (by rw[n];exact L),n]
def outL(O:Nat->Bool)(fw:Int->Option Int)(l:List (Int×Int))(lost:List Int):List (Int×Int):=((l.zip lost).filter λe=>decide (e.2<2) && dnB O fw e.1.2).map λe=>(Fw O fw e.1.1,Fw O fw e.1.2)
theorem mb(h:On M szM O T g F0 V q P fw al s sz ks): ∀(d:List ((Int×Int)×Int)) (a:List (Int×Int)),(∀e∈d,kl M szM e.1/\(e.2<2->Dn O fw e.1.2->Dn O fw e.1.1))->
  d.foldl (ga O T) (s,a)=(s,a++(d.filter λe=>decide (e.2<2) && dnB O fw e.1.2).map λe=>(Fw O fw e.1.1,Fw O fw e.1.2))
 | [],a,_=>by simp
 | e::d,a,hz=>by
  obtain⟨⟨⟨p,r⟩,m,n⟩,k⟩:=hz e (by simp)
  have b:=h.tri.reachedB h.S m n
  have b:reachedB O s.mem e.1.2=dnB O fw e.1.2:=b
  have o:(decide (e.2<2) && dnB O fw e.1.2)=true ↔ e.2<2/\reachedB O s.mem e.1.2=true:=by rw[b,Bool.and_eq_true,decide_eq_true_eq]
  rw[List.foldl_cons]
  by_cases c:e.2<2/\reachedB O s.mem e.1.2=true
  ·have f:Dn O fw e.1.2:=gT.1 (by rw[<-b];exact c.2)
   have j:=k c.1 f
   have t:s.visit O T e.1.1=(s,Fw O fw e.1.1):=h.tri.visit_dn h.S p r j
   have u:s.visit O T e.1.2=(s,Fw O fw e.1.2):=h.tri.visit_dn h.S m n f
   have i:ga O T (s,a) e=(s,a++[(Fw O fw e.1.1,Fw O fw e.1.2)]):=by
    unfold ga
    rw[if_pos c]
    simp only[t,u]
   rw[i,mb h d _ (λx l=>hz x (by simp[l])),List.filter_cons,if_pos (o.2 c)]
   simp
  ·have i:ga O T (s,a) e=(s,a):=by unfold ga;rw[if_neg c]
   rw[i,mb h d _ (λx l=>hz x (by simp[l])),List.filter_cons,if_neg (λq=>c (o.1 q))]
theorem rq(h:On M szM O T g F0 V q P fw al s sz ks){l:List (Int×Int)}{a:List Int}(k: ∀e∈l,kl M szM e)(d: ∀(i:Nat) (e:Int×Int) (v:Int),l[i]?=some e->a[i]?=some v->v<2->Dn O fw e.2->Dn O fw e.1):outG O T s l a=(s,outL O fw l a):=by
 unfold outG outL
 rw[mb h (l.zip a) [] (λe f=>?_),List.nil_append]
 obtain⟨i,j,rfl⟩:=List.getElem_of_mem f
 rw[List.length_zip]at j
 rw[List.getElem_zip]
 exact⟨k _ (List.getElem_mem _),λb c=>d i _ _ (List.getElem?_eq_getElem (by omega)) (List.getElem?_eq_getElem (by omega)) b c⟩
theorem tW(h:On M szM O T g F0 V q P fw al s sz ks){l:List (Int×Int)}{a:List Int}(m: ∀e∈l,kl M szM e)(j: ∀(i:Nat) (e:Int×Int) (v:Int),l[i]?=some e->a[i]?=some v->v<2->Dn O fw e.2->Dn O fw e.1): ∀x∈outL O fw l a,∃e∈l,x=(Fw O fw e.1,Fw O fw e.2)/\Dn O fw e.1/\Dn O fw e.2:=by
 intro x f
 unfold outL at f
 obtain⟨e,c,rfl⟩:=List.mem_map.1 f
 rw[List.mem_filter,Bool.and_eq_true,decide_eq_true_eq]at c
 obtain⟨c,d,b⟩:=c
 have b:=gT.1 b
 obtain⟨i,k,rfl⟩:=List.getElem_of_mem c
 rw[List.length_zip]at k
 rw[List.getElem_zip]at d b⊢
 exact⟨_,List.getElem_mem _,rfl,j i _ _ (List.getElem?_eq_getElem (by omega)) (List.getElem?_eq_getElem (by omega)) d b,b⟩
theorem ta(O:Nat->Bool)(fw:Int->Option Int)(l:List (Int×Int))(a:List Int):(outL O fw l a).length<=l.length:=by
 unfold outL
 rw[List.length_map]
 refine Nat.le_trans (List.length_filter_le _ _) ?_
 rw[List.length_zip];omega
theorem ow{m:Mem}{l:List (Int×Int)}{i:Nat}{e:Int×Int}(b:l[i]?=some e)(h:(fP O m l)[i]?=some 1):aG O e.1/\m.fwd e.1=none:=by
 unfold fP at h
 rw[List.getElem?_map,b]at h
 have h:(if reachedB O m e.1=true then(0:Int)else 1)=1:=Option.some.inj h
 by_cases a:reachedB O m e.1=true
 ·rw[if_pos a]at h;omega
 ·unfold reachedB at a
  rw[Bool.or_eq_true,decide_eq_true_eq]at a
  refine⟨Decidable.byContradiction λq=>a (.inl q),?_⟩
  cases c:m.fwd e.1 with
  | none=>rfl
  | some v=>exact absurd (.inr (by rw[c];rfl)) a
theorem On.settled(t:On M szM O T g F0 V q P fw al s sz ks){l:List (Int×Int)}(E: ∀e∈l,kl M szM e){y:Int->Prop}{G:Int->Option Int}{x:List Int}{c:Int->Option Int}{j:List Int}{f:Sp}{r:Int->Nat}{w:List (Int×Value)}{a:List Int}(h:On M szM O T g F0 y G x c j f r w)(F:Le fw c)
  (R:Rdy O T l s ks (fP O s.mem l) f w a) (hn: ∀i,i<l.length-> ¬Fit O f.mem l a i): ∀(i:Nat) (e:Int×Int) (v:Int),l[i]?=some e->a[i]?=some v->v<2->Dn O c e.2->Dn O c e.1:=by
 intro i e v d u I D
 obtain⟨_,H⟩:=R.lost
 have k:e∈l:=List.mem_of_getElem? d
 obtain⟨⟨z,A⟩,B,C⟩:=E e k
 have m:i<l.length:=by
  rcases Nat.lt_or_ge i l.length with q | q
  ·exact q
  ·rw[List.getElem?_eq_none q]at d;cases d
 have b:=(H i v u).resolve_right (by omega)
 unfold fP at b
 rw[List.getElem?_map,d]at b
 have b:(if reachedB O s.mem e.1=true then(0:Int)else 1)=v:=Option.some.inj b
 by_cases n:reachedB O s.mem e.1=true
 ·have o:reachedB O s.mem e.1=dnB O fw e.1:=t.tri.reachedB t.S z A
  rw[o]at n
  exact(gT.1 n).mono F
 ·rw[if_neg n]at b
  have p:reachedB O f.mem e.2=dnB O c e.2:=h.tri.reachedB h.S B C
  exact absurd ⟨e,d,by rw[u,b],by rw[p];exact gT.2 D⟩ (hn i m)
end
variable{d o:Sp}{i:Int}{j:Int->Nat}{k:List (Int×Value)}{u:Tr}
theorem mn{T c:Int}{a:List Int}(I:Inv d j)(n:0<=c)(p:ic d i T c=0)(B:gS d.mem i T u)(A: ∀w∈a,aC w/\Good d.mem j w)
  (t:dY u.old T (((d.fresh (eM i)).visL u.old T a).1.lookCards u.old T u.cards) u.seen o k) (m:ii u.old T o k):
  ∃e h q,On d.mem j u.old T i d.mem.free (· ∈a) (λ_=>none) [] e h o q k/\((d.fresh (eM i)).visL u.old T a).2=a.map (Fw u.old e)/\o.cf=d.cf:=by
 obtain⟨S,F⟩:=I.static (V:=(· ∈a)) n p B (λv f=>A v f)
 obtain⟨z,y,E,G,_,D,r⟩:=Tri.visL S a (acc:=[]) F (λw C=>C)
 obtain⟨e,h,q,H,x,l,g,_⟩:=Tri.final S G I.marked B rfl rfl (λ_=>rfl) t m
 have b: ∀v,v∈a->Dn u.old e v:=λv f=>(r v f).mono x
 refine⟨e,h,q,⟨S,H,l,g,b⟩,?_,?_⟩
 ·refine Eq.trans D ?_
  rw[List.nil_append]
  exact List.map_congr_left λv f=>(fZ (r v f) x).symm
 ·have s:=ma t
  rw[Sp.lookCards_cf,Sp.visL_cf]at s
  exact s
theorem rt{g T b:Int}{n:Nat}(I:Inv d j)(hm:((n / 32:Nat):Int)<=b)(e:ic d g T b=0)(B:gS d.mem g T u): ∀Z:TZ,Z.m=d.mem->Z.O=u.old->2*((Z.yk 0:Int)+Z.yk 1+Z.yk 2+Z.yk 3)+8+((n / 32:Nat):Int)<=d.mem.free:=λZ c f=>by
 have a:=li (by omega) e
 have h:=qG (Z:=Z) (g:=g) (by rw[c];exact I.ok.mem) a.1.1 (λk hk=>by rw[c,f];exact B.old k hk)
 have i:=a.2
 rw[c]at h
 omega
theorem Rdy.nil{O:Nat->Bool}{b:List (Int×Value)}{lost a:List Int}(R:Rdy O i [] d k lost o b a):o=d/\b=k/\a=lost:=by
 induction R with
 | refl=>exact⟨rfl,rfl,rfl⟩
 | step h e j l g f c m=>simp at e
theorem oM{T f:Int}{a:List Int}{r:Sp}{H:List (Int×Value)}{b:List (Int×Int)}{lost:List Int}(I:Inv d j)(A:((b.length / 32:Nat):Int)<=f)(m:ic d i T f=0)(B:gS d.mem i T u)(Q: ∀w∈a,aC w/\Good d.mem j w)(p: ∀e∈b,kl d.mem j e)
  (N:dY u.old T (((d.fresh (eM i)).visL u.old T a).1.lookCards u.old T u.cards) u.seen o k) (z:ii u.old T o k) (R:Rdy u.old T b o k (fP u.old o.mem b) r H lost) (hn: ∀S,S<b.length-> ¬Fit u.old r.mem b lost S):
  ∃V q P g s E,On d.mem j u.old T i d.mem.free V q P g s r E H/\((d.fresh (eM i)).visL u.old T a).2=a.map (Fw u.old g)/\(∀w∈a,V w)/\(∀(S:Nat) (e:Int×Int) (v:Int),b[S]?=some e->lost[S]?=some v->v<2->Dn u.old g e.2->Dn u.old g e.1)/\r.cf=d.cf/\(b=[]->P=[]/\(∀x,q x=none)/\ ∀v,V v->v∈a):=by
 obtain⟨y,t,F,l,K,G⟩:=mn I (by omega) m B Q N z
 by_cases c:b=[]
 ·subst c
  obtain⟨rfl,rfl,rfl⟩:=R.nil
  exact⟨_,_,_,y,t,F,l,K,λw D=>D,λS e v p=>by simp at p,G,λ_=>⟨rfl,λ_=>rfl,λv C=>C⟩⟩
 obtain⟨V,q,P,g,s,E,n,J,O,L,_,M,_⟩:=l.rdy p (rt I A m B) (lost:=fP u.old o.mem b) (by
  have:(fP u.old o.mem b).countP (λv=>decide (v=1))<=(fP u.old o.mem b).length:=List.countP_le_length
  unfold fP at this⊢
  rw[List.length_map]at this
  simpa using this) (λS e l n=>jO (ow l n).1) R
 refine⟨V,q,P,g,s,E,n,?_,λw D=>M w D,l.settled p n J R hn,L.trans G,λh=>absurd h c⟩
 rw[K]
 exact List.map_congr_left λv C=>(fZ (l.roots v C) J).symm
