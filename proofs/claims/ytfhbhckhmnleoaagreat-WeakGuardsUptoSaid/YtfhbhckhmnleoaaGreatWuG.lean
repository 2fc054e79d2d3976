/-
 Queues of all guardians while a trace is on: what is written where; queues that were not written to. Proves nothing of any one statement.
-/
import Derived.Test.YtfhbhckhmnleoaaGreatWuA
import Derived.Test.YtfhbhckhmnleoaaGreatMvH
import Derived.Test.YtfhbhckhmnleoaaGreatWord
import Derived.Test.YtfhbhckhmnleoaaGreatCol
set_option linter.unusedVariables false
set_option linter.unusedSimpArgs false
namespace Go.Proofs.YtfhbhckhmnleoaaGreat
open Go
structure QC (m:Mem) (a:Int) (L:List (Int×Int)):Prop where
 f1:m.get (a+1)=eQ L
 f2:m.get (a+2)=fD L
 el: ∀l1 e l2,L=l1++e::l2->m.get (e.1 / 8)=e.2/\m.get (e.1 / 8+1)=eQ l2
theorem QC.snoc{m k:Mem}{a p l G:Int}{L:List (Int×Int)}(Q:QC m a L)(I: ∀e∈L,e.1 % 8=1/\e.1 / 8 % 2=0)(Z:(L.map Prod.fst).Nodup)(H: ∀e∈L,e.1 / 8≠a+1/\e.1 / 8≠a+2/\e.1 / 8+1≠a+1/\e.1 / 8+1≠a+2)
  (t:(L=[]/\G=a+1)\/ ∃e∈L,fD L=e.1/\G=e.1 / 8+1) (E:k.get p=l) (F:k.get (p+1)=20)
  (b: ∀x,(x=a+1\/x=a+2\/ ∃e∈L,x=e.1 / 8\/x=e.1 / 8+1)->k.get x=if x=a+2 then p*8+1 else if x=G then p*8+1 else m.get x):QC k a (L++[(p*8+1,l)]):=by
 have A:(p*8+1) / 8=p:=by omega
 refine⟨?_,?_,λw e Y u=>?_⟩
 ·rw[b (a+1) (.inl rfl),if_neg (by omega)]
  rcases t with⟨B,e⟩ | ⟨x,v,u,e⟩
  ·rw[if_pos e.symm,B];rfl
  ·rw[if_neg (λq=>(H x v).2.2.1 (by rw[<-e,<-q])),Q.f1,oy v]
 ·rw[b (a+2) (.inr (.inl rfl)),if_pos rfl,iY];rfl
 ·rcases List.eq_nil_or_concat Y with rfl | ⟨c,z,rfl⟩
  ·obtain⟨i,d⟩:=List.append_inj' u rfl
   have d:(p*8+1,l)=e:=(List.cons.inj d).1
   subst d
   show k.get ((p*8+1) / 8)=l/\k.get ((p*8+1) / 8+1)=20
   rw[A];exact⟨E,F⟩
  ·rw[List.concat_eq_append]at u⊢
   have C:L++[(p*8+1,l)]=(w++e::c)++[z]:=by rw[u];simp
   obtain⟨i,d⟩:=List.append_inj' C rfl
   have d:(p*8+1,l)=z:=(List.cons.inj d).1
   subst d
   have j:e∈L:=by rw[i];simp
   obtain⟨q1,q2⟩:=Q.el w e c i
   obtain⟨w1,ev⟩:=I e j
   obtain⟨a1,J,a3,K⟩:=H e j
   rcases t with⟨B,_⟩ | ⟨x,v,n,R⟩
   ·rw[B]at j;cases j
   obtain⟨w2,S⟩:=I x v
   refine⟨by rw[b _ (.inr (.inr ⟨e,j,.inl rfl⟩)),if_neg J,if_neg (by omega)];exact q1,?_⟩
   rw[b _ (.inr (.inr ⟨e,j,.inr rfl⟩)),if_neg K]
   cases c with
   | nil=>
    have:fD L=e.1:=by rw[i,iY];rfl
    have U:x.1=e.1:=n.symm.trans this
    rw[if_pos (by rw[R,U])];rfl
   | cons f c=>
    have W:x.1≠e.1:=λr=>by
     have h:fD L=fD (f::c):=by
      rw[i,show w++e::f::c=(w++[e])++f::c by simp,iY]
     obtain⟨y,X,D⟩:=iJ f c
     have o:=Z
     rw[i,List.map_append,List.map_cons]at o
     have:=(List.nodup_append.1 o).2.1
     rw[List.nodup_cons]at this
     exact this.1 (by rw[<-r,<-n,h,D];exact List.mem_map_of_mem X)
    rw[if_neg (by omega),q2];rfl
def LL(O:Nat->Bool)(fw:Int->Option Int)(L N:Int->List (Int×Int))(gd:Int):List (Int×Int):=(L gd).map (λe=>(Fw O fw e.1,Fw O fw e.2))++(N gd).map (λe=>(e.1,Fw O fw e.2))
structure GN (M:Mem) (szM:Int->Nat) (O:Nat->Bool) (L N:Int->List (Int×Int)) (fw:Int->Option Int) (q:Int->Option Int) (P:List Int):Prop where
 pw: ∀gd,∀e∈N gd,IsG M szM gd/\Dn O fw gd/\e.1 % 8=1/\Dn O fw e.2/\aC e.2/\Good M szM e.2
 pn: ∀p,p∈P ↔ ∃gd,∃e∈N gd,p=e.1 / 8
 pd: ∀gd gd',∀e∈N gd,∀e'∈N gd',e.1=e'.1->gd=gd'
 nd: ∀gd,((N gd).map Prod.fst).Nodup
 dl: ∀gd,N gd≠[]-> ∀e∈L gd,Dn O fw e.1
 qn: ∀y,q y≠none-> ∃gd,N gd≠[]/\(y=Fw O fw gd / 8+1\/y=Fw O fw gd / 8+2\/(∃e∈L gd,y=Fw O fw e.1 / 8+1)\/ ∃e∈N gd,y=e.1 / 8\/y=e.1 / 8+1)
def Th(O:Nat->Bool)(fw:Int->Option Int)(L N:Int->List (Int×Int))(gd c:Int):Prop:=c=Fw O fw gd / 8\/(∃e∈L gd,Dn O fw e.1/\c=Fw O fw e.1 / 8)\/ ∃e∈N gd,c=e.1 / 8
section
variable {M:Mem} {szM:Int->Nat} {O:Nat->Bool} {T g F0:Int} {V:Int->Prop} {q:Int->Option Int} {P:List Int} {fw:Int->Option Int} {al:List Int} {s:Sp} {sz:Int->Nat} {ks:List (Int×Value)} {L N:Int->List (Int×Int)}
theorem GN.has(n:GN M szM O L N fw q P){a:Int}(h:N a≠[]):IsG M szM a/\Dn O fw a:=by
 cases b:N a with
 | nil=>exact absurd b h
 | cons e l=>
  obtain⟨c,d,_⟩:=n.pw a e (by rw[b];simp)
  exact⟨c,d⟩
theorem GN.size(n:GN M szM O L N fw q P)(h:On M szM O T g F0 V q P fw al s sz ks)(I:GI M szM L){a c:Int}(G:IsG M szM a)(l:Dn O fw a)(t:Th O fw L N a c):(c=Fw O fw a / 8/\sz c=3/\s.mem.kAt c=2)\/(sz c=2/\s.mem.kAt c=0/\c % 2=0):=by
 have S:=h.S
 have u:aX M:=S.ok
 rcases t with rfl | ⟨e,f,j,rfl⟩ | ⟨e,f,rfl⟩
 ·left
  obtain⟨x,r⟩:=I.size S.sound u G
  obtain⟨b,d⟩:=h.at' G.word G.good G.isTag l
  have:=(d 0 (by omega)).2.2.1
  exact⟨rfl,by rw[b,x],by rw[show Fw O fw a / 8=Fw O fw a / 8+((0:Nat):Int)by simp,this,r]⟩
 ·right
  obtain⟨v,k,w,i,y⟩:=I.pairM S.sound G f
  have m:isTag e.1:=by unfold isTag;omega
  obtain⟨b,d⟩:=h.at' v k m j
  have hk:=(d 0 (by omega)).2.2.1
  rw[show Fw O fw e.1 / 8+((0:Nat):Int)=Fw O fw e.1 / 8 by simp]at hk
  have o:sz (Fw O fw e.1 / 8)≠0:=by rw[b];omega
  exact⟨by rw[b,w],by rw[hk,i],(h.tri.pairs S o (by rw[hk,i];decide)).2⟩
 ·right
  have p:=h.tri.pair (e.1 / 8) ((n.pn _).2 ⟨a,e,f,rfl⟩)
  exact⟨p.sz,p.kind,p.even⟩
theorem GN.one(n:GN M szM O L N fw q P)(h:On M szM O T g F0 V q P fw al s sz ks)(I:GI M szM L){o d c:Int}(G:IsG M szM o)(y:Dn O fw o)(i:IsG M szM d)(l:Dn O fw d)(t:Th O fw L N o c)(A:Th O fw L N d c):o=d:=by
 have S:=h.S
 have R:=n.size h I G y t
 have U:=n.size h I i l A
 have key: ∀{e f:Int×Int},e∈L o->Dn O fw e.1->f∈L d->Dn O fw f.1->Fw O fw e.1 / 8=Fw O fw f.1 / 8->o=d:=λ{e f} m u j v q=>by
  obtain⟨_,x,_,_,E⟩:=I.pairM S.sound G m
  obtain⟨_,J,_,_,X⟩:=I.pairM S.sound i j
  by_cases w:e.1 / 8=f.1 / 8
  ·exact I.dj o d G i e m f j (by omega)
  ·exact absurd q (h.inj x (by unfold isTag;omega) u J (by unfold isTag;omega) v w)
 have D: ∀{a b:Int} {e f:Int×Int},IsG M szM a->e∈L a->Dn O fw e.1->f∈N b->Fw O fw e.1 / 8≠f.1 / 8:=λ{a b e f} H m u j=>by
  obtain⟨_,x,_,_,E⟩:=I.pairM S.sound H m
  exact h.notP x (by unfold isTag;omega) u ((n.pn _).2 ⟨b,f,j,rfl⟩)
 rcases t with rfl | ⟨e,m,u,rfl⟩ | ⟨e,m,rfl⟩
 ·rcases A with r | ⟨f,j,v,r⟩ | ⟨f,j,r⟩
  ·by_cases w:o / 8=d / 8
   ·have:=G.tag
    have:=i.tag
    omega
   ·exact absurd r (h.inj G.good G.isTag y i.good i.isTag l w)
  ·rcases R with⟨_,_,k⟩ | ⟨k,_⟩
   ·rcases U with⟨_,z,_⟩ | ⟨_,Q,_⟩
    ·have:=(n.size h I i l (.inr (.inl ⟨f,j,v,rfl⟩)))
     rw[<-r]at this
     rcases this with⟨q,_⟩ | ⟨_,Q,_⟩
     ·by_cases w:o / 8=d / 8
      ·have:=G.tag
       have:=i.tag
       omega
      ·exact absurd q (h.inj G.good G.isTag y i.good i.isTag l w)
     ·omega
    ·omega
   ·obtain⟨B,_⟩:=I.size S.sound S.ok G
    have:=(h.at' G.word G.good G.isTag y).1
    omega
  ·have p:=h.tri.pair (f.1 / 8) ((n.pn _).2 ⟨d,f,j,rfl⟩)
   have:=p.sz
   have B:=(I.size S.sound S.ok G).1
   have C:=(h.at' G.word G.good G.isTag y).1
   have this:sz (f.1 / 8)=2:=this
   rw[<-r]at this
   omega
 ·rcases A with r | ⟨f,j,v,r⟩ | ⟨f,j,r⟩
  ·have B:=(I.size S.sound S.ok i).1
   have C:=(h.at' i.word i.good i.isTag l).1
   obtain⟨F,x,Z,W,E⟩:=I.pairM S.sound G m
   have K:=(h.at' F x (by unfold isTag;omega) u).1
   rw[r]at K
   omega
  ·exact key m u j v r
  ·exact absurd r (D G m u j)
 ·rcases A with r | ⟨f,j,v,r⟩ | ⟨f,j,r⟩
  ·have p:=h.tri.pair (e.1 / 8) ((n.pn _).2 ⟨o,e,m,rfl⟩)
   have this:sz (e.1 / 8)=2:=p.sz
   have B:=(I.size S.sound S.ok i).1
   have C:=(h.at' i.word i.good i.isTag l).1
   rw[r]at this
   omega
  ·exact absurd r.symm (D i j v m)
  ·have F:=(n.pw o e m).2.2.1
   have Y:=(n.pw d f j).2.2.1
   exact n.pd o d e m f j (by omega)
theorem GN.at'(n:GN M szM O L N fw q P)(h:On M szM O T g F0 V q P fw al s sz ks)(I:GI M szM L){y:Int}(k:q y≠none): ∃a c,∃i:Nat,N a≠[]/\Th O fw L N a c/\i<sz c/\y=c+i:=by
 obtain⟨a,b,j⟩:=n.qn y k
 obtain⟨G,f⟩:=n.has b
 have z: ∀{c:Int},Th O fw L N a c->2<=sz c:=λt=>by
  rcases n.size h I G f t with⟨_,z,_⟩ | ⟨z,_⟩<;>omega
 rcases j with r | r | ⟨e,d,r⟩ | ⟨e,d,r | r⟩
 ·have t:Th O fw L N a (Fw O fw a / 8):=.inl rfl
  exact⟨a,_,1,b,t,by have:=z t;omega,r⟩
 ·have t:Th O fw L N a (Fw O fw a / 8):=.inl rfl
  have l:sz (Fw O fw a / 8)=3:=by
   rw[(h.at' G.word G.good G.isTag f).1];exact(I.size h.S.sound h.S.ok G).1
  exact⟨a,_,2,b,t,by omega,r⟩
 ·have t:Th O fw L N a (Fw O fw e.1 / 8):=.inr (.inl ⟨e,d,n.dl a b e d,rfl⟩)
  exact⟨a,_,1,b,t,by have:=z t;omega,r⟩
 ·have t:Th O fw L N a (e.1 / 8):=.inr (.inr ⟨e,d,rfl⟩)
  exact⟨a,_,0,b,t,by have:=z t;omega,by rw[r];simp⟩
 ·have t:Th O fw L N a (e.1 / 8):=.inr (.inr ⟨e,d,rfl⟩)
  exact⟨a,_,1,b,t,by have:=z t;omega,r⟩
theorem GN.free(n:GN M szM O L N fw q P)(h:On M szM O T g F0 V q P fw al s sz ks)(I:GI M szM L){b c:Int}{i:Nat}(G:IsG M szM b)(m:Dn O fw b)(l:N b=[])(t:Th O fw L N b c)(o:i<sz c):q (c+i)=none:=Classical.byContradiction λr=>by
 obtain⟨k,v,j,a,u,p,e⟩:=n.at' h I r
 obtain⟨f,d⟩:=n.has a
 have:=h.far o p e
 subst this
 have:=n.one h I G m f d t u
 subst this
 exact a l
theorem GN.bare(n:GN M szM O L N fw q P)(h:On M szM O T g F0 V q P fw al s sz ks)(I:GI M szM L){a:Int}(G:IsG M szM a)(B:Dn O fw a)(K:N a=[]):
  (∀e∈L a,Dn O fw e.1/\Dn O fw e.2)/\QC s.mem (Fw O fw a / 8) ((L a).map λe=>(Fw O fw e.1,Fw O fw e.2)):=by
 have S:=h.S
 have ok:aX M:=S.ok
 obtain⟨z3,k2⟩:=I.size S.sound ok G
 obtain⟨hz,hat⟩:=h.at' G.word G.good G.isTag B
 have r: ∀i:Nat,i<3->Dn O fw (M.get (a / 8+i))/\s.mem.get (Fw O fw a / 8+i)=Fw O fw (M.get (a / 8+i)):=λi X=>by
  obtain⟨u,o,k,f⟩:=hat i (by omega)
  exact f ⟨by omega,.inl (by omega)⟩ (n.free h I G B K (.inl rfl) (by omega))
 have A:=r 1 (by decide)
 have J:=r 2 (by decide)
 rw[show a / 8+((1:Nat):Int)=a / 8+1 from rfl,I.f1 a G]at A
 rw[show a / 8+((2:Nat):Int)=a / 8+2 from rfl,I.f2 a G]at J
 have m: ∀j e c,L a=j++e::c->Dn O fw e.1->Dn O fw e.2/\Dn O fw (eQ c)/\s.mem.get (Fw O fw e.1 / 8)=Fw O fw e.2/\s.mem.get (Fw O fw e.1 / 8+1)=Fw O fw (eQ c):=λj e c p H=>by
  obtain⟨R,W,z2,k0,t1⟩:=I.pair S.sound G p
  obtain⟨ez,z⟩:=h.at' R.word W R.isTag H
  have b:e∈L a:=by rw[p];simp
  have U: ∀i:Nat,i<2->Dn O fw (M.get (e.1 / 8+i))/\s.mem.get (Fw O fw e.1 / 8+i)=Fw O fw (M.get (e.1 / 8+i)):=λi X=>by
   obtain⟨u,o,k,f⟩:=z i (by omega)
   exact f ⟨by omega,.inl (by omega)⟩ (n.free h I G B K (.inr (.inl ⟨e,b,H,rfl⟩)) (by omega))
  have E:=U 0 (by decide)
  have F:=U 1 (by decide)
  rw[show e.1 / 8+((0:Nat):Int)=e.1 / 8 by simp,R.car,show Fw O fw e.1 / 8+((0:Nat):Int)=Fw O fw e.1 / 8 by simp]at E
  rw[show e.1 / 8+((1:Nat):Int)=e.1 / 8+1 from rfl,R.cdr]at F
  exact⟨E.1,F.1,E.2,F.2⟩
 have y: ∀c j,L a=j++c->Dn O fw (eQ c)-> ∀e∈c,Dn O fw e.1:=λc=>by
  induction c with
  | nil=>intro j _ _ e b;cases b
  | cons x l D=>
   intro j p v e b
   rcases List.mem_cons.1 b with rfl | b
   ·exact v
   ·exact D (j++[x]) (by rw[p];simp) (m j x l p v).2.1 e b
 have d:=y (L a) [] rfl A.1
 have t: ∀e∈L a,Dn O fw e.2:=λe b=>by
  obtain⟨j,c,p⟩:=List.append_of_mem b
  exact(m j e c p (d e b)).1
 refine⟨λe b=>⟨d e b,t e b⟩,?_,?_,λj e c p=>?_⟩
 ·rw[show Fw O fw a / 8+1=Fw O fw a / 8+((1:Nat):Int)from rfl,A.2]
  cases L a with
  | nil=>exact pM
  | cons e l=>rfl
 ·rw[show Fw O fw a / 8+2=Fw O fw a / 8+((2:Nat):Int)from rfl,J.2]
  have: ∀l:List (Int×Int),Fw O fw (fD l)=fD (l.map λe=>(Fw O fw e.1,Fw O fw e.2)):=λl=>by
   induction l with
   | nil=>exact pM
   | cons e l D=>
    cases l with
    | nil=>rfl
    | cons f l=>exact D
  exact this _
 ·obtain⟨Z,k2,w,rfl,C⟩:=List.map_eq_append_iff.1 p
  obtain⟨x,Q,rfl,rfl,rfl⟩:=List.map_eq_cons_iff.1 C
  have Y:x∈L a:=by rw[w];simp
  obtain⟨_,_,s1,s2⟩:=m Z x Q w (d x Y)
  refine⟨s1,?_⟩
  show s.mem.get (Fw O fw x.1 / 8+1)=_
  rw[s2]
  cases Q with
  | nil=>exact pM
  | cons e l=>rfl
end
theorem QC.keep{m d:Mem}{a:Int}{L:List (Int×Int)}(Q:QC m a L)(h: ∀y,(y=a+1\/y=a+2\/ ∃e∈L,y=e.1 / 8\/y=e.1 / 8+1)->d.get y=m.get y):QC d a L:=
 ⟨by rw[h _ (.inl rfl)];exact Q.f1,by rw[h _ (.inr (.inl rfl))];exact Q.f2,λf e i c=>by
  have b:e∈L:=by rw[c];simp
  obtain⟨j,k⟩:=Q.el f e i c
  exact⟨by rw[h _ (.inr (.inr ⟨e,b,.inl rfl⟩))];exact j,by rw[h _ (.inr (.inr ⟨e,b,.inr rfl⟩))];exact k⟩⟩
structure GS (M:Mem) (szM:Int->Nat) (O:Nat->Bool) (L N:Int->List (Int×Int)) (fw:Int->Option Int) (q:Int->Option Int) (P:List Int) (m:Mem):Prop extends GN M szM O L N fw q P where
 ch: ∀gd,IsG M szM gd->Dn O fw gd->(∀e∈L gd,Dn O fw e.1/\Dn O fw e.2)/\QC m (Fw O fw gd / 8) (LL O fw L N gd)
def cntN(N:Int->List (Int×Int))(gd o:Int):Nat:=((N gd).map Prod.snd).count o
section
variable {M:Mem} {szM:Int->Nat} {O:Nat->Bool} {T g F0:Int} {V:Int->Prop} {q:Int->Option Int} {P:List Int} {fw:Int->Option Int} {al:List Int} {s:Sp} {sz:Int->Nat} {ks:List (Int×Value)} {L N:Int->List (Int×Int)}
theorem tp{a:Int}(h:N a=[]):LL O fw L N a=(L a).map λe=>(Fw O fw e.1,Fw O fw e.2):=by unfold LL;rw[h];simp
theorem GS.first(h:On M szM O T g F0 V (λ_=>none) [] fw al s sz ks)(I:GI M szM L):GS M szM O L (λ_=> []) fw (λ_=>none) [] s.mem:=by
 have n:GN M szM O L (λ_=> []) fw (λ_=>none) []:=⟨λb e a=>(by cases a),λp=>⟨λh=>(by cases h),λ⟨_,e,a,_⟩=>(by cases a)⟩,λb c e a=>(by cases a),λb=>List.nodup_nil,λb h=>absurd rfl h,λy j=>absurd rfl j⟩
 refine⟨n,λb G i=>?_⟩
 obtain⟨d,f⟩:=n.bare h I G i rfl
 exact⟨d,by rw[tp rfl];exact f⟩
theorem GN.mem(n:GN M szM O L N fw q P)(h:On M szM O T g F0 V q P fw al s sz ks)(I:GI M szM L){a:Int}(G:IsG M szM a)(j:Dn O fw a)(d: ∀e∈L a,Dn O fw e.1){e:Int×Int}(c:e∈LL O fw L N a):Th O fw L N a (e.1 / 8)/\e.1 % 8=1/\e.1 / 8 % 2=0/\sz (e.1 / 8)=2/\s.mem.kAt (e.1 / 8)=0:=by
 have key:Th O fw L N a (e.1 / 8)/\e.1 % 8=1/\sz (e.1 / 8)=2:=by
  unfold LL at c
  rcases List.mem_append.1 c with c | c
  ·obtain⟨x,b,rfl⟩:=List.mem_map.1 c
   obtain⟨m,i,o,p,l⟩:=I.pairM h.S.sound G b
   refine⟨.inr (.inl ⟨x,b,d x b,rfl⟩),?_,?_⟩
   ·show Fw O fw x.1 % 8=1
    rw[lm];exact l
   ·rw[(h.at' m i (by unfold isTag;omega) (d x b)).1,o]
  ·obtain⟨x,b,rfl⟩:=List.mem_map.1 c
   exact⟨.inr (.inr ⟨x,b,rfl⟩),(n.pw a x b).2.2.1,(h.tri.pair _ ((n.pn _).2 ⟨a,x,b,rfl⟩)).sz⟩
 obtain⟨t,w,z⟩:=key
 rcases n.size h I G j t with⟨_,r,_⟩ | ⟨_,k,f⟩
 ·omega
 ·exact⟨t,w,f,z,k⟩
theorem GN.nodup(n:GN M szM O L N fw q P)(h:On M szM O T g F0 V q P fw al s sz ks)(I:GI M szM L){c:Int}(G:IsG M szM c)(k: ∀e∈L c,Dn O fw e.1):((LL O fw L N c).map Prod.fst).Nodup:=by
 have S:=h.S
 unfold LL
 rw[List.map_append,List.map_map,List.map_map,List.nodup_append]
 refine⟨?_,n.nd c,λa p b r e=>?_⟩
 ·have j:=I.nd c G
  unfold List.Nodup at j⊢
  rw[List.pairwise_map]at j⊢
  refine j.imp_of_mem λ{x y} d f l q=>l ?_
  obtain⟨_,i,_,_,t⟩:=I.pairM S.sound G d
  obtain⟨_,o,_,_,u⟩:=I.pairM S.sound G f
  by_cases m:x.1 / 8=y.1 / 8
  ·omega
  ·have q:Fw O fw x.1=Fw O fw y.1:=q
   exact absurd (by rw[q]) (h.inj i (by unfold isTag;omega) (k x d) o (by unfold isTag;omega) (k y f) m)
 ·obtain⟨x,d,rfl⟩:=List.mem_map.1 p
  obtain⟨y,f,rfl⟩:=List.mem_map.1 r
  obtain⟨_,i,_,_,t⟩:=I.pairM S.sound G d
  have e:Fw O fw x.1=y.1:=e
  exact h.notP i (by unfold isTag;omega) (k x d) ((n.pn _).2 ⟨c,y,f,rfl⟩) (by rw[e])
theorem On.header(h:On M szM O T g F0 V q P fw al s sz ks){a:Int}(j:aC a)(c:Good M szM a)(l:a % 8=3)(e:Dn O fw a)(m:M.kAt (a / 8)=2):s.mem.get (Fw O fw a / 8)=M.get (a / 8):=by
 have S:=h.S
 have d:isTag a:=by unfold isTag;omega
 have b:=(c.2 d).1
 obtain⟨z,hat⟩:=h.at' j c d e
 obtain⟨u,o,k,f⟩:=hat 0 (Nat.pos_of_ne_zero b)
 rw[show Fw O fw a / 8+((0:Nat):Int)=Fw O fw a / 8 by simp,show a / 8+((0:Nat):Int)=a / 8 by simp]at f
 rw[show Fw O fw a / 8+((0:Nat):Int)=Fw O fw a / 8 by simp]at k
 have:=(f ⟨by omega,.inl (by omega)⟩ (h.noHead (by rw[z];exact b) (by omega))).2
 have i:gJ (M.get (a / 8)):=(S.sound.obj _ b (by show 2<=M.kAt (a / 8);omega)).1
 rw[this,ft (jh i _)]
theorem On.guardian(h:On M szM O T g F0 V q P fw al s sz ks)(I:GI M szM L){a:Int}(c:aC a)(b:Good M szM a)(f:Dn O fw a):(s.mem.typ (Fw O fw a)=10/\s.mem.len (Fw O fw a)=2) ↔ IsG M szM a:=by
 have S:=h.S
 have w:aX M:=S.ok
 constructor
 ·rintro⟨t,l⟩
  by_cases i:s.mem.isObj (Fw O fw a)
  ·have m:Fw O fw a % 8=3:=i.1.2.1
   rw[lm]at m
   have n:isTag a:=by unfold isTag;omega
   have o:hk (s.mem.get (Fw O fw a / 8))=10:=by unfold Mem.typ at t;rw[if_pos i]at t;exact t
   have d:s.mem.kAt (Fw O fw a / 8)=rawK (hk (s.mem.get (Fw O fw a / 8))):=i.1.2.2.2.1
   rw[o]at d
   have v:=(b.2 n).1
   have k:=((h.at' c b n f).2 0 (Nat.pos_of_ne_zero v)).2.2.1
   rw[show Fw O fw a / 8+((0:Nat):Int)=Fw O fw a / 8 by simp,d]at k
   have j:M.kAt (a / 8)=2:=k.symm
   exact⟨c,b,m,by rw[<-h.header c b m f j];exact o⟩
  ·unfold Mem.typ at t
   rw[if_neg i]at t;exact absurd t (by decide)
 ·intro G
  obtain⟨_,j⟩:=I.size S.sound w G
  have e:=h.header c b G.tag f j
  obtain⟨x,r,u⟩:=h.tri.goodFw S c b f
  have p:=h.tri.gdAt S r u (by rw[lm];exact G.tag) (by
   show hk (s.mem.get (Fw O fw a / 8))=10/\hn (s.mem.get (Fw O fw a / 8))=2
   rw[e];exact⟨G.kind,I.two a G⟩)
  exact(p.isObj h.tri).2
theorem ud{a:Int->Option Int}(d:Le fw a){b:Int}(f: ∀e∈L b,Dn O fw e.1/\Dn O fw e.2)(h: ∀e∈N b,Dn O fw e.2):LL O a L N b=LL O fw L N b:=by
 unfold LL
 congr 1
 ·exact List.map_congr_left λe c=>by rw[fZ (f e c).1 d,fZ (f e c).2 d]
 ·exact List.map_congr_left λe c=>by rw[fZ (h e c) d]
theorem last_at{F:Int}{l:List (Int×Int)}(c: ∀e∈l,e.1 % 8=1):(l=[]/\(if jX (fD l)then fD l / 8+1 else F+1)=F+1)\/ ∃e∈l,fD l=e.1/\(if jX (fD l)then fD l / 8+1 else F+1)=e.1 / 8+1:=by
 cases l with
 | nil=>exact .inl ⟨rfl,if_neg (by decide)⟩
 | cons e l=>
  obtain⟨x,b,a⟩:=iJ e l
  exact .inr ⟨x,b,a,by rw[a,if_pos (.inl (c x b))]⟩
theorem GS.step(h:On M szM O T g F0 V q P fw al s sz ks)(I:GI M szM L)(gs:GS M szM O L N fw q P s.mem){o A:Int}(b4:aC o)(b3:Good M szM o)(bq:isTag o)(aw:aC A)(av:Good M szM A)(hr:reachedB O s.mem A=true)
  (ax: ∀Z:TZ,Z.m=M->Z.O=O->2*((Z.yk 0:Int)+Z.yk 1+Z.yk 2+Z.yk 3)+8+(((P.length+1) / 32:Nat):Int)<=F0) {s2:Sp} {az:List (Int×Value)} (bo:dY O T (lk O T s (o,A)) ks s2 az) (bn:ii O T s2 az):
  ∃q' P' w ab ai E,On M szM O T g F0 (λv=>v=o\/V v) q' P' w ab s2 ai az/\Le fw w/\P'.length<=P.length+1/\GS M szM O L E w q' P' s2.mem/\(∀d o',cntN N d o'<=cntN E d o')/\(IsG M szM A->cntN N A o+1<=cntN E A o):=by
 have S:=h.S
 have D:Dn O fw A:=by
  have e:reachedB O s.mem A=dnB O fw A:=h.tri.reachedB h.S aw av
  rw[e]at hr
  exact gT.1 hr
 have b5:=h.guardian I aw av D
 obtain⟨q',P',w,ab,ai,W⟩:=h.ready b4 b3 bq aw av hr ax bo bn
 have J:=W.le
 have ON:=W.on
 have n:=gs.toGN
 have dl: ∀d,IsG M szM d->Dn O fw d-> ∀e∈L d,Dn O fw e.1:=λd G C e f=>((gs.ch d G C).1 e f).1
 have pl: ∀d,IsG M szM d->Dn O fw d-> ∀y,(y=Fw O fw d / 8+1\/y=Fw O fw d / 8+2\/ ∃e∈LL O fw L N d,y=e.1 / 8\/y=e.1 / 8+1)-> ∃c,∃i:Nat,Th O fw L N d c/\i<sz c/\y=c+i/\s.mem.used y/\O (y / 64).toNat=false:=λd G C y hy=>by
  have bQ:sz (Fw O fw d / 8)=3:=by rw[(h.at' G.word G.good G.isTag C).1];exact(I.size S.sound S.ok G).1
  have aS: ∀i:Nat,i<3->s.mem.used (Fw O fw d / 8+i)/\O ((Fw O fw d / 8+i) / 64).toNat=false:=λi hi=>by
   obtain⟨a,b,_⟩:=(h.at' G.word G.good G.isTag C).2 i (by have:=(I.size S.sound S.ok G).1;omega)
   exact⟨a,b⟩
  have aT: ∀e∈LL O fw L N d,∀i:Nat,i<2->s.mem.used (e.1 / 8+i)/\O ((e.1 / 8+i) / 64).toNat=false:=λe f i hi=>by
   unfold LL at f
   rcases List.mem_append.1 f with f | f
   ·obtain⟨x,K,rfl⟩:=List.mem_map.1 f
    obtain⟨w1,g1,z2,k0,t1⟩:=I.pairM S.sound G K
    obtain⟨a,b,_⟩:=(h.at' w1 g1 (by unfold isTag;omega) (dl d G C x K)).2 i (by omega)
    exact⟨a,b⟩
   ·obtain⟨x,K,rfl⟩:=List.mem_map.1 f
    have p:=h.tri.pair (x.1 / 8) ((n.pn _).2 ⟨d,x,K,rfl⟩)
    have ev:=p.even
    have ho:O (x.1 / 8 / 64).toNat=false:=p.out
    rcases(show i=0\/i=1 by omega)with rfl | rfl
    ·exact⟨by simpa using p.used.1,by simpa using ho⟩
    ·exact⟨p.used.2,by rw[show(x.1 / 8+((1:Nat):Int)) / 64=x.1 / 8 / 64 by omega];exact ho⟩
  rcases hy with rfl | rfl | ⟨e,f,rfl | rfl⟩
  ·exact⟨_,1,.inl rfl,by omega,rfl,aS 1 (by decide)⟩
  ·exact⟨_,2,.inl rfl,by omega,rfl,aS 2 (by decide)⟩
  ·obtain⟨t,_,_,z,_⟩:=n.mem h I G C (dl d G C) f
   exact⟨_,0,t,by omega,by simp,by simpa using aT e f 0 (by decide)⟩
  ·obtain⟨t,_,_,z,_⟩:=n.mem h I G C (dl d G C) f
   exact⟨_,1,t,by omega,rfl,aT e f 1 (by decide)⟩
 have b0: ∀(E:Int->List (Int×Int)),GN M szM O L E w q' P'->(∀d,IsG M szM d->Dn O fw d->QC s2.mem (Fw O w d / 8) (LL O w L E d))->(∀d,¬Dn O fw d->E d=[])->GS M szM O L E w q' P' s2.mem:=λE n' hq af=>⟨n',λd G C=>by
  by_cases a2:Dn O fw d
  ·exact⟨λe f=>⟨((gs.ch d G a2).1 e f).1.mono J,((gs.ch d G a2).1 e f).2.mono J⟩,hq d G a2⟩
  ·obtain⟨h1,h2⟩:=n'.bare ON I G C (af d a2)
   exact⟨h1,by rw[tp (af d a2)];exact h2⟩⟩
 have b8: ∀d,¬Dn O fw d->N d=[]:=λd C=>by
  cases hN:N d with
  | nil=>rfl
  | cons e l=>exact absurd (n.pw d e (by rw[hN];simp)).2.1 C
 have H: ∀d,IsG M szM d->Dn O fw d->Fw O w d=Fw O fw d/\LL O w L N d=LL O fw L N d:=λd G C=>⟨fZ C J,ud J (gs.ch d G C).1 (λe f=>(n.pw d e f).2.2.2.1)⟩
 have b9: ∀y,q y≠none-> ∃d,N d≠[]/\(y=Fw O w d / 8+1\/y=Fw O w d / 8+2\/(∃e∈L d,y=Fw O w e.1 / 8+1)\/ ∃e∈N d,y=e.1 / 8\/y=e.1 / 8+1):=λy hy=>by
  obtain⟨d,hN,hh⟩:=n.qn y hy
  obtain⟨G,C⟩:=n.has hN
  refine⟨d,hN,?_⟩
  rw[fZ C J]
  rcases hh with r | r | ⟨e,f,r⟩ | r
  ·exact .inl r
  ·exact .inr (.inl r)
  ·exact .inr (.inr (.inl ⟨e,f,by rw[fZ (n.dl d hN e f) J];exact r⟩))
  ·exact .inr (.inr (.inr r))
 rcases W.how with⟨af,rfl,rfl,a3⟩ | ⟨b7,p,ap,n1,n2,a3⟩
 ·-- it is no guardian
  have hG: ¬IsG M szM A:=λG=>af (b5.2 G)
  have n':GN M szM O L N w q' P':=⟨λd e f=>by
   obtain⟨a1,bf,bg,a4,bk⟩:=n.pw d e f
   exact⟨a1,bf.mono J,bg,a4.mono J,bk⟩,n.pn,n.pd,n.nd,λd hN e f=>(n.dl d hN e f).mono J,b9⟩
  refine⟨q',P',w,ab,ai,N,ON,J,by omega,b0 N n' (λd G C=>?_) b8,λ_ _=>Nat.le_refl _,λG=>absurd G hG⟩
  rw[(H d G C).1,(H d G C).2]
  refine(gs.ch d G C).2.keep λy hy=>?_
  obtain⟨c,i,_,_,_,u,ho⟩:=pl d G C y hy
  exact a3 y u ho
 have R:=b5.1 b7
 have ao: ∀d,∀e∈N d,e.1 / 8≠p:=λd e f r=>by
  have:=(h.tri.pair (e.1 / 8) ((n.pn _).2 ⟨d,e,f,rfl⟩)).used.1
  rw[r]at this;exact n1 this
 obtain⟨F,hF⟩: ∃F,F=Fw O fw A / 8:=⟨_,rfl⟩
 have Q0:=(gs.ch A R D).2
 have bB: ∀e∈LL O fw L N A,e.1 % 8=1:=λe f=>(n.mem h I R D (dl A R D) f).2.1
 have ag:=last_at (F:=F) bB
 obtain⟨xl,ay⟩: ∃xl,xl=if jX (fD (LL O fw L N A))then fD (LL O fw L N A) / 8+1 else F+1:=⟨_,rfl⟩
 rw[<-ay]at ag
 rw[<-hF]at Q0
 have Q: ∀x,(s.mem.used x/\O (x / 64).toNat=false)\/x=p\/x=p+1->s2.mem.get x=if x=p then Fw O w o else if x=p+1 then 20 else if x=F+2 then p*8+1 else if x=xl then p*8+1 else s.mem.get x:=λx K=>by
  rw[a3 x K]
  unfold kI
  rw[<-hF,Q0.f2,<-ay]
 have b6: ∀x,s.mem.used x->O (x / 64).toNat=false->s2.mem.get x=if x=F+2 then p*8+1 else if x=xl then p*8+1 else s.mem.get x:=λx hu ho=>by
  rw[Q x (.inl ⟨hu,ho⟩),if_neg (show ¬x=p from λe=>n1 (by rw[<-e];exact hu)),if_neg (show ¬x=p+1 from λe=>n2 (by rw[<-e];exact hu))]
 have bE:sz (Fw O fw A / 8)=3:=by rw[(h.at' R.word R.good R.isTag D).1];exact(I.size S.sound S.ok R).1
 have bb: ∃c,∃i:Nat,Th O fw L N A c/\i<sz c/\xl=c+i:=by
  rcases ag with⟨_,e⟩ | ⟨e,f,_,r⟩
  ·exact⟨Fw O fw A / 8,1,.inl rfl,by omega,by rw[e,hF];rfl⟩
  ·obtain⟨t,_,_,z,_⟩:=n.mem h I R D (dl A R D) f
   exact⟨_,1,t,by omega,r⟩
 obtain⟨E,b2⟩: ∃E:Int->List (Int×Int),E=λd=>if d=A then N A++[(p*8+1,o)]else N d:=⟨_,rfl⟩
 have N0:E A=N A++[(p*8+1,o)]:=by rw[b2];exact if_pos rfl
 have N1: ∀d,d≠A->E d=N d:=λd B=>by rw[b2];exact if_neg B
 have X: ∀d,∀e∈E d,e∈N d\/(d=A/\e=(p*8+1,o)):=λd e f=>by
  by_cases B:d=A
  ·subst B
   rw[N0]at f
   rcases List.mem_append.1 f with f | f
   ·exact .inl f
   ·exact .inr ⟨rfl,by simpa using f⟩
  ·rw[N1 d B]at f;exact .inl f
 have Y: ∀d,∀e∈N d,e∈E d:=λd e f=>by
  by_cases B:d=A
  ·subst B;rw[N0];exact List.mem_append_left _ f
  ·rw[N1 d B];exact f
 have a0:(p*8+1) / 8=p:=by omega
 have n':GN M szM O L E w q' P':=by
  refine⟨λd e f=>?_,λy=>?_,λd an e f e' ae au=>?_,λd=>?_,λd hN e f=>?_,λy hy=>?_⟩
  ·rcases X d e f with f | ⟨rfl,rfl⟩
   ·obtain⟨a1,bf,bg,a4,bk⟩:=n.pw d e f
    exact⟨a1,bf.mono J,bg,a4.mono J,bk⟩
   ·exact⟨R,D.mono J,by show(p*8+1) % 8=1;omega,ON.roots o (.inl rfl),b4,b3⟩
  ·rw[ap,List.mem_cons,n.pn]
   constructor
   ·rintro(r | ⟨d,e,f,r⟩)
    ·exact⟨A,(p*8+1,o),by rw[N0];simp,by rw[r,a0]⟩
    ·exact⟨d,e,Y d e f,r⟩
   ·rintro⟨d,e,f,r⟩
    rcases X d e f with f | ⟨rfl,rfl⟩
    ·exact .inr ⟨d,e,f,r⟩
    ·exact .inl (by rw[r,a0])
  ·rcases X d e f with f | ⟨rfl,rfl⟩<;>rcases X an e' ae with ae | ⟨rfl,rfl⟩
   ·exact n.pd d an e f e' ae au
   ·exact absurd (by rw[au,a0]) (ao d e f)
   ·exact absurd (by rw[<-au,a0]) (ao an e' ae)
   ·rfl
  ·by_cases B:d=A
   ·subst B
    rw[N0,List.map_append,List.nodup_append]
    refine⟨n.nd d,by simp,λa ha b hb bl=>?_⟩
    obtain⟨e,f,rfl⟩:=List.mem_map.1 ha
    have hb:b=p*8+1:=by simpa using hb
    exact ao d e f (by rw[bl,hb,a0])
   ·rw[N1 d B];exact n.nd d
  ·by_cases B:d=A
   ·subst B;exact(dl d R D e f).mono J
   ·rw[N1 d B]at hN;exact(n.dl d hN e f).mono J
  ·have U: ∀y,(y=Fw O fw A / 8+1\/y=Fw O fw A / 8+2\/(∃e∈LL O fw L N A,y=e.1 / 8+1)\/y=p\/y=p+1)-> ∃d,E d≠[]/\(y=Fw O w d / 8+1\/y=Fw O w d / 8+2\/(∃e∈L d,y=Fw O w e.1 / 8+1)\/ ∃e∈E d,y=e.1 / 8\/y=e.1 / 8+1):=λy hy=>by
    refine⟨A,by rw[N0];simp,?_⟩
    rw[fZ D J]
    rcases hy with r | r | ⟨e,f,r⟩ | r
    ·exact .inl r
    ·exact .inr (.inl r)
    ·unfold LL at f
     rcases List.mem_append.1 f with f | f
     ·obtain⟨x,K,rfl⟩:=List.mem_map.1 f
      exact .inr (.inr (.inl ⟨x,K,by rw[fZ (dl A R D x K) J];exact r⟩))
     ·obtain⟨x,K,rfl⟩:=List.mem_map.1 f
      exact .inr (.inr (.inr ⟨x,Y A x K,.inr r⟩))
    ·exact .inr (.inr (.inr ⟨(p*8+1,o),by rw[N0];simp,by rw[a0];exact r⟩))
   have qn:=W.qn y hy
   rw[<-hF,Q0.f2,<-ay]at qn
   rcases qn with r | ⟨p2,e,r⟩ | r | r
   ·obtain⟨d,hN,hh⟩:=b9 y r
    obtain⟨e,f⟩:=List.exists_mem_of_ne_nil _ hN
    refine⟨d,λhn=>(by have:=Y d e f;rw[hn]at this;cases this),?_⟩
    rcases hh with r | r | r | ⟨e,f,r⟩
    ·exact .inl r
    ·exact .inr (.inl r)
    ·exact .inr (.inr (.inl r))
    ·exact .inr (.inr (.inr ⟨e,Y d e f,r⟩))
   ·have e:p=p2:=by rw[ap]at e;exact(List.cons.inj e).1
    subst e
    exact U y (.inr (.inr (.inr r)))
   ·exact U y (.inr (.inl (by rw[r,hF])))
   ·rcases ag with⟨_,e⟩ | ⟨x,K,_,e⟩
    ·exact U y (.inl (by rw[r,e,hF]))
    ·exact U y (.inr (.inr (.inl ⟨x,K,r.trans e⟩)))
 have b1:LL O w L E A=LL O fw L N A++[(p*8+1,Fw O w o)]:=by
  rw[<-(H A R D).2]
  unfold LL
  rw[N0,List.map_append,<-List.append_assoc];rfl
 refine⟨q',P',w,ab,ai,E,ON,J,by rw[ap];exact Nat.le_refl _,b0 E n' (λd G C=>?_) (λd C=>?_),λd o'=>?_,λ_=>?_⟩
 ·by_cases B:d=A
  ·subst B
   rw[(H d G C).1,b1,<-hF]
   refine Q0.snoc (λe f=>?_) (n.nodup h I G (dl d G C)) (λe f=>?_) ag ?_ ?_ (λx K=>?_)
   ·obtain⟨_,a,b,_,_⟩:=n.mem h I G C (dl d G C) f
    exact⟨a,b⟩
   ·obtain⟨t,_,_,z,k⟩:=n.mem h I G C (dl d G C) f
    have B:e.1 / 8≠Fw O fw d / 8:=λr=>by rw[r]at z;omega
    have ac: ∀i j:Nat,i<2->j<3->e.1 / 8+(i:Int)≠Fw O fw d / 8+(j:Int):=λi j hi hj r=>B (h.far (by omega) (by omega) r)
    have a1:=ac 0 1 (by decide) (by decide)
    have bf:=ac 0 2 (by decide) (by decide)
    have bg:=ac 1 1 (by decide) (by decide)
    have a4:=ac 1 2 (by decide) (by decide)
    rw[hF]
    exact⟨by omega,by omega,by omega,by omega⟩
   ·rw[Q p (.inr (.inl rfl)),if_pos rfl]
   ·rw[Q (p+1) (.inr (.inr rfl)),if_neg (by omega),if_pos rfl]
   ·rw[hF]at K
    obtain⟨c,i,_,_,_,u,ho⟩:=pl d G C x K
    exact b6 x u ho
  ·rw[(H d G C).1,show LL O w L E d=LL O w L N d by unfold LL;rw[N1 d B],(H d G C).2]
   refine(gs.ch d G C).2.keep λy hy=>?_
   obtain⟨c,i,t,hi,e,u,ho⟩:=pl d G C y hy
   have a5: ∀{c':Int} {j:Nat},Th O fw L N A c'->j<sz c'->y≠c'+j:=λ{c' j} t' hj r=>by
    have:=h.far hi hj (e.symm.trans r)
    subst this
    exact B (n.one h I G C R D t t')
   obtain⟨c',j,t',hj,e'⟩:=bb
   rw[b6 y u ho,if_neg (λr=>a5 (j:=2) (.inl rfl) (by omega) (by rw[r,hF];rfl)),if_neg (λr=>a5 t' hj (r.trans e'))]
 ·have:d≠A:=λe=>C (e▸D)
  rw[N1 d this];exact b8 d C
 ·unfold cntN
  by_cases B:d=A
  ·subst B
   rw[N0,List.map_append,List.count_append];omega
  ·rw[N1 d B];exact Nat.le_refl _
 ·unfold cntN
  rw[N0,List.map_append,List.count_append]
  simp
end
theorem set_mid{α:Type}(b v:α)(c:List α): ∀a:List α,(a++b::c).set a.length v=a++v::c
 | []=>rfl
 | x::a=>by rw[List.cons_append,List.length_cons,List.set_cons_succ,set_mid b v c a];rfl
theorem ru{t:List ((Int×Int)×Bool)}(h: ∀y∈t,y.2=true):t.map mk1=t.map mk2:=List.map_congr_left λy a=>by
 unfold mk1 mk2;rw[if_pos (h y a),if_pos (h y a)]
section
variable {M:Mem} {szM:Int->Nat} {O:Nat->Bool} {T g F0:Int} {V:Int->Prop} {q:Int->Option Int} {P:List Int} {fw:Int->Option Int} {al:List Int} {s:Sp} {sz:Int->Nat} {ks:List (Int×Value)}
theorem On.marks(h:On M szM O T g F0 V q P fw al s sz ks){f:Int}{a:List ((Int×Int)×Bool)}(b: ∀x∈a,Cell M szM x.1)(i: ∀x∈a,x.2=true ↔ Dn O fw x.1.1):fP O s.mem (ents f a)=a.map mk1:=by
 unfold fP ents
 rw[List.map_map]
 refine List.map_congr_left λx d=>?_
 have c:=b x d
 have e:reachedB O s.mem x.1.1=dnB O fw x.1.1:=h.tri.reachedB h.S c.pr.word c.good
 show(if reachedB O s.mem x.1.1=true then(0:Int)else 1)=mk1 x
 unfold mk1
 rw[e]
 exact iC (gT.trans (i x d).symm) _ _
theorem Rdy.many(h0:On M szM O T g F0 V q [] fw al s sz ks){o:Int}{z:List ((Int×Int)×Bool)}(a6:aC o)(a4:Good M szM o)(g3:o % 8=3)(gh:hk (M.get (o / 8))=10/\hn (M.get (o / 8))=2)(a5:aG O o)(a3:Dn O fw o)
  (Q0:QNew s.mem O fw (Fw O fw o) [] [] q) (Y: ∀x∈z,Cell M szM x.1) (B: ∀Z:TZ,Z.m=M->Z.O=O->2*((Z.yk 0:Int)+Z.yk 1+Z.yk 2+Z.yk 3)+8+((z.length / 32:Nat):Int)<=F0)
  {J:Sp} {k2:List (Int×Value)} {w:List Int} (R:Rdy O T (ents o z) s ks (z.map mk1) J k2 w):
  ∃n f N q' K A S ag L,z=n++f/\w=n.map mk2++f.map mk1/\On M szM O T g F0 N q' K A S J ag k2/\Le fw A/\(∀v,V v->N v)/\(∀v,N v->V v\/ ∃x∈z,v=x.1.1)/\K.length=(jj n).length/\(∀p,p∈K ↔ ∃e∈L,p=e.1 / 8)/\QNew J.mem O A (Fw O A o) (jj n) L q':=by
 induction R with
 | refl=>exact⟨[],z,V,q,[],fw,al,sz,[],rfl,rfl,h0,Le.refl _,λv h=>h,λv h=> .inl h,rfl,λp=>by simp,Q0⟩
 | @step s1 J k1 k2 ae i e R he l hr hf hd a0 ih=>
  obtain⟨n,f,V1,q1,P1,aw,av,b7,L1,u,d,h1,H,v1,v2,pl,hP,Q⟩:=ih
  have hi:n.length<=i:=by
   rcases Nat.lt_or_ge i n.length with r | r
   ·rw[d,List.getElem?_append_left (by rw[List.length_map];exact r),List.getElem?_map,List.getElem?_eq_getElem r]at l
    have h:=Option.some.inj l
    unfold mk2 at h
    split at h<;>omega
   ·exact r
  rw[d,List.getElem?_append_right (by rw[List.length_map];exact hi),List.length_map,List.getElem?_map]at l
  obtain⟨k,hk⟩: ∃k,i=n.length+k:=⟨i-n.length,by omega⟩
  subst hk
  rw[Nat.add_sub_cancel_left]at l
  have a7:k<f.length:=by
   rcases Nat.lt_or_ge k f.length with r | r
   ·exact r
   ·rw[List.getElem?_eq_none r]at l;cases l
  rw[List.getElem?_eq_getElem a7]at l
  have F:(f[k]).2=false:=by
   cases hb:(f[k]).2 with
   | false=>rfl
   | true=>
    have h:mk1 f[k]=1:=Option.some.inj l
    unfold mk1 at h
    rw[if_pos hb]at h
    exact absurd h (by decide)
  have a9:f=f.take k++f[k]::f.drop (k+1):=by rw[List.getElem_cons_drop];exact(List.take_append_drop k f).symm
  have aa:(f.take k).length=k:=by rw[List.length_take];omega
  generalize f[k]=x at*
  generalize f.take k=t at*
  generalize f.drop (k+1)=r at*
  subst a9
  subst aa
  have a2:e=(x.1.1,o):=by
   unfold ents at he
   rw[List.getElem?_map,u,List.getElem?_append_right (by omega),Nat.add_sub_cancel_left,List.getElem?_append_right (Nat.le_refl _),Nat.sub_self]at he
   exact(Option.some.inj he).symm
  subst a2
  have a8:reachedB O s1.mem o=true:=hr
  have D: ∀y∈t,y.2=true:=λy hy=>by
   obtain⟨j,I,rfl⟩:=List.getElem_of_mem hy
   refine Classical.byContradiction λhn=>hf (n.length+j) (by omega) ⟨(t[j].1.1,o),?_,?_,a8⟩
   ·unfold ents
    rw[List.getElem?_map,u,List.getElem?_append_right (by omega),Nat.add_sub_cancel_left,List.getElem?_append_left I,List.getElem?_eq_getElem I];rfl
   ·rw[d,List.getElem?_append_right (by rw[List.length_map];omega),List.length_map,Nat.add_sub_cancel_left,List.getElem?_map,List.getElem?_append_left I,List.getElem?_eq_getElem I]
    show some (mk1 t[j])=some 1
    unfold mk1
    rw[if_neg hn]
  have G:x∈z:=by rw[u];simp
  have c:=Y x G
  have hN:jj (n++t++[x])=jj n++[(x.1.1,x.1.2)]:=by
   rw[mc,mc,nG D,List.append_nil]
   congr 1
   unfold jj
   rw[List.filter_cons_of_pos (by rw[F];rfl)];rfl
  have C:P1.length+1<=z.length:=by
   have:=rW n
   rw[pl,u,List.length_append,List.length_append,List.length_cons];omega
  obtain⟨q2,P2,W,U,ah,L2,h2,ac,af,X,Q2⟩:=h1.queue (c:=x.1.2) Q hP c.pr.word c.good c.pr.isTag a6 a4 g3 gh a5 (a3.mono H) (λZ a b=>by
   have:=B Z a b
   have h3:(P1.length+1) / 32<=z.length / 32:=Nat.div_le_div_right C
   omega) hd a0
  refine⟨n++t++[x],r,_,q2,P2,W,U,ah,L2,by rw[u];simp,?_,h2,H.trans ac,λv E=> .inr (v1 v E),λv E=>?_,?_,X,?_⟩
  ·rw[d,List.map_append (l₁:=t),List.map_cons,<-List.append_assoc,show n.length+t.length=(n.map mk2++t.map mk1).length by simp,set_mid,ru D,List.map_append,List.map_append,List.map_cons,List.map_nil,show mk2 x=2 by unfold mk2;rw[if_neg (by rw[F];decide)]]
   simp
  ·rcases E with rfl | E
   ·exact .inr ⟨x,G,rfl⟩
   ·exact v2 v E
  ·rw[hN,List.length_append,af,pl];rfl
  ·rw[hN];exact Q2
theorem Rdy.all(h0:On M szM O T g F0 V q [] fw al s sz ks){a:Int}{d:List ((Int×Int)×Bool)}(z:aC a)(w:Good M szM a)(X:a % 8=3)(Y:hk (M.get (a / 8))=10/\hn (M.get (a / 8))=2)(H:aG O a)(u:Dn O fw a)
  (W:QNew s.mem O fw (Fw O fw a) [] [] q) (F: ∀x∈d,Cell M szM x.1) (l: ∀Z:TZ,Z.m=M->Z.O=O->2*((Z.yk 0:Int)+Z.yk 1+Z.yk 2+Z.yk 3)+8+((d.length / 32:Nat):Int)<=F0)
  {o:Sp} {U:List (Int×Value)} {c:List Int} (R:Rdy O T (ents a d) s ks (d.map mk1) o U c) (hn: ∀i,i< (ents a d).length-> ¬Fit O o.mem (ents a d) c i):
  ∃t C r b k n L,c=d.map mk2/\On M szM O T g F0 t C r b k o n U/\Le fw b/\(∀v,V v->t v)/\(∀v,t v->V v\/ ∃x∈d,v=x.1.1)/\r.length<=(jj d).length/\(∀p,p∈r ↔ ∃e∈L,p=e.1 / 8)/\QNew o.mem O b (Fw O b a) (jj d) L C:=by
 obtain⟨J,D,t,C,r,b,k,n,L,h,f,E,B,v1,v2,pl,hP,Q⟩:=Rdy.many h0 z w X Y H u W F l R
 have G:reachedB O o.mem a=true:=by
  have e:reachedB O o.mem a=dnB O b a:=E.tri.reachedB E.S z w
  rw[e];exact gT.2 (u.mono B)
 have A: ∀y∈D,y.2=true:=λy hy=>by
  obtain⟨j,N,rfl⟩:=List.getElem_of_mem hy
  refine Classical.byContradiction λI=>hn (J.length+j) (by unfold ents;rw[List.length_map,h,List.length_append];omega) ⟨(D[j].1.1,a),?_,?_,G⟩
  ·unfold ents
   rw[List.getElem?_map,h,List.getElem?_append_right (by omega),Nat.add_sub_cancel_left,List.getElem?_eq_getElem N];rfl
  ·rw[f,List.getElem?_append_right (by rw[List.length_map];omega),List.length_map,Nat.add_sub_cancel_left,List.getElem?_map,List.getElem?_eq_getElem N]
   show some (mk1 D[j])=some 1
   unfold mk1
   rw[if_neg I]
 have K:jj d=jj J:=by rw[h,mc,nG A,List.append_nil]
 exact⟨t,C,r,b,k,n,L,by rw[f,ru A,<-List.map_append,<-h],E,B,v1,v2,by rw[K,pl];exact Nat.le_refl _,hP,by rw[K];exact Q⟩
theorem Rdy.none{l:List (Int×Int)}{a:List Int}(h: ∀i:Nat,a[i]?≠some 1){e:Sp}{d:List (Int×Value)}{b:List Int}(R:Rdy O T l s ks a e d b):e=s/\d=ks/\b=a:=by
 induction R with
 | refl=>exact⟨rfl,rfl,rfl⟩
 | step R m c o n k f j=>
  rw[j.2.2]at c
  exact absurd c (h _)
def tq(O:Nat->Bool)(fw:Int->Option Int)(es:List ((Int×Int)×Bool)):List ((Int×Int)×Bool):=(es.filter (·.2)).map λx=>((Fw O fw x.1.1,x.1.2),true)
end
theorem nH{m:Mem}{a:Int}: ∀{L:List (Int×Int)},(∀c e b,L=c++e::b->Pr m e.1 a e.2 (eQ b))->iQ m a L
 | [],_=>trivial
 | e::l,h=>⟨h [] e l rfl,nH λc x b q=>h (e::c) x b (by rw[q];rfl)⟩
section
variable {Z:TZ} {s0:Sp} {g:Int} {tr:Tr} {fw:Int->Option Int} {al:List Int} {sz:Int->Nat} {s3 s4 s5:Sp}
theorem gq.cell(C:gq Z s0 g tr fw al sz s3 s4 s5){x:Int×Int}(c:Cell Z.m Z.sz x)(e:aG Z.O x.1)(a:Dn Z.O fw x.1)(f: ∀b,fw (x.1 / 8)=some b->Z.q b=none/\Z.q (b+1)=none):Cell s5.mem (szE Z.O sz) (Fw Z.O fw x.1,x.2):=by
 obtain⟨P,_,_⟩:=C.pr c.pr c.good e a f
 have d:cV Z.O fw 1 x.2=x.2:=by
  unfold cV
  rw[if_neg (λq=>absurd q.1 (by decide))]
  exact ft (λo=>c.num (jO o))
 rw[d,pM]at P
 exact⟨P,(C.t.good c.pr.word c.good a).1,c.num⟩
theorem gq.gdh(C:gq Z s0 g tr fw al sz s3 s4 s5){w b:Int}(j:aC w)(f:Good Z.m Z.sz w)(u:w % 8=3)(o:hk (Z.m.get (w / 8))=10/\hn (Z.m.get (w / 8))=2)(B:aG Z.O w)(c:fw (w / 8)=some b)(D:Z.q b=none):
  Fw Z.O fw w=b*8+3/\aC (b*8+3)/\Good s5.mem (szE Z.O sz) (b*8+3)/\s5.mem.get b=Z.m.get (w / 8)/\ ∀i:Nat,i<3->s3.mem.used (b+i)/\Z.O ((b+i) / 64).toNat=false/\s3.mem.kAt (b+i)=2/\(Z.q (b+i)=none->s5.mem.get (b+i)=Fw Z.O fw (Z.m.get (w / 8+i))):=by
 have S:=C.t.S
 have H:isTag w:=by unfold isTag;omega
 have e:Fw Z.O fw w=b*8+3:=by rw[fy B c,u]
 have v:Dn Z.O fw w:=λ_=>⟨b,c⟩
 obtain⟨x,F⟩:=oP S.sound S.ok j f u
 have k:Z.sz (w / 8)=3:=by rw[o.2]at F;omega
 have A:Z.m.kAt (w / 8)=2:=by
  have:Z.m.kAt (w / 8)=rawK (hk (Z.m.get (w / 8))):=x.1.2.2.2.1
  rw[this,o.1];rfl
 have d:=(C.t.tri.img _ _ c).2
 have a:=d.fit
 rw[k]at a
 have y: ∀i:Nat,i<3->s3.mem.used (b+i)/\Z.O ((b+i) / 64).toNat=false/\s3.mem.kAt (b+i)=2/\(Z.q (b+i)=none->s5.mem.get (b+i)=Fw Z.O fw (Z.m.get (w / 8+i))):=λi G=>by
  have E:=d.here i (by omega)
  have l:(b+(i:Int)) / 64=b / 64:=by omega
  have h:s3.mem.kAt (b+i)=2:=by
   have:=d.kind
   unfold Mem.kAt at*
   rw[l];omega
  refine⟨E,by rw[l];exact d.out,h,λq=>?_⟩
  rcases C.t.get (.inr ⟨q,.inr ⟨w / 8,b,i,c,by omega,rfl,rfl⟩⟩:Was Z fw (b+i) (Z.m.get (w / 8+i)))with⟨z,_⟩ | ⟨_,r,_⟩
  ·rw[if_neg (by omega)]at z;exact z
  ·omega
 obtain⟨n,-,-⟩:=C.t.good j f v
 obtain⟨p,-,-⟩:=C.t.tri.goodFw S j f v
 have s:=(y 0 (by decide)).2.2.2 (by simpa using D)
 rw[show b+((0:Nat):Int)=b by simp,show w / 8+((0:Nat):Int)=w / 8 by simp,ft (jh x.2.1 _)]at s
 rw[e]at n p
 exact⟨e,p,n,s,y⟩
theorem WoAt.after(C:gq Z s0 g tr fw al sz s3 s3 s5){s:Int}{L R A:List (Int×Int)}{v:List ((Int×Int)×Bool)}(W:WoAt Z.m Z.sz g s L R A v)(hO:OldT Z.O Z.T s3.mem)(hq: ∀a c,fw a=some c->Z.m.kAt a<=1->Z.q c=none/\Z.q (c+1)=none)(H: ∀b,fw (s / 8)=some b->Z.q b=none)(Q:Dn Z.O fw s)(M:Dn Z.O fw (eQ R))
  {p E:List (Int×Int)} (X:s5.mem.get (Fw Z.O fw s / 8+1)=eQ p) (Y:s5.mem.get (Fw Z.O fw s / 8+2)=fD p) (q:iQ s5.mem 1 p) (qg: ∀e∈p,Good s5.mem (szE Z.O sz) e.1) (qn:(p.map Prod.fst).Nodup) (qa:p.map Prod.snd=E.map Prod.fst) (ca: ∀x∈E,Cell s5.mem (szE Z.O sz) x):
  WoAt s5.mem (szE Z.O sz) Z.T (Fw Z.O fw s) p (R.map λe=>(Fw Z.O fw e.1,Fw Z.O fw e.2)) E (tq Z.O fw v):=by
 have S:=C.t.S
 have j: ∀{w a d:Int},Pr Z.m w 1 a d->Good Z.m Z.sz w->aG Z.O w/\ ∀c,fw (w / 8)=some c->Z.q c=none/\Z.q (c+1)=none:=λP G=>by
  have k0:=(P.sz2 S.sound G).2.1
  exact⟨W.oldW S (Int.le_refl _) G P.isTag,λc hc=>hq _ c hc (by omega)⟩
 obtain⟨row,J⟩:=C.row W.r (λe l=>by
  obtain⟨d,P⟩:=W.r.at' l
  exact⟨W.rg e l,j P (W.rg e l)⟩) M
 have N: ∀e∈R,Dn Z.O fw e.2:=λe l=>by
  obtain⟨d,P⟩:=W.r.at' l
  obtain⟨o,B⟩:=j P (W.rg e l)
  exact(C.pr P (W.rg e l) o (J e l) B).2.2 rfl
 have U: ∀x∈v,x.2=true->Dn Z.O fw x.1.1:=λx f D=>by
  obtain⟨e,l,q⟩:=W.ar x f D
  rw[<-q];exact N e l
 obtain⟨-,-,gt⟩:=W.size S.sound S.ok
 have n:=W.oldW S (Int.le_refl _) W.gg gt
 obtain⟨b,K⟩:=Q n
 obtain⟨e,gw,gg,F,-⟩:=C.gdh W.gw W.gg W.g3 W.gh n K (H b K)
 have V:(b*8+3) / 8=b:=by omega
 have u:(R.map λe=>(Fw Z.O fw e.1,cV Z.O fw 1 e.2))=R.map λe=>(Fw Z.O fw e.1,Fw Z.O fw e.2):=List.map_congr_left λe _=>by
  unfold cV;rw[if_neg (λq=>absurd q.1 (by decide))]
 rw[u]at row
 have i: ∀y∈tq Z.O fw v,∃x∈v,x.2=true/\y=((Fw Z.O fw x.1.1,x.1.2),true):=λy h=>by
  unfold tq at h
  obtain⟨x,f,rfl⟩:=List.mem_map.1 h
  rw[List.mem_filter]at f
  exact⟨x,f.1,f.2,rfl⟩
 refine⟨λk hk ht=>OldT.ended hO C.t.ended C.inv.ok.mem.lim.2 hk ht,by rw[e];exact gw,by rw[e];exact gg,by rw[e];omega,by rw[e,V,F];exact W.gh,X,Y,q,qg,qn,qa,row,λy h=>?_,λy h=>?_,λy h D=>?_,ca,λy h=>?_,λy h D=>?_⟩
 ·obtain⟨x,f,rfl⟩:=List.mem_map.1 h
  obtain⟨d,P⟩:=W.r.at' f
  exact(C.t.good P.word (W.rg x f) (J x f)).1
 ·obtain⟨x,f,rfl⟩:=List.mem_map.1 h
  obtain⟨z,I,o,B⟩:=W.ra x f
  exact⟨((Fw Z.O fw z.1.1,z.1.2),true),List.mem_map.2 ⟨z,List.mem_filter.2 ⟨I,o⟩,rfl⟩,rfl,by rw[<-B]⟩
 ·obtain⟨x,f,o,rfl⟩:=i y h
  obtain⟨z,I,B⟩:=W.ar x f o
  exact⟨(Fw Z.O fw z.1,Fw Z.O fw z.2),List.mem_map.2 ⟨z,I,rfl⟩,by rw[<-B]⟩
 ·obtain⟨x,f,o,rfl⟩:=i y h
  have c:=W.ce x f
  obtain⟨o1,o2⟩:=j c.pr c.good
  exact C.cell c o1 (U x f o) o2
 ·obtain⟨x,f,o,rfl⟩:=i y h
  cases D
end
def Pv(m:Mem)(sz:Int->Nat)(L:Int->List (Int×Int))(made:List Int):Prop:= ∀w∈made,isTag w-> ∀gd,IsG m sz gd-> ∀e∈L gd,e.1 / 8≠w / 8
theorem GI.fresh{m:Mem}{sz:Int->Nat}(h: ∀a,sz a=0):GI m sz (λ_=> []):=by
 have no: ∀b,¬IsG m sz b:=λb G=>(G.good.2 G.isTag).1 (h _)
 exact⟨λb G=>absurd G (no b),λb G=>absurd G (no b),λb G=>absurd G (no b),λb G=>absurd G (no b),λb G=>absurd G (no b),λb G=>absurd G (no b),λb c G=>absurd G (no b)⟩
open Classical in
theorem GI.mv{m p:Mem}{sz o:Int->Nat}{L:Int->List (Int×Int)}{t z:List Int}(I:GI m sz L)(S:gG m sz)(ok:aX m)(S':gG p o)(K:aX p)(l:Lift m sz p o)(v:Mv m sz p o (· ∈t) True)(hp:Pv m sz L t)(W: ∀w∈z,w∈t\/ ¬m.used (w / 8)):
  ∃L',GI p o L'/\Pv p o L' z:=by
 have A: ∀{w:Int},w∈t->isTag w->Good m sz w-> ∀{i:Nat},i<sz (w / 8)-> ∀{c:Int} {j:Nat},sz c≠0->j<sz c->w / 8+i=c+j->w / 8=c/\(i:Int)=j:=λ{w} D y C {i} Y {c j} hc Z e=>by
  have hz:=(C.2 y).1
  rcases Int.lt_trichotomy (w / 8) c with r | r | r
  ·have:=S.apart _ _ hz hc r;omega
  ·exact⟨r,by omega⟩
  ·have:=S.apart _ _ hc hz r;omega
 have F: ∀a,sz a≠0->2<=m.kAt a->p.get a=m.get a:=λa ha hk=>by
  rcases v.get trivial a (S.used a ha).1 with h | ⟨w,D,y,C,i,Y,e,X⟩
  ·exact h
  ·obtain⟨J,e2⟩:=A D y C Y ha (Nat.pos_of_ne_zero ha) (by rw[<-e];simp)
   have:=(X (by rw[J];exact hk)).2
   omega
 have old: ∀b,IsG p o b->sz (b / 8)≠0->IsG m sz b:=λb G E=>by
  have u:=(S.used _ E).1
  obtain⟨k',-,-,-⟩:=G.kAt S' K
  have hk:=(v.kind _ u).2
  have C:Good m sz b:=⟨G.good.1,λy=>⟨E,by rw[<-hk];exact(G.good.2 y).2⟩⟩
  exact⟨G.word,C,G.tag,by rw[<-F _ E (by omega)];exact G.kind⟩
 have Q: ∀b,IsG m sz b-> ∀i:Nat,0<i->i<3->p.get (b / 8+i)=m.get (b / 8+i):=λb G i E Y=>by
  obtain⟨z3,k2⟩:=I.size S ok G
  have u:=(S.usedAt (a:=b / 8) (i:=i) (by omega) (by omega) (λk=>(ok.seg k).n.2)).1
  rcases v.get trivial _ u with h | ⟨w,D,y,C,j,Z,e,X⟩
  ·exact h
  ·obtain⟨J,e2⟩:=A D y C Z (c:=b / 8) (j:=i) (by omega) (by omega) e.symm
   exact absurd (by rw[J];exact G.kind) (X (by rw[J];omega)).1
 have pr: ∀b,IsG m sz b-> ∀e∈L b,∀i:Nat,i<2->p.get (e.1 / 8+i)=m.get (e.1 / 8+i):=λb G e d i Y=>by
  obtain⟨w1,g1,z2,k0,t1⟩:=I.pairM S G d
  have u:=(S.usedAt (a:=e.1 / 8) (i:=i) (by omega) (by omega) (λk=>(ok.seg k).n.2)).1
  rcases v.get trivial _ u with h | ⟨w,D,y,C,j,Z,H,X⟩
  ·exact h
  ·obtain⟨q1,q2⟩:=A D y C Z (c:=e.1 / 8) (j:=i) (by omega) (by omega) H.symm
   exact absurd q1.symm (hp w D y b G e d)
 have f: ∀b,IsG p o b->(IsG m sz b/\(if IsG m sz b then L b else[])=L b)\/((if IsG m sz b then L b else[])=[]/\ ¬IsG m sz b/\hn (p.get (b / 8))=2/\p.get (b / 8+1)=20/\p.get (b / 8+2)=20):=λb G=>by
  by_cases h:IsG m sz b
  ·exact .inl ⟨h,if_pos h⟩
  ·right
   refine⟨if_neg h,h,?_⟩
   rcases v.new trivial _ (G.good.2 G.isTag).1 with E | ⟨_,E⟩
   ·exact absurd (old b G E) h
   ·exact E (by rw[(G.kAt S' K).1];decide) G.kind
 refine⟨λb=>if IsG m sz b then L b else[],⟨λb G=>?_,λb G=>?_,λb G=>?_,λb G=>?_,λb G e d=>?_,λb G=>?_,λb U G G' e d H B a3=>?_⟩,λw D y b G e d=>?_⟩
 ·rcases f b G with⟨h,_⟩ | ⟨_,_,h,_⟩
  ·obtain⟨z3,k2⟩:=I.size S ok h
   rw[F _ (by omega) (by omega)];exact I.two b h
  ·exact h
 ·rcases f b G with⟨h,e⟩ | ⟨e,_,_,h,_⟩
  ·rw[e,show b / 8+1=b / 8+((1:Nat):Int)from rfl,Q b h 1 (by decide) (by decide)];exact I.f1 b h
  ·rw[e,h];rfl
 ·rcases f b G with⟨h,e⟩ | ⟨e,_,_,_,h⟩
  ·rw[e,show b / 8+2=b / 8+((2:Nat):Int)from rfl,Q b h 2 (by decide) (by decide)];exact I.f2 b h
  ·rw[e,h];rfl
 ·rcases f b G with⟨h,e⟩ | ⟨e,_⟩
  ·rw[e]
   refine nH λl1 x l2 hl=>?_
   obtain⟨R,g1,z2,k0,t1⟩:=I.pair S h hl
   have hx:x∈L b:=by rw[hl];simp
   have P:=ti S' K R.word (l _ g1) (.inl rfl) t1
   have e0:=pr b h x hx 0 (by decide)
   have J:=pr b h x hx 1 (by decide)
   rw[show x.1 / 8+((0:Nat):Int)=x.1 / 8 by simp,R.car]at e0
   rw[show x.1 / 8+((1:Nat):Int)=x.1 / 8+1 from rfl,R.cdr]at J
   rw[e0,J]at P
   exact P
  ·rw[e];trivial
 ·rcases f b G with⟨h,H⟩ | ⟨H,_⟩
  ·rw[H]at d;exact l _ (I.qg b h e d)
  ·rw[H]at d;cases d
 ·rcases f b G with⟨h,e⟩ | ⟨e,_⟩
  ·rw[e];exact I.nd b h
  ·rw[e];exact List.nodup_nil
 ·rcases f b G with⟨h,q⟩ | ⟨q,_⟩
  ·rcases f U G' with⟨h',q'⟩ | ⟨q',_⟩
   ·rw[q]at d
    rw[q']at B
    exact I.dj b U h h' e d H B a3
   ·rw[q']at B;cases B
  ·rw[q]at d;cases d
 ·have d:e∈(if IsG m sz b then L b else[]):=d
  rcases f b G with⟨h,q⟩ | ⟨q,_⟩
  ·rw[q]at d
   rcases W w D with r | r
   ·exact hp w r y b h e d
   ·intro r2
    obtain⟨_,_,z2,_,_⟩:=I.pairM S h d
    rw[<-r2]at r
    exact r (S.used _ (by omega)).1
  ·rw[q]at d;cases d
def rdyN(l:List (Int×Int))(lost:List Int)(gd o:Int):Nat:=(l.zip lost).countP λx=>decide (x.1=(o,gd)/\x.2=2)
theorem pP(c o:Int): ∀(l:List (Int×Int)) (b:List Int) (i:Nat) (e:Int×Int),l[i]?=some e->rdyN l (b.set i 2) c o<=rdyN l b c o+if e=(o,c)then 1 else 0
 | [],b,i,e,h=>by simp at h
 | x::l,[],i,e,h=>by simp[rdyN]
 | x::l,a::b,0,e,h=>by
  simp only[List.getElem?_cons_zero,Option.some.injEq]at h
  subst h
  unfold rdyN
  rw[List.set_cons_zero,List.zip_cons_cons,List.zip_cons_cons,List.countP_cons,List.countP_cons]
  by_cases q:x=(o,c)
  ·simp[q]
  ·simp[q]
 | x::l,a::b,i+1,e,h=>by
  rw[List.getElem?_cons_succ]at h
  have:=pP c o l b i e h
  unfold rdyN at*
  rw[List.set_cons_succ,List.zip_cons_cons,List.zip_cons_cons,List.countP_cons,List.countP_cons]
  omega
section
variable {M:Mem} {szM:Int->Nat} {O:Nat->Bool} {T g F0:Int} {V:Int->Prop} {q:Int->Option Int} {P:List Int} {fw:Int->Option Int} {al:List Int} {s:Sp} {sz:Int->Nat} {ks:List (Int×Value)} {L N:Int->List (Int×Int)}
theorem GS.rdy(h:On M szM O T g F0 V q P fw al s sz ks)(I:GI M szM L)(gs:GS M szM O L N fw q P s.mem){l:List (Int×Int)}(hl: ∀e∈l,kl M szM e)(p: ∀Z:TZ,Z.m=M->Z.O=O->2*((Z.yk 0:Int)+Z.yk 1+Z.yk 2+Z.yk 3)+8+((l.length / 32:Nat):Int)<=F0)
  {lost c:List Int} (hc:P.length+lost.countP (λv=>decide (v=1))<=l.length) (Q: ∀(i:Nat) (e:Int×Int),l[i]?=some e->lost[i]?=some 1->isTag e.1) {x:Sp} {U:List (Int×Value)} (R:Rdy O T l s ks lost x U c):
  ∃z q' y n A a0 N',On M szM O T g F0 z q' y n A x a0 U/\Le fw n/\y.length+c.countP (λv=>decide (v=1))<=l.length/\(∀v,V v->z v)/\GS M szM O L N' n q' y x.mem/\(∀(i:Nat) (e:Int×Int),l[i]?=some e->c[i]?=some 2->lost[i]?=some 2\/z e.1)/\
   ∀d o,IsG M szM d->cntN N d o+rdyN l c d o<=cntN N' d o+rdyN l lost d o:=by
 induction R with
 | refl=>exact⟨V,q,P,fw,al,sz,N,h,Le.refl _,hc,λv S=>S,gs,λi e _ h=> .inl h,λ_ _ _=>Nat.le_refl _⟩
 | @step s1 x k1 U k i e R w u hr hf hd F ih=>
  obtain⟨V1,q1,P1,af,a9,az,N1,h1,W,c1,v1,D,r1,n1⟩:=ih
  have H:e∈l:=List.mem_of_getElem? w
  obtain⟨⟨e1,e2⟩,e3,e4⟩:=hl e H
  have ak:=jP k u
  obtain⟨q2,P2,C,B,a1,N2,h2,X,p2,E,m2,m3⟩:=GS.step h1 I D e1 e2 (Q i e w ((R.lost.2 i 1 u).resolve_right (by decide))) e3 e4 hr (λZ a b=>by
   have:=p Z a b
   have h3:(P1.length+1) / 32<=l.length / 32:=Nat.div_le_div_right (by omega)
   omega) hd F
  refine⟨_,q2,P2,C,B,a1,N2,h2,W.trans X,by omega,λv S=> .inr (v1 v S),E,λj f J t=>?_,λd o G=>?_⟩
  ·by_cases r:i=j
   ·subst r
    rw[w]at J
    cases J
    exact .inr (.inl rfl)
   ·rw[List.getElem?_set_ne r]at t
    exact(r1 j f J t).imp id .inr
  ·have aT:=n1 d o G
   have a2:=pP d o l k i e w
   have a3:=m2 d o
   by_cases K:e=(o,d)
   ·rw[if_pos K]at a2
    subst K
    have Y:IsG M szM d->cntN N1 d o+1<=cntN N2 d o:=m3
    have:=Y G
    omega
   ·rw[if_neg K]at a2
    omega
end
structure WuT (s0:Sp) (sz0:Int->Nat) (T g:Int) (tr:Tr) (roots:List Int) (el:List (Int×Int)) (L:Int->List (Int×Int)) (s3 s4:Sp) (k4:List (Int×Value)) (lost:List Int) (V:Int->Prop) (q:Int->Option Int) (P:List Int) (fw:Int->Option Int) (al:List Int) (sz:Int->Nat) (N:Int->List (Int×Int)):Prop where
 on:On s0.mem sz0 tr.old T g s0.mem.free V q P fw al s4 sz k4
 vis:((s0.fresh (eM g)).visL tr.old T roots).2=roots.map (Fw tr.old fw)
 roots: ∀w∈roots,V w
 set: ∀(i:Nat) (e:Int×Int) (v:Int),el[i]?=some e->lost[i]?=some v->v<2->Dn tr.old fw e.2->Dn tr.old fw e.1
 cf:s4.cf=s0.cf
 gs:GS s0.mem sz0 tr.old L N fw q P s4.mem
 len:lost.length=el.length
 marks: ∀(i:Nat) (e:Int×Int),el[i]?=some e-> ∃v,lost[i]?=some v/\((reachedB tr.old s3.mem e.1=true/\v=0)\/(reachedB tr.old s3.mem e.1=false/\(v=1\/v=2)))
 rdy: ∀(i:Nat) (e:Int×Int),el[i]?=some e->lost[i]?=some 2->Dn tr.old fw e.1
 cnt: ∀gd o,IsG s0.mem sz0 gd->rdyN el lost gd o<=cntN N gd o
 more: ∀(i:Nat) (e:Int×Int),el[i]?=some e->lost[i]?=some 1-> ¬Dn tr.old fw e.2
theorem tt{s0:Sp}{l:Int->Nat}{g T more:Int}{tr:Tr}{c:List Int}{s3 s4:Sp}{ks k4:List (Int×Value)}{a:List (Int×Int)}{lost:List Int}{L:Int->List (Int×Int)}(I:Inv s0 l)(u:GI s0.mem l L)(C:((a.length / 32:Nat):Int)<=more)(r:ic s0 g T more=0)(B:gS s0.mem g T tr)(Y: ∀w∈c,aC w/\Good s0.mem l w)(D: ∀e∈a,kl s0.mem l e)
  (K:dY tr.old T (((s0.fresh (eM g)).visL tr.old T c).1.lookCards tr.old T tr.cards) tr.seen s3 ks) (p:ii tr.old T s3 ks) (R:Rdy tr.old T a s3 ks (fP tr.old s3.mem a) s4 k4 lost) (hn: ∀i,i<a.length-> ¬Fit tr.old s4.mem a lost i):
  ∃V q P fw al sz N,WuT s0 l T g tr c a L s3 s4 k4 lost V q P fw al sz N:=by
 obtain⟨aa,a7,ao,t,r1,c1⟩:=mn I (by omega) r B Y K p
 obtain⟨_,_,_,_,_,_,_,_,_,_,H,_⟩:=oM I C r B Y D K p R hn
 have z:(fP tr.old s3.mem a).length=a.length:=by unfold fP;rw[List.length_map]
 have hz: ∀s o,rdyN a (fP tr.old s3.mem a) s o=0:=λs o=>by
  unfold rdyN
  rw[List.countP_eq_zero]
  intro x hx
  rw[decide_eq_true_eq]
  rintro⟨_,m⟩
  have hm:x.2∈fP tr.old s3.mem a:=(List.of_mem_zip hx).2
  unfold fP at hm
  obtain⟨e,_,q⟩:=List.mem_map.1 hm
  rw[m]at q
  by_cases d:reachedB tr.old s3.mem e.1=true
  ·rw[if_pos d]at q;omega
  ·rw[if_neg d]at q;omega
 obtain⟨V,q,P,fw,al,sz,N,m,le,c2,hV,gs,a0,J⟩:=GS.rdy t u (GS.first t u) D (rt I C r B) (lost:=fP tr.old s3.mem a) (by
  have:(fP tr.old s3.mem a).countP (λv=>decide (v=1))<=(fP tr.old s3.mem a).length:=List.countP_le_length
  rw[z]at this
  simpa using this) (λi e t m=>jO (ow t m).1) R
 obtain⟨rl,rm⟩:=R.lost
 have A: ∀(i:Nat) (e:Int×Int),a[i]?=some e->(fP tr.old s3.mem a)[i]?=some (if reachedB tr.old s3.mem e.1=true then 0 else 1):=λi e h=>by
  unfold fP
  rw[List.getElem?_map,h];rfl
 have n:lost.length=a.length:=by rw[rl,z]
 refine⟨V,q,P,fw,al,sz,N,m,?_,λw hw=>hV w hw,t.settled D m le R hn,H,gs,n,λi e h=>?_,λi e h F=>?_,λs o G=>?_,λi e h hl Q=>?_⟩
 ·rw[r1]
  exact List.map_congr_left λv hv=>(fZ (t.roots v hv) le).symm
 ·have k:i<lost.length:=by
   rw[n]
   rcases Nat.lt_or_ge i a.length with q | q
   ·exact q
   ·rw[List.getElem?_eq_none q]at h;cases h
  refine⟨_,List.getElem?_eq_getElem k,?_⟩
  have E:=A i e h
  have:=rm i lost[i] (List.getElem?_eq_getElem k)
  rw[E]at this
  by_cases d:reachedB tr.old s3.mem e.1=true
  ·left
   refine⟨d,?_⟩
   rcases this with q | q
   ·rw[if_pos d]at q;exact(Option.some.inj q).symm
   ·-- what is reached is not made ready
    exfalso
    have X:lost[i]?=some 2:=by rw[List.getElem?_eq_getElem k,q]
    have key: ∀{s2:Sp} {k2:List (Int×Value)} {b:List Int},Rdy tr.old T a s3 ks (fP tr.old s3.mem a) s2 k2 b->b[i]?≠some 2:=λ{s2 k2 b} R=>by
     induction R with
     | refl=>rw[E,if_pos d];decide
     | @step s1 s2 k1 k2 a2 j f R hf W Y a4 K p ih=>
      rw[List.getElem?_set]
      by_cases y:j=i
      ·subst y
       rcases(R.lost.2 j 1 W)with q | q
       ·rw[E,if_pos d]at q;cases q
       ·omega
      ·rw[if_neg y];exact ih
    exact key R X
  ·right
   refine⟨by simpa using d,?_⟩
   rcases this with q | q
   ·rw[if_neg d]at q;exact .inl (Option.some.inj q).symm
   ·exact .inr q
 ·rcases a0 i e h F with q | q
  ·rw[A i e h]at q
   by_cases d:reachedB tr.old s3.mem e.1=true
   ·rw[if_pos d]at q;cases q
   ·rw[if_neg d]at q;cases q
  ·exact m.roots _ q
 ·have:=J s o G
  rw[hz s o]at this
  have e0:cntN (λ_=> []) s o=0:=rfl
  omega
 ·have U:e∈a:=List.mem_of_getElem? h
  obtain⟨⟨e1,e2⟩,e3,e4⟩:=D e U
  have k:i<a.length:=by
   rcases Nat.lt_or_ge i a.length with q | q
   ·exact q
   ·rw[List.getElem?_eq_none q]at h;cases h
  have d:reachedB tr.old s4.mem e.2=dnB tr.old fw e.2:=m.tri.reachedB m.S e3 e4
  exact hn i k ⟨e,h,hl,by rw[d];exact gT.2 Q⟩
section
variable {Z:TZ} {s0:Sp} {g:Int} {tr:Tr} {fw:Int->Option Int} {al:List Int} {sz:Int->Nat} {s3 s4 s5:Sp}
theorem gq.same(C:gq Z s0 g tr fw al sz s3 s4 s5){x:Int}(b:s3.mem.used x)(a:Z.O (x / 64).toNat=false)(hk:s3.mem.kAt x≠1):s4.mem.get x=s3.mem.get x/\s5.mem.get x=s3.mem.get x:=
 ⟨C.t.broke.strong x b a (λq=>hk q.1),C.stay b a (.inl hk)⟩
end
section
variable {M:Mem} {szM:Int->Nat} {O:Nat->Bool} {T g:Int} {V:Int->Prop} {q:Int->Option Int} {P:List Int} {fw:Int->Option Int} {al:List Int} {sz:Int->Nat} {ks:List (Int×Value)} {L N:Int->List (Int×Int)} {s0 s3 s4 s5:Sp} {tr:Tr}
theorem GS.both(h:On M szM O T g s0.mem.free V q P fw al s3 sz ks)(I:GI M szM L)(t:GS M szM O L N fw q P s3.mem)(C:gq ⟨M,szM,O,T,V,q,P⟩ s0 g tr fw al sz s3 s4 s5){a:Int}(G:IsG M szM a)(l:Dn O fw a):
  QC s4.mem (Fw O fw a / 8) (LL O fw L N a)/\QC s5.mem (Fw O fw a / 8) (LL O fw L N a)/\s4.mem.get (Fw O fw a / 8)=M.get (a / 8)/\s5.mem.get (Fw O fw a / 8)=M.get (a / 8):=by
 have S:=h.S
 have SS:gG M szM:=S.sound
 have s:aX M:=S.ok
 obtain⟨z3,K⟩:=I.size SS s G
 have n:=t.toGN
 obtain⟨D,Q⟩:=t.ch a G l
 have c: ∀y,(y=Fw O fw a / 8+1\/y=Fw O fw a / 8+2\/ ∃e∈LL O fw L N a,y=e.1 / 8\/y=e.1 / 8+1)->s4.mem.get y=s3.mem.get y/\s5.mem.get y=s3.mem.get y:=λy j=>by
  have d: ∀i:Nat,i<3->s4.mem.get (Fw O fw a / 8+i)=s3.mem.get (Fw O fw a / 8+i)/\s5.mem.get (Fw O fw a / 8+i)=s3.mem.get (Fw O fw a / 8+i):=λi H=>by
   obtain⟨u,o,k,_⟩:=(h.at' G.word G.good G.isTag l).2 i (by omega)
   exact C.same u o (by omega)
  have f: ∀e∈LL O fw L N a,∀i:Nat,i<2->s4.mem.get (e.1 / 8+i)=s3.mem.get (e.1 / 8+i)/\s5.mem.get (e.1 / 8+i)=s3.mem.get (e.1 / 8+i):=λe b i H=>by
   unfold LL at b
   rcases List.mem_append.1 b with b | b
   ·obtain⟨x,m,rfl⟩:=List.mem_map.1 b
    obtain⟨U,F,z2,r,Y⟩:=I.pairM SS G m
    obtain⟨u,o,k,_⟩:=(h.at' U F (by unfold isTag;omega) (D x m).1).2 i (by omega)
    exact C.same u o (show s3.mem.kAt (Fw O fw x.1 / 8+i)≠1 by omega)
   ·obtain⟨x,m,rfl⟩:=List.mem_map.1 b
    have p:=h.tri.pair (x.1 / 8) ((n.pn _).2 ⟨a,x,m,rfl⟩)
    have W:=p.even
    have J:O (x.1 / 8 / 64).toNat=false:=p.out
    have r:=p.kind
    have X:s3.mem.kAt (x.1 / 8+i)=0:=by
     unfold Mem.kAt at*
     rw[show(x.1 / 8+(i:Int)) / 64=x.1 / 8 / 64 by omega];exact r
    have R:s3.mem.used (x.1 / 8+i):=by
     rcases(show i=0\/i=1 by omega)with rfl | rfl
     ·simpa using p.used.1
     ·exact p.used.2
    exact C.same R (by rw[show(x.1 / 8+(i:Int)) / 64=x.1 / 8 / 64 by omega];exact J) (by show s3.mem.kAt (x.1 / 8+i)≠1;omega)
  rcases j with rfl | rfl | ⟨e,b,rfl | rfl⟩
  ·exact d 1 (by decide)
  ·exact d 2 (by decide)
  ·have:=f e b 0 (by decide)
   rw[show e.1 / 8+((0:Nat):Int)=e.1 / 8 by simp]at this
   exact this
  ·exact f e b 1 (by decide)
 have v:=h.header G.word G.good G.tag l K
 obtain⟨z,w,r,_⟩:=(h.at' G.word G.good G.isTag l).2 0 (by omega)
 have E:Fw O fw a / 8+((0:Nat):Int)=Fw O fw a / 8:=by simp
 rw[E]at z w r
 obtain⟨A,B⟩:=C.same z w (by omega)
 exact⟨Q.keep (λy j=>(c y j).1),Q.keep (λy j=>(c y j).2),A.trans v,B.trans v⟩
open Classical in
theorem GS.ends(h:On M szM O T g s0.mem.free V q P fw al s3 sz ks)(I:GI M szM L)(B:GS M szM O L N fw q P s3.mem)(C:gq ⟨M,szM,O,T,V,q,P⟩ s0 g tr fw al sz s3 s4 s5){made:List Int}(hp:Pv M szM L made)(hg: ∀w∈made,Good M szM w)(Y: ∀w∈made,Dn O fw w):
  ∃H,GI s5.mem (szE O sz) H/\Pv s5.mem (szE O sz) H (made.map (Fw O fw)):=by
 have S:=h.S
 have b8:aX M:=S.ok
 have SS:gG M szM:=S.sound
 have n:=B.toGN
 have S5:=C.inv.sound
 have U:=C.inv.ok.mem
 have t:=C.t
 have i: ∀l,IsG s5.mem (szE O sz) l-> ∃c,IsG M szM c/\Dn O fw c/\Fw O fw c=l:=λl m=>by
  obtain⟨k5,_,_,_⟩:=m.kAt S5 U
  have hz:=(m.good.2 m.isTag).1
  have t5:=m.tag
  rcases t.thing hz with hP | ⟨a,h1,h2,h3,h4,h5,h6,h7⟩
  ·have:=(t.pair hP).2.1;omega
  have h1:szM a≠0:=h1
  have k2:M.kAt a=2:=by rw[<-k5];exact h3.symm
  have ua:M.used a:=(SS.used _ h1).1
  have hl:=S.lt ua
  have J:Good M szM (a*8+3):=⟨by omega,λ_=>by
   rw[show(a*8+3) / 8=a by omega,k2]
   exact⟨h1,by rw[show tagK 2=3 from rfl];omega⟩⟩
  have A:(a*8+3) / 8=a:=by omega
  have Q:aC (a*8+3):=⟨by omega,by omega⟩
  have a2:O (a / 64).toNat=true->aG O (a*8+3):=λq=>⟨⟨by omega,by omega⟩,by omega,by rw[A];exact q⟩
  have y:Dn O fw (a*8+3)/\Fw O fw (a*8+3)=l:=by
   rcases h7 with⟨q1,q2,q3⟩ | q
   ·have q3:O (a / 64).toNat=false:=q3
    have a1: ¬aG O (a*8+3):=λo=>by
     have:=o.2.2
     rw[A,q3]at this;cases this
    exact⟨λo=>absurd o a1,by rw[ft a1];omega⟩
   ·have ho:O (a / 64).toNat=true:=(h.tri.olds.mem a ((h.tri.al a).2 ⟨_,q⟩)).2
    have o:=a2 ho
    exact⟨λ_=>⟨l / 8,by rw[A];exact q⟩,by rw[fy o (b:=l / 8) (by rw[A];exact q)];omega⟩
  have ab:s5.mem.get (l / 8)=M.get a:=by
   have h0:=h.header Q J (by omega) y.1 (by rw[A];exact k2)
   rw[y.2,A]at h0
   obtain⟨u0,o0,kk,_⟩:=(h.at' Q J (by unfold isTag;omega) y.1).2 0 (by rw[A];omega)
   rw[y.2,show l / 8+((0:Nat):Int)=l / 8 by simp]at u0 o0 kk
   rw[(C.same u0 o0 (by rw[show s3.mem.kAt (l / 8)=M.kAt ((a*8+3) / 8)from kk,A];omega)).2,h0]
  exact⟨a*8+3,⟨Q,J,by omega,by rw[A,<-ab];exact m.kind⟩,y.1,y.2⟩
 obtain⟨H,a9⟩: ∃H:Int->List (Int×Int),H=λl=>if q: ∃c,IsG M szM c/\Dn O fw c/\Fw O fw c=l then LL O fw L N q.choose else[]:=⟨_,rfl⟩
 have ae: ∀c d,IsG M szM c->Dn O fw c->IsG M szM d->Dn O fw d->Fw O fw c=Fw O fw d->c=d:=λc d G f F u e=>by
  by_cases A:c / 8=d / 8
  ·have:=G.tag
   have:=F.tag
   omega
  ·exact absurd (by rw[e]) (h.inj G.good G.isTag f F.good F.isTag u A)
 have s: ∀c,IsG M szM c->Dn O fw c->H (Fw O fw c)=LL O fw L N c:=λc G f=>by
  rw[a9]
  have q: ∃d,IsG M szM d/\Dn O fw d/\Fw O fw d=Fw O fw c:=⟨c,G,f,rfl⟩
  show(if q: ∃d,IsG M szM d/\Dn O fw d/\Fw O fw d=Fw O fw c then LL O fw L N q.choose else[])=_
  rw[dif_pos q]
  obtain⟨c1,c2,c3⟩:=q.choose_spec
  rw[ae _ c c1 c2 G f c3]
 have D: ∀c,IsG M szM c->Dn O fw c-> ∀e∈LL O fw L N c,Good s5.mem (szE O sz) e.1/\aC e.1/\e.1 % 8=1:=λc G f e j=>by
  obtain⟨th,w,ev,z,k⟩:=n.mem h I G f (λe j=>((B.ch c G f).1 e j).1) j
  unfold LL at j
  rcases List.mem_append.1 j with j | j
  ·obtain⟨x,E,rfl⟩:=List.mem_map.1 j
   obtain⟨w1,W,z2,k0,X⟩:=I.pairM SS G E
   have dx:=((B.ch c G f).1 x E).1
   exact⟨(t.good w1 W dx).1,(h.tri.goodFw S w1 W dx).1,w⟩
  ·obtain⟨x,E,rfl⟩:=List.mem_map.1 j
   obtain⟨p1,p2,_,p4,_⟩:=t.pair (p:=x.1 / 8) ((n.pn _).2 ⟨c,x,E,rfl⟩)
   have p1:szE O sz (x.1 / 8)=2:=p1
   have w:x.1 % 8=1:=w
   have aZ:=p4.2.1.2.1
   have aj:=U.lim
   have h0:=p4.1
   refine⟨⟨by show x.1 % 8≠6;omega,λ_=>?_⟩,⟨by show 0<=x.1;omega,by show x.1<_;omega⟩,w⟩
   show szE O sz (x.1 / 8)≠0/\x.1 % 8=tagK (s5.mem.kAt (x.1 / 8))
   rw[p2]
   exact⟨by omega,w⟩
 refine⟨H,⟨λl m=>?_,λl m=>?_,λl m=>?_,λl m=>?_,λl m e j=>?_,λl m=>?_,λl a7 m a6 e j e' a0 aa=>?_⟩,λw hw ht l m e j=>?_⟩
 ·obtain⟨c,G,f,rfl⟩:=i l m
  rw[(B.both h I C G f).2.2.2];exact I.two c G
 ·obtain⟨c,G,f,rfl⟩:=i l m
  rw[s c G f];exact(B.both h I C G f).2.1.f1
 ·obtain⟨c,G,f,rfl⟩:=i l m
  rw[s c G f];exact(B.both h I C G f).2.1.f2
 ·obtain⟨c,G,f,rfl⟩:=i l m
  rw[s c G f]
  refine nH λl1 e l2 hl=>?_
  obtain⟨W,w1,X⟩:=D c G f e (by rw[hl];simp)
  have R:=ti S5 U w1 W (.inl rfl) X
  obtain⟨e1,e2⟩:=(B.both h I C G f).2.1.el l1 e l2 hl
  rw[e1,e2]at R
  exact R
 ·obtain⟨c,G,f,rfl⟩:=i l m
  rw[s c G f]at j
  exact(D c G f e j).1
 ·obtain⟨c,G,f,rfl⟩:=i l m
  rw[s c G f]
  exact n.nodup h I G (λe j=>((B.ch c G f).1 e j).1)
 ·obtain⟨c,G,f,rfl⟩:=i l m
  obtain⟨d,F,u,rfl⟩:=i a7 a6
  rw[s c G f]at j
  rw[s d F u]at a0
  obtain⟨X,_⟩:=n.mem h I G f (λe j=>((B.ch c G f).1 e j).1) j
  obtain⟨t2,_⟩:=n.mem h I F u (λe j=>((B.ch d F u).1 e j).1) a0
  rw[aa]at X
  rw[n.one h I G f F u X t2]
 ·obtain⟨c,G,f,rfl⟩:=i l m
  rw[s c G f]at j
  obtain⟨v,hv,rfl⟩:=List.mem_map.1 hw
  have K:isTag v:=by unfold isTag at*;rw[lm]at ht;exact ht
  unfold LL at j
  rcases List.mem_append.1 j with j | j
  ·obtain⟨x,E,rfl⟩:=List.mem_map.1 j
   obtain⟨w1,W,z2,k0,X⟩:=I.pairM SS G E
   exact h.inj W (by unfold isTag;omega) ((B.ch c G f).1 x E).1 (hg v hv) K (Y v hv) (hp v hv K c G x E)
  ·obtain⟨x,E,rfl⟩:=List.mem_map.1 j
   exact λr=>h.notP (hg v hv) K (Y v hv) ((n.pn _).2 ⟨c,x,E,rfl⟩) r.symm
end
end Go.Proofs.YtfhbhckhmnleoaaGreat
namespace Go.Proofs.YtfhbhckhmnleoaaGreat
open Go
open Go.ChangeShapes Go.WideShapes
def mo:Nat:=1048576
theorem nI{B:Nat}{H:zV}{v:jc}(h:gI.ok B H v):gI.ok maxLen H v:=⟨h.w,h.ofv⟩
theorem rv{α:Type}{sz:Nat}{r c:Rdr α}{B:Nat}{H:zV}{s:Sl α}(h:SlOK sz r B H s)(f:B<=maxLen)(g: ∀y,r.cells y=c.cells y)(j: ∀y,r.ok B H y->c.ok maxLen H y):SlOK sz c maxLen H s:=
  ⟨h.len,Nat.le_trans h.le f,h.cap,λi k=>by obtain⟨a,d,e⟩:=h.row i k;exact⟨a,d,by rw[<-g];exact e⟩,λy l=>j y (h.each y l)⟩
theorem uH{B:Nat}{H:zV}(c:B<=maxLen){a:jK}(h:j4.ok B H a):j4.ok maxLen H a:=
  ⟨h.dov,h.kind,h.n,nI h.x,nI h.y,rv h.l c (λ_=>rfl) (λ_=>nI)⟩
theorem tu{B:Nat}{H:zV}(a:B<=maxLen){r:cG}(h:jy.ok B H r):jy.ok maxLen H r:=
  ⟨rv h.acts a (λ_=>rfl) (λ_=>uH a),rv h.guard a (λ_=>rfl) (λ_ h=>⟨nI h.1,nI h.2⟩),h.g,h.target,h.keep⟩
theorem tz{H:zV}{keep i:Int}(c:0<=i):cJ.C keep i H (λv H'=>(∃t:Bool,v=.bool t)/\H'=H):=by
  refine HC.via λR a=>cJ.link ?_
  unfold cJ.pt
  have:=Int.tmod_nonneg 32 c
  exact⟨this,a _ _ ⟨⟨_,rfl⟩,rfl⟩⟩
def gsum(rs:List cG):Nat:=(rs.map λr=>r.guard.n).sum
theorem kJ(a:List cG)(r:cG):gsum (a++[r])=gsum a+r.guard.n:=by unfold gsum;rw[List.map_append,List.sum_append];simp
theorem rY(a:List cG)(i:Nat):gsum (a.take i)<=gsum a:=by
  have:gsum a=gsum (a.take i)+gsum (a.drop i):=by
    unfold gsum
    rw[<-List.sum_append,<-List.map_append,List.take_append_drop]
  omega
def uQ(rs:List cG):Prop:=rs.length<=12/\(∀r∈rs,r.acts.n<=401)/\gsum rs<=400
set_option maxRecDepth 100000 in
theorem pQ{H:zV}{s:Sl cG}(A:SlOK 5 jy mo H s):dA.C s.p s.n s.c H (λv H'=> ∃t:Bool,v=.bool t/\(t=false->uQ s.xs)/\H'=H):=by
  refine HC.via λR Y=>dA.link ?_
  unfold dA.pt zY
  have Z:=A.len
  by_cases z:(s.n:Int)>12
  · rw[if_pos z]
    exact Y _ _ ⟨true,rfl,λh=>(by cases h),rfl⟩
  rw[if_neg z]
  have X:mo=1048576:=rfl
  refine⟨λm i I=>I=H/\(0<=i/\i<=s.n)/\(0<=m/\m<=i*4000000)/\(gsum (s.xs.take i.toNat):Int)<=m/\(m<=400-> ∀r∈s.xs.take i.toNat,r.acts.n<=401),λ_ i _=>(s.n-i).toNat,⟨rfl,⟨by omega,by omega⟩,⟨by omega,by omega⟩,by simp[gsum],λ_ r h=>by simp at h⟩,?_⟩
  rintro m i A1 ⟨J,S,a5,Q,f⟩
  obtain rfl:H=A1:=J.symm
  by_cases g:i< (s.n:Int)
  case neg=>
    rw[if_neg g]
    rw[List.take_of_length_le (by omega)]at f Q
    exact Y _ _ ⟨_,rfl,λh=>by
      have h4: ¬m>400:=by simpa using h
      exact⟨by omega,f (by omega),by omega⟩,rfl⟩
  rw[if_pos g]
  have y:i.toNat<s.xs.length:=by omega
  obtain⟨la,U,w⟩:=A.row i.toNat y
  have E:cG.OK mo _ s.xs[i.toNat]:=A.each _ (List.getElem_mem y)
  have G:s.xs.take (i+1).toNat=s.xs.take i.toNat++[s.xs[i.toNat]]:=by rw[show(i+1).toNat=i.toNat+1 by omega,List.take_succ_eq_append_getElem y]
  generalize s.xs[i.toNat]=r at*
  have e:=gy w 0 (vs r.acts.p r.acts.n r.acts.c) rfl
  have o:=gy w 1 (vs r.guard.p r.guard.n r.guard.c) rfl
  rw[Nat.zero_add,gL,Nat.add_zero]at e
  rw[Nat.zero_add]at o
  have d:SlOK 8 j4 mo _ r.acts:=E.acts
  have M:=d.len
  have B:=d.le
  have P:=(show SlOK 4 mU mo _ r.guard from E.guard).le
  rw[X]at B P
  refine⟨la,U,⟨S.1,g⟩,_,_,_,o,?_⟩
  rw[w64 (n:=m+(r.guard.n:Int)) (by omega)]
  refine⟨λj k I=>I=H/\(0<=k/\k<=r.acts.n)/\(m+r.guard.n+k<=j/\j<=m+3000000),λ_ k _=>(r.acts.n-k).toNat,⟨rfl,⟨by omega,by omega⟩,⟨by omega,by omega⟩⟩,?_⟩
  rintro j k A2 ⟨K,hk,a0⟩
  obtain rfl:H=A2:=K.symm
  refine⟨⟨S.1,g⟩,_,_,_,e,?_⟩
  by_cases N:k< (r.acts.n:Int)/\j<=400
  · rw[if_pos (by simpa using N)]
    have D:k.toNat<r.acts.xs.length:=by omega
    obtain⟨ka,T,W⟩:=d.row k.toNat D
    have F:jK.OK mo _ r.acts.xs[k.toNat]:=d.each _ (List.getElem_mem D)
    generalize r.acts.xs[k.toNat]=a at*
    have u:=gy W 7 (vs a.l.p a.l.n a.l.c) rfl
    rw[Nat.zero_add]at u
    have V:=(show SlOK 2 gI mo _ a.l from F.l).le
    rw[X]at V
    have O:((r.acts.n:Int)-(k+1)).toNat< ((r.acts.n:Int)-k).toNat:=by omega
    refine⟨⟨S.1,g⟩,_,_,_,e,ka,T,⟨hk.1,N.1⟩,_,_,_,u,?_⟩
    rw[hX (by omega),w64 (n:=(a.l.n:Int) / 8) (by omega),w64 (n:=1+(a.l.n:Int) / 8) (by omega),w64 (n:=j+(1+(a.l.n:Int) / 8)) (by omega),w64 (n:=k+1) (by omega)]
    exact⟨⟨rfl,⟨by omega,by omega⟩,⟨by omega,by omega⟩⟩,O⟩
  · rw[if_neg (by simpa using N)]
    have O:((s.n:Int)-(i+1)).toNat< ((s.n:Int)-i).toNat:=by omega
    rw[w64 (n:=i+1) (by omega)]
    refine⟨⟨rfl,⟨by omega,by omega⟩,⟨by omega,by omega⟩,?_,λh4 q hq=>?_⟩,O⟩
    · rw[G,kJ];omega
    · rw[G]at hq
      rcases List.mem_append.1 hq with t | t
      · exact f (by omega) q t
      · simp at t;subst t;omega
structure Ws (H0 H:zV) (b:Blk) (x:Hp) (sz:Int->Nat) (L:Int->List (Int×Int)) (mB:zW) (mC:Nat) (made:List Int) (eB:zW) (eC:Nat) (el:List (Int×Int)):Prop where
  e:Ext H0 H
  hp:HpAt H b x
  inv:Inv x.sp sz
  gi:GI x.sp.mem sz L
  pv:Pv x.sp.mem sz L made
  own:Own H 28 1 mB made.length mC (wvs made)
  good: ∀w∈made,aC w/\Good x.sp.mem sz w
  eo:Own H 36 2 eB el.length eC (evs el)
  egood: ∀e∈el,kl x.sp.mem sz e
  hb: ∀j∈b.all,H0.size<=j
  hm: ∀j∈blks mB,H0.size<=j/\j ∉ b.all
  he: ∀j∈blks eB,H0.size<=j/\j ∉ b.all/\j ∉ blks mB
section
variable {H0 H H':zV} {b:Blk} {x:Hp} {sz:Int->Nat} {L:Int->List (Int×Int)} {mB:zW} {mC:Nat} {made:List Int} {eB:zW} {eC:Nat} {el:List (Int×Int)}
theorem Ws.ext(h:Ws H0 H b x sz L mB mC made eB eC el)(e:Ext H H'):Ws H0 H' b x sz L mB mC made eB eC el:=
  ⟨h.e.trans e,h.hp.ext e,h.inv,h.gi,h.pv,h.own.ext e,h.good,h.eo.ext e,h.egood,h.hb,h.hm,h.he⟩
theorem Ws.view(h:Ws H0 H b x sz L mB mC made eB eC el):View H (some ⟨b.h,0,none⟩) (some (b,x)):=.real h.hp h.inv.ok
theorem Ws.blt(h:Ws H0 H b x sz L mB mC made eB eC el): ∀j∈b.all,j<H.size:=h.hp.lt
end
structure jI (H:zV) (c:Nat) (r:cG):Prop where
  at':H[c]?=some (.cells #[vs r.acts.p r.acts.n r.acts.c,vs r.guard.p r.guard.n r.guard.c,vi r.g,vi r.target,.int .u32 r.keep] 62 (0,0))
theorem jI.ext{H H':zV}{c:Nat}{r:cG}(h:jI H c r)(e:Ext H H'):jI H' c r:=⟨e.get h.at'⟩
theorem jI.keep{S:List Nat}{H H':zV}{c:Nat}{r:cG}(h:jI H c r)(f:Fr S H H')(a:c ∉ S):jI H' c r:=⟨f.get a h.at'⟩
set_option maxRecDepth 100000 in
theorem pR{Q:zW->Nat->Nat->zV->Prop}{H0 H9:zV}{b:Blk}{x:Hp}{sz:Int->Nat}{L:Int->List (Int×Int)}{mB:zW}{mC mN c:Nat}{made:List Int}{eB:zW}{eC:Nat}{el:List (Int×Int)}{r:cG}(h:Ws H0 H9 b x sz L mB mC made eB eC el)(b0:x.sp.cf<=100000)(hn:mN=made.length)(b2:made.length<=10000)
    (hs:jI H9 c r) (hc:c ∉ b.all/\c ∉ blks mB) (hA:SlOK 8 j4 maxLen H0 r.acts) (aw:r.acts.n<=401)
    (hQ: ∀(A:zV) (l:zW) (v:Nat) (d:List Int) (Y:Hp) (y:Int->Nat) (L':Int->List (Int×Int)),Ws H0 A b Y y L' l v d eB eC el->Y.sp.cf=x.sp.cf->d.length<=made.length+401->jI A c r->c ∉ blks l->H9.size<=A.size->Q l d.length v A):
    ∃(R:zW->Nat->Nat->zv) (a6:zW->Nat->Nat->Int->zV->Nat),R mB mN mC 0 H9/\ ∀(f:zW) (i:Nat) (g:Nat) (k:Int) (o:zV),R f i g k o->
    ∃xB:zW,∃xN:Nat,∃xC:Nat,hat o (Addr.mk c 0 none)=some (vs xB xN xC)/\
    if k< (xN:Int)then(
     ∃J:zW,∃M:Nat,∃a8:Nat,hat o (Addr.mk c 0 none)=some (vs J M a8)/\
     ∃I:Addr,J=some I/\
     ((0:Int)<=k/\k< (M:Int))/\
     ∃a9:Int,∃D:Int,∃N:Int,∃ae:Int,∃O:Int,∃af:Int,∃P:Int,∃aa:zW,∃ac:Nat,∃ab:Nat,aP o (I.add (Int.toNat k*8)) 0 [vi a9,vi D,vi N,vu ae,vi O,vu af,vi P,vs aa ac ab]/\
     cI.C (some ⟨b.h,0,none⟩) a9 D N ae O af P aa ac ab f i g o (λau Z=> ∃z:zW,∃E:Nat,∃B:Nat,au=vs z E B/\
      (R z E B (IntKind.wrap .i64 (k+1)) Z/\a6 z E B (IntKind.wrap .i64 (k+1)) Z<a6 f i g k o)))
    else
    Q f i g o:=by
  have ak:=hA.len
  refine⟨λl a7 v k A=>(0<=k/\k<=r.acts.n)/\ ∃(d:List Int) (Y:Hp) (y:Int->Nat) (L':Int->List (Int×Int)),a7=d.length/\Ws H0 A b Y y L' l v d eB eC el/\Y.sp.cf=x.sp.cf/\(d.length:Int)<=made.length+k/\jI A c r/\c ∉ blks l/\H9.size<=A.size,λ_ _ _ k _=>(r.acts.n-k).toNat,
    ⟨⟨by omega,by omega⟩,made,x,sz,L,hn,h,rfl,by omega,hs,hc.2,Nat.le_refl _⟩,?_⟩
  rintro l a7 v k A ⟨hk,d,Y,y,L',rfl,S,a2,ax,F,U,ai⟩
  have G:hat A (Addr.mk c 0 none)=some (vs r.acts.p r.acts.n r.acts.c):=by rw[aK F.at'];rfl
  refine⟨_,_,_,G,?_⟩
  by_cases W:k< (r.acts.n:Int)
  case neg=>
    rw[if_neg W]
    exact hQ A l v d Y y L' S a2 (by omega) F U ai
  rw[if_pos W]
  have a4:k.toNat<r.acts.xs.length:=by omega
  obtain⟨ka,al,ao⟩:=hA.row k.toNat a4
  have am:jK.OK maxLen H0 r.acts.xs[k.toNat]:=hA.each _ (List.getElem_mem a4)
  generalize r.acts.xs[k.toNat]=a at*
  refine⟨_,_,_,G,ka,al,⟨hk.1,W⟩,_,_,_,_,_,_,_,_,_,_,S.e.rowAt ao,?_⟩
  have hd:((r.acts.n:Int)-(k+1)).toNat< ((r.acts.n:Int)-k).toNat:=by omega
  rw[w64 (n:=k+1) (by omega)]
  refine HC.mono (rR S.view S.inv (by omega) S.own (λj u=>(S.hm j u).2) S.good (by omega) (j4.mono S.e am)) ?_
  rintro _ A2 ⟨B',c',X,x2,ap,rfl,T,K,a5,hL⟩
  have a3:=S.blt
  have w: ∀j,j∈[b.sp,b.m,b.s]->j∈b.all:=λj q=>by simp at q;simp[Blk.all];omega
  obtain⟨-,an,-⟩:=T.view.inv
  obtain⟨L2,G2,P2⟩:=S.gi.mv S.inv.sound S.inv.ok.mem T.inv.sound T.inv.ok.mem hL K S.pv a5
  have V:Own A2 36 2 eB el.length eC (evs el):=S.eo.keep T.fr (λj u q=>by
    rcases List.mem_append.1 q with q | q
    · exact(S.he j u).2.1 (w j q)
    · exact(S.he j u).2.2 q)
  refine⟨_,_,_,rfl,⟨⟨by omega,by omega⟩,X,x2,ap,L2,rfl,⟨?_,an,T.inv,G2,P2,T.own,T.good,V,λe he=>⟨⟨(S.egood e he).1.1,hL _ (S.egood e he).1.2⟩,(S.egood e he).2.1,hL _ (S.egood e he).2.2⟩,S.hb,λj u=>?_,λj u=>⟨(S.he j u).1,(S.he j u).2.1,λq=>?_⟩⟩,T.cf.trans a2,?_,F.keep T.fr (λq=>?_),λq=>?_,by have:=T.fr.size;omega⟩,hd⟩
  · refine S.e.fr_trans T.fr (λj u=>?_)
    rcases List.mem_append.1 u with q | q
    · exact S.hb j (w j q)
    · exact(S.hm j q).1
  · rcases T.blk j u with q | q
    · exact S.hm j q
    · have:=S.e.size
      exact⟨by omega,λhb=>by have:=a3 j hb;omega⟩
  · rcases T.blk j q with t | t
    · exact(S.he j u).2.2 t
    · have:=S.eo.lt j u;omega
  · have:=T.len;omega
  · rcases List.mem_append.1 q with q | q
    · exact hc.1 (w c q)
    · exact U q
  · rcases T.blk c q with t | t
    · exact U t
    · have:=bC F.at';omega
set_option maxRecDepth 100000 in
theorem pS{H0 H:zV}{b:Blk}{x:Hp}{sz:Int->Nat}{L:Int->List (Int×Int)}{mB:zW}{mC:Nat}{made:List Int}{eB:zW}{eC:Nat}{el:List (Int×Int)}{r:cG}(h:Ws H0 H b x sz L mB mC made eB eC el)(hA:SlOK 4 mU maxLen H0 r.guard)(hg:r.guard.n<=400)(ap:el.length<=10000):
    bT.C eB el.length eC r.acts.p r.acts.n r.acts.c r.guard.p r.guard.n r.guard.c r.g r.target r.keep mB made.length mC H (λv H'=> ∃(l:zW) (o:Nat) (d:List (Int×Int)),v=vs l d.length o/\Ws H0 H' b x sz L mB mC made l o d/\d.length<=el.length+r.guard.n/\Fr (blks eB) H H'):=by
  refine HC.via λR hR=>bT.link ?_
  unfold bT.pt zY
  intro c P hc D
  have e1:Ext H P:=Ext.push' D
  have g1:=aO hc D
  have z1:P.size=H.size+1:=by rw[D];simp
  have hl:=hA.len
  refine⟨λl Z o k A=>(0<=k/\k<=r.guard.n)/\ ∃(d:List (Int×Int)),Z=d.length/\Ws H0 A b x sz L mB mC made l o d/\(d.length:Int)=el.length+k/\A[c]?=P[c]?/\c ∉ blks l/\Fr (blks eB) H A/\(∀j∈blks l,j∈blks eB\/H.size<=j)/\P.size<=A.size,λ_ _ _ k _=>(r.guard.n-k).toNat,
    ⟨⟨by omega,by omega⟩,el,rfl,h.ext e1,by omega,rfl,λq=>by have:=h.eo.lt c q;omega,e1.fr,λj i=> .inl i,Nat.le_refl _⟩,?_⟩
  rintro l _ o k A ⟨hk,d,rfl,S,af,K,M,fA,I,zA⟩
  have T:A[c]?=some (.cells #[vs r.acts.p r.acts.n r.acts.c,vs r.guard.p r.guard.n r.guard.c,vi r.g,vi r.target,.int .u32 r.keep] 62 (0,0)):=by rw[K];exact g1
  have m: ∀{A':zV},Ext A A'->hat A' ((Addr.mk c 0 none).add 1)=some (vs r.guard.p r.guard.n r.guard.c):=λe=>by rw[ig (e.get T)];rfl
  refine⟨_,_,_,m (Ext.refl _),?_⟩
  by_cases s:(decide (k< (r.guard.n:Int)) && decide ((made.length:Int)>0))=true
  case neg=>
    rw[if_neg s]
    exact hR _ _ ⟨l,o,d,rfl,S,by omega,fA⟩
  rw[if_pos s]
  rw[Bool.and_eq_true,decide_eq_true_eq,decide_eq_true_eq]at s
  have N:k.toNat<r.guard.xs.length:=by omega
  obtain⟨U,E,a7⟩:=hA.row k.toNat N
  have t:mU.ok maxLen H0 r.guard.xs[k.toNat]:=hA.each _ (List.getElem_mem N)
  generalize r.guard.xs[k.toNat]=v at*
  have ab: ∀{A:zV} {a:Addr} {v:Value},hat A a=some v->aP A a 0 [v]:=λh=>⟨by rw[nU];exact h,trivial⟩
  have G:=S.e.rowAt a7
  have a6:aP A (U.add (k.toNat*4)) 0 [vu v.a.w,vi v.a.ofv]:=⟨G.1,G.2.1,trivial⟩
  have O:aP A ((U.add (k.toNat*4)).add 2) 0 [vu v.b.w,vi v.b.ofv]:=jw λj u i=>by
    have:=gy G (2+j) u (by
      rcases j with _ | _ | j
      · exact i
      · exact i
      · simp at i)
    rw[Nat.zero_add,gL,<-Nat.add_assoc]at*
    rw[<-gL]
    rw[<-gL,<-gL]at this
    rw[gL,gL]
    rw[gL,gL]at this
    exact this
  refine⟨_,_,_,m (Ext.refl _),U,E,⟨hk.1,s.1⟩,_,_,a6,_,_,_,m (Ext.refl _),U,E,⟨hk.1,s.1⟩,_,_,O,?_⟩
  have hd:((r.guard.n:Int)-(k+1)).toNat< ((r.guard.n:Int)-k).toNat:=by omega
  refine HC.mono (kz (wf_u64 t.1.w) (wf_i64 t.1.ofv) S.own) ?_
  rintro _ H8 ⟨rfl,Q⟩
  refine⟨_,rfl,ab (by rw[<-E];exact m Q),Q.rowAt O,?_⟩
  refine HC.mono (kz (wf_u64 t.2.w) (wf_i64 t.2.ofv) (S.own.ext Q)) ?_
  rintro _ H9 ⟨rfl,e9⟩
  have Y:=Q.trans e9
  refine⟨_,rfl,λb3 V a3 z=>?_⟩
  have X:Ext H9 V:=Ext.push' z
  have e:=Y.trans X
  have vw: ∀{u:jc},gI.ok maxLen H0 u->aC (valW u.w u.ofv made)/\Good x.sp.mem sz (valW u.w u.ofv made):=λ{u} hu=>⟨kG (wf_u64 hu.w) (Of:=u.ofv) (λw hw=>(S.good w hw).1),kH (λw hw=>(S.good w hw).2)⟩
  have w1:=vw t.1
  have w2:=vw t.2
  generalize valW v.a.w v.a.ofv made=n1 at*
  generalize valW v.b.w v.b.ofv made=n2 at*
  refine fU (ys:=[vu n1,vu n2]) (S.eo.ext e) (iO (aO a3 z)) rfl rfl rfl (by omega) ?_
  intro p' c' W a5 f B
  rw[w64 (n:=k+1) (by omega)]
  have zS:=S.e.size
  have ze:=e.size
  have ay:=f.size
  have J:=S.blt
  have zf:=fA.size
  have y: ∀j∈blks p',H0.size<=j/\j ∉ b.all/\j ∉ blks mB/\j≠c:=λj i=>by
    rcases B j i with q | q
    · exact⟨(S.he j q).1,(S.he j q).2.1,(S.he j q).2.2,λe=>M (e▸q)⟩
    · refine⟨by omega,λhb=>by have:=J j hb;omega,λhm=>by have:=S.own.lt j hm;omega,λe=>by have:=bC T;omega⟩
  have F:(d++[(n1,n2)]).length=d.length+1:=by simp
  have a1:Fr (blks eB) H W:=(fA.trans e.fr).trans' f (λj i _=>i) (λj i s=>by
    rcases I j i with q | q
    · exact q
    · omega)
  refine⟨⟨⟨by omega,by omega⟩,d++[(n1,n2)],by rw[F],⟨(S.e.trans e).fr_trans f (λj i=>(S.he j i).1),(S.hp.ext e).keep f (λj i=>(S.he j i).2.1),S.inv,S.gi,S.pv,(S.own.ext e).keep f (λj i q=>(S.he j q).2.2 i),S.good,?_,λen a4=>?_,S.hb,S.hm,λj i=>⟨(y j i).1,(y j i).2.1,(y j i).2.2.1⟩⟩,by rw[F];omega,?_,λq=>(y c q).2.2.2 rfl,a1,λj i=>?_,by omega⟩,hd⟩
  · rw[F,pH]
    exact a5
  · rcases List.mem_append.1 a4 with q | q
    · exact S.egood en q
    · simp at q;rw[q];exact⟨w1,w2⟩
  · rw[f.get M (e.get T),<-T,K]
  · rcases B j i with q | q
    · exact I j q
    · exact .inr (by omega)
theorem rZ{H:zV}{T:TypeId}{B:zW}{n c:Nat}{d:List Int}{w:Int}(m:Own H T 1 B n c (wvs d))(s:d.length<=1000000):bX.C B n c w H (λv H'=>v=vi (d.count w)/\H'=H):=by
  refine HC.via λR p=>bX.link ?_
  unfold bX.pt zY
  have hn:n=d.length:=by have:=m.len;simpa[wvs]using this.symm
  subst hn
  refine⟨λo i A=>A=H/\ ∃k:Nat,i=k/\k<=d.length/\o=((d.take k).count w:Nat),λ_ i _=>((d.length:Int)-i).toNat,⟨rfl,0,rfl,by omega,by simp⟩,?_⟩
  rintro o _ _ ⟨rfl,k,rfl,hk,rfl⟩
  by_cases e:(k:Int)< (d.length:Int)
  case neg=>
    rw[if_neg e]
    obtain rfl:k=d.length:=by omega
    rw[List.take_length]
    exact p _ _ ⟨rfl,rfl⟩
  rw[if_pos e]
  have f:k<d.length:=by omega
  obtain⟨a,q,hat⟩:=m.at (j:=k) (v:=vu d[k]) (by unfold wvs;rw[List.getElem?_map,List.getElem?_eq_getElem f];rfl)
  refine⟨a,q,⟨by omega,e⟩,d[k],by rw[show(k:Int).toNat*1=k by omega];exact hat,?_⟩
  have g:d.take (k+1)=d.take k++[d[k]]:=List.take_succ_eq_append_getElem f
  have l:((d.length:Int)-((k:Int)+1)).toNat< ((d.length:Int)-(k:Int)).toNat:=by omega
  have r:(d.take k).count w<=d.length:=Nat.le_trans List.count_le_length (by rw[List.length_take];omega)
  rw[w64 (n:=(k:Int)+1) (by omega)]
  by_cases h:d[k]=w
  · rw[if_pos h,w64 (n:=((d.take k).count w:Nat)+1) (by omega)]
    exact⟨⟨rfl,k+1,by omega,by omega,by rw[g,List.count_append,h];simp⟩,l⟩
  · rw[if_neg h]
    exact⟨⟨rfl,k+1,by omega,by omega,by rw[g,List.count_append];simp[List.count_cons,h]⟩,l⟩
variable{d:Blk}{i:Hp}{j:Nat}{k:TB}{o:Tr}{H:zV}{u:zW}{v:List Int}{z:zV->Prop}
set_option maxRecDepth 100000 in
theorem qK{K:Sp}{c Z:Nat}{b:List Int}{r:cG}(T:Tg H d {i with sp:=K} k o)(W:Own H 28 1 u b.length Z (wvs b))(Y: ∀w∈b,aC w)(V:b.length<=1000000)
    (X:jI H c r) (U:c ∉ spB d) (J: ∀j∈blks u,j ∉ spB d) (R: ∀(A:zV) (q:List Int),(∀w∈q,w∈b)->Tg A d {i with sp:=(K.visL o.old o.tgt q).1} k o->Fr (spB d) H A->z A):
    ∃(m:zv) (p:Int->zV->Nat),m 0 H/\ ∀(e:Int) (g:zV),m e g->
    if e< (b.length:Int)then(
     ∃E:Int,hat g ((Addr.mk c 0 none).add 4)=some (.int .u32 E)/\
     cJ.C E e g (λL l=> ∃F:Bool,L=.bool F/\
      if F=true then(
       ∃f:Addr,u=some f/\
       ((0:Int)<=e/\e< (b.length:Int))/\
       ∃G:Int,hat l (f.add (Int.toNat e*1))=some (vu G)/\
       aT.C (some ⟨k.t,0,none⟩) G l (λM y=> ∃N:Int,M=vu N/\
        (m (IntKind.wrap .i64 (e+1)) y/\p (IntKind.wrap .i64 (e+1)) y<p e g)))
      else
      (m (IntKind.wrap .i64 (e+1)) l/\p (IntKind.wrap .i64 (e+1)) l<p e g)))
    else
    z g:=by
  refine⟨λa2 A=> ∃(a3:Nat) (q:List Int),a2=a3/\a3<=b.length/\(∀w∈q,w∈b)/\Tg A d {i with sp:=(K.visL o.old o.tgt q).1} k o/\Fr (spB d) H A,λa2 _=>((b.length:Int)-a2).toNat,⟨0,[],rfl,by omega,λw h=>(by cases h),T,Fr.refl _ _⟩,?_⟩
  rintro _ A ⟨a3,q,rfl,hk,x,I,B⟩
  by_cases t:(a3:Int)< (b.length:Int)
  case neg=>rw[if_neg t];exact R A q x I B
  rw[if_pos t]
  have s:a3<b.length:=by omega
  have O:((b.length:Int)-((a3:Int)+1)).toNat< ((b.length:Int)-(a3:Int)).toNat:=by omega
  refine⟨r.keep,by rw[ig (X.keep B U).at'];rfl,?_⟩
  refine HC.mono (tz (by omega)) ?_
  rintro _ _ ⟨⟨tb,rfl⟩,rfl⟩
  refine⟨_,rfl,?_⟩
  rw[w64 (n:=(a3:Int)+1) (by omega)]
  by_cases D:tb=true
  · rw[if_pos D]
    obtain⟨a,S,hat⟩:=(W.keep B J).at (j:=a3) (v:=vu b[a3]) (by unfold wvs;rw[List.getElem?_map,List.getElem?_eq_getElem s];rfl)
    refine⟨a,S,⟨by omega,t⟩,b[a3],by rw[show(a3:Int).toNat*1=a3 by omega];exact hat,?_⟩
    refine HC.mono (fq I (Y _ (List.getElem_mem s))) ?_
    rintro _ A2 ⟨rfl,P,Q⟩
    refine⟨_,rfl,⟨a3+1,q++[b[a3]],by omega,by omega,λw h=>?_,?_,B.trans Q⟩,O⟩
    · rcases List.mem_append.1 h with h | h
      · exact x w h
      · simp at h;rw[h];exact List.getElem_mem s
    · rw[Sp.visL_snoc];exact P
  · rw[if_neg D]
    exact⟨⟨a3+1,q,by omega,by omega,x,I,B⟩,O⟩
def ik(O:Nat->Bool)(m:Mem)(el:List (Int×Int)):List Bool:=el.map λe=> !(reachedB O m e.1)
def bvs(l:List Bool):List Value:=l.map Value.bool
set_option maxRecDepth 100000 in
theorem pT{Q:zW->Nat->Nat->zV->Prop}{b:List (Int×Int)}(T:Tg H d i k o)(ho:Own H 36 2 u b.length j (evs b))(hw: ∀e∈b,aC e.1)(a6:b.length<=1000000)
    (hQ: ∀(A:zV) (q:zW) (y:Nat),Own A 4 1 q b.length y (bvs (ik o.old i.sp.mem b))->(∀ak∈blks q,H.size<=ak)->Ext H A->Q q b.length y A):
    ∃(v:zW->Nat->Nat->zv) (L:zW->Nat->Nat->Int->zV->Nat),v none 0 0 0 H/\ ∀(ik:zW) (c:Nat) (f:Nat) (g:Int) (l:zV),v ik c f g l->
    if g< (b.length:Int)then(
     ∃r:Addr,u=some r/\
     ((0:Int)<=g/\g< (b.length:Int))/\
     ∃s:Int,hat l (r.add (Int.toNat g*2))=some (vu s)/\
     aU.C (some ⟨k.t,0,none⟩) s l (λM z=> ∃t:Bool,M=.bool t/\
      ∀(F:Nat) (B:zV),F=z.size->B=z.push (.cells #[.bool (!t)] 4)->
      fE 1 4 1 [vF] ik c f (some (Addr.mk F 0 none)) 1 B (λZ E D=>
       (v Z (c+1) E (IntKind.wrap .i64 (g+1)) D/\L Z (c+1) E (IntKind.wrap .i64 (g+1)) D<L ik c f g l))))
    else
    Q ik c f l:=by
  have p:(ik o.old i.sp.mem b).length=b.length:=by unfold ik;rw[List.length_map]
  refine⟨λq N y aj A=> ∃al:Nat,aj=al/\al<=b.length/\N=al/\Own A 4 1 q N y (bvs ((ik o.old i.sp.mem b).take al))/\(∀ak∈blks q,H.size<=ak)/\Ext H A,λ_ _ _ aj _=>((b.length:Int)-aj).toNat,⟨0,rfl,by omega,rfl,iB,λak h=>(by simp at h),Ext.refl _⟩,?_⟩
  rintro q N y _ A ⟨al,rfl,hk,U,S,w,G⟩
  obtain rfl:al=N:=U.symm
  by_cases x:(al:Int)< (b.length:Int)
  case neg=>
    rw[if_neg x]
    obtain rfl:al=b.length:=by omega
    rw[<-p,List.take_length,p]at S
    exact hQ A q y S w G
  rw[if_pos x]
  have m:al<b.length:=by omega
  have hd:((b.length:Int)-((al:Int)+1)).toNat< ((b.length:Int)-(al:Int)).toNat:=by omega
  obtain⟨a,ha,K⟩:=ho.entries al m
  have J:=K.1
  rw[k8]at J
  refine⟨a,ha,⟨by omega,x⟩,b[al].1,by rw[show(al:Int).toNat*2=al*2 by omega];exact G.hat J,?_⟩
  refine HC.mono (fp (T.grow G).toTc (hw _ (List.getElem_mem m))) ?_
  rintro _ A2 ⟨rfl,O⟩
  refine⟨_,rfl,λb3 A3 R I=>?_⟩
  have P:Ext A2 A3:=Ext.push' I
  have hv:(ik o.old i.sp.mem b)[al]'(by rw[p];exact m)= !(reachedB o.old i.sp.mem b[al].1):=by unfold ik;rw[List.getElem_map]
  have Y:(ik o.old i.sp.mem b).take (al+1)=(ik o.old i.sp.mem b).take al++[!(reachedB o.old i.sp.mem b[al].1)]:=by rw[List.take_succ_eq_append_getElem (by rw[p];exact m),hv]
  have X:=ji T.on i.sp.mem b[al].1
  refine fU (ys:=[.bool (!(reachedB o.old i.sp.mem b[al].1))]) ((S.ext O).ext P) (by
    have:=iO (aO R I)
    rw[X]at this
    exact this) rfl rfl rfl (by omega) ?_
  intro B' c' A4 W f4 V
  rw[w64 (n:=(al:Int)+1) (by omega)]
  have zA:=G.size
  have z2:=O.size
  have z3:=P.size
  refine⟨⟨al+1,by omega,by omega,rfl,?_,λak hj=>?_,((G.trans O).trans P).fr_trans f4 w⟩,hd⟩
  · rw[Y]
    unfold bvs at*
    rw[List.map_append];exact W
  · rcases V ak hj with h | h
    · exact w ak h
    · omega
theorem oQ{R:zk}{X:Nat}{l:List Int}(T:Tg H d i k o)(V:Own H 3 1 u l.length X (ivs l))(Z:l.length<=300000)(S: ∀a∈l,i.sp.mem.used a/\a<=1000000/\aC (i.sp.mem.get a)/\ ¬aG o.old (i.sp.mem.get a))
    (O: ∀A:zV,Ext H A->z A):
    ∃(e:zv) (f:Int->zV->Nat),e 0 H/\ ∀(c:Int) (b:zV),e c b->
    if c< (l.length:Int)then(
     ∃I:Addr,(some (Addr.mk d.h 0 none))=some I/\
     ∃s:zW,hat b I=some (vp s)/\
     ∃p:Addr,s=some p/\
     ∃t:zW,hat b p=some (vp t)/\
     ∃q:Addr,t=some q/\
     ∃w:zW,hat b q=some (vp w)/\
     ∃r:Addr,u=some r/\
     ((0:Int)<=c/\c< (l.length:Int))/\
     ∃x:Int,hat b (r.add (Int.toNat c*1))=some (vi x)/\
     bL.C w x b (λJ F=> ∃g:Int,∃m:Int,J=.tuple #[vu g,vi m]/\
      if m=0 then(
       aZ.C (some ⟨k.t,0,none⟩) g F (λK B=> ∃y:Bool,K=.bool y/\
        if y=true then(
         R vF B)
        else
        (e (IntKind.wrap .i64 (c+1)) B/\f (IntKind.wrap .i64 (c+1)) B<f c b)))
      else
      R vF F))
    else
    z b:=by
  refine⟨λa0 A=> ∃a1:Nat,a0=a1/\a1<=l.length/\Ext H A,λa0 _=>((l.length:Int)-a0).toNat,⟨0,rfl,by omega,Ext.refl _⟩,?_⟩
  rintro _ A ⟨a1,rfl,hk,L⟩
  by_cases D:(a1:Int)< (l.length:Int)
  case neg=>rw[if_neg D];exact O A L
  rw[if_pos D]
  have G:a1<l.length:=by omega
  have Q:((l.length:Int)-((a1:Int)+1)).toNat< ((l.length:Int)-(a1:Int)).toNat:=by omega
  have E:=T.grow L
  obtain⟨a2,U,W,M⟩:=S _ (List.getElem_mem G)
  obtain⟨a,P,hat⟩:=(V.ext L).at (j:=a1) (v:=vi l[a1]) (by unfold ivs;rw[List.getElem?_map,List.getElem?_eq_getElem G];rfl)
  refine⟨_,rfl,_,E.hp.hPtr,_,rfl,_,E.hp.cd.cPtr,_,rfl,_,E.hp.cd.sp.memPtr,a,P,⟨by omega,D⟩,l[a1],by rw[show(a1:Int).toNat*1=a1 by omega];exact hat,?_⟩
  refine HC.mono (hU E.hp.cd.sp.mem E.ok.mem (by omega)) ?_
  rintro _ _ ⟨rfl,rfl⟩
  refine⟨i.sp.mem.get l[a1],0,by rw[if_pos a2],?_⟩
  rw[if_pos rfl]
  refine HC.mono (jD E.toTc W) ?_
  rintro _ Y ⟨rfl,N⟩
  refine⟨_,rfl,?_⟩
  rw[if_neg (by rw[decide_eq_true_eq];exact λh=>M h.2),w64 (n:=(a1:Int)+1) (by omega)]
  exact⟨⟨a1+1,by omega,by omega,L.trans N⟩,Q⟩
set_option maxRecDepth 100000 in
theorem oR{Y:Nat}{b:List Int}{F:Int->Int}(T:Tg H d i k o)(ho:Own H 28 1 u b.length Y (wvs b))(a5:b.length<=1000000)(P: ∀j∈blks u,j ∉ spB d)(hw: ∀w∈b,aC w)
    (hv: ∀w∈b,reachedB o.old i.sp.mem w=true->i.sp.visit o.old o.tgt w=(i.sp,F w)):
    gZ.C (some ⟨k.t,0,none⟩) u b.length Y H (λv K=> ∃B c,v=.slice B ((b.filter (reachedB o.old i.sp.mem)).map F).length c/\Own K 28 1 B ((b.filter (reachedB o.old i.sp.mem)).map F).length c (wvs ((b.filter (reachedB o.old i.sp.mem)).map F))/\(∀j∈blks B,H.size<=j)/\Tg K d i k o/\Fr (spB d) H K):=by
  refine HC.via λR hR=>gZ.link ?_
  unfold gZ.pt zY
  refine HC.mono (jr T.toTc) ?_
  rintro _ HH ⟨rfl,M⟩
  obtain rfl:H=HH:=M.symm
  refine⟨_,rfl,?_⟩
  rw[if_neg (by rw[T.on];decide)]
  refine⟨λt J V ak A=> ∃al:Nat,ak=al/\al<=b.length/\J=(((b.take al).filter (reachedB o.old i.sp.mem)).map F).length/\Own A 28 1 t J V (wvs (((b.take al).filter (reachedB o.old i.sp.mem)).map F))/\(∀j∈blks t,H.size<=j)/\Tg A d i k o/\Fr (spB d) H A/\J<=al,λ_ _ _ ak _=>((b.length:Int)-ak).toNat,⟨0,rfl,by omega,rfl,iB,λj h=>(by simp at h),T,Fr.refl _ _,by omega⟩,?_⟩
  rintro t J V _ A ⟨al,rfl,hk,q,r,e,G,x,a7⟩
  by_cases p:(al:Int)< (b.length:Int)
  case neg=>
    rw[if_neg p]
    obtain rfl:al=b.length:=by omega
    rw[List.take_length]at q r
    subst q
    exact hR _ _ ⟨t,V,rfl,r,e,G,x⟩
  rw[if_pos p]
  have m:al<b.length:=by omega
  have X:((b.length:Int)-((al:Int)+1)).toNat< ((b.length:Int)-(al:Int)).toNat:=by omega
  obtain⟨a,ha,hat⟩:=(ho.keep x P).at (j:=al) (v:=vu b[al]) (by unfold wvs;rw[List.getElem?_map,List.getElem?_eq_getElem m];rfl)
  refine⟨a,ha,⟨by omega,p⟩,b[al],by rw[show(al:Int).toNat*1=al by omega];exact hat,?_⟩
  have E:=hw _ (List.getElem_mem m)
  have D:b.take (al+1)=b.take al++[b[al]]:=List.take_succ_eq_append_getElem m
  have U:=hv _ (List.getElem_mem m)
  generalize b[al]=w at*
  refine HC.mono (fp G.toTc E) ?_
  rintro _ A2 ⟨rfl,s⟩
  refine⟨_,rfl,?_⟩
  rw[ji T.on,w64 (n:=(al:Int)+1) (by omega)]
  by_cases l:reachedB o.old i.sp.mem w=true
  · rw[if_pos l]
    refine HC.mono (fq (G.grow s) E) ?_
    rw[U l]
    rintro _ Z ⟨rfl,T3,L⟩
    refine⟨_,rfl,λb4 A4 N y=>?_⟩
    have I:Ext Z A4:=Ext.push' y
    have z2:=s.size
    have z3:=L.size
    have z4:=I.size
    have zA:=x.size
    have O: ∀j∈blks t,j ∉ spB d:=λj f h=>by
      have:=e j f
      have:=T.lt (.inl (gH h));omega
    have z: ∀j∈blks t,j ∉ d.all/\j ∉ k.all:=λj f=>⟨λh=>by have:=e j f;have:=T.lt (.inl h);omega,λh=>by have:=e j f;have:=T.lt (.inr h);omega⟩
    refine fU (ys:=wvs [F w]) (((r.ext s).keep L O).ext I) (iO (aO N y)) rfl rfl rfl (by omega) ?_
    intro B' c' A5 S W Q
    have g:((b.take (al+1)).filter (reachedB o.old i.sp.mem)).map F=((b.take al).filter (reachedB o.old i.sp.mem)).map F++[F w]:=by
      rw[D,List.filter_append,List.map_append,List.filter_cons_of_pos l];rfl
    refine⟨⟨al+1,by omega,by omega,by rw[g,List.length_append,q];rfl,?_,λj f=>?_,(T3.grow I).stay W (λj f=>(z j f).1) (λj f=>(z j f).2),((((x.trans s.fr).trans L).trans I.fr)).trans' W (λj f _=>f) (λj f p=>by have:=e j f;omega),by omega⟩,X⟩
    · rw[g]
      unfold wvs at*
      rw[List.map_append];exact S
    · rcases Q j f with h | h
      · exact e j h
      · omega
  · rw[if_neg l]
    have g:((b.take (al+1)).filter (reachedB o.old i.sp.mem)).map F=((b.take al).filter (reachedB o.old i.sp.mem)).map F:=by
      rw[D,List.filter_append,List.filter_cons_of_neg l];simp
    exact⟨⟨al+1,by omega,by omega,by rw[g];exact q,by rw[g];exact r.ext s,e,G.grow s,x.trans s.fr,by omega⟩,X⟩
theorem pU{R:zk}{K:Nat}{l:List Int}(T:Tg H d i k o)(I:Own H 28 1 u l.length K (wvs l))(M:l.length<=1000000)(G: ∀w∈l,aC w/\ ¬aG o.old w)
    (D: ∀A:zV,Ext H A->z A):
    ∃(e:zv) (f:Int->zV->Nat),e 0 H/\ ∀(b:Int) (c:zV),e b c->
    if b< (l.length:Int)then(
     ∃g:Addr,u=some g/\
     ((0:Int)<=b/\b< (l.length:Int))/\
     ∃m:Int,hat c (g.add (Int.toNat b*1))=some (vu m)/\
     aZ.C (some ⟨k.t,0,none⟩) m c (λt q=> ∃p:Bool,t=.bool p/\
      if p=true then(
       R vF q)
      else
      (e (IntKind.wrap .i64 (b+1)) q/\f (IntKind.wrap .i64 (b+1)) q<f b c)))
    else
    z c:=by
  refine⟨λN A=> ∃O:Nat,N=O/\O<=l.length/\Ext H A,λN _=>((l.length:Int)-N).toNat,⟨0,rfl,by omega,Ext.refl _⟩,?_⟩
  rintro _ A ⟨O,rfl,hk,x⟩
  by_cases r:(O:Int)< (l.length:Int)
  case neg=>rw[if_neg r];exact D A x
  rw[if_pos r]
  have s:O<l.length:=by omega
  have F:((l.length:Int)-((O:Int)+1)).toNat< ((l.length:Int)-(O:Int)).toNat:=by omega
  obtain⟨J,y⟩:=G _ (List.getElem_mem s)
  obtain⟨a,E,hat⟩:=(I.ext x).at (j:=O) (v:=vu l[O]) (by unfold wvs;rw[List.getElem?_map,List.getElem?_eq_getElem s];rfl)
  refine⟨a,E,⟨by omega,r⟩,l[O],by rw[show(O:Int).toNat*1=O by omega];exact hat,?_⟩
  refine HC.mono (jD (T.grow x).toTc J) ?_
  rintro _ L ⟨rfl,B⟩
  refine⟨_,rfl,?_⟩
  rw[if_neg (by rw[decide_eq_true_eq];exact λh=>y h.2),w64 (n:=(O:Int)+1) (by omega)]
  exact⟨⟨O+1,by omega,by omega,x.trans B⟩,F⟩
