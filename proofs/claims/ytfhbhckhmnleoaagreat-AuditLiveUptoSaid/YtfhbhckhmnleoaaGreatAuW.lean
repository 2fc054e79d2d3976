/-
 Heaps that audits find sound: what collections keep; the list of things; marks; faults. Proves nothing of any one statement.
-/
import Derived.Test.YtfhbhckhmnleoaaGreatGcJ
import Derived.Test.YtfhbhckhmnleoaaGreatAuT
import Derived.Test.YtfhbhckhmnleoaaGreatWord
import Derived.Test.YtfhbhckhmnleoaaGreatColS
set_option linter.unusedVariables false
set_option linter.unusedSimpArgs false
set_option maxRecDepth 100000
namespace Go.Proofs.YtfhbhckhmnleoaaGreat
open Go
theorem og{O:Nat->Bool}{fw:Int->Option Int}{v:Int}(h:FW v):FW (Fw O fw v):=by
 unfold Fw
 by_cases a:aO O v
 ·rw[qB a]
  have:=a.1.1
  have:=a.2.1
  cases fw (v / 8)with
  | none=>exact h
  | some b=>exact .inr (.inr (by unfold aZ;show(b*8+v % 8) % 8=1\/(b*8+v % 8) % 8=2\/(b*8+v % 8) % 8=3;omega))
 ·rw[za a];exact h
section
variable {Z:TZ} {g F0:Int} {fw:Int->Option Int} {al:List Int} {s:Sp} {sz:Int->Nat}
theorem fM.snd{M:Tr}{L:Sp}{m:Mem}(t:fM Z g F0 fw al sz M s L m)(h:Bn Z.m Z.sz):Bn m (zF Z.O sz):=by
 have S:=t.S
 refine⟨λx I=>?_,λb i j c C B=>?_⟩
 ·obtain⟨z,H⟩:=t.used.1 I
  rcases t.tri.cover x z with q | ⟨a,b,i,j,c,rfl⟩ | ⟨p,l,A⟩
  ·obtain⟨a,i,u,c,rfl⟩:=h.cover x q
   have v:=S.sound.usedAt u c (λk=>(S.ok.seg k).n.2)
   have e:zF Z.O sz a=Z.sz a:=by
    unfold zF
    rw[za (by rw[<-v.2.1,H];decide),t.tri.sz0 _ (S.sound.used a u).1]
   exact⟨a,i,by rw[e];exact u,by rw[e];exact c,rfl⟩
  ·obtain⟨o,J⟩:=t.tri.img a b j
   have y:=(t.tri.olds.mem a ((t.tri.al a).2 ⟨b,j⟩)).1
   have e:zF Z.O sz b=Z.sz a:=by
    unfold zF
    rw[za (by rw[J.out];decide),o]
   exact⟨b,i,by rw[e];exact y,by rw[e];exact c,rfl⟩
  ·have d:=(t.pair l).1
   rcases A with rfl | rfl
   ·exact⟨x,0,by rw[d];decide,by rw[d];decide,by simp⟩
   ·exact⟨p,1,by rw[d];decide,by rw[d];decide,rfl⟩
 ·cases f:Z.q (b+i)with
  | some w=>
   have W:=t.tri.qok _ w f
   have G:m.get (b+i)=w:=by
    rcases t.get (.inl f:Was Z fw (b+i) w)with⟨K,_⟩ | ⟨_,q,P⟩
    ·rw[K,za W.strong.1,jv W.young]
    ·have:=W.strong.2.resolve_left (λr=>r q);omega
   rw[G]
   rcases W.tagged with r | r
   ·exact .inr (.inr r)
   ·rw[r];exact .inr (.inl ⟨by decide,by decide⟩)
  | none=>
   rcases t.thing j with l | ⟨a,E,o,hk,_,F,_,_⟩
   ·have N:=(t.tri.pair b l).q
    have d:=(t.pair l).1
    rw[d]at c
    rcases(show i=0\/i=1 by omega)with rfl | rfl
    ·exact absurd (by simpa using f) N.1
    ·exact absurd f N.2
   rw[o]at c
   rw[hk]at C B
   have D:=h.fine a i E c C B
   rcases t.get (.inr ⟨f,(F i c).2.1⟩:Was Z fw _ _)with⟨q,_⟩ | ⟨q,_⟩
   ·rw[q]
    split
    ·exact D
    ·exact og D
   ·rw[q];exact .inr (.inl ⟨by decide,by decide⟩)
end
section
variable {s:Sp} {sz:Int->Nat}
def zn(m:Mem)(a:Int):Int:=a*8+y8 (m.kAt a)
theorem wu(k:Int):y8 k=1\/y8 k=2\/y8 k=3:=by
 unfold y8
 split
 ·exact .inl rfl
 split
 ·exact .inr (.inl rfl)
 ·exact .inr (.inr rfl)
theorem qv(I:Inv s sz){a:Int}(h:sz a≠0):aD (zn s.mem a)/\Good s.mem sz (zn s.mem a)/\aZ (zn s.mem a)/\zn s.mem a / 8=a/\s.mem.sizeOf (zn s.mem a)=sz a:=by
 have j:=I.sound.lt I.ok.mem h
 have i:=wu (s.mem.kAt a)
 have b:zn s.mem a / 8=a:=by unfold zn;omega
 have c:zn s.mem a % 8=y8 (s.mem.kAt a):=by unfold zn;omega
 have f:aD (zn s.mem a):=by unfold zn;constructor<;>omega
 have d:aZ (zn s.mem a):=by unfold aZ;rw[c];exact i
 have e:Good s.mem sz (zn s.mem a):=⟨by rw[c];omega,λ_=>by rw[b,c];exact⟨h,rfl⟩⟩
 refine⟨f,e,d,b,?_⟩
 rw[I.sound.size I.ok.mem f e d,b]
theorem oO{m:Mem}{v:Int}(c:Good m sz v)(d:aZ v):v=zn m (v / 8):=by
 obtain⟨_,b⟩:=c.2 d
 have a:v % 8=y8 (m.kAt (v / 8)):=b
 unfold zn
 rw[<-a];omega
theorem tx(I:Inv s sz)(x:Bn s.mem sz){k:Nat}(hk:s.mem.has k): ∀(f:Nat) (b:Int),0<=b->(s.mem.seg k).n-b<=f->(∀a,sz a≠0->a / 64=k->a<k*64+b->a+sz a<=k*64+b)->
  (∀p∈kS s.mem k b f,∃a,sz a≠0/\p.1=zn s.mem a/\p.2=(sz a:Int))/\ ∀a,sz a≠0->a / 64=k->k*64+b<=a->zn s.mem a∈(kS s.mem k b f).map Prod.fst
 | 0,b,h0,hf,hb=>by
  refine⟨λp l=>by simp[kS]at l,λa d h o=>?_⟩
  obtain⟨G,w⟩:=I.sound.used a d
  rw[show(a / 64).toNat=k by omega]at w
  omega
 | f+1,b,h0,hf,hb=>by
  unfold kS
  rw[DM]
  by_cases r:b< (s.mem.seg k).n
  case neg=>
   rw[za r]
   refine⟨λp l=>by simp at l,λa d h o=>?_⟩
   obtain⟨G,w⟩:=I.sound.used a d
   rw[show(a / 64).toNat=k by omega]at w
   omega
  rw[qB r]
  have hn:=(I.ok.mem.seg k).n
  have D:s.mem.used ((k:Int)*64+b):=⟨by omega,by rw[show((k:Int)*64+b) / 64=k by omega];exact hk,by rw[show((k:Int)*64+b) / 64=k by omega,DM];omega⟩
  obtain⟨a,i,d,A,z⟩:=x.cover _ D
  have t:=I.sound.usedAt d A (λk=>(I.ok.mem.seg k).n.2)
  have h:a / 64=k:=by rw[<-t.2.1,<-z];omega
  have B:i=0:=by
   have:=hb a d h
   omega
  have u:(k:Int)*64+b=a:=by omega
  have v:(s.mem.seg k).kind=s.mem.kAt a:=by unfold Mem.kAt;rw[h,DM]
  obtain⟨J,K,L,M,H⟩:=qv I d
  have C:((k:Int)*64+b)*8+y8 (s.mem.seg k).kind=zn s.mem a:=by unfold zn;rw[u,v]
  rw[C,H,za (by omega)]
  obtain⟨E,F⟩:=tx I x hk f (b+sz a) (by omega) (by omega) (λc m j y=>by
   rcases DA c a with q | q
   ·have:=hb c m j (by omega);omega
   ·by_cases e:c=a
    ·subst e;omega
    ·have:=I.sound.apart a c d m (by omega);omega)
  refine⟨λp l=>?_,λc m j o=>?_⟩
  ·rcases CR.1 l with rfl | l
   ·exact⟨a,d,rfl,rfl⟩
   ·exact E p l
  ·by_cases e:c=a
   ·subst e;exact CT.2 ⟨_,Ee ..,rfl⟩
   ·have:=I.sound.apart a c d m (by omega)
    rw[List.map_cons]
    exact Dt _ (F c m j (by omega))
theorem nK(I:Inv s sz)(m:Bn s.mem sz){l:List Nat}(h:dA s.mem [] l):
  (∀p∈bF s.mem l,∃a,sz a≠0/\p.1=zn s.mem a/\p.2=(sz a:Int))/\ ∀a,sz a≠0->zn s.mem a∈(bF s.mem l).map Prod.fst:=by
 have d: ∀k∈l,_:=λk hk=>tx I m (h.has hk).1 64 0 (Dq _) (by have:=(I.ok.mem.seg k).n;omega) (λa f o q=>by omega)
 refine⟨λp b=>?_,λa f=>?_⟩
 ·unfold bF at b
  obtain⟨k,hk,b⟩:=Dv.1 b
  exact(d k hk).1 p b
 ·obtain⟨i,r⟩:=I.sound.used a f
  have c:=h.all I.ok.mem i.2.1
  have j:=i.1
  obtain⟨p,b,e⟩:=CT.1 ((d _ c).2 a f (by omega) (by omega))
  exact CT.2 ⟨p,by unfold bF;exact Dv.2 ⟨_,c,b⟩,e⟩
theorem ww(I:Inv s sz): ∀k:Nat,s.mem.has k-> ∀c:Nat,c<4->(s.mem.seg k).cards c<=s.mem.mark1 k c:=by
 intro k hk c j
 have key: ∀n,n<=s.mem.cardLen k c->(s.mem.seg k).cards c<=s.mem.markOf k c n:=by
  intro n
  induction n with
  | zero=>intro _;exact((I.ok.mem.seg k).cards c).2
  | succ n b=>
   intro hn
   have b:=b (by omega)
   rw[Ek]
   unfold Mem.younger
   rw[DM]
   split
   ·rename_i h
    obtain⟨d,e,f⟩:=h
    unfold Mem.cardLen at hn
    rw[DM]at hn
    have a:((k:Int)*64+c*16+n) / 64=k:=by omega
    have i:s.mem.used ((k:Int)*64+c*16+n):=⟨by omega,by rw[a];exact hk,by rw[a,DM];omega⟩
    have hm:=I.marked _ i (by unfold Mem.kAt;rw[a,DM];exact e) d (by unfold Mem.gAt;rw[a,DM];exact f)
    rw[a,DM,show(((k:Int)*64+c*16+n) % 64 / 16).toNat=c by omega]at hm
    exact Int.le_min.2 ⟨b,hm⟩
   ·exact b
 exact key _ (CU _)
theorem tz{f:List Int}(I:Inv s sz)(b: ∀a,sz a≠0->zn s.mem a∈f){v:Int}(k:aD v)(c:Good s.mem sz v)(i:FW v):fB f v=0:=by
 unfold fB
 rcases i with h | ⟨h,hm⟩ | h
 ·rw[za (by omega),za (by omega),qB (vN h)]
 ·rw[za (by omega),za (by omega),qB hm]
 ·have d:=c.2 h
  have j:=I.sound.lt I.ok.mem d.1
  have hm:yU v=true:=by
   unfold aZ at h
   unfold yU
   rw[za (by omega),qB (by omega),zX j.2]
  have e:=b _ d.1
  rw[<-oO c h]at e
  unfold aZ at h
  rw[za (by omega),za (λq=>q.2.2 e),qB hm]
theorem mZ(I:Inv s sz)(F:Bn s.mem sz){a:Int}(l:sz a≠0): ∀p∈bP s.mem (zn s.mem a),aD p.2/\Good s.mem sz p.2/\FW p.2:=by
 obtain⟨O,P,N,y,B⟩:=qv I l
 have L:=I.sound.lt I.ok.mem l
 have u:Aj (zn s.mem a)=a:=by
  unfold aZ at N
  unfold Aj
  rw[qB ⟨by omega,by rw[y];exact L.2⟩,y]
 have D:=(I.ok.mem.seg (a / 64).toNat).kind
 have E:0<=s.mem.kAt a/\s.mem.kAt a<=3:=D
 have b:s.mem.sizeOf (zn s.mem a)≠0:=by rw[B];omega
 have c:2<=s.mem.kAt a->s.mem.isObj (zn s.mem a)/\s.mem.typ (zn s.mem a)=hk (s.mem.get a):=λt=>by
  have w: ¬s.mem.isPair (zn s.mem a):=λf=>by
   have:=(nH b).1 f
   have e:zn s.mem a % 8=3:=by
    have:y8 (s.mem.kAt a)=3:=by unfold y8;rw[za (by omega),za (by omega)]
    unfold zn;omega
   exact this e
  have r:s.mem.isObj (zn s.mem a):=by
   unfold Mem.sizeOf at b
   rw[za w]at b
   by_cases q:s.mem.isObj (zn s.mem a)
   ·exact q
   ·rw[za q]at b;exact absurd rfl b
  exact⟨r,by unfold Mem.typ;rw[qB r,y]⟩
 intro p f
 unfold bP at f
 by_cases x:s.mem.typ (zn s.mem a)=2\/s.mem.typ (zn s.mem a)=3
 ·rw[qB x]at f;simp at f
 rw[za x]at f
 obtain⟨i,H,rfl⟩:=CT.1 f
 rw[Dc,B]at H
 show aD (s.mem.read _)/\Good s.mem sz (s.mem.read _)/\FW (s.mem.read _)
 rw[u]
 have A:eS s.mem (zn s.mem a)=0\/eS s.mem (zn s.mem a)=1:=by unfold eS;split<;>simp
 obtain⟨j,J⟩: ∃j:Nat,eS s.mem (zn s.mem a)+(i:Int)=j:=⟨(eS s.mem (zn s.mem a)+(i:Int)).toNat,by omega⟩
 rw[J]
 have m:j<sz a:=by omega
 have d:=I.sound.usedAt l m (λk=>(I.ok.mem.seg k).n.2)
 have M:s.mem.read (a+j)=s.mem.get (a+j):=by unfold Mem.read;rw[qB d.1]
 rw[M]
 have v:s.mem.kAt (a+j)=s.mem.kAt a:=by unfold Mem.kAt;rw[d.2.1]
 have z:s.mem.kAt a≠3:=λe=>by
  obtain⟨r,h⟩:=c (by omega)
  have:=(I.sound.obj a l (by omega)).2.1
  rw[e]at this
  unfold zh at this
  rw[<-h]at this
  split at this
  ·rename_i q;exact x q
  ·omega
 refine⟨(I.ok.mem.seg _).words _,I.sound.good _ d.1 (by rw[v];exact z),F.fine a j l m z (λt K=>?_)⟩
 obtain⟨r,h⟩:=c t
 have G:=(I.sound.obj a l t).1
 have o:s.mem.typ (zn s.mem a)>0:=by rw[h];have C:=G.2;unfold hk;omega
 have:eS s.mem (zn s.mem a)=1:=by unfold eS;rw[qB o]
 omega
theorem ye(I:Inv s sz)(i:Bn s.mem sz){l k:List Nat}(u:dA s.mem [] l)(j:dA s.mem [] k){m:List Int}(v: ∀w∈m,aD w/\Good s.mem sz w/\FW w):
  AZ s.mem ((bF s.mem l).map Prod.fst) (zm (bF s.mem k)) m=(0,0):=by
 obtain⟨z,n⟩:=nK I i u
 obtain⟨y,A⟩:=nK I i j
 have o:BM s.mem ((bF s.mem l).map Prod.fst) (zm (bF s.mem k))=none:=by
  unfold BM
  rw[List.find?_eq_none]
  intro p b
  obtain⟨w,c,b⟩:=Dv.1 b
  unfold zm at c
  obtain⟨q,x,rfl⟩:=CT.1 c
  obtain⟨a,t,e,_⟩:=y q (Dm.1 x).1
  rw[e]at b
  obtain⟨d,f,h⟩:=mZ I i t p b
  rw[tz I n d f h];decide
 have r:m.find? (λw=>decide (fB ((bF s.mem l).map Prod.fst) w≠0))=none:=by
  rw[List.find?_eq_none]
  intro w c
  obtain⟨d,f,h⟩:=v w c
  rw[tz I n d f h];decide
 unfold AZ
 rw[o]
 simp only[]
 rw[r]
end
end Go.Proofs.YtfhbhckhmnleoaaGreat
namespace Go.Proofs.YtfhbhckhmnleoaaGreat
open Go
open Go.ChangeShapes Go.WideShapes
variable{H k:zV}{d i A:Nat}{j:gP}{o:Hp}{r:Int->Nat}{u:List (Int×Int)}{v z:List Int}{B C D:zW}
def bulk:Nat:=1048576
theorem rz{v:lj}(h:gF.ok d H v):gF.ok maxLen H v:=⟨h.w,h.ofv⟩
theorem Bi{α:Type}{r b:Bc α}{s:Sl α}(h:SlOK d r i H s)(f:i<=maxLen)(g: ∀y,r.cells y=b.cells y)(j: ∀y,r.ok i H y->b.ok maxLen H y):SlOK d b maxLen H s:=
  ⟨h.len,Dz h.le f,h.cap,λm k=>by obtain⟨a,c,e⟩:=h.row m k;exact⟨a,c,by rw[<-g];exact e⟩,λy l=>j y (h.each y l)⟩
theorem yn(b:d<=maxLen){a:mf}(h:mo.ok d H a):mo.ok maxLen H a:=
  ⟨h.dov,h.kind,h.n,rz h.x,rz h.y,Bi h.l b (λ_=>rfl) (λ_=>rz)⟩
theorem roundUp(a:d<=maxLen)(h:lk.ok d H j):lk.ok maxLen H j:=
  ⟨Bi h.acts a (λ_=>rfl) (λ_=>yn a),Bi h.guard a (λ_=>rfl) (λ_ h=>⟨rz h.1,rz h.2⟩),Bi h.symbols a (λ_=>rfl) (λ_=>rz),h.g,h.target,h.keep⟩
theorem wx{keep i:Int}(c:0<=i):cZ.C keep i H (λv a=>(∃t:Bool,v=.bool t)/\a=H):=by
  refine HC.via λR b=>cZ.link ?_
  unfold cZ.pt
  have:=Int.tmod_nonneg 32 c
  exact⟨this,b _ _ ⟨⟨_,rfl⟩,rfl⟩⟩
def xO(rs:List gP):Prop:=rs.length<=12/\ ∀r∈rs,r.acts.n<=401/\r.symbols.n<=400/\r.guard.n<=400
theorem wy{s:Sl gP}(A:SlOK 6 lk bulk H s):dR.C s.p s.n s.c H (λv H'=> ∃t:Bool,v=.bool t/\(t=false->xO s.xs)/\H'=H):=by
  refine HC.via λR W=>dR.link ?_
  unfold dR.pt zY
  have X:=A.len
  by_cases z:(s.n:Int)>12
  · rw[qB z]
    exact W _ _ ⟨true,rfl,λh=>(by cases h),rfl⟩
  rw[za z]
  have V:bulk=1048576:=rfl
  refine⟨λy i G=>G=H/\(0<=i/\i<=s.n)/\(0<=y/\y<=i*4000000)/\(y<=400-> ∀r∈s.xs.take i.toNat,r.acts.n<=401/\r.symbols.n<=400/\r.guard.n<=400),λ_ i _=>(s.n-i).toNat,⟨rfl,⟨by omega,by omega⟩,⟨by omega,by omega⟩,λ_ r h=>by simp at h⟩,?_⟩
  rintro y i A1 ⟨I,F,a3,f⟩
  obtain rfl:H=A1:=I.symm
  by_cases d:i< (s.n:Int)
  case neg=>
    rw[za d]
    rw[De (by omega)]at f
    exact W _ _ ⟨_,rfl,λh=>⟨by omega,f (by simpa using h)⟩,rfl⟩
  rw[qB d]
  have w:i.toNat<s.xs.length:=by omega
  obtain⟨la,P,g⟩:=A.row i.toNat w
  have x:gP.OK bulk _ s.xs[i.toNat]:=A.each _ (CS w)
  have U:s.xs.take (i+1).toNat=s.xs.take i.toNat++[s.xs[i.toNat]]:=by rw[show(i+1).toNat=i.toNat+1 by omega,Db w]
  generalize s.xs[i.toNat]=r at*
  have e:=gE g 0 (vs r.acts.p r.acts.n r.acts.c) rfl
  have m:=gE g 1 (vs r.guard.p r.guard.n r.guard.c) rfl
  have o:=gE g 2 (vs r.symbols.p r.symbols.n r.symbols.c) rfl
  rw[CQ,iW,Nat.add_zero]at e
  rw[CQ]at m o
  have b:SlOK 8 mo bulk _ r.acts:=x.acts
  have K:=b.len
  have B:=b.le
  have N:=(show SlOK 4 pJ bulk _ r.guard from x.guard).le
  have T:=(show SlOK 2 gF bulk _ r.symbols from x.symbols).le
  rw[V]at B N T
  refine⟨la,P,⟨F.1,d⟩,_,_,_,m,⟨F.1,d⟩,_,_,_,o,?_⟩
  rw[xT (n:=(r.guard.n:Int)+r.symbols.n) (by omega),xT (n:=y+((r.guard.n:Int)+r.symbols.n)) (by omega)]
  refine⟨λj k G=>G=H/\(0<=k/\k<=r.acts.n)/\(y+(r.guard.n+r.symbols.n)+k<=j/\j<=y+3000000),λ_ k _=>(r.acts.n-k).toNat,⟨rfl,⟨by omega,by omega⟩,⟨by omega,by omega⟩⟩,?_⟩
  rintro j k A2 ⟨J,hk,Y⟩
  obtain rfl:H=A2:=J.symm
  refine⟨⟨F.1,d⟩,_,_,_,e,?_⟩
  by_cases L:k< (r.acts.n:Int)/\j<=400
  · rw[qB (by simpa using L)]
    have D:k.toNat<r.acts.xs.length:=by omega
    obtain⟨ka,O,S⟩:=b.row k.toNat D
    have E:mf.OK bulk _ r.acts.xs[k.toNat]:=b.each _ (CS D)
    generalize r.acts.xs[k.toNat]=a at*
    have u:=gE S 7 (vs a.l.p a.l.n a.l.c) rfl
    rw[CQ]at u
    have Q:=(show SlOK 2 gF bulk _ a.l from E.l).le
    rw[V]at Q
    have M:((r.acts.n:Int)-(k+1)).toNat< ((r.acts.n:Int)-k).toNat:=by omega
    refine⟨⟨F.1,d⟩,_,_,_,e,ka,O,⟨hk.1,L.1⟩,_,_,_,u,?_⟩
    rw[jw (by omega),xT (n:=(a.l.n:Int) / 8) (by omega),xT (n:=1+(a.l.n:Int) / 8) (by omega),xT (n:=j+(1+(a.l.n:Int) / 8)) (by omega),xT (n:=k+1) (by omega)]
    exact⟨⟨rfl,⟨by omega,by omega⟩,⟨by omega,by omega⟩⟩,M⟩
  · rw[za (by simpa using L)]
    have M:((s.n:Int)-(i+1)).toNat< ((s.n:Int)-i).toNat:=by omega
    rw[xT (n:=i+1) (by omega)]
    refine⟨⟨rfl,⟨by omega,by omega⟩,⟨by omega,by omega⟩,λh4 q Z=>?_⟩,M⟩
    rw[U]at Z
    rcases CM.1 Z with t | t
    · exact f (by omega) q t
    · simp at t;subst t;exact⟨by omega,by omega,by omega⟩
structure Gs (H0 H:zV) (b:Blk) (x:Hp) (sz:Int->Nat) (mB:zW) (mC:Nat) (made:List Int) (sB:zW) (sC:Nat) (syl:List Int) (eB:zW) (eC:Nat) (el:List (Int×Int)):Prop where
  e:Ext H0 H
  hp:HpAt H b x
  inv:Inv x.sp sz
  snd:Bn x.sp.mem sz
  own:Own H 28 1 mB made.length mC (yE made)
  good: ∀w∈made,aD w/\Good x.sp.mem sz w/\FW w
  sy:x.sy=vs sB syl.length sC
  so:Own H 28 1 sB syl.length sC (yE syl)
  sgood: ∀w∈syl,aD w/\Good x.sp.mem sz w/\FW w
  en:x.en=vs eB el.length eC
  eo:Own H 36 2 eB el.length eC (AK el)
  egood: ∀e∈el,oZ x.sp.mem sz e/\FW e.1/\FW e.2
  hb: ∀j∈b.all,H0.size<=j
  hm: ∀j∈kd mB,H0.size<=j/\j ∉ b.all
  hs: ∀j∈kd sB,H0.size<=j/\j ∉ b.all/\j ∉ kd mB
  he: ∀j∈kd eB,H0.size<=j/\j ∉ b.all/\j ∉ kd mB/\j ∉ kd sB
theorem Gs.ext{H0 H a:zV}{b:Blk}(h:Gs H0 H b o r B d v C i z D A u)(e:Ext H a):Gs H0 a b o r B d v C i z D A u:=
  ⟨h.e.trans e,h.hp.ext e,h.inv,h.snd,h.own.ext e,h.good,h.sy,h.so.ext e,h.sgood,h.en,h.eo.ext e,h.egood,h.hb,h.hm,h.hs,h.he⟩
theorem Gs.view{b:Blk}(h:Gs H k b o r B d v C i z D A u):View k (some ⟨b.h,0,none⟩) (some (b,o)):=.real h.hp h.inv.ok
structure j3 (H:zV) (c:Nat) (r:gP):Prop where
  at':H[c]?=some (.cells #[vs r.acts.p r.acts.n r.acts.c,vs r.guard.p r.guard.n r.guard.c,vs r.symbols.p r.symbols.n r.symbols.c,vi r.g,vi r.target,.int .u32 r.keep] 141 (0,0))
theorem j3.ext{c:Nat}(h:j3 H c j)(e:Ext H k):j3 k c j:=⟨e.get h.at'⟩
theorem j3.keep{S:List Nat}(h:j3 H d j)(f:Fr S H k)(a:d ∉ S):j3 k d j:=⟨f.get a h.at'⟩
theorem tA{Q:zW->Nat->Nat->zV->Prop}{b:Blk}{c:Nat}{eC:Nat}(h:Gs H k b o r B d v C A z D eC u)(be:o.sp.cf<=100000)(hn:i=v.length)(bg:v.length<=10000)
    (hs:j3 k c j) (hc:c ∉ b.all/\c ∉ kd B/\c ∉ kd C) (hA:SlOK 8 mo maxLen H j.acts) (b7:j.acts.n<=401)
    (hQ: ∀(bn:zV) (E:zW) (L:Nat) (f:List Int) (V:Hp) (M:Int->Nat),Gs H bn b V M E L f C A z D eC u->V.sp.cf=o.sp.cf->f.length<=v.length+401->j3 bn c j->c ∉ kd E->k.size<=bn.size->Q E f.length L bn):
    ∃(a5:zW->Nat->Nat->zw) (ak:zW->Nat->Nat->Int->zV->Nat),a5 B i d 0 k/\ ∀(g:zW) (x:Nat) (l:Nat) (bp:Int) (F:zV),a5 g x l bp F->
    ∃xB:zW,∃xN:Nat,∃xC:Nat,hat F (Addr.mk c 0 none)=some (vs xB xN xC)/\
    if bp< (xN:Int)then(
     ∃a0:zW,∃a1:Nat,∃an:Nat,hat F (Addr.mk c 0 none)=some (vs a0 a1 an)/\
     ∃Z:Addr,a0=some Z/\
     ((0:Int)<=bp/\bp< (a1:Int))/\
     ∃ao:Int,∃R:Int,∃a2:Int,∃aw:Int,∃a3:Int,∃ax:Int,∃a4:Int,∃ap:zW,∃av:Nat,∃au:Nat,aL F (Z.add (Int.toNat bp*8)) 0 [vi ao,vi R,vi a2,vu aw,vi a3,vu ax,vi a4,vs ap av au]/\
     cX.C (some ⟨b.h,0,none⟩) ao R a2 aw a3 ax a4 ap av au g x l F (λb5 ae=> ∃O:zW,∃U:Nat,∃P:Nat,b5=vs O U P/\
      (a5 O U P (IntKind.wrap .i64 (bp+1)) ae/\ak O U P (IntKind.wrap .i64 (bp+1)) ae<ak g x l bp F)))
    else
    Q g x l F:=by
  have b1:=hA.len
  refine⟨λE al L bp bn=>(0<=bp/\bp<=j.acts.n)/\ ∃(f:List Int) (V:Hp) (M:Int->Nat),al=f.length/\Gs H bn b V M E L f C A z D eC u/\V.sp.cf=o.sp.cf/\(f.length:Int)<=v.length+bp/\j3 bn c j/\c ∉ kd E/\k.size<=bn.size,λ_ _ _ bp _=>(j.acts.n-bp).toNat,
    ⟨⟨by omega,by omega⟩,v,o,r,hn,h,rfl,by omega,hs,hc.2.1,CU _⟩,?_⟩
  rintro E al L bp bn ⟨hk,f,V,M,rfl,S,af,b8,W,a7,b0⟩
  have Y:hat bn (Addr.mk c 0 none)=some (vs j.acts.p j.acts.n j.acts.c):=by rw[aI W.at'];rfl
  refine⟨_,_,_,Y,?_⟩
  by_cases a9:bp< (j.acts.n:Int)
  case neg=>
    rw[za a9]
    exact hQ bn E L f V M S af (by omega) W a7 b0
  rw[qB a9]
  have ai:bp.toNat<j.acts.xs.length:=by omega
  obtain⟨ka,b2,b4⟩:=hA.row bp.toNat ai
  have b3:mf.OK maxLen H j.acts.xs[bp.toNat]:=hA.each _ (CS ai)
  generalize j.acts.xs[bp.toNat]=a at*
  refine⟨_,_,_,Y,ka,b2,⟨hk.1,a9⟩,_,_,_,_,_,_,_,_,_,_,S.e.rowAt b4,?_⟩
  have hd:((j.acts.n:Int)-(bp+1)).toNat< ((j.acts.n:Int)-bp).toNat:=by omega
  rw[xT (n:=bp+1) (by omega)]
  refine HC.mono (uX S.view S.inv (by omega) S.own (λbo y=>(S.hm bo y).2) (λw J=>⟨(S.good w J).1,(S.good w J).2.1⟩) (by omega) (mo.mono S.e b3)) ?_
  rintro _ A2 ⟨B',c',aa,x2,am,rfl,T,K,hF,hL⟩
  have ag: ∀bo∈b.all,bo<bn.size:=λbo y=>S.hp.lt bo y
  have I: ∀bo,bo∈[b.sp,b.m,b.s]->bo∈b.all:=λbo q=>by simp at q;simp[Blk.all];omega
  obtain⟨-,aj,-⟩:=T.view.inv
  have a6:A2[b.h]?=bn[b.h]?:=by
    rw[S.hp.h]
    refine T.fr.get (λq=>?_) S.hp.h
    rcases CM.1 q with q | q
    · have:=S.hp.ne
      have:=S.hp.cd.sp.ne
      simp at q;omega
    · exact(S.hm _ q).2 (by simp[Blk.all])
  have N:x2.sy=V.sy/\x2.en=V.en:=by
    have h1:=aj.h
    rw[a6,S.hp.h]at h1
    simp only[Dp,Obj.cells.injEq,Array.mk.injEq,D8]at h1
    exact⟨h1.1.2.1.symm,h1.1.2.2.1.symm⟩
  have ab: ∀w∈f,FW w:=λw J=>(S.good w J).2.2
  have ac:=hF ab
  have G: ∀w,Good V.sp.mem M w->Good x2.sp.mem am w:=λw J=>hL w J
  have X:Own A2 28 1 C z.length A (yE z):=S.so.keep T.fr (λbo y q=>by
    rcases CM.1 q with q | q
    · exact(S.hs bo y).2.1 (I bo q)
    · exact(S.hs bo y).2.2 q)
  have a8:Own A2 36 2 D u.length eC (AK u):=S.eo.keep T.fr (λbo y q=>by
    rcases CM.1 q with q | q
    · exact(S.he bo y).2.1 (I bo q)
    · exact(S.he bo y).2.2.1 q)
  refine⟨_,_,_,rfl,⟨⟨by omega,by omega⟩,aa,x2,am,rfl,⟨?_,aj,T.inv,K.snd ab S.snd,T.own,λw J=>⟨(T.good w J).1,(T.good w J).2,ac w J⟩,N.1.trans S.sy,X,λw J=>⟨(S.sgood w J).1,G w (S.sgood w J).2.1,(S.sgood w J).2.2⟩,N.2.trans S.en,a8,λe he=>⟨⟨⟨(S.egood e he).1.1.1,G _ (S.egood e he).1.1.2⟩,(S.egood e he).1.2.1,G _ (S.egood e he).1.2.2⟩,(S.egood e he).2⟩,S.hb,λbo y=>?_,λbo y=>⟨(S.hs bo y).1,(S.hs bo y).2.1,λq=>?_⟩,λbo y=>⟨(S.he bo y).1,(S.he bo y).2.1,λq=>?_,(S.he bo y).2.2.2⟩⟩,T.cf.trans af,?_,W.keep T.fr (λq=>?_),λq=>?_,by have:=T.fr.size;omega⟩,hd⟩
  · refine S.e.fr_trans T.fr (λbo y=>?_)
    rcases CM.1 y with q | q
    · exact S.hb bo (I bo q)
    · exact(S.hm bo q).1
  · rcases T.blk bo y with q | q
    · exact S.hm bo q
    · have:=S.e.size
      exact⟨by omega,λhb=>by have:=ag bo hb;omega⟩
  · rcases T.blk bo q with t | t
    · exact(S.hs bo y).2.2 t
    · have:=S.so.lt bo y;omega
  · rcases T.blk bo q with t | t
    · exact(S.he bo y).2.2.1 t
    · have:=S.eo.lt bo y;omega
  · have:=T.len;omega
  · rcases CM.1 q with q | q
    · exact hc.1 (I c q)
    · exact a7 q
  · rcases T.blk c q with t | t
    · exact a7 t
    · have:=aS W.at';omega
end Go.Proofs.YtfhbhckhmnleoaaGreat
namespace Go.Proofs.YtfhbhckhmnleoaaGreat
open Go
variable{d j:List Int}{i z:Nat}{H A:zV}{k o r D E:Int}{u:List Nat}{v:zW}{B:Blk}{C:Hp}{F:Mem}
theorem wz(m:Mem)(L:List Int)(w:Int):L.length<=(zl m L w).length:=by
 unfold zl
 split
 ·simp
 ·exact CU _
theorem rD(m:Mem): ∀(vs L:List Int),L.length<=(vs.foldl (zl m) L).length
 | [],_=>CU _
 | w::vs,L=>Dz (wz m L w) (rD m vs _)
theorem sj(m:Mem)(h:d.length<=i):jC m d i=d:=by
 unfold jC;rw[List.getElem?_eq_none h]
theorem mG(m:Mem)(a:List Int){k:Nat}(h:(bZ m a k).length<=k): ∀d,bZ m a (k+d)=bZ m a k
 | 0=>rfl
 | d+1=>by
  have b:=mG m a h d
  show jC m (bZ m a (k+d)) (k+d)=_
  rw[b,sj _ (by omega)]
theorem qw(m:Mem)(a:List Int){j k:Nat}(b:(bZ m a j).length<=j)(hk:(bZ m a k).length<=k):bZ m a j=bZ m a k:=by
 rcases Nat.le_total j k with h | h
 ·have:=mG m a b (k-j)
  rw[show j+(k-j)=k by omega]at this
  exact this.symm
 ·have:=mG m a hk (j-k)
  rw[show k+(j-k)=j by omega]at this
  exact this
structure Came (m:Mem) (roots:List Int) (A:zV) (B:zW) (c mr:Nat) (L:List Int):Prop where
 all: ∃k,L=bZ m roots k/\L.length=k
 own:Own A 28 1 B L.length c (yE L)
 map: ∃(es:Array MapEntry) (cl:Nat) (ks:List (Int×Value)),A[mr]?=some (.map es cl)/\vb (aY .u64) es.toList ks/\ ∀w,yG ks w=if w∈L then some (vi (L.idxOf w+1:Nat))else none
 nod:L.Nodup
 pos: ∀w∈L,m.sizeOf w>0/\aD w
 len:L.length<=524288
theorem Came.keep{L:List Int}{S:List Nat}(h:Came F d H v i z L)(f:Fr S H A)(k: ∀j∈kd v,j ∉ S)(hm:z ∉ S):Came F d A v i z L:=by
 obtain⟨b,a,l,c,e,g⟩:=h.map
 exact⟨h.all,h.own.keep f k,⟨b,a,l,f.get hm c,e,g⟩,h.nod,h.pos,h.len⟩
theorem Came.ext{roots:List Int}{c a:Nat}(h:Came F roots H v c a d)(e:Ext H A):Came F roots A v c a d:=h.keep (S:=[]) e.fr (by simp) (by simp)
set_option maxHeartbeats 2000000 in
theorem wA(hp:HpAt H B C)(ok:SpOK C.sp)(hr:Nums H .u64 v i d)(bs:i<=1000000)(bu: ∀w∈d,aD w)(br: ∀j∈kd v,j<H.size):
  jt.C (some ⟨B.h,0,none⟩) v i z H (λdl f=> ∃(di:zW) (c a:Nat) (L:List Int),dl=.tuple #[vs di L.length c,.map (some a)]/\Came C.sp.mem d f di c a L/\(∀j∈kd di,H.size<=j)/\H.size<=a/\Ext H f):=by
 refine HC.via λR hR=>jt.link ?_
 unfold jt.pt zY
 intro m H1 bj U a H2 bn V S H3 ak W
 have hb:=hp.lt
 have e1:Ext H H1:=CI U
 have e2:Ext H1 H2:=CI V
 have z1:H1.size=H.size+1:=by rw[U];simp
 have z2:H2.size=H1.size+1:=by rw[V];simp
 have z3:H3.size=H2.size+1:=by rw[W];simp
 have g0:=aF bj U
 have gm:=aF bn V
 obtain⟨c3,s3⟩:=jP (A3:=aP H3 (Addr.mk S 0 none) [.map (some a)] 0) ak W [.map (some a)] rfl
 refine⟨c3,λH4 af e H5 bk X A H6 al Y=>?_⟩
 obtain⟨g3,e4⟩:=s3 rfl
 rw[<-af]at g3 e4
 have z4:H4.size=H3.size:=by rw[af,bY _ _ _ _ _ (aF ak W)];simp
 have e5:Ext H4 H5:=CI X
 have z5:H5.size=H4.size+1:=by rw[X];simp
 have z6:H6.size=H5.size+1:=by rw[Y];simp
 have g4:=aF bk X
 obtain⟨c6,s6⟩:=jP (A3:=aP H6 (Addr.mk A 0 none) [.func (.func 123) #[] #[Vq (Addr.mk m 0 none),Vq (Addr.mk S 0 none),Vq (Addr.mk e 0 none)]] 0) al Y [.func (.func 123) #[] #[Vq (Addr.mk m 0 none),Vq (Addr.mk S 0 none),Vq (Addr.mk e 0 none)]] rfl
 refine⟨c6,λb ag=>?_⟩
 obtain⟨g5,e7⟩:=s6 rfl
 rw[<-ag]at g5 e7
 have z7:b.size=H6.size:=by rw[ag,bY _ _ _ _ _ (aF al Y)];simp
 have a4:=e4.trans (e5.trans e7)
 have a3:=e2.trans a4
 have E7:=e1.trans a3
 have k0:=a3.get g0
 have k3:=(e5.trans e7).get g3
 have k4:=e7.get g4
 have km:=a4.get gm
 have C0:CmAt C.sp.mem b S e a b.size [] []:=⟨k3,⟨#[],0,[],km,rfl,λw=>by rw[za (by simp)];rfl⟩,⟨none,0,k4,gI,rfl,by simp⟩,⟨⟨by omega,by omega,by omega⟩,by omega,by omega,by omega⟩,Ew,by simp⟩
 have l:m<b.size/\A<b.size/\b.size<=b.size/\e ∉ B.all/\a ∉ B.all/\e≠m/\e≠A/\a≠m/\a≠A:=
  ⟨by omega,by omega,CU _,λh=>by have:=hb _ h;omega,λh=>by have:=hb _ h;omega,by omega,by omega,by omega,by omega⟩
 refine vc (hp.ext E7) ok (λj g=>by have:=hb j g;omega) k0 g5 l C0 (hr.ext E7) bs (λj g=>by have:=br j g;omega) bu ?_
 intro H8 T8 C8 cC f8 bS P am t
 have z8:=f8.size
 have cZ:P.size=H8.size+1:=by rw[t];simp
 obtain⟨bb,bC⟩:=jP (A3:=aP P (Addr.mk bS 0 none) [vi 0] 0) am t [vi 0] rfl
 refine⟨bb,λb3 J=>?_⟩
 obtain⟨g6,p⟩:=bC rfl
 rw[<-J]at g6 p
 have d0:b3.size=P.size:=by rw[J,bY _ _ _ _ _ (aF am t)];simp
 have E8:Ext H H8:=E7.fr_trans f8 (λdk F=>by simp at F;omega)
 have n0:m ∉ [e,a]:=by simp;omega
 have n5:A ∉ [e,a]:=by simp;omega
 refine⟨λdk x f=> ∃(k iA:Nat) (L:List Int) (T:List Nat),dk=some ⟨iA,0,none⟩/\x.length=k/\f[iA]?=some (.cells #[vi (k:Int)] 3 (0,0))/\b.size<=iA/\L=bZ C.sp.mem d k/\CmAt C.sp.mem f S e a b.size L T/\iA ∉ T/\k<=L.length/\x.Nodup/\
   (∀D∈x,f[D]?=some (.deferred (some []))/\D ∉ T/\b.size<=D/\D≠iA)/\Ext H f/\b.size<=f.size/\f[m]?=some (.cells #[vp (some ⟨B.h,0,none⟩)] 23 (0,0))/\
   f[A]?=some (.cells #[.func (.func 123) #[] #[Vq (Addr.mk m 0 none),Vq (Addr.mk S 0 none),Vq (Addr.mk e 0 none)]] 198 (0,0)),
  λ_ x _=>600000-x.length,
  ⟨0,bS,_,T8,rfl,rfl,g6,by omega,rfl,C8.ext p,λh=>by have:=(C8.at _ _ h).2;omega,by omega,Ew,by simp,E8.trans p,by omega,p.get (f8.get n0 k0),p.get (f8.get n5 g5)⟩,?_⟩
 rintro _ x f ⟨k,iA,L,T,rfl,bo,s,an,hL,dj,ao,cE,av,hD,eA,zA,q0,q5⟩
 refine⟨_,rfl,(k:Int),by rw[aI s];rfl,?_⟩
 have bf:=dj.len
 obtain⟨di,c,l1,l2,l3,l4⟩:=dj.lst
 refine⟨di,_,c,by rw[aI l1];rfl,?_⟩
 by_cases N:(k:Int)< (L.length:Int)
 case neg=>
  rw[za N]
  refine⟨di,_,c,by rw[aI l1];rfl,some a,by rw[aI dj.num];rfl,?_⟩
  have u: ∀D∈x,b.size<=D/\D ∉ T:=λD h=>⟨(hD D h).2.2.1,(hD D h).2.1⟩
  refine oe x f av (λD h=>(hD D h).1) (λO y=>hR _ _ ⟨di,c,a,L,rfl,⟨⟨k,hL,by omega⟩,l2.keep y (λj g h=>(u j h).2 (l3▸g)),?_,dj.nod,dj.pos,bf⟩,λj g=>by have:=(l4 j g).1;omega,by omega,eA.fr_trans y (λdk F=>by have:=(u dk F).1;omega)⟩)
  obtain⟨es,cl,ks,m1,m2,m3⟩:=dj.map
  exact⟨es,cl,ks,y.get (λh=>by have:=(u _ h).1;omega) m1,m2,m3⟩
 rw[qB N]
 have G:k<L.length:=by omega
 obtain⟨pa,p1,p2⟩:=mb l2.src G
 refine⟨_,by rw[aI q0];rfl,di,_,c,by rw[aI l1];rfl,(k:Int),by rw[aI s];rfl,pa,p1,⟨by omega,by omega⟩,L[k],by rw[show Int.toNat (k:Int)=k by omega];exact p2,?_⟩
 have bq:=hp.ext eA
 have au:m<b.size/\A<b.size/\b.size<=f.size/\e ∉ B.all/\a ∉ B.all/\e≠m/\e≠A/\a≠m/\a≠A:=⟨l.1,l.2.1,zA,l.2.2.2⟩
 have aj:=dj.at
 refine um bq ok (λj g=>by have:=hb j g;omega) q0 q5 au dj (List.getElem?_eq_getElem G) (dj.pos _ (CS G)).2 s ⟨ao,an⟩ ?_
 intro rc lp cp O T2 C2 cm cG gD a8 bg ap y bi
 refine⟨a8,λa1 K=>?_⟩
 have f3:Fr [lp] O a1:=by rw[K];exact Fr.set
 have d1:=y.size
 have d4:a1.size=O.size:=by rw[K];simp
 have ah: ∀j,j ∉ T->b.size<=j->j ∉ [e,a]++T:=λj h1 Z h=>by
  rcases CM.1 h with h | h
  ·simp at h;omega
  ·exact h1 h
 have ai: ∀j,j<b.size->j ∉ T:=λj h Z=>by have:=(aj j Z).1;omega
 have bA:f.size<=lp:=by omega
 have a7:=f3.get (by simp;have:=aS s;omega) (y.get (ah _ ao an) s)
 refine⟨_,by rw[aI a7];rfl,λb7 b5 bl ab=>?_⟩
 obtain⟨bc,bI⟩:=jP (A3:=aP b5 (Addr.mk b7 0 none) [vi (k:Int)] 0) bl ab [vi (k:Int)] rfl
 refine⟨bc,λb6 ac=>?_⟩
 obtain⟨a5,r⟩:=bI rfl
 rw[<-ac]at a5 r
 have I:b6[b7]?=some (.cells #[vi (k:Int)] 3 (0,0)):=a5
 obtain⟨a2,aw⟩:=mx I 0 (vi (IntKind.wrap .i64 ((k:Int)+1))) (by simp)
 rw[nE]at a2 aw
 refine⟨_,by rw[aI I];rfl,a2,λQ ae=>?_⟩
 obtain⟨a6,E⟩:=aw Q ae
 have d2:=r.size
 have d3:=E.size
 have hw:IntKind.wrap .i64 ((k:Int)+1)=((k+1:Nat):Int):=by rw[xT (n:=(k:Int)+1) (by omega)];omega
 rw[hw]at a6
 have bm:=aS a8
 have aa:=aS gD
 have M:=C2.at
 have n7: ∀j,j<O.size->j ∉ [b7]:=λj h=>by simp;omega
 have keep: ∀{j:Nat} {o:Obj},j<O.size->j≠lp->O[j]?=some o->Q[j]?=some o:=λh1 Z h3=>E.get (n7 _ h1) (r.get (f3.get (by simp;exact Z) h3))
 have b1:CmAt C.sp.mem Q S e a b.size _ T2:=((C2.keep f3 ⟨by simp;omega,by simp;omega,by simp;omega⟩ (λj g=>by simp;exact λq=>ap (q▸g))).ext r).keep E ⟨by simp;omega,by simp;omega,by simp;omega⟩ (λj g=>n7 j (M j g).2)
 have cd:x.length<600000:=by omega
 refine⟨⟨k+1,b7,_,T2,rfl,by simp[bo],a6,by omega,?_,b1,λh=>by have:=(M _ h).2;omega,?_,?_,?_,?_,by omega,?_,?_⟩,by show 600000-(x.length+1)<600000-x.length;omega⟩
 ·show _=jC C.sp.mem (bZ C.sp.mem d k) k
  rw[<-hL];unfold jC;rw[List.getElem?_eq_getElem G]
 ·have:=rD C.sp.mem (visL L[k] (bP C.sp.mem L[k])) L;omega
 ·rw[D2]
  exact⟨λh=>by have:=aS (hD _ h).1;omega,av⟩
 ·intro D bh
  rcases CR.1 bh with h | h
  ·subst h
   exact⟨keep aa (by omega) gD,bg,by omega,by omega⟩
  ·obtain⟨dm,dn,dp,d6⟩:=hD D h
   have dq:=aS dm
   refine⟨keep (by omega) (by omega) (y.get (ah _ dn dp) dm),λZ=>?_,dp,by omega⟩
   rcases bi D Z with q | q
   ·exact dn q
   ·omega
 ·have bR:Ext H O:=eA.fr_trans y (λdk F=>by
   rcases CM.1 F with h | h
   ·simp at h;omega
   ·have:=(aj dk h).1;omega)
  exact((bR.fr_trans f3 (λdk F=>by simp at F;have:=eA.size;omega)).trans r).fr_trans E (λdk F=>by simp at F;have:=bR.size;omega)
 ·exact keep (by omega) (by omega) (y.get (λh=>by
   rcases CM.1 h with h | h
   ·exact n0 h
   ·exact ai _ l.1 h) q0)
 ·exact keep (by omega) (by omega) (y.get (λh=>by
   rcases CM.1 h with h | h
   ·exact n5 h
   ·exact ai _ l.2.1 h) q5)
def kH(m:Mem)(L:List Int):Int:=(L.map m.sizeOf).sum
theorem rE(m:Mem): ∀L:List Int,0<=kH m L/\kH m L<=63*L.length
  | []=>by unfold kH;simp
  | w::L=>by
    have a:=lc m w
    have b:=rE m L
    unfold kH at*
    simp only[List.map_cons,List.sum_cons,List.length_cons]
    omega
theorem up(m:Mem)(h:i<d.length):kH m (d.take (i+1))=kH m (d.take i)+m.sizeOf d[i]:=by
  unfold kH
  rw[Db h,C7,List.sum_append];simp
theorem wD{roots:List Int}(q:HpAt H B C)(r:SpOK C.sp)(A:Nums H .u64 v i roots)(g:i<=1000000)(l: ∀w∈roots,aD w)(f: ∀j∈kd v,j<H.size):
    iE.C (some ⟨B.h,0,none⟩) v i z H (λT s=> ∃L:List Int,(∃k,L=bZ C.sp.mem roots k/\L.length=k)/\T=vi (kH C.sp.mem L)/\Ext H s):=by
  refine HC.via λR x=>iE.link ?_
  unfold iE.pt zY
  refine HC.mono (wA q r A g l f) ?_
  rintro _ t ⟨O,c,E,L,rfl,P,M,y,o⟩
  have N:=P.len
  refine⟨O,_,c,some E,rfl,λm S Q=> ∃k:Nat,S=k/\k<=L.length/\m=kH C.sp.mem (L.take k)/\Ext t Q,λ_ S _=>((L.length:Int)-S).toNat,⟨0,rfl,by omega,rfl,CW _⟩,?_⟩
  rintro _ _ I ⟨k,rfl,hk,rfl,e⟩
  by_cases b:(k:Int)< (L.length:Int)
  case neg=>
    rw[za b,De (by omega)]
    exact x _ _ ⟨L,P.all,rfl,o.trans e⟩
  rw[qB b]
  have a:k<L.length:=by omega
  obtain⟨pa,F,G⟩:=mb (P.own.ext e).src a
  refine⟨pa,F,⟨by omega,b⟩,L[k],by rw[show Int.toNat (k:Int)=k by omega];exact G,?_⟩
  refine HC.mono (kZ (.real (q.ext (o.trans e)) r) (P.pos _ (CS a)).2) ?_
  rintro _ J ⟨rfl,u⟩
  have hm:yP (some (B,C))=C.sp.mem:=rfl
  rw[hm]
  have K:=lc C.sp.mem L[k]
  have p:=rE C.sp.mem (L.take k)
  rw[Di]at p
  have d:min k L.length=k:=by omega
  rw[d]at p
  have D:IntKind.wrap .i64 ((k:Int)+1)=((k+1:Nat):Int):=by rw[xT (n:=(k:Int)+1) (by omega)];omega
  refine⟨_,rfl,?_⟩
  rw[D,xT (n:=kH C.sp.mem (L.take k)+C.sp.mem.sizeOf L[k]) (by omega)]
  exact⟨⟨k+1,rfl,by omega,(up _ a).symm,e.trans u⟩,by show((L.length:Int)-((k+1:Nat):Int)).toNat< ((L.length:Int)-(k:Int)).toNat;omega⟩
def KnAt(A:zV)(nb:Nat)(tag typ more:Int)(ws is:List Int)(T:List Nat):Prop:=
  ∃(B1:zW) (c1:Nat) (B2:zW) (c2:Nat),A[nb]?=some (.cells #[vi tag,vi typ,vu more,vs B1 ws.length c1,vs B2 is.length c2] 147 (0,0))/\
    Own A 28 1 B1 ws.length c1 (yE ws)/\Own A 3 1 B2 is.length c2 (zf is)/\(∀j∈kd B1,j ∉ kd B2)/\T=kd B1++kd B2/\nb ∉ T
theorem KnAt.keep{S:List Nat}{is:List Int}(h:KnAt H i k o r d is u)(f:Fr S H A)(m:i ∉ S)(b: ∀j∈u,j ∉ S):KnAt A i k o r d is u:=by
  obtain⟨c,g,e,l,n,p,q,s,rfl,t⟩:=h
  exact⟨c,g,e,l,f.get m n,p.keep f (λj a=>b j (Dg _ a)),q.keep f (λj a=>b j (Du _ a)),s,rfl,t⟩
theorem KnAt.ext{ws is:List Int}(h:KnAt H i k o r ws is u)(e:Ext H A):KnAt A i k o r ws is u:=h.keep (S:=[]) e.fr (by simp) (by simp)
theorem KnAt.lt{is:List Int}(h:KnAt H i k o r d is u): ∀j∈i::u,j<H.size:=by
  obtain⟨f,l,g,m,b,c,e,n,rfl,p⟩:=h
  intro j a
  rcases CR.1 a with h | h
  · rw[h];exact aS b
  · rcases CM.1 h with h | h
    · exact c.lt j h
    · exact e.lt j h
theorem pb: ∀l:List Int,kz (zf l)=true
  | []=>rfl
  | w::l=>by show(true && kz (zf l))=true;rw[pb l];rfl
theorem tB{R:zv}(K:KnAt H i k o r d j u)(hl:d.length<=100000000/\j.length<=100000000)
    (hR: ∀U T',KnAt U i k o r (d++[D]) (j++[E]) T'->Fr (i::u) H U->(∀be∈T',be∈u\/H.size<=be)->R (.tuple #[]) U):
    ∃c:Addr,some (Addr.mk i 0 none)=some c/\
    ∃xB:zW,∃xN:Nat,∃xC:Nat,hat H (c.add 3)=some (vs xB xN xC)/\
    ∀(b:Nat) (G:zV),b=H.size->G=H.push (.cells #[vu D] 28)->
    bH 1 28 8 [vu 0] xB xN xC (some (Addr.mk b 0 none)) 1 G (λap W I=>
     (aH I (c.add 3) 0 1)/\ ∀l:zV,l=aP I (c.add 3) [vs ap (xN+1) W] 0->
     ∃n:zW,∃f:Nat,∃p:Nat,hat l (c.add 4)=some (vs n f p)/\
     ∀(L:Nat) (m:zV),L=l.size->m=l.push (.cells #[vi E] 3)->
     bH 1 3 8 [vi 0] n f p (some (Addr.mk L 0 none)) 1 m (λJ s V=>
      (aH V (c.add 4) 0 1)/\ ∀B:zV,B=aP V (c.add 4) [vs J (f+1) s] 0->
      R (.tuple #[]) B)):=by
  obtain⟨z,c1,A,c2,k1,k2,k3,k4,rfl,k6⟩:=K
  have M:i ∉ kd z:=λh=>k6 (Dg _ h)
  have x:i ∉ kd A:=λh=>k6 (Du _ h)
  have l1:=k2.lt
  have l2:=k3.lt
  have ay:=aS k1
  refine⟨_,rfl,z,_,c1,fG k1 3,λb G hb t=>?_⟩
  have O:Ext H G:=CI t
  have z1:G.size=H.size+1:=by rw[t];simp
  refine cI (ys:=yE [D]) (k2.ext O) (eJ (aF hb t) _ 0 0 (λbe a=>by simp at a;subst a;rfl)) rfl (gO _) rfl (by omega) ?_
  intro C d1 I o2 Q n2
  have z2:=Q.size
  obtain⟨q3,s3⟩:=mx (Q.get M (O.get k1)) 3 (vs C (d.length+1) d1) (by simp)
  refine⟨q3,λl Z=>?_⟩
  obtain⟨g3,S⟩:=s3 l Z
  have z3:=S.size
  have g: ∀be∈kd C,be∈kd z\/H.size<be:=λbe a=>by
    rcases n2 be a with h | h
    · exact .inl h
    · right;omega
  have y:i ∉ kd C:=λh=>by
    rcases g _ h with h | h
    · exact M h
    · omega
  have o3:=o2.keep S (λbe a h=>by simp at h;exact y (h▸a))
  have a3:=((k3.ext O).keep Q (λbe a h=>k4 be h a)).keep S (λbe a h=>by simp at h;exact x (h▸a))
  refine⟨A,_,c2,fG g3 4,λb2 m a1 v=>?_⟩
  have P:Ext l m:=CI v
  have z4:m.size=l.size+1:=by rw[v];simp
  refine cI (ys:=zf [E]) (a3.ext P) (eJ (aF a1 v) _ 0 0 (λbe a=>by simp[zf]at a;subst a;rfl)) rfl (pb _) rfl (by omega) ?_
  intro F d2 V o5 T n5
  have z5:=T.size
  obtain⟨q6,s6⟩:=mx (T.get x (P.get g3)) 4 (vs F (j.length+1) d2) (by simp)
  refine⟨q6,λB a0=>?_⟩
  obtain⟨g6,Y⟩:=s6 B a0
  have w: ∀be∈kd F,be∈kd A\/m.size<=be:=n5
  have N:i ∉ kd F:=λh=>by
    rcases w _ h with h | h
    · exact x h
    · omega
  have a5:=o3.lt
  have X: ∀be∈kd C,be ∉ kd F:=λbe h1 h2=>by
    rcases w be h2 with q | q
    · rcases g be h1 with bf | bf
      · exact k4 be bf q
      · have:=l2 be q;omega
    · have:=a5 be h1;omega
  have o6:=o5.keep Y (λbe a h=>by simp at h;exact N (h▸a))
  have o1:=((o3.ext P).keep T (λbe a h=>by
    rcases g be a with bf | bf
    · exact k4 be bf h
    · have:=l2 be h;omega)).keep Y (λbe a h=>by simp at h;exact y (h▸a))
  refine hR B (kd C++kd F) ⟨C,d1,F,d2,?_,?_,?_,X,rfl,λh=>?_⟩ ?_ (λbe a=>?_)
  · rw[CV,CV];exact g6
  · have e:yE (d++[D])=yE d++yE [D]:=by unfold yE;rw[C7]
    rw[e,CV];exact o1
  · have e:zf (j++[E])=zf j++zf [E]:=by unfold zf;rw[C7]
    rw[e,CV];exact o6
  · rcases CM.1 h with h | h
    · exact y h
    · exact N h
  · have ak:Fr (i::(kd z++kd A)) H I:=O.fr.trans (Q.mono (λbe a _=>by simp[a]))
    have a2:Fr (i::(kd z++kd A)) I m:=(S.mono (λbe a _=>by simp at a;simp[a])).trans P.fr
    have am:Fr (i::(kd z++kd A)) m B:=(T.mono (λbe a _=>by simp[a])).trans (Y.mono (λbe a _=>by simp at a;simp[a]))
    exact(ak.trans a2).trans am
  · rcases CM.1 a with h | h
    · rcases g be h with bf | bf
      · exact .inl (Dg _ bf)
      · right;omega
    · rcases w be h with bf | bf
      · exact .inl (Du _ bf)
      · right;omega
def Az(w i:Int):Int:=if i=0 then w else 0
theorem wE(K:KnAt H i k o r d j u)(m:d.length<=100000000/\j.length<=100000000):
    aV.C (some ⟨i,0,none⟩) D E H (λv b=> ∃a,KnAt b i k o r (d++[Az D E]) (j++[E]) a/\Fr (i::u) H b/\ ∀n∈a,n∈u\/H.size<=n):=by
  refine HC.via λR c=>aV.link ?_
  unfold aV.pt
  by_cases f:E=0
  · rw[qB f]
    have e:Az D E=D:=qB f
    rw[e]at c
    exact tB K m (λb a g h l=>c _ _ ⟨a,g,h,l⟩)
  · rw[za f]
    have e:Az D E=0:=za f
    rw[e]at c
    exact tB K m (λb a g h l=>c _ _ ⟨a,g,h,l⟩)
def numOf(L:List Int)(w:Int):Int:=if w∈L then((L.idxOf w+1:Nat):Int)else 0
def Bh(m:Mem)(L:List Int)(w:Int)(p:Int×Int):Int:=if numOf L p.2=0/\w % 8=2/\p.1=Aj w/\m.sizeOf p.2>0 then-1 else numOf L p.2
def tC(m:Mem)(L:List Int)(w:Int)(p:Int×Int):Int:=Az p.2 (Bh m L w p)
theorem Came.num(C:Came F d H v i z j)(h:Int):
    ∃(a:Array MapEntry) (c:Nat) (b:List (Int×Value)),H[z]?=some (.map a c)/\vb (aY .u64) a.toList b/\ ∃x:Int,(yG b h).getD (vi 0)=vi x/\x=numOf j h:=by
  obtain⟨a,c,b,e,f,g⟩:=C.map
  refine⟨a,c,b,e,f,numOf j h,?_,rfl⟩
  rw[g h]
  unfold numOf
  split<;>rfl
theorem xD{a:zV}{I:Nat}{l:LoopState->Option Code->Obj}{m:List Nat}(x:Fr [i] H A)(C:A.size=H.size)(p:i ∉ u/\i≠z/\i<H.size)(q:A[i]?=some (l .busy none))(D:I<=H.size)(y: ∀G∈u,I<=G)
    (K2:KnAt a z k o r d j m) (s:Fr (z::u) A a) (b: ∀G∈m,G∈u\/A.size<=G):
    a[i]?=some (l .busy none)/\ ∃n:List Nat,((aM a i (l .ready none))[i]?=some (l .ready none)/\KnAt (aM a i (l .ready none)) z k o r d j n/\ ∀G∈n,I<=G)/\
      Fr ([i,z]++u) H (aM a i (l .ready none))/\ ∀G∈n,G∈u\/H.size<=G:=by
  obtain⟨v,B,E⟩:=p
  have w:=s.get (by simp;exact⟨B,v⟩) q
  have t:Fr [i] a (aM a i (l .ready none)):=Fr.set
  have c: ∀G∈m,G≠i:=λG g e=>by
    rcases b G g with h | h
    · exact v (e▸h)
    · omega
  refine⟨w,m,⟨aT (aS w),K2.keep t (by simp;omega) (λG g=>by simp;exact c G g),λG g=>?_⟩,?_,λG g=>?_⟩
  · rcases b G g with h | h
    · exact y G h
    · omega
  · exact((x.mono (λF f _=>by simp at f;simp[f])).trans (s.mono (λF f _=>by
      rcases CR.1 f with h | h<;>simp[h]))).trans (t.mono (λF f _=>by simp at f;simp[f]))
  · rcases b G g with h | h
    · exact .inl h
    · right;omega
theorem xE{bh bw b2 p mr a c z:Nat}{F:Int}{ws is:List Int}{g:LoopState->Option Code->Obj}{K:zv}
    (hp:HpAt H B C) (ok:SpOK C.sp) (g0:H[bh]?=some (.cells #[vp (some ⟨B.h,0,none⟩)] 23 (0,0))) (g5:H[bw]?=some (.cells #[vu k] 28 (0,0))) (g2:H[b2]?=some (.cells #[.map (some mr)] 149 (0,0)))
    (bz:Came C.sp.mem d H v c mr j) (hw:aD k) (hv:aD r) (Kn:KnAt H p D E F ws is u) (az:ws.length<=1000/\is.length<=1000) (ql:H[a]?=some (g .ready none))
    (hl:a ∉ B.all/\a ∉ u/\a≠bh/\a≠bw/\a≠b2/\a≠p/\a≠mr/\a ∉ kd v) (hz:z<=H.size) (hU: ∀bA∈u,z<=bA)
    (hK: ∀A',(∃T':List Nat,(A'[a]?=some (g .ready none)/\KnAt A' p D E F (ws++[tC C.sp.mem j k (o,r)]) (is++[Bh C.sp.mem j k (o,r)]) T'/\ ∀bA∈T',z<=bA)/\Fr ([a,p]++u) H A'/\ ∀bA∈T',bA∈u\/H.size<=bA)->K VT A'):
    ( H[a]? = some (g .ready none) ∧ ∀ b : Array Obj, b = aM H a (g .busy none) →
           ∃I:Option Nat,hat b (Addr.mk b2 0 none)=some (.map I)/\
           ∃G:Nat,I=some G/\
           ∃(y:Array MapEntry) (Z:Nat) (A:List (Int×Value)),b[G]?=some (.map y Z)/\vb (aY .u64) y.toList A/\
           ∃f:Int,(yG A r).getD (vi 0)=vi f/\
           if f=0 then(
            ∃J:Int,hat b (Addr.mk bw 0 none)=some (vu J)/\
            cM.C J b (λau s=> ∃L:Int,au=vi L/\
             if L=2 then(
              ∃M:Int,hat s (Addr.mk bw 0 none)=some (vu M)/\
              eY.C M s (λav t=> ∃N:Int,av=vi N/\
               if o=N then(
                ∃O:zW,hat t (Addr.mk bh 0 none)=some (vp O)/\
                bO.C O r t (λaw Q=> ∃P:Int,aw=vi P/\
                 if P>0 then(
                  aV.C (some (Addr.mk p 0 none)) r (-1) Q (λ_ U=>
                   U[a]?=some (g .busy none)/\
                   K VT (aM U a (g .ready none))))
                 else
                 aV.C (some (Addr.mk p 0 none)) r f Q (λ_ V=>
                  V[a]?=some (g .busy none)/\
                  K VT (aM V a (g .ready none)))))
               else
               aV.C (some (Addr.mk p 0 none)) r f t (λ_ W=>
                W[a]?=some (g .busy none)/\
                K VT (aM W a (g .ready none)))))
             else
             aV.C (some (Addr.mk p 0 none)) r f s (λ_ X=>
              X[a]?=some (g .busy none)/\
              K VT (aM X a (g .ready none)))))
           else
           aV.C (some (Addr.mk p 0 none)) r f b (λ_ Y=>
            Y[a]?=some (g .busy none)/\
            K VT (aM Y a (g .ready none)))):=by
  obtain⟨l1,l2,l3,l4,l5,l6,l7,l8⟩:=hl
  refine⟨ql,λb l=>?_⟩
  have S:Fr [a] H b:=by rw[l];exact Fr.set
  have ay:b.size=H.size:=by rw[l];simp
  have a5:b[a]?=some (g .busy none):=by rw[l];exact aT (aS ql)
  have T: ∀bA,a≠bA->bA ∉ [a]:=λbA h=>by simp;exact λe=>h e.symm
  have ao:=aS ql
  have ac:=bz.keep S (λbA hj=>T _ (λe=>l8 (e▸hj))) (T _ l7)
  have al:=S.get (T _ l5) g2
  have a6:=S.get (T _ l4) g5
  have am:=S.get (T _ l3) g0
  have a3:=hp.keep S (λi a1 hq=>by simp at a1;exact l1 (a1▸hq))
  have Al:=Kn.keep S (T _ l6) (λbA hj=>T _ (λe=>l2 (e▸hj)))
  clear l
  obtain⟨es,cl,ks,m1,m2,n,m3,hn⟩:=ac.num r
  have m : ∀ {Hs : Array Obj} {i : Int}, Ext b Hs → i = Bh C.sp.mem j k (o, r) → aV.C (some (Addr.mk p 0 none)) r i Hs (fun _ Hx =>
                  Hx[a]?=some (g .busy none)/\
                  K VT (aM Hx a (g .ready none))):=λ{Hs i} e hi=>by
    refine HC.mono (wE (Al.ext e) ⟨by omega,by omega⟩) ?_
    rintro _ Hx ⟨T2,K2,f2,an⟩
    have ze:=e.size
    rw[hi]at K2
    obtain⟨d1,d2⟩:=xD S ay ⟨l2,l6,ao⟩ a5 hz hU K2 (e.fr.trans f2) (λbA hj=>by
      rcases an bA hj with h | h
      · exact .inl h
      · right;omega)
    exact⟨d1,hK _ d2⟩
  refine⟨some mr,by rw[aI al];rfl,mr,rfl,es,cl,ks,m1,m2,n,m3,?_⟩
  by_cases x:n=0
  case neg=>
    rw[za x]
    refine m (CW _) ?_
    unfold Bh;rw[za (λq=>x (hn.trans q.1))];exact hn
  rw[qB x]
  refine⟨k,by rw[aI a6];rfl,HC.mono (fZ hw) ?_⟩
  rintro _ s ⟨rfl,R⟩
  refine⟨_,rfl,?_⟩
  by_cases h2:k % 8=2
  case neg=>
    rw[za h2]
    refine m R ?_
    unfold Bh;rw[za (λq=>h2 q.2.1)];exact hn
  rw[qB h2]
  refine⟨k,by rw[aI (R.get a6)];rfl,HC.mono (ng hw) ?_⟩
  rintro _ t ⟨rfl,aj⟩
  refine⟨_,rfl,?_⟩
  have w:=R.trans aj
  by_cases ha:o=Aj k
  case neg=>
    rw[za ha]
    refine m w ?_
    unfold Bh;rw[za (λq=>ha q.2.2.1)];exact hn
  rw[qB ha]
  refine⟨_,by rw[aI (w.get am)];rfl,HC.mono (kZ (.real (a3.ext w) ok) hv) ?_⟩
  have hm:yP (some (B,C))=C.sp.mem:=rfl
  rw[hm]
  rintro _ Q ⟨rfl,ak⟩
  refine⟨_,rfl,?_⟩
  have a0:=w.trans ak
  by_cases hs:C.sp.mem.sizeOf r>0
  · rw[qB hs]
    refine m a0 ?_
    unfold Bh;rw[qB ⟨hn.symm.trans x,h2,ha,hs⟩]
  · rw[za hs]
    refine m a0 ?_
    unfold Bh;rw[za (λq=>hs q.2.2.2)];exact hn
variable{d:Int}{i:List Int}{j:Nat}
theorem sl(h:d∈i): ∃k:Nat,i[k]?=some d:=by
 obtain⟨k,hk,rfl⟩:=Ep h
 exact⟨k,List.getElem?_eq_getElem hk⟩
theorem get_mem(h:i[j]?=some d):d∈i:=by
 obtain⟨hk,rfl⟩:=List.getElem?_eq_some_iff.1 h
 exact CS hk
theorem oP(m:Mem): ∀(vs L:List Int) {v:Int},v∈vs->m.sizeOf v>0->v∈vs.foldl (zl m) L
 | [],_,_,h,_=>absurd h (by simp)
 | w::vs,L,v,h,hs=>by
  rw[List.foldl_cons]
  rcases CR.1 h with rfl | h
  ·have:v∈zl m L v:=by
    unfold zl
    by_cases a:v∈L
    ·rw[za (λq=>q.2 a)];exact a
    ·rw[qB ⟨hs,a⟩];simp
   obtain⟨k,hk⟩:=sl this
   exact get_mem (nh m vs _ hk)
  ·exact oP m vs _ h hs
theorem pm(m:Mem)(a:List Int)(i:Nat)(h:(bZ m a i)[j]?=some d):(bZ m a (i+1))[j]?=some d:=by
 show(jC m (bZ m a i) i)[j]?=some d
 unfold jC
 split
 ·exact h
 ·exact nh m _ _ h
theorem mH(m:Mem)(a:List Int){i:Nat}{k:Nat}{v:Int}(h:(bZ m a i)[k]?=some v): ∀d,(bZ m a (i+d))[k]?=some v
 | 0=>h
 | d+1=>pm m a (i+d) (mH m a h d)
theorem tD{m:Mem}{a:List Int}(hk:(bZ m a j).length=j):(∀w∈a,m.sizeOf w>0->w∈bZ m a j)/\ ∀w∈bZ m a j,∀v∈visL w (bP m w),m.sizeOf v>0->v∈bZ m a j:=by
 refine⟨λw h g=>?_,λw h v r g=>?_⟩
 ·obtain⟨s,f⟩:=sl (oP m a [] h g)
  have:=mH m a (i:=0) f j
  rw[CQ]at this
  exact get_mem this
 ·obtain⟨i,n,e⟩:=Ep h
  have c:(bZ m a j)[i]?=some w:=by rw[<-e];exact List.getElem?_eq_getElem n
  have o:i<j:=by omega
  have p: ¬(bZ m a i).length<=i:=λq=>by
   have:=mG m a q (j-i)
   rw[show i+(j-i)=j by omega]at this
   rw[this]at hk;omega
  have b:(bZ m a i)[i]?=some w:=by
   have k:(bZ m a i)[i]?=some (bZ m a i)[i]:=List.getElem?_eq_getElem (by omega)
   have l:=mH m a k (j-i)
   rw[show i+(j-i)=j by omega,c]at l
   rw[k,<-l]
  have d:v∈bZ m a (i+1):=by
   show v∈jC m (bZ m a i) i
   unfold jC
   rw[b]
   exact oP m _ _ r g
  obtain⟨s,f⟩:=sl d
  have:=mH m a f (j-(i+1))
  rw[show i+1+(j-(i+1))=j by omega]at this
  exact get_mem this
theorem oh{α β:Type}{l:List α}{g:α->β}(h:l.Nodup)(i: ∀a∈l,∀b∈l,g a=g b->a=b):(l.map g).Nodup:=by
 unfold List.Nodup at*
 rw[List.pairwise_map]
 exact List.Pairwise.imp_of_mem (λd f c e=>c (i _ d _ f e)) h
theorem vj{M:Mem}{h:Int->Nat}(g:bD M)(S:kF M h){v:Int}(m:aD v)(e:Good M h v)(f:aZ v):
  (2<=M.kAt (v / 8)->M.typ v=hk (M.get (v / 8))/\M.len v=hn (M.get (v / 8))/\M.more v=hm (M.get (v / 8))/\M.isObj v)/\(M.kAt (v / 8)<=1->M.typ v=0/\M.len v=0/\M.more v=0/\ ¬M.isObj v):=by
 obtain⟨n,c⟩:=e.2 f
 have a:M.sizeOf v≠0:=by rw[S.size g m e f];omega
 have o:0<=M.kAt (v / 8)/\M.kAt (v / 8)<=3:=(g.seg (v / 8 / 64).toNat).kind
 unfold zL at c
 refine⟨λk=>?_,λj=>?_⟩
 ·rw[za (by omega),za (by omega)]at c
  have d: ¬M.isPair v:=λl=>(nH a).1 l c
  have b:M.isObj v:=by
   unfold Mem.sizeOf at a
   rw[za d]at a
   by_cases q:M.isObj v
   ·exact q
   ·rw[za q]at a;exact absurd rfl a
  exact⟨by unfold Mem.typ;rw[qB b],by unfold Mem.len;rw[qB b],by unfold Mem.more;rw[qB b],b⟩
 ·have i:v % 8≠3:=by
   by_cases q:M.kAt (v / 8)=0
   ·rw[qB q]at c;omega
   ·rw[za q,qB (by omega)]at c;omega
  have b: ¬M.isObj v:=λq=>i q.1.2.1
  exact⟨by unfold Mem.typ;rw[za b],by unfold Mem.len;rw[za b],by unfold Mem.more;rw[za b],b⟩
theorem tE{M:Mem}{e:Int->Nat}(d:bD M)(S:kF M e){v:Int}(p:aD v)(h:Good M e v)(c:aZ v):
  bP M v=if M.typ v=2\/M.typ v=3 then[]else(List.range ((e (v / 8):Int)-eS M v).toNat).map λi:Nat=>(v / 8+(eS M v+i),M.get (v / 8+(eS M v+i))):=by
 obtain⟨f,q⟩:=h.2 c
 have o:=S.lt d f
 have b:Aj v=v / 8:=by
  unfold aZ at c
  unfold Aj
  rw[qB ⟨by omega,o.2⟩]
 unfold bP
 rw[S.size d p h c,b]
 split
 ·rfl
 ·refine List.map_congr_left λi l=>?_
  rw[Dc]at l
  have g:eS M v=0\/eS M v=1:=by unfold eS;split<;>simp
  obtain⟨j,m⟩: ∃j:Nat,eS M v+(i:Int)=j:=⟨(eS M v+(i:Int)).toNat,by omega⟩
  rw[m]
  have a:=S.usedAt f (i:=j) (by omega) (λk=>(d.seg k).n.2)
  unfold Mem.read
  rw[qB a.1]
section
variable {m:Mem} {P:Int->Prop}
theorem xF{L:List Int}(h:(∀w∈L,P w/\m.sizeOf w>0)/\L.Nodup){v:Int}(f:P v):(∀w∈zl m L v,P w/\m.sizeOf w>0)/\(zl m L v).Nodup:=by
 unfold zl
 by_cases q:m.sizeOf v>0/\v ∉ L
 ·rw[qB q]
  refine⟨λw g=>?_,List.nodup_append.2 ⟨h.2,by simp,λa d b c=>?_⟩⟩
  ·rcases CM.1 g with r | r
   ·exact h.1 w r
   ·simp at r;rw[r];exact⟨f,q.1⟩
  ·simp at c;rw[c];exact λe=>q.2 (e▸d)
 ·rw[za q];exact h
theorem qy: ∀(vs:List Int) {L:List Int},((∀w∈L,P w/\m.sizeOf w>0)/\L.Nodup)->(∀v∈vs,P v)->(∀w∈vs.foldl (zl m) L,P w/\m.sizeOf w>0)/\(vs.foldl (zl m) L).Nodup
 | [],L,h,_=>h
 | v::vs,L,h,hv=>by
  rw[List.foldl_cons]
  exact qy vs (xF h (hv v (by simp))) (λu a=>hv u (by simp[a]))
theorem qA{roots:List Int}(b: ∀w∈roots,P w)(a: ∀w,P w->m.sizeOf w>0-> ∀v∈(bP m w).map Prod.snd,P v): ∀k,(∀w∈bZ m roots k,P w/\m.sizeOf w>0)/\(bZ m roots k).Nodup
 | 0=>qy roots (L:=[]) ⟨by simp,by simp⟩ b
 | k+1=>by
  have h:=qA b a k
  show(∀w∈jC m (bZ m roots k) k,P w/\m.sizeOf w>0)/\(jC m (bZ m roots k) k).Nodup
  unfold jC
  cases g:(bZ m roots k)[k]? with
  | none=>exact h
  | some w=>
   obtain⟨d,e⟩:=h.1 w (get_mem g)
   refine qy _ h (λv c=>a w d e v ?_)
   unfold visL at c
   obtain⟨p,f,rfl⟩:=CT.1 c
   exact CT.2 ⟨p,(Dm.1 f).1,rfl⟩
end
theorem xH{s:Sp}{g:Int->Nat}(I:Inv s g)(K:Bn s.mem g){d L:List Int}(N: ∀w∈d,aD w/\Good s.mem g w)(h: ∃k,L=bZ s.mem d k/\L.length=k):kH s.mem L<=s.mem.words []:=by
 obtain⟨k,rfl,hk⟩:=h
 obtain⟨H,J⟩:=qA (m:=s.mem) (P:=λw=>aD w/\Good s.mem g w) N (λw f T v C=>by
  have o:aZ w:=mg (m:=s.mem) (by omega)
  obtain⟨p,F,rfl⟩:=CT.1 C
  rw[oO f.2 o]at F
  have:=mZ I K (f.2.2 o).1 p F
  exact⟨this.1,this.2.1⟩) k
 generalize bZ s.mem d k=L at*
 have c: ∀w∈L,s.mem.sizeOf w=g (w / 8)/\g (w / 8)≠0/\w=zn s.mem (w / 8):=λw f=>by
  obtain⟨⟨S,E⟩,V⟩:=H w f
  have o:aZ w:=mg (m:=s.mem) (by omega)
  exact⟨I.sound.size I.ok.mem S E o,(E.2 o).1,oO E o⟩
 have G:kH s.mem L=(((L.map (· / 8)).map g).sum:Nat):=by
  unfold kH
  have: ∀l:List Int,(∀w∈l,s.mem.sizeOf w=g (w / 8))->(l.map s.mem.sizeOf).sum=(((l.map (· / 8)).map g).sum:Nat):=by
   intro l
   induction l with
   | nil=>intro _;rfl
   | cons w l O=>
    intro A
    simp only[List.map_cons,List.sum_cons]
    rw[A w (by simp),O (λv C=>A v (by simp[C]))]
    omega
  exact this L (λw f=>(c w f).1)
 have B:(L.map (· / 8)).Nodup:=oh J (λa j b z e=>by
  rw[(c a j).2.2,(c b z).2.2]
  show zn s.mem (a / 8)=zn s.mem (b / 8)
  rw[show a / 8=b / 8 from e])
 rw[G,Ei I.ok.mem,mh g tops _ B (λa j=>?_) (λa j b z y=>?_)]
 ·unfold Mem.cnt
  refine Int.ofNat_le.2 (oG _ (λx _ u=>?_))
  rw[List.any_eq_true]at u
  obtain⟨a,j,u⟩:=u
  obtain⟨w,f,rfl⟩:=CT.1 j
  have q:=(c w f).2.1
  have t:=I.sound.lt I.ok.mem q
  unfold AU at u
  simp only[CZ,CN]at u⊢
  obtain⟨i,M⟩: ∃i:Nat,(x:Int)=w / 8+i:=⟨((x:Int)-w / 8).toNat,by omega⟩
  have r:=I.sound.usedAt q (i:=i) (by omega) (λk=>(I.ok.mem.seg k).n.2)
  rw[<-M]at r
  exact⟨r.1,by simp⟩
 ·obtain⟨w,f,rfl⟩:=CT.1 j
  have q:=(c w f).2.1
  have t:=I.sound.lt I.ok.mem q
  obtain⟨Q,U⟩:=I.sound.used _ q
  have:=(I.ok.mem.seg (w / 8 / 64).toNat).n
  have:=Q.2.1.2.1
  have A:=I.ok.mem.lim
  refine⟨t.1,?_⟩
  unfold tops
  omega
 ·obtain⟨w,f,rfl⟩:=CT.1 j
  obtain⟨R,D,rfl⟩:=CT.1 z
  exact I.sound.apart _ _ (c w f).2.1 (c R D).2.1 y
end Go.Proofs.YtfhbhckhmnleoaaGreat
namespace Go.Proofs.YtfhbhckhmnleoaaGreat
open Go Go.Proofs.Tryz
open Go.ChangeShapes Go.WideShapes
variable{d i A B C:Nat}{H D:zV}{j:zW}{k:List Nat}{o:List kx}{r:Blk}{u:Hp}{v z:List Int}
def qC(m:Mem)(w:Int)(i:Nat):Int:=if m.fieldE w (m.typ w) i=0 then m.get (w / 8+1+i)else 0
def wF(m:Mem)(w:Int):Nat:=(m.len w-(bP m w).length).toNat
def om(m:Mem)(L:List Int)(w:Int):Int×Int×Int×List Int×List Int:=
  (w % 8,m.typ w,m.more w,(bP m w).map (tC m L w)++(List.range (wF m w)).map (qC m w),(bP m w).map (Bh m L w)++(List.range (wF m w)).map (λ_=>(0:Int)))
structure kV (A:zV) (oB:zW) (oN oC:Nat) (ks:List kx) (T:List Nat):Prop where
  len:oN=ks.length
  own:Own A 147 5 oB oN oC (ks.flatMap kx.cells)
  each: ∀k∈ks,k.words.xs.length=k.words.n/\Own A 28 1 k.words.p k.words.n k.words.c (yE k.words.xs)/\k.is.xs.length=k.is.n/\Own A 3 1 k.is.p k.is.n k.is.c (zf k.is.xs)/\ ∀j∈kd k.words.p++kd k.is.p,j∈T
  dis: ∀j∈T,j ∉ kd oB
  lt: ∀j∈T,j<A.size
theorem kV.keep{S:List Nat}{c:zW}{T:List Nat}(h:kV H c d i o T)(f:Fr S H D)(p: ∀j∈kd c,j ∉ S)(e: ∀j∈T,j ∉ S):kV D c d i o T:=by
  refine⟨h.len,h.own.keep f p,λk hk=>?_,h.dis,λj a=>DJ (h.lt j a) f.size⟩
  obtain⟨g,l,m,n,b⟩:=h.each k hk
  exact⟨g,l.keep f (λj a=>e j (b j (Dg _ a))),m,n.keep f (λj a=>e j (b j (Du _ a))),b⟩
theorem kV.ext(h:kV H j d i o k)(e:Ext H D):kV D j d i o k:=h.keep (S:=[]) e.fr (by simp) (by simp)
theorem tF(k:kx):kz k.cells=true:=rfl
theorem wG{w p:Int}{T:List Nat}{Kp:zW->Nat->zV->Prop}
    (hp:HpAt H r u) (ok:SpOK u.sp) (g0:H[d]?=some (.cells #[vp (some ⟨r.h,0,none⟩)] 23 (0,0))) (g5:H[i]?=some (.cells #[vu w] 28 (0,0))) (hw:aD w)
    (Kn:KnAt H A (w % 8) (u.sp.mem.typ w) p v z k) (ag:v.length<=1000/\z.length=v.length) (O:kV H j B C o T) (bC:B<=100000000)
    (hd: ∀cc∈A::k,cc ∉ r.all/\cc≠d/\cc≠i/\cc ∉ T/\cc ∉ kd j)
    (hK: ∀R E A' N U',kV A' R (B+1) E (o++[N]) (U'++T)->AF N=(w % 8,u.sp.mem.typ w,p,v++(List.range (u.sp.mem.len w-v.length).toNat).map (qC u.sp.mem w),z++(List.range (u.sp.mem.len w-v.length).toNat).map (λ_=>(0:Int)))->
      Fr (A :: k ++ kd j) H A' → (∀ cc ∈ U', cc ∈ k ∨ H.size ≤ cc) → (∀ cc ∈ kd R, cc ∈ kd j ∨ H.size ≤ cc) → Kp R E A') :
            ∃(a1:zw) (ak:Int->zV->Nat),a1 0 H/\ ∀(c9:Int) (D:zV),a1 c9 D->
            ∃xB:zW,∃xN:Nat,∃xC:Nat,hat D ((Addr.mk A 0 none).add 3)=some (vs xB xN xC)/\
            ∃U:zW,hat D (Addr.mk d 0 none)=some (vp U)/\
            ∃V:Int,hat D (Addr.mk i 0 none)=some (vu V)/\
            cO.C U V D (λam g=> ∃W:Int,am=vi W/\aL g ((Addr.mk A 0 none).add 3) 0 [vs xB xN xC]/\
             if(xN:Int)<W then(
              ∃X:zW,hat g (Addr.mk d 0 none)=some (vp X)/\
              ∃Y:Int,hat g (Addr.mk i 0 none)=some (vu Y)/\
              ∃Z:Int,hat g ((Addr.mk A 0 none).add 1)=some (vi Z)/\
              dF.C X Y Z c9 g (λan av=> ∃ra:Int,∃al:Int,an=.tuple #[vu ra,vi al]/\
               aV.C (some (Addr.mk A 0 none)) ra 0 av (λ_ aa=>
                (a1 (IntKind.wrap .i64 (c9+1)) aa/\ak (IntKind.wrap .i64 (c9+1)) aa<ak c9 D))))
             else
             ∃y:Int,∃m:Int,∃l:Int,∃b:zW,∃f:Nat,∃c:Nat,∃s:zW,∃x:Nat,∃t:Nat,aL g (Addr.mk A 0 none) 0 [vi y,vi m,vu l,vs b f c,vs s x t]/\
             ∀(ac:Nat) (J:zV),ac=g.size->J=g.push (.cells #[vi y,vi m,vu l,vs b f c,vs s x t] 147)->
             bH 5 147 72 [vi 0,vi 0,vu 0,VN,VN] j B C (some (Addr.mk ac 0 none)) 1 J (λR E a0=>Kp R E a0)):=by
  have bA:=u.sp.mem.len_rng w
  have bz:=Kn.lt
  have hm:yP (some (r,u))=u.sp.mem:=rfl
  refine⟨λc9 A1=> ∃(cd:Nat) (U1:List Nat),c9=cd/\(cd=0\/(v.length:Int)+cd<=u.sp.mem.len w)/\Fr (A::k) H A1/\KnAt A1 A (w % 8) (u.sp.mem.typ w) p (v++(List.range cd).map (qC u.sp.mem w)) (z++(List.range cd).map (λ_=>(0:Int))) U1/\ ∀cc∈U1,cc∈k\/H.size<=cc,λc9 _=>(u.sp.mem.len w-(v.length+c9)).toNat,
    ⟨0,k,rfl,.inl rfl,Fr.refl _ _,by simpa using Kn,λcc a=> .inl a⟩,?_⟩
  rintro _ A1 ⟨cd,U1,rfl,hk,f1,K1,P⟩
  have aj:=hp.keep f1 (λc9 Q=>(hd c9 Q).1)
  have h0:=f1.get (λh=>(hd _ h).2.1 rfl) g0
  have h5:=f1.get (λh=>(hd _ h).2.2.1 rfl) g5
  have aw:=K1
  obtain⟨B1,c1,B2,c2,k1,k2,k3,k4,kU,k6⟩:=aw
  have a6:(v++(List.range cd).map (qC u.sp.mem w)).length=v.length+cd:=by simp
  have a7:(z++(List.range cd).map (λ_=>(0:Int))).length=v.length+cd:=by simp[ag.2]
  refine⟨B1,_,c1,fG k1 3,_,by rw[aI h0];rfl,w,by rw[aI h5];rfl,HC.mono (nf (.real aj ok) hw) ?_⟩
  rw[hm]
  rintro _ A2 ⟨rfl,I⟩
  have b1:=aj.ext I
  have M:=I.get k1
  have K2:=K1.ext I
  have z1:=f1.size
  have z2:=I.size
  refine⟨_,rfl,⟨by rw[show Addr.add _ 0=_ from rfl];exact fG M 3,EO⟩,?_⟩
  rw[a6]at M⊢
  rw[a7]at M
  by_cases ah:((v.length+cd:Nat):Int)<u.sp.mem.len w
  · rw[qB ah]
    refine⟨_,by rw[aI (I.get h0)];rfl,w,by rw[aI (I.get h5)];rfl,u.sp.mem.typ w,fG M 1,?_⟩
    refine HC.mono (qY (.real b1 ok) hw ⟨by omega,by omega⟩) ?_
    rw[hm]
    rintro _ A3 ⟨rfl,e3⟩
    refine⟨_,_,rfl,HC.mono (wE (K2.ext e3) ⟨by omega,by omega⟩) ?_⟩
    rintro _ A4 ⟨U4,K4,f4,az⟩
    have b2:IntKind.wrap .i64 ((cd:Int)+1)=((cd+1:Nat):Int):=by rw[xT (n:=(cd:Int)+1) (by omega)];omega
    rw[b2]
    have z3:=e3.size
    refine⟨⟨cd+1,U4,rfl,by omega,(f1.trans' ((I.trans e3).fr.trans f4) (λc9 Q _=>Q) (λc9 Q hl=>?_)),?_,λcc a=>?_⟩,by show(u.sp.mem.len w-((v.length:Int)+((cd+1:Nat):Int))).toNat< (u.sp.mem.len w-((v.length:Int)+(cd:Int))).toNat;omega⟩
    · rcases CR.1 Q with h | h
      · simp[h]
      · rcases P c9 h with q | q
        · simp[q]
        · omega
    · have e1:v++(List.range (cd+1)).map (qC u.sp.mem w)=(v++(List.range cd).map (qC u.sp.mem w))++[Az (if u.sp.mem.fieldE w (u.sp.mem.typ w) (cd:Int)=0 then u.sp.mem.get (w / 8+1+(cd:Int))else 0) 0]:=by
        rw[DP,C7,DL];rfl
      have I:z++(List.range (cd+1)).map (λ_=>(0:Int))=(z++(List.range cd).map (λ_=>(0:Int)))++[0]:=by
        rw[DP,C7,DL];rfl
      rw[e1,I];exact K4
    · rcases az cc a with h | h
      · rcases P cc h with q | q
        · exact .inl q
        · exact .inr q
      · right;omega
  · rw[za ah]
    have b0:cd=(u.sp.mem.len w-v.length).toNat:=by omega
    refine⟨_,_,_,_,_,_,_,_,_,kl M,λb7 J aU K=>?_⟩
    have F:Ext A2 J:=CI K
    have bN:J.size=A2.size+1:=by rw[K];simp
    have O1:kV A2 j B C o T:=(O.keep f1 (λcc a h=>(hd cc h).2.2.2.2 a) (λcc a h=>(hd cc h).2.2.2.1 a)).ext I
    have b9:=F
    obtain⟨N,a5⟩: ∃N:kx,N=⟨w % 8,u.sp.mem.typ w,p,⟨B1,v.length+cd,c1,v++(List.range cd).map (qC u.sp.mem w)⟩,⟨B2,v.length+cd,c2,z++(List.range cd).map (λ_=>(0:Int))⟩⟩:=⟨_,rfl⟩
    refine cI (ys:=N.cells) (O1.own.ext F) (by rw[a5];exact kl (aF aU K)) rfl (tF N) rfl (by omega) ?_
    intro R E a0 b3 G ai
    have bO:=G.size
    have bB:=O1.own.lt
    have L: ∀cc∈U1,cc ∉ kd j:=λcc a h=>by
      rcases P cc a with q | q
      · exact(hd cc (by simp[q])).2.2.2.2 h
      · have:=O.own.lt cc h;omega
    have S: ∀cc∈U1,cc<A2.size:=λcc a=>by have:=K1.lt cc (by simp[a]);omega
    have af:=O.lt
    have a4: ∀cc∈kd R,cc∈kd j\/A2.size<=cc:=λcc a=>by
      rcases ai cc a with h | h
      · exact .inl h
      · right;omega
    subst kU
    refine hK R E a0 N (kd B1++kd B2) ⟨?_,?_,?_,?_,?_⟩ ?_ ?_ P (λcc a=>?_)
    · rw[O1.len];simp
    · rw[DQ]
      have e:[N].flatMap kx.cells=N.cells:=by simp
      rw[e];exact b3
    · intro k' aW
      rcases CM.1 aW with h | h
      · obtain⟨bl,a2,a3,bo,ax⟩:=O1.each k' h
        refine⟨bl,(a2.ext F).keep G (λcc a=>O1.dis cc (ax cc (Dg _ a))),a3,(bo.ext F).keep G (λcc a=>O1.dis cc (ax cc (Du _ a))),λcc a=>Du _ (ax cc a)⟩
      · simp at h
        rw[h,a5]
        have ae:=I.trans F
        rw[a6]at k2
        rw[a7]at k3
        exact⟨a6,(k2.ext ae).keep G (λcc a=>L cc (Dg _ a)),a7,(k3.ext ae).keep G (λcc a=>L cc (Du _ a)),λcc a=>Dg _ a⟩
    · intro cc a h
      rcases CM.1 a with q | q
      · rcases a4 cc h with ce | ce
        · exact L cc q ce
        · have:=S cc q;omega
      · rcases a4 cc h with ce | ce
        · exact O1.dis cc q ce
        · have:=af cc q;omega
    · intro cc a
      rcases CM.1 a with q | q
      · have:=S cc q;omega
      · have:=af cc q;omega
    · rw[a5,<-b0];rfl
    · exact(f1.mono (λc9 Q _=>Dg _ Q)).trans ((I.trans F).fr.trans (G.mono (λc9 Q _=>Du _ Q)))
    · rcases a4 cc a with ce | ce
      · exact .inl ce
      · right;omega
open Go.ChangeShapes Go.WideShapes
theorem pc(m:Mem)(w:Int):(bP m w).length<=63:=by
  have a:=lc m w
  unfold bP
  split
  · simp
  · rw[Dl,EL]
    have:0<=eS m w:=by unfold eS;split<;>omega
    omega
theorem sn{m:Mem}(c:bD m){w a v:Int}(h:(a,v)∈bP m w):aD v:=by
  unfold bP at h
  split at h
  · cases h
  · obtain⟨i,_,b⟩:=CT.1 h
    cases b
    exact DY c _
set_option maxHeartbeats 1000000 in
theorem oq{c oN oC:Nat}{oB:zW}{w:Int}{L:List Int}{Kp:zW->Nat->zV->zV->Prop}
    (hp:HpAt H r u) (ok:SpOK u.sp) (g0:H[d]?=some (.cells #[vp (some ⟨r.h,0,none⟩)] 23 (0,0))) (g5:H[i]?=some (.cells #[vu w] 28 (0,0))) (g2:H[A]?=some (.cells #[.map (some C)] 149 (0,0)))
    (cX:Came u.sp.mem v H j c C L) (hw:aD w) (g6:H[B]?=some (.cells #[vi (w % 8),vi (u.sp.mem.typ w),vu (u.sp.mem.more w),VN,VN] 147 (0,0)))
    (O:kV H oB oN oC o k) (c7:oN<=100000000) (hd: ∀cZ,(cZ∈r.all\/cZ=d\/cZ=i\/cZ=A\/cZ=C\/cZ∈kd j\/cZ∈k\/cZ∈kd oB)->cZ<B)
    (hK: ∀aU Y I A' kn U',I.size=H.size+2->kV A' aU (oN+1) Y (o++[kn]) (U'++k)->AF kn=om u.sp.mem L w->A'[I.size]?=some (.deferred (some []))->Fr (B::kd oB) H A'->(∀cZ∈U',H.size+4<=cZ)->(∀cZ∈kd aU,cZ∈kd oB\/H.size+4<=cZ)->Kp aU Y I A'):
         ∃ac:zW,hat H (Addr.mk d 0 none)=some (vp ac)/\
         ∃ae:Int,hat H (Addr.mk i 0 none)=some (vu ae)/\
         bT.C ac ae H (λb4 I=>b4=b4/\
          ∀(t:LoopState->Option Code->Obj) (f:Nat) (s:zV),f=I.size+1->s=(I.push (.deferred (some []))).push (t .ready none)->
          ∀vY:Value,(∀(af:Int) (g:Int) (a5:zV) (Z:zv),a5[f]?=some (t .ready none)->
          (a5[f]?=some (t .ready none)/\ ∀W:zV,W=aM a5 f (t .busy none)->
           ∃ag:Option Nat,hat W (Addr.mk A 0 none)=some (.map ag)/\
           ∃ab:Nat,ag=some ab/\
           ∃(a6:Array MapEntry) (bg:Nat) (aa:List (Int×Value)),W[ab]?=some (.map a6 bg)/\vb (aY .u64) a6.toList aa/\
           ∃x:Int,(yG aa g).getD (vi 0)=vi x/\
           if x=0 then(
            ∃ah:Int,hat W (Addr.mk i 0 none)=some (vu ah)/\
            cM.C ah W (λcd ax=> ∃ai:Int,cd=vi ai/\
             if ai=2 then(
              ∃aj:Int,hat ax (Addr.mk i 0 none)=some (vu aj)/\
              eY.C aj ax (λce ay=> ∃ak:Int,ce=vi ak/\
               if af=ak then(
                ∃al:zW,hat ay (Addr.mk d 0 none)=some (vp al)/\
                bO.C al g ay (λcf b5=> ∃am:Int,cf=vi am/\
                 if am>0 then(
                  aV.C (some (Addr.mk B 0 none)) g (-1) b5 (λ_ b6=>
                   b6[f]?=some (t .busy none)/\
                   Z VT (aM b6 f (t .ready none))))
                 else
                 aV.C (some (Addr.mk B 0 none)) g x b5 (λ_ b7=>
                  b7[f]?=some (t .busy none)/\
                  Z VT (aM b7 f (t .ready none)))))
               else
               aV.C (some (Addr.mk B 0 none)) g x ay (λ_ b8=>
                b8[f]?=some (t .busy none)/\
                Z VT (aM b8 f (t .ready none)))))
             else
             aV.C (some (Addr.mk B 0 none)) g x ax (λ_ b9=>
              b9[f]?=some (t .busy none)/\
              Z VT (aM b9 f (t .ready none)))))
           else
           aV.C (some (Addr.mk B 0 none)) g x W (λ_ ba=>
            ba[f]?=some (t .busy none)/\
            Z VT (aM ba f (t .ready none))))->
          FC prog vY #[vi af,vu g] a5 Z)->
          FE prog b4 #[vY] s (λ_ bb=>
           (bb[f]?=some (t .ready none)/\ ∀a1:zV,a1=aM bb f (t .exhausted none)->
            ∃(az:zw) (bj:Int->zV->Nat),az 0 a1/\ ∀(cY:Int) (X:zV),az cY X->
            ∃xB:zW,∃xN:Nat,∃xC:Nat,hat X ((Addr.mk B 0 none).add 3)=some (vs xB xN xC)/\
            ∃an:zW,hat X (Addr.mk d 0 none)=some (vp an)/\
            ∃ao:Int,hat X (Addr.mk i 0 none)=some (vu ao)/\
            cO.C an ao X (λbl y=> ∃ap:Int,bl=vi ap/\aL y ((Addr.mk B 0 none).add 3) 0 [vs xB xN xC]/\
             if(xN:Int)<ap then(
              ∃au:zW,hat y (Addr.mk d 0 none)=some (vp au)/\
              ∃av:Int,hat y (Addr.mk i 0 none)=some (vu av)/\
              ∃aw:Int,hat y ((Addr.mk B 0 none).add 1)=some (vi aw)/\
              dF.C au av aw cY y (λbm bw=> ∃ra:Int,∃bk:Int,bm=.tuple #[vu ra,vi bk]/\
               aV.C (some (Addr.mk B 0 none)) ra 0 bw (λ_ bc=>
                (az (IntKind.wrap .i64 (cY+1)) bc/\bj (IntKind.wrap .i64 (cY+1)) bc<bj cY X))))
             else
             ∃V:Int,∃G:Int,∃F:Int,∃n:zW,∃q:Nat,∃p:Nat,∃Q:zW,∃T:Nat,∃R:Nat,aL y (Addr.mk B 0 none) 0 [vi V,vi G,vu F,vs n q p,vs Q T R]/\
             ∀(bf:Nat) (bd:zV),bf=y.size->bd=y.push (.cells #[vi V,vi G,vu F,vs n q p,vs Q T R] 147)->
             bH 5 147 72 [vi 0,vi 0,vu 0,VN,VN] oB oN oC (some (Addr.mk bf 0 none)) 1 bd (λaU Y bz=>Kp aU Y I bz))))):=by
  refine⟨_,by rw[aI g0];rfl,w,by rw[aI g5];rfl,?_⟩
  refine bT.link ?_
  unfold bT.pt
  intro c0 H1 bX aW c1 H2 c5 b0
  have e1:Ext H H1:=CI aW
  have e2:Ext H1 H2:=CI b0
  have z1:H1.size=H.size+1:=by rw[aW];simp
  have z2:H2.size=H1.size+1:=by rw[b0];simp
  refine⟨rfl,λt f s cA P vY hY=>?_⟩
  have e3:Ext H2 s:=(CI rfl).trans (CI P)
  have z3:s.size=H2.size+2:=by rw[P];simp
  have bh:s[H2.size]?=some (.deferred (some [])):=by
    have:(H2.push (.deferred (some [])))[H2.size]?=some (.deferred (some [])):=aF rfl rfl
    exact(CI P).get this
  have bK:s[f]?=some (t .ready none):=aF (by simp;omega) P
  have e:=(e1.trans e2).trans e3
  have cB:=aS g6
  have b1: ∀cY,cY∈[f,B]->cY=f\/cY=B:=λcY m=>by simpa using m
  have old: ∀cZ,(cZ∈r.all\/cZ=d\/cZ=i\/cZ=A\/cZ=C\/cZ∈kd j\/cZ∈k\/cZ∈kd oB)->cZ ∉ [f,B]:=λcZ b h=>by
    have:=hd cZ b
    rcases b1 cZ h with h | h<;>omega
  refine FE.of2 (DU func138 (by kernel_rfl) rfl) rfl (oL (w:=w) (S:=[f,B])
    (J:=λl U D=>D[f]?=some (t .ready none)/\KnAt D B (w % 8) (u.sp.mem.typ w) (u.sp.mem.more w) (l.map (tC u.sp.mem L w)) (l.map (Bh u.sp.mem L w)) U/\ ∀cZ∈U,s.size<=cZ)
    (hp.ext e) ok ((e2.trans e3).get (aF bX aW)) (e3.get (aF c5 b0)) hw (λcY m=>⟨λhq=>old cY (.inl hq) m,by rcases b1 cY m with h | h<;>omega,by rcases b1 cY m with h | h<;>omega⟩)
    (λl U D D' ⟨h1,h2,h3⟩ ee=>⟨ee.get h1,h2.ext ee,h3⟩) (λl U D h cZ b=>h.2.2 cZ b)
    (λb3 a d1 cn U D a9 N hJ=>?_) ⟨bK,⟨none,0,none,0,e.get g6,gI,gI,by simp,rfl,by simp⟩,by simp⟩ (λU D hJ N=>?_))
  · obtain⟨ql,Kn,hU⟩:=hJ
    have c9:aD d1:=sn (a:=a) ok.mem (by rw[a9];simp)
    have z0:=N.size
    have cC:b3.length<=63:=by
      have:=pc u.sp.mem w
      rw[a9]at this;simp at this;omega
    refine(show∀K:zv,(∀A',(∃T':List Nat,(A'[f]?=some (t .ready none)/\KnAt A' B (w % 8) (u.sp.mem.typ w) (u.sp.mem.more w) (b3.map (tC u.sp.mem L w)++[tC u.sp.mem L w (a,d1)]) (b3.map (Bh u.sp.mem L w)++[Bh u.sp.mem L w (a,d1)]) T'/\ ∀cZ∈T',s.size<=cZ)/\
        Fr ([f,B]++U) D A'/\ ∀cZ∈T',cZ∈U\/D.size<=cZ)->K VT A')->FC prog vY #[vi a,vu d1] D K from λK bN=>hY a d1 D K ql (xE (K:=K) (z:=s.size) ((hp.ext e).keep N (λcY m hq=>old cY (.inl hq) m)) ok
        (N.get (old _ (.inr (.inl rfl))) (e.get g0)) (N.get (old _ (.inr (.inr (.inl rfl)))) (e.get g5)) (N.get (old _ (.inr (.inr (.inr (.inl rfl))))) (e.get g2)) ((cX.ext e).keep N (λcZ b=>old cZ (by simp[b])) (old _ (by simp))) hw c9 Kn ⟨by simp;omega,by simp;omega⟩ ql ?_ z0 hU bN)) _ (λA' ⟨T',⟨q1,q2,q3⟩,q4,q5⟩=> .inl ⟨rfl,T',⟨q1,by rw[C7,C7];exact q2,q3⟩,q4,q5⟩)
    have d0: ∀cZ,(cZ∈r.all\/cZ=d\/cZ=i\/cZ=A\/cZ=C\/cZ∈kd j\/cZ∈k\/cZ∈kd oB)->f≠cZ:=λcZ b=>by have:=hd cZ b;omega
    exact⟨λh=>d0 f (.inl h) rfl,λh=>by have:=hU f h;omega,d0 _ (by simp),d0 _ (by simp),d0 _ (by simp),by omega,d0 _ (by simp),λh=>d0 f (by simp[h]) rfl⟩
  · obtain⟨ql,Kn,hU⟩:=hJ
    refine⟨ql,λa1 a7=>?_⟩
    have M:Fr [f] D a1:=by rw[a7];exact Fr.set
    have z0:=N.size
    have cL:a1.size=D.size:=by rw[a7];simp
    have E: ∀cZ,(cZ∈r.all\/cZ=d\/cZ=i\/cZ=A\/cZ=C\/cZ∈kd j\/cZ∈k\/cZ∈kd oB)->cZ ∉ [f]:=λcZ b h=>by
      have:=hd cZ b;simp at h;omega
    have bS: ∀cZ∈B::U,B<=cZ:=λcZ b=>by
      rcases CR.1 b with h | h
      · omega
      · have:=hU cZ h;omega
    have a2: ∀cZ∈B::U,∀cY,(cY∈r.all\/cY=d\/cY=i\/cY=A\/cY=C\/cY∈kd j\/cY∈k\/cY∈kd oB)->cZ≠cY:=λcZ b cY m=>by have:=bS cZ b;have:=hd cY m;omega
    refine wG (((hp.ext e).keep N (λcY m hq=>old cY (.inl hq) m)).keep M (λcY m hq=>E cY (.inl hq) m)) ok (M.get (E _ (by simp)) (N.get (old _ (by simp)) (e.get g0))) (M.get (E _ (by simp)) (N.get (old _ (by simp)) (e.get g5))) hw
      (Kn.keep M (by simp;omega) (λcZ b=>by have:=hU cZ b;simp;omega)) ⟨by have:=pc u.sp.mem w;simp;omega,by simp⟩ (((O.ext e).keep N (λcZ b=>old cZ (by simp[b])) (λcZ b=>old cZ (by simp[b]))).keep M (λcZ b=>E cZ (by simp[b])) (λcZ b=>E cZ (by simp[b]))) c7
      (λcZ b=>⟨λh=>a2 cZ b cZ (.inl h) rfl,a2 cZ b _ (by simp),a2 cZ b _ (by simp),λh=>a2 cZ b cZ (by simp[h]) rfl,λh=>a2 cZ b cZ (by simp[h]) rfl⟩) ?_
    intro aU Y A' kn U' O' hk fA bR bU
    have c6:H2.size ∉ B::U++kd oB:=λh=>by
      rcases CM.1 h with h | h
      · rcases CR.1 h with h | h
        · omega
        · have:=hU _ h;omega
      · have:=hd H2.size (by simp[h]);omega
    refine hK aU Y H2 A' kn U' (by omega) O' ?_ (fA.get c6 (M.get (by simp;omega) (N.get (by simp;omega) bh))) ?_ (λcZ b=>?_) (λcZ b=>?_)
    · rw[hk]
      unfold om wF
      rw[Dl]
    · refine e.fr.trans' ((N.mono (λcY m _=>Dg _ m) (S':=[f,B]++(U++kd oB))).trans ((M.mono (λcY m _=>by simp at m;simp[m])).trans (fA.mono (λcY m _=>by
        rcases CM.1 m with h | h
        · rcases CR.1 h with h | h
          · simp[h]
          · simp[h]
        · simp[h])))) (S:=[]) (λcY m _=>by simp at m) (λcY m hl=>?_)
      simp at m
      rcases m with h | h | h | h
      · omega
      · simp[h]
      · have:=hU cY h;omega
      · simp[h]
    · rcases bR cZ b with h | h
      · have:=hU cZ h;omega
      · omega
    · rcases bU cZ b with h | h
      · exact .inl h
      · right;omega
open Go.ChangeShapes Go.WideShapes
def BG(roots L:List Int):Int×Int×Int×List Int×List Int:=(0,0,0,roots.map (λw=>Az w (numOf L w)),roots.map (numOf L))
def Bx(m:Mem)(roots L:List Int):List (Int×Int×Int×List Int×List Int):=BG roots L::L.map (om m L)
def uq(m:Mem)(roots L:List Int)(H4:zV)(oB:zW)(oN oC:Nat)(s:Int)(ms:List Nat)(A:zV):Prop:=
 ∃(k:Nat) (ks:List kx) (T:List Nat),s=k/\k<=L.length/\oN=k+1/\kV A oB oN oC ks T/\ks.map AF=BG roots L::(L.take k).map (om m L)/\Ext H4 A/\(∀j∈T,H4.size<=j)/\(∀j∈kd oB,H4.size<=j)/\ms.Nodup/\
  ∀D∈ms,A[D]?=some (.deferred (some []))/\H4.size<=D/\D ∉ T/\D ∉ kd oB
theorem wH{m:Mem}{a b e:zV}{l:zW}{T g:List Nat}{x:kx}(hk:B<z.length)(S:d=B+1)(O:kV D j d i o T)
  (u:o.map AF=BG v z::(z.take B).map (om m z)) (F:Ext H D) (N: ∀Z∈T,H.size<=Z) (G: ∀Z∈kd j,H.size<=Z) (w:k.Nodup) (I: ∀X∈k,D[X]?=some (.deferred (some []))/\H.size<=X/\X ∉ T/\X ∉ kd j)
  (n:Ext D a) (R:D.size<=C) (L:b.size=a.size+2) (M:kV e l (d+1) A (o++[x]) (g++T)) (t:AF x=om m z z[B]) (P:e[b.size]?=some (.deferred (some []))) (f:Fr (C::kd j) a e)
  (r: ∀Z∈g,a.size+4<=Z) (c: ∀Z∈kd l,Z∈kd j\/a.size+4<=Z):uq m v z H l (d+1) A ((B+1:Nat):Int) (b.size::k) e:=by
 have V:=F.size
 have W:=n.size
 have q:=O.lt
 have p:=O.own.lt
 refine⟨B+1,o++[x],g++T,rfl,hk,by omega,M,?_,(F.trans n).fr_trans f (λY Q=>?_),λZ s=>?_,λZ s=>?_,?_,λX h=>?_⟩
 ·rw[C7,u,Db hk,C7]
  simp[t]
 ·rcases CR.1 Q with h | h
  ·omega
  ·exact G Y h
 ·rcases CM.1 s with h | h
  ·have:=r Z h;omega
  ·exact N Z h
 ·rcases c Z s with h | h
  ·exact G Z h
  ·omega
 ·rw[D2]
  exact⟨λh=>by have:=aS (I _ h).1;omega,w⟩
 ·rcases CR.1 h with h | h
  ·subst h
   refine⟨P,by omega,λh=>?_,λh=>?_⟩
   ·rcases CM.1 h with h | h
    ·have:=r _ h;omega
    ·have:=q _ h;omega
   ·rcases c _ h with h | h
    ·have:=p _ h;omega
    ·omega
  ·obtain⟨y,J,K,E⟩:=I X h
   have U:=aS y
   refine⟨f.get (λh=>?_) (n.get y),J,λh=>?_,λh=>?_⟩
   ·rcases CR.1 h with h | h
    ·omega
    ·exact E h
   ·rcases CM.1 h with h | h
    ·have:=r _ h;omega
    ·exact K h
   ·rcases c _ h with h | h
    ·exact E h
    ·omega
set_option maxHeartbeats 2000000 in
theorem vk(hp:HpAt H r u)(Z:SpOK u.sp)(hr:Nums H .u64 j d v)(cH:d<=1000000)(cJ: ∀w∈v,aD w)(cG: ∀ec∈kd j,ec<H.size):
  fS.C (some ⟨r.h,0,none⟩) j d i H (λee A'=> ∃(oB:zW) (oC:Nat) (ks:List kx) (T:List Nat) (L:List Int),(∃k,L=bZ u.sp.mem v k/\L.length=k)/\ee=vs oB ks.length oC/\kV A' oB ks.length oC ks T/\ks.map AF=Bx u.sp.mem v L/\(∀ec∈T,H.size<=ec)/\(∀ec∈kd oB,H.size<=ec)/\Ext H A'/\L.length<=524288/\ ∀w∈L,aD w):=by
 refine HC.via λR hR=>fS.link ?_
 unfold fS.pt zY
 intro cY H1 cv ak
 have hb:=hp.lt
 have e1:Ext H H1:=CI ak
 have z1:H1.size=H.size+1:=by rw[ak];simp
 have g0:=aF cv ak
 refine⟨_,by rw[aI g0];rfl,HC.mono (wA (hp.ext e1) Z (hr.ext e1) cH cJ (λec p=>by have:=cG ec p;omega)) ?_⟩
 rintro _ H2 ⟨B,c,mr,L,rfl,C,hB,dG,e2⟩
 have dC:=C.len
 refine⟨B,_,c,some mr,rfl,λc7 H3 bn al=>?_⟩
 have z2:=e2.size
 have z3:H3.size=H2.size+1:=by rw[al];simp
 obtain⟨c3,s3⟩:=jP (A3:=aP H3 (Addr.mk c7 0 none) [.map (some mr)] 0) bn al [.map (some mr)] rfl
 refine⟨c3,λH4 bh cZ H5 cw am=>?_⟩
 obtain⟨g2,e4⟩:=s3 rfl
 rw[<-bh]at g2 e4
 have X:H4[c7]?=some (.cells #[.map (some mr)] 149 (0,0)):=g2
 have z4:H4.size=H3.size:=by rw[bh,bY _ _ _ _ _ (aF bn al)];simp
 have e5:Ext H4 H5:=CI am
 have z5:H5.size=H4.size+1:=by rw[am];simp
 have E4:=(e1.trans e2).trans e4
 have C4:=C.ext e4
 have b9:=(e2.trans e4).get g0
 have bs:=hp.ext E4
 have r4:=hr.ext E4
 have dI:=hr.len
 obtain⟨_,_,_,cM,_,_⟩:=C4.map
 have dN:=aS cM
 have Bl:=C4.own.lt
 have dr:=aS X
 have dq:=aS b9
 refine⟨λeb A1=> ∃(k:Nat) (U:List Nat),eb=k/\k<=v.length/\KnAt A1 cZ 0 0 0 ((v.take k).map (λw=>Az w (numOf L w))) ((v.take k).map (numOf L)) U/\Ext H4 A1/\ ∀ec∈U,H5.size<=ec,λeb _=>((d:Int)-eb).toNat,
  ⟨0,[],rfl,by omega,⟨none,0,none,0,aF cw am,gI,gI,by simp,rfl,by simp⟩,e5,by simp⟩,?_⟩
 rintro _ H6 ⟨k,U,rfl,hk,K6,e6,ao⟩
 by_cases au:(k:Int)< (d:Int)
 ·rw[qB au]
  have M:k<v.length:=by omega
  obtain⟨pa,p1,p2⟩:=(r4.ext e6).at M
  obtain⟨es,cl,ks,m1,m2,n,m3,hn⟩:=(C4.ext e6).num v[k]
  refine⟨pa,p1,⟨by omega,au⟩,_,by rw[show Int.toNat (k:Int)=k by omega];exact p2,some mr,by rw[aI (e6.get X)];rfl,mr,rfl,es,cl,ks,m1,m2,n,m3,?_⟩
  refine HC.mono (wE K6 ⟨by simp;omega,by simp;omega⟩) ?_
  rintro _ H7 ⟨U7,K7,f7,cu⟩
  have av:IntKind.wrap .i64 ((k:Int)+1)=((k+1:Nat):Int):=by rw[xT (n:=(k:Int)+1) (by omega)];omega
  rw[av]
  have z6:=e6.size
  have bo:=K6.lt cZ (by simp)
  refine⟨⟨k+1,U7,rfl,M,?_,e6.fr_trans f7 (λeb hi=>?_),λec p=>?_⟩,by show((d:Int)-((k+1:Nat):Int)).toNat< ((d:Int)-(k:Int)).toNat;omega⟩
  ·rw[Db M,C7,C7]
   rw[hn]at K7
   exact K7
  ·rcases CR.1 hi with h | h
   ·omega
   ·have:=ao eb h;omega
  ·rcases cu ec p with h | h
   ·exact ao ec h
   ·omega
 rw[za au]
 rw[De (by omega)]at K6
 obtain⟨B1,c1,B2,c2,k1,k2,k3,k4,kU,k6⟩:=K6
 have bu:(v.map (λw=>Az w (numOf L w))).length=v.length:=by simp
 have bw:(v.map (numOf L)).length=v.length:=by simp
 rw[bu]at k1 k2
 rw[bw]at k1 k3
 refine⟨_,_,_,_,_,_,_,_,_,kl k1,λds H8 cx an=>?_⟩
 have e8:Ext H6 H8:=CI an
 have z8:H8.size=H6.size+1:=by rw[an];simp
 have z6:=e6.size
 have bo:=aS k1
 obtain⟨Y,m⟩: ∃Y:kx,Y=⟨0,0,0,⟨B1,v.length,c1,v.map (λw=>Az w (numOf L w))⟩,⟨B2,v.length,c2,v.map (numOf L)⟩⟩:=⟨_,rfl⟩
 have bk: ∀ec∈U,ec<H6.size:=λec p=>by
  subst kU
  rcases CM.1 p with h | h
  ·exact k2.lt ec h
  ·exact k3.lt ec h
 have O8:kV H8 (some (Addr.mk ds 0 none)) 1 1 [Y] U:=by
  refine⟨rfl,?_,λk' bq=>?_,λec p h=>?_,λec p=>by have:=bk ec p;omega⟩
  ·have e:[Y].flatMap kx.cells=Y.cells:=by simp
   rw[e,m]
   refine⟨rfl,_,aF cx an,rfl,CU _,rfl,λec p=>?_⟩
   rw[List.getElem?_toArray]
  ·simp at bq
   rw[bq,m]
   subst kU
   exact⟨bu,k2.ext e8,bw,k3.ext e8,λec p=>p⟩
  ·have:=bk ec p;simp at h;omega
 refine⟨uq u.sp.mem v L H4,λ_ _ _ s _ _=>((L.length:Int)-s).toNat,⟨0,[Y],U,rfl,by omega,rfl,O8,by rw[m];rfl,e6.trans e8,λec p=>by have:=ao ec p;omega,λec p=>by simp at p;omega,Ew,by simp⟩,?_⟩
 rintro oB oN oC _ ms H9 ⟨k,ks,T,rfl,dF,cB,O,ap,e9,hT,ba,br,hD⟩
 by_cases a1:(k:Int)< (L.length:Int)
 case neg=>
  rw[za a1]
  rw[De (by omega)]at ap
  refine oe ms H9 br (λD h=>(hD D h).1) (λA2 f2=>?_)
  have hl:=O.len
  rw[hl]
  rw[hl]at O
  exact hR _ _ ⟨oB,oC,ks,T,L,C.all,rfl,O.keep f2 (λec p h=>(hD ec h).2.2.2 p) (λec p h=>(hD ec h).2.2.1 p),ap,λec p=>by have:=hT ec p;have:=E4.size;omega,λec p=>by have:=ba ec p;have:=E4.size;omega,(E4.trans e9).fr_trans f2 (λeb hi=>by have:=(hD eb hi).2.1;have:=E4.size;omega),C.len,λw hw=>(C.pos w hw).2⟩
 rw[qB a1]
 have M:k<L.length:=by omega
 have o:=(C.pos _ (CS M)).2
 obtain⟨pa,p1,p2⟩:=mb (C4.own.ext e9).src M
 have z9:=e9.size
 refine⟨pa,p1,⟨by omega,a1⟩,L[k],by rw[show Int.toNat (k:Int)=k by omega];exact p2,λbz bK cy bc=>?_⟩
 obtain⟨c9,cP⟩:=jP (A3:=aP bK (Addr.mk bz 0 none) [vu L[k]] 0) cy bc [vu L[k]] rfl
 refine⟨c9,λl bd=>?_⟩
 obtain⟨g5,G⟩:=cP rfl
 rw[<-bd]at g5 G
 have z:l[bz]?=some (.cells #[vu L[k]] 28 (0,0)):=g5
 have dR:=G.size
 have dt:=aS z
 have t:=e9.trans G
 have h0:=t.get b9
 have q: ∀{Hx:zV},Ext l Hx->HpAt Hx r u:=λe=>bs.ext (t.trans e)
 have g: ∀{Hx:zV},Ext l Hx->aL Hx (Addr.mk cY 0 none) 0 [vp (some ⟨r.h,0,none⟩)]:=λe=>kl (e.get h0)
 have b: ∀{Hx:zV},Ext l Hx->aL Hx (Addr.mk bz 0 none) 0 [vu L[k]]:=λe=>kl (e.get z)
 have hm:yP (some (r,u))=u.sp.mem:=rfl
 have av:IntKind.wrap .i64 ((k:Int)+1)=((k+1:Nat):Int):=by rw[xT (n:=(k:Int)+1) (by omega)];omega
 have bp:((L.length:Int)-((k+1:Nat):Int)).toNat< ((L.length:Int)-(k:Int)).toNat:=by omega
 have ct:=O.lt
 have cs:=O.own.lt
 have hd: ∀nb:Nat,l.size<=nb-> ∀ec,(ec∈r.all\/ec=cY\/ec=bz\/ec=c7\/ec=mr\/ec∈kd B\/ec∈T\/ec∈kd oB)->ec<nb:=λnb hn ec p=>by
  rcases p with h | h | h | h | h | h | h | h
  ·have:=bs.lt ec h;omega
  ·omega
  ·omega
  ·omega
  ·omega
  ·have:=Bl ec h;omega
  ·have:=ct ec h;omega
  ·have:=cs ec h;omega
 refine⟨L[k],by rw[aI z];rfl,_,by rw[aI h0];rfl,L[k],by rw[aI z];rfl,_,by rw[aI h0];rfl,L[k],by rw[aI z];rfl,?_⟩
 rw[av]
 have a3: ∀{S K A':zV} {nb:Nat} {ef:zW} {V:Nat} {Y:kx} {U':List Nat},Ext l S->l.size<=nb->K.size=S.size+2->kV A' ef (oN+1) V (ks++[Y]) (U'++T)->AF Y=om u.sp.mem L L[k]->A'[K.size]?=some (.deferred (some []))->Fr (nb::kd oB) S A'->(∀ec∈U',S.size+4<=ec)->(∀ec∈kd ef,ec∈kd oB\/S.size+4<=ec)->
   uq u.sp.mem v L H4 ef (oN+1) V ((k+1:Nat):Int) (K.size::ms) A'/\((L.length:Int)-((k+1:Nat):Int)).toNat< ((L.length:Int)-(k:Int)).toNat:=λa dH A hO m F f hU E=>
  ⟨wH M cB O ap e9 hT ba br hD (G.trans a) (by omega) A hO m F f hU E,bp⟩
 refine⟨?_,?_⟩
 ·refine HC.mono (fZ o) ?_
  rintro _ bM ⟨rfl,I⟩
  have dS:=I.size
  refine⟨_,rfl,g I,b I,g I,b I,?_,?_⟩
  ·refine HC.mono (jN (.real (q I) Z) o) ?_
   rw[hm]
   rintro _ bN ⟨rfl,J⟩
   have J:=I.trans J
   have dT:=J.size
   refine⟨_,rfl,g J,b J,?_,?_⟩
   ·refine HC.mono (mv (.real (q J) Z) o) ?_
    rw[hm]
    rintro _ dd ⟨rfl,a2⟩
    have a2:=J.trans a2
    have dU:=a2.size
    refine⟨_,rfl,λc8 bO cz be=>?_⟩
    obtain⟨cc,cQ⟩:=jP (A3:=aP bO (Addr.mk c8 0 none) [vi (L[k] % 8),vi (u.sp.mem.typ L[k]),vu (u.sp.mem.more L[k]),VN,VN] 0) cz be [vi (L[k] % 8),vi (u.sp.mem.typ L[k]),vu (u.sp.mem.more L[k]),VN,VN] rfl
    refine⟨cc,λS bf=>?_⟩
    obtain⟨g6,a⟩:=cQ rfl
    rw[<-bf]at g6 a
    have a:=a2.trans a
    refine oq (q a) Z (a.get h0) (a.get z) ((t.trans a).get X) (C4.ext (t.trans a)) o g6 (O.ext (G.trans a)) (by omega) (hd c8 (by omega)) (λef V K A' Y U' A hO m F f hU E=>a3 a (show l.size<=c8 by omega) A hO m F f hU E)
   ·intro b8 bS cA ab
    have ci:Ext bN bS:=CI ab
    have cp:=aF cA ab
    have N:=J.trans ci
    refine⟨g N,b N,HC.mono (mv (.real (q N) Z) o) ?_⟩
    rw[hm]
    rintro _ df ⟨rfl,b2⟩
    obtain⟨cd,cT⟩:=ko (n:=5) (vs:=[vi (L[k] % 8),vi (u.sp.mem.typ L[k]),vu (u.sp.mem.more L[k]),VN,VN]) (b2.get cp) rfl rfl
    refine⟨_,rfl,cd,λaU bg=>?_⟩
    obtain⟨g6,cm⟩:=cT aU bg
    have a:Ext l aU:=(N.trans b2).fr_trans cm (λeb hi=>by simp at hi;omega)
    refine oq (q a) Z (a.get h0) (a.get z) ((t.trans a).get X) (C4.ext (t.trans a)) o g6 (O.ext (G.trans a)) (by omega) (hd b8 (by omega)) (λef V K A' Y U' A hO m F f hU E=>a3 a (show l.size<=b8 by omega) A hO m F f hU E)
  ·intro b0 bX bl ac
   have cj:Ext bM bX:=CI ac
   have cq:=aF bl ac
   have x:=I.trans cj
   refine⟨g x,b x,g x,b x,HC.mono (jN (.real (q x) Z) o) ?_⟩
   rw[hm]
   rintro _ dh ⟨rfl,b3⟩
   have P:=x.trans b3
   refine⟨_,rfl,g P,b P,HC.mono (mv (.real (q P) Z) o) ?_⟩
   rw[hm]
   rintro _ di ⟨rfl,b4⟩
   obtain⟨ce,cU⟩:=ko (n:=5) (vs:=[vi (L[k] % 8),vi (u.sp.mem.typ L[k]),vu (u.sp.mem.more L[k]),VN,VN]) ((b3.trans b4).get cq) rfl rfl
   refine⟨_,rfl,ce,λaV bi=>?_⟩
   obtain⟨g6,cn⟩:=cU aV bi
   have a:Ext l aV:=(P.trans b4).fr_trans cn (λeb hi=>by simp at hi;omega)
   refine oq (q a) Z (a.get h0) (a.get z) ((t.trans a).get X) (C4.ext (t.trans a)) o g6 (O.ext (G.trans a)) (by omega) (hd b0 (by omega)) (λef V K A' Y U' A hO m F f hU E=>a3 a (show l.size<=b0 by omega) A hO m F f hU E)
 ·intro b1 c6 bm ae
  have W:Ext l c6:=CI ae
  have cr:=aF bm ae
  refine⟨b W,g W,b W,g W,b W,HC.mono (fZ o) ?_⟩
  rintro _ dj ⟨rfl,b5⟩
  have y:=W.trans b5
  refine⟨_,rfl,g y,b y,g y,b y,HC.mono (jN (.real (q y) Z) o) ?_⟩
  rw[hm]
  rintro _ dk ⟨rfl,b6⟩
  have Q:=y.trans b6
  refine⟨_,rfl,g Q,b Q,HC.mono (mv (.real (q Q) Z) o) ?_⟩
  rw[hm]
  rintro _ dl ⟨rfl,b7⟩
  obtain⟨cf,cV⟩:=ko (n:=5) (vs:=[vi (L[k] % 8),vi (u.sp.mem.typ L[k]),vu (u.sp.mem.more L[k]),VN,VN]) (((b5.trans b6).trans b7).get cr) rfl rfl
  refine⟨_,rfl,cf,λaW bj=>?_⟩
  obtain⟨g6,co⟩:=cV aW bj
  have a:Ext l aW:=(Q.trans b7).fr_trans co (λeb hi=>by simp at hi;omega)
  refine oq (q a) Z (a.get h0) (a.get z) ((t.trans a).get X) (C4.ext (t.trans a)) o g6 (O.ext (G.trans a)) (by omega) (hd b1 (by omega)) (λef V K A' Y U' A hO m F f hU E=>a3 a (show l.size<=b1 by omega) A hO m F f hU E)
theorem vl{m:zW}{roots:List Int}(y:HpAt H r u)(A:SpOK u.sp)(z:Nums H .u64 m d roots)(g:d<=1000000)(l: ∀w∈roots,aD w)(f: ∀j∈kd m,j<H.size):
  fS.C (some ⟨r.h,0,none⟩) m d i H (λv e=> ∃(b:zW) (c:Nat) (a:List kx) (T:List Nat) (L:List Int),(∃k,L=bZ u.sp.mem roots k/\L.length=k)/\v=vs b a.length c/\kV e b a.length c a T/\a.map AF=Bx u.sp.mem roots L/\(∀j∈T,H.size<=j)/\(∀j∈kd b,H.size<=j)/\Ext H e):=
 HC.mono (vk y A z g l f) (by
  rintro v e ⟨b,c,a,T,L,n,o,p,q,s,t,x,_⟩
  exact⟨b,c,a,T,L,n,o,p,q,s,t,x⟩)
end Go.Proofs.YtfhbhckhmnleoaaGreat
namespace Go.Proofs.YtfhbhckhmnleoaaGreat
open Go
variable{H:zV}
def Cb:Sp:=⟨Mem.fresh 8,λ_ _=>0⟩
def BR:Sp:=(Cb.put 0 1 [8,20]).1
def zM:Sp:=(BR.put 1 2 [1,20]).1
def Ag:Mem:=zM.mem.set 0 17
theorem Cg:(Cb.put 0 1 [8,20]).2=(1,0):=by kernel_rfl
theorem Cs:(BR.put 1 2 [1,20]).2=(514,0):=by kernel_rfl
theorem yp:BR.mem.count=1:=by kernel_rfl
theorem Bw:zM.mem.takenTo [] zM.mem.limit=[0,1]:=by kernel_rfl
theorem wI:bF zM.mem [0,1]=[(1,2),(514,2)]:=by kernel_rfl
theorem yr:(List.range 8).all (λk:Nat=>(List.range 4).all λc:Nat=>decide ((zM.mem.seg k).cards c<=zM.mem.mark1 k c))=true:=by kernel_rfl
theorem yt:AZ zM.mem [1,514] [1,514] [1,514]=(0,0):=by kernel_rfl
theorem uM:bZ zM.mem [514] 1=[514]:=by kernel_rfl
theorem yf:(om zM.mem [514] 514).2.2.2.2=[-1,0]:=by kernel_rfl
theorem xI:decide (zM.mem.used 0)=true:=by kernel_rfl
theorem wJ:Ag.takenTo [] Ag.limit=[0,1]:=by kernel_rfl
theorem ur:bF Ag [0,1]=[(1,2),(514,2)]:=by kernel_rfl
theorem yg:(List.range 8).all (λk:Nat=>(List.range 4).all λc:Nat=>decide ((Ag.seg k).cards c<=Ag.mark1 k c))=true:=by kernel_rfl
theorem yh:AZ Ag [1,514] [1,514] []=(0,18):=by kernel_rfl
theorem tG:bZ Ag [514] 1=[514]:=by kernel_rfl
theorem wK:kH Ag [514]=2:=by kernel_rfl
theorem wL:zM.mem.limit=8:=by kernel_rfl
theorem pd:(zM.mem.seg 0).taken=1/\(zM.mem.seg 1).taken=2:=⟨by kernel_rfl,by kernel_rfl⟩
theorem rF:(Ag.seg 0).taken=1/\(Ag.seg 1).taken=2:=⟨by kernel_rfl,by kernel_rfl⟩
theorem lf{m:Mem}{l:List Nat}(h:dA m [] l)(o:m.takenTo [] m.limit=[0,1])(j:(m.seg 0).taken=1)(k:(m.seg 1).taken=2):l=[0,1]:=by
 have d:=h.perm
 rw[o]at d
 have n:=d.length_eq
 match l,n with
 | [a,b],_=>
  have i:=h.sorted
  rw[List.pairwise_cons]at i
  have e:=i.1 b (by simp)
  have g:a∈[0,1]:=d.subset (by simp)
  have f:b∈[0,1]:=d.subset (by simp)
  have c:=d.nodup_iff.2 (by decide)
  simp at g f c
  rcases g with rfl | rfl
  ·rcases f with rfl | rfl
   ·exact absurd rfl c
   ·rfl
  ·rcases f with rfl | rfl
   ·rw[j,k]at e;omega
   ·exact absurd rfl c
theorem tH{m:Mem}(e:m.limit=8)(h:(List.range 8).all (λk:Nat=>(List.range 4).all λc:Nat=>decide ((m.seg k).cards c<=m.mark1 k c))=true): ∀k:Nat,m.has k-> ∀c:Nat,c<4->(m.seg k).cards c<=m.mark1 k c:=by
 intro k hk c d
 have a:k<8:=by have:=hk.2.1;omega
 rw[EE]at h
 have b:=h k (Dc.2 a)
 rw[EE]at b
 exact Eo (b c (Dc.2 d))
open Go.ChangeShapes Go.WideShapes
theorem qD{b:Blk}{s:Sp}{ep:Int}:oM H b ⟨s,VN,VN,ep⟩ [] []:=
 ⟨⟨none,0,rfl,by rw[DF];rfl⟩,⟨none,0,rfl,λi h=>absurd h (by simp)⟩,by simp⟩
theorem rG{n:Int}(h:aD n):(Lit.int .u64 n).wf=true:=by
 simp only[Lit.wf,CZ,CN]
 obtain⟨a,b⟩:=h
 constructor
 ·exact a
 ·show n<=18446744073709551615;omega
theorem tI{b:Nat}{ws:List Int}(g:H[b]?=some (.cells (yE ws).toArray 28 (0,0)))(c: ∀w∈ws,aD w):Nums H .u64 (some ⟨b,0,none⟩) ws.length ws:=
 ⟨rfl,(show aL H ⟨b,0,none⟩ 0 (yE ws)from kl g),λw a=>by
  have:=c w a
  exact rG this⟩
set_option maxRecDepth 100000 in
set_option maxHeartbeats 1000000 in
theorem oQ:bI.C H (λv H'=>v=VT/\Ext H H'):=by
 refine HC.via λR hR=>bI.link ?_
 unfold bI.pt
 refine HC.mono (rf (limit:=8) (by decide)) ?_
 rintro _ H1 (⟨hc,rfl,e1⟩ | ⟨hc,b,x0,rfl,V1,hx,e1,Y⟩)
 ·exact absurd (by decide) hc
 refine⟨_,_,rfl,?_⟩
 rw[qB rfl,CK]
 subst hx
 have al:View H1 (some ⟨b.h,0,none⟩) (some (b,⟨Cb,VN,VN,0⟩)):=V1
 clear V1
 refine HC.mono (pV al (by decide) (by decide) (show(0:Int)<_ by decide)) ?_
 rintro _ H2 ⟨rfl,V2,f2⟩
 refine⟨1,0,by rw[show zH (some (b,(⟨Cb,VN,VN,0⟩:Hp))) 0 1 [8,20]=(1,0)from Cg],?_⟩
 have am:View H2 (some ⟨b.h,0,none⟩) (some (b,⟨BR,VN,VN,0⟩)):=V2
 clear V2
 refine HC.mono (pW am (by decide) (by decide) (show BR.mem.count<_ by rw[yp];decide)) ?_
 rintro _ H3 ⟨rfl,V3,f3⟩
 refine⟨514,0,by rw[show zH (some (b,(⟨BR,VN,VN,0⟩:Hp))) 1 2 [1,20]=(514,0)from Cs],?_⟩
 have an:View H3 (some ⟨b.h,0,none⟩) (some (b,⟨zM,VN,VN,0⟩)):=V3
 clear V3
 obtain⟨-,d,r⟩:=an.inv
 have Ax: ∀x:Hp,∀j∈own (some (b,x)),H.size<=j:=λx j g=>Y j (by simp[own]at g;simp[Blk.all];omega)
 have E3:Ext H H3:=(e1.fr_trans f2 (Ax _)).fr_trans f3 (Ax _)
 have bh:zM.mem.limit=8:=wL
 have b0: ∀l,dA zM.mem [] l-> ∀p∈bF zM.mem l,p.2≠0:=λl hl p M=>by
  rw[lf hl Bw pd.1 pd.2,wI]at M
  simp at M
  rcases M with rfl | rfl<;>decide
 have aU:=tH wL yr
 have a0:(bF zM.mem [0,1]).map Prod.fst=[1,514]:=by rw[wI];rfl
 have ac:zm (bF zM.mem [0,1])=[1,514]:=by rw[wI];rfl
 refine HC.mono (tt d r d.lt) ?_
 rintro _ H4 ⟨B,c,l,hl,rfl,a8,ao,e4⟩
 obtain rfl:=lf hl Bw pd.1 pd.2
 rw[show(⟨zM,VN,VN,0⟩:Hp).sp.mem=zM.mem from rfl,ac]at a8⊢
 refine⟨B,_,c,rfl,λb5 H5 av W=>?_⟩
 have e5:Ext H4 H5:=CI W
 have U:=e4.trans e5
 refine HC.mono (si (roots:=[1,514]) (syms:=[]) (es:=[]) (d.ext U) r qD (show aL H5 ⟨b5,0,none⟩ 0 (yE [1,514])from kl (aF av W)) rfl (by decide) (by intro w a;simp[gG]at a;rcases a with rfl | rfl<;>decide) b0 aU) ?_
 rintro _ H6 ⟨l1,l2,I,J,rfl,e6⟩
 obtain rfl:=lf I Bw pd.1 pd.2
 obtain rfl:=lf J Bw pd.1 pd.2
 rw[show(⟨zM,VN,VN,0⟩:Hp).sp.mem=zM.mem from rfl,ac,a0,show gG [1,514] [] []=[1,514]from rfl,yt]
 refine⟨0,0,rfl,λb7 H7 aw D=>?_⟩
 have e7:Ext H6 H7:=CI D
 have A:=U.trans (e6.trans e7)
 have z7:H7.size=H6.size+1:=by rw[D];simp
 refine HC.mono (vl (roots:=[514]) (d.ext A) r (tI (ws:=[514]) (aF aw D) (by intro w a;simp at a;subst a;decide)) (by decide) (by intro w a;simp at a;subst a;decide) (λj g=>by simp at g;omega)) ?_
 rintro _ H8 ⟨oB,oC,ks,T,L,⟨k,hL,hk⟩,rfl,O,G,hT,aV,e8⟩
 have ap:L=[514]:=by
  rw[hL]
  have:=qw zM.mem [514] (j:=k) (k:=1) (by rw[show bZ zM.mem [514] k=L from hL.symm];omega) (by rw[uM];simp)
  exact this.trans uM
 subst ap
 have V:=A.trans e8
 have q:=d.ext V
 refine⟨oB,_,oC,rfl,_,q.hPtr,_,rfl,_,q.cd.cPtr,_,rfl,_,q.cd.sp.memPtr,?_⟩
 refine HC.mono (iQ q.cd.sp.mem r.mem (by decide)) ?_
 have hu:zM.mem.used 0:=Eo xI
 have ab:(⟨zM,VN,VN,0⟩:Hp).sp.mem.used 0:=hu
 rw[qB ab,qB ab]
 rintro _ H9 ⟨rfl,M9,f9⟩
 have a9:HpAt H9 b ⟨⟨Ag,zM.cur⟩,VN,VN,0⟩:=q.withMem f9 (λi hi=>by simp at hi;exact .inr hi) M9
 have af:SpOK (⟨Ag,zM.cur⟩:Sp):=by
  have:=SpOK.sets r 0 (ws:=[17]) (by intro w a;simp at a;subst a;decide)
  have e:zM.mem.sets 0 [17]=Ag:=by
   show(if zM.mem.used 0 then zM.mem.set 0 17 else zM.mem)=Ag
   rw[qB hu];rfl
  rw[show(⟨zM,VN,VN,0⟩:Hp).sp.mem=zM.mem from rfl,e]at this
  exact this
 have aa: ∀l,dA Ag [] l-> ∀p∈bF Ag l,p.2≠0:=λl hl p M=>by
  rw[lf hl wJ rF.1 rF.2,ur]at M
  simp at M
  rcases M with rfl | rfl<;>decide
 have a5:=tH (m:=Ag) wL yg
 have F:(bF Ag [0,1]).map Prod.fst=[1,514]:=by rw[ur];rfl
 have ae:zm (bF Ag [0,1])=[1,514]:=by rw[ur];rfl
 refine⟨0,rfl,?_⟩
 refine HC.mono (si (roots:=[]) (syms:=[]) (es:=[]) a9 af qD (by rw[DF];rfl) rfl (by decide) (by intro w a;simp[gG]at a) aa a5) ?_
 rintro _ P ⟨l1,l2,I,J,rfl,t⟩
 obtain rfl:=lf I wJ rF.1 rF.2
 obtain rfl:=lf J wJ rF.1 rF.2
 rw[show(⟨⟨Ag,zM.cur⟩,VN,VN,0⟩:Hp).sp.mem=Ag from rfl,ae,F,show gG [] [] []=[]from rfl,yh]
 refine⟨0,18,rfl,?_⟩
 have bX:b.s<H3.size:=d.lt b.s (by simp[Blk.all])
 have cc:=A.size
 have o:=((a8.ext ((e5.trans (e6.trans e7)).trans e8)).keep f9 (λj g h=>by simp at h;have:=ao j g;omega)).ext t
 rw[qB rfl]
 obtain⟨pa,p1,p2⟩:=mb o.src (i:=0) (by simp)
 obtain⟨c8,ag,b1⟩:=mb o.src (i:=1) (by simp)
 rw[p1]at ag
 cases ag
 refine⟨pa,p1,⟨by decide,by decide⟩,1,p2,?_⟩
 rw[qB rfl]
 refine⟨⟨by decide,by decide⟩,514,b1,?_⟩
 rw[qB rfl,qB rfl]
 intro bw Q Z f
 have y:Ext P Q:=CI f
 have c9:Q.size=P.size+1:=by rw[f];simp
 refine HC.mono (wD (roots:=[514]) (a9.ext (t.trans y)) af (tI (ws:=[514]) (aF Z f) (by intro w a;simp at a;subst a;decide)) (by decide) (by intro w a;simp at a;subst a;decide) (λj g=>by simp at g;omega)) ?_
 rintro _ aj ⟨L3,⟨k3,X,bO⟩,rfl,S⟩
 have au:L3=[514]:=by
  rw[X]
  have:=qw Ag [514] (j:=k3) (k:=1) (by rw[show bZ Ag [514] k3=L3 from X.symm];omega) (by rw[tG];simp)
  exact this.trans tG
 subst au
 refine⟨2,by rw[show(⟨⟨Ag,zM.cur⟩,VN,VN,0⟩:Hp).sp.mem=Ag from rfl,wK],?_⟩
 rw[qB rfl]
 have az:ks.length=2:=by
  have:=CJ List.length G
  simp[Bx]at this
  exact this
 match ks,az with
 | [k0,k1],_=>
 rw[qB (show(([k0,k1].length:Nat):Int)=2 from rfl)]
 have u:=((O.keep f9 (λj g h=>by simp at h;have:=aV j g;omega) (λj g h=>by simp at h;have:=hT j g;omega)).ext (t.trans (y.trans S)))
 have a3:AF k1=om zM.mem [514] 514:=by
  simp only[Bx,List.map_cons,List.map_nil,D8]at G
  exact G.2.1
 have a2:k1.is.xs=[-1,0]:=by
  have:=CJ (λz=>z.2.2.2.2) a3
  exact this.trans yf
 obtain⟨-,-,h3,h4,-⟩:=u.each k1 (by simp)
 have a6:k1.is.n=2:=by rw[<-h3,a2];rfl
 have E:([k0,k1].flatMap kx.cells)[9]?=some (vs k1.is.p k1.is.n k1.is.c):=rfl
 obtain⟨oa,a7,K⟩:=u.own.at E
 have aW:oa=⟨oa.block,0,none⟩:=by
  have:=u.own
  rw[a7]at this
  exact this.1
 have N:hat aj ((oa.add (Int.toNat 1*5)).add 4)=some (vs k1.is.p k1.is.n k1.is.c):=by
  rw[aW]at K⊢
  rw[CH]at K
  rw[CH,CH]
  exact K
 rw[a2]at h4
 obtain⟨ia,ax,ay⟩:=nY h4.src (i:=0) (by simp)
 refine⟨oa,a7,⟨by decide,by simp⟩,_,_,_,N,?_⟩
 rw[a6,qB (show((2:Nat):Int)=2 from rfl)]
 refine⟨⟨by decide,by simp⟩,_,_,_,by rw[a6]at N;exact N,ia,ax,⟨by decide,by decide⟩,-1,by exact ay,hR _ _ ⟨rfl,?_⟩⟩
 have E8:=E3.trans V
 exact((E8.fr_trans f9 (λi hi=>by simp at hi;rw[hi];exact Y _ (by simp[Blk.all]))).trans t).trans (y.trans S)
