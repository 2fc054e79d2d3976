/-
 Heaps that audits find sound: what collections keep; the list of things; marks; faults. Proves nothing of any one statement.
-/
import Derived.Test.YtfhbhckhmnleoaaGreatGcJ
import Derived.Test.YtfhbhckhmnleoaaGreatAuT
import Derived.Test.YtfhbhckhmnleoaaGreatWord
import Derived.Test.YtfhbhckhmnleoaaGreatColS
set_option linter.unusedVariables false
set_option linter.unusedSimpArgs false
set_option maxRecDepth 100000
namespace Go.Proofs.YtfhbhckhmnleoaaGreat
open Go
theorem nW{O:Nat->Bool}{fw:Int->Option Int}{v:Int}(h:FW v):FW (Fw O fw v):=by
 unfold Fw
 by_cases a:aO O v
 ·rw[qB a]
  have:=a.1.1
  have:=a.2.1
  cases fw (v / 8)with
  | none=>exact h
  | some b=>exact .inr (.inr (by unfold bE;show(b*8+v % 8) % 8=1\/(b*8+v % 8) % 8=2\/(b*8+v % 8) % 8=3;omega))
 ·rw[za a];exact h
section
variable {Z:TZ} {g F0:Int} {fw:Int->Option Int} {al:List Int} {s:Sp} {sz:Int->Nat}
theorem gt.snd{M:Tr}{L:Sp}{m:Mem}(t:gt Z g F0 fw al sz M s L m)(h:Ba Z.m Z.sz):Ba m (zF Z.O sz):=by
 have S:=t.S
 refine⟨λx I=>?_,λb i j c C B=>?_⟩
 ·obtain⟨z,H⟩:=t.used.1 I
  rcases t.tri.cover x z with q | ⟨a,b,i,j,c,rfl⟩ | ⟨p,l,A⟩
  ·obtain⟨a,i,u,c,rfl⟩:=h.cover x q
   have v:=S.sound.usedAt u c (λk=>(S.ok.seg k).n.2)
   have e:zF Z.O sz a=Z.sz a:=by
    unfold zF
    rw[za (by rw[<-v.2.1,H];decide),t.tri.sz0 _ (S.sound.used a u).1]
   exact⟨a,i,by rw[e];exact u,by rw[e];exact c,rfl⟩
  ·obtain⟨o,J⟩:=t.tri.img a b j
   have y:=(t.tri.olds.mem a ((t.tri.al a).2 ⟨b,j⟩)).1
   have e:zF Z.O sz b=Z.sz a:=by
    unfold zF
    rw[za (by rw[J.out];decide),o]
   exact⟨b,i,by rw[e];exact y,by rw[e];exact c,rfl⟩
  ·have d:=(t.pair l).1
   rcases A with rfl | rfl
   ·exact⟨x,0,by rw[d];decide,by rw[d];decide,by simp⟩
   ·exact⟨p,1,by rw[d];decide,by rw[d];decide,rfl⟩
 ·cases f:Z.q (b+i)with
  | some w=>
   have W:=t.tri.qok _ w f
   have G:m.get (b+i)=w:=by
    rcases t.get (.inl f:Was Z fw (b+i) w)with⟨K,_⟩ | ⟨_,q,P⟩
    ·rw[K,za W.strong.1,jv W.young]
    ·have:=W.strong.2.resolve_left (λr=>r q);omega
   rw[G]
   rcases W.tagged with r | r
   ·exact .inr (.inr r)
   ·rw[r];exact .inr (.inl ⟨by decide,by decide⟩)
  | none=>
   rcases t.thing j with l | ⟨a,E,o,hk,_,F,_,_⟩
   ·have N:=(t.tri.pair b l).q
    have d:=(t.pair l).1
    rw[d]at c
    rcases(show i=0\/i=1 by omega)with rfl | rfl
    ·exact absurd (by simpa using f) N.1
    ·exact absurd f N.2
   rw[o]at c
   rw[hk]at C B
   have D:=h.fine a i E c C B
   rcases t.get (.inr ⟨f,(F i c).2.1⟩:Was Z fw _ _)with⟨q,_⟩ | ⟨q,_⟩
   ·rw[q]
    split
    ·exact D
    ·exact nW D
   ·rw[q];exact .inr (.inl ⟨by decide,by decide⟩)
end
section
variable {s:Sp} {sz:Int->Nat}
def zi(m:Mem)(a:Int):Int:=a*8+yE (m.kAt a)
theorem v7(k:Int):yE k=1\/yE k=2\/yE k=3:=by
 unfold yE
 split
 ·exact .inl rfl
 split
 ·exact .inr (.inl rfl)
 ·exact .inr (.inr rfl)
theorem v8(I:Inv s sz){a:Int}(h:sz a≠0):aD (zi s.mem a)/\Good s.mem sz (zi s.mem a)/\bE (zi s.mem a)/\zi s.mem a / 8=a/\s.mem.sizeOf (zi s.mem a)=sz a:=by
 have j:=I.sound.lt I.ok.mem h
 have i:=v7 (s.mem.kAt a)
 have b:zi s.mem a / 8=a:=by unfold zi;omega
 have c:zi s.mem a % 8=yE (s.mem.kAt a):=by unfold zi;omega
 have f:aD (zi s.mem a):=by unfold zi;constructor<;>omega
 have d:bE (zi s.mem a):=by unfold bE;rw[c];exact i
 have e:Good s.mem sz (zi s.mem a):=⟨by rw[c];omega,λ_=>by rw[b,c];exact⟨h,rfl⟩⟩
 refine⟨f,e,d,b,?_⟩
 rw[I.sound.size I.ok.mem f e d,b]
theorem t8{m:Mem}{v:Int}(c:Good m sz v)(d:bE v):v=zi m (v / 8):=by
 obtain⟨_,b⟩:=c.2 d
 have a:v % 8=yE (m.kAt (v / 8)):=b
 unfold zi
 rw[<-a];omega
theorem tc(I:Inv s sz)(x:Ba s.mem sz){k:Nat}(hk:s.mem.has k): ∀(f:Nat) (b:Int),0<=b->(s.mem.seg k).n-b<=f->(∀a,sz a≠0->a / 64=k->a<k*64+b->a+sz a<=k*64+b)->
  (∀p∈kL s.mem k b f,∃a,sz a≠0/\p.1=zi s.mem a/\p.2=(sz a:Int))/\ ∀a,sz a≠0->a / 64=k->k*64+b<=a->zi s.mem a∈(kL s.mem k b f).map Prod.fst
 | 0,b,h0,hf,hb=>by
  refine⟨λp l=>by simp[kL]at l,λa d h o=>?_⟩
  obtain⟨G,w⟩:=I.sound.used a d
  rw[show(a / 64).toNat=k by omega]at w
  omega
 | f+1,b,h0,hf,hb=>by
  unfold kL
  rw[Int.toNat_natCast]
  by_cases r:b< (s.mem.seg k).n
  case neg=>
   rw[za r]
   refine⟨λp l=>by simp at l,λa d h o=>?_⟩
   obtain⟨G,w⟩:=I.sound.used a d
   rw[show(a / 64).toNat=k by omega]at w
   omega
  rw[qB r]
  have hn:=(I.ok.mem.seg k).n
  have D:s.mem.used ((k:Int)*64+b):=⟨by omega,by rw[show((k:Int)*64+b) / 64=k by omega];exact hk,by rw[show((k:Int)*64+b) / 64=k by omega,Int.toNat_natCast];omega⟩
  obtain⟨a,i,d,A,z⟩:=x.cover _ D
  have t:=I.sound.usedAt d A (λk=>(I.ok.mem.seg k).n.2)
  have h:a / 64=k:=by rw[<-t.2.1,<-z];omega
  have B:i=0:=by
   have:=hb a d h
   omega
  have u:(k:Int)*64+b=a:=by omega
  have v:(s.mem.seg k).kind=s.mem.kAt a:=by unfold Mem.kAt;rw[h,Int.toNat_natCast]
  obtain⟨J,K,L,M,H⟩:=v8 I d
  have C:((k:Int)*64+b)*8+yE (s.mem.seg k).kind=zi s.mem a:=by unfold zi;rw[u,v]
  rw[C,H,za (by omega)]
  obtain⟨E,F⟩:=tc I x hk f (b+sz a) (by omega) (by omega) (λc m j y=>by
   rcases Int.lt_or_le c a with q | q
   ·have:=hb c m j (by omega);omega
   ·by_cases e:c=a
    ·subst e;omega
    ·have:=I.sound.apart a c d m (by omega);omega)
  refine⟨λp l=>?_,λc m j o=>?_⟩
  ·rcases List.mem_cons.1 l with rfl | l
   ·exact⟨a,d,rfl,rfl⟩
   ·exact E p l
  ·by_cases e:c=a
   ·subst e;exact List.mem_map.2 ⟨_,List.mem_cons_self ..,rfl⟩
   ·have:=I.sound.apart a c d m (by omega)
    rw[List.map_cons]
    exact List.mem_cons_of_mem _ (F c m j (by omega))
theorem ny(I:Inv s sz)(m:Ba s.mem sz){l:List Nat}(h:cY s.mem [] l):
  (∀p∈bF s.mem l,∃a,sz a≠0/\p.1=zi s.mem a/\p.2=(sz a:Int))/\ ∀a,sz a≠0->zi s.mem a∈(bF s.mem l).map Prod.fst:=by
 have d: ∀k∈l,_:=λk hk=>tc I m (h.has hk).1 64 0 (Int.le_refl _) (by have:=(I.ok.mem.seg k).n;omega) (λa f o q=>by omega)
 refine⟨λp b=>?_,λa f=>?_⟩
 ·unfold bF at b
  obtain⟨k,hk,b⟩:=List.mem_flatMap.1 b
  exact(d k hk).1 p b
 ·obtain⟨i,r⟩:=I.sound.used a f
  have c:=h.all I.ok.mem i.2.1
  have j:=i.1
  obtain⟨p,b,e⟩:=List.mem_map.1 ((d _ c).2 a f (by omega) (by omega))
  exact List.mem_map.2 ⟨p,by unfold bF;exact List.mem_flatMap.2 ⟨_,c,b⟩,e⟩
theorem wa(I:Inv s sz): ∀k:Nat,s.mem.has k-> ∀c:Nat,c<4->(s.mem.seg k).cards c<=s.mem.mark1 k c:=by
 intro k hk c j
 have key: ∀n,n<=s.mem.cardLen k c->(s.mem.seg k).cards c<=s.mem.markOf k c n:=by
  intro n
  induction n with
  | zero=>intro _;exact((I.ok.mem.seg k).cards c).2
  | succ n b=>
   intro hn
   have b:=b (by omega)
   rw[Mem.markOf_succ]
   unfold Mem.younger
   rw[Int.toNat_natCast]
   split
   ·rename_i h
    obtain⟨d,e,f⟩:=h
    unfold Mem.cardLen at hn
    rw[Int.toNat_natCast]at hn
    have a:((k:Int)*64+c*16+n) / 64=k:=by omega
    have i:s.mem.used ((k:Int)*64+c*16+n):=⟨by omega,by rw[a];exact hk,by rw[a,Int.toNat_natCast];omega⟩
    have hm:=I.marked _ i (by unfold Mem.kAt;rw[a,Int.toNat_natCast];exact e) d (by unfold Mem.gAt;rw[a,Int.toNat_natCast];exact f)
    rw[a,Int.toNat_natCast,show(((k:Int)*64+c*16+n) % 64 / 16).toNat=c by omega]at hm
    exact Int.le_min.2 ⟨b,hm⟩
   ·exact b
 exact key _ (Nat.le_refl _)
theorem td{f:List Int}(I:Inv s sz)(b: ∀a,sz a≠0->zi s.mem a∈f){v:Int}(k:aD v)(c:Good s.mem sz v)(i:FW v):eX f v=0:=by
 unfold eX
 rcases i with h | ⟨h,hm⟩ | h
 ·rw[za (by omega),za (by omega),qB (vx h)]
 ·rw[za (by omega),za (by omega),qB hm]
 ·have d:=c.2 h
  have j:=I.sound.lt I.ok.mem d.1
  have hm:yF v=true:=by
   unfold bE at h
   unfold yF
   rw[za (by omega),qB (by omega),zX j.2]
  have e:=b _ d.1
  rw[<-t8 c h]at e
  unfold bE at h
  rw[za (by omega),za (λq=>q.2.2 e),qB hm]
theorem oQ(I:Inv s sz)(F:Ba s.mem sz){a:Int}(l:sz a≠0): ∀p∈bY s.mem (zi s.mem a),aD p.2/\Good s.mem sz p.2/\FW p.2:=by
 obtain⟨O,P,N,y,B⟩:=v8 I l
 have L:=I.sound.lt I.ok.mem l
 have u:Ae (zi s.mem a)=a:=by
  unfold bE at N
  unfold Ae
  rw[qB ⟨by omega,by rw[y];exact L.2⟩,y]
 have D:=(I.ok.mem.seg (a / 64).toNat).kind
 have E:0<=s.mem.kAt a/\s.mem.kAt a<=3:=D
 have b:s.mem.sizeOf (zi s.mem a)≠0:=by rw[B];omega
 have c:2<=s.mem.kAt a->s.mem.isObj (zi s.mem a)/\s.mem.typ (zi s.mem a)=hk (s.mem.get a):=λt=>by
  have w: ¬s.mem.isPair (zi s.mem a):=λf=>by
   have:=(pP b).1 f
   have e:zi s.mem a % 8=3:=by
    have:yE (s.mem.kAt a)=3:=by unfold yE;rw[za (by omega),za (by omega)]
    unfold zi;omega
   exact this e
  have r:s.mem.isObj (zi s.mem a):=by
   unfold Mem.sizeOf at b
   rw[za w]at b
   by_cases q:s.mem.isObj (zi s.mem a)
   ·exact q
   ·rw[za q]at b;exact absurd rfl b
  exact⟨r,by unfold Mem.typ;rw[qB r,y]⟩
 intro p f
 unfold bY at f
 by_cases x:s.mem.typ (zi s.mem a)=2\/s.mem.typ (zi s.mem a)=3
 ·rw[qB x]at f;simp at f
 rw[za x]at f
 obtain⟨i,H,rfl⟩:=List.mem_map.1 f
 rw[List.mem_range,B]at H
 show aD (s.mem.read _)/\Good s.mem sz (s.mem.read _)/\FW (s.mem.read _)
 rw[u]
 have A:iC s.mem (zi s.mem a)=0\/iC s.mem (zi s.mem a)=1:=by unfold iC;split<;>simp
 obtain⟨j,J⟩: ∃j:Nat,iC s.mem (zi s.mem a)+(i:Int)=j:=⟨(iC s.mem (zi s.mem a)+(i:Int)).toNat,by omega⟩
 rw[J]
 have m:j<sz a:=by omega
 have d:=I.sound.usedAt l m (λk=>(I.ok.mem.seg k).n.2)
 have M:s.mem.read (a+j)=s.mem.get (a+j):=by unfold Mem.read;rw[qB d.1]
 rw[M]
 have v:s.mem.kAt (a+j)=s.mem.kAt a:=by unfold Mem.kAt;rw[d.2.1]
 have z:s.mem.kAt a≠3:=λe=>by
  obtain⟨r,h⟩:=c (by omega)
  have:=(I.sound.obj a l (by omega)).2.1
  rw[e]at this
  unfold yM at this
  rw[<-h]at this
  split at this
  ·rename_i q;exact x q
  ·omega
 refine⟨(I.ok.mem.seg _).words _,I.sound.good _ d.1 (by rw[v];exact z),F.fine a j l m z (λt K=>?_)⟩
 obtain⟨r,h⟩:=c t
 have G:=(I.sound.obj a l t).1
 have o:s.mem.typ (zi s.mem a)>0:=by rw[h];have C:=G.2;unfold hk;omega
 have:iC s.mem (zi s.mem a)=1:=by unfold iC;rw[qB o]
 omega
theorem xR(I:Inv s sz)(i:Ba s.mem sz){l k:List Nat}(u:cY s.mem [] l)(j:cY s.mem [] k){m:List Int}(v: ∀w∈m,aD w/\Good s.mem sz w/\FW w):
  AF s.mem ((bF s.mem l).map Prod.fst) (yP (bF s.mem k)) m=(0,0):=by
 obtain⟨z,n⟩:=ny I i u
 obtain⟨y,A⟩:=ny I i j
 have o:Bn s.mem ((bF s.mem l).map Prod.fst) (yP (bF s.mem k))=none:=by
  unfold Bn
  rw[List.find?_eq_none]
  intro p b
  obtain⟨w,c,b⟩:=List.mem_flatMap.1 b
  unfold yP at c
  obtain⟨q,x,rfl⟩:=List.mem_map.1 c
  obtain⟨a,t,e,_⟩:=y q (List.mem_filter.1 x).1
  rw[e]at b
  obtain⟨d,f,h⟩:=oQ I i t p b
  rw[td I n d f h];decide
 have r:m.find? (λw=>decide (eX ((bF s.mem l).map Prod.fst) w≠0))=none:=by
  rw[List.find?_eq_none]
  intro w c
  obtain⟨d,f,h⟩:=v w c
  rw[td I n d f h];decide
 unfold AF
 rw[o]
 simp only[]
 rw[r]
end
end Go.Proofs.YtfhbhckhmnleoaaGreat
namespace Go.Proofs.YtfhbhckhmnleoaaGreat
open Go
open Go.ChangeShapes Go.WideShapes
variable{H k:zV}{d i A:Nat}{j:gM}{o:Hp}{r:Int->Nat}{u:List (Int×Int)}{v z:List Int}{B C D:zW}
def bulk:Nat:=1048576
theorem rj{v:k9}(h:fZ.ok d H v):fZ.ok maxLen H v:=⟨h.w,h.ofv⟩
theorem AS{α:Type}{r b:AP α}{s:Sl α}(h:SlOK d r i H s)(f:i<=maxLen)(g: ∀y,r.cells y=b.cells y)(j: ∀y,r.ok i H y->b.ok maxLen H y):SlOK d b maxLen H s:=
  ⟨h.len,Nat.le_trans h.le f,h.cap,λm k=>by obtain⟨a,c,e⟩:=h.row m k;exact⟨a,c,by rw[<-g];exact e⟩,λy l=>j y (h.each y l)⟩
theorem ya(b:d<=maxLen){a:l9}(h:mh.ok d H a):mh.ok maxLen H a:=
  ⟨h.dov,h.kind,h.n,rj h.x,rj h.y,AS h.l b (λ_=>rfl) (λ_=>rj)⟩
theorem roundUp(a:d<=maxLen)(h:lc.ok d H j):lc.ok maxLen H j:=
  ⟨AS h.acts a (λ_=>rfl) (λ_=>ya a),AS h.guard a (λ_=>rfl) (λ_ h=>⟨rj h.1,rj h.2⟩),AS h.symbols a (λ_=>rfl) (λ_=>rj),h.g,h.target,h.keep⟩
theorem wb{keep i:Int}(c:0<=i):cX.C keep i H (λv a=>(∃t:Bool,v=.bool t)/\a=H):=by
  refine HC.via λR b=>cX.link ?_
  unfold cX.pt
  have:=Int.tmod_nonneg 32 c
  exact⟨this,b _ _ ⟨⟨_,rfl⟩,rfl⟩⟩
def xx(rs:List gM):Prop:=rs.length<=12/\ ∀r∈rs,r.acts.n<=401/\r.symbols.n<=400/\r.guard.n<=400
theorem wd{s:Sl gM}(A:SlOK 6 lc bulk H s):dP.C s.p s.n s.c H (λv H'=> ∃t:Bool,v=.bool t/\(t=false->xx s.xs)/\H'=H):=by
  refine HC.via λR W=>dP.link ?_
  unfold dP.pt zY
  have X:=A.len
  by_cases z:(s.n:Int)>12
  · rw[qB z]
    exact W _ _ ⟨true,rfl,λh=>(by cases h),rfl⟩
  rw[za z]
  have V:bulk=1048576:=rfl
  refine⟨λy i G=>G=H/\(0<=i/\i<=s.n)/\(0<=y/\y<=i*4000000)/\(y<=400-> ∀r∈s.xs.take i.toNat,r.acts.n<=401/\r.symbols.n<=400/\r.guard.n<=400),λ_ i _=>(s.n-i).toNat,⟨rfl,⟨by omega,by omega⟩,⟨by omega,by omega⟩,λ_ r h=>by simp at h⟩,?_⟩
  rintro y i A1 ⟨I,F,a3,f⟩
  obtain rfl:H=A1:=I.symm
  by_cases d:i< (s.n:Int)
  case neg=>
    rw[za d]
    rw[List.take_of_length_le (by omega)]at f
    exact W _ _ ⟨_,rfl,λh=>⟨by omega,f (by simpa using h)⟩,rfl⟩
  rw[qB d]
  have w:i.toNat<s.xs.length:=by omega
  obtain⟨la,P,g⟩:=A.row i.toNat w
  have x:gM.OK bulk _ s.xs[i.toNat]:=A.each _ (List.getElem_mem w)
  have U:s.xs.take (i+1).toNat=s.xs.take i.toNat++[s.xs[i.toNat]]:=by rw[show(i+1).toNat=i.toNat+1 by omega,List.take_succ_eq_append_getElem w]
  generalize s.xs[i.toNat]=r at*
  have e:=fY g 0 (vs r.acts.p r.acts.n r.acts.c) rfl
  have m:=fY g 1 (vs r.guard.p r.guard.n r.guard.c) rfl
  have o:=fY g 2 (vs r.symbols.p r.symbols.n r.symbols.c) rfl
  rw[Nat.zero_add,iW,Nat.add_zero]at e
  rw[Nat.zero_add]at m o
  have b:SlOK 8 mh bulk _ r.acts:=x.acts
  have K:=b.len
  have B:=b.le
  have N:=(show SlOK 4 po bulk _ r.guard from x.guard).le
  have T:=(show SlOK 2 fZ bulk _ r.symbols from x.symbols).le
  rw[V]at B N T
  refine⟨la,P,⟨F.1,d⟩,_,_,_,m,⟨F.1,d⟩,_,_,_,o,?_⟩
  rw[xl (n:=(r.guard.n:Int)+r.symbols.n) (by omega),xl (n:=y+((r.guard.n:Int)+r.symbols.n)) (by omega)]
  refine⟨λj k G=>G=H/\(0<=k/\k<=r.acts.n)/\(y+(r.guard.n+r.symbols.n)+k<=j/\j<=y+3000000),λ_ k _=>(r.acts.n-k).toNat,⟨rfl,⟨by omega,by omega⟩,⟨by omega,by omega⟩⟩,?_⟩
  rintro j k A2 ⟨J,hk,Y⟩
  obtain rfl:H=A2:=J.symm
  refine⟨⟨F.1,d⟩,_,_,_,e,?_⟩
  by_cases L:k< (r.acts.n:Int)/\j<=400
  · rw[qB (by simpa using L)]
    have D:k.toNat<r.acts.xs.length:=by omega
    obtain⟨ka,O,S⟩:=b.row k.toNat D
    have E:l9.OK bulk _ r.acts.xs[k.toNat]:=b.each _ (List.getElem_mem D)
    generalize r.acts.xs[k.toNat]=a at*
    have u:=fY S 7 (vs a.l.p a.l.n a.l.c) rfl
    rw[Nat.zero_add]at u
    have Q:=(show SlOK 2 fZ bulk _ a.l from E.l).le
    rw[V]at Q
    have M:((r.acts.n:Int)-(k+1)).toNat< ((r.acts.n:Int)-k).toNat:=by omega
    refine⟨⟨F.1,d⟩,_,_,_,e,ka,O,⟨hk.1,L.1⟩,_,_,_,u,?_⟩
    rw[jw (by omega),xl (n:=(a.l.n:Int) / 8) (by omega),xl (n:=1+(a.l.n:Int) / 8) (by omega),xl (n:=j+(1+(a.l.n:Int) / 8)) (by omega),xl (n:=k+1) (by omega)]
    exact⟨⟨rfl,⟨by omega,by omega⟩,⟨by omega,by omega⟩⟩,M⟩
  · rw[za (by simpa using L)]
    have M:((s.n:Int)-(i+1)).toNat< ((s.n:Int)-i).toNat:=by omega
    rw[xl (n:=i+1) (by omega)]
    refine⟨⟨rfl,⟨by omega,by omega⟩,⟨by omega,by omega⟩,λh4 q Z=>?_⟩,M⟩
    rw[U]at Z
    rcases List.mem_append.1 Z with t | t
    · exact f (by omega) q t
    · simp at t;subst t;exact⟨by omega,by omega,by omega⟩
structure Gs (H0 H:zV) (b:Blk) (x:Hp) (sz:Int->Nat) (mB:zW) (mC:Nat) (made:List Int) (sB:zW) (sC:Nat) (syl:List Int) (eB:zW) (eC:Nat) (el:List (Int×Int)):Prop where
  e:Ext H0 H
  hp:HpAt H b x
  inv:Inv x.sp sz
  snd:Ba x.sp.mem sz
  own:Own H 28 1 mB made.length mC (xT made)
  good: ∀w∈made,aD w/\Good x.sp.mem sz w/\FW w
  sy:x.sy=vs sB syl.length sC
  so:Own H 28 1 sB syl.length sC (xT syl)
  sgood: ∀w∈syl,aD w/\Good x.sp.mem sz w/\FW w
  en:x.en=vs eB el.length eC
  eo:Own H 36 2 eB el.length eC (Au el)
  egood: ∀e∈el,oM x.sp.mem sz e/\FW e.1/\FW e.2
  hb: ∀j∈b.all,H0.size<=j
  hm: ∀j∈kc mB,H0.size<=j/\j ∉ b.all
  hs: ∀j∈kc sB,H0.size<=j/\j ∉ b.all/\j ∉ kc mB
  he: ∀j∈kc eB,H0.size<=j/\j ∉ b.all/\j ∉ kc mB/\j ∉ kc sB
theorem Gs.ext{H0 H a:zV}{b:Blk}(h:Gs H0 H b o r B d v C i z D A u)(e:Ext H a):Gs H0 a b o r B d v C i z D A u:=
  ⟨h.e.trans e,h.hp.ext e,h.inv,h.snd,h.own.ext e,h.good,h.sy,h.so.ext e,h.sgood,h.en,h.eo.ext e,h.egood,h.hb,h.hm,h.hs,h.he⟩
theorem Gs.view{b:Blk}(h:Gs H k b o r B d v C i z D A u):View k (some ⟨b.h,0,none⟩) (some (b,o)):=.real h.hp h.inv.ok
structure jX (H:zV) (c:Nat) (r:gM):Prop where
  at':H[c]?=some (.cells #[vs r.acts.p r.acts.n r.acts.c,vs r.guard.p r.guard.n r.guard.c,vs r.symbols.p r.symbols.n r.symbols.c,vi r.g,vi r.target,.int .u32 r.keep] 141 (0,0))
theorem jX.ext{c:Nat}(h:jX H c j)(e:Ext H k):jX k c j:=⟨e.get h.at'⟩
theorem jX.keep{S:List Nat}(h:jX H d j)(f:Fr S H k)(a:d ∉ S):jX k d j:=⟨f.get a h.at'⟩
theorem te{Q:zW->Nat->Nat->zV->Prop}{b:Blk}{c:Nat}{eC:Nat}(h:Gs H k b o r B d v C A z D eC u)(bd:o.sp.cf<=100000)(hn:i=v.length)(bf:v.length<=10000)
    (hs:jX k c j) (hc:c ∉ b.all/\c ∉ kc B/\c ∉ kc C) (hA:SlOK 8 mh maxLen H j.acts) (b6:j.acts.n<=401)
    (hQ: ∀(bm:zV) (E:zW) (L:Nat) (f:List Int) (V:Hp) (M:Int->Nat),Gs H bm b V M E L f C A z D eC u->V.sp.cf=o.sp.cf->f.length<=v.length+401->jX bm c j->c ∉ kc E->k.size<=bm.size->Q E f.length L bm):
    ∃(a5:zW->Nat->Nat->zw) (ak:zW->Nat->Nat->Int->zV->Nat),a5 B i d 0 k/\ ∀(g:zW) (x:Nat) (l:Nat) (bo:Int) (F:zV),a5 g x l bo F->
    ∃xB:zW,∃xN:Nat,∃xC:Nat,hat F (Addr.mk c 0 none)=some (vs xB xN xC)/\
    if bo< (xN:Int)then(
     ∃a0:zW,∃a1:Nat,∃an:Nat,hat F (Addr.mk c 0 none)=some (vs a0 a1 an)/\
     ∃Z:Addr,a0=some Z/\
     ((0:Int)<=bo/\bo< (a1:Int))/\
     ∃ao:Int,∃R:Int,∃a2:Int,∃aw:Int,∃a3:Int,∃ax:Int,∃a4:Int,∃ap:zW,∃av:Nat,∃au:Nat,aM F (Z.add (Int.toNat bo*8)) 0 [vi ao,vi R,vi a2,vu aw,vi a3,vu ax,vi a4,vs ap av au]/\
     cV.C (some ⟨b.h,0,none⟩) ao R a2 aw a3 ax a4 ap av au g x l F (λb4 ae=> ∃O:zW,∃U:Nat,∃P:Nat,b4=vs O U P/\
      (a5 O U P (IntKind.wrap .i64 (bo+1)) ae/\ak O U P (IntKind.wrap .i64 (bo+1)) ae<ak g x l bo F)))
    else
    Q g x l F:=by
  have b0:=hA.len
  refine⟨λE al L bo bm=>(0<=bo/\bo<=j.acts.n)/\ ∃(f:List Int) (V:Hp) (M:Int->Nat),al=f.length/\Gs H bm b V M E L f C A z D eC u/\V.sp.cf=o.sp.cf/\(f.length:Int)<=v.length+bo/\jX bm c j/\c ∉ kc E/\k.size<=bm.size,λ_ _ _ bo _=>(j.acts.n-bo).toNat,
    ⟨⟨by omega,by omega⟩,v,o,r,hn,h,rfl,by omega,hs,hc.2.1,Nat.le_refl _⟩,?_⟩
  rintro E al L bo bm ⟨hk,f,V,M,rfl,S,af,b7,W,a7,aZ⟩
  have Y:hat bm (Addr.mk c 0 none)=some (vs j.acts.p j.acts.n j.acts.c):=by rw[aI W.at'];rfl
  refine⟨_,_,_,Y,?_⟩
  by_cases a9:bo< (j.acts.n:Int)
  case neg=>
    rw[za a9]
    exact hQ bm E L f V M S af (by omega) W a7 aZ
  rw[qB a9]
  have ai:bo.toNat<j.acts.xs.length:=by omega
  obtain⟨ka,b1,b3⟩:=hA.row bo.toNat ai
  have b2:l9.OK maxLen H j.acts.xs[bo.toNat]:=hA.each _ (List.getElem_mem ai)
  generalize j.acts.xs[bo.toNat]=a at*
  refine⟨_,_,_,Y,ka,b1,⟨hk.1,a9⟩,_,_,_,_,_,_,_,_,_,_,S.e.rowAt b3,?_⟩
  have hd:((j.acts.n:Int)-(bo+1)).toNat< ((j.acts.n:Int)-bo).toNat:=by omega
  rw[xl (n:=bo+1) (by omega)]
  refine HC.mono (uI S.view S.inv (by omega) S.own (λbn y=>(S.hm bn y).2) (λw J=>⟨(S.good w J).1,(S.good w J).2.1⟩) (by omega) (mh.mono S.e b2)) ?_
  rintro _ A2 ⟨B',c',aa,x2,am,rfl,T,K,hF,hL⟩
  have ag: ∀bn∈b.all,bn<bm.size:=λbn y=>S.hp.lt bn y
  have I: ∀bn,bn∈[b.sp,b.m,b.s]->bn∈b.all:=λbn q=>by simp at q;simp[Blk.all];omega
  obtain⟨-,aj,-⟩:=T.view.inv
  have a6:A2[b.h]?=bm[b.h]?:=by
    rw[S.hp.h]
    refine T.fr.get (λq=>?_) S.hp.h
    rcases List.mem_append.1 q with q | q
    · have:=S.hp.ne
      have:=S.hp.cd.sp.ne
      simp at q;omega
    · exact(S.hm _ q).2 (by simp[Blk.all])
  have N:x2.sy=V.sy/\x2.en=V.en:=by
    have h1:=aj.h
    rw[a6,S.hp.h]at h1
    simp only[Option.some.injEq,Obj.cells.injEq,Array.mk.injEq,List.cons.injEq]at h1
    exact⟨h1.1.2.1.symm,h1.1.2.2.1.symm⟩
  have ab: ∀w∈f,FW w:=λw J=>(S.good w J).2.2
  have ac:=hF ab
  have G: ∀w,Good V.sp.mem M w->Good x2.sp.mem am w:=λw J=>hL w J
  have X:Own A2 28 1 C z.length A (xT z):=S.so.keep T.fr (λbn y q=>by
    rcases List.mem_append.1 q with q | q
    · exact(S.hs bn y).2.1 (I bn q)
    · exact(S.hs bn y).2.2 q)
  have a8:Own A2 36 2 D u.length eC (Au u):=S.eo.keep T.fr (λbn y q=>by
    rcases List.mem_append.1 q with q | q
    · exact(S.he bn y).2.1 (I bn q)
    · exact(S.he bn y).2.2.1 q)
  refine⟨_,_,_,rfl,⟨⟨by omega,by omega⟩,aa,x2,am,rfl,⟨?_,aj,T.inv,K.snd ab S.snd,T.own,λw J=>⟨(T.good w J).1,(T.good w J).2,ac w J⟩,N.1.trans S.sy,X,λw J=>⟨(S.sgood w J).1,G w (S.sgood w J).2.1,(S.sgood w J).2.2⟩,N.2.trans S.en,a8,λe he=>⟨⟨⟨(S.egood e he).1.1.1,G _ (S.egood e he).1.1.2⟩,(S.egood e he).1.2.1,G _ (S.egood e he).1.2.2⟩,(S.egood e he).2⟩,S.hb,λbn y=>?_,λbn y=>⟨(S.hs bn y).1,(S.hs bn y).2.1,λq=>?_⟩,λbn y=>⟨(S.he bn y).1,(S.he bn y).2.1,λq=>?_,(S.he bn y).2.2.2⟩⟩,T.cf.trans af,?_,W.keep T.fr (λq=>?_),λq=>?_,by have:=T.fr.size;omega⟩,hd⟩
  · refine S.e.fr_trans T.fr (λbn y=>?_)
    rcases List.mem_append.1 y with q | q
    · exact S.hb bn (I bn q)
    · exact(S.hm bn q).1
  · rcases T.blk bn y with q | q
    · exact S.hm bn q
    · have:=S.e.size
      exact⟨by omega,λhb=>by have:=ag bn hb;omega⟩
  · rcases T.blk bn q with t | t
    · exact(S.hs bn y).2.2 t
    · have:=S.so.lt bn y;omega
  · rcases T.blk bn q with t | t
    · exact(S.he bn y).2.2.1 t
    · have:=S.eo.lt bn y;omega
  · have:=T.len;omega
  · rcases List.mem_append.1 q with q | q
    · exact hc.1 (I c q)
    · exact a7 q
  · rcases T.blk c q with t | t
    · exact a7 t
    · have:=aS W.at';omega
end Go.Proofs.YtfhbhckhmnleoaaGreat
namespace Go.Proofs.YtfhbhckhmnleoaaGreat
open Go
variable{d j:List Int}{i z:Nat}{H A:zV}{k o r D E:Int}{u:List Nat}{v:zW}{B:Blk}{C:Hp}{F:Mem}
theorem we(m:Mem)(L:List Int)(w:Int):L.length<=(yS m L w).length:=by
 unfold yS
 split
 ·simp
 ·exact Nat.le_refl _
theorem rk(m:Mem): ∀(vs L:List Int),L.length<=(vs.foldl (yS m) L).length
 | [],_=>Nat.le_refl _
 | w::vs,L=>Nat.le_trans (we m L w) (rk m vs _)
theorem rS(m:Mem)(h:d.length<=i):kJ m d i=d:=by
 unfold kJ;rw[List.getElem?_eq_none h]
theorem nz(m:Mem)(a:List Int){k:Nat}(h:(gL m a k).length<=k): ∀d,gL m a (k+d)=gL m a k
 | 0=>rfl
 | d+1=>by
  have b:=nz m a h d
  show kJ m (gL m a (k+d)) (k+d)=_
  rw[b,rS _ (by omega)]
theorem qc(m:Mem)(a:List Int){j k:Nat}(b:(gL m a j).length<=j)(hk:(gL m a k).length<=k):gL m a j=gL m a k:=by
 rcases Nat.le_total j k with h | h
 ·have:=nz m a b (k-j)
  rw[show j+(k-j)=k by omega]at this
  exact this.symm
 ·have:=nz m a hk (j-k)
  rw[show k+(j-k)=j by omega]at this
  exact this
structure Came (m:Mem) (roots:List Int) (A:zV) (B:zW) (c mr:Nat) (L:List Int):Prop where
 all: ∃k,L=gL m roots k/\L.length=k
 own:Own A 28 1 B L.length c (xT L)
 map: ∃(es:Array MapEntry) (cl:Nat) (ks:List (Int×Value)),A[mr]?=some (.map es cl)/\va (aY .u64) es.toList ks/\ ∀w,yl ks w=if w∈L then some (vi (L.idxOf w+1:Nat))else none
 nod:L.Nodup
 pos: ∀w∈L,m.sizeOf w>0/\aD w
 len:L.length<=524288
theorem Came.keep{L:List Int}{S:List Nat}(h:Came F d H v i z L)(f:Fr S H A)(k: ∀j∈kc v,j ∉ S)(hm:z ∉ S):Came F d A v i z L:=by
 obtain⟨b,a,l,c,e,g⟩:=h.map
 exact⟨h.all,h.own.keep f k,⟨b,a,l,f.get hm c,e,g⟩,h.nod,h.pos,h.len⟩
theorem Came.ext{roots:List Int}{c a:Nat}(h:Came F roots H v c a d)(e:Ext H A):Came F roots A v c a d:=h.keep (S:=[]) e.fr (by simp) (by simp)
set_option maxHeartbeats 2000000 in
theorem wg(hp:HpAt H B C)(ok:SpOK C.sp)(hr:Nums H .u64 v i d)(br:i<=1000000)(bs: ∀w∈d,aD w)(bq: ∀j∈kc v,j<H.size):
  jt.C (some ⟨B.h,0,none⟩) v i z H (λdl f=> ∃(di:zW) (c a:Nat) (L:List Int),dl=.tuple #[vs di L.length c,.map (some a)]/\Came C.sp.mem d f di c a L/\(∀j∈kc di,H.size<=j)/\H.size<=a/\Ext H f):=by
 refine HC.via λR hR=>jt.link ?_
 unfold jt.pt zY
 intro m H1 bi U a H2 bm V S H3 ak W
 have hb:=hp.lt
 have e1:Ext H H1:=Ext.push' U
 have e2:Ext H1 H2:=Ext.push' V
 have z1:H1.size=H.size+1:=by rw[U];simp
 have z2:H2.size=H1.size+1:=by rw[V];simp
 have z3:H3.size=H2.size+1:=by rw[W];simp
 have g0:=aF bi U
 have gm:=aF bm V
 obtain⟨c3,s3⟩:=jN (A3:=aP H3 (Addr.mk S 0 none) [.map (some a)] 0) ak W [.map (some a)] rfl
 refine⟨c3,λH4 af e H5 bj X A H6 al Y=>?_⟩
 obtain⟨g3,e4⟩:=s3 rfl
 rw[<-af]at g3 e4
 have z4:H4.size=H3.size:=by rw[af,bV _ _ _ _ _ (aF ak W)];simp
 have e5:Ext H4 H5:=Ext.push' X
 have z5:H5.size=H4.size+1:=by rw[X];simp
 have z6:H6.size=H5.size+1:=by rw[Y];simp
 have g4:=aF bj X
 obtain⟨c6,s6⟩:=jN (A3:=aP H6 (Addr.mk A 0 none) [.func (.func 123) #[] #[Vq (Addr.mk m 0 none),Vq (Addr.mk S 0 none),Vq (Addr.mk e 0 none)]] 0) al Y [.func (.func 123) #[] #[Vq (Addr.mk m 0 none),Vq (Addr.mk S 0 none),Vq (Addr.mk e 0 none)]] rfl
 refine⟨c6,λb ag=>?_⟩
 obtain⟨g5,e7⟩:=s6 rfl
 rw[<-ag]at g5 e7
 have z7:b.size=H6.size:=by rw[ag,bV _ _ _ _ _ (aF al Y)];simp
 have a4:=e4.trans (e5.trans e7)
 have a3:=e2.trans a4
 have E7:=e1.trans a3
 have k0:=a3.get g0
 have k3:=(e5.trans e7).get g3
 have k4:=e7.get g4
 have km:=a4.get gm
 have C0:CmAt C.sp.mem b S e a b.size [] []:=⟨k3,⟨#[],0,[],km,rfl,λw=>by rw[za (by simp)];rfl⟩,⟨none,0,k4,gZ,rfl,by simp⟩,⟨⟨by omega,by omega,by omega⟩,by omega,by omega,by omega⟩,List.nodup_nil,by simp⟩
 have l:m<b.size/\A<b.size/\b.size<=b.size/\e ∉ B.all/\a ∉ B.all/\e≠m/\e≠A/\a≠m/\a≠A:=
  ⟨by omega,by omega,Nat.le_refl _,λh=>by have:=hb _ h;omega,λh=>by have:=hb _ h;omega,by omega,by omega,by omega,by omega⟩
 refine uN (hp.ext E7) ok (λj g=>by have:=hb j g;omega) k0 g5 l C0 (hr.ext E7) br (λj g=>by have:=bq j g;omega) bs ?_
 intro H8 T8 C8 cC f8 b6 P am t
 have z8:=f8.size
 have cZ:P.size=H8.size+1:=by rw[t];simp
 obtain⟨ba,bB⟩:=jN (A3:=aP P (Addr.mk b6 0 none) [vi 0] 0) am t [vi 0] rfl
 refine⟨ba,λb2 J=>?_⟩
 obtain⟨g6,p⟩:=bB rfl
 rw[<-J]at g6 p
 have d0:b2.size=P.size:=by rw[J,bV _ _ _ _ _ (aF am t)];simp
 have E8:Ext H H8:=E7.fr_trans f8 (λdk F=>by simp at F;omega)
 have n0:m ∉ [e,a]:=by simp;omega
 have n5:A ∉ [e,a]:=by simp;omega
 refine⟨λdk x f=> ∃(k iA:Nat) (L:List Int) (T:List Nat),dk=some ⟨iA,0,none⟩/\x.length=k/\f[iA]?=some (.cells #[vi (k:Int)] 3 (0,0))/\b.size<=iA/\L=gL C.sp.mem d k/\CmAt C.sp.mem f S e a b.size L T/\iA ∉ T/\k<=L.length/\x.Nodup/\
   (∀D∈x,f[D]?=some (.deferred (some []))/\D ∉ T/\b.size<=D/\D≠iA)/\Ext H f/\b.size<=f.size/\f[m]?=some (.cells #[vp (some ⟨B.h,0,none⟩)] 23 (0,0))/\
   f[A]?=some (.cells #[.func (.func 123) #[] #[Vq (Addr.mk m 0 none),Vq (Addr.mk S 0 none),Vq (Addr.mk e 0 none)]] 198 (0,0)),
  λ_ x _=>600000-x.length,
  ⟨0,b6,_,T8,rfl,rfl,g6,by omega,rfl,C8.ext p,λh=>by have:=(C8.at _ _ h).2;omega,by omega,List.nodup_nil,by simp,E8.trans p,by omega,p.get (f8.get n0 k0),p.get (f8.get n5 g5)⟩,?_⟩
 rintro _ x f ⟨k,iA,L,T,rfl,bn,s,an,hL,dj,ao,cD,av,hD,eA,zA,q0,q5⟩
 refine⟨_,rfl,(k:Int),by rw[aI s];rfl,?_⟩
 have be:=dj.len
 obtain⟨di,c,l1,l2,l3,l4⟩:=dj.lst
 refine⟨di,_,c,by rw[aI l1];rfl,?_⟩
 by_cases N:(k:Int)< (L.length:Int)
 case neg=>
  rw[za N]
  refine⟨di,_,c,by rw[aI l1];rfl,some a,by rw[aI dj.num];rfl,?_⟩
  have u: ∀D∈x,b.size<=D/\D ∉ T:=λD h=>⟨(hD D h).2.2.1,(hD D h).2.1⟩
  refine nV x f av (λD h=>(hD D h).1) (λO y=>hR _ _ ⟨di,c,a,L,rfl,⟨⟨k,hL,by omega⟩,l2.keep y (λj g h=>(u j h).2 (l3▸g)),?_,dj.nod,dj.pos,be⟩,λj g=>by have:=(l4 j g).1;omega,by omega,eA.fr_trans y (λdk F=>by have:=(u dk F).1;omega)⟩)
  obtain⟨es,cl,ks,m1,m2,m3⟩:=dj.map
  exact⟨es,cl,ks,y.get (λh=>by have:=(u _ h).1;omega) m1,m2,m3⟩
 rw[qB N]
 have G:k<L.length:=by omega
 obtain⟨pa,p1,p2⟩:=lX l2.src G
 refine⟨_,by rw[aI q0];rfl,di,_,c,by rw[aI l1];rfl,(k:Int),by rw[aI s];rfl,pa,p1,⟨by omega,by omega⟩,L[k],by rw[show Int.toNat (k:Int)=k by omega];exact p2,?_⟩
 have bp:=hp.ext eA
 have au:m<b.size/\A<b.size/\b.size<=f.size/\e ∉ B.all/\a ∉ B.all/\e≠m/\e≠A/\a≠m/\a≠A:=⟨l.1,l.2.1,zA,l.2.2.2⟩
 have aj:=dj.at
 refine tY bp ok (λj g=>by have:=hb j g;omega) q0 q5 au dj (List.getElem?_eq_getElem G) (dj.pos _ (List.getElem_mem G)).2 s ⟨ao,an⟩ ?_
 intro rc lp cp O T2 C2 cm cE gD a8 bf ap y bh
 refine⟨a8,λa1 K=>?_⟩
 have f3:Fr [lp] O a1:=by rw[K];exact Fr.set
 have d1:=y.size
 have d4:a1.size=O.size:=by rw[K];simp
 have ah: ∀j,j ∉ T->b.size<=j->j ∉ [e,a]++T:=λj h1 Z h=>by
  rcases List.mem_append.1 h with h | h
  ·simp at h;omega
  ·exact h1 h
 have ai: ∀j,j<b.size->j ∉ T:=λj h Z=>by have:=(aj j Z).1;omega
 have bz:f.size<=lp:=by omega
 have a7:=f3.get (by simp;have:=aS s;omega) (y.get (ah _ ao an) s)
 refine⟨_,by rw[aI a7];rfl,λb7 b4 bk ab=>?_⟩
 obtain⟨bb,bH⟩:=jN (A3:=aP b4 (Addr.mk b7 0 none) [vi (k:Int)] 0) bk ab [vi (k:Int)] rfl
 refine⟨bb,λb5 ac=>?_⟩
 obtain⟨a5,r⟩:=bH rfl
 rw[<-ac]at a5 r
 have I:b5[b7]?=some (.cells #[vi (k:Int)] 3 (0,0)):=a5
 obtain⟨a2,aw⟩:=mn I 0 (vi (IntKind.wrap .i64 ((k:Int)+1))) (by simp)
 rw[nn]at a2 aw
 refine⟨_,by rw[aI I];rfl,a2,λQ ae=>?_⟩
 obtain⟨a6,E⟩:=aw Q ae
 have d2:=r.size
 have d3:=E.size
 have hw:IntKind.wrap .i64 ((k:Int)+1)=((k+1:Nat):Int):=by rw[xl (n:=(k:Int)+1) (by omega)];omega
 rw[hw]at a6
 have bl:=aS a8
 have aa:=aS gD
 have M:=C2.at
 have n7: ∀j,j<O.size->j ∉ [b7]:=λj h=>by simp;omega
 have keep: ∀{j:Nat} {o:Obj},j<O.size->j≠lp->O[j]?=some o->Q[j]?=some o:=λh1 Z h3=>E.get (n7 _ h1) (r.get (f3.get (by simp;exact Z) h3))
 have b0:CmAt C.sp.mem Q S e a b.size _ T2:=((C2.keep f3 ⟨by simp;omega,by simp;omega,by simp;omega⟩ (λj g=>by simp;exact λq=>ap (q▸g))).ext r).keep E ⟨by simp;omega,by simp;omega,by simp;omega⟩ (λj g=>n7 j (M j g).2)
 have cd:x.length<600000:=by omega
 refine⟨⟨k+1,b7,_,T2,rfl,by simp[bn],a6,by omega,?_,b0,λh=>by have:=(M _ h).2;omega,?_,?_,?_,?_,by omega,?_,?_⟩,by show 600000-(x.length+1)<600000-x.length;omega⟩
 ·show _=kJ C.sp.mem (gL C.sp.mem d k) k
  rw[<-hL];unfold kJ;rw[List.getElem?_eq_getElem G]
 ·have:=rk C.sp.mem (visL L[k] (bY C.sp.mem L[k])) L;omega
 ·rw[List.nodup_cons]
  exact⟨λh=>by have:=aS (hD _ h).1;omega,av⟩
 ·intro D bg
  rcases List.mem_cons.1 bg with h | h
  ·subst h
   exact⟨keep aa (by omega) gD,bf,by omega,by omega⟩
  ·obtain⟨dm,dn,dp,d6⟩:=hD D h
   have dq:=aS dm
   refine⟨keep (by omega) (by omega) (y.get (ah _ dn dp) dm),λZ=>?_,dp,by omega⟩
   rcases bh D Z with q | q
   ·exact dn q
   ·omega
 ·have bQ:Ext H O:=eA.fr_trans y (λdk F=>by
   rcases List.mem_append.1 F with h | h
   ·simp at h;omega
   ·have:=(aj dk h).1;omega)
  exact((bQ.fr_trans f3 (λdk F=>by simp at F;have:=eA.size;omega)).trans r).fr_trans E (λdk F=>by simp at F;have:=bQ.size;omega)
 ·exact keep (by omega) (by omega) (y.get (λh=>by
   rcases List.mem_append.1 h with h | h
   ·exact n0 h
   ·exact ai _ l.1 h) q0)
 ·exact keep (by omega) (by omega) (y.get (λh=>by
   rcases List.mem_append.1 h with h | h
   ·exact n5 h
   ·exact ai _ l.2.1 h) q5)
def li(m:Mem)(L:List Int):Int:=(L.map m.sizeOf).sum
theorem rl(m:Mem): ∀L:List Int,0<=li m L/\li m L<=63*L.length
  | []=>by unfold li;simp
  | w::L=>by
    have a:=kW m w
    have b:=rl m L
    unfold li at*
    simp only[List.map_cons,List.sum_cons,List.length_cons]
    omega
theorem ua(m:Mem)(h:i<d.length):li m (d.take (i+1))=li m (d.take i)+m.sizeOf d[i]:=by
  unfold li
  rw[List.take_succ_eq_append_getElem h,List.map_append,List.sum_append];simp
theorem wh{roots:List Int}(q:HpAt H B C)(r:SpOK C.sp)(A:Nums H .u64 v i roots)(g:i<=1000000)(l: ∀w∈roots,aD w)(f: ∀j∈kc v,j<H.size):
    iR.C (some ⟨B.h,0,none⟩) v i z H (λT s=> ∃L:List Int,(∃k,L=gL C.sp.mem roots k/\L.length=k)/\T=vi (li C.sp.mem L)/\Ext H s):=by
  refine HC.via λR x=>iR.link ?_
  unfold iR.pt zY
  refine HC.mono (wg q r A g l f) ?_
  rintro _ t ⟨O,c,E,L,rfl,P,M,y,o⟩
  have N:=P.len
  refine⟨O,_,c,some E,rfl,λm S Q=> ∃k:Nat,S=k/\k<=L.length/\m=li C.sp.mem (L.take k)/\Ext t Q,λ_ S _=>((L.length:Int)-S).toNat,⟨0,rfl,by omega,rfl,Ext.refl _⟩,?_⟩
  rintro _ _ I ⟨k,rfl,hk,rfl,e⟩
  by_cases b:(k:Int)< (L.length:Int)
  case neg=>
    rw[za b,List.take_of_length_le (by omega)]
    exact x _ _ ⟨L,P.all,rfl,o.trans e⟩
  rw[qB b]
  have a:k<L.length:=by omega
  obtain⟨pa,F,G⟩:=lX (P.own.ext e).src a
  refine⟨pa,F,⟨by omega,b⟩,L[k],by rw[show Int.toNat (k:Int)=k by omega];exact G,?_⟩
  refine HC.mono (kR (.real (q.ext (o.trans e)) r) (P.pos _ (List.getElem_mem a)).2) ?_
  rintro _ J ⟨rfl,u⟩
  have hm:yu (some (B,C))=C.sp.mem:=rfl
  rw[hm]
  have K:=kW C.sp.mem L[k]
  have p:=rl C.sp.mem (L.take k)
  rw[List.length_take]at p
  have d:min k L.length=k:=by omega
  rw[d]at p
  have D:IntKind.wrap .i64 ((k:Int)+1)=((k+1:Nat):Int):=by rw[xl (n:=(k:Int)+1) (by omega)];omega
  refine⟨_,rfl,?_⟩
  rw[D,xl (n:=li C.sp.mem (L.take k)+C.sp.mem.sizeOf L[k]) (by omega)]
  exact⟨⟨k+1,rfl,by omega,(ua _ a).symm,e.trans u⟩,by show((L.length:Int)-((k+1:Nat):Int)).toNat< ((L.length:Int)-(k:Int)).toNat;omega⟩
def KnAt(A:zV)(nb:Nat)(tag typ more:Int)(ws is:List Int)(T:List Nat):Prop:=
  ∃(B1:zW) (c1:Nat) (B2:zW) (c2:Nat),A[nb]?=some (.cells #[vi tag,vi typ,vu more,vs B1 ws.length c1,vs B2 is.length c2] 147 (0,0))/\
    Own A 28 1 B1 ws.length c1 (xT ws)/\Own A 3 1 B2 is.length c2 (yN is)/\(∀j∈kc B1,j ∉ kc B2)/\T=kc B1++kc B2/\nb ∉ T
theorem KnAt.keep{S:List Nat}{is:List Int}(h:KnAt H i k o r d is u)(f:Fr S H A)(m:i ∉ S)(b: ∀j∈u,j ∉ S):KnAt A i k o r d is u:=by
  obtain⟨c,g,e,l,n,p,q,s,rfl,t⟩:=h
  exact⟨c,g,e,l,f.get m n,p.keep f (λj a=>b j (List.mem_append_left _ a)),q.keep f (λj a=>b j (List.mem_append_right _ a)),s,rfl,t⟩
theorem KnAt.ext{ws is:List Int}(h:KnAt H i k o r ws is u)(e:Ext H A):KnAt A i k o r ws is u:=h.keep (S:=[]) e.fr (by simp) (by simp)
theorem KnAt.lt{is:List Int}(h:KnAt H i k o r d is u): ∀j∈i::u,j<H.size:=by
  obtain⟨f,l,g,m,b,c,e,n,rfl,p⟩:=h
  intro j a
  rcases List.mem_cons.1 a with h | h
  · rw[h];exact aS b
  · rcases List.mem_append.1 h with h | h
    · exact c.lt j h
    · exact e.lt j h
theorem oR: ∀l:List Int,kt (yN l)=true
  | []=>rfl
  | w::l=>by show(true && kt (yN l))=true;rw[oR l];rfl
theorem tf{R:zv}(K:KnAt H i k o r d j u)(hl:d.length<=100000000/\j.length<=100000000)
    (hR: ∀U T',KnAt U i k o r (d++[D]) (j++[E]) T'->Fr (i::u) H U->(∀bd∈T',bd∈u\/H.size<=bd)->R (.tuple #[]) U):
    ∃c:Addr,some (Addr.mk i 0 none)=some c/\
    ∃xB:zW,∃xN:Nat,∃xC:Nat,hat H (c.add 3)=some (vs xB xN xC)/\
    ∀(b:Nat) (G:zV),b=H.size->G=H.push (.cells #[vu D] 28)->
    bI 1 28 8 [vu 0] xB xN xC (some (Addr.mk b 0 none)) 1 G (λap W I=>
     (aH I (c.add 3) 0 1)/\ ∀l:zV,l=aP I (c.add 3) [vs ap (xN+1) W] 0->
     ∃n:zW,∃f:Nat,∃p:Nat,hat l (c.add 4)=some (vs n f p)/\
     ∀(L:Nat) (m:zV),L=l.size->m=l.push (.cells #[vi E] 3)->
     bI 1 3 8 [vi 0] n f p (some (Addr.mk L 0 none)) 1 m (λJ s V=>
      (aH V (c.add 4) 0 1)/\ ∀B:zV,B=aP V (c.add 4) [vs J (f+1) s] 0->
      R (.tuple #[]) B)):=by
  obtain⟨z,c1,A,c2,k1,k2,k3,k4,rfl,k6⟩:=K
  have M:i ∉ kc z:=λh=>k6 (List.mem_append_left _ h)
  have x:i ∉ kc A:=λh=>k6 (List.mem_append_right _ h)
  have l1:=k2.lt
  have l2:=k3.lt
  have ay:=aS k1
  refine⟨_,rfl,z,_,c1,fD k1 3,λb G hb t=>?_⟩
  have O:Ext H G:=Ext.push' t
  have z1:G.size=H.size+1:=by rw[t];simp
  refine cH (ys:=xT [D]) (k2.ext O) (eG (aF hb t) _ 0 0 (λbd a=>by simp at a;subst a;rfl)) rfl (gK _) rfl (by omega) ?_
  intro C d1 I o2 Q n2
  have z2:=Q.size
  obtain⟨q3,s3⟩:=mn (Q.get M (O.get k1)) 3 (vs C (d.length+1) d1) (by simp)
  refine⟨q3,λl Z=>?_⟩
  obtain⟨g3,S⟩:=s3 l Z
  have z3:=S.size
  have g: ∀bd∈kc C,bd∈kc z\/H.size<bd:=λbd a=>by
    rcases n2 bd a with h | h
    · exact .inl h
    · right;omega
  have y:i ∉ kc C:=λh=>by
    rcases g _ h with h | h
    · exact M h
    · omega
  have o3:=o2.keep S (λbd a h=>by simp at h;exact y (h▸a))
  have a3:=((k3.ext O).keep Q (λbd a h=>k4 bd h a)).keep S (λbd a h=>by simp at h;exact x (h▸a))
  refine⟨A,_,c2,fD g3 4,λb2 m a1 v=>?_⟩
  have P:Ext l m:=Ext.push' v
  have z4:m.size=l.size+1:=by rw[v];simp
  refine cH (ys:=yN [E]) (a3.ext P) (eG (aF a1 v) _ 0 0 (λbd a=>by simp[yN]at a;subst a;rfl)) rfl (oR _) rfl (by omega) ?_
  intro F d2 V o5 T n5
  have z5:=T.size
  obtain⟨q6,s6⟩:=mn (T.get x (P.get g3)) 4 (vs F (j.length+1) d2) (by simp)
  refine⟨q6,λB a0=>?_⟩
  obtain⟨g6,Y⟩:=s6 B a0
  have w: ∀bd∈kc F,bd∈kc A\/m.size<=bd:=n5
  have N:i ∉ kc F:=λh=>by
    rcases w _ h with h | h
    · exact x h
    · omega
  have a5:=o3.lt
  have X: ∀bd∈kc C,bd ∉ kc F:=λbd h1 h2=>by
    rcases w bd h2 with q | q
    · rcases g bd h1 with be | be
      · exact k4 bd be q
      · have:=l2 bd q;omega
    · have:=a5 bd h1;omega
  have o6:=o5.keep Y (λbd a h=>by simp at h;exact N (h▸a))
  have o1:=((o3.ext P).keep T (λbd a h=>by
    rcases g bd a with be | be
    · exact k4 bd be h
    · have:=l2 bd h;omega)).keep Y (λbd a h=>by simp at h;exact y (h▸a))
  refine hR B (kc C++kc F) ⟨C,d1,F,d2,?_,?_,?_,X,rfl,λh=>?_⟩ ?_ (λbd a=>?_)
  · rw[List.length_append,List.length_append];exact g6
  · have e:xT (d++[D])=xT d++xT [D]:=by unfold xT;rw[List.map_append]
    rw[e,List.length_append];exact o1
  · have e:yN (j++[E])=yN j++yN [E]:=by unfold yN;rw[List.map_append]
    rw[e,List.length_append];exact o6
  · rcases List.mem_append.1 h with h | h
    · exact y h
    · exact N h
  · have ak:Fr (i::(kc z++kc A)) H I:=O.fr.trans (Q.mono (λbd a _=>by simp[a]))
    have a2:Fr (i::(kc z++kc A)) I m:=(S.mono (λbd a _=>by simp at a;simp[a])).trans P.fr
    have am:Fr (i::(kc z++kc A)) m B:=(T.mono (λbd a _=>by simp[a])).trans (Y.mono (λbd a _=>by simp at a;simp[a]))
    exact(ak.trans a2).trans am
  · rcases List.mem_append.1 a with h | h
    · rcases g bd h with be | be
      · exact .inl (List.mem_append_left _ be)
      · right;omega
    · rcases w bd h with be | be
      · exact .inl (List.mem_append_right _ be)
      · right;omega
def Ah(w i:Int):Int:=if i=0 then w else 0
theorem wi(K:KnAt H i k o r d j u)(m:d.length<=100000000/\j.length<=100000000):
    aV.C (some ⟨i,0,none⟩) D E H (λv b=> ∃a,KnAt b i k o r (d++[Ah D E]) (j++[E]) a/\Fr (i::u) H b/\ ∀n∈a,n∈u\/H.size<=n):=by
  refine HC.via λR c=>aV.link ?_
  unfold aV.pt
  by_cases f:E=0
  · rw[qB f]
    have e:Ah D E=D:=qB f
    rw[e]at c
    exact tf K m (λb a g h l=>c _ _ ⟨a,g,h,l⟩)
  · rw[za f]
    have e:Ah D E=0:=za f
    rw[e]at c
    exact tf K m (λb a g h l=>c _ _ ⟨a,g,h,l⟩)
def numOf(L:List Int)(w:Int):Int:=if w∈L then((L.idxOf w+1:Nat):Int)else 0
def AQ(m:Mem)(L:List Int)(w:Int)(p:Int×Int):Int:=if numOf L p.2=0/\w % 8=2/\p.1=Ae w/\m.sizeOf p.2>0 then-1 else numOf L p.2
def ti(m:Mem)(L:List Int)(w:Int)(p:Int×Int):Int:=Ah p.2 (AQ m L w p)
theorem Came.num(C:Came F d H v i z j)(h:Int):
    ∃(a:Array MapEntry) (c:Nat) (b:List (Int×Value)),H[z]?=some (.map a c)/\va (aY .u64) a.toList b/\ ∃x:Int,(yl b h).getD (vi 0)=vi x/\x=numOf j h:=by
  obtain⟨a,c,b,e,f,g⟩:=C.map
  refine⟨a,c,b,e,f,numOf j h,?_,rfl⟩
  rw[g h]
  unfold numOf
  split<;>rfl
theorem xk{a:zV}{I:Nat}{l:LoopState->Option Code->Obj}{m:List Nat}(x:Fr [i] H A)(C:A.size=H.size)(p:i ∉ u/\i≠z/\i<H.size)(q:A[i]?=some (l .busy none))(D:I<=H.size)(y: ∀G∈u,I<=G)
    (K2:KnAt a z k o r d j m) (s:Fr (z::u) A a) (b: ∀G∈m,G∈u\/A.size<=G):
    a[i]?=some (l .busy none)/\ ∃n:List Nat,((aL a i (l .ready none))[i]?=some (l .ready none)/\KnAt (aL a i (l .ready none)) z k o r d j n/\ ∀G∈n,I<=G)/\
      Fr ([i,z]++u) H (aL a i (l .ready none))/\ ∀G∈n,G∈u\/H.size<=G:=by
  obtain⟨v,B,E⟩:=p
  have w:=s.get (by simp;exact⟨B,v⟩) q
  have t:Fr [i] a (aL a i (l .ready none)):=Fr.set
  have c: ∀G∈m,G≠i:=λG g e=>by
    rcases b G g with h | h
    · exact v (e▸h)
    · omega
  refine⟨w,m,⟨aT (aS w),K2.keep t (by simp;omega) (λG g=>by simp;exact c G g),λG g=>?_⟩,?_,λG g=>?_⟩
  · rcases b G g with h | h
    · exact y G h
    · omega
  · exact((x.mono (λF f _=>by simp at f;simp[f])).trans (s.mono (λF f _=>by
      rcases List.mem_cons.1 f with h | h<;>simp[h]))).trans (t.mono (λF f _=>by simp at f;simp[f]))
  · rcases b G g with h | h
    · exact .inl h
    · right;omega
theorem xm{bh bA b2 p mr a c z:Nat}{F:Int}{ws is:List Int}{g:LoopState->Option Code->Obj}{K:zv}
    (hp:HpAt H B C) (ok:SpOK C.sp) (g0:H[bh]?=some (.cells #[vp (some ⟨B.h,0,none⟩)] 23 (0,0))) (g5:H[bA]?=some (.cells #[vu k] 28 (0,0))) (g2:H[b2]?=some (.cells #[.map (some mr)] 149 (0,0)))
    (bw:Came C.sp.mem d H v c mr j) (hw:aD k) (hv:aD r) (Kn:KnAt H p D E F ws is u) (az:ws.length<=1000/\is.length<=1000) (ql:H[a]?=some (g .ready none))
    (hl:a ∉ B.all/\a ∉ u/\a≠bh/\a≠bA/\a≠b2/\a≠p/\a≠mr/\a ∉ kc v) (hz:z<=H.size) (hU: ∀bz∈u,z<=bz)
    (hK: ∀A',(∃T':List Nat,(A'[a]?=some (g .ready none)/\KnAt A' p D E F (ws++[ti C.sp.mem j k (o,r)]) (is++[AQ C.sp.mem j k (o,r)]) T'/\ ∀bz∈T',z<=bz)/\Fr ([a,p]++u) H A'/\ ∀bz∈T',bz∈u\/H.size<=bz)->K VT A'):
    ( H[a]? = some (g .ready none) ∧ ∀ b : Array Obj, b = aL H a (g .busy none) →
           ∃I:Option Nat,hat b (Addr.mk b2 0 none)=some (.map I)/\
           ∃G:Nat,I=some G/\
           ∃(y:Array MapEntry) (Z:Nat) (A:List (Int×Value)),b[G]?=some (.map y Z)/\va (aY .u64) y.toList A/\
           ∃f:Int,(yl A r).getD (vi 0)=vi f/\
           if f=0 then(
            ∃J:Int,hat b (Addr.mk bA 0 none)=some (vu J)/\
            cK.C J b (λau s=> ∃L:Int,au=vi L/\
             if L=2 then(
              ∃M:Int,hat s (Addr.mk bA 0 none)=some (vu M)/\
              eV.C M s (λav t=> ∃N:Int,av=vi N/\
               if o=N then(
                ∃O:zW,hat t (Addr.mk bh 0 none)=some (vp O)/\
                bN.C O r t (λaw Q=> ∃P:Int,aw=vi P/\
                 if P>0 then(
                  aV.C (some (Addr.mk p 0 none)) r (-1) Q (λ_ U=>
                   U[a]?=some (g .busy none)/\
                   K VT (aL U a (g .ready none))))
                 else
                 aV.C (some (Addr.mk p 0 none)) r f Q (λ_ V=>
                  V[a]?=some (g .busy none)/\
                  K VT (aL V a (g .ready none)))))
               else
               aV.C (some (Addr.mk p 0 none)) r f t (λ_ W=>
                W[a]?=some (g .busy none)/\
                K VT (aL W a (g .ready none)))))
             else
             aV.C (some (Addr.mk p 0 none)) r f s (λ_ X=>
              X[a]?=some (g .busy none)/\
              K VT (aL X a (g .ready none)))))
           else
           aV.C (some (Addr.mk p 0 none)) r f b (λ_ Y=>
            Y[a]?=some (g .busy none)/\
            K VT (aL Y a (g .ready none)))):=by
  obtain⟨l1,l2,l3,l4,l5,l6,l7,l8⟩:=hl
  refine⟨ql,λb l=>?_⟩
  have S:Fr [a] H b:=by rw[l];exact Fr.set
  have ay:b.size=H.size:=by rw[l];simp
  have a5:b[a]?=some (g .busy none):=by rw[l];exact aT (aS ql)
  have T: ∀bz,a≠bz->bz ∉ [a]:=λbz h=>by simp;exact λe=>h e.symm
  have ao:=aS ql
  have ac:=bw.keep S (λbz hj=>T _ (λe=>l8 (e▸hj))) (T _ l7)
  have al:=S.get (T _ l5) g2
  have a6:=S.get (T _ l4) g5
  have am:=S.get (T _ l3) g0
  have a3:=hp.keep S (λi a1 hq=>by simp at a1;exact l1 (a1▸hq))
  have zL:=Kn.keep S (T _ l6) (λbz hj=>T _ (λe=>l2 (e▸hj)))
  clear l
  obtain⟨es,cl,ks,m1,m2,n,m3,hn⟩:=ac.num r
  have m : ∀ {Hs : Array Obj} {i : Int}, Ext b Hs → i = AQ C.sp.mem j k (o, r) → aV.C (some (Addr.mk p 0 none)) r i Hs (fun _ Hx =>
                  Hx[a]?=some (g .busy none)/\
                  K VT (aL Hx a (g .ready none))):=λ{Hs i} e hi=>by
    refine HC.mono (wi (zL.ext e) ⟨by omega,by omega⟩) ?_
    rintro _ Hx ⟨T2,K2,f2,an⟩
    have ze:=e.size
    rw[hi]at K2
    obtain⟨d1,d2⟩:=xk S ay ⟨l2,l6,ao⟩ a5 hz hU K2 (e.fr.trans f2) (λbz hj=>by
      rcases an bz hj with h | h
      · exact .inl h
      · right;omega)
    exact⟨d1,hK _ d2⟩
  refine⟨some mr,by rw[aI al];rfl,mr,rfl,es,cl,ks,m1,m2,n,m3,?_⟩
  by_cases x:n=0
  case neg=>
    rw[za x]
    refine m (Ext.refl _) ?_
    unfold AQ;rw[za (λq=>x (hn.trans q.1))];exact hn
  rw[qB x]
  refine⟨k,by rw[aI a6];rfl,HC.mono (fW hw) ?_⟩
  rintro _ s ⟨rfl,R⟩
  refine⟨_,rfl,?_⟩
  by_cases h2:k % 8=2
  case neg=>
    rw[za h2]
    refine m R ?_
    unfold AQ;rw[za (λq=>h2 q.2.1)];exact hn
  rw[qB h2]
  refine⟨k,by rw[aI (R.get a6)];rfl,HC.mono (mV hw) ?_⟩
  rintro _ t ⟨rfl,aj⟩
  refine⟨_,rfl,?_⟩
  have w:=R.trans aj
  by_cases ha:o=Ae k
  case neg=>
    rw[za ha]
    refine m w ?_
    unfold AQ;rw[za (λq=>ha q.2.2.1)];exact hn
  rw[qB ha]
  refine⟨_,by rw[aI (w.get am)];rfl,HC.mono (kR (.real (a3.ext w) ok) hv) ?_⟩
  have hm:yu (some (B,C))=C.sp.mem:=rfl
  rw[hm]
  rintro _ Q ⟨rfl,ak⟩
  refine⟨_,rfl,?_⟩
  have a0:=w.trans ak
  by_cases hs:C.sp.mem.sizeOf r>0
  · rw[qB hs]
    refine m a0 ?_
    unfold AQ;rw[qB ⟨hn.symm.trans x,h2,ha,hs⟩]
  · rw[za hs]
    refine m a0 ?_
    unfold AQ;rw[za (λq=>hs q.2.2.2)];exact hn
theorem get_mem{L:List Int}{v:Int}{k:Nat}(h:L[k]?=some v):v∈L:=by
 obtain⟨hk,rfl⟩:=List.getElem?_eq_some_iff.1 h
 exact List.getElem_mem hk
theorem rT{α β:Type}{l:List α}{g:α->β}(h:l.Nodup)(i: ∀a∈l,∀b∈l,g a=g b->a=b):(l.map g).Nodup:=by
 unfold List.Nodup at*
 rw[List.pairwise_map]
 exact List.Pairwise.imp_of_mem (λd f c e=>c (i _ d _ f e)) h
section
variable {m:Mem} {P:Int->Prop}
theorem xn{L:List Int}(h:(∀w∈L,P w/\m.sizeOf w>0)/\L.Nodup){v:Int}(f:P v):(∀w∈yS m L v,P w/\m.sizeOf w>0)/\(yS m L v).Nodup:=by
 unfold yS
 by_cases q:m.sizeOf v>0/\v ∉ L
 ·rw[qB q]
  refine⟨λw g=>?_,List.nodup_append.2 ⟨h.2,by simp,λa d b c=>?_⟩⟩
  ·rcases List.mem_append.1 g with r | r
   ·exact h.1 w r
   ·simp at r;rw[r];exact⟨f,q.1⟩
  ·simp at c;rw[c];exact λe=>q.2 (e▸d)
 ·rw[za q];exact h
theorem qd: ∀(vs:List Int) {L:List Int},((∀w∈L,P w/\m.sizeOf w>0)/\L.Nodup)->(∀v∈vs,P v)->(∀w∈vs.foldl (yS m) L,P w/\m.sizeOf w>0)/\(vs.foldl (yS m) L).Nodup
 | [],L,h,_=>h
 | v::vs,L,h,hv=>by
  rw[List.foldl_cons]
  exact qd vs (xn h (hv v (by simp))) (λu a=>hv u (by simp[a]))
theorem tj{a:List Int}(c: ∀w∈a,P w)(b: ∀w,P w->m.sizeOf w>0-> ∀v∈(bY m w).map Prod.snd,P v): ∀k,(∀w∈gL m a k,P w/\m.sizeOf w>0)/\(gL m a k).Nodup
 | 0=>qd a (L:=[]) ⟨by simp,by simp⟩ c
 | k+1=>by
  have h:=tj c b k
  show(∀w∈kJ m (gL m a k) k,P w/\m.sizeOf w>0)/\(kJ m (gL m a k) k).Nodup
  unfold kJ
  cases i:(gL m a k)[k]? with
  | none=>exact h
  | some w=>
   obtain⟨e,f⟩:=h.1 w (get_mem i)
   refine qd _ h (λv d=>b w e f v ?_)
   unfold visL at d
   obtain⟨p,g,rfl⟩:=List.mem_map.1 d
   exact List.mem_map.2 ⟨p,(List.mem_filter.1 g).1,rfl⟩
end
theorem xp{s:Sp}{g:Int->Nat}(I:Inv s g)(K:Ba s.mem g){d L:List Int}(N: ∀w∈d,aD w/\Good s.mem g w)(h: ∃k,L=gL s.mem d k/\L.length=k):li s.mem L<=s.mem.words []:=by
 obtain⟨k,rfl,hk⟩:=h
 obtain⟨H,J⟩:=tj (m:=s.mem) (P:=λw=>aD w/\Good s.mem g w) N (λw f T v C=>by
  have o:bE w:=ou (m:=s.mem) (by omega)
  obtain⟨p,F,rfl⟩:=List.mem_map.1 C
  rw[t8 f.2 o]at F
  have:=oQ I K (f.2.2 o).1 p F
  exact⟨this.1,this.2.1⟩) k
 generalize gL s.mem d k=L at*
 have c: ∀w∈L,s.mem.sizeOf w=g (w / 8)/\g (w / 8)≠0/\w=zi s.mem (w / 8):=λw f=>by
  obtain⟨⟨S,E⟩,V⟩:=H w f
  have o:bE w:=ou (m:=s.mem) (by omega)
  exact⟨I.sound.size I.ok.mem S E o,(E.2 o).1,t8 E o⟩
 have G:li s.mem L=(((L.map (· / 8)).map g).sum:Nat):=by
  unfold li
  have: ∀l:List Int,(∀w∈l,s.mem.sizeOf w=g (w / 8))->(l.map s.mem.sizeOf).sum=(((l.map (· / 8)).map g).sum:Nat):=by
   intro l
   induction l with
   | nil=>intro _;rfl
   | cons w l O=>
    intro A
    simp only[List.map_cons,List.sum_cons]
    rw[A w (by simp),O (λv C=>A v (by simp[C]))]
    omega
  exact this L (λw f=>(c w f).1)
 have B:(L.map (· / 8)).Nodup:=rT J (λa j b z e=>by
  rw[(c a j).2.2,(c b z).2.2]
  show zi s.mem (a / 8)=zi s.mem (b / 8)
  rw[show a / 8=b / 8 from e])
 rw[G,Mem.words_cnt I.ok.mem,mU g tops _ B (λa j=>?_) (λa j b z y=>?_)]
 ·unfold Mem.cnt
  refine Int.ofNat_le.2 (qO _ (λx _ u=>?_))
  rw[List.any_eq_true]at u
  obtain⟨a,j,u⟩:=u
  obtain⟨w,f,rfl⟩:=List.mem_map.1 j
  have q:=(c w f).2.1
  have t:=I.sound.lt I.ok.mem q
  unfold AH at u
  simp only[Bool.and_eq_true,decide_eq_true_eq]at u⊢
  obtain⟨i,M⟩: ∃i:Nat,(x:Int)=w / 8+i:=⟨((x:Int)-w / 8).toNat,by omega⟩
  have r:=I.sound.usedAt q (i:=i) (by omega) (λk=>(I.ok.mem.seg k).n.2)
  rw[<-M]at r
  exact⟨r.1,by simp⟩
 ·obtain⟨w,f,rfl⟩:=List.mem_map.1 j
  have q:=(c w f).2.1
  have t:=I.sound.lt I.ok.mem q
  obtain⟨Q,U⟩:=I.sound.used _ q
  have:=(I.ok.mem.seg (w / 8 / 64).toNat).n
  have:=Q.2.1.2.1
  have A:=I.ok.mem.lim
  refine⟨t.1,?_⟩
  unfold tops
  omega
 ·obtain⟨w,f,rfl⟩:=List.mem_map.1 j
  obtain⟨R,D,rfl⟩:=List.mem_map.1 z
  exact I.sound.apart _ _ (c w f).2.1 (c R D).2.1 y
end Go.Proofs.YtfhbhckhmnleoaaGreat
namespace Go.Proofs.YtfhbhckhmnleoaaGreat
open Go Go.Proofs.Tryz
open Go.ChangeShapes Go.WideShapes
variable{d i A B C:Nat}{H D:zV}{j:zW}{k:List Nat}{o:List ko}{r:Blk}{u:Hp}{v z:List Int}
def qe(m:Mem)(w:Int)(i:Nat):Int:=if m.fieldE w (m.typ w) i=0 then m.get (w / 8+1+i)else 0
def wj(m:Mem)(w:Int):Nat:=(m.len w-(bY m w).length).toNat
def nX(m:Mem)(L:List Int)(w:Int):Int×Int×Int×List Int×List Int:=
  (w % 8,m.typ w,m.more w,(bY m w).map (ti m L w)++(List.range (wj m w)).map (qe m w),(bY m w).map (AQ m L w)++(List.range (wj m w)).map (λ_=>(0:Int)))
structure kN (A:zV) (oB:zW) (oN oC:Nat) (ks:List ko) (T:List Nat):Prop where
  len:oN=ks.length
  own:Own A 147 5 oB oN oC (ks.flatMap ko.cells)
  each: ∀k∈ks,k.words.xs.length=k.words.n/\Own A 28 1 k.words.p k.words.n k.words.c (xT k.words.xs)/\k.is.xs.length=k.is.n/\Own A 3 1 k.is.p k.is.n k.is.c (yN k.is.xs)/\ ∀j∈kc k.words.p++kc k.is.p,j∈T
  dis: ∀j∈T,j ∉ kc oB
  lt: ∀j∈T,j<A.size
theorem kN.keep{S:List Nat}{c:zW}{T:List Nat}(h:kN H c d i o T)(f:Fr S H D)(p: ∀j∈kc c,j ∉ S)(e: ∀j∈T,j ∉ S):kN D c d i o T:=by
  refine⟨h.len,h.own.keep f p,λk hk=>?_,h.dis,λj a=>Nat.lt_of_lt_of_le (h.lt j a) f.size⟩
  obtain⟨g,l,m,n,b⟩:=h.each k hk
  exact⟨g,l.keep f (λj a=>e j (b j (List.mem_append_left _ a))),m,n.keep f (λj a=>e j (b j (List.mem_append_right _ a))),b⟩
theorem kN.ext(h:kN H j d i o k)(e:Ext H D):kN D j d i o k:=h.keep (S:=[]) e.fr (by simp) (by simp)
theorem tl(k:ko):kt k.cells=true:=rfl
theorem wk{w p:Int}{T:List Nat}{Kp:zW->Nat->zV->Prop}
    (hp:HpAt H r u) (ok:SpOK u.sp) (g0:H[d]?=some (.cells #[vp (some ⟨r.h,0,none⟩)] 23 (0,0))) (g5:H[i]?=some (.cells #[vu w] 28 (0,0))) (hw:aD w)
    (Kn:KnAt H A (w % 8) (u.sp.mem.typ w) p v z k) (ag:v.length<=1000/\z.length=v.length) (O:kN H j B C o T) (bB:B<=100000000)
    (hd: ∀cc∈A::k,cc ∉ r.all/\cc≠d/\cc≠i/\cc ∉ T/\cc ∉ kc j)
    (hK: ∀R E A' N U',kN A' R (B+1) E (o++[N]) (U'++T)->An N=(w % 8,u.sp.mem.typ w,p,v++(List.range (u.sp.mem.len w-v.length).toNat).map (qe u.sp.mem w),z++(List.range (u.sp.mem.len w-v.length).toNat).map (λ_=>(0:Int)))->
      Fr (A :: k ++ kc j) H A' → (∀ cc ∈ U', cc ∈ k ∨ H.size ≤ cc) → (∀ cc ∈ kc R, cc ∈ kc j ∨ H.size ≤ cc) → Kp R E A') :
            ∃(a1:zw) (ak:Int->zV->Nat),a1 0 H/\ ∀(c9:Int) (D:zV),a1 c9 D->
            ∃xB:zW,∃xN:Nat,∃xC:Nat,hat D ((Addr.mk A 0 none).add 3)=some (vs xB xN xC)/\
            ∃U:zW,hat D (Addr.mk d 0 none)=some (vp U)/\
            ∃V:Int,hat D (Addr.mk i 0 none)=some (vu V)/\
            cL.C U V D (λam g=> ∃W:Int,am=vi W/\aM g ((Addr.mk A 0 none).add 3) 0 [vs xB xN xC]/\
             if(xN:Int)<W then(
              ∃X:zW,hat g (Addr.mk d 0 none)=some (vp X)/\
              ∃Y:Int,hat g (Addr.mk i 0 none)=some (vu Y)/\
              ∃Z:Int,hat g ((Addr.mk A 0 none).add 1)=some (vi Z)/\
              dD.C X Y Z c9 g (λan av=> ∃ra:Int,∃al:Int,an=.tuple #[vu ra,vi al]/\
               aV.C (some (Addr.mk A 0 none)) ra 0 av (λ_ aa=>
                (a1 (IntKind.wrap .i64 (c9+1)) aa/\ak (IntKind.wrap .i64 (c9+1)) aa<ak c9 D))))
             else
             ∃y:Int,∃m:Int,∃l:Int,∃b:zW,∃f:Nat,∃c:Nat,∃s:zW,∃x:Nat,∃t:Nat,aM g (Addr.mk A 0 none) 0 [vi y,vi m,vu l,vs b f c,vs s x t]/\
             ∀(ac:Nat) (J:zV),ac=g.size->J=g.push (.cells #[vi y,vi m,vu l,vs b f c,vs s x t] 147)->
             bI 5 147 72 [vi 0,vi 0,vu 0,VN,VN] j B C (some (Addr.mk ac 0 none)) 1 J (λR E a0=>Kp R E a0)):=by
  have bz:=u.sp.mem.len_rng w
  have bw:=Kn.lt
  have hm:yu (some (r,u))=u.sp.mem:=rfl
  refine⟨λc9 A1=> ∃(cd:Nat) (U1:List Nat),c9=cd/\(cd=0\/(v.length:Int)+cd<=u.sp.mem.len w)/\Fr (A::k) H A1/\KnAt A1 A (w % 8) (u.sp.mem.typ w) p (v++(List.range cd).map (qe u.sp.mem w)) (z++(List.range cd).map (λ_=>(0:Int))) U1/\ ∀cc∈U1,cc∈k\/H.size<=cc,λc9 _=>(u.sp.mem.len w-(v.length+c9)).toNat,
    ⟨0,k,rfl,.inl rfl,Fr.refl _ _,by simpa using Kn,λcc a=> .inl a⟩,?_⟩
  rintro _ A1 ⟨cd,U1,rfl,hk,f1,K1,P⟩
  have aj:=hp.keep f1 (λc9 Q=>(hd c9 Q).1)
  have h0:=f1.get (λh=>(hd _ h).2.1 rfl) g0
  have h5:=f1.get (λh=>(hd _ h).2.2.1 rfl) g5
  have aw:=K1
  obtain⟨B1,c1,B2,c2,k1,k2,k3,k4,kU,k6⟩:=aw
  have a6:(v++(List.range cd).map (qe u.sp.mem w)).length=v.length+cd:=by simp
  have a7:(z++(List.range cd).map (λ_=>(0:Int))).length=v.length+cd:=by simp[ag.2]
  refine⟨B1,_,c1,fD k1 3,_,by rw[aI h0];rfl,w,by rw[aI h5];rfl,HC.mono (mT (.real aj ok) hw) ?_⟩
  rw[hm]
  rintro _ A2 ⟨rfl,I⟩
  have b0:=aj.ext I
  have M:=I.get k1
  have K2:=K1.ext I
  have z1:=f1.size
  have z2:=I.size
  refine⟨_,rfl,⟨by rw[show Addr.add _ 0=_ from rfl];exact fD M 3,trivial⟩,?_⟩
  rw[a6]at M⊢
  rw[a7]at M
  by_cases ah:((v.length+cd:Nat):Int)<u.sp.mem.len w
  · rw[qB ah]
    refine⟨_,by rw[aI (I.get h0)];rfl,w,by rw[aI (I.get h5)];rfl,u.sp.mem.typ w,fD M 1,?_⟩
    refine HC.mono (qJ (.real b0 ok) hw ⟨by omega,by omega⟩) ?_
    rw[hm]
    rintro _ A3 ⟨rfl,e3⟩
    refine⟨_,_,rfl,HC.mono (wi (K2.ext e3) ⟨by omega,by omega⟩) ?_⟩
    rintro _ A4 ⟨U4,K4,f4,az⟩
    have b1:IntKind.wrap .i64 ((cd:Int)+1)=((cd+1:Nat):Int):=by rw[xl (n:=(cd:Int)+1) (by omega)];omega
    rw[b1]
    have z3:=e3.size
    refine⟨⟨cd+1,U4,rfl,by omega,(f1.trans' ((I.trans e3).fr.trans f4) (λc9 Q _=>Q) (λc9 Q hl=>?_)),?_,λcc a=>?_⟩,by show(u.sp.mem.len w-((v.length:Int)+((cd+1:Nat):Int))).toNat< (u.sp.mem.len w-((v.length:Int)+(cd:Int))).toNat;omega⟩
    · rcases List.mem_cons.1 Q with h | h
      · simp[h]
      · rcases P c9 h with q | q
        · simp[q]
        · omega
    · have e1:v++(List.range (cd+1)).map (qe u.sp.mem w)=(v++(List.range cd).map (qe u.sp.mem w))++[Ah (if u.sp.mem.fieldE w (u.sp.mem.typ w) (cd:Int)=0 then u.sp.mem.get (w / 8+1+(cd:Int))else 0) 0]:=by
        rw[List.range_succ,List.map_append,List.append_assoc];rfl
      have I:z++(List.range (cd+1)).map (λ_=>(0:Int))=(z++(List.range cd).map (λ_=>(0:Int)))++[0]:=by
        rw[List.range_succ,List.map_append,List.append_assoc];rfl
      rw[e1,I];exact K4
    · rcases az cc a with h | h
      · rcases P cc h with q | q
        · exact .inl q
        · exact .inr q
      · right;omega
  · rw[za ah]
    have aZ:cd=(u.sp.mem.len w-v.length).toNat:=by omega
    refine⟨_,_,_,_,_,_,_,_,_,kf M,λb7 J aU K=>?_⟩
    have F:Ext A2 J:=Ext.push' K
    have bN:J.size=A2.size+1:=by rw[K];simp
    have O1:kN A2 j B C o T:=(O.keep f1 (λcc a h=>(hd cc h).2.2.2.2 a) (λcc a h=>(hd cc h).2.2.2.1 a)).ext I
    have b8:=F
    obtain⟨N,a5⟩: ∃N:ko,N=⟨w % 8,u.sp.mem.typ w,p,⟨B1,v.length+cd,c1,v++(List.range cd).map (qe u.sp.mem w)⟩,⟨B2,v.length+cd,c2,z++(List.range cd).map (λ_=>(0:Int))⟩⟩:=⟨_,rfl⟩
    refine cH (ys:=N.cells) (O1.own.ext F) (by rw[a5];exact kf (aF aU K)) rfl (tl N) rfl (by omega) ?_
    intro R E a0 b2 G ai
    have bP:=G.size
    have bA:=O1.own.lt
    have L: ∀cc∈U1,cc ∉ kc j:=λcc a h=>by
      rcases P cc a with q | q
      · exact(hd cc (by simp[q])).2.2.2.2 h
      · have:=O.own.lt cc h;omega
    have S: ∀cc∈U1,cc<A2.size:=λcc a=>by have:=K1.lt cc (by simp[a]);omega
    have af:=O.lt
    have a4: ∀cc∈kc R,cc∈kc j\/A2.size<=cc:=λcc a=>by
      rcases ai cc a with h | h
      · exact .inl h
      · right;omega
    subst kU
    refine hK R E a0 N (kc B1++kc B2) ⟨?_,?_,?_,?_,?_⟩ ?_ ?_ P (λcc a=>?_)
    · rw[O1.len];simp
    · rw[List.flatMap_append]
      have e:[N].flatMap ko.cells=N.cells:=by simp
      rw[e];exact b2
    · intro k' aW
      rcases List.mem_append.1 aW with h | h
      · obtain⟨bk,a2,a3,bn,ax⟩:=O1.each k' h
        refine⟨bk,(a2.ext F).keep G (λcc a=>O1.dis cc (ax cc (List.mem_append_left _ a))),a3,(bn.ext F).keep G (λcc a=>O1.dis cc (ax cc (List.mem_append_right _ a))),λcc a=>List.mem_append_right _ (ax cc a)⟩
      · simp at h
        rw[h,a5]
        have ae:=I.trans F
        rw[a6]at k2
        rw[a7]at k3
        exact⟨a6,(k2.ext ae).keep G (λcc a=>L cc (List.mem_append_left _ a)),a7,(k3.ext ae).keep G (λcc a=>L cc (List.mem_append_right _ a)),λcc a=>List.mem_append_left _ a⟩
    · intro cc a h
      rcases List.mem_append.1 a with q | q
      · rcases a4 cc h with ce | ce
        · exact L cc q ce
        · have:=S cc q;omega
      · rcases a4 cc h with ce | ce
        · exact O1.dis cc q ce
        · have:=af cc q;omega
    · intro cc a
      rcases List.mem_append.1 a with q | q
      · have:=S cc q;omega
      · have:=af cc q;omega
    · rw[a5,<-aZ];rfl
    · exact(f1.mono (λc9 Q _=>List.mem_append_left _ Q)).trans ((I.trans F).fr.trans (G.mono (λc9 Q _=>List.mem_append_right _ Q)))
    · rcases a4 cc a with ce | ce
      · exact .inl ce
      · right;omega
open Go.ChangeShapes Go.WideShapes
theorem oS(m:Mem)(w:Int):(bY m w).length<=63:=by
  have a:=kW m w
  unfold bY
  split
  · simp
  · rw[List.length_map,List.length_range]
    have:0<=iC m w:=by unfold iC;split<;>omega
    omega
theorem rU{m:Mem}(c:bC m){w a v:Int}(h:(a,v)∈bY m w):aD v:=by
  unfold bY at h
  split at h
  · cases h
  · obtain⟨i,_,b⟩:=List.mem_map.1 h
    cases b
    exact Mem.read_word c _
set_option maxHeartbeats 1000000 in
theorem nY{c oN oC:Nat}{oB:zW}{w:Int}{L:List Int}{Kp:zW->Nat->zV->zV->Prop}
    (hp:HpAt H r u) (ok:SpOK u.sp) (g0:H[d]?=some (.cells #[vp (some ⟨r.h,0,none⟩)] 23 (0,0))) (g5:H[i]?=some (.cells #[vu w] 28 (0,0))) (g2:H[A]?=some (.cells #[.map (some C)] 149 (0,0)))
    (cW:Came u.sp.mem v H j c C L) (hw:aD w) (g6:H[B]?=some (.cells #[vi (w % 8),vi (u.sp.mem.typ w),vu (u.sp.mem.more w),VN,VN] 147 (0,0)))
    (O:kN H oB oN oC o k) (c7:oN<=100000000) (hd: ∀cZ,(cZ∈r.all\/cZ=d\/cZ=i\/cZ=A\/cZ=C\/cZ∈kc j\/cZ∈k\/cZ∈kc oB)->cZ<B)
    (hK: ∀aU Y I A' kn U',I.size=H.size+2->kN A' aU (oN+1) Y (o++[kn]) (U'++k)->An kn=nX u.sp.mem L w->A'[I.size]?=some (.deferred (some []))->Fr (B::kc oB) H A'->(∀cZ∈U',H.size+4<=cZ)->(∀cZ∈kc aU,cZ∈kc oB\/H.size+4<=cZ)->Kp aU Y I A'):
         ∃ac:zW,hat H (Addr.mk d 0 none)=some (vp ac)/\
         ∃ae:Int,hat H (Addr.mk i 0 none)=some (vu ae)/\
         bQ.C ac ae H (λb3 I=>b3=b3/\
          ∀(t:LoopState->Option Code->Obj) (f:Nat) (s:zV),f=I.size+1->s=(I.push (.deferred (some []))).push (t .ready none)->
          ∀vY:Value,(∀(af:Int) (g:Int) (a5:zV) (Z:zv),a5[f]?=some (t .ready none)->
          (a5[f]?=some (t .ready none)/\ ∀W:zV,W=aL a5 f (t .busy none)->
           ∃ag:Option Nat,hat W (Addr.mk A 0 none)=some (.map ag)/\
           ∃ab:Nat,ag=some ab/\
           ∃(a6:Array MapEntry) (bf:Nat) (aa:List (Int×Value)),W[ab]?=some (.map a6 bf)/\va (aY .u64) a6.toList aa/\
           ∃x:Int,(yl aa g).getD (vi 0)=vi x/\
           if x=0 then(
            ∃ah:Int,hat W (Addr.mk i 0 none)=some (vu ah)/\
            cK.C ah W (λcd ax=> ∃ai:Int,cd=vi ai/\
             if ai=2 then(
              ∃aj:Int,hat ax (Addr.mk i 0 none)=some (vu aj)/\
              eV.C aj ax (λce ay=> ∃ak:Int,ce=vi ak/\
               if af=ak then(
                ∃al:zW,hat ay (Addr.mk d 0 none)=some (vp al)/\
                bN.C al g ay (λcf b4=> ∃am:Int,cf=vi am/\
                 if am>0 then(
                  aV.C (some (Addr.mk B 0 none)) g (-1) b4 (λ_ b5=>
                   b5[f]?=some (t .busy none)/\
                   Z VT (aL b5 f (t .ready none))))
                 else
                 aV.C (some (Addr.mk B 0 none)) g x b4 (λ_ b6=>
                  b6[f]?=some (t .busy none)/\
                  Z VT (aL b6 f (t .ready none)))))
               else
               aV.C (some (Addr.mk B 0 none)) g x ay (λ_ b7=>
                b7[f]?=some (t .busy none)/\
                Z VT (aL b7 f (t .ready none)))))
             else
             aV.C (some (Addr.mk B 0 none)) g x ax (λ_ b8=>
              b8[f]?=some (t .busy none)/\
              Z VT (aL b8 f (t .ready none)))))
           else
           aV.C (some (Addr.mk B 0 none)) g x W (λ_ b9=>
            b9[f]?=some (t .busy none)/\
            Z VT (aL b9 f (t .ready none))))->
          FC prog vY #[vi af,vu g] a5 Z)->
          FE prog b3 #[vY] s (λ_ ba=>
           (ba[f]?=some (t .ready none)/\ ∀a1:zV,a1=aL ba f (t .exhausted none)->
            ∃(az:zw) (bi:Int->zV->Nat),az 0 a1/\ ∀(cX:Int) (X:zV),az cX X->
            ∃xB:zW,∃xN:Nat,∃xC:Nat,hat X ((Addr.mk B 0 none).add 3)=some (vs xB xN xC)/\
            ∃an:zW,hat X (Addr.mk d 0 none)=some (vp an)/\
            ∃ao:Int,hat X (Addr.mk i 0 none)=some (vu ao)/\
            cL.C an ao X (λbk y=> ∃ap:Int,bk=vi ap/\aM y ((Addr.mk B 0 none).add 3) 0 [vs xB xN xC]/\
             if(xN:Int)<ap then(
              ∃au:zW,hat y (Addr.mk d 0 none)=some (vp au)/\
              ∃av:Int,hat y (Addr.mk i 0 none)=some (vu av)/\
              ∃aw:Int,hat y ((Addr.mk B 0 none).add 1)=some (vi aw)/\
              dD.C au av aw cX y (λbl bu=> ∃ra:Int,∃bj:Int,bl=.tuple #[vu ra,vi bj]/\
               aV.C (some (Addr.mk B 0 none)) ra 0 bu (λ_ bb=>
                (az (IntKind.wrap .i64 (cX+1)) bb/\bi (IntKind.wrap .i64 (cX+1)) bb<bi cX X))))
             else
             ∃V:Int,∃G:Int,∃F:Int,∃n:zW,∃q:Nat,∃p:Nat,∃Q:zW,∃T:Nat,∃R:Nat,aM y (Addr.mk B 0 none) 0 [vi V,vi G,vu F,vs n q p,vs Q T R]/\
             ∀(be:Nat) (bc:zV),be=y.size->bc=y.push (.cells #[vi V,vi G,vu F,vs n q p,vs Q T R] 147)->
             bI 5 147 72 [vi 0,vi 0,vu 0,VN,VN] oB oN oC (some (Addr.mk be 0 none)) 1 bc (λaU Y bw=>Kp aU Y I bw))))):=by
  refine⟨_,by rw[aI g0];rfl,w,by rw[aI g5];rfl,?_⟩
  refine bQ.link ?_
  unfold bQ.pt
  intro c0 H1 bZ aW c1 H2 c5 aZ
  have e1:Ext H H1:=Ext.push' aW
  have e2:Ext H1 H2:=Ext.push' aZ
  have z1:H1.size=H.size+1:=by rw[aW];simp
  have z2:H2.size=H1.size+1:=by rw[aZ];simp
  refine⟨rfl,λt f s cA P vY hY=>?_⟩
  have e3:Ext H2 s:=(Ext.push' rfl).trans (Ext.push' P)
  have z3:s.size=H2.size+2:=by rw[P];simp
  have bg:s[H2.size]?=some (.deferred (some [])):=by
    have:(H2.push (.deferred (some [])))[H2.size]?=some (.deferred (some [])):=aF rfl rfl
    exact(Ext.push' P).get this
  have bL:s[f]?=some (t .ready none):=aF (by simp;omega) P
  have e:=(e1.trans e2).trans e3
  have cB:=aS g6
  have b0: ∀cX,cX∈[f,B]->cX=f\/cX=B:=λcX m=>by simpa using m
  have old: ∀cZ,(cZ∈r.all\/cZ=d\/cZ=i\/cZ=A\/cZ=C\/cZ∈kc j\/cZ∈k\/cZ∈kc oB)->cZ ∉ [f,B]:=λcZ b h=>by
    have:=hd cZ b
    rcases b0 cZ h with h | h<;>omega
  refine FE.of2 (enters_of func138 (by kernel_rfl) rfl) rfl (oz (w:=w) (S:=[f,B])
    (J:=λl U D=>D[f]?=some (t .ready none)/\KnAt D B (w % 8) (u.sp.mem.typ w) (u.sp.mem.more w) (l.map (ti u.sp.mem L w)) (l.map (AQ u.sp.mem L w)) U/\ ∀cZ∈U,s.size<=cZ)
    (hp.ext e) ok ((e2.trans e3).get (aF bZ aW)) (e3.get (aF c5 aZ)) hw (λcX m=>⟨λhq=>old cX (.inl hq) m,by rcases b0 cX m with h | h<;>omega,by rcases b0 cX m with h | h<;>omega⟩)
    (λl U D D' ⟨h1,h2,h3⟩ ee=>⟨ee.get h1,h2.ext ee,h3⟩) (λl U D h cZ b=>h.2.2 cZ b)
    (λb2 a d1 cn U D a9 N hJ=>?_) ⟨bL,⟨none,0,none,0,e.get g6,gZ,gZ,by simp,rfl,by simp⟩,by simp⟩ (λU D hJ N=>?_))
  · obtain⟨ql,Kn,hU⟩:=hJ
    have c9:aD d1:=rU (a:=a) ok.mem (by rw[a9];simp)
    have z0:=N.size
    have cC:b2.length<=63:=by
      have:=oS u.sp.mem w
      rw[a9]at this;simp at this;omega
    refine(show∀K:zv,(∀A',(∃T':List Nat,(A'[f]?=some (t .ready none)/\KnAt A' B (w % 8) (u.sp.mem.typ w) (u.sp.mem.more w) (b2.map (ti u.sp.mem L w)++[ti u.sp.mem L w (a,d1)]) (b2.map (AQ u.sp.mem L w)++[AQ u.sp.mem L w (a,d1)]) T'/\ ∀cZ∈T',s.size<=cZ)/\
        Fr ([f,B]++U) D A'/\ ∀cZ∈T',cZ∈U\/D.size<=cZ)->K VT A')->FC prog vY #[vi a,vu d1] D K from λK bP=>hY a d1 D K ql (xm (K:=K) (z:=s.size) ((hp.ext e).keep N (λcX m hq=>old cX (.inl hq) m)) ok
        (N.get (old _ (.inr (.inl rfl))) (e.get g0)) (N.get (old _ (.inr (.inr (.inl rfl)))) (e.get g5)) (N.get (old _ (.inr (.inr (.inr (.inl rfl))))) (e.get g2)) ((cW.ext e).keep N (λcZ b=>old cZ (by simp[b])) (old _ (by simp))) hw c9 Kn ⟨by simp;omega,by simp;omega⟩ ql ?_ z0 hU bP)) _ (λA' ⟨T',⟨q1,q2,q3⟩,q4,q5⟩=> .inl ⟨rfl,T',⟨q1,by rw[List.map_append,List.map_append];exact q2,q3⟩,q4,q5⟩)
    have d0: ∀cZ,(cZ∈r.all\/cZ=d\/cZ=i\/cZ=A\/cZ=C\/cZ∈kc j\/cZ∈k\/cZ∈kc oB)->f≠cZ:=λcZ b=>by have:=hd cZ b;omega
    exact⟨λh=>d0 f (.inl h) rfl,λh=>by have:=hU f h;omega,d0 _ (by simp),d0 _ (by simp),d0 _ (by simp),by omega,d0 _ (by simp),λh=>d0 f (by simp[h]) rfl⟩
  · obtain⟨ql,Kn,hU⟩:=hJ
    refine⟨ql,λa1 a7=>?_⟩
    have M:Fr [f] D a1:=by rw[a7];exact Fr.set
    have z0:=N.size
    have cM:a1.size=D.size:=by rw[a7];simp
    have E: ∀cZ,(cZ∈r.all\/cZ=d\/cZ=i\/cZ=A\/cZ=C\/cZ∈kc j\/cZ∈k\/cZ∈kc oB)->cZ ∉ [f]:=λcZ b h=>by
      have:=hd cZ b;simp at h;omega
    have bU: ∀cZ∈B::U,B<=cZ:=λcZ b=>by
      rcases List.mem_cons.1 b with h | h
      · omega
      · have:=hU cZ h;omega
    have a2: ∀cZ∈B::U,∀cX,(cX∈r.all\/cX=d\/cX=i\/cX=A\/cX=C\/cX∈kc j\/cX∈k\/cX∈kc oB)->cZ≠cX:=λcZ b cX m=>by have:=bU cZ b;have:=hd cX m;omega
    refine wk (((hp.ext e).keep N (λcX m hq=>old cX (.inl hq) m)).keep M (λcX m hq=>E cX (.inl hq) m)) ok (M.get (E _ (by simp)) (N.get (old _ (by simp)) (e.get g0))) (M.get (E _ (by simp)) (N.get (old _ (by simp)) (e.get g5))) hw
      (Kn.keep M (by simp;omega) (λcZ b=>by have:=hU cZ b;simp;omega)) ⟨by have:=oS u.sp.mem w;simp;omega,by simp⟩ (((O.ext e).keep N (λcZ b=>old cZ (by simp[b])) (λcZ b=>old cZ (by simp[b]))).keep M (λcZ b=>E cZ (by simp[b])) (λcZ b=>E cZ (by simp[b]))) c7
      (λcZ b=>⟨λh=>a2 cZ b cZ (.inl h) rfl,a2 cZ b _ (by simp),a2 cZ b _ (by simp),λh=>a2 cZ b cZ (by simp[h]) rfl,λh=>a2 cZ b cZ (by simp[h]) rfl⟩) ?_
    intro aU Y A' kn U' O' hk fA bR bX
    have c6:H2.size ∉ B::U++kc oB:=λh=>by
      rcases List.mem_append.1 h with h | h
      · rcases List.mem_cons.1 h with h | h
        · omega
        · have:=hU _ h;omega
      · have:=hd H2.size (by simp[h]);omega
    refine hK aU Y H2 A' kn U' (by omega) O' ?_ (fA.get c6 (M.get (by simp;omega) (N.get (by simp;omega) bg))) ?_ (λcZ b=>?_) (λcZ b=>?_)
    · rw[hk]
      unfold nX wj
      rw[List.length_map]
    · refine e.fr.trans' ((N.mono (λcX m _=>List.mem_append_left _ m) (S':=[f,B]++(U++kc oB))).trans ((M.mono (λcX m _=>by simp at m;simp[m])).trans (fA.mono (λcX m _=>by
        rcases List.mem_append.1 m with h | h
        · rcases List.mem_cons.1 h with h | h
          · simp[h]
          · simp[h]
        · simp[h])))) (S:=[]) (λcX m _=>by simp at m) (λcX m hl=>?_)
      simp at m
      rcases m with h | h | h | h
      · omega
      · simp[h]
      · have:=hU cX h;omega
      · simp[h]
    · rcases bR cZ b with h | h
      · have:=hU cZ h;omega
      · omega
    · rcases bX cZ b with h | h
      · exact .inl h
      · right;omega
open Go.ChangeShapes Go.WideShapes
def Bv(roots L:List Int):Int×Int×Int×List Int×List Int:=(0,0,0,roots.map (λw=>Ah w (numOf L w)),roots.map (numOf L))
def Bg(m:Mem)(roots L:List Int):List (Int×Int×Int×List Int×List Int):=Bv roots L::L.map (nX m L)
def ub(m:Mem)(roots L:List Int)(H4:zV)(oB:zW)(oN oC:Nat)(s:Int)(ms:List Nat)(A:zV):Prop:=
 ∃(k:Nat) (ks:List ko) (T:List Nat),s=k/\k<=L.length/\oN=k+1/\kN A oB oN oC ks T/\ks.map An=Bv roots L::(L.take k).map (nX m L)/\Ext H4 A/\(∀j∈T,H4.size<=j)/\(∀j∈kc oB,H4.size<=j)/\ms.Nodup/\
  ∀D∈ms,A[D]?=some (.deferred (some []))/\H4.size<=D/\D ∉ T/\D ∉ kc oB
theorem wm{m:Mem}{a b e:zV}{l:zW}{T g:List Nat}{x:ko}(hk:B<z.length)(S:d=B+1)(O:kN D j d i o T)
  (u:o.map An=Bv v z::(z.take B).map (nX m z)) (F:Ext H D) (N: ∀Z∈T,H.size<=Z) (G: ∀Z∈kc j,H.size<=Z) (w:k.Nodup) (I: ∀X∈k,D[X]?=some (.deferred (some []))/\H.size<=X/\X ∉ T/\X ∉ kc j)
  (n:Ext D a) (R:D.size<=C) (L:b.size=a.size+2) (M:kN e l (d+1) A (o++[x]) (g++T)) (t:An x=nX m z z[B]) (P:e[b.size]?=some (.deferred (some []))) (f:Fr (C::kc j) a e)
  (r: ∀Z∈g,a.size+4<=Z) (c: ∀Z∈kc l,Z∈kc j\/a.size+4<=Z):ub m v z H l (d+1) A ((B+1:Nat):Int) (b.size::k) e:=by
 have V:=F.size
 have W:=n.size
 have q:=O.lt
 have p:=O.own.lt
 refine⟨B+1,o++[x],g++T,rfl,hk,by omega,M,?_,(F.trans n).fr_trans f (λY Q=>?_),λZ s=>?_,λZ s=>?_,?_,λX h=>?_⟩
 ·rw[List.map_append,u,List.take_succ_eq_append_getElem hk,List.map_append]
  simp[t]
 ·rcases List.mem_cons.1 Q with h | h
  ·omega
  ·exact G Y h
 ·rcases List.mem_append.1 s with h | h
  ·have:=r Z h;omega
  ·exact N Z h
 ·rcases c Z s with h | h
  ·exact G Z h
  ·omega
 ·rw[List.nodup_cons]
  exact⟨λh=>by have:=aS (I _ h).1;omega,w⟩
 ·rcases List.mem_cons.1 h with h | h
  ·subst h
   refine⟨P,by omega,λh=>?_,λh=>?_⟩
   ·rcases List.mem_append.1 h with h | h
    ·have:=r _ h;omega
    ·have:=q _ h;omega
   ·rcases c _ h with h | h
    ·have:=p _ h;omega
    ·omega
  ·obtain⟨y,J,K,E⟩:=I X h
   have U:=aS y
   refine⟨f.get (λh=>?_) (n.get y),J,λh=>?_,λh=>?_⟩
   ·rcases List.mem_cons.1 h with h | h
    ·omega
    ·exact E h
   ·rcases List.mem_append.1 h with h | h
    ·have:=r _ h;omega
    ·exact K h
   ·rcases c _ h with h | h
    ·exact E h
    ·omega
set_option maxHeartbeats 2000000 in
theorem uS(hp:HpAt H r u)(Z:SpOK u.sp)(hr:Nums H .u64 j d v)(cF:d<=1000000)(cI: ∀w∈v,aD w)(cE: ∀ea∈kc j,ea<H.size):
  fP.C (some ⟨r.h,0,none⟩) j d i H (λeb A'=> ∃(oB:zW) (oC:Nat) (ks:List ko) (T:List Nat) (L:List Int),(∃k,L=gL u.sp.mem v k/\L.length=k)/\eb=vs oB ks.length oC/\kN A' oB ks.length oC ks T/\ks.map An=Bg u.sp.mem v L/\(∀ea∈T,H.size<=ea)/\(∀ea∈kc oB,H.size<=ea)/\Ext H A'/\L.length<=524288/\ ∀w∈L,aD w):=by
 refine HC.via λR hR=>fP.link ?_
 unfold fP.pt zY
 intro cX H1 cv ak
 have hb:=hp.lt
 have e1:Ext H H1:=Ext.push' ak
 have z1:H1.size=H.size+1:=by rw[ak];simp
 have g0:=aF cv ak
 refine⟨_,by rw[aI g0];rfl,HC.mono (wg (hp.ext e1) Z (hr.ext e1) cF cI (λea p=>by have:=cE ea p;omega)) ?_⟩
 rintro _ H2 ⟨B,c,mr,L,rfl,C,hB,dF,e2⟩
 have dC:=C.len
 refine⟨B,_,c,some mr,rfl,λc7 H3 bm al=>?_⟩
 have z2:=e2.size
 have z3:H3.size=H2.size+1:=by rw[al];simp
 obtain⟨c3,s3⟩:=jN (A3:=aP H3 (Addr.mk c7 0 none) [.map (some mr)] 0) bm al [.map (some mr)] rfl
 refine⟨c3,λH4 bg cZ H5 cw am=>?_⟩
 obtain⟨g2,e4⟩:=s3 rfl
 rw[<-bg]at g2 e4
 have X:H4[c7]?=some (.cells #[.map (some mr)] 149 (0,0)):=g2
 have z4:H4.size=H3.size:=by rw[bg,bV _ _ _ _ _ (aF bm al)];simp
 have e5:Ext H4 H5:=Ext.push' am
 have z5:H5.size=H4.size+1:=by rw[am];simp
 have E4:=(e1.trans e2).trans e4
 have C4:=C.ext e4
 have b8:=(e2.trans e4).get g0
 have br:=hp.ext E4
 have r4:=hr.ext E4
 have dH:=hr.len
 obtain⟨_,_,_,cL,_,_⟩:=C4.map
 have dM:=aS cL
 have Bl:=C4.own.lt
 have dr:=aS X
 have dq:=aS b8
 refine⟨λe9 A1=> ∃(k:Nat) (U:List Nat),e9=k/\k<=v.length/\KnAt A1 cZ 0 0 0 ((v.take k).map (λw=>Ah w (numOf L w))) ((v.take k).map (numOf L)) U/\Ext H4 A1/\ ∀ea∈U,H5.size<=ea,λe9 _=>((d:Int)-e9).toNat,
  ⟨0,[],rfl,by omega,⟨none,0,none,0,aF cw am,gZ,gZ,by simp,rfl,by simp⟩,e5,by simp⟩,?_⟩
 rintro _ H6 ⟨k,U,rfl,hk,K6,e6,ao⟩
 by_cases au:(k:Int)< (d:Int)
 ·rw[qB au]
  have M:k<v.length:=by omega
  obtain⟨pa,p1,p2⟩:=(r4.ext e6).at M
  obtain⟨es,cl,ks,m1,m2,n,m3,hn⟩:=(C4.ext e6).num v[k]
  refine⟨pa,p1,⟨by omega,au⟩,_,by rw[show Int.toNat (k:Int)=k by omega];exact p2,some mr,by rw[aI (e6.get X)];rfl,mr,rfl,es,cl,ks,m1,m2,n,m3,?_⟩
  refine HC.mono (wi K6 ⟨by simp;omega,by simp;omega⟩) ?_
  rintro _ H7 ⟨U7,K7,f7,cu⟩
  have av:IntKind.wrap .i64 ((k:Int)+1)=((k+1:Nat):Int):=by rw[xl (n:=(k:Int)+1) (by omega)];omega
  rw[av]
  have z6:=e6.size
  have bn:=K6.lt cZ (by simp)
  refine⟨⟨k+1,U7,rfl,M,?_,e6.fr_trans f7 (λe9 hi=>?_),λea p=>?_⟩,by show((d:Int)-((k+1:Nat):Int)).toNat< ((d:Int)-(k:Int)).toNat;omega⟩
  ·rw[List.take_succ_eq_append_getElem M,List.map_append,List.map_append]
   rw[hn]at K7
   exact K7
  ·rcases List.mem_cons.1 hi with h | h
   ·omega
   ·have:=ao e9 h;omega
  ·rcases cu ea p with h | h
   ·exact ao ea h
   ·omega
 rw[za au]
 rw[List.take_of_length_le (by omega)]at K6
 obtain⟨B1,c1,B2,c2,k1,k2,k3,k4,kU,k6⟩:=K6
 have bs:(v.map (λw=>Ah w (numOf L w))).length=v.length:=by simp
 have bu:(v.map (numOf L)).length=v.length:=by simp
 rw[bs]at k1 k2
 rw[bu]at k1 k3
 refine⟨_,_,_,_,_,_,_,_,_,kf k1,λds H8 cx an=>?_⟩
 have e8:Ext H6 H8:=Ext.push' an
 have z8:H8.size=H6.size+1:=by rw[an];simp
 have z6:=e6.size
 have bn:=aS k1
 obtain⟨Y,m⟩: ∃Y:ko,Y=⟨0,0,0,⟨B1,v.length,c1,v.map (λw=>Ah w (numOf L w))⟩,⟨B2,v.length,c2,v.map (numOf L)⟩⟩:=⟨_,rfl⟩
 have bj: ∀ea∈U,ea<H6.size:=λea p=>by
  subst kU
  rcases List.mem_append.1 p with h | h
  ·exact k2.lt ea h
  ·exact k3.lt ea h
 have O8:kN H8 (some (Addr.mk ds 0 none)) 1 1 [Y] U:=by
  refine⟨rfl,?_,λk' bp=>?_,λea p h=>?_,λea p=>by have:=bj ea p;omega⟩
  ·have e:[Y].flatMap ko.cells=Y.cells:=by simp
   rw[e,m]
   refine⟨rfl,_,aF cx an,rfl,Nat.le_refl _,rfl,λea p=>?_⟩
   rw[List.getElem?_toArray]
  ·simp at bp
   rw[bp,m]
   subst kU
   exact⟨bs,k2.ext e8,bu,k3.ext e8,λea p=>p⟩
  ·have:=bj ea p;simp at h;omega
 refine⟨ub u.sp.mem v L H4,λ_ _ _ s _ _=>((L.length:Int)-s).toNat,⟨0,[Y],U,rfl,by omega,rfl,O8,by rw[m];rfl,e6.trans e8,λea p=>by have:=ao ea p;omega,λea p=>by simp at p;omega,List.nodup_nil,by simp⟩,?_⟩
 rintro oB oN oC _ ms H9 ⟨k,ks,T,rfl,dE,cB,O,ap,ee,hT,b9,bq,hD⟩
 by_cases a1:(k:Int)< (L.length:Int)
 case neg=>
  rw[za a1]
  rw[List.take_of_length_le (by omega)]at ap
  refine nV ms H9 bq (λD h=>(hD D h).1) (λA2 f2=>?_)
  have hl:=O.len
  rw[hl]
  rw[hl]at O
  exact hR _ _ ⟨oB,oC,ks,T,L,C.all,rfl,O.keep f2 (λea p h=>(hD ea h).2.2.2 p) (λea p h=>(hD ea h).2.2.1 p),ap,λea p=>by have:=hT ea p;have:=E4.size;omega,λea p=>by have:=b9 ea p;have:=E4.size;omega,(E4.trans ee).fr_trans f2 (λe9 hi=>by have:=(hD e9 hi).2.1;have:=E4.size;omega),C.len,λw hw=>(C.pos w hw).2⟩
 rw[qB a1]
 have M:k<L.length:=by omega
 have o:=(C.pos _ (List.getElem_mem M)).2
 obtain⟨pa,p1,p2⟩:=lX (C4.own.ext ee).src M
 have z9:=ee.size
 refine⟨pa,p1,⟨by omega,a1⟩,L[k],by rw[show Int.toNat (k:Int)=k by omega];exact p2,λbw bL cy bb=>?_⟩
 obtain⟨c9,cO⟩:=jN (A3:=aP bL (Addr.mk bw 0 none) [vu L[k]] 0) cy bb [vu L[k]] rfl
 refine⟨c9,λl bc=>?_⟩
 obtain⟨g5,G⟩:=cO rfl
 rw[<-bc]at g5 G
 have z:l[bw]?=some (.cells #[vu L[k]] 28 (0,0)):=g5
 have dP:=G.size
 have dt:=aS z
 have t:=ee.trans G
 have h0:=t.get b8
 have q: ∀{Hx:zV},Ext l Hx->HpAt Hx r u:=λe=>br.ext (t.trans e)
 have g: ∀{Hx:zV},Ext l Hx->aM Hx (Addr.mk cX 0 none) 0 [vp (some ⟨r.h,0,none⟩)]:=λe=>kf (e.get h0)
 have b: ∀{Hx:zV},Ext l Hx->aM Hx (Addr.mk bw 0 none) 0 [vu L[k]]:=λe=>kf (e.get z)
 have hm:yu (some (r,u))=u.sp.mem:=rfl
 have av:IntKind.wrap .i64 ((k:Int)+1)=((k+1:Nat):Int):=by rw[xl (n:=(k:Int)+1) (by omega)];omega
 have bo:((L.length:Int)-((k+1:Nat):Int)).toNat< ((L.length:Int)-(k:Int)).toNat:=by omega
 have ct:=O.lt
 have cs:=O.own.lt
 have hd: ∀nb:Nat,l.size<=nb-> ∀ea,(ea∈r.all\/ea=cX\/ea=bw\/ea=c7\/ea=mr\/ea∈kc B\/ea∈T\/ea∈kc oB)->ea<nb:=λnb hn ea p=>by
  rcases p with h | h | h | h | h | h | h | h
  ·have:=br.lt ea h;omega
  ·omega
  ·omega
  ·omega
  ·omega
  ·have:=Bl ea h;omega
  ·have:=ct ea h;omega
  ·have:=cs ea h;omega
 refine⟨L[k],by rw[aI z];rfl,_,by rw[aI h0];rfl,L[k],by rw[aI z];rfl,_,by rw[aI h0];rfl,L[k],by rw[aI z];rfl,?_⟩
 rw[av]
 have a3: ∀{S K A':zV} {nb:Nat} {ec:zW} {V:Nat} {Y:ko} {U':List Nat},Ext l S->l.size<=nb->K.size=S.size+2->kN A' ec (oN+1) V (ks++[Y]) (U'++T)->An Y=nX u.sp.mem L L[k]->A'[K.size]?=some (.deferred (some []))->Fr (nb::kc oB) S A'->(∀ea∈U',S.size+4<=ea)->(∀ea∈kc ec,ea∈kc oB\/S.size+4<=ea)->
   ub u.sp.mem v L H4 ec (oN+1) V ((k+1:Nat):Int) (K.size::ms) A'/\((L.length:Int)-((k+1:Nat):Int)).toNat< ((L.length:Int)-(k:Int)).toNat:=λa dG A hO m F f hU E=>
  ⟨wm M cB O ap ee hT b9 bq hD (G.trans a) (by omega) A hO m F f hU E,bo⟩
 refine⟨?_,?_⟩
 ·refine HC.mono (fW o) ?_
  rintro _ bM ⟨rfl,I⟩
  have dQ:=I.size
  refine⟨_,rfl,g I,b I,g I,b I,?_,?_⟩
  ·refine HC.mono (jL (.real (q I) Z) o) ?_
   rw[hm]
   rintro _ bN ⟨rfl,J⟩
   have J:=I.trans J
   have dR:=J.size
   refine⟨_,rfl,g J,b J,?_,?_⟩
   ·refine HC.mono (mm (.real (q J) Z) o) ?_
    rw[hm]
    rintro _ dd ⟨rfl,a2⟩
    have a2:=J.trans a2
    have dS:=a2.size
    refine⟨_,rfl,λc8 bP cz bd=>?_⟩
    obtain⟨cc,cR⟩:=jN (A3:=aP bP (Addr.mk c8 0 none) [vi (L[k] % 8),vi (u.sp.mem.typ L[k]),vu (u.sp.mem.more L[k]),VN,VN] 0) cz bd [vi (L[k] % 8),vi (u.sp.mem.typ L[k]),vu (u.sp.mem.more L[k]),VN,VN] rfl
    refine⟨cc,λS be=>?_⟩
    obtain⟨g6,a⟩:=cR rfl
    rw[<-be]at g6 a
    have a:=a2.trans a
    refine nY (q a) Z (a.get h0) (a.get z) ((t.trans a).get X) (C4.ext (t.trans a)) o g6 (O.ext (G.trans a)) (by omega) (hd c8 (by omega)) (λec V K A' Y U' A hO m F f hU E=>a3 a (show l.size<=c8 by omega) A hO m F f hU E)
   ·intro d0 bR cA ab
    have ci:Ext bN bR:=Ext.push' ab
    have cp:=aF cA ab
    have N:=J.trans ci
    refine⟨g N,b N,HC.mono (mm (.real (q N) Z) o) ?_⟩
    rw[hm]
    rintro _ df ⟨rfl,b1⟩
    obtain⟨cd,cS⟩:=kg (n:=5) (vs:=[vi (L[k] % 8),vi (u.sp.mem.typ L[k]),vu (u.sp.mem.more L[k]),VN,VN]) (b1.get cp) rfl rfl
    refine⟨_,rfl,cd,λaU bf=>?_⟩
    obtain⟨g6,cm⟩:=cS aU bf
    have a:Ext l aU:=(N.trans b1).fr_trans cm (λe9 hi=>by simp at hi;omega)
    refine nY (q a) Z (a.get h0) (a.get z) ((t.trans a).get X) (C4.ext (t.trans a)) o g6 (O.ext (G.trans a)) (by omega) (hd d0 (by omega)) (λec V K A' Y U' A hO m F f hU E=>a3 a (show l.size<=d0 by omega) A hO m F f hU E)
  ·intro aZ bZ bk ac
   have cj:Ext bM bZ:=Ext.push' ac
   have cq:=aF bk ac
   have x:=I.trans cj
   refine⟨g x,b x,g x,b x,HC.mono (jL (.real (q x) Z) o) ?_⟩
   rw[hm]
   rintro _ dh ⟨rfl,b2⟩
   have P:=x.trans b2
   refine⟨_,rfl,g P,b P,HC.mono (mm (.real (q P) Z) o) ?_⟩
   rw[hm]
   rintro _ di ⟨rfl,b3⟩
   obtain⟨ce,cT⟩:=kg (n:=5) (vs:=[vi (L[k] % 8),vi (u.sp.mem.typ L[k]),vu (u.sp.mem.more L[k]),VN,VN]) ((b2.trans b3).get cq) rfl rfl
   refine⟨_,rfl,ce,λaV bh=>?_⟩
   obtain⟨g6,cn⟩:=cT aV bh
   have a:Ext l aV:=(P.trans b3).fr_trans cn (λe9 hi=>by simp at hi;omega)
   refine nY (q a) Z (a.get h0) (a.get z) ((t.trans a).get X) (C4.ext (t.trans a)) o g6 (O.ext (G.trans a)) (by omega) (hd aZ (by omega)) (λec V K A' Y U' A hO m F f hU E=>a3 a (show l.size<=aZ by omega) A hO m F f hU E)
 ·intro b0 c6 bl ae
  have W:Ext l c6:=Ext.push' ae
  have cr:=aF bl ae
  refine⟨b W,g W,b W,g W,b W,HC.mono (fW o) ?_⟩
  rintro _ dj ⟨rfl,b4⟩
  have y:=W.trans b4
  refine⟨_,rfl,g y,b y,g y,b y,HC.mono (jL (.real (q y) Z) o) ?_⟩
  rw[hm]
  rintro _ dk ⟨rfl,b5⟩
  have Q:=y.trans b5
  refine⟨_,rfl,g Q,b Q,HC.mono (mm (.real (q Q) Z) o) ?_⟩
  rw[hm]
  rintro _ dl ⟨rfl,b6⟩
  obtain⟨cf,cU⟩:=kg (n:=5) (vs:=[vi (L[k] % 8),vi (u.sp.mem.typ L[k]),vu (u.sp.mem.more L[k]),VN,VN]) (((b4.trans b5).trans b6).get cr) rfl rfl
  refine⟨_,rfl,cf,λaW bi=>?_⟩
  obtain⟨g6,co⟩:=cU aW bi
  have a:Ext l aW:=(Q.trans b6).fr_trans co (λe9 hi=>by simp at hi;omega)
  refine nY (q a) Z (a.get h0) (a.get z) ((t.trans a).get X) (C4.ext (t.trans a)) o g6 (O.ext (G.trans a)) (by omega) (hd b0 (by omega)) (λec V K A' Y U' A hO m F f hU E=>a3 a (show l.size<=b0 by omega) A hO m F f hU E)
theorem uT{m:zW}{roots:List Int}(y:HpAt H r u)(A:SpOK u.sp)(z:Nums H .u64 m d roots)(g:d<=1000000)(l: ∀w∈roots,aD w)(f: ∀j∈kc m,j<H.size):
  fP.C (some ⟨r.h,0,none⟩) m d i H (λv e=> ∃(b:zW) (c:Nat) (a:List ko) (T:List Nat) (L:List Int),(∃k,L=gL u.sp.mem roots k/\L.length=k)/\v=vs b a.length c/\kN e b a.length c a T/\a.map An=Bg u.sp.mem roots L/\(∀j∈T,H.size<=j)/\(∀j∈kc b,H.size<=j)/\Ext H e):=
 HC.mono (uS y A z g l f) (by
  rintro v e ⟨b,c,a,T,L,n,o,p,q,s,t,x,_⟩
  exact⟨b,c,a,T,L,n,o,p,q,s,t,x⟩)
end Go.Proofs.YtfhbhckhmnleoaaGreat
namespace Go.Proofs.YtfhbhckhmnleoaaGreat
open Go
variable{H:zV}
def BU:Sp:=⟨Mem.fresh 8,λ_ _=>0⟩
def BB:Sp:=(BU.put 0 1 [8,20]).1
def zo:Sp:=(BB.put 1 2 [1,20]).1
def zR:Mem:=zo.mem.set 0 17
theorem B9:(BU.put 0 1 [8,20]).2=(1,0):=by kernel_rfl
theorem Cc:(BB.put 1 2 [1,20]).2=(514,0):=by kernel_rfl
theorem yb:BB.mem.count=1:=by kernel_rfl
theorem Bh:zo.mem.takenTo [] zo.mem.limit=[0,1]:=by kernel_rfl
theorem wn:bF zo.mem [0,1]=[(1,2),(514,2)]:=by kernel_rfl
theorem yc:(List.range 8).all (λk:Nat=>(List.range 4).all λc:Nat=>decide ((zo.mem.seg k).cards c<=zo.mem.mark1 k c))=true:=by kernel_rfl
theorem yd:AF zo.mem [1,514] [1,514] [1,514]=(0,0):=by kernel_rfl
theorem ux:gL zo.mem [514] 1=[514]:=by kernel_rfl
theorem xS:(nX zo.mem [514] 514).2.2.2.2=[-1,0]:=by kernel_rfl
theorem xq:decide (zo.mem.used 0)=true:=by kernel_rfl
theorem wo:zR.takenTo [] zR.limit=[0,1]:=by kernel_rfl
theorem uc:bF zR [0,1]=[(1,2),(514,2)]:=by kernel_rfl
theorem xU:(List.range 8).all (λk:Nat=>(List.range 4).all λc:Nat=>decide ((zR.seg k).cards c<=zR.mark1 k c))=true:=by kernel_rfl
theorem xV:AF zR [1,514] [1,514] []=(0,18):=by kernel_rfl
theorem tn:gL zR [514] 1=[514]:=by kernel_rfl
theorem wq:li zR [514]=2:=by kernel_rfl
theorem wt:zo.mem.limit=8:=by kernel_rfl
theorem oT:(zo.mem.seg 0).taken=1/\(zo.mem.seg 1).taken=2:=⟨by kernel_rfl,by kernel_rfl⟩
theorem rm:(zR.seg 0).taken=1/\(zR.seg 1).taken=2:=⟨by kernel_rfl,by kernel_rfl⟩
theorem kX{m:Mem}{l:List Nat}(h:cY m [] l)(o:m.takenTo [] m.limit=[0,1])(j:(m.seg 0).taken=1)(k:(m.seg 1).taken=2):l=[0,1]:=by
 have d:=h.perm
 rw[o]at d
 have n:=d.length_eq
 match l,n with
 | [a,b],_=>
  have i:=h.sorted
  rw[List.pairwise_cons]at i
  have e:=i.1 b (by simp)
  have g:a∈[0,1]:=d.subset (by simp)
  have f:b∈[0,1]:=d.subset (by simp)
  have c:=d.nodup_iff.2 (by decide)
  simp at g f c
  rcases g with rfl | rfl
  ·rcases f with rfl | rfl
   ·exact absurd rfl c
   ·rfl
  ·rcases f with rfl | rfl
   ·rw[j,k]at e;omega
   ·exact absurd rfl c
theorem tp{m:Mem}(e:m.limit=8)(h:(List.range 8).all (λk:Nat=>(List.range 4).all λc:Nat=>decide ((m.seg k).cards c<=m.mark1 k c))=true): ∀k:Nat,m.has k-> ∀c:Nat,c<4->(m.seg k).cards c<=m.mark1 k c:=by
 intro k hk c d
 have a:k<8:=by have:=hk.2.1;omega
 rw[List.all_eq_true]at h
 have b:=h k (List.mem_range.2 a)
 rw[List.all_eq_true]at b
 exact of_decide_eq_true (b c (List.mem_range.2 d))
open Go.ChangeShapes Go.WideShapes
theorem qf{b:Blk}{s:Sp}{ep:Int}:oA H b ⟨s,VN,VN,ep⟩ [] []:=
 ⟨⟨none,0,rfl,by rw[SrcAt_none];rfl⟩,⟨none,0,rfl,λi h=>absurd h (by simp)⟩,by simp⟩
theorem rn{n:Int}(h:aD n):(Lit.int .u64 n).wf=true:=by
 simp only[Lit.wf,Bool.and_eq_true,decide_eq_true_eq]
 obtain⟨a,b⟩:=h
 constructor
 ·exact a
 ·show n<=18446744073709551615;omega
theorem tq{b:Nat}{ws:List Int}(g:H[b]?=some (.cells (xT ws).toArray 28 (0,0)))(c: ∀w∈ws,aD w):Nums H .u64 (some ⟨b,0,none⟩) ws.length ws:=
 ⟨rfl,(show aM H ⟨b,0,none⟩ 0 (xT ws)from kf g),λw a=>by
  have:=c w a
  exact rn this⟩
set_option maxRecDepth 100000 in
set_option maxHeartbeats 1000000 in
theorem uU:bZ.C H (λv H'=>v=VT/\Ext H H'):=by
 refine HC.via λR hR=>bZ.link ?_
 unfold bZ.pt
 refine HC.mono (qL (limit:=8) (by decide)) ?_
 rintro _ H1 (⟨hc,rfl,e1⟩ | ⟨hc,b,x0,rfl,V1,hx,e1,Y⟩)
 ·exact absurd (by decide) hc
 refine⟨_,_,rfl,?_⟩
 rw[qB rfl,onPtr_some]
 subst hx
 have al:View H1 (some ⟨b.h,0,none⟩) (some (b,⟨BU,VN,VN,0⟩)):=V1
 clear V1
 refine HC.mono (pG al (by decide) (by decide) (show(0:Int)<_ by decide)) ?_
 rintro _ H2 ⟨rfl,V2,f2⟩
 refine⟨1,0,by rw[show zn (some (b,(⟨BU,VN,VN,0⟩:Hp))) 0 1 [8,20]=(1,0)from B9],?_⟩
 have am:View H2 (some ⟨b.h,0,none⟩) (some (b,⟨BB,VN,VN,0⟩)):=V2
 clear V2
 refine HC.mono (pH am (by decide) (by decide) (show BB.mem.count<_ by rw[yb];decide)) ?_
 rintro _ H3 ⟨rfl,V3,f3⟩
 refine⟨514,0,by rw[show zn (some (b,(⟨BB,VN,VN,0⟩:Hp))) 1 2 [1,20]=(514,0)from Cc],?_⟩
 have an:View H3 (some ⟨b.h,0,none⟩) (some (b,⟨zo,VN,VN,0⟩)):=V3
 clear V3
 obtain⟨-,d,r⟩:=an.inv
 have Aq: ∀x:Hp,∀j∈own (some (b,x)),H.size<=j:=λx j g=>Y j (by simp[own]at g;simp[Blk.all];omega)
 have E3:Ext H H3:=(e1.fr_trans f2 (Aq _)).fr_trans f3 (Aq _)
 have bg:zo.mem.limit=8:=wt
 have aZ: ∀l,cY zo.mem [] l-> ∀p∈bF zo.mem l,p.2≠0:=λl hl p M=>by
  rw[kX hl Bh oT.1 oT.2,wn]at M
  simp at M
  rcases M with rfl | rfl<;>decide
 have aU:=tp wt yc
 have a0:(bF zo.mem [0,1]).map Prod.fst=[1,514]:=by rw[wn];rfl
 have ac:yP (bF zo.mem [0,1])=[1,514]:=by rw[wn];rfl
 refine HC.mono (sY d r d.lt) ?_
 rintro _ H4 ⟨B,c,l,hl,rfl,a8,ao,e4⟩
 obtain rfl:=kX hl Bh oT.1 oT.2
 rw[show(⟨zo,VN,VN,0⟩:Hp).sp.mem=zo.mem from rfl,ac]at a8⊢
 refine⟨B,_,c,rfl,λb5 H5 av W=>?_⟩
 have e5:Ext H4 H5:=Ext.push' W
 have U:=e4.trans e5
 refine HC.mono (rR (roots:=[1,514]) (syms:=[]) (es:=[]) (d.ext U) r qf (show aM H5 ⟨b5,0,none⟩ 0 (xT [1,514])from kf (aF av W)) rfl (by decide) (by intro w a;simp[gE]at a;rcases a with rfl | rfl<;>decide) aZ aU) ?_
 rintro _ H6 ⟨l1,l2,I,J,rfl,e6⟩
 obtain rfl:=kX I Bh oT.1 oT.2
 obtain rfl:=kX J Bh oT.1 oT.2
 rw[show(⟨zo,VN,VN,0⟩:Hp).sp.mem=zo.mem from rfl,ac,a0,show gE [1,514] [] []=[1,514]from rfl,yd]
 refine⟨0,0,rfl,λb7 H7 aw D=>?_⟩
 have e7:Ext H6 H7:=Ext.push' D
 have A:=U.trans (e6.trans e7)
 have z7:H7.size=H6.size+1:=by rw[D];simp
 refine HC.mono (uT (roots:=[514]) (d.ext A) r (tq (ws:=[514]) (aF aw D) (by intro w a;simp at a;subst a;decide)) (by decide) (by intro w a;simp at a;subst a;decide) (λj g=>by simp at g;omega)) ?_
 rintro _ H8 ⟨oB,oC,ks,T,L,⟨k,hL,hk⟩,rfl,O,G,hT,aV,e8⟩
 have ap:L=[514]:=by
  rw[hL]
  have:=qc zo.mem [514] (j:=k) (k:=1) (by rw[show gL zo.mem [514] k=L from hL.symm];omega) (by rw[ux];simp)
  exact this.trans ux
 subst ap
 have V:=A.trans e8
 have q:=d.ext V
 refine⟨oB,_,oC,rfl,_,q.hPtr,_,rfl,_,q.cd.cPtr,_,rfl,_,q.cd.sp.memPtr,?_⟩
 refine HC.mono (iN q.cd.sp.mem r.mem (by decide)) ?_
 have hu:zo.mem.used 0:=of_decide_eq_true xq
 have ab:(⟨zo,VN,VN,0⟩:Hp).sp.mem.used 0:=hu
 rw[qB ab,qB ab]
 rintro _ H9 ⟨rfl,M9,f9⟩
 have a9:HpAt H9 b ⟨⟨zR,zo.cur⟩,VN,VN,0⟩:=q.withMem f9 (λi hi=>by simp at hi;exact .inr hi) M9
 have af:SpOK (⟨zR,zo.cur⟩:Sp):=by
  have:=SpOK.sets r 0 (ws:=[17]) (by intro w a;simp at a;subst a;decide)
  have e:zo.mem.sets 0 [17]=zR:=by
   show(if zo.mem.used 0 then zo.mem.set 0 17 else zo.mem)=zR
   rw[qB hu];rfl
  rw[show(⟨zo,VN,VN,0⟩:Hp).sp.mem=zo.mem from rfl,e]at this
  exact this
 have aa: ∀l,cY zR [] l-> ∀p∈bF zR l,p.2≠0:=λl hl p M=>by
  rw[kX hl wo rm.1 rm.2,uc]at M
  simp at M
  rcases M with rfl | rfl<;>decide
 have a5:=tp (m:=zR) wt xU
 have F:(bF zR [0,1]).map Prod.fst=[1,514]:=by rw[uc];rfl
 have ae:yP (bF zR [0,1])=[1,514]:=by rw[uc];rfl
 refine⟨0,rfl,?_⟩
 refine HC.mono (rR (roots:=[]) (syms:=[]) (es:=[]) a9 af qf (by rw[SrcAt_none];rfl) rfl (by decide) (by intro w a;simp[gE]at a) aa a5) ?_
 rintro _ P ⟨l1,l2,I,J,rfl,t⟩
 obtain rfl:=kX I wo rm.1 rm.2
 obtain rfl:=kX J wo rm.1 rm.2
 rw[show(⟨⟨zR,zo.cur⟩,VN,VN,0⟩:Hp).sp.mem=zR from rfl,ae,F,show gE [] [] []=[]from rfl,xV]
 refine⟨0,18,rfl,?_⟩
 have bX:b.s<H3.size:=d.lt b.s (by simp[Blk.all])
 have cc:=A.size
 have o:=((a8.ext ((e5.trans (e6.trans e7)).trans e8)).keep f9 (λj g h=>by simp at h;have:=ao j g;omega)).ext t
 rw[qB rfl]
 obtain⟨pa,p1,p2⟩:=lX o.src (i:=0) (by simp)
 obtain⟨c8,ag,b0⟩:=lX o.src (i:=1) (by simp)
 rw[p1]at ag
 cases ag
 refine⟨pa,p1,⟨by decide,by decide⟩,1,p2,?_⟩
 rw[qB rfl]
 refine⟨⟨by decide,by decide⟩,514,b0,?_⟩
 rw[qB rfl,qB rfl]
 intro bu Q Z f
 have y:Ext P Q:=Ext.push' f
 have c9:Q.size=P.size+1:=by rw[f];simp
 refine HC.mono (wh (roots:=[514]) (a9.ext (t.trans y)) af (tq (ws:=[514]) (aF Z f) (by intro w a;simp at a;subst a;decide)) (by decide) (by intro w a;simp at a;subst a;decide) (λj g=>by simp at g;omega)) ?_
 rintro _ aj ⟨L3,⟨k3,X,bN⟩,rfl,S⟩
 have au:L3=[514]:=by
  rw[X]
  have:=qc zR [514] (j:=k3) (k:=1) (by rw[show gL zR [514] k3=L3 from X.symm];omega) (by rw[tn];simp)
  exact this.trans tn
 subst au
 refine⟨2,by rw[show(⟨⟨zR,zo.cur⟩,VN,VN,0⟩:Hp).sp.mem=zR from rfl,wq],?_⟩
 rw[qB rfl]
 have az:ks.length=2:=by
  have:=congrArg List.length G
  simp[Bg]at this
  exact this
 match ks,az with
 | [k0,k1],_=>
 rw[qB (show(([k0,k1].length:Nat):Int)=2 from rfl)]
 have u:=((O.keep f9 (λj g h=>by simp at h;have:=aV j g;omega) (λj g h=>by simp at h;have:=hT j g;omega)).ext (t.trans (y.trans S)))
 have a3:An k1=nX zo.mem [514] 514:=by
  simp only[Bg,List.map_cons,List.map_nil,List.cons.injEq]at G
  exact G.2.1
 have a2:k1.is.xs=[-1,0]:=by
  have:=congrArg (λz=>z.2.2.2.2) a3
  exact this.trans xS
 obtain⟨-,-,h3,h4,-⟩:=u.each k1 (by simp)
 have a6:k1.is.n=2:=by rw[<-h3,a2];rfl
 have E:([k0,k1].flatMap ko.cells)[9]?=some (vs k1.is.p k1.is.n k1.is.c):=rfl
 obtain⟨oa,a7,K⟩:=u.own.at E
 have aW:oa=⟨oa.block,0,none⟩:=by
  have:=u.own
  rw[a7]at this
  exact this.1
 have N:hat aj ((oa.add (Int.toNat 1*5)).add 4)=some (vs k1.is.p k1.is.n k1.is.c):=by
  rw[aW]at K⊢
  rw[addr_add_mk]at K
  rw[addr_add_mk,addr_add_mk]
  exact K
 rw[a2]at h4
 obtain⟨ia,ax,ay⟩:=nN h4.src (i:=0) (by simp)
 refine⟨oa,a7,⟨by decide,by simp⟩,_,_,_,N,?_⟩
 rw[a6,qB (show((2:Nat):Int)=2 from rfl)]
 refine⟨⟨by decide,by simp⟩,_,_,_,by rw[a6]at N;exact N,ia,ax,⟨by decide,by decide⟩,-1,by exact ay,hR _ _ ⟨rfl,?_⟩⟩
 have E8:=E3.trans V
 exact((E8.fr_trans f9 (λi hi=>by simp at hi;rw[hi];exact Y _ (by simp[Blk.all]))).trans t).trans (y.trans S)
