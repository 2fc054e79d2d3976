/-
  What was copied is looked at (package trace): look, Cards. Proves nothing of any one statement.
-/
import Derived.Test.YtfhbhckhmnleoaaGreatWords
import Derived.Test.YtfhbhckhmnleoaaGreatFref01
set_option linter.unusedVariables false
set_option linter.unusedSimpArgs false
set_option maxRecDepth 100000
namespace Go.Proofs.YtfhbhckhmnleoaaGreat
open Go
theorem D5:type_of% @List.foldl_append:=@List.foldl_append
theorem DQ:type_of% @List.flatMap_append:=@List.flatMap_append
theorem Dv:type_of% @List.mem_flatMap:=@List.mem_flatMap
variable{H D:zV}{d:Blk}{i:Sp}{j A:Int}{k:TB}{o:Tr}{r:Hp}{u:Mem}{v B:Nat}{z:List (Int×Value)}{C:Nat->Bool}
theorem Sp.moved_cf(m:Mem)(w:Int)(r:Sp×Int×Int):(Sp.moved m w r).cf=r.1.cf:=by
  unfold Sp.moved Sp.cf
  have a:=bG.sets (m.row (w / 8) (m.sizeOf w).toNat) r.1.mem r.2.1
  have b:=bG.set (r.1.mem.sets r.2.1 (m.row (w / 8) (m.sizeOf w).toNat)) (w / 8) (r.2.1*8+6)
  simp only[]
  rw[b.count,b.free,a.count,a.free]
theorem Sp.visit_cf(s:Sp)(old:Nat->Bool)(T w:Int):(s.visit old T w).1.cf=s.cf:=by
  unfold Sp.visit
  split
  · rfl
  split
  · rfl
  split
  · rfl
  split
  · show(Sp.moved _ _ _).cf=_
    rw[Sp.moved_cf,Sp.alloc_cf]
  · rfl
theorem Mem.size_kind(h:u.sizeOf j≠0):(u.kindOf j=0\/u.kindOf j=1)/\u.sizeOf j=2\/(u.kindOf j=2\/u.kindOf j=3):=by
  unfold Mem.sizeOf Mem.kindOf at*
  by_cases a:u.isPair j
  · rw[qB a]
    rcases a.1 with q | q
    · exact .inl ⟨.inl q.2.2.2.1,rfl⟩
    · exact .inl ⟨.inr q.2.2.2.1,rfl⟩
  · rw[za a]at h
    by_cases b:u.isObj j
    · have:=b.1.2.2.2.1
      right
      unfold zh at this
      split at this<;>omega
    · rw[za b]at h;exact absurd rfl h
theorem Sp.visit_even(f:SpOK i)(a:i.mem.Even)(old:Nat->Bool)(T w:Int):(i.visit old T w).1.mem.Even:=by
  unfold Sp.visit
  split
  · exact a
  split
  · exact a
  split
  · exact a
  rename_i c
  split
  · rename_i e
    obtain⟨_,b⟩:=DG f e
    have d:=(b.even a (λhk=>by rcases Mem.size_kind c with q | q<;>omega)).1
    exact(bG.set _ _ _).even ((bG.sets _ _ _).even d)
  · exact a
theorem Sp.visit_word(c:SpOK i){old:Nat->Bool}{T w:Int}(b:aD w):aD (i.visit old T w).2:=by
  unfold Sp.visit
  split
  · exact b
  split
  · rename_i v a
    unfold Mem.fwd at a
    split at a
    · rename_i k
      have d:=k.2.1.2
      have f:=((c.mem.seg (w / 8 / 64).toNat).words (w / 8 % 64).toNat).1
      have h:i.mem.get (w / 8)=(i.mem.seg (w / 8 / 64).toNat).words (w / 8 % 64).toNat:=rfl
      simp only[Dp]at a
      have o:=b.1
      rw[h]at d a
      generalize (i.mem.seg (w / 8 / 64).toNat).words (w / 8 % 64).toNat=g at d f a
      rw[<-a]
      exact⟨by omega,by omega⟩
    · cases a
  split
  · exact b
  split
  · rename_i j
    obtain⟨_,e⟩:=DG c j
    have p:=c.mem.lim
    obtain⟨l,m,n⟩:=e.addr
    have:=b.1
    exact⟨by simp only[];omega,by simp only[];omega⟩
  · exact b
structure Tg (H:zV) (b:Blk) (x:Hp) (q:TB) (t:Tr):Prop extends Tc H b x q t where
  even:x.sp.mem.Even
  cf:x.sp.cf<4611686018427387904
  on:t.over=false
theorem Tg.grow(h:Tg H d r k o)(e:Ext H D):Tg D d r k o:=⟨h.toTc.ext e,h.even,h.cf,h.on⟩
theorem Tg.stay{S:List Nat}(h:Tg H d r k o)(f:Fr S H D)(a: ∀i,i∈S->i ∉ d.all)(b: ∀i,i∈S->i ∉ k.all):Tg D d r k o:=⟨h.toTc.keep f a b,h.even,h.cf,h.on⟩
theorem Tg.lt{b:Blk}(h:Tg H b r k o){i:Nat}(a:i∈b.all\/i∈k.all):i<H.size:=by
  rcases a with a | a
  · exact h.hp.lt i a
  · exact h.tr.lt i a
theorem jY(T:Tg H d r k o)(b:aD j):
    bA.C (some ⟨k.t,0,none⟩) j H (λv a=>v=vu (r.sp.visit o.old o.tgt j).2/\Tg a d {r with sp:=(r.sp.visit o.old o.tgt j).1} k o/\Fr (y9 d) H a):=
  HC.mono (t7 T.toTc T.even b (Sp.cf_count T.ok T.cf) T.on) (λ_ _ h=>⟨h.1,⟨h.2.1,Sp.visit_even T.ok T.even _ _ _,by show(r.sp.visit o.old o.tgt j).1.cf<_;rw[Sp.visit_cf];exact T.cf,T.on⟩,h.2.2⟩)
def Mem.read(m:Mem)(a:Int):Int:=if m.used a then m.get a else 0
def Mem.wr(m:Mem)(a w:Int):Mem:=if m.used a then m.set a w else m
theorem Mem.read_word(b:bD u)(a:Int):aD (u.read a):=by
  unfold Mem.read
  split
  · exact(b.seg _).words _
  · decide
theorem DY:type_of% @Mem.read_word:=@Mem.read_word
theorem bG.wr(m:Mem)(a w:Int):bG m (m.wr a w):=by
  unfold Mem.wr
  split
  · exact bG.set m a w
  · exact bG.refl m
theorem SpOK.wr{s:Sp}(ok:SpOK s)(a:Int){w:Int}(hw:aD w):SpOK {s with mem:=s.mem.wr a w}:=
  ok.withMem (by unfold Mem.wr; split; · exact ok.mem.set a hw
                 · exact ok.mem) (λk h=>(bG.wr _ _ _).has.2 h) (λk=>⟨((bG.wr _ _ _).seg k).1,((bG.wr _ _ _).seg k).2.1⟩)
def Sp.lookAt(s:Sp)(old:Nat->Bool)(T a:Int):Sp:=
  {(s.visit old T (s.mem.read a)).1 with mem:=(s.visit old T (s.mem.read a)).1.mem.wr a (s.visit old T (s.mem.read a)).2}
theorem Sp.lookAt_even(c:SpOK i)(b:i.mem.Even)(old:Nat->Bool)(T a:Int):(i.lookAt old T a).mem.Even:=
  (bG.wr _ _ _).even (Sp.visit_even c b old T _)
theorem Sp.lookAt_cf(s:Sp)(old:Nat->Bool)(T a:Int):(s.lookAt old T a).cf=s.cf:=by
  have h:=bG.wr (s.visit old T (s.mem.read a)).1.mem a (s.visit old T (s.mem.read a)).2
  have:(s.lookAt old T a).cf=(s.visit old T (s.mem.read a)).1.cf:=by
    unfold Sp.lookAt Sp.cf;simp only[];rw[h.count,h.free]
  rw[this,Sp.visit_cf]
theorem ub(T:Tg H d r k o)(L:Ah j)(c:hat H ⟨v,0,none⟩=some (vp (some ⟨k.t,0,none⟩)))(h:v ∉ y9 d):
    dH.C j (some ⟨v,0,none⟩) H (λ_ s=>Tg s d {r with sp:=r.sp.lookAt o.old o.tgt j} k o/\Fr (y9 d) H s):=by
  refine HC.via λR D=>dH.link ?_
  unfold dH.pt
  obtain⟨x,y,z,A⟩:=T.s1
  refine⟨_,rfl,_,c,_,rfl,_,x,_,rfl,_,y,_,rfl,_,z,_,rfl,_,A,?_⟩
  refine HC.mono (jX T.hp.cd.sp.mem T.ok.mem (by omega)) ?_
  rintro _ J ⟨rfl,rfl⟩
  have p: ∃e:Int,(if r.sp.mem.used j then Value.tuple #[vu (r.sp.mem.get j),vi 0]else .tuple #[vu 0,vi 18])=.tuple #[vu (r.sp.mem.read j),vi e]:=by
    unfold Mem.read
    by_cases f:r.sp.mem.used j
    · rw[qB f,qB f];exact⟨_,rfl⟩
    · rw[za f,za f];exact⟨_,rfl⟩
  obtain⟨e,p⟩:=p
  refine⟨_,e,p,_,c,_,rfl,_,x,_,rfl,_,y,_,rfl,_,z,_,rfl,_,A,_,c,?_⟩
  have w:=DY T.ok.mem j
  refine HC.mono (jY T w) ?_
  rintro _ B ⟨rfl,b,t⟩
  obtain⟨E,F,G,I⟩:=b.s1
  have g:hat B ⟨v,0,none⟩=some (vp (some ⟨k.t,0,none⟩)):=t.hat h c
  refine⟨_,rfl,?_⟩
  simp only[aL,and_true,CH,Nat.add_zero]
  refine⟨g,E,F,G,I,?_⟩
  have a:=b.ok
  have q:=SpOK.wr a j (Sp.visit_word T.ok (old:=o.old) (T:=o.tgt) w)
  refine HC.mono (iQ b.hp.cd.sp.mem a.mem (by omega)) ?_
  rintro _ K ⟨rfl,n,u⟩
  refine⟨_,rfl,D _ _ ⟨⟨?_,Sp.lookAt_even T.ok T.even _ _ _,by show(r.sp.lookAt o.old o.tgt j).cf<_;rw[Sp.lookAt_cf];exact T.cf,T.on⟩,t.trans (u.mono (λi l _=>by simp at l;simp[y9];omega))⟩⟩
  exact b.toTc.withMem (m:=(r.sp.visit o.old o.tgt (r.sp.mem.read j)).1.mem.wr j (r.sp.visit o.old o.tgt (r.sp.mem.read j)).2) u (λi l=>by simp at l;omega) n q
def looks(kind i:Int):Prop:=kind≠3/\(kind≠1\/i % 2=1)
instance (kind i:Int):Decidable (looks kind i):=by unfold looks;infer_instance
def Sp.look(s:Sp)(old:Nat->Bool)(T seg kind lo:Int):Nat->Sp
  | 0=>s
  | n+1=>if looks kind (lo+n)then(s.look old T seg kind lo n).lookAt old T (seg*64+(lo+n))else s.look old T seg kind lo n
theorem Sp.look_raw(s:Sp)(old:Nat->Bool)(T seg a:Int): ∀n,s.look old T seg 3 a n=s
  | 0=>rfl
  | n+1=>by unfold Sp.look;rw[za (λh=>h.1 rfl)];exact Sp.look_raw s old T seg a n
theorem rh{a f:Int}(T:Tg H d r k o)(M:0<=j/\j<1024)(L:0<=a/\a<=64)(K:f<=64):
    cJ.C (some ⟨k.t,0,none⟩) j a f A H (λ_ l=>Tg l d {r with sp:=r.sp.look o.old o.tgt j A a (f-a).toNat} k o/\Fr (y9 d) H l):=by
  refine HC.via λR B=>cJ.link ?_
  unfold cJ.pt zY
  intro c H1 w m
  have x:Ext H H1:=CI m
  have F:=aF w m
  have D:=T.grow x
  have v:hat H1 ⟨c,0,none⟩=some (vp (some ⟨k.t,0,none⟩)):=by rw[aI F];rfl
  have p:c ∉ y9 d:=λh=>by
    have:=T.lt (.inl (jO h));omega
  refine⟨λi l=>(a<=i/\i<=max a f)/\Tg l d {r with sp:=r.sp.look o.old o.tgt j A a (i-a).toNat} k o/\Fr (y9 d) H l/\hat l ⟨c,0,none⟩=some (vp (some ⟨k.t,0,none⟩)),λi _=>(f-i).toNat,⟨⟨by omega,by omega⟩,by rw[Int.sub_self];exact D,x.fr,v⟩,?_⟩
  rintro i I ⟨G,t,u,g⟩
  by_cases b:i<f/\A≠3
  · rw[qB (by simp[b.1,b.2])]
    have s:(i+1-a).toNat=(i-a).toNat+1:=by omega
    have q:a+((i-a).toNat:Int)=i:=by omega
    rw[jx (by omega:0<=i),xT (n:=i+1) (by omega),xT (n:=j*64) (by omega),xT (n:=j*64+i) (by omega)]
    by_cases hk:A≠1\/i % 2=1
    · rw[qB (by simpa using hk)]
      refine HC.mono (ub t (by omega) g p) ?_
      rintro _ J ⟨E,y⟩
      refine⟨⟨by omega,?_,u.trans y,y.hat p g⟩,by show(f-(i+1)).toNat< (f-i).toNat;omega⟩
      have e:r.sp.look o.old o.tgt j A a (i+1-a).toNat=(r.sp.look o.old o.tgt j A a (i-a).toNat).lookAt o.old o.tgt (j*64+i):=by
        rw[s];show(if _ then _ else _)=_;rw[q,qB ⟨b.2,hk⟩]
      rw[e];exact E
    · rw[za (by simpa using hk)]
      refine⟨⟨by omega,?_,u,g⟩,by show(f-(i+1)).toNat< (f-i).toNat;omega⟩
      have e:r.sp.look o.old o.tgt j A a (i+1-a).toNat=r.sp.look o.old o.tgt j A a (i-a).toNat:=by
        rw[s];show(if _ then _ else _)=_;rw[q,za (λh=>hk h.2)]
      rw[e];exact t
  · rw[za (by simpa using b)]
    have e:r.sp.look o.old o.tgt j A a (f-a).toNat=r.sp.look o.old o.tgt j A a (i-a).toNat:=by
      by_cases z:A=3
      · rw[z,Sp.look_raw,Sp.look_raw]
      · have: ¬i<f:=λh=>b ⟨h,z⟩
        congr 1;omega
    rw[e]at B
    exact B _ _ ⟨t,u⟩
def Mem.segOr(m:Mem)(k:Int):Seg:=if m.has k then m.seg k.toNat else Seg.none
def Sp.lookCard(s:Sp)(old:Nat->Bool)(T:Int)(c:Int×Int):Sp:=
  s.look old T c.1 (s.mem.segOr c.1).kind (c.2*16) (min (s.mem.segOr c.1).n ((c.2+1)*16)-c.2*16).toNat
def Sp.lookCards(s:Sp)(old:Nat->Bool)(T:Int)(l:List (Int×Int)):Sp:=l.foldl (λs c=>s.lookCard old T c) s
theorem Sp.lookCards_snoc(s:Sp)(old:Nat->Bool)(T:Int)(l:List (Int×Int))(c:Int×Int):s.lookCards old T (l++[c])=(s.lookCards old T l).lookCard old T c:=by
  unfold Sp.lookCards;rw[D5];rfl
theorem nu: ∀l:List (Int×Int),(eP l).length=2*l.length
  | []=>rfl
  | c::l=>by
    have:=nu l
    unfold eP at*
    rw[List.flatMap_cons,CV,this];simp;omega
theorem ny: ∀(l:List (Int×Int)) {i:Nat} (h:i<l.length),(eP l)[2*i]?=some (vi l[i].1)/\(eP l)[2*i+1]?=some (vi l[i].2)
  | c::l,0,h=>⟨rfl,rfl⟩
  | c::l,i+1,h=>by
    have:=ny l (i:=i) (by simpa using h)
    unfold eP at*
    rw[List.flatMap_cons]
    exact⟨this.1,this.2⟩
theorem qa{B:zW}{l:List (Int×Int)}(h:dO H B (eP l))(g:v<l.length): ∃a,B=some a/\aL H (a.add (v*2)) 0 [vi l[v].1,vi l[v].2]:=by
  cases B with
  | none=>
    have e:eP l=[]:=h
    have:=nu l
    rw[e]at this;simp at this;omega
  | some a=>
    refine⟨a,rfl,?_⟩
    obtain⟨b,c⟩:=ny l g
    have d:=gE (show aL H a 0 (eP l)from h) _ _ b
    have f:=gE (show aL H a 0 (eP l)from h) _ _ c
    refine⟨?_,?_,EO⟩
    · rw[iW];rw[show v*2+0=0+2*v by omega];exact d
    · rw[iW];rw[show v*2+(0+1)=0+(2*v+1)by omega];exact f
def nZ(l:List (Int×Int)):Prop:= ∀c∈l,(0<=c.1/\c.1<1024)/\0<=c.2/\c.2<4
theorem uT(h:u.isPair j):u.sizeOf j≠0:=by unfold Mem.sizeOf;rw[qB h];decide
theorem Mem.len_rng(m:Mem)(w:Int):0<=m.len w/\m.len w<=62:=by
  unfold Mem.len
  split
  · rename_i h;exact h.len_lt
  · omega
theorem qb(a:bD u)(k:Int):uE (u.segOr k):=by
 unfold Mem.segOr
 split
 ·exact a.seg _
 ·exact nB
theorem gt(h:cS H v B u):
  bB.C (some ⟨v,0,none⟩) j H (λb a=>b=.tuple #[(u.segOr j).head,.bool (decide (u.has j))]/\Ext H a):=kY h
theorem jB{H H1:zV}(a:Seg)(h:v=H.size)(c:H1=H.push (.cells #[vi 0,vi 0,vi 0,vi 0,vi 0,vi 0,vi 0] 108)):
  aH H1 ⟨v,0,none⟩ 0 7/\ ∀b,b=aP H1 ⟨v,0,none⟩ [vi a.gen,vi a.kind,vi a.n,vi (a.cards 0),vi (a.cards 1),vi (a.cards 2),vi (a.cards 3)] 0->Ext H b/\
   hat b ⟨v,0,none⟩=some (vi a.gen)/\hat b ⟨v,1,none⟩=some (vi a.kind)/\hat b ⟨v,2,none⟩=some (vi a.n)/\aL b ⟨v,0,none⟩ 0 [vi a.gen,vi a.kind,vi a.n,vi (a.cards 0),vi (a.cards 1),vi (a.cards 2),vi (a.cards 3)]:=by
 obtain⟨f,i⟩:=boxed (vs:=[vi a.gen,vi a.kind,vi a.n,vi (a.cards 0),vi (a.cards 1),vi (a.cards 2),vi (a.cards 3)]) (H1:=H1) (aF h c) rfl rfl
 refine⟨f,λb e=>?_⟩
 obtain⟨d,g⟩:=i b e
 exact⟨g H (CI c) (by omega),d.1,d.2.1,d.2.2.1,d⟩
theorem vS(a b:Int):(if a<b then a else b)=min b a:=by
 by_cases h:a<b
 ·rw[qB h];omega
 ·rw[za h];omega
theorem uc(T:Tg H d r k o)(a2:nZ o.cards):
  dP.C (some ⟨k.t,0,none⟩) H (λ_ u=>Tg u d {r with sp:=r.sp.lookCards o.old o.tgt o.cards} k o/\Fr (y9 d) H u):=by
 refine HC.via λR hR=>dP.link ?_
 unfold dP.pt zY
 refine HC.mono (k8 T.toTc) ?_
 rintro _ H1 ⟨rfl,rfl⟩
 refine⟨_,rfl,?_⟩
 rw[za (by rw[T.on];decide)]
 obtain⟨an,ao⟩:=T.tr.clen
 refine⟨_,rfl,_,_,_,by rw[CH];exact T.tr.cAt,?_⟩
 refine⟨λi u=>(0<=i/\i<=k.cN)/\Tg u d {r with sp:=r.sp.lookCards o.old o.tgt (o.cards.take i.toNat)} k o/\Fr (y9 d) H1 u,λi _=>(k.cN-i).toNat,⟨by omega,T,Fr.refl _ _⟩,?_⟩
 rintro i H2 ⟨hi,v,f2⟩
 by_cases s:i< (k.cN:Int)
 case neg=>
  rw[za s]
  rw[De (by omega)]at v
  exact hR _ _ ⟨v,f2⟩
 rw[qB s]
 have q:i.toNat<o.cards.length:=by omega
 obtain⟨ca,Y,G⟩:=qa v.tr.cards q
 have a0:=a2 _ (CS q)
 generalize Z:o.cards[i.toNat]=a at*
 refine⟨ca,Y,⟨hi.1,s⟩,a.1,a.2,G,λM H3 U B=>?_⟩
 obtain⟨a1,hs⟩:=boxed (vs:=[vi a.1,vi a.2]) (H1:=H3) (aF U B) rfl rfl
 refine⟨a1,λg P=>?_⟩
 obtain⟨F,O⟩:=hs g P
 have y:Ext H2 g:=O H2 (CI B) (by omega)
 have w:=v.grow y
 have ag: ∀j,j∈d.all\/j∈k.all->j≠M:=λj hj=>by have:=v.lt hj;omega
 obtain⟨p1,p2,p3,p4⟩:=w.s1
 have e:hat g ⟨M,0,none⟩=some (vi a.1):=F.1
 have f:hat g ⟨M,1,none⟩=some (vi a.2):=F.2.1
 refine⟨_,p1,_,rfl,_,p2,_,rfl,_,p3,_,rfl,_,p4,_,e,?_⟩
 have l: ∀(t:zV),Ext g t->cJ.C (some ⟨k.t,0,none⟩) a.1 (IntKind.wrap .i64 (a.2*16)) (if(IntKind.wrap .i64 ((IntKind.wrap .i64 (a.2+1))*16))< ((r.sp.lookCards o.old o.tgt (o.cards.take i.toNat)).mem.segOr a.1).n then(IntKind.wrap .i64 ((IntKind.wrap .i64 (a.2+1))*16))else((r.sp.lookCards o.old o.tgt (o.cards.take i.toNat)).mem.segOr a.1).n) ((r.sp.lookCards o.old o.tgt (o.cards.take i.toNat)).mem.segOr a.1).kind t
   (λ_ J=>((0<=IntKind.wrap .i64 (i+1)/\IntKind.wrap .i64 (i+1)<=k.cN)/\Tg J d {r with sp:=r.sp.lookCards o.old o.tgt (o.cards.take (IntKind.wrap .i64 (i+1)).toNat)} k o/\Fr (y9 d) H1 J)/\(k.cN-IntKind.wrap .i64 (i+1)).toNat< (k.cN-i).toNat):=by
  intro t K
  have T7:=w.grow K
  have I:=qb w.ok.mem a.1
  have aw:((r.sp.lookCards o.old o.tgt (o.cards.take i.toNat)).mem.segOr a.1).n<=64:=I.n.2
  rw[xT (n:=a.2*16) (by omega),xT (n:=a.2+1) (by omega),xT (n:=(a.2+1)*16) (by omega),xT (n:=i+1) (by omega),vS]
  refine HC.mono (rh T7 a0.1 (by omega) (by omega)) ?_
  rintro _ J ⟨T8,f8⟩
  have N:Fr (y9 d) H1 J:=f2.trans ((y.trans K).fr.trans f8)
  refine⟨⟨by omega,?_,N⟩,by omega⟩
  have et:o.cards.take (i+1).toNat=o.cards.take i.toNat++[a]:=by
   rw[show(i+1).toNat=i.toNat+1 by omega,Db q,Z]
  rw[et,Sp.lookCards_snoc]
  exact T8
 constructor
 ·refine HC.mono (gt w.hp.cd.sp.mem) ?_
  rintro _ H5 ⟨rfl,e5⟩
  refine⟨_,_,_,_,_,_,_,_,rfl,λc6 H6 V Q=>?_⟩
  obtain⟨E,a3⟩:=jB ((r.sp.lookCards o.old o.tgt (o.cards.take i.toNat)).mem.segOr a.1) V Q
  refine⟨E,λt S=>?_⟩
  obtain⟨K,g0,g1,g2,_⟩:=a3 t S
  have c:=e5.trans K
  exact⟨_,c.hat e,_,by rw[CH];exact c.hat f,_,by rw[CH];exact g2,_,by rw[CH];exact c.hat f,_,by rw[CH];exact g1,l t c⟩
 ·intro c9 H9 W D
  have p:Ext g H9:=CI D
  simp only[aL,and_true,CH,Nat.add_zero]
  refine⟨p.hat p1,p.hat p2,p.hat p3,p.hat p4,p.hat e,?_⟩
  refine HC.mono (gt (w.grow p).hp.cd.sp.mem) ?_
  rintro _ L ⟨rfl,x⟩
  obtain⟨X,a4⟩:=boxed (vs:=[vi ((r.sp.lookCards o.old o.tgt (o.cards.take i.toNat)).mem.segOr a.1).gen,vi ((r.sp.lookCards o.old o.tgt (o.cards.take i.toNat)).mem.segOr a.1).kind,vi ((r.sp.lookCards o.old o.tgt (o.cards.take i.toNat)).mem.segOr a.1).n,vi (((r.sp.lookCards o.old o.tgt (o.cards.take i.toNat)).mem.segOr a.1).cards 0),vi (((r.sp.lookCards o.old o.tgt (o.cards.take i.toNat)).mem.segOr a.1).cards 1),vi (((r.sp.lookCards o.old o.tgt (o.cards.take i.toNat)).mem.segOr a.1).cards 2),vi (((r.sp.lookCards o.old o.tgt (o.cards.take i.toNat)).mem.segOr a.1).cards 3)]) (H1:=L) (x.get (aF W D)) rfl rfl
  refine⟨_,_,_,_,_,_,_,_,rfl,X,λm A=>?_⟩
  obtain⟨h,z⟩:=a4 m A
  have b:Ext g m:=z g (p.trans x) (by omega)
  exact⟨_,b.hat e,_,b.hat f,_,h.2.2.1,_,b.hat f,_,h.2.1,l m b⟩
def seenAt(ks:List (Int×Value))(k:Int):Int:=match yG ks k with | some (.int .i64 n)=>n | _=>0
def iL(ks:List (Int×Value)):Prop:= ∀k v,yG ks k=some v-> ∃n:Int,v=vi n/\0<=n/\n<=64
theorem k9(h:iL z)(k:Int):(yG z k).getD (vi 0)=vi (seenAt z k)/\0<=seenAt z k/\seenAt z k<=64:=by
 unfold seenAt
 cases hm:yG z k with
 | none=>exact⟨rfl,by decide,by decide⟩
 | some v=>
  obtain⟨n,rfl,a,b⟩:=h k v hm
  exact⟨rfl,a,b⟩
theorem kA(c:List (Int×Value))(k a:Int)(v:Value):yG (yM c k v) a=if a=k then some v else yG c a:=by
 induction c with
 | nil=>
  simp only[yM,yG,List.find?_cons]
  by_cases h:a=k
  ·simp[h]
  ·simp[h]
 | cons p c d=>
  simp only[yM]
  by_cases h:k=p.1
  ·rw[qB h]
   simp only[yG,List.find?_cons]
   by_cases b:a=k
   ·simp[b]
   ·simp[b,<-h]
  ·rw[za h]
   simp only[yG,List.find?_cons]at d⊢
   by_cases b:a=p.1
   ·subst b
    have: ¬p.1=k:=λe=>h e.symm
    simp[this]
   ·simp only[b,decide_false,Dj]
    exact d
theorem nF(b:List (Int×Value))(k a n:Int):seenAt (yM b k (vi n)) a=if a=k then n else seenAt b a:=by
 unfold seenAt
 rw[kA]
 by_cases h:a=k
 ·rw[qB h,qB h]
 ·rw[za h,za h]
theorem iL.put(h:iL z)(hn:0<=A/\A<=64):iL (yM z j (vi A)):=by
 intro a v b
 rw[kA]at b
 by_cases c:a=j
 ·rw[qB c]at b;cases b;exact⟨A,rfl,hn⟩
 ·rw[za c]at b;exact h a v b
def mu(ks:List (Int×Value)):Nat:=((List.range 1024).map λk:Nat=>(64-seenAt ks k).toNat).sum
theorem sum_lt: ∀(l:List Nat) (f g:Nat->Nat) (k:Nat),k∈l->(∀i∈l,f i<=g i)->f k<g k->(l.map f).sum< (l.map g).sum
 | [],_,_,_,h,_,_=>by cases h
 | a::l,f,g,k,h,hle,hlt=>by
  simp only[List.map_cons,List.sum_cons]
  have n:=hle a (by simp)
  have j: ∀c:List Nat,(∀i∈c,f i<=g i)->(c.map f).sum<=(c.map g).sum:=by
   intro c e
   induction c with
   | nil=>simp
   | cons b c m=>
    simp only[List.map_cons,List.sum_cons]
    have:=e b (by simp)
    have:=m (λi d=>e i (by simp[d]))
    omega
  rcases CR.1 h with rfl | h
  ·have:=j l (λi d=>hle i (by simp[d]));omega
  ·have:=sum_lt l f g k h (λi d=>hle i (by simp[d])) hlt;omega
theorem xZ{ks:List (Int×Value)}{k n:Int}(hk:0<=k/\k<1024)(h:seenAt ks k<n)(hn:n<=64):mu (yM ks k (vi n))<mu ks:=by
 unfold mu
 refine sum_lt _ _ _ k.toNat (by rw[Dc];omega) (λi _=>?_) ?_
 ·rw[nF]
  by_cases e:(i:Int)=k
  ·rw[qB e,e];omega
  ·rw[za e];exact CU _
 ·rw[nF,qB (by omega),show((k.toNat:Nat):Int)=k by omega];omega
inductive iG (old:Nat->Bool) (T:Int) (s0:Sp) (k0:List (Int×Value)):Sp->List (Int×Value)->Prop
 | refl:iG old T s0 k0 s0 k0
 | step {s:Sp} {ks:List (Int×Value)} (k:Int) (h:iG old T s0 k0 s ks) (hk:s.mem.has k) (hg:(s.mem.seg k.toNat).gen=T) (ho:old k.toNat=false) (hn:seenAt ks k< (s.mem.seg k.toNat).n):
   iG old T s0 k0 (s.look old T k (s.mem.seg k.toNat).kind (seenAt ks k) ((s.mem.seg k.toNat).n-seenAt ks k).toNat) (yM ks k (vi (s.mem.seg k.toNat).n))
def lV(old:Nat->Bool)(T:Int)(s:Sp)(ks:List (Int×Value)):Prop:= ∀k:Nat,s.mem.has k->(s.mem.seg k).gen=T->old k=false->(s.mem.seg k).n<=seenAt ks k
theorem iG.trans{a b c:Sp}{d e:List (Int×Value)}(h:iG C j a z b d)(k:iG C j b d c e):iG C j a z c e:=by
 induction k with
 | refl=>exact h
 | step k _ hk f g hn i=>exact .step k i hk f g hn
structure fL (m m':Mem):Prop where
 limit:m'.limit=m.limit
 seg: ∀k,(m.seg k).taken≠0->(m'.seg k).gen=(m.seg k).gen/\(m'.seg k).kind=(m.seg k).kind/\(m'.seg k).taken=(m.seg k).taken/\(m.seg k).n<=(m'.seg k).n
 cards: ∀k,(m.seg k).taken≠0->(m'.seg k).cards=(m.seg k).cards
theorem fL.refl(m:Mem):fL m m:=⟨rfl,λ_ _=>⟨rfl,rfl,rfl,Dq _⟩,λ_ _=>rfl⟩
theorem fL.trans{a b c:Mem}(h:fL a b)(k:fL b c):fL a c:=⟨k.limit.trans h.limit,λi d=>by
 obtain⟨f,g,e,j⟩:=h.seg i d
 obtain⟨l,m,n,o⟩:=k.seg i (by rw[e];exact d)
 exact⟨l.trans f,m.trans g,n.trans e,DZ j o⟩,λi d=>(k.cards i (by rw[(h.seg i d).2.2.1];exact d)).trans (h.cards i d)⟩
theorem bG.heads{m a:Mem}(h:bG m a):fL m a:=⟨h.limit,λk _=>⟨(h.seg k).1,(h.seg k).2.1,(h.seg k).2.2.2.1,by rw[(h.seg k).2.2.1];exact Dq _⟩,λk _=>(h.seg k).2.2.2.2⟩
theorem Grown.heads{m e:Mem}{a g k n:Int}(b:Grown m e a n g k)(hn:0<=n):fL m e:=⟨b.limit,λi d=>by
 by_cases c:i=(a / 64).toNat
 ·subst c
  obtain⟨l,o,p,s,t,q⟩:=b.old d
  obtain⟨r,f,h,j⟩:=b.new
  exact⟨f.trans l.symm,h.trans o.symm,q,by rw[j,p];omega⟩
 ·rw[b.others i c];exact⟨rfl,rfl,rfl,Dq _⟩,λi d=>by
 by_cases c:i=(a / 64).toNat
 ·subst c;exact(b.old d).2.2.2.2.1
 ·rw[b.others i c]⟩
theorem fL.has{a:Mem}(h:fL u a){k:Int}(hk:u.has k):a.has k:=⟨hk.1,by rw[h.limit];exact hk.2.1,by rw[(h.seg _ hk.2.2).2.2.1];exact hk.2.2⟩
theorem Sp.visit_heads(a:SpOK i)(e:i.mem.Even)(f:aD A):fL i.mem (i.visit C j A).1.mem:=by
 unfold Sp.visit
 split
 ·exact fL.refl _
 split
 ·exact fL.refl _
 split
 ·exact fL.refl _
 rename_i c
 split
 ·rename_i d
  obtain⟨_,b⟩:=DG a d
  have g:=Mem.size_used a.mem e f c
  exact((b.heads (by omega)).trans (bG.sets _ _ _).heads).trans (bG.set _ _ _).heads
 ·exact fL.refl _
theorem Sp.lookAt_heads(a:SpOK i)(b:i.mem.Even):fL i.mem (i.lookAt C j A).mem:=
 (Sp.visit_heads a b (DY a.mem A)).trans (bG.wr _ _ _).heads
theorem Sp.visit_ok(a:SpOK i){old:Nat->Bool}{T w:Int}(o:aD w)(n:aO old w->True):SpOK (i.visit old T w).1:=by
 unfold Sp.visit
 split
 ·exact a
 split
 ·exact a
 split
 ·exact a
 split
 ·rename_i g
  obtain⟨c,f⟩:=DG a g
  have d:=a.mem.lim
  obtain⟨j,l,m⟩:=f.addr
  have b:=c.sets (i.alloc T (i.mem.kindOf w) (i.mem.sizeOf w)).2.1 (ws:=i.mem.row (w / 8) (i.mem.sizeOf w).toNat) (λv e=>by
   unfold Mem.row at e
   obtain⟨p,_,rfl⟩:=CT.1 e
   exact(a.mem.seg _).words _)
  exact b.withMem (b.mem.set (w / 8) ⟨by omega,by omega⟩) (λk h=>D6.2 h) (λk=>⟨((bG.set _ _ _).seg k).1,((bG.set _ _ _).seg k).2.1⟩)
 ·exact a
theorem Sp.lookAt_ok(b:SpOK i){old:Nat->Bool}{T a:Int}:SpOK (i.lookAt old T a):=
 SpOK.wr (Sp.visit_ok b (DY b.mem a) (λ_=>trivial)) a (Sp.visit_word b (DY b.mem a))
theorem Sp.look_ok{s:Sp}(e:SpOK s)(d:s.mem.Even){old:Nat->Bool}{T seg kind lo:Int}: ∀n,SpOK (s.look old T seg kind lo n)/\(s.look old T seg kind lo n).mem.Even/\fL s.mem (s.look old T seg kind lo n).mem
 | 0=>⟨e,d,fL.refl _⟩
 | n+1=>by
  obtain⟨a,b,c⟩:=Sp.look_ok e d (old:=old) (T:=T) (seg:=seg) (kind:=kind) (lo:=lo) n
  unfold Sp.look
  split
  ·exact⟨Sp.lookAt_ok a,Sp.lookAt_even a b _ _ _,c.trans (Sp.lookAt_heads a b)⟩
  ·exact⟨a,b,c⟩
theorem iG.heads{old:Nat->Bool}{T:Int}{b:Sp}{m:List (Int×Value)}(h:iG old T i z b m)(n:SpOK i)(e:i.mem.Even):SpOK b/\b.mem.Even/\fL i.mem b.mem:=by
 induction h with
 | refl=>exact⟨n,e,fL.refl _⟩
 | step k _ _ _ _ _ f=>
  obtain⟨a,c,d⟩:=f
  obtain⟨g,j,l⟩:=Sp.look_ok a c (old:=old) (T:=T) (seg:=k) (kind:=(_:Int)) (lo:=_) _
  exact⟨g,j,d.trans l⟩
theorem zt{H:zV}{c o:Nat}{v:Value}(h:hat H ⟨c,o,none⟩=some v):aL H ⟨c,o,none⟩ 0 [v]:=⟨by rw[CH];exact h,EO⟩
theorem TrAt.putSeen{b:Array MapEntry}(h:TrAt H d k o)(q:vb (aY .i64) b.toList z):TrAt (aM H k.s (.map b v)) d k {o with seen:=z}:=by
 have f:Fr [k.s] H (aM H k.s (.map b v)):=Fr.set
 have t:=h.lt k.s (by simp[TB.all])
 obtain⟨l,m,r⟩:=h.tr
 obtain⟨g,e,n,j⟩:=h.frm
 have u:=h.ne
 refine⟨⟨l,f.get (by simp;omega) m,r⟩,⟨g,e,f.get (by simp;omega) n,j⟩,⟨b,v,aT t,q⟩,?_,λa p=>DJ (h.cB a p) f.size,h.clen,h.ne⟩
 have c:=h.cards
 cases i:k.cB with
 | none=>rw[i]at c;exact c
 | some a=>
  rw[i]at c
  refine f.rowAt ?_ c
  have:=u.2.2.2 a.block (by rw[i];simp)
  simp;omega
theorem Tg.putSeen{a:Array MapEntry}(h:Tg H d r k o)(e:vb (aY .i64) a.toList z)(c:D=aM H k.s (.map a v)):Tg D d r k {o with seen:=z}:=by
 subst c
 have f:Fr [k.s] H (aM H k.s (.map a v)):=Fr.set
 have hn:k.s ∉ d.all:=h.apart k.s (by simp[TB.all])
 exact⟨⟨h.hp.keep f (λi b=>by simp at b;rw[b];exact hn),h.ok,h.tr.putSeen e,h.apart⟩,h.even,h.cf,h.on⟩
structure RdT (H A:zV) (b:Blk) (x:Hp) (q:TB) (t:Tr) (B:zW) (c:Nat) (l:List Nat) (i:Nat) (sm:Bool) (s:Sp) (ks:List (Int×Value)):Prop where
 dr:iG t.old t.tgt x.sp t.seen s ks
 tg:Tg A b {x with sp:=s} q {t with seen:=ks}
 ok:iL ks
 fr:Fr (q.s::y9 b) H A
 own:Own A 3 1 B l.length c (zf (l.map λi:Nat=>(i:Int)))
 no:sm=false->s=x.sp/\ks=t.seen/\ ∀j,j<i-> ∀h:j<l.length,t.old l[j]=true\/(x.sp.mem.seg l[j]).n<=seenAt t.seen l[j]
 yes:sm=true->mu ks<mu t.seen
theorem ud{q:TB}(T:Tg H d r q o)(bR:iL o.seen)(cK:0<=o.tgt):
  dV.C (some ⟨q.t,0,none⟩) H (λv H'=> ∃(sm:Bool) (s:Sp) (ks:List (Int×Value)),v=.bool sm/\iG o.old o.tgt r.sp o.seen s ks/\Tg H' d {r with sp:=s} q {o with seen:=ks}/\iL ks/\Fr (q.s::y9 d) H H'/\(sm=false->lV o.old o.tgt s ks)/\(sm=true->mu ks<mu o.seen)):=by
 refine HC.via λR hR=>dV.link ?_
 unfold dV.pt zY
 obtain⟨p1,p2,p3,p4⟩:=T.s1
 refine⟨_,rfl,_,p1,_,rfl,_,p2,_,rfl,_,p3,_,rfl,_,p4,_,by rw[CH];exact T.tr.tgtAt,?_⟩
 intro c1 H1 bq X
 have e1:Ext H H1:=CI X
 have g1:=aF bq X
 have s1:H1.size=H.size+1:=by rw[X];simp
 have T1:=T.grow e1
 refine⟨zt (e1.hat p1),zt (e1.hat p2),zt (e1.hat p3),zt (e1.hat p4),?_⟩
 refine HC.mono (jG (gs:=[o.tgt]) T1.hp.cd.sp.mem T1.ok.mem (show dO H1 (some ⟨c1,0,none⟩) (zf [o.tgt])from zt (by rw[aI g1];rfl)) rfl (by decide)) ?_
 rintro _ H2 ⟨B,c,l,rfl,hl,bB,bw,e2⟩
 refine⟨_,_,_,rfl,?_⟩
 have au:=e1.trans e2
 have T2:=T.grow au
 have cg:=hl.len
 have ch:=T.ok.mem.lim
 have bl: ∀j∈kd B,j ∉ q.s::y9 d:=λj x h=>by
  have h1:=bw j x
  rcases CR.1 h with rfl | h
  ·have:=T.lt (.inr (show q.s∈q.all by simp[TB.all]));omega
  ·have:=T.lt (.inl (jO h));omega
 refine⟨λsm i A=>(0<=i/\i<=l.length)/\ ∃s ks,RdT H A d r q o B c l i.toNat sm s ks,λ_ i _=>(l.length-i).toNat,
  ⟨⟨by omega,by omega⟩,r.sp,o.seen,⟨.refl,T2,bR,au.fr,bB,λ_=>⟨rfl,rfl,λj x=>by simp at x⟩,λh=>by cases h⟩⟩,?_⟩
 rintro sm i H3 ⟨hi,s,ks,f⟩
 by_cases a2:i< (l.length:Int)
 case neg=>
  rw[za a2]
  refine hR _ _ ⟨sm,s,ks,rfl,f.dr,f.tg,f.ok,f.fr,λt=>?_,f.yes⟩
  obtain⟨rfl,rfl,ay⟩:=f.no t
  intro k hk hg ho
  have hm:k∈l:=by
   refine hl.perm.mem_iff.2 ?_
   unfold Mem.takenTo
   rw[Dm,Dc]
   have b7:0< (r.sp.mem.seg k).taken:=by
    have h1:=(T.ok.mem.seg k).taken
    have W:=hk.2.2
    rw[show((k:Nat):Int).toNat=k by omega]at W
    omega
   refine⟨by have:=hk.2.1;omega,?_⟩
   have W:(r.sp.mem.seg k).gen∈[o.tgt]:=by rw[hg];simp
   rw[zX b7,zX W];simp
  obtain⟨j,x,rfl⟩:=Ep hm
  rcases ay j (by omega) x with h | h
  ·rw[h]at ho;cases ho
  ·exact h
 rw[qB a2]
 have b4:i.toNat<l.length:=by omega
 obtain⟨a,ha,az⟩:=mS f.own b4
 obtain⟨be,cj,ck,bd⟩:=hl.has (CS b4)
 generalize b5:l[i.toNat]=k at*
 have a6:(r.sp.mem.seg k).gen=o.tgt:=by
  rcases bd with h | h
  ·cases h
  ·simpa using h
 refine⟨a,ha,⟨hi.1,a2⟩,(k:Int),az,⟨by omega,by omega⟩,(if o.old k then 1 else 0),?_,?_⟩
 ·rw[show((k:Nat):Int).toNat=k by omega];rw[Dd,CH,CH,CQ];exact f.tg.tr.oldAt (k:=k) (by omega)
 have bc:IntKind.wrap .i64 (i+1)=i+1:=xT (by omega)
 have cH:(i+1).toNat=i.toNat+1:=by omega
 have O:((l.length:Int)-(i+1)).toNat< ((l.length:Int)-i).toNat:=by omega
 by_cases ho:o.old k=true
 ·rw[qB (by rw[qB ho])]
  rw[bc]
  refine⟨⟨⟨by omega,by omega⟩,s,ks,f.dr,f.tg,f.ok,f.fr,f.own,λt=>?_,f.yes⟩,O⟩
  obtain⟨h1,W,h3⟩:=f.no t
  refine⟨h1,W,λj x h=>?_⟩
  by_cases a1:j=i.toNat
  ·subst a1;left;rw[b5];exact ho
  ·exact h3 j (by omega) h
 rw[za (by rw[za ho];decide)]
 have bA:o.old k=false:=by simpa using ho
 obtain⟨p1,p2,p3,p4⟩:=f.tg.s1
 refine⟨_,p1,_,rfl,_,p2,_,rfl,_,p3,_,rfl,_,p4,?_⟩
 refine HC.mono (gt f.tg.hp.cd.sp.mem) ?_
 rintro _ H4 ⟨rfl,e4⟩
 refine⟨_,_,_,_,_,_,_,_,rfl,λc5 H5 br bo=>?_⟩
 obtain⟨bs,hs⟩:=jB (s.mem.segOr k) br bo
 refine⟨bs,λH6 bp=>?_⟩
 obtain⟨e6,_,_,_,bC⟩:=hs H6 bp
 have I:=e4.trans e6
 have bj:H3.size<=c5:=by have:=e4.size;omega
 have cx: ∀j∈kd B,j<H3.size:=f.own.lt
 have aV: ∀j,j∈d.all\/j∈q.all->j<H.size:=λj x=>T.lt x
 have cy:H.size<=H3.size:=f.fr.size
 refine⟨λbT cQ A=> ∃(y:Nat) (g:Sp) (u:List (Int×Value)),cQ=some ⟨y,0,none⟩/\H3.size<=y/\aL A ⟨y,0,none⟩ 0 [vi (g.mem.segOr k).gen,vi (g.mem.segOr k).kind,vi (g.mem.segOr k).n,vi ((g.mem.segOr k).cards 0),vi ((g.mem.segOr k).cards 1),vi ((g.mem.segOr k).cards 2),vi ((g.mem.segOr k).cards 3)]/\RdT H A d r q o B c l i.toNat bT g u/\H3.size<=A.size,
  λ_ _ A=>mu (match A[q.s]? with | some (.map J _)=>J.toList.map (λe=>((match e.key with | .int _ n=>n | _=>0),e.val)) | _=> []),?_,?_⟩
 ·exact⟨c5,s,ks,rfl,bj,bC,⟨f.dr,f.tg.grow I,f.ok,f.fr.trans I.fr,f.own.ext I,f.no,f.yes⟩,I.size⟩
 rintro bU cQ H7 ⟨y,g,u,rfl,cB,b9,b,cJ⟩
 have Q: ∀{A:zV} {bf:Sp} {m:List (Int×Value)},Tg A d {r with sp:=bf} q {o with seen:=m}->(match A[q.s]? with | some (.map J _)=>J.toList.map (λe=>((match e.key with | .int _ n=>n | _=>0),e.val)) | _=> [])=m:=by
  intro A bf m tg
  obtain⟨J,cl,h1,W⟩:=tg.tr.seen
  rw[h1]
  show J.toList.map _=m
  have h3:=CJ (List.map (λp:Value×Value=>((match p.1 with | .int _ n=>n | _=>0),p.2))) W
  simp only[List.map_map]at h3
  refine Eq.trans ?_ (h3.trans ?_)
  ·rfl
  ·show List.map _ m=m
   conv=>rhs;rw[<-List.map_id m]
   rfl
 obtain⟨J,cl,Z,Y⟩:=b.tg.tr.seen
 obtain⟨P,bK,bb⟩:=k9 b.ok (k:Int)
 obtain⟨bS,cv,b2⟩:=b.dr.heads T.ok T.even
 have E:g.mem.has (k:Int):=b2.has be
 have S:g.mem.segOr k=g.mem.seg k:=by unfold Mem.segOr;rw[qB E,show((k:Nat):Int).toNat=k by omega]
 have b6:(r.sp.mem.seg k).taken≠0:=by omega
 have a0:(g.mem.seg k).gen=o.tgt:=((b2.seg k b6).1).trans a6
 have a4:=(bS.mem.seg k).n
 have hN:hat H7 ⟨y,2,none⟩=some (vi (g.mem.seg k).n):=by rw[<-S];exact b9.2.2.1
 refine⟨_,b.tg.tr.sAt,_,rfl,J,cl,_,Z,Y,_,P,_,rfl,_,hN,?_⟩
 by_cases L:seenAt u k< (g.mem.seg k).n
 case neg=>
  rw[za L,bc]
  refine⟨⟨⟨by omega,by omega⟩,g,u,b.dr,b.tg,b.ok,b.fr,b.own,λt=>?_,b.yes⟩,O⟩
  obtain⟨rfl,rfl,h3⟩:=b.no t
  refine⟨rfl,rfl,λj x h=>?_⟩
  by_cases a1:j=i.toNat
  ·subst a1;right;rw[b5];omega
  ·exact h3 j (by omega) h
 rw[qB L]
 refine⟨_,b.tg.tr.sAt,_,rfl,J,cl,_,Z,Y,_,P,_,b.tg.tr.sAt,_,hN,_,rfl,J,cl,_,Z,Y,?_⟩
 intro cu cr H8 ax b3
 have T8:=b.tg.putSeen b3 ax
 have f8:Fr [q.s] H7 H8:=by rw[ax];exact Fr.set
 have al:y ∉ q.s::y9 d:=λh=>by
  rcases CR.1 h with h | h
  ·have:=aV q.s (.inr (by simp[TB.all]));omega
  ·have:=aV y (.inl (jO h));omega
 have am:y ∉ [q.s]:=λh=>al (by simp at h;simp[h])
 have an:y ∉ y9 d:=λh=>al (Dt _ h)
 have ba:=f8.rowAt (a:=⟨y,0,none⟩) am b9
 have F:=ba
 simp only[aL,and_true,CH,CQ]at F
 refine⟨_,F.2.2.1,_,F.2.1,?_⟩
 rw[S]
 refine HC.mono (rh T8 ⟨by omega,by omega⟩ ⟨bK,bb⟩ a4.2) ?_
 rintro _ H9 ⟨T9,f9⟩
 have bI:=f9.rowAt (a:=⟨y,0,none⟩) an ba
 refine⟨_,_,_,_,_,_,_,bI,?_⟩
 intro ao af N z
 obtain⟨aW,bN⟩:=boxed (vs:=[vi (g.mem.segOr k).gen,vi (g.mem.segOr k).kind,vi (g.mem.segOr k).n,vi ((g.mem.segOr k).cards 0),vi ((g.mem.segOr k).cards 1),vi ((g.mem.segOr k).cards 2),vi ((g.mem.segOr k).cards 3)]) (H1:=af) (aF N z) rfl rfl
 refine⟨aW,λV D=>?_⟩
 have w:=aF N z
 obtain⟨ci,bm⟩:=bN V D
 have ap:Ext H9 V:=bm H9 (CI z) (by omega)
 have aj:=T9.grow ap
 obtain⟨p1,p2,p3,p4⟩:=aj.s1
 refine⟨_,p1,_,rfl,_,p2,_,rfl,_,p3,_,rfl,_,p4,?_⟩
 refine HC.mono (gt aj.hp.cd.sp.mem) ?_
 rintro _ bh ⟨rfl,M⟩
 have aU: ∃cs:Array Value,V[ao]?=some (.cells cs 108 (0,0))/\cs.size=7:=by
  rw[bY _ af _ 0 0 w]at D
  rw[D]
  exact⟨_,aT (aS w),by rw[DK];rfl⟩
 obtain⟨cs,bu,b1⟩:=aU
 generalize bM:g.look o.old o.tgt k (g.mem.seg k).kind (seenAt u k) ((g.mem.seg k).n-seenAt u k).toNat=U at*
 obtain⟨b0,bO⟩:=boxed (vs:=[vi (U.mem.segOr k).gen,vi (U.mem.segOr k).kind,vi (U.mem.segOr k).n,vi ((U.mem.segOr k).cards 0),vi ((U.mem.segOr k).cards 1),vi ((U.mem.segOr k).cards 2),vi ((U.mem.segOr k).cards 3)]) (H1:=bh) (M.get bu) b1 rfl
 refine⟨_,_,_,_,_,_,_,_,rfl,b0,λag aw=>?_⟩
 obtain⟨b8,bn⟩:=bO ag aw
 have G:Ext H9 ag:=bn H9 (ap.trans M) (by omega)
 have ak:=T9.grow G
 have a3:=xZ (ks:=u) (k:=k) ⟨by omega,by omega⟩ L a4.2
 have K:Fr (q.s::y9 d) H7 H9:=(f8.mono (λj x _=>by simp at x;simp[x])).trans (f9.mono (λj x _=>Dt _ x))
 have dr:=iG.step (k:Int) b.dr E (by rw[show((k:Nat):Int).toNat=k by omega];exact a0) (by rw[show((k:Nat):Int).toNat=k by omega];exact bA) (by rw[show((k:Nat):Int).toNat=k by omega];exact L)
 rw[show((k:Nat):Int).toNat=k by omega,bM]at dr
 refine⟨⟨ao,U,_,rfl,?_,b8,⟨dr,ak,b.ok.put a4,b.fr.trans (K.trans G.fr),?_,(λh=>by cases h),λ_=>?_⟩,?_⟩,?_⟩
 ·have:=K.size;omega
 ·exact(b.own.keep K bl).ext G
 ·by_cases t:bU=true
  ·exact Nat.lt_trans a3 (b.yes t)
  ·have:=(b.no (by simpa using t)).2.1
   rw[<-this];exact a3
 ·have:=K.size;have:=G.size;omega
 ·show mu _<mu _
  rw[Q ak,Q b.tg];exact a3
theorem qc(T:Tg H d r k o)(v:iL o.seen)(w:0<=o.tgt):
  cW.C (some ⟨k.t,0,none⟩) H (λ_ y=> ∃(s:Sp) (c:List (Int×Value)),iG o.old o.tgt r.sp o.seen s c/\lV o.old o.tgt s c/\Tg y d {r with sp:=s} k {o with seen:=c}/\iL c/\Fr (k.s::y9 d) H y):=by
 refine HC.via λR J=>cW.link ?_
 unfold cW.pt
 have f: ∀{A:zV} {l:Sp} {a:List (Int×Value)},Tg A d {r with sp:=l} k {o with seen:=a}->(match A[k.s]? with | some (.map h _)=>h.toList.map (λe=>((match e.key with | .int _ n=>n | _=>0),e.val)) | _=> [])=a:=by
  intro A l a L
  obtain⟨h,P,G,I⟩:=L.tr.seen
  rw[G]
  show h.toList.map _=a
  have E:=CJ (List.map (λp:Value×Value=>((match p.1 with | .int _ n=>n | _=>0),p.2))) I
  simp only[List.map_map]at E
  refine Eq.trans ?_ (E.trans ?_)
  ·rfl
  ·show List.map _ a=a
   conv=>rhs;rw[<-List.map_id a]
   rfl
 refine⟨λA=> ∃s c,iG o.old o.tgt r.sp o.seen s c/\Tg A d {r with sp:=s} k {o with seen:=c}/\iL c/\Fr (k.s::y9 d) H A,
  λA=>mu (match A[k.s]? with | some (.map h _)=>h.toList.map (λe=>((match e.key with | .int _ n=>n | _=>0),e.val)) | _=> []),⟨_,_,.refl,T,v,Fr.refl _ _⟩,?_⟩
 rintro M ⟨s,c,z,q,x,B⟩
 refine HC.mono (k8 q.toTc) ?_
 rintro _ N ⟨rfl,rfl⟩
 refine⟨_,rfl,?_⟩
 rw[za (show ¬o.over=true by rw[T.on];decide)]
 refine HC.mono (ud q x w) ?_
 rintro _ O ⟨K,F,j,rfl,g,t,m,D,u,i⟩
 refine⟨_,rfl,?_⟩
 by_cases b:K=true
 ·rw[qB b]
  refine⟨⟨F,j,z.trans g,t,m,B.trans D⟩,?_⟩
  show mu _<mu _
  rw[f t,f q];exact i b
 ·rw[za b]
  exact J _ _ ⟨F,j,z.trans g,u (by simpa using b),t,m,B.trans D⟩
theorem ue(h:cS H v B u):iH.C (some ⟨v,0,none⟩) H (λc a=>c=vi u.free/\a=H):=by
 refine HC.via λR b=>iH.link ?_
 unfold iH.pt
 rw[CK]
 exact⟨_,by rw[CH];exact h.freeAt,b _ _ ⟨rfl,rfl⟩⟩
def Sp.zap(s:Sp)(P:Nat->Prop) [DecidablePred P]:Sp:={s with cur:=λi j=>if P i then 0 else s.cur i j}
theorem SpAt.alike{a:Sp}(h:SpAt H d i)(hm:a.mem=i.mem)(m: ∀g k,g<5->k<4->a.cur g k=i.cur g k):SpAt H d a:=by
 obtain⟨c,e,f,j,l⟩:=h.sp
 exact⟨by rw[hm];exact h.mem,h.ne,c,e,f,j,λg k b hk=>by rw[m g k b hk];exact l g k b hk⟩
theorem SpAt.put4(h:SpAt H d i){g:Nat}(o:g<5):
  aH H ⟨d.sp,1+g*4,none⟩ 0 4/\SpAt (aP H ⟨d.sp,1+g*4,none⟩ [vi 0,vi 0,vi 0,vi 0] 0) d (i.zap (· =g))/\Fr [d.sp] H (aP H ⟨d.sp,1+g*4,none⟩ [vi 0,vi 0,vi 0,vi 0] 0):=by
 obtain⟨b,a,n,c,f⟩:=h.sp
 refine⟨cR a _ _ _ (by omega),?_⟩
 rw[bY _ H b _ 0 a]
 refine⟨⟨h.mem.keep (S:=[d.sp]) Fr.set (by have:=h.ne;simp;omega) (by have:=h.ne;simp;omega),h.ne,_,aT (aS a),by rw[DK];exact n,?_,λp j k l=>?_⟩,Fr.set⟩
 ·rw[eF _ _ _ _ (by omega)];exact c
 ·simp only[Sp.zap]
  by_cases e:p=g
  ·rw[qB e,e]
   have:=fO b [vi 0,vi 0,vi 0,vi 0] (1+g*4+0) j (by simp;omega) (by simp;omega)
   rw[show 1+g*4+j=1+g*4+0+j by omega,this]
   rcases(show j=0\/j=1\/j=2\/j=3 by omega)with rfl | rfl | rfl | rfl<;>rfl
  ·rw[za e,<-f p j k l]
   rcases C6 p g with m | m
   ·exact eF _ _ _ _ (by omega)
   ·exact iO _ _ _ _ (by simp;omega)
def Sp.fresh(s:Sp)(gs:List Int):Sp:=s.zap (λi=>gs=[]\/(i:Int)∈gs)
theorem Sp.zap_ok(a:SpOK i)(P:Nat->Prop) [DecidablePred P]:SpOK (i.zap P):=⟨a.mem,λg k=>by
 simp only[Sp.zap]
 split
 ·exact .inl rfl
 ·exact a.cur g k⟩
theorem kQ{α:Type}{p q:Prop} [Decidable p] [Decidable q] (h:p ↔ q)(x y:α):(if p then x else y)=if q then x else y:=by
 by_cases a:p
 ·rw[qB a,qB (h.1 a)]
 ·rw[za a,za (λb=>a (h.2 b))]
theorem SpAt.zapTo{P Q:Nat->Prop} [DecidablePred P] [DecidablePred Q] (h:SpAt H d (i.zap P))(e: ∀b,b<5->(P b ↔ Q b)):SpAt H d (i.zap Q):=h.alike rfl (λb k a _=>by
 simp only[Sp.zap]
 exact kQ (e b a).symm _ _)
theorem SpAt.zapMore{P R Q:Nat->Prop} [DecidablePred P] [DecidablePred R] [DecidablePred Q] (h:SpAt H d ((i.zap P).zap R))(e: ∀g,g<5->(P g\/R g ↔ Q g)):SpAt H d (i.zap Q):=h.alike rfl (λg k b _=>by
 simp only[Sp.zap]
 by_cases a:R g
 ·rw[qB a,qB ((e g b).1 (.inr a))]
 ·rw[za a]
  exact kQ ⟨λf=>((e g b).2 f).resolve_right a,λc=>(e g b).1 (.inl c)⟩ _ _)
theorem qI{r:zW}{b:List Int}(h:SpAt H d i)(P:dO H r (zf b))(F:v=b.length)(V:v<=1000)(E: ∀Z∈kd r,Z≠d.sp):
  dU.C (some ⟨d.sp,0,none⟩) r v B H (λ_ L=>SpAt L d (i.fresh b)/\Fr [d.sp] H L):=by
 refine HC.via λR T=>dU.link ?_
 unfold dU.pt zY
 rw[CK]
 subst F
 have s:SpAt H d (i.zap λZ=>(Z:Int)<0/\(b=[]\/(Z:Int)∈b)):=h.alike rfl (λg k _ _=>by simp only[Sp.zap];rw[za (by omega)])
 refine⟨λg A=>(0<=g/\g<=5)/\SpAt A d (i.zap λZ=>(Z:Int)<g/\(b=[]\/(Z:Int)∈b))/\Fr [d.sp] H A,λg _=>(5-g).toNat,⟨by omega,s,Fr.refl _ _⟩,?_⟩
 rintro g X ⟨e,N,M⟩
 by_cases c:g<5
 case neg=>
  rw[za c]
  exact T _ _ ⟨N.zapTo (λZ D=>⟨λq=>q.2,λq=>⟨by omega,q⟩⟩),M⟩
 rw[qB c]
 have Q:IntKind.wrap .i64 (g+1)=g+1:=xT (by omega)
 have O:(5-(g+1)).toNat< (5-g).toNat:=by omega
 have K: ∀{A:zV},Fr [d.sp] H A->dO A r (zf b):=λ{A} f=>by
  cases r with
  | none=>exact P
  | some a=>exact f.rowAt (by have:=E a.block (by simp);simp;exact this) P
 refine⟨λj A=>(0<=j/\j<=b.length)/\SpAt A d (i.zap λZ=>(Z:Int)<g/\(b=[]\/(Z:Int)∈b)\/(Z:Int)=g/\g∈b.take j.toNat)/\Fr [d.sp] H A,λj _=>(b.length-j).toNat,⟨by omega,N.zapTo (λZ _=>⟨λq=> .inl q,λq=>by
  rcases q with q | q
  ·exact q
  ·simp at q⟩),M⟩,?_⟩
 rintro j Y ⟨W,t,p⟩
 by_cases n:j< (b.length:Int)
 ·rw[qB n]
  have y:j.toNat<b.length:=by omega
  obtain⟨a,U,hat⟩:=nY (K p) y
  have J:IntKind.wrap .i64 (j+1)=j+1:=xT (by omega)
  have u:((b.length:Int)-(j+1)).toNat< ((b.length:Int)-j).toNat:=by omega
  have I:b.take (j+1).toNat=b.take j.toNat++[b[j.toNat]]:=by rw[show(j+1).toNat=j.toNat+1 by omega,Db y]
  refine⟨a,U,⟨W.1,n⟩,_,hat,?_⟩
  rw[J]
  by_cases z:b[j.toNat]=g
  ·rw[qB z]
   have o:=t.put4 (g:=g.toNat) (by omega)
   rw[CH,CH,CQ]
   refine⟨⟨e.1,c⟩,o.1,λS l=>?_⟩
   subst l
   refine⟨⟨by omega,o.2.1.zapMore (λZ D=>⟨λq=>?_,λq=>?_⟩),p.trans o.2.2⟩,u⟩
   ·rcases q with(q | q) | q
    ·exact .inl q
    ·exact .inr ⟨q.1,by rw[I];exact Dg _ q.2⟩
    ·exact .inr ⟨by omega,by rw[I,z];simp⟩
   ·rcases q with q | q
    ·exact .inl (.inl q)
    ·exact .inr (by omega)
  ·rw[za z]
   have hm:g∈b.take (j+1).toNat ↔ g∈b.take j.toNat:=by
    rw[I,CM]
    exact⟨λq=>q.elim id (λq=>absurd (by simpa using q:g=b[j.toNat]).symm z),.inl⟩
   exact⟨⟨by omega,t.zapTo (λZ D=>by rw[hm]),p⟩,u⟩
 ·rw[za n]
  rw[De (by omega)]at t
  by_cases s:(b.length:Int)=0
  ·rw[qB s]
   have w:b=[]:=EM.1 (by omega)
   have o:=t.put4 (g:=g.toNat) (by omega)
   rw[CH,CH,CQ]
   refine⟨⟨e.1,c⟩,o.1,λS l=>?_⟩
   subst l
   rw[Q]
   refine⟨⟨by omega,o.2.1.zapMore (λZ D=>⟨λq=>?_,λq=>?_⟩),p.trans o.2.2⟩,O⟩
   ·rcases q with(q | q) | q
    ·exact⟨by omega,q.2⟩
    ·exact⟨by omega,.inl w⟩
    ·exact⟨by omega,.inl w⟩
   ·by_cases m:(Z:Int)<g
    ·exact .inl (.inl ⟨m,q.2⟩)
    ·exact .inr (by omega)
  ·rw[za s,Q]
   have G:b≠[]:=λh=>s (by rw[h];rfl)
   refine⟨⟨by omega,t.zapTo (λZ D=>⟨λq=>?_,λq=>?_⟩),p⟩,O⟩
   ·rcases q with q | q
    ·exact⟨by omega,q.2⟩
    ·exact⟨by omega,.inr (by rw[q.1];exact q.2)⟩
   ·by_cases m:(Z:Int)<g
    ·exact .inl ⟨m,q.2⟩
    ·have x:(Z:Int)=g:=by omega
     refine .inr ⟨x,?_⟩
     rcases q.2 with q | q
     ·exact absurd q G
     ·rw[<-x];exact q
def Mem.dirtyAt(m:Mem)(g:Int)(k n:Nat):List (Int×Int):=((List.range n).filter λi=>decide (g< (m.seg k).gen/\(m.seg k).cards i<=g)).map λi:Nat=>((k:Int),(i:Int))
def Mem.dirtyOf(m:Mem)(g:Int)(l:List Nat):List (Int×Int):=l.flatMap λk=>m.dirtyAt g k 4
theorem Mem.dirtyAt_len(m:Mem)(g:Int)(k n:Nat):(m.dirtyAt g k n).length<=n:=by
 unfold Mem.dirtyAt;rw[Dl];exact Dz (En _ _) (by simp)
theorem Mem.dirtyOf_len(m:Mem)(g:Int): ∀l:List Nat,(m.dirtyOf g l).length<=4*l.length
 | []=>by simp[Mem.dirtyOf]
 | k::l=>by
  have a:=m.dirtyAt_len g k 4
  have b:=m.dirtyOf_len g l
  unfold Mem.dirtyOf at*
  rw[List.flatMap_cons,CV,List.length_cons];omega
theorem Mem.dirtyAt_succ(m:Mem)(g:Int)(k n:Nat):m.dirtyAt g k (n+1)=m.dirtyAt g k n++(if g< (m.seg k).gen/\(m.seg k).cards n<=g then[((k:Int),(n:Int))]else[]):=by
 unfold Mem.dirtyAt
 rw[DP,D7,C7]
 congr 1
 by_cases h:g< (m.seg k).gen/\(m.seg k).cards n<=g
 ·rw[qB h];simp[h]
 ·rw[za h];simp at h⊢;exact h
theorem Mem.mem_dirty{l:List Nat}{c:Int×Int}:c∈u.dirtyOf j l ↔ ∃k∈l,∃i:Nat,i<4/\c=((k:Int),(i:Int))/\j< (u.seg k).gen/\(u.seg k).cards i<=j:=by
 unfold Mem.dirtyOf Mem.dirtyAt
 simp only[Dv,CT,Dm,Dc,CN]
 constructor
 ·rintro⟨k,hk,i,⟨d,a,b⟩,rfl⟩;exact⟨k,hk,i,d,rfl,a,b⟩
 ·rintro⟨k,hk,i,d,rfl,a,b⟩;exact⟨k,hk,i,⟨d,a,b⟩,rfl⟩
theorem oF(a c:List (Int×Int)):eP (a++c)=eP a++eP c:=by unfold eP;rw[DQ]
theorem rP(h:CdAt H d i)(ok:SpOK i):
  eK.C (some ⟨d.c,0,none⟩) j H (λv H'=> ∃(B:zW) (n c:Nat) (l:List Nat),v=vs B n c/\dA i.mem [] l/\n=(i.mem.dirtyOf j l).length/\Own H' 127 2 B n c (eP (i.mem.dirtyOf j l))/\(∀bb∈kd B,H.size<=bb)/\Ext H H'):=by
 refine HC.via λR hR=>eK.link ?_
 unfold eK.pt zY
 refine HC.mono (lU h) ?_
 rintro _ H1 ⟨rfl,rfl⟩
 refine⟨_,rfl,?_⟩
 rw[za (by decide)]
 refine⟨_,rfl,_,h.cPtr,_,rfl,_,h.sp.memPtr,?_⟩
 refine HC.mono (jG (gs:=[]) h.sp.mem ok.mem (show dO H1 none (zf [])from rfl) rfl (by decide)) ?_
 rintro _ M ⟨B0,c0,l,rfl,hl,J,af,T⟩
 refine⟨_,_,_,rfl,?_⟩
 have ag:=hl.len
 have ah:=ok.mem.lim
 refine⟨λB n c bb A=>(0<=bb/\bb<=l.length)/\n=(i.mem.dirtyOf j (l.take bb.toNat)).length/\Own A 127 2 B n c (eP (i.mem.dirtyOf j (l.take bb.toNat)))/\(∀bc∈kd B,M.size<=bc)/\Ext M A,λ_ _ _ bb _=>(l.length-bb).toNat,
  ⟨by omega,rfl,gI,by simp,CW _⟩,?_⟩
 rintro B n c bb H3 ⟨hi,rfl,s,G,N⟩
 by_cases x:bb< (l.length:Int)
 case neg=>
  rw[za x]
  rw[De (by omega)]at s⊢
  exact hR _ _ ⟨B,_,c,l,rfl,hl,rfl,s,λbc o=>by have:=G bc o;have:=T.size;omega,T.trans N⟩
 rw[qB x]
 have u:bb.toNat<l.length:=by omega
 obtain⟨a,ha,E⟩:=mS (J.ext N) u
 obtain⟨L,ai,aj,_⟩:=hl.has (CS u)
 have ht:l.take (bb+1).toNat=l.take bb.toNat++[l[bb.toNat]]:=by rw[show(bb+1).toNat=bb.toNat+1 by omega,Db u]
 generalize hk:l[bb.toNat]=k at*
 have U:=h.ext (T.trans N)
 have ld:=i.mem.dirtyOf_len j (l.take bb.toNat)
 have ll:(l.take bb.toNat).length<=1024:=by rw[Di];omega
 refine⟨a,ha,⟨hi.1,x⟩,(k:Int),E,_,U.cPtr,_,rfl,_,U.sp.memPtr,?_⟩
 refine HC.mono (gt U.sp.mem) ?_
 rintro _ H4 ⟨rfl,e4⟩
 have a7:i.mem.segOr k=i.mem.seg k:=by unfold Mem.segOr;rw[qB L,show((k:Nat):Int).toNat=k by omega]
 rw[a7]
 refine⟨_,_,_,_,_,_,_,_,rfl,λy H5 X V=>?_⟩
 obtain⟨a0,hs⟩:=jB (i.mem.seg k) X V
 refine⟨a0,λH6 W=>?_⟩
 obtain⟨e6,a2,_,_,a6⟩:=hs H6 W
 have m:=a6
 simp only[aL,and_true,CH,CQ]at m
 refine⟨(i.mem.seg k).cards 0,(i.mem.seg k).cards 1,(i.mem.seg k).cards 2,(i.mem.seg k).cards 3,?_,?_⟩
 ·rw[CH]
  refine⟨?_,?_,?_,?_,EO⟩<;>rw[CH]
  ·exact m.2.2.2.1
  ·exact m.2.2.2.2.1
  ·exact m.2.2.2.2.2.1
  ·exact m.2.2.2.2.2.2
 have z:=e4.trans e6
 have ap:H3.size<=y:=by have:=e4.size;omega
 have hw:IntKind.wrap .i64 (bb+1)=bb+1:=xT (by omega)
 have a1:((l.length:Int)-(bb+1)).toNat< ((l.length:Int)-bb).toNat:=by omega
 refine⟨λQ n' c' bc A=>(0<=bc/\bc<=4)/\n'=(i.mem.dirtyOf j (l.take bb.toNat)++i.mem.dirtyAt j k bc.toNat).length/\Own A 127 2 Q n' c' (eP (i.mem.dirtyOf j (l.take bb.toNat)++i.mem.dirtyAt j k bc.toNat))/\(∀bc∈kd Q,M.size<=bc/\bc≠y)/\Ext M A/\hat A ⟨y,0,none⟩=some (vi (i.mem.seg k).gen),λ_ _ _ bc _=>(4-bc).toNat,
  ⟨by omega,by simp[Mem.dirtyAt],by simpa[Mem.dirtyAt]using s.ext z,λbc o=>⟨G bc o,by have:=s.lt bc o;omega⟩,N.trans z,a2⟩,?_⟩
 rintro Q n' c' bc S ⟨o,rfl,g,f,O,p⟩
 by_cases w:bc<4
 case neg=>
  rw[za w,hw]
  have a3:bc.toNat=4:=by omega
  rw[a3]at g⊢
  have t:i.mem.dirtyOf j (l.take (bb+1).toNat)=i.mem.dirtyOf j (l.take bb.toNat)++i.mem.dirtyAt j k 4:=by
   rw[ht];unfold Mem.dirtyOf;rw[DQ];simp
  refine⟨⟨by omega,by rw[t],by rw[t];exact g,λbc o=>(f bc o).1,O⟩,a1⟩
 rw[qB w]
 have Z: ∃q:Nat,bc=q/\q<4:=⟨bc.toNat,by omega,by omega⟩
 obtain⟨b,rfl,az⟩:=Z
 have a8:IntKind.wrap .i64 ((b:Int)+1)=(b:Int)+1:=xT (by omega)
 have e:((b:Int)+1).toNat=b+1:=by omega
 refine⟨(i.mem.seg k).cards b,⟨⟨by omega,w⟩,?_⟩,_,p,?_⟩
 ·rcases(show b=0\/b=1\/b=2\/b=3 by omega)with rfl | rfl | rfl | rfl<;>rfl
 rw[a8]
 have I:((b:Int)).toNat=b:=by omega
 rw[I]at g
 rw[I]
 have ax:=i.mem.dirtyAt_len j k b
 have F:(4-((b:Int)+1)).toNat< (4-(b:Int)).toNat:=by omega
 by_cases t:j< (i.mem.seg k).gen/\(i.mem.seg k).cards b<=j
 ·rw[qB (by simp;exact⟨t.1,t.2⟩)]
  intro c8 H8 Y D
  have P:Ext S H8:=CI D
  refine cI (ys:=[vi (k:Int),vi (b:Int)]) (g.ext P) (eJ (aF Y D) _ 0 0 (λbc o=>by
   simp only[List.length_cons,List.length_nil]at o
   rcases(show bc=0\/bc=1 by omega)with rfl | rfl<;>rfl)) rfl rfl rfl (by rw[CV];omega) ?_
  intro p' c9 H9 K f9 a5
  have r:i.mem.dirtyAt j k (b+1)=i.mem.dirtyAt j k b++[((k:Int),(b:Int))]:=by rw[Mem.dirtyAt_succ,qB t]
  refine⟨⟨by omega,by rw[e,r];simp;omega,?_,λbc o=>?_,(O.trans P).fr_trans f9 (λbc o=>(f bc o).1),f9.hat (λhm=>(f _ hm).2 rfl) (P.hat p)⟩,F⟩
  ·rw[e,r,<-DL,oF];exact K
  ·rcases a5 bc o with q | q
   ·exact f bc q
   ·have:=O.size;have:=P.size
    have h5:y<S.size:=by
     unfold Go.Proofs.YtfhbhckhmnleoaaGreat.hat at p
     rcases C6 y S.size with h | h
     ·exact h
     ·simp[Array.getElem?_eq_none h]at p
    exact⟨by omega,by omega⟩
 ·rw[za (by simpa using t)]
  have r:i.mem.dirtyAt j k (b+1)=i.mem.dirtyAt j k b:=by rw[Mem.dirtyAt_succ,za t,DC]
  exact⟨⟨by omega,by rw[e,r],by rw[e,r];exact g,f,O,p⟩,F⟩
