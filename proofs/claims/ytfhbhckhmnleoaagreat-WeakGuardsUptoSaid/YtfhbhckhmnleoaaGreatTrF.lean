/-
  What was copied is looked at (package trace): look, Cards. Proves nothing of any one statement.
-/
import Derived.Test.YtfhbhckhmnleoaaGreatWords
import Derived.Test.YtfhbhckhmnleoaaGreatFcardx
set_option linter.unusedVariables false
set_option linter.unusedSimpArgs false
namespace Go.Proofs.YtfhbhckhmnleoaaGreat
open Go
variable{H E:zV}{d:Blk}{i:Sp}{j B:Int}{k:TB}{o:Tr}{u:Hp}{v C:Nat}{z:Mem}{A:List (Int×Value)}{D:Nat->Bool}
theorem Sp.moved_cf(m:Mem)(w:Int)(r:Sp×Int×Int):(Sp.moved m w r).cf=r.1.cf:=by
  unfold Sp.moved Sp.cf
  have a:=aY.sets (m.row (w / 8) (m.sizeOf w).toNat) r.1.mem r.2.1
  have b:=aY.set (r.1.mem.sets r.2.1 (m.row (w / 8) (m.sizeOf w).toNat)) (w / 8) (r.2.1*8+6)
  simp only[]
  rw[b.count,b.free,a.count,a.free]
theorem Sp.visit_cf(s:Sp)(old:Nat->Bool)(T w:Int):(s.visit old T w).1.cf=s.cf:=by
  unfold Sp.visit
  split
  · rfl
  split
  · rfl
  split
  · rfl
  split
  · show(Sp.moved _ _ _).cf=_
    rw[Sp.moved_cf,Sp.alloc_cf]
  · rfl
theorem Mem.size_kind(h:z.sizeOf j≠0):(z.kindOf j=0\/z.kindOf j=1)/\z.sizeOf j=2\/(z.kindOf j=2\/z.kindOf j=3):=by
  unfold Mem.sizeOf Mem.kindOf at*
  by_cases a:z.isPair j
  · rw[if_pos a]
    rcases a.1 with q | q
    · exact .inl ⟨.inl q.2.2.2.1,rfl⟩
    · exact .inl ⟨.inr q.2.2.2.1,rfl⟩
  · rw[if_neg a]at h
    by_cases b:z.isObj j
    · have:=b.1.2.2.2.1
      right
      unfold rawK at this
      split at this<;>omega
    · rw[if_neg b]at h;exact absurd rfl h
theorem Sp.visit_even(f:SpOK i)(a:i.mem.Even)(old:Nat->Bool)(T w:Int):(i.visit old T w).1.mem.Even:=by
  unfold Sp.visit
  split
  · exact a
  split
  · exact a
  split
  · exact a
  rename_i c
  split
  · rename_i e
    obtain⟨_,b⟩:=Sp.alloc_ok f e
    have d:=(b.even a (λhk=>by rcases Mem.size_kind c with q | q<;>omega)).1
    exact(aY.set _ _ _).even ((aY.sets _ _ _).even d)
  · exact a
theorem Sp.visit_word(c:SpOK i){old:Nat->Bool}{T w:Int}(b:aC w):aC (i.visit old T w).2:=by
  unfold Sp.visit
  split
  · exact b
  split
  · rename_i v a
    unfold Mem.fwd at a
    split at a
    · rename_i k
      have d:=k.2.1.2
      have f:=((c.mem.seg (w / 8 / 64).toNat).words (w / 8 % 64).toNat).1
      have h:i.mem.get (w / 8)=(i.mem.seg (w / 8 / 64).toNat).words (w / 8 % 64).toNat:=rfl
      simp only[Option.some.injEq]at a
      have o:=b.1
      rw[h]at d a
      generalize (i.mem.seg (w / 8 / 64).toNat).words (w / 8 % 64).toNat=g at d f a
      rw[<-a]
      exact⟨by omega,by omega⟩
    · cases a
  split
  · exact b
  split
  · rename_i j
    obtain⟨_,e⟩:=Sp.alloc_ok c j
    have p:=c.mem.lim
    obtain⟨l,m,n⟩:=e.addr
    have:=b.1
    exact⟨by simp only[];omega,by simp only[];omega⟩
  · exact b
structure Tg (H:zV) (b:Blk) (x:Hp) (q:TB) (t:Tr):Prop extends Tc H b x q t where
  even:x.sp.mem.Even
  cf:x.sp.cf<4611686018427387904
  on:t.over=false
theorem Tg.grow(h:Tg H d u k o)(e:Ext H E):Tg E d u k o:=⟨h.toTc.ext e,h.even,h.cf,h.on⟩
theorem Tg.stay{S:List Nat}(h:Tg H d u k o)(f:Fr S H E)(a: ∀i,i∈S->i ∉ d.all)(b: ∀i,i∈S->i ∉ k.all):Tg E d u k o:=⟨h.toTc.keep f a b,h.even,h.cf,h.on⟩
theorem Tg.lt{b:Blk}(h:Tg H b u k o)(a:v∈b.all\/v∈k.all):v<H.size:=by
  rcases a with a | a
  · exact h.hp.lt v a
  · exact h.tr.lt v a
theorem fq{w:Int}(T:Tg H d u k o)(b:aC w):
    aT.C (some ⟨k.t,0,none⟩) w H (λv a=>v=vu (u.sp.visit o.old o.tgt w).2/\Tg a d {u with sp:=(u.sp.visit o.old o.tgt w).1} k o/\Fr (spB d) H a):=
  HC.mono (qs T.toTc T.even b (Sp.cf_count T.ok T.cf) T.on) (λ_ _ h=>⟨h.1,⟨h.2.1,Sp.visit_even T.ok T.even _ _ _,by show(u.sp.visit o.old o.tgt w).1.cf<_;rw[Sp.visit_cf];exact T.cf,T.on⟩,h.2.2⟩)
def Mem.read(m:Mem)(a:Int):Int:=if m.used a then m.get a else 0
def Mem.wr(m:Mem)(a w:Int):Mem:=if m.used a then m.set a w else m
theorem Mem.read_word(b:aX z)(a:Int):aC (z.read a):=by
  unfold Mem.read
  split
  · exact(b.seg _).words _
  · decide
theorem aY.wr(m:Mem)(a w:Int):aY m (m.wr a w):=by
  unfold Mem.wr
  split
  · exact aY.set m a w
  · exact aY.refl m
theorem SpOK.wr{s:Sp}(ok:SpOK s)(a:Int){w:Int}(hw:aC w):SpOK {s with mem:=s.mem.wr a w}:=
  ok.withMem (by unfold Mem.wr; split; · exact ok.mem.set a hw
                 · exact ok.mem) (λk h=>(aY.wr _ _ _).has.2 h) (λk=>⟨((aY.wr _ _ _).seg k).1,((aY.wr _ _ _).seg k).2.1⟩)
def Sp.lookAt(s:Sp)(old:Nat->Bool)(T a:Int):Sp:=
  {(s.visit old T (s.mem.read a)).1 with mem:=(s.visit old T (s.mem.read a)).1.mem.wr a (s.visit old T (s.mem.read a)).2}
theorem Sp.lookAt_even(c:SpOK i)(b:i.mem.Even)(old:Nat->Bool)(T a:Int):(i.lookAt old T a).mem.Even:=
  (aY.wr _ _ _).even (Sp.visit_even c b old T _)
theorem Sp.lookAt_cf(s:Sp)(old:Nat->Bool)(T a:Int):(s.lookAt old T a).cf=s.cf:=by
  have h:=aY.wr (s.visit old T (s.mem.read a)).1.mem a (s.visit old T (s.mem.read a)).2
  have:(s.lookAt old T a).cf=(s.visit old T (s.mem.read a)).1.cf:=by
    unfold Sp.lookAt Sp.cf;simp only[];rw[h.count,h.free]
  rw[this,Sp.visit_cf]
set_option maxRecDepth 100000 in
theorem qw(T:Tg H d u k o)(L:I64 j)(c:hat H ⟨v,0,none⟩=some (vp (some ⟨k.t,0,none⟩)))(h:v ∉ spB d):
    cQ.C j (some ⟨v,0,none⟩) H (λ_ r=>Tg r d {u with sp:=u.sp.lookAt o.old o.tgt j} k o/\Fr (spB d) H r):=by
  refine HC.via λR D=>cQ.link ?_
  unfold cQ.pt
  obtain⟨x,y,z,A⟩:=T.s1
  refine⟨_,rfl,_,c,_,rfl,_,x,_,rfl,_,y,_,rfl,_,z,_,rfl,_,A,?_⟩
  refine HC.mono (hU T.hp.cd.sp.mem T.ok.mem (by omega)) ?_
  rintro _ J ⟨rfl,rfl⟩
  have p: ∃e:Int,(if u.sp.mem.used j then Value.tuple #[vu (u.sp.mem.get j),vi 0]else .tuple #[vu 0,vi 18])=.tuple #[vu (u.sp.mem.read j),vi e]:=by
    unfold Mem.read
    by_cases f:u.sp.mem.used j
    · rw[if_pos f,if_pos f];exact⟨_,rfl⟩
    · rw[if_neg f,if_neg f];exact⟨_,rfl⟩
  obtain⟨e,p⟩:=p
  refine⟨_,e,p,_,c,_,rfl,_,x,_,rfl,_,y,_,rfl,_,z,_,rfl,_,A,_,c,?_⟩
  have w:=Mem.read_word T.ok.mem j
  refine HC.mono (fq T w) ?_
  rintro _ B ⟨rfl,b,s⟩
  obtain⟨E,F,G,I⟩:=b.s1
  have g:hat B ⟨v,0,none⟩=some (vp (some ⟨k.t,0,none⟩)):=s.hat h c
  refine⟨_,rfl,?_⟩
  simp only[aP,and_true,addr_add_mk,Nat.add_zero]
  refine⟨g,E,F,G,I,?_⟩
  have a:=b.ok
  have q:=SpOK.wr a j (Sp.visit_word T.ok (old:=o.old) (T:=o.tgt) w)
  refine HC.mono (gP b.hp.cd.sp.mem a.mem (by omega)) ?_
  rintro _ K ⟨rfl,n,t⟩
  refine⟨_,rfl,D _ _ ⟨⟨?_,Sp.lookAt_even T.ok T.even _ _ _,by show(u.sp.lookAt o.old o.tgt j).cf<_;rw[Sp.lookAt_cf];exact T.cf,T.on⟩,s.trans (t.mono (λi l _=>by simp at l;simp[spB];omega))⟩⟩
  exact b.toTc.withMem (m:=(u.sp.visit o.old o.tgt (u.sp.mem.read j)).1.mem.wr j (u.sp.visit o.old o.tgt (u.sp.mem.read j)).2) t (λi l=>by simp at l;omega) n q
def looks(kind i:Int):Prop:=kind≠3/\(kind≠1\/i % 2=1)
instance (kind i:Int):Decidable (looks kind i):=by unfold looks;infer_instance
def Sp.look(s:Sp)(old:Nat->Bool)(T seg kind lo:Int):Nat->Sp
  | 0=>s
  | n+1=>if looks kind (lo+n)then(s.look old T seg kind lo n).lookAt old T (seg*64+(lo+n))else s.look old T seg kind lo n
theorem Sp.look_raw(s:Sp)(old:Nat->Bool)(T seg a:Int): ∀n,s.look old T seg 3 a n=s
  | 0=>rfl
  | n+1=>by unfold Sp.look;rw[if_neg (λh=>h.1 rfl)];exact Sp.look_raw s old T seg a n
set_option maxRecDepth 100000 in
theorem od{a f:Int}(T:Tg H d u k o)(M:0<=j/\j<1024)(L:0<=a/\a<=64)(K:f<=64):
    bP.C (some ⟨k.t,0,none⟩) j a f B H (λ_ l=>Tg l d {u with sp:=u.sp.look o.old o.tgt j B a (f-a).toNat} k o/\Fr (spB d) H l):=by
  refine HC.via λR A=>bP.link ?_
  unfold bP.pt zY
  intro c H1 w m
  have x:Ext H H1:=Ext.push' m
  have F:=aO w m
  have D:=T.grow x
  have v:hat H1 ⟨c,0,none⟩=some (vp (some ⟨k.t,0,none⟩)):=by rw[aK F];rfl
  have p:c ∉ spB d:=λh=>by
    have:=T.lt (.inl (gH h));omega
  refine⟨λi l=>(a<=i/\i<=max a f)/\Tg l d {u with sp:=u.sp.look o.old o.tgt j B a (i-a).toNat} k o/\Fr (spB d) H l/\hat l ⟨c,0,none⟩=some (vp (some ⟨k.t,0,none⟩)),λi _=>(f-i).toNat,⟨⟨by omega,by omega⟩,by rw[Int.sub_self];exact D,x.fr,v⟩,?_⟩
  rintro i I ⟨G,s,t,g⟩
  by_cases b:i<f/\B≠3
  · rw[if_pos (by simp[b.1,b.2])]
    have r:(i+1-a).toNat=(i-a).toNat+1:=by omega
    have q:a+((i-a).toNat:Int)=i:=by omega
    rw[gU (by omega:0<=i),w64 (n:=i+1) (by omega),w64 (n:=j*64) (by omega),w64 (n:=j*64+i) (by omega)]
    by_cases hk:B≠1\/i % 2=1
    · rw[if_pos (by simpa using hk)]
      refine HC.mono (qw s (by omega) g p) ?_
      rintro _ J ⟨E,y⟩
      refine⟨⟨by omega,?_,t.trans y,y.hat p g⟩,by show(f-(i+1)).toNat< (f-i).toNat;omega⟩
      have e:u.sp.look o.old o.tgt j B a (i+1-a).toNat=(u.sp.look o.old o.tgt j B a (i-a).toNat).lookAt o.old o.tgt (j*64+i):=by
        rw[r];show(if _ then _ else _)=_;rw[q,if_pos ⟨b.2,hk⟩]
      rw[e];exact E
    · rw[if_neg (by simpa using hk)]
      refine⟨⟨by omega,?_,t,g⟩,by show(f-(i+1)).toNat< (f-i).toNat;omega⟩
      have e:u.sp.look o.old o.tgt j B a (i+1-a).toNat=u.sp.look o.old o.tgt j B a (i-a).toNat:=by
        rw[r];show(if _ then _ else _)=_;rw[q,if_neg (λh=>hk h.2)]
      rw[e];exact s
  · rw[if_neg (by simpa using b)]
    have e:u.sp.look o.old o.tgt j B a (f-a).toNat=u.sp.look o.old o.tgt j B a (i-a).toNat:=by
      by_cases z:B=3
      · rw[z,Sp.look_raw,Sp.look_raw]
      · have: ¬i<f:=λh=>b ⟨h,z⟩
        congr 1;omega
    rw[e]at A
    exact A _ _ ⟨s,t⟩
def Mem.segOr(m:Mem)(k:Int):Seg:=if m.has k then m.seg k.toNat else Seg.none
def Sp.lookCard(s:Sp)(old:Nat->Bool)(T:Int)(c:Int×Int):Sp:=
  s.look old T c.1 (s.mem.segOr c.1).kind (c.2*16) (min (s.mem.segOr c.1).n ((c.2+1)*16)-c.2*16).toNat
def Sp.lookCards(s:Sp)(old:Nat->Bool)(T:Int)(l:List (Int×Int)):Sp:=l.foldl (λs c=>s.lookCard old T c) s
theorem Sp.lookCards_snoc(s:Sp)(old:Nat->Bool)(T:Int)(l:List (Int×Int))(c:Int×Int):s.lookCards old T (l++[c])=(s.lookCards old T l).lookCard old T c:=by
  unfold Sp.lookCards;rw[List.foldl_append];rfl
theorem kQ: ∀l:List (Int×Int),(dV l).length=2*l.length
  | []=>rfl
  | c::l=>by
    have:=kQ l
    unfold dV at*
    rw[List.flatMap_cons,List.length_append,this];simp;omega
theorem kR: ∀(l:List (Int×Int)) {i:Nat} (h:i<l.length),(dV l)[2*i]?=some (vi l[i].1)/\(dV l)[2*i+1]?=some (vi l[i].2)
  | c::l,0,h=>⟨rfl,rfl⟩
  | c::l,i+1,h=>by
    have:=kR l (i:=i) (by simpa using h)
    unfold dV at*
    rw[List.flatMap_cons]
    exact⟨this.1,this.2⟩
theorem nl{B:zW}{l:List (Int×Int)}(h:gc H B (dV l))(g:v<l.length): ∃a,B=some a/\aP H (a.add (v*2)) 0 [vi l[v].1,vi l[v].2]:=by
  cases B with
  | none=>
    have e:dV l=[]:=h
    have:=kQ l
    rw[e]at this;simp at this;omega
  | some a=>
    refine⟨a,rfl,?_⟩
    obtain⟨b,c⟩:=kR l g
    have d:=gy (show aP H a 0 (dV l)from h) _ _ b
    have f:=gy (show aP H a 0 (dV l)from h) _ _ c
    refine⟨?_,?_,trivial⟩
    · rw[gL];rw[show v*2+0=0+2*v by omega];exact d
    · rw[gL];rw[show v*2+(0+1)=0+(2*v+1)by omega];exact f
def kE(l:List (Int×Int)):Prop:= ∀c∈l,(0<=c.1/\c.1<1024)/\0<=c.2/\c.2<4
theorem rL(h:z.isPair j):z.sizeOf j≠0:=by unfold Mem.sizeOf;rw[if_pos h];decide
theorem Mem.len_rng(m:Mem)(w:Int):0<=m.len w/\m.len w<=62:=by
  unfold Mem.len
  split
  · rename_i h;exact h.len_lt
  · omega
theorem nm(a:aX z)(k:Int):rf (z.segOr k):=by
 unfold Mem.segOr
 split
 ·exact a.seg _
 ·exact kW
theorem gF(h:cR H v C z):
  bB.C (some ⟨v,0,none⟩) j H (λb a=>b=.tuple #[(z.segOr j).head,.bool (decide (z.has j))]/\Ext H a):=js h
theorem iI{H H1:zV}(a:Seg)(h:v=H.size)(c:H1=H.push (.cells #[vi 0,vi 0,vi 0,vi 0,vi 0,vi 0,vi 0] 108)):
  aN H1 ⟨v,0,none⟩ 0 7/\ ∀b,b=aV H1 ⟨v,0,none⟩ [vi a.gen,vi a.kind,vi a.n,vi (a.cards 0),vi (a.cards 1),vi (a.cards 2),vi (a.cards 3)] 0->Ext H b/\
   hat b ⟨v,0,none⟩=some (vi a.gen)/\hat b ⟨v,1,none⟩=some (vi a.kind)/\hat b ⟨v,2,none⟩=some (vi a.n)/\aP b ⟨v,0,none⟩ 0 [vi a.gen,vi a.kind,vi a.n,vi (a.cards 0),vi (a.cards 1),vi (a.cards 2),vi (a.cards 3)]:=by
 obtain⟨f,i⟩:=boxed (vs:=[vi a.gen,vi a.kind,vi a.n,vi (a.cards 0),vi (a.cards 1),vi (a.cards 2),vi (a.cards 3)]) (H1:=H1) (aO h c) rfl rfl
 refine⟨f,λb e=>?_⟩
 obtain⟨d,g⟩:=i b e
 exact⟨g H (Ext.push' c) (by omega),d.1,d.2.1,d.2.2.1,d⟩
theorem sO(a b:Int):(if a<b then a else b)=min b a:=by
 by_cases h:a<b
 ·rw[if_pos h];omega
 ·rw[if_neg h];omega
set_option maxRecDepth 100000 in
theorem qx(T:Tg H d u k o)(a2:kE o.cards):
  dD.C (some ⟨k.t,0,none⟩) H (λ_ t=>Tg t d {u with sp:=u.sp.lookCards o.old o.tgt o.cards} k o/\Fr (spB d) H t):=by
 refine HC.via λR hR=>dD.link ?_
 unfold dD.pt zY
 refine HC.mono (iW T.toTc) ?_
 rintro _ H1 ⟨rfl,rfl⟩
 refine⟨_,rfl,?_⟩
 rw[if_neg (by rw[T.on];decide)]
 obtain⟨an,ao⟩:=T.tr.clen
 refine⟨_,rfl,_,_,_,by rw[addr_add_mk];exact T.tr.cAt,?_⟩
 refine⟨λi t=>(0<=i/\i<=k.cN)/\Tg t d {u with sp:=u.sp.lookCards o.old o.tgt (o.cards.take i.toNat)} k o/\Fr (spB d) H1 t,λi _=>(k.cN-i).toNat,⟨by omega,T,Fr.refl _ _⟩,?_⟩
 rintro i H2 ⟨hi,v,f2⟩
 by_cases r:i< (k.cN:Int)
 case neg=>
  rw[if_neg r]
  rw[List.take_of_length_le (by omega)]at v
  exact hR _ _ ⟨v,f2⟩
 rw[if_pos r]
 have q:i.toNat<o.cards.length:=by omega
 obtain⟨ca,Y,G⟩:=nl v.tr.cards q
 have a0:=a2 _ (List.getElem_mem q)
 generalize Z:o.cards[i.toNat]=a at*
 refine⟨ca,Y,⟨hi.1,r⟩,a.1,a.2,G,λM H3 U B=>?_⟩
 obtain⟨a1,hs⟩:=boxed (vs:=[vi a.1,vi a.2]) (H1:=H3) (aO U B) rfl rfl
 refine⟨a1,λg P=>?_⟩
 obtain⟨F,O⟩:=hs g P
 have y:Ext H2 g:=O H2 (Ext.push' B) (by omega)
 have w:=v.grow y
 have ag: ∀j,j∈d.all\/j∈k.all->j≠M:=λj hj=>by have:=v.lt hj;omega
 obtain⟨p1,p2,p3,p4⟩:=w.s1
 have e:hat g ⟨M,0,none⟩=some (vi a.1):=F.1
 have f:hat g ⟨M,1,none⟩=some (vi a.2):=F.2.1
 refine⟨_,p1,_,rfl,_,p2,_,rfl,_,p3,_,rfl,_,p4,_,e,?_⟩
 have l: ∀(s:zV),Ext g s->bP.C (some ⟨k.t,0,none⟩) a.1 (IntKind.wrap .i64 (a.2*16)) (if(IntKind.wrap .i64 ((IntKind.wrap .i64 (a.2+1))*16))< ((u.sp.lookCards o.old o.tgt (o.cards.take i.toNat)).mem.segOr a.1).n then(IntKind.wrap .i64 ((IntKind.wrap .i64 (a.2+1))*16))else((u.sp.lookCards o.old o.tgt (o.cards.take i.toNat)).mem.segOr a.1).n) ((u.sp.lookCards o.old o.tgt (o.cards.take i.toNat)).mem.segOr a.1).kind s
   (λ_ J=>((0<=IntKind.wrap .i64 (i+1)/\IntKind.wrap .i64 (i+1)<=k.cN)/\Tg J d {u with sp:=u.sp.lookCards o.old o.tgt (o.cards.take (IntKind.wrap .i64 (i+1)).toNat)} k o/\Fr (spB d) H1 J)/\(k.cN-IntKind.wrap .i64 (i+1)).toNat< (k.cN-i).toNat):=by
  intro s K
  have T7:=w.grow K
  have I:=nm w.ok.mem a.1
  have aw:((u.sp.lookCards o.old o.tgt (o.cards.take i.toNat)).mem.segOr a.1).n<=64:=I.n.2
  rw[w64 (n:=a.2*16) (by omega),w64 (n:=a.2+1) (by omega),w64 (n:=(a.2+1)*16) (by omega),w64 (n:=i+1) (by omega),sO]
  refine HC.mono (od T7 a0.1 (by omega) (by omega)) ?_
  rintro _ J ⟨T8,f8⟩
  have N:Fr (spB d) H1 J:=f2.trans ((y.trans K).fr.trans f8)
  refine⟨⟨by omega,?_,N⟩,by omega⟩
  have et:o.cards.take (i+1).toNat=o.cards.take i.toNat++[a]:=by
   rw[show(i+1).toNat=i.toNat+1 by omega,List.take_succ_eq_append_getElem q,Z]
  rw[et,Sp.lookCards_snoc]
  exact T8
 constructor
 ·refine HC.mono (gF w.hp.cd.sp.mem) ?_
  rintro _ H5 ⟨rfl,e5⟩
  refine⟨_,_,_,_,_,_,_,_,rfl,λc6 H6 V Q=>?_⟩
  obtain⟨E,a3⟩:=iI ((u.sp.lookCards o.old o.tgt (o.cards.take i.toNat)).mem.segOr a.1) V Q
  refine⟨E,λs S=>?_⟩
  obtain⟨K,g0,g1,g2,_⟩:=a3 s S
  have c:=e5.trans K
  exact⟨_,c.hat e,_,by rw[addr_add_mk];exact c.hat f,_,by rw[addr_add_mk];exact g2,_,by rw[addr_add_mk];exact c.hat f,_,by rw[addr_add_mk];exact g1,l s c⟩
 ·intro c9 H9 W D
  have p:Ext g H9:=Ext.push' D
  simp only[aP,and_true,addr_add_mk,Nat.add_zero]
  refine⟨p.hat p1,p.hat p2,p.hat p3,p.hat p4,p.hat e,?_⟩
  refine HC.mono (gF (w.grow p).hp.cd.sp.mem) ?_
  rintro _ L ⟨rfl,x⟩
  obtain⟨X,a4⟩:=boxed (vs:=[vi ((u.sp.lookCards o.old o.tgt (o.cards.take i.toNat)).mem.segOr a.1).gen,vi ((u.sp.lookCards o.old o.tgt (o.cards.take i.toNat)).mem.segOr a.1).kind,vi ((u.sp.lookCards o.old o.tgt (o.cards.take i.toNat)).mem.segOr a.1).n,vi (((u.sp.lookCards o.old o.tgt (o.cards.take i.toNat)).mem.segOr a.1).cards 0),vi (((u.sp.lookCards o.old o.tgt (o.cards.take i.toNat)).mem.segOr a.1).cards 1),vi (((u.sp.lookCards o.old o.tgt (o.cards.take i.toNat)).mem.segOr a.1).cards 2),vi (((u.sp.lookCards o.old o.tgt (o.cards.take i.toNat)).mem.segOr a.1).cards 3)]) (H1:=L) (x.get (aO W D)) rfl rfl
  refine⟨_,_,_,_,_,_,_,_,rfl,X,λm A=>?_⟩
  obtain⟨h,z⟩:=a4 m A
  have b:Ext g m:=z g (p.trans x) (by omega)
  exact⟨_,b.hat e,_,b.hat f,_,h.2.2.1,_,b.hat f,_,h.2.1,l m b⟩
def seenAt(ks:List (Int×Value))(k:Int):Int:=match mget ks k with | some (.int .i64 n)=>n | _=>0
def eR(ks:List (Int×Value)):Prop:= ∀k v,mget ks k=some v-> ∃n:Int,v=vi n/\0<=n/\n<=64
theorem iX(h:eR A)(k:Int):(mget A k).getD (vi 0)=vi (seenAt A k)/\0<=seenAt A k/\seenAt A k<=64:=by
 unfold seenAt
 cases hm:mget A k with
 | none=>exact⟨rfl,by decide,by decide⟩
 | some v=>
  obtain⟨n,rfl,a,b⟩:=h k v hm
  exact⟨rfl,a,b⟩
theorem jE(c:List (Int×Value))(k a:Int)(v:Value):mget (mput c k v) a=if a=k then some v else mget c a:=by
 induction c with
 | nil=>
  simp only[mput,mget,List.find?_cons]
  by_cases h:a=k
  ·simp[h]
  ·simp[h]
 | cons p c d=>
  simp only[mput]
  by_cases h:k=p.1
  ·rw[if_pos h]
   simp only[mget,List.find?_cons]
   by_cases b:a=k
   ·simp[b]
   ·simp[b,<-h]
  ·rw[if_neg h]
   simp only[mget,List.find?_cons]at d⊢
   by_cases b:a=p.1
   ·subst b
    have: ¬p.1=k:=λe=>h e.symm
    simp[this]
   ·simp only[b,decide_false,Bool.false_eq_true]
    exact d
theorem k9(b:List (Int×Value))(k a n:Int):seenAt (mput b k (vi n)) a=if a=k then n else seenAt b a:=by
 unfold seenAt
 rw[jE]
 by_cases h:a=k
 ·rw[if_pos h,if_pos h]
 ·rw[if_neg h,if_neg h]
theorem eR.put(h:eR A){k n:Int}(hn:0<=n/\n<=64):eR (mput A k (vi n)):=by
 intro a v b
 rw[jE]at b
 by_cases c:a=k
 ·rw[if_pos c]at b;cases b;exact⟨n,rfl,hn⟩
 ·rw[if_neg c]at b;exact h a v b
def mu(ks:List (Int×Value)):Nat:=((List.range 1024).map λk:Nat=>(64-seenAt ks k).toNat).sum
theorem sum_lt: ∀(l:List Nat) (f g:Nat->Nat) (k:Nat),k∈l->(∀i∈l,f i<=g i)->f k<g k->(l.map f).sum< (l.map g).sum
 | [],_,_,_,h,_,_=>by cases h
 | a::l,f,g,k,h,hle,hlt=>by
  simp only[List.map_cons,List.sum_cons]
  have n:=hle a (by simp)
  have j: ∀c:List Nat,(∀i∈c,f i<=g i)->(c.map f).sum<=(c.map g).sum:=by
   intro c e
   induction c with
   | nil=>simp
   | cons b c m=>
    simp only[List.map_cons,List.sum_cons]
    have:=e b (by simp)
    have:=m (λi d=>e i (by simp[d]))
    omega
  rcases List.mem_cons.1 h with rfl | h
  ·have:=j l (λi d=>hle i (by simp[d]));omega
  ·have:=sum_lt l f g k h (λi d=>hle i (by simp[d])) hlt;omega
theorem uy{ks:List (Int×Value)}{k n:Int}(hk:0<=k/\k<1024)(h:seenAt ks k<n)(hn:n<=64):mu (mput ks k (vi n))<mu ks:=by
 unfold mu
 refine sum_lt _ _ _ k.toNat (by rw[List.mem_range];omega) (λi _=>?_) ?_
 ·rw[k9]
  by_cases e:(i:Int)=k
  ·rw[if_pos e,e];omega
  ·rw[if_neg e];exact Nat.le_refl _
 ·rw[k9,if_pos (by omega),show((k.toNat:Nat):Int)=k by omega];omega
inductive dY (old:Nat->Bool) (T:Int) (s0:Sp) (k0:List (Int×Value)):Sp->List (Int×Value)->Prop
 | refl:dY old T s0 k0 s0 k0
 | step {s:Sp} {ks:List (Int×Value)} (k:Int) (h:dY old T s0 k0 s ks) (hk:s.mem.has k) (hg:(s.mem.seg k.toNat).gen=T) (ho:old k.toNat=false) (hn:seenAt ks k< (s.mem.seg k.toNat).n):
   dY old T s0 k0 (s.look old T k (s.mem.seg k.toNat).kind (seenAt ks k) ((s.mem.seg k.toNat).n-seenAt ks k).toNat) (mput ks k (vi (s.mem.seg k.toNat).n))
def ii(old:Nat->Bool)(T:Int)(s:Sp)(ks:List (Int×Value)):Prop:= ∀k:Nat,s.mem.has k->(s.mem.seg k).gen=T->old k=false->(s.mem.seg k).n<=seenAt ks k
theorem dY.trans{a b c:Sp}{d e:List (Int×Value)}(h:dY D j a A b d)(k:dY D j b d c e):dY D j a A c e:=by
 induction k with
 | refl=>exact h
 | step k _ hk f g hn i=>exact .step k i hk f g hn
structure eK (m m':Mem):Prop where
 limit:m'.limit=m.limit
 seg: ∀k,(m.seg k).taken≠0->(m'.seg k).gen=(m.seg k).gen/\(m'.seg k).kind=(m.seg k).kind/\(m'.seg k).taken=(m.seg k).taken/\(m.seg k).n<=(m'.seg k).n
 cards: ∀k,(m.seg k).taken≠0->(m'.seg k).cards=(m.seg k).cards
theorem eK.refl(m:Mem):eK m m:=⟨rfl,λ_ _=>⟨rfl,rfl,rfl,Int.le_refl _⟩,λ_ _=>rfl⟩
theorem eK.trans{a b c:Mem}(h:eK a b)(k:eK b c):eK a c:=⟨k.limit.trans h.limit,λi d=>by
 obtain⟨f,g,e,j⟩:=h.seg i d
 obtain⟨l,m,n,o⟩:=k.seg i (by rw[e];exact d)
 exact⟨l.trans f,m.trans g,n.trans e,Int.le_trans j o⟩,λi d=>(k.cards i (by rw[(h.seg i d).2.2.1];exact d)).trans (h.cards i d)⟩
theorem aY.heads{m a:Mem}(h:aY m a):eK m a:=⟨h.limit,λk _=>⟨(h.seg k).1,(h.seg k).2.1,(h.seg k).2.2.2.1,by rw[(h.seg k).2.2.1];exact Int.le_refl _⟩,λk _=>(h.seg k).2.2.2.2⟩
theorem Grown.heads{m e:Mem}{a g k n:Int}(b:Grown m e a n g k)(hn:0<=n):eK m e:=⟨b.limit,λi d=>by
 by_cases c:i=(a / 64).toNat
 ·subst c
  obtain⟨l,o,p,s,t,q⟩:=b.old d
  obtain⟨r,f,h,j⟩:=b.new
  exact⟨f.trans l.symm,h.trans o.symm,q,by rw[j,p];omega⟩
 ·rw[b.others i c];exact⟨rfl,rfl,rfl,Int.le_refl _⟩,λi d=>by
 by_cases c:i=(a / 64).toNat
 ·subst c;exact(b.old d).2.2.2.2.1
 ·rw[b.others i c]⟩
theorem eK.has{a:Mem}(h:eK z a){k:Int}(hk:z.has k):a.has k:=⟨hk.1,by rw[h.limit];exact hk.2.1,by rw[(h.seg _ hk.2.2).2.2.1];exact hk.2.2⟩
theorem Sp.visit_heads(a:SpOK i)(e:i.mem.Even)(f:aC B):eK i.mem (i.visit D j B).1.mem:=by
 unfold Sp.visit
 split
 ·exact eK.refl _
 split
 ·exact eK.refl _
 split
 ·exact eK.refl _
 rename_i c
 split
 ·rename_i d
  obtain⟨_,b⟩:=Sp.alloc_ok a d
  have g:=Mem.size_used a.mem e f c
  exact((b.heads (by omega)).trans (aY.sets _ _ _).heads).trans (aY.set _ _ _).heads
 ·exact eK.refl _
theorem Sp.lookAt_heads(a:SpOK i)(b:i.mem.Even):eK i.mem (i.lookAt D j B).mem:=
 (Sp.visit_heads a b (Mem.read_word a.mem B)).trans (aY.wr _ _ _).heads
theorem Sp.visit_ok(a:SpOK i){old:Nat->Bool}{T w:Int}(o:aC w)(n:aG old w->True):SpOK (i.visit old T w).1:=by
 unfold Sp.visit
 split
 ·exact a
 split
 ·exact a
 split
 ·exact a
 split
 ·rename_i g
  obtain⟨c,f⟩:=Sp.alloc_ok a g
  have d:=a.mem.lim
  obtain⟨j,l,m⟩:=f.addr
  have b:=c.sets (i.alloc T (i.mem.kindOf w) (i.mem.sizeOf w)).2.1 (ws:=i.mem.row (w / 8) (i.mem.sizeOf w).toNat) (λv e=>by
   unfold Mem.row at e
   obtain⟨p,_,rfl⟩:=List.mem_map.1 e
   exact(a.mem.seg _).words _)
  exact b.withMem (b.mem.set (w / 8) ⟨by omega,by omega⟩) (λk h=>Mem.set_has.2 h) (λk=>⟨((aY.set _ _ _).seg k).1,((aY.set _ _ _).seg k).2.1⟩)
 ·exact a
theorem Sp.lookAt_ok(b:SpOK i){old:Nat->Bool}{T a:Int}:SpOK (i.lookAt old T a):=
 SpOK.wr (Sp.visit_ok b (Mem.read_word b.mem a) (λ_=>trivial)) a (Sp.visit_word b (Mem.read_word b.mem a))
theorem Sp.look_ok{s:Sp}(e:SpOK s)(d:s.mem.Even){old:Nat->Bool}{T seg kind lo:Int}: ∀n,SpOK (s.look old T seg kind lo n)/\(s.look old T seg kind lo n).mem.Even/\eK s.mem (s.look old T seg kind lo n).mem
 | 0=>⟨e,d,eK.refl _⟩
 | n+1=>by
  obtain⟨a,b,c⟩:=Sp.look_ok e d (old:=old) (T:=T) (seg:=seg) (kind:=kind) (lo:=lo) n
  unfold Sp.look
  split
  ·exact⟨Sp.lookAt_ok a,Sp.lookAt_even a b _ _ _,c.trans (Sp.lookAt_heads a b)⟩
  ·exact⟨a,b,c⟩
theorem dY.heads{old:Nat->Bool}{T:Int}{b:Sp}{m:List (Int×Value)}(h:dY old T i A b m)(n:SpOK i)(e:i.mem.Even):SpOK b/\b.mem.Even/\eK i.mem b.mem:=by
 induction h with
 | refl=>exact⟨n,e,eK.refl _⟩
 | step k _ _ _ _ _ f=>
  obtain⟨a,c,d⟩:=f
  obtain⟨g,j,l⟩:=Sp.look_ok a c (old:=old) (T:=T) (seg:=k) (kind:=(_:Int)) (lo:=_) _
  exact⟨g,j,d.trans l⟩
theorem row1{H:zV}{c o:Nat}{v:Value}(h:hat H ⟨c,o,none⟩=some v):aP H ⟨c,o,none⟩ 0 [v]:=⟨by rw[addr_add_mk];exact h,trivial⟩
theorem TrAt.putSeen{b:Array MapEntry}(h:TrAt H d k o)(q:Ents (dX .i64) b.toList A):TrAt (bN H k.s (.map b v)) d k {o with seen:=A}:=by
 have f:Fr [k.s] H (bN H k.s (.map b v)):=Fr.set
 have t:=h.lt k.s (by simp[TB.all])
 obtain⟨l,m,r⟩:=h.tr
 obtain⟨g,e,n,j⟩:=h.frm
 have u:=h.ne
 refine⟨⟨l,f.get (by simp;omega) m,r⟩,⟨g,e,f.get (by simp;omega) n,j⟩,⟨b,v,bD t,q⟩,?_,λa p=>Nat.lt_of_lt_of_le (h.cB a p) f.size,h.clen,h.ne⟩
 have c:=h.cards
 cases i:k.cB with
 | none=>rw[i]at c;exact c
 | some a=>
  rw[i]at c
  refine f.rowAt ?_ c
  have:=u.2.2.2 a.block (by rw[i];simp)
  simp;omega
theorem Tg.putSeen{a:Array MapEntry}(h:Tg H d u k o)(e:Ents (dX .i64) a.toList A)(c:E=bN H k.s (.map a v)):Tg E d u k {o with seen:=A}:=by
 subst c
 have f:Fr [k.s] H (bN H k.s (.map a v)):=Fr.set
 have hn:k.s ∉ d.all:=h.apart k.s (by simp[TB.all])
 exact⟨⟨h.hp.keep f (λi b=>by simp at b;rw[b];exact hn),h.ok,h.tr.putSeen e,h.apart⟩,h.even,h.cf,h.on⟩
structure RdT (H A:zV) (b:Blk) (x:Hp) (q:TB) (t:Tr) (B:zW) (c:Nat) (l:List Nat) (i:Nat) (sm:Bool) (s:Sp) (ks:List (Int×Value)):Prop where
 dr:dY t.old t.tgt x.sp t.seen s ks
 tg:Tg A b {x with sp:=s} q {t with seen:=ks}
 ok:eR ks
 fr:Fr (q.s::spB b) H A
 own:Own A 3 1 B l.length c (ivs (l.map λi:Nat=>(i:Int)))
 no:sm=false->s=x.sp/\ks=t.seen/\ ∀j,j<i-> ∀h:j<l.length,t.old l[j]=true\/(x.sp.mem.seg l[j]).n<=seenAt t.seen l[j]
 yes:sm=true->mu ks<mu t.seen
set_option maxRecDepth 100000 in
theorem qy{q:TB}(T:Tg H d u q o)(bL:eR o.seen)(cz:0<=o.tgt):
  dF.C (some ⟨q.t,0,none⟩) H (λv H'=> ∃(sm:Bool) (s:Sp) (ks:List (Int×Value)),v=.bool sm/\dY o.old o.tgt u.sp o.seen s ks/\Tg H' d {u with sp:=s} q {o with seen:=ks}/\eR ks/\Fr (q.s::spB d) H H'/\(sm=false->ii o.old o.tgt s ks)/\(sm=true->mu ks<mu o.seen)):=by
 refine HC.via λR hR=>dF.link ?_
 unfold dF.pt zY
 obtain⟨p1,p2,p3,p4⟩:=T.s1
 refine⟨_,rfl,_,p1,_,rfl,_,p2,_,rfl,_,p3,_,rfl,_,p4,_,by rw[addr_add_mk];exact T.tr.tgtAt,?_⟩
 intro c1 H1 bo X
 have e1:Ext H H1:=Ext.push' X
 have g1:=aO bo X
 have s1:H1.size=H.size+1:=by rw[X];simp
 have T1:=T.grow e1
 refine⟨row1 (e1.hat p1),row1 (e1.hat p2),row1 (e1.hat p3),row1 (e1.hat p4),?_⟩
 refine HC.mono (jg (gs:=[o.tgt]) T1.hp.cd.sp.mem T1.ok.mem (show gc H1 (some ⟨c1,0,none⟩) (ivs [o.tgt])from row1 (by rw[aK g1];rfl)) rfl (by decide)) ?_
 rintro _ H2 ⟨B,c,l,rfl,hl,bz,bs,e2⟩
 refine⟨_,_,_,rfl,?_⟩
 have au:=e1.trans e2
 have T2:=T.grow au
 have c5:=hl.len
 have c6:=T.ok.mem.lim
 have bj: ∀j∈blks B,j ∉ q.s::spB d:=λj x h=>by
  have h1:=bs j x
  rcases List.mem_cons.1 h with rfl | h
  ·have:=T.lt (.inr (show q.s∈q.all by simp[TB.all]));omega
  ·have:=T.lt (.inl (gH h));omega
 refine⟨λsm i A=>(0<=i/\i<=l.length)/\ ∃s ks,RdT H A d u q o B c l i.toNat sm s ks,λ_ i _=>(l.length-i).toNat,
  ⟨⟨by omega,by omega⟩,u.sp,o.seen,⟨.refl,T2,bL,au.fr,bz,λ_=>⟨rfl,rfl,λj x=>by simp at x⟩,λh=>by cases h⟩⟩,?_⟩
 rintro sm i H3 ⟨hi,s,ks,f⟩
 by_cases a2:i< (l.length:Int)
 case neg=>
  rw[if_neg a2]
  refine hR _ _ ⟨sm,s,ks,rfl,f.dr,f.tg,f.ok,f.fr,λr=>?_,f.yes⟩
  obtain⟨rfl,rfl,ay⟩:=f.no r
  intro k hk hg ho
  have hm:k∈l:=by
   refine hl.perm.mem_iff.2 ?_
   unfold Mem.takenTo
   rw[List.mem_filter,List.mem_range]
   have b5:0< (u.sp.mem.seg k).taken:=by
    have h1:=(T.ok.mem.seg k).taken
    have W:=hk.2.2
    rw[show((k:Nat):Int).toNat=k by omega]at W
    omega
   refine⟨by have:=hk.2.1;omega,?_⟩
   have W:(u.sp.mem.seg k).gen∈[o.tgt]:=by rw[hg];simp
   rw[zX b5,zX W];simp
  obtain⟨j,x,rfl⟩:=List.getElem_of_mem hm
  rcases ay j (by omega) x with h | h
  ·rw[h]at ho;cases ho
  ·exact h
 rw[if_pos a2]
 have b2:i.toNat<l.length:=by omega
 obtain⟨a,ha,az⟩:=nk f.own b2
 obtain⟨bc,c8,c9,bb⟩:=hl.has (List.getElem_mem b2)
 generalize b3:l[i.toNat]=k at*
 have a6:(u.sp.mem.seg k).gen=o.tgt:=by
  rcases bb with h | h
  ·cases h
  ·simpa using h
 refine⟨a,ha,⟨hi.1,a2⟩,(k:Int),az,⟨by omega,by omega⟩,(if o.old k then 1 else 0),?_,?_⟩
 ·rw[show((k:Nat):Int).toNat=k by omega];rw[Nat.mul_one,addr_add_mk,addr_add_mk,Nat.zero_add];exact f.tg.tr.oldAt (k:=k) (by omega)
 have ba:IntKind.wrap .i64 (i+1)=i+1:=w64 (by omega)
 have cx:(i+1).toNat=i.toNat+1:=by omega
 have O:((l.length:Int)-(i+1)).toNat< ((l.length:Int)-i).toNat:=by omega
 by_cases ho:o.old k=true
 ·rw[if_pos (by rw[if_pos ho])]
  rw[ba]
  refine⟨⟨⟨by omega,by omega⟩,s,ks,f.dr,f.tg,f.ok,f.fr,f.own,λr=>?_,f.yes⟩,O⟩
  obtain⟨h1,W,h3⟩:=f.no r
  refine⟨h1,W,λj x h=>?_⟩
  by_cases a1:j=i.toNat
  ·subst a1;left;rw[b3];exact ho
  ·exact h3 j (by omega) h
 rw[if_neg (by rw[if_neg ho];decide)]
 have bw:o.old k=false:=by simpa using ho
 obtain⟨p1,p2,p3,p4⟩:=f.tg.s1
 refine⟨_,p1,_,rfl,_,p2,_,rfl,_,p3,_,rfl,_,p4,?_⟩
 refine HC.mono (gF f.tg.hp.cd.sp.mem) ?_
 rintro _ H4 ⟨rfl,e4⟩
 refine⟨_,_,_,_,_,_,_,_,rfl,λcJ H5 bp bm=>?_⟩
 obtain⟨bq,hs⟩:=iI (s.mem.segOr k) bp bm
 refine⟨bq,λH6 bn=>?_⟩
 obtain⟨e6,_,_,_,bB⟩:=hs H6 bn
 have I:=e4.trans e6
 have bh:H3.size<=cJ:=by have:=e4.size;omega
 have cp: ∀j∈blks B,j<H3.size:=f.own.lt
 have aS: ∀j,j∈d.all\/j∈q.all->j<H.size:=λj x=>T.lt x
 have cq:H.size<=H3.size:=f.fr.size
 refine⟨λbO cI A=> ∃(y:Nat) (g:Sp) (t:List (Int×Value)),cI=some ⟨y,0,none⟩/\H3.size<=y/\aP A ⟨y,0,none⟩ 0 [vi (g.mem.segOr k).gen,vi (g.mem.segOr k).kind,vi (g.mem.segOr k).n,vi ((g.mem.segOr k).cards 0),vi ((g.mem.segOr k).cards 1),vi ((g.mem.segOr k).cards 2),vi ((g.mem.segOr k).cards 3)]/\RdT H A d u q o B c l i.toNat bO g t/\H3.size<=A.size,
  λ_ _ A=>mu (match A[q.s]? with | some (.map J _)=>J.toList.map (λe=>((match e.key with | .int _ n=>n | _=>0),e.val)) | _=> []),?_,?_⟩
 ·exact⟨cJ,s,ks,rfl,bh,bB,⟨f.dr,f.tg.grow I,f.ok,f.fr.trans I.fr,f.own.ext I,f.no,f.yes⟩,I.size⟩
 rintro bP cI H7 ⟨y,g,t,rfl,ct,b7,b,cy⟩
 have Q: ∀{A:zV} {bd:Sp} {m:List (Int×Value)},Tg A d {u with sp:=bd} q {o with seen:=m}->(match A[q.s]? with | some (.map J _)=>J.toList.map (λe=>((match e.key with | .int _ n=>n | _=>0),e.val)) | _=> [])=m:=by
  intro A bd m tg
  obtain⟨J,cl,h1,W⟩:=tg.tr.seen
  rw[h1]
  show J.toList.map _=m
  have h3:=congrArg (List.map (λp:Value×Value=>((match p.1 with | .int _ n=>n | _=>0),p.2))) W
  simp only[List.map_map]at h3
  refine Eq.trans ?_ (h3.trans ?_)
  ·rfl
  ·show List.map _ m=m
   conv=>rhs;rw[<-List.map_id m]
   rfl
 obtain⟨J,cl,Z,Y⟩:=b.tg.tr.seen
 obtain⟨P,bF,b9⟩:=iX b.ok (k:Int)
 obtain⟨bM,cn,b0⟩:=b.dr.heads T.ok T.even
 have E:g.mem.has (k:Int):=b0.has bc
 have S:g.mem.segOr k=g.mem.seg k:=by unfold Mem.segOr;rw[if_pos E,show((k:Nat):Int).toNat=k by omega]
 have b4:(u.sp.mem.seg k).taken≠0:=by omega
 have a0:(g.mem.seg k).gen=o.tgt:=((b0.seg k b4).1).trans a6
 have a4:=(bM.mem.seg k).n
 have hN:hat H7 ⟨y,2,none⟩=some (vi (g.mem.seg k).n):=by rw[<-S];exact b7.2.2.1
 refine⟨_,b.tg.tr.sAt,_,rfl,J,cl,_,Z,Y,_,P,_,rfl,_,hN,?_⟩
 by_cases L:seenAt t k< (g.mem.seg k).n
 case neg=>
  rw[if_neg L,ba]
  refine⟨⟨⟨by omega,by omega⟩,g,t,b.dr,b.tg,b.ok,b.fr,b.own,λr=>?_,b.yes⟩,O⟩
  obtain⟨rfl,rfl,h3⟩:=b.no r
  refine⟨rfl,rfl,λj x h=>?_⟩
  by_cases a1:j=i.toNat
  ·subst a1;right;rw[b3];omega
  ·exact h3 j (by omega) h
 rw[if_pos L]
 refine⟨_,b.tg.tr.sAt,_,rfl,J,cl,_,Z,Y,_,P,_,b.tg.tr.sAt,_,hN,_,rfl,J,cl,_,Z,Y,?_⟩
 intro cm ci H8 ax b1
 have T8:=b.tg.putSeen b1 ax
 have f8:Fr [q.s] H7 H8:=by rw[ax];exact Fr.set
 have al:y ∉ q.s::spB d:=λh=>by
  rcases List.mem_cons.1 h with h | h
  ·have:=aS q.s (.inr (by simp[TB.all]));omega
  ·have:=aS y (.inl (gH h));omega
 have am:y ∉ [q.s]:=λh=>al (by simp at h;simp[h])
 have an:y ∉ spB d:=λh=>al (List.mem_cons_of_mem _ h)
 have b8:=f8.rowAt (a:=⟨y,0,none⟩) am b7
 have F:=b8
 simp only[aP,and_true,addr_add_mk,Nat.zero_add]at F
 refine⟨_,F.2.2.1,_,F.2.1,?_⟩
 rw[S]
 refine HC.mono (od T8 ⟨by omega,by omega⟩ ⟨bF,b9⟩ a4.2) ?_
 rintro _ H9 ⟨T9,f9⟩
 have bE:=f9.rowAt (a:=⟨y,0,none⟩) an b8
 refine⟨_,_,_,_,_,_,_,bE,?_⟩
 intro ao af N z
 obtain⟨aT,bI⟩:=boxed (vs:=[vi (g.mem.segOr k).gen,vi (g.mem.segOr k).kind,vi (g.mem.segOr k).n,vi ((g.mem.segOr k).cards 0),vi ((g.mem.segOr k).cards 1),vi ((g.mem.segOr k).cards 2),vi ((g.mem.segOr k).cards 3)]) (H1:=af) (aO N z) rfl rfl
 refine⟨aT,λV D=>?_⟩
 have w:=aO N z
 obtain⟨c7,bk⟩:=bI V D
 have ap:Ext H9 V:=bk H9 (Ext.push' z) (by omega)
 have aj:=T9.grow ap
 obtain⟨p1,p2,p3,p4⟩:=aj.s1
 refine⟨_,p1,_,rfl,_,p2,_,rfl,_,p3,_,rfl,_,p4,?_⟩
 refine HC.mono (gF aj.hp.cd.sp.mem) ?_
 rintro _ bf ⟨rfl,M⟩
 have aL: ∃cs:Array Value,V[ao]?=some (.cells cs 108 (0,0))/\cs.size=7:=by
  rw[dO _ af _ 0 0 w]at D
  rw[D]
  exact⟨_,bD (bC w),by rw[splice_size];rfl⟩
 obtain⟨cs,br,aZ⟩:=aL
 generalize bH:g.look o.old o.tgt k (g.mem.seg k).kind (seenAt t k) ((g.mem.seg k).n-seenAt t k).toNat=U at*
 obtain⟨aU,bJ⟩:=boxed (vs:=[vi (U.mem.segOr k).gen,vi (U.mem.segOr k).kind,vi (U.mem.segOr k).n,vi ((U.mem.segOr k).cards 0),vi ((U.mem.segOr k).cards 1),vi ((U.mem.segOr k).cards 2),vi ((U.mem.segOr k).cards 3)]) (H1:=bf) (M.get br) aZ rfl
 refine⟨_,_,_,_,_,_,_,_,rfl,aU,λag aw=>?_⟩
 obtain⟨b6,bl⟩:=bJ ag aw
 have G:Ext H9 ag:=bl H9 (ap.trans M) (by omega)
 have ak:=T9.grow G
 have a3:=uy (ks:=t) (k:=k) ⟨by omega,by omega⟩ L a4.2
 have K:Fr (q.s::spB d) H7 H9:=(f8.mono (λj x _=>by simp at x;simp[x])).trans (f9.mono (λj x _=>List.mem_cons_of_mem _ x))
 have dr:=dY.step (k:Int) b.dr E (by rw[show((k:Nat):Int).toNat=k by omega];exact a0) (by rw[show((k:Nat):Int).toNat=k by omega];exact bw) (by rw[show((k:Nat):Int).toNat=k by omega];exact L)
 rw[show((k:Nat):Int).toNat=k by omega,bH]at dr
 refine⟨⟨ao,U,_,rfl,?_,b6,⟨dr,ak,b.ok.put a4,b.fr.trans (K.trans G.fr),?_,(λh=>by cases h),λ_=>?_⟩,?_⟩,?_⟩
 ·have:=K.size;omega
 ·exact(b.own.keep K bj).ext G
 ·by_cases r:bP=true
  ·exact Nat.lt_trans a3 (b.yes r)
  ·have:=(b.no (by simpa using r)).2.1
   rw[<-this];exact a3
 ·have:=K.size;have:=G.size;omega
 ·show mu _<mu _
  rw[Q ak,Q b.tg];exact a3
set_option maxRecDepth 100000 in
theorem kf(T:Tg H d u k o)(v:eR o.seen)(w:0<=o.tgt):
  bS.C (some ⟨k.t,0,none⟩) H (λ_ y=> ∃(s:Sp) (c:List (Int×Value)),dY o.old o.tgt u.sp o.seen s c/\ii o.old o.tgt s c/\Tg y d {u with sp:=s} k {o with seen:=c}/\eR c/\Fr (k.s::spB d) H y):=by
 refine HC.via λR J=>bS.link ?_
 unfold bS.pt
 have f: ∀{A:zV} {l:Sp} {a:List (Int×Value)},Tg A d {u with sp:=l} k {o with seen:=a}->(match A[k.s]? with | some (.map h _)=>h.toList.map (λe=>((match e.key with | .int _ n=>n | _=>0),e.val)) | _=> [])=a:=by
  intro A l a L
  obtain⟨h,P,G,I⟩:=L.tr.seen
  rw[G]
  show h.toList.map _=a
  have E:=congrArg (List.map (λp:Value×Value=>((match p.1 with | .int _ n=>n | _=>0),p.2))) I
  simp only[List.map_map]at E
  refine Eq.trans ?_ (E.trans ?_)
  ·rfl
  ·show List.map _ a=a
   conv=>rhs;rw[<-List.map_id a]
   rfl
 refine⟨λA=> ∃s c,dY o.old o.tgt u.sp o.seen s c/\Tg A d {u with sp:=s} k {o with seen:=c}/\eR c/\Fr (k.s::spB d) H A,
  λA=>mu (match A[k.s]? with | some (.map h _)=>h.toList.map (λe=>((match e.key with | .int _ n=>n | _=>0),e.val)) | _=> []),⟨_,_,.refl,T,v,Fr.refl _ _⟩,?_⟩
 rintro M ⟨s,c,z,q,x,B⟩
 refine HC.mono (iW q.toTc) ?_
 rintro _ N ⟨rfl,rfl⟩
 refine⟨_,rfl,?_⟩
 rw[if_neg (show ¬o.over=true by rw[T.on];decide)]
 refine HC.mono (qy q x w) ?_
 rintro _ O ⟨K,F,j,rfl,g,r,m,D,t,i⟩
 refine⟨_,rfl,?_⟩
 by_cases b:K=true
 ·rw[if_pos b]
  refine⟨⟨F,j,z.trans g,r,m,B.trans D⟩,?_⟩
  show mu _<mu _
  rw[f r,f q];exact i b
 ·rw[if_neg b]
  exact J _ _ ⟨F,j,z.trans g,t (by simpa using b),r,m,B.trans D⟩
theorem qA(h:cR H v C z):fX.C (some ⟨v,0,none⟩) H (λc a=>c=vi z.free/\a=H):=by
 refine HC.via λR b=>fX.link ?_
 unfold fX.pt
 rw[onPtr_some]
 exact⟨_,by rw[addr_add_mk];exact h.freeAt,b _ _ ⟨rfl,rfl⟩⟩
def Sp.zap(s:Sp)(P:Nat->Prop) [DecidablePred P]:Sp:={s with cur:=λi j=>if P i then 0 else s.cur i j}
theorem SpAt.alike{a:Sp}(h:SpAt H d i)(hm:a.mem=i.mem)(m: ∀g k,g<5->k<4->a.cur g k=i.cur g k):SpAt H d a:=by
 obtain⟨c,e,f,j,l⟩:=h.sp
 exact⟨by rw[hm];exact h.mem,h.ne,c,e,f,j,λg k b hk=>by rw[m g k b hk];exact l g k b hk⟩
theorem SpAt.put4(h:SpAt H d i){g:Nat}(o:g<5):
  aN H ⟨d.sp,1+g*4,none⟩ 0 4/\SpAt (aV H ⟨d.sp,1+g*4,none⟩ [vi 0,vi 0,vi 0,vi 0] 0) d (i.zap (· =g))/\Fr [d.sp] H (aV H ⟨d.sp,1+g*4,none⟩ [vi 0,vi 0,vi 0,vi 0] 0):=by
 obtain⟨b,a,n,c,f⟩:=h.sp
 refine⟨cD a _ _ _ (by omega),?_⟩
 rw[dO _ H b _ 0 a]
 refine⟨⟨h.mem.keep (S:=[d.sp]) Fr.set (by have:=h.ne;simp;omega) (by have:=h.ne;simp;omega),h.ne,_,bD (bC a),by rw[splice_size];exact n,?_,λp j k l=>?_⟩,Fr.set⟩
 ·rw[dJ _ _ _ _ (by omega)];exact c
 ·simp only[Sp.zap]
  by_cases e:p=g
  ·rw[if_pos e,e]
   have:=eU b [vi 0,vi 0,vi 0,vi 0] (1+g*4+0) j (by simp;omega) (by simp;omega)
   rw[show 1+g*4+j=1+g*4+0+j by omega,this]
   rcases(show j=0\/j=1\/j=2\/j=3 by omega)with rfl | rfl | rfl | rfl<;>rfl
  ·rw[if_neg e,<-f p j k l]
   rcases Nat.lt_or_ge p g with m | m
   ·exact dJ _ _ _ _ (by omega)
   ·exact gf _ _ _ _ (by simp;omega)
def Sp.fresh(s:Sp)(gs:List Int):Sp:=s.zap (λi=>gs=[]\/(i:Int)∈gs)
theorem Sp.zap_ok(a:SpOK i)(P:Nat->Prop) [DecidablePred P]:SpOK (i.zap P):=⟨a.mem,λg k=>by
 simp only[Sp.zap]
 split
 ·exact .inl rfl
 ·exact a.cur g k⟩
theorem iC{α:Type}{p q:Prop} [Decidable p] [Decidable q] (h:p ↔ q)(x y:α):(if p then x else y)=if q then x else y:=by
 by_cases a:p
 ·rw[if_pos a,if_pos (h.1 a)]
 ·rw[if_neg a,if_neg (λb=>a (h.2 b))]
theorem SpAt.zapTo{P Q:Nat->Prop} [DecidablePred P] [DecidablePred Q] (h:SpAt H d (i.zap P))(e: ∀b,b<5->(P b ↔ Q b)):SpAt H d (i.zap Q):=h.alike rfl (λb k a _=>by
 simp only[Sp.zap]
 exact iC (e b a).symm _ _)
theorem SpAt.zapMore{P R Q:Nat->Prop} [DecidablePred P] [DecidablePred R] [DecidablePred Q] (h:SpAt H d ((i.zap P).zap R))(e: ∀g,g<5->(P g\/R g ↔ Q g)):SpAt H d (i.zap Q):=h.alike rfl (λg k b _=>by
 simp only[Sp.zap]
 by_cases a:R g
 ·rw[if_pos a,if_pos ((e g b).1 (.inr a))]
 ·rw[if_neg a]
  exact iC ⟨λf=>((e g b).2 f).resolve_right a,λc=>(e g b).1 (.inl c)⟩ _ _)
set_option maxRecDepth 100000 in
theorem nM{r:zW}{b:List Int}(h:SpAt H d i)(O:gc H r (ivs b))(E:v=b.length)(U:v<=1000)(D: ∀Y∈blks r,Y≠d.sp):
  dE.C (some ⟨d.sp,0,none⟩) r v C H (λ_ K=>SpAt K d (i.fresh b)/\Fr [d.sp] H K):=by
 refine HC.via λR S=>dE.link ?_
 unfold dE.pt zY
 rw[onPtr_some]
 subst E
 have s:SpAt H d (i.zap λY=>(Y:Int)<0/\(b=[]\/(Y:Int)∈b)):=h.alike rfl (λg k _ _=>by simp only[Sp.zap];rw[if_neg (by omega)])
 refine⟨λg A=>(0<=g/\g<=5)/\SpAt A d (i.zap λY=>(Y:Int)<g/\(b=[]\/(Y:Int)∈b))/\Fr [d.sp] H A,λg _=>(5-g).toNat,⟨by omega,s,Fr.refl _ _⟩,?_⟩
 rintro g W ⟨e,M,L⟩
 by_cases c:g<5
 case neg=>
  rw[if_neg c]
  exact S _ _ ⟨M.zapTo (λY B=>⟨λq=>q.2,λq=>⟨by omega,q⟩⟩),L⟩
 rw[if_pos c]
 have P:IntKind.wrap .i64 (g+1)=g+1:=w64 (by omega)
 have N:(5-(g+1)).toNat< (5-g).toNat:=by omega
 have J: ∀{A:zV},Fr [d.sp] H A->gc A r (ivs b):=λ{A} f=>by
  cases r with
  | none=>exact O
  | some a=>exact f.rowAt (by have:=D a.block (by simp);simp;exact this) O
 refine⟨λj A=>(0<=j/\j<=b.length)/\SpAt A d (i.zap λY=>(Y:Int)<g/\(b=[]\/(Y:Int)∈b)\/(Y:Int)=g/\g∈b.take j.toNat)/\Fr [d.sp] H A,λj _=>(b.length-j).toNat,⟨by omega,M.zapTo (λY _=>⟨λq=> .inl q,λq=>by
  rcases q with q | q
  ·exact q
  ·simp at q⟩),L⟩,?_⟩
 rintro j X ⟨V,t,p⟩
 by_cases n:j< (b.length:Int)
 ·rw[if_pos n]
  have y:j.toNat<b.length:=by omega
  obtain⟨a,T,hat⟩:=mG (J p) y
  have I:IntKind.wrap .i64 (j+1)=j+1:=w64 (by omega)
  have u:((b.length:Int)-(j+1)).toNat< ((b.length:Int)-j).toNat:=by omega
  have G:b.take (j+1).toNat=b.take j.toNat++[b[j.toNat]]:=by rw[show(j+1).toNat=j.toNat+1 by omega,List.take_succ_eq_append_getElem y]
  refine⟨a,T,⟨V.1,n⟩,_,hat,?_⟩
  rw[I]
  by_cases z:b[j.toNat]=g
  ·rw[if_pos z]
   have o:=t.put4 (g:=g.toNat) (by omega)
   rw[addr_add_mk,addr_add_mk,Nat.zero_add]
   refine⟨⟨e.1,c⟩,o.1,λQ l=>?_⟩
   subst l
   refine⟨⟨by omega,o.2.1.zapMore (λY B=>⟨λq=>?_,λq=>?_⟩),p.trans o.2.2⟩,u⟩
   ·rcases q with(q | q) | q
    ·exact .inl q
    ·exact .inr ⟨q.1,by rw[G];exact List.mem_append_left _ q.2⟩
    ·exact .inr ⟨by omega,by rw[G,z];simp⟩
   ·rcases q with q | q
    ·exact .inl (.inl q)
    ·exact .inr (by omega)
  ·rw[if_neg z]
   have hm:g∈b.take (j+1).toNat ↔ g∈b.take j.toNat:=by
    rw[G,List.mem_append]
    exact⟨λq=>q.elim id (λq=>absurd (by simpa using q:g=b[j.toNat]).symm z),.inl⟩
   exact⟨⟨by omega,t.zapTo (λY B=>by rw[hm]),p⟩,u⟩
 ·rw[if_neg n]
  rw[List.take_of_length_le (by omega)]at t
  by_cases s:(b.length:Int)=0
  ·rw[if_pos s]
   have w:b=[]:=List.length_eq_zero_iff.1 (by omega)
   have o:=t.put4 (g:=g.toNat) (by omega)
   rw[addr_add_mk,addr_add_mk,Nat.zero_add]
   refine⟨⟨e.1,c⟩,o.1,λQ l=>?_⟩
   subst l
   rw[P]
   refine⟨⟨by omega,o.2.1.zapMore (λY B=>⟨λq=>?_,λq=>?_⟩),p.trans o.2.2⟩,N⟩
   ·rcases q with(q | q) | q
    ·exact⟨by omega,q.2⟩
    ·exact⟨by omega,.inl w⟩
    ·exact⟨by omega,.inl w⟩
   ·by_cases m:(Y:Int)<g
    ·exact .inl (.inl ⟨m,q.2⟩)
    ·exact .inr (by omega)
  ·rw[if_neg s,P]
   have F:b≠[]:=λh=>s (by rw[h];rfl)
   refine⟨⟨by omega,t.zapTo (λY B=>⟨λq=>?_,λq=>?_⟩),p⟩,N⟩
   ·rcases q with q | q
    ·exact⟨by omega,q.2⟩
    ·exact⟨by omega,.inr (by rw[q.1];exact q.2)⟩
   ·by_cases m:(Y:Int)<g
    ·exact .inl ⟨m,q.2⟩
    ·have x:(Y:Int)=g:=by omega
     refine .inr ⟨x,?_⟩
     rcases q.2 with q | q
     ·exact absurd q F
     ·rw[<-x];exact q
def Mem.dirtyAt(m:Mem)(g:Int)(k n:Nat):List (Int×Int):=((List.range n).filter λi=>decide (g< (m.seg k).gen/\(m.seg k).cards i<=g)).map λi:Nat=>((k:Int),(i:Int))
def Mem.dirtyOf(m:Mem)(g:Int)(l:List Nat):List (Int×Int):=l.flatMap λk=>m.dirtyAt g k 4
theorem Mem.dirtyAt_len(m:Mem)(g:Int)(k n:Nat):(m.dirtyAt g k n).length<=n:=by
 unfold Mem.dirtyAt;rw[List.length_map];exact Nat.le_trans (List.length_filter_le _ _) (by simp)
theorem Mem.dirtyOf_len(m:Mem)(g:Int): ∀l:List Nat,(m.dirtyOf g l).length<=4*l.length
 | []=>by simp[Mem.dirtyOf]
 | k::l=>by
  have a:=m.dirtyAt_len g k 4
  have b:=m.dirtyOf_len g l
  unfold Mem.dirtyOf at*
  rw[List.flatMap_cons,List.length_append,List.length_cons];omega
theorem Mem.dirtyAt_succ(m:Mem)(g:Int)(k n:Nat):m.dirtyAt g k (n+1)=m.dirtyAt g k n++(if g< (m.seg k).gen/\(m.seg k).cards n<=g then[((k:Int),(n:Int))]else[]):=by
 unfold Mem.dirtyAt
 rw[List.range_succ,List.filter_append,List.map_append]
 congr 1
 by_cases h:g< (m.seg k).gen/\(m.seg k).cards n<=g
 ·rw[if_pos h];simp[h]
 ·rw[if_neg h];simp at h⊢;exact h
theorem Mem.mem_dirty{l:List Nat}{c:Int×Int}:c∈z.dirtyOf j l ↔ ∃k∈l,∃i:Nat,i<4/\c=((k:Int),(i:Int))/\j< (z.seg k).gen/\(z.seg k).cards i<=j:=by
 unfold Mem.dirtyOf Mem.dirtyAt
 simp only[List.mem_flatMap,List.mem_map,List.mem_filter,List.mem_range,decide_eq_true_eq]
 constructor
 ·rintro⟨k,hk,i,⟨d,a,b⟩,rfl⟩;exact⟨k,hk,i,d,rfl,a,b⟩
 ·rintro⟨k,hk,i,d,rfl,a,b⟩;exact⟨k,hk,i,⟨d,a,b⟩,rfl⟩
theorem lY(a c:List (Int×Int)):dV (a++c)=dV a++dV c:=by unfold dV;rw[List.flatMap_append]
set_option maxRecDepth 100000 in
theorem oF(h:CdAt H d i)(ok:SpOK i):
  dP.C (some ⟨d.c,0,none⟩) j H (λv H'=> ∃(B:zW) (n c:Nat) (l:List Nat),v=vs B n c/\cU i.mem [] l/\n=(i.mem.dirtyOf j l).length/\Own H' 127 2 B n c (dV (i.mem.dirtyOf j l))/\(∀b9∈blks B,H.size<=b9)/\Ext H H'):=by
 refine HC.via λR hR=>dP.link ?_
 unfold dP.pt zY
 refine HC.mono (jM h) ?_
 rintro _ H1 ⟨rfl,rfl⟩
 refine⟨_,rfl,?_⟩
 rw[if_neg (by decide)]
 refine⟨_,rfl,_,h.cPtr,_,rfl,_,h.sp.memPtr,?_⟩
 refine HC.mono (jg (gs:=[]) h.sp.mem ok.mem (show gc H1 none (ivs [])from rfl) rfl (by decide)) ?_
 rintro _ M ⟨B0,c0,l,rfl,hl,J,af,T⟩
 refine⟨_,_,_,rfl,?_⟩
 have ag:=hl.len
 have ah:=ok.mem.lim
 refine⟨λB n c b9 A=>(0<=b9/\b9<=l.length)/\n=(i.mem.dirtyOf j (l.take b9.toNat)).length/\Own A 127 2 B n c (dV (i.mem.dirtyOf j (l.take b9.toNat)))/\(∀ba∈blks B,M.size<=ba)/\Ext M A,λ_ _ _ b9 _=>(l.length-b9).toNat,
  ⟨by omega,rfl,iB,by simp,Ext.refl _⟩,?_⟩
 rintro B n c b9 H3 ⟨hi,rfl,s,G,N⟩
 by_cases x:b9< (l.length:Int)
 case neg=>
  rw[if_neg x]
  rw[List.take_of_length_le (by omega)]at s⊢
  exact hR _ _ ⟨B,_,c,l,rfl,hl,rfl,s,λba o=>by have:=G ba o;have:=T.size;omega,T.trans N⟩
 rw[if_pos x]
 have u:b9.toNat<l.length:=by omega
 obtain⟨a,ha,E⟩:=nk (J.ext N) u
 obtain⟨L,ai,aj,_⟩:=hl.has (List.getElem_mem u)
 have ht:l.take (b9+1).toNat=l.take b9.toNat++[l[b9.toNat]]:=by rw[show(b9+1).toNat=b9.toNat+1 by omega,List.take_succ_eq_append_getElem u]
 generalize hk:l[b9.toNat]=k at*
 have U:=h.ext (T.trans N)
 have ld:=i.mem.dirtyOf_len j (l.take b9.toNat)
 have ll:(l.take b9.toNat).length<=1024:=by rw[List.length_take];omega
 refine⟨a,ha,⟨hi.1,x⟩,(k:Int),E,_,U.cPtr,_,rfl,_,U.sp.memPtr,?_⟩
 refine HC.mono (gF U.sp.mem) ?_
 rintro _ H4 ⟨rfl,e4⟩
 have a7:i.mem.segOr k=i.mem.seg k:=by unfold Mem.segOr;rw[if_pos L,show((k:Nat):Int).toNat=k by omega]
 rw[a7]
 refine⟨_,_,_,_,_,_,_,_,rfl,λy H5 X V=>?_⟩
 obtain⟨a0,hs⟩:=iI (i.mem.seg k) X V
 refine⟨a0,λH6 W=>?_⟩
 obtain⟨e6,a2,_,_,a6⟩:=hs H6 W
 have m:=a6
 simp only[aP,and_true,addr_add_mk,Nat.zero_add]at m
 refine⟨(i.mem.seg k).cards 0,(i.mem.seg k).cards 1,(i.mem.seg k).cards 2,(i.mem.seg k).cards 3,?_,?_⟩
 ·rw[addr_add_mk]
  refine⟨?_,?_,?_,?_,trivial⟩<;>rw[addr_add_mk]
  ·exact m.2.2.2.1
  ·exact m.2.2.2.2.1
  ·exact m.2.2.2.2.2.1
  ·exact m.2.2.2.2.2.2
 have z:=e4.trans e6
 have ap:H3.size<=y:=by have:=e4.size;omega
 have hw:IntKind.wrap .i64 (b9+1)=b9+1:=w64 (by omega)
 have a1:((l.length:Int)-(b9+1)).toNat< ((l.length:Int)-b9).toNat:=by omega
 refine⟨λQ n' c' ba A=>(0<=ba/\ba<=4)/\n'=(i.mem.dirtyOf j (l.take b9.toNat)++i.mem.dirtyAt j k ba.toNat).length/\Own A 127 2 Q n' c' (dV (i.mem.dirtyOf j (l.take b9.toNat)++i.mem.dirtyAt j k ba.toNat))/\(∀ba∈blks Q,M.size<=ba/\ba≠y)/\Ext M A/\hat A ⟨y,0,none⟩=some (vi (i.mem.seg k).gen),λ_ _ _ ba _=>(4-ba).toNat,
  ⟨by omega,by simp[Mem.dirtyAt],by simpa[Mem.dirtyAt]using s.ext z,λba o=>⟨G ba o,by have:=s.lt ba o;omega⟩,N.trans z,a2⟩,?_⟩
 rintro Q n' c' ba S ⟨o,rfl,g,f,O,p⟩
 by_cases w:ba<4
 case neg=>
  rw[if_neg w,hw]
  have a3:ba.toNat=4:=by omega
  rw[a3]at g⊢
  have t:i.mem.dirtyOf j (l.take (b9+1).toNat)=i.mem.dirtyOf j (l.take b9.toNat)++i.mem.dirtyAt j k 4:=by
   rw[ht];unfold Mem.dirtyOf;rw[List.flatMap_append];simp
  refine⟨⟨by omega,by rw[t],by rw[t];exact g,λba o=>(f ba o).1,O⟩,a1⟩
 rw[if_pos w]
 have Z: ∃q:Nat,ba=q/\q<4:=⟨ba.toNat,by omega,by omega⟩
 obtain⟨b,rfl,az⟩:=Z
 have a8:IntKind.wrap .i64 ((b:Int)+1)=(b:Int)+1:=w64 (by omega)
 have e:((b:Int)+1).toNat=b+1:=by omega
 refine⟨(i.mem.seg k).cards b,⟨⟨by omega,w⟩,?_⟩,_,p,?_⟩
 ·rcases(show b=0\/b=1\/b=2\/b=3 by omega)with rfl | rfl | rfl | rfl<;>rfl
 rw[a8]
 have I:((b:Int)).toNat=b:=by omega
 rw[I]at g
 rw[I]
 have ax:=i.mem.dirtyAt_len j k b
 have F:(4-((b:Int)+1)).toNat< (4-(b:Int)).toNat:=by omega
 by_cases t:j< (i.mem.seg k).gen/\(i.mem.seg k).cards b<=j
 ·rw[if_pos (by simp;exact⟨t.1,t.2⟩)]
  intro c8 H8 Y D
  have P:Ext S H8:=Ext.push' D
  refine fU (ys:=[vi (k:Int),vi (b:Int)]) (g.ext P) (gK (aO Y D) _ 0 0 (λba o=>by
   simp only[List.length_cons,List.length_nil]at o
   rcases(show ba=0\/ba=1 by omega)with rfl | rfl<;>rfl)) rfl rfl rfl (by rw[List.length_append];omega) ?_
  intro p' c9 H9 K f9 a5
  have r:i.mem.dirtyAt j k (b+1)=i.mem.dirtyAt j k b++[((k:Int),(b:Int))]:=by rw[Mem.dirtyAt_succ,if_pos t]
  refine⟨⟨by omega,by rw[e,r];simp;omega,?_,λba o=>?_,(O.trans P).fr_trans f9 (λba o=>(f ba o).1),f9.hat (λhm=>(f _ hm).2 rfl) (P.hat p)⟩,F⟩
  ·rw[e,r,<-List.append_assoc,lY];exact K
  ·rcases a5 ba o with q | q
   ·exact f ba q
   ·have:=O.size;have:=P.size
    have h5:y<S.size:=by
     unfold Go.Proofs.YtfhbhckhmnleoaaGreat.hat at p
     rcases Nat.lt_or_ge y S.size with h | h
     ·exact h
     ·simp[Array.getElem?_eq_none h]at p
    exact⟨by omega,by omega⟩
 ·rw[if_neg (by simpa using t)]
  have r:i.mem.dirtyAt j k (b+1)=i.mem.dirtyAt j k b:=by rw[Mem.dirtyAt_succ,if_neg t,List.append_nil]
  exact⟨⟨by omega,by rw[e,r],by rw[e,r];exact g,f,O,p⟩,F⟩
