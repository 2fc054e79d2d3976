/-
  What was copied is looked at (package trace): look, Cards. Proves nothing of any one statement.
-/
import Derived.Test.YtojbbgcjiaphjaaGreatWords
import Derived.Test.YtojbbgcjiaphjaaGreatFcardx
set_option linter.unusedVariables false
set_option linter.unusedSimpArgs false
namespace Go.Proofs.YtojbbgcjiaphjaaGreat
open Go
variable{H A:zV}{a:Sp}{b:Blk}{d u:Int}{i:TB}{j:Tr}{k:Hp}{o:Mem}{q v:Nat}{r:List (Int×Value)}{z:Nat->Bool}
theorem Sp.moved_cf(m:Mem)(w:Int)(r:Sp×Int×Int):(Sp.moved m w r).cf=r.1.cf:=by
  unfold Sp.moved Sp.cf
  have a:=bS.sets (m.row (w / 8) (m.sizeOf w).toNat) r.1.mem r.2.1
  have b:=bS.set (r.1.mem.sets r.2.1 (m.row (w / 8) (m.sizeOf w).toNat)) (w / 8) (r.2.1*8+6)
  simp only[]
  rw[b.count,b.free,a.count,a.free]
theorem Sp.visit_cf(s:Sp)(old:Nat->Bool)(T w:Int):(s.visit old T w).1.cf=s.cf:=by
  unfold Sp.visit
  split
  · rfl
  split
  · rfl
  split
  · rfl
  split
  · show(Sp.moved _ _ _).cf=_
    rw[Sp.moved_cf,Sp.alloc_cf]
  · rfl
theorem Mem.size_kind(h:o.sizeOf d≠0):(o.kindOf d=0\/o.kindOf d=1)/\o.sizeOf d=2\/(o.kindOf d=2\/o.kindOf d=3):=by
  unfold Mem.sizeOf Mem.kindOf at*
  by_cases a:o.isPair d
  · rw[if_pos a]
    rcases a.1 with q | q
    · exact .inl ⟨.inl q.2.2.2.1,rfl⟩
    · exact .inl ⟨.inr q.2.2.2.1,rfl⟩
  · rw[if_neg a]at h
    by_cases b:o.isObj d
    · have:=b.1.2.2.2.1
      right
      unfold rawK at this
      split at this<;>omega
    · rw[if_neg b]at h;exact absurd rfl h
theorem Sp.visit_even(g:SpOK a)(b:a.mem.Even)(old:Nat->Bool)(T w:Int):(a.visit old T w).1.mem.Even:=by
  unfold Sp.visit
  split
  · exact b
  split
  · exact b
  split
  · exact b
  rename_i d
  split
  · rename_i f
    obtain⟨_,c⟩:=Sp.alloc_ok g f
    have e:=(c.even b (λhk=>by rcases Mem.size_kind d with q | q<;>omega)).1
    exact(bS.set _ _ _).even ((bS.sets _ _ _).even e)
  · exact b
theorem Sp.visit_word(d:SpOK a){old:Nat->Bool}{T w:Int}(c:aG w):aG (a.visit old T w).2:=by
  unfold Sp.visit
  split
  · exact c
  split
  · rename_i v b
    unfold Mem.fwd at b
    split at b
    · rename_i k
      have e:=k.2.1.2
      have h:=((d.mem.seg (w / 8 / 64).toNat).words (w / 8 % 64).toNat).1
      have i:a.mem.get (w / 8)=(a.mem.seg (w / 8 / 64).toNat).words (w / 8 % 64).toNat:=rfl
      simp only[Option.some.injEq]at b
      have o:=c.1
      rw[i]at e b
      generalize (a.mem.seg (w / 8 / 64).toNat).words (w / 8 % 64).toNat=g at e h b
      rw[<-b]
      exact⟨by omega,by omega⟩
    · cases b
  split
  · exact c
  split
  · rename_i j
    obtain⟨_,f⟩:=Sp.alloc_ok d j
    have p:=d.mem.lim
    obtain⟨l,m,n⟩:=f.addr
    have:=c.1
    exact⟨by simp only[];omega,by simp only[];omega⟩
  · exact c
structure Tg (H:zV) (b:Blk) (x:Hp) (q:TB) (t:Tr):Prop extends Tc H b x q t where
  even:x.sp.mem.Even
  cf:x.sp.cf<4611686018427387904
  on:t.over=false
theorem Tg.grow(h:Tg H b k i j)(e:Ext H A):Tg A b k i j:=⟨h.toTc.ext e,h.even,h.cf,h.on⟩
theorem Tg.stay{S:List Nat}(h:Tg H b k i j)(f:Fr S H A)(a: ∀d,d∈S->d ∉ b.all)(c: ∀d,d∈S->d ∉ i.all):Tg A b k i j:=⟨h.toTc.keep f a c,h.even,h.cf,h.on⟩
theorem Tg.lt{b:Blk}{q:TB}(h:Tg H b k q j){i:Nat}(a:i∈b.all\/i∈q.all):i<H.size:=by
  rcases a with a | a
  · exact h.hp.lt i a
  · exact h.tr.lt i a
theorem mg(T:Tg H b k i j)(c:aG d):
    bI.C (some ⟨i.t,0,none⟩) d H (λv a=>v=vu (k.sp.visit j.old j.tgt d).2/\Tg a b {k with sp:=(k.sp.visit j.old j.tgt d).1} i j/\Fr (spB b) H a):=
  HC.mono (tp T.toTc T.even c (Sp.cf_count T.ok T.cf) T.on) (λ_ _ h=>⟨h.1,⟨h.2.1,Sp.visit_even T.ok T.even _ _ _,by show(k.sp.visit j.old j.tgt d).1.cf<_;rw[Sp.visit_cf];exact T.cf,T.on⟩,h.2.2⟩)
def Mem.read(m:Mem)(a:Int):Int:=if m.used a then m.get a else 0
def Mem.wr(m:Mem)(a w:Int):Mem:=if m.used a then m.set a w else m
theorem Mem.read_word(b:bJ o)(a:Int):aG (o.read a):=by
  unfold Mem.read
  split
  · exact(b.seg _).words _
  · decide
theorem bS.wr(m:Mem)(a w:Int):bS m (m.wr a w):=by
  unfold Mem.wr
  split
  · exact bS.set m a w
  · exact bS.refl m
theorem SpOK.wr{s:Sp}(ok:SpOK s)(a:Int){w:Int}(hw:aG w):SpOK {s with mem:=s.mem.wr a w}:=
  ok.withMem (by unfold Mem.wr; split; · exact ok.mem.set a hw
                 · exact ok.mem) (λk h=>(bS.wr _ _ _).has.2 h) (λk=>⟨((bS.wr _ _ _).seg k).1,((bS.wr _ _ _).seg k).2.1⟩)
def Sp.lookAt(s:Sp)(old:Nat->Bool)(T a:Int):Sp:=
  {(s.visit old T (s.mem.read a)).1 with mem:=(s.visit old T (s.mem.read a)).1.mem.wr a (s.visit old T (s.mem.read a)).2}
theorem Sp.lookAt_even(c:SpOK a)(b:a.mem.Even)(old:Nat->Bool)(T d:Int):(a.lookAt old T d).mem.Even:=
  (bS.wr _ _ _).even (Sp.visit_even c b old T _)
theorem Sp.lookAt_cf(s:Sp)(old:Nat->Bool)(T a:Int):(s.lookAt old T a).cf=s.cf:=by
  have h:=bS.wr (s.visit old T (s.mem.read a)).1.mem a (s.visit old T (s.mem.read a)).2
  have:(s.lookAt old T a).cf=(s.visit old T (s.mem.read a)).1.cf:=by
    unfold Sp.lookAt Sp.cf;simp only[];rw[h.count,h.free]
  rw[this,Sp.visit_cf]
set_option maxRecDepth 100000 in
theorem tu(T:Tg H b k i j)(K:I64 d)(f:hat H ⟨q,0,none⟩=some (vp (some ⟨i.t,0,none⟩)))(l:q ∉ spB b):
    dP.C d (some ⟨q,0,none⟩) H (λ_ s=>Tg s b {k with sp:=k.sp.lookAt j.old j.tgt d} i j/\Fr (spB b) H s):=by
  refine HC.via λR B=>dP.link ?_
  unfold dP.pt
  obtain⟨w,x,y,z⟩:=T.s1
  refine⟨_,rfl,_,f,_,rfl,_,w,_,rfl,_,x,_,rfl,_,y,_,rfl,_,z,?_⟩
  refine HC.mono (jX T.hp.cd.sp.mem T.ok.mem (by omega)) ?_
  rintro _ I ⟨rfl,rfl⟩
  have p: ∃e:Int,(if k.sp.mem.used d then Value.tuple #[vu (k.sp.mem.get d),vi 0]else .tuple #[vu 0,vi 18])=.tuple #[vu (k.sp.mem.read d),vi e]:=by
    unfold Mem.read
    by_cases g:k.sp.mem.used d
    · rw[if_pos g,if_pos g];exact⟨_,rfl⟩
    · rw[if_neg g,if_neg g];exact⟨_,rfl⟩
  obtain⟨e,p⟩:=p
  refine⟨_,e,p,_,f,_,rfl,_,w,_,rfl,_,x,_,rfl,_,y,_,rfl,_,z,_,f,?_⟩
  have v:=Mem.read_word T.ok.mem d
  refine HC.mono (mg T v) ?_
  rintro _ A ⟨rfl,c,t⟩
  obtain⟨D,E,F,G⟩:=c.s1
  have h:hat A ⟨q,0,none⟩=some (vp (some ⟨i.t,0,none⟩)):=t.hat l f
  refine⟨_,rfl,?_⟩
  simp only[aQ,and_true,addr_add_mk,Nat.add_zero]
  refine⟨h,D,E,F,G,?_⟩
  have a:=c.ok
  have r:=SpOK.wr a d (Sp.visit_word T.ok (old:=j.old) (T:=j.tgt) v)
  refine HC.mono (jH c.hp.cd.sp.mem a.mem (by omega)) ?_
  rintro _ J ⟨rfl,o,u⟩
  refine⟨_,rfl,B _ _ ⟨⟨?_,Sp.lookAt_even T.ok T.even _ _ _,by show(k.sp.lookAt j.old j.tgt d).cf<_;rw[Sp.lookAt_cf];exact T.cf,T.on⟩,t.trans (u.mono (λL n _=>by simp at n;simp[spB];omega))⟩⟩
  exact c.toTc.withMem (m:=(k.sp.visit j.old j.tgt (k.sp.mem.read d)).1.mem.wr d (k.sp.visit j.old j.tgt (k.sp.mem.read d)).2) u (λL n=>by simp at n;omega) o r
def looks(kind i:Int):Prop:=kind≠3/\(kind≠1\/i % 2=1)
instance (kind i:Int):Decidable (looks kind i):=by unfold looks;infer_instance
def Sp.look(s:Sp)(old:Nat->Bool)(T seg kind lo:Int):Nat->Sp
  | 0=>s
  | n+1=>if looks kind (lo+n)then(s.look old T seg kind lo n).lookAt old T (seg*64+(lo+n))else s.look old T seg kind lo n
theorem Sp.look_raw(s:Sp)(old:Nat->Bool)(T seg a:Int): ∀n,s.look old T seg 3 a n=s
  | 0=>rfl
  | n+1=>by unfold Sp.look;rw[if_neg (λh=>h.1 rfl)];exact Sp.look_raw s old T seg a n
set_option maxRecDepth 100000 in
theorem qK{a g:Int}(T:Tg H b k i j)(L:0<=d/\d<1024)(K:0<=a/\a<=64)(J:g<=64):
    cQ.C (some ⟨i.t,0,none⟩) d a g u H (λ_ m=>Tg m b {k with sp:=k.sp.look j.old j.tgt d u a (g-a).toNat} i j/\Fr (spB b) H m):=by
  refine HC.via λR A=>cQ.link ?_
  unfold cQ.pt zY
  intro c H1 w o
  have x:Ext H H1:=Ext.push' o
  have E:=aH w o
  have B:=T.grow x
  have v:hat H1 ⟨c,0,none⟩=some (vp (some ⟨i.t,0,none⟩)):=by rw[aP E];rfl
  have p:c ∉ spB b:=λh=>by
    have:=T.lt (.inl (kV h));omega
  refine⟨λM m=>(a<=M/\M<=max a g)/\Tg m b {k with sp:=k.sp.look j.old j.tgt d u a (M-a).toNat} i j/\Fr (spB b) H m/\hat m ⟨c,0,none⟩=some (vp (some ⟨i.t,0,none⟩)),λM _=>(g-M).toNat,⟨⟨by omega,by omega⟩,by rw[Int.sub_self];exact B,x.fr,v⟩,?_⟩
  rintro M G ⟨F,s,t,l⟩
  by_cases f:M<g/\u≠3
  · rw[if_pos (by simp[f.1,f.2])]
    have r:(M+1-a).toNat=(M-a).toNat+1:=by omega
    have q:a+((M-a).toNat:Int)=M:=by omega
    rw[jz (by omega:0<=M),w64 (n:=M+1) (by omega),w64 (n:=d*64) (by omega),w64 (n:=d*64+M) (by omega)]
    by_cases hk:u≠1\/M % 2=1
    · rw[if_pos (by simpa using hk)]
      refine HC.mono (tu s (by omega) l p) ?_
      rintro _ I ⟨D,y⟩
      refine⟨⟨by omega,?_,t.trans y,y.hat p l⟩,by show(g-(M+1)).toNat< (g-M).toNat;omega⟩
      have e:k.sp.look j.old j.tgt d u a (M+1-a).toNat=(k.sp.look j.old j.tgt d u a (M-a).toNat).lookAt j.old j.tgt (d*64+M):=by
        rw[r];show(if _ then _ else _)=_;rw[q,if_pos ⟨f.2,hk⟩]
      rw[e];exact D
    · rw[if_neg (by simpa using hk)]
      refine⟨⟨by omega,?_,t,l⟩,by show(g-(M+1)).toNat< (g-M).toNat;omega⟩
      have e:k.sp.look j.old j.tgt d u a (M+1-a).toNat=k.sp.look j.old j.tgt d u a (M-a).toNat:=by
        rw[r];show(if _ then _ else _)=_;rw[q,if_neg (λh=>hk h.2)]
      rw[e];exact s
  · rw[if_neg (by simpa using f)]
    have e:k.sp.look j.old j.tgt d u a (g-a).toNat=k.sp.look j.old j.tgt d u a (M-a).toNat:=by
      by_cases z:u=3
      · rw[z,Sp.look_raw,Sp.look_raw]
      · have: ¬M<g:=λh=>f ⟨h,z⟩
        congr 1;omega
    rw[e]at A
    exact A _ _ ⟨s,t⟩
def Mem.segOr(m:Mem)(k:Int):Seg:=if m.has k then m.seg k.toNat else Seg.none
def Sp.lookCard(s:Sp)(old:Nat->Bool)(T:Int)(c:Int×Int):Sp:=
  s.look old T c.1 (s.mem.segOr c.1).kind (c.2*16) (min (s.mem.segOr c.1).n ((c.2+1)*16)-c.2*16).toNat
def Sp.lookCards(s:Sp)(old:Nat->Bool)(T:Int)(l:List (Int×Int)):Sp:=l.foldl (λs c=>s.lookCard old T c) s
theorem Sp.lookCards_snoc(s:Sp)(old:Nat->Bool)(T:Int)(l:List (Int×Int))(c:Int×Int):s.lookCards old T (l++[c])=(s.lookCards old T l).lookCard old T c:=by
  unfold Sp.lookCards;rw[List.foldl_append];rfl
theorem nn: ∀l:List (Int×Int),(eY l).length=2*l.length
  | []=>rfl
  | c::l=>by
    have:=nn l
    unfold eY at*
    rw[List.flatMap_cons,List.length_append,this];simp;omega
theorem np: ∀(l:List (Int×Int)) {i:Nat} (h:i<l.length),(eY l)[2*i]?=some (vi l[i].1)/\(eY l)[2*i+1]?=some (vi l[i].2)
  | c::l,0,h=>⟨rfl,rfl⟩
  | c::l,i+1,h=>by
    have:=np l (i:=i) (by simpa using h)
    unfold eY at*
    rw[List.flatMap_cons]
    exact⟨this.1,this.2⟩
theorem pR{B:zW}{l:List (Int×Int)}(h:fB H B (eY l))(g:q<l.length): ∃a,B=some a/\aQ H (a.add (q*2)) 0 [vi l[q].1,vi l[q].2]:=by
  cases B with
  | none=>
    have e:eY l=[]:=h
    have:=nn l
    rw[e]at this;simp at this;omega
  | some a=>
    refine⟨a,rfl,?_⟩
    obtain⟨b,c⟩:=np l g
    have d:=fD (show aQ H a 0 (eY l)from h) _ _ b
    have f:=fD (show aQ H a 0 (eY l)from h) _ _ c
    refine⟨?_,?_,trivial⟩
    · rw[lv];rw[show q*2+0=0+2*q by omega];exact d
    · rw[lv];rw[show q*2+(0+1)=0+(2*q+1)by omega];exact f
def nT(l:List (Int×Int)):Prop:= ∀c∈l,(0<=c.1/\c.1<1024)/\0<=c.2/\c.2<4
theorem uv(h:o.isPair d):o.sizeOf d≠0:=by unfold Mem.sizeOf;rw[if_pos h];decide
theorem Mem.typ_rng(m:Mem)(w:Int):0<=m.typ w/\m.typ w<32:=by unfold Mem.typ hk;split<;>omega
theorem Mem.len_rng(m:Mem)(w:Int):0<=m.len w/\m.len w<=62:=by
  unfold Mem.len
  split
  · rename_i h;exact h.len_lt
  · omega
theorem pS(a:bJ o)(k:Int):t8 (o.segOr k):=by
 unfold Mem.segOr
 split
 ·exact a.seg _
 ·exact nt
theorem gL(h:cX H q v o):
  bH.C (some ⟨q,0,none⟩) d H (λb a=>b=.tuple #[(o.segOr d).head,.bool (decide (o.has d))]/\Ext H a):=kL h
theorem jC{H H1:zV}(a:Seg)(h:q=H.size)(c:H1=H.push (.cells #[vi 0,vi 0,vi 0,vi 0,vi 0,vi 0,vi 0] 89)):
  aK H1 ⟨q,0,none⟩ 0 7/\ ∀b,b=aR H1 ⟨q,0,none⟩ [vi a.gen,vi a.kind,vi a.n,vi (a.cards 0),vi (a.cards 1),vi (a.cards 2),vi (a.cards 3)] 0->Ext H b/\
   hat b ⟨q,0,none⟩=some (vi a.gen)/\hat b ⟨q,1,none⟩=some (vi a.kind)/\hat b ⟨q,2,none⟩=some (vi a.n)/\aQ b ⟨q,0,none⟩ 0 [vi a.gen,vi a.kind,vi a.n,vi (a.cards 0),vi (a.cards 1),vi (a.cards 2),vi (a.cards 3)]:=by
 obtain⟨f,i⟩:=boxed (vs:=[vi a.gen,vi a.kind,vi a.n,vi (a.cards 0),vi (a.cards 1),vi (a.cards 2),vi (a.cards 3)]) (H1:=H1) (aH h c) rfl rfl
 refine⟨f,λb e=>?_⟩
 obtain⟨d,g⟩:=i b e
 exact⟨g H (Ext.push' c) (by omega),d.1,d.2.1,d.2.2.1,d⟩
theorem vf(a b:Int):(if a<b then a else b)=min b a:=by
 by_cases h:a<b
 ·rw[if_pos h];omega
 ·rw[if_neg h];omega
set_option maxRecDepth 100000 in
theorem tw(T:Tg H b k i j)(a0:nT j.cards):
  eF.C (some ⟨i.t,0,none⟩) H (λ_ s=>Tg s b {k with sp:=k.sp.lookCards j.old j.tgt j.cards} i j/\Fr (spB b) H s):=by
 refine HC.via λR hR=>eF.link ?_
 unfold eF.pt zY
 refine HC.mono (lu T.toTc) ?_
 rintro _ H1 ⟨rfl,rfl⟩
 refine⟨_,rfl,?_⟩
 rw[if_neg (by rw[T.on];decide)]
 obtain⟨al,am⟩:=T.tr.clen
 refine⟨_,rfl,_,_,_,by rw[addr_add_mk];exact T.tr.cAt,?_⟩
 refine⟨λaB s=>(0<=aB/\aB<=i.cN)/\Tg s b {k with sp:=k.sp.lookCards j.old j.tgt (j.cards.take aB.toNat)} i j/\Fr (spB b) H1 s,λaB _=>(i.cN-aB).toNat,⟨by omega,T,Fr.refl _ _⟩,?_⟩
 rintro aB H2 ⟨hi,t,f2⟩
 by_cases q:aB< (i.cN:Int)
 case neg=>
  rw[if_neg q]
  rw[List.take_of_length_le (by omega)]at t
  exact hR _ _ ⟨t,f2⟩
 rw[if_pos q]
 have p:aB.toNat<j.cards.length:=by omega
 obtain⟨ca,W,E⟩:=pR t.tr.cards p
 have Y:=a0 _ (List.getElem_mem p)
 generalize X:j.cards[aB.toNat]=a at*
 refine⟨ca,W,⟨hi.1,q⟩,a.1,a.2,E,λK H3 Q z=>?_⟩
 obtain⟨Z,hs⟩:=boxed (vs:=[vi a.1,vi a.2]) (H1:=H3) (aH Q z) rfl rfl
 refine⟨Z,λg N=>?_⟩
 obtain⟨D,M⟩:=hs g N
 have w:Ext H2 g:=M H2 (Ext.push' z) (by omega)
 have u:=t.grow w
 have ae: ∀aC,aC∈b.all\/aC∈i.all->aC≠K:=λaC hj=>by have:=t.lt hj;omega
 obtain⟨p1,p2,p3,p4⟩:=u.s1
 have e:hat g ⟨K,0,none⟩=some (vi a.1):=D.1
 have f:hat g ⟨K,1,none⟩=some (vi a.2):=D.2.1
 refine⟨_,p1,_,rfl,_,p2,_,rfl,_,p3,_,rfl,_,p4,_,e,?_⟩
 have l: ∀(r:zV),Ext g r->cQ.C (some ⟨i.t,0,none⟩) a.1 (IntKind.wrap .i64 (a.2*16)) (if(IntKind.wrap .i64 ((IntKind.wrap .i64 (a.2+1))*16))< ((k.sp.lookCards j.old j.tgt (j.cards.take aB.toNat)).mem.segOr a.1).n then(IntKind.wrap .i64 ((IntKind.wrap .i64 (a.2+1))*16))else((k.sp.lookCards j.old j.tgt (j.cards.take aB.toNat)).mem.segOr a.1).n) ((k.sp.lookCards j.old j.tgt (j.cards.take aB.toNat)).mem.segOr a.1).kind r
   (λ_ G=>((0<=IntKind.wrap .i64 (aB+1)/\IntKind.wrap .i64 (aB+1)<=i.cN)/\Tg G b {k with sp:=k.sp.lookCards j.old j.tgt (j.cards.take (IntKind.wrap .i64 (aB+1)).toNat)} i j/\Fr (spB b) H1 G)/\(i.cN-IntKind.wrap .i64 (aB+1)).toNat< (i.cN-aB).toNat):=by
  intro r I
  have T7:=u.grow I
  have F:=pS u.ok.mem a.1
  have au:((k.sp.lookCards j.old j.tgt (j.cards.take aB.toNat)).mem.segOr a.1).n<=64:=F.n.2
  rw[w64 (n:=a.2*16) (by omega),w64 (n:=a.2+1) (by omega),w64 (n:=(a.2+1)*16) (by omega),w64 (n:=aB+1) (by omega),vf]
  refine HC.mono (qK T7 Y.1 (by omega) (by omega)) ?_
  rintro _ G ⟨T8,f8⟩
  have L:Fr (spB b) H1 G:=f2.trans ((w.trans I).fr.trans f8)
  refine⟨⟨by omega,?_,L⟩,by omega⟩
  have et:j.cards.take (aB+1).toNat=j.cards.take aB.toNat++[a]:=by
   rw[show(aB+1).toNat=aB.toNat+1 by omega,List.take_succ_eq_append_getElem p,X]
  rw[et,Sp.lookCards_snoc]
  exact T8
 constructor
 ·refine HC.mono (gL u.hp.cd.sp.mem) ?_
  rintro _ H5 ⟨rfl,e5⟩
  refine⟨_,_,_,_,_,_,_,_,rfl,λc6 H6 S O=>?_⟩
  obtain⟨B,a1⟩:=jC ((k.sp.lookCards j.old j.tgt (j.cards.take aB.toNat)).mem.segOr a.1) S O
  refine⟨B,λr P=>?_⟩
  obtain⟨I,g0,g1,g2,_⟩:=a1 r P
  have d:=e5.trans I
  exact⟨_,d.hat e,_,by rw[addr_add_mk];exact d.hat f,_,by rw[addr_add_mk];exact g2,_,by rw[addr_add_mk];exact d.hat f,_,by rw[addr_add_mk];exact g1,l r d⟩
 ·intro c9 H9 U A
  have o:Ext g H9:=Ext.push' A
  simp only[aQ,and_true,addr_add_mk,Nat.add_zero]
  refine⟨o.hat p1,o.hat p2,o.hat p3,o.hat p4,o.hat e,?_⟩
  refine HC.mono (gL (u.grow o).hp.cd.sp.mem) ?_
  rintro _ J ⟨rfl,v⟩
  obtain⟨V,a2⟩:=boxed (vs:=[vi ((k.sp.lookCards j.old j.tgt (j.cards.take aB.toNat)).mem.segOr a.1).gen,vi ((k.sp.lookCards j.old j.tgt (j.cards.take aB.toNat)).mem.segOr a.1).kind,vi ((k.sp.lookCards j.old j.tgt (j.cards.take aB.toNat)).mem.segOr a.1).n,vi (((k.sp.lookCards j.old j.tgt (j.cards.take aB.toNat)).mem.segOr a.1).cards 0),vi (((k.sp.lookCards j.old j.tgt (j.cards.take aB.toNat)).mem.segOr a.1).cards 1),vi (((k.sp.lookCards j.old j.tgt (j.cards.take aB.toNat)).mem.segOr a.1).cards 2),vi (((k.sp.lookCards j.old j.tgt (j.cards.take aB.toNat)).mem.segOr a.1).cards 3)]) (H1:=J) (v.get (aH U A)) rfl rfl
  refine⟨_,_,_,_,_,_,_,_,rfl,V,λm y=>?_⟩
  obtain⟨h,x⟩:=a2 m y
  have c:Ext g m:=x g (o.trans v) (by omega)
  exact⟨_,c.hat e,_,c.hat f,_,h.2.2.1,_,c.hat f,_,h.2.1,l m c⟩
def seenAt(ks:List (Int×Value))(k:Int):Int:=match mget ks k with | some (.int .i64 n)=>n | _=>0
def jT(ks:List (Int×Value)):Prop:= ∀k v,mget ks k=some v-> ∃n:Int,v=vi n/\0<=n/\n<=64
theorem lw(h:jT r)(k:Int):(mget r k).getD (vi 0)=vi (seenAt r k)/\0<=seenAt r k/\seenAt r k<=64:=by
 unfold seenAt
 cases hm:mget r k with
 | none=>exact⟨rfl,by decide,by decide⟩
 | some v=>
  obtain⟨n,rfl,a,b⟩:=h k v hm
  exact⟨rfl,a,b⟩
theorem kO(c:List (Int×Value))(k a:Int)(v:Value):mget (mput c k v) a=if a=k then some v else mget c a:=by
 induction c with
 | nil=>
  simp only[mput,mget,List.find?_cons]
  by_cases h:a=k
  ·simp[h]
  ·simp[h]
 | cons p c d=>
  simp only[mput]
  by_cases h:k=p.1
  ·rw[if_pos h]
   simp only[mget,List.find?_cons]
   by_cases b:a=k
   ·simp[b]
   ·simp[b,<-h]
  ·rw[if_neg h]
   simp only[mget,List.find?_cons]at d⊢
   by_cases b:a=p.1
   ·subst b
    have: ¬p.1=k:=λe=>h e.symm
    simp[this]
   ·simp only[b,decide_false,Bool.false_eq_true]
    exact d
theorem nA(b:List (Int×Value))(k a n:Int):seenAt (mput b k (vi n)) a=if a=k then n else seenAt b a:=by
 unfold seenAt
 rw[kO]
 by_cases h:a=k
 ·rw[if_pos h,if_pos h]
 ·rw[if_neg h,if_neg h]
theorem jT.put(h:jT r)(hn:0<=u/\u<=64):jT (mput r d (vi u)):=by
 intro a v b
 rw[kO]at b
 by_cases c:a=d
 ·rw[if_pos c]at b;cases b;exact⟨u,rfl,hn⟩
 ·rw[if_neg c]at b;exact h a v b
def mu(ks:List (Int×Value)):Nat:=((List.range 1024).map λk:Nat=>(64-seenAt ks k).toNat).sum
theorem sum_lt: ∀(l:List Nat) (f g:Nat->Nat) (k:Nat),k∈l->(∀i∈l,f i<=g i)->f k<g k->(l.map f).sum< (l.map g).sum
 | [],_,_,_,h,_,_=>by cases h
 | a::l,f,g,k,h,hle,hlt=>by
  simp only[List.map_cons,List.sum_cons]
  have n:=hle a (by simp)
  have j: ∀c:List Nat,(∀i∈c,f i<=g i)->(c.map f).sum<=(c.map g).sum:=by
   intro c e
   induction c with
   | nil=>simp
   | cons b c m=>
    simp only[List.map_cons,List.sum_cons]
    have:=e b (by simp)
    have:=m (λi d=>e i (by simp[d]))
    omega
  rcases List.mem_cons.1 h with rfl | h
  ·have:=j l (λi d=>hle i (by simp[d]));omega
  ·have:=sum_lt l f g k h (λi d=>hle i (by simp[d])) hlt;omega
theorem xg{ks:List (Int×Value)}{k n:Int}(hk:0<=k/\k<1024)(h:seenAt ks k<n)(hn:n<=64):mu (mput ks k (vi n))<mu ks:=by
 unfold mu
 refine sum_lt _ _ _ k.toNat (by rw[List.mem_range];omega) (λi _=>?_) ?_
 ·rw[nA]
  by_cases e:(i:Int)=k
  ·rw[if_pos e,e];omega
  ·rw[if_neg e];exact Nat.le_refl _
 ·rw[nA,if_pos (by omega),show((k.toNat:Nat):Int)=k by omega];omega
inductive jQ (old:Nat->Bool) (T:Int) (s0:Sp) (k0:List (Int×Value)):Sp->List (Int×Value)->Prop
 | refl:jQ old T s0 k0 s0 k0
 | step {s:Sp} {ks:List (Int×Value)} (k:Int) (h:jQ old T s0 k0 s ks) (hk:s.mem.has k) (hg:(s.mem.seg k.toNat).gen=T) (ho:old k.toNat=false) (hn:seenAt ks k< (s.mem.seg k.toNat).n):
   jQ old T s0 k0 (s.look old T k (s.mem.seg k.toNat).kind (seenAt ks k) ((s.mem.seg k.toNat).n-seenAt ks k).toNat) (mput ks k (vi (s.mem.seg k.toNat).n))
def pi(old:Nat->Bool)(T:Int)(s:Sp)(ks:List (Int×Value)):Prop:= ∀k:Nat,s.mem.has k->(s.mem.seg k).gen=T->old k=false->(s.mem.seg k).n<=seenAt ks k
theorem jQ.trans{a b c:Sp}{e f:List (Int×Value)}(h:jQ z d a r b e)(k:jQ z d b e c f):jQ z d a r c f:=by
 induction k with
 | refl=>exact h
 | step k _ hk g i hn j=>exact .step k j hk g i hn
structure gV (m m':Mem):Prop where
 limit:m'.limit=m.limit
 seg: ∀k,(m.seg k).taken≠0->(m'.seg k).gen=(m.seg k).gen/\(m'.seg k).kind=(m.seg k).kind/\(m'.seg k).taken=(m.seg k).taken/\(m.seg k).n<=(m'.seg k).n
 cards: ∀k,(m.seg k).taken≠0->(m'.seg k).cards=(m.seg k).cards
theorem gV.refl(m:Mem):gV m m:=⟨rfl,λ_ _=>⟨rfl,rfl,rfl,Int.le_refl _⟩,λ_ _=>rfl⟩
theorem gV.trans{a b c:Mem}(h:gV a b)(k:gV b c):gV a c:=⟨k.limit.trans h.limit,λi d=>by
 obtain⟨f,g,e,j⟩:=h.seg i d
 obtain⟨l,m,n,o⟩:=k.seg i (by rw[e];exact d)
 exact⟨l.trans f,m.trans g,n.trans e,Int.le_trans j o⟩,λi d=>(k.cards i (by rw[(h.seg i d).2.2.1];exact d)).trans (h.cards i d)⟩
theorem bS.heads{m a:Mem}(h:bS m a):gV m a:=⟨h.limit,λk _=>⟨(h.seg k).1,(h.seg k).2.1,(h.seg k).2.2.2.1,by rw[(h.seg k).2.2.1];exact Int.le_refl _⟩,λk _=>(h.seg k).2.2.2.2⟩
theorem Grown.heads{m e:Mem}{a g k n:Int}(b:Grown m e a n g k)(hn:0<=n):gV m e:=⟨b.limit,λi d=>by
 by_cases c:i=(a / 64).toNat
 ·subst c
  obtain⟨l,o,p,s,t,q⟩:=b.old d
  obtain⟨r,f,h,j⟩:=b.new
  exact⟨f.trans l.symm,h.trans o.symm,q,by rw[j,p];omega⟩
 ·rw[b.others i c];exact⟨rfl,rfl,rfl,Int.le_refl _⟩,λi d=>by
 by_cases c:i=(a / 64).toNat
 ·subst c;exact(b.old d).2.2.2.2.1
 ·rw[b.others i c]⟩
theorem gV.has{a:Mem}(h:gV o a){k:Int}(hk:o.has k):a.has k:=⟨hk.1,by rw[h.limit];exact hk.2.1,by rw[(h.seg _ hk.2.2).2.2.1];exact hk.2.2⟩
theorem Sp.visit_heads(b:SpOK a)(g:a.mem.Even)(h:aG u):gV a.mem (a.visit z d u).1.mem:=by
 unfold Sp.visit
 split
 ·exact gV.refl _
 split
 ·exact gV.refl _
 split
 ·exact gV.refl _
 rename_i e
 split
 ·rename_i f
  obtain⟨_,c⟩:=Sp.alloc_ok b f
  have i:=Mem.size_used b.mem g h e
  exact((c.heads (by omega)).trans (bS.sets _ _ _).heads).trans (bS.set _ _ _).heads
 ·exact gV.refl _
theorem Sp.lookAt_heads(b:SpOK a)(c:a.mem.Even):gV a.mem (a.lookAt z d u).mem:=
 (Sp.visit_heads b c (Mem.read_word b.mem u)).trans (bS.wr _ _ _).heads
theorem Sp.visit_ok(b:SpOK a){old:Nat->Bool}{T w:Int}(p:aG w)(o:aV old w->True):SpOK (a.visit old T w).1:=by
 unfold Sp.visit
 split
 ·exact b
 split
 ·exact b
 split
 ·exact b
 split
 ·rename_i j
  obtain⟨d,g⟩:=Sp.alloc_ok b j
  have e:=b.mem.lim
  obtain⟨l,m,n⟩:=g.addr
  have c:=d.sets (a.alloc T (a.mem.kindOf w) (a.mem.sizeOf w)).2.1 (ws:=a.mem.row (w / 8) (a.mem.sizeOf w).toNat) (λv f=>by
   unfold Mem.row at f
   obtain⟨i,_,rfl⟩:=List.mem_map.1 f
   exact(b.mem.seg _).words _)
  exact c.withMem (c.mem.set (w / 8) ⟨by omega,by omega⟩) (λk h=>Mem.set_has.2 h) (λk=>⟨((bS.set _ _ _).seg k).1,((bS.set _ _ _).seg k).2.1⟩)
 ·exact b
theorem Sp.lookAt_ok(b:SpOK a){old:Nat->Bool}{T c:Int}:SpOK (a.lookAt old T c):=
 SpOK.wr (Sp.visit_ok b (Mem.read_word b.mem c) (λ_=>trivial)) c (Sp.visit_word b (Mem.read_word b.mem c))
theorem Sp.look_ok(f:SpOK a)(e:a.mem.Even){old:Nat->Bool}{T seg kind lo:Int}: ∀n,SpOK (a.look old T seg kind lo n)/\(a.look old T seg kind lo n).mem.Even/\gV a.mem (a.look old T seg kind lo n).mem
 | 0=>⟨f,e,gV.refl _⟩
 | n+1=>by
  obtain⟨b,c,d⟩:=Sp.look_ok f e (old:=old) (T:=T) (seg:=seg) (kind:=kind) (lo:=lo) n
  unfold Sp.look
  split
  ·exact⟨Sp.lookAt_ok b,Sp.lookAt_even b c _ _ _,d.trans (Sp.lookAt_heads b c)⟩
  ·exact⟨b,c,d⟩
theorem jQ.heads{old:Nat->Bool}{T:Int}{b:Sp}{m:List (Int×Value)}(h:jQ old T a r b m)(n:SpOK a)(f:a.mem.Even):SpOK b/\b.mem.Even/\gV a.mem b.mem:=by
 induction h with
 | refl=>exact⟨n,f,gV.refl _⟩
 | step k _ _ _ _ _ g=>
  obtain⟨c,d,e⟩:=g
  obtain⟨i,j,l⟩:=Sp.look_ok c d (old:=old) (T:=T) (seg:=k) (kind:=(_:Int)) (lo:=_) _
  exact⟨i,j,e.trans l⟩
theorem row1{H:zV}{c o:Nat}{v:Value}(h:hat H ⟨c,o,none⟩=some v):aQ H ⟨c,o,none⟩ 0 [v]:=⟨by rw[addr_add_mk];exact h,trivial⟩
theorem TrAt.putSeen{c:Array MapEntry}(h:TrAt H b i j)(t:Ents (bF .i64) c.toList r):TrAt (aO H i.s (.map c q)) b i {j with seen:=r}:=by
 have f:Fr [i.s] H (aO H i.s (.map c q)):=Fr.set
 have v:=h.lt i.s (by simp[TB.all])
 obtain⟨m,n,u⟩:=h.tr
 obtain⟨g,e,o,l⟩:=h.frm
 have w:=h.ne
 refine⟨⟨m,f.get (by simp;omega) n,u⟩,⟨g,e,f.get (by simp;omega) o,l⟩,⟨c,q,aY v,t⟩,?_,λa p=>Nat.lt_of_lt_of_le (h.cB a p) f.size,h.clen,h.ne⟩
 have d:=h.cards
 cases k:i.cB with
 | none=>rw[k]at d;exact d
 | some a=>
  rw[k]at d
  refine f.rowAt ?_ d
  have:=w.2.2.2 a.block (by rw[k];simp)
  simp;omega
theorem Tg.putSeen{a:Array MapEntry}(h:Tg H b k i j)(e:Ents (bF .i64) a.toList r)(d:A=aO H i.s (.map a q)):Tg A b k i {j with seen:=r}:=by
 subst d
 have f:Fr [i.s] H (aO H i.s (.map a q)):=Fr.set
 have hn:i.s ∉ b.all:=h.apart i.s (by simp[TB.all])
 exact⟨⟨h.hp.keep f (λg c=>by simp at c;rw[c];exact hn),h.ok,h.tr.putSeen e,h.apart⟩,h.even,h.cf,h.on⟩
structure RdT (H A:zV) (b:Blk) (x:Hp) (q:TB) (t:Tr) (B:zW) (c:Nat) (l:List Nat) (i:Nat) (sm:Bool) (s:Sp) (ks:List (Int×Value)):Prop where
 dr:jQ t.old t.tgt x.sp t.seen s ks
 tg:Tg A b {x with sp:=s} q {t with seen:=ks}
 ok:jT ks
 fr:Fr (q.s::spB b) H A
 own:Own A 3 1 B l.length c (ivs (l.map λi:Nat=>(i:Int)))
 no:sm=false->s=x.sp/\ks=t.seen/\ ∀j,j<i-> ∀h:j<l.length,t.old l[j]=true\/(x.sp.mem.seg l[j]).n<=seenAt t.seen l[j]
 yes:sm=true->mu ks<mu t.seen
set_option maxRecDepth 100000 in
theorem tx{x:Hp}(T:Tg H b x i j)(bH:jT j.seen)(cC:0<=j.tgt):
  eK.C (some ⟨i.t,0,none⟩) H (λv H'=> ∃(sm:Bool) (s:Sp) (ks:List (Int×Value)),v=.bool sm/\jQ j.old j.tgt x.sp j.seen s ks/\Tg H' b {x with sp:=s} i {j with seen:=ks}/\jT ks/\Fr (i.s::spB b) H H'/\(sm=false->pi j.old j.tgt s ks)/\(sm=true->mu ks<mu j.seen)):=by
 refine HC.via λR hR=>eK.link ?_
 unfold eK.pt zY
 obtain⟨p1,p2,p3,p4⟩:=T.s1
 refine⟨_,rfl,_,p1,_,rfl,_,p2,_,rfl,_,p3,_,rfl,_,p4,_,by rw[addr_add_mk];exact T.tr.tgtAt,?_⟩
 intro c1 H1 bn W
 have e1:Ext H H1:=Ext.push' W
 have g1:=aH bn W
 have s1:H1.size=H.size+1:=by rw[W];simp
 have T1:=T.grow e1
 refine⟨row1 (e1.hat p1),row1 (e1.hat p2),row1 (e1.hat p3),row1 (e1.hat p4),?_⟩
 refine HC.mono (jI (gs:=[j.tgt]) T1.hp.cd.sp.mem T1.ok.mem (show fB H1 (some ⟨c1,0,none⟩) (ivs [j.tgt])from row1 (by rw[aP g1];rfl)) rfl (by decide)) ?_
 rintro _ H2 ⟨B,c,l,rfl,hl,bw,br,e2⟩
 refine⟨_,_,_,rfl,?_⟩
 have ap:=e1.trans e2
 have T2:=T.grow ap
 have c8:=hl.len
 have c9:=T.ok.mem.lim
 have bi: ∀cO∈blks B,cO ∉ i.s::spB b:=λcO u h=>by
  have h1:=br cO u
  rcases List.mem_cons.1 h with rfl | h
  ·have:=T.lt (.inr (show i.s∈i.all by simp[TB.all]));omega
  ·have:=T.lt (.inl (kV h));omega
 refine⟨λsm cN A=>(0<=cN/\cN<=l.length)/\ ∃s ks,RdT H A b x i j B c l cN.toNat sm s ks,λ_ cN _=>(l.length-cN).toNat,
  ⟨⟨by omega,by omega⟩,x.sp,j.seen,⟨.refl,T2,bH,ap.fr,bw,λ_=>⟨rfl,rfl,λcO u=>by simp at u⟩,λh=>by cases h⟩⟩,?_⟩
 rintro sm cN H3 ⟨hi,s,ks,f⟩
 by_cases a1:cN< (l.length:Int)
 case neg=>
  rw[if_neg a1]
  refine hR _ _ ⟨sm,s,ks,rfl,f.dr,f.tg,f.ok,f.fr,λq=>?_,f.yes⟩
  obtain⟨rfl,rfl,ax⟩:=f.no q
  intro k hk hg ho
  have hm:k∈l:=by
   refine hl.perm.mem_iff.2 ?_
   unfold Mem.takenTo
   rw[List.mem_filter,List.mem_range]
   have b4:0< (x.sp.mem.seg k).taken:=by
    have h1:=(T.ok.mem.seg k).taken
    have V:=hk.2.2
    rw[show((k:Nat):Int).toNat=k by omega]at V
    omega
   refine⟨by have:=hk.2.1;omega,?_⟩
   have V:(x.sp.mem.seg k).gen∈[j.tgt]:=by rw[hg];simp
   rw[zX b4,zX V];simp
  obtain⟨cO,u,rfl⟩:=List.getElem_of_mem hm
  rcases ax cO (by omega) u with h | h
  ·rw[h]at ho;cases ho
  ·exact h
 rw[if_pos a1]
 have b1:cN.toNat<l.length:=by omega
 obtain⟨a,ha,ay⟩:=mL f.own b1
 obtain⟨bb,ce,cf,ba⟩:=hl.has (List.getElem_mem b1)
 generalize b2:l[cN.toNat]=k at*
 have a5:(x.sp.mem.seg k).gen=j.tgt:=by
  rcases ba with h | h
  ·cases h
  ·simpa using h
 refine⟨a,ha,⟨hi.1,a1⟩,(k:Int),ay,⟨by omega,by omega⟩,(if j.old k then 1 else 0),?_,?_⟩
 ·rw[show((k:Nat):Int).toNat=k by omega];rw[Nat.mul_one,addr_add_mk,addr_add_mk,Nat.zero_add];exact f.tg.tr.oldAt (k:=k) (by omega)
 have b9:IntKind.wrap .i64 (cN+1)=cN+1:=w64 (by omega)
 have cA:(cN+1).toNat=cN.toNat+1:=by omega
 have N:((l.length:Int)-(cN+1)).toNat< ((l.length:Int)-cN).toNat:=by omega
 by_cases ho:j.old k=true
 ·rw[if_pos (by rw[if_pos ho])]
  rw[b9]
  refine⟨⟨⟨by omega,by omega⟩,s,ks,f.dr,f.tg,f.ok,f.fr,f.own,λq=>?_,f.yes⟩,N⟩
  obtain⟨h1,V,h3⟩:=f.no q
  refine⟨h1,V,λcO u h=>?_⟩
  by_cases a0:cO=cN.toNat
  ·subst a0;left;rw[b2];exact ho
  ·exact h3 cO (by omega) h
 rw[if_neg (by rw[if_neg ho];decide)]
 have bu:j.old k=false:=by simpa using ho
 obtain⟨p1,p2,p3,p4⟩:=f.tg.s1
 refine⟨_,p1,_,rfl,_,p2,_,rfl,_,p3,_,rfl,_,p4,?_⟩
 refine HC.mono (gL f.tg.hp.cd.sp.mem) ?_
 rintro _ H4 ⟨rfl,e4⟩
 refine⟨_,_,_,_,_,_,_,_,rfl,λc5 H5 bo bl=>?_⟩
 obtain⟨bp,hs⟩:=jC (s.mem.segOr k) bo bl
 refine⟨bp,λH6 bm=>?_⟩
 obtain⟨e6,_,_,_,bz⟩:=hs H6 bm
 have G:=e4.trans e6
 have bg:H3.size<=c5:=by have:=e4.size;omega
 have cs: ∀cO∈blks B,cO<H3.size:=f.own.lt
 have aB: ∀cO,cO∈b.all\/cO∈i.all->cO<H.size:=λcO u=>T.lt u
 have ct:H.size<=H3.size:=f.fr.size
 refine⟨λbM o A=> ∃(w:Nat) (g:Sp) (r:List (Int×Value)),o=some ⟨w,0,none⟩/\H3.size<=w/\aQ A ⟨w,0,none⟩ 0 [vi (g.mem.segOr k).gen,vi (g.mem.segOr k).kind,vi (g.mem.segOr k).n,vi ((g.mem.segOr k).cards 0),vi ((g.mem.segOr k).cards 1),vi ((g.mem.segOr k).cards 2),vi ((g.mem.segOr k).cards 3)]/\RdT H A b x i j B c l cN.toNat bM g r/\H3.size<=A.size,
  λ_ _ A=>mu (match A[i.s]? with | some (.map I _)=>I.toList.map (λe=>((match e.key with | .int _ n=>n | _=>0),e.val)) | _=> []),?_,?_⟩
 ·exact⟨c5,s,ks,rfl,bg,bz,⟨f.dr,f.tg.grow G,f.ok,f.fr.trans G.fr,f.own.ext G,f.no,f.yes⟩,G.size⟩
 rintro bN o H7 ⟨w,g,r,rfl,cw,b6,d,cB⟩
 have P: ∀{A:zV} {bc:Sp} {m:List (Int×Value)},Tg A b {x with sp:=bc} i {j with seen:=m}->(match A[i.s]? with | some (.map I _)=>I.toList.map (λe=>((match e.key with | .int _ n=>n | _=>0),e.val)) | _=> [])=m:=by
  intro A bc m tg
  obtain⟨I,cl,h1,V⟩:=tg.tr.seen
  rw[h1]
  show I.toList.map _=m
  have h3:=congrArg (List.map (λp:Value×Value=>((match p.1 with | .int _ n=>n | _=>0),p.2))) V
  simp only[List.map_map]at h3
  refine Eq.trans ?_ (h3.trans ?_)
  ·rfl
  ·show List.map _ m=m
   conv=>rhs;rw[<-List.map_id m]
   rfl
 obtain⟨I,cl,Y,X⟩:=d.tg.tr.seen
 obtain⟨O,bB,b8⟩:=lw d.ok (k:Int)
 obtain⟨bI,cq,aZ⟩:=d.dr.heads T.ok T.even
 have D:g.mem.has (k:Int):=aZ.has bb
 have Q:g.mem.segOr k=g.mem.seg k:=by unfold Mem.segOr;rw[if_pos D,show((k:Nat):Int).toNat=k by omega]
 have b3:(x.sp.mem.seg k).taken≠0:=by omega
 have Z:(g.mem.seg k).gen=j.tgt:=((aZ.seg k b3).1).trans a5
 have a3:=(bI.mem.seg k).n
 have hN:hat H7 ⟨w,2,none⟩=some (vi (g.mem.seg k).n):=by rw[<-Q];exact b6.2.2.1
 refine⟨_,d.tg.tr.sAt,_,rfl,I,cl,_,Y,X,_,O,_,rfl,_,hN,?_⟩
 by_cases K:seenAt r k< (g.mem.seg k).n
 case neg=>
  rw[if_neg K,b9]
  refine⟨⟨⟨by omega,by omega⟩,g,r,d.dr,d.tg,d.ok,d.fr,d.own,λq=>?_,d.yes⟩,N⟩
  obtain⟨rfl,rfl,h3⟩:=d.no q
  refine⟨rfl,rfl,λcO u h=>?_⟩
  by_cases a0:cO=cN.toNat
  ·subst a0;right;rw[b2];omega
  ·exact h3 cO (by omega) h
 rw[if_pos K]
 refine⟨_,d.tg.tr.sAt,_,rfl,I,cl,_,Y,X,_,O,_,d.tg.tr.sAt,_,hN,_,rfl,I,cl,_,Y,X,?_⟩
 intro cp cm H8 aw b0
 have T8:=d.tg.putSeen b0 aw
 have f8:Fr [i.s] H7 H8:=by rw[aw];exact Fr.set
 have ak:w ∉ i.s::spB b:=λh=>by
  rcases List.mem_cons.1 h with h | h
  ·have:=aB i.s (.inr (by simp[TB.all]));omega
  ·have:=aB w (.inl (kV h));omega
 have al:w ∉ [i.s]:=λh=>ak (by simp at h;simp[h])
 have am:w ∉ spB b:=λh=>ak (List.mem_cons_of_mem _ h)
 have b7:=f8.rowAt (a:=⟨w,0,none⟩) al b6
 have E:=b7
 simp only[aQ,and_true,addr_add_mk,Nat.zero_add]at E
 refine⟨_,E.2.2.1,_,E.2.1,?_⟩
 rw[Q]
 refine HC.mono (qK T8 ⟨by omega,by omega⟩ ⟨bB,b8⟩ a3.2) ?_
 rintro _ H9 ⟨T9,f9⟩
 have bA:=f9.rowAt (a:=⟨w,0,none⟩) am b7
 refine⟨_,_,_,_,_,_,_,bA,?_⟩
 intro an ae M y
 obtain⟨aC,bE⟩:=boxed (vs:=[vi (g.mem.segOr k).gen,vi (g.mem.segOr k).kind,vi (g.mem.segOr k).n,vi ((g.mem.segOr k).cards 0),vi ((g.mem.segOr k).cards 1),vi ((g.mem.segOr k).cards 2),vi ((g.mem.segOr k).cards 3)]) (H1:=ae) (aH M y) rfl rfl
 refine⟨aC,λU z=>?_⟩
 have t:=aH M y
 obtain⟨cc,bj⟩:=bE U z
 have ao:Ext H9 U:=bj H9 (Ext.push' y) (by omega)
 have ai:=T9.grow ao
 obtain⟨p1,p2,p3,p4⟩:=ai.s1
 refine⟨_,p1,_,rfl,_,p2,_,rfl,_,p3,_,rfl,_,p4,?_⟩
 refine HC.mono (gL ai.hp.cd.sp.mem) ?_
 rintro _ be ⟨rfl,L⟩
 have az: ∃cP:Array Value,U[an]?=some (.cells cP 89 (0,0))/\cP.size=7:=by
  rw[cH _ ae _ 0 0 t]at z
  rw[z]
  exact⟨_,aY (aW t),by rw[splice_size];rfl⟩
 obtain⟨cP,bq,aT⟩:=az
 generalize bC:g.look j.old j.tgt k (g.mem.seg k).kind (seenAt r k) ((g.mem.seg k).n-seenAt r k).toNat=S at*
 obtain⟨aN,bG⟩:=boxed (vs:=[vi (S.mem.segOr k).gen,vi (S.mem.segOr k).kind,vi (S.mem.segOr k).n,vi ((S.mem.segOr k).cards 0),vi ((S.mem.segOr k).cards 1),vi ((S.mem.segOr k).cards 2),vi ((S.mem.segOr k).cards 3)]) (H1:=be) (L.get bq) aT rfl
 refine⟨_,_,_,_,_,_,_,_,rfl,aN,λaf av=>?_⟩
 obtain⟨b5,bk⟩:=bG af av
 have F:Ext H9 af:=bk H9 (ao.trans L) (by omega)
 have aj:=T9.grow F
 have a2:=xg (ks:=r) (k:=k) ⟨by omega,by omega⟩ K a3.2
 have J:Fr (i.s::spB b) H7 H9:=(f8.mono (λcO u _=>by simp at u;simp[u])).trans (f9.mono (λcO u _=>List.mem_cons_of_mem _ u))
 have dr:=jQ.step (k:Int) d.dr D (by rw[show((k:Nat):Int).toNat=k by omega];exact Z) (by rw[show((k:Nat):Int).toNat=k by omega];exact bu) (by rw[show((k:Nat):Int).toNat=k by omega];exact K)
 rw[show((k:Nat):Int).toNat=k by omega,bC]at dr
 refine⟨⟨an,S,_,rfl,?_,b5,⟨dr,aj,d.ok.put a3,d.fr.trans (J.trans F.fr),?_,(λh=>by cases h),λ_=>?_⟩,?_⟩,?_⟩
 ·have:=J.size;omega
 ·exact(d.own.keep J bi).ext F
 ·by_cases q:bN=true
  ·exact Nat.lt_trans a2 (d.yes q)
  ·have:=(d.no (by simpa using q)).2.1
   rw[<-this];exact a2
 ·have:=J.size;have:=F.size;omega
 ·show mu _<mu _
  rw[P aj,P d.tg];exact a2
set_option maxRecDepth 100000 in
theorem tz(T:Tg H b k i j)(v:jT j.seen)(w:0<=j.tgt):
  dH.C (some ⟨i.t,0,none⟩) H (λ_ y=> ∃(s:Sp) (d:List (Int×Value)),jQ j.old j.tgt k.sp j.seen s d/\pi j.old j.tgt s d/\Tg y b {k with sp:=s} i {j with seen:=d}/\jT d/\Fr (i.s::spB b) H y):=by
 refine HC.via λR J=>dH.link ?_
 unfold dH.pt
 have f: ∀{A:zV} {o:Sp} {a:List (Int×Value)},Tg A b {k with sp:=o} i {j with seen:=a}->(match A[i.s]? with | some (.map h _)=>h.toList.map (λe=>((match e.key with | .int _ n=>n | _=>0),e.val)) | _=> [])=a:=by
  intro A o a L
  obtain⟨h,P,G,I⟩:=L.tr.seen
  rw[G]
  show h.toList.map _=a
  have E:=congrArg (List.map (λp:Value×Value=>((match p.1 with | .int _ n=>n | _=>0),p.2))) I
  simp only[List.map_map]at E
  refine Eq.trans ?_ (E.trans ?_)
  ·rfl
  ·show List.map _ a=a
   conv=>rhs;rw[<-List.map_id a]
   rfl
 refine⟨λA=> ∃s d,jQ j.old j.tgt k.sp j.seen s d/\Tg A b {k with sp:=s} i {j with seen:=d}/\jT d/\Fr (i.s::spB b) H A,
  λA=>mu (match A[i.s]? with | some (.map h _)=>h.toList.map (λe=>((match e.key with | .int _ n=>n | _=>0),e.val)) | _=> []),⟨_,_,.refl,T,v,Fr.refl _ _⟩,?_⟩
 rintro M ⟨s,d,z,r,x,B⟩
 refine HC.mono (lu r.toTc) ?_
 rintro _ N ⟨rfl,rfl⟩
 refine⟨_,rfl,?_⟩
 rw[if_neg (show ¬j.over=true by rw[T.on];decide)]
 refine HC.mono (tx r x w) ?_
 rintro _ O ⟨K,F,m,rfl,g,t,q,D,u,l⟩
 refine⟨_,rfl,?_⟩
 by_cases c:K=true
 ·rw[if_pos c]
  refine⟨⟨F,m,z.trans g,t,q,B.trans D⟩,?_⟩
  show mu _<mu _
  rw[f t,f r];exact l c
 ·rw[if_neg c]
  exact J _ _ ⟨F,m,z.trans g,u (by simpa using c),t,q,B.trans D⟩
theorem tA(h:cX H q v o):iM.C (some ⟨q,0,none⟩) H (λc a=>c=vi o.free/\a=H):=by
 refine HC.via λR b=>iM.link ?_
 unfold iM.pt
 rw[onPtr_some]
 exact⟨_,by rw[addr_add_mk];exact h.freeAt,b _ _ ⟨rfl,rfl⟩⟩
def Sp.zap(s:Sp)(P:Nat->Prop) [DecidablePred P]:Sp:={s with cur:=λi j=>if P i then 0 else s.cur i j}
theorem SpAt.alike{c:Sp}(h:SpAt H b a)(hm:c.mem=a.mem)(m: ∀g k,g<5->k<4->c.cur g k=a.cur g k):SpAt H b c:=by
 obtain⟨e,f,i,j,l⟩:=h.sp
 exact⟨by rw[hm];exact h.mem,h.ne,e,f,i,j,λg k d hk=>by rw[m g k d hk];exact l g k d hk⟩
theorem SpAt.put4(h:SpAt H b a){g:Nat}(p:g<5):
  aK H ⟨b.sp,1+g*4,none⟩ 0 4/\SpAt (aR H ⟨b.sp,1+g*4,none⟩ [vi 0,vi 0,vi 0,vi 0] 0) b (a.zap (· =g))/\Fr [b.sp] H (aR H ⟨b.sp,1+g*4,none⟩ [vi 0,vi 0,vi 0,vi 0] 0):=by
 obtain⟨d,c,o,f,k⟩:=h.sp
 refine⟨cW c _ _ _ (by omega),?_⟩
 rw[cH _ H d _ 0 c]
 refine⟨⟨h.mem.keep (S:=[b.sp]) Fr.set (by have:=h.ne;simp;omega) (by have:=h.ne;simp;omega),h.ne,_,aY (aW c),by rw[splice_size];exact o,?_,λi j l m=>?_⟩,Fr.set⟩
 ·rw[dU _ _ _ _ (by omega)];exact f
 ·simp only[Sp.zap]
  by_cases e:i=g
  ·rw[if_pos e,e]
   have:=fF d [vi 0,vi 0,vi 0,vi 0] (1+g*4+0) j (by simp;omega) (by simp;omega)
   rw[show 1+g*4+j=1+g*4+0+j by omega,this]
   rcases(show j=0\/j=1\/j=2\/j=3 by omega)with rfl | rfl | rfl | rfl<;>rfl
  ·rw[if_neg e,<-k i j l m]
   rcases Nat.lt_or_ge i g with n | n
   ·exact dU _ _ _ _ (by omega)
   ·exact gW _ _ _ _ (by simp;omega)
def Sp.fresh(s:Sp)(gs:List Int):Sp:=s.zap (λi=>gs=[]\/(i:Int)∈gs)
theorem Sp.zap_ok(b:SpOK a)(P:Nat->Prop) [DecidablePred P]:SpOK (a.zap P):=⟨b.mem,λg k=>by
 simp only[Sp.zap]
 split
 ·exact .inl rfl
 ·exact b.cur g k⟩
theorem kH{α:Type}{p q:Prop} [Decidable p] [Decidable q] (h:p ↔ q)(x y:α):(if p then x else y)=if q then x else y:=by
 by_cases a:p
 ·rw[if_pos a,if_pos (h.1 a)]
 ·rw[if_neg a,if_neg (λb=>a (h.2 b))]
theorem SpAt.zapTo{P Q:Nat->Prop} [DecidablePred P] [DecidablePred Q] (h:SpAt H b (a.zap P))(e: ∀i,i<5->(P i ↔ Q i)):SpAt H b (a.zap Q):=h.alike rfl (λi k c _=>by
 simp only[Sp.zap]
 exact kH (e i c).symm _ _)
theorem SpAt.zapMore{P R Q:Nat->Prop} [DecidablePred P] [DecidablePred R] [DecidablePred Q] (h:SpAt H b ((a.zap P).zap R))(e: ∀i,i<5->(P i\/R i ↔ Q i)):SpAt H b (a.zap Q):=h.alike rfl (λi k d _=>by
 simp only[Sp.zap]
 by_cases c:R i
 ·rw[if_pos c,if_pos ((e i d).1 (.inr c))]
 ·rw[if_neg c]
  exact kH ⟨λg=>((e i d).2 g).resolve_right c,λf=>(e i d).1 (.inl f)⟩ _ _)
set_option maxRecDepth 100000 in
theorem qr{r:zW}{c:List Int}(h:SpAt H b a)(O:fB H r (ivs c))(E:q=c.length)(U:q<=1000)(D: ∀i∈blks r,i≠b.sp):
  eJ.C (some ⟨b.sp,0,none⟩) r q v H (λ_ K=>SpAt K b (a.fresh c)/\Fr [b.sp] H K):=by
 refine HC.via λR S=>eJ.link ?_
 unfold eJ.pt zY
 rw[onPtr_some]
 subst E
 have s:SpAt H b (a.zap λi=>(i:Int)<0/\(c=[]\/(i:Int)∈c)):=h.alike rfl (λg k _ _=>by simp only[Sp.zap];rw[if_neg (by omega)])
 refine⟨λg A=>(0<=g/\g<=5)/\SpAt A b (a.zap λi=>(i:Int)<g/\(c=[]\/(i:Int)∈c))/\Fr [b.sp] H A,λg _=>(5-g).toNat,⟨by omega,s,Fr.refl _ _⟩,?_⟩
 rintro g W ⟨e,M,L⟩
 by_cases d:g<5
 case neg=>
  rw[if_neg d]
  exact S _ _ ⟨M.zapTo (λi B=>⟨λZ=>Z.2,λZ=>⟨by omega,Z⟩⟩),L⟩
 rw[if_pos d]
 have P:IntKind.wrap .i64 (g+1)=g+1:=w64 (by omega)
 have N:(5-(g+1)).toNat< (5-g).toNat:=by omega
 have J: ∀{A:zV},Fr [b.sp] H A->fB A r (ivs c):=λ{A} f=>by
  cases r with
  | none=>exact O
  | some Y=>exact f.rowAt (by have:=D Y.block (by simp);simp;exact this) O
 refine⟨λj A=>(0<=j/\j<=c.length)/\SpAt A b (a.zap λi=>(i:Int)<g/\(c=[]\/(i:Int)∈c)\/(i:Int)=g/\g∈c.take j.toNat)/\Fr [b.sp] H A,λj _=>(c.length-j).toNat,⟨by omega,M.zapTo (λi _=>⟨λZ=> .inl Z,λZ=>by
  rcases Z with Z | Z
  ·exact Z
  ·simp at Z⟩),L⟩,?_⟩
 rintro j X ⟨V,t,p⟩
 by_cases n:j< (c.length:Int)
 ·rw[if_pos n]
  have y:j.toNat<c.length:=by omega
  obtain⟨Y,T,hat⟩:=nS (J p) y
  have I:IntKind.wrap .i64 (j+1)=j+1:=w64 (by omega)
  have u:((c.length:Int)-(j+1)).toNat< ((c.length:Int)-j).toNat:=by omega
  have G:c.take (j+1).toNat=c.take j.toNat++[c[j.toNat]]:=by rw[show(j+1).toNat=j.toNat+1 by omega,List.take_succ_eq_append_getElem y]
  refine⟨Y,T,⟨V.1,n⟩,_,hat,?_⟩
  rw[I]
  by_cases z:c[j.toNat]=g
  ·rw[if_pos z]
   have o:=t.put4 (g:=g.toNat) (by omega)
   rw[addr_add_mk,addr_add_mk,Nat.zero_add]
   refine⟨⟨e.1,d⟩,o.1,λQ l=>?_⟩
   subst l
   refine⟨⟨by omega,o.2.1.zapMore (λi B=>⟨λZ=>?_,λZ=>?_⟩),p.trans o.2.2⟩,u⟩
   ·rcases Z with(Z | Z) | Z
    ·exact .inl Z
    ·exact .inr ⟨Z.1,by rw[G];exact List.mem_append_left _ Z.2⟩
    ·exact .inr ⟨by omega,by rw[G,z];simp⟩
   ·rcases Z with Z | Z
    ·exact .inl (.inl Z)
    ·exact .inr (by omega)
  ·rw[if_neg z]
   have hm:g∈c.take (j+1).toNat ↔ g∈c.take j.toNat:=by
    rw[G,List.mem_append]
    exact⟨λZ=>Z.elim id (λZ=>absurd (by simpa using Z:g=c[j.toNat]).symm z),.inl⟩
   exact⟨⟨by omega,t.zapTo (λi B=>by rw[hm]),p⟩,u⟩
 ·rw[if_neg n]
  rw[List.take_of_length_le (by omega)]at t
  by_cases s:(c.length:Int)=0
  ·rw[if_pos s]
   have w:c=[]:=List.length_eq_zero_iff.1 (by omega)
   have o:=t.put4 (g:=g.toNat) (by omega)
   rw[addr_add_mk,addr_add_mk,Nat.zero_add]
   refine⟨⟨e.1,d⟩,o.1,λQ l=>?_⟩
   subst l
   rw[P]
   refine⟨⟨by omega,o.2.1.zapMore (λi B=>⟨λZ=>?_,λZ=>?_⟩),p.trans o.2.2⟩,N⟩
   ·rcases Z with(Z | Z) | Z
    ·exact⟨by omega,Z.2⟩
    ·exact⟨by omega,.inl w⟩
    ·exact⟨by omega,.inl w⟩
   ·by_cases m:(i:Int)<g
    ·exact .inl (.inl ⟨m,Z.2⟩)
    ·exact .inr (by omega)
  ·rw[if_neg s,P]
   have F:c≠[]:=λh=>s (by rw[h];rfl)
   refine⟨⟨by omega,t.zapTo (λi B=>⟨λZ=>?_,λZ=>?_⟩),p⟩,N⟩
   ·rcases Z with Z | Z
    ·exact⟨by omega,Z.2⟩
    ·exact⟨by omega,.inr (by rw[Z.1];exact Z.2)⟩
   ·by_cases m:(i:Int)<g
    ·exact .inl ⟨m,Z.2⟩
    ·have x:(i:Int)=g:=by omega
     refine .inr ⟨x,?_⟩
     rcases Z.2 with Z | Z
     ·exact absurd Z F
     ·rw[<-x];exact Z
def Mem.dirtyAt(m:Mem)(g:Int)(k n:Nat):List (Int×Int):=((List.range n).filter λi=>decide (g< (m.seg k).gen/\(m.seg k).cards i<=g)).map λi:Nat=>((k:Int),(i:Int))
def Mem.dirtyOf(m:Mem)(g:Int)(l:List Nat):List (Int×Int):=l.flatMap λk=>m.dirtyAt g k 4
theorem Mem.dirtyAt_len(m:Mem)(g:Int)(k n:Nat):(m.dirtyAt g k n).length<=n:=by
 unfold Mem.dirtyAt;rw[List.length_map];exact Nat.le_trans (List.length_filter_le _ _) (by simp)
theorem Mem.dirtyOf_len(m:Mem)(g:Int): ∀l:List Nat,(m.dirtyOf g l).length<=4*l.length
 | []=>by simp[Mem.dirtyOf]
 | k::l=>by
  have a:=m.dirtyAt_len g k 4
  have b:=m.dirtyOf_len g l
  unfold Mem.dirtyOf at*
  rw[List.flatMap_cons,List.length_append,List.length_cons];omega
theorem Mem.dirtyAt_succ(m:Mem)(g:Int)(k n:Nat):m.dirtyAt g k (n+1)=m.dirtyAt g k n++(if g< (m.seg k).gen/\(m.seg k).cards n<=g then[((k:Int),(n:Int))]else[]):=by
 unfold Mem.dirtyAt
 rw[List.range_succ,List.filter_append,List.map_append]
 congr 1
 by_cases h:g< (m.seg k).gen/\(m.seg k).cards n<=g
 ·rw[if_pos h];simp[h]
 ·rw[if_neg h];simp at h⊢;exact h
theorem Mem.mem_dirty{l:List Nat}{c:Int×Int}:c∈o.dirtyOf d l ↔ ∃k∈l,∃i:Nat,i<4/\c=((k:Int),(i:Int))/\d< (o.seg k).gen/\(o.seg k).cards i<=d:=by
 unfold Mem.dirtyOf Mem.dirtyAt
 simp only[List.mem_flatMap,List.mem_map,List.mem_filter,List.mem_range,decide_eq_true_eq]
 constructor
 ·rintro⟨k,hk,i,⟨e,a,b⟩,rfl⟩;exact⟨k,hk,i,e,rfl,a,b⟩
 ·rintro⟨k,hk,i,e,rfl,a,b⟩;exact⟨k,hk,i,⟨e,a,b⟩,rfl⟩
theorem ov(a c:List (Int×Int)):eY (a++c)=eY a++eY c:=by unfold eY;rw[List.flatMap_append]
set_option maxRecDepth 100000 in
theorem rt(h:CdAt H b a)(ok:SpOK a):
  eV.C (some ⟨b.c,0,none⟩) d H (λv H'=> ∃(B:zW) (n c:Nat) (l:List Nat),v=vs B n c/\dK a.mem [] l/\n=(a.mem.dirtyOf d l).length/\Own H' 149 2 B n c (eY (a.mem.dirtyOf d l))/\(∀i∈blks B,H.size<=i)/\Ext H H'):=by
 refine HC.via λR hR=>eV.link ?_
 unfold eV.pt zY
 refine HC.mono (lM h) ?_
 rintro _ H1 ⟨rfl,rfl⟩
 refine⟨_,rfl,?_⟩
 rw[if_neg (by decide)]
 refine⟨_,rfl,_,h.cPtr,_,rfl,_,h.sp.memPtr,?_⟩
 refine HC.mono (jI (gs:=[]) h.sp.mem ok.mem (show fB H1 none (ivs [])from rfl) rfl (by decide)) ?_
 rintro _ N ⟨B0,c0,l,rfl,hl,K,ag,U⟩
 refine⟨_,_,_,rfl,?_⟩
 have ah:=hl.len
 have ai:=ok.mem.lim
 refine⟨λB n c i A=>(0<=i/\i<=l.length)/\n=(a.mem.dirtyOf d (l.take i.toNat)).length/\Own A 149 2 B n c (eY (a.mem.dirtyOf d (l.take i.toNat)))/\(∀j∈blks B,N.size<=j)/\Ext N A,λ_ _ _ i _=>(l.length-i).toNat,
  ⟨by omega,rfl,iY,by simp,Ext.refl _⟩,?_⟩
 rintro B n c i H3 ⟨hi,rfl,t,I,O⟩
 by_cases y:i< (l.length:Int)
 case neg=>
  rw[if_neg y]
  rw[List.take_of_length_le (by omega)]at t⊢
  exact hR _ _ ⟨B,_,c,l,rfl,hl,rfl,t,λj p=>by have:=I j p;have:=U.size;omega,U.trans O⟩
 rw[if_pos y]
 have w:i.toNat<l.length:=by omega
 obtain⟨ba,ha,F⟩:=mL (K.ext O) w
 obtain⟨M,aj,ak,_⟩:=hl.has (List.getElem_mem w)
 have ht:l.take (i+1).toNat=l.take i.toNat++[l[i.toNat]]:=by rw[show(i+1).toNat=i.toNat+1 by omega,List.take_succ_eq_append_getElem w]
 generalize hk:l[i.toNat]=k at*
 have V:=h.ext (U.trans O)
 have ld:=a.mem.dirtyOf_len d (l.take i.toNat)
 have ll:(l.take i.toNat).length<=1024:=by rw[List.length_take];omega
 refine⟨ba,ha,⟨hi.1,y⟩,(k:Int),F,_,V.cPtr,_,rfl,_,V.sp.memPtr,?_⟩
 refine HC.mono (gL V.sp.mem) ?_
 rintro _ H4 ⟨rfl,e4⟩
 have a8:a.mem.segOr k=a.mem.seg k:=by unfold Mem.segOr;rw[if_pos M,show((k:Nat):Int).toNat=k by omega]
 rw[a8]
 refine⟨_,_,_,_,_,_,_,_,rfl,λz H5 Y W=>?_⟩
 obtain⟨a1,hs⟩:=jC (a.mem.seg k) Y W
 refine⟨a1,λH6 X=>?_⟩
 obtain⟨e6,a3,_,_,a7⟩:=hs H6 X
 have o:=a7
 simp only[aQ,and_true,addr_add_mk,Nat.zero_add]at o
 refine⟨(a.mem.seg k).cards 0,(a.mem.seg k).cards 1,(a.mem.seg k).cards 2,(a.mem.seg k).cards 3,?_,?_⟩
 ·rw[addr_add_mk]
  refine⟨?_,?_,?_,?_,trivial⟩<;>rw[addr_add_mk]
  ·exact o.2.2.2.1
  ·exact o.2.2.2.2.1
  ·exact o.2.2.2.2.2.1
  ·exact o.2.2.2.2.2.2
 have D:=e4.trans e6
 have au:H3.size<=z:=by have:=e4.size;omega
 have hw:IntKind.wrap .i64 (i+1)=i+1:=w64 (by omega)
 have a2:((l.length:Int)-(i+1)).toNat< ((l.length:Int)-i).toNat:=by omega
 refine⟨λS n' c' j A=>(0<=j/\j<=4)/\n'=(a.mem.dirtyOf d (l.take i.toNat)++a.mem.dirtyAt d k j.toNat).length/\Own A 149 2 S n' c' (eY (a.mem.dirtyOf d (l.take i.toNat)++a.mem.dirtyAt d k j.toNat))/\(∀j∈blks S,N.size<=j/\j≠z)/\Ext N A/\hat A ⟨z,0,none⟩=some (vi (a.mem.seg k).gen),λ_ _ _ j _=>(4-j).toNat,
  ⟨by omega,by simp[Mem.dirtyAt],by simpa[Mem.dirtyAt]using t.ext D,λj p=>⟨I j p,by have:=t.lt j p;omega⟩,O.trans D,a3⟩,?_⟩
 rintro S n' c' j T ⟨p,rfl,m,g,P,r⟩
 by_cases x:j<4
 case neg=>
  rw[if_neg x,hw]
  have a4:j.toNat=4:=by omega
  rw[a4]at m⊢
  have u:a.mem.dirtyOf d (l.take (i+1).toNat)=a.mem.dirtyOf d (l.take i.toNat)++a.mem.dirtyAt d k 4:=by
   rw[ht];unfold Mem.dirtyOf;rw[List.flatMap_append];simp
  refine⟨⟨by omega,by rw[u],by rw[u];exact m,λj p=>(g j p).1,P⟩,a2⟩
 rw[if_pos x]
 have a0: ∃q:Nat,j=q/\q<4:=⟨j.toNat,by omega,by omega⟩
 obtain⟨e,rfl,aB⟩:=a0
 have a9:IntKind.wrap .i64 ((e:Int)+1)=(e:Int)+1:=w64 (by omega)
 have f:((e:Int)+1).toNat=e+1:=by omega
 refine⟨(a.mem.seg k).cards e,⟨⟨by omega,x⟩,?_⟩,_,r,?_⟩
 ·rcases(show e=0\/e=1\/e=2\/e=3 by omega)with rfl | rfl | rfl | rfl<;>rfl
 rw[a9]
 have J:((e:Int)).toNat=e:=by omega
 rw[J]at m
 rw[J]
 have ay:=a.mem.dirtyAt_len d k e
 have G:(4-((e:Int)+1)).toNat< (4-(e:Int)).toNat:=by omega
 by_cases u:d< (a.mem.seg k).gen/\(a.mem.seg k).cards e<=d
 ·rw[if_pos (by simp;exact⟨u.1,u.2⟩)]
  intro c8 H8 Z E
  have Q:Ext T H8:=Ext.push' E
  refine dD (ys:=[vi (k:Int),vi (e:Int)]) (m.ext Q) (dV (aH Z E) _ 0 0 (λj p=>by
   simp only[List.length_cons,List.length_nil]at p
   rcases(show j=0\/j=1 by omega)with rfl | rfl<;>rfl)) rfl rfl rfl (by rw[List.length_append];omega) ?_
  intro p' c9 H9 L f9 a6
  have s:a.mem.dirtyAt d k (e+1)=a.mem.dirtyAt d k e++[((k:Int),(e:Int))]:=by rw[Mem.dirtyAt_succ,if_pos u]
  refine⟨⟨by omega,by rw[f,s];simp;omega,?_,λj p=>?_,(P.trans Q).fr_trans f9 (λj p=>(g j p).1),f9.hat (λhm=>(g _ hm).2 rfl) (Q.hat r)⟩,G⟩
  ·rw[f,s,<-List.append_assoc,ov];exact L
  ·rcases a6 j p with q | q
   ·exact g j q
   ·have:=P.size;have:=Q.size
    have h5:z<T.size:=by
     unfold Go.Proofs.YtojbbgcjiaphjaaGreat.hat at r
     rcases Nat.lt_or_ge z T.size with h | h
     ·exact h
     ·simp[Array.getElem?_eq_none h]at r
    exact⟨by omega,by omega⟩
 ·rw[if_neg (by simpa using u)]
  have s:a.mem.dirtyAt d k (e+1)=a.mem.dirtyAt d k e:=by rw[Mem.dirtyAt_succ,if_neg u,List.append_nil]
  exact⟨⟨by omega,by rw[f,s],by rw[f,s];exact m,g,P,r⟩,G⟩
