/-
  What was copied is looked at (package trace): look, Cards. Proves nothing of any one statement.
-/
import Derived.Test.YtillhdiiglamhaaGreatDoorTrB
import Derived.Test.YtillhdiiglamhaaGreatDoorFweak
set_option linter.unusedVariables false
set_option linter.unusedSimpArgs false
set_option maxRecDepth 100000
namespace Go.Proofs.YtillhdiiglamhaaGreatDoor
open Go
theorem Gp:type_of% @List.foldl_append:=@List.foldl_append
theorem FI:type_of% @List.mem_flatMap:=@List.mem_flatMap
variable{H w:zV}{a:Blk}{b:Sp}{d r:Int}{g:TB}{i:Tr}{j:Hp}{k u:Nat}{o:Mem}{q:List (Int×Value)}{v:Nat->Bool}
theorem Sp.moved_cf(m:Mem)(w:Int)(r:Sp×Int×Int):(Sp.moved m w r).cf=r.1.cf:=by
  unfold Sp.moved Sp.cf;have a:=bQ.sets (m.row (w / 8) (m.sizeOf w).toNat) r.1.mem r.2.1;have b:=bQ.set (r.1.mem.sets r.2.1 (m.row (w / 8) (m.sizeOf w).toNat)) (w / 8) (r.2.1*8+6);simp only[];rw[b.count,b.free,a.count,a.free]
theorem Sp.visit_cf(s:Sp)(old:Nat->Bool)(T w:Int):(s.visit old T w).1.cf=s.cf:=by
  unfold Sp.visit;split
  · rfl
  split
  · rfl
  split
  · rfl
  split
  · show(Sp.moved _ _ _).cf=_;rw[Sp.moved_cf,Sp.alloc_cf]
  · rfl
theorem Mem.size_kind(h:o.sizeOf d≠0):(o.kindOf d=0\/o.kindOf d=1)/\o.sizeOf d=2\/(o.kindOf d=2\/o.kindOf d=3):=by
  unfold Mem.sizeOf Mem.kindOf at*;by_cases a:o.isPair d
  · rw[ka a];rcases a.1 with q | q
    · exact .inl ⟨.inl q.2.2.2.1,rfl⟩
    · exact .inl ⟨.inr q.2.2.2.1,rfl⟩
  · rw[kb a]at h;by_cases b:o.isObj d
    · have:=b.1.2.2.2.1;right;unfold oN at this;split at this<;>omega
    · rw[kb b]at h;exact absurd rfl h
theorem Sp.visit_even(g:SpOK b)(a:b.mem.Even)(old:Nat->Bool)(T w:Int):(b.visit old T w).1.mem.Even:=by
  unfold Sp.visit;split
  · exact a
  split
  · exact a
  split
  · exact a
  rename_i d
  split
  · rename_i f
    obtain⟨_,c⟩:=FB g f;have e:=(c.even a (λhk=>by rcases Mem.size_kind d with q | q<;>omega)).1;exact(bQ.set _ _ _).even ((bQ.sets _ _ _).even e)
  · exact a
theorem Sp.visit_word(d:SpOK b){old:Nat->Bool}{T w:Int}(c:aO w):aO (b.visit old T w).2:=by
  unfold Sp.visit;split
  · exact c
  split
  · rename_i v a
    unfold Mem.fwd at a;split at a
    · rename_i k
      have e:=k.2.1.2;have h:=((d.mem.seg (w / 8 / 64).toNat).words (w / 8 % 64).toNat).1;have i:b.mem.get (w / 8)=(b.mem.seg (w / 8 / 64).toNat).words (w / 8 % 64).toNat:=rfl;simp only[EQ]at a;have o:=c.1;rw[i]at e a;generalize (b.mem.seg (w / 8 / 64).toNat).words (w / 8 % 64).toNat=g at e h a;rw[<-a];exact⟨GF,GF⟩
    · cases a
  split
  · exact c
  split
  · rename_i j
    obtain⟨_,f⟩:=FB d j;have p:=d.mem.lim;obtain⟨l,m,n⟩:=f.addr;have:=c.1;exact⟨by simp only[];omega,by simp only[];omega⟩
  · exact c
structure Tg (H:zV) (b:Blk) (x:Hp) (q:TB) (t:Tr):Prop extends Tc H b x q t where
  even:x.sp.mem.Even
  cf:x.sp.cf<4611686018427387904
  on:t.over=false
theorem Tg.grow(h:Tg H a j g i)(e:Ext H w):Tg w a j g i:=⟨h.toTc.ext e,h.even,h.cf,h.on⟩
theorem Tg.stay{S:List Nat}(h:Tg H a j g i)(f:Fr S H w)(b: ∀d,d∈S->d ∉ a.all)(c: ∀d,d∈S->d ∉ g.all):Tg w a j g i:=⟨h.toTc.keep f b c,h.even,h.cf,h.on⟩
theorem Tg.lt{b:Blk}{t:Tr}(h:Tg H b j g t){i:Nat}(a:i∈b.all\/i∈g.all):i<H.size:=by
  rcases a with a | a
  · exact h.hp.lt i a
  · exact h.tr.lt i a
theorem mv(T:Tg H a j g i)(c:aO d):
    cH.C (some ⟨g.t,0,none⟩) d H (λv b=>v=vu (j.sp.visit i.old i.tgt d).2/\Tg b a {j with sp:=(j.sp.visit i.old i.tgt d).1} g i/\Fr (Bm a) H b):=
  gc (vF T.toTc T.even c (Sp.cf_count T.ok T.cf) T.on) (λ_ _ h=>⟨h.1,⟨h.2.1,Sp.visit_even T.ok T.even _ _ _,by show(j.sp.visit i.old i.tgt d).1.cf<_;rw[Sp.visit_cf];exact T.cf,T.on⟩,h.2.2⟩)
def Mem.read(m:Mem)(a:Int):Int:=if m.used a then m.get a else 0
def Mem.wr(m:Mem)(a w:Int):Mem:=if m.used a then m.set a w else m
theorem Mem.read_word(b:bP o)(a:Int):aO (o.read a):=by
  unfold Mem.read;split
  · exact(b.seg _).words _
  · decide
theorem bQ.wr(m:Mem)(a w:Int):bQ m (m.wr a w):=by
  unfold Mem.wr;split
  · exact bQ.set m a w
  · exact bQ.refl m
theorem SpOK.wr{s:Sp}(ok:SpOK s)(a:Int){w:Int}(hw:aO w):SpOK {s with mem:=s.mem.wr a w}:=
  ok.withMem (by unfold Mem.wr; split; · exact ok.mem.set a hw
                 · exact ok.mem) (λk h=>(bQ.wr _ _ _).has.2 h) (λk=>⟨((bQ.wr _ _ _).seg k).1,((bQ.wr _ _ _).seg k).2.1⟩)
def Sp.lookAt(s:Sp)(old:Nat->Bool)(T a:Int):Sp:=
  {(s.visit old T (s.mem.read a)).1 with mem:=(s.visit old T (s.mem.read a)).1.mem.wr a (s.visit old T (s.mem.read a)).2}
theorem Sp.lookAt_even(d:SpOK b)(c:b.mem.Even)(old:Nat->Bool)(T a:Int):(b.lookAt old T a).mem.Even:=
  (bQ.wr _ _ _).even (Sp.visit_even d c old T _)
theorem Sp.lookAt_cf(s:Sp)(old:Nat->Bool)(T a:Int):(s.lookAt old T a).cf=s.cf:=by
  have h:=bQ.wr (s.visit old T (s.mem.read a)).1.mem a (s.visit old T (s.mem.read a)).2
  have:(s.lookAt old T a).cf=(s.visit old T (s.mem.read a)).1.cf:=by
    unfold Sp.lookAt Sp.cf;simp only[];rw[h.count,h.free]
  rw[this,Sp.visit_cf]
theorem vG(T:Tg H a j g i)(K:BT d)(f:hat H ⟨k,0,none⟩=some (vp (some ⟨g.t,0,none⟩)))(n:k ∉ Bm a):
    eF.C d (some ⟨k,0,none⟩) H (λ_ s=>Tg s a {j with sp:=j.sp.lookAt i.old i.tgt d} g i/\Fr (Bm a) H s):=by
  refine Ei λR B=>eF.link ?_;unfold eF.pt;obtain⟨w,x,y,z⟩:=T.s1;refine⟨_,rfl,_,f,_,rfl,_,w,_,rfl,_,x,_,rfl,_,y,_,rfl,_,z,?_⟩;refine gc (je T.hp.cd.sp.mem T.ok.mem GF) ?_;rintro _ I ⟨rfl,rfl⟩
  have q: ∃e:Int,(if j.sp.mem.used d then Value.tuple #[vu (j.sp.mem.get d),vi 0]else .tuple #[vu 0,vi 18])=.tuple #[vu (j.sp.mem.read d),vi e]:=by
    unfold Mem.read;by_cases h:j.sp.mem.used d
    · rw[ka h,ka h];exact⟨_,rfl⟩
    · rw[kb h,kb h];exact⟨_,rfl⟩
  obtain⟨e,q⟩:=q;refine⟨_,e,q,_,f,_,rfl,_,w,_,rfl,_,x,_,rfl,_,y,_,rfl,_,z,_,f,?_⟩;have v:=Mem.read_word T.ok.mem d;refine gc (mv T v) ?_;rintro _ A ⟨rfl,c,t⟩;obtain⟨D,E,F,G⟩:=c.s1;have l:hat A ⟨k,0,none⟩=some (vp (some ⟨g.t,0,none⟩)):=t.hat n f;refine⟨_,rfl,?_⟩;simp only[aI,and_true,Ej,Nat.add_zero];refine⟨l,D,E,F,G,?_⟩;have b:=c.ok;have r:=SpOK.wr b d (Sp.visit_word T.ok (old:=i.old) (T:=i.tgt) v);refine gc (kg c.hp.cd.sp.mem b.mem GF) ?_;rintro _ J ⟨rfl,p,u⟩;refine⟨_,rfl,B _ _ ⟨⟨?_,Sp.lookAt_even T.ok T.even _ _ _,by show(j.sp.lookAt i.old i.tgt d).cf<_;rw[Sp.lookAt_cf];exact T.cf,T.on⟩,t.trans (u.mono (λL o _=>by simp at o;simp[Bm];omega))⟩⟩;exact c.toTc.withMem (m:=(j.sp.visit i.old i.tgt (j.sp.mem.read d)).1.mem.wr d (j.sp.visit i.old i.tgt (j.sp.mem.read d)).2) u (λL o=>by simp at o;omega) p r
def looks(kind i:Int):Prop:=kind≠3/\(kind≠1\/i % 2=1)
instance (kind i:Int):Decidable (looks kind i):=by unfold looks;infer_instance
def Sp.look(s:Sp)(old:Nat->Bool)(T seg kind lo:Int):Nat->Sp
  | 0=>s
  | n+1=>if looks kind (lo+n)then(s.look old T seg kind lo n).lookAt old T (seg*64+(lo+n))else s.look old T seg kind lo n
theorem Sp.look_raw(s:Sp)(old:Nat->Bool)(T seg a:Int): ∀n,s.look old T seg 3 a n=s
  | 0=>rfl
  | n+1=>by unfold Sp.look;rw[kb (λh=>h.1 rfl)];exact Sp.look_raw s old T seg a n
theorem sF{b k:Int}(T:Tg H a j g i)(L:0<=d/\d<1024)(K:0<=b/\b<=64)(J:k<=64):
    cY.C (some ⟨g.t,0,none⟩) d b k r H (λ_ m=>Tg m a {j with sp:=j.sp.look i.old i.tgt d r b (k-b).toNat} g i/\Fr (Bm a) H m):=by
  refine Ei λR A=>cY.link ?_;unfold cY.pt zY;intro c H1 w o;have x:Ext H H1:=Eh o;have E:=aK w o;have B:=T.grow x;have v:hat H1 ⟨c,0,none⟩=some (vp (some ⟨g.t,0,none⟩)):=by rw[aW E];rfl
  have p:c ∉ Bm a:=λh=>by
    have:=T.lt (.inl (kQ h));omega
  refine⟨λM m=>(b<=M/\M<=max b k)/\Tg m a {j with sp:=j.sp.look i.old i.tgt d r b (M-b).toNat} g i/\Fr (Bm a) H m/\hat m ⟨c,0,none⟩=some (vp (some ⟨g.t,0,none⟩)),λM _=>(k-M).toNat,⟨⟨GF,GF⟩,by rw[Int.sub_self];exact B,x.fr,v⟩,?_⟩;rintro M G ⟨F,t,u,l⟩;by_cases f:M<k/\r≠3
  · rw[ka (by simp[f.1,f.2])];have s:(M+1-b).toNat=(M-b).toNat+1:=GF;have q:b+((M-b).toNat:Int)=M:=GF;rw[lU (by omega:0<=M),n5 (n:=M+1) GF,n5 (n:=d*64) GF,n5 (n:=d*64+M) GF];by_cases hk:r≠1\/M % 2=1
    · rw[ka (by simpa using hk)];refine gc (vG t GF l p) ?_;rintro _ I ⟨D,y⟩;refine⟨⟨GF,?_,u.trans y,y.hat p l⟩,by show(k-(M+1)).toNat< (k-M).toNat;omega⟩
      have e:j.sp.look i.old i.tgt d r b (M+1-b).toNat=(j.sp.look i.old i.tgt d r b (M-b).toNat).lookAt i.old i.tgt (d*64+M):=by
        rw[s];show(if _ then _ else _)=_;rw[q,ka ⟨f.2,hk⟩]
      rw[e];exact D
    · rw[kb (by simpa using hk)];refine⟨⟨GF,?_,u,l⟩,by show(k-(M+1)).toNat< (k-M).toNat;omega⟩
      have e:j.sp.look i.old i.tgt d r b (M+1-b).toNat=j.sp.look i.old i.tgt d r b (M-b).toNat:=by
        rw[s];show(if _ then _ else _)=_;rw[q,kb (λh=>hk h.2)]
      rw[e];exact t
  · rw[kb (by simpa using f)]
    have e:j.sp.look i.old i.tgt d r b (k-b).toNat=j.sp.look i.old i.tgt d r b (M-b).toNat:=by
      by_cases z:r=3
      · rw[z,Sp.look_raw,Sp.look_raw]
      · have: ¬M<k:=λh=>f ⟨h,z⟩;congr 1;omega
    rw[e]at A;exact A _ _ ⟨t,u⟩
def Mem.segOr(m:Mem)(k:Int):Seg:=if m.has k then m.seg k.toNat else Seg.none
def Sp.lookCard(s:Sp)(old:Nat->Bool)(T:Int)(c:Int×Int):Sp:=
  s.look old T c.1 (s.mem.segOr c.1).kind (c.2*16) (min (s.mem.segOr c.1).n ((c.2+1)*16)-c.2*16).toNat
def Sp.lookCards(s:Sp)(old:Nat->Bool)(T:Int)(l:List (Int×Int)):Sp:=l.foldl (λs c=>s.lookCard old T c) s
theorem Sp.lookCards_snoc(s:Sp)(old:Nat->Bool)(T:Int)(l:List (Int×Int))(c:Int×Int):s.lookCards old T (l++[c])=(s.lookCards old T l).lookCard old T c:=by
  unfold Sp.lookCards;rw[Gp];rfl
theorem nC: ∀l:List (Int×Int),(fx l).length=2*l.length
  | []=>rfl
  | c::l=>by
    have:=nC l;unfold fx at*;rw[List.flatMap_cons,E3,this];simp;omega
theorem nD: ∀(l:List (Int×Int)) {i:Nat} (h:i<l.length),(fx l)[2*i]?=some (vi l[i].1)/\(fx l)[2*i+1]?=some (vi l[i].2)
  | c::l,0,h=>⟨rfl,rfl⟩
  | c::l,i+1,h=>by
    have:=nD l (i:=i) (by simpa using h);unfold fx at*;rw[List.flatMap_cons];exact⟨this.1,this.2⟩
theorem qN{B:zW}{l:List (Int×Int)}(h:bV H B (fx l))(g:k<l.length): ∃a,B=some a/\aI H (a.add (k*2)) 0 [vi l[k].1,vi l[k].2]:=by
  cases B with
  | none=>
    have e:fx l=[]:=h;have:=nC l;rw[e]at this;simp at this;omega
  | some a=>
    refine⟨a,rfl,?_⟩;obtain⟨b,c⟩:=nD l g;have d:=gM (show aI H a 0 (fx l)from h) _ _ b;have f:=gM (show aI H a 0 (fx l)from h) _ _ c;refine⟨?_,?_,GB⟩
    · rw[lW];rw[show k*2+0=0+2*k by omega];exact d
    · rw[lW];rw[show k*2+(0+1)=0+(2*k+1)by omega];exact f
def oz(l:List (Int×Int)):Prop:= ∀c∈l,(0<=c.1/\c.1<1024)/\0<=c.2/\c.2<4
theorem qO(a:bP o)(k:Int):wy (o.segOr k):=by
 unfold Mem.segOr;split
 ·exact a.seg _
 ·exact nI
theorem iv(h:eG H k u o):
  bX.C (some ⟨k,0,none⟩) d H (λv a=>v=.tuple #[(o.segOr d).head,.bool (decide (o.has d))]/\Ext H a):=lV h
theorem kl{H H1:zV}(a:Seg)(h:k=H.size)(c:H1=H.push (.cells GL 127)):
  aF H1 ⟨k,0,none⟩ 0 7/\ ∀b,b=aL H1 ⟨k,0,none⟩ [vi a.gen,vi a.kind,vi a.n,vi (a.cards 0),vi (a.cards 1),vi (a.cards 2),vi (a.cards 3)] 0->Ext H b/\
   hat b ⟨k,0,none⟩=some (vi a.gen)/\hat b ⟨k,1,none⟩=some (vi a.kind)/\hat b ⟨k,2,none⟩=some (vi a.n)/\aI b ⟨k,0,none⟩ 0 [vi a.gen,vi a.kind,vi a.n,vi (a.cards 0),vi (a.cards 1),vi (a.cards 2),vi (a.cards 3)]:=by
 obtain⟨f,i⟩:=E7 (vs:=[vi a.gen,vi a.kind,vi a.n,vi (a.cards 0),vi (a.cards 1),vi (a.cards 2),vi (a.cards 3)]) (H1:=H1) (aK h c) rfl rfl;refine⟨f,λb e=>?_⟩;obtain⟨d,g⟩:=i b e;exact⟨g H (Eh c) GF,d.1,d.2.1,d.2.2.1,d⟩
theorem yH(a b:Int):(if a<b then a else b)=min b a:=by
 by_cases h:a<b
 ·rw[ka h];omega
 ·rw[kb h];omega
theorem vH(T:Tg H a j g i)(a0:oz i.cards):
  eS.C (some ⟨g.t,0,none⟩) H (λ_ s=>Tg s a {j with sp:=j.sp.lookCards i.old i.tgt i.cards} g i/\Fr (Bm a) H s):=by
 refine Ei λR hR=>eS.link ?_;unfold eS.pt zY;refine gc (li T.toTc) ?_;rintro _ H1 ⟨rfl,rfl⟩;refine⟨_,rfl,?_⟩;rw[kb (by rw[T.on];decide)];obtain⟨al,am⟩:=T.tr.clen;refine⟨_,rfl,_,_,_,by rw[Ej];exact T.tr.cAt,?_⟩;refine⟨λaB s=>(0<=aB/\aB<=g.cN)/\Tg s a {j with sp:=j.sp.lookCards i.old i.tgt (i.cards.take aB.toNat)} g i/\Fr (Bm a) H1 s,λaB _=>(g.cN-aB).toNat,⟨GF,T,Ey _ _⟩,?_⟩;rintro aB H2 ⟨hi,t,f2⟩;by_cases q:aB< (g.cN:Int)
 case neg=>
  rw[kb q];rw[ES GF]at t;exact hR _ _ ⟨t,f2⟩
 rw[ka q];have p:aB.toNat<i.cards.length:=GF;obtain⟨ca,W,E⟩:=qN t.tr.cards p;have Y:=a0 _ (Eu p);generalize X:i.cards[aB.toNat]=b at*;refine⟨ca,W,⟨hi.1,q⟩,b.1,b.2,E,λK H3 Q z=>?_⟩;obtain⟨Z,hs⟩:=E7 (vs:=[vi b.1,vi b.2]) (H1:=H3) (aK Q z) rfl rfl;refine⟨Z,λh N=>?_⟩;obtain⟨D,M⟩:=hs h N;have w:Ext H2 h:=M H2 (Eh z) GF;have u:=t.grow w;have ae: ∀aC,aC∈a.all\/aC∈g.all->aC≠K:=λaC hj=>by have:=t.lt hj;omega
 obtain⟨p1,p2,p3,p4⟩:=u.s1;have e:hat h ⟨K,0,none⟩=some (vi b.1):=D.1;have f:hat h ⟨K,1,none⟩=some (vi b.2):=D.2.1;refine⟨_,p1,_,rfl,_,p2,_,rfl,_,p3,_,rfl,_,p4,_,e,?_⟩
 have l: ∀(r:zV),Ext h r->cY.C (some ⟨g.t,0,none⟩) b.1 (IntKind.wrap .i64 (b.2*16)) (if(IntKind.wrap .i64 ((IntKind.wrap .i64 (b.2+1))*16))< ((j.sp.lookCards i.old i.tgt (i.cards.take aB.toNat)).mem.segOr b.1).n then(IntKind.wrap .i64 ((IntKind.wrap .i64 (b.2+1))*16))else((j.sp.lookCards i.old i.tgt (i.cards.take aB.toNat)).mem.segOr b.1).n) ((j.sp.lookCards i.old i.tgt (i.cards.take aB.toNat)).mem.segOr b.1).kind r
   (λ_ G=>((0<=IntKind.wrap .i64 (aB+1)/\IntKind.wrap .i64 (aB+1)<=g.cN)/\Tg G a {j with sp:=j.sp.lookCards i.old i.tgt (i.cards.take (IntKind.wrap .i64 (aB+1)).toNat)} g i/\Fr (Bm a) H1 G)/\(g.cN-IntKind.wrap .i64 (aB+1)).toNat< (g.cN-aB).toNat):=by
  intro r I;have T7:=u.grow I;have F:=qO u.ok.mem b.1;have au:((j.sp.lookCards i.old i.tgt (i.cards.take aB.toNat)).mem.segOr b.1).n<=64:=F.n.2;rw[n5 (n:=b.2*16) GF,n5 (n:=b.2+1) GF,n5 (n:=(b.2+1)*16) GF,n5 (n:=aB+1) GF,yH];refine gc (sF T7 Y.1 GF GF) ?_;rintro _ G ⟨T8,f8⟩;have L:Fr (Bm a) H1 G:=f2.trans ((w.trans I).fr.trans f8);refine⟨⟨GF,?_,L⟩,GF⟩
  have et:i.cards.take (aB+1).toNat=i.cards.take aB.toNat++[b]:=by
   rw[show(aB+1).toNat=aB.toNat+1 by omega,EL p,X]
  rw[et,Sp.lookCards_snoc];exact T8
 constructor
 ·refine gc (iv u.hp.cd.sp.mem) ?_;rintro _ H5 ⟨rfl,e5⟩;refine⟨_,_,_,_,_,_,_,_,rfl,λc6 H6 S O=>?_⟩;obtain⟨B,a1⟩:=kl ((j.sp.lookCards i.old i.tgt (i.cards.take aB.toNat)).mem.segOr b.1) S O;refine⟨B,λr P=>?_⟩;obtain⟨I,g0,g1,g2,_⟩:=a1 r P;have d:=e5.trans I;exact⟨_,d.hat e,_,by rw[Ej];exact d.hat f,_,by rw[Ej];exact g2,_,by rw[Ej];exact d.hat f,_,by rw[Ej];exact g1,l r d⟩
 ·intro c9 H9 U A;have o:Ext h H9:=Eh A;simp only[aI,and_true,Ej,Nat.add_zero];refine⟨o.hat p1,o.hat p2,o.hat p3,o.hat p4,o.hat e,?_⟩;refine gc (iv (u.grow o).hp.cd.sp.mem) ?_;rintro _ J ⟨rfl,v⟩;obtain⟨V,a2⟩:=E7 (vs:=[vi ((j.sp.lookCards i.old i.tgt (i.cards.take aB.toNat)).mem.segOr b.1).gen,vi ((j.sp.lookCards i.old i.tgt (i.cards.take aB.toNat)).mem.segOr b.1).kind,vi ((j.sp.lookCards i.old i.tgt (i.cards.take aB.toNat)).mem.segOr b.1).n,vi (((j.sp.lookCards i.old i.tgt (i.cards.take aB.toNat)).mem.segOr b.1).cards 0),vi (((j.sp.lookCards i.old i.tgt (i.cards.take aB.toNat)).mem.segOr b.1).cards 1),vi (((j.sp.lookCards i.old i.tgt (i.cards.take aB.toNat)).mem.segOr b.1).cards 2),vi (((j.sp.lookCards i.old i.tgt (i.cards.take aB.toNat)).mem.segOr b.1).cards 3)]) (H1:=J) (v.get (aK U A)) rfl rfl;refine⟨_,_,_,_,_,_,_,_,rfl,V,λm y=>?_⟩;obtain⟨k,x⟩:=a2 m y;have c:Ext h m:=x h (o.trans v) GF;exact⟨_,c.hat e,_,c.hat f,_,k.2.2.1,_,c.hat f,_,k.2.1,l m c⟩
def seenAt(ks:List (Int×Value))(k:Int):Int:=match Bb ks k with | some (.int .i64 n)=>n | _=>0
def jq(ks:List (Int×Value)):Prop:= ∀k v,Bb ks k=some v-> ∃n:Int,v=vi n/\0<=n/\n<=64
theorem lk(h:jq q)(k:Int):(Bb q k).getD (vi 0)=vi (seenAt q k)/\0<=seenAt q k/\seenAt q k<=64:=by
 unfold seenAt
 cases hm:Bb q k with
 | none=>exact⟨rfl,GG,GG⟩
 | some v=>
  obtain⟨n,rfl,a,b⟩:=h k v hm;exact⟨rfl,a,b⟩
theorem mw(c:List (Int×Value))(k a:Int)(v:Value):Bb (vg c k v) a=if a=k then some v else Bb c a:=by
 induction c with
 | nil=>
  simp only[vg,Bb,List.find?_cons];by_cases h:a=k
  ·simp[h]
  ·simp[h]
 | cons p c d=>
  simp only[vg];by_cases h:k=p.1
  ·rw[ka h];simp only[Bb,List.find?_cons];by_cases b:a=k
   ·simp[b]
   ·simp[b,<-h]
  ·rw[kb h];simp only[Bb,List.find?_cons]at d⊢;by_cases b:a=p.1
   ·subst b;have: ¬p.1=k:=λe=>h e.symm;simp[this]
   ·simp only[b,decide_false,EV];exact d
theorem nT(b:List (Int×Value))(k a n:Int):seenAt (vg b k (vi n)) a=if a=k then n else seenAt b a:=by
 unfold seenAt;rw[mw];by_cases h:a=k
 ·rw[ka h,ka h]
 ·rw[kb h,kb h]
theorem jq.put(h:jq q){k n:Int}(hn:0<=n/\n<=64):jq (vg q k (vi n)):=by
 intro a v b;rw[mw]at b;by_cases c:a=k
 ·rw[ka c]at b;cases b;exact⟨n,rfl,hn⟩
 ·rw[kb c]at b;exact h a v b
def mu(ks:List (Int×Value)):Nat:=((List.range 1024).map λk:Nat=>(64-seenAt ks k).toNat).sum
theorem sum_lt: ∀(l:List Nat) (f g:Nat->Nat) (k:Nat),k∈l->(∀i∈l,f i<=g i)->f k<g k->(l.map f).sum< (l.map g).sum
 | [],_,_,_,h,_,_=>by cases h
 | a::l,f,g,k,h,hle,hlt=>by
  simp only[List.map_cons,List.sum_cons];have n:=hle a GH
  have j: ∀c:List Nat,(∀i∈c,f i<=g i)->(c.map f).sum<=(c.map g).sum:=by
   intro c e
   induction c with
   | nil=>simp
   | cons b c m=>
    simp only[List.map_cons,List.sum_cons];have:=e b GH;have:=m (λi d=>e i (by simp[d]));omega
  rcases Ew.1 h with rfl | h
  ·have:=j l (λi d=>hle i (by simp[d]));omega
  ·have:=sum_lt l f g k h (λi d=>hle i (by simp[d])) hlt;omega
theorem AA{ks:List (Int×Value)}{k n:Int}(hk:0<=k/\k<1024)(h:seenAt ks k<n)(hn:n<=64):mu (vg ks k (vi n))<mu ks:=by
 unfold mu;refine sum_lt _ _ _ k.toNat (by rw[ER];omega) (λi _=>?_) ?_
 ·rw[nT];by_cases e:(i:Int)=k
  ·rw[ka e,e];omega
  ·rw[kb e];exact Er _
 ·rw[nT,ka GF,show((k.toNat:Nat):Int)=k by omega];omega
inductive jg (old:Nat->Bool) (T:Int) (s0:Sp) (k0:List (Int×Value)):Sp->List (Int×Value)->Prop
 | refl:jg old T s0 k0 s0 k0
 | step {s:Sp} {ks:List (Int×Value)} (k:Int) (h:jg old T s0 k0 s ks) (hk:s.mem.has k) (hg:(s.mem.seg k.toNat).gen=T) (ho:old k.toNat=false) (hn:seenAt ks k< (s.mem.seg k.toNat).n):
   jg old T s0 k0 (s.look old T k (s.mem.seg k.toNat).kind (seenAt ks k) ((s.mem.seg k.toNat).n-seenAt ks k).toNat) (vg ks k (vi (s.mem.seg k.toNat).n))
def pT(old:Nat->Bool)(T:Int)(s:Sp)(ks:List (Int×Value)):Prop:= ∀k:Nat,s.mem.has k->(s.mem.seg k).gen=T->old k=false->(s.mem.seg k).n<=seenAt ks k
theorem jg.trans{a b c:Sp}{e f:List (Int×Value)}(h:jg v d a q b e)(k:jg v d b e c f):jg v d a q c f:=by
 induction k with
 | refl=>exact h
 | step k _ hk g i hn j=>exact .step k j hk g i hn
structure gq (m m':Mem):Prop where
 limit:m'.limit=m.limit
 seg: ∀k,(m.seg k).taken≠0->(m'.seg k).gen=(m.seg k).gen/\(m'.seg k).kind=(m.seg k).kind/\(m'.seg k).taken=(m.seg k).taken/\(m.seg k).n<=(m'.seg k).n
 cards: ∀k,(m.seg k).taken≠0->(m'.seg k).cards=(m.seg k).cards
theorem gq.refl(m:Mem):gq m m:=⟨rfl,λ_ _=>⟨rfl,rfl,rfl,EN _⟩,λ_ _=>rfl⟩
theorem gq.trans{a b c:Mem}(h:gq a b)(k:gq b c):gq a c:=⟨k.limit.trans h.limit,λi d=>by
 obtain⟨f,g,e,j⟩:=h.seg i d;obtain⟨l,m,n,o⟩:=k.seg i (by rw[e];exact d);exact⟨l.trans f,m.trans g,n.trans e,Gg j o⟩,λi d=>(k.cards i (by rw[(h.seg i d).2.2.1];exact d)).trans (h.cards i d)⟩
theorem bQ.heads{m a:Mem}(h:bQ m a):gq m a:=⟨h.limit,λk _=>⟨(h.seg k).1,(h.seg k).2.1,(h.seg k).2.2.2.1,by rw[(h.seg k).2.2.1];exact EN _⟩,λk _=>(h.seg k).2.2.2.2⟩
theorem Grown.heads{m e:Mem}{a g k n:Int}(b:Grown m e a n g k)(hn:0<=n):gq m e:=⟨b.limit,λi d=>by
 by_cases c:i=(a / 64).toNat
 ·subst c;obtain⟨l,o,p,s,t,q⟩:=b.old d;obtain⟨r,f,h,j⟩:=b.new;exact⟨f.trans l.symm,h.trans o.symm,q,by rw[j,p];omega⟩
 ·rw[b.others i c];exact⟨rfl,rfl,rfl,EN _⟩,λi d=>by
 by_cases c:i=(a / 64).toNat
 ·subst c;exact(b.old d).2.2.2.2.1
 ·rw[b.others i c]⟩
theorem gq.has{a:Mem}(h:gq o a){k:Int}(hk:o.has k):a.has k:=⟨hk.1,by rw[h.limit];exact hk.2.1,by rw[(h.seg _ hk.2.2).2.2.1];exact hk.2.2⟩
theorem Sp.visit_heads(a:SpOK b)(g:b.mem.Even)(h:aO r):gq b.mem (b.visit v d r).1.mem:=by
 unfold Sp.visit;split
 ·exact gq.refl _
 split
 ·exact gq.refl _
 split
 ·exact gq.refl _
 rename_i e
 split
 ·rename_i f
  obtain⟨_,c⟩:=FB a f;have i:=Mem.size_used a.mem g h e;exact((c.heads GF).trans (bQ.sets _ _ _).heads).trans (bQ.set _ _ _).heads
 ·exact gq.refl _
theorem Sp.lookAt_heads(a:SpOK b)(c:b.mem.Even):gq b.mem (b.lookAt v d r).mem:=
 (Sp.visit_heads a c (Mem.read_word a.mem r)).trans (bQ.wr _ _ _).heads
theorem Sp.visit_ok(a:SpOK b){old:Nat->Bool}{T w:Int}(p:aO w)(o:aU old w->True):SpOK (b.visit old T w).1:=by
 unfold Sp.visit;split
 ·exact a
 split
 ·exact a
 split
 ·exact a
 split
 ·rename_i j
  obtain⟨d,g⟩:=FB a j;have e:=a.mem.lim;obtain⟨l,m,n⟩:=g.addr
  have c:=d.sets (b.alloc T (b.mem.kindOf w) (b.mem.sizeOf w)).2.1 (ws:=b.mem.row (w / 8) (b.mem.sizeOf w).toNat) (λv f=>by
   unfold Mem.row at f;obtain⟨i,_,rfl⟩:=EZ.1 f;exact(a.mem.seg _).words _)
  exact c.withMem (c.mem.set (w / 8) ⟨GF,GF⟩) (λk h=>Mem.set_has.2 h) (λk=>⟨((bQ.set _ _ _).seg k).1,((bQ.set _ _ _).seg k).2.1⟩)
 ·exact a
theorem Sp.lookAt_ok(c:SpOK b){old:Nat->Bool}{T a:Int}:SpOK (b.lookAt old T a):=
 SpOK.wr (Sp.visit_ok c (Mem.read_word c.mem a) (λ_=>trivial)) a (Sp.visit_word c (Mem.read_word c.mem a))
theorem Sp.look_ok{s:Sp}(e:SpOK s)(d:s.mem.Even){old:Nat->Bool}{T seg kind lo:Int}: ∀n,SpOK (s.look old T seg kind lo n)/\(s.look old T seg kind lo n).mem.Even/\gq s.mem (s.look old T seg kind lo n).mem
 | 0=>⟨e,d,gq.refl _⟩
 | n+1=>by
  obtain⟨a,b,c⟩:=Sp.look_ok e d (old:=old) (T:=T) (seg:=seg) (kind:=kind) (lo:=lo) n;unfold Sp.look;split
  ·exact⟨Sp.lookAt_ok a,Sp.lookAt_even a b _ _ _,c.trans (Sp.lookAt_heads a b)⟩
  ·exact⟨a,b,c⟩
theorem jg.heads{old:Nat->Bool}{T:Int}{n:Sp}{l:List (Int×Value)}(h:jg old T b q n l)(m:SpOK b)(e:b.mem.Even):SpOK n/\n.mem.Even/\gq b.mem n.mem:=by
 induction h with
 | refl=>exact⟨m,e,gq.refl _⟩
 | step k _ _ _ _ _ f=>
  obtain⟨a,c,d⟩:=f;obtain⟨g,i,j⟩:=Sp.look_ok a c (old:=old) (T:=T) (seg:=k) (kind:=(_:Int)) (lo:=_) _;exact⟨g,i,d.trans j⟩
theorem Bo{H:zV}{c o:Nat}{v:Value}(h:hat H ⟨c,o,none⟩=some v):aI H ⟨c,o,none⟩ 0 [v]:=⟨by rw[Ej];exact h,GB⟩
theorem TrAt.putSeen{b:Array MapEntry}(h:TrAt H a g i)(r:p8 (fB .i64) b.toList q):TrAt (bR H g.s (.map b k)) a g {i with seen:=q}:=by
 have f:Fr [g.s] H (bR H g.s (.map b k)):=Ez;have u:=h.lt g.s (by simp[TB.all]);obtain⟨m,n,t⟩:=h.tr;obtain⟨e,d,o,l⟩:=h.frm;have v:=h.ne;refine⟨⟨m,f.get (by simp;omega) n,t⟩,⟨e,d,f.get (by simp;omega) o,l⟩,⟨b,k,bL u,r⟩,?_,λw p=>Fh (h.cB w p) f.size,h.clen,h.ne⟩;have c:=h.cards
 cases j:g.cB with
 | none=>rw[j]at c;exact c
 | some w=>
  rw[j]at c;refine f.rowAt ?_ c;have:=v.2.2.2 w.block (by rw[j];simp);simp;omega
theorem Tg.putSeen{b:Array MapEntry}(h:Tg H a j g i)(e:p8 (fB .i64) b.toList q)(d:w=bR H g.s (.map b k)):Tg w a j g {i with seen:=q}:=by
 subst d;have f:Fr [g.s] H (bR H g.s (.map b k)):=Ez;have hn:g.s ∉ a.all:=h.apart g.s (by simp[TB.all]);exact⟨⟨h.hp.keep f (λl c=>by simp at c;rw[c];exact hn),h.ok,h.tr.putSeen e,h.apart⟩,h.even,h.cf,h.on⟩
structure RdT (H A:zV) (b:Blk) (x:Hp) (q:TB) (t:Tr) (B:zW) (c:Nat) (l:List Nat) (i:Nat) (sm:Bool) (s:Sp) (ks:List (Int×Value)):Prop where
 dr:jg t.old t.tgt x.sp t.seen s ks
 tg:Tg A b {x with sp:=s} q {t with seen:=ks}
 ok:jq ks
 fr:Fr (q.s::Bm b) H A
 own:Own A 3 1 B l.length c (Bw (l.map λi:Nat=>(i:Int)))
 no:sm=false->s=x.sp/\ks=t.seen/\ ∀j,j<i-> ∀h:j<l.length,t.old l[j]=true\/(x.sp.mem.seg l[j]).n<=seenAt t.seen l[j]
 yes:sm=true->mu ks<mu t.seen
theorem vI{b:Blk}(T:Tg H b j g i)(bH:jq i.seen)(cI:0<=i.tgt):
  eX.C (some ⟨g.t,0,none⟩) H (λv H'=> ∃(sm:Bool) (s:Sp) (ks:List (Int×Value)),v=.bool sm/\jg i.old i.tgt j.sp i.seen s ks/\Tg H' b {j with sp:=s} g {i with seen:=ks}/\jq ks/\Fr (g.s::Bm b) H H'/\(sm=false->pT i.old i.tgt s ks)/\(sm=true->mu ks<mu i.seen)):=by
 refine Ei λR hR=>eX.link ?_;unfold eX.pt zY;obtain⟨p1,p2,p3,p4⟩:=T.s1;refine⟨_,rfl,_,p1,_,rfl,_,p2,_,rfl,_,p3,_,rfl,_,p4,_,by rw[Ej];exact T.tr.tgtAt,?_⟩;intro c1 H1 bm W;have e1:Ext H H1:=Eh W;have g1:=aK bm W;have s1:H1.size=H.size+1:=by rw[W];simp
 have T1:=T.grow e1;refine⟨Bo (e1.hat p1),Bo (e1.hat p2),Bo (e1.hat p3),Bo (e1.hat p4),?_⟩;refine gc (kU (gs:=[i.tgt]) T1.hp.cd.sp.mem T1.ok.mem (show bV H1 (some ⟨c1,0,none⟩) (Bw [i.tgt])from Bo (by rw[aW g1];rfl)) rfl GG) ?_;rintro _ H2 ⟨B,c,l,rfl,hl,bu,bq,e2⟩;refine⟨_,_,_,rfl,?_⟩;have ap:=e1.trans e2;have T2:=T.grow ap;have ce:=hl.len;have cf:=T.ok.mem.lim
 have bh: ∀cQ∈l6 B,cQ ∉ g.s::Bm b:=λcQ w h=>by
  have h1:=bq cQ w;rcases Ew.1 h with rfl | h
  ·have:=T.lt (.inr (show g.s∈g.all by simp[TB.all]));omega
  ·have:=T.lt (.inl (kQ h));omega
 refine⟨λsm cO A=>(0<=cO/\cO<=l.length)/\ ∃s ks,RdT H A b j g i B c l cO.toNat sm s ks,λ_ cO _=>(l.length-cO).toNat,
  ⟨⟨GF,GF⟩,j.sp,i.seen,⟨.refl,T2,bH,ap.fr,bu,λ_=>⟨rfl,rfl,λcQ w=>by simp at w⟩,λh=>by cases h⟩⟩,?_⟩
 rintro sm cO H3 ⟨hi,s,ks,f⟩;by_cases a1:cO< (l.length:Int)
 case neg=>
  rw[kb a1];refine hR _ _ ⟨sm,s,ks,rfl,f.dr,f.tg,f.ok,f.fr,λr=>?_,f.yes⟩;obtain⟨rfl,rfl,ax⟩:=f.no r;intro k hk hg ho
  have hm:k∈l:=by
   refine hl.perm.mem_iff.2 ?_;unfold Mem.takenTo;rw[Fg,ER]
   have b3:0< (j.sp.mem.seg k).taken:=by
    have h1:=(T.ok.mem.seg k).taken;have V:=hk.2.2;rw[show((k:Nat):Int).toNat=k by omega]at V;omega
   refine⟨by have:=hk.2.1;omega,?_⟩;have V:(j.sp.mem.seg k).gen∈[i.tgt]:=by rw[hg];simp
   rw[zX b3,zX V];simp
  obtain⟨cQ,w,rfl⟩:=Gh hm;rcases ax cQ GF w with h | h
  ·rw[h]at ho;cases ho
  ·exact h
 rw[ka a1];have b0:cO.toNat<l.length:=GF;obtain⟨a,ha,ay⟩:=qH f.own b0;obtain⟨ba,ch,ci,b9⟩:=hl.has (Eu b0);generalize b1:l[cO.toNat]=k at*
 have a5:(j.sp.mem.seg k).gen=i.tgt:=by
  rcases b9 with h | h
  ·cases h
  ·simpa using h
 refine⟨a,ha,⟨hi.1,a1⟩,(k:Int),ay,⟨GF,GF⟩,(if i.old k then 1 else 0),?_,?_⟩
 ·rw[show((k:Nat):Int).toNat=k by omega];rw[EG,Ej,Ej,Eo];exact f.tg.tr.oldAt (k:=k) GF
 have b8:IntKind.wrap .i64 (cO+1)=cO+1:=n5 GF;have cE:(cO+1).toNat=cO.toNat+1:=GF;have N:((l.length:Int)-(cO+1)).toNat< ((l.length:Int)-cO).toNat:=GF;by_cases ho:i.old k=true
 ·rw[ka (by rw[ka ho])];rw[b8];refine⟨⟨⟨GF,GF⟩,s,ks,f.dr,f.tg,f.ok,f.fr,f.own,λr=>?_,f.yes⟩,N⟩;obtain⟨h1,V,h3⟩:=f.no r;refine⟨h1,V,λcQ w h=>?_⟩;by_cases a0:cQ=cO.toNat
  ·subst a0;left;rw[b1];exact ho
  ·exact h3 cQ GF h
 rw[kb (by rw[kb ho];decide)];have bs:i.old k=false:=by simpa using ho
 obtain⟨p1,p2,p3,p4⟩:=f.tg.s1;refine⟨_,p1,_,rfl,_,p2,_,rfl,_,p3,_,rfl,_,p4,?_⟩;refine gc (iv f.tg.hp.cd.sp.mem) ?_;rintro _ H4 ⟨rfl,e4⟩;refine⟨_,_,_,_,_,_,_,_,rfl,λc5 H5 bn bk=>?_⟩;obtain⟨bo,hs⟩:=kl (s.mem.segOr k) bn bk;refine⟨bo,λH6 bl=>?_⟩;obtain⟨e6,_,_,_,bw⟩:=hs H6 bl;have G:=e4.trans e6;have bf:H3.size<=c5:=by have:=e4.size;omega
 have cv: ∀cQ∈l6 B,cQ<H3.size:=f.own.lt;have aB: ∀cQ,cQ∈b.all\/cQ∈g.all->cQ<H.size:=λcQ w=>T.lt w;have cw:H.size<=H3.size:=f.fr.size
 refine⟨λbN o A=> ∃(x:Nat) (m:Sp) (t:List (Int×Value)),o=some ⟨x,0,none⟩/\H3.size<=x/\aI A ⟨x,0,none⟩ 0 [vi (m.mem.segOr k).gen,vi (m.mem.segOr k).kind,vi (m.mem.segOr k).n,vi ((m.mem.segOr k).cards 0),vi ((m.mem.segOr k).cards 1),vi ((m.mem.segOr k).cards 2),vi ((m.mem.segOr k).cards 3)]/\RdT H A b j g i B c l cO.toNat bN m t/\H3.size<=A.size,
  λ_ _ A=>mu (match A[g.s]? with | some (.map I _)=>I.toList.map (λe=>((match e.key with | .int _ n=>n | _=>0),e.val)) | _=> []),?_,?_⟩
 ·exact⟨c5,s,ks,rfl,bf,bw,⟨f.dr,f.tg.grow G,f.ok,f.fr.trans G.fr,f.own.ext G,f.no,f.yes⟩,G.size⟩
 rintro bS o H7 ⟨x,m,t,rfl,cz,b5,d,cH⟩
 have P: ∀{A:zV} {bb:Sp} {q:List (Int×Value)},Tg A b {j with sp:=bb} g {i with seen:=q}->(match A[g.s]? with | some (.map I _)=>I.toList.map (λe=>((match e.key with | .int _ n=>n | _=>0),e.val)) | _=> [])=q:=by
  intro A bb q tg;obtain⟨I,cl,h1,V⟩:=tg.tr.seen;rw[h1];show I.toList.map _=q;have h3:=Eg (List.map (λp:Value×Value=>((match p.1 with | .int _ n=>n | _=>0),p.2))) V;simp only[List.map_map]at h3;refine Eq.trans ?_ (h3.trans ?_)
  ·rfl
  ·show List.map _ q=q
   conv=>rhs;rw[<-List.map_id q]
   rfl
 obtain⟨I,cl,Y,X⟩:=d.tg.tr.seen;obtain⟨O,bB,b7⟩:=lk d.ok (k:Int);obtain⟨bK,ct,aV⟩:=d.dr.heads T.ok T.even;have D:m.mem.has (k:Int):=aV.has ba;have Q:m.mem.segOr k=m.mem.seg k:=by unfold Mem.segOr;rw[ka D,show((k:Nat):Int).toNat=k by omega]
 have b2:(j.sp.mem.seg k).taken≠0:=GF;have Z:(m.mem.seg k).gen=i.tgt:=((aV.seg k b2).1).trans a5;have a3:=(bK.mem.seg k).n;have hN:hat H7 ⟨x,2,none⟩=some (vi (m.mem.seg k).n):=by rw[<-Q];exact b5.2.2.1
 refine⟨_,d.tg.tr.sAt,_,rfl,I,cl,_,Y,X,_,O,_,rfl,_,hN,?_⟩;by_cases K:seenAt t k< (m.mem.seg k).n
 case neg=>
  rw[kb K,b8];refine⟨⟨⟨GF,GF⟩,m,t,d.dr,d.tg,d.ok,d.fr,d.own,λr=>?_,d.yes⟩,N⟩;obtain⟨rfl,rfl,h3⟩:=d.no r;refine⟨rfl,rfl,λcQ w h=>?_⟩;by_cases a0:cQ=cO.toNat
  ·subst a0;right;rw[b1];omega
  ·exact h3 cQ GF h
 rw[ka K];refine⟨_,d.tg.tr.sAt,_,rfl,I,cl,_,Y,X,_,O,_,d.tg.tr.sAt,_,hN,_,rfl,I,cl,_,Y,X,?_⟩;intro cs cp H8 aw aX;have T8:=d.tg.putSeen aX aw;have f8:Fr [g.s] H7 H8:=by rw[aw];exact Ez
 have ak:x ∉ g.s::Bm b:=λh=>by
  rcases Ew.1 h with h | h
  ·have:=aB g.s (.inr (by simp[TB.all]));omega
  ·have:=aB x (.inl (kQ h));omega
 have al:x ∉ [g.s]:=λh=>ak (by simp at h;simp[h]);have am:x ∉ Bm b:=λh=>ak (FF _ h);have b6:=f8.rowAt (a:=⟨x,0,none⟩) al b5;have E:=b6;simp only[aI,and_true,Ej,Eo]at E;refine⟨_,E.2.2.1,_,E.2.1,?_⟩;rw[Q];refine gc (sF T8 ⟨GF,GF⟩ ⟨bB,b7⟩ a3.2) ?_;rintro _ H9 ⟨T9,f9⟩;have bz:=f9.rowAt (a:=⟨x,0,none⟩) am b6;refine⟨_,_,_,_,_,_,_,bz,?_⟩;intro an ae M y;obtain⟨aC,bD⟩:=E7 (vs:=[vi (m.mem.segOr k).gen,vi (m.mem.segOr k).kind,vi (m.mem.segOr k).n,vi ((m.mem.segOr k).cards 0),vi ((m.mem.segOr k).cards 1),vi ((m.mem.segOr k).cards 2),vi ((m.mem.segOr k).cards 3)]) (H1:=ae) (aK M y) rfl rfl;refine⟨aC,λU z=>?_⟩;have u:=aK M y;obtain⟨cg,bi⟩:=bD U z;have ao:Ext H9 U:=bi H9 (Eh y) GF;have ai:=T9.grow ao;obtain⟨p1,p2,p3,p4⟩:=ai.s1;refine⟨_,p1,_,rfl,_,p2,_,rfl,_,p3,_,rfl,_,p4,?_⟩;refine gc (iv ai.hp.cd.sp.mem) ?_;rintro _ bd ⟨rfl,L⟩
 have az: ∃cR:Array Value,U[an]?=some (.cells cR 127 (0,0))/\cR.size=7:=by
  rw[dX _ ae _ 0 0 u]at z;rw[z];exact⟨_,bL (aS u),by rw[Fo];rfl⟩
 obtain⟨cR,bp,aT⟩:=az;generalize bC:m.look i.old i.tgt k (m.mem.seg k).kind (seenAt t k) ((m.mem.seg k).n-seenAt t k).toNat=S at*;obtain⟨aN,bE⟩:=E7 (vs:=[vi (S.mem.segOr k).gen,vi (S.mem.segOr k).kind,vi (S.mem.segOr k).n,vi ((S.mem.segOr k).cards 0),vi ((S.mem.segOr k).cards 1),vi ((S.mem.segOr k).cards 2),vi ((S.mem.segOr k).cards 3)]) (H1:=bd) (L.get bp) aT rfl;refine⟨_,_,_,_,_,_,_,_,rfl,aN,λaf av=>?_⟩;obtain⟨b4,bj⟩:=bE af av;have F:Ext H9 af:=bj H9 (ao.trans L) GF;have aj:=T9.grow F;have a2:=AA (ks:=t) (k:=k) ⟨GF,GF⟩ K a3.2;have J:Fr (g.s::Bm b) H7 H9:=(f8.mono (λcQ w _=>by simp at w;simp[w])).trans (f9.mono (λcQ w _=>FF _ w));have dr:=jg.step (k:Int) d.dr D (by rw[show((k:Nat):Int).toNat=k by omega];exact Z) (by rw[show((k:Nat):Int).toNat=k by omega];exact bs) (by rw[show((k:Nat):Int).toNat=k by omega];exact K);rw[show((k:Nat):Int).toNat=k by omega,bC]at dr;refine⟨⟨an,S,_,rfl,?_,b4,⟨dr,aj,d.ok.put a3,d.fr.trans (J.trans F.fr),?_,(λh=>by cases h),λ_=>?_⟩,?_⟩,?_⟩
 ·have:=J.size;omega
 ·exact(d.own.keep J bh).ext F
 ·by_cases r:bS=true
  ·exact Nat.lt_trans a2 (d.yes r)
  ·have:=(d.no (by simpa using r)).2.1;rw[<-this];exact a2
 ·have:=J.size;have:=F.size;omega
 ·show mu _<mu _;rw[P aj,P d.tg];exact a2
theorem vJ(T:Tg H a j g i)(v:jq i.seen)(w:0<=i.tgt):
  eV.C (some ⟨g.t,0,none⟩) H (λ_ y=> ∃(s:Sp) (d:List (Int×Value)),jg i.old i.tgt j.sp i.seen s d/\pT i.old i.tgt s d/\Tg y a {j with sp:=s} g {i with seen:=d}/\jq d/\Fr (g.s::Bm a) H y):=by
 refine Ei λR J=>eV.link ?_;unfold eV.pt
 have f: ∀{A:zV} {o:Sp} {b:List (Int×Value)},Tg A a {j with sp:=o} g {i with seen:=b}->(match A[g.s]? with | some (.map k _)=>k.toList.map (λe=>((match e.key with | .int _ n=>n | _=>0),e.val)) | _=> [])=b:=by
  intro A o b L;obtain⟨k,P,G,I⟩:=L.tr.seen;rw[G];show k.toList.map _=b;have E:=Eg (List.map (λp:Value×Value=>((match p.1 with | .int _ n=>n | _=>0),p.2))) I;simp only[List.map_map]at E;refine Eq.trans ?_ (E.trans ?_)
  ·rfl
  ·show List.map _ b=b
   conv=>rhs;rw[<-List.map_id b]
   rfl
 refine⟨λA=> ∃s d,jg i.old i.tgt j.sp i.seen s d/\Tg A a {j with sp:=s} g {i with seen:=d}/\jq d/\Fr (g.s::Bm a) H A,
  λA=>mu (match A[g.s]? with | some (.map k _)=>k.toList.map (λe=>((match e.key with | .int _ n=>n | _=>0),e.val)) | _=> []),⟨_,_,.refl,T,v,Ey _ _⟩,?_⟩
 rintro M ⟨s,d,z,r,x,B⟩;refine gc (li r.toTc) ?_;rintro _ N ⟨rfl,rfl⟩;refine⟨_,rfl,?_⟩;rw[kb (show ¬i.over=true by rw[T.on];decide)];refine gc (vI r x w) ?_;rintro _ O ⟨K,F,m,rfl,h,t,q,D,u,l⟩;refine⟨_,rfl,?_⟩;by_cases c:K=true
 ·rw[ka c];refine⟨⟨F,m,z.trans h,t,q,B.trans D⟩,?_⟩;show mu _<mu _;rw[f t,f r];exact l c
 ·rw[kb c];exact J _ _ ⟨F,m,z.trans h,u (by simpa using c),t,q,B.trans D⟩
theorem vK(h:eG H k u o):gZ.C (some ⟨k,0,none⟩) H (λv a=>v=vi o.free/\a=H):=by
 refine Ei λR b=>gZ.link ?_;unfold gZ.pt;rw[El];exact⟨_,by rw[Ej];exact h.freeAt,b _ _ ⟨rfl,rfl⟩⟩
def Sp.zap(s:Sp)(P:Nat->Prop) [DecidablePred P]:Sp:={s with cur:=λi j=>if P i then 0 else s.cur i j}
theorem SpAt.alike{c:Sp}(h:SpAt H a b)(hm:c.mem=b.mem)(m: ∀g k,g<5->k<4->c.cur g k=b.cur g k):SpAt H a c:=by
 obtain⟨e,f,i,j,l⟩:=h.sp;exact⟨by rw[hm];exact h.mem,h.ne,e,f,i,j,λg k d hk=>by rw[m g k d hk];exact l g k d hk⟩
theorem SpAt.put4(h:SpAt H a b){g:Nat}(p:g<5):
  aF H ⟨a.sp,1+g*4,none⟩ 0 4/\SpAt (aL H ⟨a.sp,1+g*4,none⟩ [vi 0,vi 0,vi 0,vi 0] 0) a (b.zap (· =g))/\Fr [a.sp] H (aL H ⟨a.sp,1+g*4,none⟩ [vi 0,vi 0,vi 0,vi 0] 0):=by
 obtain⟨d,c,o,f,k⟩:=h.sp;refine⟨cZ c _ _ _ GF,?_⟩;rw[dX _ H d _ 0 c];refine⟨⟨h.mem.keep (S:=[a.sp]) Ez (by have:=h.ne;simp;omega) (by have:=h.ne;simp;omega),h.ne,_,bL (aS c),by rw[Fo];exact o,?_,λi j l m=>?_⟩,Ez⟩
 ·rw[eN _ _ _ _ GF];exact f
 ·simp only[Sp.zap];by_cases e:i=g
  ·rw[ka e,e];have:=fE d [vi 0,vi 0,vi 0,vi 0] (1+g*4+0) j (by simp;omega) (by simp;omega);rw[show 1+g*4+j=1+g*4+0+j by omega,this];rcases(show j=0\/j=1\/j=2\/j=3 by omega)with rfl | rfl | rfl | rfl<;>rfl
  ·rw[kb e,<-k i j l m];rcases EC i g with n | n
   ·exact eN _ _ _ _ GF
   ·exact gt _ _ _ _ (by simp;omega)
def Sp.fresh(s:Sp)(gs:List Int):Sp:=s.zap (λi=>gs=[]\/(i:Int)∈gs)
theorem Sp.zap_ok(a:SpOK b)(P:Nat->Prop) [DecidablePred P]:SpOK (b.zap P):=⟨a.mem,λg k=>by
 simp only[Sp.zap];split
 ·exact .inl rfl
 ·exact a.cur g k⟩
theorem kC{α:Type}{p q:Prop} [Decidable p] [Decidable q] (h:p ↔ q)(x y:α):(if p then x else y)=if q then x else y:=by
 by_cases a:p
 ·rw[ka a,ka (h.1 a)]
 ·rw[kb a,kb (λb=>a (h.2 b))]
theorem SpAt.zapTo{P Q:Nat->Prop} [DecidablePred P] [DecidablePred Q] (h:SpAt H a (b.zap P))(e: ∀i,i<5->(P i ↔ Q i)):SpAt H a (b.zap Q):=h.alike rfl (λi k c _=>by
 simp only[Sp.zap];exact kC (e i c).symm _ _)
theorem SpAt.zapMore{P R Q:Nat->Prop} [DecidablePred P] [DecidablePred R] [DecidablePred Q] (h:SpAt H a ((b.zap P).zap R))(e: ∀i,i<5->(P i\/R i ↔ Q i)):SpAt H a (b.zap Q):=h.alike rfl (λi k d _=>by
 simp only[Sp.zap];by_cases c:R i
 ·rw[ka c,ka ((e i d).1 (.inr c))]
 ·rw[kb c];exact kC ⟨λg=>((e i d).2 g).resolve_right c,λf=>(e i d).1 (.inl f)⟩ _ _)
theorem rv{r:zW}{c:List Int}(h:SpAt H a b)(O:bV H r (Bw c))(E:k=c.length)(U:k<=1000)(D: ∀i∈l6 r,i≠a.sp):
  eW.C (some ⟨a.sp,0,none⟩) r k u H (λ_ K=>SpAt K a (b.fresh c)/\Fr [a.sp] H K):=by
 refine Ei λR S=>eW.link ?_;unfold eW.pt zY;rw[El];subst E;have s:SpAt H a (b.zap λi=>(i:Int)<0/\(c=[]\/(i:Int)∈c)):=h.alike rfl (λg Z _ _=>by simp only[Sp.zap];rw[kb GF]);refine⟨λg A=>(0<=g/\g<=5)/\SpAt A a (b.zap λi=>(i:Int)<g/\(c=[]\/(i:Int)∈c))/\Fr [a.sp] H A,λg _=>(5-g).toNat,⟨GF,s,Ey _ _⟩,?_⟩;rintro g W ⟨e,M,L⟩;by_cases d:g<5
 case neg=>
  rw[kb d];exact S _ _ ⟨M.zapTo (λi B=>⟨λq=>q.2,λq=>⟨GF,q⟩⟩),L⟩
 rw[ka d];have P:IntKind.wrap .i64 (g+1)=g+1:=n5 GF;have N:(5-(g+1)).toNat< (5-g).toNat:=GF
 have J: ∀{A:zV},Fr [a.sp] H A->bV A r (Bw c):=λ{A} f=>by
  cases r with
  | none=>exact O
  | some Y=>exact f.rowAt (by have:=D Y.block GH;simp;exact this) O
 refine⟨λj A=>(0<=j/\j<=c.length)/\SpAt A a (b.zap λi=>(i:Int)<g/\(c=[]\/(i:Int)∈c)\/(i:Int)=g/\g∈c.take j.toNat)/\Fr [a.sp] H A,λj _=>(c.length-j).toNat,⟨GF,M.zapTo (λi _=>⟨λq=> .inl q,λq=>by
  rcases q with q | q
  ·exact q
  ·simp at q⟩),L⟩,?_⟩
 rintro j X ⟨V,t,p⟩;by_cases n:j< (c.length:Int)
 ·rw[ka n];have y:j.toNat<c.length:=GF;obtain⟨Y,T,hat⟩:=pS (J p) y;have I:IntKind.wrap .i64 (j+1)=j+1:=n5 GF;have v:((c.length:Int)-(j+1)).toNat< ((c.length:Int)-j).toNat:=GF;have G:c.take (j+1).toNat=c.take j.toNat++[c[j.toNat]]:=by rw[show(j+1).toNat=j.toNat+1 by omega,EL y]
  refine⟨Y,T,⟨V.1,n⟩,_,hat,?_⟩;rw[I];by_cases z:c[j.toNat]=g
  ·rw[ka z];have o:=t.put4 (g:=g.toNat) GF;rw[Ej,Ej,Eo];refine⟨⟨e.1,d⟩,o.1,λQ l=>?_⟩;subst l;refine⟨⟨GF,o.2.1.zapMore (λi B=>⟨λq=>?_,λq=>?_⟩),p.trans o.2.2⟩,v⟩
   ·rcases q with(q | q) | q
    ·exact .inl q
    ·exact .inr ⟨q.1,by rw[G];exact Fp _ q.2⟩
    ·exact .inr ⟨GF,by rw[G,z];simp⟩
   ·rcases q with q | q
    ·exact .inl (.inl q)
    ·exact .inr GF
  ·rw[kb z]
   have hm:g∈c.take (j+1).toNat ↔ g∈c.take j.toNat:=by
    rw[G,EH];exact⟨λq=>q.elim id (λq=>absurd (by simpa using q:g=c[j.toNat]).symm z),.inl⟩
   exact⟨⟨GF,t.zapTo (λi B=>by rw[hm]),p⟩,v⟩
 ·rw[kb n];rw[ES GF]at t;by_cases s:(c.length:Int)=0
  ·rw[ka s];have w:c=[]:=Gf.1 GF;have o:=t.put4 (g:=g.toNat) GF;rw[Ej,Ej,Eo];refine⟨⟨e.1,d⟩,o.1,λQ l=>?_⟩;subst l;rw[P];refine⟨⟨GF,o.2.1.zapMore (λi B=>⟨λq=>?_,λq=>?_⟩),p.trans o.2.2⟩,N⟩
   ·rcases q with(q | q) | q
    ·exact⟨GF,q.2⟩
    ·exact⟨GF,.inl w⟩
    ·exact⟨GF,.inl w⟩
   ·by_cases m:(i:Int)<g
    ·exact .inl (.inl ⟨m,q.2⟩)
    ·exact .inr GF
  ·rw[kb s,P];have F:c≠[]:=λh=>s (by rw[h];rfl);refine⟨⟨GF,t.zapTo (λi B=>⟨λq=>?_,λq=>?_⟩),p⟩,N⟩
   ·rcases q with q | q
    ·exact⟨GF,q.2⟩
    ·exact⟨GF,.inr (by rw[q.1];exact q.2)⟩
   ·by_cases m:(i:Int)<g
    ·exact .inl ⟨m,q.2⟩
    ·have x:(i:Int)=g:=GF;refine .inr ⟨x,?_⟩;rcases q.2 with q | q
     ·exact absurd q F
     ·rw[<-x];exact q
def Mem.dirtyAt(m:Mem)(g:Int)(k n:Nat):List (Int×Int):=((List.range n).filter λi=>decide (g< (m.seg k).gen/\(m.seg k).cards i<=g)).map λi:Nat=>((k:Int),(i:Int))
def Mem.dirtyOf(m:Mem)(g:Int)(l:List Nat):List (Int×Int):=l.flatMap λk=>m.dirtyAt g k 4
theorem Mem.dirtyAt_len(m:Mem)(g:Int)(k n:Nat):(m.dirtyAt g k n).length<=n:=by
 unfold Mem.dirtyAt;rw[E2];exact Fe (List.length_filter_le _ _) GH
theorem Mem.dirtyOf_len(m:Mem)(g:Int): ∀l:List Nat,(m.dirtyOf g l).length<=4*l.length
 | []=>by simp[Mem.dirtyOf]
 | k::l=>by
  have a:=m.dirtyAt_len g k 4;have b:=m.dirtyOf_len g l;unfold Mem.dirtyOf at*;rw[List.flatMap_cons,E3,List.length_cons];omega
theorem Mem.dirtyAt_succ(m:Mem)(g:Int)(k n:Nat):m.dirtyAt g k (n+1)=m.dirtyAt g k n++(if g< (m.seg k).gen/\(m.seg k).cards n<=g then[((k:Int),(n:Int))]else[]):=by
 unfold Mem.dirtyAt;rw[Fs,List.filter_append,E4];congr 1;by_cases h:g< (m.seg k).gen/\(m.seg k).cards n<=g
 ·rw[ka h];simp[h]
 ·rw[kb h];simp at h⊢;exact h
theorem Mem.mem_dirty{l:List Nat}{c:Int×Int}:c∈o.dirtyOf d l ↔ ∃k∈l,∃i:Nat,i<4/\c=((k:Int),(i:Int))/\d< (o.seg k).gen/\(o.seg k).cards i<=d:=by
 unfold Mem.dirtyOf Mem.dirtyAt;simp only[FI,EZ,Fg,ER,Ex];constructor
 ·rintro⟨k,hk,i,⟨e,a,b⟩,rfl⟩;exact⟨k,hk,i,e,rfl,a,b⟩
 ·rintro⟨k,hk,i,e,rfl,a,b⟩;exact⟨k,hk,i,⟨e,a,b⟩,rfl⟩
theorem oS(a c:List (Int×Int)):fx (a++c)=fx a++fx c:=by unfold fx;rw[List.flatMap_append]
theorem tz(h:CdAt H a b)(ok:SpOK b):
  fm.C (some ⟨a.c,0,none⟩) d H (λv H'=> ∃(B:zW) (n c:Nat) (l:List Nat),v=vs B n c/\iw b.mem [] l/\n=(b.mem.dirtyOf d l).length/\Own H' 134 2 B n c (fx (b.mem.dirtyOf d l))/\(∀i∈l6 B,H.size<=i)/\Ext H H'):=by
 refine Ei λR hR=>fm.link ?_;unfold fm.pt zY;refine gc (mR h) ?_;rintro _ H1 ⟨rfl,rfl⟩;refine⟨_,rfl,?_⟩;rw[kb GG];refine⟨_,rfl,_,h.cPtr,_,rfl,_,h.sp.memPtr,?_⟩;refine gc (kU (gs:=[]) h.sp.mem ok.mem (show bV H1 none (Bw [])from rfl) rfl GG) ?_;rintro _ N ⟨B0,c0,l,rfl,hl,K,ag,U⟩;refine⟨_,_,_,rfl,?_⟩;have ah:=hl.len;have ai:=ok.mem.lim
 refine⟨λB n c i A=>(0<=i/\i<=l.length)/\n=(b.mem.dirtyOf d (l.take i.toNat)).length/\Own A 134 2 B n c (fx (b.mem.dirtyOf d (l.take i.toNat)))/\(∀j∈l6 B,N.size<=j)/\Ext N A,λ_ _ _ i _=>(l.length-i).toNat,
  ⟨GF,rfl,gW,GH,ED _⟩,?_⟩
 rintro B n c i H3 ⟨hi,rfl,t,I,O⟩;by_cases y:i< (l.length:Int)
 case neg=>
  rw[kb y];rw[ES GF]at t⊢;exact hR _ _ ⟨B,_,c,l,rfl,hl,rfl,t,λj p=>by have:=I j p;have:=U.size;omega,U.trans O⟩
 rw[ka y];have w:i.toNat<l.length:=GF;obtain⟨b9,ha,F⟩:=qH (K.ext O) w;obtain⟨M,aj,ak,_⟩:=hl.has (Eu w);have ht:l.take (i+1).toNat=l.take i.toNat++[l[i.toNat]]:=by rw[show(i+1).toNat=i.toNat+1 by omega,EL w]
 generalize hk:l[i.toNat]=k at*;have V:=h.ext (U.trans O);have ld:=b.mem.dirtyOf_len d (l.take i.toNat);have ll:(l.take i.toNat).length<=1024:=by rw[E6];omega
 refine⟨b9,ha,⟨hi.1,y⟩,(k:Int),F,_,V.cPtr,_,rfl,_,V.sp.memPtr,?_⟩;refine gc (iv V.sp.mem) ?_;rintro _ H4 ⟨rfl,e4⟩;have a8:b.mem.segOr k=b.mem.seg k:=by unfold Mem.segOr;rw[ka M,show((k:Nat):Int).toNat=k by omega]
 rw[a8];refine⟨_,_,_,_,_,_,_,_,rfl,λz H5 Y W=>?_⟩;obtain⟨a1,hs⟩:=kl (b.mem.seg k) Y W;refine⟨a1,λH6 X=>?_⟩;obtain⟨e6,a3,_,_,a7⟩:=hs H6 X;have o:=a7;simp only[aI,and_true,Ej,Eo]at o;refine⟨(b.mem.seg k).cards 0,(b.mem.seg k).cards 1,(b.mem.seg k).cards 2,(b.mem.seg k).cards 3,?_,?_⟩
 ·rw[Ej];refine⟨?_,?_,?_,?_,GB⟩<;>rw[Ej]
  ·exact o.2.2.2.1
  ·exact o.2.2.2.2.1
  ·exact o.2.2.2.2.2.1
  ·exact o.2.2.2.2.2.2
 have D:=e4.trans e6;have au:H3.size<=z:=by have:=e4.size;omega
 have hw:IntKind.wrap .i64 (i+1)=i+1:=n5 GF;have a2:((l.length:Int)-(i+1)).toNat< ((l.length:Int)-i).toNat:=GF
 refine⟨λS n' c' j A=>(0<=j/\j<=4)/\n'=(b.mem.dirtyOf d (l.take i.toNat)++b.mem.dirtyAt d k j.toNat).length/\Own A 134 2 S n' c' (fx (b.mem.dirtyOf d (l.take i.toNat)++b.mem.dirtyAt d k j.toNat))/\(∀j∈l6 S,N.size<=j/\j≠z)/\Ext N A/\hat A ⟨z,0,none⟩=some (vi (b.mem.seg k).gen),λ_ _ _ j _=>(4-j).toNat,
  ⟨GF,by simp[Mem.dirtyAt],by simpa[Mem.dirtyAt]using t.ext D,λj p=>⟨I j p,by have:=t.lt j p;omega⟩,O.trans D,a3⟩,?_⟩
 rintro S n' c' j T ⟨p,rfl,m,g,P,r⟩;by_cases x:j<4
 case neg=>
  rw[kb x,hw];have a4:j.toNat=4:=GF;rw[a4]at m⊢
  have u:b.mem.dirtyOf d (l.take (i+1).toNat)=b.mem.dirtyOf d (l.take i.toNat)++b.mem.dirtyAt d k 4:=by
   rw[ht];unfold Mem.dirtyOf;rw[List.flatMap_append];simp
  refine⟨⟨GF,by rw[u],by rw[u];exact m,λj p=>(g j p).1,P⟩,a2⟩
 rw[ka x];have a0: ∃q:Nat,j=q/\q<4:=⟨j.toNat,GF,GF⟩;obtain⟨e,rfl,aB⟩:=a0;have a9:IntKind.wrap .i64 ((e:Int)+1)=(e:Int)+1:=n5 GF;have f:((e:Int)+1).toNat=e+1:=GF;refine⟨(b.mem.seg k).cards e,⟨⟨GF,x⟩,?_⟩,_,r,?_⟩
 ·rcases(show e=0\/e=1\/e=2\/e=3 by omega)with rfl | rfl | rfl | rfl<;>rfl
 rw[a9];have J:((e:Int)).toNat=e:=GF;rw[J]at m;rw[J];have ay:=b.mem.dirtyAt_len d k e;have G:(4-((e:Int)+1)).toNat< (4-(e:Int)).toNat:=GF;by_cases u:d< (b.mem.seg k).gen/\(b.mem.seg k).cards e<=d
 ·rw[ka (by simp;exact⟨u.1,u.2⟩)];intro c8 H8 Z E;have Q:Ext T H8:=Eh E
  refine dE (ys:=[vi (k:Int),vi (e:Int)]) (m.ext Q) (cX (aK Z E) _ 0 0 (λj p=>by
   simp only[List.length_cons,List.length_nil]at p;rcases(show j=0\/j=1 by omega)with rfl | rfl<;>rfl)) rfl rfl rfl (by rw[E3];omega) ?_
  intro p' c9 H9 L f9 a6;have s:b.mem.dirtyAt d k (e+1)=b.mem.dirtyAt d k e++[((k:Int),(e:Int))]:=by rw[Mem.dirtyAt_succ,ka u]
  refine⟨⟨GF,by rw[f,s];simp;omega,?_,λj p=>?_,(P.trans Q).fr_trans f9 (λj p=>(g j p).1),f9.hat (λhm=>(g _ hm).2 rfl) (Q.hat r)⟩,G⟩
  ·rw[f,s,<-Ft,oS];exact L
  ·rcases a6 j p with q | q
   ·exact g j q
   ·have:=P.size;have:=Q.size
    have h5:z<T.size:=by
     unfold Go.Proofs.YtillhdiiglamhaaGreatDoor.hat at r;rcases EC z T.size with h | h
     ·exact h
     ·simp[Array.getElem?_eq_none h]at r
    exact⟨GF,GF⟩
 ·rw[kb (by simpa using u)];have s:b.mem.dirtyAt d k (e+1)=b.mem.dirtyAt d k e:=by rw[Mem.dirtyAt_succ,kb u,E9]
  exact⟨⟨GF,by rw[f,s],by rw[f,s];exact m,g,P,r⟩,G⟩
