/-
  What was copied is looked at (package trace): look, Cards. Proves nothing of any one statement.
-/
import Derived.Test.YtfhbhckhmnleoaaGreatWords
import Derived.Test.YtfhbhckhmnleoaaGreatFweak
set_option linter.unusedVariables false
set_option linter.unusedSimpArgs false
namespace Go.Proofs.YtfhbhckhmnleoaaGreat
open Go
variable{H C:zV}{a:Sp}{b:Blk}{d v:Int}{g:TB}{i:Tr}{j:Hp}{k A:Nat}{o:Mem}{u:List (Int×Value)}{B:Nat->Bool}
theorem Sp.moved_cf(m:Mem)(w:Int)(r:Sp×Int×Int):(Sp.moved m w r).cf=r.1.cf:=by
  unfold Sp.moved Sp.cf
  have a:=aS.sets (m.row (w / 8) (m.sizeOf w).toNat) r.1.mem r.2.1
  have b:=aS.set (r.1.mem.sets r.2.1 (m.row (w / 8) (m.sizeOf w).toNat)) (w / 8) (r.2.1*8+6)
  simp only[]
  rw[b.count,b.free,a.count,a.free]
theorem Sp.visit_cf(s:Sp)(old:Nat->Bool)(T w:Int):(s.visit old T w).1.cf=s.cf:=by
  unfold Sp.visit
  split
  · rfl
  split
  · rfl
  split
  · rfl
  split
  · show(Sp.moved _ _ _).cf=_
    rw[Sp.moved_cf,Sp.alloc_cf]
  · rfl
theorem Mem.size_kind(h:o.sizeOf d≠0):(o.kindOf d=0\/o.kindOf d=1)/\o.sizeOf d=2\/(o.kindOf d=2\/o.kindOf d=3):=by
  unfold Mem.sizeOf Mem.kindOf at*
  by_cases a:o.isPair d
  · rw[if_pos a]
    rcases a.1 with q | q
    · exact .inl ⟨.inl q.2.2.2.1,rfl⟩
    · exact .inl ⟨.inr q.2.2.2.1,rfl⟩
  · rw[if_neg a]at h
    by_cases b:o.isObj d
    · have:=b.1.2.2.2.1
      right
      unfold rawK at this
      split at this<;>omega
    · rw[if_neg b]at h;exact absurd rfl h
theorem Sp.visit_even(g:SpOK a)(b:a.mem.Even)(old:Nat->Bool)(T w:Int):(a.visit old T w).1.mem.Even:=by
  unfold Sp.visit
  split
  · exact b
  split
  · exact b
  split
  · exact b
  rename_i d
  split
  · rename_i f
    obtain⟨_,c⟩:=Sp.alloc_ok g f
    have e:=(c.even b (λhk=>by rcases Mem.size_kind d with q | q<;>omega)).1
    exact(aS.set _ _ _).even ((aS.sets _ _ _).even e)
  · exact b
theorem Sp.visit_word(d:SpOK a){old:Nat->Bool}{T w:Int}(c:aC w):aC (a.visit old T w).2:=by
  unfold Sp.visit
  split
  · exact c
  split
  · rename_i v b
    unfold Mem.fwd at b
    split at b
    · rename_i k
      have e:=k.2.1.2
      have h:=((d.mem.seg (w / 8 / 64).toNat).words (w / 8 % 64).toNat).1
      have i:a.mem.get (w / 8)=(a.mem.seg (w / 8 / 64).toNat).words (w / 8 % 64).toNat:=rfl
      simp only[Option.some.injEq]at b
      have o:=c.1
      rw[i]at e b
      generalize (a.mem.seg (w / 8 / 64).toNat).words (w / 8 % 64).toNat=g at e h b
      rw[<-b]
      exact⟨by omega,by omega⟩
    · cases b
  split
  · exact c
  split
  · rename_i j
    obtain⟨_,f⟩:=Sp.alloc_ok d j
    have p:=d.mem.lim
    obtain⟨l,m,n⟩:=f.addr
    have:=c.1
    exact⟨by simp only[];omega,by simp only[];omega⟩
  · exact c
structure Tg (H:zV) (b:Blk) (x:Hp) (q:TB) (t:Tr):Prop extends Tc H b x q t where
  even:x.sp.mem.Even
  cf:x.sp.cf<4611686018427387904
  on:t.over=false
theorem Tg.grow(h:Tg H b j g i)(e:Ext H C):Tg C b j g i:=⟨h.toTc.ext e,h.even,h.cf,h.on⟩
theorem Tg.stay{S:List Nat}{t:Tr}(h:Tg H b j g t)(f:Fr S H C)(a: ∀i,i∈S->i ∉ b.all)(c: ∀i,i∈S->i ∉ g.all):Tg C b j g t:=⟨h.toTc.keep f a c,h.even,h.cf,h.on⟩
theorem Tg.lt{b:Blk}(h:Tg H b j g i)(a:k∈b.all\/k∈g.all):k<H.size:=by
  rcases a with a | a
  · exact h.hp.lt k a
  · exact h.tr.lt k a
theorem ef{w:Int}(T:Tg H b j g i)(c:aC w):
    aR.C (some ⟨g.t,0,none⟩) w H (λv a=>v=vu (j.sp.visit i.old i.tgt w).2/\Tg a b {j with sp:=(j.sp.visit i.old i.tgt w).1} g i/\Fr (spB b) H a):=
  HC.mono (nT T.toTc T.even c (Sp.cf_count T.ok T.cf) T.on) (λ_ _ h=>⟨h.1,⟨h.2.1,Sp.visit_even T.ok T.even _ _ _,by show(j.sp.visit i.old i.tgt w).1.cf<_;rw[Sp.visit_cf];exact T.cf,T.on⟩,h.2.2⟩)
def Mem.read(m:Mem)(a:Int):Int:=if m.used a then m.get a else 0
def Mem.wr(m:Mem)(a w:Int):Mem:=if m.used a then m.set a w else m
theorem Mem.read_word(b:aV o)(a:Int):aC (o.read a):=by
  unfold Mem.read
  split
  · exact(b.seg _).words _
  · decide
theorem aS.wr(m:Mem)(a w:Int):aS m (m.wr a w):=by
  unfold Mem.wr
  split
  · exact aS.set m a w
  · exact aS.refl m
theorem SpOK.wr{s:Sp}(ok:SpOK s)(a:Int){w:Int}(hw:aC w):SpOK {s with mem:=s.mem.wr a w}:=
  ok.withMem (by unfold Mem.wr; split; · exact ok.mem.set a hw
                 · exact ok.mem) (λk h=>(aS.wr _ _ _).has.2 h) (λk=>⟨((aS.wr _ _ _).seg k).1,((aS.wr _ _ _).seg k).2.1⟩)
def Sp.lookAt(s:Sp)(old:Nat->Bool)(T a:Int):Sp:=
  {(s.visit old T (s.mem.read a)).1 with mem:=(s.visit old T (s.mem.read a)).1.mem.wr a (s.visit old T (s.mem.read a)).2}
theorem Sp.lookAt_even(c:SpOK a)(b:a.mem.Even)(old:Nat->Bool)(T d:Int):(a.lookAt old T d).mem.Even:=
  (aS.wr _ _ _).even (Sp.visit_even c b old T _)
theorem Sp.lookAt_cf(s:Sp)(old:Nat->Bool)(T a:Int):(s.lookAt old T a).cf=s.cf:=by
  have h:=aS.wr (s.visit old T (s.mem.read a)).1.mem a (s.visit old T (s.mem.read a)).2
  have:(s.lookAt old T a).cf=(s.visit old T (s.mem.read a)).1.cf:=by
    unfold Sp.lookAt Sp.cf;simp only[];rw[h.count,h.free]
  rw[this,Sp.visit_cf]
set_option maxRecDepth 100000 in
theorem nX(T:Tg H b j g i)(K:I64 d)(f:hat H ⟨k,0,none⟩=some (vp (some ⟨g.t,0,none⟩)))(n:k ∉ spB b):
    bZ.C d (some ⟨k,0,none⟩) H (λ_ s=>Tg s b {j with sp:=j.sp.lookAt i.old i.tgt d} g i/\Fr (spB b) H s):=by
  refine HC.via λR B=>bZ.link ?_
  unfold bZ.pt
  obtain⟨w,x,y,z⟩:=T.s1
  refine⟨_,rfl,_,f,_,rfl,_,w,_,rfl,_,x,_,rfl,_,y,_,rfl,_,z,?_⟩
  refine HC.mono (fF T.hp.cd.sp.mem T.ok.mem (by omega)) ?_
  rintro _ I ⟨rfl,rfl⟩
  have q: ∃e:Int,(if j.sp.mem.used d then Value.tuple #[vu (j.sp.mem.get d),vi 0]else .tuple #[vu 0,vi 18])=.tuple #[vu (j.sp.mem.read d),vi e]:=by
    unfold Mem.read
    by_cases h:j.sp.mem.used d
    · rw[if_pos h,if_pos h];exact⟨_,rfl⟩
    · rw[if_neg h,if_neg h];exact⟨_,rfl⟩
  obtain⟨e,q⟩:=q
  refine⟨_,e,q,_,f,_,rfl,_,w,_,rfl,_,x,_,rfl,_,y,_,rfl,_,z,_,f,?_⟩
  have v:=Mem.read_word T.ok.mem d
  refine HC.mono (ef T v) ?_
  rintro _ A ⟨rfl,c,t⟩
  obtain⟨D,E,F,G⟩:=c.s1
  have l:hat A ⟨k,0,none⟩=some (vp (some ⟨g.t,0,none⟩)):=t.hat n f
  refine⟨_,rfl,?_⟩
  simp only[aU,and_true,addr_add_mk,Nat.add_zero]
  refine⟨l,D,E,F,G,?_⟩
  have a:=c.ok
  have r:=SpOK.wr a d (Sp.visit_word T.ok (old:=i.old) (T:=i.tgt) v)
  refine HC.mono (eQ c.hp.cd.sp.mem a.mem (by omega)) ?_
  rintro _ J ⟨rfl,p,u⟩
  refine⟨_,rfl,B _ _ ⟨⟨?_,Sp.lookAt_even T.ok T.even _ _ _,by show(j.sp.lookAt i.old i.tgt d).cf<_;rw[Sp.lookAt_cf];exact T.cf,T.on⟩,t.trans (u.mono (λL o _=>by simp at o;simp[spB];omega))⟩⟩
  exact c.toTc.withMem (m:=(j.sp.visit i.old i.tgt (j.sp.mem.read d)).1.mem.wr d (j.sp.visit i.old i.tgt (j.sp.mem.read d)).2) u (λL o=>by simp at o;omega) p r
def looks(kind i:Int):Prop:=kind≠3/\(kind≠1\/i % 2=1)
instance (kind i:Int):Decidable (looks kind i):=by unfold looks;infer_instance
def Sp.look(s:Sp)(old:Nat->Bool)(T seg kind lo:Int):Nat->Sp
  | 0=>s
  | n+1=>if looks kind (lo+n)then(s.look old T seg kind lo n).lookAt old T (seg*64+(lo+n))else s.look old T seg kind lo n
theorem Sp.look_raw(s:Sp)(old:Nat->Bool)(T seg a:Int): ∀n,s.look old T seg 3 a n=s
  | 0=>rfl
  | n+1=>by unfold Sp.look;rw[if_neg (λh=>h.1 rfl)];exact Sp.look_raw s old T seg a n
set_option maxRecDepth 100000 in
theorem pc{a k:Int}(T:Tg H b j g i)(L:0<=d/\d<1024)(K:0<=a/\a<=64)(J:k<=64):
    cS.C (some ⟨g.t,0,none⟩) d a k v H (λ_ m=>Tg m b {j with sp:=j.sp.look i.old i.tgt d v a (k-a).toNat} g i/\Fr (spB b) H m):=by
  refine HC.via λR A=>cS.link ?_
  unfold cS.pt zY
  intro c H1 w o
  have x:Ext H H1:=Ext.push' o
  have E:=aL w o
  have B:=T.grow x
  have u:hat H1 ⟨c,0,none⟩=some (vp (some ⟨g.t,0,none⟩)):=by rw[aH E];rfl
  have p:c ∉ spB b:=λh=>by
    have:=T.lt (.inl (eY h));omega
  refine⟨λM m=>(a<=M/\M<=max a k)/\Tg m b {j with sp:=j.sp.look i.old i.tgt d v a (M-a).toNat} g i/\Fr (spB b) H m/\hat m ⟨c,0,none⟩=some (vp (some ⟨g.t,0,none⟩)),λM _=>(k-M).toNat,⟨⟨by omega,by omega⟩,by rw[Int.sub_self];exact B,x.fr,u⟩,?_⟩
  rintro M G ⟨F,s,t,l⟩
  by_cases f:M<k/\v≠3
  · rw[if_pos (by simp[f.1,f.2])]
    have r:(M+1-a).toNat=(M-a).toNat+1:=by omega
    have q:a+((M-a).toNat:Int)=M:=by omega
    rw[hM (by omega:0<=M),w64 (n:=M+1) (by omega),w64 (n:=d*64) (by omega),w64 (n:=d*64+M) (by omega)]
    by_cases hk:v≠1\/M % 2=1
    · rw[if_pos (by simpa using hk)]
      refine HC.mono (nX s (by omega) l p) ?_
      rintro _ I ⟨D,y⟩
      refine⟨⟨by omega,?_,t.trans y,y.hat p l⟩,by show(k-(M+1)).toNat< (k-M).toNat;omega⟩
      have e:j.sp.look i.old i.tgt d v a (M+1-a).toNat=(j.sp.look i.old i.tgt d v a (M-a).toNat).lookAt i.old i.tgt (d*64+M):=by
        rw[r];show(if _ then _ else _)=_;rw[q,if_pos ⟨f.2,hk⟩]
      rw[e];exact D
    · rw[if_neg (by simpa using hk)]
      refine⟨⟨by omega,?_,t,l⟩,by show(k-(M+1)).toNat< (k-M).toNat;omega⟩
      have e:j.sp.look i.old i.tgt d v a (M+1-a).toNat=j.sp.look i.old i.tgt d v a (M-a).toNat:=by
        rw[r];show(if _ then _ else _)=_;rw[q,if_neg (λh=>hk h.2)]
      rw[e];exact s
  · rw[if_neg (by simpa using f)]
    have e:j.sp.look i.old i.tgt d v a (k-a).toNat=j.sp.look i.old i.tgt d v a (M-a).toNat:=by
      by_cases z:v=3
      · rw[z,Sp.look_raw,Sp.look_raw]
      · have: ¬M<k:=λh=>f ⟨h,z⟩
        congr 1;omega
    rw[e]at A
    exact A _ _ ⟨s,t⟩
def Mem.segOr(m:Mem)(k:Int):Seg:=if m.has k then m.seg k.toNat else Seg.none
def Sp.lookCard(s:Sp)(old:Nat->Bool)(T:Int)(c:Int×Int):Sp:=
  s.look old T c.1 (s.mem.segOr c.1).kind (c.2*16) (min (s.mem.segOr c.1).n ((c.2+1)*16)-c.2*16).toNat
def Sp.lookCards(s:Sp)(old:Nat->Bool)(T:Int)(l:List (Int×Int)):Sp:=l.foldl (λs c=>s.lookCard old T c) s
theorem je: ∀l:List (Int×Int),(cT l).length=2*l.length
  | []=>rfl
  | c::l=>by
    have:=je l
    unfold cT at*
    rw[List.flatMap_cons,List.length_append,this];simp;omega
theorem jf: ∀(l:List (Int×Int)) {i:Nat} (h:i<l.length),(cT l)[2*i]?=some (vi l[i].1)/\(cT l)[2*i+1]?=some (vi l[i].2)
  | c::l,0,h=>⟨rfl,rfl⟩
  | c::l,i+1,h=>by
    have:=jf l (i:=i) (by simpa using h)
    unfold cT at*
    rw[List.flatMap_cons]
    exact⟨this.1,this.2⟩
theorem m7{B:zW}{l:List (Int×Int)}(h:eK H B (cT l))(g:k<l.length): ∃a,B=some a/\aU H (a.add (k*2)) 0 [vi l[k].1,vi l[k].2]:=by
  cases B with
  | none=>
    have e:cT l=[]:=h
    have:=je l
    rw[e]at this;simp at this;omega
  | some a=>
    refine⟨a,rfl,?_⟩
    obtain⟨b,c⟩:=jf l g
    have d:=fJ (show aU H a 0 (cT l)from h) _ _ b
    have f:=fJ (show aU H a 0 (cT l)from h) _ _ c
    refine⟨?_,?_,trivial⟩
    · rw[jT];rw[show k*2+0=0+2*k by omega];exact d
    · rw[jT];rw[show k*2+(0+1)=0+(2*k+1)by omega];exact f
def kA(l:List (Int×Int)):Prop:= ∀c∈l,(0<=c.1/\c.1<1024)/\0<=c.2/\c.2<4
theorem m8(a:aV o)(k:Int):oH (o.segOr k):=by
 unfold Mem.segOr
 split
 ·exact a.seg _
 ·exact jk
theorem fq(h:cw H k A o):
  bA.C (some ⟨k,0,none⟩) d H (λv a=>v=.tuple #[(o.segOr d).head,.bool (decide (o.has d))]/\Ext H a):=gT h
theorem gz{H H1:zV}(a:Seg)(h:k=H.size)(c:H1=H.push (.cells #[vi 0,vi 0,vi 0,vi 0,vi 0,vi 0,vi 0] 108)):
  aM H1 ⟨k,0,none⟩ 0 7/\ ∀b,b=aP H1 ⟨k,0,none⟩ [vi a.gen,vi a.kind,vi a.n,vi (a.cards 0),vi (a.cards 1),vi (a.cards 2),vi (a.cards 3)] 0->Ext H b/\
   hat b ⟨k,0,none⟩=some (vi a.gen)/\hat b ⟨k,1,none⟩=some (vi a.kind)/\hat b ⟨k,2,none⟩=some (vi a.n)/\aU b ⟨k,0,none⟩ 0 [vi a.gen,vi a.kind,vi a.n,vi (a.cards 0),vi (a.cards 1),vi (a.cards 2),vi (a.cards 3)]:=by
 obtain⟨f,i⟩:=boxed (vs:=[vi a.gen,vi a.kind,vi a.n,vi (a.cards 0),vi (a.cards 1),vi (a.cards 2),vi (a.cards 3)]) (H1:=H1) (aL h c) rfl rfl
 refine⟨f,λb e=>?_⟩
 obtain⟨d,g⟩:=i b e
 exact⟨g H (Ext.push' c) (by omega),d.1,d.2.1,d.2.2.1,d⟩
theorem rx(a b:Int):(if a<b then a else b)=min b a:=by
 by_cases h:a<b
 ·rw[if_pos h];omega
 ·rw[if_neg h];omega
def seenAt(ks:List (Int×Value))(k:Int):Int:=match mget ks k with | some (.int .i64 n)=>n | _=>0
def dE(ks:List (Int×Value)):Prop:= ∀k v,mget ks k=some v-> ∃n:Int,v=vi n/\0<=n/\n<=64
theorem gD(h:dE u)(k:Int):(mget u k).getD (vi 0)=vi (seenAt u k)/\0<=seenAt u k/\seenAt u k<=64:=by
 unfold seenAt
 cases hm:mget u k with
 | none=>exact⟨rfl,by decide,by decide⟩
 | some v=>
  obtain⟨n,rfl,a,b⟩:=h k v hm
  exact⟨rfl,a,b⟩
theorem ie(c:List (Int×Value))(k a:Int)(v:Value):mget (mput c k v) a=if a=k then some v else mget c a:=by
 induction c with
 | nil=>
  simp only[mput,mget,List.find?_cons]
  by_cases h:a=k
  ·simp[h]
  ·simp[h]
 | cons p c d=>
  simp only[mput]
  by_cases h:k=p.1
  ·rw[if_pos h]
   simp only[mget,List.find?_cons]
   by_cases b:a=k
   ·simp[b]
   ·simp[b,<-h]
  ·rw[if_neg h]
   simp only[mget,List.find?_cons]at d⊢
   by_cases b:a=p.1
   ·subst b
    have: ¬p.1=k:=λe=>h e.symm
    simp[this]
   ·simp only[b,decide_false,Bool.false_eq_true]
    exact d
theorem jp(b:List (Int×Value))(k a n:Int):seenAt (mput b k (vi n)) a=if a=k then n else seenAt b a:=by
 unfold seenAt
 rw[ie]
 by_cases h:a=k
 ·rw[if_pos h,if_pos h]
 ·rw[if_neg h,if_neg h]
theorem dE.put(h:dE u){k n:Int}(hn:0<=n/\n<=64):dE (mput u k (vi n)):=by
 intro a v b
 rw[ie]at b
 by_cases c:a=k
 ·rw[if_pos c]at b;cases b;exact⟨n,rfl,hn⟩
 ·rw[if_neg c]at b;exact h a v b
def mu(ks:List (Int×Value)):Nat:=((List.range 1024).map λk:Nat=>(64-seenAt ks k).toNat).sum
theorem sum_lt: ∀(l:List Nat) (f g:Nat->Nat) (k:Nat),k∈l->(∀i∈l,f i<=g i)->f k<g k->(l.map f).sum< (l.map g).sum
 | [],_,_,_,h,_,_=>by cases h
 | a::l,f,g,k,h,hle,hlt=>by
  simp only[List.map_cons,List.sum_cons]
  have n:=hle a (by simp)
  have j: ∀c:List Nat,(∀i∈c,f i<=g i)->(c.map f).sum<=(c.map g).sum:=by
   intro c e
   induction c with
   | nil=>simp
   | cons b c m=>
    simp only[List.map_cons,List.sum_cons]
    have:=e b (by simp)
    have:=m (λi d=>e i (by simp[d]))
    omega
  rcases List.mem_cons.1 h with rfl | h
  ·have:=j l (λi d=>hle i (by simp[d]));omega
  ·have:=sum_lt l f g k h (λi d=>hle i (by simp[d])) hlt;omega
theorem ry{ks:List (Int×Value)}{k n:Int}(hk:0<=k/\k<1024)(h:seenAt ks k<n)(hn:n<=64):mu (mput ks k (vi n))<mu ks:=by
 unfold mu
 refine sum_lt _ _ _ k.toNat (by rw[List.mem_range];omega) (λi _=>?_) ?_
 ·rw[jp]
  by_cases e:(i:Int)=k
  ·rw[if_pos e,e];omega
  ·rw[if_neg e];exact Nat.le_refl _
 ·rw[jp,if_pos (by omega),show((k.toNat:Nat):Int)=k by omega];omega
inductive cJ (old:Nat->Bool) (T:Int) (s0:Sp) (k0:List (Int×Value)):Sp->List (Int×Value)->Prop
 | refl:cJ old T s0 k0 s0 k0
 | step {s:Sp} {ks:List (Int×Value)} (k:Int) (h:cJ old T s0 k0 s ks) (hk:s.mem.has k) (hg:(s.mem.seg k.toNat).gen=T) (ho:old k.toNat=false) (hn:seenAt ks k< (s.mem.seg k.toNat).n):
   cJ old T s0 k0 (s.look old T k (s.mem.seg k.toNat).kind (seenAt ks k) ((s.mem.seg k.toNat).n-seenAt ks k).toNat) (mput ks k (vi (s.mem.seg k.toNat).n))
def eZ(old:Nat->Bool)(T:Int)(s:Sp)(ks:List (Int×Value)):Prop:= ∀k:Nat,s.mem.has k->(s.mem.seg k).gen=T->old k=false->(s.mem.seg k).n<=seenAt ks k
theorem cJ.trans{a b c:Sp}{e f:List (Int×Value)}(h:cJ B d a u b e)(k:cJ B d b e c f):cJ B d a u c f:=by
 induction k with
 | refl=>exact h
 | step k _ hk g i hn j=>exact .step k j hk g i hn
structure dt (m m':Mem):Prop where
 limit:m'.limit=m.limit
 seg: ∀k,(m.seg k).taken≠0->(m'.seg k).gen=(m.seg k).gen/\(m'.seg k).kind=(m.seg k).kind/\(m'.seg k).taken=(m.seg k).taken/\(m.seg k).n<=(m'.seg k).n
 cards: ∀k,(m.seg k).taken≠0->(m'.seg k).cards=(m.seg k).cards
theorem dt.refl(m:Mem):dt m m:=⟨rfl,λ_ _=>⟨rfl,rfl,rfl,Int.le_refl _⟩,λ_ _=>rfl⟩
theorem dt.trans{a b c:Mem}(h:dt a b)(k:dt b c):dt a c:=⟨k.limit.trans h.limit,λi d=>by
 obtain⟨f,g,e,j⟩:=h.seg i d
 obtain⟨l,m,n,o⟩:=k.seg i (by rw[e];exact d)
 exact⟨l.trans f,m.trans g,n.trans e,Int.le_trans j o⟩,λi d=>(k.cards i (by rw[(h.seg i d).2.2.1];exact d)).trans (h.cards i d)⟩
theorem aS.heads{m a:Mem}(h:aS m a):dt m a:=⟨h.limit,λk _=>⟨(h.seg k).1,(h.seg k).2.1,(h.seg k).2.2.2.1,by rw[(h.seg k).2.2.1];exact Int.le_refl _⟩,λk _=>(h.seg k).2.2.2.2⟩
theorem Grown.heads{m e:Mem}{a g k n:Int}(b:Grown m e a n g k)(hn:0<=n):dt m e:=⟨b.limit,λi d=>by
 by_cases c:i=(a / 64).toNat
 ·subst c
  obtain⟨l,o,p,s,t,q⟩:=b.old d
  obtain⟨r,f,h,j⟩:=b.new
  exact⟨f.trans l.symm,h.trans o.symm,q,by rw[j,p];omega⟩
 ·rw[b.others i c];exact⟨rfl,rfl,rfl,Int.le_refl _⟩,λi d=>by
 by_cases c:i=(a / 64).toNat
 ·subst c;exact(b.old d).2.2.2.2.1
 ·rw[b.others i c]⟩
theorem dt.has{a:Mem}(h:dt o a){k:Int}(hk:o.has k):a.has k:=⟨hk.1,by rw[h.limit];exact hk.2.1,by rw[(h.seg _ hk.2.2).2.2.1];exact hk.2.2⟩
theorem Sp.visit_heads(b:SpOK a)(g:a.mem.Even)(h:aC v):dt a.mem (a.visit B d v).1.mem:=by
 unfold Sp.visit
 split
 ·exact dt.refl _
 split
 ·exact dt.refl _
 split
 ·exact dt.refl _
 rename_i e
 split
 ·rename_i f
  obtain⟨_,c⟩:=Sp.alloc_ok b f
  have i:=Mem.size_used b.mem g h e
  exact((c.heads (by omega)).trans (aS.sets _ _ _).heads).trans (aS.set _ _ _).heads
 ·exact dt.refl _
theorem Sp.lookAt_heads(b:SpOK a)(c:a.mem.Even):dt a.mem (a.lookAt B d v).mem:=
 (Sp.visit_heads b c (Mem.read_word b.mem v)).trans (aS.wr _ _ _).heads
theorem Sp.visit_ok(b:SpOK a){old:Nat->Bool}{T w:Int}(p:aC w)(o:aF old w->True):SpOK (a.visit old T w).1:=by
 unfold Sp.visit
 split
 ·exact b
 split
 ·exact b
 split
 ·exact b
 split
 ·rename_i j
  obtain⟨d,g⟩:=Sp.alloc_ok b j
  have e:=b.mem.lim
  obtain⟨l,m,n⟩:=g.addr
  have c:=d.sets (a.alloc T (a.mem.kindOf w) (a.mem.sizeOf w)).2.1 (ws:=a.mem.row (w / 8) (a.mem.sizeOf w).toNat) (λv f=>by
   unfold Mem.row at f
   obtain⟨i,_,rfl⟩:=List.mem_map.1 f
   exact(b.mem.seg _).words _)
  exact c.withMem (c.mem.set (w / 8) ⟨by omega,by omega⟩) (λk h=>Mem.set_has.2 h) (λk=>⟨((aS.set _ _ _).seg k).1,((aS.set _ _ _).seg k).2.1⟩)
 ·exact b
theorem Sp.lookAt_ok(b:SpOK a){old:Nat->Bool}{T c:Int}:SpOK (a.lookAt old T c):=
 SpOK.wr (Sp.visit_ok b (Mem.read_word b.mem c) (λ_=>trivial)) c (Sp.visit_word b (Mem.read_word b.mem c))
theorem Sp.look_ok{s:Sp}(e:SpOK s)(d:s.mem.Even){old:Nat->Bool}{T seg kind lo:Int}: ∀n,SpOK (s.look old T seg kind lo n)/\(s.look old T seg kind lo n).mem.Even/\dt s.mem (s.look old T seg kind lo n).mem
 | 0=>⟨e,d,dt.refl _⟩
 | n+1=>by
  obtain⟨a,b,c⟩:=Sp.look_ok e d (old:=old) (T:=T) (seg:=seg) (kind:=kind) (lo:=lo) n
  unfold Sp.look
  split
  ·exact⟨Sp.lookAt_ok a,Sp.lookAt_even a b _ _ _,c.trans (Sp.lookAt_heads a b)⟩
  ·exact⟨a,b,c⟩
theorem cJ.heads{old:Nat->Bool}{T:Int}{b:Sp}{m:List (Int×Value)}(h:cJ old T a u b m)(n:SpOK a)(f:a.mem.Even):SpOK b/\b.mem.Even/\dt a.mem b.mem:=by
 induction h with
 | refl=>exact⟨n,f,dt.refl _⟩
 | step k _ _ _ _ _ g=>
  obtain⟨c,d,e⟩:=g
  obtain⟨i,j,l⟩:=Sp.look_ok c d (old:=old) (T:=T) (seg:=k) (kind:=(_:Int)) (lo:=_) _
  exact⟨i,j,e.trans l⟩
theorem row1{H:zV}{c o:Nat}{v:Value}(h:hat H ⟨c,o,none⟩=some v):aU H ⟨c,o,none⟩ 0 [v]:=⟨by rw[addr_add_mk];exact h,trivial⟩
theorem TrAt.putSeen{c:Array MapEntry}(h:TrAt H b g i)(r:Ents (cU .i64) c.toList u):TrAt (bH H g.s (.map c k)) b g {i with seen:=u}:=by
 have f:Fr [g.s] H (bH H g.s (.map c k)):=Fr.set
 have v:=h.lt g.s (by simp[TB.all])
 obtain⟨n,o,t⟩:=h.tr
 obtain⟨j,e,p,m⟩:=h.frm
 have w:=h.ne
 refine⟨⟨n,f.get (by simp;omega) o,t⟩,⟨j,e,f.get (by simp;omega) p,m⟩,⟨c,k,aZ v,r⟩,?_,λa q=>Nat.lt_of_lt_of_le (h.cB a q) f.size,h.clen,h.ne⟩
 have d:=h.cards
 cases l:g.cB with
 | none=>rw[l]at d;exact d
 | some a=>
  rw[l]at d
  refine f.rowAt ?_ d
  have:=w.2.2.2 a.block (by rw[l];simp)
  simp;omega
theorem Tg.putSeen{a:Array MapEntry}(h:Tg H b j g i)(e:Ents (cU .i64) a.toList u)(d:C=bH H g.s (.map a k)):Tg C b j g {i with seen:=u}:=by
 subst d
 have f:Fr [g.s] H (bH H g.s (.map a k)):=Fr.set
 have hn:g.s ∉ b.all:=h.apart g.s (by simp[TB.all])
 exact⟨⟨h.hp.keep f (λl c=>by simp at c;rw[c];exact hn),h.ok,h.tr.putSeen e,h.apart⟩,h.even,h.cf,h.on⟩
structure RdT (H A:zV) (b:Blk) (x:Hp) (q:TB) (t:Tr) (B:zW) (c:Nat) (l:List Nat) (i:Nat) (sm:Bool) (s:Sp) (ks:List (Int×Value)):Prop where
 dr:cJ t.old t.tgt x.sp t.seen s ks
 tg:Tg A b {x with sp:=s} q {t with seen:=ks}
 ok:dE ks
 fr:Fr (q.s::spB b) H A
 own:Own A 3 1 B l.length c (ivs (l.map λi:Nat=>(i:Int)))
 no:sm=false->s=x.sp/\ks=t.seen/\ ∀j,j<i-> ∀h:j<l.length,t.old l[j]=true\/(x.sp.mem.seg l[j]).n<=seenAt t.seen l[j]
 yes:sm=true->mu ks<mu t.seen
set_option maxRecDepth 100000 in
theorem nY(T:Tg H b j g i)(bM:dE i.seen)(cC:0<=i.tgt):
  cH.C (some ⟨g.t,0,none⟩) H (λv H'=> ∃(sm:Bool) (s:Sp) (ks:List (Int×Value)),v=.bool sm/\cJ i.old i.tgt j.sp i.seen s ks/\Tg H' b {j with sp:=s} g {i with seen:=ks}/\dE ks/\Fr (g.s::spB b) H H'/\(sm=false->eZ i.old i.tgt s ks)/\(sm=true->mu ks<mu i.seen)):=by
 refine HC.via λR hR=>cH.link ?_
 unfold cH.pt zY
 obtain⟨p1,p2,p3,p4⟩:=T.s1
 refine⟨_,rfl,_,p1,_,rfl,_,p2,_,rfl,_,p3,_,rfl,_,p4,_,by rw[addr_add_mk];exact T.tr.tgtAt,?_⟩
 intro c1 H1 bp W
 have e1:Ext H H1:=Ext.push' W
 have g1:=aL bp W
 have s1:H1.size=H.size+1:=by rw[W];simp
 have T1:=T.grow e1
 refine⟨row1 (e1.hat p1),row1 (e1.hat p2),row1 (e1.hat p3),row1 (e1.hat p4),?_⟩
 refine HC.mono (gM (gs:=[i.tgt]) T1.hp.cd.sp.mem T1.ok.mem (show eK H1 (some ⟨c1,0,none⟩) (ivs [i.tgt])from row1 (by rw[aH g1];rfl)) rfl (by decide)) ?_
 rintro _ H2 ⟨B,c,l,rfl,hl,bA,bu,e2⟩
 refine⟨_,_,_,rfl,?_⟩
 have ap:=e1.trans e2
 have T2:=T.grow ap
 have c7:=hl.len
 have c8:=T.ok.mem.lim
 have bk: ∀cM∈blks B,cM ∉ g.s::spB b:=λcM w h=>by
  have h1:=bu cM w
  rcases List.mem_cons.1 h with rfl | h
  ·have:=T.lt (.inr (show g.s∈g.all by simp[TB.all]));omega
  ·have:=T.lt (.inl (eY h));omega
 refine⟨λsm cK A=>(0<=cK/\cK<=l.length)/\ ∃s ks,RdT H A b j g i B c l cK.toNat sm s ks,λ_ cK _=>(l.length-cK).toNat,
  ⟨⟨by omega,by omega⟩,j.sp,i.seen,⟨.refl,T2,bM,ap.fr,bA,λ_=>⟨rfl,rfl,λcM w=>by simp at w⟩,λh=>by cases h⟩⟩,?_⟩
 rintro sm cK H3 ⟨hi,s,ks,f⟩
 by_cases a1:cK< (l.length:Int)
 case neg=>
  rw[if_neg a1]
  refine hR _ _ ⟨sm,s,ks,rfl,f.dr,f.tg,f.ok,f.fr,λr=>?_,f.yes⟩
  obtain⟨rfl,rfl,ax⟩:=f.no r
  intro k hk hg ho
  have hm:k∈l:=by
   refine hl.perm.mem_iff.2 ?_
   unfold Mem.takenTo
   rw[List.mem_filter,List.mem_range]
   have b6:0< (j.sp.mem.seg k).taken:=by
    have h1:=(T.ok.mem.seg k).taken
    have V:=hk.2.2
    rw[show((k:Nat):Int).toNat=k by omega]at V
    omega
   refine⟨by have:=hk.2.1;omega,?_⟩
   have V:(j.sp.mem.seg k).gen∈[i.tgt]:=by rw[hg];simp
   rw[zX b6,zX V];simp
  obtain⟨cM,w,rfl⟩:=List.getElem_of_mem hm
  rcases ax cM (by omega) w with h | h
  ·rw[h]at ho;cases ho
  ·exact h
 rw[if_pos a1]
 have b3:cK.toNat<l.length:=by omega
 obtain⟨a,ha,ay⟩:=k9 f.own b3
 obtain⟨bd,cc,ce,bc⟩:=hl.has (List.getElem_mem b3)
 generalize b4:l[cK.toNat]=k at*
 have a5:(j.sp.mem.seg k).gen=i.tgt:=by
  rcases bc with h | h
  ·cases h
  ·simpa using h
 refine⟨a,ha,⟨hi.1,a1⟩,(k:Int),ay,⟨by omega,by omega⟩,(if i.old k then 1 else 0),?_,?_⟩
 ·rw[show((k:Nat):Int).toNat=k by omega];rw[Nat.mul_one,addr_add_mk,addr_add_mk,Nat.zero_add];exact f.tg.tr.oldAt (k:=k) (by omega)
 have bb:IntKind.wrap .i64 (cK+1)=cK+1:=w64 (by omega)
 have cA:(cK+1).toNat=cK.toNat+1:=by omega
 have N:((l.length:Int)-(cK+1)).toNat< ((l.length:Int)-cK).toNat:=by omega
 by_cases ho:i.old k=true
 ·rw[if_pos (by rw[if_pos ho])]
  rw[bb]
  refine⟨⟨⟨by omega,by omega⟩,s,ks,f.dr,f.tg,f.ok,f.fr,f.own,λr=>?_,f.yes⟩,N⟩
  obtain⟨h1,V,h3⟩:=f.no r
  refine⟨h1,V,λcM w h=>?_⟩
  by_cases a0:cM=cK.toNat
  ·subst a0;left;rw[b4];exact ho
  ·exact h3 cM (by omega) h
 rw[if_neg (by rw[if_neg ho];decide)]
 have bz:i.old k=false:=by simpa using ho
 obtain⟨p1,p2,p3,p4⟩:=f.tg.s1
 refine⟨_,p1,_,rfl,_,p2,_,rfl,_,p3,_,rfl,_,p4,?_⟩
 refine HC.mono (fq f.tg.hp.cd.sp.mem) ?_
 rintro _ H4 ⟨rfl,e4⟩
 refine⟨_,_,_,_,_,_,_,_,rfl,λc5 H5 bq bn=>?_⟩
 obtain⟨br,hs⟩:=gz (s.mem.segOr k) bq bn
 refine⟨br,λH6 bo=>?_⟩
 obtain⟨e6,_,_,_,bC⟩:=hs H6 bo
 have G:=e4.trans e6
 have bi:H3.size<=c5:=by have:=e4.size;omega
 have cr: ∀cM∈blks B,cM<H3.size:=f.own.lt
 have aR: ∀cM,cM∈b.all\/cM∈g.all->cM<H.size:=λcM w=>T.lt w
 have cs:H.size<=H3.size:=f.fr.size
 refine⟨λbO o A=> ∃(x:Nat) (m:Sp) (t:List (Int×Value)),o=some ⟨x,0,none⟩/\H3.size<=x/\aU A ⟨x,0,none⟩ 0 [vi (m.mem.segOr k).gen,vi (m.mem.segOr k).kind,vi (m.mem.segOr k).n,vi ((m.mem.segOr k).cards 0),vi ((m.mem.segOr k).cards 1),vi ((m.mem.segOr k).cards 2),vi ((m.mem.segOr k).cards 3)]/\RdT H A b j g i B c l cK.toNat bO m t/\H3.size<=A.size,
  λ_ _ A=>mu (match A[g.s]? with | some (.map I _)=>I.toList.map (λe=>((match e.key with | .int _ n=>n | _=>0),e.val)) | _=> []),?_,?_⟩
 ·exact⟨c5,s,ks,rfl,bi,bC,⟨f.dr,f.tg.grow G,f.ok,f.fr.trans G.fr,f.own.ext G,f.no,f.yes⟩,G.size⟩
 rintro bP o H7 ⟨x,m,t,rfl,cv,b8,d,cB⟩
 have P: ∀{A:zV} {be:Sp} {q:List (Int×Value)},Tg A b {j with sp:=be} g {i with seen:=q}->(match A[g.s]? with | some (.map I _)=>I.toList.map (λe=>((match e.key with | .int _ n=>n | _=>0),e.val)) | _=> [])=q:=by
  intro A be q tg
  obtain⟨I,cl,h1,V⟩:=tg.tr.seen
  rw[h1]
  show I.toList.map _=q
  have h3:=congrArg (List.map (λp:Value×Value=>((match p.1 with | .int _ n=>n | _=>0),p.2))) V
  simp only[List.map_map]at h3
  refine Eq.trans ?_ (h3.trans ?_)
  ·rfl
  ·show List.map _ q=q
   conv=>rhs;rw[<-List.map_id q]
   rfl
 obtain⟨I,cl,Y,X⟩:=d.tg.tr.seen
 obtain⟨O,bG,ba⟩:=gD d.ok (k:Int)
 obtain⟨bN,cp,b1⟩:=d.dr.heads T.ok T.even
 have D:m.mem.has (k:Int):=b1.has bd
 have Q:m.mem.segOr k=m.mem.seg k:=by unfold Mem.segOr;rw[if_pos D,show((k:Nat):Int).toNat=k by omega]
 have b5:(j.sp.mem.seg k).taken≠0:=by omega
 have Z:(m.mem.seg k).gen=i.tgt:=((b1.seg k b5).1).trans a5
 have a3:=(bN.mem.seg k).n
 have hN:hat H7 ⟨x,2,none⟩=some (vi (m.mem.seg k).n):=by rw[<-Q];exact b8.2.2.1
 refine⟨_,d.tg.tr.sAt,_,rfl,I,cl,_,Y,X,_,O,_,rfl,_,hN,?_⟩
 by_cases K:seenAt t k< (m.mem.seg k).n
 case neg=>
  rw[if_neg K,bb]
  refine⟨⟨⟨by omega,by omega⟩,m,t,d.dr,d.tg,d.ok,d.fr,d.own,λr=>?_,d.yes⟩,N⟩
  obtain⟨rfl,rfl,h3⟩:=d.no r
  refine⟨rfl,rfl,λcM w h=>?_⟩
  by_cases a0:cM=cK.toNat
  ·subst a0;right;rw[b4];omega
  ·exact h3 cM (by omega) h
 rw[if_pos K]
 refine⟨_,d.tg.tr.sAt,_,rfl,I,cl,_,Y,X,_,O,_,d.tg.tr.sAt,_,hN,_,rfl,I,cl,_,Y,X,?_⟩
 intro co ck H8 aw b2
 have T8:=d.tg.putSeen b2 aw
 have f8:Fr [g.s] H7 H8:=by rw[aw];exact Fr.set
 have ak:x ∉ g.s::spB b:=λh=>by
  rcases List.mem_cons.1 h with h | h
  ·have:=aR g.s (.inr (by simp[TB.all]));omega
  ·have:=aR x (.inl (eY h));omega
 have al:x ∉ [g.s]:=λh=>ak (by simp at h;simp[h])
 have am:x ∉ spB b:=λh=>ak (List.mem_cons_of_mem _ h)
 have b9:=f8.rowAt (a:=⟨x,0,none⟩) al b8
 have E:=b9
 simp only[aU,and_true,addr_add_mk,Nat.zero_add]at E
 refine⟨_,E.2.2.1,_,E.2.1,?_⟩
 rw[Q]
 refine HC.mono (pc T8 ⟨by omega,by omega⟩ ⟨bG,ba⟩ a3.2) ?_
 rintro _ H9 ⟨T9,f9⟩
 have bD:=f9.rowAt (a:=⟨x,0,none⟩) am b9
 refine⟨_,_,_,_,_,_,_,bD,?_⟩
 intro an ae M y
 obtain⟨aX,bK⟩:=boxed (vs:=[vi (m.mem.segOr k).gen,vi (m.mem.segOr k).kind,vi (m.mem.segOr k).n,vi ((m.mem.segOr k).cards 0),vi ((m.mem.segOr k).cards 1),vi ((m.mem.segOr k).cards 2),vi ((m.mem.segOr k).cards 3)]) (H1:=ae) (aL M y) rfl rfl
 refine⟨aX,λU z=>?_⟩
 have u:=aL M y
 obtain⟨c9,bl⟩:=bK U z
 have ao:Ext H9 U:=bl H9 (Ext.push' y) (by omega)
 have ai:=T9.grow ao
 obtain⟨p1,p2,p3,p4⟩:=ai.s1
 refine⟨_,p1,_,rfl,_,p2,_,rfl,_,p3,_,rfl,_,p4,?_⟩
 refine HC.mono (fq ai.hp.cd.sp.mem) ?_
 rintro _ bg ⟨rfl,L⟩
 have az: ∃cN:Array Value,U[an]?=some (.cells cN 108 (0,0))/\cN.size=7:=by
  rw[cW _ ae _ 0 0 u]at z
  rw[z]
  exact⟨_,aZ (bB u),by rw[splice_size];rfl⟩
 obtain⟨cN,bs,b0⟩:=az
 generalize bJ:m.look i.old i.tgt k (m.mem.seg k).kind (seenAt t k) ((m.mem.seg k).n-seenAt t k).toNat=S at*
 obtain⟨aY,bL⟩:=boxed (vs:=[vi (S.mem.segOr k).gen,vi (S.mem.segOr k).kind,vi (S.mem.segOr k).n,vi ((S.mem.segOr k).cards 0),vi ((S.mem.segOr k).cards 1),vi ((S.mem.segOr k).cards 2),vi ((S.mem.segOr k).cards 3)]) (H1:=bg) (L.get bs) b0 rfl
 refine⟨_,_,_,_,_,_,_,_,rfl,aY,λaf av=>?_⟩
 obtain⟨b7,bm⟩:=bL af av
 have F:Ext H9 af:=bm H9 (ao.trans L) (by omega)
 have aj:=T9.grow F
 have a2:=ry (ks:=t) (k:=k) ⟨by omega,by omega⟩ K a3.2
 have J:Fr (g.s::spB b) H7 H9:=(f8.mono (λcM w _=>by simp at w;simp[w])).trans (f9.mono (λcM w _=>List.mem_cons_of_mem _ w))
 have dr:=cJ.step (k:Int) d.dr D (by rw[show((k:Nat):Int).toNat=k by omega];exact Z) (by rw[show((k:Nat):Int).toNat=k by omega];exact bz) (by rw[show((k:Nat):Int).toNat=k by omega];exact K)
 rw[show((k:Nat):Int).toNat=k by omega,bJ]at dr
 refine⟨⟨an,S,_,rfl,?_,b7,⟨dr,aj,d.ok.put a3,d.fr.trans (J.trans F.fr),?_,(λh=>by cases h),λ_=>?_⟩,?_⟩,?_⟩
 ·have:=J.size;omega
 ·exact(d.own.keep J bk).ext F
 ·by_cases r:bP=true
  ·exact Nat.lt_trans a2 (d.yes r)
  ·have:=(d.no (by simpa using r)).2.1
   rw[<-this];exact a2
 ·have:=J.size;have:=F.size;omega
 ·show mu _<mu _
  rw[P aj,P d.tg];exact a2
set_option maxRecDepth 100000 in
theorem iF(T:Tg H b j g i)(v:dE i.seen)(w:0<=i.tgt):
  bM.C (some ⟨g.t,0,none⟩) H (λ_ y=> ∃(s:Sp) (d:List (Int×Value)),cJ i.old i.tgt j.sp i.seen s d/\eZ i.old i.tgt s d/\Tg y b {j with sp:=s} g {i with seen:=d}/\dE d/\Fr (g.s::spB b) H y):=by
 refine HC.via λR J=>bM.link ?_
 unfold bM.pt
 have f: ∀{A:zV} {o:Sp} {a:List (Int×Value)},Tg A b {j with sp:=o} g {i with seen:=a}->(match A[g.s]? with | some (.map k _)=>k.toList.map (λe=>((match e.key with | .int _ n=>n | _=>0),e.val)) | _=> [])=a:=by
  intro A o a L
  obtain⟨k,P,G,I⟩:=L.tr.seen
  rw[G]
  show k.toList.map _=a
  have E:=congrArg (List.map (λp:Value×Value=>((match p.1 with | .int _ n=>n | _=>0),p.2))) I
  simp only[List.map_map]at E
  refine Eq.trans ?_ (E.trans ?_)
  ·rfl
  ·show List.map _ a=a
   conv=>rhs;rw[<-List.map_id a]
   rfl
 refine⟨λA=> ∃s d,cJ i.old i.tgt j.sp i.seen s d/\Tg A b {j with sp:=s} g {i with seen:=d}/\dE d/\Fr (g.s::spB b) H A,
  λA=>mu (match A[g.s]? with | some (.map k _)=>k.toList.map (λe=>((match e.key with | .int _ n=>n | _=>0),e.val)) | _=> []),⟨_,_,.refl,T,v,Fr.refl _ _⟩,?_⟩
 rintro M ⟨s,d,z,r,x,B⟩
 refine HC.mono (gU r.toTc) ?_
 rintro _ N ⟨rfl,rfl⟩
 refine⟨_,rfl,?_⟩
 rw[if_neg (show ¬i.over=true by rw[T.on];decide)]
 refine HC.mono (nY r x w) ?_
 rintro _ O ⟨K,F,m,rfl,h,t,q,D,u,l⟩
 refine⟨_,rfl,?_⟩
 by_cases c:K=true
 ·rw[if_pos c]
  refine⟨⟨F,m,z.trans h,t,q,B.trans D⟩,?_⟩
  show mu _<mu _
  rw[f t,f r];exact l c
 ·rw[if_neg c]
  exact J _ _ ⟨F,m,z.trans h,u (by simpa using c),t,q,B.trans D⟩
theorem nZ(h:cw H k A o):ej.C (some ⟨k,0,none⟩) H (λv a=>v=vi o.free/\a=H):=by
 refine HC.via λR b=>ej.link ?_
 unfold ej.pt
 rw[onPtr_some]
 exact⟨_,by rw[addr_add_mk];exact h.freeAt,b _ _ ⟨rfl,rfl⟩⟩
def Sp.zap(s:Sp)(P:Nat->Prop) [DecidablePred P]:Sp:={s with cur:=λi j=>if P i then 0 else s.cur i j}
theorem SpAt.alike{c:Sp}(h:SpAt H b a)(hm:c.mem=a.mem)(m: ∀g k,g<5->k<4->c.cur g k=a.cur g k):SpAt H b c:=by
 obtain⟨e,f,i,j,l⟩:=h.sp
 exact⟨by rw[hm];exact h.mem,h.ne,e,f,i,j,λg k d hk=>by rw[m g k d hk];exact l g k d hk⟩
theorem SpAt.put4(h:SpAt H b a){g:Nat}(p:g<5):
  aM H ⟨b.sp,1+g*4,none⟩ 0 4/\SpAt (aP H ⟨b.sp,1+g*4,none⟩ [vi 0,vi 0,vi 0,vi 0] 0) b (a.zap (· =g))/\Fr [b.sp] H (aP H ⟨b.sp,1+g*4,none⟩ [vi 0,vi 0,vi 0,vi 0] 0):=by
 obtain⟨d,c,o,f,k⟩:=h.sp
 refine⟨bV c _ _ _ (by omega),?_⟩
 rw[cW _ H d _ 0 c]
 refine⟨⟨h.mem.keep (S:=[b.sp]) Fr.set (by have:=h.ne;simp;omega) (by have:=h.ne;simp;omega),h.ne,_,aZ (bB c),by rw[splice_size];exact o,?_,λi j l m=>?_⟩,Fr.set⟩
 ·rw[cL _ _ _ _ (by omega)];exact f
 ·simp only[Sp.zap]
  by_cases e:i=g
  ·rw[if_pos e,e]
   have:=dv d [vi 0,vi 0,vi 0,vi 0] (1+g*4+0) j (by simp;omega) (by simp;omega)
   rw[show 1+g*4+j=1+g*4+0+j by omega,this]
   rcases(show j=0\/j=1\/j=2\/j=3 by omega)with rfl | rfl | rfl | rfl<;>rfl
  ·rw[if_neg e,<-k i j l m]
   rcases Nat.lt_or_ge i g with n | n
   ·exact cL _ _ _ _ (by omega)
   ·exact eG _ _ _ _ (by simp;omega)
def Sp.fresh(s:Sp)(gs:List Int):Sp:=s.zap (λi=>gs=[]\/(i:Int)∈gs)
theorem Sp.zap_ok(b:SpOK a)(P:Nat->Prop) [DecidablePred P]:SpOK (a.zap P):=⟨b.mem,λg k=>by
 simp only[Sp.zap]
 split
 ·exact .inl rfl
 ·exact b.cur g k⟩
theorem gl{α:Type}{p q:Prop} [Decidable p] [Decidable q] (h:p ↔ q)(x y:α):(if p then x else y)=if q then x else y:=by
 by_cases a:p
 ·rw[if_pos a,if_pos (h.1 a)]
 ·rw[if_neg a,if_neg (λb=>a (h.2 b))]
theorem SpAt.zapTo{P Q:Nat->Prop} [DecidablePred P] [DecidablePred Q] (h:SpAt H b (a.zap P))(e: ∀i,i<5->(P i ↔ Q i)):SpAt H b (a.zap Q):=h.alike rfl (λi k c _=>by
 simp only[Sp.zap]
 exact gl (e i c).symm _ _)
theorem SpAt.zapMore{P R Q:Nat->Prop} [DecidablePred P] [DecidablePred R] [DecidablePred Q] (h:SpAt H b ((a.zap P).zap R))(e: ∀i,i<5->(P i\/R i ↔ Q i)):SpAt H b (a.zap Q):=h.alike rfl (λi k d _=>by
 simp only[Sp.zap]
 by_cases c:R i
 ·rw[if_pos c,if_pos ((e i d).1 (.inr c))]
 ·rw[if_neg c]
  exact gl ⟨λg=>((e i d).2 g).resolve_right c,λf=>(e i d).1 (.inl f)⟩ _ _)
set_option maxRecDepth 100000 in
theorem lI{r:zW}{c:List Int}(h:SpAt H b a)(N:eK H r (ivs c))(D:k=c.length)(T:k<=1000)(B: ∀i∈blks r,i≠b.sp):
  cG.C (some ⟨b.sp,0,none⟩) r k A H (λ_ J=>SpAt J b (a.fresh c)/\Fr [b.sp] H J):=by
 refine HC.via λR Q=>cG.link ?_
 unfold cG.pt zY
 rw[onPtr_some]
 subst D
 have s:SpAt H b (a.zap λi=>(i:Int)<0/\(c=[]\/(i:Int)∈c)):=h.alike rfl (λg Z _ _=>by simp only[Sp.zap];rw[if_neg (by omega)])
 refine⟨λg X=>(0<=g/\g<=5)/\SpAt X b (a.zap λi=>(i:Int)<g/\(c=[]\/(i:Int)∈c))/\Fr [b.sp] H X,λg _=>(5-g).toNat,⟨by omega,s,Fr.refl _ _⟩,?_⟩
 rintro g V ⟨e,L,K⟩
 by_cases d:g<5
 case neg=>
  rw[if_neg d]
  exact Q _ _ ⟨L.zapTo (λi z=>⟨λq=>q.2,λq=>⟨by omega,q⟩⟩),K⟩
 rw[if_pos d]
 have O:IntKind.wrap .i64 (g+1)=g+1:=w64 (by omega)
 have M:(5-(g+1)).toNat< (5-g).toNat:=by omega
 have I: ∀{X:zV},Fr [b.sp] H X->eK X r (ivs c):=λ{X} f=>by
  cases r with
  | none=>exact N
  | some Y=>exact f.rowAt (by have:=B Y.block (by simp);simp;exact this) N
 refine⟨λj X=>(0<=j/\j<=c.length)/\SpAt X b (a.zap λi=>(i:Int)<g/\(c=[]\/(i:Int)∈c)\/(i:Int)=g/\g∈c.take j.toNat)/\Fr [b.sp] H X,λj _=>(c.length-j).toNat,⟨by omega,L.zapTo (λi _=>⟨λq=> .inl q,λq=>by
  rcases q with q | q
  ·exact q
  ·simp at q⟩),K⟩,?_⟩
 rintro j W ⟨U,t,p⟩
 by_cases n:j< (c.length:Int)
 ·rw[if_pos n]
  have x:j.toNat<c.length:=by omega
  obtain⟨Y,S,hat⟩:=kz (I p) x
  have G:IntKind.wrap .i64 (j+1)=j+1:=w64 (by omega)
  have u:((c.length:Int)-(j+1)).toNat< ((c.length:Int)-j).toNat:=by omega
  have F:c.take (j+1).toNat=c.take j.toNat++[c[j.toNat]]:=by rw[show(j+1).toNat=j.toNat+1 by omega,List.take_succ_eq_append_getElem x]
  refine⟨Y,S,⟨U.1,n⟩,_,hat,?_⟩
  rw[G]
  by_cases y:c[j.toNat]=g
  ·rw[if_pos y]
   have o:=t.put4 (g:=g.toNat) (by omega)
   rw[addr_add_mk,addr_add_mk,Nat.zero_add]
   refine⟨⟨e.1,d⟩,o.1,λP l=>?_⟩
   subst l
   refine⟨⟨by omega,o.2.1.zapMore (λi z=>⟨λq=>?_,λq=>?_⟩),p.trans o.2.2⟩,u⟩
   ·rcases q with(q | q) | q
    ·exact .inl q
    ·exact .inr ⟨q.1,by rw[F];exact List.mem_append_left _ q.2⟩
    ·exact .inr ⟨by omega,by rw[F,y];simp⟩
   ·rcases q with q | q
    ·exact .inl (.inl q)
    ·exact .inr (by omega)
  ·rw[if_neg y]
   have hm:g∈c.take (j+1).toNat ↔ g∈c.take j.toNat:=by
    rw[F,List.mem_append]
    exact⟨λq=>q.elim id (λq=>absurd (by simpa using q:g=c[j.toNat]).symm y),.inl⟩
   exact⟨⟨by omega,t.zapTo (λi z=>by rw[hm]),p⟩,u⟩
 ·rw[if_neg n]
  rw[List.take_of_length_le (by omega)]at t
  by_cases s:(c.length:Int)=0
  ·rw[if_pos s]
   have v:c=[]:=List.length_eq_zero_iff.1 (by omega)
   have o:=t.put4 (g:=g.toNat) (by omega)
   rw[addr_add_mk,addr_add_mk,Nat.zero_add]
   refine⟨⟨e.1,d⟩,o.1,λP l=>?_⟩
   subst l
   rw[O]
   refine⟨⟨by omega,o.2.1.zapMore (λi z=>⟨λq=>?_,λq=>?_⟩),p.trans o.2.2⟩,M⟩
   ·rcases q with(q | q) | q
    ·exact⟨by omega,q.2⟩
    ·exact⟨by omega,.inl v⟩
    ·exact⟨by omega,.inl v⟩
   ·by_cases m:(i:Int)<g
    ·exact .inl (.inl ⟨m,q.2⟩)
    ·exact .inr (by omega)
  ·rw[if_neg s,O]
   have E:c≠[]:=λh=>s (by rw[h];rfl)
   refine⟨⟨by omega,t.zapTo (λi z=>⟨λq=>?_,λq=>?_⟩),p⟩,M⟩
   ·rcases q with q | q
    ·exact⟨by omega,q.2⟩
    ·exact⟨by omega,.inr (by rw[q.1];exact q.2)⟩
   ·by_cases m:(i:Int)<g
    ·exact .inl ⟨m,q.2⟩
    ·have w:(i:Int)=g:=by omega
     refine .inr ⟨w,?_⟩
     rcases q.2 with q | q
     ·exact absurd q E
     ·rw[<-w];exact q
def Mem.dirtyAt(m:Mem)(g:Int)(k n:Nat):List (Int×Int):=((List.range n).filter λi=>decide (g< (m.seg k).gen/\(m.seg k).cards i<=g)).map λi:Nat=>((k:Int),(i:Int))
def Mem.dirtyOf(m:Mem)(g:Int)(l:List Nat):List (Int×Int):=l.flatMap λk=>m.dirtyAt g k 4
theorem Mem.dirtyAt_len(m:Mem)(g:Int)(k n:Nat):(m.dirtyAt g k n).length<=n:=by
 unfold Mem.dirtyAt;rw[List.length_map];exact Nat.le_trans (List.length_filter_le _ _) (by simp)
theorem Mem.dirtyOf_len(m:Mem)(g:Int): ∀l:List Nat,(m.dirtyOf g l).length<=4*l.length
 | []=>by simp[Mem.dirtyOf]
 | k::l=>by
  have a:=m.dirtyAt_len g k 4
  have b:=m.dirtyOf_len g l
  unfold Mem.dirtyOf at*
  rw[List.flatMap_cons,List.length_append,List.length_cons];omega
theorem Mem.dirtyAt_succ(m:Mem)(g:Int)(k n:Nat):m.dirtyAt g k (n+1)=m.dirtyAt g k n++(if g< (m.seg k).gen/\(m.seg k).cards n<=g then[((k:Int),(n:Int))]else[]):=by
 unfold Mem.dirtyAt
 rw[List.range_succ,List.filter_append,List.map_append]
 congr 1
 by_cases h:g< (m.seg k).gen/\(m.seg k).cards n<=g
 ·rw[if_pos h];simp[h]
 ·rw[if_neg h];simp at h⊢;exact h
theorem Mem.mem_dirty{l:List Nat}{c:Int×Int}:c∈o.dirtyOf d l ↔ ∃k∈l,∃i:Nat,i<4/\c=((k:Int),(i:Int))/\d< (o.seg k).gen/\(o.seg k).cards i<=d:=by
 unfold Mem.dirtyOf Mem.dirtyAt
 simp only[List.mem_flatMap,List.mem_map,List.mem_filter,List.mem_range,decide_eq_true_eq]
 constructor
 ·rintro⟨k,hk,i,⟨e,a,b⟩,rfl⟩;exact⟨k,hk,i,e,rfl,a,b⟩
 ·rintro⟨k,hk,i,e,rfl,a,b⟩;exact⟨k,hk,i,⟨e,a,b⟩,rfl⟩
theorem jU(a c:List (Int×Int)):cT (a++c)=cT a++cT c:=by unfold cT;rw[List.flatMap_append]
set_option maxRecDepth 100000 in
theorem mw(h:CdAt H b a)(ok:SpOK a):
  cP.C (some ⟨b.c,0,none⟩) d H (λv H'=> ∃(B:zW) (n c:Nat) (l:List Nat),v=vs B n c/\dT a.mem [] l/\n=(a.mem.dirtyOf d l).length/\Own H' 127 2 B n c (cT (a.mem.dirtyOf d l))/\(∀i∈blks B,H.size<=i)/\Ext H H'):=by
 refine HC.via λR hR=>cP.link ?_
 unfold cP.pt zY
 refine HC.mono (ik h) ?_
 rintro _ H1 ⟨rfl,rfl⟩
 refine⟨_,rfl,?_⟩
 rw[if_neg (by decide)]
 refine⟨_,rfl,_,h.cPtr,_,rfl,_,h.sp.memPtr,?_⟩
 refine HC.mono (gM (gs:=[]) h.sp.mem ok.mem (show eK H1 none (ivs [])from rfl) rfl (by decide)) ?_
 rintro _ N ⟨B0,c0,l,rfl,hl,K,ag,U⟩
 refine⟨_,_,_,rfl,?_⟩
 have ah:=hl.len
 have ai:=ok.mem.lim
 refine⟨λB n c i A=>(0<=i/\i<=l.length)/\n=(a.mem.dirtyOf d (l.take i.toNat)).length/\Own A 127 2 B n c (cT (a.mem.dirtyOf d (l.take i.toNat)))/\(∀j∈blks B,N.size<=j)/\Ext N A,λ_ _ _ i _=>(l.length-i).toNat,
  ⟨by omega,rfl,gF,by simp,Ext.refl _⟩,?_⟩
 rintro B n c i H3 ⟨hi,rfl,t,I,O⟩
 by_cases y:i< (l.length:Int)
 case neg=>
  rw[if_neg y]
  rw[List.take_of_length_le (by omega)]at t⊢
  exact hR _ _ ⟨B,_,c,l,rfl,hl,rfl,t,λj p=>by have:=I j p;have:=U.size;omega,U.trans O⟩
 rw[if_pos y]
 have w:i.toNat<l.length:=by omega
 obtain⟨bc,ha,F⟩:=k9 (K.ext O) w
 obtain⟨M,aj,ak,_⟩:=hl.has (List.getElem_mem w)
 have ht:l.take (i+1).toNat=l.take i.toNat++[l[i.toNat]]:=by rw[show(i+1).toNat=i.toNat+1 by omega,List.take_succ_eq_append_getElem w]
 generalize hk:l[i.toNat]=k at*
 have V:=h.ext (U.trans O)
 have ld:=a.mem.dirtyOf_len d (l.take i.toNat)
 have ll:(l.take i.toNat).length<=1024:=by rw[List.length_take];omega
 refine⟨bc,ha,⟨hi.1,y⟩,(k:Int),F,_,V.cPtr,_,rfl,_,V.sp.memPtr,?_⟩
 refine HC.mono (fq V.sp.mem) ?_
 rintro _ H4 ⟨rfl,e4⟩
 have a8:a.mem.segOr k=a.mem.seg k:=by unfold Mem.segOr;rw[if_pos M,show((k:Nat):Int).toNat=k by omega]
 rw[a8]
 refine⟨_,_,_,_,_,_,_,_,rfl,λz H5 Y W=>?_⟩
 obtain⟨a1,hs⟩:=gz (a.mem.seg k) Y W
 refine⟨a1,λH6 X=>?_⟩
 obtain⟨e6,a3,_,_,a7⟩:=hs H6 X
 have o:=a7
 simp only[aU,and_true,addr_add_mk,Nat.zero_add]at o
 refine⟨(a.mem.seg k).cards 0,(a.mem.seg k).cards 1,(a.mem.seg k).cards 2,(a.mem.seg k).cards 3,?_,?_⟩
 ·rw[addr_add_mk]
  refine⟨?_,?_,?_,?_,trivial⟩<;>rw[addr_add_mk]
  ·exact o.2.2.2.1
  ·exact o.2.2.2.2.1
  ·exact o.2.2.2.2.2.1
  ·exact o.2.2.2.2.2.2
 have D:=e4.trans e6
 have au:H3.size<=z:=by have:=e4.size;omega
 have hw:IntKind.wrap .i64 (i+1)=i+1:=w64 (by omega)
 have a2:((l.length:Int)-(i+1)).toNat< ((l.length:Int)-i).toNat:=by omega
 refine⟨λS n' c' j A=>(0<=j/\j<=4)/\n'=(a.mem.dirtyOf d (l.take i.toNat)++a.mem.dirtyAt d k j.toNat).length/\Own A 127 2 S n' c' (cT (a.mem.dirtyOf d (l.take i.toNat)++a.mem.dirtyAt d k j.toNat))/\(∀j∈blks S,N.size<=j/\j≠z)/\Ext N A/\hat A ⟨z,0,none⟩=some (vi (a.mem.seg k).gen),λ_ _ _ j _=>(4-j).toNat,
  ⟨by omega,by simp[Mem.dirtyAt],by simpa[Mem.dirtyAt]using t.ext D,λj p=>⟨I j p,by have:=t.lt j p;omega⟩,O.trans D,a3⟩,?_⟩
 rintro S n' c' j T ⟨p,rfl,m,g,P,r⟩
 by_cases x:j<4
 case neg=>
  rw[if_neg x,hw]
  have a4:j.toNat=4:=by omega
  rw[a4]at m⊢
  have u:a.mem.dirtyOf d (l.take (i+1).toNat)=a.mem.dirtyOf d (l.take i.toNat)++a.mem.dirtyAt d k 4:=by
   rw[ht];unfold Mem.dirtyOf;rw[List.flatMap_append];simp
  refine⟨⟨by omega,by rw[u],by rw[u];exact m,λj p=>(g j p).1,P⟩,a2⟩
 rw[if_pos x]
 have a0: ∃q:Nat,j=q/\q<4:=⟨j.toNat,by omega,by omega⟩
 obtain⟨e,rfl,aR⟩:=a0
 have a9:IntKind.wrap .i64 ((e:Int)+1)=(e:Int)+1:=w64 (by omega)
 have f:((e:Int)+1).toNat=e+1:=by omega
 refine⟨(a.mem.seg k).cards e,⟨⟨by omega,x⟩,?_⟩,_,r,?_⟩
 ·rcases(show e=0\/e=1\/e=2\/e=3 by omega)with rfl | rfl | rfl | rfl<;>rfl
 rw[a9]
 have J:((e:Int)).toNat=e:=by omega
 rw[J]at m
 rw[J]
 have ay:=a.mem.dirtyAt_len d k e
 have G:(4-((e:Int)+1)).toNat< (4-(e:Int)).toNat:=by omega
 by_cases u:d< (a.mem.seg k).gen/\(a.mem.seg k).cards e<=d
 ·rw[if_pos (by simp;exact⟨u.1,u.2⟩)]
  intro c8 H8 Z E
  have Q:Ext T H8:=Ext.push' E
  refine eV (ys:=[vi (k:Int),vi (e:Int)]) (m.ext Q) (ft (aL Z E) _ 0 0 (λj p=>by
   simp only[List.length_cons,List.length_nil]at p
   rcases(show j=0\/j=1 by omega)with rfl | rfl<;>rfl)) rfl rfl rfl (by rw[List.length_append];omega) ?_
  intro p' c9 H9 L f9 a6
  have s:a.mem.dirtyAt d k (e+1)=a.mem.dirtyAt d k e++[((k:Int),(e:Int))]:=by rw[Mem.dirtyAt_succ,if_pos u]
  refine⟨⟨by omega,by rw[f,s];simp;omega,?_,λj p=>?_,(P.trans Q).fr_trans f9 (λj p=>(g j p).1),f9.hat (λhm=>(g _ hm).2 rfl) (Q.hat r)⟩,G⟩
  ·rw[f,s,<-List.append_assoc,jU];exact L
  ·rcases a6 j p with q | q
   ·exact g j q
   ·have:=P.size;have:=Q.size
    have h5:z<T.size:=by
     unfold Go.Proofs.YtfhbhckhmnleoaaGreat.hat at r
     rcases Nat.lt_or_ge z T.size with h | h
     ·exact h
     ·simp[Array.getElem?_eq_none h]at r
    exact⟨by omega,by omega⟩
 ·rw[if_neg (by simpa using u)]
  have s:a.mem.dirtyAt d k (e+1)=a.mem.dirtyAt d k e:=by rw[Mem.dirtyAt_succ,if_neg u,List.append_nil]
  exact⟨⟨by omega,by rw[f,s],by rw[f,s];exact m,g,P,r⟩,G⟩
