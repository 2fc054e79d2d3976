/-
 A trace begins (package trace): Start. Proves nothing of any one statement.
-/
import Derived.Test.YtfhbhckhmnleoaaGreatTrF
set_option linter.unusedVariables false
set_option linter.unusedSimpArgs false
namespace Go.Proofs.YtfhbhckhmnleoaaGreat
open Go Go.Proofs.Tryz
variable{H:zV}{d:Blk}{i:Tr}{j:TB}{k u:Int}{o:Mem}{v:Sp}{z B:Nat}{A:Hp}
theorem sP(A a:Value)(C:List Value){z:Value}{k:Nat}(hk:k<B):((([A,a]++List.replicate B z++C:List Value).toArray)[2+k]?)=some z:=by
 rw[List.getElem?_toArray,List.getElem?_append_left (by simp;omega),List.getElem?_append_right (by simp)]
 simp only[List.length_cons,List.length_nil]
 rw[List.getElem?_replicate,if_pos (by omega)]
theorem tL(A B:Value)(C:List Value){z:Value}(n k:Nat):((([A,B]++List.replicate n z++C:List Value).toArray)[2+n+k]?)=C[k]?:=by
 rw[List.getElem?_toArray,List.getElem?_append_right (by simp;omega)]
 congr 1
 simp only[List.length_append,List.length_cons,List.length_nil,List.length_replicate];omega
theorem tM(A B:Value)(C:List Value){z:Value}(n:Nat):((([A,B]++List.replicate n z++C:List Value).toArray)[0]?)=some A/\((([A,B]++List.replicate n z++C:List Value).toArray)[1]?)=some B:=by
 constructor<;>rw[List.getElem?_toArray]<;>rfl
theorem tN(A B:Value)(C:List Value){z:Value}(n:Nat):([A,B]++List.replicate n z++C:List Value).toArray.size=2+n+C.length:=by simp;omega
theorem TrAt.init{f s:Nat}(q:H[B]?=some (.cells ([vp (some ⟨d.h,0,none⟩),vi k]++List.replicate 1024 (vi 0)++[.map (some f),.map (some s),vN,vi 0]:List Value).toArray 106 (0,0)))
  (n:H[f]?=some (.map #[] 0)) (p:H[s]?=some (.map #[] 0)) (b:B≠f/\B≠s/\f≠s):TrAt H d ⟨B,f,s,none,0,0⟩ ⟨k,λ_=>false,[],[],[],false⟩:=by
 have e:=tM (vp (some ⟨d.h,0,none⟩)) (vi k) [.map (some f),.map (some s),vN,vi 0] (z:=vi 0) 1024
 have j:=λr (hk:r<1024)=>sP (vp (some ⟨d.h,0,none⟩)) (vi k) [.map (some f),.map (some s),vN,vi 0] (z:=vi 0) hk
 have c:=λr=>tL (vp (some ⟨d.h,0,none⟩)) (vi k) [.map (some f),.map (some s),vN,vi 0] (z:=vi 0) 1024 r
 have l:=tN (vp (some ⟨d.h,0,none⟩)) (vi k) [.map (some f),.map (some s),vN,vi 0] (z:=vi 0) 1024
 generalize (([vp (some ⟨d.h,0,none⟩),vi k]++List.replicate 1024 (vi 0)++[.map (some f),.map (some s),vN,vi 0]:List Value).toArray)=g at*
 refine⟨⟨g,q,l,e.1,e.2,λr hk=>j r hk,c 0,c 1,c 2,c 3⟩,⟨_,_,n,rfl⟩,⟨_,_,p,rfl⟩,rfl,(λa m=>by cases m),⟨rfl,Nat.zero_le _⟩,⟨b.1,b.2.1,b.2.2,λi o=>by simp at o⟩⟩
theorem TrAt.put{q:TB}(h:TrAt H d q i){o:Nat}{v:Value}(k:o<1030):
  aN H ⟨q.t,o,none⟩ 0 1/\Fr [q.t] H (aV H ⟨q.t,o,none⟩ [v] 0)/\ ∃a b:Array Value,H[q.t]?=some (.cells a 106 (0,0))/\(aV H ⟨q.t,o,none⟩ [v] 0)[q.t]?=some (.cells b 106 (0,0))/\b.size=a.size/\ ∀j:Nat,b[j]?=if j=o then some v else a[j]?:=by
 obtain⟨a,c,g,_⟩:=h.tr
 refine⟨cD c _ _ _ (by omega),?_⟩
 rw[dO _ H a _ 0 c]
 refine⟨Fr.set,a,_,c,bD (bC c),splice_size _ _ _,λj=>?_⟩
 by_cases e:j=o
 ·rw[if_pos e,e]
  have:=eU a [v] (o+0) 0 (by simp;omega) (by simp)
  simpa using this
 ·rw[if_neg e]
  rcases Nat.lt_or_ge j o with f | f
  ·exact dJ _ _ _ _ (by omega)
  ·exact gf _ _ _ _ (by simp;omega)
theorem TrAt.rest{e:zV}(h:TrAt H d j i)(f:Fr [j.t] H e):(∃(b:Array MapEntry) (c:Nat),e[j.f]?=some (.map b c)/\Ents (dX .i64) b.toList i.frm)/\(∃(b:Array MapEntry) (c:Nat),e[j.s]?=some (.map b c)/\Ents (dX .i64) b.toList i.seen)/\gc e j.cB (dV i.cards):=by
 obtain⟨b,c,p,n⟩:=h.frm
 obtain⟨l,k,q,o⟩:=h.seen
 have r:=h.ne
 refine⟨⟨b,c,f.get (by simp;omega) p,n⟩,⟨l,k,f.get (by simp;omega) q,o⟩,?_⟩
 have g:=h.cards
 cases m:j.cB with
 | none=>rw[m]at g;exact g
 | some a=>
  rw[m]at g
  refine f.rowAt ?_ g
  have:=r.2.2.2 a.block (by rw[m];simp)
  simp;omega
theorem TrAt.putOld(h:TrAt H d j i){k:Nat}(hk:k<1024):
  aN H ⟨j.t,2+k,none⟩ 0 1/\Fr [j.t] H (aV H ⟨j.t,2+k,none⟩ [vi 1] 0)/\TrAt (aV H ⟨j.t,2+k,none⟩ [vi 1] 0) d j {i with old:=λG=>if G=k then true else i.old G}:=by
 obtain⟨x,f,D,c,y,z,F,b⟩:=h.put (o:=2+k) (v:=vi 1) (by omega)
 obtain⟨A,B,C⟩:=h.rest f
 refine⟨x,f,?_⟩
 obtain⟨l,g,E,m,n,p,q,r,s,t⟩:=h.tr
 rw[y]at g;cases g
 refine⟨⟨c,z,by omega,by rw[b,if_neg (by omega)];exact m,by rw[b,if_neg (by omega)];exact n,λG w=>?_,by rw[b,if_neg (by omega)];exact q,by rw[b,if_neg (by omega)];exact r,by rw[b,if_neg (by omega)];exact s,by rw[b,if_neg (by omega)];exact t⟩,A,B,C,λa u=>Nat.lt_of_lt_of_le (h.cB a u) f.size,h.clen,h.ne⟩
 rw[b]
 by_cases e:G=k
 ·subst e;rw[if_pos rfl];simp
 ·rw[if_neg (by omega),p G w];simp[e]
theorem TrAt.putCards(h:TrAt H d j i){B:zW}{n c:Nat}{l:List (Int×Int)}(r:gc H B (dV l))(m: ∀N∈blks B,N<H.size)(hn:n=l.length/\n<=4096)(q: ∀N∈blks B,N ∉ j.all):
  aN H ⟨j.t,1028,none⟩ 0 1/\Fr [j.t] H (aV H ⟨j.t,1028,none⟩ [vs B n c] 0)/\TrAt (aV H ⟨j.t,1028,none⟩ [vs B n c] 0) d {j with cB:=B,cN:=n,cC:=c} {i with cards:=l}:=by
 obtain⟨C,e,I,f,D,E,L,b⟩:=h.put (o:=1028) (v:=vs B n c) (by omega)
 obtain⟨F,G,M⟩:=h.rest e
 refine⟨C,e,?_⟩
 obtain⟨s,p,J,t,u,w,x,y,K,z⟩:=h.tr
 rw[D]at p;cases p
 refine⟨⟨f,E,by omega,by rw[b,if_neg (by omega)];exact t,by rw[b,if_neg (by omega)];exact u,λN k=>by rw[b,if_neg (by omega)];exact w N k,by rw[b,if_neg (by omega)];exact x,by rw[b,if_neg (by omega)];exact y,by rw[b,if_pos rfl],by rw[b,if_neg (by omega)];exact z⟩,F,G,?_,λa A=>?_,hn,⟨h.ne.1,h.ne.2.1,h.ne.2.2.1,λN k=>?_⟩⟩
 ·cases B with
  | none=>exact r
  | some a=>
   refine e.rowAt ?_ r
   have:=q a.block (by simp)
   simp[TB.all]at this⊢;omega
 ·have g:B=some a:=A
  subst g
  exact Nat.lt_of_lt_of_le (m _ (by simp)) e.size
 ·have:=q N k
  simp only[TB.all,List.mem_cons,not_or]at this
  exact⟨this.1,this.2.1,this.2.2.1⟩
theorem TrAt.putFrm{b:Array MapEntry}{m:List (Int×Value)}(h:TrAt H d j i)(r:Ents (dX .i64) b.toList m):TrAt (bN H j.f (.map b z)) d j {i with frm:=m}:=by
 have f:Fr [j.f] H (bN H j.f (.map b z)):=Fr.set
 have t:=h.lt j.f (by simp[TB.all])
 obtain⟨n,o,s⟩:=h.tr
 obtain⟨g,e,p,l⟩:=h.seen
 have u:=h.ne
 refine⟨⟨n,f.get (by simp;omega) o,s⟩,⟨b,z,bD t,r⟩,⟨g,e,f.get (by simp;omega) p,l⟩,?_,λa q=>Nat.lt_of_lt_of_le (h.cB a q) f.size,h.clen,h.ne⟩
 have c:=h.cards
 cases k:j.cB with
 | none=>rw[k]at c;exact c
 | some a=>
  rw[k]at c
  refine f.rowAt ?_ c
  have:=u.2.2.2 a.block (by rw[k];simp)
  simp;omega
def eM(g:Int):List Int:=(List.range (g+1).toNat).map λi:Nat=>(i:Int)
theorem jF:u∈eM k ↔ 0<=u/\u<=k:=by
 unfold eM
 rw[List.mem_map]
 constructor
 ·rintro⟨i,a,rfl⟩;rw[List.mem_range]at a;omega
 ·rintro⟨b,c⟩;exact⟨u.toNat,by rw[List.mem_range];omega,by omega⟩
def Mem.young(m:Mem)(g:Int)(k:Nat):Bool:=decide (m.has k/\(m.seg k).gen<=g)
def Mem.nyoung(m:Mem)(g:Int):Nat:=(m.takenTo (eM g) m.limit).length
structure gS (m:Mem) (g T:Int) (t:Tr):Prop where
 tgt:t.tgt=T
 old: ∀k,k<1024->t.old k=m.young g k
 frm: ∀k:Int,0<=k->mget t.frm k=if m.has k/\(m.seg k.toNat).gen=T then some (vi (m.seg k.toNat).n)else none
 seen: ∀k:Int,0<=k->mget t.seen k=if m.has k/\(m.seg k.toNat).gen=T then some (vi (m.seg k.toNat).n)else none
 frm0: ∀k:Int,k<0->mget t.frm k=none
 seen0: ∀k:Int,k<0->mget t.seen k=none
 cards: ∃l,cU m [] l/\t.cards=m.dirtyOf g l
 over:t.over=false
theorem gS.cardsOK(h:gS o k u i)(d:aX o):kE i.cards:=by
 obtain⟨l,b,e⟩:=h.cards
 rw[e]
 intro c a
 obtain⟨m,hk,j,g,rfl,_⟩:=Mem.mem_dirty.1 a
 obtain⟨_,f,_⟩:=b.has hk
 have:=d.lim
 exact⟨⟨by show(0:Int)<=(m:Int);omega,by show(m:Int)<1024;omega⟩,by show(0:Int)<=(j:Int);omega,by show(j:Int)<4;omega⟩
theorem gS.seenOK(h:gS o k u i)(b:aX o):eR i.seen:=by
 intro c v a
 rcases Int.lt_or_le c 0 with hk | hk
 ·rw[h.seen0 c hk]at a;cases a
 rw[h.seen c hk]at a
 split at a
 ·cases a
  exact⟨_,rfl,(b.seg _).n⟩
 ·cases a
def ic(s:Sp)(g T more:Int):Int:=if g<0\/4<=g\/T<g\/g+1<T\/more<0 then 1 else if s.mem.free-2*s.mem.nyoung g-8<more then 2 else 0
theorem Sp.fresh_ok(b:SpOK v)(a:List Int):SpOK (v.fresh a):=Sp.zap_ok b _
def Told(m:Mem)(ks:List (Int×Value))(l:List Nat):Prop:= ∀k:Int,mget ks k=if 0<=k/\k.toNat∈l then some (vi (m.seg k.toNat).n)else none
theorem Told.put{m:Mem}{c:List (Int×Value)}{l:List Nat}(h:Told m c l)(k:Nat){v:Value}:Told m (mput (mput c k v) k (vi (m.seg k).n)) (l++[k]):=by
 intro a
 rw[jE,jE,h a]
 by_cases e:a=k
 ·subst e
  rw[if_pos rfl,if_pos ⟨by omega,by simp⟩];simp
 ·rw[if_neg e,if_neg e]
  refine iC ⟨λq=>⟨q.1,List.mem_append_left _ q.2⟩,λq=>⟨q.1,?_⟩⟩ _ _
  rcases List.mem_append.1 q.2 with b | b
  ·exact b
  ·simp at b;omega
set_option maxRecDepth 100000 in
theorem nn{x:Hp}{T m:Int}(hp:HpAt H d x)(ok:SpOK x.sp)(he:x.sp.mem.Even)(dv:x.sp.cf<4611686018427387904)(hg:I64 u)(hT:I64 T)(hm:I64 m):
  gj.C (some ⟨d.h,0,none⟩) u T m H (λv H'=>(ic x.sp u T m≠0->v=.tuple #[vp none,vi (ic x.sp u T m)]/\Ext H H')/\
   (ic x.sp u T m=0-> ∃(q:TB) (t:Tr),v=.tuple #[vp (some ⟨q.t,0,none⟩),vi 0]/\Tg H' d {x with sp:=x.sp.fresh (eM u)} q t/\gS x.sp.mem u T t/\(∀i∈q.all,H.size<=i)/\Fr (spB d) H H')):=by
 refine HC.via λR hR=>gj.link ?_
 unfold gj.pt zY
 rw[onPtr_some]
 refine⟨_,hp.hPtr,?_⟩
 rw[onPtr_some]
 by_cases P:u<0\/4<=u\/T<u\/u+1<T\/m<0
 ·have e:ic x.sp u T m=1:=by unfold ic;rw[if_pos P]
  rw[if_pos ?_]
  ·exact hR _ _ ⟨λ_=>⟨by rw[e],Ext.refl _⟩,λh=>by rw[e]at h;exact absurd h (by decide)⟩
  ·rcases P with h | h | h | h | h
   ·simp[h]
   ·have:u>=4:=h
    simp[this]
   ·simp[h]
   ·by_cases h4:u>=4
    ·simp[h4]
    ·rw[w64 (n:=u+1) (by omega)]
     have:T>u+1:=h
     simp[this]
   ·simp[h]
 have ek:0<=u/\u<4/\u<=T/\T<=u+1/\0<=m:=by omega
 rw[w64 (n:=u+1) (by omega)]
 rw[if_neg (by
  simp only[Bool.or_eq_true,decide_eq_true_eq]
  omega)]
 have dZ:=ok.mem.lim
 have F:(eM u).length=(u+1).toNat:=by simp[eM]
 refine⟨λB n c i A=>(0<=i/\i<=u+1)/\n=i.toNat/\Own A 3 1 B n c (ivs ((eM u).take i.toNat))/\(∀j∈blks B,H.size<=j)/\Ext H A,λ_ _ _ i _=>(u+1-i).toNat,⟨by omega,rfl,iB,by simp,Ext.refl _⟩,?_⟩
 rintro gB gN gC i H1 ⟨hi,rfl,S,bm,e1⟩
 by_cases bp:i<u+1
 ·rw[if_pos bp]
  intro c2 H2 dt cg
  have e2:Ext H1 H2:=Ext.push' cg
  have hd:(u+1-(i+1)).toNat< (u+1-i).toNat:=by omega
  rw[w64 (n:=i+1) (by omega)]
  refine fU (ys:=[vi i]) (S.ext e2) (gK (aO dt cg) _ 0 0 (λj g=>by
   simp only[List.length_cons,List.length_nil]at g
   obtain rfl:j=0:=by omega
   rfl)) rfl rfl rfl (by omega) ?_
  intro p' c' H4 aS f7 dF
  have ht:(eM u).take (i+1).toNat=(eM u).take i.toNat++[i]:=by
   rw[show(i+1).toNat=i.toNat+1 by omega,List.take_succ_eq_append_getElem (by rw[F];omega)]
   congr 2
   simp[eM];omega
  refine⟨⟨by omega,by omega,?_,λj g=>?_,(e1.trans e2).fr_trans f7 bm⟩,hd⟩
  ·rw[ht,show i.toNat+1=i.toNat+1 from rfl]
   unfold ivs at aS⊢
   rw[List.map_append];exact aS
  ·rcases dF j g with h | h
   ·exact bm j h
   ·have:=e1.size;have:=e2.size;omega
 rw[if_neg bp]
 have dC:i.toNat=(eM u).length:=by rw[F];omega
 rw[dC]at S⊢
 rw[List.take_length]at S
 have am:=hp.ext e1
 refine⟨_,am.hPtr,_,rfl,_,am.cd.cPtr,_,rfl,_,am.cd.sp.memPtr,?_⟩
 refine HC.mono (jg (gs:=eM u) am.cd.sp.mem ok.mem S.src rfl (by omega)) ?_
 rintro _ H4 ⟨yB,yC,b,rfl,ap,aU,dA,f4⟩
 refine⟨_,_,_,rfl,?_⟩
 have a0:=e1.trans f4
 have an:=hp.ext a0
 have dM:=ap.len
 have cy:b.length=x.sp.mem.nyoung u:=ap.perm.length_eq
 refine⟨_,an.hPtr,_,rfl,_,an.cd.cPtr,_,rfl,_,an.cd.sp.memPtr,?_⟩
 refine HC.mono (qA an.cd.sp.mem) ?_
 rintro _ H5 ⟨rfl,rfl⟩
 have dz:=ok.mem.free
 have em:x.sp.mem.nfree<=x.sp.mem.limit:=by
  unfold Mem.nfree
  exact Nat.le_trans List.countP_le_length (by simp)
 refine⟨_,rfl,?_⟩
 rw[w64 (n:=2*(b.length:Int)) (by omega),w64 (n:=x.sp.mem.free-2*(b.length:Int)) (by omega),w64 (n:=x.sp.mem.free-2*(b.length:Int)-8) (by omega)]
 by_cases E:x.sp.mem.free-2*(b.length:Int)-8<m
 ·rw[if_pos E]
  have e:ic x.sp u T m=2:=by unfold ic;rw[if_neg P,if_pos (by rw[<-cy];exact E)]
  exact hR _ _ ⟨λ_=>⟨by rw[e],a0⟩,λh=>by rw[e]at h;exact absurd h (by decide)⟩
 rw[if_neg E]
 have es:ic x.sp u T m=0:=by unfold ic;rw[if_neg P,if_neg (by rw[<-cy];exact E)]
 intro w H6 cm aj r H7 cn ak N H8 ds bj
 have e6:Ext H5 H6:=Ext.push' aj
 have f5:Ext H6 H7:=Ext.push' ak
 have e8:Ext H7 H8:=Ext.push' bj
 have z6:H6.size=H5.size+1:=by rw[aj];simp
 have z7:H7.size=H6.size+1:=by rw[ak];simp
 have z5:=a0.size
 have af:Ext H5 H8:=(e6.trans f5).trans e8
 have bV:=a0.trans af
 have eo:=hp.ext bV
 have T8:TrAt H8 d ⟨N,w,r,none,0,0⟩ ⟨T,λ_=>false,[],[],[],false⟩:=TrAt.init (aO ds bj) (e8.get (f5.get (aO cm aj))) (e8.get (aO cn ak)) ⟨by omega,by omega,by omega⟩
 have D: ∀j∈d.all,j<H.size:=λj g=>hp.lt j g
 have dL: ∀j∈blks yB,j<H5.size/\H1.size<=j:=λj g=>⟨aU.lt j g,dA j g⟩
 have bn: ∀j∈blks gB,j<H1.size/\H.size<=j:=λj g=>⟨S.lt j g,bm j g⟩
 have z1:=e1.size
 have z4:=f4.size
 refine⟨λi A=>(0<=i/\i<=b.length)/\TrAt A d ⟨N,w,r,none,0,0⟩ ⟨T,λk=>decide (k∈b.take i.toNat),[],[],[],false⟩/\Fr [N] H8 A,λi _=>(b.length-i).toNat,⟨by omega,by simpa using T8,Fr.refl _ _⟩,?_⟩
 rintro M H9 ⟨dB,T9,f9⟩
 by_cases bo:M< (b.length:Int)
 ·rw[if_pos bo]
  have aa:M.toNat<b.length:=by omega
  have br:=(aU.ext af).keep f9 (λj g hm=>by have:=dL j g;simp at hm;omega)
  obtain⟨a,ha,a7⟩:=nk br aa
  obtain⟨aZ,cE,cF,_⟩:=ap.has (List.getElem_mem aa)
  have hput:=T9.putOld (k:=b[M.toNat]) (by omega)
  have hd:((b.length:Int)-(M+1)).toNat< ((b.length:Int)-M).toNat:=by omega
  refine⟨a,ha,⟨dB.1,bo⟩,_,a7,⟨by omega,by omega⟩,?_⟩
  rw[addr_add_mk,addr_add_mk,Nat.zero_add,Nat.mul_one,show((b[M.toNat]:Nat):Int).toNat=b[M.toNat]by omega,w64 (n:=M+1) (by omega)]
  refine⟨hput.1,λe3 c9=>?_⟩
  subst c9
  refine⟨⟨by omega,?_,f9.trans hput.2.1⟩,hd⟩
  have ho:(λk=>decide (k∈b.take (M+1).toNat))=(λi=>if i=b[M.toNat]then true else decide (i∈b.take M.toNat)):=by
   funext k
   rw[show(M+1).toNat=M.toNat+1 by omega,List.take_succ_eq_append_getElem aa]
   by_cases hk:k=b[M.toNat]
   ·rw[if_pos hk,hk];exact zX (List.mem_append_right _ (List.mem_singleton.2 rfl))
   ·rw[if_neg hk,decide_eq_decide,List.mem_append,List.mem_singleton]
    exact⟨λh=>h.resolve_right hk,.inl⟩
  rw[ho];exact hput.2.2
 rw[if_neg bo]
 have aa:M.toNat=b.length:=by omega
 rw[aa,List.take_length]at T9
 have dj:Fr [N] H5 H9:=af.fr.trans f9
 have c7:Ext H H9:=a0.fr_trans dj (λj g=>by simp at g;omega)
 have ao:=hp.ext c7
 refine⟨_,ao.hPtr,_,rfl,_,ao.cd.cPtr,_,rfl,_,ao.cd.sp.memPtr,?_⟩
 intro d4 b2 co az
 have b9:Ext H9 b2:=Ext.push' az
 have z8:H8.size=H7.size+1:=by rw[bj];simp
 have z9:=f9.size
 have cz:=ao.ext b9
 refine HC.mono (jg (gs:=[T]) cz.cd.sp.mem ok.mem (show gc b2 (some ⟨d4,0,none⟩) (ivs [T])from row1 (by rw[aK (aO co az)];rfl)) rfl (by decide)) ?_
 rintro _ b3 ⟨wB,wC,l,rfl,hl,aT,dy,d9⟩
 refine⟨_,_,_,rfl,?_⟩
 have dE:=hl.len
 have I:=b9.trans d9
 have c6:=c7.trans I
 have ev:=I.size
 have dK: ∀j∈blks wB,j<b3.size/\b2.size<=j:=λj g=>⟨aT.lt j g,dy j g⟩
 have eu:=b9.size
 refine⟨λi A=>(0<=i/\i<=l.length)/\(∃ks y:List (Int×Value),TrAt A d ⟨N,w,r,none,0,0⟩ ⟨T,λk=>decide (k∈b),ks,y,[],false⟩/\Told x.sp.mem ks (l.take i.toNat)/\Told x.sp.mem y (l.take i.toNat))/\(∃es cl,A[w]?=some (.map es cl)/\Born es cl)/\(∃es cl,A[r]?=some (.map es cl)/\Born es cl)/\Fr [w,r] b3 A,λi _=>(l.length-i).toNat,?_,?_⟩
 ·have ci: ∀c,c=w\/c=r->b3[c]?=some (.map #[] 0):=λc hc=>by
   have du:H8[c]?=some (.map #[] 0):=by
    rcases hc with rfl | rfl
    ·exact e8.get (f5.get (aO cm aj))
    ·exact e8.get (aO cn ak)
   exact I.get (f9.get (by simp;omega) du)
  exact⟨by omega,⟨[],[],T9.ext I,λk=>by simp[mget],λk=>by simp[mget]⟩,⟨_,_,ci _ (.inl rfl),oZ⟩,⟨_,_,ci _ (.inr rfl),oZ⟩,Fr.refl _ _⟩
 rintro p bB ⟨cv,⟨ks,y,bH,Q,G⟩,⟨bZ,bT,ct,b6⟩,⟨be,b8,cu,b7⟩,a1⟩
 have ew:=a1.size
 have O:Ext H bB:=c6.fr_trans a1 (λj g=>by simp at g;omega)
 have o:=hp.ext O
 by_cases a9:p< (l.length:Int)
 ·rw[if_pos a9]
  have J:p.toNat<l.length:=by omega
  have al:=aT.keep a1 (λj g hm=>by have:=dK j g;simp at hm;omega)
  obtain⟨a,ha,a7⟩:=nk al J
  obtain⟨aZ,cE,cF,_⟩:=hl.has (List.getElem_mem J)
  have cC:l.take (p+1).toNat=l.take p.toNat++[l[p.toNat]]:=by rw[show(p+1).toNat=p.toNat+1 by omega,List.take_succ_eq_append_getElem J]
  generalize hk:l[p.toNat]=k at*
  refine⟨a,ha,⟨cv.1,a9⟩,_,a7,_,o.hPtr,_,rfl,_,o.cd.cPtr,_,rfl,_,o.cd.sp.memPtr,?_⟩
  refine HC.mono (gF o.cd.sp.mem) ?_
  rintro _ e4 ⟨rfl,av⟩
  have dH:x.sp.mem.segOr k=x.sp.mem.seg k:=by unfold Mem.segOr;rw[if_pos aZ,show((k:Nat):Int).toNat=k by omega]
  rw[dH]
  refine⟨_,_,_,_,_,_,_,_,rfl,λZ e5 cp cc=>?_⟩
  obtain⟨dw,hs⟩:=iI (x.sp.mem.seg k) cp cc
  refine⟨dw,λU ce=>?_⟩
  obtain⟨da,_,_,g2,_⟩:=hs U ce
  have z:=av.trans da
  have Y:=bH.ext z
  have ey:=av.size
  have dN:Z≠w/\Z≠r:=by omega
  have K:U[w]?=some (.map bZ bT):=z.get ct
  have L:U[r]?=some (.map be b8):=z.get cu
  obtain⟨dR,dP,q1,bb⟩:=Y.frm
  obtain⟨dS,dQ,q2,bc⟩:=Y.seen
  rw[show(⟨N,w,r,none,0,0⟩:TB).f=w from rfl,K]at q1
  rw[show(⟨N,w,r,none,0,0⟩:TB).s=r from rfl,L]at q2
  cases q1;cases q2
  refine⟨some w,by rw[addr_add_mk];exact Y.fAt,some r,by rw[addr_add_mk];exact Y.sAt,_,by rw[addr_add_mk];exact g2,_,by rw[addr_add_mk];exact g2,w,rfl,bZ,bT,ks,K,bb,b6,?_⟩
  intro de bQ st au V a3 aw bJ cj
  have cI:=bC K
  have e0:=bC L
  have ag:Fr [w] U V:=by rw[a3];exact Fr.set
  have bh:hat V ⟨Z,2,none⟩=some (vi (x.sp.mem.seg k).n):=ag.hat (by simp;omega) g2
  refine⟨by rw[addr_add_mk];exact row1 bh,by rw[addr_add_mk];exact row1 bh,de,bQ,_,(k:Int),by rw[a3];exact bD cI,aw,bJ,cj,?_⟩
  intro df W a4 bX bL
  have cJ:w<V.size:=by have:=ag.size;omega
  have bg:Fr [w] V W:=by rw[a4];exact Fr.set
  have c8:hat W ⟨Z,2,none⟩=some (vi (x.sp.mem.seg k).n):=bg.hat (by simp;omega) bh
  have a8:W[r]?=some (.map be b8):=bg.get (by simp;omega) (ag.get (by simp;omega) L)
  refine⟨by rw[addr_add_mk];exact row1 c8,r,rfl,be,b8,y,a8,bc,b7,?_⟩
  intro dh bS eq cN X a5 ax bM ck
  have cK:=bC a8
  have ah:Fr [r] W X:=by rw[a5];exact Fr.set
  have dl:hat X ⟨Z,2,none⟩=some (vi (x.sp.mem.seg k).n):=ah.hat (by simp;omega) c8
  refine⟨by rw[addr_add_mk];exact row1 dl,dh,bS,_,(k:Int),by rw[a5];exact bD cK,ax,bM,ck,?_⟩
  intro di b4 a6 bY bO
  have c5:Fr [r] X b4:=by rw[a6];exact Fr.set
  have cL:r<X.size:=by have:=ah.size;omega
  have hd:((l.length:Int)-(p+1)).toNat< ((l.length:Int)-p).toNat:=by omega
  rw[w64 (n:=p+1) (by omega)]
  have cX:TrAt V d ⟨N,w,r,none,0,0⟩ ⟨T,λk=>decide (k∈b),mput ks k au,y,[],false⟩:=by rw[a3];exact Y.putFrm aw
  have cY:TrAt W d ⟨N,w,r,none,0,0⟩ ⟨T,λk=>decide (k∈b),mput (mput ks k au) k (vi (x.sp.mem.seg k).n),y,[],false⟩:=by rw[a4];exact cX.putFrm bX
  have d0:TrAt X d ⟨N,w,r,none,0,0⟩ ⟨T,λk=>decide (k∈b),mput (mput ks k au) k (vi (x.sp.mem.seg k).n),mput y k cN,[],false⟩:=by rw[a5];exact cY.putSeen ax
  have d1:TrAt b4 d ⟨N,w,r,none,0,0⟩ ⟨T,λk=>decide (k∈b),mput (mput ks k au) k (vi (x.sp.mem.seg k).n),mput (mput y k cN) k (vi (x.sp.mem.seg k).n),[],false⟩:=by rw[a6];exact d0.putSeen bY
  have bf:Fr [w,r] U b4:=((ag.mono (λj g _=>by simp at g;simp[g])).trans (bg.mono (λj g _=>by simp at g;simp[g]))).trans ((ah.mono (λj g _=>by simp at g;simp[g])).trans (c5.mono (λj g _=>by simp at g;simp[g])))
  refine⟨⟨by omega,⟨_,_,d1,by rw[cC];exact Q.put k,by rw[cC];exact G.put k⟩,⟨df,bQ,?_,bL⟩,⟨di,bS,by rw[a6];exact bD cL,bO⟩,a1.trans (z.fr.trans bf)⟩,hd⟩
  exact c5.get (by simp;omega) (ah.get (by simp;omega) (by rw[a4];exact bD cJ))
 rw[if_neg a9]
 have J:p.toNat=l.length:=by omega
 rw[J,List.take_length]at Q G
 refine⟨_,o.hPtr,_,rfl,_,o.cd.cPtr,?_⟩
 have bq:Own bB 3 1 gB (eM u).length gC (ivs (eM u)):=by
  have h5:=S.ext (f4.trans af)
  have h9:=h5.keep f9 (λj g hm=>by have:=bn j g;simp at hm;omega)
  exact(h9.ext I).keep a1 (λj g hm=>by have:=bn j g;simp at hm;omega)
 refine HC.mono (nM o.cd.sp bq.src rfl (by omega) (λj g=>by have:=bn j g;have:=D d.sp (by simp[Blk.all]);omega)) ?_
 rintro _ bE ⟨cM,ai⟩
 have ac:=o.withSp ai (λj g=>by simp at g;omega) cM
 refine⟨_,ac.hPtr,?_⟩
 have b1:=Sp.fresh_ok ok (eM u)
 refine HC.mono (oF ac.cd b1) ?_
 rintro _ b5 ⟨eZ,f2,f0,f3,rfl,bk,cs,ab,bl,ba⟩
 refine⟨_,_,_,rfl,?_⟩
 have ea:=D d.sp (by simp[Blk.all])
 have bI:TrAt bE d ⟨N,w,r,none,0,0⟩ ⟨T,λk=>decide (k∈b),ks,y,[],false⟩:=bH.keep ai (λj g hq=>by
  simp at g
  simp[TB.all]at hq
  omega)
 have d2:=bI.ext ba
 have dx:=x.sp.mem.dirtyOf_len u f3
 have cr:=bk.len
 have cx:(x.sp.fresh (eM u)).mem=x.sp.mem:=rfl
 rw[cx]at cs ab bk cr
 have ez:=ai.size
 have hput:=d2.putCards (B:=eZ) (n:=f2) (c:=f0) (l:=x.sp.mem.dirtyOf u f3) ab.src ab.lt ⟨cs,by omega⟩ (λj g hq=>by
  have h1:=bl j g
  have h2:=bI.lt j hq
  omega)
 rw[addr_add_mk,Nat.zero_add]
 refine⟨hput.1,λe7 ch=>?_⟩
 subst ch
 have dk:Fr (spB d) H (aV b5 ⟨N,1028,none⟩ [vs eZ f2 f0] 0):=by
  have f1:Fr (spB d) H bE:=O.fr.trans (ai.mono (λj g _=>by simp at g;simp[spB,g]))
  have f6:Fr (spB d) H b5:=f1.trans ba.fr
  refine f6.trans' hput.2.1 (λj g _=>g) (λj g bp=>?_)
  simp at g;omega
 have cA:=ac.ext ba
 have cB:HpAt (aV b5 ⟨N,1028,none⟩ [vs eZ f2 f0] 0) d {x with sp:=x.sp.fresh (eM u)}:=cA.keep hput.2.1 (λj g hb=>by
  have:=D j hb
  simp at g;omega)
 refine hR _ _ ⟨λh=>absurd es h,λ_=>⟨_,_,rfl,⟨⟨cB,b1,hput.2.2,λj g hb=>?_⟩,he,dv,rfl⟩,?_,λj g=>?_,dk⟩⟩
 ·have h1:=D j hb
  simp only[TB.all,List.mem_cons]at g
  rcases g with h | h | h | h
  ·omega
  ·omega
  ·omega
  ·have:=bl j h;have:=O.size;omega
 ·have aL: ∀bu:List (Int×Value),Told x.sp.mem bu l-> ∀k:Int,0<=k->mget bu k=if x.sp.mem.has k/\(x.sp.mem.seg k.toNat).gen=T then some (vi (x.sp.mem.seg k.toNat).n)else none:=by
   intro bu ht k hk
   rw[ht k]
   refine iC ?_ _ _
   rw[hl.perm.mem_iff]
   unfold Mem.takenTo
   rw[List.mem_filter,List.mem_range]
   have h1:=(ok.mem.seg k.toNat).taken
   constructor
   ·rintro⟨_,h3,h4⟩
    simp only[Bool.and_eq_true,decide_eq_true_eq,Bool.or_eq_true,List.isEmpty_iff]at h4
    have h5:(x.sp.mem.seg k.toNat).gen∈[T]:=h4.2.resolve_left (by simp)
    exact⟨⟨hk,by omega,by omega⟩,by simpa using h5⟩
   ·rintro⟨h3,h4⟩
    have h5:=h3.2.2
    refine⟨hk,by have:=h3.2.1;omega,?_⟩
    simp only[Bool.and_eq_true,decide_eq_true_eq,Bool.or_eq_true]
    exact⟨by omega,.inr (by rw[h4];simp)⟩
  refine⟨rfl,λk hk=>?_,λk hk=>?_,λk hk=>?_,λk hk=>?_,λk hk=>?_,⟨f3,bk,rfl⟩,rfl⟩
  ·show decide (k∈b)=_
   unfold Mem.young
   rw[decide_eq_decide,ap.perm.mem_iff]
   unfold Mem.takenTo
   rw[List.mem_filter,List.mem_range]
   have h1:=(ok.mem.seg k).taken
   have h2:=(ok.mem.seg k).gen
   have cw:((k:Nat):Int).toNat=k:=by omega
   constructor
   ·rintro⟨h3,h4⟩
    simp only[Bool.and_eq_true,decide_eq_true_eq,Bool.or_eq_true,List.isEmpty_iff]at h4
    have h5:(x.sp.mem.seg k).gen∈eM u:=by
     rcases h4.2 with h | h
     ·rw[h]at F;simp at F;omega
     ·exact h
    exact⟨⟨by omega,by omega,by rw[cw];omega⟩,(jF.1 h5).2⟩
   ·rintro⟨h3,h4⟩
    have h5:=h3.2.2
    rw[cw]at h5
    refine⟨by have:=h3.2.1;omega,?_⟩
    simp only[Bool.and_eq_true,decide_eq_true_eq,Bool.or_eq_true]
    exact⟨by omega,.inr (jF.2 ⟨h2.1,h4⟩)⟩
  ·exact aL _ Q k hk
  ·exact aL _ G k hk
  ·show mget ks k=none
   rw[Q k,if_neg (by omega)]
  ·show mget y k=none
   rw[G k,if_neg (by omega)]
 ·simp only[TB.all,List.mem_cons]at g
  have:=bV.size
  rcases g with h | h | h | h
  ·omega
  ·omega
  ·omega
  ·have:=bl j h;have:=O.size;omega
def Mem.give(m:Mem)(k:Int):Mem:=if m.has k then{m with free:=m.free+1}.upd k.toNat Seg.none else m
theorem aX.give{m:Mem}(a:aX m)(k:Int):aX (m.give k):=by
 unfold Mem.give
 split
 ·rename_i h
  refine⟨a.lim,λi=>?_,?_,a.count⟩
  ·rw[Mem.upd_seg]
   split
   ·exact kW
   ·exact a.seg i
  ·show m.free+1=_
   have b:({m with free:=m.free+1}.upd k.toNat Seg.none).nfree=(m.upd k.toNat Seg.none).nfree:=rfl
   have:=Mem.nfree_give (m:=m) (k:=k.toNat) (s:=Seg.none) (by have:=h.1;have:=h.2.1;omega) h.2.2 rfl
   rw[b,this,a.free];omega
 ·exact a
set_option maxRecDepth 100000 in
theorem lc{m:Mem}{k:Int}(h:cR H z B m)(x:aX m):
  fm.C (some ⟨z,0,none⟩) k H (λv q=>v=vi (if m.has k then 0 else 19)/\cR q z B (m.give k)/\Fr [z,B] H q):=by
 refine HC.via λR p=>fm.link ?_
 unfold fm.pt zY
 refine HC.mono (kv h) ?_
 rintro _ y ⟨rfl,rfl⟩
 refine⟨_,rfl,?_⟩
 by_cases hk:m.has k
 case neg=>
  rw[if_neg hk,onPtr_none]
  have e:m.give k=m:=by unfold Mem.give;rw[if_neg hk]
  rw[e,if_neg hk]at p
  exact p _ _ ⟨rfl,h,Fr.refl _ _⟩
 rw[if_pos hk,onPtr_some]
 have f:k.toNat<m.limit:=by have:=hk.1;have:=hk.2.1;omega
 have c:=h.canPuts (k:=k.toNat) (o:=0) (n:=72) f (by omega)
 rw[Nat.add_zero]at c
 refine⟨c,λr l=>?_⟩
 obtain⟨N,E,M,J⟩:=nY
 obtain⟨a,g⟩:=h.puts (k:=k.toNat) (o:=0) (vs:=N.toList) (s:=Seg.none) f (by simp;omega) (λj w=>by rw[Nat.zero_add,Array.getElem?_toList];exact J j (by simp at w;omega)) (λj w K=>by simp at K;omega)
 rw[Nat.add_zero]at a g
 have D:r=aV y ⟨B,k.toNat*72,none⟩ N.toList 0:=by rw[l,E]
 rw[<-D]at a g
 have u:m.free<=1024/\0<=m.free:=by
  have:=x.lim
  have:m.nfree<=(List.range m.limit).length:=List.countP_le_length
  simp at this
  rw[x.free];omega
 refine⟨_,rfl,m.free,by rw[addr_add_mk];exact a.freeAt,by rw[addr_add_mk];exact cD a.mem.choose_spec _ _ _ (by simp),λt b=>?_⟩
 rw[addr_add_mk,dO _ _ _ _ _ a.mem.choose_spec,w64 (n:=m.free+1) (by omega)]at b
 have e:m.give k={m with free:=m.free+1}.upd k.toNat Seg.none:=by unfold Mem.give;rw[if_pos hk]
 have G:cR t z B (m.give k):=by
  rw[e]
  subst b
  obtain⟨A,I,L⟩:=a.segs
  exact⟨⟨a.mem.choose,by rw[bD a.lt.1];rfl⟩,h.ne,A,by rw[gO h.ne];exact I,L⟩
 have F:Fr [z] r t:=by subst b;exact Fr.set
 exact p _ _ ⟨by rw[if_pos hk],G,g.trans' F (λi d _=>by simp at d;simp[d]) (λi d _=>by simp at d;simp[d])⟩
def Sp.give(s:Sp)(k:Int):Sp:=if s.mem.has k then{mem:=s.mem.give k,cur:=λi j=>if s.cur i j=k+1 then 0 else s.cur i j}else s
theorem Sp.give_ok(c:SpOK v)(k:Int):SpOK (v.give k):=by
 unfold Sp.give
 split
 ·rename_i hk
  refine⟨c.mem.give k,λg j=>?_⟩
  by_cases h:v.cur g j=k+1
  ·exact .inl (if_pos h)
  ·have a:({mem:=v.mem.give k,cur:=λi j=>if v.cur i j=k+1 then 0 else v.cur i j}:Sp).cur g j=v.cur g j:=if_neg h
   rw[a]
   rcases c.cur g j with f | ⟨l,b,m,n⟩
   ·exact .inl f
   ·have hn:(v.cur g j-1).toNat≠k.toNat:=by have:=b.1;have:=hk.1;omega
    have e:(v.mem.give k).seg (v.cur g j-1).toNat=v.mem.seg (v.cur g j-1).toNat:=by unfold Mem.give;rw[if_pos hk,Mem.upd_other _ _ hn]
    have d:(v.mem.give k).limit=v.mem.limit:=by unfold Mem.give;rw[if_pos hk];rfl
    exact .inr ⟨l,⟨b.1,by show _< ((v.mem.give k).limit:Int);rw[d];exact b.2.1,by show((v.mem.give k).seg _).taken≠0;rw[e];exact b.2.2⟩,by show((v.mem.give k).seg _).gen=_;rw[e];exact m,by show((v.mem.give k).seg _).kind=_;rw[e];exact n⟩
 ·exact c
set_option maxRecDepth 100000 in
theorem oG{s:Sp}{k:Int}(h:SpAt H d s)(l:SpOK s)(M:0<=k/\k<=1024):
  dQ.C (some ⟨d.sp,0,none⟩) k H (λv I=>(∃e:Int,v=vi e)/\SpAt I d (s.give k)/\Fr [d.sp,d.m,d.s] H I):=by
 refine HC.via λR u=>dQ.link ?_
 unfold dQ.pt zY
 refine HC.mono (lA h) ?_
 rintro _ H1 ⟨rfl,rfl⟩
 refine⟨_,rfl,?_⟩
 rw[if_neg (by decide)]
 refine⟨_,rfl,_,h.memPtr,?_⟩
 refine HC.mono (gF h.mem) ?_
 rintro _ H2 ⟨rfl,P⟩
 refine⟨_,_,_,_,_,_,_,_,rfl,λc3 H3 D A=>?_⟩
 obtain⟨E,Y⟩:=iI (s.mem.segOr k) D A
 refine⟨E,λN B=>?_⟩
 obtain⟨Q,y,z,_,_⟩:=Y N B
 have f:=P.trans Q
 have b:=h.ext f
 by_cases hk:s.mem.has k
 case neg=>
  rw[if_neg (by simpa using hk)]
  refine⟨_,b.memPtr,?_⟩
  refine HC.mono (lc b.mem l.mem) ?_
  rintro _ J ⟨rfl,x,o⟩
  have e:s.give k=s:=by unfold Sp.give;rw[if_neg hk]
  have O:s.mem.give k=s.mem:=by unfold Mem.give;rw[if_neg hk]
  rw[O]at x
  rw[e]at u
  exact⟨_,rfl,u _ _ ⟨⟨_,rfl⟩,b.withMem o (by have:=h.ne;simp;omega) x,f.fr.trans (o.mono (λi c _=>by simp at c;simp;omega))⟩⟩
 rw[if_pos (zX hk)]
 have G:s.mem.segOr k=s.mem.seg k.toNat:=by unfold Mem.segOr;rw[if_pos hk]
 rw[G]at y z
 have V:=(l.mem.seg k.toNat).gen
 have X:=(l.mem.seg k.toNat).kind
 have q:=b.curAt (g:=(s.mem.seg k.toNat).gen.toNat) (k:=(s.mem.seg k.toNat).kind.toNat) (by omega) (by omega)
 refine⟨_,y,_,by rw[addr_add_mk];exact z,⟨by omega,by omega⟩,⟨by omega,by omega⟩,_,by simp only[addr_add_mk,Nat.zero_add,Nat.mul_one];exact q,?_⟩
 rw[w64 (n:=k+1) (by omega)]
 have K:s.give k={mem:=s.mem.give k,cur:=λi j=>if s.cur i j=k+1 then 0 else s.cur i j}:=by unfold Sp.give;rw[if_pos hk]
 have a: ∀i j:Nat,s.cur i j=k+1->i=(s.mem.seg k.toNat).gen.toNat/\j=(s.mem.seg k.toNat).kind.toNat:=λi j F=>by
  rcases l.cur i j with h0 | ⟨h1,h2,S,b⟩
  ·have:=hk.1;omega
  ·rw[F,show(k+1-1).toNat=k.toNat by omega]at S b
   omega
 by_cases w:s.cur (s.mem.seg k.toNat).gen.toNat (s.mem.seg k.toNat).kind.toNat=k+1
 ·rw[if_pos w]
  have t:=b.putCur (g:=(s.mem.seg k.toNat).gen.toNat) (k:=(s.mem.seg k.toNat).kind.toNat) (v:=0) (by omega) (by omega)
  refine⟨_,y,_,by rw[addr_add_mk];exact z,⟨by omega,by omega⟩,⟨by omega,by omega⟩,by simp only[addr_add_mk,Nat.zero_add,Nat.mul_one];exact t.1,λJ p=>?_⟩
  simp only[addr_add_mk,Nat.zero_add,Nat.mul_one]at p
  subst p
  refine⟨_,t.2.1.memPtr,?_⟩
  refine HC.mono (lc t.2.1.mem l.mem) ?_
  rintro _ H6 ⟨rfl,Z,L⟩
  have U:=t.2.1.withMem L (by have:=h.ne;simp;omega) Z
  refine⟨_,rfl,u _ _ ⟨⟨_,rfl⟩,?_,(f.fr.trans (t.2.2.mono (λi c _=>by simp at c;simp[c]))).trans (L.mono (λi c _=>by simp at c;simp;omega))⟩⟩
  rw[K]
  refine U.alike rfl (λi j c W=>?_)
  show(if s.cur i j=k+1 then 0 else s.cur i j)=(if i=_/\j=_ then 0 else s.cur i j)
  refine iC ⟨a i j,λr=>?_⟩ _ _
  rw[r.1,r.2];exact w
 ·rw[if_neg w]
  refine⟨_,b.memPtr,?_⟩
  refine HC.mono (lc b.mem l.mem) ?_
  rintro _ J ⟨rfl,x,o⟩
  have T:=b.withMem o (by have:=h.ne;simp;omega) x
  refine⟨_,rfl,u _ _ ⟨⟨_,rfl⟩,?_,f.fr.trans (o.mono (λi c _=>by simp at c;simp;omega))⟩⟩
  rw[K]
  refine T.alike rfl (λi j c W=>?_)
  show(if s.cur i j=k+1 then 0 else s.cur i j)=s.cur i j
  rw[if_neg (λr=>w (by have:=a i j r;rw[<-this.1,<-this.2];exact r))]
def Mem.cardLen(m:Mem)(k c:Int):Nat:=(min 16 ((m.seg k.toNat).n-c*16)).toNat
def Mem.markOf(m:Mem)(k c:Int)(n:Nat):Int:=(m.row (k*64+c*16) n).foldl (λmk w=>m.younger (m.seg k.toNat) w mk) 5
def Mem.again(m:Mem)(k c:Int):Mem:=if m.has k/\0<=c/\c<4 then(m.mark k c (m.markOf k c (m.cardLen k c))).1 else m
theorem Mem.markOf_succ(m:Mem)(k c:Int)(n:Nat):m.markOf k c (n+1)=m.younger (m.seg k.toNat) (m.get (k*64+c*16+n)) (m.markOf k c n):=by
 unfold Mem.markOf Mem.row
 rw[List.range_succ,List.map_append,List.foldl_append];rfl
set_option maxRecDepth 100000 in
theorem my{d:Value}{b:Blk}{s:Sp}{p1 p2 p3:Nat}{k c:Int}{R0:zV->Prop}(Inv:Nat->zV->Prop)(y:SpOK s)(hk:s.mem.has k)(L:0<=c/\c<4)(D:Inv 0 H)
  (r: ∀j A,Inv j A->SpAt A b s/\hat A ⟨b.c,0,none⟩=some (vp (some ⟨b.sp,0,none⟩))/\hat A ⟨p1,0,none⟩=some (vp (some ⟨b.c,0,none⟩))/\hat A ⟨p2,0,none⟩=some (vi k)/\hat A ⟨p3,0,none⟩=some (vi c))
  (f: ∀j,j<s.mem.cardLen k c-> ∀A,Inv j A->FC prog d #[vu (s.mem.get (k*64+c*16+j))] A (λv z=>v=vT/\Inv (j+1) z))
  (e: ∀A,Inv (s.mem.cardLen k c) A->R0 A):
  dI.C d (some ⟨p1,0,none⟩) (some ⟨p2,0,none⟩) (some ⟨p3,0,none⟩) H (λv A=>v=.tuple #[]/\R0 A):=by
 refine HC.via λR u=>dI.link ?_
 unfold dI.pt zY
 have x:=y.mem.lim
 have N:=hk.1
 have O:=hk.2.1
 refine⟨λi A=> ∃j:Nat,i=j/\j<=s.mem.cardLen k c/\Inv j A,λi _=>(16-i).toNat,⟨0,rfl,Nat.zero_le _,D⟩,?_⟩
 rintro i A ⟨j,rfl,M,m⟩
 have w:s.mem.cardLen k c<=16:=by unfold Mem.cardLen;omega
 by_cases g:(j:Int)<16
 ·rw[if_pos g]
  obtain⟨l,F,G,I,J⟩:=r j A m
  refine⟨_,rfl,_,G,_,rfl,_,F,_,rfl,_,l.memPtr,_,rfl,_,I,_,rfl,_,J,?_⟩
  rw[w64 (n:=k*64) (by omega),w64 (n:=c*16) (by omega),w64 (n:=k*64+c*16) (by omega),w64 (n:=k*64+c*16+j) (by omega)]
  refine HC.mono (hU l.mem y.mem (by omega)) ?_
  rintro _ B ⟨rfl,rfl⟩
  have p:(k*64+c*16+j) / 64=k:=by omega
  have t:(k*64+c*16+(j:Int)) % 64=c*16+j:=by omega
  by_cases o:s.mem.used (k*64+c*16+j)
  ·rw[if_pos o]
   refine⟨_,_,rfl,?_⟩
   rw[if_pos rfl]
   have a:j<s.mem.cardLen k c:=by
    have E:=o.2.2
    rw[p,t]at E
    unfold Mem.cardLen;omega
   refine(f j a B m).mono ?_
   rintro v K ⟨rfl,q⟩
   refine⟨true,rfl,?_⟩
   rw[if_pos rfl,w64 (n:=(j:Int)+1) (by omega)]
   exact⟨⟨j+1,by omega,by omega,q⟩,by show(16-((j:Int)+1)).toNat< (16-(j:Int)).toNat;omega⟩
  ·rw[if_neg o]
   refine⟨_,_,rfl,?_⟩
   rw[if_neg (by decide)]
   have a:j=s.mem.cardLen k c:=by
    rcases Nat.lt_or_ge j (s.mem.cardLen k c)with h | h
    ·refine absurd ⟨by omega,by rw[p];exact hk,?_⟩ o
     rw[p,t]
     unfold Mem.cardLen at h;omega
    ·omega
   exact u _ _ ⟨rfl,e _ (a▸m)⟩
 ·rw[if_neg g]
  have a:j=s.mem.cardLen k c:=by omega
  exact u _ _ ⟨rfl,e _ (a▸m)⟩
theorem Mem.younger_rng(b:aX o)(a:Seg)(w:Int)(h:0<=k/\k<=5):0<=o.younger a w k/\o.younger a w k<=5:=by
 have:=b.genOf w
 unfold Mem.younger
 split
 ·omega
 ·exact h
theorem Mem.markOf_rng{m:Mem}(a:aX m)(k c:Int): ∀n,0<=m.markOf k c n/\m.markOf k c n<=5
 | 0=>(by decide:(0:Int)<=5/\(5:Int)<=5)
 | n+1=>by rw[Mem.markOf_succ];exact Mem.younger_rng a _ _ (Mem.markOf_rng a k c n)
set_option maxRecDepth 100000 in
theorem oH{b:Blk}{s:Sp}{k c:Int}(h:CdAt H b s)(ok:SpOK s)(b8: ∀i,i∈[b.c,b.sp,b.m,b.s]->i<H.size):
  dS.C (some ⟨b.c,0,none⟩) k c H (λv H'=>(∃e:Int,v=vi e)/\CdAt H' b {s with mem:=s.mem.again k c}/\Fr [b.m,b.s] H H'):=by
 refine HC.via λR U=>dS.link ?_
 unfold dS.pt
 intro c1 H1 b1 K
 have e1:Ext H H1:=Ext.push' K
 have g1:=aO b1 K
 refine⟨_,by rw[aK g1];rfl,?_⟩
 have h1:=h.ext e1
 have z1:H1.size=H.size+1:=by rw[K];simp
 refine HC.mono (jM h1) ?_
 rintro _ H2 ⟨rfl,rfl⟩
 refine⟨_,rfl,?_⟩
 rw[if_neg (by decide)]
 refine⟨_,by rw[aK g1];rfl,_,rfl,_,h1.cPtr,_,rfl,_,h1.sp.memPtr,?_⟩
 refine HC.mono (gF h1.sp.mem) ?_
 rintro _ H3 ⟨rfl,W⟩
 refine⟨_,_,_,_,_,_,_,_,rfl,λc4 H4 aa L=>?_⟩
 obtain⟨b3,hs⟩:=iI (s.mem.segOr k) aa L
 refine⟨b3,λD a7=>?_⟩
 obtain⟨X,_,_,_,ae⟩:=hs D a7
 have bj:c4<D.size:=by
  have h4:H4.size=H3.size+1:=by rw[L];simp
  rw[a7,dO _ _ _ _ _ (aO aa L)];simp[h4];omega
 have n:=(e1.trans W).trans X
 have h5:=h.ext n
 have z3:=W.size
 by_cases hk:s.mem.has k
 case neg=>
  rw[if_neg (by simpa using hk)]
  have e:s.mem.again k c=s.mem:=by unfold Mem.again;rw[if_neg (λhh=>hk hh.1)]
  rw[e]at U
  exact U _ _ ⟨⟨_,rfl⟩,h5,n.fr⟩
 rw[if_pos (zX hk)]
 by_cases hc:0<=c/\c<4
 case neg=>
  rw[if_pos (by simp only[Bool.or_eq_true,decide_eq_true_eq];omega)]
  have e:s.mem.again k c=s.mem:=by unfold Mem.again;rw[if_neg (λhh=>hc hh.2)]
  rw[e]at U
  exact U _ _ ⟨⟨_,rfl⟩,h5,n.fr⟩
 rw[if_neg (by simp only[Bool.or_eq_true,decide_eq_true_eq];omega)]
 have bb:s.mem.segOr k=s.mem.seg k.toNat:=by unfold Mem.segOr;rw[if_pos hk]
 rw[bb]at ae
 intro E H6 b2 M
 have e6:Ext D H6:=Ext.push' M
 have g6:=aO b2 M
 obtain⟨ab,ba⟩:=lH (vs:=[vi 5]) g6 rfl rfl
 refine⟨ab,λT a8=>?_⟩
 obtain⟨g7,f7⟩:=ba T a8
 have z5:=X.size
 have e7:Ext D T:=e6.fr_trans f7 (λi g=>by simp at g;omega)
 have ay:T[c1]?=some (.cells #[vp (some ⟨b.c,0,none⟩)] 49 (0,0)):=e7.get (X.get (W.get g1))
 refine⟨_,by rw[aK ay];rfl,?_⟩
 refine eP.link ?_
 unfold eP.pt
 intro d1 W1 b4 O d2 W2 b5 P d3 l b6 Q
 have w1:Ext T W1:=Ext.push' O
 have w2:Ext W1 W2:=Ext.push' P
 have w3:Ext W2 l:=Ext.push' Q
 have y7:T.size=D.size+1:=by
  have:=f7.size
  have h6:H6.size=D.size+1:=by rw[M];simp
  rw[a8,dO _ _ _ _ _ g6];simp[h6]
 have y1:W1.size=T.size+1:=by rw[O];simp
 have y2:W2.size=W1.size+1:=by rw[P];simp
 have y3:l.size=W2.size+1:=by rw[Q];simp
 have az:l[d1]?=some (.cells #[vp (some ⟨b.c,0,none⟩)] 49 (0,0)):=w3.get (w2.get (aO b4 O))
 have aL:l[d2]?=some (.cells #[vi k] 3 (0,0)):=w3.get (aO b5 P)
 have aS:l[d3]?=some (.cells #[vi c] 3 (0,0)):=aO b6 Q
 have t:=(w1.trans w2).trans w3
 refine⟨rfl,?_⟩
 intro rc o p bL N vY hY
 have I:Ext l p:=(Ext.push' rfl).trans (Ext.push' N)
 have a4:p[l.size]?=some (.deferred (some [])):=by
  have:(l.push (.deferred (some [])))[l.size]?=some (.deferred (some [])):=aO rfl rfl
  exact(Ext.push' N).get this
 have aT:p[o]?=some (rc .ready none):=aO (by simp;omega) N
 have G:Ext D p:=(e7.trans t).trans I
 have h9:=h5.ext G
 have d: ∀i,i∈[b.c,b.sp,b.m,b.s]->i<H.size:=b8
 have bQ:=n.size
 refine FE.of2 (enters_of func134 (by kernel_rfl) rfl) rfl (HC.mono (my (b:=b) (s:=s) (p1:=d1) (p2:=d2) (p3:=d3) (k:=k) (c:=c)
  (λj A=>Fr [o,E] p A/\A[o]?=some (rc .ready none)/\A[E]?=some (.cells #[vi (s.mem.markOf k c j)] 3 (0,0))) ok hk hc
  ⟨Fr.refl _ _,aT,by rw[show s.mem.markOf k c 0=5 from rfl];exact I.get (t.get g7)⟩
  (λj A hI=>?_) (λj hj A hI=>?_) (R0:=λA=>Fr [o,E] p A/\A[o]?=some (rc .ready none)/\A[E]?=some (.cells #[vi (s.mem.markOf k c (s.mem.cardLen k c))] 3 (0,0))) (λA hI=>hI)) ?_)
 ·obtain⟨f,_,_⟩:=hI
  have r:=h9.keep f (by have:=d b.c (by simp);simp;omega) (by have:=d b.sp (by simp);simp;omega) (by have:=d b.m (by simp);simp;omega) (by have:=d b.s (by simp);simp;omega)
  refine⟨r.sp,r.cPtr,?_,?_,?_⟩
  ·rw[aK (f.get (by simp;omega) (I.get az))];rfl
  ·rw[aK (f.get (by simp;omega) (I.get aL))];rfl
  ·rw[aK (f.get (by simp;omega) (I.get aS))];rfl
 ·obtain⟨f,ql,qm⟩:=hI
  refine(hY _ A _ ql ⟨ql,λy u=>?_⟩)
  have Y:Fr [o] A y:=by rw[u];exact Fr.set
  have q:Fr [o,E] p y:=f.trans (Y.mono (λi g _=>by simp at g;simp[g]))
  have af:y[o]?=some (rc .busy none):=by rw[u];exact bD (bC ql)
  have x:=Y.get (by simp;omega) qm
  have r:=h9.keep q (by have:=d b.c (by simp);simp;omega) (by have:=d b.sp (by simp);simp;omega) (by have:=d b.m (by simp);simp;omega) (by have:=d b.s (by simp);simp;omega)
  have b9:=q.rowAt (a:=⟨c4,0,none⟩) (by show c4 ∉ [o,E];simp;omega) (G.rowAt ae)
  refine⟨_,by rw[aK (q.get (by simp;omega) ((e7.trans (t.trans I)).get (X.get (W.get g1))))];rfl,_,_,_,_,_,_,_,b9,_,by rw[aK x];rfl,?_⟩
  refine HC.mono (kw r ((ok.mem.seg _).words _)) ?_
  rintro _ bs ⟨rfl,F⟩
  refine⟨_,rfl,?_⟩
  obtain⟨ac,bc⟩:=lH (vs:=[vi (s.mem.younger (s.mem.seg k.toNat) (s.mem.get (k*64+c*16+j)) (s.mem.markOf k c j))]) (F.get x) rfl rfl
  refine⟨ac,λao a5=>?_⟩
  obtain⟨ax,Z⟩:=bc ao a5
  have w:=Z.get (by simp;omega) (F.get af)
  refine⟨w,rfl,?_,bD (bC w),?_⟩
  ·exact((q.trans F.fr).trans (Z.mono (λi g _=>by simp at g;simp[g]))).trans (Fr.set.mono (λi g _=>by simp at g;simp[g]))
  ·rw[Mem.markOf_succ,gO (by omega)];exact ax
 ·rintro _ ap ⟨rfl,aw,ag,ah⟩
  refine⟨ag,λz a6=>?_⟩
  have a0:Fr [o] ap z:=by rw[a6];exact Fr.set
  have q:Fr [o,E] p z:=aw.trans (a0.mono (λi g _=>by simp at g;simp[g]))
  have r:=h9.keep q (by have:=d b.c (by simp);simp;omega) (by have:=d b.sp (by simp);simp;omega) (by have:=d b.m (by simp);simp;omega) (by have:=d b.s (by simp);simp;omega)
  have ai:=a0.get (by simp;omega) ah
  refine⟨_,by rw[aK (q.get (by simp;omega) ((e7.trans (t.trans I)).get (X.get (W.get g1))))];rfl,_,rfl,_,r.cPtr,_,rfl,_,r.sp.memPtr,_,by rw[aK ai];rfl,?_⟩
  refine HC.mono (m7 r.sp.mem) ?_
  rintro _ B ⟨rfl,bd,J⟩
  refine⟨_,rfl,?_⟩
  have e:s.mem.again k c=(s.mem.mark k c (s.mem.markOf k c (s.mem.cardLen k c))).1:=by unfold Mem.again;rw[if_pos ⟨hk,hc⟩]
  have V:=r.withMem (S:=[b.s]) J (λi g=>by simp at g;simp[g]) bd
  have a3:B[l.size]?=some (.deferred (some [])):=J.get (by have:=d b.s (by simp);simp;omega) (q.get (by simp;omega) a4)
  refine⟨a3,?_⟩
  have a1:Fr [l.size] B (B.setIfInBounds l.size (.deferred none)):=Fr.set
  rw[e]at U
  refine U _ _ ⟨⟨_,rfl⟩,V.keep a1 (by have:=d b.c (by simp);simp;omega) (by have:=d b.sp (by simp);simp;omega) (by have:=d b.m (by simp);simp;omega) (by have:=d b.s (by simp);simp;omega),?_⟩
  have av:Ext H p:=n.trans G
  have f1:Ext H z:=av.fr_trans q (λi g=>by simp at g;omega)
  refine(f1.fr.trans (J.mono (λi g _=>by simp at g;simp[g]))).trans' a1 (λi g _=>g) (λi g hl=>by simp at g;omega)
def Sp.gives(s:Sp)(old:Nat->Bool):Nat->Sp
 | 0=>s
 | n+1=>if old n then(s.gives old n).give n else s.gives old n
def Sp.agains(s:Sp)(l:List (Int×Int)):Sp:=l.foldl (λs c=>{s with mem:=s.mem.again c.1 c.2}) s
def Sp.ended(s:Sp)(t:Tr):Sp:=(s.gives t.old 1024).agains t.cards
theorem Sp.agains_snoc(s:Sp)(l:List (Int×Int))(c:Int×Int):s.agains (l++[c])={s.agains l with mem:=(s.agains l).mem.again c.1 c.2}:=by
 unfold Sp.agains;rw[List.foldl_append];rfl
theorem Sp.gives_ok{s:Sp}(a:SpOK s)(old:Nat->Bool): ∀n,SpOK (s.gives old n)
 | 0=>a
 | n+1=>by
  unfold Sp.gives
  split
  ·exact Sp.give_ok (Sp.gives_ok a old n) _
  ·exact Sp.gives_ok a old n
theorem Mem.give_even(b:o.Even)(k:Int):(o.give k).Even:=by
 unfold Mem.give
 split
 ·intro i a
  rw[Mem.upd_seg]at a⊢
  split
  ·rfl
  ·rename_i h;rw[if_neg h]at a;exact b i a
 ·exact b
theorem Sp.give_even(a:v.mem.Even)(k:Int):(v.give k).mem.Even:=by
 unfold Sp.give
 split
 ·exact Mem.give_even a k
 ·exact a
theorem Sp.gives_even{s:Sp}(a:s.mem.Even)(old:Nat->Bool): ∀n,(s.gives old n).mem.Even
 | 0=>a
 | n+1=>by
  unfold Sp.gives
  split
  ·exact Sp.give_even (Sp.gives_even a old n) _
  ·exact Sp.gives_even a old n
theorem Mem.again_seg(m:Mem)(k c:Int):(m.again k c).limit=m.limit/\(m.again k c).free=m.free/\(m.again k c).count=m.count/\ ∀i,((m.again k c).seg i).gen=(m.seg i).gen/\((m.again k c).seg i).kind=(m.seg i).kind/\((m.again k c).seg i).n=(m.seg i).n/\((m.again k c).seg i).taken=(m.seg i).taken/\((m.again k c).seg i).words=(m.seg i).words:=by
 unfold Mem.again
 split
 ·unfold Mem.mark
  split
  ·exact⟨rfl,rfl,rfl,λi=>⟨rfl,rfl,rfl,rfl,rfl⟩⟩
  split
  ·exact⟨rfl,rfl,rfl,λi=>⟨rfl,rfl,rfl,rfl,rfl⟩⟩
  ·refine⟨rfl,rfl,rfl,λi=>?_⟩
   rw[Mem.upd_seg]
   split
   ·rename_i h;rw[h];exact⟨rfl,rfl,rfl,rfl,rfl⟩
   ·exact⟨rfl,rfl,rfl,rfl,rfl⟩
 ·exact⟨rfl,rfl,rfl,λi=>⟨rfl,rfl,rfl,rfl,rfl⟩⟩
theorem Mem.again_has(m:Mem)(d c:Int):(m.again d c).has k ↔ m.has k:=by
 obtain⟨a,_,_,b⟩:=m.again_seg d c
 unfold Mem.has;rw[a,(b _).2.2.2.1]
theorem Mem.again_ok(a:aX o)(k c:Int):aX (o.again k c):=by
 unfold Mem.again
 split
 ·exact a.mark _ _ _
 ·exact a
theorem SpOK.again(a:SpOK v)(k c:Int):SpOK {v with mem:=v.mem.again k c}:=
 a.withMem (Mem.again_ok a.mem k c) (λi h=>(Mem.again_has _ _ _).2 h) (λi=>⟨((v.mem.again_seg k c).2.2.2 i).1,((v.mem.again_seg k c).2.2.2 i).2.1⟩)
theorem TrAt.putOver(h:TrAt H d j i):
  aN H ⟨j.t,1029,none⟩ 0 1/\Fr [j.t] H (aV H ⟨j.t,1029,none⟩ [vi 1] 0)/\TrAt (aV H ⟨j.t,1029,none⟩ [vi 1] 0) d j {i with over:=true}:=by
 obtain⟨t,e,A,c,u,w,D,b⟩:=h.put (o:=1029) (v:=vi 1) (by omega)
 obtain⟨x,y,z⟩:=h.rest e
 refine⟨t,e,?_⟩
 obtain⟨g,f,B,k,l,m,n,p,q,C⟩:=h.tr
 rw[u]at f;cases f
 exact⟨⟨c,w,by omega,by rw[b,if_neg (by omega)];exact k,by rw[b,if_neg (by omega)];exact l,λE s=>by rw[b,if_neg (by omega)];exact m E s,by rw[b,if_neg (by omega)];exact n,by rw[b,if_neg (by omega)];exact p,by rw[b,if_neg (by omega)];exact q,by rw[b,if_pos rfl];rfl⟩,x,y,z,λa r=>Nat.lt_of_lt_of_le (h.cB a r) e.size,h.clen,h.ne⟩
set_option maxRecDepth 100000 in
theorem sQ{R:zk}(T:Tg H d A j i)
  (hR: ∀v y,HpAt y d {A with sp:=A.sp.ended i,ep:=IntKind.wrap .u64 (A.ep+1)}/\TrAt y d j {i with over:=true}/\Fr (d.h::j.t::spB d) H y->R v y):cS.pt (some ⟨j.t,0,none⟩) H R:=by
 unfold cS.pt zY
 refine HC.mono (iW T.toTc) ?_
 rintro _ H1 ⟨rfl,rfl⟩
 refine⟨_,rfl,?_⟩
 rw[if_neg (by rw[T.on];decide)]
 have t:aP H1 ⟨j.t,2,none⟩ 0 ((List.range 1024).map λk=> vi (if i.old k then 1 else 0)):=by
  obtain⟨cs,h1,_,_,_,h5,_⟩:=T.tr.tr
  refine gK h1 _ 2 0 (λax a=>?_)
  simp only[List.length_map,List.length_range]at a
  rw[Nat.add_zero,h5 ax a,List.getElem?_map,List.getElem?_range a];rfl
 refine⟨_,rfl,(List.range 1024).map (λk=> vi (if i.old k then 1 else 0)),by rw[List.length_map,List.length_range],by rw[addr_add_mk];exact t,?_⟩
 refine⟨λaw av=>(0<=aw/\aw<=1024)/\Tc av d {A with sp:=A.sp.gives i.old aw.toNat} j i/\Fr (spB d) H1 av,λaw _=>(1024-aw).toNat,⟨by omega,T.toTc,Fr.refl _ _⟩,?_⟩
 rintro aw H2 ⟨hi,b,E⟩
 by_cases l:aw<1024
 ·rw[if_pos l]
  have P:aw.toNat<1024:=by omega
  have z:(1024-(aw+1)).toNat< (1024-aw).toNat:=by omega
  have hw:IntKind.wrap .i64 (aw+1)=aw+1:=w64 (by omega)
  have x:(aw+1).toNat=aw.toNat+1:=by omega
  refine⟨(if i.old aw.toNat then 1 else 0),⟨⟨hi.1,l⟩,?_⟩,?_⟩
  ·rw[List.getElem?_toArray,List.getElem?_map,List.getElem?_range P];rfl
  by_cases B:i.old aw.toNat=true
  ·rw[if_pos (by rw[if_pos B])]
   obtain⟨U,V,p3,p4⟩:=b.s1
   refine⟨_,U,_,rfl,_,V,_,rfl,_,p3,?_⟩
   refine HC.mono (oG b.hp.cd.sp b.ok (by omega)) ?_
   rintro _ H3 ⟨⟨e,rfl⟩,W,F⟩
   rw[hw]
   refine⟨_,rfl,⟨by omega,?_,E.trans F⟩,z⟩
   have D:A.sp.gives i.old (aw+1).toNat=(A.sp.gives i.old aw.toNat).give aw:=by rw[x];show(if _ then _ else _)=_;rw[if_pos B,show((aw.toNat:Nat):Int)=aw by omega]
   rw[D]
   exact b.step F (λax a=>gH a) (b.hp.withSp F (λax a=>by simp at a;omega) W) (Sp.give_ok b.ok aw)
  ·rw[if_neg (by rw[if_neg B];decide),hw]
   refine⟨⟨by omega,?_,E⟩,z⟩
   have D:A.sp.gives i.old (aw+1).toNat=A.sp.gives i.old aw.toNat:=by rw[x];show(if _ then _ else _)=_;rw[if_neg B]
   rw[D];exact b
 rw[if_neg l]
 have r:aw.toNat=1024:=by omega
 rw[r]at b
 have a7:=Sp.gives_even T.even i.old 1024
 refine⟨_,_,_,by rw[addr_add_mk];exact b.tr.cAt,?_⟩
 obtain⟨ac,ae⟩:=T.tr.clen
 refine⟨λaw av=>(0<=aw/\aw<=j.cN)/\Tc av d {A with sp:=(A.sp.gives i.old 1024).agains (i.cards.take aw.toNat)} j i/\Fr (spB d) H1 av,λaw _=>(j.cN-aw).toNat,⟨by omega,b,E⟩,?_⟩
 rintro aw Y ⟨O,m,f4⟩
 by_cases g:aw< (j.cN:Int)
 ·rw[if_pos g]
  have s:aw.toNat<i.cards.length:=by omega
  obtain⟨ca,L,w⟩:=nl m.tr.cards s
  have z:((j.cN:Int)-(aw+1)).toNat< ((j.cN:Int)-aw).toNat:=by omega
  generalize M:i.cards[aw.toNat]=f at*
  refine⟨ca,L,⟨O.1,g⟩,f.1,f.2,w,λc5 H5 K p=>?_⟩
  obtain⟨N,hs⟩:=boxed (vs:=[vi f.1,vi f.2]) (H1:=H5) (aO K p) rfl rfl
  refine⟨N,λZ J=>?_⟩
  obtain⟨u,I⟩:=hs Z J
  have o:Ext Y Z:=I Y (Ext.push' p) (by omega)
  have c:=m.ext o
  obtain⟨U,V,p3,p4⟩:=c.s1
  refine⟨_,U,_,rfl,_,V,_,u.1,_,by rw[addr_add_mk];exact u.2.1,?_⟩
  refine HC.mono (oH c.hp.cd c.ok (λax a=>c.hp.lt ax (by simp at a;simp[Blk.all];omega))) ?_
  rintro _ H7 ⟨⟨e,rfl⟩,C,G⟩
  rw[w64 (n:=aw+1) (by omega)]
  refine⟨_,rfl,⟨by omega,?_,f4.trans (o.fr.trans (G.mono (λax a _=>by simp at a;simp[spB];omega)))⟩,z⟩
  have et:i.cards.take (aw+1).toNat=i.cards.take aw.toNat++[f]:=by
   rw[show(aw+1).toNat=aw.toNat+1 by omega,List.take_succ_eq_append_getElem s,M]
  rw[et,Sp.agains_snoc]
  exact c.step G (λax a=>by simp at a;simp[Blk.all];omega) (c.hp.withCd G (λax a=>by simp at a;omega) C) (c.ok.again f.1 f.2)
 rw[if_neg g]
 rw[List.take_of_length_le (by omega)]at m
 refine⟨_,m.tr.hPtr,?_⟩
 refine HC.mono (qt m.view) ?_
 rintro _ H8 ⟨V8,f8⟩
 have Q: ∀ax∈hown (some (d,A)),ax ∉ j.all:=λax a hq=>T.apart ax hq (by simp[hown]at a;simp[Blk.all,a])
 have X:=m.tr.keep f8 (λax a=>Q ax a)
 obtain⟨_,S,ai⟩:=View.inv V8
 have hput:=X.putOver
 rw[addr_add_mk]
 refine⟨hput.1,λH9 q=>?_⟩
 rw[show(0:Nat)+1029=1029 from rfl]at q
 subst q
 refine hR _ _ ⟨S.keep hput.2.1 (λax a hb=>T.apart j.t (by simp[TB.all]) (by simp at a;rw[<-a];exact hb)),hput.2.2,?_⟩
 refine((f4.mono (λax a _=>by simp[a])).trans (f8.mono (λax a _=>by simp[hown]at a;simp[a]))).trans (hput.2.1.mono (λax a _=>by simp at a;simp[a]))
theorem pq(T:Tg H d A j i):
  cS.C (some ⟨j.t,0,none⟩) H (λ_ a=>HpAt a d {A with sp:=A.sp.ended i,ep:=IntKind.wrap .u64 (A.ep+1)}/\TrAt a d j {i with over:=true}/\Fr (d.h::j.t::spB d) H a):=
 HC.via λR b=>cS.link (sQ T b)
def fT(lo hi:Int):Nat:=((hi-lo+1) / 2).toNat
def ij(k lo:Int)(n:Nat):List Int:=(List.range n).map λj:Nat=>k*64+(lo+2*(j:Int))
theorem oI(k a:Int)(n:Nat):ij k a (n+1)=ij k a n++[k*64+(a+2*(n:Int))]:=by
 unfold ij;rw[List.range_succ,List.map_append];rfl
theorem jN(k a:Int)(n:Nat):(ij k a n).length=n:=by simp[ij]
def Mem.weakSeg(m:Mem)(t:Tr)(k:Nat):List Int:=if(m.seg k).kind=1/\t.old k=false then ij k (seenAt t.frm k) (fT (seenAt t.frm k) (m.seg k).n)else[]
def Mem.weakCard(m:Mem)(c:Int×Int):List Int:=if(m.segOr c.1).kind=1 then ij c.1 (c.2*16) (fT (c.2*16) (min (m.segOr c.1).n ((c.2+1)*16)))else[]
def Mem.weaks(m:Mem)(t:Tr)(l:List Nat):List Int:=l.flatMap (m.weakSeg t)++t.cards.flatMap m.weakCard
set_option maxRecDepth 100000 in
theorem mm{H:zV}{a:Int}{c n z:Nat}{B:zW}{ws:List Int}(hk:0<=k/\k<1024)(X:0<=u/\u<=64)(hh:a<=64)(P:H[c]?=some (.cells #[vs B n z] 75 (0,0)))(K:Own H 3 1 B n z (ivs ws))(G:c ∉ blks B)(hn:n<=1000000)(Y:n=ws.length):
  bF.C k u a (some ⟨c,0,none⟩) H (λ_ y=> ∃(d:zW) (b:Nat),y[c]?=some (.cells #[vs d (n+fT u a) b] 75 (0,0))/\Own y 3 1 d (n+fT u a) b (ivs (ws++ij k u (fT u a)))/\Fr (c::blks B) H y/\(∀j∈blks d,j∈blks B\/H.size<=j)):=by
 refine HC.via λR V=>bF.link ?_
 unfold bF.pt zY
 have wl:fT u a<=33:=by unfold fT;omega
 have W:=bC P
 refine⟨λi A=> ∃(j:Nat) (d:zW) (b:Nat),i=u+2*(j:Int)/\j<=fT u a/\A[c]?=some (.cells #[vs d (n+j) b] 75 (0,0))/\Own A 3 1 d (n+j) b (ivs (ws++ij k u j))/\Fr (c::blks B) H A/\(∀j∈blks d,j∈blks B\/H.size<=j),λi _=>(100-i).toNat,
  ⟨0,B,z,by omega,by omega,P,by simpa[ij]using K,Fr.refl _ _,λj x=> .inl x⟩,?_⟩
 rintro i A ⟨j,d,b,rfl,x,o,l,w,e⟩
 by_cases s:u+2*(j:Int)<a
 ·rw[if_pos s]
  have p:j+1<=fT u a:=by unfold fT;omega
  refine⟨_,rfl,_,_,_,by rw[aK o];rfl,?_⟩
  rw[w64 (n:=k*64) (by omega),w64 (n:=k*64+(u+2*(j:Int))) (by omega),w64 (n:=u+2*(j:Int)+2) (by omega)]
  intro c2 S E r
  have v:Ext A S:=Ext.push' r
  refine fU (ys:=[vi (k*64+(u+2*(j:Int)))]) (l.ext v) (gK (aO E r) _ 0 0 (λj x=>by
   simp only[List.length_cons,List.length_nil]at x
   obtain rfl:j=0:=by omega
   rfl)) rfl rfl rfl (by omega) ?_
  intro L M H3 t N J
  have f:c ∉ blks d:=λh=>by
   rcases e c h with q | q
   ·exact G q
   ·omega
  have F:=N.get f (v.get o)
  obtain⟨I,Z⟩:=lH (vs:=[vs L (n+j+1) M]) F rfl rfl
  refine⟨I,λT D=>?_⟩
  obtain⟨U,O⟩:=Z T D
  have m: ∀i∈blks L,i∈blks d\/A.size<=i:=λi a=>by
   rcases J i a with q | q
   ·exact .inl q
   ·have:=v.size;exact .inr (by omega)
  have Q:c<A.size:=by have:=w.size;omega
  have g:=t.keep O (λi a hm=>by
   simp at hm
   rcases m i a with q | q
   ·exact f (hm▸q)
   ·omega)
  have zA:=w.size
  refine⟨⟨j+1,L,M,by omega,p,U,?_,?_,λi a=>?_⟩,by show(100-(u+2*(j:Int)+2)).toNat< (100-(u+2*(j:Int))).toNat;omega⟩
  ·rw[oI,<-List.append_assoc]
   unfold ivs at g⊢
   rw[List.map_append];exact g
  ·refine((w.trans v.fr).trans' N (λi a _=>a) (λi a X=>?_)).trans (O.mono (λi a _=>by simp at a;simp[a]))
   rcases e i a with q | q
   ·exact List.mem_cons_of_mem _ q
   ·omega
  ·rcases m i a with q | q
   ·exact e i q
   ·exact .inr (by omega)
 ·rw[if_neg s]
  have p:j=fT u a:=by unfold fT at*;omega
  subst p
  exact V _ _ ⟨d,b,o,l,w,e⟩
theorem Mem.weakSeg_len(b:aX o)(a:eR i.frm)(k:Nat):(o.weakSeg i k).length<=33:=by
 unfold Mem.weakSeg
 split
 ·rw[jN]
  obtain⟨_,c,d⟩:=iX a (k:Int)
  have:=(b.seg k).n
  unfold fT;omega
 ·exact Nat.zero_le _
theorem Mem.weakCard_len(a:aX o){c:Int×Int}(b:0<=c.2):(o.weakCard c).length<=33:=by
 unfold Mem.weakCard
 split
 ·rw[jN]
  have:=(nm a c.1).n
  unfold fT;omega
 ·exact Nat.zero_le _
theorem kh{α β:Type}{f:α->List β}{n:Nat}: ∀l:List α,(∀a∈l,(f a).length<=n)->(l.flatMap f).length<=n*l.length
 | [],_=>by simp
 | a::l,h=>by
  have d:=h a (by simp)
  have e:=kh l (λb c=>h b (by simp[c]))
  rw[List.flatMap_cons,List.length_append,List.length_cons,Nat.mul_succ];omega
set_option maxRecDepth 100000 in
theorem nr{H:zV}(T:Tg H d A j i)(hf:eR i.frm)(b3:kE i.cards):
  cK.C (some ⟨j.t,0,none⟩) H (λv H'=> ∃(l:List Nat) (B:zW) (n c:Nat),cU A.sp.mem [i.tgt] l/\v=vs B n c/\n=(A.sp.mem.weaks i l).length/\Own H' 3 1 B n c (ivs (A.sp.mem.weaks i l))/\(∀de∈blks B,H.size<=de)/\n<=300000/\Ext H H'):=by
 refine HC.via λR hR=>cK.link ?_
 unfold cK.pt zY
 refine HC.mono (iW T.toTc) ?_
 rintro _ H1 ⟨rfl,rfl⟩
 refine⟨_,rfl,?_⟩
 rw[if_neg (by rw[T.on];decide)]
 intro z L bH a7
 have e2:Ext H1 L:=Ext.push' a7
 have g2:=aO bH a7
 have z2:L.size=H1.size+1:=by rw[a7];simp
 have T2:=T.grow e2
 obtain⟨p1,p2,p3,p4⟩:=T2.s1
 refine⟨_,rfl,_,p1,_,rfl,_,p2,_,rfl,_,p3,_,rfl,_,p4,_,by rw[addr_add_mk];exact T2.tr.tgtAt,?_⟩
 intro c3 H3 bI a8
 have e3:Ext L H3:=Ext.push' a8
 have g3:=aO bI a8
 have z3:H3.size=L.size+1:=by rw[a8];simp
 have T3:=T2.grow e3
 refine⟨row1 (e3.hat p1),row1 (e3.hat p2),row1 (e3.hat p3),row1 (e3.hat p4),?_⟩
 refine HC.mono (jg (gs:=[i.tgt]) T3.hp.cd.sp.mem T3.ok.mem (show gc H3 (some ⟨c3,0,none⟩) (ivs [i.tgt])from row1 (by rw[aK g3];rfl)) rfl (by decide)) ?_
 rintro _ H4 ⟨wB,wC,l,rfl,hl,Y,bT,e4⟩
 refine⟨_,_,_,rfl,?_⟩
 have bZ:=hl.len
 have cj:=T.ok.mem.lim
 have bq:=(e2.trans e3).trans e4
 have z4:=e4.size
 have I:=T.ok.mem
 refine⟨λdd dc=>(0<=dd/\dd<=l.length)/\ ∃(B:zW) (c:Nat),dc[z]?=some (.cells #[.slice B ((l.take dd.toNat).flatMap (A.sp.mem.weakSeg i)).length c] 75 (0,0))/\Own dc 3 1 B ((l.take dd.toNat).flatMap (A.sp.mem.weakSeg i)).length c (ivs ((l.take dd.toNat).flatMap (A.sp.mem.weakSeg i)))/\Ext H1 dc/\Own dc 3 1 wB l.length wC (ivs (l.map λdd:Nat=>(dd:Int)))/\(∀de∈blks B,L.size<=de/\de ∉ blks wB)/\H4.size<=dc.size,λdd _=>(l.length-dd).toNat,
  ⟨⟨by omega,by omega⟩,none,0,(e3.trans e4).get g2,iB,bq,Y,by simp,Nat.le_refl _⟩,?_⟩
 rintro dd H5 ⟨hi,B,cB,gB,x,e5,w,hB,z5⟩
 have F: ∀de∈blks wB,H3.size<=de/\de<H4.size:=λde s=>⟨bT de s,Y.lt de s⟩
 by_cases ac:dd< (l.length:Int)
 ·rw[if_pos ac]
  have u:dd.toNat<l.length:=by omega
  obtain⟨a,ha,aZ⟩:=nk w u
  obtain⟨ba,ck,cm,_⟩:=hl.has (List.getElem_mem u)
  have af:l.take (dd+1).toNat=l.take dd.toNat++[l[dd.toNat]]:=by rw[show(dd+1).toNat=dd.toNat+1 by omega,List.take_succ_eq_append_getElem u]
  have ci:=kh (f:=A.sp.mem.weakSeg i) (n:=33) (l.take dd.toNat) (λk _=>Mem.weakSeg_len I hf k)
  have bW:(l.take dd.toNat).length<=1024:=by rw[List.length_take];omega
  generalize hk:l[dd.toNat]=k at*
  have hd:((l.length:Int)-(dd+1)).toNat< ((l.length:Int)-dd).toNat:=by omega
  have hw:IntKind.wrap .i64 (dd+1)=dd+1:=w64 (by omega)
  have r:(l.take (dd+1).toNat).flatMap (A.sp.mem.weakSeg i)=(l.take dd.toNat).flatMap (A.sp.mem.weakSeg i)++A.sp.mem.weakSeg i k:=by rw[af,List.flatMap_append];simp
  have T5:=T.grow e5
  obtain⟨p1,p2,p3,p4⟩:=T5.s1
  refine⟨a,ha,⟨hi.1,ac⟩,_,aZ,_,p1,_,rfl,_,p2,_,rfl,_,p3,_,rfl,_,p4,?_⟩
  refine HC.mono (gF T5.hp.cd.sp.mem) ?_
  rintro _ H6 ⟨rfl,e6⟩
  have c9:A.sp.mem.segOr k=A.sp.mem.seg k:=by unfold Mem.segOr;rw[if_pos ba,show((k:Nat):Int).toNat=k by omega]
  rw[c9]
  refine⟨_,_,_,_,_,_,_,_,rfl,λd6 H7 bJ bB=>?_⟩
  obtain⟨a9,hs⟩:=iI (A.sp.mem.seg k) bJ bB
  refine⟨a9,λH8 bE=>?_⟩
  obtain⟨e8,_,g1,gn,_⟩:=hs H8 bE
  have m:=e6.trans e8
  have T8:=T5.grow m
  have z8:=m.size
  rw[hw]
  have skip:A.sp.mem.weakSeg i k=[]->(((0<=dd+1/\dd+1<=l.length)/\ ∃(B:zW) (c:Nat),H8[z]?=some (.cells #[.slice B ((l.take (dd+1).toNat).flatMap (A.sp.mem.weakSeg i)).length c] 75 (0,0))/\Own H8 3 1 B ((l.take (dd+1).toNat).flatMap (A.sp.mem.weakSeg i)).length c (ivs ((l.take (dd+1).toNat).flatMap (A.sp.mem.weakSeg i)))/\Ext H1 H8/\Own H8 3 1 wB l.length wC (ivs (l.map λdd:Nat=>(dd:Int)))/\(∀de∈blks B,L.size<=de/\de ∉ blks wB)/\H4.size<=H8.size)/\((l.length:Int)-(dd+1)).toNat< ((l.length:Int)-dd).toNat):=λhz=>by
   rw[r,hz,List.append_nil]
   exact⟨⟨by omega,B,cB,m.get gB,x.ext m,e5.trans m,w.ext m,hB,by omega⟩,hd⟩
  refine⟨_,by rw[addr_add_mk];exact g1,?_⟩
  by_cases e:(A.sp.mem.seg k).kind=1
  case neg=>rw[if_neg e];exact skip (by unfold Mem.weakSeg;rw[if_neg (λh=>e h.1)])
  rw[if_pos e]
  refine⟨⟨by omega,by omega⟩,(if i.old k then 1 else 0),by rw[show((k:Nat):Int).toNat=k by omega,addr_add_mk,addr_add_mk,Nat.zero_add,Nat.mul_one];exact T8.tr.oldAt (by omega),?_⟩
  by_cases ho:i.old k=true
  ·rw[if_neg (by rw[if_pos ho];decide)];exact skip (by unfold Mem.weakSeg;rw[if_neg (λh=>by rw[ho]at h;cases h.2)])
  rw[if_pos (by rw[if_neg ho])]
  have c5:i.old k=false:=by simpa using ho
  obtain⟨es,cl,bQ,bP⟩:=T8.tr.frm
  obtain⟨b4,c7,b9⟩:=iX hf (k:Int)
  have b5:=(I.seg k).n
  refine⟨_,by rw[addr_add_mk];exact T8.tr.fAt,_,by rw[addr_add_mk];exact gn,_,rfl,es,cl,_,bQ,bP,_,b4,by rw[addr_add_mk];exact row1 gn,?_⟩
  have a4:z ∉ blks B:=λh=>by have:=hB z h;omega
  refine HC.mono (mm (H:=H8) (c:=z) (ws:=(l.take dd.toNat).flatMap (A.sp.mem.weakSeg i)) (by omega) ⟨c7,b9⟩ b5.2 (m.get gB) (x.ext m) a4 (by omega) rfl) ?_
  rintro _ H9 ⟨J,S,g9,b6,f9,a6⟩
  have G:A.sp.mem.weakSeg i k=ij k (seenAt i.frm k) (fT (seenAt i.frm k) (A.sp.mem.seg k).n):=by unfold Mem.weakSeg;rw[if_pos ⟨e,c5⟩]
  have g:((l.take (dd+1).toNat).flatMap (A.sp.mem.weakSeg i)).length=((l.take dd.toNat).flatMap (A.sp.mem.weakSeg i)).length+fT (seenAt i.frm k) (A.sp.mem.seg k).n:=by rw[r,List.length_append,G,jN]
  refine⟨⟨by omega,J,S,by rw[g];exact g9,by rw[g,r,G];exact b6,(e5.trans m).fr_trans f9 (λde s=>?_),(w.ext m).keep f9 (λde s hm=>?_),λde s=>?_,by have:=f9.size;omega⟩,hd⟩
  ·rcases List.mem_cons.1 s with h | h
   ·omega
   ·have:=hB de h;omega
  ·rcases List.mem_cons.1 hm with h | h
   ·have:=F de s;omega
   ·exact(hB de h).2 s
  ·rcases a6 de s with h | h
   ·exact hB de h
   ·exact⟨by omega,λhm=>by have:=F de hm;omega⟩
 rw[if_neg ac]
 rw[List.take_of_length_le (by omega)]at gB x
 have bX:=kh (f:=A.sp.mem.weakSeg i) (n:=33) l (λk _=>Mem.weakSeg_len I hf k)
 have T5:=T.grow e5
 obtain⟨cQ,cS⟩:=T.tr.clen
 refine⟨_,_,_,by rw[addr_add_mk];exact T5.tr.cAt,?_⟩
 generalize hW:l.flatMap (A.sp.mem.weakSeg i)=W at*
 refine⟨λdd dc=>(0<=dd/\dd<=j.cN)/\ ∃(B:zW) (c:Nat),dc[z]?=some (.cells #[.slice B (W++(i.cards.take dd.toNat).flatMap A.sp.mem.weakCard).length c] 75 (0,0))/\Own dc 3 1 B (W++(i.cards.take dd.toNat).flatMap A.sp.mem.weakCard).length c (ivs (W++(i.cards.take dd.toNat).flatMap A.sp.mem.weakCard))/\Ext H1 dc/\(∀de∈blks B,L.size<=de)/\H4.size<=dc.size,λdd _=>(j.cN-dd).toNat,
  ⟨⟨by omega,by omega⟩,B,cB,by simpa using gB,by simpa using x,e5,λde s=>(hB de s).1,z5⟩,?_⟩
 rintro dd am ⟨bU,B2,au,O,p,M,D,cY⟩
 have an:=T.grow M
 have ab:=kh (f:=A.sp.mem.weakCard) (n:=33) (i.cards.take dd.toNat) (λc hc=>Mem.weakCard_len I (b3 c (List.mem_of_mem_take hc)).2.1)
 have bY:(i.cards.take dd.toNat).length<=4096:=by rw[List.length_take];omega
 by_cases E:dd< (j.cN:Int)
 case neg=>
  rw[if_neg E]
  rw[List.take_of_length_le (by omega)]at O p ab
  refine⟨_,_,_,by rw[aK O];rfl,hR _ _ ⟨l,B2,_,au,hl,rfl,?_,?_,λde s=>by have:=D de s;omega,?_,M⟩⟩
  ·unfold Mem.weaks;rw[hW]
  ·unfold Mem.weaks;rw[hW];exact p
  ·rw[List.length_append];omega
 rw[if_pos E]
 have u:dd.toNat<i.cards.length:=by omega
 obtain⟨ca,bM,b7⟩:=nl an.tr.cards u
 have bO:=b3 _ (List.getElem_mem u)
 have af:i.cards.take (dd+1).toNat=i.cards.take dd.toNat++[i.cards[dd.toNat]]:=by rw[show(dd+1).toNat=dd.toNat+1 by omega,List.take_succ_eq_append_getElem u]
 generalize cP:i.cards[dd.toNat]=b at*
 have hd:((j.cN:Int)-(dd+1)).toNat< ((j.cN:Int)-dd).toNat:=by omega
 have hw:IntKind.wrap .i64 (dd+1)=dd+1:=w64 (by omega)
 have r:W++(i.cards.take (dd+1).toNat).flatMap A.sp.mem.weakCard=(W++(i.cards.take dd.toNat).flatMap A.sp.mem.weakCard)++A.sp.mem.weakCard b:=by rw[af,List.flatMap_append,List.append_assoc];simp
 refine⟨ca,bM,⟨bU.1,E⟩,b.1,b.2,b7,λap bj b0 U=>?_⟩
 obtain⟨a9,hs⟩:=boxed (vs:=[vi b.1,vi b.2]) (H1:=bj) (aO b0 U) rfl rfl
 refine⟨a9,λo aL=>?_⟩
 obtain⟨Z,ay⟩:=hs o aL
 have y:Ext am o:=ay am (Ext.push' U) (by omega)
 have a3:=an.grow y
 obtain⟨p1,p2,p3,p4⟩:=a3.s1
 have P:hat o ⟨ap,0,none⟩=some (vi b.1):=Z.1
 have Q:hat o ⟨ap,1,none⟩=some (vi b.2):=Z.2.1
 refine⟨_,p1,_,rfl,_,p2,_,rfl,_,p3,_,rfl,_,p4,_,P,?_⟩
 have bb:=nm I b.1
 have X: ∀(dc:zV) (J:zW) (S:Nat),dc[z]?=some (.cells #[.slice J (W++(i.cards.take (dd+1).toNat).flatMap A.sp.mem.weakCard).length S] 75 (0,0))->Own dc 3 1 J (W++(i.cards.take (dd+1).toNat).flatMap A.sp.mem.weakCard).length S (ivs (W++(i.cards.take (dd+1).toNat).flatMap A.sp.mem.weakCard))->Ext H1 dc->(∀de∈blks J,L.size<=de)->H4.size<=dc.size->
   ((0<=IntKind.wrap .i64 (dd+1)/\IntKind.wrap .i64 (dd+1)<=j.cN)/\ ∃(B:zW) (c:Nat),dc[z]?=some (.cells #[.slice B (W++(i.cards.take (IntKind.wrap .i64 (dd+1)).toNat).flatMap A.sp.mem.weakCard).length c] 75 (0,0))/\Own dc 3 1 B (W++(i.cards.take (IntKind.wrap .i64 (dd+1)).toNat).flatMap A.sp.mem.weakCard).length c (ivs (W++(i.cards.take (IntKind.wrap .i64 (dd+1)).toNat).flatMap A.sp.mem.weakCard))/\Ext H1 dc/\(∀de∈blks B,L.size<=de)/\H4.size<=dc.size)/\((j.cN:Int)-IntKind.wrap .i64 (dd+1)).toNat< ((j.cN:Int)-dd).toNat:=λdc J S h1 h2 h3 h4 h5=>by
  rw[hw];exact⟨⟨by omega,J,S,h1,h2,h3,h4,h5⟩,hd⟩
 have skip: ∀(dc:zV),Ext o dc-> ¬(A.sp.mem.segOr b.1).kind=1->_:=λdc q hk=>X dc B2 au (by rw[r,show A.sp.mem.weakCard b=[]by unfold Mem.weakCard;rw[if_neg hk],List.append_nil];exact(y.trans q).get O) (by rw[r,show A.sp.mem.weakCard b=[]by unfold Mem.weakCard;rw[if_neg hk],List.append_nil];exact p.ext (y.trans q)) (M.trans (y.trans q)) D (by have:=(y.trans q).size;omega)
 have go: ∀(dc:zV),Ext o dc->(A.sp.mem.segOr b.1).kind=1->bF.C b.1 (IntKind.wrap .i64 (b.2*16)) (if(IntKind.wrap .i64 ((IntKind.wrap .i64 (b.2+1))*16))< (A.sp.mem.segOr b.1).n then(IntKind.wrap .i64 ((IntKind.wrap .i64 (b.2+1))*16))else(A.sp.mem.segOr b.1).n) (some (Addr.mk z 0 none)) dc (λ_ A'=>_):=λdc q hk=>by
  have cX:=bb.n
  rw[w64 (n:=b.2*16) (by omega),w64 (n:=b.2+1) (by omega),w64 (n:=(b.2+1)*16) (by omega),sO]
  have a4:z ∉ blks B2:=λh=>by have:=D z h;omega
  have N:=y.trans q
  refine HC.mono (mm (H:=dc) (c:=z) (ws:=W++(i.cards.take dd.toNat).flatMap A.sp.mem.weakCard) bO.1 (by omega) (by omega) (N.get O) (p.ext N) a4 (by rw[List.length_append];omega) rfl) ?_
  rintro _ bk ⟨J,S,bz,ae,ax,a6⟩
  have G:A.sp.mem.weakCard b=ij b.1 (b.2*16) (fT (b.2*16) (min (A.sp.mem.segOr b.1).n ((b.2+1)*16))):=by unfold Mem.weakCard;rw[if_pos hk]
  have g:(W++(i.cards.take (dd+1).toNat).flatMap A.sp.mem.weakCard).length=(W++(i.cards.take dd.toNat).flatMap A.sp.mem.weakCard).length+fT (b.2*16) (min (A.sp.mem.segOr b.1).n ((b.2+1)*16)):=by rw[r,List.length_append,G,jN]
  have zA:=N.size
  refine X bk J S (by rw[g];exact bz) (by rw[g,r,G];exact ae) ((M.trans N).fr_trans ax (λde s=>?_)) (λde s=>?_) (by have:=ax.size;omega)
  ·rcases List.mem_cons.1 s with h | h
   ·omega
   ·have:=D de h;omega
  ·rcases a6 de s with h | h
   ·exact D de h
   ·omega
 constructor
 ·refine HC.mono (gF a3.hp.cd.sp.mem) ?_
  rintro _ co ⟨rfl,bp⟩
  refine⟨_,_,_,_,_,_,_,_,rfl,λcq cp b1 aS=>?_⟩
  obtain⟨aa,b8⟩:=iI (A.sp.mem.segOr b.1) b1 aS
  refine⟨aa,λa1 aT=>?_⟩
  obtain⟨br,_,g1,gn,_⟩:=b8 a1 aT
  have q:=bp.trans br
  refine⟨_,by rw[addr_add_mk];exact g1,?_⟩
  by_cases e:(A.sp.mem.segOr b.1).kind=1
  ·rw[if_pos e]
   exact⟨_,q.hat P,_,by rw[addr_add_mk];exact q.hat Q,_,by rw[addr_add_mk];exact gn,_,by rw[addr_add_mk];exact q.hat Q,go a1 q e⟩
  ·rw[if_neg e];exact skip a1 q e
 ·intro cr bl b2 V
  have t:Ext o bl:=Ext.push' V
  refine⟨row1 (t.hat p1),row1 (t.hat p2),row1 (t.hat p3),row1 (t.hat p4),row1 (t.hat P),?_⟩
  refine HC.mono (gF (a3.grow t).hp.cd.sp.mem) ?_
  rintro _ bm ⟨rfl,av⟩
  obtain⟨bL,c8⟩:=boxed (vs:=[vi (A.sp.mem.segOr b.1).gen,vi (A.sp.mem.segOr b.1).kind,vi (A.sp.mem.segOr b.1).n,vi ((A.sp.mem.segOr b.1).cards 0),vi ((A.sp.mem.segOr b.1).cards 1),vi ((A.sp.mem.segOr b.1).cards 2),vi ((A.sp.mem.segOr b.1).cards 3)]) (H1:=bm) (av.get (aO b2 V)) rfl rfl
  refine⟨_,_,_,_,_,_,_,_,rfl,bL,λK aU=>?_⟩
  obtain⟨a0,az⟩:=c8 K aU
  have q:Ext o K:=az o (t.trans av) (by omega)
  refine⟨_,a0.2.1,?_⟩
  by_cases e:(A.sp.mem.segOr b.1).kind=1
  ·rw[if_pos e]
   exact⟨_,q.hat P,_,by rw[addr_add_mk];exact q.hat Q,_,a0.2.2.1,_,by rw[addr_add_mk];exact q.hat Q,go K q e⟩
  ·rw[if_neg e];exact skip K q e
end Go.Proofs.YtfhbhckhmnleoaaGreat
namespace Go.Proofs.YtfhbhckhmnleoaaGreat
open Go
variable{d:Int}{i:Mem}{j:Int->Nat}{k:Nat->Bool}{o:Sp}{u:Int->Option Int}{v:List Int}
abbrev Mem.kAt(m:Mem)(a:Int):Int:=(m.seg (a / 64).toNat).kind
abbrev Mem.gAt(m:Mem)(a:Int):Int:=(m.seg (a / 64).toNat).gen
def tagK(k:Int):Int:=if k=0 then 1 else if k=1 then 2 else 3
def isTag(v:Int):Prop:=v % 8=1\/v % 8=2\/v % 8=3
instance (v:Int):Decidable (isTag v):=by unfold isTag;infer_instance
def Good(m:Mem)(sz:Int->Nat)(v:Int):Prop:=v % 8≠6/\(isTag v->sz (v / 8)≠0/\v % 8=tagK (m.kAt (v / 8)))
structure gG (m:Mem) (sz:Int->Nat):Prop where
 used: ∀a,sz a≠0->m.used a/\a % 64+sz a<=(m.seg (a / 64).toNat).n
 apart: ∀a b,sz a≠0->sz b≠0->a<b->a+sz a<=b
 two: ∀a,sz a≠0->m.kAt a<=1->sz a=2/\a % 2=0
 obj: ∀a,sz a≠0->2<=m.kAt a->gJ (m.get a)/\m.kAt a=rawK (hk (m.get a))/\(sz a:Int)=hn (m.get a)+1
 good: ∀x,m.used x->m.kAt x≠3->Good m sz (m.get x)
theorem gG.usedAt{m:Mem}(h:gG m j){a:Int}(e:j a≠0){i:Nat}(g:i<j a)(hn: ∀k,(m.seg k).n<=64):m.used (a+i)/\(a+i) / 64=a / 64/\(a+i) % 64=a % 64+i:=by
 obtain⟨d,f⟩:=h.used a e
 have:=hn (a / 64).toNat
 have b:(a+i) / 64=a / 64:=by omega
 have c:(a+i) % 64=a % 64+i:=by omega
 exact⟨⟨by have:=d.1;omega,by rw[b];exact d.2.1,by rw[b,c];omega⟩,b,c⟩
theorem gG.lt{m:Mem}(h:gG m j)(d:aX m){a:Int}(c:j a≠0):0<=a/\a<65536:=by
 obtain⟨b,_⟩:=h.used a c
 have:=b.2.1.2.1
 have:=d.lim
 exact⟨b.1,by have:=b.1;omega⟩
theorem gG.noFwd(h:gG i j)(a:j d≠0):i.get d % 8≠6:=by
 obtain⟨b,_⟩:=h.used d a
 by_cases hk:i.kAt d=3
 ·obtain⟨c,_⟩:=h.obj d a (by omega)
  have:=c.1;omega
 ·exact(h.good d b hk).1
theorem gG.within{m:Mem}(h:gG m j)(b:j d≠0){i:Nat}(c:0<i)(e:i<j d):j (d+i)=0:=by
 by_cases a:j (d+i)=0
 ·exact a
 ·have:=h.apart d (d+i) b a (by omega);omega
theorem lK{n:Nat}(v:aC d)(r:isTag d)(a:d % 8=tagK (i.kAt (d / 8)))(j:d / 8<65536)(b:i.used (d / 8))(u:0<=i.kAt (d / 8)/\i.kAt (d / 8)<=3)(o:i.kAt (d / 8)<=1->n=2/\d / 8 % 2=0)
  (p:2<=i.kAt (d / 8)->gJ (i.get (d / 8))/\i.kAt (d / 8)=rawK (hk (i.get (d / 8)))/\(n:Int)=hn (i.get (d / 8))+1/\d / 8 % 64+n<=(i.seg (d / 8 / 64).toNat).n):i.sizeOf d=n:=by
 have h:fC d:=⟨by unfold isTag at r;omega,j⟩
 unfold tagK at a
 unfold Mem.sizeOf
 by_cases m:i.kAt (d / 8)<=1
 ·obtain⟨f,g⟩:=o m
  have l:i.isPair d:=by
   refine⟨?_,g⟩
   by_cases e:i.kAt (d / 8)=0
   ·rw[if_pos e]at a;exact .inl ⟨h,a,b.2.1,e,b.2.2⟩
   ·rw[if_neg e,if_pos (by omega)]at a;exact .inr ⟨h,a,b.2.1,by show i.kAt (d / 8)=1;omega,b.2.2⟩
  rw[if_pos l,f];rfl
 ·rw[if_neg (by omega),if_neg (by omega)]at a
  obtain⟨f,g,s,t⟩:=p (by omega)
  have c:i.isObj d:=⟨⟨h,a,b.2.1,g,b.2.2⟩,f,by omega⟩
  have k: ¬i.isPair d:=λl=>by
   rcases l.1 with q | q
   ·have:=q.2.1;omega
   ·have:=q.2.1;omega
  rw[if_neg k,if_pos c]
  unfold Mem.len
  rw[if_pos c];omega
theorem rM(f: ¬isTag d):i.sizeOf d=0:=by
 unfold isTag at f
 unfold Mem.sizeOf
 have b: ¬i.isPair d:=λe=>by
  rcases e.1 with q | q
  ·have:=q.2.1;omega
  ·have:=q.2.1;omega
 have a: ¬i.isObj d:=λc=>by have:=c.1.2.1;omega
 rw[if_neg b,if_neg a]
theorem gG.size(h:gG i j)(c:aX i){v:Int}(k:aC v)(g:Good i j v)(b:isTag v):i.sizeOf v=j (v / 8):=by
 obtain⟨a,d⟩:=g.2 b
 obtain⟨e,f⟩:=h.used _ a
 exact lK k b d (h.lt c a).2 e (c.seg _).kind (h.two _ a) (λhk=>by
  obtain⟨l,m,n⟩:=h.obj _ a hk
  exact⟨l,m,n,f⟩)
def Mem.strong(m:Mem)(x:Int):Prop:=m.kAt x≠3/\(m.kAt x≠1\/x % 2=1)
instance (m:Mem) (x:Int):Decidable (m.strong x):=by unfold Mem.strong;infer_instance
theorem lL{m:Mem}{i:Int}(a:0<=i/\i<64)(hk:0<=d):looks (m.seg d.toNat).kind i ↔ m.strong (d*64+i):=by
 have e:(d*64+i) / 64=d:=by omega
 unfold looks Mem.strong Mem.kAt
 rw[e,show(d*64+i) % 2=i % 2 by omega]
structure TZ where
 m:Mem
 sz:Int->Nat
 O:Nat->Bool
 T:Int
 V:Int->Prop
 q:Int->Option Int
 P:List Int
inductive Reach (Z:TZ):Int->Prop
 | root {v:Int} (h:Z.V v) (ho:aG Z.O v):Reach Z (v / 8)
 | older {x:Int} (hu:Z.m.used x) (hn:Z.O (x / 64).toNat=false) (hs:Z.m.strong x) (ho:aG Z.O (Z.m.get x)):Reach Z (Z.m.get x / 8)
 | step {a:Int} {i:Nat} (h:Reach Z a) (hi:i<Z.sz a) (hs:Z.m.strong (a+i)) (ho:aG Z.O (Z.m.get (a+i))):Reach Z (Z.m.get (a+i) / 8)
def Fw(O:Nat->Bool)(fw:Int->Option Int)(v:Int):Int:=if aG O v then match fw (v / 8)with | some b=>b*8+v % 8 | none=>v else v
def Dn(O:Nat->Bool)(fw:Int->Option Int)(v:Int):Prop:=aG O v-> ∃b,fw (v / 8)=some b
theorem ft(h: ¬aG k d):Fw k u d=d:=by unfold Fw;rw[if_neg h]
theorem fy{v b:Int}(h:aG k v)(a:u (v / 8)=some b):Fw k u v=b*8+v % 8:=by unfold Fw;rw[if_pos h,a]
def Le(fw fw':Int->Option Int):Prop:= ∀a b,fw a=some b->fw' a=some b
theorem Le.refl(a:Int->Option Int):Le a a:=λ_ _ h=>h
theorem Le.trans{f g h:Int->Option Int}(a:Le f g)(b:Le g h):Le f h:=λx y q=>b x y (a x y q)
theorem Dn.mono{f g:Int->Option Int}{v:Int}(h:Dn k f v)(l:Le f g):Dn k g v:=λc=>by obtain⟨b,a⟩:=h c;exact⟨b,l _ _ a⟩
theorem fZ{g:Int->Option Int}(h:Dn k u d)(l:Le u g):Fw k g d=Fw k u d:=by
 by_cases a:aG k d
 ·obtain⟨b,c⟩:=h a
  rw[fy a c,fy a (l _ _ c)]
 ·rw[ft a,ft a]
theorem rO(h:i.sizeOf d≠0):isTag d:=by
 by_cases q:isTag d
 ·exact q
 ·exact absurd (rM q) h
theorem qD(h:i.sizeOf d≠0):i.isPair d ↔ d % 8≠3:=by
 constructor
 ·intro a
  rcases a.1 with q | q
  ·have:=q.2.1;omega
  ·have:=q.2.1;omega
 ·intro c
  by_cases a:i.isPair d
  ·exact a
  ·exfalso
   unfold Mem.sizeOf at h
   rw[if_neg a]at h
   by_cases b:i.isObj d
   ·exact c b.1.2.1
   ·rw[if_neg b]at h;exact h rfl
theorem jO(h:aG k d):isTag d:=by have:=h.1.1;have:=h.2.1;unfold isTag;omega
def inR(a:Int)(n:Nat)(x:Nat):Bool:=decide (a<=(x:Int)/\(x:Int)<a+n)
theorem lf{a:Int}(b:0<=a)(N:Nat): ∀n:Nat,a+n<=N->(List.range N).countP (inR a n)=n
 | 0,_=>by
  rw[List.countP_eq_zero]
  intro x _
  unfold inR;simp
 | n+1,h=>by
  rw[j8 N (a+n).toNat (inR a (n+1)) (inR a n) (by omega) (λi c=>by unfold inR;rw[decide_eq_decide];omega) (by unfold inR;rw[decide_eq_true_eq];omega) (by unfold inR;rw[decide_eq_false_iff_not];omega),lf b N n (by omega)]
theorem iD{α:Type}(p q:α->Bool)(l:List α)(h: ∀x∈l,p x=true->q x=true->False):l.countP (λx=>p x || q x)=l.countP p+l.countP q:=by
 induction l with
 | nil=>rfl
 | cons a l g=>
  have b:=g (λx f=>h x (by simp[f]))
  have c:=h a (by simp)
  rw[List.countP_cons,List.countP_cons,List.countP_cons,b]
  cases d:p a<;>cases e:q a
  ·simp
  ·simp;omega
  ·simp;omega
  ·exact(c d e).elim
theorem kF(f:Int->Nat)(N:Nat): ∀L:List Int,L.Nodup->(∀a∈L,0<=a/\a+f a<=N)->(∀a∈L,∀b∈L,a<b->a+f a<=b)->(L.map f).sum=(List.range N).countP (λx=>L.any λa=>inR a (f a) x)
 | [],_,_,_=>by simp
 | a::L,hn,hb,hd=>by
  rw[List.nodup_cons]at hn
  have j:=kF f N L hn.2 (λb h=>hb b (by simp[h])) (λb h c i=>hd b (by simp[h]) c (by simp[i]))
  simp only[List.map_cons,List.sum_cons,List.any_cons]
  rw[iD,j,lf (hb a (by simp)).1 N _ (hb a (by simp)).2]
  intro x _ g e
  rw[List.any_eq_true]at e
  obtain⟨b,d,e⟩:=e
  unfold inR at g e
  rw[decide_eq_true_eq]at g e
  rcases Int.lt_trichotomy a b with h | h | h
  ·have:=hd a (by simp) b (by simp[d]) h;omega
  ·subst h;exact hn.1 d
  ·have:=hd b (by simp[d]) a (by simp) h;omega
theorem ns(p:Nat->Bool): ∀n:Nat,(List.range (64*n)).countP (λx=>p (x / 64))=64*(List.range n).countP p
 | 0=>rfl
 | n+1=>by
  rw[show 64*(n+1)=64*n+64 by omega,List.range_add,List.countP_append,ns p n,List.range_succ (n:=n),List.countP_append,List.countP_map]
  have e:(List.range 64).countP ((λx=>p (x / 64)) ∘ λx=>64*n+x)=64*[n].countP p:=by
   have b:(List.range 64).countP ((λx=>p (x / 64)) ∘ λx=>64*n+x)=(List.range 64).countP (λ_=>p n):=by
    refine List.countP_congr λx c=>?_
    rw[List.mem_range]at c
    show p ((64*n+x) / 64)=true ↔ p n=true
    rw[show(64*n+x) / 64=n by omega]
   rw[b]
   cases a:p n
   ·simp[a]
   ·simp[a]
  rw[e];omega
theorem oe{α:Type}{p q:α->Bool}(l:List α)(h: ∀x∈l,p x=true->q x=true):l.countP p<=l.countP q:=List.countP_mono_left h
theorem ky(p:Nat->Bool)(n:Nat): ∀d:Nat,(∀i,n<=i->i<n+d->p i=false)->(List.range (n+d)).countP p=(List.range n).countP p
 | 0,_=>rfl
 | d+1,h=>by
  rw[show n+(d+1)=(n+d)+1 by omega,List.range_succ,List.countP_append,ky p n d (λi a b=>h i a (by omega))]
  simp[h (n+d) (by omega) (by omega)]
def TZ.yk(Z:TZ)(k:Int):Nat:=(List.range 1024).countP λj=>Z.O j && decide ((Z.m.seg j).kind=k)
def TZ.uk(Z:TZ)(al:List Int)(k:Int):Nat:=((al.filter λa=>decide (Z.m.kAt a=k)).map Z.sz).sum
structure Olds (Z:TZ) (al:List Int):Prop where
 nodup:al.Nodup
 mem: ∀a∈al,Z.sz a≠0/\Z.O (a / 64).toNat=true
theorem TZ.uk_le{Z:TZ}(q:gG Z.m Z.sz)(r:aX Z.m)(h:Olds Z v)(k:Int):Z.uk v k<=64*Z.yk k:=by
 unfold TZ.uk TZ.yk
 have z:=r.lim
 have f: ∀j,(Z.m.seg j).n<=64:=λj=>(r.seg j).n.2
 have c: ∀a∈v.filter (λa=>decide (Z.m.kAt a=k)),a∈v/\Z.m.kAt a=k:=λa d=>by
  rw[List.mem_filter]at d;exact⟨d.1,by simpa using d.2⟩
 rw[kF Z.sz (64*1024) _ (h.nodup.filter _) (λa d=>?_) (λa d b u p=>?_),<-ns]
 ·refine oe _ (λx _ g=>?_)
  rw[List.any_eq_true]at g
  obtain⟨a,d,g⟩:=g
  obtain⟨l,s⟩:=c a d
  obtain⟨o,t⟩:=h.mem a l
  unfold inR at g
  rw[decide_eq_true_eq]at g
  obtain⟨i,w⟩:=q.used a o
  have:=f (a / 64).toNat
  have y:=i.1
  have e:x / 64=(a / 64).toNat:=by omega
  rw[e,t,Bool.true_and,decide_eq_true_eq];exact s
 ·obtain⟨l,_⟩:=c a d
  obtain⟨o,_⟩:=h.mem a l
  obtain⟨i,w⟩:=q.used a o
  have:=f (a / 64).toNat
  have:=i.2.1.2.1
  exact⟨i.1,by have:=i.1;omega⟩
 ·exact q.apart a b (h.mem a (c a d).1).1 (h.mem b (c b u).1).1 p
theorem TZ.uk_cons(Z:TZ)(b:List Int)(a k:Int):Z.uk (a::b) k=(if Z.m.kAt a=k then Z.sz a else 0)+Z.uk b k:=by
 unfold TZ.uk
 by_cases h:Z.m.kAt a=k
 ·rw[List.filter_cons_of_pos (by simpa using h),if_pos h];simp
 ·rw[List.filter_cons_of_neg (by simpa using h),if_neg h];simp
def Sp.fill(s:Sp)(T:Int)(k:Nat):Int:=if s.cur T.toNat k=0 then 0 else(s.mem.seg (s.cur T.toNat k-1).toNat).n
def TZ.pk(Z:TZ)(k:Nat):Nat:=if k=0 then 2*Z.P.length else 0
structure Cap (Z:TZ) (F0:Int) (al:List Int) (s:Sp) (c:Nat->Nat):Prop where
 free:s.mem.free+((c 0:Nat)+(c 1:Nat)+(c 2:Nat)+(c 3:Nat):Int)=F0
 none: ∀k,k<4->s.cur Z.T.toNat k=0->c k=0
 le: ∀k,k<4->64*(c k:Int)+s.fill Z.T k<=2*(Z.uk al k:Int)+(Z.pk k:Int)+64
theorem Sp.fill_rng(a:SpOK o)(T:Int)(k:Nat):0<=o.fill T k/\o.fill T k<=64:=by
 unfold Sp.fill
 split
 ·omega
 ·exact(a.mem.seg _).n
theorem Cap.room{Z:TZ}{c:Nat->Nat}(h:Cap Z d v o c)(s:SpOK o)(r:gG Z.m Z.sz)(a:aX Z.m)(p:Olds Z v)(B:2*((Z.yk 0:Int)+Z.yk 1+Z.yk 2+Z.yk 3)+8+((Z.P.length / 32:Nat):Int)<=d):1<=o.mem.free:=by
 have q: ∀k:Nat,k<4->64*(c k:Int)<=128*(Z.yk k:Int)+64+(Z.pk k:Int):=λk hk=>by
  have y:=h.le k hk
  have z:=TZ.uk_le r a p (k:Int)
  have A:=Sp.fill_rng s Z.T k
  omega
 have b:=q 0 (by omega)
 have e:=q 1 (by omega)
 have f:=q 2 (by omega)
 have g:=q 3 (by omega)
 have:=h.free
 have i:Z.yk ((0:Nat):Int)=Z.yk 0:=rfl
 have j:Z.yk ((1:Nat):Int)=Z.yk 1:=rfl
 have l:Z.yk ((2:Nat):Int)=Z.yk 2:=rfl
 have n:Z.yk ((3:Nat):Int)=Z.yk 3:=rfl
 rw[i]at b;rw[j]at e;rw[l]at f;rw[n]at g
 have t:Z.pk 0=2*Z.P.length:=rfl
 have u:Z.pk 1=0:=rfl
 have w:Z.pk 2=0:=rfl
 have x:Z.pk 3=0:=rfl
 rw[t]at b;rw[u]at e;rw[w]at f;rw[x]at g
 omega
theorem Sp.fill_eq{T v:Int}{k:Nat}(h:o.cur T.toNat k=v):o.fill T k=if v=0 then 0 else(o.mem.seg (v-1).toNat).n:=by unfold Sp.fill;rw[h]
theorem Sp.alloc_fill(l:SpOK o){k n:Int}(h:(o.alloc d k n).2.2=0): ∃G:Nat,(o.alloc d k n).1.mem.free=o.mem.free-G/\(o.alloc d k n).1.cur d.toNat k.toNat≠0/\(∀j:Nat,j≠k.toNat->(o.alloc d k n).1.cur d.toNat j=o.cur d.toNat j/\(o.alloc d k n).1.fill d j=o.fill d j)/\
  ((G=0/\o.cur d.toNat k.toNat≠0/\(o.alloc d k n).1.fill d k.toNat=o.fill d k.toNat+n)\/(G=1/\(o.cur d.toNat k.toNat=0\/64<o.fill d k.toNat+n)/\(o.alloc d k n).1.fill d k.toNat=n)):=by
 unfold Sp.alloc at*
 by_cases hm:may d k n
 case neg=>rw[if_pos hm]at h;exact absurd h (by show ¬((1:Int)=0);decide)
 rw[if_neg (λr=>r hm)]at h⊢
 have F:=hm.1
 have hk:0<=k/\k<=3:=by have:=hm.2;omega
 have hn:1<=n/\n<=63:=by have:=hm.2;omega
 by_cases b:o.cur d.toNat k.toNat≠0/\(o.mem.bump (o.cur d.toNat k.toNat-1) n).2.2=0
 ·rw[if_pos b]at h⊢
  obtain⟨s,A,p,m⟩:=Mem.bump_ok l.mem b.2
  refine⟨0,?_,b.1,λj w=>⟨rfl,?_⟩,.inl ⟨rfl,b.1,?_⟩⟩
  ·show(o.mem.bump _ _).1.free=_
   rw[(Mem.bump_lim _ _ _).2.2];omega
  ·unfold Sp.fill
   show(if o.cur d.toNat j=0 then 0 else((o.mem.bump _ _).1.seg _).n)=_
   by_cases a:o.cur d.toNat j=0
   ·rw[if_pos a,if_pos a]
   ·rw[if_neg a,if_neg a,m]
    rw[Mem.upd_other]
    intro e
    rcases l.cur d.toNat j with q | ⟨_,_,_,D⟩
    ·exact a q
    rcases l.cur d.toNat k.toNat with q | ⟨_,_,_,E⟩
    ·exact b.1 q
    rw[e,E]at D;omega
  ·unfold Sp.fill
   show(if o.cur d.toNat k.toNat=0 then 0 else((o.mem.bump _ _).1.seg _).n)=_
   rw[if_neg b.1,if_neg b.1,m]
   show((o.mem.upd _ _).seg _).n=_
   rw[Mem.upd_same];rfl
 rw[if_neg b]at h⊢
 by_cases g:(o.mem.take d k).2.2=0
 case neg=>rw[if_neg g]at h;exact absurd h g
 rw[if_pos g]at h⊢
 have f:=l.mem.take d k
 have i:o.mem.take d k=({o.mem with count:=o.mem.count+1,free:=o.mem.free-1}.upd o.mem.first (Seg.new d k (o.mem.count+1)),(o.mem.first:Int),0)/\o.mem.free≠0:=by
  unfold Mem.take at g⊢
  rw[if_neg (by omega)]at g⊢
  by_cases p:o.mem.free=0
  ·rw[if_pos p]at g;exact absurd g (by show ¬((2:Int)=0);decide)
  ·rw[if_neg p];exact⟨rfl,p⟩
 obtain⟨i,c⟩:=i
 obtain⟨B,u⟩:=Mem.first_spec l.mem c
 rw[i]at h f⊢
 simp only at h f⊢
 obtain⟨s,A,p,m⟩:=Mem.bump_ok f h
 have z:((o.mem.first:Int)).toNat=o.mem.first:=by omega
 refine⟨1,?_,?_,λj w=>⟨?_,?_⟩,.inr ⟨rfl,?_,?_⟩⟩
 ·rw[(Mem.bump_lim _ _ _).2.2];show o.mem.free-1=_;omega
 ·show(if d.toNat=d.toNat/\k.toNat=k.toNat then(o.mem.first:Int)+1 else _)≠0
  rw[if_pos ⟨rfl,rfl⟩];omega
 ·show(if d.toNat=d.toNat/\j=k.toNat then(o.mem.first:Int)+1 else _)=_
  rw[if_neg (λr=>w r.2)]
 ·rw[Sp.fill_eq (v:=o.cur d.toNat j) (by show(if d.toNat=d.toNat/\j=k.toNat then(o.mem.first:Int)+1 else _)=_;rw[if_neg (λr=>w r.2)])]
  unfold Sp.fill
  by_cases a:o.cur d.toNat j=0
  ·rw[if_pos a,if_pos a]
  ·rw[if_neg a,if_neg a,m,z]
   rcases l.cur d.toNat j with q | ⟨_,y,_,_⟩
   ·exact absurd q a
   have t:(o.cur d.toNat j-1).toNat≠o.mem.first:=λe=>y.2.2 (by rw[e];exact u)
   show((Mem.upd (Mem.upd _ _ _) _ _).seg _).n=_
   rw[Mem.upd_other _ _ t,Mem.upd_other _ _ t]
 ·by_cases a:o.cur d.toNat k.toNat=0
  ·exact .inl a
  ·right
   rcases l.cur d.toNat k.toNat with q | ⟨_,y,_,_⟩
   ·exact absurd q a
   have C: ¬((o.mem.seg (o.cur d.toNat k.toNat-1).toNat).n+n<=64):=λx=>b ⟨a,Mem.bump_can y hn.1 x⟩
   unfold Sp.fill
   rw[if_neg a];omega
 ·rw[Sp.fill_eq (v:=(o.mem.first:Int)+1) (by show(if d.toNat=d.toNat/\k.toNat=k.toNat then(o.mem.first:Int)+1 else _)=_;rw[if_pos ⟨rfl,rfl⟩]),if_neg (by omega),m,z,show((o.mem.first:Int)+1-1).toNat=o.mem.first by omega]
  show((Mem.upd (Mem.upd _ _ _) _ _).seg _).n=_
  rw[Mem.upd_same]
  show((Mem.upd _ _ _).seg o.mem.first).n+n=n
  rw[Mem.upd_same];show 0+n=n;omega
theorem Sp.fill_same(h:aY o.mem i)(T:Int)(k:Nat):({o with mem:=i}:Sp).fill T k=o.fill T k:=by
 unfold Sp.fill
 show(if o.cur T.toNat k=0 then 0 else(i.seg _).n)=_
 rw[(h.seg _).2.2.1]
theorem Cap.step{Z:TZ}{i:Int}{p:List Int}{s:Sp}{c:Nat->Nat}(h:Cap Z i p s c)(r:SpOK s){a:Int}{m:Mem}(hk:0<=Z.m.kAt a/\Z.m.kAt a<=3)(z:(s.alloc Z.T (Z.m.kAt a) (Z.sz a)).2.2=0)(hm:aY (s.alloc Z.T (Z.m.kAt a) (Z.sz a)).1.mem m): ∃t,Cap Z i (a::p) {(s.alloc Z.T (Z.m.kAt a) (Z.sz a)).1 with mem:=m} t:=by
 obtain⟨d,u,v,q,w⟩:=Sp.alloc_fill r z
 generalize A:(s.alloc Z.T (Z.m.kAt a) (Z.sz a)).1=B at*
 generalize n:Z.m.kAt a=k at*
 have x:((k.toNat:Nat):Int)=k:=by omega
 refine⟨λj=>c j+if j=k.toNat then d else 0,?_,λj g y=>?_,λj g=>?_⟩
 ·show m.free+_=i
  rw[hm.free,u]
  have:=h.free
  rcases(show k.toNat=0\/k.toNat=1\/k.toNat=2\/k.toNat=3 by omega)with e | e | e | e<;>rw[e]<;>simp<;>omega
 ·have b:B.cur Z.T.toNat j=0:=y
  by_cases e:j=k.toNat
  ·rw[e]at b;exact absurd b v
  ·rw[(q j e).1]at b
   show c j+(if j=k.toNat then d else 0)=0
   rw[if_neg e,h.none j g b]
 ·rw[Sp.fill_same hm,TZ.uk_cons,n]
  have o:=h.le j g
  by_cases e:j=k.toNat
  ·subst e
   simp only[if_true]
   rw[x]at o⊢
   rw[if_pos rfl]
   rcases w with⟨rfl,_,l⟩ | ⟨rfl,f,l⟩
   ·rw[l];omega
   ·rw[l]
    rcases f with f | f
    ·have:=h.none k.toNat g f
     have C:=Sp.fill_rng r Z.T k.toNat
     omega
    ·omega
  ·rw[(q j e).2]
   simp only[if_neg e]
   rw[if_neg (show ¬k=(j:Int)by omega)]
   omega
theorem Cap.put{Z Z':TZ}{l:Int}{s:Sp}{c:Nat->Nat}(h:Cap Z l v s c)(i:SpOK s)(A:s.mem.Even){m:Mem}(C:(s.alloc Z.T 0 2).2.2=0)(hm:aY (s.alloc Z.T 0 2).1.mem m)
  (w:Z'.T=Z.T) (F: ∀k,Z'.uk v k=Z.uk v k) (B:Z'.P.length=Z.P.length+1): ∃x,Cap Z' l v {(s.alloc Z.T 0 2).1 with mem:=m} x:=by
 obtain⟨d,y,r,n,t⟩:=Sp.alloc_fill i C
 generalize E:(s.alloc Z.T 0 2).1=G at*
 have z:((0:Int)).toNat=0:=rfl
 rw[z]at r n t
 refine⟨λj=>c j+if j=0 then d else 0,?_,λj g u=>?_,λj g=>?_⟩
 ·show m.free+_=l
  rw[hm.free,y]
  have:=h.free
  simp;omega
 ·rw[w]at u
  have a:G.cur Z.T.toNat j=0:=u
  by_cases e:j=0
  ·rw[e]at a;exact absurd a r
  ·rw[(n j e).1]at a
   show c j+(if j=0 then d else 0)=0
   rw[if_neg e,h.none j g a]
 ·rw[w,Sp.fill_same hm,F]
  have b:=h.le j g
  unfold TZ.pk at b⊢
  rw[B]
  by_cases e:j=0
  ·subst e
   simp only[if_true]at b⊢
   rcases t with⟨rfl,_,o⟩ | ⟨rfl,f,o⟩
   ·rw[o];omega
   ·rw[o]
    rcases f with f | f
    ·have:=h.none 0 g f
     have D:=Sp.fill_rng i Z.T 0
     omega
    ·-- a segment of pairs is filled whole
     have D:=Sp.fill_rng i Z.T 0
     have H:s.fill Z.T 0 % 2=0:=by
      unfold Sp.fill at f⊢
      by_cases p:s.cur Z.T.toNat 0=0
      ·rw[if_pos p];rfl
      ·rw[if_neg p]
       rcases i.cur Z.T.toNat 0 with q | ⟨_,_,_,q⟩
       ·exact absurd q p
       ·exact A _ (by rw[q];decide)
     omega
  ·rw[(n j e).2]
   simp only[if_neg e]at b⊢
   omega
