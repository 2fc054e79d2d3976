/-
 A trace begins (package trace): Start. Proves nothing of any one statement.
-/
import Derived.Test.YtfhbhckhmnleoaaGreatTrF
set_option linter.unusedVariables false
set_option linter.unusedSimpArgs false
namespace Go.Proofs.YtfhbhckhmnleoaaGreat
open Go Go.Proofs.Tryz
variable{H:zV}{a:Blk}{b:Tr}{d:TB}{g k:Int}{i:Mem}{j:Sp}{o v:Nat}{u:Hp}
theorem pO(A B:Value)(C:List Value){z:Value}(hk:v<o):((([A,B]++List.replicate o z++C:List Value).toArray)[2+v]?)=some z:=by
 rw[List.getElem?_toArray,List.getElem?_append_left (by simp;omega),List.getElem?_append_right (by simp)]
 simp only[List.length_cons,List.length_nil]
 rw[List.getElem?_replicate,if_pos (by omega)]
theorem qD(A B:Value)(C:List Value){z:Value}(n k:Nat):((([A,B]++List.replicate n z++C:List Value).toArray)[2+n+k]?)=C[k]?:=by
 rw[List.getElem?_toArray,List.getElem?_append_right (by simp;omega)]
 congr 1
 simp only[List.length_append,List.length_cons,List.length_nil,List.length_replicate];omega
theorem qE(A B:Value)(C:List Value){z:Value}(n:Nat):((([A,B]++List.replicate n z++C:List Value).toArray)[0]?)=some A/\((([A,B]++List.replicate n z++C:List Value).toArray)[1]?)=some B:=by
 constructor<;>rw[List.getElem?_toArray]<;>rfl
theorem qF(A B:Value)(C:List Value){z:Value}(n:Nat):([A,B]++List.replicate n z++C:List Value).toArray.size=2+n+C.length:=by simp;omega
theorem TrAt.init{s:Nat}(q:H[o]?=some (.cells ([vp (some ⟨a.h,0,none⟩),vi g]++List.replicate 1024 (vi 0)++[.map (some v),.map (some s),vN,vi 0]:List Value).toArray 106 (0,0)))
  (m:H[v]?=some (.map #[] 0)) (p:H[s]?=some (.map #[] 0)) (b:o≠v/\o≠s/\v≠s):TrAt H a ⟨o,v,s,none,0,0⟩ ⟨g,λ_=>false,[],[],[],false⟩:=by
 have d:=qE (vp (some ⟨a.h,0,none⟩)) (vi g) [.map (some v),.map (some s),vN,vi 0] (z:=vi 0) 1024
 have f:=λk (hk:k<1024)=>pO (vp (some ⟨a.h,0,none⟩)) (vi g) [.map (some v),.map (some s),vN,vi 0] (z:=vi 0) hk
 have c:=λk=>qD (vp (some ⟨a.h,0,none⟩)) (vi g) [.map (some v),.map (some s),vN,vi 0] (z:=vi 0) 1024 k
 have j:=qF (vp (some ⟨a.h,0,none⟩)) (vi g) [.map (some v),.map (some s),vN,vi 0] (z:=vi 0) 1024
 generalize (([vp (some ⟨a.h,0,none⟩),vi g]++List.replicate 1024 (vi 0)++[.map (some v),.map (some s),vN,vi 0]:List Value).toArray)=e at*
 refine⟨⟨e,q,j,d.1,d.2,λk hk=>f k hk,c 0,c 1,c 2,c 3⟩,⟨_,_,m,rfl⟩,⟨_,_,p,rfl⟩,rfl,(λr l=>by cases l),⟨rfl,Nat.zero_le _⟩,⟨b.1,b.2.1,b.2.2,λi n=>by simp at n⟩⟩
theorem TrAt.put(h:TrAt H a d b){o:Nat}{v:Value}(l:o<1030):
  aM H ⟨d.t,o,none⟩ 0 1/\Fr [d.t] H (aP H ⟨d.t,o,none⟩ [v] 0)/\ ∃c f:Array Value,H[d.t]?=some (.cells c 106 (0,0))/\(aP H ⟨d.t,o,none⟩ [v] 0)[d.t]?=some (.cells f 106 (0,0))/\f.size=c.size/\ ∀j:Nat,f[j]?=if j=o then some v else c[j]?:=by
 obtain⟨c,g,k,_⟩:=h.tr
 refine⟨bV g _ _ _ (by omega),?_⟩
 rw[cW _ H c _ 0 g]
 refine⟨Fr.set,c,_,g,aZ (bB g),splice_size _ _ _,λj=>?_⟩
 by_cases e:j=o
 ·rw[if_pos e,e]
  have:=dv c [v] (o+0) 0 (by simp;omega) (by simp)
  simpa using this
 ·rw[if_neg e]
  rcases Nat.lt_or_ge j o with i | i
  ·exact cL _ _ _ _ (by omega)
  ·exact eG _ _ _ _ (by simp;omega)
theorem TrAt.rest{g:zV}(h:TrAt H a d b)(f:Fr [d.t] H g):(∃(c:Array MapEntry) (e:Nat),g[d.f]?=some (.map c e)/\Ents (cU .i64) c.toList b.frm)/\(∃(c:Array MapEntry) (e:Nat),g[d.s]?=some (.map c e)/\Ents (cU .i64) c.toList b.seen)/\eK g d.cB (cT b.cards):=by
 obtain⟨c,e,o,m⟩:=h.frm
 obtain⟨k,j,p,n⟩:=h.seen
 have q:=h.ne
 refine⟨⟨c,e,f.get (by simp;omega) o,m⟩,⟨k,j,f.get (by simp;omega) p,n⟩,?_⟩
 have i:=h.cards
 cases l:d.cB with
 | none=>rw[l]at i;exact i
 | some r=>
  rw[l]at i
  refine f.rowAt ?_ i
  have:=q.2.2.2 r.block (by rw[l];simp)
  simp;omega
theorem TrAt.putOld(h:TrAt H a d b){k:Nat}(hk:k<1024):
  aM H ⟨d.t,2+k,none⟩ 0 1/\Fr [d.t] H (aP H ⟨d.t,2+k,none⟩ [vi 1] 0)/\TrAt (aP H ⟨d.t,2+k,none⟩ [vi 1] 0) a d {b with old:=λi=>if i=k then true else b.old i}:=by
 obtain⟨x,g,D,f,y,z,F,c⟩:=h.put (o:=2+k) (v:=vi 1) (by omega)
 obtain⟨A,B,C⟩:=h.rest g
 refine⟨x,g,?_⟩
 obtain⟨l,j,E,m,n,p,q,r,s,t⟩:=h.tr
 rw[y]at j;cases j
 refine⟨⟨f,z,by omega,by rw[c,if_neg (by omega)];exact m,by rw[c,if_neg (by omega)];exact n,λi w=>?_,by rw[c,if_neg (by omega)];exact q,by rw[c,if_neg (by omega)];exact r,by rw[c,if_neg (by omega)];exact s,by rw[c,if_neg (by omega)];exact t⟩,A,B,C,λG u=>Nat.lt_of_lt_of_le (h.cB G u) g.size,h.clen,h.ne⟩
 rw[c]
 by_cases e:i=k
 ·subst e;rw[if_pos rfl];simp
 ·rw[if_neg (by omega),p i w];simp[e]
theorem TrAt.putCards(h:TrAt H a d b){B:zW}{n c:Nat}{l:List (Int×Int)}(r:eK H B (cT l))(m: ∀i∈blks B,i<H.size)(hn:n=l.length/\n<=4096)(q: ∀i∈blks B,i ∉ d.all):
  aM H ⟨d.t,1028,none⟩ 0 1/\Fr [d.t] H (aP H ⟨d.t,1028,none⟩ [vs B n c] 0)/\TrAt (aP H ⟨d.t,1028,none⟩ [vs B n c] 0) a {d with cB:=B,cN:=n,cC:=c} {b with cards:=l}:=by
 obtain⟨C,f,I,g,D,E,L,e⟩:=h.put (o:=1028) (v:=vs B n c) (by omega)
 obtain⟨F,G,M⟩:=h.rest f
 refine⟨C,f,?_⟩
 obtain⟨s,p,J,t,u,w,x,y,K,z⟩:=h.tr
 rw[D]at p;cases p
 refine⟨⟨g,E,by omega,by rw[e,if_neg (by omega)];exact t,by rw[e,if_neg (by omega)];exact u,λi k=>by rw[e,if_neg (by omega)];exact w i k,by rw[e,if_neg (by omega)];exact x,by rw[e,if_neg (by omega)];exact y,by rw[e,if_pos rfl],by rw[e,if_neg (by omega)];exact z⟩,F,G,?_,λN A=>?_,hn,⟨h.ne.1,h.ne.2.1,h.ne.2.2.1,λi k=>?_⟩⟩
 ·cases B with
  | none=>exact r
  | some N=>
   refine f.rowAt ?_ r
   have:=q N.block (by simp)
   simp[TB.all]at this⊢;omega
 ·have j:B=some N:=A
  subst j
  exact Nat.lt_of_lt_of_le (m _ (by simp)) f.size
 ·have:=q i k
  simp only[TB.all,List.mem_cons,not_or]at this
  exact⟨this.1,this.2.1,this.2.2.1⟩
theorem TrAt.putFrm{c:Array MapEntry}{l:List (Int×Value)}(h:TrAt H a d b)(r:Ents (cU .i64) c.toList l):TrAt (bH H d.f (.map c o)) a d {b with frm:=l}:=by
 have f:Fr [d.f] H (bH H d.f (.map c o)):=Fr.set
 have t:=h.lt d.f (by simp[TB.all])
 obtain⟨m,n,s⟩:=h.tr
 obtain⟨i,g,p,k⟩:=h.seen
 have u:=h.ne
 refine⟨⟨m,f.get (by simp;omega) n,s⟩,⟨c,o,aZ t,r⟩,⟨i,g,f.get (by simp;omega) p,k⟩,?_,λv q=>Nat.lt_of_lt_of_le (h.cB v q) f.size,h.clen,h.ne⟩
 have e:=h.cards
 cases j:d.cB with
 | none=>rw[j]at e;exact e
 | some v=>
  rw[j]at e
  refine f.rowAt ?_ e
  have:=u.2.2.2 v.block (by rw[j];simp)
  simp;omega
def bI(g:Int):List Int:=(List.range (g+1).toNat).map λi:Nat=>(i:Int)
theorem ig:k∈bI g ↔ 0<=k/\k<=g:=by
 unfold bI
 rw[List.mem_map]
 constructor
 ·rintro⟨i,a,rfl⟩;rw[List.mem_range]at a;omega
 ·rintro⟨b,c⟩;exact⟨k.toNat,by rw[List.mem_range];omega,by omega⟩
def Mem.young(m:Mem)(g:Int)(k:Nat):Bool:=decide (m.has k/\(m.seg k).gen<=g)
def Mem.nyoung(m:Mem)(g:Int):Nat:=(m.takenTo (bI g) m.limit).length
structure eR (m:Mem) (g T:Int) (t:Tr):Prop where
 tgt:t.tgt=T
 old: ∀k,k<1024->t.old k=m.young g k
 frm: ∀k:Int,0<=k->mget t.frm k=if m.has k/\(m.seg k.toNat).gen=T then some (vi (m.seg k.toNat).n)else none
 seen: ∀k:Int,0<=k->mget t.seen k=if m.has k/\(m.seg k.toNat).gen=T then some (vi (m.seg k.toNat).n)else none
 frm0: ∀k:Int,k<0->mget t.frm k=none
 seen0: ∀k:Int,k<0->mget t.seen k=none
 cards: ∃l,dT m [] l/\t.cards=m.dirtyOf g l
 over:t.over=false
theorem eR.seenOK(h:eR i g k b)(c:aV i):dE b.seen:=by
 intro d v a
 rcases Int.lt_or_le d 0 with hk | hk
 ·rw[h.seen0 d hk]at a;cases a
 rw[h.seen d hk]at a
 split at a
 ·cases a
  exact⟨_,rfl,(c.seg _).n⟩
 ·cases a
def dW(s:Sp)(g T more:Int):Int:=if g<0\/4<=g\/T<g\/g+1<T\/more<0 then 1 else if s.mem.free-2*s.mem.nyoung g-8<more then 2 else 0
theorem Sp.fresh_ok(b:SpOK j)(a:List Int):SpOK (j.fresh a):=Sp.zap_ok b _
def Told(m:Mem)(ks:List (Int×Value))(l:List Nat):Prop:= ∀k:Int,mget ks k=if 0<=k/\k.toNat∈l then some (vi (m.seg k.toNat).n)else none
theorem Told.put{m:Mem}{c:List (Int×Value)}{l:List Nat}(h:Told m c l)(k:Nat){v:Value}:Told m (mput (mput c k v) k (vi (m.seg k).n)) (l++[k]):=by
 intro a
 rw[ie,ie,h a]
 by_cases e:a=k
 ·subst e
  rw[if_pos rfl,if_pos ⟨by omega,by simp⟩];simp
 ·rw[if_neg e,if_neg e]
  refine gl ⟨λq=>⟨q.1,List.mem_append_left _ q.2⟩,λq=>⟨q.1,?_⟩⟩ _ _
  rcases List.mem_append.1 q.2 with b | b
  ·exact b
  ·simp at b;omega
set_option maxRecDepth 100000 in
theorem lc{x:Hp}{T m:Int}(hp:HpAt H a x)(ok:SpOK x.sp)(he:x.sp.mem.Even)(dC:x.sp.cf<4611686018427387904)(hg:I64 g)(hT:I64 T)(hm:I64 m):
  eI.C (some ⟨a.h,0,none⟩) g T m H (λv H'=>(dW x.sp g T m≠0->v=.tuple #[vp none,vi (dW x.sp g T m)]/\Ext H H')/\
   (dW x.sp g T m=0-> ∃(q:TB) (t:Tr),v=.tuple #[vp (some ⟨q.t,0,none⟩),vi 0]/\Tg H' a {x with sp:=x.sp.fresh (bI g)} q t/\eR x.sp.mem g T t/\(∀i∈q.all,H.size<=i)/\Fr (spB a) H H')):=by
 refine HC.via λR hR=>eI.link ?_
 unfold eI.pt zY
 rw[onPtr_some]
 refine⟨_,hp.hPtr,?_⟩
 rw[onPtr_some]
 by_cases O:g<0\/4<=g\/T<g\/g+1<T\/m<0
 ·have e:dW x.sp g T m=1:=by unfold dW;rw[if_pos O]
  rw[if_pos ?_]
  ·exact hR _ _ ⟨λ_=>⟨by rw[e],Ext.refl _⟩,λh=>by rw[e]at h;exact absurd h (by decide)⟩
  ·rcases O with h | h | h | h | h
   ·simp[h]
   ·have:g>=4:=h
    simp[this]
   ·simp[h]
   ·by_cases h4:g>=4
    ·simp[h4]
    ·rw[w64 (n:=g+1) (by omega)]
     have:T>g+1:=h
     simp[this]
   ·simp[h]
 have ew:0<=g/\g<4/\g<=T/\T<=g+1/\0<=m:=by omega
 rw[w64 (n:=g+1) (by omega)]
 rw[if_neg (by
  simp only[Bool.or_eq_true,decide_eq_true_eq]
  omega)]
 have e7:=ok.mem.lim
 have E:(bI g).length=(g+1).toNat:=by simp[bI]
 refine⟨λB n c i A=>(0<=i/\i<=g+1)/\n=i.toNat/\Own A 3 1 B n c (ivs ((bI g).take i.toNat))/\(∀j∈blks B,H.size<=j)/\Ext H A,λ_ _ _ i _=>(g+1-i).toNat,⟨by omega,rfl,gF,by simp,Ext.refl _⟩,?_⟩
 rintro gB gN gC i H1 ⟨hi,rfl,Q,bn,fv⟩
 by_cases bq:i<g+1
 ·rw[if_pos bq]
  intro c2 H2 dA ci
  have fL:Ext H1 H2:=Ext.push' ci
  have hd:(g+1-(i+1)).toNat< (g+1-i).toNat:=by omega
  rw[w64 (n:=i+1) (by omega)]
  refine eV (ys:=[vi i]) (Q.ext fL) (ft (aL dA ci) _ 0 0 (λj d=>by
   simp only[List.length_cons,List.length_nil]at d
   obtain rfl:j=0:=by omega
   rfl)) rfl rfl rfl (by omega) ?_
  intro p' c' H4 aR f4 dP
  have ht:(bI g).take (i+1).toNat=(bI g).take i.toNat++[i]:=by
   rw[show(i+1).toNat=i.toNat+1 by omega,List.take_succ_eq_append_getElem (by rw[E];omega)]
   congr 2
   simp[bI];omega
  refine⟨⟨by omega,by omega,?_,λj d=>?_,(fv.trans fL).fr_trans f4 bn⟩,hd⟩
  ·rw[ht,show i.toNat+1=i.toNat+1 from rfl]
   unfold ivs at aR⊢
   rw[List.map_append];exact aR
  ·rcases dP j d with h | h
   ·exact bn j h
   ·have:=fv.size;have:=fL.size;omega
 rw[if_neg bq]
 have dM:i.toNat=(bI g).length:=by rw[E];omega
 rw[dM]at Q⊢
 rw[List.take_length]at Q
 have al:=hp.ext fv
 refine⟨_,al.hPtr,_,rfl,_,al.cd.cPtr,_,rfl,_,al.cd.sp.memPtr,?_⟩
 refine HC.mono (gM (gs:=bI g) al.cd.sp.mem ok.mem Q.src rfl (by omega)) ?_
 rintro _ H4 ⟨yB,yC,b,rfl,ao,aY,dK,fM⟩
 refine⟨_,_,_,rfl,?_⟩
 have Z:=fv.trans fM
 have am:=hp.ext Z
 have dZ:=ao.len
 have cB:b.length=x.sp.mem.nyoung g:=ao.perm.length_eq
 refine⟨_,am.hPtr,_,rfl,_,am.cd.cPtr,_,rfl,_,am.cd.sp.memPtr,?_⟩
 refine HC.mono (nZ am.cd.sp.mem) ?_
 rintro _ H5 ⟨rfl,rfl⟩
 have dJ:=ok.mem.free
 have ey:x.sp.mem.nfree<=x.sp.mem.limit:=by
  unfold Mem.nfree
  exact Nat.le_trans List.countP_le_length (by simp)
 refine⟨_,rfl,?_⟩
 rw[w64 (n:=2*(b.length:Int)) (by omega),w64 (n:=x.sp.mem.free-2*(b.length:Int)) (by omega),w64 (n:=x.sp.mem.free-2*(b.length:Int)-8) (by omega)]
 by_cases D:x.sp.mem.free-2*(b.length:Int)-8<m
 ·rw[if_pos D]
  have e:dW x.sp g T m=2:=by unfold dW;rw[if_neg O,if_pos (by rw[<-cB];exact D)]
  exact hR _ _ ⟨λ_=>⟨by rw[e],Z⟩,λh=>by rw[e]at h;exact absurd h (by decide)⟩
 rw[if_neg D]
 have es:dW x.sp g T m=0:=by unfold dW;rw[if_neg O,if_neg (by rw[<-cB];exact D)]
 intro u H6 co ai r H7 cp aj M H8 dz bk
 have e6:Ext H5 H6:=Ext.push' ai
 have fN:Ext H6 H7:=Ext.push' aj
 have fw:Ext H7 H8:=Ext.push' bk
 have z6:H6.size=H5.size+1:=by rw[ai];simp
 have z7:H7.size=H6.size+1:=by rw[aj];simp
 have z5:=Z.size
 have ae:Ext H5 H8:=(e6.trans fN).trans fw
 have bW:=Z.trans ae
 have eA:=hp.ext bW
 have T8:TrAt H8 a ⟨M,u,r,none,0,0⟩ ⟨T,λ_=>false,[],[],[],false⟩:=TrAt.init (aL dz bk) (fw.get (fN.get (aL co ai))) (fw.get (aL cp aj)) ⟨by omega,by omega,by omega⟩
 have z: ∀j∈a.all,j<H.size:=λj d=>hp.lt j d
 have dV: ∀j∈blks yB,j<H5.size/\H1.size<=j:=λj d=>⟨aY.lt j d,dK j d⟩
 have bo: ∀j∈blks gB,j<H1.size/\H.size<=j:=λj d=>⟨Q.lt j d,bn j d⟩
 have z1:=fv.size
 have z4:=fM.size
 refine⟨λi A=>(0<=i/\i<=b.length)/\TrAt A a ⟨M,u,r,none,0,0⟩ ⟨T,λk=>decide (k∈b.take i.toNat),[],[],[],false⟩/\Fr [M] H8 A,λi _=>(b.length-i).toNat,⟨by omega,by simpa using T8,Fr.refl _ _⟩,?_⟩
 rintro L H9 ⟨dL,T9,f9⟩
 by_cases bp:L< (b.length:Int)
 ·rw[if_pos bp]
  have a9:L.toNat<b.length:=by omega
  have bs:=(aY.ext ae).keep f9 (λj d hm=>by have:=dV j d;simp at hm;omega)
  obtain⟨fs,ha,a6⟩:=k9 bs a9
  obtain⟨b0,cG,cH,_⟩:=ao.has (List.getElem_mem a9)
  have hput:=T9.putOld (k:=b[L.toNat]) (by omega)
  have hd:((b.length:Int)-(L+1)).toNat< ((b.length:Int)-L).toNat:=by omega
  refine⟨fs,ha,⟨dL.1,bp⟩,_,a6,⟨by omega,by omega⟩,?_⟩
  rw[addr_add_mk,addr_add_mk,Nat.zero_add,Nat.mul_one,show((b[L.toNat]:Nat):Int).toNat=b[L.toNat]by omega,w64 (n:=L+1) (by omega)]
  refine⟨hput.1,λeb ce=>?_⟩
  subst ce
  refine⟨⟨by omega,?_,f9.trans hput.2.1⟩,hd⟩
  have ho:(λk=>decide (k∈b.take (L+1).toNat))=(λi=>if i=b[L.toNat]then true else decide (i∈b.take L.toNat)):=by
   funext k
   rw[show(L+1).toNat=L.toNat+1 by omega,List.take_succ_eq_append_getElem a9]
   by_cases hk:k=b[L.toNat]
   ·rw[if_pos hk,hk];exact zX (List.mem_append_right _ (List.mem_singleton.2 rfl))
   ·rw[if_neg hk,decide_eq_decide,List.mem_append,List.mem_singleton]
    exact⟨λh=>h.resolve_right hk,.inl⟩
  rw[ho];exact hput.2.2
 rw[if_neg bp]
 have a9:L.toNat=b.length:=by omega
 rw[a9,List.take_length]at T9
 have dl:Fr [M] H5 H9:=ae.fr.trans f9
 have c9:Ext H H9:=Z.fr_trans dl (λj d=>by simp at d;omega)
 have an:=hp.ext c9
 refine⟨_,an.hPtr,_,rfl,_,an.cd.cPtr,_,rfl,_,an.cd.sp.memPtr,?_⟩
 intro d6 b3 cq ay
 have ba:Ext H9 b3:=Ext.push' ay
 have z8:H8.size=H7.size+1:=by rw[bk];simp
 have z9:=f9.size
 have cC:=an.ext ba
 refine HC.mono (gM (gs:=[T]) cC.cd.sp.mem ok.mem (show eK b3 (some ⟨d6,0,none⟩) (ivs [T])from row1 (by rw[aH (aL cq ay)];rfl)) rfl (by decide)) ?_
 rintro _ b4 ⟨wB,wC,l,rfl,hl,aX,dI,db⟩
 refine⟨_,_,_,rfl,?_⟩
 have dO:=hl.len
 have G:=ba.trans db
 have c8:=c9.trans G
 have eJ:=G.size
 have dU: ∀j∈blks wB,j<b4.size/\b3.size<=j:=λj d=>⟨aX.lt j d,dI j d⟩
 have eH:=ba.size
 refine⟨λi A=>(0<=i/\i<=l.length)/\(∃ks w:List (Int×Value),TrAt A a ⟨M,u,r,none,0,0⟩ ⟨T,λk=>decide (k∈b),ks,w,[],false⟩/\Told x.sp.mem ks (l.take i.toNat)/\Told x.sp.mem w (l.take i.toNat))/\(∃es cl,A[u]?=some (.map es cl)/\Born es cl)/\(∃es cl,A[r]?=some (.map es cl)/\Born es cl)/\Fr [u,r] b4 A,λi _=>(l.length-i).toNat,?_,?_⟩
 ·have ck: ∀c,c=u\/c=r->b4[c]?=some (.map #[] 0):=λc hc=>by
   have dB:H8[c]?=some (.map #[] 0):=by
    rcases hc with rfl | rfl
    ·exact fw.get (fN.get (aL co ai))
    ·exact fw.get (aL cp aj)
   exact G.get (f9.get (by simp;omega) dB)
  exact⟨by omega,⟨[],[],T9.ext G,λk=>by simp[mget],λk=>by simp[mget]⟩,⟨_,_,ck _ (.inl rfl),mS⟩,⟨_,_,ck _ (.inr rfl),mS⟩,Fr.refl _ _⟩
 rintro p bC ⟨cy,⟨ks,w,bJ,P,F⟩,⟨c6,bS,cv,b7⟩,⟨bf,b9,cx,b8⟩,a0⟩
 have eN:=a0.size
 have N:Ext H bC:=c8.fr_trans a0 (λj d=>by simp at d;omega)
 have o:=hp.ext N
 by_cases a8:p< (l.length:Int)
 ·rw[if_pos a8]
  have I:p.toNat<l.length:=by omega
  have ak:=aX.keep a0 (λj d hm=>by have:=dU j d;simp at hm;omega)
  obtain⟨fs,ha,a6⟩:=k9 ak I
  obtain⟨b0,cG,cH,_⟩:=hl.has (List.getElem_mem I)
  have cF:l.take (p+1).toNat=l.take p.toNat++[l[p.toNat]]:=by rw[show(p+1).toNat=p.toNat+1 by omega,List.take_succ_eq_append_getElem I]
  generalize hk:l[p.toNat]=k at*
  refine⟨fs,ha,⟨cy.1,a8⟩,_,a6,_,o.hPtr,_,rfl,_,o.cd.cPtr,_,rfl,_,o.cd.sp.memPtr,?_⟩
  refine HC.mono (fq o.cd.sp.mem) ?_
  rintro _ ee ⟨rfl,au⟩
  have dR:x.sp.mem.segOr k=x.sp.mem.seg k:=by unfold Mem.segOr;rw[if_pos b0,show((k:Nat):Int).toNat=k by omega]
  rw[dR]
  refine⟨_,_,_,_,_,_,_,_,rfl,λY eg cr cg=>?_⟩
  obtain⟨dD,hs⟩:=gz (x.sp.mem.seg k) cr cg
  refine⟨dD,λS ch=>?_⟩
  obtain⟨dc,_,_,g2,_⟩:=hs S ch
  have y:=au.trans dc
  have X:=bJ.ext y
  have eP:=au.size
  have e0:Y≠u/\Y≠r:=by omega
  have J:S[u]?=some (.map c6 bS):=y.get cv
  have K:S[r]?=some (.map bf b9):=y.get cx
  obtain⟨e3,e1,q1,bc⟩:=X.frm
  obtain⟨e4,e2,q2,bd⟩:=X.seen
  rw[show(⟨M,u,r,none,0,0⟩:TB).f=u from rfl,J]at q1
  rw[show(⟨M,u,r,none,0,0⟩:TB).s=r from rfl,K]at q2
  cases q1;cases q2
  refine⟨some u,by rw[addr_add_mk];exact X.fAt,some r,by rw[addr_add_mk];exact X.sAt,_,by rw[addr_add_mk];exact g2,_,by rw[addr_add_mk];exact g2,u,rfl,c6,bS,ks,J,bc,b7,?_⟩
  intro dh bQ st ap U a2 av bL cm
  have cI:=bB J
  have e8:=bB K
  have af:Fr [u] S U:=by rw[a2];exact Fr.set
  have bi:hat U ⟨Y,2,none⟩=some (vi (x.sp.mem.seg k).n):=af.hat (by simp;omega) g2
  refine⟨by rw[addr_add_mk];exact row1 bi,by rw[addr_add_mk];exact row1 bi,dh,bQ,_,(k:Int),by rw[a2];exact aZ cI,av,bL,cm,?_⟩
  intro di V a3 bZ bM
  have cK:u<U.size:=by have:=af.size;omega
  have bh:Fr [u] U V:=by rw[a3];exact Fr.set
  have cc:hat V ⟨Y,2,none⟩=some (vi (x.sp.mem.seg k).n):=bh.hat (by simp;omega) bi
  have a7:V[r]?=some (.map bf b9):=bh.get (by simp;omega) (af.get (by simp;omega) K)
  refine⟨by rw[addr_add_mk];exact row1 cc,r,rfl,bf,b9,w,a7,bd,b8,?_⟩
  intro dj bR eC cP W a4 aw bN cn
  have cM:=bB a7
  have ag:Fr [r] V W:=by rw[a4];exact Fr.set
  have dp:hat W ⟨Y,2,none⟩=some (vi (x.sp.mem.seg k).n):=ag.hat (by simp;omega) cc
  refine⟨by rw[addr_add_mk];exact row1 dp,dj,bR,_,(k:Int),by rw[a4];exact aZ cM,aw,bN,cn,?_⟩
  intro dk b5 a5 c5 bO
  have c7:Fr [r] W b5:=by rw[a5];exact Fr.set
  have cN:r<W.size:=by have:=ag.size;omega
  have hd:((l.length:Int)-(p+1)).toNat< ((l.length:Int)-p).toNat:=by omega
  rw[w64 (n:=p+1) (by omega)]
  have d0:TrAt U a ⟨M,u,r,none,0,0⟩ ⟨T,λk=>decide (k∈b),mput ks k ap,w,[],false⟩:=by rw[a2];exact X.putFrm av
  have d1:TrAt V a ⟨M,u,r,none,0,0⟩ ⟨T,λk=>decide (k∈b),mput (mput ks k ap) k (vi (x.sp.mem.seg k).n),w,[],false⟩:=by rw[a3];exact d0.putFrm bZ
  have d2:TrAt W a ⟨M,u,r,none,0,0⟩ ⟨T,λk=>decide (k∈b),mput (mput ks k ap) k (vi (x.sp.mem.seg k).n),mput w k cP,[],false⟩:=by rw[a4];exact d1.putSeen aw
  have d3:TrAt b5 a ⟨M,u,r,none,0,0⟩ ⟨T,λk=>decide (k∈b),mput (mput ks k ap) k (vi (x.sp.mem.seg k).n),mput (mput w k cP) k (vi (x.sp.mem.seg k).n),[],false⟩:=by rw[a5];exact d2.putSeen c5
  have bg:Fr [u,r] S b5:=((af.mono (λj d _=>by simp at d;simp[d])).trans (bh.mono (λj d _=>by simp at d;simp[d]))).trans ((ag.mono (λj d _=>by simp at d;simp[d])).trans (c7.mono (λj d _=>by simp at d;simp[d])))
  refine⟨⟨by omega,⟨_,_,d3,by rw[cF];exact P.put k,by rw[cF];exact F.put k⟩,⟨di,bQ,?_,bM⟩,⟨dk,bR,by rw[a5];exact aZ cN,bO⟩,a0.trans (y.fr.trans bg)⟩,hd⟩
  exact c7.get (by simp;omega) (ag.get (by simp;omega) (by rw[a3];exact aZ cK))
 rw[if_neg a8]
 have I:p.toNat=l.length:=by omega
 rw[I,List.take_length]at P F
 refine⟨_,o.hPtr,_,rfl,_,o.cd.cPtr,?_⟩
 have br:Own bC 3 1 gB (bI g).length gC (ivs (bI g)):=by
  have h5:=Q.ext (fM.trans ae)
  have h9:=h5.keep f9 (λj d hm=>by have:=bo j d;simp at hm;omega)
  exact(h9.ext G).keep a0 (λj d hm=>by have:=bo j d;simp at hm;omega)
 refine HC.mono (lI o.cd.sp br.src rfl (by omega) (λj d=>by have:=bo j d;have:=z a.sp (by simp[Blk.all]);omega)) ?_
 rintro _ bD ⟨cO,ah⟩
 have ab:=o.withSp ah (λj d=>by simp at d;omega) cO
 refine⟨_,ab.hPtr,?_⟩
 have b2:=Sp.fresh_ok ok (bI g)
 refine HC.mono (mw ab.cd b2) ?_
 rintro _ b6 ⟨fz,dN,fA,fK,rfl,bl,cu,aa,bm,bb⟩
 refine⟨_,_,_,rfl,?_⟩
 have em:=z a.sp (by simp[Blk.all])
 have bK:TrAt bD a ⟨M,u,r,none,0,0⟩ ⟨T,λk=>decide (k∈b),ks,w,[],false⟩:=bJ.keep ah (λj d hq=>by
  simp at d
  simp[TB.all]at hq
  omega)
 have d4:=bK.ext bb
 have dG:=x.sp.mem.dirtyOf_len g fK
 have ct:=bl.len
 have cA:(x.sp.fresh (bI g)).mem=x.sp.mem:=rfl
 rw[cA]at cu aa bl ct
 have eT:=ah.size
 have hput:=d4.putCards (B:=fz) (n:=dN) (c:=fA) (l:=x.sp.mem.dirtyOf g fK) aa.src aa.lt ⟨cu,by omega⟩ (λj d hq=>by
  have h1:=bm j d
  have h2:=bK.lt j hq
  omega)
 rw[addr_add_mk,Nat.zero_add]
 refine⟨hput.1,λei cj=>?_⟩
 subst cj
 have dn:Fr (spB a) H (aP b6 ⟨M,1028,none⟩ [vs fz dN fA] 0):=by
  have f1:Fr (spB a) H bD:=N.fr.trans (ah.mono (λj d _=>by simp at d;simp[spB,d]))
  have f2:Fr (spB a) H b6:=f1.trans bb.fr
  refine f2.trans' hput.2.1 (λj d _=>d) (λj d bq=>?_)
  simp at d;omega
 have cD:=ab.ext bb
 have cE:HpAt (aP b6 ⟨M,1028,none⟩ [vs fz dN fA] 0) a {x with sp:=x.sp.fresh (bI g)}:=cD.keep hput.2.1 (λj d hb=>by
  have:=z j hb
  simp at d;omega)
 refine hR _ _ ⟨λh=>absurd es h,λ_=>⟨_,_,rfl,⟨⟨cE,b2,hput.2.2,λj d hb=>?_⟩,he,dC,rfl⟩,?_,λj d=>?_,dn⟩⟩
 ·have h1:=z j hb
  simp only[TB.all,List.mem_cons]at d
  rcases d with h | h | h | h
  ·omega
  ·omega
  ·omega
  ·have:=bm j h;have:=N.size;omega
 ·have az: ∀bw:List (Int×Value),Told x.sp.mem bw l-> ∀k:Int,0<=k->mget bw k=if x.sp.mem.has k/\(x.sp.mem.seg k.toNat).gen=T then some (vi (x.sp.mem.seg k.toNat).n)else none:=by
   intro bw ht k hk
   rw[ht k]
   refine gl ?_ _ _
   rw[hl.perm.mem_iff]
   unfold Mem.takenTo
   rw[List.mem_filter,List.mem_range]
   have h1:=(ok.mem.seg k.toNat).taken
   constructor
   ·rintro⟨_,h3,h4⟩
    simp only[Bool.and_eq_true,decide_eq_true_eq,Bool.or_eq_true,List.isEmpty_iff]at h4
    have h5:(x.sp.mem.seg k.toNat).gen∈[T]:=h4.2.resolve_left (by simp)
    exact⟨⟨hk,by omega,by omega⟩,by simpa using h5⟩
   ·rintro⟨h3,h4⟩
    have h5:=h3.2.2
    refine⟨hk,by have:=h3.2.1;omega,?_⟩
    simp only[Bool.and_eq_true,decide_eq_true_eq,Bool.or_eq_true]
    exact⟨by omega,.inr (by rw[h4];simp)⟩
  refine⟨rfl,λk hk=>?_,λk hk=>?_,λk hk=>?_,λk hk=>?_,λk hk=>?_,⟨fK,bl,rfl⟩,rfl⟩
  ·show decide (k∈b)=_
   unfold Mem.young
   rw[decide_eq_decide,ao.perm.mem_iff]
   unfold Mem.takenTo
   rw[List.mem_filter,List.mem_range]
   have h1:=(ok.mem.seg k).taken
   have h2:=(ok.mem.seg k).gen
   have cz:((k:Nat):Int).toNat=k:=by omega
   constructor
   ·rintro⟨h3,h4⟩
    simp only[Bool.and_eq_true,decide_eq_true_eq,Bool.or_eq_true,List.isEmpty_iff]at h4
    have h5:(x.sp.mem.seg k).gen∈bI g:=by
     rcases h4.2 with h | h
     ·rw[h]at E;simp at E;omega
     ·exact h
    exact⟨⟨by omega,by omega,by rw[cz];omega⟩,(ig.1 h5).2⟩
   ·rintro⟨h3,h4⟩
    have h5:=h3.2.2
    rw[cz]at h5
    refine⟨by have:=h3.2.1;omega,?_⟩
    simp only[Bool.and_eq_true,decide_eq_true_eq,Bool.or_eq_true]
    exact⟨by omega,.inr (ig.2 ⟨h2.1,h4⟩)⟩
  ·exact az _ P k hk
  ·exact az _ F k hk
  ·show mget ks k=none
   rw[P k,if_neg (by omega)]
  ·show mget w k=none
   rw[F k,if_neg (by omega)]
 ·simp only[TB.all,List.mem_cons]at d
  have:=bW.size
  rcases d with h | h | h | h
  ·omega
  ·omega
  ·omega
  ·have:=bm j h;have:=N.size;omega
def Mem.give(m:Mem)(k:Int):Mem:=if m.has k then{m with free:=m.free+1}.upd k.toNat Seg.none else m
theorem aV.give{m:Mem}(a:aV m)(k:Int):aV (m.give k):=by
 unfold Mem.give
 split
 ·rename_i h
  refine⟨a.lim,λi=>?_,?_,a.count⟩
  ·rw[Mem.upd_seg]
   split
   ·exact jk
   ·exact a.seg i
  ·show m.free+1=_
   have b:({m with free:=m.free+1}.upd k.toNat Seg.none).nfree=(m.upd k.toNat Seg.none).nfree:=rfl
   have:=Mem.nfree_give (m:=m) (k:=k.toNat) (s:=Seg.none) (by have:=h.1;have:=h.2.1;omega) h.2.2 rfl
   rw[b,this,a.free];omega
 ·exact a
set_option maxRecDepth 100000 in
theorem jq{c:Nat}{k:Int}(h:cw H v c i)(x:aV i):
  dA.C (some ⟨v,0,none⟩) k H (λN q=>N=vi (if i.has k then 0 else 19)/\cw q v c (i.give k)/\Fr [v,c] H q):=by
 refine HC.via λR p=>dA.link ?_
 unfold dA.pt zY
 refine HC.mono (iP h) ?_
 rintro _ y ⟨rfl,rfl⟩
 refine⟨_,rfl,?_⟩
 by_cases hk:i.has k
 case neg=>
  rw[if_neg hk,onPtr_none]
  have e:i.give k=i:=by unfold Mem.give;rw[if_neg hk]
  rw[e,if_neg hk]at p
  exact p _ _ ⟨rfl,h,Fr.refl _ _⟩
 rw[if_pos hk,onPtr_some]
 have g:k.toNat<i.limit:=by have:=hk.1;have:=hk.2.1;omega
 have d:=h.canPuts (k:=k.toNat) (o:=0) (n:=72) g (by omega)
 rw[Nat.add_zero]at d
 refine⟨d,λr m=>?_⟩
 obtain⟨z,D,L,I⟩:=lV
 obtain⟨a,l⟩:=h.puts (k:=k.toNat) (o:=0) (vs:=z.toList) (s:=Seg.none) g (by simp;omega) (λj w=>by rw[Nat.zero_add,Array.getElem?_toList];exact I j (by simp at w;omega)) (λj w J=>by simp at J;omega)
 rw[Nat.add_zero]at a l
 have B:r=aP y ⟨c,k.toNat*72,none⟩ z.toList 0:=by rw[m,D]
 rw[<-B]at a l
 have u:i.free<=1024/\0<=i.free:=by
  have:=x.lim
  have:i.nfree<=(List.range i.limit).length:=List.countP_le_length
  simp at this
  rw[x.free];omega
 refine⟨_,rfl,i.free,by rw[addr_add_mk];exact a.freeAt,by rw[addr_add_mk];exact bV a.mem.choose_spec _ _ _ (by simp),λt b=>?_⟩
 rw[addr_add_mk,cW _ _ _ _ _ a.mem.choose_spec,w64 (n:=i.free+1) (by omega)]at b
 have e:i.give k={i with free:=i.free+1}.upd k.toNat Seg.none:=by unfold Mem.give;rw[if_pos hk]
 have F:cw t v c (i.give k):=by
  rw[e]
  subst b
  obtain⟨A,G,K⟩:=a.segs
  exact⟨⟨a.mem.choose,by rw[aZ a.lt.1];rfl⟩,h.ne,A,by rw[eO h.ne];exact G,K⟩
 have E:Fr [v] r t:=by subst b;exact Fr.set
 exact p _ _ ⟨by rw[if_pos hk],F,l.trans' E (λM f _=>by simp at f;simp[f]) (λM f _=>by simp at f;simp[f])⟩
def Sp.give(s:Sp)(k:Int):Sp:=if s.mem.has k then{mem:=s.mem.give k,cur:=λi j=>if s.cur i j=k+1 then 0 else s.cur i j}else s
theorem Sp.give_ok(c:SpOK j)(k:Int):SpOK (j.give k):=by
 unfold Sp.give
 split
 ·rename_i hk
  refine⟨c.mem.give k,λg o=>?_⟩
  by_cases h:j.cur g o=k+1
  ·exact .inl (if_pos h)
  ·have a:({mem:=j.mem.give k,cur:=λi o=>if j.cur i o=k+1 then 0 else j.cur i o}:Sp).cur g o=j.cur g o:=if_neg h
   rw[a]
   rcases c.cur g o with f | ⟨l,b,m,n⟩
   ·exact .inl f
   ·have hn:(j.cur g o-1).toNat≠k.toNat:=by have:=b.1;have:=hk.1;omega
    have e:(j.mem.give k).seg (j.cur g o-1).toNat=j.mem.seg (j.cur g o-1).toNat:=by unfold Mem.give;rw[if_pos hk,Mem.upd_other _ _ hn]
    have d:(j.mem.give k).limit=j.mem.limit:=by unfold Mem.give;rw[if_pos hk];rfl
    exact .inr ⟨l,⟨b.1,by show _< ((j.mem.give k).limit:Int);rw[d];exact b.2.1,by show((j.mem.give k).seg _).taken≠0;rw[e];exact b.2.2⟩,by show((j.mem.give k).seg _).gen=_;rw[e];exact m,by show((j.mem.give k).seg _).kind=_;rw[e];exact n⟩
 ·exact c
set_option maxRecDepth 100000 in
theorem mx{k:Int}(h:SpAt H a j)(l:SpOK j)(L:0<=k/\k<=1024):
  cQ.C (some ⟨a.sp,0,none⟩) k H (λv G=>(∃e:Int,v=vi e)/\SpAt G a (j.give k)/\Fr [a.sp,a.m,a.s] H G):=by
 refine HC.via λR t=>cQ.link ?_
 unfold cQ.pt zY
 refine HC.mono (jB h) ?_
 rintro _ Z ⟨rfl,rfl⟩
 refine⟨_,rfl,?_⟩
 rw[if_neg (by decide)]
 refine⟨_,rfl,_,h.memPtr,?_⟩
 refine HC.mono (fq h.mem) ?_
 rintro _ H2 ⟨rfl,O⟩
 refine⟨_,_,_,_,_,_,_,_,rfl,λc3 H3 B z=>?_⟩
 obtain⟨D,X⟩:=gz (j.mem.segOr k) B z
 refine⟨D,λM A=>?_⟩
 obtain⟨P,x,y,_,_⟩:=X M A
 have f:=O.trans P
 have c:=h.ext f
 by_cases hk:j.mem.has k
 case neg=>
  rw[if_neg (by simpa using hk)]
  refine⟨_,c.memPtr,?_⟩
  refine HC.mono (jq c.mem l.mem) ?_
  rintro _ I ⟨rfl,w,o⟩
  have e:j.give k=j:=by unfold Sp.give;rw[if_neg hk]
  have N:j.mem.give k=j.mem:=by unfold Mem.give;rw[if_neg hk]
  rw[N]at w
  rw[e]at t
  exact⟨_,rfl,t _ _ ⟨⟨_,rfl⟩,c.withMem o (by have:=h.ne;simp;omega) w,f.fr.trans (o.mono (λi d _=>by simp at d;simp;omega))⟩⟩
 rw[if_pos (zX hk)]
 have F:j.mem.segOr k=j.mem.seg k.toNat:=by unfold Mem.segOr;rw[if_pos hk]
 rw[F]at x y
 have U:=(l.mem.seg k.toNat).gen
 have W:=(l.mem.seg k.toNat).kind
 have q:=c.curAt (g:=(j.mem.seg k.toNat).gen.toNat) (k:=(j.mem.seg k.toNat).kind.toNat) (by omega) (by omega)
 refine⟨_,x,_,by rw[addr_add_mk];exact y,⟨by omega,by omega⟩,⟨by omega,by omega⟩,_,by simp only[addr_add_mk,Nat.zero_add,Nat.mul_one];exact q,?_⟩
 rw[w64 (n:=k+1) (by omega)]
 have J:j.give k={mem:=j.mem.give k,cur:=λi a7=>if j.cur i a7=k+1 then 0 else j.cur i a7}:=by unfold Sp.give;rw[if_pos hk]
 have b: ∀i a7:Nat,j.cur i a7=k+1->i=(j.mem.seg k.toNat).gen.toNat/\a7=(j.mem.seg k.toNat).kind.toNat:=λi a7 E=>by
  rcases l.cur i a7 with h0 | ⟨h1,h2,Q,c⟩
  ·have:=hk.1;omega
  ·rw[E,show(k+1-1).toNat=k.toNat by omega]at Q c
   omega
 by_cases u:j.cur (j.mem.seg k.toNat).gen.toNat (j.mem.seg k.toNat).kind.toNat=k+1
 ·rw[if_pos u]
  have s:=c.putCur (g:=(j.mem.seg k.toNat).gen.toNat) (k:=(j.mem.seg k.toNat).kind.toNat) (v:=0) (by omega) (by omega)
  refine⟨_,x,_,by rw[addr_add_mk];exact y,⟨by omega,by omega⟩,⟨by omega,by omega⟩,by simp only[addr_add_mk,Nat.zero_add,Nat.mul_one];exact s.1,λI p=>?_⟩
  simp only[addr_add_mk,Nat.zero_add,Nat.mul_one]at p
  subst p
  refine⟨_,s.2.1.memPtr,?_⟩
  refine HC.mono (jq s.2.1.mem l.mem) ?_
  rintro _ H6 ⟨rfl,Y,K⟩
  have T:=s.2.1.withMem K (by have:=h.ne;simp;omega) Y
  refine⟨_,rfl,t _ _ ⟨⟨_,rfl⟩,?_,(f.fr.trans (s.2.2.mono (λi d _=>by simp at d;simp[d]))).trans (K.mono (λi d _=>by simp at d;simp;omega))⟩⟩
  rw[J]
  refine T.alike rfl (λi a7 d V=>?_)
  show(if j.cur i a7=k+1 then 0 else j.cur i a7)=(if i=_/\a7=_ then 0 else j.cur i a7)
  refine gl ⟨b i a7,λr=>?_⟩ _ _
  rw[r.1,r.2];exact u
 ·rw[if_neg u]
  refine⟨_,c.memPtr,?_⟩
  refine HC.mono (jq c.mem l.mem) ?_
  rintro _ I ⟨rfl,w,o⟩
  have S:=c.withMem o (by have:=h.ne;simp;omega) w
  refine⟨_,rfl,t _ _ ⟨⟨_,rfl⟩,?_,f.fr.trans (o.mono (λi d _=>by simp at d;simp;omega))⟩⟩
  rw[J]
  refine S.alike rfl (λi a7 d V=>?_)
  show(if j.cur i a7=k+1 then 0 else j.cur i a7)=j.cur i a7
  rw[if_neg (λr=>u (by have:=b i a7 r;rw[<-this.1,<-this.2];exact r))]
def Mem.cardLen(m:Mem)(k c:Int):Nat:=(min 16 ((m.seg k.toNat).n-c*16)).toNat
def Mem.markOf(m:Mem)(k c:Int)(n:Nat):Int:=(m.row (k*64+c*16) n).foldl (λmk w=>m.younger (m.seg k.toNat) w mk) 5
def Mem.again(m:Mem)(k c:Int):Mem:=if m.has k/\0<=c/\c<4 then(m.mark k c (m.markOf k c (m.cardLen k c))).1 else m
theorem Mem.markOf_succ(m:Mem)(k c:Int)(n:Nat):m.markOf k c (n+1)=m.younger (m.seg k.toNat) (m.get (k*64+c*16+n)) (m.markOf k c n):=by
 unfold Mem.markOf Mem.row
 rw[List.range_succ,List.map_append,List.foldl_append];rfl
set_option maxRecDepth 100000 in
theorem kr{d:Value}{b:Blk}{s:Sp}{p1 p2 p3:Nat}{k c:Int}{R0:zV->Prop}(Inv:Nat->zV->Prop)(y:SpOK s)(hk:s.mem.has k)(L:0<=c/\c<4)(D:Inv 0 H)
  (r: ∀j A,Inv j A->SpAt A b s/\hat A ⟨b.c,0,none⟩=some (vp (some ⟨b.sp,0,none⟩))/\hat A ⟨p1,0,none⟩=some (vp (some ⟨b.c,0,none⟩))/\hat A ⟨p2,0,none⟩=some (vi k)/\hat A ⟨p3,0,none⟩=some (vi c))
  (f: ∀j,j<s.mem.cardLen k c-> ∀A,Inv j A->FC prog d #[vu (s.mem.get (k*64+c*16+j))] A (λv z=>v=vT/\Inv (j+1) z))
  (e: ∀A,Inv (s.mem.cardLen k c) A->R0 A):
  cK.C d (some ⟨p1,0,none⟩) (some ⟨p2,0,none⟩) (some ⟨p3,0,none⟩) H (λv A=>v=.tuple #[]/\R0 A):=by
 refine HC.via λR u=>cK.link ?_
 unfold cK.pt zY
 have x:=y.mem.lim
 have N:=hk.1
 have O:=hk.2.1
 refine⟨λi A=> ∃j:Nat,i=j/\j<=s.mem.cardLen k c/\Inv j A,λi _=>(16-i).toNat,⟨0,rfl,Nat.zero_le _,D⟩,?_⟩
 rintro i A ⟨j,rfl,M,m⟩
 have w:s.mem.cardLen k c<=16:=by unfold Mem.cardLen;omega
 by_cases g:(j:Int)<16
 ·rw[if_pos g]
  obtain⟨l,F,G,I,J⟩:=r j A m
  refine⟨_,rfl,_,G,_,rfl,_,F,_,rfl,_,l.memPtr,_,rfl,_,I,_,rfl,_,J,?_⟩
  rw[w64 (n:=k*64) (by omega),w64 (n:=c*16) (by omega),w64 (n:=k*64+c*16) (by omega),w64 (n:=k*64+c*16+j) (by omega)]
  refine HC.mono (fF l.mem y.mem (by omega)) ?_
  rintro _ B ⟨rfl,rfl⟩
  have p:(k*64+c*16+j) / 64=k:=by omega
  have t:(k*64+c*16+(j:Int)) % 64=c*16+j:=by omega
  by_cases o:s.mem.used (k*64+c*16+j)
  ·rw[if_pos o]
   refine⟨_,_,rfl,?_⟩
   rw[if_pos rfl]
   have a:j<s.mem.cardLen k c:=by
    have E:=o.2.2
    rw[p,t]at E
    unfold Mem.cardLen;omega
   refine(f j a B m).mono ?_
   rintro v K ⟨rfl,q⟩
   refine⟨true,rfl,?_⟩
   rw[if_pos rfl,w64 (n:=(j:Int)+1) (by omega)]
   exact⟨⟨j+1,by omega,by omega,q⟩,by show(16-((j:Int)+1)).toNat< (16-(j:Int)).toNat;omega⟩
  ·rw[if_neg o]
   refine⟨_,_,rfl,?_⟩
   rw[if_neg (by decide)]
   have a:j=s.mem.cardLen k c:=by
    rcases Nat.lt_or_ge j (s.mem.cardLen k c)with h | h
    ·refine absurd ⟨by omega,by rw[p];exact hk,?_⟩ o
     rw[p,t]
     unfold Mem.cardLen at h;omega
    ·omega
   exact u _ _ ⟨rfl,e _ (a▸m)⟩
 ·rw[if_neg g]
  have a:j=s.mem.cardLen k c:=by omega
  exact u _ _ ⟨rfl,e _ (a▸m)⟩
theorem Mem.younger_rng(b:aV i)(a:Seg)(w:Int)(h:0<=g/\g<=5):0<=i.younger a w g/\i.younger a w g<=5:=by
 have:=b.genOf w
 unfold Mem.younger
 split
 ·omega
 ·exact h
theorem Mem.markOf_rng{m:Mem}(a:aV m)(k c:Int): ∀n,0<=m.markOf k c n/\m.markOf k c n<=5
 | 0=>(by decide:(0:Int)<=5/\(5:Int)<=5)
 | n+1=>by rw[Mem.markOf_succ];exact Mem.younger_rng a _ _ (Mem.markOf_rng a k c n)
set_option maxRecDepth 100000 in
theorem my{b:Blk}{s:Sp}{k c:Int}(h:CdAt H b s)(ok:SpOK s)(ba: ∀i,i∈[b.c,b.sp,b.m,b.s]->i<H.size):
  cR.C (some ⟨b.c,0,none⟩) k c H (λv H'=>(∃e:Int,v=vi e)/\CdAt H' b {s with mem:=s.mem.again k c}/\Fr [b.m,b.s] H H'):=by
 refine HC.via λR U=>cR.link ?_
 unfold cR.pt
 intro c1 H1 b3 K
 have e1:Ext H H1:=Ext.push' K
 have g1:=aL b3 K
 refine⟨_,by rw[aH g1];rfl,?_⟩
 have h1:=h.ext e1
 have z1:H1.size=H.size+1:=by rw[K];simp
 refine HC.mono (ik h1) ?_
 rintro _ H2 ⟨rfl,rfl⟩
 refine⟨_,rfl,?_⟩
 rw[if_neg (by decide)]
 refine⟨_,by rw[aH g1];rfl,_,rfl,_,h1.cPtr,_,rfl,_,h1.sp.memPtr,?_⟩
 refine HC.mono (fq h1.sp.mem) ?_
 rintro _ H3 ⟨rfl,W⟩
 refine⟨_,_,_,_,_,_,_,_,rfl,λc4 H4 aa L=>?_⟩
 obtain⟨b5,hs⟩:=gz (s.mem.segOr k) aa L
 refine⟨b5,λD a7=>?_⟩
 obtain⟨X,_,_,_,ae⟩:=hs D a7
 have bl:c4<D.size:=by
  have h4:H4.size=H3.size+1:=by rw[L];simp
  rw[a7,cW _ _ _ _ _ (aL aa L)];simp[h4];omega
 have n:=(e1.trans W).trans X
 have h5:=h.ext n
 have z3:=W.size
 by_cases hk:s.mem.has k
 case neg=>
  rw[if_neg (by simpa using hk)]
  have e:s.mem.again k c=s.mem:=by unfold Mem.again;rw[if_neg (λhh=>hk hh.1)]
  rw[e]at U
  exact U _ _ ⟨⟨_,rfl⟩,h5,n.fr⟩
 rw[if_pos (zX hk)]
 by_cases hc:0<=c/\c<4
 case neg=>
  rw[if_pos (by simp only[Bool.or_eq_true,decide_eq_true_eq];omega)]
  have e:s.mem.again k c=s.mem:=by unfold Mem.again;rw[if_neg (λhh=>hc hh.2)]
  rw[e]at U
  exact U _ _ ⟨⟨_,rfl⟩,h5,n.fr⟩
 rw[if_neg (by simp only[Bool.or_eq_true,decide_eq_true_eq];omega)]
 have bd:s.mem.segOr k=s.mem.seg k.toNat:=by unfold Mem.segOr;rw[if_pos hk]
 rw[bd]at ae
 intro E H6 b4 M
 have e6:Ext D H6:=Ext.push' M
 have g6:=aL b4 M
 obtain⟨ab,bc⟩:=jE (vs:=[vi 5]) g6 rfl rfl
 refine⟨ab,λT a8=>?_⟩
 obtain⟨g7,f7⟩:=bc T a8
 have z5:=X.size
 have e7:Ext D T:=e6.fr_trans f7 (λi g=>by simp at g;omega)
 have ay:T[c1]?=some (.cells #[vp (some ⟨b.c,0,none⟩)] 49 (0,0)):=e7.get (X.get (W.get g1))
 refine⟨_,by rw[aH ay];rfl,?_⟩
 refine dq.link ?_
 unfold dq.pt
 intro d1 W1 b6 O d2 W2 b7 P d3 l b8 Q
 have w1:Ext T W1:=Ext.push' O
 have w2:Ext W1 W2:=Ext.push' P
 have w3:Ext W2 l:=Ext.push' Q
 have y7:T.size=D.size+1:=by
  have:=f7.size
  have h6:H6.size=D.size+1:=by rw[M];simp
  rw[a8,cW _ _ _ _ _ g6];simp[h6]
 have y1:W1.size=T.size+1:=by rw[O];simp
 have y2:W2.size=W1.size+1:=by rw[P];simp
 have y3:l.size=W2.size+1:=by rw[Q];simp
 have az:l[d1]?=some (.cells #[vp (some ⟨b.c,0,none⟩)] 49 (0,0)):=w3.get (w2.get (aL b6 O))
 have aR:l[d2]?=some (.cells #[vi k] 3 (0,0)):=w3.get (aL b7 P)
 have aX:l[d3]?=some (.cells #[vi c] 3 (0,0)):=aL b8 Q
 have t:=(w1.trans w2).trans w3
 refine⟨rfl,?_⟩
 intro rc o p bN N vY hY
 have I:Ext l p:=(Ext.push' rfl).trans (Ext.push' N)
 have a4:p[l.size]?=some (.deferred (some [])):=by
  have:(l.push (.deferred (some [])))[l.size]?=some (.deferred (some [])):=aL rfl rfl
  exact(Ext.push' N).get this
 have aY:p[o]?=some (rc .ready none):=aL (by simp;omega) N
 have G:Ext D p:=(e7.trans t).trans I
 have h9:=h5.ext G
 have d: ∀i,i∈[b.c,b.sp,b.m,b.s]->i<H.size:=ba
 have bR:=n.size
 refine FE.of2 (enters_of func134 (by kernel_rfl) rfl) rfl (HC.mono (kr (b:=b) (s:=s) (p1:=d1) (p2:=d2) (p3:=d3) (k:=k) (c:=c)
  (λj A=>Fr [o,E] p A/\A[o]?=some (rc .ready none)/\A[E]?=some (.cells #[vi (s.mem.markOf k c j)] 3 (0,0))) ok hk hc
  ⟨Fr.refl _ _,aY,by rw[show s.mem.markOf k c 0=5 from rfl];exact I.get (t.get g7)⟩
  (λj A hI=>?_) (λj hj A hI=>?_) (R0:=λA=>Fr [o,E] p A/\A[o]?=some (rc .ready none)/\A[E]?=some (.cells #[vi (s.mem.markOf k c (s.mem.cardLen k c))] 3 (0,0))) (λA hI=>hI)) ?_)
 ·obtain⟨f,_,_⟩:=hI
  have r:=h9.keep f (by have:=d b.c (by simp);simp;omega) (by have:=d b.sp (by simp);simp;omega) (by have:=d b.m (by simp);simp;omega) (by have:=d b.s (by simp);simp;omega)
  refine⟨r.sp,r.cPtr,?_,?_,?_⟩
  ·rw[aH (f.get (by simp;omega) (I.get az))];rfl
  ·rw[aH (f.get (by simp;omega) (I.get aR))];rfl
  ·rw[aH (f.get (by simp;omega) (I.get aX))];rfl
 ·obtain⟨f,ql,qm⟩:=hI
  refine(hY _ A _ ql ⟨ql,λy u=>?_⟩)
  have Y:Fr [o] A y:=by rw[u];exact Fr.set
  have q:Fr [o,E] p y:=f.trans (Y.mono (λi g _=>by simp at g;simp[g]))
  have af:y[o]?=some (rc .busy none):=by rw[u];exact aZ (bB ql)
  have x:=Y.get (by simp;omega) qm
  have r:=h9.keep q (by have:=d b.c (by simp);simp;omega) (by have:=d b.sp (by simp);simp;omega) (by have:=d b.m (by simp);simp;omega) (by have:=d b.s (by simp);simp;omega)
  have bb:=q.rowAt (a:=⟨c4,0,none⟩) (by show c4 ∉ [o,E];simp;omega) (G.rowAt ae)
  refine⟨_,by rw[aH (q.get (by simp;omega) ((e7.trans (t.trans I)).get (X.get (W.get g1))))];rfl,_,_,_,_,_,_,_,bb,_,by rw[aH x];rfl,?_⟩
  refine HC.mono (iQ r ((ok.mem.seg _).words _)) ?_
  rintro _ bw ⟨rfl,F⟩
  refine⟨_,rfl,?_⟩
  obtain⟨ac,be⟩:=jE (vs:=[vi (s.mem.younger (s.mem.seg k.toNat) (s.mem.get (k*64+c*16+j)) (s.mem.markOf k c j))]) (F.get x) rfl rfl
  refine⟨ac,λao a5=>?_⟩
  obtain⟨ax,Z⟩:=be ao a5
  have w:=Z.get (by simp;omega) (F.get af)
  refine⟨w,rfl,?_,aZ (bB w),?_⟩
  ·exact((q.trans F.fr).trans (Z.mono (λi g _=>by simp at g;simp[g]))).trans (Fr.set.mono (λi g _=>by simp at g;simp[g]))
  ·rw[Mem.markOf_succ,eO (by omega)];exact ax
 ·rintro _ ap ⟨rfl,aw,ag,ah⟩
  refine⟨ag,λz a6=>?_⟩
  have a0:Fr [o] ap z:=by rw[a6];exact Fr.set
  have q:Fr [o,E] p z:=aw.trans (a0.mono (λi g _=>by simp at g;simp[g]))
  have r:=h9.keep q (by have:=d b.c (by simp);simp;omega) (by have:=d b.sp (by simp);simp;omega) (by have:=d b.m (by simp);simp;omega) (by have:=d b.s (by simp);simp;omega)
  have ai:=a0.get (by simp;omega) ah
  refine⟨_,by rw[aH (q.get (by simp;omega) ((e7.trans (t.trans I)).get (X.get (W.get g1))))];rfl,_,rfl,_,r.cPtr,_,rfl,_,r.sp.memPtr,_,by rw[aH ai];rfl,?_⟩
  refine HC.mono (kQ r.sp.mem) ?_
  rintro _ B ⟨rfl,bf,J⟩
  refine⟨_,rfl,?_⟩
  have e:s.mem.again k c=(s.mem.mark k c (s.mem.markOf k c (s.mem.cardLen k c))).1:=by unfold Mem.again;rw[if_pos ⟨hk,hc⟩]
  have V:=r.withMem (S:=[b.s]) J (λi g=>by simp at g;simp[g]) bf
  have a3:B[l.size]?=some (.deferred (some [])):=J.get (by have:=d b.s (by simp);simp;omega) (q.get (by simp;omega) a4)
  refine⟨a3,?_⟩
  have a1:Fr [l.size] B (B.setIfInBounds l.size (.deferred none)):=Fr.set
  rw[e]at U
  refine U _ _ ⟨⟨_,rfl⟩,V.keep a1 (by have:=d b.c (by simp);simp;omega) (by have:=d b.sp (by simp);simp;omega) (by have:=d b.m (by simp);simp;omega) (by have:=d b.s (by simp);simp;omega),?_⟩
  have av:Ext H p:=n.trans G
  have f1:Ext H z:=av.fr_trans q (λi g=>by simp at g;omega)
  refine(f1.fr.trans (J.mono (λi g _=>by simp at g;simp[g]))).trans' a1 (λi g _=>g) (λi g hl=>by simp at g;omega)
def Sp.gives(s:Sp)(old:Nat->Bool):Nat->Sp
 | 0=>s
 | n+1=>if old n then(s.gives old n).give n else s.gives old n
def Sp.agains(s:Sp)(l:List (Int×Int)):Sp:=l.foldl (λs c=>{s with mem:=s.mem.again c.1 c.2}) s
def Sp.ended(s:Sp)(t:Tr):Sp:=(s.gives t.old 1024).agains t.cards
theorem Sp.agains_snoc(s:Sp)(l:List (Int×Int))(c:Int×Int):s.agains (l++[c])={s.agains l with mem:=(s.agains l).mem.again c.1 c.2}:=by
 unfold Sp.agains;rw[List.foldl_append];rfl
theorem Sp.gives_ok{s:Sp}(a:SpOK s)(old:Nat->Bool): ∀n,SpOK (s.gives old n)
 | 0=>a
 | n+1=>by
  unfold Sp.gives
  split
  ·exact Sp.give_ok (Sp.gives_ok a old n) _
  ·exact Sp.gives_ok a old n
theorem Mem.give_even(b:i.Even)(k:Int):(i.give k).Even:=by
 unfold Mem.give
 split
 ·intro c a
  rw[Mem.upd_seg]at a⊢
  split
  ·rfl
  ·rename_i h;rw[if_neg h]at a;exact b c a
 ·exact b
theorem Sp.give_even(a:j.mem.Even)(k:Int):(j.give k).mem.Even:=by
 unfold Sp.give
 split
 ·exact Mem.give_even a k
 ·exact a
theorem Sp.gives_even{s:Sp}(a:s.mem.Even)(old:Nat->Bool): ∀n,(s.gives old n).mem.Even
 | 0=>a
 | n+1=>by
  unfold Sp.gives
  split
  ·exact Sp.give_even (Sp.gives_even a old n) _
  ·exact Sp.gives_even a old n
theorem Mem.again_seg(m:Mem)(k c:Int):(m.again k c).limit=m.limit/\(m.again k c).free=m.free/\(m.again k c).count=m.count/\ ∀i,((m.again k c).seg i).gen=(m.seg i).gen/\((m.again k c).seg i).kind=(m.seg i).kind/\((m.again k c).seg i).n=(m.seg i).n/\((m.again k c).seg i).taken=(m.seg i).taken/\((m.again k c).seg i).words=(m.seg i).words:=by
 unfold Mem.again
 split
 ·unfold Mem.mark
  split
  ·exact⟨rfl,rfl,rfl,λi=>⟨rfl,rfl,rfl,rfl,rfl⟩⟩
  split
  ·exact⟨rfl,rfl,rfl,λi=>⟨rfl,rfl,rfl,rfl,rfl⟩⟩
  ·refine⟨rfl,rfl,rfl,λi=>?_⟩
   rw[Mem.upd_seg]
   split
   ·rename_i h;rw[h];exact⟨rfl,rfl,rfl,rfl,rfl⟩
   ·exact⟨rfl,rfl,rfl,rfl,rfl⟩
 ·exact⟨rfl,rfl,rfl,λi=>⟨rfl,rfl,rfl,rfl,rfl⟩⟩
theorem Mem.again_has(m:Mem)(k c:Int):(m.again k c).has g ↔ m.has g:=by
 obtain⟨a,_,_,b⟩:=m.again_seg k c
 unfold Mem.has;rw[a,(b _).2.2.2.1]
theorem Mem.again_ok(a:aV i)(k c:Int):aV (i.again k c):=by
 unfold Mem.again
 split
 ·exact a.mark _ _ _
 ·exact a
theorem SpOK.again(a:SpOK j)(k c:Int):SpOK {j with mem:=j.mem.again k c}:=
 a.withMem (Mem.again_ok a.mem k c) (λi h=>(Mem.again_has _ _ _).2 h) (λi=>⟨((j.mem.again_seg k c).2.2.2 i).1,((j.mem.again_seg k c).2.2.2 i).2.1⟩)
theorem TrAt.putOver(h:TrAt H a d b):
  aM H ⟨d.t,1029,none⟩ 0 1/\Fr [d.t] H (aP H ⟨d.t,1029,none⟩ [vi 1] 0)/\TrAt (aP H ⟨d.t,1029,none⟩ [vi 1] 0) a d {b with over:=true}:=by
 obtain⟨t,f,A,e,u,w,D,c⟩:=h.put (o:=1029) (v:=vi 1) (by omega)
 obtain⟨x,y,z⟩:=h.rest f
 refine⟨t,f,?_⟩
 obtain⟨j,g,B,k,l,m,n,p,q,C⟩:=h.tr
 rw[u]at g;cases g
 exact⟨⟨e,w,by omega,by rw[c,if_neg (by omega)];exact k,by rw[c,if_neg (by omega)];exact l,λi s=>by rw[c,if_neg (by omega)];exact m i s,by rw[c,if_neg (by omega)];exact n,by rw[c,if_neg (by omega)];exact p,by rw[c,if_neg (by omega)];exact q,by rw[c,if_pos rfl];rfl⟩,x,y,z,λE r=>Nat.lt_of_lt_of_le (h.cB E r) f.size,h.clen,h.ne⟩
set_option maxRecDepth 100000 in
theorem pP{R:zj}(T:Tg H a u d b)
  (hR: ∀v C,HpAt C a {u with sp:=u.sp.ended b,ep:=IntKind.wrap .u64 (u.ep+1)}/\TrAt C a d {b with over:=true}/\Fr (a.h::d.t::spB a) H C->R v C):cx.pt (some ⟨d.t,0,none⟩) H R:=by
 unfold cx.pt zY
 refine HC.mono (gU T.toTc) ?_
 rintro _ H1 ⟨rfl,rfl⟩
 refine⟨_,rfl,?_⟩
 rw[if_neg (by rw[T.on];decide)]
 have x:aU H1 ⟨d.t,2,none⟩ 0 ((List.range 1024).map λk=> vi (if b.old k then 1 else 0)):=by
  obtain⟨cs,h1,_,_,_,h5,_⟩:=T.tr.tr
  refine ft h1 _ 2 0 (λj c=>?_)
  simp only[List.length_map,List.length_range]at c
  rw[Nat.add_zero,h5 j c,List.getElem?_map,List.getElem?_range c];rfl
 refine⟨_,rfl,(List.range 1024).map (λk=> vi (if b.old k then 1 else 0)),by rw[List.length_map,List.length_range],by rw[addr_add_mk];exact x,?_⟩
 refine⟨λi A=>(0<=i/\i<=1024)/\Tc A a {u with sp:=u.sp.gives b.old i.toNat} d b/\Fr (spB a) H1 A,λi _=>(1024-i).toNat,⟨by omega,T.toTc,Fr.refl _ _⟩,?_⟩
 rintro i H2 ⟨hi,f,I⟩
 by_cases o:i<1024
 ·rw[if_pos o]
  have U:i.toNat<1024:=by omega
  have D:(1024-(i+1)).toNat< (1024-i).toNat:=by omega
  have hw:IntKind.wrap .i64 (i+1)=i+1:=w64 (by omega)
  have B:(i+1).toNat=i.toNat+1:=by omega
  refine⟨(if b.old i.toNat then 1 else 0),⟨⟨hi.1,o⟩,?_⟩,?_⟩
  ·rw[List.getElem?_toArray,List.getElem?_map,List.getElem?_range U];rfl
  by_cases E:b.old i.toNat=true
  ·rw[if_pos (by rw[if_pos E])]
   obtain⟨X,Y,p3,p4⟩:=f.s1
   refine⟨_,X,_,rfl,_,Y,_,rfl,_,p3,?_⟩
   refine HC.mono (mx f.hp.cd.sp f.ok (by omega)) ?_
   rintro _ H3 ⟨⟨e,rfl⟩,Z,J⟩
   rw[hw]
   refine⟨_,rfl,⟨by omega,?_,I.trans J⟩,D⟩
   have G:u.sp.gives b.old (i+1).toNat=(u.sp.gives b.old i.toNat).give i:=by rw[B];show(if _ then _ else _)=_;rw[if_pos E,show((i.toNat:Nat):Int)=i by omega]
   rw[G]
   exact f.step J (λj c=>eY c) (f.hp.withSp J (λj c=>by simp at c;omega) Z) (Sp.give_ok f.ok i)
  ·rw[if_neg (by rw[if_neg E];decide),hw]
   refine⟨⟨by omega,?_,I⟩,D⟩
   have G:u.sp.gives b.old (i+1).toNat=u.sp.gives b.old i.toNat:=by rw[B];show(if _ then _ else _)=_;rw[if_neg E]
   rw[G];exact f
 rw[if_neg o]
 have t:i.toNat=1024:=by omega
 rw[t]at f
 have aa:=Sp.gives_even T.even b.old 1024
 refine⟨_,_,_,by rw[addr_add_mk];exact f.tr.cAt,?_⟩
 obtain⟨ag,ah⟩:=T.tr.clen
 refine⟨λi A=>(0<=i/\i<=d.cN)/\Tc A a {u with sp:=(u.sp.gives b.old 1024).agains (b.cards.take i.toNat)} d b/\Fr (spB a) H1 A,λi _=>(d.cN-i).toNat,⟨by omega,f,I⟩,?_⟩
 rintro i H4 ⟨S,p,f4⟩
 by_cases m:i< (d.cN:Int)
 ·rw[if_pos m]
  have w:i.toNat<b.cards.length:=by omega
  obtain⟨ca,O,z⟩:=m7 p.tr.cards w
  have D:((d.cN:Int)-(i+1)).toNat< ((d.cN:Int)-i).toNat:=by omega
  generalize P:b.cards[i.toNat]=l at*
  refine⟨ca,O,⟨S.1,m⟩,l.1,l.2,z,λc5 H5 N r=>?_⟩
  obtain⟨Q,hs⟩:=boxed (vs:=[vi l.1,vi l.2]) (H1:=H5) (aL N r) rfl rfl
  refine⟨Q,λH6 M=>?_⟩
  obtain⟨y,L⟩:=hs H6 M
  have q:Ext H4 H6:=L H4 (Ext.push' r) (by omega)
  have g:=p.ext q
  obtain⟨X,Y,p3,p4⟩:=g.s1
  refine⟨_,X,_,rfl,_,Y,_,y.1,_,by rw[addr_add_mk];exact y.2.1,?_⟩
  refine HC.mono (my g.hp.cd g.ok (λj c=>g.hp.lt j (by simp at c;simp[Blk.all];omega))) ?_
  rintro _ H7 ⟨⟨e,rfl⟩,F,K⟩
  rw[w64 (n:=i+1) (by omega)]
  refine⟨_,rfl,⟨by omega,?_,f4.trans (q.fr.trans (K.mono (λj c _=>by simp at c;simp[spB];omega)))⟩,D⟩
  have et:b.cards.take (i+1).toNat=b.cards.take i.toNat++[l]:=by
   rw[show(i+1).toNat=i.toNat+1 by omega,List.take_succ_eq_append_getElem w,P]
  rw[et,Sp.agains_snoc]
  exact g.step K (λj c=>by simp at c;simp[Blk.all];omega) (g.hp.withCd K (λj c=>by simp at c;omega) F) (g.ok.again l.1 l.2)
 rw[if_neg m]
 rw[List.take_of_length_le (by omega)]at p
 refine⟨_,p.tr.hPtr,?_⟩
 refine HC.mono (nV p.view) ?_
 rintro _ H8 ⟨V8,f8⟩
 have V: ∀j∈hown (some (a,u)),j ∉ d.all:=λj c hq=>T.apart j hq (by simp[hown]at c;simp[Blk.all,c])
 have a0:=p.tr.keep f8 (λj c=>V j c)
 obtain⟨_,W,al⟩:=View.inv V8
 have hput:=a0.putOver
 rw[addr_add_mk]
 refine⟨hput.1,λH9 s=>?_⟩
 rw[show(0:Nat)+1029=1029 from rfl]at s
 subst s
 refine hR _ _ ⟨W.keep hput.2.1 (λj c hb=>T.apart d.t (by simp[TB.all]) (by simp at c;rw[<-c];exact hb)),hput.2.2,?_⟩
 refine((f4.mono (λj c _=>by simp[c])).trans (f8.mono (λj c _=>by simp[hown]at c;simp[c]))).trans (hput.2.1.mono (λj c _=>by simp at c;simp[c]))
theorem na(T:Tg H a u d b):
  cx.C (some ⟨d.t,0,none⟩) H (λ_ c=>HpAt c a {u with sp:=u.sp.ended b,ep:=IntKind.wrap .u64 (u.ep+1)}/\TrAt c a d {b with over:=true}/\Fr (a.h::d.t::spB a) H c):=
 HC.via λR e=>cx.link (pP T e)
def ec(lo hi:Int):Nat:=((hi-lo+1) / 2).toNat
def fC(k lo:Int)(n:Nat):List Int:=(List.range n).map λj:Nat=>k*64+(lo+2*(j:Int))
theorem mz(k a:Int)(n:Nat):fC k a (n+1)=fC k a n++[k*64+(a+2*(n:Int))]:=by
 unfold fC;rw[List.range_succ,List.map_append];rfl
theorem il(k a:Int)(n:Nat):(fC k a n).length=n:=by simp[fC]
def Mem.weakSeg(m:Mem)(t:Tr)(k:Nat):List Int:=if(m.seg k).kind=1/\t.old k=false then fC k (seenAt t.frm k) (ec (seenAt t.frm k) (m.seg k).n)else[]
def Mem.weakCard(m:Mem)(c:Int×Int):List Int:=if(m.segOr c.1).kind=1 then fC c.1 (c.2*16) (ec (c.2*16) (min (m.segOr c.1).n ((c.2+1)*16)))else[]
def Mem.weaks(m:Mem)(t:Tr)(l:List Nat):List Int:=l.flatMap (m.weakSeg t)++t.cards.flatMap m.weakCard
set_option maxRecDepth 100000 in
theorem kl{H:zV}{a:Int}{c n z:Nat}{B:zW}{ws:List Int}(hk:0<=g/\g<1024)(X:0<=k/\k<=64)(hh:a<=64)(P:H[c]?=some (.cells #[vs B n z] 75 (0,0)))(K:Own H 3 1 B n z (ivs ws))(G:c ∉ blks B)(hn:n<=1000000)(Y:n=ws.length):
  aY.C g k a (some ⟨c,0,none⟩) H (λ_ y=> ∃(d:zW) (b:Nat),y[c]?=some (.cells #[vs d (n+ec k a) b] 75 (0,0))/\Own y 3 1 d (n+ec k a) b (ivs (ws++fC g k (ec k a)))/\Fr (c::blks B) H y/\(∀j∈blks d,j∈blks B\/H.size<=j)):=by
 refine HC.via λR V=>aY.link ?_
 unfold aY.pt zY
 have wl:ec k a<=33:=by unfold ec;omega
 have W:=bB P
 refine⟨λi A=> ∃(j:Nat) (d:zW) (b:Nat),i=k+2*(j:Int)/\j<=ec k a/\A[c]?=some (.cells #[vs d (n+j) b] 75 (0,0))/\Own A 3 1 d (n+j) b (ivs (ws++fC g k j))/\Fr (c::blks B) H A/\(∀j∈blks d,j∈blks B\/H.size<=j),λi _=>(100-i).toNat,
  ⟨0,B,z,by omega,by omega,P,by simpa[fC]using K,Fr.refl _ _,λj x=> .inl x⟩,?_⟩
 rintro i A ⟨j,d,b,rfl,x,p,m,w,e⟩
 by_cases t:k+2*(j:Int)<a
 ·rw[if_pos t]
  have r:j+1<=ec k a:=by unfold ec;omega
  refine⟨_,rfl,_,_,_,by rw[aH p];rfl,?_⟩
  rw[w64 (n:=g*64) (by omega),w64 (n:=g*64+(k+2*(j:Int))) (by omega),w64 (n:=k+2*(j:Int)+2) (by omega)]
  intro c2 S E s
  have v:Ext A S:=Ext.push' s
  refine eV (ys:=[vi (g*64+(k+2*(j:Int)))]) (m.ext v) (ft (aL E s) _ 0 0 (λj x=>by
   simp only[List.length_cons,List.length_nil]at x
   obtain rfl:j=0:=by omega
   rfl)) rfl rfl rfl (by omega) ?_
  intro L M H3 u N J
  have f:c ∉ blks d:=λh=>by
   rcases e c h with q | q
   ·exact G q
   ·omega
  have F:=N.get f (v.get p)
  obtain⟨I,Z⟩:=jE (vs:=[vs L (n+j+1) M]) F rfl rfl
  refine⟨I,λT D=>?_⟩
  obtain⟨U,O⟩:=Z T D
  have o: ∀i∈blks L,i∈blks d\/A.size<=i:=λi a=>by
   rcases J i a with q | q
   ·exact .inl q
   ·have:=v.size;exact .inr (by omega)
  have Q:c<A.size:=by have:=w.size;omega
  have l:=u.keep O (λi a hm=>by
   simp at hm
   rcases o i a with q | q
   ·exact f (hm▸q)
   ·omega)
  have zA:=w.size
  refine⟨⟨j+1,L,M,by omega,r,U,?_,?_,λi a=>?_⟩,by show(100-(k+2*(j:Int)+2)).toNat< (100-(k+2*(j:Int))).toNat;omega⟩
  ·rw[mz,<-List.append_assoc]
   unfold ivs at l⊢
   rw[List.map_append];exact l
  ·refine((w.trans v.fr).trans' N (λi a _=>a) (λi a X=>?_)).trans (O.mono (λi a _=>by simp at a;simp[a]))
   rcases e i a with q | q
   ·exact List.mem_cons_of_mem _ q
   ·omega
  ·rcases o i a with q | q
   ·exact e i q
   ·exact .inr (by omega)
 ·rw[if_neg t]
  have r:j=ec k a:=by unfold ec at*;omega
  subst r
  exact V _ _ ⟨d,b,p,m,w,e⟩
theorem Mem.weakSeg_len(c:aV i)(a:dE b.frm)(k:Nat):(i.weakSeg b k).length<=33:=by
 unfold Mem.weakSeg
 split
 ·rw[il]
  obtain⟨_,d,e⟩:=gD a (k:Int)
  have:=(c.seg k).n
  unfold ec;omega
 ·exact Nat.zero_le _
theorem Mem.weakCard_len(a:aV i){c:Int×Int}(b:0<=c.2):(i.weakCard c).length<=33:=by
 unfold Mem.weakCard
 split
 ·rw[il]
  have:=(m8 a c.1).n
  unfold ec;omega
 ·exact Nat.zero_le _
theorem iG{α β:Type}{f:α->List β}{n:Nat}: ∀l:List α,(∀a∈l,(f a).length<=n)->(l.flatMap f).length<=n*l.length
 | [],_=>by simp
 | a::l,h=>by
  have d:=h a (by simp)
  have e:=iG l (λb c=>h b (by simp[c]))
  rw[List.flatMap_cons,List.length_append,List.length_cons,Nat.mul_succ];omega
set_option maxRecDepth 100000 in
theorem n9{H:zV}(T:Tg H a u d b)(hf:dE b.frm)(b8:kA b.cards):
  cF.C (some ⟨d.t,0,none⟩) H (λv H'=> ∃(l:List Nat) (B:zW) (n c:Nat),dT u.sp.mem [b.tgt] l/\v=vs B n c/\n=(u.sp.mem.weaks b l).length/\Own H' 3 1 B n c (ivs (u.sp.mem.weaks b l))/\(∀j∈blks B,H.size<=j)/\n<=300000/\Ext H H'):=by
 refine HC.via λR hR=>cF.link ?_
 unfold cF.pt zY
 refine HC.mono (gU T.toTc) ?_
 rintro _ H1 ⟨rfl,rfl⟩
 refine⟨_,rfl,?_⟩
 rw[if_neg (by rw[T.on];decide)]
 intro E N bM a9
 have e2:Ext H1 N:=Ext.push' a9
 have g2:=aL bM a9
 have z2:N.size=H1.size+1:=by rw[a9];simp
 have T2:=T.grow e2
 obtain⟨p1,p2,p3,p4⟩:=T2.s1
 refine⟨_,rfl,_,p1,_,rfl,_,p2,_,rfl,_,p3,_,rfl,_,p4,_,by rw[addr_add_mk];exact T2.tr.tgtAt,?_⟩
 intro c3 H3 bN aa
 have e3:Ext N H3:=Ext.push' aa
 have g3:=aL bN aa
 have z3:H3.size=N.size+1:=by rw[aa];simp
 have T3:=T2.grow e3
 refine⟨row1 (e3.hat p1),row1 (e3.hat p2),row1 (e3.hat p3),row1 (e3.hat p4),?_⟩
 refine HC.mono (gM (gs:=[b.tgt]) T3.hp.cd.sp.mem T3.ok.mem (show eK H3 (some ⟨c3,0,none⟩) (ivs [b.tgt])from row1 (by rw[aH g3];rfl)) rfl (by decide)) ?_
 rintro _ H4 ⟨wB,wC,l,rfl,hl,a0,bY,e4⟩
 refine⟨_,_,_,rfl,?_⟩
 have c9:=hl.len
 have cp:=T.ok.mem.lim
 have bz:=(e2.trans e3).trans e4
 have z4:=e4.size
 have K:=T.ok.mem
 refine⟨λi A=>(0<=i/\i<=l.length)/\ ∃(B:zW) (c:Nat),A[E]?=some (.cells #[.slice B ((l.take i.toNat).flatMap (u.sp.mem.weakSeg b)).length c] 75 (0,0))/\Own A 3 1 B ((l.take i.toNat).flatMap (u.sp.mem.weakSeg b)).length c (ivs ((l.take i.toNat).flatMap (u.sp.mem.weakSeg b)))/\Ext H1 A/\Own A 3 1 wB l.length wC (ivs (l.map λi:Nat=>(i:Int)))/\(∀j∈blks B,N.size<=j/\j ∉ blks wB)/\H4.size<=A.size,λi _=>(l.length-i).toNat,
  ⟨⟨by omega,by omega⟩,none,0,(e3.trans e4).get g2,gF,bz,a0,by simp,Nat.le_refl _⟩,?_⟩
 rintro i H5 ⟨hi,B,cB,gB,z,e5,y,hB,z5⟩
 have I: ∀j∈blks wB,H3.size<=j/\j<H4.size:=λj t=>⟨bY j t,a0.lt j t⟩
 by_cases af:i< (l.length:Int)
 ·rw[if_pos af]
  have x:i.toNat<l.length:=by omega
  obtain⟨di,ha,b4⟩:=k9 y x
  obtain⟨bf,cq,cr,_⟩:=hl.has (List.getElem_mem x)
  have ah:l.take (i+1).toNat=l.take i.toNat++[l[i.toNat]]:=by rw[show(i+1).toNat=i.toNat+1 by omega,List.take_succ_eq_append_getElem x]
  have co:=iG (f:=u.sp.mem.weakSeg b) (n:=33) (l.take i.toNat) (λk _=>Mem.weakSeg_len K hf k)
  have c6:(l.take i.toNat).length<=1024:=by rw[List.length_take];omega
  generalize hk:l[i.toNat]=k at*
  have hd:((l.length:Int)-(i+1)).toNat< ((l.length:Int)-i).toNat:=by omega
  have hw:IntKind.wrap .i64 (i+1)=i+1:=w64 (by omega)
  have s:(l.take (i+1).toNat).flatMap (u.sp.mem.weakSeg b)=(l.take i.toNat).flatMap (u.sp.mem.weakSeg b)++u.sp.mem.weakSeg b k:=by rw[ah,List.flatMap_append];simp
  have T5:=T.grow e5
  obtain⟨p1,p2,p3,p4⟩:=T5.s1
  refine⟨di,ha,⟨hi.1,af⟩,_,b4,_,p1,_,rfl,_,p2,_,rfl,_,p3,_,rfl,_,p4,?_⟩
  refine HC.mono (fq T5.hp.cd.sp.mem) ?_
  rintro _ H6 ⟨rfl,e6⟩
  have cg:u.sp.mem.segOr k=u.sp.mem.seg k:=by unfold Mem.segOr;rw[if_pos bf,show((k:Nat):Int).toNat=k by omega]
  rw[cg]
  refine⟨_,_,_,_,_,_,_,_,rfl,λdb H7 bO bK=>?_⟩
  obtain⟨ab,hs⟩:=gz (u.sp.mem.seg k) bO bK
  refine⟨ab,λH8 bL=>?_⟩
  obtain⟨e8,_,g1,gn,_⟩:=hs H8 bL
  have o:=e6.trans e8
  have T8:=T5.grow o
  have z8:=o.size
  rw[hw]
  have skip:u.sp.mem.weakSeg b k=[]->(((0<=i+1/\i+1<=l.length)/\ ∃(B:zW) (c:Nat),H8[E]?=some (.cells #[.slice B ((l.take (i+1).toNat).flatMap (u.sp.mem.weakSeg b)).length c] 75 (0,0))/\Own H8 3 1 B ((l.take (i+1).toNat).flatMap (u.sp.mem.weakSeg b)).length c (ivs ((l.take (i+1).toNat).flatMap (u.sp.mem.weakSeg b)))/\Ext H1 H8/\Own H8 3 1 wB l.length wC (ivs (l.map λi:Nat=>(i:Int)))/\(∀j∈blks B,N.size<=j/\j ∉ blks wB)/\H4.size<=H8.size)/\((l.length:Int)-(i+1)).toNat< ((l.length:Int)-i).toNat):=λhz=>by
   rw[s,hz,List.append_nil]
   exact⟨⟨by omega,B,cB,o.get gB,z.ext o,e5.trans o,y.ext o,hB,by omega⟩,hd⟩
  refine⟨_,by rw[addr_add_mk];exact g1,?_⟩
  by_cases g:(u.sp.mem.seg k).kind=1
  case neg=>rw[if_neg g];exact skip (by unfold Mem.weakSeg;rw[if_neg (λh=>g h.1)])
  rw[if_pos g]
  refine⟨⟨by omega,by omega⟩,(if b.old k then 1 else 0),by rw[show((k:Nat):Int).toNat=k by omega,addr_add_mk,addr_add_mk,Nat.zero_add,Nat.mul_one];exact T8.tr.oldAt (by omega),?_⟩
  by_cases ho:b.old k=true
  ·rw[if_neg (by rw[if_pos ho];decide)];exact skip (by unfold Mem.weakSeg;rw[if_neg (λh=>by rw[ho]at h;cases h.2)])
  rw[if_pos (by rw[if_neg ho])]
  have cc:b.old k=false:=by simpa using ho
  obtain⟨es,cl,bU,bS⟩:=T8.tr.frm
  obtain⟨b9,ce,be⟩:=gD hf (k:Int)
  have ba:=(K.seg k).n
  refine⟨_,by rw[addr_add_mk];exact T8.tr.fAt,_,by rw[addr_add_mk];exact gn,_,rfl,es,cl,_,bU,bS,_,b9,by rw[addr_add_mk];exact row1 gn,?_⟩
  have a6:E ∉ blks B:=λh=>by have:=hB E h;omega
  refine HC.mono (kl (H:=H8) (c:=E) (ws:=(l.take i.toNat).flatMap (u.sp.mem.weakSeg b)) (by omega) ⟨ce,be⟩ ba.2 (o.get gB) (z.ext o) a6 (by omega) rfl) ?_
  rintro _ H9 ⟨L,V,g9,bb,f9,a8⟩
  have J:u.sp.mem.weakSeg b k=fC k (seenAt b.frm k) (ec (seenAt b.frm k) (u.sp.mem.seg k).n):=by unfold Mem.weakSeg;rw[if_pos ⟨g,cc⟩]
  have m:((l.take (i+1).toNat).flatMap (u.sp.mem.weakSeg b)).length=((l.take i.toNat).flatMap (u.sp.mem.weakSeg b)).length+ec (seenAt b.frm k) (u.sp.mem.seg k).n:=by rw[s,List.length_append,J,il]
  refine⟨⟨by omega,L,V,by rw[m];exact g9,by rw[m,s,J];exact bb,(e5.trans o).fr_trans f9 (λj t=>?_),(y.ext o).keep f9 (λj t hm=>?_),λj t=>?_,by have:=f9.size;omega⟩,hd⟩
  ·rcases List.mem_cons.1 t with h | h
   ·omega
   ·have:=hB j h;omega
  ·rcases List.mem_cons.1 hm with h | h
   ·have:=I j t;omega
   ·exact(hB j h).2 t
  ·rcases a8 j t with h | h
   ·exact hB j h
   ·exact⟨by omega,λhm=>by have:=I j hm;omega⟩
 rw[if_neg af]
 rw[List.take_of_length_le (by omega)]at gB z
 have c7:=iG (f:=u.sp.mem.weakSeg b) (n:=33) l (λk _=>Mem.weakSeg_len K hf k)
 have T5:=T.grow e5
 obtain⟨cZ,d0⟩:=T.tr.clen
 refine⟨_,_,_,by rw[addr_add_mk];exact T5.tr.cAt,?_⟩
 generalize hW:l.flatMap (u.sp.mem.weakSeg b)=W at*
 refine⟨λi A=>(0<=i/\i<=d.cN)/\ ∃(B:zW) (c:Nat),A[E]?=some (.cells #[.slice B (W++(b.cards.take i.toNat).flatMap u.sp.mem.weakCard).length c] 75 (0,0))/\Own A 3 1 B (W++(b.cards.take i.toNat).flatMap u.sp.mem.weakCard).length c (ivs (W++(b.cards.take i.toNat).flatMap u.sp.mem.weakCard))/\Ext H1 A/\(∀j∈blks B,N.size<=j)/\H4.size<=A.size,λi _=>(d.cN-i).toNat,
  ⟨⟨by omega,by omega⟩,B,cB,by simpa using gB,by simpa using z,e5,λj t=>(hB j t).1,z5⟩,?_⟩
 rintro i ao ⟨bZ,B2,aw,Q,q,O,F,d4⟩
 have ap:=T.grow O
 have ae:=iG (f:=u.sp.mem.weakCard) (n:=33) (b.cards.take i.toNat) (λc hc=>Mem.weakCard_len K (b8 c (List.mem_of_mem_take hc)).2.1)
 have c8:(b.cards.take i.toNat).length<=4096:=by rw[List.length_take];omega
 by_cases G:i< (d.cN:Int)
 case neg=>
  rw[if_neg G]
  rw[List.take_of_length_le (by omega)]at Q q ae
  refine⟨_,_,_,by rw[aH Q];rfl,hR _ _ ⟨l,B2,_,aw,hl,rfl,?_,?_,λj t=>by have:=F j t;omega,?_,O⟩⟩
  ·unfold Mem.weaks;rw[hW]
  ·unfold Mem.weaks;rw[hW];exact q
  ·rw[List.length_append];omega
 rw[if_pos G]
 have x:i.toNat<b.cards.length:=by omega
 obtain⟨ca,bQ,bc⟩:=m7 ap.tr.cards x
 have bR:=b8 _ (List.getElem_mem x)
 have ah:b.cards.take (i+1).toNat=b.cards.take i.toNat++[b.cards[i.toNat]]:=by rw[show(i+1).toNat=i.toNat+1 by omega,List.take_succ_eq_append_getElem x]
 generalize cY:b.cards[i.toNat]=e at*
 have hd:((d.cN:Int)-(i+1)).toNat< ((d.cN:Int)-i).toNat:=by omega
 have hw:IntKind.wrap .i64 (i+1)=i+1:=w64 (by omega)
 have s:W++(b.cards.take (i+1).toNat).flatMap u.sp.mem.weakCard=(W++(b.cards.take i.toNat).flatMap u.sp.mem.weakCard)++u.sp.mem.weakCard e:=by rw[ah,List.flatMap_append,List.append_assoc];simp
 refine⟨ca,bQ,⟨bZ.1,G⟩,e.1,e.2,bc,λav bo b5 X=>?_⟩
 obtain⟨ab,hs⟩:=boxed (vs:=[vi e.1,vi e.2]) (H1:=bo) (aL b5 X) rfl rfl
 refine⟨ab,λp b0=>?_⟩
 obtain⟨a1,aR⟩:=hs p b0
 have D:Ext ao p:=aR ao (Ext.push' X) (by omega)
 have a5:=ap.grow D
 obtain⟨p1,p2,p3,p4⟩:=a5.s1
 have S:hat p ⟨av,0,none⟩=some (vi e.1):=a1.1
 have U:hat p ⟨av,1,none⟩=some (vi e.2):=a1.2.1
 refine⟨_,p1,_,rfl,_,p2,_,rfl,_,p3,_,rfl,_,p4,_,S,?_⟩
 have bg:=m8 K e.1
 have Z: ∀(A:zV) (L:zW) (V:Nat),A[E]?=some (.cells #[.slice L (W++(b.cards.take (i+1).toNat).flatMap u.sp.mem.weakCard).length V] 75 (0,0))->Own A 3 1 L (W++(b.cards.take (i+1).toNat).flatMap u.sp.mem.weakCard).length V (ivs (W++(b.cards.take (i+1).toNat).flatMap u.sp.mem.weakCard))->Ext H1 A->(∀j∈blks L,N.size<=j)->H4.size<=A.size->
   ((0<=IntKind.wrap .i64 (i+1)/\IntKind.wrap .i64 (i+1)<=d.cN)/\ ∃(B:zW) (c:Nat),A[E]?=some (.cells #[.slice B (W++(b.cards.take (IntKind.wrap .i64 (i+1)).toNat).flatMap u.sp.mem.weakCard).length c] 75 (0,0))/\Own A 3 1 B (W++(b.cards.take (IntKind.wrap .i64 (i+1)).toNat).flatMap u.sp.mem.weakCard).length c (ivs (W++(b.cards.take (IntKind.wrap .i64 (i+1)).toNat).flatMap u.sp.mem.weakCard))/\Ext H1 A/\(∀j∈blks B,N.size<=j)/\H4.size<=A.size)/\((d.cN:Int)-IntKind.wrap .i64 (i+1)).toNat< ((d.cN:Int)-i).toNat:=λA L V h1 h2 h3 h4 h5=>by
  rw[hw];exact⟨⟨by omega,L,V,h1,h2,h3,h4,h5⟩,hd⟩
 have skip: ∀(A:zV),Ext p A-> ¬(u.sp.mem.segOr e.1).kind=1->_:=λA r hk=>Z A B2 aw (by rw[s,show u.sp.mem.weakCard e=[]by unfold Mem.weakCard;rw[if_neg hk],List.append_nil];exact(D.trans r).get Q) (by rw[s,show u.sp.mem.weakCard e=[]by unfold Mem.weakCard;rw[if_neg hk],List.append_nil];exact q.ext (D.trans r)) (O.trans (D.trans r)) F (by have:=(D.trans r).size;omega)
 have go: ∀(A:zV),Ext p A->(u.sp.mem.segOr e.1).kind=1->aY.C e.1 (IntKind.wrap .i64 (e.2*16)) (if(IntKind.wrap .i64 ((IntKind.wrap .i64 (e.2+1))*16))< (u.sp.mem.segOr e.1).n then(IntKind.wrap .i64 ((IntKind.wrap .i64 (e.2+1))*16))else(u.sp.mem.segOr e.1).n) (some (Addr.mk E 0 none)) A (λ_ A'=>_):=λA r hk=>by
  have d3:=bg.n
  rw[w64 (n:=e.2*16) (by omega),w64 (n:=e.2+1) (by omega),w64 (n:=(e.2+1)*16) (by omega),rx]
  have a6:E ∉ blks B2:=λh=>by have:=F E h;omega
  have P:=D.trans r
  refine HC.mono (kl (H:=A) (c:=E) (ws:=W++(b.cards.take i.toNat).flatMap u.sp.mem.weakCard) bR.1 (by omega) (by omega) (P.get Q) (q.ext P) a6 (by rw[List.length_append];omega) rfl) ?_
  rintro _ bp ⟨L,V,bJ,ag,az,a8⟩
  have J:u.sp.mem.weakCard e=fC e.1 (e.2*16) (ec (e.2*16) (min (u.sp.mem.segOr e.1).n ((e.2+1)*16))):=by unfold Mem.weakCard;rw[if_pos hk]
  have m:(W++(b.cards.take (i+1).toNat).flatMap u.sp.mem.weakCard).length=(W++(b.cards.take i.toNat).flatMap u.sp.mem.weakCard).length+ec (e.2*16) (min (u.sp.mem.segOr e.1).n ((e.2+1)*16)):=by rw[s,List.length_append,J,il]
  have zA:=P.size
  refine Z bp L V (by rw[m];exact bJ) (by rw[m,s,J];exact ag) ((O.trans P).fr_trans az (λj t=>?_)) (λj t=>?_) (by have:=az.size;omega)
  ·rcases List.mem_cons.1 t with h | h
   ·omega
   ·have:=F j h;omega
  ·rcases a8 j t with h | h
   ·exact F j h
   ·omega
 constructor
 ·refine HC.mono (fq a5.hp.cd.sp.mem) ?_
  rintro _ ct ⟨rfl,bw⟩
  refine⟨_,_,_,_,_,_,_,_,rfl,λcv cu b6 b1=>?_⟩
  obtain⟨ac,bd⟩:=gz (u.sp.mem.segOr e.1) b6 b1
  refine⟨ac,λa3 b2=>?_⟩
  obtain⟨bA,_,g1,gn,_⟩:=bd a3 b2
  have r:=bw.trans bA
  refine⟨_,by rw[addr_add_mk];exact g1,?_⟩
  by_cases g:(u.sp.mem.segOr e.1).kind=1
  ·rw[if_pos g]
   exact⟨_,r.hat S,_,by rw[addr_add_mk];exact r.hat U,_,by rw[addr_add_mk];exact gn,_,by rw[addr_add_mk];exact r.hat U,go a3 r g⟩
  ·rw[if_neg g];exact skip a3 r g
 ·intro cx bq b7 Y
  have w:Ext p bq:=Ext.push' Y
  refine⟨row1 (w.hat p1),row1 (w.hat p2),row1 (w.hat p3),row1 (w.hat p4),row1 (w.hat S),?_⟩
  refine HC.mono (fq (a5.grow w).hp.cd.sp.mem) ?_
  rintro _ br ⟨rfl,ax⟩
  obtain⟨bP,cf⟩:=boxed (vs:=[vi (u.sp.mem.segOr e.1).gen,vi (u.sp.mem.segOr e.1).kind,vi (u.sp.mem.segOr e.1).n,vi ((u.sp.mem.segOr e.1).cards 0),vi ((u.sp.mem.segOr e.1).cards 1),vi ((u.sp.mem.segOr e.1).cards 2),vi ((u.sp.mem.segOr e.1).cards 3)]) (H1:=br) (ax.get (aL b7 Y)) rfl rfl
  refine⟨_,_,_,_,_,_,_,_,rfl,bP,λM b3=>?_⟩
  obtain⟨a2,aX⟩:=cf M b3
  have r:Ext p M:=aX p (w.trans ax) (by omega)
  refine⟨_,a2.2.1,?_⟩
  by_cases g:(u.sp.mem.segOr e.1).kind=1
  ·rw[if_pos g]
   exact⟨_,r.hat S,_,by rw[addr_add_mk];exact r.hat U,_,a2.2.2.1,_,by rw[addr_add_mk];exact r.hat U,go M r g⟩
  ·rw[if_neg g];exact skip M r g
end Go.Proofs.YtfhbhckhmnleoaaGreat
namespace Go.Proofs.YtfhbhckhmnleoaaGreat
open Go
variable{a j:Int}{b:Int->Nat}{d:Mem}{g:Nat->Bool}{i:Sp}{k:Int->Option Int}{o:List Int}{u:Nat}
abbrev Mem.kAt(m:Mem)(a:Int):Int:=(m.seg (a / 64).toNat).kind
abbrev Mem.gAt(m:Mem)(a:Int):Int:=(m.seg (a / 64).toNat).gen
def tagK(k:Int):Int:=if k=0 then 1 else if k=1 then 2 else 3
def isTag(v:Int):Prop:=v % 8=1\/v % 8=2\/v % 8=3
instance (v:Int):Decidable (isTag v):=by unfold isTag;infer_instance
def Good(m:Mem)(sz:Int->Nat)(v:Int):Prop:=v % 8≠6/\(isTag v->sz (v / 8)≠0/\v % 8=tagK (m.kAt (v / 8)))
structure fD (m:Mem) (sz:Int->Nat):Prop where
 used: ∀a,sz a≠0->m.used a/\a % 64+sz a<=(m.seg (a / 64).toNat).n
 apart: ∀a b,sz a≠0->sz b≠0->a<b->a+sz a<=b
 two: ∀a,sz a≠0->m.kAt a<=1->sz a=2/\a % 2=0
 obj: ∀a,sz a≠0->2<=m.kAt a->fu (m.get a)/\m.kAt a=rawK (hk (m.get a))/\(sz a:Int)=hn (m.get a)+1
 good: ∀x,m.used x->m.kAt x≠3->Good m sz (m.get x)
theorem fD.usedAt(h:fD d b)(g:b a≠0){i:Nat}(l:i<b a)(hn: ∀k,(d.seg k).n<=64):d.used (a+i)/\(a+i) / 64=a / 64/\(a+i) % 64=a % 64+i:=by
 obtain⟨f,j⟩:=h.used a g
 have:=hn (a / 64).toNat
 have c:(a+i) / 64=a / 64:=by omega
 have e:(a+i) % 64=a % 64+i:=by omega
 exact⟨⟨by have:=f.1;omega,by rw[c];exact f.2.1,by rw[c,e];omega⟩,c,e⟩
theorem fD.lt{m:Mem}(h:fD m b)(e:aV m){a:Int}(d:b a≠0):0<=a/\a<65536:=by
 obtain⟨c,_⟩:=h.used a d
 have:=c.2.1.2.1
 have:=e.lim
 exact⟨c.1,by have:=c.1;omega⟩
theorem fD.noFwd(h:fD d b)(c:b a≠0):d.get a % 8≠6:=by
 obtain⟨e,_⟩:=h.used a c
 by_cases hk:d.kAt a=3
 ·obtain⟨f,_⟩:=h.obj a c (by omega)
  have:=f.1;omega
 ·exact(h.good a e hk).1
theorem fD.within(h:fD d b)(e:b a≠0)(f:0<u)(g:u<b a):b (a+u)=0:=by
 by_cases c:b (a+u)=0
 ·exact c
 ·have:=h.apart a (a+u) e c (by omega);omega
theorem jH(v:aC a)(p:isTag a)(b:a % 8=tagK (d.kAt (a / 8)))(j:a / 8<65536)(c:d.used (a / 8))(t:0<=d.kAt (a / 8)/\d.kAt (a / 8)<=3)(n:d.kAt (a / 8)<=1->u=2/\a / 8 % 2=0)
  (o:2<=d.kAt (a / 8)->fu (d.get (a / 8))/\d.kAt (a / 8)=rawK (hk (d.get (a / 8)))/\(u:Int)=hn (d.get (a / 8))+1/\a / 8 % 64+u<=(d.seg (a / 8 / 64).toNat).n):d.sizeOf a=u:=by
 have i:dH a:=⟨by unfold isTag at p;omega,j⟩
 unfold tagK at b
 unfold Mem.sizeOf
 by_cases m:d.kAt (a / 8)<=1
 ·obtain⟨g,h⟩:=n m
  have l:d.isPair a:=by
   refine⟨?_,h⟩
   by_cases f:d.kAt (a / 8)=0
   ·rw[if_pos f]at b;exact .inl ⟨i,b,c.2.1,f,c.2.2⟩
   ·rw[if_neg f,if_pos (by omega)]at b;exact .inr ⟨i,b,c.2.1,by show d.kAt (a / 8)=1;omega,c.2.2⟩
  rw[if_pos l,g];rfl
 ·rw[if_neg (by omega),if_neg (by omega)]at b
  obtain⟨g,h,r,s⟩:=o (by omega)
  have e:d.isObj a:=⟨⟨i,b,c.2.1,h,c.2.2⟩,g,by omega⟩
  have k: ¬d.isPair a:=λl=>by
   rcases l.1 with q | q
   ·have:=q.2.1;omega
   ·have:=q.2.1;omega
  rw[if_neg k,if_pos e]
  unfold Mem.len
  rw[if_pos e];omega
theorem fD.size{m:Mem}(h:fD m b)(d:aV m){v:Int}(j:aC v)(i:Good m b v)(c:isTag v):m.sizeOf v=b (v / 8):=by
 obtain⟨a,e⟩:=i.2 c
 obtain⟨f,g⟩:=h.used _ a
 exact jH j c e (h.lt d a).2 f (d.seg _).kind (h.two _ a) (λhk=>by
  obtain⟨k,l,n⟩:=h.obj _ a hk
  exact⟨k,l,n,g⟩)
def Mem.strong(m:Mem)(x:Int):Prop:=m.kAt x≠3/\(m.kAt x≠1\/x % 2=1)
instance (m:Mem) (x:Int):Decidable (m.strong x):=by unfold Mem.strong;infer_instance
theorem jI{m:Mem}(b:0<=j/\j<64)(hk:0<=a):looks (m.seg a.toNat).kind j ↔ m.strong (a*64+j):=by
 have e:(a*64+j) / 64=a:=by omega
 unfold looks Mem.strong Mem.kAt
 rw[e,show(a*64+j) % 2=j % 2 by omega]
structure TZ where
 m:Mem
 sz:Int->Nat
 O:Nat->Bool
 T:Int
 V:Int->Prop
 q:Int->Option Int
 P:List Int
inductive Reach (Z:TZ):Int->Prop
 | root {v:Int} (h:Z.V v) (ho:aF Z.O v):Reach Z (v / 8)
 | older {x:Int} (hu:Z.m.used x) (hn:Z.O (x / 64).toNat=false) (hs:Z.m.strong x) (ho:aF Z.O (Z.m.get x)):Reach Z (Z.m.get x / 8)
 | step {a:Int} {i:Nat} (h:Reach Z a) (hi:i<Z.sz a) (hs:Z.m.strong (a+i)) (ho:aF Z.O (Z.m.get (a+i))):Reach Z (Z.m.get (a+i) / 8)
def Fw(O:Nat->Bool)(fw:Int->Option Int)(v:Int):Int:=if aF O v then match fw (v / 8)with | some b=>b*8+v % 8 | none=>v else v
def Dn(O:Nat->Bool)(fw:Int->Option Int)(v:Int):Prop:=aF O v-> ∃b,fw (v / 8)=some b
theorem eL(h: ¬aF g a):Fw g k a=a:=by unfold Fw;rw[if_neg h]
theorem eS(h:aF g a)(b:k (a / 8)=some j):Fw g k a=j*8+a % 8:=by unfold Fw;rw[if_pos h,b]
def Le(fw fw':Int->Option Int):Prop:= ∀a b,fw a=some b->fw' a=some b
theorem Le.refl(a:Int->Option Int):Le a a:=λ_ _ h=>h
theorem Le.trans{f g h:Int->Option Int}(a:Le f g)(b:Le g h):Le f h:=λx y q=>b x y (a x y q)
theorem Dn.mono{O:Nat->Bool}{f g:Int->Option Int}{v:Int}(h:Dn O f v)(l:Le f g):Dn O g v:=λc=>by obtain⟨b,a⟩:=h c;exact⟨b,l _ _ a⟩
theorem fQ{e:Int->Option Int}(h:Dn g k a)(l:Le k e):Fw g e a=Fw g k a:=by
 by_cases c:aF g a
 ·obtain⟨b,d⟩:=h c
  rw[eS c d,eS c (l _ _ d)]
 ·rw[eL c,eL c]
theorem iH(h:aF g a):isTag a:=by have:=h.1.1;have:=h.2.1;unfold isTag;omega
def inR(a:Int)(n:Nat)(x:Nat):Bool:=decide (a<=(x:Int)/\(x:Int)<a+n)
theorem jr{a:Int}(b:0<=a)(N:Nat): ∀n:Nat,a+n<=N->(List.range N).countP (inR a n)=n
 | 0,_=>by
  rw[List.countP_eq_zero]
  intro x _
  unfold inR;simp
 | n+1,h=>by
  rw[iE N (a+n).toNat (inR a (n+1)) (inR a n) (by omega) (λi c=>by unfold inR;rw[decide_eq_decide];omega) (by unfold inR;rw[decide_eq_true_eq];omega) (by unfold inR;rw[decide_eq_false_iff_not];omega),jr b N n (by omega)]
theorem fY{α:Type}(p q:α->Bool)(l:List α)(h: ∀x∈l,p x=true->q x=true->False):l.countP (λx=>p x || q x)=l.countP p+l.countP q:=by
 induction l with
 | nil=>rfl
 | cons a l g=>
  have b:=g (λx f=>h x (by simp[f]))
  have c:=h a (by simp)
  rw[List.countP_cons,List.countP_cons,List.countP_cons,b]
  cases d:p a<;>cases e:q a
  ·simp
  ·simp;omega
  ·simp;omega
  ·exact(c d e).elim
theorem iW(f:Int->Nat)(N:Nat): ∀L:List Int,L.Nodup->(∀a∈L,0<=a/\a+f a<=N)->(∀a∈L,∀b∈L,a<b->a+f a<=b)->(L.map f).sum=(List.range N).countP (λx=>L.any λa=>inR a (f a) x)
 | [],_,_,_=>by simp
 | a::L,hn,hb,hd=>by
  rw[List.nodup_cons]at hn
  have j:=iW f N L hn.2 (λb h=>hb b (by simp[h])) (λb h c i=>hd b (by simp[h]) c (by simp[i]))
  simp only[List.map_cons,List.sum_cons,List.any_cons]
  rw[fY,j,jr (hb a (by simp)).1 N _ (hb a (by simp)).2]
  intro x _ g e
  rw[List.any_eq_true]at e
  obtain⟨b,d,e⟩:=e
  unfold inR at g e
  rw[decide_eq_true_eq]at g e
  rcases Int.lt_trichotomy a b with h | h | h
  ·have:=hd a (by simp) b (by simp[d]) h;omega
  ·subst h;exact hn.1 d
  ·have:=hd b (by simp[d]) a (by simp) h;omega
theorem lf(p:Nat->Bool): ∀n:Nat,(List.range (64*n)).countP (λx=>p (x / 64))=64*(List.range n).countP p
 | 0=>rfl
 | n+1=>by
  rw[show 64*(n+1)=64*n+64 by omega,List.range_add,List.countP_append,lf p n,List.range_succ (n:=n),List.countP_append,List.countP_map]
  have e:(List.range 64).countP ((λx=>p (x / 64)) ∘ λx=>64*n+x)=64*[n].countP p:=by
   have b:(List.range 64).countP ((λx=>p (x / 64)) ∘ λx=>64*n+x)=(List.range 64).countP (λ_=>p n):=by
    refine List.countP_congr λx c=>?_
    rw[List.mem_range]at c
    show p ((64*n+x) / 64)=true ↔ p n=true
    rw[show(64*n+x) / 64=n by omega]
   rw[b]
   cases a:p n
   ·simp[a]
   ·simp[a]
  rw[e];omega
theorem l6{α:Type}{p q:α->Bool}(l:List α)(h: ∀x∈l,p x=true->q x=true):l.countP p<=l.countP q:=List.countP_mono_left h
theorem iR(p:Nat->Bool)(n:Nat): ∀d:Nat,(∀i,n<=i->i<n+d->p i=false)->(List.range (n+d)).countP p=(List.range n).countP p
 | 0,_=>rfl
 | d+1,h=>by
  rw[show n+(d+1)=(n+d)+1 by omega,List.range_succ,List.countP_append,iR p n d (λi a b=>h i a (by omega))]
  simp[h (n+d) (by omega) (by omega)]
def TZ.yk(Z:TZ)(k:Int):Nat:=(List.range 1024).countP λj=>Z.O j && decide ((Z.m.seg j).kind=k)
def TZ.uk(Z:TZ)(al:List Int)(k:Int):Nat:=((al.filter λa=>decide (Z.m.kAt a=k)).map Z.sz).sum
structure Olds (Z:TZ) (al:List Int):Prop where
 nodup:al.Nodup
 mem: ∀a∈al,Z.sz a≠0/\Z.O (a / 64).toNat=true
theorem TZ.uk_le{Z:TZ}(r:fD Z.m Z.sz)(s:aV Z.m)(h:Olds Z o)(k:Int):Z.uk o k<=64*Z.yk k:=by
 unfold TZ.uk TZ.yk
 have z:=s.lim
 have f: ∀j,(Z.m.seg j).n<=64:=λj=>(s.seg j).n.2
 have c: ∀a∈o.filter (λa=>decide (Z.m.kAt a=k)),a∈o/\Z.m.kAt a=k:=λa d=>by
  rw[List.mem_filter]at d;exact⟨d.1,by simpa using d.2⟩
 rw[iW Z.sz (64*1024) _ (h.nodup.filter _) (λa d=>?_) (λa d b v q=>?_),<-lf]
 ·refine l6 _ (λx _ g=>?_)
  rw[List.any_eq_true]at g
  obtain⟨a,d,g⟩:=g
  obtain⟨l,t⟩:=c a d
  obtain⟨p,u⟩:=h.mem a l
  unfold inR at g
  rw[decide_eq_true_eq]at g
  obtain⟨i,w⟩:=r.used a p
  have:=f (a / 64).toNat
  have y:=i.1
  have e:x / 64=(a / 64).toNat:=by omega
  rw[e,u,Bool.true_and,decide_eq_true_eq];exact t
 ·obtain⟨l,_⟩:=c a d
  obtain⟨p,_⟩:=h.mem a l
  obtain⟨i,w⟩:=r.used a p
  have:=f (a / 64).toNat
  have:=i.2.1.2.1
  exact⟨i.1,by have:=i.1;omega⟩
 ·exact r.apart a b (h.mem a (c a d).1).1 (h.mem b (c b v).1).1 q
theorem TZ.uk_cons(Z:TZ)(b:List Int)(a k:Int):Z.uk (a::b) k=(if Z.m.kAt a=k then Z.sz a else 0)+Z.uk b k:=by
 unfold TZ.uk
 by_cases h:Z.m.kAt a=k
 ·rw[List.filter_cons_of_pos (by simpa using h),if_pos h];simp
 ·rw[List.filter_cons_of_neg (by simpa using h),if_neg h];simp
def Sp.fill(s:Sp)(T:Int)(k:Nat):Int:=if s.cur T.toNat k=0 then 0 else(s.mem.seg (s.cur T.toNat k-1).toNat).n
def TZ.pk(Z:TZ)(k:Nat):Nat:=if k=0 then 2*Z.P.length else 0
structure Cap (Z:TZ) (F0:Int) (al:List Int) (s:Sp) (c:Nat->Nat):Prop where
 free:s.mem.free+((c 0:Nat)+(c 1:Nat)+(c 2:Nat)+(c 3:Nat):Int)=F0
 none: ∀k,k<4->s.cur Z.T.toNat k=0->c k=0
 le: ∀k,k<4->64*(c k:Int)+s.fill Z.T k<=2*(Z.uk al k:Int)+(Z.pk k:Int)+64
theorem Sp.fill_rng(a:SpOK i)(T:Int)(k:Nat):0<=i.fill T k/\i.fill T k<=64:=by
 unfold Sp.fill
 split
 ·omega
 ·exact(a.mem.seg _).n
theorem Cap.room{Z:TZ}{c:Nat->Nat}(h:Cap Z a o i c)(t:SpOK i)(s:fD Z.m Z.sz)(b:aV Z.m)(r:Olds Z o)(B:2*((Z.yk 0:Int)+Z.yk 1+Z.yk 2+Z.yk 3)+8+((Z.P.length / 32:Nat):Int)<=a):1<=i.mem.free:=by
 have q: ∀k:Nat,k<4->64*(c k:Int)<=128*(Z.yk k:Int)+64+(Z.pk k:Int):=λk hk=>by
  have y:=h.le k hk
  have z:=TZ.uk_le s b r (k:Int)
  have A:=Sp.fill_rng t Z.T k
  omega
 have d:=q 0 (by omega)
 have e:=q 1 (by omega)
 have f:=q 2 (by omega)
 have g:=q 3 (by omega)
 have:=h.free
 have j:Z.yk ((0:Nat):Int)=Z.yk 0:=rfl
 have l:Z.yk ((1:Nat):Int)=Z.yk 1:=rfl
 have n:Z.yk ((2:Nat):Int)=Z.yk 2:=rfl
 have p:Z.yk ((3:Nat):Int)=Z.yk 3:=rfl
 rw[j]at d;rw[l]at e;rw[n]at f;rw[p]at g
 have u:Z.pk 0=2*Z.P.length:=rfl
 have v:Z.pk 1=0:=rfl
 have w:Z.pk 2=0:=rfl
 have x:Z.pk 3=0:=rfl
 rw[u]at d;rw[v]at e;rw[w]at f;rw[x]at g
 omega
theorem Sp.fill_eq{T v:Int}(h:i.cur T.toNat u=v):i.fill T u=if v=0 then 0 else(i.mem.seg (v-1).toNat).n:=by unfold Sp.fill;rw[h]
theorem Sp.alloc_fill(m:SpOK i){n:Int}(h:(i.alloc a j n).2.2=0): ∃d:Nat,(i.alloc a j n).1.mem.free=i.mem.free-d/\(i.alloc a j n).1.cur a.toNat j.toNat≠0/\(∀G:Nat,G≠j.toNat->(i.alloc a j n).1.cur a.toNat G=i.cur a.toNat G/\(i.alloc a j n).1.fill a G=i.fill a G)/\
  ((d=0/\i.cur a.toNat j.toNat≠0/\(i.alloc a j n).1.fill a j.toNat=i.fill a j.toNat+n)\/(d=1/\(i.cur a.toNat j.toNat=0\/64<i.fill a j.toNat+n)/\(i.alloc a j n).1.fill a j.toNat=n)):=by
 unfold Sp.alloc at*
 by_cases hm:may a j n
 case neg=>rw[if_pos hm]at h;exact absurd h (by show ¬((1:Int)=0);decide)
 rw[if_neg (λr=>r hm)]at h⊢
 have F:=hm.1
 have hk:0<=j/\j<=3:=by have:=hm.2;omega
 have hn:1<=n/\n<=63:=by have:=hm.2;omega
 by_cases c:i.cur a.toNat j.toNat≠0/\(i.mem.bump (i.cur a.toNat j.toNat-1) n).2.2=0
 ·rw[if_pos c]at h⊢
  obtain⟨s,A,p,o⟩:=Mem.bump_ok m.mem c.2
  refine⟨0,?_,c.1,λG w=>⟨rfl,?_⟩,.inl ⟨rfl,c.1,?_⟩⟩
  ·show(i.mem.bump _ _).1.free=_
   rw[(Mem.bump_lim _ _ _).2.2];omega
  ·unfold Sp.fill
   show(if i.cur a.toNat G=0 then 0 else((i.mem.bump _ _).1.seg _).n)=_
   by_cases b:i.cur a.toNat G=0
   ·rw[if_pos b,if_pos b]
   ·rw[if_neg b,if_neg b,o]
    rw[Mem.upd_other]
    intro e
    rcases m.cur a.toNat G with q | ⟨_,_,_,D⟩
    ·exact b q
    rcases m.cur a.toNat j.toNat with q | ⟨_,_,_,E⟩
    ·exact c.1 q
    rw[e,E]at D;omega
  ·unfold Sp.fill
   show(if i.cur a.toNat j.toNat=0 then 0 else((i.mem.bump _ _).1.seg _).n)=_
   rw[if_neg c.1,if_neg c.1,o]
   show((i.mem.upd _ _).seg _).n=_
   rw[Mem.upd_same];rfl
 rw[if_neg c]at h⊢
 by_cases k:(i.mem.take a j).2.2=0
 case neg=>rw[if_neg k]at h;exact absurd h k
 rw[if_pos k]at h⊢
 have g:=m.mem.take a j
 have l:i.mem.take a j=({i.mem with count:=i.mem.count+1,free:=i.mem.free-1}.upd i.mem.first (Seg.new a j (i.mem.count+1)),(i.mem.first:Int),0)/\i.mem.free≠0:=by
  unfold Mem.take at k⊢
  rw[if_neg (by omega)]at k⊢
  by_cases p:i.mem.free=0
  ·rw[if_pos p]at k;exact absurd k (by show ¬((2:Int)=0);decide)
  ·rw[if_neg p];exact⟨rfl,p⟩
 obtain⟨l,f⟩:=l
 obtain⟨B,u⟩:=Mem.first_spec m.mem f
 rw[l]at h g⊢
 simp only at h g⊢
 obtain⟨s,A,p,o⟩:=Mem.bump_ok g h
 have z:((i.mem.first:Int)).toNat=i.mem.first:=by omega
 refine⟨1,?_,?_,λG w=>⟨?_,?_⟩,.inr ⟨rfl,?_,?_⟩⟩
 ·rw[(Mem.bump_lim _ _ _).2.2];show i.mem.free-1=_;omega
 ·show(if a.toNat=a.toNat/\j.toNat=j.toNat then(i.mem.first:Int)+1 else _)≠0
  rw[if_pos ⟨rfl,rfl⟩];omega
 ·show(if a.toNat=a.toNat/\G=j.toNat then(i.mem.first:Int)+1 else _)=_
  rw[if_neg (λr=>w r.2)]
 ·rw[Sp.fill_eq (v:=i.cur a.toNat G) (by show(if a.toNat=a.toNat/\G=j.toNat then(i.mem.first:Int)+1 else _)=_;rw[if_neg (λr=>w r.2)])]
  unfold Sp.fill
  by_cases b:i.cur a.toNat G=0
  ·rw[if_pos b,if_pos b]
  ·rw[if_neg b,if_neg b,o,z]
   rcases m.cur a.toNat G with q | ⟨_,y,_,_⟩
   ·exact absurd q b
   have t:(i.cur a.toNat G-1).toNat≠i.mem.first:=λe=>y.2.2 (by rw[e];exact u)
   show((Mem.upd (Mem.upd _ _ _) _ _).seg _).n=_
   rw[Mem.upd_other _ _ t,Mem.upd_other _ _ t]
 ·by_cases b:i.cur a.toNat j.toNat=0
  ·exact .inl b
  ·right
   rcases m.cur a.toNat j.toNat with q | ⟨_,y,_,_⟩
   ·exact absurd q b
   have C: ¬((i.mem.seg (i.cur a.toNat j.toNat-1).toNat).n+n<=64):=λx=>c ⟨b,Mem.bump_can y hn.1 x⟩
   unfold Sp.fill
   rw[if_neg b];omega
 ·rw[Sp.fill_eq (v:=(i.mem.first:Int)+1) (by show(if a.toNat=a.toNat/\j.toNat=j.toNat then(i.mem.first:Int)+1 else _)=_;rw[if_pos ⟨rfl,rfl⟩]),if_neg (by omega),o,z,show((i.mem.first:Int)+1-1).toNat=i.mem.first by omega]
  show((Mem.upd (Mem.upd _ _ _) _ _).seg _).n=_
  rw[Mem.upd_same]
  show((Mem.upd _ _ _).seg i.mem.first).n+n=n
  rw[Mem.upd_same];show 0+n=n;omega
theorem Sp.fill_same(h:aS i.mem d)(T:Int)(k:Nat):({i with mem:=d}:Sp).fill T k=i.fill T k:=by
 unfold Sp.fill
 show(if i.cur T.toNat k=0 then 0 else(d.seg _).n)=_
 rw[(h.seg _).2.2.1]
theorem Cap.step{Z:TZ}{i:Int}{p:List Int}{s:Sp}{c:Nat->Nat}(h:Cap Z i p s c)(r:SpOK s){a:Int}{m:Mem}(hk:0<=Z.m.kAt a/\Z.m.kAt a<=3)(z:(s.alloc Z.T (Z.m.kAt a) (Z.sz a)).2.2=0)(hm:aS (s.alloc Z.T (Z.m.kAt a) (Z.sz a)).1.mem m): ∃t,Cap Z i (a::p) {(s.alloc Z.T (Z.m.kAt a) (Z.sz a)).1 with mem:=m} t:=by
 obtain⟨d,u,v,q,w⟩:=Sp.alloc_fill r z
 generalize A:(s.alloc Z.T (Z.m.kAt a) (Z.sz a)).1=B at*
 generalize n:Z.m.kAt a=k at*
 have x:((k.toNat:Nat):Int)=k:=by omega
 refine⟨λj=>c j+if j=k.toNat then d else 0,?_,λj g y=>?_,λj g=>?_⟩
 ·show m.free+_=i
  rw[hm.free,u]
  have:=h.free
  rcases(show k.toNat=0\/k.toNat=1\/k.toNat=2\/k.toNat=3 by omega)with e | e | e | e<;>rw[e]<;>simp<;>omega
 ·have b:B.cur Z.T.toNat j=0:=y
  by_cases e:j=k.toNat
  ·rw[e]at b;exact absurd b v
  ·rw[(q j e).1]at b
   show c j+(if j=k.toNat then d else 0)=0
   rw[if_neg e,h.none j g b]
 ·rw[Sp.fill_same hm,TZ.uk_cons,n]
  have o:=h.le j g
  by_cases e:j=k.toNat
  ·subst e
   simp only[if_true]
   rw[x]at o⊢
   rw[if_pos rfl]
   rcases w with⟨rfl,_,l⟩ | ⟨rfl,f,l⟩
   ·rw[l];omega
   ·rw[l]
    rcases f with f | f
    ·have:=h.none k.toNat g f
     have C:=Sp.fill_rng r Z.T k.toNat
     omega
    ·omega
  ·rw[(q j e).2]
   simp only[if_neg e]
   rw[if_neg (show ¬k=(j:Int)by omega)]
   omega
theorem Cap.put{Z Z':TZ}{s:Sp}{c:Nat->Nat}(h:Cap Z a o s c)(l:SpOK s)(A:s.mem.Even){m:Mem}(C:(s.alloc Z.T 0 2).2.2=0)(hm:aS (s.alloc Z.T 0 2).1.mem m)
  (w:Z'.T=Z.T) (F: ∀k,Z'.uk o k=Z.uk o k) (B:Z'.P.length=Z.P.length+1): ∃x,Cap Z' a o {(s.alloc Z.T 0 2).1 with mem:=m} x:=by
 obtain⟨d,y,t,n,u⟩:=Sp.alloc_fill l C
 generalize E:(s.alloc Z.T 0 2).1=G at*
 have z:((0:Int)).toNat=0:=rfl
 rw[z]at t n u
 refine⟨λj=>c j+if j=0 then d else 0,?_,λj i v=>?_,λj i=>?_⟩
 ·show m.free+_=a
  rw[hm.free,y]
  have:=h.free
  simp;omega
 ·rw[w]at v
  have b:G.cur Z.T.toNat j=0:=v
  by_cases e:j=0
  ·rw[e]at b;exact absurd b t
  ·rw[(n j e).1]at b
   show c j+(if j=0 then d else 0)=0
   rw[if_neg e,h.none j i b]
 ·rw[w,Sp.fill_same hm,F]
  have f:=h.le j i
  unfold TZ.pk at f⊢
  rw[B]
  by_cases e:j=0
  ·subst e
   simp only[if_true]at f⊢
   rcases u with⟨rfl,_,p⟩ | ⟨rfl,g,p⟩
   ·rw[p];omega
   ·rw[p]
    rcases g with g | g
    ·have:=h.none 0 i g
     have D:=Sp.fill_rng l Z.T 0
     omega
    ·-- a segment of pairs is filled whole
     have D:=Sp.fill_rng l Z.T 0
     have H:s.fill Z.T 0 % 2=0:=by
      unfold Sp.fill at g⊢
      by_cases r:s.cur Z.T.toNat 0=0
      ·rw[if_pos r];rfl
      ·rw[if_neg r]
       rcases l.cur Z.T.toNat 0 with q | ⟨_,_,_,q⟩
       ·exact absurd q r
       ·exact A _ (by rw[q];decide)
     omega
  ·rw[(n j e).2]
   simp only[if_neg e]at f⊢
   omega
