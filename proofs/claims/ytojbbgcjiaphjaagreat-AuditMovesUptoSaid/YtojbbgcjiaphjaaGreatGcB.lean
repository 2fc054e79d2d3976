/-
 A trace begins (package trace): Start. Proves nothing of any one statement.
-/
import Derived.Test.YtojbbgcjiaphjaaGreatTrF
set_option linter.unusedVariables false
set_option linter.unusedSimpArgs false
namespace Go.Proofs.YtojbbgcjiaphjaaGreat
open Go Go.Proofs.Tryz
variable{H:zV}{a:Blk}{b:Tr}{d:Mem}{i:TB}{j o:Int}{k:Sp}{q:Hp}{r u:Nat}
theorem vh(A B:Value)(C:List Value){z:Value}(hk:u<r):((([A,B]++List.replicate r z++C:List Value).toArray)[2+u]?)=some z:=by
 rw[List.getElem?_toArray,List.getElem?_append_left (by simp;omega),List.getElem?_append_right (by simp)]
 simp only[List.length_cons,List.length_nil]
 rw[List.getElem?_replicate,if_pos (by omega)]
theorem wk(A B:Value)(C:List Value){z:Value}(n k:Nat):((([A,B]++List.replicate n z++C:List Value).toArray)[2+n+k]?)=C[k]?:=by
 rw[List.getElem?_toArray,List.getElem?_append_right (by simp;omega)]
 congr 1
 simp only[List.length_append,List.length_cons,List.length_nil,List.length_replicate];omega
theorem wm(A B:Value)(C:List Value){z:Value}(n:Nat):((([A,B]++List.replicate n z++C:List Value).toArray)[0]?)=some A/\((([A,B]++List.replicate n z++C:List Value).toArray)[1]?)=some B:=by
 constructor<;>rw[List.getElem?_toArray]<;>rfl
theorem wn(A B:Value)(C:List Value){z:Value}(n:Nat):([A,B]++List.replicate n z++C:List Value).toArray.size=2+n+C.length:=by simp;omega
theorem TrAt.init{s:Nat}(p:H[r]?=some (.cells ([vp (some ⟨a.h,0,none⟩),vi j]++List.replicate 1024 (vi 0)++[.map (some u),.map (some s),VN,vi 0]:List Value).toArray 144 (0,0)))
  (m:H[u]?=some (.map #[] 0)) (o:H[s]?=some (.map #[] 0)) (b:r≠u/\r≠s/\u≠s):TrAt H a ⟨r,u,s,none,0,0⟩ ⟨j,λ_=>false,[],[],[],false⟩:=by
 have d:=wm (vp (some ⟨a.h,0,none⟩)) (vi j) [.map (some u),.map (some s),VN,vi 0] (z:=vi 0) 1024
 have f:=λk (hk:k<1024)=>vh (vp (some ⟨a.h,0,none⟩)) (vi j) [.map (some u),.map (some s),VN,vi 0] (z:=vi 0) hk
 have c:=λk=>wk (vp (some ⟨a.h,0,none⟩)) (vi j) [.map (some u),.map (some s),VN,vi 0] (z:=vi 0) 1024 k
 have g:=wn (vp (some ⟨a.h,0,none⟩)) (vi j) [.map (some u),.map (some s),VN,vi 0] (z:=vi 0) 1024
 generalize (([vp (some ⟨a.h,0,none⟩),vi j]++List.replicate 1024 (vi 0)++[.map (some u),.map (some s),VN,vi 0]:List Value).toArray)=e at*
 refine⟨⟨e,p,g,d.1,d.2,λk hk=>f k hk,c 0,c 1,c 2,c 3⟩,⟨_,_,m,rfl⟩,⟨_,_,o,rfl⟩,rfl,(λq l=>by cases l),⟨rfl,Nat.zero_le _⟩,⟨b.1,b.2.1,b.2.2,λi n=>by simp at n⟩⟩
theorem TrAt.put(h:TrAt H a i b){o:Nat}{v:Value}(l:o<1030):
  aK H ⟨i.t,o,none⟩ 0 1/\Fr [i.t] H (aR H ⟨i.t,o,none⟩ [v] 0)/\ ∃c d:Array Value,H[i.t]?=some (.cells c 144 (0,0))/\(aR H ⟨i.t,o,none⟩ [v] 0)[i.t]?=some (.cells d 144 (0,0))/\d.size=c.size/\ ∀j:Nat,d[j]?=if j=o then some v else c[j]?:=by
 obtain⟨c,f,k,_⟩:=h.tr
 refine⟨cW f _ _ _ (by omega),?_⟩
 rw[cH _ H c _ 0 f]
 refine⟨Fr.set,c,_,f,aY (aW f),splice_size _ _ _,λj=>?_⟩
 by_cases e:j=o
 ·rw[if_pos e,e]
  have:=fF c [v] (o+0) 0 (by simp;omega) (by simp)
  simpa using this
 ·rw[if_neg e]
  rcases Nat.lt_or_ge j o with g | g
  ·exact dU _ _ _ _ (by omega)
  ·exact gW _ _ _ _ (by simp;omega)
theorem TrAt.rest{e:zV}(h:TrAt H a i b)(f:Fr [i.t] H e):(∃(c:Array MapEntry) (d:Nat),e[i.f]?=some (.map c d)/\Ents (bF .i64) c.toList b.frm)/\(∃(c:Array MapEntry) (d:Nat),e[i.s]?=some (.map c d)/\Ents (bF .i64) c.toList b.seen)/\fB e i.cB (eY b.cards):=by
 obtain⟨c,d,o,m⟩:=h.frm
 obtain⟨k,j,p,n⟩:=h.seen
 have q:=h.ne
 refine⟨⟨c,d,f.get (by simp;omega) o,m⟩,⟨k,j,f.get (by simp;omega) p,n⟩,?_⟩
 have g:=h.cards
 cases l:i.cB with
 | none=>rw[l]at g;exact g
 | some r=>
  rw[l]at g
  refine f.rowAt ?_ g
  have:=q.2.2.2 r.block (by rw[l];simp)
  simp;omega
theorem TrAt.putOld(h:TrAt H a i b){k:Nat}(hk:k<1024):
  aK H ⟨i.t,2+k,none⟩ 0 1/\Fr [i.t] H (aR H ⟨i.t,2+k,none⟩ [vi 1] 0)/\TrAt (aR H ⟨i.t,2+k,none⟩ [vi 1] 0) a i {b with old:=λG=>if G=k then true else b.old G}:=by
 obtain⟨w,f,C,d,x,y,E,c⟩:=h.put (o:=2+k) (v:=vi 1) (by omega)
 obtain⟨z,A,B⟩:=h.rest f
 refine⟨w,f,?_⟩
 obtain⟨j,g,D,l,m,n,p,q,r,s⟩:=h.tr
 rw[x]at g;cases g
 refine⟨⟨d,y,by omega,by rw[c,if_neg (by omega)];exact l,by rw[c,if_neg (by omega)];exact m,λG u=>?_,by rw[c,if_neg (by omega)];exact p,by rw[c,if_neg (by omega)];exact q,by rw[c,if_neg (by omega)];exact r,by rw[c,if_neg (by omega)];exact s⟩,z,A,B,λF t=>Nat.lt_of_lt_of_le (h.cB F t) f.size,h.clen,h.ne⟩
 rw[c]
 by_cases e:G=k
 ·subst e;rw[if_pos rfl];simp
 ·rw[if_neg (by omega),n G u];simp[e]
theorem TrAt.putCards(h:TrAt H a i b){B:zW}{n c:Nat}{l:List (Int×Int)}(q:fB H B (eY l))(k: ∀N∈blks B,N<H.size)(hn:n=l.length/\n<=4096)(p: ∀N∈blks B,N ∉ i.all):
  aK H ⟨i.t,1028,none⟩ 0 1/\Fr [i.t] H (aR H ⟨i.t,1028,none⟩ [vs B n c] 0)/\TrAt (aR H ⟨i.t,1028,none⟩ [vs B n c] 0) a {i with cB:=B,cN:=n,cC:=c} {b with cards:=l}:=by
 obtain⟨A,e,G,f,C,D,K,d⟩:=h.put (o:=1028) (v:=vs B n c) (by omega)
 obtain⟨E,F,L⟩:=h.rest e
 refine⟨A,e,?_⟩
 obtain⟨r,m,I,s,t,u,w,x,J,y⟩:=h.tr
 rw[C]at m;cases m
 refine⟨⟨f,D,by omega,by rw[d,if_neg (by omega)];exact s,by rw[d,if_neg (by omega)];exact t,λN j=>by rw[d,if_neg (by omega)];exact u N j,by rw[d,if_neg (by omega)];exact w,by rw[d,if_neg (by omega)];exact x,by rw[d,if_pos rfl],by rw[d,if_neg (by omega)];exact y⟩,E,F,?_,λM z=>?_,hn,⟨h.ne.1,h.ne.2.1,h.ne.2.2.1,λN j=>?_⟩⟩
 ·cases B with
  | none=>exact q
  | some M=>
   refine e.rowAt ?_ q
   have:=p M.block (by simp)
   simp[TB.all]at this⊢;omega
 ·have g:B=some M:=z
  subst g
  exact Nat.lt_of_lt_of_le (k _ (by simp)) e.size
 ·have:=p N j
  simp only[TB.all,List.mem_cons,not_or]at this
  exact⟨this.1,this.2.1,this.2.2.1⟩
theorem TrAt.putFrm{c:Array MapEntry}{l:List (Int×Value)}(h:TrAt H a i b)(q:Ents (bF .i64) c.toList l):TrAt (aO H i.f (.map c r)) a i {b with frm:=l}:=by
 have f:Fr [i.f] H (aO H i.f (.map c r)):=Fr.set
 have t:=h.lt i.f (by simp[TB.all])
 obtain⟨m,n,s⟩:=h.tr
 obtain⟨g,e,o,k⟩:=h.seen
 have u:=h.ne
 refine⟨⟨m,f.get (by simp;omega) n,s⟩,⟨c,r,aY t,q⟩,⟨g,e,f.get (by simp;omega) o,k⟩,?_,λv p=>Nat.lt_of_lt_of_le (h.cB v p) f.size,h.clen,h.ne⟩
 have d:=h.cards
 cases j:i.cB with
 | none=>rw[j]at d;exact d
 | some v=>
  rw[j]at d
  refine f.rowAt ?_ d
  have:=u.2.2.2 v.block (by rw[j];simp)
  simp;omega
def fM(g:Int):List Int:=(List.range (g+1).toNat).map λi:Nat=>(i:Int)
theorem lG:o∈fM j ↔ 0<=o/\o<=j:=by
 unfold fM
 rw[List.mem_map]
 constructor
 ·rintro⟨i,a,rfl⟩;rw[List.mem_range]at a;omega
 ·rintro⟨b,c⟩;exact⟨o.toNat,by rw[List.mem_range];omega,by omega⟩
def Mem.young(m:Mem)(g:Int)(k:Nat):Bool:=decide (m.has k/\(m.seg k).gen<=g)
def Mem.nyoung(m:Mem)(g:Int):Nat:=(m.takenTo (fM g) m.limit).length
structure kl (m:Mem) (g T:Int) (t:Tr):Prop where
 tgt:t.tgt=T
 old: ∀k,k<1024->t.old k=m.young g k
 frm: ∀k:Int,0<=k->mget t.frm k=if m.has k/\(m.seg k.toNat).gen=T then some (vi (m.seg k.toNat).n)else none
 seen: ∀k:Int,0<=k->mget t.seen k=if m.has k/\(m.seg k.toNat).gen=T then some (vi (m.seg k.toNat).n)else none
 frm0: ∀k:Int,k<0->mget t.frm k=none
 seen0: ∀k:Int,k<0->mget t.seen k=none
 cards: ∃l,dK m [] l/\t.cards=m.dirtyOf g l
 over:t.over=false
theorem kl.cardsOK(h:kl d j o b)(g:bJ d):nT b.cards:=by
 obtain⟨l,f,e⟩:=h.cards
 rw[e]
 intro c a
 obtain⟨k,hk,i,n,rfl,_⟩:=Mem.mem_dirty.1 a
 obtain⟨_,m,_⟩:=f.has hk
 have:=g.lim
 exact⟨⟨by show(0:Int)<=(k:Int);omega,by show(k:Int)<1024;omega⟩,by show(0:Int)<=(i:Int);omega,by show(i:Int)<4;omega⟩
theorem kl.seenOK(h:kl d j o b)(c:bJ d):jT b.seen:=by
 intro k v a
 rcases Int.lt_or_le k 0 with hk | hk
 ·rw[h.seen0 k hk]at a;cases a
 rw[h.seen k hk]at a
 split at a
 ·cases a
  exact⟨_,rfl,(c.seg _).n⟩
 ·cases a
def jy(s:Sp)(g T more:Int):Int:=if g<0\/4<=g\/T<g\/g+1<T\/more<0 then 1 else if s.mem.free-2*s.mem.nyoung g-8<more then 2 else 0
theorem Sp.fresh_ok(b:SpOK k)(a:List Int):SpOK (k.fresh a):=Sp.zap_ok b _
def Told(m:Mem)(ks:List (Int×Value))(l:List Nat):Prop:= ∀k:Int,mget ks k=if 0<=k/\k.toNat∈l then some (vi (m.seg k.toNat).n)else none
theorem Told.put{c:List (Int×Value)}{l:List Nat}(h:Told d c l)(k:Nat){v:Value}:Told d (mput (mput c k v) k (vi (d.seg k).n)) (l++[k]):=by
 intro a
 rw[kO,kO,h a]
 by_cases e:a=k
 ·subst e
  rw[if_pos rfl,if_pos ⟨by omega,by simp⟩];simp
 ·rw[if_neg e,if_neg e]
  refine kH ⟨λq=>⟨q.1,List.mem_append_left _ q.2⟩,λq=>⟨q.1,?_⟩⟩ _ _
  rcases List.mem_append.1 q.2 with b | b
  ·exact b
  ·simp at b;omega
set_option maxRecDepth 100000 in
theorem tB{g:Int}(hp:HpAt H a q)(ok:SpOK q.sp)(he:q.sp.mem.Even)(dw:q.sp.cf<4611686018427387904)(hg:I64 j)(hT:I64 o)(hm:I64 g):
  jp.C (some ⟨a.h,0,none⟩) j o g H (λv H'=>(jy q.sp j o g≠0->v=.tuple #[vp none,vi (jy q.sp j o g)]/\Ext H H')/\
   (jy q.sp j o g=0-> ∃(eV:TB) (t:Tr),v=.tuple #[vp (some ⟨eV.t,0,none⟩),vi 0]/\Tg H' a {q with sp:=q.sp.fresh (fM j)} eV t/\kl q.sp.mem j o t/\(∀i∈eV.all,H.size<=i)/\Fr (spB a) H H')):=by
 refine HC.via λR hR=>jp.link ?_
 unfold jp.pt zY
 rw[onPtr_some]
 refine⟨_,hp.hPtr,?_⟩
 rw[onPtr_some]
 by_cases N:j<0\/4<=j\/o<j\/j+1<o\/g<0
 ·have e:jy q.sp j o g=1:=by unfold jy;rw[if_pos N]
  rw[if_pos ?_]
  ·exact hR _ _ ⟨λ_=>⟨by rw[e],Ext.refl _⟩,λh=>by rw[e]at h;exact absurd h (by decide)⟩
  ·rcases N with h | h | h | h | h
   ·simp[h]
   ·have:j>=4:=h
    simp[this]
   ·simp[h]
   ·by_cases Z:j>=4
    ·simp[Z]
    ·rw[w64 (n:=j+1) (by omega)]
     have:o>j+1:=h
     simp[this]
   ·simp[h]
 have em:0<=j/\j<4/\j<=o/\o<=j+1/\0<=g:=by omega
 rw[w64 (n:=j+1) (by omega)]
 rw[if_neg (by
  simp only[Bool.or_eq_true,decide_eq_true_eq]
  omega)]
 have e0:=ok.mem.lim
 have D:(fM j).length=(j+1).toNat:=by simp[fM]
 refine⟨λB n c i A=>(0<=i/\i<=j+1)/\n=i.toNat/\Own A 3 1 B n c (ivs ((fM j).take i.toNat))/\(∀eU∈blks B,H.size<=eU)/\Ext H A,λ_ _ _ i _=>(j+1-i).toNat,⟨by omega,rfl,iY,by simp,Ext.refl _⟩,?_⟩
 rintro gB gN gC i H1 ⟨hi,rfl,P,bj,eW⟩
 by_cases bm:i<j+1
 ·rw[if_pos bm]
  intro c2 H2 du ch
  have e2:Ext H1 H2:=Ext.push' ch
  have hd:(j+1-(i+1)).toNat< (j+1-i).toNat:=by omega
  rw[w64 (n:=i+1) (by omega)]
  refine dD (ys:=[vi i]) (P.ext e2) (dV (aH du ch) _ 0 0 (λeU d=>by
   simp only[List.length_cons,List.length_nil]at d
   obtain rfl:eU=0:=by omega
   rfl)) rfl rfl rfl (by omega) ?_
  intro p' c' H4 ay f7 dH
  have ht:(fM j).take (i+1).toNat=(fM j).take i.toNat++[i]:=by
   rw[show(i+1).toNat=i.toNat+1 by omega,List.take_succ_eq_append_getElem (by rw[D];omega)]
   congr 2
   simp[fM];omega
  refine⟨⟨by omega,by omega,?_,λeU d=>?_,(eW.trans e2).fr_trans f7 bj⟩,hd⟩
  ·rw[ht,show i.toNat+1=i.toNat+1 from rfl]
   unfold ivs at ay⊢
   rw[List.map_append];exact ay
  ·rcases dH eU d with h | h
   ·exact bj eU h
   ·have:=eW.size;have:=e2.size;omega
 rw[if_neg bm]
 have dE:i.toNat=(fM j).length:=by rw[D];omega
 rw[dE]at P⊢
 rw[List.take_length]at P
 have aj:=hp.ext eW
 refine⟨_,aj.hPtr,_,rfl,_,aj.cd.cPtr,_,rfl,_,aj.cd.sp.memPtr,?_⟩
 refine HC.mono (jI (gs:=fM j) aj.cd.sp.mem ok.mem P.src rfl (by omega)) ?_
 rintro _ H4 ⟨yB,yC,b,rfl,am,aB,dB,f5⟩
 refine⟨_,_,_,rfl,?_⟩
 have X:=eW.trans f5
 have ak:=hp.ext X
 have dP:=am.len
 have cz:b.length=q.sp.mem.nyoung j:=am.perm.length_eq
 refine⟨_,ak.hPtr,_,rfl,_,ak.cd.cPtr,_,rfl,_,ak.cd.sp.memPtr,?_⟩
 refine HC.mono (tA ak.cd.sp.mem) ?_
 rintro _ H5 ⟨rfl,rfl⟩
 have dA:=ok.mem.free
 have en:q.sp.mem.nfree<=q.sp.mem.limit:=by
  unfold Mem.nfree
  exact Nat.le_trans List.countP_le_length (by simp)
 refine⟨_,rfl,?_⟩
 rw[w64 (n:=2*(b.length:Int)) (by omega),w64 (n:=q.sp.mem.free-2*(b.length:Int)) (by omega),w64 (n:=q.sp.mem.free-2*(b.length:Int)-8) (by omega)]
 by_cases z:q.sp.mem.free-2*(b.length:Int)-8<g
 ·rw[if_pos z]
  have e:jy q.sp j o g=2:=by unfold jy;rw[if_neg N,if_pos (by rw[<-cz];exact z)]
  exact hR _ _ ⟨λ_=>⟨by rw[e],X⟩,λh=>by rw[e]at h;exact absurd h (by decide)⟩
 rw[if_neg z]
 have es:jy q.sp j o g=0:=by unfold jy;rw[if_neg N,if_neg (by rw[<-cz];exact z)]
 intro u H6 cn ag r H7 co ah L H8 dt bg
 have ec:Ext H5 H6:=Ext.push' ag
 have e7:Ext H6 H7:=Ext.push' ah
 have eX:Ext H7 H8:=Ext.push' bg
 have z6:H6.size=H5.size+1:=by rw[ag];simp
 have z7:H7.size=H6.size+1:=by rw[ah];simp
 have z5:=X.size
 have ab:Ext H5 H8:=(ec.trans e7).trans eX
 have bU:=X.trans ab
 have ep:=hp.ext bU
 have T8:TrAt H8 a ⟨L,u,r,none,0,0⟩ ⟨o,λ_=>false,[],[],[],false⟩:=TrAt.init (aH dt bg) (eX.get (e7.get (aH cn ag))) (eX.get (aH co ah)) ⟨by omega,by omega,by omega⟩
 have y: ∀eU∈a.all,eU<H.size:=λeU d=>hp.lt eU d
 have dO: ∀eU∈blks yB,eU<H5.size/\H1.size<=eU:=λeU d=>⟨aB.lt eU d,dB eU d⟩
 have bk: ∀eU∈blks gB,eU<H1.size/\H.size<=eU:=λeU d=>⟨P.lt eU d,bj eU d⟩
 have z1:=eW.size
 have z4:=f5.size
 refine⟨λi A=>(0<=i/\i<=b.length)/\TrAt A a ⟨L,u,r,none,0,0⟩ ⟨o,λk=>decide (k∈b.take i.toNat),[],[],[],false⟩/\Fr [L] H8 A,λi _=>(b.length-i).toNat,⟨by omega,by simpa using T8,Fr.refl _ _⟩,?_⟩
 rintro K H9 ⟨dC,T9,f9⟩
 by_cases bl:K< (b.length:Int)
 ·rw[if_pos bl]
  have a7:K.toNat<b.length:=by omega
  have bo:=(aB.ext ab).keep f9 (λeU d hm=>by have:=dO eU d;simp at hm;omega)
  obtain⟨eT,ha,a4⟩:=mL bo a7
  obtain⟨aC,cI,cK,_⟩:=am.has (List.getElem_mem a7)
  have hput:=T9.putOld (k:=b[K.toNat]) (by omega)
  have hd:((b.length:Int)-(K+1)).toNat< ((b.length:Int)-K).toNat:=by omega
  refine⟨eT,ha,⟨dC.1,bl⟩,_,a4,⟨by omega,by omega⟩,?_⟩
  rw[addr_add_mk,addr_add_mk,Nat.zero_add,Nat.mul_one,show((b[K.toNat]:Nat):Int).toNat=b[K.toNat]by omega,w64 (n:=K+1) (by omega)]
  refine⟨hput.1,λe4 cc=>?_⟩
  subst cc
  refine⟨⟨by omega,?_,f9.trans hput.2.1⟩,hd⟩
  have ho:(λk=>decide (k∈b.take (K+1).toNat))=(λi=>if i=b[K.toNat]then true else decide (i∈b.take K.toNat)):=by
   funext k
   rw[show(K+1).toNat=K.toNat+1 by omega,List.take_succ_eq_append_getElem a7]
   by_cases hk:k=b[K.toNat]
   ·rw[if_pos hk,hk];exact zX (List.mem_append_right _ (List.mem_singleton.2 rfl))
   ·rw[if_neg hk,decide_eq_decide,List.mem_append,List.mem_singleton]
    exact⟨λh=>h.resolve_right hk,.inl⟩
  rw[ho];exact hput.2.2
 rw[if_neg bl]
 have a7:K.toNat=b.length:=by omega
 rw[a7,List.take_length]at T9
 have dk:Fr [L] H5 H9:=ab.fr.trans f9
 have c8:Ext H H9:=X.fr_trans dk (λeU d=>by simp at d;omega)
 have al:=hp.ext c8
 refine⟨_,al.hPtr,_,rfl,_,al.cd.cPtr,_,rfl,_,al.cd.sp.memPtr,?_⟩
 intro d5 aZ cp aw
 have b6:Ext H9 aZ:=Ext.push' aw
 have z8:H8.size=H7.size+1:=by rw[bg];simp
 have z9:=f9.size
 have cA:=al.ext b6
 refine HC.mono (jI (gs:=[o]) cA.cd.sp.mem ok.mem (show fB aZ (some ⟨d5,0,none⟩) (ivs [o])from row1 (by rw[aP (aH cp aw)];rfl)) rfl (by decide)) ?_
 rintro _ b0 ⟨wB,wC,l,rfl,hl,az,dz,da⟩
 refine⟨_,_,_,rfl,?_⟩
 have dG:=hl.len
 have F:=b6.trans da
 have c7:=c8.trans F
 have ew:=F.size
 have dN: ∀eU∈blks wB,eU<b0.size/\aZ.size<=eU:=λeU d=>⟨az.lt eU d,dz eU d⟩
 have ev:=b6.size
 refine⟨λi A=>(0<=i/\i<=l.length)/\(∃ks w:List (Int×Value),TrAt A a ⟨L,u,r,none,0,0⟩ ⟨o,λk=>decide (k∈b),ks,w,[],false⟩/\Told q.sp.mem ks (l.take i.toNat)/\Told q.sp.mem w (l.take i.toNat))/\(∃es cl,A[u]?=some (.map es cl)/\Born es cl)/\(∃es cl,A[r]?=some (.map es cl)/\Born es cl)/\Fr [u,r] b0 A,λi _=>(l.length-i).toNat,?_,?_⟩
 ·have cj: ∀c,c=u\/c=r->b0[c]?=some (.map #[] 0):=λc hc=>by
   have dv:H8[c]?=some (.map #[] 0):=by
    rcases hc with rfl | rfl
    ·exact eX.get (e7.get (aH cn ag))
    ·exact eX.get (aH co ah)
   exact F.get (f9.get (by simp;omega) dv)
  exact⟨by omega,⟨[],[],T9.ext F,λk=>by simp[mget],λk=>by simp[mget]⟩,⟨_,_,cj _ (.inl rfl),rW⟩,⟨_,_,cj _ (.inr rfl),rW⟩,Fr.refl _ _⟩
 rintro p bu ⟨cw,⟨ks,w,bA,O,E⟩,⟨c5,bP,cu,b3⟩,⟨bb,b5,cv,b4⟩,Y⟩
 have ey:=Y.size
 have M:Ext H bu:=c7.fr_trans Y (λeU d=>by simp at d;omega)
 have m:=hp.ext M
 by_cases a6:p< (l.length:Int)
 ·rw[if_pos a6]
  have G:p.toNat<l.length:=by omega
  have ai:=az.keep Y (λeU d hm=>by have:=dN eU d;simp at hm;omega)
  obtain⟨eT,ha,a4⟩:=mL ai G
  obtain⟨aC,cI,cK,_⟩:=hl.has (List.getElem_mem G)
  have cD:l.take (p+1).toNat=l.take p.toNat++[l[p.toNat]]:=by rw[show(p+1).toNat=p.toNat+1 by omega,List.take_succ_eq_append_getElem G]
  generalize hk:l[p.toNat]=k at*
  refine⟨eT,ha,⟨cw.1,a6⟩,_,a4,_,m.hPtr,_,rfl,_,m.cd.cPtr,_,rfl,_,m.cd.sp.memPtr,?_⟩
  refine HC.mono (gL m.cd.sp.mem) ?_
  rintro _ e5 ⟨rfl,ao⟩
  have dJ:q.sp.mem.segOr k=q.sp.mem.seg k:=by unfold Mem.segOr;rw[if_pos aC,show((k:Nat):Int).toNat=k by omega]
  rw[dJ]
  refine⟨_,_,_,_,_,_,_,_,rfl,λW e6 cq ce=>?_⟩
  obtain⟨dx,hs⟩:=jC (q.sp.mem.seg k) cq ce
  refine⟨dx,λQ cg=>?_⟩
  obtain⟨db,_,_,g2,_⟩:=hs Q cg
  have x:=ao.trans db
  have V:=bA.ext x
  have ez:=ao.size
  have dQ:W≠u/\W≠r:=by omega
  have I:Q[u]?=some (.map c5 bP):=x.get cu
  have J:Q[r]?=some (.map bb b5):=x.get cv
  obtain⟨dT,dR,q1,b8⟩:=V.frm
  obtain⟨dW,dS,q2,b9⟩:=V.seen
  rw[show(⟨L,u,r,none,0,0⟩:TB).f=u from rfl,I]at q1
  rw[show(⟨L,u,r,none,0,0⟩:TB).s=r from rfl,J]at q2
  cases q1;cases q2
  refine⟨some u,by rw[addr_add_mk];exact V.fAt,some r,by rw[addr_add_mk];exact V.sAt,_,by rw[addr_add_mk];exact g2,_,by rw[addr_add_mk];exact g2,u,rfl,c5,bP,ks,I,b8,b3,?_⟩
  intro df bM st an S a0 ap bC ck
  have cL:=aW I
  have e1:=aW J
  have ac:Fr [u] Q S:=by rw[a0];exact Fr.set
  have be:hat S ⟨W,2,none⟩=some (vi (q.sp.mem.seg k).n):=ac.hat (by simp;omega) g2
  refine⟨by rw[addr_add_mk];exact row1 be,by rw[addr_add_mk];exact row1 be,df,bM,_,(k:Int),by rw[a0];exact aY cL,ap,bC,ck,?_⟩
  intro dh T a1 bY bE
  have cM:u<S.size:=by have:=ac.size;omega
  have bd:Fr [u] S T:=by rw[a1];exact Fr.set
  have c9:hat T ⟨W,2,none⟩=some (vi (q.sp.mem.seg k).n):=bd.hat (by simp;omega) be
  have a5:T[r]?=some (.map bb b5):=bd.get (by simp;omega) (ac.get (by simp;omega) J)
  refine⟨by rw[addr_add_mk];exact row1 c9,r,rfl,bb,b5,w,a5,b9,b4,?_⟩
  intro di bN er cQ U a2 au bG cm
  have cN:=aW a5
  have ae:Fr [r] T U:=by rw[a2];exact Fr.set
  have dm:hat U ⟨W,2,none⟩=some (vi (q.sp.mem.seg k).n):=ae.hat (by simp;omega) c9
  refine⟨by rw[addr_add_mk];exact row1 dm,di,bN,_,(k:Int),by rw[a2];exact aY cN,au,bG,cm,?_⟩
  intro dj b1 a3 bZ bH
  have c6:Fr [r] U b1:=by rw[a3];exact Fr.set
  have cO:r<U.size:=by have:=ae.size;omega
  have hd:((l.length:Int)-(p+1)).toNat< ((l.length:Int)-p).toNat:=by omega
  rw[w64 (n:=p+1) (by omega)]
  have cZ:TrAt S a ⟨L,u,r,none,0,0⟩ ⟨o,λk=>decide (k∈b),mput ks k an,w,[],false⟩:=by rw[a0];exact V.putFrm ap
  have d0:TrAt T a ⟨L,u,r,none,0,0⟩ ⟨o,λk=>decide (k∈b),mput (mput ks k an) k (vi (q.sp.mem.seg k).n),w,[],false⟩:=by rw[a1];exact cZ.putFrm bY
  have d1:TrAt U a ⟨L,u,r,none,0,0⟩ ⟨o,λk=>decide (k∈b),mput (mput ks k an) k (vi (q.sp.mem.seg k).n),mput w k cQ,[],false⟩:=by rw[a2];exact d0.putSeen au
  have d2:TrAt b1 a ⟨L,u,r,none,0,0⟩ ⟨o,λk=>decide (k∈b),mput (mput ks k an) k (vi (q.sp.mem.seg k).n),mput (mput w k cQ) k (vi (q.sp.mem.seg k).n),[],false⟩:=by rw[a3];exact d1.putSeen bZ
  have bc:Fr [u,r] Q b1:=((ac.mono (λeU d _=>by simp at d;simp[d])).trans (bd.mono (λeU d _=>by simp at d;simp[d]))).trans ((ae.mono (λeU d _=>by simp at d;simp[d])).trans (c6.mono (λeU d _=>by simp at d;simp[d])))
  refine⟨⟨by omega,⟨_,_,d2,by rw[cD];exact O.put k,by rw[cD];exact E.put k⟩,⟨dh,bM,?_,bE⟩,⟨dj,bN,by rw[a3];exact aY cO,bH⟩,Y.trans (x.fr.trans bc)⟩,hd⟩
  exact c6.get (by simp;omega) (ae.get (by simp;omega) (by rw[a1];exact aY cM))
 rw[if_neg a6]
 have G:p.toNat=l.length:=by omega
 rw[G,List.take_length]at O E
 refine⟨_,m.hPtr,_,rfl,_,m.cd.cPtr,?_⟩
 have bn:Own bu 3 1 gB (fM j).length gC (ivs (fM j)):=by
  have h5:=P.ext (f5.trans ab)
  have h9:=h5.keep f9 (λeU d hm=>by have:=bk eU d;simp at hm;omega)
  exact(h9.ext F).keep Y (λeU d hm=>by have:=bk eU d;simp at hm;omega)
 refine HC.mono (qr m.cd.sp bn.src rfl (by omega) (λeU d=>by have:=bk eU d;have:=y a.sp (by simp[Blk.all]);omega)) ?_
 rintro _ bw ⟨cP,af⟩
 have a9:=m.withSp af (λeU d=>by simp at d;omega) cP
 refine⟨_,a9.hPtr,?_⟩
 have aT:=Sp.fresh_ok ok (fM j)
 refine HC.mono (rt a9.cd aT) ?_
 rintro _ b2 ⟨f0,f3,f2,f4,rfl,bh,ct,a8,bi,b7⟩
 refine⟨_,_,_,rfl,?_⟩
 have eb:=y a.sp (by simp[Blk.all])
 have bB:TrAt bw a ⟨L,u,r,none,0,0⟩ ⟨o,λk=>decide (k∈b),ks,w,[],false⟩:=bA.keep af (λeU d hq=>by
  simp at d
  simp[TB.all]at hq
  omega)
 have d3:=bB.ext b7
 have dy:=q.sp.mem.dirtyOf_len j f4
 have cs:=bh.len
 have cy:(q.sp.fresh (fM j)).mem=q.sp.mem:=rfl
 rw[cy]at ct a8 bh cs
 have eA:=af.size
 have hput:=d3.putCards (B:=f0) (n:=f3) (c:=f2) (l:=q.sp.mem.dirtyOf j f4) a8.src a8.lt ⟨ct,by omega⟩ (λeU d hq=>by
  have h1:=bi eU d
  have h2:=bB.lt eU hq
  omega)
 rw[addr_add_mk,Nat.zero_add]
 refine⟨hput.1,λe8 ci=>?_⟩
 subst ci
 have dl:Fr (spB a) H (aR b2 ⟨L,1028,none⟩ [vs f0 f3 f2] 0):=by
  have f1:Fr (spB a) H bw:=M.fr.trans (af.mono (λeU d _=>by simp at d;simp[spB,d]))
  have f6:Fr (spB a) H b2:=f1.trans b7.fr
  refine f6.trans' hput.2.1 (λeU d _=>d) (λeU d bm=>?_)
  simp at d;omega
 have cB:=a9.ext b7
 have cC:HpAt (aR b2 ⟨L,1028,none⟩ [vs f0 f3 f2] 0) a {q with sp:=q.sp.fresh (fM j)}:=cB.keep hput.2.1 (λeU d hb=>by
  have:=y eU hb
  simp at d;omega)
 refine hR _ _ ⟨λh=>absurd es h,λ_=>⟨_,_,rfl,⟨⟨cC,aT,hput.2.2,λeU d hb=>?_⟩,he,dw,rfl⟩,?_,λeU d=>?_,dl⟩⟩
 ·have h1:=y eU hb
  simp only[TB.all,List.mem_cons]at d
  rcases d with h | h | h | h
  ·omega
  ·omega
  ·omega
  ·have:=bi eU h;have:=M.size;omega
 ·have ax: ∀bq:List (Int×Value),Told q.sp.mem bq l-> ∀k:Int,0<=k->mget bq k=if q.sp.mem.has k/\(q.sp.mem.seg k.toNat).gen=o then some (vi (q.sp.mem.seg k.toNat).n)else none:=by
   intro bq ht k hk
   rw[ht k]
   refine kH ?_ _ _
   rw[hl.perm.mem_iff]
   unfold Mem.takenTo
   rw[List.mem_filter,List.mem_range]
   have h1:=(ok.mem.seg k.toNat).taken
   constructor
   ·rintro⟨_,h3,Z⟩
    simp only[Bool.and_eq_true,decide_eq_true_eq,Bool.or_eq_true,List.isEmpty_iff]at Z
    have h5:(q.sp.mem.seg k.toNat).gen∈[o]:=Z.2.resolve_left (by simp)
    exact⟨⟨hk,by omega,by omega⟩,by simpa using h5⟩
   ·rintro⟨h3,Z⟩
    have h5:=h3.2.2
    refine⟨hk,by have:=h3.2.1;omega,?_⟩
    simp only[Bool.and_eq_true,decide_eq_true_eq,Bool.or_eq_true]
    exact⟨by omega,.inr (by rw[Z];simp)⟩
  refine⟨rfl,λk hk=>?_,λk hk=>?_,λk hk=>?_,λk hk=>?_,λk hk=>?_,⟨f4,bh,rfl⟩,rfl⟩
  ·show decide (k∈b)=_
   unfold Mem.young
   rw[decide_eq_decide,am.perm.mem_iff]
   unfold Mem.takenTo
   rw[List.mem_filter,List.mem_range]
   have h1:=(ok.mem.seg k).taken
   have h2:=(ok.mem.seg k).gen
   have cx:((k:Nat):Int).toNat=k:=by omega
   constructor
   ·rintro⟨h3,Z⟩
    simp only[Bool.and_eq_true,decide_eq_true_eq,Bool.or_eq_true,List.isEmpty_iff]at Z
    have h5:(q.sp.mem.seg k).gen∈fM j:=by
     rcases Z.2 with h | h
     ·rw[h]at D;simp at D;omega
     ·exact h
    exact⟨⟨by omega,by omega,by rw[cx];omega⟩,(lG.1 h5).2⟩
   ·rintro⟨h3,Z⟩
    have h5:=h3.2.2
    rw[cx]at h5
    refine⟨by have:=h3.2.1;omega,?_⟩
    simp only[Bool.and_eq_true,decide_eq_true_eq,Bool.or_eq_true]
    exact⟨by omega,.inr (lG.2 ⟨h2.1,Z⟩)⟩
  ·exact ax _ O k hk
  ·exact ax _ E k hk
  ·show mget ks k=none
   rw[O k,if_neg (by omega)]
  ·show mget w k=none
   rw[E k,if_neg (by omega)]
 ·simp only[TB.all,List.mem_cons]at d
  have:=bU.size
  rcases d with h | h | h | h
  ·omega
  ·omega
  ·omega
  ·have:=bi eU h;have:=M.size;omega
def Mem.give(m:Mem)(k:Int):Mem:=if m.has k then{m with free:=m.free+1}.upd k.toNat Seg.none else m
theorem bJ.give{m:Mem}(a:bJ m)(k:Int):bJ (m.give k):=by
 unfold Mem.give
 split
 ·rename_i h
  refine⟨a.lim,λi=>?_,?_,a.count⟩
  ·rw[Mem.upd_seg]
   split
   ·exact nt
   ·exact a.seg i
  ·show m.free+1=_
   have b:({m with free:=m.free+1}.upd k.toNat Seg.none).nfree=(m.upd k.toNat Seg.none).nfree:=rfl
   have:=Mem.nfree_give (m:=m) (k:=k.toNat) (s:=Seg.none) (by have:=h.1;have:=h.2.1;omega) h.2.2 rfl
   rw[b,this,a.free];omega
 ·exact a
set_option maxRecDepth 100000 in
theorem nB{k:Int}(h:cX H r u d)(A:bJ d):
  gI.C (some ⟨r,0,none⟩) k H (λv q=>v=vi (if d.has k then 0 else 19)/\cX q r u (d.give k)/\Fr [r,u] H q):=by
 refine HC.via λR p=>gI.link ?_
 unfold gI.pt zY
 refine HC.mono (mJ h) ?_
 rintro _ B ⟨rfl,rfl⟩
 refine⟨_,rfl,?_⟩
 by_cases hk:d.has k
 case neg=>
  rw[if_neg hk,onPtr_none]
  have e:d.give k=d:=by unfold Mem.give;rw[if_neg hk]
  rw[e,if_neg hk]at p
  exact p _ _ ⟨rfl,h,Fr.refl _ _⟩
 rw[if_pos hk,onPtr_some]
 have g:k.toNat<d.limit:=by have:=hk.1;have:=hk.2.1;omega
 have c:=h.canPuts (k:=k.toNat) (o:=0) (n:=72) g (by omega)
 rw[Nat.add_zero]at c
 refine⟨c,λt m=>?_⟩
 obtain⟨z,F,N,K⟩:=qF
 obtain⟨a,l⟩:=h.puts (k:=k.toNat) (o:=0) (vs:=z.toList) (s:=Seg.none) g (by simp;omega) (λj y=>by rw[Nat.zero_add,Array.getElem?_toList];exact K j (by simp at y;omega)) (λj y L=>by simp at L;omega)
 rw[Nat.add_zero]at a l
 have E:t=aR B ⟨u,k.toNat*72,none⟩ z.toList 0:=by rw[m,F]
 rw[<-E]at a l
 have x:d.free<=1024/\0<=d.free:=by
  have:=A.lim
  have:d.nfree<=(List.range d.limit).length:=List.countP_le_length
  simp at this
  rw[A.free];omega
 refine⟨_,rfl,d.free,by rw[addr_add_mk];exact a.freeAt,by rw[addr_add_mk];exact cW a.mem.choose_spec _ _ _ (by simp),λw b=>?_⟩
 rw[addr_add_mk,cH _ _ _ _ _ a.mem.choose_spec,w64 (n:=d.free+1) (by omega)]at b
 have e:d.give k={d with free:=d.free+1}.upd k.toNat Seg.none:=by unfold Mem.give;rw[if_pos hk]
 have I:cX w r u (d.give k):=by
  rw[e]
  subst b
  obtain⟨D,J,M⟩:=a.segs
  exact⟨⟨a.mem.choose,by rw[aY a.lt.1];rfl⟩,h.ne,D,by rw[jm h.ne];exact J,M⟩
 have G:Fr [r] t w:=by subst b;exact Fr.set
 exact p _ _ ⟨by rw[if_pos hk],I,l.trans' G (λi f _=>by simp at f;simp[f]) (λi f _=>by simp at f;simp[f])⟩
def Sp.give(s:Sp)(k:Int):Sp:=if s.mem.has k then{mem:=s.mem.give k,cur:=λi j=>if s.cur i j=k+1 then 0 else s.cur i j}else s
theorem Sp.give_ok(c:SpOK k)(o:Int):SpOK (k.give o):=by
 unfold Sp.give
 split
 ·rename_i hk
  refine⟨c.mem.give o,λg j=>?_⟩
  by_cases h:k.cur g j=o+1
  ·exact .inl (if_pos h)
  ·have a:({mem:=k.mem.give o,cur:=λi j=>if k.cur i j=o+1 then 0 else k.cur i j}:Sp).cur g j=k.cur g j:=if_neg h
   rw[a]
   rcases c.cur g j with f | ⟨l,b,m,n⟩
   ·exact .inl f
   ·have hn:(k.cur g j-1).toNat≠o.toNat:=by have:=b.1;have:=hk.1;omega
    have e:(k.mem.give o).seg (k.cur g j-1).toNat=k.mem.seg (k.cur g j-1).toNat:=by unfold Mem.give;rw[if_pos hk,Mem.upd_other _ _ hn]
    have d:(k.mem.give o).limit=k.mem.limit:=by unfold Mem.give;rw[if_pos hk];rfl
    exact .inr ⟨l,⟨b.1,by show _< ((k.mem.give o).limit:Int);rw[d];exact b.2.1,by show((k.mem.give o).seg _).taken≠0;rw[e];exact b.2.2⟩,by show((k.mem.give o).seg _).gen=_;rw[e];exact m,by show((k.mem.give o).seg _).kind=_;rw[e];exact n⟩
 ·exact c
set_option maxRecDepth 100000 in
theorem ru{s:Sp}{k:Int}(h:SpAt H a s)(l:SpOK s)(M:0<=k/\k<=1024):
  eW.C (some ⟨a.sp,0,none⟩) k H (λv I=>(∃e:Int,v=vi e)/\SpAt I a (s.give k)/\Fr [a.sp,a.m,a.s] H I):=by
 refine HC.via λR u=>eW.link ?_
 unfold eW.pt zY
 refine HC.mono (me h) ?_
 rintro _ H1 ⟨rfl,rfl⟩
 refine⟨_,rfl,?_⟩
 rw[if_neg (by decide)]
 refine⟨_,rfl,_,h.memPtr,?_⟩
 refine HC.mono (gL h.mem) ?_
 rintro _ H2 ⟨rfl,P⟩
 refine⟨_,_,_,_,_,_,_,_,rfl,λc3 H3 D A=>?_⟩
 obtain⟨E,Y⟩:=jC (s.mem.segOr k) D A
 refine⟨E,λN B=>?_⟩
 obtain⟨Q,y,z,_,_⟩:=Y N B
 have f:=P.trans Q
 have c:=h.ext f
 by_cases hk:s.mem.has k
 case neg=>
  rw[if_neg (by simpa using hk)]
  refine⟨_,c.memPtr,?_⟩
  refine HC.mono (nB c.mem l.mem) ?_
  rintro _ J ⟨rfl,x,o⟩
  have e:s.give k=s:=by unfold Sp.give;rw[if_neg hk]
  have O:s.mem.give k=s.mem:=by unfold Mem.give;rw[if_neg hk]
  rw[O]at x
  rw[e]at u
  exact⟨_,rfl,u _ _ ⟨⟨_,rfl⟩,c.withMem o (by have:=h.ne;simp;omega) x,f.fr.trans (o.mono (λi d _=>by simp at d;simp;omega))⟩⟩
 rw[if_pos (zX hk)]
 have G:s.mem.segOr k=s.mem.seg k.toNat:=by unfold Mem.segOr;rw[if_pos hk]
 rw[G]at y z
 have V:=(l.mem.seg k.toNat).gen
 have X:=(l.mem.seg k.toNat).kind
 have q:=c.curAt (g:=(s.mem.seg k.toNat).gen.toNat) (k:=(s.mem.seg k.toNat).kind.toNat) (by omega) (by omega)
 refine⟨_,y,_,by rw[addr_add_mk];exact z,⟨by omega,by omega⟩,⟨by omega,by omega⟩,_,by simp only[addr_add_mk,Nat.zero_add,Nat.mul_one];exact q,?_⟩
 rw[w64 (n:=k+1) (by omega)]
 have K:s.give k={mem:=s.mem.give k,cur:=λi j=>if s.cur i j=k+1 then 0 else s.cur i j}:=by unfold Sp.give;rw[if_pos hk]
 have b: ∀i j:Nat,s.cur i j=k+1->i=(s.mem.seg k.toNat).gen.toNat/\j=(s.mem.seg k.toNat).kind.toNat:=λi j F=>by
  rcases l.cur i j with h0 | ⟨h1,h2,S,c⟩
  ·have:=hk.1;omega
  ·rw[F,show(k+1-1).toNat=k.toNat by omega]at S c
   omega
 by_cases w:s.cur (s.mem.seg k.toNat).gen.toNat (s.mem.seg k.toNat).kind.toNat=k+1
 ·rw[if_pos w]
  have t:=c.putCur (g:=(s.mem.seg k.toNat).gen.toNat) (k:=(s.mem.seg k.toNat).kind.toNat) (v:=0) (by omega) (by omega)
  refine⟨_,y,_,by rw[addr_add_mk];exact z,⟨by omega,by omega⟩,⟨by omega,by omega⟩,by simp only[addr_add_mk,Nat.zero_add,Nat.mul_one];exact t.1,λJ p=>?_⟩
  simp only[addr_add_mk,Nat.zero_add,Nat.mul_one]at p
  subst p
  refine⟨_,t.2.1.memPtr,?_⟩
  refine HC.mono (nB t.2.1.mem l.mem) ?_
  rintro _ H6 ⟨rfl,Z,L⟩
  have U:=t.2.1.withMem L (by have:=h.ne;simp;omega) Z
  refine⟨_,rfl,u _ _ ⟨⟨_,rfl⟩,?_,(f.fr.trans (t.2.2.mono (λi d _=>by simp at d;simp[d]))).trans (L.mono (λi d _=>by simp at d;simp;omega))⟩⟩
  rw[K]
  refine U.alike rfl (λi j d W=>?_)
  show(if s.cur i j=k+1 then 0 else s.cur i j)=(if i=_/\j=_ then 0 else s.cur i j)
  refine kH ⟨b i j,λr=>?_⟩ _ _
  rw[r.1,r.2];exact w
 ·rw[if_neg w]
  refine⟨_,c.memPtr,?_⟩
  refine HC.mono (nB c.mem l.mem) ?_
  rintro _ J ⟨rfl,x,o⟩
  have T:=c.withMem o (by have:=h.ne;simp;omega) x
  refine⟨_,rfl,u _ _ ⟨⟨_,rfl⟩,?_,f.fr.trans (o.mono (λi d _=>by simp at d;simp;omega))⟩⟩
  rw[K]
  refine T.alike rfl (λi j d W=>?_)
  show(if s.cur i j=k+1 then 0 else s.cur i j)=s.cur i j
  rw[if_neg (λr=>w (by have:=b i j r;rw[<-this.1,<-this.2];exact r))]
def Mem.cardLen(m:Mem)(k c:Int):Nat:=(min 16 ((m.seg k.toNat).n-c*16)).toNat
def Mem.markOf(m:Mem)(k c:Int)(n:Nat):Int:=(m.row (k*64+c*16) n).foldl (λmk w=>m.younger (m.seg k.toNat) w mk) 5
def Mem.again(m:Mem)(k c:Int):Mem:=if m.has k/\0<=c/\c<4 then(m.mark k c (m.markOf k c (m.cardLen k c))).1 else m
theorem Mem.markOf_succ(m:Mem)(k c:Int)(n:Nat):m.markOf k c (n+1)=m.younger (m.seg k.toNat) (m.get (k*64+c*16+n)) (m.markOf k c n):=by
 unfold Mem.markOf Mem.row
 rw[List.range_succ,List.map_append,List.foldl_append];rfl
set_option maxRecDepth 100000 in
theorem pc{d:Value}{b:Blk}{s:Sp}{p1 p2 p3:Nat}{k c:Int}{R0:zV->Prop}(Inv:Nat->zV->Prop)(y:SpOK s)(hk:s.mem.has k)(L:0<=c/\c<4)(D:Inv 0 H)
  (r: ∀j A,Inv j A->SpAt A b s/\hat A ⟨b.c,0,none⟩=some (vp (some ⟨b.sp,0,none⟩))/\hat A ⟨p1,0,none⟩=some (vp (some ⟨b.c,0,none⟩))/\hat A ⟨p2,0,none⟩=some (vi k)/\hat A ⟨p3,0,none⟩=some (vi c))
  (f: ∀j,j<s.mem.cardLen k c-> ∀A,Inv j A->FC prog d #[vu (s.mem.get (k*64+c*16+j))] A (λv z=>v=VT/\Inv (j+1) z))
  (e: ∀A,Inv (s.mem.cardLen k c) A->R0 A):
  eQ.C d (some ⟨p1,0,none⟩) (some ⟨p2,0,none⟩) (some ⟨p3,0,none⟩) H (λv A=>v=.tuple #[]/\R0 A):=by
 refine HC.via λR u=>eQ.link ?_
 unfold eQ.pt zY
 have x:=y.mem.lim
 have N:=hk.1
 have O:=hk.2.1
 refine⟨λi A=> ∃j:Nat,i=j/\j<=s.mem.cardLen k c/\Inv j A,λi _=>(16-i).toNat,⟨0,rfl,Nat.zero_le _,D⟩,?_⟩
 rintro i A ⟨j,rfl,M,m⟩
 have w:s.mem.cardLen k c<=16:=by unfold Mem.cardLen;omega
 by_cases g:(j:Int)<16
 ·rw[if_pos g]
  obtain⟨l,F,G,I,J⟩:=r j A m
  refine⟨_,rfl,_,G,_,rfl,_,F,_,rfl,_,l.memPtr,_,rfl,_,I,_,rfl,_,J,?_⟩
  rw[w64 (n:=k*64) (by omega),w64 (n:=c*16) (by omega),w64 (n:=k*64+c*16) (by omega),w64 (n:=k*64+c*16+j) (by omega)]
  refine HC.mono (jX l.mem y.mem (by omega)) ?_
  rintro _ B ⟨rfl,rfl⟩
  have p:(k*64+c*16+j) / 64=k:=by omega
  have t:(k*64+c*16+(j:Int)) % 64=c*16+j:=by omega
  by_cases o:s.mem.used (k*64+c*16+j)
  ·rw[if_pos o]
   refine⟨_,_,rfl,?_⟩
   rw[if_pos rfl]
   have a:j<s.mem.cardLen k c:=by
    have E:=o.2.2
    rw[p,t]at E
    unfold Mem.cardLen;omega
   refine(f j a B m).mono ?_
   rintro v K ⟨rfl,q⟩
   refine⟨true,rfl,?_⟩
   rw[if_pos rfl,w64 (n:=(j:Int)+1) (by omega)]
   exact⟨⟨j+1,by omega,by omega,q⟩,by show(16-((j:Int)+1)).toNat< (16-(j:Int)).toNat;omega⟩
  ·rw[if_neg o]
   refine⟨_,_,rfl,?_⟩
   rw[if_neg (by decide)]
   have a:j=s.mem.cardLen k c:=by
    rcases Nat.lt_or_ge j (s.mem.cardLen k c)with h | h
    ·refine absurd ⟨by omega,by rw[p];exact hk,?_⟩ o
     rw[p,t]
     unfold Mem.cardLen at h;omega
    ·omega
   exact u _ _ ⟨rfl,e _ (a▸m)⟩
 ·rw[if_neg g]
  have a:j=s.mem.cardLen k c:=by omega
  exact u _ _ ⟨rfl,e _ (a▸m)⟩
theorem Mem.younger_rng(b:bJ d)(a:Seg)(w:Int)(h:0<=j/\j<=5):0<=d.younger a w j/\d.younger a w j<=5:=by
 have:=b.genOf w
 unfold Mem.younger
 split
 ·omega
 ·exact h
theorem Mem.markOf_rng(a:bJ d)(k c:Int): ∀n,0<=d.markOf k c n/\d.markOf k c n<=5
 | 0=>(by decide:(0:Int)<=5/\(5:Int)<=5)
 | n+1=>by rw[Mem.markOf_succ];exact Mem.younger_rng a _ _ (Mem.markOf_rng a k c n)
set_option maxRecDepth 100000 in
theorem nU{b:Blk}{s:Sp}{k c:Int}(h:CdAt H b s)(ok:SpOK s)(b8: ∀i,i∈[b.c,b.sp,b.m,b.s]->i<H.size):
  dW.C (some ⟨b.c,0,none⟩) k c H (λv H'=>(∃e:Int,v=vi e)/\CdAt H' b {s with mem:=s.mem.again k c}/\Fr [b.m,b.s] H H'):=by
 refine HC.via λR U=>dW.link ?_
 unfold dW.pt
 intro c1 H1 b1 K
 have e1:Ext H H1:=Ext.push' K
 have g1:=aH b1 K
 refine⟨_,by rw[aP g1];rfl,?_⟩
 have h1:=h.ext e1
 have z1:H1.size=H.size+1:=by rw[K];simp
 refine HC.mono (lM h1) ?_
 rintro _ H2 ⟨rfl,rfl⟩
 refine⟨_,rfl,?_⟩
 rw[if_neg (by decide)]
 refine⟨_,by rw[aP g1];rfl,_,rfl,_,h1.cPtr,_,rfl,_,h1.sp.memPtr,?_⟩
 refine HC.mono (gL h1.sp.mem) ?_
 rintro _ H3 ⟨rfl,W⟩
 refine⟨_,_,_,_,_,_,_,_,rfl,λc4 H4 aa L=>?_⟩
 obtain⟨b3,hs⟩:=jC (s.mem.segOr k) aa L
 refine⟨b3,λD a7=>?_⟩
 obtain⟨X,_,_,_,ae⟩:=hs D a7
 have bj:c4<D.size:=by
  have h4:H4.size=H3.size+1:=by rw[L];simp
  rw[a7,cH _ _ _ _ _ (aH aa L)];simp[h4];omega
 have n:=(e1.trans W).trans X
 have h5:=h.ext n
 have z3:=W.size
 by_cases hk:s.mem.has k
 case neg=>
  rw[if_neg (by simpa using hk)]
  have e:s.mem.again k c=s.mem:=by unfold Mem.again;rw[if_neg (λhh=>hk hh.1)]
  rw[e]at U
  exact U _ _ ⟨⟨_,rfl⟩,h5,n.fr⟩
 rw[if_pos (zX hk)]
 by_cases hc:0<=c/\c<4
 case neg=>
  rw[if_pos (by simp only[Bool.or_eq_true,decide_eq_true_eq];omega)]
  have e:s.mem.again k c=s.mem:=by unfold Mem.again;rw[if_neg (λhh=>hc hh.2)]
  rw[e]at U
  exact U _ _ ⟨⟨_,rfl⟩,h5,n.fr⟩
 rw[if_neg (by simp only[Bool.or_eq_true,decide_eq_true_eq];omega)]
 have bb:s.mem.segOr k=s.mem.seg k.toNat:=by unfold Mem.segOr;rw[if_pos hk]
 rw[bb]at ae
 intro E H6 b2 M
 have e6:Ext D H6:=Ext.push' M
 have g6:=aH b2 M
 obtain⟨ab,ba⟩:=jP (vs:=[vi 5]) g6 rfl rfl
 refine⟨ab,λT a8=>?_⟩
 obtain⟨g7,f7⟩:=ba T a8
 have z5:=X.size
 have e7:Ext D T:=e6.fr_trans f7 (λi g=>by simp at g;omega)
 have ay:T[c1]?=some (.cells #[vp (some ⟨b.c,0,none⟩)] 33 (0,0)):=e7.get (X.get (W.get g1))
 refine⟨_,by rw[aP ay];rfl,?_⟩
 refine fX.link ?_
 unfold fX.pt
 intro d1 W1 b4 O d2 W2 b5 P d3 l b6 Q
 have w1:Ext T W1:=Ext.push' O
 have w2:Ext W1 W2:=Ext.push' P
 have w3:Ext W2 l:=Ext.push' Q
 have y7:T.size=D.size+1:=by
  have:=f7.size
  have h6:H6.size=D.size+1:=by rw[M];simp
  rw[a8,cH _ _ _ _ _ g6];simp[h6]
 have y1:W1.size=T.size+1:=by rw[O];simp
 have y2:W2.size=W1.size+1:=by rw[P];simp
 have y3:l.size=W2.size+1:=by rw[Q];simp
 have az:l[d1]?=some (.cells #[vp (some ⟨b.c,0,none⟩)] 33 (0,0)):=w3.get (w2.get (aH b4 O))
 have aB:l[d2]?=some (.cells #[vi k] 3 (0,0)):=w3.get (aH b5 P)
 have aC:l[d3]?=some (.cells #[vi c] 3 (0,0)):=aH b6 Q
 have t:=(w1.trans w2).trans w3
 refine⟨rfl,?_⟩
 intro rc o p bI N vY hY
 have I:Ext l p:=(Ext.push' rfl).trans (Ext.push' N)
 have a4:p[l.size]?=some (.deferred (some [])):=by
  have:(l.push (.deferred (some [])))[l.size]?=some (.deferred (some [])):=aH rfl rfl
  exact(Ext.push' N).get this
 have aN:p[o]?=some (rc .ready none):=aH (by simp;omega) N
 have G:Ext D p:=(e7.trans t).trans I
 have h9:=h5.ext G
 have d: ∀i,i∈[b.c,b.sp,b.m,b.s]->i<H.size:=b8
 have bT:=n.size
 refine FE.of2 (enters_of func147 (by kernel_rfl) rfl) rfl (HC.mono (pc (b:=b) (s:=s) (p1:=d1) (p2:=d2) (p3:=d3) (k:=k) (c:=c)
  (λj A=>Fr [o,E] p A/\A[o]?=some (rc .ready none)/\A[E]?=some (.cells #[vi (s.mem.markOf k c j)] 3 (0,0))) ok hk hc
  ⟨Fr.refl _ _,aN,by rw[show s.mem.markOf k c 0=5 from rfl];exact I.get (t.get g7)⟩
  (λj A hI=>?_) (λj hj A hI=>?_) (R0:=λA=>Fr [o,E] p A/\A[o]?=some (rc .ready none)/\A[E]?=some (.cells #[vi (s.mem.markOf k c (s.mem.cardLen k c))] 3 (0,0))) (λA hI=>hI)) ?_)
 ·obtain⟨f,_,_⟩:=hI
  have r:=h9.keep f (by have:=d b.c (by simp);simp;omega) (by have:=d b.sp (by simp);simp;omega) (by have:=d b.m (by simp);simp;omega) (by have:=d b.s (by simp);simp;omega)
  refine⟨r.sp,r.cPtr,?_,?_,?_⟩
  ·rw[aP (f.get (by simp;omega) (I.get az))];rfl
  ·rw[aP (f.get (by simp;omega) (I.get aB))];rfl
  ·rw[aP (f.get (by simp;omega) (I.get aC))];rfl
 ·obtain⟨f,ql,qm⟩:=hI
  refine(hY _ A _ ql ⟨ql,λy u=>?_⟩)
  have Y:Fr [o] A y:=by rw[u];exact Fr.set
  have q:Fr [o,E] p y:=f.trans (Y.mono (λi g _=>by simp at g;simp[g]))
  have af:y[o]?=some (rc .busy none):=by rw[u];exact aY (aW ql)
  have x:=Y.get (by simp;omega) qm
  have r:=h9.keep q (by have:=d b.c (by simp);simp;omega) (by have:=d b.sp (by simp);simp;omega) (by have:=d b.m (by simp);simp;omega) (by have:=d b.s (by simp);simp;omega)
  have b9:=q.rowAt (a:=⟨c4,0,none⟩) (by show c4 ∉ [o,E];simp;omega) (G.rowAt ae)
  refine⟨_,by rw[aP (q.get (by simp;omega) ((e7.trans (t.trans I)).get (X.get (W.get g1))))];rfl,_,_,_,_,_,_,_,b9,_,by rw[aP x];rfl,?_⟩
  refine HC.mono (mK r ((ok.mem.seg _).words _)) ?_
  rintro _ bs ⟨rfl,F⟩
  refine⟨_,rfl,?_⟩
  obtain⟨ac,bc⟩:=jP (vs:=[vi (s.mem.younger (s.mem.seg k.toNat) (s.mem.get (k*64+c*16+j)) (s.mem.markOf k c j))]) (F.get x) rfl rfl
  refine⟨ac,λao a5=>?_⟩
  obtain⟨ax,Z⟩:=bc ao a5
  have w:=Z.get (by simp;omega) (F.get af)
  refine⟨w,rfl,?_,aY (aW w),?_⟩
  ·exact((q.trans F.fr).trans (Z.mono (λi g _=>by simp at g;simp[g]))).trans (Fr.set.mono (λi g _=>by simp at g;simp[g]))
  ·rw[Mem.markOf_succ,jm (by omega)];exact ax
 ·rintro _ ap ⟨rfl,aw,ag,ah⟩
  refine⟨ag,λz a6=>?_⟩
  have a0:Fr [o] ap z:=by rw[a6];exact Fr.set
  have q:Fr [o,E] p z:=aw.trans (a0.mono (λi g _=>by simp at g;simp[g]))
  have r:=h9.keep q (by have:=d b.c (by simp);simp;omega) (by have:=d b.sp (by simp);simp;omega) (by have:=d b.m (by simp);simp;omega) (by have:=d b.s (by simp);simp;omega)
  have ai:=a0.get (by simp;omega) ah
  refine⟨_,by rw[aP (q.get (by simp;omega) ((e7.trans (t.trans I)).get (X.get (W.get g1))))];rfl,_,rfl,_,r.cPtr,_,rfl,_,r.sp.memPtr,_,by rw[aP ai];rfl,?_⟩
  refine HC.mono (pG r.sp.mem) ?_
  rintro _ B ⟨rfl,bd,J⟩
  refine⟨_,rfl,?_⟩
  have e:s.mem.again k c=(s.mem.mark k c (s.mem.markOf k c (s.mem.cardLen k c))).1:=by unfold Mem.again;rw[if_pos ⟨hk,hc⟩]
  have V:=r.withMem (S:=[b.s]) J (λi g=>by simp at g;simp[g]) bd
  have a3:B[l.size]?=some (.deferred (some [])):=J.get (by have:=d b.s (by simp);simp;omega) (q.get (by simp;omega) a4)
  refine⟨a3,?_⟩
  have a1:Fr [l.size] B (B.setIfInBounds l.size (.deferred none)):=Fr.set
  rw[e]at U
  refine U _ _ ⟨⟨_,rfl⟩,V.keep a1 (by have:=d b.c (by simp);simp;omega) (by have:=d b.sp (by simp);simp;omega) (by have:=d b.m (by simp);simp;omega) (by have:=d b.s (by simp);simp;omega),?_⟩
  have av:Ext H p:=n.trans G
  have f1:Ext H z:=av.fr_trans q (λi g=>by simp at g;omega)
  refine(f1.fr.trans (J.mono (λi g _=>by simp at g;simp[g]))).trans' a1 (λi g _=>g) (λi g hl=>by simp at g;omega)
def Sp.gives(s:Sp)(old:Nat->Bool):Nat->Sp
 | 0=>s
 | n+1=>if old n then(s.gives old n).give n else s.gives old n
def Sp.agains(s:Sp)(l:List (Int×Int)):Sp:=l.foldl (λs c=>{s with mem:=s.mem.again c.1 c.2}) s
def Sp.ended(s:Sp)(t:Tr):Sp:=(s.gives t.old 1024).agains t.cards
theorem Sp.agains_snoc(s:Sp)(l:List (Int×Int))(c:Int×Int):s.agains (l++[c])={s.agains l with mem:=(s.agains l).mem.again c.1 c.2}:=by
 unfold Sp.agains;rw[List.foldl_append];rfl
theorem Sp.gives_ok(a:SpOK k)(old:Nat->Bool): ∀n,SpOK (k.gives old n)
 | 0=>a
 | n+1=>by
  unfold Sp.gives
  split
  ·exact Sp.give_ok (Sp.gives_ok a old n) _
  ·exact Sp.gives_ok a old n
theorem Mem.give_even(b:d.Even)(k:Int):(d.give k).Even:=by
 unfold Mem.give
 split
 ·intro i a
  rw[Mem.upd_seg]at a⊢
  split
  ·rfl
  ·rename_i h;rw[if_neg h]at a;exact b i a
 ·exact b
theorem Sp.give_even(a:k.mem.Even)(b:Int):(k.give b).mem.Even:=by
 unfold Sp.give
 split
 ·exact Mem.give_even a b
 ·exact a
theorem Sp.gives_even(a:k.mem.Even)(old:Nat->Bool): ∀n,(k.gives old n).mem.Even
 | 0=>a
 | n+1=>by
  unfold Sp.gives
  split
  ·exact Sp.give_even (Sp.gives_even a old n) _
  ·exact Sp.gives_even a old n
theorem Mem.again_seg(m:Mem)(k c:Int):(m.again k c).limit=m.limit/\(m.again k c).free=m.free/\(m.again k c).count=m.count/\ ∀i,((m.again k c).seg i).gen=(m.seg i).gen/\((m.again k c).seg i).kind=(m.seg i).kind/\((m.again k c).seg i).n=(m.seg i).n/\((m.again k c).seg i).taken=(m.seg i).taken/\((m.again k c).seg i).words=(m.seg i).words:=by
 unfold Mem.again
 split
 ·unfold Mem.mark
  split
  ·exact⟨rfl,rfl,rfl,λi=>⟨rfl,rfl,rfl,rfl,rfl⟩⟩
  split
  ·exact⟨rfl,rfl,rfl,λi=>⟨rfl,rfl,rfl,rfl,rfl⟩⟩
  ·refine⟨rfl,rfl,rfl,λi=>?_⟩
   rw[Mem.upd_seg]
   split
   ·rename_i h;rw[h];exact⟨rfl,rfl,rfl,rfl,rfl⟩
   ·exact⟨rfl,rfl,rfl,rfl,rfl⟩
 ·exact⟨rfl,rfl,rfl,λi=>⟨rfl,rfl,rfl,rfl,rfl⟩⟩
theorem Mem.again_has(m:Mem)(k c:Int):(m.again k c).has j ↔ m.has j:=by
 obtain⟨a,_,_,b⟩:=m.again_seg k c
 unfold Mem.has;rw[a,(b _).2.2.2.1]
theorem Mem.again_ok(a:bJ d)(k c:Int):bJ (d.again k c):=by
 unfold Mem.again
 split
 ·exact a.mark _ _ _
 ·exact a
theorem SpOK.again(a:SpOK k)(b c:Int):SpOK {k with mem:=k.mem.again b c}:=
 a.withMem (Mem.again_ok a.mem b c) (λi h=>(Mem.again_has _ _ _).2 h) (λi=>⟨((k.mem.again_seg b c).2.2.2 i).1,((k.mem.again_seg b c).2.2.2 i).2.1⟩)
theorem TrAt.putOver(h:TrAt H a i b):
  aK H ⟨i.t,1029,none⟩ 0 1/\Fr [i.t] H (aR H ⟨i.t,1029,none⟩ [vi 1] 0)/\TrAt (aR H ⟨i.t,1029,none⟩ [vi 1] 0) a i {b with over:=true}:=by
 obtain⟨s,e,z,d,t,u,C,c⟩:=h.put (o:=1029) (v:=vi 1) (by omega)
 obtain⟨w,x,y⟩:=h.rest e
 refine⟨s,e,?_⟩
 obtain⟨g,f,A,j,k,l,m,n,p,B⟩:=h.tr
 rw[t]at f;cases f
 exact⟨⟨d,u,by omega,by rw[c,if_neg (by omega)];exact j,by rw[c,if_neg (by omega)];exact k,λE r=>by rw[c,if_neg (by omega)];exact l E r,by rw[c,if_neg (by omega)];exact m,by rw[c,if_neg (by omega)];exact n,by rw[c,if_neg (by omega)];exact p,by rw[c,if_pos rfl];rfl⟩,w,x,y,λD q=>Nat.lt_of_lt_of_le (h.cB D q) e.size,h.clen,h.ne⟩
set_option maxRecDepth 100000 in
theorem vj{R:zv}(T:Tg H a q i b)
  (hR: ∀v B,HpAt B a {q with sp:=q.sp.ended b,ep:=IntKind.wrap .u64 (q.ep+1)}/\TrAt B a i {b with over:=true}/\Fr (a.h::i.t::spB a) H B->R v B):dQ.pt (some ⟨i.t,0,none⟩) H R:=by
 unfold dQ.pt zY
 refine HC.mono (lu T.toTc) ?_
 rintro _ H1 ⟨rfl,rfl⟩
 refine⟨_,rfl,?_⟩
 rw[if_neg (by rw[T.on];decide)]
 have w:aQ H1 ⟨i.t,2,none⟩ 0 ((List.range 1024).map λk=> vi (if b.old k then 1 else 0)):=by
  obtain⟨cs,h1,_,_,_,h5,_⟩:=T.tr.tr
  refine dV h1 _ 2 0 (λj c=>?_)
  simp only[List.length_map,List.length_range]at c
  rw[Nat.add_zero,h5 j c,List.getElem?_map,List.getElem?_range c];rfl
 refine⟨_,rfl,(List.range 1024).map (λk=> vi (if b.old k then 1 else 0)),by rw[List.length_map,List.length_range],by rw[addr_add_mk];exact w,?_⟩
 refine⟨λax A=>(0<=ax/\ax<=1024)/\Tc A a {q with sp:=q.sp.gives b.old ax.toNat} i b/\Fr (spB a) H1 A,λax _=>(1024-ax).toNat,⟨by omega,T.toTc,Fr.refl _ _⟩,?_⟩
 rintro ax H2 ⟨hi,d,G⟩
 by_cases m:ax<1024
 ·rw[if_pos m]
  have S:ax.toNat<1024:=by omega
  have C:(1024-(ax+1)).toNat< (1024-ax).toNat:=by omega
  have hw:IntKind.wrap .i64 (ax+1)=ax+1:=w64 (by omega)
  have z:(ax+1).toNat=ax.toNat+1:=by omega
  refine⟨(if b.old ax.toNat then 1 else 0),⟨⟨hi.1,m⟩,?_⟩,?_⟩
  ·rw[List.getElem?_toArray,List.getElem?_map,List.getElem?_range S];rfl
  by_cases D:b.old ax.toNat=true
  ·rw[if_pos (by rw[if_pos D])]
   obtain⟨W,X,p3,p4⟩:=d.s1
   refine⟨_,W,_,rfl,_,X,_,rfl,_,p3,?_⟩
   refine HC.mono (ru d.hp.cd.sp d.ok (by omega)) ?_
   rintro _ H3 ⟨⟨e,rfl⟩,Y,I⟩
   rw[hw]
   refine⟨_,rfl,⟨by omega,?_,G.trans I⟩,C⟩
   have F:q.sp.gives b.old (ax+1).toNat=(q.sp.gives b.old ax.toNat).give ax:=by rw[z];show(if _ then _ else _)=_;rw[if_pos D,show((ax.toNat:Nat):Int)=ax by omega]
   rw[F]
   exact d.step I (λj c=>kV c) (d.hp.withSp I (λj c=>by simp at c;omega) Y) (Sp.give_ok d.ok ax)
  ·rw[if_neg (by rw[if_neg D];decide),hw]
   refine⟨⟨by omega,?_,G⟩,C⟩
   have F:q.sp.gives b.old (ax+1).toNat=q.sp.gives b.old ax.toNat:=by rw[z];show(if _ then _ else _)=_;rw[if_neg D]
   rw[F];exact d
 rw[if_neg m]
 have t:ax.toNat=1024:=by omega
 rw[t]at d
 have a9:=Sp.gives_even T.even b.old 1024
 refine⟨_,_,_,by rw[addr_add_mk];exact d.tr.cAt,?_⟩
 obtain⟨af,ag⟩:=T.tr.clen
 refine⟨λax A=>(0<=ax/\ax<=i.cN)/\Tc A a {q with sp:=(q.sp.gives b.old 1024).agains (b.cards.take ax.toNat)} i b/\Fr (spB a) H1 A,λax _=>(i.cN-ax).toNat,⟨by omega,d,G⟩,?_⟩
 rintro ax H4 ⟨Q,o,f4⟩
 by_cases l:ax< (i.cN:Int)
 ·rw[if_pos l]
  have u:ax.toNat<b.cards.length:=by omega
  obtain⟨ca,N,y⟩:=pR o.tr.cards u
  have C:((i.cN:Int)-(ax+1)).toNat< ((i.cN:Int)-ax).toNat:=by omega
  generalize O:b.cards[ax.toNat]=g at*
  refine⟨ca,N,⟨Q.1,l⟩,g.1,g.2,y,λc5 H5 M r=>?_⟩
  obtain⟨P,hs⟩:=boxed (vs:=[vi g.1,vi g.2]) (H1:=H5) (aH M r) rfl rfl
  refine⟨P,λH6 L=>?_⟩
  obtain⟨x,K⟩:=hs H6 L
  have p:Ext H4 H6:=K H4 (Ext.push' r) (by omega)
  have f:=o.ext p
  obtain⟨W,X,p3,p4⟩:=f.s1
  refine⟨_,W,_,rfl,_,X,_,x.1,_,by rw[addr_add_mk];exact x.2.1,?_⟩
  refine HC.mono (nU f.hp.cd f.ok (λj c=>f.hp.lt j (by simp at c;simp[Blk.all];omega))) ?_
  rintro _ H7 ⟨⟨e,rfl⟩,E,J⟩
  rw[w64 (n:=ax+1) (by omega)]
  refine⟨_,rfl,⟨by omega,?_,f4.trans (p.fr.trans (J.mono (λj c _=>by simp at c;simp[spB];omega)))⟩,C⟩
  have et:b.cards.take (ax+1).toNat=b.cards.take ax.toNat++[g]:=by
   rw[show(ax+1).toNat=ax.toNat+1 by omega,List.take_succ_eq_append_getElem u,O]
  rw[et,Sp.agains_snoc]
  exact f.step J (λj c=>by simp at c;simp[Blk.all];omega) (f.hp.withCd J (λj c=>by simp at c;omega) E) (f.ok.again g.1 g.2)
 rw[if_neg l]
 rw[List.take_of_length_le (by omega)]at o
 refine⟨_,o.tr.hPtr,?_⟩
 refine HC.mono (tq o.view) ?_
 rintro _ H8 ⟨V8,f8⟩
 have U: ∀j∈hown (some (a,q)),j ∉ i.all:=λj c hq=>T.apart j hq (by simp[hown]at c;simp[Blk.all,c])
 have Z:=o.tr.keep f8 (λj c=>U j c)
 obtain⟨_,V,ak⟩:=View.inv V8
 have hput:=Z.putOver
 rw[addr_add_mk]
 refine⟨hput.1,λH9 s=>?_⟩
 rw[show(0:Nat)+1029=1029 from rfl]at s
 subst s
 refine hR _ _ ⟨V.keep hput.2.1 (λj c hb=>T.apart i.t (by simp[TB.all]) (by simp at c;rw[<-c];exact hb)),hput.2.2,?_⟩
 refine((f4.mono (λj c _=>by simp[c])).trans (f8.mono (λj c _=>by simp[hown]at c;simp[c]))).trans (hput.2.1.mono (λj c _=>by simp at c;simp[c]))
theorem vk(T:Tg H a q i b):
  dQ.CD (some ⟨i.t,0,none⟩) H (λc=>HpAt c a {q with sp:=q.sp.ended b,ep:=IntKind.wrap .u64 (q.ep+1)}/\TrAt c a i {b with over:=true}/\Fr (a.h::i.t::spB a) H c):=
 HD.mono (dQ.linkD (vj (R:=λ_ c=>HpAt c a {q with sp:=q.sp.ended b,ep:=IntKind.wrap .u64 (q.ep+1)}/\TrAt c a i {b with over:=true}/\Fr (a.h::i.t::spB a) H c) T (λ_ _ h=>h))) (λ_ ⟨_,h⟩=>h)
def iH(lo hi:Int):Nat:=((hi-lo+1) / 2).toNat
def jV(k lo:Int)(n:Nat):List Int:=(List.range n).map λj:Nat=>k*64+(lo+2*(j:Int))
theorem rv(k a:Int)(n:Nat):jV k a (n+1)=jV k a n++[k*64+(a+2*(n:Int))]:=by
 unfold jV;rw[List.range_succ,List.map_append];rfl
theorem lO(k a:Int)(n:Nat):(jV k a n).length=n:=by simp[jV]
def Mem.weakSeg(m:Mem)(t:Tr)(k:Nat):List Int:=if(m.seg k).kind=1/\t.old k=false then jV k (seenAt t.frm k) (iH (seenAt t.frm k) (m.seg k).n)else[]
def Mem.weakCard(m:Mem)(c:Int×Int):List Int:=if(m.segOr c.1).kind=1 then jV c.1 (c.2*16) (iH (c.2*16) (min (m.segOr c.1).n ((c.2+1)*16)))else[]
def Mem.weaks(m:Mem)(t:Tr)(l:List Nat):List Int:=l.flatMap (m.weakSeg t)++t.cards.flatMap m.weakCard
set_option maxRecDepth 100000 in
theorem oP{H:zV}{a:Int}{c n y:Nat}{B:zW}{ws:List Int}(hk:0<=j/\j<1024)(W:0<=o/\o<=64)(hh:a<=64)(O:H[c]?=some (.cells #[vs B n y] 59 (0,0)))(J:Own H 3 1 B n y (ivs ws))(F:c ∉ blks B)(hn:n<=1000000)(X:n=ws.length):
  bU.C j o a (some ⟨c,0,none⟩) H (λ_ x=> ∃(d:zW) (b:Nat),x[c]?=some (.cells #[vs d (n+iH o a) b] 59 (0,0))/\Own x 3 1 d (n+iH o a) b (ivs (ws++jV j o (iH o a)))/\Fr (c::blks B) H x/\(∀a4∈blks d,a4∈blks B\/H.size<=a4)):=by
 refine HC.via λR U=>bU.link ?_
 unfold bU.pt zY
 have wl:iH o a<=33:=by unfold iH;omega
 have V:=aW O
 refine⟨λi A=> ∃(a4:Nat) (d:zW) (b:Nat),i=o+2*(a4:Int)/\a4<=iH o a/\A[c]?=some (.cells #[vs d (n+a4) b] 59 (0,0))/\Own A 3 1 d (n+a4) b (ivs (ws++jV j o a4))/\Fr (c::blks B) H A/\(∀a4∈blks d,a4∈blks B\/H.size<=a4),λi _=>(100-i).toNat,
  ⟨0,B,y,by omega,by omega,O,by simpa[jV]using J,Fr.refl _ _,λa4 w=> .inl w⟩,?_⟩
 rintro i A ⟨a4,d,b,rfl,w,m,k,v,e⟩
 by_cases s:o+2*(a4:Int)<a
 ·rw[if_pos s]
  have p:a4+1<=iH o a:=by unfold iH;omega
  refine⟨_,rfl,_,_,_,by rw[aP m];rfl,?_⟩
  rw[w64 (n:=j*64) (by omega),w64 (n:=j*64+(o+2*(a4:Int))) (by omega),w64 (n:=o+2*(a4:Int)+2) (by omega)]
  intro c2 Q D r
  have u:Ext A Q:=Ext.push' r
  refine dD (ys:=[vi (j*64+(o+2*(a4:Int)))]) (k.ext u) (dV (aH D r) _ 0 0 (λa4 w=>by
   simp only[List.length_cons,List.length_nil]at w
   obtain rfl:a4=0:=by omega
   rfl)) rfl rfl rfl (by omega) ?_
  intro K L Z t M I
  have f:c ∉ blks d:=λh=>by
   rcases e c h with q | q
   ·exact F q
   ·omega
  have E:=M.get f (u.get m)
  obtain⟨G,Y⟩:=jP (vs:=[vs K (n+a4+1) L]) E rfl rfl
  refine⟨G,λS z=>?_⟩
  obtain⟨T,N⟩:=Y S z
  have l: ∀i∈blks K,i∈blks d\/A.size<=i:=λi a=>by
   rcases I i a with q | q
   ·exact .inl q
   ·have:=u.size;exact .inr (by omega)
  have P:c<A.size:=by have:=v.size;omega
  have g:=t.keep N (λi a hm=>by
   simp at hm
   rcases l i a with q | q
   ·exact f (hm▸q)
   ·omega)
  have zA:=v.size
  refine⟨⟨a4+1,K,L,by omega,p,T,?_,?_,λi a=>?_⟩,by show(100-(o+2*(a4:Int)+2)).toNat< (100-(o+2*(a4:Int))).toNat;omega⟩
  ·rw[rv,<-List.append_assoc]
   unfold ivs at g⊢
   rw[List.map_append];exact g
  ·refine((v.trans u.fr).trans' M (λi a _=>a) (λi a W=>?_)).trans (N.mono (λi a _=>by simp at a;simp[a]))
   rcases e i a with q | q
   ·exact List.mem_cons_of_mem _ q
   ·omega
  ·rcases l i a with q | q
   ·exact e i q
   ·exact .inr (by omega)
 ·rw[if_neg s]
  have p:a4=iH o a:=by unfold iH at*;omega
  subst p
  exact U _ _ ⟨d,b,m,k,v,e⟩
theorem Mem.weakSeg_len(c:bJ d)(a:jT b.frm)(k:Nat):(d.weakSeg b k).length<=33:=by
 unfold Mem.weakSeg
 split
 ·rw[lO]
  obtain⟨_,e,f⟩:=lw a (k:Int)
  have:=(c.seg k).n
  unfold iH;omega
 ·exact Nat.zero_le _
theorem Mem.weakCard_len(a:bJ d){c:Int×Int}(b:0<=c.2):(d.weakCard c).length<=33:=by
 unfold Mem.weakCard
 split
 ·rw[lO]
  have:=(pS a c.1).n
  unfold iH;omega
 ·exact Nat.zero_le _
theorem mh{α β:Type}{f:α->List β}{n:Nat}: ∀l:List α,(∀a∈l,(f a).length<=n)->(l.flatMap f).length<=n*l.length
 | [],_=>by simp
 | a::l,h=>by
  have d:=h a (by simp)
  have e:=mh l (λb c=>h b (by simp[c]))
  rw[List.flatMap_cons,List.length_append,List.length_cons,Nat.mul_succ];omega
set_option maxRecDepth 100000 in
theorem tC{H:zV}(T:Tg H a q i b)(hf:jT b.frm)(b4:nT b.cards):
  eL.C (some ⟨i.t,0,none⟩) H (λv H'=> ∃(l:List Nat) (B:zW) (n c:Nat),dK q.sp.mem [b.tgt] l/\v=vs B n c/\n=(q.sp.mem.weaks b l).length/\Own H' 3 1 B n c (ivs (q.sp.mem.weaks b l))/\(∀j∈blks B,H.size<=j)/\n<=300000/\Ext H H'):=by
 refine HC.via λR hR=>eL.link ?_
 unfold eL.pt zY
 refine HC.mono (lu T.toTc) ?_
 rintro _ H1 ⟨rfl,rfl⟩
 refine⟨_,rfl,?_⟩
 rw[if_neg (by rw[T.on];decide)]
 intro D M bE a8
 have e2:Ext H1 M:=Ext.push' a8
 have g2:=aH bE a8
 have z2:M.size=H1.size+1:=by rw[a8];simp
 have T2:=T.grow e2
 obtain⟨p1,p2,p3,p4⟩:=T2.s1
 refine⟨_,rfl,_,p1,_,rfl,_,p2,_,rfl,_,p3,_,rfl,_,p4,_,by rw[addr_add_mk];exact T2.tr.tgtAt,?_⟩
 intro c3 H3 bG a9
 have e3:Ext M H3:=Ext.push' a9
 have g3:=aH bG a9
 have z3:H3.size=M.size+1:=by rw[a9];simp
 have T3:=T2.grow e3
 refine⟨row1 (e3.hat p1),row1 (e3.hat p2),row1 (e3.hat p3),row1 (e3.hat p4),?_⟩
 refine HC.mono (jI (gs:=[b.tgt]) T3.hp.cd.sp.mem T3.ok.mem (show fB H3 (some ⟨c3,0,none⟩) (ivs [b.tgt])from row1 (by rw[aP g3];rfl)) rfl (by decide)) ?_
 rintro _ H4 ⟨wB,wC,l,rfl,hl,Z,bY,e4⟩
 refine⟨_,_,_,rfl,?_⟩
 have c9:=hl.len
 have cp:=T.ok.mem.lim
 have br:=(e2.trans e3).trans e4
 have z4:=e4.size
 have J:=T.ok.mem
 refine⟨λdi A=>(0<=di/\di<=l.length)/\ ∃(B:zW) (c:Nat),A[D]?=some (.cells #[.slice B ((l.take di.toNat).flatMap (q.sp.mem.weakSeg b)).length c] 59 (0,0))/\Own A 3 1 B ((l.take di.toNat).flatMap (q.sp.mem.weakSeg b)).length c (ivs ((l.take di.toNat).flatMap (q.sp.mem.weakSeg b)))/\Ext H1 A/\Own A 3 1 wB l.length wC (ivs (l.map λdi:Nat=>(di:Int)))/\(∀j∈blks B,M.size<=j/\j ∉ blks wB)/\H4.size<=A.size,λdi _=>(l.length-di).toNat,
  ⟨⟨by omega,by omega⟩,none,0,(e3.trans e4).get g2,iY,br,Z,by simp,Nat.le_refl _⟩,?_⟩
 rintro di H5 ⟨hi,B,cB,gB,y,e5,x,hB,z5⟩
 have G: ∀j∈blks wB,H3.size<=j/\j<H4.size:=λj t=>⟨bY j t,Z.lt j t⟩
 by_cases ae:di< (l.length:Int)
 ·rw[if_pos ae]
  have w:di.toNat<l.length:=by omega
  obtain⟨dh,ha,b0⟩:=mL x w
  obtain⟨bb,cq,cr,_⟩:=hl.has (List.getElem_mem w)
  have ag:l.take (di+1).toNat=l.take di.toNat++[l[di.toNat]]:=by rw[show(di+1).toNat=di.toNat+1 by omega,List.take_succ_eq_append_getElem w]
  have co:=mh (f:=q.sp.mem.weakSeg b) (n:=33) (l.take di.toNat) (λk _=>Mem.weakSeg_len J hf k)
  have c6:(l.take di.toNat).length<=1024:=by rw[List.length_take];omega
  generalize hk:l[di.toNat]=k at*
  have hd:((l.length:Int)-(di+1)).toNat< ((l.length:Int)-di).toNat:=by omega
  have hw:IntKind.wrap .i64 (di+1)=di+1:=w64 (by omega)
  have s:(l.take (di+1).toNat).flatMap (q.sp.mem.weakSeg b)=(l.take di.toNat).flatMap (q.sp.mem.weakSeg b)++q.sp.mem.weakSeg b k:=by rw[ag,List.flatMap_append];simp
  have T5:=T.grow e5
  obtain⟨p1,p2,p3,p4⟩:=T5.s1
  refine⟨dh,ha,⟨hi.1,ae⟩,_,b0,_,p1,_,rfl,_,p2,_,rfl,_,p3,_,rfl,_,p4,?_⟩
  refine HC.mono (gL T5.hp.cd.sp.mem) ?_
  rintro _ H6 ⟨rfl,e6⟩
  have cg:q.sp.mem.segOr k=q.sp.mem.seg k:=by unfold Mem.segOr;rw[if_pos bb,show((k:Nat):Int).toNat=k by omega]
  rw[cg]
  refine⟨_,_,_,_,_,_,_,_,rfl,λda H7 bH bB=>?_⟩
  obtain⟨aa,hs⟩:=jC (q.sp.mem.seg k) bH bB
  refine⟨aa,λH8 bC=>?_⟩
  obtain⟨e8,_,g1,gn,_⟩:=hs H8 bC
  have m:=e6.trans e8
  have T8:=T5.grow m
  have z8:=m.size
  rw[hw]
  have skip:q.sp.mem.weakSeg b k=[]->(((0<=di+1/\di+1<=l.length)/\ ∃(B:zW) (c:Nat),H8[D]?=some (.cells #[.slice B ((l.take (di+1).toNat).flatMap (q.sp.mem.weakSeg b)).length c] 59 (0,0))/\Own H8 3 1 B ((l.take (di+1).toNat).flatMap (q.sp.mem.weakSeg b)).length c (ivs ((l.take (di+1).toNat).flatMap (q.sp.mem.weakSeg b)))/\Ext H1 H8/\Own H8 3 1 wB l.length wC (ivs (l.map λdi:Nat=>(di:Int)))/\(∀j∈blks B,M.size<=j/\j ∉ blks wB)/\H4.size<=H8.size)/\((l.length:Int)-(di+1)).toNat< ((l.length:Int)-di).toNat):=λhz=>by
   rw[s,hz,List.append_nil]
   exact⟨⟨by omega,B,cB,m.get gB,y.ext m,e5.trans m,x.ext m,hB,by omega⟩,hd⟩
  refine⟨_,by rw[addr_add_mk];exact g1,?_⟩
  by_cases e:(q.sp.mem.seg k).kind=1
  case neg=>rw[if_neg e];exact skip (by unfold Mem.weakSeg;rw[if_neg (λh=>e h.1)])
  rw[if_pos e]
  refine⟨⟨by omega,by omega⟩,(if b.old k then 1 else 0),by rw[show((k:Nat):Int).toNat=k by omega,addr_add_mk,addr_add_mk,Nat.zero_add,Nat.mul_one];exact T8.tr.oldAt (by omega),?_⟩
  by_cases ho:b.old k=true
  ·rw[if_neg (by rw[if_pos ho];decide)];exact skip (by unfold Mem.weakSeg;rw[if_neg (λh=>by rw[ho]at h;cases h.2)])
  rw[if_pos (by rw[if_neg ho])]
  have cc:b.old k=false:=by simpa using ho
  obtain⟨es,cl,bT,bP⟩:=T8.tr.frm
  obtain⟨b5,ce,ba⟩:=lw hf (k:Int)
  have b6:=(J.seg k).n
  refine⟨_,by rw[addr_add_mk];exact T8.tr.fAt,_,by rw[addr_add_mk];exact gn,_,rfl,es,cl,_,bT,bP,_,b5,by rw[addr_add_mk];exact row1 gn,?_⟩
  have a5:D ∉ blks B:=λh=>by have:=hB D h;omega
  refine HC.mono (oP (H:=H8) (c:=D) (ws:=(l.take di.toNat).flatMap (q.sp.mem.weakSeg b)) (by omega) ⟨ce,ba⟩ b6.2 (m.get gB) (y.ext m) a5 (by omega) rfl) ?_
  rintro _ H9 ⟨K,U,g9,b7,f9,a7⟩
  have I:q.sp.mem.weakSeg b k=jV k (seenAt b.frm k) (iH (seenAt b.frm k) (q.sp.mem.seg k).n):=by unfold Mem.weakSeg;rw[if_pos ⟨e,cc⟩]
  have g:((l.take (di+1).toNat).flatMap (q.sp.mem.weakSeg b)).length=((l.take di.toNat).flatMap (q.sp.mem.weakSeg b)).length+iH (seenAt b.frm k) (q.sp.mem.seg k).n:=by rw[s,List.length_append,I,lO]
  refine⟨⟨by omega,K,U,by rw[g];exact g9,by rw[g,s,I];exact b7,(e5.trans m).fr_trans f9 (λj t=>?_),(x.ext m).keep f9 (λj t hm=>?_),λj t=>?_,by have:=f9.size;omega⟩,hd⟩
  ·rcases List.mem_cons.1 t with h | h
   ·omega
   ·have:=hB j h;omega
  ·rcases List.mem_cons.1 hm with h | h
   ·have:=G j t;omega
   ·exact(hB j h).2 t
  ·rcases a7 j t with h | h
   ·exact hB j h
   ·exact⟨by omega,λhm=>by have:=G j hm;omega⟩
 rw[if_neg ae]
 rw[List.take_of_length_le (by omega)]at gB y
 have c7:=mh (f:=q.sp.mem.weakSeg b) (n:=33) l (λk _=>Mem.weakSeg_len J hf k)
 have T5:=T.grow e5
 obtain⟨cY,cZ⟩:=T.tr.clen
 refine⟨_,_,_,by rw[addr_add_mk];exact T5.tr.cAt,?_⟩
 generalize hW:l.flatMap (q.sp.mem.weakSeg b)=W at*
 refine⟨λdi A=>(0<=di/\di<=i.cN)/\ ∃(B:zW) (c:Nat),A[D]?=some (.cells #[.slice B (W++(b.cards.take di.toNat).flatMap q.sp.mem.weakCard).length c] 59 (0,0))/\Own A 3 1 B (W++(b.cards.take di.toNat).flatMap q.sp.mem.weakCard).length c (ivs (W++(b.cards.take di.toNat).flatMap q.sp.mem.weakCard))/\Ext H1 A/\(∀j∈blks B,M.size<=j)/\H4.size<=A.size,λdi _=>(i.cN-di).toNat,
  ⟨⟨by omega,by omega⟩,B,cB,by simpa using gB,by simpa using y,e5,λj t=>(hB j t).1,z5⟩,?_⟩
 rintro di an ⟨bZ,B2,av,P,p,N,E,d3⟩
 have ao:=T.grow N
 have ac:=mh (f:=q.sp.mem.weakCard) (n:=33) (b.cards.take di.toNat) (λc hc=>Mem.weakCard_len J (b4 c (List.mem_of_mem_take hc)).2.1)
 have c8:(b.cards.take di.toNat).length<=4096:=by rw[List.length_take];omega
 by_cases F:di< (i.cN:Int)
 case neg=>
  rw[if_neg F]
  rw[List.take_of_length_le (by omega)]at P p ac
  refine⟨_,_,_,by rw[aP P];rfl,hR _ _ ⟨l,B2,_,av,hl,rfl,?_,?_,λj t=>by have:=E j t;omega,?_,N⟩⟩
  ·unfold Mem.weaks;rw[hW]
  ·unfold Mem.weaks;rw[hW];exact p
  ·rw[List.length_append];omega
 rw[if_pos F]
 have w:di.toNat<b.cards.length:=by omega
 obtain⟨ca,bM,b8⟩:=pR ao.tr.cards w
 have bN:=b4 _ (List.getElem_mem w)
 have ag:b.cards.take (di+1).toNat=b.cards.take di.toNat++[b.cards[di.toNat]]:=by rw[show(di+1).toNat=di.toNat+1 by omega,List.take_succ_eq_append_getElem w]
 generalize cU:b.cards[di.toNat]=d at*
 have hd:((i.cN:Int)-(di+1)).toNat< ((i.cN:Int)-di).toNat:=by omega
 have hw:IntKind.wrap .i64 (di+1)=di+1:=w64 (by omega)
 have s:W++(b.cards.take (di+1).toNat).flatMap q.sp.mem.weakCard=(W++(b.cards.take di.toNat).flatMap q.sp.mem.weakCard)++q.sp.mem.weakCard d:=by rw[ag,List.flatMap_append,List.append_assoc];simp
 refine⟨ca,bM,⟨bZ.1,F⟩,d.1,d.2,b8,λau bk b1 V=>?_⟩
 obtain⟨aa,hs⟩:=boxed (vs:=[vi d.1,vi d.2]) (H1:=bk) (aH b1 V) rfl rfl
 refine⟨aa,λo aC=>?_⟩
 obtain⟨a0,az⟩:=hs o aC
 have z:Ext an o:=az an (Ext.push' V) (by omega)
 have a4:=ao.grow z
 obtain⟨p1,p2,p3,p4⟩:=a4.s1
 have Q:hat o ⟨au,0,none⟩=some (vi d.1):=a0.1
 have S:hat o ⟨au,1,none⟩=some (vi d.2):=a0.2.1
 refine⟨_,p1,_,rfl,_,p2,_,rfl,_,p3,_,rfl,_,p4,_,Q,?_⟩
 have bc:=pS J d.1
 have Y: ∀(A:zV) (K:zW) (U:Nat),A[D]?=some (.cells #[.slice K (W++(b.cards.take (di+1).toNat).flatMap q.sp.mem.weakCard).length U] 59 (0,0))->Own A 3 1 K (W++(b.cards.take (di+1).toNat).flatMap q.sp.mem.weakCard).length U (ivs (W++(b.cards.take (di+1).toNat).flatMap q.sp.mem.weakCard))->Ext H1 A->(∀j∈blks K,M.size<=j)->H4.size<=A.size->
   ((0<=IntKind.wrap .i64 (di+1)/\IntKind.wrap .i64 (di+1)<=i.cN)/\ ∃(B:zW) (c:Nat),A[D]?=some (.cells #[.slice B (W++(b.cards.take (IntKind.wrap .i64 (di+1)).toNat).flatMap q.sp.mem.weakCard).length c] 59 (0,0))/\Own A 3 1 B (W++(b.cards.take (IntKind.wrap .i64 (di+1)).toNat).flatMap q.sp.mem.weakCard).length c (ivs (W++(b.cards.take (IntKind.wrap .i64 (di+1)).toNat).flatMap q.sp.mem.weakCard))/\Ext H1 A/\(∀j∈blks B,M.size<=j)/\H4.size<=A.size)/\((i.cN:Int)-IntKind.wrap .i64 (di+1)).toNat< ((i.cN:Int)-di).toNat:=λA K U h1 h2 h3 h4 h5=>by
  rw[hw];exact⟨⟨by omega,K,U,h1,h2,h3,h4,h5⟩,hd⟩
 have skip: ∀(A:zV),Ext o A-> ¬(q.sp.mem.segOr d.1).kind=1->_:=λA r hk=>Y A B2 av (by rw[s,show q.sp.mem.weakCard d=[]by unfold Mem.weakCard;rw[if_neg hk],List.append_nil];exact(z.trans r).get P) (by rw[s,show q.sp.mem.weakCard d=[]by unfold Mem.weakCard;rw[if_neg hk],List.append_nil];exact p.ext (z.trans r)) (N.trans (z.trans r)) E (by have:=(z.trans r).size;omega)
 have go: ∀(A:zV),Ext o A->(q.sp.mem.segOr d.1).kind=1->bU.C d.1 (IntKind.wrap .i64 (d.2*16)) (if(IntKind.wrap .i64 ((IntKind.wrap .i64 (d.2+1))*16))< (q.sp.mem.segOr d.1).n then(IntKind.wrap .i64 ((IntKind.wrap .i64 (d.2+1))*16))else(q.sp.mem.segOr d.1).n) (some (Addr.mk D 0 none)) A (λ_ A'=>_):=λA r hk=>by
  have d2:=bc.n
  rw[w64 (n:=d.2*16) (by omega),w64 (n:=d.2+1) (by omega),w64 (n:=(d.2+1)*16) (by omega),vf]
  have a5:D ∉ blks B2:=λh=>by have:=E D h;omega
  have O:=z.trans r
  refine HC.mono (oP (H:=A) (c:=D) (ws:=W++(b.cards.take di.toNat).flatMap q.sp.mem.weakCard) bN.1 (by omega) (by omega) (O.get P) (p.ext O) a5 (by rw[List.length_append];omega) rfl) ?_
  rintro _ bl ⟨K,U,bA,af,ay,a7⟩
  have I:q.sp.mem.weakCard d=jV d.1 (d.2*16) (iH (d.2*16) (min (q.sp.mem.segOr d.1).n ((d.2+1)*16))):=by unfold Mem.weakCard;rw[if_pos hk]
  have g:(W++(b.cards.take (di+1).toNat).flatMap q.sp.mem.weakCard).length=(W++(b.cards.take di.toNat).flatMap q.sp.mem.weakCard).length+iH (d.2*16) (min (q.sp.mem.segOr d.1).n ((d.2+1)*16)):=by rw[s,List.length_append,I,lO]
  have zA:=O.size
  refine Y bl K U (by rw[g];exact bA) (by rw[g,s,I];exact af) ((N.trans O).fr_trans ay (λj t=>?_)) (λj t=>?_) (by have:=ay.size;omega)
  ·rcases List.mem_cons.1 t with h | h
   ·omega
   ·have:=E j h;omega
  ·rcases a7 j t with h | h
   ·exact E j h
   ·omega
 constructor
 ·refine HC.mono (gL a4.hp.cd.sp.mem) ?_
  rintro _ ct ⟨rfl,bq⟩
  refine⟨_,_,_,_,_,_,_,_,rfl,λcv cu b2 aN=>?_⟩
  obtain⟨ab,b9⟩:=jC (q.sp.mem.segOr d.1) b2 aN
  refine⟨ab,λa2 aT=>?_⟩
  obtain⟨bs,_,g1,gn,_⟩:=b9 a2 aT
  have r:=bq.trans bs
  refine⟨_,by rw[addr_add_mk];exact g1,?_⟩
  by_cases e:(q.sp.mem.segOr d.1).kind=1
  ·rw[if_pos e]
   exact⟨_,r.hat Q,_,by rw[addr_add_mk];exact r.hat S,_,by rw[addr_add_mk];exact gn,_,by rw[addr_add_mk];exact r.hat S,go a2 r e⟩
  ·rw[if_neg e];exact skip a2 r e
 ·intro cw bm b3 X
  have u:Ext o bm:=Ext.push' X
  refine⟨row1 (u.hat p1),row1 (u.hat p2),row1 (u.hat p3),row1 (u.hat p4),row1 (u.hat Q),?_⟩
  refine HC.mono (gL (a4.grow u).hp.cd.sp.mem) ?_
  rintro _ bn ⟨rfl,aw⟩
  obtain⟨bI,cf⟩:=boxed (vs:=[vi (q.sp.mem.segOr d.1).gen,vi (q.sp.mem.segOr d.1).kind,vi (q.sp.mem.segOr d.1).n,vi ((q.sp.mem.segOr d.1).cards 0),vi ((q.sp.mem.segOr d.1).cards 1),vi ((q.sp.mem.segOr d.1).cards 2),vi ((q.sp.mem.segOr d.1).cards 3)]) (H1:=bn) (aw.get (aH b3 X)) rfl rfl
  refine⟨_,_,_,_,_,_,_,_,rfl,bI,λL aZ=>?_⟩
  obtain⟨a1,aB⟩:=cf L aZ
  have r:Ext o L:=aB o (u.trans aw) (by omega)
  refine⟨_,a1.2.1,?_⟩
  by_cases e:(q.sp.mem.segOr d.1).kind=1
  ·rw[if_pos e]
   exact⟨_,r.hat Q,_,by rw[addr_add_mk];exact r.hat S,_,a1.2.2.1,_,by rw[addr_add_mk];exact r.hat S,go L r e⟩
  ·rw[if_neg e];exact skip L r e
end Go.Proofs.YtojbbgcjiaphjaaGreat
namespace Go.Proofs.YtojbbgcjiaphjaaGreat
open Go
variable{a k:Int}{b:Mem}{d:Int->Nat}{i:Nat->Bool}{j:Sp}{o:Int->Option Int}
abbrev Mem.kAt(m:Mem)(a:Int):Int:=(m.seg (a / 64).toNat).kind
abbrev Mem.gAt(m:Mem)(a:Int):Int:=(m.seg (a / 64).toNat).gen
def tagK(k:Int):Int:=if k=0 then 1 else if k=1 then 2 else 3
def cE(v:Int):Prop:=v % 8=1\/v % 8=2\/v % 8=3
instance (v:Int):Decidable (cE v):=by unfold cE;infer_instance
def Good(m:Mem)(sz:Int->Nat)(v:Int):Prop:=v % 8≠6/\(cE v->sz (v / 8)≠0/\v % 8=tagK (m.kAt (v / 8)))
structure kz (m:Mem) (sz:Int->Nat):Prop where
 used: ∀a,sz a≠0->m.used a/\a % 64+sz a<=(m.seg (a / 64).toNat).n
 apart: ∀a b,sz a≠0->sz b≠0->a<b->a+sz a<=b
 two: ∀a,sz a≠0->m.kAt a<=1->sz a=2/\a % 2=0
 obj: ∀a,sz a≠0->2<=m.kAt a->kt (m.get a)/\m.kAt a=rawK (hk (m.get a))/\(sz a:Int)=hn (m.get a)+1
 good: ∀x,m.used x->m.kAt x≠3->Good m sz (m.get x)
theorem kz.usedAt(h:kz b d)(g:d a≠0){i:Nat}(l:i<d a)(hn: ∀k,(b.seg k).n<=64):b.used (a+i)/\(a+i) / 64=a / 64/\(a+i) % 64=a % 64+i:=by
 obtain⟨f,j⟩:=h.used a g
 have:=hn (a / 64).toNat
 have c:(a+i) / 64=a / 64:=by omega
 have e:(a+i) % 64=a % 64+i:=by omega
 exact⟨⟨by have:=f.1;omega,by rw[c];exact f.2.1,by rw[c,e];omega⟩,c,e⟩
theorem kz.lt{m:Mem}(h:kz m d)(e:bJ m)(c:d a≠0):0<=a/\a<65536:=by
 obtain⟨b,_⟩:=h.used a c
 have:=b.2.1.2.1
 have:=e.lim
 exact⟨b.1,by have:=b.1;omega⟩
theorem kz.noFwd(h:kz b d)(c:d a≠0):b.get a % 8≠6:=by
 obtain⟨e,_⟩:=h.used a c
 by_cases hk:b.kAt a=3
 ·obtain⟨f,_⟩:=h.obj a c (by omega)
  have:=f.1;omega
 ·exact(h.good a e hk).1
theorem kz.within(h:kz b d)(e:d a≠0){i:Nat}(f:0<i)(g:i<d a):d (a+i)=0:=by
 by_cases c:d (a+i)=0
 ·exact c
 ·have:=h.apart a (a+i) e c (by omega);omega
theorem nV{n:Nat}(v:aG a)(r:cE a)(c:a % 8=tagK (b.kAt (a / 8)))(j:a / 8<65536)(d:b.used (a / 8))(u:0<=b.kAt (a / 8)/\b.kAt (a / 8)<=3)(o:b.kAt (a / 8)<=1->n=2/\a / 8 % 2=0)
  (p:2<=b.kAt (a / 8)->kt (b.get (a / 8))/\b.kAt (a / 8)=rawK (hk (b.get (a / 8)))/\(n:Int)=hn (b.get (a / 8))+1/\a / 8 % 64+n<=(b.seg (a / 8 / 64).toNat).n):b.sizeOf a=n:=by
 have i:iZ a:=⟨by unfold cE at r;omega,j⟩
 unfold tagK at c
 unfold Mem.sizeOf
 by_cases m:b.kAt (a / 8)<=1
 ·obtain⟨g,h⟩:=o m
  have l:b.isPair a:=by
   refine⟨?_,h⟩
   by_cases f:b.kAt (a / 8)=0
   ·rw[if_pos f]at c;exact .inl ⟨i,c,d.2.1,f,d.2.2⟩
   ·rw[if_neg f,if_pos (by omega)]at c;exact .inr ⟨i,c,d.2.1,by show b.kAt (a / 8)=1;omega,d.2.2⟩
  rw[if_pos l,g];rfl
 ·rw[if_neg (by omega),if_neg (by omega)]at c
  obtain⟨g,h,s,t⟩:=p (by omega)
  have e:b.isObj a:=⟨⟨i,c,d.2.1,h,d.2.2⟩,g,by omega⟩
  have k: ¬b.isPair a:=λl=>by
   rcases l.1 with q | q
   ·have:=q.2.1;omega
   ·have:=q.2.1;omega
  rw[if_neg k,if_pos e]
  unfold Mem.len
  rw[if_pos e];omega
theorem ow(g: ¬cE a):b.sizeOf a=0:=by
 unfold cE at g
 unfold Mem.sizeOf
 have d: ¬b.isPair a:=λf=>by
  rcases f.1 with q | q
  ·have:=q.2.1;omega
  ·have:=q.2.1;omega
 have c: ¬b.isObj a:=λe=>by have:=e.1.2.1;omega
 rw[if_neg d,if_neg c]
theorem kz.size(h:kz b d)(e:bJ b){v:Int}(k:aG v)(j:Good b d v)(c:cE v):b.sizeOf v=d (v / 8):=by
 obtain⟨a,f⟩:=j.2 c
 obtain⟨g,i⟩:=h.used _ a
 exact nV k c f (h.lt e a).2 g (e.seg _).kind (h.two _ a) (λhk=>by
  obtain⟨l,m,n⟩:=h.obj _ a hk
  exact⟨l,m,n,i⟩)
def Mem.strong(m:Mem)(x:Int):Prop:=m.kAt x≠3/\(m.kAt x≠1\/x % 2=1)
instance (m:Mem) (x:Int):Decidable (m.strong x):=by unfold Mem.strong;infer_instance
theorem nW{m:Mem}(b:0<=k/\k<64)(hk:0<=a):looks (m.seg a.toNat).kind k ↔ m.strong (a*64+k):=by
 have e:(a*64+k) / 64=a:=by omega
 unfold looks Mem.strong Mem.kAt
 rw[e,show(a*64+k) % 2=k % 2 by omega]
structure TZ where
 m:Mem
 sz:Int->Nat
 O:Nat->Bool
 T:Int
 V:Int->Prop
inductive Reach (Z:TZ):Int->Prop
 | root {v:Int} (h:Z.V v) (ho:aV Z.O v):Reach Z (v / 8)
 | older {x:Int} (hu:Z.m.used x) (hn:Z.O (x / 64).toNat=false) (hs:Z.m.strong x) (ho:aV Z.O (Z.m.get x)):Reach Z (Z.m.get x / 8)
 | step {a:Int} {i:Nat} (h:Reach Z a) (hi:i<Z.sz a) (hs:Z.m.strong (a+i)) (ho:aV Z.O (Z.m.get (a+i))):Reach Z (Z.m.get (a+i) / 8)
def Fw(O:Nat->Bool)(fw:Int->Option Int)(v:Int):Int:=if aV O v then match fw (v / 8)with | some b=>b*8+v % 8 | none=>v else v
def Dn(O:Nat->Bool)(fw:Int->Option Int)(v:Int):Prop:=aV O v-> ∃b,fw (v / 8)=some b
theorem kA(h: ¬aV i a):Fw i o a=a:=by unfold Fw;rw[if_neg h]
theorem kf(h:aV i a)(b:o (a / 8)=some k):Fw i o a=k*8+a % 8:=by unfold Fw;rw[if_pos h,b]
def Le(fw fw':Int->Option Int):Prop:= ∀a b,fw a=some b->fw' a=some b
theorem Le.refl(a:Int->Option Int):Le a a:=λ_ _ h=>h
theorem Le.trans{f g h:Int->Option Int}(a:Le f g)(b:Le g h):Le f h:=λx y q=>b x y (a x y q)
theorem Dn.mono{f g:Int->Option Int}{v:Int}(h:Dn i f v)(l:Le f g):Dn i g v:=λc=>by obtain⟨b,a⟩:=h c;exact⟨b,l _ _ a⟩
theorem pj{g:Int->Option Int}(h:Dn i o a)(l:Le o g):Fw i g a=Fw i o a:=by
 by_cases c:aV i a
 ·obtain⟨b,d⟩:=h c
  rw[kf c d,kf c (l _ _ d)]
 ·rw[kA c,kA c]
theorem mY{m:Mem}(h:m.sizeOf a≠0):cE a:=by
 by_cases q:cE a
 ·exact q
 ·exact absurd (ow q) h
theorem nC(h:b.sizeOf a≠0):b.isPair a ↔ a % 8≠3:=by
 constructor
 ·intro c
  rcases c.1 with q | q
  ·have:=q.2.1;omega
  ·have:=q.2.1;omega
 ·intro e
  by_cases c:b.isPair a
  ·exact c
  ·exfalso
   unfold Mem.sizeOf at h
   rw[if_neg c]at h
   by_cases d:b.isObj a
   ·exact e d.1.2.1
   ·rw[if_neg d]at h;exact h rfl
theorem ua(h:aV i a):cE a:=by have:=h.1.1;have:=h.2.1;unfold cE;omega
def inR(a:Int)(n:Nat)(x:Nat):Bool:=decide (a<=(x:Int)/\(x:Int)<a+n)
theorem nD{a:Int}(b:0<=a)(N:Nat): ∀n:Nat,a+n<=N->(List.range N).countP (inR a n)=n
 | 0,_=>by
  rw[List.countP_eq_zero]
  intro x _
  unfold inR;simp
 | n+1,h=>by
  rw[mc N (a+n).toNat (inR a (n+1)) (inR a n) (by omega) (λi c=>by unfold inR;rw[decide_eq_decide];omega) (by unfold inR;rw[decide_eq_true_eq];omega) (by unfold inR;rw[decide_eq_false_iff_not];omega),nD b N n (by omega)]
theorem mi{α:Type}(p q:α->Bool)(l:List α)(h: ∀x∈l,p x=true->q x=true->False):l.countP (λx=>p x || q x)=l.countP p+l.countP q:=by
 induction l with
 | nil=>rfl
 | cons a l g=>
  have b:=g (λx f=>h x (by simp[f]))
  have c:=h a (by simp)
  rw[List.countP_cons,List.countP_cons,List.countP_cons,b]
  cases d:p a<;>cases e:q a
  ·simp
  ·simp;omega
  ·simp;omega
  ·exact(c d e).elim
theorem mZ(f:Int->Nat)(N:Nat): ∀L:List Int,L.Nodup->(∀a∈L,0<=a/\a+f a<=N)->(∀a∈L,∀b∈L,a<b->a+f a<=b)->(L.map f).sum=(List.range N).countP (λx=>L.any λa=>inR a (f a) x)
 | [],_,_,_=>by simp
 | a::L,hn,hb,hd=>by
  rw[List.nodup_cons]at hn
  have j:=mZ f N L hn.2 (λb h=>hb b (by simp[h])) (λb h c i=>hd b (by simp[h]) c (by simp[i]))
  simp only[List.map_cons,List.sum_cons,List.any_cons]
  rw[mi,j,nD (hb a (by simp)).1 N _ (hb a (by simp)).2]
  intro x _ g e
  rw[List.any_eq_true]at e
  obtain⟨b,d,e⟩:=e
  unfold inR at g e
  rw[decide_eq_true_eq]at g e
  rcases Int.lt_trichotomy a b with h | h | h
  ·have:=hd a (by simp) b (by simp[d]) h;omega
  ·subst h;exact hn.1 d
  ·have:=hd b (by simp[d]) a (by simp) h;omega
theorem pT(p:Nat->Bool): ∀n:Nat,(List.range (64*n)).countP (λx=>p (x / 64))=64*(List.range n).countP p
 | 0=>rfl
 | n+1=>by
  rw[show 64*(n+1)=64*n+64 by omega,List.range_add,List.countP_append,pT p n,List.range_succ (n:=n),List.countP_append,List.countP_map]
  have e:(List.range 64).countP ((λx=>p (x / 64)) ∘ λx=>64*n+x)=64*[n].countP p:=by
   have b:(List.range 64).countP ((λx=>p (x / 64)) ∘ λx=>64*n+x)=(List.range 64).countP (λ_=>p n):=by
    refine List.countP_congr λx c=>?_
    rw[List.mem_range]at c
    show p ((64*n+x) / 64)=true ↔ p n=true
    rw[show(64*n+x) / 64=n by omega]
   rw[b]
   cases a:p n
   ·simp[a]
   ·simp[a]
  rw[e];omega
theorem qL{α:Type}{p q:α->Bool}(l:List α)(h: ∀x∈l,p x=true->q x=true):l.countP p<=l.countP q:=List.countP_mono_left h
theorem mM(p:Nat->Bool)(n:Nat): ∀d:Nat,(∀i,n<=i->i<n+d->p i=false)->(List.range (n+d)).countP p=(List.range n).countP p
 | 0,_=>rfl
 | d+1,h=>by
  rw[show n+(d+1)=(n+d)+1 by omega,List.range_succ,List.countP_append,mM p n d (λi a b=>h i a (by omega))]
  simp[h (n+d) (by omega) (by omega)]
def TZ.yk(Z:TZ)(k:Int):Nat:=(List.range 1024).countP λj=>Z.O j && decide ((Z.m.seg j).kind=k)
def TZ.uk(Z:TZ)(al:List Int)(k:Int):Nat:=((al.filter λa=>decide (Z.m.kAt a=k)).map Z.sz).sum
structure Olds (Z:TZ) (al:List Int):Prop where
 nodup:al.Nodup
 mem: ∀a∈al,Z.sz a≠0/\Z.O (a / 64).toNat=true
theorem TZ.uk_le{Z:TZ}(r:kz Z.m Z.sz)(s:bJ Z.m){l:List Int}(h:Olds Z l)(k:Int):Z.uk l k<=64*Z.yk k:=by
 unfold TZ.uk TZ.yk
 have z:=s.lim
 have f: ∀j,(Z.m.seg j).n<=64:=λj=>(s.seg j).n.2
 have c: ∀a∈l.filter (λa=>decide (Z.m.kAt a=k)),a∈l/\Z.m.kAt a=k:=λa d=>by
  rw[List.mem_filter]at d;exact⟨d.1,by simpa using d.2⟩
 rw[mZ Z.sz (64*1024) _ (h.nodup.filter _) (λa d=>?_) (λa d b v q=>?_),<-pT]
 ·refine qL _ (λx _ g=>?_)
  rw[List.any_eq_true]at g
  obtain⟨a,d,g⟩:=g
  obtain⟨o,t⟩:=c a d
  obtain⟨p,u⟩:=h.mem a o
  unfold inR at g
  rw[decide_eq_true_eq]at g
  obtain⟨i,w⟩:=r.used a p
  have:=f (a / 64).toNat
  have y:=i.1
  have e:x / 64=(a / 64).toNat:=by omega
  rw[e,u,Bool.true_and,decide_eq_true_eq];exact t
 ·obtain⟨o,_⟩:=c a d
  obtain⟨p,_⟩:=h.mem a o
  obtain⟨i,w⟩:=r.used a p
  have:=f (a / 64).toNat
  have:=i.2.1.2.1
  exact⟨i.1,by have:=i.1;omega⟩
 ·exact r.apart a b (h.mem a (c a d).1).1 (h.mem b (c b v).1).1 q
theorem TZ.uk_cons(Z:TZ)(b:List Int)(a k:Int):Z.uk (a::b) k=(if Z.m.kAt a=k then Z.sz a else 0)+Z.uk b k:=by
 unfold TZ.uk
 by_cases h:Z.m.kAt a=k
 ·rw[List.filter_cons_of_pos (by simpa using h),if_pos h];simp
 ·rw[List.filter_cons_of_neg (by simpa using h),if_neg h];simp
def Sp.fill(s:Sp)(T:Int)(k:Nat):Int:=if s.cur T.toNat k=0 then 0 else(s.mem.seg (s.cur T.toNat k-1).toNat).n
structure Cap (Z:TZ) (F0:Int) (al:List Int) (s:Sp) (c:Nat->Nat):Prop where
 free:s.mem.free+((c 0:Nat)+(c 1:Nat)+(c 2:Nat)+(c 3:Nat):Int)=F0
 none: ∀k,k<4->s.cur Z.T.toNat k=0->c k=0
 le: ∀k,k<4->64*(c k:Int)+s.fill Z.T k<=2*(Z.uk al k:Int)+64
theorem Sp.fill_rng(a:SpOK j)(T:Int)(k:Nat):0<=j.fill T k/\j.fill T k<=64:=by
 unfold Sp.fill
 split
 ·omega
 ·exact(a.mem.seg _).n
theorem Cap.room{Z:TZ}{d:List Int}{c:Nat->Nat}(h:Cap Z a d j c)(o:SpOK j)(n:kz Z.m Z.sz)(b:bJ Z.m)(l:Olds Z d)(x:2*((Z.yk 0:Int)+Z.yk 1+Z.yk 2+Z.yk 3)+8<=a):1<=j.mem.free:=by
 have q: ∀k:Nat,k<4->(c k:Int)<=2*(Z.yk k:Int)+1:=λk hk=>by
  have u:=h.le k hk
  have v:=TZ.uk_le n b l (k:Int)
  have w:=Sp.fill_rng o Z.T k
  omega
 have p:=q 0 (by omega)
 have r:=q 1 (by omega)
 have s:=q 2 (by omega)
 have t:=q 3 (by omega)
 have:=h.free
 have e:Z.yk ((0:Nat):Int)=Z.yk 0:=rfl
 have f:Z.yk ((1:Nat):Int)=Z.yk 1:=rfl
 have g:Z.yk ((2:Nat):Int)=Z.yk 2:=rfl
 have i:Z.yk ((3:Nat):Int)=Z.yk 3:=rfl
 rw[e]at p;rw[f]at r;rw[g]at s;rw[i]at t
 omega
theorem Sp.fill_eq{T v:Int}{k:Nat}(h:j.cur T.toNat k=v):j.fill T k=if v=0 then 0 else(j.mem.seg (v-1).toNat).n:=by unfold Sp.fill;rw[h]
theorem Sp.alloc_fill(m:SpOK j){n:Int}(h:(j.alloc a k n).2.2=0): ∃d:Nat,(j.alloc a k n).1.mem.free=j.mem.free-d/\(j.alloc a k n).1.cur a.toNat k.toNat≠0/\(∀G:Nat,G≠k.toNat->(j.alloc a k n).1.cur a.toNat G=j.cur a.toNat G/\(j.alloc a k n).1.fill a G=j.fill a G)/\
  ((d=0/\j.cur a.toNat k.toNat≠0/\(j.alloc a k n).1.fill a k.toNat=j.fill a k.toNat+n)\/(d=1/\(j.cur a.toNat k.toNat=0\/64<j.fill a k.toNat+n)/\(j.alloc a k n).1.fill a k.toNat=n)):=by
 unfold Sp.alloc at*
 by_cases hm:may a k n
 case neg=>rw[if_pos hm]at h;exact absurd h (by show ¬((1:Int)=0);decide)
 rw[if_neg (λr=>r hm)]at h⊢
 have F:=hm.1
 have hk:0<=k/\k<=3:=by have:=hm.2;omega
 have hn:1<=n/\n<=63:=by have:=hm.2;omega
 by_cases c:j.cur a.toNat k.toNat≠0/\(j.mem.bump (j.cur a.toNat k.toNat-1) n).2.2=0
 ·rw[if_pos c]at h⊢
  obtain⟨s,A,p,o⟩:=Mem.bump_ok m.mem c.2
  refine⟨0,?_,c.1,λG w=>⟨rfl,?_⟩,.inl ⟨rfl,c.1,?_⟩⟩
  ·show(j.mem.bump _ _).1.free=_
   rw[(Mem.bump_lim _ _ _).2.2];omega
  ·unfold Sp.fill
   show(if j.cur a.toNat G=0 then 0 else((j.mem.bump _ _).1.seg _).n)=_
   by_cases b:j.cur a.toNat G=0
   ·rw[if_pos b,if_pos b]
   ·rw[if_neg b,if_neg b,o]
    rw[Mem.upd_other]
    intro e
    rcases m.cur a.toNat G with q | ⟨_,_,_,D⟩
    ·exact b q
    rcases m.cur a.toNat k.toNat with q | ⟨_,_,_,E⟩
    ·exact c.1 q
    rw[e,E]at D;omega
  ·unfold Sp.fill
   show(if j.cur a.toNat k.toNat=0 then 0 else((j.mem.bump _ _).1.seg _).n)=_
   rw[if_neg c.1,if_neg c.1,o]
   show((j.mem.upd _ _).seg _).n=_
   rw[Mem.upd_same];rfl
 rw[if_neg c]at h⊢
 by_cases i:(j.mem.take a k).2.2=0
 case neg=>rw[if_neg i]at h;exact absurd h i
 rw[if_pos i]at h⊢
 have g:=m.mem.take a k
 have l:j.mem.take a k=({j.mem with count:=j.mem.count+1,free:=j.mem.free-1}.upd j.mem.first (Seg.new a k (j.mem.count+1)),(j.mem.first:Int),0)/\j.mem.free≠0:=by
  unfold Mem.take at i⊢
  rw[if_neg (by omega)]at i⊢
  by_cases p:j.mem.free=0
  ·rw[if_pos p]at i;exact absurd i (by show ¬((2:Int)=0);decide)
  ·rw[if_neg p];exact⟨rfl,p⟩
 obtain⟨l,f⟩:=l
 obtain⟨B,u⟩:=Mem.first_spec m.mem f
 rw[l]at h g⊢
 simp only at h g⊢
 obtain⟨s,A,p,o⟩:=Mem.bump_ok g h
 have z:((j.mem.first:Int)).toNat=j.mem.first:=by omega
 refine⟨1,?_,?_,λG w=>⟨?_,?_⟩,.inr ⟨rfl,?_,?_⟩⟩
 ·rw[(Mem.bump_lim _ _ _).2.2];show j.mem.free-1=_;omega
 ·show(if a.toNat=a.toNat/\k.toNat=k.toNat then(j.mem.first:Int)+1 else _)≠0
  rw[if_pos ⟨rfl,rfl⟩];omega
 ·show(if a.toNat=a.toNat/\G=k.toNat then(j.mem.first:Int)+1 else _)=_
  rw[if_neg (λr=>w r.2)]
 ·rw[Sp.fill_eq (v:=j.cur a.toNat G) (by show(if a.toNat=a.toNat/\G=k.toNat then(j.mem.first:Int)+1 else _)=_;rw[if_neg (λr=>w r.2)])]
  unfold Sp.fill
  by_cases b:j.cur a.toNat G=0
  ·rw[if_pos b,if_pos b]
  ·rw[if_neg b,if_neg b,o,z]
   rcases m.cur a.toNat G with q | ⟨_,y,_,_⟩
   ·exact absurd q b
   have t:(j.cur a.toNat G-1).toNat≠j.mem.first:=λe=>y.2.2 (by rw[e];exact u)
   show((Mem.upd (Mem.upd _ _ _) _ _).seg _).n=_
   rw[Mem.upd_other _ _ t,Mem.upd_other _ _ t]
 ·by_cases b:j.cur a.toNat k.toNat=0
  ·exact .inl b
  ·right
   rcases m.cur a.toNat k.toNat with q | ⟨_,y,_,_⟩
   ·exact absurd q b
   have C: ¬((j.mem.seg (j.cur a.toNat k.toNat-1).toNat).n+n<=64):=λx=>c ⟨b,Mem.bump_can y hn.1 x⟩
   unfold Sp.fill
   rw[if_neg b];omega
 ·rw[Sp.fill_eq (v:=(j.mem.first:Int)+1) (by show(if a.toNat=a.toNat/\k.toNat=k.toNat then(j.mem.first:Int)+1 else _)=_;rw[if_pos ⟨rfl,rfl⟩]),if_neg (by omega),o,z,show((j.mem.first:Int)+1-1).toNat=j.mem.first by omega]
  show((Mem.upd (Mem.upd _ _ _) _ _).seg _).n=_
  rw[Mem.upd_same]
  show((Mem.upd _ _ _).seg j.mem.first).n+n=n
  rw[Mem.upd_same];show 0+n=n;omega
theorem Sp.fill_same(h:bS j.mem b)(T:Int)(k:Nat):({j with mem:=b}:Sp).fill T k=j.fill T k:=by
 unfold Sp.fill
 show(if j.cur T.toNat k=0 then 0 else(b.seg _).n)=_
 rw[(h.seg _).2.2.1]
theorem Cap.step{Z:TZ}{i:Int}{p:List Int}{s:Sp}{c:Nat->Nat}(h:Cap Z i p s c)(r:SpOK s){a:Int}{m:Mem}(hk:0<=Z.m.kAt a/\Z.m.kAt a<=3)(z:(s.alloc Z.T (Z.m.kAt a) (Z.sz a)).2.2=0)(hm:bS (s.alloc Z.T (Z.m.kAt a) (Z.sz a)).1.mem m): ∃t,Cap Z i (a::p) {(s.alloc Z.T (Z.m.kAt a) (Z.sz a)).1 with mem:=m} t:=by
 obtain⟨d,u,v,q,w⟩:=Sp.alloc_fill r z
 generalize A:(s.alloc Z.T (Z.m.kAt a) (Z.sz a)).1=B at*
 generalize n:Z.m.kAt a=k at*
 have x:((k.toNat:Nat):Int)=k:=by omega
 refine⟨λj=>c j+if j=k.toNat then d else 0,?_,λj g y=>?_,λj g=>?_⟩
 ·show m.free+_=i
  rw[hm.free,u]
  have:=h.free
  rcases(show k.toNat=0\/k.toNat=1\/k.toNat=2\/k.toNat=3 by omega)with e | e | e | e<;>rw[e]<;>simp<;>omega
 ·have b:B.cur Z.T.toNat j=0:=y
  by_cases e:j=k.toNat
  ·rw[e]at b;exact absurd b v
  ·rw[(q j e).1]at b
   show c j+(if j=k.toNat then d else 0)=0
   rw[if_neg e,h.none j g b]
 ·rw[Sp.fill_same hm,TZ.uk_cons,n]
  have o:=h.le j g
  by_cases e:j=k.toNat
  ·subst e
   simp only[if_true]
   rw[x]at o⊢
   rw[if_pos rfl]
   rcases w with⟨rfl,_,l⟩ | ⟨rfl,f,l⟩
   ·rw[l];omega
   ·rw[l]
    rcases f with f | f
    ·have:=h.none k.toNat g f
     have C:=Sp.fill_rng r Z.T k.toNat
     omega
    ·omega
  ·rw[(q j e).2]
   simp only[if_neg e]
   rw[if_neg (show ¬k=(j:Int)by omega)]
   omega
