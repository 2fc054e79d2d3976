/-
 A trace begins (package trace): Start. Proves nothing of any one statement.
-/
import Derived.Test.YtfhbhckhmnleoaaGreatTrF
set_option linter.unusedVariables false
set_option linter.unusedSimpArgs false
set_option maxRecDepth 100000
namespace Go.Proofs.YtfhbhckhmnleoaaGreat
open Go Go.Proofs.Tryz
theorem DA:type_of% @Int.lt_or_le:=@Int.lt_or_le
variable{H:zV}{d:Blk}{i:Tr}{j:TB}{k r:Int}{o:Mem}{u:Sp}{v:Hp}{z A:Nat}
theorem vT(a B:Value)(C:List Value){z:Value}{k:Nat}(hk:k<A):((([a,B]++List.replicate A z++C:List Value).toArray)[2+k]?)=some z:=by
 rw[List.getElem?_toArray,List.getElem?_append_left (by simp;omega),List.getElem?_append_right (by simp)]
 simp only[List.length_cons,List.length_nil]
 rw[List.getElem?_replicate,qB (by omega)]
theorem wZ(A B:Value)(C:List Value){z:Value}(n k:Nat):((([A,B]++List.replicate n z++C:List Value).toArray)[2+n+k]?)=C[k]?:=by
 rw[List.getElem?_toArray,List.getElem?_append_right (by simp;omega)]
 congr 1
 simp only[CV,List.length_cons,List.length_nil,EK];omega
theorem w6(A B:Value)(C:List Value){z:Value}(n:Nat):((([A,B]++List.replicate n z++C:List Value).toArray)[0]?)=some A/\((([A,B]++List.replicate n z++C:List Value).toArray)[1]?)=some B:=by
 constructor<;>rw[List.getElem?_toArray]<;>rfl
theorem w7(A B:Value)(C:List Value){z:Value}(n:Nat):([A,B]++List.replicate n z++C:List Value).toArray.size=2+n+C.length:=by simp;omega
theorem TrAt.init{f s:Nat}(q:H[A]?=some (.cells ([vp (some ⟨d.h,0,none⟩),vi k]++List.replicate 1024 (vi 0)++[.map (some f),.map (some s),VN,vi 0]:List Value).toArray 106 (0,0)))
  (n:H[f]?=some (.map #[] 0)) (p:H[s]?=some (.map #[] 0)) (b:A≠f/\A≠s/\f≠s):TrAt H d ⟨A,f,s,none,0,0⟩ ⟨k,λ_=>false,[],[],[],false⟩:=by
 have e:=w6 (vp (some ⟨d.h,0,none⟩)) (vi k) [.map (some f),.map (some s),VN,vi 0] (z:=vi 0) 1024
 have j:=λr (hk:r<1024)=>vT (vp (some ⟨d.h,0,none⟩)) (vi k) [.map (some f),.map (some s),VN,vi 0] (z:=vi 0) hk
 have c:=λr=>wZ (vp (some ⟨d.h,0,none⟩)) (vi k) [.map (some f),.map (some s),VN,vi 0] (z:=vi 0) 1024 r
 have l:=w7 (vp (some ⟨d.h,0,none⟩)) (vi k) [.map (some f),.map (some s),VN,vi 0] (z:=vi 0) 1024
 generalize (([vp (some ⟨d.h,0,none⟩),vi k]++List.replicate 1024 (vi 0)++[.map (some f),.map (some s),VN,vi 0]:List Value).toArray)=g at*
 refine⟨⟨g,q,l,e.1,e.2,λr hk=>j r hk,c 0,c 1,c 2,c 3⟩,⟨_,_,n,rfl⟩,⟨_,_,p,rfl⟩,rfl,(λa m=>by cases m),⟨rfl,Ef _⟩,⟨b.1,b.2.1,b.2.2,λi o=>by simp at o⟩⟩
theorem TrAt.put{q:TB}(h:TrAt H d q i){o:Nat}{v:Value}(k:o<1030):
  aH H ⟨q.t,o,none⟩ 0 1/\Fr [q.t] H (aP H ⟨q.t,o,none⟩ [v] 0)/\ ∃a b:Array Value,H[q.t]?=some (.cells a 106 (0,0))/\(aP H ⟨q.t,o,none⟩ [v] 0)[q.t]?=some (.cells b 106 (0,0))/\b.size=a.size/\ ∀j:Nat,b[j]?=if j=o then some v else a[j]?:=by
 obtain⟨a,c,g,_⟩:=h.tr
 refine⟨cR c _ _ _ (by omega),?_⟩
 rw[bY _ H a _ 0 c]
 refine⟨Fr.set,a,_,c,aT (aS c),DK _ _ _,λj=>?_⟩
 by_cases e:j=o
 ·rw[qB e,e]
  have:=fO a [v] (o+0) 0 (by simp;omega) (by simp)
  simpa using this
 ·rw[za e]
  rcases C6 j o with f | f
  ·exact eF _ _ _ _ (by omega)
  ·exact iO _ _ _ _ (by simp;omega)
theorem TrAt.rest{e:zV}(h:TrAt H d j i)(f:Fr [j.t] H e):(∃(b:Array MapEntry) (c:Nat),e[j.f]?=some (.map b c)/\vb (aY .i64) b.toList i.frm)/\(∃(b:Array MapEntry) (c:Nat),e[j.s]?=some (.map b c)/\vb (aY .i64) b.toList i.seen)/\dO e j.cB (eP i.cards):=by
 obtain⟨b,c,p,n⟩:=h.frm
 obtain⟨l,k,q,o⟩:=h.seen
 have r:=h.ne
 refine⟨⟨b,c,f.get (by simp;omega) p,n⟩,⟨l,k,f.get (by simp;omega) q,o⟩,?_⟩
 have g:=h.cards
 cases m:j.cB with
 | none=>rw[m]at g;exact g
 | some a=>
  rw[m]at g
  refine f.rowAt ?_ g
  have:=r.2.2.2 a.block (by rw[m];simp)
  simp;omega
theorem TrAt.putOld(h:TrAt H d j i){k:Nat}(hk:k<1024):
  aH H ⟨j.t,2+k,none⟩ 0 1/\Fr [j.t] H (aP H ⟨j.t,2+k,none⟩ [vi 1] 0)/\TrAt (aP H ⟨j.t,2+k,none⟩ [vi 1] 0) d j {i with old:=λG=>if G=k then true else i.old G}:=by
 obtain⟨x,f,D,c,y,z,F,b⟩:=h.put (o:=2+k) (v:=vi 1) (by omega)
 obtain⟨A,B,C⟩:=h.rest f
 refine⟨x,f,?_⟩
 obtain⟨l,g,E,m,n,p,q,r,s,t⟩:=h.tr
 rw[y]at g;cases g
 refine⟨⟨c,z,by omega,by rw[b,za (by omega)];exact m,by rw[b,za (by omega)];exact n,λG w=>?_,by rw[b,za (by omega)];exact q,by rw[b,za (by omega)];exact r,by rw[b,za (by omega)];exact s,by rw[b,za (by omega)];exact t⟩,A,B,C,λa u=>DJ (h.cB a u) f.size,h.clen,h.ne⟩
 rw[b]
 by_cases e:G=k
 ·subst e;rw[qB rfl];simp
 ·rw[za (by omega),p G w];simp[e]
theorem TrAt.putCards(h:TrAt H d j i){B:zW}{n c:Nat}{l:List (Int×Int)}(r:dO H B (eP l))(m: ∀N∈kd B,N<H.size)(hn:n=l.length/\n<=4096)(q: ∀N∈kd B,N ∉ j.all):
  aH H ⟨j.t,1028,none⟩ 0 1/\Fr [j.t] H (aP H ⟨j.t,1028,none⟩ [vs B n c] 0)/\TrAt (aP H ⟨j.t,1028,none⟩ [vs B n c] 0) d {j with cB:=B,cN:=n,cC:=c} {i with cards:=l}:=by
 obtain⟨C,e,I,f,D,E,L,b⟩:=h.put (o:=1028) (v:=vs B n c) (by omega)
 obtain⟨F,G,M⟩:=h.rest e
 refine⟨C,e,?_⟩
 obtain⟨s,p,J,t,u,w,x,y,K,z⟩:=h.tr
 rw[D]at p;cases p
 refine⟨⟨f,E,by omega,by rw[b,za (by omega)];exact t,by rw[b,za (by omega)];exact u,λN k=>by rw[b,za (by omega)];exact w N k,by rw[b,za (by omega)];exact x,by rw[b,za (by omega)];exact y,by rw[b,qB rfl],by rw[b,za (by omega)];exact z⟩,F,G,?_,λa A=>?_,hn,⟨h.ne.1,h.ne.2.1,h.ne.2.2.1,λN k=>?_⟩⟩
 ·cases B with
  | none=>exact r
  | some a=>
   refine e.rowAt ?_ r
   have:=q a.block (by simp)
   simp[TB.all]at this⊢;omega
 ·have g:B=some a:=A
  subst g
  exact DJ (m _ (by simp)) e.size
 ·have:=q N k
  simp only[TB.all,CR,not_or]at this
  exact⟨this.1,this.2.1,this.2.2.1⟩
theorem TrAt.putFrm{b:Array MapEntry}{m:List (Int×Value)}(h:TrAt H d j i)(r:vb (aY .i64) b.toList m):TrAt (aM H j.f (.map b z)) d j {i with frm:=m}:=by
 have f:Fr [j.f] H (aM H j.f (.map b z)):=Fr.set
 have t:=h.lt j.f (by simp[TB.all])
 obtain⟨n,o,s⟩:=h.tr
 obtain⟨g,e,p,l⟩:=h.seen
 have u:=h.ne
 refine⟨⟨n,f.get (by simp;omega) o,s⟩,⟨b,z,aT t,r⟩,⟨g,e,f.get (by simp;omega) p,l⟩,?_,λa q=>DJ (h.cB a q) f.size,h.clen,h.ne⟩
 have c:=h.cards
 cases k:j.cB with
 | none=>rw[k]at c;exact c
 | some a=>
  rw[k]at c
  refine f.rowAt ?_ c
  have:=u.2.2.2 a.block (by rw[k];simp)
  simp;omega
def eZ(g:Int):List Int:=(List.range (g+1).toNat).map λi:Nat=>(i:Int)
theorem lQ:r∈eZ k ↔ 0<=r/\r<=k:=by
 unfold eZ
 rw[CT]
 constructor
 ·rintro⟨i,a,rfl⟩;rw[Dc]at a;omega
 ·rintro⟨b,c⟩;exact⟨r.toNat,by rw[Dc];omega,by omega⟩
def Mem.young(m:Mem)(g:Int)(k:Nat):Bool:=decide (m.has k/\(m.seg k).gen<=g)
def Mem.nyoung(m:Mem)(g:Int):Nat:=(m.takenTo (eZ g) m.limit).length
structure jH (m:Mem) (g T:Int) (t:Tr):Prop where
 tgt:t.tgt=T
 old: ∀k,k<1024->t.old k=m.young g k
 frm: ∀k:Int,0<=k->yG t.frm k=if m.has k/\(m.seg k.toNat).gen=T then some (vi (m.seg k.toNat).n)else none
 seen: ∀k:Int,0<=k->yG t.seen k=if m.has k/\(m.seg k.toNat).gen=T then some (vi (m.seg k.toNat).n)else none
 frm0: ∀k:Int,k<0->yG t.frm k=none
 seen0: ∀k:Int,k<0->yG t.seen k=none
 cards: ∃l,dA m [] l/\t.cards=m.dirtyOf g l
 over:t.over=false
theorem jH.cardsOK(h:jH o k r i)(d:bD o):nZ i.cards:=by
 obtain⟨l,b,e⟩:=h.cards
 rw[e]
 intro c a
 obtain⟨m,hk,j,g,rfl,_⟩:=Mem.mem_dirty.1 a
 obtain⟨_,f,_⟩:=b.has hk
 have:=d.lim
 exact⟨⟨by show(0:Int)<=(m:Int);omega,by show(m:Int)<1024;omega⟩,by show(0:Int)<=(j:Int);omega,by show(j:Int)<4;omega⟩
theorem jH.seenOK(h:jH o k r i)(b:bD o):iL i.seen:=by
 intro c v a
 rcases DA c 0 with hk | hk
 ·rw[h.seen0 c hk]at a;cases a
 rw[h.seen c hk]at a
 split at a
 ·cases a
  exact⟨_,rfl,(b.seg _).n⟩
 ·cases a
def iM(s:Sp)(g T more:Int):Int:=if g<0\/4<=g\/T<g\/g+1<T\/more<0 then 1 else if s.mem.free-2*s.mem.nyoung g-8<more then 2 else 0
theorem Sp.fresh_ok(b:SpOK u)(a:List Int):SpOK (u.fresh a):=Sp.zap_ok b _
def Told(m:Mem)(ks:List (Int×Value))(l:List Nat):Prop:= ∀k:Int,yG ks k=if 0<=k/\k.toNat∈l then some (vi (m.seg k.toNat).n)else none
theorem Told.put{m:Mem}{c:List (Int×Value)}{l:List Nat}(h:Told m c l)(k:Nat){v:Value}:Told m (yM (yM c k v) k (vi (m.seg k).n)) (l++[k]):=by
 intro a
 rw[kA,kA,h a]
 by_cases e:a=k
 ·subst e
  rw[qB rfl,qB ⟨by omega,by simp⟩];simp
 ·rw[za e,za e]
  refine kQ ⟨λq=>⟨q.1,Dg _ q.2⟩,λq=>⟨q.1,?_⟩⟩ _ _
  rcases CM.1 q.2 with b | b
  ·exact b
  ·simp at b;omega
theorem uf{T m:Int}(hp:HpAt H d v)(ok:SpOK v.sp)(he:v.sp.mem.Even)(dz:v.sp.cf<4611686018427387904)(hg:Ah r)(hT:Ah T)(hm:Ah m):
  iZ.C (some ⟨d.h,0,none⟩) r T m H (λf3 H'=>(iM v.sp r T m≠0->f3=.tuple #[vp none,vi (iM v.sp r T m)]/\Ext H H')/\
   (iM v.sp r T m=0-> ∃(q:TB) (t:Tr),f3=.tuple #[vp (some ⟨q.t,0,none⟩),vi 0]/\Tg H' d {v with sp:=v.sp.fresh (eZ r)} q t/\jH v.sp.mem r T t/\(∀i∈q.all,H.size<=i)/\Fr (y9 d) H H')):=by
 refine HC.via λR hR=>iZ.link ?_
 unfold iZ.pt zY
 rw[CK]
 refine⟨_,hp.hPtr,?_⟩
 rw[CK]
 by_cases O:r<0\/4<=r\/T<r\/r+1<T\/m<0
 ·have e:iM v.sp r T m=1:=by unfold iM;rw[qB O]
  rw[qB ?_]
  ·exact hR _ _ ⟨λ_=>⟨by rw[e],CW _⟩,λh=>by rw[e]at h;exact absurd h (by decide)⟩
  ·rcases O with h | h | h | h | h
   ·simp[h]
   ·have:r>=4:=h
    simp[this]
   ·simp[h]
   ·by_cases h4:r>=4
    ·simp[h4]
    ·rw[xT (n:=r+1) (by omega)]
     have:T>r+1:=h
     simp[this]
   ·simp[h]
 have en:0<=r/\r<4/\r<=T/\T<=r+1/\0<=m:=by omega
 rw[xT (n:=r+1) (by omega)]
 rw[za (by
  simp only[Dw,CN]
  omega)]
 have e1:=ok.mem.lim
 have E:(eZ r).length=(r+1).toNat:=by simp[eZ]
 refine⟨λB n c i A=>(0<=i/\i<=r+1)/\n=i.toNat/\Own A 3 1 B n c (zf ((eZ r).take i.toNat))/\(∀j∈kd B,H.size<=j)/\Ext H A,λ_ _ _ i _=>(r+1-i).toNat,⟨by omega,rfl,gI,by simp,CW _⟩,?_⟩
 rintro gB gN gC i H1 ⟨hi,rfl,Q,bn,f4⟩
 by_cases bq:i<r+1
 ·rw[qB bq]
  intro c2 H2 dx co
  have f9:Ext H1 H2:=CI co
  have hd:(r+1-(i+1)).toNat< (r+1-i).toNat:=by omega
  rw[xT (n:=i+1) (by omega)]
  refine cI (ys:=[vi i]) (Q.ext f9) (eJ (aF dx co) _ 0 0 (λj g=>by
   simp only[List.length_cons,List.length_nil]at g
   obtain rfl:j=0:=by omega
   rfl)) rfl rfl rfl (by omega) ?_
  intro p' c' H4 aU fb dL
  have ht:(eZ r).take (i+1).toNat=(eZ r).take i.toNat++[i]:=by
   rw[show(i+1).toNat=i.toNat+1 by omega,Db (by rw[E];omega)]
   congr 2
   simp[eZ];omega
  refine⟨⟨by omega,by omega,?_,λj g=>?_,(f4.trans f9).fr_trans fb bn⟩,hd⟩
  ·rw[ht,show i.toNat+1=i.toNat+1 from rfl]
   unfold zf at aU⊢
   rw[C7];exact aU
  ·rcases dL j g with h | h
   ·exact bn j h
   ·have:=f4.size;have:=f9.size;omega
 rw[za bq]
 have dI:i.toNat=(eZ r).length:=by rw[E];omega
 rw[dI]at Q⊢
 rw[D9]at Q
 have al:=hp.ext f4
 refine⟨_,al.hPtr,_,rfl,_,al.cd.cPtr,_,rfl,_,al.cd.sp.memPtr,?_⟩
 refine HC.mono (jG (gs:=eZ r) al.cd.sp.mem ok.mem Q.src rfl (by omega)) ?_
 rintro _ H4 ⟨yB,yC,b,rfl,ao,aW,dG,e4⟩
 refine⟨_,_,_,rfl,?_⟩
 have Z:=f4.trans e4
 have am:=hp.ext Z
 have dS:=ao.len
 have cH:b.length=v.sp.mem.nyoung r:=ao.perm.length_eq
 refine⟨_,am.hPtr,_,rfl,_,am.cd.cPtr,_,rfl,_,am.cd.sp.memPtr,?_⟩
 refine HC.mono (ue am.cd.sp.mem) ?_
 rintro _ H5 ⟨rfl,rfl⟩
 have dF:=ok.mem.free
 have eo:v.sp.mem.nfree<=v.sp.mem.limit:=by
  unfold Mem.nfree
  exact Dz EF (by simp)
 refine⟨_,rfl,?_⟩
 rw[xT (n:=2*(b.length:Int)) (by omega),xT (n:=v.sp.mem.free-2*(b.length:Int)) (by omega),xT (n:=v.sp.mem.free-2*(b.length:Int)-8) (by omega)]
 by_cases D:v.sp.mem.free-2*(b.length:Int)-8<m
 ·rw[qB D]
  have e:iM v.sp r T m=2:=by unfold iM;rw[za O,qB (by rw[<-cH];exact D)]
  exact hR _ _ ⟨λ_=>⟨by rw[e],Z⟩,λh=>by rw[e]at h;exact absurd h (by decide)⟩
 rw[za D]
 have es:iM v.sp r T m=0:=by unfold iM;rw[za O,za (by rw[<-cH];exact D)]
 intro w H6 ct ai u H7 cu aj M H8 dw bk
 have ee:Ext H5 H6:=CI ai
 have fa:Ext H6 H7:=CI aj
 have e8:Ext H7 H8:=CI bk
 have z6:H6.size=H5.size+1:=by rw[ai];simp
 have z7:H7.size=H6.size+1:=by rw[aj];simp
 have z5:=Z.size
 have ae:Ext H5 H8:=(ee.trans fa).trans e8
 have c7:=Z.trans ae
 have er:=hp.ext c7
 have T8:TrAt H8 d ⟨M,w,u,none,0,0⟩ ⟨T,λ_=>false,[],[],[],false⟩:=TrAt.init (aF dw bk) (e8.get (fa.get (aF ct ai))) (e8.get (aF cu aj)) ⟨by omega,by omega,by omega⟩
 have z: ∀j∈d.all,j<H.size:=λj g=>hp.lt j g
 have dR: ∀j∈kd yB,j<H5.size/\H1.size<=j:=λj g=>⟨aW.lt j g,dG j g⟩
 have bo: ∀j∈kd gB,j<H1.size/\H.size<=j:=λj g=>⟨Q.lt j g,bn j g⟩
 have z1:=f4.size
 have z4:=e4.size
 refine⟨λi A=>(0<=i/\i<=b.length)/\TrAt A d ⟨M,w,u,none,0,0⟩ ⟨T,λk=>decide (k∈b.take i.toNat),[],[],[],false⟩/\Fr [M] H8 A,λi _=>(b.length-i).toNat,⟨by omega,by simpa using T8,Fr.refl _ _⟩,?_⟩
 rintro L H9 ⟨dH,T9,f9⟩
 by_cases bp:L< (b.length:Int)
 ·rw[qB bp]
  have a9:L.toNat<b.length:=by omega
  have bs:=(aW.ext ae).keep f9 (λj g hm=>by have:=dR j g;simp at hm;omega)
  obtain⟨a,ha,a6⟩:=mS bs a9
  obtain⟨b0,cN,cO,_⟩:=ao.has (CS a9)
  have zE:=T9.putOld (k:=b[L.toNat]) (by omega)
  have hd:((b.length:Int)-(L+1)).toNat< ((b.length:Int)-L).toNat:=by omega
  refine⟨a,ha,⟨dH.1,bp⟩,_,a6,⟨by omega,by omega⟩,?_⟩
  rw[CH,CH,CQ,Dd,show((b[L.toNat]:Nat):Int).toNat=b[L.toNat]by omega,xT (n:=L+1) (by omega)]
  refine⟨zE.1,λe5 ck=>?_⟩
  subst ck
  refine⟨⟨by omega,?_,f9.trans zE.2.1⟩,hd⟩
  have ho:(λk=>decide (k∈b.take (L+1).toNat))=(λi=>if i=b[L.toNat]then true else decide (i∈b.take L.toNat)):=by
   funext k
   rw[show(L+1).toNat=L.toNat+1 by omega,Db a9]
   by_cases hk:k=b[L.toNat]
   ·rw[qB hk,hk];exact zX (Du _ (List.mem_singleton.2 rfl))
   ·rw[za hk,decide_eq_decide,CM,List.mem_singleton]
    exact⟨λh=>h.resolve_right hk,.inl⟩
  rw[ho];exact zE.2.2
 rw[za bp]
 have a9:L.toNat=b.length:=by omega
 rw[a9,D9]at T9
 have dn:Fr [M] H5 H9:=ae.fr.trans f9
 have ci:Ext H H9:=Z.fr_trans dn (λj g=>by simp at g;omega)
 have an:=hp.ext ci
 refine⟨_,an.hPtr,_,rfl,_,an.cd.cPtr,_,rfl,_,an.cd.sp.memPtr,?_⟩
 intro d8 b3 cv ay
 have ba:Ext H9 b3:=CI ay
 have z8:H8.size=H7.size+1:=by rw[bk];simp
 have z9:=f9.size
 have cJ:=an.ext ba
 refine HC.mono (jG (gs:=[T]) cJ.cd.sp.mem ok.mem (show dO b3 (some ⟨d8,0,none⟩) (zf [T])from zt (by rw[aI (aF cv ay)];rfl)) rfl (by decide)) ?_
 rintro _ b4 ⟨wB,wC,l,rfl,hl,aV,dD,dd⟩
 refine⟨_,_,_,rfl,?_⟩
 have dK:=hl.len
 have G:=ba.trans dd
 have ch:=ci.trans G
 have ez:=G.size
 have dQ: ∀j∈kd wB,j<b4.size/\b3.size<=j:=λj g=>⟨aV.lt j g,dD j g⟩
 have ey:=ba.size
 refine⟨λi A=>(0<=i/\i<=l.length)/\(∃ks x:List (Int×Value),TrAt A d ⟨M,w,u,none,0,0⟩ ⟨T,λk=>decide (k∈b),ks,x,[],false⟩/\Told v.sp.mem ks (l.take i.toNat)/\Told v.sp.mem x (l.take i.toNat))/\(∃es cl,A[w]?=some (.map es cl)/\Born es cl)/\(∃es cl,A[u]?=some (.map es cl)/\Born es cl)/\Fr [w,u] b4 A,λi _=>(l.length-i).toNat,?_,?_⟩
 ·have cq: ∀c,c=w\/c=u->b4[c]?=some (.map #[] 0):=λc hc=>by
   have dy:H8[c]?=some (.map #[] 0):=by
    rcases hc with rfl | rfl
    ·exact e8.get (fa.get (aF ct ai))
    ·exact e8.get (aF cu aj)
   exact G.get (f9.get (by simp;omega) dy)
  exact⟨by omega,⟨[],[],T9.ext G,λk=>by simp[yG],λk=>by simp[yG]⟩,⟨_,_,cq _ (.inl rfl),sF⟩,⟨_,_,cq _ (.inr rfl),sF⟩,Fr.refl _ _⟩
 rintro p bB ⟨cC,⟨ks,x,bK,P,F⟩,⟨ce,c5,cA,b7⟩,⟨bf,b9,cB,b8⟩,a0⟩
 have eA:=a0.size
 have N:Ext H bB:=ch.fr_trans a0 (λj g=>by simp at g;omega)
 have o:=hp.ext N
 by_cases a8:p< (l.length:Int)
 ·rw[qB a8]
  have I:p.toNat<l.length:=by omega
  have ak:=aV.keep a0 (λj g hm=>by have:=dQ j g;simp at hm;omega)
  obtain⟨a,ha,a6⟩:=mS ak I
  obtain⟨b0,cN,cO,_⟩:=hl.has (CS I)
  have cM:l.take (p+1).toNat=l.take p.toNat++[l[p.toNat]]:=by rw[show(p+1).toNat=p.toNat+1 by omega,Db I]
  generalize hk:l[p.toNat]=k at*
  refine⟨a,ha,⟨cC.1,a8⟩,_,a6,_,o.hPtr,_,rfl,_,o.cd.cPtr,_,rfl,_,o.cd.sp.memPtr,?_⟩
  refine HC.mono (gt o.cd.sp.mem) ?_
  rintro _ e6 ⟨rfl,au⟩
  have dN:v.sp.mem.segOr k=v.sp.mem.seg k:=by unfold Mem.segOr;rw[qB b0,show((k:Nat):Int).toNat=k by omega]
  rw[dN]
  refine⟨_,_,_,_,_,_,_,_,rfl,λY e7 cw cm=>?_⟩
  obtain⟨dB,hs⟩:=jB (v.sp.mem.seg k) cw cm
  refine⟨dB,λS cn=>?_⟩
  obtain⟨de,_,_,g2,_⟩:=hs S cn
  have y:=au.trans de
  have X:=bK.ext y
  have eB:=au.size
  have dT:Y≠w/\Y≠u:=by omega
  have J:S[w]?=some (.map ce c5):=y.get cA
  have K:S[u]?=some (.map bf b9):=y.get cB
  obtain⟨dW,dU,q1,bc⟩:=X.frm
  obtain⟨dX,dV,q2,bd⟩:=X.seen
  rw[show(⟨M,w,u,none,0,0⟩:TB).f=w from rfl,J]at q1
  rw[show(⟨M,w,u,none,0,0⟩:TB).s=u from rfl,K]at q2
  cases q1;cases q2
  refine⟨some w,by rw[CH];exact X.fAt,some u,by rw[CH];exact X.sAt,_,by rw[CH];exact g2,_,by rw[CH];exact g2,w,rfl,ce,c5,ks,J,bc,b7,?_⟩
  intro dj bU st ap U a2 av bN cr
  have cP:=aS J
  have e2:=aS K
  have af:Fr [w] S U:=by rw[a2];exact Fr.set
  have bi:hat U ⟨Y,2,none⟩=some (vi (v.sp.mem.seg k).n):=af.hat (by simp;omega) g2
  refine⟨by rw[CH];exact zt bi,by rw[CH];exact zt bi,dj,bU,_,(k:Int),by rw[a2];exact aT cP,av,bN,cr,?_⟩
  intro dk V a3 c9 bO
  have cQ:w<U.size:=by have:=af.size;omega
  have bh:Fr [w] U V:=by rw[a3];exact Fr.set
  have cj:hat V ⟨Y,2,none⟩=some (vi (v.sp.mem.seg k).n):=bh.hat (by simp;omega) bi
  have a7:V[u]?=some (.map bf b9):=bh.get (by simp;omega) (af.get (by simp;omega) K)
  refine⟨by rw[CH];exact zt cj,u,rfl,bf,b9,x,a7,bd,b8,?_⟩
  intro dl bX eu cW W a4 aw bR cs
  have cT:=aS a7
  have ag:Fr [u] V W:=by rw[a4];exact Fr.set
  have dq:hat W ⟨Y,2,none⟩=some (vi (v.sp.mem.seg k).n):=ag.hat (by simp;omega) cj
  refine⟨by rw[CH];exact zt dq,dl,bX,_,(k:Int),by rw[a4];exact aT cT,aw,bR,cs,?_⟩
  intro dm b5 a5 cc bS
  have cg:Fr [u] W b5:=by rw[a5];exact Fr.set
  have cU:u<W.size:=by have:=ag.size;omega
  have hd:((l.length:Int)-(p+1)).toNat< ((l.length:Int)-p).toNat:=by omega
  rw[xT (n:=p+1) (by omega)]
  have d2:TrAt U d ⟨M,w,u,none,0,0⟩ ⟨T,λk=>decide (k∈b),yM ks k ap,x,[],false⟩:=by rw[a2];exact X.putFrm av
  have d3:TrAt V d ⟨M,w,u,none,0,0⟩ ⟨T,λk=>decide (k∈b),yM (yM ks k ap) k (vi (v.sp.mem.seg k).n),x,[],false⟩:=by rw[a3];exact d2.putFrm c9
  have d4:TrAt W d ⟨M,w,u,none,0,0⟩ ⟨T,λk=>decide (k∈b),yM (yM ks k ap) k (vi (v.sp.mem.seg k).n),yM x k cW,[],false⟩:=by rw[a4];exact d3.putSeen aw
  have d5:TrAt b5 d ⟨M,w,u,none,0,0⟩ ⟨T,λk=>decide (k∈b),yM (yM ks k ap) k (vi (v.sp.mem.seg k).n),yM (yM x k cW) k (vi (v.sp.mem.seg k).n),[],false⟩:=by rw[a5];exact d4.putSeen cc
  have bg:Fr [w,u] S b5:=((af.mono (λj g _=>by simp at g;simp[g])).trans (bh.mono (λj g _=>by simp at g;simp[g]))).trans ((ag.mono (λj g _=>by simp at g;simp[g])).trans (cg.mono (λj g _=>by simp at g;simp[g])))
  refine⟨⟨by omega,⟨_,_,d5,by rw[cM];exact P.put k,by rw[cM];exact F.put k⟩,⟨dk,bU,?_,bO⟩,⟨dm,bX,by rw[a5];exact aT cU,bS⟩,a0.trans (y.fr.trans bg)⟩,hd⟩
  exact cg.get (by simp;omega) (ag.get (by simp;omega) (by rw[a3];exact aT cQ))
 rw[za a8]
 have I:p.toNat=l.length:=by omega
 rw[I,D9]at P F
 refine⟨_,o.hPtr,_,rfl,_,o.cd.cPtr,?_⟩
 have br:Own bB 3 1 gB (eZ r).length gC (zf (eZ r)):=by
  have h5:=Q.ext (e4.trans ae)
  have h9:=h5.keep f9 (λj g hm=>by have:=bo j g;simp at hm;omega)
  exact(h9.ext G).keep a0 (λj g hm=>by have:=bo j g;simp at hm;omega)
 refine HC.mono (qI o.cd.sp br.src rfl (by omega) (λj g=>by have:=bo j g;have:=z d.sp (by simp[Blk.all]);omega)) ?_
 rintro _ bC ⟨cV,ah⟩
 have ab:=o.withSp ah (λj g=>by simp at g;omega) cV
 refine⟨_,ab.hPtr,?_⟩
 have b2:=Sp.fresh_ok ok (eZ r)
 refine HC.mono (rP ab.cd b2) ?_
 rintro _ b6 ⟨f5,f7,f6,f8,rfl,bl,cz,aa,bm,bb⟩
 refine⟨_,_,_,rfl,?_⟩
 have ec:=z d.sp (by simp[Blk.all])
 have bM:TrAt bC d ⟨M,w,u,none,0,0⟩ ⟨T,λk=>decide (k∈b),ks,x,[],false⟩:=bK.keep ah (λj g hq=>by
  simp at g
  simp[TB.all]at hq
  omega)
 have d6:=bM.ext bb
 have dC:=v.sp.mem.dirtyOf_len r f8
 have cy:=bl.len
 have cG:(v.sp.fresh (eZ r)).mem=v.sp.mem:=rfl
 rw[cG]at cz aa bl cy
 have eC:=ah.size
 have zE:=d6.putCards (B:=f5) (n:=f7) (c:=f6) (l:=v.sp.mem.dirtyOf r f8) aa.src aa.lt ⟨cz,by omega⟩ (λj g hq=>by
  have h1:=bm j g
  have h2:=bM.lt j hq
  omega)
 rw[CH,CQ]
 refine⟨zE.1,λe9 cp=>?_⟩
 subst cp
 have dp:Fr (y9 d) H (aP b6 ⟨M,1028,none⟩ [vs f5 f7 f6] 0):=by
  have f1:Fr (y9 d) H bC:=N.fr.trans (ah.mono (λj g _=>by simp at g;simp[y9,g]))
  have f2:Fr (y9 d) H b6:=f1.trans bb.fr
  refine f2.trans' zE.2.1 (λj g _=>g) (λj g bq=>?_)
  simp at g;omega
 have cK:=ab.ext bb
 have cL:HpAt (aP b6 ⟨M,1028,none⟩ [vs f5 f7 f6] 0) d {v with sp:=v.sp.fresh (eZ r)}:=cK.keep zE.2.1 (λj g hb=>by
  have:=z j hb
  simp at g;omega)
 refine hR _ _ ⟨λh=>absurd es h,λ_=>⟨_,_,rfl,⟨⟨cL,b2,zE.2.2,λj g hb=>?_⟩,he,dz,rfl⟩,?_,λj g=>?_,dp⟩⟩
 ·have h1:=z j hb
  simp only[TB.all,CR]at g
  rcases g with h | h | h | h
  ·omega
  ·omega
  ·omega
  ·have:=bm j h;have:=N.size;omega
 ·have az: ∀bw:List (Int×Value),Told v.sp.mem bw l-> ∀k:Int,0<=k->yG bw k=if v.sp.mem.has k/\(v.sp.mem.seg k.toNat).gen=T then some (vi (v.sp.mem.seg k.toNat).n)else none:=by
   intro bw ht k hk
   rw[ht k]
   refine kQ ?_ _ _
   rw[hl.perm.mem_iff]
   unfold Mem.takenTo
   rw[Dm,Dc]
   have h1:=(ok.mem.seg k.toNat).taken
   constructor
   ·rintro⟨_,h3,h4⟩
    simp only[CZ,CN,Dw,List.isEmpty_iff]at h4
    have h5:(v.sp.mem.seg k.toNat).gen∈[T]:=h4.2.resolve_left (by simp)
    exact⟨⟨hk,by omega,by omega⟩,by simpa using h5⟩
   ·rintro⟨h3,h4⟩
    have h5:=h3.2.2
    refine⟨hk,by have:=h3.2.1;omega,?_⟩
    simp only[CZ,CN,Dw]
    exact⟨by omega,.inr (by rw[h4];simp)⟩
  refine⟨rfl,λk hk=>?_,λk hk=>?_,λk hk=>?_,λk hk=>?_,λk hk=>?_,⟨f8,bl,rfl⟩,rfl⟩
  ·show decide (k∈b)=_
   unfold Mem.young
   rw[decide_eq_decide,ao.perm.mem_iff]
   unfold Mem.takenTo
   rw[Dm,Dc]
   have h1:=(ok.mem.seg k).taken
   have h2:=(ok.mem.seg k).gen
   have cE:((k:Nat):Int).toNat=k:=by omega
   constructor
   ·rintro⟨h3,h4⟩
    simp only[CZ,CN,Dw,List.isEmpty_iff]at h4
    have h5:(v.sp.mem.seg k).gen∈eZ r:=by
     rcases h4.2 with h | h
     ·rw[h]at E;simp at E;omega
     ·exact h
    exact⟨⟨by omega,by omega,by rw[cE];omega⟩,(lQ.1 h5).2⟩
   ·rintro⟨h3,h4⟩
    have h5:=h3.2.2
    rw[cE]at h5
    refine⟨by have:=h3.2.1;omega,?_⟩
    simp only[CZ,CN,Dw]
    exact⟨by omega,.inr (lQ.2 ⟨h2.1,h4⟩)⟩
  ·exact az _ P k hk
  ·exact az _ F k hk
  ·show yG ks k=none
   rw[P k,za (by omega)]
  ·show yG x k=none
   rw[F k,za (by omega)]
 ·simp only[TB.all,CR]at g
  have:=c7.size
  rcases g with h | h | h | h
  ·omega
  ·omega
  ·omega
  ·have:=bm j h;have:=N.size;omega
def Mem.give(m:Mem)(k:Int):Mem:=if m.has k then{m with free:=m.free+1}.upd k.toNat Seg.none else m
theorem bD.give{m:Mem}(a:bD m)(k:Int):bD (m.give k):=by
 unfold Mem.give
 split
 ·rename_i h
  refine⟨a.lim,λi=>?_,?_,a.count⟩
  ·rw[Do]
   split
   ·exact nB
   ·exact a.seg i
  ·show m.free+1=_
   have b:({m with free:=m.free+1}.upd k.toNat Seg.none).nfree=(m.upd k.toNat Seg.none).nfree:=rfl
   have:=Mem.nfree_give (m:=m) (k:=k.toNat) (s:=Seg.none) (by have:=h.1;have:=h.2.1;omega) h.2.2 rfl
   rw[b,this,a.free];omega
 ·exact a
theorem nG{m:Mem}{k:Int}(h:cS H z A m)(x:bD m):
  fX.C (some ⟨z,0,none⟩) k H (λv q=>v=vi (if m.has k then 0 else 19)/\cS q z A (m.give k)/\Fr [z,A] H q):=by
 refine HC.via λR p=>fX.link ?_
 unfold fX.pt zY
 refine HC.mono (mQ h) ?_
 rintro _ y ⟨rfl,rfl⟩
 refine⟨_,rfl,?_⟩
 by_cases hk:m.has k
 case neg=>
  rw[za hk,CP]
  have e:m.give k=m:=by unfold Mem.give;rw[za hk]
  rw[e,za hk]at p
  exact p _ _ ⟨rfl,h,Fr.refl _ _⟩
 rw[qB hk,CK]
 have f:k.toNat<m.limit:=by have:=hk.1;have:=hk.2.1;omega
 have c:=h.canPuts (k:=k.toNat) (o:=0) (n:=72) f (by omega)
 rw[Nat.add_zero]at c
 refine⟨c,λr l=>?_⟩
 obtain⟨N,E,M,J⟩:=qW
 obtain⟨a,g⟩:=h.puts (k:=k.toNat) (o:=0) (vs:=N.toList) (s:=Seg.none) f (by simp;omega) (λj w=>by rw[CQ,Array.getElem?_toList];exact J j (by simp at w;omega)) (λj w K=>by simp at K;omega)
 rw[Nat.add_zero]at a g
 have D:r=aP y ⟨A,k.toNat*72,none⟩ N.toList 0:=by rw[l,E]
 rw[<-D]at a g
 have u:m.free<=1024/\0<=m.free:=by
  have:=x.lim
  have:m.nfree<=(List.range m.limit).length:=EF
  simp at this
  rw[x.free];omega
 refine⟨_,rfl,m.free,by rw[CH];exact a.freeAt,by rw[CH];exact cR a.mem.choose_spec _ _ _ (by simp),λt b=>?_⟩
 rw[CH,bY _ _ _ _ _ a.mem.choose_spec,xT (n:=m.free+1) (by omega)]at b
 have e:m.give k={m with free:=m.free+1}.upd k.toNat Seg.none:=by unfold Mem.give;rw[qB hk]
 have G:cS t z A (m.give k):=by
  rw[e]
  subst b
  obtain⟨B,I,L⟩:=a.segs
  exact⟨⟨a.mem.choose,by rw[aT a.lt.1];rfl⟩,h.ne,B,by rw[iY h.ne];exact I,L⟩
 have F:Fr [z] r t:=by subst b;exact Fr.set
 exact p _ _ ⟨by rw[qB hk],G,g.trans' F (λi d _=>by simp at d;simp[d]) (λi d _=>by simp at d;simp[d])⟩
def Sp.give(s:Sp)(k:Int):Sp:=if s.mem.has k then{mem:=s.mem.give k,cur:=λi j=>if s.cur i j=k+1 then 0 else s.cur i j}else s
theorem Sp.give_ok(c:SpOK u)(k:Int):SpOK (u.give k):=by
 unfold Sp.give
 split
 ·rename_i hk
  refine⟨c.mem.give k,λg j=>?_⟩
  by_cases h:u.cur g j=k+1
  ·exact .inl (qB h)
  ·have a:({mem:=u.mem.give k,cur:=λi j=>if u.cur i j=k+1 then 0 else u.cur i j}:Sp).cur g j=u.cur g j:=za h
   rw[a]
   rcases c.cur g j with f | ⟨l,b,m,n⟩
   ·exact .inl f
   ·have hn:(u.cur g j-1).toNat≠k.toNat:=by have:=b.1;have:=hk.1;omega
    have e:(u.mem.give k).seg (u.cur g j-1).toNat=u.mem.seg (u.cur g j-1).toNat:=by unfold Mem.give;rw[qB hk,DE _ _ hn]
    have d:(u.mem.give k).limit=u.mem.limit:=by unfold Mem.give;rw[qB hk];rfl
    exact .inr ⟨l,⟨b.1,by show _< ((u.mem.give k).limit:Int);rw[d];exact b.2.1,by show((u.mem.give k).seg _).taken≠0;rw[e];exact b.2.2⟩,by show((u.mem.give k).seg _).gen=_;rw[e];exact m,by show((u.mem.give k).seg _).kind=_;rw[e];exact n⟩
 ·exact c
theorem rQ{k:Int}(h:SpAt H d u)(l:SpOK u)(M:0<=k/\k<=1024):
  eL.C (some ⟨d.sp,0,none⟩) k H (λv I=>(∃e:Int,v=vi e)/\SpAt I d (u.give k)/\Fr [d.sp,d.m,d.s] H I):=by
 refine HC.via λR t=>eL.link ?_
 unfold eL.pt zY
 refine HC.mono (mt h) ?_
 rintro _ H1 ⟨rfl,rfl⟩
 refine⟨_,rfl,?_⟩
 rw[za (by decide)]
 refine⟨_,rfl,_,h.memPtr,?_⟩
 refine HC.mono (gt h.mem) ?_
 rintro _ H2 ⟨rfl,P⟩
 refine⟨_,_,_,_,_,_,_,_,rfl,λc3 H3 D A=>?_⟩
 obtain⟨E,Y⟩:=jB (u.mem.segOr k) D A
 refine⟨E,λN B=>?_⟩
 obtain⟨Q,y,z,_,_⟩:=Y N B
 have f:=P.trans Q
 have b:=h.ext f
 by_cases hk:u.mem.has k
 case neg=>
  rw[za (by simpa using hk)]
  refine⟨_,b.memPtr,?_⟩
  refine HC.mono (nG b.mem l.mem) ?_
  rintro _ J ⟨rfl,x,o⟩
  have e:u.give k=u:=by unfold Sp.give;rw[za hk]
  have O:u.mem.give k=u.mem:=by unfold Mem.give;rw[za hk]
  rw[O]at x
  rw[e]at t
  exact⟨_,rfl,t _ _ ⟨⟨_,rfl⟩,b.withMem o (by have:=h.ne;simp;omega) x,f.fr.trans (o.mono (λi c _=>by simp at c;simp;omega))⟩⟩
 rw[qB (zX hk)]
 have G:u.mem.segOr k=u.mem.seg k.toNat:=by unfold Mem.segOr;rw[qB hk]
 rw[G]at y z
 have V:=(l.mem.seg k.toNat).gen
 have X:=(l.mem.seg k.toNat).kind
 have q:=b.curAt (g:=(u.mem.seg k.toNat).gen.toNat) (k:=(u.mem.seg k.toNat).kind.toNat) (by omega) (by omega)
 refine⟨_,y,_,by rw[CH];exact z,⟨by omega,by omega⟩,⟨by omega,by omega⟩,_,by simp only[CH,CQ,Dd];exact q,?_⟩
 rw[xT (n:=k+1) (by omega)]
 have K:u.give k={mem:=u.mem.give k,cur:=λi j=>if u.cur i j=k+1 then 0 else u.cur i j}:=by unfold Sp.give;rw[qB hk]
 have a: ∀i j:Nat,u.cur i j=k+1->i=(u.mem.seg k.toNat).gen.toNat/\j=(u.mem.seg k.toNat).kind.toNat:=λi j F=>by
  rcases l.cur i j with h0 | ⟨h1,h2,S,b⟩
  ·have:=hk.1;omega
  ·rw[F,show(k+1-1).toNat=k.toNat by omega]at S b
   omega
 by_cases w:u.cur (u.mem.seg k.toNat).gen.toNat (u.mem.seg k.toNat).kind.toNat=k+1
 ·rw[qB w]
  have s:=b.putCur (g:=(u.mem.seg k.toNat).gen.toNat) (k:=(u.mem.seg k.toNat).kind.toNat) (v:=0) (by omega) (by omega)
  refine⟨_,y,_,by rw[CH];exact z,⟨by omega,by omega⟩,⟨by omega,by omega⟩,by simp only[CH,CQ,Dd];exact s.1,λJ p=>?_⟩
  simp only[CH,CQ,Dd]at p
  subst p
  refine⟨_,s.2.1.memPtr,?_⟩
  refine HC.mono (nG s.2.1.mem l.mem) ?_
  rintro _ H6 ⟨rfl,Z,L⟩
  have U:=s.2.1.withMem L (by have:=h.ne;simp;omega) Z
  refine⟨_,rfl,t _ _ ⟨⟨_,rfl⟩,?_,(f.fr.trans (s.2.2.mono (λi c _=>by simp at c;simp[c]))).trans (L.mono (λi c _=>by simp at c;simp;omega))⟩⟩
  rw[K]
  refine U.alike rfl (λi j c W=>?_)
  show(if u.cur i j=k+1 then 0 else u.cur i j)=(if i=_/\j=_ then 0 else u.cur i j)
  refine kQ ⟨a i j,λr=>?_⟩ _ _
  rw[r.1,r.2];exact w
 ·rw[za w]
  refine⟨_,b.memPtr,?_⟩
  refine HC.mono (nG b.mem l.mem) ?_
  rintro _ J ⟨rfl,x,o⟩
  have T:=b.withMem o (by have:=h.ne;simp;omega) x
  refine⟨_,rfl,t _ _ ⟨⟨_,rfl⟩,?_,f.fr.trans (o.mono (λi c _=>by simp at c;simp;omega))⟩⟩
  rw[K]
  refine T.alike rfl (λi j c W=>?_)
  show(if u.cur i j=k+1 then 0 else u.cur i j)=u.cur i j
  rw[za (λr=>w (by have:=a i j r;rw[<-this.1,<-this.2];exact r))]
def Mem.cardLen(m:Mem)(k c:Int):Nat:=(min 16 ((m.seg k.toNat).n-c*16)).toNat
def Mem.markOf(m:Mem)(k c:Int)(n:Nat):Int:=(m.row (k*64+c*16) n).foldl (λmk w=>m.younger (m.seg k.toNat) w mk) 5
def Mem.again(m:Mem)(k c:Int):Mem:=if m.has k/\0<=c/\c<4 then(m.mark k c (m.markOf k c (m.cardLen k c))).1 else m
theorem Mem.markOf_succ(m:Mem)(k c:Int)(n:Nat):m.markOf k c (n+1)=m.younger (m.seg k.toNat) (m.get (k*64+c*16+n)) (m.markOf k c n):=by
 unfold Mem.markOf Mem.row
 rw[DP,C7,D5];rfl
theorem Ek:type_of% @Mem.markOf_succ:=@Mem.markOf_succ
theorem pl{d:Value}{b:Blk}{s:Sp}{p1 p2 p3:Nat}{k c:Int}{R0:zV->Prop}(Inv:Nat->zV->Prop)(y:SpOK s)(hk:s.mem.has k)(L:0<=c/\c<4)(D:Inv 0 H)
  (r: ∀j A,Inv j A->SpAt A b s/\hat A ⟨b.c,0,none⟩=some (vp (some ⟨b.sp,0,none⟩))/\hat A ⟨p1,0,none⟩=some (vp (some ⟨b.c,0,none⟩))/\hat A ⟨p2,0,none⟩=some (vi k)/\hat A ⟨p3,0,none⟩=some (vi c))
  (f: ∀j,j<s.mem.cardLen k c-> ∀A,Inv j A->FC prog d #[vu (s.mem.get (k*64+c*16+j))] A (λv z=>v=VT/\Inv (j+1) z))
  (e: ∀A,Inv (s.mem.cardLen k c) A->R0 A):
  eE.C d (some ⟨p1,0,none⟩) (some ⟨p2,0,none⟩) (some ⟨p3,0,none⟩) H (λv A=>v=.tuple #[]/\R0 A):=by
 refine HC.via λR u=>eE.link ?_
 unfold eE.pt zY
 have x:=y.mem.lim
 have N:=hk.1
 have O:=hk.2.1
 refine⟨λi A=> ∃j:Nat,i=j/\j<=s.mem.cardLen k c/\Inv j A,λi _=>(16-i).toNat,⟨0,rfl,Ef _,D⟩,?_⟩
 rintro i A ⟨j,rfl,M,m⟩
 have w:s.mem.cardLen k c<=16:=by unfold Mem.cardLen;omega
 by_cases g:(j:Int)<16
 ·rw[qB g]
  obtain⟨l,F,G,I,J⟩:=r j A m
  refine⟨_,rfl,_,G,_,rfl,_,F,_,rfl,_,l.memPtr,_,rfl,_,I,_,rfl,_,J,?_⟩
  rw[xT (n:=k*64) (by omega),xT (n:=c*16) (by omega),xT (n:=k*64+c*16) (by omega),xT (n:=k*64+c*16+j) (by omega)]
  refine HC.mono (jX l.mem y.mem (by omega)) ?_
  rintro _ B ⟨rfl,rfl⟩
  have p:(k*64+c*16+j) / 64=k:=by omega
  have t:(k*64+c*16+(j:Int)) % 64=c*16+j:=by omega
  by_cases o:s.mem.used (k*64+c*16+j)
  ·rw[qB o]
   refine⟨_,_,rfl,?_⟩
   rw[qB rfl]
   have a:j<s.mem.cardLen k c:=by
    have E:=o.2.2
    rw[p,t]at E
    unfold Mem.cardLen;omega
   refine(f j a B m).mono ?_
   rintro v K ⟨rfl,q⟩
   refine⟨true,rfl,?_⟩
   rw[qB rfl,xT (n:=(j:Int)+1) (by omega)]
   exact⟨⟨j+1,by omega,by omega,q⟩,by show(16-((j:Int)+1)).toNat< (16-(j:Int)).toNat;omega⟩
  ·rw[za o]
   refine⟨_,_,rfl,?_⟩
   rw[za (by decide)]
   have a:j=s.mem.cardLen k c:=by
    rcases C6 j (s.mem.cardLen k c)with h | h
    ·refine absurd ⟨by omega,by rw[p];exact hk,?_⟩ o
     rw[p,t]
     unfold Mem.cardLen at h;omega
    ·omega
   exact u _ _ ⟨rfl,e _ (a▸m)⟩
 ·rw[za g]
  have a:j=s.mem.cardLen k c:=by omega
  exact u _ _ ⟨rfl,e _ (a▸m)⟩
theorem Mem.younger_rng(b:bD o)(a:Seg)(w:Int)(h:0<=k/\k<=5):0<=o.younger a w k/\o.younger a w k<=5:=by
 have:=b.genOf w
 unfold Mem.younger
 split
 ·omega
 ·exact h
theorem Mem.markOf_rng{m:Mem}(a:bD m)(k c:Int): ∀n,0<=m.markOf k c n/\m.markOf k c n<=5
 | 0=>(by decide:(0:Int)<=5/\(5:Int)<=5)
 | n+1=>by rw[Ek];exact Mem.younger_rng a _ _ (Mem.markOf_rng a k c n)
theorem n8{b:Blk}{s:Sp}{k c:Int}(h:CdAt H b s)(ok:SpOK s)(ba: ∀i,i∈[b.c,b.sp,b.m,b.s]->i<H.size):
  dL.C (some ⟨b.c,0,none⟩) k c H (λv H'=>(∃e:Int,v=vi e)/\CdAt H' b {s with mem:=s.mem.again k c}/\Fr [b.m,b.s] H H'):=by
 refine HC.via λR U=>dL.link ?_
 unfold dL.pt
 intro c1 H1 b3 K
 have e1:Ext H H1:=CI K
 have g1:=aF b3 K
 refine⟨_,by rw[aI g1];rfl,?_⟩
 have h1:=h.ext e1
 have z1:H1.size=H.size+1:=by rw[K];simp
 refine HC.mono (lU h1) ?_
 rintro _ H2 ⟨rfl,rfl⟩
 refine⟨_,rfl,?_⟩
 rw[za (by decide)]
 refine⟨_,by rw[aI g1];rfl,_,rfl,_,h1.cPtr,_,rfl,_,h1.sp.memPtr,?_⟩
 refine HC.mono (gt h1.sp.mem) ?_
 rintro _ H3 ⟨rfl,W⟩
 refine⟨_,_,_,_,_,_,_,_,rfl,λc4 H4 aa L=>?_⟩
 obtain⟨b5,hs⟩:=jB (s.mem.segOr k) aa L
 refine⟨b5,λD a7=>?_⟩
 obtain⟨X,_,_,_,ae⟩:=hs D a7
 have bl:c4<D.size:=by
  have h4:H4.size=H3.size+1:=by rw[L];simp
  rw[a7,bY _ _ _ _ _ (aF aa L)];simp[h4];omega
 have n:=(e1.trans W).trans X
 have h5:=h.ext n
 have z3:=W.size
 by_cases hk:s.mem.has k
 case neg=>
  rw[za (by simpa using hk)]
  have e:s.mem.again k c=s.mem:=by unfold Mem.again;rw[za (λhh=>hk hh.1)]
  rw[e]at U
  exact U _ _ ⟨⟨_,rfl⟩,h5,n.fr⟩
 rw[qB (zX hk)]
 by_cases hc:0<=c/\c<4
 case neg=>
  rw[qB (by simp only[Dw,CN];omega)]
  have e:s.mem.again k c=s.mem:=by unfold Mem.again;rw[za (λhh=>hc hh.2)]
  rw[e]at U
  exact U _ _ ⟨⟨_,rfl⟩,h5,n.fr⟩
 rw[za (by simp only[Dw,CN];omega)]
 have bd:s.mem.segOr k=s.mem.seg k.toNat:=by unfold Mem.segOr;rw[qB hk]
 rw[bd]at ae
 intro E H6 b4 M
 have e6:Ext D H6:=CI M
 have g6:=aF b4 M
 obtain⟨ab,bc⟩:=ko (vs:=[vi 5]) g6 rfl rfl
 refine⟨ab,λT a8=>?_⟩
 obtain⟨g7,f7⟩:=bc T a8
 have z5:=X.size
 have e7:Ext D T:=e6.fr_trans f7 (λi g=>by simp at g;omega)
 have ay:T[c1]?=some (.cells #[vp (some ⟨b.c,0,none⟩)] 49 (0,0)):=e7.get (X.get (W.get g1))
 refine⟨_,by rw[aI ay];rfl,?_⟩
 refine fJ.link ?_
 unfold fJ.pt
 intro d1 W1 b6 O d2 W2 b7 P d3 l b8 Q
 have w1:Ext T W1:=CI O
 have w2:Ext W1 W2:=CI P
 have w3:Ext W2 l:=CI Q
 have y7:T.size=D.size+1:=by
  have:=f7.size
  have h6:H6.size=D.size+1:=by rw[M];simp
  rw[a8,bY _ _ _ _ _ g6];simp[h6]
 have y1:W1.size=T.size+1:=by rw[O];simp
 have y2:W2.size=W1.size+1:=by rw[P];simp
 have y3:l.size=W2.size+1:=by rw[Q];simp
 have az:l[d1]?=some (.cells #[vp (some ⟨b.c,0,none⟩)] 49 (0,0)):=w3.get (w2.get (aF b6 O))
 have aU:l[d2]?=some (.cells #[vi k] 3 (0,0)):=w3.get (aF b7 P)
 have aV:l[d3]?=some (.cells #[vi c] 3 (0,0)):=aF b8 Q
 have t:=(w1.trans w2).trans w3
 refine⟨rfl,?_⟩
 intro rc o p bR N vY hY
 have I:Ext l p:=(CI rfl).trans (CI N)
 have a4:p[l.size]?=some (.deferred (some [])):=by
  have:(l.push (.deferred (some [])))[l.size]?=some (.deferred (some [])):=aF rfl rfl
  exact(CI N).get this
 have aW:p[o]?=some (rc .ready none):=aF (by simp;omega) N
 have G:Ext D p:=(e7.trans t).trans I
 have h9:=h5.ext G
 have d: ∀i,i∈[b.c,b.sp,b.m,b.s]->i<H.size:=ba
 have bX:=n.size
 refine FE.of2 (DU func134 (by kernel_rfl) rfl) rfl (HC.mono (pl (b:=b) (s:=s) (p1:=d1) (p2:=d2) (p3:=d3) (k:=k) (c:=c)
  (λj A=>Fr [o,E] p A/\A[o]?=some (rc .ready none)/\A[E]?=some (.cells #[vi (s.mem.markOf k c j)] 3 (0,0))) ok hk hc
  ⟨Fr.refl _ _,aW,by rw[show s.mem.markOf k c 0=5 from rfl];exact I.get (t.get g7)⟩
  (λj A hI=>?_) (λj hj A hI=>?_) (R0:=λA=>Fr [o,E] p A/\A[o]?=some (rc .ready none)/\A[E]?=some (.cells #[vi (s.mem.markOf k c (s.mem.cardLen k c))] 3 (0,0))) (λA hI=>hI)) ?_)
 ·obtain⟨f,_,_⟩:=hI
  have r:=h9.keep f (by have:=d b.c (by simp);simp;omega) (by have:=d b.sp (by simp);simp;omega) (by have:=d b.m (by simp);simp;omega) (by have:=d b.s (by simp);simp;omega)
  refine⟨r.sp,r.cPtr,?_,?_,?_⟩
  ·rw[aI (f.get (by simp;omega) (I.get az))];rfl
  ·rw[aI (f.get (by simp;omega) (I.get aU))];rfl
  ·rw[aI (f.get (by simp;omega) (I.get aV))];rfl
 ·obtain⟨f,ql,qm⟩:=hI
  refine(hY _ A _ ql ⟨ql,λy u=>?_⟩)
  have Y:Fr [o] A y:=by rw[u];exact Fr.set
  have q:Fr [o,E] p y:=f.trans (Y.mono (λi g _=>by simp at g;simp[g]))
  have af:y[o]?=some (rc .busy none):=by rw[u];exact aT (aS ql)
  have x:=Y.get (by simp;omega) qm
  have r:=h9.keep q (by have:=d b.c (by simp);simp;omega) (by have:=d b.sp (by simp);simp;omega) (by have:=d b.m (by simp);simp;omega) (by have:=d b.s (by simp);simp;omega)
  have bb:=q.rowAt (a:=⟨c4,0,none⟩) (by show c4 ∉ [o,E];simp;omega) (G.rowAt ae)
  refine⟨_,by rw[aI (q.get (by simp;omega) ((e7.trans (t.trans I)).get (X.get (W.get g1))))];rfl,_,_,_,_,_,_,_,bb,_,by rw[aI x];rfl,?_⟩
  refine HC.mono (mR r ((ok.mem.seg _).words _)) ?_
  rintro _ bw ⟨rfl,F⟩
  refine⟨_,rfl,?_⟩
  obtain⟨ac,be⟩:=ko (vs:=[vi (s.mem.younger (s.mem.seg k.toNat) (s.mem.get (k*64+c*16+j)) (s.mem.markOf k c j))]) (F.get x) rfl rfl
  refine⟨ac,λao a5=>?_⟩
  obtain⟨ax,Z⟩:=be ao a5
  have w:=Z.get (by simp;omega) (F.get af)
  refine⟨w,rfl,?_,aT (aS w),?_⟩
  ·exact((q.trans F.fr).trans (Z.mono (λi g _=>by simp at g;simp[g]))).trans (Fr.set.mono (λi g _=>by simp at g;simp[g]))
  ·rw[Ek,iY (by omega)];exact ax
 ·rintro _ ap ⟨rfl,aw,ag,ah⟩
  refine⟨ag,λz a6=>?_⟩
  have a0:Fr [o] ap z:=by rw[a6];exact Fr.set
  have q:Fr [o,E] p z:=aw.trans (a0.mono (λi g _=>by simp at g;simp[g]))
  have r:=h9.keep q (by have:=d b.c (by simp);simp;omega) (by have:=d b.sp (by simp);simp;omega) (by have:=d b.m (by simp);simp;omega) (by have:=d b.s (by simp);simp;omega)
  have ai:=a0.get (by simp;omega) ah
  refine⟨_,by rw[aI (q.get (by simp;omega) ((e7.trans (t.trans I)).get (X.get (W.get g1))))];rfl,_,rfl,_,r.cPtr,_,rfl,_,r.sp.memPtr,_,by rw[aI ai];rfl,?_⟩
  refine HC.mono (pQ r.sp.mem) ?_
  rintro _ B ⟨rfl,bf,J⟩
  refine⟨_,rfl,?_⟩
  have e:s.mem.again k c=(s.mem.mark k c (s.mem.markOf k c (s.mem.cardLen k c))).1:=by unfold Mem.again;rw[qB ⟨hk,hc⟩]
  have V:=r.withMem (S:=[b.s]) J (λi g=>by simp at g;simp[g]) bf
  have a3:B[l.size]?=some (.deferred (some [])):=J.get (by have:=d b.s (by simp);simp;omega) (q.get (by simp;omega) a4)
  refine⟨a3,?_⟩
  have a1:Fr [l.size] B (B.setIfInBounds l.size (.deferred none)):=Fr.set
  rw[e]at U
  refine U _ _ ⟨⟨_,rfl⟩,V.keep a1 (by have:=d b.c (by simp);simp;omega) (by have:=d b.sp (by simp);simp;omega) (by have:=d b.m (by simp);simp;omega) (by have:=d b.s (by simp);simp;omega),?_⟩
  have av:Ext H p:=n.trans G
  have f1:Ext H z:=av.fr_trans q (λi g=>by simp at g;omega)
  refine(f1.fr.trans (J.mono (λi g _=>by simp at g;simp[g]))).trans' a1 (λi g _=>g) (λi g hl=>by simp at g;omega)
def Sp.gives(s:Sp)(old:Nat->Bool):Nat->Sp
 | 0=>s
 | n+1=>if old n then(s.gives old n).give n else s.gives old n
def Sp.agains(s:Sp)(l:List (Int×Int)):Sp:=l.foldl (λs c=>{s with mem:=s.mem.again c.1 c.2}) s
def Sp.ended(s:Sp)(t:Tr):Sp:=(s.gives t.old 1024).agains t.cards
theorem Sp.agains_snoc(s:Sp)(l:List (Int×Int))(c:Int×Int):s.agains (l++[c])={s.agains l with mem:=(s.agains l).mem.again c.1 c.2}:=by
 unfold Sp.agains;rw[D5];rfl
theorem Sp.gives_ok{s:Sp}(a:SpOK s)(old:Nat->Bool): ∀n,SpOK (s.gives old n)
 | 0=>a
 | n+1=>by
  unfold Sp.gives
  split
  ·exact Sp.give_ok (Sp.gives_ok a old n) _
  ·exact Sp.gives_ok a old n
theorem Mem.give_even(b:o.Even)(k:Int):(o.give k).Even:=by
 unfold Mem.give
 split
 ·intro i a
  rw[Do]at a⊢
  split
  ·rfl
  ·rename_i h;rw[za h]at a;exact b i a
 ·exact b
theorem Sp.give_even(a:u.mem.Even)(k:Int):(u.give k).mem.Even:=by
 unfold Sp.give
 split
 ·exact Mem.give_even a k
 ·exact a
theorem Sp.gives_even{s:Sp}(a:s.mem.Even)(old:Nat->Bool): ∀n,(s.gives old n).mem.Even
 | 0=>a
 | n+1=>by
  unfold Sp.gives
  split
  ·exact Sp.give_even (Sp.gives_even a old n) _
  ·exact Sp.gives_even a old n
theorem Mem.again_seg(m:Mem)(k c:Int):(m.again k c).limit=m.limit/\(m.again k c).free=m.free/\(m.again k c).count=m.count/\ ∀i,((m.again k c).seg i).gen=(m.seg i).gen/\((m.again k c).seg i).kind=(m.seg i).kind/\((m.again k c).seg i).n=(m.seg i).n/\((m.again k c).seg i).taken=(m.seg i).taken/\((m.again k c).seg i).words=(m.seg i).words:=by
 unfold Mem.again
 split
 ·unfold Mem.mark
  split
  ·exact⟨rfl,rfl,rfl,λi=>⟨rfl,rfl,rfl,rfl,rfl⟩⟩
  split
  ·exact⟨rfl,rfl,rfl,λi=>⟨rfl,rfl,rfl,rfl,rfl⟩⟩
  ·refine⟨rfl,rfl,rfl,λi=>?_⟩
   rw[Do]
   split
   ·rename_i h;rw[h];exact⟨rfl,rfl,rfl,rfl,rfl⟩
   ·exact⟨rfl,rfl,rfl,rfl,rfl⟩
 ·exact⟨rfl,rfl,rfl,λi=>⟨rfl,rfl,rfl,rfl,rfl⟩⟩
theorem Mem.again_has(m:Mem)(d c:Int):(m.again d c).has k ↔ m.has k:=by
 obtain⟨a,_,_,b⟩:=m.again_seg d c
 unfold Mem.has;rw[a,(b _).2.2.2.1]
theorem Mem.again_ok(a:bD o)(k c:Int):bD (o.again k c):=by
 unfold Mem.again
 split
 ·exact a.mark _ _ _
 ·exact a
theorem SpOK.again(a:SpOK u)(k c:Int):SpOK {u with mem:=u.mem.again k c}:=
 a.withMem (Mem.again_ok a.mem k c) (λi h=>(Mem.again_has _ _ _).2 h) (λi=>⟨((u.mem.again_seg k c).2.2.2 i).1,((u.mem.again_seg k c).2.2.2 i).2.1⟩)
theorem TrAt.putOver(h:TrAt H d j i):
  aH H ⟨j.t,1029,none⟩ 0 1/\Fr [j.t] H (aP H ⟨j.t,1029,none⟩ [vi 1] 0)/\TrAt (aP H ⟨j.t,1029,none⟩ [vi 1] 0) d j {i with over:=true}:=by
 obtain⟨t,e,A,c,u,w,D,b⟩:=h.put (o:=1029) (v:=vi 1) (by omega)
 obtain⟨x,y,z⟩:=h.rest e
 refine⟨t,e,?_⟩
 obtain⟨g,f,B,k,l,m,n,p,q,C⟩:=h.tr
 rw[u]at f;cases f
 exact⟨⟨c,w,by omega,by rw[b,za (by omega)];exact k,by rw[b,za (by omega)];exact l,λE s=>by rw[b,za (by omega)];exact m E s,by rw[b,za (by omega)];exact n,by rw[b,za (by omega)];exact p,by rw[b,za (by omega)];exact q,by rw[b,qB rfl];rfl⟩,x,y,z,λa r=>DJ (h.cB a r) e.size,h.clen,h.ne⟩
theorem vU{R:zv}(T:Tg H d v j i)
  (hR: ∀ax y,HpAt y d {v with sp:=v.sp.ended i,ep:=IntKind.wrap .u64 (v.ep+1)}/\TrAt y d j {i with over:=true}/\Fr (d.h::j.t::y9 d) H y->R ax y):dI.pt (some ⟨j.t,0,none⟩) H R:=by
 unfold dI.pt zY
 refine HC.mono (k8 T.toTc) ?_
 rintro _ H1 ⟨rfl,rfl⟩
 refine⟨_,rfl,?_⟩
 rw[za (by rw[T.on];decide)]
 have t:aL H1 ⟨j.t,2,none⟩ 0 ((List.range 1024).map λk=> vi (if i.old k then 1 else 0)):=by
  obtain⟨cs,h1,_,_,_,h5,_⟩:=T.tr.tr
  refine eJ h1 _ 2 0 (λaw a=>?_)
  simp only[Dl,EL]at a
  rw[Nat.add_zero,h5 aw a,List.getElem?_map,List.getElem?_range a];rfl
 refine⟨_,rfl,(List.range 1024).map (λk=> vi (if i.old k then 1 else 0)),by rw[Dl,EL],by rw[CH];exact t,?_⟩
 refine⟨λav A=>(0<=av/\av<=1024)/\Tc A d {v with sp:=v.sp.gives i.old av.toNat} j i/\Fr (y9 d) H1 A,λav _=>(1024-av).toNat,⟨by omega,T.toTc,Fr.refl _ _⟩,?_⟩
 rintro av H2 ⟨hi,b,E⟩
 by_cases l:av<1024
 ·rw[qB l]
  have P:av.toNat<1024:=by omega
  have z:(1024-(av+1)).toNat< (1024-av).toNat:=by omega
  have hw:IntKind.wrap .i64 (av+1)=av+1:=xT (by omega)
  have x:(av+1).toNat=av.toNat+1:=by omega
  refine⟨(if i.old av.toNat then 1 else 0),⟨⟨hi.1,l⟩,?_⟩,?_⟩
  ·rw[List.getElem?_toArray,List.getElem?_map,List.getElem?_range P];rfl
  by_cases B:i.old av.toNat=true
  ·rw[qB (by rw[qB B])]
   obtain⟨U,V,p3,p4⟩:=b.s1
   refine⟨_,U,_,rfl,_,V,_,rfl,_,p3,?_⟩
   refine HC.mono (rQ b.hp.cd.sp b.ok (by omega)) ?_
   rintro _ H3 ⟨⟨e,rfl⟩,W,F⟩
   rw[hw]
   refine⟨_,rfl,⟨by omega,?_,E.trans F⟩,z⟩
   have D:v.sp.gives i.old (av+1).toNat=(v.sp.gives i.old av.toNat).give av:=by rw[x];show(if _ then _ else _)=_;rw[qB B,show((av.toNat:Nat):Int)=av by omega]
   rw[D]
   exact b.step F (λaw a=>jO a) (b.hp.withSp F (λaw a=>by simp at a;omega) W) (Sp.give_ok b.ok av)
  ·rw[za (by rw[za B];decide),hw]
   refine⟨⟨by omega,?_,E⟩,z⟩
   have D:v.sp.gives i.old (av+1).toNat=v.sp.gives i.old av.toNat:=by rw[x];show(if _ then _ else _)=_;rw[za B]
   rw[D];exact b
 rw[za l]
 have r:av.toNat=1024:=by omega
 rw[r]at b
 have a7:=Sp.gives_even T.even i.old 1024
 refine⟨_,_,_,by rw[CH];exact b.tr.cAt,?_⟩
 obtain⟨ac,ae⟩:=T.tr.clen
 refine⟨λav A=>(0<=av/\av<=j.cN)/\Tc A d {v with sp:=(v.sp.gives i.old 1024).agains (i.cards.take av.toNat)} j i/\Fr (y9 d) H1 A,λav _=>(j.cN-av).toNat,⟨by omega,b,E⟩,?_⟩
 rintro av Y ⟨O,m,f4⟩
 by_cases g:av< (j.cN:Int)
 ·rw[qB g]
  have s:av.toNat<i.cards.length:=by omega
  obtain⟨ca,L,w⟩:=qa m.tr.cards s
  have z:((j.cN:Int)-(av+1)).toNat< ((j.cN:Int)-av).toNat:=by omega
  generalize M:i.cards[av.toNat]=f at*
  refine⟨ca,L,⟨O.1,g⟩,f.1,f.2,w,λc5 H5 K p=>?_⟩
  obtain⟨N,hs⟩:=boxed (vs:=[vi f.1,vi f.2]) (H1:=H5) (aF K p) rfl rfl
  refine⟨N,λZ J=>?_⟩
  obtain⟨u,I⟩:=hs Z J
  have o:Ext Y Z:=I Y (CI p) (by omega)
  have c:=m.ext o
  obtain⟨U,V,p3,p4⟩:=c.s1
  refine⟨_,U,_,rfl,_,V,_,u.1,_,by rw[CH];exact u.2.1,?_⟩
  refine HC.mono (n8 c.hp.cd c.ok (λaw a=>c.hp.lt aw (by simp at a;simp[Blk.all];omega))) ?_
  rintro _ H7 ⟨⟨e,rfl⟩,C,G⟩
  rw[xT (n:=av+1) (by omega)]
  refine⟨_,rfl,⟨by omega,?_,f4.trans (o.fr.trans (G.mono (λaw a _=>by simp at a;simp[y9];omega)))⟩,z⟩
  have et:i.cards.take (av+1).toNat=i.cards.take av.toNat++[f]:=by
   rw[show(av+1).toNat=av.toNat+1 by omega,Db s,M]
  rw[et,Sp.agains_snoc]
  exact c.step G (λaw a=>by simp at a;simp[Blk.all];omega) (c.hp.withCd G (λaw a=>by simp at a;omega) C) (c.ok.again f.1 f.2)
 rw[za g]
 rw[De (by omega)]at m
 refine⟨_,m.tr.hPtr,?_⟩
 refine HC.mono (t8 m.view) ?_
 rintro _ H8 ⟨V8,f8⟩
 have Q: ∀aw∈Ax (some (d,v)),aw ∉ j.all:=λaw a hq=>T.apart aw hq (by simp[Ax]at a;simp[Blk.all,a])
 have X:=m.tr.keep f8 (λaw a=>Q aw a)
 obtain⟨_,S,ai⟩:=View.inv V8
 have zE:=X.putOver
 rw[CH]
 refine⟨zE.1,λH9 q=>?_⟩
 rw[show(0:Nat)+1029=1029 from rfl]at q
 subst q
 refine hR _ _ ⟨S.keep zE.2.1 (λaw a hb=>T.apart j.t (by simp[TB.all]) (by simp at a;rw[<-a];exact hb)),zE.2.2,?_⟩
 refine((f4.mono (λaw a _=>by simp[a])).trans (f8.mono (λaw a _=>by simp[Ax]at a;simp[a]))).trans (zE.2.1.mono (λaw a _=>by simp at a;simp[a]))
theorem vV(T:Tg H d v j i):
  dI.CD (some ⟨j.t,0,none⟩) H (λa=>HpAt a d {v with sp:=v.sp.ended i,ep:=IntKind.wrap .u64 (v.ep+1)}/\TrAt a d j {i with over:=true}/\Fr (d.h::j.t::y9 d) H a):=
 HD.mono (dI.linkD (vU (R:=λ_ a=>HpAt a d {v with sp:=v.sp.ended i,ep:=IntKind.wrap .u64 (v.ep+1)}/\TrAt a d j {i with over:=true}/\Fr (d.h::j.t::y9 d) H a) T (λ_ _ h=>h))) (λ_ ⟨_,h⟩=>h)
def hZ(lo hi:Int):Nat:=((hi-lo+1) / 2).toNat
def jU(k lo:Int)(n:Nat):List Int:=(List.range n).map λj:Nat=>k*64+(lo+2*(j:Int))
theorem rR(k a:Int)(n:Nat):jU k a (n+1)=jU k a n++[k*64+(a+2*(n:Int))]:=by
 unfold jU;rw[DP,C7];rfl
theorem lW(k a:Int)(n:Nat):(jU k a n).length=n:=by simp[jU]
def Mem.weakSeg(m:Mem)(t:Tr)(k:Nat):List Int:=if(m.seg k).kind=1/\t.old k=false then jU k (seenAt t.frm k) (hZ (seenAt t.frm k) (m.seg k).n)else[]
def Mem.weakCard(m:Mem)(c:Int×Int):List Int:=if(m.segOr c.1).kind=1 then jU c.1 (c.2*16) (hZ (c.2*16) (min (m.segOr c.1).n ((c.2+1)*16)))else[]
def Mem.weaks(m:Mem)(t:Tr)(l:List Nat):List Int:=l.flatMap (m.weakSeg t)++t.cards.flatMap m.weakCard
theorem oY{H:zV}{a:Int}{c n z:Nat}{B:zW}{ws:List Int}(hk:0<=k/\k<1024)(X:0<=r/\r<=64)(hh:a<=64)(P:H[c]?=some (.cells #[vs B n z] 75 (0,0)))(K:Own H 3 1 B n z (zf ws))(G:c ∉ kd B)(hn:n<=1000000)(Y:n=ws.length):
  bN.C k r a (some ⟨c,0,none⟩) H (λ_ y=> ∃(d:zW) (b:Nat),y[c]?=some (.cells #[vs d (n+hZ r a) b] 75 (0,0))/\Own y 3 1 d (n+hZ r a) b (zf (ws++jU k r (hZ r a)))/\Fr (c::kd B) H y/\(∀j∈kd d,j∈kd B\/H.size<=j)):=by
 refine HC.via λR V=>bN.link ?_
 unfold bN.pt zY
 have wl:hZ r a<=33:=by unfold hZ;omega
 have W:=aS P
 refine⟨λi A=> ∃(j:Nat) (d:zW) (b:Nat),i=r+2*(j:Int)/\j<=hZ r a/\A[c]?=some (.cells #[vs d (n+j) b] 75 (0,0))/\Own A 3 1 d (n+j) b (zf (ws++jU k r j))/\Fr (c::kd B) H A/\(∀j∈kd d,j∈kd B\/H.size<=j),λi _=>(100-i).toNat,
  ⟨0,B,z,by omega,by omega,P,by simpa[jU]using K,Fr.refl _ _,λj x=> .inl x⟩,?_⟩
 rintro i A ⟨j,d,b,rfl,x,o,l,w,e⟩
 by_cases t:r+2*(j:Int)<a
 ·rw[qB t]
  have p:j+1<=hZ r a:=by unfold hZ;omega
  refine⟨_,rfl,_,_,_,by rw[aI o];rfl,?_⟩
  rw[xT (n:=k*64) (by omega),xT (n:=k*64+(r+2*(j:Int))) (by omega),xT (n:=r+2*(j:Int)+2) (by omega)]
  intro c2 S E s
  have v:Ext A S:=CI s
  refine cI (ys:=[vi (k*64+(r+2*(j:Int)))]) (l.ext v) (eJ (aF E s) _ 0 0 (λj x=>by
   simp only[List.length_cons,List.length_nil]at x
   obtain rfl:j=0:=by omega
   rfl)) rfl rfl rfl (by omega) ?_
  intro L M H3 u N J
  have f:c ∉ kd d:=λh=>by
   rcases e c h with q | q
   ·exact G q
   ·omega
  have F:=N.get f (v.get o)
  obtain⟨I,Z⟩:=ko (vs:=[vs L (n+j+1) M]) F rfl rfl
  refine⟨I,λT D=>?_⟩
  obtain⟨U,O⟩:=Z T D
  have m: ∀i∈kd L,i∈kd d\/A.size<=i:=λi a=>by
   rcases J i a with q | q
   ·exact .inl q
   ·have:=v.size;exact .inr (by omega)
  have Q:c<A.size:=by have:=w.size;omega
  have g:=u.keep O (λi a hm=>by
   simp at hm
   rcases m i a with q | q
   ·exact f (hm▸q)
   ·omega)
  have zA:=w.size
  refine⟨⟨j+1,L,M,by omega,p,U,?_,?_,λi a=>?_⟩,by show(100-(r+2*(j:Int)+2)).toNat< (100-(r+2*(j:Int))).toNat;omega⟩
  ·rw[rR,<-DL]
   unfold zf at g⊢
   rw[C7];exact g
  ·refine((w.trans v.fr).trans' N (λi a _=>a) (λi a X=>?_)).trans (O.mono (λi a _=>by simp at a;simp[a]))
   rcases e i a with q | q
   ·exact Dt _ q
   ·omega
  ·rcases m i a with q | q
   ·exact e i q
   ·exact .inr (by omega)
 ·rw[za t]
  have p:j=hZ r a:=by unfold hZ at*;omega
  subst p
  exact V _ _ ⟨d,b,o,l,w,e⟩
theorem Mem.weakSeg_len(b:bD o)(a:iL i.frm)(k:Nat):(o.weakSeg i k).length<=33:=by
 unfold Mem.weakSeg
 split
 ·rw[lW]
  obtain⟨_,c,d⟩:=k9 a (k:Int)
  have:=(b.seg k).n
  unfold hZ;omega
 ·exact Ef _
theorem Mem.weakCard_len(a:bD o){c:Int×Int}(b:0<=c.2):(o.weakCard c).length<=33:=by
 unfold Mem.weakCard
 split
 ·rw[lW]
  have:=(qb a c.1).n
  unfold hZ;omega
 ·exact Ef _
theorem my{α β:Type}{f:α->List β}{n:Nat}: ∀l:List α,(∀a∈l,(f a).length<=n)->(l.flatMap f).length<=n*l.length
 | [],_=>by simp
 | a::l,h=>by
  have d:=h a (by simp)
  have e:=my l (λb c=>h b (by simp[c]))
  rw[List.flatMap_cons,CV,List.length_cons,Nat.mul_succ];omega
theorem ug{H:zV}(T:Tg H d v j i)(hf:iL i.frm)(b5:nZ i.cards):
  dQ.C (some ⟨j.t,0,none⟩) H (λdj H'=> ∃(l:List Nat) (B:zW) (n c:Nat),dA v.sp.mem [i.tgt] l/\dj=vs B n c/\n=(v.sp.mem.weaks i l).length/\Own H' 3 1 B n c (zf (v.sp.mem.weaks i l))/\(∀di∈kd B,H.size<=di)/\n<=300000/\Ext H H'):=by
 refine HC.via λR hR=>dQ.link ?_
 unfold dQ.pt zY
 refine HC.mono (k8 T.toTc) ?_
 rintro _ H1 ⟨rfl,rfl⟩
 refine⟨_,rfl,?_⟩
 rw[za (by rw[T.on];decide)]
 intro z L bK a7
 have e2:Ext H1 L:=CI a7
 have g2:=aF bK a7
 have z2:L.size=H1.size+1:=by rw[a7];simp
 have T2:=T.grow e2
 obtain⟨p1,p2,p3,p4⟩:=T2.s1
 refine⟨_,rfl,_,p1,_,rfl,_,p2,_,rfl,_,p3,_,rfl,_,p4,_,by rw[CH];exact T2.tr.tgtAt,?_⟩
 intro c3 H3 bM a8
 have e3:Ext L H3:=CI a8
 have g3:=aF bM a8
 have z3:H3.size=L.size+1:=by rw[a8];simp
 have T3:=T2.grow e3
 refine⟨zt (e3.hat p1),zt (e3.hat p2),zt (e3.hat p3),zt (e3.hat p4),?_⟩
 refine HC.mono (jG (gs:=[i.tgt]) T3.hp.cd.sp.mem T3.ok.mem (show dO H3 (some ⟨c3,0,none⟩) (zf [i.tgt])from zt (by rw[aI g3];rfl)) rfl (by decide)) ?_
 rintro _ H4 ⟨wB,wC,l,rfl,hl,Y,c6,e4⟩
 refine⟨_,_,_,rfl,?_⟩
 have ce:=hl.len
 have cs:=T.ok.mem.lim
 have bs:=(e2.trans e3).trans e4
 have z4:=e4.size
 have I:=T.ok.mem
 refine⟨λdh A=>(0<=dh/\dh<=l.length)/\ ∃(B:zW) (c:Nat),A[z]?=some (.cells #[.slice B ((l.take dh.toNat).flatMap (v.sp.mem.weakSeg i)).length c] 75 (0,0))/\Own A 3 1 B ((l.take dh.toNat).flatMap (v.sp.mem.weakSeg i)).length c (zf ((l.take dh.toNat).flatMap (v.sp.mem.weakSeg i)))/\Ext H1 A/\Own A 3 1 wB l.length wC (zf (l.map λdh:Nat=>(dh:Int)))/\(∀di∈kd B,L.size<=di/\di ∉ kd wB)/\H4.size<=A.size,λdh _=>(l.length-dh).toNat,
  ⟨⟨by omega,by omega⟩,none,0,(e3.trans e4).get g2,gI,bs,Y,by simp,CU _⟩,?_⟩
 rintro dh H5 ⟨hi,B,cB,gB,x,e5,w,hB,z5⟩
 have F: ∀di∈kd wB,H3.size<=di/\di<H4.size:=λdi s=>⟨c6 di s,Y.lt di s⟩
 by_cases ac:dh< (l.length:Int)
 ·rw[qB ac]
  have u:dh.toNat<l.length:=by omega
  obtain⟨a,ha,b1⟩:=mS w u
  obtain⟨bc,ct,cu,_⟩:=hl.has (CS u)
  have af:l.take (dh+1).toNat=l.take dh.toNat++[l[dh.toNat]]:=by rw[show(dh+1).toNat=dh.toNat+1 by omega,Db u]
  have cr:=my (f:=v.sp.mem.weakSeg i) (n:=33) (l.take dh.toNat) (λk _=>Mem.weakSeg_len I hf k)
  have c9:(l.take dh.toNat).length<=1024:=by rw[Di];omega
  generalize hk:l[dh.toNat]=k at*
  have hd:((l.length:Int)-(dh+1)).toNat< ((l.length:Int)-dh).toNat:=by omega
  have hw:IntKind.wrap .i64 (dh+1)=dh+1:=xT (by omega)
  have r:(l.take (dh+1).toNat).flatMap (v.sp.mem.weakSeg i)=(l.take dh.toNat).flatMap (v.sp.mem.weakSeg i)++v.sp.mem.weakSeg i k:=by rw[af,DQ];simp
  have T5:=T.grow e5
  obtain⟨p1,p2,p3,p4⟩:=T5.s1
  refine⟨a,ha,⟨hi.1,ac⟩,_,b1,_,p1,_,rfl,_,p2,_,rfl,_,p3,_,rfl,_,p4,?_⟩
  refine HC.mono (gt T5.hp.cd.sp.mem) ?_
  rintro _ H6 ⟨rfl,e6⟩
  have cj:v.sp.mem.segOr k=v.sp.mem.seg k:=by unfold Mem.segOr;rw[qB bc,show((k:Nat):Int).toNat=k by omega]
  rw[cj]
  refine⟨_,_,_,_,_,_,_,_,rfl,λda H7 bO bC=>?_⟩
  obtain⟨a9,hs⟩:=jB (v.sp.mem.seg k) bO bC
  refine⟨a9,λH8 bI=>?_⟩
  obtain⟨e8,_,g1,gn,_⟩:=hs H8 bI
  have m:=e6.trans e8
  have T8:=T5.grow m
  have z8:=m.size
  rw[hw]
  have skip:v.sp.mem.weakSeg i k=[]->(((0<=dh+1/\dh+1<=l.length)/\ ∃(B:zW) (c:Nat),H8[z]?=some (.cells #[.slice B ((l.take (dh+1).toNat).flatMap (v.sp.mem.weakSeg i)).length c] 75 (0,0))/\Own H8 3 1 B ((l.take (dh+1).toNat).flatMap (v.sp.mem.weakSeg i)).length c (zf ((l.take (dh+1).toNat).flatMap (v.sp.mem.weakSeg i)))/\Ext H1 H8/\Own H8 3 1 wB l.length wC (zf (l.map λdh:Nat=>(dh:Int)))/\(∀di∈kd B,L.size<=di/\di ∉ kd wB)/\H4.size<=H8.size)/\((l.length:Int)-(dh+1)).toNat< ((l.length:Int)-dh).toNat):=λhz=>by
   rw[r,hz,DC]
   exact⟨⟨by omega,B,cB,m.get gB,x.ext m,e5.trans m,w.ext m,hB,by omega⟩,hd⟩
  refine⟨_,by rw[CH];exact g1,?_⟩
  by_cases e:(v.sp.mem.seg k).kind=1
  case neg=>rw[za e];exact skip (by unfold Mem.weakSeg;rw[za (λh=>e h.1)])
  rw[qB e]
  refine⟨⟨by omega,by omega⟩,(if i.old k then 1 else 0),by rw[show((k:Nat):Int).toNat=k by omega,CH,CH,CQ,Dd];exact T8.tr.oldAt (by omega),?_⟩
  by_cases ho:i.old k=true
  ·rw[za (by rw[qB ho];decide)];exact skip (by unfold Mem.weakSeg;rw[za (λh=>by rw[ho]at h;cases h.2)])
  rw[qB (by rw[za ho])]
  have cf:i.old k=false:=by simpa using ho
  obtain⟨es,cl,bX,bU⟩:=T8.tr.frm
  obtain⟨b6,ch,bb⟩:=k9 hf (k:Int)
  have b7:=(I.seg k).n
  refine⟨_,by rw[CH];exact T8.tr.fAt,_,by rw[CH];exact gn,_,rfl,es,cl,_,bX,bU,_,b6,by rw[CH];exact zt gn,?_⟩
  have a4:z ∉ kd B:=λh=>by have:=hB z h;omega
  refine HC.mono (oY (H:=H8) (c:=z) (ws:=(l.take dh.toNat).flatMap (v.sp.mem.weakSeg i)) (by omega) ⟨ch,bb⟩ b7.2 (m.get gB) (x.ext m) a4 (by omega) rfl) ?_
  rintro _ H9 ⟨J,S,g9,b8,f9,a6⟩
  have G:v.sp.mem.weakSeg i k=jU k (seenAt i.frm k) (hZ (seenAt i.frm k) (v.sp.mem.seg k).n):=by unfold Mem.weakSeg;rw[qB ⟨e,cf⟩]
  have g:((l.take (dh+1).toNat).flatMap (v.sp.mem.weakSeg i)).length=((l.take dh.toNat).flatMap (v.sp.mem.weakSeg i)).length+hZ (seenAt i.frm k) (v.sp.mem.seg k).n:=by rw[r,CV,G,lW]
  refine⟨⟨by omega,J,S,by rw[g];exact g9,by rw[g,r,G];exact b8,(e5.trans m).fr_trans f9 (λdi s=>?_),(w.ext m).keep f9 (λdi s hm=>?_),λdi s=>?_,by have:=f9.size;omega⟩,hd⟩
  ·rcases CR.1 s with h | h
   ·omega
   ·have:=hB di h;omega
  ·rcases CR.1 hm with h | h
   ·have:=F di s;omega
   ·exact(hB di h).2 s
  ·rcases a6 di s with h | h
   ·exact hB di h
   ·exact⟨by omega,λhm=>by have:=F di hm;omega⟩
 rw[za ac]
 rw[De (by omega)]at gB x
 have cc:=my (f:=v.sp.mem.weakSeg i) (n:=33) l (λk _=>Mem.weakSeg_len I hf k)
 have T5:=T.grow e5
 obtain⟨cY,cZ⟩:=T.tr.clen
 refine⟨_,_,_,by rw[CH];exact T5.tr.cAt,?_⟩
 generalize hW:l.flatMap (v.sp.mem.weakSeg i)=W at*
 refine⟨λdh A=>(0<=dh/\dh<=j.cN)/\ ∃(B:zW) (c:Nat),A[z]?=some (.cells #[.slice B (W++(i.cards.take dh.toNat).flatMap v.sp.mem.weakCard).length c] 75 (0,0))/\Own A 3 1 B (W++(i.cards.take dh.toNat).flatMap v.sp.mem.weakCard).length c (zf (W++(i.cards.take dh.toNat).flatMap v.sp.mem.weakCard))/\Ext H1 A/\(∀di∈kd B,L.size<=di)/\H4.size<=A.size,λdh _=>(j.cN-dh).toNat,
  ⟨⟨by omega,by omega⟩,B,cB,by simpa using gB,by simpa using x,e5,λdi s=>(hB di s).1,z5⟩,?_⟩
 rintro dh am ⟨c7,B2,au,O,p,M,D,d3⟩
 have an:=T.grow M
 have ab:=my (f:=v.sp.mem.weakCard) (n:=33) (i.cards.take dh.toNat) (λc hc=>Mem.weakCard_len I (b5 c (List.mem_of_mem_take hc)).2.1)
 have cd:(i.cards.take dh.toNat).length<=4096:=by rw[Di];omega
 by_cases E:dh< (j.cN:Int)
 case neg=>
  rw[za E]
  rw[De (by omega)]at O p ab
  refine⟨_,_,_,by rw[aI O];rfl,hR _ _ ⟨l,B2,_,au,hl,rfl,?_,?_,λdi s=>by have:=D di s;omega,?_,M⟩⟩
  ·unfold Mem.weaks;rw[hW]
  ·unfold Mem.weaks;rw[hW];exact p
  ·rw[CV];omega
 rw[qB E]
 have u:dh.toNat<i.cards.length:=by omega
 obtain⟨ca,bS,b9⟩:=qa an.tr.cards u
 have bT:=b5 _ (CS u)
 have af:i.cards.take (dh+1).toNat=i.cards.take dh.toNat++[i.cards[dh.toNat]]:=by rw[show(dh+1).toNat=dh.toNat+1 by omega,Db u]
 generalize cX:i.cards[dh.toNat]=b at*
 have hd:((j.cN:Int)-(dh+1)).toNat< ((j.cN:Int)-dh).toNat:=by omega
 have hw:IntKind.wrap .i64 (dh+1)=dh+1:=xT (by omega)
 have r:W++(i.cards.take (dh+1).toNat).flatMap v.sp.mem.weakCard=(W++(i.cards.take dh.toNat).flatMap v.sp.mem.weakCard)++v.sp.mem.weakCard b:=by rw[af,DQ,DL];simp
 refine⟨ca,bS,⟨c7.1,E⟩,b.1,b.2,b9,λap bl b2 U=>?_⟩
 obtain⟨a9,hs⟩:=boxed (vs:=[vi b.1,vi b.2]) (H1:=bl) (aF b2 U) rfl rfl
 refine⟨a9,λo aU=>?_⟩
 obtain⟨Z,ay⟩:=hs o aU
 have y:Ext am o:=ay am (CI U) (by omega)
 have a3:=an.grow y
 obtain⟨p1,p2,p3,p4⟩:=a3.s1
 have P:hat o ⟨ap,0,none⟩=some (vi b.1):=Z.1
 have Q:hat o ⟨ap,1,none⟩=some (vi b.2):=Z.2.1
 refine⟨_,p1,_,rfl,_,p2,_,rfl,_,p3,_,rfl,_,p4,_,P,?_⟩
 have bd:=qb I b.1
 have X: ∀(A:zV) (J:zW) (S:Nat),A[z]?=some (.cells #[.slice J (W++(i.cards.take (dh+1).toNat).flatMap v.sp.mem.weakCard).length S] 75 (0,0))->Own A 3 1 J (W++(i.cards.take (dh+1).toNat).flatMap v.sp.mem.weakCard).length S (zf (W++(i.cards.take (dh+1).toNat).flatMap v.sp.mem.weakCard))->Ext H1 A->(∀di∈kd J,L.size<=di)->H4.size<=A.size->
   ((0<=IntKind.wrap .i64 (dh+1)/\IntKind.wrap .i64 (dh+1)<=j.cN)/\ ∃(B:zW) (c:Nat),A[z]?=some (.cells #[.slice B (W++(i.cards.take (IntKind.wrap .i64 (dh+1)).toNat).flatMap v.sp.mem.weakCard).length c] 75 (0,0))/\Own A 3 1 B (W++(i.cards.take (IntKind.wrap .i64 (dh+1)).toNat).flatMap v.sp.mem.weakCard).length c (zf (W++(i.cards.take (IntKind.wrap .i64 (dh+1)).toNat).flatMap v.sp.mem.weakCard))/\Ext H1 A/\(∀di∈kd B,L.size<=di)/\H4.size<=A.size)/\((j.cN:Int)-IntKind.wrap .i64 (dh+1)).toNat< ((j.cN:Int)-dh).toNat:=λA J S h1 h2 h3 h4 h5=>by
  rw[hw];exact⟨⟨by omega,J,S,h1,h2,h3,h4,h5⟩,hd⟩
 have skip: ∀(A:zV),Ext o A-> ¬(v.sp.mem.segOr b.1).kind=1->_:=λA q hk=>X A B2 au (by rw[r,show v.sp.mem.weakCard b=[]by unfold Mem.weakCard;rw[za hk],DC];exact(y.trans q).get O) (by rw[r,show v.sp.mem.weakCard b=[]by unfold Mem.weakCard;rw[za hk],DC];exact p.ext (y.trans q)) (M.trans (y.trans q)) D (by have:=(y.trans q).size;omega)
 have go: ∀(A:zV),Ext o A->(v.sp.mem.segOr b.1).kind=1->bN.C b.1 (IntKind.wrap .i64 (b.2*16)) (if(IntKind.wrap .i64 ((IntKind.wrap .i64 (b.2+1))*16))< (v.sp.mem.segOr b.1).n then(IntKind.wrap .i64 ((IntKind.wrap .i64 (b.2+1))*16))else(v.sp.mem.segOr b.1).n) (some (Addr.mk z 0 none)) A (λ_ A'=>_):=λA q hk=>by
  have d2:=bd.n
  rw[xT (n:=b.2*16) (by omega),xT (n:=b.2+1) (by omega),xT (n:=(b.2+1)*16) (by omega),vS]
  have a4:z ∉ kd B2:=λh=>by have:=D z h;omega
  have N:=y.trans q
  refine HC.mono (oY (H:=A) (c:=z) (ws:=W++(i.cards.take dh.toNat).flatMap v.sp.mem.weakCard) bT.1 (by omega) (by omega) (N.get O) (p.ext N) a4 (by rw[CV];omega) rfl) ?_
  rintro _ bm ⟨J,S,bB,ae,ax,a6⟩
  have G:v.sp.mem.weakCard b=jU b.1 (b.2*16) (hZ (b.2*16) (min (v.sp.mem.segOr b.1).n ((b.2+1)*16))):=by unfold Mem.weakCard;rw[qB hk]
  have g:(W++(i.cards.take (dh+1).toNat).flatMap v.sp.mem.weakCard).length=(W++(i.cards.take dh.toNat).flatMap v.sp.mem.weakCard).length+hZ (b.2*16) (min (v.sp.mem.segOr b.1).n ((b.2+1)*16)):=by rw[r,CV,G,lW]
  have zA:=N.size
  refine X bm J S (by rw[g];exact bB) (by rw[g,r,G];exact ae) ((M.trans N).fr_trans ax (λdi s=>?_)) (λdi s=>?_) (by have:=ax.size;omega)
  ·rcases CR.1 s with h | h
   ·omega
   ·have:=D di h;omega
  ·rcases a6 di s with h | h
   ·exact D di h
   ·omega
 constructor
 ·refine HC.mono (gt a3.hp.cd.sp.mem) ?_
  rintro _ cw ⟨rfl,br⟩
  refine⟨_,_,_,_,_,_,_,_,rfl,λcy cx b3 aV=>?_⟩
  obtain⟨aa,ba⟩:=jB (v.sp.mem.segOr b.1) b3 aV
  refine⟨aa,λa1 aW=>?_⟩
  obtain⟨bu,_,g1,gn,_⟩:=ba a1 aW
  have q:=br.trans bu
  refine⟨_,by rw[CH];exact g1,?_⟩
  by_cases e:(v.sp.mem.segOr b.1).kind=1
  ·rw[qB e]
   exact⟨_,q.hat P,_,by rw[CH];exact q.hat Q,_,by rw[CH];exact gn,_,by rw[CH];exact q.hat Q,go a1 q e⟩
  ·rw[za e];exact skip a1 q e
 ·intro cz bn b4 V
  have t:Ext o bn:=CI V
  refine⟨zt (t.hat p1),zt (t.hat p2),zt (t.hat p3),zt (t.hat p4),zt (t.hat P),?_⟩
  refine HC.mono (gt (a3.grow t).hp.cd.sp.mem) ?_
  rintro _ bo ⟨rfl,av⟩
  obtain⟨bR,ci⟩:=boxed (vs:=[vi (v.sp.mem.segOr b.1).gen,vi (v.sp.mem.segOr b.1).kind,vi (v.sp.mem.segOr b.1).n,vi ((v.sp.mem.segOr b.1).cards 0),vi ((v.sp.mem.segOr b.1).cards 1),vi ((v.sp.mem.segOr b.1).cards 2),vi ((v.sp.mem.segOr b.1).cards 3)]) (H1:=bo) (av.get (aF b4 V)) rfl rfl
  refine⟨_,_,_,_,_,_,_,_,rfl,bR,λK b0=>?_⟩
  obtain⟨a0,az⟩:=ci K b0
  have q:Ext o K:=az o (t.trans av) (by omega)
  refine⟨_,a0.2.1,?_⟩
  by_cases e:(v.sp.mem.segOr b.1).kind=1
  ·rw[qB e]
   exact⟨_,q.hat P,_,by rw[CH];exact q.hat Q,_,a0.2.2.1,_,by rw[CH];exact q.hat Q,go K q e⟩
  ·rw[za e];exact skip K q e
end Go.Proofs.YtfhbhckhmnleoaaGreat
namespace Go.Proofs.YtfhbhckhmnleoaaGreat
open Go
theorem EI:type_of% @List.filter_cons_of_pos:=@List.filter_cons_of_pos
theorem EA:type_of% @List.filter_cons_of_neg:=@List.filter_cons_of_neg
theorem D2:type_of% @List.nodup_cons:=@List.nodup_cons
variable{d r:Int}{i:Mem}{j:Int->Nat}{k:Nat->Bool}{o:Sp}{u:Int->Option Int}{v:List Int}
abbrev Mem.kAt(m:Mem)(a:Int):Int:=(m.seg (a / 64).toNat).kind
abbrev Mem.gAt(m:Mem)(a:Int):Int:=(m.seg (a / 64).toNat).gen
def zL(k:Int):Int:=if k=0 then 1 else if k=1 then 2 else 3
def aZ(v:Int):Prop:=v % 8=1\/v % 8=2\/v % 8=3
instance (v:Int):Decidable (aZ v):=by unfold aZ;infer_instance
def Good(m:Mem)(sz:Int->Nat)(v:Int):Prop:=v % 8≠6/\(aZ v->sz (v / 8)≠0/\v % 8=zL (m.kAt (v / 8)))
structure kF (m:Mem) (sz:Int->Nat):Prop where
 used: ∀a,sz a≠0->m.used a/\a % 64+sz a<=(m.seg (a / 64).toNat).n
 apart: ∀a b,sz a≠0->sz b≠0->a<b->a+sz a<=b
 two: ∀a,sz a≠0->m.kAt a<=1->sz a=2/\a % 2=0
 obj: ∀a,sz a≠0->2<=m.kAt a->jQ (m.get a)/\m.kAt a=zh (hk (m.get a))/\(sz a:Int)=hn (m.get a)+1
 good: ∀x,m.used x->m.kAt x≠3->Good m sz (m.get x)
theorem kF.usedAt{m:Mem}(h:kF m j)(e:j d≠0){i:Nat}(g:i<j d)(hn: ∀k,(m.seg k).n<=64):m.used (d+i)/\(d+i) / 64=d / 64/\(d+i) % 64=d % 64+i:=by
 obtain⟨c,f⟩:=h.used d e
 have:=hn (d / 64).toNat
 have a:(d+i) / 64=d / 64:=by omega
 have b:(d+i) % 64=d % 64+i:=by omega
 exact⟨⟨by have:=c.1;omega,by rw[a];exact c.2.1,by rw[a,b];omega⟩,a,b⟩
theorem kF.lt{m:Mem}(h:kF m j)(c:bD m)(b:j d≠0):0<=d/\d<65536:=by
 obtain⟨a,_⟩:=h.used d b
 have:=a.2.1.2.1
 have:=c.lim
 exact⟨a.1,by have:=a.1;omega⟩
theorem kF.noFwd(h:kF i j)(a:j d≠0):i.get d % 8≠6:=by
 obtain⟨b,_⟩:=h.used d a
 by_cases hk:i.kAt d=3
 ·obtain⟨c,_⟩:=h.obj d a (by omega)
  have:=c.1;omega
 ·exact(h.good d b hk).1
theorem kF.within{m:Mem}(h:kF m j)(b:j d≠0){i:Nat}(c:0<i)(e:i<j d):j (d+i)=0:=by
 by_cases a:j (d+i)=0
 ·exact a
 ·have:=h.apart d (d+i) b a (by omega);omega
theorem n9{n:Nat}(v:aD d)(r:aZ d)(a:d % 8=zL (i.kAt (d / 8)))(j:d / 8<65536)(b:i.used (d / 8))(u:0<=i.kAt (d / 8)/\i.kAt (d / 8)<=3)(o:i.kAt (d / 8)<=1->n=2/\d / 8 % 2=0)
  (p:2<=i.kAt (d / 8)->jQ (i.get (d / 8))/\i.kAt (d / 8)=zh (hk (i.get (d / 8)))/\(n:Int)=hn (i.get (d / 8))+1/\d / 8 % 64+n<=(i.seg (d / 8 / 64).toNat).n):i.sizeOf d=n:=by
 have h:gM d:=⟨by unfold aZ at r;omega,j⟩
 unfold zL at a
 unfold Mem.sizeOf
 by_cases m:i.kAt (d / 8)<=1
 ·obtain⟨f,g⟩:=o m
  have l:i.isPair d:=by
   refine⟨?_,g⟩
   by_cases e:i.kAt (d / 8)=0
   ·rw[qB e]at a;exact .inl ⟨h,a,b.2.1,e,b.2.2⟩
   ·rw[za e,qB (by omega)]at a;exact .inr ⟨h,a,b.2.1,by show i.kAt (d / 8)=1;omega,b.2.2⟩
  rw[qB l,f];rfl
 ·rw[za (by omega),za (by omega)]at a
  obtain⟨f,g,s,t⟩:=p (by omega)
  have c:i.isObj d:=⟨⟨h,a,b.2.1,g,b.2.2⟩,f,by omega⟩
  have k: ¬i.isPair d:=λl=>by
   rcases l.1 with q | q
   ·have:=q.2.1;omega
   ·have:=q.2.1;omega
  rw[za k,qB c]
  unfold Mem.len
  rw[qB c];omega
theorem uU(f: ¬aZ d):i.sizeOf d=0:=by
 unfold aZ at f
 unfold Mem.sizeOf
 have b: ¬i.isPair d:=λe=>by
  rcases e.1 with q | q
  ·have:=q.2.1;omega
  ·have:=q.2.1;omega
 have a: ¬i.isObj d:=λc=>by have:=c.1.2.1;omega
 rw[za b,za a]
theorem kF.size(h:kF i j)(c:bD i){v:Int}(k:aD v)(g:Good i j v)(b:aZ v):i.sizeOf v=j (v / 8):=by
 obtain⟨a,d⟩:=g.2 b
 obtain⟨e,f⟩:=h.used _ a
 exact n9 k b d (h.lt c a).2 e (c.seg _).kind (h.two _ a) (λhk=>by
  obtain⟨l,m,n⟩:=h.obj _ a hk
  exact⟨l,m,n,f⟩)
def Mem.strong(m:Mem)(x:Int):Prop:=m.kAt x≠3/\(m.kAt x≠1\/x % 2=1)
instance (m:Mem) (x:Int):Decidable (m.strong x):=by unfold Mem.strong;infer_instance
theorem ob{m:Mem}(a:0<=r/\r<64)(hk:0<=d):looks (m.seg d.toNat).kind r ↔ m.strong (d*64+r):=by
 have e:(d*64+r) / 64=d:=by omega
 unfold looks Mem.strong Mem.kAt
 rw[e,show(d*64+r) % 2=r % 2 by omega]
structure TZ where
 m:Mem
 sz:Int->Nat
 O:Nat->Bool
 T:Int
 V:Int->Prop
 q:Int->Option Int
 P:List Int
inductive Reach (Z:TZ):Int->Prop
 | root {v:Int} (h:Z.V v) (ho:aO Z.O v):Reach Z (v / 8)
 | older {x:Int} (hu:Z.m.used x) (hn:Z.O (x / 64).toNat=false) (hs:Z.m.strong x) (ho:aO Z.O (Z.m.get x)):Reach Z (Z.m.get x / 8)
 | step {a:Int} {i:Nat} (h:Reach Z a) (hi:i<Z.sz a) (hs:Z.m.strong (a+i)) (ho:aO Z.O (Z.m.get (a+i))):Reach Z (Z.m.get (a+i) / 8)
def Fw(O:Nat->Bool)(fw:Int->Option Int)(v:Int):Int:=if aO O v then match fw (v / 8)with | some b=>b*8+v % 8 | none=>v else v
def Dn(O:Nat->Bool)(fw:Int->Option Int)(v:Int):Prop:=aO O v-> ∃b,fw (v / 8)=some b
theorem jv(h: ¬aO k d):Fw k u d=d:=by unfold Fw;rw[za h]
theorem kq(h:aO k d)(a:u (d / 8)=some r):Fw k u d=r*8+d % 8:=by unfold Fw;rw[qB h,a]
def Le(fw fw':Int->Option Int):Prop:= ∀a b,fw a=some b->fw' a=some b
theorem Le.refl(a:Int->Option Int):Le a a:=λ_ _ h=>h
theorem Le.trans{f g h:Int->Option Int}(a:Le f g)(b:Le g h):Le f h:=λx y q=>b x y (a x y q)
theorem Dn.mono{f g:Int->Option Int}{v:Int}(h:Dn k f v)(l:Le f g):Dn k g v:=λc=>by obtain⟨b,a⟩:=h c;exact⟨b,l _ _ a⟩
theorem lX{g:Int->Option Int}(h:Dn k u d)(l:Le u g):Fw k g d=Fw k u d:=by
 by_cases a:aO k d
 ·obtain⟨b,c⟩:=h a
  rw[kq a c,kq a (l _ _ c)]
 ·rw[jv a,jv a]
theorem mg{m:Mem}(h:m.sizeOf d≠0):aZ d:=by
 by_cases q:aZ d
 ·exact q
 ·exact absurd (uU q) h
theorem nH(h:i.sizeOf d≠0):i.isPair d ↔ d % 8≠3:=by
 constructor
 ·intro a
  rcases a.1 with q | q
  ·have:=q.2.1;omega
  ·have:=q.2.1;omega
 ·intro c
  by_cases a:i.isPair d
  ·exact a
  ·exfalso
   unfold Mem.sizeOf at h
   rw[za a]at h
   by_cases b:i.isObj d
   ·exact c b.1.2.1
   ·rw[za b]at h;exact h rfl
theorem uF(h:aO k d):aZ d:=by have:=h.1.1;have:=h.2.1;unfold aZ;omega
def AU(a:Int)(n:Nat)(x:Nat):Bool:=decide (a<=(x:Int)/\(x:Int)<a+n)
theorem nI{a:Int}(b:0<=a)(N:Nat): ∀n:Nat,a+n<=N->(List.range N).countP (AU a n)=n
 | 0,_=>by
  rw[List.countP_eq_zero]
  intro x _
  unfold AU;simp
 | n+1,h=>by
  rw[mq N (a+n).toNat (AU a (n+1)) (AU a n) (by omega) (λi c=>by unfold AU;rw[decide_eq_decide];omega) (by unfold AU;rw[CN];omega) (by unfold AU;rw[decide_eq_false_iff_not];omega),nI b N n (by omega)]
theorem mz{α:Type}(p q:α->Bool)(l:List α)(h: ∀x∈l,p x=true->q x=true->False):l.countP (λx=>p x || q x)=l.countP p+l.countP q:=by
 induction l with
 | nil=>rfl
 | cons a l g=>
  have b:=g (λx f=>h x (by simp[f]))
  have c:=h a (by simp)
  rw[Eb,Eb,Eb,b]
  cases d:p a<;>cases e:q a
  ·simp
  ·simp;omega
  ·simp;omega
  ·exact(c d e).elim
theorem mh(f:Int->Nat)(N:Nat): ∀L:List Int,L.Nodup->(∀a∈L,0<=a/\a+f a<=N)->(∀a∈L,∀b∈L,a<b->a+f a<=b)->(L.map f).sum=(List.range N).countP (λx=>L.any λa=>AU a (f a) x)
 | [],_,_,_=>by simp
 | a::L,hn,hb,hd=>by
  rw[D2]at hn
  have j:=mh f N L hn.2 (λb h=>hb b (by simp[h])) (λb h c i=>hd b (by simp[h]) c (by simp[i]))
  simp only[List.map_cons,List.sum_cons,List.any_cons]
  rw[mz,j,nI (hb a (by simp)).1 N _ (hb a (by simp)).2]
  intro x _ g e
  rw[List.any_eq_true]at e
  obtain⟨b,d,e⟩:=e
  unfold AU at g e
  rw[CN]at g e
  rcases Int.lt_trichotomy a b with h | h | h
  ·have:=hd a (by simp) b (by simp[d]) h;omega
  ·subst h;exact hn.1 d
  ·have:=hd b (by simp[d]) a (by simp) h;omega
theorem qd(p:Nat->Bool): ∀n:Nat,(List.range (64*n)).countP (λx=>p (x / 64))=64*(List.range n).countP p
 | 0=>rfl
 | n+1=>by
  rw[show 64*(n+1)=64*n+64 by omega,List.range_add,EC,qd p n,DP (n:=n),EC,List.countP_map]
  have e:(List.range 64).countP ((λx=>p (x / 64)) ∘ λx=>64*n+x)=64*[n].countP p:=by
   have b:(List.range 64).countP ((λx=>p (x / 64)) ∘ λx=>64*n+x)=(List.range 64).countP (λ_=>p n):=by
    refine ED λx c=>?_
    rw[Dc]at c
    show p ((64*n+x) / 64)=true ↔ p n=true
    rw[show(64*n+x) / 64=n by omega]
   rw[b]
   cases a:p n
   ·simp[a]
   ·simp[a]
  rw[e];omega
theorem oG{α:Type}{p q:α->Bool}(l:List α)(h: ∀x∈l,p x=true->q x=true):l.countP p<=l.countP q:=List.countP_mono_left h
theorem mT(p:Nat->Bool)(n:Nat): ∀d:Nat,(∀i,n<=i->i<n+d->p i=false)->(List.range (n+d)).countP p=(List.range n).countP p
 | 0,_=>rfl
 | d+1,h=>by
  rw[show n+(d+1)=(n+d)+1 by omega,DP,EC,mT p n d (λi a b=>h i a (by omega))]
  simp[h (n+d) (by omega) (by omega)]
def TZ.yk(Z:TZ)(k:Int):Nat:=(List.range 1024).countP λj=>Z.O j && decide ((Z.m.seg j).kind=k)
def TZ.uk(Z:TZ)(al:List Int)(k:Int):Nat:=((al.filter λa=>decide (Z.m.kAt a=k)).map Z.sz).sum
structure BK (Z:TZ) (al:List Int):Prop where
 nodup:al.Nodup
 mem: ∀a∈al,Z.sz a≠0/\Z.O (a / 64).toNat=true
theorem TZ.uk_le{Z:TZ}(q:kF Z.m Z.sz)(r:bD Z.m)(h:BK Z v)(k:Int):Z.uk v k<=64*Z.yk k:=by
 unfold TZ.uk TZ.yk
 have z:=r.lim
 have f: ∀j,(Z.m.seg j).n<=64:=λj=>(r.seg j).n.2
 have c: ∀a∈v.filter (λa=>decide (Z.m.kAt a=k)),a∈v/\Z.m.kAt a=k:=λa d=>by
  rw[Dm]at d;exact⟨d.1,by simpa using d.2⟩
 rw[mh Z.sz (64*1024) _ (h.nodup.filter _) (λa d=>?_) (λa d b u p=>?_),<-qd]
 ·refine oG _ (λx _ g=>?_)
  rw[List.any_eq_true]at g
  obtain⟨a,d,g⟩:=g
  obtain⟨l,s⟩:=c a d
  obtain⟨o,t⟩:=h.mem a l
  unfold AU at g
  rw[CN]at g
  obtain⟨i,w⟩:=q.used a o
  have:=f (a / 64).toNat
  have y:=i.1
  have e:x / 64=(a / 64).toNat:=by omega
  rw[e,t,Bool.true_and,CN];exact s
 ·obtain⟨l,_⟩:=c a d
  obtain⟨o,_⟩:=h.mem a l
  obtain⟨i,w⟩:=q.used a o
  have:=f (a / 64).toNat
  have:=i.2.1.2.1
  exact⟨i.1,by have:=i.1;omega⟩
 ·exact q.apart a b (h.mem a (c a d).1).1 (h.mem b (c b u).1).1 p
theorem TZ.uk_cons(Z:TZ)(b:List Int)(a k:Int):Z.uk (a::b) k=(if Z.m.kAt a=k then Z.sz a else 0)+Z.uk b k:=by
 unfold TZ.uk
 by_cases h:Z.m.kAt a=k
 ·rw[EI (by simpa using h),qB h];simp
 ·rw[EA (by simpa using h),za h];simp
def Sp.fill(s:Sp)(T:Int)(k:Nat):Int:=if s.cur T.toNat k=0 then 0 else(s.mem.seg (s.cur T.toNat k-1).toNat).n
def TZ.pk(Z:TZ)(k:Nat):Nat:=if k=0 then 2*Z.P.length else 0
structure Cap (Z:TZ) (F0:Int) (al:List Int) (s:Sp) (c:Nat->Nat):Prop where
 free:s.mem.free+((c 0:Nat)+(c 1:Nat)+(c 2:Nat)+(c 3:Nat):Int)=F0
 none: ∀k,k<4->s.cur Z.T.toNat k=0->c k=0
 le: ∀k,k<4->64*(c k:Int)+s.fill Z.T k<=2*(Z.uk al k:Int)+(Z.pk k:Int)+64
theorem Sp.fill_rng(a:SpOK o)(T:Int)(k:Nat):0<=o.fill T k/\o.fill T k<=64:=by
 unfold Sp.fill
 split
 ·omega
 ·exact(a.mem.seg _).n
theorem Cap.room{Z:TZ}{c:Nat->Nat}(h:Cap Z d v o c)(s:SpOK o)(r:kF Z.m Z.sz)(a:bD Z.m)(p:BK Z v)(B:2*((Z.yk 0:Int)+Z.yk 1+Z.yk 2+Z.yk 3)+8+((Z.P.length / 32:Nat):Int)<=d):1<=o.mem.free:=by
 have q: ∀k:Nat,k<4->64*(c k:Int)<=128*(Z.yk k:Int)+64+(Z.pk k:Int):=λk hk=>by
  have y:=h.le k hk
  have z:=TZ.uk_le r a p (k:Int)
  have A:=Sp.fill_rng s Z.T k
  omega
 have b:=q 0 (by omega)
 have e:=q 1 (by omega)
 have f:=q 2 (by omega)
 have g:=q 3 (by omega)
 have:=h.free
 have i:Z.yk ((0:Nat):Int)=Z.yk 0:=rfl
 have j:Z.yk ((1:Nat):Int)=Z.yk 1:=rfl
 have l:Z.yk ((2:Nat):Int)=Z.yk 2:=rfl
 have n:Z.yk ((3:Nat):Int)=Z.yk 3:=rfl
 rw[i]at b;rw[j]at e;rw[l]at f;rw[n]at g
 have t:Z.pk 0=2*Z.P.length:=rfl
 have u:Z.pk 1=0:=rfl
 have w:Z.pk 2=0:=rfl
 have x:Z.pk 3=0:=rfl
 rw[t]at b;rw[u]at e;rw[w]at f;rw[x]at g
 omega
theorem Sp.fill_eq{T v:Int}{k:Nat}(h:o.cur T.toNat k=v):o.fill T k=if v=0 then 0 else(o.mem.seg (v-1).toNat).n:=by unfold Sp.fill;rw[h]
theorem Sp.alloc_fill(k:SpOK o){n:Int}(h:(o.alloc d r n).2.2=0): ∃F:Nat,(o.alloc d r n).1.mem.free=o.mem.free-F/\(o.alloc d r n).1.cur d.toNat r.toNat≠0/\(∀j:Nat,j≠r.toNat->(o.alloc d r n).1.cur d.toNat j=o.cur d.toNat j/\(o.alloc d r n).1.fill d j=o.fill d j)/\
  ((F=0/\o.cur d.toNat r.toNat≠0/\(o.alloc d r n).1.fill d r.toNat=o.fill d r.toNat+n)\/(F=1/\(o.cur d.toNat r.toNat=0\/64<o.fill d r.toNat+n)/\(o.alloc d r n).1.fill d r.toNat=n)):=by
 unfold Sp.alloc at*
 by_cases hm:AJ d r n
 case neg=>rw[qB hm]at h;exact absurd h (by show ¬((1:Int)=0);decide)
 rw[za (λp=>p hm)]at h⊢
 have E:=hm.1
 have hk:0<=r/\r<=3:=by have:=hm.2;omega
 have hn:1<=n/\n<=63:=by have:=hm.2;omega
 by_cases b:o.cur d.toNat r.toNat≠0/\(o.mem.bump (o.cur d.toNat r.toNat-1) n).2.2=0
 ·rw[qB b]at h⊢
  obtain⟨s,z,m,l⟩:=Mem.bump_ok k.mem b.2
  refine⟨0,?_,b.1,λj w=>⟨rfl,?_⟩,.inl ⟨rfl,b.1,?_⟩⟩
  ·show(o.mem.bump _ _).1.free=_
   rw[(Em _ _ _).2.2];omega
  ·unfold Sp.fill
   show(if o.cur d.toNat j=0 then 0 else((o.mem.bump _ _).1.seg _).n)=_
   by_cases a:o.cur d.toNat j=0
   ·rw[qB a,qB a]
   ·rw[za a,za a,l]
    rw[DE]
    intro e
    rcases k.cur d.toNat j with q | ⟨_,_,_,C⟩
    ·exact a q
    rcases k.cur d.toNat r.toNat with q | ⟨_,_,_,D⟩
    ·exact b.1 q
    rw[e,D]at C;omega
  ·unfold Sp.fill
   show(if o.cur d.toNat r.toNat=0 then 0 else((o.mem.bump _ _).1.seg _).n)=_
   rw[za b.1,za b.1,l]
   show((o.mem.upd _ _).seg _).n=_
   rw[Dy];rfl
 rw[za b]at h⊢
 by_cases g:(o.mem.take d r).2.2=0
 case neg=>rw[za g]at h;exact absurd h g
 rw[qB g]at h⊢
 have f:=k.mem.take d r
 have i:o.mem.take d r=({o.mem with count:=o.mem.count+1,free:=o.mem.free-1}.upd o.mem.first (Seg.new d r (o.mem.count+1)),(o.mem.first:Int),0)/\o.mem.free≠0:=by
  unfold Mem.take at g⊢
  rw[za (by omega)]at g⊢
  by_cases m:o.mem.free=0
  ·rw[qB m]at g;exact absurd g (by show ¬((2:Int)=0);decide)
  ·rw[za m];exact⟨rfl,m⟩
 obtain⟨i,c⟩:=i
 obtain⟨A,u⟩:=El k.mem c
 rw[i]at h f⊢
 simp only at h f⊢
 obtain⟨s,z,m,l⟩:=Mem.bump_ok f h
 have en:((o.mem.first:Int)).toNat=o.mem.first:=by omega
 refine⟨1,?_,?_,λj w=>⟨?_,?_⟩,.inr ⟨rfl,?_,?_⟩⟩
 ·rw[(Em _ _ _).2.2];show o.mem.free-1=_;omega
 ·show(if d.toNat=d.toNat/\r.toNat=r.toNat then(o.mem.first:Int)+1 else _)≠0
  rw[qB ⟨rfl,rfl⟩];omega
 ·show(if d.toNat=d.toNat/\j=r.toNat then(o.mem.first:Int)+1 else _)=_
  rw[za (λp=>w p.2)]
 ·rw[Sp.fill_eq (v:=o.cur d.toNat j) (by show(if d.toNat=d.toNat/\j=r.toNat then(o.mem.first:Int)+1 else _)=_;rw[za (λp=>w p.2)])]
  unfold Sp.fill
  by_cases a:o.cur d.toNat j=0
  ·rw[qB a,qB a]
  ·rw[za a,za a,l,en]
   rcases k.cur d.toNat j with q | ⟨_,y,_,_⟩
   ·exact absurd q a
   have t:(o.cur d.toNat j-1).toNat≠o.mem.first:=λe=>y.2.2 (by rw[e];exact u)
   show((Mem.upd (Mem.upd _ _ _) _ _).seg _).n=_
   rw[DE _ _ t,DE _ _ t]
 ·by_cases a:o.cur d.toNat r.toNat=0
  ·exact .inl a
  ·right
   rcases k.cur d.toNat r.toNat with q | ⟨_,y,_,_⟩
   ·exact absurd q a
   have B: ¬((o.mem.seg (o.cur d.toNat r.toNat-1).toNat).n+n<=64):=λx=>b ⟨a,Mem.bump_can y hn.1 x⟩
   unfold Sp.fill
   rw[za a];omega
 ·rw[Sp.fill_eq (v:=(o.mem.first:Int)+1) (by show(if d.toNat=d.toNat/\r.toNat=r.toNat then(o.mem.first:Int)+1 else _)=_;rw[qB ⟨rfl,rfl⟩]),za (by omega),l,en,show((o.mem.first:Int)+1-1).toNat=o.mem.first by omega]
  show((Mem.upd (Mem.upd _ _ _) _ _).seg _).n=_
  rw[Dy]
  show((Mem.upd _ _ _).seg o.mem.first).n+n=n
  rw[Dy];show 0+n=n;omega
theorem Sp.fill_same(h:bG o.mem i)(T:Int)(k:Nat):({o with mem:=i}:Sp).fill T k=o.fill T k:=by
 unfold Sp.fill
 show(if o.cur T.toNat k=0 then 0 else(i.seg _).n)=_
 rw[(h.seg _).2.2.1]
theorem Cap.step{Z:TZ}{i:Int}{p:List Int}{s:Sp}{c:Nat->Nat}(h:Cap Z i p s c)(r:SpOK s){a:Int}{m:Mem}(hk:0<=Z.m.kAt a/\Z.m.kAt a<=3)(z:(s.alloc Z.T (Z.m.kAt a) (Z.sz a)).2.2=0)(hm:bG (s.alloc Z.T (Z.m.kAt a) (Z.sz a)).1.mem m): ∃t,Cap Z i (a::p) {(s.alloc Z.T (Z.m.kAt a) (Z.sz a)).1 with mem:=m} t:=by
 obtain⟨d,u,v,q,w⟩:=Sp.alloc_fill r z
 generalize A:(s.alloc Z.T (Z.m.kAt a) (Z.sz a)).1=B at*
 generalize n:Z.m.kAt a=k at*
 have x:((k.toNat:Nat):Int)=k:=by omega
 refine⟨λj=>c j+if j=k.toNat then d else 0,?_,λj g y=>?_,λj g=>?_⟩
 ·show m.free+_=i
  rw[hm.free,u]
  have:=h.free
  rcases(show k.toNat=0\/k.toNat=1\/k.toNat=2\/k.toNat=3 by omega)with e | e | e | e<;>rw[e]<;>simp<;>omega
 ·have b:B.cur Z.T.toNat j=0:=y
  by_cases e:j=k.toNat
  ·rw[e]at b;exact absurd b v
  ·rw[(q j e).1]at b
   show c j+(if j=k.toNat then d else 0)=0
   rw[za e,h.none j g b]
 ·rw[Sp.fill_same hm,TZ.uk_cons,n]
  have o:=h.le j g
  by_cases e:j=k.toNat
  ·subst e
   simp only[if_true]
   rw[x]at o⊢
   rw[qB rfl]
   rcases w with⟨rfl,_,l⟩ | ⟨rfl,f,l⟩
   ·rw[l];omega
   ·rw[l]
    rcases f with f | f
    ·have:=h.none k.toNat g f
     have C:=Sp.fill_rng r Z.T k.toNat
     omega
    ·omega
  ·rw[(q j e).2]
   simp only[za e]
   rw[za (show ¬k=(j:Int)by omega)]
   omega
theorem Cap.put{Z Z':TZ}{s:Sp}{c:Nat->Nat}(h:Cap Z r v s c)(i:SpOK s)(A:s.mem.Even){m:Mem}(C:(s.alloc Z.T 0 2).2.2=0)(hm:bG (s.alloc Z.T 0 2).1.mem m)
  (w:Z'.T=Z.T) (F: ∀k,Z'.uk v k=Z.uk v k) (B:Z'.P.length=Z.P.length+1): ∃x,Cap Z' r v {(s.alloc Z.T 0 2).1 with mem:=m} x:=by
 obtain⟨d,y,p,l,t⟩:=Sp.alloc_fill i C
 generalize E:(s.alloc Z.T 0 2).1=G at*
 have z:((0:Int)).toNat=0:=rfl
 rw[z]at p l t
 refine⟨λj=>c j+if j=0 then d else 0,?_,λj g u=>?_,λj g=>?_⟩
 ·show m.free+_=r
  rw[hm.free,y]
  have:=h.free
  simp;omega
 ·rw[w]at u
  have a:G.cur Z.T.toNat j=0:=u
  by_cases e:j=0
  ·rw[e]at a;exact absurd a p
  ·rw[(l j e).1]at a
   show c j+(if j=0 then d else 0)=0
   rw[za e,h.none j g a]
 ·rw[w,Sp.fill_same hm,F]
  have b:=h.le j g
  unfold TZ.pk at b⊢
  rw[B]
  by_cases e:j=0
  ·subst e
   simp only[if_true]at b⊢
   rcases t with⟨rfl,_,n⟩ | ⟨rfl,f,n⟩
   ·rw[n];omega
   ·rw[n]
    rcases f with f | f
    ·have:=h.none 0 g f
     have D:=Sp.fill_rng i Z.T 0
     omega
    ·-- a segment of pairs is filled whole
     have D:=Sp.fill_rng i Z.T 0
     have H:s.fill Z.T 0 % 2=0:=by
      unfold Sp.fill at f⊢
      by_cases o:s.cur Z.T.toNat 0=0
      ·rw[qB o];rfl
      ·rw[za o]
       rcases i.cur Z.T.toNat 0 with q | ⟨_,_,_,q⟩
       ·exact absurd q o
       ·exact A _ (by rw[q];decide)
     omega
  ·rw[(l j e).2]
   simp only[za e]at b⊢
   omega
