/-
 A trace begins (package trace): Start. Proves nothing of any one statement.
-/
import Derived.Test.YtillhdiiglamhaaGreatDoorTrF
set_option linter.unusedVariables false
set_option linter.unusedSimpArgs false
set_option maxRecDepth 100000
namespace Go.Proofs.YtillhdiiglamhaaGreatDoor
open Go Go.Proofs.Tryz
theorem FD:type_of% @Int.lt_or_le:=@Int.lt_or_le
variable{H:zV}{a:Blk}{b:Tr}{d:Mem}{g:TB}{i j:Int}{k:Sp}{o:Hp}{q r:Nat}
theorem yI(A B:Value)(C:List Value){z:Value}(hk:r<q):((([A,B]++List.replicate q z++C:List Value).toArray)[2+r]?)=some z:=by
 rw[List.getElem?_toArray,List.getElem?_append_left (by simp;omega),List.getElem?_append_right GH];simp only[List.length_cons,List.length_nil];rw[List.getElem?_replicate,ka GF]
theorem zG(A B:Value)(C:List Value){z:Value}(n k:Nat):((([A,B]++List.replicate n z++C:List Value).toArray)[2+n+k]?)=C[k]?:=by
 rw[List.getElem?_toArray,List.getElem?_append_right (by simp;omega)];congr 1;simp only[E3,List.length_cons,List.length_nil,List.length_replicate];omega
theorem zH(A B:Value)(C:List Value){z:Value}(n:Nat):((([A,B]++List.replicate n z++C:List Value).toArray)[0]?)=some A/\((([A,B]++List.replicate n z++C:List Value).toArray)[1]?)=some B:=by
 constructor<;>rw[List.getElem?_toArray]<;>rfl
theorem zI(A B:Value)(C:List Value){z:Value}(n:Nat):([A,B]++List.replicate n z++C:List Value).toArray.size=2+n+C.length:=by simp;omega
theorem TrAt.init{s:Nat}(o:H[q]?=some (.cells ([vp (some ⟨a.h,0,none⟩),vi i]++List.replicate 1024 (vi 0)++[.map (some r),.map (some s),VN,vi 0]:List Value).toArray 125 (0,0)))
  (l:H[r]?=some (.map #[] 0)) (n:H[s]?=some (.map #[] 0)) (b:q≠r/\q≠s/\r≠s):TrAt H a ⟨q,r,s,none,0,0⟩ ⟨i,λ_=>false,[],[],[],false⟩:=by
 have d:=zH (vp (some ⟨a.h,0,none⟩)) (vi i) [.map (some r),.map (some s),VN,vi 0] (z:=vi 0) 1024;have f:=λk (hk:k<1024)=>yI (vp (some ⟨a.h,0,none⟩)) (vi i) [.map (some r),.map (some s),VN,vi 0] (z:=vi 0) hk;have c:=λk=>zG (vp (some ⟨a.h,0,none⟩)) (vi i) [.map (some r),.map (some s),VN,vi 0] (z:=vi 0) 1024 k;have g:=zI (vp (some ⟨a.h,0,none⟩)) (vi i) [.map (some r),.map (some s),VN,vi 0] (z:=vi 0) 1024;generalize (([vp (some ⟨a.h,0,none⟩),vi i]++List.replicate 1024 (vi 0)++[.map (some r),.map (some s),VN,vi 0]:List Value).toArray)=e at*;refine⟨⟨e,o,g,d.1,d.2,λk hk=>f k hk,c 0,c 1,c 2,c 3⟩,⟨_,_,l,rfl⟩,⟨_,_,n,rfl⟩,rfl,(λp j=>by cases j),⟨rfl,Fm _⟩,⟨b.1,b.2.1,b.2.2,λt m=>by simp at m⟩⟩
theorem TrAt.put(h:TrAt H a g b){o:Nat}{v:Value}(l:o<1030):
  aF H ⟨g.t,o,none⟩ 0 1/\Fr [g.t] H (aL H ⟨g.t,o,none⟩ [v] 0)/\ ∃c d:Array Value,H[g.t]?=some (.cells c 125 (0,0))/\(aL H ⟨g.t,o,none⟩ [v] 0)[g.t]?=some (.cells d 125 (0,0))/\d.size=c.size/\ ∀j:Nat,d[j]?=if j=o then some v else c[j]?:=by
 obtain⟨c,f,k,_⟩:=h.tr;refine⟨cZ f _ _ _ GF,?_⟩;rw[dX _ H c _ 0 f];refine⟨Ez,c,_,f,bL (aS f),Fo _ _ _,λj=>?_⟩;by_cases e:j=o
 ·rw[ka e,e];have:=fE c [v] (o+0) 0 (by simp;omega) GH;simpa using this
 ·rw[kb e];rcases EC j o with i | i
  ·exact eN _ _ _ _ GF
  ·exact gt _ _ _ _ (by simp;omega)
theorem TrAt.rest{e:zV}(h:TrAt H a g b)(f:Fr [g.t] H e):(∃(c:Array MapEntry) (d:Nat),e[g.f]?=some (.map c d)/\p8 (fB .i64) c.toList b.frm)/\(∃(c:Array MapEntry) (d:Nat),e[g.s]?=some (.map c d)/\p8 (fB .i64) c.toList b.seen)/\bV e g.cB (fx b.cards):=by
 obtain⟨c,d,o,m⟩:=h.frm;obtain⟨k,j,p,n⟩:=h.seen;have q:=h.ne;refine⟨⟨c,d,f.get (by simp;omega) o,m⟩,⟨k,j,f.get (by simp;omega) p,n⟩,?_⟩;have i:=h.cards
 cases l:g.cB with
 | none=>rw[l]at i;exact i
 | some r=>
  rw[l]at i;refine f.rowAt ?_ i;have:=q.2.2.2 r.block (by rw[l];simp);simp;omega
theorem TrAt.putOld(h:TrAt H a g b){k:Nat}(hk:k<1024):
  aF H ⟨g.t,2+k,none⟩ 0 1/\Fr [g.t] H (aL H ⟨g.t,2+k,none⟩ [vi 1] 0)/\TrAt (aL H ⟨g.t,2+k,none⟩ [vi 1] 0) a g {b with old:=λi=>if i=k then true else b.old i}:=by
 obtain⟨x,f,D,d,y,z,F,c⟩:=h.put (o:=2+k) (v:=vi 1) GF;obtain⟨A,B,C⟩:=h.rest f;refine⟨x,f,?_⟩;obtain⟨l,j,E,m,n,p,q,r,s,t⟩:=h.tr;rw[y]at j;cases j;refine⟨⟨d,z,GF,by rw[c,kb GF];exact m,by rw[c,kb GF];exact n,λi w=>?_,by rw[c,kb GF];exact q,by rw[c,kb GF];exact r,by rw[c,kb GF];exact s,by rw[c,kb GF];exact t⟩,A,B,C,λG u=>Fh (h.cB G u) f.size,h.clen,h.ne⟩;rw[c];by_cases e:i=k
 ·subst e;rw[ka rfl];simp
 ·rw[kb GF,p i w];simp[e]
theorem TrAt.putCards(h:TrAt H a g b){B:zW}{n c:Nat}{l:List (Int×Int)}(r:bV H B (fx l))(m: ∀i∈l6 B,i<H.size)(hn:n=l.length/\n<=4096)(q: ∀i∈l6 B,i ∉ g.all):
  aF H ⟨g.t,1028,none⟩ 0 1/\Fr [g.t] H (aL H ⟨g.t,1028,none⟩ [vs B n c] 0)/\TrAt (aL H ⟨g.t,1028,none⟩ [vs B n c] 0) a {g with cB:=B,cN:=n,cC:=c} {b with cards:=l}:=by
 obtain⟨C,e,I,f,D,E,L,d⟩:=h.put (o:=1028) (v:=vs B n c) GF;obtain⟨F,G,M⟩:=h.rest e;refine⟨C,e,?_⟩;obtain⟨s,p,J,t,u,w,x,y,K,z⟩:=h.tr;rw[D]at p;cases p;refine⟨⟨f,E,GF,by rw[d,kb GF];exact t,by rw[d,kb GF];exact u,λi k=>by rw[d,kb GF];exact w i k,by rw[d,kb GF];exact x,by rw[d,kb GF];exact y,by rw[d,ka rfl],by rw[d,kb GF];exact z⟩,F,G,?_,λN A=>?_,hn,⟨h.ne.1,h.ne.2.1,h.ne.2.2.1,λi k=>?_⟩⟩
 ·cases B with
  | none=>exact r
  | some N=>
   refine e.rowAt ?_ r;have:=q N.block GH;simp[TB.all]at this⊢;omega
 ·have j:B=some N:=A;subst j;exact Fh (m _ GH) e.size
 ·have:=q i k;simp only[TB.all,Ew,not_or]at this;exact⟨this.1,this.2.1,this.2.2.1⟩
theorem TrAt.putFrm{c:Array MapEntry}{l:List (Int×Value)}(h:TrAt H a g b)(r:p8 (fB .i64) c.toList l):TrAt (bR H g.f (.map c q)) a g {b with frm:=l}:=by
 have f:Fr [g.f] H (bR H g.f (.map c q)):=Ez;have t:=h.lt g.f (by simp[TB.all]);obtain⟨m,n,s⟩:=h.tr;obtain⟨i,e,o,k⟩:=h.seen;have u:=h.ne;refine⟨⟨m,f.get (by simp;omega) n,s⟩,⟨c,q,bL t,r⟩,⟨i,e,f.get (by simp;omega) o,k⟩,?_,λv p=>Fh (h.cB v p) f.size,h.clen,h.ne⟩;have d:=h.cards
 cases j:g.cB with
 | none=>rw[j]at d;exact d
 | some v=>
  rw[j]at d;refine f.rowAt ?_ d;have:=u.2.2.2 v.block (by rw[j];simp);simp;omega
def fJ(g:Int):List Int:=(List.range (g+1).toNat).map λi:Nat=>(i:Int)
theorem lG:j∈fJ i ↔ 0<=j/\j<=i:=by
 unfold fJ;rw[EZ];constructor
 ·rintro⟨d,a,rfl⟩;rw[ER]at a;omega
 ·rintro⟨b,c⟩;exact⟨j.toNat,by rw[ER];omega,GF⟩
def Mem.young(m:Mem)(g:Int)(k:Nat):Bool:=decide (m.has k/\(m.seg k).gen<=g)
def Mem.nyoung(m:Mem)(g:Int):Nat:=(m.takenTo (fJ g) m.limit).length
structure jX (m:Mem) (g T:Int) (t:Tr):Prop where
 tgt:t.tgt=T
 old: ∀k,k<1024->t.old k=m.young g k
 frm: ∀k:Int,0<=k->Bb t.frm k=if m.has k/\(m.seg k.toNat).gen=T then some (vi (m.seg k.toNat).n)else none
 seen: ∀k:Int,0<=k->Bb t.seen k=if m.has k/\(m.seg k.toNat).gen=T then some (vi (m.seg k.toNat).n)else none
 frm0: ∀k:Int,k<0->Bb t.frm k=none
 seen0: ∀k:Int,k<0->Bb t.seen k=none
 cards: ∃l,iw m [] l/\t.cards=m.dirtyOf g l
 over:t.over=false
theorem jX.cardsOK(h:jX d i j b)(g:bP d):oz b.cards:=by
 obtain⟨l,f,e⟩:=h.cards;rw[e];intro c a;obtain⟨k,hk,o,n,rfl,_⟩:=Mem.mem_dirty.1 a;obtain⟨_,m,_⟩:=f.has hk;have:=g.lim;exact⟨⟨by show(0:Int)<=(k:Int);omega,by show(k:Int)<1024;omega⟩,by show(0:Int)<=(o:Int);omega,by show(o:Int)<4;omega⟩
theorem jX.seenOK(h:jX d i j b)(c:bP d):jq b.seen:=by
 intro k v a;rcases FD k 0 with hk | hk
 ·rw[h.seen0 k hk]at a;cases a
 rw[h.seen k hk]at a;split at a
 ·cases a;exact⟨_,rfl,(c.seg _).n⟩
 ·cases a
def jz(s:Sp)(g T more:Int):Int:=if g<0\/4<=g\/T<g\/g+1<T\/more<0 then 1 else if s.mem.free-2*s.mem.nyoung g-8<more then 2 else 0
theorem Sp.fresh_ok(b:SpOK k)(a:List Int):SpOK (k.fresh a):=Sp.zap_ok b _
def Told(m:Mem)(ks:List (Int×Value))(l:List Nat):Prop:= ∀k:Int,Bb ks k=if 0<=k/\k.toNat∈l then some (vi (m.seg k.toNat).n)else none
theorem Told.put{c:List (Int×Value)}{l:List Nat}(h:Told d c l)(k:Nat){v:Value}:Told d (vg (vg c k v) k (vi (d.seg k).n)) (l++[k]):=by
 intro a;rw[mw,mw,h a];by_cases e:a=k
 ·subst e;rw[ka rfl,ka ⟨GF,GH⟩];simp
 ·rw[kb e,kb e];refine kC ⟨λq=>⟨q.1,Fp _ q.2⟩,λq=>⟨q.1,?_⟩⟩ _ _;rcases EH.1 q.2 with b | b
  ·exact b
  ·simp at b;omega
theorem vL{g:Int}(hp:HpAt H a o)(ok:SpOK o.sp)(he:o.sp.mem.Even)(dA:o.sp.cf<4611686018427387904)(hg:BT i)(hT:BT j)(hm:BT g):
  iB.C (some ⟨a.h,0,none⟩) i j g H (λv H'=>(jz o.sp i j g≠0->v=.tuple #[vp none,vi (jz o.sp i j g)]/\Ext H H')/\
   (jz o.sp i j g=0-> ∃(q:TB) (t:Tr),v=.tuple #[vp (some ⟨q.t,0,none⟩),vi 0]/\Tg H' a {o with sp:=o.sp.fresh (fJ i)} q t/\jX o.sp.mem i j t/\(∀f3∈q.all,H.size<=f3)/\Fr (Bm a) H H')):=by
 refine Ei λR hR=>iB.link ?_;unfold iB.pt zY;rw[El];refine⟨_,hp.hPtr,?_⟩;rw[El];by_cases N:i<0\/4<=i\/j<i\/i+1<j\/g<0
 ·have e:jz o.sp i j g=1:=by unfold jz;rw[ka N]
  rw[ka ?_]
  ·exact hR _ _ ⟨λ_=>⟨by rw[e],ED _⟩,λh=>by rw[e]at h;exact absurd h GG⟩
  ·rcases N with h | h | h | h | h
   ·simp[h]
   ·have:i>=4:=h;simp[this]
   ·simp[h]
   ·by_cases Z:i>=4
    ·simp[Z]
    ·rw[n5 (n:=i+1) GF];have:j>i+1:=h;simp[this]
   ·simp[h]
 have er:0<=i/\i<4/\i<=j/\j<=i+1/\0<=g:=GF;rw[n5 (n:=i+1) GF]
 rw[kb (by
  simp only[EU,Ex];omega)]
 have e5:=ok.mem.lim;have D:(fJ i).length=(i+1).toNat:=by simp[fJ]
 refine⟨λB n c f3 A=>(0<=f3/\f3<=i+1)/\n=f3.toNat/\Own A 3 1 B n c (Bw ((fJ i).take f3.toNat))/\(∀f4∈l6 B,H.size<=f4)/\Ext H A,λ_ _ _ f3 _=>(i+1-f3).toNat,⟨GF,rfl,gW,GH,ED _⟩,?_⟩;rintro gB gN gC f3 H1 ⟨hi,rfl,P,bi,f5⟩;by_cases bl:f3<i+1
 ·rw[ka bl];intro c2 H2 dy ck;have fa:Ext H1 H2:=Eh ck;have hd:(i+1-(f3+1)).toNat< (i+1-f3).toNat:=GF;rw[n5 (n:=f3+1) GF]
  refine dE (ys:=[vi f3]) (P.ext fa) (cX (aK dy ck) _ 0 0 (λf4 d=>by
   simp only[List.length_cons,List.length_nil]at d;obtain rfl:f4=0:=GF;rfl)) rfl rfl rfl GF ?_
  intro p' c' H4 ay fc dN
  have ht:(fJ i).take (f3+1).toNat=(fJ i).take f3.toNat++[f3]:=by
   rw[show(f3+1).toNat=f3.toNat+1 by omega,EL (by rw[D];omega)];congr 2;simp[fJ];omega
  refine⟨⟨GF,GF,?_,λf4 d=>?_,(f5.trans fa).fr_trans fc bi⟩,hd⟩
  ·rw[ht,show f3.toNat+1=f3.toNat+1 from rfl];unfold Bw at ay⊢;rw[E4];exact ay
  ·rcases dN f4 d with h | h
   ·exact bi f4 h
   ·have:=f5.size;have:=fa.size;omega
 rw[kb bl];have dJ:f3.toNat=(fJ i).length:=by rw[D];omega
 rw[dJ]at P⊢;rw[Fq]at P;have aj:=hp.ext f5;refine⟨_,aj.hPtr,_,rfl,_,aj.cd.cPtr,_,rfl,_,aj.cd.sp.memPtr,?_⟩;refine gc (kU (gs:=fJ i) aj.cd.sp.mem ok.mem P.src rfl GF) ?_;rintro _ H4 ⟨yB,yC,b,rfl,am,aB,dH,e4⟩;refine⟨_,_,_,rfl,?_⟩;have X:=f5.trans e4;have ak:=hp.ext X;have dT:=am.len;have cC:b.length=o.sp.mem.nyoung i:=am.perm.length_eq;refine⟨_,ak.hPtr,_,rfl,_,ak.cd.cPtr,_,rfl,_,ak.cd.sp.memPtr,?_⟩;refine gc (vK ak.cd.sp.mem) ?_;rintro _ H5 ⟨rfl,rfl⟩;have dG:=ok.mem.free
 have et:o.sp.mem.nfree<=o.sp.mem.limit:=by
  unfold Mem.nfree;exact Fe List.countP_le_length GH
 refine⟨_,rfl,?_⟩;rw[n5 (n:=2*(b.length:Int)) GF,n5 (n:=o.sp.mem.free-2*(b.length:Int)) GF,n5 (n:=o.sp.mem.free-2*(b.length:Int)-8) GF];by_cases z:o.sp.mem.free-2*(b.length:Int)-8<g
 ·rw[ka z];have e:jz o.sp i j g=2:=by unfold jz;rw[kb N,ka (by rw[<-cC];exact z)]
  exact hR _ _ ⟨λ_=>⟨by rw[e],X⟩,λh=>by rw[e]at h;exact absurd h GG⟩
 rw[kb z];have es:jz o.sp i j g=0:=by unfold jz;rw[kb N,kb (by rw[<-cC];exact z)]
 intro u H6 cq ag r H7 cr ah L H8 dx bf;have ei:Ext H5 H6:=Eh ag;have e7:Ext H6 H7:=Eh ah;have e8:Ext H7 H8:=Eh bf;have z6:H6.size=H5.size+1:=by rw[ag];simp
 have z7:H7.size=H6.size+1:=by rw[ah];simp
 have z5:=X.size;have ab:Ext H5 H8:=(ei.trans e7).trans e8;have bX:=X.trans ab;have ev:=hp.ext bX;have T8:TrAt H8 a ⟨L,u,r,none,0,0⟩ ⟨j,λ_=>false,[],[],[],false⟩:=TrAt.init (aK dx bf) (e8.get (e7.get (aK cq ag))) (e8.get (aK cr ah)) ⟨GF,GF,GF⟩;have y: ∀f4∈a.all,f4<H.size:=λf4 d=>hp.lt f4 d;have dS: ∀f4∈l6 yB,f4<H5.size/\H1.size<=f4:=λf4 d=>⟨aB.lt f4 d,dH f4 d⟩;have bj: ∀f4∈l6 gB,f4<H1.size/\H.size<=f4:=λf4 d=>⟨P.lt f4 d,bi f4 d⟩;have z1:=f5.size;have z4:=e4.size;refine⟨λf3 A=>(0<=f3/\f3<=b.length)/\TrAt A a ⟨L,u,r,none,0,0⟩ ⟨j,λk=>decide (k∈b.take f3.toNat),[],[],[],false⟩/\Fr [L] H8 A,λf3 _=>(b.length-f3).toNat,⟨GF,by simpa using T8,Ey _ _⟩,?_⟩;rintro K H9 ⟨dI,T9,f9⟩;by_cases bk:K< (b.length:Int)
 ·rw[ka bk];have a7:K.toNat<b.length:=GF;have bn:=(aB.ext ab).keep f9 (λf4 d hm=>by have:=dS f4 d;simp at hm;omega);obtain⟨f2,ha,a4⟩:=qH bn a7;obtain⟨aC,cK,cL,_⟩:=am.has (Eu a7);have Bq:=T9.putOld (k:=b[K.toNat]) GF;have hd:((b.length:Int)-(K+1)).toNat< ((b.length:Int)-K).toNat:=GF;refine⟨f2,ha,⟨dI.1,bk⟩,_,a4,⟨GF,GF⟩,?_⟩;rw[Ej,Ej,Eo,EG,show((b[K.toNat]:Nat):Int).toNat=b[K.toNat]by omega,n5 (n:=K+1) GF];refine⟨Bq.1,λe9 ch=>?_⟩;subst ch;refine⟨⟨GF,?_,f9.trans Bq.2.1⟩,hd⟩
  have ho:(λk=>decide (k∈b.take (K+1).toNat))=(λf3=>if f3=b[K.toNat]then true else decide (f3∈b.take K.toNat)):=by
   funext k;rw[show(K+1).toNat=K.toNat+1 by omega,EL a7];by_cases hk:k=b[K.toNat]
   ·rw[ka hk,hk];exact zX (Gn _ (List.mem_singleton.2 rfl))
   ·rw[kb hk,F2,EH,List.mem_singleton];exact⟨λh=>h.resolve_right hk,.inl⟩
  rw[ho];exact Bq.2.2
 rw[kb bk];have a7:K.toNat=b.length:=GF;rw[a7,Fq]at T9;have dp:Fr [L] H5 H9:=ab.fr.trans f9;have ce:Ext H H9:=X.fr_trans dp (λf4 d=>by simp at d;omega);have al:=hp.ext ce;refine⟨_,al.hPtr,_,rfl,_,al.cd.cPtr,_,rfl,_,al.cd.sp.memPtr,?_⟩;intro d9 aV cs aw;have b5:Ext H9 aV:=Eh aw;have z8:H8.size=H7.size+1:=by rw[bf];simp
 have z9:=f9.size;have cE:=al.ext b5;refine gc (kU (gs:=[j]) cE.cd.sp.mem ok.mem (show bV aV (some ⟨d9,0,none⟩) (Bw [j])from Bo (by rw[aW (aK cs aw)];rfl)) rfl GG) ?_;rintro _ aX ⟨wB,wC,l,rfl,hl,az,dF,de⟩;refine⟨_,_,_,rfl,?_⟩;have dM:=hl.len;have F:=b5.trans de;have cc:=ce.trans F;have eC:=F.size;have dR: ∀f4∈l6 wB,f4<aX.size/\aV.size<=f4:=λf4 d=>⟨az.lt f4 d,dF f4 d⟩;have eB:=b5.size;refine⟨λf3 A=>(0<=f3/\f3<=l.length)/\(∃ks w:List (Int×Value),TrAt A a ⟨L,u,r,none,0,0⟩ ⟨j,λk=>decide (k∈b),ks,w,[],false⟩/\Told o.sp.mem ks (l.take f3.toNat)/\Told o.sp.mem w (l.take f3.toNat))/\(∃es cl,A[u]?=some (.map es cl)/\Born es cl)/\(∃es cl,A[r]?=some (.map es cl)/\Born es cl)/\Fr [u,r] aX A,λf3 _=>(l.length-f3).toNat,?_,?_⟩
 ·have cn: ∀c,c=u\/c=r->aX[c]?=some (.map #[] 0):=λc hc=>by
   have dz:H8[c]?=some (.map #[] 0):=by
    rcases hc with rfl | rfl
    ·exact e8.get (e7.get (aK cq ag))
    ·exact e8.get (aK cr ah)
   exact F.get (f9.get (by simp;omega) dz)
  exact⟨GF,⟨[],[],T9.ext F,λk=>by simp[Bb],λk=>by simp[Bb]⟩,⟨_,_,cn _ (.inl rfl),tS⟩,⟨_,_,cn _ (.inr rfl),tS⟩,Ey _ _⟩
 rintro p bs ⟨cz,⟨ks,w,bz,O,E⟩,⟨c8,bT,cx,b2⟩,⟨ba,b4,cy,b3⟩,Y⟩;have eD:=Y.size;have M:Ext H bs:=cc.fr_trans Y (λf4 d=>by simp at d;omega);have m:=hp.ext M;by_cases a6:p< (l.length:Int)
 ·rw[ka a6];have G:p.toNat<l.length:=GF;have ai:=az.keep Y (λf4 d hm=>by have:=dR f4 d;simp at hm;omega);obtain⟨f2,ha,a4⟩:=qH ai G;obtain⟨aC,cK,cL,_⟩:=hl.has (Eu G);have cJ:l.take (p+1).toNat=l.take p.toNat++[l[p.toNat]]:=by rw[show(p+1).toNat=p.toNat+1 by omega,EL G]
  generalize hk:l[p.toNat]=k at*;refine⟨f2,ha,⟨cz.1,a6⟩,_,a4,_,m.hPtr,_,rfl,_,m.cd.cPtr,_,rfl,_,m.cd.sp.memPtr,?_⟩;refine gc (iv m.cd.sp.mem) ?_;rintro _ ea ⟨rfl,ao⟩;have dP:o.sp.mem.segOr k=o.sp.mem.seg k:=by unfold Mem.segOr;rw[ka aC,show((k:Nat):Int).toNat=k by omega]
  rw[dP];refine⟨_,_,_,_,_,_,_,_,rfl,λW eb ct ci=>?_⟩;obtain⟨dB,hs⟩:=kl (o.sp.mem.seg k) ct ci;refine⟨dB,λQ cj=>?_⟩;obtain⟨df,_,_,g2,_⟩:=hs Q cj;have x:=ao.trans df;have V:=bz.ext x;have eE:=ao.size;have dW:W≠u/\W≠r:=GF;have I:Q[u]?=some (.map c8 bT):=x.get cx;have J:Q[r]?=some (.map ba b4):=x.get cy;obtain⟨e1,dZ,q1,b7⟩:=V.frm;obtain⟨e2,e0,q2,b8⟩:=V.seen;rw[show(⟨L,u,r,none,0,0⟩:TB).f=u from rfl,I]at q1;rw[show(⟨L,u,r,none,0,0⟩:TB).s=r from rfl,J]at q2;cases q1;cases q2;refine⟨some u,by rw[Ej];exact V.fAt,some r,by rw[Ej];exact V.sAt,_,by rw[Ej];exact g2,_,by rw[Ej];exact g2,u,rfl,c8,bT,ks,I,b7,b2,?_⟩;intro dk bN st an S a0 ap bC co;have cM:=aS I;have e6:=aS J;have ac:Fr [u] Q S:=by rw[a0];exact Ez
  have bd:hat S ⟨W,2,none⟩=some (vi (o.sp.mem.seg k).n):=ac.hat (by simp;omega) g2;refine⟨by rw[Ej];exact Bo bd,by rw[Ej];exact Bo bd,dk,bN,_,(k:Int),by rw[a0];exact bL cM,ap,bC,co,?_⟩;intro dl T a1 c6 bD;have cN:u<S.size:=by have:=ac.size;omega
  have bc:Fr [u] S T:=by rw[a1];exact Ez
  have cg:hat T ⟨W,2,none⟩=some (vi (o.sp.mem.seg k).n):=bc.hat (by simp;omega) bd;have a5:T[r]?=some (.map ba b4):=bc.get (by simp;omega) (ac.get (by simp;omega) J);refine⟨by rw[Ej];exact Bo cg,r,rfl,ba,b4,w,a5,b8,b3,?_⟩;intro dm bS ey cS U a2 au bE cp;have cO:=aS a5;have ae:Fr [r] T U:=by rw[a2];exact Ez
  have dr:hat U ⟨W,2,none⟩=some (vi (o.sp.mem.seg k).n):=ae.hat (by simp;omega) cg;refine⟨by rw[Ej];exact Bo dr,dm,bS,_,(k:Int),by rw[a2];exact bL cO,au,bE,cp,?_⟩;intro dn b0 a3 c7 bH;have c9:Fr [r] U b0:=by rw[a3];exact Ez
  have cQ:r<U.size:=by have:=ae.size;omega
  have hd:((l.length:Int)-(p+1)).toNat< ((l.length:Int)-p).toNat:=GF;rw[n5 (n:=p+1) GF];have d3:TrAt S a ⟨L,u,r,none,0,0⟩ ⟨j,λk=>decide (k∈b),vg ks k an,w,[],false⟩:=by rw[a0];exact V.putFrm ap
  have d4:TrAt T a ⟨L,u,r,none,0,0⟩ ⟨j,λk=>decide (k∈b),vg (vg ks k an) k (vi (o.sp.mem.seg k).n),w,[],false⟩:=by rw[a1];exact d3.putFrm c6
  have d5:TrAt U a ⟨L,u,r,none,0,0⟩ ⟨j,λk=>decide (k∈b),vg (vg ks k an) k (vi (o.sp.mem.seg k).n),vg w k cS,[],false⟩:=by rw[a2];exact d4.putSeen au
  have d6:TrAt b0 a ⟨L,u,r,none,0,0⟩ ⟨j,λk=>decide (k∈b),vg (vg ks k an) k (vi (o.sp.mem.seg k).n),vg (vg w k cS) k (vi (o.sp.mem.seg k).n),[],false⟩:=by rw[a3];exact d5.putSeen c7
  have bb:Fr [u,r] Q b0:=((ac.mono (λf4 d _=>by simp at d;simp[d])).trans (bc.mono (λf4 d _=>by simp at d;simp[d]))).trans ((ae.mono (λf4 d _=>by simp at d;simp[d])).trans (c9.mono (λf4 d _=>by simp at d;simp[d])));refine⟨⟨GF,⟨_,_,d6,by rw[cJ];exact O.put k,by rw[cJ];exact E.put k⟩,⟨dl,bN,?_,bD⟩,⟨dn,bS,by rw[a3];exact bL cQ,bH⟩,Y.trans (x.fr.trans bb)⟩,hd⟩;exact c9.get (by simp;omega) (ae.get (by simp;omega) (by rw[a1];exact bL cN))
 rw[kb a6];have G:p.toNat=l.length:=GF;rw[G,Fq]at O E;refine⟨_,m.hPtr,_,rfl,_,m.cd.cPtr,?_⟩
 have bm:Own bs 3 1 gB (fJ i).length gC (Bw (fJ i)):=by
  have h5:=P.ext (e4.trans ab);have h9:=h5.keep f9 (λf4 d hm=>by have:=bj f4 d;simp at hm;omega);exact(h9.ext F).keep Y (λf4 d hm=>by have:=bj f4 d;simp at hm;omega)
 refine gc (rv m.cd.sp bm.src rfl GF (λf4 d=>by have:=bj f4 d;have:=y a.sp (by simp[Blk.all]);omega)) ?_;rintro _ bu ⟨cR,af⟩;have a9:=m.withSp af (λf4 d=>by simp at d;omega) cR;refine⟨_,a9.hPtr,?_⟩;have aT:=Sp.fresh_ok ok (fJ i);refine gc (tz a9.cd aT) ?_;rintro _ b1 ⟨f6,f8,f7,f9,rfl,bg,cw,a8,bh,b6⟩;refine⟨_,_,_,rfl,?_⟩;have eh:=y a.sp (by simp[Blk.all])
 have bB:TrAt bu a ⟨L,u,r,none,0,0⟩ ⟨j,λk=>decide (k∈b),ks,w,[],false⟩:=bz.keep af (λf4 d hq=>by
  simp at d;simp[TB.all]at hq;omega)
 have d7:=bB.ext b6;have dC:=o.sp.mem.dirtyOf_len i f9;have cv:=bg.len;have cB:(o.sp.fresh (fJ i)).mem=o.sp.mem:=rfl;rw[cB]at cw a8 bg cv;have eF:=af.size
 have Bq:=d7.putCards (B:=f6) (n:=f8) (c:=f7) (l:=o.sp.mem.dirtyOf i f9) a8.src a8.lt ⟨cw,GF⟩ (λf4 d hq=>by
  have h1:=bh f4 d;have h2:=bB.lt f4 hq;omega)
 rw[Ej,Eo];refine⟨Bq.1,λee cm=>?_⟩;subst cm
 have dq:Fr (Bm a) H (aL b1 ⟨L,1028,none⟩ [vs f6 f8 f7] 0):=by
  have f1:Fr (Bm a) H bu:=M.fr.trans (af.mono (λf4 d _=>by simp at d;simp[Bm,d]));have fb:Fr (Bm a) H b1:=f1.trans b6.fr;refine fb.trans' Bq.2.1 (λf4 d _=>d) (λf4 d bl=>?_);simp at d;omega
 have cH:=a9.ext b6
 have cI:HpAt (aL b1 ⟨L,1028,none⟩ [vs f6 f8 f7] 0) a {o with sp:=o.sp.fresh (fJ i)}:=cH.keep Bq.2.1 (λf4 d hb=>by
  have:=y f4 hb;simp at d;omega)
 refine hR _ _ ⟨λh=>absurd es h,λ_=>⟨_,_,rfl,⟨⟨cI,aT,Bq.2.2,λf4 d hb=>?_⟩,he,dA,rfl⟩,?_,λf4 d=>?_,dq⟩⟩
 ·have h1:=y f4 hb;simp only[TB.all,Ew]at d;rcases d with h | h | h | h
  ·omega
  ·omega
  ·omega
  ·have:=bh f4 h;have:=M.size;omega
 ·have ax: ∀bp:List (Int×Value),Told o.sp.mem bp l-> ∀k:Int,0<=k->Bb bp k=if o.sp.mem.has k/\(o.sp.mem.seg k.toNat).gen=j then some (vi (o.sp.mem.seg k.toNat).n)else none:=by
   intro bp ht k hk;rw[ht k];refine kC ?_ _ _;rw[hl.perm.mem_iff];unfold Mem.takenTo;rw[Fg,ER];have h1:=(ok.mem.seg k.toNat).taken;constructor
   ·rintro⟨_,h3,Z⟩;simp only[EF,Ex,EU,List.isEmpty_iff]at Z;have h5:(o.sp.mem.seg k.toNat).gen∈[j]:=Z.2.resolve_left GH;exact⟨⟨hk,GF,GF⟩,by simpa using h5⟩
   ·rintro⟨h3,Z⟩;have h5:=h3.2.2;refine⟨hk,by have:=h3.2.1;omega,?_⟩;simp only[EF,Ex,EU];exact⟨GF,.inr (by rw[Z];simp)⟩
  refine⟨rfl,λk hk=>?_,λk hk=>?_,λk hk=>?_,λk hk=>?_,λk hk=>?_,⟨f9,bg,rfl⟩,rfl⟩
  ·show decide (k∈b)=_;unfold Mem.young;rw[F2,am.perm.mem_iff];unfold Mem.takenTo;rw[Fg,ER];have h1:=(ok.mem.seg k).taken;have h2:=(ok.mem.seg k).gen;have cA:((k:Nat):Int).toNat=k:=GF;constructor
   ·rintro⟨h3,Z⟩;simp only[EF,Ex,EU,List.isEmpty_iff]at Z
    have h5:(o.sp.mem.seg k).gen∈fJ i:=by
     rcases Z.2 with h | h
     ·rw[h]at D;simp at D;omega
     ·exact h
    exact⟨⟨GF,GF,by rw[cA];omega⟩,(lG.1 h5).2⟩
   ·rintro⟨h3,Z⟩;have h5:=h3.2.2;rw[cA]at h5;refine⟨by have:=h3.2.1;omega,?_⟩;simp only[EF,Ex,EU];exact⟨GF,.inr (lG.2 ⟨h2.1,Z⟩)⟩
  ·exact ax _ O k hk
  ·exact ax _ E k hk
  ·show Bb ks k=none;rw[O k,kb GF]
  ·show Bb w k=none;rw[E k,kb GF]
 ·simp only[TB.all,Ew]at d;have:=bX.size;rcases d with h | h | h | h
  ·omega
  ·omega
  ·omega
  ·have:=bh f4 h;have:=M.size;omega
def Mem.give(m:Mem)(k:Int):Mem:=if m.has k then{m with free:=m.free+1}.upd k.toNat Seg.none else m
theorem bP.give{m:Mem}(a:bP m)(k:Int):bP (m.give k):=by
 unfold Mem.give;split
 ·rename_i h
  refine⟨a.lim,λi=>?_,?_,a.count⟩
  ·rw[E0];split
   ·exact nI
   ·exact a.seg i
  ·show m.free+1=_;have b:({m with free:=m.free+1}.upd k.toNat Seg.none).nfree=(m.upd k.toNat Seg.none).nfree:=rfl;have:=Mem.nfree_give (m:=m) (k:=k.toNat) (s:=Seg.none) (by have:=h.1;have:=h.2.1;omega) h.2.2 rfl;rw[b,this,a.free];omega
 ·exact a
theorem nU{k:Int}(h:eG H q r d)(A:bP d):
  fU.C (some ⟨q,0,none⟩) k H (λv t=>v=vi (if d.has k then 0 else 19)/\eG t q r (d.give k)/\Fr [q,r] H t):=by
 refine Ei λR p=>fU.link ?_;unfold fU.pt zY;refine gc (mQ h) ?_;rintro _ B ⟨rfl,rfl⟩;refine⟨_,rfl,?_⟩;by_cases hk:d.has k
 case neg=>
  rw[kb hk,Ev];have e:d.give k=d:=by unfold Mem.give;rw[kb hk]
  rw[e,kb hk]at p;exact p _ _ ⟨rfl,h,Ey _ _⟩
 rw[ka hk,El];have g:k.toNat<d.limit:=by have:=hk.1;have:=hk.2.1;omega
 have c:=h.canPuts (k:=k.toNat) (o:=0) (n:=72) g GF;rw[Nat.add_zero]at c;refine⟨c,λu m=>?_⟩;obtain⟨z,F,N,K⟩:=rX;obtain⟨a,l⟩:=h.puts (k:=k.toNat) (o:=0) (vs:=z.toList) (s:=Seg.none) g (by simp;omega) (λj y=>by rw[Eo,Array.getElem?_toList];exact K j (by simp at y;omega)) (λj y L=>by simp at L;omega);rw[Nat.add_zero]at a l;have E:u=aL B ⟨r,k.toNat*72,none⟩ z.toList 0:=by rw[m,F]
 rw[<-E]at a l
 have x:d.free<=1024/\0<=d.free:=by
  have:=A.lim;have:d.nfree<=(List.range d.limit).length:=List.countP_le_length;simp at this;rw[A.free];omega
 refine⟨_,rfl,d.free,by rw[Ej];exact a.freeAt,by rw[Ej];exact cZ a.mem.choose_spec _ _ _ GH,λw b=>?_⟩;rw[Ej,dX _ _ _ _ _ a.mem.choose_spec,n5 (n:=d.free+1) GF]at b;have e:d.give k={d with free:=d.free+1}.upd k.toNat Seg.none:=by unfold Mem.give;rw[ka hk]
 have I:eG w q r (d.give k):=by
  rw[e];subst b;obtain⟨D,J,M⟩:=a.segs;exact⟨⟨a.mem.choose,by rw[bL a.lt.1];rfl⟩,h.ne,D,by rw[iz h.ne];exact J,M⟩
 have G:Fr [q] u w:=by subst b;exact Ez
 exact p _ _ ⟨by rw[ka hk],I,l.trans' G (λi f _=>by simp at f;simp[f]) (λi f _=>by simp at f;simp[f])⟩
def Sp.give(s:Sp)(k:Int):Sp:=if s.mem.has k then{mem:=s.mem.give k,cur:=λi j=>if s.cur i j=k+1 then 0 else s.cur i j}else s
theorem Sp.give_ok(c:SpOK k)(o:Int):SpOK (k.give o):=by
 unfold Sp.give;split
 ·rename_i hk
  refine⟨c.mem.give o,λg j=>?_⟩;by_cases h:k.cur g j=o+1
  ·exact .inl (ka h)
  ·have a:({mem:=k.mem.give o,cur:=λi j=>if k.cur i j=o+1 then 0 else k.cur i j}:Sp).cur g j=k.cur g j:=kb h;rw[a];rcases c.cur g j with f | ⟨l,b,m,n⟩
   ·exact .inl f
   ·have hn:(k.cur g j-1).toNat≠o.toNat:=by have:=b.1;have:=hk.1;omega
    have e:(k.mem.give o).seg (k.cur g j-1).toNat=k.mem.seg (k.cur g j-1).toNat:=by unfold Mem.give;rw[ka hk,Fi _ _ hn]
    have d:(k.mem.give o).limit=k.mem.limit:=by unfold Mem.give;rw[ka hk];rfl
    exact .inr ⟨l,⟨b.1,by show _< ((k.mem.give o).limit:Int);rw[d];exact b.2.1,by show((k.mem.give o).seg _).taken≠0;rw[e];exact b.2.2⟩,by show((k.mem.give o).seg _).gen=_;rw[e];exact m,by show((k.mem.give o).seg _).kind=_;rw[e];exact n⟩
 ·exact c
theorem tA{s:Sp}{k:Int}(h:SpAt H a s)(l:SpOK s)(M:0<=k/\k<=1024):
  fo.C (some ⟨a.sp,0,none⟩) k H (λv I=>(∃e:Int,v=vi e)/\SpAt I a (s.give k)/\Fr [a.sp,a.m,a.s] H I):=by
 refine Ei λR u=>fo.link ?_;unfold fo.pt zY;refine gc (oe h) ?_;rintro _ H1 ⟨rfl,rfl⟩;refine⟨_,rfl,?_⟩;rw[kb GG];refine⟨_,rfl,_,h.memPtr,?_⟩;refine gc (iv h.mem) ?_;rintro _ H2 ⟨rfl,P⟩;refine⟨_,_,_,_,_,_,_,_,rfl,λc3 H3 D A=>?_⟩;obtain⟨E,Y⟩:=kl (s.mem.segOr k) D A;refine⟨E,λN B=>?_⟩;obtain⟨Q,y,z,_,_⟩:=Y N B;have f:=P.trans Q;have c:=h.ext f;by_cases hk:s.mem.has k
 case neg=>
  rw[kb (by simpa using hk)];refine⟨_,c.memPtr,?_⟩;refine gc (nU c.mem l.mem) ?_;rintro _ J ⟨rfl,x,o⟩;have e:s.give k=s:=by unfold Sp.give;rw[kb hk]
  have O:s.mem.give k=s.mem:=by unfold Mem.give;rw[kb hk]
  rw[O]at x;rw[e]at u;exact⟨_,rfl,u _ _ ⟨⟨_,rfl⟩,c.withMem o (by have:=h.ne;simp;omega) x,f.fr.trans (o.mono (λi d _=>by simp at d;simp;omega))⟩⟩
 rw[ka (zX hk)];have G:s.mem.segOr k=s.mem.seg k.toNat:=by unfold Mem.segOr;rw[ka hk]
 rw[G]at y z;have V:=(l.mem.seg k.toNat).gen;have X:=(l.mem.seg k.toNat).kind;have q:=c.curAt (g:=(s.mem.seg k.toNat).gen.toNat) (k:=(s.mem.seg k.toNat).kind.toNat) GF GF;refine⟨_,y,_,by rw[Ej];exact z,⟨GF,GF⟩,⟨GF,GF⟩,_,by simp only[Ej,Eo,EG];exact q,?_⟩;rw[n5 (n:=k+1) GF];have K:s.give k={mem:=s.mem.give k,cur:=λi j=>if s.cur i j=k+1 then 0 else s.cur i j}:=by unfold Sp.give;rw[ka hk]
 have b: ∀i j:Nat,s.cur i j=k+1->i=(s.mem.seg k.toNat).gen.toNat/\j=(s.mem.seg k.toNat).kind.toNat:=λi j F=>by
  rcases l.cur i j with h0 | ⟨h1,h2,S,c⟩
  ·have:=hk.1;omega
  ·rw[F,show(k+1-1).toNat=k.toNat by omega]at S c;omega
 by_cases w:s.cur (s.mem.seg k.toNat).gen.toNat (s.mem.seg k.toNat).kind.toNat=k+1
 ·rw[ka w];have t:=c.putCur (g:=(s.mem.seg k.toNat).gen.toNat) (k:=(s.mem.seg k.toNat).kind.toNat) (v:=0) GF GF;refine⟨_,y,_,by rw[Ej];exact z,⟨GF,GF⟩,⟨GF,GF⟩,by simp only[Ej,Eo,EG];exact t.1,λJ p=>?_⟩;simp only[Ej,Eo,EG]at p;subst p;refine⟨_,t.2.1.memPtr,?_⟩;refine gc (nU t.2.1.mem l.mem) ?_;rintro _ H6 ⟨rfl,Z,L⟩;have U:=t.2.1.withMem L (by have:=h.ne;simp;omega) Z;refine⟨_,rfl,u _ _ ⟨⟨_,rfl⟩,?_,(f.fr.trans (t.2.2.mono (λi d _=>by simp at d;simp[d]))).trans (L.mono (λi d _=>by simp at d;simp;omega))⟩⟩;rw[K];refine U.alike rfl (λi j d W=>?_);show(if s.cur i j=k+1 then 0 else s.cur i j)=(if i=_/\j=_ then 0 else s.cur i j);refine kC ⟨b i j,λr=>?_⟩ _ _;rw[r.1,r.2];exact w
 ·rw[kb w];refine⟨_,c.memPtr,?_⟩;refine gc (nU c.mem l.mem) ?_;rintro _ J ⟨rfl,x,o⟩;have T:=c.withMem o (by have:=h.ne;simp;omega) x;refine⟨_,rfl,u _ _ ⟨⟨_,rfl⟩,?_,f.fr.trans (o.mono (λi d _=>by simp at d;simp;omega))⟩⟩;rw[K];refine T.alike rfl (λi j d W=>?_);show(if s.cur i j=k+1 then 0 else s.cur i j)=s.cur i j;rw[kb (λr=>w (by have:=b i j r;rw[<-this.1,<-this.2];exact r))]
def Mem.cardLen(m:Mem)(k c:Int):Nat:=(min 16 ((m.seg k.toNat).n-c*16)).toNat
def Mem.markOf(m:Mem)(k c:Int)(n:Nat):Int:=(m.row (k*64+c*16) n).foldl (λmk w=>m.younger (m.seg k.toNat) w mk) 5
def Mem.again(m:Mem)(k c:Int):Mem:=if m.has k/\0<=c/\c<4 then(m.mark k c (m.markOf k c (m.cardLen k c))).1 else m
theorem Mem.markOf_succ(m:Mem)(k c:Int)(n:Nat):m.markOf k c (n+1)=m.younger (m.seg k.toNat) (m.get (k*64+c*16+n)) (m.markOf k c n):=by
 unfold Mem.markOf Mem.row;rw[Fs,E4,Gp];rfl
theorem pJ{d:Value}{b:Blk}{s:Sp}{p1 p2 p3:Nat}{k c:Int}{R0:zV->Prop}(Inv:Nat->zV->Prop)(y:SpOK s)(hk:s.mem.has k)(L:0<=c/\c<4)(D:Inv 0 H)
  (r: ∀j A,Inv j A->SpAt A b s/\hat A ⟨b.c,0,none⟩=some (vp (some ⟨b.sp,0,none⟩))/\hat A ⟨p1,0,none⟩=some (vp (some ⟨b.c,0,none⟩))/\hat A ⟨p2,0,none⟩=some (vi k)/\hat A ⟨p3,0,none⟩=some (vi c))
  (f: ∀j,j<s.mem.cardLen k c-> ∀A,Inv j A->FC prog d #[vu (s.mem.get (k*64+c*16+j))] A (λv z=>v=VT/\Inv (j+1) z))
  (e: ∀A,Inv (s.mem.cardLen k c) A->R0 A):
  fh.C d (some ⟨p1,0,none⟩) (some ⟨p2,0,none⟩) (some ⟨p3,0,none⟩) H (λv A=>v=.tuple #[]/\R0 A):=by
 refine Ei λR u=>fh.link ?_;unfold fh.pt zY;have x:=y.mem.lim;have N:=hk.1;have O:=hk.2.1;refine⟨λi A=> ∃j:Nat,i=j/\j<=s.mem.cardLen k c/\Inv j A,λi _=>(16-i).toNat,⟨0,rfl,Fm _,D⟩,?_⟩;rintro i A ⟨j,rfl,M,m⟩;have w:s.mem.cardLen k c<=16:=by unfold Mem.cardLen;omega
 by_cases g:(j:Int)<16
 ·rw[ka g];obtain⟨l,F,G,I,J⟩:=r j A m;refine⟨_,rfl,_,G,_,rfl,_,F,_,rfl,_,l.memPtr,_,rfl,_,I,_,rfl,_,J,?_⟩;rw[n5 (n:=k*64) GF,n5 (n:=c*16) GF,n5 (n:=k*64+c*16) GF,n5 (n:=k*64+c*16+j) GF];refine gc (je l.mem y.mem GF) ?_;rintro _ B ⟨rfl,rfl⟩;have p:(k*64+c*16+j) / 64=k:=GF;have t:(k*64+c*16+(j:Int)) % 64=c*16+j:=GF;by_cases o:s.mem.used (k*64+c*16+j)
  ·rw[ka o];refine⟨_,_,rfl,?_⟩;rw[ka rfl]
   have a:j<s.mem.cardLen k c:=by
    have E:=o.2.2;rw[p,t]at E;unfold Mem.cardLen;omega
   refine(f j a B m).mono ?_;rintro v K ⟨rfl,q⟩;refine⟨true,rfl,?_⟩;rw[ka rfl,n5 (n:=(j:Int)+1) GF];exact⟨⟨j+1,GF,GF,q⟩,by show(16-((j:Int)+1)).toNat< (16-(j:Int)).toNat;omega⟩
  ·rw[kb o];refine⟨_,_,rfl,?_⟩;rw[kb GG]
   have a:j=s.mem.cardLen k c:=by
    rcases EC j (s.mem.cardLen k c)with h | h
    ·refine absurd ⟨GF,by rw[p];exact hk,?_⟩ o;rw[p,t];unfold Mem.cardLen at h;omega
    ·omega
   exact u _ _ ⟨rfl,e _ (a▸m)⟩
 ·rw[kb g];have a:j=s.mem.cardLen k c:=GF;exact u _ _ ⟨rfl,e _ (a▸m)⟩
theorem Mem.younger_rng(b:bP d)(a:Seg)(w:Int)(h:0<=i/\i<=5):0<=d.younger a w i/\d.younger a w i<=5:=by
 have:=b.genOf w;unfold Mem.younger;split
 ·omega
 ·exact h
theorem Mem.markOf_rng{m:Mem}(a:bP m)(k c:Int): ∀n,0<=m.markOf k c n/\m.markOf k c n<=5
 | 0=>(by decide:(0:Int)<=5/\(5:Int)<=5)
 | n+1=>by rw[Mem.markOf_succ];exact Mem.younger_rng a _ _ (Mem.markOf_rng a k c n)
theorem tB{b:Blk}{s:Sp}{k c:Int}(h:CdAt H b s)(ok:SpOK s)(b7: ∀i,i∈[b.c,b.sp,b.m,b.s]->i<H.size):
  fp.C (some ⟨b.c,0,none⟩) k c H (λv H'=>(∃e:Int,v=vi e)/\CdAt H' b {s with mem:=s.mem.again k c}/\Fr [b.m,b.s] H H'):=by
 refine Ei λR U=>fp.link ?_;unfold fp.pt;intro c1 H1 b0 K;have e1:Ext H H1:=Eh K;have g1:=aK b0 K;refine⟨_,by rw[aW g1];rfl,?_⟩;have h1:=h.ext e1;have z1:H1.size=H.size+1:=by rw[K];simp
 refine gc (mR h1) ?_;rintro _ H2 ⟨rfl,rfl⟩;refine⟨_,rfl,?_⟩;rw[kb GG];refine⟨_,by rw[aW g1];rfl,_,rfl,_,h1.cPtr,_,rfl,_,h1.sp.memPtr,?_⟩;refine gc (iv h1.sp.mem) ?_;rintro _ H3 ⟨rfl,W⟩;refine⟨_,_,_,_,_,_,_,_,rfl,λc4 H4 aa L=>?_⟩;obtain⟨b2,hs⟩:=kl (s.mem.segOr k) aa L;refine⟨b2,λD a7=>?_⟩;obtain⟨X,_,_,_,ae⟩:=hs D a7
 have bi:c4<D.size:=by
  have h4:H4.size=H3.size+1:=by rw[L];simp
  rw[a7,dX _ _ _ _ _ (aK aa L)];simp[h4];omega
 have n:=(e1.trans W).trans X;have h5:=h.ext n;have z3:=W.size;by_cases hk:s.mem.has k
 case neg=>
  rw[kb (by simpa using hk)];have e:s.mem.again k c=s.mem:=by unfold Mem.again;rw[kb (λhh=>hk hh.1)]
  rw[e]at U;exact U _ _ ⟨⟨_,rfl⟩,h5,n.fr⟩
 rw[ka (zX hk)];by_cases hc:0<=c/\c<4
 case neg=>
  rw[ka (by simp only[EU,Ex];omega)];have e:s.mem.again k c=s.mem:=by unfold Mem.again;rw[kb (λhh=>hc hh.2)]
  rw[e]at U;exact U _ _ ⟨⟨_,rfl⟩,h5,n.fr⟩
 rw[kb (by simp only[EU,Ex];omega)];have ba:s.mem.segOr k=s.mem.seg k.toNat:=by unfold Mem.segOr;rw[ka hk]
 rw[ba]at ae;intro E H6 b1 M;have e6:Ext D H6:=Eh M;have g6:=aK b1 M;obtain⟨ab,b9⟩:=ff (vs:=[vi 5]) g6 rfl rfl;refine⟨ab,λT a8=>?_⟩;obtain⟨g7,f7⟩:=b9 T a8;have z5:=X.size;have e7:Ext D T:=e6.fr_trans f7 (λi g=>by simp at g;omega);have ay:T[c1]?=some (.cells #[vp (some ⟨b.c,0,none⟩)] 50 (0,0)):=e7.get (X.get (W.get g1));refine⟨_,by rw[aW ay];rfl,?_⟩;refine fL.link ?_;unfold fL.pt;intro d1 W1 b3 O d2 W2 b4 P d3 l b5 Q;have w1:Ext T W1:=Eh O;have w2:Ext W1 W2:=Eh P;have w3:Ext W2 l:=Eh Q
 have y7:T.size=D.size+1:=by
  have:=f7.size;have h6:H6.size=D.size+1:=by rw[M];simp
  rw[a8,dX _ _ _ _ _ g6];simp[h6]
 have y1:W1.size=T.size+1:=by rw[O];simp
 have y2:W2.size=W1.size+1:=by rw[P];simp
 have y3:l.size=W2.size+1:=by rw[Q];simp
 have az:l[d1]?=some (.cells #[vp (some ⟨b.c,0,none⟩)] 50 (0,0)):=w3.get (w2.get (aK b3 O));have aB:l[d2]?=some (.cells #[vi k] 3 (0,0)):=w3.get (aK b4 P);have aC:l[d3]?=some (.cells #[vi c] 3 (0,0)):=aK b5 Q;have t:=(w1.trans w2).trans w3;refine⟨rfl,?_⟩;intro rc o p bK N vY hY;have I:Ext l p:=(Eh rfl).trans (Eh N)
 have a4:p[l.size]?=some (.deferred (some [])):=by
  have:(l.push (.deferred (some [])))[l.size]?=some (.deferred (some [])):=aK rfl rfl;exact(Eh N).get this
 have aN:p[o]?=some (rc .ready none):=aK (by simp;omega) N;have G:Ext D p:=(e7.trans t).trans I;have h9:=h5.ext G;have d: ∀i,i∈[b.c,b.sp,b.m,b.s]->i<H.size:=b7;have bU:=n.size
 refine FE.of2 (enters_of func155 GE rfl) rfl (gc (pJ (b:=b) (s:=s) (p1:=d1) (p2:=d2) (p3:=d3) (k:=k) (c:=c)
  (λj A=>Fr [o,E] p A/\A[o]?=some (rc .ready none)/\A[E]?=some (.cells #[vi (s.mem.markOf k c j)] 3 (0,0))) ok hk hc
  ⟨Ey _ _,aN,by rw[show s.mem.markOf k c 0=5 from rfl];exact I.get (t.get g7)⟩
  (λj A hI=>?_) (λj hj A hI=>?_) (R0:=λA=>Fr [o,E] p A/\A[o]?=some (rc .ready none)/\A[E]?=some (.cells #[vi (s.mem.markOf k c (s.mem.cardLen k c))] 3 (0,0))) (λA hI=>hI)) ?_)
 ·obtain⟨f,_,_⟩:=hI;have r:=h9.keep f (by have:=d b.c GH;simp;omega) (by have:=d b.sp GH;simp;omega) (by have:=d b.m GH;simp;omega) (by have:=d b.s GH;simp;omega);refine⟨r.sp,r.cPtr,?_,?_,?_⟩
  ·rw[aW (f.get (by simp;omega) (I.get az))];rfl
  ·rw[aW (f.get (by simp;omega) (I.get aB))];rfl
  ·rw[aW (f.get (by simp;omega) (I.get aC))];rfl
 ·obtain⟨f,ql,qm⟩:=hI;refine(hY _ A _ ql ⟨ql,λy u=>?_⟩);have Y:Fr [o] A y:=by rw[u];exact Ez
  have q:Fr [o,E] p y:=f.trans (Y.mono (λi g _=>by simp at g;simp[g]));have af:y[o]?=some (rc .busy none):=by rw[u];exact bL (aS ql)
  have x:=Y.get (by simp;omega) qm;have r:=h9.keep q (by have:=d b.c GH;simp;omega) (by have:=d b.sp GH;simp;omega) (by have:=d b.m GH;simp;omega) (by have:=d b.s GH;simp;omega);have b8:=q.rowAt (a:=⟨c4,0,none⟩) (by show c4 ∉ [o,E];simp;omega) (G.rowAt ae);refine⟨_,by rw[aW (q.get (by simp;omega) ((e7.trans (t.trans I)).get (X.get (W.get g1))))];rfl,_,_,_,_,_,_,_,b8,_,by rw[aW x];rfl,?_⟩;refine gc (qk r ((ok.mem.seg _).words _)) ?_;rintro _ br ⟨rfl,F⟩;refine⟨_,rfl,?_⟩;obtain⟨ac,bb⟩:=ff (vs:=[vi (s.mem.younger (s.mem.seg k.toNat) (s.mem.get (k*64+c*16+j)) (s.mem.markOf k c j))]) (F.get x) rfl rfl;refine⟨ac,λao a5=>?_⟩;obtain⟨ax,Z⟩:=bb ao a5;have w:=Z.get (by simp;omega) (F.get af);refine⟨w,rfl,?_,bL (aS w),?_⟩
  ·exact((q.trans F.fr).trans (Z.mono (λi g _=>by simp at g;simp[g]))).trans (Ez.mono (λi g _=>by simp at g;simp[g]))
  ·rw[Mem.markOf_succ,iz GF];exact ax
 ·rintro _ ap ⟨rfl,aw,ag,ah⟩;refine⟨ag,λz a6=>?_⟩;have a0:Fr [o] ap z:=by rw[a6];exact Ez
  have q:Fr [o,E] p z:=aw.trans (a0.mono (λi g _=>by simp at g;simp[g]));have r:=h9.keep q (by have:=d b.c GH;simp;omega) (by have:=d b.sp GH;simp;omega) (by have:=d b.m GH;simp;omega) (by have:=d b.s GH;simp;omega);have ai:=a0.get (by simp;omega) ah;refine⟨_,by rw[aW (q.get (by simp;omega) ((e7.trans (t.trans I)).get (X.get (W.get g1))))];rfl,_,rfl,_,r.cPtr,_,rfl,_,r.sp.memPtr,_,by rw[aW ai];rfl,?_⟩;refine gc (vc r.sp.mem) ?_;rintro _ B ⟨rfl,bc,J⟩;refine⟨_,rfl,?_⟩;have e:s.mem.again k c=(s.mem.mark k c (s.mem.markOf k c (s.mem.cardLen k c))).1:=by unfold Mem.again;rw[ka ⟨hk,hc⟩]
  have V:=r.withMem (S:=[b.s]) J (λi g=>by simp at g;simp[g]) bc;have a3:B[l.size]?=some (.deferred (some [])):=J.get (by have:=d b.s GH;simp;omega) (q.get (by simp;omega) a4);refine⟨a3,?_⟩;have a1:Fr [l.size] B (B.setIfInBounds l.size (.deferred none)):=Ez;rw[e]at U;refine U _ _ ⟨⟨_,rfl⟩,V.keep a1 (by have:=d b.c GH;simp;omega) (by have:=d b.sp GH;simp;omega) (by have:=d b.m GH;simp;omega) (by have:=d b.s GH;simp;omega),?_⟩;have av:Ext H p:=n.trans G;have f1:Ext H z:=av.fr_trans q (λi g=>by simp at g;omega);refine(f1.fr.trans (J.mono (λi g _=>by simp at g;simp[g]))).trans' a1 (λi g _=>g) (λi g hl=>by simp at g;omega)
def Sp.gives(s:Sp)(old:Nat->Bool):Nat->Sp
 | 0=>s
 | n+1=>if old n then(s.gives old n).give n else s.gives old n
def Sp.agains(s:Sp)(l:List (Int×Int)):Sp:=l.foldl (λs c=>{s with mem:=s.mem.again c.1 c.2}) s
def Sp.ended(s:Sp)(t:Tr):Sp:=(s.gives t.old 1024).agains t.cards
theorem Sp.agains_snoc(s:Sp)(l:List (Int×Int))(c:Int×Int):s.agains (l++[c])={s.agains l with mem:=(s.agains l).mem.again c.1 c.2}:=by
 unfold Sp.agains;rw[Gp];rfl
theorem Sp.gives_ok{s:Sp}(a:SpOK s)(old:Nat->Bool): ∀n,SpOK (s.gives old n)
 | 0=>a
 | n+1=>by
  unfold Sp.gives;split
  ·exact Sp.give_ok (Sp.gives_ok a old n) _
  ·exact Sp.gives_ok a old n
theorem Mem.give_even(b:d.Even)(k:Int):(d.give k).Even:=by
 unfold Mem.give;split
 ·intro i a;rw[E0]at a⊢;split
  ·rfl
  ·rename_i h;rw[kb h]at a;exact b i a
 ·exact b
theorem Sp.give_even(a:k.mem.Even)(b:Int):(k.give b).mem.Even:=by
 unfold Sp.give;split
 ·exact Mem.give_even a b
 ·exact a
theorem Sp.gives_even{s:Sp}(a:s.mem.Even)(old:Nat->Bool): ∀n,(s.gives old n).mem.Even
 | 0=>a
 | n+1=>by
  unfold Sp.gives;split
  ·exact Sp.give_even (Sp.gives_even a old n) _
  ·exact Sp.gives_even a old n
theorem Mem.again_seg(m:Mem)(k c:Int):(m.again k c).limit=m.limit/\(m.again k c).free=m.free/\(m.again k c).count=m.count/\ ∀i,((m.again k c).seg i).gen=(m.seg i).gen/\((m.again k c).seg i).kind=(m.seg i).kind/\((m.again k c).seg i).n=(m.seg i).n/\((m.again k c).seg i).taken=(m.seg i).taken/\((m.again k c).seg i).words=(m.seg i).words:=by
 unfold Mem.again;split
 ·unfold Mem.mark;split
  ·exact⟨rfl,rfl,rfl,λi=>⟨rfl,rfl,rfl,rfl,rfl⟩⟩
  split
  ·exact⟨rfl,rfl,rfl,λi=>⟨rfl,rfl,rfl,rfl,rfl⟩⟩
  ·refine⟨rfl,rfl,rfl,λi=>?_⟩;rw[E0];split
   ·rename_i h;rw[h];exact⟨rfl,rfl,rfl,rfl,rfl⟩
   ·exact⟨rfl,rfl,rfl,rfl,rfl⟩
 ·exact⟨rfl,rfl,rfl,λi=>⟨rfl,rfl,rfl,rfl,rfl⟩⟩
theorem Mem.again_has(m:Mem)(k c:Int):(m.again k c).has i ↔ m.has i:=by
 obtain⟨a,_,_,b⟩:=m.again_seg k c;unfold Mem.has;rw[a,(b _).2.2.2.1]
theorem Mem.again_ok(a:bP d)(k c:Int):bP (d.again k c):=by
 unfold Mem.again;split
 ·exact a.mark _ _ _
 ·exact a
theorem SpOK.again(a:SpOK k)(b c:Int):SpOK {k with mem:=k.mem.again b c}:=
 a.withMem (Mem.again_ok a.mem b c) (λi h=>(Mem.again_has _ _ _).2 h) (λi=>⟨((k.mem.again_seg b c).2.2.2 i).1,((k.mem.again_seg b c).2.2.2 i).2.1⟩)
theorem TrAt.putOver(h:TrAt H a g b):
  aF H ⟨g.t,1029,none⟩ 0 1/\Fr [g.t] H (aL H ⟨g.t,1029,none⟩ [vi 1] 0)/\TrAt (aL H ⟨g.t,1029,none⟩ [vi 1] 0) a g {b with over:=true}:=by
 obtain⟨t,e,A,d,u,w,D,c⟩:=h.put (o:=1029) (v:=vi 1) GF;obtain⟨x,y,z⟩:=h.rest e;refine⟨t,e,?_⟩;obtain⟨j,f,B,k,l,m,n,p,q,C⟩:=h.tr;rw[u]at f;cases f;exact⟨⟨d,w,GF,by rw[c,kb GF];exact k,by rw[c,kb GF];exact l,λi s=>by rw[c,kb GF];exact m i s,by rw[c,kb GF];exact n,by rw[c,kb GF];exact p,by rw[c,kb GF];exact q,by rw[c,ka rfl];rfl⟩,x,y,z,λE r=>Fh (h.cB E r) e.size,h.clen,h.ne⟩
theorem yL{R:zk}(T:Tg H a o g b)
  (hR: ∀v C,HpAt C a {o with sp:=o.sp.ended b,ep:=IntKind.wrap .u64 (o.ep+1)}/\TrAt C a g {b with over:=true}/\Fr (a.h::g.t::Bm a) H C->R v C):eI.pt (some ⟨g.t,0,none⟩) H R:=by
 unfold eI.pt zY;refine gc (li T.toTc) ?_;rintro _ H1 ⟨rfl,rfl⟩;refine⟨_,rfl,?_⟩;rw[kb (by rw[T.on];decide)]
 have x:aI H1 ⟨g.t,2,none⟩ 0 ((List.range 1024).map λk=> vi (if b.old k then 1 else 0)):=by
  obtain⟨cs,h1,_,_,_,h5,_⟩:=T.tr.tr;refine cX h1 _ 2 0 (λj c=>?_);simp only[E2,List.length_range]at c;rw[Nat.add_zero,h5 j c,List.getElem?_map,List.getElem?_range c];rfl
 refine⟨_,rfl,(List.range 1024).map (λk=> vi (if b.old k then 1 else 0)),by rw[E2,List.length_range],by rw[Ej];exact x,?_⟩;refine⟨λi A=>(0<=i/\i<=1024)/\Tc A a {o with sp:=o.sp.gives b.old i.toNat} g b/\Fr (Bm a) H1 A,λi _=>(1024-i).toNat,⟨GF,T.toTc,Ey _ _⟩,?_⟩;rintro i H2 ⟨hi,d,I⟩;by_cases p:i<1024
 ·rw[ka p];have U:i.toNat<1024:=GF;have D:(1024-(i+1)).toNat< (1024-i).toNat:=GF;have hw:IntKind.wrap .i64 (i+1)=i+1:=n5 GF;have B:(i+1).toNat=i.toNat+1:=GF;refine⟨(if b.old i.toNat then 1 else 0),⟨⟨hi.1,p⟩,?_⟩,?_⟩
  ·rw[List.getElem?_toArray,List.getElem?_map,List.getElem?_range U];rfl
  by_cases E:b.old i.toNat=true
  ·rw[ka (by rw[ka E])];obtain⟨X,Y,p3,p4⟩:=d.s1;refine⟨_,X,_,rfl,_,Y,_,rfl,_,p3,?_⟩;refine gc (tA d.hp.cd.sp d.ok GF) ?_;rintro _ H3 ⟨⟨e,rfl⟩,Z,J⟩;rw[hw];refine⟨_,rfl,⟨GF,?_,I.trans J⟩,D⟩;have G:o.sp.gives b.old (i+1).toNat=(o.sp.gives b.old i.toNat).give i:=by rw[B];show(if _ then _ else _)=_;rw[ka E,show((i.toNat:Nat):Int)=i by omega]
   rw[G];exact d.step J (λj c=>kQ c) (d.hp.withSp J (λj c=>by simp at c;omega) Z) (Sp.give_ok d.ok i)
  ·rw[kb (by rw[kb E];decide),hw];refine⟨⟨GF,?_,I⟩,D⟩;have G:o.sp.gives b.old (i+1).toNat=o.sp.gives b.old i.toNat:=by rw[B];show(if _ then _ else _)=_;rw[kb E]
   rw[G];exact d
 rw[kb p];have u:i.toNat=1024:=GF;rw[u]at d;have aa:=Sp.gives_even T.even b.old 1024;refine⟨_,_,_,by rw[Ej];exact d.tr.cAt,?_⟩;obtain⟨ag,ah⟩:=T.tr.clen;refine⟨λi A=>(0<=i/\i<=g.cN)/\Tc A a {o with sp:=(o.sp.gives b.old 1024).agains (b.cards.take i.toNat)} g b/\Fr (Bm a) H1 A,λi _=>(g.cN-i).toNat,⟨GF,d,I⟩,?_⟩;rintro i H4 ⟨S,q,f4⟩;by_cases m:i< (g.cN:Int)
 ·rw[ka m];have w:i.toNat<b.cards.length:=GF;obtain⟨ca,O,z⟩:=qN q.tr.cards w;have D:((g.cN:Int)-(i+1)).toNat< ((g.cN:Int)-i).toNat:=GF;generalize P:b.cards[i.toNat]=l at*;refine⟨ca,O,⟨S.1,m⟩,l.1,l.2,z,λc5 H5 N s=>?_⟩;obtain⟨Q,hs⟩:=E7 (vs:=[vi l.1,vi l.2]) (H1:=H5) (aK N s) rfl rfl;refine⟨Q,λH6 M=>?_⟩;obtain⟨y,L⟩:=hs H6 M;have r:Ext H4 H6:=L H4 (Eh s) GF;have f:=q.ext r;obtain⟨X,Y,p3,p4⟩:=f.s1;refine⟨_,X,_,rfl,_,Y,_,y.1,_,by rw[Ej];exact y.2.1,?_⟩;refine gc (tB f.hp.cd f.ok (λj c=>f.hp.lt j (by simp at c;simp[Blk.all];omega))) ?_;rintro _ H7 ⟨⟨e,rfl⟩,F,K⟩;rw[n5 (n:=i+1) GF];refine⟨_,rfl,⟨GF,?_,f4.trans (r.fr.trans (K.mono (λj c _=>by simp at c;simp[Bm];omega)))⟩,D⟩
  have et:b.cards.take (i+1).toNat=b.cards.take i.toNat++[l]:=by
   rw[show(i+1).toNat=i.toNat+1 by omega,EL w,P]
  rw[et,Sp.agains_snoc];exact f.step K (λj c=>by simp at c;simp[Blk.all];omega) (f.hp.withCd K (λj c=>by simp at c;omega) F) (f.ok.again l.1 l.2)
 rw[kb m];rw[ES GF]at q;refine⟨_,q.tr.hPtr,?_⟩;refine gc (vn q.view) ?_;rintro _ H8 ⟨V8,f8⟩;have V: ∀j∈CZ (some (a,o)),j ∉ g.all:=λj c hq=>T.apart j hq (by simp[CZ]at c;simp[Blk.all,c]);have a0:=q.tr.keep f8 (λj c=>V j c);obtain⟨_,W,al⟩:=View.inv V8;have Bq:=a0.putOver;rw[Ej];refine⟨Bq.1,λH9 t=>?_⟩;rw[show(0:Nat)+1029=1029 from rfl]at t;subst t;refine hR _ _ ⟨W.keep Bq.2.1 (λj c hb=>T.apart g.t (by simp[TB.all]) (by simp at c;rw[<-c];exact hb)),Bq.2.2,?_⟩;refine((f4.mono (λj c _=>by simp[c])).trans (f8.mono (λj c _=>by simp[CZ]at c;simp[c]))).trans (Bq.2.1.mono (λj c _=>by simp at c;simp[c]))
theorem yM(T:Tg H a o g b):
  eI.CD (some ⟨g.t,0,none⟩) H (λc=>HpAt c a {o with sp:=o.sp.ended b,ep:=IntKind.wrap .u64 (o.ep+1)}/\TrAt c a g {b with over:=true}/\Fr (a.h::g.t::Bm a) H c):=
 HD.mono (eI.linkD (yL (R:=λ_ c=>HpAt c a {o with sp:=o.sp.ended b,ep:=IntKind.wrap .u64 (o.ep+1)}/\TrAt c a g {b with over:=true}/\Fr (a.h::g.t::Bm a) H c) T (λ_ _ h=>h))) (λ_ ⟨_,h⟩=>h)
def gQ(lo hi:Int):Nat:=((hi-lo+1) / 2).toNat
def jt(k lo:Int)(n:Nat):List Int:=(List.range n).map λj:Nat=>k*64+(lo+2*(j:Int))
theorem tC(k a:Int)(n:Nat):jt k a (n+1)=jt k a n++[k*64+(a+2*(n:Int))]:=by
 unfold jt;rw[Fs,E4];rfl
theorem lM(k a:Int)(n:Nat):(jt k a n).length=n:=by simp[jt]
def Mem.weakSeg(m:Mem)(t:Tr)(k:Nat):List Int:=if(m.seg k).kind=1/\t.old k=false then jt k (seenAt t.frm k) (gQ (seenAt t.frm k) (m.seg k).n)else[]
def Mem.weakCard(m:Mem)(c:Int×Int):List Int:=if(m.segOr c.1).kind=1 then jt c.1 (c.2*16) (gQ (c.2*16) (min (m.segOr c.1).n ((c.2+1)*16)))else[]
def Mem.weaks(m:Mem)(t:Tr)(l:List Nat):List Int:=l.flatMap (m.weakSeg t)++t.cards.flatMap m.weakCard
theorem pu{H:zV}{a:Int}{c n x:Nat}{B:zW}{ws:List Int}(hk:0<=i/\i<1024)(V:0<=j/\j<=64)(hh:a<=64)(N:H[c]?=some (.cells #[vs B n x] 28 (0,0)))(I:Own H 3 1 B n x (Bw ws))(E:c ∉ l6 B)(hn:n<=1000000)(W:n=ws.length):
  cE.C i j a (some ⟨c,0,none⟩) H (λ_ w=> ∃(d:zW) (b:Nat),w[c]?=some (.cells #[vs d (n+gQ j a) b] 28 (0,0))/\Own w 3 1 d (n+gQ j a) b (Bw (ws++jt i j (gQ j a)))/\Fr (c::l6 B) H w/\(∀a4∈l6 d,a4∈l6 B\/H.size<=a4)):=by
 refine Ei λR T=>cE.link ?_;unfold cE.pt zY;have wl:gQ j a<=33:=by unfold gQ;omega
 have U:=aS N
 refine⟨λa3 A=> ∃(a4:Nat) (d:zW) (b:Nat),a3=j+2*(a4:Int)/\a4<=gQ j a/\A[c]?=some (.cells #[vs d (n+a4) b] 28 (0,0))/\Own A 3 1 d (n+a4) b (Bw (ws++jt i j a4))/\Fr (c::l6 B) H A/\(∀a4∈l6 d,a4∈l6 B\/H.size<=a4),λa3 _=>(100-a3).toNat,
  ⟨0,B,x,GF,GF,N,by simpa[jt]using I,Ey _ _,λa4 v=> .inl v⟩,?_⟩
 rintro a3 A ⟨a4,d,b,rfl,v,m,k,u,e⟩;by_cases r:j+2*(a4:Int)<a
 ·rw[ka r];have o:a4+1<=gQ j a:=by unfold gQ;omega
  refine⟨_,rfl,_,_,_,by rw[aW m];rfl,?_⟩;rw[n5 (n:=i*64) GF,n5 (n:=i*64+(j+2*(a4:Int))) GF,n5 (n:=j+2*(a4:Int)+2) GF];intro Z P z p;have t:Ext A P:=Eh p
  refine dE (ys:=[vi (i*64+(j+2*(a4:Int)))]) (k.ext t) (cX (aK z p) _ 0 0 (λa4 v=>by
   simp only[List.length_cons,List.length_nil]at v;obtain rfl:a4=0:=GF;rfl)) rfl rfl rfl GF ?_
  intro J K Y s L G
  have f:c ∉ l6 d:=λh=>by
   rcases e c h with q | q
   ·exact E q
   ·omega
  have D:=L.get f (t.get m);obtain⟨F,X⟩:=ff (vs:=[vs J (n+a4+1) K]) D rfl rfl;refine⟨F,λQ y=>?_⟩;obtain⟨S,M⟩:=X Q y
  have l: ∀a3∈l6 J,a3∈l6 d\/A.size<=a3:=λa3 a=>by
   rcases G a3 a with q | q
   ·exact .inl q
   ·have:=t.size;exact .inr GF
  have O:c<A.size:=by have:=u.size;omega
  have g:=s.keep M (λa3 a hm=>by
   simp at hm;rcases l a3 a with q | q
   ·exact f (hm▸q)
   ·omega)
  have zA:=u.size;refine⟨⟨a4+1,J,K,GF,o,S,?_,?_,λa3 a=>?_⟩,by show(100-(j+2*(a4:Int)+2)).toNat< (100-(j+2*(a4:Int))).toNat;omega⟩
  ·rw[tC,<-Ft];unfold Bw at g⊢;rw[E4];exact g
  ·refine((u.trans t.fr).trans' L (λa3 a _=>a) (λa3 a V=>?_)).trans (M.mono (λa3 a _=>by simp at a;simp[a]));rcases e a3 a with q | q
   ·exact FF _ q
   ·omega
  ·rcases l a3 a with q | q
   ·exact e a3 q
   ·exact .inr GF
 ·rw[kb r];have o:a4=gQ j a:=by unfold gQ at*;omega
  subst o;exact T _ _ ⟨d,b,m,k,u,e⟩
theorem Mem.weakSeg_len(c:bP d)(a:jq b.frm)(k:Nat):(d.weakSeg b k).length<=33:=by
 unfold Mem.weakSeg;split
 ·rw[lM];obtain⟨_,e,f⟩:=lk a (k:Int);have:=(c.seg k).n;unfold gQ;omega
 ·exact Fm _
theorem Mem.weakCard_len(a:bP d){c:Int×Int}(b:0<=c.2):(d.weakCard c).length<=33:=by
 unfold Mem.weakCard;split
 ·rw[lM];have:=(qO a c.1).n;unfold gQ;omega
 ·exact Fm _
theorem my{α β:Type}{f:α->List β}{n:Nat}: ∀l:List α,(∀a∈l,(f a).length<=n)->(l.flatMap f).length<=n*l.length
 | [],_=>GH
 | a::l,h=>by
  have d:=h a GH;have e:=my l (λb c=>h b (by simp[c]));rw[List.flatMap_cons,E3,List.length_cons,Nat.mul_succ];omega
theorem vM{H:zV}(T:Tg H a o g b)(hf:jq b.frm)(b4:oz b.cards):
  eY.C (some ⟨g.t,0,none⟩) H (λv H'=> ∃(l:List Nat) (B:zW) (n c:Nat),iw o.sp.mem [b.tgt] l/\v=vs B n c/\n=(o.sp.mem.weaks b l).length/\Own H' 3 1 B n c (Bw (o.sp.mem.weaks b l))/\(∀j∈l6 B,H.size<=j)/\n<=300000/\Ext H H'):=by
 refine Ei λR hR=>eY.link ?_;unfold eY.pt zY;refine gc (li T.toTc) ?_;rintro _ H1 ⟨rfl,rfl⟩;refine⟨_,rfl,?_⟩;rw[kb (by rw[T.on];decide)];intro E N bE a9;have e2:Ext H1 N:=Eh a9;have g2:=aK bE a9;have z2:N.size=H1.size+1:=by rw[a9];simp
 have T2:=T.grow e2;obtain⟨p1,p2,p3,p4⟩:=T2.s1;refine⟨_,rfl,_,p1,_,rfl,_,p2,_,rfl,_,p3,_,rfl,_,p4,_,by rw[Ej];exact T2.tr.tgtAt,?_⟩;intro c3 H3 bH aa;have e3:Ext N H3:=Eh aa;have g3:=aK bH aa;have z3:H3.size=N.size+1:=by rw[aa];simp
 have T3:=T2.grow e3;refine⟨Bo (e3.hat p1),Bo (e3.hat p2),Bo (e3.hat p3),Bo (e3.hat p4),?_⟩;refine gc (kU (gs:=[b.tgt]) T3.hp.cd.sp.mem T3.ok.mem (show bV H3 (some ⟨c3,0,none⟩) (Bw [b.tgt])from Bo (by rw[aW g3];rfl)) rfl GG) ?_;rintro _ H4 ⟨wB,wC,l,rfl,hl,a0,c6,e4⟩;refine⟨_,_,_,rfl,?_⟩;have ce:=hl.len;have cs:=T.ok.mem.lim;have br:=(e2.trans e3).trans e4;have z4:=e4.size;have K:=T.ok.mem
 refine⟨λi A=>(0<=i/\i<=l.length)/\ ∃(B:zW) (c:Nat),A[E]?=some (.cells #[.slice B ((l.take i.toNat).flatMap (o.sp.mem.weakSeg b)).length c] 28 (0,0))/\Own A 3 1 B ((l.take i.toNat).flatMap (o.sp.mem.weakSeg b)).length c (Bw ((l.take i.toNat).flatMap (o.sp.mem.weakSeg b)))/\Ext H1 A/\Own A 3 1 wB l.length wC (Bw (l.map λi:Nat=>(i:Int)))/\(∀j∈l6 B,N.size<=j/\j ∉ l6 wB)/\H4.size<=A.size,λi _=>(l.length-i).toNat,
  ⟨⟨GF,GF⟩,none,0,(e3.trans e4).get g2,gW,br,a0,GH,Er _⟩,?_⟩
 rintro i H5 ⟨hi,B,cB,gB,z,e5,y,hB,z5⟩;have I: ∀j∈l6 wB,H3.size<=j/\j<H4.size:=λj u=>⟨c6 j u,a0.lt j u⟩;by_cases af:i< (l.length:Int)
 ·rw[ka af];have x:i.toNat<l.length:=GF;obtain⟨dm,ha,b0⟩:=qH y x;obtain⟨bb,ct,cu,_⟩:=hl.has (Eu x);have ah:l.take (i+1).toNat=l.take i.toNat++[l[i.toNat]]:=by rw[show(i+1).toNat=i.toNat+1 by omega,EL x]
  have cr:=my (f:=o.sp.mem.weakSeg b) (n:=33) (l.take i.toNat) (λk _=>Mem.weakSeg_len K hf k);have c9:(l.take i.toNat).length<=1024:=by rw[E6];omega
  generalize hk:l[i.toNat]=k at*;have hd:((l.length:Int)-(i+1)).toNat< ((l.length:Int)-i).toNat:=GF;have hw:IntKind.wrap .i64 (i+1)=i+1:=n5 GF;have t:(l.take (i+1).toNat).flatMap (o.sp.mem.weakSeg b)=(l.take i.toNat).flatMap (o.sp.mem.weakSeg b)++o.sp.mem.weakSeg b k:=by rw[ah,List.flatMap_append];simp
  have T5:=T.grow e5;obtain⟨p1,p2,p3,p4⟩:=T5.s1;refine⟨dm,ha,⟨hi.1,af⟩,_,b0,_,p1,_,rfl,_,p2,_,rfl,_,p3,_,rfl,_,p4,?_⟩;refine gc (iv T5.hp.cd.sp.mem) ?_;rintro _ H6 ⟨rfl,e6⟩;have cj:o.sp.mem.segOr k=o.sp.mem.seg k:=by unfold Mem.segOr;rw[ka bb,show((k:Nat):Int).toNat=k by omega]
  rw[cj];refine⟨_,_,_,_,_,_,_,_,rfl,λdf H7 bK bC=>?_⟩;obtain⟨ab,hs⟩:=kl (o.sp.mem.seg k) bK bC;refine⟨ab,λH8 bD=>?_⟩;obtain⟨e8,_,g1,gn,_⟩:=hs H8 bD;have p:=e6.trans e8;have T8:=T5.grow p;have z8:=p.size;rw[hw]
  have skip:o.sp.mem.weakSeg b k=[]->(((0<=i+1/\i+1<=l.length)/\ ∃(B:zW) (c:Nat),H8[E]?=some (.cells #[.slice B ((l.take (i+1).toNat).flatMap (o.sp.mem.weakSeg b)).length c] 28 (0,0))/\Own H8 3 1 B ((l.take (i+1).toNat).flatMap (o.sp.mem.weakSeg b)).length c (Bw ((l.take (i+1).toNat).flatMap (o.sp.mem.weakSeg b)))/\Ext H1 H8/\Own H8 3 1 wB l.length wC (Bw (l.map λi:Nat=>(i:Int)))/\(∀j∈l6 B,N.size<=j/\j ∉ l6 wB)/\H4.size<=H8.size)/\((l.length:Int)-(i+1)).toNat< ((l.length:Int)-i).toNat):=λhz=>by
   rw[t,hz,E9];exact⟨⟨GF,B,cB,p.get gB,z.ext p,e5.trans p,y.ext p,hB,GF⟩,hd⟩
  refine⟨_,by rw[Ej];exact g1,?_⟩;by_cases e:(o.sp.mem.seg k).kind=1
  case neg=>rw[kb e];exact skip (by unfold Mem.weakSeg;rw[kb (λh=>e h.1)])
  rw[ka e];refine⟨⟨GF,GF⟩,(if b.old k then 1 else 0),by rw[show((k:Nat):Int).toNat=k by omega,Ej,Ej,Eo,EG];exact T8.tr.oldAt GF,?_⟩;by_cases ho:b.old k=true
  ·rw[kb (by rw[ka ho];decide)];exact skip (by unfold Mem.weakSeg;rw[kb (λh=>by rw[ho]at h;cases h.2)])
  rw[ka (by rw[kb ho])];have cf:b.old k=false:=by simpa using ho
  obtain⟨es,cl,bX,bU⟩:=T8.tr.frm;obtain⟨b5,ch,ba⟩:=lk hf (k:Int);have b6:=(K.seg k).n;refine⟨_,by rw[Ej];exact T8.tr.fAt,_,by rw[Ej];exact gn,_,rfl,es,cl,_,bX,bU,_,b5,by rw[Ej];exact Bo gn,?_⟩;have a6:E ∉ l6 B:=λh=>by have:=hB E h;omega
  refine gc (pu (H:=H8) (c:=E) (ws:=(l.take i.toNat).flatMap (o.sp.mem.weakSeg b)) GF ⟨ch,ba⟩ b6.2 (p.get gB) (z.ext p) a6 GF rfl) ?_;rintro _ H9 ⟨L,V,g9,b7,f9,a8⟩;have J:o.sp.mem.weakSeg b k=jt k (seenAt b.frm k) (gQ (seenAt b.frm k) (o.sp.mem.seg k).n):=by unfold Mem.weakSeg;rw[ka ⟨e,cf⟩]
  have m:((l.take (i+1).toNat).flatMap (o.sp.mem.weakSeg b)).length=((l.take i.toNat).flatMap (o.sp.mem.weakSeg b)).length+gQ (seenAt b.frm k) (o.sp.mem.seg k).n:=by rw[t,E3,J,lM]
  refine⟨⟨GF,L,V,by rw[m];exact g9,by rw[m,t,J];exact b7,(e5.trans p).fr_trans f9 (λj u=>?_),(y.ext p).keep f9 (λj u hm=>?_),λj u=>?_,by have:=f9.size;omega⟩,hd⟩
  ·rcases Ew.1 u with h | h
   ·omega
   ·have:=hB j h;omega
  ·rcases Ew.1 hm with h | h
   ·have:=I j u;omega
   ·exact(hB j h).2 u
  ·rcases a8 j u with h | h
   ·exact hB j h
   ·exact⟨GF,λhm=>by have:=I j hm;omega⟩
 rw[kb af];rw[ES GF]at gB z;have cc:=my (f:=o.sp.mem.weakSeg b) (n:=33) l (λk _=>Mem.weakSeg_len K hf k);have T5:=T.grow e5;obtain⟨d3,d4⟩:=T.tr.clen;refine⟨_,_,_,by rw[Ej];exact T5.tr.cAt,?_⟩;generalize hW:l.flatMap (o.sp.mem.weakSeg b)=W at*
 refine⟨λi A=>(0<=i/\i<=g.cN)/\ ∃(B:zW) (c:Nat),A[E]?=some (.cells #[.slice B (W++(b.cards.take i.toNat).flatMap o.sp.mem.weakCard).length c] 28 (0,0))/\Own A 3 1 B (W++(b.cards.take i.toNat).flatMap o.sp.mem.weakCard).length c (Bw (W++(b.cards.take i.toNat).flatMap o.sp.mem.weakCard))/\Ext H1 A/\(∀j∈l6 B,N.size<=j)/\H4.size<=A.size,λi _=>(g.cN-i).toNat,
  ⟨⟨GF,GF⟩,B,cB,by simpa using gB,by simpa using z,e5,λj u=>(hB j u).1,z5⟩,?_⟩
 rintro i ao ⟨c7,B2,aw,Q,r,O,F,d8⟩;have ap:=T.grow O;have ae:=my (f:=o.sp.mem.weakCard) (n:=33) (b.cards.take i.toNat) (λc hc=>Mem.weakCard_len K (b4 c (FR hc)).2.1);have cd:(b.cards.take i.toNat).length<=4096:=by rw[E6];omega
 by_cases G:i< (g.cN:Int)
 case neg=>
  rw[kb G];rw[ES GF]at Q r ae;refine⟨_,_,_,by rw[aW Q];rfl,hR _ _ ⟨l,B2,_,aw,hl,rfl,?_,?_,λj u=>by have:=F j u;omega,?_,O⟩⟩
  ·unfold Mem.weaks;rw[hW]
  ·unfold Mem.weaks;rw[hW];exact r
  ·rw[E3];omega
 rw[ka G];have x:i.toNat<b.cards.length:=GF;obtain⟨ca,bS,b8⟩:=qN ap.tr.cards x;have bT:=b4 _ (Eu x);have ah:b.cards.take (i+1).toNat=b.cards.take i.toNat++[b.cards[i.toNat]]:=by rw[show(i+1).toNat=i.toNat+1 by omega,EL x]
 generalize d2:b.cards[i.toNat]=d at*;have hd:((g.cN:Int)-(i+1)).toNat< ((g.cN:Int)-i).toNat:=GF;have hw:IntKind.wrap .i64 (i+1)=i+1:=n5 GF;have t:W++(b.cards.take (i+1).toNat).flatMap o.sp.mem.weakCard=(W++(b.cards.take i.toNat).flatMap o.sp.mem.weakCard)++o.sp.mem.weakCard d:=by rw[ah,List.flatMap_append,Ft];simp
 refine⟨ca,bS,⟨c7.1,G⟩,d.1,d.2,b8,λav bk b1 X=>?_⟩;obtain⟨ab,hs⟩:=E7 (vs:=[vi d.1,vi d.2]) (H1:=bk) (aK b1 X) rfl rfl;refine⟨ab,λq aN=>?_⟩;obtain⟨a1,aB⟩:=hs q aN;have D:Ext ao q:=aB ao (Eh X) GF;have a5:=ap.grow D;obtain⟨p1,p2,p3,p4⟩:=a5.s1;have S:hat q ⟨av,0,none⟩=some (vi d.1):=a1.1;have U:hat q ⟨av,1,none⟩=some (vi d.2):=a1.2.1;refine⟨_,p1,_,rfl,_,p2,_,rfl,_,p3,_,rfl,_,p4,_,S,?_⟩;have bc:=qO K d.1
 have Z: ∀(A:zV) (L:zW) (V:Nat),A[E]?=some (.cells #[.slice L (W++(b.cards.take (i+1).toNat).flatMap o.sp.mem.weakCard).length V] 28 (0,0))->Own A 3 1 L (W++(b.cards.take (i+1).toNat).flatMap o.sp.mem.weakCard).length V (Bw (W++(b.cards.take (i+1).toNat).flatMap o.sp.mem.weakCard))->Ext H1 A->(∀j∈l6 L,N.size<=j)->H4.size<=A.size->
   ((0<=IntKind.wrap .i64 (i+1)/\IntKind.wrap .i64 (i+1)<=g.cN)/\ ∃(B:zW) (c:Nat),A[E]?=some (.cells #[.slice B (W++(b.cards.take (IntKind.wrap .i64 (i+1)).toNat).flatMap o.sp.mem.weakCard).length c] 28 (0,0))/\Own A 3 1 B (W++(b.cards.take (IntKind.wrap .i64 (i+1)).toNat).flatMap o.sp.mem.weakCard).length c (Bw (W++(b.cards.take (IntKind.wrap .i64 (i+1)).toNat).flatMap o.sp.mem.weakCard))/\Ext H1 A/\(∀j∈l6 B,N.size<=j)/\H4.size<=A.size)/\((g.cN:Int)-IntKind.wrap .i64 (i+1)).toNat< ((g.cN:Int)-i).toNat:=λA L V h1 h2 h3 h4 h5=>by
  rw[hw];exact⟨⟨GF,L,V,h1,h2,h3,h4,h5⟩,hd⟩
 have skip: ∀(A:zV),Ext q A-> ¬(o.sp.mem.segOr d.1).kind=1->_:=λA s hk=>Z A B2 aw (by rw[t,show o.sp.mem.weakCard d=[]by unfold Mem.weakCard;rw[kb hk],E9];exact(D.trans s).get Q) (by rw[t,show o.sp.mem.weakCard d=[]by unfold Mem.weakCard;rw[kb hk],E9];exact r.ext (D.trans s)) (O.trans (D.trans s)) F (by have:=(D.trans s).size;omega)
 have go: ∀(A:zV),Ext q A->(o.sp.mem.segOr d.1).kind=1->cE.C d.1 (IntKind.wrap .i64 (d.2*16)) (if(IntKind.wrap .i64 ((IntKind.wrap .i64 (d.2+1))*16))< (o.sp.mem.segOr d.1).n then(IntKind.wrap .i64 ((IntKind.wrap .i64 (d.2+1))*16))else(o.sp.mem.segOr d.1).n) (some (Addr.mk E 0 none)) A (λ_ A'=>_):=λA s hk=>by
  have d7:=bc.n;rw[n5 (n:=d.2*16) GF,n5 (n:=d.2+1) GF,n5 (n:=(d.2+1)*16) GF,yH];have a6:E ∉ l6 B2:=λh=>by have:=F E h;omega
  have P:=D.trans s;refine gc (pu (H:=A) (c:=E) (ws:=W++(b.cards.take i.toNat).flatMap o.sp.mem.weakCard) bT.1 GF GF (P.get Q) (r.ext P) a6 (by rw[E3];omega) rfl) ?_;rintro _ bl ⟨L,V,bB,ag,az,a8⟩;have J:o.sp.mem.weakCard d=jt d.1 (d.2*16) (gQ (d.2*16) (min (o.sp.mem.segOr d.1).n ((d.2+1)*16))):=by unfold Mem.weakCard;rw[ka hk]
  have m:(W++(b.cards.take (i+1).toNat).flatMap o.sp.mem.weakCard).length=(W++(b.cards.take i.toNat).flatMap o.sp.mem.weakCard).length+gQ (d.2*16) (min (o.sp.mem.segOr d.1).n ((d.2+1)*16)):=by rw[t,E3,J,lM]
  have zA:=P.size;refine Z bl L V (by rw[m];exact bB) (by rw[m,t,J];exact ag) ((O.trans P).fr_trans az (λj u=>?_)) (λj u=>?_) (by have:=az.size;omega)
  ·rcases Ew.1 u with h | h
   ·omega
   ·have:=F j h;omega
  ·rcases a8 j u with h | h
   ·exact F j h
   ·omega
 constructor
 ·refine gc (iv a5.hp.cd.sp.mem) ?_;rintro _ cw ⟨rfl,bq⟩;refine⟨_,_,_,_,_,_,_,_,rfl,λcy cx b2 aT=>?_⟩;obtain⟨ac,b9⟩:=kl (o.sp.mem.segOr d.1) b2 aT;refine⟨ac,λa3 aV=>?_⟩;obtain⟨bs,_,g1,gn,_⟩:=b9 a3 aV;have s:=bq.trans bs;refine⟨_,by rw[Ej];exact g1,?_⟩;by_cases e:(o.sp.mem.segOr d.1).kind=1
  ·rw[ka e];exact⟨_,s.hat S,_,by rw[Ej];exact s.hat U,_,by rw[Ej];exact gn,_,by rw[Ej];exact s.hat U,go a3 s e⟩
  ·rw[kb e];exact skip a3 s e
 ·intro cz bm b3 Y;have w:Ext q bm:=Eh Y;refine⟨Bo (w.hat p1),Bo (w.hat p2),Bo (w.hat p3),Bo (w.hat p4),Bo (w.hat S),?_⟩;refine gc (iv (a5.grow w).hp.cd.sp.mem) ?_;rintro _ bn ⟨rfl,ax⟩;obtain⟨bN,ci⟩:=E7 (vs:=[vi (o.sp.mem.segOr d.1).gen,vi (o.sp.mem.segOr d.1).kind,vi (o.sp.mem.segOr d.1).n,vi ((o.sp.mem.segOr d.1).cards 0),vi ((o.sp.mem.segOr d.1).cards 1),vi ((o.sp.mem.segOr d.1).cards 2),vi ((o.sp.mem.segOr d.1).cards 3)]) (H1:=bn) (ax.get (aK b3 Y)) rfl rfl;refine⟨_,_,_,_,_,_,_,_,rfl,bN,λM aX=>?_⟩;obtain⟨a2,aC⟩:=ci M aX;have s:Ext q M:=aC q (w.trans ax) GF;refine⟨_,a2.2.1,?_⟩;by_cases e:(o.sp.mem.segOr d.1).kind=1
  ·rw[ka e];exact⟨_,s.hat S,_,by rw[Ej];exact s.hat U,_,a2.2.2.1,_,by rw[Ej];exact s.hat U,go M s e⟩
  ·rw[kb e];exact skip M s e
end Go.Proofs.YtillhdiiglamhaaGreatDoor
namespace Go.Proofs.YtillhdiiglamhaaGreatDoor
open Go
variable{a j:Int}{b:Mem}{d:Int->Nat}{g:Nat->Bool}{i:Sp}{k:Int->Option Int}{o:Nat}
abbrev Mem.kAt(m:Mem)(a:Int):Int:=(m.seg (a / 64).toNat).kind
abbrev Mem.gAt(m:Mem)(a:Int):Int:=(m.seg (a / 64).toNat).gen
def BQ(k:Int):Int:=if k=0 then 1 else if k=1 then 2 else 3
def gf(v:Int):Prop:=v % 8=1\/v % 8=2\/v % 8=3
instance (v:Int):Decidable (gf v):=by unfold gf;infer_instance
def Good(m:Mem)(sz:Int->Nat)(v:Int):Prop:=v % 8≠6/\(gf v->sz (v / 8)≠0/\v % 8=BQ (m.kAt (v / 8)))
structure kE (m:Mem) (sz:Int->Nat):Prop where
 used: ∀a,sz a≠0->m.used a/\a % 64+sz a<=(m.seg (a / 64).toNat).n
 apart: ∀a b,sz a≠0->sz b≠0->a<b->a+sz a<=b
 two: ∀a,sz a≠0->m.kAt a<=1->sz a=2/\a % 2=0
 obj: ∀a,sz a≠0->2<=m.kAt a->kA (m.get a)/\m.kAt a=oN (hk (m.get a))/\(sz a:Int)=hn (m.get a)+1
 good: ∀x,m.used x->m.kAt x≠3->Good m sz (m.get x)
theorem kE.usedAt(h:kE b d)(g:d a≠0){i:Nat}(l:i<d a)(hn: ∀k,(b.seg k).n<=64):b.used (a+i)/\(a+i) / 64=a / 64/\(a+i) % 64=a % 64+i:=by
 obtain⟨f,j⟩:=h.used a g;have:=hn (a / 64).toNat;have c:(a+i) / 64=a / 64:=GF;have e:(a+i) % 64=a % 64+i:=GF;exact⟨⟨by have:=f.1;omega,by rw[c];exact f.2.1,by rw[c,e];omega⟩,c,e⟩
theorem kE.lt{m:Mem}(h:kE m d)(e:bP m)(c:d a≠0):0<=a/\a<65536:=by
 obtain⟨b,_⟩:=h.used a c;have:=b.2.1.2.1;have:=e.lim;exact⟨b.1,by have:=b.1;omega⟩
theorem kE.noFwd(h:kE b d)(c:d a≠0):b.get a % 8≠6:=by
 obtain⟨e,_⟩:=h.used a c;by_cases hk:b.kAt a=3
 ·obtain⟨f,_⟩:=h.obj a c GF;have:=f.1;omega
 ·exact(h.good a e hk).1
theorem kE.within(h:kE b d)(e:d a≠0)(f:0<o)(g:o<d a):d (a+o)=0:=by
 by_cases c:d (a+o)=0
 ·exact c
 ·have:=h.apart a (a+o) e c GF;omega
theorem oA(v:aO a)(r:gf a)(c:a % 8=BQ (b.kAt (a / 8)))(j:a / 8<65536)(d:b.used (a / 8))(u:0<=b.kAt (a / 8)/\b.kAt (a / 8)<=3)(n:b.kAt (a / 8)<=1->o=2/\a / 8 % 2=0)
  (p:2<=b.kAt (a / 8)->kA (b.get (a / 8))/\b.kAt (a / 8)=oN (hk (b.get (a / 8)))/\(o:Int)=hn (b.get (a / 8))+1/\a / 8 % 64+o<=(b.seg (a / 8 / 64).toNat).n):b.sizeOf a=o:=by
 have i:ic a:=⟨by unfold gf at r;omega,j⟩;unfold BQ at c;unfold Mem.sizeOf;by_cases m:b.kAt (a / 8)<=1
 ·obtain⟨g,h⟩:=n m
  have l:b.isPair a:=by
   refine⟨?_,h⟩;by_cases f:b.kAt (a / 8)=0
   ·rw[ka f]at c;exact .inl ⟨i,c,d.2.1,f,d.2.2⟩
   ·rw[kb f,ka GF]at c;exact .inr ⟨i,c,d.2.1,by show b.kAt (a / 8)=1;omega,d.2.2⟩
  rw[ka l,g];rfl
 ·rw[kb GF,kb GF]at c;obtain⟨g,h,s,t⟩:=p GF;have e:b.isObj a:=⟨⟨i,c,d.2.1,h,d.2.2⟩,g,GF⟩
  have k: ¬b.isPair a:=λl=>by
   rcases l.1 with q | q
   ·have:=q.2.1;omega
   ·have:=q.2.1;omega
  rw[kb k,ka e];unfold Mem.len;rw[ka e];omega
theorem kE.size(h:kE b d)(e:bP b){v:Int}(k:aO v)(j:Good b d v)(c:gf v):b.sizeOf v=d (v / 8):=by
 obtain⟨a,f⟩:=j.2 c;obtain⟨g,i⟩:=h.used _ a
 exact oA k c f (h.lt e a).2 g (e.seg _).kind (h.two _ a) (λhk=>by
  obtain⟨l,m,n⟩:=h.obj _ a hk;exact⟨l,m,n,i⟩)
def Mem.strong(m:Mem)(x:Int):Prop:=m.kAt x≠3/\(m.kAt x≠1\/x % 2=1)
instance (m:Mem) (x:Int):Decidable (m.strong x):=by unfold Mem.strong;infer_instance
theorem oD{m:Mem}(b:0<=j/\j<64)(hk:0<=a):looks (m.seg a.toNat).kind j ↔ m.strong (a*64+j):=by
 have e:(a*64+j) / 64=a:=GF;unfold looks Mem.strong Mem.kAt;rw[e,show(a*64+j) % 2=j % 2 by omega]
structure TZ where
 m:Mem
 sz:Int->Nat
 O:Nat->Bool
 T:Int
 V:Int->Prop
inductive Reach (Z:TZ):Int->Prop
 | root {v:Int} (h:Z.V v) (ho:aU Z.O v):Reach Z (v / 8)
 | older {x:Int} (hu:Z.m.used x) (hn:Z.O (x / 64).toNat=false) (hs:Z.m.strong x) (ho:aU Z.O (Z.m.get x)):Reach Z (Z.m.get x / 8)
 | step {a:Int} {i:Nat} (h:Reach Z a) (hi:i<Z.sz a) (hs:Z.m.strong (a+i)) (ho:aU Z.O (Z.m.get (a+i))):Reach Z (Z.m.get (a+i) / 8)
def Fw(O:Nat->Bool)(fw:Int->Option Int)(v:Int):Int:=if aU O v then match fw (v / 8)with | some b=>b*8+v % 8 | none=>v else v
def Dn(O:Nat->Bool)(fw:Int->Option Int)(v:Int):Prop:=aU O v-> ∃b,fw (v / 8)=some b
theorem km(h: ¬aU g a):Fw g k a=a:=by unfold Fw;rw[kb h]
theorem jO(h:aU g a)(b:k (a / 8)=some j):Fw g k a=j*8+a % 8:=by unfold Fw;rw[ka h,b]
def Le(fw fw':Int->Option Int):Prop:= ∀a b,fw a=some b->fw' a=some b
theorem Le.refl(a:Int->Option Int):Le a a:=λ_ _ h=>h
theorem Le.trans{f g h:Int->Option Int}(a:Le f g)(b:Le g h):Le f h:=λx y q=>b x y (a x y q)
theorem Dn.mono{O:Nat->Bool}{f g:Int->Option Int}{v:Int}(h:Dn O f v)(l:Le f g):Dn O g v:=λc=>by obtain⟨b,a⟩:=h c;exact⟨b,l _ _ a⟩
theorem pU{e:Int->Option Int}(h:Dn g k a)(l:Le k e):Fw g e a=Fw g k a:=by
 by_cases c:aU g a
 ·obtain⟨b,d⟩:=h c;rw[jO c d,jO c (l _ _ d)]
 ·rw[km c,km c]
theorem wE(h:aU g a):gf a:=by have:=h.1.1;have:=h.2.1;unfold gf;omega
def CX(a:Int)(n:Nat)(x:Nat):Bool:=decide (a<=(x:Int)/\(x:Int)<a+n)
theorem qP{a:Int}(b:0<=a)(N:Nat): ∀n:Nat,a+n<=N->(List.range N).countP (CX a n)=n
 | 0,_=>by
  rw[List.countP_eq_zero];intro x _;unfold CX;simp
 | n+1,h=>by
  rw[mh N (a+n).toNat (CX a (n+1)) (CX a n) GF (λi c=>by unfold CX;rw[F2];omega) (by unfold CX;rw[Ex];omega) (by unfold CX;rw[decide_eq_false_iff_not];omega),qP b N n GF]
theorem mz{α:Type}(p q:α->Bool)(l:List α)(h: ∀x∈l,p x=true->q x=true->False):l.countP (λx=>p x || q x)=l.countP p+l.countP q:=by
 induction l with
 | nil=>rfl
 | cons a l g=>
  have b:=g (λx f=>h x (by simp[f]));have c:=h a GH;rw[List.countP_cons,List.countP_cons,List.countP_cons,b];cases d:p a<;>cases e:q a
  ·simp
  ·simp;omega
  ·simp;omega
  ·exact(c d e).elim
theorem oT(f:Int->Nat)(N:Nat): ∀L:List Int,L.Nodup->(∀a∈L,0<=a/\a+f a<=N)->(∀a∈L,∀b∈L,a<b->a+f a<=b)->(L.map f).sum=(List.range N).countP (λx=>L.any λa=>CX a (f a) x)
 | [],_,_,_=>GH
 | a::L,hn,hb,hd=>by
  rw[List.nodup_cons]at hn;have j:=oT f N L hn.2 (λb h=>hb b (by simp[h])) (λb h c i=>hd b (by simp[h]) c (by simp[i]));simp only[List.map_cons,List.sum_cons,List.any_cons];rw[mz,j,qP (hb a GH).1 N _ (hb a GH).2];intro x _ g e;rw[List.any_eq_true]at e;obtain⟨b,d,e⟩:=e;unfold CX at g e;rw[Ex]at g e;rcases Int.lt_trichotomy a b with h | h | h
  ·have:=hd a GH b (by simp[d]) h;omega
  ·subst h;exact hn.1 d
  ·have:=hd b (by simp[d]) a GH h;omega
theorem qQ(p:Nat->Bool): ∀n:Nat,(List.range (64*n)).countP (λx=>p (x / 64))=64*(List.range n).countP p
 | 0=>rfl
 | n+1=>by
  rw[show 64*(n+1)=64*n+64 by omega,List.range_add,Gw,qQ p n,Fs (n:=n),Gw,List.countP_map]
  have e:(List.range 64).countP ((λx=>p (x / 64)) ∘ λx=>64*n+x)=64*[n].countP p:=by
   have b:(List.range 64).countP ((λx=>p (x / 64)) ∘ λx=>64*n+x)=(List.range 64).countP (λ_=>p n):=by
    refine List.countP_congr λx c=>?_;rw[ER]at c;show p ((64*n+x) / 64)=true ↔ p n=true;rw[show(64*n+x) / 64=n by omega]
   rw[b];cases a:p n
   ·simp[a]
   ·simp[a]
  rw[e];omega
theorem xm{α:Type}{p q:α->Bool}(l:List α)(h: ∀x∈l,p x=true->q x=true):l.countP p<=l.countP q:=List.countP_mono_left h
theorem pv(p:Nat->Bool)(n:Nat): ∀d:Nat,(∀i,n<=i->i<n+d->p i=false)->(List.range (n+d)).countP p=(List.range n).countP p
 | 0,_=>rfl
 | d+1,h=>by
  rw[show n+(d+1)=(n+d)+1 by omega,Fs,Gw,pv p n d (λi a b=>h i a GF)];simp[h (n+d) GF GF]
def TZ.yk(Z:TZ)(k:Int):Nat:=(List.range 1024).countP λj=>Z.O j && decide ((Z.m.seg j).kind=k)
def TZ.uk(Z:TZ)(al:List Int)(k:Int):Nat:=((al.filter λa=>decide (Z.m.kAt a=k)).map Z.sz).sum
structure Dg (Z:TZ) (al:List Int):Prop where
 nodup:al.Nodup
 mem: ∀a∈al,Z.sz a≠0/\Z.O (a / 64).toNat=true
theorem TZ.uk_le{Z:TZ}(r:kE Z.m Z.sz)(s:bP Z.m){l:List Int}(h:Dg Z l)(k:Int):Z.uk l k<=64*Z.yk k:=by
 unfold TZ.uk TZ.yk;have z:=s.lim;have f: ∀j,(Z.m.seg j).n<=64:=λj=>(s.seg j).n.2
 have c: ∀a∈l.filter (λa=>decide (Z.m.kAt a=k)),a∈l/\Z.m.kAt a=k:=λa d=>by
  rw[Fg]at d;exact⟨d.1,by simpa using d.2⟩
 rw[oT Z.sz (64*1024) _ (h.nodup.filter _) (λa d=>?_) (λa d b v q=>?_),<-qQ]
 ·refine xm _ (λx _ g=>?_);rw[List.any_eq_true]at g;obtain⟨a,d,g⟩:=g;obtain⟨o,t⟩:=c a d;obtain⟨p,u⟩:=h.mem a o;unfold CX at g;rw[Ex]at g;obtain⟨i,w⟩:=r.used a p;have:=f (a / 64).toNat;have y:=i.1;have e:x / 64=(a / 64).toNat:=GF;rw[e,u,Bool.true_and,Ex];exact t
 ·obtain⟨o,_⟩:=c a d;obtain⟨p,_⟩:=h.mem a o;obtain⟨i,w⟩:=r.used a p;have:=f (a / 64).toNat;have:=i.2.1.2.1;exact⟨i.1,by have:=i.1;omega⟩
 ·exact r.apart a b (h.mem a (c a d).1).1 (h.mem b (c b v).1).1 q
theorem TZ.uk_cons(Z:TZ)(b:List Int)(a k:Int):Z.uk (a::b) k=(if Z.m.kAt a=k then Z.sz a else 0)+Z.uk b k:=by
 unfold TZ.uk;by_cases h:Z.m.kAt a=k
 ·rw[Gy (by simpa using h),ka h];simp
 ·rw[Gz (by simpa using h),kb h];simp
def Sp.fill(s:Sp)(T:Int)(k:Nat):Int:=if s.cur T.toNat k=0 then 0 else(s.mem.seg (s.cur T.toNat k-1).toNat).n
structure Cap (Z:TZ) (F0:Int) (al:List Int) (s:Sp) (c:Nat->Nat):Prop where
 free:s.mem.free+((c 0:Nat)+(c 1:Nat)+(c 2:Nat)+(c 3:Nat):Int)=F0
 none: ∀k,k<4->s.cur Z.T.toNat k=0->c k=0
 le: ∀k,k<4->64*(c k:Int)+s.fill Z.T k<=2*(Z.uk al k:Int)+64
theorem Sp.fill_rng(a:SpOK i)(T:Int)(k:Nat):0<=i.fill T k/\i.fill T k<=64:=by
 unfold Sp.fill;split
 ·omega
 ·exact(a.mem.seg _).n
theorem Cap.room{Z:TZ}{d:List Int}{c:Nat->Nat}(h:Cap Z a d i c)(o:SpOK i)(n:kE Z.m Z.sz)(b:bP Z.m)(l:Dg Z d)(x:2*((Z.yk 0:Int)+Z.yk 1+Z.yk 2+Z.yk 3)+8<=a):1<=i.mem.free:=by
 have q: ∀k:Nat,k<4->(c k:Int)<=2*(Z.yk k:Int)+1:=λk hk=>by
  have u:=h.le k hk;have v:=TZ.uk_le n b l (k:Int);have w:=Sp.fill_rng o Z.T k;omega
 have p:=q 0 GF;have r:=q 1 GF;have s:=q 2 GF;have t:=q 3 GF;have:=h.free;have e:Z.yk ((0:Nat):Int)=Z.yk 0:=rfl;have f:Z.yk ((1:Nat):Int)=Z.yk 1:=rfl;have g:Z.yk ((2:Nat):Int)=Z.yk 2:=rfl;have j:Z.yk ((3:Nat):Int)=Z.yk 3:=rfl;rw[e]at p;rw[f]at r;rw[g]at s;rw[j]at t;omega
theorem Sp.fill_eq{T v:Int}(h:i.cur T.toNat o=v):i.fill T o=if v=0 then 0 else(i.mem.seg (v-1).toNat).n:=by unfold Sp.fill;rw[h]
theorem Sp.alloc_fill(m:SpOK i){n:Int}(h:(i.alloc a j n).2.2=0): ∃d:Nat,(i.alloc a j n).1.mem.free=i.mem.free-d/\(i.alloc a j n).1.cur a.toNat j.toNat≠0/\(∀G:Nat,G≠j.toNat->(i.alloc a j n).1.cur a.toNat G=i.cur a.toNat G/\(i.alloc a j n).1.fill a G=i.fill a G)/\
  ((d=0/\i.cur a.toNat j.toNat≠0/\(i.alloc a j n).1.fill a j.toNat=i.fill a j.toNat+n)\/(d=1/\(i.cur a.toNat j.toNat=0\/64<i.fill a j.toNat+n)/\(i.alloc a j n).1.fill a j.toNat=n)):=by
 unfold Sp.alloc at*;by_cases hm:BP a j n
 case neg=>rw[ka hm]at h;exact absurd h (by show ¬((1:Int)=0);decide)
 rw[kb (λr=>r hm)]at h⊢;have F:=hm.1;have hk:0<=j/\j<=3:=by have:=hm.2;omega
 have hn:1<=n/\n<=63:=by have:=hm.2;omega
 by_cases c:i.cur a.toNat j.toNat≠0/\(i.mem.bump (i.cur a.toNat j.toNat-1) n).2.2=0
 ·rw[ka c]at h⊢;obtain⟨s,A,p,o⟩:=Mem.bump_ok m.mem c.2;refine⟨0,?_,c.1,λG w=>⟨rfl,?_⟩,.inl ⟨rfl,c.1,?_⟩⟩
  ·show(i.mem.bump _ _).1.free=_;rw[(FX _ _ _).2.2];omega
  ·unfold Sp.fill;show(if i.cur a.toNat G=0 then 0 else((i.mem.bump _ _).1.seg _).n)=_;by_cases b:i.cur a.toNat G=0
   ·rw[ka b,ka b]
   ·rw[kb b,kb b,o];rw[Fi];intro e;rcases m.cur a.toNat G with q | ⟨_,_,_,D⟩
    ·exact b q
    rcases m.cur a.toNat j.toNat with q | ⟨_,_,_,E⟩
    ·exact c.1 q
    rw[e,E]at D;omega
  ·unfold Sp.fill;show(if i.cur a.toNat j.toNat=0 then 0 else((i.mem.bump _ _).1.seg _).n)=_;rw[kb c.1,kb c.1,o];show((i.mem.upd _ _).seg _).n=_;rw[Fb];rfl
 rw[kb c]at h⊢;by_cases k:(i.mem.take a j).2.2=0
 case neg=>rw[kb k]at h;exact absurd h k
 rw[ka k]at h⊢;have g:=m.mem.take a j
 have l:i.mem.take a j=({i.mem with count:=i.mem.count+1,free:=i.mem.free-1}.upd i.mem.first (Seg.new a j (i.mem.count+1)),(i.mem.first:Int),0)/\i.mem.free≠0:=by
  unfold Mem.take at k⊢;rw[kb GF]at k⊢;by_cases p:i.mem.free=0
  ·rw[ka p]at k;exact absurd k (by show ¬((2:Int)=0);decide)
  ·rw[kb p];exact⟨rfl,p⟩
 obtain⟨l,f⟩:=l;obtain⟨B,u⟩:=FY m.mem f;rw[l]at h g⊢;simp only at h g⊢;obtain⟨s,A,p,o⟩:=Mem.bump_ok g h;have z:((i.mem.first:Int)).toNat=i.mem.first:=GF;refine⟨1,?_,?_,λG w=>⟨?_,?_⟩,.inr ⟨rfl,?_,?_⟩⟩
 ·rw[(FX _ _ _).2.2];show i.mem.free-1=_;omega
 ·show(if a.toNat=a.toNat/\j.toNat=j.toNat then(i.mem.first:Int)+1 else _)≠0;rw[ka ⟨rfl,rfl⟩];omega
 ·show(if a.toNat=a.toNat/\G=j.toNat then(i.mem.first:Int)+1 else _)=_;rw[kb (λr=>w r.2)]
 ·rw[Sp.fill_eq (v:=i.cur a.toNat G) (by show(if a.toNat=a.toNat/\G=j.toNat then(i.mem.first:Int)+1 else _)=_;rw[kb (λr=>w r.2)])];unfold Sp.fill;by_cases b:i.cur a.toNat G=0
  ·rw[ka b,ka b]
  ·rw[kb b,kb b,o,z];rcases m.cur a.toNat G with q | ⟨_,y,_,_⟩
   ·exact absurd q b
   have t:(i.cur a.toNat G-1).toNat≠i.mem.first:=λe=>y.2.2 (by rw[e];exact u);show((Mem.upd (Mem.upd _ _ _) _ _).seg _).n=_;rw[Fi _ _ t,Fi _ _ t]
 ·by_cases b:i.cur a.toNat j.toNat=0
  ·exact .inl b
  ·right;rcases m.cur a.toNat j.toNat with q | ⟨_,y,_,_⟩
   ·exact absurd q b
   have C: ¬((i.mem.seg (i.cur a.toNat j.toNat-1).toNat).n+n<=64):=λx=>c ⟨b,Mem.bump_can y hn.1 x⟩;unfold Sp.fill;rw[kb b];omega
 ·rw[Sp.fill_eq (v:=(i.mem.first:Int)+1) (by show(if a.toNat=a.toNat/\j.toNat=j.toNat then(i.mem.first:Int)+1 else _)=_;rw[ka ⟨rfl,rfl⟩]),kb GF,o,z,show((i.mem.first:Int)+1-1).toNat=i.mem.first by omega];show((Mem.upd (Mem.upd _ _ _) _ _).seg _).n=_;rw[Fb];show((Mem.upd _ _ _).seg i.mem.first).n+n=n;rw[Fb];show 0+n=n;omega
theorem Sp.fill_same(h:bQ i.mem b)(T:Int)(k:Nat):({i with mem:=b}:Sp).fill T k=i.fill T k:=by
 unfold Sp.fill;show(if i.cur T.toNat k=0 then 0 else(b.seg _).n)=_;rw[(h.seg _).2.2.1]
theorem Cap.step{Z:TZ}{i:Int}{p:List Int}{s:Sp}{c:Nat->Nat}(h:Cap Z i p s c)(r:SpOK s){a:Int}{m:Mem}(hk:0<=Z.m.kAt a/\Z.m.kAt a<=3)(z:(s.alloc Z.T (Z.m.kAt a) (Z.sz a)).2.2=0)(hm:bQ (s.alloc Z.T (Z.m.kAt a) (Z.sz a)).1.mem m): ∃t,Cap Z i (a::p) {(s.alloc Z.T (Z.m.kAt a) (Z.sz a)).1 with mem:=m} t:=by
 obtain⟨d,u,v,q,w⟩:=Sp.alloc_fill r z;generalize A:(s.alloc Z.T (Z.m.kAt a) (Z.sz a)).1=B at*;generalize n:Z.m.kAt a=k at*;have x:((k.toNat:Nat):Int)=k:=GF;refine⟨λj=>c j+if j=k.toNat then d else 0,?_,λj g y=>?_,λj g=>?_⟩
 ·show m.free+_=i;rw[hm.free,u];have:=h.free;rcases(show k.toNat=0\/k.toNat=1\/k.toNat=2\/k.toNat=3 by omega)with e | e | e | e<;>rw[e]<;>simp<;>omega
 ·have b:B.cur Z.T.toNat j=0:=y;by_cases e:j=k.toNat
  ·rw[e]at b;exact absurd b v
  ·rw[(q j e).1]at b;show c j+(if j=k.toNat then d else 0)=0;rw[kb e,h.none j g b]
 ·rw[Sp.fill_same hm,TZ.uk_cons,n];have o:=h.le j g;by_cases e:j=k.toNat
  ·subst e;simp only[EE];rw[x]at o⊢;rw[ka rfl];rcases w with⟨rfl,_,l⟩ | ⟨rfl,f,l⟩
   ·rw[l];omega
   ·rw[l];rcases f with f | f
    ·have:=h.none k.toNat g f;have C:=Sp.fill_rng r Z.T k.toNat;omega
    ·omega
  ·rw[(q j e).2];simp only[kb e];rw[kb (show ¬k=(j:Int)by omega)];omega
