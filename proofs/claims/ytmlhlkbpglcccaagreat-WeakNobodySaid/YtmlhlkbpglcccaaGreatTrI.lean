/-
 A trace begins (package trace): Start. Proves nothing of any one statement.
-/
import Derived.Test.YtmlhlkbpglcccaaGreatTrF
set_option linter.unusedVariables false
set_option linter.unusedSimpArgs false
namespace Go.Proofs.YtmlhlkbpglcccaaGreat
open Go

theorem nG(A B:Value)(C:List Value){z:Value}{n k:Nat}(hk:k<n):((([A,B]++List.replicate n z++C:List Value).toArray)[2+k]?)=some z:=by
 rw[List.getElem?_toArray,List.getElem?_append_left (by simp;omega),List.getElem?_append_right (by simp)]
 simp only[List.length_cons,List.length_nil]
 rw[List.getElem?_replicate,if_pos (by omega)]
theorem ol(A B:Value)(C:List Value){z:Value}(n k:Nat):((([A,B]++List.replicate n z++C:List Value).toArray)[2+n+k]?)=C[k]?:=by
 rw[List.getElem?_toArray,List.getElem?_append_right (by simp;omega)]
 congr 1
 simp only[List.length_append,List.length_cons,List.length_nil,List.length_replicate];omega
theorem om(A B:Value)(C:List Value){z:Value}(n:Nat):((([A,B]++List.replicate n z++C:List Value).toArray)[0]?)=some A/\((([A,B]++List.replicate n z++C:List Value).toArray)[1]?)=some B:=by
 constructor<;>rw[List.getElem?_toArray]<;>rfl
theorem oq(A B:Value)(C:List Value){z:Value}(n:Nat):([A,B]++List.replicate n z++C:List Value).toArray.size=2+n+C.length:=by simp;omega
theorem TrAt.init{H:zV}{b:Blk}{t f s:Nat}{tgt:Int}(ht:H[t]?=some (.cells ([.pointer (some ⟨b.h,0,none⟩),.int .i64 tgt]++List.replicate 1024 (.int .i64 0)++[.map (some f),.map (some s),.slice none 0 0,.int .i64 0]:List Value).toArray 100 (0,0)))
  (hf:H[f]?=some (.map #[] 0)) (hs:H[s]?=some (.map #[] 0)) (hne:t≠f/\t≠s/\f≠s):TrAt H b ⟨t,f,s,none,0,0⟩ ⟨tgt,λ_=>false,[],[],[],false⟩:=by
 have h0:=om (.pointer (some ⟨b.h,0,none⟩)) (.int .i64 tgt) [.map (some f),.map (some s),.slice none 0 0,.int .i64 0] (z:=.int .i64 0) 1024
 have h1:=λk (hk:k<1024)=>nG (.pointer (some ⟨b.h,0,none⟩)) (.int .i64 tgt) [.map (some f),.map (some s),.slice none 0 0,.int .i64 0] (z:=.int .i64 0) hk
 have h2:=λk=>ol (.pointer (some ⟨b.h,0,none⟩)) (.int .i64 tgt) [.map (some f),.map (some s),.slice none 0 0,.int .i64 0] (z:=.int .i64 0) 1024 k
 have h3:=oq (.pointer (some ⟨b.h,0,none⟩)) (.int .i64 tgt) [.map (some f),.map (some s),.slice none 0 0,.int .i64 0] (z:=.int .i64 0) 1024
 generalize (([.pointer (some ⟨b.h,0,none⟩),.int .i64 tgt]++List.replicate 1024 (.int .i64 0)++[.map (some f),.map (some s),.slice none 0 0,.int .i64 0]:List Value).toArray)=cs at*
 refine⟨⟨cs,ht,h3,h0.1,h0.2,λk hk=>h1 k hk,h2 0,h2 1,h2 2,h2 3⟩,⟨_,_,hf,rfl⟩,⟨_,_,hs,rfl⟩,rfl,(λa ha=>by cases ha),⟨rfl,Nat.zero_le _⟩,⟨hne.1,hne.2.1,hne.2.2,λi hi=>by simp at hi⟩⟩
theorem TrAt.put{H:zV}{b:Blk}{q:TB}{t:Tr}(h:TrAt H b q t){o:Nat}{v:Value}(ho:o<1030):
  aK H ⟨q.t,o,none⟩ 0 1/\Fr [q.t] H (aS H ⟨q.t,o,none⟩ [v] 0)/\ ∃cs cs':Array Value,H[q.t]?=some (.cells cs 100 (0,0))/\(aS H ⟨q.t,o,none⟩ [v] 0)[q.t]?=some (.cells cs' 100 (0,0))/\cs'.size=cs.size/\ ∀j:Nat,cs'[j]?=if j=o then some v else cs[j]?:=by
 obtain⟨cs,h1,hsz,_⟩:=h.tr
 refine⟨bT h1 _ _ _ (by omega),?_⟩
 rw[cP _ H cs _ 0 h1]
 refine⟨Fr.set,cs,_,h1,bA (bH h1),splice_size _ _ _,λj=>?_⟩
 by_cases e:j=o
 ·rw[if_pos e,e]
  have:=di cs [v] (o+0) 0 (by simp;omega) (by simp)
  simpa using this
 ·rw[if_neg e]
  rcases Nat.lt_or_ge j o with hl | hl
  ·exact cL _ _ _ _ (by omega)
  ·exact ef _ _ _ _ (by simp;omega)
theorem TrAt.rest{H H':zV}{b:Blk}{q:TB}{t:Tr}(h:TrAt H b q t)(f:Fr [q.t] H H'):(∃(es:Array MapEntry) (cl:Nat),H'[q.f]?=some (.map es cl)/\Ents (cV .i64) es.toList t.frm)/\(∃(es:Array MapEntry) (cl:Nat),H'[q.s]?=some (.map es cl)/\Ents (cV .i64) es.toList t.seen)/\dd H' q.cB (cU t.cards):=by
 obtain⟨es,cl,h2,hr2⟩:=h.frm
 obtain⟨es',cl',h3,hr3⟩:=h.seen
 have ne:=h.ne
 refine⟨⟨es,cl,f.get (by simp;omega) h2,hr2⟩,⟨es',cl',f.get (by simp;omega) h3,hr3⟩,?_⟩
 have hc:=h.cards
 cases hb:q.cB with
 | none=>rw[hb]at hc;exact hc
 | some a=>
  rw[hb]at hc
  refine f.rowAt ?_ hc
  have:=ne.2.2.2 a.block (by rw[hb];simp)
  simp;omega
theorem TrAt.putOld{H:zV}{b:Blk}{q:TB}{t:Tr}(h:TrAt H b q t){k:Nat}(hk:k<1024):
  aK H ⟨q.t,2+k,none⟩ 0 1/\Fr [q.t] H (aS H ⟨q.t,2+k,none⟩ [.int .i64 1] 0)/\TrAt (aS H ⟨q.t,2+k,none⟩ [.int .i64 1] 0) b q {t with old:=λi=>if i=k then true else t.old i}:=by
 obtain⟨p1,p2,cs,cs',p3,p4,p5,p6⟩:=h.put (o:=2+k) (v:=.int .i64 1) (by omega)
 obtain⟨r1,r2,r3⟩:=h.rest p2
 refine⟨p1,p2,?_⟩
 obtain⟨cs0,h1,h2,h3,h4,h5,h6,h7,h8,h9⟩:=h.tr
 rw[p3]at h1;cases h1
 refine⟨⟨cs',p4,by omega,by rw[p6,if_neg (by omega)];exact h3,by rw[p6,if_neg (by omega)];exact h4,λi hi=>?_,by rw[p6,if_neg (by omega)];exact h6,by rw[p6,if_neg (by omega)];exact h7,by rw[p6,if_neg (by omega)];exact h8,by rw[p6,if_neg (by omega)];exact h9⟩,r1,r2,r3,λa ha=>Nat.lt_of_lt_of_le (h.cB a ha) p2.size,h.clen,h.ne⟩
 rw[p6]
 by_cases e:i=k
 ·subst e;rw[if_pos rfl];simp
 ·rw[if_neg (by omega),h5 i hi];simp[e]
theorem TrAt.putCards{H:zV}{b:Blk}{q:TB}{t:Tr}(h:TrAt H b q t){B:zW}{n c:Nat}{l:List (Int×Int)}(hs:dd H B (cU l))(hlt: ∀i∈blks B,i<H.size)(hn:n=l.length/\n<=4096)(hd: ∀i∈blks B,i ∉ q.all):
  aK H ⟨q.t,1028,none⟩ 0 1/\Fr [q.t] H (aS H ⟨q.t,1028,none⟩ [.slice B n c] 0)/\TrAt (aS H ⟨q.t,1028,none⟩ [.slice B n c] 0) b {q with cB:=B,cN:=n,cC:=c} {t with cards:=l}:=by
 obtain⟨p1,p2,cs,cs',p3,p4,p5,p6⟩:=h.put (o:=1028) (v:=.slice B n c) (by omega)
 obtain⟨r1,r2,r3⟩:=h.rest p2
 refine⟨p1,p2,?_⟩
 obtain⟨cs0,h1,h2,h3,h4,h5,h6,h7,h8,h9⟩:=h.tr
 rw[p3]at h1;cases h1
 refine⟨⟨cs',p4,by omega,by rw[p6,if_neg (by omega)];exact h3,by rw[p6,if_neg (by omega)];exact h4,λi hi=>by rw[p6,if_neg (by omega)];exact h5 i hi,by rw[p6,if_neg (by omega)];exact h6,by rw[p6,if_neg (by omega)];exact h7,by rw[p6,if_pos rfl],by rw[p6,if_neg (by omega)];exact h9⟩,r1,r2,?_,λa ha=>?_,hn,⟨h.ne.1,h.ne.2.1,h.ne.2.2.1,λi hi=>?_⟩⟩
 ·cases B with
  | none=>exact hs
  | some a=>
   refine p2.rowAt ?_ hs
   have:=hd a.block (by simp)
   simp[TB.all]at this⊢;omega
 ·have ha':B=some a:=ha
  subst ha'
  exact Nat.lt_of_lt_of_le (hlt _ (by simp)) p2.size
 ·have:=hd i hi
  simp only[TB.all,List.mem_cons,not_or]at this
  exact⟨this.1,this.2.1,this.2.2.1⟩
theorem TrAt.putFrm{H:zV}{b:Blk}{q:TB}{t:Tr}{es:Array MapEntry}{cl:Nat}{ks:List (Int×Value)}(h:TrAt H b q t)(he:Ents (cV .i64) es.toList ks):TrAt (bL H q.f (.map es cl)) b q {t with frm:=ks}:=by
 have f:Fr [q.f] H (bL H q.f (.map es cl)):=Fr.set
 have l1:=h.lt q.f (by simp[TB.all])
 obtain⟨cs,h1,hr⟩:=h.tr
 obtain⟨es1,cl1,h2,hr2⟩:=h.seen
 have ne:=h.ne
 refine⟨⟨cs,f.get (by simp;omega) h1,hr⟩,⟨es,cl,bA l1,he⟩,⟨es1,cl1,f.get (by simp;omega) h2,hr2⟩,?_,λa ha=>Nat.lt_of_lt_of_le (h.cB a ha) f.size,h.clen,h.ne⟩
 have hc:=h.cards
 cases hb:q.cB with
 | none=>rw[hb]at hc;exact hc
 | some a=>
  rw[hb]at hc
  refine f.rowAt ?_ hc
  have:=ne.2.2.2 a.block (by rw[hb];simp)
  simp;omega

def eP(g:Int):List Int:=(List.range (g+1).toNat).map λi:Nat=>(i:Int)
theorem jS{g x:Int}:x∈eP g ↔ 0<=x/\x<=g:=by
 unfold eP
 rw[List.mem_map]
 constructor
 ·rintro⟨i,hi,rfl⟩;rw[List.mem_range]at hi;omega
 ·rintro⟨h1,h2⟩;exact⟨x.toNat,by rw[List.mem_range];omega,by omega⟩
def Mem.young(m:Mem)(g:Int)(k:Nat):Bool:=decide (m.has k/\(m.seg k).gen<=g)
def Mem.nyoung(m:Mem)(g:Int):Nat:=(m.takenTo (eP g) m.limit).length
structure gm (m:Mem) (g T:Int) (t:Tr):Prop where
 tgt:t.tgt=T
 old: ∀k,k<1024->t.old k=m.young g k
 frm: ∀k:Int,0<=k->mget t.frm k=if m.has k/\(m.seg k.toNat).gen=T then some (.int .i64 (m.seg k.toNat).n)else none
 seen: ∀k:Int,0<=k->mget t.seen k=if m.has k/\(m.seg k.toNat).gen=T then some (.int .i64 (m.seg k.toNat).n)else none
 frm0: ∀k:Int,k<0->mget t.frm k=none
 seen0: ∀k:Int,k<0->mget t.seen k=none
 cards: ∃l,dP m [] l/\t.cards=m.dirtyOf g l
 over:t.over=false
theorem gm.seenOK{m:Mem}{g T:Int}{t:Tr}(h:gm m g T t)(ok:bI m):ej t.seen:=by
 intro k v hv
 rcases Int.lt_or_le k 0 with hk | hk
 ·rw[h.seen0 k hk]at hv;cases hv
 rw[h.seen k hk]at hv
 split at hv
 ·cases hv
  exact⟨_,rfl,(ok.seg _).n⟩
 ·cases hv
def gz(s:Sp)(g T more:Int):Int:=if g<0\/4<=g\/T<g\/g+1<T\/more<0 then 1 else if s.mem.free-2*s.mem.nyoung g-8<more then 2 else 0
theorem Sp.fresh_ok{s:Sp}(ok:SpOK s)(gs:List Int):SpOK (s.fresh gs):=Sp.zap_ok ok _
def Told(m:Mem)(ks:List (Int×Value))(l:List Nat):Prop:= ∀k:Int,mget ks k=if 0<=k/\k.toNat∈l then some (.int .i64 (m.seg k.toNat).n)else none
theorem Told.put{m:Mem}{ks:List (Int×Value)}{l:List Nat}(h:Told m ks l)(k:Nat){v:Value}:Told m (mput (mput ks k v) k (.int .i64 (m.seg k).n)) (l++[k]):=by
 intro a
 rw[gl,gl,h a]
 by_cases e:a=k
 ·subst e
  rw[if_pos rfl,if_pos ⟨by omega,by simp⟩];simp
 ·rw[if_neg e,if_neg e]
  refine hU ⟨λq=>⟨q.1,List.mem_append_left _ q.2⟩,λq=>⟨q.1,?_⟩⟩ _ _
  rcases List.mem_append.1 q.2 with q2 | q2
  ·exact q2
  ·simp at q2;omega
set_option maxRecDepth 100000 in
theorem mb{H:zV}{b:Blk}{x:Hp}{g T more:Int}(hp:HpAt H b x)(ok:SpOK x.sp)(he:x.sp.mem.Even)(hcf:x.sp.cf<4611686018427387904)(hg:I64 g)(hT:I64 T)(hm:I64 more):
  ew.C (some ⟨b.h,0,none⟩) g T more H (λv H'=>(gz x.sp g T more≠0->v=.tuple #[.pointer none,.int .i64 (gz x.sp g T more)]/\Ext H H')/\
   (gz x.sp g T more=0-> ∃(q:TB) (t:Tr),v=.tuple #[.pointer (some ⟨q.t,0,none⟩),.int .i64 0]/\Tg H' b {x with sp:=x.sp.fresh (eP g)} q t/\gm x.sp.mem g T t/\(∀i∈q.all,H.size<=i)/\Fr (spB b) H H')):=by
 refine HC.via λR hR=>ew.link ?_
 unfold ew.pt zY
 rw[onPtr_some]
 refine⟨_,hp.hPtr,?_⟩
 rw[onPtr_some]
 by_cases hbad:g<0\/4<=g\/T<g\/g+1<T\/more<0
 ·have e:gz x.sp g T more=1:=by unfold gz;rw[if_pos hbad]
  rw[if_pos ?_]
  ·exact hR _ _ ⟨λ_=>⟨by rw[e],Ext.refl _⟩,λh=>by rw[e]at h;exact absurd h (by decide)⟩
  ·rcases hbad with h | h | h | h | h
   ·simp[h]
   ·have:g>=4:=h
    simp[this]
   ·simp[h]
   ·by_cases h4:g>=4
    ·simp[h4]
    ·rw[w64 (n:=g+1) (by omega)]
     have:T>g+1:=h
     simp[this]
   ·simp[h]
 have hgs:0<=g/\g<4/\g<=T/\T<=g+1/\0<=more:=by omega
 rw[w64 (n:=g+1) (by omega)]
 rw[if_neg (by
  simp only[Bool.or_eq_true,decide_eq_true_eq]
  omega)]
 have hlim:=ok.mem.lim
 have hglen:(eP g).length=(g+1).toNat:=by simp[eP]
 refine⟨λB n c i A=>(0<=i/\i<=g+1)/\n=i.toNat/\Own A 3 1 B n c (ivs ((eP g).take i.toNat))/\(∀j∈blks B,H.size<=j)/\Ext H A,λ_ _ _ i _=>(g+1-i).toNat,⟨by omega,rfl,gJ,by simp,Ext.refl _⟩,?_⟩
 rintro gB gN gC i H1 ⟨hi,rfl,how,hfr,e1⟩
 by_cases hlt:i<g+1
 ·rw[if_pos hlt]
  intro c2 H2 hc2 hH2
  have e2:Ext H1 H2:=Ext.push' hH2
  have hd:(g+1-(i+1)).toNat< (g+1-i).toNat:=by omega
  rw[w64 (n:=i+1) (by omega)]
  refine ft (ys:=[.int .i64 i]) (how.ext e2) (fd (aL hc2 hH2) _ 0 0 (λj hj=>by
   simp only[List.length_cons,List.length_nil]at hj
   obtain rfl:j=0:=by omega
   rfl)) rfl rfl rfl (by omega) ?_
  intro p' c' H4 how4 f4 hn4
  have ht:(eP g).take (i+1).toNat=(eP g).take i.toNat++[i]:=by
   rw[show(i+1).toNat=i.toNat+1 by omega,List.take_succ_eq_append_getElem (by rw[hglen];omega)]
   congr 2
   simp[eP];omega
  refine⟨⟨by omega,by omega,?_,λj hj=>?_,(e1.trans e2).fr_trans f4 hfr⟩,hd⟩
  ·rw[ht,show i.toNat+1=i.toNat+1 from rfl]
   unfold ivs at how4⊢
   rw[List.map_append];exact how4
  ·rcases hn4 j hj with h | h
   ·exact hfr j h
   ·have:=e1.size;have:=e2.size;omega
 rw[if_neg hlt]
 have hie:i.toNat=(eP g).length:=by rw[hglen];omega
 rw[hie]at how⊢
 rw[List.take_length]at how
 have hp1:=hp.ext e1
 refine⟨_,hp1.hPtr,_,rfl,_,hp1.cd.cPtr,_,rfl,_,hp1.cd.sp.memPtr,?_⟩
 refine HC.mono (fR (gs:=eP g) hp1.cd.sp.mem ok.mem how.src rfl (by omega)) ?_
 rintro _ H4 ⟨yB,yC,young,rfl,hyo,howy,hfy,e4⟩
 refine⟨_,_,_,rfl,?_⟩
 have e14:=e1.trans e4
 have hp4:=hp.ext e14
 have hylen:=hyo.len
 have hny:young.length=x.sp.mem.nyoung g:=hyo.perm.length_eq
 refine⟨_,hp4.hPtr,_,rfl,_,hp4.cd.cPtr,_,rfl,_,hp4.cd.sp.memPtr,?_⟩
 refine HC.mono (ma hp4.cd.sp.mem) ?_
 rintro _ H5 ⟨rfl,rfl⟩
 have hfree:=ok.mem.free
 have hnf:x.sp.mem.nfree<=x.sp.mem.limit:=by
  unfold Mem.nfree
  exact Nat.le_trans List.countP_le_length (by simp)
 refine⟨_,rfl,?_⟩
 rw[w64 (n:=2*(young.length:Int)) (by omega),w64 (n:=x.sp.mem.free-2*(young.length:Int)) (by omega),w64 (n:=x.sp.mem.free-2*(young.length:Int)-8) (by omega)]
 by_cases hfull:x.sp.mem.free-2*(young.length:Int)-8<more
 ·rw[if_pos hfull]
  have e:gz x.sp g T more=2:=by unfold gz;rw[if_neg hbad,if_pos (by rw[<-hny];exact hfull)]
  exact hR _ _ ⟨λ_=>⟨by rw[e],e14⟩,λh=>by rw[e]at h;exact absurd h (by decide)⟩
 rw[if_neg hfull]
 have es:gz x.sp g T more=0:=by unfold gz;rw[if_neg hbad,if_neg (by rw[<-hny];exact hfull)]
 intro bf H6 hbf hH6 bs H7 hbs hH7 bt H8 hbt hH8
 have e6:Ext H5 H6:=Ext.push' hH6
 have e7:Ext H6 H7:=Ext.push' hH7
 have e8:Ext H7 H8:=Ext.push' hH8
 have z6:H6.size=H5.size+1:=by rw[hH6];simp
 have z7:H7.size=H6.size+1:=by rw[hH7];simp
 have z5:=e14.size
 have e58:Ext H5 H8:=(e6.trans e7).trans e8
 have e18:=e14.trans e58
 have hp8:=hp.ext e18
 have T8:TrAt H8 b ⟨bt,bf,bs,none,0,0⟩ ⟨T,λ_=>false,[],[],[],false⟩:=TrAt.init (aL hbt hH8) (e8.get (e7.get (aL hbf hH6))) (e8.get (aL hbs hH7)) ⟨by omega,by omega,by omega⟩
 have hbnew: ∀j∈b.all,j<H.size:=λj hj=>hp.lt j hj
 have hyB: ∀j∈blks yB,j<H5.size/\H1.size<=j:=λj hj=>⟨howy.lt j hj,hfy j hj⟩
 have hgB: ∀j∈blks gB,j<H1.size/\H.size<=j:=λj hj=>⟨how.lt j hj,hfr j hj⟩
 have z1:=e1.size
 have z4:=e4.size
 refine⟨λi A=>(0<=i/\i<=young.length)/\TrAt A b ⟨bt,bf,bs,none,0,0⟩ ⟨T,λk=>decide (k∈young.take i.toNat),[],[],[],false⟩/\Fr [bt] H8 A,λi _=>(young.length-i).toNat,⟨by omega,by simpa using T8,Fr.refl _ _⟩,?_⟩
 rintro i9 H9 ⟨hi9,T9,f9⟩
 by_cases hl9:i9< (young.length:Int)
 ·rw[if_pos hl9]
  have hn9:i9.toNat<young.length:=by omega
  have howy9:=(howy.ext e58).keep f9 (λj hj hm=>by have:=hyB j hj;simp at hm;omega)
  obtain⟨a,ha,hata⟩:=jO howy9 hn9
  obtain⟨khas,klim,kpos,_⟩:=hyo.has (List.getElem_mem hn9)
  have hput:=T9.putOld (k:=young[i9.toNat]) (by omega)
  have hd:((young.length:Int)-(i9+1)).toNat< ((young.length:Int)-i9).toNat:=by omega
  refine⟨a,ha,⟨hi9.1,hl9⟩,_,hata,⟨by omega,by omega⟩,?_⟩
  rw[addr_add_mk,addr_add_mk,Nat.zero_add,Nat.mul_one,show((young[i9.toNat]:Nat):Int).toNat=young[i9.toNat]by omega,w64 (n:=i9+1) (by omega)]
  refine⟨hput.1,λH10 hH10=>?_⟩
  subst hH10
  refine⟨⟨by omega,?_,f9.trans hput.2.1⟩,hd⟩
  have ho:(λk=>decide (k∈young.take (i9+1).toNat))=(λi=>if i=young[i9.toNat]then true else decide (i∈young.take i9.toNat)):=by
   funext k
   rw[show(i9+1).toNat=i9.toNat+1 by omega,List.take_succ_eq_append_getElem hn9]
   by_cases hk:k=young[i9.toNat]
   ·rw[if_pos hk,hk];exact zX (List.mem_append_right _ (List.mem_singleton.2 rfl))
   ·rw[if_neg hk,decide_eq_decide,List.mem_append,List.mem_singleton]
    exact⟨λh=>h.resolve_right hk,.inl⟩
  rw[ho];exact hput.2.2
 rw[if_neg hl9]
 have hn9:i9.toNat=young.length:=by omega
 rw[hn9,List.take_length]at T9
 have f59:Fr [bt] H5 H9:=e58.fr.trans f9
 have fH9:Ext H H9:=e14.fr_trans f59 (λj hj=>by simp at hj;omega)
 have hp9:=hp.ext fH9
 refine⟨_,hp9.hPtr,_,rfl,_,hp9.cd.cPtr,_,rfl,_,hp9.cd.sp.memPtr,?_⟩
 intro c11 H11 hc11 hH11
 have e11:Ext H9 H11:=Ext.push' hH11
 have z8:H8.size=H7.size+1:=by rw[hH8];simp
 have z9:=f9.size
 have hp11:=hp9.ext e11
 refine HC.mono (fR (gs:=[T]) hp11.cd.sp.mem ok.mem (show dd H11 (some ⟨c11,0,none⟩) (ivs [T])from row1 (by rw[aM (aL hc11 hH11)];rfl)) rfl (by decide)) ?_
 rintro _ H12 ⟨wB,wC,l,rfl,hl,howl,hfl,e12⟩
 refine⟨_,_,_,rfl,?_⟩
 have hllen:=hl.len
 have e912:=e11.trans e12
 have fH12:=fH9.trans e912
 have z12:=e912.size
 have hwB: ∀j∈blks wB,j<H12.size/\H11.size<=j:=λj hj=>⟨howl.lt j hj,hfl j hj⟩
 have z11:=e11.size
 refine⟨λi A=>(0<=i/\i<=l.length)/\(∃ks ks':List (Int×Value),TrAt A b ⟨bt,bf,bs,none,0,0⟩ ⟨T,λk=>decide (k∈young),ks,ks',[],false⟩/\Told x.sp.mem ks (l.take i.toNat)/\Told x.sp.mem ks' (l.take i.toNat))/\(∃es cl,A[bf]?=some (.map es cl)/\Born es cl)/\(∃es cl,A[bs]?=some (.map es cl)/\Born es cl)/\Fr [bf,bs] H12 A,λi _=>(l.length-i).toNat,?_,?_⟩
 ·have hb0: ∀c,c=bf\/c=bs->H12[c]?=some (.map #[] 0):=λc hc=>by
   have hc8:H8[c]?=some (.map #[] 0):=by
    rcases hc with rfl | rfl
    ·exact e8.get (e7.get (aL hbf hH6))
    ·exact e8.get (aL hbs hH7)
   exact e912.get (f9.get (by simp;omega) hc8)
  exact⟨by omega,⟨[],[],T9.ext e912,λk=>by simp[mget],λk=>by simp[mget]⟩,⟨_,_,hb0 _ (.inl rfl),k9⟩,⟨_,_,hb0 _ (.inr rfl),k9⟩,Fr.refl _ _⟩
 rintro i13 H13 ⟨hi13,⟨ks,ks',T13,told,told'⟩,⟨esf,clf,hesf,bornf⟩,⟨ess,cls,hess,borns⟩,f13⟩
 have z13:=f13.size
 have fH13:Ext H H13:=fH12.fr_trans f13 (λj hj=>by simp at hj;omega)
 have hp13:=hp.ext fH13
 by_cases hl13:i13< (l.length:Int)
 ·rw[if_pos hl13]
  have hn13:i13.toNat<l.length:=by omega
  have howl13:=howl.keep f13 (λj hj hm=>by have:=hwB j hj;simp at hm;omega)
  obtain⟨a,ha,hata⟩:=jO howl13 hn13
  obtain⟨khas,klim,kpos,_⟩:=hl.has (List.getElem_mem hn13)
  have htk:l.take (i13+1).toNat=l.take i13.toNat++[l[i13.toNat]]:=by rw[show(i13+1).toNat=i13.toNat+1 by omega,List.take_succ_eq_append_getElem hn13]
  generalize hk:l[i13.toNat]=k at*
  refine⟨a,ha,⟨hi13.1,hl13⟩,_,hata,_,hp13.hPtr,_,rfl,_,hp13.cd.cPtr,_,rfl,_,hp13.cd.sp.memPtr,?_⟩
  refine HC.mono (eO hp13.cd.sp.mem) ?_
  rintro _ H14 ⟨rfl,e14'⟩
  have hsg:x.sp.mem.segOr k=x.sp.mem.seg k:=by unfold Mem.segOr;rw[if_pos khas,show((k:Nat):Int).toNat=k by omega]
  rw[hsg]
  refine⟨_,_,_,_,_,_,_,_,rfl,λc15 H15 hc15 hH15=>?_⟩
  obtain⟨hcp,hs⟩:=fK (x.sp.mem.seg k) hc15 hH15
  refine⟨hcp,λH16 hH16=>?_⟩
  obtain⟨e16,_,_,g2,_⟩:=hs H16 hH16
  have e1316:=e14'.trans e16
  have T16:=T13.ext e1316
  have z14:=e14'.size
  have c15n:c15≠bf/\c15≠bs:=by omega
  have hbf16:H16[bf]?=some (.map esf clf):=e1316.get hesf
  have hbs16:H16[bs]?=some (.map ess cls):=e1316.get hess
  obtain⟨esf2,clf2,q1,entsf⟩:=T16.frm
  obtain⟨ess2,cls2,q2,entss⟩:=T16.seen
  rw[show(⟨bt,bf,bs,none,0,0⟩:TB).f=bf from rfl,hbf16]at q1
  rw[show(⟨bt,bf,bs,none,0,0⟩:TB).s=bs from rfl,hbs16]at q2
  cases q1;cases q2
  refine⟨some bf,by rw[addr_add_mk];exact T16.fAt,some bs,by rw[addr_add_mk];exact T16.sAt,_,by rw[addr_add_mk];exact g2,_,by rw[addr_add_mk];exact g2,bf,rfl,esf,clf,ks,hbf16,entsf,bornf,?_⟩
  intro es2 cl2 st v21 H17 hH17 en17 bo17 hb17
  have l16f:=bH hbf16
  have l16s:=bH hbs16
  have f17:Fr [bf] H16 H17:=by rw[hH17];exact Fr.set
  have g17:hat H17 ⟨c15,2,none⟩=some (.int .i64 (x.sp.mem.seg k).n):=f17.hat (by simp;omega) g2
  refine⟨by rw[addr_add_mk];exact row1 g17,by rw[addr_add_mk];exact row1 g17,es2,cl2,_,(k:Int),by rw[hH17];exact bA l16f,en17,bo17,hb17,?_⟩
  intro es4 H18 hH18 en18 bo18
  have l17f:bf<H17.size:=by have:=f17.size;omega
  have f18:Fr [bf] H17 H18:=by rw[hH18];exact Fr.set
  have g18:hat H18 ⟨c15,2,none⟩=some (.int .i64 (x.sp.mem.seg k).n):=f18.hat (by simp;omega) g17
  have hbs18:H18[bs]?=some (.map ess cls):=f18.get (by simp;omega) (f17.get (by simp;omega) hbs16)
  refine⟨by rw[addr_add_mk];exact row1 g18,bs,rfl,ess,cls,ks',hbs18,entss,borns,?_⟩
  intro es6 cl5 st2 v22 H19 hH19 en19 bo19 hb19
  have l18s:=bH hbs18
  have f19:Fr [bs] H18 H19:=by rw[hH19];exact Fr.set
  have g19:hat H19 ⟨c15,2,none⟩=some (.int .i64 (x.sp.mem.seg k).n):=f19.hat (by simp;omega) g18
  refine⟨by rw[addr_add_mk];exact row1 g19,es6,cl5,_,(k:Int),by rw[hH19];exact bA l18s,en19,bo19,hb19,?_⟩
  intro es8 H20 hH20 en20 bo20
  have f20:Fr [bs] H19 H20:=by rw[hH20];exact Fr.set
  have l19s:bs<H19.size:=by have:=f19.size;omega
  have hd:((l.length:Int)-(i13+1)).toNat< ((l.length:Int)-i13).toNat:=by omega
  rw[w64 (n:=i13+1) (by omega)]
  have T17:TrAt H17 b ⟨bt,bf,bs,none,0,0⟩ ⟨T,λk=>decide (k∈young),mput ks k v21,ks',[],false⟩:=by rw[hH17];exact T16.putFrm en17
  have T18:TrAt H18 b ⟨bt,bf,bs,none,0,0⟩ ⟨T,λk=>decide (k∈young),mput (mput ks k v21) k (.int .i64 (x.sp.mem.seg k).n),ks',[],false⟩:=by rw[hH18];exact T17.putFrm en18
  have T19:TrAt H19 b ⟨bt,bf,bs,none,0,0⟩ ⟨T,λk=>decide (k∈young),mput (mput ks k v21) k (.int .i64 (x.sp.mem.seg k).n),mput ks' k v22,[],false⟩:=by rw[hH19];exact T18.putSeen en19
  have T20:TrAt H20 b ⟨bt,bf,bs,none,0,0⟩ ⟨T,λk=>decide (k∈young),mput (mput ks k v21) k (.int .i64 (x.sp.mem.seg k).n),mput (mput ks' k v22) k (.int .i64 (x.sp.mem.seg k).n),[],false⟩:=by rw[hH20];exact T19.putSeen en20
  have f1620:Fr [bf,bs] H16 H20:=((f17.mono (λj hj _=>by simp at hj;simp[hj])).trans (f18.mono (λj hj _=>by simp at hj;simp[hj]))).trans ((f19.mono (λj hj _=>by simp at hj;simp[hj])).trans (f20.mono (λj hj _=>by simp at hj;simp[hj])))
  refine⟨⟨by omega,⟨_,_,T20,by rw[htk];exact told.put k,by rw[htk];exact told'.put k⟩,⟨es4,cl2,?_,bo18⟩,⟨es8,cl5,by rw[hH20];exact bA l19s,bo20⟩,f13.trans (e1316.fr.trans f1620)⟩,hd⟩
  exact f20.get (by simp;omega) (f19.get (by simp;omega) (by rw[hH18];exact bA l17f))
 rw[if_neg hl13]
 have hn13:i13.toNat=l.length:=by omega
 rw[hn13,List.take_length]at told told'
 refine⟨_,hp13.hPtr,_,rfl,_,hp13.cd.cPtr,?_⟩
 have how13:Own H13 3 1 gB (eP g).length gC (ivs (eP g)):=by
  have h5:=how.ext (e4.trans e58)
  have h9:=h5.keep f9 (λj hj hm=>by have:=hgB j hj;simp at hm;omega)
  exact(h9.ext e912).keep f13 (λj hj hm=>by have:=hgB j hj;simp at hm;omega)
 refine HC.mono (ke hp13.cd.sp how13.src rfl (by omega) (λj hj=>by have:=hgB j hj;have:=hbnew b.sp (by simp[Blk.all]);omega)) ?_
 rintro _ H21 ⟨sp21,f21⟩
 have hp21:=hp13.withSp f21 (λj hj=>by simp at hj;omega) sp21
 refine⟨_,hp21.hPtr,?_⟩
 have ok21:=Sp.fresh_ok ok (eP g)
 refine HC.mono (kQ hp21.cd ok21) ?_
 rintro _ H22 ⟨dB,dN,dC,dl,rfl,hdl,hdn,howd,hfd,e22⟩
 refine⟨_,_,_,rfl,?_⟩
 have bsp:=hbnew b.sp (by simp[Blk.all])
 have T21:TrAt H21 b ⟨bt,bf,bs,none,0,0⟩ ⟨T,λk=>decide (k∈young),ks,ks',[],false⟩:=T13.keep f21 (λj hj hq=>by
  simp at hj
  simp[TB.all]at hq
  omega)
 have T22:=T21.ext e22
 have hdlen:=x.sp.mem.dirtyOf_len g dl
 have hdl2:=hdl.len
 have hmem:(x.sp.fresh (eP g)).mem=x.sp.mem:=rfl
 rw[hmem]at hdn howd hdl hdl2
 have z21:=f21.size
 have hput:=T22.putCards (B:=dB) (n:=dN) (c:=dC) (l:=x.sp.mem.dirtyOf g dl) howd.src howd.lt ⟨hdn,by omega⟩ (λj hj hq=>by
  have h1:=hfd j hj
  have h2:=T21.lt j hq
  omega)
 rw[addr_add_mk,Nat.zero_add]
 refine⟨hput.1,λH23 hH23=>?_⟩
 subst hH23
 have fin:Fr (spB b) H (aS H22 ⟨bt,1028,none⟩ [.slice dB dN dC] 0):=by
  have f1:Fr (spB b) H H21:=fH13.fr.trans (f21.mono (λj hj _=>by simp at hj;simp[spB,hj]))
  have f2:Fr (spB b) H H22:=f1.trans e22.fr
  refine f2.trans' hput.2.1 (λj hj _=>hj) (λj hj hlt=>?_)
  simp at hj;omega
 have hp22:=hp21.ext e22
 have hp23:HpAt (aS H22 ⟨bt,1028,none⟩ [.slice dB dN dC] 0) b {x with sp:=x.sp.fresh (eP g)}:=hp22.keep hput.2.1 (λj hj hb=>by
  have:=hbnew j hb
  simp at hj;omega)
 refine hR _ _ ⟨λh=>absurd es h,λ_=>⟨_,_,rfl,⟨⟨hp23,ok21,hput.2.2,λj hj hb=>?_⟩,he,hcf,rfl⟩,?_,λj hj=>?_,fin⟩⟩
 ·have h1:=hbnew j hb
  simp only[TB.all,List.mem_cons]at hj
  rcases hj with h | h | h | h
  ·omega
  ·omega
  ·omega
  ·have:=hfd j h;have:=fH13.size;omega
 ·have hkey: ∀ks0:List (Int×Value),Told x.sp.mem ks0 l-> ∀k:Int,0<=k->mget ks0 k=if x.sp.mem.has k/\(x.sp.mem.seg k.toNat).gen=T then some (.int .i64 (x.sp.mem.seg k.toNat).n)else none:=by
   intro ks0 ht k hk
   rw[ht k]
   refine hU ?_ _ _
   rw[hl.perm.mem_iff]
   unfold Mem.takenTo
   rw[List.mem_filter,List.mem_range]
   have h1:=(ok.mem.seg k.toNat).taken
   constructor
   ·rintro⟨_,h3,h4⟩
    simp only[Bool.and_eq_true,decide_eq_true_eq,Bool.or_eq_true,List.isEmpty_iff]at h4
    have h5:(x.sp.mem.seg k.toNat).gen∈[T]:=h4.2.resolve_left (by simp)
    exact⟨⟨hk,by omega,by omega⟩,by simpa using h5⟩
   ·rintro⟨h3,h4⟩
    have h5:=h3.2.2
    refine⟨hk,by have:=h3.2.1;omega,?_⟩
    simp only[Bool.and_eq_true,decide_eq_true_eq,Bool.or_eq_true]
    exact⟨by omega,.inr (by rw[h4];simp)⟩
  refine⟨rfl,λk hk=>?_,λk hk=>?_,λk hk=>?_,λk hk=>?_,λk hk=>?_,⟨dl,hdl,rfl⟩,rfl⟩
  ·show decide (k∈young)=_
   unfold Mem.young
   rw[decide_eq_decide,hyo.perm.mem_iff]
   unfold Mem.takenTo
   rw[List.mem_filter,List.mem_range]
   have h1:=(ok.mem.seg k).taken
   have h2:=(ok.mem.seg k).gen
   have hk':((k:Nat):Int).toNat=k:=by omega
   constructor
   ·rintro⟨h3,h4⟩
    simp only[Bool.and_eq_true,decide_eq_true_eq,Bool.or_eq_true,List.isEmpty_iff]at h4
    have h5:(x.sp.mem.seg k).gen∈eP g:=by
     rcases h4.2 with h | h
     ·rw[h]at hglen;simp at hglen;omega
     ·exact h
    exact⟨⟨by omega,by omega,by rw[hk'];omega⟩,(jS.1 h5).2⟩
   ·rintro⟨h3,h4⟩
    have h5:=h3.2.2
    rw[hk']at h5
    refine⟨by have:=h3.2.1;omega,?_⟩
    simp only[Bool.and_eq_true,decide_eq_true_eq,Bool.or_eq_true]
    exact⟨by omega,.inr (jS.2 ⟨h2.1,h4⟩)⟩
  ·exact hkey _ told k hk
  ·exact hkey _ told' k hk
  ·show mget ks k=none
   rw[told k,if_neg (by omega)]
  ·show mget ks' k=none
   rw[told' k,if_neg (by omega)]
 ·simp only[TB.all,List.mem_cons]at hj
  have:=e18.size
  rcases hj with h | h | h | h
  ·omega
  ·omega
  ·omega
  ·have:=hfd j h;have:=fH13.size;omega

def Mem.give(m:Mem)(k:Int):Mem:=if m.has k then{m with free:=m.free+1}.upd k.toNat Seg.none else m
theorem bI.give{m:Mem}(ok:bI m)(k:Int):bI (m.give k):=by
 unfold Mem.give
 split
 ·rename_i h
  refine⟨ok.lim,λi=>?_,?_,ok.count⟩
  ·rw[Mem.upd_seg]
   split
   ·exact il
   ·exact ok.seg i
  ·show m.free+1=_
   have e2:({m with free:=m.free+1}.upd k.toNat Seg.none).nfree=(m.upd k.toNat Seg.none).nfree:=rfl
   have:=Mem.nfree_give (m:=m) (k:=k.toNat) (s:=Seg.none) (by have:=h.1;have:=h.2.1;omega) h.2.2 rfl
   rw[e2,this,ok.free];omega
 ·exact ok
set_option maxRecDepth 100000 in
theorem ir{H:zV}{bm bs:Nat}{m:Mem}{k:Int}(h:cx H bm bs m)(ok:bI m):
  dt.C (some ⟨bm,0,none⟩) k H (λv H'=>v=.int .i64 (if m.has k then 0 else 19)/\cx H' bm bs (m.give k)/\Fr [bm,bs] H H'):=by
 refine HC.via λR hR=>dt.link ?_
 unfold dt.pt zY
 refine HC.mono (gX h) ?_
 rintro _ H1 ⟨rfl,rfl⟩
 refine⟨_,rfl,?_⟩
 by_cases hk:m.has k
 case neg=>
  rw[if_neg hk,onPtr_none]
  have e:m.give k=m:=by unfold Mem.give;rw[if_neg hk]
  rw[e,if_neg hk]at hR
  exact hR _ _ ⟨rfl,h,Fr.refl _ _⟩
 rw[if_pos hk,onPtr_some]
 have hkl:k.toNat<m.limit:=by have:=hk.1;have:=hk.2.1;omega
 have hcp:=h.canPuts (k:=k.toNat) (o:=0) (n:=72) hkl (by omega)
 rw[Nat.add_zero]at hcp
 refine⟨hcp,λH2 hH2=>?_⟩
 obtain⟨z,ez,hz,hg⟩:=kt
 obtain⟨g2,f2⟩:=h.puts (k:=k.toNat) (o:=0) (vs:=z.toList) (s:=Seg.none) hkl (by simp;omega) (λj hj=>by rw[Nat.zero_add,Array.getElem?_toList];exact hg j (by simp at hj;omega)) (λj hj ho=>by simp at ho;omega)
 rw[Nat.add_zero]at g2 f2
 have eH:H2=aS H1 ⟨bs,k.toNat*72,none⟩ z.toList 0:=by rw[hH2,ez]
 rw[<-eH]at g2 f2
 have hfr0:m.free<=1024/\0<=m.free:=by
  have:=ok.lim
  have:m.nfree<=(List.range m.limit).length:=List.countP_le_length
  simp at this
  rw[ok.free];omega
 refine⟨_,rfl,m.free,by rw[addr_add_mk];exact g2.freeAt,by rw[addr_add_mk];exact bT g2.mem.choose_spec _ _ _ (by simp),λH3 hH3=>?_⟩
 rw[addr_add_mk,cP _ _ _ _ _ g2.mem.choose_spec,w64 (n:=m.free+1) (by omega)]at hH3
 have e:m.give k={m with free:=m.free+1}.upd k.toNat Seg.none:=by unfold Mem.give;rw[if_pos hk]
 have g3:cx H3 bm bs (m.give k):=by
  rw[e]
  subst hH3
  obtain⟨cs,hb,hr⟩:=g2.segs
  exact⟨⟨g2.mem.choose,by rw[bA g2.lt.1];rfl⟩,h.ne,cs,by rw[eu h.ne];exact hb,hr⟩
 have f3:Fr [bm] H2 H3:=by subst hH3;exact Fr.set
 exact hR _ _ ⟨by rw[if_pos hk],g3,f2.trans' f3 (λi hi _=>by simp at hi;simp[hi]) (λi hi _=>by simp at hi;simp[hi])⟩

def Sp.give(s:Sp)(k:Int):Sp:=if s.mem.has k then{mem:=s.mem.give k,cur:=λi j=>if s.cur i j=k+1 then 0 else s.cur i j}else s
theorem Sp.give_ok{s:Sp}(ok:SpOK s)(k:Int):SpOK (s.give k):=by
 unfold Sp.give
 split
 ·rename_i hk
  refine⟨ok.mem.give k,λg j=>?_⟩
  by_cases h:s.cur g j=k+1
  ·exact .inl (if_pos h)
  ·have ecur:({mem:=s.mem.give k,cur:=λi j=>if s.cur i j=k+1 then 0 else s.cur i j}:Sp).cur g j=s.cur g j:=if_neg h
   rw[ecur]
   rcases ok.cur g j with h0 | ⟨h1,h2,h3,h4⟩
   ·exact .inl h0
   ·have hn:(s.cur g j-1).toNat≠k.toNat:=by have:=h2.1;have:=hk.1;omega
    have e:(s.mem.give k).seg (s.cur g j-1).toNat=s.mem.seg (s.cur g j-1).toNat:=by unfold Mem.give;rw[if_pos hk,Mem.upd_other _ _ hn]
    have el:(s.mem.give k).limit=s.mem.limit:=by unfold Mem.give;rw[if_pos hk];rfl
    exact .inr ⟨h1,⟨h2.1,by show _< ((s.mem.give k).limit:Int);rw[el];exact h2.2.1,by show((s.mem.give k).seg _).taken≠0;rw[e];exact h2.2.2⟩,by show((s.mem.give k).seg _).gen=_;rw[e];exact h3,by show((s.mem.give k).seg _).kind=_;rw[e];exact h4⟩
 ·exact ok
set_option maxRecDepth 100000 in
theorem kU{H:zV}{b:Blk}{s:Sp}{k:Int}(h:SpAt H b s)(ok:SpOK s)(hk64:0<=k/\k<=1024):
  cR.C (some ⟨b.sp,0,none⟩) k H (λv H'=>(∃e:Int,v=.int .i64 e)/\SpAt H' b (s.give k)/\Fr [b.sp,b.m,b.s] H H'):=by
 refine HC.via λR hR=>cR.link ?_
 unfold cR.pt zY
 refine HC.mono (iD h) ?_
 rintro _ H1 ⟨rfl,rfl⟩
 refine⟨_,rfl,?_⟩
 rw[if_neg (by decide)]
 refine⟨_,rfl,_,h.memPtr,?_⟩
 refine HC.mono (eO h.mem) ?_
 rintro _ H2 ⟨rfl,e2⟩
 refine⟨_,_,_,_,_,_,_,_,rfl,λc3 H3 hc3 hH3=>?_⟩
 obtain⟨hcp,hs⟩:=fK (s.mem.segOr k) hc3 hH3
 refine⟨hcp,λH4 hH4=>?_⟩
 obtain⟨e4,g0,g1,_,_⟩:=hs H4 hH4
 have e14:=e2.trans e4
 have h4:=h.ext e14
 by_cases hk:s.mem.has k
 case neg=>
  rw[if_neg (by simpa using hk)]
  refine⟨_,h4.memPtr,?_⟩
  refine HC.mono (ir h4.mem ok.mem) ?_
  rintro _ H5 ⟨rfl,m5,f5⟩
  have e:s.give k=s:=by unfold Sp.give;rw[if_neg hk]
  have e':s.mem.give k=s.mem:=by unfold Mem.give;rw[if_neg hk]
  rw[e']at m5
  rw[e]at hR
  exact⟨_,rfl,hR _ _ ⟨⟨_,rfl⟩,h4.withMem f5 (by have:=h.ne;simp;omega) m5,e14.fr.trans (f5.mono (λi hi _=>by simp at hi;simp;omega))⟩⟩
 rw[if_pos (zX hk)]
 have hsg:s.mem.segOr k=s.mem.seg k.toNat:=by unfold Mem.segOr;rw[if_pos hk]
 rw[hsg]at g0 g1
 have hgk:=(ok.mem.seg k.toNat).gen
 have hkk:=(ok.mem.seg k.toNat).kind
 have hcur:=h4.curAt (g:=(s.mem.seg k.toNat).gen.toNat) (k:=(s.mem.seg k.toNat).kind.toNat) (by omega) (by omega)
 refine⟨_,g0,_,by rw[addr_add_mk];exact g1,⟨by omega,by omega⟩,⟨by omega,by omega⟩,_,by simp only[addr_add_mk,Nat.zero_add,Nat.mul_one];exact hcur,?_⟩
 rw[w64 (n:=k+1) (by omega)]
 have eg:s.give k={mem:=s.mem.give k,cur:=λi j=>if s.cur i j=k+1 then 0 else s.cur i j}:=by unfold Sp.give;rw[if_pos hk]
 have other: ∀i j:Nat,s.cur i j=k+1->i=(s.mem.seg k.toNat).gen.toNat/\j=(s.mem.seg k.toNat).kind.toNat:=λi j hij=>by
  rcases ok.cur i j with h0 | ⟨h1,h2,h3,h4⟩
  ·have:=hk.1;omega
  ·rw[hij,show(k+1-1).toNat=k.toNat by omega]at h3 h4
   omega
 by_cases hc:s.cur (s.mem.seg k.toNat).gen.toNat (s.mem.seg k.toNat).kind.toNat=k+1
 ·rw[if_pos hc]
  have hp:=h4.putCur (g:=(s.mem.seg k.toNat).gen.toNat) (k:=(s.mem.seg k.toNat).kind.toNat) (v:=0) (by omega) (by omega)
  refine⟨_,g0,_,by rw[addr_add_mk];exact g1,⟨by omega,by omega⟩,⟨by omega,by omega⟩,by simp only[addr_add_mk,Nat.zero_add,Nat.mul_one];exact hp.1,λH5 hH5=>?_⟩
  simp only[addr_add_mk,Nat.zero_add,Nat.mul_one]at hH5
  subst hH5
  refine⟨_,hp.2.1.memPtr,?_⟩
  refine HC.mono (ir hp.2.1.mem ok.mem) ?_
  rintro _ H6 ⟨rfl,m6,f6⟩
  have h6:=hp.2.1.withMem f6 (by have:=h.ne;simp;omega) m6
  refine⟨_,rfl,hR _ _ ⟨⟨_,rfl⟩,?_,(e14.fr.trans (hp.2.2.mono (λi hi _=>by simp at hi;simp[hi]))).trans (f6.mono (λi hi _=>by simp at hi;simp;omega))⟩⟩
  rw[eg]
  refine h6.alike rfl (λi j hi hj=>?_)
  show(if s.cur i j=k+1 then 0 else s.cur i j)=(if i=_/\j=_ then 0 else s.cur i j)
  refine hU ⟨other i j,λhh=>?_⟩ _ _
  rw[hh.1,hh.2];exact hc
 ·rw[if_neg hc]
  refine⟨_,h4.memPtr,?_⟩
  refine HC.mono (ir h4.mem ok.mem) ?_
  rintro _ H5 ⟨rfl,m5,f5⟩
  have h5:=h4.withMem f5 (by have:=h.ne;simp;omega) m5
  refine⟨_,rfl,hR _ _ ⟨⟨_,rfl⟩,?_,e14.fr.trans (f5.mono (λi hi _=>by simp at hi;simp;omega))⟩⟩
  rw[eg]
  refine h5.alike rfl (λi j hi hj=>?_)
  show(if s.cur i j=k+1 then 0 else s.cur i j)=s.cur i j
  rw[if_neg (λhh=>hc (by have:=other i j hh;rw[<-this.1,<-this.2];exact hh))]

def Mem.cardLen(m:Mem)(k c:Int):Nat:=(min 16 ((m.seg k.toNat).n-c*16)).toNat
def Mem.markOf(m:Mem)(k c:Int)(n:Nat):Int:=(m.row (k*64+c*16) n).foldl (λmk w=>m.younger (m.seg k.toNat) w mk) 5
def Mem.again(m:Mem)(k c:Int):Mem:=if m.has k/\0<=c/\c<4 then(m.mark k c (m.markOf k c (m.cardLen k c))).1 else m
theorem Mem.markOf_succ(m:Mem)(k c:Int)(n:Nat):m.markOf k c (n+1)=m.younger (m.seg k.toNat) (m.get (k*64+c*16+n)) (m.markOf k c n):=by
 unfold Mem.markOf Mem.row
 rw[List.range_succ,List.map_append,List.foldl_append];rfl
set_option maxRecDepth 100000 in
theorem ji{H:zV}{yield:Value}{b:Blk}{s:Sp}{p1 p2 p3:Nat}{k c:Int}{R0:zV->Prop}(Inv:Nat->zV->Prop)(ok:SpOK s)(hk:s.mem.has k)(hc:0<=c/\c<4)(h0:Inv 0 H)
  (hst: ∀j A,Inv j A->SpAt A b s/\hat A ⟨b.c,0,none⟩=some (.pointer (some ⟨b.sp,0,none⟩))/\hat A ⟨p1,0,none⟩=some (.pointer (some ⟨b.c,0,none⟩))/\hat A ⟨p2,0,none⟩=some (.int .i64 k)/\hat A ⟨p3,0,none⟩=some (.int .i64 c))
  (hstep: ∀j,j<s.mem.cardLen k c-> ∀A,Inv j A->FC Tryz.prog yield #[.int .u64 (s.mem.get (k*64+c*16+j))] A (λv A'=>v=.bool true/\Inv (j+1) A'))
  (hend: ∀A,Inv (s.mem.cardLen k c) A->R0 A):
  cK.C yield (some ⟨p1,0,none⟩) (some ⟨p2,0,none⟩) (some ⟨p3,0,none⟩) H (λv A=>v=.tuple #[]/\R0 A):=by
 refine HC.via λR hR=>cK.link ?_
 unfold cK.pt zY
 have hlim:=ok.mem.lim
 have k0:=hk.1
 have k1:=hk.2.1
 refine⟨λi A=> ∃j:Nat,i=j/\j<=s.mem.cardLen k c/\Inv j A,λi _=>(16-i).toNat,⟨0,rfl,Nat.zero_le _,h0⟩,?_⟩
 rintro i A ⟨j,rfl,hj,hI⟩
 have hlen:s.mem.cardLen k c<=16:=by unfold Mem.cardLen;omega
 by_cases hlt:(j:Int)<16
 ·rw[if_pos hlt]
  obtain⟨hsp,q1,q2,q3,q4⟩:=hst j A hI
  refine⟨_,rfl,_,q2,_,rfl,_,q1,_,rfl,_,hsp.memPtr,_,rfl,_,q3,_,rfl,_,q4,?_⟩
  rw[w64 (n:=k*64) (by omega),w64 (n:=c*16) (by omega),w64 (n:=k*64+c*16) (by omega),w64 (n:=k*64+c*16+j) (by omega)]
  refine HC.mono (eX hsp.mem ok.mem (by omega)) ?_
  rintro _ A1 ⟨rfl,rfl⟩
  have e1:(k*64+c*16+j) / 64=k:=by omega
  have e2:(k*64+c*16+(j:Int)) % 64=c*16+j:=by omega
  by_cases hu:s.mem.used (k*64+c*16+j)
  ·rw[if_pos hu]
   refine⟨_,_,rfl,?_⟩
   rw[if_pos rfl]
   have hjl:j<s.mem.cardLen k c:=by
    have h3:=hu.2.2
    rw[e1,e2]at h3
    unfold Mem.cardLen;omega
   refine(hstep j hjl A1 hI).mono ?_
   rintro v A2 ⟨rfl,hI2⟩
   refine⟨true,rfl,?_⟩
   rw[if_pos rfl,w64 (n:=(j:Int)+1) (by omega)]
   exact⟨⟨j+1,by omega,by omega,hI2⟩,by show(16-((j:Int)+1)).toNat< (16-(j:Int)).toNat;omega⟩
  ·rw[if_neg hu]
   refine⟨_,_,rfl,?_⟩
   rw[if_neg (by decide)]
   have hjl:j=s.mem.cardLen k c:=by
    rcases Nat.lt_or_ge j (s.mem.cardLen k c)with h | h
    ·refine absurd ⟨by omega,by rw[e1];exact hk,?_⟩ hu
     rw[e1,e2]
     unfold Mem.cardLen at h;omega
    ·omega
   exact hR _ _ ⟨rfl,hend _ (hjl▸hI)⟩
 ·rw[if_neg hlt]
  have hjl:j=s.mem.cardLen k c:=by omega
  exact hR _ _ ⟨rfl,hend _ (hjl▸hI)⟩
set_option maxRecDepth 100000 in
theorem kV{H:zV}{b:Blk}{s:Sp}{k c:Int}(h:CdAt H b s)(ok:SpOK s)(hlt: ∀i,i∈[b.c,b.sp,b.m,b.s]->i<H.size):
  cS.C (some ⟨b.c,0,none⟩) k c H (λv H'=>(∃e:Int,v=.int .i64 e)/\CdAt H' b {s with mem:=s.mem.again k c}/\Fr [b.m,b.s] H H'):=by
 refine HC.via λR hR=>cS.link ?_
 unfold cS.pt
 intro c1 H1 hc1 hH1
 have e1:Ext H H1:=Ext.push' hH1
 have g1:=aL hc1 hH1
 refine⟨_,by rw[aM g1];rfl,?_⟩
 have h1:=h.ext e1
 have z1:H1.size=H.size+1:=by rw[hH1];simp
 refine HC.mono (gq h1) ?_
 rintro _ H2 ⟨rfl,rfl⟩
 refine⟨_,rfl,?_⟩
 rw[if_neg (by decide)]
 refine⟨_,by rw[aM g1];rfl,_,rfl,_,h1.cPtr,_,rfl,_,h1.sp.memPtr,?_⟩
 refine HC.mono (eO h1.sp.mem) ?_
 rintro _ H3 ⟨rfl,e3⟩
 refine⟨_,_,_,_,_,_,_,_,rfl,λc4 H4 hc4 hH4=>?_⟩
 obtain⟨hcp,hs⟩:=fK (s.mem.segOr k) hc4 hH4
 refine⟨hcp,λH5 hH5=>?_⟩
 obtain⟨e5,_,_,_,hr5⟩:=hs H5 hH5
 have c4lt:c4<H5.size:=by
  have h4:H4.size=H3.size+1:=by rw[hH4];simp
  rw[hH5,cP _ _ _ _ _ (aL hc4 hH4)];simp[h4];omega
 have e15:=(e1.trans e3).trans e5
 have h5:=h.ext e15
 have z3:=e3.size
 by_cases hk:s.mem.has k
 case neg=>
  rw[if_neg (by simpa using hk)]
  have e:s.mem.again k c=s.mem:=by unfold Mem.again;rw[if_neg (λhh=>hk hh.1)]
  rw[e]at hR
  exact hR _ _ ⟨⟨_,rfl⟩,h5,e15.fr⟩
 rw[if_pos (zX hk)]
 by_cases hc:0<=c/\c<4
 case neg=>
  rw[if_pos (by simp only[Bool.or_eq_true,decide_eq_true_eq];omega)]
  have e:s.mem.again k c=s.mem:=by unfold Mem.again;rw[if_neg (λhh=>hc hh.2)]
  rw[e]at hR
  exact hR _ _ ⟨⟨_,rfl⟩,h5,e15.fr⟩
 rw[if_neg (by simp only[Bool.or_eq_true,decide_eq_true_eq];omega)]
 have hsg:s.mem.segOr k=s.mem.seg k.toNat:=by unfold Mem.segOr;rw[if_pos hk]
 rw[hsg]at hr5
 intro c6 H6 hc6 hH6
 have e6:Ext H5 H6:=Ext.push' hH6
 have g6:=aL hc6 hH6
 obtain⟨hcp6,hs6⟩:=iG (vs:=[.int .i64 5]) g6 rfl rfl
 refine⟨hcp6,λH7 hH7=>?_⟩
 obtain⟨g7,f7⟩:=hs6 H7 hH7
 have z5:=e5.size
 have e7:Ext H5 H7:=e6.fr_trans f7 (λi hi=>by simp at hi;omega)
 have g17:H7[c1]?=some (.cells #[.pointer (some ⟨b.c,0,none⟩)] 53 (0,0)):=e7.get (e5.get (e3.get g1))
 refine⟨_,by rw[aM g17];rfl,?_⟩
 refine dh.link ?_
 unfold dh.pt
 intro d1 W1 hd1 hW1 d2 W2 hd2 hW2 d3 W3 hd3 hW3
 have w1:Ext H7 W1:=Ext.push' hW1
 have w2:Ext W1 W2:=Ext.push' hW2
 have w3:Ext W2 W3:=Ext.push' hW3
 have y7:H7.size=H5.size+1:=by
  have:=f7.size
  have h6:H6.size=H5.size+1:=by rw[hH6];simp
  rw[hH7,cP _ _ _ _ _ g6];simp[h6]
 have y1:W1.size=H7.size+1:=by rw[hW1];simp
 have y2:W2.size=W1.size+1:=by rw[hW2];simp
 have y3:W3.size=W2.size+1:=by rw[hW3];simp
 have gd1:W3[d1]?=some (.cells #[.pointer (some ⟨b.c,0,none⟩)] 53 (0,0)):=w3.get (w2.get (aL hd1 hW1))
 have gd2:W3[d2]?=some (.cells #[.int .i64 k] 3 (0,0)):=w3.get (aL hd2 hW2)
 have gd3:W3[d3]?=some (.cells #[.int .i64 c] 3 (0,0)):=aL hd3 hW3
 have w13:=(w1.trans w2).trans w3
 refine⟨rfl,?_⟩
 intro rc lp H9 hlp hH9 vY hY
 have e9:Ext W3 H9:=(Ext.push' rfl).trans (Ext.push' hH9)
 have gdef:H9[W3.size]?=some (.deferred (some [])):=by
  have:(W3.push (.deferred (some [])))[W3.size]?=some (.deferred (some [])):=aL rfl rfl
  exact(Ext.push' hH9).get this
 have glp:H9[lp]?=some (rc .ready none):=aL (by simp;omega) hH9
 have e59:Ext H5 H9:=(e7.trans w13).trans e9
 have h9:=h5.ext e59
 have lts: ∀i,i∈[b.c,b.sp,b.m,b.s]->i<H.size:=hlt
 have z15:=e15.size
 refine FE.of2 (enters_of Tryz.func113 (by kernel_rfl) rfl) rfl (HC.mono (ji (b:=b) (s:=s) (p1:=d1) (p2:=d2) (p3:=d3) (k:=k) (c:=c)
  (λj A=>Fr [lp,c6] H9 A/\A[lp]?=some (rc .ready none)/\A[c6]?=some (.cells #[.int .i64 (s.mem.markOf k c j)] 3 (0,0))) ok hk hc
  ⟨Fr.refl _ _,glp,by rw[show s.mem.markOf k c 0=5 from rfl];exact e9.get (w13.get g7)⟩
  (λj A hI=>?_) (λj hj A hI=>?_) (R0:=λA=>Fr [lp,c6] H9 A/\A[lp]?=some (rc .ready none)/\A[c6]?=some (.cells #[.int .i64 (s.mem.markOf k c (s.mem.cardLen k c))] 3 (0,0))) (λA hI=>hI)) ?_)
 ·obtain⟨f,_,_⟩:=hI
  have hA:=h9.keep f (by have:=lts b.c (by simp);simp;omega) (by have:=lts b.sp (by simp);simp;omega) (by have:=lts b.m (by simp);simp;omega) (by have:=lts b.s (by simp);simp;omega)
  refine⟨hA.sp,hA.cPtr,?_,?_,?_⟩
  ·rw[aM (f.get (by simp;omega) (e9.get gd1))];rfl
  ·rw[aM (f.get (by simp;omega) (e9.get gd2))];rfl
  ·rw[aM (f.get (by simp;omega) (e9.get gd3))];rfl
 ·obtain⟨f,ql,qm⟩:=hI
  refine(hY _ A _ ql ⟨ql,λH11 hH11=>?_⟩)
  have f11:Fr [lp] A H11:=by rw[hH11];exact Fr.set
  have fA:Fr [lp,c6] H9 H11:=f.trans (f11.mono (λi hi _=>by simp at hi;simp[hi]))
  have ql11:H11[lp]?=some (rc .busy none):=by rw[hH11];exact bA (bH ql)
  have qm11:=f11.get (by simp;omega) qm
  have hA:=h9.keep fA (by have:=lts b.c (by simp);simp;omega) (by have:=lts b.sp (by simp);simp;omega) (by have:=lts b.m (by simp);simp;omega) (by have:=lts b.s (by simp);simp;omega)
  have hrA:=fA.rowAt (a:=⟨c4,0,none⟩) (by show c4 ∉ [lp,c6];simp;omega) (e59.rowAt hr5)
  refine⟨_,by rw[aM (fA.get (by simp;omega) ((e7.trans (w13.trans e9)).get (e5.get (e3.get g1))))];rfl,_,_,_,_,_,_,_,hrA,_,by rw[aM qm11];rfl,?_⟩
  refine HC.mono (gY hA ((ok.mem.seg _).words _)) ?_
  rintro _ H12 ⟨rfl,e12⟩
  refine⟨_,rfl,?_⟩
  obtain⟨hcpm,hsm⟩:=iG (vs:=[.int .i64 (s.mem.younger (s.mem.seg k.toNat) (s.mem.get (k*64+c*16+j)) (s.mem.markOf k c j))]) (e12.get qm11) rfl rfl
  refine⟨hcpm,λH13 hH13=>?_⟩
  obtain⟨g13,f13⟩:=hsm H13 hH13
  have ql13:=f13.get (by simp;omega) (e12.get ql11)
  refine⟨ql13,rfl,?_,bA (bH ql13),?_⟩
  ·exact((fA.trans e12.fr).trans (f13.mono (λi hi _=>by simp at hi;simp[hi]))).trans (Fr.set.mono (λi hi _=>by simp at hi;simp[hi]))
  ·rw[Mem.markOf_succ,eu (by omega)];exact g13
 ·rintro _ H14 ⟨rfl,f14,ql14,qm14⟩
  refine⟨ql14,λH15 hH15=>?_⟩
  have f15:Fr [lp] H14 H15:=by rw[hH15];exact Fr.set
  have fA:Fr [lp,c6] H9 H15:=f14.trans (f15.mono (λi hi _=>by simp at hi;simp[hi]))
  have hA:=h9.keep fA (by have:=lts b.c (by simp);simp;omega) (by have:=lts b.sp (by simp);simp;omega) (by have:=lts b.m (by simp);simp;omega) (by have:=lts b.s (by simp);simp;omega)
  have qm15:=f15.get (by simp;omega) qm14
  refine⟨_,by rw[aM (fA.get (by simp;omega) ((e7.trans (w13.trans e9)).get (e5.get (e3.get g1))))];rfl,_,rfl,_,hA.cPtr,_,rfl,_,hA.sp.memPtr,_,by rw[aM qm15];rfl,?_⟩
  refine HC.mono (jJ hA.sp.mem) ?_
  rintro _ H16 ⟨rfl,m16,f16⟩
  refine⟨_,rfl,?_⟩
  have e:s.mem.again k c=(s.mem.mark k c (s.mem.markOf k c (s.mem.cardLen k c))).1:=by unfold Mem.again;rw[if_pos ⟨hk,hc⟩]
  have cd16:=hA.withMem (S:=[b.s]) f16 (λi hi=>by simp at hi;simp[hi]) m16
  have gd16:H16[W3.size]?=some (.deferred (some [])):=f16.get (by have:=lts b.s (by simp);simp;omega) (fA.get (by simp;omega) gdef)
  refine⟨gd16,?_⟩
  have f17:Fr [W3.size] H16 (H16.setIfInBounds W3.size (.deferred none)):=Fr.set
  rw[e]at hR
  refine hR _ _ ⟨⟨_,rfl⟩,cd16.keep f17 (by have:=lts b.c (by simp);simp;omega) (by have:=lts b.sp (by simp);simp;omega) (by have:=lts b.m (by simp);simp;omega) (by have:=lts b.s (by simp);simp;omega),?_⟩
  have eH9:Ext H H9:=e15.trans e59
  have f1:Ext H H15:=eH9.fr_trans fA (λi hi=>by simp at hi;omega)
  refine(f1.fr.trans (f16.mono (λi hi _=>by simp at hi;simp[hi]))).trans' f17 (λi hi _=>hi) (λi hi hl=>by simp at hi;omega)

def Sp.gives(s:Sp)(old:Nat->Bool):Nat->Sp
 | 0=>s
 | n+1=>if old n then(s.gives old n).give n else s.gives old n
def Sp.agains(s:Sp)(l:List (Int×Int)):Sp:=l.foldl (λs c=>{s with mem:=s.mem.again c.1 c.2}) s
def Sp.ended(s:Sp)(t:Tr):Sp:=(s.gives t.old 1024).agains t.cards
theorem Sp.agains_snoc(s:Sp)(l:List (Int×Int))(c:Int×Int):s.agains (l++[c])={s.agains l with mem:=(s.agains l).mem.again c.1 c.2}:=by
 unfold Sp.agains;rw[List.foldl_append];rfl
theorem Sp.gives_ok{s:Sp}(ok:SpOK s)(old:Nat->Bool): ∀n,SpOK (s.gives old n)
 | 0=>ok
 | n+1=>by
  unfold Sp.gives
  split
  ·exact Sp.give_ok (Sp.gives_ok ok old n) _
  ·exact Sp.gives_ok ok old n
theorem Mem.give_even{m:Mem}(he:m.Even)(k:Int):(m.give k).Even:=by
 unfold Mem.give
 split
 ·intro i hi
  rw[Mem.upd_seg]at hi⊢
  split
  ·rfl
  ·rename_i h;rw[if_neg h]at hi;exact he i hi
 ·exact he
theorem Sp.give_even{s:Sp}(he:s.mem.Even)(k:Int):(s.give k).mem.Even:=by
 unfold Sp.give
 split
 ·exact Mem.give_even he k
 ·exact he
theorem Sp.gives_even{s:Sp}(he:s.mem.Even)(old:Nat->Bool): ∀n,(s.gives old n).mem.Even
 | 0=>he
 | n+1=>by
  unfold Sp.gives
  split
  ·exact Sp.give_even (Sp.gives_even he old n) _
  ·exact Sp.gives_even he old n
theorem Mem.again_seg(m:Mem)(k c:Int):(m.again k c).limit=m.limit/\(m.again k c).free=m.free/\(m.again k c).count=m.count/\ ∀i,((m.again k c).seg i).gen=(m.seg i).gen/\((m.again k c).seg i).kind=(m.seg i).kind/\((m.again k c).seg i).n=(m.seg i).n/\((m.again k c).seg i).taken=(m.seg i).taken/\((m.again k c).seg i).words=(m.seg i).words:=by
 unfold Mem.again
 split
 ·unfold Mem.mark
  split
  ·exact⟨rfl,rfl,rfl,λi=>⟨rfl,rfl,rfl,rfl,rfl⟩⟩
  split
  ·exact⟨rfl,rfl,rfl,λi=>⟨rfl,rfl,rfl,rfl,rfl⟩⟩
  ·refine⟨rfl,rfl,rfl,λi=>?_⟩
   rw[Mem.upd_seg]
   split
   ·rename_i h;rw[h];exact⟨rfl,rfl,rfl,rfl,rfl⟩
   ·exact⟨rfl,rfl,rfl,rfl,rfl⟩
 ·exact⟨rfl,rfl,rfl,λi=>⟨rfl,rfl,rfl,rfl,rfl⟩⟩
theorem Mem.again_has(m:Mem)(k c:Int){i:Int}:(m.again k c).has i ↔ m.has i:=by
 obtain⟨h1,_,_,h2⟩:=m.again_seg k c
 unfold Mem.has;rw[h1,(h2 _).2.2.2.1]
theorem Mem.again_ok{m:Mem}(ok:bI m)(k c:Int):bI (m.again k c):=by
 unfold Mem.again
 split
 ·exact ok.mark _ _ _
 ·exact ok
theorem SpOK.again{s:Sp}(ok:SpOK s)(k c:Int):SpOK {s with mem:=s.mem.again k c}:=
 ok.withMem (Mem.again_ok ok.mem k c) (λi h=>(Mem.again_has _ _ _).2 h) (λi=>⟨((s.mem.again_seg k c).2.2.2 i).1,((s.mem.again_seg k c).2.2.2 i).2.1⟩)
theorem TrAt.putOver{H:zV}{b:Blk}{q:TB}{t:Tr}(h:TrAt H b q t):
  aK H ⟨q.t,1029,none⟩ 0 1/\Fr [q.t] H (aS H ⟨q.t,1029,none⟩ [.int .i64 1] 0)/\TrAt (aS H ⟨q.t,1029,none⟩ [.int .i64 1] 0) b q {t with over:=true}:=by
 obtain⟨p1,p2,cs,cs',p3,p4,p5,p6⟩:=h.put (o:=1029) (v:=.int .i64 1) (by omega)
 obtain⟨r1,r2,r3⟩:=h.rest p2
 refine⟨p1,p2,?_⟩
 obtain⟨cs0,h1,h2,h3,h4,h5,h6,h7,h8,h9⟩:=h.tr
 rw[p3]at h1;cases h1
 exact⟨⟨cs',p4,by omega,by rw[p6,if_neg (by omega)];exact h3,by rw[p6,if_neg (by omega)];exact h4,λi hi=>by rw[p6,if_neg (by omega)];exact h5 i hi,by rw[p6,if_neg (by omega)];exact h6,by rw[p6,if_neg (by omega)];exact h7,by rw[p6,if_neg (by omega)];exact h8,by rw[p6,if_pos rfl];rfl⟩,r1,r2,r3,λa ha=>Nat.lt_of_lt_of_le (h.cB a ha) p2.size,h.clen,h.ne⟩
set_option maxRecDepth 100000 in
theorem nH{H:zV}{b:Blk}{x:Hp}{q:TB}{t:Tr}{R:zj}(T:Tg H b x q t)
  (hR: ∀v H',HpAt H' b {x with sp:=x.sp.ended t,ep:=IntKind.wrap .u64 (x.ep+1)}/\TrAt H' b q {t with over:=true}/\Fr (b.h::q.t::spB b) H H'->R v H'):cM.pt (some ⟨q.t,0,none⟩) H R:=by
 unfold cM.pt zY
 refine HC.mono (fZ T.toTc) ?_
 rintro _ H1 ⟨rfl,rfl⟩
 refine⟨_,rfl,?_⟩
 rw[if_neg (by rw[T.on];decide)]
 have hold:aT H1 ⟨q.t,2,none⟩ 0 ((List.range 1024).map λk=> .int .i64 (if t.old k then 1 else 0)):=by
  obtain⟨cs,h1,_,_,_,h5,_⟩:=T.tr.tr
  refine fd h1 _ 2 0 (λj hj=>?_)
  simp only[List.length_map,List.length_range]at hj
  rw[Nat.add_zero,h5 j hj,List.getElem?_map,List.getElem?_range hj];rfl
 refine⟨_,rfl,(List.range 1024).map (λk=> .int .i64 (if t.old k then 1 else 0)),by rw[List.length_map,List.length_range],by rw[addr_add_mk];exact hold,?_⟩
 refine⟨λi A=>(0<=i/\i<=1024)/\Tc A b {x with sp:=x.sp.gives t.old i.toNat} q t/\Fr (spB b) H1 A,λi _=>(1024-i).toNat,⟨by omega,T.toTc,Fr.refl _ _⟩,?_⟩
 rintro i H2 ⟨hi,T2,f2⟩
 by_cases hlt:i<1024
 ·rw[if_pos hlt]
  have hin:i.toNat<1024:=by omega
  have hd:(1024-(i+1)).toNat< (1024-i).toNat:=by omega
  have hw:IntKind.wrap .i64 (i+1)=i+1:=w64 (by omega)
  have hs1:(i+1).toNat=i.toNat+1:=by omega
  refine⟨(if t.old i.toNat then 1 else 0),⟨⟨hi.1,hlt⟩,?_⟩,?_⟩
  ·rw[List.getElem?_toArray,List.getElem?_map,List.getElem?_range hin];rfl
  by_cases ho:t.old i.toNat=true
  ·rw[if_pos (by rw[if_pos ho])]
   obtain⟨p1,p2,p3,p4⟩:=T2.s1
   refine⟨_,p1,_,rfl,_,p2,_,rfl,_,p3,?_⟩
   refine HC.mono (kU T2.hp.cd.sp T2.ok (by omega)) ?_
   rintro _ H3 ⟨⟨e,rfl⟩,sp3,f3⟩
   rw[hw]
   refine⟨_,rfl,⟨by omega,?_,f2.trans f3⟩,hd⟩
   have es:x.sp.gives t.old (i+1).toNat=(x.sp.gives t.old i.toNat).give i:=by rw[hs1];show(if _ then _ else _)=_;rw[if_pos ho,show((i.toNat:Nat):Int)=i by omega]
   rw[es]
   exact T2.step f3 (λj hj=>fj hj) (T2.hp.withSp f3 (λj hj=>by simp at hj;omega) sp3) (Sp.give_ok T2.ok i)
  ·rw[if_neg (by rw[if_neg ho];decide),hw]
   refine⟨⟨by omega,?_,f2⟩,hd⟩
   have es:x.sp.gives t.old (i+1).toNat=x.sp.gives t.old i.toNat:=by rw[hs1];show(if _ then _ else _)=_;rw[if_neg ho]
   rw[es];exact T2
 rw[if_neg hlt]
 have hi24:i.toNat=1024:=by omega
 rw[hi24]at T2
 have ev2:=Sp.gives_even T.even t.old 1024
 refine⟨_,_,_,by rw[addr_add_mk];exact T2.tr.cAt,?_⟩
 obtain⟨hcl,hcm⟩:=T.tr.clen
 refine⟨λi A=>(0<=i/\i<=q.cN)/\Tc A b {x with sp:=(x.sp.gives t.old 1024).agains (t.cards.take i.toNat)} q t/\Fr (spB b) H1 A,λi _=>(q.cN-i).toNat,⟨by omega,T2,f2⟩,?_⟩
 rintro i H4 ⟨hi4,T4,f4⟩
 by_cases hl4:i< (q.cN:Int)
 ·rw[if_pos hl4]
  have hil:i.toNat<t.cards.length:=by omega
  obtain⟨ca,hca,hrow⟩:=ln T4.tr.cards hil
  have hd:((q.cN:Int)-(i+1)).toNat< ((q.cN:Int)-i).toNat:=by omega
  generalize hcd:t.cards[i.toNat]=cd at*
  refine⟨ca,hca,⟨hi4.1,hl4⟩,cd.1,cd.2,hrow,λc5 H5 hc5 hH5=>?_⟩
  obtain⟨hcp,hs⟩:=boxed (vs:=[.int .i64 cd.1,.int .i64 cd.2]) (H1:=H5) (aL hc5 hH5) rfl rfl
  refine⟨hcp,λH6 hH6=>?_⟩
  obtain⟨hr6,hE6⟩:=hs H6 hH6
  have e46:Ext H4 H6:=hE6 H4 (Ext.push' hH5) (by omega)
  have T6:=T4.ext e46
  obtain⟨p1,p2,p3,p4⟩:=T6.s1
  refine⟨_,p1,_,rfl,_,p2,_,hr6.1,_,by rw[addr_add_mk];exact hr6.2.1,?_⟩
  refine HC.mono (kV T6.hp.cd T6.ok (λj hj=>T6.hp.lt j (by simp at hj;simp[Blk.all];omega))) ?_
  rintro _ H7 ⟨⟨e,rfl⟩,cd7,f7⟩
  rw[w64 (n:=i+1) (by omega)]
  refine⟨_,rfl,⟨by omega,?_,f4.trans (e46.fr.trans (f7.mono (λj hj _=>by simp at hj;simp[spB];omega)))⟩,hd⟩
  have et:t.cards.take (i+1).toNat=t.cards.take i.toNat++[cd]:=by
   rw[show(i+1).toNat=i.toNat+1 by omega,List.take_succ_eq_append_getElem hil,hcd]
  rw[et,Sp.agains_snoc]
  exact T6.step f7 (λj hj=>by simp at hj;simp[Blk.all];omega) (T6.hp.withCd f7 (λj hj=>by simp at hj;omega) cd7) (T6.ok.again cd.1 cd.2)
 rw[if_neg hl4]
 rw[List.take_of_length_le (by omega)]at T4
 refine⟨_,T4.tr.hPtr,?_⟩
 refine HC.mono (l6 T4.view) ?_
 rintro _ H8 ⟨V8,f8⟩
 have hnh: ∀j∈hown (some (b,x)),j ∉ q.all:=λj hj hq=>T.apart j hq (by simp[hown]at hj;simp[Blk.all,hj])
 have tr8:=T4.tr.keep f8 (λj hj=>hnh j hj)
 obtain⟨_,hp8,ok8⟩:=View.inv V8
 have hput:=tr8.putOver
 rw[addr_add_mk]
 refine⟨hput.1,λH9 hH9=>?_⟩
 rw[show(0:Nat)+1029=1029 from rfl]at hH9
 subst hH9
 refine hR _ _ ⟨hp8.keep hput.2.1 (λj hj hb=>T.apart q.t (by simp[TB.all]) (by simp at hj;rw[<-hj];exact hb)),hput.2.2,?_⟩
 refine((f4.mono (λj hj _=>by simp[hj])).trans (f8.mono (λj hj _=>by simp[hown]at hj;simp[hj]))).trans (hput.2.1.mono (λj hj _=>by simp at hj;simp[hj]))

theorem nI{H:zV}{b:Blk}{x:Hp}{q:TB}{t:Tr}(T:Tg H b x q t):
  cM.C (some ⟨q.t,0,none⟩) H (λ_ H'=>HpAt H' b {x with sp:=x.sp.ended t,ep:=IntKind.wrap .u64 (x.ep+1)}/\TrAt H' b q {t with over:=true}/\Fr (b.h::q.t::spB b) H H'):=
 HC.via λR hR=>cM.link (nH T hR)

def dW(lo hi:Int):Nat:=((hi-lo+1) / 2).toNat
def eU(k lo:Int)(n:Nat):List Int:=(List.range n).map λj:Nat=>k*64+(lo+2*(j:Int))
theorem kW(k lo:Int)(n:Nat):eU k lo (n+1)=eU k lo n++[k*64+(lo+2*(n:Int))]:=by
 unfold eU;rw[List.range_succ,List.map_append];rfl
theorem gt(k lo:Int)(n:Nat):(eU k lo n).length=n:=by simp[eU]
def Mem.weakSeg(m:Mem)(t:Tr)(k:Nat):List Int:=if(m.seg k).kind=1/\t.old k=false then eU k (seenAt t.frm k) (dW (seenAt t.frm k) (m.seg k).n)else[]
def Mem.weakCard(m:Mem)(c:Int×Int):List Int:=if(m.segOr c.1).kind=1 then eU c.1 (c.2*16) (dW (c.2*16) (min (m.segOr c.1).n ((c.2+1)*16)))else[]
def Mem.weaks(m:Mem)(t:Tr)(l:List Nat):List Int:=l.flatMap (m.weakSeg t)++t.cards.flatMap m.weakCard
set_option maxRecDepth 100000 in
theorem jd{H:zV}{k lo hi:Int}{c n cc:Nat}{B:zW}{ws:List Int}(hk:0<=k/\k<1024)(hl:0<=lo/\lo<=64)(hh:hi<=64)(hc:H[c]?=some (.cells #[.slice B n cc] 79 (0,0)))(how:Own H 3 1 B n cc (ivs ws))(hcB:c ∉ blks B)(hn:n<=1000000)(hnw:n=ws.length):
  bD.C k lo hi (some ⟨c,0,none⟩) H (λ_ H'=> ∃(B':zW) (cc':Nat),H'[c]?=some (.cells #[.slice B' (n+dW lo hi) cc'] 79 (0,0))/\Own H' 3 1 B' (n+dW lo hi) cc' (ivs (ws++eU k lo (dW lo hi)))/\Fr (c::blks B) H H'/\(∀j∈blks B',j∈blks B\/H.size<=j)):=by
 refine HC.via λR hR=>bD.link ?_
 unfold bD.pt zY
 have wl:dW lo hi<=33:=by unfold dW;omega
 have hcl:=bH hc
 refine⟨λi A=> ∃(j:Nat) (B':zW) (cc':Nat),i=lo+2*(j:Int)/\j<=dW lo hi/\A[c]?=some (.cells #[.slice B' (n+j) cc'] 79 (0,0))/\Own A 3 1 B' (n+j) cc' (ivs (ws++eU k lo j))/\Fr (c::blks B) H A/\(∀j∈blks B',j∈blks B\/H.size<=j),λi _=>(100-i).toNat,
  ⟨0,B,cc,by omega,by omega,hc,by simpa[eU]using how,Fr.refl _ _,λj hj=> .inl hj⟩,?_⟩
 rintro i A ⟨j,B',cc',rfl,hj,hcA,howA,fA,hB'⟩
 by_cases hlt:lo+2*(j:Int)<hi
 ·rw[if_pos hlt]
  have hjl:j+1<=dW lo hi:=by unfold dW;omega
  refine⟨_,rfl,_,_,_,by rw[aM hcA];rfl,?_⟩
  rw[w64 (n:=k*64) (by omega),w64 (n:=k*64+(lo+2*(j:Int))) (by omega),w64 (n:=lo+2*(j:Int)+2) (by omega)]
  intro c2 H2 hc2 hH2
  have e2:Ext A H2:=Ext.push' hH2
  refine ft (ys:=[.int .i64 (k*64+(lo+2*(j:Int)))]) (howA.ext e2) (fd (aL hc2 hH2) _ 0 0 (λj hj=>by
   simp only[List.length_cons,List.length_nil]at hj
   obtain rfl:j=0:=by omega
   rfl)) rfl rfl rfl (by omega) ?_
  intro p' c' H3 how3 f3 hn3
  have hcB':c ∉ blks B':=λh=>by
   rcases hB' c h with q | q
   ·exact hcB q
   ·omega
  have hc3:=f3.get hcB' (e2.get hcA)
  obtain⟨hcp,hs⟩:=iG (vs:=[.slice p' (n+j+1) c']) hc3 rfl rfl
  refine⟨hcp,λH4 hH4=>?_⟩
  obtain⟨g4,f4⟩:=hs H4 hH4
  have hp'c: ∀i∈blks p',i∈blks B'\/A.size<=i:=λi hi=>by
   rcases hn3 i hi with q | q
   ·exact .inl q
   ·have:=e2.size;exact .inr (by omega)
  have hcA':c<A.size:=by have:=fA.size;omega
  have how4:=how3.keep f4 (λi hi hm=>by
   simp at hm
   rcases hp'c i hi with q | q
   ·exact hcB' (hm▸q)
   ·omega)
  have zA:=fA.size
  refine⟨⟨j+1,p',c',by omega,hjl,g4,?_,?_,λi hi=>?_⟩,by show(100-(lo+2*(j:Int)+2)).toNat< (100-(lo+2*(j:Int))).toNat;omega⟩
  ·rw[kW,<-List.append_assoc]
   unfold ivs at how4⊢
   rw[List.map_append];exact how4
  ·refine((fA.trans e2.fr).trans' f3 (λi hi _=>hi) (λi hi hl=>?_)).trans (f4.mono (λi hi _=>by simp at hi;simp[hi]))
   rcases hB' i hi with q | q
   ·exact List.mem_cons_of_mem _ q
   ·omega
  ·rcases hp'c i hi with q | q
   ·exact hB' i q
   ·exact .inr (by omega)
 ·rw[if_neg hlt]
  have hjl:j=dW lo hi:=by unfold dW at*;omega
  subst hjl
  exact hR _ _ ⟨B',cc',hcA,howA,fA,hB'⟩

theorem Mem.weakSeg_len{m:Mem}(ok:bI m){t:Tr}(hf:ej t.frm)(k:Nat):(m.weakSeg t k).length<=33:=by
 unfold Mem.weakSeg
 split
 ·rw[gt]
  obtain⟨_,h1,h2⟩:=hM hf (k:Int)
  have:=(ok.seg k).n
  unfold dW;omega
 ·exact Nat.zero_le _
theorem Mem.weakCard_len{m:Mem}(ok:bI m){c:Int×Int}(hc:0<=c.2):(m.weakCard c).length<=33:=by
 unfold Mem.weakCard
 split
 ·rw[gt]
  have:=(lq ok c.1).n
  unfold dW;omega
 ·exact Nat.zero_le _
theorem gO{α β:Type}{f:α->List β}{n:Nat}: ∀l:List α,(∀a∈l,(f a).length<=n)->(l.flatMap f).length<=n*l.length
 | [],_=>by simp
 | a::l,h=>by
  have h1:=h a (by simp)
  have h2:=gO l (λb hb=>h b (by simp[hb]))
  rw[List.flatMap_cons,List.length_append,List.length_cons,Nat.mul_succ];omega
set_option maxRecDepth 100000 in
theorem mc{H:zV}{b:Blk}{x:Hp}{q:TB}{t:Tr}(T:Tg H b x q t)(hf:ej t.frm)(hcs:jr t.cards):
  cG.C (some ⟨q.t,0,none⟩) H (λv H'=> ∃(l:List Nat) (B:zW) (n c:Nat),dP x.sp.mem [t.tgt] l/\v=.slice B n c/\n=(x.sp.mem.weaks t l).length/\Own H' 3 1 B n c (ivs (x.sp.mem.weaks t l))/\(∀j∈blks B,H.size<=j)/\n<=300000/\Ext H H'):=by
 refine HC.via λR hR=>cG.link ?_
 unfold cG.pt zY
 refine HC.mono (fZ T.toTc) ?_
 rintro _ H1 ⟨rfl,rfl⟩
 refine⟨_,rfl,?_⟩
 rw[if_neg (by rw[T.on];decide)]
 intro c2 H2 hc2 hH2
 have e2:Ext H1 H2:=Ext.push' hH2
 have g2:=aL hc2 hH2
 have z2:H2.size=H1.size+1:=by rw[hH2];simp
 have T2:=T.grow e2
 obtain⟨p1,p2,p3,p4⟩:=T2.s1
 refine⟨_,rfl,_,p1,_,rfl,_,p2,_,rfl,_,p3,_,rfl,_,p4,_,by rw[addr_add_mk];exact T2.tr.tgtAt,?_⟩
 intro c3 H3 hc3 hH3
 have e3:Ext H2 H3:=Ext.push' hH3
 have g3:=aL hc3 hH3
 have z3:H3.size=H2.size+1:=by rw[hH3];simp
 have T3:=T2.grow e3
 refine⟨row1 (e3.hat p1),row1 (e3.hat p2),row1 (e3.hat p3),row1 (e3.hat p4),?_⟩
 refine HC.mono (fR (gs:=[t.tgt]) T3.hp.cd.sp.mem T3.ok.mem (show dd H3 (some ⟨c3,0,none⟩) (ivs [t.tgt])from row1 (by rw[aM g3];rfl)) rfl (by decide)) ?_
 rintro _ H4 ⟨wB,wC,l,rfl,hl,howl,hfl,e4⟩
 refine⟨_,_,_,rfl,?_⟩
 have hllen:=hl.len
 have hlim:=T.ok.mem.lim
 have e14:=(e2.trans e3).trans e4
 have z4:=e4.size
 have okm:=T.ok.mem
 refine⟨λi A=>(0<=i/\i<=l.length)/\ ∃(B:zW) (c:Nat),A[c2]?=some (.cells #[.slice B ((l.take i.toNat).flatMap (x.sp.mem.weakSeg t)).length c] 79 (0,0))/\Own A 3 1 B ((l.take i.toNat).flatMap (x.sp.mem.weakSeg t)).length c (ivs ((l.take i.toNat).flatMap (x.sp.mem.weakSeg t)))/\Ext H1 A/\Own A 3 1 wB l.length wC (ivs (l.map λi:Nat=>(i:Int)))/\(∀j∈blks B,H2.size<=j/\j ∉ blks wB)/\H4.size<=A.size,λi _=>(l.length-i).toNat,
  ⟨⟨by omega,by omega⟩,none,0,(e3.trans e4).get g2,gJ,e14,howl,by simp,Nat.le_refl _⟩,?_⟩
 rintro i H5 ⟨hi,B,cB,gB,howB,e5,howl5,hB,z5⟩
 have hwBlt: ∀j∈blks wB,H3.size<=j/\j<H4.size:=λj hj=>⟨hfl j hj,howl.lt j hj⟩
 by_cases hlt:i< (l.length:Int)
 ·rw[if_pos hlt]
  have hil:i.toNat<l.length:=by omega
  obtain⟨a,ha,hata⟩:=jO howl5 hil
  obtain⟨khas,klim,kpos,_⟩:=hl.has (List.getElem_mem hil)
  have htk:l.take (i+1).toNat=l.take i.toNat++[l[i.toNat]]:=by rw[show(i+1).toNat=i.toNat+1 by omega,List.take_succ_eq_append_getElem hil]
  have hlen:=gO (f:=x.sp.mem.weakSeg t) (n:=33) (l.take i.toNat) (λk _=>Mem.weakSeg_len okm hf k)
  have hlen2:(l.take i.toNat).length<=1024:=by rw[List.length_take];omega
  generalize hk:l[i.toNat]=k at*
  have hd:((l.length:Int)-(i+1)).toNat< ((l.length:Int)-i).toNat:=by omega
  have hw:IntKind.wrap .i64 (i+1)=i+1:=w64 (by omega)
  have hfm:(l.take (i+1).toNat).flatMap (x.sp.mem.weakSeg t)=(l.take i.toNat).flatMap (x.sp.mem.weakSeg t)++x.sp.mem.weakSeg t k:=by rw[htk,List.flatMap_append];simp
  have T5:=T.grow e5
  obtain⟨p1,p2,p3,p4⟩:=T5.s1
  refine⟨a,ha,⟨hi.1,hlt⟩,_,hata,_,p1,_,rfl,_,p2,_,rfl,_,p3,_,rfl,_,p4,?_⟩
  refine HC.mono (eO T5.hp.cd.sp.mem) ?_
  rintro _ H6 ⟨rfl,e6⟩
  have hsg:x.sp.mem.segOr k=x.sp.mem.seg k:=by unfold Mem.segOr;rw[if_pos khas,show((k:Nat):Int).toNat=k by omega]
  rw[hsg]
  refine⟨_,_,_,_,_,_,_,_,rfl,λc7 H7 hc7 hH7=>?_⟩
  obtain⟨hcp,hs⟩:=fK (x.sp.mem.seg k) hc7 hH7
  refine⟨hcp,λH8 hH8=>?_⟩
  obtain⟨e8,_,g1,gn,_⟩:=hs H8 hH8
  have e58:=e6.trans e8
  have T8:=T5.grow e58
  have z8:=e58.size
  rw[hw]
  have skip:x.sp.mem.weakSeg t k=[]->(((0<=i+1/\i+1<=l.length)/\ ∃(B:zW) (c:Nat),H8[c2]?=some (.cells #[.slice B ((l.take (i+1).toNat).flatMap (x.sp.mem.weakSeg t)).length c] 79 (0,0))/\Own H8 3 1 B ((l.take (i+1).toNat).flatMap (x.sp.mem.weakSeg t)).length c (ivs ((l.take (i+1).toNat).flatMap (x.sp.mem.weakSeg t)))/\Ext H1 H8/\Own H8 3 1 wB l.length wC (ivs (l.map λi:Nat=>(i:Int)))/\(∀j∈blks B,H2.size<=j/\j ∉ blks wB)/\H4.size<=H8.size)/\((l.length:Int)-(i+1)).toNat< ((l.length:Int)-i).toNat):=λhz=>by
   rw[hfm,hz,List.append_nil]
   exact⟨⟨by omega,B,cB,e58.get gB,howB.ext e58,e5.trans e58,howl5.ext e58,hB,by omega⟩,hd⟩
  refine⟨_,by rw[addr_add_mk];exact g1,?_⟩
  by_cases hk1:(x.sp.mem.seg k).kind=1
  case neg=>rw[if_neg hk1];exact skip (by unfold Mem.weakSeg;rw[if_neg (λh=>hk1 h.1)])
  rw[if_pos hk1]
  refine⟨⟨by omega,by omega⟩,(if t.old k then 1 else 0),by rw[show((k:Nat):Int).toNat=k by omega,addr_add_mk,addr_add_mk,Nat.zero_add,Nat.mul_one];exact T8.tr.oldAt (by omega),?_⟩
  by_cases ho:t.old k=true
  ·rw[if_neg (by rw[if_pos ho];decide)];exact skip (by unfold Mem.weakSeg;rw[if_neg (λh=>by rw[ho]at h;cases h.2)])
  rw[if_pos (by rw[if_neg ho])]
  have ho':t.old k=false:=by simpa using ho
  obtain⟨es,cl,hes,hen⟩:=T8.tr.frm
  obtain⟨hget,hs0,hs64⟩:=hM hf (k:Int)
  have hn64:=(okm.seg k).n
  refine⟨_,by rw[addr_add_mk];exact T8.tr.fAt,_,by rw[addr_add_mk];exact gn,_,rfl,es,cl,_,hes,hen,_,hget,by rw[addr_add_mk];exact row1 gn,?_⟩
  have c2B:c2 ∉ blks B:=λh=>by have:=hB c2 h;omega
  refine HC.mono (jd (H:=H8) (c:=c2) (ws:=(l.take i.toNat).flatMap (x.sp.mem.weakSeg t)) (by omega) ⟨hs0,hs64⟩ hn64.2 (e58.get gB) (howB.ext e58) c2B (by omega) rfl) ?_
  rintro _ H9 ⟨B',c',g9,how9,f9,hB'⟩
  have hws:x.sp.mem.weakSeg t k=eU k (seenAt t.frm k) (dW (seenAt t.frm k) (x.sp.mem.seg k).n):=by unfold Mem.weakSeg;rw[if_pos ⟨hk1,ho'⟩]
  have hlen3:((l.take (i+1).toNat).flatMap (x.sp.mem.weakSeg t)).length=((l.take i.toNat).flatMap (x.sp.mem.weakSeg t)).length+dW (seenAt t.frm k) (x.sp.mem.seg k).n:=by rw[hfm,List.length_append,hws,gt]
  refine⟨⟨by omega,B',c',by rw[hlen3];exact g9,by rw[hlen3,hfm,hws];exact how9,(e5.trans e58).fr_trans f9 (λj hj=>?_),(howl5.ext e58).keep f9 (λj hj hm=>?_),λj hj=>?_,by have:=f9.size;omega⟩,hd⟩
  ·rcases List.mem_cons.1 hj with h | h
   ·omega
   ·have:=hB j h;omega
  ·rcases List.mem_cons.1 hm with h | h
   ·have:=hwBlt j hj;omega
   ·exact(hB j h).2 hj
  ·rcases hB' j hj with h | h
   ·exact hB j h
   ·exact⟨by omega,λhm=>by have:=hwBlt j hm;omega⟩
 rw[if_neg hlt]
 rw[List.take_of_length_le (by omega)]at gB howB
 have hlenA:=gO (f:=x.sp.mem.weakSeg t) (n:=33) l (λk _=>Mem.weakSeg_len okm hf k)
 have T5:=T.grow e5
 obtain⟨hcl,hcm⟩:=T.tr.clen
 refine⟨_,_,_,by rw[addr_add_mk];exact T5.tr.cAt,?_⟩
 generalize hW:l.flatMap (x.sp.mem.weakSeg t)=W at*
 refine⟨λi A=>(0<=i/\i<=q.cN)/\ ∃(B:zW) (c:Nat),A[c2]?=some (.cells #[.slice B (W++(t.cards.take i.toNat).flatMap x.sp.mem.weakCard).length c] 79 (0,0))/\Own A 3 1 B (W++(t.cards.take i.toNat).flatMap x.sp.mem.weakCard).length c (ivs (W++(t.cards.take i.toNat).flatMap x.sp.mem.weakCard))/\Ext H1 A/\(∀j∈blks B,H2.size<=j)/\H4.size<=A.size,λi _=>(q.cN-i).toNat,
  ⟨⟨by omega,by omega⟩,B,cB,by simpa using gB,by simpa using howB,e5,λj hj=>(hB j hj).1,z5⟩,?_⟩
 rintro i H10 ⟨hi2,B2,cB2,gB2,howB2,e10,hB2,z10⟩
 have T10:=T.grow e10
 have hlenC:=gO (f:=x.sp.mem.weakCard) (n:=33) (t.cards.take i.toNat) (λc hc=>Mem.weakCard_len okm (hcs c (List.mem_of_mem_take hc)).2.1)
 have hlenD:(t.cards.take i.toNat).length<=4096:=by rw[List.length_take];omega
 by_cases hlt2:i< (q.cN:Int)
 case neg=>
  rw[if_neg hlt2]
  rw[List.take_of_length_le (by omega)]at gB2 howB2 hlenC
  refine⟨_,_,_,by rw[aM gB2];rfl,hR _ _ ⟨l,B2,_,cB2,hl,rfl,?_,?_,λj hj=>by have:=hB2 j hj;omega,?_,e10⟩⟩
  ·unfold Mem.weaks;rw[hW]
  ·unfold Mem.weaks;rw[hW];exact howB2
  ·rw[List.length_append];omega
 rw[if_pos hlt2]
 have hil:i.toNat<t.cards.length:=by omega
 obtain⟨ca,hca,hrow⟩:=ln T10.tr.cards hil
 have hck:=hcs _ (List.getElem_mem hil)
 have htk:t.cards.take (i+1).toNat=t.cards.take i.toNat++[t.cards[i.toNat]]:=by rw[show(i+1).toNat=i.toNat+1 by omega,List.take_succ_eq_append_getElem hil]
 generalize hcd:t.cards[i.toNat]=cd at*
 have hd:((q.cN:Int)-(i+1)).toNat< ((q.cN:Int)-i).toNat:=by omega
 have hw:IntKind.wrap .i64 (i+1)=i+1:=w64 (by omega)
 have hfm:W++(t.cards.take (i+1).toNat).flatMap x.sp.mem.weakCard=(W++(t.cards.take i.toNat).flatMap x.sp.mem.weakCard)++x.sp.mem.weakCard cd:=by rw[htk,List.flatMap_append,List.append_assoc];simp
 refine⟨ca,hca,⟨hi2.1,hlt2⟩,cd.1,cd.2,hrow,λc11 H11 hc11 hH11=>?_⟩
 obtain⟨hcp,hs⟩:=boxed (vs:=[.int .i64 cd.1,.int .i64 cd.2]) (H1:=H11) (aL hc11 hH11) rfl rfl
 refine⟨hcp,λH12 hH12=>?_⟩
 obtain⟨hr12,hE12⟩:=hs H12 hH12
 have e12:Ext H10 H12:=hE12 H10 (Ext.push' hH11) (by omega)
 have T12:=T10.grow e12
 obtain⟨p1,p2,p3,p4⟩:=T12.s1
 have hS1:hat H12 ⟨c11,0,none⟩=some (.int .i64 cd.1):=hr12.1
 have hS2:hat H12 ⟨c11,1,none⟩=some (.int .i64 cd.2):=hr12.2.1
 refine⟨_,p1,_,rfl,_,p2,_,rfl,_,p3,_,rfl,_,p4,_,hS1,?_⟩
 have sgok:=lq okm cd.1
 have hinv: ∀(A:zV) (B':zW) (c':Nat),A[c2]?=some (.cells #[.slice B' (W++(t.cards.take (i+1).toNat).flatMap x.sp.mem.weakCard).length c'] 79 (0,0))->Own A 3 1 B' (W++(t.cards.take (i+1).toNat).flatMap x.sp.mem.weakCard).length c' (ivs (W++(t.cards.take (i+1).toNat).flatMap x.sp.mem.weakCard))->Ext H1 A->(∀j∈blks B',H2.size<=j)->H4.size<=A.size->
   ((0<=IntKind.wrap .i64 (i+1)/\IntKind.wrap .i64 (i+1)<=q.cN)/\ ∃(B:zW) (c:Nat),A[c2]?=some (.cells #[.slice B (W++(t.cards.take (IntKind.wrap .i64 (i+1)).toNat).flatMap x.sp.mem.weakCard).length c] 79 (0,0))/\Own A 3 1 B (W++(t.cards.take (IntKind.wrap .i64 (i+1)).toNat).flatMap x.sp.mem.weakCard).length c (ivs (W++(t.cards.take (IntKind.wrap .i64 (i+1)).toNat).flatMap x.sp.mem.weakCard))/\Ext H1 A/\(∀j∈blks B,H2.size<=j)/\H4.size<=A.size)/\((q.cN:Int)-IntKind.wrap .i64 (i+1)).toNat< ((q.cN:Int)-i).toNat:=λA B' c' h1 h2 h3 h4 h5=>by
  rw[hw];exact⟨⟨by omega,B',c',h1,h2,h3,h4,h5⟩,hd⟩
 have skip: ∀(A:zV),Ext H12 A-> ¬(x.sp.mem.segOr cd.1).kind=1->_:=λA eA hk=>hinv A B2 cB2 (by rw[hfm,show x.sp.mem.weakCard cd=[]by unfold Mem.weakCard;rw[if_neg hk],List.append_nil];exact(e12.trans eA).get gB2) (by rw[hfm,show x.sp.mem.weakCard cd=[]by unfold Mem.weakCard;rw[if_neg hk],List.append_nil];exact howB2.ext (e12.trans eA)) (e10.trans (e12.trans eA)) hB2 (by have:=(e12.trans eA).size;omega)
 have go: ∀(A:zV),Ext H12 A->(x.sp.mem.segOr cd.1).kind=1->bD.C cd.1 (IntKind.wrap .i64 (cd.2*16)) (if(IntKind.wrap .i64 ((IntKind.wrap .i64 (cd.2+1))*16))< (x.sp.mem.segOr cd.1).n then(IntKind.wrap .i64 ((IntKind.wrap .i64 (cd.2+1))*16))else(x.sp.mem.segOr cd.1).n) (some (Addr.mk c2 0 none)) A (λ_ A'=>_):=λA eA hk=>by
  have sgn:=sgok.n
  rw[w64 (n:=cd.2*16) (by omega),w64 (n:=cd.2+1) (by omega),w64 (n:=(cd.2+1)*16) (by omega),oV]
  have c2B:c2 ∉ blks B2:=λh=>by have:=hB2 c2 h;omega
  have eA':=e12.trans eA
  refine HC.mono (jd (H:=A) (c:=c2) (ws:=W++(t.cards.take i.toNat).flatMap x.sp.mem.weakCard) hck.1 (by omega) (by omega) (eA'.get gB2) (howB2.ext eA') c2B (by rw[List.length_append];omega) rfl) ?_
  rintro _ H16 ⟨B',c',g16,how16,f16,hB'⟩
  have hws:x.sp.mem.weakCard cd=eU cd.1 (cd.2*16) (dW (cd.2*16) (min (x.sp.mem.segOr cd.1).n ((cd.2+1)*16))):=by unfold Mem.weakCard;rw[if_pos hk]
  have hlen3:(W++(t.cards.take (i+1).toNat).flatMap x.sp.mem.weakCard).length=(W++(t.cards.take i.toNat).flatMap x.sp.mem.weakCard).length+dW (cd.2*16) (min (x.sp.mem.segOr cd.1).n ((cd.2+1)*16)):=by rw[hfm,List.length_append,hws,gt]
  have zA:=eA'.size
  refine hinv H16 B' c' (by rw[hlen3];exact g16) (by rw[hlen3,hfm,hws];exact how16) ((e10.trans eA').fr_trans f16 (λj hj=>?_)) (λj hj=>?_) (by have:=f16.size;omega)
  ·rcases List.mem_cons.1 hj with h | h
   ·omega
   ·have:=hB2 j h;omega
  ·rcases hB' j hj with h | h
   ·exact hB2 j h
   ·omega
 constructor
 ·refine HC.mono (eO T12.hp.cd.sp.mem) ?_
  rintro _ H13 ⟨rfl,e13⟩
  refine⟨_,_,_,_,_,_,_,_,rfl,λc14 H14 hc14 hH14=>?_⟩
  obtain⟨hcp14,hs14⟩:=fK (x.sp.mem.segOr cd.1) hc14 hH14
  refine⟨hcp14,λH15 hH15=>?_⟩
  obtain⟨e15,_,g1,gn,_⟩:=hs14 H15 hH15
  have eA:=e13.trans e15
  refine⟨_,by rw[addr_add_mk];exact g1,?_⟩
  by_cases hk1:(x.sp.mem.segOr cd.1).kind=1
  ·rw[if_pos hk1]
   exact⟨_,eA.hat hS1,_,by rw[addr_add_mk];exact eA.hat hS2,_,by rw[addr_add_mk];exact gn,_,by rw[addr_add_mk];exact eA.hat hS2,go H15 eA hk1⟩
  ·rw[if_neg hk1];exact skip H15 eA hk1
 ·intro c17 H17 hc17 hH17
  have e17:Ext H12 H17:=Ext.push' hH17
  refine⟨row1 (e17.hat p1),row1 (e17.hat p2),row1 (e17.hat p3),row1 (e17.hat p4),row1 (e17.hat hS1),?_⟩
  refine HC.mono (eO (T12.grow e17).hp.cd.sp.mem) ?_
  rintro _ H18 ⟨rfl,e18⟩
  obtain⟨hcA,hsA⟩:=boxed (vs:=[.int .i64 (x.sp.mem.segOr cd.1).gen,.int .i64 (x.sp.mem.segOr cd.1).kind,.int .i64 (x.sp.mem.segOr cd.1).n,.int .i64 ((x.sp.mem.segOr cd.1).cards 0),.int .i64 ((x.sp.mem.segOr cd.1).cards 1),.int .i64 ((x.sp.mem.segOr cd.1).cards 2),.int .i64 ((x.sp.mem.segOr cd.1).cards 3)]) (H1:=H18) (e18.get (aL hc17 hH17)) rfl rfl
  refine⟨_,_,_,_,_,_,_,_,rfl,hcA,λH19 hH19=>?_⟩
  obtain⟨hr19,hE19⟩:=hsA H19 hH19
  have eA:Ext H12 H19:=hE19 H12 (e17.trans e18) (by omega)
  refine⟨_,hr19.2.1,?_⟩
  by_cases hk1:(x.sp.mem.segOr cd.1).kind=1
  ·rw[if_pos hk1]
   exact⟨_,eA.hat hS1,_,by rw[addr_add_mk];exact eA.hat hS2,_,hr19.2.2.1,_,by rw[addr_add_mk];exact eA.hat hS2,go H19 eA hk1⟩
  ·rw[if_neg hk1];exact skip H19 eA hk1
