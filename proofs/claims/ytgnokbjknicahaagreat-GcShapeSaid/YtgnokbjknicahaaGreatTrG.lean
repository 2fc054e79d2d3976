/-
 A trace begins (package trace): Start. Proves nothing of any one statement.
-/
import Derived.Test.YtgnokbjknicahaaGreatTrF
set_option linter.unusedVariables false
set_option linter.unusedSimpArgs false
namespace Go.Proofs.YtgnokbjknicahaaGreat
open Go

theorem tr_cells(A B:Value)(C:List Value){z:Value}{n k:Nat}(hk:k<n):((([A,B]++List.replicate n z++C:List Value).toArray)[2+k]?)=some z:=by
 rw[List.getElem?_toArray,List.getElem?_append_left (by simp;omega),List.getElem?_append_right (by simp)]
 simp only[List.length_cons,List.length_nil]
 rw[List.getElem?_replicate,if_pos (by omega)]
theorem tr_tail(A B:Value)(C:List Value){z:Value}(n k:Nat):((([A,B]++List.replicate n z++C:List Value).toArray)[2+n+k]?)=C[k]?:=by
 rw[List.getElem?_toArray,List.getElem?_append_right (by simp;omega)]
 congr 1
 simp only[List.length_append,List.length_cons,List.length_nil,List.length_replicate];omega
theorem tr_head(A B:Value)(C:List Value){z:Value}(n:Nat):((([A,B]++List.replicate n z++C:List Value).toArray)[0]?)=some A/\((([A,B]++List.replicate n z++C:List Value).toArray)[1]?)=some B:=by
 constructor<;>rw[List.getElem?_toArray]<;>rfl
theorem tr_size(A B:Value)(C:List Value){z:Value}(n:Nat):([A,B]++List.replicate n z++C:List Value).toArray.size=2+n+C.length:=by simp;omega
theorem TrAt.init{H:zV}{b:Blk}{t f s:Nat}{tgt:Int}(ht:H[t]?=some (.cells ([.pointer (some ⟨b.h,0,none⟩),.int .i64 tgt]++List.replicate 1024 (.int .i64 0)++[.map (some f),.map (some s),.slice none 0 0,.int .i64 0]:List Value).toArray 127 (0,0)))
  (hf:H[f]?=some (.map #[] 0)) (hs:H[s]?=some (.map #[] 0)) (hne:t≠f/\t≠s/\f≠s):TrAt H b ⟨t,f,s,none,0,0⟩ ⟨tgt,λ_=>false,[],[],[],false⟩:=by
 have h0:=tr_head (.pointer (some ⟨b.h,0,none⟩)) (.int .i64 tgt) [.map (some f),.map (some s),.slice none 0 0,.int .i64 0] (z:=.int .i64 0) 1024
 have h1:=λk (hk:k<1024)=>tr_cells (.pointer (some ⟨b.h,0,none⟩)) (.int .i64 tgt) [.map (some f),.map (some s),.slice none 0 0,.int .i64 0] (z:=.int .i64 0) hk
 have h2:=λk=>tr_tail (.pointer (some ⟨b.h,0,none⟩)) (.int .i64 tgt) [.map (some f),.map (some s),.slice none 0 0,.int .i64 0] (z:=.int .i64 0) 1024 k
 have h3:=tr_size (.pointer (some ⟨b.h,0,none⟩)) (.int .i64 tgt) [.map (some f),.map (some s),.slice none 0 0,.int .i64 0] (z:=.int .i64 0) 1024
 generalize (([.pointer (some ⟨b.h,0,none⟩),.int .i64 tgt]++List.replicate 1024 (.int .i64 0)++[.map (some f),.map (some s),.slice none 0 0,.int .i64 0]:List Value).toArray)=cs at*
 refine⟨⟨cs,ht,h3,h0.1,h0.2,λk hk=>h1 k hk,h2 0,h2 1,h2 2,h2 3⟩,⟨_,_,hf,rfl⟩,⟨_,_,hs,rfl⟩,rfl,(λa ha=>by cases ha),⟨rfl,Nat.zero_le _⟩,⟨hne.1,hne.2.1,hne.2.2,λi hi=>by simp at hi⟩⟩
theorem TrAt.put{H:zV}{b:Blk}{q:TB}{t:Tr}(h:TrAt H b q t){o:Nat}{v:Value}(ho:o<1030):
  CanPuts H ⟨q.t,o,none⟩ 0 1/\Fr [q.t] H (hputs H ⟨q.t,o,none⟩ [v] 0)/\ ∃cs cs':Array Value,H[q.t]?=some (.cells cs 127 (0,0))/\(hputs H ⟨q.t,o,none⟩ [v] 0)[q.t]?=some (.cells cs' 127 (0,0))/\cs'.size=cs.size/\ ∀j:Nat,cs'[j]?=if j=o then some v else cs[j]?:=by
 obtain⟨cs,h1,hsz,_⟩:=h.tr
 refine⟨canPuts_blk h1 _ _ _ (by omega),?_⟩
 rw[hputs_blk _ H cs _ 0 h1]
 refine⟨Fr.set,cs,_,h1,setBlk_get (lt_size h1),splice_size _ _ _,λj=>?_⟩
 by_cases e:j=o
 ·rw[if_pos e,e]
  have:=splice_get_in cs [v] (o+0) 0 (by simp;omega) (by simp)
  simpa using this
 ·rw[if_neg e]
  rcases Nat.lt_or_ge j o with hl | hl
  ·exact splice_get_lt _ _ _ _ (by omega)
  ·exact splice_get_ge _ _ _ _ (by simp;omega)
theorem TrAt.rest{H H':zV}{b:Blk}{q:TB}{t:Tr}(h:TrAt H b q t)(f:Fr [q.t] H H'):(∃(es:Array MapEntry) (cl:Nat),H'[q.f]?=some (.map es cl)/\Ents (intKey .i64) es.toList t.frm)/\(∃(es:Array MapEntry) (cl:Nat),H'[q.s]?=some (.map es cl)/\Ents (intKey .i64) es.toList t.seen)/\SrcAt H' q.cB (cardCells t.cards):=by
 obtain⟨es,cl,h2,hr2⟩:=h.frm
 obtain⟨es',cl',h3,hr3⟩:=h.seen
 have ne:=h.ne
 refine⟨⟨es,cl,f.get (by simp;omega) h2,hr2⟩,⟨es',cl',f.get (by simp;omega) h3,hr3⟩,?_⟩
 have hc:=h.cards
 cases hb:q.cB with
 | none=>rw[hb]at hc;exact hc
 | some a=>
  rw[hb]at hc
  refine f.rowAt ?_ hc
  have:=ne.2.2.2 a.block (by rw[hb];simp)
  simp;omega
theorem TrAt.putOld{H:zV}{b:Blk}{q:TB}{t:Tr}(h:TrAt H b q t){k:Nat}(hk:k<1024):
  CanPuts H ⟨q.t,2+k,none⟩ 0 1/\Fr [q.t] H (hputs H ⟨q.t,2+k,none⟩ [.int .i64 1] 0)/\TrAt (hputs H ⟨q.t,2+k,none⟩ [.int .i64 1] 0) b q {t with old:=λi=>if i=k then true else t.old i}:=by
 obtain⟨p1,p2,cs,cs',p3,p4,p5,p6⟩:=h.put (o:=2+k) (v:=.int .i64 1) (by omega)
 obtain⟨r1,r2,r3⟩:=h.rest p2
 refine⟨p1,p2,?_⟩
 obtain⟨cs0,h1,h2,h3,h4,h5,h6,h7,h8,h9⟩:=h.tr
 rw[p3]at h1;cases h1
 refine⟨⟨cs',p4,by omega,by rw[p6,if_neg (by omega)];exact h3,by rw[p6,if_neg (by omega)];exact h4,λi hi=>?_,by rw[p6,if_neg (by omega)];exact h6,by rw[p6,if_neg (by omega)];exact h7,by rw[p6,if_neg (by omega)];exact h8,by rw[p6,if_neg (by omega)];exact h9⟩,r1,r2,r3,λa ha=>Nat.lt_of_lt_of_le (h.cB a ha) p2.size,h.clen,h.ne⟩
 rw[p6]
 by_cases e:i=k
 ·subst e;rw[if_pos rfl];simp
 ·rw[if_neg (by omega),h5 i hi];simp[e]
theorem TrAt.putCards{H:zV}{b:Blk}{q:TB}{t:Tr}(h:TrAt H b q t){B:zW}{n c:Nat}{l:List (Int×Int)}(hs:SrcAt H B (cardCells l))(hlt: ∀i∈blks B,i<H.size)(hn:n=l.length/\n<=4096)(hd: ∀i∈blks B,i ∉ q.all):
  CanPuts H ⟨q.t,1028,none⟩ 0 1/\Fr [q.t] H (hputs H ⟨q.t,1028,none⟩ [.slice B n c] 0)/\TrAt (hputs H ⟨q.t,1028,none⟩ [.slice B n c] 0) b {q with cB:=B,cN:=n,cC:=c} {t with cards:=l}:=by
 obtain⟨p1,p2,cs,cs',p3,p4,p5,p6⟩:=h.put (o:=1028) (v:=.slice B n c) (by omega)
 obtain⟨r1,r2,r3⟩:=h.rest p2
 refine⟨p1,p2,?_⟩
 obtain⟨cs0,h1,h2,h3,h4,h5,h6,h7,h8,h9⟩:=h.tr
 rw[p3]at h1;cases h1
 refine⟨⟨cs',p4,by omega,by rw[p6,if_neg (by omega)];exact h3,by rw[p6,if_neg (by omega)];exact h4,λi hi=>by rw[p6,if_neg (by omega)];exact h5 i hi,by rw[p6,if_neg (by omega)];exact h6,by rw[p6,if_neg (by omega)];exact h7,by rw[p6,if_pos rfl],by rw[p6,if_neg (by omega)];exact h9⟩,r1,r2,?_,λa ha=>?_,hn,⟨h.ne.1,h.ne.2.1,h.ne.2.2.1,λi hi=>?_⟩⟩
 ·cases B with
  | none=>exact hs
  | some a=>
   refine p2.rowAt ?_ hs
   have:=hd a.block (by simp)
   simp[TB.all]at this⊢;omega
 ·have ha':B=some a:=ha
  subst ha'
  exact Nat.lt_of_lt_of_le (hlt _ (by simp)) p2.size
 ·have:=hd i hi
  simp only[TB.all,List.mem_cons,not_or]at this
  exact⟨this.1,this.2.1,this.2.2.1⟩
theorem TrAt.putFrm{H:zV}{b:Blk}{q:TB}{t:Tr}{es:Array MapEntry}{cl:Nat}{ks:List (Int×Value)}(h:TrAt H b q t)(he:Ents (intKey .i64) es.toList ks):TrAt (setBlk H q.f (.map es cl)) b q {t with frm:=ks}:=by
 have f:Fr [q.f] H (setBlk H q.f (.map es cl)):=Fr.set
 have l1:=h.lt q.f (by simp[TB.all])
 obtain⟨cs,h1,hr⟩:=h.tr
 obtain⟨es1,cl1,h2,hr2⟩:=h.seen
 have ne:=h.ne
 refine⟨⟨cs,f.get (by simp;omega) h1,hr⟩,⟨es,cl,setBlk_get l1,he⟩,⟨es1,cl1,f.get (by simp;omega) h2,hr2⟩,?_,λa ha=>Nat.lt_of_lt_of_le (h.cB a ha) f.size,h.clen,h.ne⟩
 have hc:=h.cards
 cases hb:q.cB with
 | none=>rw[hb]at hc;exact hc
 | some a=>
  rw[hb]at hc
  refine f.rowAt ?_ hc
  have:=ne.2.2.2 a.block (by rw[hb];simp)
  simp;omega

def gensTo(g:Int):List Int:=(List.range (g+1).toNat).map λi:Nat=>(i:Int)
theorem mem_gensTo{g x:Int}:x∈gensTo g ↔ 0<=x/\x<=g:=by
 unfold gensTo
 rw[List.mem_map]
 constructor
 ·rintro⟨i,hi,rfl⟩;rw[List.mem_range]at hi;omega
 ·rintro⟨h1,h2⟩;exact⟨x.toNat,by rw[List.mem_range];omega,by omega⟩
def Mem.young(m:Mem)(g:Int)(k:Nat):Bool:=decide (m.has k/\(m.seg k).gen<=g)
def Mem.nyoung(m:Mem)(g:Int):Nat:=(m.takenTo (gensTo g) m.limit).length
structure Begun (m:Mem) (g T:Int) (t:Tr):Prop where
 tgt:t.tgt=T
 old: ∀k,k<1024->t.old k=m.young g k
 frm: ∀k:Int,0<=k->mget t.frm k=if m.has k/\(m.seg k.toNat).gen=T then some (.int .i64 (m.seg k.toNat).n)else none
 seen: ∀k:Int,0<=k->mget t.seen k=if m.has k/\(m.seg k.toNat).gen=T then some (.int .i64 (m.seg k.toNat).n)else none
 frm0: ∀k:Int,k<0->mget t.frm k=none
 seen0: ∀k:Int,k<0->mget t.seen k=none
 cards: ∃l,IsTaken m [] l/\t.cards=m.dirtyOf g l
 over:t.over=false
theorem Begun.cardsOK{m:Mem}{g T:Int}{t:Tr}(h:Begun m g T t)(ok:MemOK m):CardsOK t.cards:=by
 obtain⟨l,hl,e⟩:=h.cards
 rw[e]
 intro c hc
 obtain⟨k,hk,i,hi,rfl,_⟩:=Mem.mem_dirty.1 hc
 obtain⟨_,h2,_⟩:=hl.has hk
 have:=ok.lim
 exact⟨⟨by show(0:Int)<=(k:Int);omega,by show(k:Int)<1024;omega⟩,by show(0:Int)<=(i:Int);omega,by show(i:Int)<4;omega⟩
theorem Begun.seenOK{m:Mem}{g T:Int}{t:Tr}(h:Begun m g T t)(ok:MemOK m):SeenOK t.seen:=by
 intro k v hv
 rcases Int.lt_or_le k 0 with hk | hk
 ·rw[h.seen0 k hk]at hv;cases hv
 rw[h.seen k hk]at hv
 split at hv
 ·cases hv
  exact⟨_,rfl,(ok.seg _).n⟩
 ·cases hv
def startE(s:Sp)(g T more:Int):Int:=if g<0\/4<=g\/T<g\/g+1<T\/more<0 then 1 else if s.mem.free-2*s.mem.nyoung g-8<more then 2 else 0
theorem Sp.fresh_ok{s:Sp}(ok:SpOK s)(gs:List Int):SpOK (s.fresh gs):=Sp.zap_ok ok _
def Told(m:Mem)(ks:List (Int×Value))(l:List Nat):Prop:= ∀k:Int,mget ks k=if 0<=k/\k.toNat∈l then some (.int .i64 (m.seg k.toNat).n)else none
theorem Told.put{m:Mem}{ks:List (Int×Value)}{l:List Nat}(h:Told m ks l)(k:Nat){v:Value}:Told m (mput (mput ks k v) k (.int .i64 (m.seg k).n)) (l++[k]):=by
 intro a
 rw[mget_mput',mget_mput',h a]
 by_cases e:a=k
 ·subst e
  rw[if_pos rfl,if_pos ⟨by omega,by simp⟩];simp
 ·rw[if_neg e,if_neg e]
  refine ite_iff ⟨λq=>⟨q.1,List.mem_append_left _ q.2⟩,λq=>⟨q.1,?_⟩⟩ _ _
  rcases List.mem_append.1 q.2 with q2 | q2
  ·exact q2
  ·simp at q2;omega
set_option maxRecDepth 100000 in
theorem tr_Start_c{H:zV}{b:Blk}{x:Hp}{g T more:Int}(hp:HpAt H b x)(ok:SpOK x.sp)(he:x.sp.mem.Even)(hcf:x.sp.cf<4611686018427387904)(hg:I64 g)(hT:I64 T)(hm:I64 more):
  trace_Start.C (some ⟨b.h,0,none⟩) g T more H (λv H'=>(startE x.sp g T more≠0->v=.tuple #[.pointer none,.int .i64 (startE x.sp g T more)]/\Ext H H')/\
   (startE x.sp g T more=0-> ∃(q:TB) (t:Tr),v=.tuple #[.pointer (some ⟨q.t,0,none⟩),.int .i64 0]/\Tg H' b {x with sp:=x.sp.fresh (gensTo g)} q t/\Begun x.sp.mem g T t/\(∀i∈q.all,H.size<=i)/\Fr (spB b) H H')):=by
 refine HC.via λR hR=>trace_Start.link ?_
 unfold trace_Start.pt zY
 rw[onPtr_some]
 refine⟨_,hp.hPtr,?_⟩
 rw[onPtr_some]
 by_cases hbad:g<0\/4<=g\/T<g\/g+1<T\/more<0
 ·have e:startE x.sp g T more=1:=by unfold startE;rw[if_pos hbad]
  rw[if_pos ?_]
  ·exact hR _ _ ⟨λ_=>⟨by rw[e],Ext.refl _⟩,λh=>by rw[e]at h;exact absurd h (by decide)⟩
  ·rcases hbad with h | h | h | h | h
   ·simp[h]
   ·have:g>=4:=h
    simp[this]
   ·simp[h]
   ·by_cases h4:g>=4
    ·simp[h4]
    ·rw[w64 (n:=g+1) (by omega)]
     have:T>g+1:=h
     simp[this]
   ·simp[h]
 have hgs:0<=g/\g<4/\g<=T/\T<=g+1/\0<=more:=by omega
 rw[w64 (n:=g+1) (by omega)]
 rw[if_neg (by
  simp only[Bool.or_eq_true,decide_eq_true_eq]
  omega)]
 have hlim:=ok.mem.lim
 have hglen:(gensTo g).length=(g+1).toNat:=by simp[gensTo]
 refine⟨λB n c i A=>(0<=i/\i<=g+1)/\n=i.toNat/\Own A 3 1 B n c (ivs ((gensTo g).take i.toNat))/\(∀j∈blks B,H.size<=j)/\Ext H A,λ_ _ _ i _=>(g+1-i).toNat,⟨by omega,rfl,own_nil,by simp,Ext.refl _⟩,?_⟩
 rintro gB gN gC i H1 ⟨hi,rfl,how,hfr,e1⟩
 by_cases hlt:i<g+1
 ·rw[if_pos hlt]
  intro c2 H2 hc2 hH2
  have e2:Ext H1 H2:=Ext.push' hH2
  have hd:(g+1-(i+1)).toNat< (g+1-i).toNat:=by omega
  rw[w64 (n:=i+1) (by omega)]
  refine own_append (ys:=[.int .i64 i]) (how.ext e2) (rowAt_blk (push_get hc2 hH2) _ 0 0 (λj hj=>by
   simp only[List.length_cons,List.length_nil]at hj
   obtain rfl:j=0:=by omega
   rfl)) rfl rfl rfl (by omega) ?_
  intro p' c' H4 how4 f4 hn4
  have ht:(gensTo g).take (i+1).toNat=(gensTo g).take i.toNat++[i]:=by
   rw[show(i+1).toNat=i.toNat+1 by omega,List.take_succ_eq_append_getElem (by rw[hglen];omega)]
   congr 2
   simp[gensTo];omega
  refine⟨⟨by omega,by omega,?_,λj hj=>?_,(e1.trans e2).fr_trans f4 hfr⟩,hd⟩
  ·rw[ht,show i.toNat+1=i.toNat+1 from rfl]
   unfold ivs at how4⊢
   rw[List.map_append];exact how4
  ·rcases hn4 j hj with h | h
   ·exact hfr j h
   ·have:=e1.size;have:=e2.size;omega
 rw[if_neg hlt]
 have hie:i.toNat=(gensTo g).length:=by rw[hglen];omega
 rw[hie]at how⊢
 rw[List.take_length]at how
 have hp1:=hp.ext e1
 refine⟨_,hp1.hPtr,_,rfl,_,hp1.cd.cPtr,_,rfl,_,hp1.cd.sp.memPtr,?_⟩
 refine HC.mono (seg_Taken_c (gs:=gensTo g) hp1.cd.sp.mem ok.mem how.src rfl (by omega)) ?_
 rintro _ H4 ⟨yB,yC,young,rfl,hyo,howy,hfy,e4⟩
 refine⟨_,_,_,rfl,?_⟩
 have e14:=e1.trans e4
 have hp4:=hp.ext e14
 have hylen:=hyo.len
 have hny:young.length=x.sp.mem.nyoung g:=hyo.perm.length_eq
 refine⟨_,hp4.hPtr,_,rfl,_,hp4.cd.cPtr,_,rfl,_,hp4.cd.sp.memPtr,?_⟩
 refine HC.mono (seg_free_c hp4.cd.sp.mem) ?_
 rintro _ H5 ⟨rfl,rfl⟩
 have hfree:=ok.mem.free
 have hnf:x.sp.mem.nfree<=x.sp.mem.limit:=by
  unfold Mem.nfree
  exact Nat.le_trans List.countP_le_length (by simp)
 refine⟨_,rfl,?_⟩
 rw[w64 (n:=2*(young.length:Int)) (by omega),w64 (n:=x.sp.mem.free-2*(young.length:Int)) (by omega),w64 (n:=x.sp.mem.free-2*(young.length:Int)-8) (by omega)]
 by_cases hfull:x.sp.mem.free-2*(young.length:Int)-8<more
 ·rw[if_pos hfull]
  have e:startE x.sp g T more=2:=by unfold startE;rw[if_neg hbad,if_pos (by rw[<-hny];exact hfull)]
  exact hR _ _ ⟨λ_=>⟨by rw[e],e14⟩,λh=>by rw[e]at h;exact absurd h (by decide)⟩
 rw[if_neg hfull]
 have es:startE x.sp g T more=0:=by unfold startE;rw[if_neg hbad,if_neg (by rw[<-hny];exact hfull)]
 intro bf H6 hbf hH6 bs H7 hbs hH7 bt H8 hbt hH8
 have e6:Ext H5 H6:=Ext.push' hH6
 have e7:Ext H6 H7:=Ext.push' hH7
 have e8:Ext H7 H8:=Ext.push' hH8
 have z6:H6.size=H5.size+1:=by rw[hH6];simp
 have z7:H7.size=H6.size+1:=by rw[hH7];simp
 have z5:=e14.size
 have e58:Ext H5 H8:=(e6.trans e7).trans e8
 have e18:=e14.trans e58
 have hp8:=hp.ext e18
 have T8:TrAt H8 b ⟨bt,bf,bs,none,0,0⟩ ⟨T,λ_=>false,[],[],[],false⟩:=TrAt.init (push_get hbt hH8) (e8.get (e7.get (push_get hbf hH6))) (e8.get (push_get hbs hH7)) ⟨by omega,by omega,by omega⟩
 have hbnew: ∀j∈b.all,j<H.size:=λj hj=>hp.lt j hj
 have hyB: ∀j∈blks yB,j<H5.size/\H1.size<=j:=λj hj=>⟨howy.lt j hj,hfy j hj⟩
 have hgB: ∀j∈blks gB,j<H1.size/\H.size<=j:=λj hj=>⟨how.lt j hj,hfr j hj⟩
 have z1:=e1.size
 have z4:=e4.size
 refine⟨λi A=>(0<=i/\i<=young.length)/\TrAt A b ⟨bt,bf,bs,none,0,0⟩ ⟨T,λk=>decide (k∈young.take i.toNat),[],[],[],false⟩/\Fr [bt] H8 A,λi _=>(young.length-i).toNat,⟨by omega,by simpa using T8,Fr.refl _ _⟩,?_⟩
 rintro i9 H9 ⟨hi9,T9,f9⟩
 by_cases hl9:i9< (young.length:Int)
 ·rw[if_pos hl9]
  have hn9:i9.toNat<young.length:=by omega
  have howy9:=(howy.ext e58).keep f9 (λj hj hm=>by have:=hyB j hj;simp at hm;omega)
  obtain⟨a,ha,hata⟩:=ivs_at howy9 hn9
  obtain⟨khas,klim,kpos,_⟩:=hyo.has (List.getElem_mem hn9)
  have hput:=T9.putOld (k:=young[i9.toNat]) (by omega)
  have hd:((young.length:Int)-(i9+1)).toNat< ((young.length:Int)-i9).toNat:=by omega
  refine⟨a,ha,⟨hi9.1,hl9⟩,_,hata,⟨by omega,by omega⟩,?_⟩
  rw[addr_add_mk,addr_add_mk,Nat.zero_add,Nat.mul_one,show((young[i9.toNat]:Nat):Int).toNat=young[i9.toNat]by omega,w64 (n:=i9+1) (by omega)]
  refine⟨hput.1,λH10 hH10=>?_⟩
  subst hH10
  refine⟨⟨by omega,?_,f9.trans hput.2.1⟩,hd⟩
  have ho:(λk=>decide (k∈young.take (i9+1).toNat))=(λi=>if i=young[i9.toNat]then true else decide (i∈young.take i9.toNat)):=by
   funext k
   rw[show(i9+1).toNat=i9.toNat+1 by omega,List.take_succ_eq_append_getElem hn9]
   by_cases hk:k=young[i9.toNat]
   ·rw[if_pos hk,hk];exact zX (List.mem_append_right _ (List.mem_singleton.2 rfl))
   ·rw[if_neg hk,decide_eq_decide,List.mem_append,List.mem_singleton]
    exact⟨λh=>h.resolve_right hk,.inl⟩
  rw[ho];exact hput.2.2
 rw[if_neg hl9]
 have hn9:i9.toNat=young.length:=by omega
 rw[hn9,List.take_length]at T9
 have f59:Fr [bt] H5 H9:=e58.fr.trans f9
 have fH9:Ext H H9:=e14.fr_trans f59 (λj hj=>by simp at hj;omega)
 have hp9:=hp.ext fH9
 refine⟨_,hp9.hPtr,_,rfl,_,hp9.cd.cPtr,_,rfl,_,hp9.cd.sp.memPtr,?_⟩
 intro c11 H11 hc11 hH11
 have e11:Ext H9 H11:=Ext.push' hH11
 have z8:H8.size=H7.size+1:=by rw[hH8];simp
 have z9:=f9.size
 have hp11:=hp9.ext e11
 refine HC.mono (seg_Taken_c (gs:=[T]) hp11.cd.sp.mem ok.mem (show SrcAt H11 (some ⟨c11,0,none⟩) (ivs [T])from row1 (by rw[hat_blk (push_get hc11 hH11)];rfl)) rfl (by decide)) ?_
 rintro _ H12 ⟨wB,wC,l,rfl,hl,howl,hfl,e12⟩
 refine⟨_,_,_,rfl,?_⟩
 have hllen:=hl.len
 have e912:=e11.trans e12
 have fH12:=fH9.trans e912
 have z12:=e912.size
 have hwB: ∀j∈blks wB,j<H12.size/\H11.size<=j:=λj hj=>⟨howl.lt j hj,hfl j hj⟩
 have z11:=e11.size
 refine⟨λi A=>(0<=i/\i<=l.length)/\(∃ks ks':List (Int×Value),TrAt A b ⟨bt,bf,bs,none,0,0⟩ ⟨T,λk=>decide (k∈young),ks,ks',[],false⟩/\Told x.sp.mem ks (l.take i.toNat)/\Told x.sp.mem ks' (l.take i.toNat))/\(∃es cl,A[bf]?=some (.map es cl)/\Born es cl)/\(∃es cl,A[bs]?=some (.map es cl)/\Born es cl)/\Fr [bf,bs] H12 A,λi _=>(l.length-i).toNat,?_,?_⟩
 ·have hb0: ∀c,c=bf\/c=bs->H12[c]?=some (.map #[] 0):=λc hc=>by
   have hc8:H8[c]?=some (.map #[] 0):=by
    rcases hc with rfl | rfl
    ·exact e8.get (e7.get (push_get hbf hH6))
    ·exact e8.get (push_get hbs hH7)
   exact e912.get (f9.get (by simp;omega) hc8)
  exact⟨by omega,⟨[],[],T9.ext e912,λk=>by simp[mget],λk=>by simp[mget]⟩,⟨_,_,hb0 _ (.inl rfl),born_nil⟩,⟨_,_,hb0 _ (.inr rfl),born_nil⟩,Fr.refl _ _⟩
 rintro i13 H13 ⟨hi13,⟨ks,ks',T13,told,told'⟩,⟨esf,clf,hesf,bornf⟩,⟨ess,cls,hess,borns⟩,f13⟩
 have z13:=f13.size
 have fH13:Ext H H13:=fH12.fr_trans f13 (λj hj=>by simp at hj;omega)
 have hp13:=hp.ext fH13
 by_cases hl13:i13< (l.length:Int)
 ·rw[if_pos hl13]
  have hn13:i13.toNat<l.length:=by omega
  have howl13:=howl.keep f13 (λj hj hm=>by have:=hwB j hj;simp at hm;omega)
  obtain⟨a,ha,hata⟩:=ivs_at howl13 hn13
  obtain⟨khas,klim,kpos,_⟩:=hl.has (List.getElem_mem hn13)
  have htk:l.take (i13+1).toNat=l.take i13.toNat++[l[i13.toNat]]:=by rw[show(i13+1).toNat=i13.toNat+1 by omega,List.take_succ_eq_append_getElem hn13]
  generalize hk:l[i13.toNat]=k at*
  refine⟨a,ha,⟨hi13.1,hl13⟩,_,hata,_,hp13.hPtr,_,rfl,_,hp13.cd.cPtr,_,rfl,_,hp13.cd.sp.memPtr,?_⟩
  refine HC.mono (seg_Seg_c' hp13.cd.sp.mem) ?_
  rintro _ H14 ⟨rfl,e14'⟩
  have hsg:x.sp.mem.segOr k=x.sp.mem.seg k:=by unfold Mem.segOr;rw[if_pos khas,show((k:Nat):Int).toNat=k by omega]
  rw[hsg]
  refine⟨_,_,_,_,_,_,_,_,rfl,λc15 H15 hc15 hH15=>?_⟩
  obtain⟨hcp,hs⟩:=head_slot (x.sp.mem.seg k) hc15 hH15
  refine⟨hcp,λH16 hH16=>?_⟩
  obtain⟨e16,_,_,g2,_⟩:=hs H16 hH16
  have e1316:=e14'.trans e16
  have T16:=T13.ext e1316
  have z14:=e14'.size
  have c15n:c15≠bf/\c15≠bs:=by omega
  have hbf16:H16[bf]?=some (.map esf clf):=e1316.get hesf
  have hbs16:H16[bs]?=some (.map ess cls):=e1316.get hess
  obtain⟨esf2,clf2,q1,entsf⟩:=T16.frm
  obtain⟨ess2,cls2,q2,entss⟩:=T16.seen
  rw[show(⟨bt,bf,bs,none,0,0⟩:TB).f=bf from rfl,hbf16]at q1
  rw[show(⟨bt,bf,bs,none,0,0⟩:TB).s=bs from rfl,hbs16]at q2
  cases q1;cases q2
  refine⟨some bf,by rw[addr_add_mk];exact T16.fAt,some bs,by rw[addr_add_mk];exact T16.sAt,_,by rw[addr_add_mk];exact g2,_,by rw[addr_add_mk];exact g2,bf,rfl,esf,clf,ks,hbf16,entsf,bornf,?_⟩
  intro es2 cl2 st v21 H17 hH17 en17 bo17 hb17
  have l16f:=lt_size hbf16
  have l16s:=lt_size hbs16
  have f17:Fr [bf] H16 H17:=by rw[hH17];exact Fr.set
  have g17:hat H17 ⟨c15,2,none⟩=some (.int .i64 (x.sp.mem.seg k).n):=f17.hat (by simp;omega) g2
  refine⟨by rw[addr_add_mk];exact row1 g17,by rw[addr_add_mk];exact row1 g17,es2,cl2,_,(k:Int),by rw[hH17];exact setBlk_get l16f,en17,bo17,hb17,?_⟩
  intro es4 H18 hH18 en18 bo18
  have l17f:bf<H17.size:=by have:=f17.size;omega
  have f18:Fr [bf] H17 H18:=by rw[hH18];exact Fr.set
  have g18:hat H18 ⟨c15,2,none⟩=some (.int .i64 (x.sp.mem.seg k).n):=f18.hat (by simp;omega) g17
  have hbs18:H18[bs]?=some (.map ess cls):=f18.get (by simp;omega) (f17.get (by simp;omega) hbs16)
  refine⟨by rw[addr_add_mk];exact row1 g18,bs,rfl,ess,cls,ks',hbs18,entss,borns,?_⟩
  intro es6 cl5 st2 v22 H19 hH19 en19 bo19 hb19
  have l18s:=lt_size hbs18
  have f19:Fr [bs] H18 H19:=by rw[hH19];exact Fr.set
  have g19:hat H19 ⟨c15,2,none⟩=some (.int .i64 (x.sp.mem.seg k).n):=f19.hat (by simp;omega) g18
  refine⟨by rw[addr_add_mk];exact row1 g19,es6,cl5,_,(k:Int),by rw[hH19];exact setBlk_get l18s,en19,bo19,hb19,?_⟩
  intro es8 H20 hH20 en20 bo20
  have f20:Fr [bs] H19 H20:=by rw[hH20];exact Fr.set
  have l19s:bs<H19.size:=by have:=f19.size;omega
  have hd:((l.length:Int)-(i13+1)).toNat< ((l.length:Int)-i13).toNat:=by omega
  rw[w64 (n:=i13+1) (by omega)]
  have T17:TrAt H17 b ⟨bt,bf,bs,none,0,0⟩ ⟨T,λk=>decide (k∈young),mput ks k v21,ks',[],false⟩:=by rw[hH17];exact T16.putFrm en17
  have T18:TrAt H18 b ⟨bt,bf,bs,none,0,0⟩ ⟨T,λk=>decide (k∈young),mput (mput ks k v21) k (.int .i64 (x.sp.mem.seg k).n),ks',[],false⟩:=by rw[hH18];exact T17.putFrm en18
  have T19:TrAt H19 b ⟨bt,bf,bs,none,0,0⟩ ⟨T,λk=>decide (k∈young),mput (mput ks k v21) k (.int .i64 (x.sp.mem.seg k).n),mput ks' k v22,[],false⟩:=by rw[hH19];exact T18.putSeen en19
  have T20:TrAt H20 b ⟨bt,bf,bs,none,0,0⟩ ⟨T,λk=>decide (k∈young),mput (mput ks k v21) k (.int .i64 (x.sp.mem.seg k).n),mput (mput ks' k v22) k (.int .i64 (x.sp.mem.seg k).n),[],false⟩:=by rw[hH20];exact T19.putSeen en20
  have f1620:Fr [bf,bs] H16 H20:=((f17.mono (λj hj _=>by simp at hj;simp[hj])).trans (f18.mono (λj hj _=>by simp at hj;simp[hj]))).trans ((f19.mono (λj hj _=>by simp at hj;simp[hj])).trans (f20.mono (λj hj _=>by simp at hj;simp[hj])))
  refine⟨⟨by omega,⟨_,_,T20,by rw[htk];exact told.put k,by rw[htk];exact told'.put k⟩,⟨es4,cl2,?_,bo18⟩,⟨es8,cl5,by rw[hH20];exact setBlk_get l19s,bo20⟩,f13.trans (e1316.fr.trans f1620)⟩,hd⟩
  exact f20.get (by simp;omega) (f19.get (by simp;omega) (by rw[hH18];exact setBlk_get l17f))
 rw[if_neg hl13]
 have hn13:i13.toNat=l.length:=by omega
 rw[hn13,List.take_length]at told told'
 refine⟨_,hp13.hPtr,_,rfl,_,hp13.cd.cPtr,?_⟩
 have how13:Own H13 3 1 gB (gensTo g).length gC (ivs (gensTo g)):=by
  have h5:=how.ext (e4.trans e58)
  have h9:=h5.keep f9 (λj hj hm=>by have:=hgB j hj;simp at hm;omega)
  exact(h9.ext e912).keep f13 (λj hj hm=>by have:=hgB j hj;simp at hm;omega)
 refine HC.mono (space_Fresh_c hp13.cd.sp how13.src rfl (by omega) (λj hj=>by have:=hgB j hj;have:=hbnew b.sp (by simp[Blk.all]);omega)) ?_
 rintro _ H21 ⟨sp21,f21⟩
 have hp21:=hp13.withSp f21 (λj hj=>by simp at hj;omega) sp21
 refine⟨_,hp21.hPtr,?_⟩
 have ok21:=Sp.fresh_ok ok (gensTo g)
 refine HC.mono (card_Dirty_c hp21.cd ok21) ?_
 rintro _ H22 ⟨dB,dN,dC,dl,rfl,hdl,hdn,howd,hfd,e22⟩
 refine⟨_,_,_,rfl,?_⟩
 have bsp:=hbnew b.sp (by simp[Blk.all])
 have T21:TrAt H21 b ⟨bt,bf,bs,none,0,0⟩ ⟨T,λk=>decide (k∈young),ks,ks',[],false⟩:=T13.keep f21 (λj hj hq=>by
  simp at hj
  simp[TB.all]at hq
  omega)
 have T22:=T21.ext e22
 have hdlen:=x.sp.mem.dirtyOf_len g dl
 have hdl2:=hdl.len
 have hmem:(x.sp.fresh (gensTo g)).mem=x.sp.mem:=rfl
 rw[hmem]at hdn howd hdl hdl2
 have z21:=f21.size
 have hput:=T22.putCards (B:=dB) (n:=dN) (c:=dC) (l:=x.sp.mem.dirtyOf g dl) howd.src howd.lt ⟨hdn,by omega⟩ (λj hj hq=>by
  have h1:=hfd j hj
  have h2:=T21.lt j hq
  omega)
 rw[addr_add_mk,Nat.zero_add]
 refine⟨hput.1,λH23 hH23=>?_⟩
 subst hH23
 have fin:Fr (spB b) H (hputs H22 ⟨bt,1028,none⟩ [.slice dB dN dC] 0):=by
  have f1:Fr (spB b) H H21:=fH13.fr.trans (f21.mono (λj hj _=>by simp at hj;simp[spB,hj]))
  have f2:Fr (spB b) H H22:=f1.trans e22.fr
  refine f2.trans' hput.2.1 (λj hj _=>hj) (λj hj hlt=>?_)
  simp at hj;omega
 have hp22:=hp21.ext e22
 have hp23:HpAt (hputs H22 ⟨bt,1028,none⟩ [.slice dB dN dC] 0) b {x with sp:=x.sp.fresh (gensTo g)}:=hp22.keep hput.2.1 (λj hj hb=>by
  have:=hbnew j hb
  simp at hj;omega)
 refine hR _ _ ⟨λh=>absurd es h,λ_=>⟨_,_,rfl,⟨⟨hp23,ok21,hput.2.2,λj hj hb=>?_⟩,he,hcf,rfl⟩,?_,λj hj=>?_,fin⟩⟩
 ·have h1:=hbnew j hb
  simp only[TB.all,List.mem_cons]at hj
  rcases hj with h | h | h | h
  ·omega
  ·omega
  ·omega
  ·have:=hfd j h;have:=fH13.size;omega
 ·have hkey: ∀ks0:List (Int×Value),Told x.sp.mem ks0 l-> ∀k:Int,0<=k->mget ks0 k=if x.sp.mem.has k/\(x.sp.mem.seg k.toNat).gen=T then some (.int .i64 (x.sp.mem.seg k.toNat).n)else none:=by
   intro ks0 ht k hk
   rw[ht k]
   refine ite_iff ?_ _ _
   rw[hl.perm.mem_iff]
   unfold Mem.takenTo
   rw[List.mem_filter,List.mem_range]
   have h1:=(ok.mem.seg k.toNat).taken
   constructor
   ·rintro⟨_,h3,h4⟩
    simp only[Bool.and_eq_true,decide_eq_true_eq,Bool.or_eq_true,List.isEmpty_iff]at h4
    have h5:(x.sp.mem.seg k.toNat).gen∈[T]:=h4.2.resolve_left (by simp)
    exact⟨⟨hk,by omega,by omega⟩,by simpa using h5⟩
   ·rintro⟨h3,h4⟩
    have h5:=h3.2.2
    refine⟨hk,by have:=h3.2.1;omega,?_⟩
    simp only[Bool.and_eq_true,decide_eq_true_eq,Bool.or_eq_true]
    exact⟨by omega,.inr (by rw[h4];simp)⟩
  refine⟨rfl,λk hk=>?_,λk hk=>?_,λk hk=>?_,λk hk=>?_,λk hk=>?_,⟨dl,hdl,rfl⟩,rfl⟩
  ·show decide (k∈young)=_
   unfold Mem.young
   rw[decide_eq_decide,hyo.perm.mem_iff]
   unfold Mem.takenTo
   rw[List.mem_filter,List.mem_range]
   have h1:=(ok.mem.seg k).taken
   have h2:=(ok.mem.seg k).gen
   have hk':((k:Nat):Int).toNat=k:=by omega
   constructor
   ·rintro⟨h3,h4⟩
    simp only[Bool.and_eq_true,decide_eq_true_eq,Bool.or_eq_true,List.isEmpty_iff]at h4
    have h5:(x.sp.mem.seg k).gen∈gensTo g:=by
     rcases h4.2 with h | h
     ·rw[h]at hglen;simp at hglen;omega
     ·exact h
    exact⟨⟨by omega,by omega,by rw[hk'];omega⟩,(mem_gensTo.1 h5).2⟩
   ·rintro⟨h3,h4⟩
    have h5:=h3.2.2
    rw[hk']at h5
    refine⟨by have:=h3.2.1;omega,?_⟩
    simp only[Bool.and_eq_true,decide_eq_true_eq,Bool.or_eq_true]
    exact⟨by omega,.inr (mem_gensTo.2 ⟨h2.1,h4⟩)⟩
  ·exact hkey _ told k hk
  ·exact hkey _ told' k hk
  ·show mget ks k=none
   rw[told k,if_neg (by omega)]
  ·show mget ks' k=none
   rw[told' k,if_neg (by omega)]
 ·simp only[TB.all,List.mem_cons]at hj
  have:=e18.size
  rcases hj with h | h | h | h
  ·omega
  ·omega
  ·omega
  ·have:=hfd j h;have:=fH13.size;omega
