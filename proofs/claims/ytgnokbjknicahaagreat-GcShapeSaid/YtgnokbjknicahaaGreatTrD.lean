/-
 Cards that are looked at; all that is new is looked at until nothing is new (package trace). Proves nothing of any one statement.
-/
import Derived.Test.YtgnokbjknicahaaGreatTrC
import Derived.Test.YtgnokbjknicahaaGreatWords
set_option linter.unusedVariables false
set_option linter.unusedSimpArgs false
namespace Go.Proofs.YtgnokbjknicahaaGreat
open Go

theorem segOr_ok{m:Mem}(ok:MemOK m)(k:Int):SegOK (m.segOr k):=by
 unfold Mem.segOr
 split
 ·exact ok.seg _
 ·exact segOK_none
theorem seg_Seg_c'{H:zV}{bm bs:Nat}{m:Mem}{k:Int}(h:MemAt H bm bs m):
  seg_Mem_Seg.C (some ⟨bm,0,none⟩) k H (λv H'=>v=.tuple #[(m.segOr k).head,.bool (decide (m.has k))]/\Ext H H'):=seg_Seg_c h
theorem head_slot{H H1:zV}{c:Nat}(sg:Seg)(hc:c=H.size)(hH1:H1=H.push (.cells #[.int .i64 0,.int .i64 0,.int .i64 0,.int .i64 0,.int .i64 0,.int .i64 0,.int .i64 0] 76)):
  CanPuts H1 ⟨c,0,none⟩ 0 7/\ ∀H2,H2=hputs H1 ⟨c,0,none⟩ [.int .i64 sg.gen,.int .i64 sg.kind,.int .i64 sg.n,.int .i64 (sg.cards 0),.int .i64 (sg.cards 1),.int .i64 (sg.cards 2),.int .i64 (sg.cards 3)] 0->Ext H H2/\
   hat H2 ⟨c,0,none⟩=some (.int .i64 sg.gen)/\hat H2 ⟨c,1,none⟩=some (.int .i64 sg.kind)/\hat H2 ⟨c,2,none⟩=some (.int .i64 sg.n)/\RowAt H2 ⟨c,0,none⟩ 0 [.int .i64 sg.gen,.int .i64 sg.kind,.int .i64 sg.n,.int .i64 (sg.cards 0),.int .i64 (sg.cards 1),.int .i64 (sg.cards 2),.int .i64 (sg.cards 3)]:=by
 obtain⟨hc1,hs⟩:=boxed (vs:=[.int .i64 sg.gen,.int .i64 sg.kind,.int .i64 sg.n,.int .i64 (sg.cards 0),.int .i64 (sg.cards 1),.int .i64 (sg.cards 2),.int .i64 (sg.cards 3)]) (H1:=H1) (push_get hc hH1) rfl rfl
 refine⟨hc1,λH2 hH2=>?_⟩
 obtain⟨hr,hE⟩:=hs H2 hH2
 exact⟨hE H (Ext.push' hH1) (by omega),hr.1,hr.2.1,hr.2.2.1,hr⟩
theorem min_if(a b:Int):(if a<b then a else b)=min b a:=by
 by_cases h:a<b
 ·rw[if_pos h];omega
 ·rw[if_neg h];omega

set_option maxRecDepth 100000 in
theorem tr_Cards_c{H:zV}{b:Blk}{x:Hp}{q:TB}{t:Tr}(T:Tg H b x q t)(hcs:CardsOK t.cards):
  trace_Trace_Cards.C (some ⟨q.t,0,none⟩) H (λ_ H'=>Tg H' b {x with sp:=x.sp.lookCards t.old t.tgt t.cards} q t/\Fr (spB b) H H'):=by
 refine HC.via λR hR=>trace_Trace_Cards.link ?_
 unfold trace_Trace_Cards.pt zY
 refine HC.mono (tr_none_c T.toTc) ?_
 rintro _ H1 ⟨rfl,rfl⟩
 refine⟨_,rfl,?_⟩
 rw[if_neg (by rw[T.on];decide)]
 obtain⟨hcl,hcm⟩:=T.tr.clen
 refine⟨_,rfl,_,_,_,by rw[addr_add_mk];exact T.tr.cAt,?_⟩
 refine⟨λi H'=>(0<=i/\i<=q.cN)/\Tg H' b {x with sp:=x.sp.lookCards t.old t.tgt (t.cards.take i.toNat)} q t/\Fr (spB b) H1 H',λi _=>(q.cN-i).toNat,⟨by omega,T,Fr.refl _ _⟩,?_⟩
 rintro i H2 ⟨hi,T2,f2⟩
 by_cases hlt:i< (q.cN:Int)
 case neg=>
  rw[if_neg hlt]
  rw[List.take_of_length_le (by omega)]at T2
  exact hR _ _ ⟨T2,f2⟩
 rw[if_pos hlt]
 have hil:i.toNat<t.cards.length:=by omega
 obtain⟨ca,hca,hrow⟩:=src_card T2.tr.cards hil
 have hck:=hcs _ (List.getElem_mem hil)
 generalize hcd:t.cards[i.toNat]=cd at*
 refine⟨ca,hca,⟨hi.1,hlt⟩,cd.1,cd.2,hrow,λc3 H3 hc3 hH3=>?_⟩
 obtain⟨hcp,hs⟩:=boxed (vs:=[.int .i64 cd.1,.int .i64 cd.2]) (H1:=H3) (push_get hc3 hH3) rfl rfl
 refine⟨hcp,λH4 hH4=>?_⟩
 obtain⟨hr4,hE4⟩:=hs H4 hH4
 have e24:Ext H2 H4:=hE4 H2 (Ext.push' hH3) (by omega)
 have T4:=T2.grow e24
 have c3n: ∀j,j∈b.all\/j∈q.all->j≠c3:=λj hj=>by have:=T2.lt hj;omega
 obtain⟨p1,p2,p3,p4⟩:=T4.s1
 have hS1:hat H4 ⟨c3,0,none⟩=some (.int .i64 cd.1):=hr4.1
 have hS2:hat H4 ⟨c3,1,none⟩=some (.int .i64 cd.2):=hr4.2.1
 refine⟨_,p1,_,rfl,_,p2,_,rfl,_,p3,_,rfl,_,p4,_,hS1,?_⟩
 have rest: ∀(H7:zV),Ext H4 H7->trace_Trace_look.C (some ⟨q.t,0,none⟩) cd.1 (IntKind.wrap .i64 (cd.2*16)) (if(IntKind.wrap .i64 ((IntKind.wrap .i64 (cd.2+1))*16))< ((x.sp.lookCards t.old t.tgt (t.cards.take i.toNat)).mem.segOr cd.1).n then(IntKind.wrap .i64 ((IntKind.wrap .i64 (cd.2+1))*16))else((x.sp.lookCards t.old t.tgt (t.cards.take i.toNat)).mem.segOr cd.1).n) ((x.sp.lookCards t.old t.tgt (t.cards.take i.toNat)).mem.segOr cd.1).kind H7
   (λ_ H8=>((0<=IntKind.wrap .i64 (i+1)/\IntKind.wrap .i64 (i+1)<=q.cN)/\Tg H8 b {x with sp:=x.sp.lookCards t.old t.tgt (t.cards.take (IntKind.wrap .i64 (i+1)).toNat)} q t/\Fr (spB b) H1 H8)/\(q.cN-IntKind.wrap .i64 (i+1)).toNat< (q.cN-i).toNat):=by
  intro H7 e7
  have T7:=T4.grow e7
  have sgok:=segOr_ok T4.ok.mem cd.1
  have sgn:((x.sp.lookCards t.old t.tgt (t.cards.take i.toNat)).mem.segOr cd.1).n<=64:=sgok.n.2
  rw[w64 (n:=cd.2*16) (by omega),w64 (n:=cd.2+1) (by omega),w64 (n:=(cd.2+1)*16) (by omega),w64 (n:=i+1) (by omega),min_if]
  refine HC.mono (tr_look_c T7 hck.1 (by omega) (by omega)) ?_
  rintro _ H8 ⟨T8,f8⟩
  have f18:Fr (spB b) H1 H8:=f2.trans ((e24.trans e7).fr.trans f8)
  refine⟨⟨by omega,?_,f18⟩,by omega⟩
  have et:t.cards.take (i+1).toNat=t.cards.take i.toNat++[cd]:=by
   rw[show(i+1).toNat=i.toNat+1 by omega,List.take_succ_eq_append_getElem hil,hcd]
  rw[et,Sp.lookCards_snoc]
  exact T8
 constructor
 ·refine HC.mono (seg_Seg_c' T4.hp.cd.sp.mem) ?_
  rintro _ H5 ⟨rfl,e5⟩
  refine⟨_,_,_,_,_,_,_,_,rfl,λc6 H6 hc6 hH6=>?_⟩
  obtain⟨hcp6,hs6⟩:=head_slot ((x.sp.lookCards t.old t.tgt (t.cards.take i.toNat)).mem.segOr cd.1) hc6 hH6
  refine⟨hcp6,λH7 hH7=>?_⟩
  obtain⟨e7,g0,g1,g2,_⟩:=hs6 H7 hH7
  have e47:=e5.trans e7
  exact⟨_,e47.hat hS1,_,by rw[addr_add_mk];exact e47.hat hS2,_,by rw[addr_add_mk];exact g2,_,by rw[addr_add_mk];exact e47.hat hS2,_,by rw[addr_add_mk];exact g1,rest H7 e47⟩
 ·intro c9 H9 hc9 hH9
  have e9:Ext H4 H9:=Ext.push' hH9
  simp only[RowAt,and_true,addr_add_mk,Nat.add_zero]
  refine⟨e9.hat p1,e9.hat p2,e9.hat p3,e9.hat p4,e9.hat hS1,?_⟩
  refine HC.mono (seg_Seg_c' (T4.grow e9).hp.cd.sp.mem) ?_
  rintro _ H10 ⟨rfl,e10⟩
  obtain⟨hcA,hsA⟩:=boxed (vs:=[.int .i64 ((x.sp.lookCards t.old t.tgt (t.cards.take i.toNat)).mem.segOr cd.1).gen,.int .i64 ((x.sp.lookCards t.old t.tgt (t.cards.take i.toNat)).mem.segOr cd.1).kind,.int .i64 ((x.sp.lookCards t.old t.tgt (t.cards.take i.toNat)).mem.segOr cd.1).n,.int .i64 (((x.sp.lookCards t.old t.tgt (t.cards.take i.toNat)).mem.segOr cd.1).cards 0),.int .i64 (((x.sp.lookCards t.old t.tgt (t.cards.take i.toNat)).mem.segOr cd.1).cards 1),.int .i64 (((x.sp.lookCards t.old t.tgt (t.cards.take i.toNat)).mem.segOr cd.1).cards 2),.int .i64 (((x.sp.lookCards t.old t.tgt (t.cards.take i.toNat)).mem.segOr cd.1).cards 3)]) (H1:=H10) (e10.get (push_get hc9 hH9)) rfl rfl
  refine⟨_,_,_,_,_,_,_,_,rfl,hcA,λH11 hH11=>?_⟩
  obtain⟨hr11,hE11⟩:=hsA H11 hH11
  have e11:Ext H4 H11:=hE11 H4 (e9.trans e10) (by omega)
  exact⟨_,e11.hat hS1,_,e11.hat hS2,_,hr11.2.2.1,_,e11.hat hS2,_,hr11.2.1,rest H11 e11⟩

def seenAt(ks:List (Int×Value))(k:Int):Int:=match mget ks k with | some (.int .i64 n)=>n | _=>0
def SeenOK(ks:List (Int×Value)):Prop:= ∀k v,mget ks k=some v-> ∃n:Int,v=.int .i64 n/\0<=n/\n<=64
theorem seen_getD{ks:List (Int×Value)}(h:SeenOK ks)(k:Int):(mget ks k).getD (.int .i64 0)=.int .i64 (seenAt ks k)/\0<=seenAt ks k/\seenAt ks k<=64:=by
 unfold seenAt
 cases hm:mget ks k with
 | none=>exact⟨rfl,by decide,by decide⟩
 | some v=>
  obtain⟨n,rfl,h1,h2⟩:=h k v hm
  exact⟨rfl,h1,h2⟩
theorem mget_mput'(ks:List (Int×Value))(k a:Int)(v:Value):mget (mput ks k v) a=if a=k then some v else mget ks a:=by
 induction ks with
 | nil=>
  simp only[mput,mget,List.find?_cons]
  by_cases h:a=k
  ·simp[h]
  ·simp[h]
 | cons p ks ih=>
  simp only[mput]
  by_cases h:k=p.1
  ·rw[if_pos h]
   simp only[mget,List.find?_cons]
   by_cases ha:a=k
   ·simp[ha]
   ·simp[ha,<-h]
  ·rw[if_neg h]
   simp only[mget,List.find?_cons]at ih⊢
   by_cases ha:a=p.1
   ·subst ha
    have: ¬p.1=k:=λe=>h e.symm
    simp[this]
   ·simp only[ha,decide_false,Bool.false_eq_true]
    exact ih
theorem seenAt_put(ks:List (Int×Value))(k a n:Int):seenAt (mput ks k (.int .i64 n)) a=if a=k then n else seenAt ks a:=by
 unfold seenAt
 rw[mget_mput']
 by_cases h:a=k
 ·rw[if_pos h,if_pos h]
 ·rw[if_neg h,if_neg h]
theorem SeenOK.put{ks:List (Int×Value)}(h:SeenOK ks){k n:Int}(hn:0<=n/\n<=64):SeenOK (mput ks k (.int .i64 n)):=by
 intro a v hv
 rw[mget_mput']at hv
 by_cases ha:a=k
 ·rw[if_pos ha]at hv;cases hv;exact⟨n,rfl,hn⟩
 ·rw[if_neg ha]at hv;exact h a v hv
def mu(ks:List (Int×Value)):Nat:=((List.range 1024).map λk:Nat=>(64-seenAt ks k).toNat).sum
theorem sum_lt: ∀(l:List Nat) (f g:Nat->Nat) (k:Nat),k∈l->(∀i∈l,f i<=g i)->f k<g k->(l.map f).sum< (l.map g).sum
 | [],_,_,_,h,_,_=>by cases h
 | a::l,f,g,k,h,hle,hlt=>by
  simp only[List.map_cons,List.sum_cons]
  have ha:=hle a (by simp)
  have hs: ∀l':List Nat,(∀i∈l',f i<=g i)->(l'.map f).sum<=(l'.map g).sum:=by
   intro l' h'
   induction l' with
   | nil=>simp
   | cons b l' ih=>
    simp only[List.map_cons,List.sum_cons]
    have:=h' b (by simp)
    have:=ih (λi hi=>h' i (by simp[hi]))
    omega
  rcases List.mem_cons.1 h with rfl | h
  ·have:=hs l (λi hi=>hle i (by simp[hi]));omega
  ·have:=sum_lt l f g k h (λi hi=>hle i (by simp[hi])) hlt;omega
theorem mu_put{ks:List (Int×Value)}{k n:Int}(hk:0<=k/\k<1024)(h:seenAt ks k<n)(hn:n<=64):mu (mput ks k (.int .i64 n))<mu ks:=by
 unfold mu
 refine sum_lt _ _ _ k.toNat (by rw[List.mem_range];omega) (λi _=>?_) ?_
 ·rw[seenAt_put]
  by_cases e:(i:Int)=k
  ·rw[if_pos e,e];omega
  ·rw[if_neg e];exact Nat.le_refl _
 ·rw[seenAt_put,if_pos (by omega),show((k.toNat:Nat):Int)=k by omega];omega

inductive Drains (old:Nat->Bool) (T:Int) (s0:Sp) (k0:List (Int×Value)):Sp->List (Int×Value)->Prop
 | refl:Drains old T s0 k0 s0 k0
 | step {s:Sp} {ks:List (Int×Value)} (k:Int) (h:Drains old T s0 k0 s ks) (hk:s.mem.has k) (hg:(s.mem.seg k.toNat).gen=T) (ho:old k.toNat=false) (hn:seenAt ks k< (s.mem.seg k.toNat).n):
   Drains old T s0 k0 (s.look old T k (s.mem.seg k.toNat).kind (seenAt ks k) ((s.mem.seg k.toNat).n-seenAt ks k).toNat) (mput ks k (.int .i64 (s.mem.seg k.toNat).n))
def Drained(old:Nat->Bool)(T:Int)(s:Sp)(ks:List (Int×Value)):Prop:= ∀k:Nat,s.mem.has k->(s.mem.seg k).gen=T->old k=false->(s.mem.seg k).n<=seenAt ks k
theorem Drains.trans{old:Nat->Bool}{T:Int}{a b c:Sp}{ka kb kc:List (Int×Value)}(h:Drains old T a ka b kb)(k:Drains old T b kb c kc):Drains old T a ka c kc:=by
 induction k with
 | refl=>exact h
 | step k _ hk hg ho hn ih=>exact .step k ih hk hg ho hn
structure Heads (m m':Mem):Prop where
 limit:m'.limit=m.limit
 seg: ∀k,(m.seg k).taken≠0->(m'.seg k).gen=(m.seg k).gen/\(m'.seg k).kind=(m.seg k).kind/\(m'.seg k).taken=(m.seg k).taken/\(m.seg k).n<=(m'.seg k).n
 cards: ∀k,(m.seg k).taken≠0->(m'.seg k).cards=(m.seg k).cards
theorem Heads.refl(m:Mem):Heads m m:=⟨rfl,λ_ _=>⟨rfl,rfl,rfl,Int.le_refl _⟩,λ_ _=>rfl⟩
theorem Heads.trans{a b c:Mem}(h:Heads a b)(k:Heads b c):Heads a c:=⟨k.limit.trans h.limit,λi hi=>by
 obtain⟨h1,h2,h3,h4⟩:=h.seg i hi
 obtain⟨k1,k2,k3,k4⟩:=k.seg i (by rw[h3];exact hi)
 exact⟨k1.trans h1,k2.trans h2,k3.trans h3,Int.le_trans h4 k4⟩,λi hi=>(k.cards i (by rw[(h.seg i hi).2.2.1];exact hi)).trans (h.cards i hi)⟩
theorem Same'.heads{m m':Mem}(h:Same' m m'):Heads m m':=⟨h.limit,λk _=>⟨(h.seg k).1,(h.seg k).2.1,(h.seg k).2.2.2.1,by rw[(h.seg k).2.2.1];exact Int.le_refl _⟩,λk _=>(h.seg k).2.2.2.2⟩
theorem Grown.heads{m m':Mem}{a g k n:Int}(gr:Grown m m' a n g k)(hn:0<=n):Heads m m':=⟨gr.limit,λi hi=>by
 by_cases hj:i=(a / 64).toNat
 ·subst hj
  obtain⟨o1,o2,o3,o4,o5,o6⟩:=gr.old hi
  obtain⟨n1,n2,n3,n4⟩:=gr.new
  exact⟨n2.trans o1.symm,n3.trans o2.symm,o6,by rw[n4,o3];omega⟩
 ·rw[gr.others i hj];exact⟨rfl,rfl,rfl,Int.le_refl _⟩,λi hi=>by
 by_cases hj:i=(a / 64).toNat
 ·subst hj;exact(gr.old hi).2.2.2.2.1
 ·rw[gr.others i hj]⟩
theorem Heads.has{m m':Mem}(h:Heads m m'){k:Int}(hk:m.has k):m'.has k:=⟨hk.1,by rw[h.limit];exact hk.2.1,by rw[(h.seg _ hk.2.2).2.2.1];exact hk.2.2⟩
theorem Sp.visit_heads{s:Sp}(ok:SpOK s)(he:s.mem.Even){old:Nat->Bool}{T w:Int}(hw:IsWord w):Heads s.mem (s.visit old T w).1.mem:=by
 unfold Sp.visit
 split
 ·exact Heads.refl _
 split
 ·exact Heads.refl _
 split
 ·exact Heads.refl _
 rename_i h0
 split
 ·rename_i ha
  obtain⟨_,gr⟩:=Sp.alloc_ok ok ha
  have hs:=Mem.size_used ok.mem he hw h0
  exact((gr.heads (by omega)).trans (Same'.sets _ _ _).heads).trans (Same'.set _ _ _).heads
 ·exact Heads.refl _
theorem Sp.lookAt_heads{s:Sp}(ok:SpOK s)(he:s.mem.Even){old:Nat->Bool}{T a:Int}:Heads s.mem (s.lookAt old T a).mem:=
 (Sp.visit_heads ok he (Mem.read_word ok.mem a)).trans (Same'.wr _ _ _).heads
theorem Sp.visit_ok{s:Sp}(ok:SpOK s){old:Nat->Bool}{T w:Int}(hw:IsWord w)(ht:isOldW old w->True):SpOK (s.visit old T w).1:=by
 unfold Sp.visit
 split
 ·exact ok
 split
 ·exact ok
 split
 ·exact ok
 split
 ·rename_i ha
  obtain⟨ok2,gr⟩:=Sp.alloc_ok ok ha
  have hlim:=ok.mem.lim
  obtain⟨a0,a1,a2⟩:=gr.addr
  have ok3:=ok2.sets (s.alloc T (s.mem.kindOf w) (s.mem.sizeOf w)).2.1 (ws:=s.mem.row (w / 8) (s.mem.sizeOf w).toNat) (λv hv=>by
   unfold Mem.row at hv
   obtain⟨i,_,rfl⟩:=List.mem_map.1 hv
   exact(ok.mem.seg _).words _)
  exact ok3.withMem (ok3.mem.set (w / 8) ⟨by omega,by omega⟩) (λk h=>Mem.set_has.2 h) (λk=>⟨((Same'.set _ _ _).seg k).1,((Same'.set _ _ _).seg k).2.1⟩)
 ·exact ok
theorem Sp.lookAt_ok{s:Sp}(ok:SpOK s){old:Nat->Bool}{T a:Int}:SpOK (s.lookAt old T a):=
 SpOK.wr (Sp.visit_ok ok (Mem.read_word ok.mem a) (λ_=>trivial)) a (Sp.visit_word ok (Mem.read_word ok.mem a))
theorem Sp.look_ok{s:Sp}(ok:SpOK s)(he:s.mem.Even){old:Nat->Bool}{T seg kind lo:Int}: ∀n,SpOK (s.look old T seg kind lo n)/\(s.look old T seg kind lo n).mem.Even/\Heads s.mem (s.look old T seg kind lo n).mem
 | 0=>⟨ok,he,Heads.refl _⟩
 | n+1=>by
  obtain⟨h1,h2,h3⟩:=Sp.look_ok ok he (old:=old) (T:=T) (seg:=seg) (kind:=kind) (lo:=lo) n
  unfold Sp.look
  split
  ·exact⟨Sp.lookAt_ok h1,Sp.lookAt_even h1 h2 _ _ _,h3.trans (Sp.lookAt_heads h1 h2)⟩
  ·exact⟨h1,h2,h3⟩
theorem Drains.heads{old:Nat->Bool}{T:Int}{a b:Sp}{ka kb:List (Int×Value)}(h:Drains old T a ka b kb)(ok:SpOK a)(he:a.mem.Even):SpOK b/\b.mem.Even/\Heads a.mem b.mem:=by
 induction h with
 | refl=>exact⟨ok,he,Heads.refl _⟩
 | step k _ _ _ _ _ ih=>
  obtain⟨h1,h2,h3⟩:=ih
  obtain⟨k1,k2,k3⟩:=Sp.look_ok h1 h2 (old:=old) (T:=T) (seg:=k) (kind:=(_:Int)) (lo:=_) _
  exact⟨k1,k2,h3.trans k3⟩
