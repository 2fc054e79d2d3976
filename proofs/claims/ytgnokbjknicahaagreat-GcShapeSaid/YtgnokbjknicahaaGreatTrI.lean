/-
 A trace ends; the weak pairs that it may break (package trace): End, Weaks. Proves nothing of any one statement.
-/
import Derived.Test.YtgnokbjknicahaaGreatTrH
set_option linter.unusedVariables false
set_option linter.unusedSimpArgs false
namespace Go.Proofs.YtgnokbjknicahaaGreat
open Go

def Sp.gives(s:Sp)(old:Nat->Bool):Nat->Sp
 | 0=>s
 | n+1=>if old n then(s.gives old n).give n else s.gives old n
def Sp.agains(s:Sp)(l:List (Int×Int)):Sp:=l.foldl (λs c=>{s with mem:=s.mem.again c.1 c.2}) s
def Sp.ended(s:Sp)(t:Tr):Sp:=(s.gives t.old 1024).agains t.cards
theorem Sp.agains_snoc(s:Sp)(l:List (Int×Int))(c:Int×Int):s.agains (l++[c])={s.agains l with mem:=(s.agains l).mem.again c.1 c.2}:=by
 unfold Sp.agains;rw[List.foldl_append];rfl
theorem Sp.gives_ok{s:Sp}(ok:SpOK s)(old:Nat->Bool): ∀n,SpOK (s.gives old n)
 | 0=>ok
 | n+1=>by
  unfold Sp.gives
  split
  ·exact Sp.give_ok (Sp.gives_ok ok old n) _
  ·exact Sp.gives_ok ok old n
theorem Mem.give_even{m:Mem}(he:m.Even)(k:Int):(m.give k).Even:=by
 unfold Mem.give
 split
 ·intro i hi
  rw[Mem.upd_seg]at hi⊢
  split
  ·rfl
  ·rename_i h;rw[if_neg h]at hi;exact he i hi
 ·exact he
theorem Sp.give_even{s:Sp}(he:s.mem.Even)(k:Int):(s.give k).mem.Even:=by
 unfold Sp.give
 split
 ·exact Mem.give_even he k
 ·exact he
theorem Sp.gives_even{s:Sp}(he:s.mem.Even)(old:Nat->Bool): ∀n,(s.gives old n).mem.Even
 | 0=>he
 | n+1=>by
  unfold Sp.gives
  split
  ·exact Sp.give_even (Sp.gives_even he old n) _
  ·exact Sp.gives_even he old n
theorem Mem.again_seg(m:Mem)(k c:Int):(m.again k c).limit=m.limit/\(m.again k c).free=m.free/\(m.again k c).count=m.count/\ ∀i,((m.again k c).seg i).gen=(m.seg i).gen/\((m.again k c).seg i).kind=(m.seg i).kind/\((m.again k c).seg i).n=(m.seg i).n/\((m.again k c).seg i).taken=(m.seg i).taken/\((m.again k c).seg i).words=(m.seg i).words:=by
 unfold Mem.again
 split
 ·unfold Mem.mark
  split
  ·exact⟨rfl,rfl,rfl,λi=>⟨rfl,rfl,rfl,rfl,rfl⟩⟩
  split
  ·exact⟨rfl,rfl,rfl,λi=>⟨rfl,rfl,rfl,rfl,rfl⟩⟩
  ·refine⟨rfl,rfl,rfl,λi=>?_⟩
   rw[Mem.upd_seg]
   split
   ·rename_i h;rw[h];exact⟨rfl,rfl,rfl,rfl,rfl⟩
   ·exact⟨rfl,rfl,rfl,rfl,rfl⟩
 ·exact⟨rfl,rfl,rfl,λi=>⟨rfl,rfl,rfl,rfl,rfl⟩⟩
theorem Mem.again_has(m:Mem)(k c:Int){i:Int}:(m.again k c).has i ↔ m.has i:=by
 obtain⟨h1,_,_,h2⟩:=m.again_seg k c
 unfold Mem.has;rw[h1,(h2 _).2.2.2.1]
theorem Mem.again_ok{m:Mem}(ok:MemOK m)(k c:Int):MemOK (m.again k c):=by
 unfold Mem.again
 split
 ·exact ok.mark _ _ _
 ·exact ok
theorem SpOK.again{s:Sp}(ok:SpOK s)(k c:Int):SpOK {s with mem:=s.mem.again k c}:=
 ok.withMem (Mem.again_ok ok.mem k c) (λi h=>(Mem.again_has _ _ _).2 h) (λi=>⟨((s.mem.again_seg k c).2.2.2 i).1,((s.mem.again_seg k c).2.2.2 i).2.1⟩)
theorem TrAt.putOver{H:zV}{b:Blk}{q:TB}{t:Tr}(h:TrAt H b q t):
  CanPuts H ⟨q.t,1029,none⟩ 0 1/\Fr [q.t] H (hputs H ⟨q.t,1029,none⟩ [.int .i64 1] 0)/\TrAt (hputs H ⟨q.t,1029,none⟩ [.int .i64 1] 0) b q {t with over:=true}:=by
 obtain⟨p1,p2,cs,cs',p3,p4,p5,p6⟩:=h.put (o:=1029) (v:=.int .i64 1) (by omega)
 obtain⟨r1,r2,r3⟩:=h.rest p2
 refine⟨p1,p2,?_⟩
 obtain⟨cs0,h1,h2,h3,h4,h5,h6,h7,h8,h9⟩:=h.tr
 rw[p3]at h1;cases h1
 exact⟨⟨cs',p4,by omega,by rw[p6,if_neg (by omega)];exact h3,by rw[p6,if_neg (by omega)];exact h4,λi hi=>by rw[p6,if_neg (by omega)];exact h5 i hi,by rw[p6,if_neg (by omega)];exact h6,by rw[p6,if_neg (by omega)];exact h7,by rw[p6,if_neg (by omega)];exact h8,by rw[p6,if_pos rfl];rfl⟩,r1,r2,r3,λa ha=>Nat.lt_of_lt_of_le (h.cB a ha) p2.size,h.clen,h.ne⟩
set_option maxRecDepth 100000 in
theorem tr_End_p{H:zV}{b:Blk}{x:Hp}{q:TB}{t:Tr}{R:zk}(T:Tg H b x q t)
  (hR: ∀v H',HpAt H' b {x with sp:=x.sp.ended t,ep:=IntKind.wrap .u64 (x.ep+1)}/\TrAt H' b q {t with over:=true}/\Fr (b.h::q.t::spB b) H H'->R v H'):trace_Trace_End.pt (some ⟨q.t,0,none⟩) H R:=by
 unfold trace_Trace_End.pt zY
 refine HC.mono (tr_none_c T.toTc) ?_
 rintro _ H1 ⟨rfl,rfl⟩
 refine⟨_,rfl,?_⟩
 rw[if_neg (by rw[T.on];decide)]
 have hold:RowAt H1 ⟨q.t,2,none⟩ 0 ((List.range 1024).map λk=> .int .i64 (if t.old k then 1 else 0)):=by
  obtain⟨cs,h1,_,_,_,h5,_⟩:=T.tr.tr
  refine rowAt_blk h1 _ 2 0 (λj hj=>?_)
  simp only[List.length_map,List.length_range]at hj
  rw[Nat.add_zero,h5 j hj,List.getElem?_map,List.getElem?_range hj];rfl
 refine⟨_,rfl,(List.range 1024).map (λk=> .int .i64 (if t.old k then 1 else 0)),by rw[List.length_map,List.length_range],by rw[addr_add_mk];exact hold,?_⟩
 refine⟨λi A=>(0<=i/\i<=1024)/\Tc A b {x with sp:=x.sp.gives t.old i.toNat} q t/\Fr (spB b) H1 A,λi _=>(1024-i).toNat,⟨by omega,T.toTc,Fr.refl _ _⟩,?_⟩
 rintro i H2 ⟨hi,T2,f2⟩
 by_cases hlt:i<1024
 ·rw[if_pos hlt]
  have hin:i.toNat<1024:=by omega
  have hd:(1024-(i+1)).toNat< (1024-i).toNat:=by omega
  have hw:IntKind.wrap .i64 (i+1)=i+1:=w64 (by omega)
  have hs1:(i+1).toNat=i.toNat+1:=by omega
  refine⟨(if t.old i.toNat then 1 else 0),⟨⟨hi.1,hlt⟩,?_⟩,?_⟩
  ·rw[List.getElem?_toArray,List.getElem?_map,List.getElem?_range hin];rfl
  by_cases ho:t.old i.toNat=true
  ·rw[if_pos (by rw[if_pos ho])]
   obtain⟨p1,p2,p3,p4⟩:=T2.s1
   refine⟨_,p1,_,rfl,_,p2,_,rfl,_,p3,?_⟩
   refine HC.mono (space_Give_c T2.hp.cd.sp T2.ok (by omega)) ?_
   rintro _ H3 ⟨⟨e,rfl⟩,sp3,f3⟩
   rw[hw]
   refine⟨_,rfl,⟨by omega,?_,f2.trans f3⟩,hd⟩
   have es:x.sp.gives t.old (i+1).toNat=(x.sp.gives t.old i.toNat).give i:=by rw[hs1];show(if _ then _ else _)=_;rw[if_pos ho,show((i.toNat:Nat):Int)=i by omega]
   rw[es]
   exact T2.step f3 (λj hj=>spB_all hj) (T2.hp.withSp f3 (λj hj=>by simp at hj;omega) sp3) (Sp.give_ok T2.ok i)
  ·rw[if_neg (by rw[if_neg ho];decide),hw]
   refine⟨⟨by omega,?_,f2⟩,hd⟩
   have es:x.sp.gives t.old (i+1).toNat=x.sp.gives t.old i.toNat:=by rw[hs1];show(if _ then _ else _)=_;rw[if_neg ho]
   rw[es];exact T2
 rw[if_neg hlt]
 have hi24:i.toNat=1024:=by omega
 rw[hi24]at T2
 have ev2:=Sp.gives_even T.even t.old 1024
 refine⟨_,_,_,by rw[addr_add_mk];exact T2.tr.cAt,?_⟩
 obtain⟨hcl,hcm⟩:=T.tr.clen
 refine⟨λi A=>(0<=i/\i<=q.cN)/\Tc A b {x with sp:=(x.sp.gives t.old 1024).agains (t.cards.take i.toNat)} q t/\Fr (spB b) H1 A,λi _=>(q.cN-i).toNat,⟨by omega,T2,f2⟩,?_⟩
 rintro i H4 ⟨hi4,T4,f4⟩
 by_cases hl4:i< (q.cN:Int)
 ·rw[if_pos hl4]
  have hil:i.toNat<t.cards.length:=by omega
  obtain⟨ca,hca,hrow⟩:=src_card T4.tr.cards hil
  have hd:((q.cN:Int)-(i+1)).toNat< ((q.cN:Int)-i).toNat:=by omega
  generalize hcd:t.cards[i.toNat]=cd at*
  refine⟨ca,hca,⟨hi4.1,hl4⟩,cd.1,cd.2,hrow,λc5 H5 hc5 hH5=>?_⟩
  obtain⟨hcp,hs⟩:=boxed (vs:=[.int .i64 cd.1,.int .i64 cd.2]) (H1:=H5) (push_get hc5 hH5) rfl rfl
  refine⟨hcp,λH6 hH6=>?_⟩
  obtain⟨hr6,hE6⟩:=hs H6 hH6
  have e46:Ext H4 H6:=hE6 H4 (Ext.push' hH5) (by omega)
  have T6:=T4.ext e46
  obtain⟨p1,p2,p3,p4⟩:=T6.s1
  refine⟨_,p1,_,rfl,_,p2,_,hr6.1,_,by rw[addr_add_mk];exact hr6.2.1,?_⟩
  refine HC.mono (card_Again_c T6.hp.cd T6.ok (λj hj=>T6.hp.lt j (by simp at hj;simp[Blk.all];omega))) ?_
  rintro _ H7 ⟨⟨e,rfl⟩,cd7,f7⟩
  rw[w64 (n:=i+1) (by omega)]
  refine⟨_,rfl,⟨by omega,?_,f4.trans (e46.fr.trans (f7.mono (λj hj _=>by simp at hj;simp[spB];omega)))⟩,hd⟩
  have et:t.cards.take (i+1).toNat=t.cards.take i.toNat++[cd]:=by
   rw[show(i+1).toNat=i.toNat+1 by omega,List.take_succ_eq_append_getElem hil,hcd]
  rw[et,Sp.agains_snoc]
  exact T6.step f7 (λj hj=>by simp at hj;simp[Blk.all];omega) (T6.hp.withCd f7 (λj hj=>by simp at hj;omega) cd7) (T6.ok.again cd.1 cd.2)
 rw[if_neg hl4]
 rw[List.take_of_length_le (by omega)]at T4
 refine⟨_,T4.tr.hPtr,?_⟩
 refine HC.mono (obj_Next_c T4.view) ?_
 rintro _ H8 ⟨V8,f8⟩
 have hnh: ∀j∈hown (some (b,x)),j ∉ q.all:=λj hj hq=>T.apart j hq (by simp[hown]at hj;simp[Blk.all,hj])
 have tr8:=T4.tr.keep f8 (λj hj=>hnh j hj)
 obtain⟨_,hp8,ok8⟩:=View.inv V8
 have hput:=tr8.putOver
 rw[addr_add_mk]
 refine⟨hput.1,λH9 hH9=>?_⟩
 rw[show(0:Nat)+1029=1029 from rfl]at hH9
 subst hH9
 refine hR _ _ ⟨hp8.keep hput.2.1 (λj hj hb=>T.apart q.t (by simp[TB.all]) (by simp at hj;rw[<-hj];exact hb)),hput.2.2,?_⟩
 refine((f4.mono (λj hj _=>by simp[hj])).trans (f8.mono (λj hj _=>by simp[hown]at hj;simp[hj]))).trans (hput.2.1.mono (λj hj _=>by simp at hj;simp[hj]))

theorem tr_End_d{H:zV}{b:Blk}{x:Hp}{q:TB}{t:Tr}(T:Tg H b x q t):
  trace_Trace_End.CD (some ⟨q.t,0,none⟩) H (λH'=>HpAt H' b {x with sp:=x.sp.ended t,ep:=IntKind.wrap .u64 (x.ep+1)}/\TrAt H' b q {t with over:=true}/\Fr (b.h::q.t::spB b) H H'):=
 HD.mono (trace_Trace_End.linkD (tr_End_p (R:=λ_ H'=>HpAt H' b {x with sp:=x.sp.ended t,ep:=IntKind.wrap .u64 (x.ep+1)}/\TrAt H' b q {t with over:=true}/\Fr (b.h::q.t::spB b) H H') T (λ_ _ h=>h))) (λ_ ⟨_,h⟩=>h)

def weakLen(lo hi:Int):Nat:=((hi-lo+1) / 2).toNat
def weakRow(k lo:Int)(n:Nat):List Int:=(List.range n).map λj:Nat=>k*64+(lo+2*(j:Int))
theorem weakRow_succ(k lo:Int)(n:Nat):weakRow k lo (n+1)=weakRow k lo n++[k*64+(lo+2*(n:Int))]:=by
 unfold weakRow;rw[List.range_succ,List.map_append];rfl
theorem weakRow_len(k lo:Int)(n:Nat):(weakRow k lo n).length=n:=by simp[weakRow]
def Mem.weakSeg(m:Mem)(t:Tr)(k:Nat):List Int:=if(m.seg k).kind=1/\t.old k=false then weakRow k (seenAt t.frm k) (weakLen (seenAt t.frm k) (m.seg k).n)else[]
def Mem.weakCard(m:Mem)(c:Int×Int):List Int:=if(m.segOr c.1).kind=1 then weakRow c.1 (c.2*16) (weakLen (c.2*16) (min (m.segOr c.1).n ((c.2+1)*16)))else[]
def Mem.weaks(m:Mem)(t:Tr)(l:List Nat):List Int:=l.flatMap (m.weakSeg t)++t.cards.flatMap m.weakCard
set_option maxRecDepth 100000 in
theorem weaks_add_c{H:zV}{k lo hi:Int}{c n cc:Nat}{B:zW}{ws:List Int}(hk:0<=k/\k<1024)(hl:0<=lo/\lo<=64)(hh:hi<=64)(hc:H[c]?=some (.cells #[.slice B n cc] 67 (0,0)))(how:Own H 3 1 B n cc (ivs ws))(hcB:c ∉ blks B)(hn:n<=1000000)(hnw:n=ws.length):
  trace_Trace_Weaks_1.C k lo hi (some ⟨c,0,none⟩) H (λ_ H'=> ∃(B':zW) (cc':Nat),H'[c]?=some (.cells #[.slice B' (n+weakLen lo hi) cc'] 67 (0,0))/\Own H' 3 1 B' (n+weakLen lo hi) cc' (ivs (ws++weakRow k lo (weakLen lo hi)))/\Fr (c::blks B) H H'/\(∀j∈blks B',j∈blks B\/H.size<=j)):=by
 refine HC.via λR hR=>trace_Trace_Weaks_1.link ?_
 unfold trace_Trace_Weaks_1.pt zY
 have wl:weakLen lo hi<=33:=by unfold weakLen;omega
 have hcl:=lt_size hc
 refine⟨λi A=> ∃(j:Nat) (B':zW) (cc':Nat),i=lo+2*(j:Int)/\j<=weakLen lo hi/\A[c]?=some (.cells #[.slice B' (n+j) cc'] 67 (0,0))/\Own A 3 1 B' (n+j) cc' (ivs (ws++weakRow k lo j))/\Fr (c::blks B) H A/\(∀j∈blks B',j∈blks B\/H.size<=j),λi _=>(100-i).toNat,
  ⟨0,B,cc,by omega,by omega,hc,by simpa[weakRow]using how,Fr.refl _ _,λj hj=> .inl hj⟩,?_⟩
 rintro i A ⟨j,B',cc',rfl,hj,hcA,howA,fA,hB'⟩
 by_cases hlt:lo+2*(j:Int)<hi
 ·rw[if_pos hlt]
  have hjl:j+1<=weakLen lo hi:=by unfold weakLen;omega
  refine⟨_,rfl,_,_,_,by rw[hat_blk hcA];rfl,?_⟩
  rw[w64 (n:=k*64) (by omega),w64 (n:=k*64+(lo+2*(j:Int))) (by omega),w64 (n:=lo+2*(j:Int)+2) (by omega)]
  intro c2 H2 hc2 hH2
  have e2:Ext A H2:=Ext.push' hH2
  refine own_append (ys:=[.int .i64 (k*64+(lo+2*(j:Int)))]) (howA.ext e2) (rowAt_blk (push_get hc2 hH2) _ 0 0 (λj hj=>by
   simp only[List.length_cons,List.length_nil]at hj
   obtain rfl:j=0:=by omega
   rfl)) rfl rfl rfl (by omega) ?_
  intro p' c' H3 how3 f3 hn3
  have hcB':c ∉ blks B':=λh=>by
   rcases hB' c h with q | q
   ·exact hcB q
   ·omega
  have hc3:=f3.get hcB' (e2.get hcA)
  obtain⟨hcp,hs⟩:=box_set (vs:=[.slice p' (n+j+1) c']) hc3 rfl rfl
  refine⟨hcp,λH4 hH4=>?_⟩
  obtain⟨g4,f4⟩:=hs H4 hH4
  have hp'c: ∀i∈blks p',i∈blks B'\/A.size<=i:=λi hi=>by
   rcases hn3 i hi with q | q
   ·exact .inl q
   ·have:=e2.size;exact .inr (by omega)
  have hcA':c<A.size:=by have:=fA.size;omega
  have how4:=how3.keep f4 (λi hi hm=>by
   simp at hm
   rcases hp'c i hi with q | q
   ·exact hcB' (hm▸q)
   ·omega)
  have zA:=fA.size
  refine⟨⟨j+1,p',c',by omega,hjl,g4,?_,?_,λi hi=>?_⟩,by show(100-(lo+2*(j:Int)+2)).toNat< (100-(lo+2*(j:Int))).toNat;omega⟩
  ·rw[weakRow_succ,<-List.append_assoc]
   unfold ivs at how4⊢
   rw[List.map_append];exact how4
  ·refine((fA.trans e2.fr).trans' f3 (λi hi _=>hi) (λi hi hl=>?_)).trans (f4.mono (λi hi _=>by simp at hi;simp[hi]))
   rcases hB' i hi with q | q
   ·exact List.mem_cons_of_mem _ q
   ·omega
  ·rcases hp'c i hi with q | q
   ·exact hB' i q
   ·exact .inr (by omega)
 ·rw[if_neg hlt]
  have hjl:j=weakLen lo hi:=by unfold weakLen at*;omega
  subst hjl
  exact hR _ _ ⟨B',cc',hcA,howA,fA,hB'⟩

theorem Mem.weakSeg_len{m:Mem}(ok:MemOK m){t:Tr}(hf:SeenOK t.frm)(k:Nat):(m.weakSeg t k).length<=33:=by
 unfold Mem.weakSeg
 split
 ·rw[weakRow_len]
  obtain⟨_,h1,h2⟩:=seen_getD hf (k:Int)
  have:=(ok.seg k).n
  unfold weakLen;omega
 ·exact Nat.zero_le _
theorem Mem.weakCard_len{m:Mem}(ok:MemOK m){c:Int×Int}(hc:0<=c.2):(m.weakCard c).length<=33:=by
 unfold Mem.weakCard
 split
 ·rw[weakRow_len]
  have:=(segOr_ok ok c.1).n
  unfold weakLen;omega
 ·exact Nat.zero_le _
theorem flatMap_le{α β:Type}{f:α->List β}{n:Nat}: ∀l:List α,(∀a∈l,(f a).length<=n)->(l.flatMap f).length<=n*l.length
 | [],_=>by simp
 | a::l,h=>by
  have h1:=h a (by simp)
  have h2:=flatMap_le l (λb hb=>h b (by simp[hb]))
  rw[List.flatMap_cons,List.length_append,List.length_cons,Nat.mul_succ];omega
set_option maxRecDepth 100000 in
theorem tr_Weaks_c{H:zV}{b:Blk}{x:Hp}{q:TB}{t:Tr}(T:Tg H b x q t)(hf:SeenOK t.frm)(hcs:CardsOK t.cards):
  trace_Trace_Weaks.C (some ⟨q.t,0,none⟩) H (λv H'=> ∃(l:List Nat) (B:zW) (n c:Nat),IsTaken x.sp.mem [t.tgt] l/\v=.slice B n c/\n=(x.sp.mem.weaks t l).length/\Own H' 3 1 B n c (ivs (x.sp.mem.weaks t l))/\(∀j∈blks B,H.size<=j)/\n<=300000/\Ext H H'):=by
 refine HC.via λR hR=>trace_Trace_Weaks.link ?_
 unfold trace_Trace_Weaks.pt zY
 refine HC.mono (tr_none_c T.toTc) ?_
 rintro _ H1 ⟨rfl,rfl⟩
 refine⟨_,rfl,?_⟩
 rw[if_neg (by rw[T.on];decide)]
 intro c2 H2 hc2 hH2
 have e2:Ext H1 H2:=Ext.push' hH2
 have g2:=push_get hc2 hH2
 have z2:H2.size=H1.size+1:=by rw[hH2];simp
 have T2:=T.grow e2
 obtain⟨p1,p2,p3,p4⟩:=T2.s1
 refine⟨_,rfl,_,p1,_,rfl,_,p2,_,rfl,_,p3,_,rfl,_,p4,_,by rw[addr_add_mk];exact T2.tr.tgtAt,?_⟩
 intro c3 H3 hc3 hH3
 have e3:Ext H2 H3:=Ext.push' hH3
 have g3:=push_get hc3 hH3
 have z3:H3.size=H2.size+1:=by rw[hH3];simp
 have T3:=T2.grow e3
 refine⟨row1 (e3.hat p1),row1 (e3.hat p2),row1 (e3.hat p3),row1 (e3.hat p4),?_⟩
 refine HC.mono (seg_Taken_c (gs:=[t.tgt]) T3.hp.cd.sp.mem T3.ok.mem (show SrcAt H3 (some ⟨c3,0,none⟩) (ivs [t.tgt])from row1 (by rw[hat_blk g3];rfl)) rfl (by decide)) ?_
 rintro _ H4 ⟨wB,wC,l,rfl,hl,howl,hfl,e4⟩
 refine⟨_,_,_,rfl,?_⟩
 have hllen:=hl.len
 have hlim:=T.ok.mem.lim
 have e14:=(e2.trans e3).trans e4
 have z4:=e4.size
 have okm:=T.ok.mem
 refine⟨λi A=>(0<=i/\i<=l.length)/\ ∃(B:zW) (c:Nat),A[c2]?=some (.cells #[.slice B ((l.take i.toNat).flatMap (x.sp.mem.weakSeg t)).length c] 67 (0,0))/\Own A 3 1 B ((l.take i.toNat).flatMap (x.sp.mem.weakSeg t)).length c (ivs ((l.take i.toNat).flatMap (x.sp.mem.weakSeg t)))/\Ext H1 A/\Own A 3 1 wB l.length wC (ivs (l.map λi:Nat=>(i:Int)))/\(∀j∈blks B,H2.size<=j/\j ∉ blks wB)/\H4.size<=A.size,λi _=>(l.length-i).toNat,
  ⟨⟨by omega,by omega⟩,none,0,(e3.trans e4).get g2,own_nil,e14,howl,by simp,Nat.le_refl _⟩,?_⟩
 rintro i H5 ⟨hi,B,cB,gB,howB,e5,howl5,hB,z5⟩
 have hwBlt: ∀j∈blks wB,H3.size<=j/\j<H4.size:=λj hj=>⟨hfl j hj,howl.lt j hj⟩
 by_cases hlt:i< (l.length:Int)
 ·rw[if_pos hlt]
  have hil:i.toNat<l.length:=by omega
  obtain⟨a,ha,hata⟩:=ivs_at howl5 hil
  obtain⟨khas,klim,kpos,_⟩:=hl.has (List.getElem_mem hil)
  have htk:l.take (i+1).toNat=l.take i.toNat++[l[i.toNat]]:=by rw[show(i+1).toNat=i.toNat+1 by omega,List.take_succ_eq_append_getElem hil]
  have hlen:=flatMap_le (f:=x.sp.mem.weakSeg t) (n:=33) (l.take i.toNat) (λk _=>Mem.weakSeg_len okm hf k)
  have hlen2:(l.take i.toNat).length<=1024:=by rw[List.length_take];omega
  generalize hk:l[i.toNat]=k at*
  have hd:((l.length:Int)-(i+1)).toNat< ((l.length:Int)-i).toNat:=by omega
  have hw:IntKind.wrap .i64 (i+1)=i+1:=w64 (by omega)
  have hfm:(l.take (i+1).toNat).flatMap (x.sp.mem.weakSeg t)=(l.take i.toNat).flatMap (x.sp.mem.weakSeg t)++x.sp.mem.weakSeg t k:=by rw[htk,List.flatMap_append];simp
  have T5:=T.grow e5
  obtain⟨p1,p2,p3,p4⟩:=T5.s1
  refine⟨a,ha,⟨hi.1,hlt⟩,_,hata,_,p1,_,rfl,_,p2,_,rfl,_,p3,_,rfl,_,p4,?_⟩
  refine HC.mono (seg_Seg_c' T5.hp.cd.sp.mem) ?_
  rintro _ H6 ⟨rfl,e6⟩
  have hsg:x.sp.mem.segOr k=x.sp.mem.seg k:=by unfold Mem.segOr;rw[if_pos khas,show((k:Nat):Int).toNat=k by omega]
  rw[hsg]
  refine⟨_,_,_,_,_,_,_,_,rfl,λc7 H7 hc7 hH7=>?_⟩
  obtain⟨hcp,hs⟩:=head_slot (x.sp.mem.seg k) hc7 hH7
  refine⟨hcp,λH8 hH8=>?_⟩
  obtain⟨e8,_,g1,gn,_⟩:=hs H8 hH8
  have e58:=e6.trans e8
  have T8:=T5.grow e58
  have z8:=e58.size
  rw[hw]
  have skip:x.sp.mem.weakSeg t k=[]->(((0<=i+1/\i+1<=l.length)/\ ∃(B:zW) (c:Nat),H8[c2]?=some (.cells #[.slice B ((l.take (i+1).toNat).flatMap (x.sp.mem.weakSeg t)).length c] 67 (0,0))/\Own H8 3 1 B ((l.take (i+1).toNat).flatMap (x.sp.mem.weakSeg t)).length c (ivs ((l.take (i+1).toNat).flatMap (x.sp.mem.weakSeg t)))/\Ext H1 H8/\Own H8 3 1 wB l.length wC (ivs (l.map λi:Nat=>(i:Int)))/\(∀j∈blks B,H2.size<=j/\j ∉ blks wB)/\H4.size<=H8.size)/\((l.length:Int)-(i+1)).toNat< ((l.length:Int)-i).toNat):=λhz=>by
   rw[hfm,hz,List.append_nil]
   exact⟨⟨by omega,B,cB,e58.get gB,howB.ext e58,e5.trans e58,howl5.ext e58,hB,by omega⟩,hd⟩
  refine⟨_,by rw[addr_add_mk];exact g1,?_⟩
  by_cases hk1:(x.sp.mem.seg k).kind=1
  case neg=>rw[if_neg hk1];exact skip (by unfold Mem.weakSeg;rw[if_neg (λh=>hk1 h.1)])
  rw[if_pos hk1]
  refine⟨⟨by omega,by omega⟩,(if t.old k then 1 else 0),by rw[show((k:Nat):Int).toNat=k by omega,addr_add_mk,addr_add_mk,Nat.zero_add,Nat.mul_one];exact T8.tr.oldAt (by omega),?_⟩
  by_cases ho:t.old k=true
  ·rw[if_neg (by rw[if_pos ho];decide)];exact skip (by unfold Mem.weakSeg;rw[if_neg (λh=>by rw[ho]at h;cases h.2)])
  rw[if_pos (by rw[if_neg ho])]
  have ho':t.old k=false:=by simpa using ho
  obtain⟨es,cl,hes,hen⟩:=T8.tr.frm
  obtain⟨hget,hs0,hs64⟩:=seen_getD hf (k:Int)
  have hn64:=(okm.seg k).n
  refine⟨_,by rw[addr_add_mk];exact T8.tr.fAt,_,by rw[addr_add_mk];exact gn,_,rfl,es,cl,_,hes,hen,_,hget,by rw[addr_add_mk];exact row1 gn,?_⟩
  have c2B:c2 ∉ blks B:=λh=>by have:=hB c2 h;omega
  refine HC.mono (weaks_add_c (H:=H8) (c:=c2) (ws:=(l.take i.toNat).flatMap (x.sp.mem.weakSeg t)) (by omega) ⟨hs0,hs64⟩ hn64.2 (e58.get gB) (howB.ext e58) c2B (by omega) rfl) ?_
  rintro _ H9 ⟨B',c',g9,how9,f9,hB'⟩
  have hws:x.sp.mem.weakSeg t k=weakRow k (seenAt t.frm k) (weakLen (seenAt t.frm k) (x.sp.mem.seg k).n):=by unfold Mem.weakSeg;rw[if_pos ⟨hk1,ho'⟩]
  have hlen3:((l.take (i+1).toNat).flatMap (x.sp.mem.weakSeg t)).length=((l.take i.toNat).flatMap (x.sp.mem.weakSeg t)).length+weakLen (seenAt t.frm k) (x.sp.mem.seg k).n:=by rw[hfm,List.length_append,hws,weakRow_len]
  refine⟨⟨by omega,B',c',by rw[hlen3];exact g9,by rw[hlen3,hfm,hws];exact how9,(e5.trans e58).fr_trans f9 (λj hj=>?_),(howl5.ext e58).keep f9 (λj hj hm=>?_),λj hj=>?_,by have:=f9.size;omega⟩,hd⟩
  ·rcases List.mem_cons.1 hj with h | h
   ·omega
   ·have:=hB j h;omega
  ·rcases List.mem_cons.1 hm with h | h
   ·have:=hwBlt j hj;omega
   ·exact(hB j h).2 hj
  ·rcases hB' j hj with h | h
   ·exact hB j h
   ·exact⟨by omega,λhm=>by have:=hwBlt j hm;omega⟩
 rw[if_neg hlt]
 rw[List.take_of_length_le (by omega)]at gB howB
 have hlenA:=flatMap_le (f:=x.sp.mem.weakSeg t) (n:=33) l (λk _=>Mem.weakSeg_len okm hf k)
 have T5:=T.grow e5
 obtain⟨hcl,hcm⟩:=T.tr.clen
 refine⟨_,_,_,by rw[addr_add_mk];exact T5.tr.cAt,?_⟩
 generalize hW:l.flatMap (x.sp.mem.weakSeg t)=W at*
 refine⟨λi A=>(0<=i/\i<=q.cN)/\ ∃(B:zW) (c:Nat),A[c2]?=some (.cells #[.slice B (W++(t.cards.take i.toNat).flatMap x.sp.mem.weakCard).length c] 67 (0,0))/\Own A 3 1 B (W++(t.cards.take i.toNat).flatMap x.sp.mem.weakCard).length c (ivs (W++(t.cards.take i.toNat).flatMap x.sp.mem.weakCard))/\Ext H1 A/\(∀j∈blks B,H2.size<=j)/\H4.size<=A.size,λi _=>(q.cN-i).toNat,
  ⟨⟨by omega,by omega⟩,B,cB,by simpa using gB,by simpa using howB,e5,λj hj=>(hB j hj).1,z5⟩,?_⟩
 rintro i H10 ⟨hi2,B2,cB2,gB2,howB2,e10,hB2,z10⟩
 have T10:=T.grow e10
 have hlenC:=flatMap_le (f:=x.sp.mem.weakCard) (n:=33) (t.cards.take i.toNat) (λc hc=>Mem.weakCard_len okm (hcs c (List.mem_of_mem_take hc)).2.1)
 have hlenD:(t.cards.take i.toNat).length<=4096:=by rw[List.length_take];omega
 by_cases hlt2:i< (q.cN:Int)
 case neg=>
  rw[if_neg hlt2]
  rw[List.take_of_length_le (by omega)]at gB2 howB2 hlenC
  refine⟨_,_,_,by rw[hat_blk gB2];rfl,hR _ _ ⟨l,B2,_,cB2,hl,rfl,?_,?_,λj hj=>by have:=hB2 j hj;omega,?_,e10⟩⟩
  ·unfold Mem.weaks;rw[hW]
  ·unfold Mem.weaks;rw[hW];exact howB2
  ·rw[List.length_append];omega
 rw[if_pos hlt2]
 have hil:i.toNat<t.cards.length:=by omega
 obtain⟨ca,hca,hrow⟩:=src_card T10.tr.cards hil
 have hck:=hcs _ (List.getElem_mem hil)
 have htk:t.cards.take (i+1).toNat=t.cards.take i.toNat++[t.cards[i.toNat]]:=by rw[show(i+1).toNat=i.toNat+1 by omega,List.take_succ_eq_append_getElem hil]
 generalize hcd:t.cards[i.toNat]=cd at*
 have hd:((q.cN:Int)-(i+1)).toNat< ((q.cN:Int)-i).toNat:=by omega
 have hw:IntKind.wrap .i64 (i+1)=i+1:=w64 (by omega)
 have hfm:W++(t.cards.take (i+1).toNat).flatMap x.sp.mem.weakCard=(W++(t.cards.take i.toNat).flatMap x.sp.mem.weakCard)++x.sp.mem.weakCard cd:=by rw[htk,List.flatMap_append,List.append_assoc];simp
 refine⟨ca,hca,⟨hi2.1,hlt2⟩,cd.1,cd.2,hrow,λc11 H11 hc11 hH11=>?_⟩
 obtain⟨hcp,hs⟩:=boxed (vs:=[.int .i64 cd.1,.int .i64 cd.2]) (H1:=H11) (push_get hc11 hH11) rfl rfl
 refine⟨hcp,λH12 hH12=>?_⟩
 obtain⟨hr12,hE12⟩:=hs H12 hH12
 have e12:Ext H10 H12:=hE12 H10 (Ext.push' hH11) (by omega)
 have T12:=T10.grow e12
 obtain⟨p1,p2,p3,p4⟩:=T12.s1
 have hS1:hat H12 ⟨c11,0,none⟩=some (.int .i64 cd.1):=hr12.1
 have hS2:hat H12 ⟨c11,1,none⟩=some (.int .i64 cd.2):=hr12.2.1
 refine⟨_,p1,_,rfl,_,p2,_,rfl,_,p3,_,rfl,_,p4,_,hS1,?_⟩
 have sgok:=segOr_ok okm cd.1
 have hinv: ∀(A:zV) (B':zW) (c':Nat),A[c2]?=some (.cells #[.slice B' (W++(t.cards.take (i+1).toNat).flatMap x.sp.mem.weakCard).length c'] 67 (0,0))->Own A 3 1 B' (W++(t.cards.take (i+1).toNat).flatMap x.sp.mem.weakCard).length c' (ivs (W++(t.cards.take (i+1).toNat).flatMap x.sp.mem.weakCard))->Ext H1 A->(∀j∈blks B',H2.size<=j)->H4.size<=A.size->
   ((0<=IntKind.wrap .i64 (i+1)/\IntKind.wrap .i64 (i+1)<=q.cN)/\ ∃(B:zW) (c:Nat),A[c2]?=some (.cells #[.slice B (W++(t.cards.take (IntKind.wrap .i64 (i+1)).toNat).flatMap x.sp.mem.weakCard).length c] 67 (0,0))/\Own A 3 1 B (W++(t.cards.take (IntKind.wrap .i64 (i+1)).toNat).flatMap x.sp.mem.weakCard).length c (ivs (W++(t.cards.take (IntKind.wrap .i64 (i+1)).toNat).flatMap x.sp.mem.weakCard))/\Ext H1 A/\(∀j∈blks B,H2.size<=j)/\H4.size<=A.size)/\((q.cN:Int)-IntKind.wrap .i64 (i+1)).toNat< ((q.cN:Int)-i).toNat:=λA B' c' h1 h2 h3 h4 h5=>by
  rw[hw];exact⟨⟨by omega,B',c',h1,h2,h3,h4,h5⟩,hd⟩
 have skip: ∀(A:zV),Ext H12 A-> ¬(x.sp.mem.segOr cd.1).kind=1->_:=λA eA hk=>hinv A B2 cB2 (by rw[hfm,show x.sp.mem.weakCard cd=[]by unfold Mem.weakCard;rw[if_neg hk],List.append_nil];exact(e12.trans eA).get gB2) (by rw[hfm,show x.sp.mem.weakCard cd=[]by unfold Mem.weakCard;rw[if_neg hk],List.append_nil];exact howB2.ext (e12.trans eA)) (e10.trans (e12.trans eA)) hB2 (by have:=(e12.trans eA).size;omega)
 have go: ∀(A:zV),Ext H12 A->(x.sp.mem.segOr cd.1).kind=1->trace_Trace_Weaks_1.C cd.1 (IntKind.wrap .i64 (cd.2*16)) (if(IntKind.wrap .i64 ((IntKind.wrap .i64 (cd.2+1))*16))< (x.sp.mem.segOr cd.1).n then(IntKind.wrap .i64 ((IntKind.wrap .i64 (cd.2+1))*16))else(x.sp.mem.segOr cd.1).n) (some (Addr.mk c2 0 none)) A (λ_ A'=>_):=λA eA hk=>by
  have sgn:=sgok.n
  rw[w64 (n:=cd.2*16) (by omega),w64 (n:=cd.2+1) (by omega),w64 (n:=(cd.2+1)*16) (by omega),min_if]
  have c2B:c2 ∉ blks B2:=λh=>by have:=hB2 c2 h;omega
  have eA':=e12.trans eA
  refine HC.mono (weaks_add_c (H:=A) (c:=c2) (ws:=W++(t.cards.take i.toNat).flatMap x.sp.mem.weakCard) hck.1 (by omega) (by omega) (eA'.get gB2) (howB2.ext eA') c2B (by rw[List.length_append];omega) rfl) ?_
  rintro _ H16 ⟨B',c',g16,how16,f16,hB'⟩
  have hws:x.sp.mem.weakCard cd=weakRow cd.1 (cd.2*16) (weakLen (cd.2*16) (min (x.sp.mem.segOr cd.1).n ((cd.2+1)*16))):=by unfold Mem.weakCard;rw[if_pos hk]
  have hlen3:(W++(t.cards.take (i+1).toNat).flatMap x.sp.mem.weakCard).length=(W++(t.cards.take i.toNat).flatMap x.sp.mem.weakCard).length+weakLen (cd.2*16) (min (x.sp.mem.segOr cd.1).n ((cd.2+1)*16)):=by rw[hfm,List.length_append,hws,weakRow_len]
  have zA:=eA'.size
  refine hinv H16 B' c' (by rw[hlen3];exact g16) (by rw[hlen3,hfm,hws];exact how16) ((e10.trans eA').fr_trans f16 (λj hj=>?_)) (λj hj=>?_) (by have:=f16.size;omega)
  ·rcases List.mem_cons.1 hj with h | h
   ·omega
   ·have:=hB2 j h;omega
  ·rcases hB' j hj with h | h
   ·exact hB2 j h
   ·omega
 constructor
 ·refine HC.mono (seg_Seg_c' T12.hp.cd.sp.mem) ?_
  rintro _ H13 ⟨rfl,e13⟩
  refine⟨_,_,_,_,_,_,_,_,rfl,λc14 H14 hc14 hH14=>?_⟩
  obtain⟨hcp14,hs14⟩:=head_slot (x.sp.mem.segOr cd.1) hc14 hH14
  refine⟨hcp14,λH15 hH15=>?_⟩
  obtain⟨e15,_,g1,gn,_⟩:=hs14 H15 hH15
  have eA:=e13.trans e15
  refine⟨_,by rw[addr_add_mk];exact g1,?_⟩
  by_cases hk1:(x.sp.mem.segOr cd.1).kind=1
  ·rw[if_pos hk1]
   exact⟨_,eA.hat hS1,_,by rw[addr_add_mk];exact eA.hat hS2,_,by rw[addr_add_mk];exact gn,_,by rw[addr_add_mk];exact eA.hat hS2,go H15 eA hk1⟩
  ·rw[if_neg hk1];exact skip H15 eA hk1
 ·intro c17 H17 hc17 hH17
  have e17:Ext H12 H17:=Ext.push' hH17
  refine⟨row1 (e17.hat p1),row1 (e17.hat p2),row1 (e17.hat p3),row1 (e17.hat p4),row1 (e17.hat hS1),?_⟩
  refine HC.mono (seg_Seg_c' (T12.grow e17).hp.cd.sp.mem) ?_
  rintro _ H18 ⟨rfl,e18⟩
  obtain⟨hcA,hsA⟩:=boxed (vs:=[.int .i64 (x.sp.mem.segOr cd.1).gen,.int .i64 (x.sp.mem.segOr cd.1).kind,.int .i64 (x.sp.mem.segOr cd.1).n,.int .i64 ((x.sp.mem.segOr cd.1).cards 0),.int .i64 ((x.sp.mem.segOr cd.1).cards 1),.int .i64 ((x.sp.mem.segOr cd.1).cards 2),.int .i64 ((x.sp.mem.segOr cd.1).cards 3)]) (H1:=H18) (e18.get (push_get hc17 hH17)) rfl rfl
  refine⟨_,_,_,_,_,_,_,_,rfl,hcA,λH19 hH19=>?_⟩
  obtain⟨hr19,hE19⟩:=hsA H19 hH19
  have eA:Ext H12 H19:=hE19 H12 (e17.trans e18) (by omega)
  refine⟨_,hr19.2.1,?_⟩
  by_cases hk1:(x.sp.mem.segOr cd.1).kind=1
  ·rw[if_pos hk1]
   exact⟨_,eA.hat hS1,_,by rw[addr_add_mk];exact eA.hat hS2,_,hr19.2.2.1,_,by rw[addr_add_mk];exact eA.hat hS2,go H19 eA hk1⟩
  ·rw[if_neg hk1];exact skip H19 eA hk1
