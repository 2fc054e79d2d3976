/-
 What a trace begins with: Fresh (package space), Dirty (package card). Proves nothing of any one statement.
-/
import Derived.Test.YtgnokbjknicahaaGreatTrE
import Derived.Test.YtgnokbjknicahaaGreatFcardx
set_option linter.unusedVariables false
set_option linter.unusedSimpArgs false
namespace Go.Proofs.YtgnokbjknicahaaGreat
open Go

theorem seg_free_c{H:zV}{bm bs:Nat}{m:Mem}(h:MemAt H bm bs m):seg_Mem_Free.C (some ⟨bm,0,none⟩) H (λv H'=>v=.int .i64 m.free/\H'=H):=by
 refine HC.via λR hR=>seg_Mem_Free.link ?_
 unfold seg_Mem_Free.pt
 rw[onPtr_some]
 exact⟨_,by rw[addr_add_mk];exact h.freeAt,hR _ _ ⟨rfl,rfl⟩⟩
def Sp.zap(s:Sp)(P:Nat->Prop) [DecidablePred P]:Sp:={s with cur:=λi j=>if P i then 0 else s.cur i j}
theorem SpAt.alike{H:zV}{b:Blk}{s s':Sp}(h:SpAt H b s)(hm:s'.mem=s.mem)(hc: ∀g k,g<5->k<4->s'.cur g k=s.cur g k):SpAt H b s':=by
 obtain⟨cs,h1,h2,h3,h4⟩:=h.sp
 exact⟨by rw[hm];exact h.mem,h.ne,cs,h1,h2,h3,λg k hg hk=>by rw[hc g k hg hk];exact h4 g k hg hk⟩
theorem SpAt.put4{H:zV}{b:Blk}{s:Sp}(h:SpAt H b s){g:Nat}(hg:g<5):
  CanPuts H ⟨b.sp,1+g*4,none⟩ 0 4/\SpAt (hputs H ⟨b.sp,1+g*4,none⟩ [.int .i64 0,.int .i64 0,.int .i64 0,.int .i64 0] 0) b (s.zap (· =g))/\Fr [b.sp] H (hputs H ⟨b.sp,1+g*4,none⟩ [.int .i64 0,.int .i64 0,.int .i64 0,.int .i64 0] 0):=by
 obtain⟨cs,hb,hs,h0,hc⟩:=h.sp
 refine⟨canPuts_blk hb _ _ _ (by omega),?_⟩
 rw[hputs_blk _ H cs _ 0 hb]
 refine⟨⟨h.mem.keep (S:=[b.sp]) Fr.set (by have:=h.ne;simp;omega) (by have:=h.ne;simp;omega),h.ne,_,setBlk_get (lt_size hb),by rw[splice_size];exact hs,?_,λi j hi hj=>?_⟩,Fr.set⟩
 ·rw[splice_get_lt _ _ _ _ (by omega)];exact h0
 ·simp only[Sp.zap]
  by_cases e:i=g
  ·rw[if_pos e,e]
   have:=splice_get_in cs [.int .i64 0,.int .i64 0,.int .i64 0,.int .i64 0] (1+g*4+0) j (by simp;omega) (by simp;omega)
   rw[show 1+g*4+j=1+g*4+0+j by omega,this]
   rcases(show j=0\/j=1\/j=2\/j=3 by omega)with rfl | rfl | rfl | rfl<;>rfl
  ·rw[if_neg e,<-hc i j hi hj]
   rcases Nat.lt_or_ge i g with hl | hl
   ·exact splice_get_lt _ _ _ _ (by omega)
   ·exact splice_get_ge _ _ _ _ (by simp;omega)
def Sp.fresh(s:Sp)(gs:List Int):Sp:=s.zap (λi=>gs=[]\/(i:Int)∈gs)
theorem Sp.zap_ok{s:Sp}(ok:SpOK s)(P:Nat->Prop) [DecidablePred P]:SpOK (s.zap P):=⟨ok.mem,λg k=>by
 simp only[Sp.zap]
 split
 ·exact .inl rfl
 ·exact ok.cur g k⟩
theorem ite_iff{α:Type}{p q:Prop} [Decidable p] [Decidable q] (h:p ↔ q)(x y:α):(if p then x else y)=if q then x else y:=by
 by_cases hp:p
 ·rw[if_pos hp,if_pos (h.1 hp)]
 ·rw[if_neg hp,if_neg (λhq=>hp (h.2 hq))]
theorem SpAt.zapTo{H:zV}{b:Blk}{s:Sp}{P Q:Nat->Prop} [DecidablePred P] [DecidablePred Q] (h:SpAt H b (s.zap P))(e: ∀i,i<5->(P i ↔ Q i)):SpAt H b (s.zap Q):=h.alike rfl (λi k hi _=>by
 simp only[Sp.zap]
 exact ite_iff (e i hi).symm _ _)
theorem SpAt.zapMore{H:zV}{b:Blk}{s:Sp}{P R Q:Nat->Prop} [DecidablePred P] [DecidablePred R] [DecidablePred Q] (h:SpAt H b ((s.zap P).zap R))(e: ∀i,i<5->(P i\/R i ↔ Q i)):SpAt H b (s.zap Q):=h.alike rfl (λi k hi _=>by
 simp only[Sp.zap]
 by_cases hr:R i
 ·rw[if_pos hr,if_pos ((e i hi).1 (.inr hr))]
 ·rw[if_neg hr]
  exact ite_iff ⟨λhq=>((e i hi).2 hq).resolve_right hr,λhp=>(e i hi).1 (.inl hp)⟩ _ _)
set_option maxRecDepth 100000 in
theorem space_Fresh_c{H:zV}{b:Blk}{s:Sp}{gB:zW}{gN gC:Nat}{gs:List Int}(h:SpAt H b s)(hg:SrcAt H gB (ivs gs))(hgn:gN=gs.length)(hgl:gN<=1000)(hgb: ∀i∈blks gB,i≠b.sp):
  space_Space_Fresh.C (some ⟨b.sp,0,none⟩) gB gN gC H (λ_ H'=>SpAt H' b (s.fresh gs)/\Fr [b.sp] H H'):=by
 refine HC.via λR hR=>space_Space_Fresh.link ?_
 unfold space_Space_Fresh.pt zY
 rw[onPtr_some]
 subst hgn
 have h0:SpAt H b (s.zap λi=>(i:Int)<0/\(gs=[]\/(i:Int)∈gs)):=h.alike rfl (λg k _ _=>by simp only[Sp.zap];rw[if_neg (by omega)])
 refine⟨λg A=>(0<=g/\g<=5)/\SpAt A b (s.zap λi=>(i:Int)<g/\(gs=[]\/(i:Int)∈gs))/\Fr [b.sp] H A,λg _=>(5-g).toNat,⟨by omega,h0,Fr.refl _ _⟩,?_⟩
 rintro g H1 ⟨hgb2,h1,f1⟩
 by_cases hlt:g<5
 case neg=>
  rw[if_neg hlt]
  exact hR _ _ ⟨h1.zapTo (λi hi=>⟨λq=>q.2,λq=>⟨by omega,q⟩⟩),f1⟩
 rw[if_pos hlt]
 have hw:IntKind.wrap .i64 (g+1)=g+1:=w64 (by omega)
 have hd:(5-(g+1)).toNat< (5-g).toNat:=by omega
 have src: ∀{A:zV},Fr [b.sp] H A->SrcAt A gB (ivs gs):=λ{A} f=>by
  cases gB with
  | none=>exact hg
  | some a=>exact f.rowAt (by have:=hgb a.block (by simp);simp;exact this) hg
 refine⟨λj A=>(0<=j/\j<=gs.length)/\SpAt A b (s.zap λi=>(i:Int)<g/\(gs=[]\/(i:Int)∈gs)\/(i:Int)=g/\g∈gs.take j.toNat)/\Fr [b.sp] H A,λj _=>(gs.length-j).toNat,⟨by omega,h1.zapTo (λi _=>⟨λq=> .inl q,λq=>by
  rcases q with q | q
  ·exact q
  ·simp at q⟩),f1⟩,?_⟩
 rintro j H2 ⟨hj,h2,f2⟩
 by_cases hjl:j< (gs.length:Int)
 ·rw[if_pos hjl]
  have hjn:j.toNat<gs.length:=by omega
  obtain⟨a,ha,hat⟩:=src_int (src f2) hjn
  have hwj:IntKind.wrap .i64 (j+1)=j+1:=w64 (by omega)
  have hdj:((gs.length:Int)-(j+1)).toNat< ((gs.length:Int)-j).toNat:=by omega
  have ht:gs.take (j+1).toNat=gs.take j.toNat++[gs[j.toNat]]:=by rw[show(j+1).toNat=j.toNat+1 by omega,List.take_succ_eq_append_getElem hjn]
  refine⟨a,ha,⟨hj.1,hjl⟩,_,hat,?_⟩
  rw[hwj]
  by_cases he:gs[j.toNat]=g
  ·rw[if_pos he]
   have hp:=h2.put4 (g:=g.toNat) (by omega)
   rw[addr_add_mk,addr_add_mk,Nat.zero_add]
   refine⟨⟨hgb2.1,hlt⟩,hp.1,λH3 hH3=>?_⟩
   subst hH3
   refine⟨⟨by omega,hp.2.1.zapMore (λi hi=>⟨λq=>?_,λq=>?_⟩),f2.trans hp.2.2⟩,hdj⟩
   ·rcases q with(q | q) | q
    ·exact .inl q
    ·exact .inr ⟨q.1,by rw[ht];exact List.mem_append_left _ q.2⟩
    ·exact .inr ⟨by omega,by rw[ht,he];simp⟩
   ·rcases q with q | q
    ·exact .inl (.inl q)
    ·exact .inr (by omega)
  ·rw[if_neg he]
   have hm:g∈gs.take (j+1).toNat ↔ g∈gs.take j.toNat:=by
    rw[ht,List.mem_append]
    exact⟨λq=>q.elim id (λq=>absurd (by simpa using q:g=gs[j.toNat]).symm he),.inl⟩
   exact⟨⟨by omega,h2.zapTo (λi hi=>by rw[hm]),f2⟩,hdj⟩
 ·rw[if_neg hjl]
  rw[List.take_of_length_le (by omega)]at h2
  by_cases h0:(gs.length:Int)=0
  ·rw[if_pos h0]
   have hgs:gs=[]:=List.length_eq_zero_iff.1 (by omega)
   have hp:=h2.put4 (g:=g.toNat) (by omega)
   rw[addr_add_mk,addr_add_mk,Nat.zero_add]
   refine⟨⟨hgb2.1,hlt⟩,hp.1,λH3 hH3=>?_⟩
   subst hH3
   rw[hw]
   refine⟨⟨by omega,hp.2.1.zapMore (λi hi=>⟨λq=>?_,λq=>?_⟩),f2.trans hp.2.2⟩,hd⟩
   ·rcases q with(q | q) | q
    ·exact⟨by omega,q.2⟩
    ·exact⟨by omega,.inl hgs⟩
    ·exact⟨by omega,.inl hgs⟩
   ·by_cases hi2:(i:Int)<g
    ·exact .inl (.inl ⟨hi2,q.2⟩)
    ·exact .inr (by omega)
  ·rw[if_neg h0,hw]
   have hne:gs≠[]:=λh=>h0 (by rw[h];rfl)
   refine⟨⟨by omega,h2.zapTo (λi hi=>⟨λq=>?_,λq=>?_⟩),f2⟩,hd⟩
   ·rcases q with q | q
    ·exact⟨by omega,q.2⟩
    ·exact⟨by omega,.inr (by rw[q.1];exact q.2)⟩
   ·by_cases hi2:(i:Int)<g
    ·exact .inl ⟨hi2,q.2⟩
    ·have hig:(i:Int)=g:=by omega
     refine .inr ⟨hig,?_⟩
     rcases q.2 with q | q
     ·exact absurd q hne
     ·rw[<-hig];exact q

def Mem.dirtyAt(m:Mem)(g:Int)(k n:Nat):List (Int×Int):=((List.range n).filter λi=>decide (g< (m.seg k).gen/\(m.seg k).cards i<=g)).map λi:Nat=>((k:Int),(i:Int))
def Mem.dirtyOf(m:Mem)(g:Int)(l:List Nat):List (Int×Int):=l.flatMap λk=>m.dirtyAt g k 4
theorem Mem.dirtyAt_len(m:Mem)(g:Int)(k n:Nat):(m.dirtyAt g k n).length<=n:=by
 unfold Mem.dirtyAt;rw[List.length_map];exact Nat.le_trans (List.length_filter_le _ _) (by simp)
theorem Mem.dirtyOf_len(m:Mem)(g:Int): ∀l:List Nat,(m.dirtyOf g l).length<=4*l.length
 | []=>by simp[Mem.dirtyOf]
 | k::l=>by
  have h1:=m.dirtyAt_len g k 4
  have h2:=m.dirtyOf_len g l
  unfold Mem.dirtyOf at*
  rw[List.flatMap_cons,List.length_append,List.length_cons];omega
theorem Mem.dirtyAt_succ(m:Mem)(g:Int)(k n:Nat):m.dirtyAt g k (n+1)=m.dirtyAt g k n++(if g< (m.seg k).gen/\(m.seg k).cards n<=g then[((k:Int),(n:Int))]else[]):=by
 unfold Mem.dirtyAt
 rw[List.range_succ,List.filter_append,List.map_append]
 congr 1
 by_cases h:g< (m.seg k).gen/\(m.seg k).cards n<=g
 ·rw[if_pos h];simp[h]
 ·rw[if_neg h];simp at h⊢;exact h
theorem Mem.mem_dirty{m:Mem}{g:Int}{l:List Nat}{c:Int×Int}:c∈m.dirtyOf g l ↔ ∃k∈l,∃i:Nat,i<4/\c=((k:Int),(i:Int))/\g< (m.seg k).gen/\(m.seg k).cards i<=g:=by
 unfold Mem.dirtyOf Mem.dirtyAt
 simp only[List.mem_flatMap,List.mem_map,List.mem_filter,List.mem_range,decide_eq_true_eq]
 constructor
 ·rintro⟨k,hk,i,⟨hi,h1,h2⟩,rfl⟩;exact⟨k,hk,i,hi,rfl,h1,h2⟩
 ·rintro⟨k,hk,i,hi,rfl,h1,h2⟩;exact⟨k,hk,i,⟨hi,h1,h2⟩,rfl⟩
theorem cardCells_append(a c:List (Int×Int)):cardCells (a++c)=cardCells a++cardCells c:=by unfold cardCells;rw[List.flatMap_append]
set_option maxRecDepth 100000 in
theorem card_Dirty_c{H:zV}{b:Blk}{s:Sp}{g:Int}(h:CdAt H b s)(ok:SpOK s):
  card_Cards_Dirty.C (some ⟨b.c,0,none⟩) g H (λv H'=> ∃(B:zW) (n c:Nat) (l:List Nat),v=.slice B n c/\IsTaken s.mem [] l/\n=(s.mem.dirtyOf g l).length/\Own H' 132 2 B n c (cardCells (s.mem.dirtyOf g l))/\(∀i∈blks B,H.size<=i)/\Ext H H'):=by
 refine HC.via λR hR=>card_Cards_Dirty.link ?_
 unfold card_Cards_Dirty.pt zY
 refine HC.mono (card_none_c h) ?_
 rintro _ H1 ⟨rfl,rfl⟩
 refine⟨_,rfl,?_⟩
 rw[if_neg (by decide)]
 refine⟨_,rfl,_,h.cPtr,_,rfl,_,h.sp.memPtr,?_⟩
 refine HC.mono (seg_Taken_c (gs:=[]) h.sp.mem ok.mem (show SrcAt H1 none (ivs [])from rfl) rfl (by decide)) ?_
 rintro _ H2 ⟨B0,c0,l,rfl,hl,how0,hfr0,e2⟩
 refine⟨_,_,_,rfl,?_⟩
 have hlen:=hl.len
 have hlim:=ok.mem.lim
 refine⟨λB n c i A=>(0<=i/\i<=l.length)/\n=(s.mem.dirtyOf g (l.take i.toNat)).length/\Own A 132 2 B n c (cardCells (s.mem.dirtyOf g (l.take i.toNat)))/\(∀j∈blks B,H2.size<=j)/\Ext H2 A,λ_ _ _ i _=>(l.length-i).toNat,
  ⟨by omega,rfl,own_nil,by simp,Ext.refl _⟩,?_⟩
 rintro B n c i H3 ⟨hi,rfl,how,hfr,e3⟩
 by_cases hlt:i< (l.length:Int)
 case neg=>
  rw[if_neg hlt]
  rw[List.take_of_length_le (by omega)]at how⊢
  exact hR _ _ ⟨B,_,c,l,rfl,hl,rfl,how,λj hj=>by have:=hfr j hj;have:=e2.size;omega,e2.trans e3⟩
 rw[if_pos hlt]
 have hil:i.toNat<l.length:=by omega
 obtain⟨a,ha,hata⟩:=ivs_at (how0.ext e3) hil
 obtain⟨khas,klim,kpos,_⟩:=hl.has (List.getElem_mem hil)
 have ht:l.take (i+1).toNat=l.take i.toNat++[l[i.toNat]]:=by rw[show(i+1).toNat=i.toNat+1 by omega,List.take_succ_eq_append_getElem hil]
 generalize hk:l[i.toNat]=k at*
 have h3:=h.ext (e2.trans e3)
 have ld:=s.mem.dirtyOf_len g (l.take i.toNat)
 have ll:(l.take i.toNat).length<=1024:=by rw[List.length_take];omega
 refine⟨a,ha,⟨hi.1,hlt⟩,(k:Int),hata,_,h3.cPtr,_,rfl,_,h3.sp.memPtr,?_⟩
 refine HC.mono (seg_Seg_c' h3.sp.mem) ?_
 rintro _ H4 ⟨rfl,e4⟩
 have hsg:s.mem.segOr k=s.mem.seg k:=by unfold Mem.segOr;rw[if_pos khas,show((k:Nat):Int).toNat=k by omega]
 rw[hsg]
 refine⟨_,_,_,_,_,_,_,_,rfl,λc5 H5 hc5 hH5=>?_⟩
 obtain⟨hcp,hs⟩:=head_slot (s.mem.seg k) hc5 hH5
 refine⟨hcp,λH6 hH6=>?_⟩
 obtain⟨e6,hg6,_,_,hr6⟩:=hs H6 hH6
 have hr6':=hr6
 simp only[RowAt,and_true,addr_add_mk,Nat.zero_add]at hr6'
 refine⟨(s.mem.seg k).cards 0,(s.mem.seg k).cards 1,(s.mem.seg k).cards 2,(s.mem.seg k).cards 3,?_,?_⟩
 ·rw[addr_add_mk]
  refine⟨?_,?_,?_,?_,trivial⟩<;>rw[addr_add_mk]
  ·exact hr6'.2.2.2.1
  ·exact hr6'.2.2.2.2.1
  ·exact hr6'.2.2.2.2.2.1
  ·exact hr6'.2.2.2.2.2.2
 have e36:=e4.trans e6
 have c5n:H3.size<=c5:=by have:=e4.size;omega
 have hw:IntKind.wrap .i64 (i+1)=i+1:=w64 (by omega)
 have hdi:((l.length:Int)-(i+1)).toNat< ((l.length:Int)-i).toNat:=by omega
 refine⟨λB' n' c' j A=>(0<=j/\j<=4)/\n'=(s.mem.dirtyOf g (l.take i.toNat)++s.mem.dirtyAt g k j.toNat).length/\Own A 132 2 B' n' c' (cardCells (s.mem.dirtyOf g (l.take i.toNat)++s.mem.dirtyAt g k j.toNat))/\(∀j∈blks B',H2.size<=j/\j≠c5)/\Ext H2 A/\hat A ⟨c5,0,none⟩=some (.int .i64 (s.mem.seg k).gen),λ_ _ _ j _=>(4-j).toNat,
  ⟨by omega,by simp[Mem.dirtyAt],by simpa[Mem.dirtyAt]using how.ext e36,λj hj=>⟨hfr j hj,by have:=how.lt j hj;omega⟩,e3.trans e36,hg6⟩,?_⟩
 rintro B' n' c' j H7 ⟨hj,rfl,how7,hfr7,e7,hg7⟩
 by_cases hj4:j<4
 case neg=>
  rw[if_neg hj4,hw]
  have hj':j.toNat=4:=by omega
  rw[hj']at how7⊢
  have hd:s.mem.dirtyOf g (l.take (i+1).toNat)=s.mem.dirtyOf g (l.take i.toNat)++s.mem.dirtyAt g k 4:=by
   rw[ht];unfold Mem.dirtyOf;rw[List.flatMap_append];simp
  refine⟨⟨by omega,by rw[hd],by rw[hd];exact how7,λj hj=>(hfr7 j hj).1,e7⟩,hdi⟩
 rw[if_pos hj4]
 have hcd: ∃q:Nat,j=q/\q<4:=⟨j.toNat,by omega,by omega⟩
 obtain⟨jn,rfl,hjn⟩:=hcd
 have hwj:IntKind.wrap .i64 ((jn:Int)+1)=(jn:Int)+1:=w64 (by omega)
 have hsucc:((jn:Int)+1).toNat=jn+1:=by omega
 refine⟨(s.mem.seg k).cards jn,⟨⟨by omega,hj4⟩,?_⟩,_,hg7,?_⟩
 ·rcases(show jn=0\/jn=1\/jn=2\/jn=3 by omega)with rfl | rfl | rfl | rfl<;>rfl
 rw[hwj]
 have hjt:((jn:Int)).toNat=jn:=by omega
 rw[hjt]at how7
 rw[hjt]
 have hda:=s.mem.dirtyAt_len g k jn
 have hdj:(4-((jn:Int)+1)).toNat< (4-(jn:Int)).toNat:=by omega
 by_cases hd:g< (s.mem.seg k).gen/\(s.mem.seg k).cards jn<=g
 ·rw[if_pos (by simp;exact⟨hd.1,hd.2⟩)]
  intro c8 H8 hc8 hH8
  have e8:Ext H7 H8:=Ext.push' hH8
  refine own_append (ys:=[.int .i64 (k:Int),.int .i64 (jn:Int)]) (how7.ext e8) (rowAt_blk (push_get hc8 hH8) _ 0 0 (λj hj=>by
   simp only[List.length_cons,List.length_nil]at hj
   rcases(show j=0\/j=1 by omega)with rfl | rfl<;>rfl)) rfl rfl rfl (by rw[List.length_append];omega) ?_
  intro p' c9 H9 how9 f9 hn9
  have hs9:s.mem.dirtyAt g k (jn+1)=s.mem.dirtyAt g k jn++[((k:Int),(jn:Int))]:=by rw[Mem.dirtyAt_succ,if_pos hd]
  refine⟨⟨by omega,by rw[hsucc,hs9];simp;omega,?_,λj hj=>?_,(e7.trans e8).fr_trans f9 (λj hj=>(hfr7 j hj).1),f9.hat (λhm=>(hfr7 _ hm).2 rfl) (e8.hat hg7)⟩,hdj⟩
  ·rw[hsucc,hs9,<-List.append_assoc,cardCells_append];exact how9
  ·rcases hn9 j hj with q | q
   ·exact hfr7 j q
   ·have:=e7.size;have:=e8.size
    have h5:c5<H7.size:=by
     unfold Go.Proofs.YtgnokbjknicahaaGreat.hat at hg7
     rcases Nat.lt_or_ge c5 H7.size with h | h
     ·exact h
     ·simp[Array.getElem?_eq_none h]at hg7
    exact⟨by omega,by omega⟩
 ·rw[if_neg (by simpa using hd)]
  have hs9:s.mem.dirtyAt g k (jn+1)=s.mem.dirtyAt g k jn:=by rw[Mem.dirtyAt_succ,if_neg hd,List.append_nil]
  exact⟨⟨by omega,by rw[hsucc,hs9],by rw[hsucc,hs9];exact how7,hfr7,e7,hg7⟩,hdj⟩
