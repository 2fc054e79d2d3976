/-
 What a trace leaves: Give (packages seg, space), Again (package card). Proves nothing of any one statement.
-/
import Derived.Test.YtgnokbjknicahaaGreatTrG
import Derived.Test.YtgnokbjknicahaaGreatText
set_option linter.unusedVariables false
set_option linter.unusedSimpArgs false
namespace Go.Proofs.YtgnokbjknicahaaGreat
open Go

def Mem.give(m:Mem)(k:Int):Mem:=if m.has k then{m with free:=m.free+1}.upd k.toNat Seg.none else m
theorem MemOK.give{m:Mem}(ok:MemOK m)(k:Int):MemOK (m.give k):=by
 unfold Mem.give
 split
 ·rename_i h
  refine⟨ok.lim,λi=>?_,?_,ok.count⟩
  ·rw[Mem.upd_seg]
   split
   ·exact segOK_none
   ·exact ok.seg i
  ·show m.free+1=_
   have e2:({m with free:=m.free+1}.upd k.toNat Seg.none).nfree=(m.upd k.toNat Seg.none).nfree:=rfl
   have:=Mem.nfree_give (m:=m) (k:=k.toNat) (s:=Seg.none) (by have:=h.1;have:=h.2.1;omega) h.2.2 rfl
   rw[e2,this,ok.free];omega
 ·exact ok
set_option maxRecDepth 100000 in
theorem seg_Give_c{H:zV}{bm bs:Nat}{m:Mem}{k:Int}(h:MemAt H bm bs m)(ok:MemOK m):
  seg_Mem_Give.C (some ⟨bm,0,none⟩) k H (λv H'=>v=.int .i64 (if m.has k then 0 else 19)/\MemAt H' bm bs (m.give k)/\Fr [bm,bs] H H'):=by
 refine HC.via λR hR=>seg_Mem_Give.link ?_
 unfold seg_Mem_Give.pt zY
 refine HC.mono (seg_at_c h) ?_
 rintro _ H1 ⟨rfl,rfl⟩
 refine⟨_,rfl,?_⟩
 by_cases hk:m.has k
 case neg=>
  rw[if_neg hk,onPtr_none]
  have e:m.give k=m:=by unfold Mem.give;rw[if_neg hk]
  rw[e,if_neg hk]at hR
  exact hR _ _ ⟨rfl,h,Fr.refl _ _⟩
 rw[if_pos hk,onPtr_some]
 have hkl:k.toNat<m.limit:=by have:=hk.1;have:=hk.2.1;omega
 have hcp:=h.canPuts (k:=k.toNat) (o:=0) (n:=72) hkl (by omega)
 rw[Nat.add_zero]at hcp
 refine⟨hcp,λH2 hH2=>?_⟩
 obtain⟨z,ez,hz,hg⟩:=noneCells
 obtain⟨g2,f2⟩:=h.puts (k:=k.toNat) (o:=0) (vs:=z.toList) (s:=Seg.none) hkl (by simp;omega) (λj hj=>by rw[Nat.zero_add,Array.getElem?_toList];exact hg j (by simp at hj;omega)) (λj hj ho=>by simp at ho;omega)
 rw[Nat.add_zero]at g2 f2
 have eH:H2=hputs H1 ⟨bs,k.toNat*72,none⟩ z.toList 0:=by rw[hH2,ez]
 rw[<-eH]at g2 f2
 have hfr0:m.free<=1024/\0<=m.free:=by
  have:=ok.lim
  have:m.nfree<=(List.range m.limit).length:=List.countP_le_length
  simp at this
  rw[ok.free];omega
 refine⟨_,rfl,m.free,by rw[addr_add_mk];exact g2.freeAt,by rw[addr_add_mk];exact canPuts_blk g2.mem _ _ _ (by simp),λH3 hH3=>?_⟩
 rw[addr_add_mk,hputs_blk _ _ _ _ _ g2.mem,w64 (n:=m.free+1) (by omega)]at hH3
 have e:m.give k={m with free:=m.free+1}.upd k.toNat Seg.none:=by unfold Mem.give;rw[if_pos hk]
 have g3:MemAt H3 bm bs (m.give k):=by
  rw[e]
  subst hH3
  obtain⟨cs,hb,hr⟩:=g2.segs
  exact⟨by rw[setBlk_get g2.lt.1];rfl,h.ne,cs,by rw[setBlk_other h.ne];exact hb,hr⟩
 have f3:Fr [bm] H2 H3:=by subst hH3;exact Fr.set
 exact hR _ _ ⟨by rw[if_pos hk],g3,f2.trans' f3 (λi hi _=>by simp at hi;simp[hi]) (λi hi _=>by simp at hi;simp[hi])⟩

def Sp.give(s:Sp)(k:Int):Sp:=if s.mem.has k then{mem:=s.mem.give k,cur:=λi j=>if s.cur i j=k+1 then 0 else s.cur i j}else s
theorem Sp.give_ok{s:Sp}(ok:SpOK s)(k:Int):SpOK (s.give k):=by
 unfold Sp.give
 split
 ·rename_i hk
  refine⟨ok.mem.give k,λg j=>?_⟩
  by_cases h:s.cur g j=k+1
  ·exact .inl (if_pos h)
  ·have ecur:({mem:=s.mem.give k,cur:=λi j=>if s.cur i j=k+1 then 0 else s.cur i j}:Sp).cur g j=s.cur g j:=if_neg h
   rw[ecur]
   rcases ok.cur g j with h0 | ⟨h1,h2,h3,h4⟩
   ·exact .inl h0
   ·have hn:(s.cur g j-1).toNat≠k.toNat:=by have:=h2.1;have:=hk.1;omega
    have e:(s.mem.give k).seg (s.cur g j-1).toNat=s.mem.seg (s.cur g j-1).toNat:=by unfold Mem.give;rw[if_pos hk,Mem.upd_other _ _ hn]
    have el:(s.mem.give k).limit=s.mem.limit:=by unfold Mem.give;rw[if_pos hk];rfl
    exact .inr ⟨h1,⟨h2.1,by show _< ((s.mem.give k).limit:Int);rw[el];exact h2.2.1,by show((s.mem.give k).seg _).taken≠0;rw[e];exact h2.2.2⟩,by show((s.mem.give k).seg _).gen=_;rw[e];exact h3,by show((s.mem.give k).seg _).kind=_;rw[e];exact h4⟩
 ·exact ok
set_option maxRecDepth 100000 in
theorem space_Give_c{H:zV}{b:Blk}{s:Sp}{k:Int}(h:SpAt H b s)(ok:SpOK s)(hk64:0<=k/\k<=1024):
  space_Space_Give.C (some ⟨b.sp,0,none⟩) k H (λv H'=>(∃e:Int,v=.int .i64 e)/\SpAt H' b (s.give k)/\Fr [b.sp,b.m,b.s] H H'):=by
 refine HC.via λR hR=>space_Space_Give.link ?_
 unfold space_Space_Give.pt zY
 refine HC.mono (space_none_c h) ?_
 rintro _ H1 ⟨rfl,rfl⟩
 refine⟨_,rfl,?_⟩
 rw[if_neg (by decide)]
 refine⟨_,rfl,_,h.memPtr,?_⟩
 refine HC.mono (seg_Seg_c' h.mem) ?_
 rintro _ H2 ⟨rfl,e2⟩
 refine⟨_,_,_,_,_,_,_,_,rfl,λc3 H3 hc3 hH3=>?_⟩
 obtain⟨hcp,hs⟩:=head_slot (s.mem.segOr k) hc3 hH3
 refine⟨hcp,λH4 hH4=>?_⟩
 obtain⟨e4,g0,g1,_,_⟩:=hs H4 hH4
 have e14:=e2.trans e4
 have h4:=h.ext e14
 by_cases hk:s.mem.has k
 case neg=>
  rw[if_neg (by simpa using hk)]
  refine⟨_,h4.memPtr,?_⟩
  refine HC.mono (seg_Give_c h4.mem ok.mem) ?_
  rintro _ H5 ⟨rfl,m5,f5⟩
  have e:s.give k=s:=by unfold Sp.give;rw[if_neg hk]
  have e':s.mem.give k=s.mem:=by unfold Mem.give;rw[if_neg hk]
  rw[e']at m5
  rw[e]at hR
  exact⟨_,rfl,hR _ _ ⟨⟨_,rfl⟩,h4.withMem f5 (by have:=h.ne;simp;omega) m5,e14.fr.trans (f5.mono (λi hi _=>by simp at hi;simp;omega))⟩⟩
 rw[if_pos (zX hk)]
 have hsg:s.mem.segOr k=s.mem.seg k.toNat:=by unfold Mem.segOr;rw[if_pos hk]
 rw[hsg]at g0 g1
 have hgk:=(ok.mem.seg k.toNat).gen
 have hkk:=(ok.mem.seg k.toNat).kind
 have hcur:=h4.curAt (g:=(s.mem.seg k.toNat).gen.toNat) (k:=(s.mem.seg k.toNat).kind.toNat) (by omega) (by omega)
 refine⟨_,g0,_,by rw[addr_add_mk];exact g1,⟨by omega,by omega⟩,⟨by omega,by omega⟩,_,by simp only[addr_add_mk,Nat.zero_add,Nat.mul_one];exact hcur,?_⟩
 rw[w64 (n:=k+1) (by omega)]
 have eg:s.give k={mem:=s.mem.give k,cur:=λi j=>if s.cur i j=k+1 then 0 else s.cur i j}:=by unfold Sp.give;rw[if_pos hk]
 have other: ∀i j:Nat,s.cur i j=k+1->i=(s.mem.seg k.toNat).gen.toNat/\j=(s.mem.seg k.toNat).kind.toNat:=λi j hij=>by
  rcases ok.cur i j with h0 | ⟨h1,h2,h3,h4⟩
  ·have:=hk.1;omega
  ·rw[hij,show(k+1-1).toNat=k.toNat by omega]at h3 h4
   omega
 by_cases hc:s.cur (s.mem.seg k.toNat).gen.toNat (s.mem.seg k.toNat).kind.toNat=k+1
 ·rw[if_pos hc]
  have hp:=h4.putCur (g:=(s.mem.seg k.toNat).gen.toNat) (k:=(s.mem.seg k.toNat).kind.toNat) (v:=0) (by omega) (by omega)
  refine⟨_,g0,_,by rw[addr_add_mk];exact g1,⟨by omega,by omega⟩,⟨by omega,by omega⟩,by simp only[addr_add_mk,Nat.zero_add,Nat.mul_one];exact hp.1,λH5 hH5=>?_⟩
  simp only[addr_add_mk,Nat.zero_add,Nat.mul_one]at hH5
  subst hH5
  refine⟨_,hp.2.1.memPtr,?_⟩
  refine HC.mono (seg_Give_c hp.2.1.mem ok.mem) ?_
  rintro _ H6 ⟨rfl,m6,f6⟩
  have h6:=hp.2.1.withMem f6 (by have:=h.ne;simp;omega) m6
  refine⟨_,rfl,hR _ _ ⟨⟨_,rfl⟩,?_,(e14.fr.trans (hp.2.2.mono (λi hi _=>by simp at hi;simp[hi]))).trans (f6.mono (λi hi _=>by simp at hi;simp;omega))⟩⟩
  rw[eg]
  refine h6.alike rfl (λi j hi hj=>?_)
  show(if s.cur i j=k+1 then 0 else s.cur i j)=(if i=_/\j=_ then 0 else s.cur i j)
  refine ite_iff ⟨other i j,λhh=>?_⟩ _ _
  rw[hh.1,hh.2];exact hc
 ·rw[if_neg hc]
  refine⟨_,h4.memPtr,?_⟩
  refine HC.mono (seg_Give_c h4.mem ok.mem) ?_
  rintro _ H5 ⟨rfl,m5,f5⟩
  have h5:=h4.withMem f5 (by have:=h.ne;simp;omega) m5
  refine⟨_,rfl,hR _ _ ⟨⟨_,rfl⟩,?_,e14.fr.trans (f5.mono (λi hi _=>by simp at hi;simp;omega))⟩⟩
  rw[eg]
  refine h5.alike rfl (λi j hi hj=>?_)
  show(if s.cur i j=k+1 then 0 else s.cur i j)=s.cur i j
  rw[if_neg (λhh=>hc (by have:=other i j hh;rw[<-this.1,<-this.2];exact hh))]

def Mem.cardLen(m:Mem)(k c:Int):Nat:=(min 16 ((m.seg k.toNat).n-c*16)).toNat
def Mem.markOf(m:Mem)(k c:Int)(n:Nat):Int:=(m.row (k*64+c*16) n).foldl (λmk w=>m.younger (m.seg k.toNat) w mk) 5
def Mem.again(m:Mem)(k c:Int):Mem:=if m.has k/\0<=c/\c<4 then(m.mark k c (m.markOf k c (m.cardLen k c))).1 else m
theorem Mem.markOf_succ(m:Mem)(k c:Int)(n:Nat):m.markOf k c (n+1)=m.younger (m.seg k.toNat) (m.get (k*64+c*16+n)) (m.markOf k c n):=by
 unfold Mem.markOf Mem.row
 rw[List.range_succ,List.map_append,List.foldl_append];rfl
set_option maxRecDepth 100000 in
theorem card_words_loop{H:zV}{yield:Value}{b:Blk}{s:Sp}{p1 p2 p3:Nat}{k c:Int}{R0:zV->Prop}(Inv:Nat->zV->Prop)(ok:SpOK s)(hk:s.mem.has k)(hc:0<=c/\c<4)(h0:Inv 0 H)
  (hst: ∀j A,Inv j A->SpAt A b s/\hat A ⟨b.c,0,none⟩=some (.pointer (some ⟨b.sp,0,none⟩))/\hat A ⟨p1,0,none⟩=some (.pointer (some ⟨b.c,0,none⟩))/\hat A ⟨p2,0,none⟩=some (.int .i64 k)/\hat A ⟨p3,0,none⟩=some (.int .i64 c))
  (hstep: ∀j,j<s.mem.cardLen k c-> ∀A,Inv j A->FC Tryz.prog yield #[.int .u64 (s.mem.get (k*64+c*16+j))] A (λv A'=>v=.bool true/\Inv (j+1) A'))
  (hend: ∀A,Inv (s.mem.cardLen k c) A->R0 A):
  card_Cards_words_1.C yield (some ⟨p1,0,none⟩) (some ⟨p2,0,none⟩) (some ⟨p3,0,none⟩) H (λv A=>v=.tuple #[]/\R0 A):=by
 refine HC.via λR hR=>card_Cards_words_1.link ?_
 unfold card_Cards_words_1.pt zY
 have hlim:=ok.mem.lim
 have k0:=hk.1
 have k1:=hk.2.1
 refine⟨λi A=> ∃j:Nat,i=j/\j<=s.mem.cardLen k c/\Inv j A,λi _=>(16-i).toNat,⟨0,rfl,Nat.zero_le _,h0⟩,?_⟩
 rintro i A ⟨j,rfl,hj,hI⟩
 have hlen:s.mem.cardLen k c<=16:=by unfold Mem.cardLen;omega
 by_cases hlt:(j:Int)<16
 ·rw[if_pos hlt]
  obtain⟨hsp,q1,q2,q3,q4⟩:=hst j A hI
  refine⟨_,rfl,_,q2,_,rfl,_,q1,_,rfl,_,hsp.memPtr,_,rfl,_,q3,_,rfl,_,q4,?_⟩
  rw[w64 (n:=k*64) (by omega),w64 (n:=c*16) (by omega),w64 (n:=k*64+c*16) (by omega),w64 (n:=k*64+c*16+j) (by omega)]
  refine HC.mono (seg_Read_c hsp.mem ok.mem (by omega)) ?_
  rintro _ A1 ⟨rfl,rfl⟩
  have e1:(k*64+c*16+j) / 64=k:=by omega
  have e2:(k*64+c*16+(j:Int)) % 64=c*16+j:=by omega
  by_cases hu:s.mem.used (k*64+c*16+j)
  ·rw[if_pos hu]
   refine⟨_,_,rfl,?_⟩
   rw[if_pos rfl]
   have hjl:j<s.mem.cardLen k c:=by
    have h3:=hu.2.2
    rw[e1,e2]at h3
    unfold Mem.cardLen;omega
   refine(hstep j hjl A1 hI).mono ?_
   rintro v A2 ⟨rfl,hI2⟩
   refine⟨true,rfl,?_⟩
   rw[if_pos rfl,w64 (n:=(j:Int)+1) (by omega)]
   exact⟨⟨j+1,by omega,by omega,hI2⟩,by show(16-((j:Int)+1)).toNat< (16-(j:Int)).toNat;omega⟩
  ·rw[if_neg hu]
   refine⟨_,_,rfl,?_⟩
   rw[if_neg (by decide)]
   have hjl:j=s.mem.cardLen k c:=by
    rcases Nat.lt_or_ge j (s.mem.cardLen k c)with h | h
    ·refine absurd ⟨by omega,by rw[e1];exact hk,?_⟩ hu
     rw[e1,e2]
     unfold Mem.cardLen at h;omega
    ·omega
   exact hR _ _ ⟨rfl,hend _ (hjl▸hI)⟩
 ·rw[if_neg hlt]
  have hjl:j=s.mem.cardLen k c:=by omega
  exact hR _ _ ⟨rfl,hend _ (hjl▸hI)⟩
theorem Mem.younger_rng{m:Mem}(ok:MemOK m)(sg:Seg)(w:Int){mk:Int}(h:0<=mk/\mk<=5):0<=m.younger sg w mk/\m.younger sg w mk<=5:=by
 have:=ok.genOf w
 unfold Mem.younger
 split
 ·omega
 ·exact h
theorem Mem.markOf_rng{m:Mem}(ok:MemOK m)(k c:Int): ∀n,0<=m.markOf k c n/\m.markOf k c n<=5
 | 0=>(by decide:(0:Int)<=5/\(5:Int)<=5)
 | n+1=>by rw[Mem.markOf_succ];exact Mem.younger_rng ok _ _ (Mem.markOf_rng ok k c n)
set_option maxRecDepth 100000 in
theorem card_Again_c{H:zV}{b:Blk}{s:Sp}{k c:Int}(h:CdAt H b s)(ok:SpOK s)(hlt: ∀i,i∈[b.c,b.sp,b.m,b.s]->i<H.size):
  card_Cards_Again.C (some ⟨b.c,0,none⟩) k c H (λv H'=>(∃e:Int,v=.int .i64 e)/\CdAt H' b {s with mem:=s.mem.again k c}/\Fr [b.m,b.s] H H'):=by
 refine HC.via λR hR=>card_Cards_Again.link ?_
 unfold card_Cards_Again.pt
 intro c1 H1 hc1 hH1
 have e1:Ext H H1:=Ext.push' hH1
 have g1:=push_get hc1 hH1
 refine⟨_,by rw[hat_blk g1];rfl,?_⟩
 have h1:=h.ext e1
 have z1:H1.size=H.size+1:=by rw[hH1];simp
 refine HC.mono (card_none_c h1) ?_
 rintro _ H2 ⟨rfl,rfl⟩
 refine⟨_,rfl,?_⟩
 rw[if_neg (by decide)]
 refine⟨_,by rw[hat_blk g1];rfl,_,rfl,_,h1.cPtr,_,rfl,_,h1.sp.memPtr,?_⟩
 refine HC.mono (seg_Seg_c' h1.sp.mem) ?_
 rintro _ H3 ⟨rfl,e3⟩
 refine⟨_,_,_,_,_,_,_,_,rfl,λc4 H4 hc4 hH4=>?_⟩
 obtain⟨hcp,hs⟩:=head_slot (s.mem.segOr k) hc4 hH4
 refine⟨hcp,λH5 hH5=>?_⟩
 obtain⟨e5,_,_,_,hr5⟩:=hs H5 hH5
 have c4lt:c4<H5.size:=by
  have h4:H4.size=H3.size+1:=by rw[hH4];simp
  rw[hH5,hputs_blk _ _ _ _ _ (push_get hc4 hH4)];simp[h4];omega
 have e15:=(e1.trans e3).trans e5
 have h5:=h.ext e15
 have z3:=e3.size
 by_cases hk:s.mem.has k
 case neg=>
  rw[if_neg (by simpa using hk)]
  have e:s.mem.again k c=s.mem:=by unfold Mem.again;rw[if_neg (λhh=>hk hh.1)]
  rw[e]at hR
  exact hR _ _ ⟨⟨_,rfl⟩,h5,e15.fr⟩
 rw[if_pos (zX hk)]
 by_cases hc:0<=c/\c<4
 case neg=>
  rw[if_pos (by simp only[Bool.or_eq_true,decide_eq_true_eq];omega)]
  have e:s.mem.again k c=s.mem:=by unfold Mem.again;rw[if_neg (λhh=>hc hh.2)]
  rw[e]at hR
  exact hR _ _ ⟨⟨_,rfl⟩,h5,e15.fr⟩
 rw[if_neg (by simp only[Bool.or_eq_true,decide_eq_true_eq];omega)]
 have hsg:s.mem.segOr k=s.mem.seg k.toNat:=by unfold Mem.segOr;rw[if_pos hk]
 rw[hsg]at hr5
 intro c6 H6 hc6 hH6
 have e6:Ext H5 H6:=Ext.push' hH6
 have g6:=push_get hc6 hH6
 obtain⟨hcp6,hs6⟩:=box_set (vs:=[.int .i64 5]) g6 rfl rfl
 refine⟨hcp6,λH7 hH7=>?_⟩
 obtain⟨g7,f7⟩:=hs6 H7 hH7
 have z5:=e5.size
 have e7:Ext H5 H7:=e6.fr_trans f7 (λi hi=>by simp at hi;omega)
 have g17:H7[c1]?=some (.cells #[.pointer (some ⟨b.c,0,none⟩)] 26 (0,0)):=e7.get (e5.get (e3.get g1))
 refine⟨_,by rw[hat_blk g17];rfl,?_⟩
 refine card_Cards_words.link ?_
 unfold card_Cards_words.pt
 intro d1 W1 hd1 hW1 d2 W2 hd2 hW2 d3 W3 hd3 hW3
 have w1:Ext H7 W1:=Ext.push' hW1
 have w2:Ext W1 W2:=Ext.push' hW2
 have w3:Ext W2 W3:=Ext.push' hW3
 have y7:H7.size=H5.size+1:=by
  have:=f7.size
  have h6:H6.size=H5.size+1:=by rw[hH6];simp
  rw[hH7,hputs_blk _ _ _ _ _ g6];simp[h6]
 have y1:W1.size=H7.size+1:=by rw[hW1];simp
 have y2:W2.size=W1.size+1:=by rw[hW2];simp
 have y3:W3.size=W2.size+1:=by rw[hW3];simp
 have gd1:W3[d1]?=some (.cells #[.pointer (some ⟨b.c,0,none⟩)] 26 (0,0)):=w3.get (w2.get (push_get hd1 hW1))
 have gd2:W3[d2]?=some (.cells #[.int .i64 k] 3 (0,0)):=w3.get (push_get hd2 hW2)
 have gd3:W3[d3]?=some (.cells #[.int .i64 c] 3 (0,0)):=push_get hd3 hW3
 have w13:=(w1.trans w2).trans w3
 refine⟨rfl,?_⟩
 intro rc lp H9 hlp hH9 vY hY
 have e9:Ext W3 H9:=(Ext.push' rfl).trans (Ext.push' hH9)
 have gdef:H9[W3.size]?=some (.deferred (some [])):=by
  have:(W3.push (.deferred (some [])))[W3.size]?=some (.deferred (some [])):=push_get rfl rfl
  exact(Ext.push' hH9).get this
 have glp:H9[lp]?=some (rc .ready none):=push_get (by simp;omega) hH9
 have e59:Ext H5 H9:=(e7.trans w13).trans e9
 have h9:=h5.ext e59
 have lts: ∀i,i∈[b.c,b.sp,b.m,b.s]->i<H.size:=hlt
 have z15:=e15.size
 refine FE.of2 (enters_of Tryz.func129 (by kernel_rfl) rfl) rfl (HC.mono (card_words_loop (b:=b) (s:=s) (p1:=d1) (p2:=d2) (p3:=d3) (k:=k) (c:=c)
  (λj A=>Fr [lp,c6] H9 A/\A[lp]?=some (rc .ready none)/\A[c6]?=some (.cells #[.int .i64 (s.mem.markOf k c j)] 3 (0,0))) ok hk hc
  ⟨Fr.refl _ _,glp,by rw[show s.mem.markOf k c 0=5 from rfl];exact e9.get (w13.get g7)⟩
  (λj A hI=>?_) (λj hj A hI=>?_) (R0:=λA=>Fr [lp,c6] H9 A/\A[lp]?=some (rc .ready none)/\A[c6]?=some (.cells #[.int .i64 (s.mem.markOf k c (s.mem.cardLen k c))] 3 (0,0))) (λA hI=>hI)) ?_)
 ·obtain⟨f,_,_⟩:=hI
  have hA:=h9.keep f (by have:=lts b.c (by simp);simp;omega) (by have:=lts b.sp (by simp);simp;omega) (by have:=lts b.m (by simp);simp;omega) (by have:=lts b.s (by simp);simp;omega)
  refine⟨hA.sp,hA.cPtr,?_,?_,?_⟩
  ·rw[hat_blk (f.get (by simp;omega) (e9.get gd1))];rfl
  ·rw[hat_blk (f.get (by simp;omega) (e9.get gd2))];rfl
  ·rw[hat_blk (f.get (by simp;omega) (e9.get gd3))];rfl
 ·obtain⟨f,ql,qm⟩:=hI
  refine(hY _ A _ ql ⟨ql,λH11 hH11=>?_⟩)
  have f11:Fr [lp] A H11:=by rw[hH11];exact Fr.set
  have fA:Fr [lp,c6] H9 H11:=f.trans (f11.mono (λi hi _=>by simp at hi;simp[hi]))
  have ql11:H11[lp]?=some (rc .busy none):=by rw[hH11];exact setBlk_get (lt_size ql)
  have qm11:=f11.get (by simp;omega) qm
  have hA:=h9.keep fA (by have:=lts b.c (by simp);simp;omega) (by have:=lts b.sp (by simp);simp;omega) (by have:=lts b.m (by simp);simp;omega) (by have:=lts b.s (by simp);simp;omega)
  have hrA:=fA.rowAt (a:=⟨c4,0,none⟩) (by show c4 ∉ [lp,c6];simp;omega) (e59.rowAt hr5)
  refine⟨_,by rw[hat_blk (fA.get (by simp;omega) ((e7.trans (w13.trans e9)).get (e5.get (e3.get g1))))];rfl,_,_,_,_,_,_,_,hrA,_,by rw[hat_blk qm11];rfl,?_⟩
  refine HC.mono (card_younger_c hA ((ok.mem.seg _).words _)) ?_
  rintro _ H12 ⟨rfl,e12⟩
  refine⟨_,rfl,?_⟩
  obtain⟨hcpm,hsm⟩:=box_set (vs:=[.int .i64 (s.mem.younger (s.mem.seg k.toNat) (s.mem.get (k*64+c*16+j)) (s.mem.markOf k c j))]) (e12.get qm11) rfl rfl
  refine⟨hcpm,λH13 hH13=>?_⟩
  obtain⟨g13,f13⟩:=hsm H13 hH13
  have ql13:=f13.get (by simp;omega) (e12.get ql11)
  refine⟨ql13,rfl,?_,setBlk_get (lt_size ql13),?_⟩
  ·exact((fA.trans e12.fr).trans (f13.mono (λi hi _=>by simp at hi;simp[hi]))).trans (Fr.set.mono (λi hi _=>by simp at hi;simp[hi]))
  ·rw[Mem.markOf_succ,setBlk_other (by omega)];exact g13
 ·rintro _ H14 ⟨rfl,f14,ql14,qm14⟩
  refine⟨ql14,λH15 hH15=>?_⟩
  have f15:Fr [lp] H14 H15:=by rw[hH15];exact Fr.set
  have fA:Fr [lp,c6] H9 H15:=f14.trans (f15.mono (λi hi _=>by simp at hi;simp[hi]))
  have hA:=h9.keep fA (by have:=lts b.c (by simp);simp;omega) (by have:=lts b.sp (by simp);simp;omega) (by have:=lts b.m (by simp);simp;omega) (by have:=lts b.s (by simp);simp;omega)
  have qm15:=f15.get (by simp;omega) qm14
  refine⟨_,by rw[hat_blk (fA.get (by simp;omega) ((e7.trans (w13.trans e9)).get (e5.get (e3.get g1))))];rfl,_,rfl,_,hA.cPtr,_,rfl,_,hA.sp.memPtr,_,by rw[hat_blk qm15];rfl,?_⟩
  refine HC.mono (seg_Mark_c hA.sp.mem) ?_
  rintro _ H16 ⟨rfl,m16,f16⟩
  refine⟨_,rfl,?_⟩
  have e:s.mem.again k c=(s.mem.mark k c (s.mem.markOf k c (s.mem.cardLen k c))).1:=by unfold Mem.again;rw[if_pos ⟨hk,hc⟩]
  have cd16:=hA.withMem (S:=[b.s]) f16 (λi hi=>by simp at hi;simp[hi]) m16
  have gd16:H16[W3.size]?=some (.deferred (some [])):=f16.get (by have:=lts b.s (by simp);simp;omega) (fA.get (by simp;omega) gdef)
  refine⟨gd16,?_⟩
  have f17:Fr [W3.size] H16 (H16.setIfInBounds W3.size (.deferred none)):=Fr.set
  rw[e]at hR
  refine hR _ _ ⟨⟨_,rfl⟩,cd16.keep f17 (by have:=lts b.c (by simp);simp;omega) (by have:=lts b.sp (by simp);simp;omega) (by have:=lts b.m (by simp);simp;omega) (by have:=lts b.s (by simp);simp;omega),?_⟩
  have eH9:Ext H H9:=e15.trans e59
  have f1:Ext H H15:=eH9.fr_trans fA (λi hi=>by simp at hi;omega)
  refine(f1.fr.trans (f16.mono (λi hi _=>by simp at hi;simp[hi]))).trans' f17 (λi hi _=>hi) (λi hi hl=>by simp at hi;omega)
