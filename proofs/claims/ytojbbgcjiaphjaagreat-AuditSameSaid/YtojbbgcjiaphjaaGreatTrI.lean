/-
 A trace begins (package trace): Start. Proves nothing of any one statement.
-/
import Derived.Test.YtojbbgcjiaphjaaGreatTrF
set_option linter.unusedVariables false
set_option linter.unusedSimpArgs false
namespace Go.Proofs.YtojbbgcjiaphjaaGreat
open Go

theorem TrAt.put{H:zV}{b:Blk}{q:TB}{t:Tr}(h:TrAt H b q t){o:Nat}{v:Value}(ho:o<1030):
  aK H ⟨q.t,o,none⟩ 0 1/\Fr [q.t] H (aU H ⟨q.t,o,none⟩ [v] 0)/\ ∃cs cs':Array Value,H[q.t]?=some (.cells cs 144 (0,0))/\(aU H ⟨q.t,o,none⟩ [v] 0)[q.t]?=some (.cells cs' 144 (0,0))/\cs'.size=cs.size/\ ∀j:Nat,cs'[j]?=if j=o then some v else cs[j]?:=by
 obtain⟨cs,h1,hsz,_⟩:=h.tr
 refine⟨cU h1 _ _ _ (by omega),?_⟩
 rw[bV _ H cs _ 0 h1]
 refine⟨Fr.set,cs,_,h1,aX (aO h1),splice_size _ _ _,λj=>?_⟩
 by_cases e:j=o
 ·rw[if_pos e,e]
  have:=dR cs [v] (o+0) 0 (by simp;omega) (by simp)
  simpa using this
 ·rw[if_neg e]
  rcases Nat.lt_or_ge j o with hl | hl
  ·exact dA _ _ _ _ (by omega)
  ·exact fF _ _ _ _ (by simp;omega)
theorem TrAt.rest{H H':zV}{b:Blk}{q:TB}{t:Tr}(h:TrAt H b q t)(f:Fr [q.t] H H'):(∃(es:Array MapEntry) (cl:Nat),H'[q.f]?=some (.map es cl)/\Ents (bT .i64) es.toList t.frm)/\(∃(es:Array MapEntry) (cl:Nat),H'[q.s]?=some (.map es cl)/\Ents (bT .i64) es.toList t.seen)/\fY H' q.cB (mi t.cards):=by
 obtain⟨es,cl,h2,hr2⟩:=h.frm
 obtain⟨es',cl',h3,hr3⟩:=h.seen
 have ne:=h.ne
 refine⟨⟨es,cl,f.get (by simp;omega) h2,hr2⟩,⟨es',cl',f.get (by simp;omega) h3,hr3⟩,?_⟩
 have hc:=h.cards
 cases hb:q.cB with
 | none=>rw[hb]at hc;exact hc
 | some a=>
  rw[hb]at hc
  refine f.rowAt ?_ hc
  have:=ne.2.2.2 a.block (by rw[hb];simp)
  simp;omega
def Mem.young(m:Mem)(g:Int)(k:Nat):Bool:=decide (m.has k/\(m.seg k).gen<=g)
structure qR (m:Mem) (g T:Int) (t:Tr):Prop where
 tgt:t.tgt=T
 old: ∀k,k<1024->t.old k=m.young g k
 frm: ∀k:Int,0<=k->mget t.frm k=if m.has k/\(m.seg k.toNat).gen=T then some (.int .i64 (m.seg k.toNat).n)else none
 seen: ∀k:Int,0<=k->mget t.seen k=if m.has k/\(m.seg k.toNat).gen=T then some (.int .i64 (m.seg k.toNat).n)else none
 frm0: ∀k:Int,k<0->mget t.frm k=none
 seen0: ∀k:Int,k<0->mget t.seen k=none
 cards: ∃l,eW m [] l/\t.cards=m.dirtyOf g l
 over:t.over=false
def Told(m:Mem)(ks:List (Int×Value))(l:List Nat):Prop:= ∀k:Int,mget ks k=if 0<=k/\k.toNat∈l then some (.int .i64 (m.seg k.toNat).n)else none
theorem Told.put{m:Mem}{ks:List (Int×Value)}{l:List Nat}(h:Told m ks l)(k:Nat){v:Value}:Told m (mput (mput ks k v) k (.int .i64 (m.seg k).n)) (l++[k]):=by
 intro a
 rw[jm,jm,h a]
 by_cases e:a=k
 ·subst e
  rw[if_pos rfl,if_pos ⟨by omega,by simp⟩];simp
 ·rw[if_neg e,if_neg e]
  refine qe ⟨λq=>⟨q.1,List.mem_append_left _ q.2⟩,λq=>⟨q.1,?_⟩⟩ _ _
  rcases List.mem_append.1 q.2 with q2 | q2
  ·exact q2
  ·simp at q2;omega

def Mem.give(m:Mem)(k:Int):Mem:=if m.has k then{m with free:=m.free+1}.upd k.toNat Seg.none else m
theorem bO.give{m:Mem}(ok:bO m)(k:Int):bO (m.give k):=by
 unfold Mem.give
 split
 ·rename_i h
  refine⟨ok.lim,λi=>?_,?_,ok.count⟩
  ·rw[Mem.upd_seg]
   split
   ·exact lz
   ·exact ok.seg i
  ·show m.free+1=_
   have e2:({m with free:=m.free+1}.upd k.toNat Seg.none).nfree=(m.upd k.toNat Seg.none).nfree:=rfl
   have:=Mem.nfree_give (m:=m) (k:=k.toNat) (s:=Seg.none) (by have:=h.1;have:=h.2.1;omega) h.2.2 rfl
   rw[e2,this,ok.free];omega
 ·exact ok
def Sp.give(s:Sp)(k:Int):Sp:=if s.mem.has k then{mem:=s.mem.give k,cur:=λi j=>if s.cur i j=k+1 then 0 else s.cur i j}else s
def Mem.cardLen(m:Mem)(k c:Int):Nat:=(min 16 ((m.seg k.toNat).n-c*16)).toNat
def Mem.markOf(m:Mem)(k c:Int)(n:Nat):Int:=(m.row (k*64+c*16) n).foldl (λmk w=>m.younger (m.seg k.toNat) w mk) 5
def Mem.again(m:Mem)(k c:Int):Mem:=if m.has k/\0<=c/\c<4 then(m.mark k c (m.markOf k c (m.cardLen k c))).1 else m
theorem Mem.markOf_succ(m:Mem)(k c:Int)(n:Nat):m.markOf k c (n+1)=m.younger (m.seg k.toNat) (m.get (k*64+c*16+n)) (m.markOf k c n):=by
 unfold Mem.markOf Mem.row
 rw[List.range_succ,List.map_append,List.foldl_append];rfl
set_option maxRecDepth 100000 in
theorem lj{H:zV}{yield:Value}{b:Blk}{s:Sp}{p1 p2 p3:Nat}{k c:Int}{R0:zV->Prop}(Inv:Nat->zV->Prop)(ok:SpOK s)(hk:s.mem.has k)(hc:0<=c/\c<4)(h0:Inv 0 H)
  (hst: ∀j A,Inv j A->SpAt A b s/\hat A ⟨b.c,0,none⟩=some (.pointer (some ⟨b.sp,0,none⟩))/\hat A ⟨p1,0,none⟩=some (.pointer (some ⟨b.c,0,none⟩))/\hat A ⟨p2,0,none⟩=some (.int .i64 k)/\hat A ⟨p3,0,none⟩=some (.int .i64 c))
  (hstep: ∀j,j<s.mem.cardLen k c-> ∀A,Inv j A->FC Tryz.prog yield #[.int .u64 (s.mem.get (k*64+c*16+j))] A (λv A'=>v=.bool true/\Inv (j+1) A'))
  (hend: ∀A,Inv (s.mem.cardLen k c) A->R0 A):
  cL.C yield (some ⟨p1,0,none⟩) (some ⟨p2,0,none⟩) (some ⟨p3,0,none⟩) H (λv A=>v=.tuple #[]/\R0 A):=by
 refine HC.via λR hR=>cL.link ?_
 unfold cL.pt zY
 have hlim:=ok.mem.lim
 have k0:=hk.1
 have k1:=hk.2.1
 refine⟨λi A=> ∃j:Nat,i=j/\j<=s.mem.cardLen k c/\Inv j A,λi _=>(16-i).toNat,⟨0,rfl,Nat.zero_le _,h0⟩,?_⟩
 rintro i A ⟨j,rfl,hj,hI⟩
 have hlen:s.mem.cardLen k c<=16:=by unfold Mem.cardLen;omega
 by_cases hlt:(j:Int)<16
 ·rw[if_pos hlt]
  obtain⟨hsp,q1,q2,q3,q4⟩:=hst j A hI
  refine⟨_,rfl,_,q2,_,rfl,_,q1,_,rfl,_,hsp.memPtr,_,rfl,_,q3,_,rfl,_,q4,?_⟩
  rw[w64 (n:=k*64) (by omega),w64 (n:=c*16) (by omega),w64 (n:=k*64+c*16) (by omega),w64 (n:=k*64+c*16+j) (by omega)]
  refine HC.mono (jC hsp.mem ok.mem (by omega)) ?_
  rintro _ A1 ⟨rfl,rfl⟩
  have e1:(k*64+c*16+j) / 64=k:=by omega
  have e2:(k*64+c*16+(j:Int)) % 64=c*16+j:=by omega
  by_cases hu:s.mem.used (k*64+c*16+j)
  ·rw[if_pos hu]
   refine⟨_,_,rfl,?_⟩
   rw[if_pos rfl]
   have hjl:j<s.mem.cardLen k c:=by
    have h3:=hu.2.2
    rw[e1,e2]at h3
    unfold Mem.cardLen;omega
   refine(hstep j hjl A1 hI).mono ?_
   rintro v A2 ⟨rfl,hI2⟩
   refine⟨true,rfl,?_⟩
   rw[if_pos rfl,w64 (n:=(j:Int)+1) (by omega)]
   exact⟨⟨j+1,by omega,by omega,hI2⟩,by show(16-((j:Int)+1)).toNat< (16-(j:Int)).toNat;omega⟩
  ·rw[if_neg hu]
   refine⟨_,_,rfl,?_⟩
   rw[if_neg (by decide)]
   have hjl:j=s.mem.cardLen k c:=by
    rcases Nat.lt_or_ge j (s.mem.cardLen k c)with h | h
    ·refine absurd ⟨by omega,by rw[e1];exact hk,?_⟩ hu
     rw[e1,e2]
     unfold Mem.cardLen at h;omega
    ·omega
   exact hR _ _ ⟨rfl,hend _ (hjl▸hI)⟩
 ·rw[if_neg hlt]
  have hjl:j=s.mem.cardLen k c:=by omega
  exact hR _ _ ⟨rfl,hend _ (hjl▸hI)⟩
theorem Mem.younger_rng{m:Mem}(ok:bO m)(sg:Seg)(w:Int){mk:Int}(h:0<=mk/\mk<=5):0<=m.younger sg w mk/\m.younger sg w mk<=5:=by
 have:=ok.genOf w
 unfold Mem.younger
 split
 ·omega
 ·exact h
theorem Mem.markOf_rng{m:Mem}(ok:bO m)(k c:Int): ∀n,0<=m.markOf k c n/\m.markOf k c n<=5
 | 0=>(by decide:(0:Int)<=5/\(5:Int)<=5)
 | n+1=>by rw[Mem.markOf_succ];exact Mem.younger_rng ok _ _ (Mem.markOf_rng ok k c n)
set_option maxRecDepth 100000 in
theorem mG{H:zV}{b:Blk}{s:Sp}{k c:Int}(h:CdAt H b s)(ok:SpOK s)(hlt: ∀i,i∈[b.c,b.sp,b.m,b.s]->i<H.size):
  cR.C (some ⟨b.c,0,none⟩) k c H (λv H'=>(∃e:Int,v=.int .i64 e)/\CdAt H' b {s with mem:=s.mem.again k c}/\Fr [b.m,b.s] H H'):=by
 refine HC.via λR hR=>cR.link ?_
 unfold cR.pt
 intro c1 H1 hc1 hH1
 have e1:Ext H H1:=Ext.push' hH1
 have g1:=aG hc1 hH1
 refine⟨_,by rw[aI g1];rfl,?_⟩
 have h1:=h.ext e1
 have z1:H1.size=H.size+1:=by rw[hH1];simp
 refine HC.mono (kY h1) ?_
 rintro _ H2 ⟨rfl,rfl⟩
 refine⟨_,rfl,?_⟩
 rw[if_neg (by decide)]
 refine⟨_,by rw[aI g1];rfl,_,rfl,_,h1.cPtr,_,rfl,_,h1.sp.memPtr,?_⟩
 refine HC.mono (jH h1.sp.mem) ?_
 rintro _ H3 ⟨rfl,e3⟩
 refine⟨_,_,_,_,_,_,_,_,rfl,λc4 H4 hc4 hH4=>?_⟩
 obtain⟨hcp,hs⟩:=ke (s.mem.segOr k) hc4 hH4
 refine⟨hcp,λH5 hH5=>?_⟩
 obtain⟨e5,_,_,_,hr5⟩:=hs H5 hH5
 have c4lt:c4<H5.size:=by
  have h4:H4.size=H3.size+1:=by rw[hH4];simp
  rw[hH5,bV _ _ _ _ _ (aG hc4 hH4)];simp[h4];omega
 have e15:=(e1.trans e3).trans e5
 have h5:=h.ext e15
 have z3:=e3.size
 by_cases hk:s.mem.has k
 case neg=>
  rw[if_neg (by simpa using hk)]
  have e:s.mem.again k c=s.mem:=by unfold Mem.again;rw[if_neg (λhh=>hk hh.1)]
  rw[e]at hR
  exact hR _ _ ⟨⟨_,rfl⟩,h5,e15.fr⟩
 rw[if_pos (zX hk)]
 by_cases hc:0<=c/\c<4
 case neg=>
  rw[if_pos (by simp only[Bool.or_eq_true,decide_eq_true_eq];omega)]
  have e:s.mem.again k c=s.mem:=by unfold Mem.again;rw[if_neg (λhh=>hc hh.2)]
  rw[e]at hR
  exact hR _ _ ⟨⟨_,rfl⟩,h5,e15.fr⟩
 rw[if_neg (by simp only[Bool.or_eq_true,decide_eq_true_eq];omega)]
 have hsg:s.mem.segOr k=s.mem.seg k.toNat:=by unfold Mem.segOr;rw[if_pos hk]
 rw[hsg]at hr5
 intro c6 H6 hc6 hH6
 have e6:Ext H5 H6:=Ext.push' hH6
 have g6:=aG hc6 hH6
 obtain⟨hcp6,hs6⟩:=gX (vs:=[.int .i64 5]) g6 rfl rfl
 refine⟨hcp6,λH7 hH7=>?_⟩
 obtain⟨g7,f7⟩:=hs6 H7 hH7
 have z5:=e5.size
 have e7:Ext H5 H7:=e6.fr_trans f7 (λi hi=>by simp at hi;omega)
 have g17:H7[c1]?=some (.cells #[.pointer (some ⟨b.c,0,none⟩)] 33 (0,0)):=e7.get (e5.get (e3.get g1))
 refine⟨_,by rw[aI g17];rfl,?_⟩
 refine cZ.link ?_
 unfold cZ.pt
 intro d1 W1 hd1 hW1 d2 W2 hd2 hW2 d3 W3 hd3 hW3
 have w1:Ext H7 W1:=Ext.push' hW1
 have w2:Ext W1 W2:=Ext.push' hW2
 have w3:Ext W2 W3:=Ext.push' hW3
 have y7:H7.size=H5.size+1:=by
  have:=f7.size
  have h6:H6.size=H5.size+1:=by rw[hH6];simp
  rw[hH7,bV _ _ _ _ _ g6];simp[h6]
 have y1:W1.size=H7.size+1:=by rw[hW1];simp
 have y2:W2.size=W1.size+1:=by rw[hW2];simp
 have y3:W3.size=W2.size+1:=by rw[hW3];simp
 have gd1:W3[d1]?=some (.cells #[.pointer (some ⟨b.c,0,none⟩)] 33 (0,0)):=w3.get (w2.get (aG hd1 hW1))
 have gd2:W3[d2]?=some (.cells #[.int .i64 k] 3 (0,0)):=w3.get (aG hd2 hW2)
 have gd3:W3[d3]?=some (.cells #[.int .i64 c] 3 (0,0)):=aG hd3 hW3
 have w13:=(w1.trans w2).trans w3
 refine⟨rfl,?_⟩
 intro rc lp H9 hlp hH9 vY hY
 have e9:Ext W3 H9:=(Ext.push' rfl).trans (Ext.push' hH9)
 have gdef:H9[W3.size]?=some (.deferred (some [])):=by
  have:(W3.push (.deferred (some [])))[W3.size]?=some (.deferred (some [])):=aG rfl rfl
  exact(Ext.push' hH9).get this
 have glp:H9[lp]?=some (rc .ready none):=aG (by simp;omega) hH9
 have e59:Ext H5 H9:=(e7.trans w13).trans e9
 have h9:=h5.ext e59
 have lts: ∀i,i∈[b.c,b.sp,b.m,b.s]->i<H.size:=hlt
 have z15:=e15.size
 refine FE.of2 (enters_of Tryz.func147 (by kernel_rfl) rfl) rfl (HC.mono (lj (b:=b) (s:=s) (p1:=d1) (p2:=d2) (p3:=d3) (k:=k) (c:=c)
  (λj A=>Fr [lp,c6] H9 A/\A[lp]?=some (rc .ready none)/\A[c6]?=some (.cells #[.int .i64 (s.mem.markOf k c j)] 3 (0,0))) ok hk hc
  ⟨Fr.refl _ _,glp,by rw[show s.mem.markOf k c 0=5 from rfl];exact e9.get (w13.get g7)⟩
  (λj A hI=>?_) (λj hj A hI=>?_) (R0:=λA=>Fr [lp,c6] H9 A/\A[lp]?=some (rc .ready none)/\A[c6]?=some (.cells #[.int .i64 (s.mem.markOf k c (s.mem.cardLen k c))] 3 (0,0))) (λA hI=>hI)) ?_)
 ·obtain⟨f,_,_⟩:=hI
  have hA:=h9.keep f (by have:=lts b.c (by simp);simp;omega) (by have:=lts b.sp (by simp);simp;omega) (by have:=lts b.m (by simp);simp;omega) (by have:=lts b.s (by simp);simp;omega)
  refine⟨hA.sp,hA.cPtr,?_,?_,?_⟩
  ·rw[aI (f.get (by simp;omega) (e9.get gd1))];rfl
  ·rw[aI (f.get (by simp;omega) (e9.get gd2))];rfl
  ·rw[aI (f.get (by simp;omega) (e9.get gd3))];rfl
 ·obtain⟨f,ql,qm⟩:=hI
  refine(hY _ A _ ql ⟨ql,λH11 hH11=>?_⟩)
  have f11:Fr [lp] A H11:=by rw[hH11];exact Fr.set
  have fA:Fr [lp,c6] H9 H11:=f.trans (f11.mono (λi hi _=>by simp at hi;simp[hi]))
  have ql11:H11[lp]?=some (rc .busy none):=by rw[hH11];exact aX (aO ql)
  have qm11:=f11.get (by simp;omega) qm
  have hA:=h9.keep fA (by have:=lts b.c (by simp);simp;omega) (by have:=lts b.sp (by simp);simp;omega) (by have:=lts b.m (by simp);simp;omega) (by have:=lts b.s (by simp);simp;omega)
  have hrA:=fA.rowAt (a:=⟨c4,0,none⟩) (by show c4 ∉ [lp,c6];simp;omega) (e59.rowAt hr5)
  refine⟨_,by rw[aI (fA.get (by simp;omega) ((e7.trans (w13.trans e9)).get (e5.get (e3.get g1))))];rfl,_,_,_,_,_,_,_,hrA,_,by rw[aI qm11];rfl,?_⟩
  refine HC.mono (lA hA ((ok.mem.seg _).words _)) ?_
  rintro _ H12 ⟨rfl,e12⟩
  refine⟨_,rfl,?_⟩
  obtain⟨hcpm,hsm⟩:=gX (vs:=[.int .i64 (s.mem.younger (s.mem.seg k.toNat) (s.mem.get (k*64+c*16+j)) (s.mem.markOf k c j))]) (e12.get qm11) rfl rfl
  refine⟨hcpm,λH13 hH13=>?_⟩
  obtain⟨g13,f13⟩:=hsm H13 hH13
  have ql13:=f13.get (by simp;omega) (e12.get ql11)
  refine⟨ql13,rfl,?_,aX (aO ql13),?_⟩
  ·exact((fA.trans e12.fr).trans (f13.mono (λi hi _=>by simp at hi;simp[hi]))).trans (Fr.set.mono (λi hi _=>by simp at hi;simp[hi]))
  ·rw[Mem.markOf_succ,fS (by omega)];exact g13
 ·rintro _ H14 ⟨rfl,f14,ql14,qm14⟩
  refine⟨ql14,λH15 hH15=>?_⟩
  have f15:Fr [lp] H14 H15:=by rw[hH15];exact Fr.set
  have fA:Fr [lp,c6] H9 H15:=f14.trans (f15.mono (λi hi _=>by simp at hi;simp[hi]))
  have hA:=h9.keep fA (by have:=lts b.c (by simp);simp;omega) (by have:=lts b.sp (by simp);simp;omega) (by have:=lts b.m (by simp);simp;omega) (by have:=lts b.s (by simp);simp;omega)
  have qm15:=f15.get (by simp;omega) qm14
  refine⟨_,by rw[aI (fA.get (by simp;omega) ((e7.trans (w13.trans e9)).get (e5.get (e3.get g1))))];rfl,_,rfl,_,hA.cPtr,_,rfl,_,hA.sp.memPtr,_,by rw[aI qm15];rfl,?_⟩
  refine HC.mono (nE hA.sp.mem) ?_
  rintro _ H16 ⟨rfl,m16,f16⟩
  refine⟨_,rfl,?_⟩
  have e:s.mem.again k c=(s.mem.mark k c (s.mem.markOf k c (s.mem.cardLen k c))).1:=by unfold Mem.again;rw[if_pos ⟨hk,hc⟩]
  have cd16:=hA.withMem (S:=[b.s]) f16 (λi hi=>by simp at hi;simp[hi]) m16
  have gd16:H16[W3.size]?=some (.deferred (some [])):=f16.get (by have:=lts b.s (by simp);simp;omega) (fA.get (by simp;omega) gdef)
  refine⟨gd16,?_⟩
  have f17:Fr [W3.size] H16 (H16.setIfInBounds W3.size (.deferred none)):=Fr.set
  rw[e]at hR
  refine hR _ _ ⟨⟨_,rfl⟩,cd16.keep f17 (by have:=lts b.c (by simp);simp;omega) (by have:=lts b.sp (by simp);simp;omega) (by have:=lts b.m (by simp);simp;omega) (by have:=lts b.s (by simp);simp;omega),?_⟩
  have eH9:Ext H H9:=e15.trans e59
  have f1:Ext H H15:=eH9.fr_trans fA (λi hi=>by simp at hi;omega)
  refine(f1.fr.trans (f16.mono (λi hi _=>by simp at hi;simp[hi]))).trans' f17 (λi hi _=>hi) (λi hi hl=>by simp at hi;omega)

def Sp.gives(s:Sp)(old:Nat->Bool):Nat->Sp
 | 0=>s
 | n+1=>if old n then(s.gives old n).give n else s.gives old n
def Sp.agains(s:Sp)(l:List (Int×Int)):Sp:=l.foldl (λs c=>{s with mem:=s.mem.again c.1 c.2}) s
def Sp.ended(s:Sp)(t:Tr):Sp:=(s.gives t.old 1024).agains t.cards
theorem Mem.again_seg(m:Mem)(k c:Int):(m.again k c).limit=m.limit/\(m.again k c).free=m.free/\(m.again k c).count=m.count/\ ∀i,((m.again k c).seg i).gen=(m.seg i).gen/\((m.again k c).seg i).kind=(m.seg i).kind/\((m.again k c).seg i).n=(m.seg i).n/\((m.again k c).seg i).taken=(m.seg i).taken/\((m.again k c).seg i).words=(m.seg i).words:=by
 unfold Mem.again
 split
 ·unfold Mem.mark
  split
  ·exact⟨rfl,rfl,rfl,λi=>⟨rfl,rfl,rfl,rfl,rfl⟩⟩
  split
  ·exact⟨rfl,rfl,rfl,λi=>⟨rfl,rfl,rfl,rfl,rfl⟩⟩
  ·refine⟨rfl,rfl,rfl,λi=>?_⟩
   rw[Mem.upd_seg]
   split
   ·rename_i h;rw[h];exact⟨rfl,rfl,rfl,rfl,rfl⟩
   ·exact⟨rfl,rfl,rfl,rfl,rfl⟩
 ·exact⟨rfl,rfl,rfl,λi=>⟨rfl,rfl,rfl,rfl,rfl⟩⟩
theorem Mem.again_has(m:Mem)(k c:Int){i:Int}:(m.again k c).has i ↔ m.has i:=by
 obtain⟨h1,_,_,h2⟩:=m.again_seg k c
 unfold Mem.has;rw[h1,(h2 _).2.2.2.1]
theorem Mem.again_ok{m:Mem}(ok:bO m)(k c:Int):bO (m.again k c):=by
 unfold Mem.again
 split
 ·exact ok.mark _ _ _
 ·exact ok
theorem SpOK.again{s:Sp}(ok:SpOK s)(k c:Int):SpOK {s with mem:=s.mem.again k c}:=
 ok.withMem (Mem.again_ok ok.mem k c) (λi h=>(Mem.again_has _ _ _).2 h) (λi=>⟨((s.mem.again_seg k c).2.2.2 i).1,((s.mem.again_seg k c).2.2.2 i).2.1⟩)
