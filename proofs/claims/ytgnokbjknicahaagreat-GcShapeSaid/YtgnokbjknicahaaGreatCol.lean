/-
 Contracts of packages weak (with nothing that is guarded, and no symbols) and gc: a collection. Proves nothing of any one statement.
-/
import Derived.Test.YtgnokbjknicahaaGreatGcI
import Derived.Test.YtgnokbjknicahaaGreatFweak
set_option linter.unusedVariables false
set_option linter.unusedSimpArgs false
namespace Go.Proofs.YtgnokbjknicahaaGreat
open Go

theorem read_wC{H:zV}{bm bs:Nat}{m:Mem}{a:Int}(h:MemAt H bm bs m)(ok:MemOK m)(ha:a<=9223372036854775807):
  seg_Mem_Read.C (some ⟨bm,0,none⟩) a H (λv H'=>v=.tuple #[.int .u64 (m.read a),.int .i64 (if m.used a then 0 else 18)]/\H'=H):=
 HC.mono (seg_Read_c h ok ha) (by
  rintro _ _ ⟨rfl,rfl⟩
  refine⟨?_,rfl⟩
  unfold Mem.read
  split<;>rfl)
theorem hputs_same{H:zV}{b o:Nat}{cs:Array Value}{T:TypeId}{v:Value}(g:H[b]?=some (.cells cs T (0,0)))(hv:cs[o]?=some v):CanPuts H ((Addr.mk b 0 none).add o) 0 1/\ ∀H2,H2=hputs H ((Addr.mk b 0 none).add o) [v] 0->H2=H:=by
 have ho:o<cs.size:=by
  rcases Nat.lt_or_ge o cs.size with h | h
  ·exact h
  ·rw[Array.getElem?_eq_none h]at hv;cases hv
 rw[addr_add_mk,Nat.zero_add]
 refine⟨canPuts_blk g 1 o 0 (by omega),λH2 h2=>?_⟩
 rw[hputs_blk [v] H cs o 0 g,Nat.add_zero]at h2
 have e:splice cs o [v]=cs:=by
  refine Array.ext_getElem? λi=>?_
  rcases Nat.lt_or_ge i o with h | h
  ·exact splice_get_lt cs [v] o i h
  ·by_cases e:i=o
   ·subst e
    have:=splice_get_in cs [v] i 0 (by simp;omega) (by simp)
    rw[Nat.add_zero]at this
    rw[this,hv];rfl
   ·exact splice_get_ge cs [v] o i (by simp;omega)
 rw[e,setBlk_same g]at h2
 exact h2
theorem weak_ended_c{H:zV}{b:Blk}{x:Hp}{q:TB}{t:Tr}(T:Tc H b x q t):weak_ended.C (some ⟨q.t,0,none⟩) H (λv H'=>v=.bool t.over/\H'=H):=by
 refine HC.via λR hR=>weak_ended.link ?_
 unfold weak_ended.pt
 rw[onPtr_some]
 have h:trace_Trace_Ended.C (some ⟨q.t,0,none⟩) H (λv H'=>v=.bool t.over/\H'=H):=by
  refine HC.via λR hR=>trace_Trace_Ended.link ?_
  unfold trace_Trace_Ended.pt
  refine HC.mono (tr_none_c T) ?_
  rintro _ _ ⟨rfl,rfl⟩
  exact⟨_,rfl,hR _ _ ⟨rfl,rfl⟩⟩
 refine HC.mono h ?_
 rintro _ _ ⟨rfl,rfl⟩
 exact⟨_,rfl,hR _ _ ⟨rfl,rfl⟩⟩
theorem weak_Guards_0{H:zV}{b:Blk}{x:Hp}{q:TB}{t:Tr}(T:Tc H b x q t)(on:t.over=false):weak_Guards.C (some ⟨q.t,0,none⟩) none 0 0 H (λv H'=>v=.slice none 0 0/\Ext H H'):=by
 refine HC.via λR hR=>weak_Guards.link ?_
 unfold weak_Guards.pt zY
 intro c H1 hc hH1 c2 H2 hc2 hH2
 have g1:=push_get hc hH1
 have e1:Ext H H1:=Ext.push' hH1
 have e2:Ext H1 H2:=Ext.push' hH2
 have g2:=push_get hc2 hH2
 refine⟨_,hat_blk (e2.get g1),?_⟩
 refine HC.mono (weak_ended_c (T.ext (e1.trans e2))) ?_
 rintro _ H3 ⟨rfl,rfl⟩
 refine⟨_,rfl,?_⟩
 rw[if_neg (by rw[on];decide)]
 refine⟨_,_,_,hat_blk g2,by decide,by decide,by decide,by decide,?_⟩
 intro c3 H5 hc3 hH5 c4 H6 hc4 hH6
 have e5:Ext H3 H5:=Ext.push' hH5
 have e6:Ext H5 H6:=Ext.push' hH6
 obtain⟨hcp,hs⟩:=box_set (n:=1) (vs:=[.slice (some (Addr.mk c3 0 none)) 0 0]) (push_get hc4 hH6) rfl rfl
 refine⟨hcp,λH7 hH7=>?_⟩
 obtain⟨g7,f7⟩:=hs H7 hH7
 have e37:Ext H3 H7:=(e5.trans e6).fr_trans f7 (λj hj=>by simp at hj;have:=e5.size;omega)
 have e07:=(e1.trans e2).trans e37
 have hl2:hat H7 (Addr.mk c2 0 none)=some (.slice none 0 0):=hat_blk (e37.get g2)
 refine⟨_,_,_,hl2,λs A=>s=0/\A=H7,λ_ _=>0,⟨rfl,rfl⟩,?_⟩
 rintro s A ⟨rfl,rfl⟩
 rw[if_neg (by decide)]
 refine⟨_,_,_,hl2,λs A'=>s=0/\A'=A,λ_ _=>0,⟨rfl,rfl⟩,?_⟩
 rintro s A' ⟨rfl,rfl⟩
 rw[if_neg (by decide)]
 refine⟨_,_,_,hl2,λoB oN oC s A=>oB=none/\oN=0/\oC=0/\s=0/\A=A',λ_ _ _ _ _=>0,⟨rfl,rfl,rfl,rfl,rfl⟩,?_⟩
 rintro oB oN oC s A ⟨rfl,rfl,rfl,rfl,rfl⟩
 rw[if_neg (by decide)]
 exact hR _ _ ⟨rfl,e07⟩
theorem weak_Prune_0{H:zV}{b:Blk}{x:Hp}{q:TB}{t:Tr}(T:Tc H b x q t)(on:t.over=false):weak_Prune.C (some ⟨q.t,0,none⟩) none 0 0 H (λv H'=>v=.slice none 0 0/\H'=H):=by
 refine HC.via λR hR=>weak_Prune.link ?_
 unfold weak_Prune.pt zY
 refine HC.mono (weak_ended_c T) ?_
 rintro _ H1 ⟨rfl,rfl⟩
 refine⟨_,rfl,?_⟩
 rw[if_neg (by rw[on];decide)]
 refine⟨λoB oN oC s A=>oB=none/\oN=0/\oC=0/\s=0/\A=H1,λ_ _ _ _ _=>0,⟨rfl,rfl,rfl,rfl,rfl⟩,?_⟩
 rintro oB oN oC s A ⟨rfl,rfl,rfl,rfl,rfl⟩
 rw[if_neg (by decide)]
 exact hR _ _ ⟨rfl,rfl⟩
set_option maxRecDepth 100000 in
theorem weak_Breaks_c{H:zV}{b:Blk}{y:Hp}{q:TB}{t:Tr}(T:Tg H b y q t)(hf:SeenOK t.frm)(hcs:CardsOK t.cards):
  weak_Breaks.C (some ⟨q.t,0,none⟩) H (λ_ H'=> ∃l,IsTaken y.sp.mem [t.tgt] l/\Tg H' b {y with sp:={y.sp with mem:=(y.sp.mem.weaks t l).foldl (brkR t.old) y.sp.mem}} q t/\Fr (spB b) H H'):=by
 refine HC.via λR hR=>weak_Breaks.link ?_
 unfold weak_Breaks.pt zY
 refine HC.mono (weak_ended_c T.toTc) ?_
 rintro _ H1 ⟨rfl,rfl⟩
 refine⟨_,rfl,?_⟩
 rw[if_neg (by rw[T.on];decide)]
 refine HC.mono (tr_Weaks_c T hf hcs) ?_
 rintro _ H2 ⟨l,wB,wN,wC,hl,rfl,hWn,hr,hwb,hw3,e2⟩
 have hw:=weaks_le T.ok.mem hf hcs hl
 have hrd: ∀j∈blks wB,j ∉ b.all:=λj hj h=>by have:=hwb j hj;have:=T.lt (.inl h);omega
 refine⟨_,_,_,rfl,?_⟩
 generalize hWW:y.sp.mem.weaks t l=W at*
 subst hWn
 refine⟨λk A=>(0<=k/\k<=W.length)/\Tg A b {y with sp:={y.sp with mem:=(W.take k.toNat).foldl (brkR t.old) y.sp.mem}} q t/\Fr (spB b) H2 A,λk _=>(W.length-k).toNat,
  ⟨⟨by omega,by omega⟩,T.grow e2,Fr.refl _ _⟩,?_⟩
 rintro k A ⟨hk,TA,fA⟩
 by_cases hlt:k< (W.length:Int)
 case neg=>
  rw[if_neg hlt]
  rw[List.take_of_length_le (by omega)]at TA
  exact hR _ _ ⟨l,hl,by rw[hWW];exact TA,e2.fr.trans fA⟩
 rw[if_pos hlt]
 have hkN:k.toNat<W.length:=by omega
 have hmem:=List.getElem_mem hkN
 have hrA:=hr.keep fA (λj hj hs=>hrd j hj (spB_all hs))
 obtain⟨a,ha,hata⟩:=src_int hrA.src (i:=k.toNat) hkN
 have htk:W.take (k+1).toNat=W.take k.toNat++[W[k.toNat]]:=by rw[show(k+1).toNat=k.toNat+1 by omega,List.take_succ_eq_append_getElem hkN]
 have hfo:(W.take (k+1).toNat).foldl (brkR t.old) y.sp.mem=brkR t.old ((W.take k.toNat).foldl (brkR t.old) y.sp.mem) W[k.toNat]:=by rw[htk,List.foldl_append];rfl
 have hwk:=hw _ hmem
 generalize W[k.toNat]=w at*
 have hp:=TA.hp
 have hd:((W.length:Int)-(k+1)).toNat< ((W.length:Int)-k).toNat:=by omega
 refine⟨a,ha,⟨hk.1,hlt⟩,_,hata,_,rfl,_,TA.tr.hPtr,_,rfl,_,hp.hPtr,_,rfl,_,hp.cd.cPtr,_,rfl,_,hp.cd.sp.memPtr,?_⟩
 rw[w64 (n:=k+1) (by omega)]
 generalize hmm:(W.take k.toNat).foldl (brkR t.old) y.sp.mem=m at*
 refine HC.mono (read_wC hp.cd.sp.mem TA.ok.mem (by omega)) ?_
 rintro _ A1 ⟨rfl,rfl⟩
 refine⟨_,_,rfl,?_⟩
 have hrw:IsWord (m.read w):=Mem.read_word TA.ok.mem w
 refine HC.mono (tr_Old_c TA.toTc hrw) ?_
 rintro _ A2 ⟨rfl,e2'⟩
 refine⟨_,rfl,?_⟩
 have T2:=TA.grow e2'
 by_cases ho:isOldW t.old (m.read w)
 case neg=>
  rw[if_neg (by simp[ho])]
  have eb:brkR t.old m w=m:=by unfold brkR;rw[if_neg ho]
  exact⟨⟨⟨by omega,by omega⟩,by rw[hfo,eb];exact T2,fA.trans e2'.fr⟩,hd⟩
 rw[if_pos (zX ⟨TA.on,ho⟩)]
 refine HC.mono (tr_Reached_c T2.toTc hrw) ?_
 rintro _ A3 ⟨rfl,e3⟩
 refine⟨_,rfl,?_⟩
 have T3:=T2.grow e3
 have hp3:=T3.hp
 have e13:=e2'.trans e3
 have fin: ∀(A4 A5:zV) (v:Int),IsWord v->v=(m.fwd (m.read w)).getD 44->Tg A4 b {y with sp:={y.sp with mem:=m}} q t->Fr (spB b) A1 A4->MemAt A5 b.m b.s (if m.used w then m.set w v else m)->Fr [b.s] A4 A5->
   (((0<=k+1/\k+1<=(W.length:Int))/\Tg A5 b {y with sp:={y.sp with mem:=(W.take (k+1).toNat).foldl (brkR t.old) y.sp.mem}} q t/\Fr (spB b) H2 A5)/\((W.length:Int)-(k+1)).toNat< ((W.length:Int)-k).toNat):=by
  intro A4 A5 v hv hv2 T4 f4 hm5 f5
  have eb:brkR t.old m w=m.wr w v:=by unfold brkR;rw[if_pos ho,<-hv2]
  refine⟨⟨⟨by omega,by omega⟩,?_,(fA.trans f4).trans (f5.mono (λi hi _=>by simp at hi;simp[spB];omega))⟩,hd⟩
  rw[hfo,eb]
  refine⟨T4.toTc.withMem (m:=m.wr w v) f5 (λi hi=>by simp at hi;omega) hm5 (T4.ok.wr w hv),(Same'.wr m w v).even T4.even,?_,T4.on⟩
  have:=T4.cf
  unfold Sp.cf at this⊢
  show(m.wr w v).count+(m.wr w v).free<_
  rw[(Same'.wr m w v).count,(Same'.wr m w v).free];exact this
 have hno: ¬ ¬(t.over=false/\isOldW t.old (m.read w)):=λh=>h ⟨T.on,ho⟩
 cases hfw:m.fwd (m.read w)with
 | some v=>
  rw[if_pos (by simp[hfw])]
  refine⟨_,T3.tr.hPtr,_,rfl,_,hp3.hPtr,_,rfl,_,hp3.cd.cPtr,_,rfl,_,hp3.cd.sp.memPtr,?_⟩
  have hvis:=Sp.visit_fwd (s:={y.sp with mem:=m}) (T:=t.tgt) ho hfw
  refine HC.mono (tg_Visit_c T3 hrw) ?_
  rintro _ A4 ⟨rfl,T4,f4⟩
  rw[hvis]at T4⊢
  have hp4:=T4.hp
  refine⟨_,rfl,row1 T4.tr.hPtr,row1 hp4.hPtr,row1 hp4.cd.cPtr,row1 hp4.cd.sp.memPtr,?_⟩
  refine HC.mono (seg_Write_c hp4.cd.sp.mem T4.ok.mem (by omega)) ?_
  rintro _ A5 ⟨rfl,hm5,f5⟩
  have hv:v=(m.fwd (m.read w)).getD 44:=by rw[hfw];rfl
  exact⟨_,rfl,fin A4 A5 v (by rw[hv];exact fwd_wordD T4.ok.mem _) hv T4 (e13.fr.trans f4) hm5 f5⟩
 | none=>
  rw[if_neg (by simp[hfw,T.on,ho])]
  refine⟨_,T3.tr.hPtr,_,rfl,_,hp3.hPtr,_,rfl,_,hp3.cd.cPtr,_,rfl,_,hp3.cd.sp.memPtr,?_⟩
  refine HC.mono (seg_Write_c hp3.cd.sp.mem T3.ok.mem (by omega)) ?_
  rintro _ A5 ⟨rfl,hm5,f5⟩
  exact⟨_,rfl,fin A3 A5 44 (by decide) (by rw[hfw];rfl) T3 e13.fr hm5 f5⟩

def ptrs(k:Nat)(a:Addr)(n:Nat):List Value:=List.replicate k (.pointer none)++(List.range n).map λi=> .pointer (some (a.add (i*1)))
theorem ptrs_lo{k n i:Nat}{a:Addr}(h:i<k):(ptrs k a n)[i]?=some (.pointer none):=by
 unfold ptrs
 rw[List.getElem?_append_left (by simpa using h),List.getElem?_replicate,if_pos h]
theorem ptrs_hi{k n i:Nat}{a:Addr}(h:i<n):(ptrs k a n)[k+i]?=some (.pointer (some (a.add (i*1)))):=by
 unfold ptrs
 rw[List.getElem?_append_right (by simp),List.length_replicate,show k+i-k=i by omega,List.getElem?_map,List.getElem?_range h];rfl
theorem src_atC{H:zV}{B:zW}{vs:List Value}(h:SrcAt H B vs){k:Nat}{v:Value}(hk:vs[k]?=some v): ∃a,B=some a/\hat H (a.add (k*1))=some v:=by
 have hl:k<vs.length:=by
  rcases Nat.lt_or_ge k vs.length with h | h
  ·exact h
  ·simp[List.getElem?_eq_none h]at hk
 cases B with
 | none=>have e:vs=[]:=h;rw[e]at hl;simp at hl
 | some a=>
  refine⟨a,rfl,?_⟩
  have h':RowAt H a 0 vs:=h
  have:=rowAt_hat h' k v hk
  rw[Nat.zero_add]at this
  rw[Nat.mul_one];exact this
structure Went13 (H H':zV) (b:Blk) (x:Hp) (sz:Int->Nat) (g T:Int) (roots young:List Int) (rB:zW) (rC:Nat) (fw:Int->Option Int) (al:List Int) (sz':Int->Nat) (tr:Tr) (s3 s4 s5:Sp):Prop where
 col:Colled x.sp sz g T tr roots young fw al sz' s3 s4 s5
 hp:HpAt H' b {x with sp:=s5,ep:=IntKind.wrap .u64 (x.ep+1)}
 own:Own H' 24 1 rB roots.length rC (wvs young)
 fr:Fr (b.all++blks rB) H H'
 free:2*(x.sp.mem.nyoung g:Int)+9<=x.sp.mem.free
set_option maxRecDepth 100000 in
theorem gc_Collect_c{H:zV}{b:Blk}{x:Hp}{sz:Int->Nat}{g T:Int}{k:Nat}{pB:zW}{pN pC:Nat}{rB:zW}{rC:Nat}{roots:List Int}(hp:HpAt H b x)(I:Inv x.sp sz)(hcf:x.sp.cf<4611686018427387904)(hen:x.en=.slice none 0 0)(hsy:x.sy=.slice none 0 0)(hg:I64 g)(hT:I64 T)
  (hr:Own H 24 1 rB roots.length rC (wvs roots)) (hrb: ∀j∈blks rB,j ∉ b.all) (hpt:SrcAt H pB (ptrs k (rB.getD default) roots.length)) (hpn:pN=k+roots.length) (hpb: ∀j∈blks pB,j ∉ b.all/\j ∉ blks rB/\j<H.size) (hgood: ∀w∈roots,IsWord w/\Good x.sp.mem sz w) (hl:pN<=1000000000):
  gc_Collect.C (some ⟨b.h,0,none⟩) g T pB pN pC H (λv H'=>(startE x.sp g T 1≠0->v=.int .i64 (startE x.sp g T 1)/\Ext H H')/\
   (startE x.sp g T 1=0->v=.int .i64 0/\ ∃young fw al sz' tr s3 s4 s5,Went13 H H' b x sz g T roots young rB rC fw al sz' tr s3 s4 s5)):=by
 refine HC.via λR hR=>gc_Collect.link ?_
 unfold gc_Collect.pt zY
 rw[onPtr_some]
 have ok:=I.ok
 have hmore:gc_more.C (some ⟨b.h,0,none⟩) H (λv H'=>v=.int .i64 1/\H'=H):=by
  refine HC.via λR hR=>gc_more.link ?_
  unfold gc_more.pt zY
  refine⟨_,rfl,none,0,0,?_,hR _ _ ⟨rfl,rfl⟩⟩
  rw[box_get hp.h 2,<-hen];rfl
 refine HC.mono hmore ?_
 rintro _ H1 ⟨rfl,rfl⟩
 refine⟨_,rfl,?_⟩
 refine HC.mono (tr_Start_c hp ok I.even hcf hg hT (by decide)) ?_
 rintro v2 H2 ⟨hno,hyes⟩
 by_cases hst:startE x.sp g T 1=0
 case neg=>
  obtain⟨rfl,e2⟩:=hno hst
  refine⟨_,_,rfl,?_⟩
  rw[if_neg hst]
  exact hR _ _ ⟨λ_=>⟨rfl,e2⟩,λh=>absurd h hst⟩
 obtain⟨q,t,rfl,T2,B,hq,f2⟩:=hyes hst
 refine⟨_,_,rfl,?_⟩
 rw[if_pos rfl]
 obtain rfl:=B.tgt
 have hrng:=startE_rng (by decide) hst
 have hblt:=hp.lt
 have hrlt:=hr.lt
 have hspb: ∀j∈spB b,j∈b.all:=λj hj=>spB_all hj
 have z2:=f2.size
 have hrq: ∀j∈blks rB,j ∉ q.all:=λj hj h=>by have:=hrlt j hj;have:=hq j h;omega
 have hw: ∀w∈roots,IsWord w:=λw h=>(hgood w h).1
 have hr2:=hr.keep f2 (λj hj h=>hrb j hj (hspb j h))
 have hpt2:SrcAt H2 pB (ptrs k (rB.getD default) roots.length):=by
  cases pB with
  | none=>exact hpt
  | some a=>
   have hpb1:=hpb a.block (by simp)
   exact f2.rowAt (λh=>hpb1.1 (hspb _ h)) hpt
 have ey:({x with sp:=x.sp.fresh (gensTo g)}:Hp).sp=x.sp.fresh (gensTo g):=rfl
 generalize hyy:({x with sp:=x.sp.fresh (gensTo g)}:Hp)=y at*
 refine⟨λi A=>(0<=i/\i<=pN)/\Tg A b {y with sp:=(y.sp.visL t.old t.tgt (roots.take (i-k).toNat)).1} q t/\Own A 24 1 rB roots.length rC (wvs ((y.sp.visL t.old t.tgt (roots.take (i-k).toNat)).2++roots.drop (i-k).toNat))/\Fr (spB b++blks rB) H2 A,λi _=>(pN-i).toNat,
  ⟨⟨by omega,by omega⟩,?_,?_,Fr.refl _ _⟩,?_⟩
 ·rw[show((0:Int)-(k:Int)).toNat=0 by omega];exact T2
 ·rw[show((0:Int)-(k:Int)).toNat=0 by omega];exact hr2
 rintro i A ⟨hi,TA,hA,fA⟩
 by_cases hlt:i< (pN:Int)
 case pos=>
  rw[if_pos hlt]
  have hd:((pN:Int)-(i+1)).toNat< ((pN:Int)-i).toNat:=by omega
  rw[w64 (n:=i+1) (by omega)]
  have hptA:SrcAt A pB (ptrs k (rB.getD default) roots.length):=by
   cases pB with
   | none=>exact hpt2
   | some a=>
    have hpb1:=hpb a.block (by simp)
    exact fA.rowAt (λh=>by rcases List.mem_append.1 h with h | h;exact hpb1.1 (hspb _ h);exact hpb1.2.1 h) hpt2
  by_cases hik:i<k
  ·obtain⟨a,ha,hat1⟩:=src_atC hptA (ptrs_lo (k:=k) (i:=i.toNat) (by omega))
   refine⟨a,ha,⟨hi.1,hlt⟩,_,hat1,?_⟩
   rw[onPtr_none]
   rw[show(i-(k:Int)).toNat=0 by omega]at TA hA
   exact⟨⟨⟨by omega,by omega⟩,by rw[show(i+1-(k:Int)).toNat=0 by omega];exact TA,by rw[show(i+1-(k:Int)).toNat=0 by omega];exact hA,fA⟩,hd⟩
  ·obtain⟨j,hj⟩: ∃j:Nat,i=k+j:=⟨(i-k).toNat,by omega⟩
   have hjn:j<roots.length:=by omega
   subst hj
   rw[show((k:Int)+(j:Int)-(k:Int)).toNat=j by omega]at TA hA
   obtain⟨a,ha,hat1⟩:=src_atC hptA (ptrs_hi (k:=k) (a:=rB.getD default) hjn)
   refine⟨a,ha,⟨hi.1,hlt⟩,_,by rw[show((k:Int)+(j:Int)).toNat=k+j by omega];exact hat1,?_⟩
   rw[onPtr_some]
   have hvl:=Sp.visL_len t.old t.tgt y.sp (roots.take j)
   rw[List.length_take,Nat.min_eq_left (by omega)]at hvl
   have hgj:(wvs ((y.sp.visL t.old t.tgt (roots.take j)).2++roots.drop j))[j]?=some (.int .u64 roots[j]):=by
    unfold wvs
    rw[List.getElem?_map,List.getElem?_append_right (by omega),hvl,Nat.sub_self,List.getElem?_drop,Nat.add_zero,List.getElem?_eq_getElem hjn];rfl
   obtain⟨ra,hra,hatr⟩:=hA.at hgj
   subst hra
   refine⟨_,by rw[Option.getD_some,Nat.mul_one];exact hatr,?_⟩
   have hmem:=List.getElem_mem hjn
   refine HC.mono (tg_Visit_c TA (hw _ hmem)) ?_
   rintro _ A2 ⟨rfl,TA2,fA2⟩
   have hA2:=hA.keep fA2 (λj hj h=>hrb j hj (hspb j h))
   obtain⟨hcp,hs⟩:=hA2.put hjn (.int .u64 ((y.sp.visL t.old t.tgt (roots.take j)).1.visit t.old t.tgt roots[j]).2)
   refine⟨_,rfl,by rw[Option.getD_some,Nat.mul_one];exact hcp,λA3 hA3=>?_⟩
   rw[Option.getD_some,Nat.mul_one]at hA3
   obtain⟨ho3,f3⟩:=hs A3 hA3
   have htk:roots.take (j+1)=roots.take j++[roots[j]]:=List.take_succ_eq_append_getElem hjn
   have hvs:y.sp.visL t.old t.tgt (roots.take (j+1))=(((y.sp.visL t.old t.tgt (roots.take j)).1.visit t.old t.tgt roots[j]).1,(y.sp.visL t.old t.tgt (roots.take j)).2++[((y.sp.visL t.old t.tgt (roots.take j)).1.visit t.old t.tgt roots[j]).2]):=by rw[htk,Sp.visL_snoc]
   have hset:(wvs ((y.sp.visL t.old t.tgt (roots.take j)).2++roots.drop j)).set j (.int .u64 ((y.sp.visL t.old t.tgt (roots.take j)).1.visit t.old t.tgt roots[j]).2)=wvs ((y.sp.visL t.old t.tgt (roots.take (j+1))).2++roots.drop (j+1)):=by
    rw[hvs]
    unfold wvs
    rw[List.map_append,List.set_append,if_neg (by simp[hvl]),List.length_map,hvl,Nat.sub_self,List.drop_eq_getElem_cons hjn,List.map_cons,List.set_cons_zero,List.map_append,List.map_append,List.append_assoc]
    rfl
   rw[hset]at ho3
   refine⟨⟨⟨by omega,by omega⟩,?_,?_,?_⟩,hd⟩
   ·rw[show((k:Int)+(j:Int)+1-(k:Int)).toNat=j+1 by omega,hvs]
    exact TA2.stay f3 (λi hi h=>hrb i (by simpa using hi) h) (λi hi h=>hrq i (by simpa using hi) h)
   ·rw[show((k:Int)+(j:Int)+1-(k:Int)).toNat=j+1 by omega];exact ho3
   ·exact(fA.trans (fA2.mono (λi hi _=>List.mem_append_left _ hi))).trans (f3.mono (λi hi _=>List.mem_append_right _ (by simpa using hi)))
 rw[if_neg hlt]
 have hend:(i-(k:Int)).toNat=roots.length:=by omega
 rw[hend,List.take_length]at TA
 rw[hend,List.take_length,List.drop_length,List.append_nil]at hA
 refine HC.mono (tr_Cards_c TA (B.cardsOK ok.mem)) ?_
 rintro _ H6 ⟨T6,f6⟩
 refine HC.mono (tr_Drain_c T6 (B.seenOK ok.mem) (by omega)) ?_
 rintro _ H7 ⟨s3,ks3,hdr,hdd,T7,hso3,f7⟩
 have hyen:y.en=.slice none 0 0:=by rw[<-hyy];exact hen
 have hysy:y.sy=.slice none 0 0:=by rw[<-hyy];exact hsy
 have hepy:y.ep=x.ep:=by rw[<-hyy]
 refine⟨none,0,0,by rw[box_get T7.hp.h 2,<-hyen];rfl,?_⟩
 refine HC.mono (weak_Guards_0 T7.toTc T7.on) ?_
 rintro _ H8 ⟨rfl,e8⟩
 have T8:=T7.grow e8
 obtain⟨hcp9,hs9⟩:=hputs_same (o:=2) (v:=.slice none 0 0) T8.hp.h (by rw[<-hyen];rfl)
 refine⟨_,_,_,rfl,hcp9,λH9 hH9=>?_⟩
 obtain rfl:=hs9 H9 hH9
 refine HC.mono (weak_Breaks_c T8 (B.frmOK ok.mem) (B.cardsOK ok.mem)) ?_
 rintro _ H10 ⟨l,hl10,T10,f10⟩
 refine⟨none,0,0,by rw[box_get T10.hp.h 1,<-hysy];rfl,?_⟩
 refine HC.mono (weak_Prune_0 T10.toTc T10.on) ?_
 rintro _ H11 ⟨rfl,rfl⟩
 obtain⟨hcp12,hs12⟩:=hputs_same (o:=1) (v:=.slice none 0 0) T10.hp.h (by rw[<-hysy];rfl)
 refine⟨_,_,_,rfl,hcp12,λH12 hH12=>?_⟩
 obtain rfl:=hs12 H12 hH12
 refine HD.mono (tr_End_d T10) ?_
 rintro H13 ⟨hp13,htr13,f13⟩
 have hys:y.sp=x.sp.fresh (gensTo g):=by rw[<-hyy]
 have hdr':Drains t.old t.tgt (((x.sp.fresh (gensTo g)).visL t.old t.tgt roots).1.lookCards t.old t.tgt t.cards) t.seen s3 ks3:=by rw[<-hys];exact hdr
 obtain⟨fw,al,sz',C⟩:=collect_law I (by decide) hst B hgood hdr' hdd (l:=l) hl10
 have sX: ∀j∈spB b,j∈b.all++q.all:=λj hj=>List.mem_append_left _ (hspb j hj)
 have G:Fr (b.all++q.all) A H13:=by
  have a1:Fr (b.all++q.all) A H6:=f6.mono (λj hj _=>sX j hj)
  have a2:Fr (b.all++q.all) H6 H7:=f7.mono (λj hj _=>by
   rcases List.mem_cons.1 hj with h | h
   ·rw[h];simp[TB.all]
   ·exact sX j h)
  have a3:Fr (b.all++q.all) H7 H12:=e8.fr.trans (f10.mono (λj hj _=>sX j hj))
  have a4:Fr (b.all++q.all) H12 H13:=f13.mono (λj hj _=>by
   rcases List.mem_cons.1 hj with h | h
   ·rw[h];simp[Blk.all]
   ·rcases List.mem_cons.1 h with h | h
    ·rw[h];simp[TB.all]
    ·exact sX j h)
  exact((a1.trans a2).trans a3).trans a4
 have hown13:=hA.keep G (λj hj h=>by
  rcases List.mem_append.1 h with h | h
  ·exact hrb j hj h
  ·exact hrq j hj h)
 have FA:Fr (b.all++blks rB) H1 A:=(f2.mono (λj hj _=>List.mem_append_left _ (hspb j hj))).trans (fA.mono (λj hj _=>by
  rcases List.mem_append.1 hj with h | h
  ·exact List.mem_append_left _ (hspb j h)
  ·exact List.mem_append_right _ h))
 refine hR _ _ ⟨λh=>absurd hst h,λ_=>⟨rfl,_,fw,al,sz',t,s3,_,_,C,?_,?_,?_,by omega⟩⟩
 ·have:=hp13
  rw[<-hyy]at this
  exact this
 ·rw[<-hys];exact hown13
 ·exact FA.trans' G (λj hj _=>hj) (λj hj hl=>by
   rcases List.mem_append.1 hj with h | h
   ·exact List.mem_append_left _ h
   ·have:=hq j h;omega)
