/-
 A way through a heap (package morainelaw11): the things that are come to, and their numbers; a knot is laid. Proves nothing of any one statement.
-/
import Derived.Test.YtdoghjgbhefphaaGreatTrC
import Derived.Test.YtdoghjgbhefphaaGreatGcB
import Derived.Test.YtdoghjgbhefphaaGreatWords
import Derived.Test.YtdoghjgbhefphaaGreatLx
set_option linter.unusedVariables false
set_option linter.unusedSimpArgs false
namespace Go.Proofs.YtdoghjgbhefphaaGreat
open Go

def ofW(m:Mem)(all:List Int)(w:Int):List Int:=if m.sizeOf w=0\/w∈all then all else all++[w]
def numW(m:Mem)(all:List Int)(w:Int):Int:=if m.sizeOf w=0 then 0 else((ofW m all w).idxOf w:Nat)+1
structure Kn where
 kind:Int
 ws:List Int
 is:List Int
 deriving DecidableEq
def Kn.add(k:Kn)(n w:Int):Kn:=⟨k.kind,k.ws++[if n>0 then 0 else w],k.is++[n]⟩
def putP(m:Mem)(st:List Int×Kn)(v:Int):List Int×Kn:=(ofW m st.1 v,st.2.add (numW m st.1 v) v)
structure Alls (m:Mem) (all:List Int):Prop where
 nodup:all.Nodup
 good: ∀w∈all,IsWord w/\m.sizeOf w≠0
theorem size_addr{m:Mem}{w:Int}(h:m.sizeOf w≠0):isAddr w:=by
 unfold Mem.sizeOf at h
 by_cases hp:m.isPair w
 ·rcases hp.1 with q | q<;>exact q.1
 ·rw[if_neg hp]at h
  by_cases ho:m.isObj w
  ·exact ho.1.1
  ·rw[if_neg ho]at h;exact absurd rfl h
theorem Alls.len{m:Mem}{all:List Int}(h:Alls m all):all.length<=524288:=by
 have h1:=sum_cover (λ_=>1) 524288 all h.nodup (λa ha=>by
  obtain⟨q1,q2⟩:=h.good a ha
  have:=(size_addr q2).2
  exact⟨q1.1,by show a+1<=524288;omega⟩) (λa _ b _ hab=>by show a+1<=b;omega)
 have h2:(all.map λ_=>1).sum=all.length:=by
  induction all with
  | nil=>rfl
  | cons a l _=>simp[List.map_const'];omega
 rw[h2]at h1
 rw[h1]
 exact Nat.le_trans List.countP_le_length (by rw[List.length_range];exact Nat.le_refl _)
theorem Alls.of{m:Mem}{all:List Int}(h:Alls m all){w:Int}(hw:IsWord w):Alls m (ofW m all w):=by
 unfold ofW
 by_cases q:m.sizeOf w=0\/w∈all
 ·rw[if_pos q];exact h
 ·rw[if_neg q]
  refine⟨?_,λv hv=>?_⟩
  ·rw[List.nodup_append]
   exact⟨h.nodup,by simp,λa ha b hb=>by simp at hb;intro e;exact q (.inr (by rw[<-hb,<-e];exact ha))⟩
  ·rcases List.mem_append.1 hv with r | r
   ·exact h.good v r
   ·simp at r;rw[r];exact⟨hw,λe=>q (.inl e)⟩
theorem Alls.nil(m:Mem):Alls m []:=⟨List.nodup_nil,λw h=>by cases h⟩

structure WkAt (m:Mem) (H:Array Obj) (hv:Option Addr) (bw bm:Nat) (B:Option Addr) (c:Nat) (all:List Int):Prop where
 cell:H[bw]?=some (.cells #[.pointer hv,.slice B all.length c,.map (some bm)] 180 (0,0))
 map: ∃(es:Array MapEntry) (cl:Nat) (ks:List (Int×Value)),H[bm]?=some (.map es cl)/\Ents (intKey .u64) es.toList ks/\ ∀w,mget ks w=if w∈all then some (.int .i64 ((all.idxOf w:Nat)+1))else none
 own:Own H 36 1 B all.length c (wvs all)
 ne:bw≠bm/\ ∀j∈blks B,j≠bw/\j≠bm
 alls:Alls m all
def wkB(bw bm:Nat)(B:Option Addr):List Nat:=bw::bm::blks B
theorem WkAt.keep{m:Mem}{S:List Nat}{H H':Array Obj}{hv:Option Addr}{bw bm c:Nat}{B:Option Addr}{all:List Int}(h:WkAt m H hv bw bm B c all)(f:Fr S H H')(hS: ∀i,i∈S->i ∉ wkB bw bm B):WkAt m H' hv bw bm B c all:=by
 obtain⟨es,cl,ks,h1,h2⟩:=h.map
 exact⟨f.get (λhi=>hS _ hi (by simp[wkB])) h.cell,⟨es,cl,ks,f.get (λhi=>hS _ hi (by simp[wkB])) h1,h2⟩,h.own.keep f (λj hj hs=>hS j hs (by simp[wkB,hj])),h.ne,h.alls⟩
theorem WkAt.ext{m:Mem}{H H':Array Obj}{hv:Option Addr}{bw bm c:Nat}{B:Option Addr}{all:List Int}(h:WkAt m H hv bw bm B c all)(e:Ext H H'):WkAt m H' hv bw bm B c all:=h.keep (S:=[]) e.fr (by simp)
theorem WkAt.lt{m:Mem}{H:Array Obj}{hv:Option Addr}{bw bm c:Nat}{B:Option Addr}{all:List Int}(h:WkAt m H hv bw bm B c all): ∀i∈wkB bw bm B,i<H.size:=by
 intro i hi
 obtain⟨es,cl,ks,h1,h2⟩:=h.map
 have l1:=lt_size h.cell
 have l2:=lt_size h1
 simp only[wkB,List.mem_cons]at hi
 rcases hi with rfl | rfl | hi
 ·exact l1
 ·exact l2
 ·exact h.own.lt i hi
set_option maxRecDepth 100000 in
theorem walk_of_c{H:Array Obj}{hv:Option Addr}{o:Option (Blk×Hp)}{bw bm c:Nat}{B:Option Addr}{all:List Int}{w:Int}(V:View H hv o)(K:WkAt (mof o) H hv bw bm B c all)(hw:IsWord w):
  morainelaw11_walk_of.C (some ⟨bw,0,none⟩) w H (λv H'=>v=.int .i64 (numW (mof o) all w)/\ ∃(B':Option Addr) (c':Nat),WkAt (mof o) H' hv bw bm B' c' (ofW (mof o) all w)/\Fr (wkB bw bm B) H H'/\(∀j∈blks B',j∈blks B\/H.size<=j)):=by
 refine HC.via λR hR=>morainelaw11_walk_of.link ?_
 unfold morainelaw11_walk_of.pt
 refine⟨_,rfl,_,by rw[hat_blk K.cell];rfl,?_⟩
 refine HC.mono (obj_Size_c V hw) ?_
 rintro _ H1 ⟨rfl,e1⟩
 refine⟨_,rfl,?_⟩
 have K1:=K.ext e1
 have same: ∀H',Ext H H'->ofW (mof o) all w=all->R (.int .i64 (numW (mof o) all w)) H':=λH' e h=>hR _ _ ⟨rfl,B,c,by rw[h];exact K.ext e,e.fr,λj hj=> .inl hj⟩
 by_cases h0:(mof o).sizeOf w=0
 ·rw[if_pos h0]
  have:=same H1 e1 (by unfold ofW;rw[if_pos (.inl h0)])
  rw[show numW (mof o) all w=0 by unfold numW;rw[if_pos h0]]at this
  exact this
 rw[if_neg h0]
 obtain⟨es,cl,ks,hm,he,hk⟩:=K1.map
 have hlen:=K.alls.len
 by_cases hin:w∈all
 ·have hg:(mget ks w).getD (.int .i64 0)=.int .i64 ((all.idxOf w:Nat)+1):=by rw[hk w,if_pos hin];rfl
  refine⟨some bm,by rw[box_get K1.cell];rfl,bm,rfl,es,cl,ks,hm,he,_,hg,?_⟩
  rw[if_neg (by omega)]
  refine⟨some bm,by rw[box_get K1.cell];rfl,bm,rfl,es,cl,ks,hm,he,_,hg,?_⟩
  have ho:ofW (mof o) all w=all:=by unfold ofW;rw[if_pos (.inr hin)]
  have:=same H1 e1 ho
  rw[show numW (mof o) all w=((all.idxOf w:Nat)+1)by unfold numW;rw[if_neg h0,ho]]at this
  exact this
 ·have hg:(mget ks w).getD (.int .i64 0)=.int .i64 0:=by rw[hk w,if_neg hin];rfl
  refine⟨some bm,by rw[box_get K1.cell];rfl,bm,rfl,es,cl,ks,hm,he,_,hg,?_⟩
  rw[if_pos rfl]
  refine⟨_,_,_,by rw[box_get K1.cell];rfl,?_⟩
  intro c2 H2 hc2 hH2
  have e2:Ext H1 H2:=Ext.push' hH2
  refine own_append (ys:=wvs [w]) (K1.own.ext e2) (rowAt_blk (push_get hc2 hH2) _ 0 0 (λj hj=>by
   simp only[wvs,List.map_cons,List.map_nil,List.length_cons,List.length_nil]at hj
   obtain rfl:j=0:=by omega
   rfl)) rfl (allOne_wvs _) rfl (by omega) ?_
  intro p' c' H3 how3 f3 hn3
  have hbB:bw ∉ blks B:=λh=>(K.ne.2 bw h).1 rfl
  have hmB:bm ∉ blks B:=λh=>(K.ne.2 bm h).2 rfl
  have g3:=f3.get hbB (e2.get K1.cell)
  obtain⟨hcp,hs⟩:=box_put g3 1 (.slice p' (all.length+1) c') (by simp)
  refine⟨hcp,λH4 hH4=>?_⟩
  obtain⟨g4,f4⟩:=hs H4 hH4
  have m4:H4[bm]?=some (.map es cl):=f4.get (by simp;exact λe=>K.ne.1 e.symm) (f3.get hmB (e2.get hm))
  refine⟨some bm,by rw[box_get g4];rfl,p',all.length+1,c',by rw[box_get g4];rfl,bm,rfl,es,cl,ks,m4,he,?_⟩
  intro es5 cl5 H5 hH5 he5
  have f5:Fr [bm] H4 H5:=by rw[hH5];exact Fr.set
  have m5:H5[bm]?=some (.map es5 cl5):=by rw[hH5];exact setBlk_get (lt_size m4)
  have g5:=f5.get (by simp;exact K.ne.1) g4
  have hof:ofW (mof o) all w=all++[w]:=by unfold ofW;rw[if_neg (λq=>q.elim h0 hin)]
  have hidx:(all++[w]).idxOf w=all.length:=by rw[List.idxOf_append,if_neg hin];simp
  have hnum:numW (mof o) all w=((all.length+1:Nat):Int):=by unfold numW;rw[if_neg h0,hof,hidx];omega
  refine⟨some bm,by rw[box_get g5];rfl,bm,rfl,es5,cl5,_,m5,he5,((all.length+1:Nat):Int),by rw[mget_mput',if_pos rfl];rfl,?_⟩
  rw[<-hnum]
  have z1:=e1.size
  have z2:=e2.size
  have hK:=K.lt
  have hpn: ∀j∈blks p',j∈blks B\/H.size<=j:=λj hj=>by
   rcases hn3 j hj with q | q
   ·exact .inl q
   ·exact .inr (by omega)
  have hpw: ∀j∈blks p',j≠bw/\j≠bm:=λj hj=>by
   rcases hpn j hj with q | q
   ·exact K.ne.2 j q
   ·have h1:=hK bw (by simp[wkB])
    have h2:=hK bm (by simp[wkB])
    exact⟨by omega,by omega⟩
  refine hR _ _ ⟨rfl,p',c',?_,?_,hpn⟩
  ·rw[hof]
   refine⟨?_,⟨es5,cl5,_,m5,he5,λv=>?_⟩,?_,⟨K.ne.1,hpw⟩,hof▸K.alls.of hw⟩
   ·rw[List.length_append];exact g5
   ·rw[mget_mput',hk v]
    by_cases hv:v=w
    ·rw[if_pos hv,hv,if_pos (by simp),hidx];rfl
    ·rw[if_neg hv]
     by_cases hva:v∈all
     ·rw[if_pos hva,if_pos (List.mem_append_left _ hva),List.idxOf_append,if_pos hva]
     ·rw[if_neg hva,if_neg (by simp;exact⟨hva,hv⟩)]
   ·rw[List.length_append]
    have h4:=(how3.keep f4 (λj hj hm=>by simp at hm;exact(hpw j hj).1 hm)).keep f5 (λj hj hm=>by simp at hm;exact(hpw j hj).2 hm)
    simpa[wvs]using h4
  ·have q1:Fr (wkB bw bm B) H H3:=(e1.trans e2).fr.trans (f3.mono (λj hj _=>by simp[wkB,hj]))
   exact(q1.trans (f4.mono (λj hj _=>by simp at hj;simp[wkB,hj]))).trans (f5.mono (λj hj _=>by simp at hj;simp[wkB,hj]))

structure PutSt (m:Mem) (H:Array Obj) (hv:Option Addr) (bw bm:Nat) (all:List Int) (k:Kn) (B:Option Addr) (c:Nat) (wB:Option Addr) (wC:Nat) (iB:Option Addr) (iC:Nat):Prop where
 wk:WkAt m H hv bw bm B c all
 ow:Own H 36 1 wB k.ws.length wC (wvs k.ws)
 oi:Own H 3 1 iB k.is.length iC (ivs k.is)
 djw: ∀j∈blks wB,j ∉ wkB bw bm B/\j ∉ blks iB
 dji: ∀j∈blks iB,j ∉ wkB bw bm B
def putB(bw bm:Nat)(B wB iB:Option Addr):List Nat:=wkB bw bm B++(blks wB++blks iB)
theorem mem_putB{bw bm j:Nat}{B wB iB:Option Addr}:j∈putB bw bm B wB iB ↔ j∈wkB bw bm B\/j∈blks wB\/j∈blks iB:=by simp[putB]
theorem PutSt.keep{m:Mem}{S:List Nat}{H H':Array Obj}{hv:Option Addr}{bw bm c wC iC:Nat}{B wB iB:Option Addr}{all:List Int}{k:Kn}(h:PutSt m H hv bw bm all k B c wB wC iB iC)(f:Fr S H H')(hS: ∀i,i∈S->i ∉ putB bw bm B wB iB):PutSt m H' hv bw bm all k B c wB wC iB iC:=
 ⟨h.wk.keep f (λi hi q=>hS i hi (mem_putB.2 (.inl q))),h.ow.keep f (λj hj hs=>hS j hs (mem_putB.2 (.inr (.inl hj)))),h.oi.keep f (λj hj hs=>hS j hs (mem_putB.2 (.inr (.inr hj)))),h.djw,h.dji⟩
theorem PutSt.ext{m:Mem}{H H':Array Obj}{hv:Option Addr}{bw bm c wC iC:Nat}{B wB iB:Option Addr}{all:List Int}{k:Kn}(h:PutSt m H hv bw bm all k B c wB wC iB iC)(e:Ext H H'):PutSt m H' hv bw bm all k B c wB wC iB iC:=h.keep (S:=[]) e.fr (by simp)
theorem PutSt.lt{m:Mem}{H:Array Obj}{hv:Option Addr}{bw bm c wC iC:Nat}{B wB iB:Option Addr}{all:List Int}{k:Kn}(h:PutSt m H hv bw bm all k B c wB wC iB iC): ∀j∈putB bw bm B wB iB,j<H.size:=λj hj=>by
 rcases mem_putB.1 hj with q | q | q
 ·exact h.wk.lt j q
 ·exact h.ow.lt j q
 ·exact h.oi.lt j q
set_option maxRecDepth 100000 in
theorem walk_put_c{H:Array Obj}{hv:Option Addr}{o:Option (Blk×Hp)}{bw bm c wC iC:Nat}{B wB iB:Option Addr}{all:List Int}{k:Kn}{w:Int}(V:View H hv o)(P:PutSt (mof o) H hv bw bm all k B c wB wC iB iC)(hw:IsWord w)(hl:k.ws.length<=1000000)(hli:k.is.length<=1000000):
  morainelaw11_walk_put.C (some ⟨bw,0,none⟩) k.kind wB k.ws.length wC iB k.is.length iC w H (λv H'=> ∃(B':Option Addr) (c':Nat) (wB':Option Addr) (wC':Nat) (iB':Option Addr) (iC':Nat),v=.agg #[.int .i64 k.kind,.slice wB' (k.ws.length+1) wC',.slice iB' (k.is.length+1) iC']/\
   PutSt (mof o) H' hv bw bm (ofW (mof o) all w) (k.add (numW (mof o) all w) w) B' c' wB' wC' iB' iC'/\Fr (putB bw bm B wB iB) H H'/\(∀j∈putB bw bm B' wB' iB',j∈putB bw bm B wB iB\/H.size<=j)):=by
 refine HC.via λR hR=>morainelaw11_walk_put.link ?_
 unfold morainelaw11_walk_put.pt
 intro c1 H1 hc1 hH1 c2 H2 hc2 hH2
 have e1:Ext H H1:=Ext.push' hH1
 have e2:Ext H1 H2:=Ext.push' hH2
 have e12:=e1.trans e2
 have z1:H1.size=H.size+1:=by rw[hH1];simp
 have z2:H2.size=H1.size+1:=by rw[hH2];simp
 have g1:H2[c1]?=_:=e2.get (push_get hc1 hH1)
 have g2:=push_get hc2 hH2
 have hPlt:=P.lt
 refine HC.mono (walk_of_c (V.ext e12) (P.wk.ext e12) hw) ?_
 rintro _ H3 ⟨rfl,B',c',K3,f3,hB'⟩
 refine⟨_,rfl,?_⟩
 have wklt:=P.wk.lt
 have hB'lt: ∀j∈wkB bw bm B',j∈wkB bw bm B\/H2.size<=j:=λj hj=>by
  simp only[wkB,List.mem_cons]at hj⊢
  rcases hj with q | q | q
  ·exact .inl (.inl q)
  ·exact .inl (.inr (.inl q))
  ·rcases hB' j q with r | r
   ·exact .inl (.inr (.inr r))
   ·exact .inr r
 have c1n:c1 ∉ wkB bw bm B:=λq=>by have:=wklt c1 q;omega
 have c2n:c2 ∉ wkB bw bm B:=λq=>by have:=wklt c2 q;omega
 have g13:=f3.get c1n g1
 have g23:=f3.get c2n g2
 have ow3:=(P.ow.ext e12).keep f3 (λj hj q=>(P.djw j hj).1 q)
 have oi3:=(P.oi.ext e12).keep f3 (λj hj q=>P.dji j hj q)
 have hwlt:=P.ow.lt
 have hilt:=P.oi.lt
 have z3:=f3.size
 refine⟨λv A=>v=(if numW (mof o) all w>0 then 0 else w)/\A=H3,?_,?_⟩
 ·by_cases h0:numW (mof o) all w>0
  ·rw[if_pos h0];exact⟨by rw[if_pos h0],rfl⟩
  ·rw[if_neg h0];exact⟨by rw[if_neg h0],rfl⟩
 rintro v H4 ⟨rfl,rfl⟩
 refine⟨_,_,_,by rw[box_get g13];rfl,?_⟩
 intro c5 H5 hc5 hH5
 have e5:Ext H4 H5:=Ext.push' hH5
 have z5:=e5.size
 refine own_append (ys:=wvs [if numW (mof o) all w>0 then 0 else w]) (ow3.ext e5) (rowAt_blk (push_get hc5 hH5) _ 0 0 (λj hj=>by
  simp only[wvs,List.map_cons,List.map_nil,List.length_cons,List.length_nil]at hj
  obtain rfl:j=0:=by omega
  rfl)) rfl (allOne_wvs _) rfl (by omega) ?_
 intro wB' wC' H6 ow6 f6 hn6
 have c1w:c1 ∉ blks wB:=λq=>by have:=hwlt c1 q;omega
 have c2w:c2 ∉ blks wB:=λq=>by have:=hwlt c2 q;omega
 have g16:=f6.get c1w (e5.get g13)
 have g26:=f6.get c2w (e5.get g23)
 obtain⟨hcp7,hs7⟩:=box_put g16 1 (.slice wB' (k.ws.length+1) wC') (by simp)
 refine⟨hcp7,λH7 hH7=>?_⟩
 obtain⟨g17,f7⟩:=hs7 H7 hH7
 have c12:c1≠c2:=by omega
 have g27:=f7.get (by simp;exact λe=>c12 e.symm) g26
 have hwB': ∀j∈blks wB',j∈blks wB\/H4.size<=j:=λj hj=>by
  rcases hn6 j hj with q | q
  ·exact .inl q
  ·exact .inr (by omega)
 have z6:=f6.size
 have z7:=f7.size
 have iw: ∀j∈blks iB,j ∉ blks wB:=λj hj q=>(P.djw j q).2 hj
 have oi7:=((oi3.ext e5).keep f6 (λj hj q=>iw j hj q)).keep f7 (λj hj q=>by simp at q;have:=hilt j hj;omega)
 refine⟨_,_,_,by rw[box_get g17];rfl,?_⟩
 intro c8 H8 hc8 hH8
 have e8:Ext H7 H8:=Ext.push' hH8
 have z8:=e8.size
 refine own_append (ys:=ivs [numW (mof o) all w]) (oi7.ext e8) (rowAt_blk (push_get hc8 hH8) _ 0 0 (λj hj=>by
  simp only[ivs,List.map_cons,List.map_nil,List.length_cons,List.length_nil]at hj
  obtain rfl:j=0:=by omega
  rfl)) rfl (allOne_ivs _) rfl (by omega) ?_
 intro iB' iC' H9 oi9 f9 hn9
 have c1i:c1 ∉ blks iB:=λq=>by have:=hilt c1 q;omega
 have c2i:c2 ∉ blks iB:=λq=>by have:=hilt c2 q;omega
 have g19:=f9.get c1i (e8.get g17)
 have g29:=f9.get c2i (e8.get g27)
 obtain⟨hcp10,hs10⟩:=box_put g19 2 (.slice iB' (k.is.length+1) iC') (by simp)
 refine⟨hcp10,λH10 hH10=>?_⟩
 obtain⟨g110,f10⟩:=hs10 H10 hH10
 have g210:=f10.get (by simp;exact λe=>c12 e.symm) g29
 have z9:=f9.size
 have z10:=f10.size
 have hiB': ∀j∈blks iB',j∈blks iB\/H7.size<=j:=λj hj=>by
  rcases hn9 j hj with q | q
  ·exact .inl q
  ·exact .inr (by omega)
 refine⟨k.kind,wB',k.ws.length+1,wC',iB',k.is.length+1,iC',?_,?_⟩
 ·refine⟨?_,?_,?_,trivial⟩<;>rw[addr_add_mk,hat_blk g110]<;>rfl
 obtain⟨hcp11,hs11⟩:=box_set (vs:=[.int .i64 k.kind,.slice wB' (k.ws.length+1) wC',.slice iB' (k.is.length+1) iC']) g210 rfl rfl
 refine⟨hcp11,λH11 hH11=>?_⟩
 obtain⟨g211,f11⟩:=hs11 H11 hH11
 refine⟨k.kind,wB',k.ws.length+1,wC',iB',k.is.length+1,iC',box_row g211,?_⟩
 have wB'lt: ∀j∈blks wB',j<H6.size:=ow6.lt
 have inW: ∀j∈wkB bw bm B',j≠c1/\j≠c2/\j ∉ blks wB/\j ∉ blks iB/\j<H4.size:=λj hj=>by
  have hlt:=K3.lt j hj
  rcases hB'lt j hj with q | q
  ·have:=wklt j q
   exact⟨by omega,by omega,λr=>(P.djw j r).1 q,λr=>P.dji j r q,hlt⟩
  ·exact⟨by omega,by omega,λr=>by have:=hwlt j r;omega,λr=>by have:=hilt j r;omega,hlt⟩
 have K11:WkAt (mof o) H11 hv bw bm B' c' (ofW (mof o) all w):=by
  refine(((((K3.ext e5).keep f6 (λj hj q=>(inW j q).2.2.1 hj)).keep f7 (λj hj q=>by simp at hj;exact(inW j q).1 hj)).ext e8).keep f9 (λj hj q=>(inW j q).2.2.2.1 hj)).keep f10 (λj hj q=>by simp at hj;exact(inW j q).1 hj) |>.keep f11 (λj hj q=>by simp at hj;exact(inW j q).2.1 hj)
 have wn: ∀j∈blks wB',j≠c1/\j≠c2/\j ∉ blks iB:=λj hj=>by
  rcases hwB' j hj with q | q
  ·have:=hwlt j q
   exact⟨by omega,by omega,(P.djw j q).2⟩
  ·exact⟨by omega,by omega,λr=>by have:=hilt j r;omega⟩
 have inn: ∀j∈blks iB',j≠c1/\j≠c2:=λj hj=>by
  rcases hiB' j hj with q | q
  ·have:=hilt j q;exact⟨by omega,by omega⟩
  ·exact⟨by omega,by omega⟩
 have ow11:Own H11 36 1 wB' (k.ws.length+1) wC' (wvs k.ws++wvs [if numW (mof o) all w>0 then 0 else w]):=
  (((((ow6.keep f7 (λj hj q=>by simp at q;exact(wn j hj).1 q)).ext e8).keep f9 (λj hj q=>(wn j hj).2.2 q)).keep f10 (λj hj q=>by simp at q;exact(wn j hj).1 q)).keep f11 (λj hj q=>by simp at q;exact(wn j hj).2.1 q))
 have oi11:Own H11 3 1 iB' (k.is.length+1) iC' (ivs k.is++ivs [numW (mof o) all w]):=
  (oi9.keep f10 (λj hj q=>by simp at q;exact(inn j hj).1 q)).keep f11 (λj hj q=>by simp at q;exact(inn j hj).2 q)
 have hfin:Fr (putB bw bm B wB iB) H H11:=by
  have m1:Fr (putB bw bm B wB iB) H H4:=e12.fr.trans (f3.mono (λj hj _=>mem_putB.2 (.inl hj)))
  have m2:Fr (putB bw bm B wB iB) H H6:=(m1.trans e5.fr).trans (f6.mono (λj hj _=>mem_putB.2 (.inr (.inl hj))))
  have m3:Fr (putB bw bm B wB iB) H H7:=m2.trans' f7 (λj hj _=>hj) (λj hj hl=>by simp at hj;omega)
  have m4:Fr (putB bw bm B wB iB) H H9:=(m3.trans e8.fr).trans (f9.mono (λj hj _=>mem_putB.2 (.inr (.inr hj))))
  have m5:Fr (putB bw bm B wB iB) H H10:=m4.trans' f10 (λj hj _=>hj) (λj hj hl=>by simp at hj;omega)
  exact m5.trans' f11 (λj hj _=>hj) (λj hj hl=>by simp at hj;omega)
 refine hR _ _ ⟨B',c',wB',wC',iB',iC',rfl,⟨K11,?_,?_,λj hj=>⟨λq=>?_,λq=>?_⟩,λj hj q=>?_⟩,hfin,λj hj=>?_⟩
 ·show Own H11 _ 1 wB' (k.ws++[_]).length wC' (wvs (k.ws++[_]))
  rw[List.length_append]
  simpa[wvs]using ow11
 ·show Own H11 _ 1 iB' (k.is++[_]).length iC' (ivs (k.is++[_]))
  rw[List.length_append]
  simpa[ivs]using oi11
 ·obtain⟨_,_,r3,_,r5⟩:=inW j q
  rcases hwB' j hj with r | r
  ·exact r3 r
  ·omega
 ·rcases hiB' j q with r | r
  ·exact(wn j hj).2.2 r
  ·have:=wB'lt j hj;omega
 ·obtain⟨_,_,_,r4,r5⟩:=inW j q
  rcases hiB' j hj with r | r
  ·exact r4 r
  ·omega
 ·rcases mem_putB.1 hj with q | q | q
  ·rcases hB'lt j q with r | r
   ·exact .inl (mem_putB.2 (.inl r))
   ·exact .inr (by omega)
  ·rcases hwB' j q with r | r
   ·exact .inl (mem_putB.2 (.inr (.inl r)))
   ·exact .inr (by omega)
  ·rcases hiB' j q with r | r
   ·exact .inl (mem_putB.2 (.inr (.inr r)))
   ·exact .inr (by omega)
end Go.Proofs.YtdoghjgbhefphaaGreat
