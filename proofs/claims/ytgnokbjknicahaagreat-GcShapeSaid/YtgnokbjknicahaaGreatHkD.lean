/-
 A way through a heap (package morainelaw13): the things that are come to, and their numbers; a knot is laid. Proves nothing of any one statement.
-/
import Derived.Test.YtgnokbjknicahaaGreatCnt
import Derived.Test.YtgnokbjknicahaaGreatL13strong
set_option linter.unusedVariables false
set_option linter.unusedSimpArgs false
namespace Go.Proofs.YtgnokbjknicahaaGreat
open Go

def ofW(m:Mem)(all:List Int)(w:Int):List Int:=if m.sizeOf w=0\/w∈all then all else all++[w]
def numW(m:Mem)(all:List Int)(w:Int):Int:=if m.sizeOf w=0 then 0 else((ofW m all w).idxOf w:Nat)+1
structure Kn where
 kind:Int
 ws:List Int
 is:List Int
 deriving DecidableEq
def Kn.add(k:Kn)(n w:Int):Kn:=⟨k.kind,k.ws++[if n>0 then 0 else w],k.is++[n]⟩
def putP(m:Mem)(st:List Int×Kn)(v:Int):List Int×Kn:=(ofW m st.1 v,st.2.add (numW m st.1 v) v)
theorem Alls.of{m:Mem}{all:List Int}(h:Alls m all){w:Int}(hw:IsWord w):Alls m (ofW m all w):=by
 unfold ofW
 by_cases q:m.sizeOf w=0\/w∈all
 ·rw[if_pos q];exact h
 ·rw[if_neg q]
  refine⟨?_,λv hv=>?_⟩
  ·rw[List.nodup_append]
   exact⟨h.nodup,by simp,λa ha b hb=>by simp at hb;intro e;exact q (.inr (by rw[<-hb,<-e];exact ha))⟩
  ·rcases List.mem_append.1 hv with r | r
   ·exact h.good v r
   ·simp at r;rw[r];exact⟨hw,λe=>q (.inl e)⟩
theorem Alls.nil(m:Mem):Alls m []:=⟨List.nodup_nil,λw h=>by cases h⟩

structure WkAt (m:Mem) (H:zV) (hv:zW) (bw bm:Nat) (B:zW) (c:Nat) (all:List Int):Prop where
 cell:H[bw]?=some (.cells #[.pointer hv,.slice B all.length c,.map (some bm)] 102 (0,0))
 map: ∃(es:Array MapEntry) (cl:Nat) (ks:List (Int×Value)),H[bm]?=some (.map es cl)/\Ents (intKey .u64) es.toList ks/\ ∀w,mget ks w=if w∈all then some (.int .i64 ((all.idxOf w:Nat)+1))else none
 own:Own H 24 1 B all.length c (wvs all)
 ne:bw≠bm/\ ∀j∈blks B,j≠bw/\j≠bm
 alls:Alls m all
def wkB(bw bm:Nat)(B:zW):List Nat:=bw::bm::blks B
theorem WkAt.keep{m:Mem}{S:List Nat}{H H':zV}{hv:zW}{bw bm c:Nat}{B:zW}{all:List Int}(h:WkAt m H hv bw bm B c all)(f:Fr S H H')(hS: ∀i,i∈S->i ∉ wkB bw bm B):WkAt m H' hv bw bm B c all:=by
 obtain⟨es,cl,ks,h1,h2⟩:=h.map
 exact⟨f.get (λhi=>hS _ hi (by simp[wkB])) h.cell,⟨es,cl,ks,f.get (λhi=>hS _ hi (by simp[wkB])) h1,h2⟩,h.own.keep f (λj hj hs=>hS j hs (by simp[wkB,hj])),h.ne,h.alls⟩
theorem WkAt.ext{m:Mem}{H H':zV}{hv:zW}{bw bm c:Nat}{B:zW}{all:List Int}(h:WkAt m H hv bw bm B c all)(e:Ext H H'):WkAt m H' hv bw bm B c all:=h.keep (S:=[]) e.fr (by simp)
theorem WkAt.lt{m:Mem}{H:zV}{hv:zW}{bw bm c:Nat}{B:zW}{all:List Int}(h:WkAt m H hv bw bm B c all): ∀i∈wkB bw bm B,i<H.size:=by
 intro i hi
 obtain⟨es,cl,ks,h1,h2⟩:=h.map
 have l1:=lt_size h.cell
 have l2:=lt_size h1
 simp only[wkB,List.mem_cons]at hi
 rcases hi with rfl | rfl | hi
 ·exact l1
 ·exact l2
 ·exact h.own.lt i hi
set_option maxRecDepth 100000 in
theorem walk_of_c{H:zV}{hv:zW}{o:Option (Blk×Hp)}{bw bm c:Nat}{B:zW}{all:List Int}{w:Int}(V:View H hv o)(K:WkAt (mof o) H hv bw bm B c all)(hw:IsWord w):
  morainelaw13_walk_of.C (some ⟨bw,0,none⟩) w H (λv H'=>v=.int .i64 (numW (mof o) all w)/\ ∃(B':zW) (c':Nat),WkAt (mof o) H' hv bw bm B' c' (ofW (mof o) all w)/\Fr (wkB bw bm B) H H'/\(∀j∈blks B',j∈blks B\/H.size<=j)):=by
 refine HC.via λR hR=>morainelaw13_walk_of.link ?_
 unfold morainelaw13_walk_of.pt
 have hlen:=K.alls.len
 have hsz:=(sizeOf_rng (mof o) w).1
 refine⟨λs A=>Ext H A/\s=decide ((mof o).sizeOf w≠0/\w ∉ all),?_,?_⟩
 ·refine⟨_,rfl,_,by rw[hat_blk K.cell];rfl,?_⟩
  refine HC.mono (obj_Size_c V hw) ?_
  rintro _ H1 ⟨rfl,e1⟩
  refine⟨_,rfl,?_⟩
  have K1:=K.ext e1
  by_cases h0:(mof o).sizeOf w=0
  ·rw[if_neg (by omega)]
   exact⟨e1,by rw[zQ (λq=>q.1 h0)]⟩
  rw[if_pos (by omega)]
  obtain⟨es,cl,ks,hm,he,hk⟩:=K1.map
  by_cases hin:w∈all
  ·have hg:(mget ks w).getD (.int .i64 0)=.int .i64 ((all.idxOf w:Nat)+1):=by rw[hk w,if_pos hin];rfl
   refine⟨some bm,by rw[box_get K1.cell];rfl,bm,rfl,es,cl,ks,hm,he,_,hg,e1,?_⟩
   rw[zQ (λq=>q.2 hin)]
   simp;omega
  ·have hg:(mget ks w).getD (.int .i64 0)=.int .i64 0:=by rw[hk w,if_neg hin];rfl
   refine⟨some bm,by rw[box_get K1.cell];rfl,bm,rfl,es,cl,ks,hm,he,_,hg,e1,?_⟩
   rw[zX ⟨h0,hin⟩];rfl
 rintro s H1 ⟨e1,rfl⟩
 have K1:=K.ext e1
 obtain⟨es,cl,ks,hm,he,hk⟩:=K1.map
 by_cases hc:(mof o).sizeOf w≠0/\w ∉ all
 case neg=>
  rw[if_neg (by simpa using hc)]
  have hof:ofW (mof o) all w=all:=by
   unfold ofW
   rw[if_pos]
   by_cases h0:(mof o).sizeOf w=0
   ·exact .inl h0
   ·exact .inr (Decidable.not_not.1 λq=>hc ⟨h0,q⟩)
  have hg:(mget ks w).getD (.int .i64 0)=.int .i64 (numW (mof o) all w):=by
   unfold numW
   rw[hof,hk w]
   by_cases h0:(mof o).sizeOf w=0
   ·rw[if_pos h0,if_neg (λq=>(K.alls.good w q).2 h0)];rfl
   ·have hin:w∈all:=Decidable.not_not.1 λq=>hc ⟨h0,q⟩
    rw[if_neg h0,if_pos hin];rfl
  refine⟨_,rfl,some bm,by rw[box_get K1.cell];rfl,bm,rfl,es,cl,ks,hm,he,_,hg,?_⟩
  exact hR _ _ ⟨rfl,B,c,by rw[hof];exact K1,e1.fr,λj hj=> .inl hj⟩
 rw[if_pos (zX hc)]
 obtain⟨h0,hin⟩:=hc
 refine⟨_,rfl,_,_,_,by rw[box_get K1.cell];rfl,?_⟩
 intro c2 H2 hc2 hH2
 have e2:Ext H1 H2:=Ext.push' hH2
 refine own_append (ys:=wvs [w]) (K1.own.ext e2) (rowAt_blk (push_get hc2 hH2) _ 0 0 (λj hj=>by
  simp only[wvs,List.map_cons,List.map_nil,List.length_cons,List.length_nil]at hj
  obtain rfl:j=0:=by omega
  rfl)) rfl (allOne_wvs _) rfl (by omega) ?_
 intro p' c' H3 how3 f3 hn3
 have hbB:bw ∉ blks B:=λh=>(K.ne.2 bw h).1 rfl
 have hmB:bm ∉ blks B:=λh=>(K.ne.2 bm h).2 rfl
 have g3:=f3.get hbB (e2.get K1.cell)
 obtain⟨hcp,hs⟩:=box_put g3 1 (.slice p' (all.length+1) c') (by simp)
 refine⟨hcp,λH4 hH4=>?_⟩
 obtain⟨g4,f4⟩:=hs H4 hH4
 have m4:H4[bm]?=some (.map es cl):=f4.get (by simp;exact λe=>K.ne.1 e.symm) (f3.get hmB (e2.get hm))
 refine⟨some bm,by rw[box_get g4];rfl,p',all.length+1,c',by rw[box_get g4];rfl,bm,rfl,es,cl,ks,m4,he,?_⟩
 intro es5 cl5 H5 hH5 he5
 have f5:Fr [bm] H4 H5:=by rw[hH5];exact Fr.set
 have m5:H5[bm]?=some (.map es5 cl5):=by rw[hH5];exact setBlk_get (lt_size m4)
 have g5:=f5.get (by simp;exact K.ne.1) g4
 have hof:ofW (mof o) all w=all++[w]:=by unfold ofW;rw[if_neg (λq=>q.elim h0 hin)]
 have hidx:(all++[w]).idxOf w=all.length:=by rw[List.idxOf_append,if_neg hin];simp
 have hnum:numW (mof o) all w=((all.length+1:Nat):Int):=by unfold numW;rw[if_neg h0,hof,hidx];omega
 refine⟨some bm,by rw[box_get g5];rfl,bm,rfl,es5,cl5,_,m5,he5,((all.length+1:Nat):Int),by rw[mget_mput',if_pos rfl];rfl,?_⟩
 rw[<-hnum]
 have z1:=e1.size
 have z2:=e2.size
 have hK:=K.lt
 have hpn: ∀j∈blks p',j∈blks B\/H.size<=j:=λj hj=>by
  rcases hn3 j hj with q | q
  ·exact .inl q
  ·exact .inr (by omega)
 have hpw: ∀j∈blks p',j≠bw/\j≠bm:=λj hj=>by
  rcases hpn j hj with q | q
  ·exact K.ne.2 j q
  ·have h1:=hK bw (by simp[wkB])
   have h2:=hK bm (by simp[wkB])
   exact⟨by omega,by omega⟩
 refine hR _ _ ⟨rfl,p',c',?_,?_,hpn⟩
 ·rw[hof]
  refine⟨?_,⟨es5,cl5,_,m5,he5,λv=>?_⟩,?_,⟨K.ne.1,hpw⟩,hof▸K.alls.of hw⟩
  ·rw[List.length_append];exact g5
  ·rw[mget_mput',hk v]
   by_cases hv:v=w
   ·rw[if_pos hv,hv,if_pos (by simp),hidx];rfl
   ·rw[if_neg hv]
    by_cases hva:v∈all
    ·rw[if_pos hva,if_pos (List.mem_append_left _ hva),List.idxOf_append,if_pos hva]
    ·rw[if_neg hva,if_neg (by simp;exact⟨hva,hv⟩)]
  ·rw[List.length_append]
   have h4:=(how3.keep f4 (λj hj hm=>by simp at hm;exact(hpw j hj).1 hm)).keep f5 (λj hj hm=>by simp at hm;exact(hpw j hj).2 hm)
   simpa[wvs]using h4
 ·have q1:Fr (wkB bw bm B) H H3:=(e1.trans e2).fr.trans (f3.mono (λj hj _=>by simp[wkB,hj]))
  exact(q1.trans (f4.mono (λj hj _=>by simp at hj;simp[wkB,hj]))).trans (f5.mono (λj hj _=>by simp at hj;simp[wkB,hj]))

structure PutSt (m:Mem) (H:zV) (hv:zW) (bw bm:Nat) (all:List Int) (k:Kn) (B:zW) (c:Nat) (wB:zW) (wC:Nat) (iB:zW) (iC:Nat):Prop where
 wk:WkAt m H hv bw bm B c all
 ow:Own H 24 1 wB k.ws.length wC (wvs k.ws)
 oi:Own H 3 1 iB k.is.length iC (ivs k.is)
 djw: ∀j∈blks wB,j ∉ wkB bw bm B/\j ∉ blks iB
 dji: ∀j∈blks iB,j ∉ wkB bw bm B
def putB(bw bm:Nat)(B wB iB:zW):List Nat:=wkB bw bm B++(blks wB++blks iB)
theorem mem_putB{bw bm j:Nat}{B wB iB:zW}:j∈putB bw bm B wB iB ↔ j∈wkB bw bm B\/j∈blks wB\/j∈blks iB:=by simp[putB]
theorem PutSt.keep{m:Mem}{S:List Nat}{H H':zV}{hv:zW}{bw bm c wC iC:Nat}{B wB iB:zW}{all:List Int}{k:Kn}(h:PutSt m H hv bw bm all k B c wB wC iB iC)(f:Fr S H H')(hS: ∀i,i∈S->i ∉ putB bw bm B wB iB):PutSt m H' hv bw bm all k B c wB wC iB iC:=
 ⟨h.wk.keep f (λi hi q=>hS i hi (mem_putB.2 (.inl q))),h.ow.keep f (λj hj hs=>hS j hs (mem_putB.2 (.inr (.inl hj)))),h.oi.keep f (λj hj hs=>hS j hs (mem_putB.2 (.inr (.inr hj)))),h.djw,h.dji⟩
theorem PutSt.ext{m:Mem}{H H':zV}{hv:zW}{bw bm c wC iC:Nat}{B wB iB:zW}{all:List Int}{k:Kn}(h:PutSt m H hv bw bm all k B c wB wC iB iC)(e:Ext H H'):PutSt m H' hv bw bm all k B c wB wC iB iC:=h.keep (S:=[]) e.fr (by simp)
theorem PutSt.lt{m:Mem}{H:zV}{hv:zW}{bw bm c wC iC:Nat}{B wB iB:zW}{all:List Int}{k:Kn}(h:PutSt m H hv bw bm all k B c wB wC iB iC): ∀j∈putB bw bm B wB iB,j<H.size:=λj hj=>by
 rcases mem_putB.1 hj with q | q | q
 ·exact h.wk.lt j q
 ·exact h.ow.lt j q
 ·exact h.oi.lt j q

def Mem.rawT(m:Mem)(w:Int):Prop:=m.typ w=2\/m.typ w=3
instance (m:Mem) (w:Int):Decidable (m.rawT w):=by unfold Mem.rawT;infer_instance
def Kn.app(k:Kn)(v n:Int):Kn:=⟨k.kind,k.ws++[v],k.is++[n]⟩
def objStep(m:Mem)(w:Int)(st:List Int×Kn)(v:Int):List Int×Kn:=if m.rawT w then(st.1,st.2.app v 0)else putP m st v
def Mem.lostW(m:Mem)(held:List Int)(g:Int)(lost:Bool)(w n v:Int):Prop:=w % 8=2/\n=0/\lost=true/\(m.genOf v).2=true/\(m.genOf v).1<=g/\v ∉ held
instance (m:Mem) (held:List Int) (g:Int) (lost:Bool) (w n v:Int):Decidable (m.lostW held g lost w n v):=by unfold Mem.lostW;infer_instance
def Mem.told(m:Mem)(held:List Int)(g:Int)(lost:Bool)(w n:Int):Int:=if m.lostW held g lost w n (m.read (w / 8+n))then 44 else m.read (w / 8+n)
def Mem.tolds(m:Mem)(held:List Int)(g:Int)(lost:Bool)(w:Int)(n:Nat):List Int:=(List.range n).map λi:Nat=>m.told held g lost w i
def knotOf(m:Mem)(held:List Int)(g:Int)(lost:Bool)(all:List Int)(w:Int):List Int×Kn:=(m.tolds held g lost w (m.sizeOf w).toNat).foldl (objStep m w) (all,⟨w % 8,[],[]⟩)
def picStep(m:Mem)(held:List Int)(g:Int)(lost:Bool)(st:List Int×List Kn):List Int×List Kn:=
  match st.1[st.2.length-1]? with
  | some w=>((knotOf m held g lost st.1 w).1,st.2++[(knotOf m held g lost st.1 w).2])
  | none=>st
def picN(m:Mem)(held:List Int)(g:Int)(lost:Bool)(st:List Int×List Kn):Nat->List Int×List Kn
  | 0=>st
  | n+1=>picStep m held g lost (picN m held g lost st n)
def rootP(m:Mem)(st:List Int×List Int)(v:Int):List Int×List Int:=(ofW m st.1 v,st.2++[numW m st.1 v])
def pic0(m:Mem)(roots:List Int):List Int×List Kn:=((roots.foldl (rootP m) ([],[])).1,[⟨0,[],(roots.foldl (rootP m) ([],[])).2⟩])
def IsPic(m:Mem)(held:List Int)(g:Int)(lost:Bool)(roots:List Int)(ks:List Kn):Prop:= ∃n,(picN m held g lost (pic0 m roots) n).2=ks/\ks.length=(picN m held g lost (pic0 m roots) n).1.length+1

structure KV where
  kind:Int
  wB:zW
  wN:Nat
  wC:Nat
  iB:zW
  iN:Nat
  iC:Nat
def KV.cells(k:KV):List Value:=[.int .u64 k.kind,.slice k.wB k.wN k.wC,.slice k.iB k.iN k.iC]
structure KnAt (H:zV) (rb:List Nat) (v:KV) (k:Kn):Prop where
  kind:v.kind=k.kind
  wN:v.wN=k.ws.length
  iN:v.iN=k.is.length
  w:SrcAt H v.wB (wvs k.ws)
  i:SrcAt H v.iB (ivs k.is)
  wb: ∀j∈blks v.wB,j∈rb
  ib: ∀j∈blks v.iB,j∈rb
  len:k.ws.length<=100000000/\k.is.length<=100000000
structure KnRow (H:zV) (B:zW) (n c:Nat) (ks:List Kn) (rb:List Nat):Prop where
  row: ∃kvs:List KV,kvs.length=ks.length/\Own H 104 3 B n c (kvs.flatMap KV.cells)/\ ∀(i:Nat) (h:i<kvs.length) (h':i<ks.length),KnAt H rb kvs[i] ks[i]
  n:n=ks.length
  lt: ∀j∈rb,j<H.size
theorem SrcAt.fr{S:List Nat}{H H':zV}{p:zW}{xs:List Value}(h:SrcAt H p xs)(f:Fr S H H')(hd: ∀i∈blks p,i ∉ S):SrcAt H' p xs:=by
  cases p with
  | none=>exact h
  | some a=>exact f.rowAt (hd _ (by simp)) h
theorem KnAt.keep{S:List Nat}{H H':zV}{rb rb':List Nat}{v:KV}{k:Kn}(h:KnAt H rb v k)(f:Fr S H H')(hS: ∀i∈S,i ∉ rb)(hrb: ∀j∈rb,j∈rb'):KnAt H' rb' v k:=
  ⟨h.kind,h.wN,h.iN,h.w.fr f (λj hj hs=>hS j hs (h.wb j hj)),h.i.fr f (λj hj hs=>hS j hs (h.ib j hj)),λj hj=>hrb j (h.wb j hj),λj hj=>hrb j (h.ib j hj),h.len⟩
theorem KnRow.keep{S:List Nat}{H H':zV}{B:zW}{n c:Nat}{ks:List Kn}{rb:List Nat}(h:KnRow H B n c ks rb)(f:Fr S H H')(hS: ∀i∈S,i ∉ rb/\i ∉ blks B):KnRow H' B n c ks rb:=by
  obtain⟨kvs,h1,h2,h3⟩:=h.row
  exact⟨⟨kvs,h1,h2.keep f (λj hj hs=>(hS j hs).2 hj),λi a b=>(h3 i a b).keep f (λj hj=>(hS j hj).1) (λ_ q=>q)⟩,h.n,λj hj=>Nat.lt_of_lt_of_le (h.lt j hj) f.size⟩
theorem KnRow.ext{H H':zV}{B:zW}{n c:Nat}{ks:List Kn}{rb:List Nat}(h:KnRow H B n c ks rb)(e:Ext H H'):KnRow H' B n c ks rb:=h.keep (S:=[]) e.fr (by simp)
theorem KV.cells_len(k:KV):k.cells.length=3:=rfl
theorem KnRow.snoc{H:zV}{B:zW}{n c:Nat}{ks:List Kn}{rb:List Nat}(h:KnRow H B n c ks rb)(v:KV)(k:Kn)(hk:KnAt H (blks v.wB++blks v.iB) v k)(hlt: ∀j∈blks v.wB++blks v.iB,j<H.size)(hd: ∀j∈blks B,j ∉ rb/\j ∉ blks v.wB++blks v.iB)(hn:n<=1000000){c2:Nat}{H2:zV}(hc2:c2=H.size)(hH2:H2=H.push (.cells #[.int .u64 v.kind,.slice v.wB v.wN v.wC,.slice v.iB v.iN v.iC] 104))
    {K:zW->Nat->zV->Prop} (hK: ∀B' c' H',KnRow H' B' (n+1) c' (ks++[k]) (rb++(blks v.wB++blks v.iB))->Fr (blks B) H H'->(∀j∈blks B',j∈blks B\/H.size<=j)->K B' c' H'):
    appendK 3 104 56 [.int .u64 0,.slice none 0 0,.slice none 0 0] B n c (some (Addr.mk c2 0 none)) 1 H2 K:=by
  obtain⟨kvs,h1,h2,h3⟩:=h.row
  have e2:Ext H H2:=Ext.push' hH2
  refine own_append (ys:=v.cells) (h2.ext e2) (rowAt_blk (push_get hc2 hH2) _ 0 0 (λj hj=>by
    rw[KV.cells_len]at hj
    rcases(show j=0\/j=1\/j=2 by omega)with rfl | rfl | rfl<;>rfl)) rfl rfl rfl (by omega) ?_
  intro p' c' H' how f hn'
  have f':Fr (blks B) H H':=e2.fr.trans f
  refine hK p' c' H' ⟨⟨kvs++[v],by simp[h1],by simpa[List.flatMap_append]using how,λi a b=>?_⟩,by rw[List.length_append,<-h.n];rfl,λj hj=>?_⟩ f' (λj hj=>?_)
  · by_cases hi:i<kvs.length
    · rw[List.getElem_append_left hi,List.getElem_append_left (by omega)]
      exact(h3 i hi (by omega)).keep f' (λj hj=>(hd j hj).1) (λj hj=>List.mem_append_left _ hj)
    · have hie:i=kvs.length:=by simp at a;omega
      subst hie
      have e1:(kvs++[v])[kvs.length]'a=v:=by simp
      have e3:(ks++[k])[kvs.length]'b=k:=by simp[h1]
      rw[e1,e3]
      exact hk.keep f' (λj hj=>(hd j hj).2) (λj hj=>List.mem_append_right _ hj)
  · rcases List.mem_append.1 hj with q | q
    · exact Nat.lt_of_lt_of_le (h.lt j q) f'.size
    · exact Nat.lt_of_lt_of_le (hlt j q) f'.size
  · rcases hn' j hj with q | q
    · exact .inl q
    · have:=e2.size;exact .inr (by omega)
theorem PutSt.knAt{m:Mem}{H:zV}{hv:zW}{bw bm c wC iC:Nat}{B wB iB:zW}{all:List Int}{k:Kn}(h:PutSt m H hv bw bm all k B c wB wC iB iC)(hl:k.ws.length<=100000000/\k.is.length<=100000000):KnAt H (blks wB++blks iB) ⟨k.kind,wB,k.ws.length,wC,iB,k.is.length,iC⟩ k:=
  ⟨rfl,rfl,rfl,h.ow.src,h.oi.src,λj hj=>List.mem_append_left _ hj,λj hj=>List.mem_append_right _ hj,hl⟩
theorem putP_len(m:Mem)(st:List Int×Kn)(v:Int):(putP m st v).2.ws.length=st.2.ws.length+1/\(putP m st v).2.is.length=st.2.is.length+1/\(putP m st v).2.kind=st.2.kind:=⟨by simp[putP,Kn.add],by simp[putP,Kn.add],rfl⟩
theorem WkAt.put0{m:Mem}{H:zV}{hv:zW}{bw bm c:Nat}{B:zW}{all:List Int}(h:WkAt m H hv bw bm B c all)(kind:Int):PutSt m H hv bw bm all ⟨kind,[],[]⟩ B c none 0 none 0:=
  ⟨h,own_nil,own_nil,λj hj=>by simp at hj,λj hj=>by simp at hj⟩
theorem objStep_len(m:Mem)(w:Int)(st:List Int×Kn)(v:Int):(objStep m w st v).2.ws.length=st.2.ws.length+1/\(objStep m w st v).2.is.length=st.2.is.length+1/\(objStep m w st v).2.kind=st.2.kind:=by
  unfold objStep
  split
  · exact⟨by simp[Kn.app],by simp[Kn.app],rfl⟩
  · exact putP_len m st v
theorem foldl_len{f:List Int×Kn->Int->List Int×Kn}(hf: ∀st v,(f st v).2.ws.length=st.2.ws.length+1/\(f st v).2.is.length=st.2.is.length+1/\(f st v).2.kind=st.2.kind): ∀(l:List Int) (st:List Int×Kn),(l.foldl f st).2.ws.length=st.2.ws.length+l.length/\(l.foldl f st).2.is.length=st.2.is.length+l.length/\(l.foldl f st).2.kind=st.2.kind
  | [],st=>⟨rfl,rfl,rfl⟩
  | v::l,st=>by
    obtain⟨h1,h2,h3⟩:=foldl_len hf l (f st v)
    obtain⟨q1,q2,q3⟩:=hf st v
    exact⟨by show(l.foldl f (f st v)).2.ws.length=_;rw[h1,q1];simp;omega,by show(l.foldl f (f st v)).2.is.length=_;rw[h2,q2];simp;omega,h3.trans q3⟩
theorem PutSt.app{m:Mem}{H:zV}{hv:zW}{bw bm c wC iC:Nat}{B wB iB:zW}{all:List Int}{k:Kn}(P:PutSt m H hv bw bm all k B c wB wC iB iC){v nn:Int}{c5:Nat}(hc5:c5 ∉ putB bw bm B wB iB)(g5:H[c5]?=some (.cells #[.int .u64 k.kind,.slice wB k.ws.length wC,.slice iB k.is.length iC] 104 (0,0)))(hl:k.ws.length<=100000000)(hli:k.is.length<=100000000){Q:zV->Prop}
    (hQ: ∀(H':zV) (wB':zW) (wC':Nat) (iB':zW) (iC':Nat),PutSt m H' hv bw bm all (k.app v nn) B c wB' wC' iB' iC'->H'[c5]?=some (.cells #[.int .u64 k.kind,.slice wB' (k.ws.length+1) wC',.slice iB' (k.is.length+1) iC'] 104 (0,0))->Fr (c5::(blks wB++blks iB)) H H'->(∀j∈putB bw bm B wB' iB',j∈putB bw bm B wB iB\/H.size<=j)->Q H'):
    ∃ xB_3 : Option Addr, ∃ xN_3 : Nat, ∃ xC_3 : Nat, hat H ((Addr.mk c5 0 none).add 1) = some (.slice xB_3 xN_3 xC_3) ∧
          ∀(b_8:Nat) (H34:zV),b_8=H.size->H34=H.push (.cells #[.int .u64 v] 24)->
          appendK 1 24 8 [.int .u64 0] xB_3 xN_3 xC_3 (some (Addr.mk b_8 0 none)) 1 H34 (λap_3 apC_3 H35=>
           (CanPuts H35 ((Addr.mk c5 0 none).add 1) 0 1)/\ ∀H36:zV,H36=hputs H35 ((Addr.mk c5 0 none).add 1) [.slice ap_3 (xN_3+1) apC_3] 0->
           ∃xB_4:zW,∃xN_4:Nat,∃xC_4:Nat,hat H36 ((Addr.mk c5 0 none).add 2)=some (.slice xB_4 xN_4 xC_4)/\
           ∀(b_9:Nat) (H37:zV),b_9=H36.size->H37=H36.push (.cells #[.int .i64 nn] 3)->
           appendK 1 3 8 [.int .i64 0] xB_4 xN_4 xC_4 (some (Addr.mk b_9 0 none)) 1 H37 (λap_4 apC_4 H38=>
            (CanPuts H38 ((Addr.mk c5 0 none).add 2) 0 1)/\ ∀H39:zV,H39=hputs H38 ((Addr.mk c5 0 none).add 2) [.slice ap_4 (xN_4+1) apC_4] 0->Q H39)):=by
  have hlt:=P.lt
  have c5lt:=lt_size g5
  have c5w:c5 ∉ blks wB:=λq=>hc5 (mem_putB.2 (.inr (.inl q)))
  have c5i:c5 ∉ blks iB:=λq=>hc5 (mem_putB.2 (.inr (.inr q)))
  have c5k:c5 ∉ wkB bw bm B:=λq=>hc5 (mem_putB.2 (.inl q))
  refine⟨_,_,_,by rw[box_get g5];rfl,?_⟩
  intro c8 H8 hc8 hH8
  have e8:Ext H H8:=Ext.push' hH8
  have z8:=e8.size
  refine own_append (ys:=wvs [v]) (P.ow.ext e8) (rowAt_blk (push_get hc8 hH8) _ 0 0 (λj hj=>by
    simp only[wvs,List.map_cons,List.map_nil,List.length_cons,List.length_nil]at hj
    obtain rfl:j=0:=by omega
    rfl)) rfl (allOne_wvs _) rfl (by omega) ?_
  intro wB' wC' H3 ow3 f3 hn3
  have g3:=f3.get c5w (e8.get g5)
  obtain⟨hcp,hs⟩:=box_put g3 1 (.slice wB' (k.ws.length+1) wC') (by simp)
  refine⟨hcp,λH4 hH4=>?_⟩
  obtain⟨g4,f4⟩:=hs H4 hH4
  have hwB': ∀j∈blks wB',j∈blks wB\/H.size<=j:=λj hj=>by
    rcases hn3 j hj with q | q
    · exact .inl q
    · exact .inr (by omega)
  have z3:=f3.size
  have z4:=f4.size
  have iw: ∀j∈blks iB,j ∉ blks wB:=λj hj q=>(P.djw j q).2 hj
  have oi4:=((P.oi.ext e8).keep f3 (λj hj q=>iw j hj q)).keep f4 (λj hj q=>by simp at q;exact c5i (q▸hj))
  refine⟨_,_,_,by rw[box_get g4];rfl,?_⟩
  intro c9 H9 hc9 hH9
  have e9:Ext H4 H9:=Ext.push' hH9
  have z9:=e9.size
  refine own_append (ys:=ivs [nn]) (oi4.ext e9) (rowAt_blk (push_get hc9 hH9) _ 0 0 (λj hj=>by
    simp only[ivs,List.map_cons,List.map_nil,List.length_cons,List.length_nil]at hj
    obtain rfl:j=0:=by omega
    rfl)) rfl (allOne_ivs _) rfl (by omega) ?_
  intro iB' iC' H5 oi5 f5 hn5
  have g5':=f5.get c5i (e9.get g4)
  obtain⟨hcp6,hs6⟩:=box_put g5' 2 (.slice iB' (k.is.length+1) iC') (by simp)
  refine⟨hcp6,λH6 hH6=>?_⟩
  obtain⟨g6,f6⟩:=hs6 H6 hH6
  have hiB': ∀j∈blks iB',j∈blks iB\/H4.size<=j:=λj hj=>by
    rcases hn5 j hj with q | q
    · exact .inl q
    · exact .inr (by omega)
  have hPw: ∀j∈wkB bw bm B,j<H.size:=λj hj=>hlt j (mem_putB.2 (.inl hj))
  have hwlt: ∀j∈blks wB,j<H.size:=λj hj=>hlt j (mem_putB.2 (.inr (.inl hj)))
  have hilt: ∀j∈blks iB,j<H.size:=λj hj=>hlt j (mem_putB.2 (.inr (.inr hj)))
  have wn: ∀j∈blks wB',j≠c5/\j ∉ blks iB/\j ∉ wkB bw bm B/\j<H4.size:=λj hj=>by
    have hl4:=ow3.lt j hj
    rcases hwB' j hj with q | q
    · exact⟨λe=>c5w (e▸q),(P.djw j q).2,(P.djw j q).1,by omega⟩
    · exact⟨by omega,λr=>by have:=hilt j r;omega,λr=>by have:=hPw j r;omega,by omega⟩
  have inn: ∀j∈blks iB',j≠c5/\j ∉ wkB bw bm B:=λj hj=>by
    rcases hiB' j hj with q | q
    · exact⟨λe=>c5i (e▸q),P.dji j q⟩
    · exact⟨by omega,λr=>by have:=hPw j r;omega⟩
  have K6:=((((P.wk.ext e8).keep f3 (λj hj q=>(P.djw j hj).1 q)).keep f4 (λj hj q=>by simp at hj;exact c5k (hj▸q))).ext e9).keep f5 (λj hj q=>P.dji j hj q) |>.keep f6 (λj hj q=>by simp at hj;exact c5k (hj▸q))
  have ow6:=(((ow3.keep f4 (λj hj q=>by simp at q;exact(wn j hj).1 q)).ext e9).keep f5 (λj hj q=>(wn j hj).2.1 q)).keep f6 (λj hj q=>by simp at q;exact(wn j hj).1 q)
  have oi6:=oi5.keep f6 (λj hj q=>by simp at q;exact(inn j hj).1 q)
  refine hQ H6 wB' wC' iB' iC' ⟨K6,?_,?_,λj hj=>⟨(wn j hj).2.2.1,λq=>?_⟩,λj hj=>(inn j hj).2⟩ g6 ?_ (λj hj=>?_)
  · show Own H6 _ 1 wB' (k.ws++[v]).length wC' (wvs (k.ws++[v]))
    rw[List.length_append]
    simpa[wvs]using ow6
  · show Own H6 _ 1 iB' (k.is++[nn]).length iC' (ivs (k.is++[nn]))
    rw[List.length_append]
    simpa[ivs]using oi6
  · rcases hiB' j q with r | r
    · exact(wn j hj).2.1 r
    · have:=(wn j hj).2.2.2;omega
  · refine(((e8.fr.trans (f3.mono (λj hj _=>by simp[hj]))).trans (f4.mono (λj hj _=>by simp at hj;simp[hj]))).trans e9.fr).trans ((f5.mono (λj hj _=>by simp[hj])).trans (f6.mono (λj hj _=>by simp at hj;simp[hj])))
  · rcases mem_putB.1 hj with q | q | q
    · exact .inl (mem_putB.2 (.inl q))
    · rcases hwB' j q with r | r
      · exact .inl (mem_putB.2 (.inr (.inl r)))
      · exact .inr r
    · rcases hiB' j q with r | r
      · exact .inl (mem_putB.2 (.inr (.inr r)))
      · exact .inr (by omega)
theorem Mem.tolds_take(m:Mem)(held:List Int)(g:Int)(lost:Bool)(w:Int){n i:Nat}(h:i<n):(m.tolds held g lost w n).take (i+1)=(m.tolds held g lost w n).take i++[m.told held g lost w i]:=by
  unfold Mem.tolds
  rw[List.take_succ_eq_append_getElem (by simpa using h)];simp
theorem told_word{m:Mem}(ok:MemOK m)(held:List Int)(g:Int)(lost:Bool)(w n:Int):IsWord (m.told held g lost w n):=by
  unfold Mem.told
  split
  · decide
  · exact Mem.read_word ok _

def Mem.kid(m:Mem)(w k:Int):Prop:= ¬m.rawT w/\(w % 8≠2\/k=1)
structure Cl (m:Mem) (g:Int) (roots:List Int) (P:Int->Prop):Prop where
  root: ∀w∈roots,m.sizeOf w≠0->P w
  older: ∀x,m.used x->g<m.gAt x->m.strong x->m.sizeOf (m.get x)≠0->P (m.get x)
  kid: ∀w,P w->IsWord w->m.sizeOf w≠0-> ∀k:Int,0<=k->k<m.sizeOf w->m.kid w k->m.sizeOf (m.read (w / 8+k))≠0->P (m.read (w / 8+k))
structure Held (m:Mem) (g:Int) (roots all:List Int):Prop where
  alls:Alls m all
  cl:Cl m g roots (· ∈all)
  min: ∀P,Cl m g roots P-> ∀w∈all,P w
def Due(m:Mem)(all:List Int)(w:Int):Prop:=m.sizeOf w≠0->w∈all
theorem of_pre(m:Mem)(all:List Int)(w:Int):all<+:ofW m all w:=by
  unfold ofW
  split
  · exact List.prefix_refl _
  · exact List.prefix_append _ _
theorem Due.mono{m:Mem}{w:Int}{all all':List Int}(h:Due m all w)(p:all<+:all'):Due m all' w:=λb=>p.subset (h b)
theorem of_due(m:Mem)(all:List Int)(w:Int):Due m (ofW m all w) w:=λb=>by
  unfold ofW
  by_cases q:w∈all
  · rw[if_pos (.inr q)];exact q
  · rw[if_neg (λr=>r.elim b q)];simp
theorem of_mem{m:Mem}{w v:Int}{all:List Int}(h:v∈ofW m all w):v∈all\/(v=w/\m.sizeOf w≠0):=by
  unfold ofW at h
  split at h
  · exact .inl h
  · rename_i hs
    rcases List.mem_append.1 h with q | q
    · exact .inl q
    · simp at q;exact .inr ⟨q,λe=>hs (.inl e)⟩
def Least(m:Mem)(g:Int)(roots all:List Int):Prop:= ∀P,Cl m g roots P-> ∀w∈all,P w
theorem Least.of{m:Mem}{g w:Int}{roots all:List Int}(h:Least m g roots all)(hw: ∀P,Cl m g roots P->m.sizeOf w≠0->P w):Least m g roots (ofW m all w):=λP c v hv=>by
  rcases of_mem hv with q | ⟨rfl,q1⟩
  · exact h P c v q
  · exact hw P c q1
def RS(m:Mem)(H0:zV)(hv:zW)(bw bm:Nat)(X:List Nat)(A:zV)(all:List Int):Prop:=
  ∃(B:zW) (c:Nat),WkAt m A hv bw bm B c all/\Ext H0 A/\ ∀j∈wkB bw bm B,H0.size<=j/\j ∉ X
theorem RS.ext{m:Mem}{H0:zV}{hv:zW}{bw bm:Nat}{X:List Nat}{A A':zV}{all:List Int}(h:RS m H0 hv bw bm X A all)(e:Ext A A'):RS m H0 hv bw bm X A' all:=by
  obtain⟨B,c,h1,h2,h3⟩:=h
  exact⟨B,c,h1.ext e,h2.trans e,h3⟩
theorem RS.grow{m:Mem}{H0:zV}{hv:zW}{bw bm:Nat}{X Y:List Nat}{A:zV}{all:List Int}(h:RS m H0 hv bw bm X A all)(hY: ∀j∈Y,j∈X\/A.size<=j):RS m H0 hv bw bm Y A all:=by
  obtain⟨B,c,h1,h2,h3⟩:=h
  refine⟨B,c,h1,h2,λj hj=>⟨(h3 j hj).1,λq=>?_⟩⟩
  rcases hY j q with r | r
  · exact(h3 j hj).2 r
  · have:=h1.lt j hj;omega
theorem RS.e{m:Mem}{H0:zV}{hv:zW}{bw bm:Nat}{X:List Nat}{A:zV}{all:List Int}(h:RS m H0 hv bw bm X A all):Ext H0 A:=by
  obtain⟨B,c,h1,h2,h3⟩:=h
  exact h2
theorem RS.alls{m:Mem}{H0:zV}{hv:zW}{bw bm:Nat}{X:List Nat}{A:zV}{all:List Int}(h:RS m H0 hv bw bm X A all):Alls m all:=by
  obtain⟨B,c,h1,h2,h3⟩:=h
  exact h1.alls
theorem walk_of_r{H0 A:zV}{b:Blk}{x:Hp}{bw bm:Nat}{X:List Nat}{all:List Int}{w:Int}(V:View H0 (some ⟨b.h,0,none⟩) (some (b,x)))(R:RS x.sp.mem H0 (some ⟨b.h,0,none⟩) bw bm X A all)(hX: ∀j∈X,j<A.size)(hw:IsWord w):
    morainelaw13_walk_of.C (some ⟨bw,0,none⟩) w A (λv A'=>v=.int .i64 (numW x.sp.mem all w)/\RS x.sp.mem H0 (some ⟨b.h,0,none⟩) bw bm X A' (ofW x.sp.mem all w)/\ ∃S,Fr S A A'/\ ∀j∈S,j ∉ X):=by
  obtain⟨B,c,K,e0,hB⟩:=R
  refine HC.mono (walk_of_c (o:=some (b,x)) (V.ext e0) K hw) ?_
  rintro _ A2 ⟨rfl,B',c',K2,f2,hB'⟩
  have z0:=e0.size
  have hwk: ∀j∈wkB bw bm B',j∈wkB bw bm B\/A.size<=j:=λj hj=>by
    simp only[wkB,List.mem_cons]at hj⊢
    rcases hj with q | q | q
    · exact .inl (.inl q)
    · exact .inl (.inr (.inl q))
    · rcases hB' j q with r | r
      · exact .inl (.inr (.inr r))
      · exact .inr r
  refine⟨rfl,⟨B',c',K2,e0.fr_trans f2 (λj hj=>(hB j hj).1),λj hj=>?_⟩,wkB bw bm B,f2,λj hj=>(hB j hj).2⟩
  rcases hwk j hj with q | q
  · exact hB j q
  · exact⟨by omega,λr=>by have:=hX j r;omega⟩
def OlderTo(m:Mem)(g:Int)(all:List Int)(p:Int->Prop):Prop:= ∀x,m.used x->g<m.gAt x->m.strong x->p x->Due m all (m.get x)
theorem OlderTo.mono{m:Mem}{g:Int}{all all':List Int}{p:Int->Prop}(h:OlderTo m g all p)(q:all<+:all'):OlderTo m g all' p:=λx a b c d=>(h x a b c d).mono q
set_option maxRecDepth 100000 in
theorem older_loop{Q:zV->Prop}{H0 H9:zV}{b:Blk}{x:Hp}{bw bm cs kk:Nat}{g i_2:Int}{tB:zW}{tC:Nat}{l:List Nat}{roots:List Int}{all0:List Int}{p:Int->Prop}{ta:Addr}(hta:tB=some ta)
    (V:View H0 (some ⟨b.h,0,none⟩) (some (b,x))) (R0:RS x.sp.mem H0 (some ⟨b.h,0,none⟩) bw bm (cs::blks tB) H9 all0) (hcs:cs<H9.size) (hts: ∀j∈blks tB,j≠cs)
    (hkk:x.sp.mem.has kk/\kk<1024) (hi2:0<=i_2) (hil:i_2.toNat<l.length) (hlk:l[i_2.toNat]=kk)
    (h0:hat H9 ⟨cs,0,none⟩=some (.int .i64 (x.sp.mem.seg kk).gen)) (h1:hat H9 ⟨cs,1,none⟩=some (.int .i64 (x.sp.mem.seg kk).kind)) (h2:hat H9 ⟨cs,2,none⟩=some (.int .i64 (x.sp.mem.seg kk).n))
    (T0:Own H9 3 1 tB l.length tC (ivs (l.map λi:Nat=>(i:Int)))) (L0:Least x.sp.mem g roots all0) (O0:OlderTo x.sp.mem g all0 p)
    (hQ: ∀(A:zV) (all:List Int),RS x.sp.mem H0 (some ⟨b.h,0,none⟩) bw bm (cs::blks tB) A all->Own A 3 1 tB l.length tC (ivs (l.map λi:Nat=>(i:Int)))->all0<+:all->Least x.sp.mem g roots all->OlderTo x.sp.mem g all (λa=>p a\/(a / 64).toNat=kk)->Q A):
     ∃(I43:zv) (m43:Int->zV->Nat),I43 0 H9/\ ∀(k:Int) (H10:zV),I43 k H10->
     ∃x_9:Int,hat H10 ((Addr.mk cs 0 none).add 2)=some (.int .i64 x_9)/\
     if k<x_9 then(
      ∃x_10:Int,hat H10 (Addr.mk cs 0 none)=some (.int .i64 x_10)/\
      if x_10>g then(
       ∃x_11:Int,hat H10 ((Addr.mk cs 0 none).add 1)=some (.int .i64 x_11)/\
       if x_11=3 then(
        Q H10)
       else
       ∃x_12:zW,hat H10 ⟨b.h,0,none⟩=some (.pointer x_12)/\
       ∃x12A:Addr,x_12=some x12A/\
       ∃x_13:zW,hat H10 x12A=some (.pointer x_13)/\
       ∃x13A:Addr,x_13=some x13A/\
       ∃x_14:zW,hat H10 x13A=some (.pointer x_14)/\
       ((0:Int)<=i_2/\i_2< (l.length:Int))/\
       ∃x_15:Int,hat H10 (ta.add (Int.toNat i_2*1))=some (.int .i64 x_15)/\
       seg_Mem_Read.C x_14 (IntKind.wrap .i64 ((IntKind.wrap .i64 (64*x_15))+k)) H10 (λv_4 H11=> ∃ra:Int,∃rb_2:Int,v_4=.tuple #[.int .u64 ra,.int .i64 rb_2]/\
        ∃x_16:Int,hat H11 ((Addr.mk cs 0 none).add 1)=some (.int .i64 x_16)/\
        if((x_16 !=1) || ((iand .i64 k 1)==1))=true then(
         morainelaw13_walk_of.C (some (Addr.mk bw 0 none)) ra H11 (λv_5 H12=> ∃x_18:Int,v_5=.int .i64 x_18/\
          (I43 (IntKind.wrap .i64 (k+1)) H12/\m43 (IntKind.wrap .i64 (k+1)) H12<m43 k H10)))
        else
        (I43 (IntKind.wrap .i64 (k+1)) H11/\m43 (IntKind.wrap .i64 (k+1)) H11<m43 k H10)))
      else
      Q H10)
     else
     Q H10:=by
  have ok:=V.inv.2.2
  have hn64:=(ok.mem.seg kk).n
  have hkn:((kk:Nat):Int).toNat=kk:=by omega
  refine⟨λk A=>(0<=k/\k<=(x.sp.mem.seg kk).n)/\ ∃all,RS x.sp.mem H0 (some ⟨b.h,0,none⟩) bw bm (cs::blks tB) A all/\Own A 3 1 tB l.length tC (ivs (l.map λi:Nat=>(i:Int)))/\all0<+:all/\Least x.sp.mem g roots all/\OlderTo x.sp.mem g all (λa=>p a\/((a / 64).toNat=kk/\a % 64<k))/\
      cs<A.size/\hat A ⟨cs,0,none⟩=some (.int .i64 (x.sp.mem.seg kk).gen)/\hat A ⟨cs,1,none⟩=some (.int .i64 (x.sp.mem.seg kk).kind)/\hat A ⟨cs,2,none⟩=some (.int .i64 (x.sp.mem.seg kk).n),λk _=>(100-k).toNat,
    ⟨⟨by omega,hn64.1⟩,all0,R0,T0,List.prefix_refl _,L0,λa q1 q2 q3 q4=>O0 a q1 q2 q3 (q4.elim id (λq=>by have:=q.2;omega)),hcs,h0,h1,h2⟩,?_⟩
  rintro k A ⟨hk,all,R,T,hpre,L,O,hcA,g0,g1,g2⟩
  refine⟨_,by rw[addr_add_mk];exact g2,?_⟩
  by_cases hkn2:k< (x.sp.mem.seg kk).n
  case neg=>
    rw[if_neg hkn2]
    refine hQ A all R T hpre L (λa q1 q2 q3 q4=>O a q1 q2 q3 (q4.imp id (λq=>⟨q,?_⟩)))
    have:=q1.2.2
    rw[q]at this;omega
  rw[if_pos hkn2]
  refine⟨_,g0,?_⟩
  by_cases hgg:(x.sp.mem.seg kk).gen>g
  case neg=>
    rw[if_neg hgg]
    refine hQ A all R T hpre L (λa q1 q2 q3 q4=>?_)
    rcases q4 with q | q
    · exact O a q1 q2 q3 (.inl q)
    · exact absurd (show g< (x.sp.mem.seg kk).gen by rw[<-q];exact q2) hgg
  rw[if_pos hgg]
  refine⟨_,by rw[addr_add_mk];exact g1,?_⟩
  by_cases hk3:(x.sp.mem.seg kk).kind=3
  · rw[if_pos hk3]
    refine hQ A all R T hpre L (λa q1 q2 q3 q4=>?_)
    rcases q4 with q | q
    · exact O a q1 q2 q3 (.inl q)
    · exact absurd (show(x.sp.mem.seg (a / 64).toNat).kind=3 by rw[q];exact hk3) q3.1
  rw[if_neg hk3]
  obtain⟨-,hp,-⟩:=(V.ext R.e).inv
  obtain⟨ta',hta',hat15⟩:=ivs_at T hil
  obtain rfl:ta'=ta:=by rw[hta]at hta';cases hta';rfl
  rw[hlk]at hat15
  refine⟨_,hp.hPtr,_,rfl,_,hp.cd.cPtr,_,rfl,_,hp.cd.sp.memPtr,⟨hi2,by omega⟩,_,hat15,?_⟩
  have hkk2:=hkk.2
  rw[w64 (n:=64*((kk:Nat):Int)) (by omega),w64 (n:=64*((kk:Nat):Int)+k) (by omega),w64 (n:=k+1) (by omega)]
  refine HC.mono (seg_Read_w hp.cd.sp.mem ok.mem (by omega)) ?_
  have hd:(100-(k+1)).toNat< (100-k).toNat:=by omega
  rintro _ A1 ⟨rfl,rfl⟩
  have ea:(64*((kk:Nat):Int)+k) / 64=kk:=by omega
  have em:(64*((kk:Nat):Int)+k) % 64=k:=by omega
  have hu:x.sp.mem.used (64*((kk:Nat):Int)+k):=⟨by omega,by rw[ea];exact hkk.1,by rw[ea,em,hkn];exact hkn2⟩
  have hrd:x.sp.mem.read (64*((kk:Nat):Int)+k)=x.sp.mem.get (64*((kk:Nat):Int)+k):=by unfold Mem.read;rw[if_pos hu]
  refine⟨_,_,rfl,_,by rw[addr_add_mk];exact g1,?_⟩
  have hst:((((x.sp.mem.seg kk).kind !=1) || ((iand .i64 k 1)==1))=true) ↔ x.sp.mem.strong (64*((kk:Nat):Int)+k):=by
    rw[iand_one (by omega)]
    unfold Mem.strong Mem.kAt
    rw[ea,hkn,show(64*((kk:Nat):Int)+k) % 2=k % 2 by omega]
    simp[hk3]
  have hpar: ∀a,x.sp.mem.used a->(a / 64).toNat=kk->a % 64<k+1->a % 64<k\/a=64*((kk:Nat):Int)+k:=λa q1 q2 q3=>by
    have:=q1.1;omega
  by_cases hs:x.sp.mem.strong (64*((kk:Nat):Int)+k)
  · rw[if_pos (hst.2 hs)]
    have hw:IsWord (x.sp.mem.read (64*((kk:Nat):Int)+k)):=Mem.read_word ok.mem _
    refine HC.mono (walk_of_r V R (λj hj=>?_) hw) ?_
    · rcases List.mem_cons.1 hj with q | q
      · rw[q];exact hcA
      · exact T.lt j q
    rintro _ A2 ⟨rfl,R2,S,f2,hS⟩
    have cS:cs ∉ S:=λq=>hS cs q (by simp)
    have hat2: ∀{i:Nat} {v:Value},hat A1 ⟨cs,i,none⟩=some v->hat A2 ⟨cs,i,none⟩=some v:=λ{i v} h=>f2.hat cS h
    have gz:=f2.size
    refine⟨_,rfl,⟨⟨by omega,by omega⟩,_,R2,T.keep f2 (λj hj q=>hS j q (by simp[hj])),hpre.trans (of_pre _ _ _),L.of (λP c1 c3=>?_),λa q1 q2 q3 q4=>?_,by omega,hat2 g0,hat2 g1,hat2 g2⟩,hd⟩
    · rw[hrd]at c3⊢
      exact c1.older _ hu (by show g< (x.sp.mem.seg ((64*((kk:Nat):Int)+k) / 64).toNat).gen;rw[ea,hkn];exact hgg) hs c3
    · rcases q4 with q | ⟨q,r⟩
      · exact(O a q1 q2 q3 (.inl q)).mono (of_pre _ _ _)
      · rcases hpar a q1 q r with t | t
        · exact(O a q1 q2 q3 (.inr ⟨q,t⟩)).mono (of_pre _ _ _)
        · rw[t,<-hrd];exact of_due _ _ _
  · rw[if_neg (λq=>hs (hst.1 q))]
    refine⟨⟨⟨by omega,by omega⟩,_,R,T,hpre,L,λa q1 q2 q3 q4=>?_,hcA,g0,g1,g2⟩,hd⟩
    rcases q4 with q | ⟨q,r⟩
    · exact O a q1 q2 q3 (.inl q)
    · rcases hpar a q1 q r with t | t
      · exact O a q1 q2 q3 (.inr ⟨q,t⟩)
      · exact absurd (t▸q3) hs

theorem raw13_c{H:zV}{b:Blk}{x:Hp}{w:Int}(V:View H (some ⟨b.h,0,none⟩) (some (b,x)))(hw:IsWord w):morainelaw13_raw.C (some ⟨b.h,0,none⟩) w H (λv H'=>v=.bool (decide (x.sp.mem.rawT w))/\Ext H H'):=by
  refine HC.via λR hR=>morainelaw13_raw.link ?_
  unfold morainelaw13_raw.pt
  refine HC.mono (obj_Type_c V hw) ?_
  rintro _ H1 ⟨rfl,e1⟩
  refine⟨_,rfl,?_⟩
  have hmo:(mof (some (b,x))).typ w=x.sp.mem.typ w:=rfl
  rw[hmo]
  by_cases h2:x.sp.mem.typ w=2
  · rw[if_pos h2]
    exact hR _ _ ⟨by rw[zX (show x.sp.mem.rawT w from .inl h2)],e1⟩
  rw[if_neg h2]
  refine HC.mono (obj_Type_c (V.ext e1) hw) ?_
  rintro _ H2 ⟨rfl,e2⟩
  refine⟨_,rfl,hR _ _ ⟨?_,e1.trans e2⟩⟩
  rw[hmo]
  by_cases h3:x.sp.mem.typ w=3
  · rw[zX (show x.sp.mem.rawT w from .inr h3),h3];rfl
  · rw[zQ (show ¬x.sp.mem.rawT w from λq=>q.elim h2 h3)];simp[h3]
set_option maxRecDepth 100000 in
theorem kids_loop{Q:zV->Prop}{H0 H20:zV}{b:Blk}{x:Hp}{bw bm:Nat}{g w:Int}{roots:List Int}{all0:List Int}
    (V:View H0 (some ⟨b.h,0,none⟩) (some (b,x))) (R0:RS x.sp.mem H0 (some ⟨b.h,0,none⟩) bw bm [] H20 all0) (hw:IsWord w) (hsz:x.sp.mem.sizeOf w≠0) (hin:w∈all0) (L0:Least x.sp.mem g roots all0)
    (hQ: ∀(A:zV) (all:List Int),RS x.sp.mem H0 (some ⟨b.h,0,none⟩) bw bm [] A all->all0<+:all->Least x.sp.mem g roots all->(∀k:Int,0<=k->k<x.sp.mem.sizeOf w->x.sp.mem.kid w k->Due x.sp.mem all (x.sp.mem.read (w / 8+k)))->Q A):
    ∃(I83:zv) (m83:Int->zV->Nat),I83 0 H20/\ ∀(k_3:Int) (H21:zV),I83 k_3 H21->
    obj_Heap_Size.C (some ⟨b.h,0,none⟩) w H21 (λv_10 H22=> ∃x_27:Int,v_10=.int .i64 x_27/\
     if k_3<x_27 then(
      morainelaw13_raw.C (some ⟨b.h,0,none⟩) w H22 (λv_10 H22=> ∃x_30:Bool,v_10=.bool x_30/\
       if x_30=true then(
        Q H22)
       else
       ∃x_30:zW,hat H22 ⟨b.h,0,none⟩=some (.pointer x_30)/\
       ∃x30A:Addr,x_30=some x30A/\
       ∃x_31:zW,hat H22 x30A=some (.pointer x_31)/\
       ∃x31A:Addr,x_31=some x31A/\
       ∃x_32:zW,hat H22 x31A=some (.pointer x_32)/\
       seg_Mem_Read.C x_32 (IntKind.wrap .i64 ((IntKind.wrap .i64 (ishr .u64 w 3))+k_3)) H22 (λv_11 H23=> ∃ra_3:Int,∃rb_5:Int,v_11=.tuple #[.int .u64 ra_3,.int .i64 rb_5]/\
        if(((iand .u64 w 7) !=2) || (k_3==1))=true then(
         morainelaw13_walk_of.C (some (Addr.mk bw 0 none)) ra_3 H23 (λv_12 H24=> ∃x_34:Int,v_12=.int .i64 x_34/\
          (I83 (IntKind.wrap .i64 (k_3+1)) H24/\m83 (IntKind.wrap .i64 (k_3+1)) H24<m83 k_3 H21)))
        else
        (I83 (IntKind.wrap .i64 (k_3+1)) H23/\m83 (IntKind.wrap .i64 (k_3+1)) H23<m83 k_3 H21))))
     else
     Q H22):=by
  have ok:=V.inv.2.2
  have hsr:=sizeOf_rng x.sp.mem w
  have had:=size_addr hsz
  have hmo:mof (some (b,x))=x.sp.mem:=rfl
  refine⟨λk A=>(0<=k/\k<=x.sp.mem.sizeOf w)/\ ∃all,RS x.sp.mem H0 (some ⟨b.h,0,none⟩) bw bm [] A all/\all0<+:all/\Least x.sp.mem g roots all/\ ∀k':Int,0<=k'->k'<k->x.sp.mem.kid w k'->Due x.sp.mem all (x.sp.mem.read (w / 8+k')),λk _=>(100-k).toNat,
    ⟨⟨by omega,hsr.1⟩,all0,R0,List.prefix_refl _,L0,λk' h1 h2=>by omega⟩,?_⟩
  rintro k A ⟨hk,all,R,hpre,L,D⟩
  refine HC.mono (obj_Size_c (V.ext R.e) hw) ?_
  rintro _ A2 ⟨rfl,e2⟩
  rw[hmo]
  refine⟨_,rfl,?_⟩
  have R2:=R.ext e2
  by_cases hlt:k<x.sp.mem.sizeOf w
  case neg=>
    rw[if_neg hlt]
    exact hQ A2 all R2 hpre L (λk' h1 h2=>D k' h1 (by omega))
  rw[if_pos hlt]
  have raw: ∀{A:zV},RS x.sp.mem H0 (some ⟨b.h,0,none⟩) bw bm [] A all->x.sp.mem.rawT w->Q A:=λ{A} R hr=>hQ A all R hpre L (λk' h1 h2 h3=>absurd hr h3.1)
  refine HC.mono (raw13_c (V.ext R2.e) hw) ?_
  rintro _ A4 ⟨rfl,e4⟩
  refine⟨_,rfl,?_⟩
  have R4:=R2.ext e4
  by_cases hnr':x.sp.mem.rawT w
  · rw[if_pos (zX hnr')];exact raw R4 hnr'
  rw[if_neg (by simpa using hnr')]
  have hnr: ¬x.sp.mem.rawT w:=hnr'
  obtain⟨-,hp,-⟩:=(V.ext R4.e).inv
  refine⟨_,hp.hPtr,_,rfl,_,hp.cd.cPtr,_,rfl,_,hp.cd.sp.memPtr,?_⟩
  have hw0:=hw.1
  rw[ishr_pos 3 3 rfl (by decide),show(2:Int) ^ 3=8 by decide]
  have hadl:=had.2
  rw[w64 (n:=w / 8) (by omega),w64 (n:=w / 8+k) (by omega),w64 (n:=k+1) (by omega)]
  have hd:(100-(k+1)).toNat< (100-k).toNat:=by omega
  refine HC.mono (seg_Read_w hp.cd.sp.mem ok.mem (by omega)) ?_
  rintro _ A5 ⟨rfl,rfl⟩
  refine⟨_,_,rfl,?_⟩
  have hmask:iand .u64 w 7=w % 8:=iand_mask 3 (by decide) hw 7 (by decide)
  rw[hmask]
  have hst:(((w % 8 !=2) || (k==1))=true) ↔ x.sp.mem.kid w k:=by
    unfold Mem.kid
    simp[hnr]
  have hpar: ∀k':Int,k'<k+1->k'<k\/k'=k:=λk' q=>by omega
  by_cases hs:x.sp.mem.kid w k
  · rw[if_pos (hst.2 hs)]
    refine HC.mono (walk_of_r V R4 (λj hj=>by simp at hj) (Mem.read_word ok.mem _)) ?_
    rintro _ A6 ⟨rfl,R6,S,f6,hS⟩
    refine⟨_,rfl,⟨⟨by omega,by omega⟩,_,R6,hpre.trans (of_pre _ _ _),L.of (λP c1 c3=>c1.kid w (L P c1 w (hpre.subset hin)) hw hsz k hk.1 hlt hs c3),λk' q1 q2 q3=>?_⟩,hd⟩
    rcases hpar k' q2 with t | t
    · exact(D k' q1 t q3).mono (of_pre _ _ _)
    · rw[t];exact of_due _ _ _
  · rw[if_neg (λq=>hs (hst.1 q))]
    refine⟨⟨⟨by omega,by omega⟩,_,R4,hpre,L,λk' q1 q2 q3=>?_⟩,hd⟩
    rcases hpar k' q2 with t | t
    · exact D k' q1 t q3
    · exact absurd (t▸q3) hs
theorem hat_lt3{H:zV}{a:Addr}{v:Value}(h:hat H a=some v):a.block<H.size:=by
  unfold hat at h
  by_cases hb:a.block<H.size
  · exact hb
  · rw[Array.getElem?_eq_none (by omega)]at h;cases h
theorem pre_take{a b:List Int}(p:a<+:b){i:Nat}(hi:i<=a.length):b.take i=a.take i:=by
  obtain⟨c,rfl⟩:=p
  rw[List.take_append_of_le_length hi]
set_option maxRecDepth 100000 in
theorem strong_c{H:zV}{b:Blk}{x:Hp}{rB:zW}{rN rC:Nat}{g:Int}{roots:List Int}(V:View H (some ⟨b.h,0,none⟩) (some (b,x)))(hs:SrcAt H rB (wvs roots))(hn:rN=roots.length)(hl:rN<=100000000)(hw: ∀w∈roots,IsWord w):
    morainelaw13_strong.C (some ⟨b.h,0,none⟩) rB rN rC g H (λv H'=> ∃all B c bw bm,Held x.sp.mem g roots all/\v=.tuple #[.slice B all.length c,.map (some bm)]/\WkAt x.sp.mem H' (some ⟨b.h,0,none⟩) bw bm B c all/\Ext H H'/\ ∀j∈wkB bw bm B,H.size<=j):=by
  refine HC.via λR hR=>morainelaw13_strong.link ?_
  unfold morainelaw13_strong.pt zY
  subst hn
  have ok:=V.inv.2.2
  have hmo:mof (some (b,x))=x.sp.mem:=rfl
  have hlim:=ok.mem.lim
  intro bm H1 hbm hH1 bw H2 hbw hH2
  have e1:Ext H H1:=Ext.push' hH1
  have e2:Ext H1 H2:=Ext.push' hH2
  have z1:H1.size=H.size+1:=by rw[hH1];simp
  have z2:H2.size=H1.size+1:=by rw[hH2];simp
  have K2:WkAt x.sp.mem H2 (some ⟨b.h,0,none⟩) bw bm none 0 []:=⟨push_get hbw hH2,⟨_,_,[],e2.get (push_get hbm hH1),rfl,λw=>by simp[mget]⟩,own_nil,⟨by omega,λj hj=>by simp at hj⟩,Alls.nil _⟩
  have R2:RS x.sp.mem H (some ⟨b.h,0,none⟩) bw bm [] H2 []:=⟨none,0,K2,e1.trans e2,λj hj=>⟨by simp[wkB]at hj;omega,by simp⟩⟩
  refine⟨λi A=>(0<=i/\i<=roots.length)/\ ∃all,RS x.sp.mem H (some ⟨b.h,0,none⟩) bw bm [] A all/\Least x.sp.mem g roots all/\ ∀w∈roots.take i.toNat,Due x.sp.mem all w,λi _=>(roots.length-i).toNat,
    ⟨⟨by omega,by omega⟩,[],R2,λP _ w h=>by simp at h,λw h=>by simp at h⟩,?_⟩
  rintro i A ⟨hi,all,Ra,La,Da⟩
  by_cases hlt:i< (roots.length:Int)
  · rw[if_pos hlt]
    have hil:i.toNat<roots.length:=by omega
    obtain⟨a,ha,hata⟩:=src_wv (hs.ext Ra.e) hil
    refine⟨a,ha,⟨hi.1,hlt⟩,_,hata,?_⟩
    have hd:((roots.length:Int)-(i+1)).toNat< ((roots.length:Int)-i).toNat:=by omega
    have hmem:=List.getElem_mem hil
    rw[w64 (n:=i+1) (by omega)]
    refine HC.mono (walk_of_r V Ra (λj hj=>by simp at hj) (hw _ hmem)) ?_
    rintro _ A2 ⟨rfl,R3,-⟩
    refine⟨_,rfl,⟨⟨by omega,by omega⟩,_,R3,La.of (λP c1 c3=>c1.root _ hmem c3),λw hwm=>?_⟩,hd⟩
    rw[show(i+1).toNat=i.toNat+1 by omega,List.take_succ_eq_append_getElem hil]at hwm
    rcases List.mem_append.1 hwm with q | q
    · exact(Da w q).mono (of_pre _ _ _)
    · simp at q;rw[q];exact of_due _ _ _
  rw[if_neg hlt]
  rw[List.take_of_length_le (by omega)]at Da
  obtain⟨-,hp,-⟩:=(V.ext Ra.e).inv
  refine⟨_,rfl,_,hp.hPtr,_,rfl,_,hp.cd.cPtr,_,rfl,_,hp.cd.sp.memPtr,?_⟩
  refine HC.mono (seg_Taken_c (gs:=[]) hp.cd.sp.mem ok.mem (by rw[SrcAt_none];rfl) rfl (by decide)) ?_
  rintro _ H5 ⟨tB,tC,l,rfl,hl2,hol,hfl,e5⟩
  refine⟨_,_,_,rfl,?_⟩
  have hllen:=hl2.len
  refine⟨λi A=>(0<=i/\i<=l.length)/\ ∃all,RS x.sp.mem H (some ⟨b.h,0,none⟩) bw bm (blks tB) A all/\Own A 3 1 tB l.length tC (ivs (l.map λi:Nat=>(i:Int)))/\Least x.sp.mem g roots all/\(∀w∈roots,Due x.sp.mem all w)/\OlderTo x.sp.mem g all (λa=>(a / 64).toNat∈l.take i.toNat),λi _=>(l.length-i).toNat,
    ⟨⟨by omega,by omega⟩,all,(Ra.grow (λj hj=> .inr (hfl j hj))).ext e5,hol,La,Da,λa q1 q2 q3 q4=>by simp at q4⟩,?_⟩
  rintro i2 H6 ⟨hi2,all2,R6,T6,L6,D6,O6⟩
  by_cases hlt2:i2< (l.length:Int)
  · rw[if_pos hlt2]
    have hil:i2.toNat<l.length:=by omega
    obtain⟨ta,hta,hatt⟩:=ivs_at T6 hil
    obtain⟨khas,klim,kpos,_⟩:=hl2.has (List.getElem_mem hil)
    have htk:l.take (i2+1).toNat=l.take i2.toNat++[l[i2.toNat]]:=by rw[show(i2+1).toNat=i2.toNat+1 by omega,List.take_succ_eq_append_getElem hil]
    generalize hk:l[i2.toNat]=k at*
    have hd:((l.length:Int)-(i2+1)).toNat< ((l.length:Int)-i2).toNat:=by omega
    obtain⟨-,hp6,-⟩:=(V.ext R6.e).inv
    have hsg:x.sp.mem.segOr k=x.sp.mem.seg k:=by unfold Mem.segOr;rw[if_pos khas,show((k:Nat):Int).toNat=k by omega]
    rw[w64 (n:=i2+1) (by omega)]
    refine⟨_,hp6.hPtr,_,rfl,_,hp6.cd.cPtr,_,rfl,_,hp6.cd.sp.memPtr,ta,hta,⟨hi2.1,hlt2⟩,_,hatt,?_⟩
    have fin: ∀(c:Nat),H6.size<=c-> ∀(A:zV) (al:List Int),RS x.sp.mem H (some ⟨b.h,0,none⟩) bw bm (c::blks tB) A al->Own A 3 1 tB l.length tC (ivs (l.map λi:Nat=>(i:Int)))->all2<+:al->Least x.sp.mem g roots al->OlderTo x.sp.mem g al (λa=>(a / 64).toNat∈l.take i2.toNat\/(a / 64).toNat=k)->
        (((0<=i2+1/\i2+1<=l.length)/\ ∃all,RS x.sp.mem H (some ⟨b.h,0,none⟩) bw bm (blks tB) A all/\Own A 3 1 tB l.length tC (ivs (l.map λi:Nat=>(i:Int)))/\Least x.sp.mem g roots all/\(∀w∈roots,Due x.sp.mem all w)/\OlderTo x.sp.mem g all (λa=>(a / 64).toNat∈l.take (i2+1).toNat))/\((l.length:Int)-(i2+1)).toNat< ((l.length:Int)-i2).toNat):=λc hc A al r1 r2 r3 r4 r5=>
      ⟨⟨⟨by omega,by omega⟩,al,r1.grow (λj hj=> .inl (by simp[hj])),r2,r4,λw hwm=>(D6 w hwm).mono r3,λa q1 q2 q3 q4=>r5 a q1 q2 q3 (by rw[htk]at q4;rcases List.mem_append.1 q4 with t | t;exact .inl t;simp at t;exact .inr t)⟩,hd⟩
    have tlt:=T6.lt
    constructor
    · refine HC.mono (seg_Seg_c' hp6.cd.sp.mem) ?_
      rintro _ H7 ⟨rfl,e7⟩
      rw[hsg]
      refine⟨_,_,_,_,_,_,_,_,rfl,λc8 H8 hc8 hH8=>?_⟩
      obtain⟨hcp,hs9⟩:=head_slot (x.sp.mem.seg k) hc8 hH8
      refine⟨hcp,λH9 hH9=>?_⟩
      obtain⟨e9,g0,g1,g2,_⟩:=hs9 H9 hH9
      have e69:=e7.trans e9
      have z7:=e7.size
      have z9:c8<H9.size:=hat_lt3 g0
      refine older_loop (p:=λa=>(a / 64).toNat∈l.take i2.toNat) (roots:=roots) hta V ((R6.grow (Y:=c8::blks tB) (λj hj=>?_)).ext e69) z9 (λj hj=>?_) ⟨khas,by omega⟩ hi2.1 hil hk g0 g1 g2 (T6.ext e69) L6 O6 (fin c8 (by omega))
      · rcases List.mem_cons.1 hj with q | q
        · exact .inr (by omega)
        · exact .inl q
      · have:=tlt j hj;omega
    · intro c9 H9 hc9 hH9
      have e9:Ext H6 H9:=Ext.push' hH9
      have z9:H9.size=H6.size+1:=by rw[hH9];simp
      refine⟨row1 (e9.hat hp6.hPtr),row1 (e9.hat hp6.cd.cPtr),row1 (e9.hat hp6.cd.sp.memPtr),⟨by show hat H9 ((ta.add (i2.toNat*1)).add 0)=_;unfold Addr.add at hatt⊢;rw[if_pos rfl];exact e9.hat hatt,trivial⟩,?_⟩
      obtain⟨-,hp9,-⟩:=(V.ext (R6.e.trans e9)).inv
      refine HC.mono (seg_Seg_c' hp9.cd.sp.mem) ?_
      rintro _ H10 ⟨rfl,e10⟩
      rw[hsg]
      obtain⟨hcA,hsA⟩:=boxed (vs:=[.int .i64 (x.sp.mem.seg k).gen,.int .i64 (x.sp.mem.seg k).kind,.int .i64 (x.sp.mem.seg k).n,.int .i64 ((x.sp.mem.seg k).cards 0),.int .i64 ((x.sp.mem.seg k).cards 1),.int .i64 ((x.sp.mem.seg k).cards 2),.int .i64 ((x.sp.mem.seg k).cards 3)]) (H1:=H10) (e10.get (push_get hc9 hH9)) rfl rfl
      refine⟨_,_,_,_,_,_,_,_,rfl,hcA,λH11 hH11=>?_⟩
      obtain⟨hr11,hE11⟩:=hsA H11 hH11
      have e11:Ext H6 H11:=hE11 H6 (e9.trans e10) (by omega)
      have z10:=e10.size
      have z11:c9<H11.size:=hat_lt3 hr11.1
      refine older_loop (p:=λa=>(a / 64).toNat∈l.take i2.toNat) (roots:=roots) hta V ((R6.grow (Y:=c9::blks tB) (λj hj=>?_)).ext e11) z11 (λj hj=>?_) ⟨khas,by omega⟩ hi2.1 hil hk hr11.1 hr11.2.1 hr11.2.2.1 (T6.ext e11) L6 O6 (fin c9 (by omega))
      · rcases List.mem_cons.1 hj with q | q
        · exact .inr (by omega)
        · exact .inl q
      · have:=tlt j hj;omega
  rw[if_neg hlt2]
  rw[List.take_of_length_le (by omega)]at O6
  have O6':OlderTo x.sp.mem g all2 (λ_=>True):=λa q1 q2 q3 _=>O6 a q1 q2 q3 (hl2.all ok.mem q1.2.1)
  refine⟨λi A=> ∃all,RS x.sp.mem H (some ⟨b.h,0,none⟩) bw bm [] A all/\Least x.sp.mem g roots all/\(∀w∈roots,Due x.sp.mem all w)/\OlderTo x.sp.mem g all (λ_=>True)/\(0<=i/\i<=all.length)/\ ∀w∈all.take i.toNat,∀k:Int,0<=k->k<x.sp.mem.sizeOf w->x.sp.mem.kid w k->Due x.sp.mem all (x.sp.mem.read (w / 8+k)),λi _=>(600000-i).toNat,
    ⟨all2,R6.grow (λj hj=>by simp at hj),L6,D6,O6',⟨by omega,by omega⟩,λw h=>by simp at h⟩,?_⟩
  rintro i3 H19 ⟨all3,R3,L3,D3,O3,hi3,K3⟩
  have hal:=R3.alls.len
  obtain⟨B,c,K,eK,hB⟩:=id R3
  refine⟨_,_,_,by rw[addr_add_mk,hat_blk K.cell];rfl,?_⟩
  by_cases hlt3:i3< (all3.length:Int)
  · rw[if_pos hlt3]
    have hil:i3.toNat<all3.length:=by omega
    obtain⟨ba,hba,hatb⟩:=src_wv K.own.src hil
    refine⟨_,_,_,by rw[addr_add_mk,hat_blk K.cell];rfl,ba,hba,⟨hi3.1,hlt3⟩,_,hatb,?_⟩
    have hmem:=List.getElem_mem hil
    have htk:all3.take (i3.toNat+1)=all3.take i3.toNat++[all3[i3.toNat]]:=List.take_succ_eq_append_getElem hil
    obtain⟨hgw,hgs⟩:=R3.alls.good _ hmem
    generalize hwd:all3[i3.toNat]=w at*
    have hd:(600000-(i3+1)).toNat< (600000-i3).toNat:=by omega
    rw[w64 (n:=i3+1) (by omega)]
    refine kids_loop (roots:=roots) V R3 hgw hgs hmem L3 ?_
    intro A al RA hpre LA DA
    have hlen:=hpre.length_le
    refine⟨⟨al,RA,LA,λv hv=>(D3 v hv).mono hpre,O3.mono hpre,⟨by omega,by omega⟩,λv hv k q1 q2 q3=>?_⟩,hd⟩
    rw[show(i3+1).toNat=i3.toNat+1 by omega,pre_take hpre (by omega),htk]at hv
    rcases List.mem_append.1 hv with t | t
    · exact(K3 v t k q1 q2 q3).mono hpre
    · simp at t;subst t;exact DA k q1 q2 q3
  · rw[if_neg hlt3]
    rw[List.take_of_length_le (by omega)]at K3
    exact⟨_,_,_,by rw[addr_add_mk,hat_blk K.cell];rfl,_,by rw[addr_add_mk,hat_blk K.cell];rfl,hR _ _ ⟨all3,B,c,bw,bm,⟨R3.alls,⟨λw hwm=>D3 w hwm,λa q1 q2 q3=>O3 a q1 q2 q3 trivial,λw hwm _ _ k q1 q2 q3=>K3 w hwm k q1 q2 q3⟩,L3⟩,rfl,K,R3.e,λj hj=>(hB j hj).1⟩⟩

theorem rootP_len(m:Mem): ∀(l:List Int) (st:List Int×List Int),(l.foldl (rootP m) st).2.length=st.2.length+l.length
  | [],st=>rfl
  | v::l,st=>by
    show(l.foldl (rootP m) (rootP m st v)).2.length=_
    rw[rootP_len m l]
    simp[rootP];omega
set_option maxRecDepth 100000 in
set_option maxHeartbeats 1000000 in
theorem picture_c{H:zV}{b:Blk}{x:Hp}{rB:zW}{rN rC:Nat}{g:Int}{lost:Bool}{roots:List Int}(V:View H (some ⟨b.h,0,none⟩) (some (b,x)))(hs:SrcAt H rB (wvs roots))(hn:rN=roots.length)(hl:rN<=10000000)(hw: ∀w∈roots,IsWord w):
    morainelaw13_picture.C (some ⟨b.h,0,none⟩) rB rN rC g lost H (λv H'=> ∃(held:List Int) (B:zW) (n c:Nat) (ks:List Kn) (rb:List Nat),Held x.sp.mem g roots held/\v=.slice B n c/\KnRow H' B n c ks rb/\IsPic x.sp.mem held g lost roots ks/\ks.length<=1000000/\(∀j∈rb,H.size<=j)/\(∀j∈blks B,H.size<=j)/\Ext H H'):=by
  refine HC.via λR hR=>morainelaw13_picture.link ?_
  unfold morainelaw13_picture.pt zY
  subst hn
  have ok:=V.inv.2.2
  have hmo:mof (some (b,x))=x.sp.mem:=rfl
  refine HC.mono (strong_c (g:=g) (rC:=rC) V hs rfl (by omega) hw) ?_
  rintro _ H0 ⟨held,hB,hc,hbw,hbm,hHeld,rfl,hK,e0,hblk0⟩
  refine⟨_,_,_,_,rfl,?_⟩
  have V0:=V.ext e0
  have hs0:=hs.ext e0
  have z0:=e0.size
  intro bm H1 hbm1 hH1 bw H2 hbw1 hH2 b3 H3 hb3 hH3
  have e1:Ext H0 H1:=Ext.push' hH1
  have e2:Ext H1 H2:=Ext.push' hH2
  have e3:Ext H2 H3:=Ext.push' hH3
  have z1:H1.size=H0.size+1:=by rw[hH1];simp
  have z2:H2.size=H1.size+1:=by rw[hH2];simp
  have z3:H3.size=H2.size+1:=by rw[hH3];simp
  obtain⟨hcp4,hs4⟩:=box_set (vs:=[.int .u64 0,.slice none 0 0,.slice none 0 0]) (push_get hb3 hH3) rfl rfl
  refine⟨hcp4,λH4 hH4=>?_⟩
  obtain⟨g34,f4⟩:=hs4 H4 hH4
  have e13:=(e1.trans e2).trans e3
  have e4:Ext H0 H4:=e13.fr_trans f4 (λj hj=>by simp at hj;omega)
  have z4:=f4.size
  have gw:H4[bw]?=_:=f4.get (by simp;omega) (e3.get (push_get hbw1 hH2))
  have gm:H4[bm]?=_:=f4.get (by simp;omega) (e3.get (e2.get (push_get hbm1 hH1)))
  have K4:WkAt x.sp.mem H4 (some ⟨b.h,0,none⟩) bw bm none 0 []:=⟨gw,⟨_,_,[],gm,rfl,λw=>by simp[mget]⟩,own_nil,⟨by omega,λj hj=>by simp at hj⟩,Alls.nil _⟩
  generalize hmm:x.sp.mem=m at*
  refine⟨λi A=>(0<=i/\i<=roots.length)/\ ∃(B:zW) (c:Nat) (iB:zW) (iC:Nat),PutSt m A (some ⟨b.h,0,none⟩) bw bm ((roots.take i.toNat).foldl (rootP m) ([],[])).1 ⟨0,[],((roots.take i.toNat).foldl (rootP m) ([],[])).2⟩ B c none 0 iB iC/\
      A[b3]?=some (.cells #[.int .u64 0,.slice none 0 0,.slice iB i.toNat iC] 104 (0,0))/\Ext H0 A/\(∀j∈putB bw bm B none iB,H0.size<=j/\j≠b3),λi _=>(roots.length-i).toNat,
    ⟨⟨by omega,by omega⟩,none,0,none,0,K4.put0 0,g34,e4,λj hj=>by simp[putB,wkB]at hj;omega⟩,?_⟩
  rintro i H5 ⟨hi,B,c,iB,iC,P5,g35,e5,hbig⟩
  have hfl:=rootP_len m (roots.take i.toNat) ([],[])
  have htl:(roots.take i.toNat).length=i.toNat:=by rw[List.length_take];omega
  rw[htl]at hfl
  simp only[List.length_nil,Nat.zero_add]at hfl
  have V5:=V0.ext e5
  by_cases hlt:i< (roots.length:Int)
  · rw[if_pos hlt]
    have hil:i.toNat<roots.length:=by omega
    obtain⟨a,ha,hata⟩:=src_wv (hs0.ext e5) hil
    have htk:roots.take (i+1).toNat=roots.take i.toNat++[roots[i.toNat]]:=by rw[show(i+1).toNat=i.toNat+1 by omega,List.take_succ_eq_append_getElem hil]
    have hfs:(roots.take (i+1).toNat).foldl (rootP m) ([],[])=rootP m ((roots.take i.toNat).foldl (rootP m) ([],[])) roots[i.toNat]:=by rw[htk,List.foldl_append];rfl
    have hwi:=hw _ (List.getElem_mem hil)
    generalize roots[i.toNat]=w at*
    generalize hst:(roots.take i.toNat).foldl (rootP m) ([],[])=st at*
    refine⟨iB,i.toNat,iC,by rw[box_get g35];rfl,a,ha,⟨hi.1,hlt⟩,_,hata,?_⟩
    have hpc:=walk_of_c (w:=w) (o:=some (b,x)) V5 (by rw[hmo];exact P5.wk) hwi
    rw[hmo]at hpc
    refine HC.mono hpc ?_
    rintro _ H6 ⟨rfl,B',c',K6,f6,hB6⟩
    have b3w:b3 ∉ wkB bw bm B:=λq=>(hbig b3 (mem_putB.2 (.inl q))).2 rfl
    have g36:=f6.get b3w g35
    have z5:=e5.size
    have z6:=f6.size
    have b3lt:=lt_size g35
    refine⟨_,rfl,row1 (show hat H6 ((Addr.mk b3 0 none).add 2)=_ from by rw[box_get g36 2];rfl),λc8 H8 hc8 hH8=>?_⟩
    have e8:Ext H6 H8:=Ext.push' hH8
    have g38:=e8.get g36
    have z8:=e8.size
    refine⟨row1 (show hat H8 ((Addr.mk b3 0 none).add 2)=_ from by rw[box_get g38 2];rfl),?_⟩
    have oi6:=(P5.oi.keep f6 (λj hj q=>P5.dji j hj q)).ext e8
    have oi6':Own H8 3 1 iB i.toNat iC (ivs st.2):=by
      have:=oi6
      rw[show(⟨0,[],st.2⟩:Kn).is.length=i.toNat from hfl]at this
      exact this
    refine own_append (ys:=ivs [numW m st.1 w]) oi6' (rowAt_blk (push_get hc8 hH8) _ 0 0 (λj hj=>by
      simp only[ivs,List.map_cons,List.map_nil,List.length_cons,List.length_nil]at hj
      obtain rfl:j=0:=by omega
      rfl)) rfl (allOne_ivs _) rfl (by omega) ?_
    intro iB' iC' H9 oi9 f9 hn9
    have b3i:b3 ∉ blks iB:=λq=>(hbig b3 (mem_putB.2 (.inr (.inr q)))).2 rfl
    have g39:=f9.get b3i g38
    obtain⟨hcp10,hs10⟩:=box_put g39 2 (.slice iB' (i.toNat+1) iC') (by simp)
    refine⟨hcp10,λH10 hH10=>?_⟩
    obtain⟨g310,f10⟩:=hs10 H10 hH10
    have hd:((roots.length:Int)-(i+1)).toNat< ((roots.length:Int)-i).toNat:=by omega
    rw[w64 (n:=i+1) (by omega)]
    have hwk6: ∀j∈wkB bw bm B',j∈wkB bw bm B\/H5.size<=j:=λj hj=>by
      simp only[wkB,List.mem_cons]at hj⊢
      rcases hj with q | q | q
      · exact .inl (.inl q)
      · exact .inl (.inr (.inl q))
      · rcases hB6 j q with r | r
        · exact .inl (.inr (.inr r))
        · exact .inr r
    have wn: ∀j∈wkB bw bm B',H0.size<=j/\j≠b3/\j ∉ blks iB/\j<H6.size:=λj hj=>by
      have hlt:=K6.lt j hj
      rcases hwk6 j hj with q | q
      · have:=hbig j (mem_putB.2 (.inl q))
        exact⟨this.1,this.2,λr=>P5.dji j r q,hlt⟩
      · exact⟨by omega,by omega,λr=>by have:=P5.lt j (mem_putB.2 (.inr (.inr r)));omega,hlt⟩
    have inn: ∀j∈blks iB',H0.size<=j/\j≠b3/\j ∉ wkB bw bm B':=λj hj=>by
      rcases hn9 j hj with q | q
      · have:=hbig j (mem_putB.2 (.inr (.inr q)))
        exact⟨this.1,this.2,λr=>(wn j r).2.2.1 q⟩
      · exact⟨by omega,by omega,λr=>by have:=(wn j r).2.2.2;omega⟩
    have hb3k: ∀j∈[b3],j ∉ wkB bw bm B':=λj hj q=>by simp at hj;exact(wn j q).2.1 hj
    refine⟨⟨⟨by omega,by omega⟩,B',c',iB',iC',?_,?_,?_,λj hj=>?_⟩,hd⟩
    · rw[hfs]
      refine⟨((K6.ext e8).keep f9 (λj hj q=>(wn j q).2.2.1 hj)).keep f10 hb3k,own_nil,?_,λj hj=>by simp at hj,λj hj=>(inn j hj).2.2⟩
      show Own H10 _ 1 iB' (st.2++[_]).length iC' (ivs (st.2++[_]))
      rw[List.length_append,hfl]
      have:=oi9.keep f10 (λj hj q=>by simp at q;exact(inn j hj).2.1 q)
      simpa[ivs]using this
    · rw[show(i+1).toNat=i.toNat+1 by omega];exact g310
    · have a1:Ext H0 H6:=e5.fr_trans f6 (λj hj=>(hbig j (mem_putB.2 (.inl hj))).1)
      exact((a1.trans e8).fr_trans f9 (λj hj=>(hbig j (mem_putB.2 (.inr (.inr hj)))).1)).fr_trans f10 (λj hj=>by simp at hj;omega)
    · rcases mem_putB.1 hj with q | q | q
      · exact⟨(wn j q).1,(wn j q).2.1⟩
      · simp at q
      · exact⟨(inn j q).1,(inn j q).2.1⟩
  rw[if_neg hlt]
  have hi0:i.toNat=roots.length:=by omega
  rw[hi0,List.take_length]at P5 hfl
  rw[hi0]at g35
  refine⟨0,none,0,0,iB,roots.length,iC,box_row (vs:=[.int .u64 0,.slice none 0 0,.slice iB roots.length iC]) g35,?_⟩
  intro b4 H8 hb4 hH8
  have e8:Ext H5 H8:=Ext.push' hH8
  have z8:H8.size=H5.size+1:=by rw[hH8];simp
  have P8:=P5.ext e8
  have hp0:pic0 m roots=((roots.foldl (rootP m) ([],[])).1,[⟨0,[],(roots.foldl (rootP m) ([],[])).2⟩]):=rfl
  generalize hst:roots.foldl (rootP m) ([],[])=st at*
  have hR8:KnRow H8 (some ⟨b4,0,none⟩) 1 1 [⟨0,[],st.2⟩] (blks none++blks iB):=by
    refine⟨⟨[⟨0,none,0,0,iB,st.2.length,iC⟩],rfl,⟨rfl,_,push_get hb4 hH8,rfl,Nat.le_refl _,rfl,λj hj=>?_⟩,λk a a'=>?_⟩,rfl,λj hj=>?_⟩
    · rw[hfl]
      rcases(show j=0\/j=1\/j=2 by omega)with rfl | rfl | rfl<;>rfl
    · have:k=0:=by simp at a;omega
      subst this
      exact P8.knAt ⟨by show 0<=100000000;omega,by show st.2.length<=100000000;omega⟩
    · have:=P8.lt j (mem_putB.2 (.inr (by simpa using hj)));exact this
  have hPlt:=P5.lt
  refine⟨λoB oN oC i A=> ∃(N:Nat) (rb:List Nat) (B:zW) (c:Nat),i=((picN m held g lost (pic0 m roots) N).2.length:Int)-1/\N+1=(picN m held g lost (pic0 m roots) N).2.length/\KnRow A oB oN oC (picN m held g lost (pic0 m roots) N).2 rb/\WkAt m A (some ⟨b.h,0,none⟩) bw bm B c (picN m held g lost (pic0 m roots) N).1/\Ext H0 A/\(∀j∈rb,j ∉ wkB bw bm B/\H0.size<=j)/\(∀j∈blks oB,j ∉ rb/\j ∉ wkB bw bm B/\H0.size<=j)/\(∀j∈wkB bw bm B,H0.size<=j)/\N<=(picN m held g lost (pic0 m roots) N).1.length,λ_ _ _ i _=>(600000-i).toNat,
    ⟨0,blks none++blks iB,B,c,by show(0:Int)=((pic0 m roots).2.length:Int)-1;rw[hp0];rfl,by show 0+1=(pic0 m roots).2.length;rw[hp0];rfl,by show KnRow H8 _ 1 1 (pic0 m roots).2 _;rw[hp0];exact hR8,by show WkAt m H8 _ bw bm B c (pic0 m roots).1;rw[hp0];exact P8.wk,e5.trans e8,λj hj=>?_,λj hj=>?_,λj hj=>(hbig j (mem_putB.2 (.inl hj))).1,Nat.zero_le _⟩,?_⟩
  · have hj':j∈blks iB:=by simpa using hj
    exact⟨P5.dji j hj',(hbig j (mem_putB.2 (.inr (.inr hj')))).1⟩
  · simp at hj
    subst hj
    have z5:=e5.size
    refine⟨λr=>?_,λr=>?_,by omega⟩
    · have:=hPlt j (mem_putB.2 (.inr (by simpa using r)));omega
    · have:=hPlt j (mem_putB.2 (.inl r));omega
  rintro oB oN oC i9 H9 ⟨N,rb,B9,c9,hi9,hN,R9,K9,e9,hrb,hoB,hwk,hNle⟩
  generalize hpn:picN m held g lost (pic0 m roots) N=ps at*
  refine⟨_,_,_,by rw[box_get K9.cell];rfl,?_⟩
  have hal:=K9.alls.len
  have hoN:=R9.n
  by_cases hlt9:i9< (ps.1.length:Int)
  case neg=>
    rw[if_neg hlt9]
    refine hR _ _ ⟨held,oB,oN,oC,ps.2,rb,hHeld,rfl,R9,⟨N,by rw[hpn],by rw[hpn];omega⟩,by omega,λj hj=>by have:=(hrb j hj).2;omega,λj hj=>by have:=(hoB j hj).2.2;omega,e0.trans e9⟩
  rw[if_pos hlt9]
  have hNl:N<ps.1.length:=by omega
  have hiN:i9.toNat=N:=by omega
  have hwN:IsWord ps.1[N]/\m.sizeOf ps.1[N]≠0:=K9.alls.good _ (List.getElem_mem hNl)
  obtain⟨aw,haw,hataw⟩: ∃a,B9=some a/\hat H9 (a.add (i9.toNat*1))=some (.int .u64 ps.1[N]):=by
    have:=K9.own.at (j:=N) (v:=.int .u64 ps.1[N]) (by simp[wvs,hNl])
    rw[hiN,Nat.mul_one];exact this
  have hstep:picN m held g lost (pic0 m roots) (N+1)=((knotOf m held g lost ps.1 ps.1[N]).1,ps.2++[(knotOf m held g lost ps.1 ps.1[N]).2]):=by
    show picStep m held g lost (picN m held g lost (pic0 m roots) N)=_
    rw[hpn]
    unfold picStep
    rw[show ps.2.length-1=N by omega,List.getElem?_eq_getElem hNl]
  generalize hw9:ps.1[N]=w at*
  refine⟨_,_,_,by rw[box_get K9.cell];rfl,aw,haw,⟨by omega,hlt9⟩,w,hataw,?_⟩
  intro c5 H10 hc5 hH10
  have e10:Ext H9 H10:=Ext.push' hH10
  have z10:H10.size=H9.size+1:=by rw[hH10];simp
  have hmask:iand .u64 w 7=w % 8:=iand_mask 3 (by decide) hwN.1 7 (by decide)
  rw[hmask]
  obtain⟨hcp11,hs11⟩:=box_set (vs:=[.int .u64 (w % 8),.slice none 0 0,.slice none 0 0]) (push_get hc5 hH10) rfl rfl
  refine⟨hcp11,λH11 hH11=>?_⟩
  obtain⟨g511,f11⟩:=hs11 H11 hH11
  have e911:Ext H9 H11:=e10.fr_trans f11 (λj hj=>by simp at hj;omega)
  have z11:H9.size<H11.size:=by have:=f11.size;omega
  have wk9:=K9.lt
  have c5w:c5 ∉ wkB bw bm B9:=λq=>by have:=wk9 c5 q;omega
  have hrb9:=R9.lt
  have hob9: ∀j∈blks oB,j<H9.size:=λj hj=>by obtain⟨_,_,q,_⟩:=R9.row;exact q.lt j hj
  have hdm:(600000-(i9+1)).toNat< (600000-i9).toNat:=by omega
  have fin: ∀(A:zV) (all':List Int) (k':Kn) (B':zW) (c':Nat) (wB':zW) (wC':Nat) (iB':zW) (iC':Nat),PutSt m A (some ⟨b.h,0,none⟩) bw bm all' k' B' c' wB' wC' iB' iC'->Fr (c5::wkB bw bm B9) H11 A->(∀j∈putB bw bm B' wB' iB',j∈wkB bw bm B9\/H11.size<=j)->knotOf m held g lost ps.1 w=(all',k')->(k'.ws.length<=100000000/\k'.is.length<=100000000)->ps.1.length<=all'.length->
      ∀(c6:Nat) (A6:zV),c6=A.size->A6=A.push (.cells #[.int .u64 k'.kind,.slice wB' k'.ws.length wC',.slice iB' k'.is.length iC'] 104)->
      appendK 3 104 56 [.int .u64 0,.slice none 0 0,.slice none 0 0] oB oN oC (some (Addr.mk c6 0 none)) 1 A6 (λap apC A7=>
        (∃(N:Nat) (rb:List Nat) (B:zW) (c:Nat),IntKind.wrap .i64 (i9+1)=((picN m held g lost (pic0 m roots) N).2.length:Int)-1/\N+1=(picN m held g lost (pic0 m roots) N).2.length/\KnRow A7 ap (oN+1) apC (picN m held g lost (pic0 m roots) N).2 rb/\WkAt m A7 (some ⟨b.h,0,none⟩) bw bm B c (picN m held g lost (pic0 m roots) N).1/\Ext H0 A7/\(∀j∈rb,j ∉ wkB bw bm B/\H0.size<=j)/\(∀j∈blks ap,j ∉ rb/\j ∉ wkB bw bm B/\H0.size<=j)/\(∀j∈wkB bw bm B,H0.size<=j)/\N<=(picN m held g lost (pic0 m roots) N).1.length)/\(600000-IntKind.wrap .i64 (i9+1)).toNat< (600000-i9).toNat):=by
    intro A all' k' B' c' wB' wC' iB' iC' PA fA hPB hkn hlen hall c6 A6 hc6 hA6
    have zA:=fA.size
    have RA:KnRow A oB oN oC ps.2 rb:=(R9.ext e911).keep fA (λj hj=>by
      rcases List.mem_cons.1 hj with r | r
      · subst r;exact⟨λq=>by have:=hrb9 _ q;omega,λq=>by have:=hob9 _ q;omega⟩
      · exact⟨λq=>(hrb j q).1 r,λq=>(hoB j q).2.1 r⟩)
    have hblk: ∀j∈putB bw bm B' wB' iB',j ∉ rb/\j ∉ blks oB/\H0.size<=j:=λj hj=>by
      have z9:=e9.size
      rcases hPB j hj with r | r
      · exact⟨λq=>(hrb j q).1 r,λq=>(hoB j q).2.1 r,hwk j r⟩
      · exact⟨λq=>by have:=hrb9 j q;omega,λq=>by have:=hob9 j q;omega,by omega⟩
    have hPlt':=PA.lt
    refine RA.snoc ⟨k'.kind,wB',k'.ws.length,wC',iB',k'.is.length,iC'⟩ k' (PA.knAt hlen) (λj hj=>hPlt' j (mem_putB.2 (.inr (by simpa using hj)))) (λj hj=>⟨(hoB j hj).1,λq=>(hblk j (mem_putB.2 (.inr (by simpa using q)))).2.1 hj⟩) (by omega) hc6 hA6 ?_
    intro B7 c7 A7 R7 f7 hn7
    have z7:=f7.size
    have eA:Ext H0 A:=(e9.trans e911).fr_trans fA (λj hj=>by
      rcases List.mem_cons.1 hj with r | r
      · have:=e9.size;omega
      · exact hwk j r)
    have K7:=PA.wk.keep f7 (λj hj q=>(hblk j (mem_putB.2 (.inl q))).2.1 hj)
    rw[w64 (n:=i9+1) (by omega)]
    refine⟨⟨N+1,rb++(blks wB'++blks iB'),B',c',?_,?_,?_,?_,eA.fr_trans f7 (λj hj=>(hoB j hj).2.2),λj hj=>?_,λj hj=>?_,λj hj=>(hblk j (mem_putB.2 (.inl hj))).2.2,?_⟩,hdm⟩
    · rw[hstep];simp;omega
    · rw[hstep];simp;omega
    · rw[hstep,hkn];exact R7
    · rw[hstep,hkn];exact K7
    · rcases List.mem_append.1 hj with r | r
      · exact⟨λq=>(hblk j (mem_putB.2 (.inl q))).1 r,(hrb j r).2⟩
      · refine⟨λq=>?_,(hblk j (mem_putB.2 (.inr (by simpa using r)))).2.2⟩
        rcases List.mem_append.1 r with r | r
        · exact(PA.djw j r).1 q
        · exact PA.dji j r q
    · rcases hn7 j hj with r | r
      · refine⟨λq=>?_,λq=>(hblk j (mem_putB.2 (.inl q))).2.1 r,(hoB j r).2.2⟩
        rcases List.mem_append.1 q with q | q
        · exact(hoB j r).1 q
        · exact(hblk j (mem_putB.2 (.inr (by simpa using q)))).2.1 r
      · have:=eA.size
        refine⟨λq=>?_,λq=>?_,by omega⟩
        · rcases List.mem_append.1 q with q | q
          · have:=hrb9 j q;omega
          · have:=hPlt' j (mem_putB.2 (.inr (by simpa using q)));omega
        · have:=hPlt' j (mem_putB.2 (.inl q));omega
    · rw[hstep,hkn];show N+1<=all'.length;omega
  have vw: ∀{A:zV},Fr (c5::wkB bw bm B9) H11 A->View A (some ⟨b.h,0,none⟩) (some (b,x))/\Ext H0 A:=λ{A} fA=>by
    have e:Ext H0 A:=(e9.trans e911).fr_trans fA (λj hj=>by
      rcases List.mem_cons.1 hj with r | r
      · have:=e9.size;omega
      · exact hwk j r)
    exact⟨V0.ext e,e⟩
  have ofw_len: ∀(all:List Int) (v:Int),all.length<=(ofW m all v).length:=λall v=>by
    unfold ofW
    split
    · exact Nat.le_refl _
    · simp
  have K11:WkAt m H11 (some ⟨b.h,0,none⟩) bw bm B9 c9 ps.1:=K9.ext e911
  have b0: ∀j∈putB bw bm B9 none none,j∈wkB bw bm B9\/H11.size<=j:=λj hj=>by simpa[putB]using(Or.inl hj:_\/H11.size<=j)
  have c5lt:c5<H11.size:=lt_size g511
  have c5P: ∀{B' wB' iB':zW},(∀j∈putB bw bm B' wB' iB',j∈wkB bw bm B9\/H11.size<=j)->c5 ∉ putB bw bm B' wB' iB':=λ{B' wB' iB'} h q=>by
    rcases h c5 q with r | r
    · exact c5w r
    · omega
  have okm:MemOK m:=hmm▸ok.mem
  have hsr:=sizeOf_rng m w
  have had:=size_addr hwN.2
  refine⟨λnv A=>(0<=nv/\nv<=m.sizeOf w)/\ ∃(B':zW) (c':Nat) (wB':zW) (wC':Nat) (iB':zW) (iC':Nat),PutSt m A (some ⟨b.h,0,none⟩) bw bm (((m.tolds held g lost w (m.sizeOf w).toNat).take nv.toNat).foldl (objStep m w) (ps.1,⟨w % 8,[],[]⟩)).1 (((m.tolds held g lost w (m.sizeOf w).toNat).take nv.toNat).foldl (objStep m w) (ps.1,⟨w % 8,[],[]⟩)).2 B' c' wB' wC' iB' iC'/\
      A[c5]?=some (.cells #[.int .u64 (w % 8),.slice wB' nv.toNat wC',.slice iB' nv.toNat iC'] 104 (0,0))/\Fr (c5::wkB bw bm B9) H11 A/\(∀j∈putB bw bm B' wB' iB',j∈wkB bw bm B9\/H11.size<=j)/\ps.1.length<=(((m.tolds held g lost w (m.sizeOf w).toNat).take nv.toNat).foldl (objStep m w) (ps.1,⟨w % 8,[],[]⟩)).1.length,λnv _=>(100-nv).toNat,
    ⟨⟨by omega,by omega⟩,B9,c9,none,0,none,0,K11.put0 (w % 8),g511,Fr.refl _ _,b0,Nat.le_refl _⟩,?_⟩
  rintro nv H15 ⟨hnv,B',c',wB',wC',iB',iC',P15,g515,f15,hP15,hall⟩
  refine HC.mono (obj_Size_c (vw f15).1 hwN.1) ?_
  rintro _ H16 ⟨rfl,e16⟩
  rw[hmo]
  refine⟨_,rfl,?_⟩
  have f16:=f15.trans e16.fr
  have hol:(m.tolds held g lost w (m.sizeOf w).toNat).length=(m.sizeOf w).toNat:=by simp[Mem.tolds]
  have htl2:((m.tolds held g lost w (m.sizeOf w).toNat).take nv.toNat).length=nv.toNat:=by rw[List.length_take,hol];omega
  have hfl2:=foldl_len (objStep_len m w) ((m.tolds held g lost w (m.sizeOf w).toNat).take nv.toNat) (ps.1,⟨w % 8,[],[]⟩)
  rw[htl2]at hfl2
  simp only[List.length_nil,Nat.zero_add]at hfl2
  by_cases hnl:nv<m.sizeOf w
  case neg=>
    rw[if_neg hnl]
    have hne:nv.toNat=(m.sizeOf w).toNat:=by omega
    refine⟨_,_,_,_,_,_,_,box_row (vs:=[.int .u64 (w % 8),.slice wB' nv.toNat wC',.slice iB' nv.toNat iC']) (e16.get g515),?_⟩
    have P16:=P15.ext e16
    have hkn:knotOf m held g lost ps.1 w=((m.tolds held g lost w (m.sizeOf w).toNat).take nv.toNat).foldl (objStep m w) (ps.1,⟨w % 8,[],[]⟩):=by
      unfold knotOf
      rw[List.take_of_length_le (by omega)]
    generalize ((m.tolds held g lost w (m.sizeOf w).toNat).take nv.toNat).foldl (objStep m w) (ps.1,⟨w % 8,[],[]⟩)=fs at*
    obtain⟨r1,r2,r3⟩:=hfl2
    have:=fin H16 fs.1 fs.2 B' c' wB' wC' iB' iC' P16 f16 hP15 hkn ⟨by omega,by omega⟩ hall
    rw[r1,r2,r3]at this
    exact this
  rw[if_pos hnl]
  obtain⟨-,hp16,-⟩:=(vw f16).1.inv
  refine⟨_,rfl,_,hp16.hPtr,_,rfl,_,hp16.cd.cPtr,_,rfl,_,hp16.cd.sp.memPtr,?_⟩
  have hw0:=hwN.1.1
  rw[ishr_pos 3 3 rfl (by decide),show(2:Int) ^ 3=8 by decide]
  have hadl:=had.2
  rw[w64 (n:=w / 8) (by omega),w64 (n:=w / 8+nv) (by omega)]
  refine HC.mono (seg_Read_w hp16.cd.sp.mem ok.mem (by omega)) ?_
  rintro _ H17 ⟨rfl,rfl⟩
  rw[hmm]
  refine⟨_,_,rfl,_,hp16.hPtr,?_⟩
  have hrw:IsWord (m.read (w / 8+nv)):=Mem.read_word okm _
  refine HC.mono (card_Gen_c hp16.cd hrw) ?_
  rintro _ H18 ⟨rfl,e18⟩
  rw[hmm]
  refine⟨_,_,rfl,?_⟩
  have f18:=f16.trans e18.fr
  refine⟨λs A=>A=H18/\s=decide (m.lostW held g lost w nv (m.read (w / 8+nv))),?_,?_⟩
  · have no: ∀h: ¬m.lostW held g lost w nv (m.read (w / 8+nv)),H18=H18/\false=decide (m.lostW held g lost w nv (m.read (w / 8+nv))):=λh=>⟨rfl,(zQ h).symm⟩
    by_cases c1:w % 8=2
    case neg=>rw[if_neg c1];exact no (λq=>c1 q.1)
    rw[if_pos c1]
    by_cases c2:nv=0
    case neg=>rw[if_neg c2];exact no (λq=>c2 q.2.1)
    rw[if_pos c2]
    by_cases c3:lost=true
    case neg=>rw[if_neg c3];exact no (λq=>c3 q.2.2.1)
    rw[if_pos c3]
    by_cases c4:(m.genOf (m.read (w / 8+nv))).2=true
    case neg=>rw[if_neg c4];exact no (λq=>c4 q.2.2.2.1)
    rw[if_pos c4]
    by_cases c6:(m.genOf (m.read (w / 8+nv))).1<=g
    case neg=>rw[if_neg c6];exact no (λq=>c6 q.2.2.2.2.1)
    rw[if_pos c6]
    obtain⟨es,cl,kk,hm1,he1,hk1⟩:=(hK.ext (vw f18).2).map
    refine⟨hbm,rfl,es,cl,kk,hm1,he1,?_⟩
    by_cases c7:m.read (w / 8+nv)∈held
    · refine⟨_,by rw[hk1,if_pos c7];rfl,rfl,?_⟩
      rw[zQ (λq=>q.2.2.2.2.2 c7)]
      simp;omega
    · refine⟨0,by rw[hk1,if_neg c7];rfl,rfl,?_⟩
      rw[zX ⟨c1,c2,c3,c4,c6,c7⟩];rfl
  rintro s H19 ⟨rfl,rfl⟩
  refine⟨λv A=>A=H19/\v=m.told held g lost w nv,?_,?_⟩
  · unfold Mem.told
    by_cases hlo:m.lostW held g lost w nv (m.read (w / 8+nv))
    · rw[if_pos (zX hlo),if_pos hlo];exact⟨rfl,rfl⟩
    · rw[if_neg (by simpa using hlo),if_neg hlo];exact⟨rfl,rfl⟩
  rintro v H20 ⟨rfl,rfl⟩
  have htw:=told_word okm held g lost w nv
  refine HC.mono (raw13_c (vw f18).1 hwN.1) ?_
  rintro _ H21 ⟨rfl,e21⟩
  rw[hmm]
  refine⟨_,rfl,?_⟩
  have f21:=f18.trans e21.fr
  have e1521:=(e16.trans e18).trans e21
  have hnl2:nv.toNat< (m.sizeOf w).toNat:=by omega
  have hnn:((nv.toNat:Nat):Int)=nv:=by omega
  have hfs:((m.tolds held g lost w (m.sizeOf w).toNat).take (nv+1).toNat).foldl (objStep m w) (ps.1,⟨w % 8,[],[]⟩)=objStep m w (((m.tolds held g lost w (m.sizeOf w).toNat).take nv.toNat).foldl (objStep m w) (ps.1,⟨w % 8,[],[]⟩)) (m.told held g lost w nv):=by
    rw[show(nv+1).toNat=nv.toNat+1 by omega,Mem.tolds_take m held g lost w hnl2,List.foldl_append,hnn];rfl
  have P21:=P15.ext e1521
  have g521:=e1521.get g515
  have hd:(100-(nv+1)).toNat< (100-nv).toNat:=by omega
  have hwn:IntKind.wrap .i64 (nv+1)=nv+1:=w64 (by omega)
  have hsn:(nv+1).toNat=nv.toNat+1:=by omega
  generalize hfs0:((m.tolds held g lost w (m.sizeOf w).toNat).take nv.toNat).foldl (objStep m w) (ps.1,⟨w % 8,[],[]⟩)=fs at*
  generalize m.told held g lost w nv=v at*
  obtain⟨r1,r2,r3⟩:=hfl2
  have z21:=f21.size
  have app: ∀(A:zV) (B2:zW) (c2:Nat) (all2:List Int) (u nn:Int) (k2:Kn),k2=fs.2.app u nn->PutSt m A (some ⟨b.h,0,none⟩) bw bm all2 fs.2 B2 c2 wB' wC' iB' iC'->A[c5]?=some (.cells #[.int .u64 (w % 8),.slice wB' nv.toNat wC',.slice iB' nv.toNat iC'] 104 (0,0))->Fr (c5::wkB bw bm B9) H11 A->(∀j∈putB bw bm B2 wB' iB',j∈wkB bw bm B9\/H11.size<=j)->ps.1.length<=all2.length->objStep m w fs v=(all2,k2)->
      ∃xB_3:zW,∃xN_3:Nat,∃xC_3:Nat,hat A ((Addr.mk c5 0 none).add 1)=some (.slice xB_3 xN_3 xC_3)/\
          ∀(b_8:Nat) (H34:zV),b_8=A.size->H34=A.push (.cells #[.int .u64 u] 24)->
          appendK 1 24 8 [.int .u64 0] xB_3 xN_3 xC_3 (some (Addr.mk b_8 0 none)) 1 H34 (λap_3 apC_3 H35=>
           (CanPuts H35 ((Addr.mk c5 0 none).add 1) 0 1)/\ ∀H36:zV,H36=hputs H35 ((Addr.mk c5 0 none).add 1) [.slice ap_3 (xN_3+1) apC_3] 0->
           ∃xB_4:zW,∃xN_4:Nat,∃xC_4:Nat,hat H36 ((Addr.mk c5 0 none).add 2)=some (.slice xB_4 xN_4 xC_4)/\
           ∀(b_9:Nat) (H37:zV),b_9=H36.size->H37=H36.push (.cells #[.int .i64 nn] 3)->
           appendK 1 3 8 [.int .i64 0] xB_4 xN_4 xC_4 (some (Addr.mk b_9 0 none)) 1 H37 (λap_4 apC_4 H38=>
            (CanPuts H38 ((Addr.mk c5 0 none).add 2) 0 1)/\ ∀H39:zV,H39=hputs H38 ((Addr.mk c5 0 none).add 2) [.slice ap_4 (xN_4+1) apC_4] 0->
            (((0<=IntKind.wrap .i64 (nv+1)/\IntKind.wrap .i64 (nv+1)<=m.sizeOf w)/\ ∃(B':zW) (c':Nat) (wB':zW) (wC':Nat) (iB':zW) (iC':Nat),PutSt m H39 (some ⟨b.h,0,none⟩) bw bm (((m.tolds held g lost w (m.sizeOf w).toNat).take (IntKind.wrap .i64 (nv+1)).toNat).foldl (objStep m w) (ps.1,⟨w % 8,[],[]⟩)).1 (((m.tolds held g lost w (m.sizeOf w).toNat).take (IntKind.wrap .i64 (nv+1)).toNat).foldl (objStep m w) (ps.1,⟨w % 8,[],[]⟩)).2 B' c' wB' wC' iB' iC'/\
              H39[c5]?=some (.cells #[.int .u64 (w % 8),.slice wB' (IntKind.wrap .i64 (nv+1)).toNat wC',.slice iB' (IntKind.wrap .i64 (nv+1)).toNat iC'] 104 (0,0))/\Fr (c5::wkB bw bm B9) H11 H39/\(∀j∈putB bw bm B' wB' iB',j∈wkB bw bm B9\/H11.size<=j)/\ps.1.length<=(((m.tolds held g lost w (m.sizeOf w).toNat).take (IntKind.wrap .i64 (nv+1)).toNat).foldl (objStep m w) (ps.1,⟨w % 8,[],[]⟩)).1.length)/\(100-IntKind.wrap .i64 (nv+1)).toNat< (100-nv).toNat))):=by
    intro A B2 c2 all2 u nn k2 hk2 PA gA fA hPA hal2 hob
    rw[hwn,hfs,hob]
    refine PA.app (nn:=nn) (c5P hPA) (by rw[r1,r2,r3];exact gA) (by omega) (by omega) ?_
    intro H39 wB2 wC2 iB2 iC2 P39 g539 f39 hb39
    have zA:=fA.size
    have f39':Fr (c5::wkB bw bm B9) H11 H39:=fA.trans' f39 (λj hj _=>hj) (λj hj hl=>by
      rcases List.mem_cons.1 hj with q | q
      · simp[q]
      · rcases hPA j (mem_putB.2 (.inr (by simpa using q)))with r | r
        · exact List.mem_cons_of_mem _ r
        · omega)
    refine⟨⟨⟨by omega,by omega⟩,B2,c2,wB2,wC2,iB2,iC2,by rw[hk2];exact P39,by rw[hsn];rw[r1,r2,r3]at g539;exact g539,f39',λj hj=>?_,hal2⟩,hd⟩
    rcases hb39 j hj with r | r
    · exact hPA j r
    · exact .inr (by omega)
  by_cases hrw2:m.rawT w
  · rw[if_pos (zX hrw2)]
    exact app H21 B' c' fs.1 v 0 _ rfl P21 g521 f21 hP15 hall (by unfold objStep;rw[if_pos hrw2])
  rw[if_neg (by simpa using hrw2)]
  have hob:objStep m w fs v=(ofW m fs.1 v,fs.2.add (numW m fs.1 v) v):=by unfold objStep;rw[if_neg hrw2];rfl
  have hpc:=walk_of_c (w:=v) (o:=some (b,x)) (vw f21).1 (by rw[hmo];exact P21.wk) htw
  rw[hmo]at hpc
  refine HC.mono hpc ?_
  rintro _ H28 ⟨rfl,B2,c2,K28,f28,hB28⟩
  refine⟨_,rfl,?_⟩
  have hwk28: ∀j∈wkB bw bm B2,j∈wkB bw bm B'\/H21.size<=j:=λj hj=>by
    simp only[wkB,List.mem_cons]at hj⊢
    rcases hj with q | q | q
    · exact .inl (.inl q)
    · exact .inl (.inr (.inl q))
    · rcases hB28 j q with r | r
      · exact .inl (.inr (.inr r))
      · exact .inr r
  have P21lt:=P21.lt
  have P28:PutSt m H28 (some ⟨b.h,0,none⟩) bw bm (ofW m fs.1 v) fs.2 B2 c2 wB' wC' iB' iC':=by
    refine⟨K28,P21.ow.keep f28 (λj hj q=>(P21.djw j hj).1 q),P21.oi.keep f28 (λj hj q=>P21.dji j hj q),λj hj=>⟨λq=>?_,(P21.djw j hj).2⟩,λj hj q=>?_⟩
    · rcases hwk28 j q with r | r
      · exact(P21.djw j hj).1 r
      · have:=P21lt j (mem_putB.2 (.inr (.inl hj)));omega
    · rcases hwk28 j q with r | r
      · exact P21.dji j hj r
      · have:=P21lt j (mem_putB.2 (.inr (.inr hj)));omega
  have hPw: ∀j∈wkB bw bm B',j∈wkB bw bm B9\/H11.size<=j:=λj hj=>hP15 j (mem_putB.2 (.inl hj))
  have f28':Fr (c5::wkB bw bm B9) H11 H28:=f21.trans' f28 (λj hj _=>hj) (λj hj hl=>by
    rcases hPw j hj with r | r
    · exact List.mem_cons_of_mem _ r
    · omega)
  have hP28: ∀j∈putB bw bm B2 wB' iB',j∈wkB bw bm B9\/H11.size<=j:=λj hj=>by
    rcases mem_putB.1 hj with q | q
    · rcases hwk28 j q with r | r
      · exact hPw j r
      · exact .inr (by omega)
    · exact hP15 j (mem_putB.2 (.inr q))
  have g528:=f28.get (λq=>c5P hP15 (mem_putB.2 (.inl q))) g521
  have hal2:=Nat.le_trans hall (ofw_len fs.1 v)
  by_cases hnum:numW m fs.1 v>0
  · rw[if_pos hnum]
    exact app H28 B2 c2 _ 0 _ _ (by unfold Kn.add Kn.app;rw[if_pos hnum]) P28 g528 f28' hP28 hal2 hob
  · rw[if_neg hnum]
    exact app H28 B2 c2 _ v _ _ (by unfold Kn.add Kn.app;rw[if_neg hnum]) P28 g528 f28' hP28 hal2 hob
