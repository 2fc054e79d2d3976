/-
  Pictures (package morainelaw11): what they are, and that they are laid. Proves nothing of any one statement.
-/
import Derived.Test.YtdoghjgbhefphaaGreatWkA
import Derived.Test.YtdoghjgbhefphaaGreatLx
set_option linter.unusedVariables false
set_option linter.unusedSimpArgs false
namespace Go.Proofs.YtdoghjgbhefphaaGreat
open Go

def Mem.rawT(m:Mem)(w:Int):Prop:=m.typ w=2\/m.typ w=3
instance (m:Mem) (w:Int):Decidable (m.rawT w):=by unfold Mem.rawT;infer_instance
def Mem.halfW(m:Mem)(w i:Int):Int:=if m.halfE w i=0 then m.get (w / 8+i)else 0
def Mem.fieldW(m:Mem)(w i:Int):Int:=if m.fieldE w (m.typ w) i=0 then m.get (w / 8+1+i)else 0
def Mem.objs(m:Mem)(w:Int)(n:Nat):List Int:=(List.range n).map λi:Nat=>m.fieldW w i
def Kn.raw(k:Kn)(v:Int):Kn:=⟨k.kind,k.ws++[v],k.is++[0]⟩
def objStep(m:Mem)(w:Int)(st:List Int×Kn)(v:Int):List Int×Kn:=if m.rawT w then(st.1,st.2.raw v)else putP m st v
def knotOf(m:Mem)(all:List Int)(w:Int):List Int×Kn:=
  if m.isPair w/\w % 8=2 then putP m (all,⟨1,[],[]⟩) (m.halfW w 1)
  else if m.isPair w then putP m (putP m (all,⟨0,[],[]⟩) (m.halfW w 0)) (m.halfW w 1)
  else(m.objs w (m.len w).toNat).foldl (objStep m w) (all,⟨m.typ w+1,[],[]⟩)
def picStep(m:Mem)(st:List Int×List Kn):List Int×List Kn:=
  match st.1[st.2.length-1]? with
  | some w=>((knotOf m st.1 w).1,st.2++[(knotOf m st.1 w).2])
  | none=>st
def picN(m:Mem)(st:List Int×List Kn):Nat->List Int×List Kn
  | 0=>st
  | n+1=>picStep m (picN m st n)
def pic0(m:Mem)(roots:List Int):List Int×List Kn:=((roots.foldl (putP m) ([],⟨-1,[],[]⟩)).1,[(roots.foldl (putP m) ([],⟨-1,[],[]⟩)).2])
def IsPic(m:Mem)(roots:List Int)(ks:List Kn):Prop:= ∃n,(picN m (pic0 m roots) n).2=ks/\ks.length=(picN m (pic0 m roots) n).1.length+1

structure KV where
  kind:Int
  wB:Option Addr
  wN:Nat
  wC:Nat
  iB:Option Addr
  iN:Nat
  iC:Nat
def KV.cells(k:KV):List Value:=[.int .i64 k.kind,.slice k.wB k.wN k.wC,.slice k.iB k.iN k.iC]
structure KnAt (H:Array Obj) (rb:List Nat) (v:KV) (k:Kn):Prop where
  kind:v.kind=k.kind
  wN:v.wN=k.ws.length
  iN:v.iN=k.is.length
  w:SrcAt H v.wB (wvs k.ws)
  i:SrcAt H v.iB (ivs k.is)
  wb: ∀j∈blks v.wB,j∈rb
  ib: ∀j∈blks v.iB,j∈rb
  len:k.ws.length=k.is.length/\k.ws.length<=1000000
structure KnRow (H:Array Obj) (B:Option Addr) (n c:Nat) (ks:List Kn) (rb:List Nat):Prop where
  row: ∃kvs:List KV,kvs.length=ks.length/\Own H 182 3 B n c (kvs.flatMap KV.cells)/\ ∀(i:Nat) (h:i<kvs.length) (h':i<ks.length),KnAt H rb kvs[i] ks[i]
  n:n=ks.length
  lt: ∀j∈rb,j<H.size
theorem SrcAt.fr{S:List Nat}{H H':Array Obj}{p:Option Addr}{xs:List Value}(h:SrcAt H p xs)(f:Fr S H H')(hd: ∀i∈blks p,i ∉ S):SrcAt H' p xs:=by
  cases p with
  | none=>exact h
  | some a=>exact f.rowAt (hd _ (by simp)) h
theorem KnAt.keep{S:List Nat}{H H':Array Obj}{rb rb':List Nat}{v:KV}{k:Kn}(h:KnAt H rb v k)(f:Fr S H H')(hS: ∀i∈S,i ∉ rb)(hrb: ∀j∈rb,j∈rb'):KnAt H' rb' v k:=
  ⟨h.kind,h.wN,h.iN,h.w.fr f (λj hj hs=>hS j hs (h.wb j hj)),h.i.fr f (λj hj hs=>hS j hs (h.ib j hj)),λj hj=>hrb j (h.wb j hj),λj hj=>hrb j (h.ib j hj),h.len⟩
theorem KnRow.keep{S:List Nat}{H H':Array Obj}{B:Option Addr}{n c:Nat}{ks:List Kn}{rb:List Nat}(h:KnRow H B n c ks rb)(f:Fr S H H')(hS: ∀i∈S,i ∉ rb/\i ∉ blks B):KnRow H' B n c ks rb:=by
  obtain⟨kvs,h1,h2,h3⟩:=h.row
  exact⟨⟨kvs,h1,h2.keep f (λj hj hs=>(hS j hs).2 hj),λi a b=>(h3 i a b).keep f (λj hj=>(hS j hj).1) (λ_ q=>q)⟩,h.n,λj hj=>Nat.lt_of_lt_of_le (h.lt j hj) f.size⟩
theorem KnRow.ext{H H':Array Obj}{B:Option Addr}{n c:Nat}{ks:List Kn}{rb:List Nat}(h:KnRow H B n c ks rb)(e:Ext H H'):KnRow H' B n c ks rb:=h.keep (S:=[]) e.fr (by simp)
theorem KV.cells_len(k:KV):k.cells.length=3:=rfl
theorem KnRow.snoc{H:Array Obj}{B:Option Addr}{n c:Nat}{ks:List Kn}{rb:List Nat}(h:KnRow H B n c ks rb)(v:KV)(k:Kn)(hk:KnAt H (blks v.wB++blks v.iB) v k)(hlt: ∀j∈blks v.wB++blks v.iB,j<H.size)(hd: ∀j∈blks B,j ∉ rb/\j ∉ blks v.wB++blks v.iB)(hn:n<=1000000){c2:Nat}{H2:Array Obj}(hc2:c2=H.size)(hH2:H2=H.push (.cells #[.int .i64 v.kind,.slice v.wB v.wN v.wC,.slice v.iB v.iN v.iC] 182))
    {K:Option Addr->Nat->Array Obj->Prop} (hK: ∀B' c' H',KnRow H' B' (n+1) c' (ks++[k]) (rb++(blks v.wB++blks v.iB))->Fr (blks B) H H'->(∀j∈blks B',j∈blks B\/H.size<=j)->K B' c' H'):
    appendK 3 182 56 [.int .i64 0,.slice none 0 0,.slice none 0 0] B n c (some (Addr.mk c2 0 none)) 1 H2 K:=by
  obtain⟨kvs,h1,h2,h3⟩:=h.row
  have e2:Ext H H2:=Ext.push' hH2
  refine own_append (ys:=v.cells) (h2.ext e2) (rowAt_blk (push_get hc2 hH2) _ 0 0 (λj hj=>by
    rw[KV.cells_len]at hj
    rcases(show j=0\/j=1\/j=2 by omega)with rfl | rfl | rfl<;>rfl)) rfl rfl rfl (by omega) ?_
  intro p' c' H' how f hn'
  have f':Fr (blks B) H H':=e2.fr.trans f
  refine hK p' c' H' ⟨⟨kvs++[v],by simp[h1],by simpa[List.flatMap_append]using how,λi a b=>?_⟩,by rw[List.length_append,<-h.n];rfl,λj hj=>?_⟩ f' (λj hj=>?_)
  · by_cases hi:i<kvs.length
    · rw[List.getElem_append_left hi,List.getElem_append_left (by omega)]
      exact(h3 i hi (by omega)).keep f' (λj hj=>(hd j hj).1) (λj hj=>List.mem_append_left _ hj)
    · have hie:i=kvs.length:=by simp at a;omega
      subst hie
      have e1:(kvs++[v])[kvs.length]'a=v:=by simp
      have e3:(ks++[k])[kvs.length]'b=k:=by simp[h1]
      rw[e1,e3]
      exact hk.keep f' (λj hj=>(hd j hj).2) (λj hj=>List.mem_append_right _ hj)
  · rcases List.mem_append.1 hj with q | q
    · exact Nat.lt_of_lt_of_le (h.lt j q) f'.size
    · exact Nat.lt_of_lt_of_le (hlt j q) f'.size
  · rcases hn' j hj with q | q
    · exact .inl q
    · have:=e2.size;exact .inr (by omega)
theorem PutSt.knAt{m:Mem}{H:Array Obj}{hv:Option Addr}{bw bm c wC iC:Nat}{B wB iB:Option Addr}{all:List Int}{k:Kn}(h:PutSt m H hv bw bm all k B c wB wC iB iC)(hl:k.ws.length=k.is.length/\k.ws.length<=1000000):KnAt H (blks wB++blks iB) ⟨k.kind,wB,k.ws.length,wC,iB,k.is.length,iC⟩ k:=
  ⟨rfl,rfl,rfl,h.ow.src,h.oi.src,λj hj=>List.mem_append_left _ hj,λj hj=>List.mem_append_right _ hj,hl⟩
theorem putP_len(m:Mem)(st:List Int×Kn)(v:Int):(putP m st v).2.ws.length=st.2.ws.length+1/\(putP m st v).2.is.length=st.2.is.length+1/\(putP m st v).2.kind=st.2.kind:=⟨by simp[putP,Kn.add],by simp[putP,Kn.add],rfl⟩
theorem WkAt.put0{m:Mem}{H:Array Obj}{hv:Option Addr}{bw bm c:Nat}{B:Option Addr}{all:List Int}(h:WkAt m H hv bw bm B c all)(kind:Int):PutSt m H hv bw bm all ⟨kind,[],[]⟩ B c none 0 none 0:=
  ⟨h,own_nil,own_nil,λj hj=>by simp at hj,λj hj=>by simp at hj⟩
theorem pair_size{m:Mem}{w:Int}(h:m.isPair w):m.sizeOf w≠0:=by unfold Mem.sizeOf;rw[if_pos h];decide

theorem objStep_len(m:Mem)(w:Int)(st:List Int×Kn)(v:Int):(objStep m w st v).2.ws.length=st.2.ws.length+1/\(objStep m w st v).2.is.length=st.2.is.length+1/\(objStep m w st v).2.kind=st.2.kind:=by
  unfold objStep
  split
  · exact⟨by simp[Kn.raw],by simp[Kn.raw],rfl⟩
  · exact putP_len m st v
theorem foldl_len{f:List Int×Kn->Int->List Int×Kn}(hf: ∀st v,(f st v).2.ws.length=st.2.ws.length+1/\(f st v).2.is.length=st.2.is.length+1/\(f st v).2.kind=st.2.kind): ∀(l:List Int) (st:List Int×Kn),(l.foldl f st).2.ws.length=st.2.ws.length+l.length/\(l.foldl f st).2.is.length=st.2.is.length+l.length/\(l.foldl f st).2.kind=st.2.kind
  | [],st=>⟨rfl,rfl,rfl⟩
  | v::l,st=>by
    obtain⟨h1,h2,h3⟩:=foldl_len hf l (f st v)
    obtain⟨q1,q2,q3⟩:=hf st v
    exact⟨by show(l.foldl f (f st v)).2.ws.length=_;rw[h1,q1];simp;omega,by show(l.foldl f (f st v)).2.is.length=_;rw[h2,q2];simp;omega,h3.trans q3⟩
theorem Mem.typ_rng(m:Mem)(w:Int):0<=m.typ w/\m.typ w<32:=by unfold Mem.typ hk;split<;>omega
theorem Mem.len_rng(m:Mem)(w:Int):0<=m.len w/\m.len w<=62:=by
  unfold Mem.len
  split
  · rename_i h;exact h.len_lt
  · omega
theorem Mem.objs_take(m:Mem)(w:Int){n i:Nat}(h:i<n):(m.objs w n).take (i+1)=(m.objs w n).take i++[m.fieldW w i]:=by
  unfold Mem.objs
  rw[List.take_succ_eq_append_getElem (by simpa using h)];simp
theorem half_word{m:Mem}(ok:MemOK m)(w i:Int):IsWord (m.halfW w i):=by
  unfold Mem.halfW
  split
  · exact(ok.seg _).words _
  · decide
theorem field_word{m:Mem}(ok:MemOK m)(w i:Int):IsWord (m.fieldW w i):=by
  unfold Mem.fieldW
  split
  · exact(ok.seg _).words _
  · decide
theorem PutSt.raw{m:Mem}{H:Array Obj}{hv:Option Addr}{bw bm c wC iC:Nat}{B wB iB:Option Addr}{all:List Int}{k:Kn}(P:PutSt m H hv bw bm all k B c wB wC iB iC){v:Int}{c5:Nat}(hc5:c5 ∉ putB bw bm B wB iB)(g5:H[c5]?=some (.cells #[.int .i64 k.kind,.slice wB k.ws.length wC,.slice iB k.is.length iC] 182 (0,0)))(hl:k.ws.length<=1000000)(hli:k.is.length<=1000000){Q:Array Obj->Prop}
    (hQ: ∀(H':Array Obj) (wB':Option Addr) (wC':Nat) (iB':Option Addr) (iC':Nat),PutSt m H' hv bw bm all (k.raw v) B c wB' wC' iB' iC'->H'[c5]?=some (.cells #[.int .i64 k.kind,.slice wB' (k.ws.length+1) wC',.slice iB' (k.is.length+1) iC'] 182 (0,0))->Fr (c5::(blks wB++blks iB)) H H'->(∀j∈putB bw bm B wB' iB',j∈putB bw bm B wB iB\/H.size<=j)->Q H'):
    ∃ xB_3 : Option Addr, ∃ xN_3 : Nat, ∃ xC_3 : Nat, hat H ((Addr.mk c5 0 none).add 1) = some (.slice xB_3 xN_3 xC_3) ∧
          ∀(b_8:Nat) (H34:Array Obj),b_8=H.size->H34=H.push (.cells #[.int .u64 v] 36)->
          appendK 1 36 8 [.int .u64 0] xB_3 xN_3 xC_3 (some (Addr.mk b_8 0 none)) 1 H34 (λap_3 apC_3 H35=>
           (CanPuts H35 ((Addr.mk c5 0 none).add 1) 0 1)/\ ∀H36:Array Obj,H36=hputs H35 ((Addr.mk c5 0 none).add 1) [.slice ap_3 (xN_3+1) apC_3] 0->
           ∃xB_4:Option Addr,∃xN_4:Nat,∃xC_4:Nat,hat H36 ((Addr.mk c5 0 none).add 2)=some (.slice xB_4 xN_4 xC_4)/\
           ∀(b_9:Nat) (H37:Array Obj),b_9=H36.size->H37=H36.push (.cells #[.int .i64 0] 3)->
           appendK 1 3 8 [.int .i64 0] xB_4 xN_4 xC_4 (some (Addr.mk b_9 0 none)) 1 H37 (λap_4 apC_4 H38=>
            (CanPuts H38 ((Addr.mk c5 0 none).add 2) 0 1)/\ ∀H39:Array Obj,H39=hputs H38 ((Addr.mk c5 0 none).add 2) [.slice ap_4 (xN_4+1) apC_4] 0->Q H39)):=by
  have hlt:=P.lt
  have c5lt:=lt_size g5
  have c5w:c5 ∉ blks wB:=λq=>hc5 (mem_putB.2 (.inr (.inl q)))
  have c5i:c5 ∉ blks iB:=λq=>hc5 (mem_putB.2 (.inr (.inr q)))
  have c5k:c5 ∉ wkB bw bm B:=λq=>hc5 (mem_putB.2 (.inl q))
  refine⟨_,_,_,by rw[box_get g5];rfl,?_⟩
  intro c8 H8 hc8 hH8
  have e8:Ext H H8:=Ext.push' hH8
  have z8:=e8.size
  refine own_append (ys:=wvs [v]) (P.ow.ext e8) (rowAt_blk (push_get hc8 hH8) _ 0 0 (λj hj=>by
    simp only[wvs,List.map_cons,List.map_nil,List.length_cons,List.length_nil]at hj
    obtain rfl:j=0:=by omega
    rfl)) rfl (allOne_wvs _) rfl (by omega) ?_
  intro wB' wC' H3 ow3 f3 hn3
  have g3:=f3.get c5w (e8.get g5)
  obtain⟨hcp,hs⟩:=box_put g3 1 (.slice wB' (k.ws.length+1) wC') (by simp)
  refine⟨hcp,λH4 hH4=>?_⟩
  obtain⟨g4,f4⟩:=hs H4 hH4
  have hwB': ∀j∈blks wB',j∈blks wB\/H.size<=j:=λj hj=>by
    rcases hn3 j hj with q | q
    · exact .inl q
    · exact .inr (by omega)
  have z3:=f3.size
  have z4:=f4.size
  have iw: ∀j∈blks iB,j ∉ blks wB:=λj hj q=>(P.djw j q).2 hj
  have oi4:=((P.oi.ext e8).keep f3 (λj hj q=>iw j hj q)).keep f4 (λj hj q=>by simp at q;exact c5i (q▸hj))
  refine⟨_,_,_,by rw[box_get g4];rfl,?_⟩
  intro c9 H9 hc9 hH9
  have e9:Ext H4 H9:=Ext.push' hH9
  have z9:=e9.size
  refine own_append (ys:=ivs [0]) (oi4.ext e9) (rowAt_blk (push_get hc9 hH9) _ 0 0 (λj hj=>by
    simp only[ivs,List.map_cons,List.map_nil,List.length_cons,List.length_nil]at hj
    obtain rfl:j=0:=by omega
    rfl)) rfl (allOne_ivs _) rfl (by omega) ?_
  intro iB' iC' H5 oi5 f5 hn5
  have g5':=f5.get c5i (e9.get g4)
  obtain⟨hcp6,hs6⟩:=box_put g5' 2 (.slice iB' (k.is.length+1) iC') (by simp)
  refine⟨hcp6,λH6 hH6=>?_⟩
  obtain⟨g6,f6⟩:=hs6 H6 hH6
  have hiB': ∀j∈blks iB',j∈blks iB\/H4.size<=j:=λj hj=>by
    rcases hn5 j hj with q | q
    · exact .inl q
    · exact .inr (by omega)
  have hPw: ∀j∈wkB bw bm B,j<H.size:=λj hj=>hlt j (mem_putB.2 (.inl hj))
  have hwlt: ∀j∈blks wB,j<H.size:=λj hj=>hlt j (mem_putB.2 (.inr (.inl hj)))
  have hilt: ∀j∈blks iB,j<H.size:=λj hj=>hlt j (mem_putB.2 (.inr (.inr hj)))
  have wn: ∀j∈blks wB',j≠c5/\j ∉ blks iB/\j ∉ wkB bw bm B/\j<H4.size:=λj hj=>by
    have hl4:=ow3.lt j hj
    rcases hwB' j hj with q | q
    · exact⟨λe=>c5w (e▸q),(P.djw j q).2,(P.djw j q).1,by omega⟩
    · exact⟨by omega,λr=>by have:=hilt j r;omega,λr=>by have:=hPw j r;omega,by omega⟩
  have inn: ∀j∈blks iB',j≠c5/\j ∉ wkB bw bm B:=λj hj=>by
    rcases hiB' j hj with q | q
    · exact⟨λe=>c5i (e▸q),P.dji j q⟩
    · exact⟨by omega,λr=>by have:=hPw j r;omega⟩
  have K6:=((((P.wk.ext e8).keep f3 (λj hj q=>(P.djw j hj).1 q)).keep f4 (λj hj q=>by simp at hj;exact c5k (hj▸q))).ext e9).keep f5 (λj hj q=>P.dji j hj q) |>.keep f6 (λj hj q=>by simp at hj;exact c5k (hj▸q))
  have ow6:=(((ow3.keep f4 (λj hj q=>by simp at q;exact(wn j hj).1 q)).ext e9).keep f5 (λj hj q=>(wn j hj).2.1 q)).keep f6 (λj hj q=>by simp at q;exact(wn j hj).1 q)
  have oi6:=oi5.keep f6 (λj hj q=>by simp at q;exact(inn j hj).1 q)
  refine hQ H6 wB' wC' iB' iC' ⟨K6,?_,?_,λj hj=>⟨(wn j hj).2.2.1,λq=>?_⟩,λj hj=>(inn j hj).2⟩ g6 ?_ (λj hj=>?_)
  · show Own H6 _ 1 wB' (k.ws++[v]).length wC' (wvs (k.ws++[v]))
    rw[List.length_append]
    simpa[wvs]using ow6
  · show Own H6 _ 1 iB' (k.is++[0]).length iC' (ivs (k.is++[0]))
    rw[List.length_append]
    simpa[ivs]using oi6
  · rcases hiB' j q with r | r
    · exact(wn j hj).2.1 r
    · have:=(wn j hj).2.2.2;omega
  · refine(((e8.fr.trans (f3.mono (λj hj _=>by simp[hj]))).trans (f4.mono (λj hj _=>by simp at hj;simp[hj]))).trans e9.fr).trans ((f5.mono (λj hj _=>by simp[hj])).trans (f6.mono (λj hj _=>by simp at hj;simp[hj])))
  · rcases mem_putB.1 hj with q | q | q
    · exact .inl (mem_putB.2 (.inl q))
    · rcases hwB' j q with r | r
      · exact .inl (mem_putB.2 (.inr (.inl r)))
      · exact .inr r
    · rcases hiB' j q with r | r
      · exact .inl (mem_putB.2 (.inr (.inr r)))
      · exact .inr (by omega)
end Go.Proofs.YtdoghjgbhefphaaGreat
