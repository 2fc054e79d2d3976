/-
 morainelaw17.drawn: things on the heap and their picture are drawn side by side. Proves nothing of any one statement.
-/
import Derived.Test.YtibpklpgmgakcaaGreatDoorTellsE
import Derived.Test.YtibpklpgmgakcaaGreatDoorItem17
import Derived.Test.YtibpklpgmgakcaaGreatDoorLx
set_option linter.unusedVariables false
set_option linter.unusedSimpArgs false
set_option maxHeartbeats 1000000
namespace Go.Proofs.YtibpklpgmgakcaaGreatDoor
open Go

structure TvAt (P:Nat->Prop) (H:Array Obj) (t:TV) (th:Dt×List Int):Prop where
 dat:DatAt P H t.d th.1
 len:t.lN=th.2.length
 src:SrcAt H t.lB (ivs th.2)
 blk: ∀j∈blks t.lB,P j
theorem TvAt.keep{P Q:Nat->Prop}{S:List Nat}{H H':Array Obj}{t:TV}{th:Dt×List Int}(h:TvAt P H t th)(f:Fr S H H')(hS: ∀i∈S,¬P i)(hQ: ∀i,P i->Q i):TvAt Q H' t th:=
 ⟨h.dat.keep f hS hQ,h.len,SrcAt.stay h.src f (λj hj hs=>hS j hs (h.blk j hj)),λj hj=>hQ j (h.blk j hj)⟩
structure Tg (lo:Nat) (X:List Nat) (H:Array Obj) (tB:Option Addr) (tC n:Nat) (ts:List TV) (ths:List (Dt×List Int)):Prop where
 own:Own H 70 7 tB n tC (ts.flatMap TV.cells)
 tlen:ts.length=n
 hlen:ths.length=n
 blk: ∀i∈blks tB,lo<=i/\i ∉ X
 each: ∀(i:Nat) (h1:i<ts.length) (h2:i<ths.length),TvAt (λj=>((lo<=j/\j<H.size)/\j ∉ X)/\j ∉ blks tB) H ts[i] ths[i]
theorem Tg.keep{lo:Nat}{S X X':List Nat}{H H':Array Obj}{tB:Option Addr}{tC n:Nat}{ts:List TV}{ths:List (Dt×List Int)}(h:Tg lo X H tB tC n ts ths)(f:Fr S H H')(hS: ∀i∈S,i<lo\/H.size<=i\/i∈X)(hX: ∀i∈X',i∈X\/H.size<=i):Tg lo X' H' tB tC n ts ths:=by
 have hs:=f.size
 refine⟨h.own.keep f (λb hb hs=>?_),h.tlen,h.hlen,λi hi=>⟨(h.blk i hi).1,λhx=>?_⟩,λi h1 h2=>(h.each i h1 h2).keep f (λj hj hp=>?_) (λj hp=>⟨⟨⟨hp.1.1.1,by have:=hp.1.1.2;omega⟩,λhx=>?_⟩,hp.2⟩)⟩
 ·have h1:=h.blk b hb
  have h2:=h.own.lt b hb
  rcases hS b hs with h3 | h3 | h3
  ·omega
  ·omega
  ·exact h1.2 h3
 ·rcases hX i hx with h1 | h1
  ·exact(h.blk i hi).2 h1
  ·have:=h.own.lt i hi;omega
 ·rcases hS j hj with h3 | h3 | h3
  ·have:=hp.1.1.1;omega
  ·have:=hp.1.1.2;omega
  ·exact hp.1.2 h3
 ·rcases hX j hx with h1 | h1
  ·exact hp.1.2 h1
  ·have:=hp.1.1.2;omega
theorem Tg.push{lo:Nat}{X:List Nat}{H H2:Array Obj}{tB p:Option Addr}{tC c' n:Nat}{ts:List TV}{ths:List (Dt×List Int)}{t:TV}{th:Dt×List Int}(h:Tg lo X H tB tC n ts ths)(f:Fr (blks tB) H H2)(o:Own H2 70 7 p (n+1) c' (ts.flatMap TV.cells++t.cells))
  (hnew: ∀i∈blks p,i∈blks tB\/H.size<=i) (hlo:lo<=H.size) (hX: ∀i∈X,i<H.size) (T:TvAt (λj=>((lo<=j/\j<H.size)/\j ∉ X)/\j ∉ blks tB) H t th):Tg lo X H2 p c' (n+1) (ts++[t]) (ths++[th]):=by
 have hs:=f.size
 have mv: ∀{u:TV} {v:Dt×List Int},TvAt (λj=>((lo<=j/\j<H.size)/\j ∉ X)/\j ∉ blks tB) H u v->TvAt (λj=>((lo<=j/\j<H2.size)/\j ∉ X)/\j ∉ blks p) H2 u v:=λh=>h.keep f (λi hi hp=>hp.2 hi) (λi hp=>⟨⟨⟨hp.1.1.1,by have:=hp.1.1.2;omega⟩,hp.1.2⟩,λhi=>by
  rcases hnew i hi with h' | h'
  ·exact hp.2 h'
  ·have:=hp.1.1.2;omega⟩)
 refine⟨by simpa using o,by simp[h.tlen],by simp[h.hlen],λi hi=>?_,λi h1 h2=>?_⟩
 ·rcases hnew i hi with h' | h'
  ·exact h.blk i h'
  ·exact⟨by omega,λhx=>by have:=hX i hx;omega⟩
 ·by_cases hi:i<ts.length
  ·rw[List.getElem_append_left hi,List.getElem_append_left (by rw[h.hlen,<-h.tlen];exact hi)]
   exact mv (h.each i hi (by rw[h.hlen,<-h.tlen];exact hi))
  ·have hit:i=ts.length:=by simp at h1;omega
   have hih:i=ths.length:=by rw[hit,h.tlen,h.hlen]
   have e1:(ts++[t])[i]=t:=by simp[hit]
   have e2:(ths++[th])[i]=th:=by simp[hih]
   rw[e1,e2];exact mv T
theorem flat_set{v:Value}{t':TV}: ∀(l:List TV) (k:Nat) (hk:k<l.length),t'.cells=l[k].cells.take 6++[v]->(l.flatMap TV.cells).take (k*7+6)++[v]++(l.flatMap TV.cells).drop (k*7+6+1)=(l.set k t').flatMap TV.cells
 | [],k,hk,_=>by simp at hk
 | a::l,0,_,h=>by
  simp only[List.getElem_cons_zero]at h
  rw[List.set_cons_zero,List.flatMap_cons,List.flatMap_cons,h]
  rfl
 | a::l,k+1,hk,h=>by
  have ih:=flat_set l k (by simpa using hk) (by simpa using h)
  rw[List.set_cons_succ,List.flatMap_cons,List.flatMap_cons,<-ih]
  have hl:a.cells.length=7:=rfl
  rw[show(k+1)*7+6=a.cells.length+(k*7+6)by rw[hl];omega,List.take_length_add_append,Nat.add_assoc a.cells.length,List.drop_length_add_append]
  simp only[List.append_assoc]
theorem Tg.setL{lo:Nat}{X:List Nat}{H:Array Obj}{tA:Addr}{tC n k:Nat}{ts:List TV}{ths:List (Dt×List Int)}{lB:Option Addr}{lN lC:Nat}{l:List Int}(h:Tg lo X H (some tA) tC n ts ths)(hk:k<n)(hl:lN=l.length)(hs:SrcAt H lB (ivs l))(hb: ∀j∈blks lB,((lo<=j/\j<H.size)/\j ∉ X)/\j ∉ blks (some tA)):
  CanPuts H ((tA.add (k*7)).add 6) 0 1/\ ∀H',H'=hputs H ((tA.add (k*7)).add 6) [.slice lB lN lC] 0->Tg lo X H' (some tA) tC n (ts.set k {ts[k]'(by rw[h.tlen];exact hk)with lB:=lB,lN:=lN,lC:=lC}) (ths.set k ((ths[k]'(by rw[h.hlen];exact hk)).1,l))/\Fr [tA.block] H H':=by
 rw[addr_add2]
 obtain⟨h1,h2⟩:=h.own.puts (o:=k*7+6) (vs:=[.slice lB lN lC]) (by simp;omega)
 refine⟨h1,λH' hH'=>?_⟩
 obtain⟨o,f⟩:=h2 H' hH'
 have hsz:=f.size
 refine⟨⟨?_,by rw[List.length_set];exact h.tlen,by rw[List.length_set];exact h.hlen,h.blk,λi h1 h2=>?_⟩,f⟩
 ·rw[<-flat_set ts k (by rw[h.tlen];exact hk) (v:=.slice lB lN lC) rfl];exact o
 ·have hq: ∀i,((lo<=i/\i<H.size)/\i ∉ X)/\i ∉ blks (some tA)->((lo<=i/\i<H'.size)/\i ∉ X)/\i ∉ blks (some tA):=λi hp=>⟨⟨⟨hp.1.1.1,by have:=hp.1.1.2;omega⟩,hp.1.2⟩,hp.2⟩
  rw[List.getElem_set,List.getElem_set]
  by_cases hik:k=i
  ·rw[if_pos hik,if_pos hik]
   have e:=h.each k (by rw[h.tlen];exact hk) (by rw[h.hlen];exact hk)
   exact TvAt.keep ⟨e.dat,hl,hs,hb⟩ f (λj hj hp=>hp.2 (by simpa using hj)) hq
  ·rw[if_neg hik,if_neg hik]
   exact(h.each i (by simpa using h1) (by simpa using h2)).keep f (λj hj hp=>hp.2 (by simpa using hj)) hq
theorem at17_c{H:Array Obj}{x n:Int}(hn:1<=n/\n<=1000000):morainelaw17_at.C x n H (λv H'=> ∃r:Int,v=.int .i64 r/\(0<=r/\r<n)/\H=H'):=by
 refine HC.via λR hR=>morainelaw17_at.link ?_
 unfold morainelaw17_at.pt
 refine⟨by omega,by omega,hR _ _ ⟨_,rfl,?_,rfl⟩⟩
 have h1: -n<Int.tmod x n/\Int.tmod x n<n:=by
  have h2:=Int.tmod_lt_of_pos x (b:=n) (by omega)
  have h3:=Int.tmod_lt_of_pos (-x) (b:=n) (by omega)
  rw[Int.neg_tmod]at h3
  omega
 rw[w64 (by omega),Int.tmod_eq_emod_of_nonneg (by omega)]
 exact⟨Int.emod_nonneg _ (by omega),Int.emod_lt_of_pos _ (by omega)⟩
theorem live_SetCdr{H0 H:Array Obj}{k:Blk}{x:Hp}{v tag a b e:Int}(L:Live H0 H k x)(hv:Pr x.sp.mem v tag a b)(he:IsWord e):
  obj_Heap_SetCdr.C (some ⟨k.h,0,none⟩) v e H (λu H'=>u=.int .i64 0/\Live H0 H' k (x.setMem (x.sp.mem.store (v / 8+1) e).1)/\Fr k.all H H'):=by
 refine HC.mono (obj_SetCdr_c L.view hv.word he) ?_
 rintro _ H1 ⟨rfl,V,f⟩
 have hE:hsetE (some (k,x)) v 1 e=0:=by
  unfold hsetE;rw[show mof (some (k,x))=x.sp.mem from rfl,if_pos hv.isPair,Mem.store_0 L.ok.mem hv.used he]
 have hO:hsetO (some (k,x)) v 1 e=some (k,x.setMem (x.sp.mem.store (v / 8+1) e).1):=by
  unfold hsetO;simp only;rw[if_pos hv.isPair]
 rw[hO]at V
 rw[hE]
 exact⟨rfl,L.step V f,Live.others f⟩
end Go.Proofs.YtibpklpgmgakcaaGreatDoor
