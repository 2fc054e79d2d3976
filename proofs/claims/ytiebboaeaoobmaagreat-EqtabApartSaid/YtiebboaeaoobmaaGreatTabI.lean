/-
 The document's tables (package moraineref15), and what a law of tables plays with. Proves nothing of any one statement.
-/
import Derived.Test.YtiebboaeaoobmaaGreatTabH
set_option linter.unusedVariables false
set_option linter.unusedSimpArgs false
namespace Go.Proofs.YtiebboaeaoobmaaGreat
open Go

def atR(x n:Int):Int:=Int.tmod (Int.tmod x n+n) n
theorem atR_rng{x n:Int}(hn:0<n):0<=atR x n/\atR x n<n:=by
 unfold atR
 have h1: -n<Int.tmod x n:=by have:=Int.lt_tmod_of_pos x hn;omega
 have h2:0<=Int.tmod x n+n:=by omega
 exact⟨Int.tmod_nonneg n h2,Int.tmod_lt_of_pos _ hn⟩
theorem at_c{H:zV}{x n:Int}(hn:0<n/\n<=1000000):morainelaw15_at.C x n H (λv H'=>v=.int .i64 (atR x n)/\H'=H):=by
 refine HC.via λR hR=>morainelaw15_at.link ?_
 unfold morainelaw15_at.pt zY
 have h1: -n<Int.tmod x n:=by have:=Int.lt_tmod_of_pos x hn.1;omega
 have h2:Int.tmod x n<n:=Int.tmod_lt_of_pos _ hn.1
 rw[w64 (n:=Int.tmod x n+n) (by omega)]
 exact⟨by omega,by omega,hR _ _ ⟨rfl,rfl⟩⟩
theorem lfix_c{H:zV}{n:Int}(hn:0<=n/\n<1000):morainelaw15_fix.C n H (λv H'=>v=.int .u64 (8*n)/\H'=H):=by
 refine HC.via λR hR=>morainelaw15_fix.link ?_
 unfold morainelaw15_fix.pt zY
 rw[Int.tmod_eq_of_lt hn.1 hn.2,w64 (n:=n*8) (by omega)]
 have e:IntKind.wrap .u64 (n*8)=8*n:=by
  show n*8 % 18446744073709551616=_
  omega
 rw[e]
 exact hR _ _ ⟨rfl,rfl⟩

def refCells(p:Int×Int):List Value:=[.int .i64 p.1,.int .i64 p.2]
theorem refCells_len(p:Int×Int):(refCells p).length=2:=rfl
structure RefT (A:zV) (q:Nat) (B:zW) (c:Nat) (L:List (Int×Int)):Prop where
 cell:A[q]?=some (.cells #[.slice B L.length c] 64 (0,0))
 own:Own A 67 2 B L.length c (L.flatMap refCells)
 ne:q ∉ blks B
theorem RefT.keep{A A':zV}{q c:Nat}{B:zW}{L:List (Int×Int)}{S:List Nat}(h:RefT A q B c L)(f:Fr S A A')(hS: ∀j∈S,j≠q/\j ∉ blks B):RefT A' q B c L:=
 ⟨f.get (λhi=>(hS _ hi).1 rfl) h.cell,h.own.keep f (λj hj hs=>(hS _ hs).2 hj),h.ne⟩
theorem RefT.ext{A A':zV}{q c:Nat}{B:zW}{L:List (Int×Int)}(h:RefT A q B c L)(e:Ext A A'):RefT A' q B c L:=h.keep (S:=[]) e.fr (by simp)
theorem RefT.at'{A:zV}{q c:Nat}{B:zW}{L:List (Int×Int)}(h:RefT A q B c L){j:Nat}(hj:j<L.length): ∃a,B=some a/\hat A (a.add (j*2))=some (.int .i64 L[j].1)/\hat A ((a.add (j*2)).add 1)=some (.int .i64 L[j].2):=by
 obtain⟨a,ha,hr,hrow⟩:=h.own.elem refCells_len (by decide) hj
 refine⟨a,ha,?_,hr 1 _ rfl⟩
 have:=hr 0 _ rfl
 rw[addr_add2,Nat.add_zero]at this
 exact this
def FoundL(L:List (Int×Int))(key:Int)(i:Int):Prop:=(∃(j:Nat) (hj:j<L.length),i=j/\L[j].1=key/\ ∀k (hk:k<j),(L[k]'(by omega)).1≠key)\/(i= -1/\ ∀p∈L,p.1≠key)
theorem refFind_c{H:zV}{q c:Nat}{B:zW}{L:List (Int×Int)}{key:Int}(h:RefT H q B c L)(hl:L.length<=1000000):
  moraineref15_Table_Find.C (some ⟨q,0,none⟩) key H (λv H'=> ∃i,v=.int .i64 i/\FoundL L key i/\H'=H):=by
 refine HC.via λR hR=>moraineref15_Table_Find.link ?_
 unfold moraineref15_Table_Find.pt zY
 refine⟨λi A=>A=H/\0<=i/\i<=L.length/\ ∀k (hk:k<L.length),(k:Int)<i->(L[k]).1≠key,λi _=>(L.length-i).toNat,⟨rfl,by omega,by omega,λk hk h=>by omega⟩,?_⟩
 rintro i A ⟨rfl,hi0,hil,hno⟩
 refine⟨_,rfl,_,_,_,hat_blk h.cell,?_⟩
 by_cases hlt:i< (L.length:Int)
 ·rw[if_pos hlt]
  have hj:i.toNat<L.length:=by omega
  obtain⟨a,ha,h1,_⟩:=h.at' hj
  refine⟨_,_,_,hat_blk h.cell,a,ha,⟨hi0,hlt⟩,_,h1,?_⟩
  by_cases hk:L[i.toNat].1=key
  ·rw[if_pos hk]
   exact hR _ _ ⟨i,rfl,.inl ⟨i.toNat,hj,by omega,hk,λk hk'=>hno k (by omega) (by omega)⟩,rfl⟩
  ·rw[if_neg hk]
   have hd:((L.length:Int)-(i+1)).toNat< ((L.length:Int)-i).toNat:=by omega
   rw[w64 (n:=i+1) (by omega)]
   refine⟨⟨rfl,by omega,by omega,λk hkl hki=>?_⟩,hd⟩
   by_cases e:(k:Int)=i
   ·have:k=i.toNat:=by omega
    subst this;exact hk
   ·exact hno k hkl (by omega)
 ·rw[if_neg hlt]
  refine hR _ _ ⟨-1,rfl,.inr ⟨rfl,λp hp=>?_⟩,rfl⟩
  obtain⟨k,hk,rfl⟩:=List.getElem_of_mem hp
  exact hno k hk (by omega)
def putL:List (Int×Int)->Int->Int->List (Int×Int)
 | [],k,v=> [(k,v)]
 | p::l,k,v=>if p.1=k then(k,v)::l else p::putL l k v
def delL:List (Int×Int)->Int->List (Int×Int)
 | [],_=> []
 | p::l,k=>if p.1=k then l else p::delL l k
theorem putL_at: ∀(L:List (Int×Int)) {k v:Int} {j:Nat} (hj:j<L.length),L[j].1=k->(∀i (hi:i<j),(L[i]'(by omega)).1≠k)->putL L k v=L.set j (k,v)
 | p::l,k,v,0,_,h,_=>by have h:p.1=k:=h;unfold putL;rw[if_pos h];rfl
 | p::l,k,v,j+1,hj,h,hn=>by
  have h0:p.1≠k:=hn 0 (by omega)
  unfold putL
  rw[if_neg h0,putL_at l (by simpa using hj) h (λi hi=>hn (i+1) (by omega))];rfl
theorem putL_new: ∀(L:List (Int×Int)) {k v:Int},(∀p∈L,p.1≠k)->putL L k v=L++[(k,v)]
 | [],_,_,_=>rfl
 | p::l,k,v,h=>by unfold putL;rw[if_neg (h p (by simp)),putL_new l (λq hq=>h q (by simp[hq]))];rfl
theorem delL_at: ∀(L:List (Int×Int)) {k:Int} {j:Nat} (hj:j<L.length),L[j].1=k->(∀i (hi:i<j),(L[i]'(by omega)).1≠k)->delL L k=L.take j++L.drop (j+1)
 | p::l,k,0,_,h,_=>by have h:p.1=k:=h;unfold delL;rw[if_pos h];rfl
 | p::l,k,j+1,hj,h,hn=>by
  have h0:p.1≠k:=hn 0 (by omega)
  unfold delL
  rw[if_neg h0,delL_at l (by simpa using hj) h (λi hi=>hn (i+1) (by omega))];rfl
theorem delL_no: ∀(L:List (Int×Int)) {k:Int},(∀p∈L,p.1≠k)->delL L k=L
 | [],_,_=>rfl
 | p::l,k,h=>by unfold delL;rw[if_neg (h p (by simp)),delL_no l (λq hq=>h q (by simp[hq]))]
theorem flatR_len: ∀(L:List (Int×Int)),(L.flatMap refCells).length=L.length*2
 | []=>rfl
 | p::l=>by rw[List.flatMap_cons,List.length_append,flatR_len l,refCells_len,List.length_cons];omega
theorem flat_set: ∀(L:List (Int×Int)) (j:Nat) (p:Int×Int),j<L.length->L[j]?.map Prod.fst=some p.1->(L.flatMap refCells).set (j*2+1) (.int .i64 p.2)=(L.set j p).flatMap refCells
 | x::l,0,p,_,h=>by
  simp at h
  show[Value.int .i64 x.1,.int .i64 p.2]++l.flatMap refCells=refCells p++l.flatMap refCells
  rw[h];rfl
 | x::l,j+1,p,hj,h=>by
  show(refCells x++l.flatMap refCells).set ((j+1)*2+1) _=refCells x++(l.set j p).flatMap refCells
  rw[List.set_append,if_neg (by simp[refCells];omega),refCells_len,show(j+1)*2+1-2=j*2+1 by omega,flat_set l j p (by simpa using hj) (by simpa using h)]
theorem refPut_c{H:zV}{q c:Nat}{B:zW}{L:List (Int×Int)}{key val:Int}(h:RefT H q B c L)(hl:L.length<=1000000):
  moraineref15_Table_Put.C (some ⟨q,0,none⟩) key val H (λ_ H'=> ∃B' c',RefT H' q B' c' (putL L key val)/\Fr (q::blks B) H H'/\ ∀j∈blks B',j∈blks B\/H.size<=j):=by
 refine HC.via λR hR=>moraineref15_Table_Put.link ?_
 unfold moraineref15_Table_Put.pt
 refine HC.mono (refFind_c (key:=key) h hl) ?_
 rintro _ H1 ⟨i,rfl,hF,rfl⟩
 refine⟨_,rfl,?_⟩
 rcases hF with⟨j,hj,rfl,hk,hno⟩ | ⟨rfl,hno⟩
 ·rw[if_neg (by omega)]
  obtain⟨a,ha,h1,h2⟩:=h.at' hj
  refine⟨_,rfl,_,_,_,hat_blk h.cell,a,ha,⟨by omega,by omega⟩,?_⟩
  subst ha
  obtain⟨hcp,hp⟩:=h.own.puts (o:=j*2+1) (vs:=[.int .i64 val]) (by simp;omega)
  rw[show Int.toNat (j:Int)*2=j*2 by omega,addr_add2]
  refine⟨hcp,λH2 hH2=>?_⟩
  obtain⟨ho,f2⟩:=hp H2 hH2
  have hpl:=putL_at L (v:=val) hj hk hno
  refine hR _ _ ⟨some a,c,⟨f2.get (λhi=>h.ne (by simpa using hi)) (by rw[hpl,List.length_set];exact h.cell),?_,h.ne⟩,f2.mono (λi hi _=>by simp at hi;simp[hi]),λj hj=> .inl hj⟩
  rw[hpl,List.length_set]
  have e:(L.flatMap refCells).take (j*2+1)++[.int .i64 val]++(L.flatMap refCells).drop (j*2+1+1)=(L.set j (key,val)).flatMap refCells:=by
   rw[<-flat_set L j (key,val) hj (by rw[List.getElem?_eq_getElem hj];simp[hk])]
   rw[List.set_eq_take_append_cons_drop,if_pos (by rw[flatR_len];omega)]
   simp
  have ho':=ho
  simp only[List.length_singleton]at ho'
  rw[e]at ho'
  exact ho'
 ·rw[if_pos (by decide)]
  refine⟨_,rfl,_,_,_,hat_blk h.cell,λb H2 hb hH2=>?_⟩
  have e2:Ext H1 H2:=Ext.push' hH2
  refine own_append (ys:=refCells (key,val)) (h.own.ext e2) (rowAt_blk (push_get hb hH2) _ 0 0 (λj hj=>by
   rw[refCells_len]at hj
   rcases(show j=0\/j=1 by omega)with rfl | rfl<;>rfl)) rfl rfl rfl (by omega) ?_
  intro B' c' H3 ho3 f3 hn3
  obtain⟨hcp,hs⟩:=box_set (vs:=[.slice B' (L.length+1) c']) (f3.get h.ne (e2.get h.cell)) rfl rfl
  refine⟨hcp,λH4 hH4=>?_⟩
  obtain⟨g4,f4⟩:=hs H4 hH4
  have hpl:=putL_new L (v:=val) hno
  have z2:=e2.size
  have hqn:q ∉ blks B':=λhq=>by
   rcases hn3 q hq with h' | h'
   ·exact h.ne h'
   ·have:=lt_size h.cell;omega
  refine hR _ _ ⟨B',c',⟨by rw[hpl,List.length_append];exact g4,?_,hqn⟩,(e2.fr.trans (f3.mono (λi hi _=>by simp[hi]))).trans (f4.mono (λi hi _=>by simp at hi;simp[hi])),λj hj=>?_⟩
  ·rw[hpl,List.length_append,List.flatMap_append]
   have:=ho3.keep f4 (λj hj hs=>by simp at hs;exact hqn (hs▸hj))
   simpa using this
  ·rcases hn3 j hj with h' | h'
   ·exact .inl h'
   ·right;omega

def playCells(b:Blk)(t:Int)(keys:List Int)(q:Nat):List Value:=[.pointer (some ⟨b.h,0,none⟩),.int .u64 t]++wvs keys++[.pointer (some ⟨q,0,none⟩)]
structure PlayAt (A:zV) (P:Nat) (b:Blk) (t:Int) (keys:List Int) (q:Nat):Prop where
 cell:A[P]?=some (.cells (playCells b t keys q).toArray 38 (0,0))
 len:keys.length=40
theorem PlayAt.keep{A A':zV}{P q:Nat}{b:Blk}{t:Int}{keys:List Int}{S:List Nat}(h:PlayAt A P b t keys q)(f:Fr S A A')(hS:P ∉ S):PlayAt A' P b t keys q:=⟨f.get hS h.cell,h.len⟩
theorem PlayAt.ext{A A':zV}{P q:Nat}{b:Blk}{t:Int}{keys:List Int}(h:PlayAt A P b t keys q)(e:Ext A A'):PlayAt A' P b t keys q:=⟨e.get h.cell,h.len⟩
section
variable {A:zV} {P q:Nat} {b:Blk} {t:Int} {keys:List Int}
theorem PlayAt.heap(h:PlayAt A P b t keys q):hat A (Addr.mk P 0 none)=some (.pointer (some ⟨b.h,0,none⟩)):=by
 rw[hat_blk h.cell];rfl
theorem PlayAt.table(h:PlayAt A P b t keys q):hat A ((Addr.mk P 0 none).add 1)=some (.int .u64 t):=by
 rw[box_get h.cell];rfl
theorem playKey{i:Nat}(hi:i<keys.length):(playCells b t keys q)[2+i]?=some (.int .u64 keys[i]):=by
 unfold playCells
 rw[List.append_assoc,List.getElem?_append_right (by simp),List.getElem?_append_left (by simp;omega)]
 simp[hi]
theorem PlayAt.key(h:PlayAt A P b t keys q){i:Nat}(hi:i<keys.length):hat A (((Addr.mk P 0 none).add 2).add (i*1))=some (.int .u64 keys[i]):=by
 rw[addr_add2,Nat.mul_one,box_get h.cell]
 simp only[List.getElem?_toArray]
 exact playKey hi
theorem PlayAt.ref(h:PlayAt A P b t keys q):hat A ((Addr.mk P 0 none).add 42)=some (.pointer (some ⟨q,0,none⟩)):=by
 rw[box_get h.cell]
 simp only[List.getElem?_toArray]
 unfold playCells
 have hl:=h.len
 rw[List.getElem?_append_right (by simp[hl])]
 simp[hl]
theorem PlayAt.setT(h:PlayAt A P b t keys q)(t':Int):CanPuts A ((Addr.mk P 0 none).add 1) 0 1/\ ∀A',A'=hputs A ((Addr.mk P 0 none).add 1) [.int .u64 t'] 0->PlayAt A' P b t' keys q/\Fr [P] A A':=by
 obtain⟨h1,h2⟩:=box_put h.cell 1 (.int .u64 t') (by simp[playCells])
 refine⟨h1,λA' hA=>?_⟩
 obtain⟨g,f⟩:=h2 A' hA
 rw[List.setIfInBounds_toArray]at g
 exact⟨⟨g,h.len⟩,f⟩
theorem PlayAt.setK(h:PlayAt A P b t keys q){i:Nat}(hi:i<keys.length)(w:Int):CanPuts A (((Addr.mk P 0 none).add 2).add (i*1)) 0 1/\ ∀A',A'=hputs A (((Addr.mk P 0 none).add 2).add (i*1)) [.int .u64 w] 0->PlayAt A' P b t (keys.set i w) q/\Fr [P] A A':=by
 rw[addr_add2,Nat.mul_one]
 obtain⟨h1,h2⟩:=box_put h.cell (2+i) (.int .u64 w) (by simp[playCells];omega)
 refine⟨h1,λA' hA=>?_⟩
 obtain⟨g,f⟩:=h2 A' hA
 rw[List.setIfInBounds_toArray]at g
 have e:(playCells b t keys q).set (2+i) (.int .u64 w)=playCells b t (keys.set i w) q:=by
  unfold playCells
  rw[List.append_assoc,List.set_append,if_neg (by simp),List.set_append,if_pos (by simp;omega),List.append_assoc]
  congr 2
  rw[wvs,wvs,List.map_set]
  congr 1
  simp
 rw[e]at g
 exact⟨⟨g,by rw[List.length_set];exact h.len⟩,f⟩
end
