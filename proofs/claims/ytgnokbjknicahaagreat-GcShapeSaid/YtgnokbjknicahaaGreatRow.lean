/-
 Rows of cells with a block of their own: laid by make, written, read in part; slices.Repeat's loop. Proves nothing of any one program.
-/
import Derived.Test.YtgnokbjknicahaaGreatOwn
set_option linter.unusedVariables false
set_option linter.unusedSimpArgs false
namespace Go.Proofs.YtgnokbjknicahaaGreat
open Go

theorem Own.put{H:zV}{T:TypeId}{n c i:Nat}{a:Addr}{xs:List Value}(h:Own H T 1 (some a) n c xs)(hi:i<n)(v:Value):
  CanPuts H (a.add i) 0 1/\ ∀H',H'=hputs H (a.add i) [v] 0->Own H' T 1 (some a) n c (xs.set i v)/\Fr [a.block] H H':=by
 obtain⟨ha,cs,hb,hs,hn,hl,hc⟩:=h
 have ea:a.add i=⟨a.block,i,none⟩:=by rw[ha];simp
 rw[ea]
 refine⟨canPuts_blk hb _ _ _ (by omega),λH' hH'=>?_⟩
 rw[hputs_blk _ H cs i 0 hb]at hH'
 subst hH'
 refine⟨⟨ha,_,setBlk_get (lt_size hb),by rw[splice_size];exact hs,hn,by rw[List.length_set];exact hl,λj hj=>?_⟩,Fr.set⟩
 rw[List.getElem?_set]
 by_cases hij:i=j
 ·subst hij
  rw[if_pos rfl,if_pos (by omega)]
  have:=splice_get_in cs [v] (i+0) 0 (by simp;omega) (by simp)
  simpa using this
 ·rw[if_neg hij,<-hc j hj]
  rcases Nat.lt_or_ge j i with h | h
  ·exact splice_get_lt _ _ _ _ (by omega)
  ·exact splice_get_ge _ _ _ _ (by simp;omega)
theorem Own.puts{H:zV}{T:TypeId}{sz n c o:Nat}{a:Addr}{xs vs:List Value}(h:Own H T sz (some a) n c xs)(ho:o+vs.length<=n*sz):
  CanPuts H (a.add o) 0 vs.length/\ ∀H',H'=hputs H (a.add o) vs 0->Own H' T sz (some a) n c (xs.take o++vs++xs.drop (o+vs.length))/\Fr [a.block] H H':=by
 obtain⟨ha,cs,hb,hs,hn,hl,hc⟩:=h
 have hle:n*sz<=c*sz:=Nat.mul_le_mul_right _ hn
 have ea:a.add o=⟨a.block,o,none⟩:=by rw[ha];simp
 rw[ea]
 refine⟨canPuts_blk hb _ _ _ (by omega),λH' hH'=>?_⟩
 rw[hputs_blk _ H cs o 0 hb]at hH'
 subst hH'
 refine⟨⟨ha,_,setBlk_get (lt_size hb),by rw[splice_size];exact hs,hn,by simp;omega,λj hj=>?_⟩,Fr.set⟩
 rw[Nat.add_zero]
 rcases Nat.lt_or_ge j o with h1 | h1
 ·rw[splice_get_lt _ _ _ _ h1,hc j hj,List.append_assoc,List.getElem?_append_left (by simp;omega),List.getElem?_take,if_pos h1]
 rcases Nat.lt_or_ge j (o+vs.length)with h2 | h2
 ·have e:=splice_get_in cs vs o (j-o) (by omega) (by omega)
  rw[show o+(j-o)=j by omega]at e
  rw[e,List.append_assoc,List.getElem?_append_right (by simp;omega),List.length_take,Nat.min_eq_left (by omega),List.getElem?_append_left (by omega)]
 ·rw[splice_get_ge _ _ _ _ h2,hc j hj,List.getElem?_append_right (by simp;omega),List.getElem?_drop]
  simp only[List.length_append,List.length_take]
  rw[Nat.min_eq_left (by omega)]
  congr 1;omega
theorem Own.part{H:zV}{T:TypeId}{sz n c o k:Nat}{a:Addr}{xs:List Value}(h:Own H T sz (some a) n c xs):RowAt H (a.add o) 0 ((xs.drop o).take k):=by
 refine rowAt_of λj v hv=>?_
 have hv2:xs[o+j]?=some v:=by
  rw[List.getElem?_take]at hv
  split at hv
  ·rw[List.getElem?_drop]at hv;exact hv
  ·cases hv
 obtain⟨a',he,hh⟩:=h.at hv2
 cases he
 rw[Nat.zero_add]
 obtain⟨ha,_⟩:=h
 rw[ha]at hh⊢
 simpa using hh
theorem flat_get{α:Type}{f:α->List Value}{sz:Nat}(hf: ∀a,(f a).length=sz): ∀(l:List α) (k r:Nat) (hk:k<l.length),r<sz->(l.flatMap f)[k*sz+r]?=(f l[k])[r]?
 | [],k,r,hk,hr=>by simp at hk
 | a::l,0,r,hk,hr=>by
  simp only[List.flatMap_cons,Nat.zero_mul,Nat.zero_add,List.getElem_cons_zero]
  rw[List.getElem?_append_left (by rw[hf];exact hr)]
 | a::l,k+1,r,hk,hr=>by
  simp only[List.flatMap_cons,List.getElem_cons_succ]
  rw[List.getElem?_append_right (by rw[hf,Nat.add_mul];omega),hf,show(k+1)*sz+r-sz=k*sz+r by rw[Nat.add_mul];omega]
  exact flat_get hf l k r (by simpa using hk) hr
theorem Own.elem{α:Type}{f:α->List Value}{H:zV}{T:TypeId}{sz n c:Nat}{p:zW}{l:List α}(h:Own H T sz p n c (l.flatMap f))(hf: ∀a,(f a).length=sz)(h0:0<sz){k:Nat}(hk:k<l.length):
  ∃a,p=some a/\(∀r v,(f l[k])[r]?=some v->hat H ((a.add (k*sz)).add r)=some v)/\RowAt H (a.add (k*sz)) 0 (f l[k]):=by
 have hc0: ∃v,(f l[k])[0]?=some v:=⟨(f l[k])[0]'(by rw[hf];exact h0),by simp⟩
 obtain⟨v0,hv0⟩:=hc0
 have e0:=flat_get hf l k 0 hk h0
 rw[hv0,Nat.add_zero]at e0
 obtain⟨a,ha,_⟩:=h.at e0
 subst ha
 have hadd: ∀r,(a.add (k*sz)).add r=a.add (k*sz+r):=λr=>by rw[h.1];simp
 have hr: ∀r v,(f l[k])[r]?=some v->hat H ((a.add (k*sz)).add r)=some v:=λr v hv=>by
  have hlt:r<sz:=by
   rcases Nat.lt_or_ge r (f l[k]).length with hh | hh
   ·rw[hf]at hh;exact hh
   ·simp[List.getElem?_eq_none hh]at hv
  have e:=flat_get hf l k r hk hlt
  rw[hv]at e
  obtain⟨a',ha',hh⟩:=h.at e
  cases ha'
  rw[hadd];exact hh
 exact⟨a,rfl,hr,rowAt_of λj v hv=>by rw[Nat.zero_add];exact hr j v hv⟩
theorem addr_add2(a:Addr)(i j:Nat):(a.add i).add j=a.add (i+j):=by
 by_cases hi:i=0<;>by_cases hj:j=0<;>simp[Addr.add,hi,hj,Nat.add_assoc]
theorem getD_at{α:Type}{l:List α}{i:Nat}(h:i<l.length)(d:α):l.getD i d=l[i]:=by
 rw[List.getD,List.getElem?_eq_getElem h];rfl

theorem splice_whole{cs:Array Value}{vs:List Value}(h:cs.size=vs.length):splice cs 0 vs=vs.toArray:=by
 refine Array.ext_getElem? λi=>?_
 have e:vs.toArray[i]?=vs[i]?:=by simp
 rw[e]
 rcases Nat.lt_or_ge i vs.length with hi | hi
 ·have:=splice_get_in cs vs 0 i (by omega) hi
  rw[Nat.zero_add]at this;exact this
 ·rw[List.getElem?_eq_none hi,Array.getElem?_eq_none (by rw[splice_size];omega)]
theorem box_new{H H1:zV}{b n:Nat}{cs:Array Value}{T:TypeId}{vs:List Value}(hb:b=H.size)(hH:H1=H.push (.cells cs T))(hn:cs.size=n)(hv:vs.length=n):
  CanPuts H1 ⟨b,0,none⟩ 0 n/\ ∀H2,H2=hputs H1 ⟨b,0,none⟩ vs 0->H2[b]?=some (.cells vs.toArray T (0,0))/\Ext H H2:=by
 have g:=push_get hb hH
 refine⟨canPuts_blk g n 0 0 (by omega),λH2 h2=>?_⟩
 rw[hputs_blk vs H1 cs 0 0 g,Nat.add_zero,splice_whole (by omega)]at h2
 subst h2
 exact⟨setBlk_get (lt_size g),(Ext.push' hH).set (by omega)⟩
theorem box_put{H:zV}{b:Nat}{cs:Array Value}{T:TypeId}(g:H[b]?=some (.cells cs T (0,0)))(o:Nat)(v:Value)(ho:o<cs.size):
  CanPuts H ((Addr.mk b 0 none).add o) 0 1/\ ∀H1,H1=hputs H ((Addr.mk b 0 none).add o) [v] 0->H1[b]?=some (.cells (cs.setIfInBounds o v) T (0,0))/\Fr [b] H H1:=by
 rw[addr_add_mk,Nat.zero_add]
 refine⟨canPuts_blk g 1 o 0 (by omega),λH1 h1=>?_⟩
 rw[hputs_blk _ H cs o 0 g]at h1
 subst h1
 exact⟨setBlk_get (lt_size g),Fr.set⟩
theorem box_get{H:zV}{b:Nat}{cs:Array Value}{T:TypeId}{fz:Nat×Nat}(g:H[b]?=some (.cells cs T fz))(o:Nat):hat H ((Addr.mk b 0 none).add o)=cs[o]?:=by
 rw[addr_add_mk,Nat.zero_add];exact hat_blk g
theorem RowAt.sub{H:zV}{a:Addr}{vs us:List Value}(k:Nat)(h:RowAt H a 0 vs)(e:(vs.drop k).take us.length=us):RowAt H (a.add k) 0 us:=by
 refine rowAt_of λj v hv=>?_
 have hj:vs[k+j]?=some v:=by
  rw[<-e,List.getElem?_take]at hv
  split at hv
  ·rw[List.getElem?_drop]at hv;exact hv
  ·cases hv
 have:=rowAt_hat h (k+j) v hj
 rw[addr_add2,Nat.zero_add]
 rw[Nat.zero_add]at this;exact this
theorem box_row{H:zV}{b:Nat}{vs:List Value}{T:TypeId}{fz:Nat×Nat}(g:H[b]?=some (.cells vs.toArray T fz)):RowAt H ⟨b,0,none⟩ 0 vs:=
 rowAt_blk g vs 0 0 (λj hj=>by simp)
theorem box_set{H:zV}{b n:Nat}{cs:Array Value}{T:TypeId}{vs:List Value}(g:H[b]?=some (.cells cs T (0,0)))(hn:cs.size=n)(hv:vs.length=n):
  CanPuts H ⟨b,0,none⟩ 0 n/\ ∀H2,H2=hputs H ⟨b,0,none⟩ vs 0->H2[b]?=some (.cells vs.toArray T (0,0))/\Fr [b] H H2:=by
 refine⟨canPuts_blk g n 0 0 (by omega),λH2 h2=>?_⟩
 rw[hputs_blk vs H cs 0 0 g,Nat.add_zero,splice_whole (by omega)]at h2
 subst h2
 exact⟨setBlk_get (lt_size g),Fr.set⟩
