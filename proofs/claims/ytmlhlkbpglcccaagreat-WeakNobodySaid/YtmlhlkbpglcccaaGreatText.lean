/-
 Rows of cells with a block of their own: laid by make, written, read in part; slices.Repeat's loop. Proves nothing of any one program.
-/
import Derived.Test.YtmlhlkbpglcccaaGreatPair
import Derived.Test.YtmlhlkbpglcccaaGreatFobjx
import Derived.Laws.RangeAny
set_option linter.unusedVariables false
set_option linter.unusedSimpArgs false
namespace Go.Proofs.YtmlhlkbpglcccaaGreat
open Go

theorem Own.put{H:zV}{T:TypeId}{n c i:Nat}{a:Addr}{xs:List Value}(h:Own H T 1 (some a) n c xs)(hi:i<n)(v:Value):
  aK H (a.add i) 0 1/\ ∀H',H'=aS H (a.add i) [v] 0->Own H' T 1 (some a) n c (xs.set i v)/\Fr [a.block] H H':=by
 obtain⟨ha,cs,hb,hs,hn,hl,hc⟩:=h
 have ea:a.add i=⟨a.block,i,none⟩:=by rw[ha];simp
 rw[ea]
 refine⟨bT hb _ _ _ (by omega),λH' hH'=>?_⟩
 rw[cP _ H cs i 0 hb]at hH'
 subst hH'
 refine⟨⟨ha,_,bA (bH hb),by rw[splice_size];exact hs,hn,by rw[List.length_set];exact hl,λj hj=>?_⟩,Fr.set⟩
 rw[List.getElem?_set]
 by_cases hij:i=j
 ·subst hij
  rw[if_pos rfl,if_pos (by omega)]
  have:=di cs [v] (i+0) 0 (by simp;omega) (by simp)
  simpa using this
 ·rw[if_neg hij,<-hc j hj]
  rcases Nat.lt_or_ge j i with h | h
  ·exact cL _ _ _ _ (by omega)
  ·exact ef _ _ _ _ (by simp;omega)
theorem Own.puts{H:zV}{T:TypeId}{sz n c o:Nat}{a:Addr}{xs vs:List Value}(h:Own H T sz (some a) n c xs)(ho:o+vs.length<=n*sz):
  aK H (a.add o) 0 vs.length/\ ∀H',H'=aS H (a.add o) vs 0->Own H' T sz (some a) n c (xs.take o++vs++xs.drop (o+vs.length))/\Fr [a.block] H H':=by
 obtain⟨ha,cs,hb,hs,hn,hl,hc⟩:=h
 have hle:n*sz<=c*sz:=Nat.mul_le_mul_right _ hn
 have ea:a.add o=⟨a.block,o,none⟩:=by rw[ha];simp
 rw[ea]
 refine⟨bT hb _ _ _ (by omega),λH' hH'=>?_⟩
 rw[cP _ H cs o 0 hb]at hH'
 subst hH'
 refine⟨⟨ha,_,bA (bH hb),by rw[splice_size];exact hs,hn,by simp;omega,λj hj=>?_⟩,Fr.set⟩
 rw[Nat.add_zero]
 rcases Nat.lt_or_ge j o with h1 | h1
 ·rw[cL _ _ _ _ h1,hc j hj,List.append_assoc,List.getElem?_append_left (by simp;omega),List.getElem?_take,if_pos h1]
 rcases Nat.lt_or_ge j (o+vs.length)with h2 | h2
 ·have e:=di cs vs o (j-o) (by omega) (by omega)
  rw[show o+(j-o)=j by omega]at e
  rw[e,List.append_assoc,List.getElem?_append_right (by simp;omega),List.length_take,Nat.min_eq_left (by omega),List.getElem?_append_left (by omega)]
 ·rw[ef _ _ _ _ h2,hc j hj,List.getElem?_append_right (by simp;omega),List.getElem?_drop]
  simp only[List.length_append,List.length_take]
  rw[Nat.min_eq_left (by omega)]
  congr 1;omega
theorem Own.part{H:zV}{T:TypeId}{sz n c o k:Nat}{a:Addr}{xs:List Value}(h:Own H T sz (some a) n c xs):aT H (a.add o) 0 ((xs.drop o).take k):=by
 refine fP λj v hv=>?_
 have hv2:xs[o+j]?=some v:=by
  rw[List.getElem?_take]at hv
  split at hv
  ·rw[List.getElem?_drop]at hv;exact hv
  ·cases hv
 obtain⟨a',he,hh⟩:=h.at hv2
 cases he
 rw[Nat.zero_add]
 obtain⟨ha,_⟩:=h
 rw[ha]at hh⊢
 simpa using hh
theorem flat_get{α:Type}{f:α->List Value}{sz:Nat}(hf: ∀a,(f a).length=sz): ∀(l:List α) (k r:Nat) (hk:k<l.length),r<sz->(l.flatMap f)[k*sz+r]?=(f l[k])[r]?
 | [],k,r,hk,hr=>by simp at hk
 | a::l,0,r,hk,hr=>by
  simp only[List.flatMap_cons,Nat.zero_mul,Nat.zero_add,List.getElem_cons_zero]
  rw[List.getElem?_append_left (by rw[hf];exact hr)]
 | a::l,k+1,r,hk,hr=>by
  simp only[List.flatMap_cons,List.getElem_cons_succ]
  rw[List.getElem?_append_right (by rw[hf,Nat.add_mul];omega),hf,show(k+1)*sz+r-sz=k*sz+r by rw[Nat.add_mul];omega]
  exact flat_get hf l k r (by simpa using hk) hr
theorem Own.elem{α:Type}{f:α->List Value}{H:zV}{T:TypeId}{sz n c:Nat}{p:zW}{l:List α}(h:Own H T sz p n c (l.flatMap f))(hf: ∀a,(f a).length=sz)(h0:0<sz){k:Nat}(hk:k<l.length):
  ∃a,p=some a/\(∀r v,(f l[k])[r]?=some v->hat H ((a.add (k*sz)).add r)=some v)/\aT H (a.add (k*sz)) 0 (f l[k]):=by
 have hc0: ∃v,(f l[k])[0]?=some v:=⟨(f l[k])[0]'(by rw[hf];exact h0),by simp⟩
 obtain⟨v0,hv0⟩:=hc0
 have e0:=flat_get hf l k 0 hk h0
 rw[hv0,Nat.add_zero]at e0
 obtain⟨a,ha,_⟩:=h.at e0
 subst ha
 have hadd: ∀r,(a.add (k*sz)).add r=a.add (k*sz+r):=λr=>by rw[h.1];simp
 have hr: ∀r v,(f l[k])[r]?=some v->hat H ((a.add (k*sz)).add r)=some v:=λr v hv=>by
  have hlt:r<sz:=by
   rcases Nat.lt_or_ge r (f l[k]).length with hh | hh
   ·rw[hf]at hh;exact hh
   ·simp[List.getElem?_eq_none hh]at hv
  have e:=flat_get hf l k r hk hlt
  rw[hv]at e
  obtain⟨a',ha',hh⟩:=h.at e
  cases ha'
  rw[hadd];exact hh
 exact⟨a,rfl,hr,fP λj v hv=>by rw[Nat.zero_add];exact hr j v hv⟩
theorem fI(a:Addr)(i j:Nat):(a.add i).add j=a.add (i+j):=by
 by_cases hi:i=0<;>by_cases hj:j=0<;>simp[Addr.add,hi,hj,Nat.add_assoc]
theorem kO{cs:Array Value}{vs:List Value}(h:cs.size=vs.length):splice cs 0 vs=vs.toArray:=by
 refine Array.ext_getElem? λi=>?_
 have e:vs.toArray[i]?=vs[i]?:=by simp
 rw[e]
 rcases Nat.lt_or_ge i vs.length with hi | hi
 ·have:=di cs vs 0 i (by omega) hi
  rw[Nat.zero_add]at this;exact this
 ·rw[List.getElem?_eq_none hi,Array.getElem?_eq_none (by rw[splice_size];omega)]
theorem og{H:zV}{b:Nat}{cs:Array Value}{T:TypeId}(g:H[b]?=some (.cells cs T (0,0)))(o:Nat)(v:Value)(ho:o<cs.size):
  aK H ((Addr.mk b 0 none).add o) 0 1/\ ∀H1,H1=aS H ((Addr.mk b 0 none).add o) [v] 0->H1[b]?=some (.cells (cs.setIfInBounds o v) T (0,0))/\Fr [b] H H1:=by
 rw[addr_add_mk,Nat.zero_add]
 refine⟨bT g 1 o 0 (by omega),λH1 h1=>?_⟩
 rw[cP _ H cs o 0 g]at h1
 subst h1
 exact⟨bA (bH g),Fr.set⟩
theorem jp{H:zV}{b:Nat}{cs:Array Value}{T:TypeId}{fz:Nat×Nat}(g:H[b]?=some (.cells cs T fz))(o:Nat):hat H ((Addr.mk b 0 none).add o)=cs[o]?:=by
 rw[addr_add_mk,Nat.zero_add];exact aM g
theorem aT.sub{H:zV}{a:Addr}{vs us:List Value}(k:Nat)(h:aT H a 0 vs)(e:(vs.drop k).take us.length=us):aT H (a.add k) 0 us:=by
 refine fP λj v hv=>?_
 have hj:vs[k+j]?=some v:=by
  rw[<-e,List.getElem?_take]at hv
  split at hv
  ·rw[List.getElem?_drop]at hv;exact hv
  ·cases hv
 have:=er h (k+j) v hj
 rw[fI,Nat.zero_add]
 rw[Nat.zero_add]at this;exact this
theorem kP{H:zV}{b:Nat}{vs:List Value}{T:TypeId}{fz:Nat×Nat}(g:H[b]?=some (.cells vs.toArray T fz)):aT H ⟨b,0,none⟩ 0 vs:=
 fd g vs 0 0 (λj hj=>by simp)
theorem iG{H:zV}{b n:Nat}{cs:Array Value}{T:TypeId}{vs:List Value}(g:H[b]?=some (.cells cs T (0,0)))(hn:cs.size=n)(hv:vs.length=n):
  aK H ⟨b,0,none⟩ 0 n/\ ∀H2,H2=aS H ⟨b,0,none⟩ vs 0->H2[b]?=some (.cells vs.toArray T (0,0))/\Fr [b] H H2:=by
 refine⟨bT g n 0 0 (by omega),λH2 h2=>?_⟩
 rw[cP vs H cs 0 0 g,Nat.add_zero,kO (by omega)]at h2
 subst h2
 exact⟨bA (bH g),Fr.set⟩

def pi(o:Option (Blk×Hp)):Option (Blk×Hp):=match o with | none=>none | some (b,x)=>some (b,{x with ep:=IntKind.wrap .u64 (x.ep+1)})
def hown(o:Option (Blk×Hp)):List Nat:=match o with | none=> [] | some (b,_)=> [b.h]
theorem HpAt.epAt{H:zV}{b:Blk}{x:Hp}(h:HpAt H b x):hat H ⟨b.h,3,none⟩=some (.int .u64 x.ep):=by rw[aM h.h];rfl
theorem HpAt.putEp{H:zV}{b:Blk}{x:Hp}(h:HpAt H b x)(e:Int):aK H ⟨b.h,3,none⟩ 0 1/\HpAt (aS H ⟨b.h,3,none⟩ [.int .u64 e] 0) b {x with ep:=e}/\Fr [b.h] H (aS H ⟨b.h,3,none⟩ [.int .u64 e] 0):=by
 refine⟨bT h.h _ _ _ (by simp),?_⟩
 rw[cP _ _ _ _ _ h.h]
 have f:Fr [b.h] H (bL H b.h (.cells (splice #[.pointer (some ⟨b.c,0,none⟩),x.sy,x.en,.int .u64 x.ep] (3+0) [.int .u64 e]) 55 (0,0))):=Fr.set
 refine⟨⟨h.cd.keep f ?_ ?_ ?_ ?_,h.ne,by rw[bA (bH h.h)];rfl⟩,f⟩<;>have:=h.ne<;>simp<;>omega
theorem l6{H:zV}{hv:zW}{o:Option (Blk×Hp)}(V:View H hv o):dI.C hv H (λv H'=>View H' hv (pi o)/\Fr (hown o) H H'):=by
 refine HC.via λR hR=>dI.link ?_
 unfold dI.pt
 refine HC.mono (io V) ?_
 rintro _ H1 ⟨rfl,rfl⟩
 refine⟨_,rfl,?_⟩
 cases V with
 | nobody=>rw[if_pos (show(none:Option (Blk×Hp)).isNone=true from rfl)];exact hR _ _ ⟨.nobody,Fr.refl _ _⟩
 | empty h=>rw[if_pos (show(none:Option (Blk×Hp)).isNone=true from rfl)];exact hR _ _ ⟨.empty h,Fr.refl _ _⟩
 | @real b x h ok=>
  rw[if_neg (show ¬(some (b,x)).isNone=true from Bool.false_ne_true)]
  obtain⟨h1,h2⟩:=h.putEp (IntKind.wrap .u64 (x.ep+1))
  refine⟨_,rfl,_,by rw[addr_add_mk];exact h.epAt,by rw[addr_add_mk];exact h1,λH2 hH2=>?_⟩
  rw[addr_add_mk]at hH2
  subst hH2
  exact hR _ _ ⟨.real h2.1 ok,h2.2⟩

def Mem.objWords(m:Mem)(w:Int):List Int:=(List.range (m.len w).toNat).map λ(i:Nat)=>m.get (w / 8+1+(i:Int))
theorem Mem.objWords_len(m:Mem)(w:Int):(m.objWords w).length=(m.len w).toNat:=by unfold Mem.objWords;simp
theorem Mem.objWords_get(m:Mem)(w:Int){i:Nat}(h:i< (m.objWords w).length):(m.objWords w)[i]=m.get (w / 8+1+(i:Int)):=by simp[Mem.objWords]
theorem fy.words{m:Mem}{w kind more:Int}{ws:List Int}(h:fy m w kind more ws):m.objWords w=ws:=by
 refine List.ext_getElem (by rw[Mem.objWords_len,h.len];omega) λi h1 h2=>?_
 rw[Mem.objWords_get]
 exact h.get i h2
