/-
 Rows of cells with a block of their own: laid by make, written, read in part; slices.Repeat's loop. Proves nothing of any one program.
-/
import Derived.Test.YtiebboaeaoobmaaGreatOwn
set_option linter.unusedVariables false
set_option linter.unusedSimpArgs false
namespace Go.Proofs.YtiebboaeaoobmaaGreat
open Go

theorem rF{H H':zV}{T:TypeId}{z:Value}{n b:Nat}(hb:b=H.size)(hH:H'=H.push (.cells (Builtin.zeroCells #[z] n) T)):Own H' T 1 (some ⟨b,0,none⟩) n n (List.replicate n z):=by
 refine⟨rfl,_,aF hb hH,by rw[jf];rfl,Nat.le_refl _,by simp,λj hj=>?_⟩
 have:=kn (z:= #[z]) (n:=n) (k:=j) (j:=0) (by omega) (by simp)
 simp only[List.size_toArray,List.length_singleton,Nat.mul_one,Nat.add_zero]at this
 rw[this,List.getElem?_replicate,if_pos (by omega)];rfl
theorem Own.put{H:zV}{T:TypeId}{n c i:Nat}{a:Addr}{xs:List Value}(h:Own H T 1 (some a) n c xs)(hi:i<n)(v:Value):
  aJ H (a.add i) 0 1/\ ∀H',H'=aP H (a.add i) [v] 0->Own H' T 1 (some a) n c (xs.set i v)/\Fr [a.block] H H':=by
 obtain⟨ha,cs,hb,hs,hn,hl,hc⟩:=h
 have ea:a.add i=⟨a.block,i,none⟩:=by rw[ha];simp
 rw[ea]
 refine⟨db hb _ _ _ (by omega),λH' hH'=>?_⟩
 rw[dD _ H cs i 0 hb]at hH'
 subst hH'
 refine⟨⟨ha,_,bJ (aY hb),by rw[splice_size];exact hs,hn,by rw[List.length_set];exact hl,λj hj=>?_⟩,Fr.set⟩
 rw[List.getElem?_set]
 by_cases hij:i=j
 ·subst hij
  rw[if_pos rfl,if_pos (by omega)]
  have:=dK cs [v] (i+0) 0 (by simp;omega) (by simp)
  simpa using this
 ·rw[if_neg hij,<-hc j hj]
  rcases Nat.lt_or_ge j i with h | h
  ·exact cX _ _ _ _ (by omega)
  ·exact eP _ _ _ _ (by simp;omega)
theorem Own.puts{H:zV}{T:TypeId}{sz n c o:Nat}{a:Addr}{xs vs:List Value}(h:Own H T sz (some a) n c xs)(ho:o+vs.length<=n*sz):
  aJ H (a.add o) 0 vs.length/\ ∀H',H'=aP H (a.add o) vs 0->Own H' T sz (some a) n c (xs.take o++vs++xs.drop (o+vs.length))/\Fr [a.block] H H':=by
 obtain⟨ha,cs,hb,hs,hn,hl,hc⟩:=h
 have hle:n*sz<=c*sz:=Nat.mul_le_mul_right _ hn
 have ea:a.add o=⟨a.block,o,none⟩:=by rw[ha];simp
 rw[ea]
 refine⟨db hb _ _ _ (by omega),λH' hH'=>?_⟩
 rw[dD _ H cs o 0 hb]at hH'
 subst hH'
 refine⟨⟨ha,_,bJ (aY hb),by rw[splice_size];exact hs,hn,by simp;omega,λj hj=>?_⟩,Fr.set⟩
 rw[Nat.add_zero]
 rcases Nat.lt_or_ge j o with h1 | h1
 ·rw[cX _ _ _ _ h1,hc j hj,List.append_assoc,List.getElem?_append_left (by simp;omega),List.getElem?_take,if_pos h1]
 rcases Nat.lt_or_ge j (o+vs.length)with h2 | h2
 ·have e:=dK cs vs o (j-o) (by omega) (by omega)
  rw[show o+(j-o)=j by omega]at e
  rw[e,List.append_assoc,List.getElem?_append_right (by simp;omega),List.length_take,Nat.min_eq_left (by omega),List.getElem?_append_left (by omega)]
 ·rw[eP _ _ _ _ h2,hc j hj,List.getElem?_append_right (by simp;omega),List.getElem?_drop]
  simp only[List.length_append,List.length_take]
  rw[Nat.min_eq_left (by omega)]
  congr 1;omega
theorem Own.part{H:zV}{T:TypeId}{sz n c o k:Nat}{a:Addr}{xs:List Value}(h:Own H T sz (some a) n c xs):aL H (a.add o) 0 ((xs.drop o).take k):=by
 refine jw λj v hv=>?_
 have hv2:xs[o+j]?=some v:=by
  rw[List.getElem?_take]at hv
  split at hv
  ·rw[List.getElem?_drop]at hv;exact hv
  ·cases hv
 obtain⟨a',he,hh⟩:=h.at hv2
 cases he
 rw[Nat.zero_add]
 obtain⟨ha,_⟩:=h
 rw[ha]at hh⊢
 simpa using hh
theorem iz{v:Value}(hv:fW [v]=true): ∀n,fW (List.replicate n v)=true
 | 0=>rfl
 | n+1=>by
  rw[List.replicate_succ,show v::List.replicate n v=[v]++List.replicate n v from rfl,km,hv,iz hv n];rfl
theorem oK{H0 H:zV}{T:TypeId}{v z:Value}{b n k:Nat}{R:zk}(hv:fW [v]=true)(ho:Own H T 1 (some ⟨b,0,none⟩) n n (List.replicate k v++List.replicate (n-k) z))(hk:k<=n)(h1:n≠0->1<=k)(hn:n<=1000000)(hb:H0.size<=b)(e:Ext H0 H)
  (hR: ∀H',Own H' T 1 (some ⟨b,0,none⟩) n n (List.replicate n v)->Ext H0 H'->R (.slice (some ⟨b,0,none⟩) n n) H'):
  ∃(I:zv) (m:Int->zV->Nat),I (k:Int) H/\ ∀(nv:Int) (H4:zV),I nv H4->
   if nv< (n:Int)then(
    ∃(lo hi:Nat),nv=(lo:Int)/\hi=n/\lo<=hi/\hi<=n/\
    ∀sl:zW,sl=(if n=lo then(some (Addr.mk b 0 none))else Option.map (λa:Addr=>a.add (lo*1)) (some (Addr.mk b 0 none)))->
    ∃(lo_2 hi_2:Nat),lo_2=0/\nv=(hi_2:Int)/\lo_2<=hi_2/\hi_2<=n/\
    ∀sl_2:zW,sl_2=(if n=lo_2 then(some (Addr.mk b 0 none))else Option.map (λa:Addr=>a.add (lo_2*1)) (some (Addr.mk b 0 none)))->
    p9 1 sl (hi-lo) sl_2 (hi_2-lo_2) H4 (λcn_2 H5=>(I (IntKind.wrap .i64 (nv+(cn_2:Int))) H5/\m (IntKind.wrap .i64 (nv+(cn_2:Int))) H5<m nv H4)))
   else R (.slice (some (Addr.mk b 0 none)) n n) H4:=by
 refine⟨λi H'=> ∃k:Nat,i=k/\k<=n/\(n≠0->1<=k)/\Own H' T 1 (some ⟨b,0,none⟩) n n (List.replicate k v++List.replicate (n-k) z)/\Ext H0 H',λi _=>(n-i).toNat,⟨k,rfl,hk,h1,ho,e⟩,?_⟩
 rintro i H4 ⟨k,rfl,hk,h1,ho,e⟩
 by_cases hlt:(k:Int)< (n:Int)
 case neg=>
  rw[if_neg hlt]
  have:n-k=0:=by omega
  rw[this]at ho
  have hkn:k=n:=by omega
  subst hkn
  exact hR _ (by simpa using ho) e
 rw[if_pos hlt]
 refine⟨k,n,rfl,rfl,by omega,Nat.le_refl _,?_⟩
 rintro sl rfl
 refine⟨0,k,rfl,rfl,by omega,by omega,?_⟩
 rintro sl2 rfl
 have e1:(if n=k then(some (Addr.mk b 0 none))else Option.map (λa:Addr=>a.add (k*1)) (some (Addr.mk b 0 none)))=some ((Addr.mk b 0 none).add k):=by
  rw[if_neg (by omega),Nat.mul_one];rfl
 have e2:(if n=0 then(some (Addr.mk b 0 none))else Option.map (λa:Addr=>a.add (0*1)) (some (Addr.mk b 0 none)))=some ((Addr.mk b 0 none).add 0):=by
  rw[if_neg (by omega),Nat.zero_mul];rfl
 rw[e1,e2]
 have hmin:Nat.min (k-0) (n-k)=min k (n-k):=rfl
 generalize hd:min k (n-k)=d at hmin
 have hd1:d<=k/\d<=n-k/\1<=d:=by have:=h1 (by omega);omega
 have hpart:=ho.part (o:=0) (k:=d)
 have ep:((List.replicate k v++List.replicate (n-k) z).drop 0).take d=List.replicate d v:=by
  rw[List.drop_zero,List.take_append_of_le_length (by simp;omega),List.take_replicate,Nat.min_eq_left hd1.1]
 rw[ep]at hpart
 refine⟨List.replicate d v,hpart,λ_=>by rw[hmin];simp,iz hv d,?_⟩
 rw[onPtr_some,hmin]
 obtain⟨h3,h4⟩:=ho.puts (o:=k) (vs:=List.replicate d v) (by simp;omega)
 refine⟨h3,?_⟩
 obtain⟨h5,h6⟩:=h4 _ rfl
 have hw:IntKind.wrap .i64 ((k:Int)+(d:Int))=((k+d:Nat):Int):=by rw[Go.IntWalk.i64_in _ (by omega)];omega
 rw[hw]
 refine⟨⟨k+d,rfl,by omega,λ_=>by omega,?_,e.fr_trans h6 (λi hi=>by simp at hi;omega)⟩,by show((n:Int)-((k+d:Nat):Int)).toNat< ((n:Int)-(k:Int)).toNat;omega⟩
 have et:(List.replicate k v++List.replicate (n-k) z).take k++List.replicate d v++(List.replicate k v++List.replicate (n-k) z).drop (k+(List.replicate d v).length)=List.replicate (k+d) v++List.replicate (n-(k+d)) z:=by
  rw[List.take_append_of_le_length (by simp),List.take_replicate,Nat.min_self,List.length_replicate,List.replicate_append_replicate,List.drop_append,List.length_replicate,List.drop_replicate,List.drop_replicate,show k-(k+d)=0 by omega,show n-k-(k+d-k)=n-(k+d)by omega];simp
 rw[et]at h5
 exact h5

theorem flat_get{α:Type}{f:α->List Value}{sz:Nat}(hf: ∀a,(f a).length=sz): ∀(l:List α) (k r:Nat) (hk:k<l.length),r<sz->(l.flatMap f)[k*sz+r]?=(f l[k])[r]?
 | [],k,r,hk,hr=>by simp at hk
 | a::l,0,r,hk,hr=>by
  simp only[List.flatMap_cons,Nat.zero_mul,Nat.zero_add,List.getElem_cons_zero]
  rw[List.getElem?_append_left (by rw[hf];exact hr)]
 | a::l,k+1,r,hk,hr=>by
  simp only[List.flatMap_cons,List.getElem_cons_succ]
  rw[List.getElem?_append_right (by rw[hf,Nat.add_mul];omega),hf,show(k+1)*sz+r-sz=k*sz+r by rw[Nat.add_mul];omega]
  exact flat_get hf l k r (by simpa using hk) hr
theorem Own.elem{α:Type}{f:α->List Value}{H:zV}{T:TypeId}{sz n c:Nat}{p:zW}{l:List α}(h:Own H T sz p n c (l.flatMap f))(hf: ∀a,(f a).length=sz)(h0:0<sz){k:Nat}(hk:k<l.length):
  ∃a,p=some a/\(∀r v,(f l[k])[r]?=some v->hat H ((a.add (k*sz)).add r)=some v)/\aL H (a.add (k*sz)) 0 (f l[k]):=by
 have hc0: ∃v,(f l[k])[0]?=some v:=⟨(f l[k])[0]'(by rw[hf];exact h0),by simp⟩
 obtain⟨v0,hv0⟩:=hc0
 have e0:=flat_get hf l k 0 hk h0
 rw[hv0,Nat.add_zero]at e0
 obtain⟨a,ha,_⟩:=h.at e0
 subst ha
 have hadd: ∀r,(a.add (k*sz)).add r=a.add (k*sz+r):=λr=>by rw[h.1];simp
 have hr: ∀r v,(f l[k])[r]?=some v->hat H ((a.add (k*sz)).add r)=some v:=λr v hv=>by
  have hlt:r<sz:=by
   rcases Nat.lt_or_ge r (f l[k]).length with hh | hh
   ·rw[hf]at hh;exact hh
   ·simp[List.getElem?_eq_none hh]at hv
  have e:=flat_get hf l k r hk hlt
  rw[hv]at e
  obtain⟨a',ha',hh⟩:=h.at e
  cases ha'
  rw[hadd];exact hh
 exact⟨a,rfl,hr,jw λj v hv=>by rw[Nat.zero_add];exact hr j v hv⟩
theorem gj(a:Addr)(i j:Nat):(a.add i).add j=a.add (i+j):=by
 by_cases hi:i=0<;>by_cases hj:j=0<;>simp[Addr.add,hi,hj,Nat.add_assoc]
theorem nW{cs:Array Value}{vs:List Value}(h:cs.size=vs.length):splice cs 0 vs=vs.toArray:=by
 refine Array.ext_getElem? λi=>?_
 have e:vs.toArray[i]?=vs[i]?:=by simp
 rw[e]
 rcases Nat.lt_or_ge i vs.length with hi | hi
 ·have:=dK cs vs 0 i (by omega) hi
  rw[Nat.zero_add]at this;exact this
 ·rw[List.getElem?_eq_none hi,Array.getElem?_eq_none (by rw[splice_size];omega)]
theorem qg{H:zV}{b:Nat}{cs:Array Value}{T:TypeId}(g:H[b]?=some (.cells cs T (0,0)))(o:Nat)(v:Value)(ho:o<cs.size):
  aJ H ((Addr.mk b 0 none).add o) 0 1/\ ∀H1,H1=aP H ((Addr.mk b 0 none).add o) [v] 0->H1[b]?=some (.cells (cs.setIfInBounds o v) T (0,0))/\Fr [b] H H1:=by
 rw[addr_add_mk,Nat.zero_add]
 refine⟨db g 1 o 0 (by omega),λH1 h1=>?_⟩
 rw[dD _ H cs o 0 g]at h1
 subst h1
 exact⟨bJ (aY g),Fr.set⟩
theorem fF{H:zV}{b:Nat}{cs:Array Value}{T:TypeId}{fz:Nat×Nat}(g:H[b]?=some (.cells cs T fz))(o:Nat):hat H ((Addr.mk b 0 none).add o)=cs[o]?:=by
 rw[addr_add_mk,Nat.zero_add];exact aK g
theorem aL.sub{H:zV}{a:Addr}{vs us:List Value}(k:Nat)(h:aL H a 0 vs)(e:(vs.drop k).take us.length=us):aL H (a.add k) 0 us:=by
 refine jw λj v hv=>?_
 have hj:vs[k+j]?=some v:=by
  rw[<-e,List.getElem?_take]at hv
  split at hv
  ·rw[List.getElem?_drop]at hv;exact hv
  ·cases hv
 have:=gJ h (k+j) v hj
 rw[gj,Nat.zero_add]
 rw[Nat.zero_add]at this;exact this
theorem bA{H:zV}{b:Nat}{vs:List Value}{T:TypeId}{fz:Nat×Nat}(g:H[b]?=some (.cells vs.toArray T fz)):aL H ⟨b,0,none⟩ 0 vs:=
 eC g vs 0 0 (λj hj=>by simp)
theorem eF{H:zV}{b n:Nat}{cs:Array Value}{T:TypeId}{vs:List Value}(g:H[b]?=some (.cells cs T (0,0)))(hn:cs.size=n)(hv:vs.length=n):
  aJ H ⟨b,0,none⟩ 0 n/\ ∀H2,H2=aP H ⟨b,0,none⟩ vs 0->H2[b]?=some (.cells vs.toArray T (0,0))/\Fr [b] H H2:=by
 refine⟨db g n 0 0 (by omega),λH2 h2=>?_⟩
 rw[dD vs H cs 0 0 g,Nat.add_zero,nW (by omega)]at h2
 subst h2
 exact⟨bJ (aY g),Fr.set⟩
