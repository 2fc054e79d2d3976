/-
 Rows of cells with a block of their own: laid by make, written, read in part; slices.Repeat's loop. Proves nothing of any one program.
-/
import Derived.Test.YtihdffpekpnglaaGreatPair
import Derived.Test.YtihdffpekpnglaaGreatFobjx
import Derived.Laws.RangeAny
set_option linter.unusedVariables false
set_option linter.unusedSimpArgs false
namespace Go.Proofs.YtihdffpekpnglaaGreat
open Go

theorem oU{H H':zW}{T:TypeId}{z:Value}{n b:Nat}(hb:b=H.size)(hH:H'=H.push (.cells (Builtin.zeroCells #[z] n) T)):Own H' T 1 (some ⟨b,0,none⟩) n n (List.replicate n z):=by
 refine⟨rfl,_,aO hb hH,by rw[jK];rfl,Nat.le_refl _,by simp,λj hj=>?_⟩
 have:=kN (z:= #[z]) (n:=n) (k:=j) (j:=0) (by omega) (by simp)
 simp only[List.size_toArray,List.length_singleton,Nat.mul_one,Nat.add_zero]at this
 rw[this,List.getElem?_replicate,if_pos (by omega)];rfl
theorem Own.put{H:zW}{T:TypeId}{n c i:Nat}{a:Addr}{xs:List Value}(h:Own H T 1 (some a) n c xs)(hi:i<n)(v:Value):
  aJ H (a.add i) 0 1/\ ∀H',H'=aP H (a.add i) [v] 0->Own H' T 1 (some a) n c (xs.set i v)/\Fr [a.block] H H':=by
 obtain⟨ha,cs,hb,hs,hn,hl,hc⟩:=h
 have ea:a.add i=⟨a.block,i,none⟩:=by rw[ha];simp
 rw[ea]
 refine⟨eJ hb _ _ _ (by omega),λH' hH'=>?_⟩
 rw[gj _ H cs i 0 hb]at hH'
 subst hH'
 refine⟨⟨ha,_,dU (bI hb),by rw[splice_size];exact hs,hn,by rw[List.length_set];exact hl,λj hj=>?_⟩,Fr.set⟩
 rw[List.getElem?_set]
 by_cases hij:i=j
 ·subst hij
  rw[if_pos rfl,if_pos (by omega)]
  have:=fT cs [v] (i+0) 0 (by simp;omega) (by simp)
  simpa using this
 ·rw[if_neg hij,<-hc j hj]
  rcases Nat.lt_or_ge j i with h | h
  ·exact eD _ _ _ _ (by omega)
  ·exact hU _ _ _ _ (by simp;omega)
theorem Own.puts{H:zW}{T:TypeId}{sz n c o:Nat}{a:Addr}{xs vs:List Value}(h:Own H T sz (some a) n c xs)(ho:o+vs.length<=n*sz):
  aJ H (a.add o) 0 vs.length/\ ∀H',H'=aP H (a.add o) vs 0->Own H' T sz (some a) n c (xs.take o++vs++xs.drop (o+vs.length))/\Fr [a.block] H H':=by
 obtain⟨ha,cs,hb,hs,hn,hl,hc⟩:=h
 have hle:n*sz<=c*sz:=Nat.mul_le_mul_right _ hn
 have ea:a.add o=⟨a.block,o,none⟩:=by rw[ha];simp
 rw[ea]
 refine⟨eJ hb _ _ _ (by omega),λH' hH'=>?_⟩
 rw[gj _ H cs o 0 hb]at hH'
 subst hH'
 refine⟨⟨ha,_,dU (bI hb),by rw[splice_size];exact hs,hn,by simp;omega,λj hj=>?_⟩,Fr.set⟩
 rw[Nat.add_zero]
 rcases Nat.lt_or_ge j o with h1 | h1
 ·rw[eD _ _ _ _ h1,hc j hj,List.append_assoc,List.getElem?_append_left (by simp;omega),List.getElem?_take,if_pos h1]
 rcases Nat.lt_or_ge j (o+vs.length)with h2 | h2
 ·have e:=fT cs vs o (j-o) (by omega) (by omega)
  rw[show o+(j-o)=j by omega]at e
  rw[e,List.append_assoc,List.getElem?_append_right (by simp;omega),List.length_take,Nat.min_eq_left (by omega),List.getElem?_append_left (by omega)]
 ·rw[hU _ _ _ _ h2,hc j hj,List.getElem?_append_right (by simp;omega),List.getElem?_drop]
  simp only[List.length_append,List.length_take]
  rw[Nat.min_eq_left (by omega)]
  congr 1;omega
theorem Own.part{H:zW}{T:TypeId}{sz n c o k:Nat}{a:Addr}{xs:List Value}(h:Own H T sz (some a) n c xs):aG H (a.add o) 0 ((xs.drop o).take k):=by
 refine iO λj v hv=>?_
 have hv2:xs[o+j]?=some v:=by
  rw[List.getElem?_take]at hv
  split at hv
  ·rw[List.getElem?_drop]at hv;exact hv
  ·cases hv
 obtain⟨a',he,hh⟩:=h.at hv2
 cases he
 rw[Nat.zero_add]
 obtain⟨ha,_⟩:=h
 rw[ha]at hh⊢
 simpa using hh
theorem ji{v:Value}(hv:gF [v]=true): ∀n,gF (List.replicate n v)=true
 | 0=>rfl
 | n+1=>by
  rw[List.replicate_succ,show v::List.replicate n v=[v]++List.replicate n v from rfl,kM,hv,ji hv n];rfl
theorem oV{H0 H:zW}{T:TypeId}{v z:Value}{b n k:Nat}{R:zv}(hv:gF [v]=true)(ho:Own H T 1 (some ⟨b,0,none⟩) n n (List.replicate k v++List.replicate (n-k) z))(hk:k<=n)(h1:n≠0->1<=k)(hn:n<=1000000)(hb:H0.size<=b)(e:Ext H0 H)
  (hR: ∀H',Own H' T 1 (some ⟨b,0,none⟩) n n (List.replicate n v)->Ext H0 H'->R (.slice (some ⟨b,0,none⟩) n n) H'):
  ∃(I:zw) (m:Int->zW->Nat),I (k:Int) H/\ ∀(nv:Int) (H4:zW),I nv H4->
   if nv< (n:Int)then(
    ∃(lo hi:Nat),nv=(lo:Int)/\hi=n/\lo<=hi/\hi<=n/\
    ∀sl:zY,sl=(if n=lo then(some (Addr.mk b 0 none))else Option.map (λa:Addr=>a.add (lo*1)) (some (Addr.mk b 0 none)))->
    ∃(lo_2 hi_2:Nat),lo_2=0/\nv=(hi_2:Int)/\lo_2<=hi_2/\hi_2<=n/\
    ∀sl_2:zY,sl_2=(if n=lo_2 then(some (Addr.mk b 0 none))else Option.map (λa:Addr=>a.add (lo_2*1)) (some (Addr.mk b 0 none)))->
    qE 1 sl (hi-lo) sl_2 (hi_2-lo_2) H4 (λcn_2 H5=>(I (IntKind.wrap .i64 (nv+(cn_2:Int))) H5/\m (IntKind.wrap .i64 (nv+(cn_2:Int))) H5<m nv H4)))
   else R (.slice (some (Addr.mk b 0 none)) n n) H4:=by
 refine⟨λi H'=> ∃k:Nat,i=k/\k<=n/\(n≠0->1<=k)/\Own H' T 1 (some ⟨b,0,none⟩) n n (List.replicate k v++List.replicate (n-k) z)/\Ext H0 H',λi _=>(n-i).toNat,⟨k,rfl,hk,h1,ho,e⟩,?_⟩
 rintro i H4 ⟨k,rfl,hk,h1,ho,e⟩
 by_cases hlt:(k:Int)< (n:Int)
 case neg=>
  rw[if_neg hlt]
  have:n-k=0:=by omega
  rw[this]at ho
  have hkn:k=n:=by omega
  subst hkn
  exact hR _ (by simpa using ho) e
 rw[if_pos hlt]
 refine⟨k,n,rfl,rfl,by omega,Nat.le_refl _,?_⟩
 rintro sl rfl
 refine⟨0,k,rfl,rfl,by omega,by omega,?_⟩
 rintro sl2 rfl
 have e1:(if n=k then(some (Addr.mk b 0 none))else Option.map (λa:Addr=>a.add (k*1)) (some (Addr.mk b 0 none)))=some ((Addr.mk b 0 none).add k):=by
  rw[if_neg (by omega),Nat.mul_one];rfl
 have e2:(if n=0 then(some (Addr.mk b 0 none))else Option.map (λa:Addr=>a.add (0*1)) (some (Addr.mk b 0 none)))=some ((Addr.mk b 0 none).add 0):=by
  rw[if_neg (by omega),Nat.zero_mul];rfl
 rw[e1,e2]
 have hmin:Nat.min (k-0) (n-k)=min k (n-k):=rfl
 generalize hd:min k (n-k)=d at hmin
 have hd1:d<=k/\d<=n-k/\1<=d:=by have:=h1 (by omega);omega
 have hpart:=ho.part (o:=0) (k:=d)
 have ep:((List.replicate k v++List.replicate (n-k) z).drop 0).take d=List.replicate d v:=by
  rw[List.drop_zero,List.take_append_of_le_length (by simp;omega),List.take_replicate,Nat.min_eq_left hd1.1]
 rw[ep]at hpart
 refine⟨List.replicate d v,hpart,λ_=>by rw[hmin];simp,ji hv d,?_⟩
 rw[onPtr_some,hmin]
 obtain⟨h3,h4⟩:=ho.puts (o:=k) (vs:=List.replicate d v) (by simp;omega)
 refine⟨h3,?_⟩
 obtain⟨h5,h6⟩:=h4 _ rfl
 have hw:IntKind.wrap .i64 ((k:Int)+(d:Int))=((k+d:Nat):Int):=by rw[Go.IntWalk.i64_in _ (by omega)];omega
 rw[hw]
 refine⟨⟨k+d,rfl,by omega,λ_=>by omega,?_,e.fr_trans h6 (λi hi=>by simp at hi;omega)⟩,by show((n:Int)-((k+d:Nat):Int)).toNat< ((n:Int)-(k:Int)).toNat;omega⟩
 have et:(List.replicate k v++List.replicate (n-k) z).take k++List.replicate d v++(List.replicate k v++List.replicate (n-k) z).drop (k+(List.replicate d v).length)=List.replicate (k+d) v++List.replicate (n-(k+d)) z:=by
  rw[List.take_append_of_le_length (by simp),List.take_replicate,Nat.min_self,List.length_replicate,List.replicate_append_replicate,List.drop_append,List.length_replicate,List.drop_replicate,List.drop_replicate,show k-(k+d)=0 by omega,show n-k-(k+d-k)=n-(k+d)by omega];simp
 rw[et]at h5
 exact h5

theorem flat_get{α:Type}{f:α->List Value}{sz:Nat}(hf: ∀a,(f a).length=sz): ∀(l:List α) (k r:Nat) (hk:k<l.length),r<sz->(l.flatMap f)[k*sz+r]?=(f l[k])[r]?
 | [],k,r,hk,hr=>by simp at hk
 | a::l,0,r,hk,hr=>by
  simp only[List.flatMap_cons,Nat.zero_mul,Nat.zero_add,List.getElem_cons_zero]
  rw[List.getElem?_append_left (by rw[hf];exact hr)]
 | a::l,k+1,r,hk,hr=>by
  simp only[List.flatMap_cons,List.getElem_cons_succ]
  rw[List.getElem?_append_right (by rw[hf,Nat.add_mul];omega),hf,show(k+1)*sz+r-sz=k*sz+r by rw[Nat.add_mul];omega]
  exact flat_get hf l k r (by simpa using hk) hr
theorem Own.elem{α:Type}{f:α->List Value}{H:zW}{T:TypeId}{sz n c:Nat}{p:zY}{l:List α}(h:Own H T sz p n c (l.flatMap f))(hf: ∀a,(f a).length=sz)(h0:0<sz){k:Nat}(hk:k<l.length):
  ∃a,p=some a/\(∀r v,(f l[k])[r]?=some v->hat H ((a.add (k*sz)).add r)=some v)/\aG H (a.add (k*sz)) 0 (f l[k]):=by
 have hc0: ∃v,(f l[k])[0]?=some v:=⟨(f l[k])[0]'(by rw[hf];exact h0),by simp⟩
 obtain⟨v0,hv0⟩:=hc0
 have e0:=flat_get hf l k 0 hk h0
 rw[hv0,Nat.add_zero]at e0
 obtain⟨a,ha,_⟩:=h.at e0
 subst ha
 have hadd: ∀r,(a.add (k*sz)).add r=a.add (k*sz+r):=λr=>by rw[h.1];simp
 have hr: ∀r v,(f l[k])[r]?=some v->hat H ((a.add (k*sz)).add r)=some v:=λr v hv=>by
  have hlt:r<sz:=by
   rcases Nat.lt_or_ge r (f l[k]).length with hh | hh
   ·rw[hf]at hh;exact hh
   ·simp[List.getElem?_eq_none hh]at hv
  have e:=flat_get hf l k r hk hlt
  rw[hv]at e
  obtain⟨a',ha',hh⟩:=h.at e
  cases ha'
  rw[hadd];exact hh
 exact⟨a,rfl,hr,iO λj v hv=>by rw[Nat.zero_add];exact hr j v hv⟩
theorem fG(a:Addr)(i j:Nat):(a.add i).add j=a.add (i+j):=by
 by_cases hi:i=0<;>by_cases hj:j=0<;>simp[Addr.add,hi,hj,Nat.add_assoc]
theorem getD_at{α:Type}{l:List α}{i:Nat}(h:i<l.length)(d:α):l.getD i d=l[i]:=by
 rw[List.getD,List.getElem?_eq_getElem h];rfl

theorem lu{cs:Array Value}{vs:List Value}(h:cs.size=vs.length):splice cs 0 vs=vs.toArray:=by
 refine Array.ext_getElem? λi=>?_
 have e:vs.toArray[i]?=vs[i]?:=by simp
 rw[e]
 rcases Nat.lt_or_ge i vs.length with hi | hi
 ·have:=fT cs vs 0 i (by omega) hi
  rw[Nat.zero_add]at this;exact this
 ·rw[List.getElem?_eq_none hi,Array.getElem?_eq_none (by rw[splice_size];omega)]
theorem fE{H H1:zW}{b n:Nat}{cs:Array Value}{T:TypeId}{vs:List Value}(hb:b=H.size)(hH:H1=H.push (.cells cs T))(hn:cs.size=n)(hv:vs.length=n):
  aJ H1 ⟨b,0,none⟩ 0 n/\ ∀H2,H2=aP H1 ⟨b,0,none⟩ vs 0->H2[b]?=some (.cells vs.toArray T (0,0))/\Ext H H2:=by
 have g:=aO hb hH
 refine⟨eJ g n 0 0 (by omega),λH2 h2=>?_⟩
 rw[gj vs H1 cs 0 0 g,Nat.add_zero,lu (by omega)]at h2
 subst h2
 exact⟨dU (bI g),(Ext.push' hH).set (by omega)⟩
theorem mr{H:zW}{b:Nat}{cs:Array Value}{T:TypeId}(g:H[b]?=some (.cells cs T (0,0)))(o:Nat)(v:Value)(ho:o<cs.size):
  aJ H ((Addr.mk b 0 none).add o) 0 1/\ ∀H1,H1=aP H ((Addr.mk b 0 none).add o) [v] 0->H1[b]?=some (.cells (cs.setIfInBounds o v) T (0,0))/\Fr [b] H H1:=by
 rw[addr_add_mk,Nat.zero_add]
 refine⟨eJ g 1 o 0 (by omega),λH1 h1=>?_⟩
 rw[gj _ H cs o 0 g]at h1
 subst h1
 exact⟨dU (bI g),Fr.set⟩
theorem aS{H:zW}{b:Nat}{cs:Array Value}{T:TypeId}{fz:Nat×Nat}(g:H[b]?=some (.cells cs T fz))(o:Nat):hat H ((Addr.mk b 0 none).add o)=cs[o]?:=by
 rw[addr_add_mk,Nat.zero_add];exact aU g
theorem aG.sub{H:zW}{a:Addr}{vs us:List Value}(k:Nat)(h:aG H a 0 vs)(e:(vs.drop k).take us.length=us):aG H (a.add k) 0 us:=by
 refine iO λj v hv=>?_
 have hj:vs[k+j]?=some v:=by
  rw[<-e,List.getElem?_take]at hv
  split at hv
  ·rw[List.getElem?_drop]at hv;exact hv
  ·cases hv
 have:=gZ h (k+j) v hj
 rw[fG,Nat.zero_add]
 rw[Nat.zero_add]at this;exact this
theorem bQ{H:zW}{b:Nat}{vs:List Value}{T:TypeId}{fz:Nat×Nat}(g:H[b]?=some (.cells vs.toArray T fz)):aG H ⟨b,0,none⟩ 0 vs:=
 dH g vs 0 0 (λj hj=>by simp)
theorem iH{H:zW}{b n:Nat}{cs:Array Value}{T:TypeId}{vs:List Value}(g:H[b]?=some (.cells cs T (0,0)))(hn:cs.size=n)(hv:vs.length=n):
  aJ H ⟨b,0,none⟩ 0 n/\ ∀H2,H2=aP H ⟨b,0,none⟩ vs 0->H2[b]?=some (.cells vs.toArray T (0,0))/\Fr [b] H H2:=by
 refine⟨eJ g n 0 0 (by omega),λH2 h2=>?_⟩
 rw[gj vs H cs 0 0 g,Nat.add_zero,lu (by omega)]at h2
 subst h2
 exact⟨dU (bI g),Fr.set⟩
theorem ld(a:Addr):a.add 0=a:=by unfold Addr.add;cases a;split<;>simp_all

theorem mV(s:ByteArray)(pos:Nat):1<=(Utf8.decode s pos).2:=by
 unfold Utf8.decode
 simp only[]
 repeat' split
 all_goals simp
def runesFrom(s:ByteArray):Nat->Nat->List Int
 | 0,_=> []
 | f+1,pos=>if pos<s.size then((Utf8.decode s pos).1:Int)::runesFrom s f (pos+(Utf8.decode s pos).2)else[]
theorem ky(s:ByteArray): ∀(f g pos:Nat),s.size<=pos+f->s.size<=pos+g->runesFrom s f pos=runesFrom s g pos
 | 0,0,_,_,_=>rfl
 | 0,g+1,pos,h,_=>by simp only[runesFrom];rw[if_neg (by omega)]
 | f+1,0,pos,_,h=>by simp only[runesFrom];rw[if_neg (by omega)]
 | f+1,g+1,pos,h1,h2=>by
  have:=mV s pos
  simp only[runesFrom]
  by_cases hp:pos<s.size
  ·rw[if_pos hp,if_pos hp,ky s f g _ (by omega) (by omega)]
  ·rw[if_neg hp,if_neg hp]
def kh(s:ByteArray)(pos:Nat):List Int:=runesFrom s (s.size-pos) pos
def gi(s:ByteArray):List Int:=kh s 0
theorem og{s:ByteArray}{pos:Nat}(h:pos<s.size):kh s pos=((Utf8.decode s pos).1:Int)::kh s (pos+(Utf8.decode s pos).2):=by
 have hd:=mV s pos
 unfold kh
 rw[show s.size-pos=(s.size-pos-1)+1 by omega]
 simp only[runesFrom]
 rw[if_pos h,ky s _ (s.size-(pos+(Utf8.decode s pos).2)) _ (by omega) (by omega)]
theorem oW{s:ByteArray}{pos:Nat}(h: ¬pos<s.size):kh s pos=[]:=by
 unfold kh;rw[show s.size-pos=0 by omega];rfl
theorem qT(s:ByteArray)(pos:Nat):aM ((Utf8.decode s pos).1:Int):=by
 have:=decode_le s pos
 exact⟨by omega,by omega⟩
theorem kz(s:ByteArray): ∀(f pos:Nat),∀r∈runesFrom s f pos,0<=r/\r<=2147483647
 | 0,_,r,h=>by simp[runesFrom]at h
 | f+1,pos,r,h=>by
  simp only[runesFrom]at h
  by_cases hp:pos<s.size
  ·rw[if_pos hp]at h
   rcases List.mem_cons.1 h with rfl | h
   ·have:=decode_le s pos;omega
   ·exact kz s f _ r h
  ·rw[if_neg hp]at h;simp at h
theorem ki(s:ByteArray): ∀r∈gi s,aM r:=λr h=>by
 have:=kz s _ _ r h
 exact⟨by omega,by omega⟩
theorem kQ(s:ByteArray): ∀(f pos:Nat),(runesFrom s f pos).length<=f
 | 0,_=>Nat.le_refl _
 | f+1,pos=>by
  simp only[runesFrom]
  by_cases hp:pos<s.size
  ·rw[if_pos hp];simp;exact kQ s f _
  ·rw[if_neg hp];simp

def strR(o:Option (Blk×Hp))(s:ByteArray):Int×Int:=if 62< (gi s).length then(0,6)else hZ o 2 0 (gi s)
def strO(o:Option (Blk×Hp))(s:ByteArray):Option (Blk×Hp):=if 62< (gi s).length then o else ii o 2 0 (gi s)
theorem lv{H:zW}{hv:zY}{o:Option (Blk×Hp)}{s:ByteArray}(V:View H hv o)(hc:l3 o):
  eq.C hv s H (λv H'=>v=.tuple #[.int .u64 (strR o s).1,.int .i64 (strR o s).2]/\View H' hv (strO o s)/\Fr (own o) H H'):=by
 refine HC.via λR hR=>eq.link ?_
 unfold eq.pt
 intro b H1 hb hH1
 have e1:Ext H H1:=Ext.push' hH1
 refine⟨λp n c H'=> ∃(pos:Nat) (rs:List Int),H'[b]?=some (.stringIter s pos)/\gi s=rs++kh s pos/\Own H' 33 1 p n c (wvs rs)/\n=rs.length/\n<=62/\Ext H H'/\(∀i,i∈blks p->H.size<=i/\i≠b)/\b<H'.size,λ_ n _ _=>63-n,⟨0,[],aO hb hH1,rfl,gH,rfl,by omega,e1,by simp,bI (aO hb hH1)⟩,?_⟩
 rintro p n c H2 ⟨pos,rs,hit,hrs,how,hn,hle,e2,hbk,hb2⟩
 subst hn
 refine⟨s,pos,hit,?_⟩
 by_cases hp:pos<s.size
 case neg=>
  rw[if_neg hp]
  rw[oW hp,List.append_nil]at hrs
  refine HC.mono (kg (ws:=rs) (V.ext e2) how.src rfl (by rw[<-hrs];exact ki s) (by decide) (by decide) hc (by omega)) ?_
  rintro _ H3 ⟨rfl,V3,f3⟩
  have hno: ¬62< (gi s).length:=by rw[hrs];omega
  refine⟨_,_,rfl,hR _ _ ⟨?_,?_,e2.fr.trans f3⟩⟩
  ·unfold strR;rw[if_neg hno,hrs]
  ·unfold strO;rw[if_neg hno,hrs];exact V3
 rw[if_pos hp]
 intro H3 hH3 b4 H4 hb4 hH4
 have hw:=qT s pos
 rw[wu64 (n:=((Utf8.decode s pos).1:Int)) (by have:=hw.2;omega)]at hH4
 have f3:Fr [b] H2 H3:=by rw[hH3];exact Fr.set
 have e4:Ext H3 H4:=Ext.push' hH4
 have hs3:H3.size=H2.size:=by rw[hH3];simp
 have how4:=(how.keep f3 (λi hi=>by have:=(hbk i hi).2;simp;exact this)).ext e4
 have e13:Ext H H3:=e2.fr_trans f3 (λi hi=>by simp at hi;omega)
 have hit3:H3[b]?=some (.stringIter s (pos+(Utf8.decode s pos).2)):=by rw[hH3];exact dU hb2
 refine cZ (ys:=wvs [((Utf8.decode s pos).1:Int)]) how4 (dH (aO hb4 hH4) _ 0 0 (λj hj=>by simp)) (by simp) (gM _) rfl (by omega) ?_
 intro p' c' H5 how5 f5 hnew
 have e45:Ext H H5:=(e13.trans e4).fr_trans f5 (λi hi=>(hbk i hi).1)
 rw[og hp]at hrs
 by_cases h62:(rs.length:Int)+1>62
 ·rw[if_pos h62]
  have hmany:62< (gi s).length:=by rw[hrs];simp;omega
  refine hR _ _ ⟨?_,?_,e45.fr⟩
  ·unfold strR;rw[if_pos hmany]
  ·unfold strO;rw[if_pos hmany];exact V.ext e45
 ·rw[if_neg h62]
  have hit5:H5[b]?=some (.stringIter s (pos+(Utf8.decode s pos).2)):=f5.get (λhi=>(hbk b hi).2 rfl) (e4.get hit3)
  refine⟨⟨_,rs++[((Utf8.decode s pos).1:Int)],hit5,by rw[hrs];simp,by simpa[wvs]using how5,by simp,by omega,e45,λi hi=>?_,bI hit5⟩,by show 63-(rs.length+1)<63-rs.length;omega⟩
  rcases hnew i hi with h | h
  ·exact hbk i h
  ·have:=e4.size;exact⟨by have:=e13.size;omega,by omega⟩

def tw(o:Option (Blk×Hp)):Option (Blk×Hp):=match o with | none=>none | some (b,x)=>some (b,{x with ep:=IntKind.wrap .u64 (x.ep+1)})
def hown(o:Option (Blk×Hp)):List Nat:=match o with | none=> [] | some (b,_)=> [b.h]
theorem HpAt.epAt{H:zW}{b:Blk}{x:Hp}(h:HpAt H b x):hat H ⟨b.h,3,none⟩=some (.int .u64 x.ep):=by rw[aU h.h];rfl
theorem HpAt.putEp{H:zW}{b:Blk}{x:Hp}(h:HpAt H b x)(e:Int):aJ H ⟨b.h,3,none⟩ 0 1/\HpAt (aP H ⟨b.h,3,none⟩ [.int .u64 e] 0) b {x with ep:=e}/\Fr [b.h] H (aP H ⟨b.h,3,none⟩ [.int .u64 e] 0):=by
 refine⟨eJ h.h _ _ _ (by simp),?_⟩
 rw[gj _ _ _ _ _ h.h]
 have f:Fr [b.h] H (iu H b.h (.cells (splice #[.pointer (some ⟨b.c,0,none⟩),x.sy,x.en,.int .u64 x.ep] (3+0) [.int .u64 e]) 54 (0,0))):=Fr.set
 refine⟨⟨h.cd.keep f ?_ ?_ ?_ ?_,h.ne,by rw[dU (bI h.h)];rfl⟩,f⟩<;>have:=h.ne<;>simp<;>omega
theorem mW{H:zW}{hv:zY}{o:Option (Blk×Hp)}(V:View H hv o):fU.C hv H (λv H'=>View H' hv (tw o)/\Fr (hown o) H H'):=by
 refine HC.via λR hR=>fU.link ?_
 unfold fU.pt
 refine HC.mono (ke V) ?_
 rintro _ H1 ⟨rfl,rfl⟩
 refine⟨_,rfl,?_⟩
 cases V with
 | nobody=>rw[if_pos (show(none:Option (Blk×Hp)).isNone=true from rfl)];exact hR _ _ ⟨.nobody,Fr.refl _ _⟩
 | empty h=>rw[if_pos (show(none:Option (Blk×Hp)).isNone=true from rfl)];exact hR _ _ ⟨.empty h,Fr.refl _ _⟩
 | @real b x h ok=>
  rw[if_neg (show ¬(some (b,x)).isNone=true from Bool.false_ne_true)]
  obtain⟨h1,h2⟩:=h.putEp (IntKind.wrap .u64 (x.ep+1))
  refine⟨_,rfl,_,by rw[addr_add_mk];exact h.epAt,by rw[addr_add_mk];exact h1,λH2 hH2=>?_⟩
  rw[addr_add_mk]at hH2
  subst hH2
  exact hR _ _ ⟨.real h2.1 ok,h2.2⟩
def Mem.objWords(m:Mem)(w:Int):List Int:=(List.range (m.len w).toNat).map λ(i:Nat)=>m.get (w / 8+1+(i:Int))
theorem Mem.objWords_len(m:Mem)(w:Int):(m.objWords w).length=(m.len w).toNat:=by unfold Mem.objWords;simp
theorem Mem.objWords_get(m:Mem)(w:Int){i:Nat}(h:i< (m.objWords w).length):(m.objWords w)[i]=m.get (w / 8+1+(i:Int)):=by simp[Mem.objWords]
theorem hF.words{m:Mem}{w kind more:Int}{ws:List Int}(h:hF m w kind more ws):m.objWords w=ws:=by
 refine List.ext_getElem (by rw[Mem.objWords_len,h.len];omega) λi h1 h2=>?_
 rw[Mem.objWords_get]
 exact h.get i h2
theorem View.objWord{H:zW}{hv:zY}{o:Option (Blk×Hp)}(V:View H hv o)(w:Int): ∀x∈(mof o).objWords w,aM x:=λx hx=>by
 unfold Mem.objWords at hx
 obtain⟨i,_,rfl⟩:=List.mem_map.1 hx
 exact V.word _
theorem l4{H:zW}{hv:zY}{o:Option (Blk×Hp)}{w kind:Int}(V:View H hv o)(hw:aM w):
  fK.C hv w kind H (λv H'=>Ext H H'/\((¬((mof o).isObj w/\(mof o).typ w=kind)/\v=.tuple #[.slice none 0 0,.bool false])\/
   ((mof o).isObj w/\(mof o).typ w=kind/\ ∃b:Nat,H.size<=b/\v=.tuple #[.slice (some ⟨b,0,none⟩) ((mof o).objWords w).length ((mof o).objWords w).length,.bool true]/\Own H' 33 1 (some ⟨b,0,none⟩) ((mof o).objWords w).length ((mof o).objWords w).length (wvs ((mof o).objWords w))))):=by
 refine HC.via λR hR=>fK.link ?_
 unfold fK.pt zq
 refine HC.mono (ip V hw) ?_
 rintro _ H1 ⟨rfl,e1⟩
 refine⟨_,_,_,_,_,rfl,?_⟩
 by_cases hk:(mof o).isObj w/\(mof o).typ w=kind
 case neg=>
  rw[if_pos (by
   by_cases h:(mof o).isObj w
   ·have: ¬(mof o).typ w=kind:=λe=>hk ⟨h,e⟩
    simp[h,this]
   ·simp[h])]
  exact hR _ _ ⟨e1,.inl ⟨hk,rfl⟩⟩
 obtain⟨hO,ht⟩:=hk
 rw[if_neg (by simp[hO,ht])]
 have hl:=V.len_bd w
 have hw8:w / 8<65536:=hO.1.1.2
 have hw0:0<=w / 8:=by have:=hw.1;omega
 refine⟨by omega,by omega,by omega,by omega,λb H2 hb hH2=>?_⟩
 have e2:=e1.trans (Ext.push' hH2)
 have hlen:=(mof o).objWords_len w
 have hb0:H.size<=b:=by have:=e1.size;omega
 refine⟨λi H'=>(0<=i/\i<=(mof o).len w)/\Ext H H'/\Own H' 33 1 (some ⟨b,0,none⟩) ((mof o).len w).toNat ((mof o).len w).toNat (wvs (((mof o).objWords w).take i.toNat)++List.replicate (((mof o).len w).toNat-i.toNat) (.int .u64 0)),λi _=>((mof o).len w-i).toNat,⟨⟨by omega,by omega⟩,e2,by simpa using oU hb hH2⟩,?_⟩
 rintro i H3 ⟨hi,e3,how⟩
 by_cases hlt:i< ((((mof o).len w).toNat:Nat):Int)
 case neg=>
  rw[if_neg hlt]
  have e:(((mof o).objWords w).take i.toNat)=(mof o).objWords w:=List.take_of_length_le (by omega)
  have e':((mof o).len w).toNat-i.toNat=0:=by omega
  rw[e,e']at how
  rw[<-hlen]at how⊢
  exact hR _ _ ⟨e3,.inr ⟨hO,ht,b,hb0,rfl,by simpa using how⟩⟩
 rw[if_pos hlt]
 have hu:=hO.used hw (V.n64 _) (i:=i) ⟨hi.1,by omega⟩
 cases V with
 | nobody=>exact absurd hO.1.2.2.1 jV
 | empty h=>exact absurd hO.1.2.2.1 jV
 | @real bl x h ok=>
  have h3:=h.ext e3
  refine⟨_,rfl,_,h3.hPtr,_,rfl,_,h3.cd.cPtr,_,rfl,_,h3.cd.sp.memPtr,?_⟩
  rw[if_pos hO,w64 (n:=w / 8+1) (by omega),w64 (n:=w / 8+1+i) (by omega),w64 (n:=i+1) (by omega)]
  refine HC.mono (kd h3.cd.sp.mem ok.mem (by omega)) ?_
  rintro _ H4 ⟨rfl,rfl⟩
  have hu':x.sp.mem.used (w / 8+1+i):=hu
  rw[if_pos hu']
  obtain⟨hcp,hpu⟩:=how.put (i:=i.toNat) (by omega) (.int .u64 (x.sp.mem.get (w / 8+1+i)))
  refine⟨_,_,rfl,⟨hi.1,hlt⟩,by rw[Nat.mul_one];exact hcp,λH5 hH5=>?_⟩
  rw[Nat.mul_one]at hH5
  obtain⟨how5,f5⟩:=hpu H5 hH5
  refine⟨⟨⟨by omega,by omega⟩,e3.fr_trans f5 (λj hj=>by simp at hj;omega),?_⟩,by show((mof (some (bl,x))).len w-(i+1)).toNat< ((mof (some (bl,x))).len w-i).toNat;omega⟩
  have hiN:i.toNat< ((mof (some (bl,x))).objWords w).length:=by omega
  have eg:((mof (some (bl,x))).objWords w)[i.toNat]=x.sp.mem.get (w / 8+1+i):=by
   rw[Mem.objWords_get,show((i.toNat:Nat):Int)=i by omega];rfl
  rw[show(i+1).toNat=i.toNat+1 by omega,List.take_succ_eq_append_getElem hiN,eg]
  have er:((mof (some (bl,x))).len w).toNat-i.toNat=(((mof (some (bl,x))).len w).toNat-(i.toNat+1))+1:=by omega
  rw[er,List.replicate_succ,List.set_append_right _ _ (by simp;omega)]at how5
  have e0:i.toNat-(wvs (((mof (some (bl,x))).objWords w).take i.toNat)).length=0:=by simp;omega
  rw[e0,List.set_cons_zero]at how5
  simpa[wvs]using how5

def jF(ws:List Int):ByteArray:=il (ws.map λx=>if x>1114111 then 65533 else x)
theorem mX{H:zW}{hv:zY}{o:Option (Blk×Hp)}{w:Int}(V:View H hv o)(hw:aM w):
  fV.C hv w H (λv H'=>v=(if(mof o).isObj w/\(mof o).typ w=2 then .tuple #[.string (jF ((mof o).objWords w)),.int .i64 0]else .tuple #[.string ⟨#[]⟩,.int .i64 3])/\Ext H H'):=by
 refine HC.via λR hR=>fV.link ?_
 unfold fV.pt zq
 refine HC.mono (l4 V hw) ?_
 rintro _ H1 ⟨e1,⟨hno,rfl⟩ | ⟨hO,ht,b,hb,rfl,how⟩⟩
 ·refine⟨_,_,_,_,rfl,?_⟩
  rw[if_neg (by decide)]
  exact hR _ _ ⟨by rw[if_neg hno],e1⟩
 refine⟨_,_,_,_,rfl,?_⟩
 rw[if_pos rfl]
 have hwd:=V.objWord w
 have hl62:((mof o).objWords w).length<=62:=by rw[Mem.objWords_len];have:=V.len_bd w;omega
 generalize (mof o).objWords w=ws at*
 have hb1:b<H1.size:=how.lt b (by simp)
 refine⟨λp n c i H'=>(0<=i/\i<=ws.length)/\Ext H1 H'/\Own H' 21 1 p n c (((ws.take i.toNat).map λx=>if x>1114111 then 65533 else x).map (Value.int .i32))/\n=i.toNat/\(∀j,j∈blks p->H1.size<=j),λ_ _ _ i _=>(ws.length-i).toNat,⟨⟨by omega,by omega⟩,Ext.refl _,by simpa using gH,rfl,by simp⟩,?_⟩
 rintro p n c i H2 ⟨hi,e2,how2,rfl,hnew⟩
 by_cases hlt:i< (ws.length:Int)
 case neg=>
  rw[if_neg hlt]
  have e:ws.take i.toNat=ws:=List.take_of_length_le (by omega)
  rw[e]at how2
  refine⟨ws.map λx=>if x>1114111 then 65533 else x,⟨how2.src,λ_=>by have:=how2.len;simpa using this⟩,hR _ _ ⟨?_,e1.trans e2⟩⟩
  rw[if_pos ⟨hO,ht⟩];rfl
 rw[if_pos hlt]
 have hiN:i.toNat<ws.length:=by omega
 have hat2:=(how.ext e2).at (j:=i.toNat) (v:=.int .u64 ws[i.toNat]) (by simp[wvs,hiN])
 obtain⟨a,ha,hat2⟩:=hat2
 obtain rfl:=Option.some.inj ha
 refine⟨_,rfl,⟨hi.1,hlt⟩,ws[i.toNat],by rw[Nat.mul_one];exact hat2,?_⟩
 have hx:=hwd _ (List.getElem_mem hiN)
 have tail: ∀(y:Int) (b3:Nat) (H3:zW),(if ws[i.toNat]>1114111 then(65533:Int)else ws[i.toNat])=y->b3=H2.size->H3=H2.push (.cells #[.int .i32 y] 21)->
   bW 1 21 4 [.int .i32 0] p i.toNat c (some (Addr.mk b3 0 none)) 1 H3 (λap apC H4=>((0<=IntKind.wrap .i64 (i+1)/\IntKind.wrap .i64 (i+1)<=ws.length)/\Ext H1 H4/\Own H4 21 1 ap (i.toNat+1) apC (((ws.take (IntKind.wrap .i64 (i+1)).toNat).map λx=>if x>1114111 then 65533 else x).map (Value.int .i32))/\i.toNat+1=(IntKind.wrap .i64 (i+1)).toNat/\(∀j,j∈blks ap->H1.size<=j))/\((ws.length:Int)-IntKind.wrap .i64 (i+1)).toNat< ((ws.length:Int)-i).toNat):=by
  intro y b3 H3 hy hb3 hH3
  have e3:Ext H2 H3:=Ext.push' hH3
  rw[w64 (n:=i+1) (by omega)]
  refine cZ (ys:=[.int .i32 y]) (how2.ext e3) (dH (aO hb3 hH3) _ 0 0 (λj hj=>by simp)) (by simp) rfl rfl (by omega) ?_
  intro p' c' H4 how4 f4 hn4
  refine⟨⟨⟨by omega,by omega⟩,(e2.trans e3).fr_trans f4 hnew,?_,by omega,λj hj=>?_⟩,by omega⟩
  ·rw[show(i+1).toNat=i.toNat+1 by omega,List.take_succ_eq_append_getElem hiN,List.map_append,List.map_append]
   simpa[hy]using how4
  ·rcases hn4 j hj with h | h
   ·exact hnew j h
   ·have:=(e2.trans e3).size;omega
 by_cases hbig:ws[i.toNat]>1114111
 ·rw[if_pos hbig]
  intro b3 H3 hb3 hH3
  exact tail 65533 b3 H3 (by rw[if_pos hbig]) hb3 hH3
 ·rw[if_neg hbig]
  intro b3 H3 hb3 hH3
  have hx0:=hx.1
  rw[wi32 (n:=ws[i.toNat]) (by omega)]at hH3
  exact tail _ b3 H3 (by rw[if_neg hbig]) hb3 hH3

theorem qf{H:zW}{x y:Int}(hx:0<=x/\x<4294967296)(hy:0<=y/\y<4294967296):gy.C x y H (λv H'=>v=.tuple #[.int .u64 0,.int .u64 (x*y)]/\H'=H):=by
 refine HC.via λR hR=>gy.link ?_
 unfold gy.pt
 have hxy:0<=x*y:=Int.mul_nonneg hx.1 hy.1
 have hxy2:x*y<=4294967295*4294967295:=Int.mul_le_mul (by omega) (by omega) hy.1 (by omega)
 have s1:ishr .u64 x 32=0:=by rw[hM 32 32 rfl (by decide)];omega
 have s2:ishr .u64 y 32=0:=by rw[hM 32 32 rfl (by decide)];omega
 have m1:iand .u64 x 4294967295=x:=by rw[j3 32 (by decide) ⟨by omega,by omega⟩ _ (by decide)];omega
 have m2:iand .u64 y 4294967295=y:=by rw[j3 32 (by decide) ⟨by omega,by omega⟩ _ (by decide)];omega
 refine gl.link ?_
 unfold gl.pt
 rw[s1,s2,m1,m2]
 refine⟨_,_,rfl,hR _ _ ⟨?_,rfl⟩⟩
 simp only[Int.zero_mul,Int.mul_zero,wu64 (n:=x*y) ⟨hxy,by omega⟩,wu64 (n:=(0:Int)) (by omega),Int.zero_add,Int.add_zero]
 have h1:ishr .u64 (x*y) 32=x*y / 4294967296:=by rw[hM 32 32 rfl (by decide)];rfl
 have hq:0<=x*y / 4294967296/\x*y / 4294967296<4294967296:=by omega
 rw[h1,wu64 (n:=x*y / 4294967296) (by omega)]
 have h2:ishr .u64 (x*y / 4294967296) 32=0:=by rw[hM 32 32 rfl (by decide)];omega
 have h3:iand .u64 (x*y / 4294967296) 4294967295=x*y / 4294967296:=by rw[j3 32 (by decide) ⟨by omega,by omega⟩ _ (by decide)];omega
 rw[h2,h3,wu64 (n:=x*y / 4294967296) (by omega),h2]
 rfl
theorem lK{H:zW}{p:zY}{v:Int}{n:Int}(hn:0<=n/\n<=100000)(hs:cY H p [.int .u64 v]):
  bA.C p 1 1 n H (λu H'=> ∃b:Nat,H.size<=b/\u=.slice (some ⟨b,0,none⟩) n.toNat n.toNat/\Own H' 33 1 (some ⟨b,0,none⟩) n.toNat n.toNat (List.replicate n.toNat (.int .u64 v))/\Ext H H'):=by
 refine HC.via λR hR=>bA.link ?_
 unfold bA.pt zq
 rw[if_neg (by omega),wu64 (n:=((1:Nat):Int)) (by omega),wu64 (n:=n) (by omega)]
 refine HC.mono (qf (by omega) (by omega)) ?_
 rintro _ H1 ⟨rfl,rfl⟩
 refine⟨_,_,rfl,?_⟩
 rw[show((1:Nat):Int)*n=n by omega,if_neg (by simp;omega),w64 (n:=n) (by omega)]
 refine⟨by omega,by omega,by omega,by omega,λb H2 hb hH2=>?_⟩
 have e2:Ext H1 H2:=Ext.push' hH2
 have hs2:=hs.ext e2
 have ho:=oU hb hH2
 cases p with
 | none=>simp at hs
 | some a=>
  have hm:Nat.min 1 n.toNat=min 1 n.toNat:=rfl
  refine⟨List.replicate (min 1 n.toNat) (.int .u64 v),?_,λ_=>by rw[hm];simp,ji rfl _,?_⟩
  ·by_cases h0:n.toNat=0
   ·rw[h0];exact trivial
   ·rw[Nat.min_eq_left (by omega)];exact hs2
  rw[onPtr_some,hm]
  obtain⟨h3,h4⟩:=ho.puts (o:=0) (vs:=List.replicate (min 1 n.toNat) (.int .u64 v)) (by simp;omega)
  have e0:Addr.add ⟨b,0,none⟩ 0=⟨b,0,none⟩:=by simp
  rw[e0]at h3 h4
  refine⟨h3,?_⟩
  obtain⟨h5,h6⟩:=h4 _ rfl
  rw[List.take_zero,List.nil_append,List.length_replicate,Nat.zero_add,List.drop_replicate]at h5
  have hb0:H1.size<=b:=by omega
  refine oV (v:=.int .u64 v) (z:=.int .u64 0) rfl h5 (by omega) (λ_=>by omega) (by omega) hb0 (e2.fr_trans h6 (λi hi=>by simp at hi;omega)) ?_
  intro H' ho' e'
  exact hR _ _ ⟨b,hb0,rfl,ho',e'⟩
def vecR(o:Option (Blk×Hp))(n fill:Int):Int×Int:=if n<0 then(0,4)else if 62<n then(0,6)else hZ o 1 0 (List.replicate n.toNat fill)
def vecO(o:Option (Blk×Hp))(n fill:Int):Option (Blk×Hp):=if n<0\/62<n then o else ii o 1 0 (List.replicate n.toNat fill)
theorem lw{H:zW}{hv:zY}{o:Option (Blk×Hp)}{n fill:Int}(V:View H hv o)(hf:aM fill)(hc:l3 o):
  dZ.C hv n fill H (λv H'=>v=.tuple #[.int .u64 (vecR o n fill).1,.int .i64 (vecR o n fill).2]/\View H' hv (vecO o n fill)/\Fr (own o) H H'):=by
 refine HC.via λR hR=>dZ.link ?_
 unfold dZ.pt
 by_cases h1:n<0
 ·rw[if_pos h1]
  exact hR _ _ ⟨by unfold vecR;rw[if_pos h1],by unfold vecO;rw[if_pos (.inl h1)];exact V,Fr.refl _ _⟩
 rw[if_neg h1]
 by_cases h2:n>62
 ·rw[if_pos h2]
  exact hR _ _ ⟨by unfold vecR;rw[if_neg h1,if_pos h2],by unfold vecO;rw[if_pos (.inr h2)];exact V,Fr.refl _ _⟩
 rw[if_neg h2]
 intro b H1 hb hH1
 have e1:Ext H H1:=Ext.push' hH1
 refine HC.mono (lK (v:=fill) ⟨by omega,by omega⟩ (dH (aO hb hH1) _ 0 0 (λj hj=>by simp))) ?_
 rintro _ H2 ⟨b2,hb2,rfl,ho,e2⟩
 refine⟨_,_,_,rfl,?_⟩
 have hw: ∀w∈List.replicate n.toNat fill,aM w:=λw hw=>by rw[List.eq_of_mem_replicate hw];exact hf
 refine HC.mono (kg (ws:=List.replicate n.toNat fill) (V.ext (e1.trans e2)) (by have:=ho.src;simpa[wvs]using this) (by simp) hw (by decide) (by decide) hc (by simp;omega)) ?_
 rintro _ H3 ⟨rfl,V3,f3⟩
 refine⟨_,_,rfl,hR _ _ ⟨?_,?_,(e1.trans e2).fr.trans f3⟩⟩
 ·unfold vecR;rw[if_neg h1,if_neg h2]
 ·unfold vecO;rw[if_neg (by omega)];exact V3
