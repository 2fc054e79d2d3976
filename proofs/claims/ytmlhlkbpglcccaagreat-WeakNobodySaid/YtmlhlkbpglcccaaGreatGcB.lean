/-
 Sound memories: each word is no address, or a thing's; what is come to from roots. Proves nothing of any one statement.
-/
import Derived.Test.YtmlhlkbpglcccaaGreatTrI
set_option linter.unusedVariables false
set_option linter.unusedSimpArgs false
namespace Go.Proofs.YtmlhlkbpglcccaaGreat
open Go

abbrev Mem.kAt(m:Mem)(a:Int):Int:=(m.seg (a / 64).toNat).kind
abbrev Mem.gAt(m:Mem)(a:Int):Int:=(m.seg (a / 64).toNat).gen
def tagK(k:Int):Int:=if k=0 then 1 else if k=1 then 2 else 3
def fD(v:Int):Prop:=v % 8=1\/v % 8=2\/v % 8=3
instance (v:Int):Decidable (fD v):=by unfold fD;infer_instance
def Good(m:Mem)(sz:Int->Nat)(v:Int):Prop:=v % 8≠6/\(fD v->sz (v / 8)≠0/\v % 8=tagK (m.kAt (v / 8)))
structure fF (m:Mem) (sz:Int->Nat):Prop where
 used: ∀a,sz a≠0->m.used a/\a % 64+sz a<=(m.seg (a / 64).toNat).n
 apart: ∀a b,sz a≠0->sz b≠0->a<b->a+sz a<=b
 two: ∀a,sz a≠0->m.kAt a<=1->sz a=2/\a % 2=0
 obj: ∀a,sz a≠0->2<=m.kAt a->gk (m.get a)/\m.kAt a=rawK (hk (m.get a))/\(sz a:Int)=hn (m.get a)+1
 good: ∀x,m.used x->m.kAt x≠3->Good m sz (m.get x)
theorem fF.usedAt{m:Mem}{sz:Int->Nat}(h:fF m sz){a:Int}(ha:sz a≠0){i:Nat}(hi:i<sz a)(hn: ∀k,(m.seg k).n<=64):m.used (a+i)/\(a+i) / 64=a / 64/\(a+i) % 64=a % 64+i:=by
 obtain⟨h1,h2⟩:=h.used a ha
 have:=hn (a / 64).toNat
 have e1:(a+i) / 64=a / 64:=by omega
 have e2:(a+i) % 64=a % 64+i:=by omega
 exact⟨⟨by have:=h1.1;omega,by rw[e1];exact h1.2.1,by rw[e1,e2];omega⟩,e1,e2⟩
theorem fF.lt{m:Mem}{sz:Int->Nat}(h:fF m sz)(ok:bI m){a:Int}(ha:sz a≠0):0<=a/\a<65536:=by
 obtain⟨h1,_⟩:=h.used a ha
 have:=h1.2.1.2.1
 have:=ok.lim
 exact⟨h1.1,by have:=h1.1;omega⟩
theorem fF.noFwd{m:Mem}{sz:Int->Nat}(h:fF m sz){a:Int}(ha:sz a≠0):m.get a % 8≠6:=by
 obtain⟨h1,_⟩:=h.used a ha
 by_cases hk:m.kAt a=3
 ·obtain⟨h3,_⟩:=h.obj a ha (by omega)
  have:=h3.1;omega
 ·exact(h.good a h1 hk).1
theorem fF.within{m:Mem}{sz:Int->Nat}(h:fF m sz){a:Int}(ha:sz a≠0){i:Nat}(h0:0<i)(hi:i<sz a):sz (a+i)=0:=by
 by_cases hz:sz (a+i)=0
 ·exact hz
 ·have:=h.apart a (a+i) ha hz (by omega);omega
theorem iK{m:Mem}{v:Int}{n:Nat}(hw:aH v)(ht:fD v)(hkd:v % 8=tagK (m.kAt (v / 8)))(hlt:v / 8<65536)(hu:m.used (v / 8))(hK:0<=m.kAt (v / 8)/\m.kAt (v / 8)<=3)(h2:m.kAt (v / 8)<=1->n=2/\v / 8 % 2=0)
  (ho:2<=m.kAt (v / 8)->gk (m.get (v / 8))/\m.kAt (v / 8)=rawK (hk (m.get (v / 8)))/\(n:Int)=hn (m.get (v / 8))+1/\v / 8 % 64+n<=(m.seg (v / 8 / 64).toNat).n):m.sizeOf v=n:=by
 have ha:eC v:=⟨by unfold fD at ht;omega,hlt⟩
 unfold tagK at hkd
 unfold Mem.sizeOf
 by_cases h1:m.kAt (v / 8)<=1
 ·obtain⟨h3,h4⟩:=h2 h1
  have hp:m.isPair v:=by
   refine⟨?_,h4⟩
   by_cases h0:m.kAt (v / 8)=0
   ·rw[if_pos h0]at hkd;exact .inl ⟨ha,hkd,hu.2.1,h0,hu.2.2⟩
   ·rw[if_neg h0,if_pos (by omega)]at hkd;exact .inr ⟨ha,hkd,hu.2.1,by show m.kAt (v / 8)=1;omega,hu.2.2⟩
  rw[if_pos hp,h3];rfl
 ·rw[if_neg (by omega),if_neg (by omega)]at hkd
  obtain⟨h3,h4,h5,h6⟩:=ho (by omega)
  have hob:m.isObj v:=⟨⟨ha,hkd,hu.2.1,h4,hu.2.2⟩,h3,by omega⟩
  have hnp: ¬m.isPair v:=λhp=>by
   rcases hp.1 with q | q
   ·have:=q.2.1;omega
   ·have:=q.2.1;omega
  rw[if_neg hnp,if_pos hob]
  unfold Mem.len
  rw[if_pos hob];omega
theorem fF.size{m:Mem}{sz:Int->Nat}(h:fF m sz)(ok:bI m){v:Int}(hw:aH v)(hg:Good m sz v)(ht:fD v):m.sizeOf v=sz (v / 8):=by
 obtain⟨h1,h2⟩:=hg.2 ht
 obtain⟨h3,h4⟩:=h.used _ h1
 exact iK hw ht h2 (h.lt ok h1).2 h3 (ok.seg _).kind (h.two _ h1) (λhk=>by
  obtain⟨o1,o2,o3⟩:=h.obj _ h1 hk
  exact⟨o1,o2,o3,h4⟩)

def Mem.strong(m:Mem)(x:Int):Prop:=m.kAt x≠3/\(m.kAt x≠1\/x % 2=1)
instance (m:Mem) (x:Int):Decidable (m.strong x):=by unfold Mem.strong;infer_instance
theorem iL{m:Mem}{k i:Int}(hi:0<=i/\i<64)(hk:0<=k):looks (m.seg k.toNat).kind i ↔ m.strong (k*64+i):=by
 have e:(k*64+i) / 64=k:=by omega
 unfold looks Mem.strong Mem.kAt
 rw[e,show(k*64+i) % 2=i % 2 by omega]

structure TZ where
 m:Mem
 sz:Int->Nat
 O:Nat->Bool
 T:Int
 V:Int->Prop
inductive Reach (Z:TZ):Int->Prop
 | root {v:Int} (h:Z.V v) (ho:aQ Z.O v):Reach Z (v / 8)
 | older {x:Int} (hu:Z.m.used x) (hn:Z.O (x / 64).toNat=false) (hs:Z.m.strong x) (ho:aQ Z.O (Z.m.get x)):Reach Z (Z.m.get x / 8)
 | step {a:Int} {i:Nat} (h:Reach Z a) (hi:i<Z.sz a) (hs:Z.m.strong (a+i)) (ho:aQ Z.O (Z.m.get (a+i))):Reach Z (Z.m.get (a+i) / 8)
def Fw(O:Nat->Bool)(fw:Int->Option Int)(v:Int):Int:=if aQ O v then match fw (v / 8)with | some b=>b*8+v % 8 | none=>v else v
def Dn(O:Nat->Bool)(fw:Int->Option Int)(v:Int):Prop:=aQ O v-> ∃b,fw (v / 8)=some b
theorem iM{O:Nat->Bool}{fw:Int->Option Int}{v:Int}(h: ¬aQ O v):Fw O fw v=v:=by unfold Fw;rw[if_neg h]
theorem gu{O:Nat->Bool}{fw:Int->Option Int}{v b:Int}(h:aQ O v)(hb:fw (v / 8)=some b):Fw O fw v=b*8+v % 8:=by unfold Fw;rw[if_pos h,hb]
def Le(fw fw':Int->Option Int):Prop:= ∀a b,fw a=some b->fw' a=some b
theorem Le.refl(fw:Int->Option Int):Le fw fw:=λ_ _ h=>h
theorem Le.trans{f g h:Int->Option Int}(a:Le f g)(b:Le g h):Le f h:=λx y q=>b x y (a x y q)
theorem Dn.mono{O:Nat->Bool}{f g:Int->Option Int}{v:Int}(h:Dn O f v)(l:Le f g):Dn O g v:=λho=>by obtain⟨b,hb⟩:=h ho;exact⟨b,l _ _ hb⟩
theorem mJ{O:Nat->Bool}{f g:Int->Option Int}{v:Int}(h:Dn O f v)(l:Le f g):Fw O g v=Fw O f v:=by
 by_cases ho:aQ O v
 ·obtain⟨b,hb⟩:=h ho
  rw[gu ho hb,gu ho (l _ _ hb)]
 ·rw[iM ho,iM ho]

def inR(a:Int)(n:Nat)(x:Nat):Bool:=decide (a<=(x:Int)/\(x:Int)<a+n)
theorem jT{a:Int}(h0:0<=a)(N:Nat): ∀n:Nat,a+n<=N->(List.range N).countP (inR a n)=n
 | 0,_=>by
  rw[List.countP_eq_zero]
  intro x _
  unfold inR;simp
 | n+1,h=>by
  rw[gL N (a+n).toNat (inR a (n+1)) (inR a n) (by omega) (λi hi=>by unfold inR;rw[decide_eq_decide];omega) (by unfold inR;rw[decide_eq_true_eq];omega) (by unfold inR;rw[decide_eq_false_iff_not];omega),jT h0 N n (by omega)]
theorem me{α:Type}(p q:α->Bool)(l:List α)(h: ∀x∈l,p x=true->q x=true->False):l.countP (λx=>p x || q x)=l.countP p+l.countP q:=by
 induction l with
 | nil=>rfl
 | cons a l ih=>
  have h1:=ih (λx hx=>h x (by simp[hx]))
  have h2:=h a (by simp)
  rw[List.countP_cons,List.countP_cons,List.countP_cons,h1]
  cases hp:p a<;>cases hq:q a
  ·simp
  ·simp;omega
  ·simp;omega
  ·exact(h2 hp hq).elim
theorem iV(sz:Int->Nat)(N:Nat): ∀L:List Int,L.Nodup->(∀a∈L,0<=a/\a+sz a<=N)->(∀a∈L,∀b∈L,a<b->a+sz a<=b)->(L.map sz).sum=(List.range N).countP (λx=>L.any λa=>inR a (sz a) x)
 | [],_,_,_=>by simp
 | a::L,hn,hb,hd=>by
  rw[List.nodup_cons]at hn
  have ih:=iV sz N L hn.2 (λb h=>hb b (by simp[h])) (λb h c h'=>hd b (by simp[h]) c (by simp[h']))
  simp only[List.map_cons,List.sum_cons,List.any_cons]
  rw[me,ih,jT (hb a (by simp)).1 N _ (hb a (by simp)).2]
  intro x _ h1 h2
  rw[List.any_eq_true]at h2
  obtain⟨b,hbL,h2⟩:=h2
  unfold inR at h1 h2
  rw[decide_eq_true_eq]at h1 h2
  rcases Int.lt_trichotomy a b with h | h | h
  ·have:=hd a (by simp) b (by simp[hbL]) h;omega
  ·subst h;exact hn.1 hbL
  ·have:=hd b (by simp[hbL]) a (by simp) h;omega
theorem jU(p:Nat->Bool): ∀n:Nat,(List.range (64*n)).countP (λx=>p (x / 64))=64*(List.range n).countP p
 | 0=>rfl
 | n+1=>by
  rw[show 64*(n+1)=64*n+64 by omega,List.range_add,List.countP_append,jU p n,List.range_succ (n:=n),List.countP_append,List.countP_map]
  have e:(List.range 64).countP ((λx=>p (x / 64)) ∘ λx=>64*n+x)=64*[n].countP p:=by
   have e1:(List.range 64).countP ((λx=>p (x / 64)) ∘ λx=>64*n+x)=(List.range 64).countP (λ_=>p n):=by
    refine List.countP_congr λx hx=>?_
    rw[List.mem_range]at hx
    show p ((64*n+x) / 64)=true ↔ p n=true
    rw[show(64*n+x) / 64=n by omega]
   rw[e1]
   cases hp:p n
   ·simp[hp]
   ·simp[hp]
  rw[e];omega
theorem m8{α:Type}{p q:α->Bool}(l:List α)(h: ∀x∈l,p x=true->q x=true):l.countP p<=l.countP q:=List.countP_mono_left h
def TZ.yk(Z:TZ)(k:Int):Nat:=(List.range 1024).countP λj=>Z.O j && decide ((Z.m.seg j).kind=k)
def TZ.uk(Z:TZ)(al:List Int)(k:Int):Nat:=((al.filter λa=>decide (Z.m.kAt a=k)).map Z.sz).sum
structure Olds (Z:TZ) (al:List Int):Prop where
 nodup:al.Nodup
 mem: ∀a∈al,Z.sz a≠0/\Z.O (a / 64).toNat=true
theorem TZ.uk_le{Z:TZ}(hs:fF Z.m Z.sz)(ok:bI Z.m){al:List Int}(h:Olds Z al)(k:Int):Z.uk al k<=64*Z.yk k:=by
 unfold TZ.uk TZ.yk
 have hl:=ok.lim
 have h64: ∀j,(Z.m.seg j).n<=64:=λj=>(ok.seg j).n.2
 have hmem: ∀a∈al.filter (λa=>decide (Z.m.kAt a=k)),a∈al/\Z.m.kAt a=k:=λa ha=>by
  rw[List.mem_filter]at ha;exact⟨ha.1,by simpa using ha.2⟩
 rw[iV Z.sz (64*1024) _ (h.nodup.filter _) (λa ha=>?_) (λa ha b hb hab=>?_),<-jU]
 ·refine m8 _ (λx _ hx=>?_)
  rw[List.any_eq_true]at hx
  obtain⟨a,ha,hx⟩:=hx
  obtain⟨h1,h2⟩:=hmem a ha
  obtain⟨h3,h4⟩:=h.mem a h1
  unfold inR at hx
  rw[decide_eq_true_eq]at hx
  obtain⟨u1,u2⟩:=hs.used a h3
  have:=h64 (a / 64).toNat
  have h0:=u1.1
  have e:x / 64=(a / 64).toNat:=by omega
  rw[e,h4,Bool.true_and,decide_eq_true_eq];exact h2
 ·obtain⟨h1,_⟩:=hmem a ha
  obtain⟨h3,_⟩:=h.mem a h1
  obtain⟨u1,u2⟩:=hs.used a h3
  have:=h64 (a / 64).toNat
  have:=u1.2.1.2.1
  exact⟨u1.1,by have:=u1.1;omega⟩
 ·exact hs.apart a b (h.mem a (hmem a ha).1).1 (h.mem b (hmem b hb).1).1 hab
theorem TZ.uk_cons(Z:TZ)(al:List Int)(a k:Int):Z.uk (a::al) k=(if Z.m.kAt a=k then Z.sz a else 0)+Z.uk al k:=by
 unfold TZ.uk
 by_cases h:Z.m.kAt a=k
 ·rw[List.filter_cons_of_pos (by simpa using h),if_pos h];simp
 ·rw[List.filter_cons_of_neg (by simpa using h),if_neg h];simp

def Sp.fill(s:Sp)(T:Int)(k:Nat):Int:=if s.cur T.toNat k=0 then 0 else(s.mem.seg (s.cur T.toNat k-1).toNat).n
structure Cap (Z:TZ) (F0:Int) (al:List Int) (s:Sp) (c:Nat->Nat):Prop where
 free:s.mem.free+((c 0:Nat)+(c 1:Nat)+(c 2:Nat)+(c 3:Nat):Int)=F0
 none: ∀k,k<4->s.cur Z.T.toNat k=0->c k=0
 le: ∀k,k<4->64*(c k:Int)+s.fill Z.T k<=2*(Z.uk al k:Int)+64
theorem Sp.fill_rng{s:Sp}(ok:SpOK s)(T:Int)(k:Nat):0<=s.fill T k/\s.fill T k<=64:=by
 unfold Sp.fill
 split
 ·omega
 ·exact(ok.mem.seg _).n
theorem Cap.room{Z:TZ}{F0:Int}{al:List Int}{s:Sp}{c:Nat->Nat}(h:Cap Z F0 al s c)(ok:SpOK s)(hs:fF Z.m Z.sz)(okm:bI Z.m)(ho:Olds Z al)(hF:2*((Z.yk 0:Int)+Z.yk 1+Z.yk 2+Z.yk 3)+8<=F0):1<=s.mem.free:=by
 have q: ∀k:Nat,k<4->(c k:Int)<=2*(Z.yk k:Int)+1:=λk hk=>by
  have h1:=h.le k hk
  have h2:=TZ.uk_le hs okm ho (k:Int)
  have h3:=Sp.fill_rng ok Z.T k
  omega
 have q0:=q 0 (by omega)
 have q1:=q 1 (by omega)
 have q2:=q 2 (by omega)
 have q3:=q 3 (by omega)
 have:=h.free
 have e0:Z.yk ((0:Nat):Int)=Z.yk 0:=rfl
 have e1:Z.yk ((1:Nat):Int)=Z.yk 1:=rfl
 have e2:Z.yk ((2:Nat):Int)=Z.yk 2:=rfl
 have e3:Z.yk ((3:Nat):Int)=Z.yk 3:=rfl
 rw[e0]at q0;rw[e1]at q1;rw[e2]at q2;rw[e3]at q3
 omega

theorem Sp.fill_eq{s:Sp}{T v:Int}{k:Nat}(h:s.cur T.toNat k=v):s.fill T k=if v=0 then 0 else(s.mem.seg (v-1).toNat).n:=by unfold Sp.fill;rw[h]
theorem Sp.alloc_fill{s:Sp}(ok:SpOK s){T k n:Int}(h:(s.alloc T k n).2.2=0): ∃d:Nat,(s.alloc T k n).1.mem.free=s.mem.free-d/\(s.alloc T k n).1.cur T.toNat k.toNat≠0/\(∀j:Nat,j≠k.toNat->(s.alloc T k n).1.cur T.toNat j=s.cur T.toNat j/\(s.alloc T k n).1.fill T j=s.fill T j)/\
  ((d=0/\s.cur T.toNat k.toNat≠0/\(s.alloc T k n).1.fill T k.toNat=s.fill T k.toNat+n)\/(d=1/\(s.cur T.toNat k.toNat=0\/64<s.fill T k.toNat+n)/\(s.alloc T k n).1.fill T k.toNat=n)):=by
 unfold Sp.alloc at*
 by_cases hm:may T k n
 case neg=>rw[if_pos hm]at h;exact absurd h (by show ¬((1:Int)=0);decide)
 rw[if_neg (λhh=>hh hm)]at h⊢
 have hg:=hm.1
 have hk:0<=k/\k<=3:=by have:=hm.2;omega
 have hn:1<=n/\n<=63:=by have:=hm.2;omega
 by_cases hc:s.cur T.toNat k.toNat≠0/\(s.mem.bump (s.cur T.toNat k.toNat-1) n).2.2=0
 ·rw[if_pos hc]at h⊢
  obtain⟨hhas,hd,hf,he⟩:=Mem.bump_ok ok.mem hc.2
  refine⟨0,?_,hc.1,λj hj=>⟨rfl,?_⟩,.inl ⟨rfl,hc.1,?_⟩⟩
  ·show(s.mem.bump _ _).1.free=_
   rw[(Mem.bump_lim _ _ _).2.2];omega
  ·unfold Sp.fill
   show(if s.cur T.toNat j=0 then 0 else((s.mem.bump _ _).1.seg _).n)=_
   by_cases h0:s.cur T.toNat j=0
   ·rw[if_pos h0,if_pos h0]
   ·rw[if_neg h0,if_neg h0,he]
    rw[Mem.upd_other]
    intro e
    rcases ok.cur T.toNat j with q | ⟨_,_,_,q4⟩
    ·exact h0 q
    rcases ok.cur T.toNat k.toNat with q | ⟨_,_,_,r4⟩
    ·exact hc.1 q
    rw[e,r4]at q4;omega
  ·unfold Sp.fill
   show(if s.cur T.toNat k.toNat=0 then 0 else((s.mem.bump _ _).1.seg _).n)=_
   rw[if_neg hc.1,if_neg hc.1,he]
   show((s.mem.upd _ _).seg _).n=_
   rw[Mem.upd_same];rfl
 rw[if_neg hc]at h⊢
 by_cases ht:(s.mem.take T k).2.2=0
 case neg=>rw[if_neg ht]at h;exact absurd h ht
 rw[if_pos ht]at h⊢
 have hok:=ok.mem.take T k
 have hte:s.mem.take T k=({s.mem with count:=s.mem.count+1,free:=s.mem.free-1}.upd s.mem.first (Seg.new T k (s.mem.count+1)),(s.mem.first:Int),0)/\s.mem.free≠0:=by
  unfold Mem.take at ht⊢
  rw[if_neg (by omega)]at ht⊢
  by_cases hf:s.mem.free=0
  ·rw[if_pos hf]at ht;exact absurd ht (by show ¬((2:Int)=0);decide)
  ·rw[if_neg hf];exact⟨rfl,hf⟩
 obtain⟨hte,hfree⟩:=hte
 obtain⟨hf1,hf0⟩:=Mem.first_spec ok.mem hfree
 rw[hte]at h hok⊢
 simp only at h hok⊢
 obtain⟨hhas,hd,hf,he⟩:=Mem.bump_ok hok h
 have en:((s.mem.first:Int)).toNat=s.mem.first:=by omega
 refine⟨1,?_,?_,λj hj=>⟨?_,?_⟩,.inr ⟨rfl,?_,?_⟩⟩
 ·rw[(Mem.bump_lim _ _ _).2.2];show s.mem.free-1=_;omega
 ·show(if T.toNat=T.toNat/\k.toNat=k.toNat then(s.mem.first:Int)+1 else _)≠0
  rw[if_pos ⟨rfl,rfl⟩];omega
 ·show(if T.toNat=T.toNat/\j=k.toNat then(s.mem.first:Int)+1 else _)=_
  rw[if_neg (λhh=>hj hh.2)]
 ·rw[Sp.fill_eq (v:=s.cur T.toNat j) (by show(if T.toNat=T.toNat/\j=k.toNat then(s.mem.first:Int)+1 else _)=_;rw[if_neg (λhh=>hj hh.2)])]
  unfold Sp.fill
  by_cases h0:s.cur T.toNat j=0
  ·rw[if_pos h0,if_pos h0]
  ·rw[if_neg h0,if_neg h0,he,en]
   rcases ok.cur T.toNat j with q | ⟨_,q2,_,_⟩
   ·exact absurd q h0
   have hne:(s.cur T.toNat j-1).toNat≠s.mem.first:=λe=>q2.2.2 (by rw[e];exact hf0)
   show((Mem.upd (Mem.upd _ _ _) _ _).seg _).n=_
   rw[Mem.upd_other _ _ hne,Mem.upd_other _ _ hne]
 ·by_cases h0:s.cur T.toNat k.toNat=0
  ·exact .inl h0
  ·right
   rcases ok.cur T.toNat k.toNat with q | ⟨_,q2,_,_⟩
   ·exact absurd q h0
   have hlt: ¬((s.mem.seg (s.cur T.toNat k.toNat-1).toNat).n+n<=64):=λhle=>hc ⟨h0,Mem.bump_can q2 hn.1 hle⟩
   unfold Sp.fill
   rw[if_neg h0];omega
 ·rw[Sp.fill_eq (v:=(s.mem.first:Int)+1) (by show(if T.toNat=T.toNat/\k.toNat=k.toNat then(s.mem.first:Int)+1 else _)=_;rw[if_pos ⟨rfl,rfl⟩]),if_neg (by omega),he,en,show((s.mem.first:Int)+1-1).toNat=s.mem.first by omega]
  show((Mem.upd (Mem.upd _ _ _) _ _).seg _).n=_
  rw[Mem.upd_same]
  show((Mem.upd _ _ _).seg s.mem.first).n+n=n
  rw[Mem.upd_same];show 0+n=n;omega
theorem Sp.fill_same{s:Sp}{m:Mem}(h:aZ s.mem m)(T:Int)(k:Nat):({s with mem:=m}:Sp).fill T k=s.fill T k:=by
 unfold Sp.fill
 show(if s.cur T.toNat k=0 then 0 else(m.seg _).n)=_
 rw[(h.seg _).2.2.1]
theorem Cap.step{Z:TZ}{F0:Int}{al:List Int}{s:Sp}{c:Nat->Nat}(h:Cap Z F0 al s c)(ok:SpOK s){a:Int}{m:Mem}(hk:0<=Z.m.kAt a/\Z.m.kAt a<=3)(ha:(s.alloc Z.T (Z.m.kAt a) (Z.sz a)).2.2=0)(hm:aZ (s.alloc Z.T (Z.m.kAt a) (Z.sz a)).1.mem m): ∃c',Cap Z F0 (a::al) {(s.alloc Z.T (Z.m.kAt a) (Z.sz a)).1 with mem:=m} c':=by
 obtain⟨d,d1,d2,d3,d4⟩:=Sp.alloc_fill ok ha
 generalize hs':(s.alloc Z.T (Z.m.kAt a) (Z.sz a)).1=s' at*
 generalize hkk:Z.m.kAt a=k at*
 have ek:((k.toNat:Nat):Int)=k:=by omega
 refine⟨λj=>c j+if j=k.toNat then d else 0,?_,λj hj h0=>?_,λj hj=>?_⟩
 ·show m.free+_=F0
  rw[hm.free,d1]
  have:=h.free
  rcases(show k.toNat=0\/k.toNat=1\/k.toNat=2\/k.toNat=3 by omega)with e | e | e | e<;>rw[e]<;>simp<;>omega
 ·have h0':s'.cur Z.T.toNat j=0:=h0
  by_cases e:j=k.toNat
  ·rw[e]at h0';exact absurd h0' d2
  ·rw[(d3 j e).1]at h0'
   show c j+(if j=k.toNat then d else 0)=0
   rw[if_neg e,h.none j hj h0']
 ·rw[Sp.fill_same hm,TZ.uk_cons,hkk]
  have hle:=h.le j hj
  by_cases e:j=k.toNat
  ·subst e
   simp only[if_true]
   rw[ek]at hle⊢
   rw[if_pos rfl]
   rcases d4 with⟨rfl,_,e2⟩ | ⟨rfl,e1,e2⟩
   ·rw[e2];omega
   ·rw[e2]
    rcases e1 with e1 | e1
    ·have:=h.none k.toNat hj e1
     have hf:=Sp.fill_rng ok Z.T k.toNat
     omega
    ·omega
  ·rw[(d3 j e).2]
   simp only[if_neg e]
   rw[if_neg (show ¬k=(j:Int)by omega)]
   omega
