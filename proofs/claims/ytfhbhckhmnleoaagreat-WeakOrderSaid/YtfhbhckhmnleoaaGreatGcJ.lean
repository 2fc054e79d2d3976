/-
 Acts of the law of traces (package morainelaw11): words of values, what is set. Proves nothing of any one statement.
-/
import Derived.Test.YtfhbhckhmnleoaaGreatAct11
import Derived.Test.YtfhbhckhmnleoaaGreatGcB
import Derived.Test.YtfhbhckhmnleoaaGreatWords
import Derived.Test.YtfhbhckhmnleoaaGreatFweak
import Derived.Test.YtfhbhckhmnleoaaGreatTrF
set_option linter.unusedVariables false
set_option linter.unusedSimpArgs false
namespace Go.Proofs.YtfhbhckhmnleoaaGreat
open Go
theorem OfIs.none{w k t a x m:Int}(h:OfIs w k t a x m):k=0 ↔ mayW w=false:=by
 unfold OfIs at h
 unfold mayW
 rcases h with h | h | h | h | h | h
 ·rw[if_pos h.1];exact⟨λe=>by omega,λe=>by simp at e⟩
 ·rw[if_neg (by omega),if_pos h.1,zX h.2.1];exact⟨λe=>by omega,λe=>by simp at e⟩
 ·rw[if_neg (by omega),if_neg (by omega),if_pos h.1,if_neg (by omega),zX (by omega)];exact⟨λe=>by omega,λe=>by simp at e⟩
 ·rw[if_neg (by omega),if_neg (by omega),if_pos h.1,if_pos h.2.1,h.2.2.1];exact⟨λe=>by omega,λe=>by simp at e⟩
 ·rw[if_neg (by omega),if_neg (by omega),if_neg (by omega),if_pos h.1,zX h.2.1];exact⟨λe=>by omega,λe=>by simp at e⟩
 ·exact⟨λ_=>h.1,λ_=>h.2.1⟩
structure Went (H H':zV) (b:Blk) (x:Hp) (sz:Int->Nat) (x':Hp) (sz':Int->Nat):Prop where
 view:View H' (some ⟨b.h,0,none⟩) (some (b,x'))
 inv:Inv x'.sp sz'
 lift:Lift x.sp.mem sz x'.sp.mem sz'
 cf:x'.sp.cf=x.sp.cf
 fr:Fr [b.sp,b.m,b.s] H H'
theorem Went.ext{H c:zV}{b:Blk}{x:Hp}{a:Int->Nat}(V:View H (some ⟨b.h,0,none⟩) (some (b,x)))(I:Inv x.sp a)(e:Ext H c):Went H c b x a x a:=⟨V.ext e,I,Lift.refl _ _,rfl,e.fr⟩
theorem Went.trans{A B C:zV}{b:Blk}{x y z:Hp}{f g h:Int->Nat}(p:Went A B b x f y g)(q:Went B C b y g z h):Went A C b x f z h:=⟨q.view,q.inv,p.lift.trans q.lift,q.cf.trans p.cf,p.fr.trans q.fr⟩
structure Act (H H':zV) (b:Blk) (x:Hp) (sz:Int->Nat) (mB:zW) (made:List Int) (x':Hp) (sz':Int->Nat) (B':zW) (c':Nat) (made':List Int):Prop where
 view:View H' (some ⟨b.h,0,none⟩) (some (b,x'))
 inv:Inv x'.sp sz'
 cf:x'.sp.cf=x.sp.cf
 fr:Fr ([b.sp,b.m,b.s]++blks mB) H H'
 own:Own H' 28 1 B' made'.length c' (wvs made')
 good: ∀w∈made',aC w/\Good x'.sp.mem sz' w
 len:made'.length<=made.length+1
 blk: ∀j∈blks B',j∈blks mB\/H.size<=j
 news:made'=made\/ ∃w,made'=made++[w]/\w ∉ made/\isTag w
variable{a:Mem}
@[irreducible] def tops:Nat:=65536
theorem oJ:tops=65536:=by unfold tops;rfl
def Mem.cnt(m:Mem)(p:Int->Bool):Nat:=(List.range tops).countP λx:Nat=>decide (m.used x) && p x
theorem Mem.words_to(m:Mem)(d:aV m)(a:List Int): ∀k,k<=m.limit->m.sumN (m.takenTo a k)=((List.range (64*k)).countP λx:Nat=>decide (m.used x) && decide (a=[]\/m.gAt x∈a):Nat)
 | 0,_=>rfl
 | k+1,h=>by
  have hn:=(d.seg k).n
  have p:=(d.seg k).taken
  rw[Mem.takenTo_succ,m4,Mem.words_to m d a k (by omega),show 64*(k+1)=64*k+64 by omega,List.range_add,List.countP_append,List.countP_map]
  have e: ∀i:Nat,i<64->((decide (m.used ((64*k+i:Nat):Int)) && decide (a=[]\/m.gAt ((64*k+i:Nat):Int)∈a))=(decide (0< (m.seg k).taken/\(a=[]\/(m.seg k).gen∈a)) && inR 0 (m.seg k).n.toNat i)):=λi c=>by
   have f:(((64*k+i:Nat):Int) / 64).toNat=k:=by omega
   have g:((64*k+i:Nat):Int) % 64=i:=by omega
   have l:m.gAt ((64*k+i:Nat):Int)=(m.seg k).gen:=by unfold Mem.gAt;rw[f]
   have o:m.used ((64*k+i:Nat):Int) ↔ 0< (m.seg k).taken/\(i:Int)< (m.seg k).n:=by
    unfold Mem.used Mem.has
    rw[f,g]
    exact⟨λq=>⟨by omega,by omega⟩,λq=>⟨by omega,⟨by omega,by omega,by omega⟩,by omega⟩⟩
   rw[Bool.eq_iff_iff]
   unfold inR
   simp only[Bool.and_eq_true,decide_eq_true_eq]
   rw[o,l]
   exact⟨λq=>⟨⟨q.1.1,q.2⟩,by omega,by omega⟩,λq=>⟨⟨q.1.1,by omega⟩,q.1.2⟩⟩
  have j:(List.range 64).countP ((λx:Nat=>decide (m.used x) && decide (a=[]\/m.gAt x∈a)) ∘ λx=>64*k+x)=if 0< (m.seg k).taken/\(a=[]\/(m.seg k).gen∈a)then(m.seg k).n.toNat else 0:=by
   rw[List.countP_congr (q:=λi=>decide (0< (m.seg k).taken/\(a=[]\/(m.seg k).gen∈a)) && inR 0 (m.seg k).n.toNat i) (λi c=>by
    rw[List.mem_range]at c
    show((decide (m.used ((64*k+i:Nat):Int)) && decide (a=[]\/m.gAt ((64*k+i:Nat):Int)∈a))=true) ↔ _
    rw[e i c])]
   by_cases b:0< (m.seg k).taken/\(a=[]\/(m.seg k).gen∈a)
   ·rw[if_pos b]
    simp only[zX b,Bool.true_and]
    exact jr (by omega) 64 _ (by omega)
   ·rw[if_neg b]
    simp only[zQ b,Bool.false_and]
    exact List.countP_eq_zero.2 (λ_ _=>by simp)
  rw[j]
  by_cases b:0< (m.seg k).taken/\(a=[]\/(m.seg k).gen∈a)
  ·rw[if_pos b,if_pos b]
   simp[Mem.sumN];omega
  ·rw[if_neg b,if_neg b]
   simp[Mem.sumN]
theorem Mem.words_cnt(c:aV a)(b:List Int):a.words b=(a.cnt λx=>decide (b=[]\/a.gAt x∈b):Nat):=by
 unfold Mem.words Mem.cnt
 have f:=c.lim
 rw[Mem.words_to a c b _ (Nat.le_refl _)]
 congr 1
 have g:=oJ
 rw[show tops=64*a.limit+(tops-64*a.limit)by omega]
 refine(iR _ _ _ (λi d e=>?_)).symm
 rw[Bool.and_eq_false_iff]
 left
 refine zQ λq=>?_
 have:=q.2.1.2.1
 omega
def Mem.above(m:Mem)(g:Int):Nat:=m.cnt λx=>decide (g<m.gAt x)
theorem dT.all{m:Mem}{l:List Nat}(h:dT m [] l)(a:aV m){k:Int}(hk:m.has k):k.toNat∈l:=by
 refine h.perm.mem_iff.2 ?_
 unfold Mem.takenTo
 rw[List.mem_filter,List.mem_range]
 obtain⟨b,c,d⟩:=hk
 have:=(a.seg k.toNat).taken
 refine⟨by omega,?_⟩
 simp
 omega
structure Alls (m:Mem) (all:List Int):Prop where
 nodup:all.Nodup
 good: ∀w∈all,aC w/\m.sizeOf w≠0
theorem pf{w:Int}(h:a.sizeOf w≠0):dH w:=by
 unfold Mem.sizeOf at h
 by_cases c:a.isPair w
 ·rcases c.1 with q | q<;>exact q.1
 ·rw[if_neg c]at h
  by_cases b:a.isObj w
  ·exact b.1.1
  ·rw[if_neg b]at h;exact absurd rfl h
theorem Alls.len{m:Mem}{c:List Int}(h:Alls m c):c.length<=524288:=by
 have d:=iW (λ_=>1) 524288 c h.nodup (λa f=>by
  obtain⟨i,j⟩:=h.good a f
  have:=(pf j).2
  exact⟨i.1,by show a+1<=524288;omega⟩) (λa _ b _ g=>by show a+1<=b;omega)
 have e:(c.map λ_=>1).sum=c.length:=by
  induction c with
  | nil=>rfl
  | cons a l _=>simp[List.map_const'];omega
 rw[e]at d
 rw[d]
 exact Nat.le_trans List.countP_le_length (by rw[List.length_range];exact Nat.le_refl _)
structure St (H0 H:zV) (b:Blk) (x:Hp) (sz:Int->Nat) (mB:zW) (mC:Nat) (made:List Int):Prop where
 e:Ext H0 H
 view:View H (some ⟨b.h,0,none⟩) (some (b,x))
 inv:Inv x.sp sz
 own:Own H 28 1 mB made.length mC (wvs made)
 good: ∀w∈made,aC w/\Good x.sp.mem sz w
 hb: ∀j∈b.all,H0.size<=j
 hm: ∀j∈blks mB,H0.size<=j/\j ∉ b.all
theorem St.ext{H0 H c:zV}{b:Blk}{x:Hp}{g:Int->Nat}{d:zW}{f:Nat}{a:List Int}(h:St H0 H b x g d f a)(e:Ext H c):St H0 c b x g d f a:=
 ⟨h.e.trans e,h.view.ext e,h.inv,h.own.ext e,h.good,h.hb,h.hm⟩
theorem St.blt{c H:zV}{b:Blk}{x:Hp}{g:Int->Nat}{e:zW}{f:Nat}{a:List Int}(h:St c H b x g e f a): ∀j∈b.all,j<H.size:=by
 obtain⟨-,d,-⟩:=h.view.inv
 exact d.lt
def Sp.visL(O:Nat->Bool)(T:Int)(s:Sp)(l:List Int):Sp×List Int:=l.foldl (λst w=>((st.1.visit O T w).1,st.2++[(st.1.visit O T w).2])) (s,[])
def brk(O:Nat->Bool)(m:Mem)(a:Int):Mem:=if aF O (m.read a)then m.wr a 44 else m
theorem ni(O:Nat->Bool)(m:Mem)(a:Int):aS m (brk O m a):=by
 unfold brk
 split
 ·exact aS.wr m a 44
 ·exact aS.refl m
theorem rA{s:Sp}(b:SpOK s)(O:Nat->Bool)(a:Int):SpOK {s with mem:=brk O s.mem a}:=by
 unfold brk
 split
 ·exact b.wr a (by decide)
 ·exact b
theorem ma(O:Nat->Bool): ∀(l:List Int) (m:Mem),aS m (l.foldl (brk O) m)
 | [],m=>aS.refl m
 | a::l,m=>(ni O m a).trans (ma O l _)
theorem oK(O:Nat->Bool): ∀(l:List Int) {s:Sp},SpOK s->SpOK {s with mem:=l.foldl (brk O) s.mem}
 | [],s,ok=>ok
 | a::l,s,ok=>oK O l (rA ok O a)
variable{a:Tr}{b:Mem}
theorem fj{k b x:Int}{n:Nat}:x∈fC k b n ↔ ∃j:Nat,j<n/\x=k*64+(b+2*(j:Int)):=by
 unfold fC
 rw[List.mem_map]
 constructor
 ·rintro⟨j,a,rfl⟩;rw[List.mem_range]at a;exact⟨j,a,rfl⟩
 ·rintro⟨j,a,rfl⟩;exact⟨j,by rw[List.mem_range];exact a,rfl⟩
theorem mb(O:Nat->Bool): ¬aF O 44:=λh=>by have:=h.1.1;omega
theorem qH{O:Nat->Bool}{a x:Int}(f:b.used x):(brk O b a).get x=if x=a/\aF O (b.get x)then 44 else b.get x:=by
 have h:=f.1
 unfold brk
 by_cases e:x=a
 ·subst e
  have i:b.read x=b.get x:=by unfold Mem.read;rw[if_pos f]
  rw[i]
  by_cases c:aF O (b.get x)
  ·rw[if_pos c,if_pos ⟨rfl,c⟩]
   unfold Mem.wr;rw[if_pos f,Mem.set_get x h h,if_pos rfl]
  ·rw[if_neg c,if_neg (λq=>c q.2)]
 ·rw[if_neg (show ¬(x=a/\aF O (b.get x))from λq=>e q.1)]
  split
  ·unfold Mem.wr
   by_cases d:b.used a
   ·rw[if_pos d,Mem.set_get x h d.1,if_neg e]
   ·rw[if_neg d]
  ·rfl
theorem li(O:Nat->Bool): ∀(l:List Int) {m:Mem} {x:Int},m.used x->(l.foldl (brk O) m).get x=if x∈l/\aF O (m.get x)then 44 else m.get x
 | [],m,x,hx=>by rw[if_neg (λq=>by simp at q)];rfl
 | a::l,m,x,hx=>by
  have b:=li O l (m:=brk O m a) ((ni O m a).used.2 hx)
  show(l.foldl (brk O) (brk O m a)).get x=_
  rw[b,qH hx]
  by_cases e:x=a/\aF O (m.get x)
  ·rw[if_pos e,if_neg (λq=>mb O q.2),if_pos ⟨by rw[e.1];simp,e.2⟩]
  ·rw[if_neg e]
   by_cases h:x∈l/\aF O (m.get x)
   ·rw[if_pos h,if_pos ⟨by simp[h.1],h.2⟩]
   ·rw[if_neg h,if_neg (λq=>?_)]
    rcases List.mem_cons.1 q.1 with r | r
    ·exact e ⟨r,q.2⟩
    ·exact h ⟨r,q.2⟩
theorem fG{b a:Int}{j:Nat}:j<ec b a ↔ b+2*(j:Int)<a:=by
 unfold ec;omega
section
variable {Z:TZ} {g F0:Int} {fw:Int->Option Int} {al:List Int} {s:Sp} {sz:Int->Nat}
theorem eR.frmAt(B:eR Z.m g Z.T a){k:Int}(hk:0<=k):seenAt a.frm k=if Z.m.has k/\(Z.m.seg k.toNat).gen=Z.T then(Z.m.seg k.toNat).n else 0:=by
 unfold seenAt
 rw[B.frm k hk]
 by_cases h:Z.m.has k/\(Z.m.seg k.toNat).gen=Z.T
 ·rw[if_pos h,if_pos h]
 ·rw[if_neg h,if_neg h]
theorem mc(S:aO Z g F0)(t:Tri Z F0 fw al s sz)(B:eR Z.m g Z.T a){l:List Nat}(z:dT s.mem [Z.T] l): ∀H∈s.mem.weaks a l,s.mem.kAt H=1/\H % 2=0/\H<=1000000:=by
 intro H o
 have p:=t.ok.mem.lim
 unfold Mem.weaks at o
 rcases List.mem_append.1 o with h | h
 ·obtain⟨k,hk,h⟩:=List.mem_flatMap.1 h
  obtain⟨r,u,_,_⟩:=z.has hk
  have i:((k:Nat):Int).toNat=k:=by omega
  unfold Mem.weakSeg at h
  by_cases b:(s.mem.seg k).kind=1/\a.old k=false
  case neg=>rw[if_neg b]at h;simp at h
  rw[if_pos b]at h
  obtain⟨j,d,rfl⟩:=fj.1 h
  rw[fG]at d
  have hn:=(t.ok.mem.seg k).n
  have x:=B.frmAt (k:=k) (by omega)
  have w:seenAt a.frm k % 2=0/\0<=seenAt a.frm k:=by
   rw[x,i]
   by_cases q:Z.m.has k/\(Z.m.seg k).gen=Z.T
   ·rw[if_pos q]
    have A:=(t.heads.seg k (by have:=q.1.2.2;rw[i]at this;exact this)).2.1
    exact⟨S.even k (by rw[<-A,b.1];decide),(S.ok.seg k).n.1⟩
   ·rw[if_neg q];exact⟨rfl,Int.le_refl _⟩
  refine⟨?_,by omega,by omega⟩
  unfold Mem.kAt
  rw[show((k:Int)*64+(seenAt a.frm k+2*(j:Int))) / 64=k by omega,i];exact b.1
 ·obtain⟨c,b,h⟩:=List.mem_flatMap.1 h
  obtain⟨v,C,D,E⟩:=B.cardOf S c b
  have e:=t.heads.has v
  have f:s.mem.segOr c.1=s.mem.seg c.1.toNat:=by unfold Mem.segOr;rw[if_pos e]
  unfold Mem.weakCard at h
  rw[f]at h
  by_cases hk:(s.mem.seg c.1.toNat).kind=1
  case neg=>rw[if_neg hk]at h;simp at h
  rw[if_pos hk]at h
  obtain⟨j,d,rfl⟩:=fj.1 h
  rw[fG]at d
  have hn:=(t.ok.mem.seg c.1.toNat).n
  have F:=e.1
  have G:=e.2.1
  have y:c.2*16+2*(j:Int)< (s.mem.seg c.1.toNat).n/\c.2*16+2*(j:Int)< (c.2+1)*16:=by omega
  refine⟨?_,by omega,by omega⟩
  unfold Mem.kAt
  rw[show(c.1*64+(c.2*16+2*(j:Int))) / 64=c.1 by omega];exact hk
theorem me(S:aO Z g F0)(t:Tri Z F0 fw al s sz)(hm:ii Z.m)(B:eR Z.m g Z.T a)(E:a.old=Z.O){l:List Nat}(G:dT s.mem [Z.T] l){x v:Int}(d:s.mem.used x)(D:Z.O (x / 64).toNat=false)(hk:s.mem.kAt x=1)(Q:x % 2=0)(J:Was Z fw x v)(c:aF Z.O v):x∈s.mem.weaks a l:=by
 have C:=t.ok.mem.lim
 have M:=d.1
 have R:=d.2.1.2.1
 unfold Mem.weaks
 rcases J with I | ⟨_,⟨e,A,o⟩ | ⟨U,b,i,e,A,o,N⟩⟩
 ·exact absurd c (t.qok x v I).young
 ·subst o
  have h:Z.m.kAt x=1:=by rw[<-(t.kAt e).1];exact hk
  have F:=B.dirty S hm e D (by rw[h];decide) c (S.sound.good x e (by rw[h];decide))
  refine List.mem_append_right _ (List.mem_flatMap.2 ⟨_,F,?_⟩)
  have y:s.mem.segOr (x / 64)=s.mem.seg (x / 64).toNat:=by unfold Mem.segOr;rw[if_pos d.2.1]
  unfold Mem.weakCard
  rw[y,if_pos hk]
  have hn:=d.2.2
  refine fj.2 ⟨((x % 64 % 16) / 2).toNat,?_,?_⟩
  ·rw[fG]
   show x % 64 / 16*16+2*((((x % 64 % 16) / 2).toNat:Nat):Int)<min (s.mem.seg (x / 64).toNat).n ((x % 64 / 16+1)*16)
   omega
  ·show x=x / 64*64+(x % 64 / 16*16+2*((((x % 64 % 16) / 2).toNat:Nat):Int))
   omega
 ·have z:=(t.img U b e).2
  have P:=z.fit
  have j:x / 64=b / 64:=by omega
  have f:(s.mem.seg (x / 64).toNat).gen=Z.T:=by rw[j];exact z.gen
  have u:(x / 64).toNat∈l:=by
   refine G.perm.mem_iff.2 ?_
   unfold Mem.takenTo
   rw[List.mem_filter,List.mem_range]
   have:=d.2.1.2.2
   have:=(t.ok.mem.seg (x / 64).toNat).taken
   refine⟨by omega,?_⟩
   simp only[Bool.and_eq_true,decide_eq_true_eq,Bool.or_eq_true,List.mem_singleton]
   exact⟨by omega,.inr f⟩
  refine List.mem_append_left _ (List.mem_flatMap.2 ⟨_,u,?_⟩)
  unfold Mem.weakSeg
  rw[if_pos ⟨hk,by rw[E];exact D⟩]
  have L:(((x / 64).toNat:Nat):Int)=x / 64:=by omega
  rw[L]
  have p:=B.frmAt (k:=x / 64) (by omega)
  have w: ¬Z.m.used x:=by rw[o];exact z.new i A
  have H:seenAt a.frm (x / 64) % 2=0/\0<=seenAt a.frm (x / 64)/\seenAt a.frm (x / 64)<=x % 64:=by
   rw[p]
   by_cases q:Z.m.has (x / 64)/\(Z.m.seg (x / 64).toNat).gen=Z.T
   ·rw[if_pos q]
    have K:=(t.heads.seg (x / 64).toNat q.1.2.2).2.1
    refine⟨S.even _ (by rw[<-K];show s.mem.kAt x<=1;rw[hk];decide),(S.ok.seg _).n.1,?_⟩
    rcases Int.lt_or_le (x % 64) (Z.m.seg (x / 64).toNat).n with r | r
    ·exact absurd ⟨M,q.1,r⟩ w
    ·exact r
   ·rw[if_neg q];exact⟨rfl,Int.le_refl _,by omega⟩
  have hn:=d.2.2
  refine fj.2 ⟨((x % 64-seenAt a.frm (x / 64)) / 2).toNat,?_,?_⟩
  ·rw[fG];omega
  ·omega
theorem Broke.of(S:aO Z g F0)(t:Tri Z F0 fw al s sz)(hm:ii Z.m)(B:eR Z.m g Z.T a)(p:a.old=Z.O){l:List Nat}(i:dT s.mem [Z.T] l):Broke Z fw s {s with mem:=(s.mem.weaks a l).foldl (brk Z.O) s.mem}:=by
 refine⟨ma _ _ _,rfl,oK _ _ t.ok,λx f j u=>?_,λx f j hk w=>?_⟩
 ·show((s.mem.weaks a l).foldl (brk Z.O) s.mem).get x=_
  rw[li _ _ f,if_neg (λq=>?_)]
  obtain⟨n,o,_⟩:=mc S t B i x q.1
  exact u ⟨n,o⟩
 ·show((s.mem.weaks a l).foldl (brk Z.O) s.mem).get x=44\/ ∀v,Was Z fw x v->Dn Z.O fw v/\((s.mem.weaks a l).foldl (brk Z.O) s.mem).get x=Fw Z.O fw v
  rw[li _ _ f]
  by_cases q:x∈s.mem.weaks a l/\aF Z.O (s.mem.get x)
  ·rw[if_pos q];exact .inl rfl
  ·rw[if_neg q]
   right
   intro v k
   have b:s.mem.get x=v:=by
    rcases t.val x v k with r | ⟨r,_⟩
    ·exact r
    ·have:=r.2.resolve_left (λe=>e hk);omega
   have c: ¬aF Z.O v:=λd=>q ⟨me S t hm B p i f j hk w k d,by rw[b];exact d⟩
   exact⟨λh=>absurd h c,by rw[eL c];exact b⟩
theorem Tri.visL(S:aO Z g F0): ∀(l:List Int) {fw:Int->Option Int} {al:List Int} {s:Sp} {sz:Int->Nat} {acc:List Int} (t:Tri Z F0 fw al s sz),(∀w∈l,Z.V w)-> ∃b d j,Tri Z F0 b d (l.foldl (λ(c:Sp×List Int) w=>((c.1.visit Z.O Z.T w).1,c.2++[(c.1.visit Z.O Z.T w).2])) (s,acc)).1 j/\Le fw b/\
  (l.foldl (λ(c:Sp×List Int) w=>((c.1.visit Z.O Z.T w).1,c.2++[(c.1.visit Z.O Z.T w).2])) (s,acc)).2=acc++l.map (Fw Z.O b)/\ ∀w∈l,Dn Z.O b w
 | [],fw,al,s,sz,acc,t,_=>⟨fw,al,sz,t,Le.refl _,by simp,λw h=>by cases h⟩
 | w::l,fw,al,s,sz,acc,t,h=>by
  have n:=h w (by simp)
  obtain⟨y,z⟩:=S.V w n
  obtain⟨q,o,v,V⟩:=t.visit S y z (λr=> .root n r)
  obtain⟨f,e,k,x,i,u,p⟩:=Tri.visL S l (acc:=acc++[(s.visit Z.O Z.T w).2]) V.tri (λm a=>h m (by simp[a]))
  refine⟨f,e,k,x,V.le.trans i,?_,λm a=>?_⟩
  ·simp only[List.foldl_cons]
   rw[u,V.val,<-fQ V.dn i]
   simp
  ·rcases List.mem_cons.1 a with rfl | a
   ·exact V.dn.mono i
   ·exact p m a
end
theorem Sp.look_cf(s:Sp)(old:Nat->Bool)(T seg a b:Int): ∀n,(s.look old T seg a b n).cf=s.cf
 | 0=>rfl
 | n+1=>by
  unfold Sp.look
  split
  ·rw[Sp.lookAt_cf,Sp.look_cf s old T seg a b n]
  ·exact Sp.look_cf s old T seg a b n
theorem Sp.visL_cf(O:Nat->Bool)(T:Int)(s:Sp)(l:List Int):(s.visL O T l).1.cf=s.cf:=by
 have: ∀(l:List Int) (a:Sp×List Int),(l.foldl (λa w=>((a.1.visit O T w).1,a.2++[(a.1.visit O T w).2])) a).1.cf=a.1.cf:=λl=>by
  induction l with
  | nil=>intro a;rfl
  | cons w l b=>intro a;simp only[List.foldl_cons];rw[b];exact Sp.visit_cf _ _ _ _
 exact this l (s,[])
theorem Sp.lookCards_cf(old:Nat->Bool)(T:Int): ∀(l:List (Int×Int)) (s:Sp),(s.lookCards old T l).cf=s.cf
 | [],s=>rfl
 | c::l,s=>by
  show((s.lookCard old T c).lookCards old T l).cf=_
  rw[Sp.lookCards_cf old T l]
  exact Sp.look_cf _ _ _ _ _ _ _
theorem jW{old:Nat->Bool}{T:Int}{a s:Sp}{c d:List (Int×Value)}(h:cJ old T a c s d):s.cf=a.cf:=by
 induction h with
 | refl=>rfl
 | step k _ hk e f hn b=>rw[Sp.look_cf,b]
theorem Mem.again_lim(m:Mem)(k c:Int):(m.again k c).count=m.count/\(m.again k c).free=m.free:=by
 unfold Mem.again
 split
 ·exact⟨Mem.mark_lim.2.2,Mem.mark_lim.2.1⟩
 ·exact⟨rfl,rfl⟩
theorem Sp.agains_cf: ∀(l:List (Int×Int)) (s:Sp),(s.agains l).cf=s.cf
 | [],s=>rfl
 | c::l,s=>by
  show(({s with mem:=s.mem.again c.1 c.2}:Sp).agains l).cf=_
  rw[Sp.agains_cf l]
  unfold Sp.cf
  show(s.mem.again c.1 c.2).count+(s.mem.again c.1 c.2).free=_
  rw[(Mem.again_lim _ _ _).1,(Mem.again_lim _ _ _).2]
theorem Sp.give_cf(s:Sp)(k:Int):(s.give k).cf<=s.cf+1:=by
 unfold Sp.give
 split
 ·rename_i h
  unfold Sp.cf
  show(s.mem.give k).count+(s.mem.give k).free<=_
  unfold Mem.give
  rw[if_pos h]
  show s.mem.count+(s.mem.free+1)<=_
  omega
 ·omega
theorem Sp.gives_cf(s:Sp)(old:Nat->Bool): ∀n:Nat,(s.gives old n).cf<=s.cf+n
 | 0=>by show s.cf<=s.cf+0;omega
 | n+1=>by
  have:=Sp.gives_cf s old n
  unfold Sp.gives
  split
  ·have:=Sp.give_cf (s.gives old n) n
   omega
  ·omega
theorem Sp.ended_cf(s:Sp)(t:Tr):(s.ended t).cf<=s.cf+1024:=by
 unfold Sp.ended
 rw[Sp.agains_cf]
 exact Sp.gives_cf s t.old 1024
theorem oe{s:Sp}(c:SpOK s)(b:s.mem.Even)(t:Tr):(s.ended t).mem.Even:=by
 obtain⟨_,a⟩:=Sp.gives_seg s t.old 1024
 obtain⟨u,_⟩:=Sp.agains_spec t.cards (Sp.gives_ok c t.old 1024)
 intro k
 show((s.gives t.old 1024).agains t.cards |>.mem.seg k).kind<=1->_
 obtain⟨f,d,e,_⟩:=u.seg k
 show(((s.gives t.old 1024).agains t.cards).mem.seg k).kind<=1->(((s.gives t.old 1024).agains t.cards).mem.seg k).n % 2=0
 rw[d,e,a k]
 split
 ·intro _;rfl
 ·exact b k
theorem nj(c:aV b){g:Int}(d:0<=g):(List.range 1024).countP (λk=>b.young g k)=b.nyoung g:=by
 have m:=c.lim
 have a:bI g≠[]:=λh=>by
  have:(0:Int)∈bI g:=ig.2 ⟨Int.le_refl _,d⟩
  rw[h]at this;cases this
 unfold Mem.nyoung Mem.takenTo
 rw[<-List.countP_eq_length_filter,show(1024:Nat)=b.limit+(1024-b.limit)by omega,iR _ _ _ (λi j l=>?_)]
 ·refine List.countP_congr λk hk=>?_
  rw[List.mem_range]at hk
  have f:=(c.seg k).taken
  have e:=(c.seg k).gen
  unfold Mem.young Mem.has
  simp only[decide_eq_true_eq,Bool.and_eq_true,Bool.or_eq_true,List.isEmpty_iff,a,false_or,ig]
  rw[show((k:Nat):Int).toNat=k by omega]
  exact⟨λq=>⟨by omega,by omega⟩,λq=>⟨⟨by omega,by omega,by omega⟩,by omega⟩⟩
 ·unfold Mem.young
  refine zQ λq=>?_
  have:=q.1.2.1
  omega
theorem og{Z:TZ}{g:Int}(f:aV Z.m)(d:0<=g)(c: ∀k:Nat,k<1024->Z.O k=Z.m.young g k):(Z.yk 0:Int)+Z.yk 1+Z.yk 2+Z.yk 3<=Z.m.nyoung g:=by
 rw[<-nj f d]
 have h:Z.yk 0+Z.yk 1+Z.yk 2+Z.yk 3<=(List.range 1024).countP (λk=>Z.m.young g k):=by
  unfold TZ.yk
  rw[<-fY,<-fY,<-fY]
  ·refine List.countP_mono_left λk hk h=>?_
   rw[List.mem_range]at hk
   rw[<-c k hk]
   cases e:Z.O k with
   | true=>rfl
   | false=>rw[e]at h;simp at h
  all_goals
   intro x _ a b
   simp only[Bool.and_eq_true,Bool.or_eq_true,decide_eq_true_eq]at a b
   simp[b.2]at a
 omega
theorem pT{l:List Nat}{T:Int}(p:aV b)(t:dE a.frm)(e:kA a.cards)(r:dT b [T] l): ∀u∈b.weaks a l,u<=1000000:=by
 intro u i
 have m:=p.lim
 unfold Mem.weaks at i
 rcases List.mem_append.1 i with h | h
 ·obtain⟨k,hk,h⟩:=List.mem_flatMap.1 h
  obtain⟨_,o,_,_⟩:=r.has hk
  unfold Mem.weakSeg at h
  by_cases d:(b.seg k).kind=1/\a.old k=false
  case neg=>rw[if_neg d]at h;simp at h
  rw[if_pos d]at h
  obtain⟨j,f,rfl⟩:=fj.1 h
  rw[fG]at f
  have hn:=(p.seg k).n
  omega
 ·obtain⟨c,d,h⟩:=List.mem_flatMap.1 h
  have q:=e c d
  unfold Mem.weakCard at h
  by_cases hk:(b.segOr c.1).kind=1
  case neg=>rw[if_neg hk]at h;simp at h
  rw[if_pos hk]at h
  obtain⟨j,f,rfl⟩:=fj.1 h
  rw[fG]at f
  omega
theorem iI{H:zV}{b:Blk}{x:Hp}{q:TB}{t:Tr}(T:Tc H b x q t):eW.C (some ⟨q.t,0,none⟩) H (λv a=>v=.bool t.over/\a=H):=by
 refine HC.via λR c=>eW.link ?_
 unfold eW.pt
 rw[onPtr_some]
 have h:cI.C (some ⟨q.t,0,none⟩) H (λv a=>v=.bool t.over/\a=H):=by
  refine HC.via λR c=>cI.link ?_
  unfold cI.pt
  refine HC.mono (gU T) ?_
  rintro _ _ ⟨rfl,rfl⟩
  exact⟨_,rfl,c _ _ ⟨rfl,rfl⟩⟩
 refine HC.mono h ?_
 rintro _ _ ⟨rfl,rfl⟩
 exact⟨_,rfl,c _ _ ⟨rfl,rfl⟩⟩
variable{a:Mem}{b:Tr}
section
variable {Z:TZ} {g F0:Int} {fw:Int->Option Int} {al:List Int} {s:Sp} {sz:Int->Nat}
theorem du.words{Y:Sp}(t:du Z g F0 fw al sz b s Y a)(Q:Z.P=[])(V:aV a):a.words []=(Z.m.above g:Int)+((al.map Z.sz).sum:Nat):=by
 have S:=t.S
 have U:=oJ
 rw[Mem.words_cnt V]
 have A: ∀a4∈al,∃a5,fw a4=some a5:=λa4 r=>(t.tri.al a4).1 r
 let F:=al.filterMap fw
 have v: ∀a5,a5∈F ↔ ∃a4,fw a4=some a5:=λa5=>by
  show a5∈al.filterMap fw ↔ _
  rw[List.mem_filterMap]
  constructor
  ·rintro⟨a4,_,h⟩;exact⟨a4,h⟩
  ·rintro⟨a4,h⟩;exact⟨a4,(t.tri.al a4).2 ⟨a5,h⟩,h⟩
 have y: ∀l:List Int,(∀a4∈l,∃a5,fw a4=some a5)->((l.filterMap fw).map sz).sum=(l.map Z.sz).sum:=λl=>by
  induction l with
  | nil=>intro _;rfl
  | cons a4 l D=>
   intro h
   obtain⟨a5,A⟩:=h a4 (by simp)
   rw[List.filterMap_cons_some A]
   simp only[List.map_cons,List.sum_cons,D (λx u=>h x (by simp[u])),(t.tri.img a4 a5 A).1]
 have H: ∀l:List Int,l.Nodup->(l.filterMap fw).Nodup:=λl=>by
  induction l with
  | nil=>intro _;exact List.nodup_nil
  | cons a4 l D=>
   intro h
   rw[List.nodup_cons]at h
   cases B:fw a4 with
   | none=>rw[List.filterMap_cons_none B];exact D h.2
   | some a5=>
    rw[List.filterMap_cons_some B,List.nodup_cons]
    refine⟨λq=>?_,D h.2⟩
    rw[List.mem_filterMap]at q
    obtain⟨L,W,X⟩:=q
    have:=t.tri.inj a4 L a5 B X
    exact h.1 (this▸W)
 have d: ∀a5∈F,sz a5≠0/\ ∀i:Nat,i<sz a5->s.mem.used (a5+i)/\ ¬Z.m.used (a5+i)/\Z.O ((a5+(i:Int)) / 64).toNat=false:=λa5 c=>by
  obtain⟨a4,r⟩:=(v a5).1 c
  obtain⟨e,E⟩:=t.tri.img a4 a5 r
  have I:=(t.tri.olds.mem a4 ((t.tri.al a4).2 ⟨a5,r⟩)).1
  refine⟨by rw[e];exact I,λi j=>?_⟩
  rw[e]at j
  have B:=E.fit
  exact⟨E.here i j,E.new i j,by rw[show(a5+(i:Int)) / 64=a5 / 64 by omega];exact E.out⟩
 have w: ∀a5∈F,∀x:Nat,inR a5 (sz a5) x=true-> ∃i:Nat,i<sz a5/\(x:Int)=a5+i:=λa5 c x u=>by
  unfold inR at u
  rw[decide_eq_true_eq]at u
  exact⟨((x:Int)-a5).toNat,by omega,by omega⟩
 rw[<-y al A,iW sz tops (al.filterMap fw) (H al t.tri.olds.nodup) (λa5 c=>?_) (λa4 r a5 c G=>t.tri.apart a4 a5 (d a4 r).1 (d a5 c).1 G)]
 ·unfold Mem.above Mem.cnt
  rw[<-Int.natCast_add,<-fY]
  ·congr 1
   refine List.countP_congr λx u=>?_
   rw[List.mem_range]at u
   simp only[Bool.and_eq_true,Bool.or_eq_true,decide_eq_true_eq,true_or,and_true]
   rw[t.used]
   constructor
   ·rintro⟨C,N⟩
    rcases t.tri.cover x C with n | ⟨a4,a5,i,o,z,h3⟩ | ⟨p,K,_⟩
    ·left
     refine⟨n,?_⟩
     have k:=S.lt n
     rcases Int.lt_or_le g (Z.m.gAt x)with q | q
     ·exact q
     ·have:=(S.old _ k.1).2 ⟨by rw[show((((x:Int) / 64).toNat:Nat):Int)=(x:Int) / 64 by omega];exact n.2.1,q⟩
      rw[N]at this;cases this
    ·right
     rw[List.any_eq_true]
     refine⟨a5,(v a5).2 ⟨a4,o⟩,?_⟩
     unfold inR
     rw[decide_eq_true_eq,(t.tri.img a4 a5 o).1]
     omega
    ·rw[Q]at K;cases K
   ·rintro(⟨n,R⟩ | f)
    ·have k:=S.lt n
     refine⟨t.tri.heads.used n,?_⟩
     by_cases q:Z.O ((x:Int) / 64).toNat=true
     ·have:=((S.old _ k.1).1 q).2
      have:g< (Z.m.seg ((x:Int) / 64).toNat).gen:=R
      omega
     ·simpa using q
    ·rw[List.any_eq_true]at f
     obtain⟨a5,c,m⟩:=f
     obtain⟨i,j,e⟩:=w a5 c x m
     obtain⟨u1,u2,u3⟩:=(d a5 c).2 i j
     rw[e];exact⟨u1,u3⟩
  ·intro x _ o z
   simp only[Bool.and_eq_true,decide_eq_true_eq]at o
   rw[List.any_eq_true]at z
   obtain⟨a5,c,m⟩:=z
   obtain⟨i,j,e⟩:=w a5 c x m
   have:=((d a5 c).2 i j).2.1
   rw[<-e]at this
   exact this o.1
 ·obtain⟨n,C⟩:=d a5 c
  have M:=(C 0 (by omega)).1
  have T:=(C (sz a5-1) (by omega)).1
  have J:=t.tri.ok.mem.lim
  have o:=M.1
  have z:=T.2.1.2.1
  exact⟨by omega,by omega⟩
theorem du.empty{z:Sp}(t:du Z g F0 fw al sz b s z a)(v:Z.P=[])(y:aV a){k:Int}(hk:k<=g)(w:k≠Z.T):a.words [k]=0:=by
 have S:=t.S
 rw[Mem.words_cnt y]
 unfold Mem.cnt
 have:(List.range tops).countP (λx:Nat=>decide (a.used x) && decide ([k]=[]\/a.gAt x∈[k]))=0:=by
  rw[List.countP_eq_zero]
  intro x _
  simp only[Bool.and_eq_true,decide_eq_true_eq,List.mem_singleton,List.cons_ne_self,false_or,reduceCtorEq]
  rintro⟨m,d⟩
  have c:=(t.kind m).2
  obtain⟨h,u⟩:=t.used.1 m
  rcases t.tri.cover x h with j | ⟨C,D,i,q,A,r⟩ | ⟨p,l,_⟩
  ·have f:=S.lt j
   have:=(S.old _ f.1).2 ⟨by rw[show((((x:Int) / 64).toNat:Nat):Int)=(x:Int) / 64 by omega];exact j.2.1,by
    have e:=(t.tri.kAt j).2
    have:(Z.m.seg ((x:Int) / 64).toNat).gen=k:=by
     have o:Z.m.gAt x=k:=by rw[<-e,<-c];exact d
     exact o
    omega⟩
   rw[u]at this;cases this
  ·have n:=(t.tri.img C D q).2
   have B:=n.fit
   have:s.mem.gAt x=Z.T:=by
    unfold Mem.gAt
    rw[r,show(D+(i:Int)) / 64=D / 64 by omega];exact n.gen
   rw[c,this]at d
   exact w d.symm
  ·rw[v]at l;cases l
 rw[this];rfl
end
def brkR(O:Nat->Bool)(m:Mem)(a:Int):Mem:=if aF O (m.read a)then m.wr a ((m.fwd (m.read a)).getD 44)else m
theorem mf(b:aV a)(w:Int):aC ((a.fwd w).getD 44):=by
 unfold Mem.fwd
 split
 ·have:=(b.seg (w / 8 / 64).toNat).words (w / 8 % 64).toNat
  have h:aC (a.get (w / 8)):=(b.seg _).words _
  unfold aC at h⊢
  show 0<=a.get (w / 8) / 8*8+w % 8/\_
  simp only[Option.getD_some]
  omega
 ·decide
theorem iA(O:Nat->Bool)(m:Mem)(a:Int):aS m (brkR O m a):=by
 unfold brkR
 split
 ·exact aS.wr m a _
 ·exact aS.refl m
theorem qI{s:Sp}(b:SpOK s)(O:Nat->Bool)(a:Int):SpOK {s with mem:=brkR O s.mem a}:=by
 unfold brkR
 split
 ·exact b.wr a (mf b.mem _)
 ·exact b
theorem lj(O:Nat->Bool): ∀(l:List Int) (m:Mem),aS m (l.foldl (brkR O) m)
 | [],m=>aS.refl m
 | a::l,m=>(iA O m a).trans (lj O l _)
theorem nk(O:Nat->Bool): ∀(l:List Int) {s:Sp},SpOK s->SpOK {s with mem:=l.foldl (brkR O) s.mem}
 | [],s,ok=>ok
 | a::l,s,ok=>nk O l (qI ok O a)
theorem lk{O:Nat->Bool}{m:Mem}{a x:Int}(d:m.used x):(brkR O m a).get x=if x=a/\aF O (m.get x)then(m.fwd (m.get x)).getD 44 else m.get x:=by
 have f:=d.1
 unfold brkR
 by_cases e:x=a
 ·subst e
  have h:m.read x=m.get x:=by unfold Mem.read;rw[if_pos d]
  rw[h]
  by_cases b:aF O (m.get x)
  ·rw[if_pos b,if_pos ⟨rfl,b⟩]
   unfold Mem.wr;rw[if_pos d,Mem.set_get x f f,if_pos rfl]
  ·rw[if_neg b,if_neg (λq=>b q.2)]
 ·rw[if_neg (show ¬(x=a/\aF O (m.get x))from λq=>e q.1)]
  split
  ·unfold Mem.wr
   by_cases c:m.used a
   ·rw[if_pos c,Mem.set_get x f c.1,if_neg e]
   ·rw[if_neg c]
  ·rfl
theorem pU{O:Nat->Bool}{m:Mem}{a w:Int}(d:O (a / 64).toNat=false)(f:aF O w):(brkR O m a).fwd w=m.fwd w:=by
 unfold Mem.fwd
 by_cases b:m.used (w / 8)
 ·have e:(brkR O m a).get (w / 8)=m.get (w / 8):=by
   rw[lk b,if_neg]
   rintro⟨h,_⟩
   have:=f.2.2
   rw[h,d]at this;cases this
  rw[e]
  have c:=(iA O m a).used.2 b
  exact gl ⟨λq=>⟨b,q.2⟩,λq=>⟨c,q.2⟩⟩ _ _
 ·rw[if_neg (λq=>b ((iA O m a).used.1 q.1)),if_neg (λq=>b q.1)]
theorem mg(O:Nat->Bool): ∀(l:List Int) {m:Mem} {x:Int},(∀a∈l,O (a / 64).toNat=false)->(aF O (m.get x)-> ∀v,m.fwd (m.get x)=some v-> ¬aF O v)->m.used x->
  (l.foldl (brkR O) m).get x=if x∈l/\aF O (m.get x)then(m.fwd (m.get x)).getD 44 else m.get x
 | [],m,x,_,_,hx=>by rw[if_neg (λq=>by simp at q)];rfl
 | a::l,m,x,hl,hf,hx=>by
  have k:=hl a (by simp)
  have d: ∀w,aF O w->(brkR O m a).fwd w=m.fwd w:=λw o=>pU k o
  have f:aF O (m.get x)-> ¬aF O ((m.fwd (m.get x)).getD 44):=λe=>by
   cases i:m.fwd (m.get x)with
   | none=>exact mb O
   | some v=>exact hf e v i
  have j:=lk (O:=O) (a:=a) hx
  have p:=mg O l (m:=brkR O m a) (x:=x) (λb n=>hl b (by simp[n])) (λc v i=>by
   by_cases e:x=a/\aF O (m.get x)
   ·rw[j,if_pos e]at c;exact absurd c (f e.2)
   ·rw[j,if_neg e]at c i
    exact hf c v (by rw[<-d _ c];exact i)) ((iA O m a).used.2 hx)
  show(l.foldl (brkR O) (brkR O m a)).get x=_
  rw[p,j]
  by_cases e:x=a/\aF O (m.get x)
  ·rw[if_pos e,if_neg (λq=>f e.2 q.2),if_pos ⟨by rw[e.1];simp,e.2⟩]
  ·rw[if_neg e]
   by_cases h:x∈l/\aF O (m.get x)
   ·rw[if_pos h,if_pos ⟨by simp[h.1],h.2⟩,d _ h.2]
   ·rw[if_neg h,if_neg (λq=>?_)]
    rcases List.mem_cons.1 q.1 with r | r
    ·exact e ⟨r,q.2⟩
    ·exact h ⟨r,q.2⟩
section
variable {Z:TZ} {g F0:Int} {fw:Int->Option Int} {al:List Int} {s:Sp} {sz:Int->Nat}
theorem ph(S:aO Z g F0)(t:Tri Z F0 fw al s sz)(B:eR Z.m g Z.T b)(r:b.old=Z.O){l:List Nat}(y:dT s.mem [Z.T] l): ∀a∈s.mem.weaks b l,Z.O (a / 64).toNat=false:=by
 intro a f
 have i:=t.ok.mem.lim
 unfold Mem.weaks at f
 rcases List.mem_append.1 f with h | h
 ·obtain⟨k,hk,h⟩:=List.mem_flatMap.1 h
  have v:((k:Nat):Int).toNat=k:=by omega
  unfold Mem.weakSeg at h
  by_cases d:(s.mem.seg k).kind=1/\b.old k=false
  case neg=>rw[if_neg d]at h;simp at h
  rw[if_pos d]at h
  obtain⟨j,e,rfl⟩:=fj.1 h
  rw[fG]at e
  have hn:=(t.ok.mem.seg k).n
  have u:=B.frmAt (k:=k) (by omega)
  have q:0<=seenAt b.frm k:=by
   rw[u]
   split
   ·exact(S.ok.seg _).n.1
   ·exact Int.le_refl _
  rw[show((k:Int)*64+(seenAt b.frm k+2*(j:Int))) / 64=k by omega,v,<-r];exact d.2
 ·obtain⟨c,d,h⟩:=List.mem_flatMap.1 h
  obtain⟨o,p,w,x⟩:=B.cardOf S c d
  unfold Mem.weakCard at h
  by_cases hk:(s.mem.segOr c.1).kind=1
  case neg=>rw[if_neg hk]at h;simp at h
  rw[if_pos hk]at h
  obtain⟨j,e,rfl⟩:=fj.1 h
  rw[fG]at e
  have q:=o.1
  rw[show(c.1*64+(c.2*16+2*(j:Int))) / 64=c.1 by omega];exact p
theorem Tri.fwd_is(S:aO Z g F0)(t:Tri Z F0 fw al s sz){w:Int}(k:aC w)(d:Good Z.m Z.sz w)(f:aF Z.O w):s.mem.fwd w=(fw (w / 8)).map λb=>b*8+w % 8:=by
 obtain⟨h,o,p,q⟩:=S.oldWord d f
 obtain⟨n,r⟩:=S.sound.used _ h
 cases c:fw (w / 8)with
 | none=>exact(t.same_size S k d f c).2.1
 | some b=>
  obtain⟨_,l⟩:=t.img _ _ c
  have a:s.mem.used b:=by simpa using l.here 0 (by omega)
  have e:=t.ok.mem.lim
  have i:=a.2.1.2.1
  have j:=a.1
  unfold Mem.fwd
  rw[t.word _ _ c,if_pos ⟨t.heads.used n,⟨by omega,by omega⟩,by omega⟩]
  show some _=some _
  congr 2;omega
structure mD (Z:TZ) (fw:Int->Option Int) (s s':Sp):Prop extends Broke Z fw s s' where
 exact: ∀x v,s.mem.used x->Z.O (x / 64).toNat=false->s.mem.kAt x=1->x % 2=0->Was Z fw x v->s'.mem.get x=if aF Z.O v/\fw (v / 8)=none then 44 else Fw Z.O fw v
 old: ∀x,s.mem.used x->Z.O (x / 64).toNat=true->s'.mem.get x=s.mem.get x
theorem mD.of(S:aO Z g F0)(t:Tri Z F0 fw al s sz)(hm:ii Z.m)(B:eR Z.m g Z.T b)(D:b.old=Z.O){l:List Nat}(A:dT s.mem [Z.T] l):mD Z fw s {s with mem:=(s.mem.weaks b l).foldl (brkR Z.O) s.mem}:=by
 have i:=ph S t B D A
 have key: ∀x v,s.mem.used x->Z.O (x / 64).toNat=false->s.mem.kAt x=1->x % 2=0->Was Z fw x v->((s.mem.weaks b l).foldl (brkR Z.O) s.mem).get x=if aF Z.O v/\fw (v / 8)=none then 44 else Fw Z.O fw v:=λx v d f hk y n=>by
  have j:s.mem.get x=v:=by
   rcases t.val x v n with r | ⟨r,_⟩
   ·exact r
   ·have:=r.2.resolve_left (λe=>e hk);omega
  obtain⟨J,K⟩:=t.was_any S n (by rw[hk];decide)
  have p:aF Z.O v->s.mem.fwd v=(fw (v / 8)).map λL=>L*8+v % 8:=λo=>t.fwd_is S J (K o) o
  rw[mg Z.O _ i (λo C c=>?_) d,j]
  ·by_cases o:aF Z.O v
   ·have z:=me S t hm B D A d f hk y n o
    rw[if_pos ⟨z,o⟩,p o]
    cases k:fw (v / 8)with
    | none=>rw[if_pos ⟨o,rfl⟩];rfl
    | some L=>rw[if_neg (λq=>by cases q.2),eS o k];rfl
   ·rw[if_neg (λq=>o q.2),if_neg (λq=>o q.1),eL o]
  ·rw[j]at o c
   rw[p o]at c
   cases k:fw (v / 8)with
   | none=>rw[k]at c;cases c
   | some L=>
    rw[k]at c;cases c
    have I:=(t.img _ _ k).2
    intro q
    have:=q.2.2
    rw[show(L*8+v % 8) / 8=L by omega,I.out]at this
    cases this
 have u: ∀(l:List Int) (m:Mem) (x:Int),m.used x->x ∉ l->(l.foldl (brkR Z.O) m).get x=m.get x:=λl=>by
  induction l with
  | nil=>intro m x _ _;rfl
  | cons a l H=>
   intro m x hm hn
   show(l.foldl (brkR Z.O) (brkR Z.O m a)).get x=_
   rw[H _ x ((iA _ m a).used.2 hm) (λq=>hn (by simp[q])),lk hm,if_neg (λq=>hn (by simp[q.1]))]
 refine⟨⟨lj _ _ _,rfl,nk _ _ t.ok,λx d f G=>?_,λx d f hk y=>?_⟩,key,λx d f=>u _ _ x d (λq=>by have:=i x q;rw[f]at this;cases this)⟩
 ·show((s.mem.weaks b l).foldl (brkR Z.O) s.mem).get x=_
  have w:x ∉ s.mem.weaks b l:=λq=>by
   obtain⟨E,F,_⟩:=mc S t B A x q
   exact G ⟨E,F⟩
  exact u _ _ x d w
 ·obtain⟨v,n⟩:=t.was d f
  show((s.mem.weaks b l).foldl (brkR Z.O) s.mem).get x=44\/_
  by_cases o:aF Z.O v/\fw (v / 8)=none
  ·left;rw[key x v d f hk y n,if_pos o]
  ·right
   intro C c
   obtain rfl:=t.was_one c n
   refine⟨λh=>?_,?_⟩
   ·cases k:fw (C / 8)with
    | none=>exact absurd ⟨h,k⟩ o
    | some L=>exact⟨L,rfl⟩
   ·show((s.mem.weaks b l).foldl (brkR Z.O) s.mem).get x=_
    rw[key x C d f hk y n,if_neg o]
end
theorem lm{c:Sp}{g T a:Int}(hm:0<=a)(b:dW c g T a=0):(0<=g/\g<4/\g<=T/\T<=g+1)/\2*(c.mem.nyoung g:Int)+8+a<=c.mem.free:=by
 unfold dW at b
 by_cases d:g<0\/4<=g\/T<g\/g+1<T\/a<0
 ·rw[if_pos d]at b;exact absurd b (by decide)
 ·rw[if_neg d]at b
  by_cases e:c.mem.free-2*c.mem.nyoung g-8<a
  ·rw[if_pos e]at b;exact absurd b (by decide)
  ·omega
theorem Inv.static{a:Sp}{c:Int->Nat}{g T e:Int}{V:Int->Prop}(I:Inv a c)(h:0<=e)(l:dW a g T e=0)(B:eR a.mem g T b)(q: ∀v,V v->aC v/\Good a.mem c v):
  aO ⟨a.mem,c,b.old,T,V,λ_=>none,[]⟩ g a.mem.free/\Tri ⟨a.mem,c,b.old,T,V,λ_=>none,[]⟩ a.mem.free (λ_=>none) [] (a.fresh (bI g)) c:=by
 have d:=lm h l
 have S:aO ⟨a.mem,c,b.old,T,V,λ_=>none,[]⟩ g a.mem.free:=by
  refine⟨I.ok.mem,I.even,I.sound,λk hk=>?_,d.1,?_,q⟩
  ·show b.old k=true ↔ _
   rw[B.old k hk]
   unfold Mem.young
   rw[decide_eq_true_eq]
  ·have t: ∀Z:TZ,Z.m=a.mem->Z.O=b.old->Z.P=[]->2*((Z.yk 0:Int)+Z.yk 1+Z.yk 2+Z.yk 3)+8+((Z.P.length / 32:Nat):Int)<=a.mem.free:=λZ f n o=>by
    have p:=og (Z:=Z) (g:=g) (by rw[f];exact I.ok.mem) d.1.1 (λk hk=>by rw[f,n];exact B.old k hk)
    have u:=d.2
    rw[f]at p
    rw[o]
    simp
    omega
   exact t _ rfl rfl rfl
 exact⟨S,Tri.begin' S (Sp.fresh_ok I.ok _) rfl rfl (λi j r=>by
   show(if bI g=[]\/((i:Nat):Int)∈bI g then(0:Int)else a.cur i j)=0
   rw[if_pos (.inr (ig.2 ⟨by omega,r⟩))]) (λ_=>rfl) rfl⟩
structure gp (Z:TZ) (s0:Sp) (g:Int) (tr:Tr) (fw:Int->Option Int) (al:List Int) (sz:Int->Nat) (s3 s4 s5:Sp):Prop where
 t:du Z g s0.mem.free fw al sz tr s3 s4 s5.mem
 brk:mD Z fw s3 s4
 inv:Inv s5 (szE Z.O sz)
theorem qJ{H:zV}{b d:Nat}{i:Int}(h:cw H b d a)(f:aV a)(e:i<=9223372036854775807):
  bN.C (some ⟨b,0,none⟩) i H (λv c=>v=.tuple #[vu (a.read i),vi (if a.used i then 0 else 18)]/\c=H):=
 HC.mono (fF h f e) (by
  rintro _ _ ⟨rfl,rfl⟩
  refine⟨?_,rfl⟩
  unfold Mem.read
  split<;>rfl)
set_option maxRecDepth 100000 in
theorem lJ{H:zV}{b:Blk}{y:Hp}{q:TB}{t:Tr}(T:Tg H b y q t)(hf:dE t.frm)(L:kA t.cards):
  eP.C (some ⟨q.t,0,none⟩) H (λ_ H'=> ∃l,dT y.sp.mem [t.tgt] l/\Tg H' b {y with sp:={y.sp with mem:=(y.sp.mem.weaks t l).foldl (brkR t.old) y.sp.mem}} q t/\Fr (spB b) H H'):=by
 refine HC.via λR hR=>eP.link ?_
 unfold eP.pt zY
 refine HC.mono (iI T.toTc) ?_
 rintro _ H1 ⟨rfl,rfl⟩
 refine⟨_,rfl,?_⟩
 rw[if_neg (by rw[T.on];decide)]
 refine HC.mono (n9 T hf L) ?_
 rintro _ H2 ⟨l,wB,wN,wC,hl,rfl,a0,hr,a7,au,e2⟩
 have hw:=pT T.ok.mem hf L hl
 have a4: ∀j∈blks wB,j ∉ b.all:=λj hj h=>by have:=a7 j hj;have:=T.lt (.inl h);omega
 refine⟨_,_,_,rfl,?_⟩
 generalize Y:y.sp.mem.weaks t l=W at*
 subst a0
 refine⟨λk A=>(0<=k/\k<=W.length)/\Tg A b {y with sp:={y.sp with mem:=(W.take k.toNat).foldl (brkR t.old) y.sp.mem}} q t/\Fr (spB b) H2 A,λk _=>(W.length-k).toNat,
  ⟨⟨by omega,by omega⟩,T.grow e2,Fr.refl _ _⟩,?_⟩
 rintro k A ⟨hk,p,P⟩
 by_cases z:k< (W.length:Int)
 case neg=>
  rw[if_neg z]
  rw[List.take_of_length_le (by omega)]at p
  exact hR _ _ ⟨l,hl,by rw[Y];exact p,e2.fr.trans P⟩
 rw[if_pos z]
 have x:k.toNat<W.length:=by omega
 have N:=List.getElem_mem x
 have a3:=hr.keep P (λj hj hs=>a4 j hj (eY hs))
 obtain⟨a,ha,K⟩:=kz a3.src (i:=k.toNat) x
 have a5:W.take (k+1).toNat=W.take k.toNat++[W[k.toNat]]:=by rw[show(k+1).toNat=k.toNat+1 by omega,List.take_succ_eq_append_getElem x]
 have M:(W.take (k+1).toNat).foldl (brkR t.old) y.sp.mem=brkR t.old ((W.take k.toNat).foldl (brkR t.old) y.sp.mem) W[k.toNat]:=by rw[a5,List.foldl_append];rfl
 have av:=hw _ N
 generalize W[k.toNat]=w at*
 have Q:=p.hp
 have hd:((W.length:Int)-(k+1)).toNat< ((W.length:Int)-k).toNat:=by omega
 refine⟨a,ha,⟨hk.1,z⟩,_,K,_,rfl,_,p.tr.hPtr,_,rfl,_,Q.hPtr,_,rfl,_,Q.cd.cPtr,_,rfl,_,Q.cd.sp.memPtr,?_⟩
 rw[w64 (n:=k+1) (by omega)]
 generalize ak:(W.take k.toNat).foldl (brkR t.old) y.sp.mem=m at*
 refine HC.mono (qJ Q.cd.sp.mem p.ok.mem (by omega)) ?_
 rintro _ A1 ⟨rfl,rfl⟩
 refine⟨_,_,rfl,?_⟩
 have D:aC (m.read w):=Mem.read_word p.ok.mem w
 refine HC.mono (kZ p.toTc D) ?_
 rintro _ A2 ⟨rfl,u⟩
 refine⟨_,rfl,?_⟩
 have U:=p.grow u
 by_cases B:aF t.old (m.read w)
 case neg=>
  rw[if_neg (by simp[B])]
  have V:brkR t.old m w=m:=by unfold brkR;rw[if_neg B]
  exact⟨⟨⟨by omega,by omega⟩,by rw[M,V];exact U,P.trans u.fr⟩,hd⟩
 rw[if_pos (zX ⟨p.on,B⟩)]
 refine HC.mono (fP U.toTc D) ?_
 rintro _ A3 ⟨rfl,e3⟩
 refine⟨_,rfl,?_⟩
 have F:=U.grow e3
 have c:=F.hp
 have I:=u.trans e3
 have J: ∀(E o:zV) (v:Int),aC v->v=(m.fwd (m.read w)).getD 44->Tg E b {y with sp:={y.sp with mem:=m}} q t->Fr (spB b) A1 E->cw o b.m b.s (if m.used w then m.set w v else m)->Fr [b.s] E o->
   (((0<=k+1/\k+1<=(W.length:Int))/\Tg o b {y with sp:={y.sp with mem:=(W.take (k+1).toNat).foldl (brkR t.old) y.sp.mem}} q t/\Fr (spB b) H2 o)/\((W.length:Int)-(k+1)).toNat< ((W.length:Int)-k).toNat):=by
  intro E o v S a6 d X f G
  have V:brkR t.old m w=m.wr w v:=by unfold brkR;rw[if_pos B,<-a6]
  refine⟨⟨⟨by omega,by omega⟩,?_,(P.trans X).trans (G.mono (λi hi _=>by simp at hi;simp[spB];omega))⟩,hd⟩
  rw[M,V]
  refine⟨d.toTc.withMem (m:=m.wr w v) G (λi hi=>by simp at hi;omega) f (d.ok.wr w S),(aS.wr m w v).even d.even,?_,d.on⟩
  have:=d.cf
  unfold Sp.cf at this⊢
  show(m.wr w v).count+(m.wr w v).free<_
  rw[(aS.wr m w v).count,(aS.wr m w v).free];exact this
 have am: ¬ ¬(t.over=false/\aF t.old (m.read w)):=λh=>h ⟨T.on,B⟩
 cases e:m.fwd (m.read w)with
 | some v=>
  rw[if_pos (by simp[e])]
  refine⟨_,F.tr.hPtr,_,rfl,_,c.hPtr,_,rfl,_,c.cd.cPtr,_,rfl,_,c.cd.sp.memPtr,?_⟩
  have O:=Sp.visit_fwd (s:={y.sp with mem:=m}) (T:=t.tgt) B e
  refine HC.mono (ef F D) ?_
  rintro _ E ⟨rfl,d,X⟩
  rw[O]at d⊢
  have r:=d.hp
  refine⟨_,rfl,row1 d.tr.hPtr,row1 r.hPtr,row1 r.cd.cPtr,row1 r.cd.sp.memPtr,?_⟩
  refine HC.mono (eQ r.cd.sp.mem d.ok.mem (by omega)) ?_
  rintro _ o ⟨rfl,f,G⟩
  have S:v=(m.fwd (m.read w)).getD 44:=by rw[e];rfl
  exact⟨_,rfl,J E o v (by rw[S];exact mf d.ok.mem _) S d (I.fr.trans X) f G⟩
 | none=>
  rw[if_neg (by simp[e,T.on,B])]
  refine⟨_,F.tr.hPtr,_,rfl,_,c.hPtr,_,rfl,_,c.cd.cPtr,_,rfl,_,c.cd.sp.memPtr,?_⟩
  refine HC.mono (eQ c.cd.sp.mem F.ok.mem (by omega)) ?_
  rintro _ o ⟨rfl,f,G⟩
  exact⟨_,rfl,J A3 o 44 (by decide) (by rw[e];rfl) F I.fr f G⟩
structure Cel (S:List Nat) (ra:Addr) (K:zV->List Int->Prop):Prop where
 keep: ∀{T:List Nat} {A A':zV} {ws:List Int},K A ws->Fr T A A'->(∀j∈S,j ∉ T)->K A' ws
 at': ∀{A:zV} {ws:List Int} {i:Nat},K A ws->(h:i<ws.length)->hat A (ra.add (i*1))=some (vu ws[i])
 put: ∀{A:zV} {ws:List Int} {i:Nat} (v:Int),K A ws->i<ws.length->aM A (ra.add (i*1)) 0 1/\ ∀A',A'=aP A (ra.add (i*1)) [vu v] 0->K A' (ws.set i v)/\Fr S A A'
 lt: ∀{A:zV} {ws:List Int},K A ws-> ∀j∈S,j<A.size
theorem Cel.own(l:zW)(n t:Nat):Cel (blks l) (l.getD default) (λA ws=>ws.length=n/\Own A 28 1 l n t (wvs ws)):=by
 refine⟨λ{T A m ws} h f r=>⟨h.1,h.2.keep f r⟩,λ{A ws i} h b=>?_,λ{A ws i} v h b=>?_,λh=>h.2.lt⟩
 ·obtain⟨a,k,c⟩:=h.2.at (j:=i) (v:=vu ws[i]) (by unfold wvs;rw[List.getElem?_map,List.getElem?_eq_getElem b];rfl)
  subst k
  rw[Option.getD_some,Nat.mul_one];exact c
 ·obtain⟨a,k,_⟩:=h.2.at (j:=i) (v:=vu ws[i]) (by unfold wvs;rw[List.getElem?_map,List.getElem?_eq_getElem b];rfl)
  subst k
  obtain⟨c,o⟩:=h.2.put (i:=i) (by rw[<-h.1];exact b) (vu v)
  rw[Option.getD_some,Nat.mul_one]
  refine⟨c,λm d=>?_⟩
  obtain⟨p,q⟩:=o m d
  refine⟨⟨by rw[List.length_set];exact h.1,?_⟩,by simpa using q⟩
  have e:(wvs ws).set i (vu v)=wvs (ws.set i v):=by unfold wvs;rw[List.map_set]
  rw[<-e];exact p
variable{a d o:Int}{b:Hp}{g:TB}{i:Tr}{j:Blk}{k:Sp}{H v:zV}{u:Addr}{A:Mem}{B:Nat}
theorem eU{A a A3:zV}{b:Array Value}{T:TypeId}(h:B=A.size)(c:a=A.push (.cells b T (0,0)))(vs:List Value)(k:vs.length=b.size):
  aM a (Addr.mk B 0 none) 0 vs.length/\(A3=aP a (Addr.mk B 0 none) vs 0->A3[B]?=some (.cells (splice b 0 vs) T (0,0))/\Ext A A3):=by
 have g:=aL h c
 have e:Ext A a:=Ext.push' c
 refine⟨bV g _ _ _ (by omega),λd=>?_⟩
 rw[cW vs a b 0 0 g]at d
 rw[d]
 have f:Fr [B] a (bH a B (.cells (splice b (0+0) vs) T (0,0))):=Fr.set
 exact⟨aZ (bB g),e.fr_trans f (λi j=>by simp at j;omega)⟩
def Sp.putT(s:Sp)(T car cdr:Int):Sp×Int:=
 if(s.alloc T 0 2).2.2=0 then({(s.alloc T 0 2).1 with mem:=(s.alloc T 0 2).1.mem.sets (s.alloc T 0 2).2.1 [car,cdr]},(s.alloc T 0 2).2.1*8+1)else(s,20)
theorem Sp.putT_word(b:SpOK k):aC (k.putT a d o).2:=by
 unfold Sp.putT
 split
 ·rename_i h
  obtain⟨e,c⟩:=Sp.alloc_ok b h
  obtain⟨f,g,i⟩:=c.addr
  have:=b.mem.lim
  show aC ((k.alloc a 0 2).2.1*8+1)
  constructor<;>omega
 ·exact(by decide:aC 20)
set_option maxRecDepth 100000 in
theorem pV(T:Tg H j b g i)(q:aC a)(Q:aC d):
  de.C (some ⟨g.t,0,none⟩) a d H (λv J=>v=vu (b.sp.putT i.tgt a d).2/\Tg J j {b with sp:=(b.sp.putT i.tgt a d).1} g i/\Fr (spB j) H J):=by
 refine HC.via λR p=>de.link ?_
 unfold de.pt zY
 refine HC.mono (gU T.toTc) ?_
 rintro _ W ⟨rfl,B⟩
 obtain rfl:H=W:=B.symm
 refine⟨_,rfl,?_⟩
 rw[if_neg (by rw[T.on];decide)]
 obtain⟨Y,Z,p3,p4⟩:=T.s1
 refine⟨_,rfl,_,Y,_,rfl,_,Z,_,rfl,_,p3,_,by rw[addr_add_mk];exact T.tr.tgtAt,?_⟩
 refine HC.mono (iu T.hp.cd.sp T.ok (Sp.cf_count T.ok T.cf)) ?_
 rintro _ K ⟨rfl,F,M⟩
 refine⟨_,_,rfl,?_⟩
 have A:=T.hp.withSp M (λah f=>by simp at f;omega) F
 have k:Fr (spB j) H K:=M
 by_cases o:(b.sp.alloc i.tgt 0 2).2.2=0
 case neg=>
  rw[if_neg o]
  have z:b.sp.putT i.tgt a d=(b.sp,20):=by unfold Sp.putT;rw[if_neg o]
  rw[z]at p
  rw[Sp.alloc_fail T.ok o]at A
  exact p _ _ ⟨rfl,⟨T.toTc.step k (λah f=>eY f) A T.ok,T.even,T.cf,T.on⟩,k⟩
 rw[if_pos o]
 have z:b.sp.putT i.tgt a d=({(b.sp.alloc i.tgt 0 2).1 with mem:=(b.sp.alloc i.tgt 0 2).1.mem.sets (b.sp.alloc i.tgt 0 2).2.1 [a,d]},(b.sp.alloc i.tgt 0 2).2.1*8+1):=by unfold Sp.putT;rw[if_pos o]
 rw[z]at p
 obtain⟨l,P⟩:=Sp.alloc_ok T.ok o
 have t:=(P.even T.even (λ_=>by decide)).1
 have s:(b.sp.alloc i.tgt 0 2).1.cf=b.sp.cf:=Sp.alloc_cf _ _ _ _
 simp only at p
 generalize hr:b.sp.alloc i.tgt 0 2=r at*
 obtain⟨c,ag,e⟩:=r
 simp only at*
 have S:=T.ok.mem.lim
 obtain⟨a0,a1,a2⟩:=P.addr
 have x:Tc K j {b with sp:=c} g i:=T.toTc.step k (λah f=>eY f) A l
 obtain⟨r1,r2,r3,r4⟩:=x.s1
 refine⟨_,r1,_,rfl,_,r2,_,rfl,_,r3,_,rfl,_,r4,?_⟩
 refine HC.mono (eQ x.hp.cd.sp.mem x.ok.mem (by omega)) ?_
 rintro _ U ⟨rfl,D,N⟩
 have G:SpOK {c with mem:=if c.mem.used ag then c.mem.set ag a else c.mem}:=l.sets ag (ws:=[a]) (by intro w u;simp at u;rw[u];exact q)
 have y:Tc U j {b with sp:={c with mem:=if c.mem.used ag then c.mem.set ag a else c.mem}} g i:=x.withMem N (λah f=>by simp at f;exact .inr f) D G
 obtain⟨q1,q2,q3,q4⟩:=y.s1
 refine⟨_,rfl,_,q1,_,rfl,_,q2,_,rfl,_,q3,_,rfl,_,q4,?_⟩
 rw[w64 (n:=ag+1) (by omega)]
 refine HC.mono (eQ y.hp.cd.sp.mem y.ok.mem (by omega)) ?_
 rintro _ V ⟨rfl,E,O⟩
 have I:SpOK {c with mem:=c.mem.sets ag [a,d]}:=l.sets ag (ws:=[a,d]) (by intro w u;simp at u;rcases u with rfl | rfl<;>assumption)
 have X:Tc V j {b with sp:={c with mem:=c.mem.sets ag [a,d]}} g i:=y.withMem (m:=c.mem.sets ag [a,d]) O (λah f=>by simp at f;exact .inr f) E I
 refine⟨_,rfl,HC.mono (ix (by omega) (by omega)) ?_⟩
 rintro _ H5 ⟨rfl,L⟩
 rw[if_neg (by decide),if_pos (by omega)]
 refine⟨_,_,rfl,p _ _ ⟨rfl,⟨X.ext L,(aS.sets _ _ _).even t,?_,T.on⟩,?_⟩⟩
 ·have h:=aS.sets [a,d] c.mem ag
  show({c with mem:=c.mem.sets ag [a,d]}:Sp).cf<_
  have:({c with mem:=c.mem.sets ag [a,d]}:Sp).cf=c.cf:=by unfold Sp.cf;simp only[];rw[h.count,h.free]
  rw[this,s];exact T.cf
 ·exact((k.trans (N.mono (λah f _=>by simp at f;simp[spB];omega))).trans (O.mono (λah f _=>by simp at f;simp[spB];omega))).trans L.fr
theorem Mem.store_even{m:Mem}(h:m.Even)(a w:Int):(m.store a w).1.Even:=λk hk=>by
 obtain⟨_,b,c⟩:=Mem.store_seg (m:=m) (a:=a) (w:=w) k
 rw[c];exact h k (by rw[<-b];exact hk)
theorem Tg.set(T:Tg H j b g i)(V:View v (some ⟨j.h,0,none⟩) (some (j,b.setMem A)))(f:Fr (own (some (j,b))) H v)(c:A.Even)(a:A.free=b.sp.mem.free/\A.count=b.sp.mem.count):Tg v j (b.setMem A) g i/\Fr (spB j) H v:=by
 obtain⟨-,e,k⟩:=V.inv
 refine⟨⟨T.toTc.step f (λl d=>eY d) e k,c,?_,T.on⟩,f⟩
 have:(b.setMem A).sp.cf=b.sp.cf:=by unfold Sp.cf Hp.setMem;simp only[];rw[a.1,a.2]
 rw[this];exact T.cf
def Mem.hset(m:Mem)(w i v:Int):Mem:=if m.isPair w then(m.store (w / 8+i) v).1 else m
def Mem.hsetE(m:Mem)(w i v:Int):Int:=if m.isPair w then(m.store (w / 8+i) v).2 else 3
def Mem.fset(m:Mem)(w kind i v:Int):Mem:=if m.fieldE w kind i=0 then(m.store (w / 8+1+i) v).1 else m
theorem Mem.hset_fc(m:Mem)(w i v:Int):(m.hset w i v).free=m.free/\(m.hset w i v).count=m.count:=by
 unfold Mem.hset
 split
 ·exact(Mem.store_lim (m:=m)).2
 ·exact⟨rfl,rfl⟩
theorem Mem.fset_fc(m:Mem)(w k i v:Int):(m.fset w k i v).free=m.free/\(m.fset w k i v).count=m.count:=by
 unfold Mem.fset
 split
 ·exact(Mem.store_lim (m:=m)).2
 ·exact⟨rfl,rfl⟩
theorem Mem.hset_even(h:A.Even)(w i v:Int):(A.hset w i v).Even:=by
 unfold Mem.hset;split
 ·exact Mem.store_even h _ _
 ·exact h
theorem Mem.fset_even(h:A.Even)(w k i v:Int):(A.fset w k i v).Even:=by
 unfold Mem.fset;split
 ·exact Mem.store_even h _ _
 ·exact h
def Mem.lastG(m:Mem)(g:Int):Int:=if m.fieldE g 10 1=0 then m.get (g / 8+1+1)else 0
def Mem.queued(m:Mem)(g p:Int):Mem:=
 if m.hsetE (m.lastG g) 1 p=0 then(m.hset (m.lastG g) 1 p).fset g 10 1 p else((m.hset (m.lastG g) 1 p).fset g 10 0 p).fset g 10 1 p
def Sp.putsG(s:Sp)(T g th:Int):Sp:=
 if s.mem.typ g=10/\s.mem.len g=2 then(if(s.putT T th 20).2=20 then(s.putT T th 20).1 else{(s.putT T th 20).1 with mem:=(s.putT T th 20).1.mem.queued g (s.putT T th 20).2})else s
theorem mE(a:SpOK k)(g d i p:Int)(b:aC p)(c:aC g):SpOK {k with mem:=k.mem.fset g d i p}:=by
 unfold Mem.fset
 split
 ·exact SpOK.store a _ b
 ·exact a
theorem qK(a:SpOK k)(w i p:Int)(b:aC p):SpOK {k with mem:=k.mem.hset w i p}:=by
 unfold Mem.hset
 split
 ·exact SpOK.store a _ b
 ·exact a
theorem pi(d:SpOK k)(g p:Int)(a:aC p)(b:aC g):SpOK {k with mem:=k.mem.queued g p}:=by
 unfold Mem.queued
 have c:=qK d (k.mem.lastG g) 1 p a
 split
 ·exact mE c g 10 1 p a b
 ·exact mE (mE c g 10 0 p a b) g 10 1 p a b
theorem oL(c:SpOK k)(T:Int)(e:aC a)(f:aC d):SpOK (k.putT T a d).1:=by
 unfold Sp.putT
 split
 ·rename_i h
  exact(Sp.alloc_ok c h).1.sets _ (by intro w b;simp at b;rcases b with rfl | rfl<;>assumption)
 ·exact c
theorem nl(b:SpOK k){T:Int}(e:(0:Int)<=0)(g c:Int)(d:aC g)(a:aC c):SpOK (k.putsG T g c):=by
 unfold Sp.putsG
 split
 ·split
  ·exact oL b T a (by decide)
  ·exact pi (oL b T a (by decide)) g _ (Sp.putT_word b) d
 ·exact b
set_option maxRecDepth 100000 in
theorem pW(T:Tg H j b g i)(G:aC a)(P:aC d):
  fL.C (some ⟨g.t,0,none⟩) a d H (λ_ Q=>Tg Q j {b with sp:=b.sp.putsG i.tgt a d} g i/\Fr (spB j) H Q):=by
 refine HC.via λR l=>fL.link ?_
 unfold fL.pt
 have hm: ∀y:Hp,mof (some (j,y))=y.sp.mem:=λ_=>rfl
 refine⟨_,rfl,_,T.s1.1,HC.mono (nO T.view G) ?_⟩
 rw[hm]
 rintro _ H1 ⟨rfl,q⟩
 refine⟨_,rfl,?_⟩
 by_cases w:b.sp.mem.typ a=10
 case neg=>
  rw[if_neg w]
  have m:b.sp.putsG i.tgt a d=b.sp:=by unfold Sp.putsG;rw[if_neg (λh=>w h.1)]
  rw[m]at l
  exact l _ _ ⟨T.grow q,q.fr⟩
 rw[if_pos w]
 have z:=T.grow q
 refine⟨_,z.s1.1,HC.mono (oZ z.view G) ?_⟩
 rw[hm]
 rintro _ H2 ⟨rfl,E⟩
 refine⟨_,rfl,?_⟩
 by_cases t:b.sp.mem.len a=2
 case neg=>
  rw[if_neg t]
  have m:b.sp.putsG i.tgt a d=b.sp:=by unfold Sp.putsG;rw[if_neg (λh=>t h.2)]
  rw[m]at l
  exact l _ _ ⟨z.grow E,(q.trans E).fr⟩
 rw[if_pos t]
 have T2:=z.grow E
 refine HC.mono (pV T2 P (by decide)) ?_
 rintro _ X ⟨rfl,o,f3⟩
 refine⟨_,rfl,?_⟩
 have r:Fr (spB j) H X:=(q.trans E).fr.trans f3
 by_cases hn:(b.sp.putT i.tgt d 20).2=20
 ·rw[if_pos hn]
  have m:b.sp.putsG i.tgt a d=(b.sp.putT i.tgt d 20).1:=by unfold Sp.putsG;rw[if_pos ⟨w,t⟩,if_pos hn]
  rw[m]at l
  exact l _ _ ⟨o,r⟩
 rw[if_neg hn]
 have m:b.sp.putsG i.tgt a d={(b.sp.putT i.tgt d 20).1 with mem:=(b.sp.putT i.tgt d 20).1.mem.queued a (b.sp.putT i.tgt d 20).2}:=by unfold Sp.putsG;rw[if_pos ⟨w,t⟩,if_neg hn]
 rw[m]at l
 have u:aC (b.sp.putT i.tgt d 20).2:=Sp.putT_word T.ok
 generalize b.sp.putT i.tgt d 20=pr at*
 obtain⟨c,p⟩:=pr
 simp only at*
 refine⟨_,o.s1.1,HC.mono (iV o.view G (by decide)) ?_⟩
 rw[hm]
 rintro _ H4 ⟨rfl,S⟩
 have I:=o.grow S
 have O:aC (c.mem.lastG a):=by
  unfold Mem.lastG
  split
  ·exact(o.ok.mem.seg _).words _
  ·decide
 refine⟨c.mem.lastG a,_,rfl,_,I.s1.1,HC.mono (mt I.view O u) ?_⟩
 rintro _ Y ⟨rfl,V5,f5⟩
 have W:hsetE (some (j,({b with sp:=c}:Hp))) (c.mem.lastG a) 1 p=c.mem.hsetE (c.mem.lastG a) 1 p:=rfl
 have L:View Y (some ⟨j.h,0,none⟩) (some (j,({b with sp:=c}:Hp).setMem (c.mem.hset (c.mem.lastG a) 1 p))):=V5
 obtain⟨B,M⟩:=I.set L f5 (Mem.hset_even o.even _ _ _) (Mem.hset_fc _ _ _ _)
 have s:=(r.trans S.fr).trans M
 refine⟨_,rfl,?_⟩
 rw[W]
 have e: ∀{A:zV} {y:Hp} {af:Int} {K:zV->Prop},Tg A j y g i->I64 af->(∀k,Tg k j (y.setMem (y.sp.mem.fset a 10 af p)) g i->Fr (spB j) A k->K k)->di.C (some ⟨j.h,0,none⟩) a 10 af p A (λv k=> ∃x:Int,v=vi x/\K k):=λ{A y af K} J hi hK=>by
  refine HC.mono (o0 J.view G hi u) ?_
  rintro _ k ⟨rfl,V,f⟩
  have V':View k (some ⟨j.h,0,none⟩) (some (j,y.setMem (y.sp.mem.fset a 10 af p))):=V
  obtain⟨Z,f'⟩:=J.set V' f (Mem.fset_even J.even _ _ _ _) (Mem.fset_fc _ _ _ _ _)
  exact⟨_,rfl,hK k Z f'⟩
 by_cases F:c.mem.hsetE (c.mem.lastG a) 1 p=0
 ·rw[if_pos F]
  refine⟨_,B.s1.1,e B (by decide) λk D N=>l _ _ ⟨?_,s.trans N⟩⟩
  have n:c.mem.queued a p=(c.mem.hset (c.mem.lastG a) 1 p).fset a 10 1 p:=by unfold Mem.queued;rw[if_pos F]
  rw[n];exact D
 ·rw[if_neg F]
  refine⟨_,B.s1.1,e B (by decide) λk D N=>?_⟩
  refine⟨_,D.s1.1,e D (by decide) λU T7 f7=>l _ _ ⟨?_,(s.trans N).trans f7⟩⟩
  have n:c.mem.queued a p=((c.mem.hset (c.mem.lastG a) 1 p).fset a 10 0 p).fset a 10 1 p:=by unfold Mem.queued;rw[if_neg F]
  rw[n];exact T7
def oM(old:Nat->Bool)(T:Int)(m:Mem):Prop:= ∀k i:Nat,m.has k->(m.seg k).gen=T->old k=false->(i:Int)< (m.seg k).n->looks (m.seg k).kind i-> ¬aF old (m.read ((k:Int)*64+i))
theorem Mem.wr_read(m:Mem)(a:Int):m.wr a (m.read a)=m:=by
 unfold Mem.wr Mem.read
 by_cases h:m.used a
 ·rw[if_pos h,if_pos h]
  unfold Mem.set Mem.get Mem.upd
  cases m with
  | mk f seg b l=>
   simp only[Mem.mk.injEq,true_and,and_true]
   funext i
   split
   ·rename_i d
    subst d
    cases o:seg (a / 64).toNat with
    | mk g k n c t w=>
     simp only[Seg.set,Seg.mk.injEq,true_and]
     funext j
     split
     ·rename_i e;rw[e]
     ·rfl
   ·rfl
 ·rw[if_neg h]
theorem Sp.lookAt_settled{old:Nat->Bool}(h: ¬aF old (k.mem.read d)):k.lookAt old a d=k:=by
 unfold Sp.lookAt
 rw[Sp.visit_no h]
 simp only[]
 rw[Mem.wr_read]
theorem Sp.look_settled{s:Sp}{old:Nat->Bool}{T k a b:Int}: ∀n:Nat,(∀j:Nat,j<n->looks a (b+j)-> ¬aF old (s.mem.read (k*64+(b+j))))->s.look old T k a b n=s
 | 0,_=>rfl
 | n+1,h=>by
  unfold Sp.look
  rw[Sp.look_settled n (λj d=>h j (by omega))]
  split
  ·rename_i c;exact Sp.lookAt_settled (h n (by omega) c)
  ·rfl
theorem cJ.settled{old:Nat->Bool}{s:Sp}{f g:List (Int×Value)}(h:cJ old a k f s g)(p:oM old a k.mem)(r:aV k.mem)(hk:dE f):s=k/\dE g:=by
 induction h with
 | refl=>exact⟨rfl,hk⟩
 | @step w b y _ hk i o hn q=>
  obtain⟨rfl,c⟩:=q
  have e:=(r.seg y.toNat).n
  refine⟨Sp.look_settled _ (λj u m=>?_),λx v d=>?_⟩
  ·have t:=(gD c y).2.1
   have l:=hk.1
   have:=p y.toNat (seenAt b y+j).toNat (by rw[show((y.toNat:Nat):Int)=y by omega];exact hk) i o (by omega) (by rw[show(((seenAt b y+j).toNat:Nat):Int)=seenAt b y+j by omega];exact m)
   rw[show((y.toNat:Nat):Int)=y by omega,show(((seenAt b y+j).toNat:Nat):Int)=seenAt b y+j by omega]at this
   exact this
  ·rw[ie]at d
   split at d
   ·cases d;exact⟨_,rfl,e⟩
   ·exact c x v d
theorem Tg.withOld(T:Tg H j b g i){old:Nat->Bool}(h: ∀k,k<1024->i.old k=old k):Tg H j b g {i with old:=old}:=by
 obtain⟨⟨n,o,p,q⟩,r,s,t⟩:=T
 obtain⟨u,v,w,x,y,z,A⟩:=p
 obtain⟨m,a,c,d,e,f,l⟩:=u
 exact⟨⟨n,o,⟨⟨m,a,c,d,e,λk hk=>by rw[f k hk,h k hk],l⟩,v,w,x,y,z,A⟩,q⟩,r,s,t⟩
def lq(A:zV)(c:Nat):Nat:=match A[c]? with | some (Obj.cells cs _ _)=>(match(cs[0]?:Option Value)with | some (Value.int _ n)=>(2-n).toNat | _=>0) | _=>0
structure GdSt (H:zV) (b:Blk) (x:Hp) (q:TB) (t:Tr) (c c2 c3 c4:Nat) (a:Addr) (o g lv:Int) (A:zV):Prop where
 tg:Tg A b x q t
 g0:A[c]?=some (.cells #[vp (some ⟨q.t,0,none⟩)] 37 (0,0))
 g2:A[c2]?=some (.cells #[vs (some a) 1 1] 31 (0,0))
 g4:A[c4]?=some (.cells #[vs (some ⟨c3,0,none⟩) 1 1] 75 (0,0))
 g3:A[c3]?=some (.cells #[vi lv] 3 (0,0))
 row:aU A a 0 [vu o,vu g]
 fr:Fr (q.s::spB b) H A
 new:H.size<=c/\H.size<=c2/\H.size<=c3/\H.size<=c4/\c≠c3/\c2≠c3/\c4≠c3/\a.block<H.size
theorem GdSt.ext{f:zV}{b:Blk}{x:Hp}{c j k l:Nat}(h:GdSt H b x g i c j k l u a d o v)(e:Ext v f):GdSt H b x g i c j k l u a d o f:=
 ⟨h.tg.grow e,e.get h.g0,e.get h.g2,e.get h.g4,e.get h.g3,e.rowAt h.row,h.fr.trans e.fr,h.new⟩
theorem GdSt.go{H A e:zV}{t:Hp}{r:Tr}{c m n p:Nat}(h:GdSt H j b g i c m n p u a d o A)(T:Tg e j t g r)(f:Fr (g.s::spB j) A e)(q:u.block ∉ j.all/\u.block ∉ g.all)(v: ∀G∈g.s::spB j,G<H.size):GdSt H j t g r c m n p u a d o e:=by
 obtain⟨w,x,y,z,C,D,E,F⟩:=h.new
 have no: ∀I,H.size<=I->I ∉ g.s::spB j:=λI B k=>by have:=v I k;omega
 refine⟨T,f.get (no _ w) h.g0,f.get (no _ x) h.g2,f.get (no _ z) h.g4,f.get (no _ y) h.g3,f.rowAt (λk=>?_) h.row,h.fr.trans f,h.new⟩
 rcases List.mem_cons.1 k with l | l
 ·exact q.2 (by rw[l];simp[TB.all])
 ·exact q.1 (eY l)
theorem GdSt.lost{k:zV}{p l q:Nat}{e:Int}(h:GdSt H j b g i B p l q u a d o v)(t:k=aP v (Addr.mk l 0 none) [vi e] 0)(r: ∀J,J∈j.all\/J∈g.all->J<H.size):GdSt H j b g i B p l q u a d e k:=by
 obtain⟨z,A,C,D,E,F,G,I⟩:=h.new
 obtain⟨_,s⟩:=jE (n:=1) (vs:=[vi e]) h.g3 rfl rfl
 obtain⟨w,f⟩:=s k t
 have y:=bB h.g3
 refine⟨h.tg.stay f (λJ c m=>by simp at c;have:=r J (.inl m);omega) (λJ c m=>by simp at c;have:=r J (.inr m);omega),f.get (by simp;omega) h.g0,f.get (by simp;omega) h.g2,f.get (by simp;omega) h.g4,w,f.rowAt (by simp;omega) h.row,h.fr.trans' f (λJ c _=>c) (λJ c x=>by simp at c;omega),h.new⟩
theorem qY{l h m:Nat}(S:GdSt H j b g i B l h m u a d o v)(p:aC d):
  cO.C 0 (some (Addr.mk m 0 none)) (some (Addr.mk B 0 none)) (some (Addr.mk l 0 none)) v (λq k=>q=.bool (decide (o=1) && (decide (¬(i.over=false/\aF i.old d)) || (b.sp.mem.fwd d).isSome))/\Ext v k):=by
 refine HC.via λR n=>cO.link ?_
 unfold cO.pt
 refine⟨_,rfl,_,_,_,by rw[aH S.g4];rfl,_,rfl,⟨by decide,by decide⟩,o,by rw[show(Addr.mk h 0 none).add (Int.toNat 0*1)=Addr.mk h 0 none from rfl,aH S.g3];rfl,?_⟩
 by_cases f:o=1
 ·rw[if_pos f]
  have c:=S.row.2.1
  refine⟨_,rfl,_,by rw[aH S.g0];rfl,_,rfl,_,_,_,by rw[aH S.g2];rfl,_,rfl,⟨by decide,by decide⟩,d,by
   have e:(u.add (Int.toNat 0*2)).add 1=u.add (0+1):=by unfold Addr.add;split<;>simp_all
   rw[e];exact c,HC.mono (fP S.tg.toTc p) ?_⟩
  rintro _ k ⟨rfl,e⟩
  exact⟨_,rfl,n _ _ ⟨by rw[zX f,Bool.true_and],e⟩⟩
 ·rw[if_neg f]
  exact n _ _ ⟨by rw[zQ f,Bool.false_and],Ext.refl _⟩
set_option maxRecDepth 100000 in
set_option maxHeartbeats 1000000 in
theorem mF{q:TB}{a:Addr}{o g:Int}(T:Tg H j b q i)(bC:dE i.seen)(bD:0<=i.tgt)(ho:aC o)(hg:aC g)(az:aU H a 0 [vu o,vu g])(ha:a.block ∉ j.all/\a.block ∉ q.all)(br:a.block<H.size)
  (I:aF i.old o/\b.sp.mem.fwd o=none) (af: ¬aF i.old g\/(b.sp.mem.fwd g).isSome=true):
  dp.C (some ⟨q.t,0,none⟩) (some a) 1 1 H (λv H'=>v=vN/\ ∃(w:Sp) (d:List (Int×Value)),
   cJ i.old i.tgt (((b.sp.visit i.old i.tgt o).1.visit i.old i.tgt g).1.putsG i.tgt ((b.sp.visit i.old i.tgt o).1.visit i.old i.tgt g).2 (b.sp.visit i.old i.tgt o).2) i.seen w d/\eZ i.old i.tgt w d/\Tg H' j {b with sp:=w} q {i with seen:=d}/\dE d/\Fr (q.s::spB j) H H'):=by
 refine HC.via λR hR=>dp.link ?_
 unfold dp.pt zY
 intro c H1 hc ab D H2 bs ac
 have e1:Ext H H1:=Ext.push' ab
 have e2:Ext H1 H2:=Ext.push' ac
 have z1:H1.size=H.size+1:=by rw[ab];simp
 have z2:H2.size=H1.size+1:=by rw[ac];simp
 have k0:=e2.get (aL hc ab)
 have k2:=aL bs ac
 refine⟨_,by rw[aH k0];rfl,HC.mono (iI (T.grow (e1.trans e2)).toTc) ?_⟩
 rintro _ HH ⟨rfl,bq⟩
 obtain rfl:H2=HH:=bq.symm
 refine⟨_,rfl,?_⟩
 rw[if_neg (by rw[T.on];decide)]
 refine⟨some a,1,1,by rw[aH k2];rfl,by decide,by decide,by decide,by decide,λe H5 bu ae E H6 bw aw=>?_⟩
 have e5:Ext H2 H5:=Ext.push' ae
 have z5:H5.size=H2.size+1:=by rw[ae];simp
 have z6:H6.size=H5.size+1:=by rw[aw];simp
 obtain⟨q6,s6⟩:=eU (A3:=aP H6 (Addr.mk E 0 none) [vs (some (Addr.mk e 0 none)) 1 1] 0) bw aw [vs (some (Addr.mk e 0 none)) 1 1] rfl
 refine⟨q6,λH7 bo=>?_⟩
 have ax:H7=aP H6 (Addr.mk E 0 none) [vs (some (Addr.mk e 0 none)) 1 1] 0:=bo
 obtain⟨k4,e7⟩:=s6 rfl
 rw[<-ax]at k4 e7
 have k3:H5[e]?=some (.cells #[vi 0] 3 (0,0)):=by
  have:=aL bu ae
  rw[show Builtin.zeroCells #[vi 0] (Int.toNat ((1:Nat):Int))=(#[vi 0]:Array Value)from by kernel_rfl]at this
  exact this
 have E7:=((e1.trans e2).trans e5).trans e7
 have a9:=e5.trans e7
 have Q: ∀cy,cy∈j.all\/cy∈q.all->cy<H.size:=λcy t=>T.lt t
 have J: ∀cy∈q.s::spB j,cy<H.size:=λcy t=>by
  rcases List.mem_cons.1 t with h | h
  ·exact Q cy (.inr (by rw[h];simp[TB.all]))
  ·exact Q cy (.inl (eY h))
 have S0:GdSt H j b q i c D e E a o g 0 H7:=⟨T.grow E7,a9.get k0,a9.get k2,k4,e7.get k3,E7.rowAt az,E7.fr,by omega,by omega,by omega,by omega,by omega,by omega,by omega,br⟩
 have ag:IntKind.wrap .i64 ((0:Int)+1)=1:=by decide
 refine⟨some a,1,1,by rw[aH (a9.get k2)];rfl,λcy A=>(cy=0/\GdSt H j b q i c D e E a o g 0 A)\/(cy=1/\GdSt H j b q i c D e E a o g 1 A),λcy _=>(1-cy).toNat,.inl ⟨rfl,S0⟩,?_⟩
 rintro cy H8 (⟨rfl,S8⟩ | ⟨rfl,S8⟩)
 ·rw[if_pos (by decide)]
  refine⟨a,rfl,⟨by decide,by decide⟩,o,g,by rw[show a.add (Int.toNat 0*2)=a from by unfold Addr.add;simp];exact S8.row,λcz H9 bz bp=>?_⟩
  obtain⟨q9,s9⟩:=eU (A3:=aP H9 (Addr.mk cz 0 none) [vu o,vu g] 0) bz bp [vu o,vu g] rfl
  refine⟨q9,λb6 au=>?_⟩
  obtain⟨k5,ao⟩:=s9 rfl
  rw[<-au]at k5 ao
  have bJ:b6[cz]?=some (.cells #[vu o,vu g] 36 (0,0)):=k5
  have a4:=S8.ext ao
  refine⟨_,by rw[aH a4.g0];rfl,o,by rw[aH bJ];rfl,HC.mono (fP a4.tg.toTc ho) ?_⟩
  rintro _ c5 ⟨rfl,bg⟩
  refine⟨_,rfl,?_⟩
  rw[if_neg (by rw[I.2];simp[T.on,I.1])]
  have a5:=a4.ext bg
  refine⟨_,_,_,by rw[aH a5.g4];rfl,_,rfl,⟨by decide,by decide⟩,?_⟩
  rw[show(Addr.mk e 0 none).add (Int.toNat 0*1)=Addr.mk e 0 none from rfl,ag]
  refine⟨bV a5.g3 _ _ _ (by simp),λc6 av=>⟨.inr ⟨rfl,a5.lost av Q⟩,show((1:Int)-1).toNat< ((1:Int)-0).toNat by decide⟩⟩
 rw[if_neg (by decide)]
 obtain⟨s3,aR⟩: ∃s3:Sp,s3=((b.sp.visit i.old i.tgt o).1.visit i.old i.tgt g).1.putsG i.tgt ((b.sp.visit i.old i.tgt o).1.visit i.old i.tgt g).2 (b.sp.visit i.old i.tgt o).2:=⟨_,rfl⟩
 rw[<-aR]at hR
 obtain⟨S2,F⟩: ∃S2:zV->Prop,S2=λA=> ∃(w:Sp) (d:List (Int×Value)),cJ i.old i.tgt s3 i.seen w d/\eZ i.old i.tgt w d/\dE d/\GdSt H j {b with sp:=w} q {i with seen:=d} c D e E a o g 2 A:=⟨_,rfl⟩
 have m1: ∀{A:zV} {y:Hp} {u:Tr} {lv:Int},GdSt H j y q u c D e E a o g lv A->lq A e=(2-lv).toNat:=λS=>by unfold lq;rw[S.g3];rfl
 refine⟨λA=>GdSt H j b q i c D e E a o g 1 A\/S2 A,λA=>lq A e,.inl S8,?_⟩
 intro a1 ap
 have aa:a1[D]?=some (.cells #[vs (some a) 1 1] 31 (0,0)):=by
  rcases ap with S | S
  ·exact S.g2
  ·rw[F]at S;obtain⟨_,_,_,_,_,S⟩:=S;exact S.g2
 refine⟨some a,1,1,by rw[aH aa];rfl,λcy A=>(cy=0/\GdSt H j b q i c D e E a o g 1 A/\GdSt H j b q i c D e E a o g 1 a1)\/((cy=0\/cy=1)/\S2 A),λcy _=>(1-cy).toNat,?_,?_⟩
 ·rcases ap with S | S
  ·exact .inl ⟨rfl,S,S⟩
  ·exact .inr ⟨.inl rfl,S⟩
 rintro cy aj bn
 have cf:S2 aj-> ∃Z:zW,∃a0:Nat,∃aX:Nat,hat aj (Addr.mk D 0 none)=some (vs Z a0 aX)/\Z=some a/\a0=1:=λS=>by
  rw[F]at S;obtain⟨_,_,_,_,_,S⟩:=S
  exact⟨_,_,_,by rw[aH S.g2];rfl,rfl,rfl⟩
 rcases bn with⟨rfl,r,ba⟩ | ⟨t,r⟩
 ·rw[if_pos (by decide)]
  refine⟨a,rfl,⟨by decide,by decide⟩,o,g,by rw[show a.add (Int.toNat 0*2)=a from by unfold Addr.add;simp];exact r.row,λO x G l=>?_⟩
  obtain⟨L,M⟩:=eU (A3:=aP x (Addr.mk O 0 none) [vu o,vu g] 0) G l [vu o,vu g] rfl
  refine⟨L,λa2 m=>?_⟩
  obtain⟨k6,k⟩:=M rfl
  rw[<-m]at k6 k
  have bK:a2[O]?=some (.cells #[vu o,vu g] 36 (0,0)):=k6
  have f:=r.ext k
  refine HC.mono (qY f hg) ?_
  rintro _ ak ⟨rfl,P⟩
  refine⟨_,rfl,?_⟩
  rw[if_pos (by
   rcases af with h | h
   ·simp[h]
   ·simp[h])]
  have z:=f.ext P
  refine⟨_,_,_,by rw[aH z.g4];rfl,_,rfl,⟨by decide,by decide⟩,?_⟩
  rw[show(Addr.mk e 0 none).add (Int.toNat 0*1)=Addr.mk e 0 none from rfl]
  refine⟨bV z.g3 _ _ _ (by simp),λa3 Y=>?_⟩
  have a6:=z.lost Y Q
  have cq:=r.fr.size
  have l3:=bB z.g3
  have ay:O≠e:=by have:=bB r.g3;omega
  have bi:Fr [e] ak a3:=(jE (n:=1) (vs:=[vi 2]) z.g3 rfl rfl).2 a3 Y |>.2
  have K:=bi.get (by simp;exact ay) (P.get bK)
  refine⟨_,by rw[aH a6.g0];rfl,o,by rw[aH K];rfl,HC.mono (ef a6.tg ho) ?_⟩
  rintro _ b7 ⟨rfl,bb,bj⟩
  have X:Fr (q.s::spB j) a3 b7:=bj.mono (λcy t _=>List.mem_cons_of_mem _ t)
  have B:=a6.go bb X ha J
  have bf:O ∉ q.s::spB j:=λh=>by have:=J O h;omega
  have ah:=X.get bf K
  refine⟨_,rfl,_,by rw[aH B.g0];rfl,_,by rw[aH B.g0];rfl,g,jD ah 1,HC.mono (ef B.tg hg) ?_⟩
  rintro _ c7 ⟨rfl,bc,bk⟩
  have a7:=B.go bc (bk.mono (λcy t _=>List.mem_cons_of_mem _ t)) ha J
  refine⟨_,rfl,gS a7.g0,HC.mono (pW a7.tg (Sp.visit_word B.tg.ok hg) (Sp.visit_word T.ok ho)) ?_⟩
  rintro _ c8 ⟨bd,bl⟩
  have a8:=a7.go bd (bl.mono (λcy t _=>List.mem_cons_of_mem _ t)) ha J
  refine⟨_,by rw[aH a8.g0];rfl,HC.mono (iF a8.tg bC bD) ?_⟩
  rintro _ b8 ⟨w,d,V,U,be,p,bm⟩
  have an:=a8.go be bm ha J
  refine⟨.inr ?_,?_⟩
  ·rw[F];exact⟨w,d,by rw[aR];exact V,U,p,an⟩
  ·show lq b8 e<lq a1 e
   rw[m1 an,m1 ba];decide
 ·have W:=r
  rw[F]at W
  obtain⟨w,d,V,U,p,S⟩:=W
  rcases t with rfl | rfl
  ·rw[if_pos (by decide)]
   refine⟨a,rfl,⟨by decide,by decide⟩,o,g,by rw[show a.add (Int.toNat 0*2)=a from by unfold Addr.add;simp];exact S.row,λO x G l=>?_⟩
   obtain⟨L,M⟩:=eU (A3:=aP x (Addr.mk O 0 none) [vu o,vu g] 0) G l [vu o,vu g] rfl
   refine⟨L,λa2 m=>?_⟩
   obtain⟨k6,k⟩:=M rfl
   rw[<-m]at k6 k
   have f:=S.ext k
   refine HC.mono (qY f hg) ?_
   rintro _ ak ⟨rfl,P⟩
   refine⟨_,rfl,?_⟩
   rw[if_neg (by simp),ag]
   exact⟨.inr ⟨.inr rfl,by rw[F];exact⟨w,d,V,U,p,f.ext P⟩⟩,show((1:Int)-1).toNat< ((1:Int)-0).toNat by decide⟩
  rw[if_neg (by decide)]
  refine⟨some a,1,1,by rw[aH S.g2];rfl,λoB oN oC cy A=>oB=none/\oN=0/\oC=0/\(cy=0\/cy=1)/\GdSt H j {b with sp:=w} q {i with seen:=d} c D e E a o g 2 A,λ_ _ _ cy _=>(1-cy).toNat,⟨rfl,rfl,rfl,.inl rfl,S⟩,?_⟩
  rintro _ _ _ cy c9 ⟨rfl,rfl,rfl,t,N⟩
  rcases t with rfl | rfl
  ·rw[if_pos (by decide)]
   refine⟨a,rfl,⟨by decide,by decide⟩,o,g,by rw[show a.add (Int.toNat 0*2)=a from by unfold Addr.add;simp];exact N.row,λO x G l=>?_⟩
   obtain⟨L,M⟩:=eU (A3:=aP x (Addr.mk O 0 none) [vu o,vu g] 0) G l [vu o,vu g] rfl
   refine⟨L,λa2 m=>?_⟩
   obtain⟨k6,k⟩:=M rfl
   rw[<-m]at k6 k
   have f:=N.ext k
   refine⟨_,_,_,by rw[aH f.g4];rfl,_,rfl,⟨by decide,by decide⟩,2,by rw[show(Addr.mk e 0 none).add (Int.toNat 0*1)=Addr.mk e 0 none from rfl,aH f.g3];rfl,?_⟩
   rw[if_neg (by decide),ag]
   exact⟨⟨rfl,rfl,rfl,.inr rfl,f⟩,show((1:Int)-1).toNat< ((1:Int)-0).toNat by decide⟩
  ·rw[if_neg (by decide)]
   exact hR _ _ ⟨rfl,w,d,V,U,N.tg,p,N.fr⟩
variable{a:Mem}
theorem Mem.mark_taken{k c v:Int}(j:Nat):((a.mark k c v).1.seg j).taken=(a.seg j).taken:=by
 unfold Mem.mark
 split
 ·rfl
 ·split
  ·rfl
  ·show((a.upd _ _).seg j).taken=_
   rw[Mem.upd_seg]
   split
   ·rename_i h;rw[h];rfl
   ·rfl
theorem Mem.store_taken{b w:Int}(j:Nat):((a.store b w).1.seg j).taken=(a.seg j).taken:=by
 unfold Mem.store
 split
 ·rw[Mem.mark_taken];exact((aS.set a b w).seg j).2.2.2.1
 ·rfl
theorem Mem.store_headsL(e:aV a){x v:Int}(d:aC v):dX a (a.store x v).1:=by
 refine⟨Mem.store_lim.1,λk _=>⟨(Mem.store_seg k).1,(Mem.store_seg k).2.1,Mem.store_taken k,by rw[(Mem.store_seg k).2.2];exact Int.le_refl _⟩,λk _ c=>?_⟩
 by_cases b:a.used x
 ·rw[Mem.store_cards e b d]
  split
  ·exact Mem.younger_le _ _ _ _
  ·exact Int.le_refl _
 ·unfold Mem.store;rw[if_neg b];exact Int.le_refl _
theorem Mem.store_kAt{m:Mem}{a w:Int}(x:Int):(m.store a w).1.kAt x=m.kAt x/\(m.store a w).1.gAt x=m.gAt x:=⟨(Mem.store_seg _).2.1,(Mem.store_seg _).1⟩
theorem Reach.of{Z Z':TZ}(hm:Z'.m=Z.m)(k:Z'.sz=Z.sz)(c:Z'.O=Z.O)(e: ∀v,Z.V v->Z'.V v){a:Int}(h:Reach Z a):Reach Z' a:=by
 induction h with
 | root h b=>exact .root (e _ h) (by rw[c];exact b)
 | @older x j hn d b=>
  have:=Reach.older (Z:=Z') (x:=x) (by rw[hm];exact j) (by rw[c];exact hn) (by rw[hm];exact d) (by rw[hm,c];exact b)
  rw[hm]at this;exact this
 | @step a i h f d b l=>
  have:=Reach.step (Z:=Z') (a:=a) (i:=i) l (by rw[k];exact f) (by rw[hm];exact d) (by rw[hm,c];exact b)
  rw[hm]at this;exact this
section
variable {Z:TZ} {g F0:Int} {fw:Int->Option Int} {al:List Int} {s:Sp} {sz:Int->Nat} {ks:List (Int×Value)}
def TZ.more(Z:TZ)(w:Int):TZ:={Z with V:=λv=>v=w\/Z.V v}
theorem aO.more(S:aO Z g F0){w:Int}(c:aC w)(b:Good Z.m Z.sz w):aO (Z.more w) g F0:=
 ⟨S.ok,S.even,S.sound,S.old,S.rng,S.room,λv a=>by
  rcases a with rfl | a
  ·exact⟨c,b⟩
  ·exact S.V v a⟩
theorem Tri.more(t:Tri Z F0 fw al s sz)(w:Int):Tri (Z.more w) F0 fw al s sz:=
 ⟨t.ok,t.even,t.heads,t.oldN,t.curO,(by obtain⟨c,h⟩:=t.cap;exact⟨c,h.free,h.none,h.le⟩),⟨t.olds.nodup,t.olds.mem⟩,t.al,λa b h=>by
  obtain⟨e,d⟩:=t.img a b h
  exact⟨e,d.fit,d.here,d.new,d.gen,d.kind,d.out,d.even⟩,t.inj,t.apart,t.sz0,t.szn,t.word,t.keep,t.cover,t.val,λa b h=>Reach.of (Z:=Z) (Z':=Z.more w) rfl rfl rfl (λv i=>Or.inr i) (t.reach a b h),λp f=>by
  have N:=t.pair p f
  exact⟨N.used,N.new,N.gen,N.kind,N.out,N.even,N.sz,N.q⟩,t.pnd,λx w h=>by
  have W:=t.qok x w h
  exact⟨W.used,W.out,W.strong,W.word,W.young,W.good,W.head,W.mark,W.tagged⟩,t.qwas,t.pim⟩
theorem Pend.more(p:Pend Z fw s ks)(w:Int):Pend (Z.more w) fw s ks:=⟨p.ok,p.here,p.pend⟩
theorem kB.done{w:Int}{f:Sp}{v:Int}{a:Int->Option Int}{b:List Int}{c:Int->Nat}(t:Tri Z F0 fw al s sz)(V:kB Z F0 fw s w f v a b c){x:Int}(e:s.mem.used x)(d:Z.O (x / 64).toNat=false)(h:Done Z fw s x):Done Z a f x:=
 h.keep t V.tri V.le e d (V.rest x e d)
theorem Tri.newT(t:Tri Z F0 fw al s sz){k:Sp}{d:Int->Option Int}{c:List Int}{f:Int->Nat}(l:Tri Z F0 d c k f){x:Int}(n:s.mem.used x)(hn: ¬k.mem.used x):s.mem.gAt x=Z.T:=by
 rcases t.cover x n with q | ⟨a,b,i,e,h,m⟩ | ⟨q,e,h⟩
 ·exact absurd (l.heads.used q) hn
 ·have j:=(t.img a b e).2
  have o:=j.fit
  unfold Mem.gAt
  rw[m,show(b+(i:Int)) / 64=b / 64 by omega];exact j.gen
 ·have N:=(l.pair q e).used
  rcases h with rfl | rfl
  ·exact absurd N.1 hn
  ·exact absurd N.2 hn
theorem Pend.visited{w:Int}{o:Sp}{v:Int}{b:Int->Option Int}{d:List Int}{m:Int->Nat}(t:Tri Z F0 fw al s sz)(p:Pend Z fw s ks)(V:kB Z F0 fw s w o v b d m):Pend Z b o ks:=by
 refine⟨p.ok,λk i q e f c=>V.heads.used (p.here k i q e f c),λx n c r=>?_⟩
 by_cases a:s.mem.used x
 ·have hk:=V.heads.l.kAt a
  have j:s.mem.strong x:=by unfold Mem.strong at*;rw[<-hk.1];exact r
  rcases p.pend x a c j with h | ⟨e,f⟩
  ·exact .inl (V.done t a c h)
  ·exact .inr ⟨hk.2.trans e,f⟩
 ·exact .inr ⟨V.tri.newT t n a,p.unseen n.1 c a⟩
def TZ.wrt(Z:TZ)(x w:Int):TZ:={Z with q:=λy=>if y=x then some w else Z.q y}
theorem aO.wrt(S:aO Z g F0)(x w:Int):aO (Z.wrt x w) g F0:=⟨S.ok,S.even,S.sound,S.old,S.rng,S.room,S.V⟩
theorem oO{x w y u:Int}(h:y≠x):Was (Z.wrt x w) fw y u ↔ Was Z fw y u:=by
 show((if y=x then some w else Z.q y)=some u\/((if y=x then some w else Z.q y)=none/\Was0 Z fw y u)) ↔ _
 rw[if_neg h];exact Iff.rfl
theorem nm{x w u:Int}:Was (Z.wrt x w) fw x u ↔ u=w:=by
 show((if x=x then some w else Z.q x)=some u\/((if x=x then some w else Z.q x)=none/\Was0 Z fw x u)) ↔ _
 rw[if_pos rfl]
 constructor
 ·rintro(h | ⟨h,_⟩)
  ·exact(Option.some.inj h).symm
  ·cases h
 ·rintro rfl;exact .inl rfl
theorem Tri.write(S:aO Z g F0)(t:Tri Z F0 fw al s sz){x w:Int}(G:s.mem.used x)(ho:Z.O (x / 64).toNat=false)(hs:s.mem.strong x)(hd:Done Z fw s x)(hh:sz x≠0->s.mem.kAt x<=1)(M:aC w)(C: ¬aF Z.O w)(Q:Good s.mem sz w)(Y:isTag w\/w=20):
  Tri (Z.wrt x w) F0 fw al {s with mem:=(s.mem.store x w).1} sz/\Done (Z.wrt x w) fw {s with mem:=(s.mem.store x w).1} x:=by
 have L:=Mem.store_headsL t.ok.mem (x:=x) M
 have f: ∀y,0<=y->(s.mem.store x w).1.get y=if y=x then w else s.mem.get y:=λy C=>Mem.store_get G y C
 have E: ∀y,Z.O (y / 64).toNat=true->y≠x:=λy C e=>by rw[e,ho]at C;cases C
 have B: ∀y,sz y≠0->s.mem.used y:=λy h=>t.sz_used S h
 have A: ∀y,(s.mem.store x w).1.strong y ↔ s.mem.strong y:=λy=>by unfold Mem.strong;rw[(Mem.store_kAt y).1]
 obtain⟨c,j⟩:=t.cap
 refine⟨⟨t.ok.store x M,Mem.store_even t.even x w,t.heads.trans L,λk V X=>?_,t.curO,⟨c,?_,j.none,λk U=>?_⟩,⟨t.olds.nodup,t.olds.mem⟩,t.al,λa b r=>?_,t.inj,t.apart,t.sz0,t.szn,λa b r=>?_,λy z J a0=>?_,λy z=>t.cover y (Mem.store_used.1 z),λy u m=>?_,λa b h=>Reach.of (Z:=Z) (Z':=Z.wrt x w) rfl rfl rfl (λv I=>I) (t.reach a b h),λp hp=>?_,t.pnd,λy v l=>?_,λy v l I=>?_,t.pim⟩,λu H=>?_⟩
 ·show((s.mem.store x w).1.seg k).n=_
  rw[(Mem.store_seg k).2.2];exact t.oldN k V X
 ·show(s.mem.store x w).1.free+_=_
  rw[Mem.store_lim.2.1];exact j.free
 ·have:=j.le k U
  have e:({s with mem:=(s.mem.store x w).1}:Sp).fill Z.T k=s.fill Z.T k:=by
   unfold Sp.fill
   show(if s.cur Z.T.toNat k=0 then 0 else((s.mem.store x w).1.seg _).n)=_
   rw[(Mem.store_seg _).2.2]
  show _+({s with mem:=(s.mem.store x w).1}:Sp).fill Z.T k<=_
  rw[e];exact this
 ·obtain⟨h1,D⟩:=t.img a b r
  exact⟨h1,D.fit,λi hi=>Mem.store_used.2 (D.here i hi),D.new,(Mem.store_kAt b).2.trans D.gen,(Mem.store_kAt b).1.trans D.kind,D.out,D.even⟩
 ·have ha:=t.olds.mem a ((t.al a).2 ⟨b,r⟩)
  show(s.mem.store x w).1.get a=_
  rw[f a (S.sound.used a ha.1).1.1,if_neg (E a ha.2)];exact t.word a b r
 ·show(s.mem.store x w).1.get y=_
  rw[f y z.1,if_neg (E y J)];exact t.keep y z J a0
 ·show(s.mem.store x w).1.get y=u\/_
  by_cases d:y=x
  ·subst d
   rw[nm]at m
   rw[f y G.1,if_pos rfl];exact .inl m.symm
  ·rw[oO d]at m
   rw[f y (t.usedOf m).1.1,if_neg d]
   rcases t.val y u m with q | ⟨P,K,q3⟩
   ·exact .inl q
   ·exact .inr ⟨(A y).2 P,K,q3⟩
 ·have N:=(t.pair p hp).keep (s':={s with mem:=(s.mem.store x w).1}) L (λ_ _=>rfl)
  refine⟨N.used,N.new,N.gen,N.kind,N.out,N.even,N.sz,?_,?_⟩
  ·show(if p=x then some w else Z.q p)≠none
   split
   ·simp
   ·exact N.q.1
  ·show(if p+1=x then some w else Z.q (p+1))≠none
   split
   ·simp
   ·exact N.q.2
 ·have l:(if y=x then some w else Z.q y)=some v:=l
  by_cases d:y=x
  ·rw[if_pos d]at l
   cases l
   subst d
   have ht:isTag w->s.mem.used (w / 8):=λq=>B _ (Q.2 q).1
   have R:=lg L ht
   refine⟨Mem.store_used.2 G,ho,(A y).2 hs,M,C,⟨Q.1,λq=>by rw[(Mem.store_kAt _).1];exact Q.2 q⟩,λq=>by rw[(Mem.store_kAt _).1];exact hh q,λP K=>?_,Y⟩
   rw[R]at P K⊢
   rw[(Mem.store_kAt _).2]at K
   show((s.mem.store y w).1.seg _).cards _<=_
   rw[Mem.store_cards t.ok.mem G M,if_pos ⟨rfl,rfl⟩]
   unfold Mem.younger
   rw[if_pos ⟨P,hs.1,K⟩]
   exact Int.min_le_right _ _
  ·rw[if_neg d]at l
   have W:=(t.qok y v l).keep (s':={s with mem:=(s.mem.store x w).1}) L B (λ_ _=>rfl)
   exact⟨W.used,W.out,W.strong,W.word,W.young,W.good,W.head,W.mark,W.tagged⟩
 ·by_cases d:y=x
  ·subst d
   by_cases F:Z.q y=none
   ·exact(hd v (.inr ⟨F,I⟩)).1
   ·exact t.qwas y v F I
  ·have l:(if y=x then some w else Z.q y)≠none:=l
   rw[if_neg d]at l
   exact t.qwas y v l I
 ·rw[nm]at H
  subst H
  refine⟨λo=>absurd o C,?_⟩
  show(s.mem.store x u).1.get x=Fw Z.O fw u
  rw[f x G.1,if_pos rfl,eL C]
theorem Done.wrt(t:Tri Z F0 fw al s sz){x w y:Int}(f:s.mem.used x)(b:s.mem.used y)(a:y≠x)(h:Done Z fw s y):Done (Z.wrt x w) fw {s with mem:=(s.mem.store x w).1} y:=λv c=>by
 rw[oO a]at c
 obtain⟨d,e⟩:=h v c
 refine⟨d,?_⟩
 show(s.mem.store x w).1.get y=_
 rw[Mem.store_get f y b.1,if_neg a];exact e
theorem Pend.write(S:aO Z g F0)(t:Tri Z F0 fw al s sz)(p:Pend Z fw s ks){x w:Int}(q:s.mem.used x)(n:Done (Z.wrt x w) fw {s with mem:=(s.mem.store x w).1} x):Pend (Z.wrt x w) fw {s with mem:=(s.mem.store x w).1} ks:=by
 refine⟨p.ok,λk i l d e f=>Mem.store_used.2 (p.here k i l d e f),λy r f o=>?_⟩
 have b:s.mem.used y:=Mem.store_used.1 r
 by_cases c:y=x
 ·rw[c];exact .inl n
 ·have j:s.mem.strong y:=by unfold Mem.strong at*;rw[<-(Mem.store_kAt (m:=s.mem) (a:=x) (w:=w) y).1];exact o
  rcases p.pend y b f j with h | ⟨d,e⟩
  ·exact .inl (h.wrt t q b c)
  ·exact .inr ⟨(Mem.store_kAt y).2.trans d,e⟩
def TZ.putP(Z:TZ)(p a d:Int):TZ:={Z with q:=λy=>if y=p then some a else if y=p+1 then some d else Z.q y,P:=p::Z.P}
theorem aO.putP(S:aO Z g F0){p a d:Int}(h:2*((Z.yk 0:Int)+Z.yk 1+Z.yk 2+Z.yk 3)+8+(((Z.P.length+1) / 32:Nat):Int)<=F0):aO (Z.putP p a d) g F0:=⟨S.ok,S.even,S.sound,S.old,S.rng,h,S.V⟩
theorem nn{p a d y u:Int}(h:y≠p/\y≠p+1):Was (Z.putP p a d) fw y u ↔ Was Z fw y u:=by
 show((if y=p then some a else if y=p+1 then some d else Z.q y)=some u\/((if y=p then some a else if y=p+1 then some d else Z.q y)=none/\Was0 Z fw y u)) ↔ _
 rw[if_neg h.1,if_neg h.2];exact Iff.rfl
theorem mh{p a d y u:Int}(h:y=p\/y=p+1):Was (Z.putP p a d) fw y u ↔ u=if y=p then a else d:=by
 show((if y=p then some a else if y=p+1 then some d else Z.q y)=some u\/((if y=p then some a else if y=p+1 then some d else Z.q y)=none/\Was0 Z fw y u)) ↔ _
 have e:(if y=p then some a else if y=p+1 then some d else Z.q y)=some (if y=p then a else d):=by
  by_cases b:y=p
  ·rw[if_pos b,if_pos b]
  ·rw[if_neg b,if_neg b,if_pos (h.resolve_left b)]
 rw[e]
 constructor
 ·rintro(h | ⟨h,_⟩)
  ·exact(Option.some.inj h).symm
  ·cases h
 ·rintro rfl;exact .inl rfl
structure PutP (Z:TZ) (F0:Int) (fw:Int->Option Int) (al:List Int) (s:Sp) (sz:Int->Nat) (a d p:Int) (s':Sp) (sz':Int->Nat):Prop where
 tri:Tri (Z.putP p a d) F0 fw al s' sz'
 heads:dt s.mem s'.mem
 get: ∀x,s.mem.used x->s'.mem.get x=s.mem.get x
 szo: ∀y,s.mem.used y->sz' y=sz y
 new: ¬s.mem.used p/\ ¬s.mem.used (p+1)
 used: ∀x,s'.mem.used x ↔ s.mem.used x\/x=p\/x=p+1
 car:s'.mem.get p=a
 cdr:s'.mem.get (p+1)=d
 word:aC (p*8+1)/\Good s'.mem sz' (p*8+1)/\ ¬aF Z.O (p*8+1)/\p*8+1≠20
theorem Tri.putP(S:aO Z g F0)(t:Tri Z F0 fw al s sz){a d:Int}(ha:aC a)(hd:aC d)(ap: ¬aF Z.O a)(au: ¬aF Z.O d)(aj:Good s.mem sz a)(ak:Good s.mem sz d)(aY:isTag a\/a=20)(b0:isTag d\/d=20){p:Int}{s':Sp}{m:Mem}
  (a0:(s.alloc Z.T 0 2).2.2=0) (hp:(s.alloc Z.T 0 2).2.1=p) (an:(s.alloc Z.T 0 2).1=s') (hm:m=s'.mem.sets p [a,d]):PutP Z F0 fw al s sz a d p {s' with mem:=m} (λx=>if x=p then 2 else sz x):=by
 obtain⟨aw,K⟩:=Sp.alloc_ok t.ok a0
 obtain⟨ev,af⟩:=K.even t.even (λ_=>by decide)
 rw[hp]at K af
 obtain⟨c,ah⟩:=t.cap
 have sm:aS s'.mem m:=by rw[hm];exact aS.sets _ _ _
 obtain⟨c',Q⟩:=ah.put (Z':=Z.putP p a d) t.ok t.even (m:=m) a0 (by rw[an];exact sm) rfl (λ_=>rfl) rfl
 have ai:=Sp.alloc_curS t.ok a0
 have Y:=Sp.alloc_addr t.ok a0
 rw[hp]at Y
 rw[an]at aw K ev ai Y Q
 have b9:=t.ok.mem.lim
 obtain⟨b6,a1,br⟩:=K.addr
 have aX:=af (by decide)
 have ae:(p+1) / 64=p / 64:=by omega
 have b:dt s.mem m:=(K.heads (by omega)).trans sm.heads
 have a3: ∀k:Nat,k<1024->(s.mem.seg k).taken=0->Z.O k=false:=λk hk h0=>by
  by_cases L:Z.O k=true
  ·have:=((S.old k hk).1 L).1.2.2
   rw[show((k:Nat):Int).toNat=k by omega]at this
   have f:=(t.heads.seg k this).2.2.1
   rw[h0]at f;exact absurd f.symm this
  ·simpa using L
 have R: ∀k,k<4->s'.cur Z.T.toNat k≠0->Z.O (s'.cur Z.T.toNat k-1).toNat=false:=λk hk h0=>by
  rcases ai k h0 with e | ⟨e1,e2⟩
  ·rw[e]at h0⊢;exact t.curO k hk h0
  ·exact a3 _ (by omega) e1
 have E:Z.O (p / 64).toNat=false:=by
  rw[Y.1];exact R _ (by decide) Y.2
 have b2: ∀i:Nat,i<2->s'.mem.used (p+i):=λi hi=>(K.usedIff (by omega)).2 (.inr (by omega))
 have J: ∀x,0<=x->m.get x=if x=p then a else if x=p+1 then d else s'.mem.get x:=λx u=>by
  rw[hm,Mem.sets_get _ x u b6 (λi hi=>b2 i (by simpa using hi))]
  by_cases z:x=p
  ·rw[if_pos z,if_pos (by simp;omega),z];simp
  ·by_cases f:x=p+1
   ·rw[if_neg z,if_pos f,if_pos (by simp;omega),f,show(p+1-p).toNat=1 by omega];rfl
   ·rw[if_neg z,if_neg f,if_neg (by simp;omega)]
 have A: ¬s.mem.used p/\ ¬s.mem.used (p+1):=⟨λh=>K.not_in h (by omega),λh=>K.not_in h (by omega)⟩
 have C: ∀x,s.mem.used x->x≠p/\x≠p+1:=λx u=>⟨λe=>A.1 (e▸u),λe=>A.2 (e▸u)⟩
 have D: ∀x,s.mem.used x->m.get x=s.mem.get x:=λx u=>by
  rw[J x u.1,if_neg (C x u).1,if_neg (C x u).2,K.get u]
 have j: ∀x,m.used x ↔ s.mem.used x\/x=p\/x=p+1:=λx=>by
  rw[sm.used,K.usedIff (by omega)]
  exact⟨λh=>by rcases h with h | h;exact .inl h;exact .inr (by omega),λh=>by rcases h with h | h;exact .inl h;exact .inr (by omega)⟩
 have a5:m.used p/\m.used (p+1):=⟨(j p).2 (.inr (.inl rfl)),(j _).2 (.inr (.inr rfl))⟩
 have H:m.kAt p=0/\m.gAt p=Z.T:=⟨((sm.seg _).2.1).trans K.new.2.2.1,((sm.seg _).1).trans K.new.2.1⟩
 have U:m.kAt (p+1)=0/\m.gAt (p+1)=Z.T:=by unfold Mem.kAt Mem.gAt;rw[ae];exact H
 have G: ∀y,s.mem.used y->(λx=>if x=p then 2 else sz x) y=sz y:=λy I=>if_neg (C y I).1
 have B: ∀y,sz y≠0->s.mem.used y:=λy h=>t.sz_used S h
 have bk:sz p=0/\sz (p+1)=0:=⟨by
  by_cases h:sz p=0
  ·exact h
  ·exact absurd (B _ h) A.1,by
  by_cases h:sz (p+1)=0
  ·exact h
  ·exact absurd (B _ h) A.2⟩
 have a4: ∀x,Z.m.used x->x≠p/\x≠p+1:=λx u=>C x (t.heads.used u)
 have a2: ∀v,Good s.mem sz v->Good m (λx=>if x=p then 2 else sz x) v:=λv hv=>⟨hv.1,λb1=>by
  obtain⟨z,f⟩:=hv.2 b1
  have M:=B _ z
  have e:(λx=>if x=p then 2 else sz x) (v / 8)=sz (v / 8):=G _ M
  rw[e,(b.l.kAt M).1]
  exact⟨z,f⟩⟩
 have F:m.strong p/\m.strong (p+1):=by
  unfold Mem.strong
  rw[H.1,U.1];exact⟨⟨by decide,.inl (by decide)⟩,⟨by decide,.inl (by decide)⟩⟩
 have a8: ∀x,sz x≠0-> ∀i:Nat,i<sz x->s.mem.used (x+i):=λx u i hi=>by
  rcases t.szn x u with q | ⟨a',q⟩ | q
  ·have e:=t.sz0 x q
   rw[e]at u hi
   exact t.heads.used (S.sound.usedAt u hi (λk=>(S.ok.seg k).n.2)).1
  ·obtain⟨f,aR⟩:=t.img a' x q
   exact aR.here i (by omega)
  ·have N:=t.pair x q
   rw[N.sz]at hi
   rcases(show i=0\/i=1 by omega)with rfl | rfl
   ·simpa using N.used.1
   ·exact N.used.2
 have X: ∀v,Good s.mem sz v-> ¬aF Z.O v->(m.genOf v).2=true-> ¬(m.genOf v).1<Z.T:=λv hv I z f=>by
  unfold Mem.genOf at z f
  by_cases V:dH v/\v % 8≠6
  ·rw[if_pos V]at z f
   have ht:isTag v:=by have:=V.1.1;have:=V.2;unfold isTag;omega
   have M:=B _ (hv.2 ht).1
   have b3:=b.used M
   simp only[if_pos b3.2.1]at f
   have L:Z.O (v / 8 / 64).toNat=false:=by
    by_cases q:Z.O (v / 8 / 64).toNat=true
    ·exact absurd ⟨V.1,V.2,q⟩ I
    ·simpa using q
   have h3:=t.gAtT S M L
   have h4:=(b.l.kAt M).2
   have h5:m.gAt (v / 8)<Z.T:=f
   omega
  ·rw[if_neg V]at z;cases z
 have wr: ∀x v,(x=p/\v=a\/x=p+1/\v=d)->Wrt (Z.putP p a d) {s' with mem:=m} (λx=>if x=p then 2 else sz x) x v:=λx v h=>by
  rcases h with⟨rfl,rfl⟩ | ⟨rfl,rfl⟩
  ·exact⟨a5.1,E,F.1,ha,ap,a2 _ aj,λ_=>by show m.kAt x<=1;rw[H.1];decide,λq1 q2=>absurd (by rw[<-H.2];exact q2) (X v aj ap q1),aY⟩
  ·exact⟨a5.2,by show Z.O _=false;rw[ae];exact E,F.2,hd,au,a2 _ ak,λ_=>by show m.kAt (p+1)<=1;rw[U.1];decide,λq1 q2=>absurd (by rw[<-U.2];exact q2) (X v ak au q1),b0⟩
 have aa: ∀{x v},Was0 Z fw x v->s.mem.used x:=λh=>(t.used0 h).1
 have az:Tri (Z.putP p a d) F0 fw al {s' with mem:=m} (λx=>if x=p then 2 else sz x):=by
  refine⟨?_,sm.even ev,t.heads.trans b.l,λk hk L=>?_,R,⟨c',Q⟩,⟨t.olds.nodup,t.olds.mem⟩,t.al,λx y h=>?_,t.inj,λx y u I b5=>?_,λx u=>?_,λy I=>?_,λx y h=>?_,λx u L h=>?_,λx u=>?_,λx v h=>?_,λx y h=>Reach.of (Z:=Z) (Z':=Z.putP p a d) rfl rfl rfl (λv hv=>hv) (t.reach x y h),λr hr=>?_,?_,λx v h=>?_,λx v V h=>?_,λx y h hp=>?_⟩
  ·have:=aw.sets p (ws:=[a,d]) (by intro w hw;simp at hw;rcases hw with rfl | rfl<;>assumption)
   rw[hm];exact this
  ·show(m.seg k).n=_
   rw[(sm.seg k).2.2.1]
   have am:k≠(p / 64).toNat:=λe=>by
    have L:Z.O k=true:=L
    rw[e,E]at L;cases L
   rw[K.others k am];exact t.oldN k hk L
  ·obtain⟨z,f⟩:=t.img x y h
   have bl:=(t.olds.mem x ((t.al x).2 ⟨y,h⟩)).1
   have a7:s.mem.used y:=by simpa using f.here 0 (by omega)
   exact⟨(G y a7).trans z,f.fit,λi hi=>(j _).2 (.inl (f.here i hi)),f.new,(b.l.kAt a7).2.trans f.gen,(b.l.kAt a7).1.trans f.kind,f.out,f.even⟩
  ·have u:(if x=p then 2 else sz x)≠0:=u
   have I:(if y=p then 2 else sz y)≠0:=I
   show x+((if x=p then 2 else sz x:Nat):Int)<=y
   by_cases z:x=p
   ·rw[if_neg (show y≠p by omega)]at I
    rw[if_pos z]
    have:=C y (B y I)
    omega
   ·rw[if_neg z]at u⊢
    by_cases f:y=p
    ·rcases Int.lt_or_le p (x+sz x)with ba | b8
     ·have:=a8 x u (p-x).toNat (by omega)
      rw[show x+((p-x).toNat:Int)=p by omega]at this
      exact absurd this A.1
     ·omega
    ·rw[if_neg f]at I
     exact t.apart x y u I b5
  ·show(if x=p then 2 else sz x)=_
   rw[if_neg (a4 x u).1];exact t.sz0 x u
  ·have I:(if y=p then 2 else sz y)≠0:=I
   show Z.m.used y\/_\/y∈p::Z.P
   by_cases av:y=p
   ·exact .inr (.inr (by rw[av];simp))
   ·rw[if_neg av]at I
    rcases t.szn y I with q | q | q
    ·exact .inl q
    ·exact .inr (.inl q)
    ·exact .inr (.inr (List.mem_cons_of_mem _ q))
  ·have b4:=(t.olds.mem x ((t.al x).2 ⟨y,h⟩)).1
   show m.get x=_
   rw[D x (t.heads.used (S.sound.used x b4).1)];exact t.word x y h
  ·show m.get x=_
   rw[D x (t.heads.used u)];exact t.keep x u L h
  ·show Z.m.used x\/_\/ ∃r∈p::Z.P,_
   rcases(j x).1 u with q | q
   ·rcases t.cover x q with r | r | ⟨r,r1,r2⟩
    ·exact .inl r
    ·exact .inr (.inl r)
    ·exact .inr (.inr ⟨r,List.mem_cons_of_mem _ r1,r2⟩)
   ·exact .inr (.inr ⟨p,by simp,q⟩)
  ·show m.get x=v\/_
   by_cases ao:x=p\/x=p+1
   ·rw[mh ao]at h
    left
    rw[J x (by omega),h]
    by_cases z:x=p
    ·rw[if_pos z,if_pos z]
    ·rw[if_neg z,if_neg z,if_pos (ao.resolve_left z)]
   ·rw[nn (by omega)]at h
    have M:=(t.usedOf h).1
    rw[D x M]
    rcases t.val x v h with q | ⟨q1,q2,q3⟩
    ·exact .inl q
    ·refine .inr ⟨?_,q2,q3⟩
     show m.strong x
     unfold Mem.strong at*;rw[(b.l.kAt M).1];exact q1
  ·have hr:r∈p::Z.P:=hr
   rcases List.mem_cons.1 hr with rfl | hr
   ·refine⟨a5,⟨λh=>(a4 _ h).1 rfl,λh=>(a4 _ h).2 rfl⟩,H.2,H.1,E,aX,if_pos rfl,?_,?_⟩
    ·show(if r=r then some a else _)≠none
     rw[if_pos rfl];simp
    ·show(if r+1=r then some a else if r+1=r+1 then some d else _)≠none
     rw[if_neg (by omega),if_pos rfl];simp
   ·have N:=(t.pair r hr).keep (s':={s' with mem:=m}) b.l G
    have n1:=C _ (t.pair r hr).used.1
    have n2:=C _ (t.pair r hr).used.2
    refine⟨N.used,N.new,N.gen,N.kind,N.out,N.even,N.sz,?_,?_⟩
    ·show(if r=p then some a else if r=p+1 then some d else Z.q r)≠none
     rw[if_neg n1.1,if_neg n1.2];exact N.q.1
    ·show(if r+1=p then some a else if r+1=p+1 then some d else Z.q (r+1))≠none
     rw[if_neg n2.1,if_neg n2.2];exact N.q.2
  ·show(p::Z.P).Nodup
   rw[List.nodup_cons]
   exact⟨λh=>A.1 (t.pair p h).used.1,t.pnd⟩
  ·have h:(if x=p then some a else if x=p+1 then some d else Z.q x)=some v:=h
   by_cases z:x=p
   ·rw[if_pos z]at h;cases h;exact wr x _ (.inl ⟨z,rfl⟩)
   ·rw[if_neg z]at h
    by_cases f:x=p+1
    ·rw[if_pos f]at h;cases h;exact wr x _ (.inr ⟨f,rfl⟩)
    ·rw[if_neg f]at h
     have W:=(t.qok x v h).keep (s':={s' with mem:=m}) b.l B G
     exact⟨W.used,W.out,W.strong,W.word,W.young,W.good,W.head,W.mark,W.tagged⟩
  ·have M:=aa h
   have V:(if x=p then some a else if x=p+1 then some d else Z.q x)≠none:=V
   rw[if_neg (C x M).1,if_neg (C x M).2]at V
   exact t.qwas x v V h
  ·have hz:=(t.olds.mem x ((t.al x).2 ⟨y,h⟩)).1
   rcases List.mem_cons.1 hp with e | hp
   ·have:=(t.img x y h).2.here 0 (by omega)
    rw[e]at this
    exact A.1 (by simpa using this)
   ·exact t.pim x y h hp
 refine⟨az,b,D,G,A,j,?_,?_,⟨⟨by omega,by omega⟩,⟨by omega,λ_=>?_⟩,λo=>?_,by omega⟩⟩
 ·show m.get p=a
  rw[J p b6,if_pos rfl]
 ·show m.get (p+1)=d
  rw[J (p+1) (by omega),if_neg (by omega),if_pos rfl]
 ·rw[show(p*8+1) / 8=p by omega,show(p*8+1) % 8=1 by omega]
  show(if p=p then 2 else sz p)≠0/\1=tagK (m.kAt p)
  rw[if_pos rfl,H.1]
  exact⟨by decide,rfl⟩
 ·have:=o.2.2
  rw[show(p*8+1) / 8=p by omega,E]at this
  cases this
theorem PutP.done(t:Tri Z F0 fw al s sz){a d p:Int}{i:Sp}{c:Int->Nat}(h:PutP Z F0 fw al s sz a d p i c){y:Int}(b:s.mem.used y)(l:Done Z fw s y):Done (Z.putP p a d) fw i y:=λv f=>by
 have hn:y≠p/\y≠p+1:=⟨λe=>h.new.1 (e▸b),λe=>h.new.2 (e▸b)⟩
 rw[nn hn]at f
 obtain⟨j,k⟩:=l v f
 exact⟨j,by rw[h.get y b];exact k⟩
theorem PutP.doneN(S:aO Z g F0){a d p:Int}{i:Sp}{e:Int->Nat}(h:PutP Z F0 fw al s sz a d p i e){y:Int}(f:y=p\/y=p+1):Done (Z.putP p a d) fw i y:=λv c=>by
 have j:(Z.putP p a d).q y=some v:=by
  rw[mh f]at c
  show(if y=p then some a else if y=p+1 then some d else Z.q y)=some v
  rw[c]
  by_cases b:y=p
  ·rw[if_pos b,if_pos b]
  ·rw[if_neg b,if_neg b,if_pos (f.resolve_left b)]
 have W:=h.tri.qok y v j
 refine⟨λo=>absurd o W.young,?_⟩
 rw[eL W.young]
 rcases h.tri.val y v c with q | ⟨_,_,q⟩
 ·exact q
 ·rw[q,eL W.young]
theorem Pend.putP(S:aO Z g F0)(t:Tri Z F0 fw al s sz)(q:Pend Z fw s ks){a d p:Int}{m:Sp}{j:Int->Nat}(h:PutP Z F0 fw al s sz a d p m j):Pend (Z.putP p a d) fw m ks:=by
 refine⟨q.ok,λk i n o u e=>h.heads.used (q.here k i n o u e),λy w e v=>?_⟩
 by_cases c:y=p\/y=p+1
 ·exact .inl (h.doneN S c)
 ·have b:s.mem.used y:=((h.used y).1 w).resolve_right c
  have hk:=h.heads.l.kAt b
  have f:s.mem.strong y:=by unfold Mem.strong at*;rw[<-hk.1];exact v
  rcases q.pend y b e f with r | ⟨x,z⟩
  ·exact .inl (h.done t b r)
  ·exact .inr ⟨hk.2.trans x,z⟩
end
