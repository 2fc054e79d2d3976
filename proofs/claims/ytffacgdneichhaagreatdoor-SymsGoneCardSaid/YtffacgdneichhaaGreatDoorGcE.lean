/-
 A trace begins over a sound memory whose cards are marked, and comes to its end. Proves nothing of any one statement.
-/
import Derived.Test.YtffacgdneichhaaGreatDoorGcD
set_option linter.unusedVariables false
set_option linter.unusedSimpArgs false
namespace Go.Proofs.YtffacgdneichhaaGreatDoor
open Go

def jc(m:Mem):Prop:= ∀x,m.used x->m.kAt x≠3->(m.genOf (m.get x)).2=true->(m.genOf (m.get x)).1<m.gAt x->(m.seg (x / 64).toNat).cards (x % 64 / 16).toNat<=(m.genOf (m.get x)).1
theorem kI{m:Mem}{w:Int}(ha:eN w)(h6:w % 8≠6)(hh:m.has (w / 8 / 64)):m.genOf w=(m.gAt (w / 8),true):=by
 unfold Mem.genOf
 rw[if_pos ⟨ha,h6⟩,if_pos hh,zX hh]
section
variable {Z:TZ} {g F0:Int}
theorem Tri.begin'(S:du Z g F0){s:Sp}(ok:SpOK s)(hm:s.mem=Z.m)(hF:s.mem.free=F0)(hc: ∀i j:Nat,(i:Int)<=g->s.cur i j=0):Tri Z F0 (λ_=>none) [] s Z.sz:=by
 have hr:=S.rng
 refine⟨ok,by rw[hm];exact S.even,by rw[hm];exact dO.refl _,λk _ _=>by rw[hm],λk hk h0=>?_,⟨λ_=>0,?_,λ_ _ _=>rfl,λk hk=>?_⟩,⟨List.nodup_nil,λa h=>by cases h⟩,λa=>⟨λh=>(by cases h),λ⟨b,h⟩=>(by cases h)⟩,λa b h=>(by cases h),λa a' b h=>(by cases h),S.sound.apart,λ_ _=>rfl,λb hb=> .inl (S.sound.used b hb).1,λa b h=>(by cases h),λx _ _ _=>by rw[hm],λx hx=> .inl (by rw[<-hm];exact hx),λx v h=>?_,λa b h=>(by cases h)⟩
 ·have hTg:g<Z.T:=by
   rcases Int.lt_or_le g Z.T with h | h
   ·exact h
   ·exact absurd (hc Z.T.toNat k (by omega)) h0
  rcases ok.cur Z.T.toNat k with h | ⟨h1,h2,h3,h4⟩
  ·exact absurd h h0
  rw[hm]at h2 h3
  have hl:=S.ok.lim
  have hlt:(s.cur Z.T.toNat k-1).toNat<1024:=by have:=h2.2.1;omega
  by_cases ho:Z.O (s.cur Z.T.toNat k-1).toNat=true
  ·have:=((S.old _ hlt).1 ho).2
   omega
  ·simpa using ho
 ·simp;exact hF
 ·have:=Sp.fill_rng ok Z.T k
  have e:Z.uk [] (k:Int)=0:=rfl
  rw[e];simp;omega
 ·rcases h with⟨h1,h2,h3⟩ | ⟨a,b,i,h1,_⟩
  ·left;rw[h3,hm]
  ·cases h1
def Fin(Z:TZ)(fw:Int->Option Int)(s:Sp):Prop:= ∀x,s.mem.used x->Z.O (x / 64).toNat=false->s.mem.strong x->Done Z fw s x
theorem gi.cardOf{tr:Tr}(S:du Z g F0)(B:gi Z.m g Z.T tr): ∀c∈tr.cards,qW Z c:=by
 obtain⟨l,hl,e⟩:=B.cards
 rw[e]
 intro c hc
 obtain⟨k,hk,i,hi,rfl,h1,h2⟩:=Mem.mem_dirty.1 hc
 obtain⟨q1,q2,q3,_⟩:=hl.has hk
 have hl:=S.ok.lim
 refine⟨q1,?_,by show(0:Int)<=(i:Int);omega,by show(i:Int)<4;omega⟩
 show Z.O ((k:Int)).toNat=false
 rw[show((k:Nat):Int).toNat=k by omega]
 by_cases ho:Z.O k=true
 ·have:=((S.old k (by omega)).1 ho).2;omega
 ·simpa using ho
theorem gi.dirty{tr:Tr}(S:du Z g F0)(B:gi Z.m g Z.T tr)(hm:jc Z.m){x:Int}(hu:Z.m.used x)(ho:Z.O (x / 64).toNat=false)(hk:Z.m.kAt x≠3)(hold:aM Z.O (Z.m.get x))(hg:Good Z.m Z.sz (Z.m.get x)):(x / 64,x % 64 / 16)∈tr.cards:=by
 obtain⟨l,hl,e⟩:=B.cards
 obtain⟨h1,h2,h3,h4⟩:=S.oldWord hg hold
 obtain⟨u1,_⟩:=S.sound.used _ h1
 have hlt:=S.lt u1
 have hlx:=S.lt hu
 have hgo:=kI (m:=Z.m) hold.1 hold.2.1 u1.2.1
 have hgen:Z.m.gAt (Z.m.get x / 8)<=g:=((S.old _ hlt.1).1 h2).2
 have hxg:g<Z.m.gAt x:=by
  rcases Int.lt_or_le g (Z.m.gAt x)with q | q
  ·exact q
  ·have:=(S.old _ hlx.1).2 ⟨by rw[show(((x / 64).toNat:Nat):Int)=x / 64 by have:=hu.1;omega];exact hu.2.1,q⟩
   rw[ho]at this;cases this
 have hmk:=hm x hu hk (by rw[hgo]) (by rw[hgo];show Z.m.gAt _<_;omega)
 rw[hgo]at hmk
 rw[e,Mem.mem_dirty]
 have hx0:=hu.1
 refine⟨(x / 64).toNat,?_,(x % 64 / 16).toNat,by omega,?_,hxg,Int.le_trans hmk hgen⟩
 ·rw[hl.perm.mem_iff]
  unfold Mem.takenTo
  rw[List.mem_filter,List.mem_range]
  have h5:=(S.ok.seg (x / 64).toNat).taken
  have h6:=hu.2.1.2.2
  refine⟨by have:=hu.2.1.2.1;omega,?_⟩
  simp only[Bool.and_eq_true,decide_eq_true_eq,Bool.or_eq_true]
  exact⟨by omega,.inl rfl⟩
 ·rw[show(((x / 64).toNat:Nat):Int)=x / 64 by omega,show(((x % 64 / 16).toNat:Nat):Int)=x % 64 / 16 by omega]
theorem Tri.final{fw1:Int->Option Int}{al1:List Int}{s1:Sp}{sz1:Int->Nat}{tr:Tr}{s3:Sp}{ks:List (Int×Value)}(S:du Z g F0)(t:Tri Z F0 fw1 al1 s1 sz1)(hm:jc Z.m)(B:gi Z.m g Z.T tr)(hO:tr.old=Z.O)(hd:fx Z.O Z.T (s1.lookCards Z.O Z.T tr.cards) tr.seen s3 ks)(hdd:lq Z.O Z.T s3 ks):
  ∃fw al sz,Tri Z F0 fw al s3 sz/\Le fw1 fw/\Fin Z fw s3:=by
 obtain⟨fw2,al2,sz2,L2,d2⟩:=t.lookCards S tr.cards (B.cardOf S)
 have hso:=B.seenOK S.ok
 obtain⟨fw3,al3,sz3,L3,d3,ok3⟩:=L2.tri.drains S hso hd
 refine⟨fw3,al3,sz3,L3.tri,L2.le.trans L3.le,λx hu ho hs=>?_⟩
 have t3:=L3.tri
 have hl:=t3.ok.mem.lim
 rcases t3.cover x hu with hz | ⟨a,b,i,h1,h2,h3⟩
 ·have hk:=(t3.kAt hz).1
  have hkz:Z.m.strong x:=by unfold Mem.strong at*;rw[<-hk];exact hs
  have hwas:Was Z fw3 x (Z.m.get x):=.inl ⟨hz,ho,rfl⟩
  have hgood:=S.sound.good x hz hkz.1
  by_cases hold:aM Z.O (Z.m.get x)
  ·have hdirty:=B.dirty S hm hz ho hkz.1 hold hgood
   have hst2:(s1.lookCards Z.O Z.T tr.cards).mem.strong x:=by
    have h5:=(L2.tri.kAt hz).1
    unfold Mem.strong at*;rw[h5];exact hkz
   have hx0:=hz.1
   have:=d2 _ hdirty (x % 64) (by show x % 64 / 16*16<=_;omega) (by show _< (x % 64 / 16+1)*16;omega) (by show Z.m.used (x / 64*64+x % 64);rw[show x / 64*64+x % 64=x by omega];exact hz) (by show Mem.strong _ (x / 64*64+x % 64);rw[show x / 64*64+x % 64=x by omega];exact hst2)
   have e:(x / 64,x % 64 / 16).1*64+x % 64=x:=by show x / 64*64+x % 64=x;omega
   rw[e]at this
   exact L3.done x (L2.tri.heads.used hz) ho this
  ·intro v hv
   have:=t3.was_one hwas hv
   subst this
   refine⟨λq=>absurd q hold,?_⟩
   rw[gF hold]
   rcases t3.val x _ hwas with q | ⟨_,_,q⟩
   ·exact q
   ·rw[q,gF hold]
 ·have im:=(t3.img a b h1).2
  have hf:=im.fit
  have hx64:x / 64=b / 64:=by omega
  have hx0:=hu.1
  have hgen:(s3.mem.seg (x / 64).toNat).gen=Z.T:=by rw[hx64];exact im.gen
  have hhas:s3.mem.has (((x / 64).toNat:Nat):Int):=by rw[show(((x / 64).toNat:Nat):Int)=x / 64 by omega];exact hu.2.1
  have hN:=hdd (x / 64).toNat hhas hgen ho
  rw[show(((x / 64).toNat:Nat):Int)=x / 64 by omega]at hN
  have hseen0:seenAt tr.seen (x / 64)<=x % 64:=by
   unfold seenAt
   rw[B.seen (x / 64) (by omega)]
   by_cases hq:Z.m.has (x / 64)/\(Z.m.seg (x / 64).toNat).gen=Z.T
   ·rw[if_pos hq]
    show(Z.m.seg (x / 64).toNat).n<=_
    have hnz: ¬Z.m.used x:=by rw[h3];exact im.new i h2
    rcases Int.lt_or_le (x % 64) (Z.m.seg (x / 64).toNat).n with q | q
    ·exact absurd ⟨hx0,hq.1,q⟩ hnz
    ·exact q
   ·rw[if_neg hq];show(0:Int)<=_;omega
  have:=d3 (x / 64) (x % 64) (by omega) hseen0 (by have:=hu.2.2;omega) ho
  rw[show x / 64*64+x % 64=x by omega]at this
  exact this.2 hs
theorem Fin.reach{fw:Int->Option Int}{al:List Int}{s:Sp}{sz:Int->Nat}(S:du Z g F0)(t:Tri Z F0 fw al s sz)(f:Fin Z fw s)(hV: ∀v,Z.V v->Dn Z.O fw v){a:Int}(h:Reach Z a): ∃b,fw a=some b:=by
 induction h with
 | root h ho=>exact hV _ h ho
 | @older x hu hn hs ho=>
  have hst:s.mem.strong x:=by unfold Mem.strong at*;rw[(t.kAt hu).1];exact hs
  exact(f x (t.heads.used hu) hn hst _ (.inl ⟨hu,hn,rfl⟩)).1 ho
 | @step a i h hi hs ho ih=>
  obtain⟨b,hb⟩:=ih
  have im:=(t.img a b hb).2
  have hsa:=(t.olds.mem a ((t.al a).2 ⟨b,hb⟩)).1
  have hai:=S.sound.usedAt hsa hi (λk=>(S.ok.seg k).n.2)
  have hf:=im.fit
  have e64:(b+(i:Int)) / 64=b / 64:=by omega
  have hkb:s.mem.kAt (b+i)=Z.m.kAt (a+i):=by unfold Mem.kAt;rw[e64,hai.2.1];exact im.kind
  have hka:Z.m.kAt (a+i)=Z.m.kAt a:=by unfold Mem.kAt;rw[hai.2.1]
  have hst:s.mem.strong (b+i):=by
   unfold Mem.strong at*
   rw[hkb]
   refine⟨hs.1,?_⟩
   by_cases h1k:Z.m.kAt (a+i)=1
   ·right
    have:=hs.2.resolve_left (λq=>q h1k)
    have:=im.even (by rw[<-hka,h1k];decide)
    have:=(S.sound.two a hsa (by rw[<-hka,h1k];decide)).2
    omega
   ·exact .inl h1k
  exact(f (b+i) (im.here i hi) (by rw[e64];exact im.out) hst _ (.inr ⟨a,b,i,hb,hi,rfl,rfl⟩)).1 ho
end
