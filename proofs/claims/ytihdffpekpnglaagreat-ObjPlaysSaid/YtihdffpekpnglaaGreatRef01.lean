/-
 Contracts of the document's answer for words (moraineref01), said of integers. Proves nothing of any one statement.
-/
import Derived.Test.YtihdffpekpnglaaGreatWord
import Derived.Test.YtihdffpekpnglaaGreatFref01
set_option linter.unusedVariables false
set_option linter.unusedSimpArgs false
namespace Go.Proofs.YtihdffpekpnglaaGreat
open Go

theorem mt{n:Nat}{H:zW}(hn:n<64):cJ.C n H (λv H'=>v=.int .u64 (2 ^ n)/\Ext H H'):=by
 refine HC.via λR hR=>cJ.link ?_
 unfold cJ.pt zq
 refine⟨λx i H'=> ∃k:Nat,i=k/\k<=n/\x=2 ^ k/\H'=H,λx i _=>(n-i).toNat,⟨0,rfl,by omega,rfl,rfl⟩,?_⟩
 rintro x i H1 ⟨k,rfl,hk,rfl,rfl⟩
 by_cases hlt:(k:Int)<n
 ·rw[if_pos hlt]
  have hle:(2:Nat) ^ (k+1)<=2 ^ 63:=Nat.pow_le_pow_right (by decide) (by omega)
  have hcast:((2 ^ (k+1):Nat):Int)=(2:Int) ^ k*2:=by rw[<-Int.pow_succ];simp
  have hp:(0:Int)<2 ^ k:=Int.pow_pos (by decide)
  rw[w64 (by omega),wu64 (by omega)]
  exact⟨⟨k+1,by omega,by omega,by rw[Int.pow_succ],rfl⟩,by show((n:Int)-(k+1)).toNat< ((n:Int)-k).toNat;omega⟩
 ·rw[if_neg hlt]
  have:k=n:=by omega
  subst this
  exact hR _ _ ⟨rfl,Ext.refl _⟩

theorem mY{c:Int}{H:zW}:dL.C c H (λv H'=>v=.bool (decide (0<=c) && ia c)/\Ext H H'):=by
 refine HC.via λR hR=>dL.link ?_
 unfold dL.pt
 refine hR _ _ ⟨?_,Ext.refl _⟩
 congr 1
 unfold ia
 rw[Bool.eq_iff_iff];simp;omega

def iR(kind tag a x more:Int):Int:=
 if kind=1 then x*8 % 18446744073709551616
 else if kind=2 then a*8+tag
 else if kind=3 then a*8+4
 else if kind=4 then a*256+60
 else more*65536+a*256+tag*8+5
def kA(kind tag a x more:Int):Prop:=
 if kind=1 then-1152921504606846976<=x/\x<1152921504606846976
 else if kind=2 then(0<=a/\a<65536)/\(0<=tag/\tag<8)
 else if kind=3 then 0<=a/\a<32
 else if kind=4 then 0<=a/\a<2147483648
 else(0<=more/\more<281474976710656)/\(0<=a/\a<=62)/\(0<=tag/\tag<=13)
theorem kj{kind tag a x more:Int}{H:zW}(ht:kA kind tag a x more):dE.C kind tag a x more H (λv H'=>v=.int .u64 (iR kind tag a x more)/\Ext H H'):=by
 refine HC.via λR hR=>dE.link ?_
 unfold dE.pt zq
 intro b H1 hb hH
 have e1:Ext H H1:=Ext.push' hH
 have g1:=aO hb hH
 unfold kA at ht
 refine⟨kind,by rw[aU g1];rfl,?_⟩
 simp only[addr_add_mk,Nat.zero_add]
 by_cases h1:kind=1
 ·rw[if_pos h1]at ht⊢
  refine⟨x,by rw[aU g1];rfl,x,by rw[aU g1];rfl,?_⟩
  by_cases hx:x<0
  ·rw[if_pos hx]
   refine⟨x,by rw[aU g1];rfl,?_⟩
   refine HC.mono (mt (n:=61) (by decide)) ?_
   rintro _ H2 ⟨rfl,e2⟩
   refine⟨_,rfl,⟨by rw[addr_add_mk];exact e2.hat (by rw[aU g1];rfl),trivial⟩,hR _ _ ⟨?_,e1.trans e2⟩⟩
   have ep:(2:Int) ^ 61=2305843009213693952:=by decide
   rw[ep,w64 (n:=0-x) (by omega),wu64 (n:=0-x) (by omega),wu64 (n:=2305843009213693952-(0-x)) (by omega),wu64 (by omega)]
   unfold iR
   rw[if_pos h1]
   congr 1
   omega
  ·rw[if_neg hx]
   refine hR _ _ ⟨?_,e1⟩
   rw[wu64 (n:=x) (by omega),wu64 (by omega)]
   unfold iR
   rw[if_pos h1]
   congr 1
   omega
 rw[if_neg h1]at ht⊢
 by_cases h2:kind=2
 ·rw[if_pos h2]at ht⊢
  refine⟨a,by rw[aU g1];rfl,tag,by rw[aU g1];rfl,hR _ _ ⟨?_,e1⟩⟩
  rw[wu64 (n:=a) (by omega),wu64 (n:=a*8) (by omega),wu64 (n:=tag) (by omega),wu64 (by omega)]
  unfold iR
  rw[if_neg h1,if_pos h2]
 rw[if_neg h2]at ht⊢
 by_cases h3:kind=3
 ·rw[if_pos h3]at ht⊢
  refine⟨a,by rw[aU g1];rfl,hR _ _ ⟨?_,e1⟩⟩
  rw[wu64 (n:=a) (by omega),wu64 (n:=a*8) (by omega),wu64 (by omega)]
  unfold iR
  rw[if_neg h1,if_neg h2,if_pos h3]
 rw[if_neg h3]at ht⊢
 by_cases h4:kind=4
 ·rw[if_pos h4]at ht⊢
  refine⟨a,by rw[aU g1];rfl,hR _ _ ⟨?_,e1⟩⟩
  rw[wu64 (n:=a) (by omega),wu64 (n:=a*256) (by omega),wu64 (n:=a*256+56) (by omega),wu64 (by omega)]
  unfold iR
  rw[if_neg h1,if_neg h2,if_neg h3,if_pos h4,show a*256+56+4=a*256+60 by omega]
 rw[if_neg h4]at ht⊢
 refine⟨more,by rw[aU g1];rfl,a,by rw[aU g1];rfl,tag,by rw[aU g1];rfl,?_⟩
 refine HC.mono (mt (n:=16) (by decide)) ?_
 rintro _ H2 ⟨rfl,e2⟩
 refine⟨_,rfl,⟨e2.hat (by rw[addr_add_mk,aU g1];rfl),trivial⟩,⟨e2.hat (by rw[addr_add_mk,aU g1];rfl),trivial⟩,⟨e2.hat (by rw[addr_add_mk,aU g1];rfl),trivial⟩,hR _ _ ⟨?_,e1.trans e2⟩⟩
 have ep:(2:Int) ^ 16=65536:=by decide
 rw[ep,wu64 (n:=more*65536) (by omega),wu64 (n:=a) (by omega),wu64 (n:=a*256) (by omega),wu64 (n:=more*65536+a*256) (by omega),wu64 (n:=tag) (by omega),wu64 (n:=tag*8) (by omega),wu64 (n:=more*65536+a*256+tag*8) (by omega),wu64 (by omega)]
 unfold iR
 rw[if_neg h1,if_neg h2,if_neg h3,if_neg h4]

theorem jc{H:zW}{b:Nat}{cs:Array Value}{T:TypeId}{R:zv}{H0:zW}{k t a x m:Int}(hb:H[b]?=some (.cells cs T (0,0)))(hn:cs.size=5)(h0:Ext H0 H)(hle:H0.size<=b)
  (h: ∀H',Ext H0 H'->R (.agg #[.int .i64 k,.int .i64 t,.int .i64 a,.int .i64 x,.int .u64 m]) H'):
  aJ H ⟨b,0,none⟩ 0 5/\ ∀H4:zW,H4=aP H ⟨b,0,none⟩ [.int .i64 k,.int .i64 t,.int .i64 a,.int .i64 x,.int .u64 m] 0->
   ∃k' t' a' x' m':Int,aG H4 ⟨b,0,none⟩ 0 [.int .i64 k',.int .i64 t',.int .i64 a',.int .i64 x',.int .u64 m']/\R (.agg #[.int .i64 k',.int .i64 t',.int .i64 a',.int .i64 x',.int .u64 m']) H4:=by
 obtain⟨h1,h2⟩:=boxed (vs:=[.int .i64 k,.int .i64 t,.int .i64 a,.int .i64 x,.int .u64 m]) (H1:=H) hb hn rfl
 refine⟨h1,λH4 hH=>?_⟩
 obtain⟨h3,h4⟩:=h2 H4 hH
 exact⟨k,t,a,x,m,h3,h H4 (h4 H0 h0 hle)⟩

def OfIs(w k t a x m:Int):Prop:=
 (w % 8=0/\k=1/\t=0/\a=0/\x=signed w / 8/\m=0)\/
 ((w % 8=1\/w % 8=2\/w % 8=3\/w % 8=6)/\w / 8<65536/\k=2/\t=w % 8/\a=w / 8/\x=0/\m=0)\/
 (w % 8=4/\w / 8 % 32<7/\w / 256=0/\k=3/\t=0/\a=w / 8 % 32/\x=0/\m=0)\/
 (w % 8=4/\w / 8 % 32=7/\ia (w / 256)=true/\k=4/\t=0/\a=w / 256/\x=0/\m=0)\/
 (w % 8=5/\(1<=w / 8 % 32/\w / 8 % 32<=13/\w / 256 % 256<=62)/\k=5/\t=w / 8 % 32/\a=w / 256 % 256/\x=0/\m=w / 65536)\/
 (mayW w=false/\k=0/\t=0/\a=0/\x=0/\m=0)

theorem jP{wv:Int}{H:zW}(hw:aM wv):dB.C wv H (λv H'=> ∃k t a x m:Int,v=.agg #[.int .i64 k,.int .i64 t,.int .i64 a,.int .i64 x,.int .u64 m]/\OfIs wv k t a x m/\Ext H H'):=by
 refine HC.via λR hR=>dB.link ?_
 unfold dB.pt zq
 intro b H1 hb hH
 have e1:Ext H H1:=Ext.push' hH
 have g1:=aO hb hH
 have hle:H.size<=b:=by omega
 have t1:IntKind.wrap .i64 (Int.tmod wv 8)=wv % 8:=by rw[gP hw.1,w64 (by omega)]
 have t2:IntKind.wrap .u64 (Int.tdiv wv 8)=wv / 8:=by rw[ic hw.1,wu64 (by omega)]
 have t3:IntKind.wrap .i64 (Int.tmod (wv / 8) 32)=wv / 8 % 32:=by rw[gP (by omega),w64 (by omega)]
 have t4:IntKind.wrap .u64 (Int.tdiv (wv / 8) 32)=wv / 256:=by rw[ic (by omega),wu64 (by omega)];omega
 have t5:IntKind.wrap .i64 (Int.tmod (wv / 256) 256)=wv / 256 % 256:=by rw[gP (by omega),w64 (by omega)]
 have t6:IntKind.wrap .u64 (Int.tdiv (wv / 256) 256)=wv / 65536:=by rw[ic (by omega),wu64 (by omega)];omega
 simp only[t1,t2,t3,t4,t5,t6]
 by_cases h0:wv % 8=0
 ·rw[if_pos h0]
  refine HC.mono (mt (n:=60) (by decide)) ?_
  rintro _ H2 ⟨rfl,e2⟩
  refine⟨_,rfl,?_⟩
  have p60:(2:Int) ^ 60=1152921504606846976:=by decide
  have p61:(2:Int) ^ 61=2305843009213693952:=by decide
  rw[p60]
  by_cases hx:wv / 8>=1152921504606846976
  ·rw[if_pos hx]
   refine HC.mono (mt (n:=61) (by decide)) ?_
   rintro _ H3 ⟨rfl,e3⟩
   refine⟨_,rfl,?_⟩
   rw[p61,wu64 (n:=2305843009213693952-wv / 8) (by omega),w64 (n:=2305843009213693952-wv / 8) (by omega),w64 (n:=0-(2305843009213693952-wv / 8)) (by omega)]
   refine jc ((e2.trans e3).get g1) rfl ((e1.trans e2).trans e3) hle λH' hE=>hR _ _ ⟨_,_,_,_,_,rfl,.inl ⟨h0,rfl,rfl,rfl,?_,rfl⟩,hE⟩
   unfold signed
   rw[if_pos (by omega)]
   omega
  ·rw[if_neg hx]
   rw[w64 (n:=wv / 8) (by omega)]
   refine jc (e2.get g1) rfl (e1.trans e2) hle λH' hE=>hR _ _ ⟨_,_,_,_,_,rfl,.inl ⟨h0,rfl,rfl,rfl,?_,rfl⟩,hE⟩
   unfold signed
   rw[if_neg (by omega)]
 rw[if_neg h0]
 refine⟨λs H'=>H'=H1/\s=decide (wv % 8=1\/wv % 8=2\/wv % 8=3\/wv % 8=6),?_,?_⟩
 ·by_cases h1:wv % 8=1
  ·rw[if_pos h1];exact⟨rfl,by simp[h1]⟩
  rw[if_neg h1]
  by_cases h2:wv % 8=2
  ·rw[if_pos h2];exact⟨rfl,by simp[h2]⟩
  rw[if_neg h2]
  by_cases h3:wv % 8=3
  ·rw[if_pos h3];exact⟨rfl,by simp[h3]⟩
  rw[if_neg h3]
  refine⟨rfl,?_⟩
  rw[Bool.eq_iff_iff];simp;omega
 rintro s H6 ⟨rfl,rfl⟩
 have zero: ∀(hm:mayW wv=false),aJ H6 (Addr.mk b 0 none) 0 5/\ ∀H4:zW,H4=aP H6 (Addr.mk b 0 none) [.int .i64 0,.int .i64 0,.int .i64 0,.int .i64 0,.int .u64 0] 0->
   ∃k' t' a' x' m':Int,aG H4 (Addr.mk b 0 none) 0 [.int .i64 k',.int .i64 t',.int .i64 a',.int .i64 x',.int .u64 m']/\R (.agg #[.int .i64 k',.int .i64 t',.int .i64 a',.int .i64 x',.int .u64 m']) H4:=λhm=>
  jc g1 rfl e1 hle λH' hE=>hR _ _ ⟨_,_,_,_,_,rfl,.inr (.inr (.inr (.inr (.inr ⟨hm,rfl,rfl,rfl,rfl,rfl⟩)))),hE⟩
 by_cases ha:wv % 8=1\/wv % 8=2\/wv % 8=3\/wv % 8=6
 ·rw[if_pos (zQ ha)]
  by_cases hl:wv / 8<65536
  ·rw[if_pos hl,w64 (n:=wv / 8) (by omega)]
   exact jc g1 rfl e1 hle λH' hE=>hR _ _ ⟨_,_,_,_,_,rfl,.inr (.inl ⟨ha,hl,rfl,rfl,rfl,rfl,rfl⟩),hE⟩
  ·rw[if_neg hl]
   exact zero (by rw[mL ha];simpa using hl)
 rw[if_neg (by simpa using ha)]
 by_cases h4:wv % 8=4
 ·rw[if_pos h4]
  by_cases hc:wv / 8 % 32<7/\wv / 256=0
  ·rw[if_pos (by simp[hc])]
   exact jc g1 rfl e1 hle λH' hE=>hR _ _ ⟨_,_,_,_,_,rfl,.inr (.inr (.inl ⟨h4,hc.1,hc.2,rfl,rfl,rfl,rfl,rfl⟩)),hE⟩
  rw[if_neg (by simpa using hc)]
  by_cases hl:wv / 8 % 32=7/\ia (wv / 256)=true
  ·have hb:wv / 256<=1114111:=by have:=hl.2;unfold ia at this;simp at this;exact this.1
   rw[if_pos (by have:=hl.2;unfold ia at this;simp at this;simp[hl.1,this]),w64 (n:=wv / 256) (by omega)]
   exact jc g1 rfl e1 hle λH' hE=>hR _ _ ⟨_,_,_,_,_,rfl,.inr (.inr (.inr (.inl ⟨h4,hl.1,hl.2,rfl,rfl,rfl,rfl,rfl⟩))),hE⟩
  ·rw[if_neg (by intro h;simp at h;exact hl ⟨h.1.1,by unfold ia;simp;exact⟨h.1.2,h.2⟩⟩)]
   refine zero ?_
   rw[pV h4]
   by_cases h7:wv / 8 % 32=7
   ·rw[if_pos h7]
    have: ¬ia (wv / 256)=true:=λh=>hl ⟨h7,h⟩
    simpa using this
   ·rw[if_neg h7]
    rw[decide_eq_false_iff_not]
    intro h
    exact hc (by omega)
 rw[if_neg h4]
 by_cases h5:wv % 8=5
 ·rw[if_pos h5]
  by_cases hh:1<=wv / 8 % 32/\wv / 8 % 32<=13/\wv / 256 % 256<=62
  ·rw[if_pos (by simp;omega)]
   exact jc g1 rfl e1 hle λH' hE=>hR _ _ ⟨_,_,_,_,_,rfl,.inr (.inr (.inr (.inr (.inl ⟨h5,hh,rfl,rfl,rfl,rfl,rfl⟩)))),hE⟩
  ·rw[if_neg (by simp;omega)]
   exact zero (by rw[rI h5];simpa using hh)
 rw[if_neg h5]
 exact zero (rJ (by omega))
