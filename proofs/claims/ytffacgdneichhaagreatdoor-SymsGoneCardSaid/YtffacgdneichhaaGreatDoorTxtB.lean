/-
 Is a text well formed? (unicode/utf8.ValidString, of any bytes.) Proves nothing of any one statement.
-/
import Derived.Lib.ValidAsc
import Derived.Test.YtffacgdneichhaaGreatDoorFunicodeutf8
import Derived.Test.YtffacgdneichhaaGreatDoorText
import Derived.Test.YtffacgdneichhaaGreatDoorFref03
import Derived.Lib.MapLaws
set_option linter.unusedVariables false
set_option linter.unusedSimpArgs false
namespace Go.Proofs.YtffacgdneichhaaGreatDoor
open Go

structure kn (H:zV):Prop where
 first: ∀c:Nat,c<256->hat H ((Addr.mk 0 0 none).add c)=some (.int .u8 (Lib.firstT c:Nat))
 acc: ∀i:Nat,i<16->aU H ((Addr.mk 1 0 none).add (i*2)) 0 [.int .u8 (Lib.accLo i:Nat),.int .u8 (Lib.accHi i:Nat)]
theorem kn.ext{H H':zV}(h:kn H)(e:Ext H H'):kn H':=⟨λc hc=>e.hat (h.first c hc),λi hi=>e.rowAt (h.acc i hi)⟩
theorem fD(s:ByteArray){i:Nat}(h:i<s.size):s[i]?=some (s.get! i):=by
 rw[getElem?_pos s i h]
 show some s.data[i]=some s.data[i]!
 rw[getElem!_pos s.data i h]
theorem lm(s:ByteArray)(i:Nat):s.data.toList.getD i 0=s.get! i:=by
 show s.data.toList.getD i 0=s.data[i]!
 rcases Nat.lt_or_ge i s.data.size with h | h
 ·rw[getElem!_pos s.data i h,List.getD_eq_getElem?_getD,List.getElem?_eq_getElem (by simpa using h)];simp
 ·rw[getElem!_neg s.data i (by omega),List.getD_eq_getElem?_getD,List.getElem?_eq_none (by simpa using h)];rfl
theorem iY{x b:Int}(k:Nat)(ki p:Int)(hki:ki=k)(hp:p=2 ^ k)(hk:k<=56)(hx:0<=x/\x<p)(hb:0<=b/\b<256):ior .u64 x (ishl .u64 (IntKind.wrap .u64 b) ki)=x+b*p:=by
 subst hki
 have hpos:(0:Int)<p:=by omega
 have hle:p<=72057594037927936:=by
  have h1:(2:Nat) ^ k<=2 ^ 56:=Nat.pow_le_pow_right (by decide) hk
  have h2:((2 ^ k:Nat):Int)=p:=by rw[hp];simp
  have h3:(2:Nat) ^ 56=72057594037927936:=by decide
  omega
 have hbp:b*p<=255*p:=Int.mul_le_mul_of_nonneg_right (by omega) (by omega)
 have hb0:0<=b*p:=Int.mul_nonneg hb.1 (by omega)
 rw[wu64 (n:=b) (by omega),iM (k:Int) k rfl (by omega),<-hp,Int.emod_eq_of_lt hb0 (by omega)]
 have h1:ior .u64 x (b*p)=ior .u64 (b*p) x:=by rw[lf ⟨hx.1,by omega⟩ ⟨hb0,by omega⟩,lf ⟨hb0,by omega⟩ ⟨hx.1,by omega⟩,Nat.or_comm]
 rw[h1,jY (x:=b*p) k ⟨hb0,by omega⟩ (by rw[<-hp];exact Int.mul_emod_left b p) (by rw[<-hp];exact hx) (by omega),Int.add_comm]
def gh(s:ByteArray):Nat:=Lib.leNat [s.get! 0,s.get! 1,s.get! 2,s.get! 3,s.get! 4,s.get! 5,s.get! 6,s.get! 7]
theorem iC(s:ByteArray):gh s<18446744073709551616:=Lib.word_lt s
theorem qN(a:Nat)(h:a<18446744073709551616):iand .u64 (a:Int) 9259542123273814144=((a &&& 9259542123273814144:Nat):Int):=by
 rw[nO (by omega) (by decide)];rfl
theorem or8(a b:Nat)(ha:a<18446744073709551616)(hb:b<18446744073709551616):ior .u64 (a:Int) (b:Int)=((a ||| b:Nat):Int)/\a ||| b<18446744073709551616:=
 ⟨by rw[lf (by omega) (by omega)];rfl,Nat.or_lt_two_pow (n:=64) ha hb⟩
theorem fK{H:zV}{s:ByteArray}(h8:8<=s.size):aQ.C s H (λv H'=>v=.int .u64 (gh s:Nat)/\H=H'):=by
 refine HC.via λR hR=>aQ.link ?_
 unfold aQ.pt
 refine⟨s.get! 0,⟨by decide,fD s (by omega)⟩,s.get! 1,⟨by decide,fD s (by omega)⟩,s.get! 2,⟨by decide,fD s (by omega)⟩,s.get! 3,⟨by decide,fD s (by omega)⟩,s.get! 4,⟨by decide,fD s (by omega)⟩,s.get! 5,⟨by decide,fD s (by omega)⟩,s.get! 6,⟨by decide,fD s (by omega)⟩,s.get! 7,⟨by decide,fD s (by omega)⟩,?_⟩
 refine hR _ _ ⟨?_,rfl⟩
 unfold gh
 simp only[Lib.leNat]
 generalize h0:s.get! 0=c0
 generalize h1:s.get! 1=c1
 generalize h2:s.get! 2=c2
 generalize h3:s.get! 3=c3
 generalize h4:s.get! 4=c4
 generalize h5:s.get! 5=c5
 generalize h6:s.get! 6=c6
 generalize h7:s.get! 7=c7
 have l0:=c0.toNat_lt
 have l1:=c1.toNat_lt
 have l2:=c2.toNat_lt
 have l3:=c3.toNat_lt
 have l4:=c4.toNat_lt
 have l5:=c5.toNat_lt
 have l6:=c6.toNat_lt
 have l7:=c7.toNat_lt
 generalize c0.toNat=n0 at*
 generalize c1.toNat=n1 at*
 generalize c2.toNat=n2 at*
 generalize c3.toNat=n3 at*
 generalize c4.toNat=n4 at*
 generalize c5.toNat=n5 at*
 generalize c6.toNat=n6 at*
 generalize c7.toNat=n7 at*
 rw[wu64 (n:=(n0:Int)) (by omega)]
 have e1:=iY (x:=(n0:Int)) (b:=(n1:Int)) 8 8 256 rfl (by decide) (by decide) (by omega) (by omega)
 have e2:=iY (x:=(n0:Int)+(n1:Int)*256) (b:=(n2:Int)) 16 16 65536 rfl (by decide) (by decide) (by omega) (by omega)
 have e3:=iY (x:=(n0:Int)+(n1:Int)*256+(n2:Int)*65536) (b:=(n3:Int)) 24 24 16777216 rfl (by decide) (by decide) (by omega) (by omega)
 have e4:=iY (x:=(n0:Int)+(n1:Int)*256+(n2:Int)*65536+(n3:Int)*16777216) (b:=(n4:Int)) 32 32 4294967296 rfl (by decide) (by decide) (by omega) (by omega)
 have e5:=iY (x:=(n0:Int)+(n1:Int)*256+(n2:Int)*65536+(n3:Int)*16777216+(n4:Int)*4294967296) (b:=(n5:Int)) 40 40 1099511627776 rfl (by decide) (by decide) (by omega) (by omega)
 have e6:=iY (x:=(n0:Int)+(n1:Int)*256+(n2:Int)*65536+(n3:Int)*16777216+(n4:Int)*4294967296+(n5:Int)*1099511627776) (b:=(n6:Int)) 48 48 281474976710656 rfl (by decide) (by decide) (by omega) (by omega)
 have e7:=iY (x:=(n0:Int)+(n1:Int)*256+(n2:Int)*65536+(n3:Int)*16777216+(n4:Int)*4294967296+(n5:Int)*1099511627776+(n6:Int)*281474976710656) (b:=(n7:Int)) 56 56 72057594037927936 rfl (by decide) (by decide) (by omega) (by omega)
 rw[e1,e2,e3,e4,e5,e6,e7]
 congr 1
 omega
theorem asc8{s:ByteArray}(h8:8<=s.size):(gh s &&& 9259542123273814144=0) ↔ Lib.Asc s 8:=Lib.word_asc s h8
theorem qO{s:ByteArray}(h8:8<=s.size)(h:(iand .u64 ((gh s:Nat):Int) 9259542123273814144==0)=true):Lib.Asc s 8:=by
 rw[qN _ (iC s),beq_iff_eq]at h
 exact(asc8 h8).1 (by omega)
theorem qa{s:ByteArray}(h16:16<=s.size)(h:(iand .u64 (ior .u64 ((gh s:Nat):Int) ((gh (s.extract 8 s.size):Nat):Int)) 9259542123273814144==0)=true):Lib.Asc s 16:=by
 obtain⟨e1,e2⟩:=or8 _ _ (iC s) (iC (s.extract 8 s.size))
 rw[e1,qN _ e2,beq_iff_eq]at h
 obtain⟨h1,h2⟩:=(Lib.or_mask _ _ _).1 (show(gh s ||| gh (s.extract 8 s.size)) &&& 9259542123273814144=0 by omega)
 exact Lib.asc_add s 8 8 ((asc8 (by omega)).1 h1) ((asc8 (by rw[Lib.ext_size];omega)).1 h2)
theorem oR{s:ByteArray}(h32:32<=s.size)(h:iand .u64 (ior .u64 (ior .u64 ((gh s:Nat):Int) ((gh (s.extract 8 s.size):Nat):Int)) (ior .u64 ((gh (s.extract 16 s.size):Nat):Int) ((gh (s.extract 24 s.size):Nat):Int))) 9259542123273814144=0):Lib.Asc s 32:=by
 obtain⟨e1,l1⟩:=or8 _ _ (iC s) (iC (s.extract 8 s.size))
 obtain⟨e2,l2⟩:=or8 _ _ (iC (s.extract 16 s.size)) (iC (s.extract 24 s.size))
 obtain⟨e3,l3⟩:=or8 _ _ l1 l2
 rw[e1,e2,e3,qN _ l3]at h
 obtain⟨h1,h2⟩:=(Lib.or_mask _ _ _).1 (show((gh s ||| gh (s.extract 8 s.size)) ||| (gh (s.extract 16 s.size) ||| gh (s.extract 24 s.size))) &&& 9259542123273814144=0 by omega)
 obtain⟨g0,g1⟩:=(Lib.or_mask _ _ _).1 h1
 obtain⟨g2,g3⟩:=(Lib.or_mask _ _ _).1 h2
 have a16:Lib.Asc s 16:=Lib.asc_add s 8 8 ((asc8 (by omega)).1 g0) ((asc8 (by rw[Lib.ext_size];omega)).1 g1)
 have a24:Lib.Asc s 24:=Lib.asc_add s 16 8 a16 ((asc8 (by rw[Lib.ext_size];omega)).1 g2)
 exact Lib.asc_add s 24 8 a24 ((asc8 (by rw[Lib.ext_size];omega)).1 g3)
theorem oc(n:Nat):ishr .u8 ((Lib.firstT n:Nat):Int) 4=((Lib.firstT n / 16:Nat):Int)/\IntKind.wrap .i64 (iand .u8 ((Lib.firstT n:Nat):Int) 7)=((Lib.firstT n % 8:Nat):Int)/\Lib.firstT n / 16<16:=by
 have h:Lib.firstT n=240\/Lib.firstT n=241\/Lib.firstT n=2\/Lib.firstT n=19\/Lib.firstT n=3\/Lib.firstT n=35\/Lib.firstT n=52\/Lib.firstT n=4\/Lib.firstT n=68:=by
  unfold Lib.firstT
  repeat' split
  all_goals simp
 rcases h with h | h | h | h | h | h | h | h | h<;>rw[h]<;>exact⟨by kernel_rfl,by kernel_rfl,by decide⟩
theorem chk2(n b1 b2 b3 lo hi:Nat):Lib.checkN n b1 b2 b3 2 lo hi=if n<2\/b1<lo\/hi<b1 then none else some 2:=by unfold Lib.checkN;rw[if_pos rfl]
theorem chk3(n b1 b2 b3 lo hi:Nat):Lib.checkN n b1 b2 b3 3 lo hi=if n<3\/b1<lo\/hi<b1\/b2<128\/191<b2 then none else some 3:=by unfold Lib.checkN;rw[if_neg (by decide),if_pos rfl]
theorem chk4(n b1 b2 b3 lo hi:Nat):Lib.checkN n b1 b2 b3 4 lo hi=if n<4\/b1<lo\/hi<b1\/b2<128\/191<b2\/b3<128\/191<b3 then none else some 4:=by unfold Lib.checkN;rw[if_neg (by decide),if_neg (by decide),if_pos rfl]
theorem sY(n b1 b2 b3 sz lo hi:Nat)(h2:sz≠2)(h3:sz≠3)(h4:sz≠4):Lib.checkN n b1 b2 b3 sz lo hi=none:=by unfold Lib.checkN;rw[if_neg h2,if_neg h3,if_neg h4]
set_option maxRecDepth 100000 in
theorem mt{H:zV}{s:ByteArray}(T:kn H)(hs:s.size<=1000000):aP.C s H (λv H'=>v=.bool (Lib.validD s.data.toList)/\Ext H H'):=by
 refine HC.via λR hR=>aP.link ?_
 unfold aP.pt zY
 refine⟨λt A=>Lib.validD t.data.toList=Lib.validD s.data.toList/\t.size<=s.size/\Ext H A,λt _=>t.size,⟨rfl,Nat.le_refl _,Ext.refl _⟩,?_⟩
 rintro t A ⟨hv,hsz,eA⟩
 by_cases h0:(t.size:Int)>0
 ·rw[if_pos h0]
  have h0':0<t.size:=by omega
  have l0:=(t.get! 0).toNat_lt
  refine⟨t.get! 0,⟨by decide,fD t h0'⟩,?_⟩
  by_cases ha:(((t.get! 0).toNat:Nat):Int)<128
  ·rw[if_pos ha]
   have a1:Lib.Asc t 1:=Lib.asc_one t h0' (by omega)
   have z1:=Lib.ext_size t 1
   have v1:=(Lib.valid_skip t 1 a1).trans hv
   refine⟨1,t.size,rfl,rfl,by omega,by omega,?_⟩
   generalize t.extract 1 t.size=t1 at z1 v1⊢
   refine⟨λq B=>(q=true->Lib.Asc t1 8/\8<t1.size)/\Ext H B,?_,?_⟩
   ·by_cases c8:(t1.size:Int)>8
    ·rw[if_pos c8]
     refine HC.mono (fK (by omega)) ?_
     rintro _ B ⟨rfl,hB⟩
     subst hB
     exact⟨_,rfl,λhq=>⟨qO (by omega) hq,by omega⟩,eA⟩
    ·rw[if_neg c8];exact⟨(λh=>by cases h),eA⟩
   rintro q B ⟨hq,eB⟩
   refine⟨λu C=>Lib.validD u.data.toList=Lib.validD s.data.toList/\u.size<t.size/\Ext H C,?_,?_⟩
   ·by_cases hqt:q=true
    ·rw[if_pos hqt]
     obtain⟨a8,s8⟩:=hq hqt
     have z2:=Lib.ext_size t1 8
     have v2:=(Lib.valid_skip t1 8 a8).trans v1
     refine⟨8,t1.size,rfl,rfl,by omega,by omega,?_⟩
     generalize t1.extract 8 t1.size=t2 at z2 v2⊢
     refine⟨λq B=>(q=true->Lib.Asc t2 16/\16<t2.size)/\Ext H B,?_,?_⟩
     ·by_cases c16:(t2.size:Int)>16
      ·rw[if_pos c16]
       refine⟨8,t2.size,rfl,rfl,by omega,by omega,?_⟩
       refine HC.mono (fK (by omega)) ?_
       rintro _ C ⟨rfl,hC⟩
       subst hC
       refine⟨_,rfl,HC.mono (fK (by rw[Lib.ext_size];omega)) ?_⟩
       rintro _ D ⟨rfl,hD⟩
       subst hD
       exact⟨_,rfl,λhq=>⟨qa (by omega) hq,by omega⟩,eB⟩
      ·rw[if_neg c16];exact⟨(λh=>by cases h),eB⟩
     rintro q2 B2 ⟨hq2,eB2⟩
     by_cases hq2t:q2=true
     ·rw[if_pos hq2t]
      obtain⟨a16,s16⟩:=hq2 hq2t
      have z3:=Lib.ext_size t2 16
      have v3:=(Lib.valid_skip t2 16 a16).trans v2
      refine⟨16,t2.size,rfl,rfl,by omega,by omega,?_⟩
      generalize t2.extract 16 t2.size=t3 at z3 v3⊢
      refine⟨λu C=>Lib.validD u.data.toList=Lib.validD s.data.toList/\u.size<=t3.size/\Ext H C,λu _=>u.size,⟨v3,Nat.le_refl _,eB2⟩,?_⟩
      rintro u U ⟨vu,hu,eU⟩
      by_cases c32:(u.size:Int)>32
      ·rw[if_pos c32]
       refine⟨8,u.size,rfl,rfl,by omega,by omega,16,u.size,rfl,rfl,by omega,by omega,24,u.size,rfl,rfl,by omega,by omega,?_⟩
       refine HC.mono (fK (by omega)) ?_
       rintro _ U1 ⟨rfl,h1⟩
       subst h1
       refine⟨_,rfl,HC.mono (fK (by rw[Lib.ext_size];omega)) ?_⟩
       rintro _ U2 ⟨rfl,h2⟩
       subst h2
       refine⟨_,rfl,HC.mono (fK (by rw[Lib.ext_size];omega)) ?_⟩
       rintro _ U3 ⟨rfl,h3⟩
       subst h3
       refine⟨_,rfl,HC.mono (fK (by rw[Lib.ext_size];omega)) ?_⟩
       rintro _ U4 ⟨rfl,h4⟩
       subst h4
       refine⟨_,rfl,?_⟩
       by_cases hz:iand .u64 (ior .u64 (ior .u64 ((gh u:Nat):Int) ((gh (u.extract 8 u.size):Nat):Int)) (ior .u64 ((gh (u.extract 16 u.size):Nat):Int) ((gh (u.extract 24 u.size):Nat):Int))) 9259542123273814144=0
       ·rw[if_pos hz]
        have a32:=oR (by omega) hz
        have z4:=Lib.ext_size u 32
        refine⟨32,u.size,rfl,rfl,by omega,by omega,⟨(Lib.valid_skip u 32 a32).trans vu,by omega,eU⟩,?_⟩
        show(u.extract 32 u.size).size<u.size
        omega
       ·rw[if_neg hz];exact⟨vu,by omega,eU⟩
      ·rw[if_neg c32];exact⟨vu,by omega,eU⟩
     ·rw[if_neg hq2t];exact⟨v2,by omega,eB2⟩
    ·rw[if_neg hqt];exact⟨v1,by omega,eB⟩
   rintro u B2 ⟨vu,hu,eu⟩
   exact⟨⟨vu,by omega,eu⟩,hu⟩
  ·rw[if_neg ha]
   have hne:t.data.toList≠[]:=λh=>by
    have h1:=congrArg List.length h
    have h2:t.data.toList.length=t.size:=by simp
    rw[h2]at h1
    have h3:t.size=0:=h1
    omega
   have hlen:t.data.toList.length=t.size:=by simp
   have hlead:=Lib.validD_lead t.data.toList hne (by rw[lm];omega)
   simp only[lm,hlen]at hlead
   have hg: ∀{i:Nat},i<t.size->t[i]?=some (t.get! i):=λh=>fD t h
   generalize hc0:t.get! 0=c0 at*
   generalize hc1:t.get! 1=c1 at*
   generalize hc2:t.get! 2=c2 at*
   generalize hc3:t.get! 3=c3 at*
   obtain⟨f1,f2,f3⟩:=oc c0.toNat
   have TA:=T.ext eA
   have k1:=TA.first c0.toNat l0
   have k2:=TA.acc (Lib.firstT c0.toNat / 16) f3
   generalize Lib.firstT c0.toNat=X at*
   generalize Lib.accLo (X / 16)=lo at*
   generalize Lib.accHi (X / 16)=hi at*
   refine⟨⟨by omega,by omega⟩,(X:Int),by rw[show Int.toNat ((c0.toNat:Nat):Int)*1=c0.toNat by omega];exact k1,?_⟩
   rw[f1]
   refine⟨⟨by omega,by omega⟩,(lo:Int),(hi:Int),by rw[show Int.toNat ((X / 16:Nat):Int)*2=X / 16*2 by omega];exact k2,λb H13 hb hH13=>?_⟩
   obtain⟨cp,p14⟩:=rG (n:=2) (vs:=[.int .u8 (lo:Int),.int .u8 (hi:Int)]) hb hH13 rfl rfl
   refine⟨cp,λH14 hH14=>?_⟩
   obtain⟨g14,e14⟩:=p14 H14 hH14
   have eH:=eA.trans e14
   have rlo:hat H14 (Addr.mk b 0 none)=some (.int .u8 (lo:Int)):=by rw[aT g14];rfl
   have rhi:hat H14 ((Addr.mk b 0 none).add 1)=some (.int .u8 (hi:Int)):=by rw[gq g14 1];rfl
   rw[f2]
   have no: ∀{o:Option Nat},Lib.checkN t.size c1.toNat c2.toNat c3.toNat (X % 8) lo hi=o->o=none->R (.bool false) H14:=λh1 h2=>hR _ _ ⟨by rw[<-hv,hlead,h1,h2],eH⟩
   have go: ∀{k:Nat},Lib.checkN t.size c1.toNat c2.toNat c3.toNat (X % 8) lo hi=some k->Lib.validD (t.extract k t.size).data.toList=Lib.validD s.data.toList:=λh=>by rw[<-hv,hlead,h,Lib.ext_list]
   by_cases s2:X % 8=2
   ·rw[if_pos (show((X % 8:Nat):Int)=2 by omega)]
    rw[s2,chk2]at no go
    by_cases q0:(t.size:Int)<2
    ·rw[if_pos q0];exact no rfl (if_pos (by omega))
    rw[if_neg q0]
    have g1:t[Int.toNat 1]?=some c1:=hc1▸fD t (show 1<t.size by omega)
    refine⟨c1,⟨by decide,g1⟩,_,rlo,?_⟩
    by_cases q1:((c1.toNat:Nat):Int)< (lo:Int)
    ·rw[if_pos q1];exact no rfl (if_pos (by omega))
    rw[if_neg q1]
    refine⟨_,rhi,c1,⟨by decide,g1⟩,?_⟩
    by_cases q2:(hi:Int)< ((c1.toNat:Nat):Int)
    ·rw[if_pos q2];exact no rfl (if_pos (by omega))
    rw[if_neg q2]
    have z:=Lib.ext_size t 2
    refine⟨2,t.size,rfl,rfl,by omega,by omega,⟨go (if_neg (by omega)),by omega,eH⟩,?_⟩
    show(t.extract 2 t.size).size<t.size
    omega
   rw[if_neg (show ¬((X % 8:Nat):Int)=2 by omega)]
   by_cases s3:X % 8=3
   ·rw[if_pos (show((X % 8:Nat):Int)=3 by omega)]
    rw[s3,chk3]at no go
    by_cases q0:(t.size:Int)<3
    ·rw[if_pos q0];exact no rfl (if_pos (by omega))
    rw[if_neg q0]
    have g1:t[Int.toNat 1]?=some c1:=hc1▸fD t (show 1<t.size by omega)
    have g2:t[Int.toNat 2]?=some c2:=hc2▸fD t (show 2<t.size by omega)
    refine⟨c1,⟨by decide,g1⟩,_,rlo,?_⟩
    by_cases q1:((c1.toNat:Nat):Int)< (lo:Int)
    ·rw[if_pos q1];exact no rfl (if_pos (by omega))
    rw[if_neg q1]
    refine⟨_,rhi,c1,⟨by decide,g1⟩,?_⟩
    by_cases q2:(hi:Int)< ((c1.toNat:Nat):Int)
    ·rw[if_pos q2];exact no rfl (if_pos (by omega))
    rw[if_neg q2]
    refine⟨c2,⟨by decide,g2⟩,?_⟩
    by_cases q3:((c2.toNat:Nat):Int)<128
    ·rw[if_pos q3];exact no rfl (if_pos (by omega))
    rw[if_neg q3]
    refine⟨c2,⟨by decide,g2⟩,?_⟩
    by_cases q4:191< ((c2.toNat:Nat):Int)
    ·rw[if_pos q4];exact no rfl (if_pos (by omega))
    rw[if_neg q4]
    have z:=Lib.ext_size t 3
    refine⟨3,t.size,rfl,rfl,by omega,by omega,⟨go (if_neg (by omega)),by omega,eH⟩,?_⟩
    show(t.extract 3 t.size).size<t.size
    omega
   rw[if_neg (show ¬((X % 8:Nat):Int)=3 by omega)]
   by_cases s4:X % 8=4
   ·rw[if_pos (show((X % 8:Nat):Int)=4 by omega)]
    rw[s4,chk4]at no go
    by_cases q0:(t.size:Int)<4
    ·rw[if_pos q0];exact no rfl (if_pos (by omega))
    rw[if_neg q0]
    have g1:t[Int.toNat 1]?=some c1:=hc1▸fD t (show 1<t.size by omega)
    have g2:t[Int.toNat 2]?=some c2:=hc2▸fD t (show 2<t.size by omega)
    have g3:t[Int.toNat 3]?=some c3:=hc3▸fD t (show 3<t.size by omega)
    refine⟨c1,⟨by decide,g1⟩,_,rlo,?_⟩
    by_cases q1:((c1.toNat:Nat):Int)< (lo:Int)
    ·rw[if_pos q1];exact no rfl (if_pos (by omega))
    rw[if_neg q1]
    refine⟨_,rhi,c1,⟨by decide,g1⟩,?_⟩
    by_cases q2:(hi:Int)< ((c1.toNat:Nat):Int)
    ·rw[if_pos q2];exact no rfl (if_pos (by omega))
    rw[if_neg q2]
    refine⟨c2,⟨by decide,g2⟩,?_⟩
    by_cases q3:((c2.toNat:Nat):Int)<128
    ·rw[if_pos q3];exact no rfl (if_pos (by omega))
    rw[if_neg q3]
    refine⟨c2,⟨by decide,g2⟩,?_⟩
    by_cases q4:191< ((c2.toNat:Nat):Int)
    ·rw[if_pos q4];exact no rfl (if_pos (by omega))
    rw[if_neg q4]
    refine⟨c3,⟨by decide,g3⟩,?_⟩
    by_cases q5:((c3.toNat:Nat):Int)<128
    ·rw[if_pos q5];exact no rfl (if_pos (by omega))
    rw[if_neg q5]
    refine⟨c3,⟨by decide,g3⟩,?_⟩
    by_cases q6:191< ((c3.toNat:Nat):Int)
    ·rw[if_pos q6];exact no rfl (if_pos (by omega))
    rw[if_neg q6]
    have z:=Lib.ext_size t 4
    refine⟨4,t.size,rfl,rfl,by omega,by omega,⟨go (if_neg (by omega)),by omega,eH⟩,?_⟩
    show(t.extract 4 t.size).size<t.size
    omega
   rw[if_neg (show ¬((X % 8:Nat):Int)=4 by omega)]
   exact no (sY _ _ _ _ _ _ _ s2 s3 s4) rfl
 ·rw[if_neg h0]
  refine hR _ _ ⟨?_,eA⟩
  rw[<-hv]
  have hlen:t.data.toList.length=t.size:=by simp
  rw[List.length_eq_zero_iff.1 (show t.data.toList.length=0 by omega)]
  rfl

theorem u8(n:Nat)(h:n<256):(UInt8.ofNat n).toNat=n:=by
 simp[UInt8.toNat_ofNat'];omega
section
variable {S:ByteArray} {i:Nat}
end
def kF(r:Int):Prop:=Utf8.valid r=true
theorem kF.nat{r:Int}(h:kF r):0<=r/\r<=1114111:=by
 unfold kF Utf8.valid at h
 simp only[Bool.or_eq_true,Bool.and_eq_true,decide_eq_true_eq]at h
 omega
def catR:List Int->ByteArray
 | []=>ByteArray.empty
 | r::rs=>Utf8.encode r++catR rs
theorem qP(a b c:ByteArray):a++b++c=a++(b++c):=by
 apply ByteArray.ext;simp[ByteArray.data_append,Array.append_assoc]
theorem sx(a:ByteArray):a++ByteArray.empty=a:=by
 apply ByteArray.ext;simp[ByteArray.data_append]
theorem sD(a:ByteArray):ByteArray.empty++a=a:=by
 apply ByteArray.ext;simp[ByteArray.data_append]
theorem mQ: ∀(rs:List Int) (s:ByteArray),rs.foldl (λs n=>s++Utf8.encode n) s=s++catR rs
 | [],s=>(sx s).symm
 | r::rs,s=>by
  rw[List.foldl_cons,mQ rs,qP];rfl
theorem nr(rs:List Int):fY rs=catR rs:=by
 unfold fY;rw[mQ,sD]
theorem ko(s:ByteArray)(pos:Nat):Utf8.valid ((Utf8.decode s pos).1:Int)=true:=by
 unfold Utf8.decode
 simp only[]
 have small: ∀c:Nat,c<55296->Utf8.valid (c:Int)=true:=λc h=>by
  unfold Utf8.valid
  rw[zX (show(0:Int)<=c by omega),zX (show(c:Int)<0xD800 by omega)];rfl
 split
 ·exact small _ (by omega)
 split
 ·split
  ·exact small _ (by omega)
  ·decide
 split
 ·split
  ·rename_i h;simp only[Bool.and_eq_true]at h;exact h.2
  ·decide
 split
 ·split
  ·rename_i h;simp only[Bool.and_eq_true]at h;exact h.2
  ·decide
 ·decide
theorem iS(s:ByteArray): ∀(f pos:Nat),∀r∈runesFrom s f pos,kF r
 | 0,_,r,h=>by simp[runesFrom]at h
 | f+1,pos,r,h=>by
  simp only[runesFrom]at h
  by_cases hp:pos<s.size
  ·rw[if_pos hp]at h
   rcases List.mem_cons.1 h with rfl | h
   ·exact ko s pos
   ·exact iS s f _ r h
  ·rw[if_neg hp]at h;simp at h
theorem lQ(s:ByteArray): ∀r∈aX s,kF r:=iS s _ _
theorem kq{ws:List Int}(h: ∀r∈ws,kF r):gX ws=fY ws:=by
 unfold gX
 congr 1
 refine(List.map_congr_left λx hx=>?_).trans (List.map_id _)
 have:=(h x hx).nat
 rw[if_neg (by omega)];rfl

def by8(s:ByteArray)(i:Nat):Nat:=(s.get! i).toNat
theorem js(s:ByteArray)(i:Nat):by8 s i<256:=(s.get! i).toNat_lt
def fR(s:ByteArray)(i:Nat):Option (Nat×Nat):=
  if by8 s i<128 then some (by8 s i,1)
  else if 194<=by8 s i/\by8 s i<224 then
    if i+2<=s.size/\by8 s (i+1) / 64=2 then some (by8 s i % 32*64+by8 s (i+1) % 64,2)else none
  else if 224<=by8 s i/\by8 s i<240 then
    if i+3<=s.size/\by8 s (i+1) / 64=2/\by8 s (i+2) / 64=2/\2048<=by8 s i % 16*4096+by8 s (i+1) % 64*64+by8 s (i+2) % 64/\(by8 s i % 16*4096+by8 s (i+1) % 64*64+by8 s (i+2) % 64<55296\/57343<by8 s i % 16*4096+by8 s (i+1) % 64*64+by8 s (i+2) % 64)
    then some (by8 s i % 16*4096+by8 s (i+1) % 64*64+by8 s (i+2) % 64,3)else none
  else if 240<=by8 s i/\by8 s i<245 then
    if i+4<=s.size/\by8 s (i+1) / 64=2/\by8 s (i+2) / 64=2/\by8 s (i+3) / 64=2/\65536<=by8 s i % 8*262144+by8 s (i+1) % 64*4096+by8 s (i+2) % 64*64+by8 s (i+3) % 64/\by8 s i % 8*262144+by8 s (i+1) % 64*4096+by8 s (i+2) % 64*64+by8 s (i+3) % 64<=1114111
    then some (by8 s i % 8*262144+by8 s (i+1) % 64*4096+by8 s (i+2) % 64*64+by8 s (i+3) % 64,4)else none
  else none
theorem iq(c:Nat):Utf8.valid (c:Int)=true ↔ c<55296\/(57343<c/\c<=1114111):=by
  unfold Utf8.valid
  simp only[Bool.or_eq_true,Bool.and_eq_true,decide_eq_true_eq]
  omega
theorem jR(s:ByteArray)(i:Nat):Utf8.decode s i=(fR s i).getD (65533,1):=by
  have l0:=js s i
  have l1:=js s (i+1)
  have l2:=js s (i+2)
  have l3:=js s (i+3)
  unfold Utf8.decode fR
  simp only[Nat.add_zero]
  have g: ∀j,(s.get! j).toNat=by8 s j:=λ_=>rfl
  simp only[g]
  generalize by8 s i=a at*
  generalize by8 s (i+1)=b at*
  generalize by8 s (i+2)=c at*
  generalize by8 s (i+3)=d at*
  by_cases h1:a<128
  · rw[if_pos h1,if_pos h1];rfl
  rw[if_neg h1,if_neg h1]
  by_cases k1:i+1<s.size/\b / 64=2
  case neg=>
    have e1:(decide (i+1<s.size) && b / 64==2)=false:=by rw[Bool.eq_false_iff];intro h;simp at h;exact k1 h
    rw[e1]
    simp only[Bool.and_false,Bool.false_and,if_false,Bool.false_eq_true]
    by_cases h2:194<=a/\a<224
    · rw[if_pos h2,if_neg (λh=>k1 ⟨by omega,h.2⟩)];rfl
    rw[if_neg h2]
    by_cases h3:224<=a/\a<240
    · rw[if_pos h3,if_neg (λh=>k1 ⟨by omega,h.2.1⟩)];rfl
    rw[if_neg h3]
    by_cases h4:240<=a/\a<245
    · rw[if_pos h4,if_neg (λh=>k1 ⟨by omega,h.2.1⟩)];rfl
    rw[if_neg h4];rfl
  have e1:(decide (i+1<s.size) && b / 64==2)=true:=by simp;exact k1
  rw[e1]
  simp only[Bool.and_true]
  by_cases m2:192<=a/\a<224
  · rw[if_pos (by rw[beq_iff_eq];omega)]
    by_cases h2:194<=a/\a<224
    · rw[if_pos (by omega),if_pos h2,if_pos ⟨by omega,k1.2⟩];rfl
    · rw[if_neg (by omega),if_neg h2,if_neg (by omega),if_neg (by omega)];rfl
  rw[if_neg (by rw[beq_iff_eq];omega),if_neg (show ¬(194<=a/\a<224)by omega)]
  by_cases k2:i+2<s.size/\c / 64=2
  case neg=>
    have e2:(decide (i+2<s.size) && c / 64==2)=false:=by rw[Bool.eq_false_iff];intro h;simp at h;exact k2 h
    rw[e2]
    simp only[Bool.and_false,Bool.false_and,if_false,Bool.false_eq_true]
    by_cases h3:224<=a/\a<240
    · rw[if_pos h3,if_neg (λh=>k2 ⟨by omega,h.2.2.1⟩)];rfl
    rw[if_neg h3]
    by_cases h4:240<=a/\a<245
    · rw[if_pos h4,if_neg (λh=>k2 ⟨by omega,h.2.2.1⟩)];rfl
    rw[if_neg h4];rfl
  have e2:(decide (i+2<s.size) && c / 64==2)=true:=by simp;exact k2
  rw[e2]
  simp only[Bool.and_true]
  by_cases m3:224<=a/\a<240
  · rw[if_pos (by rw[beq_iff_eq];omega),if_pos m3]
    generalize hv:a % 16*4096+b % 64*64+c % 64=v
    by_cases hc:2048<=v/\(v<55296\/57343<v)
    · rw[if_pos (by rw[Bool.and_eq_true,decide_eq_true_eq,iq];omega),if_pos ⟨by omega,k1.2,k2.2,hc.1,hc.2⟩];rfl
    · rw[if_neg (by rw[Bool.and_eq_true,decide_eq_true_eq,iq];omega),if_neg (λh=>hc h.2.2.2)];rfl
  rw[if_neg (by rw[beq_iff_eq];omega),if_neg m3]
  by_cases k3:i+3<s.size/\d / 64=2
  case neg=>
    have e3:(decide (i+3<s.size) && d / 64==2)=false:=by rw[Bool.eq_false_iff];intro h;simp at h;exact k3 h
    rw[e3]
    simp only[Bool.and_false,Bool.false_and,if_false,Bool.false_eq_true]
    by_cases h4:240<=a/\a<245
    · rw[if_pos h4,if_neg (λh=>k3 ⟨by omega,h.2.2.2.1⟩)];rfl
    rw[if_neg h4];rfl
  have e3:(decide (i+3<s.size) && d / 64==2)=true:=by simp;exact k3
  rw[e3]
  simp only[Bool.and_true]
  by_cases m4:240<=a/\a<248
  · rw[if_pos (by rw[beq_iff_eq];omega)]
    generalize hv:a % 8*262144+b % 64*4096+c % 64*64+d % 64=v
    by_cases h4:240<=a/\a<245
    · rw[if_pos h4]
      by_cases hc:65536<=v/\v<=1114111
      · rw[if_pos (by rw[Bool.and_eq_true,decide_eq_true_eq,iq];omega),if_pos ⟨by omega,k1.2,k2.2,k3.2,hc.1,hc.2⟩];rfl
      · rw[if_neg (by rw[Bool.and_eq_true,decide_eq_true_eq,iq];omega),if_neg (λh=>hc h.2.2.2.2)];rfl
    · rw[if_neg h4,if_neg (by rw[Bool.and_eq_true,decide_eq_true_eq,iq];omega)];rfl
  rw[if_neg (by rw[beq_iff_eq];omega),if_neg (show ¬(240<=a/\a<245)by omega)];rfl
theorem kr{s:ByteArray}{i c k:Nat}(h:fR s i=some (c,k)): ¬(c=65533/\k=1)/\1<=k:=by
  have l0:=js s i
  unfold fR at h
  by_cases h1:by8 s i<128
  · rw[if_pos h1]at h
    simp only[Option.some.injEq,Prod.mk.injEq]at h;omega
  rw[if_neg h1]at h
  by_cases h2:194<=by8 s i/\by8 s i<224
  · rw[if_pos h2]at h
    split at h
    · simp only[Option.some.injEq,Prod.mk.injEq]at h;omega
    · cases h
  rw[if_neg h2]at h
  by_cases h3:224<=by8 s i/\by8 s i<240
  · rw[if_pos h3]at h
    split at h
    · simp only[Option.some.injEq,Prod.mk.injEq]at h;omega
    · cases h
  rw[if_neg h3]at h
  by_cases h4:240<=by8 s i/\by8 s i<245
  · rw[if_pos h4]at h
    split at h
    · simp only[Option.some.injEq,Prod.mk.injEq]at h;omega
    · cases h
  rw[if_neg h4]at h;cases h
theorem jt(s:ByteArray)(i:Nat):Lib.decodeL (s.data.toList.drop i)=Utf8.decode s i:=by
  have hg: ∀k,(ByteArray.mk (s.data.toList.drop i).toArray).get! (0+k)=s.get! (i+k):=λk=>by
    rw[<-lm,<-lm]
    simp[List.getD_eq_getElem?_getD,List.getElem?_drop]
  have hs: ∀k,((0+k< (ByteArray.mk (s.data.toList.drop i).toArray).size)=(i+k<s.size)):=λk=>by
    have h1:(ByteArray.mk (s.data.toList.drop i).toArray).size=s.size-i:=by
      show(s.data.toList.drop i).toArray.size=_
      simp
    rw[h1];exact propext (by omega)
  unfold Lib.decodeL Utf8.decode
  simp only[hg,hs]
theorem lR{s:ByteArray}{i:Nat}(h:i<s.size):Lib.validD (s.data.toList.drop i)=match fR s i with | none=>false | some (_,k)=>Lib.validD (s.data.toList.drop (i+k)):=by
  have hne:s.data.toList.drop i≠[]:=λh1=>by
    have h2:=congrArg List.length h1
    have h3:s.data.toList.length=s.size:=by simp
    rw[List.length_drop,h3]at h2
    have h4:s.size-i=0:=h2
    omega
  rw[Lib.validD_step _ hne,jt,jR]
  cases hr:fR s i with
  | none=>rfl
  | some p=>
    obtain⟨c,k⟩:=p
    have:=(kr hr).1
    show(if(c=65533/\k=1)then false else _)=_
    rw[if_neg this]
    show Lib.validD ((s.data.toList.drop i).drop k)=_
    rw[List.drop_drop]
theorem sZ:((List.range 256).all λn=>decide (iand .i32 (n:Int) 31=((n % 32:Nat):Int)) && (decide (iand .i32 (n:Int) 15=((n % 16:Nat):Int)) && (decide (iand .i32 (n:Int) 7=((n % 8:Nat):Int)) && ((decide (iand .u8 (n:Int) 192=128)==decide (n / 64=2)) && decide (IntKind.wrap .i32 (iand .u8 (n:Int) 63)=((n % 64:Nat):Int))))))=true:=by kernel_rfl
theorem lS{n:Nat}(h:n<256):iand .i32 (n:Int) 31=((n % 32:Nat):Int)/\iand .i32 (n:Int) 15=((n % 16:Nat):Int)/\iand .i32 (n:Int) 7=((n % 8:Nat):Int)/\(iand .u8 (n:Int) 192=128 ↔ n / 64=2)/\IntKind.wrap .i32 (iand .u8 (n:Int) 63)=((n % 64:Nat):Int):=by
  have h1:=List.all_eq_true.1 sZ n (List.mem_range.2 h)
  simp only[Bool.and_eq_true,decide_eq_true_eq,beq_iff_eq,decide_eq_decide]at h1
  exact⟨h1.1,h1.2.1,h1.2.2.1,h1.2.2.2.1,h1.2.2.2.2⟩
theorem rH{x y:Int}(hx:0<=x/\x<2147483648)(hd:x % 64=0)(hy:0<=y/\y<64):ior .i32 x y=x+y:=by
  have e: ∀z:Int,0<=z->z<2147483648->(BitVec.ofInt IntKind.i32.bits z).toNat=z.toNat:=λz h0 h1=>by
    rw[BitVec.toNat_ofInt]
    show(z % ((2 ^ 32:Nat):Int)).toNat=_
    rw[Int.emod_eq_of_lt h0 (by show z<4294967296;omega)]
  unfold ior
  rw[BitVec.toNat_or,e x hx.1 hx.2,e y hy.1 (by omega)]
  have hq:x.toNat=2 ^ 6*(x.toNat / 64):=by show x.toNat=64*_;omega
  have hyn:y.toNat<2 ^ 6:=by show y.toNat<64;omega
  rw[hq,<-Nat.two_pow_add_eq_or_of_lt hyn,<-hq,wi32 (by omega)]
  omega
theorem qQ{c:Int}{b:Nat}(hc:0<=c/\c<33554432)(hb:b<256):ior .i32 (ishl .i32 c 6) (IntKind.wrap .i32 (iand .u8 ((b:Nat):Int) 63))=c*64+((b % 64:Nat):Int):=by
  have e1:ishl .i32 c 6=c*64:=by
    unfold ishl
    show IntKind.wrap .i32 (c*64)=_
    rw[wi32 (by omega)]
  rw[e1,(lS hb).2.2.2.2,rH (by omega) (by omega) (by omega)]
def acc8(s:ByteArray)(p:Nat)(c:Int):Nat->Int
  | 0=>c
  | k+1=>acc8 s p c k*64+((by8 s (p+(k+1)) % 64:Nat):Int)
def Lead(a n:Nat)(c:Int):Prop:=(a<128/\n=1/\c=a)\/((194<=a/\a<224)/\n=2/\c=((a % 32:Nat):Int))\/((224<=a/\a<240)/\n=3/\c=((a % 16:Nat):Int))\/((240<=a/\a<245)/\n=4/\c=((a % 8:Nat):Int))
theorem Lead.n{a n:Nat}{c:Int}(h:Lead a n c):1<=n/\n<=4:=by unfold Lead at h;omega
theorem rI(s:ByteArray)(p:Nat){c:Int}(hc:0<=c/\c<128):(0<=acc8 s p c 0/\acc8 s p c 0<128)/\(0<=acc8 s p c 1/\acc8 s p c 1<8192)/\(0<=acc8 s p c 2/\acc8 s p c 2<524288)/\(0<=acc8 s p c 3/\acc8 s p c 3<33554432):=by
  have h1:acc8 s p c 1=c*64+((by8 s (p+1) % 64:Nat):Int):=rfl
  have h2:acc8 s p c 2=acc8 s p c 1*64+((by8 s (p+2) % 64:Nat):Int):=rfl
  have h3:acc8 s p c 3=acc8 s p c 2*64+((by8 s (p+3) % 64:Nat):Int):=rfl
  have h0:acc8 s p c 0=c:=rfl
  omega
theorem ns{s:ByteArray}{p n:Nat}{c:Int}(L:Lead (by8 s p) n c)(h:s.size<p+n\/(∃j,1<=j/\j<n/\by8 s (p+j) / 64≠2)\/(n=3/\acc8 s p c (n-1)<2048)\/(n=4/\acc8 s p c (n-1)<65536)\/ ¬(acc8 s p c (n-1)<55296\/(57343<acc8 s p c (n-1)/\acc8 s p c (n-1)<=1114111)))(hp:p<s.size):fR s p=none:=by
  have l1:=js s (p+1)
  unfold fR
  rcases L with⟨h1,rfl,rfl⟩ | ⟨h1,rfl,rfl⟩ | ⟨h1,rfl,rfl⟩ | ⟨h1,rfl,rfl⟩
  · exfalso
    have e:acc8 s p ((by8 s p:Nat):Int) (1-1)=by8 s p:=rfl
    rw[e]at h
    rcases h with h | ⟨j,h2,h3,_⟩ | h | h | h<;>omega
  · rw[if_neg (by omega),if_pos h1,if_neg]
    have e:acc8 s p ((by8 s p % 32:Nat):Int) (2-1)=((by8 s p % 32:Nat):Int)*64+((by8 s (p+1) % 64:Nat):Int):=rfl
    rw[e]at h
    rintro⟨q1,q2⟩
    rcases h with h | ⟨j,h2,h3,h4⟩ | h | h | h
    · omega
    · obtain rfl:j=1:=by omega
      exact h4 q2
    all_goals omega
  · rw[if_neg (by omega),if_neg (by omega),if_pos h1,if_neg]
    have e:acc8 s p ((by8 s p % 16:Nat):Int) (3-1)=(((by8 s p % 16:Nat):Int)*64+((by8 s (p+1) % 64:Nat):Int))*64+((by8 s (p+2) % 64:Nat):Int):=rfl
    rw[e]at h
    rintro⟨q1,q2,q3,q4,q5⟩
    rcases h with h | ⟨j,h2,h3,h4⟩ | h | h | h
    · omega
    · have:j=1\/j=2:=by omega
      rcases this with rfl | rfl
      · exact h4 q2
      · exact h4 q3
    all_goals omega
  · rw[if_neg (by omega),if_neg (by omega),if_neg (by omega),if_pos h1,if_neg]
    have e:acc8 s p ((by8 s p % 8:Nat):Int) (4-1)=((((by8 s p % 8:Nat):Int)*64+((by8 s (p+1) % 64:Nat):Int))*64+((by8 s (p+2) % 64:Nat):Int))*64+((by8 s (p+3) % 64:Nat):Int):=rfl
    rw[e]at h
    rintro⟨q1,q2,q3,q4,q5,q6⟩
    rcases h with h | ⟨j,h2,h3,h4⟩ | h | h | h
    · omega
    · have:j=1\/j=2\/j=3:=by omega
      rcases this with rfl | rfl | rfl
      · exact h4 q2
      · exact h4 q3
      · exact h4 q4
    all_goals omega
theorem qR{s:ByteArray}{p n:Nat}{c:Int}(L:Lead (by8 s p) n c)(h1:p+n<=s.size)(h2: ∀j,1<=j->j<n->by8 s (p+j) / 64=2)(h3:n=3->2048<=acc8 s p c (n-1))(h4:n=4->65536<=acc8 s p c (n-1))(h5:acc8 s p c (n-1)<55296\/(57343<acc8 s p c (n-1)/\acc8 s p c (n-1)<=1114111)):
    fR s p=some ((acc8 s p c (n-1)).toNat,n):=by
  unfold fR
  rcases L with⟨q,rfl,rfl⟩ | ⟨q,rfl,rfl⟩ | ⟨q,rfl,rfl⟩ | ⟨q,rfl,rfl⟩
  · rw[if_pos q]
    refine congrArg (λz:Nat=>some (z,1)) ?_
    have e:acc8 s p ((by8 s p:Nat):Int) (1-1)=by8 s p:=rfl
    omega
  · have e:acc8 s p ((by8 s p % 32:Nat):Int) (2-1)=((by8 s p % 32:Nat):Int)*64+((by8 s (p+1) % 64:Nat):Int):=rfl
    rw[if_neg (by omega),if_pos q,if_pos ⟨h1,h2 1 (by omega) (by omega)⟩]
    refine congrArg (λz:Nat=>some (z,2)) ?_
    omega
  · have e:acc8 s p ((by8 s p % 16:Nat):Int) (3-1)=(((by8 s p % 16:Nat):Int)*64+((by8 s (p+1) % 64:Nat):Int))*64+((by8 s (p+2) % 64:Nat):Int):=rfl
    have h3':=h3 rfl
    generalize acc8 s p ((by8 s p % 16:Nat):Int) (3-1)=Y at*
    have g1:=h2 1 (by omega) (by omega)
    have g2:=h2 2 (by omega) (by omega)
    rw[if_neg (by omega),if_neg (by omega),if_pos q,if_pos ⟨h1,g1,g2,by omega,by omega⟩]
    refine congrArg (λz:Nat=>some (z,3)) ?_
    omega
  · have e:acc8 s p ((by8 s p % 8:Nat):Int) (4-1)=((((by8 s p % 8:Nat):Int)*64+((by8 s (p+1) % 64:Nat):Int))*64+((by8 s (p+2) % 64:Nat):Int))*64+((by8 s (p+3) % 64:Nat):Int):=rfl
    have h4':=h4 rfl
    generalize acc8 s p ((by8 s p % 8:Nat):Int) (4-1)=Y at*
    have g1:=h2 1 (by omega) (by omega)
    have g2:=h2 2 (by omega) (by omega)
    have g3:=h2 3 (by omega) (by omega)
    rw[if_neg (by omega),if_neg (by omega),if_neg (by omega),if_pos q,if_pos ⟨h1,g1,g2,g3,by omega,by omega⟩]
    refine congrArg (λz:Nat=>some (z,4)) ?_
    omega
def i32v(l:List Int):List Value:=l.map (Value.int .i32)
def mR(c:Int):Bool:=((decide (c>=0)) && (decide (c<=1114111))) && ((decide (c<55296)) || (decide (c>57343)))
theorem jS{H:zV}{c:Int}:bP.C c H (λv H'=>v=.bool (mR c)/\H=H'):=by
  refine HC.via λR hR=>bP.link ?_
  unfold bP.pt
  exact hR _ _ ⟨rfl,rfl⟩
theorem oS{c:Int}(h:0<=c):mR c=true ↔ (c<55296\/(57343<c/\c<=1114111)):=by
  unfold mR
  simp only[Bool.and_eq_true,Bool.or_eq_true,decide_eq_true_eq]
  omega
set_option maxRecDepth 100000 in
theorem od{H:zV}{s:ByteArray}(hs:s.size<=1000000):cH.C s H (λv H'=> ∃(B:zW) (n c:Nat),v=.tuple #[.slice B n c,.bool (Lib.validD s.data.toList)]/\(Lib.validD s.data.toList=true->n=(aX s).length/\Own H' 21 1 B n c (i32v (aX s))/\ ∀j∈blks B,H.size<=j)/\Ext H H'):=by
  refine HC.via λR hR=>cH.link ?_
  unfold cH.pt zY
  refine⟨λB n c i A=> ∃(p:Nat) (rs:List Int),i=p/\p<=s.size/\n=rs.length/\n<=p/\aX s=rs++fe s p/\Own A 21 1 B n c (i32v rs)/\(∀j∈blks B,H.size<=j)/\Lib.validD (s.data.toList.drop p)=Lib.validD s.data.toList/\Ext H A,λ_ _ _ i _=>(s.size-i).toNat,
    ⟨0,[],rfl,by omega,rfl,by simp,rfl,gJ,by simp,rfl,Ext.refl _⟩,?_⟩
  rintro B n c i A ⟨p,rs,rfl,hp,rfl,hnp,hr,how,hy,hv,eA⟩
  by_cases hlt:(p:Int)< (s.size:Int)
  · rw[if_pos hlt]
    have hlt':p<s.size:=by omega
    have no: ∀A',Ext H A'->fR s p=none->R (.tuple #[.slice none 0 0,.bool false]) A':=λA' e hn=>by
      have h1:=lR hlt'
      rw[hn,hv]at h1
      exact hR _ _ ⟨none,0,0,by rw[h1],(λh=>by rw[h1]at h;cases h),e⟩
    have l0:=js s p
    have w0:IntKind.wrap .i32 (((s.get! p).toNat:Nat):Int)=((by8 s p:Nat):Int):=by
      show IntKind.wrap .i32 ((by8 s p:Nat):Int)=_
      rw[wi32 (by omega)]
    refine⟨s.get! p,⟨by omega,by rw[Int.toNat_natCast];exact fD s hlt'⟩,λnv c2 A'=> ∃m:Nat,nv=m/\Lead (by8 s p) m c2/\A=A',?_,?_⟩
    · rw[w0]
      obtain⟨t1,t2,t3,_⟩:=lS l0
      by_cases h1:((by8 s p:Nat):Int)<128
      · rw[if_pos h1];exact⟨1,rfl,.inl ⟨by omega,rfl,rfl⟩,rfl⟩
      rw[if_neg h1]
      by_cases h2:194<=by8 s p/\by8 s p<224
      · rw[if_pos (by simp;omega),t1];exact⟨2,rfl,.inr (.inl ⟨h2,rfl,rfl⟩),rfl⟩
      rw[if_neg (by simp;omega)]
      by_cases h3:224<=by8 s p/\by8 s p<240
      · rw[if_pos (by simp;omega),t2];exact⟨3,rfl,.inr (.inr (.inl ⟨h3,rfl,rfl⟩)),rfl⟩
      rw[if_neg (by simp;omega)]
      by_cases h4:240<=by8 s p/\by8 s p<245
      · rw[if_pos (by simp;omega),t3];exact⟨4,rfl,.inr (.inr (.inr ⟨h4,rfl,rfl⟩)),rfl⟩
      rw[if_neg (by simp;omega)]
      refine no A eA ?_
      unfold fR
      rw[if_neg (by omega),if_neg h2,if_neg h3,if_neg h4]
    rintro _ c2 A' ⟨m,rfl,hL,hA'⟩
    subst hA'
    have hm:=hL.n
    have hc2:0<=c2/\c2<128:=by unfold Lead at hL;omega
    have hbd:=rI s p hc2
    rw[w64 (n:=(p:Int)+(m:Int)) (by omega)]
    by_cases hover:(p:Int)+(m:Int)>(s.size:Int)
    · rw[if_pos hover]
      exact no A eA (ns hL (.inl (by omega)) hlt')
    rw[if_neg hover]
    refine⟨λc3 k A'=> ∃j:Nat,k=((j+1:Nat):Int)/\j+1<=m/\c3=acc8 s p c2 j/\(∀q,1<=q->q<=j->by8 s (p+q) / 64=2)/\A=A',λ_ k _=>(m-k).toNat,⟨0,rfl,by omega,rfl,λq h1 h2=>by omega,rfl⟩,?_⟩
    rintro c3 _ A' ⟨j,rfl,hj,rfl,hq,hA'⟩
    subst hA'
    by_cases hk:((j+1:Nat):Int)< (m:Int)
    · rw[if_pos hk,w64 (n:=(p:Int)+((j+1:Nat):Int)) (by omega)]
      have hlj:p+(j+1)<s.size:=by omega
      have lj:=js s (p+(j+1))
      obtain⟨_,_,_,t4,_⟩:=lS lj
      have gj:s[Int.toNat ((p:Int)+((j+1:Nat):Int))]?=some (s.get! (p+(j+1))):=by
        rw[show Int.toNat ((p:Int)+((j+1:Nat):Int))=p+(j+1)by omega];exact fD s hlj
      refine⟨s.get! (p+(j+1)),⟨by omega,gj⟩,?_⟩
      by_cases hb:by8 s (p+(j+1)) / 64=2
      · rw[if_pos (show iand .u8 (((s.get! (p+(j+1))).toNat:Nat):Int) 192=128 from t4.2 hb)]
        refine⟨s.get! (p+(j+1)),⟨by omega,gj⟩,?_⟩
        have e:ior .i32 (ishl .i32 (acc8 s p c2 j) 6) (IntKind.wrap .i32 (iand .u8 (((s.get! (p+(j+1))).toNat:Nat):Int) 63))=acc8 s p c2 (j+1):=by
          have hjb:0<=acc8 s p c2 j/\acc8 s p c2 j<33554432:=by
            have:j=0\/j=1\/j=2:=by omega
            rcases this with rfl | rfl | rfl<;>omega
          exact qQ hjb lj
        rw[e]
        refine⟨⟨j+1,by rw[w64 (by omega)];omega,by omega,rfl,λq h1 h2=>?_,rfl⟩,by show((m:Int)-IntKind.wrap .i64 (((j+1:Nat):Int)+1)).toNat< ((m:Int)-((j+1:Nat):Int)).toNat;rw[w64 (by omega)];omega⟩
        rcases Nat.lt_or_ge j q with h | h
        · obtain rfl:q=j+1:=by omega
          exact hb
        · exact hq q h1 h
      · rw[if_neg (show ¬iand .u8 (((s.get! (p+(j+1))).toNat:Nat):Int) 192=128 from λh=>hb (t4.1 h))]
        exact no A eA (ns hL (.inr (.inl ⟨j+1,by omega,by omega,hb⟩)) hlt')
    rw[if_neg hk]
    obtain rfl:j=m-1:=by omega
    have h0:0<=acc8 s p c2 (m-1)/\acc8 s p c2 (m-1)<33554432:=by
      have:m=1\/m=2\/m=3\/m=4:=by omega
      rcases this with rfl | rfl | rfl | rfl
      · exact⟨hbd.1.1,by have:acc8 s p c2 (1-1)=acc8 s p c2 0:=rfl;omega⟩
      · exact⟨hbd.2.1.1,by have:acc8 s p c2 (2-1)=acc8 s p c2 1:=rfl;omega⟩
      · exact⟨hbd.2.2.1.1,by have:acc8 s p c2 (3-1)=acc8 s p c2 2:=rfl;omega⟩
      · exact⟨hbd.2.2.2.1,hbd.2.2.2.2⟩
    have bad:(m=3/\acc8 s p c2 (m-1)<2048)\/(m=4/\acc8 s p c2 (m-1)<65536)\/ ¬(acc8 s p c2 (m-1)<55296\/(57343<acc8 s p c2 (m-1)/\acc8 s p c2 (m-1)<=1114111))->R (.tuple #[.slice none 0 0,.bool false]) A:=λh=>no A eA (ns hL (.inr (.inr h)) hlt')
    have good:(m=3->2048<=acc8 s p c2 (m-1))->(m=4->65536<=acc8 s p c2 (m-1))->(acc8 s p c2 (m-1)<55296\/(57343<acc8 s p c2 (m-1)/\acc8 s p c2 (m-1)<=1114111))->
        ∀(b:Nat) (H5:zV),b=A.size->H5=A.push (.cells #[.int .i32 (acc8 s p c2 (m-1))] 21)->
        dw 1 21 4 [.int .i32 0] B rs.length c (some (Addr.mk b 0 none)) 1 H5 (λap apC H6=>
         ((∃(p':Nat) (rs':List Int),(p:Int)+(m:Int)=p'/\p'<=s.size/\rs.length+1=rs'.length/\rs.length+1<=p'/\aX s=rs'++fe s p'/\Own H6 21 1 ap (rs.length+1) apC (i32v rs')/\(∀j∈blks ap,H.size<=j)/\Lib.validD (s.data.toList.drop p')=Lib.validD s.data.toList/\Ext H H6)
          /\((s.size:Int)-((p:Int)+(m:Int))).toNat< ((s.size:Int)-(p:Int)).toNat)):=λq3 q4 q5 b H5 hb hH5=>by
      have hst:=qR hL (by omega) (λj h1 h2=>hq j h1 (by omega)) q3 q4 q5
      have e5:Ext A H5:=Ext.push' hH5
      refine eh (ys:=[.int .i32 (acc8 s p c2 (m-1))]) (how.ext e5) (dH (aL hb hH5) _ 0 0 (λj hj=>by simp)) (by simp) rfl rfl (by omega) ?_
      intro p' c' H6 how6 f6 hnew
      have hdec:Utf8.decode s p=((acc8 s p c2 (m-1)).toNat,m):=by rw[jR,hst];rfl
      have hra:=gO hlt'
      rw[hdec]at hra
      have hva:=lR hlt'
      rw[hst]at hva
      refine⟨⟨p+m,rs++[acc8 s p c2 (m-1)],by omega,by omega,by simp,by omega,?_,by rw[i32v,List.map_append];exact how6,λj hj=>?_,?_,(eA.trans e5).fr_trans f6 (λj hj=>hy j hj)⟩,by omega⟩
      · rw[hr,hra,List.append_assoc]
        show _=rs++([acc8 s p c2 (m-1)]++fe s (p+m))
        rw[show(((acc8 s p c2 (m-1)).toNat:Nat):Int)=acc8 s p c2 (m-1)by omega];rfl
      · rcases hnew j hj with h | h
        · exact hy j h
        · have:=eA.size;have:=e5.size;omega
      · rw[<-hv];exact hva.symm
    have hch:=oS h0.1
    by_cases m3:(m:Int)=3
    · rw[if_pos m3]
      by_cases hsm:acc8 s p c2 (m-1)<2048
      · rw[if_pos hsm];exact bad (.inl ⟨by omega,hsm⟩)
      rw[if_neg hsm,if_neg (by omega)]
      refine HC.mono jS ?_
      rintro _ A' ⟨rfl,hA'⟩
      subst hA'
      refine⟨_,rfl,?_⟩
      by_cases hcb:mR (acc8 s p c2 (m-1))=true
      · rw[if_pos hcb];exact good (λ_=>by omega) (λ_=>by omega) (hch.1 hcb)
      · rw[if_neg hcb];exact bad (.inr (.inr (λh=>hcb (hch.2 h))))
    rw[if_neg m3]
    by_cases m4:(m:Int)=4
    · rw[if_pos m4]
      by_cases hsm:acc8 s p c2 (m-1)<65536
      · rw[if_pos hsm];exact bad (.inr (.inl ⟨by omega,hsm⟩))
      rw[if_neg hsm]
      refine HC.mono jS ?_
      rintro _ A' ⟨rfl,hA'⟩
      subst hA'
      refine⟨_,rfl,?_⟩
      by_cases hcb:mR (acc8 s p c2 (m-1))=true
      · rw[if_pos hcb];exact good (λ_=>by omega) (λ_=>by omega) (hch.1 hcb)
      · rw[if_neg hcb];exact bad (.inr (.inr (λh=>hcb (hch.2 h))))
    rw[if_neg m4]
    refine HC.mono jS ?_
    rintro _ A' ⟨rfl,hA'⟩
    subst hA'
    refine⟨_,rfl,?_⟩
    by_cases hcb:mR (acc8 s p c2 (m-1))=true
    · rw[if_pos hcb];exact good (λ_=>by omega) (λ_=>by omega) (hch.1 hcb)
    · rw[if_neg hcb];exact bad (.inr (.inr (λh=>hcb (hch.2 h))))
  · rw[if_neg hlt]
    have hpe:p=s.size:=by omega
    subst hpe
    have hvt:Lib.validD s.data.toList=true:=by
      rw[<-hv,List.drop_eq_nil_of_le (by simp)];rfl
    rw[gD (by omega),List.append_nil]at hr
    subst hr
    exact hR _ _ ⟨B,_,c,by rw[hvt],λ_=>⟨rfl,how,hy⟩,eA⟩

theorem rJ{c:Nat}(hv:Utf8.valid (c:Int)=true):(Utf8.encode (c:Int)).data.toList=Lib.encodeRune (c:Int):=by
 have hc:=(iq c).1 hv
 unfold Utf8.encode Lib.encodeRune
 simp only[hv,if_true,Int.toNat_natCast]
 have u: ∀(a:Nat) (z:Int),z=(a:Int)->UInt8.ofNat a=z.toNat.toUInt8:=λa z h=>by subst h;simp
 by_cases h1:c<128
 ·rw[if_pos h1,Lib.encodeRuneZ_one (by omega) (by omega)]
  simp only[List.map_cons,List.map_nil]
  rw[<-u c _ rfl]
 rw[if_neg h1]
 by_cases h2:c<2048
 ·rw[if_pos h2,Lib.encodeRuneZ_two (by omega) (by omega)]
  simp only[List.map_cons,List.map_nil]
  rw[<-u (192+c / 64) _ (by omega),<-u (128+c % 64) _ (by omega)]
 rw[if_neg h2]
 by_cases h3:c<65536
 ·rw[if_pos h3,Lib.encodeRuneZ_three (by omega)]
  simp only[List.map_cons,List.map_nil]
  rw[<-u (224+c / 4096) _ (by omega),<-u (128+c / 64 % 64) _ (by omega),<-u (128+c % 64) _ (by omega)]
 rw[if_neg h3,Lib.encodeRuneZ_four (by omega) (by omega)]
 simp only[List.map_cons,List.map_nil]
 rw[<-u (240+c / 262144) _ (by omega),<-u (128+c / 4096 % 64) _ (by omega),<-u (128+c / 64 % 64) _ (by omega),<-u (128+c % 64) _ (by omega)]
theorem rK(s:ByteArray): ∀(n p:Nat),s.size-p<=n->Lib.validD (s.data.toList.drop p)=true->(catR (fe s p)).data.toList=s.data.toList.drop p:=by
 intro n
 induction n with
 | zero=>
  intro p hn hv
  have hz:s.data.toList.length=s.size:=by simp
  rw[gD (by omega),List.drop_eq_nil_of_le (by omega)]
  rfl
 | succ n ih=>
  intro p hn hv
  by_cases hp:p<s.size
  ·have hva:=lR hp
   rw[hv]at hva
   cases hr:fR s p with
   | none=>rw[hr]at hva;cases hva
   | some ck=>
    obtain⟨c,k⟩:=ck
    rw[hr]at hva
    have hd:Utf8.decode s p=(c,k):=by rw[jR,hr];rfl
    have hs:=kr hr
    have hvl:Utf8.valid ((c,k).1:Int)=true:=hd▸ko s p
    have hvl:Utf8.valid (c:Int)=true:=hvl
    have hst:fe s p=(c:Int)::fe s (p+k):=by
     have:=gO hp
     rw[hd]at this;exact this
    rw[hst]
    have ih2:=ih (p+k) (by omega) hva.symm
    have hne:s.data.toList.drop p≠[]:=λh1=>by
     have h2:=congrArg List.length h1
     have h3:s.data.toList.length=s.size:=by simp
     rw[List.length_drop,h3]at h2
     have h4:s.size-p=0:=h2
     omega
    have hed:=Lib.encode_decode _ hne (by rw[jt,hd];exact hs.1)
    rw[jt,hd]at hed
    have hcat:(catR ((c:Int)::fe s (p+k))).data.toList=(Utf8.encode (c:Int)).data.toList++(catR (fe s (p+k))).data.toList:=by
     show(Utf8.encode (c:Int)++catR (fe s (p+k))).data.toList=_
     rw[ByteArray.data_append,Array.toList_append]
    rw[hcat,ih2,rJ hvl,hed]
    show(s.data.toList.drop p).take k++s.data.toList.drop (p+k)=_
    rw[<-List.drop_drop,List.take_append_drop]
  ·have hz:s.data.toList.length=s.size:=by simp
   rw[gD hp,List.drop_eq_nil_of_le (by omega)]
   rfl
theorem oT{s:ByteArray}(h:Lib.validD s.data.toList=true):fY (aX s)=s:=by
 rw[nr]
 have:=rK s s.size 0 (by omega) (by simpa using h)
 rw[List.drop_zero]at this
 unfold aX
 exact ByteArray.ext (Array.toList_inj.1 this)
theorem oU{s:ByteArray}(h:Lib.validD s.data.toList=true):gX (aX s)=s:=by
 rw[kq (lQ s),oT h]
