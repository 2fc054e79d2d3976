/-
 Is a text well formed? (unicode/utf8.ValidString, of any bytes.) Proves nothing of any one statement.
-/
import Derived.Lib.ValidAsc
import Derived.Test.YtibpklpgmgakcaaGreatDoorRow
import Derived.Test.YtibpklpgmgakcaaGreatDoorFunicodeutf8
set_option linter.unusedVariables false
set_option linter.unusedSimpArgs false
namespace Go.Proofs.YtibpklpgmgakcaaGreatDoor
open Go

structure Tabs8 (H:Array Obj):Prop where
 first: ∀c:Nat,c<256->hat H ((Addr.mk 0 0 none).add c)=some (.int .u8 (Lib.firstT c:Nat))
 acc: ∀i:Nat,i<16->RowAt H ((Addr.mk 1 0 none).add (i*2)) 0 [.int .u8 (Lib.accLo i:Nat),.int .u8 (Lib.accHi i:Nat)]
theorem Tabs8.ext{H H':Array Obj}(h:Tabs8 H)(e:Ext H H'):Tabs8 H':=⟨λc hc=>e.hat (h.first c hc),λi hi=>e.rowAt (h.acc i hi)⟩
theorem ba_get(s:ByteArray){i:Nat}(h:i<s.size):s[i]?=some (s.get! i):=by
 rw[getElem?_pos s i h]
 show some s.data[i]=some s.data[i]!
 rw[getElem!_pos s.data i h]
theorem ba_getD(s:ByteArray)(i:Nat):s.data.toList.getD i 0=s.get! i:=by
 show s.data.toList.getD i 0=s.data[i]!
 rcases Nat.lt_or_ge i s.data.size with h | h
 ·rw[getElem!_pos s.data i h,List.getD_eq_getElem?_getD,List.getElem?_eq_getElem (by simpa using h)];simp
 ·rw[getElem!_neg s.data i (by omega),List.getD_eq_getElem?_getD,List.getElem?_eq_none (by simpa using h)];rfl
theorem or_step{x b:Int}(k:Nat)(ki p:Int)(hki:ki=k)(hp:p=2 ^ k)(hk:k<=56)(hx:0<=x/\x<p)(hb:0<=b/\b<256):ior .u64 x (ishl .u64 (IntKind.wrap .u64 b) ki)=x+b*p:=by
 subst hki
 have hpos:(0:Int)<p:=by omega
 have hle:p<=72057594037927936:=by
  have h1:(2:Nat) ^ k<=2 ^ 56:=Nat.pow_le_pow_right (by decide) hk
  have h2:((2 ^ k:Nat):Int)=p:=by rw[hp];simp
  have h3:(2:Nat) ^ 56=72057594037927936:=by decide
  omega
 have hbp:b*p<=255*p:=Int.mul_le_mul_of_nonneg_right (by omega) (by omega)
 have hb0:0<=b*p:=Int.mul_nonneg hb.1 (by omega)
 rw[wu64 (n:=b) (by omega),ishl_u64 (k:Int) k rfl (by omega),<-hp,Int.emod_eq_of_lt hb0 (by omega)]
 have h1:ior .u64 x (b*p)=ior .u64 (b*p) x:=by rw[ior_u64 ⟨hx.1,by omega⟩ ⟨hb0,by omega⟩,ior_u64 ⟨hb0,by omega⟩ ⟨hx.1,by omega⟩,Nat.or_comm]
 rw[h1,ior_add (x:=b*p) k ⟨hb0,by omega⟩ (by rw[<-hp];exact Int.mul_emod_left b p) (by rw[<-hp];exact hx) (by omega),Int.add_comm]
def word8(s:ByteArray):Nat:=Lib.leNat [s.get! 0,s.get! 1,s.get! 2,s.get! 3,s.get! 4,s.get! 5,s.get! 6,s.get! 7]
theorem word8_lt(s:ByteArray):word8 s<18446744073709551616:=Lib.word_lt s
theorem mask8(a:Nat)(h:a<18446744073709551616):iand .u64 (a:Int) 9259542123273814144=((a &&& 9259542123273814144:Nat):Int):=by
 rw[iand_u64 (by omega) (by decide)];rfl
theorem or8(a b:Nat)(ha:a<18446744073709551616)(hb:b<18446744073709551616):ior .u64 (a:Int) (b:Int)=((a ||| b:Nat):Int)/\a ||| b<18446744073709551616:=
 ⟨by rw[ior_u64 (by omega) (by omega)];rfl,Nat.or_lt_two_pow (n:=64) ha hb⟩
theorem utf8_word_c{H:Array Obj}{s:ByteArray}(h8:8<=s.size):unicode_utf8_word_string.C s H (λv H'=>v=.int .u64 (word8 s:Nat)/\H=H'):=by
 refine HC.via λR hR=>unicode_utf8_word_string.link ?_
 unfold unicode_utf8_word_string.pt
 refine⟨s.get! 0,⟨by decide,ba_get s (by omega)⟩,s.get! 1,⟨by decide,ba_get s (by omega)⟩,s.get! 2,⟨by decide,ba_get s (by omega)⟩,s.get! 3,⟨by decide,ba_get s (by omega)⟩,s.get! 4,⟨by decide,ba_get s (by omega)⟩,s.get! 5,⟨by decide,ba_get s (by omega)⟩,s.get! 6,⟨by decide,ba_get s (by omega)⟩,s.get! 7,⟨by decide,ba_get s (by omega)⟩,?_⟩
 refine hR _ _ ⟨?_,rfl⟩
 unfold word8
 simp only[Lib.leNat]
 generalize h0:s.get! 0=c0
 generalize h1:s.get! 1=c1
 generalize h2:s.get! 2=c2
 generalize h3:s.get! 3=c3
 generalize h4:s.get! 4=c4
 generalize h5:s.get! 5=c5
 generalize h6:s.get! 6=c6
 generalize h7:s.get! 7=c7
 have l0:=c0.toNat_lt
 have l1:=c1.toNat_lt
 have l2:=c2.toNat_lt
 have l3:=c3.toNat_lt
 have l4:=c4.toNat_lt
 have l5:=c5.toNat_lt
 have l6:=c6.toNat_lt
 have l7:=c7.toNat_lt
 generalize c0.toNat=n0 at*
 generalize c1.toNat=n1 at*
 generalize c2.toNat=n2 at*
 generalize c3.toNat=n3 at*
 generalize c4.toNat=n4 at*
 generalize c5.toNat=n5 at*
 generalize c6.toNat=n6 at*
 generalize c7.toNat=n7 at*
 rw[wu64 (n:=(n0:Int)) (by omega)]
 have e1:=or_step (x:=(n0:Int)) (b:=(n1:Int)) 8 8 256 rfl (by decide) (by decide) (by omega) (by omega)
 have e2:=or_step (x:=(n0:Int)+(n1:Int)*256) (b:=(n2:Int)) 16 16 65536 rfl (by decide) (by decide) (by omega) (by omega)
 have e3:=or_step (x:=(n0:Int)+(n1:Int)*256+(n2:Int)*65536) (b:=(n3:Int)) 24 24 16777216 rfl (by decide) (by decide) (by omega) (by omega)
 have e4:=or_step (x:=(n0:Int)+(n1:Int)*256+(n2:Int)*65536+(n3:Int)*16777216) (b:=(n4:Int)) 32 32 4294967296 rfl (by decide) (by decide) (by omega) (by omega)
 have e5:=or_step (x:=(n0:Int)+(n1:Int)*256+(n2:Int)*65536+(n3:Int)*16777216+(n4:Int)*4294967296) (b:=(n5:Int)) 40 40 1099511627776 rfl (by decide) (by decide) (by omega) (by omega)
 have e6:=or_step (x:=(n0:Int)+(n1:Int)*256+(n2:Int)*65536+(n3:Int)*16777216+(n4:Int)*4294967296+(n5:Int)*1099511627776) (b:=(n6:Int)) 48 48 281474976710656 rfl (by decide) (by decide) (by omega) (by omega)
 have e7:=or_step (x:=(n0:Int)+(n1:Int)*256+(n2:Int)*65536+(n3:Int)*16777216+(n4:Int)*4294967296+(n5:Int)*1099511627776+(n6:Int)*281474976710656) (b:=(n7:Int)) 56 56 72057594037927936 rfl (by decide) (by decide) (by omega) (by omega)
 rw[e1,e2,e3,e4,e5,e6,e7]
 congr 1
 omega
theorem asc8{s:ByteArray}(h8:8<=s.size):(word8 s &&& 9259542123273814144=0) ↔ Lib.Asc s 8:=Lib.word_asc s h8
theorem asc_word{s:ByteArray}(h8:8<=s.size)(h:(iand .u64 ((word8 s:Nat):Int) 9259542123273814144==0)=true):Lib.Asc s 8:=by
 rw[mask8 _ (word8_lt s),beq_iff_eq]at h
 exact(asc8 h8).1 (by omega)
theorem asc_words{s:ByteArray}(h16:16<=s.size)(h:(iand .u64 (ior .u64 ((word8 s:Nat):Int) ((word8 (s.extract 8 s.size):Nat):Int)) 9259542123273814144==0)=true):Lib.Asc s 16:=by
 obtain⟨e1,e2⟩:=or8 _ _ (word8_lt s) (word8_lt (s.extract 8 s.size))
 rw[e1,mask8 _ e2,beq_iff_eq]at h
 obtain⟨h1,h2⟩:=(Lib.or_mask _ _ _).1 (show(word8 s ||| word8 (s.extract 8 s.size)) &&& 9259542123273814144=0 by omega)
 exact Lib.asc_add s 8 8 ((asc8 (by omega)).1 h1) ((asc8 (by rw[Lib.ext_size];omega)).1 h2)
theorem asc_words4{s:ByteArray}(h32:32<=s.size)(h:iand .u64 (ior .u64 (ior .u64 ((word8 s:Nat):Int) ((word8 (s.extract 8 s.size):Nat):Int)) (ior .u64 ((word8 (s.extract 16 s.size):Nat):Int) ((word8 (s.extract 24 s.size):Nat):Int))) 9259542123273814144=0):Lib.Asc s 32:=by
 obtain⟨e1,l1⟩:=or8 _ _ (word8_lt s) (word8_lt (s.extract 8 s.size))
 obtain⟨e2,l2⟩:=or8 _ _ (word8_lt (s.extract 16 s.size)) (word8_lt (s.extract 24 s.size))
 obtain⟨e3,l3⟩:=or8 _ _ l1 l2
 rw[e1,e2,e3,mask8 _ l3]at h
 obtain⟨h1,h2⟩:=(Lib.or_mask _ _ _).1 (show((word8 s ||| word8 (s.extract 8 s.size)) ||| (word8 (s.extract 16 s.size) ||| word8 (s.extract 24 s.size))) &&& 9259542123273814144=0 by omega)
 obtain⟨g0,g1⟩:=(Lib.or_mask _ _ _).1 h1
 obtain⟨g2,g3⟩:=(Lib.or_mask _ _ _).1 h2
 have a16:Lib.Asc s 16:=Lib.asc_add s 8 8 ((asc8 (by omega)).1 g0) ((asc8 (by rw[Lib.ext_size];omega)).1 g1)
 have a24:Lib.Asc s 24:=Lib.asc_add s 16 8 a16 ((asc8 (by rw[Lib.ext_size];omega)).1 g2)
 exact Lib.asc_add s 24 8 a24 ((asc8 (by rw[Lib.ext_size];omega)).1 g3)
theorem first_cases(n:Nat):ishr .u8 ((Lib.firstT n:Nat):Int) 4=((Lib.firstT n / 16:Nat):Int)/\IntKind.wrap .i64 (iand .u8 ((Lib.firstT n:Nat):Int) 7)=((Lib.firstT n % 8:Nat):Int)/\Lib.firstT n / 16<16:=by
 have h:Lib.firstT n=240\/Lib.firstT n=241\/Lib.firstT n=2\/Lib.firstT n=19\/Lib.firstT n=3\/Lib.firstT n=35\/Lib.firstT n=52\/Lib.firstT n=4\/Lib.firstT n=68:=by
  unfold Lib.firstT
  repeat' split
  all_goals simp
 rcases h with h | h | h | h | h | h | h | h | h<;>rw[h]<;>exact⟨by kernel_rfl,by kernel_rfl,by decide⟩
theorem chk2(n b1 b2 b3 lo hi:Nat):Lib.checkN n b1 b2 b3 2 lo hi=if n<2\/b1<lo\/hi<b1 then none else some 2:=by unfold Lib.checkN;rw[if_pos rfl]
theorem chk3(n b1 b2 b3 lo hi:Nat):Lib.checkN n b1 b2 b3 3 lo hi=if n<3\/b1<lo\/hi<b1\/b2<128\/191<b2 then none else some 3:=by unfold Lib.checkN;rw[if_neg (by decide),if_pos rfl]
theorem chk4(n b1 b2 b3 lo hi:Nat):Lib.checkN n b1 b2 b3 4 lo hi=if n<4\/b1<lo\/hi<b1\/b2<128\/191<b2\/b3<128\/191<b3 then none else some 4:=by unfold Lib.checkN;rw[if_neg (by decide),if_neg (by decide),if_pos rfl]
theorem chkNo(n b1 b2 b3 sz lo hi:Nat)(h2:sz≠2)(h3:sz≠3)(h4:sz≠4):Lib.checkN n b1 b2 b3 sz lo hi=none:=by unfold Lib.checkN;rw[if_neg h2,if_neg h3,if_neg h4]
set_option maxRecDepth 100000 in
theorem ValidString_c{H:Array Obj}{s:ByteArray}(T:Tabs8 H)(hs:s.size<=1000000):unicode_utf8_ValidString.C s H (λv H'=>v=.bool (Lib.validD s.data.toList)/\Ext H H'):=by
 refine HC.via λR hR=>unicode_utf8_ValidString.link ?_
 unfold unicode_utf8_ValidString.pt
 refine⟨λt A=>Lib.validD t.data.toList=Lib.validD s.data.toList/\t.size<=s.size/\Ext H A,λt _=>t.size,⟨rfl,Nat.le_refl _,Ext.refl _⟩,?_⟩
 rintro t A ⟨hv,hsz,eA⟩
 by_cases h0:(t.size:Int)>0
 ·rw[if_pos h0]
  have h0':0<t.size:=by omega
  have l0:=(t.get! 0).toNat_lt
  refine⟨t.get! 0,⟨by decide,ba_get t h0'⟩,?_⟩
  by_cases ha:(((t.get! 0).toNat:Nat):Int)<128
  ·rw[if_pos ha]
   have a1:Lib.Asc t 1:=Lib.asc_one t h0' (by omega)
   have z1:=Lib.ext_size t 1
   have v1:=(Lib.valid_skip t 1 a1).trans hv
   refine⟨1,t.size,rfl,rfl,by omega,by omega,?_⟩
   generalize t.extract 1 t.size=t1 at z1 v1⊢
   refine⟨λq B=>(q=true->Lib.Asc t1 8/\8<t1.size)/\Ext H B,?_,?_⟩
   ·by_cases c8:(t1.size:Int)>8
    ·rw[if_pos c8]
     refine HC.mono (utf8_word_c (by omega)) ?_
     rintro _ B ⟨rfl,hB⟩
     subst hB
     exact⟨_,rfl,λhq=>⟨asc_word (by omega) hq,by omega⟩,eA⟩
    ·rw[if_neg c8];exact⟨(λh=>by cases h),eA⟩
   rintro q B ⟨hq,eB⟩
   refine⟨λu C=>Lib.validD u.data.toList=Lib.validD s.data.toList/\u.size<t.size/\Ext H C,?_,?_⟩
   ·by_cases hqt:q=true
    ·rw[if_pos hqt]
     obtain⟨a8,s8⟩:=hq hqt
     have z2:=Lib.ext_size t1 8
     have v2:=(Lib.valid_skip t1 8 a8).trans v1
     refine⟨8,t1.size,rfl,rfl,by omega,by omega,?_⟩
     generalize t1.extract 8 t1.size=t2 at z2 v2⊢
     refine⟨λq B=>(q=true->Lib.Asc t2 16/\16<t2.size)/\Ext H B,?_,?_⟩
     ·by_cases c16:(t2.size:Int)>16
      ·rw[if_pos c16]
       refine⟨8,t2.size,rfl,rfl,by omega,by omega,?_⟩
       refine HC.mono (utf8_word_c (by omega)) ?_
       rintro _ C ⟨rfl,hC⟩
       subst hC
       refine⟨_,rfl,HC.mono (utf8_word_c (by rw[Lib.ext_size];omega)) ?_⟩
       rintro _ D ⟨rfl,hD⟩
       subst hD
       exact⟨_,rfl,λhq=>⟨asc_words (by omega) hq,by omega⟩,eB⟩
      ·rw[if_neg c16];exact⟨(λh=>by cases h),eB⟩
     rintro q2 B2 ⟨hq2,eB2⟩
     by_cases hq2t:q2=true
     ·rw[if_pos hq2t]
      obtain⟨a16,s16⟩:=hq2 hq2t
      have z3:=Lib.ext_size t2 16
      have v3:=(Lib.valid_skip t2 16 a16).trans v2
      refine⟨16,t2.size,rfl,rfl,by omega,by omega,?_⟩
      generalize t2.extract 16 t2.size=t3 at z3 v3⊢
      refine⟨λu C=>Lib.validD u.data.toList=Lib.validD s.data.toList/\u.size<=t3.size/\Ext H C,λu _=>u.size,⟨v3,Nat.le_refl _,eB2⟩,?_⟩
      rintro u U ⟨vu,hu,eU⟩
      by_cases c32:(u.size:Int)>32
      ·rw[if_pos c32]
       refine⟨8,u.size,rfl,rfl,by omega,by omega,16,u.size,rfl,rfl,by omega,by omega,24,u.size,rfl,rfl,by omega,by omega,?_⟩
       refine HC.mono (utf8_word_c (by omega)) ?_
       rintro _ U1 ⟨rfl,h1⟩
       subst h1
       refine⟨_,rfl,HC.mono (utf8_word_c (by rw[Lib.ext_size];omega)) ?_⟩
       rintro _ U2 ⟨rfl,h2⟩
       subst h2
       refine⟨_,rfl,HC.mono (utf8_word_c (by rw[Lib.ext_size];omega)) ?_⟩
       rintro _ U3 ⟨rfl,h3⟩
       subst h3
       refine⟨_,rfl,HC.mono (utf8_word_c (by rw[Lib.ext_size];omega)) ?_⟩
       rintro _ U4 ⟨rfl,h4⟩
       subst h4
       refine⟨_,rfl,?_⟩
       by_cases hz:iand .u64 (ior .u64 (ior .u64 ((word8 u:Nat):Int) ((word8 (u.extract 8 u.size):Nat):Int)) (ior .u64 ((word8 (u.extract 16 u.size):Nat):Int) ((word8 (u.extract 24 u.size):Nat):Int))) 9259542123273814144=0
       ·rw[if_pos hz]
        have a32:=asc_words4 (by omega) hz
        have z4:=Lib.ext_size u 32
        refine⟨32,u.size,rfl,rfl,by omega,by omega,⟨(Lib.valid_skip u 32 a32).trans vu,by omega,eU⟩,?_⟩
        show(u.extract 32 u.size).size<u.size
        omega
       ·rw[if_neg hz];exact⟨vu,by omega,eU⟩
      ·rw[if_neg c32];exact⟨vu,by omega,eU⟩
     ·rw[if_neg hq2t];exact⟨v2,by omega,eB2⟩
    ·rw[if_neg hqt];exact⟨v1,by omega,eB⟩
   rintro u B2 ⟨vu,hu,eu⟩
   exact⟨⟨vu,by omega,eu⟩,hu⟩
  ·rw[if_neg ha]
   have hne:t.data.toList≠[]:=λh=>by
    have h1:=congrArg List.length h
    have h2:t.data.toList.length=t.size:=by simp
    rw[h2]at h1
    have h3:t.size=0:=h1
    omega
   have hlen:t.data.toList.length=t.size:=by simp
   have hlead:=Lib.validD_lead t.data.toList hne (by rw[ba_getD];omega)
   simp only[ba_getD,hlen]at hlead
   have hg: ∀{i:Nat},i<t.size->t[i]?=some (t.get! i):=λh=>ba_get t h
   generalize hc0:t.get! 0=c0 at*
   generalize hc1:t.get! 1=c1 at*
   generalize hc2:t.get! 2=c2 at*
   generalize hc3:t.get! 3=c3 at*
   obtain⟨f1,f2,f3⟩:=first_cases c0.toNat
   have TA:=T.ext eA
   have k1:=TA.first c0.toNat l0
   have k2:=TA.acc (Lib.firstT c0.toNat / 16) f3
   generalize Lib.firstT c0.toNat=X at*
   generalize Lib.accLo (X / 16)=lo at*
   generalize Lib.accHi (X / 16)=hi at*
   refine⟨⟨by omega,by omega⟩,(X:Int),by rw[show Int.toNat ((c0.toNat:Nat):Int)*1=c0.toNat by omega];exact k1,?_⟩
   rw[f1]
   refine⟨⟨by omega,by omega⟩,(lo:Int),(hi:Int),by rw[show Int.toNat ((X / 16:Nat):Int)*2=X / 16*2 by omega];exact k2,λb H13 hb hH13=>?_⟩
   obtain⟨cp,p14⟩:=box_new (n:=2) (vs:=[.int .u8 (lo:Int),.int .u8 (hi:Int)]) hb hH13 rfl rfl
   refine⟨cp,λH14 hH14=>?_⟩
   obtain⟨g14,e14⟩:=p14 H14 hH14
   have eH:=eA.trans e14
   have rlo:hat H14 (Addr.mk b 0 none)=some (.int .u8 (lo:Int)):=by rw[hat_blk g14];rfl
   have rhi:hat H14 ((Addr.mk b 0 none).add 1)=some (.int .u8 (hi:Int)):=by rw[box_get g14 1];rfl
   rw[f2]
   have no: ∀{o:Option Nat},Lib.checkN t.size c1.toNat c2.toNat c3.toNat (X % 8) lo hi=o->o=none->R (.bool false) H14:=λh1 h2=>hR _ _ ⟨by rw[<-hv,hlead,h1,h2],eH⟩
   have go: ∀{k:Nat},Lib.checkN t.size c1.toNat c2.toNat c3.toNat (X % 8) lo hi=some k->Lib.validD (t.extract k t.size).data.toList=Lib.validD s.data.toList:=λh=>by rw[<-hv,hlead,h,Lib.ext_list]
   by_cases s2:X % 8=2
   ·rw[if_pos (show((X % 8:Nat):Int)=2 by omega)]
    rw[s2,chk2]at no go
    by_cases q0:(t.size:Int)<2
    ·rw[if_pos q0];exact no rfl (if_pos (by omega))
    rw[if_neg q0]
    have g1:t[Int.toNat 1]?=some c1:=hc1▸ba_get t (show 1<t.size by omega)
    refine⟨c1,⟨by decide,g1⟩,_,rlo,?_⟩
    by_cases q1:((c1.toNat:Nat):Int)< (lo:Int)
    ·rw[if_pos q1];exact no rfl (if_pos (by omega))
    rw[if_neg q1]
    refine⟨_,rhi,c1,⟨by decide,g1⟩,?_⟩
    by_cases q2:(hi:Int)< ((c1.toNat:Nat):Int)
    ·rw[if_pos q2];exact no rfl (if_pos (by omega))
    rw[if_neg q2]
    have z:=Lib.ext_size t 2
    refine⟨2,t.size,rfl,rfl,by omega,by omega,⟨go (if_neg (by omega)),by omega,eH⟩,?_⟩
    show(t.extract 2 t.size).size<t.size
    omega
   rw[if_neg (show¬((X % 8:Nat):Int)=2 by omega)]
   by_cases s3:X % 8=3
   ·rw[if_pos (show((X % 8:Nat):Int)=3 by omega)]
    rw[s3,chk3]at no go
    by_cases q0:(t.size:Int)<3
    ·rw[if_pos q0];exact no rfl (if_pos (by omega))
    rw[if_neg q0]
    have g1:t[Int.toNat 1]?=some c1:=hc1▸ba_get t (show 1<t.size by omega)
    have g2:t[Int.toNat 2]?=some c2:=hc2▸ba_get t (show 2<t.size by omega)
    refine⟨c1,⟨by decide,g1⟩,_,rlo,?_⟩
    by_cases q1:((c1.toNat:Nat):Int)< (lo:Int)
    ·rw[if_pos q1];exact no rfl (if_pos (by omega))
    rw[if_neg q1]
    refine⟨_,rhi,c1,⟨by decide,g1⟩,?_⟩
    by_cases q2:(hi:Int)< ((c1.toNat:Nat):Int)
    ·rw[if_pos q2];exact no rfl (if_pos (by omega))
    rw[if_neg q2]
    refine⟨c2,⟨by decide,g2⟩,?_⟩
    by_cases q3:((c2.toNat:Nat):Int)<128
    ·rw[if_pos q3];exact no rfl (if_pos (by omega))
    rw[if_neg q3]
    refine⟨c2,⟨by decide,g2⟩,?_⟩
    by_cases q4:191< ((c2.toNat:Nat):Int)
    ·rw[if_pos q4];exact no rfl (if_pos (by omega))
    rw[if_neg q4]
    have z:=Lib.ext_size t 3
    refine⟨3,t.size,rfl,rfl,by omega,by omega,⟨go (if_neg (by omega)),by omega,eH⟩,?_⟩
    show(t.extract 3 t.size).size<t.size
    omega
   rw[if_neg (show¬((X % 8:Nat):Int)=3 by omega)]
   by_cases s4:X % 8=4
   ·rw[if_pos (show((X % 8:Nat):Int)=4 by omega)]
    rw[s4,chk4]at no go
    by_cases q0:(t.size:Int)<4
    ·rw[if_pos q0];exact no rfl (if_pos (by omega))
    rw[if_neg q0]
    have g1:t[Int.toNat 1]?=some c1:=hc1▸ba_get t (show 1<t.size by omega)
    have g2:t[Int.toNat 2]?=some c2:=hc2▸ba_get t (show 2<t.size by omega)
    have g3:t[Int.toNat 3]?=some c3:=hc3▸ba_get t (show 3<t.size by omega)
    refine⟨c1,⟨by decide,g1⟩,_,rlo,?_⟩
    by_cases q1:((c1.toNat:Nat):Int)< (lo:Int)
    ·rw[if_pos q1];exact no rfl (if_pos (by omega))
    rw[if_neg q1]
    refine⟨_,rhi,c1,⟨by decide,g1⟩,?_⟩
    by_cases q2:(hi:Int)< ((c1.toNat:Nat):Int)
    ·rw[if_pos q2];exact no rfl (if_pos (by omega))
    rw[if_neg q2]
    refine⟨c2,⟨by decide,g2⟩,?_⟩
    by_cases q3:((c2.toNat:Nat):Int)<128
    ·rw[if_pos q3];exact no rfl (if_pos (by omega))
    rw[if_neg q3]
    refine⟨c2,⟨by decide,g2⟩,?_⟩
    by_cases q4:191< ((c2.toNat:Nat):Int)
    ·rw[if_pos q4];exact no rfl (if_pos (by omega))
    rw[if_neg q4]
    refine⟨c3,⟨by decide,g3⟩,?_⟩
    by_cases q5:((c3.toNat:Nat):Int)<128
    ·rw[if_pos q5];exact no rfl (if_pos (by omega))
    rw[if_neg q5]
    refine⟨c3,⟨by decide,g3⟩,?_⟩
    by_cases q6:191< ((c3.toNat:Nat):Int)
    ·rw[if_pos q6];exact no rfl (if_pos (by omega))
    rw[if_neg q6]
    have z:=Lib.ext_size t 4
    refine⟨4,t.size,rfl,rfl,by omega,by omega,⟨go (if_neg (by omega)),by omega,eH⟩,?_⟩
    show(t.extract 4 t.size).size<t.size
    omega
   rw[if_neg (show¬((X % 8:Nat):Int)=4 by omega)]
   exact no (chkNo _ _ _ _ _ _ _ s2 s3 s4) rfl
 ·rw[if_neg h0]
  refine hR _ _ ⟨?_,eA⟩
  rw[<-hv]
  have hlen:t.data.toList.length=t.size:=by simp
  rw[List.length_eq_zero_iff.1 (show t.data.toList.length=0 by omega)]
  rfl
end Go.Proofs.YtibpklpgmgakcaaGreatDoor
