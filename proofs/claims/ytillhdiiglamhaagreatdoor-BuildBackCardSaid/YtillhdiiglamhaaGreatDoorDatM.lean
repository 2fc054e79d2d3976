/-
 Is a text well formed? (unicode/utf8.ValidString, of any bytes.) Proves nothing of any one statement.
-/
import Derived.Lib.ValidAsc
import Derived.Test.YtillhdiiglamhaaGreatDoorFtrace2
import Derived.Test.YtillhdiiglamhaaGreatDoorListsM
import Derived.Lib.MapLaws
set_option linter.unusedVariables false
set_option linter.unusedSimpArgs false
set_option maxRecDepth 100000
namespace Go.Proofs.YtillhdiiglamhaaGreatDoor
open Go
open Int(toNat)
theorem F1:type_of% @ByteArray.ext:=@ByteArray.ext
theorem Fd:type_of% @Lib.ext_size:=@Lib.ext_size
variable{a:Int}{H:zV}
structure lA (H:zV):Prop where
 first: ∀c:Nat,c<256->hat H ((Addr.mk 0 0 none).add c)=some (.int .u8 (Lib.firstT c:Nat))
 acc: ∀i:Nat,i<16->aI H ((Addr.mk 1 0 none).add (i*2)) 0 [.int .u8 (Lib.accLo i:Nat),.int .u8 (Lib.accHi i:Nat)]
theorem lA.ext{a:zV}(h:lA H)(e:Ext H a):lA a:=⟨λc b=>e.hat (h.first c b),λi d=>e.rowAt (h.acc i d)⟩
theorem jm(s:ByteArray){i:Nat}(h:i<s.size):s[i]?=some (s.get! i):=by
 rw[getElem?_pos s i h];show some s.data[i]=some s.data[i]!;rw[getElem!_pos s.data i h]
theorem pR(s:ByteArray)(i:Nat):s.data.toList.getD i 0=s.get! i:=by
 show s.data.toList.getD i 0=s.data[i]!;rcases EC i s.data.size with h | h
 ·rw[getElem!_pos s.data i h,List.getD_eq_getElem?_getD,List.getElem?_eq_getElem (by simpa using h)];simp
 ·rw[getElem!_neg s.data i GF,List.getD_eq_getElem?_getD,List.getElem?_eq_none (by simpa using h)];rfl
theorem mm{x b:Int}(k:Nat)(h p:Int)(d:h=k)(c:p=2 ^ k)(hk:k<=56)(e:0<=x/\x<p)(j:0<=b/\b<256):mp .u64 x (k8 .u64 (IntKind.wrap .u64 b) h)=x+b*p:=by
 subst d;have g:(0:Int)<p:=GF
 have m:p<=72057594037927936:=by
  have f:(2:Nat) ^ k<=2 ^ 56:=Gq GG hk;have o:((2 ^ k:Nat):Int)=p:=by rw[c];simp
  have q:(2:Nat) ^ 56=72057594037927936:=GG;omega
 have l:b*p<=255*p:=Int.mul_le_mul_of_nonneg_right GF GF;have a:0<=b*p:=Int.mul_nonneg j.1 GF;rw[BN (n:=b) GF,kt (k:Int) k rfl GF,<-c,Fu a GF];have f:mp .u64 x (b*p)=mp .u64 (b*p) x:=by rw[mb ⟨e.1,GF⟩ ⟨a,GF⟩,mb ⟨a,GF⟩ ⟨e.1,GF⟩,Nat.or_comm]
 rw[f,lI (x:=b*p) k ⟨a,GF⟩ (by rw[<-c];exact Int.mul_emod_left b p) (by rw[<-c];exact e) GF,Int.add_comm]
def jV(s:ByteArray):Nat:=Lib.leNat [s.get! 0,s.get! 1,s.get! 2,s.get! 3,s.get! 4,s.get! 5,s.get! 6,s.get! 7]
theorem lD(s:ByteArray):jV s<18446744073709551616:=Lib.word_lt s
theorem yw(a:Nat)(h:a<18446744073709551616):l3 .u64 (a:Int) 9259542123273814144=((a &&& 9259542123273814144:Nat):Int):=by
 rw[tR GF GG];rfl
theorem Dz(a b:Nat)(c:a<18446744073709551616)(d:b<18446744073709551616):mp .u64 (a:Int) (b:Int)=((a ||| b:Nat):Int)/\a ||| b<18446744073709551616:=
 ⟨by rw[mb GF GF];rfl,Nat.or_lt_two_pow (n:=64) c d⟩
theorem jy{s:ByteArray}(P:8<=s.size):aX.C s H (λv t=>v=vu (jV s:Nat)/\H=t):=by
 refine Ei λR E=>aX.link ?_;unfold aX.pt;refine⟨s.get! 0,⟨GG,jm s GF⟩,s.get! 1,⟨GG,jm s GF⟩,s.get! 2,⟨GG,jm s GF⟩,s.get! 3,⟨GG,jm s GF⟩,s.get! 4,⟨GG,jm s GF⟩,s.get! 5,⟨GG,jm s GF⟩,s.get! 6,⟨GG,jm s GF⟩,s.get! 7,⟨GG,jm s GF⟩,?_⟩;refine E _ _ ⟨?_,rfl⟩;unfold jV;simp only[Lib.leNat];generalize G:s.get! 0=h;generalize I:s.get! 1=j;generalize J:s.get! 2=k;generalize K:s.get! 3=l;generalize L:s.get! 4=m;generalize M:s.get! 5=o;generalize N:s.get! 6=p;generalize O:s.get! 7=q;have Q:=h.toNat_lt;have T:=j.toNat_lt;have U:=k.toNat_lt;have V:=l.toNat_lt;have W:=m.toNat_lt;have X:=o.toNat_lt;have Y:=p.toNat_lt;have Z:=q.toNat_lt;generalize h.toNat=a at*;generalize j.toNat=c at*;generalize k.toNat=d at*;generalize l.toNat=e at*;generalize m.toNat=f at*;generalize o.toNat=g at*;generalize p.toNat=r at*;generalize q.toNat=F at*;rw[BN (n:=(a:Int)) GF];have u:=mm (x:=(a:Int)) (b:=(c:Int)) 8 8 256 rfl GG GG GF GF;have w:=mm (x:=(a:Int)+(c:Int)*256) (b:=(d:Int)) 16 16 65536 rfl GG GG GF GF;have y:=mm (x:=(a:Int)+(c:Int)*256+(d:Int)*65536) (b:=(e:Int)) 24 24 16777216 rfl GG GG GF GF;have z:=mm (x:=(a:Int)+(c:Int)*256+(d:Int)*65536+(e:Int)*16777216) (b:=(f:Int)) 32 32 4294967296 rfl GG GG GF GF;have A:=mm (x:=(a:Int)+(c:Int)*256+(d:Int)*65536+(e:Int)*16777216+(f:Int)*4294967296) (b:=(g:Int)) 40 40 1099511627776 rfl GG GG GF GF;have B:=mm (x:=(a:Int)+(c:Int)*256+(d:Int)*65536+(e:Int)*16777216+(f:Int)*4294967296+(g:Int)*1099511627776) (b:=(r:Int)) 48 48 281474976710656 rfl GG GG GF GF;have D:=mm (x:=(a:Int)+(c:Int)*256+(d:Int)*65536+(e:Int)*16777216+(f:Int)*4294967296+(g:Int)*1099511627776+(r:Int)*281474976710656) (b:=(F:Int)) 56 56 72057594037927936 rfl GG GG GF GF;rw[u,w,y,z,A,B,D];congr 1;omega
theorem Cu{s:ByteArray}(a:8<=s.size):(jV s &&& 9259542123273814144=0) ↔ Lib.Asc s 8:=Lib.word_asc s a
theorem yy{s:ByteArray}(a:8<=s.size)(h:(l3 .u64 ((jV s:Nat):Int) 9259542123273814144==0)=true):Lib.Asc s 8:=by
 rw[yw _ (lD s),Fc]at h;exact(Cu a).1 GF
theorem xf{s:ByteArray}(d:16<=s.size)(h:(l3 .u64 (mp .u64 ((jV s:Nat):Int) ((jV (s.extract 8 s.size):Nat):Int)) 9259542123273814144==0)=true):Lib.Asc s 16:=by
 obtain⟨a,b⟩:=Dz _ _ (lD s) (lD (s.extract 8 s.size));rw[a,yw _ b,Fc]at h;obtain⟨c,e⟩:=(Lib.or_mask _ _ _).1 (show(jV s ||| jV (s.extract 8 s.size)) &&& 9259542123273814144=0 by omega);exact Lib.asc_add s 8 8 ((Cu GF).1 c) ((Cu (by rw[Fd];omega)).1 e)
theorem vx{s:ByteArray}(n:32<=s.size)(h:l3 .u64 (mp .u64 (mp .u64 ((jV s:Nat):Int) ((jV (s.extract 8 s.size):Nat):Int)) (mp .u64 ((jV (s.extract 16 s.size):Nat):Int) ((jV (s.extract 24 s.size):Nat):Int))) 9259542123273814144=0):Lib.Asc s 32:=by
 obtain⟨c,o⟩:=Dz _ _ (lD s) (lD (s.extract 8 s.size));obtain⟨d,p⟩:=Dz _ _ (lD (s.extract 16 s.size)) (lD (s.extract 24 s.size));obtain⟨e,q⟩:=Dz _ _ o p;rw[c,d,e,yw _ q]at h;obtain⟨l,m⟩:=(Lib.or_mask _ _ _).1 (show((jV s ||| jV (s.extract 8 s.size)) ||| (jV (s.extract 16 s.size) ||| jV (s.extract 24 s.size))) &&& 9259542123273814144=0 by omega);obtain⟨f,g⟩:=(Lib.or_mask _ _ _).1 l;obtain⟨j,k⟩:=(Lib.or_mask _ _ _).1 m;have a:Lib.Asc s 16:=Lib.asc_add s 8 8 ((Cu GF).1 f) ((Cu (by rw[Fd];omega)).1 g);have b:Lib.Asc s 24:=Lib.asc_add s 16 8 a ((Cu (by rw[Fd];omega)).1 j);exact Lib.asc_add s 24 8 b ((Cu (by rw[Fd];omega)).1 k)
theorem ut(n:Nat):o0 .u8 ((Lib.firstT n:Nat):Int) 4=((Lib.firstT n / 16:Nat):Int)/\IntKind.wrap .i64 (l3 .u8 ((Lib.firstT n:Nat):Int) 7)=((Lib.firstT n % 8:Nat):Int)/\Lib.firstT n / 16<16:=by
 have h:Lib.firstT n=240\/Lib.firstT n=241\/Lib.firstT n=2\/Lib.firstT n=19\/Lib.firstT n=3\/Lib.firstT n=35\/Lib.firstT n=52\/Lib.firstT n=4\/Lib.firstT n=68:=by
  unfold Lib.firstT
  repeat' split
  all_goals simp
 rcases h with h | h | h | h | h | h | h | h | h<;>rw[h]<;>exact⟨GE,GE,GG⟩
theorem Ec(n a d e c b:Nat):Lib.checkN n a d e 2 c b=if n<2\/a<c\/b<a then none else some 2:=by unfold Lib.checkN;rw[ka rfl]
theorem DT(n a b e d c:Nat):Lib.checkN n a b e 3 d c=if n<3\/a<d\/c<a\/b<128\/191<b then none else some 3:=by unfold Lib.checkN;rw[kb GG,ka rfl]
theorem Ea(n a b c e d:Nat):Lib.checkN n a b c 4 e d=if n<4\/a<e\/d<a\/b<128\/191<b\/c<128\/191<c then none else some 4:=by unfold Lib.checkN;rw[kb GG,kb GG,ka rfl]
theorem AM(n b c d a j h:Nat)(e:a≠2)(f:a≠3)(g:a≠4):Lib.checkN n b c d a j h=none:=by unfold Lib.checkN;rw[kb e,kb f,kb g]
theorem nB{s:ByteArray}(T:lA H)(hs:s.size<=1000000):bK.C s H (λv H'=>v=.bool (Lib.validD s.data.toList)/\Ext H H'):=by
 refine Ei λR hR=>bK.link ?_;unfold bK.pt zY;refine⟨λt A=>Lib.validD t.data.toList=Lib.validD s.data.toList/\t.size<=s.size/\Ext H A,λt _=>t.size,⟨rfl,Er _,ED _⟩,?_⟩;rintro t A ⟨hv,bd,P⟩;by_cases h0:(t.size:Int)>0
 ·rw[ka h0];have Y:0<t.size:=GF;have l0:=(t.get! 0).toNat_lt;refine⟨t.get! 0,⟨GG,jm t Y⟩,?_⟩;by_cases ha:(((t.get! 0).toNat:Nat):Int)<128
  ·rw[ka ha];have b0:Lib.Asc t 1:=Lib.asc_one t Y GF;have z1:=Fd t 1;have v1:=(Lib.valid_skip t 1 b0).trans hv;refine⟨1,t.size,rfl,rfl,GF,GF,?_⟩;generalize t.extract 1 t.size=y at z1 v1⊢;refine⟨λq B=>(q=true->Lib.Asc y 8/\8<y.size)/\Ext H B,?_,?_⟩
   ·by_cases c8:(y.size:Int)>8
    ·rw[ka c8];refine gc (jy GF) ?_;rintro _ B ⟨rfl,hB⟩;subst hB;exact⟨_,rfl,λhq=>⟨yy GF hq,GF⟩,P⟩
    ·rw[kb c8];exact⟨(λh=>by cases h),P⟩
   rintro q B ⟨hq,eB⟩;refine⟨λu C=>Lib.validD u.data.toList=Lib.validD s.data.toList/\u.size<t.size/\Ext H C,?_,?_⟩
   ·by_cases G:q=true
    ·rw[ka G];obtain⟨b1,s8⟩:=hq G;have z2:=Fd y 8;have v2:=(Lib.valid_skip y 8 b1).trans v1;refine⟨8,y.size,rfl,rfl,GF,GF,?_⟩;generalize y.extract 8 y.size=j at z2 v2⊢;refine⟨λq B=>(q=true->Lib.Asc j 16/\16<j.size)/\Ext H B,?_,?_⟩
     ·by_cases N:(j.size:Int)>16
      ·rw[ka N];refine⟨8,j.size,rfl,rfl,GF,GF,?_⟩;refine gc (jy GF) ?_;rintro _ C ⟨rfl,hC⟩;subst hC;refine⟨_,rfl,gc (jy (by rw[Fd];omega)) ?_⟩;rintro _ D ⟨rfl,hD⟩;subst hD;exact⟨_,rfl,λhq=>⟨xf GF hq,GF⟩,eB⟩
      ·rw[kb N];exact⟨(λh=>by cases h),eB⟩
     rintro f B2 ⟨ag,Q⟩;by_cases e:f=true
     ·rw[ka e];obtain⟨a8,bh⟩:=ag e;have z3:=Fd j 16;have v3:=(Lib.valid_skip j 16 a8).trans v2;refine⟨16,j.size,rfl,rfl,GF,GF,?_⟩;generalize j.extract 16 j.size=t3 at z3 v3⊢;refine⟨λu C=>Lib.validD u.data.toList=Lib.validD s.data.toList/\u.size<=t3.size/\Ext H C,λu _=>u.size,⟨v3,Er _,Q⟩,?_⟩;rintro u U ⟨vu,hu,eU⟩;by_cases O:(u.size:Int)>32
      ·rw[ka O];refine⟨8,u.size,rfl,rfl,GF,GF,16,u.size,rfl,rfl,GF,GF,24,u.size,rfl,rfl,GF,GF,?_⟩;refine gc (jy GF) ?_;rintro _ U1 ⟨rfl,M⟩;subst M;refine⟨_,rfl,gc (jy (by rw[Fd];omega)) ?_⟩;rintro _ U2 ⟨rfl,Z⟩;subst Z;refine⟨_,rfl,gc (jy (by rw[Fd];omega)) ?_⟩;rintro _ U3 ⟨rfl,h3⟩;subst h3;refine⟨_,rfl,gc (jy (by rw[Fd];omega)) ?_⟩;rintro _ U4 ⟨rfl,h4⟩;subst h4;refine⟨_,rfl,?_⟩;by_cases hz:l3 .u64 (mp .u64 (mp .u64 ((jV u:Nat):Int) ((jV (u.extract 8 u.size):Nat):Int)) (mp .u64 ((jV (u.extract 16 u.size):Nat):Int) ((jV (u.extract 24 u.size):Nat):Int))) 9259542123273814144=0
       ·rw[ka hz];have a9:=vx GF hz;have z4:=Fd u 32;refine⟨32,u.size,rfl,rfl,GF,GF,⟨(Lib.valid_skip u 32 a9).trans vu,GF,eU⟩,?_⟩;show(u.extract 32 u.size).size<u.size;omega
       ·rw[kb hz];exact⟨vu,GF,eU⟩
      ·rw[kb O];exact⟨vu,GF,eU⟩
     ·rw[kb e];exact⟨v2,GF,Q⟩
    ·rw[kb G];exact⟨v1,GF,eB⟩
   rintro u B2 ⟨vu,hu,eu⟩;exact⟨⟨vu,GF,eu⟩,hu⟩
  ·rw[kb ha]
   have af:t.data.toList≠[]:=λh=>by
    have M:=Eg List.length h;have Z:t.data.toList.length=t.size:=GH;rw[Z]at M;have h3:t.size=0:=M;omega
   have p:t.data.toList.length=t.size:=GH;have c:=Lib.validD_lead t.data.toList af (by rw[pR];omega);simp only[pR,p]at c;have hg: ∀{i:Nat},i<t.size->t[i]?=some (t.get! i):=λh=>jm t h;generalize bc:t.get! 0=K at*;generalize F:t.get! 1=a at*;generalize a2:t.get! 2=d at*;generalize ae:t.get! 3=E at*;obtain⟨f1,f2,f3⟩:=ut K.toNat;have TA:=T.ext P;have k1:=TA.first K.toNat l0;have k2:=TA.acc (Lib.firstT K.toNat / 16) f3;generalize Lib.firstT K.toNat=X at*;generalize Lib.accLo (X / 16)=r at*;generalize Lib.accHi (X / 16)=m at*;refine⟨⟨GF,GF⟩,(X:Int),by rw[show toNat ((K.toNat:Nat):Int)*1=K.toNat by omega];exact k1,?_⟩;rw[f1];refine⟨⟨GF,GF⟩,(r:Int),(m:Int),by rw[show toNat ((X / 16:Nat):Int)*2=X / 16*2 by omega];exact k2,λb aX hb a0=>?_⟩;obtain⟨cp,ai⟩:=fe (n:=2) (vs:=[.int .u8 (r:Int),.int .u8 (m:Int)]) hb a0 rfl rfl;refine⟨cp,λg a1=>?_⟩;obtain⟨V,aa⟩:=ai g a1;have eH:=P.trans aa;have J:hat g (Addr.mk b 0 none)=some (.int .u8 (r:Int)):=by rw[aW V];rfl
   have I:hat g ((Addr.mk b 0 none).add 1)=some (.int .u8 (m:Int)):=by rw[fu V 1];rfl
   rw[f2];have no: ∀{o:Option Nat},Lib.checkN t.size a.toNat d.toNat E.toNat (X % 8) r m=o->o=none->R VF g:=λM Z=>hR _ _ ⟨by rw[<-hv,c,M,Z],eH⟩;have L: ∀{k:Nat},Lib.checkN t.size a.toNat d.toNat E.toNat (X % 8) r m=some k->Lib.validD (t.extract k t.size).data.toList=Lib.validD s.data.toList:=λh=>by rw[<-hv,c,h,Lib.ext_list]
   by_cases s2:X % 8=2
   ·rw[ka (show((X % 8:Nat):Int)=2 by omega)];rw[s2,Ec]at no L;by_cases w:(t.size:Int)<2
    ·rw[ka w];exact no rfl (ka GF)
    rw[kb w];have l:t[toNat 1]?=some a:=F▸jm t (show 1<t.size by omega);refine⟨a,⟨GG,l⟩,_,J,?_⟩;by_cases x:((a.toNat:Nat):Int)< (r:Int)
    ·rw[ka x];exact no rfl (ka GF)
    rw[kb x];refine⟨_,I,a,⟨GG,l⟩,?_⟩;by_cases f:(m:Int)< ((a.toNat:Nat):Int)
    ·rw[ka f];exact no rfl (ka GF)
    rw[kb f];have z:=Fd t 2;refine⟨2,t.size,rfl,rfl,GF,GF,⟨L (kb GF),GF,eH⟩,?_⟩;show(t.extract 2 t.size).size<t.size;omega
   rw[kb (show ¬((X % 8:Nat):Int)=2 by omega)];by_cases s3:X % 8=3
   ·rw[ka (show((X % 8:Nat):Int)=3 by omega)];rw[s3,DT]at no L;by_cases w:(t.size:Int)<3
    ·rw[ka w];exact no rfl (ka GF)
    rw[kb w];have l:t[toNat 1]?=some a:=F▸jm t (show 1<t.size by omega);have W:t[toNat 2]?=some d:=a2▸jm t (show 2<t.size by omega);refine⟨a,⟨GG,l⟩,_,J,?_⟩;by_cases x:((a.toNat:Nat):Int)< (r:Int)
    ·rw[ka x];exact no rfl (ka GF)
    rw[kb x];refine⟨_,I,a,⟨GG,l⟩,?_⟩;by_cases f:(m:Int)< ((a.toNat:Nat):Int)
    ·rw[ka f];exact no rfl (ka GF)
    rw[kb f];refine⟨d,⟨GG,W⟩,?_⟩;by_cases q3:((d.toNat:Nat):Int)<128
    ·rw[ka q3];exact no rfl (ka GF)
    rw[kb q3];refine⟨d,⟨GG,W⟩,?_⟩;by_cases q4:191< ((d.toNat:Nat):Int)
    ·rw[ka q4];exact no rfl (ka GF)
    rw[kb q4];have z:=Fd t 3;refine⟨3,t.size,rfl,rfl,GF,GF,⟨L (kb GF),GF,eH⟩,?_⟩;show(t.extract 3 t.size).size<t.size;omega
   rw[kb (show ¬((X % 8:Nat):Int)=3 by omega)];by_cases s4:X % 8=4
   ·rw[ka (show((X % 8:Nat):Int)=4 by omega)];rw[s4,Ea]at no L;by_cases w:(t.size:Int)<4
    ·rw[ka w];exact no rfl (ka GF)
    rw[kb w];have l:t[toNat 1]?=some a:=F▸jm t (show 1<t.size by omega);have W:t[toNat 2]?=some d:=a2▸jm t (show 2<t.size by omega);have g3:t[toNat 3]?=some E:=ae▸jm t (show 3<t.size by omega);refine⟨a,⟨GG,l⟩,_,J,?_⟩;by_cases x:((a.toNat:Nat):Int)< (r:Int)
    ·rw[ka x];exact no rfl (ka GF)
    rw[kb x];refine⟨_,I,a,⟨GG,l⟩,?_⟩;by_cases f:(m:Int)< ((a.toNat:Nat):Int)
    ·rw[ka f];exact no rfl (ka GF)
    rw[kb f];refine⟨d,⟨GG,W⟩,?_⟩;by_cases q3:((d.toNat:Nat):Int)<128
    ·rw[ka q3];exact no rfl (ka GF)
    rw[kb q3];refine⟨d,⟨GG,W⟩,?_⟩;by_cases q4:191< ((d.toNat:Nat):Int)
    ·rw[ka q4];exact no rfl (ka GF)
    rw[kb q4];refine⟨E,⟨GG,g3⟩,?_⟩;by_cases q5:((E.toNat:Nat):Int)<128
    ·rw[ka q5];exact no rfl (ka GF)
    rw[kb q5];refine⟨E,⟨GG,g3⟩,?_⟩;by_cases q6:191< ((E.toNat:Nat):Int)
    ·rw[ka q6];exact no rfl (ka GF)
    rw[kb q6];have z:=Fd t 4;refine⟨4,t.size,rfl,rfl,GF,GF,⟨L (kb GF),GF,eH⟩,?_⟩;show(t.extract 4 t.size).size<t.size;omega
   rw[kb (show ¬((X % 8:Nat):Int)=4 by omega)];exact no (AM _ _ _ _ _ _ _ s2 s3 s4) rfl
 ·rw[kb h0];refine hR _ _ ⟨?_,P⟩;rw[<-hv];have p:t.data.toList.length=t.size:=GH;rw[Gf.1 (show t.data.toList.length=0 by omega)];rfl
theorem u8(n:Nat)(h:n<256):(UInt8.ofNat n).toNat=n:=by
 simp[UInt8.toNat_ofNat'];omega
section
variable {S:ByteArray} {i:Nat}
end
def oP(r:Int):Prop:=Utf8.valid r=true
theorem oP.nat(h:oP a):0<=a/\a<=1114111:=by
 unfold oP Utf8.valid at h;simp only[EU,EF,Ex]at h;omega
def Ct:List Int->ByteArray
 | []=>ByteArray.empty
 | r::rs=>Utf8.encode r++Ct rs
theorem yz(a b c:ByteArray):a++b++c=a++(b++c):=by
 apply F1;simp[ByteArray.data_append,Array.append_assoc]
theorem Aw(a:ByteArray):a++ByteArray.empty=a:=by
 apply F1;simp[ByteArray.data_append]
theorem Ax(a:ByteArray):ByteArray.empty++a=a:=by
 apply F1;simp[ByteArray.data_append]
theorem sq: ∀(a:List Int) (s:ByteArray),a.foldl (λs n=>s++Utf8.encode n) s=s++Ct a
 | [],s=>(Aw s).symm
 | r::a,s=>by
  rw[List.foldl_cons,sq a,yz];rfl
theorem tn(a:List Int):jT a=Ct a:=by
 unfold jT;rw[sq,Ax]
theorem om(s:ByteArray)(pos:Nat):Utf8.valid ((Utf8.decode s pos).1:Int)=true:=by
 unfold Utf8.decode;simp only[]
 have a: ∀c:Nat,c<55296->Utf8.valid (c:Int)=true:=λc h=>by
  unfold Utf8.valid;rw[zX (show(0:Int)<=c by omega),zX (show(c:Int)<0xD800 by omega)];rfl
 split
 ·exact a _ GF
 split
 ·split
  ·exact a _ GF
  ·decide
 split
 ·split
  ·rename_i h;simp only[EF]at h;exact h.2
  ·decide
 split
 ·split
  ·rename_i h;simp only[EF]at h;exact h.2
  ·decide
 ·decide
theorem lZ(s:ByteArray): ∀(f pos:Nat),∀r∈runesFrom s f pos,oP r
 | 0,_,r,h=>by simp[runesFrom]at h
 | f+1,pos,r,h=>by
  simp only[runesFrom]at h;by_cases a:pos<s.size
  ·rw[ka a]at h;rcases Ew.1 h with rfl | h
   ·exact om s pos
   ·exact lZ s f _ r h
  ·rw[kb a]at h;simp at h
theorem qB(s:ByteArray): ∀r∈cF s,oP r:=lZ s _ _
theorem oq{a:List Int}(h: ∀r∈a,oP r):kI a=jT a:=by
 unfold kI;congr 1;refine(Gm λx b=>?_).trans (List.map_id _);have:=(h x b).nat;rw[kb GF];rfl
def ud(s:ByteArray)(i:Nat):Nat:=(s.get! i).toNat
theorem mW(s:ByteArray)(i:Nat):ud s i<256:=(s.get! i).toNat_lt
def jN(s:ByteArray)(i:Nat):Option (Nat×Nat):=
  if ud s i<128 then some (ud s i,1)
  else if 194<=ud s i/\ud s i<224 then
    if i+2<=s.size/\ud s (i+1) / 64=2 then some (ud s i % 32*64+ud s (i+1) % 64,2)else none
  else if 224<=ud s i/\ud s i<240 then
    if i+3<=s.size/\ud s (i+1) / 64=2/\ud s (i+2) / 64=2/\2048<=ud s i % 16*4096+ud s (i+1) % 64*64+ud s (i+2) % 64/\(ud s i % 16*4096+ud s (i+1) % 64*64+ud s (i+2) % 64<55296\/57343<ud s i % 16*4096+ud s (i+1) % 64*64+ud s (i+2) % 64)
    then some (ud s i % 16*4096+ud s (i+1) % 64*64+ud s (i+2) % 64,3)else none
  else if 240<=ud s i/\ud s i<245 then
    if i+4<=s.size/\ud s (i+1) / 64=2/\ud s (i+2) / 64=2/\ud s (i+3) / 64=2/\65536<=ud s i % 8*262144+ud s (i+1) % 64*4096+ud s (i+2) % 64*64+ud s (i+3) % 64/\ud s i % 8*262144+ud s (i+1) % 64*4096+ud s (i+2) % 64*64+ud s (i+3) % 64<=1114111
    then some (ud s i % 8*262144+ud s (i+1) % 64*4096+ud s (i+2) % 64*64+ud s (i+3) % 64,4)else none
  else none
theorem lh(c:Nat):Utf8.valid (c:Int)=true ↔ c<55296\/(57343<c/\c<=1114111):=by
  unfold Utf8.valid;simp only[EU,EF,Ex];omega
theorem nQ(s:ByteArray)(i:Nat):Utf8.decode s i=(jN s i).getD (65533,1):=by
  have x:=mW s i;have y:=mW s (i+1);have z:=mW s (i+2);have A:=mW s (i+3);unfold Utf8.decode jN;simp only[Nat.add_zero];have g: ∀j,(s.get! j).toNat=ud s j:=λ_=>rfl;simp only[g];generalize ud s i=a at*;generalize ud s (i+1)=b at*;generalize ud s (i+2)=c at*;generalize ud s (i+3)=d at*;by_cases o:a<128
  · rw[ka o,ka o];rfl
  rw[kb o,kb o];by_cases f:i+1<s.size/\b / 64=2
  case neg=>
    have q:(decide (i+1<s.size) && b / 64==2)=false:=by rw[Bool.eq_false_iff];intro h;simp at h;exact f h
    rw[q];simp only[Bool.and_false,FM,EM,EV];by_cases m:194<=a/\a<224
    · rw[ka m,kb (λh=>f ⟨GF,h.2⟩)];rfl
    rw[kb m];by_cases n:224<=a/\a<240
    · rw[ka n,kb (λh=>f ⟨GF,h.2.1⟩)];rfl
    rw[kb n];by_cases e:240<=a/\a<245
    · rw[ka e,kb (λh=>f ⟨GF,h.2.1⟩)];rfl
    rw[kb e];rfl
  have q:(decide (i+1<s.size) && b / 64==2)=true:=by simp;exact f
  rw[q];simp only[Bool.and_true];by_cases B:192<=a/\a<224
  · rw[ka (by rw[Fc];omega)];by_cases m:194<=a/\a<224
    · rw[ka GF,ka m,ka ⟨GF,f.2⟩];rfl
    · rw[kb GF,kb m,kb GF,kb GF];rfl
  rw[kb (by rw[Fc];omega),kb (show ¬(194<=a/\a<224)by omega)];by_cases l:i+2<s.size/\c / 64=2
  case neg=>
    have r:(decide (i+2<s.size) && c / 64==2)=false:=by rw[Bool.eq_false_iff];intro h;simp at h;exact l h
    rw[r];simp only[Bool.and_false,FM,EM,EV];by_cases n:224<=a/\a<240
    · rw[ka n,kb (λh=>l ⟨GF,h.2.2.1⟩)];rfl
    rw[kb n];by_cases e:240<=a/\a<245
    · rw[ka e,kb (λh=>l ⟨GF,h.2.2.1⟩)];rfl
    rw[kb e];rfl
  have r:(decide (i+2<s.size) && c / 64==2)=true:=by simp;exact l
  rw[r];simp only[Bool.and_true];by_cases u:224<=a/\a<240
  · rw[ka (by rw[Fc];omega),ka u];generalize w:a % 16*4096+b % 64*64+c % 64=v;by_cases k:2048<=v/\(v<55296\/57343<v)
    · rw[ka (by rw[EF,Ex,lh];omega),ka ⟨GF,f.2,l.2,k.1,k.2⟩];rfl
    · rw[kb (by rw[EF,Ex,lh];omega),kb (λh=>k h.2.2.2)];rfl
  rw[kb (by rw[Fc];omega),kb u];by_cases p:i+3<s.size/\d / 64=2
  case neg=>
    have t:(decide (i+3<s.size) && d / 64==2)=false:=by rw[Bool.eq_false_iff];intro h;simp at h;exact p h
    rw[t];simp only[Bool.and_false,FM,EM,EV];by_cases e:240<=a/\a<245
    · rw[ka e,kb (λh=>p ⟨GF,h.2.2.2.1⟩)];rfl
    rw[kb e];rfl
  have t:(decide (i+3<s.size) && d / 64==2)=true:=by simp;exact p
  rw[t];simp only[Bool.and_true];by_cases C:240<=a/\a<248
  · rw[ka (by rw[Fc];omega)];generalize w:a % 8*262144+b % 64*4096+c % 64*64+d % 64=v;by_cases e:240<=a/\a<245
    · rw[ka e];by_cases k:65536<=v/\v<=1114111
      · rw[ka (by rw[EF,Ex,lh];omega),ka ⟨GF,f.2,l.2,p.2,k.1,k.2⟩];rfl
      · rw[kb (by rw[EF,Ex,lh];omega),kb (λh=>k h.2.2.2.2)];rfl
    · rw[kb e,kb (by rw[EF,Ex,lh];omega)];rfl
  rw[kb (by rw[Fc];omega),kb (show ¬(240<=a/\a<245)by omega)];rfl
theorem ot{s:ByteArray}{i c k:Nat}(h:jN s i=some (c,k)): ¬(c=65533/\k=1)/\1<=k:=by
  have f:=mW s i;unfold jN at h;by_cases a:ud s i<128
  · rw[ka a]at h;simp only[EQ,EX]at h;omega
  rw[kb a]at h;by_cases b:194<=ud s i/\ud s i<224
  · rw[ka b]at h;split at h
    · simp only[EQ,EX]at h;omega
    · cases h
  rw[kb b]at h;by_cases d:224<=ud s i/\ud s i<240
  · rw[ka d]at h;split at h
    · simp only[EQ,EX]at h;omega
    · cases h
  rw[kb d]at h;by_cases e:240<=ud s i/\ud s i<245
  · rw[ka e]at h;split at h
    · simp only[EQ,EX]at h;omega
    · cases h
  rw[kb e]at h;cases h
theorem mX(s:ByteArray)(i:Nat):Lib.decodeL (s.data.toList.drop i)=Utf8.decode s i:=by
  have b: ∀k,(ByteArray.mk (s.data.toList.drop i).toArray).get! (0+k)=s.get! (i+k):=λk=>by
    rw[<-pR,<-pR];simp[List.getD_eq_getElem?_getD,List.getElem?_drop]
  have c: ∀k,((0+k< (ByteArray.mk (s.data.toList.drop i).toArray).size)=(i+k<s.size)):=λk=>by
    have a:(ByteArray.mk (s.data.toList.drop i).toArray).size=s.size-i:=by
      show(s.data.toList.drop i).toArray.size=_;simp
    rw[a];exact propext GF
  unfold Lib.decodeL Utf8.decode;simp only[b,c]
theorem qC{s:ByteArray}{i:Nat}(h:i<s.size):Lib.validD (s.data.toList.drop i)=match jN s i with | none=>false | some (_,k)=>Lib.validD (s.data.toList.drop (i+k)):=by
  have a:s.data.toList.drop i≠[]:=λd=>by
    have b:=Eg List.length d;have e:s.data.toList.length=s.size:=GH;rw[F6,e]at b;have g:s.size-i=0:=b;omega
  rw[Lib.validD_step _ a,mX,nQ]
  cases f:jN s i with
  | none=>rfl
  | some p=>
    obtain⟨c,k⟩:=p;have:=(ot f).1;show(if(c=65533/\k=1)then false else _)=_;rw[kb this];show Lib.validD ((s.data.toList.drop i).drop k)=_;rw[FH]
theorem AN:((List.range 256).all λn=>decide (l3 .i32 (n:Int) 31=((n % 32:Nat):Int)) && (decide (l3 .i32 (n:Int) 15=((n % 16:Nat):Int)) && (decide (l3 .i32 (n:Int) 7=((n % 8:Nat):Int)) && ((decide (l3 .u8 (n:Int) 192=128)==decide (n / 64=2)) && decide (IntKind.wrap .i32 (l3 .u8 (n:Int) 63)=((n % 64:Nat):Int))))))=true:=by kernel_rfl
theorem qD{n:Nat}(h:n<256):l3 .i32 (n:Int) 31=((n % 32:Nat):Int)/\l3 .i32 (n:Int) 15=((n % 16:Nat):Int)/\l3 .i32 (n:Int) 7=((n % 8:Nat):Int)/\(l3 .u8 (n:Int) 192=128 ↔ n / 64=2)/\IntKind.wrap .i32 (l3 .u8 (n:Int) 63)=((n % 64:Nat):Int):=by
  have a:=F3.1 AN n (ER.2 h);simp only[EF,Ex,Fc,F2]at a;exact⟨a.1,a.2.1,a.2.2.1,a.2.2.2.1,a.2.2.2.2⟩
theorem zs{y:Int}(d:0<=a/\a<2147483648)(j:a % 64=0)(g:0<=y/\y<64):mp .i32 a y=a+y:=by
  have e: ∀z:Int,0<=z->z<2147483648->(BitVec.ofInt IntKind.i32.bits z).toNat=z.toNat:=λz f h=>by
    rw[Gr];show(z % ((2 ^ 32:Nat):Int)).toNat=_;rw[Fu f (by show z<4294967296;omega)]
  unfold mp;rw[BitVec.toNat_or,e a d.1 d.2,e y g.1 GF];have c:a.toNat=2 ^ 6*(a.toNat / 64):=by show a.toNat=64*_;omega
  have b:y.toNat<2 ^ 6:=by show y.toNat<64;omega
  rw[c,<-Nat.two_pow_add_eq_or_of_lt b,<-c,CQ GF];omega
theorem yA{b:Nat}(e:0<=a/\a<33554432)(d:b<256):mp .i32 (k8 .i32 a 6) (IntKind.wrap .i32 (l3 .u8 ((b:Nat):Int) 63))=a*64+((b % 64:Nat):Int):=by
  have c:k8 .i32 a 6=a*64:=by
    unfold k8;show IntKind.wrap .i32 (a*64)=_;rw[CQ GF]
  rw[c,(qD d).2.2.2.2,zs GF GF GF]
def n4(s:ByteArray)(p:Nat)(c:Int):Nat->Int
  | 0=>c
  | k+1=>n4 s p c k*64+((ud s (p+(k+1)) % 64:Nat):Int)
def Lead(a n:Nat)(c:Int):Prop:=(a<128/\n=1/\c=a)\/((194<=a/\a<224)/\n=2/\c=((a % 32:Nat):Int))\/((224<=a/\a<240)/\n=3/\c=((a % 16:Nat):Int))\/((240<=a/\a<245)/\n=4/\c=((a % 8:Nat):Int))
theorem Lead.n{a n:Nat}{c:Int}(h:Lead a n c):1<=n/\n<=4:=by unfold Lead at h;omega
theorem zt(s:ByteArray)(p:Nat)(f:0<=a/\a<128):(0<=n4 s p a 0/\n4 s p a 0<128)/\(0<=n4 s p a 1/\n4 s p a 1<8192)/\(0<=n4 s p a 2/\n4 s p a 2<524288)/\(0<=n4 s p a 3/\n4 s p a 3<33554432):=by
  have c:n4 s p a 1=a*64+((ud s (p+1) % 64:Nat):Int):=rfl;have d:n4 s p a 2=n4 s p a 1*64+((ud s (p+2) % 64:Nat):Int):=rfl;have e:n4 s p a 3=n4 s p a 2*64+((ud s (p+3) % 64:Nat):Int):=rfl;have b:n4 s p a 0=a:=rfl;omega
theorem tp{s:ByteArray}{p n:Nat}(L:Lead (ud s p) n a)(h:s.size<p+n\/(∃j,1<=j/\j<n/\ud s (p+j) / 64≠2)\/(n=3/\n4 s p a (n-1)<2048)\/(n=4/\n4 s p a (n-1)<65536)\/ ¬(n4 s p a (n-1)<55296\/(57343<n4 s p a (n-1)/\n4 s p a (n-1)<=1114111)))(q:p<s.size):jN s p=none:=by
  have r:=mW s (p+1);unfold jN;rcases L with⟨c,rfl,rfl⟩ | ⟨c,rfl,rfl⟩ | ⟨c,rfl,rfl⟩ | ⟨c,rfl,rfl⟩
  · exfalso;have e:n4 s p ((ud s p:Nat):Int) (1-1)=ud s p:=rfl;rw[e]at h;rcases h with h | ⟨j,f,g,_⟩ | h | h | h<;>omega
  · rw[kb GF,ka c,kb];have e:n4 s p ((ud s p % 32:Nat):Int) (2-1)=((ud s p % 32:Nat):Int)*64+((ud s (p+1) % 64:Nat):Int):=rfl;rw[e]at h;rintro⟨l,d⟩;rcases h with h | ⟨j,f,g,b⟩ | h | h | h
    · omega
    · obtain rfl:j=1:=GF;exact b d
    all_goals omega
  · rw[kb GF,kb GF,ka c,kb];have e:n4 s p ((ud s p % 16:Nat):Int) (3-1)=(((ud s p % 16:Nat):Int)*64+((ud s (p+1) % 64:Nat):Int))*64+((ud s (p+2) % 64:Nat):Int):=rfl;rw[e]at h;rintro⟨l,d,k,m,o⟩;rcases h with h | ⟨j,f,g,b⟩ | h | h | h
    · omega
    · have:j=1\/j=2:=GF;rcases this with rfl | rfl
      · exact b d
      · exact b k
    all_goals omega
  · rw[kb GF,kb GF,kb GF,ka c,kb];have e:n4 s p ((ud s p % 8:Nat):Int) (4-1)=((((ud s p % 8:Nat):Int)*64+((ud s (p+1) % 64:Nat):Int))*64+((ud s (p+2) % 64:Nat):Int))*64+((ud s (p+3) % 64:Nat):Int):=rfl;rw[e]at h;rintro⟨l,d,k,m,o,t⟩;rcases h with h | ⟨j,f,g,b⟩ | h | h | h
    · omega
    · have:j=1\/j=2\/j=3:=GF;rcases this with rfl | rfl | rfl
      · exact b d
      · exact b k
      · exact b m
    all_goals omega
theorem yD{s:ByteArray}{p n:Nat}(L:Lead (ud s p) n a)(f:p+n<=s.size)(b: ∀j,1<=j->j<n->ud s (p+j) / 64=2)(h:n=3->2048<=n4 s p a (n-1))(l:n=4->65536<=n4 s p a (n-1))(o:n4 s p a (n-1)<55296\/(57343<n4 s p a (n-1)/\n4 s p a (n-1)<=1114111)):
    jN s p=some ((n4 s p a (n-1)).toNat,n):=by
  unfold jN;rcases L with⟨q,rfl,rfl⟩ | ⟨q,rfl,rfl⟩ | ⟨q,rfl,rfl⟩ | ⟨q,rfl,rfl⟩
  · rw[ka q];refine Eg (λz:Nat=>some (z,1)) ?_;have e:n4 s p ((ud s p:Nat):Int) (1-1)=ud s p:=rfl;omega
  · have e:n4 s p ((ud s p % 32:Nat):Int) (2-1)=((ud s p % 32:Nat):Int)*64+((ud s (p+1) % 64:Nat):Int):=rfl;rw[kb GF,ka q,ka ⟨f,b 1 GF GF⟩];refine Eg (λz:Nat=>some (z,2)) ?_;omega
  · have e:n4 s p ((ud s p % 16:Nat):Int) (3-1)=(((ud s p % 16:Nat):Int)*64+((ud s (p+1) % 64:Nat):Int))*64+((ud s (p+2) % 64:Nat):Int):=rfl;have k:=h rfl;generalize n4 s p ((ud s p % 16:Nat):Int) (3-1)=Y at*;have c:=b 1 GF GF;have d:=b 2 GF GF;rw[kb GF,kb GF,ka q,ka ⟨f,c,d,GF,GF⟩];refine Eg (λz:Nat=>some (z,3)) ?_;omega
  · have e:n4 s p ((ud s p % 8:Nat):Int) (4-1)=((((ud s p % 8:Nat):Int)*64+((ud s (p+1) % 64:Nat):Int))*64+((ud s (p+2) % 64:Nat):Int))*64+((ud s (p+3) % 64:Nat):Int):=rfl;have m:=l rfl;generalize n4 s p ((ud s p % 8:Nat):Int) (4-1)=Y at*;have c:=b 1 GF GF;have d:=b 2 GF GF;have g:=b 3 GF GF;rw[kb GF,kb GF,kb GF,ka q,ka ⟨f,c,d,g,GF,GF⟩];refine Eg (λz:Nat=>some (z,4)) ?_;omega
def C9(l:List Int):List Value:=l.map (Value.int .i32)
def jW(c:Int):Bool:=((decide (c>=0)) && (decide (c<=1114111))) && ((decide (c<55296)) || (decide (c>57343)))
theorem mn:cJ.C a H (λv b=>v=.bool (jW a)/\H=b):=by
  refine Ei λR c=>cJ.link ?_;unfold cJ.pt;exact c _ _ ⟨rfl,rfl⟩
theorem vy(h:0<=a):jW a=true ↔ (a<55296\/(57343<a/\a<=1114111)):=by
  unfold jW;simp only[EF,EU,Ex];omega
theorem uu{s:ByteArray}(hs:s.size<=1000000):eq.C s H (λv H'=> ∃(B:zW) (n c:Nat),v=.tuple #[vs B n c,.bool (Lib.validD s.data.toList)]/\(Lib.validD s.data.toList=true->n=(cF s).length/\Own H' 21 1 B n c (C9 (cF s))/\ ∀j∈l6 B,H.size<=j)/\Ext H H'):=by
  refine Ei λR hR=>eq.link ?_;unfold eq.pt zY
  refine⟨λB n c i A=> ∃(p:Nat) (z:List Int),i=p/\p<=s.size/\n=z.length/\n<=p/\cF s=z++iH s p/\Own A 21 1 B n c (C9 z)/\(∀j∈l6 B,H.size<=j)/\Lib.validD (s.data.toList.drop p)=Lib.validD s.data.toList/\Ext H A,λ_ _ _ i _=>(s.size-i).toNat,
    ⟨0,[],rfl,GF,rfl,GH,rfl,gW,GH,rfl,ED _⟩,?_⟩
  rintro B n c i A ⟨p,z,rfl,hp,rfl,an,hr,P,hy,hv,D⟩;by_cases N:(p:Int)< (s.size:Int)
  · rw[ka N];have f:p<s.size:=GF
    have no: ∀r,Ext H r->jN s p=none->R (.tuple #[VN,VF]) r:=λr e hn=>by
      have w:=qC f;rw[hn,hv]at w;exact hR _ _ ⟨none,0,0,by rw[w],(λh=>by rw[w]at h;cases h),e⟩
    have l0:=mW s p
    have w0:IntKind.wrap .i32 (((s.get! p).toNat:Nat):Int)=((ud s p:Nat):Int):=by
      show IntKind.wrap .i32 ((ud s p:Nat):Int)=_;rw[CQ GF]
    refine⟨s.get! p,⟨GF,by rw[F4];exact jm s f⟩,λnv a r=> ∃m:Nat,nv=m/\Lead (ud s p) m a/\A=r,?_,?_⟩
    · rw[w0];obtain⟨t1,t2,t3,_⟩:=qD l0;by_cases w:((ud s p:Nat):Int)<128
      · rw[ka w];exact⟨1,rfl,.inl ⟨GF,rfl,rfl⟩,rfl⟩
      rw[kb w];by_cases J:194<=ud s p/\ud s p<224
      · rw[ka (by simp;omega),t1];exact⟨2,rfl,.inr (.inl ⟨J,rfl,rfl⟩),rfl⟩
      rw[kb (by simp;omega)];by_cases h3:224<=ud s p/\ud s p<240
      · rw[ka (by simp;omega),t2];exact⟨3,rfl,.inr (.inr (.inl ⟨h3,rfl,rfl⟩)),rfl⟩
      rw[kb (by simp;omega)];by_cases h4:240<=ud s p/\ud s p<245
      · rw[ka (by simp;omega),t3];exact⟨4,rfl,.inr (.inr (.inr ⟨h4,rfl,rfl⟩)),rfl⟩
      rw[kb (by simp;omega)];refine no A D ?_;unfold jN;rw[kb GF,kb J,kb h3,kb h4]
    rintro _ a r ⟨m,rfl,F,g⟩;subst g;have hm:=F.n;have a0:0<=a/\a<128:=by unfold Lead at F;omega
    have x:=zt s p a0;rw[n5 (n:=(p:Int)+(m:Int)) GF];by_cases y:(p:Int)+(m:Int)>(s.size:Int)
    · rw[ka y];exact no A D (tp F (.inl GF) f)
    rw[kb y];refine⟨λc3 k r=> ∃j:Nat,k=((j+1:Nat):Int)/\j+1<=m/\c3=n4 s p a j/\(∀q,1<=q->q<=j->ud s (p+q) / 64=2)/\A=r,λ_ k _=>(m-k).toNat,⟨0,rfl,GF,rfl,λq w J=>GF,rfl⟩,?_⟩;rintro c3 _ r ⟨j,rfl,M,rfl,hq,g⟩;subst g;by_cases hk:((j+1:Nat):Int)< (m:Int)
    · rw[ka hk,n5 (n:=(p:Int)+((j+1:Nat):Int)) GF];have a2:p+(j+1)<s.size:=GF;have lj:=mW s (p+(j+1));obtain⟨_,_,_,t4,_⟩:=qD lj
      have gj:s[toNat ((p:Int)+((j+1:Nat):Int))]?=some (s.get! (p+(j+1))):=by
        rw[show toNat ((p:Int)+((j+1:Nat):Int))=p+(j+1)by omega];exact jm s a2
      refine⟨s.get! (p+(j+1)),⟨GF,gj⟩,?_⟩;by_cases G:ud s (p+(j+1)) / 64=2
      · rw[ka (show l3 .u8 (((s.get! (p+(j+1))).toNat:Nat):Int) 192=128 from t4.2 G)];refine⟨s.get! (p+(j+1)),⟨GF,gj⟩,?_⟩
        have e:mp .i32 (k8 .i32 (n4 s p a j) 6) (IntKind.wrap .i32 (l3 .u8 (((s.get! (p+(j+1))).toNat:Nat):Int) 63))=n4 s p a (j+1):=by
          have a1:0<=n4 s p a j/\n4 s p a j<33554432:=by
            have:j=0\/j=1\/j=2:=GF;rcases this with rfl | rfl | rfl<;>omega
          exact yA a1 lj
        rw[e];refine⟨⟨j+1,by rw[n5 GF];omega,GF,rfl,λq w J=>?_,rfl⟩,by show((m:Int)-IntKind.wrap .i64 (((j+1:Nat):Int)+1)).toNat< ((m:Int)-((j+1:Nat):Int)).toNat;rw[n5 GF];omega⟩;rcases EC j q with h | h
        · obtain rfl:q=j+1:=GF;exact G
        · exact hq q w h
      · rw[kb (show ¬l3 .u8 (((s.get! (p+(j+1))).toNat:Nat):Int) 192=128 from λh=>G (t4.1 h))];exact no A D (tp F (.inr (.inl ⟨j+1,GF,GF,G⟩)) f)
    rw[kb hk];obtain rfl:j=m-1:=GF
    have h0:0<=n4 s p a (m-1)/\n4 s p a (m-1)<33554432:=by
      have:m=1\/m=2\/m=3\/m=4:=GF;rcases this with rfl | rfl | rfl | rfl
      · exact⟨x.1.1,by have:n4 s p a (1-1)=n4 s p a 0:=rfl;omega⟩
      · exact⟨x.2.1.1,by have:n4 s p a (2-1)=n4 s p a 1:=rfl;omega⟩
      · exact⟨x.2.2.1.1,by have:n4 s p a (3-1)=n4 s p a 2:=rfl;omega⟩
      · exact⟨x.2.2.2.1,x.2.2.2.2⟩
    have t:(m=3/\n4 s p a (m-1)<2048)\/(m=4/\n4 s p a (m-1)<65536)\/ ¬(n4 s p a (m-1)<55296\/(57343<n4 s p a (m-1)/\n4 s p a (m-1)<=1114111))->R (.tuple #[VN,VF]) A:=λh=>no A D (tp F (.inr (.inr h)) f)
    have u:(m=3->2048<=n4 s p a (m-1))->(m=4->65536<=n4 s p a (m-1))->(n4 s p a (m-1)<55296\/(57343<n4 s p a (m-1)/\n4 s p a (m-1)<=1114111))->
        ∀(b:Nat) (W:zV),b=A.size->W=A.push (.cells #[.int .i32 (n4 s p a (m-1))] 21)->
        dY 1 21 4 [.int .i32 0] B z.length c (some (Addr.mk b 0 none)) 1 W (λap Y X=>
         ((∃(I:Nat) (E:List Int),(p:Int)+(m:Int)=I/\I<=s.size/\z.length+1=E.length/\z.length+1<=I/\cF s=E++iH s I/\Own X 21 1 ap (z.length+1) Y (C9 E)/\(∀j∈l6 ap,H.size<=j)/\Lib.validD (s.data.toList.drop I)=Lib.validD s.data.toList/\Ext H X)
          /\((s.size:Int)-((p:Int)+(m:Int))).toNat< ((s.size:Int)-(p:Int)).toNat)):=λq3 q4 q5 b W G K=>by
      have U:=yD F GF (λj w J=>hq j w GF) q3 q4 q5;have Z:Ext A W:=Eh K;refine dE (ys:=[.int .i32 (n4 s p a (m-1))]) (P.ext Z) (cX (aK G K) _ 0 0 (λj M=>GH)) GH rfl rfl GF ?_;intro I c' X Q f6 O;have L:Utf8.decode s p=((n4 s p a (m-1)).toNat,m):=by rw[nQ,U];rfl
      have T:=lc f;rw[L]at T;have V:=qC f;rw[U]at V;refine⟨⟨p+m,z++[n4 s p a (m-1)],GF,GF,GH,GF,?_,by rw[C9,E4];exact Q,λj M=>?_,?_,(D.trans Z).fr_trans f6 (λj M=>hy j M)⟩,GF⟩
      · rw[hr,T,Ft];show _=z++([n4 s p a (m-1)]++iH s (p+m));rw[show(((n4 s p a (m-1)).toNat:Nat):Int)=n4 s p a (m-1)by omega];rfl
      · rcases O j M with h | h
        · exact hy j h
        · have:=D.size;have:=Z.size;omega
      · rw[<-hv];exact V.symm
    have o:=vy h0.1;by_cases m3:(m:Int)=3
    · rw[ka m3];by_cases l:n4 s p a (m-1)<2048
      · rw[ka l];exact t (.inl ⟨GF,l⟩)
      rw[kb l,kb GF];refine gc mn ?_;rintro _ r ⟨rfl,g⟩;subst g;refine⟨_,rfl,?_⟩;by_cases d:jW (n4 s p a (m-1))=true
      · rw[ka d];exact u (λ_=>GF) (λ_=>GF) (o.1 d)
      · rw[kb d];exact t (.inr (.inr (λh=>d (o.2 h))))
    rw[kb m3];by_cases m4:(m:Int)=4
    · rw[ka m4];by_cases l:n4 s p a (m-1)<65536
      · rw[ka l];exact t (.inr (.inl ⟨GF,l⟩))
      rw[kb l];refine gc mn ?_;rintro _ r ⟨rfl,g⟩;subst g;refine⟨_,rfl,?_⟩;by_cases d:jW (n4 s p a (m-1))=true
      · rw[ka d];exact u (λ_=>GF) (λ_=>GF) (o.1 d)
      · rw[kb d];exact t (.inr (.inr (λh=>d (o.2 h))))
    rw[kb m4];refine gc mn ?_;rintro _ r ⟨rfl,g⟩;subst g;refine⟨_,rfl,?_⟩;by_cases d:jW (n4 s p a (m-1))=true
    · rw[ka d];exact u (λ_=>GF) (λ_=>GF) (o.1 d)
    · rw[kb d];exact t (.inr (.inr (λh=>d (o.2 h))))
  · rw[kb N];have a3:p=s.size:=GF;subst a3
    have a6:Lib.validD s.data.toList=true:=by
      rw[<-hv,Fa GH];rfl
    rw[kh GF,E9]at hr;subst hr;exact hR _ _ ⟨B,_,c,by rw[a6],λ_=>⟨rfl,P,hy⟩,D⟩
theorem zu{c:Nat}(f:Utf8.valid (c:Int)=true):(Utf8.encode (c:Int)).data.toList=Lib.encodeRune (c:Int):=by
 have g:=(lh c).1 f;unfold Utf8.encode Lib.encodeRune;simp only[f,EE,F4];have u: ∀(a:Nat) (z:Int),z=(a:Int)->UInt8.ofNat a=z.toNat.toUInt8:=λa z h=>by subst h;simp
 by_cases b:c<128
 ·rw[ka b,Lib.encodeRuneZ_one GF GF];simp only[List.map_cons,List.map_nil];rw[<-u c _ rfl]
 rw[kb b];by_cases d:c<2048
 ·rw[ka d,Lib.encodeRuneZ_two GF GF];simp only[List.map_cons,List.map_nil];rw[<-u (192+c / 64) _ GF,<-u (128+c % 64) _ GF]
 rw[kb d];by_cases e:c<65536
 ·rw[ka e,Lib.encodeRuneZ_three GF];simp only[List.map_cons,List.map_nil];rw[<-u (224+c / 4096) _ GF,<-u (128+c / 64 % 64) _ GF,<-u (128+c % 64) _ GF]
 rw[kb e,Lib.encodeRuneZ_four GF GF];simp only[List.map_cons,List.map_nil];rw[<-u (240+c / 262144) _ GF,<-u (128+c / 4096 % 64) _ GF,<-u (128+c / 64 % 64) _ GF,<-u (128+c % 64) _ GF]
theorem zy(s:ByteArray): ∀(n p:Nat),s.size-p<=n->Lib.validD (s.data.toList.drop p)=true->(Ct (iH s p)).data.toList=s.data.toList.drop p:=by
 intro n
 induction n with
 | zero=>
  intro p hn q;have w:s.data.toList.length=s.size:=GH;rw[kh GF,Fa GF];rfl
 | succ n x=>
  intro p hn q;by_cases j:p<s.size
  ·have a:=qC j;rw[q]at a
   cases g:jN s p with
   | none=>rw[g]at a;cases a
   | some r=>
    obtain⟨c,k⟩:=r;rw[g]at a;have f:Utf8.decode s p=(c,k):=by rw[nQ,g];rfl
    have v:=ot g;have b:Utf8.valid ((c,k).1:Int)=true:=f▸om s p;have b:Utf8.valid (c:Int)=true:=b
    have l:iH s p=(c:Int)::iH s (p+k):=by
     have:=lc j;rw[f]at this;exact this
    rw[l];have m:=x (p+k) GF a.symm
    have h:s.data.toList.drop p≠[]:=λt=>by
     have o:=Eg List.length t;have u:s.data.toList.length=s.size:=GH;rw[F6,u]at o;have y:s.size-p=0:=o;omega
    have e:=Lib.encode_decode _ h (by rw[mX,f];exact v.1);rw[mX,f]at e
    have d:(Ct ((c:Int)::iH s (p+k))).data.toList=(Utf8.encode (c:Int)).data.toList++(Ct (iH s (p+k))).data.toList:=by
     show(Utf8.encode (c:Int)++Ct (iH s (p+k))).data.toList=_;rw[ByteArray.data_append,Array.toList_append]
    rw[d,m,zu b,e];show(s.data.toList.drop p).take k++s.data.toList.drop (p+k)=_;rw[<-FH,List.take_append_drop]
  ·have w:s.data.toList.length=s.size:=GH;rw[kh j,Fa GF];rfl
theorem vz{s:ByteArray}(h:Lib.validD s.data.toList=true):jT (cF s)=s:=by
 rw[tn];have:=zy s s.size 0 GF (by simpa using h);rw[F5]at this;unfold cF;exact F1 (Array.toList_inj.1 this)
end Go.Proofs.YtillhdiiglamhaaGreatDoor
namespace Go.Proofs.YtillhdiiglamhaaGreatDoor
open Go Go.Proofs.Tryz
variable{H:zV}{a:ByteArray}{b:List Int}{d:Addr}{g:Blk}{i:Hp}{j:Int}{k:Nat}{o:zW}
def iP(m:Mem)(w:Int):ByteArray×Int:=
  if m.fieldE w 4 0=0 then(if m.isObj (m.get (w / 8+1+0))/\m.typ (m.get (w / 8+1+0))=2 then(kI (m.objWords (m.get (w / 8+1+0))),0)else(⟨#[]⟩,3))else(⟨#[]⟩,3)
theorem pj{o:Option (Blk×Hp)}(V:View H (some d) o)(i:aO j):
    jk.C (some d) j H (λv g=>v=.tuple #[.string (iP (nc o) j).1,vi (iP (nc o) j).2]/\Ext H g):=by
  refine Ei λR e=>jk.link ?_;unfold jk.pt;rw[El];refine gc (rZ V i ⟨GG,GG⟩) ?_;rintro _ k ⟨rfl,a⟩;refine⟨_,_,rfl,?_⟩;by_cases h:(nc o).fieldE j 4 0=0
  · rw[ka h,ka h];refine gc (qs (V.ext a) (V.word _)) ?_;rintro v l ⟨c,f⟩;by_cases b:(nc o).isObj ((nc o).get (j / 8+1+0))/\(nc o).typ ((nc o).get (j / 8+1+0))=2
    · rw[ka b]at c;subst c;exact⟨_,_,rfl,e _ _ ⟨by unfold iP;rw[ka h,ka b],a.trans f⟩⟩
    · rw[kb b]at c;subst c;exact⟨_,_,rfl,e _ _ ⟨by unfold iP;rw[ka h,kb b],a.trans f⟩⟩
  · rw[kb h];exact e _ _ ⟨by unfold iP;rw[kb h],a⟩
theorem tt:
    jc.C o H (λv c=> ∃p:Nat,v=.func (.func 146) #[] #[vp (some ⟨p,0,none⟩)]/\c[p]?=some (.cells #[vp o] 31 (0,0))/\H.size<=p/\Ext H c):=by
  refine Ei λR d=>jc.link ?_;unfold jc.pt;intro b f e a;exact d _ _ ⟨b,rfl,aK e a,GF,Eh a⟩
theorem vA{H:zV}{yield:Value}{p:Nat}{hvA:Addr}{o:Option (Blk×Hp)}{sB:zW}{sN sC:Nat}{syl:List Int}{R0:zV->Prop}(Inv:Nat->zV->Prop)
    (hsy:hat H (hvA.add 1)=some (vs sB sN sC)) (hn:sN=syl.length) (hl:syl.length<=1000000) (hw: ∀w∈syl,aO w) (h0:Inv 0 H)
    (hkeep: ∀k A,Inv k A->View A (some hvA) o/\bV A sB (Bi syl)/\A[p]?=some (.cells #[Vq hvA] 31 (0,0)))
    (hext: ∀k A A',Inv k A->Ext A A'->Inv k A')
    (hskip: ∀k (h:k<syl.length) A,Inv k A->(iP (nc o) syl[k]).2≠0->Inv (k+1) A)
    (hstep: ∀k (h:k<syl.length) A,Inv k A->(iP (nc o) syl[k]).2=0->FC prog yield #[vu syl[k],.string (iP (nc o) syl[k]).1] A (λv A'=> ∃x:Bool,v=.bool x/\(x=true->Inv (k+1) A')/\(x=false->R0 A')))
    (hend: ∀A,Inv syl.length A->R0 A):
    iF.C yield (some ⟨p,0,none⟩) H (λv A=>v=.tuple #[]/\R0 A):=by
  subst hn;refine Ei λR hR=>iF.link ?_;unfold iF.pt zY;obtain⟨_,_,hp0⟩:=hkeep 0 H h0;refine⟨_,rfl,some hvA,by rw[aW hp0];rfl,hvA,rfl,sB,syl.length,sC,hsy,λi A=> ∃k:Nat,i=k/\k<=syl.length/\Inv k A,λi _=>(syl.length-i).toNat,⟨0,rfl,GF,h0⟩,?_⟩;rintro i A ⟨k,rfl,hk,hI⟩;by_cases hlt:(k:Int)< (syl.length:Int)
  · rw[ka hlt];have hlt':k<syl.length:=GF;obtain⟨V,hsrc,hp⟩:=hkeep k A hI
    obtain⟨a,rfl,hat'⟩: ∃a,sB=some a/\hat A (a.add (Int.toNat (k:Int)*1))=some (vu syl[k]):=by
      cases sB with
      | none => have h0 : Bi syl = [] := hsrc
                have:=Eg List.length h0;simp[Bi]at this;subst this;simp at hlt'
      | some a=>
        refine⟨a,rfl,?_⟩;rw[show Int.toNat (k:Int)*1=k by omega];have:=gM hsrc k (vu syl[k]) (by simp[Bi,hlt'])
        rwa [Eo]at this
    have hmeas:((syl.length:Int)-IntKind.wrap .i64 ((k:Int)+1)).toNat< ((syl.length:Int)-k).toNat:=by rw[n5 GF];omega
    have hwk:IntKind.wrap .i64 ((k:Int)+1)=((k+1:Nat):Int):=by rw[n5 GF];omega
    refine⟨a,rfl,⟨GF,hlt⟩,syl[k],hat',some hvA,by rw[aW hp];rfl,gc (pj V (hw _ (Eu hlt'))) ?_⟩;rintro _ H2 ⟨rfl,e2⟩;refine⟨_,_,rfl,?_⟩;have hI2:=hext k A H2 hI e2;by_cases hok:(iP (nc o) syl[k]).2=0
    · rw[ka hok];refine(hstep k hlt' H2 hI2 hok).mono ?_;rintro v A' ⟨x,rfl,ht,hf⟩;refine⟨x,rfl,?_⟩;by_cases hx:x=true
      · rw[ka hx];exact⟨⟨k+1,hwk,GF,ht hx⟩,hmeas⟩
      · rw[kb hx];exact hR _ _ ⟨rfl,hf (by simpa using hx)⟩
    · rw[kb hok];exact⟨⟨k+1,hwk,GF,hskip k hlt' H2 hI2 hok⟩,hmeas⟩
  · rw[kb hlt];obtain rfl:k=syl.length:=GF;exact hR _ _ ⟨rfl,hend A hI⟩
def lL(m:Mem)(name:ByteArray)(w:Int):Bool:=decide ((iP m w).2=0) && decide ((iP m w).1.toList=name.toList)
def jQ(m:Mem)(syl:List Int)(name:ByteArray):Option Int:=syl.find? (lL m name)
theorem nR{m:Mem}(h:jQ m b a=none):jQ m (b++[j]) a=if lL m a j=true then some j else none:=by
  unfold jQ at*;rw[List.find?_append,h,Option.none_or];by_cases c:lL m a j=true
  · rw[ka c];simp[c]
  · rw[kb c];simp[c]
theorem vB{m:Mem}(h:jQ m (b.take k) a=some j):jQ m b a=some j:=by
  unfold jQ at*;rw[<-List.take_append_drop k b,List.find?_append,h];rfl
theorem uv{o:Option (Blk×Hp)}{sB:zW}{sC:Nat}{f:List Int}(V:View H (some d) o)
    (aT:hat H (d.add 1)=some (vs sB k sC)) (hn:k=f.length) (a6:bV H sB (Bi f)) (hl:f.length<=1000000) (hw: ∀w∈f,aO w):
    jH.C (some d) a H (λv H'=>v=.tuple #[vu ((jQ (nc o) f a).getD 0),.bool (jQ (nc o) f a).isSome]/\Ext H H'):=by
  refine Ei λR hR=>jH.link ?_;unfold jH.pt;intro b H1 hb P I H2 ax Q U H3 ay S;have e1:Ext H H1:=Eh P;have e2:Ext H1 H2:=Eh Q;have e3:Ext H2 H3:=Eh S;have g:=(e2.trans e3).get (aK hb P);have g2:=e3.get (aK ax Q);have g3:=aK ay S;have s1:H1.size=H.size+1:=by rw[P];simp
  have s2:H2.size=H1.size+1:=by rw[Q];simp
  have s3:H3.size=H2.size+1:=by rw[S];simp
  rw[El];refine gc tt ?_;rintro v m ⟨p,rfl,gp,hp,Y⟩;refine⟨rfl,?_⟩;intro rc z L be T vY hY;have s6:=Y.size;have bf:=aS gp;have Z:Ext (m.push (.deferred (some []))) L:=Eh T;have aB:L[z]?=some (rc .ready none):=aK (by simp;omega) T;have az:L[m.size]?=some (.deferred (some [])):=Z.get (aK rfl rfl);have e7:Ext m L:=(Ext.push m _).trans Z;have s7:L.size=m.size+2:=by rw[T];simp
  have am:Ext H H3:=(e1.trans e2).trans e3;have X:Ext H L:=(am.trans Y).trans e7
  refine FE.of2 (enters_of func146 GE rfl) rfl (gc (vA (p:=p) (λbs A=>jQ (nc o) (f.take bs) a=none/\Ext H A/\L.size<=A.size/\
    Bx [(z,rc .ready none),(m.size,.deferred (some [])),(b,.cells #[.string a] 9 (0,0)),(I,.cells #[vu 0] 37 (0,0)),(U,.cells #[VF] 4 (0,0)),(p,.cells #[Vq d] 31 (0,0))] A)
    (o:=o) (X.hat aT) hn hl hw ?_ ?_ ?_ ?_ ?_ ?_) (λv A h=>h.2))
  · refine⟨rfl,X,Er _,?_⟩;exact .cons aB (.cons az (.cons ((Y.trans e7).get g) (.cons ((Y.trans e7).get g2) (.cons ((Y.trans e7).get g3) (.cons (e7.get gp) .nil)))))
  · rintro bs A ⟨_,x,sA,s⟩;exact⟨V.ext x,a6.ext x,s.nth 5 rfl⟩
  · rintro bs A A' ⟨J,x,sA,s⟩ e;exact⟨J,x.trans e,by have:=e.size;omega,s.ext e⟩
  · rintro bs hk A ⟨J,x,sA,s⟩ aC;refine⟨?_,x,sA,s⟩;rw[EL hk,nR J,kb];unfold lL;rw[zQ aC];simp
  · rintro bs hk A ⟨J,x,sA,s⟩ aN;refine hY f[bs] _ A _ s.head ⟨s.head,λH9 a5=>?_⟩;have f9:Fr [z] A H9:=by rw[a5];exact Ez
    have q9:H9[z]?=some (rc .busy none):=by rw[a5];exact nk s.head
    have u:=s.tail.fr f9 (λq K=>by simp at K;rcases K with rfl | rfl | rfl | rfl | rfl<;>simp<;>omega);refine⟨a,by rw[aW (u.nth 1 rfl)];rfl,?_⟩;have j:jQ (nc o) (f.take (bs+1)) a=if lL (nc o) a f[bs]=true then some f[bs]else none:=by rw[EL hk,nR J]
    by_cases E:(iP (nc o) f[bs]).1.toList=a.toList
    · rw[ka E];rw[ka (by unfold lL;rw[zX aN,zX E];rfl)]at j;have G:=vB j;obtain⟨ai,aV⟩:=ff (vs:=[vu f[bs]]) (u.nth 2 rfl) rfl rfl;refine⟨ai,λaf a1=>?_⟩;obtain⟨ao,l⟩:=aV af a1;obtain⟨aj,aX⟩:=ff (vs:=[VT]) (l.get (by simp;omega) (u.nth 3 rfl)) rfl rfl;refine⟨aj,λW a2=>?_⟩;obtain⟨ap,D⟩:=aX W a2;have a7:=D.get (b:=z) (by simp;omega) (l.get (by simp;omega) q9);refine⟨a7,false,rfl,(λh=>by cases h),λ_=> .inr ⟨nk a7,λr y=>?_⟩⟩;have n:Fr [z] W r:=by rw[y];exact Fr.trans Ez Ez
      have gd:=n.get (b:=m.size) (by simp;omega) (D.get (by simp;omega) (l.get (by simp;omega) (u.nth 0 rfl)));refine⟨gd,?_⟩;have O:Fr [m.size] r (r.setIfInBounds m.size (.deferred none)):=Ez
      have F:Fr [z,I,U,m.size] A (r.setIfInBounds m.size (.deferred none)):=
        ((((f9.mono (λi c _=>by simp at c;simp[c])).trans (l.mono (λi c _=>by simp at c;simp[c]))).trans (D.mono (λi c _=>by simp at c;simp[c]))).trans (n.mono (λi c _=>by simp at c;simp[c]))).trans (O.mono (λi c _=>by simp at c;simp[c]))
      refine⟨f[bs],by rw[aW (O.get (b:=I) (by simp;omega) (n.get (b:=I) (by simp;omega) (D.get (b:=I) (by simp;omega) ao)))];rfl,true,by rw[aW (O.get (b:=U) (by simp;omega) (n.get (b:=U) (by simp;omega) ap))];rfl,hR _ _ ⟨by rw[G];rfl,x.fr_trans F (λi c=>by simp at c;omega)⟩⟩
    · rw[kb E];rw[kb (by unfold lL;rw[zQ E];simp)]at j;refine⟨q9,true,rfl,λ_=>?_,λh=>by cases h⟩;have l:Fr [z] H9 (bR H9 z (rc .ready none)):=Ez;have sz:=f9.size;have bi:=l.size;refine⟨j,(x.fr_trans f9 (λi c=>by simp at c;omega)).fr_trans l (λi c=>by simp at c;omega),GF,.cons (nk q9) (u.fr l (λq K=>by simp at K;rcases K with rfl | rfl | rfl | rfl | rfl<;>simp<;>omega))⟩
  · rintro A ⟨J,x,sA,s⟩;rw[Fq]at J;refine .inl ⟨s.head,λr y=>?_⟩;have n:Fr [z] A r:=by rw[y];exact Ez
    have t:=s.tail.fr n (λq K=>by simp at K;rcases K with rfl | rfl | rfl | rfl | rfl<;>simp<;>omega);obtain⟨ak,b0⟩:=ff (vs:=[vu 0]) (t.nth 2 rfl) rfl rfl;refine⟨ak,λag a3=>?_⟩;obtain⟨au,M⟩:=b0 ag a3;obtain⟨al,b1⟩:=ff (vs:=[VF]) (M.get (by simp;omega) (t.nth 3 rfl)) rfl rfl;refine⟨al,λB a4=>?_⟩;obtain⟨av,N⟩:=b1 B a4;have gd:=N.get (b:=m.size) (by simp;omega) (M.get (by simp;omega) (t.nth 0 rfl));refine⟨gd,?_⟩;have O:Fr [m.size] B (B.setIfInBounds m.size (.deferred none)):=Ez
    have F:Fr [z,I,U,m.size] A (B.setIfInBounds m.size (.deferred none)):=
      (((n.mono (λi c _=>by simp at c;simp[c])).trans (M.mono (λi c _=>by simp at c;simp[c]))).trans (N.mono (λi c _=>by simp at c;simp[c]))).trans (O.mono (λi c _=>by simp at c;simp[c]))
    refine⟨0,by rw[aW (O.get (b:=I) (by simp;omega) (N.get (b:=I) (by simp;omega) au))];rfl,false,by rw[aW (O.get (b:=U) (by simp;omega) av)];rfl,hR _ _ ⟨by rw[J];rfl,x.fr_trans F (λi c=>by simp at c;omega)⟩⟩
def qE(b:Nat)(A:zV):Nat:=match A[b]? with | some (.stringIter s pos)=>s.size-pos | _=>0
theorem pm(B:(cF a).length<=1000000):bD.C a H (λv q=>v=vi ((cF a).length:Int)/\Ext H q):=by
  refine Ei λR s=>bD.link ?_;unfold bD.pt zY;intro b y t g;refine⟨λn A=> ∃(pos k:Nat),n=k/\k<=(cF a).length/\A[b]?=some (.stringIter a pos)/\iH a pos=(cF a).drop k/\Ext H A,λ_ A=>qE b A,⟨0,0,rfl,GF,aK t g,rfl,Eh g⟩,?_⟩;rintro n A ⟨pos,k,rfl,hk,f,c,p⟩;refine⟨a,pos,f,?_⟩;by_cases d:pos<a.size
  · rw[ka d];intro m j;rw[lc d]at c
    have l:k< (cF a).length:=by
      rcases EC k (cF a).length with h | h
      · exact h
      · rw[Fa h]at c;cases c
    rw[Fn l]at c;have r:Fr [b] A m:=by rw[j];exact Ez
    have e:m[b]?=some (.stringIter a (pos+(Utf8.decode a pos).2)):=by rw[j];exact nk f
    refine⟨⟨_,k+1,by rw[n5 GF];omega,GF,e,(List.cons.inj c).2,p.fr_trans r (λi u=>by simp at u;omega)⟩,?_⟩;have z:=nL a pos;have w:qE b m=a.size-(pos+(Utf8.decode a pos).2):=by unfold qE;rw[e]
    have x:qE b A=a.size-pos:=by unfold qE;rw[f]
    show qE b m<qE b A;rw[w,x];omega
  · rw[kb d];rw[kh d]at c
    have o:k=(cF a).length:=by
      have:=Eg List.length c;rw[F6,List.length_nil]at this;omega
    subst o;exact s _ _ ⟨rfl,p⟩
def SyAt(H0 H:zV)(k:Blk)(x:Hp)(syl:List Int):Prop:= ∃(B:zW) (c:Nat),x.sy=vs B syl.length c/\Own H 37 1 B syl.length c (Bi syl)/\(∀i∈l6 B,i ∉ k.all/\H0.size<=i)/\(∀w∈syl,aO w)
def syB(v:Value):List Nat:=match v with | .slice B _ _=>l6 B | _=> []
theorem SyAt.nil{a:zV}{x:Hp}(h:x.sy=VN):SyAt H a g x []:=⟨none,0,h,gW,GH,GH⟩
theorem SyAt.keep{S:List Nat}{p a:zV}{k:Blk}{x j:Hp}{syl:List Int}(h:SyAt H p k x syl)(n:j.sy=x.sy)(f:Fr S p a)(l: ∀i∈S,i∈k.all\/p.size<=i):SyAt H a k j syl:=by
  obtain⟨B,c,e,o,d,m⟩:=h
  exact⟨B,c,n.trans e,o.keep f (λi g h=>by
    rcases l i h with b | b
    · exact(d i g).1 b
    · have:=o.lt i g;omega),d,m⟩
theorem HpAt.syAt(h:HpAt H g i):hat H ⟨g.h,1,none⟩=some i.sy:=by rw[aW h.h];rfl
theorem HpAt.putSy(h:HpAt H g i)(v:Value):aF H ⟨g.h,1,none⟩ 0 1/\HpAt (aL H ⟨g.h,1,none⟩ [v] 0) g {i with sy:=v}/\Fr [g.h] H (aL H ⟨g.h,1,none⟩ [v] 0):=by
  refine⟨cZ h.h _ _ _ GH,?_⟩;rw[dX _ _ _ _ _ h.h];have f:Fr [g.h] H (bR H g.h (.cells (splice #[vp (some ⟨g.c,0,none⟩),i.sy,i.en,vu i.ep] (1+0) [v]) 56 (0,0))):=Ez;refine⟨⟨h.cd.keep f ?_ ?_ ?_ ?_,h.ne,by rw[bL (aS h.h)];rfl⟩,f⟩<;>have:=h.ne<;>simp<;>omega
variable{H i:zV}{b:Nat->Prop}{d:Int}{j:Nat}{o:TypeId}
theorem iV(a:Addr)(n:Nat):(a.add n).block=a.block:=by unfold Addr.add;split<;>rfl
inductive Dt where
 | mk (k c:Int) (neg:Bool) (mag:List Int) (t:ByteArray) (l:List Dt):Dt
variable{a:Dt}{g:List Dt}
theorem Dt.ind{P:Dt->Prop}(h: ∀k c n m t l,(∀x∈l,P x)->P (.mk k c n m t l))(d:Dt):P d:=
 Dt.rec (motive_1:=P) (motive_2:=λl=> ∀x∈l,P x) (λk c n m t l g=>h k c n m t l g) GH (λd r a b x f=>by
  rcases Ew.1 f with e | e
  ·subst e;exact a
  ·exact b x e) d
theorem bV.stay{S:List Nat}{p:zW}{b:List Value}(h:bV H p b)(f:Fr S H i)(c: ∀d∈l6 p,d ∉ S):bV i p b:=by
 cases p with
 | none=>exact h
 | some a=>exact f.rowAt (c _ GH) h
def Dt.kind:Dt->Int | .mk k _ _ _ _ _=>k
def Dt.l:Dt->List Dt | .mk _ _ _ _ _ l=>l
structure Dv where
 kind:Int
 c:Int
 neg:Bool
 mB:zW
 mN:Nat
 mC:Nat
 t:ByteArray
 lB:zW
 lN:Nat
 lC:Nat
variable{k:Dv}
abbrev Dv.cells(v:Dv):List Value:=[vi v.kind,.int .i32 v.c,.bool v.neg,vs v.mB v.mN v.mC,.string v.t,vs v.lB v.lN v.lC]
inductive cD (P:Nat->Prop) (H:zV):Dv->Dt->Prop
 | mk (v:Dv) (k c:Int) (neg:Bool) (mag:List Int) (t:ByteArray) (l:List Dt) (vs:List Dv) (ek:v.kind=k) (ec:v.c=c) (en:v.neg=neg) (et:v.t=t) (hk:BT k) (hc: -2147483648<=c/\c<=2147483647)
  (hm:v.mN=mag.length) (hmc:v.mN<=v.mC) (hmb:v.mN<9223372036854775808) (hsrc:bV H v.mB (Br mag)) (hlm: ∀x∈mag,gK x) (hl:v.lN=l.length) (hlc:v.lN<=v.lC) (hlb:v.lN<9223372036854775808) (hvs:vs.length=l.length)
  (mP:mag≠[]-> ∀i∈l6 v.mB,P i) (lP:l≠[]-> ∀i∈l6 v.lB,P i)
  (row: ∀(i:Nat) (h:i<vs.length),∃a,v.lB=some a/\aI H (a.add (i*6)) 0 vs[i].cells)
  (each: ∀(i:Nat) (h1:i<vs.length) (h2:i<l.length),cD P H vs[i] l[i]):cD P H v (.mk k c neg mag t l)
theorem cD.keep{P Q:Nat->Prop}{S:List Nat}{u:zV}(f:Fr S H u)(y: ∀i∈S,¬P i)(x: ∀i,P i->Q i){v:Dv}{d:Dt}(h:cD P H v d):cD Q u v d:=by
 induction h with
 | mk v k c neg mag t l vs D C E F hk I hm r q e p J o n m B A row w M=>
  refine .mk v k c neg mag t l vs D C E F hk I hm r q ?_ p J o n m (λb i g=>x i (B b i g)) (λb i g=>x i (A b i g)) (λi h=>?_) M
  ·by_cases b:mag=[]
   ·subst b;unfold bV at e⊢
    cases N:v.mB with
    | none=>rfl
    | some a=>exact jS λj v L=>by simp[Br]at L
   ·exact bV.stay e f (λi g s=>y i s (B b i g))
  obtain⟨a,z,K⟩:=row i h;have G:=A (λb=>by subst b;rw[m]at h;simp at h) a.block (by rw[z];simp);exact⟨a,z,f.rowAt (by rw[iV];exact λs=>y _ s G) K⟩
theorem cD.ext{v:Dv}(h:cD b H v a)(e:Ext H i):cD b i v a:=h.keep (S:=[]) e.fr GH (λ_ h=>h)
theorem cD.any{H:zV}{v:Dv}(h:cD b H v a):cD (λ_=>True) H v a:=h.keep (S:=[]) (Ey _ _) GH (λ_ _=>trivial)
structure DBox (H:zV) (b:Nat) (v:Dv):Prop where
 kind:hat H (Addr.mk b 0 none)=some (vi v.kind)
 c:hat H ((Addr.mk b 0 none).add 1)=some (.int .i32 v.c)
 neg:hat H ((Addr.mk b 0 none).add 2)=some (.bool v.neg)
 mag:hat H (((Addr.mk b 0 none).add 2).add 1)=some (vs v.mB v.mN v.mC)
 num:aI H ((Addr.mk b 0 none).add 2) 0 [.bool v.neg,vs v.mB v.mN v.mC]
 t:hat H ((Addr.mk b 0 none).add 4)=some (.string v.t)
 l:hat H ((Addr.mk b 0 none).add 5)=some (vs v.lB v.lN v.lC)
 row:aI H (Addr.mk b 0 none) 0 v.cells
theorem DBox.of{b:Nat×Nat}(g:H[j]?=some (.cells k.cells.toArray o b)):DBox H j k:=by
 have a:aI H (Addr.mk j 0 none) 0 k.cells:=bA g;refine⟨by rw[aW g];rfl,by rw[fu g];rfl,by rw[fu g];rfl,by rw[lW,fu g];rfl,aI.sub 2 a rfl,by rw[fu g];rfl,by rw[fu g];rfl,a⟩
theorem DBox.new{v:Dv}(b:j=H.size)(a:i=H.push (.cells #[vi v.kind,.int .i32 v.c,.bool v.neg,vs v.mB v.mN v.mC,.string v.t,vs v.lB v.lN v.lC] o)):DBox i j v:=.of (aK b a)
theorem E5:type_of% @DBox.new:=@DBox.new
theorem DBox.ext{b:Nat}{v:Dv}(h:DBox H b v)(e:Ext H i):DBox i b v:=
 ⟨e.hat h.kind,e.hat h.c,e.hat h.neg,e.hat h.mag,e.rowAt h.num,e.hat h.t,e.hat h.l,e.rowAt h.row⟩
theorem DBox.keep{S:List Nat}{v:Dv}(h:DBox H j v)(f:Fr S H i)(a:j ∉ S):DBox i j v:=
 ⟨f.hat a h.kind,f.hat (by simpa using a) h.c,f.hat (by simpa using a) h.neg,f.hat (by simpa using a) h.mag,f.rowAt (by simpa using a) h.num,f.hat (by simpa using a) h.t,f.hat (by simpa using a) h.l,f.rowAt a h.row⟩
mutual
def aY:Dt->Int
 | .mk _ _ _ _ _ l=>1+bO l
def bO:List Dt->Int
 | []=>0
 | d::r=>aY d+bO r
end
theorem sr(h: ∀x∈g,1<=aY x):0<=bO g/\(g.length:Int)<=bO g:=by
 induction g with
 | nil=>simp[bO]
 | cons d r b=>
  have c:=h d GH;have e:=b (λx a=>h x (by simp[a]));simp only[bO,List.length_cons];omega
theorem cV(d:Dt):1<=aY d:=by
 induction d using Dt.ind with
 | h k c n m t l a=>have:=sr a;simp only[aY];omega
theorem ir(l:List Dt):0<=bO l/\(l.length:Int)<=bO l:=sr (λx _=>cV x)
theorem j4(h:a∈g):aY a<=bO g:=by
 induction g with
 | nil=>simp at h
 | cons d r b=>
  simp only[bO];have c:=cV d;have f:=(ir r).1;rcases Ew.1 h with e | h
  ·subst e;omega
  ·have:=b h;omega
inductive gP:Dt->Prop
 | mk {k c neg mag t l} (ht:t.size<=1000) (hm:mag.length<=300) (each: ∀x∈l,gP x):gP (.mk k c neg mag t l)
mutual
def jo:Dt->Int->Int
 | .mk _ _ _ mag t l,left=>if 1000<t.size\/300<mag.length then-1 else ke l (left-1)
def ke:List Dt->Int->Int
 | [],left=>left
 | d::r,left=>if 0<=left then ke r (jo d left)else left
end
theorem qF(h:d<0):ke g d=d:=by
 cases g with
 | nil=>rfl
 | cons a r=>simp only[ke];rw[kb GF]
theorem po(h:0<=d):ke (a::g) d=ke g (jo a d):=by
 simp only[ke];rw[ka h]
theorem xg(h: ∀x∈g,∀left,0<=left->(-1<=jo x left/\jo x left<=left)/\(0<=jo x left->gP x/\aY x=left-jo x left)):
  ∀left,-1<=left->(-1<=ke g left/\ke g left<=left)/\(0<=ke g left->(∀x∈g,gP x)/\bO g=left-ke g left):=by
 induction g with
 | nil=>intro left c;simp only[ke];exact⟨⟨c,EN _⟩,λ_=>⟨GH,by simp[bO]⟩⟩
 | cons d r i=>
  intro left c;have i:=i (λx a=>h x (by simp[a]));by_cases b:0<=left
  ·rw[po b];obtain⟨j,k⟩:=h d GH left b;obtain⟨l,m⟩:=i (jo d left) j.1;refine⟨⟨l.1,GF⟩,λf=>?_⟩;obtain⟨n,p⟩:=m f;obtain⟨o,q⟩:=k GF;refine⟨λx a=>?_,by simp only[bO];omega⟩;rcases Ew.1 a with e | a
   ·subst e;exact o
   ·exact n x a
  ·rw[qF GF];exact⟨⟨c,EN _⟩,λf=>absurd f b⟩
theorem ss(d:Dt): ∀left,0<=left->(-1<=jo d left/\jo d left<=left)/\(0<=jo d left->gP d/\aY d=left-jo d left):=by
 induction d using Dt.ind with
 | h k c n m t l i=>
  intro left o;simp only[jo];by_cases a:1000<t.size\/300<m.length
  ·rw[ka a];exact⟨⟨GF,GF⟩,λb=>GF⟩
  ·rw[kb a];obtain⟨e,f⟩:=xg i (left-1) GF;refine⟨⟨e.1,GF⟩,λb=>?_⟩;obtain⟨g,j⟩:=f b;exact⟨.mk GF GF g,by simp only[aY];omega⟩
theorem zB(d:Dt): ∀{P:Nat->Prop} {H:zV} {v:Dv} (D:cD P H v d) {left:Int} (M:0<=left/\left<=3000),
  dG.C v.kind v.c v.neg v.mB v.mN v.mC v.t v.lB v.lN v.lC left H (λw E=>w=vi (jo d left)/\Ext H E):=by
 induction d using Dt.ind with
 | h k c neg mag t l Y=>
 intro P H v D left M
 cases D with
 | mk _ _ _ _ _ _ _ vs ek ec en I hk hc hm U T z S Q O N W mP lP row o=>
 refine Ei λR r=>dG.link ?_;unfold dG.pt zY;intro b F K q;have m:=Eh q;have B:=E5 (v:=v) K q;subst I;refine⟨_,B.t,?_⟩;by_cases x:(v.t.size:Int)>1000
 ·rw[ka x];exact r _ _ ⟨by simp only[jo];rw[ka (.inl GF)],m⟩
 rw[kb x];refine⟨_,_,_,B.mag,?_⟩;by_cases y:(v.mN:Int)>300
 ·rw[ka y];exact r _ _ ⟨by simp only[jo];rw[ka (.inr GF)],m⟩
 rw[kb y];have f:jo (.mk k c neg mag v.t l) left=ke l (left-1):=by simp only[jo];rw[kb GF]
 rw[f]at r;clear f;refine⟨λe i A=>(0<=i/\i<=v.lN)/\(e<=3000/\ -1<=e)/\ke (l.drop i.toNat) e=ke l (left-1)/\Ext F A,λ_ i _=>(v.lN-i).toNat,⟨GF,by rw[n5 GF];omega,by rw[n5 GF];rfl,ED _⟩,?_⟩;rintro e i A ⟨L,s,f,n⟩;have u:=B.ext n;refine⟨_,_,_,u.l,?_⟩;by_cases j:i< (v.lN:Int)
 ·by_cases p:e>=0
  ·rw[ka (by simp[j,p])];obtain⟨a,J,V⟩:=row i.toNat GF;have g:i.toNat<l.length:=GF;refine⟨_,_,_,u.l,a,J,⟨L.1,j⟩,_,_,_,_,_,_,_,_,_,_,(m.trans n).rowAt V,?_⟩;refine gc (Y l[i.toNat] (Eu g) ((o i.toNat GF g).ext (m.trans n)) ⟨p,s.1⟩) ?_;rintro _ Z ⟨rfl,G⟩;have X:=(ss l[i.toNat] e p).1;rw[Fn g,po p]at f;refine⟨_,rfl,⟨by rw[n5 GF];omega,GF,?_,n.trans G⟩,by show((v.lN:Int)-IntKind.wrap .i64 (i+1)).toNat< ((v.lN:Int)-i).toNat;rw[n5 GF];omega⟩;rw[n5 GF,show(i+1).toNat=i.toNat+1 by omega];exact f
  ·rw[kb (by simp[p])];rw[qF GF]at f;exact r _ _ ⟨by rw[<-f],m.trans n⟩
 ·rw[kb (by simp[j])];rw[Fa GF]at f;exact r _ _ ⟨by rw[<-f];rfl,m.trans n⟩
theorem zC{v:Dv}(D:cD b H v a):
  dZ.C v.kind v.c v.neg v.mB v.mN v.mC v.t v.lB v.lN v.lC H (λw f=>(∃q:Bool,w=.bool q/\(q=false->gP a/\aY a<=3000))/\Ext H f):=by
 refine Ei λR j=>dZ.link ?_;unfold dZ.pt;intro p m k d;have e:=Eh d;have B:=E5 (v:=v) k d;refine⟨_,_,_,_,_,_,_,_,_,_,B.row,?_⟩;refine gc (zB a (D.ext e) GG) ?_;rintro _ n ⟨rfl,h⟩;refine⟨_,rfl,j _ _ ⟨⟨_,rfl,λl=>?_⟩,e.trans h⟩⟩;obtain⟨o,g⟩:=ss a 3000 GG;have i:0<=jo a 3000:=by simpa using l
 have:=g i;exact⟨this.1,GF⟩
def mx(a b:Int):Int:=if a<b then b else a
theorem yE{b c:Int}(a:d<=c)(e:b<=c):mx d b<=c:=by unfold mx;split<;>assumption
theorem su(a b:Int):a<=mx a b/\b<=mx a b:=by unfold mx;split<;>omega
theorem Ay(a b:Int):mx a b=max a b:=by unfold mx;rw[Int.max_def];split<;>split<;>omega
theorem AO(a b c:Int):mx (mx a b) c=mx (mx a c) b:=by simp only[Ay];omega
mutual
def bZ:Dt->Int
 | .mk k _ _ _ _ l=>iu k l (if k=8 then 1 else 0)
def iu(k:Int):List Dt->Int->Int
 | [],n=>n
 | x::r,n=>iu k r (mx n (if k=7/\r=[]/\x.kind=7 then bZ x else bZ x+1))
end
def Bf(k:Int)(x:Dt)(r:List Dt):Int:=if k=7/\r=[]/\x.kind=7 then bZ x else bZ x+1
theorem kj(k:Int)(x:Dt)(r:List Dt)(n:Int):iu k (x::r) n=iu k r (mx n (Bf k x r)):=rfl
theorem sv(k:Int): ∀(l:List Dt) (n m:Int),iu k l (mx n m)=mx (iu k l n) m
 | [],n,m=>rfl
 | x::r,n,m=>by rw[kj,kj,AO,sv k r]
theorem xh{k:Int}(h: ∀x∈g,0<=bZ x/\bZ x<=aY x): ∀n,n<=iu k g n/\iu k g n<=mx n (bO g+1):=by
 induction g with
 | nil=>intro n;exact⟨EN _,(su _ _).1⟩
 | cons x r a=>
  intro n;rw[kj];have j:=h x GH;have a:=a (λy d=>h y (by simp[d])) (mx n (Bf k x r));have e:=su n (Bf k x r);have i:Bf k x r<=aY x+1:=by unfold Bf;split<;>omega
  refine⟨GF,Gg a.2 ?_⟩;simp only[bO];have f:=(ir r).1;have c:=cV x;have b:=su n (aY x+bO r+1);refine yE (yE b.1 GF) GF
theorem oQ(d:Dt):0<=bZ d/\bZ d<=aY d:=by
 induction d using Dt.ind with
 | h k c n m t l a=>
  simp only[bZ,aY];have e:=(ir l).1;have h:=xh (k:=k) a (if k=8 then 1 else 0);have b:mx (if k=8 then 1 else 0) (bO l+1)<=1+bO l:=yE (by split<;>omega) GF;refine⟨?_,GF⟩;have:(0:Int)<=if k=8 then 1 else 0:=by split<;>omega
  omega
theorem drop_nil{α:Type}{l:List α}(h:j<l.length):l.drop (j+1)=[] ↔ j+1=l.length:=by
 rw[List.drop_eq_nil_iff];omega
theorem cD.vkind(h:cD b H k a):k.kind=a.kind:=by cases h;simp only[Dt.kind];assumption
theorem uw(d:Dt): ∀{P:Nat->Prop} {H:zV} {v:Dv} (D:cD P H v d) (hl:aY d<=1000000),
  dI.C v.kind v.c v.neg v.mB v.mN v.mC v.t v.lB v.lN v.lC H (λw V=>w=vi (bZ d)/\Ext H V):=by
 induction d using Dt.ind with
 | h k c neg mag t l ih=>
 intro P H v D g
 cases D with
 | mk _ _ _ _ _ _ _ vs L ec en et hk hc hm a5 a4 U a3 a2 a1 a0 a6 mP lP row u=>
 refine Ei λR N=>dI.link ?_;unfold dI.pt zY;intro b K Q y;have s:=Eh y;have B:=E5 (v:=v) Q y;simp only[aY]at g;have X:=ir l;refine⟨λn i A=>(0<=i/\i<=v.lN)/\(0<=n/\n<=2000000)/\iu k (l.drop i.toNat) n=iu k l 0/\Ext K A,λ_ i _=>(v.lN-i).toNat,⟨GF,GF,rfl,ED _⟩,?_⟩;rintro n i A ⟨S,hn,q,r⟩;have E:=B.ext r;refine⟨_,_,_,E.l,?_⟩;by_cases m:i< (v.lN:Int)
 ·rw[ka m];obtain⟨a,O,T⟩:=row i.toNat GF;have j:i.toNat<l.length:=GF;have p:l[i.toNat]∈l:=Eu j;have Y:=j4 p;have Z:=oQ l[i.toNat];have M:=(u i.toNat GF j).ext (s.trans r);refine⟨_,_,_,E.l,a,O,⟨S.1,m⟩,_,_,_,_,_,_,_,_,_,_,(s.trans r).rowAt T,?_⟩;refine gc (ih l[i.toNat] p M GF) ?_;rintro _ W ⟨rfl,J⟩;rw[Fn j,kj]at q;have I:=E.ext J;have w1:IntKind.wrap .i64 (bZ l[i.toNat]+1)=bZ l[i.toNat]+1:=n5 GF;have w2:IntKind.wrap .i64 (i+1)=i+1:=n5 GF;have w3:IntKind.wrap .i64 ((v.lN:Int)-1)=(v.lN:Int)-1:=n5 GF
  have f: ∀x:Int,Bf k l[i.toNat] (l.drop (i.toNat+1))=x->(0<=x/\x<=2000000)->((0<=i+1/\i+1<=(v.lN:Int))/\(0<=(if n<x then x else n)/\(if n<x then x else n)<=2000000)/\iu k (l.drop (i+1).toNat) (if n<x then x else n)=iu k l 0/\Ext K W)/\((v.lN:Int)-(i+1)).toNat< ((v.lN:Int)-i).toNat:=λx hx Q=>by
   refine⟨⟨GF,by split<;>omega,?_,r.trans J⟩,GF⟩;rw[hx]at q;rw[show(i+1).toNat=i.toNat+1 by omega];exact q
  have z:=drop_nil j;refine⟨_,rfl,_,I.kind,?_⟩;rw[L,w1,w2];by_cases F:k=7
  ·rw[ka F];refine⟨_,_,_,I.l,?_⟩;rw[w3];by_cases e:i=(v.lN:Int)-1
   ·rw[ka e];refine⟨_,_,_,I.l,a,O,⟨S.1,m⟩,vs[i.toNat].kind,?_,?_⟩
    ·have:=gM (((s.trans r).trans J).rowAt T) 0 (vi vs[i.toNat].kind) rfl;simpa[mj]using this
    rw[M.vkind];by_cases o:l[i.toNat].kind=7
    ·rw[ka o];exact f _ (by unfold Bf;rw[ka ⟨F,z.2 GF,o⟩]) GF
    ·rw[kb o];exact f _ (by unfold Bf;rw[kb (λh=>o h.2.2)]) GF
   ·rw[kb e];exact f _ (by unfold Bf;rw[kb (λh=>e (by have:=z.1 h.2.1;omega))]) GF
  ·rw[kb F];exact f _ (by unfold Bf;rw[kb (λh=>F h.1)]) GF
 ·rw[kb m];rw[Fa GF]at q;have q:n=iu k l 0:=q;refine⟨_,E.kind,?_⟩;rw[L];by_cases G:k=8
  ·rw[ka G];refine N _ _ ⟨?_,s.trans r⟩
   have:bZ (.mk k c neg mag t l)=mx (iu k l 0) 1:=by
    simp only[bZ];rw[ka G,<-sv];rfl
   rw[this,<-q];rfl
  ·rw[kb G];refine N _ _ ⟨?_,s.trans r⟩;simp only[bZ];rw[kb G,<-q]
theorem ux(d:Dt): ∀{P:Nat->Prop} {H:zV} {v:Dv} (D:cD P H v d) (hl:aY d<=1000000),
  ij.C v.kind v.c v.neg v.mB v.mN v.mC v.t v.lB v.lN v.lC H (λw H'=>w=vi (bZ d)/\Ext H H'):=by
 induction d using Dt.ind with
 | h k c neg mag t l ih=>
 intro P H v D g
 cases D with
 | mk _ _ _ _ _ _ _ vs U ec en et hk hc hm ag af Y ae ac ab aa ai mP lP row u=>
 refine Ei λR hR=>ij.link ?_;unfold ij.pt zY;intro b I W y;have J:=Eh y;have B:=E5 (v:=v) W y;simp only[aY]at g;have a6:=ir l;refine⟨_,B.kind,λn A=>n=(if k=8 then 1 else 0)/\I=A,?_,?_⟩
 ·rw[U];by_cases G:k=8
  ·rw[ka G,ka G];exact⟨rfl,rfl⟩
  ·rw[kb G,kb G];exact⟨rfl,rfl⟩
 rintro r _ ⟨E,rfl⟩;have X:0<=r/\r<=1:=by rw[E];split<;>omega
 have Q:bZ (.mk k c neg mag t l)=iu k l r:=by simp only[bZ];rw[E]
 refine⟨_,_,_,B.l,λn i A=>(0<=i/\i<=v.lN)/\(0<=n/\n<=2000000)/\iu k (l.drop i.toNat) n=iu k l r/\Ext I A,λ_ i _=>(v.lN-i).toNat,⟨GF,GF,rfl,ED _⟩,?_⟩;rintro n i A ⟨hi,hn,q,s⟩;have Z:=B.ext s;by_cases p:i< (v.lN:Int)
 ·rw[ka p];obtain⟨a,ha,hr⟩:=row i.toNat GF;have j:i.toNat<l.length:=GF;have o:l[i.toNat]∈l:=Eu j;have a7:=j4 o;have a8:=oQ l[i.toNat];have V:=(u i.toNat GF j).ext (J.trans s);refine⟨a,ha,⟨hi.1,p⟩,_,_,_,_,_,_,_,_,_,_,(J.trans s).rowAt hr,λb2 H4 O M=>?_⟩;obtain⟨r1,r2⟩:=fe (vs:=vs[i.toNat].cells) (n:=6) O M rfl rfl;refine⟨r1,λH5 N=>?_⟩;obtain⟨g5,L⟩:=r2 H5 N;have T:=DBox.of g5;refine⟨_,_,_,_,_,_,_,_,_,_,T.row,?_⟩;refine gc (ih l[i.toNat] o (V.ext L) GF) ?_;rintro _ H3 ⟨rfl,K⟩;rw[Fn j,kj]at q;have S:=Z.ext (L.trans K);have w1:IntKind.wrap .i64 (bZ l[i.toNat]+1)=bZ l[i.toNat]+1:=n5 GF;have w2:IntKind.wrap .i64 (i+1)=i+1:=n5 GF
  have f: ∀x:Int,Bf k l[i.toNat] (l.drop (i.toNat+1))=x->(0<=x/\x<=2000000)->((0<=i+1/\i+1<=(v.lN:Int))/\(0<=(if n<x then x else n)/\(if n<x then x else n)<=2000000)/\iu k (l.drop (i+1).toNat) (if n<x then x else n)=iu k l r/\Ext I H3)/\((v.lN:Int)-(i+1)).toNat< ((v.lN:Int)-i).toNat:=λx hx W=>by
   refine⟨⟨GF,by split<;>omega,?_,s.trans (L.trans K)⟩,GF⟩;rw[hx]at q;rw[show(i+1).toNat=i.toNat+1 by omega];exact q
  have z:=drop_nil j;refine⟨_,rfl,_,S.kind,?_⟩;rw[U,w1,w2];by_cases F:k=7
  ·rw[ka F];refine⟨_,_,_,S.l,?_⟩;by_cases e:i+1< (v.lN:Int)
   ·rw[ka e];exact f _ (by unfold Bf;rw[kb (λh=>by have:=z.1 h.2.1;omega)]) GF
   ·rw[kb e];refine⟨_,(T.ext K).kind,?_⟩;rw[V.vkind];by_cases m:l[i.toNat].kind=7
    ·rw[ka m];exact f _ (by unfold Bf;rw[ka ⟨F,z.2 GF,m⟩]) GF
    ·rw[kb m];exact f _ (by unfold Bf;rw[kb (λh=>m h.2.2)]) GF
  ·rw[kb F];exact f _ (by unfold Bf;rw[kb (λh=>F h.1)]) GF
 ·rw[kb p];rw[Fa GF]at q;have q:n=iu k l r:=q;exact hR _ _ ⟨by rw[Q,q],J.trans s⟩
theorem mY(s:ByteArray):s.toList=(ByteArray.mk #[]).toList ↔ s.size=0:=by
  rw[Lib.toList_data,Lib.toList_data];constructor
  · intro h;have:s.data.size=0:=by simpa using congrArg List.length h
    exact this
  · intro h;have h:s.data.size=0:=h;rw[Array.size_eq_zero_iff.1 h]
def sw(has:Int)(v:Dv):Prop:=(l3 .i64 has 1=0->v.c=0)/\(l3 .i64 has 2=0->v.neg=false/\v.mN=0)/\(l3 .i64 has 4=0->v.t.size=0)/\(l3 .i64 has 8=0->v.lN=0)
theorem lE{v:Dv}:
    cI.C v.kind v.c v.neg v.mB v.mN v.mC v.t v.lB v.lN v.lC d H (λw D=>(∃q:Bool,w=.bool q/\(q=true ↔ sw d v))/\Ext H D):=by
  refine Ei λR x=>cI.link ?_;unfold cI.pt;intro b f e k;have u:=Eh k;have B:=E5 (v:=v) e k;have no: ¬sw d v->R VF f:=λh=>x _ _ ⟨⟨_,rfl,by simp[h]⟩,u⟩
  have A:(l3 .i64 d 1=0->v.c=0)->(l3 .i64 d 2=0->v.neg=false/\v.mN=0)->(l3 .i64 d 4=0->v.t.size=0)->
      (if l3 .i64 d 8=0 then(∃n:zW,∃j:Nat,∃o:Nat,hat f ((Addr.mk b 0 none).add 5)=some (vs n j o)/\R (.bool ((j:Int)==0)) f)else R VT f):=λi a z=>by
    by_cases h:l3 .i64 d 8=0
    · rw[ka h];refine⟨_,_,_,B.l,x _ _ ⟨⟨_,rfl,?_⟩,u⟩⟩;constructor
      · intro y;exact⟨i,a,z,λ_=>by simpa using y⟩
      · intro y;simp[y.2.2.2 h]
    · rw[kb h];exact x _ _ ⟨⟨_,rfl,by simp;exact⟨i,a,z,λg=>absurd g h⟩⟩,u⟩
  have s:(l3 .i64 d 1=0->v.c=0)->(l3 .i64 d 2=0->v.neg=false/\v.mN=0)->
      (if l3 .i64 d 4=0 then(∃p:ByteArray,hat f ((Addr.mk b 0 none).add 4)=some (.string p)/\
        if p.toList=(ByteArray.mk #[]).toList then(if l3 .i64 d 8=0 then(∃n:zW,∃j:Nat,∃o:Nat,hat f ((Addr.mk b 0 none).add 5)=some (vs n j o)/\R (.bool ((j:Int)==0)) f)else R VT f)else R VF f)
       else(if l3 .i64 d 8=0 then(∃n:zW,∃j:Nat,∃o:Nat,hat f ((Addr.mk b 0 none).add 5)=some (vs n j o)/\R (.bool ((j:Int)==0)) f)else R VT f)):=λi a=>by
    by_cases h:l3 .i64 d 4=0
    · rw[ka h];refine⟨_,B.t,?_⟩;by_cases r:v.t.toList=(ByteArray.mk #[]).toList
      · rw[ka r];exact A i a (λ_=>(mY _).1 r)
      · rw[kb r];exact no λe=>r ((mY _).2 (e.2.2.1 h))
    · rw[kb h];exact A i a (λg=>absurd g h)
  by_cases i:l3 .i64 d 1=0
  · rw[ka i];refine⟨_,B.c,?_⟩;by_cases m:v.c=0
    · rw[ka m];by_cases a:l3 .i64 d 2=0
      · rw[ka a];refine⟨_,B.neg,?_⟩;by_cases hn:v.neg=true
        · rw[ka hn];exact no λe=>by have:=(e.2.1 a).1;rw[hn]at this;cases this
        · rw[kb hn];refine⟨_,_,_,B.mag,?_⟩;by_cases hm:(v.mN:Int)=0
          · rw[ka hm];exact s (λ_=>m) (λ_=>⟨by simpa using hn,GF⟩)
          · rw[kb hm];exact no λe=>by have:=(e.2.1 a).2;omega
      · rw[kb a];exact s (λ_=>m) (λg=>absurd g a)
    · rw[kb m];exact no λe=>m (e.1 i)
  · rw[kb i];by_cases a:l3 .i64 d 2=0
    · rw[ka a];refine⟨_,B.neg,?_⟩;by_cases hn:v.neg=true
      · rw[ka hn];exact no λe=>by have:=(e.2.1 a).1;rw[hn]at this;cases this
      · rw[kb hn];refine⟨_,_,_,B.mag,?_⟩;by_cases hm:(v.mN:Int)=0
        · rw[ka hm];exact s (λg=>absurd g i) (λ_=>⟨by simpa using hn,GF⟩)
        · rw[kb hm];exact no λe=>by have:=(e.2.1 a).2;omega
    · rw[kb a];exact s (λg=>absurd g i) (λg=>absurd g a)
def jp(t:ByteArray):Prop:=Lib.validD t.data.toList=true/\(cF t).length<=62
inductive Plain:Dt->Prop
  | mk {k c neg mag t l} (hk:0<=k/\k<=10) (hc:k≠3->c=0) (hc3:k=3->jW c=true) (hn:k≠4->neg=false/\mag=[]) (h4:k=4->Bv neg mag=true)
    (ht:k≠5->k≠6->t.size=0) (h56:k=5\/k=6->jp t) (h6:k=6->1<=(cF t).length) (hl:k≠7->k≠8->l=[]) (h7:k=7->l.length=2) (h62:l.length<=62) (each: ∀x∈l,Plain x):Plain (.mk k c neg mag t l)
theorem uy(d:Dt): ∀{P:Nat->Prop} {H:zV} {v:Dv} (D:cD P H v d) (hl:gP d),
    dH.C v.kind v.c v.neg v.mB v.mN v.mC v.t v.lB v.lN v.lC H (λw H'=>(∃q:Bool,w=.bool q/\(q=true ↔ Plain d))/\Ext H H'):=by
  induction d using Dt.ind with
  | h k c neg mag t l ih=>
  intro P H v D S
  cases D with
  | mk _ _ _ _ _ _ _ vs ek ec en et hk hc hm bs br ac b7 aa bq bp bw mP lP row a6=>
  subst et;have b6:v.t.size<=1000/\mag.length<=300/\ ∀x∈l,gP x:=by cases S;exact⟨by assumption,by assumption,by assumption⟩
  obtain⟨bn,bo,b4⟩:=b6;refine Ei λR hR=>dH.link ?_;unfold dH.pt zY;intro b H1 I a8;have W:=Eh a8;have B:=E5 (v:=v) I a8;have no: ∀A,Ext H1 A-> ¬Plain (.mk k c neg mag v.t l)->R VF A:=λA Y b8=>hR _ _ ⟨⟨_,rfl,by simp[b8]⟩,W.trans Y⟩
  have N:Plain (.mk k c neg mag v.t l)->(0<=k/\k<=10)/\(k≠3->c=0)/\(k=3->jW c=true)/\(k≠4->neg=false/\mag=[])/\(k=4->Bv neg mag=true)/\(k≠5->k≠6->v.t.size=0)/\(k=5\/k=6->jp v.t)/\(k=6->1<=(cF v.t).length)/\(k≠7->k≠8->l=[])/\(k=7->l.length=2)/\l.length<=62/\ ∀x∈l,Plain x:=λh=>by
    cases h with
    | mk a1 a2 a3 a4 a5 aB a7 bj a9 av aw ax=>exact⟨a1,a2,a3,a4,a5,aB,a7,bj,a9,av,aw,ax⟩
  have V: ∀e:Int,(e=0\/e=1\/e=2\/e=4\/e=8)->(l3 .i64 e 1=0 ↔ e≠1)/\(l3 .i64 e 2=0 ↔ e≠2)/\(l3 .i64 e 4=0 ↔ e≠4)/\(l3 .i64 e 8=0 ↔ e≠8):=λe h=>by
    rcases h with h | h | h | h | h<;>subst h<;>decide
  have z: ∀e:Int,(e=0\/e=1\/e=2\/e=4\/e=8)->sw e v->(e≠1->c=0)/\(e≠2->neg=false/\mag=[])/\(e≠4->v.t.size=0)/\(e≠8->l=[]):=λe h I=>by
    obtain⟨b1,c6,c7,c8⟩:=V e h;obtain⟨u,s,y,g⟩:=I;exact⟨λh=>ec▸u (b1.2 h),λh=>⟨en▸(s (c6.2 h)).1,List.eq_nil_of_length_eq_zero (by rw[<-hm];exact(s (c6.2 h)).2)⟩,λh=>y (c7.2 h),λh=>List.eq_nil_of_length_eq_zero (by rw[<-aa];exact g (c8.2 h))⟩
  have L: ∀e:Int,(e=0\/e=1\/e=2\/e=4\/e=8)->(e=1\/k≠3)->(e=2\/k≠4)->(e=4\/(k≠5/\k≠6))->(e=8\/(k≠7/\k≠8))-> ¬sw e v-> ¬Plain (.mk k c neg mag v.t l):=λe h x1 x2 x4 x8 hn r=>by
    obtain⟨b1,c6,c7,c8⟩:=V e h;obtain⟨_,a2,_,a4,_,aB,_,_,a9,_⟩:=N r;refine hn ⟨λh=>?_,λh=>?_,λh=>?_,λh=>?_⟩
    · rw[ec];exact a2 (x1.resolve_left (b1.1 h))
    · have:=a4 (x2.resolve_left (c6.1 h));exact⟨by rw[en];exact this.1,by rw[hm,this.2];rfl⟩
    · have:=x4.resolve_left (c7.1 h);exact aB this.1 this.2
    · have:=x8.resolve_left (c8.1 h);rw[aa,a9 this.1 this.2];rfl
  refine⟨_,B.kind,?_⟩;rw[ek];refine⟨λq A=>(q=true ↔ (k=0\/k=1\/k=2\/k=9\/k=10))/\H1=A,?_,?_⟩
  · by_cases h0:k=0
    · rw[ka h0];exact⟨by simp[h0],rfl⟩
    rw[kb h0];by_cases h1:k=1
    · rw[ka h1];exact⟨by simp[h1],rfl⟩
    rw[kb h1];by_cases p:k=2
    · rw[ka p];exact⟨by simp[p],rfl⟩
    rw[kb p];by_cases h9:k=9
    · rw[ka h9];exact⟨by simp[h9],rfl⟩
    rw[kb h9];exact⟨by simp[h0,h1,p,h9],rfl⟩
  rintro q _ ⟨hq,rfl⟩;by_cases f:q=true
  · rw[ka f];have hq:=hq.1 f;refine⟨_,_,_,_,_,_,_,_,_,_,B.row,gc lE ?_⟩;rintro _ H2 ⟨⟨M,rfl,p⟩,m⟩;refine⟨_,rfl,hR _ _ ⟨⟨_,rfl,⟨λo=>?_,λr=>?_⟩⟩,W.trans m⟩⟩
    case refine_2=>
      by_cases o:M=true
      · exact o
      · exact absurd r (L 0 GH (.inr GF) (.inr GF) (.inr GF) (.inr GF) (λI=>o (p.2 I)))
    obtain⟨u,s,y,g⟩:=z 0 GH (p.1 o);have u:=u GG;have s:=s GG;have y:=y GG;have g:=g GG;exact .mk GF (λ_=>u) (λh=>GF) (λ_=>s) (λh=>GF) (λ_ _=>y) (λh=>GF) (λh=>GF) (λ_ _=>g) (λh=>GF) (by rw[g];simp) (by rw[g];simp)
  rw[kb f];have hq: ¬(k=0\/k=1\/k=2\/k=9\/k=10):=λh=>f (hq.2 h);by_cases h3:k=3
  · rw[ka h3];refine⟨_,_,_,_,_,_,_,_,_,_,B.row,gc lE ?_⟩;rintro _ H2 ⟨⟨M,rfl,p⟩,m⟩;refine⟨_,rfl,?_⟩;by_cases o:M=true
    · rw[ka o];refine⟨_,(B.ext m).c,gc mn ?_⟩;rintro _ H3 ⟨rfl,rfl⟩;refine⟨_,rfl,hR _ _ ⟨⟨_,rfl,⟨λF=>?_,λr=>by rw[ec];exact(N r).2.2.1 h3⟩⟩,W.trans m⟩⟩;obtain⟨u,s,y,g⟩:=z 1 GH (p.1 o);have s:=s GG;have y:=y GG;have g:=g GG;exact .mk GF (λh=>absurd h3 h) (λ_=>ec▸F) (λ_=>s) (λh=>GF) (λ_ _=>y) (λh=>GF) (λh=>GF) (λ_ _=>g) (λh=>GF) (by rw[g];simp) (by rw[g];simp)
    · rw[kb o];exact no _ m (L 1 GH (.inl rfl) (.inr GF) (.inr GF) (.inr GF) (λI=>o (p.2 I)))
  rw[kb h3];by_cases h4:k=4
  · rw[ka h4];refine⟨_,_,_,_,_,_,_,_,_,_,B.row,gc lE ?_⟩;rintro _ H2 ⟨⟨M,rfl,p⟩,m⟩;refine⟨_,rfl,?_⟩;by_cases o:M=true
    · rw[ka o];refine⟨_,_,_,_,(B.ext m).num,gc (w7 (ac.ext (W.trans m)) hm GF b7) ?_⟩;rintro _ H3 ⟨⟨q3,rfl,K⟩,e3⟩;refine⟨_,rfl,hR _ _ ⟨⟨_,rfl,⟨λF=>?_,λr=>K.2 (by rw[en];exact(N r).2.2.2.2.1 h4)⟩⟩,(W.trans m).trans e3⟩⟩;obtain⟨u,s,y,g⟩:=z 2 GH (p.1 o);have u:=u GG;have y:=y GG;have g:=g GG;exact .mk GF (λ_=>u) (λh=>GF) (λh=>absurd h4 h) (λ_=>en▸K.1 F) (λ_ _=>y) (λh=>GF) (λh=>GF) (λ_ _=>g) (λh=>GF) (by rw[g];simp) (by rw[g];simp)
    · rw[kb o];exact no _ m (L 2 GH (.inr GF) (.inl rfl) (.inr GF) (.inr GF) (λI=>o (p.2 I)))
  rw[kb h4];refine⟨λq A=>(q=true ↔ (k=5\/k=6))/\H1=A,?_,?_⟩
  · by_cases h5:k=5
    · rw[ka h5];exact⟨by simp[h5],rfl⟩
    rw[kb h5];exact⟨by simp[h5],rfl⟩
  rintro q _ ⟨G,rfl⟩;by_cases f:q=true
  · rw[ka f];have G:=G.1 f;refine⟨_,B.t,gc (uu GF) ?_⟩;rintro _ H2 ⟨rB,rN,rC,rfl,hr,m⟩;refine⟨_,_,_,_,rfl,_,_,_,_,_,_,_,_,_,_,(B.ext m).row,gc lE ?_⟩;rintro _ H3 ⟨⟨M,rfl,p⟩,e3⟩;refine⟨_,rfl,?_⟩;have J:=m.trans e3;by_cases o:M=true
    · rw[ka o];by_cases hv:Lib.validD v.t.data.toList=true
      · rw[ka hv];obtain⟨bu,_,_⟩:=hr hv;by_cases E:(rN:Int)<=62
        · rw[ka E];refine⟨_,(B.ext J).kind,hR _ _ ⟨⟨_,rfl,⟨λF=>?_,λr=>?_⟩⟩,W.trans J⟩⟩
          case refine_2=>
            rw[ek];rcases G with h | h
            · simp[h]
            · have:=(N r).2.2.2.2.2.2.2.1 h;simp;right;omega
          rw[ek]at F;obtain⟨u,s,y,g⟩:=z 4 GH (p.1 o);have u:=u GG;have s:=s GG;have g:=g GG;have F:k=5\/0<rN:=by simpa using F
          exact .mk GF (λ_=>u) (λh=>GF) (λ_=>s) (λh=>GF) (λh5 h6=>GF) (λ_=>⟨hv,GF⟩) (λh=>GF) (λ_ _=>g) (λh=>GF) (by rw[g];simp) (by rw[g];simp)
        · rw[kb E];exact no _ J (λr=>E (by have:=((N r).2.2.2.2.2.2.1 G).2;omega))
      · rw[kb hv];exact no _ J (λr=>hv ((N r).2.2.2.2.2.2.1 G).1)
    · rw[kb o];exact no _ J (L 4 GH (.inr GF) (.inr GF) (.inl rfl) (.inr GF) (λI=>o (p.2 I)))
  rw[kb f];have G: ¬(k=5\/k=6):=λh=>f (G.2 h);clear f;refine⟨λq A=>(q=true ↔ (k=7\/k=8))/\H1=A,?_,?_⟩
  · by_cases O:k=7
    · rw[ka O];exact⟨by simp[O],rfl⟩
    rw[kb O];exact⟨by simp[O],rfl⟩
  rintro q _ ⟨a0,rfl⟩;by_cases f:q=true
  · rw[ka f];have a0:=a0.1 f;refine⟨λq A=>(q=false ↔ sw 8 v/\(k=7->l.length=2)/\l.length<=62)/\Ext H1 A,?_,?_⟩
    · refine⟨_,_,_,_,_,_,_,_,_,_,B.row,gc lE ?_⟩;rintro _ H2 ⟨⟨M,rfl,p⟩,m⟩;refine⟨_,rfl,?_⟩;have B2:=B.ext m;by_cases o:M=true
      · rw[ka o];refine⟨_,B2.kind,?_⟩;rw[ek];by_cases O:k=7
        · rw[ka O];refine⟨_,_,_,B2.l,?_⟩;by_cases X:(v.lN:Int)=2
          · rw[ka X];refine⟨_,_,_,B2.l,⟨⟨λhf=>⟨p.1 o,λ_=>GF,?_⟩,λhx=>zQ GF⟩,m⟩⟩;have:=of_decide_eq_false hf;omega
          · rw[kb X];exact⟨⟨(λh=>by cases h),λhx=>absurd (hx.2.1 O) GF⟩,m⟩
        · rw[kb O];refine⟨_,_,_,B2.l,⟨⟨λhf=>⟨p.1 o,λh=>absurd h O,?_⟩,λhx=>zQ GF⟩,m⟩⟩;have:=of_decide_eq_false hf;omega
      · rw[kb o];exact⟨⟨(λh=>by cases h),λhx=>absurd (p.2 hx.1) o⟩,m⟩
    rintro M H2 ⟨p,m⟩;by_cases T:M=true
    · rw[ka T];refine no _ m (λr=>?_);have aX:=(N r).2.2.2.2.2.2.2.2.2.1;have E:=(N r).2.2.2.2.2.2.2.2.2.2.1;by_cases I:sw 8 v
      · have:=p.2 ⟨I,aX,E⟩;rw[T]at this;cases this
      · exact L 8 GH (.inr GF) (.inr GF) (.inr GF) (.inl rfl) I r
    rw[kb T];obtain⟨b0,b5,E⟩:=p.1 (by simpa using T);refine⟨λi A=>(0<=i/\i<=v.lN)/\(∀j,j<i.toNat-> ∀hj:j<l.length,Plain l[j])/\Ext H2 A,λi _=>(v.lN-i).toNat,⟨GF,λj hj=>by simp at hj,ED _⟩,?_⟩;rintro i A ⟨hi,ab,Y⟩;have BA:=B.ext (m.trans Y);refine⟨_,_,_,BA.l,?_⟩;by_cases Z:i< (v.lN:Int)
    · rw[ka Z];obtain⟨a,ha,hr⟩:=row i.toNat GF;have Q:i.toNat<l.length:=GF;have eT:=(W.trans m).trans Y;refine⟨_,_,_,BA.l,a,ha,⟨hi.1,Z⟩,_,_,_,_,_,_,_,_,_,_,eT.rowAt hr,?_⟩;refine gc (ih l[i.toNat] (Eu Q) ((a6 i.toNat GF Q).ext eT) (b4 _ (Eu Q))) ?_;rintro _ H3 ⟨⟨q3,rfl,K⟩,e3⟩;refine⟨_,rfl,?_⟩;by_cases U:q3=true
      · rw[ka U];rw[n5 (n:=i+1) GF];refine⟨⟨GF,λj hj b3=>?_,Y.trans e3⟩,by show((v.lN:Int)-(i+1)).toNat< ((v.lN:Int)-i).toNat;omega⟩;by_cases b2:j=i.toNat
        · subst b2;exact K.1 U
        · exact ab j GF b3
      · rw[kb U];exact no _ ((m.trans Y).trans e3) (λr=>U (K.2 ((N r).2.2.2.2.2.2.2.2.2.2.2 _ (Eu Q))))
    · rw[kb Z];refine hR _ _ ⟨⟨_,rfl,⟨λ_=>?_,λ_=>rfl⟩⟩,(W.trans m).trans Y⟩;obtain⟨u,s,y,g⟩:=z 8 GH b0;have u:=u GG;have s:=s GG;have y:=y GG;refine .mk GF (λ_=>u) (λh=>GF) (λ_=>s) (λh=>GF) (λ_ _=>y) (λh=>GF) (λh=>GF) (λh h'=>GF) b5 E (λx hx=>?_);obtain⟨j,hj,rfl⟩:=Gh hx;exact ab j GF hj
  · rw[kb f];exact no _ (ED _) (λr=>by have:=(N r).1;have:=mt a0.2 f;omega)
theorem uz{v:Dv}(D:cD b H v a)(o:gP a)(m:aY a<=1000000):
    fk.C v.kind v.c v.neg v.mB v.mN v.mC v.t v.lB v.lN v.lC H (λw j=>(∃q:Bool,w=.bool q/\(q=true ↔ Plain a/\bZ a<=64))/\Ext H j):=by
  refine Ei λR g=>fk.link ?_;unfold fk.pt;intro y s l d;have e:=Eh d;have B:=E5 (v:=v) l d;refine⟨_,_,_,_,_,_,_,_,_,_,B.row,gc (uy a (D.ext e) o) ?_⟩;rintro _ u ⟨⟨q,rfl,i⟩,f⟩;refine⟨_,rfl,?_⟩;by_cases h:q=true
  · rw[ka h];refine⟨_,_,_,_,_,_,_,_,_,_,(B.ext f).row,gc (uw a (D.ext (e.trans f)) m) ?_⟩;rintro _ x ⟨rfl,k⟩;exact⟨_,rfl,g _ _ ⟨⟨_,rfl,⟨λn=>⟨i.1 h,Gv n⟩,λr=>zX r.2⟩⟩,(e.trans f).trans k⟩⟩
  · rw[kb h];exact g _ _ ⟨⟨_,rfl,by simp;exact λp=>absurd (i.2 p) h⟩,e.trans f⟩
theorem mq(d:Dt): ∀{P Q:Nat->Prop} {H:zV} {v u:Dv} (D:cD P H v d) (D2:cD Q H u d) (hl:gP d),
    cR.C v.kind v.c v.neg v.mB v.mN v.mC v.t v.lB v.lN v.lC u.kind u.c u.neg u.mB u.mN u.mC u.t u.lB u.lN u.lC H (λw H'=>w=VT/\Ext H H'):=by
  induction d using Dt.ind with
  | h k c neg mag t l ih=>
  intro P Q H v u D D2 f;have V:t.size<=1000/\mag.length<=300/\ ∀x∈l,gP x:=by cases f;exact⟨by assumption,by assumption,by assumption⟩
  obtain⟨ap,au,U⟩:=V
  cases D with
  | mk _ _ _ _ _ _ _ vs ek ec en et hk hc hm az ay E ax W aw av aC mP lP row r=>
  cases D2 with
  | mk _ _ _ _ _ _ _ us M L N O ao an X a7 a6 o a5 z a4 a3 a8 aV aT F j=>
  refine Ei λR hR=>cR.link ?_;unfold cR.pt zY;intro b H1 hb s b2 H2 T y;have e1:=Eh s;have e2:=Eh y;have g:=e1.trans e2;have B:=(E5 (v:=v) hb s).ext e2;have C:=E5 (v:=u) T y;refine⟨_,B.kind,_,C.kind,?_⟩;rw[ka (by rw[ek,M])];refine⟨_,B.c,_,C.c,?_⟩;rw[ka (by rw[ec,L])];refine⟨_,_,_,_,B.num,_,_,_,_,C.num,gc (qx (E.ext g) hm (o.ext g) X GF) ?_⟩;rintro _ H3 ⟨rfl,K⟩;refine⟨_,rfl,?_⟩;rw[ka (zX ⟨by rw[en,N],rfl⟩)];have I:=B.ext K;have J:=C.ext K;refine⟨_,I.t,_,J.t,?_⟩;rw[ka (by rw[et,O])];refine⟨_,_,_,I.l,_,_,_,J.l,?_⟩;rw[ka (by rw[W,z])];have p:=g.trans K;refine⟨λi A=>(0<=i/\i<=v.lN)/\Ext H3 A,λi _=>(v.lN-i).toNat,⟨GF,ED _⟩,?_⟩;rintro i A ⟨hi,q⟩;have Z:=I.ext q;have CA:=J.ext q;refine⟨_,_,_,Z.l,?_⟩;by_cases m:i< (v.lN:Int)
  · rw[ka m];obtain⟨a,ha,hr⟩:=row i.toNat GF;obtain⟨a',S,Y⟩:=F i.toNat GF;have e:i.toNat<l.length:=GF;have G:=p.trans q;refine⟨_,_,_,Z.l,a,ha,⟨hi.1,m⟩,_,_,_,_,_,_,_,_,_,_,G.rowAt hr,_,_,_,CA.l,a',S,⟨hi.1,GF⟩,_,_,_,_,_,_,_,_,_,_,G.rowAt Y,?_⟩;refine gc (ih l[i.toNat] (Eu e) ((r i.toNat GF e).ext G) ((j i.toNat GF e).ext G) (U _ (Eu e))) ?_;rintro _ H4 ⟨rfl,e4⟩;refine⟨_,rfl,?_⟩;rw[ka rfl,n5 (n:=i+1) GF];exact⟨⟨GF,q.trans e4⟩,by show((v.lN:Int)-(i+1)).toNat< ((v.lN:Int)-i).toNat;omega⟩
  · rw[kb m];exact hR _ _ ⟨rfl,p.trans q⟩
theorem yF{b o n:Nat}{c:Array Value}{T:TypeId}{vs:List Value}(g:H[b]?=some (.cells c T (0,0)))(hn:vs.length=n)(e:o+n<=c.size):
    aF H ((Addr.mk b 0 none).add o) 0 n/\ ∀a,a=aL H ((Addr.mk b 0 none).add o) vs 0->a[b]?=some (.cells (splice c o vs) T (0,0))/\Fr [b] H a:=by
  rw[Ej,Eo];refine⟨cZ g n o 0 GF,λa d=>?_⟩;rw[dX _ H c o 0 g]at d;subst d;exact⟨bL (aS g),Ez⟩
theorem zE(H:zV)(B:zW):bV H B (Br []):=by cases B<;>simp[Br,aI]
theorem tu{p q:zW}{n m c B:Nat}{f g:List Int}(G:bV H p (Br f))(I:bV H q (Br g))(hn:n=f.length)(hm:m=g.length)(K:n<9223372036854775808):
    bU.C p n c q m B H (λw y=>(∃t:Bool,w=.bool t/\(t=true ↔ f=g))/\H=y):=by
  refine Ei λR l=>bU.link ?_;unfold bU.pt zY;by_cases e:(n:Int)=(m:Int)
  case neg=>rw[kb e];exact l _ _ ⟨⟨false,rfl,⟨λh=>(by cases h),λh=>absurd (by rw[hn,hm,h]) e⟩⟩,rfl⟩
  rw[ka e];refine⟨λi A=>(0<=i/\i<=n)/\H=A/\ ∀j:Nat,(j:Int)<i->f.getD j 0=g.getD j 0,λi _=>(n-i).toNat,⟨GF,rfl,λj h=>GF⟩,?_⟩;rintro i _ ⟨x,rfl,v⟩;by_cases d:i< (n:Int)
  · rw[ka d];have r:i.toNat<f.length:=GF;have k:i.toNat<g.length:=GF;obtain⟨a,F,J⟩:=kB G GF;obtain⟨z,o,u⟩:=kB I GF;refine⟨a,F,⟨x.1,d⟩,_,by rw[EG];exact Cd J r,z,o,⟨x.1,GF⟩,_,by rw[EG];exact Cd u k,?_⟩;by_cases b:f.getD i.toNat 0=g.getD i.toNat 0
    · rw[ka b,n5 (n:=i+1) GF];refine⟨⟨GF,rfl,λj L=>?_⟩,by show((n:Int)-(i+1)).toNat< ((n:Int)-i).toNat;omega⟩;by_cases s:(j:Int)<i
      · exact v j s
      · have:j=i.toNat:=GF;subst this;exact b
    · rw[kb b];exact l _ _ ⟨⟨false,rfl,⟨λh=>(by cases h),λh=>absurd (by rw[h]) b⟩⟩,rfl⟩
  · rw[kb d];refine l _ _ ⟨⟨true,rfl,⟨λ_=>FS GF λj D E=>?_,λ_=>rfl⟩⟩,rfl⟩;have:=v j GF;simpa[List.getD_eq_getElem?_getD,D,E]using this
def tN:ByteArray:=ByteArray.mk #[]
def BC(v:Dv):Dv:=
  if v.kind=3 then⟨v.kind,v.c,false,none,0,0,tN,none,0,0⟩
  else if v.kind=4 then⟨v.kind,0,v.neg,v.mB,v.mN,v.mC,tN,none,0,0⟩
  else if v.kind=5 then⟨v.kind,0,false,none,0,0,v.t,none,0,0⟩
  else if v.kind=6 then⟨v.kind,0,false,none,0,0,v.t,none,0,0⟩
  else if v.kind=7 then⟨v.kind,0,false,none,0,0,tN,v.lB,v.lN,v.lC⟩
  else if v.kind=8 then⟨v.kind,0,false,none,0,0,tN,v.lB,v.lN,v.lC⟩
  else⟨v.kind,0,false,none,0,0,tN,none,0,0⟩
theorem vC{v:Dv}:
    jI.C v.kind v.c v.neg v.mB v.mN v.mC v.t v.lB v.lN v.lC H (λw H'=>w=.agg (BC v).cells.toArray/\Ext H H'):=by
  refine Ei λR hR=>jI.link ?_;unfold jI.pt;intro b H1 hb P b2 H2 a9 Q;have e1:=Eh P;have e2:=Eh Q;have a5:=e1.trans e2;have B:=(E5 (v:=v) hb P).ext e2;have g2:=aK a9 Q;refine⟨_,B.kind,λb3 H3 T S=>?_⟩;have e3:=Eh S;obtain⟨r1,r2⟩:=fe (vs:=[vi v.kind,.int .i32 0,VF,VN,.string (ByteArray.mk #[]),VN]) (n:=6) T S rfl rfl;refine⟨r1,λH4 a7=>?_⟩;obtain⟨K,e4⟩:=r2 H4 a7;have J:=B.ext e4;have af:b3=H2.size:=T
  have e: ∀(A:zV) (u:Dv),Ext H2 A->A[b3]?=some (.cells u.cells.toArray 27 (0,0))->BC v=u->
      (∃E:Int,∃xC:Int,∃F:Bool,∃k:zW,∃p:Nat,∃m:Nat,∃xT:ByteArray,∃X:zW,∃Z:Nat,∃Y:Nat,aI A (Addr.mk b3 0 none) 0 [vi E,.int .i32 xC,.bool F,vs k p m,.string xT,vs X Z Y]/\
       (aF A (Addr.mk b2 0 none) 0 6)/\ ∀M:zV,M=aL A (Addr.mk b2 0 none) [vi E,.int .i32 xC,.bool F,vs k p m,.string xT,vs X Z Y] 0->
       ∃z:Int,∃rC:Int,∃D:Bool,∃g:zW,∃i:Nat,∃h:Nat,∃rT:ByteArray,∃U:zW,∃W:Nat,∃V:Nat,aI M (Addr.mk b2 0 none) 0 [vi z,.int .i32 rC,.bool D,vs g i h,.string rT,vs U W V]/\
       R (.agg #[vi z,.int .i32 rC,.bool D,vs g i h,.string rT,vs U W V]) M):=λA u eA gA hu=>by
    refine⟨_,_,_,_,_,_,_,_,_,_,bA gA,?_⟩;obtain⟨r,s⟩:=ff (vs:=u.cells) (n:=6) (eA.get g2) rfl rfl;refine⟨r,λM a8=>?_⟩;obtain⟨g6,f6⟩:=s M a8;have e6:Ext H M:=(a5.trans eA).fr_trans f6 (λj hj=>by simp at hj;have:=e1.size;omega);refine⟨_,_,_,_,_,_,_,_,_,_,bA g6,hR _ _ ⟨by rw[hu],e6⟩⟩
  have q: ∀{A:zV},Fr [b3] H4 A->Ext H2 A:=λf=>e4.fr_trans f (λj hj=>by simp at hj;omega);refine⟨_,J.kind,?_⟩;by_cases G:v.kind=3
  · rw[ka G];obtain⟨r,s⟩:=ie K 1 (.int .i32 v.c) GH;refine⟨_,J.c,r,λd a=>?_⟩;obtain⟨y,x⟩:=s d a;exact e d ⟨v.kind,v.c,false,none,0,0,ByteArray.mk #[],none,0,0⟩ (q x) y (by unfold BC;rw[ka G];first | done | rfl)
  rw[kb G];by_cases I:v.kind=4
  · rw[ka I];obtain⟨r,s⟩:=yF (o:=2) (n:=2) (vs:=[.bool v.neg,vs v.mB v.mN v.mC]) K rfl GH;refine⟨_,_,_,_,J.num,r,λd a=>?_⟩;obtain⟨y,x⟩:=s d a;exact e d ⟨v.kind,0,v.neg,v.mB,v.mN,v.mC,ByteArray.mk #[],none,0,0⟩ (q x) y (by unfold BC;rw[kb G,ka I];first | done | rfl)
  rw[kb I];by_cases L:v.kind=5
  · rw[ka L];obtain⟨r,s⟩:=ie K 4 (.string v.t) GH;refine⟨_,J.t,r,λd a=>?_⟩;obtain⟨y,x⟩:=s d a;exact e d ⟨v.kind,0,false,none,0,0,v.t,none,0,0⟩ (q x) y (by unfold BC;rw[kb G,kb I,ka L])
  rw[kb L];by_cases N:v.kind=6
  · rw[ka N];obtain⟨r,s⟩:=ie K 4 (.string v.t) GH;refine⟨_,J.t,r,λd a=>?_⟩;obtain⟨y,x⟩:=s d a;exact e d ⟨v.kind,0,false,none,0,0,v.t,none,0,0⟩ (q x) y (by unfold BC;rw[kb G,kb I,kb L,ka N])
  rw[kb N];by_cases O:v.kind=7
  · rw[ka O];obtain⟨r,s⟩:=ie K 5 (vs v.lB v.lN v.lC) GH;refine⟨_,_,_,J.l,r,λd a=>?_⟩;obtain⟨y,x⟩:=s d a;exact e d ⟨v.kind,0,false,none,0,0,ByteArray.mk #[],v.lB,v.lN,v.lC⟩ (q x) y (by unfold BC;rw[kb G,kb I,kb L,kb N,ka O];first | done | rfl)
  rw[kb O];by_cases h8:v.kind=8
  · rw[ka h8];obtain⟨r,s⟩:=ie K 5 (vs v.lB v.lN v.lC) GH;refine⟨_,_,_,J.l,r,λd a=>?_⟩;obtain⟨y,x⟩:=s d a;exact e d ⟨v.kind,0,false,none,0,0,ByteArray.mk #[],v.lB,v.lN,v.lC⟩ (q x) y (by unfold BC;rw[kb G,kb I,kb L,kb N,kb O,ka h8];first | done | rfl)
  rw[kb h8];exact e H4 ⟨v.kind,0,false,none,0,0,ByteArray.mk #[],none,0,0⟩ e4 K (by unfold BC;rw[kb G,kb I,kb L,kb N,kb O,kb h8];first | done | rfl)
theorem uA{m1 i:List Int}{v u:Dv}(A:bV H v.mB (Br m1))(x:v.mN=m1.length)(o:v.mN<9223372036854775808)(z:bV H u.mB (Br i))(y:u.mN=i.length):
    jb.C v.kind v.c v.neg v.mB v.mN v.mC v.t v.lB v.lN v.lC u.kind u.c u.neg u.mB u.mN u.mC u.t u.lB u.lN u.lC H (λw q=>(∃t:Bool,w=.bool t/\(t=true ↔ v.kind=u.kind/\v.c=u.c/\v.neg=u.neg/\m1=i/\v.t.toList=u.t.toList/\v.lN=u.lN))/\Ext H q):=by
  refine Ei λR n=>jb.link ?_;unfold jb.pt;intro b D o e F r j f;have s:=Eh e;have m:=Eh f;have a:=s.trans m;have B:=(E5 (v:=v) o e).ext m;have C:=E5 (v:=u) j f;have no: ¬(v.kind=u.kind/\v.c=u.c/\v.neg=u.neg/\m1=i/\v.t.toList=u.t.toList/\v.lN=u.lN)->R VF r:=λk=>n _ _ ⟨⟨false,rfl,⟨λh=>(by cases h),λh=>absurd h k⟩⟩,a⟩;refine⟨_,B.kind,_,C.kind,?_⟩;by_cases hk:v.kind=u.kind
  case neg=>rw[kb hk];exact no λh=>hk h.1
  rw[ka hk];refine⟨_,B.c,_,C.c,?_⟩;by_cases g:v.c=u.c
  case neg=>rw[kb g];exact no λh=>g h.2.1
  rw[ka g];refine⟨_,B.neg,_,C.neg,?_⟩;by_cases hn:v.neg=u.neg
  case neg=>rw[kb hn];exact no λh=>hn h.2.2.1
  rw[ka hn];refine⟨_,_,_,B.mag,_,_,_,C.mag,gc (tu (A.ext a) (z.ext a) x y GF) ?_⟩;rintro _ E ⟨⟨t,rfl,p⟩,rfl⟩;refine⟨_,rfl,?_⟩
  cases t with
  | false=>rw[kb GG];exact no λh=>absurd (p.2 h.2.2.2.1) GG
  | true=>
  rw[ka rfl];refine⟨_,B.t,_,C.t,?_⟩;by_cases d:v.t.toList=u.t.toList
  case neg=>rw[kb d];exact no λh=>d h.2.2.2.2.1
  rw[ka d];exact⟨_,_,_,B.l,_,_,_,C.l,n _ _ ⟨⟨_,rfl,⟨λh=>⟨hk,g,hn,p.1 rfl,d,Int.ofNat.inj (by simpa using h)⟩,λh=>by rw[h.2.2.2.2.2];simp⟩⟩,a⟩⟩
theorem pp{t:ByteArray}(T:lA H)(g:t.size<=1000000):
    iN.C t d H (λw b=>(∃q:Bool,w=.bool q/\(q=true ↔ jp t/\d<=(cF t).length))/\Ext H b):=by
  refine Ei λR e=>iN.link ?_;unfold iN.pt;have f:(cF t).length<=t.size:=by have:=nz t (t.size-0) 0;show(runesFrom t (t.size-0) 0).length<=t.size;omega
  refine gc (pm GF) ?_;rintro _ i ⟨rfl,a⟩;refine⟨_,rfl,gc (nB (T.ext a) g) ?_⟩;rintro _ j ⟨rfl,c⟩;refine⟨_,rfl,e _ _ ⟨⟨_,rfl,?_⟩,a.trans c⟩⟩;simp only[EF,Ex];exact⟨λh=>⟨⟨h.1.1,GF⟩,GF⟩,λh=>by have:=h.1.2;exact⟨⟨h.1.1,GF⟩,GF⟩⟩
theorem tw:cQ.C d H (λw e=>(∃q:Bool,w=.bool q/\(q=true ↔ jW d=true))/\H=e):=by
  refine Ei λR a=>cQ.link ?_;unfold cQ.pt;by_cases b:0<=d/\d<55296
  · rw[ka (by simp[b.1,b.2])];exact a _ _ ⟨⟨true,rfl,⟨λ_=>by unfold jW;simp;omega,λ_=>rfl⟩⟩,rfl⟩
  rw[kb (by simp;omega)];by_cases c:57343<d/\d<=1114111
  · rw[ka (by simp[c.1,c.2])];exact a _ _ ⟨⟨true,rfl,⟨λ_=>by unfold jW;simp;omega,λ_=>rfl⟩⟩,rfl⟩
  rw[kb (by simp;omega)];refine a _ _ ⟨⟨false,rfl,⟨λh=>(by cases h),λh=>?_⟩⟩,rfl⟩;have f:(0<=d/\d<=1114111)/\(d<55296\/57343<d):=by simpa[jW]using h
  exact absurd f GF
theorem tx(d:Dt): ∀{P:Nat->Prop} {H:zV} {v:Dv} (T:lA H) (D:cD P H v d) (hl:gP d),
    ii.C v.kind v.c v.neg v.mB v.mN v.mC v.t v.lB v.lN v.lC H (λw H'=>(∃q:Bool,w=.bool q/\(q=true ↔ Plain d))/\Ext H H'):=by
  induction d using Dt.ind with
  | h k c neg mag t l ih=>
  intro P H v T D E;have au:t.size<=1000/\mag.length<=300/\ ∀x∈l,gP x:=by cases E;exact⟨by assumption,by assumption,by assumption⟩
  obtain⟨bp,bq,ap⟩:=au
  cases D with
  | mk _ _ _ _ _ _ _ vs F ec en O hk hc hm ay ax p bu av bs br bw mP lP row W=>
  refine Ei λR hR=>ii.link ?_;unfold ii.pt;intro b H1 hb Y;have S:=Eh Y;have B:=E5 (v:=v) hb Y
  have m:Plain (.mk k c neg mag t l)->(0<=k/\k<=10)/\(k≠3->c=0)/\(k≠4->neg=false/\mag=[])/\(k≠5->k≠6->t.size=0)/\(k≠7->k≠8->l=[])/\(k=3->jW c=true)/\(k=4->Bv neg mag=true)/\(k=5\/k=6->jp t)/\(k=6->1<=(cF t).length)/\(k=7->l.length=2)/\l.length<=62/\ ∀x∈l,Plain x:=λhp=>by
    cases hp with
    | mk pk pc b0 pn p4 pt aN p6 pl p7 aX N=>exact⟨pk,pc,pn,pt,pl,b0,p4,aN,p6,p7,aX,N⟩
  have no: ∀{A:zV},Ext H A-> ¬Plain (.mk k c neg mag t l)->R VF A:=λe aB=>hR _ _ ⟨⟨false,rfl,⟨λh=>(by cases h),λh=>absurd h aB⟩⟩,e⟩;refine⟨_,B.kind,?_⟩;by_cases a1:v.kind<0
  · rw[ka a1];exact no S λh=>by have:=(m h).1;omega
  rw[kb a1];refine⟨_,B.kind,?_⟩;by_cases a2:v.kind>10
  · rw[ka a2];exact no S λh=>by have:=(m h).1;omega
  rw[kb a2];refine⟨_,_,_,_,_,_,_,_,_,_,B.row,_,_,_,_,_,_,_,_,_,_,B.row,gc vC ?_⟩;rintro _ H2 ⟨rfl,e2⟩
  have hu:bV (H2) (BC v).mB (Br (if k=4 then mag else[]))/\(BC v).mN=(if k=4 then mag else[]).length:=by
    unfold BC;rw[F];by_cases J:k=4
    · subst J;rw[ka rfl,kb GG,ka rfl];exact⟨p.ext (S.trans e2),hm⟩
    · rw[kb J,kb J]
      repeat' split
      all_goals exact⟨zE _ _,rfl⟩
  refine⟨_,_,_,_,_,_,_,_,_,_,rfl,(B.ext e2).row,gc (uA (m1:=mag) (p.ext (S.trans e2)) hm ax hu.1 hu.2) ?_⟩;rintro _ H3 ⟨⟨tq,rfl,hF⟩,e3⟩;refine⟨_,rfl,?_⟩;have U:=e2.trans e3;have f:=S.trans U
  cases tq with
  | false=>
    rw[kb GG];refine no f λhp=>absurd (hF.2 ?_) GG;obtain⟨_,p2,p4,p6,p9,_⟩:=m hp;have an:k≠3->v.c=0:=λh=>by rw[ec];exact p2 h
    have az:k≠4->v.neg=false:=λh=>by rw[en];exact(p4 h).1
    have aC:k≠5->k≠6->v.t.toList=tN.toList:=λh I=>by rw[O];exact(mY t).2 (p6 h I)
    have ao:k≠7->k≠8->v.lN=0:=λh I=>by rw[av,p9 h I];rfl
    have aw:mag=if k=4 then mag else[]:=by
      split
      · rfl
      · exact(p4 (by assumption)).2
    unfold BC;rw[F]
    repeat' split
    all_goals exact⟨by first | rfl | exact F,by first | rfl | exact an GF,by first | rfl | exact az GF,by first | exact aw | rfl | exact(p4 GF).2,by first | rfl | exact aC GF GF,by first | rfl | exact ao GF GF⟩
  | true=>
  rw[ka rfl];obtain⟨_,f2,f3,f4,f5,f6⟩:=hF.1 rfl;clear hF;have y:=B.ext U
  have q3:k≠3->c=0:=λh=>by
    rw[ec]at f2;rw[f2];unfold BC;rw[F,kb h]
    repeat' split
    all_goals rfl
  have q4:k≠4->neg=false/\mag=[]:=λh=>by
    rw[en]at f3;refine⟨?_,by rw[f4,kb h]⟩;rw[f3];unfold BC;rw[F,kb h]
    repeat' split
    all_goals rfl
  have q5:k≠5->k≠6->t.size=0:=λh I=>by
    rw[O]at f5;refine(mY t).1 ?_;rw[f5];unfold BC;rw[F,kb h,kb I]
    repeat' split
    all_goals rfl
  have Q:k≠7->k≠8->l=[]:=λh I=>by
    have:v.lN=0:=by
      rw[f6];unfold BC;rw[F,kb h,kb I]
      repeat' split
      all_goals rfl
    exact Gf.1 GF
  have j: ∀{A:zV} {q:Bool},Ext H A->(q=true ↔ (k=3->jW c=true)/\(k=4->Bv neg mag=true)/\(k=5\/k=6->jp t)/\(k=6->1<=(cF t).length)/\(k=7->l.length=2)/\l.length<=62/\ ∀x∈l,Plain x)->R (.bool q) A:=λe h=>
    hR _ _ ⟨⟨_,rfl,⟨λg=>by
      obtain⟨bc,bd,a3,a4,a5,a6,a7⟩:=h.1 g;exact .mk ⟨GF,GF⟩ q3 bc q4 bd q5 a3 a4 Q a5 a6 a7,λhp=>h.2 (m hp).2.2.2.2.2⟩⟩,e⟩
  have u:l=[]->l.length<=62/\ ∀x∈l,Plain x:=λh=>by subst h;exact⟨GH,GH⟩
  refine⟨_,y.kind,?_⟩;rw[F]
  have s: ∀(K:zk),(∀A (q:Bool),Ext H3 A->(q=false ↔ ∀x∈l,Plain x)->K (.bool q) A)->aV.C v.lB v.lN v.lC (.func (.func 101) #[] #[]) H3 K:=λK hK=>by
    refine Ei λR2 ak=>aV.link ?_;unfold aV.pt;refine gc (R:=λw A=>(∃r:Int,w=vi r/\(¬r>=0 ↔ ∀x∈l,Plain x))/\Ext H3 A) ?_ ?_
    · refine Ei λR3 a0=>bE.link ?_;unfold bE.pt zY;refine⟨λi A=>(0<=i/\i<=v.lN)/\Ext H3 A/\ ∀x∈l.take i.toNat,Plain x,λi _=>(v.lN-i).toNat,⟨GF,ED _,GH⟩,?_⟩;rintro i A ⟨hi,z,M⟩;by_cases L:i< (v.lN:Int)
      · rw[ka L];obtain⟨a,ha,hr⟩:=row i.toNat GF;have o:i.toNat<l.length:=GF;have eT:=f.trans z;refine⟨a,ha,⟨hi.1,L⟩,_,_,_,_,_,_,_,_,_,_,eT.rowAt hr,FC.of (enters_of func101 GE rfl) ?_⟩;show il.C _ _ _ _ _ _ _ _ _ _ A _;refine Ei λR4 al=>il.link ?_;unfold il.pt;intro b4 H5 am Z;have e5:=Eh Z;have B5:=E5 (v:=vs[i.toNat]) am Z;refine⟨_,_,_,_,_,_,_,_,_,_,B5.row,?_⟩;refine gc (ih l[i.toNat] (Eu o) (T.ext (eT.trans e5)) ((W i.toNat GF o).ext (eT.trans e5)) (ap _ (Eu o))) ?_;rintro _ H6 ⟨⟨q,rfl,g⟩,e6⟩;refine⟨_,rfl,al _ _ ⟨_,rfl,?_⟩⟩
        cases q with
        | false=>
          rw[ka GG];exact a0 _ _ ⟨⟨_,rfl,⟨λh=>absurd hi.1 h,λh=>absurd (g.2 (h _ (Eu o))) GG⟩⟩,z.trans (e5.trans e6)⟩
        | true=>
          rw[kb GG,n5 (n:=i+1) GF];refine⟨⟨GF,z.trans (e5.trans e6),λx hx=>?_⟩,by show((v.lN:Int)-(i+1)).toNat< ((v.lN:Int)-i).toNat;omega⟩;rw[show(i+1).toNat=i.toNat+1 by omega,EL o]at hx;rcases EH.1 hx with h | h
          · exact M x h
          · simp at h;subst h;exact g.1 rfl
      · rw[kb L];rw[ES GF]at M;exact a0 _ _ ⟨⟨_,rfl,⟨λ_=>M,λ_=>GG⟩⟩,z⟩
    · rintro _ A ⟨⟨r,rfl,hr⟩,z⟩;exact⟨_,rfl,ak _ _ (hK A _ z ⟨λh=>hr.1 (by simpa using h),λh=>by have:=hr.2 h;simpa using this⟩)⟩
  by_cases h3:k=3
  · rw[ka h3];refine⟨_,y.c,gc tw ?_⟩;rintro _ H4 ⟨⟨q,rfl,g⟩,rfl⟩;refine⟨_,rfl,j f ⟨λh=>⟨λ_=>by rw[<-ec];exact g.1 h,GF,GF,GF,GF,u (Q GF GF)⟩,λh=>g.2 (by rw[ec];exact h.1 h3)⟩⟩
  rw[kb h3];by_cases J:k=4
  · rw[ka J];refine⟨_,_,_,_,y.num,gc (sn (p.ext f) hm ay GF) ?_⟩;rintro _ H4 ⟨rfl,V⟩;refine⟨_,rfl,j (f.trans V) ⟨λh=>⟨GF,λ_=>by rw[en]at h;exact h,GF,GF,GF,u (Q GF GF)⟩,λh=>by rw[en];exact h.2.1 J⟩⟩
  rw[kb J];by_cases h6:k=6
  · rw[ka h6];refine⟨_,y.t,gc (pp (T.ext f) (by rw[O];omega)) ?_⟩;rintro _ H4 ⟨⟨q,rfl,g⟩,V⟩;rw[O]at g;refine⟨_,rfl,j (f.trans V) ⟨λh=>⟨GF,GF,λ_=>(g.1 h).1,λ_=>by have:=(g.1 h).2;omega,GF,u (Q GF GF)⟩,λh=>g.2 ⟨h.2.2.1 (.inr h6),by have:=h.2.2.2.1 h6;omega⟩⟩⟩
  rw[kb h6];by_cases h5:k=5
  · rw[ka h5];refine⟨_,y.t,gc (pp (T.ext f) (by rw[O];omega)) ?_⟩;rintro _ H4 ⟨⟨q,rfl,g⟩,V⟩;rw[O]at g;refine⟨_,rfl,j (f.trans V) ⟨λh=>⟨GF,GF,λ_=>(g.1 h).1,GF,GF,u (Q GF GF)⟩,λh=>g.2 ⟨h.2.2.1 (.inl h5),GF⟩⟩⟩
  rw[kb h5];by_cases h7:k=7
  · rw[ka h7];refine⟨_,_,_,y.l,?_⟩;by_cases G:(v.lN:Int)=2
    case neg=>rw[kb G];exact no f λh=>by have:=(m h).2.2.2.2.2.2.2.2.2.1 h7;omega
    rw[ka G];refine⟨_,_,_,y.l,?_⟩;rw[ka GF];refine⟨_,_,_,y.l,s _ λA q z g=>⟨_,rfl,j (f.trans z) ⟨λh=>⟨GF,GF,GF,GF,λ_=>GF,GF,g.1 (by simpa using h)⟩,λh=>by rw[g.2 h.2.2.2.2.2.2];rfl⟩⟩⟩
  rw[kb h7];by_cases h8:k=8
  · rw[ka h8];refine⟨_,_,_,y.l,?_⟩;by_cases X:(v.lN:Int)<=62
    case neg=>rw[kb X];exact no f λh=>by have:=(m h).2.2.2.2.2.2.2.2.2.2.1;omega
    rw[ka X];refine⟨_,_,_,y.l,s _ λA q z g=>⟨_,rfl,j (f.trans z) ⟨λh=>⟨GF,GF,GF,GF,GF,GF,g.1 (by simpa using h)⟩,λh=>by rw[g.2 h.2.2.2.2.2.2];rfl⟩⟩⟩
  rw[kb h8];exact j f ⟨λ_=>⟨GF,GF,GF,GF,GF,u (Q h7 h8)⟩,λ_=>rfl⟩
theorem qG{v:Dv}(T:lA H)(D:cD b H v a)(n:gP a)(m:aY a<=1000000):
    iS.C v.kind v.c v.neg v.mB v.mN v.mC v.t v.lB v.lN v.lC H (λw j=>(∃q:Bool,w=.bool q/\(q=true ↔ Plain a/\bZ a<=64))/\Ext H j):=by
  refine Ei λR g=>iS.link ?_;unfold iS.pt;intro s o l e;have d:=Eh e;have B:=E5 (v:=v) l e;refine⟨_,_,_,_,_,_,_,_,_,_,B.row,gc (tx a (T.ext d) (D.ext d) n) ?_⟩;rintro _ p ⟨⟨q,rfl,i⟩,f⟩;refine⟨_,rfl,?_⟩
  cases q with
  | false=>rw[kb GG];exact g _ _ ⟨⟨_,rfl,⟨λh=>(by cases h),λh=>absurd (i.2 h.1) GG⟩⟩,d.trans f⟩
  | true=>
  rw[ka rfl];refine⟨_,_,_,_,_,_,_,_,_,_,(B.ext f).row,gc (ux a (D.ext (d.trans f)) m) ?_⟩;rintro _ r ⟨rfl,k⟩;exact⟨_,rfl,g _ _ ⟨⟨_,rfl,⟨λh=>⟨i.1 rfl,Gv h⟩,λh=>zX h.2⟩⟩,(d.trans f).trans k⟩⟩
theorem xi(T:lA H)(D:cD b H k a)(i:gP a)(f:aY a<=1000000)(j:Plain a)(g:bZ a<=64):
    iS.C k.kind k.c k.neg k.mB k.mN k.mC k.t k.lB k.lN k.lC H (λw d=>w=VT/\Ext H d):=
  gc (qG T D i f) λ_ _ ⟨⟨q,h,l⟩,e⟩=>⟨by rw[h,l.2 ⟨j,g⟩],e⟩
