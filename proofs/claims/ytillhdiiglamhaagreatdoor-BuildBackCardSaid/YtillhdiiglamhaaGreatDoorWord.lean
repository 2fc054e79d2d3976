/-
 Contracts of package word, said of integers. Proves nothing of any one statement.
-/
import Derived.Test.YtillhdiiglamhaaGreatDoorFref02
set_option linter.unusedVariables false
set_option linter.unusedSimpArgs false
namespace Go.Proofs.YtillhdiiglamhaaGreatDoor
open Go
variable{a:Int}{H:zV}
theorem tX(c:Prop) [Decidable c] (d e:IntKind)(a b f g:Int):(if c then Value.tuple #[.int d a,.int e b]else .tuple #[.int d f,.int e g])=.tuple #[.int d (if c then a else f),.int e (if c then b else g)]:=by split<;>rfl
abbrev CV(w:Int):Prop:=aO w
theorem gk(c:CV a):fF.C a H (λv b=>v=vi (a % 8)/\Ext H b):=by
 refine fF.link ?_;unfold fF.pt zY;rw[rR 3 GG c 7 GG,n5 GF];exact⟨rfl,ED _⟩
theorem lx{f n:Nat}{b:Nat}(d:CV a)(g:H[b]?=some (.cells #[vu a] 37 (0,0)))(i:f<=64)(hn:n<64):
  fX.C f n (some ⟨b,0,none⟩) H (λv e=>v=vu (a / 2 ^ f % 2 ^ n)/\Ext H e):=by
 refine fX.link ?_;unfold fX.pt;have l:(0:Int)<2 ^ f:=Int.pow_pos GG;have m:(0:Int)<2 ^ n:=Int.pow_pos GG;have j:(2:Nat) ^ n<=2 ^ 63:=Gq GG GF;have c:((2 ^ n:Nat):Int)=(2:Int) ^ n:=GH;have o:0<=a / 2 ^ f:=Int.ediv_nonneg d.1 (Int.le_of_lt l);have h:a / 2 ^ f<=a:=Int.ediv_le_self _ d.1;refine⟨_,rfl,a,by rw[aW g];rfl,GF,GF,?_⟩;rw[kr (k:=.u64) (f:Int) f rfl i,kt (n:Int) n rfl GF];rw[show(1*2 ^ n:Int) % 18446744073709551616=2 ^ n by rw[Int.one_mul];exact Fu GF GF];rw[BN GF,rR n hn GF _ rfl];exact⟨rfl,ED _⟩
theorem mg(e:CV a):iq.C a H (λv i=>v=.tuple #[vi (a / 8 % 32),vi (a / 256 % 256),vu (a / 65536)]/\Ext H i):=by
 refine iq.link ?_;unfold iq.pt zY;intro b j q h;have o:Ext H j:=Eh h;have d:=aK q h;refine gc (lx (f:=3) (n:=5) e d GF GF) ?_;rintro _ r ⟨rfl,c⟩;refine⟨_,rfl,?_⟩;refine gc (lx (f:=8) (n:=8) e (c.get d) GF GF) ?_;rintro _ s ⟨rfl,g⟩;refine⟨_,rfl,?_⟩;refine gc (lx (f:=16) (n:=48) e ((c.trans g).get d) GF GF) ?_;rintro _ t ⟨rfl,p⟩;refine⟨_,rfl,?_⟩;have k:a / 2 ^ 3 % 2 ^ 5=a / 8 % 32:=rfl;have l:a / 2 ^ 8 % 2 ^ 8=a / 256 % 256:=rfl
 have m:a / 2 ^ 16 % 2 ^ 48=a / 65536:=by
  show a / 65536 % 281474976710656=_;omega
 rw[k,l,m,n5 GF,n5 GF];exact⟨rfl,((o.trans c).trans g).trans p⟩
def iG(c:Int):Bool:=decide (c<=1114111) && (decide (c<55296) || decide (c>57343))
theorem nt:iE.C a H (λv b=>v=.bool (iG a)/\Ext H b):=iE.link ⟨rfl,ED _⟩
def oJ(t:Int):Bool:=(decide (t>=1) && decide (t<=3)) || (t==6)
theorem od:jd.C a H (λv b=>v=.bool (oJ a)/\Ext H b):=jd.link ⟨rfl,ED _⟩
def BB(w:Int):Bool:=
 if w % 8=0 then true
 else if w % 8=1\/w % 8=2\/w % 8=3\/w % 8=6 then decide (w / 8<65536)
 else if w % 8=4 then(if w / 8 % 32=7 then iG (w / 256)else decide (w / 8<=6))
 else if w % 8=5 then decide (1<=w / 8 % 32/\w / 8 % 32<=13/\w / 256 % 256<=62)
 else false
theorem Ap(h:a % 8=0):BB a=true:=by unfold BB;rw[ka h]
theorem tf(h:a % 8=1\/a % 8=2\/a % 8=3\/a % 8=6):BB a=decide (a / 8<65536):=by unfold BB;rw[kb GF,ka h]
theorem yj(h:a % 8=4):BB a=(if a / 8 % 32=7 then iG (a / 256)else decide (a / 8<=6)):=by unfold BB;rw[kb GF,kb GF,ka h]
theorem Aq(h:a % 8=5):BB a=decide (1<=a / 8 % 32/\a / 8 % 32<=13/\a / 256 % 256<=62):=by unfold BB;rw[kb GF,kb GF,kb GF,ka h]
theorem Ar(h:a % 8=7):BB a=false:=by unfold BB;rw[kb GF,kb GF,kb GF,kb GF]
theorem nH(l:CV a):jx.C a H (λv m=>v=.bool (BB a)/\Ext H m):=by
 refine Ei λR c=>jx.link ?_;unfold jx.pt;refine gc (mg l) ?_;rintro _ s ⟨rfl,n⟩;refine⟨_,_,_,rfl,?_⟩;refine gc (gk l) ?_;rintro _ t ⟨rfl,o⟩;refine⟨_,rfl,?_⟩;have b:=n.trans o;have q:o0 .u64 a 3=a / 8:=kr 3 3 rfl GG;have r:o0 .u64 a 8=a / 256:=kr 8 8 rfl GG;rw[q,r];by_cases f:a % 8=0
 ·rw[ka f];exact c _ _ ⟨by rw[Ap f],b⟩
 rw[kb f];by_cases h:a % 8=1
 ·rw[ka h];exact c _ _ ⟨by rw[tf GF],b⟩
 rw[kb h];by_cases i:a % 8=2
 ·rw[ka i];exact c _ _ ⟨by rw[tf GF],b⟩
 rw[kb i];by_cases j:a % 8=3
 ·rw[ka j];exact c _ _ ⟨by rw[tf GF],b⟩
 rw[kb j];by_cases k:a % 8=6
 ·rw[ka k];exact c _ _ ⟨by rw[tf GF],b⟩
 rw[kb k];by_cases d:a % 8=4
 ·rw[ka d];by_cases e:a / 8 % 32=7
  ·rw[ka e];refine gc nt ?_;rintro _ u ⟨rfl,p⟩;exact⟨_,rfl,c _ _ ⟨by rw[yj d,ka e],b.trans p⟩⟩
  ·rw[kb e];exact c _ _ ⟨by rw[yj d,kb e],b⟩
 rw[kb d];by_cases g:a % 8=5
 ·rw[ka g];refine c _ _ ⟨?_,b⟩;rw[Aq g];congr 1;rw[Bool.eq_iff_iff];simp;omega
 ·rw[kb g];exact c _ _ ⟨by rw[Ar GF],b⟩
def Cr(x:Int):Int:=x*8 % 18446744073709551616
theorem va(d: -9223372036854775808<=a/\a<=9223372036854775807):kx.C a H (λv b=>v=(if-1152921504606846976<=a/\a<1152921504606846976 then .tuple #[vu (Cr a),vi 0]else .tuple #[vu 0,vi 4])/\Ext H b):=by
 refine kx.link ?_;unfold kx.pt;rw[yc 3 3 rfl GG];split
 ·rename_i h
  refine⟨?_,ED _⟩;rw[kb];simp at h;omega
 ·rename_i h
  refine⟨?_,ED _⟩
  have c: -1152921504606846976<=a/\a<1152921504606846976:=by
   simp at h;omega
  rw[ka c];have e:a*2 ^ 3=a*8:=rfl;rw[e,n5 GF,nX];rfl
def signed(w:Int):Int:=if w>=9223372036854775808 then w-18446744073709551616 else w
theorem tY(b:CV a):IntKind.wrap .i64 a=signed a:=by
 rw[zg,Fu b.1 b.2];rfl
theorem vb(b:CV a):kz.C a H (λv c=>v=(if a % 8=0 then .tuple #[vi (signed a / 8),VT]else .tuple #[vi 0,VF])/\Ext H c):=by
 refine kz.link ?_;unfold kz.pt zY;refine gc (gk b) ?_;rintro _ e ⟨rfl,d⟩;refine⟨_,rfl,?_⟩;rw[tY b,kr 3 3 rfl GG];split<;>exact⟨rfl,d⟩
theorem tZ(i: -2147483648<=a/\a<=2147483647):jF.C a H (λv d=>v=(if 0<=a/\iG a=true then .tuple #[vu (a*256+60),vi 0]else .tuple #[vu 0,vi 4])/\Ext H d):=by
 refine jF.link ?_;unfold jF.pt;split
 ·rename_i h
  refine⟨?_,ED _⟩;rw[kb GF]
 ·rename_i h
  rw[BN GF];refine gc nt ?_;rintro _ f ⟨rfl,c⟩;refine⟨_,rfl,?_⟩;split
  ·rename_i b
   refine⟨?_,c⟩;rw[ka ⟨GF,b⟩];have g:a<=1114111:=by unfold iG at b;simp at b;exact b.1
   have e:k8 .u64 a 8=a*256:=by rw[kt 8 8 rfl GG];show a*256 % _=_;omega
   rw[e,lI (x:=a*256) 8 GF (by show a*256 % 256=0;omega) GG GG,lI (x:=a*256+56) 3 GF (by show(a*256+56) % 8=0;omega) GG GG];rw[show a*256+56+4=a*256+60 by omega]
  ·rename_i b
   refine⟨?_,c⟩;rw[kb (by simp[b])]
theorem t6(d:CV a):jJ.C a H (λv f=>v=(if a % 8=4/\a / 8 % 32=7/\iG (a / 256)=true then .tuple #[.int .i32 (a / 256),VT]else .tuple #[.int .i32 0,VF])/\Ext H f):=by
 refine jJ.link ?_;unfold jJ.pt;refine gc (mg d) ?_;rintro _ j ⟨rfl,g⟩;refine⟨_,_,_,rfl,?_⟩;refine gc (gk d) ?_;rintro _ k ⟨rfl,h⟩;refine⟨_,rfl,?_⟩;have b:=g.trans h;have i:o0 .u64 a 8=a / 256:=kr 8 8 rfl GG;split
 ·split
  ·refine gc (nH d) ?_;rintro _ l ⟨rfl,e⟩;refine⟨_,rfl,?_⟩
   have hm:BB a=iG (a / 256):=by
    unfold BB;rw[kb GF,kb GF,ka GF,ka GF]
   rw[hm];split
   ·rename_i c
    refine⟨?_,b.trans e⟩;rw[ka ⟨GF,GF,c⟩,i];have m:a / 256<=1114111:=by unfold iG at c;simp at c;exact c.1
    rw[CQ GF]
   ·rename_i c
    refine⟨?_,b.trans e⟩;rw[kb (by simp[c])]
  ·refine⟨?_,b⟩;rw[kb GF]
 ·refine⟨?_,b⟩;rw[kb GF]
theorem kf(g:CV a):gO.C a H (λv h=>v=(if(a % 8=1\/a % 8=2\/a % 8=3\/a % 8=6)/\a / 8<65536 then .tuple #[vi (a / 8),VT]else .tuple #[vi 0,VF])/\Ext H h):=by
 refine gO.link ?_;unfold gO.pt zY;refine gc (gk g) ?_;rintro _ l ⟨rfl,i⟩;refine⟨_,rfl,?_⟩;refine gc od ?_;rintro _ m ⟨rfl,j⟩;refine⟨_,rfl,?_⟩;have b:=i.trans j;have k:o0 .u64 a 3=a / 8:=kr 3 3 rfl GG;split
 ·rename_i c
  have d:a % 8=1\/a % 8=2\/a % 8=3\/a % 8=6:=by unfold oJ at c;simp at c;omega
  refine gc (nH g) ?_;rintro _ n ⟨rfl,f⟩;refine⟨_,rfl,?_⟩
  have hm:BB a=decide (a / 8<65536):=by
   unfold BB;rw[kb GF,ka d]
  rw[hm,k];split
  ·rename_i e
   refine⟨?_,b.trans f⟩;rw[ka ⟨d,by simpa using e⟩,n5 GF]
  ·rename_i e
   refine⟨?_,b.trans f⟩;rw[kb (by simp at e;omega)]
 ·rename_i c
  refine⟨?_,b⟩;rw[kb];unfold oJ at c;simp at c;omega
theorem ni{b:Int}(n: -9223372036854775808<=a/\a<=9223372036854775807)(m: -9223372036854775808<=b/\b<=9223372036854775807):
  j1.C a b H (λv k=>v=(if ¬(a=1\/a=2\/a=3\/a=6)then .tuple #[vu 0,vi 1]else if 0<=b/\b<65536 then .tuple #[vu (b*8+a),vi 0]else .tuple #[vu 0,vi 18])/\Ext H k):=by
 refine Ei λR i=>j1.link ?_;unfold j1.pt;refine gc od ?_;rintro _ l ⟨rfl,g⟩;refine⟨_,rfl,?_⟩;by_cases c:oJ a=true
 ·rw[ka c];have d:a=1\/a=2\/a=3\/a=6:=by unfold oJ at c;simp at c;omega
  by_cases f:(decide (b<0) || decide (b>=65536))=true
  ·rw[ka f];refine i _ _ ⟨?_,g⟩;rw[kb (λh=>h d),kb (by simp at f;omega)]
  ·rw[kb f];have j:0<=b/\b<65536:=by simp at f;omega
   refine i _ _ ⟨?_,g⟩;rw[kb (λh=>h d),ka j,BN GF,BN GF,kt 3 3 rfl GG];have e:b*2 ^ 3 % 18446744073709551616=b*8:=by show b*8 % _=_;omega
   rw[e,lI 3 GF (by show b*8 % 8=0;omega) (by show 0<=a/\a<8;omega) GG]
 ·rw[kb c];refine i _ _ ⟨?_,g⟩;rw[ka];unfold oJ at c;simp at c;omega
theorem nu{n b:Int}(hk: -9223372036854775808<=a/\a<=9223372036854775807)(hn: -9223372036854775808<=n/\n<=9223372036854775807)(hm:CV b):
  ik.C a n b H (λv c=>v=(if(1<=a/\a<=13)/\(0<=n/\n<=62)/\b<281474976710656 then .tuple #[vu (b*65536+n*256+a*8+5),vi 0]else .tuple #[vu 0,vi 1])/\Ext H c):=by
 refine ik.link ?_;unfold ik.pt;split
 ·rename_i h
  refine⟨?_,ED _⟩;rw[kb];simp at h;omega
 ·rename_i h
  have g:(1<=a/\a<=13)/\(0<=n/\n<=62)/\b<281474976710656:=by simp at h;omega
  refine⟨?_,ED _⟩;rw[ka g,BN GF,BN GF,kt 16 16 rfl GG,kt 8 8 rfl GG,kt 3 3 rfl GG];have d:b*2 ^ 16 % 18446744073709551616=b*65536:=by show b*65536 % _=_;omega
  have e:n*2 ^ 8 % 18446744073709551616=n*256:=by show n*256 % _=_;omega
  have f:a*2 ^ 3 % 18446744073709551616=a*8:=by show a*8 % _=_;omega
  rw[d,e,f,lI (x:=b*65536) 16 GF (by show b*65536 % 65536=0;omega) (by show 0<=n*256/\n*256<65536;omega) GG,
   lI (x:=b*65536+n*256) 8 GF (by show(b*65536+n*256) % 256=0;omega) (by show 0<=a*8/\a*8<256;omega) GG,
   lI (x:=b*65536+n*256+a*8) 3 GF (by show(b*65536+n*256+a*8) % 8=0;omega) GG GG]
theorem t7(d:CV a):jL.C a H (λv f=>v=(if a % 8=5/\(1<=a / 8 % 32/\a / 8 % 32<=13/\a / 256 % 256<=62)then .tuple #[vi (a / 8 % 32),vi (a / 256 % 256),vu (a / 65536),VT]else .tuple #[vi 0,vi 0,vu 0,VF])/\Ext H f):=by
 refine jL.link ?_;unfold jL.pt;refine gc (gk d) ?_;rintro _ i ⟨rfl,b⟩;refine⟨_,rfl,?_⟩;split
 ·refine gc (nH d) ?_;rintro _ j ⟨rfl,e⟩;refine⟨_,rfl,?_⟩
  have hm:BB a=decide (1<=a / 8 % 32/\a / 8 % 32<=13/\a / 256 % 256<=62):=by
   unfold BB;rw[kb GF,kb GF,kb GF,ka GF]
  rw[hm];split
  ·rename_i c
   refine gc (mg d) ?_;rintro _ k ⟨rfl,g⟩;refine⟨_,_,_,rfl,?_,(b.trans e).trans g⟩;rw[ka ⟨GF,Gv c⟩]
  ·rename_i c
   refine⟨?_,b.trans e⟩;rw[kb];rintro⟨_,h⟩;exact c (zX h)
 ·refine⟨?_,b⟩;rw[kb GF]
