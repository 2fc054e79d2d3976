/-
 Contracts of package word, said of integers. Proves nothing of any one statement.
-/
import Derived.Test.YtfhbhckhmnleoaaGreatLx
set_option linter.unusedVariables false
set_option linter.unusedSimpArgs false
namespace Go.Proofs.YtfhbhckhmnleoaaGreat
open Go
variable{a:Int}{H:zV}
theorem mU(c:Prop) [Decidable c] (d e:IntKind)(a b f g:Int):(if c then Value.tuple #[.int d a,.int e b]else .tuple #[.int d f,.int e g])=.tuple #[.int d (if c then a else f),.int e (if c then b else g)]:=by split<;>rfl
abbrev IsW(w:Int):Prop:=aC w
theorem fp(c:IsW a):dU.C a H (λv b=>v=vi (a % 8)/\Ext H b):=by
 refine dU.link ?_
 unfold dU.pt zY
 rw[lR 3 (by decide) c 7 (by decide),w64 (by omega)]
 exact⟨rfl,Ext.refl _⟩
theorem ib{f n:Nat}{b:Nat}(d:IsW a)(g:H[b]?=some (.cells #[vu a] 28 (0,0)))(i:f<=64)(hn:n<64):
  dD.C f n (some ⟨b,0,none⟩) H (λv e=>v=vu (a / 2 ^ f % 2 ^ n)/\Ext H e):=by
 refine dD.link ?_
 unfold dD.pt
 have l:(0:Int)<2 ^ f:=Int.pow_pos (by decide)
 have m:(0:Int)<2 ^ n:=Int.pow_pos (by decide)
 have j:(2:Nat) ^ n<=2 ^ 63:=Nat.pow_le_pow_right (by decide) (by omega)
 have c:((2 ^ n:Nat):Int)=(2:Int) ^ n:=by simp
 have o:0<=a / 2 ^ f:=Int.ediv_nonneg d.1 (Int.le_of_lt l)
 have h:a / 2 ^ f<=a:=Int.ediv_le_self _ d.1
 refine⟨_,rfl,a,by rw[aH g];rfl,by omega,by omega,?_⟩
 rw[ju (k:=.u64) (f:Int) f rfl i,iw (n:Int) n rfl (by omega)]
 rw[show(1*2 ^ n:Int) % 18446744073709551616=2 ^ n by rw[Int.one_mul];exact Int.emod_eq_of_lt (by omega) (by omega)]
 rw[wu64 (by omega),lR n hn (by omega) _ rfl]
 exact⟨rfl,Ext.refl _⟩
theorem jz(e:IsW a):eX.C a H (λv i=>v=.tuple #[vi (a / 8 % 32),vi (a / 256 % 256),vu (a / 65536)]/\Ext H i):=by
 refine eX.link ?_
 unfold eX.pt zY
 intro b j q h
 have o:Ext H j:=Ext.push' h
 have d:=aL q h
 refine HC.mono (ib (f:=3) (n:=5) e d (by omega) (by omega)) ?_
 rintro _ r ⟨rfl,c⟩
 refine⟨_,rfl,?_⟩
 refine HC.mono (ib (f:=8) (n:=8) e (c.get d) (by omega) (by omega)) ?_
 rintro _ s ⟨rfl,g⟩
 refine⟨_,rfl,?_⟩
 refine HC.mono (ib (f:=16) (n:=48) e ((c.trans g).get d) (by omega) (by omega)) ?_
 rintro _ t ⟨rfl,p⟩
 refine⟨_,rfl,?_⟩
 have k:a / 2 ^ 3 % 2 ^ 5=a / 8 % 32:=rfl
 have l:a / 2 ^ 8 % 2 ^ 8=a / 256 % 256:=rfl
 have m:a / 2 ^ 16 % 2 ^ 48=a / 65536:=by
  show a / 65536 % 281474976710656=_
  omega
 rw[k,l,m,w64 (by omega),w64 (by omega)]
 exact⟨rfl,((o.trans c).trans g).trans p⟩
def ky(c:Int):Bool:=decide (c<=1114111) && (decide (c<55296) || decide (c>57343))
theorem lH:fh.C a H (λv b=>v=.bool (ky a)/\Ext H b):=fh.link ⟨rfl,Ext.refl _⟩
def jQ(t:Int):Bool:=(decide (t>=1) && decide (t<=3)) || (t==6)
theorem jA:fo.C a H (λv b=>v=.bool (jQ a)/\Ext H b):=fo.link ⟨rfl,Ext.refl _⟩
def mayW(w:Int):Bool:=
 if w % 8=0 then true
 else if w % 8=1\/w % 8=2\/w % 8=3\/w % 8=6 then decide (w / 8<65536)
 else if w % 8=4 then(if w / 8 % 32=7 then ky (w / 256)else decide (w / 8<=6))
 else if w % 8=5 then decide (1<=w / 8 % 32/\w / 8 % 32<=13/\w / 256 % 256<=62)
 else false
theorem rp(h:a % 8=0):mayW a=true:=by unfold mayW;rw[if_pos h]
theorem mq(h:a % 8=1\/a % 8=2\/a % 8=3\/a % 8=6):mayW a=decide (a / 8<65536):=by unfold mayW;rw[if_neg (by omega),if_pos h]
theorem pL(h:a % 8=4):mayW a=(if a / 8 % 32=7 then ky (a / 256)else decide (a / 8<=6)):=by unfold mayW;rw[if_neg (by omega),if_neg (by omega),if_pos h]
theorem rq(h:a % 8=5):mayW a=decide (1<=a / 8 % 32/\a / 8 % 32<=13/\a / 256 % 256<=62):=by unfold mayW;rw[if_neg (by omega),if_neg (by omega),if_neg (by omega),if_pos h]
theorem rt(h:a % 8=7):mayW a=false:=by unfold mayW;rw[if_neg (by omega),if_neg (by omega),if_neg (by omega),if_neg (by omega)]
theorem kN(l:IsW a):fU.C a H (λv m=>v=.bool (mayW a)/\Ext H m):=by
 refine HC.via λR c=>fU.link ?_
 unfold fU.pt
 refine HC.mono (jz l) ?_
 rintro _ s ⟨rfl,n⟩
 refine⟨_,_,_,rfl,?_⟩
 refine HC.mono (fp l) ?_
 rintro _ t ⟨rfl,o⟩
 refine⟨_,rfl,?_⟩
 have b:=n.trans o
 have q:ishr .u64 a 3=a / 8:=ju 3 3 rfl (by decide)
 have r:ishr .u64 a 8=a / 256:=ju 8 8 rfl (by decide)
 rw[q,r]
 by_cases f:a % 8=0
 ·rw[if_pos f];exact c _ _ ⟨by rw[rp f],b⟩
 rw[if_neg f]
 by_cases h:a % 8=1
 ·rw[if_pos h];exact c _ _ ⟨by rw[mq (by omega)],b⟩
 rw[if_neg h]
 by_cases i:a % 8=2
 ·rw[if_pos i];exact c _ _ ⟨by rw[mq (by omega)],b⟩
 rw[if_neg i]
 by_cases j:a % 8=3
 ·rw[if_pos j];exact c _ _ ⟨by rw[mq (by omega)],b⟩
 rw[if_neg j]
 by_cases k:a % 8=6
 ·rw[if_pos k];exact c _ _ ⟨by rw[mq (by omega)],b⟩
 rw[if_neg k]
 by_cases d:a % 8=4
 ·rw[if_pos d]
  by_cases e:a / 8 % 32=7
  ·rw[if_pos e]
   refine HC.mono lH ?_
   rintro _ u ⟨rfl,p⟩
   exact⟨_,rfl,c _ _ ⟨by rw[pL d,if_pos e],b.trans p⟩⟩
  ·rw[if_neg e];exact c _ _ ⟨by rw[pL d,if_neg e],b⟩
 rw[if_neg d]
 by_cases g:a % 8=5
 ·rw[if_pos g]
  refine c _ _ ⟨?_,b⟩
  rw[rq g]
  congr 1
  rw[Bool.eq_iff_iff]
  simp
  omega
 ·rw[if_neg g];exact c _ _ ⟨by rw[rt (by omega)],b⟩
def signed(w:Int):Int:=if w>=9223372036854775808 then w-18446744073709551616 else w
theorem gc(g:IsW a):dZ.C a H (λv h=>v=(if(a % 8=1\/a % 8=2\/a % 8=3\/a % 8=6)/\a / 8<65536 then .tuple #[vi (a / 8),vT]else .tuple #[vi 0,vF])/\Ext H h):=by
 refine dZ.link ?_
 unfold dZ.pt zY
 refine HC.mono (fp g) ?_
 rintro _ l ⟨rfl,i⟩
 refine⟨_,rfl,?_⟩
 refine HC.mono jA ?_
 rintro _ m ⟨rfl,j⟩
 refine⟨_,rfl,?_⟩
 have b:=i.trans j
 have k:ishr .u64 a 3=a / 8:=ju 3 3 rfl (by decide)
 split
 ·rename_i c
  have d:a % 8=1\/a % 8=2\/a % 8=3\/a % 8=6:=by unfold jQ at c;simp at c;omega
  refine HC.mono (kN g) ?_
  rintro _ n ⟨rfl,f⟩
  refine⟨_,rfl,?_⟩
  have hm:mayW a=decide (a / 8<65536):=by
   unfold mayW
   rw[if_neg (by omega),if_pos d]
  rw[hm,k]
  split
  ·rename_i e
   refine⟨?_,b.trans f⟩
   rw[if_pos ⟨d,by simpa using e⟩,w64 (by omega)]
  ·rename_i e
   refine⟨?_,b.trans f⟩
   rw[if_neg (by simp at e;omega)]
 ·rename_i c
  refine⟨?_,b⟩
  rw[if_neg]
  unfold jQ at c
  simp at c
  omega
theorem ix{b:Int}(n: -9223372036854775808<=a/\a<=9223372036854775807)(m: -9223372036854775808<=b/\b<=9223372036854775807):
  fK.C a b H (λv k=>v=(if ¬(a=1\/a=2\/a=3\/a=6)then .tuple #[vu 0,vi 1]else if 0<=b/\b<65536 then .tuple #[vu (b*8+a),vi 0]else .tuple #[vu 0,vi 18])/\Ext H k):=by
 refine HC.via λR i=>fK.link ?_
 unfold fK.pt
 refine HC.mono jA ?_
 rintro _ l ⟨rfl,g⟩
 refine⟨_,rfl,?_⟩
 by_cases c:jQ a=true
 ·rw[if_pos c]
  have d:a=1\/a=2\/a=3\/a=6:=by unfold jQ at c;simp at c;omega
  by_cases f:(decide (b<0) || decide (b>=65536))=true
  ·rw[if_pos f]
   refine i _ _ ⟨?_,g⟩
   rw[if_neg (λh=>h d),if_neg (by simp at f;omega)]
  ·rw[if_neg f]
   have j:0<=b/\b<65536:=by simp at f;omega
   refine i _ _ ⟨?_,g⟩
   rw[if_neg (λh=>h d),if_pos j,wu64 (by omega),wu64 (by omega),iw 3 3 rfl (by decide)]
   have e:b*2 ^ 3 % 18446744073709551616=b*8:=by show b*8 % _=_;omega
   rw[e,kt 3 (by omega) (by show b*8 % 8=0;omega) (by show 0<=a/\a<8;omega) (by decide)]
 ·rw[if_neg c]
  refine i _ _ ⟨?_,g⟩
  rw[if_pos]
  unfold jQ at c
  simp at c
  omega
theorem jd{n b:Int}(hk: -9223372036854775808<=a/\a<=9223372036854775807)(hn: -9223372036854775808<=n/\n<=9223372036854775807)(hm:IsW b):
  eJ.C a n b H (λv c=>v=(if(1<=a/\a<=13)/\(0<=n/\n<=62)/\b<281474976710656 then .tuple #[vu (b*65536+n*256+a*8+5),vi 0]else .tuple #[vu 0,vi 1])/\Ext H c):=by
 refine eJ.link ?_
 unfold eJ.pt
 split
 ·rename_i h
  refine⟨?_,Ext.refl _⟩
  rw[if_neg]
  simp at h
  omega
 ·rename_i h
  have g:(1<=a/\a<=13)/\(0<=n/\n<=62)/\b<281474976710656:=by simp at h;omega
  refine⟨?_,Ext.refl _⟩
  rw[if_pos g,wu64 (by omega),wu64 (by omega),iw 16 16 rfl (by decide),iw 8 8 rfl (by decide),iw 3 3 rfl (by decide)]
  have d:b*2 ^ 16 % 18446744073709551616=b*65536:=by show b*65536 % _=_;omega
  have e:n*2 ^ 8 % 18446744073709551616=n*256:=by show n*256 % _=_;omega
  have f:a*2 ^ 3 % 18446744073709551616=a*8:=by show a*8 % _=_;omega
  rw[d,e,f,kt (x:=b*65536) 16 (by omega) (by show b*65536 % 65536=0;omega) (by show 0<=n*256/\n*256<65536;omega) (by decide),
   kt (x:=b*65536+n*256) 8 (by omega) (by show(b*65536+n*256) % 256=0;omega) (by show 0<=a*8/\a*8<256;omega) (by decide),
   kt (x:=b*65536+n*256+a*8) 3 (by omega) (by show(b*65536+n*256+a*8) % 8=0;omega) (by decide) (by decide)]
theorem mV(d:IsW a):fO.C a H (λv f=>v=(if a % 8=5/\(1<=a / 8 % 32/\a / 8 % 32<=13/\a / 256 % 256<=62)then .tuple #[vi (a / 8 % 32),vi (a / 256 % 256),vu (a / 65536),vT]else .tuple #[vi 0,vi 0,vu 0,vF])/\Ext H f):=by
 refine fO.link ?_
 unfold fO.pt
 refine HC.mono (fp d) ?_
 rintro _ i ⟨rfl,b⟩
 refine⟨_,rfl,?_⟩
 split
 ·refine HC.mono (kN d) ?_
  rintro _ j ⟨rfl,e⟩
  refine⟨_,rfl,?_⟩
  have hm:mayW a=decide (1<=a / 8 % 32/\a / 8 % 32<=13/\a / 256 % 256<=62):=by
   unfold mayW
   rw[if_neg (by omega),if_neg (by omega),if_neg (by omega),if_pos (by omega)]
  rw[hm]
  split
  ·rename_i c
   refine HC.mono (jz d) ?_
   rintro _ k ⟨rfl,g⟩
   refine⟨_,_,_,rfl,?_,(b.trans e).trans g⟩
   rw[if_pos ⟨by omega,of_decide_eq_true c⟩]
  ·rename_i c
   refine⟨?_,b.trans e⟩
   rw[if_neg]
   rintro⟨_,h⟩
   exact c (zX h)
 ·refine⟨?_,b⟩
  rw[if_neg (by omega)]
