/-
 Contracts of package word, said of integers. Proves nothing of any one statement.
-/
import Derived.Test.YtmlhlkbpglcccaaGreatFword
set_option linter.unusedVariables false
set_option linter.unusedSimpArgs false
namespace Go.Proofs.YtmlhlkbpglcccaaGreat
open Go

theorem lc(c:Prop) [Decidable c] (k1 k2:IntKind)(a b a' b':Int):(if c then Value.tuple #[.int k1 a,.int k2 b]else .tuple #[.int k1 a',.int k2 b'])=.tuple #[.int k1 (if c then a else a'),.int k2 (if c then b else b')]:=by split<;>rfl
abbrev IsW(w:Int):Prop:=aH w

theorem eN{wv:Int}{H:zV}(hw:IsW wv):dQ.C wv H (λv H'=>v=.int .i64 (wv % 8)/\Ext H H'):=by
 refine dQ.link ?_
 unfold dQ.pt zY
 rw[kn 3 (by decide) hw 7 (by decide),w64 (by omega)]
 exact⟨rfl,Ext.refl _⟩

theorem gj{x:Int}{f n:Nat}{b:Nat}{H:zV}(hw:IsW x)(hb:H[b]?=some (.cells #[.int .u64 x] 28 (0,0)))(hf:f<=64)(hn:n<64):
  dv.C f n (some ⟨b,0,none⟩) H (λv H'=>v=.int .u64 (x / 2 ^ f % 2 ^ n)/\Ext H H'):=by
 refine dv.link ?_
 unfold dv.pt
 have hp:(0:Int)<2 ^ f:=Int.pow_pos (by decide)
 have hpn:(0:Int)<2 ^ n:=Int.pow_pos (by decide)
 have hle:(2:Nat) ^ n<=2 ^ 63:=Nat.pow_le_pow_right (by decide) (by omega)
 have hcast:((2 ^ n:Nat):Int)=(2:Int) ^ n:=by simp
 have hd:0<=x / 2 ^ f:=Int.ediv_nonneg hw.1 (Int.le_of_lt hp)
 have hd2:x / 2 ^ f<=x:=Int.ediv_le_self _ hw.1
 refine⟨_,rfl,x,by rw[aM hb];rfl,by omega,by omega,?_⟩
 rw[ix (k:=.u64) (f:Int) f rfl hf,gV (n:Int) n rfl (by omega)]
 rw[show(1*2 ^ n:Int) % 18446744073709551616=2 ^ n by rw[Int.one_mul];exact Int.emod_eq_of_lt (by omega) (by omega)]
 rw[wu64 (by omega),kn n hn (by omega) _ rfl]
 exact⟨rfl,Ext.refl _⟩

theorem iB{wv:Int}{H:zV}(hw:IsW wv):eB.C wv H (λv H'=>v=.tuple #[.int .i64 (wv / 8 % 32),.int .i64 (wv / 256 % 256),.int .u64 (wv / 65536)]/\Ext H H'):=by
 refine eB.link ?_
 unfold eB.pt zY
 intro b H1 hb hH
 have e1:Ext H H1:=Ext.push' hH
 have g1:=aL hb hH
 refine HC.mono (gj (f:=3) (n:=5) hw g1 (by omega) (by omega)) ?_
 rintro _ H2 ⟨rfl,e2⟩
 refine⟨_,rfl,?_⟩
 refine HC.mono (gj (f:=8) (n:=8) hw (e2.get g1) (by omega) (by omega)) ?_
 rintro _ H3 ⟨rfl,e3⟩
 refine⟨_,rfl,?_⟩
 refine HC.mono (gj (f:=16) (n:=48) hw ((e2.trans e3).get g1) (by omega) (by omega)) ?_
 rintro _ H4 ⟨rfl,e4⟩
 refine⟨_,rfl,?_⟩
 have a1:wv / 2 ^ 3 % 2 ^ 5=wv / 8 % 32:=rfl
 have a2:wv / 2 ^ 8 % 2 ^ 8=wv / 256 % 256:=rfl
 have a3:wv / 2 ^ 16 % 2 ^ 48=wv / 65536:=by
  show wv / 65536 % 281474976710656=_
  omega
 rw[a1,a2,a3,w64 (by omega),w64 (by omega)]
 exact⟨rfl,((e1.trans e2).trans e3).trans e4⟩

def jo(c:Int):Bool:=decide (c<=1114111) && (decide (c<55296) || decide (c>57343))
theorem j9{c:Int}{H:zV}:eI.C c H (λv H'=>v=.bool (jo c)/\Ext H H'):=eI.link ⟨rfl,Ext.refl _⟩
def iR(t:Int):Bool:=(decide (t>=1) && decide (t<=3)) || (t==6)
theorem iC{c:Int}{H:zV}:eM.C c H (λv H'=>v=.bool (iR c)/\Ext H H'):=eM.link ⟨rfl,Ext.refl _⟩

def mayW(w:Int):Bool:=
 if w % 8=0 then true
 else if w % 8=1\/w % 8=2\/w % 8=3\/w % 8=6 then decide (w / 8<65536)
 else if w % 8=4 then(if w / 8 % 32=7 then jo (w / 256)else decide (w / 8<=6))
 else if w % 8=5 then decide (1<=w / 8 % 32/\w / 8 % 32<=13/\w / 256 % 256<=62)
 else false

theorem oR{w:Int}(h:w % 8=0):mayW w=true:=by unfold mayW;rw[if_pos h]
theorem kL{w:Int}(h:w % 8=1\/w % 8=2\/w % 8=3\/w % 8=6):mayW w=decide (w / 8<65536):=by unfold mayW;rw[if_neg (by omega),if_pos h]
theorem nC{w:Int}(h:w % 8=4):mayW w=(if w / 8 % 32=7 then jo (w / 256)else decide (w / 8<=6)):=by unfold mayW;rw[if_neg (by omega),if_neg (by omega),if_pos h]
theorem oS{w:Int}(h:w % 8=5):mayW w=decide (1<=w / 8 % 32/\w / 8 % 32<=13/\w / 256 % 256<=62):=by unfold mayW;rw[if_neg (by omega),if_neg (by omega),if_neg (by omega),if_pos h]
theorem oT{w:Int}(h:w % 8=7):mayW w=false:=by unfold mayW;rw[if_neg (by omega),if_neg (by omega),if_neg (by omega),if_neg (by omega)]

theorem jG{wv:Int}{H:zV}(hw:IsW wv):fo.C wv H (λv H'=>v=.bool (mayW wv)/\Ext H H'):=by
 refine HC.via λR hR=>fo.link ?_
 unfold fo.pt
 refine HC.mono (iB hw) ?_
 rintro _ H1 ⟨rfl,e1⟩
 refine⟨_,_,_,rfl,?_⟩
 refine HC.mono (eN hw) ?_
 rintro _ H2 ⟨rfl,e2⟩
 refine⟨_,rfl,?_⟩
 have e12:=e1.trans e2
 have s3:ishr .u64 wv 3=wv / 8:=ix 3 3 rfl (by decide)
 have s8:ishr .u64 wv 8=wv / 256:=ix 8 8 rfl (by decide)
 rw[s3,s8]
 by_cases h0:wv % 8=0
 ·rw[if_pos h0];exact hR _ _ ⟨by rw[oR h0],e12⟩
 rw[if_neg h0]
 by_cases h1:wv % 8=1
 ·rw[if_pos h1];exact hR _ _ ⟨by rw[kL (by omega)],e12⟩
 rw[if_neg h1]
 by_cases h2:wv % 8=2
 ·rw[if_pos h2];exact hR _ _ ⟨by rw[kL (by omega)],e12⟩
 rw[if_neg h2]
 by_cases h3:wv % 8=3
 ·rw[if_pos h3];exact hR _ _ ⟨by rw[kL (by omega)],e12⟩
 rw[if_neg h3]
 by_cases h6:wv % 8=6
 ·rw[if_pos h6];exact hR _ _ ⟨by rw[kL (by omega)],e12⟩
 rw[if_neg h6]
 by_cases h4:wv % 8=4
 ·rw[if_pos h4]
  by_cases h7:wv / 8 % 32=7
  ·rw[if_pos h7]
   refine HC.mono j9 ?_
   rintro _ H3 ⟨rfl,e3⟩
   exact⟨_,rfl,hR _ _ ⟨by rw[nC h4,if_pos h7],e12.trans e3⟩⟩
  ·rw[if_neg h7];exact hR _ _ ⟨by rw[nC h4,if_neg h7],e12⟩
 rw[if_neg h4]
 by_cases h5:wv % 8=5
 ·rw[if_pos h5]
  refine hR _ _ ⟨?_,e12⟩
  rw[oS h5]
  congr 1
  rw[Bool.eq_iff_iff]
  simp
  omega
 ·rw[if_neg h5];exact hR _ _ ⟨by rw[oT (by omega)],e12⟩

def signed(w:Int):Int:=if w>=9223372036854775808 then w-18446744073709551616 else w
theorem fx{wv:Int}{H:zV}(hw:IsW wv):dV.C wv H (λv H'=>v=(if(wv % 8=1\/wv % 8=2\/wv % 8=3\/wv % 8=6)/\wv / 8<65536 then .tuple #[.int .i64 (wv / 8),.bool true]else .tuple #[.int .i64 0,.bool false])/\Ext H H'):=by
 refine dV.link ?_
 unfold dV.pt zY
 refine HC.mono (eN hw) ?_
 rintro _ H1 ⟨rfl,e1⟩
 refine⟨_,rfl,?_⟩
 refine HC.mono iC ?_
 rintro _ H2 ⟨rfl,e2⟩
 refine⟨_,rfl,?_⟩
 have e12:=e1.trans e2
 have s3:ishr .u64 wv 3=wv / 8:=ix 3 3 rfl (by decide)
 split
 ·rename_i hp
  have hp':wv % 8=1\/wv % 8=2\/wv % 8=3\/wv % 8=6:=by unfold iR at hp;simp at hp;omega
  refine HC.mono (jG hw) ?_
  rintro _ H3 ⟨rfl,e3⟩
  refine⟨_,rfl,?_⟩
  have hm:mayW wv=decide (wv / 8<65536):=by
   unfold mayW
   rw[if_neg (by omega),if_pos hp']
  rw[hm,s3]
  split
  ·rename_i hl
   refine⟨?_,e12.trans e3⟩
   rw[if_pos ⟨hp',by simpa using hl⟩,w64 (by omega)]
  ·rename_i hl
   refine⟨?_,e12.trans e3⟩
   rw[if_neg (by simp at hl;omega)]
 ·rename_i hp
  refine⟨?_,e12⟩
  rw[if_neg]
  unfold iR at hp
  simp at hp
  omega

theorem gE{tag addr:Int}{H:zV}(ht: -9223372036854775808<=tag/\tag<=9223372036854775807)(ha: -9223372036854775808<=addr/\addr<=9223372036854775807):
  fe.C tag addr H (λv H'=>v=(if ¬(tag=1\/tag=2\/tag=3\/tag=6)then .tuple #[.int .u64 0,.int .i64 1]else if 0<=addr/\addr<65536 then .tuple #[.int .u64 (addr*8+tag),.int .i64 0]else .tuple #[.int .u64 0,.int .i64 18])/\Ext H H'):=by
 refine HC.via λR hR=>fe.link ?_
 unfold fe.pt
 refine HC.mono iC ?_
 rintro _ H1 ⟨rfl,e1⟩
 refine⟨_,rfl,?_⟩
 by_cases hp:iR tag=true
 ·rw[if_pos hp]
  have hp':tag=1\/tag=2\/tag=3\/tag=6:=by unfold iR at hp;simp at hp;omega
  by_cases hl:(decide (addr<0) || decide (addr>=65536))=true
  ·rw[if_pos hl]
   refine hR _ _ ⟨?_,e1⟩
   rw[if_neg (λh=>h hp'),if_neg (by simp at hl;omega)]
  ·rw[if_neg hl]
   have hl':0<=addr/\addr<65536:=by simp at hl;omega
   refine hR _ _ ⟨?_,e1⟩
   rw[if_neg (λh=>h hp'),if_pos hl',wu64 (by omega),wu64 (by omega),gV 3 3 rfl (by decide)]
   have e:addr*2 ^ 3 % 18446744073709551616=addr*8:=by show addr*8 % _=_;omega
   rw[e,jj 3 (by omega) (by show addr*8 % 8=0;omega) (by show 0<=tag/\tag<8;omega) (by decide)]
 ·rw[if_neg hp]
  refine hR _ _ ⟨?_,e1⟩
  rw[if_pos]
  unfold iR at hp
  simp at hp
  omega

theorem ib{kind n more:Int}{H:zV}(hk: -9223372036854775808<=kind/\kind<=9223372036854775807)(hn: -9223372036854775808<=n/\n<=9223372036854775807)(hm:IsW more):
  eh.C kind n more H (λv H'=>v=(if(1<=kind/\kind<=13)/\(0<=n/\n<=62)/\more<281474976710656 then .tuple #[.int .u64 (more*65536+n*256+kind*8+5),.int .i64 0]else .tuple #[.int .u64 0,.int .i64 1])/\Ext H H'):=by
 refine eh.link ?_
 unfold eh.pt
 split
 ·rename_i h
  refine⟨?_,Ext.refl _⟩
  rw[if_neg]
  simp at h
  omega
 ·rename_i h
  have h':(1<=kind/\kind<=13)/\(0<=n/\n<=62)/\more<281474976710656:=by simp at h;omega
  refine⟨?_,Ext.refl _⟩
  rw[if_pos h',wu64 (by omega),wu64 (by omega),gV 16 16 rfl (by decide),gV 8 8 rfl (by decide),gV 3 3 rfl (by decide)]
  have a1:more*2 ^ 16 % 18446744073709551616=more*65536:=by show more*65536 % _=_;omega
  have a2:n*2 ^ 8 % 18446744073709551616=n*256:=by show n*256 % _=_;omega
  have a3:kind*2 ^ 3 % 18446744073709551616=kind*8:=by show kind*8 % _=_;omega
  rw[a1,a2,a3,jj (x:=more*65536) 16 (by omega) (by show more*65536 % 65536=0;omega) (by show 0<=n*256/\n*256<65536;omega) (by decide),
   jj (x:=more*65536+n*256) 8 (by omega) (by show(more*65536+n*256) % 256=0;omega) (by show 0<=kind*8/\kind*8<256;omega) (by decide),
   jj (x:=more*65536+n*256+kind*8) 3 (by omega) (by show(more*65536+n*256+kind*8) % 8=0;omega) (by decide) (by decide)]

theorem lf{wv:Int}{H:zV}(hw:IsW wv):fi.C wv H (λv H'=>v=(if wv % 8=5/\(1<=wv / 8 % 32/\wv / 8 % 32<=13/\wv / 256 % 256<=62)then .tuple #[.int .i64 (wv / 8 % 32),.int .i64 (wv / 256 % 256),.int .u64 (wv / 65536),.bool true]else .tuple #[.int .i64 0,.int .i64 0,.int .u64 0,.bool false])/\Ext H H'):=by
 refine fi.link ?_
 unfold fi.pt
 refine HC.mono (eN hw) ?_
 rintro _ H1 ⟨rfl,e1⟩
 refine⟨_,rfl,?_⟩
 split
 ·refine HC.mono (jG hw) ?_
  rintro _ H2 ⟨rfl,e2⟩
  refine⟨_,rfl,?_⟩
  have hm:mayW wv=decide (1<=wv / 8 % 32/\wv / 8 % 32<=13/\wv / 256 % 256<=62):=by
   unfold mayW
   rw[if_neg (by omega),if_neg (by omega),if_neg (by omega),if_pos (by omega)]
  rw[hm]
  split
  ·rename_i hl
   refine HC.mono (iB hw) ?_
   rintro _ H3 ⟨rfl,e3⟩
   refine⟨_,_,_,rfl,?_,(e1.trans e2).trans e3⟩
   rw[if_pos ⟨by omega,of_decide_eq_true hl⟩]
  ·rename_i hl
   refine⟨?_,e1.trans e2⟩
   rw[if_neg]
   rintro⟨_,h⟩
   exact hl (zX h)
 ·refine⟨?_,e1⟩
  rw[if_neg (by omega)]
