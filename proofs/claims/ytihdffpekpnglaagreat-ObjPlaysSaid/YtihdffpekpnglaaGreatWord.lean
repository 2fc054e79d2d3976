/-
 Contracts of package word, said of integers. Proves nothing of any one statement.
-/
import Derived.Test.YtihdffpekpnglaaGreatFword
set_option linter.unusedVariables false
set_option linter.unusedSimpArgs false
namespace Go.Proofs.YtihdffpekpnglaaGreat
open Go

theorem oL(c:Prop) [Decidable c] (k1 k2:IntKind)(a b a' b':Int):(if c then Value.tuple #[.int k1 a,.int k2 b]else .tuple #[.int k1 a',.int k2 b'])=.tuple #[.int k1 (if c then a else a'),.int k2 (if c then b else b')]:=by split<;>rfl
abbrev IsW(w:Int):Prop:=aM w

theorem jh{wv:Int}{H:zW}(hw:IsW wv):hN.C wv H (λv H'=>v=.int .i64 (wv % 8)/\Ext H H'):=by
 refine hN.link ?_
 unfold hN.pt zq
 rw[j3 3 (by decide) hw 7 (by decide),w64 (by omega)]
 exact⟨rfl,Ext.refl _⟩

theorem jM{x:Int}{f n:Nat}{b:Nat}{H:zW}(hw:IsW x)(hb:H[b]?=some (.cells #[.int .u64 x] 33 (0,0)))(hf:f<=64)(hn:n<64):
  gh.C f n (some ⟨b,0,none⟩) H (λv H'=>v=.int .u64 (x / 2 ^ f % 2 ^ n)/\Ext H H'):=by
 refine gh.link ?_
 unfold gh.pt
 have hp:(0:Int)<2 ^ f:=Int.pow_pos (by decide)
 have hpn:(0:Int)<2 ^ n:=Int.pow_pos (by decide)
 have hle:(2:Nat) ^ n<=2 ^ 63:=Nat.pow_le_pow_right (by decide) (by omega)
 have hcast:((2 ^ n:Nat):Int)=(2:Int) ^ n:=by simp
 have hd:0<=x / 2 ^ f:=Int.ediv_nonneg hw.1 (Int.le_of_lt hp)
 have hd2:x / 2 ^ f<=x:=Int.ediv_le_self _ hw.1
 refine⟨_,rfl,x,by rw[aU hb];rfl,by omega,by omega,?_⟩
 rw[hM (k:=.u64) (f:Int) f rfl hf,jJ (n:Int) n rfl (by omega)]
 rw[show(1*2 ^ n:Int) % 18446744073709551616=2 ^ n by rw[Int.one_mul];exact Int.emod_eq_of_lt (by omega) (by omega)]
 rw[wu64 (by omega),j3 n hn (by omega) _ rfl]
 exact⟨rfl,Ext.refl _⟩

theorem lm{wv:Int}{H:zW}(hw:IsW wv):hY.C wv H (λv H'=>v=.tuple #[.int .i64 (wv / 8 % 32),.int .i64 (wv / 256 % 256),.int .u64 (wv / 65536)]/\Ext H H'):=by
 refine hY.link ?_
 unfold hY.pt zq
 intro b H1 hb hH
 have e1:Ext H H1:=Ext.push' hH
 have g1:=aO hb hH
 refine HC.mono (jM (f:=3) (n:=5) hw g1 (by omega) (by omega)) ?_
 rintro _ H2 ⟨rfl,e2⟩
 refine⟨_,rfl,?_⟩
 refine HC.mono (jM (f:=8) (n:=8) hw (e2.get g1) (by omega) (by omega)) ?_
 rintro _ H3 ⟨rfl,e3⟩
 refine⟨_,rfl,?_⟩
 refine HC.mono (jM (f:=16) (n:=48) hw ((e2.trans e3).get g1) (by omega) (by omega)) ?_
 rintro _ H4 ⟨rfl,e4⟩
 refine⟨_,rfl,?_⟩
 have a1:wv / 2 ^ 3 % 2 ^ 5=wv / 8 % 32:=rfl
 have a2:wv / 2 ^ 8 % 2 ^ 8=wv / 256 % 256:=rfl
 have a3:wv / 2 ^ 16 % 2 ^ 48=wv / 65536:=by
  show wv / 65536 % 281474976710656=_
  omega
 rw[a1,a2,a3,w64 (by omega),w64 (by omega)]
 exact⟨rfl,((e1.trans e2).trans e3).trans e4⟩

def ia(c:Int):Bool:=decide (c<=1114111) && (decide (c<55296) || decide (c>57343))
theorem ny{c:Int}{H:zW}:ig.C c H (λv H'=>v=.bool (ia c)/\Ext H H'):=ig.link ⟨rfl,Ext.refl _⟩
def lG(t:Int):Bool:=(decide (t>=1) && decide (t<=3)) || (t==6)
theorem ln{c:Int}{H:zW}:ij.C c H (λv H'=>v=.bool (lG c)/\Ext H H'):=ij.link ⟨rfl,Ext.refl _⟩

def mayW(w:Int):Bool:=
 if w % 8=0 then true
 else if w % 8=1\/w % 8=2\/w % 8=3\/w % 8=6 then decide (w / 8<65536)
 else if w % 8=4 then(if w / 8 % 32=7 then ia (w / 256)else decide (w / 8<=6))
 else if w % 8=5 then decide (1<=w / 8 % 32/\w / 8 % 32<=13/\w / 256 % 256<=62)
 else false

theorem sY{w:Int}(h:w % 8=0):mayW w=true:=by unfold mayW;rw[if_pos h]
theorem mL{w:Int}(h:w % 8=1\/w % 8=2\/w % 8=3\/w % 8=6):mayW w=decide (w / 8<65536):=by unfold mayW;rw[if_neg (by omega),if_pos h]
theorem pV{w:Int}(h:w % 8=4):mayW w=(if w / 8 % 32=7 then ia (w / 256)else decide (w / 8<=6)):=by unfold mayW;rw[if_neg (by omega),if_neg (by omega),if_pos h]
theorem rI{w:Int}(h:w % 8=5):mayW w=decide (1<=w / 8 % 32/\w / 8 % 32<=13/\w / 256 % 256<=62):=by unfold mayW;rw[if_neg (by omega),if_neg (by omega),if_neg (by omega),if_pos h]
theorem rJ{w:Int}(h:w % 8=7):mayW w=false:=by unfold mayW;rw[if_neg (by omega),if_neg (by omega),if_neg (by omega),if_neg (by omega)]

theorem mM{wv:Int}{H:zW}(hw:IsW wv):iP.C wv H (λv H'=>v=.bool (mayW wv)/\Ext H H'):=by
 refine HC.via λR hR=>iP.link ?_
 unfold iP.pt
 refine HC.mono (lm hw) ?_
 rintro _ H1 ⟨rfl,e1⟩
 refine⟨_,_,_,rfl,?_⟩
 refine HC.mono (jh hw) ?_
 rintro _ H2 ⟨rfl,e2⟩
 refine⟨_,rfl,?_⟩
 have e12:=e1.trans e2
 have s3:ishr .u64 wv 3=wv / 8:=hM 3 3 rfl (by decide)
 have s8:ishr .u64 wv 8=wv / 256:=hM 8 8 rfl (by decide)
 rw[s3,s8]
 by_cases h0:wv % 8=0
 ·rw[if_pos h0];exact hR _ _ ⟨by rw[sY h0],e12⟩
 rw[if_neg h0]
 by_cases h1:wv % 8=1
 ·rw[if_pos h1];exact hR _ _ ⟨by rw[mL (by omega)],e12⟩
 rw[if_neg h1]
 by_cases h2:wv % 8=2
 ·rw[if_pos h2];exact hR _ _ ⟨by rw[mL (by omega)],e12⟩
 rw[if_neg h2]
 by_cases h3:wv % 8=3
 ·rw[if_pos h3];exact hR _ _ ⟨by rw[mL (by omega)],e12⟩
 rw[if_neg h3]
 by_cases h6:wv % 8=6
 ·rw[if_pos h6];exact hR _ _ ⟨by rw[mL (by omega)],e12⟩
 rw[if_neg h6]
 by_cases h4:wv % 8=4
 ·rw[if_pos h4]
  by_cases h7:wv / 8 % 32=7
  ·rw[if_pos h7]
   refine HC.mono ny ?_
   rintro _ H3 ⟨rfl,e3⟩
   exact⟨_,rfl,hR _ _ ⟨by rw[pV h4,if_pos h7],e12.trans e3⟩⟩
  ·rw[if_neg h7];exact hR _ _ ⟨by rw[pV h4,if_neg h7],e12⟩
 rw[if_neg h4]
 by_cases h5:wv % 8=5
 ·rw[if_pos h5]
  refine hR _ _ ⟨?_,e12⟩
  rw[rI h5]
  congr 1
  rw[Bool.eq_iff_iff]
  simp
  omega
 ·rw[if_neg h5];exact hR _ _ ⟨by rw[rJ (by omega)],e12⟩

def fixW(x:Int):Int:=x*8 % 18446744073709551616
theorem pW{x:Int}{H:zW}(hx: -9223372036854775808<=x/\x<=9223372036854775807):ja.C x H (λv H'=>v=(if-1152921504606846976<=x/\x<1152921504606846976 then .tuple #[.int .u64 (fixW x),.int .i64 0]else .tuple #[.int .u64 0,.int .i64 4])/\Ext H H'):=by
 refine ja.link ?_
 unfold ja.pt
 rw[mH 3 3 rfl (by decide)]
 split
 ·rename_i h
  refine⟨?_,Ext.refl _⟩
  rw[if_neg]
  simp at h
  omega
 ·rename_i h
  refine⟨?_,Ext.refl _⟩
  have hr: -1152921504606846976<=x/\x<1152921504606846976:=by
   simp at h;omega
  rw[if_pos hr]
  have e:x*2 ^ 3=x*8:=rfl
  rw[e,w64 (by omega),jU]
  rfl

def signed(w:Int):Int:=if w>=9223372036854775808 then w-18446744073709551616 else w
theorem oM{w:Int}(hw:IsW w):IntKind.wrap .i64 w=signed w:=by
 rw[sG,Int.emod_eq_of_lt hw.1 hw.2];rfl
theorem pX{wv:Int}{H:zW}(hw:IsW wv):jb.C wv H (λv H'=>v=(if wv % 8=0 then .tuple #[.int .i64 (signed wv / 8),.bool true]else .tuple #[.int .i64 0,.bool false])/\Ext H H'):=by
 refine jb.link ?_
 unfold jb.pt zq
 refine HC.mono (jh hw) ?_
 rintro _ H1 ⟨rfl,e1⟩
 refine⟨_,rfl,?_⟩
 rw[oM hw,hM 3 3 rfl (by decide)]
 split<;>exact⟨rfl,e1⟩

theorem lW{wv:Int}{H:zW}(hw:IsW wv):io.C wv H (λv H'=>v=(if(wv % 8=1\/wv % 8=2\/wv % 8=3\/wv % 8=6)/\wv / 8<65536 then .tuple #[.int .i64 (wv / 8),.bool true]else .tuple #[.int .i64 0,.bool false])/\Ext H H'):=by
 refine io.link ?_
 unfold io.pt zq
 refine HC.mono (jh hw) ?_
 rintro _ H1 ⟨rfl,e1⟩
 refine⟨_,rfl,?_⟩
 refine HC.mono ln ?_
 rintro _ H2 ⟨rfl,e2⟩
 refine⟨_,rfl,?_⟩
 have e12:=e1.trans e2
 have s3:ishr .u64 wv 3=wv / 8:=hM 3 3 rfl (by decide)
 split
 ·rename_i hp
  have hp':wv % 8=1\/wv % 8=2\/wv % 8=3\/wv % 8=6:=by unfold lG at hp;simp at hp;omega
  refine HC.mono (mM hw) ?_
  rintro _ H3 ⟨rfl,e3⟩
  refine⟨_,rfl,?_⟩
  have hm:mayW wv=decide (wv / 8<65536):=by
   unfold mayW
   rw[if_neg (by omega),if_pos hp']
  rw[hm,s3]
  split
  ·rename_i hl
   refine⟨?_,e12.trans e3⟩
   rw[if_pos ⟨hp',by simpa using hl⟩,w64 (by omega)]
  ·rename_i hl
   refine⟨?_,e12.trans e3⟩
   rw[if_neg (by simp at hl;omega)]
 ·rename_i hp
  refine⟨?_,e12⟩
  rw[if_neg]
  unfold lG at hp
  simp at hp
  omega

theorem qP{tag addr:Int}{H:zW}(ht: -9223372036854775808<=tag/\tag<=9223372036854775807)(ha: -9223372036854775808<=addr/\addr<=9223372036854775807):
  ju.C tag addr H (λv H'=>v=(if ¬(tag=1\/tag=2\/tag=3\/tag=6)then .tuple #[.int .u64 0,.int .i64 1]else if 0<=addr/\addr<65536 then .tuple #[.int .u64 (addr*8+tag),.int .i64 0]else .tuple #[.int .u64 0,.int .i64 18])/\Ext H H'):=by
 refine HC.via λR hR=>ju.link ?_
 unfold ju.pt
 refine HC.mono ln ?_
 rintro _ H1 ⟨rfl,e1⟩
 refine⟨_,rfl,?_⟩
 by_cases hp:lG tag=true
 ·rw[if_pos hp]
  have hp':tag=1\/tag=2\/tag=3\/tag=6:=by unfold lG at hp;simp at hp;omega
  by_cases hl:(decide (addr<0) || decide (addr>=65536))=true
  ·rw[if_pos hl]
   refine hR _ _ ⟨?_,e1⟩
   rw[if_neg (λh=>h hp'),if_neg (by simp at hl;omega)]
  ·rw[if_neg hl]
   have hl':0<=addr/\addr<65536:=by simp at hl;omega
   refine hR _ _ ⟨?_,e1⟩
   rw[if_neg (λh=>h hp'),if_pos hl',wu64 (by omega),wu64 (by omega),jJ 3 3 rfl (by decide)]
   have e:addr*2 ^ 3 % 18446744073709551616=addr*8:=by show addr*8 % _=_;omega
   rw[e,lj 3 (by omega) (by show addr*8 % 8=0;omega) (by show 0<=tag/\tag<8;omega) (by decide)]
 ·rw[if_neg hp]
  refine hR _ _ ⟨?_,e1⟩
  rw[if_pos]
  unfold lG at hp
  simp at hp
  omega

theorem kP{kind n more:Int}{H:zW}(hk: -9223372036854775808<=kind/\kind<=9223372036854775807)(hn: -9223372036854775808<=n/\n<=9223372036854775807)(hm:IsW more):
  gY.C kind n more H (λv H'=>v=(if(1<=kind/\kind<=13)/\(0<=n/\n<=62)/\more<281474976710656 then .tuple #[.int .u64 (more*65536+n*256+kind*8+5),.int .i64 0]else .tuple #[.int .u64 0,.int .i64 1])/\Ext H H'):=by
 refine gY.link ?_
 unfold gY.pt
 split
 ·rename_i h
  refine⟨?_,Ext.refl _⟩
  rw[if_neg]
  simp at h
  omega
 ·rename_i h
  have h':(1<=kind/\kind<=13)/\(0<=n/\n<=62)/\more<281474976710656:=by simp at h;omega
  refine⟨?_,Ext.refl _⟩
  rw[if_pos h',wu64 (by omega),wu64 (by omega),jJ 16 16 rfl (by decide),jJ 8 8 rfl (by decide),jJ 3 3 rfl (by decide)]
  have a1:more*2 ^ 16 % 18446744073709551616=more*65536:=by show more*65536 % _=_;omega
  have a2:n*2 ^ 8 % 18446744073709551616=n*256:=by show n*256 % _=_;omega
  have a3:kind*2 ^ 3 % 18446744073709551616=kind*8:=by show kind*8 % _=_;omega
  rw[a1,a2,a3,lj (x:=more*65536) 16 (by omega) (by show more*65536 % 65536=0;omega) (by show 0<=n*256/\n*256<65536;omega) (by decide),
   lj (x:=more*65536+n*256) 8 (by omega) (by show(more*65536+n*256) % 256=0;omega) (by show 0<=kind*8/\kind*8<256;omega) (by decide),
   lj (x:=more*65536+n*256+kind*8) 3 (by omega) (by show(more*65536+n*256+kind*8) % 8=0;omega) (by decide) (by decide)]

theorem oO{wv:Int}{H:zW}(hw:IsW wv):iF.C wv H (λv H'=>v=(if wv % 8=5/\(1<=wv / 8 % 32/\wv / 8 % 32<=13/\wv / 256 % 256<=62)then .tuple #[.int .i64 (wv / 8 % 32),.int .i64 (wv / 256 % 256),.int .u64 (wv / 65536),.bool true]else .tuple #[.int .i64 0,.int .i64 0,.int .u64 0,.bool false])/\Ext H H'):=by
 refine iF.link ?_
 unfold iF.pt
 refine HC.mono (jh hw) ?_
 rintro _ H1 ⟨rfl,e1⟩
 refine⟨_,rfl,?_⟩
 split
 ·refine HC.mono (mM hw) ?_
  rintro _ H2 ⟨rfl,e2⟩
  refine⟨_,rfl,?_⟩
  have hm:mayW wv=decide (1<=wv / 8 % 32/\wv / 8 % 32<=13/\wv / 256 % 256<=62):=by
   unfold mayW
   rw[if_neg (by omega),if_neg (by omega),if_neg (by omega),if_pos (by omega)]
  rw[hm]
  split
  ·rename_i hl
   refine HC.mono (lm hw) ?_
   rintro _ H3 ⟨rfl,e3⟩
   refine⟨_,_,_,rfl,?_,(e1.trans e2).trans e3⟩
   rw[if_pos ⟨by omega,of_decide_eq_true hl⟩]
  ·rename_i hl
   refine⟨?_,e1.trans e2⟩
   rw[if_neg]
   rintro⟨_,h⟩
   exact hl (zQ h)
 ·refine⟨?_,e1⟩
  rw[if_neg (by omega)]
