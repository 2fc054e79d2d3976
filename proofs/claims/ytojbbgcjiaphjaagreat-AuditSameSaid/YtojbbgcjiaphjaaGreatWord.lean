/-
 Contracts of package word, said of integers. Proves nothing of any one statement.
-/
import Derived.Test.YtojbbgcjiaphjaaGreatLx
set_option linter.unusedVariables false
set_option linter.unusedSimpArgs false
namespace Go.Proofs.YtojbbgcjiaphjaaGreat
open Go

abbrev IsW(w:Int):Prop:=aP w

theorem fK{wv:Int}{H:zV}(hw:IsW wv):bZ.C wv H (λv H'=>v=.int .i64 (wv % 8)/\Ext H H'):=by
 refine bZ.link ?_
 unfold bZ.pt zY
 rw[lY 3 (by decide) hw 7 (by decide),w64 (by omega)]
 exact⟨rfl,Ext.refl _⟩

theorem iW{x:Int}{f n:Nat}{b:Nat}{H:zV}(hw:IsW x)(hb:H[b]?=some (.cells #[.int .u64 x] 40 (0,0)))(hf:f<=64)(hn:n<64):
  dK.C f n (some ⟨b,0,none⟩) H (λv H'=>v=.int .u64 (x / 2 ^ f % 2 ^ n)/\Ext H H'):=by
 refine dK.link ?_
 unfold dK.pt
 have hp:(0:Int)<2 ^ f:=Int.pow_pos (by decide)
 have hpn:(0:Int)<2 ^ n:=Int.pow_pos (by decide)
 have hle:(2:Nat) ^ n<=2 ^ 63:=Nat.pow_le_pow_right (by decide) (by omega)
 have hcast:((2 ^ n:Nat):Int)=(2:Int) ^ n:=by simp
 have hd:0<=x / 2 ^ f:=Int.ediv_nonneg hw.1 (Int.le_of_lt hp)
 have hd2:x / 2 ^ f<=x:=Int.ediv_le_self _ hw.1
 refine⟨_,rfl,x,by rw[aI hb];rfl,by omega,by omega,?_⟩
 rw[ku (k:=.u64) (f:Int) f rfl hf,mS (n:Int) n rfl (by omega)]
 rw[show(1*2 ^ n:Int) % 18446744073709551616=2 ^ n by rw[Int.one_mul];exact Int.emod_eq_of_lt (by omega) (by omega)]
 rw[wu64 (by omega),lY n hn (by omega) _ rfl]
 exact⟨rfl,Ext.refl _⟩

theorem kz{wv:Int}{H:zV}(hw:IsW wv):fJ.C wv H (λv H'=>v=.tuple #[.int .i64 (wv / 8 % 32),.int .i64 (wv / 256 % 256),.int .u64 (wv / 65536)]/\Ext H H'):=by
 refine fJ.link ?_
 unfold fJ.pt zY
 intro b H1 hb hH
 have e1:Ext H H1:=Ext.push' hH
 have g1:=aG hb hH
 refine HC.mono (iW (f:=3) (n:=5) hw g1 (by omega) (by omega)) ?_
 rintro _ H2 ⟨rfl,e2⟩
 refine⟨_,rfl,?_⟩
 refine HC.mono (iW (f:=8) (n:=8) hw (e2.get g1) (by omega) (by omega)) ?_
 rintro _ H3 ⟨rfl,e3⟩
 refine⟨_,rfl,?_⟩
 refine HC.mono (iW (f:=16) (n:=48) hw ((e2.trans e3).get g1) (by omega) (by omega)) ?_
 rintro _ H4 ⟨rfl,e4⟩
 refine⟨_,rfl,?_⟩
 have a1:wv / 2 ^ 3 % 2 ^ 5=wv / 8 % 32:=rfl
 have a2:wv / 2 ^ 8 % 2 ^ 8=wv / 256 % 256:=rfl
 have a3:wv / 2 ^ 16 % 2 ^ 48=wv / 65536:=by
  show wv / 65536 % 281474976710656=_
  omega
 rw[a1,a2,a3,w64 (by omega),w64 (by omega)]
 exact⟨rfl,((e1.trans e2).trans e3).trans e4⟩

def mz(c:Int):Bool:=decide (c<=1114111) && (decide (c<55296) || decide (c>57343))
theorem lP{c:Int}{H:zV}:fP.C c H (λv H'=>v=.bool (mz c)/\Ext H H'):=fP.link ⟨rfl,Ext.refl _⟩
def kO(t:Int):Bool:=(decide (t>=1) && decide (t<=3)) || (t==6)
theorem kA{c:Int}{H:zV}:fW.C c H (λv H'=>v=.bool (kO c)/\Ext H H'):=fW.link ⟨rfl,Ext.refl _⟩

def mayW(w:Int):Bool:=
 if w % 8=0 then true
 else if w % 8=1\/w % 8=2\/w % 8=3\/w % 8=6 then decide (w / 8<65536)
 else if w % 8=4 then(if w / 8 % 32=7 then mz (w / 256)else decide (w / 8<=6))
 else if w % 8=5 then decide (1<=w / 8 % 32/\w / 8 % 32<=13/\w / 256 % 256<=62)
 else false

theorem qC{w:Int}(h:w % 8=0):mayW w=true:=by unfold mayW;rw[if_pos h]
theorem mB{w:Int}(h:w % 8=1\/w % 8=2\/w % 8=3\/w % 8=6):mayW w=decide (w / 8<65536):=by unfold mayW;rw[if_neg (by omega),if_pos h]
theorem pr{w:Int}(h:w % 8=4):mayW w=(if w / 8 % 32=7 then mz (w / 256)else decide (w / 8<=6)):=by unfold mayW;rw[if_neg (by omega),if_neg (by omega),if_pos h]
theorem qD{w:Int}(h:w % 8=5):mayW w=decide (1<=w / 8 % 32/\w / 8 % 32<=13/\w / 256 % 256<=62):=by unfold mayW;rw[if_neg (by omega),if_neg (by omega),if_neg (by omega),if_pos h]
theorem qE{w:Int}(h:w % 8=7):mayW w=false:=by unfold mayW;rw[if_neg (by omega),if_neg (by omega),if_neg (by omega),if_neg (by omega)]

theorem iX{wv:Int}{H:zV}(hw:IsW wv):cJ.C wv H (λv H'=>v=.bool (mayW wv)/\Ext H H'):=by
 refine HC.via λR hR=>cJ.link ?_
 unfold cJ.pt
 refine HC.mono (kz hw) ?_
 rintro _ H1 ⟨rfl,e1⟩
 refine⟨_,_,_,rfl,?_⟩
 refine HC.mono (fK hw) ?_
 rintro _ H2 ⟨rfl,e2⟩
 refine⟨_,rfl,?_⟩
 have e12:=e1.trans e2
 have s3:ishr .u64 wv 3=wv / 8:=ku 3 3 rfl (by decide)
 have s8:ishr .u64 wv 8=wv / 256:=ku 8 8 rfl (by decide)
 rw[s3,s8]
 by_cases h0:wv % 8=0
 ·rw[if_pos h0];exact hR _ _ ⟨by rw[qC h0],e12⟩
 rw[if_neg h0]
 by_cases h1:wv % 8=1
 ·rw[if_pos h1];exact hR _ _ ⟨by rw[mB (by omega)],e12⟩
 rw[if_neg h1]
 by_cases h2:wv % 8=2
 ·rw[if_pos h2];exact hR _ _ ⟨by rw[mB (by omega)],e12⟩
 rw[if_neg h2]
 by_cases h3:wv % 8=3
 ·rw[if_pos h3];exact hR _ _ ⟨by rw[mB (by omega)],e12⟩
 rw[if_neg h3]
 by_cases h6:wv % 8=6
 ·rw[if_pos h6];exact hR _ _ ⟨by rw[mB (by omega)],e12⟩
 rw[if_neg h6]
 by_cases h4:wv % 8=4
 ·rw[if_pos h4]
  by_cases h7:wv / 8 % 32=7
  ·rw[if_pos h7]
   refine HC.mono lP ?_
   rintro _ H3 ⟨rfl,e3⟩
   exact⟨_,rfl,hR _ _ ⟨by rw[pr h4,if_pos h7],e12.trans e3⟩⟩
  ·rw[if_neg h7];exact hR _ _ ⟨by rw[pr h4,if_neg h7],e12⟩
 rw[if_neg h4]
 by_cases h5:wv % 8=5
 ·rw[if_pos h5]
  refine hR _ _ ⟨?_,e12⟩
  rw[qD h5]
  congr 1
  rw[Bool.eq_iff_iff]
  simp
  omega
 ·rw[if_neg h5];exact hR _ _ ⟨by rw[qE (by omega)],e12⟩

def signed(w:Int):Int:=if w>=9223372036854775808 then w-18446744073709551616 else w
theorem jW{wv:Int}{H:zV}(hw:IsW wv):fN.C wv H (λv H'=>v=(if(wv % 8=1\/wv % 8=2\/wv % 8=3\/wv % 8=6)/\wv / 8<65536 then .tuple #[.int .i64 (wv / 8),.bool true]else .tuple #[.int .i64 0,.bool false])/\Ext H H'):=by
 refine fN.link ?_
 unfold fN.pt zY
 refine HC.mono (fK hw) ?_
 rintro _ H1 ⟨rfl,e1⟩
 refine⟨_,rfl,?_⟩
 refine HC.mono kA ?_
 rintro _ H2 ⟨rfl,e2⟩
 refine⟨_,rfl,?_⟩
 have e12:=e1.trans e2
 have s3:ishr .u64 wv 3=wv / 8:=ku 3 3 rfl (by decide)
 split
 ·rename_i hp
  have hp':wv % 8=1\/wv % 8=2\/wv % 8=3\/wv % 8=6:=by unfold kO at hp;simp at hp;omega
  refine HC.mono (iX hw) ?_
  rintro _ H3 ⟨rfl,e3⟩
  refine⟨_,rfl,?_⟩
  have hm:mayW wv=decide (wv / 8<65536):=by
   unfold mayW
   rw[if_neg (by omega),if_pos hp']
  rw[hm,s3]
  split
  ·rename_i hl
   refine⟨?_,e12.trans e3⟩
   rw[if_pos ⟨hp',by simpa using hl⟩,w64 (by omega)]
  ·rename_i hl
   refine⟨?_,e12.trans e3⟩
   rw[if_neg (by simp at hl;omega)]
 ·rename_i hp
  refine⟨?_,e12⟩
  rw[if_neg]
  unfold kO at hp
  simp at hp
  omega

theorem mc{tag addr:Int}{H:zV}(ht: -9223372036854775808<=tag/\tag<=9223372036854775807)(ha: -9223372036854775808<=addr/\addr<=9223372036854775807):
  iB.C tag addr H (λv H'=>v=(if ¬(tag=1\/tag=2\/tag=3\/tag=6)then .tuple #[.int .u64 0,.int .i64 1]else if 0<=addr/\addr<65536 then .tuple #[.int .u64 (addr*8+tag),.int .i64 0]else .tuple #[.int .u64 0,.int .i64 18])/\Ext H H'):=by
 refine HC.via λR hR=>iB.link ?_
 unfold iB.pt
 refine HC.mono kA ?_
 rintro _ H1 ⟨rfl,e1⟩
 refine⟨_,rfl,?_⟩
 by_cases hp:kO tag=true
 ·rw[if_pos hp]
  have hp':tag=1\/tag=2\/tag=3\/tag=6:=by unfold kO at hp;simp at hp;omega
  by_cases hl:(decide (addr<0) || decide (addr>=65536))=true
  ·rw[if_pos hl]
   refine hR _ _ ⟨?_,e1⟩
   rw[if_neg (λh=>h hp'),if_neg (by simp at hl;omega)]
  ·rw[if_neg hl]
   have hl':0<=addr/\addr<65536:=by simp at hl;omega
   refine hR _ _ ⟨?_,e1⟩
   rw[if_neg (λh=>h hp'),if_pos hl',wu64 (by omega),wu64 (by omega),mS 3 3 rfl (by decide)]
   have e:addr*2 ^ 3 % 18446744073709551616=addr*8:=by show addr*8 % _=_;omega
   rw[e,qa 3 (by omega) (by show addr*8 % 8=0;omega) (by show 0<=tag/\tag<8;omega) (by decide)]
 ·rw[if_neg hp]
  refine hR _ _ ⟨?_,e1⟩
  rw[if_pos]
  unfold kO at hp
  simp at hp
  omega

theorem mV{wv:Int}{H:zV}(hw:IsW wv):gG.C wv H (λv H'=>v=(if wv % 8=5/\(1<=wv / 8 % 32/\wv / 8 % 32<=13/\wv / 256 % 256<=62)then .tuple #[.int .i64 (wv / 8 % 32),.int .i64 (wv / 256 % 256),.int .u64 (wv / 65536),.bool true]else .tuple #[.int .i64 0,.int .i64 0,.int .u64 0,.bool false])/\Ext H H'):=by
 refine gG.link ?_
 unfold gG.pt
 refine HC.mono (fK hw) ?_
 rintro _ H1 ⟨rfl,e1⟩
 refine⟨_,rfl,?_⟩
 split
 ·refine HC.mono (iX hw) ?_
  rintro _ H2 ⟨rfl,e2⟩
  refine⟨_,rfl,?_⟩
  have hm:mayW wv=decide (1<=wv / 8 % 32/\wv / 8 % 32<=13/\wv / 256 % 256<=62):=by
   unfold mayW
   rw[if_neg (by omega),if_neg (by omega),if_neg (by omega),if_pos (by omega)]
  rw[hm]
  split
  ·rename_i hl
   refine HC.mono (kz hw) ?_
   rintro _ H3 ⟨rfl,e3⟩
   refine⟨_,_,_,rfl,?_,(e1.trans e2).trans e3⟩
   rw[if_pos ⟨by omega,of_decide_eq_true hl⟩]
  ·rename_i hl
   refine⟨?_,e1.trans e2⟩
   rw[if_neg]
   rintro⟨_,h⟩
   exact hl (zX h)
 ·refine⟨?_,e1⟩
  rw[if_neg (by omega)]
