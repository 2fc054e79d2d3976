/-
 Laws of package 20 against the document: words of values, what is told, an act on both heaps. Proves nothing of any one statement.
-/
import Derived.Test.YtibpklpgmgakcaaGreatRef20
import Derived.Test.YtibpklpgmgakcaaGreatAct20
import Derived.Test.YtibpklpgmgakcaaGreatRead
import Derived.Test.YtibpklpgmgakcaaGreatLive
import Derived.Test.YtibpklpgmgakcaaGreatL11Word
import Derived.Test.YtibpklpgmgakcaaGreatL20words
import Derived.Test.YtibpklpgmgakcaaGreatL20tells
import Derived.Test.YtibpklpgmgakcaaGreatL20many
set_option linter.unusedVariables false
set_option linter.unusedSimpArgs false
namespace Go.Proofs.YtibpklpgmgakcaaGreat
open Go

theorem OfIs.none{w k t a x m:Int}(h:OfIs w k t a x m):k=0 ↔ mayW w=false:=by
 unfold OfIs at h
 unfold mayW
 rcases h with h | h | h | h | h | h
 ·rw[if_pos h.1];exact⟨λe=>by omega,λe=>by simp at e⟩
 ·rw[if_neg (by omega),if_pos h.1,decide_eq_true h.2.1];exact⟨λe=>by omega,λe=>by simp at e⟩
 ·rw[if_neg (by omega),if_neg (by omega),if_pos h.1,if_neg (by omega),decide_eq_true (by omega)];exact⟨λe=>by omega,λe=>by simp at e⟩
 ·rw[if_neg (by omega),if_neg (by omega),if_pos h.1,if_pos h.2.1,h.2.2.1];exact⟨λe=>by omega,λe=>by simp at e⟩
 ·rw[if_neg (by omega),if_neg (by omega),if_neg (by omega),if_pos h.1,decide_eq_true h.2.1];exact⟨λe=>by omega,λe=>by simp at e⟩
 ·exact⟨λ_=>h.1,λ_=>h.2.1⟩
theorem andnot7(x:Nat)(hx:x<2 ^ 64):x &&& (2 ^ 64-8)=x / 8*8:=by
 have e1:(2 ^ 64-8:Nat)=(2 ^ 61-1)<<<3:=by decide
 have e2:x / 8*8=(x>>>3)<<<3:=by rw[Nat.shiftRight_eq_div_pow,Nat.shiftLeft_eq]
 rw[e1,e2]
 refine Nat.eq_of_testBit_eq λi=>?_
 rw[Nat.testBit_and,Nat.testBit_shiftLeft,Nat.testBit_shiftLeft,Nat.testBit_shiftRight,Nat.testBit_two_pow_sub_one]
 by_cases h3:3<=i
 ·rw[show 3+(i-3)=i by omega]
  by_cases h64:i<64
  ·simp[h3,show i-3<61 by omega]
  ·have:x.testBit i=false:=Nat.testBit_lt_two_pow (Nat.lt_of_lt_of_le hx (Nat.pow_le_pow_right (by decide) (by omega)))
   simp[this]
 ·simp[h3]
theorem iandnot_7{x:Int}(hx:IsWord x):iandnot .u64 x 7=x / 8*8:=by
 unfold iandnot
 have e:(~~~BitVec.ofInt IntKind.u64.bits 7:BitVec IntKind.u64.bits).toNat=2 ^ 64-8:=by decide
 rw[BitVec.toNat_and,e,toNat_ofInt64 hx.1 hx.2,andnot7 _ (by have:=hx.1;have:=hx.2;omega),wu64 (by have:=hx.1;have:=hx.2;omega)]
 have:=hx.1
 omega

def valW(W Of:Int)(mw:List Int):Int:=if 0<Of/\0<mw.length then mw.getD ((Of-1) % mw.length).toNat 0 else if(W % 8=0\/W % 8=4)/\mayW W=true then W else W / 8*8
theorem valW_word{W Of:Int}{mw:List Int}(hW:IsWord W)(hm: ∀w∈mw,IsWord w):IsWord (valW W Of mw):=by
 unfold valW
 by_cases h:0<Of/\0<mw.length
 ·rw[if_pos h]
  have h2:((Of-1) % mw.length).toNat<mw.length:=by
   have:=Int.emod_nonneg (Of-1) (show(mw.length:Int)≠0 by omega)
   have:=Int.emod_lt_of_pos (Of-1) (show(0:Int)<mw.length by omega)
   omega
  rw[getD_at h2];exact hm _ (List.getElem_mem _)
 ·rw[if_neg h]
  split
  ·exact hW
  ·have:=hW.1;have:=hW.2;constructor<;>omega
theorem word11_c{H:Array Obj}{W Of:Int}{p:Option Addr}{n c:Nat}{mw:List Int}(hW:IsWord W)(hO:I64 Of)(how:Own H 35 1 p n c (wvs mw)):morainelaw11_Word.C W Of p n c H (λv H'=>v=.int .u64 (valW W Of mw)/\Ext H H'):=by
 refine HC.via λR hR=>morainelaw11_Word.link ?_
 unfold morainelaw11_Word.pt
 intro b H1 hb hH1
 have e1:Ext H H1:=Ext.push' hH1
 have g1:=push_get hb hH1
 have hn:n=mw.length:=by have:=how.len;simpa[wvs]using this.symm
 subst hn
 refine⟨Of,by rw[addr_add_mk,hat_blk g1];rfl,?_⟩
 by_cases h:0<Of/\0<mw.length
 ·rw[if_pos (by simp only[Bool.and_eq_true,decide_eq_true_eq];omega)]
  have e:Int.tmod (IntKind.wrap .i64 (Of-1)) (mw.length:Int)=(Of-1) % mw.length:=by rw[w64 (by omega),tmod_pos (by omega)]
  have h0:=Int.emod_nonneg (Of-1) (show(mw.length:Int)≠0 by omega)
  have h2:=Int.emod_lt_of_pos (Of-1) (show(0:Int)<mw.length by omega)
  have hv:valW W Of mw=mw.getD ((Of-1) % mw.length).toNat 0:=by unfold valW;rw[if_pos h]
  rw[hv]at hR
  have hk:((Of-1) % mw.length).toNat<mw.length:=by omega
  obtain⟨a,ha,hat1⟩:=(how.ext e1).at (j:=((Of-1) % mw.length).toNat) (v:=.int .u64 (mw.getD ((Of-1) % mw.length).toNat 0)) (by rw[getD_at hk];simp[wvs,hk])
  refine⟨Of,by rw[addr_add_mk,hat_blk g1];rfl,by omega,a,ha,by rw[e];exact⟨h0,h2⟩,_,by rw[e,Nat.mul_one];exact hat1,hR _ _ ⟨rfl,e1⟩⟩
 rw[if_neg (by simp only[Bool.and_eq_true,decide_eq_true_eq];omega)]
 have hv:valW W Of mw=if(W % 8=0\/W % 8=4)/\mayW W=true then W else W / 8*8:=by unfold valW;rw[if_neg h]
 rw[hv]at hR
 have wAt: ∀H',Ext H1 H'->hat H' (Addr.mk b 0 none)=some (.int .u64 W):=λH' e=>e.hat (by rw[hat_blk g1];rfl)
 have hm8:iand .u64 W 7=W % 8:=iand_mask 3 (by decide) hW 7 (by decide)
 have gen:(W % 8=0\/W % 8=4)-> ∃x:Int,hat H1 (Addr.mk b 0 none)=some (.int .u64 x)/\
   moraineref01_Of.C x H1 (λv H2=> ∃xKind:Int,∃xTag:Int,∃xA:Int,∃xX:Int,∃xMore:Int,v=.agg #[.int .i64 xKind,.int .i64 xTag,.int .i64 xA,.int .i64 xX,.int .u64 xMore]/\
    if xKind=0 then(∃x_6:Int,hat H2 (Addr.mk b 0 none)=some (.int .u64 x_6)/\R (.int .u64 (iandnot .u64 x_6 7)) H2)
    else∃x_7:Int,hat H2 (Addr.mk b 0 none)=some (.int .u64 x_7)/\R (.int .u64 x_7) H2):=λht=>by
  refine⟨W,wAt _ (Ext.refl _),?_⟩
  refine HC.mono (ref01_Of_c hW) ?_
  rintro v H2 ⟨k,t,a,x,m,rfl,hof,e2⟩
  refine⟨k,t,a,x,m,rfl,?_⟩
  have hn:=hof.none
  by_cases hk:k=0
  ·rw[if_pos hk]
   have hf:=hn.1 hk
   rw[if_neg (λhh=>by rw[hf]at hh;exact absurd hh.2 (by decide))]at hR
   exact⟨W,wAt _ e2,by rw[iandnot_7 hW];exact hR _ _ ⟨rfl,e1.trans e2⟩⟩
  ·rw[if_neg hk]
   have hf:mayW W=true:=by
    cases hc:mayW W with
    | true=>rfl
    | false=>exact absurd (hn.2 hc) hk
   rw[if_pos ⟨ht,hf⟩]at hR
   exact⟨W,wAt _ e2,hR _ _ ⟨rfl,e1.trans e2⟩⟩
 refine⟨W,wAt _ (Ext.refl _),?_⟩
 rw[hm8]
 by_cases h0:W % 8=0
 ·rw[if_pos h0];exact gen (.inl h0)
 rw[if_neg h0]
 by_cases h4:W % 8=4
 ·rw[if_pos h4];exact gen (.inr h4)
 rw[if_neg h4]
 rw[if_neg (by omega)]at hR
 exact⟨W,wAt _ (Ext.refl _),by rw[iandnot_7 hW];exact hR _ _ ⟨rfl,e1⟩⟩

theorem words20_c{H:Array Obj}{s:Sl ValOf}{p:Option Addr}{n c:Nat}{mw:List Int}(A:SlOK 2 valOfR maxLen H s)(hs:s.n<=1000)(how:Own H 35 1 p n c (wvs mw)):
  morainelaw20_words.C s.p s.n s.c p n c H (λv H'=> ∃q c',v=.slice q s.n c'/\Own H' 35 1 q s.n c' (wvs (s.xs.map λv=>valW v.w v.ofv mw))/\Ext H H'/\ ∀i,i∈blks q->H.size<=i):=by
 refine HC.via λR hR=>morainelaw20_words.link ?_
 unfold morainelaw20_words.pt
 have hlen:=A.len
 refine⟨λq m c' i H'=>(0<=i/\i<=s.n)/\m=i.toNat/\Own H' 35 1 q m c' (wvs ((s.xs.take i.toNat).map λv=>valW v.w v.ofv mw))/\Ext H H'/\ ∀j,j∈blks q->H.size<=j,λ_ _ _ i _=>(s.n-i).toNat,⟨by omega,rfl,by simpa using own_nil,Ext.refl _,by simp⟩,?_⟩
 rintro q m c' i H1 ⟨hi,rfl,ho,e1,hq⟩
 by_cases hlt:i< (s.n:Int)
 case neg=>
  rw[if_neg hlt]
  have e:i.toNat=s.n:=by omega
  rw[e]at ho⊢
  rw[List.take_of_length_le (by omega)]at ho
  exact hR _ _ ⟨q,c',rfl,ho,e1,hq⟩
 rw[if_pos hlt]
 have hiN:i.toNat<s.xs.length:=by omega
 obtain⟨a,ha,hrow⟩:=A.row i.toNat hiN
 refine⟨a,ha,⟨hi.1,hlt⟩,_,_,e1.rowAt hrow,?_⟩
 have hok:=A.each _ (List.getElem_mem hiN)
 refine HC.mono (word11_c (wf_u64 hok.w) (wf_i64 hok.ofv) (how.ext e1)) ?_
 rintro _ H2 ⟨rfl,e2⟩
 refine⟨_,rfl,λb H3 hb hH3=>?_⟩
 have e3:Ext H2 H3:=Ext.push' hH3
 rw[w64 (n:=i+1) (by omega)]
 refine own_append (ys:=wvs [valW s.xs[i.toNat].w s.xs[i.toNat].ofv mw]) ((ho.ext e2).ext e3) (rowAt_blk (push_get hb hH3) _ 0 0 (λj hj=>by simp[wvs])) (by simp[wvs]) (allOne_wvs _) rfl (by omega) ?_
 intro q' c2 H4 ho4 f4 hn4
 have e14:Ext H H4:=((e1.trans e2).trans e3).fr_trans f4 hq
 refine⟨⟨by omega,by omega,?_,e14,λj hj=>?_⟩,by show((s.n:Int)-(i+1)).toNat< ((s.n:Int)-i).toNat;omega⟩
 ·rw[show(i+1).toNat=i.toNat+1 by omega,List.take_succ_eq_append_getElem hiN,List.map_append]
  simpa[wvs]using ho4
 ·rcases hn4 j hj with h | h
  ·exact hq j h
  ·have:=((e1.trans e2).trans e3).size;omega

theorem tells20_c{H:Array Obj}{q:RB}{r:RM}{b:Blk}{x:Hp}{ep w i:Int}(V:View H (some ⟨b.h,0,none⟩) (some (b,x)))(h:RHAt H q r x.sp ep)(hw:IsWord w)(hi:I64 i):
  morainelaw20_tells.C (some ⟨b.h,0,none⟩) (some ⟨q.h,0,none⟩) w i H (λv H'=>v=.bool true/\Ext H H'):=by
 refine HC.via λR hR=>morainelaw20_tells.link ?_
 unfold morainelaw20_tells.pt
 obtain⟨_,_,ok⟩:=V.inv
 have okm:=ok.mem
 refine HC.mono (frame_Kind_c V hw) ?_
 rintro _ H1 ⟨rfl,e1⟩
 refine⟨_,_,rfl,?_⟩
 refine HC.mono (ref20_Kind_c (h.ext e1) okm hw) ?_
 rintro _ H2 ⟨rfl,e2⟩
 refine⟨_,_,rfl,?_⟩
 have e02:=e1.trans e2
 refine HC.mono (frame_Next_c (V.ext e02) hw) ?_
 rintro _ H3 ⟨rfl,e3⟩
 refine⟨_,_,rfl,?_⟩
 have e03:=e02.trans e3
 refine HC.mono (ref20_Next_c (h.ext e03) okm hw) ?_
 rintro _ H4 ⟨rfl,e4⟩
 refine⟨_,_,rfl,?_⟩
 have e04:=e03.trans e4
 refine HC.mono (frame_Field_c (V.ext e04) hw hi) ?_
 rintro _ H5 ⟨rfl,e5⟩
 have e05:=e04.trans e5
 have ev:(if(mof (some (b,x))).is w 8 2 then(if i<0\/(mof (some (b,x))).fields w<=i then Value.tuple #[.int .u64 0,.int .i64 4]else .tuple #[.int .u64 (if(mof (some (b,x))).fieldE w 8 (i+2)=0 then(mof (some (b,x))).get (w / 8+1+(i+2))else 0),.int .i64 ((mof (some (b,x))).fieldE w 8 (i+2))])else .tuple #[.int .u64 0,.int .i64 3])=.tuple #[.int .u64 (x.sp.mem.frameField w i).1,.int .i64 (x.sp.mem.frameField w i).2]:=by
  show(if x.sp.mem.is w 8 2 then(if i<0\/x.sp.mem.fields w<=i then Value.tuple #[.int .u64 0,.int .i64 4]else .tuple #[.int .u64 (if x.sp.mem.fieldE w 8 (i+2)=0 then x.sp.mem.get (w / 8+1+(i+2))else 0),.int .i64 (x.sp.mem.fieldE w 8 (i+2))])else .tuple #[.int .u64 0,.int .i64 3])=_
  unfold Mem.frameField
  by_cases h1:x.sp.mem.is w 8 2
  ·by_cases h2:i<0\/x.sp.mem.fields w<=i
   ·rw[if_pos h1,if_pos h2,if_pos h1,if_pos h2]
   ·rw[if_pos h1,if_neg h2,if_pos h1,if_neg h2,Mem.frameField_in h1 h2,if_pos rfl]
  ·rw[if_neg h1,if_neg h1]
 refine⟨_,_,ev,?_⟩
 refine HC.mono (ref20_Field_c (h.ext e05) okm hw hi) ?_
 rintro _ H6 ⟨rfl,e6⟩
 refine⟨_,_,rfl,?_⟩
 have e06:=e05.trans e6
 have eM:mof (some (b,x))=x.sp.mem:=rfl
 rw[eM]
 rw[if_pos rfl,if_pos rfl,if_pos rfl,if_pos rfl,if_pos rfl,if_pos rfl]
 refine HC.mono (frame_Fields_c (V.ext e06) hw) ?_
 rintro _ H7 ⟨rfl,e7⟩
 refine⟨_,rfl,?_⟩
 have e07:=e06.trans e7
 refine HC.mono (ref20_Fields_c (h.ext e07) okm hw) ?_
 rintro _ H8 ⟨rfl,e8⟩
 refine⟨_,rfl,?_⟩
 have e08:=e07.trans e8
 rw[eM]
 rw[if_pos rfl]
 refine HC.mono (frame_Count_c (V.ext e08) hw) ?_
 rintro _ H9 ⟨rfl,e9⟩
 refine⟨_,rfl,?_⟩
 have e09:=e08.trans e9
 refine HC.mono (ref20_Count_c (h.ext e09) okm hw) ?_
 rintro _ H10 ⟨rfl,e10⟩
 refine⟨_,rfl,hR _ _ ⟨?_,e09.trans e10⟩⟩
 congr 1
 exact beq_self_eq_true _
end Go.Proofs.YtibpklpgmgakcaaGreat
