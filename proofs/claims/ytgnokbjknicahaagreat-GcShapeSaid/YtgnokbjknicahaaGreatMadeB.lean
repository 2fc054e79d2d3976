/-
 Acts of the law of traces (package morainelaw11): words of values, what is set. Proves nothing of any one statement.
-/
import Derived.Test.YtgnokbjknicahaaGreatGcH
import Derived.Test.YtgnokbjknicahaaGreatRef01
import Derived.Test.YtgnokbjknicahaaGreatAct11
set_option linter.unusedVariables false
set_option linter.unusedSimpArgs false
namespace Go.Proofs.YtgnokbjknicahaaGreat
open Go

theorem OfIs.none{w k t a x m:Int}(h:OfIs w k t a x m):k=0 ↔ mayW w=false:=by
 unfold OfIs at h
 unfold mayW
 rcases h with h | h | h | h | h | h
 ·rw[if_pos h.1];exact⟨λe=>by omega,λe=>by simp at e⟩
 ·rw[if_neg (by omega),if_pos h.1,zX h.2.1];exact⟨λe=>by omega,λe=>by simp at e⟩
 ·rw[if_neg (by omega),if_neg (by omega),if_pos h.1,if_neg (by omega),zX (by omega)];exact⟨λe=>by omega,λe=>by simp at e⟩
 ·rw[if_neg (by omega),if_neg (by omega),if_pos h.1,if_pos h.2.1,h.2.2.1];exact⟨λe=>by omega,λe=>by simp at e⟩
 ·rw[if_neg (by omega),if_neg (by omega),if_neg (by omega),if_pos h.1,zX h.2.1];exact⟨λe=>by omega,λe=>by simp at e⟩
 ·exact⟨λ_=>h.1,λ_=>h.2.1⟩
theorem andnot7(x:Nat)(hx:x<2 ^ 64):x &&& (2 ^ 64-8)=x / 8*8:=by
 have e1:(2 ^ 64-8:Nat)=(2 ^ 61-1)<<<3:=by decide
 have e2:x / 8*8=(x>>>3)<<<3:=by rw[Nat.shiftRight_eq_div_pow,Nat.shiftLeft_eq]
 rw[e1,e2]
 refine Nat.eq_of_testBit_eq λi=>?_
 rw[Nat.testBit_and,Nat.testBit_shiftLeft,Nat.testBit_shiftLeft,Nat.testBit_shiftRight,Nat.testBit_two_pow_sub_one]
 by_cases h3:3<=i
 ·rw[show 3+(i-3)=i by omega]
  by_cases h64:i<64
  ·simp[h3,show i-3<61 by omega]
  ·have:x.testBit i=false:=Nat.testBit_lt_two_pow (Nat.lt_of_lt_of_le hx (Nat.pow_le_pow_right (by decide) (by omega)))
   simp[this]
 ·simp[h3]
theorem iandnot_7{x:Int}(hx:IsWord x):iandnot .u64 x 7=x / 8*8:=by
 unfold iandnot
 have e:(~~~BitVec.ofInt IntKind.u64.bits 7:BitVec IntKind.u64.bits).toNat=2 ^ 64-8:=by decide
 rw[BitVec.toNat_and,e,toNat_ofInt64 hx.1 hx.2,andnot7 _ (by have:=hx.1;have:=hx.2;omega),wu64 (by have:=hx.1;have:=hx.2;omega)]
 have:=hx.1
 omega

def valW(W Of:Int)(mw:List Int):Int:=if 0<Of/\0<mw.length then mw.getD ((Of-1) % mw.length).toNat 0 else if(W % 8=0\/W % 8=4)/\mayW W=true then W else W / 8*8
theorem valW_word{W Of:Int}{mw:List Int}(hW:IsWord W)(hm: ∀w∈mw,IsWord w):IsWord (valW W Of mw):=by
 unfold valW
 by_cases h:0<Of/\0<mw.length
 ·rw[if_pos h]
  have h2:((Of-1) % mw.length).toNat<mw.length:=by
   have:=Int.emod_nonneg (Of-1) (show(mw.length:Int)≠0 by omega)
   have:=Int.emod_lt_of_pos (Of-1) (show(0:Int)<mw.length by omega)
   omega
  rw[getD_at h2];exact hm _ (List.getElem_mem _)
 ·rw[if_neg h]
  split
  ·exact hW
  ·have:=hW.1;have:=hW.2;constructor<;>omega
theorem word11_c{H:zV}{W Of:Int}{p:zW}{n c:Nat}{mw:List Int}(hW:IsWord W)(hO:I64 Of)(how:Own H 24 1 p n c (wvs mw)):morainelaw11_Word.C W Of p n c H (λv H'=>v=.int .u64 (valW W Of mw)/\Ext H H'):=by
 refine HC.via λR hR=>morainelaw11_Word.link ?_
 unfold morainelaw11_Word.pt zY
 intro b H1 hb hH1
 have e1:Ext H H1:=Ext.push' hH1
 have g1:=push_get hb hH1
 have hn:n=mw.length:=by have:=how.len;simpa[wvs]using this.symm
 subst hn
 refine⟨Of,by rw[addr_add_mk,hat_blk g1];rfl,?_⟩
 by_cases h:0<Of/\0<mw.length
 ·rw[if_pos (by simp only[Bool.and_eq_true,decide_eq_true_eq];omega)]
  have e:Int.tmod (IntKind.wrap .i64 (Of-1)) (mw.length:Int)=(Of-1) % mw.length:=by rw[w64 (by omega),tmod_pos (by omega)]
  have h0:=Int.emod_nonneg (Of-1) (show(mw.length:Int)≠0 by omega)
  have h2:=Int.emod_lt_of_pos (Of-1) (show(0:Int)<mw.length by omega)
  have hv:valW W Of mw=mw.getD ((Of-1) % mw.length).toNat 0:=by unfold valW;rw[if_pos h]
  rw[hv]at hR
  have hk:((Of-1) % mw.length).toNat<mw.length:=by omega
  obtain⟨a,ha,hat1⟩:=(how.ext e1).at (j:=((Of-1) % mw.length).toNat) (v:=.int .u64 (mw.getD ((Of-1) % mw.length).toNat 0)) (by rw[getD_at hk];simp[wvs,hk])
  refine⟨Of,by rw[addr_add_mk,hat_blk g1];rfl,by omega,a,ha,by rw[e];exact⟨h0,h2⟩,_,by rw[e,Nat.mul_one];exact hat1,hR _ _ ⟨rfl,e1⟩⟩
 rw[if_neg (by simp only[Bool.and_eq_true,decide_eq_true_eq];omega)]
 have hv:valW W Of mw=if(W % 8=0\/W % 8=4)/\mayW W=true then W else W / 8*8:=by unfold valW;rw[if_neg h]
 rw[hv]at hR
 have wAt: ∀H',Ext H1 H'->hat H' (Addr.mk b 0 none)=some (.int .u64 W):=λH' e=>e.hat (by rw[hat_blk g1];rfl)
 have hm8:iand .u64 W 7=W % 8:=iand_mask 3 (by decide) hW 7 (by decide)
 have gen:(W % 8=0\/W % 8=4)-> ∃x:Int,hat H1 (Addr.mk b 0 none)=some (.int .u64 x)/\
   moraineref01_Of.C x H1 (λv H2=> ∃xKind:Int,∃xTag:Int,∃xA:Int,∃xX:Int,∃xMore:Int,v=.agg #[.int .i64 xKind,.int .i64 xTag,.int .i64 xA,.int .i64 xX,.int .u64 xMore]/\
    if xKind=0 then(∃x_6:Int,hat H2 (Addr.mk b 0 none)=some (.int .u64 x_6)/\R (.int .u64 (iandnot .u64 x_6 7)) H2)
    else∃x_7:Int,hat H2 (Addr.mk b 0 none)=some (.int .u64 x_7)/\R (.int .u64 x_7) H2):=λht=>by
  refine⟨W,wAt _ (Ext.refl _),?_⟩
  refine HC.mono (ref01_Of_c hW) ?_
  rintro v H2 ⟨k,t,a,x,m,rfl,hof,e2⟩
  refine⟨k,t,a,x,m,rfl,?_⟩
  have hn:=hof.none
  by_cases hk:k=0
  ·rw[if_pos hk]
   have hf:=hn.1 hk
   rw[if_neg (λhh=>by rw[hf]at hh;exact absurd hh.2 (by decide))]at hR
   exact⟨W,wAt _ e2,by rw[iandnot_7 hW];exact hR _ _ ⟨rfl,e1.trans e2⟩⟩
  ·rw[if_neg hk]
   have hf:mayW W=true:=by
    cases hc:mayW W with
    | true=>rfl
    | false=>exact absurd (hn.2 hc) hk
   rw[if_pos ⟨ht,hf⟩]at hR
   exact⟨W,wAt _ e2,hR _ _ ⟨rfl,e1.trans e2⟩⟩
 refine⟨W,wAt _ (Ext.refl _),?_⟩
 rw[hm8]
 by_cases h0:W % 8=0
 ·rw[if_pos h0];exact gen (.inl h0)
 rw[if_neg h0]
 by_cases h4:W % 8=4
 ·rw[if_pos h4];exact gen (.inr h4)
 rw[if_neg h4]
 rw[if_neg (by omega)]at hR
 exact⟨W,wAt _ (Ext.refl _),by rw[iandnot_7 hW];exact hR _ _ ⟨rfl,e1⟩⟩

theorem valW_good{m:Mem}{sz:Int->Nat}{W Of:Int}{mw:List Int}(hm: ∀w∈mw,Good m sz w):Good m sz (valW W Of mw):=by
 have plain: ∀v:Int,v % 8=0\/v % 8=4->Good m sz v:=λv h=>⟨by omega,λht=>by unfold isTag at ht;omega⟩
 unfold valW
 by_cases h:0<Of/\0<mw.length
 ·rw[if_pos h]
  have h2:((Of-1) % mw.length).toNat<mw.length:=by
   have:=Int.emod_nonneg (Of-1) (show(mw.length:Int)≠0 by omega)
   have:=Int.emod_lt_of_pos (Of-1) (show(0:Int)<mw.length by omega)
   omega
  rw[getD_at h2];exact hm _ (List.getElem_mem _)
 ·rw[if_neg h]
  by_cases q:(W % 8=0\/W % 8=4)/\mayW W=true
  ·rw[if_pos q];exact plain W q.1
  ·rw[if_neg q];exact plain _ (.inl (by omega))
theorem words11_c{H:zV}{s:Sl ValOf}{p:zW}{n c:Nat}{mw:List Int}(A:SlOK 2 valOfR maxLen H s)(how:Own H 24 1 p n c (wvs mw)):
  morainelaw11_words.C s.p s.n s.c p n c H (λv H'=> ∃q n' c',v=.slice q n' c'/\n'=((s.xs.take 62).map λv=>valW v.w v.ofv mw).length/\n'<=62/\Own H' 24 1 q n' c' (wvs ((s.xs.take 62).map λv=>valW v.w v.ofv mw))/\Ext H H'/\ ∀i,i∈blks q->H.size<=i):=by
 refine HC.via λR hR=>morainelaw11_words.link ?_
 unfold morainelaw11_words.pt zY
 have hlen:=A.len
 refine⟨λq m c' i H'=>(0<=i/\i<=s.n/\i<=62)/\m=i.toNat/\Own H' 24 1 q m c' (wvs ((s.xs.take i.toNat).map λv=>valW v.w v.ofv mw))/\Ext H H'/\ ∀j,j∈blks q->H.size<=j,λ_ _ _ i _=>(62-i).toNat,⟨by omega,rfl,by simpa using own_nil,Ext.refl _,by simp⟩,?_⟩
 rintro q m c' i H1 ⟨hi,rfl,ho,e1,hq⟩
 by_cases hlt:i< (s.n:Int)/\i<62
 case neg=>
  rw[if_neg (by simpa using hlt)]
  have e:s.xs.take i.toNat=s.xs.take 62:=by
   by_cases h62:i<62
   ·rw[List.take_of_length_le (by omega),List.take_of_length_le (by omega)]
   ·rw[show i.toNat=62 by omega]
  have hl:((s.xs.take i.toNat).map λv=>valW v.w v.ofv mw).length=i.toNat:=by rw[List.length_map,List.length_take];omega
  rw[e]at ho hl
  exact hR _ _ ⟨q,_,c',rfl,hl.symm,by omega,ho,e1,hq⟩
 rw[if_pos (by simpa using hlt)]
 have hiN:i.toNat<s.xs.length:=by omega
 obtain⟨a,ha,hrow⟩:=A.row i.toNat hiN
 refine⟨a,ha,⟨hi.1,hlt.1⟩,_,_,e1.rowAt hrow,?_⟩
 have hok:=A.each _ (List.getElem_mem hiN)
 refine HC.mono (word11_c (wf_u64 hok.w) (wf_i64 hok.ofv) (how.ext e1)) ?_
 rintro _ H2 ⟨rfl,e2⟩
 refine⟨_,rfl,λb H3 hb hH3=>?_⟩
 have e3:Ext H2 H3:=Ext.push' hH3
 rw[w64 (n:=i+1) (by omega)]
 have hd:(62-(i+1)).toNat< (62-i).toNat:=by omega
 refine own_append (ys:=wvs [valW s.xs[i.toNat].w s.xs[i.toNat].ofv mw]) ((ho.ext e2).ext e3) (rowAt_blk (push_get hb hH3) _ 0 0 (λj hj=>by
  simp only[wvs,List.map_cons,List.map_nil,List.length_cons,List.length_nil]at hj
  obtain rfl:j=0:=by omega
  rfl)) (by simp[wvs]) (allOne_wvs _) rfl (by omega) ?_
 intro q' c2 H4 ho4 f4 hn4
 have e14:Ext H H4:=((e1.trans e2).trans e3).fr_trans f4 hq
 refine⟨⟨by omega,by omega,?_,e14,λj hj=>?_⟩,hd⟩
 ·rw[show(i+1).toNat=i.toNat+1 by omega,List.take_succ_eq_append_getElem hiN,List.map_append]
  simpa[wvs]using ho4
 ·rcases hn4 j hj with h | h
  ·exact hq j h
  ·have:=((e1.trans e2).trans e3).size;omega
theorem mask_rng(x:Int):0<=iand .i64 x 65535/\iand .i64 x 65535<=65535:=by
 unfold iand
 have h:(BitVec.ofInt IntKind.i64.bits x &&& BitVec.ofInt IntKind.i64.bits 65535).toNat<=65535:=by
  rw[BitVec.toNat_and]
  exact Nat.le_trans Nat.and_le_right (by decide)
 rw[w64 (by omega)]
 omega
theorem kind11_c{H:zV}{n:Int}:morainelaw11_kind.C n H (λv H'=> ∃k:Int,v=.int .i64 k/\(k=1\/k=5\/k=2)/\Ext H H'):=by
 refine HC.via λR hR=>morainelaw11_kind.link ?_
 unfold morainelaw11_kind.pt
 intro b H1 hb hH1
 have e1:Ext H H1:=Ext.push' hH1
 have g1:=push_get hb hH1
 have hr:=mask_rng n
 rw[tmod_pos hr.1]
 generalize iand .i64 n 65535=y at*
 refine⟨by omega,?_⟩
 rcases(show(y % 3).toNat=0\/(y % 3).toNat=1\/(y % 3).toNat=2 by omega)with h | h | h
 ·rw[h];exact⟨1,by rw[addr_add_mk,hat_blk g1];rfl,hR _ _ ⟨1,rfl,.inl rfl,e1⟩⟩
 ·rw[h];exact⟨5,by rw[addr_add_mk,hat_blk g1];rfl,hR _ _ ⟨5,rfl,.inr (.inl rfl),e1⟩⟩
 ·rw[h];exact⟨2,by rw[addr_add_mk,hat_blk g1];rfl,hR _ _ ⟨2,rfl,.inr (.inr rfl),e1⟩⟩

structure Went (H H':zV) (b:Blk) (x:Hp) (sz:Int->Nat) (x':Hp) (sz':Int->Nat):Prop where
 view:View H' (some ⟨b.h,0,none⟩) (some (b,x'))
 inv:Inv x'.sp sz'
 lift:Lift x.sp.mem sz x'.sp.mem sz'
 cf:x'.sp.cf=x.sp.cf
 fr:Fr [b.sp,b.m,b.s] H H'
theorem Went.ext{H H':zV}{b:Blk}{x:Hp}{sz:Int->Nat}(V:View H (some ⟨b.h,0,none⟩) (some (b,x)))(I:Inv x.sp sz)(e:Ext H H'):Went H H' b x sz x sz:=⟨V.ext e,I,Lift.refl _ _,rfl,e.fr⟩
theorem Went.trans{A B C:zV}{b:Blk}{x y z:Hp}{f g h:Int->Nat}(p:Went A B b x f y g)(q:Went B C b y g z h):Went A C b x f z h:=⟨q.view,q.inv,p.lift.trans q.lift,q.cf.trans p.cf,p.fr.trans q.fr⟩
theorem hset_went{H H':zV}{b:Blk}{x:Hp}{sz:Int->Nat}{w i v:Int}(I:Inv x.sp sz)(hw:IsWord w)(hg:Good x.sp.mem sz w)(hv:IsWord v)(hgv:Good x.sp.mem sz v)(hi:i=0\/i=1)(V:View H' (some ⟨b.h,0,none⟩) (hsetO (some (b,x)) w i v))(f:Fr (own (some (b,x))) H H'): ∃x',Went H H' b x sz x' sz:=by
 have e:hsetO (some (b,x)) w i v=some (b,x.setMem (if x.sp.mem.isPair w then(x.sp.mem.store (w / 8+i) v).1 else x.sp.mem)):=rfl
 rw[e]at V
 refine⟨x.setMem (if x.sp.mem.isPair w then(x.sp.mem.store (w / 8+i) v).1 else x.sp.mem),?_⟩
 by_cases hp:x.sp.mem.isPair w
 ·rw[if_pos hp]at V⊢
  have hs:=pair_size hp
  have ht:=thing_tag hs
  obtain⟨d1,d2⟩:=hg.2 ht
  have h3:=(isPair_iff hs).1 hp
  have hk1:x.sp.mem.kAt (w / 8)<=1:=by
   unfold tagK at d2
   by_cases q0:x.sp.mem.kAt (w / 8)=0
   ·rw[q0];decide
   ·rw[if_neg q0]at d2
    by_cases q1:x.sp.mem.kAt (w / 8)=1
    ·rw[q1];decide
    ·rw[if_neg q1]at d2;exact absurd d2 h3
  obtain⟨z2,zev⟩:=I.sound.two _ d1 hk1
  have hii:i.toNat<sz (w / 8):=by omega
  have hai:=I.sound.usedAt d1 hii (λk=>(I.ok.mem.seg k).n.2)
  rw[show((i.toNat:Nat):Int)=i by omega]at hai
  obtain⟨I2,l2,c2⟩:=I.store (x:=w / 8+i) hv hgv (λa ha hk e=>by
   have:x.sp.mem.kAt a=x.sp.mem.kAt (w / 8):=by rw[<-e];unfold Mem.kAt;rw[hai.2.1]
   omega)
  exact⟨V,I2,l2,c2,f⟩
 ·rw[if_neg hp]at V⊢
  exact⟨V,I,Lift.refl _ _,rfl,f⟩
theorem set_went{H H':zV}{b:Blk}{x:Hp}{sz:Int->Nat}{w k i v:Int}(I:Inv x.sp sz)(hw:IsWord w)(hg:Good x.sp.mem sz w)(hv:IsWord v)(hgv:Good x.sp.mem sz v)(V:View H' (some ⟨b.h,0,none⟩) (setO (some (b,x)) w k i v))(f:Fr (own (some (b,x))) H H'): ∃x',Went H H' b x sz x' sz:=by
 have e:setO (some (b,x)) w k i v=some (b,x.setMem (if x.sp.mem.fieldE w k i=0 then(x.sp.mem.store (w / 8+1+i) v).1 else x.sp.mem)):=rfl
 rw[e]at V
 refine⟨x.setMem (if x.sp.mem.fieldE w k i=0 then(x.sp.mem.store (w / 8+1+i) v).1 else x.sp.mem),?_⟩
 by_cases hp:x.sp.mem.fieldE w k i=0
 ·rw[if_pos hp]at V⊢
  have hp0:=hp
  unfold Mem.fieldE at hp
  by_cases h1: ¬x.sp.mem.isObj w\/x.sp.mem.typ w≠k
  ·rw[if_pos h1]at hp;exact absurd hp (by decide)
  rw[if_neg h1]at hp
  by_cases h2:i<0\/x.sp.mem.len w<=i
  ·rw[if_pos h2]at hp;exact absurd hp (by decide)
  have ho:x.sp.mem.isObj w:=Decidable.not_not.1 λq=>h1 (.inl q)
  have h3:=ho.1.2.1
  have ht:isTag w:=.inr (.inr h3)
  obtain⟨d1,d2⟩:=hg.2 ht
  have hk2:2<=x.sp.mem.kAt (w / 8):=by
   have:=(I.ok.mem.seg (w / 8 / 64).toNat).kind
   have e:x.sp.mem.kAt (w / 8)=(x.sp.mem.seg (w / 8 / 64).toNat).kind:=rfl
   unfold tagK at d2
   by_cases q0:x.sp.mem.kAt (w / 8)=0
   ·rw[if_pos q0]at d2;omega
   ·rw[if_neg q0]at d2
    by_cases q1:x.sp.mem.kAt (w / 8)=1
    ·rw[if_pos q1]at d2;omega
    ·rw[e]at q0 q1⊢;omega
  obtain⟨p1,p2,p3⟩:=I.sound.obj _ d1 hk2
  have hl:x.sp.mem.len w=hn (x.sp.mem.get (w / 8)):=by unfold Mem.len;rw[if_pos ho]
  have hw2:=I.sound.within d1 (i:=(1+i).toNat) (by omega) (by omega)
  rw[show w / 8+(((1+i).toNat:Nat):Int)=w / 8+1+i by omega]at hw2
  obtain⟨I2,l2,c2⟩:=I.store (x:=w / 8+1+i) hv hgv (λa ha hk e=>by rw[e]at hw2;exact ha hw2)
  exact⟨V,I2,l2,c2,f⟩
 ·rw[if_neg hp]at V⊢
  exact⟨V,I,Lift.refl _ _,rfl,f⟩
set_option maxRecDepth 100000 in
theorem set11_c{H:zV}{b:Blk}{x:Hp}{sz:Int->Nat}{w n v:Int}(V:View H (some ⟨b.h,0,none⟩) (some (b,x)))(I:Inv x.sp sz)(hw:IsWord w)(hg:Good x.sp.mem sz w)(hv:IsWord v)(hgv:Good x.sp.mem sz v):
  morainelaw11_Set.C (some ⟨b.h,0,none⟩) w n v H (λu H'=>(∃k:Int,u=.int .i64 k)/\ ∃x',Went H H' b x sz x' sz):=by
 refine HC.via λR hR=>morainelaw11_Set.link ?_
 unfold morainelaw11_Set.pt
 have stay: ∀{A:zV} {k:Int},Ext H A->R (.int .i64 k) A:=λ{A k} e=>hR _ _ ⟨⟨k,rfl⟩,x,Went.ext V I e⟩
 refine HC.mono (obj_Pair_c V hw) ?_
 rintro _ H1 ⟨rfl,e1⟩
 refine⟨_,rfl,?_⟩
 by_cases hc:(decide ((mof (some (b,x))).isPair w) && (iand .i64 (iand .i64 n 65535) 1==0))=true
 ·rw[if_pos hc]
  refine HC.mono (obj_SetCar_c (V.ext e1) hw hv) ?_
  rintro _ H2 ⟨rfl,V2,f2⟩
  obtain⟨x',W⟩:=hset_went (i:=0) I hw hg hv hgv (.inl rfl) V2 f2
  exact⟨_,rfl,hR _ _ ⟨⟨_,rfl⟩,x',(Went.ext V I e1).trans W⟩⟩
 rw[if_neg hc]
 refine HC.mono (obj_Pair_c (V.ext e1) hw) ?_
 rintro _ H3 ⟨rfl,e3⟩
 have e13:=e1.trans e3
 refine⟨_,rfl,?_⟩
 by_cases hp:decide ((mof (some (b,x))).isPair w)=true
 ·rw[if_pos hp]
  refine HC.mono (obj_SetCdr_c (V.ext e13) hw hv) ?_
  rintro _ H4 ⟨rfl,V4,f4⟩
  obtain⟨x',W⟩:=hset_went (i:=1) I hw hg hv hgv (.inr rfl) V4 f4
  exact⟨_,rfl,hR _ _ ⟨⟨_,rfl⟩,x',(Went.ext V I e13).trans W⟩⟩
 rw[if_neg hp]
 refine HC.mono (obj_Type_c (V.ext e13) hw) ?_
 rintro _ H5 ⟨rfl,e5⟩
 have e15:=e13.trans e5
 refine⟨_,rfl,?_⟩
 by_cases t0:(mof (some (b,x))).typ w=0
 ·rw[if_pos t0];exact stay e15
 rw[if_neg t0]
 refine HC.mono (obj_Len_c (V.ext e15) hw) ?_
 rintro _ H6 ⟨rfl,e6⟩
 have e16:=e15.trans e6
 refine⟨_,rfl,?_⟩
 by_cases l0:(mof (some (b,x))).len w=0
 ·rw[if_pos l0];exact stay e16
 rw[if_neg l0]
 refine HC.mono (obj_Type_c (V.ext e16) hw) ?_
 rintro _ H7 ⟨rfl,e7⟩
 have e17:=e16.trans e7
 refine⟨_,rfl,?_⟩
 by_cases t2:(mof (some (b,x))).typ w=2
 ·rw[if_pos t2];exact stay e17
 rw[if_neg t2]
 refine HC.mono (obj_Type_c (V.ext e17) hw) ?_
 rintro _ H8 ⟨rfl,e8⟩
 have e18:=e17.trans e8
 refine⟨_,rfl,?_⟩
 by_cases t10:(mof (some (b,x))).typ w=10
 ·rw[if_pos t10];exact stay e18
 rw[if_neg t10]
 refine HC.mono (obj_Type_c (V.ext e18) hw) ?_
 rintro _ H9 ⟨rfl,e9⟩
 have e19:=e18.trans e9
 refine⟨_,rfl,?_⟩
 refine HC.mono (obj_Len_c (V.ext e19) hw) ?_
 rintro _ H10 ⟨rfl,e10⟩
 have e110:=e19.trans e10
 refine⟨_,rfl,l0,?_⟩
 have hr:=mask_rng n
 have hlr:=x.sp.mem.len_rng w
 have hlb:(mof (some (b,x))).len w=x.sp.mem.len w:=rfl
 have hm0:=Int.emod_nonneg (iand .i64 n 65535) l0
 have hml:=Int.emod_lt_of_pos (iand .i64 n 65535) (show 0< (mof (some (b,x))).len w by omega)
 refine HC.mono (obj_Set_c (V.ext e110) hw (by rw[tmod_pos hr.1];omega) hv) ?_
 rintro _ H11 ⟨rfl,V11,f11⟩
 obtain⟨x',W⟩:=set_went I hw hg hv hgv V11 f11
 exact⟨_,rfl,hR _ _ ⟨⟨_,rfl⟩,x',(Went.ext V I e110).trans W⟩⟩

theorem put_new{s:Sp}(ok:SpOK s){kind tag:Int}{ws:List Int}(ht:tag=tagK kind)(hw: ∀w∈ws,IsWord w)(h:(s.put kind tag ws).2.2=0): ¬s.mem.used ((s.put kind tag ws).2.1 / 8)/\isTag (s.put kind tag ws).2.1:=by
 have ht3:tag=1\/tag=2\/tag=3:=by
  rw[ht];unfold tagK
  split
  ·exact .inl rfl
  split
  ·exact .inr (.inl rfl)
  ·exact .inr (.inr rfl)
 by_cases hf:(s.alloc 0 kind ws.length).2.2=0
 case neg=>
  have e:s.put kind tag ws=(s,0,(s.alloc 0 kind ws.length).2.2):=by unfold Sp.put;rw[if_neg hf]
  rw[e]at h;exact absurd h hf
 have hmay:=alloc_may' hf
 obtain⟨a,e1,gr,e2,ok2,a64,_⟩:=Sp.put_ok ok hmay (show tag=1\/tag=2\/tag=3\/tag=6 by omega) hw hf
 have hn:1<=ws.length:=by have:=hmay.2;omega
 have hn2:=gr.not_in (x:=a)
 rw[e1]
 show ¬s.mem.used ((a*8+tag) / 8)/\isTag (a*8+tag)
 rw[show(a*8+tag) / 8=a by omega]
 exact⟨λhu=>hn2 hu ⟨by omega,by omega⟩,by unfold isTag;omega⟩
theorem put_went{H H':zV}{b:Blk}{x:Hp}{sz:Int->Nat}{kind tag:Int}{ws:List Int}(I:Inv x.sp sz)(hkr:0<=kind/\kind<=3)(ht:tag=tagK kind)(hw: ∀w∈ws,IsWord w)(hP:kind<=1->ws.length=2)(hO:2<=kind-> ∃hd fs,ws=hd::fs/\headOK hd/\rawK (hk hd)=kind/\hn hd=fs.length)
  (hG:kind≠3-> ∀w∈ws,Good x.sp.mem sz w) (V:View H' (some ⟨b.h,0,none⟩) (putO (some (b,x)) kind tag ws)) (f:Fr (own (some (b,x))) H H'):
  ∃x' sz',Went H H' b x sz x' sz'/\((putR (some (b,x)) kind tag ws).2=0->IsWord (putR (some (b,x)) kind tag ws).1/\Good x'.sp.mem sz' (putR (some (b,x)) kind tag ws).1/\ ¬x.sp.mem.used ((putR (some (b,x)) kind tag ws).1 / 8)/\isTag (putR (some (b,x)) kind tag ws).1):=by
 obtain⟨sz',I',l',g',c'⟩:=I.put hkr ht hw hP hO hG
 exact⟨{x with sp:=(x.sp.put kind tag ws).1},sz',⟨V,I',l',c',f⟩,λh=>⟨(g' h).1,(g' h).2,put_new I.ok ht hw h⟩⟩
theorem make_went{H H':zV}{b:Blk}{x:Hp}{sz:Int->Nat}{kind:Int}{ws:List Int}(I:Inv x.sp sz)(hkr:1<=kind/\kind<=13)(hw: ∀w∈ws,IsWord w)(hl:ws.length<=62)(hG: ∀w∈ws,Good x.sp.mem sz w)(V:View H' (some ⟨b.h,0,none⟩) (makeO (some (b,x)) kind 0 ws))(f:Fr (own (some (b,x))) H H'):
  ∃x' sz',Went H H' b x sz x' sz'/\((makeR (some (b,x)) kind 0 ws).2=0->IsWord (makeR (some (b,x)) kind 0 ws).1/\Good x'.sp.mem sz' (makeR (some (b,x)) kind 0 ws).1/\ ¬x.sp.mem.used ((makeR (some (b,x)) kind 0 ws).1 / 8)/\isTag (makeR (some (b,x)) kind 0 ws).1):=by
 have e1:makeO (some (b,x)) kind 0 ws=putO (some (b,x)) (rawK kind) 3 ((0*65536+ws.length*256+kind*8+5)::ws):=by
  unfold makeO;rw[if_neg (λq=>q ⟨hkr,by decide⟩),if_neg (by omega)]
 have e2:makeR (some (b,x)) kind 0 ws=putR (some (b,x)) (rawK kind) 3 ((0*65536+ws.length*256+kind*8+5)::ws):=by
  unfold makeR;rw[if_neg (λq=>q ⟨hkr,by decide⟩),if_neg (by omega)]
 rw[e1]at V
 rw[e2]
 obtain⟨p1,p2,p3,p4⟩:=head_parts (kind:=kind) (more:=0) (n:=ws.length) hkr ⟨by decide,by decide⟩ hl
 have hr:rawK kind=2\/rawK kind=3:=by unfold rawK;split<;>omega
 refine put_went I (by omega) (by unfold tagK;rw[if_neg (by omega),if_neg (by omega)]) (λw hwm=>?_) (λh=>by omega) (λ_=>⟨_,ws,rfl,p1,by rw[p2],p3⟩) (λ_ w hwm=>?_) V f
 ·rcases List.mem_cons.1 hwm with rfl | h
  ·exact⟨by omega,by omega⟩
  ·exact hw w h
 ·rcases List.mem_cons.1 hwm with rfl | h
  ·have:=p1.1
   exact⟨by omega,λht=>by unfold isTag at ht;omega⟩
  ·exact hG w h

structure Act (H H':zV) (b:Blk) (x:Hp) (sz:Int->Nat) (mB:zW) (made:List Int) (x':Hp) (sz':Int->Nat) (B':zW) (c':Nat) (made':List Int):Prop where
 view:View H' (some ⟨b.h,0,none⟩) (some (b,x'))
 inv:Inv x'.sp sz'
 cf:x'.sp.cf=x.sp.cf
 fr:Fr ([b.sp,b.m,b.s]++blks mB) H H'
 own:Own H' 24 1 B' made'.length c' (wvs made')
 good: ∀w∈made',IsWord w/\Good x'.sp.mem sz' w
 len:made'.length<=made.length+1
 blk: ∀j∈blks B',j∈blks mB\/H.size<=j
 news:made'=made\/ ∃w,made'=made++[w]/\w ∉ made/\isTag w
set_option maxRecDepth 100000 in
theorem made11_c{H:zV}{b:Blk}{x:Hp}{sz:Int->Nat}{a:ActOf}{made:List Int}{mB:zW}{mC:Nat}(V:View H (some ⟨b.h,0,none⟩) (some (b,x)))(I:Inv x.sp sz)(hcf:x.sp.cf<4611686018427387904)(how:Own H 24 1 mB made.length mC (wvs made))(hd: ∀j∈blks mB,j ∉ b.all)
  (hg: ∀w∈made,IsWord w/\Good x.sp.mem sz w) (hl:made.length<=1000000000) (hA:ActOf.OK maxLen H a):
  morainelaw11_Made.C (some ⟨b.h,0,none⟩) a.dov a.kind a.n a.x.w a.x.ofv a.y.w a.y.ofv a.l.p a.l.n a.l.c mB made.length mC H (λv H'=> ∃(B':zW) (c':Nat) (made':List Int) (x':Hp) (sz':Int->Nat),v=.slice B' made'.length c'/\Act H H' b x sz mB made x' sz' B' c' made'):=by
 refine HC.via λR hR=>morainelaw11_Made.link ?_
 unfold morainelaw11_Made.pt
 intro b1 H1 hb1 hH1
 have e1:Ext H H1:=Ext.push' hH1
 have g1:=push_get hb1 hH1
 have hall: ∀j∈blks mB,j ∉ [b.sp,b.m,b.s]:=λj hj q=>hd j hj (by simp at q;simp[Blk.all];omega)
 have hxw:=hA.x
 have hyw:=hA.y
 have iw: ∀(v:ValOf),valOfR.ok maxLen H v->IsWord v.w/\I64 v.ofv:=λv h=>⟨wf_u64 h.w,wf_i64 h.ofv⟩
 obtain⟨xw,xo⟩:=iw _ hxw
 obtain⟨yw,yo⟩:=iw _ hyw
 have gw: ∀w∈made,IsWord w:=λw h=>(hg w h).1
 have gg: ∀w∈made,Good x.sp.mem sz w:=λw h=>(hg w h).2
 refine⟨a.x.w,a.x.ofv,⟨by rw[addr_add_mk,addr_add_mk,hat_blk g1];rfl,by rw[addr_add_mk,addr_add_mk,hat_blk g1];rfl,trivial⟩,a.y.w,a.y.ofv,⟨by rw[addr_add_mk,addr_add_mk,hat_blk g1];rfl,by rw[addr_add_mk,addr_add_mk,hat_blk g1];rfl,trivial⟩,?_⟩
 refine HC.mono (word11_c xw xo (how.ext e1)) ?_
 rintro _ H2 ⟨rfl,e2⟩
 have g2:=e2.get g1
 refine⟨_,rfl,⟨by rw[addr_add_mk,addr_add_mk,hat_blk g2];rfl,by rw[addr_add_mk,addr_add_mk,hat_blk g2];rfl,trivial⟩,?_⟩
 refine HC.mono (word11_c yw yo (how.ext (e1.trans e2))) ?_
 rintro _ H3 ⟨rfl,e3⟩
 have g3:=e3.get g2
 have e13:=(e1.trans e2).trans e3
 have aw:=valW_word xw (Of:=a.x.ofv) gw
 have ag:=valW_good (W:=a.x.w) (Of:=a.x.ofv) gg
 have bw:=valW_word yw (Of:=a.y.ofv) gw
 have bg:=valW_good (W:=a.y.w) (Of:=a.y.ofv) gg
 generalize valW a.x.w a.x.ofv made=va at*
 generalize valW a.y.w a.y.ofv made=vb at*
 have V3:=V.ext e13
 have hc:cntOK (some (b,x)):=Sp.cf_count I.ok hcf
 have hlt:=how.lt
 have z13:=e13.size
 have W3:Went H H3 b x sz x sz:=Went.ext V I e13
 have owA: ∀{A:zV},Fr [b.sp,b.m,b.s] H A->Own A 24 1 mB made.length mC (wvs made):=λ{A} f=>how.keep f hall
 have stay: ∀{A:zV} {x':Hp} {sz':Int->Nat},Went H A b x sz x' sz'->R (.slice mB made.length mC) A:=λ{A x' sz'} W=>
  hR _ _ ⟨mB,mC,made,x',sz',rfl,W.view,W.inv,W.cf,W.fr.mono (λj hj _=>List.mem_append_left _ hj),owA W.fr,λw h=>⟨(hg w h).1,W.lift _ (hg w h).2⟩,by omega,λj hj=> .inl hj,.inl rfl⟩
 have fin: ∀{A:zV} {x':Hp} {sz':Int->Nat} (w:Int),Went H A b x sz x' sz'->IsWord w->Good x'.sp.mem sz' w-> ¬x.sp.mem.used (w / 8)/\isTag w-> ∀(b_2:Nat) (H5:zV),b_2=A.size->H5=A.push (.cells #[.int .u64 w] 24)->
   appendK 1 24 8 [.int .u64 0] mB made.length mC (some (Addr.mk b_2 0 none)) 1 H5 (λap apC H6=>R (.slice ap (made.length+1) apC) H6):=λ{A x' sz'} w W hw hgw hnw b2 H5 hb2 hH5=>by
  have e5:Ext A H5:=Ext.push' hH5
  refine own_append (ys:=wvs [w]) ((owA W.fr).ext e5) (rowAt_blk (push_get hb2 hH5) _ 0 0 (λj hj=>by
   simp only[wvs,List.map_cons,List.map_nil,List.length_cons,List.length_nil]at hj
   obtain rfl:j=0:=by omega
   rfl)) rfl (allOne_wvs _) rfl (by omega) ?_
  intro B' c' H6 ho6 f6 hn6
  have zA:=W.fr.size
  have z5:=e5.size
  have hlen:(made++[w]).length=made.length+1:=by simp
  have V5:=W.view.ext e5
  have V6:View H6 (some ⟨b.h,0,none⟩) (some (b,x')):=by
   obtain⟨-,hp,ok⟩:=V5.inv
   exact .real (hp.keep f6 (λi hi=>hd i hi)) ok
  have:=hR (.slice B' (made++[w]).length c') H6 ⟨B',c',made++[w],x',sz',rfl,V6,W.inv,W.cf,((W.fr.trans e5.fr).mono (λj hj _=>List.mem_append_left _ hj)).trans (f6.mono (λj hj _=>List.mem_append_right _ hj)),by rw[hlen];simpa[wvs]using ho6,λv hv=>?_,by rw[hlen];exact Nat.le_refl _,λj hj=>?_,.inr ⟨w,rfl,λhm=>hnw.1 (I.sound.used _ ((hg w hm).2.2 hnw.2).1).1,hnw.2⟩⟩
  ·rw[hlen]at this;exact this
  ·rcases List.mem_append.1 hv with q | q
   ·exact⟨(hg v q).1,W.lift _ (hg v q).2⟩
   ·simp at q;rw[q];exact⟨hw,hgw⟩
  ·rcases hn6 j hj with q | q
   ·exact .inl q
   ·exact .inr (by omega)
 refine⟨_,rfl,a.dov,by rw[hat_blk g3];rfl,?_⟩
 by_cases h0:a.dov=0
 ·rw[if_pos h0]
  refine HC.mono (obj_Cons_c V3 aw bw hc) ?_
  rintro _ H4 ⟨rfl,V4,f4⟩
  obtain⟨x',sz',W4,gv⟩:=put_went I (by decide) rfl (λw hwm=>by simp at hwm;rcases hwm with rfl | rfl<;>assumption) (λ_=>rfl) (λh=>by omega) (λ_ w hwm=>by simp at hwm;rcases hwm with rfl | rfl<;>assumption) V4 f4
  refine⟨_,_,rfl,?_⟩
  have W:=W3.trans W4
  by_cases hr:(putR (some (b,x)) 0 1 [va,vb]).2=0
  ·rw[if_pos hr];exact fin _ W (gv hr).1 (gv hr).2.1 (gv hr).2.2
  ·rw[if_neg hr];exact stay W
 rw[if_neg h0]
 by_cases h1:a.dov=1
 ·rw[if_pos h1]
  refine HC.mono (obj_Weak_c V3 aw bw hc) ?_
  rintro _ H4 ⟨rfl,V4,f4⟩
  obtain⟨x',sz',W4,gv⟩:=put_went I (by decide) rfl (λw hwm=>by simp at hwm;rcases hwm with rfl | rfl<;>assumption) (λ_=>rfl) (λh=>by omega) (λ_ w hwm=>by simp at hwm;rcases hwm with rfl | rfl<;>assumption) V4 f4
  refine⟨_,_,rfl,?_⟩
  have W:=W3.trans W4
  by_cases hr:(putR (some (b,x)) 1 2 [va,vb]).2=0
  ·rw[if_pos hr];exact fin _ W (gv hr).1 (gv hr).2.1 (gv hr).2.2
  ·rw[if_neg hr];exact stay W
 rw[if_neg h1]
 by_cases h2:a.dov=2
 ·rw[if_pos h2]
  refine⟨a.kind,by rw[addr_add_mk,hat_blk g3];rfl,a.l.p,a.l.n,a.l.c,by rw[addr_add_mk,hat_blk g3];rfl,?_⟩
  refine HC.mono kind11_c ?_
  rintro _ H4 ⟨k,rfl,hk,e4⟩
  have g4:=e4.get g3
  refine⟨_,rfl,⟨by rw[addr_add_mk,addr_add_mk,hat_blk g4];rfl,trivial⟩,?_⟩
  have e14:=e13.trans e4
  refine HC.mono (words11_c (SlOK.ext hA.l e14) (how.ext e14)) ?_
  rintro _ H5 ⟨q,n',c',rfl,hn',hn62,ho5,e5,hq⟩
  refine⟨_,_,_,rfl,?_⟩
  have e15:=e14.trans e5
  have hww: ∀w∈(a.l.xs.take 62).map (λv=>valW v.w v.ofv made),IsWord w:=λw hwm=>by
   obtain⟨v,hv,rfl⟩:=List.mem_map.1 hwm
   exact valW_word (wf_u64 (hA.l.each v (List.mem_of_mem_take hv)).w) gw
  have hgg: ∀w∈(a.l.xs.take 62).map (λv=>valW v.w v.ofv made),Good x.sp.mem sz w:=λw hwm=>by
   obtain⟨v,hv,rfl⟩:=List.mem_map.1 hwm
   exact valW_good gg
  generalize (a.l.xs.take 62).map (λv=>valW v.w v.ofv made)=ws at*
  refine HC.mono (obj_Make_c (ws:=ws) (V.ext e15) ho5.src hn' hww (by omega) (by decide) hc (by omega)) ?_
  rintro _ H6 ⟨rfl,V6,f6⟩
  obtain⟨x',sz',W6,gv⟩:=make_went I (by omega) hww (by omega) hgg V6 f6
  refine⟨_,_,rfl,?_⟩
  have W:=(Went.ext V I e15).trans W6
  by_cases hr:(makeR (some (b,x)) k 0 ws).2=0
  ·rw[if_pos hr];exact fin _ W (gv hr).1 (gv hr).2.1 (gv hr).2.2
  ·rw[if_neg hr];exact stay W
 rw[if_neg h2]
 by_cases h3:a.dov=3
 ·rw[if_pos h3]
  refine⟨a.n,by rw[addr_add_mk,hat_blk g3];rfl,?_⟩
  refine HC.mono (set11_c V3 I aw ag bw bg) ?_
  rintro _ H4 ⟨⟨k,rfl⟩,x',W4⟩
  exact⟨_,rfl,stay (W3.trans W4)⟩
 rw[if_neg h3]
 by_cases h4:a.dov=4
 ·rw[if_pos h4]
  intro b4 H4 hb4 hH4
  have e4:Ext H3 H4:=Ext.push' hH4
  have e14:=e13.trans e4
  have w20: ∀w∈([20,20]:List Int),IsWord w:=λw h=>by simp at h;rw[h];decide
  have g20: ∀w∈([20,20]:List Int),Good x.sp.mem sz w:=λw h=>by simp at h;rw[h];exact⟨by decide,λht=>absurd ht (by decide)⟩
  refine HC.mono (obj_Make_c (ws:=[20,20]) (V.ext e14) (show SrcAt H4 (some ⟨b4,0,none⟩) (wvs [20,20])from box_row (vs:=[.int .u64 20,.int .u64 20]) (push_get hb4 hH4)) rfl w20 (by decide) (by decide) hc (by decide)) ?_
  rintro _ H6 ⟨rfl,V6,f6⟩
  obtain⟨x',sz',W6,gv⟩:=make_went I (by decide) w20 (by decide) g20 V6 f6
  refine⟨_,_,rfl,?_⟩
  have W:=(Went.ext V I e14).trans W6
  by_cases hr:(makeR (some (b,x)) 10 0 [20,20]).2=0
  ·rw[if_pos hr];exact fin _ W (gv hr).1 (gv hr).2.1 (gv hr).2.2
  ·rw[if_neg hr];exact stay W
 rw[if_neg h4]
 exact stay W3
