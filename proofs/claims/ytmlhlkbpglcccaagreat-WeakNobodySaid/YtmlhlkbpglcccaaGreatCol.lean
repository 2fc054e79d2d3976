/-
 A collection in plain words: cars of weak pairs are told anew, or broken; what it leaves. Proves nothing of any one statement.
-/
import Derived.Test.YtmlhlkbpglcccaaGreatTsE
import Derived.Test.YtmlhlkbpglcccaaGreatWend
set_option linter.unusedVariables false
set_option linter.unusedSimpArgs false
namespace Go.Proofs.YtmlhlkbpglcccaaGreat
open Go

def brkR(O:Nat->Bool)(m:Mem)(a:Int):Mem:=if aQ O (m.read a)then m.wr a ((m.fwd (m.read a)).getD 44)else m
theorem kF{m:Mem}(ok:bI m)(w:Int):aH ((m.fwd w).getD 44):=by
 unfold Mem.fwd
 split
 ·have:=(ok.seg (w / 8 / 64).toNat).words (w / 8 % 64).toNat
  have h:aH (m.get (w / 8)):=(ok.seg _).words _
  unfold aH at h⊢
  show 0<=m.get (w / 8) / 8*8+w % 8/\_
  simp only[Option.getD_some]
  omega
 ·decide
theorem gF(O:Nat->Bool)(m:Mem)(a:Int):aZ m (brkR O m a):=by
 unfold brkR
 split
 ·exact aZ.wr m a _
 ·exact aZ.refl m
theorem ox{s:Sp}(ok:SpOK s)(O:Nat->Bool)(a:Int):SpOK {s with mem:=brkR O s.mem a}:=by
 unfold brkR
 split
 ·exact ok.wr a (kF ok.mem _)
 ·exact ok
theorem jX(O:Nat->Bool): ∀(l:List Int) (m:Mem),aZ m (l.foldl (brkR O) m)
 | [],m=>aZ.refl m
 | a::l,m=>(gF O m a).trans (jX O l _)
theorem lz(O:Nat->Bool): ∀(l:List Int) {s:Sp},SpOK s->SpOK {s with mem:=l.foldl (brkR O) s.mem}
 | [],s,ok=>ok
 | a::l,s,ok=>lz O l (ox ok O a)
theorem jY{O:Nat->Bool}{m:Mem}{a x:Int}(hx:m.used x):(brkR O m a).get x=if x=a/\aQ O (m.get x)then(m.fwd (m.get x)).getD 44 else m.get x:=by
 have x0:=hx.1
 unfold brkR
 by_cases e:x=a
 ·subst e
  have hr:m.read x=m.get x:=by unfold Mem.read;rw[if_pos hx]
  rw[hr]
  by_cases ho:aQ O (m.get x)
  ·rw[if_pos ho,if_pos ⟨rfl,ho⟩]
   unfold Mem.wr;rw[if_pos hx,Mem.set_get x x0 x0,if_pos rfl]
  ·rw[if_neg ho,if_neg (λq=>ho q.2)]
 ·rw[if_neg (show ¬(x=a/\aQ O (m.get x))from λq=>e q.1)]
  split
  ·unfold Mem.wr
   by_cases hu:m.used a
   ·rw[if_pos hu,Mem.set_get x x0 hu.1,if_neg e]
   ·rw[if_neg hu]
  ·rfl
theorem nO{O:Nat->Bool}{m:Mem}{a w:Int}(ha:O (a / 64).toNat=false)(hw:aQ O w):(brkR O m a).fwd w=m.fwd w:=by
 unfold Mem.fwd
 by_cases hu:m.used (w / 8)
 ·have e:(brkR O m a).get (w / 8)=m.get (w / 8):=by
   rw[jY hu,if_neg]
   rintro⟨h,_⟩
   have:=hw.2.2
   rw[h,ha]at this;cases this
  rw[e]
  have hu2:=(gF O m a).used.2 hu
  exact hU ⟨λq=>⟨hu,q.2⟩,λq=>⟨hu2,q.2⟩⟩ _ _
 ·rw[if_neg (λq=>hu ((gF O m a).used.1 q.1)),if_neg (λq=>hu q.1)]
theorem kG(O:Nat->Bool): ∀(l:List Int) {m:Mem} {x:Int},(∀a∈l,O (a / 64).toNat=false)->(aQ O (m.get x)-> ∀v,m.fwd (m.get x)=some v-> ¬aQ O v)->m.used x->
  (l.foldl (brkR O) m).get x=if x∈l/\aQ O (m.get x)then(m.fwd (m.get x)).getD 44 else m.get x
 | [],m,x,_,_,hx=>by rw[if_neg (λq=>by simp at q)];rfl
 | a::l,m,x,hl,hf,hx=>by
  have ha:=hl a (by simp)
  have hfw: ∀w,aQ O w->(brkR O m a).fwd w=m.fwd w:=λw hw=>nO ha hw
  have hno:aQ O (m.get x)-> ¬aQ O ((m.fwd (m.get x)).getD 44):=λe=>by
   cases hv:m.fwd (m.get x)with
   | none=>exact kC O
   | some v=>exact hf e v hv
  have hg:=jY (O:=O) (a:=a) hx
  have ih:=kG O l (m:=brkR O m a) (x:=x) (λb hb=>hl b (by simp[hb])) (λh1 v hv=>by
   by_cases e:x=a/\aQ O (m.get x)
   ·rw[hg,if_pos e]at h1;exact absurd h1 (hno e.2)
   ·rw[hg,if_neg e]at h1 hv
    exact hf h1 v (by rw[<-hfw _ h1];exact hv)) ((gF O m a).used.2 hx)
  show(l.foldl (brkR O) (brkR O m a)).get x=_
  rw[ih,hg]
  by_cases e:x=a/\aQ O (m.get x)
  ·rw[if_pos e,if_neg (λq=>hno e.2 q.2),if_pos ⟨by rw[e.1];simp,e.2⟩]
  ·rw[if_neg e]
   by_cases h:x∈l/\aQ O (m.get x)
   ·rw[if_pos h,if_pos ⟨by simp[h.1],h.2⟩,hfw _ h.2]
   ·rw[if_neg h,if_neg (λq=>?_)]
    rcases List.mem_cons.1 q.1 with r | r
    ·exact e ⟨r,q.2⟩
    ·exact h ⟨r,q.2⟩

section
variable {Z:TZ} {g F0:Int} {fw:Int->Option Int} {al:List Int} {s:Sp} {sz:Int->Nat}
theorem nh{tr:Tr}(S:dT Z g F0)(t:Tri Z F0 fw al s sz)(B:gm Z.m g Z.T tr)(hO:tr.old=Z.O){l:List Nat}(hl:dP s.mem [Z.T] l): ∀a∈s.mem.weaks tr l,Z.O (a / 64).toNat=false:=by
 intro a ha
 have hlim:=t.ok.mem.lim
 unfold Mem.weaks at ha
 rcases List.mem_append.1 ha with h | h
 ·obtain⟨k,hk,h⟩:=List.mem_flatMap.1 h
  have kd:((k:Nat):Int).toNat=k:=by omega
  unfold Mem.weakSeg at h
  by_cases hc:(s.mem.seg k).kind=1/\tr.old k=false
  case neg=>rw[if_neg hc]at h;simp at h
  rw[if_pos hc]at h
  obtain⟨j,hj,rfl⟩:=eJ.1 h
  rw[eY]at hj
  have hn:=(t.ok.mem.seg k).n
  have hf:=B.frmAt (k:=k) (by omega)
  have h0:0<=seenAt tr.frm k:=by
   rw[hf]
   split
   ·exact(S.ok.seg _).n.1
   ·exact Int.le_refl _
  rw[show((k:Int)*64+(seenAt tr.frm k+2*(j:Int))) / 64=k by omega,kd,<-hO];exact hc.2
 ·obtain⟨c,hc,h⟩:=List.mem_flatMap.1 h
  obtain⟨c1,c2,c3,c4⟩:=B.cardOf S c hc
  unfold Mem.weakCard at h
  by_cases hk:(s.mem.segOr c.1).kind=1
  case neg=>rw[if_neg hk]at h;simp at h
  rw[if_pos hk]at h
  obtain⟨j,hj,rfl⟩:=eJ.1 h
  rw[eY]at hj
  have h0:=c1.1
  rw[show(c.1*64+(c.2*16+2*(j:Int))) / 64=c.1 by omega];exact c2
theorem Tri.was_any(S:dT Z g F0)(t:Tri Z F0 fw al s sz){x v:Int}(hw:Was Z fw x v)(hk:s.mem.kAt x≠3):aH v/\Good Z.m Z.sz v:=by
 rcases hw with⟨h1,h2,rfl⟩ | ⟨a,b,i,h1,h2,h3,rfl⟩
 ·exact⟨(S.ok.seg _).words _,S.sound.good x h1 (by rw[<-(t.kAt h1).1];exact hk)⟩
 ·have im:=(t.img a b h1).2
  have hsa:=(t.olds.mem a ((t.al a).2 ⟨b,h1⟩)).1
  have hai:=S.sound.usedAt hsa h2 (λk=>(S.ok.seg k).n.2)
  have hf:=im.fit
  refine⟨(S.ok.seg _).words _,S.sound.good _ hai.1 ?_⟩
  have:s.mem.kAt x=Z.m.kAt (a+i):=by
   unfold Mem.kAt
   rw[h3,show(b+i) / 64=b / 64 by omega,hai.2.1];exact im.kind
  rw[<-this];exact hk
theorem Tri.fwd_is(S:dT Z g F0)(t:Tri Z F0 fw al s sz){w:Int}(hw:aH w)(hg:Good Z.m Z.sz w)(ho:aQ Z.O w):s.mem.fwd w=(fw (w / 8)).map λb=>b*8+w % 8:=by
 obtain⟨h1,h2,h3,h4⟩:=S.oldWord hg ho
 obtain⟨u1,u2⟩:=S.sound.used _ h1
 cases hf:fw (w / 8)with
 | none=>exact(t.same_size S hw hg ho hf).2.1
 | some b=>
  obtain⟨_,im⟩:=t.img _ _ hf
  have hb0:s.mem.used b:=by simpa using im.here 0 (by omega)
  have hlim:=t.ok.mem.lim
  have hb1:=hb0.2.1.2.1
  have hb2:=hb0.1
  unfold Mem.fwd
  rw[t.word _ _ hf,if_pos ⟨t.heads.used u1,⟨by omega,by omega⟩,by omega⟩]
  show some _=some _
  congr 2;omega
structure nP (Z:TZ) (fw:Int->Option Int) (s s':Sp):Prop extends mK Z fw s s' where
 exact: ∀x v,s.mem.used x->Z.O (x / 64).toNat=false->s.mem.kAt x=1->x % 2=0->Was Z fw x v->s'.mem.get x=if aQ Z.O v/\fw (v / 8)=none then 44 else Fw Z.O fw v
 old: ∀x,s.mem.used x->Z.O (x / 64).toNat=true->s'.mem.get x=s.mem.get x
theorem nP.of{tr:Tr}(S:dT Z g F0)(t:Tri Z F0 fw al s sz)(hm:iu Z.m)(B:gm Z.m g Z.T tr)(hO:tr.old=Z.O){l:List Nat}(hl:dP s.mem [Z.T] l):nP Z fw s {s with mem:=(s.mem.weaks tr l).foldl (brkR Z.O) s.mem}:=by
 have hout:=nh S t B hO hl
 have key: ∀x v,s.mem.used x->Z.O (x / 64).toNat=false->s.mem.kAt x=1->x % 2=0->Was Z fw x v->((s.mem.weaks tr l).foldl (brkR Z.O) s.mem).get x=if aQ Z.O v/\fw (v / 8)=none then 44 else Fw Z.O fw v:=λx v hu ho hk hx hv=>by
  have hval:s.mem.get x=v:=by
   rcases t.val x v hv with r | ⟨r,_⟩
   ·exact r
   ·have:=r.2.resolve_left (λe=>e hk);omega
  obtain⟨w1,w2⟩:=t.was_any S hv (by rw[hk];decide)
  have hfw:aQ Z.O v->s.mem.fwd v=(fw (v / 8)).map λb=>b*8+v % 8:=λo=>t.fwd_is S w1 w2 o
  rw[kG Z.O _ hout (λo v' hv'=>?_) hu,hval]
  ·by_cases o:aQ Z.O v
   ·have hin:=kE S t hm B hO hl hu ho hk hx hv o
    rw[if_pos ⟨hin,o⟩,hfw o]
    cases hf:fw (v / 8)with
    | none=>rw[if_pos ⟨o,rfl⟩];rfl
    | some b=>rw[if_neg (λq=>by cases q.2),gu o hf];rfl
   ·rw[if_neg (λq=>o q.2),if_neg (λq=>o q.1),iM o]
  ·rw[hval]at o hv'
   rw[hfw o]at hv'
   cases hf:fw (v / 8)with
   | none=>rw[hf]at hv';cases hv'
   | some b=>
    rw[hf]at hv';cases hv'
    have im:=(t.img _ _ hf).2
    intro q
    have:=q.2.2
    rw[show(b*8+v % 8) / 8=b by omega,im.out]at this
    cases this
 have hg0: ∀(l:List Int) (m:Mem) (x:Int),m.used x->x ∉ l->(l.foldl (brkR Z.O) m).get x=m.get x:=λl=>by
  induction l with
  | nil=>intro m x _ _;rfl
  | cons a l ih=>
   intro m x hm hn
   show(l.foldl (brkR Z.O) (brkR Z.O m a)).get x=_
   rw[ih _ x ((gF _ m a).used.2 hm) (λq=>hn (by simp[q])),jY hm,if_neg (λq=>hn (by simp[q.1]))]
 refine⟨⟨jX _ _ _,rfl,lz _ _ t.ok,λx hu ho hw=>?_,λx hu ho hk hx=>?_⟩,key,λx hu ho=>hg0 _ _ x hu (λq=>by have:=hout x q;rw[ho]at this;cases this)⟩
 ·show((s.mem.weaks tr l).foldl (brkR Z.O) s.mem).get x=_
  have hnin:x ∉ s.mem.weaks tr l:=λq=>by
   obtain⟨h1,h2,_⟩:=kD S t B hl x q
   exact hw ⟨h1,h2⟩
  exact hg0 _ _ x hu hnin
 ·obtain⟨v,hv⟩:=t.was hu ho
  show((s.mem.weaks tr l).foldl (brkR Z.O) s.mem).get x=44\/_
  by_cases o:aQ Z.O v/\fw (v / 8)=none
  ·left;rw[key x v hu ho hk hx hv,if_pos o]
  ·right
   intro v' hv'
   obtain rfl:=t.was_one hv' hv
   refine⟨λh=>?_,?_⟩
   ·cases hf:fw (v' / 8)with
    | none=>exact absurd ⟨h,hf⟩ o
    | some b=>exact⟨b,rfl⟩
   ·show((s.mem.weaks tr l).foldl (brkR Z.O) s.mem).get x=_
    rw[key x v' hu ho hk hx hv,if_neg o]
end


theorem oy{H:zV}{bm bs:Nat}{m:Mem}{a:Int}(h:cx H bm bs m)(ok:bI m)(ha:a<=9223372036854775807):
  bQ.C (some ⟨bm,0,none⟩) a H (λv H'=>v=.tuple #[.int .u64 (m.read a),.int .i64 (if m.used a then 0 else 18)]/\H'=H):=
 HC.mono (eX h ok ha) (by
  rintro _ _ ⟨rfl,rfl⟩
  refine⟨?_,rfl⟩
  unfold Mem.read
  split<;>rfl)
set_option maxRecDepth 100000 in
theorem kf{H:zV}{b:Blk}{y:Hp}{q:TB}{t:Tr}(T:Tg H b y q t)(hf:ej t.frm)(hcs:jr t.cards):
  dg.C (some ⟨q.t,0,none⟩) H (λ_ H'=> ∃l,dP y.sp.mem [t.tgt] l/\Tg H' b {y with sp:={y.sp with mem:=(y.sp.mem.weaks t l).foldl (brkR t.old) y.sp.mem}} q t/\Fr (spB b) H H'):=by
 refine HC.via λR hR=>dg.link ?_
 unfold dg.pt zY
 refine HC.mono (iJ T.toTc) ?_
 rintro _ H1 ⟨rfl,rfl⟩
 refine⟨_,rfl,?_⟩
 rw[if_neg (by rw[T.on];decide)]
 refine HC.mono (mc T hf hcs) ?_
 rintro _ H2 ⟨l,wB,wN,wC,hl,rfl,hWn,hr,hwb,hw3,e2⟩
 have hw:=nN T.ok.mem hf hcs hl
 have hrd: ∀j∈blks wB,j ∉ b.all:=λj hj h=>by have:=hwb j hj;have:=T.lt (.inl h);omega
 refine⟨_,_,_,rfl,?_⟩
 generalize hWW:y.sp.mem.weaks t l=W at*
 subst hWn
 refine⟨λk A=>(0<=k/\k<=W.length)/\Tg A b {y with sp:={y.sp with mem:=(W.take k.toNat).foldl (brkR t.old) y.sp.mem}} q t/\Fr (spB b) H2 A,λk _=>(W.length-k).toNat,
  ⟨⟨by omega,by omega⟩,T.grow e2,Fr.refl _ _⟩,?_⟩
 rintro k A ⟨hk,TA,fA⟩
 by_cases hlt:k< (W.length:Int)
 case neg=>
  rw[if_neg hlt]
  rw[List.take_of_length_le (by omega)]at TA
  exact hR _ _ ⟨l,hl,by rw[hWW];exact TA,e2.fr.trans fA⟩
 rw[if_pos hlt]
 have hkN:k.toNat<W.length:=by omega
 have hmem:=List.getElem_mem hkN
 have hrA:=hr.keep fA (λj hj hs=>hrd j hj (fj hs))
 obtain⟨a,ha,hata⟩:=jq hrA.src (i:=k.toNat) hkN
 have htk:W.take (k+1).toNat=W.take k.toNat++[W[k.toNat]]:=by rw[show(k+1).toNat=k.toNat+1 by omega,List.take_succ_eq_append_getElem hkN]
 have hfo:(W.take (k+1).toNat).foldl (brkR t.old) y.sp.mem=brkR t.old ((W.take k.toNat).foldl (brkR t.old) y.sp.mem) W[k.toNat]:=by rw[htk,List.foldl_append];rfl
 have hwk:=hw _ hmem
 generalize W[k.toNat]=w at*
 have hp:=TA.hp
 have hd:((W.length:Int)-(k+1)).toNat< ((W.length:Int)-k).toNat:=by omega
 refine⟨a,ha,⟨hk.1,hlt⟩,_,hata,_,rfl,_,TA.tr.hPtr,_,rfl,_,hp.hPtr,_,rfl,_,hp.cd.cPtr,_,rfl,_,hp.cd.sp.memPtr,?_⟩
 rw[w64 (n:=k+1) (by omega)]
 generalize hmm:(W.take k.toNat).foldl (brkR t.old) y.sp.mem=m at*
 refine HC.mono (oy hp.cd.sp.mem TA.ok.mem (by omega)) ?_
 rintro _ A1 ⟨rfl,rfl⟩
 refine⟨_,_,rfl,?_⟩
 have hrw:aH (m.read w):=Mem.read_word TA.ok.mem w
 refine HC.mono (jM TA.toTc hrw) ?_
 rintro _ A2 ⟨rfl,e2'⟩
 refine⟨_,rfl,?_⟩
 have T2:=TA.grow e2'
 by_cases ho:aQ t.old (m.read w)
 case neg=>
  rw[if_neg (by simp[ho])]
  have eb:brkR t.old m w=m:=by unfold brkR;rw[if_neg ho]
  exact⟨⟨⟨by omega,by omega⟩,by rw[hfo,eb];exact T2,fA.trans e2'.fr⟩,hd⟩
 rw[if_pos (zX ⟨TA.on,ho⟩)]
 refine HC.mono (gM T2.toTc hrw) ?_
 rintro _ A3 ⟨rfl,e3⟩
 refine⟨_,rfl,?_⟩
 have T3:=T2.grow e3
 have hp3:=T3.hp
 have e13:=e2'.trans e3
 have fin: ∀(A4 A5:zV) (v:Int),aH v->v=(m.fwd (m.read w)).getD 44->Tg A4 b {y with sp:={y.sp with mem:=m}} q t->Fr (spB b) A1 A4->cx A5 b.m b.s (if m.used w then m.set w v else m)->Fr [b.s] A4 A5->
   (((0<=k+1/\k+1<=(W.length:Int))/\Tg A5 b {y with sp:={y.sp with mem:=(W.take (k+1).toNat).foldl (brkR t.old) y.sp.mem}} q t/\Fr (spB b) H2 A5)/\((W.length:Int)-(k+1)).toNat< ((W.length:Int)-k).toNat):=by
  intro A4 A5 v hv hv2 T4 f4 hm5 f5
  have eb:brkR t.old m w=m.wr w v:=by unfold brkR;rw[if_pos ho,<-hv2]
  refine⟨⟨⟨by omega,by omega⟩,?_,(fA.trans f4).trans (f5.mono (λi hi _=>by simp at hi;simp[spB];omega))⟩,hd⟩
  rw[hfo,eb]
  refine⟨T4.toTc.withMem (m:=m.wr w v) f5 (λi hi=>by simp at hi;omega) hm5 (T4.ok.wr w hv),(aZ.wr m w v).even T4.even,?_,T4.on⟩
  have:=T4.cf
  unfold Sp.cf at this⊢
  show(m.wr w v).count+(m.wr w v).free<_
  rw[(aZ.wr m w v).count,(aZ.wr m w v).free];exact this
 have hno: ¬ ¬(t.over=false/\aQ t.old (m.read w)):=λh=>h ⟨T.on,ho⟩
 cases hfw:m.fwd (m.read w)with
 | some v=>
  rw[if_pos (by simp[hfw])]
  refine⟨_,T3.tr.hPtr,_,rfl,_,hp3.hPtr,_,rfl,_,hp3.cd.cPtr,_,rfl,_,hp3.cd.sp.memPtr,?_⟩
  have hvis:=Sp.visit_fwd (s:={y.sp with mem:=m}) (T:=t.tgt) ho hfw
  refine HC.mono (fJ T3 hrw) ?_
  rintro _ A4 ⟨rfl,T4,f4⟩
  rw[hvis]at T4⊢
  have hp4:=T4.hp
  refine⟨_,rfl,row1 T4.tr.hPtr,row1 hp4.hPtr,row1 hp4.cd.cPtr,row1 hp4.cd.sp.memPtr,?_⟩
  refine HC.mono (ey hp4.cd.sp.mem T4.ok.mem (by omega)) ?_
  rintro _ A5 ⟨rfl,hm5,f5⟩
  have hv:v=(m.fwd (m.read w)).getD 44:=by rw[hfw];rfl
  exact⟨_,rfl,fin A4 A5 v (by rw[hv];exact kF T4.ok.mem _) hv T4 (e13.fr.trans f4) hm5 f5⟩
 | none=>
  rw[if_neg (by simp[hfw,T.on,ho])]
  refine⟨_,T3.tr.hPtr,_,rfl,_,hp3.hPtr,_,rfl,_,hp3.cd.cPtr,_,rfl,_,hp3.cd.sp.memPtr,?_⟩
  refine HC.mono (ey hp3.cd.sp.mem T3.ok.mem (by omega)) ?_
  rintro _ A5 ⟨rfl,hm5,f5⟩
  exact⟨_,rfl,fin A3 A5 44 (by decide) (by rw[hfw];rfl) T3 e13.fr hm5 f5⟩

structure Cel (S:List Nat) (ra:Addr) (K:zV->List Int->Prop):Prop where
 keep: ∀{T:List Nat} {A A':zV} {ws:List Int},K A ws->Fr T A A'->(∀j∈S,j ∉ T)->K A' ws
 at': ∀{A:zV} {ws:List Int} {i:Nat},K A ws->(h:i<ws.length)->hat A (ra.add (i*1))=some (.int .u64 ws[i])
 put: ∀{A:zV} {ws:List Int} {i:Nat} (v:Int),K A ws->i<ws.length->aK A (ra.add (i*1)) 0 1/\ ∀A',A'=aS A (ra.add (i*1)) [.int .u64 v] 0->K A' (ws.set i v)/\Fr S A A'
 lt: ∀{A:zV} {ws:List Int},K A ws-> ∀j∈S,j<A.size
theorem Cel.own(rB:zW)(n rC:Nat):Cel (blks rB) (rB.getD default) (λA ws=>ws.length=n/\Own A 28 1 rB n rC (wvs ws)):=by
 refine⟨λ{T A A' ws} h f hT=>⟨h.1,h.2.keep f hT⟩,λ{A ws i} h hi=>?_,λ{A ws i} v h hi=>?_,λh=>h.2.lt⟩
 ·obtain⟨a,ha,h1⟩:=h.2.at (j:=i) (v:=.int .u64 ws[i]) (by unfold wvs;rw[List.getElem?_map,List.getElem?_eq_getElem hi];rfl)
  subst ha
  rw[Option.getD_some,Nat.mul_one];exact h1
 ·obtain⟨a,ha,_⟩:=h.2.at (j:=i) (v:=.int .u64 ws[i]) (by unfold wvs;rw[List.getElem?_map,List.getElem?_eq_getElem hi];rfl)
  subst ha
  obtain⟨h1,h2⟩:=h.2.put (i:=i) (by rw[<-h.1];exact hi) (.int .u64 v)
  rw[Option.getD_some,Nat.mul_one]
  refine⟨h1,λA' hA'=>?_⟩
  obtain⟨h3,h4⟩:=h2 A' hA'
  refine⟨⟨by rw[List.length_set];exact h.1,?_⟩,by simpa using h4⟩
  have e:(wvs ws).set i (.int .u64 v)=wvs (ws.set i v):=by unfold wvs;rw[List.map_set]
  rw[<-e];exact h3
