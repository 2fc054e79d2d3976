/-
 A collection in plain words: cars of weak pairs are told anew, or broken; what it leaves. Proves nothing of any one statement.
-/
import Derived.Test.YtffacgdneichhaaGreatDoorTsE
import Derived.Test.YtffacgdneichhaaGreatDoorFweak
set_option linter.unusedVariables false
set_option linter.unusedSimpArgs false
namespace Go.Proofs.YtffacgdneichhaaGreatDoor
open Go

def brkR(O:Nat->Bool)(m:Mem)(a:Int):Mem:=if aM O (m.read a)then m.wr a ((m.fwd (m.read a)).getD 44)else m
theorem m0{m:Mem}(ok:aY m)(w:Int):aJ ((m.fwd w).getD 44):=by
 unfold Mem.fwd
 split
 ·have:=(ok.seg (w / 8 / 64).toNat).words (w / 8 % 64).toNat
  have h:aJ (m.get (w / 8)):=(ok.seg _).words _
  unfold aJ at h⊢
  show 0<=m.get (w / 8) / 8*8+w % 8/\_
  simp only[Option.getD_some]
  omega
 ·decide
theorem iT(O:Nat->Bool)(m:Mem)(a:Int):bD m (brkR O m a):=by
 unfold brkR
 split
 ·exact bD.wr m a _
 ·exact bD.refl m
theorem rR{s:Sp}(ok:SpOK s)(O:Nat->Bool)(a:Int):SpOK {s with mem:=brkR O s.mem a}:=by
 unfold brkR
 split
 ·exact ok.wr a (m0 ok.mem _)
 ·exact ok
theorem me(O:Nat->Bool): ∀(l:List Int) (m:Mem),bD m (l.foldl (brkR O) m)
 | [],m=>bD.refl m
 | a::l,m=>(iT O m a).trans (me O l _)
theorem om(O:Nat->Bool): ∀(l:List Int) {s:Sp},SpOK s->SpOK {s with mem:=l.foldl (brkR O) s.mem}
 | [],s,ok=>ok
 | a::l,s,ok=>om O l (rR ok O a)
theorem mf{O:Nat->Bool}{m:Mem}{a x:Int}(hx:m.used x):(brkR O m a).get x=if x=a/\aM O (m.get x)then(m.fwd (m.get x)).getD 44 else m.get x:=by
 have x0:=hx.1
 unfold brkR
 by_cases e:x=a
 ·subst e
  have hr:m.read x=m.get x:=by unfold Mem.read;rw[if_pos hx]
  rw[hr]
  by_cases ho:aM O (m.get x)
  ·rw[if_pos ho,if_pos ⟨rfl,ho⟩]
   unfold Mem.wr;rw[if_pos hx,Mem.set_get x x0 x0,if_pos rfl]
  ·rw[if_neg ho,if_neg (λq=>ho q.2)]
 ·rw[if_neg (show ¬(x=a/\aM O (m.get x))from λq=>e q.1)]
  split
  ·unfold Mem.wr
   by_cases hu:m.used a
   ·rw[if_pos hu,Mem.set_get x x0 hu.1,if_neg e]
   ·rw[if_neg hu]
  ·rfl
theorem rf{O:Nat->Bool}{m:Mem}{a w:Int}(ha:O (a / 64).toNat=false)(hw:aM O w):(brkR O m a).fwd w=m.fwd w:=by
 unfold Mem.fwd
 by_cases hu:m.used (w / 8)
 ·have e:(brkR O m a).get (w / 8)=m.get (w / 8):=by
   rw[mf hu,if_neg]
   rintro⟨h,_⟩
   have:=hw.2.2
   rw[h,ha]at this;cases this
  rw[e]
  have hu2:=(iT O m a).used.2 hu
  exact gP ⟨λq=>⟨hu,q.2⟩,λq=>⟨hu2,q.2⟩⟩ _ _
 ·rw[if_neg (λq=>hu ((iT O m a).used.1 q.1)),if_neg (λq=>hu q.1)]
theorem m8(O:Nat->Bool): ∀(l:List Int) {m:Mem} {x:Int},(∀a∈l,O (a / 64).toNat=false)->(aM O (m.get x)-> ∀v,m.fwd (m.get x)=some v-> ¬aM O v)->m.used x->
  (l.foldl (brkR O) m).get x=if x∈l/\aM O (m.get x)then(m.fwd (m.get x)).getD 44 else m.get x
 | [],m,x,_,_,hx=>by rw[if_neg (λq=>by simp at q)];rfl
 | a::l,m,x,hl,hf,hx=>by
  have ha:=hl a (by simp)
  have hfw: ∀w,aM O w->(brkR O m a).fwd w=m.fwd w:=λw hw=>rf ha hw
  have hno:aM O (m.get x)-> ¬aM O ((m.fwd (m.get x)).getD 44):=λe=>by
   cases hv:m.fwd (m.get x)with
   | none=>exact mX O
   | some v=>exact hf e v hv
  have hg:=mf (O:=O) (a:=a) hx
  have ih:=m8 O l (m:=brkR O m a) (x:=x) (λb hb=>hl b (by simp[hb])) (λh1 v hv=>by
   by_cases e:x=a/\aM O (m.get x)
   ·rw[hg,if_pos e]at h1;exact absurd h1 (hno e.2)
   ·rw[hg,if_neg e]at h1 hv
    exact hf h1 v (by rw[<-hfw _ h1];exact hv)) ((iT O m a).used.2 hx)
  show(l.foldl (brkR O) (brkR O m a)).get x=_
  rw[ih,hg]
  by_cases e:x=a/\aM O (m.get x)
  ·rw[if_pos e,if_neg (λq=>hno e.2 q.2),if_pos ⟨by rw[e.1];simp,e.2⟩]
  ·rw[if_neg e]
   by_cases h:x∈l/\aM O (m.get x)
   ·rw[if_pos h,if_pos ⟨by simp[h.1],h.2⟩,hfw _ h.2]
   ·rw[if_neg h,if_neg (λq=>?_)]
    rcases List.mem_cons.1 q.1 with r | r
    ·exact e ⟨r,q.2⟩
    ·exact h ⟨r,q.2⟩

section
variable {Z:TZ} {g F0:Int} {fw:Int->Option Int} {al:List Int} {s:Sp} {sz:Int->Nat}
theorem qe{tr:Tr}(S:du Z g F0)(t:Tri Z F0 fw al s sz)(B:gi Z.m g Z.T tr)(hO:tr.old=Z.O){l:List Nat}(hl:eP s.mem [Z.T] l): ∀a∈s.mem.weaks tr l,Z.O (a / 64).toNat=false:=by
 intro a ha
 have hlim:=t.ok.mem.lim
 unfold Mem.weaks at ha
 rcases List.mem_append.1 ha with h | h
 ·obtain⟨k,hk,h⟩:=List.mem_flatMap.1 h
  have kd:((k:Nat):Int).toNat=k:=by omega
  unfold Mem.weakSeg at h
  by_cases hc:(s.mem.seg k).kind=1/\tr.old k=false
  case neg=>rw[if_neg hc]at h;simp at h
  rw[if_pos hc]at h
  obtain⟨j,hj,rfl⟩:=fm.1 h
  rw[fL]at hj
  have hn:=(t.ok.mem.seg k).n
  have hf:=B.frmAt (k:=k) (by omega)
  have h0:0<=seenAt tr.frm k:=by
   rw[hf]
   split
   ·exact(S.ok.seg _).n.1
   ·exact Int.le_refl _
  rw[show((k:Int)*64+(seenAt tr.frm k+2*(j:Int))) / 64=k by omega,kd,<-hO];exact hc.2
 ·obtain⟨c,hc,h⟩:=List.mem_flatMap.1 h
  obtain⟨c1,c2,c3,c4⟩:=B.cardOf S c hc
  unfold Mem.weakCard at h
  by_cases hk:(s.mem.segOr c.1).kind=1
  case neg=>rw[if_neg hk]at h;simp at h
  rw[if_pos hk]at h
  obtain⟨j,hj,rfl⟩:=fm.1 h
  rw[fL]at hj
  have h0:=c1.1
  rw[show(c.1*64+(c.2*16+2*(j:Int))) / 64=c.1 by omega];exact c2
theorem Tri.was_any(S:du Z g F0)(t:Tri Z F0 fw al s sz){x v:Int}(hw:Was Z fw x v)(hk:s.mem.kAt x≠3):aJ v/\Good Z.m Z.sz v:=by
 rcases hw with⟨h1,h2,rfl⟩ | ⟨a,b,i,h1,h2,h3,rfl⟩
 ·exact⟨(S.ok.seg _).words _,S.sound.good x h1 (by rw[<-(t.kAt h1).1];exact hk)⟩
 ·have im:=(t.img a b h1).2
  have hsa:=(t.olds.mem a ((t.al a).2 ⟨b,h1⟩)).1
  have hai:=S.sound.usedAt hsa h2 (λk=>(S.ok.seg k).n.2)
  have hf:=im.fit
  refine⟨(S.ok.seg _).words _,S.sound.good _ hai.1 ?_⟩
  have:s.mem.kAt x=Z.m.kAt (a+i):=by
   unfold Mem.kAt
   rw[h3,show(b+i) / 64=b / 64 by omega,hai.2.1];exact im.kind
  rw[<-this];exact hk
theorem Tri.fwd_is(S:du Z g F0)(t:Tri Z F0 fw al s sz){w:Int}(hw:aJ w)(hg:Good Z.m Z.sz w)(ho:aM Z.O w):s.mem.fwd w=(fw (w / 8)).map λb=>b*8+w % 8:=by
 obtain⟨h1,h2,h3,h4⟩:=S.oldWord hg ho
 obtain⟨u1,u2⟩:=S.sound.used _ h1
 cases hf:fw (w / 8)with
 | none=>exact(t.same_size S hw hg ho hf).2.1
 | some b=>
  obtain⟨_,im⟩:=t.img _ _ hf
  have hb0:s.mem.used b:=by simpa using im.here 0 (by omega)
  have hlim:=t.ok.mem.lim
  have hb1:=hb0.2.1.2.1
  have hb2:=hb0.1
  unfold Mem.fwd
  rw[t.word _ _ hf,if_pos ⟨t.heads.used u1,⟨by omega,by omega⟩,by omega⟩]
  show some _=some _
  congr 2;omega
structure nB (Z:TZ) (fw:Int->Option Int) (s s':Sp):Prop extends Broke Z fw s s' where
 exact: ∀x v,s.mem.used x->Z.O (x / 64).toNat=false->s.mem.kAt x=1->x % 2=0->Was Z fw x v->s'.mem.get x=if aM Z.O v/\fw (v / 8)=none then 44 else Fw Z.O fw v
 old: ∀x,s.mem.used x->Z.O (x / 64).toNat=true->s'.mem.get x=s.mem.get x
theorem nB.of{tr:Tr}(S:du Z g F0)(t:Tri Z F0 fw al s sz)(hm:jc Z.m)(B:gi Z.m g Z.T tr)(hO:tr.old=Z.O){l:List Nat}(hl:eP s.mem [Z.T] l):nB Z fw s {s with mem:=(s.mem.weaks tr l).foldl (brkR Z.O) s.mem}:=by
 have hout:=qe S t B hO hl
 have key: ∀x v,s.mem.used x->Z.O (x / 64).toNat=false->s.mem.kAt x=1->x % 2=0->Was Z fw x v->((s.mem.weaks tr l).foldl (brkR Z.O) s.mem).get x=if aM Z.O v/\fw (v / 8)=none then 44 else Fw Z.O fw v:=λx v hu ho hk hx hv=>by
  have hval:s.mem.get x=v:=by
   rcases t.val x v hv with r | ⟨r,_⟩
   ·exact r
   ·have:=r.2.resolve_left (λe=>e hk);omega
  obtain⟨w1,w2⟩:=t.was_any S hv (by rw[hk];decide)
  have hfw:aM Z.O v->s.mem.fwd v=(fw (v / 8)).map λb=>b*8+v % 8:=λo=>t.fwd_is S w1 w2 o
  rw[m8 Z.O _ hout (λo v' hv'=>?_) hu,hval]
  ·by_cases o:aM Z.O v
   ·have hin:=mZ S t hm B hO hl hu ho hk hx hv o
    rw[if_pos ⟨hin,o⟩,hfw o]
    cases hf:fw (v / 8)with
    | none=>rw[if_pos ⟨o,rfl⟩];rfl
    | some b=>rw[if_neg (λq=>by cases q.2),fS o hf];rfl
   ·rw[if_neg (λq=>o q.2),if_neg (λq=>o q.1),gF o]
  ·rw[hval]at o hv'
   rw[hfw o]at hv'
   cases hf:fw (v / 8)with
   | none=>rw[hf]at hv';cases hv'
   | some b=>
    rw[hf]at hv';cases hv'
    have im:=(t.img _ _ hf).2
    intro q
    have:=q.2.2
    rw[show(b*8+v % 8) / 8=b by omega,im.out]at this
    cases this
 have hg0: ∀(l:List Int) (m:Mem) (x:Int),m.used x->x ∉ l->(l.foldl (brkR Z.O) m).get x=m.get x:=λl=>by
  induction l with
  | nil=>intro m x _ _;rfl
  | cons a l ih=>
   intro m x hm hn
   show(l.foldl (brkR Z.O) (brkR Z.O m a)).get x=_
   rw[ih _ x ((iT _ m a).used.2 hm) (λq=>hn (by simp[q])),mf hm,if_neg (λq=>hn (by simp[q.1]))]
 refine⟨⟨me _ _ _,rfl,om _ _ t.ok,λx hu ho hw=>?_,λx hu ho hk hx=>?_⟩,key,λx hu ho=>hg0 _ _ x hu (λq=>by have:=hout x q;rw[ho]at this;cases this)⟩
 ·show((s.mem.weaks tr l).foldl (brkR Z.O) s.mem).get x=_
  have hnin:x ∉ s.mem.weaks tr l:=λq=>by
   obtain⟨h1,h2,_⟩:=mY S t B hl x q
   exact hw ⟨h1,h2⟩
  exact hg0 _ _ x hu hnin
 ·obtain⟨v,hv⟩:=t.was hu ho
  show((s.mem.weaks tr l).foldl (brkR Z.O) s.mem).get x=44\/_
  by_cases o:aM Z.O v/\fw (v / 8)=none
  ·left;rw[key x v hu ho hk hx hv,if_pos o]
  ·right
   intro v' hv'
   obtain rfl:=t.was_one hv' hv
   refine⟨λh=>?_,?_⟩
   ·cases hf:fw (v' / 8)with
    | none=>exact absurd ⟨h,hf⟩ o
    | some b=>exact⟨b,rfl⟩
   ·show((s.mem.weaks tr l).foldl (brkR Z.O) s.mem).get x=_
    rw[key x v' hu ho hk hx hv,if_neg o]
end

structure mg (s0:Sp) (sz0:Int->Nat) (g T:Int) (tr:Tr) (roots young:List Int) (fw:Int->Option Int) (al:List Int) (sz:Int->Nat) (s3 s4 s5:Sp):Prop where
 t:cZ ⟨s0.mem,sz0,tr.old,T,(· ∈roots)⟩ g s0.mem.free fw al sz tr s3 s4 s5.mem
 brk:nB ⟨s0.mem,sz0,tr.old,T,(· ∈roots)⟩ fw s3 s4
 yg:young=roots.map (Fw tr.old fw)
 inv:Inv s5 (szE tr.old sz)
 good: ∀w∈young,aJ w/\Good s5.mem (szE tr.old sz) w
 cf:s5.cf<=s0.cf+1024
theorem mh{s0:Sp}{g T more:Int}(hm:0<=more)(hst:fy s0 g T more=0):(0<=g/\g<4/\g<=T/\T<=g+1)/\2*(s0.mem.nyoung g:Int)+8+more<=s0.mem.free:=by
 unfold fy at hst
 by_cases h1:g<0\/4<=g\/T<g\/g+1<T\/more<0
 ·rw[if_pos h1]at hst;exact absurd hst (by decide)
 ·rw[if_neg h1]at hst
  by_cases h2:s0.mem.free-2*s0.mem.nyoung g-8<more
  ·rw[if_pos h2]at hst;exact absurd hst (by decide)
  ·omega
theorem oq{s0:Sp}{sz0:Int->Nat}{g T more:Int}{tr:Tr}{roots:List Int}{s3:Sp}{ks:List (Int×Value)}{l:List Nat}(I:Inv s0 sz0)(hmo:0<=more)(hst:fy s0 g T more=0)(B:gi s0.mem g T tr)(hr: ∀w∈roots,aJ w/\Good s0.mem sz0 w)
  (hd:fx tr.old T (((s0.fresh (dt g)).visL tr.old T roots).1.lookCards tr.old T tr.cards) tr.seen s3 ks) (hdd:lq tr.old T s3 ks) (hl:eP s3.mem [T] l):
  ∃fw al sz,mg s0 sz0 g T tr roots ((s0.fresh (dt g)).visL tr.old T roots).2 fw al sz s3 {s3 with mem:=(s3.mem.weaks tr l).foldl (brkR tr.old) s3.mem} (({s3 with mem:=(s3.mem.weaks tr l).foldl (brkR tr.old) s3.mem}:Sp).ended tr):=by
 have hrng:=mh hmo hst
 have S:du ⟨s0.mem,sz0,tr.old,T,(· ∈roots)⟩ g s0.mem.free:=by
  refine⟨I.ok.mem,I.even,I.sound,λk hk=>?_,hrng.1,?_,λv hv=>hr v hv⟩
  ·show tr.old k=true ↔ _
   rw[B.old k hk]
   unfold Mem.young
   rw[decide_eq_true_eq]
  ·have hy: ∀Z:TZ,Z.m=s0.mem->Z.O=tr.old->2*((Z.yk 0:Int)+Z.yk 1+Z.yk 2+Z.yk 3)+8<=s0.mem.free:=λZ e1 e2=>by
    have h1:=sL (Z:=Z) (g:=g) (by rw[e1];exact I.ok.mem) hrng.1.1 (λk hk=>by rw[e1,e2];exact B.old k hk)
    have h2:=hrng.2
    rw[e1]at h1
    omega
   exact hy _ rfl rfl
 have t0:Tri ⟨s0.mem,sz0,tr.old,T,(· ∈roots)⟩ s0.mem.free (λ_=>none) [] (s0.fresh (dt g)) sz0:=
  Tri.begin' S (Sp.fresh_ok I.ok _) rfl rfl (λi j hi=>by
   show(if dt g=[]\/((i:Nat):Int)∈dt g then(0:Int)else s0.cur i j)=0
   rw[if_pos (.inr (iD.2 ⟨by omega,hi⟩))])
 obtain⟨fw1,al1,sz1,t1,_,r1,d1⟩:=Tri.visL S roots (acc:=[]) t0 (λw hw=>hw)
 obtain⟨fw,al,sz,t3,le,fin⟩:=Tri.final S t1 I.marked B rfl hd hdd
 have hroots: ∀v,v∈roots->Dn tr.old fw v:=λv hv=>(d1 v hv).mono le
 have hres:((s0.fresh (dt g)).visL tr.old T roots).2=roots.map (Fw tr.old fw):=by
  refine Eq.trans r1 ?_
  rw[List.nil_append]
  exact List.map_congr_left λv hv=>(lr (d1 v hv) le).symm
 have hbr:=nB.of S t3 I.marked B rfl hl
 have hhas: ∀k:Nat,k<1024->tr.old k=true->({s3 with mem:=(s3.mem.weaks tr l).foldl (brkR tr.old) s3.mem}:Sp).mem.has k:=λk hk ho=>hbr.same.has.2 (t3.heads.has ((S.old k hk).1 ho).1)
 obtain⟨hen,hok5⟩:=Sp.ended_spec (Z:=⟨s0.mem,sz0,tr.old,T,(· ∈roots)⟩) (tr:=tr) rfl hbr.ok hhas
 have hev:({s3 with mem:=(s3.mem.weaks tr l).foldl (brkR tr.old) s3.mem}:Sp).mem.Even:=hbr.same.even t3.even
 have hev5:=pn hbr.ok hev tr
 have hcf4:({s3 with mem:=(s3.mem.weaks tr l).foldl (brkR tr.old) s3.mem}:Sp).cf=s0.cf:=by
  have h1:=qd hd
  rw[Sp.lookCards_cf,Sp.visL_cf]at h1
  have h2:(s0.fresh (dt g)).cf=s0.cf:=rfl
  rw[h2]at h1
  rw[<-h1]
  unfold Sp.cf
  show((s3.mem.weaks tr l).foldl (brkR tr.old) s3.mem).count+((s3.mem.weaks tr l).foldl (brkR tr.old) s3.mem).free=_
  rw[hbr.same.count,hbr.same.free]
 have hcf5:=Sp.ended_cf ({s3 with mem:=(s3.mem.weaks tr l).foldl (brkR tr.old) s3.mem}:Sp) tr
 have t:cZ ⟨s0.mem,sz0,tr.old,T,(· ∈roots)⟩ g s0.mem.free fw al sz tr s3 _ _:=⟨S,t3,fin,hroots,hbr.toBroke,hen,B,I.marked⟩
 refine⟨fw,al,sz,t,hbr,hres,⟨hok5,hev5,t.sound,t.marks⟩,λw hw=>?_,by omega⟩
 rw[hres]at hw
 obtain⟨v,hv,rfl⟩:=List.mem_map.1 hw
 obtain⟨v1,v2⟩:=hr v hv
 exact⟨t3.fw_word S v1,(t.good v1 v2 (hroots v hv)).1⟩

theorem rS{H:zV}{bm bs:Nat}{m:Mem}{a:Int}(h:cK H bm bs m)(ok:aY m)(ha:a<=9223372036854775807):
  bR.C (some ⟨bm,0,none⟩) a H (λv H'=>v=.tuple #[.int .u64 (m.read a),.int .i64 (if m.used a then 0 else 18)]/\H'=H):=
 HC.mono (fJ h ok ha) (by
  rintro _ _ ⟨rfl,rfl⟩
  refine⟨?_,rfl⟩
  unfold Mem.read
  split<;>rfl)
theorem po{H:zV}{b o:Nat}{cs:Array Value}{T:TypeId}{v:Value}(g:H[b]?=some (.cells cs T (0,0)))(hv:cs[o]?=some v):aI H ((Addr.mk b 0 none).add o) 0 1/\ ∀H2,H2=aO H ((Addr.mk b 0 none).add o) [v] 0->H2=H:=by
 have ho:o<cs.size:=by
  rcases Nat.lt_or_ge o cs.size with h | h
  ·exact h
  ·rw[Array.getElem?_eq_none h]at hv;cases hv
 rw[addr_add_mk,Nat.zero_add]
 refine⟨bS g 1 o 0 (by omega),λH2 h2=>?_⟩
 rw[cR [v] H cs o 0 g,Nat.add_zero]at h2
 have e:splice cs o [v]=cs:=by
  refine Array.ext_getElem? λi=>?_
  rcases Nat.lt_or_ge i o with h | h
  ·exact cQ cs [v] o i h
  ·by_cases e:i=o
   ·subst e
    have:=dm cs [v] i 0 (by simp;omega) (by simp)
    rw[Nat.add_zero]at this
    rw[this,hv];rfl
   ·exact dP cs [v] o i (by simp;omega)
 rw[e,kL g]at h2
 exact h2
theorem jd{H:zV}{b:Blk}{x:Hp}{q:TB}{t:Tr}(T:Tc H b x q t):eM.C (some ⟨q.t,0,none⟩) H (λv H'=>v=.bool t.over/\H'=H):=by
 refine HC.via λR hR=>eM.link ?_
 unfold eM.pt
 rw[onPtr_some]
 have h:cY.C (some ⟨q.t,0,none⟩) H (λv H'=>v=.bool t.over/\H'=H):=by
  refine HC.via λR hR=>cY.link ?_
  unfold cY.pt
  refine HC.mono (ir T) ?_
  rintro _ _ ⟨rfl,rfl⟩
  exact⟨_,rfl,hR _ _ ⟨rfl,rfl⟩⟩
 refine HC.mono h ?_
 rintro _ _ ⟨rfl,rfl⟩
 exact⟨_,rfl,hR _ _ ⟨rfl,rfl⟩⟩
theorem mw{H:zV}{b:Blk}{x:Hp}{q:TB}{t:Tr}(T:Tc H b x q t)(on:t.over=false):eY.C (some ⟨q.t,0,none⟩) none 0 0 H (λv H'=>v=.slice none 0 0/\Ext H H'):=by
 refine HC.via λR hR=>eY.link ?_
 unfold eY.pt zY
 intro c H1 hc hH1 c2 H2 hc2 hH2
 have g1:=aL hc hH1
 have e1:Ext H H1:=Ext.push' hH1
 have e2:Ext H1 H2:=Ext.push' hH2
 have g2:=aL hc2 hH2
 refine⟨_,aT (e2.get g1),?_⟩
 refine HC.mono (jd (T.ext (e1.trans e2))) ?_
 rintro _ H3 ⟨rfl,rfl⟩
 refine⟨_,rfl,?_⟩
 rw[if_neg (by rw[on];decide)]
 refine⟨_,_,_,aT g2,by decide,by decide,by decide,by decide,?_⟩
 intro c3 H5 hc3 hH5 c4 H6 hc4 hH6
 have e5:Ext H3 H5:=Ext.push' hH5
 have e6:Ext H5 H6:=Ext.push' hH6
 obtain⟨hcp,hs⟩:=iF (n:=1) (vs:=[.slice (some (Addr.mk c3 0 none)) 0 0]) (aL hc4 hH6) rfl rfl
 refine⟨hcp,λH7 hH7=>?_⟩
 obtain⟨g7,f7⟩:=hs H7 hH7
 have e37:Ext H3 H7:=(e5.trans e6).fr_trans f7 (λj hj=>by simp at hj;have:=e5.size;omega)
 have e07:=(e1.trans e2).trans e37
 have hl2:hat H7 (Addr.mk c2 0 none)=some (.slice none 0 0):=aT (e37.get g2)
 refine⟨_,_,_,hl2,λs A=>s=0/\A=H7,λ_ _=>0,⟨rfl,rfl⟩,?_⟩
 rintro s A ⟨rfl,rfl⟩
 rw[if_neg (by decide)]
 refine⟨λA'=>A'=A,λ_=>0,rfl,?_⟩
 rintro A' rfl
 refine⟨_,_,_,hl2,λs A=>s=0/\A=A',λ_ _=>0,⟨rfl,rfl⟩,?_⟩
 rintro s A' ⟨rfl,rfl⟩
 rw[if_neg (by decide)]
 refine⟨_,_,_,hl2,λoB oN oC s A=>oB=none/\oN=0/\oC=0/\s=0/\A=A',λ_ _ _ _ _=>0,⟨rfl,rfl,rfl,rfl,rfl⟩,?_⟩
 rintro oB oN oC s A ⟨rfl,rfl,rfl,rfl,rfl⟩
 rw[if_neg (by decide)]
 exact hR _ _ ⟨rfl,e07⟩
set_option maxRecDepth 100000 in
theorem my{H:zV}{b:Blk}{y:Hp}{q:TB}{t:Tr}(T:Tg H b y q t)(hf:fE t.frm)(hcs:kw t.cards):
  eZ.C (some ⟨q.t,0,none⟩) H (λ_ H'=> ∃l,eP y.sp.mem [t.tgt] l/\Tg H' b {y with sp:={y.sp with mem:=(y.sp.mem.weaks t l).foldl (brkR t.old) y.sp.mem}} q t/\Fr (spB b) H H'):=by
 refine HC.via λR hR=>eZ.link ?_
 unfold eZ.pt zY
 refine HC.mono (jd T.toTc) ?_
 rintro _ H1 ⟨rfl,rfl⟩
 refine⟨_,rfl,?_⟩
 rw[if_neg (by rw[T.on];decide)]
 refine HC.mono (pi T hf hcs) ?_
 rintro _ H2 ⟨l,wB,wN,wC,hl,rfl,hWn,hr,hwb,hw3,e2⟩
 have hw:=qZ T.ok.mem hf hcs hl
 have hrd: ∀j∈blks wB,j ∉ b.all:=λj hj h=>by have:=hwb j hj;have:=T.lt (.inl h);omega
 refine⟨_,_,_,rfl,?_⟩
 generalize hWW:y.sp.mem.weaks t l=W at*
 subst hWn
 refine⟨λk A=>(0<=k/\k<=W.length)/\Tg A b {y with sp:={y.sp with mem:=(W.take k.toNat).foldl (brkR t.old) y.sp.mem}} q t/\Fr (spB b) H2 A,λk _=>(W.length-k).toNat,
  ⟨⟨by omega,by omega⟩,T.grow e2,Fr.refl _ _⟩,?_⟩
 rintro k A ⟨hk,TA,fA⟩
 by_cases hlt:k< (W.length:Int)
 case neg=>
  rw[if_neg hlt]
  rw[List.take_of_length_le (by omega)]at TA
  exact hR _ _ ⟨l,hl,by rw[hWW];exact TA,e2.fr.trans fA⟩
 rw[if_pos hlt]
 have hkN:k.toNat<W.length:=by omega
 have hmem:=List.getElem_mem hkN
 have hrA:=hr.keep fA (λj hj hs=>hrd j hj (hX hs))
 obtain⟨a,ha,hata⟩:=ln hrA.src (i:=k.toNat) hkN
 have htk:W.take (k+1).toNat=W.take k.toNat++[W[k.toNat]]:=by rw[show(k+1).toNat=k.toNat+1 by omega,List.take_succ_eq_append_getElem hkN]
 have hfo:(W.take (k+1).toNat).foldl (brkR t.old) y.sp.mem=brkR t.old ((W.take k.toNat).foldl (brkR t.old) y.sp.mem) W[k.toNat]:=by rw[htk,List.foldl_append];rfl
 have hwk:=hw _ hmem
 generalize W[k.toNat]=w at*
 have hp:=TA.hp
 have hd:((W.length:Int)-(k+1)).toNat< ((W.length:Int)-k).toNat:=by omega
 refine⟨a,ha,⟨hk.1,hlt⟩,_,hata,_,rfl,_,TA.tr.hPtr,_,rfl,_,hp.hPtr,_,rfl,_,hp.cd.cPtr,_,rfl,_,hp.cd.sp.memPtr,?_⟩
 rw[w64 (n:=k+1) (by omega)]
 generalize hmm:(W.take k.toNat).foldl (brkR t.old) y.sp.mem=m at*
 refine HC.mono (rS hp.cd.sp.mem TA.ok.mem (by omega)) ?_
 rintro _ A1 ⟨rfl,rfl⟩
 refine⟨_,_,rfl,?_⟩
 have hrw:aJ (m.read w):=Mem.read_word TA.ok.mem w
 refine HC.mono (lV TA.toTc hrw) ?_
 rintro _ A2 ⟨rfl,e2'⟩
 refine⟨_,rfl,?_⟩
 have T2:=TA.grow e2'
 by_cases ho:aM t.old (m.read w)
 case neg=>
  rw[if_neg (by simp[ho])]
  have eb:brkR t.old m w=m:=by unfold brkR;rw[if_neg ho]
  exact⟨⟨⟨by omega,by omega⟩,by rw[hfo,eb];exact T2,fA.trans e2'.fr⟩,hd⟩
 rw[if_pos (zX ⟨TA.on,ho⟩)]
 refine HC.mono (kt T2.toTc hrw) ?_
 rintro _ A3 ⟨rfl,e3⟩
 refine⟨_,rfl,?_⟩
 have T3:=T2.grow e3
 have hp3:=T3.hp
 have e13:=e2'.trans e3
 have fin: ∀(A4 A5:zV) (v:Int),aJ v->v=(m.fwd (m.read w)).getD 44->Tg A4 b {y with sp:={y.sp with mem:=m}} q t->Fr (spB b) A1 A4->cK A5 b.m b.s (if m.used w then m.set w v else m)->Fr [b.s] A4 A5->
   (((0<=k+1/\k+1<=(W.length:Int))/\Tg A5 b {y with sp:={y.sp with mem:=(W.take (k+1).toNat).foldl (brkR t.old) y.sp.mem}} q t/\Fr (spB b) H2 A5)/\((W.length:Int)-(k+1)).toNat< ((W.length:Int)-k).toNat):=by
  intro A4 A5 v hv hv2 T4 f4 hm5 f5
  have eb:brkR t.old m w=m.wr w v:=by unfold brkR;rw[if_pos ho,<-hv2]
  refine⟨⟨⟨by omega,by omega⟩,?_,(fA.trans f4).trans (f5.mono (λi hi _=>by simp at hi;simp[spB];omega))⟩,hd⟩
  rw[hfo,eb]
  refine⟨T4.toTc.withMem (m:=m.wr w v) f5 (λi hi=>by simp at hi;omega) hm5 (T4.ok.wr w hv),(bD.wr m w v).even T4.even,?_,T4.on⟩
  have:=T4.cf
  unfold Sp.cf at this⊢
  show(m.wr w v).count+(m.wr w v).free<_
  rw[(bD.wr m w v).count,(bD.wr m w v).free];exact this
 have hno: ¬ ¬(t.over=false/\aM t.old (m.read w)):=λh=>h ⟨T.on,ho⟩
 cases hfw:m.fwd (m.read w)with
 | some v=>
  rw[if_pos (by simp[hfw])]
  refine⟨_,T3.tr.hPtr,_,rfl,_,hp3.hPtr,_,rfl,_,hp3.cd.cPtr,_,rfl,_,hp3.cd.sp.memPtr,?_⟩
  have hvis:=Sp.visit_fwd (s:={y.sp with mem:=m}) (T:=t.tgt) ho hfw
  refine HC.mono (iZ T3 hrw) ?_
  rintro _ A4 ⟨rfl,T4,f4⟩
  rw[hvis]at T4⊢
  have hp4:=T4.hp
  refine⟨_,rfl,row1 T4.tr.hPtr,row1 hp4.hPtr,row1 hp4.cd.cPtr,row1 hp4.cd.sp.memPtr,?_⟩
  refine HC.mono (gz hp4.cd.sp.mem T4.ok.mem (by omega)) ?_
  rintro _ A5 ⟨rfl,hm5,f5⟩
  have hv:v=(m.fwd (m.read w)).getD 44:=by rw[hfw];rfl
  exact⟨_,rfl,fin A4 A5 v (by rw[hv];exact m0 T4.ok.mem _) hv T4 (e13.fr.trans f4) hm5 f5⟩
 | none=>
  rw[if_neg (by simp[hfw,T.on,ho])]
  refine⟨_,T3.tr.hPtr,_,rfl,_,hp3.hPtr,_,rfl,_,hp3.cd.cPtr,_,rfl,_,hp3.cd.sp.memPtr,?_⟩
  refine HC.mono (gz hp3.cd.sp.mem T3.ok.mem (by omega)) ?_
  rintro _ A5 ⟨rfl,hm5,f5⟩
  exact⟨_,rfl,fin A3 A5 44 (by decide) (by rw[hfw];rfl) T3 e13.fr hm5 f5⟩

def ptrs(k:Nat)(a:Addr)(n:Nat):List Value:=List.replicate k (.pointer none)++(List.range n).map λi=> .pointer (some (a.add (i*1)))
theorem rT{k n i:Nat}{a:Addr}(h:i<k):(ptrs k a n)[i]?=some (.pointer none):=by
 unfold ptrs
 rw[List.getElem?_append_left (by simpa using h),List.getElem?_replicate,if_pos h]
theorem rU{k n i:Nat}{a:Addr}(h:i<n):(ptrs k a n)[k+i]?=some (.pointer (some (a.add (i*1)))):=by
 unfold ptrs
 rw[List.getElem?_append_right (by simp),List.length_replicate,show k+i-k=i by omega,List.getElem?_map,List.getElem?_range h];rfl
theorem nC{H:zV}{B:zW}{vs:List Value}(h:db H B vs){k:Nat}{v:Value}(hk:vs[k]?=some v): ∃a,B=some a/\hat H (a.add (k*1))=some v:=by
 have hl:k<vs.length:=by
  rcases Nat.lt_or_ge k vs.length with h | h
  ·exact h
  ·simp[List.getElem?_eq_none h]at hk
 cases B with
 | none=>have e:vs=[]:=h;rw[e]at hl;simp at hl
 | some a=>
  refine⟨a,rfl,?_⟩
  have h':aU H a 0 vs:=h
  have:=fB h' k v hk
  rw[Nat.zero_add]at this
  rw[Nat.mul_one];exact this
structure Cel (S:List Nat) (ra:Addr) (K:zV->List Int->Prop):Prop where
 keep: ∀{T:List Nat} {A A':zV} {ws:List Int},K A ws->Fr T A A'->(∀j∈S,j ∉ T)->K A' ws
 at': ∀{A:zV} {ws:List Int} {i:Nat},K A ws->(h:i<ws.length)->hat A (ra.add (i*1))=some (.int .u64 ws[i])
 put: ∀{A:zV} {ws:List Int} {i:Nat} (v:Int),K A ws->i<ws.length->aI A (ra.add (i*1)) 0 1/\ ∀A',A'=aO A (ra.add (i*1)) [.int .u64 v] 0->K A' (ws.set i v)/\Fr S A A'
 lt: ∀{A:zV} {ws:List Int},K A ws-> ∀j∈S,j<A.size
theorem Cel.own(rB:zW)(n rC:Nat):Cel (blks rB) (rB.getD default) (λA ws=>ws.length=n/\Own A 33 1 rB n rC (wvs ws)):=by
 refine⟨λ{T A A' ws} h f hT=>⟨h.1,h.2.keep f hT⟩,λ{A ws i} h hi=>?_,λ{A ws i} v h hi=>?_,λh=>h.2.lt⟩
 ·obtain⟨a,ha,h1⟩:=h.2.at (j:=i) (v:=.int .u64 ws[i]) (by unfold wvs;rw[List.getElem?_map,List.getElem?_eq_getElem hi];rfl)
  subst ha
  rw[Option.getD_some,Nat.mul_one];exact h1
 ·obtain⟨a,ha,_⟩:=h.2.at (j:=i) (v:=.int .u64 ws[i]) (by unfold wvs;rw[List.getElem?_map,List.getElem?_eq_getElem hi];rfl)
  subst ha
  obtain⟨h1,h2⟩:=h.2.put (i:=i) (by rw[<-h.1];exact hi) (.int .u64 v)
  rw[Option.getD_some,Nat.mul_one]
  refine⟨h1,λA' hA'=>?_⟩
  obtain⟨h3,h4⟩:=h2 A' hA'
  refine⟨⟨by rw[List.length_set];exact h.1,?_⟩,by simpa using h4⟩
  have e:(wvs ws).set i (.int .u64 v)=wvs (ws.set i v):=by unfold wvs;rw[List.map_set]
  rw[<-e];exact h3

theorem HpAt.putSy2{H:zV}{b:Blk}{x:Hp}(h:HpAt H b x)(v:Value):aI H ((Addr.mk b.h 0 none).add 1) 0 1/\HpAt (aO H ((Addr.mk b.h 0 none).add 1) [v] 0) b {x with sy:=v}/\Fr [b.h] H (aO H ((Addr.mk b.h 0 none).add 1) [v] 0):=by
 obtain⟨h1,h2⟩:=lk h.h 1 v (by simp)
 obtain⟨g,f⟩:=h2 _ rfl
 refine⟨h1,⟨h.cd.keep f ?_ ?_ ?_ ?_,h.ne,g⟩,f⟩<;>have:=h.ne<;>simp<;>omega
theorem Tg.putSy{H H':zV}{b:Blk}{y:Hp}{q:TB}{t:Tr}{v:Value}(T:Tg H b y q t)(hp:HpAt H' b {y with sy:=v})(f:Fr [b.h] H H'):Tg H' b {y with sy:=v} q t:=
 ⟨⟨hp,T.ok,T.tr.keep f (λi hi h=>by
  simp at hi
  exact T.apart i h (by rw[hi];simp[Blk.all])),T.apart⟩,T.even,T.cf,T.on⟩
def ff(O:Nat->Bool)(m:Mem)(l:List Int):List Int:=(l.filter λw=>decide (¬aM O w) || (m.fwd w).isSome).map λw=>if aM O w then(m.fwd w).getD 0 else w
theorem je{O:Nat->Bool}{m:Mem}{l:List Int}{w:Int}:ff O m (l++[w])=ff O m l++if(decide (¬aM O w) || (m.fwd w).isSome)=true then[if aM O w then(m.fwd w).getD 0 else w]else[]:=by
 unfold ff
 rw[List.filter_append,List.map_append]
 congr 1
 rw[List.filter_cons]
 by_cases h:(decide (¬aM O w) || (m.fwd w).isSome)=true
 ·rw[if_pos h,if_pos h];rfl
 ·rw[if_neg h,if_neg h];rfl
set_option maxRecDepth 100000 in
theorem nD{H:zV}{b:Blk}{y:Hp}{q:TB}{t:Tr}{lB:zW}{lC:Nat}{l:List Int}(T:Tg H b y q t)(hs:db H lB (wvs l))(hw: ∀w∈l,aJ w)(hlb: ∀j∈blks lB,j ∉ b.all)(hl:l.length<=1000000):
  fp.C (some ⟨q.t,0,none⟩) lB l.length lC H (λv H'=> ∃B c,v=.slice B (ff t.old y.sp.mem l).length c/\Own H' 33 1 B (ff t.old y.sp.mem l).length c (wvs (ff t.old y.sp.mem l))/\(∀j∈blks B,H.size<=j)/\Tg H' b y q t/\Fr (spB b) H H'):=by
 refine HC.via λR hR=>fp.link ?_
 unfold fp.pt zY
 refine HC.mono (jd T.toTc) ?_
 rintro _ H1 ⟨rfl,rfl⟩
 refine⟨_,rfl,?_⟩
 rw[if_neg (by rw[T.on];decide)]
 refine⟨λB n c i A=> ∃k:Nat,i=k/\k<=l.length/\n=(ff t.old y.sp.mem (l.take k)).length/\Own A 33 1 B n c (wvs (ff t.old y.sp.mem (l.take k)))/\(∀j∈blks B,H1.size<=j)/\Tg A b y q t/\Fr (spB b) H1 A,λ_ _ _ i _=>(l.length-i).toNat,
  ⟨0,rfl,by omega,rfl,gJ,by simp,T,Fr.refl _ _⟩,?_⟩
 rintro B n c i A ⟨k,rfl,hk,rfl,ho,hb,TA,fA⟩
 by_cases hlt:(k:Int)< (l.length:Int)
 case neg=>
  rw[if_neg hlt]
  obtain rfl:k=l.length:=by omega
  rw[List.take_length]at ho⊢
  exact hR _ _ ⟨B,c,rfl,ho,hb,TA,fA⟩
 rw[if_pos hlt]
 have hkN:k<l.length:=by omega
 have hd:((l.length:Int)-((k:Int)+1)).toNat< ((l.length:Int)-(k:Int)).toNat:=by omega
 rw[w64 (n:=(k:Int)+1) (by omega)]
 have hsA:db A lB (wvs l):=by
  cases lB with
  | none=>exact hs
  | some a=>exact fA.rowAt (λh=>hlb a.block (by simp) (hX h)) hs
 obtain⟨a,ha,hat1⟩:=nC hsA (k:=k) (v:=.int .u64 l[k]) (by unfold wvs;rw[List.getElem?_map,List.getElem?_eq_getElem hkN];rfl)
 have hww:=hw _ (List.getElem_mem hkN)
 have htk:l.take (k+1)=l.take k++[l[k]]:=List.take_succ_eq_append_getElem hkN
 have hlen:(ff t.old y.sp.mem (l.take k)).length<=k:=by
  unfold ff
  rw[List.length_map]
  refine Nat.le_trans (List.length_filter_le _ _) ?_
  rw[List.length_take];omega
 generalize l[k]=w at*
 refine⟨a,ha,⟨by omega,hlt⟩,_,hat1,?_⟩
 refine HC.mono (kt TA.toTc hww) ?_
 rintro _ H4 ⟨rfl,e4⟩
 refine⟨_,rfl,?_⟩
 have hon:decide (¬(t.over=false/\aM t.old w))=decide (¬aM t.old w):=by
  by_cases h:aM t.old w
  ·rw[zQ (show ¬ ¬(t.over=false/\aM t.old w)from λq=>q ⟨T.on,h⟩),zQ (show ¬ ¬aM t.old w from λq=>q h)]
  ·rw[zX (show ¬(t.over=false/\aM t.old w)from λq=>h q.2),zX (show ¬aM t.old w from h)]
 rw[hon]
 have T4:=TA.grow e4
 have z4:=e4.size
 have zA:=fA.size
 by_cases hr:(decide (¬aM t.old w) || (y.sp.mem.fwd w).isSome)=true
 case neg=>
  rw[if_neg hr]
  exact⟨⟨k+1,by omega,by omega,by rw[htk,je,if_neg hr,List.append_nil],by rw[htk,je,if_neg hr,List.append_nil];exact ho.ext e4,hb,T4,fA.trans e4.fr⟩,hd⟩
 rw[if_pos hr]
 have hvis:y.sp.visit t.old t.tgt w=(y.sp,if aM t.old w then(y.sp.mem.fwd w).getD 0 else w):=by
  by_cases h:aM t.old w
  ·rw[if_pos h]
   cases hf:y.sp.mem.fwd w with
   | none=>rw[hf,zQ (show ¬ ¬aM t.old w from λq=>q h)]at hr;exact absurd hr (by decide)
   | some v=>rw[Sp.visit_fwd h hf];rfl
  ·rw[if_neg h];exact Sp.visit_no h
 refine HC.mono (iZ T4 hww) ?_
 rintro _ H5 ⟨rfl,T5,f5⟩
 rw[hvis]at T5⊢
 refine⟨_,rfl,λb6 H6 hb6 hH6=>?_⟩
 have e6:Ext H5 H6:=Ext.push' hH6
 have T6:Tg H6 b y q t:=T5.grow e6
 have hspb: ∀j∈spB b,j∈b.all:=λj hj=>hX hj
 have hbn: ∀j∈blks B,j ∉ spB b:=λj hj h=>by have:=T.lt (.inl (hspb j h));have:=hb j hj;omega
 have z5:=f5.size
 have z6:=e6.size
 refine eh (ys:=wvs [if aM t.old w then(y.sp.mem.fwd w).getD 0 else w]) (((ho.ext e4).keep f5 (λj hj=>hbn j hj)).ext e6) (dH (aL hb6 hH6) _ 0 0 (λj hj=>by
  simp only[wvs,List.map_cons,List.map_nil,List.length_cons,List.length_nil]at hj
  obtain rfl:j=0:=by omega
  rfl)) rfl (gV _) rfl (by omega) ?_
 intro B' c' H7 ho7 f7 hn7
 have T7:Tg H7 b y q t:=T6.stay f7 (λj hj h=>by have:=T.lt (.inl h);have:=hb j hj;omega) (λj hj h=>by have:=T.lt (.inr h);have:=hb j hj;omega)
 have hsn:ff t.old y.sp.mem (l.take (k+1))=ff t.old y.sp.mem (l.take k)++[if aM t.old w then(y.sp.mem.fwd w).getD 0 else w]:=by rw[htk,je,if_pos hr]
 have hl1:(ff t.old y.sp.mem (l.take (k+1))).length=(ff t.old y.sp.mem (l.take k)).length+1:=by rw[hsn,List.length_append];rfl
 refine⟨⟨k+1,by omega,by omega,hl1.symm,?_,λj hj=>?_,T7,?_⟩,hd⟩
 ·rw[hsn]
  unfold wvs at ho7⊢
  rw[List.map_append]
  exact ho7
 ·rcases hn7 j hj with h | h
  ·exact hb j h
  ·omega
 ·exact(((fA.trans e4.fr).trans f5).trans e6.fr).trans' f7 (λj hj _=>hj) (λj hj hlt=>by have:=hb j hj;omega)
def gk(O:Nat->Bool)(fw:Int->Option Int)(w:Int):Bool:=decide (¬aM O w) || (fw (w / 8)).isSome
def mi(O:Nat->Bool)(fw:Int->Option Int)(l:List Int):List Int:=(l.filter (gk O fw)).map (Fw O fw)
theorem mg.pruned{s0 s3 s4 s5:Sp}{sz0 sz:Int->Nat}{g T:Int}{tr:Tr}{roots young:List Int}{fw:Int->Option Int}{al:List Int}(C:mg s0 sz0 g T tr roots young fw al sz s3 s4 s5){l:List Int}(hl: ∀w∈l,aJ w/\Good s0.mem sz0 w):
  ff tr.old s4.mem l=mi tr.old fw l:=by
 have t:=C.t
 have S:=t.S
 have key: ∀w,aJ w->Good s0.mem sz0 w->aM tr.old w->s4.mem.fwd w=(fw (w / 8)).map λb=>b*8+w % 8:=λw hw hg ho=>by
  rw[<-t.tri.fwd_is S hw hg ho]
  obtain⟨h1,h2,h3,h4⟩:=S.oldWord hg ho
  have hu:=t.tri.heads.used (S.sound.used _ h1).1
  have hget:=C.brk.old _ hu h2
  unfold Mem.fwd
  rw[hget]
  have hu4:s4.mem.used (w / 8) ↔ s3.mem.used (w / 8):=C.brk.same.used
  exact gP ⟨λq=>⟨hu,q.2⟩,λq=>⟨hu4.2 hu,q.2⟩⟩ _ _
 induction l with
 | nil=>rfl
 | cons w l ih=>
  have ih:=ih (λv hv=>hl v (by simp[hv]))
  obtain⟨hw,hg⟩:=hl w (by simp)
  have hb:(decide (¬aM tr.old w) || (s4.mem.fwd w).isSome)=gk tr.old fw w:=by
   unfold gk
   by_cases ho:aM tr.old w
   ·rw[key w hw hg ho,Option.isSome_map]
   ·rw[zX (show ¬aM tr.old w from ho)];rfl
  unfold ff mi at ih⊢
  by_cases hk:gk tr.old fw w=true
  ·rw[List.filter_cons_of_pos (by rw[hb];exact hk),List.filter_cons_of_pos hk,List.map_cons,List.map_cons,ih]
   congr 1
   by_cases ho:aM tr.old w
   ·rw[if_pos ho,key w hw hg ho]
    unfold gk at hk
    rw[zQ (show ¬ ¬aM tr.old w from λq=>q ho)]at hk
    obtain⟨v,hv⟩:=Option.isSome_iff_exists.1 (by simpa using hk)
    rw[hv,fS ho hv];rfl
   ·rw[if_neg ho,gF ho]
  ·rw[List.filter_cons_of_neg (by rw[hb];exact hk),List.filter_cons_of_neg hk,ih]
structure sd (K:zV->List Int->Prop) (S:List Nat) (H H':zV) (b:Blk) (x:Hp) (sz:Int->Nat) (g T:Int) (roots young:List Int) (fw:Int->Option Int) (al:List Int) (sz':Int->Nat) (tr:Tr) (s3 s4 s5:Sp) (syl:List Int):Prop where
 col:mg x.sp sz g T tr roots young fw al sz' s3 s4 s5
 own:K H' young
 fr:Fr (b.all++S) H H'
 free:2*(x.sp.mem.nyoung g:Int)+9<=x.sp.mem.free
 sym: ∃B c,HpAt H' b {x with sp:=s5,sy:=.slice B (mi tr.old fw syl).length c,ep:=IntKind.wrap .u64 (x.ep+1)}/\Own H' 33 1 B (mi tr.old fw syl).length c (wvs (mi tr.old fw syl))/\ ∀j∈blks B,H.size<=j
set_option maxRecDepth 100000 in
theorem nE{K:zV->List Int->Prop}{S:List Nat}{ra:Addr}(Ce:Cel S ra K){H:zV}{b:Blk}{x:Hp}{sz:Int->Nat}{g T:Int}{k:Nat}{pB:zW}{pN pC:Nat}{roots:List Int}(hp:HpAt H b x)(I:Inv x.sp sz)(hcf:x.sp.cf<4611686018427387904)(hen:x.en=.slice none 0 0){sB:zW}{sC:Nat}{syl:List Int}(hsy:x.sy=.slice sB syl.length sC)(hso:Own H 33 1 sB syl.length sC (wvs syl))(hsb: ∀j∈blks sB,j ∉ b.all/\j ∉ S)(hsw: ∀w∈syl,aJ w/\Good x.sp.mem sz w)(hsl:syl.length<=1000000)(hg:I64 g)(hT:I64 T)
  (hr:K H roots) (hrb: ∀j∈S,j ∉ b.all) (hpt:db H pB (ptrs k ra roots.length)) (hpn:pN=k+roots.length) (hpb: ∀j∈blks pB,j ∉ b.all/\j ∉ S/\j<H.size) (hgood: ∀w∈roots,aJ w/\Good x.sp.mem sz w) (hl:pN<=1000000000):
  ei.C (some ⟨b.h,0,none⟩) g T pB pN pC H (λv H'=>(fy x.sp g T 1≠0->v=.int .i64 (fy x.sp g T 1)/\Ext H H')/\
   (fy x.sp g T 1=0->v=.int .i64 0/\ ∃young fw al sz' tr s3 s4 s5,sd K S H H' b x sz g T roots young fw al sz' tr s3 s4 s5 syl)):=by
 refine HC.via λR hR=>ei.link ?_
 unfold ei.pt zY
 rw[onPtr_some]
 have ok:=I.ok
 have hmore:il.C (some ⟨b.h,0,none⟩) H (λv H'=>v=.int .i64 1/\H'=H):=by
  refine HC.via λR hR=>il.link ?_
  unfold il.pt zY
  refine⟨_,rfl,none,0,0,?_,hR _ _ ⟨rfl,rfl⟩⟩
  rw[gq hp.h 2,<-hen];rfl
 refine HC.mono hmore ?_
 rintro _ H1 ⟨rfl,rfl⟩
 refine⟨_,rfl,?_⟩
 refine HC.mono (ph hp ok I.even hcf hg hT (by decide)) ?_
 rintro v2 H2 ⟨hno,hyes⟩
 by_cases hst:fy x.sp g T 1=0
 case neg=>
  obtain⟨rfl,e2⟩:=hno hst
  refine⟨_,_,rfl,?_⟩
  rw[if_neg hst]
  exact hR _ _ ⟨λ_=>⟨rfl,e2⟩,λh=>absurd h hst⟩
 obtain⟨q,t,rfl,T2,B,hq,f2⟩:=hyes hst
 refine⟨_,_,rfl,?_⟩
 rw[if_pos rfl]
 obtain rfl:=B.tgt
 have hrng:=mh (by decide) hst
 have hblt:=hp.lt
 have hrlt:=Ce.lt hr
 have hspb: ∀j∈spB b,j∈b.all:=λj hj=>hX hj
 have z2:=f2.size
 have hrq: ∀j∈S,j ∉ q.all:=λj hj h=>by have:=hrlt j hj;have:=hq j h;omega
 have hw: ∀w∈roots,aJ w:=λw h=>(hgood w h).1
 have hr2:=Ce.keep hr f2 (λj hj h=>hrb j hj (hspb j h))
 have hpt2:db H2 pB (ptrs k ra roots.length):=by
  cases pB with
  | none=>exact hpt
  | some a=>
   have hpb1:=hpb a.block (by simp)
   exact f2.rowAt (λh=>hpb1.1 (hspb _ h)) hpt
 have ey:({x with sp:=x.sp.fresh (dt g)}:Hp).sp=x.sp.fresh (dt g):=rfl
 generalize hyy:({x with sp:=x.sp.fresh (dt g)}:Hp)=y at*
 refine⟨λi A=>(0<=i/\i<=pN)/\Tg A b {y with sp:=(y.sp.visL t.old t.tgt (roots.take (i-k).toNat)).1} q t/\K A ((y.sp.visL t.old t.tgt (roots.take (i-k).toNat)).2++roots.drop (i-k).toNat)/\Fr (spB b++S) H2 A,λi _=>(pN-i).toNat,
  ⟨⟨by omega,by omega⟩,?_,?_,Fr.refl _ _⟩,?_⟩
 ·rw[show((0:Int)-(k:Int)).toNat=0 by omega];exact T2
 ·rw[show((0:Int)-(k:Int)).toNat=0 by omega];exact hr2
 rintro i A ⟨hi,TA,hA,fA⟩
 by_cases hlt:i< (pN:Int)
 case pos=>
  rw[if_pos hlt]
  have hd:((pN:Int)-(i+1)).toNat< ((pN:Int)-i).toNat:=by omega
  rw[w64 (n:=i+1) (by omega)]
  have hptA:db A pB (ptrs k ra roots.length):=by
   cases pB with
   | none=>exact hpt2
   | some a=>
    have hpb1:=hpb a.block (by simp)
    exact fA.rowAt (λh=>by rcases List.mem_append.1 h with h | h;exact hpb1.1 (hspb _ h);exact hpb1.2.1 h) hpt2
  by_cases hik:i<k
  ·obtain⟨a,ha,hat1⟩:=nC hptA (rT (k:=k) (i:=i.toNat) (by omega))
   refine⟨a,ha,⟨hi.1,hlt⟩,_,hat1,?_⟩
   rw[onPtr_none]
   rw[show(i-(k:Int)).toNat=0 by omega]at TA hA
   exact⟨⟨⟨by omega,by omega⟩,by rw[show(i+1-(k:Int)).toNat=0 by omega];exact TA,by rw[show(i+1-(k:Int)).toNat=0 by omega];exact hA,fA⟩,hd⟩
  ·obtain⟨j,hj⟩: ∃j:Nat,i=k+j:=⟨(i-k).toNat,by omega⟩
   have hjn:j<roots.length:=by omega
   subst hj
   rw[show((k:Int)+(j:Int)-(k:Int)).toNat=j by omega]at TA hA
   obtain⟨a,ha,hat1⟩:=nC hptA (rU (k:=k) (a:=ra) hjn)
   refine⟨a,ha,⟨hi.1,hlt⟩,_,by rw[show((k:Int)+(j:Int)).toNat=k+j by omega];exact hat1,?_⟩
   rw[onPtr_some]
   have hvl:=Sp.visL_len t.old t.tgt y.sp (roots.take j)
   rw[List.length_take,Nat.min_eq_left (by omega)]at hvl
   have hlj:j< ((y.sp.visL t.old t.tgt (roots.take j)).2++roots.drop j).length:=by rw[List.length_append,List.length_drop];omega
   have hgj:((y.sp.visL t.old t.tgt (roots.take j)).2++roots.drop j)[j]=roots[j]:=by
    rw[List.getElem_append_right (by omega)]
    simp only[hvl,Nat.sub_self,List.getElem_drop,Nat.add_zero]
   have hatr:=Ce.at' hA hlj
   rw[hgj]at hatr
   refine⟨_,hatr,?_⟩
   have hmem:=List.getElem_mem hjn
   refine HC.mono (iZ TA (hw _ hmem)) ?_
   rintro _ A2 ⟨rfl,TA2,fA2⟩
   have hA2:=Ce.keep hA fA2 (λj hj h=>hrb j hj (hspb j h))
   obtain⟨hcp,hs⟩:=Ce.put ((y.sp.visL t.old t.tgt (roots.take j)).1.visit t.old t.tgt roots[j]).2 hA2 hlj
   refine⟨_,rfl,hcp,λA3 hA3=>?_⟩
   obtain⟨ho3,f3⟩:=hs A3 hA3
   have htk:roots.take (j+1)=roots.take j++[roots[j]]:=List.take_succ_eq_append_getElem hjn
   have hvs:y.sp.visL t.old t.tgt (roots.take (j+1))=(((y.sp.visL t.old t.tgt (roots.take j)).1.visit t.old t.tgt roots[j]).1,(y.sp.visL t.old t.tgt (roots.take j)).2++[((y.sp.visL t.old t.tgt (roots.take j)).1.visit t.old t.tgt roots[j]).2]):=by rw[htk,Sp.visL_snoc]
   have hset:((y.sp.visL t.old t.tgt (roots.take j)).2++roots.drop j).set j ((y.sp.visL t.old t.tgt (roots.take j)).1.visit t.old t.tgt roots[j]).2=(y.sp.visL t.old t.tgt (roots.take (j+1))).2++roots.drop (j+1):=by
    rw[hvs,List.set_append,if_neg (by omega),hvl,Nat.sub_self,List.drop_eq_getElem_cons hjn,List.set_cons_zero,List.append_assoc]
    rfl
   rw[hset]at ho3
   refine⟨⟨⟨by omega,by omega⟩,?_,?_,?_⟩,hd⟩
   ·rw[show((k:Int)+(j:Int)+1-(k:Int)).toNat=j+1 by omega,hvs]
    exact TA2.stay f3 (λi hi h=>hrb i hi h) (λi hi h=>hrq i hi h)
   ·rw[show((k:Int)+(j:Int)+1-(k:Int)).toNat=j+1 by omega];exact ho3
   ·exact(fA.trans (fA2.mono (λi hi _=>List.mem_append_left _ hi))).trans (f3.mono (λi hi _=>List.mem_append_right _ hi))
 rw[if_neg hlt]
 have hend:(i-(k:Int)).toNat=roots.length:=by omega
 rw[hend,List.take_length]at TA
 rw[hend,List.take_length,List.drop_length,List.append_nil]at hA
 refine HC.mono (pb TA (B.cardsOK ok.mem)) ?_
 rintro _ H6 ⟨T6,f6⟩
 refine HC.mono (pf T6 (B.seenOK ok.mem) (by omega)) ?_
 rintro _ H7 ⟨s3,ks3,hdr,hdd,T7,hso3,f7⟩
 have hyen:y.en=.slice none 0 0:=by rw[<-hyy];exact hen
 have hysy:y.sy=.slice sB syl.length sC:=by rw[<-hyy];exact hsy
 have hepy:y.ep=x.ep:=by rw[<-hyy]
 refine⟨none,0,0,by rw[gq T7.hp.h 2,<-hyen];rfl,?_⟩
 refine HC.mono (mw T7.toTc T7.on) ?_
 rintro _ H8 ⟨rfl,e8⟩
 have T8:=T7.grow e8
 obtain⟨hcp9,hs9⟩:=po (o:=2) (v:=.slice none 0 0) T8.hp.h (by rw[<-hyen];rfl)
 refine⟨_,_,_,rfl,hcp9,λH9 hH9=>?_⟩
 obtain rfl:=hs9 H9 hH9
 refine HC.mono (my T8 (B.frmOK ok.mem) (B.cardsOK ok.mem)) ?_
 rintro _ H10 ⟨l,hl10,T10,f10⟩
 refine⟨sB,syl.length,sC,by rw[gq T10.hp.h 1,<-hysy];rfl,?_⟩
 have hsb2: ∀j∈blks sB,j ∉ b.all++q.all:=λj hj h=>by
  rcases List.mem_append.1 h with h | h
  ·exact(hsb j hj).1 h
  ·have:=hso.lt j hj;have:=hq j h;omega
 have hsoA:Own A 33 1 sB syl.length sC (wvs syl):=(hso.keep f2 (λj hj h=>(hsb j hj).1 (hspb j h))).keep fA (λj hj h=>by
  rcases List.mem_append.1 h with h | h
  ·exact(hsb j hj).1 (hspb j h)
  ·exact(hsb j hj).2 h)
 have hso10:Own H10 33 1 sB syl.length sC (wvs syl):=(((hsoA.keep f6 (λj hj h=>(hsb j hj).1 (hspb j h))).keep f7 (λj hj h=>hsb2 j hj (by
  rcases List.mem_cons.1 h with h | h
  ·rw[h];simp[TB.all]
  ·exact List.mem_append_left _ (hspb j h)))).ext e8).keep f10 (λj hj h=>(hsb j hj).1 (hspb j h))
 refine HC.mono (nD T10 hso10.src (λw h=>(hsw w h).1) (λj hj=>(hsb j hj).1) hsl) ?_
 rintro _ H11 ⟨oB,oC,rfl,hoo,hob,T11,f11⟩
 obtain⟨hcp12,hp12,f12⟩:=T11.hp.putSy2 (.slice oB (ff t.old _ syl).length oC)
 refine⟨_,_,_,rfl,hcp12,λH12 hH12=>?_⟩
 rw[<-hH12]at hp12 f12
 have T12:=T11.putSy hp12 f12
 refine HD.mono (qV T12) ?_
 rintro H13 ⟨hp13,htr13,f13⟩
 have hys:y.sp=x.sp.fresh (dt g):=by rw[<-hyy]
 have hdr':fx t.old t.tgt (((x.sp.fresh (dt g)).visL t.old t.tgt roots).1.lookCards t.old t.tgt t.cards) t.seen s3 ks3:=by rw[<-hys];exact hdr
 obtain⟨fw,al,sz',C⟩:=oq I (by decide) hst B hgood hdr' hdd (l:=l) hl10
 have sX: ∀j∈spB b,j∈b.all++q.all:=λj hj=>List.mem_append_left _ (hspb j hj)
 have G:Fr (b.all++q.all) A H13:=by
  have a1:Fr (b.all++q.all) A H6:=f6.mono (λj hj _=>sX j hj)
  have a2:Fr (b.all++q.all) H6 H7:=f7.mono (λj hj _=>by
   rcases List.mem_cons.1 hj with h | h
   ·rw[h];simp[TB.all]
   ·exact sX j h)
  have a3:Fr (b.all++q.all) H7 H12:=((e8.fr.trans (f10.mono (λj hj _=>sX j hj))).trans (f11.mono (λj hj _=>sX j hj))).trans (f12.mono (λj hj _=>by simp at hj;rw[hj];simp[Blk.all]))
  have a4:Fr (b.all++q.all) H12 H13:=f13.mono (λj hj _=>by
   rcases List.mem_cons.1 hj with h | h
   ·rw[h];simp[Blk.all]
   ·rcases List.mem_cons.1 h with h | h
    ·rw[h];simp[TB.all]
    ·exact sX j h)
  exact((a1.trans a2).trans a3).trans a4
 have hown13:=Ce.keep hA G (λj hj h=>by
  rcases List.mem_append.1 h with h | h
  ·exact hrb j hj h
  ·exact hrq j hj h)
 have FA:Fr (b.all++S) H1 A:=(f2.mono (λj hj _=>List.mem_append_left _ (hspb j hj))).trans (fA.mono (λj hj _=>by
  rcases List.mem_append.1 hj with h | h
  ·exact List.mem_append_left _ (hspb j h)
  ·exact List.mem_append_right _ h))
 have hpr:=C.pruned hsw
 have zb:=T10.lt (i:=b.h) (.inl (by simp[Blk.all]))
 have z10:H1.size<=H10.size:=by
  have:=f2.size;have:=fA.size;have:=f6.size;have:=f7.size;have:=e8.size;have:=f10.size
  omega
 have hlt12: ∀j∈b.h::q.t::spB b,j<H10.size:=λj hj=>by
  rcases List.mem_cons.1 hj with h | h
  ·rw[h];exact zb
  rcases List.mem_cons.1 h with h | h
  ·rw[h];exact T10.lt (.inr (by simp[TB.all]))
  ·exact T10.lt (.inl (hspb j h))
 have hoo13:=(hoo.keep f12 (λj hj h=>by simp at h;have:=hob j hj;omega)).keep f13 (λj hj h=>by have:=hob j hj;have:=hlt12 j h;omega)
 refine hR _ _ ⟨λh=>absurd hst h,λ_=>⟨rfl,_,fw,al,sz',t,s3,_,_,⟨C,?_,?_,by omega,oB,oC,?_,?_,λj hj=>by have:=hob j hj;omega⟩⟩⟩
 ·rw[<-hys];exact hown13
 ·exact FA.trans' G (λj hj _=>hj) (λj hj hl=>by
   rcases List.mem_append.1 hj with h | h
   ·exact List.mem_append_left _ h
   ·have:=hq j h;omega)
 ·have:=hp13
  rw[<-hyy]at this
  rw[<-hpr]
  exact this
 ·rw[<-hpr];exact hoo13
