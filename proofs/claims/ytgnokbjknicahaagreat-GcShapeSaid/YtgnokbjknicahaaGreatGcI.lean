/-
 How many words are used behind a trace. Proves nothing of any one statement.
-/
import Derived.Test.YtgnokbjknicahaaGreatTsE
set_option linter.unusedVariables false
set_option linter.unusedSimpArgs false
namespace Go.Proofs.YtgnokbjknicahaaGreat
open Go

section
variable {Z:TZ} {g F0:Int} {fw:Int->Option Int} {al:List Int} {s:Sp} {sz:Int->Nat}
theorem Traced.words{tr:Tr}{s':Sp}{m:Mem}(t:Traced Z g F0 fw al sz tr s s' m)(ok:MemOK m):m.words []=(Z.m.above g:Int)+((al.map Z.sz).sum:Nat):=by
 have S:=t.S
 have htp:=tops_eq
 rw[Mem.words_cnt ok]
 have hb: ∀a∈al,∃b,fw a=some b:=λa ha=>(t.tri.al a).1 ha
 let bs:=al.filterMap fw
 have hbs: ∀b,b∈bs ↔ ∃a,fw a=some b:=λb=>by
  show b∈al.filterMap fw ↔ _
  rw[List.mem_filterMap]
  constructor
  ·rintro⟨a,_,h⟩;exact⟨a,h⟩
  ·rintro⟨a,h⟩;exact⟨a,(t.tri.al a).2 ⟨b,h⟩,h⟩
 have hsum: ∀l:List Int,(∀a∈l,∃b,fw a=some b)->((l.filterMap fw).map sz).sum=(l.map Z.sz).sum:=λl=>by
  induction l with
  | nil=>intro _;rfl
  | cons a l ih=>
   intro h
   obtain⟨b,hb⟩:=h a (by simp)
   rw[List.filterMap_cons_some hb]
   simp only[List.map_cons,List.sum_cons,ih (λx hx=>h x (by simp[hx])),(t.tri.img a b hb).1]
 have hnd: ∀l:List Int,l.Nodup->(l.filterMap fw).Nodup:=λl=>by
  induction l with
  | nil=>intro _;exact List.nodup_nil
  | cons a l ih=>
   intro h
   rw[List.nodup_cons]at h
   cases hf:fw a with
   | none=>rw[List.filterMap_cons_none hf];exact ih h.2
   | some b=>
    rw[List.filterMap_cons_some hf,List.nodup_cons]
    refine⟨λq=>?_,ih h.2⟩
    rw[List.mem_filterMap]at q
    obtain⟨a',q1,q2⟩:=q
    have:=t.tri.inj a a' b hf q2
    exact h.1 (this▸q1)
 have hbu: ∀b∈bs,sz b≠0/\ ∀i:Nat,i<sz b->s.mem.used (b+i)/\ ¬Z.m.used (b+i)/\Z.O ((b+(i:Int)) / 64).toNat=false:=λb hbm=>by
  obtain⟨a,ha⟩:=(hbs b).1 hbm
  obtain⟨e,im⟩:=t.tri.img a b ha
  have hza:=(t.tri.olds.mem a ((t.tri.al a).2 ⟨b,ha⟩)).1
  refine⟨by rw[e];exact hza,λi hi=>?_⟩
  rw[e]at hi
  have hf:=im.fit
  exact⟨im.here i hi,im.new i hi,by rw[show(b+(i:Int)) / 64=b / 64 by omega];exact im.out⟩
 have hin: ∀b∈bs,∀x:Nat,inR b (sz b) x=true-> ∃i:Nat,i<sz b/\(x:Int)=b+i:=λb hbm x hx=>by
  unfold inR at hx
  rw[decide_eq_true_eq]at hx
  exact⟨((x:Int)-b).toNat,by omega,by omega⟩
 rw[<-hsum al hb,sum_cover sz tops (al.filterMap fw) (hnd al t.tri.olds.nodup) (λb hbm=>?_) (λa ha b hbm hab=>t.tri.apart a b (hbu a ha).1 (hbu b hbm).1 hab)]
 ·unfold Mem.above Mem.cnt
  rw[<-Int.natCast_add,<-countP_two]
  ·congr 1
   refine List.countP_congr λx hx=>?_
   rw[List.mem_range]at hx
   simp only[Bool.and_eq_true,Bool.or_eq_true,decide_eq_true_eq,true_or,and_true]
   rw[t.used]
   constructor
   ·rintro⟨hu,hO⟩
    rcases t.tri.cover x hu with hz | ⟨a,b,i,h1,h2,h3⟩
    ·left
     refine⟨hz,?_⟩
     have hlx:=S.lt hz
     rcases Int.lt_or_le g (Z.m.gAt x)with q | q
     ·exact q
     ·have:=(S.old _ hlx.1).2 ⟨by rw[show((((x:Int) / 64).toNat:Nat):Int)=(x:Int) / 64 by omega];exact hz.2.1,q⟩
      rw[hO]at this;cases this
    ·right
     rw[List.any_eq_true]
     refine⟨b,(hbs b).2 ⟨a,h1⟩,?_⟩
     unfold inR
     rw[decide_eq_true_eq,(t.tri.img a b h1).1]
     omega
   ·rintro(⟨hz,hg⟩ | hany)
    ·have hlx:=S.lt hz
     refine⟨t.tri.heads.used hz,?_⟩
     by_cases q:Z.O ((x:Int) / 64).toNat=true
     ·have:=((S.old _ hlx.1).1 q).2
      have:g< (Z.m.seg ((x:Int) / 64).toNat).gen:=hg
      omega
     ·simpa using q
    ·rw[List.any_eq_true]at hany
     obtain⟨b,hbm,hx2⟩:=hany
     obtain⟨i,hi,e⟩:=hin b hbm x hx2
     obtain⟨u1,u2,u3⟩:=(hbu b hbm).2 i hi
     rw[e];exact⟨u1,u3⟩
  ·intro x _ h1 h2
   simp only[Bool.and_eq_true,decide_eq_true_eq]at h1
   rw[List.any_eq_true]at h2
   obtain⟨b,hbm,hx2⟩:=h2
   obtain⟨i,hi,e⟩:=hin b hbm x hx2
   have:=((hbu b hbm).2 i hi).2.1
   rw[<-e]at this
   exact this h1.1
 ·obtain⟨hz,hu⟩:=hbu b hbm
  have h0:=(hu 0 (by omega)).1
  have hl:=(hu (sz b-1) (by omega)).1
  have hlim:=t.tri.ok.mem.lim
  have h1:=h0.1
  have h2:=hl.2.1.2.1
  exact⟨by omega,by omega⟩
theorem Traced.empty{tr:Tr}{s':Sp}{m:Mem}(t:Traced Z g F0 fw al sz tr s s' m)(ok:MemOK m){k:Int}(hk:k<=g)(hT:k≠Z.T):m.words [k]=0:=by
 have S:=t.S
 rw[Mem.words_cnt ok]
 unfold Mem.cnt
 have:(List.range tops).countP (λx:Nat=>decide (m.used x) && decide ([k]=[]\/m.gAt x∈[k]))=0:=by
  rw[List.countP_eq_zero]
  intro x _
  simp only[Bool.and_eq_true,decide_eq_true_eq,List.mem_singleton,List.cons_ne_self,false_or,reduceCtorEq]
  rintro⟨hu,hg⟩
  have hg2:=(t.kind hu).2
  obtain⟨hus,hO⟩:=t.used.1 hu
  rcases t.tri.cover x hus with hz | ⟨a,b,i,h1,h2,h3⟩
  ·have hlx:=S.lt hz
   have:=(S.old _ hlx.1).2 ⟨by rw[show((((x:Int) / 64).toNat:Nat):Int)=(x:Int) / 64 by omega];exact hz.2.1,by
    have e:=(t.tri.kAt hz).2
    have:(Z.m.seg ((x:Int) / 64).toNat).gen=k:=by
     have e2:Z.m.gAt x=k:=by rw[<-e,<-hg2];exact hg
     exact e2
    omega⟩
   rw[hO]at this;cases this
  ·have im:=(t.tri.img a b h1).2
   have hf:=im.fit
   have:s.mem.gAt x=Z.T:=by
    unfold Mem.gAt
    rw[h3,show(b+(i:Int)) / 64=b / 64 by omega];exact im.gen
   rw[hg2,this]at hg
   exact hT hg.symm
 rw[this];rfl
end

def brkR(O:Nat->Bool)(m:Mem)(a:Int):Mem:=if isOldW O (m.read a)then m.wr a ((m.fwd (m.read a)).getD 44)else m
theorem fwd_wordD{m:Mem}(ok:MemOK m)(w:Int):IsWord ((m.fwd w).getD 44):=by
 unfold Mem.fwd
 split
 ·have:=(ok.seg (w / 8 / 64).toNat).words (w / 8 % 64).toNat
  have h:IsWord (m.get (w / 8)):=(ok.seg _).words _
  unfold IsWord at h⊢
  show 0<=m.get (w / 8) / 8*8+w % 8/\_
  simp only[Option.getD_some]
  omega
 ·decide
theorem brkR_same(O:Nat->Bool)(m:Mem)(a:Int):Same' m (brkR O m a):=by
 unfold brkR
 split
 ·exact Same'.wr m a _
 ·exact Same'.refl m
theorem brkR_ok{s:Sp}(ok:SpOK s)(O:Nat->Bool)(a:Int):SpOK {s with mem:=brkR O s.mem a}:=by
 unfold brkR
 split
 ·exact ok.wr a (fwd_wordD ok.mem _)
 ·exact ok
theorem brksR_same(O:Nat->Bool): ∀(l:List Int) (m:Mem),Same' m (l.foldl (brkR O) m)
 | [],m=>Same'.refl m
 | a::l,m=>(brkR_same O m a).trans (brksR_same O l _)
theorem brksR_ok(O:Nat->Bool): ∀(l:List Int) {s:Sp},SpOK s->SpOK {s with mem:=l.foldl (brkR O) s.mem}
 | [],s,ok=>ok
 | a::l,s,ok=>brksR_ok O l (brkR_ok ok O a)
theorem brkR_get{O:Nat->Bool}{m:Mem}{a x:Int}(hx:m.used x):(brkR O m a).get x=if x=a/\isOldW O (m.get x)then(m.fwd (m.get x)).getD 44 else m.get x:=by
 have x0:=hx.1
 unfold brkR
 by_cases e:x=a
 ·subst e
  have hr:m.read x=m.get x:=by unfold Mem.read;rw[if_pos hx]
  rw[hr]
  by_cases ho:isOldW O (m.get x)
  ·rw[if_pos ho,if_pos ⟨rfl,ho⟩]
   unfold Mem.wr;rw[if_pos hx,Mem.set_get x x0 x0,if_pos rfl]
  ·rw[if_neg ho,if_neg (λq=>ho q.2)]
 ·rw[if_neg (show ¬(x=a/\isOldW O (m.get x))from λq=>e q.1)]
  split
  ·unfold Mem.wr
   by_cases hu:m.used a
   ·rw[if_pos hu,Mem.set_get x x0 hu.1,if_neg e]
   ·rw[if_neg hu]
  ·rfl
theorem brkR_fwd{O:Nat->Bool}{m:Mem}{a w:Int}(ha:O (a / 64).toNat=false)(hw:isOldW O w):(brkR O m a).fwd w=m.fwd w:=by
 unfold Mem.fwd
 by_cases hu:m.used (w / 8)
 ·have e:(brkR O m a).get (w / 8)=m.get (w / 8):=by
   rw[brkR_get hu,if_neg]
   rintro⟨h,_⟩
   have:=hw.2.2
   rw[h,ha]at this;cases this
  rw[e]
  have hu2:=(brkR_same O m a).used.2 hu
  exact ite_iff ⟨λq=>⟨hu,q.2⟩,λq=>⟨hu2,q.2⟩⟩ _ _
 ·rw[if_neg (λq=>hu ((brkR_same O m a).used.1 q.1)),if_neg (λq=>hu q.1)]
theorem brksR_get(O:Nat->Bool): ∀(l:List Int) {m:Mem} {x:Int},(∀a∈l,O (a / 64).toNat=false)->(isOldW O (m.get x)-> ∀v,m.fwd (m.get x)=some v-> ¬isOldW O v)->m.used x->
  (l.foldl (brkR O) m).get x=if x∈l/\isOldW O (m.get x)then(m.fwd (m.get x)).getD 44 else m.get x
 | [],m,x,_,_,hx=>by rw[if_neg (λq=>by simp at q)];rfl
 | a::l,m,x,hl,hf,hx=>by
  have ha:=hl a (by simp)
  have hfw: ∀w,isOldW O w->(brkR O m a).fwd w=m.fwd w:=λw hw=>brkR_fwd ha hw
  have hno:isOldW O (m.get x)-> ¬isOldW O ((m.fwd (m.get x)).getD 44):=λe=>by
   cases hv:m.fwd (m.get x)with
   | none=>exact not_old44 O
   | some v=>exact hf e v hv
  have hg:=brkR_get (O:=O) (a:=a) hx
  have ih:=brksR_get O l (m:=brkR O m a) (x:=x) (λb hb=>hl b (by simp[hb])) (λh1 v hv=>by
   by_cases e:x=a/\isOldW O (m.get x)
   ·rw[hg,if_pos e]at h1;exact absurd h1 (hno e.2)
   ·rw[hg,if_neg e]at h1 hv
    exact hf h1 v (by rw[<-hfw _ h1];exact hv)) ((brkR_same O m a).used.2 hx)
  show(l.foldl (brkR O) (brkR O m a)).get x=_
  rw[ih,hg]
  by_cases e:x=a/\isOldW O (m.get x)
  ·rw[if_pos e,if_neg (λq=>hno e.2 q.2),if_pos ⟨by rw[e.1];simp,e.2⟩]
  ·rw[if_neg e]
   by_cases h:x∈l/\isOldW O (m.get x)
   ·rw[if_pos h,if_pos ⟨by simp[h.1],h.2⟩,hfw _ h.2]
   ·rw[if_neg h,if_neg (λq=>?_)]
    rcases List.mem_cons.1 q.1 with r | r
    ·exact e ⟨r,q.2⟩
    ·exact h ⟨r,q.2⟩

section
variable {Z:TZ} {g F0:Int} {fw:Int->Option Int} {al:List Int} {s:Sp} {sz:Int->Nat}
theorem weaks_out{tr:Tr}(S:Static Z g F0)(t:Tri Z F0 fw al s sz)(B:Begun Z.m g Z.T tr)(hO:tr.old=Z.O){l:List Nat}(hl:IsTaken s.mem [Z.T] l): ∀a∈s.mem.weaks tr l,Z.O (a / 64).toNat=false:=by
 intro a ha
 have hlim:=t.ok.mem.lim
 unfold Mem.weaks at ha
 rcases List.mem_append.1 ha with h | h
 ·obtain⟨k,hk,h⟩:=List.mem_flatMap.1 h
  have kd:((k:Nat):Int).toNat=k:=by omega
  unfold Mem.weakSeg at h
  by_cases hc:(s.mem.seg k).kind=1/\tr.old k=false
  case neg=>rw[if_neg hc]at h;simp at h
  rw[if_pos hc]at h
  obtain⟨j,hj,rfl⟩:=mem_weakRow.1 h
  rw[weakLen_lt]at hj
  have hn:=(t.ok.mem.seg k).n
  have hf:=B.frmAt (k:=k) (by omega)
  have h0:0<=seenAt tr.frm k:=by
   rw[hf]
   split
   ·exact(S.ok.seg _).n.1
   ·exact Int.le_refl _
  rw[show((k:Int)*64+(seenAt tr.frm k+2*(j:Int))) / 64=k by omega,kd,<-hO];exact hc.2
 ·obtain⟨c,hc,h⟩:=List.mem_flatMap.1 h
  obtain⟨c1,c2,c3,c4⟩:=B.cardOf S c hc
  unfold Mem.weakCard at h
  by_cases hk:(s.mem.segOr c.1).kind=1
  case neg=>rw[if_neg hk]at h;simp at h
  rw[if_pos hk]at h
  obtain⟨j,hj,rfl⟩:=mem_weakRow.1 h
  rw[weakLen_lt]at hj
  have h0:=c1.1
  rw[show(c.1*64+(c.2*16+2*(j:Int))) / 64=c.1 by omega];exact c2
theorem Tri.was_any(S:Static Z g F0)(t:Tri Z F0 fw al s sz){x v:Int}(hw:Was Z fw x v)(hk:s.mem.kAt x≠3):IsWord v/\Good Z.m Z.sz v:=by
 rcases hw with⟨h1,h2,rfl⟩ | ⟨a,b,i,h1,h2,h3,rfl⟩
 ·exact⟨(S.ok.seg _).words _,S.sound.good x h1 (by rw[<-(t.kAt h1).1];exact hk)⟩
 ·have im:=(t.img a b h1).2
  have hsa:=(t.olds.mem a ((t.al a).2 ⟨b,h1⟩)).1
  have hai:=S.sound.usedAt hsa h2 (λk=>(S.ok.seg k).n.2)
  have hf:=im.fit
  refine⟨(S.ok.seg _).words _,S.sound.good _ hai.1 ?_⟩
  have:s.mem.kAt x=Z.m.kAt (a+i):=by
   unfold Mem.kAt
   rw[h3,show(b+i) / 64=b / 64 by omega,hai.2.1];exact im.kind
  rw[<-this];exact hk
theorem Tri.fwd_is(S:Static Z g F0)(t:Tri Z F0 fw al s sz){w:Int}(hw:IsWord w)(hg:Good Z.m Z.sz w)(ho:isOldW Z.O w):s.mem.fwd w=(fw (w / 8)).map λb=>b*8+w % 8:=by
 obtain⟨h1,h2,h3,h4⟩:=S.oldWord hg ho
 obtain⟨u1,u2⟩:=S.sound.used _ h1
 cases hf:fw (w / 8)with
 | none=>exact(t.same_size S hw hg ho hf).2.1
 | some b=>
  obtain⟨_,im⟩:=t.img _ _ hf
  have hb0:s.mem.used b:=by simpa using im.here 0 (by omega)
  have hlim:=t.ok.mem.lim
  have hb1:=hb0.2.1.2.1
  have hb2:=hb0.1
  unfold Mem.fwd
  rw[t.word _ _ hf,if_pos ⟨t.heads.used u1,⟨by omega,by omega⟩,by omega⟩]
  show some _=some _
  congr 2;omega
structure BrokeX (Z:TZ) (fw:Int->Option Int) (s s':Sp):Prop extends Broke Z fw s s' where
 exact: ∀x v,s.mem.used x->Z.O (x / 64).toNat=false->s.mem.kAt x=1->x % 2=0->Was Z fw x v->s'.mem.get x=if isOldW Z.O v/\fw (v / 8)=none then 44 else Fw Z.O fw v
theorem BrokeX.of{tr:Tr}(S:Static Z g F0)(t:Tri Z F0 fw al s sz)(hm:Marked Z.m)(B:Begun Z.m g Z.T tr)(hO:tr.old=Z.O){l:List Nat}(hl:IsTaken s.mem [Z.T] l):BrokeX Z fw s {s with mem:=(s.mem.weaks tr l).foldl (brkR Z.O) s.mem}:=by
 have hout:=weaks_out S t B hO hl
 have key: ∀x v,s.mem.used x->Z.O (x / 64).toNat=false->s.mem.kAt x=1->x % 2=0->Was Z fw x v->((s.mem.weaks tr l).foldl (brkR Z.O) s.mem).get x=if isOldW Z.O v/\fw (v / 8)=none then 44 else Fw Z.O fw v:=λx v hu ho hk hx hv=>by
  have hval:s.mem.get x=v:=by
   rcases t.val x v hv with r | ⟨r,_⟩
   ·exact r
   ·have:=r.2.resolve_left (λe=>e hk);omega
  obtain⟨w1,w2⟩:=t.was_any S hv (by rw[hk];decide)
  have hfw:isOldW Z.O v->s.mem.fwd v=(fw (v / 8)).map λb=>b*8+v % 8:=λo=>t.fwd_is S w1 w2 o
  rw[brksR_get Z.O _ hout (λo v' hv'=>?_) hu,hval]
  ·by_cases o:isOldW Z.O v
   ·have hin:=weaks_all S t hm B hO hl hu ho hk hx hv o
    rw[if_pos ⟨hin,o⟩,hfw o]
    cases hf:fw (v / 8)with
    | none=>rw[if_pos ⟨o,rfl⟩];rfl
    | some b=>rw[if_neg (λq=>by cases q.2),Fw_some o hf];rfl
   ·rw[if_neg (λq=>o q.2),if_neg (λq=>o q.1),Fw_no o]
  ·rw[hval]at o hv'
   rw[hfw o]at hv'
   cases hf:fw (v / 8)with
   | none=>rw[hf]at hv';cases hv'
   | some b=>
    rw[hf]at hv';cases hv'
    have im:=(t.img _ _ hf).2
    intro q
    have:=q.2.2
    rw[show(b*8+v % 8) / 8=b by omega,im.out]at this
    cases this
 refine⟨⟨brksR_same _ _ _,rfl,brksR_ok _ _ t.ok,λx hu ho hw=>?_,λx hu ho hk hx=>?_⟩,key⟩
 ·show((s.mem.weaks tr l).foldl (brkR Z.O) s.mem).get x=_
  have hnin:x ∉ s.mem.weaks tr l:=λq=>by
   obtain⟨h1,h2,_⟩:=weaks_are S t B hl x q
   exact hw ⟨h1,h2⟩
  have hg: ∀(l:List Int) (m:Mem),m.used x->x ∉ l->(l.foldl (brkR Z.O) m).get x=m.get x:=λl=>by
   induction l with
   | nil=>intro m _ _;rfl
   | cons a l ih=>
    intro m hm hn
    show(l.foldl (brkR Z.O) (brkR Z.O m a)).get x=_
    rw[ih _ ((brkR_same _ m a).used.2 hm) (λq=>hn (by simp[q])),brkR_get hm,if_neg (λq=>hn (by simp[q.1]))]
  exact hg _ _ hu hnin
 ·obtain⟨v,hv⟩:=t.was hu ho
  show((s.mem.weaks tr l).foldl (brkR Z.O) s.mem).get x=44\/_
  by_cases o:isOldW Z.O v/\fw (v / 8)=none
  ·left;rw[key x v hu ho hk hx hv,if_pos o]
  ·right
   intro v' hv'
   obtain rfl:=t.was_one hv' hv
   refine⟨λh=>?_,?_⟩
   ·cases hf:fw (v' / 8)with
    | none=>exact absurd ⟨h,hf⟩ o
    | some b=>exact⟨b,rfl⟩
   ·show((s.mem.weaks tr l).foldl (brkR Z.O) s.mem).get x=_
    rw[key x v' hu ho hk hx hv,if_neg o]
end

structure Colled (s0:Sp) (sz0:Int->Nat) (g T:Int) (tr:Tr) (roots young:List Int) (fw:Int->Option Int) (al:List Int) (sz:Int->Nat) (s3 s4 s5:Sp):Prop where
 t:Traced ⟨s0.mem,sz0,tr.old,T,(· ∈roots)⟩ g s0.mem.free fw al sz tr s3 s4 s5.mem
 brk:BrokeX ⟨s0.mem,sz0,tr.old,T,(· ∈roots)⟩ fw s3 s4
 yg:young=roots.map (Fw tr.old fw)
 inv:Inv s5 (szE tr.old sz)
 good: ∀w∈young,IsWord w/\Good s5.mem (szE tr.old sz) w
 cf:s5.cf<=s0.cf+1024
theorem startE_rng{s0:Sp}{g T more:Int}(hm:0<=more)(hst:startE s0 g T more=0):(0<=g/\g<4/\g<=T/\T<=g+1)/\2*(s0.mem.nyoung g:Int)+8+more<=s0.mem.free:=by
 unfold startE at hst
 by_cases h1:g<0\/4<=g\/T<g\/g+1<T\/more<0
 ·rw[if_pos h1]at hst;exact absurd hst (by decide)
 ·rw[if_neg h1]at hst
  by_cases h2:s0.mem.free-2*s0.mem.nyoung g-8<more
  ·rw[if_pos h2]at hst;exact absurd hst (by decide)
  ·omega
theorem collect_law{s0:Sp}{sz0:Int->Nat}{g T more:Int}{tr:Tr}{roots:List Int}{s3:Sp}{ks:List (Int×Value)}{l:List Nat}(I:Inv s0 sz0)(hmo:0<=more)(hst:startE s0 g T more=0)(B:Begun s0.mem g T tr)(hr: ∀w∈roots,IsWord w/\Good s0.mem sz0 w)
  (hd:Drains tr.old T (((s0.fresh (gensTo g)).visL tr.old T roots).1.lookCards tr.old T tr.cards) tr.seen s3 ks) (hdd:Drained tr.old T s3 ks) (hl:IsTaken s3.mem [T] l):
  ∃fw al sz,Colled s0 sz0 g T tr roots ((s0.fresh (gensTo g)).visL tr.old T roots).2 fw al sz s3 {s3 with mem:=(s3.mem.weaks tr l).foldl (brkR tr.old) s3.mem} (({s3 with mem:=(s3.mem.weaks tr l).foldl (brkR tr.old) s3.mem}:Sp).ended tr):=by
 have hrng:=startE_rng hmo hst
 have S:Static ⟨s0.mem,sz0,tr.old,T,(· ∈roots)⟩ g s0.mem.free:=by
  refine⟨I.ok.mem,I.even,I.sound,λk hk=>?_,hrng.1,?_,λv hv=>hr v hv⟩
  ·show tr.old k=true ↔ _
   rw[B.old k hk]
   unfold Mem.young
   rw[decide_eq_true_eq]
  ·have hy: ∀Z:TZ,Z.m=s0.mem->Z.O=tr.old->2*((Z.yk 0:Int)+Z.yk 1+Z.yk 2+Z.yk 3)+8<=s0.mem.free:=λZ e1 e2=>by
    have h1:=yk_sum (Z:=Z) (g:=g) (by rw[e1];exact I.ok.mem) hrng.1.1 (λk hk=>by rw[e1,e2];exact B.old k hk)
    have h2:=hrng.2
    rw[e1]at h1
    omega
   exact hy _ rfl rfl
 have t0:Tri ⟨s0.mem,sz0,tr.old,T,(· ∈roots)⟩ s0.mem.free (λ_=>none) [] (s0.fresh (gensTo g)) sz0:=
  Tri.begin' S (Sp.fresh_ok I.ok _) rfl rfl (λi j hi=>by
   show(if gensTo g=[]\/((i:Nat):Int)∈gensTo g then(0:Int)else s0.cur i j)=0
   rw[if_pos (.inr (mem_gensTo.2 ⟨by omega,hi⟩))])
 obtain⟨fw1,al1,sz1,t1,_,r1,d1⟩:=Tri.visL S roots (acc:=[]) t0 (λw hw=>hw)
 obtain⟨fw,al,sz,t3,le,fin⟩:=Tri.final S t1 I.marked B rfl hd hdd
 have hroots: ∀v,v∈roots->Dn tr.old fw v:=λv hv=>(d1 v hv).mono le
 have hres:((s0.fresh (gensTo g)).visL tr.old T roots).2=roots.map (Fw tr.old fw):=by
  refine Eq.trans r1 ?_
  rw[List.nil_append]
  exact List.map_congr_left λv hv=>(Fw_mono (d1 v hv) le).symm
 have hbr:=BrokeX.of S t3 I.marked B rfl hl
 have hhas: ∀k:Nat,k<1024->tr.old k=true->({s3 with mem:=(s3.mem.weaks tr l).foldl (brkR tr.old) s3.mem}:Sp).mem.has k:=λk hk ho=>hbr.same.has.2 (t3.heads.has ((S.old k hk).1 ho).1)
 obtain⟨hen,hok5⟩:=Sp.ended_spec (Z:=⟨s0.mem,sz0,tr.old,T,(· ∈roots)⟩) (tr:=tr) rfl hbr.ok hhas
 have hev:({s3 with mem:=(s3.mem.weaks tr l).foldl (brkR tr.old) s3.mem}:Sp).mem.Even:=hbr.same.even t3.even
 have hev5:=ended_even hbr.ok hev tr
 have hcf4:({s3 with mem:=(s3.mem.weaks tr l).foldl (brkR tr.old) s3.mem}:Sp).cf=s0.cf:=by
  have h1:=drains_cf hd
  rw[Sp.lookCards_cf,Sp.visL_cf]at h1
  have h2:(s0.fresh (gensTo g)).cf=s0.cf:=rfl
  rw[h2]at h1
  rw[<-h1]
  unfold Sp.cf
  show((s3.mem.weaks tr l).foldl (brkR tr.old) s3.mem).count+((s3.mem.weaks tr l).foldl (brkR tr.old) s3.mem).free=_
  rw[hbr.same.count,hbr.same.free]
 have hcf5:=Sp.ended_cf ({s3 with mem:=(s3.mem.weaks tr l).foldl (brkR tr.old) s3.mem}:Sp) tr
 have t:Traced ⟨s0.mem,sz0,tr.old,T,(· ∈roots)⟩ g s0.mem.free fw al sz tr s3 _ _:=⟨S,t3,fin,hroots,hbr.toBroke,hen,B,I.marked⟩
 refine⟨fw,al,sz,t,hbr,hres,⟨hok5,hev5,t.sound,t.marks⟩,λw hw=>?_,by omega⟩
 rw[hres]at hw
 obtain⟨v,hv,rfl⟩:=List.mem_map.1 hw
 obtain⟨v1,v2⟩:=hr v hv
 exact⟨t3.fw_word S v1,(t.good v1 v2 (hroots v hv)).1⟩
