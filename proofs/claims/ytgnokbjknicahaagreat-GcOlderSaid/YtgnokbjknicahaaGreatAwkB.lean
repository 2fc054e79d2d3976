/-
 Examples of collections in plain words: a heap of pairs alone, in generation 0. Proves nothing of any one statement.
-/
import Derived.Test.YtgnokbjknicahaaGreatAwkP
import Derived.Test.YtgnokbjknicahaaGreatGcI
import Derived.Test.YtgnokbjknicahaaGreatGcW
set_option linter.unusedVariables false
set_option linter.unusedSimpArgs false
namespace Go.Proofs.YtgnokbjknicahaaGreat
open Go

section
variable {s0 s3 s4 s5:Sp} {sz0 sz:Int->Nat} {g T:Int} {tr:Tr} {roots young:List Int} {fw:Int->Option Int} {al:List Int}
theorem Colled.alls(C:Colled s0 sz0 g T tr roots young fw al sz s3 s4 s5){L:List Int}(hnd:L.Nodup)(hold: ∀x,s0.mem.used x->tr.old (x / 64).toNat=true)(hrt: ∀v∈roots,isOldW tr.old v->v / 8∈L)
  (hstep: ∀a∈L,∀i:Nat,i<sz0 a->s0.mem.strong (a+i)->isOldW tr.old (s0.mem.get (a+i))->s0.mem.get (a+i) / 8∈L) (hre: ∀a∈L,Reach ⟨s0.mem,sz0,tr.old,T,(· ∈roots)⟩ a):(al.map sz0).sum=(L.map sz0).sum:=by
 have key: ∀a,Reach ⟨s0.mem,sz0,tr.old,T,(· ∈roots)⟩ a->a∈L:=λa h=>by
  induction h with
  | root h ho=>exact hrt _ h ho
  | older hu hn hs ho=>have:=hold _ hu;rw[show tr.old _=false from hn]at this;cases this
  | step h hi hs ho ih=>exact hstep _ ih _ hi hs ho
 have t:=C.t
 refine perm_sum sz0 ?_
 rw[List.perm_ext_iff_of_nodup t.tri.olds.nodup hnd]
 intro a
 rw[t.tri.al]
 constructor
 ·rintro⟨b,hb⟩;exact key a (t.tri.reach a b hb)
 ·intro ha;exact t.fin.reach t.S t.tri t.roots (hre a ha)
theorem Colled.plain(C:Colled s0 sz0 g T tr roots young fw al sz s3 s4 s5)(hP:Plain0 s0.mem)(hg:0<=g):s5.mem.words []=((al.map sz0).sum:Nat)/\s5.mem.words [T]=((al.map sz0).sum:Nat)/\ ∀k,k≠T->s5.mem.words [k]=0:=by
 have t:=C.t
 have S:=t.S
 have ok5:=C.inv.ok.mem
 have hold: ∀x,s0.mem.used x->tr.old (x / 64).toNat=true:=λx hx=>by
  have hlt:=S.lt hx
  refine(S.old _ hlt.1).2 ⟨?_,?_⟩
  ·have:=hx.1
   show s0.mem.has _
   rw[show(((x / 64).toNat:Nat):Int)=x / 64 by omega];exact hx.2.1
  ·show(s0.mem.seg (x / 64).toNat).gen<=g
   have:=(hP _ hx.2.1.2.2).1
   omega
 have hgen: ∀x,s5.mem.used x->s5.mem.gAt x=T:=λx hx=>by
  obtain⟨h1,h2⟩:=t.used.1 hx
  rw[(t.kind hx).2]
  rcases t.tri.cover x h1 with hz | ⟨a,b,i,q1,q2,q3⟩
  ·have:=hold x hz;rw[show tr.old _=false from h2]at this;cases this
  ·have im:=(t.tri.img a b q1).2
   have hf:=im.fit
   have:=im.gen
   unfold Mem.gAt at this⊢
   rw[q3,show(b+(i:Int)) / 64=b / 64 by omega];exact this
 have ha:s0.mem.above g=0:=by
  unfold Mem.above Mem.cnt
  rw[List.countP_eq_zero]
  intro x _
  simp only[Bool.and_eq_true,decide_eq_true_eq]
  rintro⟨hu,hgt⟩
  have:=(hP _ hu.2.1.2.2).1
  unfold Mem.gAt at hgt
  omega
 have hw:=t.words ok5
 have hw0:s5.mem.words []=((al.map sz0).sum:Nat):=by
  rw[hw]
  show((s0.mem.above g:Nat):Int)+_=_
  rw[ha];simp
 refine⟨hw0,?_,λk hk=>?_⟩
 ·rw[<-hw0,Mem.words_cnt ok5,Mem.words_cnt ok5]
  refine congrArg Nat.cast (Mem.cnt_congr λx=>?_)
  constructor
  ·rintro⟨hu,_⟩;exact⟨hu,by simp⟩
  ·rintro⟨hu,_⟩;exact⟨hu,by simp[hgen x hu]⟩
 ·rw[Mem.words_cnt ok5]
  have:s5.mem.cnt (λx=>decide (([k]:List Int)=[]\/s5.mem.gAt x∈[k]))=0:=by
   unfold Mem.cnt
   rw[List.countP_eq_zero]
   intro x _
   simp only[Bool.and_eq_true,decide_eq_true_eq,List.mem_singleton,reduceCtorEq,false_or]
   rintro⟨hu,hgk⟩
   rw[hgen _ hu]at hgk
   exact hk hgk.symm
  rw[this];rfl
end

structure PW (s:Sp) (sz:Int->Nat) (l:List Int) (n:Nat):Prop where
 inv:Inv s sz
 plain:Plain0 s.mem
 lim:s.mem.limit=200
 cf:s.cf=200
 fre:64*(200-s.mem.free)+s.fill 0 0<=4*n+64/\(s.cur 0 0=0->s.mem.free=200)
 ch: ∀(i:Nat) (h:i<l.length),Pr s.mem l[i] 1 8 (l.getD (i+1) 20)
 nod:(l.map (· / 8)).Nodup
 good: ∀w∈l,Good s.mem sz w
theorem PW.tail{s:Sp}{sz:Int->Nat}{w:Int}{l:List Int}{n:Nat}(h:PW s sz (w::l) n):PW s sz l n:=
 ⟨h.inv,h.plain,h.lim,h.cf,h.fre,λi hi=>by have:=h.ch (i+1) (by simp;omega);simpa using this,(List.nodup_cons.1 (by simpa using h.nod)).2,λv hv=>h.good v (by simp[hv])⟩
theorem good20(m:Mem)(sz:Int->Nat):Good m sz 20:=⟨by decide,λh=>absurd h (by decide)⟩
theorem good8(m:Mem)(sz:Int->Nat):Good m sz 8:=⟨by decide,λh=>absurd h (by decide)⟩
theorem PW.free{s:Sp}{sz:Int->Nat}{l:List Int}{n:Nat}(h:PW s sz l n)(hn:n<=103):193<=s.mem.free/\s.mem.nyoung 0<=7:=by
 have h1:=h.fre.1
 have h2:=Sp.fill_rng h.inv.ok 0 0
 have h3:=young_free h.inv.ok.mem 0
 have h4:=h.lim
 omega
theorem PW.root{s:Sp}{sz:Int->Nat}{l:List Int}{n:Nat}(h:PW s sz l n):IsWord (l.headD 20)/\Good s.mem sz (l.headD 20):=by
 cases l with
 | nil=>exact⟨by decide,good20 _ _⟩
 | cons w l=>exact⟨(h.ch 0 (by simp)).word,h.good w (by simp)⟩
theorem PW.cons{s:Sp}{sz:Int->Nat}{l:List Int}{n:Nat}(h:PW s sz l n)(hn:n<=102): ∃sz',(s.put 0 1 [8,l.headD 20]).2.2=0/\PW (s.put 0 1 [8,l.headD 20]).1 sz' ((s.put 0 1 [8,l.headD 20]).2.1::l) (n+1):=by
 obtain⟨hf,_⟩:=h.free (by omega)
 obtain⟨r1,r2⟩:=h.root
 obtain⟨sz',c1,I',l',p',m',P',g',cf'⟩:=cons_step h.inv h.plain (by omega) (x:=8) (y:=l.headD 20) (by decide) r1 (good8 _ _) r2
 have hal:(s.alloc 0 0 (([8,l.headD 20]:List Int).length:Nat)).2.2=0:=Sp.alloc_can h.inv.ok ⟨by omega,.inl ⟨by omega,rfl⟩⟩ (by omega)
 have hput:(s.put 0 1 [8,l.headD 20]).1={(s.alloc 0 0 (([8,l.headD 20]:List Int).length:Nat)).1 with mem:=(s.alloc 0 0 (([8,l.headD 20]:List Int).length:Nat)).1.mem.sets (s.alloc 0 0 (([8,l.headD 20]:List Int).length:Nat)).2.1 [8,l.headD 20]}:=by
  unfold Sp.put;rw[if_pos hal]
 obtain⟨d,d1,d2,_,d4⟩:=Sp.alloc_fill h.inv.ok hal
 have sm:=Same'.sets [8,l.headD 20] (s.alloc 0 0 (([8,l.headD 20]:List Int).length:Nat)).1.mem (s.alloc 0 0 (([8,l.headD 20]:List Int).length:Nat)).2.1
 have hfill:=Sp.fill_same sm 0 0
 refine⟨sz',c1,I',P',m'.keep.limit.trans h.lim,cf'.trans h.cf,?_,?_,?_,?_⟩
 ·have f1:=h.fre.1
  have f2:=h.fre.2
  have f3:=Sp.fill_rng h.inv.ok 0 0
  have e1:(s.put 0 1 [8,l.headD 20]).1.mem.free=s.mem.free-d:=by rw[hput];exact sm.free.trans d1
  have e2:(s.put 0 1 [8,l.headD 20]).1.fill 0 0=(s.alloc 0 0 (([8,l.headD 20]:List Int).length:Nat)).1.fill 0 0:=by rw[hput];exact hfill
  have e3:(s.put 0 1 [8,l.headD 20]).1.cur 0 0≠0:=by rw[hput];exact d2
  refine⟨?_,λq=>absurd q e3⟩
  rw[e1,e2]
  have k0:(0:Int).toNat=0:=rfl
  rw[k0]at d4
  have hl2:((([8,l.headD 20]:List Int).length:Nat):Int)=2:=rfl
  rw[hl2]at d4⊢
  have k00:((0:Nat):Int)=0:=rfl
  rcases d4 with⟨q1,q2,q3⟩ | ⟨q1,q2,q3⟩
  ·rw[q3];omega
  ·rw[q3]
   rcases q2 with q2 | q2
   ·have:=f2 q2;omega
   ·omega
 ·intro i hi
  cases i with
  | zero=>
   have:l.getD 0 20=l.headD 20:=by cases l<;>rfl
   show Pr (s.put 0 1 [8,l.headD 20]).1.mem (s.put 0 1 [8,l.headD 20]).2.1 1 8 (l.getD 0 20)
   rw[this];exact p'
  | succ i=>
   have:=(h.ch i (by simpa using hi)).keep m'.keep
   simpa using this
 ·rw[List.map_cons,List.nodup_cons]
  refine⟨λhm=>?_,h.nod⟩
  obtain⟨v,hv,e⟩:=List.mem_map.1 hm
  obtain⟨j,hj,rfl⟩:=List.getElem_of_mem hv
  have pj:=h.ch j hj
  have hu:=pj.at'.used pj.word
  have:=m'.fresh 0 (by decide)
  rw[show((0:Nat):Int)=0 from rfl,Int.add_zero]at this
  exact this (by rw[<-e];exact hu)
 ·intro w hw
  rcases List.mem_cons.1 hw with rfl | hw
  ·exact g'
  ·exact l' w (h.good w hw)
theorem awake13_law{s:Sp}{sz:Int->Nat}{a b c:Int}{n:Nat}(h:PW s sz [c,b,a] n){tr:Tr}{young:List Int}{fw:Int->Option Int}{al:List Int}{sz':Int->Nat}{s3 s4 s5:Sp}(C:Colled s sz 0 1 tr [c] young fw al sz' s3 s4 s5):
  ∃r,young=[r]/\IsWord r/\s5.mem.words [0]=0/\s5.mem.words [1]=6/\s5.mem.halfE r 0=0/\s5.mem.get (r / 8+0)=8:=by
 have t:=C.t
 have S:=t.S
 have I:=h.inv
 have hc:Pr s.mem c 1 8 b:=by have:=h.ch 0 (by simp);simpa using this
 have hb:Pr s.mem b 1 8 a:=by have:=h.ch 1 (by simp);simpa using this
 have ha:Pr s.mem a 1 8 20:=by have:=h.ch 2 (by simp);simpa using this
 have gc:=h.good c (by simp)
 have gb:=h.good b (by simp)
 have ga:=h.good a (by simp)
 have hold: ∀x,s.mem.used x->tr.old (x / 64).toNat=true/\s.mem.kAt x=0:=λx hx=>by
  have hlt:=S.lt hx
  obtain⟨g1,g2⟩:=h.plain _ hx.2.1.2.2
  refine⟨(S.old _ hlt.1).2 ⟨?_,?_⟩,g2⟩
  ·have:=hx.1
   show s.mem.has _
   rw[show(((x / 64).toNat:Nat):Int)=x / 64 by omega];exact hx.2.1
  ·show(s.mem.seg (x / 64).toNat).gen<=0
   omega
 have oldOf: ∀{w d:Int},Pr s.mem w 1 8 d->Good s.mem sz w->isOldW tr.old w/\sz (w / 8)=2/\isTag w/\s.mem.strong (w / 8+(1:Nat)):=λ{w d} p gw=>by
  have hu:=p.at'.used p.word
  have o:isOldW tr.old w:=⟨p.at'.1,by have:=p.at'.2.1;omega,(hold _ hu).1⟩
  refine⟨o,(I.sound.two _ (gw.2 (old_tag o)).1 (by rw[(hold _ hu).2];decide)).1,old_tag o,?_⟩
  have hk:=(hold _ p.used).2
  exact⟨by rw[show((1:Nat):Int)=1 from rfl,hk];decide,.inl (by rw[show((1:Nat):Int)=1 from rfl,hk];decide)⟩
 obtain⟨oc,zc,tc,sc⟩:=oldOf hc gc
 obtain⟨ob,zb,tb,sb⟩:=oldOf hb gb
 obtain⟨oa,za,ta,sa⟩:=oldOf ha ga
 have no8: ¬isOldW tr.old 8:=λq=>by have:=q.1.1;omega
 have no20: ¬isOldW tr.old 20:=λq=>by have:=q.1.1;omega
 have rc:Reach ⟨s.mem,sz,tr.old,1,(· ∈[c])⟩ (c / 8):=.root (by show c∈[c];simp) oc
 have rb:Reach ⟨s.mem,sz,tr.old,1,(· ∈[c])⟩ (b / 8):=by
  have:=Reach.step rc (i:=1) (by show 1<sz (c / 8);omega) sc (by show isOldW tr.old (s.mem.get (c / 8+(1:Nat)));rw[show((1:Nat):Int)=1 from rfl,hc.cdr];exact ob)
  rw[show(TZ.m ⟨s.mem,sz,tr.old,1,(· ∈[c])⟩).get (c / 8+(1:Nat))=b from hc.cdr]at this;exact this
 have ra:Reach ⟨s.mem,sz,tr.old,1,(· ∈[c])⟩ (a / 8):=by
  have:=Reach.step rb (i:=1) (by show 1<sz (b / 8);omega) sb (by show isOldW tr.old (s.mem.get (b / 8+(1:Nat)));rw[show((1:Nat):Int)=1 from rfl,hb.cdr];exact oa)
  rw[show(TZ.m ⟨s.mem,sz,tr.old,1,(· ∈[c])⟩).get (b / 8+(1:Nat))=a from hb.cdr]at this;exact this
 have hsum:=C.alls (L:=[c / 8,b / 8,a / 8]) h.nod (λx hx=>(hold x hx).1) (λv hv _=>by simp at hv;rw[hv];simp) (λy hy i hi _ ho=>by
  have two: ∀{w d:Int},Pr s.mem w 1 8 d->sz (w / 8)=2->y=w / 8->(isOldW tr.old d->d / 8∈[c / 8,b / 8,a / 8])->s.mem.get (y+i) / 8∈[c / 8,b / 8,a / 8]:=λ{w d} p z e hd=>by
   rw[e]at hi ho⊢
   rw[z]at hi
   match i,hi with
   | 0,_=>rw[show w / 8+((0:Nat):Int)=w / 8 by omega,p.car]at ho;exact absurd ho no8
   | 1,_=>
    rw[show w / 8+((1:Nat):Int)=w / 8+1 by omega,p.cdr]at ho⊢
    exact hd ho
  simp only[List.mem_cons,List.not_mem_nil,or_false]at hy
  rcases hy with e | e | e
  ·exact two hc zc e (λ_=>by simp)
  ·exact two hb zb e (λ_=>by simp)
  ·exact two ha za e (λq=>absurd q no20)) (λy hy=>by
  simp only[List.mem_cons,List.not_mem_nil,or_false]at hy
  rcases hy with e | e | e
  ·rw[e];exact rc
  ·rw[e];exact rb
  ·rw[e];exact ra)
 obtain⟨_,w1,w0⟩:=C.plain h.plain (by decide)
 have h6:((al.map sz).sum:Nat)=6:=by rw[hsum];simp[zc,zb,za]
 obtain⟨g1,g2,g3⟩:=t.good hc.word gc (t.roots c (by show c∈[c];simp))
 obtain⟨u1,u2,u3,u4⟩:=g2 tc
 have hu0:=hc.at'.used hc.word
 refine⟨Fw tr.old fw c,C.yg,t.tri.fw_word S hc.word,w0 0 (by decide),by rw[w1,h6];rfl,?_,?_⟩
 ·have gy:=C.good (Fw tr.old fw c) (by rw[C.yg];simp)
  have hsz:=C.inv.sound.size C.inv.ok.mem gy.1 gy.2 (by unfold isTag at tc⊢;rw[g3];exact tc)
  have e2:szE tr.old sz' (Fw tr.old fw c / 8)=2:=u2.trans zc
  have hpair:s5.mem.isPair (Fw tr.old fw c):=(isPair_iff (by rw[hsz,e2];decide)).2 (by rw[g3];have:=hc.at'.2.1;omega)
  unfold Mem.halfE
  rw[if_pos hpair,Int.add_zero,if_pos u1]
 ·rw[Int.add_zero]
  obtain⟨bb,hbb⟩:=t.roots c (by show c∈[c];simp) oc
  have hw:Was ⟨s.mem,sz,tr.old,1,(· ∈[c])⟩ fw (Fw tr.old fw c / 8) 8:=by
   right
   refine⟨c / 8,bb,0,hbb,by show 0<sz (c / 8);omega,?_,?_⟩
   ·rw[Fw_some oc hbb];omega
   ·show 8=s.mem.get (c / 8+(0:Nat))
    rw[show c / 8+((0:Nat):Int)=c / 8 by omega,hc.car]
  have hk:s3.mem.kAt (Fw tr.old fw c / 8)=0:=by
   rw[Fw_some oc hbb,show(bb*8+c % 8) / 8=bb by omega]
   have:=(t.tri.img _ _ hbb).2.kind
   rw[this];exact(hold _ hu0).2
  rcases t.get hw with⟨q,_⟩ | ⟨_,q,_⟩
  ·rw[q,if_neg (by rw[hk];decide)];exact Fw_no no8
  ·rw[hk]at q;exact absurd q (by decide)
end Go.Proofs.YtgnokbjknicahaaGreat
