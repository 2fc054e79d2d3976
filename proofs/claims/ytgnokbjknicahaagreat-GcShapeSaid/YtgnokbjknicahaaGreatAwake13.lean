/-
 A heap of pairs alone, in generation 0: a pair more. Proves nothing of any one statement.
-/
import Derived.Test.YtgnokbjknicahaaGreatGsA
set_option linter.unusedVariables false
set_option linter.unusedSimpArgs false
namespace Go.Proofs.YtgnokbjknicahaaGreat
open Go

theorem young_free{m:Mem}(ok:MemOK m)(g:Int):(m.nyoung g:Int)+m.free<=m.limit:=by
 rw[ok.free]
 unfold Mem.nyoung Mem.takenTo Mem.nfree
 rw[<-List.countP_eq_length_filter]
 have h:=countP_two (λi=>decide (0< (m.seg i).taken) && ((gensTo g).isEmpty || decide ((m.seg i).gen∈gensTo g))) (λk=>(m.seg k).taken==0) (List.range m.limit) (λx _ h1 h2=>by
  simp only[Bool.and_eq_true,decide_eq_true_eq,beq_iff_eq]at h1 h2
  omega)
 have h2:=List.countP_le_length (p:=λx=>(decide (0< (m.seg x).taken) && ((gensTo g).isEmpty || decide ((m.seg x).gen∈gensTo g))) || ((m.seg x).taken==0)) (l:=List.range m.limit)
 rw[List.length_range]at h2
 omega
def Plain0(m:Mem):Prop:= ∀k,(m.seg k).taken≠0->(m.seg k).gen=0/\(m.seg k).kind=0
theorem cons_step{s:Sp}{sz:Int->Nat}(I:Inv s sz)(hP:Plain0 s.mem)(hf:1<=s.mem.free){x y:Int}(hx:IsWord x)(hy:IsWord y)(gx:Good s.mem sz x)(gy:Good s.mem sz y):
  ∃sz',(s.put 0 1 [x,y]).2.2=0/\Inv (s.put 0 1 [x,y]).1 sz'/\Lift s.mem sz (s.put 0 1 [x,y]).1.mem sz'/\Pr (s.put 0 1 [x,y]).1.mem (s.put 0 1 [x,y]).2.1 1 x y/\Made s.mem (s.put 0 1 [x,y]).1.mem (s.put 0 1 [x,y]).2.1 1/\Plain0 (s.put 0 1 [x,y]).1.mem/\Good (s.put 0 1 [x,y]).1.mem sz' (s.put 0 1 [x,y]).2.1/\(s.put 0 1 [x,y]).1.cf=s.cf:=by
 have hal:(s.alloc 0 0 (([x,y]:List Int).length:Nat)).2.2=0:=Sp.alloc_can I.ok ⟨by omega,.inl ⟨by omega,rfl⟩⟩ hf
 have hall: ∀w∈([x,y]:List Int),IsWord w:=λw hw=>by simp at hw;rcases hw with rfl | rfl<;>assumption
 have hgg: ∀w∈([x,y]:List Int),Good s.mem sz w:=λw hw=>by simp at hw;rcases hw with rfl | rfl<;>assumption
 have hc:=Sp.cons_ok (tag:=1) I.ok I.even (.inl rfl) hx hy hf
 rw[show(1:Int)-1=0 from rfl]at hc
 obtain⟨c1,c2,c3,c4,c5⟩:=hc
 obtain⟨sz',I',l',g',f'⟩:=I.put (kind:=0) (tag:=1) (ws:=[x,y]) (by decide) rfl hall (λ_=>rfl) (λh=>by omega) (λ_=>hgg)
 refine⟨sz',c1,I',l',c2,c4,?_,(g' c1).2,f'⟩
 obtain⟨a,e1,gr,e2,_⟩:=Sp.put_ok (tag:=1) I.ok (alloc_may' hal) (.inl rfl) hall hal
 have sm:=Same'.sets [x,y] (s.alloc 0 0 (([x,y]:List Int).length:Nat)).1.mem a
 intro k hk
 rw[e2]at hk⊢
 obtain⟨q1,q2,q3,q4,_⟩:=sm.seg k
 rw[q4]at hk
 rw[q1,q2]
 by_cases hka:k=(a / 64).toNat
 ·rw[hka];exact⟨gr.new.2.1,gr.new.2.2.1⟩
 ·rw[gr.others k hka]at hk⊢
  exact hP k hk

section
variable {s0 s3 s4 s5:Sp} {sz0 sz:Int->Nat} {g T:Int} {tr:Tr} {roots young:List Int} {fw:Int->Option Int} {al:List Int}
theorem Colled.alls(C:Colled s0 sz0 g T tr roots young fw al sz s3 s4 s5){L:List Int}(hnd:L.Nodup)(hold: ∀x,s0.mem.used x->tr.old (x / 64).toNat=true)(hrt: ∀v∈roots,isOldW tr.old v->v / 8∈L)
  (hstep: ∀a∈L,∀i:Nat,i<sz0 a->s0.mem.strong (a+i)->isOldW tr.old (s0.mem.get (a+i))->s0.mem.get (a+i) / 8∈L) (hre: ∀a∈L,Reach ⟨s0.mem,sz0,tr.old,T,(· ∈roots)⟩ a):(al.map sz0).sum=(L.map sz0).sum:=by
 have key: ∀a,Reach ⟨s0.mem,sz0,tr.old,T,(· ∈roots)⟩ a->a∈L:=λa h=>by
  induction h with
  | root h ho=>exact hrt _ h ho
  | older hu hn hs ho=>have:=hold _ hu;rw[show tr.old _=false from hn]at this;cases this
  | step h hi hs ho ih=>exact hstep _ ih _ hi hs ho
 have t:=C.t
 refine perm_sum sz0 ?_
 rw[List.perm_ext_iff_of_nodup t.tri.olds.nodup hnd]
 intro a
 rw[t.tri.al]
 constructor
 ·rintro⟨b,hb⟩;exact key a (t.tri.reach a b hb)
 ·intro ha;exact t.fin.reach t.S t.tri t.roots (hre a ha)
theorem Colled.plain(C:Colled s0 sz0 g T tr roots young fw al sz s3 s4 s5)(hP:Plain0 s0.mem)(hg:0<=g):s5.mem.words []=((al.map sz0).sum:Nat)/\s5.mem.words [T]=((al.map sz0).sum:Nat)/\ ∀k,k≠T->s5.mem.words [k]=0:=by
 have t:=C.t
 have S:=t.S
 have ok5:=C.inv.ok.mem
 have hold: ∀x,s0.mem.used x->tr.old (x / 64).toNat=true:=λx hx=>by
  have hlt:=S.lt hx
  refine(S.old _ hlt.1).2 ⟨?_,?_⟩
  ·have:=hx.1
   show s0.mem.has _
   rw[show(((x / 64).toNat:Nat):Int)=x / 64 by omega];exact hx.2.1
  ·show(s0.mem.seg (x / 64).toNat).gen<=g
   have:=(hP _ hx.2.1.2.2).1
   omega
 have hgen: ∀x,s5.mem.used x->s5.mem.gAt x=T:=λx hx=>by
  obtain⟨h1,h2⟩:=t.used.1 hx
  rw[(t.kind hx).2]
  rcases t.tri.cover x h1 with hz | ⟨a,b,i,q1,q2,q3⟩
  ·have:=hold x hz;rw[show tr.old _=false from h2]at this;cases this
  ·have im:=(t.tri.img a b q1).2
   have hf:=im.fit
   have:=im.gen
   unfold Mem.gAt at this⊢
   rw[q3,show(b+(i:Int)) / 64=b / 64 by omega];exact this
 have ha:s0.mem.above g=0:=by
  unfold Mem.above Mem.cnt
  rw[List.countP_eq_zero]
  intro x _
  simp only[Bool.and_eq_true,decide_eq_true_eq]
  rintro⟨hu,hgt⟩
  have:=(hP _ hu.2.1.2.2).1
  unfold Mem.gAt at hgt
  omega
 have hw:=t.words ok5
 have hw0:s5.mem.words []=((al.map sz0).sum:Nat):=by
  rw[hw]
  show((s0.mem.above g:Nat):Int)+_=_
  rw[ha];simp
 refine⟨hw0,?_,λk hk=>?_⟩
 ·rw[<-hw0,Mem.words_cnt ok5,Mem.words_cnt ok5]
  refine congrArg Nat.cast (Mem.cnt_congr λx=>?_)
  constructor
  ·rintro⟨hu,_⟩;exact⟨hu,by simp⟩
  ·rintro⟨hu,_⟩;exact⟨hu,by simp[hgen x hu]⟩
 ·rw[Mem.words_cnt ok5]
  have:s5.mem.cnt (λx=>decide (([k]:List Int)=[]\/s5.mem.gAt x∈[k]))=0:=by
   unfold Mem.cnt
   rw[List.countP_eq_zero]
   intro x _
   simp only[Bool.and_eq_true,decide_eq_true_eq,List.mem_singleton,reduceCtorEq,false_or]
   rintro⟨hu,hgk⟩
   rw[hgen _ hu]at hgk
   exact hk hgk.symm
  rw[this];rfl
end

structure PW (s:Sp) (sz:Int->Nat) (l:List Int) (n:Nat):Prop where
 inv:Inv s sz
 plain:Plain0 s.mem
 lim:s.mem.limit=200
 cf:s.cf=200
 fre:64*(200-s.mem.free)+s.fill 0 0<=4*n+64/\(s.cur 0 0=0->s.mem.free=200)
 ch: ∀(i:Nat) (h:i<l.length),Pr s.mem l[i] 1 8 (l.getD (i+1) 20)
 nod:(l.map (· / 8)).Nodup
 good: ∀w∈l,Good s.mem sz w
theorem PW.tail{s:Sp}{sz:Int->Nat}{w:Int}{l:List Int}{n:Nat}(h:PW s sz (w::l) n):PW s sz l n:=
 ⟨h.inv,h.plain,h.lim,h.cf,h.fre,λi hi=>by have:=h.ch (i+1) (by simp;omega);simpa using this,(List.nodup_cons.1 (by simpa using h.nod)).2,λv hv=>h.good v (by simp[hv])⟩
theorem good20(m:Mem)(sz:Int->Nat):Good m sz 20:=⟨by decide,λh=>absurd h (by decide)⟩
theorem good8(m:Mem)(sz:Int->Nat):Good m sz 8:=⟨by decide,λh=>absurd h (by decide)⟩
theorem PW.free{s:Sp}{sz:Int->Nat}{l:List Int}{n:Nat}(h:PW s sz l n)(hn:n<=103):193<=s.mem.free/\s.mem.nyoung 0<=7:=by
 have h1:=h.fre.1
 have h2:=Sp.fill_rng h.inv.ok 0 0
 have h3:=young_free h.inv.ok.mem 0
 have h4:=h.lim
 omega
theorem PW.root{s:Sp}{sz:Int->Nat}{l:List Int}{n:Nat}(h:PW s sz l n):IsWord (l.headD 20)/\Good s.mem sz (l.headD 20):=by
 cases l with
 | nil=>exact⟨by decide,good20 _ _⟩
 | cons w l=>exact⟨(h.ch 0 (by simp)).word,h.good w (by simp)⟩
theorem PW.cons{s:Sp}{sz:Int->Nat}{l:List Int}{n:Nat}(h:PW s sz l n)(hn:n<=102): ∃sz',(s.put 0 1 [8,l.headD 20]).2.2=0/\PW (s.put 0 1 [8,l.headD 20]).1 sz' ((s.put 0 1 [8,l.headD 20]).2.1::l) (n+1):=by
 obtain⟨hf,_⟩:=h.free (by omega)
 obtain⟨r1,r2⟩:=h.root
 obtain⟨sz',c1,I',l',p',m',P',g',cf'⟩:=cons_step h.inv h.plain (by omega) (x:=8) (y:=l.headD 20) (by decide) r1 (good8 _ _) r2
 have hal:(s.alloc 0 0 (([8,l.headD 20]:List Int).length:Nat)).2.2=0:=Sp.alloc_can h.inv.ok ⟨by omega,.inl ⟨by omega,rfl⟩⟩ (by omega)
 have hput:(s.put 0 1 [8,l.headD 20]).1={(s.alloc 0 0 (([8,l.headD 20]:List Int).length:Nat)).1 with mem:=(s.alloc 0 0 (([8,l.headD 20]:List Int).length:Nat)).1.mem.sets (s.alloc 0 0 (([8,l.headD 20]:List Int).length:Nat)).2.1 [8,l.headD 20]}:=by
  unfold Sp.put;rw[if_pos hal]
 obtain⟨d,d1,d2,_,d4⟩:=Sp.alloc_fill h.inv.ok hal
 have sm:=Same'.sets [8,l.headD 20] (s.alloc 0 0 (([8,l.headD 20]:List Int).length:Nat)).1.mem (s.alloc 0 0 (([8,l.headD 20]:List Int).length:Nat)).2.1
 have hfill:=Sp.fill_same sm 0 0
 refine⟨sz',c1,I',P',m'.keep.limit.trans h.lim,cf'.trans h.cf,?_,?_,?_,?_⟩
 ·have f1:=h.fre.1
  have f2:=h.fre.2
  have f3:=Sp.fill_rng h.inv.ok 0 0
  have e1:(s.put 0 1 [8,l.headD 20]).1.mem.free=s.mem.free-d:=by rw[hput];exact sm.free.trans d1
  have e2:(s.put 0 1 [8,l.headD 20]).1.fill 0 0=(s.alloc 0 0 (([8,l.headD 20]:List Int).length:Nat)).1.fill 0 0:=by rw[hput];exact hfill
  have e3:(s.put 0 1 [8,l.headD 20]).1.cur 0 0≠0:=by rw[hput];exact d2
  refine⟨?_,λq=>absurd q e3⟩
  rw[e1,e2]
  have k0:(0:Int).toNat=0:=rfl
  rw[k0]at d4
  have hl2:((([8,l.headD 20]:List Int).length:Nat):Int)=2:=rfl
  rw[hl2]at d4⊢
  have k00:((0:Nat):Int)=0:=rfl
  rcases d4 with⟨q1,q2,q3⟩ | ⟨q1,q2,q3⟩
  ·rw[q3];omega
  ·rw[q3]
   rcases q2 with q2 | q2
   ·have:=f2 q2;omega
   ·omega
 ·intro i hi
  cases i with
  | zero=>
   have:l.getD 0 20=l.headD 20:=by cases l<;>rfl
   show Pr (s.put 0 1 [8,l.headD 20]).1.mem (s.put 0 1 [8,l.headD 20]).2.1 1 8 (l.getD 0 20)
   rw[this];exact p'
  | succ i=>
   have:=(h.ch i (by simpa using hi)).keep m'.keep
   simpa using this
 ·rw[List.map_cons,List.nodup_cons]
  refine⟨λhm=>?_,h.nod⟩
  obtain⟨v,hv,e⟩:=List.mem_map.1 hm
  obtain⟨j,hj,rfl⟩:=List.getElem_of_mem hv
  have pj:=h.ch j hj
  have hu:=pj.at'.used pj.word
  have:=m'.fresh 0 (by decide)
  rw[show((0:Nat):Int)=0 from rfl,Int.add_zero]at this
  exact this (by rw[<-e];exact hu)
 ·intro w hw
  rcases List.mem_cons.1 hw with rfl | hw
  ·exact g'
  ·exact l' w (h.good w hw)
theorem awake13_law{s:Sp}{sz:Int->Nat}{a b c:Int}{n:Nat}(h:PW s sz [c,b,a] n){tr:Tr}{young:List Int}{fw:Int->Option Int}{al:List Int}{sz':Int->Nat}{s3 s4 s5:Sp}(C:Colled s sz 0 1 tr [c] young fw al sz' s3 s4 s5):
  ∃r,young=[r]/\IsWord r/\s5.mem.words [0]=0/\s5.mem.words [1]=6/\s5.mem.halfE r 0=0/\s5.mem.get (r / 8+0)=8:=by
 have t:=C.t
 have S:=t.S
 have I:=h.inv
 have hc:Pr s.mem c 1 8 b:=by have:=h.ch 0 (by simp);simpa using this
 have hb:Pr s.mem b 1 8 a:=by have:=h.ch 1 (by simp);simpa using this
 have ha:Pr s.mem a 1 8 20:=by have:=h.ch 2 (by simp);simpa using this
 have gc:=h.good c (by simp)
 have gb:=h.good b (by simp)
 have ga:=h.good a (by simp)
 have hold: ∀x,s.mem.used x->tr.old (x / 64).toNat=true/\s.mem.kAt x=0:=λx hx=>by
  have hlt:=S.lt hx
  obtain⟨g1,g2⟩:=h.plain _ hx.2.1.2.2
  refine⟨(S.old _ hlt.1).2 ⟨?_,?_⟩,g2⟩
  ·have:=hx.1
   show s.mem.has _
   rw[show(((x / 64).toNat:Nat):Int)=x / 64 by omega];exact hx.2.1
  ·show(s.mem.seg (x / 64).toNat).gen<=0
   omega
 have oldOf: ∀{w d:Int},Pr s.mem w 1 8 d->Good s.mem sz w->isOldW tr.old w/\sz (w / 8)=2/\isTag w/\s.mem.strong (w / 8+(1:Nat)):=λ{w d} p gw=>by
  have hu:=p.at'.used p.word
  have o:isOldW tr.old w:=⟨p.at'.1,by have:=p.at'.2.1;omega,(hold _ hu).1⟩
  refine⟨o,(I.sound.two _ (gw.2 (old_tag o)).1 (by rw[(hold _ hu).2];decide)).1,old_tag o,?_⟩
  have hk:=(hold _ p.used).2
  exact⟨by rw[show((1:Nat):Int)=1 from rfl,hk];decide,.inl (by rw[show((1:Nat):Int)=1 from rfl,hk];decide)⟩
 obtain⟨oc,zc,tc,sc⟩:=oldOf hc gc
 obtain⟨ob,zb,tb,sb⟩:=oldOf hb gb
 obtain⟨oa,za,ta,sa⟩:=oldOf ha ga
 have no8: ¬isOldW tr.old 8:=λq=>by have:=q.1.1;omega
 have no20: ¬isOldW tr.old 20:=λq=>by have:=q.1.1;omega
 have rc:Reach ⟨s.mem,sz,tr.old,1,(· ∈[c])⟩ (c / 8):=.root (by show c∈[c];simp) oc
 have rb:Reach ⟨s.mem,sz,tr.old,1,(· ∈[c])⟩ (b / 8):=by
  have:=Reach.step rc (i:=1) (by show 1<sz (c / 8);omega) sc (by show isOldW tr.old (s.mem.get (c / 8+(1:Nat)));rw[show((1:Nat):Int)=1 from rfl,hc.cdr];exact ob)
  rw[show(TZ.m ⟨s.mem,sz,tr.old,1,(· ∈[c])⟩).get (c / 8+(1:Nat))=b from hc.cdr]at this;exact this
 have ra:Reach ⟨s.mem,sz,tr.old,1,(· ∈[c])⟩ (a / 8):=by
  have:=Reach.step rb (i:=1) (by show 1<sz (b / 8);omega) sb (by show isOldW tr.old (s.mem.get (b / 8+(1:Nat)));rw[show((1:Nat):Int)=1 from rfl,hb.cdr];exact oa)
  rw[show(TZ.m ⟨s.mem,sz,tr.old,1,(· ∈[c])⟩).get (b / 8+(1:Nat))=a from hb.cdr]at this;exact this
 have hsum:=C.alls (L:=[c / 8,b / 8,a / 8]) h.nod (λx hx=>(hold x hx).1) (λv hv _=>by simp at hv;rw[hv];simp) (λy hy i hi _ ho=>by
  have two: ∀{w d:Int},Pr s.mem w 1 8 d->sz (w / 8)=2->y=w / 8->(isOldW tr.old d->d / 8∈[c / 8,b / 8,a / 8])->s.mem.get (y+i) / 8∈[c / 8,b / 8,a / 8]:=λ{w d} p z e hd=>by
   rw[e]at hi ho⊢
   rw[z]at hi
   match i,hi with
   | 0,_=>rw[show w / 8+((0:Nat):Int)=w / 8 by omega,p.car]at ho;exact absurd ho no8
   | 1,_=>
    rw[show w / 8+((1:Nat):Int)=w / 8+1 by omega,p.cdr]at ho⊢
    exact hd ho
  simp only[List.mem_cons,List.not_mem_nil,or_false]at hy
  rcases hy with e | e | e
  ·exact two hc zc e (λ_=>by simp)
  ·exact two hb zb e (λ_=>by simp)
  ·exact two ha za e (λq=>absurd q no20)) (λy hy=>by
  simp only[List.mem_cons,List.not_mem_nil,or_false]at hy
  rcases hy with e | e | e
  ·rw[e];exact rc
  ·rw[e];exact rb
  ·rw[e];exact ra)
 obtain⟨_,w1,w0⟩:=C.plain h.plain (by decide)
 have h6:((al.map sz).sum:Nat)=6:=by rw[hsum];simp[zc,zb,za]
 obtain⟨g1,g2,g3⟩:=t.good hc.word gc (t.roots c (by show c∈[c];simp))
 obtain⟨u1,u2,u3,u4⟩:=g2 tc
 have hu0:=hc.at'.used hc.word
 refine⟨Fw tr.old fw c,C.yg,t.tri.fw_word S hc.word,w0 0 (by decide),by rw[w1,h6];rfl,?_,?_⟩
 ·have gy:=C.good (Fw tr.old fw c) (by rw[C.yg];simp)
  have hsz:=C.inv.sound.size C.inv.ok.mem gy.1 gy.2 (by unfold isTag at tc⊢;rw[g3];exact tc)
  have e2:szE tr.old sz' (Fw tr.old fw c / 8)=2:=u2.trans zc
  have hpair:s5.mem.isPair (Fw tr.old fw c):=(isPair_iff (by rw[hsz,e2];decide)).2 (by rw[g3];have:=hc.at'.2.1;omega)
  unfold Mem.halfE
  rw[if_pos hpair,Int.add_zero,if_pos u1]
 ·rw[Int.add_zero]
  obtain⟨bb,hbb⟩:=t.roots c (by show c∈[c];simp) oc
  have hw:Was ⟨s.mem,sz,tr.old,1,(· ∈[c])⟩ fw (Fw tr.old fw c / 8) 8:=by
   right
   refine⟨c / 8,bb,0,hbb,by show 0<sz (c / 8);omega,?_,?_⟩
   ·rw[Fw_some oc hbb];omega
   ·show 8=s.mem.get (c / 8+(0:Nat))
    rw[show c / 8+((0:Nat):Int)=c / 8 by omega,hc.car]
  have hk:s3.mem.kAt (Fw tr.old fw c / 8)=0:=by
   rw[Fw_some oc hbb,show(bb*8+c % 8) / 8=bb by omega]
   have:=(t.tri.img _ _ hbb).2.kind
   rw[this];exact(hold _ hu0).2
  rcases t.get hw with⟨q,_⟩ | ⟨_,q,_⟩
  ·rw[q,if_neg (by rw[hk];decide)];exact Fw_no no8
  ·rw[hk]at q;exact absurd q (by decide)

theorem fresh_inv{x0:Hp}{l:Nat}(ok1:SpOK x0.sp)(hx:x0=⟨⟨Mem.fresh l,λ_ _=>0⟩,.slice none 0 0,.slice none 0 0,0⟩):Inv x0.sp (λ_=>0)/\Plain0 x0.sp.mem/\x0.sp.mem.free=l/\x0.sp.cf=l/\x0.sp.mem.limit=l/\Bare x0/\x0.sp.cur 0 0=0/\x0.ep=0:=by
 refine⟨⟨ok1,by rw[hx];exact even_fresh _,?_,?_⟩,λk hk=>by rw[hx]at hk;exact absurd rfl hk,by rw[hx];rfl,by rw[hx];show(0:Int)+(l:Nat)=_;omega,by rw[hx];rfl,by rw[hx];exact⟨rfl,rfl⟩,by rw[hx],by rw[hx]⟩
 ·refine⟨λa h=>absurd rfl h,λa b h=>absurd rfl h,λa h=>absurd rfl h,λa h=>absurd rfl h,λa h=>?_⟩
  rw[hx]at h
  exact absurd rfl h.2.1.2.2
 ·intro a h
  rw[hx]at h
  exact absurd rfl h.2.1.2.2
structure AwkSt (H A:zV) (b:Blk) (c:Nat) (x:Hp) (sz:Int->Nat) (l:List Int) (n:Nat) (root:Int):Prop where
 e:Ext H A
 view:View A (some ⟨b.h,0,none⟩) (some (b,x))
 pw:PW x.sp sz l n
 bare:Bare x
 box:A[c]?=some (.cells #[.int .u64 root] 24 (0,0))
 hb: ∀j∈b.all,H.size<=j
 hc:H.size<=c/\c ∉ b.all
theorem AwkSt.cons{H A:zV}{b:Blk}{c n:Nat}{x:Hp}{sz:Int->Nat}{l:List Int}{root:Int}(S:AwkSt H A b c x sz l n root)(hr:root=l.headD 20)(hn:n<=102):
  obj_Heap_Cons.C (some ⟨b.h,0,none⟩) 8 root A (λv A'=> ∃(w:Int) (sz':Int->Nat) (x':Hp),v=.tuple #[.int .u64 w,.int .i64 0]/\AwkSt H A' b c x' sz' (w::l) (n+1) root):=by
 obtain⟨-,hp,ok⟩:=S.view.inv
 have hcf:=S.pw.cf
 obtain⟨sz',c1,P'⟩:=S.pw.cons hn
 obtain⟨r1,r2⟩:=S.pw.root
 subst hr
 refine HC.mono (obj_Cons_c S.view (by decide) r1 (show cntOK (some (b,x))from Sp.cf_count ok (by omega))) ?_
 rintro _ A' ⟨rfl,V',f'⟩
 have hpO:putO (some (b,x)) 0 1 [8,l.headD 20]=some (b,{x with sp:=(x.sp.put 0 1 [8,l.headD 20]).1}):=rfl
 rw[hpO]at V'
 have hown: ∀j∈own (some (b,x)),j∈b.all:=λj hj=>by simp[own]at hj;simp[Blk.all];omega
 refine⟨(x.sp.put 0 1 [8,l.headD 20]).2.1,sz',_,?_,S.e.fr_trans f' (λj hj=>S.hb j (hown j hj)),V',P',S.bare,f'.get (λq=>S.hc.2 (hown _ q)) S.box,S.hb,S.hc⟩
 show Value.tuple #[.int .u64 (x.sp.put 0 1 [8,l.headD 20]).2.1,.int .i64 (x.sp.put 0 1 [8,l.headD 20]).2.2]=_
 rw[c1]
theorem AwkSt.tail{H A:zV}{b:Blk}{c n:Nat}{x:Hp}{sz:Int->Nat}{l:List Int}{w root:Int}(S:AwkSt H A b c x sz (w::l) n root):AwkSt H A b c x sz l n root:=⟨S.e,S.view,S.pw.tail,S.bare,S.box,S.hb,S.hc⟩
set_option maxRecDepth 100000 in
theorem awake13_c{H:zV}:morainelaw13_awake.C H (λv H'=>v=.bool true/\Ext H H'):=by
 refine HC.via λR hR=>morainelaw13_awake.link ?_
 unfold morainelaw13_awake.pt zY
 refine HC.mono (obj_New_c (limit:=200) (by decide)) ?_
 rintro _ H1 (⟨hc,rfl,e1⟩ | ⟨hc,b,x0,rfl,V1,hx,e1,hb1⟩)
 ·exact absurd (by decide) hc
 refine⟨_,_,rfl,?_⟩
 rw[if_pos rfl,onPtr_some]
 obtain⟨-,hp1,ok1⟩:=V1.inv
 obtain⟨I0,P0,F0,C0,L0,B0,K0,E0⟩:=fresh_inv ok1 hx
 intro c H2 hc2 hH2
 obtain⟨hcp,hs⟩:=box_new (n:=1) (vs:=[.int .u64 20]) hc2 hH2 rfl rfl
 refine⟨hcp,λH3 hH3=>?_⟩
 obtain⟨g3,e3⟩:=hs H3 hH3
 have hb1s:=hp1.lt
 have W0:AwkSt H H3 b c x0 (λ_=>0) [] 0 20:=⟨e1.trans e3,V1.ext e3,⟨I0,P0,L0,C0,⟨by
  have hf:=Sp.fill_rng ok1 0 0
  have:x0.sp.fill 0 0=0:=by unfold Sp.fill;rw[if_pos (by simpa using K0)]
  rw[this,F0];decide,λ_=>F0⟩,λi h=>by simp at h,List.nodup_nil,λw h=>by simp at h⟩,B0,g3,hb1,by have:=e1.size;omega,λq=>by have:=hb1s c q;omega⟩
 refine⟨λi A=>(0<=i/\i<=3)/\ ∃(x:Hp) (sz:Int->Nat) (l:List Int),l.length=i.toNat/\AwkSt H A b c x sz l i.toNat (l.headD 20),λi _=>(3-i).toNat,⟨⟨by decide,by decide⟩,x0,_,[],rfl,W0⟩,?_⟩
 rintro i A ⟨hi,x,sz,l,hl,S⟩
 by_cases h3:i<3
 ·rw[if_pos h3]
  refine⟨_,hat_blk S.box,?_⟩
  refine HC.mono (S.cons rfl (by omega)) ?_
  rintro _ A2 ⟨w,sz',x',rfl,S2⟩
  obtain⟨-,hp2,-⟩:=S2.view.inv
  obtain⟨hcp2,hs2⟩:=box_set (n:=1) (vs:=[.int .u64 w]) S2.box rfl rfl
  refine⟨_,_,rfl,hcp2,λA3 hA3=>?_⟩
  obtain⟨g4,f4⟩:=hs2 A3 hA3
  have hd:(3-(i+1)).toNat< (3-i).toNat:=by omega
  rw[w64 (n:=i+1) (by omega)]
  have hcb: ∀j∈[c],j ∉ b.all:=λj hj=>by simp at hj;rw[hj];exact S2.hc.2
  refine⟨⟨⟨by omega,by omega⟩,x',sz',w::l,by simp;omega,S2.e.fr_trans f4 (λj hj=>by simp at hj;rw[hj];exact S2.hc.1),.real (hp2.keep f4 hcb) S2.pw.inv.ok,?_,S2.bare,g4,S2.hb,S2.hc⟩,hd⟩
  have:=S2.pw
  rw[show(i+1).toNat=i.toNat+1 by omega];exact this
 rw[if_neg h3]
 obtain rfl:i=3:=by omega
 match l,hl with
 | [r3,r2,r1],_=>
 have S':AwkSt H A b c x sz [r3,r2,r1] 3 r3:=S
 refine⟨λj A=>(0<=j/\j<=100)/\ ∃(x:Hp) (sz:Int->Nat),AwkSt H A b c x sz [r3,r2,r1] (3+j.toNat) r3,λj _=>(100-j).toNat,⟨⟨by decide,by decide⟩,x,sz,S'⟩,?_⟩
 rintro j A5 ⟨hj,x5,sz5,S5⟩
 by_cases h100:j<100
 ·rw[if_pos h100]
  refine⟨_,hat_blk S5.box,?_⟩
  refine HC.mono (S5.cons rfl (by omega)) ?_
  rintro _ A6 ⟨w,sz',x',rfl,S6⟩
  have hd:(100-(j+1)).toNat< (100-j).toNat:=by omega
  refine⟨_,_,rfl,?_⟩
  rw[w64 (n:=j+1) (by omega)]
  refine⟨⟨⟨by omega,by omega⟩,x',sz',?_⟩,hd⟩
  have:=S6.tail
  rw[show 3+(j+1).toNat=3+j.toNat+1 by omega];exact this
 rw[if_neg h100]
 obtain rfl:j=100:=by omega
 intro c9 H9 hc9 hH9
 have e9:Ext A5 H9:=Ext.push' hH9
 have g9:=push_get hc9 hH9
 obtain⟨-,hp9,ok9⟩:=(S5.view.ext e9).inv
 obtain⟨hf1,hf2⟩:=S5.pw.free (by decide)
 have hcf:=S5.pw.cf
 have hlt5:=hp9.lt
 have z9:=e9.size
 have hst:startE x5.sp 0 1 1=0:=by
  unfold startE
  rw[if_neg (by decide),if_neg (by omega)]
 have hown:Own H9 24 1 (some ⟨c,0,none⟩) ([r3]:List Int).length 1 (wvs [r3]):=⟨rfl,_,e9.get S5.box,rfl,Nat.le_refl _,rfl,λj hj=>by
  obtain rfl:j=0:=Nat.lt_one_iff.1 hj
  rfl⟩
 have hbc:=lt_size (e9.get S5.box)
 obtain⟨-,hp5,-⟩:=S5.view.inv
 refine HC.mono (gc_Collect_c (k:=0) (rB:=some ⟨c,0,none⟩) (roots:=[r3]) hp9 S5.pw.inv (by omega) S5.bare.1 S5.bare.2 (by decide) (by decide) hown (λj hj=>by simp at hj;rw[hj];exact S5.hc.2)
  (show SrcAt H9 (some ⟨c9,0,none⟩) (ptrs 0 ⟨c,0,none⟩ 1)from rowAt_blk g9 _ 0 0 (λj hj=>by
   have hj':j<1:=hj
   obtain rfl:j=0:=by omega
   rfl)) rfl (λj hj=>by
   simp at hj
   rw[hj]
   exact⟨λq=>by have:=hp5.lt c9 q;omega,λq=>by have:=lt_size S5.box;simp at q;omega,lt_size g9⟩) (λw hw=>by simp at hw;rw[hw];exact S5.pw.root) (by decide)) ?_
 rintro v10 H10 ⟨-,hyes⟩
 obtain⟨rfl,young,fw,al,sz',tr,s3,s4,s5,W⟩:=hyes hst
 obtain⟨r,rfl,wr,w0,w1,a1,a2⟩:=awake13_law S5.pw W.col
 refine⟨_,rfl,r,?_,?_⟩
 ·have:=W.own.src
  have h2:=rowAt_hat (show RowAt H10 ⟨c,0,none⟩ 0 (wvs [r])from this) 0 (.int .u64 r) rfl
  rw[addr_add_mk]at h2
  exact h2
 have ok5:=W.col.inv.ok
 obtain⟨X,hX⟩: ∃X:Hp,X={x5 with sp:=s5,ep:=IntKind.wrap .u64 (x5.ep+1)}:=⟨_,rfl⟩
 have hpX:=W.hp
 rw[<-hX]at hpX
 have hsX:X.sp=s5:=by rw[hX]
 have okX:SpOK X.sp:=by rw[hsX];exact ok5
 have baX:Bare X:=by rw[hX];exact S5.bare
 rw[<-hsX]at w0 w1 a1 a2
 have V10:View H10 (some ⟨b.h,0,none⟩) (some (b,X)):=.real hpX okX
 have hmo:mof (some (b,X))=X.sp.mem:=rfl
 refine HC.mono (obj_Car_c V10 wr) ?_
 rintro _ H11 ⟨rfl,e11⟩
 refine⟨8,0,by rw[hmo,a1,if_pos rfl,a2],?_⟩
 rw[if_pos rfl]
 have hp11:=hpX.ext e11
 refine⟨_,hp11.hPtr,_,rfl,_,hp11.cd.cPtr,λb17 H17 hb17 hH17=>?_⟩
 have e17:Ext H11 H17:=Ext.push' hH17
 have hp17:=hp11.ext e17
 refine HC.mono (space_Words_c (gs:=[0]) hp17.cd.sp okX (show SrcAt H17 (some ⟨b17,0,none⟩) (ivs [0])from⟨by rw[addr_add_mk,hat_blk (push_get hb17 hH17)];rfl,trivial⟩) rfl (by decide)) ?_
 rintro _ H18 ⟨rfl,e18⟩
 refine⟨_,rfl,?_⟩
 rw[if_pos w0]
 have hp18:=hp17.ext e18
 refine⟨_,hp18.hPtr,_,rfl,_,hp18.cd.cPtr,λb19 H19 hb19 hH19=>?_⟩
 have e19:Ext H18 H19:=Ext.push' hH19
 have hp19:=hp18.ext e19
 refine HC.mono (space_Words_c (gs:=[1]) hp19.cd.sp okX (show SrcAt H19 (some ⟨b19,0,none⟩) (ivs [1])from⟨by rw[addr_add_mk,hat_blk (push_get hb19 hH19)];rfl,trivial⟩) rfl (by decide)) ?_
 rintro _ H20 ⟨rfl,e20⟩
 refine⟨_,rfl,?_⟩
 rw[if_pos w1,if_pos rfl,if_pos rfl]
 have hp20:=hp19.ext e20
 have E20:Ext H10 H20:=(e11.trans e17).trans ((e18.trans e19).trans e20)
 have hcX:X.sp.cf<=100000:=by
  have:=W.col.cf
  rw[hsX];omega
 have IX:Inv X.sp (szE tr.old sz'):=by rw[hsX];exact W.col.inv
 have h4:startE X.sp 4 4 1=1:=by unfold startE;rw[if_pos (by decide)]
 refine HC.mono (gc_Collect_c (k:=0) (rB:=none) (rC:=0) (pB:=none) (roots:=[]) hp20 IX (by omega) baX.1 baX.2 (by decide) (by decide) own_nil (λj hj=>by simp at hj) rfl rfl (λj hj=>by simp at hj) (λw hw=>by simp at hw) (by decide)) ?_
 rintro v21 H21 ⟨hno,-⟩
 obtain⟨rfl,e21⟩:=hno (by rw[h4];decide)
 refine⟨_,rfl,hR _ _ ⟨by rw[h4];rfl,?_⟩⟩
 have E10:Ext H H10:=(S5.e.trans e9).fr_trans W.fr (λj hj=>by
  rcases List.mem_append.1 hj with q | q
  ·exact S5.hb j q
  ·simp at q;rw[q];exact S5.hc.1)
 exact(E10.trans E20).trans e21
