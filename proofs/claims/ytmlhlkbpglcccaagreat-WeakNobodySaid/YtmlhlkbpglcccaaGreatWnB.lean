/-
 A trace puts pairs of its own (trace.Put), and a thing behind a guardian's queue (weak.puts); a trace where nothing is old any more. Proves nothing of any one statement.
-/
import Derived.Test.YtmlhlkbpglcccaaGreatTrF
import Derived.Test.YtmlhlkbpglcccaaGreatWend
set_option linter.unusedVariables false
set_option linter.unusedSimpArgs false
namespace Go.Proofs.YtmlhlkbpglcccaaGreat
open Go

theorem fS{A A2 A3:zV}{b:Nat}{cs:Array Value}{T:TypeId}(hb:b=A.size)(hA2:A2=A.push (.cells cs T (0,0)))(vs:List Value)(hl:vs.length=cs.size):
  aK A2 (Addr.mk b 0 none) 0 vs.length/\(A3=aS A2 (Addr.mk b 0 none) vs 0->A3[b]?=some (.cells (splice cs 0 vs) T (0,0))/\Ext A A3):=by
 have g:=aL hb hA2
 have e:Ext A A2:=Ext.push' hA2
 refine⟨bT g _ _ _ (by omega),λhA3=>?_⟩
 rw[cP vs A2 cs 0 0 g]at hA3
 rw[hA3]
 have f:Fr [b] A2 (bL A2 b (.cells (splice cs (0+0) vs) T (0,0))):=Fr.set
 exact⟨bA (bH g),e.fr_trans f (λi hi=>by simp at hi;omega)⟩

def Sp.putT(s:Sp)(T car cdr:Int):Sp×Int:=
 if(s.alloc T 0 2).2.2=0 then({(s.alloc T 0 2).1 with mem:=(s.alloc T 0 2).1.mem.sets (s.alloc T 0 2).2.1 [car,cdr]},(s.alloc T 0 2).2.1*8+1)else(s,20)
theorem Sp.putT_word{s:Sp}(ok:SpOK s){T car cdr:Int}:aH (s.putT T car cdr).2:=by
 unfold Sp.putT
 split
 ·rename_i h
  obtain⟨ok2,gr⟩:=Sp.alloc_ok ok h
  obtain⟨a0,a1,a2⟩:=gr.addr
  have:=ok.mem.lim
  show aH ((s.alloc T 0 2).2.1*8+1)
  constructor<;>omega
 ·exact(by decide:aH 20)
set_option maxRecDepth 100000 in
theorem nE{H:zV}{b:Blk}{x:Hp}{q:TB}{t:Tr}{car cdr:Int}(T:Tg H b x q t)(hcar:aH car)(hcdr:aH cdr):
  da.C (some ⟨q.t,0,none⟩) car cdr H (λv H'=>v=.int .u64 (x.sp.putT t.tgt car cdr).2/\Tg H' b {x with sp:=(x.sp.putT t.tgt car cdr).1} q t/\Fr (spB b) H H'):=by
 refine HC.via λR hR=>da.link ?_
 unfold da.pt zY
 refine HC.mono (fZ T.toTc) ?_
 rintro _ HH ⟨rfl,hHH⟩
 obtain rfl:H=HH:=hHH.symm
 refine⟨_,rfl,?_⟩
 rw[if_neg (by rw[T.on];decide)]
 obtain⟨p1,p2,p3,p4⟩:=T.s1
 refine⟨_,rfl,_,p1,_,rfl,_,p2,_,rfl,_,p3,_,by rw[addr_add_mk];exact T.tr.tgtAt,?_⟩
 refine HC.mono (gy T.hp.cd.sp T.ok (Sp.cf_count T.ok T.cf)) ?_
 rintro _ H2 ⟨rfl,hs2,f2⟩
 refine⟨_,_,rfl,?_⟩
 have h2:=T.hp.withSp f2 (λi hi=>by simp at hi;omega) hs2
 have f2':Fr (spB b) H H2:=f2
 by_cases ha:(x.sp.alloc t.tgt 0 2).2.2=0
 case neg=>
  rw[if_neg ha]
  have ev:x.sp.putT t.tgt car cdr=(x.sp,20):=by unfold Sp.putT;rw[if_neg ha]
  rw[ev]at hR
  rw[Sp.alloc_fail T.ok ha]at h2
  exact hR _ _ ⟨rfl,⟨T.toTc.step f2' (λi hi=>fj hi) h2 T.ok,T.even,T.cf,T.on⟩,f2'⟩
 rw[if_pos ha]
 have ev:x.sp.putT t.tgt car cdr=({(x.sp.alloc t.tgt 0 2).1 with mem:=(x.sp.alloc t.tgt 0 2).1.mem.sets (x.sp.alloc t.tgt 0 2).2.1 [car,cdr]},(x.sp.alloc t.tgt 0 2).2.1*8+1):=by unfold Sp.putT;rw[if_pos ha]
 rw[ev]at hR
 obtain⟨ok2,gr⟩:=Sp.alloc_ok T.ok ha
 have hev2:=(gr.even T.even (λ_=>by decide)).1
 have hcf2:(x.sp.alloc t.tgt 0 2).1.cf=x.sp.cf:=Sp.alloc_cf _ _ _ _
 simp only at hR
 generalize hr:x.sp.alloc t.tgt 0 2=r at*
 obtain⟨s',a,e⟩:=r
 simp only at*
 have hlim:=T.ok.mem.lim
 obtain⟨a0,a1,a2⟩:=gr.addr
 have T2:Tc H2 b {x with sp:=s'} q t:=T.toTc.step f2' (λi hi=>fj hi) h2 ok2
 obtain⟨r1,r2,r3,r4⟩:=T2.s1
 refine⟨_,r1,_,rfl,_,r2,_,rfl,_,r3,_,rfl,_,r4,?_⟩
 refine HC.mono (ey T2.hp.cd.sp.mem T2.ok.mem (by omega)) ?_
 rintro _ H3 ⟨rfl,hm3,f3⟩
 have ok3:SpOK {s' with mem:=if s'.mem.used a then s'.mem.set a car else s'.mem}:=ok2.sets a (ws:=[car]) (by intro w hw;simp at hw;rw[hw];exact hcar)
 have T3:Tc H3 b {x with sp:={s' with mem:=if s'.mem.used a then s'.mem.set a car else s'.mem}} q t:=T2.withMem f3 (λi hi=>by simp at hi;exact .inr hi) hm3 ok3
 obtain⟨q1,q2,q3,q4⟩:=T3.s1
 refine⟨_,rfl,_,q1,_,rfl,_,q2,_,rfl,_,q3,_,rfl,_,q4,?_⟩
 rw[w64 (n:=a+1) (by omega)]
 refine HC.mono (ey T3.hp.cd.sp.mem T3.ok.mem (by omega)) ?_
 rintro _ H4 ⟨rfl,hm4,f4⟩
 have ok4:SpOK {s' with mem:=s'.mem.sets a [car,cdr]}:=ok2.sets a (ws:=[car,cdr]) (by intro w hw;simp at hw;rcases hw with rfl | rfl<;>assumption)
 have T4:Tc H4 b {x with sp:={s' with mem:=s'.mem.sets a [car,cdr]}} q t:=T3.withMem (m:=s'.mem.sets a [car,cdr]) f4 (λi hi=>by simp at hi;exact .inr hi) hm4 ok4
 refine⟨_,rfl,HC.mono (gE (by omega) (by omega)) ?_⟩
 rintro _ H5 ⟨rfl,e5⟩
 rw[if_neg (by decide),if_pos (by omega)]
 refine⟨_,_,rfl,hR _ _ ⟨rfl,⟨T4.ext e5,(aZ.sets _ _ _).even hev2,?_,T.on⟩,?_⟩⟩
 ·have h:=aZ.sets [car,cdr] s'.mem a
  show({s' with mem:=s'.mem.sets a [car,cdr]}:Sp).cf<_
  have:({s' with mem:=s'.mem.sets a [car,cdr]}:Sp).cf=s'.cf:=by unfold Sp.cf;simp only[];rw[h.count,h.free]
  rw[this,hcf2];exact T.cf
 ·exact((f2'.trans (f3.mono (λi hi _=>by simp at hi;simp[spB];omega))).trans (f4.mono (λi hi _=>by simp at hi;simp[spB];omega))).trans e5.fr

theorem Mem.store_even{m:Mem}(h:m.Even)(a w:Int):(m.store a w).1.Even:=λk hk=>by
 obtain⟨_,h2,h3⟩:=Mem.store_seg (m:=m) (a:=a) (w:=w) k
 rw[h3];exact h k (by rw[<-h2];exact hk)
theorem Tg.set{H H':zV}{b:Blk}{x:Hp}{q:TB}{t:Tr}{m':Mem}(T:Tg H b x q t)(V:View H' (some ⟨b.h,0,none⟩) (some (b,x.setMem m')))(f:Fr (own (some (b,x))) H H')(he:m'.Even)(hc:m'.free=x.sp.mem.free/\m'.count=x.sp.mem.count):Tg H' b (x.setMem m') q t/\Fr (spB b) H H':=by
 obtain⟨-,hp,ok⟩:=V.inv
 refine⟨⟨T.toTc.step f (λi hi=>fj hi) hp ok,he,?_,T.on⟩,f⟩
 have:(x.setMem m').sp.cf=x.sp.cf:=by unfold Sp.cf Hp.setMem;simp only[];rw[hc.1,hc.2]
 rw[this];exact T.cf
def Mem.hset(m:Mem)(w i v:Int):Mem:=if m.isPair w then(m.store (w / 8+i) v).1 else m
def Mem.hsetE(m:Mem)(w i v:Int):Int:=if m.isPair w then(m.store (w / 8+i) v).2 else 3
def Mem.fset(m:Mem)(w kind i v:Int):Mem:=if m.fieldE w kind i=0 then(m.store (w / 8+1+i) v).1 else m
theorem Mem.hset_fc(m:Mem)(w i v:Int):(m.hset w i v).free=m.free/\(m.hset w i v).count=m.count:=by
 unfold Mem.hset
 split
 ·exact(Mem.store_lim (m:=m)).2
 ·exact⟨rfl,rfl⟩
theorem Mem.fset_fc(m:Mem)(w k i v:Int):(m.fset w k i v).free=m.free/\(m.fset w k i v).count=m.count:=by
 unfold Mem.fset
 split
 ·exact(Mem.store_lim (m:=m)).2
 ·exact⟨rfl,rfl⟩
theorem Mem.hset_even{m:Mem}(h:m.Even)(w i v:Int):(m.hset w i v).Even:=by
 unfold Mem.hset;split
 ·exact Mem.store_even h _ _
 ·exact h
theorem Mem.fset_even{m:Mem}(h:m.Even)(w k i v:Int):(m.fset w k i v).Even:=by
 unfold Mem.fset;split
 ·exact Mem.store_even h _ _
 ·exact h
def Mem.lastG(m:Mem)(g:Int):Int:=if m.fieldE g 10 1=0 then m.get (g / 8+1+1)else 0
def Mem.queued(m:Mem)(g p:Int):Mem:=
 if m.hsetE (m.lastG g) 1 p=0 then(m.hset (m.lastG g) 1 p).fset g 10 1 p else((m.hset (m.lastG g) 1 p).fset g 10 0 p).fset g 10 1 p
def Sp.putsG(s:Sp)(T g th:Int):Sp:=
 if s.mem.typ g=10/\s.mem.len g=2 then(if(s.putT T th 20).2=20 then(s.putT T th 20).1 else{(s.putT T th 20).1 with mem:=(s.putT T th 20).1.mem.queued g (s.putT T th 20).2})else s
theorem kR{s:Sp}(ok:SpOK s)(g k i p:Int)(hp:aH p)(hg:aH g):SpOK {s with mem:=s.mem.fset g k i p}:=by
 unfold Mem.fset
 split
 ·exact SpOK.store ok _ hp
 ·exact ok
theorem oh{s:Sp}(ok:SpOK s)(w i p:Int)(hp:aH p):SpOK {s with mem:=s.mem.hset w i p}:=by
 unfold Mem.hset
 split
 ·exact SpOK.store ok _ hp
 ·exact ok
theorem m7{s:Sp}(ok:SpOK s)(g p:Int)(hp:aH p)(hg:aH g):SpOK {s with mem:=s.mem.queued g p}:=by
 unfold Mem.queued
 have h1:=oh ok (s.mem.lastG g) 1 p hp
 split
 ·exact kR h1 g 10 1 p hp hg
 ·exact kR (kR h1 g 10 0 p hp hg) g 10 1 p hp hg
theorem mH{s:Sp}(ok:SpOK s)(T:Int){a d:Int}(ha:aH a)(hd:aH d):SpOK (s.putT T a d).1:=by
 unfold Sp.putT
 split
 ·rename_i h
  exact(Sp.alloc_ok ok h).1.sets _ (by intro w hw;simp at hw;rcases hw with rfl | rfl<;>assumption)
 ·exact ok
theorem nF{s:Sp}(ok:SpOK s){T:Int}(hT:(0:Int)<=0)(g th:Int)(hg:aH g)(hth:aH th):SpOK (s.putsG T g th):=by
 unfold Sp.putsG
 split
 ·split
  ·exact mH ok T hth (by decide)
  ·exact m7 (mH ok T hth (by decide)) g _ (Sp.putT_word ok) hg
 ·exact ok
set_option maxRecDepth 100000 in
theorem oX{H:zV}{b:Blk}{x:Hp}{q:TB}{t:Tr}{g th:Int}(T:Tg H b x q t)(hg:aH g)(hth:aH th):
  ff.C (some ⟨q.t,0,none⟩) g th H (λ_ H'=>Tg H' b {x with sp:=x.sp.putsG t.tgt g th} q t/\Fr (spB b) H H'):=by
 refine HC.via λR hR=>ff.link ?_
 unfold ff.pt
 have hm: ∀y:Hp,mof (some (b,y))=y.sp.mem:=λ_=>rfl
 refine⟨_,rfl,_,T.s1.1,HC.mono (lT T.view hg) ?_⟩
 rw[hm]
 rintro _ H1 ⟨rfl,e1⟩
 refine⟨_,rfl,?_⟩
 by_cases ht:x.sp.mem.typ g=10
 case neg=>
  rw[if_neg ht]
  have ev:x.sp.putsG t.tgt g th=x.sp:=by unfold Sp.putsG;rw[if_neg (λh=>ht h.1)]
  rw[ev]at hR
  exact hR _ _ ⟨T.grow e1,e1.fr⟩
 rw[if_pos ht]
 have T1:=T.grow e1
 refine⟨_,T1.s1.1,HC.mono (mX T1.view hg) ?_⟩
 rw[hm]
 rintro _ H2 ⟨rfl,e2⟩
 refine⟨_,rfl,?_⟩
 by_cases hl:x.sp.mem.len g=2
 case neg=>
  rw[if_neg hl]
  have ev:x.sp.putsG t.tgt g th=x.sp:=by unfold Sp.putsG;rw[if_neg (λh=>hl h.2)]
  rw[ev]at hR
  exact hR _ _ ⟨T1.grow e2,(e1.trans e2).fr⟩
 rw[if_pos hl]
 have T2:=T1.grow e2
 refine HC.mono (nE T2 hth (by decide)) ?_
 rintro _ H3 ⟨rfl,T3,f3⟩
 refine⟨_,rfl,?_⟩
 have f03:Fr (spB b) H H3:=(e1.trans e2).fr.trans f3
 by_cases hn:(x.sp.putT t.tgt th 20).2=20
 ·rw[if_pos hn]
  have ev:x.sp.putsG t.tgt g th=(x.sp.putT t.tgt th 20).1:=by unfold Sp.putsG;rw[if_pos ⟨ht,hl⟩,if_pos hn]
  rw[ev]at hR
  exact hR _ _ ⟨T3,f03⟩
 rw[if_neg hn]
 have ev:x.sp.putsG t.tgt g th={(x.sp.putT t.tgt th 20).1 with mem:=(x.sp.putT t.tgt th 20).1.mem.queued g (x.sp.putT t.tgt th 20).2}:=by unfold Sp.putsG;rw[if_pos ⟨ht,hl⟩,if_neg hn]
 rw[ev]at hR
 have hpw:aH (x.sp.putT t.tgt th 20).2:=Sp.putT_word T.ok
 generalize x.sp.putT t.tgt th 20=pr at*
 obtain⟨s3,p⟩:=pr
 simp only at*
 refine⟨_,T3.s1.1,HC.mono (kv T3.view hg (by decide)) ?_⟩
 rw[hm]
 rintro _ H4 ⟨rfl,e4⟩
 have T4:=T3.grow e4
 have hlw:aH (s3.mem.lastG g):=by
  unfold Mem.lastG
  split
  ·exact(T3.ok.mem.seg _).words _
  ·decide
 refine⟨s3.mem.lastG g,_,rfl,_,T4.s1.1,HC.mono (kN T4.view hlw hpw) ?_⟩
 rintro _ H5 ⟨rfl,V5,f5⟩
 have E5:hsetE (some (b,({x with sp:=s3}:Hp))) (s3.mem.lastG g) 1 p=s3.mem.hsetE (s3.mem.lastG g) 1 p:=rfl
 have V5':View H5 (some ⟨b.h,0,none⟩) (some (b,({x with sp:=s3}:Hp).setMem (s3.mem.hset (s3.mem.lastG g) 1 p))):=V5
 obtain⟨T5,f5'⟩:=T4.set V5' f5 (Mem.hset_even T3.even _ _ _) (Mem.hset_fc _ _ _ _)
 have f05:=(f03.trans e4.fr).trans f5'
 refine⟨_,rfl,?_⟩
 rw[E5]
 have step: ∀{A:zV} {y:Hp} {i:Int} {K:zV->Prop},Tg A b y q t->I64 i->(∀A',Tg A' b (y.setMem (y.sp.mem.fset g 10 i p)) q t->Fr (spB b) A A'->K A')->dc.C (some ⟨b.h,0,none⟩) g 10 i p A (λv A'=> ∃x_10:Int,v=.int .i64 x_10/\K A'):=λ{A y i K} TA hi hK=>by
  refine HC.mono (mY TA.view hg hi hpw) ?_
  rintro _ A' ⟨rfl,V,f⟩
  have V':View A' (some ⟨b.h,0,none⟩) (some (b,y.setMem (y.sp.mem.fset g 10 i p))):=V
  obtain⟨T',f'⟩:=TA.set V' f (Mem.fset_even TA.even _ _ _ _) (Mem.fset_fc _ _ _ _ _)
  exact⟨_,rfl,hK A' T' f'⟩
 by_cases h5:s3.mem.hsetE (s3.mem.lastG g) 1 p=0
 ·rw[if_pos h5]
  refine⟨_,T5.s1.1,step T5 (by decide) λA' T6 f6=>hR _ _ ⟨?_,f05.trans f6⟩⟩
  have ev2:s3.mem.queued g p=(s3.mem.hset (s3.mem.lastG g) 1 p).fset g 10 1 p:=by unfold Mem.queued;rw[if_pos h5]
  rw[ev2];exact T6
 ·rw[if_neg h5]
  refine⟨_,T5.s1.1,step T5 (by decide) λA' T6 f6=>?_⟩
  refine⟨_,T6.s1.1,step T6 (by decide) λA'' T7 f7=>hR _ _ ⟨?_,(f05.trans f6).trans f7⟩⟩
  have ev2:s3.mem.queued g p=((s3.mem.hset (s3.mem.lastG g) 1 p).fset g 10 0 p).fset g 10 1 p:=by unfold Mem.queued;rw[if_neg h5]
  rw[ev2];exact T7

def mI(old:Nat->Bool)(T:Int)(m:Mem):Prop:= ∀k i:Nat,m.has k->(m.seg k).gen=T->old k=false->(i:Int)< (m.seg k).n->looks (m.seg k).kind i-> ¬aQ old (m.read ((k:Int)*64+i))
theorem Mem.wr_read(m:Mem)(a:Int):m.wr a (m.read a)=m:=by
 unfold Mem.wr Mem.read
 by_cases h:m.used a
 ·rw[if_pos h,if_pos h]
  unfold Mem.set Mem.get Mem.upd
  cases m with
  | mk lim seg cnt fr=>
   simp only[Mem.mk.injEq,true_and,and_true]
   funext i
   split
   ·rename_i hi
    subst hi
    cases hs:seg (a / 64).toNat with
    | mk g k n c t w=>
     simp only[Seg.set,Seg.mk.injEq,true_and]
     funext j
     split
     ·rename_i hj;rw[hj]
     ·rfl
   ·rfl
 ·rw[if_neg h]
theorem Sp.lookAt_settled{s:Sp}{old:Nat->Bool}{T a:Int}(h: ¬aQ old (s.mem.read a)):s.lookAt old T a=s:=by
 unfold Sp.lookAt
 rw[Sp.visit_no h]
 simp only[]
 rw[Mem.wr_read]
theorem Sp.look_settled{s:Sp}{old:Nat->Bool}{T k kind lo:Int}: ∀n:Nat,(∀j:Nat,j<n->looks kind (lo+j)-> ¬aQ old (s.mem.read (k*64+(lo+j))))->s.look old T k kind lo n=s
 | 0,_=>rfl
 | n+1,h=>by
  unfold Sp.look
  rw[Sp.look_settled n (λj hj=>h j (by omega))]
  split
  ·rename_i hl;exact Sp.lookAt_settled (h n (by omega) hl)
  ·rfl
theorem eF.settled{old:Nat->Bool}{T:Int}{s0 s:Sp}{k0 ks:List (Int×Value)}(h:eF old T s0 k0 s ks)(hs:mI old T s0.mem)(ok:bI s0.mem)(hk:ej k0):s=s0/\ej ks:=by
 induction h with
 | refl=>exact⟨rfl,hk⟩
 | @step s1 ks1 k _ hk hg ho hn ih=>
  obtain⟨rfl,hks⟩:=ih
  have hn2:=(ok.seg k.toNat).n
  refine⟨Sp.look_settled _ (λj hj hl=>?_),λa v hv=>?_⟩
  ·have h0:=(hM hks k).2.1
   have hk0:=hk.1
   have:=hs k.toNat (seenAt ks1 k+j).toNat (by rw[show((k.toNat:Nat):Int)=k by omega];exact hk) hg ho (by omega) (by rw[show(((seenAt ks1 k+j).toNat:Nat):Int)=seenAt ks1 k+j by omega];exact hl)
   rw[show((k.toNat:Nat):Int)=k by omega,show(((seenAt ks1 k+j).toNat:Nat):Int)=seenAt ks1 k+j by omega]at this
   exact this
  ·rw[gl]at hv
   split at hv
   ·cases hv;exact⟨_,rfl,hn2⟩
   ·exact hks a v hv
theorem Tg.withOld{H:zV}{b:Blk}{x:Hp}{q:TB}{t:Tr}(T:Tg H b x q t){old:Nat->Bool}(h: ∀k,k<1024->t.old k=old k):Tg H b x q {t with old:=old}:=by
 obtain⟨⟨h1,h2,h3,h4⟩,h5,h6,h7⟩:=T
 obtain⟨k1,k2,k3,k4,k5,k6,k7⟩:=h3
 obtain⟨cs,c1,c2,c3,c4,c5,c6⟩:=k1
 exact⟨⟨h1,h2,⟨⟨cs,c1,c2,c3,c4,λk hk=>by rw[c5 k hk,h k hk],c6⟩,k2,k3,k4,k5,k6,k7⟩,h4⟩,h5,h6,h7⟩

def jR(A:zV)(c:Nat):Nat:=match A[c]? with | some (Obj.cells cs _ _)=>(match(cs[0]?:Option Value)with | some (Value.int _ n)=>(2-n).toNat | _=>0) | _=>0
structure GdSt (H:zV) (b:Blk) (x:Hp) (q:TB) (t:Tr) (c c2 c3 c4:Nat) (a:Addr) (o g lv:Int) (A:zV):Prop where
 tg:Tg A b x q t
 g0:A[c]?=some (.cells #[.pointer (some ⟨q.t,0,none⟩)] 37 (0,0))
 g2:A[c2]?=some (.cells #[.slice (some a) 1 1] 31 (0,0))
 g4:A[c4]?=some (.cells #[.slice (some ⟨c3,0,none⟩) 1 1] 79 (0,0))
 g3:A[c3]?=some (.cells #[.int .i64 lv] 3 (0,0))
 row:aT A a 0 [.int .u64 o,.int .u64 g]
 fr:Fr (q.s::spB b) H A
 new:H.size<=c/\H.size<=c2/\H.size<=c3/\H.size<=c4/\c≠c3/\c2≠c3/\c4≠c3/\a.block<H.size
theorem GdSt.ext{H A A':zV}{b:Blk}{x:Hp}{q:TB}{t:Tr}{c c2 c3 c4:Nat}{a:Addr}{o g lv:Int}(h:GdSt H b x q t c c2 c3 c4 a o g lv A)(e:Ext A A'):GdSt H b x q t c c2 c3 c4 a o g lv A':=
 ⟨h.tg.grow e,e.get h.g0,e.get h.g2,e.get h.g4,e.get h.g3,e.rowAt h.row,h.fr.trans e.fr,h.new⟩
theorem GdSt.go{H A A':zV}{b:Blk}{x x':Hp}{q:TB}{t t':Tr}{c c2 c3 c4:Nat}{a:Addr}{o g lv:Int}(h:GdSt H b x q t c c2 c3 c4 a o g lv A)(T:Tg A' b x' q t')(f:Fr (q.s::spB b) A A')(ha:a.block ∉ b.all/\a.block ∉ q.all)(hl: ∀i∈q.s::spB b,i<H.size):GdSt H b x' q t' c c2 c3 c4 a o g lv A':=by
 obtain⟨n1,n2,n3,n4,n5,n6,n7,n8⟩:=h.new
 have no: ∀j,H.size<=j->j ∉ q.s::spB b:=λj hj hi=>by have:=hl j hi;omega
 refine⟨T,f.get (no _ n1) h.g0,f.get (no _ n2) h.g2,f.get (no _ n4) h.g4,f.get (no _ n3) h.g3,f.rowAt (λhi=>?_) h.row,h.fr.trans f,h.new⟩
 rcases List.mem_cons.1 hi with q1 | q1
 ·exact ha.2 (by rw[q1];simp[TB.all])
 ·exact ha.1 (fj q1)
theorem GdSt.lost{H A A':zV}{b:Blk}{x:Hp}{q:TB}{t:Tr}{c c2 c3 c4:Nat}{a:Addr}{o g lv lv':Int}(h:GdSt H b x q t c c2 c3 c4 a o g lv A)(hA:A'=aS A (Addr.mk c3 0 none) [.int .i64 lv'] 0)(hb: ∀i,i∈b.all\/i∈q.all->i<H.size):GdSt H b x q t c c2 c3 c4 a o g lv' A':=by
 obtain⟨n1,n2,n3,n4,n5,n6,n7,n8⟩:=h.new
 obtain⟨_,s⟩:=iG (n:=1) (vs:=[.int .i64 lv']) h.g3 rfl rfl
 obtain⟨k3,f⟩:=s A' hA
 have l3:=bH h.g3
 refine⟨h.tg.stay f (λi hi hq=>by simp at hi;have:=hb i (.inl hq);omega) (λi hi hq=>by simp at hi;have:=hb i (.inr hq);omega),f.get (by simp;omega) h.g0,f.get (by simp;omega) h.g2,f.get (by simp;omega) h.g4,k3,f.rowAt (by simp;omega) h.row,h.fr.trans' f (λi hi _=>hi) (λi hi hl=>by simp at hi;omega),h.new⟩
theorem oG{H A:zV}{b:Blk}{x:Hp}{q:TB}{t:Tr}{c c2 c3 c4:Nat}{a:Addr}{o g lv:Int}(S:GdSt H b x q t c c2 c3 c4 a o g lv A)(hg:aH g):
  dH.C 0 (some (Addr.mk c4 0 none)) (some (Addr.mk c 0 none)) (some (Addr.mk c2 0 none)) A (λv A'=>v=.bool (decide (lv=1) && (decide (¬(t.over=false/\aQ t.old g)) || (x.sp.mem.fwd g).isSome))/\Ext A A'):=by
 refine HC.via λR hR=>dH.link ?_
 unfold dH.pt
 refine⟨_,rfl,_,_,_,by rw[aM S.g4];rfl,_,rfl,⟨by decide,by decide⟩,lv,by rw[show(Addr.mk c3 0 none).add (Int.toNat 0*1)=Addr.mk c3 0 none from rfl,aM S.g3];rfl,?_⟩
 by_cases h1:lv=1
 ·rw[if_pos h1]
  have hrow:=S.row.2.1
  refine⟨_,rfl,_,by rw[aM S.g0];rfl,_,rfl,_,_,_,by rw[aM S.g2];rfl,_,rfl,⟨by decide,by decide⟩,g,by
   have e:(a.add (Int.toNat 0*2)).add 1=a.add (0+1):=by unfold Addr.add;split<;>simp_all
   rw[e];exact hrow,HC.mono (gM S.tg.toTc hg) ?_⟩
  rintro _ A' ⟨rfl,e⟩
  exact⟨_,rfl,hR _ _ ⟨by rw[zX h1,Bool.true_and],e⟩⟩
 ·rw[if_neg h1]
  exact hR _ _ ⟨by rw[zQ h1,Bool.false_and],Ext.refl _⟩
set_option maxRecDepth 100000 in
set_option maxHeartbeats 1000000 in
theorem kS{H:zV}{b:Blk}{x:Hp}{q:TB}{t:Tr}{a:Addr}{o g:Int}(T:Tg H b x q t)(hso:ej t.seen)(htg:0<=t.tgt)(ho:aH o)(hg:aH g)(hrow:aT H a 0 [.int .u64 o,.int .u64 g])(ha:a.block ∉ b.all/\a.block ∉ q.all)(hal:a.block<H.size)
  (hlost:aQ t.old o/\x.sp.mem.fwd o=none) (hheld: ¬aQ t.old g\/(x.sp.mem.fwd g).isSome=true):
  df.C (some ⟨q.t,0,none⟩) (some a) 1 1 H (λv H'=>v=.slice none 0 0/\ ∃(s':Sp) (ks':List (Int×Value)),
   eF t.old t.tgt (((x.sp.visit t.old t.tgt o).1.visit t.old t.tgt g).1.putsG t.tgt ((x.sp.visit t.old t.tgt o).1.visit t.old t.tgt g).2 (x.sp.visit t.old t.tgt o).2) t.seen s' ks'/\js t.old t.tgt s' ks'/\Tg H' b {x with sp:=s'} q {t with seen:=ks'}/\ej ks'/\Fr (q.s::spB b) H H'):=by
 refine HC.via λR hR=>df.link ?_
 unfold df.pt zY
 intro c H1 hc hH1 c2 H2 hc2 hH2
 have e1:Ext H H1:=Ext.push' hH1
 have e2:Ext H1 H2:=Ext.push' hH2
 have z1:H1.size=H.size+1:=by rw[hH1];simp
 have z2:H2.size=H1.size+1:=by rw[hH2];simp
 have k0:=e2.get (aL hc hH1)
 have k2:=aL hc2 hH2
 refine⟨_,by rw[aM k0];rfl,HC.mono (iJ (T.grow (e1.trans e2)).toTc) ?_⟩
 rintro _ HH ⟨rfl,hHH⟩
 obtain rfl:H2=HH:=hHH.symm
 refine⟨_,rfl,?_⟩
 rw[if_neg (by rw[T.on];decide)]
 refine⟨some a,1,1,by rw[aM k2];rfl,by decide,by decide,by decide,by decide,λc3 H5 hc3 hH5 c4 H6 hc4 hH6=>?_⟩
 have e5:Ext H2 H5:=Ext.push' hH5
 have z5:H5.size=H2.size+1:=by rw[hH5];simp
 have z6:H6.size=H5.size+1:=by rw[hH6];simp
 obtain⟨q6,s6⟩:=fS (A3:=aS H6 (Addr.mk c4 0 none) [.slice (some (Addr.mk c3 0 none)) 1 1] 0) hc4 hH6 [.slice (some (Addr.mk c3 0 none)) 1 1] rfl
 refine⟨q6,λH7 hH7=>?_⟩
 have hH7':H7=aS H6 (Addr.mk c4 0 none) [.slice (some (Addr.mk c3 0 none)) 1 1] 0:=hH7
 obtain⟨k4,e7⟩:=s6 rfl
 rw[<-hH7']at k4 e7
 have k3:H5[c3]?=some (.cells #[.int .i64 0] 3 (0,0)):=by
  have:=aL hc3 hH5
  rw[show Builtin.zeroCells #[.int .i64 0] (Int.toNat ((1:Nat):Int))=(#[.int .i64 0]:Array Value)from by kernel_rfl]at this
  exact this
 have E7:=((e1.trans e2).trans e5).trans e7
 have e57:=e5.trans e7
 have hbl: ∀i,i∈b.all\/i∈q.all->i<H.size:=λi hi=>T.lt hi
 have hsl: ∀i∈q.s::spB b,i<H.size:=λi hi=>by
  rcases List.mem_cons.1 hi with h | h
  ·exact hbl i (.inr (by rw[h];simp[TB.all]))
  ·exact hbl i (.inl (fj h))
 have S0:GdSt H b x q t c c2 c3 c4 a o g 0 H7:=⟨T.grow E7,e57.get k0,e57.get k2,k4,e7.get k3,E7.rowAt hrow,E7.fr,by omega,by omega,by omega,by omega,by omega,by omega,by omega,hal⟩
 have hw1:IntKind.wrap .i64 ((0:Int)+1)=1:=by decide
 refine⟨some a,1,1,by rw[aM (e57.get k2)];rfl,λi A=>(i=0/\GdSt H b x q t c c2 c3 c4 a o g 0 A)\/(i=1/\GdSt H b x q t c c2 c3 c4 a o g 1 A),λi _=>(1-i).toNat,.inl ⟨rfl,S0⟩,?_⟩
 rintro i H8 (⟨rfl,S8⟩ | ⟨rfl,S8⟩)
 ·rw[if_pos (by decide)]
  refine⟨a,rfl,⟨by decide,by decide⟩,o,g,by rw[show a.add (Int.toNat 0*2)=a from by unfold Addr.add;simp];exact S8.row,λc5 H9 hc5 hH9=>?_⟩
  obtain⟨q9,s9⟩:=fS (A3:=aS H9 (Addr.mk c5 0 none) [.int .u64 o,.int .u64 g] 0) hc5 hH9 [.int .u64 o,.int .u64 g] rfl
  refine⟨q9,λH10 hH10=>?_⟩
  obtain⟨k5,e10⟩:=s9 rfl
  rw[<-hH10]at k5 e10
  have k5':H10[c5]?=some (.cells #[.int .u64 o,.int .u64 g] 36 (0,0)):=k5
  have S10:=S8.ext e10
  refine⟨_,by rw[aM S10.g0];rfl,o,by rw[aM k5'];rfl,HC.mono (gM S10.tg.toTc ho) ?_⟩
  rintro _ H11 ⟨rfl,e11⟩
  refine⟨_,rfl,?_⟩
  rw[if_neg (by rw[hlost.2];simp[T.on,hlost.1])]
  have S11:=S10.ext e11
  refine⟨_,_,_,by rw[aM S11.g4];rfl,_,rfl,⟨by decide,by decide⟩,?_⟩
  rw[show(Addr.mk c3 0 none).add (Int.toNat 0*1)=Addr.mk c3 0 none from rfl,hw1]
  refine⟨bT S11.g3 _ _ _ (by simp),λH12 hH12=>⟨.inr ⟨rfl,S11.lost hH12 hbl⟩,show((1:Int)-1).toNat< ((1:Int)-0).toNat by decide⟩⟩
 rw[if_neg (by decide)]
 obtain⟨s3,hs3⟩: ∃s3:Sp,s3=((x.sp.visit t.old t.tgt o).1.visit t.old t.tgt g).1.putsG t.tgt ((x.sp.visit t.old t.tgt o).1.visit t.old t.tgt g).2 (x.sp.visit t.old t.tgt o).2:=⟨_,rfl⟩
 rw[<-hs3]at hR
 obtain⟨S2,hS2⟩: ∃S2:zV->Prop,S2=λA=> ∃(s':Sp) (ks':List (Int×Value)),eF t.old t.tgt s3 t.seen s' ks'/\js t.old t.tgt s' ks'/\ej ks'/\GdSt H b {x with sp:=s'} q {t with seen:=ks'} c c2 c3 c4 a o g 2 A:=⟨_,rfl⟩
 have m1: ∀{A:zV} {y:Hp} {u:Tr} {lv:Int},GdSt H b y q u c c2 c3 c4 a o g lv A->jR A c3=(2-lv).toNat:=λS=>by unfold jR;rw[S.g3];rfl
 refine⟨λA=>GdSt H b x q t c c2 c3 c4 a o g 1 A\/S2 A,λA=>jR A c3,.inl S8,?_⟩
 intro H13 h13
 have g2_13:H13[c2]?=some (.cells #[.slice (some a) 1 1] 31 (0,0)):=by
  rcases h13 with S | S
  ·exact S.g2
  ·rw[hS2]at S;obtain⟨_,_,_,_,_,S⟩:=S;exact S.g2
 refine⟨some a,1,1,by rw[aM g2_13];rfl,λi A=>(i=0/\GdSt H b x q t c c2 c3 c4 a o g 1 A/\GdSt H b x q t c c2 c3 c4 a o g 1 H13)\/((i=0\/i=1)/\S2 A),λi _=>(1-i).toNat,?_,?_⟩
 ·rcases h13 with S | S
  ·exact .inl ⟨rfl,S,S⟩
  ·exact .inr ⟨.inl rfl,S⟩
 rintro i H14 h14
 have fin:S2 H14-> ∃xB_8:zW,∃xN_8:Nat,∃xC_8:Nat,hat H14 (Addr.mk c2 0 none)=some (.slice xB_8 xN_8 xC_8)/\xB_8=some a/\xN_8=1:=λS=>by
  rw[hS2]at S;obtain⟨_,_,_,_,_,S⟩:=S
  exact⟨_,_,_,by rw[aM S.g2];rfl,rfl,rfl⟩
 rcases h14 with⟨rfl,S14,S13⟩ | ⟨hi,S14⟩
 ·rw[if_pos (by decide)]
  refine⟨a,rfl,⟨by decide,by decide⟩,o,g,by rw[show a.add (Int.toNat 0*2)=a from by unfold Addr.add;simp];exact S14.row,λc6 H15 hc6 hH15=>?_⟩
  obtain⟨q15,s15⟩:=fS (A3:=aS H15 (Addr.mk c6 0 none) [.int .u64 o,.int .u64 g] 0) hc6 hH15 [.int .u64 o,.int .u64 g] rfl
  refine⟨q15,λH16 hH16=>?_⟩
  obtain⟨k6,e16⟩:=s15 rfl
  rw[<-hH16]at k6 e16
  have k6':H16[c6]?=some (.cells #[.int .u64 o,.int .u64 g] 36 (0,0)):=k6
  have S16:=S14.ext e16
  refine HC.mono (oG S16 hg) ?_
  rintro _ H17 ⟨rfl,e17⟩
  refine⟨_,rfl,?_⟩
  rw[if_pos (by
   rcases hheld with h | h
   ·simp[h]
   ·simp[h])]
  have S17:=S16.ext e17
  refine⟨_,_,_,by rw[aM S17.g4];rfl,_,rfl,⟨by decide,by decide⟩,?_⟩
  rw[show(Addr.mk c3 0 none).add (Int.toNat 0*1)=Addr.mk c3 0 none from rfl]
  refine⟨bT S17.g3 _ _ _ (by simp),λH18 hH18=>?_⟩
  have S18:=S17.lost hH18 hbl
  have z14:=S14.fr.size
  have l3:=bH S17.g3
  have hc6n:c6≠c3:=by have:=bH S14.g3;omega
  have f18:Fr [c3] H17 H18:=(iG (n:=1) (vs:=[.int .i64 2]) S17.g3 rfl rfl).2 H18 hH18 |>.2
  have k6_18:=f18.get (by simp;exact hc6n) (e17.get k6')
  refine⟨_,by rw[aM S18.g0];rfl,o,by rw[aM k6_18];rfl,HC.mono (fJ S18.tg ho) ?_⟩
  rintro _ H19 ⟨rfl,T19,f19⟩
  have f19':Fr (q.s::spB b) H18 H19:=f19.mono (λi hi _=>List.mem_cons_of_mem _ hi)
  have S19:=S18.go T19 f19' ha hsl
  have c6n:c6 ∉ q.s::spB b:=λh=>by have:=hsl c6 h;omega
  have k6_19:=f19'.get c6n k6_18
  refine⟨_,rfl,_,by rw[aM S19.g0];rfl,_,by rw[aM S19.g0];rfl,g,jp k6_19 1,HC.mono (fJ S19.tg hg) ?_⟩
  rintro _ H20 ⟨rfl,T20,f20⟩
  have S20:=S19.go T20 (f20.mono (λi hi _=>List.mem_cons_of_mem _ hi)) ha hsl
  refine⟨_,rfl,kP S20.g0,HC.mono (oX S20.tg (Sp.visit_word S19.tg.ok hg) (Sp.visit_word T.ok ho)) ?_⟩
  rintro _ H21 ⟨T21,f21⟩
  have S21:=S20.go T21 (f21.mono (λi hi _=>List.mem_cons_of_mem _ hi)) ha hsl
  refine⟨_,by rw[aM S21.g0];rfl,HC.mono (jQ S21.tg hso htg) ?_⟩
  rintro _ H22 ⟨s',ks',hdr,hdd,T22,hso2,f22⟩
  have S22:=S21.go T22 f22 ha hsl
  refine⟨.inr ?_,?_⟩
  ·rw[hS2];exact⟨s',ks',by rw[hs3];exact hdr,hdd,hso2,S22⟩
  ·show jR H22 c3<jR H13 c3
   rw[m1 S22,m1 S13];decide
 ·have S14':=S14
  rw[hS2]at S14'
  obtain⟨s',ks',hdr,hdd,hso2,S⟩:=S14'
  rcases hi with rfl | rfl
  ·rw[if_pos (by decide)]
   refine⟨a,rfl,⟨by decide,by decide⟩,o,g,by rw[show a.add (Int.toNat 0*2)=a from by unfold Addr.add;simp];exact S.row,λc6 H15 hc6 hH15=>?_⟩
   obtain⟨q15,s15⟩:=fS (A3:=aS H15 (Addr.mk c6 0 none) [.int .u64 o,.int .u64 g] 0) hc6 hH15 [.int .u64 o,.int .u64 g] rfl
   refine⟨q15,λH16 hH16=>?_⟩
   obtain⟨k6,e16⟩:=s15 rfl
   rw[<-hH16]at k6 e16
   have S16:=S.ext e16
   refine HC.mono (oG S16 hg) ?_
   rintro _ H17 ⟨rfl,e17⟩
   refine⟨_,rfl,?_⟩
   rw[if_neg (by simp),hw1]
   exact⟨.inr ⟨.inr rfl,by rw[hS2];exact⟨s',ks',hdr,hdd,hso2,S16.ext e17⟩⟩,show((1:Int)-1).toNat< ((1:Int)-0).toNat by decide⟩
  rw[if_neg (by decide)]
  refine⟨some a,1,1,by rw[aM S.g2];rfl,λoB oN oC i A=>oB=none/\oN=0/\oC=0/\(i=0\/i=1)/\GdSt H b {x with sp:=s'} q {t with seen:=ks'} c c2 c3 c4 a o g 2 A,λ_ _ _ i _=>(1-i).toNat,⟨rfl,rfl,rfl,.inl rfl,S⟩,?_⟩
  rintro _ _ _ i H23 ⟨rfl,rfl,rfl,hi,S23⟩
  rcases hi with rfl | rfl
  ·rw[if_pos (by decide)]
   refine⟨a,rfl,⟨by decide,by decide⟩,o,g,by rw[show a.add (Int.toNat 0*2)=a from by unfold Addr.add;simp];exact S23.row,λc6 H15 hc6 hH15=>?_⟩
   obtain⟨q15,s15⟩:=fS (A3:=aS H15 (Addr.mk c6 0 none) [.int .u64 o,.int .u64 g] 0) hc6 hH15 [.int .u64 o,.int .u64 g] rfl
   refine⟨q15,λH16 hH16=>?_⟩
   obtain⟨k6,e16⟩:=s15 rfl
   rw[<-hH16]at k6 e16
   have S16:=S23.ext e16
   refine⟨_,_,_,by rw[aM S16.g4];rfl,_,rfl,⟨by decide,by decide⟩,2,by rw[show(Addr.mk c3 0 none).add (Int.toNat 0*1)=Addr.mk c3 0 none from rfl,aM S16.g3];rfl,?_⟩
   rw[if_neg (by decide),hw1]
   exact⟨⟨rfl,rfl,rfl,.inr rfl,S16⟩,show((1:Int)-1).toNat< ((1:Int)-0).toNat by decide⟩
  ·rw[if_neg (by decide)]
   exact hR _ _ ⟨rfl,s',ks',hdr,hdd,S23.tg,hso2,S23.fr⟩
