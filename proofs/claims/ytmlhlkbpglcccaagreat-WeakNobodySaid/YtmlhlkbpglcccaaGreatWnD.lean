/-
 Law 12's example: what it computes, in numbers. Proves nothing of any one statement.
-/
import Derived.Test.YtmlhlkbpglcccaaGreatWnB
import Derived.Test.YtmlhlkbpglcccaaGreatCol
import Derived.Test.YtmlhlkbpglcccaaGreatL12awake
set_option linter.unusedVariables false
set_option linter.unusedSimpArgs false
namespace Go.Proofs.YtmlhlkbpglcccaaGreat
open Go

def wn0:Sp:=⟨Mem.fresh 40,λ_ _=>0⟩
def wn1:Sp:=(wn0.put 2 3 [597,20,20]).1
def wn2:Sp:=(wn1.put 0 1 [8,20]).1
def wn3:Sp:=(wn2.put 1 2 [513,20]).1
def wnO:Nat->Bool:=wn3.mem.young 0
def wn4:Sp:=wn3.fresh (eP 0)
def wn5:Sp:=(wn4.visit wnO 0 3).1
def wn6:Sp:=(wn5.visit wnO 0 1026).1
def wn7:Sp:=((wn6.visit wnO 0 513).1.visit wnO 0 1539).1.putsG 0 ((wn6.visit wnO 0 513).1.visit wnO 0 1539).2 (wn6.visit wnO 0 513).2
def wn8:Sp:={wn7 with mem:=brkR wnO wn7.mem 256}
def wn9:Sp:=wn8.gives wnO 1024
theorem wn_1:(wn0.put 2 3 [597,20,20]).2=(3,0):=by kernel_rfl
theorem wn_2:(wn1.put 0 1 [8,20]).2=(513,0):=by kernel_rfl
theorem wn_3:(wn2.put 1 2 [513,20]).2=(1026,0):=by kernel_rfl
theorem pj:wn0.cf=40/\wn1.cf=40/\wn2.cf=40/\wn3.cf=40:=⟨by kernel_rfl,by kernel_rfl,by kernel_rfl,by kernel_rfl⟩
theorem lA:wn1.mem.count=1/\wn2.mem.count=2:=⟨by kernel_rfl,by kernel_rfl⟩
theorem wn_s:gz wn3 0 0 1=0:=by kernel_rfl
theorem wn_5:(wn4.visit wnO 0 3).2=1539:=by kernel_rfl
theorem wn_6:(wn5.visit wnO 0 1026).2=2050:=by kernel_rfl
def iN(old:Nat->Bool)(T:Int)(m:Mem):Bool:=(List.range 40).all λk:Nat=>(List.range 64).all λi:Nat=>decide (m.has k->(m.seg k).gen=T->old k=false->(i:Int)< (m.seg k).n->looks (m.seg k).kind i-> ¬aQ old (m.read ((k:Int)*64+i)))
theorem oz:iN wnO 0 wn6.mem=true:=by kernel_rfl
theorem oA:decide (aQ wnO 513)=true/\wn6.mem.fwd 513=none/\decide (aQ wnO 1539)=false:=⟨by kernel_rfl,by kernel_rfl,by kernel_rfl⟩
theorem oD:iN wnO 0 wn7.mem=true:=by kernel_rfl
theorem pl:wn7.mem.takenTo [0] wn7.mem.limit=[0,1,2,3,4,5]:=by kernel_rfl
theorem o7:(wn7.mem.seg 0).taken=1/\(wn7.mem.seg 1).taken=2/\(wn7.mem.seg 2).taken=3/\(wn7.mem.seg 3).taken=4/\(wn7.mem.seg 4).taken=5/\(wn7.mem.seg 5).taken=6:=⟨by kernel_rfl,by kernel_rfl,by kernel_rfl,by kernel_rfl,by kernel_rfl,by kernel_rfl⟩
theorem o8:(wn7.mem.seg 0).kind=2/\(wn7.mem.seg 1).kind=0/\(wn7.mem.seg 3).kind=2/\(wn7.mem.seg 4).kind=1/\(wn7.mem.seg 5).kind=0/\(wn7.mem.seg 4).n=2/\wnO 2=true/\wnO 4=false:=⟨by kernel_rfl,by kernel_rfl,by kernel_rfl,by kernel_rfl,by kernel_rfl,by kernel_rfl,by kernel_rfl,by kernel_rfl⟩
theorem wn_q:wn9.mem.fieldE 1539 10 0=0/\wn9.mem.get (1539 / 8+1+0)=2577:=⟨by kernel_rfl,by kernel_rfl⟩
theorem wn_a:wn9.mem.halfE 2577 0=0/\wn9.mem.get (2577 / 8+0)=2561:=⟨by kernel_rfl,by kernel_rfl⟩
theorem wn_b:wn9.mem.halfE 2050 0=0/\wn9.mem.get (2050 / 8+0)=2561:=⟨by kernel_rfl,by kernel_rfl⟩
theorem wn_c:wn9.mem.halfE 2561 0=0/\wn9.mem.get (2561 / 8+0)=8:=⟨by kernel_rfl,by kernel_rfl⟩
theorem jZ{old:Nat->Bool}{T:Int}{m:Mem}(hl:m.limit=40)(ok:bI m)(h:iN old T m=true):mI old T m:=by
 intro k i hk
 have hk40:k<40:=by have:=hk.2.1;omega
 unfold iN at h
 rw[List.all_eq_true]at h
 have h1:=h k (List.mem_range.2 hk40)
 rw[List.all_eq_true]at h1
 intro hg ho hi
 have hn:=(ok.seg k).n
 exact of_decide_eq_true (h1 i (List.mem_range.2 (by omega))) hk hg ho hi
theorem kH(f:Nat->Int): ∀(L l:List Nat),l.Perm L->l.Pairwise (λi j=>f i<=f j)->L.Pairwise (λi j=>f i<f j)->l=L
 | [],l,h,_,_=>h.eq_nil
 | a::L,[],h,_,_=>absurd h.length_eq (by simp)
 | a::L,b::l,h,h1,h2=>by
  rw[List.pairwise_cons]at h1 h2
  have hb:b∈a::L:=h.subset (by simp)
  have ha:a∈b::l:=h.symm.subset (by simp)
  have hab:b=a:=by
   rcases List.mem_cons.1 hb with e | e
   ·exact e
   ·have h3:=h2.1 b e
    rcases List.mem_cons.1 ha with e2 | e2
    ·exact e2.symm
    ·have:=h1.1 a e2;omega
  subst hab
  rw[kH f L l (List.perm_cons b |>.1 h) h1.2 h2.2]

theorem Sp.put_even'{s:Sp}(ok:SpOK s)(he:s.mem.Even)(kind tag:Int)(ws:List Int)(h:kind<=1->(ws.length:Int) % 2=0):(s.put kind tag ws).1.mem.Even:=by
 unfold Sp.put
 split
 ·rename_i ha
  obtain⟨_,gr⟩:=Sp.alloc_ok ok ha
  exact(aZ.sets _ _ _).even (gr.even he h).1
 ·exact he
theorem mj{m:Mem}{g:Int}{l:List Nat}(h: ∀k:Nat,m.has k->(m.seg k).gen<=g)(hl:dP m [] l):m.dirtyOf g l=[]:=by
 rw[List.eq_nil_iff_forall_not_mem]
 intro c hc
 obtain⟨k,hk,i,hi,rfl,h1,h2⟩:=Mem.mem_dirty.1 hc
 have:=h k (hl.has hk).1
 omega
theorem o9:(List.range 40).all (λk:Nat=>decide ((wn3.mem.seg k).gen<=0))=true:=by kernel_rfl
theorem nQ:wn3.mem.limit=40/\wn6.mem.limit=40/\wn7.mem.limit=40:=⟨by kernel_rfl,by kernel_rfl,by kernel_rfl⟩
theorem oE:decide (wn3.mem.has 4)=false:=by kernel_rfl
theorem pm:([0,1,2,3,4,5]:List Nat).Pairwise (λi j=>(wn7.mem.seg i).taken< (wn7.mem.seg j).taken):=by
 obtain⟨h0,h1,h2,h3,h4,h5⟩:=o7
 simp only[List.pairwise_cons,List.mem_cons,List.not_mem_nil,or_false,forall_eq_or_imp,forall_eq,h0,h1,h2,h3,h4,h5]
 simp
theorem nR{t:Tr}(ho:t.old=wnO)(hc:t.cards=[])(hf:seenAt t.frm 4=0){l:List Nat}(hl:dP wn7.mem [0] l):wn7.mem.weaks t l=[256]:=by
 have hp:=hl.perm
 rw[pl]at hp
 rw[kH (λi=>(wn7.mem.seg i).taken) [0,1,2,3,4,5] l hp hl.sorted pm]
 obtain⟨k0,k1,k3,k4,k5,n4,o2,o4⟩:=o8
 unfold Mem.weaks
 rw[hc]
 simp only[List.flatMap_cons,List.flatMap_nil,List.append_nil]
 have s: ∀k:Nat,¬((wn7.mem.seg k).kind=1/\t.old k=false)->wn7.mem.weakSeg t k=[]:=λk h=>by unfold Mem.weakSeg;rw[if_neg h]
 rw[s 0 (by rw[k0];simp),s 1 (by rw[k1];simp),s 2 (by rw[ho,o2];simp),s 3 (by rw[k3];simp),s 5 (by rw[k5];simp)]
 have e:wn7.mem.weakSeg t 4=[256]:=by
  unfold Mem.weakSeg
  rw[if_pos ⟨k4,by rw[ho];exact o4⟩,n4,show((4:Nat):Int)=4 from rfl,hf]
  rfl
 rw[e];rfl
set_option maxRecDepth 100000 in
set_option maxHeartbeats 1000000 in
theorem ni{H:zV}:bM.C H (λv H'=>v=.bool true/\Ext H H'):=by
 refine HC.via λR hR=>bM.link ?_
 unfold bM.pt
 refine HC.mono (mZ (limit:=40) (by decide)) ?_
 rintro _ H1 (⟨hc,rfl,e1⟩ | ⟨hc,b,x0,rfl,V1,hx,e1,hb1⟩)
 ·exact absurd (by decide) hc
 refine⟨_,_,rfl,?_⟩
 rw[if_pos rfl,onPtr_some]
 subst hx
 have V1':View H1 (some ⟨b.h,0,none⟩) (some (b,⟨wn0,.slice none 0 0,.slice none 0 0,0⟩)):=V1
 clear V1
 obtain⟨-,hp1,ok1⟩:=V1'.inv
 intro b2 H2 hb2 hH2
 have e2:Ext H1 H2:=Ext.push' hH2
 refine HC.mono (lU (ws:=[20,20]) (V1'.ext e2) (show aT H2 ⟨b2,0,none⟩ 0 (wvs [20,20])from kP (aL hb2 hH2)) rfl (by intro w hw;simp at hw;rw[hw];decide) (by decide) (by decide) (show(0:Int)<_ by decide) (by decide)) ?_
 rintro _ H3 ⟨rfl,V3,f3⟩
 have mR:ic (some (b,(⟨wn0,.slice none 0 0,.slice none 0 0,0⟩:Hp))) 10 0 [20,20]=(3,0):=by
  unfold ic;rw[if_neg (by decide),if_neg (by decide)];exact wn_1
 have mO:iF (some (b,(⟨wn0,.slice none 0 0,.slice none 0 0,0⟩:Hp))) 10 0 [20,20]=some (b,⟨wn1,.slice none 0 0,.slice none 0 0,0⟩):=by
  unfold iF;rw[if_neg (by decide),if_neg (by decide)];rfl
 rw[mO]at V3
 refine⟨3,0,by rw[mR],?_⟩
 refine HC.mono (lY V3 (by decide) (by decide) (show wn1.mem.count<_ by rw[lA.1];decide)) ?_
 rintro _ H4 ⟨rfl,V4,f4⟩
 refine⟨513,0,by rw[show putR (some (b,(⟨wn1,.slice none 0 0,.slice none 0 0,0⟩:Hp))) 0 1 [8,20]=(513,0)from wn_2],?_⟩
 have V4':View H4 (some ⟨b.h,0,none⟩) (some (b,⟨wn2,.slice none 0 0,.slice none 0 0,0⟩)):=V4
 clear V4
 refine HC.mono (lZ V4' (by decide) (by decide) (show wn2.mem.count<_ by rw[lA.2];decide)) ?_
 rintro _ H5 ⟨rfl,V5,f5⟩
 refine⟨1026,0,by rw[show putR (some (b,(⟨wn2,.slice none 0 0,.slice none 0 0,0⟩:Hp))) 1 2 [513,20]=(1026,0)from wn_3],?_⟩
 have V5':View H5 (some ⟨b.h,0,none⟩) (some (b,⟨wn3,.slice none 0 0,.slice none 0 0,0⟩)):=V5
 clear V5
 obtain⟨-,hp3,ok3⟩:=V3.inv
 obtain⟨-,hp4,ok4⟩:=V4'.inv
 obtain⟨-,hp5,ok5⟩:=V5'.inv
 have ev0:wn0.mem.Even:=l0 _
 have ev1:wn1.mem.Even:=Sp.put_even' ok1 ev0 2 3 _ (λh=>absurd h (by decide))
 have ev2:wn2.mem.Even:=Sp.put_even' ok3 ev1 0 1 _ (λ_=>by decide)
 have ev3:wn3.mem.Even:=Sp.put_even' ok4 ev2 1 2 _ (λ_=>by decide)
 have hownH: ∀x:Hp,∀j∈own (some (b,x)),H.size<=j:=λx j hj=>hb1 j (by simp[own]at hj;simp[Blk.all];omega)
 have hsp: ∀j∈spB b,H.size<=j:=λj hj=>hb1 j (fj hj)
 have E5:Ext H H5:=(((e1.trans e2).fr_trans f3 (hownH _)).fr_trans f4 (hownH _)).fr_trans f5 (hownH _)
 refine HC.mono (mb (x:=⟨wn3,.slice none 0 0,.slice none 0 0,0⟩) hp5 ok5 ev3 (show wn3.cf<_ by rw[pj.2.2.2];decide) (by decide) (by decide) (by decide)) ?_
 rintro v6 H6 ⟨hno,hyes⟩
 obtain⟨q,t0,rfl,T6,B,hq6,f6⟩:=hyes wn_s
 refine⟨_,_,rfl,?_⟩
 rw[if_pos rfl]
 have hcards:t0.cards=[]:=by
  obtain⟨l,hl,e⟩:=B.cards
  rw[e]
  refine mj (λk hk=>?_) hl
  have hk40:k<40:=by have:=hk.2.1;have h40:=nQ.1;rw[show(⟨wn3,.slice none 0 0,.slice none 0 0,0⟩:Hp).sp.mem=wn3.mem from rfl]at this;omega
  have h:=o9
  rw[List.all_eq_true]at h
  exact of_decide_eq_true (h k (List.mem_range.2 hk40))
 have hfrm:seenAt t0.frm 4=0:=by
  unfold seenAt
  rw[B.frm 4 (by decide),if_neg (λh=>absurd h.1 (of_decide_eq_false oE))]
 have hseen:ej t0.seen:=B.seenOK ok5.mem
 have hfok:ej t0.frm:=by
  intro k v hv
  rcases Int.lt_or_le k 0 with hk | hk
  ·rw[B.frm0 k hk]at hv;cases hv
  ·rw[B.frm k hk]at hv
   split at hv
   ·cases hv;exact⟨_,rfl,(ok5.mem.seg _).n⟩
   ·cases hv
 have htgt:t0.tgt=0:=B.tgt
 have T6':=T6.withOld (old:=wnO) (λk hk=>B.old k hk)
 obtain⟨t,ht⟩: ∃t:Tr,t={t0 with old:=wnO}:=⟨_,rfl⟩
 rw[<-ht]at T6'
 have a1:t.old=wnO:=by rw[ht]
 have a2:t.tgt=0:=by rw[ht];exact htgt
 have a3:t.cards=[]:=by rw[ht];exact hcards
 have a4:t.frm=t0.frm:=by rw[ht]
 have a5:t.seen=t0.seen:=by rw[ht]
 clear ht
 have T6n:Tg H6 b ⟨wn4,.slice none 0 0,.slice none 0 0,0⟩ q t:=T6'
 clear T6' T6
 refine HC.mono (fJ T6n (w:=3) (by decide)) ?_
 rw[a1,a2]
 rintro _ H7 ⟨rfl,T7,f7⟩
 have T7n:Tg H7 b ⟨wn5,.slice none 0 0,.slice none 0 0,0⟩ q t:=T7
 clear T7
 refine⟨1539,by rw[show((⟨wn4,.slice none 0 0,.slice none 0 0,0⟩:Hp).sp.visit wnO 0 3).2=1539 from wn_5],?_⟩
 refine HC.mono (fJ T7n (w:=1026) (by decide)) ?_
 rw[a1,a2]
 rintro _ H8 ⟨rfl,T8,f8⟩
 have T8n:Tg H8 b ⟨wn6,.slice none 0 0,.slice none 0 0,0⟩ q t:=T8
 clear T8
 refine⟨2050,by rw[show((⟨wn5,.slice none 0 0,.slice none 0 0,0⟩:Hp).sp.visit wnO 0 1026).2=2050 from wn_6],?_⟩
 refine HC.mono (jQ T8n (by rw[a5];exact hseen) (by rw[a2];decide)) ?_
 rintro _ H9 ⟨s9,ks9,hdr,-,T9,hso9,f9⟩
 rw[a1,a2]at hdr
 have hset6:=jZ (T:=0) nQ.2.1 T8n.ok.mem oz
 obtain⟨rfl,-⟩:=hdr.settled hset6 T8n.ok.mem (by rw[a5];exact hseen)
 have T9n:Tg H9 b ⟨wn6,.slice none 0 0,.slice none 0 0,0⟩ q {t with seen:=ks9}:=T9
 clear T9
 intro b10 H10 hb10 hH10
 have e10:Ext H9 H10:=Ext.push' hH10
 have z10:H10.size=H9.size+1:=by rw[hH10];simp
 have T10:=T9n.grow e10
 obtain⟨lo1,lo2,lo3⟩:=oA
 have hlt9: ∀i,i∈b.all\/i∈q.all->i<H9.size:=λi hi=>T9n.lt hi
 refine HC.mono (kS (a:=⟨b10,0,none⟩) (o:=513) (g:=1539) T10 hso9 (by show 0<=t.tgt;rw[a2];decide) (by decide) (by decide) (show aT H10 ⟨b10,0,none⟩ 0 [.int .u64 513,.int .u64 1539]from kP (aL hb10 hH10)) ⟨λh=>by have:=hlt9 b10 (.inl h);omega,λh=>by have:=hlt9 b10 (.inr h);omega⟩ (by show b10<H10.size;omega)
  ⟨by show aQ t.old 513;rw[a1];exact of_decide_eq_true lo1,lo2⟩ (.inl (by show ¬aQ t.old 1539;rw[a1];exact of_decide_eq_false lo3))) ?_
 rintro _ H11 ⟨rfl,s11,ks11,hdr2,-,T11,hso11,f11⟩
 refine⟨_,_,_,rfl,?_⟩
 have hdr3:eF wnO 0 wn7 ks9 s11 ks11:=by
  have:eF t.old t.tgt (((wn6.visit t.old t.tgt 513).1.visit t.old t.tgt 1539).1.putsG t.tgt ((wn6.visit t.old t.tgt 513).1.visit t.old t.tgt 1539).2 (wn6.visit t.old t.tgt 513).2) ks9 s11 ks11:=hdr2
  rw[a1,a2]at this
  exact this
 clear hdr2
 have ok7:SpOK wn7:=by
  have h1:SpOK (wn6.visit wnO 0 513).1:=Sp.visit_ok T9n.ok (by decide) (λ_=>trivial)
  have h2:SpOK ((wn6.visit wnO 0 513).1.visit wnO 0 1539).1:=Sp.visit_ok h1 (by decide) (λ_=>trivial)
  exact nF h2 (by decide) _ _ (Sp.visit_word h1 (by decide)) (Sp.visit_word T9n.ok (by decide))
 have hset7:=jZ (T:=0) nQ.2.2 ok7.mem oD
 obtain⟨rfl,-⟩:=hdr3.settled hset7 ok7.mem hso9
 have T11n:Tg H11 b ⟨wn7,.slice none 0 0,.slice none 0 0,0⟩ q {t with seen:=ks11}:=T11
 clear T11
 refine HC.mono (kf T11n (by show ej t.frm;rw[a4];exact hfok) (by show jr t.cards;rw[a3];intro c hc;cases hc)) ?_
 rintro _ H12 ⟨l12,hl12,T12,f12⟩
 have hl12':dP wn7.mem [0] l12:=by
  have:dP wn7.mem [t.tgt] l12:=hl12
  rw[a2]at this;exact this
 have hw12:=nR (t:={t with seen:=ks11}) a1 a3 (by show seenAt t.frm 4=0;rw[a4];exact hfrm) hl12'
 have T12n:Tg H12 b ⟨wn8,.slice none 0 0,.slice none 0 0,0⟩ q {t with seen:=ks11}:=by
  have:Tg H12 b ⟨{wn7 with mem:=(wn7.mem.weaks {t with seen:=ks11} l12).foldl (brkR t.old) wn7.mem},.slice none 0 0,.slice none 0 0,0⟩ q {t with seen:=ks11}:=T12
  rw[hw12,show brkR t.old=brkR wnO by rw[a1]]at this
  exact this
 clear T12
 refine HC.mono (nI T12n) ?_
 rintro _ H13 ⟨hp13,-,f13⟩
 have e13:wn8.ended {t with seen:=ks11}=wn9:=by
  unfold Sp.ended
  show(wn8.gives t.old 1024).agains t.cards=_
  rw[a1,a3];rfl
 have hp13':HpAt H13 b ⟨wn9,.slice none 0 0,.slice none 0 0,1⟩:=by
  have:HpAt H13 b ⟨wn8.ended {t with seen:=ks11},.slice none 0 0,.slice none 0 0,IntKind.wrap .u64 (0+1)⟩:=hp13
  rw[e13]at this;exact this
 have ok13:SpOK wn9:=Sp.gives_ok T12n.ok wnO 1024
 have V13:View H13 (some ⟨b.h,0,none⟩) (some (b,⟨wn9,.slice none 0 0,.slice none 0 0,1⟩)):=.real hp13' ok13
 have hmo:mof (some (b,(⟨wn9,.slice none 0 0,.slice none 0 0,1⟩:Hp)))=wn9.mem:=rfl
 refine HC.mono (kv V13 (w:=1539) (kind:=10) (i:=0) (by decide) (by decide)) ?_
 rintro _ H14 ⟨rfl,e14⟩
 refine⟨2577,0,by rw[hmo,wn_q.1,if_pos rfl,wn_q.2],?_⟩
 refine HC.mono (iT (V13.ext e14) (w:=2577) (by decide)) ?_
 rintro _ H15 ⟨rfl,e15⟩
 have E15:=e14.trans e15
 refine⟨2561,0,by rw[hmo,wn_a.1,if_pos rfl,wn_a.2],?_⟩
 refine HC.mono (iT (V13.ext E15) (w:=2050) (by decide)) ?_
 rintro _ H16 ⟨rfl,e16⟩
 have E16:=E15.trans e16
 refine⟨2561,0,by rw[hmo,wn_b.1,if_pos rfl,wn_b.2],?_⟩
 refine HC.mono (iT (V13.ext E16) (w:=2561) (by decide)) ?_
 rintro _ H17 ⟨rfl,e17⟩
 refine⟨8,0,by rw[hmo,wn_c.1,if_pos rfl,wn_c.2],hR _ _ ⟨by rfl,?_⟩⟩
 have z5:=E5.size
 have hqs: ∀j∈q.all,H.size<=j:=λj hj=>by have:=hq6 j hj;omega
 have hqsp: ∀j∈q.s::spB b,H.size<=j:=λj hj=>by
  rcases List.mem_cons.1 hj with h | h
  ·rw[h];exact hqs _ (by simp[TB.all])
  ·exact hsp j h
 have E9:Ext H H9:=(((E5.fr_trans f6 hsp).fr_trans f7 hsp).fr_trans f8 hsp).fr_trans f9 hqsp
 have E12:Ext H H12:=(((E9.trans e10).fr_trans f11 hqsp).fr_trans f12 hsp)
 have E13:Ext H H13:=E12.fr_trans f13 (λj hj=>by
  rcases List.mem_cons.1 hj with h | h
  ·rw[h];exact hb1 _ (by simp[Blk.all])
  ·rcases List.mem_cons.1 h with h | h
   ·rw[h];exact hqs _ (by simp[TB.all])
   ·exact hsp j h)
 exact E13.trans (E16.trans e17)
