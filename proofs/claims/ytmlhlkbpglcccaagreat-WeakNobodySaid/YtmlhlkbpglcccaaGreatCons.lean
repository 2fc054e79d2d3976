/-
 A heap of a law's own: what is made on it. Proves nothing of any one statement.
-/
import Derived.Test.YtmlhlkbpglcccaaGreatPair
set_option linter.unusedVariables false
set_option linter.unusedSimpArgs false
namespace Go.Proofs.YtmlhlkbpglcccaaGreat
open Go

theorem View.inv{H:zV}{hv:zW}{b:Blk}{x:Hp}(V:View H hv (some (b,x))):hv=some ⟨b.h,0,none⟩/\HpAt H b x/\SpOK x.sp:=by
 cases V with
 | real h ok=>exact⟨rfl,h,ok⟩

structure Live (H0 H:zV) (b:Blk) (x:Hp):Prop where
 at':HpAt H b x
 ok:SpOK x.sp
 ext:Ext H0 H
 young: ∀i,i∈b.all->H0.size<=i
theorem Live.view{H0 H:zV}{b:Blk}{x:Hp}(h:Live H0 H b x):View H (some ⟨b.h,0,none⟩) (some (b,x)):=.real h.at' h.ok
theorem Live.grow{H0 H H':zV}{b:Blk}{x:Hp}(h:Live H0 H b x)(e:Ext H H'):Live H0 H' b x:=⟨h.at'.ext e,h.ok,h.ext.trans e,h.young⟩
theorem Live.step{H0 H H':zV}{b:Blk}{x x':Hp}(h:Live H0 H b x)(V:View H' (some ⟨b.h,0,none⟩) (some (b,x')))(f:Fr (own (some (b,x))) H H'):Live H0 H' b x':=by
 obtain⟨_,h',ok'⟩:=V.inv
 exact⟨h',ok',h.ext.fr_trans f (λi hi=>h.young i (by simp[own]at hi;simp[Blk.all];omega)),h.young⟩
theorem Live.others{H H':zV}{b:Blk}{x:Hp}(f:Fr (own (some (b,x))) H H'):Fr b.all H H':=f.mono (λi hi _=>by simp[own]at hi;simp[Blk.all];omega)
theorem Live.n64{H0 H:zV}{b:Blk}{x:Hp}(h:Live H0 H b x)(k:Nat):(x.sp.mem.seg k).n<=64:=(h.ok.mem.seg k).n.2


def Mem.Even(m:Mem):Prop:= ∀k,(m.seg k).kind<=1->(m.seg k).n % 2=0
theorem l0(limit:Nat):(Mem.fresh limit).Even:=λ_ _=>rfl
theorem aZ.even{m m':Mem}(h:aZ m m')(he:m.Even):m'.Even:=λk hk=>by
 rw[(h.seg k).2.2.1];exact he k (by rw[<-(h.seg k).2.1];exact hk)
theorem Mem.Even.store{m:Mem}(h:m.Even)(a w:Int):(m.store a w).1.Even:=λk hk=>by
 rw[(Mem.store_seg k).2.2];exact h k (by rw[<-(Mem.store_seg k).2.1];exact hk)
theorem Grown.even{m m':Mem}{a n g k:Int}(gr:Grown m m' a n g k)(he:m.Even)(hn:k<=1->n % 2=0):m'.Even/\(k<=1->a % 2=0):=by
 obtain⟨a0,a1,a2⟩:=gr.addr
 have h1:k<=1->a % 64 % 2=0:=λhk=>by
  by_cases ht:(m.seg (a / 64).toNat).taken=0
  ·rw[gr.fresh ht];rfl
  ·obtain⟨_,o2,o3,_⟩:=gr.old ht
   rw[<-o3];exact he _ (by rw[o2];exact hk)
 refine⟨λj hj=>?_,λhk=>by have:=h1 hk;omega⟩
 by_cases e:j=(a / 64).toNat
 ·subst e
  obtain⟨_,_,n3,n4⟩:=gr.new
  rw[n3]at hj
  have:=h1 hj
  have:=hn hj
  rw[n4];omega
 ·rw[gr.others j e]at hj⊢;exact he j hj

structure Pr (m:Mem) (w tag a d:Int):Prop where
 word:aH w
 istag:tag=1\/tag=2
 at':m.atW w tag (tag-1)
 even:w / 8 % 2=0
 used:m.used (w / 8+1)
 car:m.get (w / 8)=a
 cdr:m.get (w / 8+1)=d
theorem Pr.isPair{m:Mem}{w tag a d:Int}(h:Pr m w tag a d):m.isPair w:=by
 refine⟨?_,h.even⟩
 rcases h.istag with e | e
 ·have:=h.at';rw[e]at this;exact .inl this
 ·have:=h.at';rw[e]at this;exact .inr this
theorem fy.notPair{m:Mem}{w kind more:Int}{ws:List Int}(h:fy m w kind more ws): ¬m.isPair w:=λhp=>by
 have h3:=h.obj.1.2.1
 rcases hp.1 with hp | hp<;>have:=hp.2.1<;>omega
theorem Pr.size{m:Mem}{w tag a d:Int}(h:Pr m w tag a d):m.sizeOf w=2:=by unfold Mem.sizeOf;rw[if_pos h.isPair]
theorem fy.size{m:Mem}{w kind more:Int}{ws:List Int}(h:fy m w kind more ws):m.sizeOf w=ws.length+1:=by
 unfold Mem.sizeOf;rw[if_neg h.notPair,if_pos h.obj,h.len]
theorem Pr.keep{m m':Mem}{w tag a d:Int}(h:Pr m w tag a d)(k:Keep m m'):Pr m' w tag a d:=by
 obtain⟨u1,u2,u3,_,_⟩:=k.used _ (h.at'.used h.word)
 obtain⟨v1,v2,_⟩:=k.used _ h.used
 exact⟨h.word,h.istag,⟨h.at'.1,h.at'.2.1,u1.2.1,by rw[u3];exact h.at'.2.2.2.1,u1.2.2⟩,h.even,v1,by rw[u2];exact h.car,by rw[v2];exact h.cdr⟩
theorem Pr.set{m:Mem}{w tag a d v:Int}(h:Pr m w tag a d)(ok:bI m){i:Int}(hi:i=0\/i=1):Pr (m.store (w / 8+i) v).1 w tag (if i=0 then v else a) (if i=0 then d else v):=by
 have w0:0<=w / 8:=by have:=h.word.1;omega
 have hu0:=h.at'.used h.word
 have hu:m.used (w / 8+i):=by
  rcases hi with rfl | rfl
  ·rw[Int.add_zero];exact hu0
  ·exact h.used
 refine⟨h.word,h.istag,⟨h.at'.1,h.at'.2.1,Mem.store_has.2 h.at'.2.2.1,by rw[(Mem.store_seg _).2.1];exact h.at'.2.2.2.1,by rw[(Mem.store_seg _).2.2];exact h.at'.2.2.2.2⟩,h.even,Mem.store_used.2 h.used,?_,?_⟩
 ·rw[Mem.store_get hu _ w0]
  rcases hi with rfl | rfl
  ·rw[if_pos (by omega),if_pos rfl]
  ·rw[if_neg (by omega),if_neg (by decide)];exact h.car
 ·rw[Mem.store_get hu _ (by omega)]
  rcases hi with rfl | rfl
  ·rw[if_neg (by omega),if_pos rfl];exact h.cdr
  ·rw[if_pos rfl,if_neg (by decide)]
