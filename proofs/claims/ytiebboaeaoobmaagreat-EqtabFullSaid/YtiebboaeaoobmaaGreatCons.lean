/-
 Pairs of an abstract memory: what is made stays, with its words; what is set is set; objects and pairs beside each other. Proves nothing of any one statement.
-/
import Derived.Test.YtiebboaeaoobmaaGreatLive
set_option linter.unusedVariables false
set_option linter.unusedSimpArgs false
namespace Go.Proofs.YtiebboaeaoobmaaGreat
open Go

def Mem.Even(m:Mem):Prop:= ∀k,(m.seg k).kind<=1->(m.seg k).n % 2=0
theorem my(limit:Nat):(Mem.fresh limit).Even:=λ_ _=>rfl
theorem bG.even{m m':Mem}(h:bG m m')(he:m.Even):m'.Even:=λk hk=>by
 rw[(h.seg k).2.2.1];exact he k (by rw[<-(h.seg k).2.1];exact hk)
theorem Mem.Even.store{m:Mem}(h:m.Even)(a w:Int):(m.store a w).1.Even:=λk hk=>by
 rw[(Mem.store_seg k).2.2];exact h k (by rw[<-(Mem.store_seg k).2.1];exact hk)
theorem Grown.even{m m':Mem}{a n g k:Int}(gr:Grown m m' a n g k)(he:m.Even)(hn:k<=1->n % 2=0):m'.Even/\(k<=1->a % 2=0):=by
 obtain⟨a0,a1,a2⟩:=gr.addr
 have h1:k<=1->a % 64 % 2=0:=λhk=>by
  by_cases ht:(m.seg (a / 64).toNat).taken=0
  ·rw[gr.fresh ht];rfl
  ·obtain⟨_,o2,o3,_⟩:=gr.old ht
   rw[<-o3];exact he _ (by rw[o2];exact hk)
 refine⟨λj hj=>?_,λhk=>by have:=h1 hk;omega⟩
 by_cases e:j=(a / 64).toNat
 ·subst e
  obtain⟨_,_,n3,n4⟩:=gr.new
  rw[n3]at hj
  have:=h1 hj
  have:=hn hj
  rw[n4];omega
 ·rw[gr.others j e]at hj⊢;exact he j hj

structure Pr (m:Mem) (w tag a d:Int):Prop where
 word:aG w
 istag:tag=1\/tag=2
 at':m.atW w tag (tag-1)
 even:w / 8 % 2=0
 used:m.used (w / 8+1)
 car:m.get (w / 8)=a
 cdr:m.get (w / 8+1)=d
theorem Pr.isPair{m:Mem}{w tag a d:Int}(h:Pr m w tag a d):m.isPair w:=by
 refine⟨?_,h.even⟩
 rcases h.istag with e | e
 ·have:=h.at';rw[e]at this;exact .inl this
 ·have:=h.at';rw[e]at this;exact .inr this
theorem Pr.half{m:Mem}{w tag a d:Int}(h:Pr m w tag a d):m.halfE w 0=0/\m.halfE w 1=0:=by
 unfold Mem.halfE
 rw[if_pos h.isPair,if_pos h.isPair,if_pos h.used]
 refine⟨?_,rfl⟩
 rw[if_pos]
 rw[show w / 8+0=w / 8 by omega];exact h.at'.used h.word
theorem dA.notPair{m:Mem}{w kind more:Int}{ws:List Int}(h:dA m w kind more ws): ¬m.isPair w:=λhp=>by
 have h3:=h.obj.1.2.1
 rcases hp.1 with hp | hp<;>have:=hp.2.1<;>omega
theorem Pr.size{m:Mem}{w tag a d:Int}(h:Pr m w tag a d):m.sizeOf w=2:=by unfold Mem.sizeOf;rw[if_pos h.isPair]
theorem dA.size{m:Mem}{w kind more:Int}{ws:List Int}(h:dA m w kind more ws):m.sizeOf w=ws.length+1:=by
 unfold Mem.sizeOf;rw[if_neg h.notPair,if_pos h.obj,h.len]
theorem Pr.keep{m m':Mem}{w tag a d:Int}(h:Pr m w tag a d)(k:Keep m m'):Pr m' w tag a d:=by
 obtain⟨u1,u2,u3,_,_⟩:=k.used _ (h.at'.used h.word)
 obtain⟨v1,v2,_⟩:=k.used _ h.used
 exact⟨h.word,h.istag,⟨h.at'.1,h.at'.2.1,u1.2.1,by rw[u3];exact h.at'.2.2.2.1,u1.2.2⟩,h.even,v1,by rw[u2];exact h.car,by rw[v2];exact h.cdr⟩
theorem Pr.usedAll{m:Mem}{w tag a d:Int}(h:Pr m w tag a d){i:Nat}(hi:i<=1):m.used (w / 8+i):=by
 have:i=0\/i=1:=by omega
 rcases this with rfl | rfl
 ·have:=h.at'.used h.word;simpa using this
 ·exact h.used
theorem Sp.cons_ok0{s:Sp}(ok:SpOK s)(he:s.mem.Even){tag x y:Int}(ht:tag=1\/tag=2)(hx:aG x)(hy:aG y)(hal:(s.alloc 0 (tag-1) 2).2.2=0):
  (s.put (tag-1) tag [x,y]).2.2=0/\Pr (s.put (tag-1) tag [x,y]).1.mem (s.put (tag-1) tag [x,y]).2.1 tag x y/\SpOK (s.put (tag-1) tag [x,y]).1/\Made s.mem (s.put (tag-1) tag [x,y]).1.mem (s.put (tag-1) tag [x,y]).2.1 1/\(s.put (tag-1) tag [x,y]).1.mem.Even:=by
 have hmay:may 0 (tag-1) (([x,y]:List Int).length:Nat):=⟨by omega,.inl ⟨by omega,rfl⟩⟩
 have hal:(s.alloc 0 (tag-1) (([x,y]:List Int).length:Nat)).2.2=0:=hal
 have hall: ∀w∈[x,y],aG w:=λw hw=>by
  simp at hw;rcases hw with rfl | rfl<;>assumption
 obtain⟨a,e1,gr,e2,ok2,a64,_⟩:=Sp.put_ok (tag:=tag) ok hmay (by omega) hall hal
 obtain⟨kp,hget,hused⟩:=gr.lay ok.mem
 have sm:=bG.sets [x,y] (s.alloc 0 (tag-1) (([x,y]:List Int).length:Nat)).1.mem a
 obtain⟨ev,ev2⟩:=gr.even he (λ_=>by simp)
 have ev2:=ev2 (by omega)
 rw[e1,e2]
 obtain⟨a0,a1,a2⟩:=gr.addr
 simp only[List.length_cons,List.length_nil]at a2
 have ew:(a*8+tag) / 8=a:=by omega
 have hu0:=hused 0 (by simp)
 have hu1:=hused 1 (by simp)
 rw[show a+((0:Nat):Int)=a by omega]at hu0
 refine⟨rfl,⟨⟨by omega,by omega⟩,ht,⟨⟨by omega,by omega⟩,by omega,by rw[ew];exact hu0.2.1,?_,by rw[ew];exact hu0.2.2⟩,by rw[ew];exact ev2,by rw[ew];exact hu1,?_,?_⟩,ok2,⟨kp,?_,?_,?_⟩,sm.even ev⟩
 ·rw[ew,(sm.seg _).2.1,gr.new.2.2.1]
 ·rw[ew,hget a a0,if_pos ⟨by omega,by simp<;>omega⟩];simp
 ·rw[ew,hget _ (by omega),if_pos ⟨by omega,by simp<;>omega⟩,show(a+1-a).toNat=1 by omega];rfl
 ·rw[sm.free];exact gr.free
 ·rw[sm.count];exact gr.count
 ·rw[ew]
  intro i hi hu
  have e1:(a+i) / 64=a / 64:=by omega
  have e2:(a+i) % 64=a % 64+i:=by omega
  by_cases h0:(s.mem.seg (a / 64).toNat).taken=0
  ·have:=hu.2.1.2.2
   rw[e1]at this
   exact this h0
  ·have h3:=(gr.old h0).2.2.1
   have h4:=hu.2.2
   rw[e1,e2]at h4
   omega
theorem Sp.cons_ok{s:Sp}(ok:SpOK s)(he:s.mem.Even){tag x y:Int}(ht:tag=1\/tag=2)(hx:aG x)(hy:aG y)(hf:1<=s.mem.free):
  (s.put (tag-1) tag [x,y]).2.2=0/\Pr (s.put (tag-1) tag [x,y]).1.mem (s.put (tag-1) tag [x,y]).2.1 tag x y/\SpOK (s.put (tag-1) tag [x,y]).1/\Made s.mem (s.put (tag-1) tag [x,y]).1.mem (s.put (tag-1) tag [x,y]).2.1 1/\(s.put (tag-1) tag [x,y]).1.mem.Even:=
 Sp.cons_ok0 ok he ht hx hy (Sp.alloc_can ok ⟨by omega,.inl ⟨by omega,rfl⟩⟩ hf)
theorem Sp.cons_no{s:Sp}{tag x y:Int}(hal:(s.alloc 0 (tag-1) 2).2.2≠0):(s.put (tag-1) tag [x,y]).1=s/\(s.put (tag-1) tag [x,y]).2.2≠0:=by
 have hal': ¬(s.alloc 0 (tag-1) (([x,y]:List Int).length:Nat)).2.2=0:=hal
 unfold Sp.put
 rw[if_neg hal']
 exact⟨rfl,hal⟩
theorem Pr.set{m:Mem}{w tag a d v:Int}(h:Pr m w tag a d)(ok:bC m){i:Int}(hi:i=0\/i=1):Pr (m.store (w / 8+i) v).1 w tag (if i=0 then v else a) (if i=0 then d else v):=by
 have w0:0<=w / 8:=by have:=h.word.1;omega
 have hu0:=h.at'.used h.word
 have hu:m.used (w / 8+i):=by
  rcases hi with rfl | rfl
  ·rw[Int.add_zero];exact hu0
  ·exact h.used
 refine⟨h.word,h.istag,⟨h.at'.1,h.at'.2.1,Mem.store_has.2 h.at'.2.2.1,by rw[(Mem.store_seg _).2.1];exact h.at'.2.2.2.1,by rw[(Mem.store_seg _).2.2];exact h.at'.2.2.2.2⟩,h.even,Mem.store_used.2 h.used,?_,?_⟩
 ·rw[Mem.store_get hu _ w0]
  rcases hi with rfl | rfl
  ·rw[if_pos (by omega),if_pos rfl]
  ·rw[if_neg (by omega),if_neg (by decide)];exact h.car
 ·rw[Mem.store_get hu _ (by omega)]
  rcases hi with rfl | rfl
  ·rw[if_neg (by omega),if_pos rfl];exact h.cdr
  ·rw[if_pos rfl,if_neg (by decide)]
theorem Pr.setOther{m:Mem}{w tag a d v x:Int}(h:Pr m w tag a d)(hu:m.used x)(h0:x≠w / 8)(h1:x≠w / 8+1):Pr (m.store x v).1 w tag a d:=by
 have w0:0<=w / 8:=by have:=h.word.1;omega
 exact⟨h.word,h.istag,⟨h.at'.1,h.at'.2.1,Mem.store_has.2 h.at'.2.2.1,by rw[(Mem.store_seg _).2.1];exact h.at'.2.2.2.1,by rw[(Mem.store_seg _).2.2];exact h.at'.2.2.2.2⟩,h.even,Mem.store_used.2 h.used,
  by rw[Mem.store_get hu _ w0,if_neg (λe=>h0 e.symm)];exact h.car,by rw[Mem.store_get hu _ (by omega),if_neg (λe=>h1 e.symm)];exact h.cdr⟩
theorem dA.setFar{m:Mem}{w kind more v x:Int}{ws:List Int}(h:dA m w kind more ws)(hu:m.used x)(hd: ∀j:Nat,j<=ws.length->w / 8+j≠x):dA (m.store x v).1 w kind more ws:=by
 have w0:0<=w / 8:=by have:=h.word.1;omega
 have ho:=h.obj
 have e0:(m.store x v).1.get (w / 8)=m.get (w / 8):=by
  rw[Mem.store_get hu _ w0,if_neg (by have:=hd 0 (by omega);simpa using this)]
 refine⟨h.word,⟨⟨ho.1.1,ho.1.2.1,Mem.store_has.2 ho.1.2.2.1,?_,?_⟩,by rw[e0];exact ho.2.1,?_⟩,by rw[e0];exact h.kindEq,by rw[e0];exact h.lenEq,by rw[e0];exact h.moreEq,λj hj=>?_⟩
 ·rw[e0,(Mem.store_seg _).2.1];exact ho.1.2.2.2.1
 ·rw[(Mem.store_seg _).2.2];exact ho.1.2.2.2.2
 ·rw[e0,(Mem.store_seg _).2.2];exact ho.2.2
 ·rw[Mem.store_get hu _ (by omega),if_neg (by have:=hd (j+1) (by omega);omega)];exact h.get j hj

