/-
 A heap of a law's own: what is made on it. Proves nothing of any one statement.
-/
import Derived.Test.YtffacgdneichhaaGreatDoorText
set_option linter.unusedVariables false
set_option linter.unusedSimpArgs false
namespace Go.Proofs.YtffacgdneichhaaGreatDoor
open Go

theorem View.inv{H:zV}{hv:zW}{b:Blk}{x:Hp}(V:View H hv (some (b,x))):hv=some ⟨b.h,0,none⟩/\HpAt H b x/\SpOK x.sp:=by
 cases V with
 | real h ok=>exact⟨rfl,h,ok⟩

structure Live (H0 H:zV) (b:Blk) (x:Hp):Prop where
 at':HpAt H b x
 ok:SpOK x.sp
 ext:Ext H0 H
 young: ∀i,i∈b.all->H0.size<=i
theorem Live.view{H0 H:zV}{b:Blk}{x:Hp}(h:Live H0 H b x):View H (some ⟨b.h,0,none⟩) (some (b,x)):=.real h.at' h.ok
theorem Live.grow{H0 H H':zV}{b:Blk}{x:Hp}(h:Live H0 H b x)(e:Ext H H'):Live H0 H' b x:=⟨h.at'.ext e,h.ok,h.ext.trans e,h.young⟩
theorem Live.step{H0 H H':zV}{b:Blk}{x x':Hp}(h:Live H0 H b x)(V:View H' (some ⟨b.h,0,none⟩) (some (b,x')))(f:Fr (own (some (b,x))) H H'):Live H0 H' b x':=by
 obtain⟨_,h',ok'⟩:=V.inv
 exact⟨h',ok',h.ext.fr_trans f (λi hi=>h.young i (by simp[own]at hi;simp[Blk.all];omega)),h.young⟩
theorem Live.others{H H':zV}{b:Blk}{x:Hp}(f:Fr (own (some (b,x))) H H'):Fr b.all H H':=f.mono (λi hi _=>by simp[own]at hi;simp[Blk.all];omega)
theorem Live.n64{H0 H:zV}{b:Blk}{x:Hp}(h:Live H0 H b x)(k:Nat):(x.sp.mem.seg k).n<=64:=(h.ok.mem.seg k).n.2

theorem kE(b:Blk)(x:Hp)(kind more:Int)(ws:List Int):fV (some (b,x)) kind more ws=(x.sp.make kind more ws).2/\ga (some (b,x)) kind more ws=some (b,{x with sp:=(x.sp.make kind more ws).1}):=by
 unfold fV ga Sp.make
 split
 ·exact⟨rfl,rfl⟩
 split
 ·exact⟨rfl,rfl⟩
 ·exact⟨rfl,rfl⟩

structure sv (x x':Hp) (w kind more:Int) (ws:List Int):Prop where
 thing:cE x'.sp.mem w kind more ws
 made:Made x.sp.mem x'.sp.mem w ws.length
theorem p8{H0 H:zV}{b:Blk}{x:Hp}(L:Live H0 H b x){kind more:Int}{ws:List Int}(hkd:1<=kind/\kind<=13)(hmo:0<=more/\more<281474976710656)(hl:ws.length<=62)(hw: ∀w∈ws,aJ w)(hf:1<=x.sp.mem.free):
  ∃(w:Int) (x':Hp),fV (some (b,x)) kind more ws=(w,0)/\ga (some (b,x)) kind more ws=some (b,x')/\sv x x' w kind more ws:=by
 obtain⟨h1,h2,h3,h4⟩:=Sp.make_ok L.ok hkd hmo hl hw hf
 obtain⟨e1,e2⟩:=kE b x kind more ws
 exact⟨_,_,by rw[e1,<-h1],e2,⟨h2,h4⟩⟩

def Mem.Even(m:Mem):Prop:= ∀k,(m.seg k).kind<=1->(m.seg k).n % 2=0
theorem lM(limit:Nat):(Mem.fresh limit).Even:=λ_ _=>rfl
theorem bD.even{m m':Mem}(h:bD m m')(he:m.Even):m'.Even:=λk hk=>by
 rw[(h.seg k).2.2.1];exact he k (by rw[<-(h.seg k).2.1];exact hk)
theorem Mem.Even.store{m:Mem}(h:m.Even)(a w:Int):(m.store a w).1.Even:=λk hk=>by
 rw[(Mem.store_seg k).2.2];exact h k (by rw[<-(Mem.store_seg k).2.1];exact hk)
theorem Grown.even{m m':Mem}{a n g k:Int}(gr:Grown m m' a n g k)(he:m.Even)(hn:k<=1->n % 2=0):m'.Even/\(k<=1->a % 2=0):=by
 obtain⟨a0,a1,a2⟩:=gr.addr
 have h1:k<=1->a % 64 % 2=0:=λhk=>by
  by_cases ht:(m.seg (a / 64).toNat).taken=0
  ·rw[gr.fresh ht];rfl
  ·obtain⟨_,o2,o3,_⟩:=gr.old ht
   rw[<-o3];exact he _ (by rw[o2];exact hk)
 refine⟨λj hj=>?_,λhk=>by have:=h1 hk;omega⟩
 by_cases e:j=(a / 64).toNat
 ·subst e
  obtain⟨_,_,n3,n4⟩:=gr.new
  rw[n3]at hj
  have:=h1 hj
  have:=hn hj
  rw[n4];omega
 ·rw[gr.others j e]at hj⊢;exact he j hj

structure Pr (m:Mem) (w tag a d:Int):Prop where
 word:aJ w
 istag:tag=1\/tag=2
 at':m.atW w tag (tag-1)
 even:w / 8 % 2=0
 used:m.used (w / 8+1)
 car:m.get (w / 8)=a
 cdr:m.get (w / 8+1)=d
theorem Pr.isPair{m:Mem}{w tag a d:Int}(h:Pr m w tag a d):m.isPair w:=by
 refine⟨?_,h.even⟩
 rcases h.istag with e | e
 ·have:=h.at';rw[e]at this;exact .inl this
 ·have:=h.at';rw[e]at this;exact .inr this
theorem Pr.half{m:Mem}{w tag a d:Int}(h:Pr m w tag a d):m.halfE w 0=0/\m.halfE w 1=0:=by
 unfold Mem.halfE
 rw[if_pos h.isPair,if_pos h.isPair,if_pos h.used]
 refine⟨?_,rfl⟩
 rw[if_pos]
 rw[show w / 8+0=w / 8 by omega];exact h.at'.used h.word
theorem Pr.notObj{m:Mem}{w tag a d:Int}(h:Pr m w tag a d): ¬m.isObj w:=su (by have:=h.at'.2.1;have:=h.istag;omega)
theorem cE.notPair{m:Mem}{w kind more:Int}{ws:List Int}(h:cE m w kind more ws): ¬m.isPair w:=λhp=>by
 have h3:=h.obj.1.2.1
 rcases hp.1 with hp | hp<;>have:=hp.2.1<;>omega
theorem Pr.size{m:Mem}{w tag a d:Int}(h:Pr m w tag a d):m.sizeOf w=2:=by unfold Mem.sizeOf;rw[if_pos h.isPair]
theorem cE.size{m:Mem}{w kind more:Int}{ws:List Int}(h:cE m w kind more ws):m.sizeOf w=ws.length+1:=by
 unfold Mem.sizeOf;rw[if_neg h.notPair,if_pos h.obj,h.len]
theorem Pr.keep{m m':Mem}{w tag a d:Int}(h:Pr m w tag a d)(k:Keep m m'):Pr m' w tag a d:=by
 obtain⟨u1,u2,u3,_,_⟩:=k.used _ (h.at'.used h.word)
 obtain⟨v1,v2,_⟩:=k.used _ h.used
 exact⟨h.word,h.istag,⟨h.at'.1,h.at'.2.1,u1.2.1,by rw[u3];exact h.at'.2.2.2.1,u1.2.2⟩,h.even,v1,by rw[u2];exact h.car,by rw[v2];exact h.cdr⟩
theorem Pr.usedAll{m:Mem}{w tag a d:Int}(h:Pr m w tag a d){i:Nat}(hi:i<=1):m.used (w / 8+i):=by
 have:i=0\/i=1:=by omega
 rcases this with rfl | rfl
 ·have:=h.at'.used h.word;simpa using this
 ·exact h.used
theorem Sp.make_even{s:Sp}(ok:SpOK s)(he:s.mem.Even)(kind more:Int)(ws:List Int)(hw: ∀w∈ws,aJ w):(s.make kind more ws).1.mem.Even:=by
 unfold Sp.make
 split
 ·exact he
 split
 ·exact he
 ·rename_i h1 h2
  generalize (more*65536+ws.length*256+kind*8+5)::ws=us
  unfold Sp.put
  split
  ·rename_i hf
   obtain⟨_,gr⟩:=Sp.alloc_ok ok hf
   exact(bD.sets us _ _).even (gr.even he (λhk=>by unfold rawK at hk;split at hk<;>omega)).1
  ·exact he

theorem Pr.set{m:Mem}{w tag a d v:Int}(h:Pr m w tag a d)(ok:aY m){i:Int}(hi:i=0\/i=1):Pr (m.store (w / 8+i) v).1 w tag (if i=0 then v else a) (if i=0 then d else v):=by
 have w0:0<=w / 8:=by have:=h.word.1;omega
 have hu0:=h.at'.used h.word
 have hu:m.used (w / 8+i):=by
  rcases hi with rfl | rfl
  ·rw[Int.add_zero];exact hu0
  ·exact h.used
 refine⟨h.word,h.istag,⟨h.at'.1,h.at'.2.1,Mem.store_has.2 h.at'.2.2.1,by rw[(Mem.store_seg _).2.1];exact h.at'.2.2.2.1,by rw[(Mem.store_seg _).2.2];exact h.at'.2.2.2.2⟩,h.even,Mem.store_used.2 h.used,?_,?_⟩
 ·rw[Mem.store_get hu _ w0]
  rcases hi with rfl | rfl
  ·rw[if_pos (by omega),if_pos rfl]
  ·rw[if_neg (by omega),if_neg (by decide)];exact h.car
 ·rw[Mem.store_get hu _ (by omega)]
  rcases hi with rfl | rfl
  ·rw[if_neg (by omega),if_pos rfl];exact h.cdr
  ·rw[if_pos rfl,if_neg (by decide)]
theorem Pr.setOther{m:Mem}{w tag a d v x:Int}(h:Pr m w tag a d)(hu:m.used x)(h0:x≠w / 8)(h1:x≠w / 8+1):Pr (m.store x v).1 w tag a d:=by
 have w0:0<=w / 8:=by have:=h.word.1;omega
 exact⟨h.word,h.istag,⟨h.at'.1,h.at'.2.1,Mem.store_has.2 h.at'.2.2.1,by rw[(Mem.store_seg _).2.1];exact h.at'.2.2.2.1,by rw[(Mem.store_seg _).2.2];exact h.at'.2.2.2.2⟩,h.even,Mem.store_used.2 h.used,
  by rw[Mem.store_get hu _ w0,if_neg (λe=>h0 e.symm)];exact h.car,by rw[Mem.store_get hu _ (by omega),if_neg (λe=>h1 e.symm)];exact h.cdr⟩
theorem cE.setFar{m:Mem}{w kind more v x:Int}{ws:List Int}(h:cE m w kind more ws)(hu:m.used x)(hd: ∀j:Nat,j<=ws.length->w / 8+j≠x):cE (m.store x v).1 w kind more ws:=by
 have w0:0<=w / 8:=by have:=h.word.1;omega
 have ho:=h.obj
 have e0:(m.store x v).1.get (w / 8)=m.get (w / 8):=by
  rw[Mem.store_get hu _ w0,if_neg (by have:=hd 0 (by omega);simpa using this)]
 refine⟨h.word,⟨⟨ho.1.1,ho.1.2.1,Mem.store_has.2 ho.1.2.2.1,?_,?_⟩,by rw[e0];exact ho.2.1,?_⟩,by rw[e0];exact h.kindEq,by rw[e0];exact h.lenEq,by rw[e0];exact h.moreEq,λj hj=>?_⟩
 ·rw[e0,(Mem.store_seg _).2.1];exact ho.1.2.2.2.1
 ·rw[(Mem.store_seg _).2.2];exact ho.1.2.2.2.2
 ·rw[e0,(Mem.store_seg _).2.2];exact ho.2.2
 ·rw[Mem.store_get hu _ (by omega),if_neg (by have:=hd (j+1) (by omega);omega)];exact h.get j hj

structure sw (x x':Hp) (w tag a d:Int):Prop where
 pr:Pr x'.sp.mem w tag a d
 made:Made x.sp.mem x'.sp.mem w 1
 even:x'.sp.mem.Even
 rest:x'.sy=x.sy/\x'.en=x.en/\x'.ep=x.ep
theorem lO{H0 H:zV}{b:Blk}{x x':Hp}(L:Live H0 H b x)(he:x.sp.mem.Even){kind more:Int}{ws:List Int}(hw: ∀w∈ws,aJ w)(h:ga (some (b,x)) kind more ws=some (b,x')):x'.sp.mem.Even/\x'.sy=x.sy/\x'.en=x.en/\x'.ep=x.ep:=by
 rw[(kE b x kind more ws).2]at h
 cases h
 exact⟨Sp.make_even L.ok he kind more ws hw,rfl,rfl,rfl⟩


structure lP (x x':Hp) (w kind more:Int) (ws:List Int):Prop where
 thing:cE x'.sp.mem w kind more ws
 made:Made x.sp.mem x'.sp.mem w ws.length
 even:x'.sp.mem.Even
 rest:x'.sy=x.sy/\x'.en=x.en/\x'.ep=x.ep
theorem mO{H0 H:zV}{b:Blk}{x:Hp}(L:Live H0 H b x)(he:x.sp.mem.Even){kind more:Int}{ws:List Int}(hkd:1<=kind/\kind<=13)(hmo:0<=more/\more<281474976710656)(hl:ws.length<=62)(hw: ∀w∈ws,aJ w)(hf:1<=x.sp.mem.free):
  ∃(w:Int) (x':Hp),fV (some (b,x)) kind more ws=(w,0)/\ga (some (b,x)) kind more ws=some (b,x')/\lP x x' w kind more ws:=by
 obtain⟨w,x',e1,e2,hm⟩:=p8 L hkd hmo hl hw hf
 obtain⟨h1,h2,h3,h4⟩:=lO L he hw e2
 exact⟨w,x',e1,e2,hm.thing,hm.made,h1,h2,h3,h4⟩
theorem p9{H0 H:zV}{b:Blk}{x:Hp}(L:Live H0 H b x)(he:x.sp.mem.Even){lB:zW}{lN lC:Nat}{kind more:Int}{ws:List Int}(hkd:1<=kind/\kind<=13)(hmo:0<=more/\more<281474976710656)(hsrc:db H lB (wvs ws))(hlen:lN=ws.length)(hw: ∀w∈ws,aJ w)
  (hl:ws.length<=62) (hf:1<=x.sp.mem.free) (hc:x.sp.mem.count<4611686018427387904):
  dp.C (some ⟨b.h,0,none⟩) kind more lB lN lC H (λv H'=> ∃(w:Int) (x':Hp),v=.tuple #[.int .u64 w,.int .i64 0]/\Live H0 H' b x'/\lP x x' w kind more ws/\Fr b.all H H'):=by
 refine HC.mono (jP (ws:=ws) L.view hsrc hlen hw (by omega) ⟨by omega,by omega⟩ hc (by omega)) ?_
 rintro _ H1 ⟨rfl,V,f⟩
 obtain⟨w,x',e1,e2,hm⟩:=mO L he hkd hmo hl hw hf
 rw[e2]at V
 exact⟨w,x',by rw[e1],L.step V f,hm,Live.others f⟩
theorem oa{H0 H:zV}{b:Blk}{x:Hp}(L:Live H0 H b x)(he:x.sp.mem.Even){s:ByteArray}(hl:(aX s).length<=62)(hf:1<=x.sp.mem.free)(hc:x.sp.mem.count<4611686018427387904):
  cM.C (some ⟨b.h,0,none⟩) s H (λv H'=> ∃(w:Int) (x':Hp),v=.tuple #[.int .u64 w,.int .i64 0]/\Live H0 H' b x'/\lP x x' w 2 0 (aX s)/\Fr b.all H H'):=by
 refine HC.mono (km (s:=s) L.view hc) ?_
 rintro _ H1 ⟨rfl,V,f⟩
 obtain⟨w,x',e1,e2,hm⟩:=mO L he (kind:=2) (more:=0) (by decide) (by decide) hl (iX s) hf
 have e3:strR (some (b,x)) s=(w,0):=by unfold strR;rw[if_neg (by omega),e1]
 have e4:strO (some (b,x)) s=some (b,x'):=by unfold strO;rw[if_neg (by omega),e2]
 rw[e4]at V
 exact⟨w,x',by rw[e3],L.step V f,hm,Live.others f⟩

theorem Pr.type{m:Mem}{w tag a d:Int}(h:Pr m w tag a d):m.typ w=0:=n8 h.notObj
