/-
 A heap of a law's own: what is made on it. Proves nothing of any one statement.
-/
import Derived.Test.YtihdffpekpnglaaGreatText
set_option linter.unusedVariables false
set_option linter.unusedSimpArgs false
namespace Go.Proofs.YtihdffpekpnglaaGreat
open Go

theorem View.inv{H:zW}{hv:zY}{b:Blk}{x:Hp}(V:View H hv (some (b,x))):hv=some ⟨b.h,0,none⟩/\HpAt H b x/\SpOK x.sp:=by
 cases V with
 | real h ok=>exact⟨rfl,h,ok⟩

structure Live (H0 H:zW) (b:Blk) (x:Hp):Prop where
 at':HpAt H b x
 ok:SpOK x.sp
 ext:Ext H0 H
 young: ∀i,i∈b.all->H0.size<=i
theorem Live.view{H0 H:zW}{b:Blk}{x:Hp}(h:Live H0 H b x):View H (some ⟨b.h,0,none⟩) (some (b,x)):=.real h.at' h.ok
theorem Live.grow{H0 H H':zW}{b:Blk}{x:Hp}(h:Live H0 H b x)(e:Ext H H'):Live H0 H' b x:=⟨h.at'.ext e,h.ok,h.ext.trans e,h.young⟩
theorem Live.step{H0 H H':zW}{b:Blk}{x x':Hp}(h:Live H0 H b x)(V:View H' (some ⟨b.h,0,none⟩) (some (b,x')))(f:Fr (own (some (b,x))) H H'):Live H0 H' b x':=by
 obtain⟨_,h',ok'⟩:=V.inv
 exact⟨h',ok',h.ext.fr_trans f (λi hi=>h.young i (by simp[own]at hi;simp[Blk.all];omega)),h.young⟩
theorem Live.others{H H':zW}{b:Blk}{x:Hp}(f:Fr (own (some (b,x))) H H'):Fr b.all H H':=f.mono (λi hi _=>by simp[own]at hi;simp[Blk.all];omega)
theorem Live.n64{H0 H:zW}{b:Blk}{x:Hp}(h:Live H0 H b x)(k:Nat):(x.sp.mem.seg k).n<=64:=(h.ok.mem.seg k).n.2

theorem lR(b:Blk)(x:Hp)(kind more:Int)(ws:List Int):hZ (some (b,x)) kind more ws=(x.sp.make kind more ws).2/\ii (some (b,x)) kind more ws=some (b,{x with sp:=(x.sp.make kind more ws).1}):=by
 unfold hZ ii Sp.make
 split
 ·exact⟨rfl,rfl⟩
 split
 ·exact⟨rfl,rfl⟩
 ·exact⟨rfl,rfl⟩

structure tf (x x':Hp) (w kind more:Int) (ws:List Int):Prop where
 thing:hF x'.sp.mem w kind more ws
 made:Made x.sp.mem x'.sp.mem w ws.length
theorem rh{H0 H:zW}{b:Blk}{x:Hp}(L:Live H0 H b x){kind more:Int}{ws:List Int}(hkd:1<=kind/\kind<=13)(hmo:0<=more/\more<281474976710656)(hl:ws.length<=62)(hw: ∀w∈ws,aM w)(hf:1<=x.sp.mem.free):
  ∃(w:Int) (x':Hp),hZ (some (b,x)) kind more ws=(w,0)/\ii (some (b,x)) kind more ws=some (b,x')/\tf x x' w kind more ws:=by
 obtain⟨h1,h2,h3,h4⟩:=Sp.make_ok L.ok hkd hmo hl hw hf
 obtain⟨e1,e2⟩:=lR b x kind more ws
 exact⟨_,_,by rw[e1,<-h1],e2,⟨h2,h4⟩⟩

def Mem.Even(m:Mem):Prop:= ∀k,(m.seg k).kind<=1->(m.seg k).n % 2=0
theorem qo(limit:Nat):(Mem.fresh limit).Even:=λ_ _=>rfl
theorem hC.even{m m':Mem}(h:hC m m')(he:m.Even):m'.Even:=λk hk=>by
 rw[(h.seg k).2.2.1];exact he k (by rw[<-(h.seg k).2.1];exact hk)
theorem Mem.Even.store{m:Mem}(h:m.Even)(a w:Int):(m.store a w).1.Even:=λk hk=>by
 rw[(Mem.store_seg k).2.2];exact h k (by rw[<-(Mem.store_seg k).2.1];exact hk)
theorem Grown.even{m m':Mem}{a n g k:Int}(gr:Grown m m' a n g k)(he:m.Even)(hn:k<=1->n % 2=0):m'.Even/\(k<=1->a % 2=0):=by
 obtain⟨a0,a1,a2⟩:=gr.addr
 have h1:k<=1->a % 64 % 2=0:=λhk=>by
  by_cases ht:(m.seg (a / 64).toNat).taken=0
  ·rw[gr.fresh ht];rfl
  ·obtain⟨_,o2,o3,_⟩:=gr.old ht
   rw[<-o3];exact he _ (by rw[o2];exact hk)
 refine⟨λj hj=>?_,λhk=>by have:=h1 hk;omega⟩
 by_cases e:j=(a / 64).toNat
 ·subst e
  obtain⟨_,_,n3,n4⟩:=gr.new
  rw[n3]at hj
  have:=h1 hj
  have:=hn hj
  rw[n4];omega
 ·rw[gr.others j e]at hj⊢;exact he j hj

structure Pr (m:Mem) (w tag a d:Int):Prop where
 word:aM w
 istag:tag=1\/tag=2
 at':m.atW w tag (tag-1)
 even:w / 8 % 2=0
 used:m.used (w / 8+1)
 car:m.get (w / 8)=a
 cdr:m.get (w / 8+1)=d
theorem Pr.isPair{m:Mem}{w tag a d:Int}(h:Pr m w tag a d):m.isPair w:=by
 refine⟨?_,h.even⟩
 rcases h.istag with e | e
 ·have:=h.at';rw[e]at this;exact .inl this
 ·have:=h.at';rw[e]at this;exact .inr this
theorem Pr.half{m:Mem}{w tag a d:Int}(h:Pr m w tag a d):m.halfE w 0=0/\m.halfE w 1=0:=by
 unfold Mem.halfE
 rw[if_pos h.isPair,if_pos h.isPair,if_pos h.used]
 refine⟨?_,rfl⟩
 rw[if_pos]
 rw[show w / 8+0=w / 8 by omega];exact h.at'.used h.word
theorem Pr.notObj{m:Mem}{w tag a d:Int}(h:Pr m w tag a d): ¬m.isObj w:=sZ (by have:=h.at'.2.1;have:=h.istag;omega)
theorem hF.notPair{m:Mem}{w kind more:Int}{ws:List Int}(h:hF m w kind more ws): ¬m.isPair w:=λhp=>by
 have h3:=h.obj.1.2.1
 rcases hp.1 with hp | hp<;>have:=hp.2.1<;>omega
theorem Pr.size{m:Mem}{w tag a d:Int}(h:Pr m w tag a d):m.sizeOf w=2:=by unfold Mem.sizeOf;rw[if_pos h.isPair]
theorem hF.size{m:Mem}{w kind more:Int}{ws:List Int}(h:hF m w kind more ws):m.sizeOf w=ws.length+1:=by
 unfold Mem.sizeOf;rw[if_neg h.notPair,if_pos h.obj,h.len]
theorem Pr.keep{m m':Mem}{w tag a d:Int}(h:Pr m w tag a d)(k:Keep m m'):Pr m' w tag a d:=by
 obtain⟨u1,u2,u3,_,_⟩:=k.used _ (h.at'.used h.word)
 obtain⟨v1,v2,_⟩:=k.used _ h.used
 exact⟨h.word,h.istag,⟨h.at'.1,h.at'.2.1,u1.2.1,by rw[u3];exact h.at'.2.2.2.1,u1.2.2⟩,h.even,v1,by rw[u2];exact h.car,by rw[v2];exact h.cdr⟩
theorem Sp.cons_ok0{s:Sp}(ok:SpOK s)(he:s.mem.Even){tag x y:Int}(ht:tag=1\/tag=2)(hx:aM x)(hy:aM y)(hal:(s.alloc 0 (tag-1) 2).2.2=0):
  (s.put (tag-1) tag [x,y]).2.2=0/\Pr (s.put (tag-1) tag [x,y]).1.mem (s.put (tag-1) tag [x,y]).2.1 tag x y/\SpOK (s.put (tag-1) tag [x,y]).1/\Made s.mem (s.put (tag-1) tag [x,y]).1.mem (s.put (tag-1) tag [x,y]).2.1 1/\(s.put (tag-1) tag [x,y]).1.mem.Even:=by
 have hmay:may 0 (tag-1) (([x,y]:List Int).length:Nat):=⟨by omega,.inl ⟨by omega,rfl⟩⟩
 have hal:(s.alloc 0 (tag-1) (([x,y]:List Int).length:Nat)).2.2=0:=hal
 have hall: ∀w∈[x,y],aM w:=λw hw=>by
  simp at hw;rcases hw with rfl | rfl<;>assumption
 obtain⟨a,e1,gr,e2,ok2,a64,_⟩:=Sp.put_ok (tag:=tag) ok hmay (by omega) hall hal
 obtain⟨kp,hget,hused⟩:=gr.lay ok.mem
 have sm:=hC.sets [x,y] (s.alloc 0 (tag-1) (([x,y]:List Int).length:Nat)).1.mem a
 obtain⟨ev,ev2⟩:=gr.even he (λ_=>by simp)
 have ev2:=ev2 (by omega)
 rw[e1,e2]
 obtain⟨a0,a1,a2⟩:=gr.addr
 simp only[List.length_cons,List.length_nil]at a2
 have ew:(a*8+tag) / 8=a:=by omega
 have hu0:=hused 0 (by simp)
 have hu1:=hused 1 (by simp)
 rw[show a+((0:Nat):Int)=a by omega]at hu0
 refine⟨rfl,⟨⟨by omega,by omega⟩,ht,⟨⟨by omega,by omega⟩,by omega,by rw[ew];exact hu0.2.1,?_,by rw[ew];exact hu0.2.2⟩,by rw[ew];exact ev2,by rw[ew];exact hu1,?_,?_⟩,ok2,⟨kp,?_,?_,?_⟩,sm.even ev⟩
 ·rw[ew,(sm.seg _).2.1,gr.new.2.2.1]
 ·rw[ew,hget a a0,if_pos ⟨by omega,by simp<;>omega⟩];simp
 ·rw[ew,hget _ (by omega),if_pos ⟨by omega,by simp<;>omega⟩,show(a+1-a).toNat=1 by omega];rfl
 ·rw[sm.free];exact gr.free
 ·rw[sm.count];exact gr.count
 ·rw[ew]
  intro i hi hu
  have e1:(a+i) / 64=a / 64:=by omega
  have e2:(a+i) % 64=a % 64+i:=by omega
  by_cases h0:(s.mem.seg (a / 64).toNat).taken=0
  ·have:=hu.2.1.2.2
   rw[e1]at this
   exact this h0
  ·have h3:=(gr.old h0).2.2.1
   have h4:=hu.2.2
   rw[e1,e2]at h4
   omega
theorem Sp.cons_ok{s:Sp}(ok:SpOK s)(he:s.mem.Even){tag x y:Int}(ht:tag=1\/tag=2)(hx:aM x)(hy:aM y)(hf:1<=s.mem.free):
  (s.put (tag-1) tag [x,y]).2.2=0/\Pr (s.put (tag-1) tag [x,y]).1.mem (s.put (tag-1) tag [x,y]).2.1 tag x y/\SpOK (s.put (tag-1) tag [x,y]).1/\Made s.mem (s.put (tag-1) tag [x,y]).1.mem (s.put (tag-1) tag [x,y]).2.1 1/\(s.put (tag-1) tag [x,y]).1.mem.Even:=
 Sp.cons_ok0 ok he ht hx hy (Sp.alloc_can ok ⟨by omega,.inl ⟨by omega,rfl⟩⟩ hf)
theorem Sp.make_even{s:Sp}(ok:SpOK s)(he:s.mem.Even)(kind more:Int)(ws:List Int)(hw: ∀w∈ws,aM w):(s.make kind more ws).1.mem.Even:=by
 unfold Sp.make
 split
 ·exact he
 split
 ·exact he
 ·rename_i h1 h2
  generalize (more*65536+ws.length*256+kind*8+5)::ws=us
  unfold Sp.put
  split
  ·rename_i hf
   obtain⟨_,gr⟩:=Sp.alloc_ok ok hf
   exact(hC.sets us _ _).even (gr.even he (λhk=>by unfold rawK at hk;split at hk<;>omega)).1
  ·exact he

theorem Pr.set{m:Mem}{w tag a d v:Int}(h:Pr m w tag a d)(ok:cF m){i:Int}(hi:i=0\/i=1):Pr (m.store (w / 8+i) v).1 w tag (if i=0 then v else a) (if i=0 then d else v):=by
 have w0:0<=w / 8:=by have:=h.word.1;omega
 have hu0:=h.at'.used h.word
 have hu:m.used (w / 8+i):=by
  rcases hi with rfl | rfl
  ·rw[Int.add_zero];exact hu0
  ·exact h.used
 refine⟨h.word,h.istag,⟨h.at'.1,h.at'.2.1,Mem.store_has.2 h.at'.2.2.1,by rw[(Mem.store_seg _).2.1];exact h.at'.2.2.2.1,by rw[(Mem.store_seg _).2.2];exact h.at'.2.2.2.2⟩,h.even,Mem.store_used.2 h.used,?_,?_⟩
 ·rw[Mem.store_get hu _ w0]
  rcases hi with rfl | rfl
  ·rw[if_pos (by omega),if_pos rfl]
  ·rw[if_neg (by omega),if_neg (by decide)];exact h.car
 ·rw[Mem.store_get hu _ (by omega)]
  rcases hi with rfl | rfl
  ·rw[if_neg (by omega),if_pos rfl];exact h.cdr
  ·rw[if_pos rfl,if_neg (by decide)]
structure th (x x':Hp) (w tag a d:Int):Prop where
 pr:Pr x'.sp.mem w tag a d
 made:Made x.sp.mem x'.sp.mem w 1
 even:x'.sp.mem.Even
 rest:x'.sy=x.sy/\x'.en=x.en/\x'.ep=x.ep
theorem ri{H0 H:zW}{b:Blk}{x:Hp}(L:Live H0 H b x)(he:x.sp.mem.Even){tag a d:Int}(ht:tag=1\/tag=2)(ha:aM a)(hd:aM d)(hf:1<=x.sp.mem.free):
  ∃(w:Int) (x':Hp),putR (some (b,x)) (tag-1) tag [a,d]=(w,0)/\putO (some (b,x)) (tag-1) tag [a,d]=some (b,x')/\th x x' w tag a d:=by
 obtain⟨h1,h2,h3,h4,h5⟩:=Sp.cons_ok L.ok he ht ha hd hf
 exact⟨_,_,by show(x.sp.put (tag-1) tag [a,d]).2=_;rw[<-h1],rfl,⟨h2,h4,h5,rfl,rfl,rfl⟩⟩
theorem nq{H0 H:zW}{b:Blk}{x x':Hp}(L:Live H0 H b x)(he:x.sp.mem.Even){kind more:Int}{ws:List Int}(hw: ∀w∈ws,aM w)(h:ii (some (b,x)) kind more ws=some (b,x')):x'.sp.mem.Even/\x'.sy=x.sy/\x'.en=x.en/\x'.ep=x.ep:=by
 rw[(lR b x kind more ws).2]at h
 cases h
 exact⟨Sp.make_even L.ok he kind more ws hw,rfl,rfl,rfl⟩


structure qp (x x':Hp) (w kind more:Int) (ws:List Int):Prop where
 thing:hF x'.sp.mem w kind more ws
 made:Made x.sp.mem x'.sp.mem w ws.length
 even:x'.sp.mem.Even
 rest:x'.sy=x.sy/\x'.en=x.en/\x'.ep=x.ep
theorem nT{H0 H:zW}{b:Blk}{x:Hp}(L:Live H0 H b x)(he:x.sp.mem.Even){kind more:Int}{ws:List Int}(hkd:1<=kind/\kind<=13)(hmo:0<=more/\more<281474976710656)(hl:ws.length<=62)(hw: ∀w∈ws,aM w)(hf:1<=x.sp.mem.free):
  ∃(w:Int) (x':Hp),hZ (some (b,x)) kind more ws=(w,0)/\ii (some (b,x)) kind more ws=some (b,x')/\qp x x' w kind more ws:=by
 obtain⟨w,x',e1,e2,hm⟩:=rh L hkd hmo hl hw hf
 obtain⟨h1,h2,h3,h4⟩:=nq L he hw e2
 exact⟨w,x',e1,e2,hm.thing,hm.made,h1,h2,h3,h4⟩
theorem pu{H0 H:zW}{b:Blk}{x:Hp}(L:Live H0 H b x)(he:x.sp.mem.Even){s:ByteArray}(hl:(gi s).length<=62)(hf:1<=x.sp.mem.free)(hc:x.sp.mem.count<4611686018427387904):
  eq.C (some ⟨b.h,0,none⟩) s H (λv H'=> ∃(w:Int) (x':Hp),v=.tuple #[.int .u64 w,.int .i64 0]/\Live H0 H' b x'/\qp x x' w 2 0 (gi s)/\Fr b.all H H'):=by
 refine HC.mono (lv (s:=s) L.view hc) ?_
 rintro _ H1 ⟨rfl,V,f⟩
 obtain⟨w,x',e1,e2,hm⟩:=nT L he (kind:=2) (more:=0) (by decide) (by decide) hl (ki s) hf
 have e3:strR (some (b,x)) s=(w,0):=by unfold strR;rw[if_neg (by omega),e1]
 have e4:strO (some (b,x)) s=some (b,x'):=by unfold strO;rw[if_neg (by omega),e2]
 rw[e4]at V
 exact⟨w,x',by rw[e3],L.step V f,hm,Live.others f⟩
theorem pv{H0 H:zW}{b:Blk}{x:Hp}(L:Live H0 H b x)(he:x.sp.mem.Even){n fill:Int}(hn:0<=n/\n<=62)(hfl:aM fill)(hf:1<=x.sp.mem.free)(hc:x.sp.mem.count<4611686018427387904):
  dZ.C (some ⟨b.h,0,none⟩) n fill H (λv H'=> ∃(w:Int) (x':Hp),v=.tuple #[.int .u64 w,.int .i64 0]/\Live H0 H' b x'/\qp x x' w 1 0 (List.replicate n.toNat fill)/\Fr b.all H H'):=by
 refine HC.mono (lw (n:=n) L.view hfl hc) ?_
 rintro _ H1 ⟨rfl,V,f⟩
 have hw: ∀w∈List.replicate n.toNat fill,aM w:=λw hw=>by rw[List.eq_of_mem_replicate hw];exact hfl
 obtain⟨w,x',e1,e2,hm⟩:=nT L he (kind:=1) (more:=0) (by decide) (by decide) (by simp;omega) hw hf
 have e3:vecR (some (b,x)) n fill=(w,0):=by unfold vecR;rw[if_neg (by omega),if_neg (by omega),e1]
 have e4:vecO (some (b,x)) n fill=some (b,x'):=by unfold vecO;rw[if_neg (by omega),e2]
 rw[e4]at V
 exact⟨w,x',by rw[e3],L.step V f,hm,Live.others f⟩

theorem rZ{H0 H:zW}{b:Blk}{x:Hp}(L:Live H0 H b x){w kind more i:Int}{ws:List Int}(t:hF x.sp.mem w kind more ws)(hi:0<=i/\i<ws.length):
  fN.C (some ⟨b.h,0,none⟩) w kind i H (λv H'=>v=.tuple #[.int .u64 (ws.getD i.toNat 0),.int .i64 0]/\Ext H H'):=by
 have h62:=t.le62
 refine HC.mono (lI (i:=i) L.view t.word ⟨by omega,by omega⟩) ?_
 rintro _ H1 ⟨rfl,e⟩
 have hm:mof (some (b,x))=x.sp.mem:=rfl
 have hg:=t.get i.toNat (by omega)
 rw[show w / 8+1+((i.toNat:Nat):Int)=w / 8+1+i by omega]at hg
 rw[hm,t.field_in hi,if_pos rfl,hg]
 exact⟨by rw[List.getD,List.getElem?_eq_getElem (by omega)];rfl,e⟩
theorem sa{H0 H:zW}{b:Blk}{x:Hp}(L:Live H0 H b x){w tag a d:Int}(t:Pr x.sp.mem w tag a d):
  gc.C (some ⟨b.h,0,none⟩) w H (λv H'=>v=.tuple #[.int .u64 a,.int .i64 0]/\Ext H H'):=by
 refine HC.mono (nN L.view t.word) ?_
 rintro _ H1 ⟨rfl,e⟩
 have hm:mof (some (b,x))=x.sp.mem:=rfl
 rw[hm,t.half.1,if_pos rfl,show w / 8+0=w / 8 by omega,t.car]
 exact⟨rfl,e⟩
theorem sc{H0 H:zW}{b:Blk}{x:Hp}(L:Live H0 H b x){w tag a d:Int}(t:Pr x.sp.mem w tag a d):
  gd.C (some ⟨b.h,0,none⟩) w H (λv H'=>v=.tuple #[.int .u64 d,.int .i64 0]/\Ext H H'):=by
 refine HC.mono (nO L.view t.word) ?_
 rintro _ H1 ⟨rfl,e⟩
 have hm:mof (some (b,x))=x.sp.mem:=rfl
 rw[hm,t.half.2,if_pos rfl,t.cdr]
 exact⟨rfl,e⟩
theorem Pr.type{m:Mem}{w tag a d:Int}(h:Pr m w tag a d):m.typ w=0:=oS h.notObj
