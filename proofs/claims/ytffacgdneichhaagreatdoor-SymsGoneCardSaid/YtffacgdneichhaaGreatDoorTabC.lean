/-
 Pairs and things that are looked after on a heap, by their words. Proves nothing of any one statement.
-/
import Derived.Test.YtffacgdneichhaaGreatDoorLiveT
set_option linter.unusedVariables false
set_option linter.unusedSimpArgs false
namespace Go.Proofs.YtffacgdneichhaaGreatDoor
open Go

abbrev PF:=Int->Option (Int×Int)
def PF.upd(f:PF)(w:Int)(p:Int×Int):PF:=λu=>if u=w then some p else f u
theorem PF.upd_at(f:PF)(w:Int)(p:Int×Int):f.upd w p w=some p:=by unfold PF.upd;rw[if_pos rfl]
theorem PF.upd_ne(f:PF){w u:Int}(p:Int×Int)(h:u≠w):f.upd w p u=f u:=by unfold PF.upd;rw[if_neg h]
abbrev TF:=Int->Option (Int×List Int)
def TF.upd(f:TF)(w:Int)(p:Int×List Int):TF:=λu=>if u=w then some p else f u
theorem TF.upd_at(f:TF)(w:Int)(p:Int×List Int):f.upd w p w=some p:=by unfold TF.upd;rw[if_pos rfl]
theorem TF.upd_ne(f:TF){w u:Int}(p:Int×List Int)(h:u≠w):f.upd w p u=f u:=by unfold TF.upd;rw[if_neg h]
structure HPic (m:Mem) (f:PF) (th:TF):Prop where
 prs: ∀w a d,f w=some (a,d)->Pr m w 1 a d
 ths: ∀w k ws,th w=some (k,ws)->cE m w k 0 ws
 sep: ∀w k ws w' k' ws',th w=some (k,ws)->th w'=some (k',ws')->w≠w'->Sep w ws.length w' ws'.length
theorem Pr.noThing{m:Mem}(ok:aY m){w tag a d w' k more:Int}{ws:List Int}(h:Pr m w tag a d)(t:cE m w' k more ws){j:Nat}(hj:j<=ws.length):w' / 8+j≠w / 8/\w' / 8+j≠w / 8+1:=by
 have h1:=h.at'
 have h2:=t.obj
 have hl:=t.lenEq
 have hn:=(ok.seg (w' / 8 / 64).toNat).n
 have hk1:=h1.2.2.2.1
 have hk2:=h2.1.2.2.2.1
 have hb:=h2.2.2
 have ht:=h.istag
 have he:=h.even
 have hr:rawK (hk (m.get (w' / 8)))=2\/rawK (hk (m.get (w' / 8)))=3:=by unfold rawK;split<;>omega
 have key: ¬w / 8 / 64=w' / 8 / 64:=λe=>by rw[e]at hk1;omega
 constructor<;>intro e<;>apply key<;>omega
theorem qK{m:Mem}{w w' a d a' d':Int}(h:Pr m w 1 a d)(h':Pr m w' 1 a' d')(hne:w≠w'){i:Int}(hi:i=0\/i=1):w' / 8+i≠w / 8/\w' / 8+i≠w / 8+1:=by
 have e1:=h.even
 have e2:=h'.even
 have t1:=h.at'.2.1
 have t2:=h'.at'.2.1
 constructor<;>intro e<;>apply hne<;>omega
theorem HPic.keep{m m':Mem}{f:PF}{th:TF}(h:HPic m f th)(ok:aY m)(k:Keep m m'):HPic m' f th:=
 ⟨λw a d e=>(h.prs w a d e).keep k,λw kd ws e=>(h.ths w kd ws e).keep (λk=>(ok.seg k).n.2) k,h.sep⟩
theorem HPic.fresh{m m':Mem}{f:PF}{th:TF}(h:HPic m f th){w:Int}{n:Nat}(md:Made m m' w n):f w=none:=by
 cases e:f w with
 | none=>rfl
 | some p=>
  have hp:=h.prs w p.1 p.2 e
  have:=md.fresh 0 (by omega)
  rw[show w / 8+((0:Nat):Int)=w / 8 by omega]at this
  exact absurd (hp.at'.used hp.word) this
theorem HPic.freshT{m m':Mem}{f:PF}{th:TF}(h:HPic m f th){w:Int}{n:Nat}(md:Made m m' w n):th w=none:=by
 cases e:th w with
 | none=>rfl
 | some p=>
  have hp:=h.ths w p.1 p.2 e
  have:=md.fresh 0 (by omega)
  rw[show w / 8+((0:Nat):Int)=w / 8 by omega]at this
  exact absurd hp.usedHead this
theorem HPic.cons{m m':Mem}{f:PF}{th:TF}(h:HPic m f th)(ok:aY m){w a d:Int}(md:Made m m' w 1)(p:Pr m' w 1 a d):HPic m' (f.upd w (a,d)) th:=by
 have hk:=h.keep ok md.keep
 refine⟨λw' a' d' e=>?_,hk.ths,hk.sep⟩
 by_cases q:w'=w
 ·subst q
  rw[PF.upd_at]at e
  cases e;exact p
 ·rw[PF.upd_ne f _ q]at e;exact hk.prs _ _ _ e
theorem HPic.make{m m':Mem}{f:PF}{th:TF}(h:HPic m f th)(ok:aY m){w k:Int}{ws:List Int}(md:Made m m' w ws.length)(p:cE m' w k 0 ws):HPic m' f (th.upd w (k,ws)):=by
 have hk:=h.keep ok md.keep
 have hn: ∀k,(m.seg k).n<=64:=λk=>(ok.seg k).n.2
 have hs: ∀w' k' ws',w'≠w->th w'=some (k',ws')->Sep w' ws'.length w ws.length:=λw' k' ws' _ e=>md.sep hn (h.ths w' k' ws' e)
 refine⟨hk.prs,λw' k' ws' e=>?_,λw1 k1 ws1 w2 k2 ws2 e1 e2 hne=>?_⟩
 ·by_cases q:w'=w
  ·subst q
   rw[TF.upd_at]at e
   cases e;exact p
  ·rw[TF.upd_ne th _ q]at e;exact hk.ths _ _ _ e
 ·by_cases q1:w1=w
  ·subst q1
   rw[TF.upd_at]at e1
   cases e1
   rw[TF.upd_ne th _ (λe=>hne e.symm)]at e2
   exact(hs w2 k2 ws2 (λe=>hne e.symm) e2).symm
  ·rw[TF.upd_ne th _ q1]at e1
   by_cases q2:w2=w
   ·subst q2
    rw[TF.upd_at]at e2
    cases e2
    exact hs w1 k1 ws1 q1 e1
   ·rw[TF.upd_ne th _ q2]at e2
    exact h.sep _ _ _ _ _ _ e1 e2 hne
theorem HPic.setHalf{m:Mem}{f:PF}{th:TF}(h:HPic m f th)(ok:aY m){w a d v:Int}(hf:f w=some (a,d)){i:Int}(hi:i=0\/i=1):HPic (m.store (w / 8+i) v).1 (f.upd w (if i=0 then v else a,if i=0 then d else v)) th:=by
 have p:=h.prs w a d hf
 have hu:m.used (w / 8+i):=by
  rcases hi with rfl | rfl
  ·rw[Int.add_zero];exact p.at'.used p.word
  ·exact p.used
 refine⟨λw' a' d' e=>?_,λw' k' ws' e=>?_,h.sep⟩
 ·by_cases q:w'=w
  ·subst q
   rw[PF.upd_at]at e
   cases e;exact p.set ok hi
  ·rw[PF.upd_ne f _ q]at e
   have p':=h.prs _ _ _ e
   obtain⟨q1,q2⟩:=qK p' p q hi
   exact p'.setOther hu q1 q2
 ·have t:=h.ths _ _ _ e
  refine t.setFar hu (λj hj=>?_)
  obtain⟨q1,q2⟩:=p.noThing ok t hj
  rcases hi with rfl | rfl
  ·rw[Int.add_zero];exact q1
  ·exact q2
def Chn(f:PF):Int->List (Int×Int)->Prop
 | w,[]=>w=20
 | w,p::l=>w=p.1/\ ∃d,f p.1=some (p.2,d)/\Chn f d l
theorem Chn.cong{f g:PF}: ∀{l:List (Int×Int)} {w:Int},Chn f w l->(∀p∈l,g p.1=f p.1)->Chn g w l
 | [],_,h,_=>h
 | p::l,_,⟨h1,d,h2,h3⟩,hg=>⟨h1,d,by rw[hg p (by simp)];exact h2,h3.cong (λq hq=>hg q (by simp[hq]))⟩
theorem Chn.upd{f:PF}{l:List (Int×Int)}{w u:Int}{q:Int×Int}(h:Chn f w l)(hn: ∀p∈l,p.1≠u):Chn (f.upd u q) w l:=
 h.cong (λp hp=>PF.upd_ne f q (hn p hp))
theorem Chn.cons{f:PF}{l:List (Int×Int)}{w a d:Int}(hf:f w=some (a,d))(h:Chn f d l):Chn f w ((w,a)::l):=⟨rfl,d,hf,h⟩
theorem Chn.some{f:PF}: ∀{l:List (Int×Int)} {w:Int},Chn f w l-> ∀p∈l,∃d,f p.1=Option.some (p.2,d)
 | [],_,_,p,hp=>by simp at hp
 | q::l,_,⟨h1,d,h2,h3⟩,p,hp=>by
  rcases List.mem_cons.1 hp with rfl | hp
  ·exact⟨d,h2⟩
  ·exact h3.some p hp
theorem Chn.drop{f:PF}: ∀(k:Nat) {l:List (Int×Int)} {w:Int},Chn f w l-> ∃c,Chn f c (l.drop k)
 | 0,l,w,h=>⟨w,h⟩
 | k+1,[],w,h=>⟨w,h⟩
 | k+1,p::l,w,⟨h1,d,h2,h3⟩=>Chn.drop k h3

structure JOK (J:Sp->(Int->Prop)->Prop):Prop where
 ok: ∀{s:Sp} {G:Int->Prop},J s G->SpOK s
 even: ∀{s:Sp} {G:Int->Prop},J s G->s.mem.Even
 cnt: ∀{s:Sp} {G:Int->Prop},J s G->s.mem.count<4611686018427387904
 imm: ∀{s:Sp} {G:Int->Prop},J s G-> ∀v,v % 8≠6-> ¬(v % 8=1\/v % 8=2\/v % 8=3)->G v
 half: ∀{s:Sp} {G:Int->Prop} {w a d v i:Int},J s G->Pr s.mem w 1 a d->G w->aJ v->G v->(i=0\/i=1)->J {s with mem:=(s.mem.store (w / 8+i) v).1} G
 field: ∀{s:Sp} {G:Int->Prop} {w k v:Int} {ws:List Int} {i:Nat},J s G->cE s.mem w k 0 ws->G w->aJ v->G v->i<ws.length->J {s with mem:=(s.mem.store (w / 8+1+i) v).1} G
 pr: ∀{s:Sp} {G:Int->Prop} {w a d:Int},J s G->Pr s.mem w 1 a d->G w->G a/\G d
 th: ∀{s:Sp} {G:Int->Prop} {w k:Int} {ws:List Int},J s G->cE s.mem w k 0 ws->rawK k=2->G w-> ∀v∈ws,G v
 put: ∀{s:Sp} {G:Int->Prop} {kind tag:Int} {ws:List Int},J s G->(kind=0/\tag=1/\ws.length=2\/kind=1/\tag=2/\ws.length=2\/(kind=2\/kind=3)/\tag=3/\ ∃hd fs,ws=hd::fs/\gM hd/\rawK (hk hd)=kind/\hn hd=fs.length)->(∀w∈ws,aJ w)->(kind≠3-> ∀w∈ws,G w)->
  ∃G',J (s.put kind tag ws).1 G'/\(∀v,G v->G' v)/\((s.put kind tag ws).2.2=0->G' (s.put kind tag ws).2.1)
theorem Sp.alloc_two{s:Sp}(ok:SpOK s){g k n:Int}(hm:may g k n)(h:(s.alloc g k n).2.2≠0):(s.alloc g k n).2.2=2:=by
 by_cases hf:s.mem.free=0
 ·have hg:=hm.1
  have hk:0<=k/\k<=3:=by have:=hm.2;omega
  unfold Sp.alloc at*
  rw[if_neg (λhh=>hh hm)]at h⊢
  by_cases hc:s.cur g.toNat k.toNat≠0/\(s.mem.bump (s.cur g.toNat k.toNat-1) n).2.2=0
  ·rw[if_pos hc]at h;exact absurd rfl h
  rw[if_neg hc]at h⊢
  have hte:s.mem.take g k=(s.mem,0,2):=by unfold Mem.take;rw[if_neg (by omega),if_pos hf]
  rw[hte,if_neg (by decide: ¬((2:Int)=0))]
 ·have:0<=s.mem.free:=by rw[ok.mem.free];omega
  exact absurd (Sp.alloc_can ok hm (by omega)) h

def Full(s:Sp):Prop:= ¬(s.alloc 0 0 2).2.2=0
theorem qL:may 0 0 2:=⟨by decide,.inl ⟨by decide,rfl⟩⟩
theorem mP(m:Mem)(k d:Int):(m.bump k d).2.2=0 ↔ m.has k/\1<=d/\d<=64-(m.seg k.toNat).n:=by
 unfold Mem.bump
 by_cases h1:m.has k
 ·rw[if_neg (show ¬ ¬m.has k from λq=>q h1)]
  by_cases h2:d<1
  ·rw[if_pos h2]
   exact⟨λq=>absurd q (by show ¬(1:Int)=0;decide),λq=>by omega⟩
  ·rw[if_neg h2]
   by_cases h3:64-(m.seg k.toNat).n<d
   ·rw[if_pos h3]
    exact⟨λq=>absurd q (by show ¬(2:Int)=0;decide),λq=>by omega⟩
   ·rw[if_neg h3]
    exact⟨λ_=>⟨h1,by omega,by omega⟩,λ_=>rfl⟩
 ·rw[if_pos h1]
  exact⟨λq=>absurd q (by show ¬(19:Int)=0;decide),λq=>absurd q.1 h1⟩
theorem ob{s:Sp}(ok:SpOK s):Full s ↔ s.mem.free=0/\ ¬(s.cur 0 0≠0/\(s.mem.bump (s.cur 0 0-1) 2).2.2=0):=by
 have e:(s.alloc 0 0 2).2.2=if s.cur 0 0≠0/\(s.mem.bump (s.cur 0 0-1) 2).2.2=0 then 0 else if(s.mem.take 0 0).2.2=0 then((s.mem.take 0 0).1.bump (s.mem.take 0 0).2.1 2).2.2 else(s.mem.take 0 0).2.2:=by
  unfold Sp.alloc
  rw[if_neg (λq=>q qL)]
  have e0:(0:Int).toNat=0:=rfl
  rw[e0]
  split
  ·rfl
  split<;>rfl
 constructor
 ·intro h
  refine⟨?_,λq=>h (by rw[e,if_pos q])⟩
  by_cases q:s.mem.free=0
  ·exact q
  ·have:0<=s.mem.free:=by rw[ok.mem.free];omega
   exact absurd (Sp.alloc_can ok qL (by omega)) h
 ·rintro⟨h1,h2⟩
  unfold Full
  have ht:(s.mem.take 0 0).2.2=2:=by
   unfold Mem.take
   rw[if_neg (by decide),if_pos h1]
  rw[e,if_neg h2,ht,if_neg (by decide)]
  decide
theorem Full.store{s:Sp}(ok:SpOK s)(h:Full s){a v:Int}(ok2:SpOK {s with mem:=(s.mem.store a v).1}):Full {s with mem:=(s.mem.store a v).1}:=by
 rw[ob ok]at h
 rw[ob ok2]
 refine⟨Mem.store_lim.2.1.trans h.1,λq=>h.2 ⟨q.1,?_⟩⟩
 have h2:=(mP _ _ _).1 q.2
 rw[mP]
 have e:((s.mem.store a v).1.seg (s.cur 0 0-1).toNat).n=(s.mem.seg (s.cur 0 0-1).toNat).n:=(Mem.store_seg _).2.2
 exact⟨Mem.store_has.1 h2.1,h2.2.1,by rw[<-e];exact h2.2.2⟩
def Rest(n:Int)(x x':Hp):Prop:=x'.sy=x.sy/\x'.en=x.en/\x'.ep=x.ep/\x.sp.mem.free-n<=x'.sp.mem.free/\(∀a,x.sp.mem.used a->x'.sp.mem.used a)/\0<=n/\(n=0->Full x.sp->Full x'.sp)
theorem Rest.refl(x:Hp):Rest 0 x x:=⟨rfl,rfl,rfl,by omega,λ_ h=>h,by omega,λ_ h=>h⟩
theorem Rest.trans{n k m:Int}{x y z:Hp}(h:Rest n x y)(q:Rest k y z)(hm:n+k<=m:=by omega):Rest m x z:=by
 obtain⟨h1,h2,h3,h4,h5,h6,h7⟩:=h
 obtain⟨q1,q2,q3,q4,q5,q6,q7⟩:=q
 exact⟨q1.trans h1,q2.trans h2,q3.trans h3,by omega,λa ha=>q5 a (h5 a ha),by omega,λe f=>q7 (by omega) (h7 (by omega) f)⟩
theorem Rest.le{n m:Int}{x y:Hp}(h:Rest n x y)(hm:n<=m:=by omega):Rest m x y:=by
 obtain⟨h1,h2,h3,h4,h5,h6,h7⟩:=h
 exact⟨h1,h2,h3,by omega,h5,by omega,λe=>h7 (by omega)⟩
theorem Rest.free{n:Int}{x y:Hp}(h:Rest n x y):x.sp.mem.free-n<=y.sp.mem.free:=h.2.2.2.1
theorem Rest.ep{n:Int}{x y:Hp}(h:Rest n x y):y.ep=x.ep:=h.2.2.1
structure HS (J:Sp->(Int->Prop)->Prop) (H0 H:zV) (b:Blk) (x:Hp) (G:Int->Prop) (f:PF) (th:TF):Prop where
 e:Ext H0 H
 view:View H (some ⟨b.h,0,none⟩) (some (b,x))
 j:J x.sp G
 pic:HPic x.sp.mem f th
 gf: ∀w p,f w=some p->G w
 gt: ∀w p,th w=some p->G w
 hb: ∀j∈b.all,H0.size<=j

section
variable {J:Sp->(Int->Prop)->Prop} {H0 H:zV} {b:Blk} {x:Hp} {G:Int->Prop} {f:PF} {th:TF}
theorem HS.ext{H':zV}(S:HS J H0 H b x G f th)(e:Ext H H'):HS J H0 H' b x G f th:=⟨S.e.trans e,S.view.ext e,S.j,S.pic,S.gf,S.gt,S.hb⟩
theorem HS.blt(S:HS J H0 H b x G f th): ∀j∈b.all,j<H.size:=by
 obtain⟨-,hp,-⟩:=S.view.inv
 exact hp.lt
theorem HS.keep{H':zV}{T:List Nat}(S:HS J H0 H b x G f th)(fr:Fr T H H')(h0: ∀j∈T,H0.size<=j)(hT: ∀j∈T,j ∉ b.all):HS J H0 H' b x G f th:=by
 obtain⟨-,hp,ok⟩:=S.view.inv
 exact⟨S.e.fr_trans fr h0,.real (hp.keep fr hT) ok,S.j,S.pic,S.gf,S.gt,S.hb⟩
theorem HS.less{f':PF}{th':TF}(S:HS J H0 H b x G f th)(hf: ∀w p,f' w=some p->f w=some p)(ht: ∀w p,th' w=some p->th w=some p):HS J H0 H b x G f' th':=
 ⟨S.e,S.view,S.j,⟨λw a d e=>S.pic.prs w a d (hf _ _ e),λw k ws e=>S.pic.ths w k ws (ht _ _ e),λw k ws w' k' ws' e e'=>S.pic.sep w k ws w' k' ws' (ht _ _ e) (ht _ _ e')⟩,λw p e=>S.gf w p (hf _ _ e),λw p e=>S.gt w p (ht _ _ e),S.hb⟩
theorem store_0(O:JOK J)(S:HS J H0 H b x G f th){a w:Int}(hu:x.sp.mem.used a)(hw:aJ w):(x.sp.mem.store a w).2=0:=Mem.store_0 (O.ok S.j).mem hu hw
theorem HS.half(O:JOK J)(S:HS J H0 H b x G f th){H':zV}{w a d v i:Int}(hf:f w=some (a,d))(hv:aJ v)(gv:G v)(hi:i=0\/i=1)(V:View H' (some ⟨b.h,0,none⟩) (qI (some (b,x)) w i v))(fr:Fr (own (some (b,x))) H H'):
  sc (some (b,x)) w i v=0/\ ∃x',HS J H0 H' b x' G (f.upd w (if i=0 then v else a,if i=0 then d else v)) th/\Rest 0 x x'/\Fr [b.sp,b.m,b.s] H H':=by
 have p:=S.pic.prs w a d hf
 have hm:mof (some (b,x))=x.sp.mem:=rfl
 have e1:qI (some (b,x)) w i v=some (b,x.setMem (x.sp.mem.store (w / 8+i) v).1):=by unfold qI;simp only;rw[if_pos p.isPair]
 rw[e1]at V
 have ok:=(O.ok S.j).mem
 refine⟨?_,_,⟨S.e.fr_trans fr (λj hj=>S.hb j ?_),V,O.half S.j p (S.gf _ _ hf) hv gv hi,S.pic.setHalf ok hf hi,λw' p' e=>?_,S.gt,S.hb⟩,⟨rfl,rfl,rfl,?_,λa h=>Mem.store_used.2 h,by omega,λ_ h=>h.store (O.ok S.j) ((O.ok S.j).store _ hv)⟩,fr⟩
 ·unfold sc
  rw[hm,if_pos p.isPair]
  refine store_0 O S ?_ hv
  rcases hi with rfl | rfl
  ·rw[Int.add_zero];exact p.at'.used p.word
  ·exact p.used
 ·simp[own]at hj;simp[Blk.all];omega
 ·by_cases q:w'=w
  ·rw[q];exact S.gf _ _ hf
  ·rw[PF.upd_ne f _ q]at e;exact S.gf _ _ e
 ·show x.sp.mem.free-0<=(x.sp.mem.store _ _).1.free
  rw[Mem.store_lim.2.1];omega
end
