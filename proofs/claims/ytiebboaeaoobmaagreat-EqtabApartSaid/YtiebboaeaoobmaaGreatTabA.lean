/-
 Pairs and things that are looked after on a heap, by their words. Proves nothing of any one statement.
-/
import Derived.Test.YtiebboaeaoobmaaGreatCons
set_option linter.unusedVariables false
set_option linter.unusedSimpArgs false
namespace Go.Proofs.YtiebboaeaoobmaaGreat
open Go

abbrev PF:=Int->Option (Int×Int)
def PF.upd(f:PF)(w:Int)(p:Int×Int):PF:=λu=>if u=w then some p else f u
theorem PF.upd_at(f:PF)(w:Int)(p:Int×Int):f.upd w p w=some p:=by unfold PF.upd;rw[if_pos rfl]
theorem PF.upd_ne(f:PF){w u:Int}(p:Int×Int)(h:u≠w):f.upd w p u=f u:=by unfold PF.upd;rw[if_neg h]
abbrev TF:=Int->Option (Int×List Int)
def TF.upd(f:TF)(w:Int)(p:Int×List Int):TF:=λu=>if u=w then some p else f u
theorem TF.upd_at(f:TF)(w:Int)(p:Int×List Int):f.upd w p w=some p:=by unfold TF.upd;rw[if_pos rfl]
theorem TF.upd_ne(f:TF){w u:Int}(p:Int×List Int)(h:u≠w):f.upd w p u=f u:=by unfold TF.upd;rw[if_neg h]
structure HPic (m:Mem) (f:PF) (th:TF):Prop where
 prs: ∀w a d,f w=some (a,d)->Pr m w 1 a d
 ths: ∀w k ws,th w=some (k,ws)->Thing m w k 0 ws
 sep: ∀w k ws w' k' ws',th w=some (k,ws)->th w'=some (k',ws')->w≠w'->Sep w ws.length w' ws'.length
theorem Pr.noThing{m:Mem}(ok:MemOK m){w tag a d w' k more:Int}{ws:List Int}(h:Pr m w tag a d)(t:Thing m w' k more ws){j:Nat}(hj:j<=ws.length):w' / 8+j≠w / 8/\w' / 8+j≠w / 8+1:=by
 have h1:=h.at'
 have h2:=t.obj
 have hl:=t.lenEq
 have hn:=(ok.seg (w' / 8 / 64).toNat).n
 have hk1:=h1.2.2.2.1
 have hk2:=h2.1.2.2.2.1
 have hb:=h2.2.2
 have ht:=h.istag
 have he:=h.even
 have hr:rawK (hk (m.get (w' / 8)))=2\/rawK (hk (m.get (w' / 8)))=3:=by unfold rawK;split<;>omega
 have key: ¬w / 8 / 64=w' / 8 / 64:=λe=>by rw[e]at hk1;omega
 constructor<;>intro e<;>apply key<;>omega
theorem pr_apart{m:Mem}{w w' a d a' d':Int}(h:Pr m w 1 a d)(h':Pr m w' 1 a' d')(hne:w≠w'){i:Int}(hi:i=0\/i=1):w' / 8+i≠w / 8/\w' / 8+i≠w / 8+1:=by
 have e1:=h.even
 have e2:=h'.even
 have t1:=h.at'.2.1
 have t2:=h'.at'.2.1
 constructor<;>intro e<;>apply hne<;>omega
theorem HPic.keep{m m':Mem}{f:PF}{th:TF}(h:HPic m f th)(ok:MemOK m)(k:Keep m m'):HPic m' f th:=
 ⟨λw a d e=>(h.prs w a d e).keep k,λw kd ws e=>(h.ths w kd ws e).keep (λk=>(ok.seg k).n.2) k,h.sep⟩
theorem HPic.fresh{m m':Mem}{f:PF}{th:TF}(h:HPic m f th){w:Int}{n:Nat}(md:Made m m' w n):f w=none:=by
 cases e:f w with
 | none=>rfl
 | some p=>
  have hp:=h.prs w p.1 p.2 e
  have:=md.fresh 0 (by omega)
  rw[show w / 8+((0:Nat):Int)=w / 8 by omega]at this
  exact absurd (hp.at'.used hp.word) this
theorem HPic.freshT{m m':Mem}{f:PF}{th:TF}(h:HPic m f th){w:Int}{n:Nat}(md:Made m m' w n):th w=none:=by
 cases e:th w with
 | none=>rfl
 | some p=>
  have hp:=h.ths w p.1 p.2 e
  have:=md.fresh 0 (by omega)
  rw[show w / 8+((0:Nat):Int)=w / 8 by omega]at this
  exact absurd hp.usedHead this
theorem HPic.cons{m m':Mem}{f:PF}{th:TF}(h:HPic m f th)(ok:MemOK m){w a d:Int}(md:Made m m' w 1)(p:Pr m' w 1 a d):HPic m' (f.upd w (a,d)) th:=by
 have hk:=h.keep ok md.keep
 refine⟨λw' a' d' e=>?_,hk.ths,hk.sep⟩
 by_cases q:w'=w
 ·subst q
  rw[PF.upd_at]at e
  cases e;exact p
 ·rw[PF.upd_ne f _ q]at e;exact hk.prs _ _ _ e
theorem HPic.make{m m':Mem}{f:PF}{th:TF}(h:HPic m f th)(ok:MemOK m){w k:Int}{ws:List Int}(md:Made m m' w ws.length)(p:Thing m' w k 0 ws):HPic m' f (th.upd w (k,ws)):=by
 have hk:=h.keep ok md.keep
 have hn: ∀k,(m.seg k).n<=64:=λk=>(ok.seg k).n.2
 have hs: ∀w' k' ws',w'≠w->th w'=some (k',ws')->Sep w' ws'.length w ws.length:=λw' k' ws' _ e=>md.sep hn (h.ths w' k' ws' e)
 refine⟨hk.prs,λw' k' ws' e=>?_,λw1 k1 ws1 w2 k2 ws2 e1 e2 hne=>?_⟩
 ·by_cases q:w'=w
  ·subst q
   rw[TF.upd_at]at e
   cases e;exact p
  ·rw[TF.upd_ne th _ q]at e;exact hk.ths _ _ _ e
 ·by_cases q1:w1=w
  ·subst q1
   rw[TF.upd_at]at e1
   cases e1
   rw[TF.upd_ne th _ (λe=>hne e.symm)]at e2
   exact(hs w2 k2 ws2 (λe=>hne e.symm) e2).symm
  ·rw[TF.upd_ne th _ q1]at e1
   by_cases q2:w2=w
   ·subst q2
    rw[TF.upd_at]at e2
    cases e2
    exact hs w1 k1 ws1 q1 e1
   ·rw[TF.upd_ne th _ q2]at e2
    exact h.sep _ _ _ _ _ _ e1 e2 hne
theorem HPic.setHalf{m:Mem}{f:PF}{th:TF}(h:HPic m f th)(ok:MemOK m){w a d v:Int}(hf:f w=some (a,d)){i:Int}(hi:i=0\/i=1):HPic (m.store (w / 8+i) v).1 (f.upd w (if i=0 then v else a,if i=0 then d else v)) th:=by
 have p:=h.prs w a d hf
 have hu:m.used (w / 8+i):=by
  rcases hi with rfl | rfl
  ·rw[Int.add_zero];exact p.at'.used p.word
  ·exact p.used
 refine⟨λw' a' d' e=>?_,λw' k' ws' e=>?_,h.sep⟩
 ·by_cases q:w'=w
  ·subst q
   rw[PF.upd_at]at e
   cases e;exact p.set ok hi
  ·rw[PF.upd_ne f _ q]at e
   have p':=h.prs _ _ _ e
   obtain⟨q1,q2⟩:=pr_apart p' p q hi
   exact p'.setOther hu q1 q2
 ·have t:=h.ths _ _ _ e
  refine t.setFar hu (λj hj=>?_)
  obtain⟨q1,q2⟩:=p.noThing ok t hj
  rcases hi with rfl | rfl
  ·rw[Int.add_zero];exact q1
  ·exact q2
theorem HPic.setField{m:Mem}{f:PF}{th:TF}(h:HPic m f th)(ok:MemOK m){w k v:Int}{ws:List Int}(hf:th w=some (k,ws)){i:Nat}(hi:i<ws.length):HPic (m.store (w / 8+1+i) v).1 f (th.upd w (k,ws.set i v)):=by
 have t:=h.ths w k ws hf
 have hn: ∀k,(m.seg k).n<=64:=λk=>(ok.seg k).n.2
 have hu:=t.usedAt hn hi
 refine⟨λw' a' d' e=>?_,λw' k' ws' e=>?_,λw1 k1 ws1 w2 k2 ws2 e1 e2 hne=>?_⟩
 ·have p:=h.prs _ _ _ e
  obtain⟨q1,q2⟩:=p.noThing ok t (j:=i+1) (by omega)
  exact p.setOther hu (by omega) (by omega)
 ·by_cases q:w'=w
  ·subst q
   rw[TF.upd_at]at e
   cases e;exact t.set ok hi
  ·rw[TF.upd_ne th _ q]at e
   exact(h.ths _ _ _ e).setOther t ok hi (h.sep _ _ _ _ _ _ e hf q)
 ·by_cases q1:w1=w
  ·subst q1
   rw[TF.upd_at]at e1
   cases e1
   rw[TF.upd_ne th _ (λe=>hne e.symm)]at e2
   rw[List.length_set]
   exact h.sep _ _ _ _ _ _ hf e2 hne
  ·rw[TF.upd_ne th _ q1]at e1
   by_cases q2:w2=w
   ·subst q2
    rw[TF.upd_at]at e2
    cases e2
    rw[List.length_set]
    exact h.sep _ _ _ _ _ _ e1 hf hne
   ·rw[TF.upd_ne th _ q2]at e2
    exact h.sep _ _ _ _ _ _ e1 e2 hne

def Chn(f:PF):Int->List (Int×Int)->Prop
 | w,[]=>w=20
 | w,p::l=>w=p.1/\ ∃d,f p.1=some (p.2,d)/\Chn f d l
theorem Chn.cong{f g:PF}: ∀{l:List (Int×Int)} {w:Int},Chn f w l->(∀p∈l,g p.1=f p.1)->Chn g w l
 | [],_,h,_=>h
 | p::l,_,⟨h1,d,h2,h3⟩,hg=>⟨h1,d,by rw[hg p (by simp)];exact h2,h3.cong (λq hq=>hg q (by simp[hq]))⟩
theorem Chn.upd{f:PF}{l:List (Int×Int)}{w u:Int}{q:Int×Int}(h:Chn f w l)(hn: ∀p∈l,p.1≠u):Chn (f.upd u q) w l:=
 h.cong (λp hp=>PF.upd_ne f q (hn p hp))
theorem Chn.cons{f:PF}{l:List (Int×Int)}{w a d:Int}(hf:f w=some (a,d))(h:Chn f d l):Chn f w ((w,a)::l):=⟨rfl,d,hf,h⟩
theorem Chn.some{f:PF}: ∀{l:List (Int×Int)} {w:Int},Chn f w l-> ∀p∈l,∃d,f p.1=Option.some (p.2,d)
 | [],_,_,p,hp=>by simp at hp
 | q::l,_,⟨h1,d,h2,h3⟩,p,hp=>by
  rcases List.mem_cons.1 hp with rfl | hp
  ·exact⟨d,h2⟩
  ·exact h3.some p hp
theorem Chn.drop{f:PF}: ∀(k:Nat) {l:List (Int×Int)} {w:Int},Chn f w l-> ∃c,Chn f c (l.drop k)
 | 0,l,w,h=>⟨w,h⟩
 | k+1,[],w,h=>⟨w,h⟩
 | k+1,p::l,w,⟨h1,d,h2,h3⟩=>Chn.drop k h3
theorem Chn.without{f g:PF}{b rest:Int}{B:List (Int×Int)}(hb:Chn f rest B)(hgB: ∀p∈B,g p.1=f p.1): ∀(A:List (Int×Int)) {w e:Int},Chn f w (A++(b,e)::B)->f b=Option.some (e,rest)->
  (A=[]\/(∃A' q,A=A'++[q]/\g q.1=Option.some (q.2,rest)/\ ∀p∈A',g p.1=f p.1))->Chn g (if A=[]then rest else w) (A++B)
 | [],w,e,h,hf,_=>by rw[if_pos rfl];exact hb.cong hgB
 | [q],w,e,⟨h1,d,h2,h3⟩,hf,hA=>by
  rw[if_neg (by simp)]
  rcases hA with hA | ⟨A',q',hq,hg,_⟩
  ·simp at hA
  ·have:A'=[]/\q=q':=by
    cases A' with
    | nil=>simpa using hq
    | cons a A'=>simp at hq
   obtain⟨_,rfl⟩:=this
   exact⟨h1,rest,hg,hb.cong hgB⟩
 | q::q2::A,w,e,⟨h1,d,h2,h3⟩,hf,hA=>by
  rw[if_neg (by simp)]
  rcases hA with hA | ⟨A',q',hq,hg,hA'⟩
  ·simp at hA
  ·obtain⟨A'',rfl⟩: ∃A'',A'=q::A'':=by
    cases A' with
    | nil=>simp at hq
    | cons a A'=>simp at hq;exact⟨A',by rw[hq.1]⟩
   have ih:=Chn.without hb hgB (q2::A) h3 hf (.inr ⟨A'',q',by simpa using hq,hg,λp hp=>hA' p (by simp[hp])⟩)
   rw[if_neg (by simp)]at ih
   exact⟨h1,d,by rw[hA' q (by simp)];exact h2,ih⟩
