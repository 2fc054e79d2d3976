/-
 Pairs and things that are looked after on a heap, by their words. Proves nothing of any one statement.
-/
import Derived.Test.YtiebboaeaoobmaaGreatCons
set_option linter.unusedVariables false
set_option linter.unusedSimpArgs false
namespace Go.Proofs.YtiebboaeaoobmaaGreat
open Go

abbrev PF:=Int->Option (Int×Int)
def PF.upd(f:PF)(w:Int)(p:Int×Int):PF:=λu=>if u=w then some p else f u
theorem PF.upd_at(f:PF)(w:Int)(p:Int×Int):f.upd w p w=some p:=by unfold PF.upd;rw[if_pos rfl]
theorem PF.upd_ne(f:PF){w u:Int}(p:Int×Int)(h:u≠w):f.upd w p u=f u:=by unfold PF.upd;rw[if_neg h]
abbrev TF:=Int->Option (Int×List Int)
def TF.upd(f:TF)(w:Int)(p:Int×List Int):TF:=λu=>if u=w then some p else f u
theorem TF.upd_at(f:TF)(w:Int)(p:Int×List Int):f.upd w p w=some p:=by unfold TF.upd;rw[if_pos rfl]
theorem TF.upd_ne(f:TF){w u:Int}(p:Int×List Int)(h:u≠w):f.upd w p u=f u:=by unfold TF.upd;rw[if_neg h]
structure HPic (m:Mem) (f:PF) (th:TF):Prop where
 prs: ∀w a d,f w=some (a,d)->Pr m w 1 a d
 ths: ∀w k ws,th w=some (k,ws)->dA m w k 0 ws
 sep: ∀w k ws w' k' ws',th w=some (k,ws)->th w'=some (k',ws')->w≠w'->Sep w ws.length w' ws'.length
theorem Pr.noThing{m:Mem}(ok:bC m){w tag a d w' k more:Int}{ws:List Int}(h:Pr m w tag a d)(t:dA m w' k more ws){j:Nat}(hj:j<=ws.length):w' / 8+j≠w / 8/\w' / 8+j≠w / 8+1:=by
 have h1:=h.at'
 have h2:=t.obj
 have hl:=t.lenEq
 have hn:=(ok.seg (w' / 8 / 64).toNat).n
 have hk1:=h1.2.2.2.1
 have hk2:=h2.1.2.2.2.1
 have hb:=h2.2.2
 have ht:=h.istag
 have he:=h.even
 have hr:rawK (hk (m.get (w' / 8)))=2\/rawK (hk (m.get (w' / 8)))=3:=by unfold rawK;split<;>omega
 have key: ¬w / 8 / 64=w' / 8 / 64:=λe=>by rw[e]at hk1;omega
 constructor<;>intro e<;>apply key<;>omega
theorem ry{m:Mem}{w w' a d a' d':Int}(h:Pr m w 1 a d)(h':Pr m w' 1 a' d')(hne:w≠w'){i:Int}(hi:i=0\/i=1):w' / 8+i≠w / 8/\w' / 8+i≠w / 8+1:=by
 have e1:=h.even
 have e2:=h'.even
 have t1:=h.at'.2.1
 have t2:=h'.at'.2.1
 constructor<;>intro e<;>apply hne<;>omega
theorem HPic.keep{m m':Mem}{f:PF}{th:TF}(h:HPic m f th)(ok:bC m)(k:Keep m m'):HPic m' f th:=
 ⟨λw a d e=>(h.prs w a d e).keep k,λw kd ws e=>(h.ths w kd ws e).keep (λk=>(ok.seg k).n.2) k,h.sep⟩
theorem HPic.fresh{m m':Mem}{f:PF}{th:TF}(h:HPic m f th){w:Int}{n:Nat}(md:Made m m' w n):f w=none:=by
 cases e:f w with
 | none=>rfl
 | some p=>
  have hp:=h.prs w p.1 p.2 e
  have:=md.fresh 0 (by omega)
  rw[show w / 8+((0:Nat):Int)=w / 8 by omega]at this
  exact absurd (hp.at'.used hp.word) this
theorem HPic.freshT{m m':Mem}{f:PF}{th:TF}(h:HPic m f th){w:Int}{n:Nat}(md:Made m m' w n):th w=none:=by
 cases e:th w with
 | none=>rfl
 | some p=>
  have hp:=h.ths w p.1 p.2 e
  have:=md.fresh 0 (by omega)
  rw[show w / 8+((0:Nat):Int)=w / 8 by omega]at this
  exact absurd hp.usedHead this
theorem HPic.cons{m m':Mem}{f:PF}{th:TF}(h:HPic m f th)(ok:bC m){w a d:Int}(md:Made m m' w 1)(p:Pr m' w 1 a d):HPic m' (f.upd w (a,d)) th:=by
 have hk:=h.keep ok md.keep
 refine⟨λw' a' d' e=>?_,hk.ths,hk.sep⟩
 by_cases q:w'=w
 ·subst q
  rw[PF.upd_at]at e
  cases e;exact p
 ·rw[PF.upd_ne f _ q]at e;exact hk.prs _ _ _ e
theorem HPic.make{m m':Mem}{f:PF}{th:TF}(h:HPic m f th)(ok:bC m){w k:Int}{ws:List Int}(md:Made m m' w ws.length)(p:dA m' w k 0 ws):HPic m' f (th.upd w (k,ws)):=by
 have hk:=h.keep ok md.keep
 have hn: ∀k,(m.seg k).n<=64:=λk=>(ok.seg k).n.2
 have hs: ∀w' k' ws',w'≠w->th w'=some (k',ws')->Sep w' ws'.length w ws.length:=λw' k' ws' _ e=>md.sep hn (h.ths w' k' ws' e)
 refine⟨hk.prs,λw' k' ws' e=>?_,λw1 k1 ws1 w2 k2 ws2 e1 e2 hne=>?_⟩
 ·by_cases q:w'=w
  ·subst q
   rw[TF.upd_at]at e
   cases e;exact p
  ·rw[TF.upd_ne th _ q]at e;exact hk.ths _ _ _ e
 ·by_cases q1:w1=w
  ·subst q1
   rw[TF.upd_at]at e1
   cases e1
   rw[TF.upd_ne th _ (λe=>hne e.symm)]at e2
   exact(hs w2 k2 ws2 (λe=>hne e.symm) e2).symm
  ·rw[TF.upd_ne th _ q1]at e1
   by_cases q2:w2=w
   ·subst q2
    rw[TF.upd_at]at e2
    cases e2
    exact hs w1 k1 ws1 q1 e1
   ·rw[TF.upd_ne th _ q2]at e2
    exact h.sep _ _ _ _ _ _ e1 e2 hne
theorem HPic.setHalf{m:Mem}{f:PF}{th:TF}(h:HPic m f th)(ok:bC m){w a d v:Int}(hf:f w=some (a,d)){i:Int}(hi:i=0\/i=1):HPic (m.store (w / 8+i) v).1 (f.upd w (if i=0 then v else a,if i=0 then d else v)) th:=by
 have p:=h.prs w a d hf
 have hu:m.used (w / 8+i):=by
  rcases hi with rfl | rfl
  ·rw[Int.add_zero];exact p.at'.used p.word
  ·exact p.used
 refine⟨λw' a' d' e=>?_,λw' k' ws' e=>?_,h.sep⟩
 ·by_cases q:w'=w
  ·subst q
   rw[PF.upd_at]at e
   cases e;exact p.set ok hi
  ·rw[PF.upd_ne f _ q]at e
   have p':=h.prs _ _ _ e
   obtain⟨q1,q2⟩:=ry p' p q hi
   exact p'.setOther hu q1 q2
 ·have t:=h.ths _ _ _ e
  refine t.setFar hu (λj hj=>?_)
  obtain⟨q1,q2⟩:=p.noThing ok t hj
  rcases hi with rfl | rfl
  ·rw[Int.add_zero];exact q1
  ·exact q2
theorem HPic.setField{m:Mem}{f:PF}{th:TF}(h:HPic m f th)(ok:bC m){w k v:Int}{ws:List Int}(hf:th w=some (k,ws)){i:Nat}(hi:i<ws.length):HPic (m.store (w / 8+1+i) v).1 f (th.upd w (k,ws.set i v)):=by
 have t:=h.ths w k ws hf
 have hn: ∀k,(m.seg k).n<=64:=λk=>(ok.seg k).n.2
 have hu:=t.usedAt hn hi
 refine⟨λw' a' d' e=>?_,λw' k' ws' e=>?_,λw1 k1 ws1 w2 k2 ws2 e1 e2 hne=>?_⟩
 ·have p:=h.prs _ _ _ e
  obtain⟨q1,q2⟩:=p.noThing ok t (j:=i+1) (by omega)
  exact p.setOther hu (by omega) (by omega)
 ·by_cases q:w'=w
  ·subst q
   rw[TF.upd_at]at e
   cases e;exact t.set ok hi
  ·rw[TF.upd_ne th _ q]at e
   exact(h.ths _ _ _ e).setOther t ok hi (h.sep _ _ _ _ _ _ e hf q)
 ·by_cases q1:w1=w
  ·subst q1
   rw[TF.upd_at]at e1
   cases e1
   rw[TF.upd_ne th _ (λe=>hne e.symm)]at e2
   rw[List.length_set]
   exact h.sep _ _ _ _ _ _ hf e2 hne
  ·rw[TF.upd_ne th _ q1]at e1
   by_cases q2:w2=w
   ·subst q2
    rw[TF.upd_at]at e2
    cases e2
    rw[List.length_set]
    exact h.sep _ _ _ _ _ _ e1 hf hne
   ·rw[TF.upd_ne th _ q2]at e2
    exact h.sep _ _ _ _ _ _ e1 e2 hne

def Chn(f:PF):Int->List (Int×Int)->Prop
 | w,[]=>w=20
 | w,p::l=>w=p.1/\ ∃d,f p.1=some (p.2,d)/\Chn f d l
theorem Chn.cong{f g:PF}: ∀{l:List (Int×Int)} {w:Int},Chn f w l->(∀p∈l,g p.1=f p.1)->Chn g w l
 | [],_,h,_=>h
 | p::l,_,⟨h1,d,h2,h3⟩,hg=>⟨h1,d,by rw[hg p (by simp)];exact h2,h3.cong (λq hq=>hg q (by simp[hq]))⟩
theorem Chn.upd{f:PF}{l:List (Int×Int)}{w u:Int}{q:Int×Int}(h:Chn f w l)(hn: ∀p∈l,p.1≠u):Chn (f.upd u q) w l:=
 h.cong (λp hp=>PF.upd_ne f q (hn p hp))
theorem Chn.cons{f:PF}{l:List (Int×Int)}{w a d:Int}(hf:f w=some (a,d))(h:Chn f d l):Chn f w ((w,a)::l):=⟨rfl,d,hf,h⟩
theorem Chn.some{f:PF}: ∀{l:List (Int×Int)} {w:Int},Chn f w l-> ∀p∈l,∃d,f p.1=Option.some (p.2,d)
 | [],_,_,p,hp=>by simp at hp
 | q::l,_,⟨h1,d,h2,h3⟩,p,hp=>by
  rcases List.mem_cons.1 hp with rfl | hp
  ·exact⟨d,h2⟩
  ·exact h3.some p hp
theorem Chn.drop{f:PF}: ∀(k:Nat) {l:List (Int×Int)} {w:Int},Chn f w l-> ∃c,Chn f c (l.drop k)
 | 0,l,w,h=>⟨w,h⟩
 | k+1,[],w,h=>⟨w,h⟩
 | k+1,p::l,w,⟨h1,d,h2,h3⟩=>Chn.drop k h3
theorem Chn.without{f g:PF}{b rest:Int}{B:List (Int×Int)}(hb:Chn f rest B)(hgB: ∀p∈B,g p.1=f p.1): ∀(A:List (Int×Int)) {w e:Int},Chn f w (A++(b,e)::B)->f b=Option.some (e,rest)->
  (A=[]\/(∃A' q,A=A'++[q]/\g q.1=Option.some (q.2,rest)/\ ∀p∈A',g p.1=f p.1))->Chn g (if A=[]then rest else w) (A++B)
 | [],w,e,h,hf,_=>by rw[if_pos rfl];exact hb.cong hgB
 | [q],w,e,⟨h1,d,h2,h3⟩,hf,hA=>by
  rw[if_neg (by simp)]
  rcases hA with hA | ⟨A',q',hq,hg,_⟩
  ·simp at hA
  ·have:A'=[]/\q=q':=by
    cases A' with
    | nil=>simpa using hq
    | cons a A'=>simp at hq
   obtain⟨_,rfl⟩:=this
   exact⟨h1,rest,hg,hb.cong hgB⟩
 | q::q2::A,w,e,⟨h1,d,h2,h3⟩,hf,hA=>by
  rw[if_neg (by simp)]
  rcases hA with hA | ⟨A',q',hq,hg,hA'⟩
  ·simp at hA
  ·obtain⟨A'',rfl⟩: ∃A'',A'=q::A'':=by
    cases A' with
    | nil=>simp at hq
    | cons a A'=>simp at hq;exact⟨A',by rw[hq.1]⟩
   have ih:=Chn.without hb hgB (q2::A) h3 hf (.inr ⟨A'',q',by simpa using hq,hg,λp hp=>hA' p (by simp[hp])⟩)
   rw[if_neg (by simp)]at ih
   exact⟨h1,d,by rw[hA' q (by simp)];exact h2,ih⟩

structure Ent where
 e:Int
 k:Int
 v:Int
structure TW where
 vb:Int
 ents:Int
 ws:List Int
 sp:List (Int×Int)
 bs:Nat->List (Int×Int)
def idxK(k:Int):Nat:=(k / 8 % 31).toNat
theorem jH(k:Int):idxK k<31:=by unfold idxK;omega
structure Tb (f:PF) (th:TF) (t ew:Int) (E:List Ent) (W:TW):Prop where
 tab:th t=some (11,[8*(E.length:Int),W.ents,W.vb,ew])
 vec:th W.vb=some (1,W.ws)
 ne:t≠W.vb
 len:W.ws.length=31
 spc:Chn f W.ents W.sp
 spe:W.sp.map Prod.snd=(E.map Ent.e).reverse
 bkc: ∀i,i<31->Chn f (W.ws.getD i 20) (W.bs i)
 ent: ∀y∈E,f y.e=some (y.k,y.v)
 bke: ∀i,i<31-> ∀p∈W.bs i,∃y∈E,y.e=p.2
 bkx: ∀y∈E,∃i,i<31/\ ∃p∈W.bs i,p.2=y.e
 bk1: ∀i j,i<31->j<31-> ∀p∈W.bs i,∀q∈W.bs j,p.2=q.2->i=j/\p=q
 bkn: ∀i,i<31->(W.bs i).Nodup
 en:(E.map Ent.e).Nodup
 keys:(E.map Ent.k).Nodup
 rol: ∃ρ:Int->Nat,(∀y∈E,ρ y.e=0)/\(∀p∈W.sp,ρ p.1=1)/\ ∀i,i<31-> ∀p∈W.bs i,ρ p.1=i+2
def jW(E:List Ent)(W:TW):Prop:= ∀i,i<31-> ∀p∈W.bs i,∀y∈E,y.e=p.2->idxK y.k=i

section
variable {f:PF} {th:TF} {t ew:Int} {E:List Ent} {W:TW}
theorem Tb.one(T:Tb f th t ew E W){y z:Ent}(hy:y∈E)(hz:z∈E)(h:y.e=z.e):y=z:=by
 have h1:=T.ent y hy
 have h2:=T.ent z hz
 rw[h,h2]at h1
 simp only[Option.some.injEq,Prod.mk.injEq]at h1
 cases y;cases z
 simp only at h h1⊢
 obtain⟨rfl,rfl⟩:=h1
 rw[h]
theorem Tb.oneK(T:Tb f th t ew E W){y z:Ent}(hy:y∈E)(hz:z∈E)(h:y.k=z.k):y=z:=by
 obtain⟨i,hi,rfl⟩:=List.getElem_of_mem hy
 obtain⟨j,hj,rfl⟩:=List.getElem_of_mem hz
 have hn:=T.keys
 have:i=j:=(List.getElem_inj (i:=i) (j:=j) (h₀:=by simpa using hi) (h₁:=by simpa using hj) hn).1 (by simpa using h)
 subst this;rfl
theorem Tb.cong{g:PF}{th':TF}(T:Tb f th t ew E W)(hs: ∀p∈W.sp,g p.1=f p.1)(hb: ∀i,i<31-> ∀p∈W.bs i,g p.1=f p.1)(he: ∀y∈E,g y.e=f y.e)(h1:th' t=th t)(h2:th' W.vb=th W.vb):Tb g th' t ew E W:=
 ⟨h1.trans T.tab,h2.trans T.vec,T.ne,T.len,T.spc.cong hs,T.spe,λi hi=>(T.bkc i hi).cong (hb i hi),λy hy=>(he y hy).trans (T.ent y hy),T.bke,T.bkx,T.bk1,T.bkn,T.en,T.keys,T.rol⟩
theorem Tb.known(T:Tb f th t ew E W){u:Int}(hu:f u=none):(∀p∈W.sp,p.1≠u)/\(∀i,i<31-> ∀p∈W.bs i,p.1≠u)/\ ∀y∈E,y.e≠u:=by
 refine⟨λp hp e=>?_,λi hi p hp e=>?_,λy hy e=>?_⟩
 ·obtain⟨d,h⟩:=T.spc.some p hp
  rw[e,hu]at h;cases h
 ·obtain⟨d,h⟩:=(T.bkc i hi).some p hp
  rw[e,hu]at h;cases h
 ·have h:=T.ent y hy
  rw[e,hu]at h;cases h
theorem Tb.grow(T:Tb f th t ew E W){u:Int}{q:Int×Int}(hu:f u=none):Tb (f.upd u q) th t ew E W:=by
 obtain⟨k1,k2,k3⟩:=T.known hu
 exact T.cong (λp hp=>PF.upd_ne f q (k1 p hp)) (λi hi p hp=>PF.upd_ne f q (k2 i hi p hp)) (λy hy=>PF.upd_ne f q (k3 y hy)) rfl rfl
theorem Tb.new{g:PF}{th':TF}{e a o k v:Int}(T:Tb f th t ew E W)(R:jW E W)(hk: ∀y∈E,y.k≠k)(f1:f e=none)(f2:f a=none)(f3:f o=none)(n1:a≠e)(n2:o≠e)(n3:o≠a)
  (g1:g e=some (k,v)) (g2:g a=some (e,W.ents)) (g3:g o=some (e,W.ws.getD (idxK k) 20)) (gu: ∀u,u≠e->u≠a->u≠o->g u=f u)
  (h1:th' t=some (11,[8*((E.length:Int)+1),a,W.vb,ew])) (h2:th' W.vb=some (1,W.ws.set (idxK k) o)):
  Tb g th' t ew (E++[⟨e,k,v⟩]) ⟨W.vb,a,W.ws.set (idxK k) o,(a,e)::W.sp,λj=>if j=idxK k then(o,e)::W.bs j else W.bs j⟩/\jW (E++[⟨e,k,v⟩]) ⟨W.vb,a,W.ws.set (idxK k) o,(a,e)::W.sp,λj=>if j=idxK k then(o,e)::W.bs j else W.bs j⟩:=by
 obtain⟨a1,a2,a3⟩:=T.known f1
 obtain⟨b1,b2,b3⟩:=T.known f2
 obtain⟨c1,c2,c3⟩:=T.known f3
 have hi:=jH k
 have hsp: ∀p∈W.sp,g p.1=f p.1:=λp hp=>gu _ (a1 p hp) (b1 p hp) (c1 p hp)
 have hbs: ∀i,i<31-> ∀p∈W.bs i,g p.1=f p.1:=λi hi p hp=>gu _ (a2 i hi p hp) (b2 i hi p hp) (c2 i hi p hp)
 have hen: ∀y∈E,g y.e=f y.e:=λy hy=>gu _ (a3 y hy) (b3 y hy) (c3 y hy)
 have hbe: ∀i,i<31-> ∀p∈W.bs i,p.2≠e:=λi hi p hp q=>by
  obtain⟨y,hy,he⟩:=T.bke i hi p hp
  exact a3 y hy (he.trans q)
 have hmem: ∀(j:Nat) (p:Int×Int),p∈(if j=idxK k then(o,e)::W.bs j else W.bs j)->(j=idxK k/\p=(o,e))\/p∈W.bs j:=λj p hp=>by
  by_cases q:j=idxK k
  ·rw[if_pos q]at hp
   rcases List.mem_cons.1 hp with r | r
   ·exact .inl ⟨q,r⟩
   ·exact .inr r
  ·rw[if_neg q]at hp;exact .inr hp
 have hin: ∀(j:Nat) (p:Int×Int),p∈W.bs j->p∈(if j=idxK k then(o,e)::W.bs j else W.bs j):=λj p hp=>by
  split
  ·exact List.mem_cons_of_mem _ hp
  ·exact hp
 obtain⟨ρ,r1,r2,r3⟩:=T.rol
 refine⟨⟨by rw[h1];simp,h2,T.ne,by simpa using T.len,.cons g2 (T.spc.cong hsp),?_,λj hj=>?_,λy hy=>?_,λj hj p hp=>?_,λy hy=>?_,λi j hi' hj p hp q hq e'=>?_,λj hj=>?_,?_,?_,?_⟩,λj hj p hp y hy e'=>?_⟩
 ·simp[T.spe]
 ·show Chn g ((W.ws.set (idxK k) o).getD j 20) (if j=idxK k then(o,e)::W.bs j else W.bs j)
  rw[List.getD_eq_getElem?_getD,List.getElem?_set]
  by_cases q:j=idxK k
  ·rw[if_pos q,if_pos q.symm,if_pos (by rw[T.len];exact hi)]
   refine .cons g3 ?_
   rw[<-q]
   exact(T.bkc j hj).cong (hbs j hj)
  ·rw[if_neg q,if_neg (λr=>q r.symm),<-List.getD_eq_getElem?_getD]
   exact(T.bkc j hj).cong (hbs j hj)
 ·rcases List.mem_append.1 hy with h | h
  ·rw[hen y h];exact T.ent y h
  ·simp at h;rw[h];exact g1
 ·rcases hmem j p hp with⟨_,rfl⟩ | h
  ·exact⟨⟨e,k,v⟩,by simp,rfl⟩
  ·obtain⟨y,hy,he⟩:=T.bke j hj p h
   exact⟨y,List.mem_append_left _ hy,he⟩
 ·rcases List.mem_append.1 hy with h | h
  ·obtain⟨i,hi',p,hp,he⟩:=T.bkx y h
   exact⟨i,hi',p,hin i p hp,he⟩
  ·simp at h
   rw[h]
   exact⟨idxK k,hi,(o,e),by show(o,e)∈(if idxK k=idxK k then _ else _);rw[if_pos rfl];simp,rfl⟩
 ·rcases hmem i p hp with⟨q1,rfl⟩ | h
  ·rcases hmem j q hq with⟨q2,rfl⟩ | h'
   ·exact⟨q1.trans q2.symm,rfl⟩
   ·exact absurd e'.symm (hbe j hj q h')
  ·rcases hmem j q hq with⟨q2,rfl⟩ | h'
   ·exact absurd e' (hbe i hi' p h)
   ·exact T.bk1 i j hi' hj p h q h' e'
 ·show(if j=idxK k then(o,e)::W.bs j else W.bs j).Nodup
  split
  ·exact List.nodup_cons.2 ⟨λh=>hbe j hj _ h rfl,T.bkn j hj⟩
  ·exact T.bkn j hj
 ·rw[List.map_append,List.nodup_append]
  refine⟨T.en,by simp,λu hu w hw=>?_⟩
  obtain⟨y,hy,rfl⟩:=List.mem_map.1 hu
  simp at hw
  rw[hw];exact a3 y hy
 ·rw[List.map_append,List.nodup_append]
  refine⟨T.keys,by simp,λu hu w hw=>?_⟩
  obtain⟨y,hy,rfl⟩:=List.mem_map.1 hu
  simp at hw
  rw[hw];exact hk y hy
 ·refine⟨λu=>if u=e then 0 else if u=a then 1 else if u=o then idxK k+2 else ρ u,λy hy=>?_,λp hp=>?_,λi hi' p hp=>?_⟩
  ·rcases List.mem_append.1 hy with h | h
   ·simp only[]
    rw[if_neg (a3 y h),if_neg (b3 y h),if_neg (c3 y h)];exact r1 y h
   ·simp at h;rw[h];simp
  ·rcases List.mem_cons.1 hp with rfl | h
   ·show(if a=e then 0 else if a=a then 1 else if a=o then idxK k+2 else ρ a)=1
    rw[if_neg n1,if_pos rfl]
   ·simp only[]
    rw[if_neg (a1 p h),if_neg (b1 p h),if_neg (c1 p h)];exact r2 p h
  ·rcases hmem i p hp with⟨q1,rfl⟩ | h
   ·show(if o=e then 0 else if o=a then 1 else if o=o then idxK k+2 else ρ o)=i+2
    rw[if_neg n2,if_neg n3,if_pos rfl,q1]
   ·simp only[]
    rw[if_neg (a2 i hi' p h),if_neg (b2 i hi' p h),if_neg (c2 i hi' p h)];exact r3 i hi' p h
 ·rcases hmem j p hp with⟨q1,rfl⟩ | h
  ·rcases List.mem_append.1 hy with h | h
   ·exact absurd e' (a3 y h)
   ·simp at h;rw[h];exact q1.symm
  ·rcases List.mem_append.1 hy with h' | h'
   ·exact R j hj p h y h' e'
   ·simp at h'
    rw[h']at e'
    exact absurd e'.symm (hbe j hj p h)
def setV(E:List Ent)(k v:Int):List Ent:=E.map λz=>if z.k=k then⟨z.e,z.k,v⟩else z
theorem rz(E:List Ent)(k v:Int):(setV E k v).map Ent.e=E.map Ent.e:=by
 unfold setV
 rw[List.map_map]
 refine List.map_congr_left λz _=>?_
 simp only[Function.comp]
 split<;>rfl
theorem tA(E:List Ent)(k v:Int):(setV E k v).map Ent.k=E.map Ent.k:=by
 unfold setV
 rw[List.map_map]
 refine List.map_congr_left λz _=>?_
 simp only[Function.comp]
 split<;>rfl
theorem jX{E:List Ent}{k v:Int}{z:Ent}(h:z∈setV E k v): ∃y∈E,z.e=y.e/\z.k=y.k/\z.v=if y.k=k then v else y.v:=by
 unfold setV at h
 obtain⟨y,hy,rfl⟩:=List.mem_map.1 h
 refine⟨y,hy,?_⟩
 by_cases q:y.k=k
 ·rw[if_pos q,if_pos q];exact⟨rfl,rfl,rfl⟩
 ·rw[if_neg q,if_neg q];exact⟨rfl,rfl,rfl⟩
theorem rD{E:List Ent}{k v:Int}{y:Ent}(h:y∈E): ∃z∈setV E k v,z.e=y.e/\z.k=y.k:=by
 refine⟨_,List.mem_map_of_mem h,?_⟩
 split<;>exact⟨rfl,rfl⟩
theorem Tb.old(T:Tb f th t ew E W)(R:jW E W){y:Ent}(hy:y∈E)(v:Int):Tb (f.upd y.e (y.k,v)) th t ew (setV E y.k v) W/\jW (setV E y.k v) W:=by
 obtain⟨ρ,r1,r2,r3⟩:=T.rol
 have h1: ∀p∈W.sp,(f.upd y.e (y.k,v)) p.1=f p.1:=λp hp=>PF.upd_ne f _ (λe=>by have:=r2 p hp;rw[e,r1 y hy]at this;cases this)
 have h2: ∀i,i<31-> ∀p∈W.bs i,(f.upd y.e (y.k,v)) p.1=f p.1:=λi hi p hp=>PF.upd_ne f _ (λe=>by have:=r3 i hi p hp;rw[e,r1 y hy]at this;omega)
 have hl:(setV E y.k v).length=E.length:=by unfold setV;simp
 refine⟨⟨by rw[hl];exact T.tab,T.vec,T.ne,T.len,T.spc.cong h1,by rw[rz];exact T.spe,λi hi=>(T.bkc i hi).cong (h2 i hi),λz hz=>?_,λi hi p hp=>?_,λz hz=>?_,T.bk1,T.bkn,by rw[rz];exact T.en,by rw[tA];exact T.keys,⟨ρ,λz hz=>?_,r2,r3⟩⟩,λi hi p hp z hz e=>?_⟩
 ·obtain⟨z',hz',e1,e2,e3⟩:=jX hz
  by_cases q:z'.k=y.k
  ·have:=T.oneK hz' hy q
   subst this
   rw[if_pos rfl]at e3
   rw[e1,e2,e3,PF.upd_at]
  ·rw[if_neg q]at e3
   rw[e1,e2,e3,PF.upd_ne f _ (λe=>q (by rw[T.one hz' hy e]))]
   exact T.ent z' hz'
 ·obtain⟨z,hz,e⟩:=T.bke i hi p hp
  obtain⟨z',hz',e1,_⟩:=rD (k:=y.k) (v:=v) hz
  exact⟨z',hz',e1.trans e⟩
 ·obtain⟨z',hz',e1,_⟩:=jX hz
  obtain⟨i,hi,p,hp,e⟩:=T.bkx z' hz'
  exact⟨i,hi,p,hp,e.trans e1.symm⟩
 ·obtain⟨z',hz',e1,_⟩:=jX hz
  rw[e1];exact r1 z' hz'
 ·obtain⟨z',hz',e1,e2,_⟩:=jX hz
  rw[e2];exact R i hi p hp z' hz' (e1.symm.trans e)
def delK(E:List Ent)(k:Int):List Ent:=E.filter λz=>decide (z.k≠k)
theorem jy{E:List Ent}{k:Int}{z:Ent}:z∈delK E k ↔ z∈E/\z.k≠k:=by unfold delK;rw[List.mem_filter,decide_eq_true_eq]
theorem Tb.del{g:PF}{th':TF}{r1 r2:Int}(T:Tb f th t ew E W)(R:jW E W){y:Ent}(hy:y∈E){A B A2 B2:List (Int×Int)}{o a:Int}
  (hb:W.bs (idxK y.k)=A++(o,y.e)::B) (hs:W.sp=A2++(a,y.e)::B2) (c1:Chn g r1 (A++B)) (c2:Chn g r2 (A2++B2))
  (ge: ∀z∈E,z.k≠y.k->g z.e=f z.e) (gb: ∀i,i<31->i≠idxK y.k-> ∀p∈W.bs i,g p.1=f p.1)
  (h1:th' t=some (11,[8*((E.length:Int)-1),r2,W.vb,ew])) (h2:th' W.vb=some (1,W.ws.set (idxK y.k) r1)):
  Tb g th' t ew (delK E y.k) ⟨W.vb,r2,W.ws.set (idxK y.k) r1,A2++B2,λj=>if j=idxK y.k then A++B else W.bs j⟩/\jW (delK E y.k) ⟨W.vb,r2,W.ws.set (idxK y.k) r1,A2++B2,λj=>if j=idxK y.k then A++B else W.bs j⟩:=by
 have hi:=jH y.k
 have hsub: ∀(j:Nat) (p:Int×Int),p∈(if j=idxK y.k then A++B else W.bs j)->p∈W.bs j:=λj p hp=>by
  by_cases q:j=idxK y.k
  ·rw[if_pos q]at hp
   rw[q,hb]
   rcases List.mem_append.1 hp with h | h
   ·exact List.mem_append_left _ h
   ·exact List.mem_append_right _ (List.mem_cons_of_mem _ h)
  ·rw[if_neg q]at hp;exact hp
 have hnd:=T.bkn _ hi
 rw[hb]at hnd
 have hnd1:(A++B).Nodup/\(o,y.e) ∉ A++B:=by
  rw[List.nodup_append]at hnd
  obtain⟨n1,n2,n3⟩:=hnd
  rw[List.nodup_cons]at n2
  refine⟨List.nodup_append.2 ⟨n1,n2.2,λu hu w hw=>n3 u hu w (by simp[hw])⟩,λh=>?_⟩
  rcases List.mem_append.1 h with h | h
  ·exact n3 _ h _ (by simp) rfl
  ·exact n2.1 h
 have hoi:(o,y.e)∈W.bs (idxK y.k):=by rw[hb];simp
 have hnone: ∀j,j<31-> ∀p∈(if j=idxK y.k then A++B else W.bs j),p.2≠y.e:=λj hj p hp e=>by
  obtain⟨q1,q2⟩:=T.bk1 j (idxK y.k) hj hi p (hsub j p hp) _ hoi e
  rw[if_pos q1,q2]at hp
  exact hnd1.2 hp
 have hEs:(E.map Ent.e).reverse=A2.map Prod.snd++y.e::B2.map Prod.snd:=by rw[<-T.spe,hs];simp
 have hE:E.map Ent.e=(B2.map Prod.snd).reverse++y.e::(A2.map Prod.snd).reverse:=by
  have:=congrArg List.reverse hEs
  rw[List.reverse_reverse]at this
  rw[this];simp
 obtain⟨E1,E2,hE12⟩:=List.append_of_mem hy
 have hk:=T.keys
 rw[hE12,List.map_append,List.map_cons,List.nodup_append]at hk
 obtain⟨k1,k2,k3⟩:=hk
 rw[List.nodup_cons]at k2
 have hdel:delK E y.k=E1++E2:=by
  rw[hE12]
  unfold delK
  rw[List.filter_append,List.filter_cons_of_neg (by simp),List.filter_eq_self.2 (λz hz=>?_),List.filter_eq_self.2 (λz hz=>?_)]
  ·rw[decide_eq_true_eq];exact λe=>k2.1 (by rw[<-e];exact List.mem_map_of_mem hz)
  ·rw[decide_eq_true_eq];exact λe=>k3 z.k (List.mem_map_of_mem hz) y.k (by simp) e
 have hen:=T.en
 have hE':(E1.map Ent.e)=(B2.map Prod.snd).reverse/\E2.map Ent.e=(A2.map Prod.snd).reverse:=by
  have e1:E1.map Ent.e++y.e::E2.map Ent.e=(B2.map Prod.snd).reverse++y.e::(A2.map Prod.snd).reverse:=by rw[<-hE,hE12];simp
  have n1:y.e ∉ E1.map Ent.e:=by
   rw[hE12,List.map_append,List.map_cons,List.nodup_append]at hen
   exact λh=>hen.2.2 _ h _ (by simp) rfl
  have n2:y.e ∉ (B2.map Prod.snd).reverse:=by
   rw[hE,List.nodup_append]at hen
   exact λh=>hen.2.2 _ h _ (by simp) rfl
  have key: ∀(l1 l2 m1 m2:List Int),l1++y.e::l2=m1++y.e::m2->y.e ∉ l1->y.e ∉ m1->l1=m1/\l2=m2:=by
   intro l1
   induction l1 with
   | nil=>
    intro l2 m1 m2 h _ h2
    cases m1 with
    | nil=>simp at h;exact⟨rfl,h⟩
    | cons c m1=>simp at h;exact absurd (by rw[h.1];simp) h2
   | cons c l1 ih=>
    intro l2 m1 m2 h h1 h2
    cases m1 with
    | nil=>simp at h;exact absurd (by rw[h.1];simp) h1
    | cons c' m1=>
     simp at h
     obtain⟨q1,q2⟩:=ih l2 m1 m2 h.2 (λh'=>h1 (by simp[h'])) (λh'=>h2 (by simp[h']))
     exact⟨by rw[h.1,q1],q2⟩
  exact key _ _ _ _ e1 n1 n2
 have hlen:(delK E y.k).length+1=E.length:=by rw[hdel,hE12];simp;omega
 obtain⟨ρ,r1',r2',r3'⟩:=T.rol
 refine⟨⟨by rw[h1,<-hlen];simp,h2,T.ne,by simpa using T.len,c2,?_,λj hj=>?_,λz hz=>?_,λj hj p hp=>?_,λz hz=>?_,λi j hi' hj p hp q hq e'=>T.bk1 i j hi' hj p (hsub i p hp) q (hsub j q hq) e',λj hj=>?_,?_,?_,⟨ρ,λz hz=>r1' z (jy.1 hz).1,λp hp=>r2' p ?_,λi hi' p hp=>r3' i hi' p (hsub i p hp)⟩⟩,λj hj p hp z hz e'=>R j hj p (hsub j p hp) z (jy.1 hz).1 e'⟩
 ·show(A2++B2).map Prod.snd=((delK E y.k).map Ent.e).reverse
  rw[hdel,List.map_append,List.map_append,hE'.1,hE'.2];simp
 ·show Chn g ((W.ws.set (idxK y.k) r1).getD j 20) (if j=idxK y.k then A++B else W.bs j)
  rw[List.getD_eq_getElem?_getD,List.getElem?_set]
  by_cases q:j=idxK y.k
  ·rw[if_pos q,if_pos q.symm,if_pos (by rw[T.len];exact hi)]
   exact c1
  ·rw[if_neg q,if_neg (λr=>q r.symm),<-List.getD_eq_getElem?_getD]
   exact(T.bkc j hj).cong (gb j hj q)
 ·obtain⟨z1,z2⟩:=jy.1 hz
  rw[ge z z1 z2];exact T.ent z z1
 ·obtain⟨z,hz,e⟩:=T.bke j hj p (hsub j p hp)
  refine⟨z,jy.2 ⟨hz,λq=>?_⟩,e⟩
  have:=T.oneK hz hy q
  subst this
  exact hnone j hj p hp e.symm
 ·obtain⟨z1,z2⟩:=jy.1 hz
  obtain⟨i,hi',p,hp,e⟩:=T.bkx z z1
  refine⟨i,hi',p,?_,e⟩
  show p∈(if i=idxK y.k then A++B else W.bs i)
  by_cases q:i=idxK y.k
  ·rw[if_pos q]
   rw[q,hb]at hp
   rcases List.mem_append.1 hp with h | h
   ·exact List.mem_append_left _ h
   ·rcases List.mem_cons.1 h with h | h
    ·rw[h]at e
     exact absurd (by rw[T.one z1 hy e.symm]) z2
    ·exact List.mem_append_right _ h
  ·rw[if_neg q];exact hp
 ·show(if j=idxK y.k then A++B else W.bs j).Nodup
  split
  ·exact hnd1.1
  ·exact T.bkn j hj
 ·exact(T.en.sublist (List.Sublist.map _ (List.filter_sublist)))
 ·exact(T.keys.sublist (List.Sublist.map _ (List.filter_sublist)))
 ·rw[hs]
  rcases List.mem_append.1 hp with h | h
  ·exact List.mem_append_left _ h
  ·exact List.mem_append_right _ (List.mem_cons_of_mem _ h)
end

structure JOK (J:Sp->(Int->Prop)->Prop):Prop where
 ok: ∀{s:Sp} {G:Int->Prop},J s G->SpOK s
 even: ∀{s:Sp} {G:Int->Prop},J s G->s.mem.Even
 cnt: ∀{s:Sp} {G:Int->Prop},J s G->s.mem.count<4611686018427387904
 imm: ∀{s:Sp} {G:Int->Prop},J s G-> ∀v,v % 8≠6-> ¬(v % 8=1\/v % 8=2\/v % 8=3)->G v
 half: ∀{s:Sp} {G:Int->Prop} {w a d v i:Int},J s G->Pr s.mem w 1 a d->G w->aG v->G v->(i=0\/i=1)->J {s with mem:=(s.mem.store (w / 8+i) v).1} G
 field: ∀{s:Sp} {G:Int->Prop} {w k v:Int} {ws:List Int} {i:Nat},J s G->dA s.mem w k 0 ws->G w->aG v->G v->i<ws.length->J {s with mem:=(s.mem.store (w / 8+1+i) v).1} G
 pr: ∀{s:Sp} {G:Int->Prop} {w a d:Int},J s G->Pr s.mem w 1 a d->G w->G a/\G d
 th: ∀{s:Sp} {G:Int->Prop} {w k:Int} {ws:List Int},J s G->dA s.mem w k 0 ws->rawK k=2->G w-> ∀v∈ws,G v
 put: ∀{s:Sp} {G:Int->Prop} {kind tag:Int} {ws:List Int},J s G->(kind=0/\tag=1/\ws.length=2\/kind=1/\tag=2/\ws.length=2\/(kind=2\/kind=3)/\tag=3/\ ∃hd fs,ws=hd::fs/\iu hd/\rawK (hk hd)=kind/\hn hd=fs.length)->(∀w∈ws,aG w)->(kind≠3-> ∀w∈ws,G w)->
  ∃G',J (s.put kind tag ws).1 G'/\(∀v,G v->G' v)/\((s.put kind tag ws).2.2=0->G' (s.put kind tag ws).2.1)
theorem Sp.alloc_two{s:Sp}(ok:SpOK s){g k n:Int}(hm:may g k n)(h:(s.alloc g k n).2.2≠0):(s.alloc g k n).2.2=2:=by
 by_cases hf:s.mem.free=0
 ·have hg:=hm.1
  have hk:0<=k/\k<=3:=by have:=hm.2;omega
  unfold Sp.alloc at*
  rw[if_neg (λhh=>hh hm)]at h⊢
  by_cases hc:s.cur g.toNat k.toNat≠0/\(s.mem.bump (s.cur g.toNat k.toNat-1) n).2.2=0
  ·rw[if_pos hc]at h;exact absurd rfl h
  rw[if_neg hc]at h⊢
  have hte:s.mem.take g k=(s.mem,0,2):=by unfold Mem.take;rw[if_neg (by omega),if_pos hf]
  rw[hte,if_neg (by decide: ¬((2:Int)=0))]
 ·have:0<=s.mem.free:=by rw[ok.mem.free];omega
  exact absurd (Sp.alloc_can ok hm (by omega)) h

def Full(s:Sp):Prop:= ¬(s.alloc 0 0 2).2.2=0
theorem rE:may 0 0 2:=⟨by decide,.inl ⟨by decide,rfl⟩⟩
theorem ns(m:Mem)(k d:Int):(m.bump k d).2.2=0 ↔ m.has k/\1<=d/\d<=64-(m.seg k.toNat).n:=by
 unfold Mem.bump
 by_cases h1:m.has k
 ·rw[if_neg (show ¬ ¬m.has k from λq=>q h1)]
  by_cases h2:d<1
  ·rw[if_pos h2]
   exact⟨λq=>absurd q (by show ¬(1:Int)=0;decide),λq=>by omega⟩
  ·rw[if_neg h2]
   by_cases h3:64-(m.seg k.toNat).n<d
   ·rw[if_pos h3]
    exact⟨λq=>absurd q (by show ¬(2:Int)=0;decide),λq=>by omega⟩
   ·rw[if_neg h3]
    exact⟨λ_=>⟨h1,by omega,by omega⟩,λ_=>rfl⟩
 ·rw[if_pos h1]
  exact⟨λq=>absurd q (by show ¬(19:Int)=0;decide),λq=>absurd q.1 h1⟩
theorem oJ{s:Sp}(ok:SpOK s):Full s ↔ s.mem.free=0/\ ¬(s.cur 0 0≠0/\(s.mem.bump (s.cur 0 0-1) 2).2.2=0):=by
 have e:(s.alloc 0 0 2).2.2=if s.cur 0 0≠0/\(s.mem.bump (s.cur 0 0-1) 2).2.2=0 then 0 else if(s.mem.take 0 0).2.2=0 then((s.mem.take 0 0).1.bump (s.mem.take 0 0).2.1 2).2.2 else(s.mem.take 0 0).2.2:=by
  unfold Sp.alloc
  rw[if_neg (λq=>q rE)]
  have e0:(0:Int).toNat=0:=rfl
  rw[e0]
  split
  ·rfl
  split<;>rfl
 constructor
 ·intro h
  refine⟨?_,λq=>h (by rw[e,if_pos q])⟩
  by_cases q:s.mem.free=0
  ·exact q
  ·have:0<=s.mem.free:=by rw[ok.mem.free];omega
   exact absurd (Sp.alloc_can ok rE (by omega)) h
 ·rintro⟨h1,h2⟩
  unfold Full
  have ht:(s.mem.take 0 0).2.2=2:=by
   unfold Mem.take
   rw[if_neg (by decide),if_pos h1]
  rw[e,if_neg h2,ht,if_neg (by decide)]
  decide
theorem Full.store{s:Sp}(ok:SpOK s)(h:Full s){a v:Int}(ok2:SpOK {s with mem:=(s.mem.store a v).1}):Full {s with mem:=(s.mem.store a v).1}:=by
 rw[oJ ok]at h
 rw[oJ ok2]
 refine⟨Mem.store_lim.2.1.trans h.1,λq=>h.2 ⟨q.1,?_⟩⟩
 have h2:=(ns _ _ _).1 q.2
 rw[ns]
 have e:((s.mem.store a v).1.seg (s.cur 0 0-1).toNat).n=(s.mem.seg (s.cur 0 0-1).toNat).n:=(Mem.store_seg _).2.2
 exact⟨Mem.store_has.1 h2.1,h2.2.1,by rw[<-e];exact h2.2.2⟩
def Rest(n:Int)(x x':Hp):Prop:=x'.sy=x.sy/\x'.en=x.en/\x'.ep=x.ep/\x.sp.mem.free-n<=x'.sp.mem.free/\(∀a,x.sp.mem.used a->x'.sp.mem.used a)/\0<=n/\(n=0->Full x.sp->Full x'.sp)
theorem Rest.refl(x:Hp):Rest 0 x x:=⟨rfl,rfl,rfl,by omega,λ_ h=>h,by omega,λ_ h=>h⟩
theorem Rest.trans{n k m:Int}{x y z:Hp}(h:Rest n x y)(q:Rest k y z)(hm:n+k<=m:=by omega):Rest m x z:=by
 obtain⟨h1,h2,h3,h4,h5,h6,h7⟩:=h
 obtain⟨q1,q2,q3,q4,q5,q6,q7⟩:=q
 exact⟨q1.trans h1,q2.trans h2,q3.trans h3,by omega,λa ha=>q5 a (h5 a ha),by omega,λe f=>q7 (by omega) (h7 (by omega) f)⟩
theorem Rest.le{n m:Int}{x y:Hp}(h:Rest n x y)(hm:n<=m:=by omega):Rest m x y:=by
 obtain⟨h1,h2,h3,h4,h5,h6,h7⟩:=h
 exact⟨h1,h2,h3,by omega,h5,by omega,λe=>h7 (by omega)⟩
theorem Rest.free{n:Int}{x y:Hp}(h:Rest n x y):x.sp.mem.free-n<=y.sp.mem.free:=h.2.2.2.1
theorem Rest.ep{n:Int}{x y:Hp}(h:Rest n x y):y.ep=x.ep:=h.2.2.1
theorem Rest.full{x y:Hp}(h:Rest 0 x y)(f:Full x.sp):Full y.sp:=h.2.2.2.2.2.2 rfl f
structure HS (J:Sp->(Int->Prop)->Prop) (H0 H:zV) (b:Blk) (x:Hp) (G:Int->Prop) (f:PF) (th:TF):Prop where
 e:Ext H0 H
 view:View H (some ⟨b.h,0,none⟩) (some (b,x))
 j:J x.sp G
 pic:HPic x.sp.mem f th
 gf: ∀w p,f w=some p->G w
 gt: ∀w p,th w=some p->G w
 hb: ∀j∈b.all,H0.size<=j

section
variable {J:Sp->(Int->Prop)->Prop} {H0 H:zV} {b:Blk} {x:Hp} {G:Int->Prop} {f:PF} {th:TF}
theorem HS.ext{H':zV}(S:HS J H0 H b x G f th)(e:Ext H H'):HS J H0 H' b x G f th:=⟨S.e.trans e,S.view.ext e,S.j,S.pic,S.gf,S.gt,S.hb⟩
theorem HS.blt(S:HS J H0 H b x G f th): ∀j∈b.all,j<H.size:=by
 obtain⟨-,hp,-⟩:=S.view.inv
 exact hp.lt
theorem HS.keep{H':zV}{T:List Nat}(S:HS J H0 H b x G f th)(fr:Fr T H H')(h0: ∀j∈T,H0.size<=j)(hT: ∀j∈T,j ∉ b.all):HS J H0 H' b x G f th:=by
 obtain⟨-,hp,ok⟩:=S.view.inv
 exact⟨S.e.fr_trans fr h0,.real (hp.keep fr hT) ok,S.j,S.pic,S.gf,S.gt,S.hb⟩
theorem HS.less{f':PF}{th':TF}(S:HS J H0 H b x G f th)(hf: ∀w p,f' w=some p->f w=some p)(ht: ∀w p,th' w=some p->th w=some p):HS J H0 H b x G f' th':=
 ⟨S.e,S.view,S.j,⟨λw a d e=>S.pic.prs w a d (hf _ _ e),λw k ws e=>S.pic.ths w k ws (ht _ _ e),λw k ws w' k' ws' e e'=>S.pic.sep w k ws w' k' ws' (ht _ _ e) (ht _ _ e')⟩,λw p e=>S.gf w p (hf _ _ e),λw p e=>S.gt w p (ht _ _ e),S.hb⟩
theorem HS.car_c(S:HS J H0 H b x G f th){w a d:Int}(hf:f w=some (a,d)):dd.C (some ⟨b.h,0,none⟩) w H (λv H'=>v=.tuple #[.int .u64 a,.int .i64 0]/\Ext H H'):=by
 have p:=S.pic.prs w a d hf
 refine HC.mono (qG S.view p.word) ?_
 rintro _ H' ⟨rfl,e⟩
 have hm:mof (some (b,x))=x.sp.mem:=rfl
 rw[hm,p.half.1,if_pos rfl,Int.add_zero,p.car]
 exact⟨rfl,e⟩
theorem HS.cdr_c(S:HS J H0 H b x G f th){w a d:Int}(hf:f w=some (a,d)):dE.C (some ⟨b.h,0,none⟩) w H (λv H'=>v=.tuple #[.int .u64 d,.int .i64 0]/\Ext H H'):=by
 have p:=S.pic.prs w a d hf
 refine HC.mono (qH S.view p.word) ?_
 rintro _ H' ⟨rfl,e⟩
 have hm:mof (some (b,x))=x.sp.mem:=rfl
 rw[hm,p.half.2,if_pos rfl,p.cdr]
 exact⟨rfl,e⟩
theorem HS.get_c(S:HS J H0 H b x G f th){w k v i:Int}{ws:List Int}(ht:th w=some (k,ws))(hi:0<=i)(hv:ws[i.toNat]?=some v):ei.C (some ⟨b.h,0,none⟩) w k i H (λu H'=>u=.tuple #[.int .u64 v,.int .i64 0]/\Ext H H'):=by
 have t:=S.pic.ths w k ws ht
 obtain⟨hl,rfl⟩:=List.getElem?_eq_some_iff.1 hv
 have h62:=t.le62
 refine HC.mono (qD S.view t.word (show I64 i from⟨by omega,by omega⟩)) ?_
 rintro _ H' ⟨rfl,e⟩
 have hm:mof (some (b,x))=x.sp.mem:=rfl
 have hg:=t.get i.toNat hl
 rw[show((i.toNat:Nat):Int)=i by omega]at hg
 rw[hm,t.field_in ⟨hi,by omega⟩,if_pos rfl,hg]
 exact⟨rfl,e⟩
theorem store_0(O:JOK J)(S:HS J H0 H b x G f th){a w:Int}(hu:x.sp.mem.used a)(hw:aG w):(x.sp.mem.store a w).2=0:=Mem.store_0 (O.ok S.j).mem hu hw
theorem HS.half(O:JOK J)(S:HS J H0 H b x G f th){H':zV}{w a d v i:Int}(hf:f w=some (a,d))(hv:aG v)(gv:G v)(hi:i=0\/i=1)(V:View H' (some ⟨b.h,0,none⟩) (ku (some (b,x)) w i v))(fr:Fr (own (some (b,x))) H H'):
  lG (some (b,x)) w i v=0/\ ∃x',HS J H0 H' b x' G (f.upd w (if i=0 then v else a,if i=0 then d else v)) th/\Rest 0 x x'/\Fr [b.sp,b.m,b.s] H H':=by
 have p:=S.pic.prs w a d hf
 have hm:mof (some (b,x))=x.sp.mem:=rfl
 have e1:ku (some (b,x)) w i v=some (b,x.setMem (x.sp.mem.store (w / 8+i) v).1):=by unfold ku;simp only;rw[if_pos p.isPair]
 rw[e1]at V
 have ok:=(O.ok S.j).mem
 refine⟨?_,_,⟨S.e.fr_trans fr (λj hj=>S.hb j ?_),V,O.half S.j p (S.gf _ _ hf) hv gv hi,S.pic.setHalf ok hf hi,λw' p' e=>?_,S.gt,S.hb⟩,⟨rfl,rfl,rfl,?_,λa h=>Mem.store_used.2 h,by omega,λ_ h=>h.store (O.ok S.j) ((O.ok S.j).store _ hv)⟩,fr⟩
 ·unfold lG
  rw[hm,if_pos p.isPair]
  refine store_0 O S ?_ hv
  rcases hi with rfl | rfl
  ·rw[Int.add_zero];exact p.at'.used p.word
  ·exact p.used
 ·simp[own]at hj;simp[Blk.all];omega
 ·by_cases q:w'=w
  ·rw[q];exact S.gf _ _ hf
  ·rw[PF.upd_ne f _ q]at e;exact S.gf _ _ e
 ·show x.sp.mem.free-0<=(x.sp.mem.store _ _).1.free
  rw[Mem.store_lim.2.1];omega
theorem HS.setCdr_c(O:JOK J)(S:HS J H0 H b x G f th){w a d v:Int}(hf:f w=some (a,d))(hv:aG v)(gv:G v):
  cv.C (some ⟨b.h,0,none⟩) w v H (λu H'=>u=.int .i64 0/\ ∃x',HS J H0 H' b x' G (f.upd w (a,v)) th/\Rest 0 x x'/\Fr [b.sp,b.m,b.s] H H'):=by
 refine HC.mono (nV S.view (S.pic.prs w a d hf).word hv) ?_
 rintro _ H' ⟨rfl,V,fr⟩
 obtain⟨e,x',h1,h2,h3⟩:=S.half O hf hv gv (.inr rfl) V fr
 rw[if_neg (by decide),if_neg (by decide)]at h1
 exact⟨by rw[e],x',h1,h2,h3⟩
theorem HS.setCar_c(O:JOK J)(S:HS J H0 H b x G f th){w a d v:Int}(hf:f w=some (a,d))(hv:aG v)(gv:G v):
  dx.C (some ⟨b.h,0,none⟩) w v H (λu H'=>u=.int .i64 0/\ ∃x',HS J H0 H' b x' G (f.upd w (v,d)) th/\Rest 0 x x'/\Fr [b.sp,b.m,b.s] H H'):=by
 refine HC.mono (nU S.view (S.pic.prs w a d hf).word hv) ?_
 rintro _ H' ⟨rfl,V,fr⟩
 obtain⟨e,x',h1,h2,h3⟩:=S.half O hf hv gv (.inl rfl) V fr
 rw[if_pos rfl,if_pos rfl]at h1
 exact⟨by rw[e],x',h1,h2,h3⟩
theorem HS.set_c(O:JOK J)(S:HS J H0 H b x G f th){w k v i:Int}{ws:List Int}(ht:th w=some (k,ws))(hi:0<=i)(hl:i.toNat<ws.length)(hv:aG v)(gv:G v):
  ej.C (some ⟨b.h,0,none⟩) w k i v H (λu H'=>u=.int .i64 0/\ ∃x',HS J H0 H' b x' G f (th.upd w (k,ws.set i.toNat v))/\Rest 0 x x'/\Fr [b.sp,b.m,b.s] H H'):=by
 have t:=S.pic.ths w k ws ht
 have h62:=t.le62
 have ok:=(O.ok S.j).mem
 refine HC.mono (qE S.view t.word (show I64 i from⟨by omega,by omega⟩) hv) ?_
 rintro _ H' ⟨rfl,V,fr⟩
 have hm:mof (some (b,x))=x.sp.mem:=rfl
 have hin:=t.field_in (i:=i) ⟨hi,by omega⟩
 have e1:setO (some (b,x)) w k i v=some (b,x.setMem (x.sp.mem.store (w / 8+1+i) v).1):=by unfold setO;simp only;rw[if_pos hin]
 rw[e1]at V
 have hii:((i.toNat:Nat):Int)=i:=by omega
 have hu:=t.usedAt (λk=>(ok.seg k).n.2) hl
 have hj:=O.field S.j t (S.gt _ _ ht) hv gv hl
 have hp:=S.pic.setField ok ht hl (v:=v)
 rw[hii]at hu hj hp
 refine⟨?_,_,⟨S.e.fr_trans fr (λj hj=>S.hb j ?_),V,hj,hp,S.gf,λw' p' e=>?_,S.hb⟩,⟨rfl,rfl,rfl,?_,λa h=>Mem.store_used.2 h,by omega,λ_ h=>h.store (O.ok S.j) ((O.ok S.j).store _ hv)⟩,fr⟩
 ·unfold setE
  rw[hm,hin,if_pos rfl,store_0 O S hu hv]
 ·simp[own]at hj;simp[Blk.all];omega
 ·by_cases q:w'=w
  ·rw[q];exact S.gt _ _ ht
  ·rw[TF.upd_ne th _ q]at e;exact S.gt _ _ e
 ·show x.sp.mem.free-0<=(x.sp.mem.store _ _).1.free
  rw[Mem.store_lim.2.1];omega
theorem HS.cons_c(O:JOK J)(S:HS J H0 H b x G f th){a d:Int}(ha:aG a)(hd:aG d)(ga:G a)(gd:G d):
  cG.C (some ⟨b.h,0,none⟩) a d H (λv H'=> ∃w e x' G',v=.tuple #[.int .u64 w,.int .i64 e]/\Rest 1 x x'/\(∀u,G u->G' u)/\Fr [b.sp,b.m,b.s] H H'/\(e=0/\f w=none/\(aG w/\ ¬x.sp.mem.used (w / 8)/\ ¬Full x.sp)/\HS J H0 H' b x' G' (f.upd w (a,d)) th\/e=2/\w=0/\(x.sp.mem.free<1/\Full x'.sp)/\HS J H0 H' b x' G' f th)):=by
 have okS:=O.ok S.j
 refine HC.mono (pu S.view ha hd (O.cnt S.j)) ?_
 rintro _ H' ⟨rfl,V,fr⟩
 have hp2:putO (some (b,x)) 0 1 [a,d]=some (b,{x with sp:=(x.sp.put 0 1 [a,d]).1}):=rfl
 have hr2:putR (some (b,x)) 0 1 [a,d]=(x.sp.put 0 1 [a,d]).2:=rfl
 rw[hp2]at V
 rw[hr2]
 have h0: ∀j∈own (some (b,x)),H0.size<=j:=λj hj=>S.hb j (by simp[own]at hj;simp[Blk.all];omega)
 obtain⟨G',j1,j2,j3⟩:=O.put S.j (kind:=0) (tag:=1) (ws:=[a,d]) (.inl ⟨rfl,rfl,rfl⟩) (λw hw=>by simp at hw;rcases hw with rfl | rfl<;>assumption) (λ_ w hw=>by simp at hw;rcases hw with rfl | rfl<;>assumption)
 by_cases hal:(x.sp.alloc 0 0 2).2.2=0
 ·have hok:(x.sp.put 0 1 [a,d]).2.2=0/\Pr (x.sp.put 0 1 [a,d]).1.mem (x.sp.put 0 1 [a,d]).2.1 1 a d/\SpOK (x.sp.put 0 1 [a,d]).1/\Made x.sp.mem (x.sp.put 0 1 [a,d]).1.mem (x.sp.put 0 1 [a,d]).2.1 1/\(x.sp.put 0 1 [a,d]).1.mem.Even:=Sp.cons_ok0 okS (O.even S.j) (tag:=1) (.inl rfl) ha hd hal
  obtain⟨h1,h2,h3,h4,h5⟩:=hok
  refine⟨_,_,{x with sp:=(x.sp.put 0 1 [a,d]).1},G',rfl,⟨rfl,rfl,rfl,h4.free,λa h=>(h4.keep.used a h).1,by omega,λh=>absurd h (by omega)⟩,j2,fr,.inl ⟨h1,S.pic.fresh h4,⟨h2.word,by have:=h4.fresh 0 (by omega);rw[show(x.sp.put 0 1 [a,d]).2.1 / 8+((0:Nat):Int)=(x.sp.put 0 1 [a,d]).2.1 / 8 by omega]at this;exact this,λq=>q hal⟩,⟨S.e.fr_trans fr h0,V,j1,S.pic.cons okS.mem h4 h2,λw' p' e=>?_,λw' p' e=>j2 _ (S.gt _ _ e),S.hb⟩⟩⟩
  by_cases q:w'=(x.sp.put 0 1 [a,d]).2.1
  ·rw[q];exact j3 h1
  ·rw[PF.upd_ne f _ q]at e;exact j2 _ (S.gf _ _ e)
 ·obtain⟨h1,h2⟩:=Sp.cons_no (s:=x.sp) (tag:=1) (x:=a) (y:=d) hal
  have h1':(x.sp.put 0 1 [a,d]).1=x.sp:=h1
  have he:(x.sp.put 0 1 [a,d]).2=(0,2):=by
   have h2:=Sp.alloc_two okS (g:=0) (k:=0) (n:=2) ⟨by decide,.inl ⟨by decide,rfl⟩⟩ hal
   have hl:(([a,d]:List Int).length:Int)=2:=rfl
   unfold Sp.put
   rw[hl,if_neg hal,h2]
  rw[he]
  refine⟨_,_,{x with sp:=(x.sp.put 0 1 [a,d]).1},G',rfl,⟨rfl,rfl,rfl,by show x.sp.mem.free-1<=(x.sp.put 0 1 [a,d]).1.mem.free;rw[h1'];omega,λu h=>(by show(x.sp.put 0 1 [a,d]).1.mem.used u;rw[h1'];exact h),by omega,λh=>absurd h (by omega)⟩,j2,fr,.inr ⟨rfl,rfl,⟨?_,by show Full (x.sp.put 0 1 [a,d]).1;rw[h1'];exact hal⟩,⟨S.e.fr_trans fr h0,V,j1,?_,λw' p' e=>j2 _ (S.gf _ _ e),λw' p' e=>j2 _ (S.gt _ _ e),S.hb⟩⟩⟩
  ·exact Int.not_le.1 (λq=>hal (Sp.alloc_can okS (g:=0) (k:=0) (n:=2) ⟨by decide,.inl ⟨by decide,rfl⟩⟩ q))
  show HPic (x.sp.put 0 1 [a,d]).1.mem f th
  rw[h1'];exact S.pic
end
