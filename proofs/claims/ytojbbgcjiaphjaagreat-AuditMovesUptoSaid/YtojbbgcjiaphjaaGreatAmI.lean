/-
 Behind a collection without weak pairs what is come to is as it was: the picture, and how many words. Proves nothing of any one statement.
-/
import Derived.Test.YtojbbgcjiaphjaaGreatAuN
set_option linter.unusedVariables false
set_option linter.unusedSimpArgs false
namespace Go.Proofs.YtojbbgcjiaphjaaGreat
open Go
variable{a:Nat}
theorem rO{L:List Int}{v:Int}(h:v∈L): ∃k:Nat,L[k]?=some v:=by
 obtain⟨k,hk,rfl⟩:=List.getElem_of_mem h
 exact⟨k,List.getElem?_eq_getElem hk⟩
theorem get_mem{L:List Int}{v:Int}(h:L[a]?=some v):v∈L:=by
 obtain⟨hk,rfl⟩:=List.getElem?_eq_some_iff.1 h
 exact List.getElem_mem hk
theorem oE(m:Mem): ∀(vs L:List Int) {v:Int},v∈vs->m.sizeOf v>0->v∈vs.foldl (addW m) L
 | [],_,_,h,_=>absurd h (by simp)
 | w::vs,L,v,h,hs=>by
  rw[List.foldl_cons]
  rcases List.mem_cons.1 h with rfl | h
  ·have:v∈addW m L v:=by
    unfold addW
    by_cases a:v∈L
    ·rw[if_neg (λq=>q.2 a)];exact a
    ·rw[if_pos ⟨hs,a⟩];simp
   obtain⟨k,hk⟩:=rO this
   exact get_mem (m8 m vs _ hk)
  ·exact oE m vs _ h hs
theorem pd(m:Mem)(b:List Int)(i:Nat){v:Int}(h:(bD m b i)[a]?=some v):(bD m b (i+1))[a]?=some v:=by
 show(iF m (bD m b i) i)[a]?=some v
 unfold iF
 split
 ·exact h
 ·exact m8 m _ _ h
theorem mq(m:Mem)(a:List Int){i:Nat}{k:Nat}{v:Int}(h:(bD m a i)[k]?=some v): ∀d,(bD m a (i+d))[k]?=some v
 | 0=>h
 | d+1=>pd m a (i+d) (mq m a h d)
theorem oV{m:Mem}{b:List Int}(hk:(bD m b a).length=a):(∀w∈b,m.sizeOf w>0->w∈bD m b a)/\ ∀w∈bD m b a,∀v∈visL w (aX m w),m.sizeOf v>0->v∈bD m b a:=by
 refine⟨λw l k=>?_,λw l v t k=>?_⟩
 ·obtain⟨j,h⟩:=rO (oE m b [] l k)
  have:=mq m b (i:=0) h a
  rw[Nat.zero_add]at this
  exact get_mem this
 ·obtain⟨i,p,e⟩:=List.getElem_of_mem l
  have d:(bD m b a)[i]?=some w:=by rw[<-e];exact List.getElem?_eq_getElem p
  have r:i<a:=by omega
  have s: ¬(bD m b i).length<=i:=λq=>by
   have:=mo m b q (a-i)
   rw[show i+(a-i)=a by omega]at this
   rw[this]at hk;omega
  have c:(bD m b i)[i]?=some w:=by
   have n:(bD m b i)[i]?=some (bD m b i)[i]:=List.getElem?_eq_getElem (by omega)
   have o:=mq m b n (a-i)
   rw[show i+(a-i)=a by omega,d]at o
   rw[n,<-o]
  have g:v∈bD m b (i+1):=by
   show v∈iF m (bD m b i) i
   unfold iF
   rw[c]
   exact oE m _ _ t k
  obtain⟨j,h⟩:=rO g
  have:=mq m b h (a-(i+1))
  rw[show i+1+(a-(i+1))=a by omega]at this
  exact get_mem this
structure Iso (m m':Mem) (f:Int->Int) (G:Int->Prop):Prop where
 size: ∀v,G v->m'.sizeOf (f v)=m.sizeOf v
 inj: ∀v w,G v->G w->f v=f w->v=w
 same: ∀v,G v-> ¬m.sizeOf v>0->f v=v
 vis: ∀w,G w->m.sizeOf w>0-> ∀v∈visL w (aX m w),G v
 flds: ∀w,G w->m.sizeOf w>0->(aX m' (f w)).map Prod.snd=((aX m w).map Prod.snd).map f
 two: ∀w,G w->m.sizeOf w>0->w % 8≠2/\f w % 8=w % 8
 told: ∀w,G w->m.sizeOf w>0->m'.typ (f w)=m.typ w/\m'.more (f w)=m.more w/\lc m' (f w)=lc m w/\ ∀i,i<lc m w->lW m' (f w) i=lW m w i
section
variable {m m':Mem} {f:Int->Int} {G:Int->Prop}
theorem n8{w:Int}(h:w % 8≠2)(l:List (Int×Int)):visL w l=l.map Prod.snd:=by
 unfold visL
 congr 1
 refine List.filter_eq_self.2 λp _=>?_
 unfold mQ
 exact zX (.inl h)
theorem Iso.mem(I:Iso m m' f G){L:List Int}(b: ∀w∈L,G w){v:Int}(c:G v):f v∈L.map f ↔ v∈L:=by
 refine⟨λh=>?_,λh=>List.mem_map_of_mem h⟩
 obtain⟨u,a,e⟩:=List.mem_map.1 h
 rw[<-I.inj u v (b u a) c e];exact a
theorem Iso.add(I:Iso m m' f G){L:List Int}(b: ∀w∈L,G w/\m.sizeOf w>0){v:Int}(a:G v):addW m' (L.map f) (f v)=(addW m L v).map f/\ ∀w∈addW m L v,G w/\m.sizeOf w>0:=by
 unfold addW
 have hm:=I.mem (λw h=>(b w h).1) a
 by_cases h:m.sizeOf v>0/\v ∉ L
 ·rw[if_pos h,if_pos ⟨by rw[I.size v a];exact h.1,λq=>h.2 (hm.1 q)⟩]
  refine⟨by simp,λw c=>?_⟩
  rcases List.mem_append.1 c with q | q
  ·exact b w q
  ·simp at q;rw[q];exact⟨a,h.1⟩
 ·rw[if_neg h,if_neg (λq=>h ⟨by rw[<-I.size v a];exact q.1,λr=>q.2 (hm.2 r)⟩)]
  exact⟨rfl,b⟩
theorem Iso.fold(I:Iso m m' f G): ∀(vs:List Int) {L:List Int},(∀w∈L,G w/\m.sizeOf w>0)->(∀v∈vs,G v)->(vs.map f).foldl (addW m') (L.map f)=(vs.foldl (addW m) L).map f/\ ∀w∈vs.foldl (addW m) L,G w/\m.sizeOf w>0
 | [],L,hL,_=>⟨rfl,hL⟩
 | v::vs,L,hL,hv=>by
  obtain⟨a,b⟩:=I.add hL (hv v (by simp))
  rw[List.map_cons,List.foldl_cons,List.foldl_cons,a]
  exact I.fold vs b (λu c=>hv u (by simp[c]))
theorem Iso.come(I:Iso m m' f G){a:List Int}(e: ∀w∈a,G w): ∀k,bD m' (a.map f) k=(bD m a k).map f/\ ∀w∈bD m a k,G w/\m.sizeOf w>0
 | 0=>by
  have:=I.fold a (L:=[]) (by simp) e
  exact this
 | k+1=>by
  obtain⟨h,d⟩:=I.come e k
  show iF m' (bD m' (a.map f) k) k=(iF m (bD m a k) k).map f/\ ∀w∈iF m (bD m a k) k,G w/\m.sizeOf w>0
  unfold iF
  rw[h,List.getElem?_map]
  cases i:(bD m a k)[k]? with
  | none=>exact⟨rfl,d⟩
  | some w=>
   obtain⟨b,c⟩:=d w (get_mem i)
   obtain⟨g,j⟩:=I.two w b c
   show(visL (f w) (aX m' (f w))).foldl (addW m') ((bD m a k).map f)=_/\_
   rw[n8 (by rw[j];exact g),I.flds w b c,<-n8 g]
   exact I.fold _ d (I.vis w b c)
theorem Iso.num(I:Iso m m' f G){L:List Int}(a: ∀w∈L,G w){v:Int}(b:G v):numOf (L.map f) (f v)=numOf L v:=by
 unfold numOf
 have hm:=I.mem a b
 have key: ∀L:List Int,(∀w∈L,G w)->(L.map f).idxOf (f v)=L.idxOf v:=by
  intro L
  induction L with
  | nil=>intro _;rfl
  | cons u L c=>
   intro a
   rw[List.map_cons,List.idxOf_cons,List.idxOf_cons,c (λw h=>a w (by simp[h]))]
   by_cases e:u=v
   ·subst e;simp
   ·have:f u≠f v:=λq=>e (I.inj u v (a u (by simp)) b q)
    rw[show(f u==f v)=false by simpa using this,show(u==v)=false by simpa using e]
 by_cases h:v∈L
 ·rw[if_pos h,if_pos (hm.2 h),key L a]
 ·rw[if_neg h,if_neg (λq=>h (hm.1 q))]
theorem Iso.knot(I:Iso m m' f G){b:List Int}(D: ∀w∈b,G w)(hk:(bD m b a).length=a){w:Int}(z:w∈bD m b a):mx m' ((bD m b a).map f) (f w)=mx m (bD m b a) w:=by
 have t:=(I.come D a).2
 obtain⟨n,o⟩:=t w z
 obtain⟨l,y⟩:=I.two w n o
 obtain⟨F,H,J,K⟩:=I.told w n o
 have j:=(oV hk).2 w z
 have c:=I.vis w n o
 rw[n8 l]at c j
 have g:=I.flds w n o
 have d: ∀(M:Mem) (L:List Int) (u:Int) (p:Int×Int),u % 8≠2->isF M L u p=numOf L p.2:=λM L u p h=>by unfold isF;rw[if_neg (λq=>h q.2.1)]
 have A:(aX m' (f w)).map (isF m' ((bD m b a).map f) (f w))=(aX m w).map (isF m (bD m b a) w):=by
  have r:(aX m' (f w)).map (isF m' ((bD m b a).map f) (f w))=((aX m' (f w)).map Prod.snd).map (numOf ((bD m b a).map f)):=by
   rw[List.map_map];exact List.map_congr_left λp _=>d _ _ _ p (by rw[y];exact l)
  have s:(aX m w).map (isF m (bD m b a) w)=((aX m w).map Prod.snd).map (numOf (bD m b a)):=by
   rw[List.map_map];exact List.map_congr_left λp _=>d _ _ _ p l
  rw[r,s,g,List.map_map]
  exact List.map_congr_left λv k=>I.num (λu x=>(t u x).1) (c v k)
 have B:(aX m' (f w)).map (mR m' ((bD m b a).map f) (f w))=(aX m w).map (mR m (bD m b a) w):=by
  have r:(aX m' (f w)).map (mR m' ((bD m b a).map f) (f w))=((aX m' (f w)).map Prod.snd).map (λv=>putW v (numOf ((bD m b a).map f) v)):=by
   rw[List.map_map];exact List.map_congr_left λp _=>by show putW p.2 (isF _ _ _ p)=_;rw[d _ _ _ p (by rw[y];exact l)];rfl
  have s:(aX m w).map (mR m (bD m b a) w)=((aX m w).map Prod.snd).map (λv=>putW v (numOf (bD m b a) v)):=by
   rw[List.map_map];exact List.map_congr_left λp _=>by show putW p.2 (isF _ _ _ p)=_;rw[d _ _ _ p l];rfl
  rw[r,s,g,List.map_map]
  refine List.map_congr_left λv k=>?_
  show putW (f v) (numOf ((bD m b a).map f) (f v))=putW v (numOf (bD m b a) v)
  rw[I.num (λu x=>(t u x).1) (c v k)]
  unfold putW
  by_cases e:numOf (bD m b a) v=0
  ·rw[if_pos e,if_pos e]
   refine I.same v (c v k) (λE=>?_)
   have:=j v k E
   unfold numOf at e
   rw[if_pos this]at e
   omega
  ·rw[if_neg e,if_neg e]
 unfold mx
 rw[y,F,H,A,B,J]
 congr 3
 congr 2
 exact List.map_congr_left λi C=>K i (List.mem_range.1 C)
theorem Iso.pic(I:Iso m m' f G){a L g:List Int}(c: ∀w∈a,G w)(h: ∃k,L=bD m a k/\L.length=k)(q: ∃k,g=bD m' (a.map f) k/\g.length=k):picL m' (a.map f) g=picL m a L/\ko m' g=ko m L:=by
 obtain⟨k,rfl,hk⟩:=h
 obtain⟨t,rfl,r⟩:=q
 obtain⟨n,i⟩:=I.come c k
 have e:bD m' (a.map f) t=(bD m a k).map f:=by
  rw[<-n]
  exact mp m' _ (by omega) (by rw[n,List.length_map];omega)
 rw[e]
 refine⟨?_,?_⟩
 ·unfold picL
  congr 1
  ·unfold picF
   have o:(a.map f).map (λw=>putW w (numOf ((bD m a k).map f) w))=a.map (λw=>putW w (numOf (bD m a k) w)):=by
    rw[List.map_map]
    refine List.map_congr_left λv d=>?_
    show putW (f v) (numOf _ (f v))=_
    rw[I.num (λu j=>(i u j).1) (c v d)]
    unfold putW
    by_cases b:numOf (bD m a k) v=0
    ·rw[if_pos b,if_pos b]
     refine I.same v (c v d) (λs=>?_)
     have:=(oV hk).1 v d s
     unfold numOf at b
     rw[if_pos this]at b
     omega
    ·rw[if_neg b,if_neg b]
   have p:(a.map f).map (numOf ((bD m a k).map f))=a.map (numOf (bD m a k)):=by
    rw[List.map_map]
    exact List.map_congr_left λv d=>I.num (λu j=>(i u j).1) (c v d)
   rw[o,p]
  ·rw[List.map_map]
   exact List.map_congr_left λw l=>I.knot c hk l
 ·unfold ko
  rw[List.map_map]
  congr 1
  exact List.map_congr_left λw l=>I.size w (i w l).1
end
theorem lX{M:Mem}{sz:Int->Nat}(h:bJ M)(S:kz M sz){v:Int}(m:aG v)(e:Good M sz v)(f:cE v):
  (2<=M.kAt (v / 8)->M.typ v=hk (M.get (v / 8))/\M.len v=hn (M.get (v / 8))/\M.more v=hm (M.get (v / 8))/\M.isObj v)/\(M.kAt (v / 8)<=1->M.typ v=0/\M.len v=0/\M.more v=0/\ ¬M.isObj v):=by
 obtain⟨n,c⟩:=e.2 f
 have a:M.sizeOf v≠0:=by rw[S.size h m e f];omega
 have o:0<=M.kAt (v / 8)/\M.kAt (v / 8)<=3:=(h.seg (v / 8 / 64).toNat).kind
 unfold tagK at c
 refine⟨λk=>?_,λj=>?_⟩
 ·rw[if_neg (by omega),if_neg (by omega)]at c
  have d: ¬M.isPair v:=λl=>(nC a).1 l c
  have b:M.isObj v:=by
   unfold Mem.sizeOf at a
   rw[if_neg d]at a
   by_cases q:M.isObj v
   ·exact q
   ·rw[if_neg q]at a;exact absurd rfl a
  exact⟨by unfold Mem.typ;rw[if_pos b],by unfold Mem.len;rw[if_pos b],by unfold Mem.more;rw[if_pos b],b⟩
 ·have i:v % 8≠3:=by
   by_cases q:M.kAt (v / 8)=0
   ·rw[if_pos q]at c;omega
   ·rw[if_neg q,if_pos (by omega)]at c;omega
  have b: ¬M.isObj v:=λq=>i q.1.2.1
  exact⟨by unfold Mem.typ;rw[if_neg b],by unfold Mem.len;rw[if_neg b],by unfold Mem.more;rw[if_neg b],b⟩
theorem mS{M:Mem}{sz:Int->Nat}(d:bJ M)(S:kz M sz){v:Int}(p:aG v)(h:Good M sz v)(c:cE v):
  aX M v=if M.typ v=2\/M.typ v=3 then[]else(List.range ((sz (v / 8):Int)-cV M v).toNat).map λi:Nat=>(v / 8+(cV M v+i),M.get (v / 8+(cV M v+i))):=by
 obtain⟨e,q⟩:=h.2 c
 have o:=S.lt d e
 have b:aOf v=v / 8:=by
  unfold cE at c
  unfold aOf
  rw[if_pos ⟨by omega,o.2⟩]
 unfold aX
 rw[S.size d p h c,b]
 split
 ·rfl
 ·refine List.map_congr_left λi l=>?_
  rw[List.mem_range]at l
  have f:cV M v=0\/cV M v=1:=by unfold cV;split<;>simp
  obtain⟨j,m⟩: ∃j:Nat,cV M v+(i:Int)=j:=⟨(cV M v+(i:Int)).toNat,by omega⟩
  rw[m]
  have a:=S.usedAt e (i:=j) (by omega) (λk=>(d.seg k).n.2)
  unfold Mem.read
  rw[if_pos a.1]
section
variable {Z:TZ} {g F0:Int} {fw:Int->Option Int} {al:List Int} {s:Sp} {sz:Int->Nat}
theorem eZ.iso{tr:Tr}{s':Sp}{m:Mem}(t:eZ Z g F0 fw al sz tr s s' m)(H:bJ m)(hN:NoWk Z.m):Iso Z.m m (Fw Z.O fw) (GW Z fw):=by
 have S:=t.S
 have S':=t.sound
 have d: ∀w,GW Z fw w->Z.m.sizeOf w>0->cE w:=λw a x=>mY (m:=Z.m) (by omega)
 have f: ∀w,GW Z fw w->cE w->aG (Fw Z.O fw w)/\Good m (szE Z.O sz) (Fw Z.O fw w)/\cE (Fw Z.O fw w)/\szE Z.O sz (Fw Z.O fw w / 8)=Z.sz (w / 8)/\m.kAt (Fw Z.O fw w / 8)=Z.m.kAt (w / 8)/\Z.m.kAt (w / 8)≠1/\Fw Z.O fw w % 8=w % 8:=λw a b=>by
  obtain⟨g1,g2,g3⟩:=t.good a.1 a.2.1 a.2.2
  obtain⟨g4,g5,g6,g7⟩:=g2 b
  exact⟨t.tri.fw_word S a.1,g1,by unfold cE at b⊢;rw[g3];exact b,g5,g6,hN _ (S.sound.used _ (a.2.1.2 b).1).1,g3⟩
 have N: ∀w,GW Z fw w->cE w->2<=Z.m.kAt (w / 8)->m.get (Fw Z.O fw w / 8)=Z.m.get (w / 8):=λw a b c=>by
  obtain⟨R,o2,o3⟩:=S.sound.obj _ (a.2.1.2 b).1 c
  have e0: ∀z:Int,z+((0:Nat):Int)=z:=λz=>by omega
  obtain⟨u,L,l,_⟩:=t.at' H a b 0 (by have:=(a.2.1.2 b).1;omega)
  rw[e0,e0]at u
  rw[e0]at l
  rcases t.get u with⟨q,_⟩ | ⟨_,q,_⟩
  ·rw[q]
   split
   ·rfl
   ·exact kA (oQ R _)
  ·rw[l]at q;omega
 have h: ∀w,GW Z fw w->cE w->m.typ (Fw Z.O fw w)=Z.m.typ w/\m.len (Fw Z.O fw w)=Z.m.len w/\m.more (Fw Z.O fw w)=Z.m.more w/\(m.isObj (Fw Z.O fw w) ↔ Z.m.isObj w):=λw a b=>by
  obtain⟨I,J,K,T,p5,U,p7⟩:=f w a b
  obtain⟨C,F⟩:=lX S.ok S.sound a.1 a.2.1 b
  obtain⟨f3,M⟩:=lX H S' I J K
  rw[p5]at f3 M
  by_cases c:2<=Z.m.kAt (w / 8)
  ·obtain⟨u,L,l,a4⟩:=C c
   obtain⟨W,X,Y,b4⟩:=f3 c
   rw[N w a b c]at W X Y
   exact⟨W.trans u.symm,X.trans L.symm,Y.trans l.symm,⟨λ_=>a4,λ_=>b4⟩⟩
  ·obtain⟨u,L,l,a4⟩:=F (by omega)
   obtain⟨W,X,Y,b4⟩:=M (by omega)
   exact⟨W.trans u.symm,X.trans L.symm,Y.trans l.symm,⟨λq=>absurd q b4,λq=>absurd q a4⟩⟩
 have B: ∀w,GW Z fw w->cE w->(Z.m.typ w=2\/Z.m.typ w=3 ↔ Z.m.kAt (w / 8)=3):=λw a b=>by
  obtain⟨C,F⟩:=lX S.ok S.sound a.1 a.2.1 b
  by_cases c:2<=Z.m.kAt (w / 8)
  ·obtain⟨R,o2,o3⟩:=S.sound.obj _ (a.2.1.2 b).1 c
   rw[(C c).1,o2]
   unfold rawK
   split
   ·rename_i q;exact⟨λ_=>rfl,λ_=>q⟩
   ·rename_i q;exact⟨λr=>absurd r q,λr=>absurd r (by decide)⟩
  ·rw[(F (by omega)).1]
   exact⟨λq=>by omega,λq=>by omega⟩
 have E: ∀w,GW Z fw w->cE w->cV m (Fw Z.O fw w)=cV Z.m w:=λw a b=>by
  unfold cV;rw[(h w a b).1]
 have D: ∀w,GW Z fw w->cE w->(∀v∈(aX Z.m w).map Prod.snd,GW Z fw v)/\(aX m (Fw Z.O fw w)).map Prod.snd=((aX Z.m w).map Prod.snd).map (Fw Z.O fw):=λw a b=>by
  obtain⟨I,J,K,T,p5,U,p7⟩:=f w a b
  rw[mS S.ok S.sound a.1 a.2.1 b,mS H S' I J K,(h w a b).1,T,E w a b]
  by_cases q:Z.m.typ w=2\/Z.m.typ w=3
  ·rw[if_pos q,if_pos q]
   exact⟨by simp,rfl⟩
  rw[if_neg q,if_neg q]
  have G:Z.m.kAt (w / 8)≠3:=λe=>q ((B w a b).2 e)
  have ak:cV Z.m w=0\/cV Z.m w=1:=by unfold cV;split<;>simp
  have key: ∀i:Nat,i< ((Z.sz (w / 8):Int)-cV Z.m w).toNat->GW Z fw (Z.m.get (w / 8+(cV Z.m w+i)))/\m.get (Fw Z.O fw w / 8+(cV Z.m w+i))=Fw Z.O fw (Z.m.get (w / 8+(cV Z.m w+i))):=λi A=>by
   obtain⟨j,hj⟩: ∃j:Nat,cV Z.m w+(i:Int)=j:=⟨(cV Z.m w+(i:Int)).toNat,by omega⟩
   rw[hj]
   exact t.gw_at H a b (i:=j) (by omega) G (λq=>U q.1)
  refine⟨λv k=>?_,?_⟩
  ·obtain⟨p,hp,rfl⟩:=List.mem_map.1 k
   obtain⟨i,A,rfl⟩:=List.mem_map.1 hp
   exact(key i (List.mem_range.1 A)).1
  ·rw[List.map_map,List.map_map,List.map_map]
   exact List.map_congr_left λi A=>(key i (List.mem_range.1 A)).2
 have Q: ∀w,GW Z fw w->cE w->(aX m (Fw Z.O fw w)).length=(aX Z.m w).length:=λw a b=>by
  have:=congrArg List.length (D w a b).2
  simpa using this
 refine⟨λv k=>?_,λv w k a e=>t.inj k a e,λv k x=>?_,λw a x=>?_,λw a x=>(D w a (d w a x)).2,λw a x=>?_,λw a x=>?_⟩
 ·by_cases b:cE v
  ·obtain⟨I,J,K,T,p5,U,p7⟩:=f v k b
   rw[S'.size H I J K,T,S.sound.size S.ok k.1 k.2.1 b]
  ·have G:=(t.good k.1 k.2.1 k.2.2).2.2
   rw[ow b,ow (λq=>b (by unfold cE at q⊢;rw[<-G];exact q))]
 ·refine kA (λo=>?_)
  have b:cE v:=by have:=ua o;unfold cE at*;omega
  have h1:=S.sound.size S.ok k.1 k.2.1 b
  have y:=(k.2.1.2 b).1
  omega
 ·have b:=d w a x
  have af:w % 8≠2:=by
   have y:=(a.2.1.2 b).2
   have h1:=(f w a b).2.2.2.2.2.1
   unfold tagK at y
   intro e
   by_cases V:Z.m.kAt (w / 8)=0
   ·rw[if_pos V]at y;omega
   ·rw[if_neg V,if_neg h1]at y;omega
  rw[n8 af]
  exact(D w a b).1
 ·have b:=d w a x
  obtain⟨I,J,K,T,p5,U,p7⟩:=f w a b
  refine⟨λe=>?_,p7⟩
  have y:=(a.2.1.2 b).2
  unfold tagK at y
  by_cases V:Z.m.kAt (w / 8)=0
  ·rw[if_pos V]at y;omega
  ·rw[if_neg V,if_neg U]at y;omega
 ·have b:=d w a x
  obtain⟨C,F,f3,M⟩:=h w a b
  have ac:lc m (Fw Z.O fw w)=lc Z.m w:=by unfold lc;rw[F,Q w a b]
  refine⟨C,f3,ac,λi A=>?_⟩
  have aa:m.fieldE (Fw Z.O fw w) (Z.m.typ w) i=Z.m.fieldE w (Z.m.typ w) i:=by
   unfold Mem.fieldE
   rw[C,F]
   by_cases q:Z.m.isObj w
   ·have q':=M.2 q
    simp only[q,q']
   ·have q': ¬m.isObj (Fw Z.O fw w):=λr=>q (M.1 r)
    simp only[q,q']
  unfold lW
  rw[C,aa]
  by_cases n:Z.m.fieldE w (Z.m.typ w) i=0
  ·rw[if_pos n,if_pos n]
   have P:Z.m.kAt (w / 8)=3:=by
    by_cases G:Z.m.kAt (w / 8)=3
    ·exact G
    exfalso
    have hq: ¬(Z.m.typ w=2\/Z.m.typ w=3):=λq=>G ((B w a b).1 q)
    have ab:=congrArg List.length (mS S.ok S.sound a.1 a.2.1 b)
    rw[if_neg hq,List.length_map,List.length_range]at ab
    obtain⟨t1,t2⟩:=lX S.ok S.sound a.1 a.2.1 b
    unfold lc at A
    by_cases c:2<=Z.m.kAt (w / 8)
    ·obtain⟨R,o2,o3⟩:=S.sound.obj _ (a.2.1.2 b).1 c
     have am:cV Z.m w=1:=by
      unfold cV
      rw[if_pos]
      rw[(t1 c).1]
      have:=R.2;unfold hk;omega
     rw[(t1 c).2.1]at A
     omega
    ·rw[(t2 (by omega)).2.1]at A
     omega
   have ae:=(a.2.1.2 b).1
   have hl:(i:Int)<Z.m.len w:=by
    unfold Mem.fieldE at n
    by_cases q1: ¬Z.m.isObj w\/Z.m.typ w≠Z.m.typ w
    ·rw[if_pos q1]at n;exact absurd n (by decide)
    rw[if_neg q1]at n
    by_cases q2:(i:Int)<0\/Z.m.len w<=i
    ·rw[if_pos q2]at n;exact absurd n (by decide)
    omega
   obtain⟨t1,t2⟩:=lX S.ok S.sound a.1 a.2.1 b
   obtain⟨R,o2,o3⟩:=S.sound.obj _ ae (by omega)
   rw[(t1 (by omega)).2.1]at hl
   obtain⟨u,L,l,_⟩:=t.at' H a b (1+i) (by omega)
   rw[P]at l
   have e1: ∀z:Int,z+((1+i:Nat):Int)=z+1+i:=λz=>by omega
   rw[e1,e1]at u
   rw[e1]at l
   rcases t.get u with⟨q,_⟩ | ⟨_,q,_⟩
   ·rw[q,if_pos l]
   ·rw[l]at q;omega
  ·rw[if_neg n,if_neg n]
end
section
variable {m:Mem} {P:Int->Prop}
theorem wS{L:List Int}(h:(∀w∈L,P w/\m.sizeOf w>0)/\L.Nodup){v:Int}(f:P v):(∀w∈addW m L v,P w/\m.sizeOf w>0)/\(addW m L v).Nodup:=by
 unfold addW
 by_cases q:m.sizeOf v>0/\v ∉ L
 ·rw[if_pos q]
  refine⟨λw g=>?_,List.nodup_append.2 ⟨h.2,by simp,λa d b c=>?_⟩⟩
  ·rcases List.mem_append.1 g with r | r
   ·exact h.1 w r
   ·simp at r;rw[r];exact⟨f,q.1⟩
  ·simp at c;rw[c];exact λe=>q.2 (e▸d)
 ·rw[if_neg q];exact h
theorem qe: ∀(vs:List Int) {L:List Int},((∀w∈L,P w/\m.sizeOf w>0)/\L.Nodup)->(∀v∈vs,P v)->(∀w∈vs.foldl (addW m) L,P w/\m.sizeOf w>0)/\(vs.foldl (addW m) L).Nodup
 | [],L,h,_=>h
 | v::vs,L,h,hv=>by
  rw[List.foldl_cons]
  exact qe vs (wS h (hv v (by simp))) (λu a=>hv u (by simp[a]))
theorem sP{a:List Int}(c: ∀w∈a,P w)(b: ∀w,P w->m.sizeOf w>0-> ∀v∈(aX m w).map Prod.snd,P v): ∀k,(∀w∈bD m a k,P w/\m.sizeOf w>0)/\(bD m a k).Nodup
 | 0=>qe a (L:=[]) ⟨by simp,by simp⟩ c
 | k+1=>by
  have h:=sP c b k
  show(∀w∈iF m (bD m a k) k,P w/\m.sizeOf w>0)/\(iF m (bD m a k) k).Nodup
  unfold iF
  cases i:(bD m a k)[k]? with
  | none=>exact h
  | some w=>
   obtain⟨e,f⟩:=h.1 w (get_mem i)
   refine qe _ h (λv d=>b w e f v ?_)
   unfold visL at d
   obtain⟨p,g,rfl⟩:=List.mem_map.1 d
   exact List.mem_map.2 ⟨p,(List.mem_filter.1 g).1,rfl⟩
end
theorem wT{s:Sp}{g:Int->Nat}(I:Inv s g)(K:Snd s.mem g){d L:List Int}(N: ∀w∈d,aG w/\Good s.mem g w)(h: ∃k,L=bD s.mem d k/\L.length=k):ko s.mem L<=s.mem.words []:=by
 obtain⟨k,rfl,hk⟩:=h
 obtain⟨H,J⟩:=sP (m:=s.mem) (P:=λw=>aG w/\Good s.mem g w) N (λw f T v C=>by
  have o:cE w:=mY (m:=s.mem) (by omega)
  obtain⟨p,F,rfl⟩:=List.mem_map.1 C
  rw[tK f.2 o]at F
  have:=oS I K (f.2.2 o).1 p F
  exact⟨this.1,this.2.1⟩) k
 generalize bD s.mem d k=L at*
 have c: ∀w∈L,s.mem.sizeOf w=g (w / 8)/\g (w / 8)≠0/\w=thW s.mem (w / 8):=λw f=>by
  obtain⟨⟨S,E⟩,V⟩:=H w f
  have o:cE w:=mY (m:=s.mem) (by omega)
  exact⟨I.sound.size I.ok.mem S E o,(E.2 o).1,tK E o⟩
 have G:ko s.mem L=(((L.map (· / 8)).map g).sum:Nat):=by
  unfold ko
  have: ∀l:List Int,(∀w∈l,s.mem.sizeOf w=g (w / 8))->(l.map s.mem.sizeOf).sum=(((l.map (· / 8)).map g).sum:Nat):=by
   intro l
   induction l with
   | nil=>intro _;rfl
   | cons w l O=>
    intro A
    simp only[List.map_cons,List.sum_cons]
    rw[A w (by simp),O (λv C=>A v (by simp[C]))]
    omega
  exact this L (λw f=>(c w f).1)
 have B:(L.map (· / 8)).Nodup:=rK J (λa j b z e=>by
  rw[(c a j).2.2,(c b z).2.2]
  show thW s.mem (a / 8)=thW s.mem (b / 8)
  rw[show a / 8=b / 8 from e])
 rw[G,Mem.words_cnt I.ok.mem,mZ g tops _ B (λa j=>?_) (λa j b z y=>?_)]
 ·unfold Mem.cnt
  refine Int.ofNat_le.2 (qL _ (λx _ u=>?_))
  rw[List.any_eq_true]at u
  obtain⟨a,j,u⟩:=u
  obtain⟨w,f,rfl⟩:=List.mem_map.1 j
  have q:=(c w f).2.1
  have t:=I.sound.lt I.ok.mem q
  unfold inR at u
  simp only[Bool.and_eq_true,decide_eq_true_eq]at u⊢
  obtain⟨i,M⟩: ∃i:Nat,(x:Int)=w / 8+i:=⟨((x:Int)-w / 8).toNat,by omega⟩
  have r:=I.sound.usedAt q (i:=i) (by omega) (λk=>(I.ok.mem.seg k).n.2)
  rw[<-M]at r
  exact⟨r.1,by simp⟩
 ·obtain⟨w,f,rfl⟩:=List.mem_map.1 j
  have q:=(c w f).2.1
  have t:=I.sound.lt I.ok.mem q
  obtain⟨Q,U⟩:=I.sound.used _ q
  have:=(I.ok.mem.seg (w / 8 / 64).toNat).n
  have:=Q.2.1.2.1
  have A:=I.ok.mem.lim
  refine⟨t.1,?_⟩
  unfold tops
  omega
 ·obtain⟨w,f,rfl⟩:=List.mem_map.1 j
  obtain⟨R,D,rfl⟩:=List.mem_map.1 z
  exact I.sound.apart _ _ (c w f).2.1 (c R D).2.1 y
variable{H:zV}
def aw0:Sp:=⟨Mem.fresh 8,λ_ _=>0⟩
def aw1:Sp:=(aw0.put 0 1 [8,20]).1
def aw2:Sp:=(aw1.put 1 2 [1,20]).1
def aw3:Mem:=aw2.mem.set 0 17
theorem aw_1:(aw0.put 0 1 [8,20]).2=(1,0):=by kernel_rfl
theorem aw_2:(aw1.put 1 2 [1,20]).2=(514,0):=by kernel_rfl
theorem xy:aw1.mem.count=1:=by kernel_rfl
theorem aw_t:aw2.mem.takenTo [] aw2.mem.limit=[0,1]:=by kernel_rfl
theorem vQ:bO aw2.mem [0,1]=[(1,2),(514,2)]:=by kernel_rfl
theorem xz:(List.range 8).all (λk:Nat=>(List.range 4).all λc:Nat=>decide ((aw2.mem.seg k).cards c<=aw2.mem.mark1 k c))=true:=by kernel_rfl
theorem xD:ckV aw2.mem [1,514] [1,514] [1,514]=(0,0):=by kernel_rfl
theorem ug:bD aw2.mem [514] 1=[514]:=by kernel_rfl
theorem xm:(mx aw2.mem [514] 514).2.2.2.2=[-1,0]:=by kernel_rfl
theorem wU:decide (aw2.mem.used 0)=true:=by kernel_rfl
theorem vR:aw3.takenTo [] aw3.limit=[0,1]:=by kernel_rfl
theorem tN:bO aw3 [0,1]=[(1,2),(514,2)]:=by kernel_rfl
theorem xn:(List.range 8).all (λk:Nat=>(List.range 4).all λc:Nat=>decide ((aw3.seg k).cards c<=aw3.mark1 k c))=true:=by kernel_rfl
theorem xp:ckV aw3 [1,514] [1,514] []=(0,18):=by kernel_rfl
theorem sQ:bD aw3 [514] 1=[514]:=by kernel_rfl
theorem vS:ko aw3 [514]=2:=by kernel_rfl
theorem vT:aw2.mem.limit=8:=by kernel_rfl
theorem oW:(aw2.mem.seg 0).taken=1/\(aw2.mem.seg 1).taken=2:=⟨by kernel_rfl,by kernel_rfl⟩
theorem rf:(aw3.seg 0).taken=1/\(aw3.seg 1).taken=2:=⟨by kernel_rfl,by kernel_rfl⟩
theorem kQ{m:Mem}{l:List Nat}(h:dK m [] l)(o:m.takenTo [] m.limit=[0,1])(j:(m.seg 0).taken=1)(k:(m.seg 1).taken=2):l=[0,1]:=by
 have d:=h.perm
 rw[o]at d
 have n:=d.length_eq
 match l,n with
 | [a,b],_=>
  have i:=h.sorted
  rw[List.pairwise_cons]at i
  have e:=i.1 b (by simp)
  have g:a∈[0,1]:=d.subset (by simp)
  have f:b∈[0,1]:=d.subset (by simp)
  have c:=d.nodup_iff.2 (by decide)
  simp at g f c
  rcases g with rfl | rfl
  ·rcases f with rfl | rfl
   ·exact absurd rfl c
   ·rfl
  ·rcases f with rfl | rfl
   ·rw[j,k]at e;omega
   ·exact absurd rfl c
theorem sR{m:Mem}(e:m.limit=8)(h:(List.range 8).all (λk:Nat=>(List.range 4).all λc:Nat=>decide ((m.seg k).cards c<=m.mark1 k c))=true): ∀k:Nat,m.has k-> ∀c:Nat,c<4->(m.seg k).cards c<=m.mark1 k c:=by
 intro k hk c d
 have a:k<8:=by have:=hk.2.1;omega
 rw[List.all_eq_true]at h
 have b:=h k (List.mem_range.2 a)
 rw[List.all_eq_true]at b
 exact of_decide_eq_true (b c (List.mem_range.2 d))
open Go.ChangeShapes Go.WideShapes
theorem qf{b:Blk}{s:Sp}{ep:Int}:oA H b ⟨s,VN,VN,ep⟩ [] []:=
 ⟨⟨none,0,rfl,by rw[SrcAt_none];rfl⟩,⟨none,0,rfl,λi h=>absurd h (by simp)⟩,by simp⟩
theorem lY{n:Int}(h:aG n):(Lit.int .u64 n).wf=true:=by
 simp only[Lit.wf,Bool.and_eq_true,decide_eq_true_eq]
 obtain⟨a,b⟩:=h
 constructor
 ·exact a
 ·show n<=18446744073709551615;omega
theorem sS{b:Nat}{ws:List Int}(g:H[b]?=some (.cells (wvs ws).toArray 40 (0,0)))(c: ∀w∈ws,aG w):Nums H .u64 (some ⟨b,0,none⟩) ws.length ws:=
 ⟨rfl,(show aQ H ⟨b,0,none⟩ 0 (wvs ws)from ls g),λw a=>by
  have:=c w a
  exact lY this⟩
set_option maxRecDepth 100000 in
set_option maxHeartbeats 1000000 in
theorem rg:bM.C H (λv H'=>v=VT/\Ext H H'):=by
 refine HC.via λR hR=>bM.link ?_
 unfold bM.pt
 refine HC.mono (qH (limit:=8) (by decide)) ?_
 rintro _ H1 (⟨hc,rfl,e1⟩ | ⟨hc,b,x0,rfl,V1,hx,e1,Y⟩)
 ·exact absurd (by decide) hc
 refine⟨_,_,rfl,?_⟩
 rw[if_pos rfl,onPtr_some]
 subst hx
 have al:View H1 (some ⟨b.h,0,none⟩) (some (b,⟨aw0,VN,VN,0⟩)):=V1
 clear V1
 refine HC.mono (pL al (by decide) (by decide) (show(0:Int)<_ by decide)) ?_
 rintro _ H2 ⟨rfl,V2,f2⟩
 refine⟨1,0,by rw[show putR (some (b,(⟨aw0,VN,VN,0⟩:Hp))) 0 1 [8,20]=(1,0)from aw_1],?_⟩
 have am:View H2 (some ⟨b.h,0,none⟩) (some (b,⟨aw1,VN,VN,0⟩)):=V2
 clear V2
 refine HC.mono (pM am (by decide) (by decide) (show aw1.mem.count<_ by rw[xy];decide)) ?_
 rintro _ H3 ⟨rfl,V3,f3⟩
 refine⟨514,0,by rw[show putR (some (b,(⟨aw1,VN,VN,0⟩:Hp))) 1 2 [1,20]=(514,0)from aw_2],?_⟩
 have an:View H3 (some ⟨b.h,0,none⟩) (some (b,⟨aw2,VN,VN,0⟩)):=V3
 clear V3
 obtain⟨-,d,r⟩:=an.inv
 have hown: ∀x:Hp,∀j∈own (some (b,x)),H.size<=j:=λx j g=>Y j (by simp[own]at g;simp[Blk.all];omega)
 have E3:Ext H H3:=(e1.fr_trans f2 (hown _)).fr_trans f3 (hown _)
 have bf:aw2.mem.limit=8:=vT
 have aT: ∀l,dK aw2.mem [] l-> ∀p∈bO aw2.mem l,p.2≠0:=λl hl p M=>by
  rw[kQ hl aw_t oW.1 oW.2,vQ]at M
  simp at M
  rcases M with rfl | rfl<;>decide
 have aB:=sR vT xz
 have a0:(bO aw2.mem [0,1]).map Prod.fst=[1,514]:=by rw[vQ];rfl
 have ac:wsOf (bO aw2.mem [0,1])=[1,514]:=by rw[vQ];rfl
 refine HC.mono (sG d r d.lt) ?_
 rintro _ H4 ⟨B,c,l,hl,rfl,a8,ao,e4⟩
 obtain rfl:=kQ hl aw_t oW.1 oW.2
 rw[show(⟨aw2,VN,VN,0⟩:Hp).sp.mem=aw2.mem from rfl,ac]at a8⊢
 refine⟨B,_,c,rfl,λb5 H5 av W=>?_⟩
 have e5:Ext H4 H5:=Ext.push' W
 have U:=e4.trans e5
 refine HC.mono (rI (roots:=[1,514]) (syms:=[]) (es:=[]) (d.ext U) r qf (show aQ H5 ⟨b5,0,none⟩ 0 (wvs [1,514])from ls (aH av W)) rfl (by decide) (by intro w a;simp[gM]at a;rcases a with rfl | rfl<;>decide) aT aB) ?_
 rintro _ H6 ⟨l1,l2,I,J,rfl,e6⟩
 obtain rfl:=kQ I aw_t oW.1 oW.2
 obtain rfl:=kQ J aw_t oW.1 oW.2
 rw[show(⟨aw2,VN,VN,0⟩:Hp).sp.mem=aw2.mem from rfl,ac,a0,show gM [1,514] [] []=[1,514]from rfl,xD]
 refine⟨0,0,rfl,λb7 H7 aw D=>?_⟩
 have e7:Ext H6 H7:=Ext.push' D
 have A:=U.trans (e6.trans e7)
 have z7:H7.size=H6.size+1:=by rw[D];simp
 refine HC.mono (uI (roots:=[514]) (d.ext A) r (sS (ws:=[514]) (aH aw D) (by intro w a;simp at a;subst a;decide)) (by decide) (by intro w a;simp at a;subst a;decide) (λj g=>by simp at g;omega)) ?_
 rintro _ H8 ⟨oB,oC,ks,T,L,⟨k,hL,hk⟩,rfl,O,G,hT,aC,e8⟩
 have ap:L=[514]:=by
  rw[hL]
  have:=mp aw2.mem [514] (j:=k) (k:=1) (by rw[show bD aw2.mem [514] k=L from hL.symm];omega) (by rw[ug];simp)
  exact this.trans ug
 subst ap
 have V:=A.trans e8
 have q:=d.ext V
 refine⟨oB,_,oC,rfl,_,q.hPtr,_,rfl,_,q.cd.cPtr,_,rfl,_,q.cd.sp.memPtr,?_⟩
 refine HC.mono (jH q.cd.sp.mem r.mem (by decide)) ?_
 have hu:aw2.mem.used 0:=of_decide_eq_true wU
 have ab:(⟨aw2,VN,VN,0⟩:Hp).sp.mem.used 0:=hu
 rw[if_pos ab,if_pos ab]
 rintro _ H9 ⟨rfl,M9,f9⟩
 have a9:HpAt H9 b ⟨⟨aw3,aw2.cur⟩,VN,VN,0⟩:=q.withMem f9 (λi hi=>by simp at hi;exact .inr hi) M9
 have af:SpOK (⟨aw3,aw2.cur⟩:Sp):=by
  have:=SpOK.sets r 0 (ws:=[17]) (by intro w a;simp at a;subst a;decide)
  have e:aw2.mem.sets 0 [17]=aw3:=by
   show(if aw2.mem.used 0 then aw2.mem.set 0 17 else aw2.mem)=aw3
   rw[if_pos hu];rfl
  rw[show(⟨aw2,VN,VN,0⟩:Hp).sp.mem=aw2.mem from rfl,e]at this
  exact this
 have aa: ∀l,dK aw3 [] l-> ∀p∈bO aw3 l,p.2≠0:=λl hl p M=>by
  rw[kQ hl vR rf.1 rf.2,tN]at M
  simp at M
  rcases M with rfl | rfl<;>decide
 have a5:=sR (m:=aw3) vT xn
 have F:(bO aw3 [0,1]).map Prod.fst=[1,514]:=by rw[tN];rfl
 have ae:wsOf (bO aw3 [0,1])=[1,514]:=by rw[tN];rfl
 refine⟨0,rfl,?_⟩
 refine HC.mono (rI (roots:=[]) (syms:=[]) (es:=[]) a9 af qf (by rw[SrcAt_none];rfl) rfl (by decide) (by intro w a;simp[gM]at a) aa a5) ?_
 rintro _ P ⟨l1,l2,I,J,rfl,t⟩
 obtain rfl:=kQ I vR rf.1 rf.2
 obtain rfl:=kQ J vR rf.1 rf.2
 rw[show(⟨⟨aw3,aw2.cur⟩,VN,VN,0⟩:Hp).sp.mem=aw3 from rfl,ae,F,show gM [] [] []=[]from rfl,xp]
 refine⟨0,18,rfl,?_⟩
 have bT:b.s<H3.size:=d.lt b.s (by simp[Blk.all])
 have c6:=A.size
 have o:=((a8.ext ((e5.trans (e6.trans e7)).trans e8)).keep f9 (λj g h=>by simp at h;have:=ao j g;omega)).ext t
 rw[if_pos rfl]
 obtain⟨pa,p1,p2⟩:=lI o.src (i:=0) (by simp)
 obtain⟨bZ,ag,aZ⟩:=lI o.src (i:=1) (by simp)
 rw[p1]at ag
 cases ag
 refine⟨pa,p1,⟨by decide,by decide⟩,1,p2,?_⟩
 rw[if_pos rfl]
 refine⟨⟨by decide,by decide⟩,514,aZ,?_⟩
 rw[if_pos rfl,if_pos rfl]
 intro bs Q Z f
 have y:Ext P Q:=Ext.push' f
 have c5:Q.size=P.size+1:=by rw[f];simp
 refine HC.mono (vM (roots:=[514]) (a9.ext (t.trans y)) af (sS (ws:=[514]) (aH Z f) (by intro w a;simp at a;subst a;decide)) (by decide) (by intro w a;simp at a;subst a;decide) (λj g=>by simp at g;omega)) ?_
 rintro _ aj ⟨L3,⟨k3,X,bG⟩,rfl,S⟩
 have au:L3=[514]:=by
  rw[X]
  have:=mp aw3 [514] (j:=k3) (k:=1) (by rw[show bD aw3 [514] k3=L3 from X.symm];omega) (by rw[sQ];simp)
  exact this.trans sQ
 subst au
 refine⟨2,by rw[show(⟨⟨aw3,aw2.cur⟩,VN,VN,0⟩:Hp).sp.mem=aw3 from rfl,vS],?_⟩
 rw[if_pos rfl]
 have az:ks.length=2:=by
  have:=congrArg List.length G
  simp[picL]at this
  exact this
 match ks,az with
 | [k0,k1],_=>
 rw[if_pos (show(([k0,k1].length:Nat):Int)=2 from rfl)]
 have u:=((O.keep f9 (λj g h=>by simp at h;have:=aC j g;omega) (λj g h=>by simp at h;have:=hT j g;omega)).ext (t.trans (y.trans S)))
 have a3:keyK k1=mx aw2.mem [514] 514:=by
  simp only[picL,List.map_cons,List.map_nil,List.cons.injEq]at G
  exact G.2.1
 have a2:k1.is.xs=[-1,0]:=by
  have:=congrArg (λz=>z.2.2.2.2) a3
  exact this.trans xm
 obtain⟨-,-,h3,h4,-⟩:=u.each k1 (by simp)
 have a6:k1.is.n=2:=by rw[<-h3,a2];rfl
 have E:([k0,k1].flatMap iK.cells)[9]?=some (vs k1.is.p k1.is.n k1.is.c):=rfl
 obtain⟨oa,a7,K⟩:=u.own.at E
 have aN:oa=⟨oa.block,0,none⟩:=by
  have:=u.own
  rw[a7]at this
  exact this.1
 have N:hat aj ((oa.add (Int.toNat 1*5)).add 4)=some (vs k1.is.p k1.is.n k1.is.c):=by
  rw[aN]at K⊢
  rw[addr_add_mk]at K
  rw[addr_add_mk,addr_add_mk]
  exact K
 rw[a2]at h4
 obtain⟨ia,ax,ay⟩:=nS h4.src (i:=0) (by simp)
 refine⟨oa,a7,⟨by decide,by simp⟩,_,_,_,N,?_⟩
 rw[a6,if_pos (show((2:Nat):Int)=2 from rfl)]
 refine⟨⟨by decide,by simp⟩,_,_,_,by rw[a6]at N;exact N,ia,ax,⟨by decide,by decide⟩,-1,by exact ay,hR _ _ ⟨rfl,?_⟩⟩
 have E8:=E3.trans V
 exact((E8.fr_trans f9 (λi hi=>by simp at hi;rw[hi];exact Y _ (by simp[Blk.all]))).trans t).trans (y.trans S)
end Go.Proofs.YtojbbgcjiaphjaaGreat
namespace Go.Proofs.YtojbbgcjiaphjaaGreat
open Go
open Go.ChangeShapes Go.WideShapes
variable{a q:Nat}{H r:zV}{b u:zW}{d:Blk}{i:Hp}{j:Int->Nat}{k o:List Int}
set_option maxRecDepth 100000 in
theorem sU{Q:zV->Prop}{c:Nat}{bk:gO}(h:Gs H r d i j b a k u q o)(b6:k.length<=100000)
    (hs:kv r c bk) (hc:c ∉ d.all/\c ∉ blks b/\c ∉ blks u) (hA:SlOK 2 jv maxLen H bk.symbols) (aN:bk.symbols.n<=400) (b8:o.length<=10000)
    (hQ: ∀(A:zV) (x:zW) (D:Nat) (g:List Int) (O:Hp),Gs H A d O j b a k x D g->O.sp=i.sp->g.length<=o.length+400->kv A c bk->c ∉ blks x->r.size<=A.size->Q A):
    ∃(Y:zw) (ah:Int->zV->Nat),Y 0 r/\ ∀(t:Int) (s:zV),Y t s->
     ∃ak:zW,∃W:Nat,∃al:Nat,hat s ((Addr.mk c 0 none).add 2)=some (vs ak W al)/\
     if t< (W:Int)then(
      ∃y:zW,∃m:Nat,∃z:Nat,hat s ((Addr.mk d.h 0 none).add 1)=some (vs y m z)/\
      ∃L:zW,∃M:Nat,∃a5:Nat,hat s ((Addr.mk c 0 none).add 2)=some (vs L M a5)/\
      ∃K:Addr,L=some K/\
      ((0:Int)<=t/\t< (M:Int))/\
      ∃X:Int,∃N:Int,aQ s (K.add (Int.toNat t*2)) 0 [vu X,vi N]/\
      bP.C X N b k.length a s (λaB E=> ∃am:Int,aB=vu am/\aQ E ((Addr.mk d.h 0 none).add 1) 0 [vs y m z]/\
       ∀(a7:Nat) (F:zV),a7=E.size->F=E.push (.cells #[vu am] 40)->aQ F ((Addr.mk d.h 0 none).add 1) 0 [vs y m z]/\
       bR 1 40 8 [vu 0] y m z (some (Addr.mk a7 0 none)) 1 F (λa6 Z G=>
        (aK G ((Addr.mk d.h 0 none).add 1) 0 1)/\ ∀P:zV,P=aR G ((Addr.mk d.h 0 none).add 1) [vs a6 (m+1) Z] 0->
        (Y (IntKind.wrap .i64 (t+1)) P/\ah (IntKind.wrap .i64 (t+1)) P<ah t s))))
     else
     Q s:=by
  have hl:=hA.len
  refine⟨λbi A=>(0<=bi/\bi<=bk.symbols.n)/\ ∃(x:zW) (D:Nat) (g:List Int) (O:Hp),Gs H A d O j b a k x D g/\O.sp=i.sp/\(g.length:Int)=o.length+bi/\kv A c bk/\c ∉ blks x/\r.size<=A.size,λbi _=>(bk.symbols.n-bi).toNat,
    ⟨⟨by omega,by omega⟩,u,q,o,i,h,rfl,by omega,hs,hc.2.2,Nat.le_refl _⟩,?_⟩
  rintro bi A ⟨hk,x,D,g,O,S,a9,aT,T,a0,av⟩
  have V:hat A ((Addr.mk c 0 none).add 2)=some (vs bk.symbols.p bk.symbols.n bk.symbols.c):=by rw[eO T.at'];rfl
  refine⟨_,_,_,V,?_⟩
  by_cases a2:bi< (bk.symbols.n:Int)
  case neg=>
    rw[if_neg a2]
    exact hQ A x D g O S a9 (by omega) T a0 av
  rw[if_pos a2]
  have ac:bi.toNat<bk.symbols.xs.length:=by omega
  obtain⟨ka,ay,az⟩:=hA.row bi.toNat ac
  have a3:jv.ok maxLen H bk.symbols.xs[bi.toNat]:=hA.each _ (List.getElem_mem ac)
  generalize bk.symbols.xs[bi.toNat]=v at*
  have ai: ∀{A:zV} {bg:Addr} {v:Value},hat A bg=some v->aQ A bg 0 [v]:=λh=>⟨by rw[lS];exact h,trivial⟩
  have I: ∀{A':zV},Ext A A'->hat A' ((Addr.mk d.h 0 none).add 1)=some (vs x g.length D):=λe=>by rw[eO (e.get S.hp.h),<-S.sy];rfl
  refine⟨_,_,_,I (Ext.refl _),_,_,_,V,ka,ay,⟨hk.1,a2⟩,_,_,S.e.rowAt az,?_⟩
  have hd:((bk.symbols.n:Int)-(bi+1)).toNat< ((bk.symbols.n:Int)-bi).toNat:=by omega
  refine HC.mono (nX (wf_u64 a3.w) (wf_i64 a3.ofv) S.own) ?_
  rintro _ E ⟨rfl,a8⟩
  refine⟨_,rfl,ai (I a8),λb3 F aw U=>?_⟩
  have ap:Ext E F:=Ext.push' U
  have e:=a8.trans ap
  have gw:=m0 (wf_u64 a3.w) (Of:=v.ofv) (λw hw=>(S.good w hw).1)
  have gg:Good O.sp.mem j (valW v.w v.ofv k):=m4 (λw hw=>(S.good w hw).2.1)
  have gf:FW (valW v.w v.ofv k):=pl (λw hw=>(S.good w hw).2.2)
  generalize valW v.w v.ofv k=nw at*
  refine⟨ai (I e),?_⟩
  refine dD (ys:=wvs [nw]) (S.so.ext e) (dV (aH aw U) _ 0 0 (λbh l=>by
    simp only[wvs,List.map_cons,List.map_nil,List.length_cons,List.length_nil]at l
    obtain rfl:bh=0:=by omega
    rfl)) rfl (gT _) rfl (by omega) ?_
  intro p' c' G af f ae
  have ag:HpAt G d O:=(S.hp.ext e).keep f (λbh l=>(S.hs bh l).2.1)
  obtain⟨p1,p2,B⟩:=ag.putSy2 (vs p' (g.length+1) c')
  refine⟨p1,λP aa=>?_⟩
  rw[<-aa]at p2 B
  rw[w64 (n:=bi+1) (by omega)]
  have zA:=S.e.size
  have ze:=e.size
  have bb:=f.size
  have ab: ∀bh∈d.all,bh<A.size:=λbh l=>S.hp.lt bh l
  have R:d.h∈d.all:=by simp[Blk.all]
  have J: ∀bh∈blks p',H.size<=bh/\bh ∉ d.all/\bh ∉ blks b/\bh≠c:=λbh l=>by
    rcases ae bh l with bj | bj
    · exact⟨(S.hs bh bj).1,(S.hs bh bj).2.1,(S.hs bh bj).2.2,λe=>a0 (e▸bj)⟩
    · refine⟨by omega,λhb=>by have:=ab bh hb;omega,λhm=>by have:=S.own.lt bh hm;omega,λe=>by have:=aW T.at';omega⟩
  have a1:(g++[nw]).length=g.length+1:=by simp
  refine⟨⟨⟨by omega,by omega⟩,p',c',g++[nw],{O with sy:=vs p' (g.length+1) c'},⟨((S.e.trans e).fr_trans f (λbh l=>(S.hs bh l).1)).fr_trans B (λbh l=>by simp at l;rw[l];exact S.hb _ R),p2,S.inv,S.snd,S.nowk,((S.own.ext e).keep f (λbh l bj=>(S.hs bh bj).2.2 l)).keep B (λbh l bj=>by simp at bj;rw[bj]at l;exact(S.hm _ l).2 R),S.good,by rw[a1],?_,λw hw=>?_,S.en,S.hb,S.hm,λbh l=>⟨(J bh l).1,(J bh l).2.1,(J bh l).2.2.1⟩⟩,a9,by rw[a1];omega,((T.ext e).keep f a0).keep B (λbj=>by simp at bj;rw[bj]at hc;exact hc.1 R),λbj=>(J c bj).2.2.2 rfl,by have:=B.size;omega⟩,hd⟩
  · rw[a1]
    have:Own G 40 1 p' (g.length+1) c' (wvs (g++[nw])):=by unfold wvs at af⊢;rw[List.map_append];exact af
    exact this.keep B (λbh l bj=>by simp at bj;rw[bj]at l;exact(J _ l).2.1 R)
  · rcases List.mem_append.1 hw with bj | bj
    · exact S.sgood w bj
    · simp at bj;rw[bj];exact⟨gw,gg,gf⟩
set_option maxRecDepth 100000 in
theorem rP{Q:zW->Nat->Nat->zV->Prop}{c:Nat}{bh:gO}(h:Gs H r d i j b a k u q o)(b5:k.length<=100000)(hs:kv r c bh)
    (hQ: ∀(A:zV) (K:zW) (U:Nat) (f:List Int),Ext r A->Own A 40 1 K f.length U (wvs f)->(∀be∈blks K,r.size<=be)->(∀w∈f,w∈k)->f.length<=k.length->Q K f.length U A):
    ∃(E:zW->Nat->Nat->zw) (B:zW->Nat->Nat->Int->zV->Nat),E none 0 0 0 r/\ ∀(l:zW) (e:Nat) (m:Nat) (s:Int) (z:zV),E l e m s z->
    if s< (k.length:Int)then(
     ∃af:zW,hat z (Addr.mk d.h 0 none)=some (vp af)/\
     ∃x:Addr,b=some x/\
     ((0:Int)<=s/\s< (k.length:Int))/\
     ∃ag:Int,hat z (x.add (Int.toNat s*1))=some (vu ag)/\
     eP.C af ag z (λax a1=> ∃V:Int,∃W:Bool,ax=.tuple #[vi V,.bool W]/\
      ∃ah:Int,hat a1 ((Addr.mk c 0 none).add 5)=some (.int .u32 ah)/\
      dG.C ah s a1 (λay y=> ∃ai:Bool,ay=.bool ai/\
       if ai=true then(
        ((0:Int)<=s/\s< (k.length:Int))/\
        ∃aj:Int,hat y (x.add (Int.toNat s*1))=some (vu aj)/\
        ∀(I:Nat) (D:zV),I=y.size->D=y.push (.cells #[vu aj] 40)->
        bR 1 40 8 [vu 0] l e m (some (Addr.mk I 0 none)) 1 D (λbi M F=>
         (E bi (e+1) M (IntKind.wrap .i64 (s+1)) F/\B bi (e+1) M (IntKind.wrap .i64 (s+1)) F<B l e m s z)))
       else
       if W=true then(
        ∃ak:Int,hat y ((Addr.mk c 0 none).add 3)=some (vi ak)/\
        if V>ak then(
         ((0:Int)<=s/\s< (k.length:Int))/\
         ∃Y:Int,hat y (x.add (Int.toNat s*1))=some (vu Y)/\
         ∀(a6:Nat) (a2:zV),a6=y.size->a2=y.push (.cells #[vu Y] 40)->
         bR 1 40 8 [vu 0] l e m (some (Addr.mk a6 0 none)) 1 a2 (λO G a3=>
          (E O (e+1) G (IntKind.wrap .i64 (s+1)) a3/\B O (e+1) G (IntKind.wrap .i64 (s+1)) a3<B l e m s z)))
        else
        (E l e m (IntKind.wrap .i64 (s+1)) y/\B l e m (IntKind.wrap .i64 (s+1)) y<B l e m s z))
       else
       (E l e m (IntKind.wrap .i64 (s+1)) y/\B l e m (IntKind.wrap .i64 (s+1)) y<B l e m s z))))
    else
    Q l e m z:=by
  refine⟨λK rN U bf A=>(0<=bf/\bf<=k.length)/\ ∃f:List Int,rN=f.length/\Ext r A/\Own A 40 1 K f.length U (wvs f)/\(∀be∈blks K,r.size<=be)/\(∀w∈f,w∈k)/\(f.length:Int)<=bf,λ_ _ _ bf _=>(k.length-bf).toNat,
    ⟨⟨by omega,by omega⟩,[],rfl,Ext.refl _,iY,λbe hj=>by simp at hj,λw hw=>by simp at hw,by simp⟩,?_⟩
  rintro K rN U bf A ⟨hk,f,rfl,eA,ho,N,Z,aC⟩
  by_cases J:bf< (k.length:Int)
  case neg=>
    rw[if_neg J]
    exact hQ A K U f eA ho N Z (by omega)
  rw[if_pos J]
  have ae:bf.toNat<k.length:=by omega
  have T:=List.getElem_mem ae
  obtain⟨ma,ap,S⟩:=lI (h.own.src.ext eA) ae
  have hp:=h.hp.ext eA
  refine⟨_,hp.hPtr,ma,ap,⟨hk.1,J⟩,_,S,?_⟩
  generalize k[bf.toNat]=w at*
  have hd:((k.length:Int)-(bf+1)).toNat< ((k.length:Int)-bf).toNat:=by omega
  rw[w64 (n:=bf+1) (by omega)]
  refine HC.mono (pH hp.cd (h.good w T).1) ?_
  rintro _ L ⟨rfl,e1⟩
  have aa:hat L ((Addr.mk c 0 none).add 5)=some (.int .u32 bh.keep):=by rw[eO (hs.ext (eA.trans e1)).at'];rfl
  refine⟨_,_,rfl,_,aa,?_⟩
  refine HC.mono (vI hk.1) ?_
  rintro _ A2 ⟨⟨t,rfl⟩,an⟩
  obtain rfl:L=A2:=an.symm
  have e2:=eA.trans e1
  have X:(((0<=bf+1/\bf+1<=k.length)/\ ∃p:List Int,f.length=p.length/\Ext r L/\Own L 40 1 K p.length U (wvs p)/\(∀be∈blks K,r.size<=be)/\(∀w∈p,w∈k)/\(p.length:Int)<=bf+1)/\((k.length:Int)-(bf+1)).toNat< ((k.length:Int)-bf).toNat):=
    ⟨⟨⟨by omega,by omega⟩,f,rfl,e2,ho.ext e1,N,Z,by omega⟩,hd⟩
  have a4: ∀(I:Nat) (D:zV),I=L.size->D=L.push (.cells #[vu w] 40)->bR 1 40 8 [vu 0] K f.length U (some (Addr.mk I 0 none)) 1 D (λbi M F=>
      (((0<=bf+1/\bf+1<=k.length)/\ ∃p:List Int,f.length+1=p.length/\Ext r F/\Own F 40 1 bi p.length M (wvs p)/\(∀be∈blks bi,r.size<=be)/\(∀w∈p,w∈k)/\(p.length:Int)<=bf+1)/\((k.length:Int)-(bf+1)).toNat< ((k.length:Int)-bf).toNat)):=λb2 D ao P=>by
    have e5:Ext L D:=Ext.push' P
    refine dD (ys:=wvs [w]) ((ho.ext e1).ext e5) (dV (aH ao P) _ 0 0 (λbe hj=>by
      simp only[wvs,List.map_cons,List.map_nil,List.length_cons,List.length_nil]at hj
      obtain rfl:be=0:=by omega
      rfl)) rfl (gT _) rfl (by omega) ?_
    intro B' c' H6 aw f6 au
    have z5:=e5.size
    have z2:=e2.size
    have a0:(f++[w]).length=f.length+1:=by simp
    refine⟨⟨⟨by omega,by omega⟩,f++[w],a0.symm,(e2.trans e5).fr_trans f6 N,by rw[a0];simpa[wvs]using aw,λbe hj=>?_,λv hv=>?_,by rw[a0];omega⟩,hd⟩
    · rcases au be hj with bg | bg
      · exact N be bg
      · omega
    · rcases List.mem_append.1 hv with bg | bg
      · exact Z v bg
      · simp at bg;rw[bg];exact T
  refine⟨_,rfl,?_⟩
  have R:hat L (ma.add (bf.toNat*1))=some (vu w):=e1.hat S
  by_cases ht:t=true
  · rw[if_pos ht]
    exact⟨⟨hk.1,J⟩,_,R,a4⟩
  rw[if_neg ht]
  by_cases hg:(i.sp.mem.genOf w).2=true
  · rw[if_pos hg]
    have a9:hat L ((Addr.mk c 0 none).add 3)=some (vi bh.g):=by rw[eO (hs.ext e2).at'];rfl
    refine⟨_,a9,?_⟩
    by_cases ab:(i.sp.mem.genOf w).1>bh.g
    · rw[if_pos ab]
      exact⟨⟨hk.1,J⟩,_,R,a4⟩
    · rw[if_neg ab];exact X
  · rw[if_neg hg];exact X
theorem sV(a:Addr)(n:Nat):ptrs 0 a n++[Vq (a.add (n*1))]=ptrs 0 a (n+1):=by
  unfold ptrs
  rw[List.range_succ,List.map_append,List.append_assoc];rfl
set_option maxRecDepth 100000 in
theorem oX{Q:zW->Nat->Nat->zV->Prop}(J:0<a-> ∃W,b=some W)(T:a<=100000000)
    (K: ∀(A:zV) (B:zW) (c:Nat),Ext H A->fB A B (ptrs 0 (b.getD default) a)->(∀j∈blks B,H.size<=j/\j<A.size)->Q B a c A):
    ∃(f:zW->Nat->Nat->zw) (l:zW->Nat->Nat->Int->zV->Nat),f none 0 0 0 H/\ ∀(x:zW) (p:Nat) (y:Nat) (d:Int) (e:zV),f x p y d e->
       if d< (a:Int)then(
        ∃v:Addr,b=some v/\
        ((0:Int)<=d/\d< (a:Int))/\
        ∀(t:Nat) (r:zV),t=e.size->r=e.push (.cells #[Vq (v.add (Int.toNat d*1))] 39)->
        bR 1 39 8 [vp none] x p y (some (Addr.mk t 0 none)) 1 r (λh g s=>
         (f h (p+1) g (IntKind.wrap .i64 (d+1)) s/\l h (p+1) g (IntKind.wrap .i64 (d+1)) s<l x p y d e)))
       else
       Q x p y e:=by
  refine⟨λB n c i A=>(0<=i/\i<=a)/\n=i.toNat/\Ext H A/\Own A 39 1 B i.toNat c (ptrs 0 (b.getD default) i.toNat)/\(∀j∈blks B,H.size<=j),λ_ _ _ i _=>(a-i).toNat,
    ⟨⟨by omega,by omega⟩,rfl,Ext.refl _,iY,λj k=>by simp at k⟩,?_⟩
  rintro B n c i A ⟨M,rfl,C,w,D⟩
  by_cases m:i< (a:Int)
  case neg=>
    rw[if_neg m]
    rw[show i.toNat=a by omega]at w⊢
    exact K A B c C w.src (λj k=>⟨D j k,w.lt j k⟩)
  rw[if_pos m]
  obtain⟨W,rfl⟩:=J (by omega)
  refine⟨W,rfl,⟨M.1,m⟩,λR G E u=>?_⟩
  have z:Ext A G:=Ext.push' u
  have L:((a:Int)-(i+1)).toNat< ((a:Int)-i).toNat:=by omega
  rw[w64 (n:=i+1) (by omega)]
  refine dD (ys:=[Vq (W.add (Int.toNat i*1))]) (w.ext z) (dV (aH E u) _ 0 0 (λj k=>by
    simp only[List.length_cons,List.length_nil]at k
    obtain rfl:j=0:=by omega
    rfl)) rfl rfl rfl (by omega) ?_
  intro O S P o I F
  have U:=z.size
  have V:=C.size
  have N:ptrs 0 ((some W).getD default) i.toNat++[Vq (W.add (Int.toNat i*1))]=ptrs 0 ((some W).getD default) (i+1).toNat:=by
    rw[show(i+1).toNat=i.toNat+1 by omega];exact sV W i.toNat
  rw[N]at o
  refine⟨⟨⟨by omega,by omega⟩,by omega,(C.trans z).fr_trans I D,by rw[show(i+1).toNat=i.toNat+1 by omega]at o⊢;exact o,λj k=>?_⟩,L⟩
  rcases F j k with q | q
  · exact D j q
  · omega
theorem rh(S:Gs H r d i j b a k u q o)(t:k.length<=100000)(y:o.length<=100000):
    fV.C (some ⟨d.h,0,none⟩) b k.length a r (λv m=>v=.tuple #[vi 0,vi 0]/\Ext r m):=by
  have n: ∀w∈gM k o [],aG w/\Good i.sp.mem j w/\FW w:=λw c=>by
    unfold gM at c
    rw[List.flatMap_nil,List.append_nil]at c
    rcases List.mem_append.1 c with E | E
    · exact S.good w E
    · exact S.sgood w E
  refine HC.mono (rI (syms:=o) (es:=[]) S.hp S.inv.ok ⟨⟨u,q,S.sy,S.so.src⟩,⟨none,0,S.en,λD s=>by simp at s⟩,⟨by omega,by simp⟩⟩ S.own.src rfl (by omega) (λw c=>(n w c).1) (λl f p x=>?_) (vH S.inv)) ?_
  · obtain⟨B,z,_,e⟩:=(nE S.inv S.snd f).1 p x
    rw[e];omega
  · rintro v m ⟨l,A,f,g,rfl,e⟩
    rw[xk S.inv S.snd f g n]
    exact⟨rfl,e⟩
theorem qg(S:Gs H r d i j b a k u q o)(l:k.length<=100000):
    gQ.C (some ⟨d.h,0,none⟩) b k.length a r (λv f=> ∃L:List Int,(∃n,L=bD i.sp.mem k n/\L.length=n)/\v=vi (ko i.sp.mem L)/\ko i.sp.mem L<=i.sp.mem.words []/\Ext r f):=by
  refine HC.mono (vM (roots:=k) S.hp S.inv.ok ⟨rfl,S.own.src,λy m=>?_⟩ (by omega) (λw c=>(S.good w c).1) S.own.lt) ?_
  · have:=(S.good y m).1
    exact lY this
  · rintro v f ⟨L,g,rfl,e⟩
    exact⟨L,g,rfl,wT S.inv S.snd (λw c=>⟨(S.good w c).1,(S.good w c).2.1⟩) g,e⟩
end Go.Proofs.YtojbbgcjiaphjaaGreat
namespace Go.Proofs.YtojbbgcjiaphjaaGreat
open Go
open Go.ChangeShapes Go.WideShapes
theorem Gs.sub{m H A:zV}{b:Blk}{x:Hp}{q:Int->Nat}{t o l:zW}{u p n:Nat}{d g a:List Int}(S:Gs m H b x q t u d o p g)(e:Ext H A)(r:Own A 40 1 l a.length n (wvs a))(i: ∀j∈blks l,H.size<=j)(k: ∀w∈a,w∈d):Gs m A b x q l n a o p g:=by
 have f: ∀j∈b.all,j<H.size:=λj c=>S.hp.lt j c
 have z:=S.e.size
 exact⟨S.e.trans e,S.hp.ext e,S.inv,S.snd,S.nowk,r,λw s=>S.good w (k w s),S.sy,S.so.ext e,S.sgood,S.en,S.hb,λj c=>⟨by have:=i j c;omega,λh=>by have:=f j h;have:=i j c;omega⟩,λj c=>⟨(S.hs j c).1,(S.hs j c).2.1,λh=>by have:=S.so.lt j c;have:=i j h;omega⟩⟩
theorem uJ{s:Sp}{g T:Int}(h:jy s g T 1≠0):jy s g T 1=1\/jy s g T 1=2:=by
 unfold jy at h⊢
 split
 ·exact .inl rfl
 ·split
  ·exact .inr rfl
  ·rename_i a b;rw[if_neg a,if_neg b]at h;exact absurd rfl h
set_option maxRecDepth 100000 in
theorem uh{Z H:zV}{b:Blk}{x:Hp}{sz:Int->Nat}{s sB:zW}{U sC:Nat}{a m:List Int}(S:Gs Z H b x sz s U a sB sC m)(a6:x.sp.cf<=100000)(ab:a.length<=100000)(ac:m.length<=100000){g T:Int}(hg:I64 g)(hT:I64 T)
  {Q:zW} {pN pC:Nat} (L:fB H Q (ptrs 0 (s.getD default) a.length)) (aa:pN=a.length) (K: ∀j∈blks Q,j ∉ b.all/\j ∉ blks s/\j<H.size):
  iV.C (some ⟨b.h,0,none⟩) g T Q pN pC H (λv F=>(∃e:Int,v=vi e/\(e=1\/e=2)/\Ext H F)\/
   (v=vi 0/\ ∃(X:Hp) (r:Int->Nat) (D:zW) (V:Nat) (n:List Int) (f:Int->Int) (G:Int->Prop),Gs Z F b X r s U (a.map f) D V n/\n.length<=m.length/\X.sp.cf<=x.sp.cf+1024/\Iso x.sp.mem X.sp.mem f G/\(∀w∈a,G w)/\Fr (b.all++blks s) H F/\ ∀j∈blks D,H.size<=j)):=by
 refine HC.mono (rE (Cel.own s a.length U) (k:=0) (pC:=pC) S.hp S.inv (by omega) S.en S.sy S.so (λj i=>⟨(S.hs j i).2.1,(S.hs j i).2.2⟩) (λw d=>⟨(S.sgood w d).1,(S.sgood w d).2.1⟩) (by omega) hg hT ⟨rfl,S.own⟩ (λj i=>(S.hm j i).2) L (by omega) K (λw d=>⟨(S.good w d).1,(S.good w d).2.1⟩) (by omega)) ?_
 rintro v F ⟨h1,h2⟩
 by_cases o:jy x.sp g T 1=0
 case neg=>
  obtain⟨rfl,e⟩:=h1 o
  exact .inl ⟨_,rfl,uJ o,e⟩
 obtain⟨rfl,Y,I,al,r,u,s3,s4,s5,W⟩:=h2 o
 right
 have C:=W.col
 have t:=C.t
 have P:=C.inv.ok.mem
 obtain⟨B,c,J,M,l⟩:=W.sym
 obtain⟨ae,O⟩:=W.own
 have N:=C.yg
 have A:=C.good
 subst N
 have y: ∀j∈b.all,j<H.size:=λj i=>S.hp.lt j i
 have z:=S.e.size
 refine⟨rfl,_,szE u.old r,B,c,qc u.old I m,Fw u.old I,GW ⟨x.sp.mem,sz,u.old,T,(· ∈a)⟩ I,⟨S.e.fr_trans W.fr (λj i=>?_),J,C.inv,t.snd S.snd,t.nowk S.nowk,by rw[List.length_map];exact O,λw d=>⟨(A w d).1,(A w d).2,?_⟩,rfl,M,λw d=>?_,S.en,S.hb,S.hm,λj i=>⟨?_,?_,?_⟩⟩,?_,C.cf,t.iso P S.nowk,λw d=>⟨(S.good w d).1,(S.good w d).2.1,t.roots w d⟩,W.fr,l⟩
 ·rcases List.mem_append.1 i with q | q
  ·exact S.hb j q
  ·exact(S.hm j q).1
 ·obtain⟨E,p,rfl⟩:=List.mem_map.1 d
  exact rJ (S.good E p).2.2
 ·obtain⟨E,p,rfl⟩:=List.mem_map.1 d
  obtain⟨q1,R⟩:=List.mem_filter.1 p
  obtain⟨r1,r2,r3⟩:=S.sgood E q1
  have hd:Dn u.old I E:=λho=>by
   unfold qV at R
   rw[zQ (show ¬ ¬aV u.old E from λq=>q ho)]at R
   exact Option.isSome_iff_exists.1 (by simpa using R)
  exact⟨t.tri.fw_word t.S r1,(t.good r1 r2 hd).1,rJ r3⟩
 ·have:=l j i;omega
 ·intro h;have:=y j h;have:=l j i;omega
 ·intro h;have:=S.own.lt j h;have:=l j i;omega
 ·unfold qc
  rw[List.length_map]
  exact List.length_filter_le _ _
end Go.Proofs.YtojbbgcjiaphjaaGreat
namespace Go.Proofs.YtojbbgcjiaphjaaGreat
open Go
open Go.ChangeShapes Go.WideShapes
def ri(H0 A:zV)(b:Blk)(i:Int)(mB:zW)(mN mC:Nat):Prop:=
 ∃(x:Hp) (sz:Int->Nat) (made:List Int) (sB:zW) (sC:Nat) (syl:List Int),mN=made.length/\Gs H0 A b x sz mB mC made sB sC syl/\x.sp.cf<=1024+1024*i/\(made.length:Int)<=401*i/\(syl.length:Int)<=400*i
theorem Gs.some{f H:zV}{b:Blk}{x:Hp}{sz:Int->Nat}{e j:zW}{i k:Nat}{c d:List Int}(S:Gs f H b x sz e i c j k d)(h:0<c.length): ∃a,e=some a:=by
 obtain⟨a,g,_⟩:=lI S.own.src h
 exact⟨a,g⟩
theorem wV{H g:zV}{b:Blk}{f:Hp}{l:Nat}(V:View g (some ⟨b.h,0,none⟩) (some (b,f)))(d:f=⟨⟨Mem.fresh l,λ_ _=>0⟩,VN,VN,0⟩)(e:Ext H g)(n: ∀j∈b.all,H.size<=j)(o:l<=1024):
  ri H g b 0 none 0 0:=by
 obtain⟨-,k,m⟩:=V.inv
 have c: ∀a,¬f.sp.mem.used a:=λa h=>by
  rw[d]at h
  exact absurd rfl h.2.1.2.2
 refine⟨f,λ_=>0,[],none,0,[],rfl,⟨e,k,⟨m,by rw[d];exact tn _,?_,λa h=>absurd h (c a)⟩,⟨λa h=>absurd h (c a),λa i h=>absurd rfl h⟩,λa h=>absurd h (c a),iY,λw h=>by simp at h,by rw[d];rfl,iY,λw h=>by simp at h,by rw[d],n,λj h=>by simp at h,λj h=>by simp at h⟩,?_,by simp,by simp⟩
 ·exact⟨λa h=>absurd rfl h,λa b h=>absurd rfl h,λa h=>absurd rfl h,λa h=>absurd rfl h,λa h=>absurd h (c a)⟩
 ·rw[d]
  show(0:Int)+((l:Nat):Int)<=1024+1024*0
  omega
set_option maxRecDepth 100000 in
set_option maxHeartbeats 1000000 in
theorem vU{H:zV}{m:Int}{s:Sl gO}(hl:I64 m)(A:SlOK 6 kX maxLen H s)(F:wZ s.xs)(b1: ∀r∈s.xs,r.guard.n=0)(aT: ∀r∈s.xs,∀a∈r.acts.xs,a.dov≠1):
  eD.C m s.p s.n s.c H (λv H'=>(v=.tuple #[vp none,VN,VT]/\Ext H H')\/ ∃b J mN M,v=.tuple #[vp (some ⟨b.h,0,none⟩),vs J mN M,VT]/\ri H H' b s.n J mN M):=by
 refine HC.via λR hR=>eD.link ?_
 unfold eD.pt zY
 refine HC.mono (qH hl) ?_
 rintro _ H1 (⟨hc,rfl,e1⟩ | ⟨hc,b,x0,rfl,V1,hx,e1,aB⟩)
 ·refine⟨_,_,rfl,?_⟩
  rw[if_neg (by decide)]
  exact hR _ _ (.inl ⟨rfl,e1⟩)
 refine⟨_,_,rfl,?_⟩
 rw[if_pos rfl,onPtr_some]
 have bo:=A.len
 have br:=F.1
 refine⟨λJ mN M i w=>(0<=i/\i<=s.n)/\ri H w b i J mN M,λ_ _ _ i _=>(s.n-i).toNat,⟨⟨by omega,by omega⟩,wV V1 hx e1 aB (by omega)⟩,?_⟩
 rintro J mN M i A1 ⟨hi,hG⟩
 by_cases I:i< (s.n:Int)
 case neg=>
  rw[if_neg I]
  rw[show i=(s.n:Int)by omega]at hG
  exact hR _ _ (.inr ⟨b,J,mN,M,rfl,hG⟩)
 rw[if_pos I]
 obtain⟨x,sz,bs,sB,sC,cv,rfl,S,c6,ce,cg⟩:=hG
 have d:i.toNat<s.xs.length:=by omega
 obtain⟨la,b2,a6⟩:=A.row i.toNat d
 have u:gO.OK maxLen H s.xs[i.toNat]:=A.each _ (List.getElem_mem d)
 have a1:=F.2 _ (List.getElem_mem d)
 have b0:=b1 _ (List.getElem_mem d)
 have aZ:=aT _ (List.getElem_mem d)
 generalize s.xs[i.toNat]=r at*
 have hd:((s.n:Int)-(i+1)).toNat< ((s.n:Int)-i).toNat:=by omega
 rw[w64 (n:=i+1) (by omega)]
 refine⟨la,b2,⟨hi.1,I⟩,_,_,_,_,_,_,_,_,_,_,_,_,S.e.rowAt a6,?_⟩
 intro c H3 aN P
 obtain⟨p1,p2⟩:=jP (n:=6) (vs:=[vs r.acts.p r.acts.n r.acts.c,vs r.guard.p r.guard.n r.guard.c,vs r.symbols.p r.symbols.n r.symbols.c,vi r.g,vi r.target,.int .u32 r.keep]) (aH aN P) rfl rfl
 refine⟨p1,λH4 az=>?_⟩
 obtain⟨g4,f4⟩:=p2 H4 az
 have e3:Ext A1 H3:=Ext.push' P
 have e4:Ext A1 H4:=e3.fr_trans f4 (λj t=>by simp at t;omega)
 have S4:=S.ext e4
 have a7:kv H4 c r:=⟨g4⟩
 have V: ∀j∈b.all,j<A1.size:=λj t=>S.hp.lt j t
 have X:c ∉ b.all:=λh=>by have:=V c h;omega
 have W:c ∉ b.all/\c ∉ blks J/\c ∉ blks sB:=⟨X,λh=>by have:=S.own.lt c h;omega,λh=>by have:=S.so.lt c h;omega⟩
 refine sL S4 (by omega) rfl (by omega) a7 W u.acts a1.1 aZ ?_
 intro A5 b4 b5 o x5 bd S5 bk bp y Z cj
 have Q:hat A5 ((Addr.mk c 0 none).add 1)=some (vs r.guard.p r.guard.n r.guard.c):=by rw[eO y.at'];rfl
 refine⟨λk w=>k=0/\w=A5,λ_ _=>0,⟨rfl,rfl⟩,?_⟩
 rintro k2 H7 ⟨rfl,rfl⟩
 refine⟨_,_,_,Q,?_⟩
 rw[if_neg (by rw[b0];simp)]
 refine sU S5 (by omega) y ⟨X,Z,W.2.2⟩ u.symbols a1.2 (by omega) ?_
 intro A6 b7 ba ac x6 S6 O b3 z bn ck
 have bl:x6.sp.cf=x5.sp.cf:=by rw[O]
 refine HC.mono (rh S6 (by omega) (by omega)) ?_
 rintro _ A7 ⟨rfl,e7⟩
 refine⟨_,_,rfl,?_⟩
 rw[if_pos rfl]
 have S7:=S6.ext e7
 refine rP S7 (by omega) (z.ext e7) ?_
 intro A8 rB rC q e8 a4 aC a2 bq
 have S8:=S7.sub e8 a4 aC a2
 have M8:=S7.ext e8
 have a9:=(z.ext e7).ext e8
 refine oX S8.some (by omega) ?_
 intro A9 pB pC e9 a5 l
 have S9:=S8.ext e9
 have M9:=M8.ext e9
 have D:=a9.ext e9
 have T:hat A9 ((Addr.mk c 0 none).add 3)=some (vi r.g):=by rw[eO D.at'];rfl
 have U:hat A9 ((Addr.mk c 0 none).add 4)=some (vi r.target):=by rw[eO D.at'];rfl
 refine⟨_,T,_,U,?_⟩
 have E: ∀j∈b.all,j<A8.size:=λj t=>S8.hp.lt j t
 refine HC.mono (R:=λv w=> ∃e:Int,v=vi e/\(e=0->ri H w b (i+1) rB q.length rC)/\(e≠0->ri H w b (i+1) b4 o.length b5)) (HC.mono (uh S9 (by omega) (by omega) (by omega) (wf_i64 u.g) (wf_i64 u.target) a5 rfl (λj t=>⟨λh=>by have:=E j h;have:=(l j t).1;omega,λh=>by have:=a4.lt j h;have:=(l j t).1;omega,(l j t).2⟩)) ?_) ?_
 ·rintro v ah (⟨e,rfl,he,an⟩ | ⟨rfl,x',bc,b6,b9,ab,f,G,aj,h1,h2,h3,h4,h5,h6⟩)
  ·refine⟨e,rfl,λh=>by omega,λ_=>⟨x6,bd,o,b7,ba,ac,rfl,M9.ext an,by omega,by omega,by omega⟩⟩
  ·refine⟨0,rfl,λ_=>⟨x',bc,q.map f,b6,b9,ab,by rw[List.length_map],aj,by omega,by rw[List.length_map];omega,by omega⟩,λh=>absurd rfl h⟩
 rintro _ ah ⟨e,rfl,hy,hn⟩
 refine⟨e,rfl,λB n cY w=>ri H w b (i+1) B n cY,?_,?_⟩
 ·by_cases he:e=0
  ·rw[if_pos he];exact hy he
  ·rw[if_neg he];exact hn he
 rintro cn cp co bw ⟨x7,be,K,b8,bb,ae,rfl,T7,Y,a3,a8⟩
 refine HC.mono (rh T7 (by omega) (by omega)) ?_
 rintro _ bz ⟨rfl,ao⟩
 refine⟨_,_,rfl,?_⟩
 rw[if_pos rfl]
 have T8:=T7.ext ao
 have aa: ∀{A:zV} {a:Addr} {v:Value},hat A a=some v->aQ A a 0 [v]:=λh=>⟨by rw[lS];exact h,trivial⟩
 refine⟨_,T8.hp.hPtr,_,rfl,_,T8.hp.cd.cPtr,?_⟩
 refine HC.mono (qg T8 (by omega)) ?_
 rintro _ bA ⟨L,hL,rfl,cc,ap⟩
 have N:=T8.ext ap
 refine⟨_,rfl,aa N.hp.hPtr,aa N.hp.cd.cPtr,?_⟩
 refine HC.mono (qq (gs:=[]) N.hp.cd.sp N.inv.ok (by rw[SrcAt_none];rfl) rfl (by decide)) ?_
 rintro _ bB ⟨rfl,au⟩
 refine⟨_,rfl,?_⟩
 rw[if_neg (by omega)]
 exact⟨⟨⟨by omega,by omega⟩,x7,be,K,b8,bb,ae,rfl,N.ext au,Y,a3,a8⟩,hd⟩
end Go.Proofs.YtojbbgcjiaphjaaGreat
namespace Go.Proofs.YtojbbgcjiaphjaaGreat
open Go
open Go.ChangeShapes Go.WideShapes
variable{a:Mem}
theorem tO{n:Int}(h: -9223372036854775808<=n/\n<=9223372036854775807):(Lit.int .i64 n).wf=true:=by
 simp only[Lit.wf,Bool.and_eq_true,decide_eq_true_eq]
 exact h
theorem ui(L:List Int)(v:Int):0<=numOf L v/\numOf L v<=L.length:=by
 unfold numOf
 split
 ·rename_i h
  have:=List.idxOf_lt_length_iff.2 h
  omega
 ·omega
theorem wW(m:Mem)(L:List Int)(w:Int)(p:Int×Int): -1<=isF m L w p/\isF m L w p<=L.length:=by
 have:=ui L p.2
 unfold isF
 split<;>omega
structure w6 (k:Int×Int×Int×List Int×List Int):Prop where
 tag:0<=k.1/\k.1<8
 typ:0<=k.2.1/\k.2.1<32
 more:aG k.2.2.1
 wl:k.2.2.2.1.length<=1000000
 words: ∀w∈k.2.2.2.1,aG w
 il:k.2.2.2.2.length<=1000000
 is: ∀i∈k.2.2.2.2,-1<=i/\i<=1000000
theorem rj{w i:Int}(h:aG w):aG (putW w i):=by
 unfold putW
 split
 ·exact h
 ·decide
theorem tP(m:Mem)(w:Int):(aX m w).length<=63:=by
 unfold aX
 have:=ku m w
 split
 ·simp
 ·rw[List.length_map,List.length_range]
  have:0<=cV m w:=by unfold cV;split<;>decide
  omega
theorem sW(c:bJ a)(w:Int): ∀p∈aX a w,aG p.2:=λp b=>by
 unfold aX at b
 split at b
 ·simp at b
 ·obtain⟨i,_,rfl⟩:=List.mem_map.1 b
  exact Mem.read_word c _
theorem vV(l:bJ a){b L:List Int}(o: ∀w∈b,aG w)(e:b.length<=1000000)(s:L.length<=524288): ∀k∈picL a b L,w6 k:=λk hk=>by
 unfold picL at hk
 rcases List.mem_cons.1 hk with rfl | hk
 ·refine⟨(by decide:(0:Int)<=0/\(0:Int)<8),(by decide:(0:Int)<=0/\(0:Int)<32),(by decide:aG 0),by simpa[picF]using e,λw h=>?_,by simpa[picF]using e,λi d=>?_⟩
  ·obtain⟨v,c,rfl⟩:=List.mem_map.1 h
   exact rj (o v c)
  ·obtain⟨v,c,rfl⟩:=List.mem_map.1 d
   have:=ui L v
   omega
 ·obtain⟨w,h,rfl⟩:=List.mem_map.1 hk
  have t:=tP a w
  have n:=a.len_rng w
  have r:lc a w<=62:=by unfold lc;omega
  have f: ∀u,aG (a.get u):=λu=>(l.seg _).words _
  refine⟨?_,a.typ_rng w,?_,?_,λv c=>?_,?_,λi d=>?_⟩
  ·show 0<=w % 8/\w % 8<8
   omega
  ·show aG (a.more w)
   unfold Mem.more hm
   have:=f (w / 8)
   split
   ·exact⟨by have:=this.1;omega,by have:=this;unfold aG at this;omega⟩
   ·decide
  ·show((aX a w).map (mR a L w)++(List.range (lc a w)).map (lW a w)).length<=1000000
   rw[List.length_append,List.length_map,List.length_map,List.length_range];omega
  ·have c:v∈(aX a w).map (mR a L w)++(List.range (lc a w)).map (lW a w):=c
   rcases List.mem_append.1 c with q | q
   ·obtain⟨p,g,rfl⟩:=List.mem_map.1 q
    exact rj (sW l w p g)
   ·obtain⟨j,m,rfl⟩:=List.mem_map.1 q
    unfold lW
    split
    ·exact f _
    ·decide
  ·show((aX a w).map (isF a L w)++(List.range (lc a w)).map (λ_=>(0:Int))).length<=1000000
   rw[List.length_append,List.length_map,List.length_map,List.length_range];omega
  ·have d:i∈(aX a w).map (isF a L w)++(List.range (lc a w)).map (λ_=>(0:Int)):=d
   rcases List.mem_append.1 d with q | q
   ·obtain⟨p,g,rfl⟩:=List.mem_map.1 q
    have:=wW a L w p
    omega
   ·obtain⟨j,m,rfl⟩:=List.mem_map.1 q
    omega
theorem kh.sl{A:zV}{p:zW}{q:Nat}{c:List iK}{T:List Nat}(O:kh A p c.length q c T)(hk: ∀k∈c,w6 (keyK k))(z:c.length<=1000000):SlOK 5 k9 maxLen A ⟨p,c.length,q,c⟩:=by
 have y:maxLen=9223372036854775807:=rfl
 refine⟨rfl,by show c.length<=maxLen;omega,O.own.le,λi d=>?_,λk h=>?_⟩
 ·obtain⟨a,t,_,u⟩:=O.own.elem (f:=iK.cells) (λ_=>rfl) (by decide) d
  exact⟨a,t,u⟩
 ·obtain⟨r,m,s,n,_⟩:=O.each k h
  have K:=hk k h
  have x:k.words.xs.length<=1000000:=K.wl
  have w:k.is.xs.length<=1000000:=K.il
  have o:=K.tag
  have e:=K.typ
  refine⟨tO ⟨by show _<=k.tag;have:0<=k.tag:=o.1;omega,by have:k.tag<8:=o.2;show k.tag<=_;omega⟩,tO ⟨by have:0<=k.type:=e.1;show _<=k.type;omega,by have:k.type<32:=e.2;show k.type<=_;omega⟩,lY K.more,⟨r,by omega,m.le,λi d=>?_,λv l=>lY (K.words v l)⟩,⟨s,by omega,n.le,λi d=>?_,λv l=>tO (by have:=K.is v l;omega)⟩⟩
  ·obtain⟨a,g,b⟩:=lI m.src d
   exact⟨a,g,⟨by rw[lS];exact b,trivial⟩⟩
  ·obtain⟨a,g,b⟩:=n.at (j:=i) (v:=vi k.is.xs[i]) (by unfold ivs;rw[List.getElem?_map,List.getElem?_eq_getElem d];rfl)
   exact⟨a,g,⟨by rw[lS,Nat.mul_one];exact b,trivial⟩⟩
theorem vX(j:bJ a){A:zV}{e:zW}{f:Nat}{c:List iK}{T:List Nat}{b L:List Int}(O:kh A e c.length f c T)(hk:c.map keyK=picL a b L)(i: ∀w∈b,aG w)(d:b.length<=1000000)(g:L.length<=524288):SlOK 5 k9 maxLen A ⟨e,c.length,f,c⟩:=by
 refine O.sl (λk h=>vV j i d g _ ?_) ?_
 ·rw[<-hk];exact List.mem_map_of_mem h
 ·have:=congrArg List.length hk
  rw[List.length_map]at this
  unfold picL at this
  rw[List.length_cons,List.length_map]at this
  omega
