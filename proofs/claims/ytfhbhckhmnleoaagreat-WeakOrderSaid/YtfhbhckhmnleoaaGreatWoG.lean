/-
 What a trace with one guarded thing leaves, or with none: the end. Proves nothing of any one statement.
-/
import Derived.Test.YtfhbhckhmnleoaaGreatWbC
set_option linter.unusedVariables false
set_option linter.unusedSimpArgs false
namespace Go.Proofs.YtfhbhckhmnleoaaGreat
open Go
theorem fV.at'{m:Mem}{a:Int}{l:List (Int×Int)}(h:fV m a l){e:Int×Int}(b:e∈l): ∃d,Pr m e.1 a e.2 d:=by
 obtain⟨f,g,c⟩:=List.append_of_mem b
 exact⟨_,h.mem f g e c⟩
theorem Pr.isTag{m:Mem}{w b a d:Int}(h:Pr m w b a d):isTag w:=by
 have:=h.at'.2.1;have:=h.istag;unfold Go.Proofs.YtfhbhckhmnleoaaGreat.isTag;omega
theorem WbAt.heads{m:Mem}{d:Int->Nat}{p b:Int}{f a:List (Int×Int)}(A:WbAt m d p b f a): ∀w∈[aW a,b],aC w/\Good m d w:=λw c=>by
 simp only[List.mem_cons,List.not_mem_nil,or_false]at c
 rcases c with rfl | rfl
 ·cases a with
  | nil=>exact⟨by decide,by decide,λh=>absurd h (by decide)⟩
  | cons e l=>exact⟨A.wk.1.word,A.wkg e (by simp)⟩
 ·exact⟨A.gr.word,A.gg⟩
variable{a:Mem}
def OldT(O:Nat->Bool)(T:Int)(m:Mem):Prop:= ∀k:Nat,k<m.limit->(m.seg k).taken≠0->O k=true\/(m.seg k).gen=T
section
variable {O:Nat->Bool} {T:Int}
theorem OldT.same{b:Mem}(h:OldT O T a)(hm:aS a b):OldT O T b:=λk c hk=>by
 rw[(hm.seg k).1];exact h k (by rw[<-hm.limit];exact c) (by rw[<-(hm.seg k).2.2.2.1];exact hk)
theorem OldT.alloc{s:Sp}(h:OldT O T s.mem)(f:SpOK s){k n:Int}(d:(s.alloc T k n).2.2=0):OldT O T (s.alloc T k n).1.mem:=λj c b=>by
 obtain⟨_,a⟩:=Sp.alloc_ok f d
 rw[a.limit]at c
 by_cases e:j=((s.alloc T k n).2.1 / 64).toNat
 ·right;rw[e];exact a.new.2.1
 ·rw[a.others j e]at b⊢;exact h j c b
theorem OldT.visit{s:Sp}(h:OldT O T s.mem)(b:SpOK s)(w:Int):OldT O T (s.visit O T w).1.mem:=by
 unfold Sp.visit
 split
 ·exact h
 split
 ·exact h
 split
 ·exact h
 split
 ·rename_i a
  exact(h.alloc b a).same ((aS.sets _ _ _).trans (aS.set _ _ _))
 ·exact h
theorem OldT.lookAt{s:Sp}(h:OldT O T s.mem)(b:SpOK s)(a:Int):OldT O T (s.lookAt O T a).mem:=(h.visit b _).same (aS.wr _ _ _)
def OT(O:Nat->Bool)(T:Int)(s:Sp):Prop:=SpOK s/\OldT O T s.mem
theorem OT.look{s:Sp}(h:OT O T s)(seg kind lo:Int): ∀n,OT O T (s.look O T seg kind lo n)
 | 0=>h
 | n+1=>by
  have a:=OT.look h seg kind lo n
  unfold Sp.look
  split
  ·exact⟨Sp.lookAt_ok a.1,a.2.lookAt a.1 _⟩
  ·exact a
theorem OT.drains{a b:Sp}{e f:List (Int×Value)}(h:OT O T a)(c:cJ O T a e b f):OT O T b:=by
 induction c with
 | refl=>exact h
 | step k c _ _ _ _ d=>exact d.look _ _ _ _
theorem OT.visit{s:Sp}(h:OT O T s){w:Int}(a:aC w):OT O T (s.visit O T w).1:=⟨Sp.visit_ok h.1 a (λ_=>trivial),h.2.visit h.1 w⟩
theorem OldT.store{m:Mem}(h:OldT O T m)(a w:Int):OldT O T (m.store a w).1:=λk b hk=>by
 rw[Mem.store_taken]at hk
 rw[Mem.store_lim.1]at b
 rw[(Mem.store_seg k).1];exact h k b hk
theorem OldT.queued(h:OldT O T a)(g p:Int):OldT O T (a.queued g p):=by
 have c: ∀{a:Mem} (w i v:Int),OldT O T a->OldT O T (a.hset w i v):=λw i v h=>by
  unfold Mem.hset;split
  ·exact h.store _ _
  ·exact h
 have b: ∀{a:Mem} (w k i v:Int),OldT O T a->OldT O T (a.fset w k i v):=λw k i v h=>by
  unfold Mem.fset;split
  ·exact h.store _ _
  ·exact h
 unfold Mem.queued
 split
 ·exact b _ _ _ _ (c _ _ _ h)
 ·exact b _ _ _ _ (b _ _ _ _ (c _ _ _ h))
theorem OldT.putsG{s:Sp}(h:OldT O T s.mem)(d:SpOK s)(g b:Int):OldT O T (s.putsG T g b).mem:=by
 have a:OldT O T (s.putT T b 20).1.mem:=by
  unfold Sp.putT
  split
  ·rename_i c
   exact(h.alloc d c).same (aS.sets _ _ _)
  ·exact h
 unfold Sp.putsG
 split
 ·split
  ·exact a
  ·exact a.queued _ _
 ·exact h
theorem OT.visL{s:Sp}(h:OT O T s): ∀l:List Int,(∀w∈l,aC w)->OT O T (s.visL O T l).1:=λl b=>by
 have key: ∀(l:List Int) (a:Sp×List Int),(∀w∈l,aC w)->OT O T a.1->OT O T (l.foldl (λa w=>((a.1.visit O T w).1,a.2++[(a.1.visit O T w).2])) a).1:=λl=>by
  induction l with
  | nil=>intro a _ h;exact h
  | cons w l d=>intro a b h;exact d _ (λv c=>b v (List.mem_cons_of_mem _ c)) (h.visit (b w (by simp)))
 exact key l (s,[]) b h
theorem OT.rdy{s d:Sp}{u n:List (Int×Value)}{l:List (Int×Int)}{lost a:List Int}(h:OT O T s)(r: ∀e∈l,aC e.1/\aC e.2)(R:Rdy O T l s u lost d n a):OT O T d:=by
 induction R with
 | refl=>exact h
 | @step y d x n c i e R q t w v o p m=>
  obtain⟨f,j⟩:=r e (List.mem_of_getElem? q)
  have k:=m.visit f
  have b:=k.visit j
  refine OT.drains ?_ o
  unfold jX
  exact⟨nl b.1 (by decide) _ _ (Sp.visit_word k.1 j) (Sp.visit_word m.1 f),b.2.putsG b.1 _ _⟩
theorem OldT.ended{Z:TZ}{tr:Tr}{s:Sp}(h:OldT Z.O T s.mem)(E:Ended Z tr s a)(f:a.limit<=1024){k:Nat}(hk:k<a.limit)(c:(a.seg k).taken≠0):(a.seg k).gen=T:=by
 cases b:Z.O k with
 | true=>exact absurd (E.gone k (by omega) b) c
 | false=>
  obtain⟨d,_,_,e,_⟩:=E.seg k b
  rw[e]at c
  rw[d]
  rcases h k (by rw[<-E.limit];exact hk) c with q | q
  ·rw[b]at q;cases q
  ·exact q
end
theorem ol(d:aV a):(List.range a.limit).countP (λk=>decide (0< (a.seg k).taken))+a.nfree=a.limit:=by
 unfold Mem.nfree
 rw[<-fY]
 ·have e:(List.range a.limit).countP (λk=>decide (0< (a.seg k).taken) || ((a.seg k).taken==0))=(List.range a.limit).length:=List.countP_eq_length.2 (λk _=>by
   have:0<=(a.seg k).taken:=(d.seg k).taken
   simp only[Bool.or_eq_true,decide_eq_true_eq,beq_iff_eq];omega)
  rw[e,List.length_range]
 ·intro k _ b c
  simp only[decide_eq_true_eq,beq_iff_eq]at b c
  omega
section
variable {Z:TZ} {g F0:Int} {fw:Int->Option Int} {al:List Int} {s3 s4 s5:Sp} {sz:Int->Nat} {tr:Tr} {s0:Sp}
theorem gp.free(C:gp Z s0 g tr fw al sz s3 s4 s5)(o: ∀k:Nat,k<Z.m.limit->(Z.m.seg k).taken≠0->Z.O k=true)(A:Z.m.free=s0.mem.free):(s0.mem.limit:Int)=Z.m.limit->s0.mem.limit-(s0.mem.free-s3.mem.free)<=s5.mem.free:=λn=>by
 have t:=C.t
 have S:=t.S
 have d:=S.ok.lim
 have f:s3.mem.limit=Z.m.limit:=t.tri.heads.limit
 have i:s5.mem.limit=Z.m.limit:=t.ended.limit.trans (t.broke.same.limit.trans f)
 have c: ∀k<Z.m.limit,(Z.m.seg k).taken≠0->(s3.mem.seg k).taken≠0:=λk hk a=>by
  have:=(t.tri.heads.seg k a).2.2.1
  rw[this];exact a
 have l:(List.range s5.mem.limit).countP (λk=>decide (0< (s5.mem.seg k).taken))<=(List.range Z.m.limit).countP λk=>decide (0< (s3.mem.seg k).taken) && decide ((Z.m.seg k).taken=0):=by
  rw[i]
  refine l6 _ λk hk h=>?_
  rw[List.mem_range]at hk
  rw[decide_eq_true_eq]at h
  have e:Z.O k=false:=by
   cases q:Z.O k with
   | false=>rfl
   | true=>
    have y:(s5.mem.seg k).taken=0:=t.ended.gone k (by omega) q
    omega
  have j:(s5.mem.seg k).taken=(s3.mem.seg k).taken:=(t.ended.seg k e).2.2.2.1.trans (t.broke.same.seg k).2.2.2.1
  rw[Bool.and_eq_true,decide_eq_true_eq,decide_eq_true_eq]
  refine⟨by rw[<-j];exact h,?_⟩
  by_cases a:(Z.m.seg k).taken=0
  ·exact a
  ·have:=o k hk a
   rw[e]at this;cases this
 have z:((List.range Z.m.limit).countP λk=>decide (0< (s3.mem.seg k).taken) && decide ((Z.m.seg k).taken=0))+(List.range Z.m.limit).countP (λk=>decide (0< (Z.m.seg k).taken))=(List.range Z.m.limit).countP λk=>decide (0< (s3.mem.seg k).taken):=by
  rw[<-fY]
  ·refine List.countP_congr λk b=>?_
   rw[List.mem_range]at b
   have E:0<=(Z.m.seg k).taken:=(S.ok.seg k).taken
   have F:0<=(s3.mem.seg k).taken:=(t.tri.ok.mem.seg k).taken
   have B:=c k b
   simp only[Bool.or_eq_true,Bool.and_eq_true,decide_eq_true_eq]
   omega
  ·intro k _ s u
   simp only[Bool.and_eq_true,decide_eq_true_eq]at s u
   omega
 have D:=ol S.ok
 have p:=ol t.tri.ok.mem
 have r:=ol C.inv.ok.mem
 rw[f]at p
 rw[i]at r l
 have v:=S.ok.free
 have w:=t.tri.ok.mem.free
 have x:=C.inv.ok.mem.free
 omega
end
theorem Tri.free{Z:TZ}{g F0:Int}{fw:Int->Option Int}{al:List Int}{s:Sp}{sz:Int->Nat}(S:aO Z g F0)(t:Tri Z F0 fw al s sz)(n: ∀k:Nat,k<1024->Z.O k=Z.m.young g k):F0-(2*(Z.m.nyoung g:Int)+4+((Z.P.length / 32:Nat):Int))<=s.mem.free:=by
 obtain⟨c,a⟩:=t.cap
 have z:=og (Z:=Z) (g:=g) S.ok S.rng.1 n
 have q: ∀k:Nat,k<4->64*(c k:Int)<=128*(Z.yk k:Int)+64+(Z.pk k:Int):=λk hk=>by
  have v:=a.le k hk
  have w:=TZ.uk_le S.sound S.ok t.olds (k:Int)
  have x:=Sp.fill_rng t.ok Z.T k
  omega
 have b:=q 0 (by omega)
 have d:=q 1 (by omega)
 have e:=q 2 (by omega)
 have f:=q 3 (by omega)
 have y:=a.free
 have h:Z.yk ((0:Nat):Int)=Z.yk 0:=rfl
 have i:Z.yk ((1:Nat):Int)=Z.yk 1:=rfl
 have j:Z.yk ((2:Nat):Int)=Z.yk 2:=rfl
 have l:Z.yk ((3:Nat):Int)=Z.yk 3:=rfl
 rw[h]at b;rw[i]at d;rw[j]at e;rw[l]at f
 have o:Z.pk 0=2*Z.P.length:=rfl
 have p:Z.pk 1=0:=rfl
 have r:Z.pk 2=0:=rfl
 have u:Z.pk 3=0:=rfl
 rw[o]at b;rw[p]at d;rw[r]at e;rw[u]at f
 omega
structure Cell (m:Mem) (sz:Int->Nat) (x:Int×Int):Prop where
 pr:Pr m x.1 1 x.2 20
 good:Good m sz x.1
 num: ¬isTag x.2
structure WoAt (m:Mem) (sz:Int->Nat) (gn gd:Int) (L R A:List (Int×Int)) (es:List ((Int×Int)×Bool)):Prop where
 young: ∀k:Nat,k<m.limit->(m.seg k).taken≠0->(m.seg k).gen=gn
 gw:aC gd
 gg:Good m sz gd
 g3:gd % 8=3
 gh:hk (m.get (gd / 8))=10/\hn (m.get (gd / 8))=2
 f1:m.get (gd / 8+1)=aW L
 f2:m.get (gd / 8+2)=fH L
 q:fV m 1 L
 qg: ∀e∈L,Good m sz e.1
 qn:(L.map Prod.fst).Nodup
 qa:L.map Prod.snd=A.map Prod.fst
 r:fV m 1 R
 rg: ∀e∈R,Good m sz e.1
 ra: ∀e∈R,∃x∈es,x.2=true/\e.2=x.1.1
 ar: ∀x∈es,x.2=true-> ∃e∈R,e.2=x.1.1
 ca: ∀x∈A,Cell m sz x
 ce: ∀x∈es,Cell m sz x.1
 out: ∀x∈es,x.2=false->(∀e∈L,e.1≠x.1.1)/\(∀e∈R,e.1≠x.1.1)/\(∀a∈A,a.1≠x.1.1)/\ ∀y∈es,y.2=true->y.1.1≠x.1.1
def InW(L R A:List (Int×Int))(es:List ((Int×Int)×Bool))(al:Bool)(w:Int):Prop:=(∃e∈L,w=e.1)\/(∃e∈R,w=e.1)\/(∃a∈A,w=a.1)\/ ∃y∈es,(al=true\/y.2=true)/\w=y.1.1
theorem jL{l:List (Int×Int)}(h:isTag (aW l)): ∃e∈l,aW l=e.1:=by
 cases l with
 | nil=>exact absurd h (by decide)
 | cons e l=>exact⟨e,by simp,rfl⟩
theorem qe{l:List (Int×Int)}(h:isTag (fH l)): ∃e∈l,fH l=e.1:=by
 cases l with
 | nil=>exact absurd h (by decide)
 | cons e l=>exact gV e l
section
variable {m:Mem} {sz:Int->Nat} {gn gd:Int} {L R A:List (Int×Int)} {es:List ((Int×Int)×Bool)} {al:Bool}
theorem WoAt.inP(W:WoAt m sz gn gd L R A es){w:Int}(h:InW L R A es al w): ∃a d,Pr m w 1 a d/\Good m sz w/\(isTag a->InW L R A es al a)/\(isTag d->InW L R A es al d):=by
 rcases h with⟨e,b,rfl⟩ | ⟨e,b,rfl⟩ | ⟨x,n,rfl⟩ | ⟨y,z,B,rfl⟩
 ·obtain⟨o,p,j⟩:=List.append_of_mem b
  refine⟨_,_,W.q.mem o p e j,W.qg e b,λ_=>?_,λl=>?_⟩
  ·have:e.2∈L.map Prod.snd:=List.mem_map_of_mem b
   rw[W.qa]at this
   obtain⟨a,v,i⟩:=List.mem_map.1 this
   exact .inr (.inr (.inl ⟨a,v,i.symm⟩))
  ·obtain⟨f,k,i⟩:=jL l
   exact .inl ⟨f,by rw[j];exact List.mem_append_right _ (List.mem_cons_of_mem _ k),i⟩
 ·obtain⟨o,p,j⟩:=List.append_of_mem b
  refine⟨_,_,W.r.mem o p e j,W.rg e b,λ_=>?_,λl=>?_⟩
  ·obtain⟨x,n,t,u⟩:=W.ra e b
   exact .inr (.inr (.inr ⟨x,n,.inr t,u⟩))
  ·obtain⟨f,k,i⟩:=jL l
   exact .inr (.inl ⟨f,by rw[j];exact List.mem_append_right _ (List.mem_cons_of_mem _ k),i⟩)
 ·have c:=W.ca x n
  exact⟨_,_,c.pr,c.good,λh=>absurd h c.num,λh=>absurd h (by decide)⟩
 ·have c:=W.ce y z
  exact⟨_,_,c.pr,c.good,λh=>absurd h c.num,λh=>absurd h (by decide)⟩
theorem WoAt.size(W:WoAt m sz gn gd L R A es)(S:fD m sz)(e:aV m):sz (gd / 8)=3/\m.kAt (gd / 8)=2/\isTag gd:=by
 have b:isTag gd:=by have:=W.g3;unfold isTag;omega
 obtain⟨c,d⟩:=mI S e W.gw W.gg W.g3
 have a:m.kAt (gd / 8)=rawK (hk (m.get (gd / 8))):=c.1.2.2.2.1
 refine⟨?_,by rw[a,W.gh.1];rfl,b⟩
 rw[W.gh.2]at d
 omega
end
theorem Pr.sz2{m:Mem}{sz:Int->Nat}{w a d:Int}(S:fD m sz)(P:Pr m w 1 a d)(c:Good m sz w):sz (w / 8)=2/\m.kAt (w / 8)=0/\w % 8=1:=by
 have hk:m.kAt (w / 8)=1-1:=P.at'.2.2.2.1
 have b:w % 8=1:=P.at'.2.1
 exact⟨(S.two _ (c.2 P.isTag).1 (by omega)).1,by omega,b⟩
section
variable {Z:TZ} {g F0:Int} {gn gd:Int} {L R A:List (Int×Int)} {es:List ((Int×Int)×Bool)} {al:Bool}
theorem WoAt.allOld(W:WoAt Z.m Z.sz gn gd L R A es)(S:aO Z g F0)(b:gn<=g){k:Nat}(hk:k<Z.m.limit)(a:(Z.m.seg k).taken≠0):Z.O k=true:=by
 have c:=S.ok.lim
 refine(S.old k (by omega)).2 ⟨⟨by omega,by omega,by rw[show((k:Nat):Int).toNat=k by omega];exact a⟩,?_⟩
 rw[W.young k hk a];exact b
theorem WoAt.oldOf(W:WoAt Z.m Z.sz gn gd L R A es)(S:aO Z g F0)(a:gn<=g){x:Int}(b:Z.m.used x):Z.O (x / 64).toNat=true:=by
 have h:=b.2.1
 have c:=h.1
 have d:=h.2.1
 exact W.allOld S a (by omega) h.2.2
theorem WoAt.oldW(W:WoAt Z.m Z.sz gn gd L R A es)(S:aO Z g F0)(c:gn<=g){w:Int}(d:Good Z.m Z.sz w)(a:isTag w):aF Z.O w:=by
 have b:=(S.sound.used _ (d.2 a).1).1
 have e:=S.lt b
 unfold isTag at a
 exact⟨⟨by omega,by omega⟩,by omega,W.oldOf S c b⟩
theorem WoAt.reach(W:WoAt Z.m Z.sz gn gd L R A es)(S:aO Z g F0)(p:gn<=g)(o: ∀v,Z.V v->v=gd\/v=aW R\/(al=true/\ ∃x∈es,v=x.1.1)){a:Int}(h:Reach Z a):a=gd / 8\/ ∃w,InW L R A es al w/\a=w / 8:=by
 induction h with
 | root y b=>
  rcases o _ y with rfl | rfl | ⟨k,x,B,rfl⟩
  ·exact .inl rfl
  ·obtain⟨e,f,c⟩:=jL (iH b)
   exact .inr ⟨_,.inr (.inl ⟨e,f,rfl⟩),by rw[c]⟩
  ·exact .inr ⟨_,.inr (.inr (.inr ⟨x,B,.inl k,rfl⟩)),rfl⟩
 | older u hn r b=>rw[W.oldOf S p u]at hn;cases hn
 | @step a i h E r b C=>
  rcases C with rfl | ⟨w,z,rfl⟩
  ·obtain⟨I,F,t⟩:=W.size S.sound S.ok
   have:i=0\/i=1\/i=2:=by omega
   rcases this with rfl | rfl | rfl
   ·exfalso
    have D:=(S.sound.obj _ (W.gg.2 t).1 (by omega)).1.1
    have j:gd / 8+((0:Nat):Int)=gd / 8:=by simp
    rw[j]at b
    have:=b.1.1
    omega
   ·have c:gd / 8+((1:Nat):Int)=gd / 8+1:=rfl
    rw[c,W.f1]at b⊢
    obtain⟨e,f,c⟩:=jL (iH b)
    exact .inr ⟨_,.inl ⟨e,f,rfl⟩,by rw[c]⟩
   ·have c:gd / 8+((2:Nat):Int)=gd / 8+2:=rfl
    rw[c,W.f2]at b⊢
    obtain⟨e,f,c⟩:=qe (iH b)
    exact .inr ⟨_,.inl ⟨e,f,rfl⟩,by rw[c]⟩
  ·obtain⟨a,d,P,G,l,n⟩:=W.inP z
   obtain⟨H,-,-⟩:=P.sz2 S.sound G
   have:i=0\/i=1:=by omega
   rcases this with rfl | rfl
   ·have j:w / 8+((0:Nat):Int)=w / 8:=by simp
    rw[j,P.car]at b⊢
    exact .inr ⟨_,l (iH b),rfl⟩
   ·have c:w / 8+((1:Nat):Int)=w / 8+1:=rfl
    rw[c,P.cdr]at b⊢
    exact .inr ⟨_,n (iH b),rfl⟩
theorem WoAt.lost(W:WoAt Z.m Z.sz gn gd L R A es)(S:aO Z g F0)(n:gn<=g)(l: ∀v,Z.V v->v=gd\/v=aW R){x:(Int×Int)×Bool}(j:x∈es)(o:x.2=false): ¬Reach Z (x.1.1 / 8):=λh=>by
 obtain⟨r,t,u,y⟩:=W.out x j o
 have c:=W.ce x j
 obtain⟨-,z,C⟩:=c.pr.sz2 S.sound c.good
 rcases W.reach (al:=false) S n (λv p=>(l v p).elim .inl (λq=> .inr (.inl q))) h with e | ⟨w,i,e⟩
 ·have:=(W.size S.sound S.ok).2.1
  rw[<-e]at this;omega
 ·obtain⟨a,d,P,G,-,-⟩:=W.inP i
  obtain⟨-,-,B⟩:=P.sz2 S.sound G
  have e:w=x.1.1:=by omega
  rcases i with⟨f,b,q⟩ | ⟨f,b,q⟩ | ⟨f,b,q⟩ | ⟨f,b,k,q⟩
  ·exact r f b (by rw[<-q,e])
  ·exact t f b (by rw[<-q,e])
  ·exact u f b (by rw[<-q,e])
  ·exact y f b (k.resolve_left (by decide)) (by rw[<-q,e])
theorem WoAt.kinds(W:WoAt Z.m Z.sz gn gd L R A es)(S:aO Z g F0)(c:gn<=g)(b: ∀v,Z.V v->v=gd\/v=aW R\/ ∃x∈es,v=x.1.1){a:Int}(h:Reach Z a):Z.m.kAt a≠1:=by
 rcases W.reach (al:=true) S c (λv e=>(b v e).elim .inl (λq=> .inr (q.elim .inl (λq=> .inr ⟨rfl,q⟩)))) h with rfl | ⟨w,f,rfl⟩
 ·have:=(W.size S.sound S.ok).2.1;omega
 ·obtain⟨a,d,P,G,-,-⟩:=W.inP f
  have:=(P.sz2 S.sound G).2.1;omega
end
section
variable {M:Mem} {szM:Int->Nat} {O:Nat->Bool} {T g F0:Int} {V:Int->Prop} {q:Int->Option Int} {P:List Int} {fw:Int->Option Int} {al:List Int} {s:Sp} {sz:Int->Nat} {ks:List (Int×Value)}
theorem On.pr(h:On M szM O T g F0 V q P fw al s sz ks){w a d:Int}(R:Pr M w 1 a d)(x:Good M szM w)(y:aF O w)(t:Dn O fw w)(z: ∀b,fw (w / 8)=some b->q b=none/\q (b+1)=none):Dn O fw a/\Dn O fw d:=by
 obtain⟨b,k⟩:=t y
 obtain⟨D,E⟩:=z b k
 have S:=h.S
 obtain⟨F,p,G⟩:=R.sz2 S.sound x
 have j:=(h.tri.img _ _ k).2
 have f:=j.fit
 have c:TZ.sz ⟨M,szM,O,T,V,q,P⟩ (w / 8)=2:=F
 have p:M.kAt (w / 8)=0:=p
 rw[c]at f
 have u:b % 2=0:=j.even (by show M.kAt (w / 8)<=1;omega)
 have l:s.mem.kAt b=0:=by
  have:s.mem.kAt b=M.kAt (w / 8):=j.kind
  omega
 have r: ∀i:Nat,i<2-> ∀v,M.get (w / 8+i)=v->q (b+i)=none->Dn O fw v:=λi o v C n=>by
  have B:s.mem.used (b+i):=j.here i (by rw[c];exact o)
  have e:(b+(i:Int)) / 64=b / 64:=by omega
  have hk:s.mem.kAt (b+i)=0:=by unfold Mem.kAt at*;rw[e];exact l
  exact(h.fin _ B (by rw[e];exact j.out) ⟨by omega,.inl (by omega)⟩ v (.inr ⟨n,.inr ⟨w / 8,b,i,k,by rw[c];exact o,rfl,C.symm⟩⟩)).1
 refine⟨r 0 (by decide) a (by simpa using R.car) (by simpa using D),r 1 (by decide) d R.cdr E⟩
theorem On.row(h:On M szM O T g F0 V q P fw al s sz ks): ∀{l:List (Int×Int)},fV M 1 l->(∀e∈l,Good M szM e.1/\aF O e.1/\ ∀b,fw (e.1 / 8)=some b->q b=none/\q (b+1)=none)->Dn O fw (aW l)-> ∀e∈l,Dn O fw e.1/\Dn O fw e.2
 | [],_,_,_=>λe k=>by cases k
 | e::l,hr,hl,hd=>by
  obtain⟨f,i,j⟩:=hl e (by simp)
  obtain⟨c,d⟩:=h.pr hr.1 f i hd j
  intro x a
  rcases List.mem_cons.1 a with rfl | a
  ·exact⟨hd,c⟩
  ·exact On.row h hr.2 (λy n=>hl y (List.mem_cons_of_mem _ n)) d x a
end
def mk1(x:(Int×Int)×Bool):Int:=if x.2=true then 0 else 1
def mk2(x:(Int×Int)×Bool):Int:=if x.2=true then 0 else 2
def ents(gd:Int)(es:List ((Int×Int)×Bool)):List (Int×Int):=es.map λx=>(x.1.1,gd)
def dm(es:List ((Int×Int)×Bool)):List (Int×Int):=(es.filter λx=> !x.2).map (·.1)
theorem jZ(a b:List ((Int×Int)×Bool)):dm (a++b)=dm a++dm b:=by unfold dm;rw[List.filter_append,List.map_append]
theorem iJ{a:List ((Int×Int)×Bool)}(h: ∀x∈a,x.2=true):dm a=[]:=by
 unfold dm
 rw[List.filter_eq_nil_iff.2 (λx b=>by rw[h x b];decide)];rfl
theorem po{es:List ((Int×Int)×Bool)}{x:Int×Int}(h:x∈dm es): ∃y∈es,y.2=false/\x=y.1:=by
 unfold dm at h
 obtain⟨y,a,rfl⟩:=List.mem_map.1 h
 rw[List.mem_filter]at a
 exact⟨y,a.1,by simpa using a.2,rfl⟩
theorem j3(es:List ((Int×Int)×Bool)):(dm es).length<=es.length:=by
 unfold dm
 rw[List.length_map];exact List.length_filter_le _ _
structure QNew (m:Mem) (O:Nat->Bool) (fw:Int->Option Int) (gd:Int) (N L:List (Int×Int)) (q:Int->Option Int):Prop where
 f1:m.get (gd / 8+1)=aW L
 f2:m.get (gd / 8+2)=fH L
 el: ∀l1 e l2,L=l1++e::l2->m.get (e.1 / 8)=e.2/\m.get (e.1 / 8+1)=aW l2
 wd: ∀e∈L,e.1 % 8=1
 nd:(L.map Prod.fst).Nodup
 val:L.map Prod.snd=N.map λx=>Fw O fw x.1
 dn: ∀x∈N,Dn O fw x.1
 qn: ∀y,q y≠none->y=gd / 8+1\/y=gd / 8+2\/ ∃e∈L,y=e.1 / 8\/y=e.1 / 8+1
theorem pp{L:List (Int×Int)}{e:Int×Int}(a:e∈L)(n:Int×Int):aW (L++[n])=aW L:=by
 cases L with
 | nil=>cases a
 | cons x l=>rfl
section
variable {M:Mem} {szM:Int->Nat} {O:Nat->Bool} {T g F0:Int} {V:Int->Prop} {q:Int->Option Int} {P:List Int} {fw:Int->Option Int} {al:List Int} {s:Sp} {sz:Int->Nat} {ks:List (Int×Value)}
theorem On.gdAt(h:On M szM O T g F0 V q P fw al s sz ks){a:Int}(i:aC a)(f:Good M szM a)(u:a % 8=3)(m:hk (M.get (a / 8))=10/\hn (M.get (a / 8))=2)(x:aF O a)(v:Dn O fw a)(z: ∀b,fw (a / 8)=some b->s.mem.kAt b=2->q b=none):
  ∃b,fw (a / 8)=some b/\Fw O fw a=b*8+3/\GdAt ⟨M,szM,O,T,V,q,P⟩ s sz (b*8+3)/\s.mem.get b=M.get (a / 8):=by
 obtain⟨b,d⟩:=v x
 have S:=h.S
 have e:Fw O fw a=b*8+3:=by rw[eS x d,u]
 have t:aV M:=S.ok
 obtain⟨y,B⟩:=mI S.sound t i f u
 have r:(szM (a / 8):Int)=hn (M.get (a / 8))+1:=B
 have E:szM (a / 8)=3:=by rw[m.2]at r;omega
 have o:M.kAt (a / 8)=rawK (hk (M.get (a / 8))):=y.1.2.2.2.1
 have D:M.kAt (a / 8)=2:=by rw[o,m.1];rfl
 have l:=(h.tri.img _ _ d).2
 have w:=l.fit
 have A:s.mem.used b:=by simpa using l.here 0 (by show 0<szM (a / 8);omega)
 have p:s.mem.kAt b=2:=by
  have:s.mem.kAt b=M.kAt (a / 8):=l.kind
  omega
 have n:fu (M.get (a / 8)):=y.2.1
 have c:s.mem.get b=M.get (a / 8):=by
  have:=(h.fin b A l.out ⟨by omega,.inl (by omega)⟩ (M.get (a / 8)) (.inr ⟨z b d p,.inr ⟨a / 8,b,0,d,by show 0<szM (a / 8);omega,by simp,by simp⟩⟩)).2
  rw[this];exact eL (io n _)
 obtain⟨C,j,k⟩:=h.tri.goodFw S i f v
 have j:Good s.mem sz (Fw O fw a):=j
 have k: ¬aF O (Fw O fw a):=k
 rw[e]at j k
 exact⟨b,d,e,h.tri.gdAt S j k (by omega) (by rw[show(b*8+3) / 8=b by omega,c];exact m),c⟩
theorem On.queue(h:On M szM O T g F0 V q P fw al s sz ks){t o c:Int}{N L:List (Int×Int)}(Q:QNew s.mem O fw (Fw O fw t) N L q)(hP: ∀p,p∈P ↔ ∃e∈L,p=e.1 / 8)
  (aY:aC o) (aR:Good M szM o) (aX:isTag o) (a3:aC t) (a2:Good M szM t) (g3:t % 8=3) (gh:hk (M.get (t / 8))=10/\hn (M.get (t / 8))=2) (af:aF O t) (a1:Dn O fw t)
  (a5: ∀Z:TZ,Z.m=M->Z.O=O->2*((Z.yk 0:Int)+Z.yk 1+Z.yk 2+Z.yk 3)+8+(((P.length+1) / 32:Nat):Int)<=F0)
  {B:Sp} {a6:List (Int×Value)} (hd:cJ O T (jX O T s (o,t)) ks B a6) (av:eZ O T B a6):
  ∃q' P' j Y R L',On M szM O T g F0 (λv=>v=o\/V v) q' P' j Y B R a6/\Le fw j/\P'.length=P.length+1/\(∀p,p∈P' ↔ ∃e∈L',p=e.1 / 8)/\QNew B.mem O j (Fw O j t) (N++[(o,c)]) L' q':=by
 have pr: ∀e∈L,NewP ⟨M,szM,O,T,V,q,P⟩ s sz (e.1 / 8):=λe d=>h.tri.pair _ ((hP _).2 ⟨e,d,rfl⟩)
 have pk: ∀e∈L,s.mem.kAt (e.1 / 8)=0/\s.mem.kAt (e.1 / 8+1)=0/\e.1 / 8 % 2=0:=λe d=>by
  have n:=pr e d
  have ke:=n.kind
  have ev:=n.even
  refine⟨ke,?_,ev⟩
  unfold Mem.kAt at*
  rw[show(e.1 / 8+1) / 64=e.1 / 8 / 64 by omega];exact ke
 have b0: ∀e∈L,O (e.1 / 8 / 64).toNat=false/\O ((e.1 / 8+1) / 64).toNat=false:=λe d=>by
  have n:=pr e d
  have ev:=n.even
  have:=n.out
  exact⟨this,by rw[show(e.1 / 8+1) / 64=e.1 / 8 / 64 by omega];exact this⟩
 obtain⟨b,hb,eb,G,aw⟩:=h.gdAt a3 a2 g3 gh af a1 (λb hb hk=>Classical.byContradiction λhq=>by
  have e:Fw O fw t=b*8+3:=by rw[eS af hb,g3]
  rcases Q.qn b hq with r | r | ⟨x,k,r | r⟩
  ·rw[e]at r;omega
  ·rw[e]at r;omega
  ·have:=(pk x k).1;rw[<-r]at this;omega
  ·have:=(pk x k).2.1;rw[<-r]at this;omega)
 have C:(b*8+3) / 8=b:=by omega
 rw[eb]at Q
 have f1:=Q.f1
 have f2:=Q.f2
 rw[C]at f1 f2
 have hr:reachedB O s.mem t=true:=by
  have e:reachedB O s.mem t=dnB O fw t:=h.tri.reachedB h.S a3 a2
  rw[e];exact ip.2 a1
 obtain⟨q',P',j,Y,R,W⟩:=h.ready aY aR aX a3 a2 hr a5 hd av
 rcases W.how with⟨ai,_⟩ | ⟨bd,p,H,n1,n2,ae⟩
 ·rw[eb]at ai
  exact absurd (G.isObj h.tri).2 ai
 have ap:Fw O j t=b*8+3:=by rw[fQ a1 W.le,eb]
 have ON:=W.on
 have N2:NewP ⟨M,szM,O,T,λv=>v=o\/V v,q',P'⟩ B R p:=ON.tri.pair p (by rw[H];simp)
 have bq:=N2.used.1.1
 have br:=N2.even
 have gs: ∀i:Nat,i<3->s.mem.used (b+i)/\s.mem.kAt (b+i)=2/\O ((b+i) / 64).toNat=false:=λi hi=>by
  have u:=(G.used i hi).1
  have st:=G.strong (i:=i) hi
  rw[C]at u st
  exact⟨u,st.1,st.2.2⟩
 have g1:=gs 1 (by decide)
 have g2:=gs 2 (by decide)
 have c1:b+((1:Nat):Int)=b+1:=rfl
 have c2:b+((2:Nat):Int)=b+2:=rfl
 rw[c1]at g1
 rw[c2]at g2
 obtain⟨X,A⟩: ∃X,X=if jh (fH L)then fH L / 8+1 else b+1:=⟨_,rfl⟩
 have w: ∀x,(s.mem.used x/\O (x / 64).toNat=false)\/x=p\/x=p+1->B.mem.get x=if x=p then Fw O j o else if x=p+1 then 20 else if x=b+2 then p*8+1 else if x=X then p*8+1 else s.mem.get x:=λx k=>by
  rw[ae x k]
  unfold jJ
  rw[eb,C,f2,<-A]
 have K:(L=[]/\X=b+1)\/ ∃e∈L,fH L=e.1/\X=e.1 / 8+1:=by
  cases F:L with
  | nil=>
   left
   rw[F]at A
   exact⟨rfl,by rw[A];exact if_neg (by decide)⟩
  | cons e l=>
   right
   rw[F]at A
   obtain⟨x,k,I⟩:=gV e l
   refine⟨x,k,I,?_⟩
   have hw:=Q.wd x (by rw[F];exact k)
   rw[A,I,if_pos (.inl hw)]
 have J: ∀x,s.mem.used x->O (x / 64).toNat=false->B.mem.get x=if x=b+2 then p*8+1 else if x=X then p*8+1 else s.mem.get x:=λx hu ho=>by
  rw[w x (.inl ⟨hu,ho⟩),if_neg (show ¬x=p from λe=>n1 (by rw[<-e];exact hu)),if_neg (show ¬x=p+1 from λe=>n2 (by rw[<-e];exact hu))]
 have old: ∀x,s.mem.used x->O (x / 64).toNat=false->x≠b+2->x≠X->B.mem.get x=s.mem.get x:=λx hu ho E I=>by
  rw[J x hu ho,if_neg E,if_neg I]
 have b1: ∀y,q' y≠none->y=b+1\/y=b+2\/ ∃e∈L++[(p*8+1,Fw O j o)],y=e.1 / 8\/y=e.1 / 8+1:=λy hy=>by
  have qn:=W.qn y hy
  rw[eb,C,f2,<-A]at qn
  rcases qn with r | ⟨p2,e,r⟩ | r | r
  ·rcases Q.qn y r with r | r | ⟨e,d,r⟩
   ·rw[C]at r;exact .inl r
   ·rw[C]at r;exact .inr (.inl r)
   ·exact .inr (.inr ⟨e,List.mem_append_left _ d,r⟩)
  ·have e:p=p2:=by rw[H]at e;exact(List.cons.inj e).1
   subst e
   exact .inr (.inr ⟨_,List.mem_append_right _ (List.mem_singleton.2 rfl),by
    rw[show(p*8+1) / 8=p by omega];exact r⟩)
  ·exact .inr (.inl r)
  ·rcases K with⟨_,e⟩ | ⟨x,k,_,e⟩
   ·exact .inl (r.trans e)
   ·exact .inr (.inr ⟨x,List.mem_append_left _ k,.inr (r.trans e)⟩)
 have D:(p*8+1) / 8=p:=by omega
 refine⟨q',P',j,Y,R,L++[(p*8+1,Fw O j o)],ON,W.le,by rw[H];rfl,λy=>?_,?_⟩
 ·rw[H,List.mem_cons,hP]
  constructor
  ·rintro(r | ⟨e,d,r⟩)
   ·exact⟨_,List.mem_append_right _ (List.mem_singleton.2 rfl),by rw[r,D]⟩
   ·exact⟨e,List.mem_append_left _ d,r⟩
  ·rintro⟨e,d,r⟩
   rcases List.mem_append.1 d with d | d
   ·exact .inr ⟨e,d,r⟩
   ·rw[List.mem_singleton.1 d,D]at r
    exact .inl r
 rw[ap]
 refine⟨?_,?_,λl1 e l2 I=>?_,λe d=>?_,?_,?_,λx k=>?_,λy hy=>?_⟩
 ·-- the first field
  rw[C]
  rcases K with⟨F,e⟩ | ⟨x,k,I,e⟩
  ·rw[J (b+1) g1.1 g1.2.2,if_neg (by omega),if_pos e.symm,F];rfl
  ·rw[old (b+1) g1.1 g1.2.2 (by omega) (λq=>by
    have:=(pk x k).2.1
    rw[<-e,<-q]at this;omega),f1,pp k]
 ·rw[C,J (b+2) g2.1 g2.2.2,if_pos rfl,iX];rfl
 ·-- the chain
  rcases List.eq_nil_or_concat l2 with rfl | ⟨U,z,rfl⟩
  ·obtain⟨h1,E⟩:=List.append_inj' I rfl
   have E:(p*8+1,Fw O j o)=e:=(List.cons.inj E).1
   subst E
   show B.mem.get ((p*8+1) / 8)=Fw O j o/\B.mem.get ((p*8+1) / 8+1)=20
   rw[D,w p (.inr (.inl rfl)),if_pos rfl,w (p+1) (.inr (.inr rfl)),if_neg (by omega),if_pos rfl]
   exact⟨rfl,rfl⟩
  ·rw[List.concat_eq_append]at I⊢
   have ax:L++[(p*8+1,Fw O j o)]=(l1++e::U)++[z]:=by rw[I];simp
   obtain⟨h1,E⟩:=List.append_inj' ax rfl
   have E:(p*8+1,Fw O j o)=z:=(List.cons.inj E).1
   subst E
   have d:e∈L:=by rw[h1];simp
   obtain⟨q1,q2⟩:=Q.el l1 e U h1
   have n:=pr e d
   obtain⟨k1,k2,k3⟩:=pk e d
   obtain⟨o1,o2⟩:=b0 e d
   have xo:X≠e.1 / 8:=λr=>by
    rcases K with⟨F,_⟩ | ⟨x,k,_,e2⟩
    ·rw[F]at d;cases d
    ·have:=(pk x k).2.2
     omega
   refine⟨by rw[old _ n.used.1 o1 (λr=>by have:=g2.2.1;rw[<-r]at this;omega) (λr=>xo r.symm)];exact q1,?_⟩
   rcases K with⟨F,_⟩ | ⟨x,k,ag,e2⟩
   ·rw[F]at d;cases d
   cases U with
   | nil=>
    have:fH L=e.1:=by rw[h1,iX];rfl
    have ex:x.1=e.1:=ag.symm.trans this
    rw[J _ n.used.2 o2,if_neg (λr=>by have:=g2.2.1;rw[<-r]at this;omega),if_pos (by rw[e2,ex])];rfl
   | cons f U=>
    have bp:x.1≠e.1:=λr=>by
     have a4:fH L=fH (f::U):=by
      rw[h1,show l1++e::f::U=(l1++[e])++f::U by simp,iX]
     obtain⟨y,hy,ay⟩:=gV f U
     have ah:=Q.nd
     rw[h1,List.map_append,List.map_cons]at ah
     have:=(List.nodup_append.1 ah).2.1
     rw[List.nodup_cons]at this
     exact this.1 (by rw[<-r,<-ag,a4,ay];exact List.mem_map_of_mem hy)
    have w1:=Q.wd e d
    have w2:=Q.wd x k
    rw[old _ n.used.2 o2 (λr=>by have:=g2.2.1;rw[<-r]at this;omega) (λr=>by omega),q2];rfl
 ·rcases List.mem_append.1 d with d | d
  ·exact Q.wd e d
  ·rw[List.mem_singleton.1 d];show(p*8+1) % 8=1;omega
 ·rw[List.map_append,List.nodup_append]
  refine⟨Q.nd,by simp,λa ha b' a0=>?_⟩
  obtain⟨e,d,rfl⟩:=List.mem_map.1 ha
  have a0:b'=p*8+1:=by simpa using a0
  rw[a0]
  intro r
  have:=(pr e d).used.1
  rw[r,D]at this
  exact n1 this
 ·rw[List.map_append,List.map_append,Q.val]
  congr 1
  exact List.map_congr_left λx k=>(fQ (Q.dn x k) W.le).symm
 ·rcases List.mem_append.1 k with k | k
  ·exact(Q.dn x k).mono W.le
  ·rw[List.mem_singleton.1 k]
   exact ON.roots o (.inl rfl)
 ·rw[C];exact b1 y hy
end
theorem set_mid{α:Type}(b v:α)(c:List α): ∀a:List α,(a++b::c).set a.length v=a++v::c
 | []=>rfl
 | x::a=>by rw[List.cons_append,List.length_cons,List.set_cons_succ,set_mid b v c a];rfl
theorem mJ{t:List ((Int×Int)×Bool)}(h: ∀y∈t,y.2=true):t.map mk1=t.map mk2:=List.map_congr_left λy a=>by
 unfold mk1 mk2;rw[if_pos (h y a),if_pos (h y a)]
section
variable {M:Mem} {szM:Int->Nat} {O:Nat->Bool} {T g F0:Int} {V:Int->Prop} {q:Int->Option Int} {P:List Int} {fw:Int->Option Int} {al:List Int} {s:Sp} {sz:Int->Nat} {ks:List (Int×Value)}
theorem On.marks(h:On M szM O T g F0 V q P fw al s sz ks){f:Int}{a:List ((Int×Int)×Bool)}(b: ∀x∈a,Cell M szM x.1)(i: ∀x∈a,x.2=true ↔ Dn O fw x.1.1):fk O s.mem (ents f a)=a.map mk1:=by
 unfold fk ents
 rw[List.map_map]
 refine List.map_congr_left λx d=>?_
 have c:=b x d
 have e:reachedB O s.mem x.1.1=dnB O fw x.1.1:=h.tri.reachedB h.S c.pr.word c.good
 show(if reachedB O s.mem x.1.1=true then(0:Int)else 1)=mk1 x
 unfold mk1
 rw[e]
 exact gl (ip.trans (i x d).symm) _ _
theorem Rdy.many(h0:On M szM O T g F0 V q [] fw al s sz ks){o:Int}{z:List ((Int×Int)×Bool)}(a6:aC o)(a4:Good M szM o)(g3:o % 8=3)(gh:hk (M.get (o / 8))=10/\hn (M.get (o / 8))=2)(a5:aF O o)(a3:Dn O fw o)
  (Q0:QNew s.mem O fw (Fw O fw o) [] [] q) (Y: ∀x∈z,Cell M szM x.1) (B: ∀Z:TZ,Z.m=M->Z.O=O->2*((Z.yk 0:Int)+Z.yk 1+Z.yk 2+Z.yk 3)+8+((z.length / 32:Nat):Int)<=F0)
  {J:Sp} {k2:List (Int×Value)} {w:List Int} (R:Rdy O T (ents o z) s ks (z.map mk1) J k2 w):
  ∃n f N q' K A S ag L,z=n++f/\w=n.map mk2++f.map mk1/\On M szM O T g F0 N q' K A S J ag k2/\Le fw A/\(∀v,V v->N v)/\(∀v,N v->V v\/ ∃x∈z,v=x.1.1)/\K.length=(dm n).length/\(∀p,p∈K ↔ ∃e∈L,p=e.1 / 8)/\QNew J.mem O A (Fw O A o) (dm n) L q':=by
 induction R with
 | refl=>exact⟨[],z,V,q,[],fw,al,sz,[],rfl,rfl,h0,Le.refl _,λv h=>h,λv h=> .inl h,rfl,λp=>by simp,Q0⟩
 | @step s1 J k1 k2 ae i e R he l hr hf hd a0 ih=>
  obtain⟨n,f,V1,q1,P1,aw,av,b9,L1,u,d,h1,H,v1,v2,pl,hP,Q⟩:=ih
  have hi:n.length<=i:=by
   rcases Nat.lt_or_ge i n.length with r | r
   ·rw[d,List.getElem?_append_left (by rw[List.length_map];exact r),List.getElem?_map,List.getElem?_eq_getElem r]at l
    have h:=Option.some.inj l
    unfold mk2 at h
    split at h<;>omega
   ·exact r
  rw[d,List.getElem?_append_right (by rw[List.length_map];exact hi),List.length_map,List.getElem?_map]at l
  obtain⟨k,hk⟩: ∃k,i=n.length+k:=⟨i-n.length,by omega⟩
  subst hk
  rw[Nat.add_sub_cancel_left]at l
  have a7:k<f.length:=by
   rcases Nat.lt_or_ge k f.length with r | r
   ·exact r
   ·rw[List.getElem?_eq_none r]at l;cases l
  rw[List.getElem?_eq_getElem a7]at l
  have F:(f[k]).2=false:=by
   cases hb:(f[k]).2 with
   | false=>rfl
   | true=>
    have h:mk1 f[k]=1:=Option.some.inj l
    unfold mk1 at h
    rw[if_pos hb]at h
    exact absurd h (by decide)
  have a9:f=f.take k++f[k]::f.drop (k+1):=by rw[List.getElem_cons_drop];exact(List.take_append_drop k f).symm
  have aa:(f.take k).length=k:=by rw[List.length_take];omega
  generalize f[k]=x at*
  generalize f.take k=t at*
  generalize f.drop (k+1)=r at*
  subst a9
  subst aa
  have a2:e=(x.1.1,o):=by
   unfold ents at he
   rw[List.getElem?_map,u,List.getElem?_append_right (by omega),Nat.add_sub_cancel_left,List.getElem?_append_right (Nat.le_refl _),Nat.sub_self]at he
   exact(Option.some.inj he).symm
  subst a2
  have a8:reachedB O s1.mem o=true:=hr
  have D: ∀y∈t,y.2=true:=λy hy=>by
   obtain⟨j,I,rfl⟩:=List.getElem_of_mem hy
   refine Classical.byContradiction λhn=>hf (n.length+j) (by omega) ⟨(t[j].1.1,o),?_,?_,a8⟩
   ·unfold ents
    rw[List.getElem?_map,u,List.getElem?_append_right (by omega),Nat.add_sub_cancel_left,List.getElem?_append_left I,List.getElem?_eq_getElem I];rfl
   ·rw[d,List.getElem?_append_right (by rw[List.length_map];omega),List.length_map,Nat.add_sub_cancel_left,List.getElem?_map,List.getElem?_append_left I,List.getElem?_eq_getElem I]
    show some (mk1 t[j])=some 1
    unfold mk1
    rw[if_neg hn]
  have G:x∈z:=by rw[u];simp
  have c:=Y x G
  have hN:dm (n++t++[x])=dm n++[(x.1.1,x.1.2)]:=by
   rw[jZ,jZ,iJ D,List.append_nil]
   congr 1
   unfold dm
   rw[List.filter_cons_of_pos (by rw[F];rfl)];rfl
  have C:P1.length+1<=z.length:=by
   have:=j3 n
   rw[pl,u,List.length_append,List.length_append,List.length_cons];omega
  obtain⟨q2,P2,W,U,ah,L2,h2,ac,af,X,Q2⟩:=h1.queue (c:=x.1.2) Q hP c.pr.word c.good c.pr.isTag a6 a4 g3 gh a5 (a3.mono H) (λZ a b=>by
   have:=B Z a b
   have h3:(P1.length+1) / 32<=z.length / 32:=Nat.div_le_div_right C
   omega) hd a0
  refine⟨n++t++[x],r,_,q2,P2,W,U,ah,L2,by rw[u];simp,?_,h2,H.trans ac,λv E=> .inr (v1 v E),λv E=>?_,?_,X,?_⟩
  ·rw[d,List.map_append (l₁:=t),List.map_cons,<-List.append_assoc,show n.length+t.length=(n.map mk2++t.map mk1).length by simp,set_mid,mJ D,List.map_append,List.map_append,List.map_cons,List.map_nil,show mk2 x=2 by unfold mk2;rw[if_neg (by rw[F];decide)]]
   simp
  ·rcases E with rfl | E
   ·exact .inr ⟨x,G,rfl⟩
   ·exact v2 v E
  ·rw[hN,List.length_append,af,pl];rfl
  ·rw[hN];exact Q2
theorem Rdy.all(h0:On M szM O T g F0 V q [] fw al s sz ks){a:Int}{d:List ((Int×Int)×Bool)}(z:aC a)(w:Good M szM a)(X:a % 8=3)(Y:hk (M.get (a / 8))=10/\hn (M.get (a / 8))=2)(H:aF O a)(u:Dn O fw a)
  (W:QNew s.mem O fw (Fw O fw a) [] [] q) (F: ∀x∈d,Cell M szM x.1) (l: ∀Z:TZ,Z.m=M->Z.O=O->2*((Z.yk 0:Int)+Z.yk 1+Z.yk 2+Z.yk 3)+8+((d.length / 32:Nat):Int)<=F0)
  {o:Sp} {U:List (Int×Value)} {c:List Int} (R:Rdy O T (ents a d) s ks (d.map mk1) o U c) (hn: ∀i,i< (ents a d).length-> ¬Fit O o.mem (ents a d) c i):
  ∃t C r b k n L,c=d.map mk2/\On M szM O T g F0 t C r b k o n U/\Le fw b/\(∀v,V v->t v)/\(∀v,t v->V v\/ ∃x∈d,v=x.1.1)/\r.length<=(dm d).length/\(∀p,p∈r ↔ ∃e∈L,p=e.1 / 8)/\QNew o.mem O b (Fw O b a) (dm d) L C:=by
 obtain⟨J,D,t,C,r,b,k,n,L,h,f,E,B,v1,v2,pl,hP,Q⟩:=Rdy.many h0 z w X Y H u W F l R
 have G:reachedB O o.mem a=true:=by
  have e:reachedB O o.mem a=dnB O b a:=E.tri.reachedB E.S z w
  rw[e];exact ip.2 (u.mono B)
 have A: ∀y∈D,y.2=true:=λy hy=>by
  obtain⟨j,N,rfl⟩:=List.getElem_of_mem hy
  refine Classical.byContradiction λI=>hn (J.length+j) (by unfold ents;rw[List.length_map,h,List.length_append];omega) ⟨(D[j].1.1,a),?_,?_,G⟩
  ·unfold ents
   rw[List.getElem?_map,h,List.getElem?_append_right (by omega),Nat.add_sub_cancel_left,List.getElem?_eq_getElem N];rfl
  ·rw[f,List.getElem?_append_right (by rw[List.length_map];omega),List.length_map,Nat.add_sub_cancel_left,List.getElem?_map,List.getElem?_eq_getElem N]
   show some (mk1 D[j])=some 1
   unfold mk1
   rw[if_neg I]
 have K:dm d=dm J:=by rw[h,jZ,iJ A,List.append_nil]
 exact⟨t,C,r,b,k,n,L,by rw[f,mJ A,<-List.map_append,<-h],E,B,v1,v2,by rw[K,pl];exact Nat.le_refl _,hP,by rw[K];exact Q⟩
theorem Rdy.none{l:List (Int×Int)}{a:List Int}(h: ∀i:Nat,a[i]?≠some 1){e:Sp}{d:List (Int×Value)}{b:List Int}(R:Rdy O T l s ks a e d b):e=s/\d=ks/\b=a:=by
 induction R with
 | refl=>exact⟨rfl,rfl,rfl⟩
 | step R m c o n k f j=>
  rw[j.2.2]at c
  exact absurd c (h _)
def jM(O:Nat->Bool)(fw:Int->Option Int)(es:List ((Int×Int)×Bool)):List ((Int×Int)×Bool):=(es.filter (·.2)).map λx=>((Fw O fw x.1.1,x.1.2),true)
theorem qU{fw:Int->Option Int}{b:Int}(d:Dn O fw b){c:(Int×Int)×Bool->Int}(hm: ∀x,c x<2 ↔ x.2=true)(a:List ((Int×Int)×Bool)):outL O fw (ents b a) (a.map c)=ents (Fw O fw b) (jM O fw a):=by
 unfold outL ents jM
 have f: ∀a:List ((Int×Int)×Bool),((a.map λx=>(x.1.1,b)).zip (a.map c))=a.map λx=>((x.1.1,b),c x):=λa=>by
  induction a with
  | nil=>rfl
  | cons x l h=>rw[List.map_cons,List.map_cons,List.zip_cons_cons,h];rfl
 rw[f,List.filter_map,List.map_map,List.map_map]
 congr 1
 refine List.filter_congr λx _=>?_
 show(decide (c x<2) && dnB O fw b)=x.2
 rw[ip.2 d,Bool.and_true]
 cases e:x.2 with
 | true=>exact zX ((hm x).2 e)
 | false=>exact zQ (λq=>by rw[(hm x).1 q]at e;cases e)
end
theorem ny{m:Mem}{a:Int}: ∀{L:List (Int×Int)},(∀c e b,L=c++e::b->Pr m e.1 a e.2 (aW b))->fV m a L
 | [],_=>trivial
 | e::l,h=>⟨h [] e l rfl,ny λc x b q=>h (e::c) x b (by rw[q];rfl)⟩
theorem lA{O:Nat->Bool}{fw:Int->Option Int}(c:Int×Int->Int)(L:List (Int×Int)):aW (L.map λe=>(Fw O fw e.1,c e))=Fw O fw (aW L):=by
 cases L with
 | nil=>exact mj.symm
 | cons e l=>rfl
theorem nz{O:Nat->Bool}{fw:Int->Option Int}(c:Int×Int->Int): ∀L:List (Int×Int),fH (L.map λe=>(Fw O fw e.1,c e))=Fw O fw (fH L)
 | []=>mj.symm
 | [e]=>rfl
 | e::f::l=>nz c (f::l)
section
variable {Z:TZ} {s0:Sp} {g:Int} {tr:Tr} {fw:Int->Option Int} {al:List Int} {sz:Int->Nat} {s3 s4 s5:Sp}
theorem Tri.ends0(S:aO Z g s0.mem.free)(b:Tri Z s0.mem.free fw al s3 sz)(hm:ii Z.m)(B:eR Z.m g Z.T tr)(o:tr.old=Z.O)(j:Fin Z fw s3)(a: ∀v,Z.V v->Dn Z.O fw v)(f: ∀x,s3.mem.used x->Z.O (x / 64).toNat=false->s3.mem.kAt x≠1):gp Z s0 g tr fw al sz s3 s3 (s3.ended tr):=by
 have c:mD Z fw s3 s3:=⟨⟨aS.refl _,rfl,b.ok,λ_ _ _ _=>rfl,λx n h hk _=>absurd hk (f x n h)⟩,λx v n h hk _ _=>absurd hk (f x n h),λ_ _ _=>rfl⟩
 have e: ∀k:Nat,k<1024->Z.O k=true->s3.mem.has k:=λk hk h=>b.heads.has ((S.old k hk).1 h).1
 obtain⟨l,i⟩:=Sp.ended_spec (Z:=Z) (tr:=tr) o b.ok e
 have d:=oe b.ok b.even tr
 have t:du Z g s0.mem.free fw al sz tr s3 s3 (s3.ended tr).mem:=⟨S,b,j,a,c.toBroke,l,B,hm⟩
 exact⟨t,c,⟨i,d,t.sound,t.marks⟩⟩
theorem gp.cell(C:gp Z s0 g tr fw al sz s3 s4 s5){x:Int×Int}(c:Cell Z.m Z.sz x)(e:aF Z.O x.1)(a:Dn Z.O fw x.1)(f: ∀b,fw (x.1 / 8)=some b->Z.q b=none/\Z.q (b+1)=none):Cell s5.mem (szE Z.O sz) (Fw Z.O fw x.1,x.2):=by
 obtain⟨P,_,_⟩:=C.pr c.pr c.good e a f
 have d:cV Z.O fw 1 x.2=x.2:=by
  unfold cV
  rw[if_neg (λq=>absurd q.1 (by decide))]
  exact eL (λo=>c.num (iH o))
 rw[d,mj]at P
 exact⟨P,(C.t.good c.pr.word c.good a).1,c.num⟩
theorem gp.gdh(C:gp Z s0 g tr fw al sz s3 s4 s5){w b:Int}(j:aC w)(f:Good Z.m Z.sz w)(u:w % 8=3)(o:hk (Z.m.get (w / 8))=10/\hn (Z.m.get (w / 8))=2)(B:aF Z.O w)(c:fw (w / 8)=some b)(D:Z.q b=none):
  Fw Z.O fw w=b*8+3/\aC (b*8+3)/\Good s5.mem (szE Z.O sz) (b*8+3)/\s5.mem.get b=Z.m.get (w / 8)/\ ∀i:Nat,i<3->s3.mem.used (b+i)/\Z.O ((b+i) / 64).toNat=false/\s3.mem.kAt (b+i)=2/\(Z.q (b+i)=none->s5.mem.get (b+i)=Fw Z.O fw (Z.m.get (w / 8+i))):=by
 have S:=C.t.S
 have H:isTag w:=by unfold isTag;omega
 have e:Fw Z.O fw w=b*8+3:=by rw[eS B c,u]
 have v:Dn Z.O fw w:=λ_=>⟨b,c⟩
 obtain⟨x,F⟩:=mI S.sound S.ok j f u
 have k:Z.sz (w / 8)=3:=by rw[o.2]at F;omega
 have A:Z.m.kAt (w / 8)=2:=by
  have:Z.m.kAt (w / 8)=rawK (hk (Z.m.get (w / 8))):=x.1.2.2.2.1
  rw[this,o.1];rfl
 have d:=(C.t.tri.img _ _ c).2
 have a:=d.fit
 rw[k]at a
 have y: ∀i:Nat,i<3->s3.mem.used (b+i)/\Z.O ((b+i) / 64).toNat=false/\s3.mem.kAt (b+i)=2/\(Z.q (b+i)=none->s5.mem.get (b+i)=Fw Z.O fw (Z.m.get (w / 8+i))):=λi G=>by
  have E:=d.here i (by omega)
  have l:(b+(i:Int)) / 64=b / 64:=by omega
  have h:s3.mem.kAt (b+i)=2:=by
   have:=d.kind
   unfold Mem.kAt at*
   rw[l];omega
  refine⟨E,by rw[l];exact d.out,h,λq=>?_⟩
  rcases C.t.get (.inr ⟨q,.inr ⟨w / 8,b,i,c,by omega,rfl,rfl⟩⟩:Was Z fw (b+i) (Z.m.get (w / 8+i)))with⟨z,_⟩ | ⟨_,r,_⟩
  ·rw[if_neg (by omega)]at z;exact z
  ·omega
 obtain⟨n,-,-⟩:=C.t.good j f v
 obtain⟨p,-,-⟩:=C.t.tri.goodFw S j f v
 have s:=(y 0 (by decide)).2.2.2 (by simpa using D)
 rw[show b+((0:Nat):Int)=b by simp,show w / 8+((0:Nat):Int)=w / 8 by simp,eL (io x.2.1 _)]at s
 rw[e]at n p
 exact⟨e,p,n,s,y⟩
theorem WoAt.after(C:gp Z s0 g tr fw al sz s3 s3 s5){p:Int}{L R A:List (Int×Int)}{u:List ((Int×Int)×Bool)}(W:WoAt Z.m Z.sz g p L R A u)(hO:OldT Z.O Z.T s3.mem)(hq: ∀a c,fw a=some c->Z.m.kAt a<=1->Z.q c=none/\Z.q (c+1)=none)(E: ∀b,fw (p / 8)=some b->Z.q b=none)(M:Dn Z.O fw p)(J:Dn Z.O fw (aW R))
  {L' A':List (Int×Int)} (U:s5.mem.get (Fw Z.O fw p / 8+1)=aW L') (V:s5.mem.get (Fw Z.O fw p / 8+2)=fH L') (q:fV s5.mem 1 L') (qg: ∀e∈L',Good s5.mem (szE Z.O sz) e.1) (qn:(L'.map Prod.fst).Nodup) (qa:L'.map Prod.snd=A'.map Prod.fst) (ca: ∀x∈A',Cell s5.mem (szE Z.O sz) x):
  WoAt s5.mem (szE Z.O sz) Z.T (Fw Z.O fw p) L' (R.map λe=>(Fw Z.O fw e.1,Fw Z.O fw e.2)) A' (jM Z.O fw u):=by
 have S:=C.t.S
 have j: ∀{w a d:Int},Pr Z.m w 1 a d->Good Z.m Z.sz w->aF Z.O w/\ ∀c,fw (w / 8)=some c->Z.q c=none/\Z.q (c+1)=none:=λP G=>by
  have k0:=(P.sz2 S.sound G).2.1
  exact⟨W.oldW S (Int.le_refl _) G P.isTag,λc hc=>hq _ c hc (by omega)⟩
 obtain⟨row,H⟩:=C.row W.r (λe l=>by
  obtain⟨d,P⟩:=W.r.at' l
  exact⟨W.rg e l,j P (W.rg e l)⟩) J
 have K: ∀e∈R,Dn Z.O fw e.2:=λe l=>by
  obtain⟨d,P⟩:=W.r.at' l
  obtain⟨o,v⟩:=j P (W.rg e l)
  exact(C.pr P (W.rg e l) o (H e l) v).2.2 rfl
 have N: ∀x∈u,x.2=true->Dn Z.O fw x.1.1:=λx f B=>by
  obtain⟨e,l,q⟩:=W.ar x f B
  rw[<-q];exact K e l
 obtain⟨-,-,Y⟩:=W.size S.sound S.ok
 have n:=W.oldW S (Int.le_refl _) W.gg Y
 obtain⟨b,I⟩:=M n
 obtain⟨e,gw,X,D,-⟩:=C.gdh W.gw W.gg W.g3 W.gh n I (E b I)
 have Q:(b*8+3) / 8=b:=by omega
 have s:(R.map λe=>(Fw Z.O fw e.1,cV Z.O fw 1 e.2))=R.map λe=>(Fw Z.O fw e.1,Fw Z.O fw e.2):=List.map_congr_left λe _=>by
  unfold cV;rw[if_neg (λq=>absurd q.1 (by decide))]
 rw[s]at row
 have i: ∀y∈jM Z.O fw u,∃x∈u,x.2=true/\y=((Fw Z.O fw x.1.1,x.1.2),true):=λy h=>by
  unfold jM at h
  obtain⟨x,f,rfl⟩:=List.mem_map.1 h
  rw[List.mem_filter]at f
  exact⟨x,f.1,f.2,rfl⟩
 refine⟨λk hk ht=>OldT.ended hO C.t.ended C.inv.ok.mem.lim.2 hk ht,by rw[e];exact gw,by rw[e];exact X,by rw[e];omega,by rw[e,Q,D];exact W.gh,U,V,q,qg,qn,qa,row,λy h=>?_,λy h=>?_,λy h B=>?_,ca,λy h=>?_,λy h B=>?_⟩
 ·obtain⟨x,f,rfl⟩:=List.mem_map.1 h
  obtain⟨d,P⟩:=W.r.at' f
  exact(C.t.good P.word (W.rg x f) (H x f)).1
 ·obtain⟨x,f,rfl⟩:=List.mem_map.1 h
  obtain⟨z,F,o,v⟩:=W.ra x f
  exact⟨((Fw Z.O fw z.1.1,z.1.2),true),List.mem_map.2 ⟨z,List.mem_filter.2 ⟨F,o⟩,rfl⟩,rfl,by rw[<-v]⟩
 ·obtain⟨x,f,o,rfl⟩:=i y h
  obtain⟨z,F,v⟩:=W.ar x f o
  exact⟨(Fw Z.O fw z.1,Fw Z.O fw z.2),List.mem_map.2 ⟨z,F,rfl⟩,by rw[<-v]⟩
 ·obtain⟨x,f,o,rfl⟩:=i y h
  have c:=W.ce x f
  obtain⟨o1,o2⟩:=j c.pr c.good
  exact C.cell c o1 (N x f o) o2
 ·obtain⟨x,f,o,rfl⟩:=i y h
  cases B
end
def qf(s0 s4 s5:Sp)(g T:Int)(A:List (Int×Int))(es:List ((Int×Int)×Bool))(vis:List Int)(out:Sp×List (Int×Int)):Prop:=
 ∃gd' L' R' A' es' sz',vis=[gd',aW R']/\out=(s4,ents gd' es')/\WoAt s5.mem sz' T gd' L' R' A' es'/\Inv s5 sz'/\(∀x∈es',x.2=true)/\A'.map Prod.snd=A.map Prod.snd++(dm es).map Prod.snd/\es'.map (λx=>x.1.2)=(es.filter (·.2)).map (λx=>x.1.2)/\(s0.mem.limit:Int)-(2*(s0.mem.nyoung g:Int)+4+(((dm es).length / 32:Nat):Int))<=s5.mem.free/\s5.mem.limit=s0.mem.limit
section
variable {s0:Sp} {sz0:Int->Nat} {g T more:Int} {tr:Tr} {gd:Int} {L R A:List (Int×Int)} {es:List ((Int×Int)×Bool)} {s3 s4:Sp} {ks k4:List (Int×Value)} {lost:List Int}
theorem nA(W:WoAt s0.mem sz0 g gd L R A es)(B:eR s0.mem g T tr):tr.cards=[]:=by
 obtain⟨l,b,e⟩:=B.cards
 rw[e]
 refine lz (λk hk=>?_) b
 have c:=hk.2.1
 have a:=hk.2.2
 rw[show((k:Nat):Int).toNat=k by omega]at a
 rw[W.young k (by omega) a];exact Int.le_refl _
theorem lD(W:WoAt s0.mem sz0 g gd L R A es): ∀w∈[gd,aW R],aC w/\Good s0.mem sz0 w:=λw a=>by
 simp only[List.mem_cons,List.not_mem_nil,or_false]at a
 rcases a with rfl | rfl
 ·exact⟨W.gw,W.gg⟩
 ·cases R with
  | nil=>exact⟨by decide,by decide,λh=>absurd h (by decide)⟩
  | cons e l=>exact⟨W.r.1.word,W.rg e (by simp)⟩
theorem nB(I:Inv s0 sz0)(W:WoAt s0.mem sz0 g gd L R A es)(y:0<=more)(z:dW s0 g T more=0)(B:eR s0.mem g T tr)
  (F:cJ tr.old T ((s0.fresh (bI g)).visL tr.old T [gd,aW R]).1 tr.seen s3 ks) (s:eZ tr.old T s3 ks):
  ∃i p D,On s0.mem sz0 tr.old T g s0.mem.free (· ∈[gd,aW R]) (λ_=>none) [] i p s3 D ks/\((s0.fresh (bI g)).visL tr.old T [gd,aW R]).2=[Fw tr.old i gd,Fw tr.old i (aW R)]/\(∀x∈es,x.2=true ↔ Dn tr.old i x.1.1)/\aF tr.old gd/\Dn tr.old i gd/\Dn tr.old i (aW R)/\OT tr.old T s3:=by
 have f:=nA W B
 have H:=lD W
 obtain⟨i,p,D,h,r,-⟩:=km I y z B H (by rw[f];exact F) s
 have S:=h.S
 have l:WoAt (TZ.m ⟨s0.mem,sz0,tr.old,T,(· ∈[gd,aW R]),λ_=>none,[]⟩) (TZ.sz ⟨s0.mem,sz0,tr.old,T,(· ∈[gd,aW R]),λ_=>none,[]⟩) g gd L R A es:=W
 have N: ∀v,v∈[gd,aW R]->v=gd\/v=aW R:=λv U=>by simpa using U
 have J:=h.roots gd (by simp)
 have E:=h.roots (aW R) (by simp)
 obtain⟨-,-,K⟩:=l.size S.sound S.ok
 have j: ∀{w a d:Int},Pr s0.mem w 1 a d->Good s0.mem sz0 w->aF tr.old w:=λP G=>l.oldW S (Int.le_refl _) G P.isTag
 have o:=h.row W.r (λe n=>by
  obtain⟨d,P⟩:=W.r.at' n
  exact⟨W.rg e n,j P (W.rg e n),λ_ _=>⟨rfl,rfl⟩⟩) E
 refine⟨i,p,D,h,r,λx C=>⟨λu=>?_,λt=>?_⟩,l.oldW S (Int.le_refl _) W.gg K,J,E,?_⟩
 ·obtain⟨e,n,q⟩:=W.ar x C u
  rw[<-q];exact(o e n).2
 ·cases u:x.2 with
  | true=>rfl
  | false=>
   have c:=W.ce x C
   obtain⟨b,O⟩:=t (j c.pr c.good)
   exact absurd (h.tri.reach _ _ O) (l.lost S (Int.le_refl _) N C u)
 ·have M:OT tr.old T (s0.fresh (bI g)):=⟨Sp.fresh_ok I.ok _,λk Q hk=> .inl (l.allOld S (Int.le_refl _) Q hk)⟩
  exact(M.visL _ (λw V=>(H w V).1)).drains F
theorem qV(W:WoAt s0.mem sz0 g gd L R A es){V:Int->Prop}{q:Int->Option Int}{P:List Int}{l:Int->Option Int}{k:List Int}{y:Int->Nat}
  (h:On s0.mem sz0 tr.old T g s0.mem.free V q P l k s4 y k4) (o: ∀v,V v->v=gd\/v=aW R\/ ∃x∈es,v=x.1.1) {x:Int} (t:s4.mem.used x) (r:tr.old (x / 64).toNat=false):s4.mem.kAt x≠1:=by
 have S:=h.S
 have d:WoAt (TZ.m ⟨s0.mem,sz0,tr.old,T,V,q,P⟩) (TZ.sz ⟨s0.mem,sz0,tr.old,T,V,q,P⟩) g gd L R A es:=W
 rcases h.tri.cover x t with w | ⟨a,b,i,f,z,n⟩ | ⟨p,s,u⟩
 ·have:=d.oldOf S (Int.le_refl _) w
  rw[show(TZ.O ⟨s0.mem,sz0,tr.old,T,V,q,P⟩)=tr.old from rfl,r]at this;cases this
 ·have j:=(h.tri.img a b f).2
  have C:=j.fit
  have hk:=j.kind
  have c:=d.kinds S (Int.le_refl _) o (h.tri.reach _ _ f)
  rw[<-hk]at c
  have e:s4.mem.kAt x=s4.mem.kAt b:=by unfold Mem.kAt;rw[n,show(b+(i:Int)) / 64=b / 64 by omega]
  rw[e];exact c
 ·have N:=h.tri.pair p s
  have hk:=N.kind
  have B:=N.even
  have e:s4.mem.kAt x=s4.mem.kAt p:=by
   unfold Mem.kAt
   rcases u with rfl | rfl
   ·rfl
   ·rw[show(p+1) / 64=p / 64 by omega]
  rw[e,hk];decide
theorem oQ(I:Inv s0 sz0)(W:WoAt s0.mem sz0 g gd L R A es)(B:eR s0.mem g T tr){V:Int->Prop}{q:Int->Option Int}{P:List Int}{b:Int->Option Int}{a:List Int}{c:Int->Nat}
  (h:On s0.mem sz0 tr.old T g s0.mem.free V q P b a s4 c k4) (d: ∀v,V v->v=gd\/v=aW R\/ ∃x∈es,v=x.1.1):
  gp ⟨s0.mem,sz0,tr.old,T,V,q,P⟩ s0 g tr b a c s4 s4 (s4.ended tr):=
 Tri.ends0 (s0:=s0) h.S h.tri I.marked B rfl h.fin h.roots (λx f e=>qV W h d f e)
theorem oR{Z:TZ}{j:Int->Nat}{c:Int->Option Int}{b:List Int}{a:Sp}(W:WoAt Z.m Z.sz g gd L R A es)(B:eR Z.m g T tr)(e:tr.old=Z.O)(C:gp Z s0 g tr c b j s4 s4 a)(hm:Z.m=s0.mem)(f:Z.P.length<=(dm es).length):
  (s0.mem.limit:Int)-(2*(s0.mem.nyoung g:Int)+4+(((dm es).length / 32:Nat):Int))<=a.mem.free/\a.mem.limit=s0.mem.limit:=by
 have i:a.mem.limit=s0.mem.limit:=by rw[<-hm];exact C.t.ended.limit.trans (C.t.broke.same.limit.trans C.t.tri.heads.limit)
 refine⟨?_,i⟩
 have l:=C.free (λk hk h=>W.allOld C.t.S (Int.le_refl _) hk h) (by rw[hm]) (by rw[hm])
 have d:=Tri.free C.t.S C.t.tri (by rw[<-e];exact B.old)
 rw[hm]at d
 have n:Z.P.length / 32<=(dm es).length / 32:=Nat.div_le_div_right f
 omega
theorem iY(W:WoAt s0.mem sz0 g gd L R A es): ∀e∈ents gd es,mi s0.mem sz0 e:=λe a=>by
 unfold ents at a
 obtain⟨x,b,rfl⟩:=List.mem_map.1 a
 have c:=W.ce x b
 exact⟨⟨c.pr.word,c.good⟩,W.gw,W.gg⟩
theorem rS(I:Inv s0 sz0)(W:WoAt s0.mem sz0 g gd L R A es)(b:((es.length / 32:Nat):Int)<=more)(c:dW s0 g T more=0)(B:eR s0.mem g T tr)
  (d:cJ tr.old T ((s0.fresh (bI g)).visL tr.old T [gd,aW R]).1 tr.seen s3 ks) (a:eZ tr.old T s3 ks)
  (Rd:Rdy tr.old T (ents gd es) s3 ks (fk tr.old s3.mem (ents gd es)) s4 k4 lost) (hn: ∀i,i< (ents gd es).length-> ¬Fit tr.old s4.mem (ents gd es) lost i):s4.cf=s0.cf:=by
 obtain⟨_,_,_,_,_,_,_,_,_,_,h,_⟩:=mG I (by unfold ents;rw[List.length_map];exact b) c B (lD W) (iY W) (by rw[nA W B];exact d) a Rd hn
 exact h
theorem qh(W:WoAt s0.mem sz0 g gd L R A es){V:Int->Prop}{q:Int->Option Int}{P:List Int}{a:Int->Option Int}{f:List Int}{m:Int->Nat}(h:On s0.mem sz0 tr.old T g s0.mem.free V q P a f s4 m k4)(j:Dn tr.old a gd)(k: ∀x∈es,x.2=true->Dn tr.old a x.1.1):
  outG tr.old T s4 (ents gd es) (es.map mk2)=(s4,ents (Fw tr.old a gd) (jM tr.old a es)):=by
 have l: ∀(i:Nat) (e:Int×Int) (v:Int),(ents gd es)[i]?=some e->(es.map mk2)[i]?=some v->v<2->Dn tr.old a e.2->Dn tr.old a e.1:=λi e v b c n _=>by
  unfold ents at b
  rw[List.getElem?_map]at b c
  cases d:es[i]? with
  | none=>rw[d]at b;cases b
  | some x=>
   rw[d]at b c
   cases b
   have c:mk2 x=v:=Option.some.inj c
   refine k x (List.mem_of_getElem? d) (Classical.byContradiction λhn=>?_)
   unfold mk2 at c
   rw[if_neg hn]at c;omega
 have hm: ∀x,mk2 x<2 ↔ x.2=true:=λx=>by
  unfold mk2
  cases x.2 with
  | true=>exact⟨λ_=>rfl,λ_=>by decide⟩
  | false=>exact⟨λh=>absurd h (by decide),λh=>by cases h⟩
 rw[qM h (iY W) l,qU j hm]
theorem iZ(O:Nat->Bool)(a:Int->Option Int)(es:List ((Int×Int)×Bool)):(jM O a es).map (λx=>x.1.2)=(es.filter (·.2)).map (λx=>x.1.2)/\ ∀x∈jM O a es,x.2=true:=by
 unfold jM
 refine⟨by rw[List.map_map];rfl,λx b=>?_⟩
 obtain⟨y,_,rfl⟩:=List.mem_map.1 b
 rfl
theorem qi(I:Inv s0 sz0)(W:WoAt s0.mem sz0 g gd [] R [] es)(al:((es.length / 32:Nat):Int)<=more)(ab:dW s0 g T more=0)(B:eR s0.mem g T tr)
  (hd:cJ tr.old T ((s0.fresh (bI g)).visL tr.old T [gd,aW R]).1 tr.seen s3 ks) (ak:eZ tr.old T s3 ks)
  (Rd:Rdy tr.old T (ents gd es) s3 ks (fk tr.old s3.mem (ents gd es)) s4 k4 lost) (hn: ∀i,i< (ents gd es).length-> ¬Fit tr.old s4.mem (ents gd es) lost i):
  qf s0 s4 (s4.ended tr) g T [] es ((s0.fresh (bI g)).visL tr.old T [gd,aW R]).2 (outG tr.old T s4 (ents gd es) lost):=by
 obtain⟨U,bc,bG,F,hv,H,l,k,a6,am⟩:=nB I W (by omega) ab B hd ak
 have an:=am.rdy (λe d=>⟨(iY W e d).1.1,(iY W e d).2.1⟩) Rd
 rw[F.marks W.ce H]at Rd
 obtain⟨b,hb,eb,G,bj⟩:=F.gdAt W.gw W.gg W.g3 W.gh l k (λ_ _ _=>rfl)
 have N:(b*8+3) / 8=b:=by omega
 have af:aV s0.mem:=F.S.ok
 have bp:sz0 (gd / 8)=3:=(W.size F.S.sound af).1
 have bk:s0.mem.kAt (gd / 8)=2:=(W.size F.S.sound af).2.1
 have br:=(F.tri.img _ _ hb).2
 have a9: ∀i:Nat,i<3->s3.mem.get (b+i)=Fw tr.old U (s0.mem.get (gd / 8+i)):=λi hi=>by
  have u:=(G.used i hi).1
  have st:=G.strong (i:=i) hi
  rw[N]at u st
  exact(F.fin _ u st.2.2 st.2.1 _ (.inr ⟨rfl,.inr ⟨gd / 8,b,i,hb,by show i<sz0 (gd / 8);omega,rfl,rfl⟩⟩)).2
 have Q0:QNew s3.mem tr.old U (Fw tr.old U gd) [] [] (λ_=>none):=by
  rw[eb]
  refine⟨?_,?_,λM e E K=>by simp at K,λe d=>(by cases d),List.nodup_nil,rfl,λx hx=>(by cases hx),λy hy=>absurd rfl hy⟩
  ·rw[N]
   have:=a9 1 (by decide)
   rw[show gd / 8+((1:Nat):Int)=gd / 8+1 from rfl,W.f1]at this
   rw[show b+1=b+((1:Nat):Int)from rfl,this];exact mj
  ·rw[N]
   have:=a9 2 (by decide)
   rw[show gd / 8+((2:Nat):Int)=gd / 8+2 from rfl,W.f2]at this
   rw[show b+2=b+((2:Nat):Int)from rfl,this];exact mj
 obtain⟨V,q,P,o,bb,sz,L',rfl,X,le,v1,v2,pl,hP,Q⟩:=Rdy.all F W.gw W.gg W.g3 W.gh l k Q0 W.ce (oP I al ab B) Rd hn
 have dg:=k.mono le
 have dR:=a6.mono le
 have dh: ∀x∈es,x.2=true->Dn tr.old o x.1.1:=λx hx hh=>((H x hx).1 hh).mono le
 have C:=oQ I W B X (λv hv=>by
  rcases v2 v hv with h | h
  ·simp only[List.mem_cons,List.not_mem_nil,or_false]at h
   rcases h with h | h
   ·exact .inl h
   ·exact .inr (.inl h)
  ·exact .inr (.inr h))
 obtain⟨a0,a8⟩:=oR (Z:=⟨s0.mem,sz0,tr.old,T,V,q,P⟩) W B rfl C rfl pl
 have S:=X.S
 have W':WoAt (TZ.m ⟨s0.mem,sz0,tr.old,T,V,q,P⟩) (TZ.sz ⟨s0.mem,sz0,tr.old,T,V,q,P⟩) g gd [] R [] es:=W
 have Y:o (gd / 8)=some b:=le _ _ hb
 have O:Fw tr.old o gd=b*8+3:=by rw[fQ k le,eb]
 rw[O]at Q
 have f1:=Q.f1
 have f2:=Q.f2
 rw[N]at f1 f2
 have pr: ∀e∈L',NewP ⟨s0.mem,sz0,tr.old,T,V,q,P⟩ s4 sz (e.1 / 8):=λe d=>X.tri.pair _ ((hP _).2 ⟨e,d,rfl⟩)
 have pk: ∀e∈L',s4.mem.kAt (e.1 / 8)=0/\s4.mem.kAt (e.1 / 8+1)=0/\e.1 / 8 % 2=0:=λe d=>by
  have n:=pr e d
  have ke:=n.kind
  have ev:=n.even
  refine⟨ke,?_,ev⟩
  unfold Mem.kAt at*
  rw[show(e.1 / 8+1) / 64=e.1 / 8 / 64 by omega];exact ke
 have im:=(X.tri.img _ _ Y).2
 have kb:s4.mem.kAt b=2:=by
  have:s4.mem.kAt b=s0.mem.kAt (gd / 8):=im.kind
  omega
 have a1: ∀y,q y≠none->y=b+1\/y=b+2\/ ∃e∈L',y=e.1 / 8\/y=e.1 / 8+1:=λy hy=>by
  have:=Q.qn y hy
  rw[N]at this;exact this
 have aa:q b=none:=Classical.byContradiction λD=>by
  rcases a1 b D with r | r | ⟨e,d,r | r⟩
  ·omega
  ·omega
  ·have:=(pk e d).1;rw[<-r]at this;omega
  ·have:=(pk e d).2.1;rw[<-r]at this;omega
 have gq: ∀b',o (gd / 8)=some b'->q b'=none:=λb' s=>by
  rw[Y]at s;cases s;exact aa
 have C0:gp ⟨s0.mem,sz0,tr.old,T,V,q,P⟩ s0 g tr o bb sz s4 s4 (s4.ended tr):=C
 obtain⟨-,-,-,-,j⟩:=C.gdh W.gw W.gg W.g3 W.gh l Y aa
 have av:s4.mem.kAt (b+1)=2:=(j 1 (by decide)).2.2.1
 have aw:s4.mem.kAt (b+2)=2:=(j 2 (by decide)).2.2.1
 have J: ∀a c,o a=some c->s0.mem.kAt a<=1->q c=none/\q (c+1)=none:=λa c hc hk=>by
  have ic:=(X.tri.img _ _ hc).2
  have ce:c % 2=0:=ic.even hk
  have kc:s4.mem.kAt c=s0.mem.kAt a:=ic.kind
  have ae:s4.mem.kAt (c+1)=s0.mem.kAt a:=by
   have:=ic.fit.2
   unfold Mem.kAt at*
   rw[show(c+1) / 64=c / 64 by omega];exact kc
  have D: ∀e∈L',c≠e.1 / 8:=λe d r=>X.tri.pim _ _ hc ((hP _).2 ⟨e,d,r⟩)
  constructor
  ·refine Classical.byContradiction λhq=>?_
   rcases a1 _ hq with r | r | ⟨e,d,r | r⟩
   ·rw[r]at kc;omega
   ·rw[r]at kc;omega
   ·exact D e d r
   ·have:=(pk e d).2.2;omega
  ·refine Classical.byContradiction λhq=>?_
   rcases a1 _ hq with r | r | ⟨e,d,r | r⟩
   ·rw[r]at ae;omega
   ·rw[r]at ae;omega
   ·have:=(pk e d).2.2;omega
   ·exact D e d (by omega)
 have f: ∀x,s4.mem.used x->tr.old (x / 64).toNat=false->(s4.mem.kAt x=2\/s4.mem.kAt x=0)->(s4.ended tr).mem.get x=s4.mem.get x:=λx hu ho hk=>C.stay hu ho (.inl (by omega))
 have ah:OldT tr.old T s4.mem:=an.2
 have a7: ∀M e E,L'=M++e::E->Pr (s4.ended tr).mem e.1 1 e.2 (aW E)/\Good (s4.ended tr).mem (szE tr.old sz) e.1:=λM e E K=>by
  have d:e∈L':=by rw[K];simp
  have n:=pr e d
  obtain⟨k1,k2,k3⟩:=pk e d
  obtain⟨q1,q2⟩:=Q.el M e E K
  obtain⟨p1,p2,p3,p4,p5,p6,p7⟩:=C.t.pair (p:=e.1 / 8) ((hP _).2 ⟨e,d,rfl⟩)
  have w:=Q.wd e d
  have o1:tr.old (e.1 / 8 / 64).toNat=false:=n.out
  have o2:tr.old ((e.1 / 8+1) / 64).toNat=false:=by rw[show(e.1 / 8+1) / 64=e.1 / 8 / 64 by omega];exact o1
  have G5:Good (s4.ended tr).mem (szE tr.old sz) e.1:=by
   refine⟨by omega,λ_=>⟨?_,?_⟩⟩
   ·have p1:szE tr.old sz (e.1 / 8)=2:=p1
    omega
   ·unfold tagK
    rw[if_pos p2];exact w
  have bl:=p4.2.1.2.1
  have b3:=C.inv.ok.mem.lim
  have h0:=p4.1
  have P:=rf C.inv.sound C.inv.ok.mem (w:=e.1) (tag:=1) ⟨by omega,by omega⟩ G5 (.inl rfl) w
  rw[f _ n.used.1 o1 (.inr k1),f _ n.used.2 o2 (.inr k2),q1,q2]at P
  exact⟨P,G5⟩
 have ca: ∀x∈(dm es).map (λx=>(Fw tr.old o x.1,x.2)),Cell (s4.ended tr).mem (szE tr.old sz) x:=λx hx=>by
  obtain⟨y,hy,rfl⟩:=List.mem_map.1 hx
  obtain⟨z,hz,_,rfl⟩:=po hy
  have c:=W.ce z hz
  have k0:s0.mem.kAt (z.1.1 / 8)=0:=(c.pr.sz2 S.sound c.good).2.1
  exact C.cell c (W'.oldW S (Int.le_refl _) c.good c.pr.isTag) (Q.dn _ hy) (λb' s=>J _ b' s (by omega))
 have WA:=WoAt.after C W' ah (λa c hc hk=>J a c hc hk) gq dg dR (L':=L') (A':=(dm es).map (λx=>(Fw tr.old o x.1,x.2)))
  (by
   show(s4.ended tr).mem.get (Fw tr.old o gd / 8+1)=_
   rw[O,N];exact(f (b+1) (j 1 (by decide)).1 (j 1 (by decide)).2.1 (.inl av)).trans f1)
  (by
   show(s4.ended tr).mem.get (Fw tr.old o gd / 8+2)=_
   rw[O,N];exact(f (b+2) (j 2 (by decide)).1 (j 2 (by decide)).2.1 (.inl aw)).trans f2)
  (ny λM e E K=>(a7 M e E K).1)
  (λe d=>by obtain⟨M,E,K⟩:=List.append_of_mem d;exact(a7 M e E K).2) Q.nd (by rw[Q.val,List.map_map];rfl) ca
 refine⟨_,_,_,_,_,_,?_,qh W X dg dh,WA,C.inv,(iZ _ _ _).2,by rw[List.map_map];rfl,(iZ _ _ _).1,a0,a8⟩
 rw[hv,lA,fQ k le,fQ a6 le]
theorem pq(I:Inv s0 sz0)(W:WoAt s0.mem sz0 g gd L R A es)(r: ∀x∈es,x.2=true)(am:((es.length / 32:Nat):Int)<=more)(a7:dW s0 g T more=0)(B:eR s0.mem g T tr)
  (hd:cJ tr.old T ((s0.fresh (bI g)).visL tr.old T [gd,aW R]).1 tr.seen s3 ks) (a3:eZ tr.old T s3 ks)
  (Rd:Rdy tr.old T (ents gd es) s3 ks (fk tr.old s3.mem (ents gd es)) s4 k4 lost):
  qf s0 s4 (s4.ended tr) g T A es ((s0.fresh (bI g)).visL tr.old T [gd,aW R]).2 (outG tr.old T s4 (ents gd es) lost):=by
 obtain⟨f,al,sz,h,Y,D,s,dg,dR,a6⟩:=nB I W (by omega) a7 B hd a3
 rw[h.marks W.ce D,mJ r]at Rd
 obtain⟨rfl,rfl,rfl⟩:=Rd.none (λi z=>by
  rw[List.getElem?_map]at z
  cases j:es[i]? with
  | none=>rw[j]at z;cases z
  | some x=>
   rw[j]at z
   have z:mk2 x=1:=Option.some.inj z
   unfold mk2 at z
   rw[if_pos (r x (List.mem_of_getElem? j))]at z;omega)
 have C:=oQ I W B h (λv Y=>by
  simp only[List.mem_cons,List.not_mem_nil,or_false]at Y
  rcases Y with h | h
  ·exact .inl h
  ·exact .inr (.inl h))
 obtain⟨F,Q⟩:=oR (Z:=⟨s0.mem,sz0,tr.old,T,(· ∈[gd,aW R]),λ_=>none,[]⟩) W B rfl C rfl (by simp)
 have S:=h.S
 have W':WoAt (TZ.m ⟨s0.mem,sz0,tr.old,T,(· ∈[gd,aW R]),λ_=>none,[]⟩) (TZ.sz ⟨s0.mem,sz0,tr.old,T,(· ∈[gd,aW R]),λ_=>none,[]⟩) g gd L R A es:=W
 have n: ∀{w a d:Int},Pr s0.mem w 1 a d->Good s0.mem sz0 w->aF tr.old w:=λP G=>W'.oldW S (Int.le_refl _) G P.isTag
 obtain⟨b,hb⟩:=dg s
 obtain⟨e,-,-,-,E⟩:=C.gdh W.gw W.gg W.g3 W.gh s hb rfl
 have e8:(b*8+3) / 8=b:=by omega
 have V:=(E 1 (by decide)).2.2.2 rfl
 have X:=(E 2 (by decide)).2.2.2 rfl
 have V:(s4.ended tr).mem.get (b+1)=Fw tr.old f (s0.mem.get (gd / 8+1)):=V
 have X:(s4.ended tr).mem.get (b+2)=Fw tr.old f (s0.mem.get (gd / 8+2)):=X
 rw[W.f1]at V
 rw[W.f2]at X
 have dL:Dn tr.old f (aW L):=by
  obtain⟨u,o,k,-⟩:=E 1 (by decide)
  have an:sz0 (gd / 8)=3:=(W'.size S.sound S.ok).1
  have:=(h.fin _ u o ⟨by omega,.inl (by omega)⟩ (s0.mem.get (gd / 8+1)) (.inr ⟨rfl,.inr ⟨gd / 8,b,1,hb,by show 1<sz0 (gd / 8);omega,rfl,rfl⟩⟩)).1
  rw[W.f1]at this;exact this
 have U: ∀e∈L,Good s0.mem sz0 e.1/\aF tr.old e.1/\ ∀b:Int,f (e.1 / 8)=some b->(none:Option Int)=none/\(none:Option Int)=none:=λe N=>by
  obtain⟨d,P⟩:=W.q.at' N
  exact⟨W.qg e N,n P (W.qg e N),λ_ _=>⟨rfl,rfl⟩⟩
 obtain⟨row,dn⟩:=C.row W.q U dL
 have l:=h.row W.q U dL
 have J:(L.map λe=>(Fw tr.old f e.1,cV tr.old f 1 e.2))=L.map λe=>(Fw tr.old f e.1,Fw tr.old f e.2):=List.map_congr_left λe _=>by
  unfold cV;rw[if_neg (λq=>absurd q.1 (by decide))]
 have row:fV (s4.ended tr).mem 1 (L.map λe=>(Fw tr.old f e.1,cV tr.old f 1 e.2)):=row
 rw[J]at row
 have ca: ∀x∈A.map (λx=>(Fw tr.old f x.1,x.2)),Cell (s4.ended tr).mem (szE tr.old sz) x:=λx j=>by
  obtain⟨y,p,rfl⟩:=List.mem_map.1 j
  have c:=W.ca y p
  have a4:y.1∈L.map Prod.snd:=by rw[W.qa];exact List.mem_map_of_mem p
  obtain⟨e,N,q⟩:=List.mem_map.1 a4
  exact C.cell c (n c.pr c.good) (by rw[<-q];exact(l e N).2) (λ_ _=>⟨rfl,rfl⟩)
 have O: ∀x∈L,∀y∈L,Fw tr.old f x.1=Fw tr.old f y.1->x.1=y.1:=λx j y p H=>by
  obtain⟨d1,P1⟩:=W.q.at' j
  obtain⟨d2,P2⟩:=W.q.at' p
  have o1:=n P1 (W.qg x j)
  have o2:=n P2 (W.qg y p)
  obtain⟨b1,K⟩:=(l x j).1 o1
  obtain⟨b2,M⟩:=(l y p).1 o2
  have t1:=P1.at'.2.1
  have t2:=P2.at'.2.1
  rw[eS o1 K,eS o2 M]at H
  have:b1=b2:=by omega
  subst this
  have:=h.tri.inj _ _ _ K M
  omega
 have a5:((L.map λe=>(Fw tr.old f e.1,Fw tr.old f e.2)).map Prod.fst).Nodup:=by
  rw[List.map_map]
  have h1:=W.qn
  unfold List.Nodup at h1⊢
  rw[List.pairwise_map]at h1⊢
  exact h1.imp_of_mem λ{x y} j p H q=>H (O x j y p q)
 have WA:=WoAt.after C W' a6.2 (λa c hc hk=>⟨rfl,rfl⟩) (λ_ _=>rfl) dg dR (L':=L.map λe=>(Fw tr.old f e.1,Fw tr.old f e.2)) (A':=A.map (λx=>(Fw tr.old f x.1,x.2)))
  (by
   show(s4.ended tr).mem.get (Fw tr.old f gd / 8+1)=_
   rw[show Fw tr.old f gd=b*8+3 from e,e8,lA];exact V)
  (by
   show(s4.ended tr).mem.get (Fw tr.old f gd / 8+2)=_
   rw[show Fw tr.old f gd=b*8+3 from e,e8,nz];exact X)
  row (λx j=>by
   obtain⟨y,p,rfl⟩:=List.mem_map.1 j
   obtain⟨d,P⟩:=W.q.at' p
   exact(C.t.good P.word (W.qg y p) (l y p).1).1) a5 (by
   rw[List.map_map,List.map_map]
   have:=congrArg (List.map (Fw tr.old f)) W.qa
   rw[List.map_map,List.map_map]at this
   exact this) ca
 refine⟨_,_,_,_,_,_,?_,qh W h dg (λx j hh=>(D x j).1 hh),WA,C.inv,(iZ _ _ _).2,by rw[List.map_map,iJ r,List.map_nil,List.append_nil];rfl,(iZ _ _ _).1,F,Q⟩
 rw[Y,lA]
end
variable{a:Hp}{b:Blk}{d:Int}{g:Int->Nat}{H:zV}
def sh3(a:Int):Int:=ishl .u64 (IntKind.wrap .u64 a) 3
theorem qj(a:Int):aC (sh3 a)/\sh3 a % 8=0:=by
 unfold sh3
 rw[iw 3 3 rfl (by decide)]
 exact⟨⟨by omega,by omega⟩,by omega⟩
theorem qk{c i j:Int}(V:View H (some ⟨b.h,0,none⟩) (some (b,a)))(h:Pr a.sp.mem d c i j):
  bY.C (some ⟨b.h,0,none⟩) d H (λv f=>v=.tuple #[vu i,vi 0]/\Ext H f):=by
 refine HC.mono (iz V h.word) ?_
 rintro _ g ⟨rfl,e⟩
 refine⟨?_,e⟩
 rw[show(mof (some (b,a)))=a.sp.mem from rfl,h.half.1,if_pos rfl,Int.add_zero,h.car]
theorem Bd.le{o:zV}{u v:Nat->Nat}(B:Bd H o b a g d u)(h: ∀j,u j<=v j):Bd H o b a g d v:=by
 obtain⟨c,e,i,l⟩:=B.cap.ex
 refine⟨B.live,B.inv,⟨⟨c,e,i,λk hk=>?_⟩,B.cap.gen,B.cap.lim⟩,B.cf⟩
 have m:=l k hk
 have n:=h k
 generalize a.sp.fill 0 k=f at*
 omega
theorem Bd.grow{H0 H c:zV}{u:Nat->Nat}(B:Bd H0 H b a g d u)(e:Ext H c):Bd H0 c b a g d u:=⟨B.live.grow e,B.inv,B.cap,B.cf⟩
theorem qp{g:zV}{l:Nat}(V:View g (some ⟨b.h,0,none⟩) (some (b,a)))(f:a=⟨⟨Mem.fresh l,λ_ _=>0⟩,vN,vN,0⟩)(e:Ext H g)(k: ∀i,i∈b.all->H.size<=i):Bd H g b a (λ_=>0) l (λ_=>0):=by
 obtain⟨-,j,d⟩:=V.inv
 have c: ∀m,¬a.sp.mem.used m:=λm h=>by rw[f]at h;exact absurd rfl h.2.1.2.2
 refine⟨⟨j,d,e,k⟩,⟨d,by rw[f];exact kX _,⟨λm h=>absurd rfl h,λm b h=>absurd rfl h,λm h=>absurd rfl h,λm h=>absurd rfl h,λm h=>absurd h (c m)⟩,λm h=>absurd h (c m)⟩,by rw[f];exact Cap0.fresh l,?_⟩
 rw[f]
 show(0:Int)+(l:Int)=l
 omega
theorem qq{l:List (Int×Int)}(h:fV a.sp.mem d l)(b: ∀e∈l,Good a.sp.mem g e.1):WG a g (aW l):=by
 cases l with
 | nil=>exact⟨by decide,by decide,λh=>absurd h (by decide)⟩
 | cons e l=>exact⟨h.1.word,b e (by simp)⟩
variable{b:Mem}
structure WoL (m:Mem) (sz:Int->Nat) (gd:Int) (R:List (Int×Int)) (es:List ((Int×Int)×Bool)):Prop where
 gr:fi m gd 10 0 [20,20]
 gg:Good m sz gd
 r:fV m 1 R
 rg: ∀e∈R,Good m sz e.1
 ra: ∀e∈R,∃x∈es,x.2=true/\e.2=x.1.1
 ar: ∀x∈es,x.2=true-> ∃e∈R,e.2=x.1.1
 ce: ∀x∈es,Cell m sz x.1
 out: ∀x∈es,∀e∈R,e.1≠x.1.1
 nd:(es.map λx=>x.1.1).Nodup
theorem Cell.keep{e:Mem}{sz sz':Int->Nat}{x:Int×Int}(c:Cell b sz x)(k:Keep b e)(l:Lift b sz e sz'):Cell e sz' x:=⟨c.pr.keep k,l _ c.good,c.num⟩
section
variable {x x':Hp} {sz sz':Int->Nat} {gd w a d:Int} {R:List (Int×Int)} {es:List ((Int×Int)×Bool)}
theorem lE{e:Int}(f:jS x x' w e a d){v t b c:Int}(P:Pr x.sp.mem v t b c):v≠w:=λq=>by
 have g:=P.at'.used P.word
 have:=f.made.fresh 0 (by omega)
 rw[<-q]at this
 exact this (by simpa using g)
theorem WoL.cons(L:WoL x.sp.mem sz gd R es)(g: ∀k,(x.sp.mem.seg k).n<=64)(f:jS x x' w 1 a 20)(D:Bdd x sz x' sz' w)(m: ¬isTag a):WoL x'.sp.mem sz' gd R (es++[((w,a),false)]):=by
 have j:=f.made.keep
 have hm: ∀y∈es++[((w,a),false)],y∈es\/y=((w,a),false):=λy b=>by
  rcases List.mem_append.1 b with h | h
  ·exact .inl h
  ·exact .inr (by simpa using h)
 refine⟨L.gr.keep g j,D.lift _ L.gg,L.r.keep j,λe c=>D.lift _ (L.rg e c),λe c=>?_,λy b l=>?_,λy b=>?_,λy b e c=>?_,?_⟩
 ·obtain⟨y,b,h⟩:=L.ra e c
  exact⟨y,List.mem_append_left _ b,h⟩
 ·rcases hm y b with h | rfl
  ·exact L.ar y h l
  ·cases l
 ·rcases hm y b with h | rfl
  ·exact(L.ce y h).keep j D.lift
  ·exact⟨f.pr,D.new.2,m⟩
 ·rcases hm y b with h | rfl
  ·exact L.out y h e c
  ·obtain⟨d,P⟩:=L.r.at' c
   exact lE f P
 ·rw[List.map_append,List.nodup_append]
  refine⟨L.nd,by simp,λu o v i=>?_⟩
  obtain⟨y,b,rfl⟩:=List.mem_map.1 o
  have i:v=w:=by simpa using i
  rw[i]
  exact lE f (L.ce y b).pr
theorem WoL.hold{v:Int}(L:WoL x.sp.mem sz gd R (es++[((w,a),false)]))(l: ∀k,(x.sp.mem.seg k).n<=64)(i:jS x x' v 1 w (aW R))(D:Bdd x sz x' sz' v):WoL x'.sp.mem sz' gd ((v,w)::R) (es++[((w,a),true)]):=by
 have m:=i.made.keep
 have f: ∀y∈es,y∈es++[((w,a),false)]:=λy c=>List.mem_append_left _ c
 have t:((w,a),false)∈es++[((w,a),false)]:=by simp
 have hm: ∀y∈es++[((w,a),true)],∃z∈es++[((w,a),false)],z.1=y.1/\(y∈es/\z=y\/y=((w,a),true)):=λy c=>by
  rcases List.mem_append.1 c with h | h
  ·exact⟨y,f y h,rfl,.inl ⟨h,rfl⟩⟩
  ·obtain rfl:y=((w,a),true):=by simpa using h
   exact⟨_,t,rfl,.inr rfl⟩
 refine⟨L.gr.keep l m,D.lift _ L.gg,⟨i.pr,L.r.keep m⟩,λe b=>?_,λe b=>?_,λy c s=>?_,λy c=>?_,λy c e b=>?_,?_⟩
 ·rcases List.mem_cons.1 b with rfl | b
  ·exact D.new.2
  ·exact D.lift _ (L.rg e b)
 ·rcases List.mem_cons.1 b with rfl | b
  ·exact⟨((w,a),true),by simp,rfl,rfl⟩
  ·obtain⟨y,c,j,p⟩:=L.ra e b
   rcases List.mem_append.1 c with h | h
   ·exact⟨y,List.mem_append_left _ h,j,p⟩
   ·have h:y=((w,a),false):=by simpa using h
    rw[h]at j;cases j
 ·rcases List.mem_append.1 c with h | h
  ·obtain⟨e,b,q⟩:=L.ar y (f y h) s
   exact⟨e,List.mem_cons_of_mem _ b,q⟩
  ·obtain rfl:y=((w,a),true):=by simpa using h
   exact⟨(v,w),by simp,rfl⟩
 ·obtain⟨z,g,e,-⟩:=hm y c
  rw[<-e];exact(L.ce z g).keep m D.lift
 ·obtain⟨z,g,o,-⟩:=hm y c
  rw[<-o]
  rcases List.mem_cons.1 b with rfl | b
  ·exact λq=>lE i (L.ce z g).pr q.symm
  ·exact L.out z g e b
 ·have:=L.nd
  rw[List.map_append]at this⊢
  exact this
theorem WoL.at'{sz:Int->Nat}(L:WoL b sz gd R es)(l: ∀k:Nat,(b.seg k).taken≠0->(b.seg k).gen=0):WoAt b sz 0 gd [] R [] es:=by
 have t:=L.gr.get 0 (by decide)
 have u:=L.gr.get 1 (by decide)
 refine⟨λk _ hk=>l k hk,L.gr.word,L.gg,L.gr.obj.1.2.1,⟨L.gr.kindEq,L.gr.lenEq⟩,?_,?_,trivial,λe c=>(by cases c),List.nodup_nil,rfl,L.r,L.rg,L.ra,L.ar,λx f=>(by cases f),L.ce,λx f v=>⟨λe c=>(by cases c),λe c=>L.out x f e c,λe c=>(by cases c),λy l m q=>?_⟩⟩
 ·rw[show gd / 8+1=gd / 8+1+((0:Nat):Int)by simp,t];rfl
 ·rw[show gd / 8+2=gd / 8+1+((1:Nat):Int)by omega,u];rfl
 ·have h:=List.pairwise_iff_getElem.1 L.nd
  obtain⟨i,p,rfl⟩:=List.getElem_of_mem f
  obtain⟨j,s,rfl⟩:=List.getElem_of_mem l
  have key: ∀a z (n:a<es.length) (o:z<es.length),a<z->es[a].1.1≠es[z].1.1:=λa z n o g=>by
   have:=h a z (by rw[List.length_map];exact n) (by rw[List.length_map];exact o) g
   simpa using this
  rcases Nat.lt_trichotomy i j with r | r | r
  ·exact key i j p s r q.symm
  ·subst r
   rw[v]at m;cases m
  ·exact key j i s p r q
end
theorem Bd.stay{S:List Nat}{c H g:zV}{b:Blk}{x:Hp}{sz:Int->Nat}{e:Int}{u:Nat->Nat}(B:Bd c H b x sz e u)(f:Fr S H g)(h: ∀i∈S,i ∉ b.all)(j: ∀i∈S,c.size<=i):Bd c g b x sz e u:=
 ⟨⟨B.live.at'.keep f h,B.live.ok,B.live.ext.fr_trans f j,B.live.young⟩,B.inv,B.cap,B.cf⟩
def gx(es:List ((Int×Int)×Bool)):List Int:=(es.filter (·.2)).map λx=>x.1.2
theorem nC(b:Int)(es:List ((Int×Int)×Bool))(x:(Int×Int)×Bool):ents b (es++[x])=ents b es++[(x.1.1,b)]:=by unfold ents;rw[List.map_append];rfl
theorem qr(es:List ((Int×Int)×Bool))(x:Int×Int):dm (es++[(x,false)])=dm es++[x]/\gx (es++[(x,false)])=gx es:=by
 unfold dm gx
 rw[List.filter_append,List.filter_append,List.map_append,List.map_append]
 exact⟨rfl,by simp⟩
theorem pu(es:List ((Int×Int)×Bool))(x:Int×Int):dm (es++[(x,true)])=dm es/\gx (es++[(x,true)])=gx es++[x.2]:=by
 unfold dm gx
 rw[List.filter_append,List.filter_append,List.map_append,List.map_append]
 exact⟨by simp,rfl⟩
theorem oS(a b:List Int):wvs (a++b)=wvs a++wvs b:=by unfold wvs;rw[List.map_append]
theorem jN(b:Int)(es:List ((Int×Int)×Bool)):(ents b es).length=es.length:=by unfold ents;rw[List.length_map]
structure WoS (A:zV) (n0:Nat) (gw:Int) (es:List ((Int×Int)×Bool)) (eB:zW) (eN eC:Nat) (lB:zW) (lN lC:Nat) (sB:zW) (sN sC:Nat):Prop where
 e:Own A 36 2 eB eN eC (evs (ents gw es))
 l:Own A 28 1 lB lN lC (wvs ((dm es).map Prod.snd))
 s:Own A 28 1 sB sN sC (wvs (gx es))
 en:eN=es.length
 ln:lN=(dm es).length
 sn:sN=(gx es).length
 eb: ∀j∈blks eB,n0<=j/\j ∉ blks lB/\j ∉ blks sB
 lb: ∀j∈blks lB,n0<=j/\j ∉ blks sB
 sb: ∀j∈blks sB,n0<=j
theorem pv{es:List ((Int×Int)×Bool)}(h: ∀x∈es,x.2=true):gx es=es.map λx=>x.1.2:=by
 unfold gx
 rw[List.filter_eq_self.2 h]
theorem WoAt.queue{sz:Int->Nat}{j gd:Int}{L R A:List (Int×Int)}{es:List ((Int×Int)×Bool)}(W:WoAt b sz j gd L R A es)(S:fD b sz)(o:aV b):QAt b gd L:=by
 obtain⟨h,r⟩:=mI S o W.gw W.gg W.g3
 have g:b.typ gd=10:=by unfold Mem.typ;rw[if_pos h];exact W.gh.1
 have c:b.len gd=2:=by unfold Mem.len;rw[if_pos h];exact W.gh.2
 have f: ∀i:Int,0<=i/\i<2->b.fieldE gd 10 i=0:=λi p=>by
  unfold Mem.fieldE
  rw[if_neg (λq=>by rcases q with q | q;exact q h;exact q g),if_neg (by rw[c];omega)]
 refine⟨⟨f 0 (by decide),f 1 (by decide)⟩,W.f1,W.f2,λm e n k=>?_,W.qn⟩
 have P:=W.q.mem m n e k
 have l:=P.at'.used P.word
 exact⟨P.isPair,P.word,⟨by simpa using l,P.used⟩,P.car,P.cdr⟩
