/-
 What a trace leaves of rows of pairs. Proves nothing of any one statement.
-/
import Derived.Test.YtfhbhckhmnleoaaGreatWbA
import Derived.Test.YtfhbhckhmnleoaaGreatWnB
set_option linter.unusedVariables false
set_option linter.unusedSimpArgs false
namespace Go.Proofs.YtfhbhckhmnleoaaGreat
open Go
theorem qX{m:Mem}{sz:Int->Nat}(S:fM m sz)(j:aU m){w a:Int}(v:aB w)(r:Good m sz w)(u:a=1\/a=2)(h:w % 8=a):Pr m w a (m.get (w / 8)) (m.get (w / 8+1)):=by
 have e:isTag w:=by unfold isTag;omega
 obtain⟨d,c⟩:=r.2 e
 have s:0<=m.kAt (w / 8)/\m.kAt (w / 8)<=3:=(j.seg (w / 8 / 64).toNat).kind
 have hk:m.kAt (w / 8)=a-1:=by
  rw[h]at c
  unfold tagK at c
  by_cases o:m.kAt (w / 8)=0
  ·rw[if_pos o]at c;omega
  ·rw[if_neg o]at c
   by_cases p:m.kAt (w / 8)=1
   ·rw[if_pos p]at c;omega
   ·rw[if_neg p]at c;omega
 obtain⟨x,q⟩:=S.two _ d (by omega)
 have hn: ∀k,(m.seg k).n<=64:=λk=>(j.seg k).n.2
 have b:m.used (w / 8):=by simpa using(S.usedAt d (i:=0) (by omega) hn).1
 have f:m.used (w / 8+1):=(S.usedAt d (i:=1) (by omega) hn).1
 have l:=j.lim
 have t:=b.2.1.2.1
 exact⟨v,u,⟨⟨by omega,by omega⟩,h,b.2.1,hk,b.2.2⟩,q,f,rfl,rfl⟩
section
variable {Z:TZ} {g F0:Int} {fw:Int->Option Int} {al:List Int} {s3 s4 s5:Sp} {sz:Int->Nat} {tr:Tr} {s0:Sp}
def cV(O:Nat->Bool)(fw:Int->Option Int)(tag a:Int):Int:=if tag=2/\aE O a/\fw (a / 8)=none then 44 else Fw O fw a
theorem iY.pr(C:iY Z s0 g tr fw al sz s3 s4 s5){w c a d:Int}(h:Pr Z.m w c a d)(u:Good Z.m Z.sz w)(A:aE Z.O w)(p:Dn Z.O fw w)(K: ∀b,fw (w / 8)=some b->Z.q b=none/\Z.q (b+1)=none):
  Pr s5.mem (Fw Z.O fw w) c (cV Z.O fw c a) (Fw Z.O fw d)/\Dn Z.O fw d/\(c=1->Dn Z.O fw a):=by
 obtain⟨b,n⟩:=p A
 have v:=h.at'.2.1
 have k:=h.istag
 have B:isTag w:=by unfold isTag;omega
 obtain⟨F,H,-⟩:=C.t.good h.word u p
 obtain⟨f,-,G,-⟩:=H B
 obtain⟨I,-,-⟩:=C.t.tri.goodFw C.t.S h.word u p
 have e:Fw Z.O fw w=b*8+w % 8:=fk A n
 have o:Fw Z.O fw w / 8=b:=by rw[e];omega
 have P:=qX C.inv.sound C.inv.ok.mem I F k (by rw[nD];exact v)
 rw[o]at P f G
 have s:b % 2=0:=by have:=P.even;rw[o]at this;exact this
 have x:s5.mem.used (b+1):=by have:=P.used;rw[o]at this;exact this
 have J:Z.m.kAt (w / 8)=c-1:=h.at'.2.2.2.1
 have L:Z.sz (w / 8)=2:=(C.t.S.sound.two _ (u.2 B).1 (by omega)).1
 obtain⟨M,N⟩:=K b n
 have z:Was Z fw b a:=.inr ⟨M,.inr ⟨w / 8,b,0,n,by omega,by simp,by rw[<-h.car];simp⟩⟩
 have E:Was Z fw (b+1) d:=.inr ⟨N,.inr ⟨w / 8,b,1,n,by omega,rfl,by rw[<-h.cdr];rfl⟩⟩
 have R:=f.1
 have T:=(C.t.kind f).1
 have U:=(C.t.kind x).1
 have V:s5.mem.kAt (b+1)=s5.mem.kAt b:=by unfold Mem.kAt;rw[show(b+1) / 64=b / 64 by omega]
 have j:s5.mem.get (b+1)=Fw Z.O fw d/\Dn Z.O fw d:=by
  rcases C.t.get E with⟨l,y⟩ | ⟨_,_,r⟩
  ·rw[if_neg (by omega)]at l
   exact⟨l,y (by omega)⟩
  ·omega
 have i:s5.mem.get b=cV Z.O fw c a/\(c=1->Dn Z.O fw a):=by
  unfold cV
  rcases k with rfl | rfl
  ·rw[if_neg (λq=>absurd q.1 (by decide))]
   rcases C.t.get z with⟨l,y⟩ | ⟨_,r,_⟩
   ·rw[if_neg (by omega)]at l
    exact⟨l,λ_=>y (by omega)⟩
   ·omega
  ·obtain⟨Q,D⟩:=C.t.used.1 f
   refine⟨?_,λq=>absurd q (by decide)⟩
   rw[(C.t.ended.get D).1,C.brk.exact b a Q D (by omega) s z]
   by_cases q:aE Z.O a/\fw (a / 8)=none
   ·rw[if_pos q,if_pos ⟨rfl,q⟩]
   ·rw[if_neg q,if_neg (λr=>q r.2)]
 rw[i.1,j.1]at P
 exact⟨P,j.2,i.2⟩
theorem qY{O:Nat->Bool}:Fw O fw 20=20:=ee (λo=>absurd o.1.1 (by decide))
theorem iP{O:Nat->Bool}(c:Int->Int)(l:List (Int×Int)):bA (l.map λe=>(Fw O fw e.1,c e.2))=Fw O fw (bA l):=by
 cases l with
 | nil=>exact qY.symm
 | cons e l=>rfl
theorem iY.row(C:iY Z s0 g tr fw al sz s3 s4 s5){a:Int}: ∀{l:List (Int×Int)},fV Z.m a l->(∀e∈l,Good Z.m Z.sz e.1/\aE Z.O e.1/\ ∀b,fw (e.1 / 8)=some b->Z.q b=none/\Z.q (b+1)=none)->Dn Z.O fw (bA l)->
  fV s5.mem a (l.map λe=>(Fw Z.O fw e.1,cV Z.O fw a e.2))/\ ∀e∈l,Dn Z.O fw e.1
 | [],_,_,_=>⟨trivial,λe j=>by cases j⟩
 | e::l,h,hl,hd=>by
  obtain⟨d,f,i⟩:=hl e (by simp)
  obtain⟨k,n,_⟩:=C.pr h.1 d f hd i
  obtain⟨o,p⟩:=iY.row C h.2 (λx c=>hl x (List.mem_cons_of_mem _ c)) n
  refine⟨⟨?_,o⟩,λx c=>?_⟩
  ·rw[iP];exact k
  ·rcases List.mem_cons.1 c with rfl | c
   ·exact hd
   ·exact p x c
theorem nF(S:aO Z g F0)(d: ∀k:Nat,(Z.m.seg k).taken≠0->(Z.m.seg k).gen=0){x:Int}(a:Z.m.used x):Z.O (x / 64).toNat=true:=by
 have b:=S.lt a
 have c:=S.rng
 refine(S.old _ b.1).2 ⟨by rw[show((((x:Int) / 64).toNat:Nat):Int)=(x:Int) / 64 by omega];exact a.2.1,?_⟩
 rw[d _ a.2.1.2.2];exact c.1
theorem hD(S:aO Z g F0)(d: ∀k:Nat,(Z.m.seg k).taken≠0->(Z.m.seg k).gen=0){w:Int}(c:Good Z.m Z.sz w)(a:isTag w):aE Z.O w:=by
 have b:=(S.sound.used _ (c.2 a).1).1
 have e:=S.lt b
 unfold isTag at a
 exact⟨⟨by omega,by omega⟩,by omega,nF S d b⟩
structure WbAt (m:Mem) (sz:Int->Nat) (p gd:Int) (Ls Wk:List (Int×Int)):Prop where
 young: ∀k:Nat,(m.seg k).taken≠0->(m.seg k).gen=0
 ls:fV m 1 Ls
 lsg: ∀e∈Ls,Good m sz e.1
 lsv: ∀e∈Ls,¬isTag e.2
 pr:Pr m p 1 12 (bA Ls)
 pg:Good m sz p
 gr:fg m gd 10 0 [20,20]
 gg:Good m sz gd
 wk:fV m 2 Wk
 wkg: ∀e∈Wk,Good m sz e.1
 wkv: ∀e∈Wk,e.2=p
 nd:(Wk.map Prod.fst).Nodup
theorem mX{O:Nat->Bool}{l a:List (Int×Int)}(b: ∀e∈l,e∈a)(h:aE O (bA l)): ∃e∈a,bA l / 8=e.1 / 8:=by
 cases l with
 | nil=>exact absurd h.1.1 (by decide)
 | cons e l=>exact⟨e,b e (by simp),rfl⟩
theorem WbAt.three{m:Mem}{sz:Int->Nat}{p a:Int}{i j:List (Int×Int)}(A:WbAt m sz p a i j)(S:fM m sz):sz (a / 8)=3/\m.kAt (a / 8)=2/\isTag a/\a % 8=3:=by
 have e:=A.gr.obj.1.2.1
 have f:isTag a:=by unfold isTag;omega
 obtain⟨n,b⟩:=A.gg.2 f
 have c:2<=m.kAt (a / 8):=by
  rw[e]at b
  unfold tagK at b
  split at b
  ·omega
  ·split at b
   ·omega
   ·rename_i t u
    have:0<=m.kAt (a / 8):=by
     rcases Int.lt_or_le (m.kAt (a / 8)) 0 with q | q
     ·have:=A.gr.obj
      exfalso
      have h:=A.gr.obj.1.2.2.2.1
      have o:rawK (hk (m.get (a / 8)))=2:=by rw[A.gr.kindEq];rfl
      unfold Mem.kAt at q
      omega
     ·exact q
    omega
 obtain⟨s,r,d⟩:=S.obj _ n c
 have k:=A.gr.kindEq
 have l:=A.gr.lenEq
 refine⟨?_,?_,f,e⟩
 ·rw[l]at d
  have:((2:Nat):Int)=2:=rfl
  have d:(sz (a / 8):Int)=((2:Nat):Int)+1:=d
  omega
 ·rw[r,k];rfl
theorem WbAt.reach{p c:Int}{r j:List (Int×Int)}(A:WbAt Z.m Z.sz p c r j)(S:aO Z g F0)(u: ∀v,Z.V v->v=bA j\/v=c){a:Int}(h:Reach Z a):(∃e∈j,a=e.1 / 8)\/a=c / 8:=by
 induction h with
 | root y b=>
  rcases u _ y with rfl | rfl
  ·exact .inl (mX (λe f=>f) b)
  ·exact .inr rfl
 | older w hn l b=>rw[nF S A.young w]at hn;cases hn
 | @step a i h G l b B=>
  rcases B with⟨e,f,rfl⟩ | rfl
  ·obtain⟨C,D,o⟩:=List.append_of_mem f
   have P:=A.wk.mem C D e o
   have hk:Z.m.kAt (e.1 / 8)=1:=P.at'.2.2.2.1
   have n:isTag e.1:=by have:=P.at'.2.1;unfold isTag;omega
   have H:=S.sound.two _ ((A.wkg e f).2 n).1 (by omega)
   have:i=0\/i=1:=by omega
   rcases this with rfl | rfl
   ·exfalso
    have k:e.1 / 8+((0:Nat):Int)=e.1 / 8:=by simp
    rw[k]at l
    rcases l.2 with q | q
    ·exact q hk
    ·omega
   ·have d:e.1 / 8+((1:Nat):Int)=e.1 / 8+1:=rfl
    rw[d,P.cdr]at b⊢
    exact .inl (mX (λx z=>by rw[o];exact List.mem_append_right _ (List.mem_cons_of_mem _ z)) b)
  ·exfalso
   obtain⟨J,I,n,E⟩:=A.three S.sound
   have s:=A.gr.get 0 (by decide)
   have t:=A.gr.get 1 (by decide)
   have:i=0\/i=1\/i=2:=by omega
   rcases this with rfl | rfl | rfl
   ·have F:=(S.sound.obj _ (A.gg.2 n).1 (by omega)).1.1
    have k:c / 8+((0:Nat):Int)=c / 8:=by simp
    rw[k]at b
    have:=b.1.1
    omega
   ·have d:c / 8+((1:Nat):Int)=c / 8+1+((0:Nat):Int):=by simp
    rw[d,s]at b
    exact absurd b.1.1 (by decide)
   ·have d:c / 8+((2:Nat):Int)=c / 8+1+((1:Nat):Int):=by omega
    rw[d,t]at b
    exact absurd b.1.1 (by decide)
theorem WbAt.p_out{p b:Int}{c a:List (Int×Int)}(A:WbAt Z.m Z.sz p b c a)(S:aO Z g F0)(d: ∀v,Z.V v->v=bA a\/v=b): ¬Reach Z (p / 8):=λh=>by
 have hk:Z.m.kAt (p / 8)=0:=A.pr.at'.2.2.2.1
 rcases A.reach S d h with⟨e,f,q⟩ | q
 ·obtain⟨j,k,i⟩:=List.append_of_mem f
  have P:=A.wk.mem j k e i
  have:Z.m.kAt (e.1 / 8)=1:=P.at'.2.2.2.1
  rw[<-q]at this;omega
 ·have:=(A.three S.sound).2.1
  rw[<-q]at this;omega
end
def wn0:Sp:=⟨Mem.fresh 40,λ_ _=>0⟩
def wn1:Sp:=(wn0.put 2 3 [597,20,20]).1
def wn2:Sp:=(wn1.put 0 1 [8,20]).1
def wn3:Sp:=(wn2.put 1 2 [513,20]).1
def wnO:Nat->Bool:=wn3.mem.young 0
def wn4:Sp:=wn3.fresh (bK 0)
def wn5:Sp:=(wn4.visit wnO 0 3).1
def wn6:Sp:=(wn5.visit wnO 0 1026).1
def wn7:Sp:=((wn6.visit wnO 0 513).1.visit wnO 0 1539).1.putsG 0 ((wn6.visit wnO 0 513).1.visit wnO 0 1539).2 (wn6.visit wnO 0 513).2
def wn8:Sp:={wn7 with mem:=brkR wnO wn7.mem 256}
def wn9:Sp:=wn8.gives wnO 1024
theorem wn_1:(wn0.put 2 3 [597,20,20]).2=(3,0):=by kernel_rfl
theorem wn_2:(wn1.put 0 1 [8,20]).2=(513,0):=by kernel_rfl
theorem wn_3:(wn2.put 1 2 [513,20]).2=(1026,0):=by kernel_rfl
theorem qZ:wn0.cf=40/\wn1.cf=40/\wn2.cf=40/\wn3.cf=40:=⟨by kernel_rfl,by kernel_rfl,by kernel_rfl,by kernel_rfl⟩
theorem mY:wn1.mem.count=1/\wn2.mem.count=2:=⟨by kernel_rfl,by kernel_rfl⟩
theorem wn_s:eU wn3 0 0 1=0:=by kernel_rfl
theorem wn_5:(wn4.visit wnO 0 3).2=1539:=by kernel_rfl
theorem wn_6:(wn5.visit wnO 0 1026).2=2050:=by kernel_rfl
def jB(old:Nat->Bool)(T:Int)(m:Mem):Bool:=(List.range 40).all λk:Nat=>(List.range 64).all λi:Nat=>decide (m.has k->(m.seg k).gen=T->old k=false->(i:Int)< (m.seg k).n->looks (m.seg k).kind i-> ¬aE old (m.read ((k:Int)*64+i)))
theorem qc:jB wnO 0 wn6.mem=true:=by kernel_rfl
theorem qd:decide (aE wnO 513)=true/\wn6.mem.fwd 513=none/\decide (aE wnO 1539)=false:=⟨by kernel_rfl,by kernel_rfl,by kernel_rfl⟩
theorem qe:jB wnO 0 wn7.mem=true:=by kernel_rfl
theorem rf:wn7.mem.takenTo [0] wn7.mem.limit=[0,1,2,3,4,5]:=by kernel_rfl
theorem qO:(wn7.mem.seg 0).taken=1/\(wn7.mem.seg 1).taken=2/\(wn7.mem.seg 2).taken=3/\(wn7.mem.seg 3).taken=4/\(wn7.mem.seg 4).taken=5/\(wn7.mem.seg 5).taken=6:=⟨by kernel_rfl,by kernel_rfl,by kernel_rfl,by kernel_rfl,by kernel_rfl,by kernel_rfl⟩
theorem qP:(wn7.mem.seg 0).kind=2/\(wn7.mem.seg 1).kind=0/\(wn7.mem.seg 3).kind=2/\(wn7.mem.seg 4).kind=1/\(wn7.mem.seg 5).kind=0/\(wn7.mem.seg 4).n=2/\wnO 2=true/\wnO 4=false:=⟨by kernel_rfl,by kernel_rfl,by kernel_rfl,by kernel_rfl,by kernel_rfl,by kernel_rfl,by kernel_rfl,by kernel_rfl⟩
theorem wn_q:wn9.mem.fieldE 1539 10 0=0/\wn9.mem.get (1539 / 8+1+0)=2577:=⟨by kernel_rfl,by kernel_rfl⟩
theorem wn_a:wn9.mem.halfE 2577 0=0/\wn9.mem.get (2577 / 8+0)=2561:=⟨by kernel_rfl,by kernel_rfl⟩
theorem wn_b:wn9.mem.halfE 2050 0=0/\wn9.mem.get (2050 / 8+0)=2561:=⟨by kernel_rfl,by kernel_rfl⟩
theorem wn_c:wn9.mem.halfE 2561 0=0/\wn9.mem.get (2561 / 8+0)=8:=⟨by kernel_rfl,by kernel_rfl⟩
theorem lc{old:Nat->Bool}{T:Int}{m:Mem}(g:m.limit=40)(f:aU m)(h:jB old T m=true):nZ old T m:=by
 intro k i hk
 have a:k<40:=by have:=hk.2.1;omega
 unfold jB at h
 rw[List.all_eq_true]at h
 have b:=h k (List.mem_range.2 a)
 rw[List.all_eq_true]at b
 intro c e d
 have hn:=(f.seg k).n
 exact of_decide_eq_true (b i (List.mem_range.2 (by omega))) hk c e d
theorem lW(f:Nat->Int): ∀(L l:List Nat),l.Perm L->l.Pairwise (λi j=>f i<=f j)->L.Pairwise (λi j=>f i<f j)->l=L
 | [],l,h,_,_=>h.eq_nil
 | a::L,[],h,_,_=>absurd h.length_eq (by simp)
 | a::L,b::l,h,h1,h2=>by
  rw[List.pairwise_cons]at h1 h2
  have k:b∈a::L:=h.subset (by simp)
  have g:a∈b::l:=h.symm.subset (by simp)
  have d:b=a:=by
   rcases List.mem_cons.1 k with e | e
   ·exact e
   ·have m:=h2.1 b e
    rcases List.mem_cons.1 g with c | c
    ·exact c.symm
    ·have:=h1.1 a c;omega
  subst d
  rw[lW f L l (List.perm_cons b |>.1 h) h1.2 h2.2]
theorem Sp.put_even'{s:Sp}(g:SpOK s)(c:s.mem.Even)(a b:Int)(d:List Int)(h:a<=1->(d.length:Int) % 2=0):(s.put a b d).1.mem.Even:=by
 unfold Sp.put
 split
 ·rename_i f
  obtain⟨_,e⟩:=Sp.alloc_ok g f
  exact(aT.sets _ _ _).even (e.even c h).1
 ·exact c
theorem lf{m:Mem}{g:Int}{l:List Nat}(h: ∀k:Nat,m.has k->(m.seg k).gen<=g)(b:de m [] l):m.dirtyOf g l=[]:=by
 rw[List.eq_nil_iff_forall_not_mem]
 intro c a
 obtain⟨k,hk,i,f,rfl,d,e⟩:=Mem.mem_dirty.1 a
 have:=h k (b.has hk).1
 omega
theorem qQ:(List.range 40).all (λk:Nat=>decide ((wn3.mem.seg k).gen<=0))=true:=by kernel_rfl
theorem pz:wn3.mem.limit=40/\wn6.mem.limit=40/\wn7.mem.limit=40:=⟨by kernel_rfl,by kernel_rfl,by kernel_rfl⟩
theorem qf:decide (wn3.mem.has 4)=false:=by kernel_rfl
theorem rg:([0,1,2,3,4,5]:List Nat).Pairwise (λi j=>(wn7.mem.seg i).taken< (wn7.mem.seg j).taken):=by
 obtain⟨a,b,c,d,e,f⟩:=qO
 simp only[List.pairwise_cons,List.mem_cons,List.not_mem_nil,or_false,forall_eq_or_imp,forall_eq,a,b,c,d,e,f]
 simp
theorem pA{t:Tr}(b:t.old=wnO)(d:t.cards=[])(f:seenAt t.frm 4=0){l:List Nat}(a:de wn7.mem [0] l):wn7.mem.weaks t l=[256]:=by
 have c:=a.perm
 rw[rf]at c
 rw[lW (λi=>(wn7.mem.seg i).taken) [0,1,2,3,4,5] l c a.sorted rg]
 obtain⟨g,j,m,n,o,p,q,r⟩:=qP
 unfold Mem.weaks
 rw[d]
 simp only[List.flatMap_cons,List.flatMap_nil,List.append_nil]
 have s: ∀k:Nat,¬((wn7.mem.seg k).kind=1/\t.old k=false)->wn7.mem.weakSeg t k=[]:=λk h=>by unfold Mem.weakSeg;rw[if_neg h]
 rw[s 0 (by rw[g];simp),s 1 (by rw[j];simp),s 2 (by rw[b,q];simp),s 3 (by rw[m];simp),s 5 (by rw[o];simp)]
 have e:wn7.mem.weakSeg t 4=[256]:=by
  unfold Mem.weakSeg
  rw[if_pos ⟨n,by rw[b];exact r⟩,p,show((4:Nat):Int)=4 from rfl,f]
  rfl
 rw[e];rfl
set_option maxRecDepth 100000 in
set_option maxHeartbeats 1000000 in
theorem oG{H:zV}:bD.C H (λv H'=>v=vT/\Ext H H'):=by
 refine HC.via λR hR=>bD.link ?_
 unfold bD.pt
 refine HC.mono (lI (limit:=40) (by decide)) ?_
 rintro _ H1 (⟨hc,rfl,e1⟩ | ⟨hc,b,x0,rfl,V1,hx,e1,V⟩)
 ·exact absurd (by decide) hc
 refine⟨_,_,rfl,?_⟩
 rw[if_pos rfl,onPtr_some]
 subst hx
 have ab:View H1 (some ⟨b.h,0,none⟩) (some (b,⟨wn0,vN,vN,0⟩)):=V1
 clear V1
 obtain⟨-,cs,bo⟩:=ab.inv
 intro cc H2 bh ag
 have e2:Ext H1 H2:=Ext.push' ag
 refine HC.mono (kD (ws:=[20,20]) (ab.ext e2) (show aS H2 ⟨cc,0,none⟩ 0 (wvs [20,20])from iw (aK bh ag)) rfl (by intro w hw;simp at hw;rw[hw];decide) (by decide) (by decide) (show(0:Int)<_ by decide) (by decide)) ?_
 rintro _ H3 ⟨rfl,V3,f3⟩
 have mR:ik (some (b,(⟨wn0,vN,vN,0⟩:Hp))) 10 0 [20,20]=(3,0):=by
  unfold ik;rw[if_neg (by decide),if_neg (by decide)];exact wn_1
 have mO:iD (some (b,(⟨wn0,vN,vN,0⟩:Hp))) 10 0 [20,20]=some (b,⟨wn1,vN,vN,0⟩):=by
  unfold iD;rw[if_neg (by decide),if_neg (by decide)];rfl
 rw[mO]at V3
 refine⟨3,0,by rw[mR],?_⟩
 refine HC.mono (kG V3 (by decide) (by decide) (show wn1.mem.count<_ by rw[mY.1];decide)) ?_
 rintro _ H4 ⟨rfl,V4,f4⟩
 refine⟨513,0,by rw[show putR (some (b,(⟨wn1,vN,vN,0⟩:Hp))) 0 1 [8,20]=(513,0)from wn_2],?_⟩
 have ac:View H4 (some ⟨b.h,0,none⟩) (some (b,⟨wn2,vN,vN,0⟩)):=V4
 clear V4
 refine HC.mono (kH ac (by decide) (by decide) (show wn2.mem.count<_ by rw[mY.2];decide)) ?_
 rintro _ H5 ⟨rfl,V5,f5⟩
 refine⟨1026,0,by rw[show putR (some (b,(⟨wn2,vN,vN,0⟩:Hp))) 1 2 [513,20]=(1026,0)from wn_3],?_⟩
 have b4:View H5 (some ⟨b.h,0,none⟩) (some (b,⟨wn3,vN,vN,0⟩)):=V5
 clear V5
 obtain⟨-,ct,bp⟩:=V3.inv
 obtain⟨-,cu,bq⟩:=ac.inv
 obtain⟨-,bi,a3⟩:=b4.inv
 have ba:wn0.mem.Even:=kI _
 have bb:wn1.mem.Even:=Sp.put_even' bo ba 2 3 _ (λh=>absurd h (by decide))
 have bc:wn2.mem.Even:=Sp.put_even' bp bb 0 1 _ (λ_=>by decide)
 have bd:wn3.mem.Even:=Sp.put_even' bq bc 1 2 _ (λ_=>by decide)
 have f: ∀x:Hp,∀j∈own (some (b,x)),H.size<=j:=λx j G=>V j (by simp[own]at G;simp[Blk.all];omega)
 have m: ∀j∈spB b,H.size<=j:=λj G=>V j (eR G)
 have E5:Ext H H5:=(((e1.trans e2).fr_trans f3 (f _)).fr_trans f4 (f _)).fr_trans f5 (f _)
 refine HC.mono (kM (x:=⟨wn3,vN,vN,0⟩) bi a3 bd (show wn3.cf<_ by rw[qZ.2.2.2];decide) (by decide) (by decide) (by decide)) ?_
 rintro v6 H6 ⟨cr,aw⟩
 obtain⟨q,O,rfl,T6,B,bj,f6⟩:=aw wn_s
 refine⟨_,_,rfl,?_⟩
 rw[if_pos rfl]
 have F:O.cards=[]:=by
  obtain⟨l,hl,e⟩:=B.cards
  rw[e]
  refine lf (λk hk=>?_) hl
  have am:k<40:=by have:=hk.2.1;have cn:=pz.1;rw[show(⟨wn3,vN,vN,0⟩:Hp).sp.mem=wn3.mem from rfl]at this;omega
  have h:=qQ
  rw[List.all_eq_true]at h
  exact of_decide_eq_true (h k (List.mem_range.2 am))
 have al:seenAt O.frm 4=0:=by
  unfold seenAt
  rw[B.frm 4 (by decide),if_neg (λh=>absurd h.1 (of_decide_eq_false qf))]
 have u:dx O.seen:=B.seenOK a3.mem
 have ak:dx O.frm:=by
  intro k v hv
  rcases Int.lt_or_le k 0 with hk | hk
  ·rw[B.frm0 k hk]at hv;cases hv
  ·rw[B.frm k hk]at hv
   split at hv
   ·cases hv;exact⟨_,rfl,(a3.mem.seg _).n⟩
   ·cases hv
 have au:O.tgt=0:=B.tgt
 have Q:=T6.withOld (old:=wnO) (λk hk=>B.old k hk)
 obtain⟨t,ht⟩: ∃t:Tr,t={O with old:=wnO}:=⟨_,rfl⟩
 rw[<-ht]at Q
 have E:t.old=wnO:=by rw[ht]
 have U:t.tgt=0:=by rw[ht];exact au
 have b5:t.cards=[]:=by rw[ht];exact F
 have a4:t.frm=O.frm:=by rw[ht]
 have bO:t.seen=O.seen:=by rw[ht]
 clear ht
 have b1:Tg H6 b ⟨wn4,vN,vN,0⟩ q t:=Q
 clear Q T6
 refine HC.mono (dZ b1 (w:=3) (by decide)) ?_
 rw[E,U]
 rintro _ H7 ⟨rfl,T7,f7⟩
 have b2:Tg H7 b ⟨wn5,vN,vN,0⟩ q t:=T7
 clear T7
 refine⟨1539,by rw[show((⟨wn4,vN,vN,0⟩:Hp).sp.visit wnO 0 3).2=1539 from wn_5],?_⟩
 refine HC.mono (dZ b2 (w:=1026) (by decide)) ?_
 rw[E,U]
 rintro _ H8 ⟨rfl,T8,f8⟩
 have S:Tg H8 b ⟨wn6,vN,vN,0⟩ q t:=T8
 clear T8
 refine⟨2050,by rw[show((⟨wn5,vN,vN,0⟩:Hp).sp.visit wnO 0 1026).2=2050 from wn_6],?_⟩
 refine HC.mono (ix S (by rw[bO];exact u) (by rw[U];decide)) ?_
 rintro _ H9 ⟨s9,a1,ai,-,T9,N,f9⟩
 rw[E,U]at ai
 have Y:=lc (T:=0) pz.2.1 S.ok.mem qc
 obtain⟨rfl,-⟩:=ai.settled Y S.ok.mem (by rw[bO];exact u)
 have A:Tg H9 b ⟨wn6,vN,vN,0⟩ q {t with seen:=a1}:=T9
 clear T9
 intro p y ah r
 have ae:Ext H9 y:=Ext.push' r
 have cy:y.size=H9.size+1:=by rw[r];simp
 have b0:=A.grow ae
 obtain⟨bl,bm,bn⟩:=qd
 have L: ∀i,i∈b.all\/i∈q.all->i<H9.size:=λi hi=>A.lt hi
 refine HC.mono (mi (a:=⟨p,0,none⟩) (o:=513) (g:=1539) b0 N (by show 0<=t.tgt;rw[U];decide) (by decide) (by decide) (show aS y ⟨p,0,none⟩ 0 [vu 513,vu 1539]from iw (aK ah r)) ⟨λh=>by have:=L p (.inl h);omega,λh=>by have:=L p (.inr h);omega⟩ (by show p<y.size;omega)
  ⟨by show aE t.old 513;rw[E];exact of_decide_eq_true bl,bm⟩ (.inl (by show ¬aE t.old 1539;rw[E];exact of_decide_eq_false bn))) ?_
 rintro _ aY ⟨rfl,az,d,K,-,a8,bk,be⟩
 refine⟨_,_,_,rfl,?_⟩
 have aj:dd wnO 0 wn7 a1 az d:=by
  have:dd t.old t.tgt (((wn6.visit t.old t.tgt 513).1.visit t.old t.tgt 1539).1.putsG t.tgt ((wn6.visit t.old t.tgt 513).1.visit t.old t.tgt 1539).2 (wn6.visit t.old t.tgt 513).2) a1 az d:=K
  rw[E,U]at this
  exact this
 clear K
 have ay:SpOK wn7:=by
  have h1:SpOK (wn6.visit wnO 0 513).1:=Sp.visit_ok A.ok (by decide) (λ_=>trivial)
  have h2:SpOK ((wn6.visit wnO 0 513).1.visit wnO 0 1539).1:=Sp.visit_ok h1 (by decide) (λ_=>trivial)
  exact pl h2 (by decide) _ _ (Sp.visit_word h1 (by decide)) (Sp.visit_word A.ok (by decide))
 have Z:=lc (T:=0) pz.2.2 ay.mem qe
 obtain⟨rfl,-⟩:=aj.settled Z ay.mem N
 have a9:Tg aY b ⟨wn7,vN,vN,0⟩ q {t with seen:=d}:=a8
 clear a8
 refine HC.mono (iZ a9 (by show dx t.frm;rw[a4];exact ak) (by show jx t.cards;rw[b5];intro c hc;cases hc)) ?_
 rintro _ P ⟨a2,an,aa,bf⟩
 have W:de wn7.mem [0] a2:=by
  have:de wn7.mem [t.tgt] a2:=an
  rw[U]at this;exact this
 have av:=pA (t:={t with seen:=d}) E b5 (by show seenAt t.frm 4=0;rw[a4];exact al) W
 have J:Tg P b ⟨wn8,vN,vN,0⟩ q {t with seen:=d}:=by
  have:Tg P b ⟨{wn7 with mem:=(wn7.mem.weaks {t with seen:=d} a2).foldl (brkR t.old) wn7.mem},vN,vN,0⟩ q {t with seen:=d}:=aa
  rw[av,show brkR t.old=brkR wnO by rw[E]]at this
  exact this
 clear aa
 refine HC.mono (mG J) ?_
 rintro _ z ⟨ao,-,bg⟩
 have b6:wn8.ended {t with seen:=d}=wn9:=by
  unfold Sp.ended
  show(wn8.gives t.old 1024).agains t.cards=_
  rw[E,b5];rfl
 have X:HpAt z b ⟨wn9,vN,vN,1⟩:=by
  have:HpAt z b ⟨wn8.ended {t with seen:=d},vN,vN,IntKind.wrap .u64 (0+1)⟩:=ao
  rw[b6]at this;exact this
 have ax:SpOK wn9:=Sp.gives_ok J.ok wnO 1024
 have D:View z (some ⟨b.h,0,none⟩) (some (b,⟨wn9,vN,vN,1⟩)):=.real X ax
 have I:mof (some (b,(⟨wn9,vN,vN,1⟩:Hp)))=wn9.mem:=rfl
 refine HC.mono (iM D (w:=1539) (kind:=10) (i:=0) (by decide) (by decide)) ?_
 rintro _ bW ⟨rfl,af⟩
 refine⟨2577,0,by rw[I,wn_q.1,if_pos rfl,wn_q.2],?_⟩
 refine HC.mono (il (D.ext af) (w:=2577) (by decide)) ?_
 rintro _ bX ⟨rfl,b7⟩
 have a5:=af.trans b7
 refine⟨2561,0,by rw[I,wn_a.1,if_pos rfl,wn_a.2],?_⟩
 refine HC.mono (il (D.ext a5) (w:=2050) (by decide)) ?_
 rintro _ bY ⟨rfl,b8⟩
 have a6:=a5.trans b8
 refine⟨2561,0,by rw[I,wn_b.1,if_pos rfl,wn_b.2],?_⟩
 refine HC.mono (il (D.ext a6) (w:=2561) (by decide)) ?_
 rintro _ c5 ⟨rfl,b9⟩
 refine⟨8,0,by rw[I,wn_c.1,if_pos rfl,wn_c.2],hR _ _ ⟨by rfl,?_⟩⟩
 have z5:=E5.size
 have ap: ∀j∈q.all,H.size<=j:=λj G=>by have:=bj j G;omega
 have M: ∀j∈q.s::spB b,H.size<=j:=λj G=>by
  rcases List.mem_cons.1 G with h | h
  ·rw[h];exact ap _ (by simp[TB.all])
  ·exact m j h
 have E9:Ext H H9:=(((E5.fr_trans f6 m).fr_trans f7 m).fr_trans f8 m).fr_trans f9 M
 have aV:Ext H P:=(((E9.trans ae).fr_trans be M).fr_trans bf m)
 have aX:Ext H z:=aV.fr_trans bg (λj G=>by
  rcases List.mem_cons.1 G with h | h
  ·rw[h];exact V _ (by simp[Blk.all])
  ·rcases List.mem_cons.1 h with h | h
   ·rw[h];exact ap _ (by simp[TB.all])
   ·exact m j h)
 exact aX.trans (a6.trans b9)
theorem pB{m:Mem}{sz:Int->Nat}(S:fM m sz)(f:aU m){w:Int}(s:aB w)(j:Good m sz w)(h:w % 8=3):m.isObj w/\(sz (w / 8):Int)=hn (m.get (w / 8))+1:=by
 have n:isTag w:=by unfold isTag;omega
 obtain⟨d,a⟩:=j.2 n
 have k:0<=m.kAt (w / 8)/\m.kAt (w / 8)<=3:=(f.seg (w / 8 / 64).toNat).kind
 have b:2<=m.kAt (w / 8):=by
  rw[h]at a
  unfold tagK at a
  by_cases i:m.kAt (w / 8)=0
  ·rw[if_pos i]at a;omega
  ·rw[if_neg i]at a
   by_cases r:m.kAt (w / 8)=1
   ·rw[if_pos r]at a;omega
   ·omega
 obtain⟨o,p,q⟩:=S.obj _ d b
 obtain⟨c,t⟩:=S.used _ d
 have e:=f.lim
 have l:=c.2.1.2.1
 exact⟨⟨⟨⟨by omega,by omega⟩,h,c.2.1,p,c.2.2⟩,o,by omega⟩,q⟩
section
variable {Z:TZ} {g F0:Int} {fw:Int->Option Int} {al:List Int} {s3 s4 s5:Sp} {sz:Int->Nat} {tr:Tr} {s0:Sp}
theorem iY.gd(C:iY Z s0 g tr fw al sz s3 s4 s5){w:Int}(s:aB w)(n:Good Z.m Z.sz w)(v:w % 8=3)(a:hk (Z.m.get (w / 8))=10/\hn (Z.m.get (w / 8))=2){b:Int}(H:aE Z.O w)(d:fw (w / 8)=some b)(I:Z.q b=none):
  Fw Z.O fw w=b*8+3/\aB (Fw Z.O fw w)/\s5.mem.fieldE (Fw Z.O fw w) 10 0=0/\s5.mem.fieldE (Fw Z.O fw w) 10 1=0/\s3.mem.kAt b=2/\s3.mem.kAt (b+1)=2/\s3.mem.kAt (b+2)=2/\Z.sz (w / 8)=3:=by
 have S:=C.t.S
 have J:isTag w:=by unfold isTag;omega
 have e:Fw Z.O fw w=b*8+3:=by rw[fk H d,v]
 have l:Fw Z.O fw w / 8=b:=by omega
 obtain⟨y,K⟩:=pB S.sound S.ok s n v
 have k:Z.sz (w / 8)=3:=by rw[a.2]at K;omega
 have G:Z.m.kAt (w / 8)=2:=by
  have:Z.m.kAt (w / 8)=rawK (hk (Z.m.get (w / 8))):=y.1.2.2.2.1
  rw[this,a.1];rfl
 obtain⟨B,E,-⟩:=C.t.good s n (λ_=>⟨b,d⟩)
 obtain⟨c,F,D,-⟩:=E J
 obtain⟨x,-,-⟩:=C.t.tri.goodFw S s n (λ_=>⟨b,d⟩)
 rw[l]at c D F
 have h:=(C.t.tri.img _ _ d).2.fit
 rw[k]at h
 have A:Was Z fw b (Z.m.get (w / 8)):=.inr ⟨I,.inr ⟨w / 8,b,0,d,by omega,by simp,by simp⟩⟩
 have M:=(C.t.kind c).1
 have j:s5.mem.get b=Z.m.get (w / 8):=by
  rcases C.t.get A with⟨z,P⟩ | ⟨_,r,_⟩
  ·rw[if_neg (by omega)]at z
   rw[z,ee]
   have:=y.2.1.1
   intro q
   have:=q.1.1
   omega
  ·omega
 obtain⟨u,N⟩:=pB C.inv.sound C.inv.ok.mem x B (by rw[e];omega)
 have p:s5.mem.typ (Fw Z.O fw w)=10:=by unfold Mem.typ;rw[if_pos u,l,j];exact a.1
 have o:s5.mem.len (Fw Z.O fw w)=2:=by unfold Mem.len;rw[if_pos u,l,j];exact a.2
 have f: ∀i:Int,0<=i/\i<2->s5.mem.fieldE (Fw Z.O fw w) 10 i=0:=λi L=>by
  unfold Mem.fieldE
  rw[if_neg (λq=>by rcases q with q | q;exact q u;exact q p),if_neg (by rw[o];omega)]
 refine⟨e,x,f 0 (by decide),f 1 (by decide),by omega,?_,?_,k⟩
 ·unfold Mem.kAt at*;rw[show(b+1) / 64=b / 64 by omega];omega
 ·unfold Mem.kAt at*;rw[show(b+2) / 64=b / 64 by omega];omega
theorem iY.stay(C:iY Z s0 g tr fw al sz s3 s4 s5){x:Int}(b:s3.mem.used x)(a:Z.O (x / 64).toNat=false)(hk:s3.mem.kAt x≠1\/x % 2=1):s5.mem.get x=s3.mem.get x:=by
 rw[(C.t.ended.get a).1]
 exact C.t.broke.strong x b a (λq=>by rcases hk with r | r;exact r q.1;omega)
end
theorem qg{O:Nat->Bool}{T:Int}{e:Int×Int}{s s4:Sp}{p l:List (Int×Value)}{a:List Int}(R:Rdy O T [e] s p [1] s4 l a)(hn: ∀i,i<1-> ¬Fit O s4.mem [e] a i)(A:reachedB O s.mem e.2=true):
  a=[2]/\dd O T (kY O T s e) p s4 l/\fP O T s4 l:=by
 cases R with
 | refl=>exact absurd ⟨e,rfl,rfl,A⟩ (hn 0 (by decide))
 | @step L M J K m i r h f o B I u d=>
  have x:i=0:=by
   rcases Nat.eq_zero_or_pos i with q | q
   ·exact q
   ·rw[List.getElem?_eq_none (by simp;omega)]at f;cases f
  subst x
  have k:e=r:=by simpa using f
  subst k
  cases h with
  | refl=>exact⟨rfl,u,d⟩
  | @step F G D E c j H t b z C w v n=>
   have y:j=0:=by
    rcases Nat.eq_zero_or_pos j with q | q
    ·exact q
    ·rw[List.getElem?_eq_none (by simp;omega)]at b;cases b
   subst y
   rw[List.getElem?_set_self (by
    have:=t.lost.1
    rw[this];decide)]at o
   cases o
variable{a:Int}{b:List (Int×Int)}
theorem fV.at'{m:Mem}(h:fV m a b){e:Int×Int}(c:e∈b): ∃d,Pr m e.1 a e.2 d:=by
 obtain⟨g,i,f⟩:=List.append_of_mem c
 exact⟨_,h.mem g i e f⟩
theorem Pr.isTag{m:Mem}{w b a d:Int}(h:Pr m w b a d):isTag w:=by
 have:=h.at'.2.1;have:=h.istag;unfold Go.Proofs.YtfhbhckhmnleoaaGreat.isTag;omega
structure pC (m:Mem) (gd:Int) (Wk L:List (Int×Int)) (n:Nat) (c:Int):Prop where
 gdw:aB gd
 q:QAt m gd L
 wk:fV m 2 Wk
 len:Wk.length=n
 car: ∀e∈Wk,e.2=c
theorem WbAt.heads{m:Mem}{g:Int->Nat}{d:Int}{c:List (Int×Int)}(A:WbAt m g a d b c): ∀w∈[bA c,d],aB w/\Good m g w:=λw f=>by
 simp only[List.mem_cons,List.not_mem_nil,or_false]at f
 rcases f with rfl | rfl
 ·cases c with
  | nil=>exact⟨by decide,by decide,λh=>absurd h (by decide)⟩
  | cons e l=>exact⟨A.wk.1.word,A.wkg e (by simp)⟩
 ·exact⟨A.gr.word,A.gg⟩
theorem lX{α:Type}(f:α->Nat)(c:Nat): ∀l:List α,(∀e∈l,f e=c)->(l.map f).sum=c*l.length
 | [],_=>by simp
 | e::l,h=>by
  rw[List.map_cons,List.sum_cons,lX f c l (λx a=>h x (List.mem_cons_of_mem _ a)),h e (by simp),List.length_cons,Nat.mul_add];omega
theorem qh{s0:Sp}{m:Int->Nat}{f:Tr}{g:Int}{j:List (Int×Int)}{n:Sp}{ks:List (Int×Value)}{l:List Nat}(I:Inv s0 m)(A:WbAt s0.mem m a g b j)(a1:eU s0 0 1 1=0)(B:fh s0.mem 0 1 f)(R:f.cards=[])
  (hd:dd f.old 1 ((s0.fresh (bK 0)).visL f.old 1 [bA j,g]).1 f.seen n ks) (U:fP f.old 1 n ks) (hl:de n.mem [1] l):
  ∃E D,((s0.fresh (bK 0)).visL f.old 1 [bA j,g]).2=[bA D,E]/\pC (({n with mem:=(n.mem.weaks f l).foldl (brkR f.old) n.mem}:Sp).ended f).mem E D [] j.length 44/\
   (({n with mem:=(n.mem.weaks f l).foldl (brkR f.old) n.mem}:Sp).ended f).mem.words [1]=2*j.length+3:=by
 have T:dd f.old 1 (((s0.fresh (bK 0)).visL f.old 1 [bA j,g]).1.lookCards f.old 1 f.cards) f.seen n ks:=by rw[R];exact hd
 obtain⟨J,H,sz,h,r,an⟩:=jX I (by decide) a1 B A.heads T U
 have S:=h.S
 have C:=Tri.ends (s0:=s0) S h.tri I.marked B rfl h.fin h.roots hl
 generalize ax:(({n with mem:=(n.mem.weaks f l).foldl (brkR f.old) n.mem}:Sp).ended f)=z at*
 have hV: ∀v,v∈[bA j,g]->v=bA j\/v=g:=λv hv=>by simpa using hv
 have a0:=WbAt.p_out (Z:=⟨s0.mem,m,f.old,1,(· ∈[bA j,g]),λ_=>none,[]⟩) A S hV
 have Y:J (a / 8)=none:=by
  cases hf:J (a / 8)with
  | none=>rfl
  | some bc=>exact absurd (h.tri.reach _ _ hf) a0
 have u: ∀e∈j,aE f.old e.1:=λe k=>by
  obtain⟨d,P⟩:=A.wk.at' k
  exact hD S A.young (A.wkg e k) P.isTag
 have w:aE f.old a:=hD S A.young A.pg A.pr.isTag
 obtain⟨z3,k2,gt,g3⟩:=A.three S.sound
 have p:aE f.old g:=hD S A.young A.gg gt
 obtain⟨row,dn⟩:=C.row A.wk (λe k=>⟨A.wkg e k,u e k,λ_ _=>⟨rfl,rfl⟩⟩) (h.roots _ (by simp))
 obtain⟨bc,Q⟩:=h.roots g (by simp) p
 obtain⟨ge,gw,L,M,aj,N,O,gz⟩:=C.gd A.gr.word A.gg g3 ⟨A.gr.kindEq,A.gr.lenEq⟩ p Q rfl
 have s: ∀i:Nat,i<2->z.mem.get (bc+((i+1:Nat):Int))=20:=λi hi=>by
  have g0:=A.gr.get 0 (by decide)
  have g1:=A.gr.get 1 (by decide)
  have K:s0.mem.get (g / 8+((i+1:Nat):Int))=20:=by
   have:i=0\/i=1:=by omega
   rcases this with rfl | rfl
   ·rw[show g / 8+((0+1:Nat):Int)=g / 8+1+((0:Nat):Int)by omega,g0];rfl
   ·rw[show g / 8+((1+1:Nat):Int)=g / 8+1+((1:Nat):Int)by omega,g1];rfl
  have W:Was ⟨s0.mem,m,f.old,1,(· ∈[bA j,g]),λ_=>none,[]⟩ J (bc+((i+1:Nat):Int)) 20:=.inr ⟨rfl,.inr ⟨g / 8,bc,i+1,Q,by show i+1<m (g / 8);omega,rfl,K.symm⟩⟩
  have hk:n.mem.kAt (bc+((i+1:Nat):Int))=2:=by
   have:i=0\/i=1:=by omega
   rcases this with rfl | rfl
   ·exact N
   ·exact O
  rcases C.t.get W with⟨r1,_⟩ | ⟨_,r1,_⟩
  ·rw[if_neg (by omega)]at r1
   rw[r1];exact ee (λo=>absurd o.1.1 (by decide))
  ·omega
 refine⟨_,_,?_,⟨gw,⟨⟨L,M⟩,?_,?_,λl1 e l2 q=>by simp at q,by simp⟩,row,by simp,λe k=>?_⟩,?_⟩
 ·rw[r,iP];rfl
 ·rw[ge,show(bc*8+3) / 8+1=bc+((0+1:Nat):Int)by omega];exact s 0 (by decide)
 ·rw[ge,show(bc*8+3) / 8+2=bc+((1+1:Nat):Int)by omega];exact s 1 (by decide)
 ·obtain⟨x,hx,rfl⟩:=List.mem_map.1 k
  show cV f.old J 2 x.2=44
  rw[A.wkv x hx]
  unfold cV
  rw[if_pos ⟨rfl,w,Y⟩]
 ·-- how many words
  have V: ∀x,z.mem.used x->z.mem.gAt x=1:=λx hu=>by
   obtain⟨a2,hO⟩:=C.t.used.1 hu
   rw[(C.t.kind hu).2]
   rcases C.t.tri.cover x a2 with hz | ⟨bb,bc,i,F,h2,h3⟩ | ⟨q,hq,_⟩
   ·rw[nF S A.young hz]at hO;cases hO
   ·have im:=(C.t.tri.img bb bc F).2
    have hf:=im.fit
    unfold Mem.gAt
    rw[h3,show(bc+(i:Int)) / 64=bc / 64 by omega];exact im.gen
   ·cases hq
  have w1:=C.t.words rfl C.inv.ok.mem
  have w2:z.mem.words [1]=z.mem.words []:=by
   rw[Mem.words_cnt C.inv.ok.mem,Mem.words_cnt C.inv.ok.mem]
   congr 1
   unfold Mem.cnt
   refine List.countP_congr λx _=>?_
   simp only[Bool.and_eq_true,decide_eq_true_eq]
   constructor
   ·rintro⟨q,_⟩;exact⟨q,.inl trivial⟩
   ·rintro⟨q,_⟩;exact⟨q,.inr (by rw[V _ q];simp)⟩
  have w3:s0.mem.above 0=0:=by
   unfold Mem.above Mem.cnt
   rw[List.countP_eq_zero]
   intro x _
   simp only[Bool.and_eq_true,decide_eq_true_eq]
   rintro⟨q1,q2⟩
   have:s0.mem.gAt x=0:=A.young _ q1.2.1.2.2
   omega
  have G: ∀bb,bb∈H ↔ bb∈g / 8::j.map (λe=>e.1 / 8):=λbb=>by
   rw[C.t.tri.al bb,List.mem_cons,List.mem_map]
   constructor
   ·rintro⟨c,R⟩
    rcases WbAt.reach (Z:=⟨s0.mem,m,f.old,1,(· ∈[bA j,g]),λ_=>none,[]⟩) A S hV (C.t.tri.reach _ _ R)with⟨e,k,q⟩ | q
    ·exact .inr ⟨e,k,q.symm⟩
    ·exact .inl q
   ·rintro(rfl | ⟨e,k,rfl⟩)
    ·exact⟨bc,Q⟩
    ·exact dn e k (u e k)
  have X:(g / 8::j.map (λe=>e.1 / 8)).Nodup:=by
   rw[List.nodup_cons]
   refine⟨λq=>?_,?_⟩
   ·obtain⟨e,k,q⟩:=List.mem_map.1 q
    obtain⟨d,P⟩:=A.wk.at' k
    have:s0.mem.kAt (e.1 / 8)=1:=P.at'.2.2.2.1
    rw[q]at this;omega
   ·have F:=A.nd
    unfold List.Nodup at F⊢
    rw[List.pairwise_map]at F⊢
    refine F.imp_of_mem λ{x y} hx hy az=>?_
    obtain⟨d,P⟩:=A.wk.at' hx
    obtain⟨d',P'⟩:=A.wk.at' hy
    have:=P.at'.2.1
    have:=P'.at'.2.1
    omega
  have hp:H.Perm (g / 8::j.map (λe=>e.1 / 8)):=(List.perm_ext_iff_of_nodup C.t.tri.olds.nodup X).2 G
  have hs:(H.map m).sum=3+2*j.length:=by
   rw[pc _ hp,List.map_cons,List.sum_cons,z3,List.map_map,lX _ 2 j (λe k=>?_)]
   obtain⟨d,P⟩:=A.wk.at' k
   exact(S.sound.two _ ((A.wkg e k).2 P.isTag).1 (by
    have:s0.mem.kAt (e.1 / 8)=1:=P.at'.2.2.2.1
    show s0.mem.kAt (e.1 / 8)<=1
    omega)).1
  have w1:z.mem.words []=(s0.mem.above 0:Int)+((H.map m).sum:Nat):=w1
  rw[w2,w1,w3,hs]
  omega
theorem qi{s0:Sp}{F:Int->Nat}{f:Tr}{p g:Int}{Ls L:List (Int×Int)}{z s:Sp}{ks k4:List (Int×Value)}{O:List Int}(I:Inv s0 F)(A:WbAt s0.mem F p g Ls L)(ak:eU s0 0 1 1=0)(B:fh s0.mem 0 1 f)(U:f.cards=[])
  (hd:dd f.old 1 ((s0.fresh (bK 0)).visL f.old 1 [bA L,g]).1 f.seen z ks) (b2:fP f.old 1 z ks)
  (R:Rdy f.old 1 [(p,g)] z ks (gE f.old z.mem [(p,g)]) s k4 O) (hn: ∀i,i<1-> ¬Fit f.old s.mem [(p,g)] O i):
  O=[2]/\ ∀l:List Nat,de s.mem [1] l-> ∃a9 a8 p' a0 j,((s0.fresh (bK 0)).visL f.old 1 [bA L,g]).2=[bA a8,a9]/\pC (({s with mem:=(s.mem.weaks f l).foldl (brkR f.old) s.mem}:Sp).ended f).mem a9 a8 [(j,p')] L.length p'/\
   Pr (({s with mem:=(s.mem.weaks f l).foldl (brkR f.old) s.mem}:Sp).ended f).mem p' 1 12 (bA a0)/\fV (({s with mem:=(s.mem.weaks f l).foldl (brkR f.old) s.mem}:Sp).ended f).mem 1 a0/\a0.map Prod.snd=Ls.map Prod.snd:=by
 have b0:dd f.old 1 (((s0.fresh (bK 0)).visL f.old 1 [bA L,g]).1.lookCards f.old 1 f.cards) f.seen z ks:=by rw[U];exact hd
 obtain⟨m,bD,ch,h,r,bS⟩:=jX I (by decide) ak B A.heads b0 b2
 have S:=h.S
 have hV: ∀v,v∈[bA L,g]->v=bA L\/v=g:=λv hv=>by simpa using hv
 have b8:=WbAt.p_out (Z:=⟨s0.mem,F,f.old,1,(· ∈[bA L,g]),λ_=>none,[]⟩) A S hV
 have b7:m (p / 8)=none:=by
  cases hf:m (p / 8)with
  | none=>rfl
  | some b=>exact absurd (h.tri.reach _ _ hf) b8
 have ag: ∀e∈L,aE f.old e.1:=λe D=>by
  obtain⟨d,P⟩:=A.wk.at' D
  exact hD S A.young (A.wkg e D) P.isTag
 have J:aE f.old p:=hD S A.young A.pg A.pr.isTag
 obtain⟨z3,k2,gt,g3⟩:=A.three S.sound
 have H:aE f.old g:=hD S A.young A.gg gt
 have X:=h.roots g (by simp)
 have bc:reachedB f.old z.mem p=false:=by
  have e:reachedB f.old z.mem p=dnB f.old m p:=h.tri.reachedB S A.pr.word A.pg
  rw[e]
  unfold dnB
  rw[b7,zQ (λq=>q J)];rfl
 have a2:gE f.old z.mem [(p,g)]=[1]:=by
  unfold gE
  rw[List.map_cons,List.map_nil]
  show[if reachedB f.old z.mem p=true then(0:Int)else 1]=[1]
  rw[bc];rfl
 rw[a2]at R
 have ai:reachedB f.old z.mem g=true:=by
  have e:reachedB f.old z.mem g=dnB f.old m g:=h.tri.reachedB S A.gr.word A.gg
  rw[e];exact ki.2 X
 obtain⟨rfl,b1,ac⟩:=qg R hn ai
 refine⟨rfl,λl hl=>?_⟩
 obtain⟨q',P',w,cn,sz,W⟩:=h.ready A.pr.word A.pg A.pr.isTag A.gr.word A.gg ai (p8 (n:=1) I (by decide) ak B) b1 ac
 obtain⟨b,hb⟩:=X H
 have a1:Fw f.old m g=b*8+3:=by rw[fk H hb,g3]
 have im:=(h.tri.img _ _ hb).2
 have ae:=im.fit
 rw[show(⟨s0.mem,F,f.old,1,(· ∈[bA L,g]),λ_=>none,[]⟩:TZ).sz (g / 8)=F (g / 8)from rfl,z3]at ae
 have E: ∀i:Nat,i<3->z.mem.used (b+i)/\f.old ((b+i) / 64).toNat=false/\z.mem.kAt (b+i)=2/\z.mem.get (b+i)=Fw f.old m (s0.mem.get (g / 8+i)):=λi hi=>by
  have hu:=im.here i (by show i<F (g / 8);omega)
  have e:(b+(i:Int)) / 64=b / 64:=by omega
  have ho:f.old ((b+(i:Int)) / 64).toNat=false:=by rw[e];exact im.out
  have hk:z.mem.kAt (b+i)=2:=by
   have:z.mem.kAt b=s0.mem.kAt (g / 8):=im.kind
   unfold Mem.kAt at*
   rw[e];omega
  refine⟨hu,ho,hk,(h.fin _ hu ho ⟨by omega,.inl (by omega)⟩ _ (.inr ⟨rfl,.inr ⟨g / 8,b,i,hb,by show i<F (g / 8);omega,rfl,rfl⟩⟩)).2⟩
 have hO:=S.sound.obj (g / 8) (by show F (g / 8)≠0;omega) (by show 2<=s0.mem.kAt (g / 8);omega)
 have aY:z.mem.get b=s0.mem.get (g / 8):=by
  have:=(E 0 (by decide)).2.2.2
  rw[show b+((0:Nat):Int)=b by simp,show g / 8+((0:Nat):Int)=g / 8 by simp]at this
  rw[this,ee]
  intro q
  have h1:=q.1.1
  have h2:s0.mem.get (g / 8) % 8=5:=hO.1.1
  omega
 have g0:=A.gr.get 0 (by decide)
 have g1:=A.gr.get 1 (by decide)
 have aa:z.mem.get (b+2)=20:=by
  have:=(E 2 (by decide)).2.2.2
  rw[show g / 8+((2:Nat):Int)=g / 8+1+((1:Nat):Int)by omega,g1]at this
  rw[show b+2=b+((2:Nat):Int)from rfl,this]
  exact ee (λo=>absurd o.1.1 (by decide))
 obtain⟨cm,bB,bC⟩:=h.tri.goodFw S A.gr.word A.gg X
 have G:=h.tri.gdAt S bB bC (by rw[nD];exact g3) (by
  have e8:Fw f.old m g / 8=b:=by rw[a1];omega
  show hk (z.mem.get (Fw f.old m g / 8))=10/\Go.Proofs.YtfhbhckhmnleoaaGreat.hn (z.mem.get (Fw f.old m g / 8))=2
  rw[e8,aY]
  exact⟨A.gr.kindEq,A.gr.lenEq⟩)
 rcases W.how with⟨b5,_⟩ | ⟨bu,j,aX,n1,n2,K⟩
 ·exact absurd (G.isObj h.tri).2 b5
 subst aX
 have T:=W.on
 have qn:=W.qn
 have e8:Fw f.old m g / 8=b:=by rw[a1];omega
 rw[a1]at K qn
 rw[show(b*8+3) / 8=b by omega,aa]at qn
 have a4: ∀y,q' y≠none->y=j\/y=j+1\/y=b+2\/y=b+1:=λy hy=>by
  rcases qn y hy with q | ⟨p2,e,q⟩ | q | q
  ·exact absurd rfl q
  ·have e:j=p2:=(List.cons.inj e).1
   rw[<-e]at q
   rcases q with q | q
   ·exact .inl q
   ·exact .inr (.inl q)
  ·exact .inr (.inr (.inl q))
  ·rw[if_neg (by decide)]at q
   exact .inr (.inr (.inr q))
 have ab:w (g / 8)=some b:=W.le _ _ hb
 have C:=Tri.ends (s0:=s0) T.S T.tri I.marked B rfl T.fin T.roots hl
 generalize bX:(({s with mem:=(s.mem.weaks f l).foldl (brkR f.old) s.mem}:Sp).ended f)=Q at*
 have N:=T.tri.pair j (by simp)
 have be:=(T.tri.img _ _ ab).2
 have kb:s.mem.kAt b=2:=by
  have:s.mem.kAt b=s0.mem.kAt (g / 8):=be.kind
  omega
 have a5: ∀i:Int,0<=i->i<3->s.mem.kAt (b+i)=2:=λi h0 h3=>by
  unfold Mem.kAt at*
  rw[show(b+i) / 64=b / 64 by omega];exact kb
 have N0:s.mem.kAt j=0:=N.kind
 have Ne:j % 2=0:=N.even
 have bp:=N.used.1.1
 have N1:s.mem.kAt (j+1)=0:=by
  unfold Mem.kAt at*
  rw[show(j+1) / 64=j / 64 by omega];exact N0
 have M: ∀a c,w a=some c->s0.mem.kAt a<=1->q' c=none/\q' (c+1)=none:=λa c U hk=>by
  have ic:=(T.tri.img _ _ U).2
  have ce:c % 2=0:=ic.even hk
  have kc:s.mem.kAt c=s0.mem.kAt a:=ic.kind
  have b4:c≠j:=λe=>T.tri.pim _ _ U (by rw[e];simp)
  have c0:=ic.fit.2
  have al:s.mem.kAt (c+1)=s0.mem.kAt a:=by
   unfold Mem.kAt at*
   rw[show(c+1) / 64=c / 64 by omega];exact kc
  have c8:=a5 1 (by decide) (by decide)
  have c9:=a5 2 (by decide) (by decide)
  constructor
  ·refine Classical.byContradiction λq=>?_
   rcases a4 _ q with q | q | q | q
   ·exact b4 q
   ·omega
   ·rw[q]at kc;omega
   ·rw[q]at kc;omega
  ·refine Classical.byContradiction λq=>?_
   rcases a4 _ q with q | q | q | q
   ·omega
   ·omega
   ·rw[q]at al;omega
   ·rw[q]at al;omega
 have af: ∀{a6:Int} {l:List (Int×Int)} {e:Int×Int},fV s0.mem a6 l->e∈l->s0.mem.kAt (e.1 / 8)<=1:=λ{a6 l e} hr D=>by
  obtain⟨d,P⟩:=hr.at' D
  have h1:s0.mem.kAt (e.1 / 8)=a6-1:=P.at'.2.2.2.1
  have:=P.istag
  omega
 obtain⟨row,dn⟩:=C.row A.wk (λe D=>⟨A.wkg e D,ag e D,λc U=>M _ c U (af A.wk D)⟩) (T.roots _ (.inr (by simp)))
 have ah:=T.roots p (.inl rfl)
 obtain⟨pf,b6⟩:=ah J
 obtain⟨hP,dl,-⟩:=C.pr A.pr A.pg J ah (λc U=>M _ c U (by
  have h1:s0.mem.kAt (p / 8)=1-1:=A.pr.at'.2.2.2.1
  omega))
 have a3: ∀e∈Ls,aE f.old e.1:=λe D=>by
  obtain⟨d,P⟩:=A.ls.at' D
  exact hD S A.young (A.lsg e D) P.isTag
 obtain⟨am,bJ⟩:=C.row A.ls (λe D=>⟨A.lsg e D,a3 e D,λc U=>M _ c U (af A.ls D)⟩) dl
 have bb:q' b=none:=Classical.byContradiction λq=>by
  rcases a4 _ q with q | q | q | q
  ·rw[q]at kb;omega
  ·rw[q]at kb;omega
  ·omega
  ·omega
 obtain⟨ge,gw,az,aQ,-,-,-,-⟩:=C.gd A.gr.word A.gg g3 ⟨A.gr.kindEq,A.gr.lenEq⟩ H ab bb
 have ax:cV f.old w 1 12=12:=by
  unfold cV
  rw[if_neg (λq=>absurd q.1 (by decide))]
  exact ee (λo=>absurd o.1.1 (by decide))
 have Y: ∀i:Nat,i=1\/i=2->Q.mem.get (b+i)=j*8+1:=λi hi=>by
  obtain⟨u,o,k,-⟩:=E i (by omega)
  have u4:=W.heads.used u
  rw[C.stay u4 o (.inl (by rw[a5 i (by omega) (by omega)];decide)),K (b+i) (.inl ⟨u,o⟩)]
  have m1:b+(i:Int)≠j:=λe=>n1 (e▸u)
  have m2:b+(i:Int)≠j+1:=λe=>n2 (e▸u)
  unfold iA
  rw[if_neg m1,if_neg m2,show(b*8+3) / 8=b by omega,aa]
  rcases hi with rfl | rfl
  ·rw[if_neg (by omega),if_pos (by rw[if_neg (by decide)];rfl)]
  ·rw[if_pos (show b+((2:Nat):Int)=b+2 from rfl)]
 have b9:Q.mem.get j=Fw f.old w p:=by
  rw[C.stay N.used.1 N.out (.inl (by rw[N0];decide)),K j (.inr (.inl rfl))]
  unfold iA
  rw[if_pos rfl]
 have ba:Q.mem.get (j+1)=20:=by
  rw[C.stay N.used.2 (by rw[show(j+1) / 64=j / 64 by omega];exact N.out) (.inl (by rw[N1];decide)),K (j+1) (.inr (.inr rfl))]
  unfold iA
  rw[if_neg (by omega),if_pos rfl]
 obtain⟨-,pk,-,pu,bi,-,-⟩:=C.t.pair (p:=j) (by simp)
 have bo:=C.inv.ok.mem.lim
 have br:=pu.2.1.2.1
 have V:(j*8+1) / 8=j:=by omega
 refine⟨_,_,Fw f.old w p,Ls.map (λe=>(Fw f.old w e.1,cV f.old w 1 e.2)),j*8+1,?_,⟨gw,⟨⟨az,aQ⟩,?_,?_,λl1 e l2 q=>?_,by simp⟩,row,by simp,λe D=>?_⟩,?_,am,?_⟩
 ·have aj:=h.roots (bA L) (by simp)
  rw[r,iP]
  show[Fw f.old m (bA L),Fw f.old m g]=[Fw f.old w (bA L),Fw f.old w g]
  rw[gK aj W.le,gK X W.le]
 ·show Q.mem.get (Fw f.old w g / 8+1)=j*8+1
  rw[show Fw f.old w g / 8+1=b+((1:Nat):Int)by rw[show Fw f.old w g=b*8+3 from ge];omega]
  exact Y 1 (.inl rfl)
 ·show Q.mem.get (Fw f.old w g / 8+2)=j*8+1
  rw[show Fw f.old w g / 8+2=b+((2:Nat):Int)by rw[show Fw f.old w g=b*8+3 from ge];omega]
  exact Y 2 (.inr rfl)
 ·have b3:l1=[]:=by
   cases l1 with
   | nil=>rfl
   | cons x l=>
    have:=congrArg List.length q
    simp at this
  subst b3
  rw[List.nil_append]at q
  obtain⟨rfl,rfl⟩:=List.cons.inj q
  show Q.mem.isPair (j*8+1)/\aB (j*8+1)/\(Q.mem.used ((j*8+1) / 8+0)/\Q.mem.used ((j*8+1) / 8+1))/\Q.mem.get ((j*8+1) / 8)=Fw f.old w p/\Q.mem.get ((j*8+1) / 8+1)=20
  rw[V,Int.add_zero]
  refine⟨⟨.inl ⟨⟨by omega,by omega⟩,by omega,by rw[V];exact pu.2.1,by rw[V];exact pk,by rw[V];exact pu.2.2⟩,by omega⟩,⟨by omega,by omega⟩,⟨pu,bi⟩,b9,ba⟩
 ·obtain⟨x,hx,rfl⟩:=List.mem_map.1 D
  show cV f.old w 2 x.2=_
  rw[A.wkv x hx]
  unfold cV
  rw[if_neg (λq=>by rw[b6]at q;exact absurd q.2.2 (by simp))]
 ·rw[iP]
  have hP:Pr Q.mem (Fw f.old w p) 1 (cV f.old w 1 12) (Fw f.old w (bA Ls)):=hP
  rw[ax]at hP
  exact hP
 ·rw[List.map_map]
  refine List.map_congr_left λe D=>?_
  show cV f.old w 1 e.2=e.2
  unfold cV
  rw[if_neg (λq=>absurd q.1 (by decide))]
  refine ee (λo=>A.lsv e D ?_)
  have h1:=o.1.1
  have h2:=o.2.1
  unfold isTag
  omega
variable{a:Hp}{b:Blk}{d:Int}{H:zV}{g:Int->Nat}
def sh3(a:Int):Int:=ishl .u64 (IntKind.wrap .u64 a) 3
theorem pD(a:Int):aB (sh3 a)/\sh3 a % 8=0:=by
 unfold sh3
 rw[ig 3 3 rfl (by decide)]
 exact⟨⟨by omega,by omega⟩,by omega⟩
theorem nG{c i j:Int}(V:View H (some ⟨b.h,0,none⟩) (some (b,a)))(h:Pr a.sp.mem d c i j):
  bS.C (some ⟨b.h,0,none⟩) d H (λv f=>v=.tuple #[vu i,vi 0]/\Ext H f):=by
 refine HC.mono (il V h.word) ?_
 rintro _ g ⟨rfl,e⟩
 refine⟨?_,e⟩
 rw[show(mof (some (b,a)))=a.sp.mem from rfl,h.half.1,if_pos rfl,Int.add_zero,h.car]
theorem ml{c i j:Int}(V:View H (some ⟨b.h,0,none⟩) (some (b,a)))(h:Pr a.sp.mem d c i j):
  cI.C (some ⟨b.h,0,none⟩) d H (λv f=>v=.tuple #[vu j,vi 0]/\Ext H f):=by
 refine HC.mono (lJ V h.word) ?_
 rintro _ g ⟨rfl,e⟩
 refine⟨?_,e⟩
 rw[show(mof (some (b,a)))=a.sp.mem from rfl,h.half.2,if_pos rfl,h.cdr]
theorem Bd.le{o:zV}{u v:Nat->Nat}(B:Bd H o b a g d u)(h: ∀j,u j<=v j):Bd H o b a g d v:=by
 obtain⟨c,e,i,l⟩:=B.cap.ex
 refine⟨B.live,B.inv,⟨⟨c,e,i,λk hk=>?_⟩,B.cap.gen,B.cap.lim⟩,B.cf⟩
 have m:=l k hk
 have n:=h k
 generalize a.sp.fill 0 k=f at*
 omega
theorem Bd.grow{H0 H c:zV}{u:Nat->Nat}(B:Bd H0 H b a g d u)(e:Ext H c):Bd H0 c b a g d u:=⟨B.live.grow e,B.inv,B.cap,B.cf⟩
theorem pE{g:zV}{l:Nat}(V:View g (some ⟨b.h,0,none⟩) (some (b,a)))(f:a=⟨⟨Mem.fresh l,λ_ _=>0⟩,vN,vN,0⟩)(e:Ext H g)(k: ∀i,i∈b.all->H.size<=i):Bd H g b a (λ_=>0) l (λ_=>0):=by
 obtain⟨-,j,d⟩:=V.inv
 have c: ∀m,¬a.sp.mem.used m:=λm h=>by rw[f]at h;exact absurd rfl h.2.1.2.2
 refine⟨⟨j,d,e,k⟩,⟨d,by rw[f];exact kI _,⟨λm h=>absurd rfl h,λm b h=>absurd rfl h,λm h=>absurd rfl h,λm h=>absurd rfl h,λm h=>absurd h (c m)⟩,λm h=>absurd h (c m)⟩,by rw[f];exact Cap0.fresh l,?_⟩
 rw[f]
 show(0:Int)+(l:Int)=l
 omega
structure BdL (H0 H:zV) (b:Blk) (x:Hp) (sz:Int->Nat) (F0:Int) (u:Nat->Nat) (Ls:List (Int×Int)):Prop where
 bd:Bd H0 H b x sz F0 u
 row:fV x.sp.mem 1 Ls
 good: ∀e∈Ls,Good x.sp.mem sz e.1
 num: ∀e∈Ls,¬isTag e.2
theorem lg{l:List (Int×Int)}(h:fV a.sp.mem d l)(b: ∀e∈l,Good a.sp.mem g e.1):WG a g (bA l):=by
 cases l with
 | nil=>exact⟨by decide,by decide,λh=>absurd h (by decide)⟩
 | cons e l=>exact⟨h.1.word,b e (by simp)⟩
