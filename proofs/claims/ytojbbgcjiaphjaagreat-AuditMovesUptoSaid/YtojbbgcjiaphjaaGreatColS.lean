/-
 Acts of the law of traces (package morainelaw11): words of values, what is set. Proves nothing of any one statement.
-/
import Derived.Test.YtojbbgcjiaphjaaGreatRef01
import Derived.Test.YtojbbgcjiaphjaaGreatWord
import Derived.Test.YtojbbgcjiaphjaaGreatGcB
import Derived.Test.YtojbbgcjiaphjaaGreatWords
import Derived.Test.YtojbbgcjiaphjaaGreatFaudit1
set_option linter.unusedVariables false
set_option linter.unusedSimpArgs false
namespace Go.Proofs.YtojbbgcjiaphjaaGreat
open Go
variable{H k:zV}{a:List Int}{b:Int->Nat}{d:Blk}{i:Hp}{j o:Int}{q:zW}
theorem OfIs.none{w k t a x m:Int}(h:OfIs w k t a x m):k=0 ↔ mayW w=false:=by
 unfold OfIs at h
 unfold mayW
 rcases h with h | h | h | h | h | h
 ·rw[if_pos h.1];exact⟨λe=>by omega,λe=>by simp at e⟩
 ·rw[if_neg (by omega),if_pos h.1,zX h.2.1];exact⟨λe=>by omega,λe=>by simp at e⟩
 ·rw[if_neg (by omega),if_neg (by omega),if_pos h.1,if_neg (by omega),zX (by omega)];exact⟨λe=>by omega,λe=>by simp at e⟩
 ·rw[if_neg (by omega),if_neg (by omega),if_pos h.1,if_pos h.2.1,h.2.2.1];exact⟨λe=>by omega,λe=>by simp at e⟩
 ·rw[if_neg (by omega),if_neg (by omega),if_neg (by omega),if_pos h.1,zX h.2.1];exact⟨λe=>by omega,λe=>by simp at e⟩
 ·exact⟨λ_=>h.1,λ_=>h.2.1⟩
theorem wq(x:Nat)(e:x<2 ^ 64):x &&& (2 ^ 64-8)=x / 8*8:=by
 have b:(2 ^ 64-8:Nat)=(2 ^ 61-1)<<<3:=by decide
 have c:x / 8*8=(x>>>3)<<<3:=by rw[Nat.shiftRight_eq_div_pow,Nat.shiftLeft_eq]
 rw[b,c]
 refine Nat.eq_of_testBit_eq λi=>?_
 rw[Nat.testBit_and,Nat.testBit_shiftLeft,Nat.testBit_shiftLeft,Nat.testBit_shiftRight,Nat.testBit_two_pow_sub_one]
 by_cases a:3<=i
 ·rw[show 3+(i-3)=i by omega]
  by_cases d:i<64
  ·simp[a,show i-3<61 by omega]
  ·have:x.testBit i=false:=Nat.testBit_lt_two_pow (Nat.lt_of_lt_of_le e (Nat.pow_le_pow_right (by decide) (by omega)))
   simp[this]
 ·simp[a]
theorem qO(a:aG j):lf .u64 j 7=j / 8*8:=by
 unfold lf
 have e:(~~~BitVec.ofInt IntKind.u64.bits 7:BitVec IntKind.u64.bits).toNat=2 ^ 64-8:=by decide
 rw[BitVec.toNat_and,e,ki a.1 a.2,wq _ (by have:=a.1;have:=a.2;omega),wu64 (by have:=a.1;have:=a.2;omega)]
 have:=a.1
 omega
def valW(W Of:Int)(mw:List Int):Int:=if 0<Of/\0<mw.length then mw.getD ((Of-1) % mw.length).toNat 0 else if(W % 8=0\/W % 8=4)/\mayW W=true then W else W / 8*8
theorem m0{W Of:Int}(b:aG W)(hm: ∀w∈a,aG w):aG (valW W Of a):=by
 unfold valW
 by_cases h:0<Of/\0<a.length
 ·rw[if_pos h]
  have c:((Of-1) % a.length).toNat<a.length:=by
   have:=Int.emod_nonneg (Of-1) (show(a.length:Int)≠0 by omega)
   have:=Int.emod_lt_of_pos (Of-1) (show(0:Int)<a.length by omega)
   omega
  rw[getD_at c];exact hm _ (List.getElem_mem _)
 ·rw[if_neg h]
  split
  ·exact b
  ·have:=b.1;have:=b.2;constructor<;>omega
theorem nX{W Of:Int}{n c:Nat}(F:aG W)(X:I64 Of)(y:Own H 40 1 q n c (wvs a)):bP.C W Of q n c H (λv l=>v=vu (valW W Of a)/\Ext H l):=by
 refine HC.via λR g=>bP.link ?_
 unfold bP.pt zY
 intro b D Q u
 have p:Ext H D:=Ext.push' u
 have G:=aH Q u
 have hn:n=a.length:=by have:=y.len;simpa[wvs]using this.symm
 subst hn
 refine⟨Of,by rw[addr_add_mk,aP G];rfl,?_⟩
 by_cases h:0<Of/\0<a.length
 ·rw[if_pos (by simp only[Bool.and_eq_true,decide_eq_true_eq];omega)]
  have e:Int.tmod (IntKind.wrap .i64 (Of-1)) (a.length:Int)=(Of-1) % a.length:=by rw[w64 (by omega),jz (by omega)]
  have s:=Int.emod_nonneg (Of-1) (show(a.length:Int)≠0 by omega)
  have O:=Int.emod_lt_of_pos (Of-1) (show(0:Int)<a.length by omega)
  have M:valW W Of a=a.getD ((Of-1) % a.length).toNat 0:=by unfold valW;rw[if_pos h]
  rw[M]at g
  have hk:((Of-1) % a.length).toNat<a.length:=by omega
  obtain⟨Y,P,w⟩:=(y.ext p).at (j:=((Of-1) % a.length).toNat) (v:=vu (a.getD ((Of-1) % a.length).toNat 0)) (by rw[getD_at hk];simp[wvs,hk])
  refine⟨Of,by rw[addr_add_mk,aP G];rfl,by omega,Y,P,by rw[e];exact⟨s,O⟩,_,by rw[e,Nat.mul_one];exact w,g _ _ ⟨rfl,p⟩⟩
 rw[if_neg (by simp only[Bool.and_eq_true,decide_eq_true_eq];omega)]
 have M:valW W Of a=if(W % 8=0\/W % 8=4)/\mayW W=true then W else W / 8*8:=by unfold valW;rw[if_neg h]
 rw[M]at g
 have d: ∀l,Ext D l->hat l (Addr.mk b 0 none)=some (vu W):=λl e=>e.hat (by rw[aP G];rfl)
 have K:iand .u64 W 7=W % 8:=oe 3 (by decide) F 7 (by decide)
 have r:(W % 8=0\/W % 8=4)-> ∃x:Int,hat D (Addr.mk b 0 none)=some (vu x)/\
   dR.C x D (λv o=> ∃f:Int,∃z:Int,∃U:Int,∃V:Int,∃i:Int,v=.agg #[vi f,vi z,vi U,vi V,vu i]/\
    if f=0 then(∃A:Int,hat o (Addr.mk b 0 none)=some (vu A)/\R (vu (lf .u64 A 7)) o)
    else∃B:Int,hat o (Addr.mk b 0 none)=some (vu B)/\R (vu B) o):=λT=>by
  refine⟨W,d _ (Ext.refl _),?_⟩
  refine HC.mono (tE F) ?_
  rintro v o ⟨k,t,Y,x,m,rfl,L,E⟩
  refine⟨k,t,Y,x,m,rfl,?_⟩
  have hn:=L.none
  by_cases hk:k=0
  ·rw[if_pos hk]
   have J:=hn.1 hk
   rw[if_neg (λN=>by rw[J]at N;exact absurd N.2 (by decide))]at g
   exact⟨W,d _ E,by rw[qO F];exact g _ _ ⟨rfl,p.trans E⟩⟩
  ·rw[if_neg hk]
   have J:mayW W=true:=by
    cases S:mayW W with
    | true=>rfl
    | false=>exact absurd (hn.2 S) hk
   rw[if_pos ⟨T,J⟩]at g
   exact⟨W,d _ E,g _ _ ⟨rfl,p.trans E⟩⟩
 refine⟨W,d _ (Ext.refl _),?_⟩
 rw[K]
 by_cases s:W % 8=0
 ·rw[if_pos s];exact r (.inl s)
 rw[if_neg s]
 by_cases I:W % 8=4
 ·rw[if_pos I];exact r (.inr I)
 rw[if_neg I]
 rw[if_neg (by omega)]at g
 exact⟨W,d _ (Ext.refl _),by rw[qO F];exact g _ _ ⟨rfl,p⟩⟩
theorem m4{m:Mem}{W Of:Int}(hm: ∀w∈a,Good m b w):Good m b (valW W Of a):=by
 have c: ∀v:Int,v % 8=0\/v % 8=4->Good m b v:=λv h=>⟨by omega,λe=>by unfold cE at e;omega⟩
 unfold valW
 by_cases h:0<Of/\0<a.length
 ·rw[if_pos h]
  have d:((Of-1) % a.length).toNat<a.length:=by
   have:=Int.emod_nonneg (Of-1) (show(a.length:Int)≠0 by omega)
   have:=Int.emod_lt_of_pos (Of-1) (show(0:Int)<a.length by omega)
   omega
  rw[getD_at d];exact hm _ (List.getElem_mem _)
 ·rw[if_neg h]
  by_cases q:(W % 8=0\/W % 8=4)/\mayW W=true
  ·rw[if_pos q];exact c W q.1
  ·rw[if_neg q];exact c _ (.inl (by omega))
theorem pl(hm: ∀w∈a,FW w):FW (valW j o a):=by
 unfold valW
 by_cases h:0<o/\0<a.length
 ·rw[if_pos h]
  have b:((o-1) % a.length).toNat<a.length:=by
   have:=Int.emod_nonneg (o-1) (show(a.length:Int)≠0 by omega)
   have:=Int.emod_lt_of_pos (o-1) (show(0:Int)<a.length by omega)
   omega
  rw[getD_at b];exact hm _ (List.getElem_mem _)
 ·rw[if_neg h]
  by_cases q:(j % 8=0\/j % 8=4)/\mayW j=true
  ·rw[if_pos q];exact q.1.elim .inl (λe=> .inr (.inl ⟨e,q.2⟩))
  ·rw[if_neg q];exact .inl (by omega)
theorem uw{s:Sl lJ}{n c:Nat}(A:SlOK 2 jv maxLen H s)(F:Own H 40 1 q n c (wvs a)):
  dO.C s.p s.n s.c q n c H (λv k=> ∃Z t g,v=vs Z t g/\t=((s.xs.take 62).map λv=>valW v.w v.ofv a).length/\t<=62/\Own k 40 1 Z t g (wvs ((s.xs.take 62).map λv=>valW v.w v.ofv a))/\Ext H k/\ ∀i,i∈blks Z->H.size<=i):=by
 refine HC.via λR P=>dO.link ?_
 unfold dO.pt zY
 have J:=A.len
 refine⟨λZ m g i k=>(0<=i/\i<=s.n/\i<=62)/\m=i.toNat/\Own k 40 1 Z m g (wvs ((s.xs.take i.toNat).map λv=>valW v.w v.ofv a))/\Ext H k/\ ∀j,j∈blks Z->H.size<=j,λ_ _ _ i _=>(62-i).toNat,⟨by omega,rfl,by simpa using iY,Ext.refl _,by simp⟩,?_⟩
 rintro Z m g i V ⟨U,rfl,D,l,G⟩
 by_cases f:i< (s.n:Int)/\i<62
 case neg=>
  rw[if_neg (by simpa using f)]
  have e:s.xs.take i.toNat=s.xs.take 62:=by
   by_cases O:i<62
   ·rw[List.take_of_length_le (by omega),List.take_of_length_le (by omega)]
   ·rw[show i.toNat=62 by omega]
  have I:((s.xs.take i.toNat).map λv=>valW v.w v.ofv a).length=i.toNat:=by rw[List.length_map,List.length_take];omega
  rw[e]at D I
  exact P _ _ ⟨Z,_,g,rfl,I.symm,by omega,D,l,G⟩
 rw[if_pos (by simpa using f)]
 have d:i.toNat<s.xs.length:=by omega
 obtain⟨Y,Q,r⟩:=A.row i.toNat d
 refine⟨Y,Q,⟨U.1,f.1⟩,_,_,l.rowAt r,?_⟩
 have p:=A.each _ (List.getElem_mem d)
 refine HC.mono (nX (wf_u64 p.w) (wf_i64 p.ofv) (F.ext l)) ?_
 rintro _ K ⟨rfl,x⟩
 refine⟨_,rfl,λb L S o=>?_⟩
 have y:Ext K L:=Ext.push' o
 rw[w64 (n:=i+1) (by omega)]
 have T:(62-(i+1)).toNat< (62-i).toNat:=by omega
 refine dD (ys:=wvs [valW s.xs[i.toNat].w s.xs[i.toNat].ofv a]) ((D.ext x).ext y) (dV (aH S o) _ 0 0 (λj z=>by
  simp only[wvs,List.map_cons,List.map_nil,List.length_cons,List.length_nil]at z
  obtain rfl:j=0:=by omega
  rfl)) (by simp[wvs]) (gT _) rfl (by omega) ?_
 intro X W M E N B
 have u:Ext H M:=((l.trans x).trans y).fr_trans N G
 refine⟨⟨by omega,by omega,?_,u,λj z=>?_⟩,T⟩
 ·rw[show(i+1).toNat=i.toNat+1 by omega,List.take_succ_eq_append_getElem d,List.map_append]
  simpa[wvs]using E
 ·rcases B j z with h | h
  ·exact G j h
  ·have:=((l.trans x).trans y).size;omega
theorem sr(x:Int):0<=iand .i64 x 65535/\iand .i64 x 65535<=65535:=by
 unfold iand
 have h:(BitVec.ofInt IntKind.i64.bits x &&& BitVec.ofInt IntKind.i64.bits 65535).toNat<=65535:=by
  rw[BitVec.toNat_and]
  exact Nat.le_trans Nat.and_le_right (by decide)
 rw[w64 (by omega)]
 omega
theorem vn:eI.C j H (λv f=> ∃k:Int,v=vi k/\(k=1\/k=5\/k=2)/\Ext H f):=by
 refine HC.via λR e=>eI.link ?_
 unfold eI.pt
 intro b g i a
 have c:Ext H g:=Ext.push' a
 have d:=aH i a
 have l:=sr j
 rw[jz l.1]
 generalize iand .i64 j 65535=y at*
 refine⟨by omega,?_⟩
 rcases(show(y % 3).toNat=0\/(y % 3).toNat=1\/(y % 3).toNat=2 by omega)with h | h | h
 ·rw[h];exact⟨1,by rw[addr_add_mk,aP d];rfl,e _ _ ⟨1,rfl,.inl rfl,c⟩⟩
 ·rw[h];exact⟨5,by rw[addr_add_mk,aP d];rfl,e _ _ ⟨5,rfl,.inr (.inl rfl),c⟩⟩
 ·rw[h];exact⟨2,by rw[addr_add_mk,aP d];rfl,e _ _ ⟨2,rfl,.inr (.inr rfl),c⟩⟩
structure Went (H H':zV) (b:Blk) (x:Hp) (sz:Int->Nat) (x':Hp) (sz':Int->Nat):Prop where
 view:View H' (some ⟨b.h,0,none⟩) (some (b,x'))
 inv:Inv x'.sp sz'
 lift:Lift x.sp.mem sz x'.sp.mem sz'
 cf:x'.sp.cf=x.sp.cf
 fr:Fr [b.sp,b.m,b.s] H H'
theorem Went.ext{b:Blk}{a:Int->Nat}(V:View H (some ⟨b.h,0,none⟩) (some (b,i)))(I:Inv i.sp a)(e:Ext H k):Went H k b i a i a:=⟨V.ext e,I,Lift.refl _ _,rfl,e.fr⟩
theorem Went.trans{C:zV}{b:Blk}{y z:Hp}{f g h:Int->Nat}(p:Went H k b i f y g)(q:Went k C b y g z h):Went H C b i f z h:=⟨q.view,q.inv,p.lift.trans q.lift,q.cf.trans p.cf,p.fr.trans q.fr⟩
theorem pW{x:Hp}{w i v:Int}(I:Inv x.sp b)(J:aG w)(B:Good x.sp.mem b w)(D:aG v)(l:Good x.sp.mem b v)(G:i=0\/i=1)(V:View k (some ⟨d.h,0,none⟩) (nN (some (d,x)) w i v))(f:Fr (own (some (d,x))) H k): ∃u,Went H k d x b u b/\Kp x.sp.mem b u.sp.mem b (FW v) True:=by
 have e:nN (some (d,x)) w i v=some (d,x.setMem (if x.sp.mem.isPair w then(x.sp.mem.store (w / 8+i) v).1 else x.sp.mem)):=rfl
 rw[e]at V
 refine⟨x.setMem (if x.sp.mem.isPair w then(x.sp.mem.store (w / 8+i) v).1 else x.sp.mem),?_⟩
 by_cases j:x.sp.mem.isPair w
 ·rw[if_pos j]at V⊢
  have r:=uv j
  have C:=mY r
  obtain⟨p,g⟩:=B.2 C
  have A:=(nC r).1 j
  have o:x.sp.mem.kAt (w / 8)<=1:=by
   unfold tagK at g
   by_cases s:x.sp.mem.kAt (w / 8)=0
   ·rw[s];decide
   ·rw[if_neg s]at g
    by_cases t:x.sp.mem.kAt (w / 8)=1
    ·rw[t];decide
    ·rw[if_neg t]at g;exact absurd g A
  obtain⟨K,F⟩:=I.sound.two _ p o
  have m:i.toNat<b (w / 8):=by omega
  have c:=I.sound.usedAt p m (λL=>(I.ok.mem.seg L).n.2)
  rw[show((i.toNat:Nat):Int)=i by omega]at c
  obtain⟨y,E,z⟩:=I.store (x:=w / 8+i) D l (λa q hk e=>by
   have:x.sp.mem.kAt a=x.sp.mem.kAt (w / 8):=by rw[<-e];unfold Mem.kAt;rw[c.2.1]
   omega)
  exact⟨⟨V,y,E,z,f⟩,Kp.store (by omega) (λa q=>(I.sound.used a q).1)⟩
 ·rw[if_neg j]at V⊢
  exact⟨⟨V,I,Lift.refl _ _,rfl,f⟩,.refl⟩
theorem ux{x:Hp}{w O i v:Int}(I:Inv x.sp b)(G:aG w)(C:Good x.sp.mem b w)(F:aG v)(n:Good x.sp.mem b v)(V:View k (some ⟨d.h,0,none⟩) (setO (some (d,x)) w O i v))(f:Fr (own (some (d,x))) H k): ∃u,Went H k d x b u b/\Kp x.sp.mem b u.sp.mem b (FW v) True:=by
 have e:setO (some (d,x)) w O i v=some (d,x.setMem (if x.sp.mem.fieldE w O i=0 then(x.sp.mem.store (w / 8+1+i) v).1 else x.sp.mem)):=rfl
 rw[e]at V
 refine⟨x.setMem (if x.sp.mem.fieldE w O i=0 then(x.sp.mem.store (w / 8+1+i) v).1 else x.sp.mem),?_⟩
 by_cases c:x.sp.mem.fieldE w O i=0
 ·rw[if_pos c]at V⊢
  have D:=c
  unfold Mem.fieldE at c
  by_cases l: ¬x.sp.mem.isObj w\/x.sp.mem.typ w≠O
  ·rw[if_pos l]at c;exact absurd c (by decide)
  rw[if_neg l]at c
  by_cases A:i<0\/x.sp.mem.len w<=i
  ·rw[if_pos A]at c;exact absurd c (by decide)
  have s:x.sp.mem.isObj w:=Decidable.not_not.1 λq=>l (.inl q)
  have B:=s.1.2.1
  have E:cE w:=.inr (.inr B)
  obtain⟨r,j⟩:=C.2 E
  have o:2<=x.sp.mem.kAt (w / 8):=by
   have:=(I.ok.mem.seg (w / 8 / 64).toNat).kind
   have e:x.sp.mem.kAt (w / 8)=(x.sp.mem.seg (w / 8 / 64).toNat).kind:=rfl
   unfold tagK at j
   by_cases p:x.sp.mem.kAt (w / 8)=0
   ·rw[if_pos p]at j;omega
   ·rw[if_neg p]at j
    by_cases t:x.sp.mem.kAt (w / 8)=1
    ·rw[if_pos t]at j;omega
    ·rw[e]at p t⊢;omega
  obtain⟨L,M,N⟩:=I.sound.obj _ r o
  have K:x.sp.mem.len w=hn (x.sp.mem.get (w / 8)):=by unfold Mem.len;rw[if_pos s]
  have g:=I.sound.within r (i:=(1+i).toNat) (by omega) (by omega)
  rw[show w / 8+(((1+i).toNat:Nat):Int)=w / 8+1+i by omega]at g
  obtain⟨y,J,z⟩:=I.store (x:=w / 8+1+i) F n (λa m hk e=>by rw[e]at g;exact m g)
  exact⟨⟨V,y,J,z,f⟩,Kp.store (by have:=G.1;omega) (λa m=>(I.sound.used a m).1)⟩
 ·rw[if_neg c]at V⊢
  exact⟨⟨V,I,Lift.refl _ _,rfl,f⟩,.refl⟩
set_option maxRecDepth 100000 in
theorem vo{x:Hp}{v:Int}(V:View H (some ⟨d.h,0,none⟩) (some (d,x)))(I:Inv x.sp b)(a:aG j)(G:Good x.sp.mem b j)(s:aG v)(r:Good x.sp.mem b v):
  eU.C (some ⟨d.h,0,none⟩) j o v H (λu O=>(∃k:Int,u=vi k)/\ ∃l,Went H O d x b l b/\Kp x.sp.mem b l.sp.mem b (FW v) True):=by
 refine HC.via λR z=>eU.link ?_
 unfold eU.pt
 have c: ∀{A:zV} {k:Int},Ext H A->R (vi k) A:=λ{A k} e=>z _ _ ⟨⟨k,rfl⟩,x,Went.ext V I e,.refl⟩
 refine HC.mono (ny V a) ?_
 rintro _ H1 ⟨rfl,y⟩
 refine⟨_,rfl,?_⟩
 by_cases J:(decide ((mof (some (d,x))).isPair j) && (iand .i64 (iand .i64 o 65535) 1==0))=true
 ·rw[if_pos J]
  refine HC.mono (rp (V.ext y) a s) ?_
  rintro _ H2 ⟨rfl,S,f2⟩
  obtain⟨l,W,K⟩:=pW (i:=0) I a G s r (.inl rfl) S f2
  exact⟨_,rfl,z _ _ ⟨⟨_,rfl⟩,l,(Went.ext V I y).trans W,K⟩⟩
 rw[if_neg J]
 refine HC.mono (ny (V.ext y) a) ?_
 rintro _ H3 ⟨rfl,U⟩
 have f:=y.trans U
 refine⟨_,rfl,?_⟩
 by_cases L:decide ((mof (some (d,x))).isPair j)=true
 ·rw[if_pos L]
  refine HC.mono (rq (V.ext f) a s) ?_
  rintro _ H4 ⟨rfl,T,f4⟩
  obtain⟨l,W,K⟩:=pW (i:=1) I a G s r (.inr rfl) T f4
  exact⟨_,rfl,z _ _ ⟨⟨_,rfl⟩,l,(Went.ext V I f).trans W,K⟩⟩
 rw[if_neg L]
 refine HC.mono (jY (V.ext f) a) ?_
 rintro _ H5 ⟨rfl,X⟩
 have m:=f.trans X
 refine⟨_,rfl,?_⟩
 by_cases M:(mof (some (d,x))).typ j=0
 ·rw[if_pos M];exact c m
 rw[if_neg M]
 refine HC.mono (oq (V.ext m) a) ?_
 rintro _ H6 ⟨rfl,Y⟩
 have n:=m.trans Y
 refine⟨_,rfl,?_⟩
 by_cases B:(mof (some (d,x))).len j=0
 ·rw[if_pos B];exact c n
 rw[if_neg B]
 refine HC.mono (jY (V.ext n) a) ?_
 rintro _ H7 ⟨rfl,Z⟩
 have p:=n.trans Z
 refine⟨_,rfl,?_⟩
 by_cases N:(mof (some (d,x))).typ j=2
 ·rw[if_pos N];exact c p
 rw[if_neg N]
 refine HC.mono (jY (V.ext p) a) ?_
 rintro _ H8 ⟨rfl,e8⟩
 have q:=p.trans e8
 refine⟨_,rfl,?_⟩
 by_cases w:(mof (some (d,x))).typ j=10
 ·rw[if_pos w];exact c q
 rw[if_neg w]
 refine HC.mono (jY (V.ext q) a) ?_
 rintro _ H9 ⟨rfl,e9⟩
 have t:=q.trans e9
 refine⟨_,rfl,?_⟩
 refine HC.mono (oq (V.ext t) a) ?_
 rintro _ P ⟨rfl,E⟩
 have g:=t.trans E
 refine⟨_,rfl,B,?_⟩
 have hr:=sr o
 have a5:=x.sp.mem.len_rng j
 have a4:(mof (some (d,x))).len j=x.sp.mem.len j:=rfl
 have a6:=Int.emod_nonneg (iand .i64 o 65535) B
 have a7:=Int.emod_lt_of_pos (iand .i64 o 65535) (show 0< (mof (some (d,x))).len j by omega)
 refine HC.mono (ut (V.ext g) a (by rw[jz hr.1];omega) s) ?_
 rintro _ Q ⟨rfl,D,F⟩
 obtain⟨l,W,K⟩:=ux I a G s r D F
 exact⟨_,rfl,z _ _ ⟨⟨_,rfl⟩,l,(Went.ext V I g).trans W,K⟩⟩
theorem wt{s:Sp}(p:SpOK s)(k:o=tagK j)(n: ∀w∈a,aG w)(h:(s.put j o a).2.2=0): ¬s.mem.used ((s.put j o a).2.1 / 8)/\cE (s.put j o a).2.1:=by
 have l:o=1\/o=2\/o=3:=by
  rw[k];unfold tagK
  split
  ·exact .inl rfl
  split
  ·exact .inr (.inl rfl)
  ·exact .inr (.inr rfl)
 by_cases c:(s.alloc 0 j a.length).2.2=0
 case neg=>
  have e:s.put j o a=(s,0,(s.alloc 0 j a.length).2.2):=by unfold Sp.put;rw[if_neg c]
  rw[e]at h;exact absurd h c
 have b:=pV c
 obtain⟨t,g,i,r,q,f,_⟩:=Sp.put_ok p b (show o=1\/o=2\/o=3\/o=6 by omega) n c
 have hn:1<=a.length:=by have:=b.2;omega
 have d:=i.not_in (x:=t)
 rw[g]
 show ¬s.mem.used ((t*8+o) / 8)/\cE (t*8+o)
 rw[show(t*8+o) / 8=t by omega]
 exact⟨λm=>d m ⟨by omega,by omega⟩,by unfold cE;omega⟩
theorem oy(I:Inv i.sp b)(g:0<=j/\j<=3)(p:o=tagK j)(q: ∀w∈a,aG w)(x:j<=1->a.length=2)(v:2<=j-> ∃e m,a=e::m/\kt e/\rawK (hk e)=j/\hn e=m.length)
  (u:j≠3-> ∀w∈a,Good i.sp.mem b w) (V:View k (some ⟨d.h,0,none⟩) (putO (some (d,i)) j o a)) (f:Fr (own (some (d,i))) H k):
  ∃l c,Went H k d i b l c/\Kp i.sp.mem b l.sp.mem c (∀(z:Nat) (h:z<a.length),j≠3->(2<=j->z≠0)->FW a[z]) (j≠1)/\((putR (some (d,i)) j o a).2=0->aG (putR (some (d,i)) j o a).1/\Good l.sp.mem c (putR (some (d,i)) j o a).1/\ ¬i.sp.mem.used ((putR (some (d,i)) j o a).1 / 8)/\cE (putR (some (d,i)) j o a).1):=by
 obtain⟨c,r,y,n,t,s⟩:=I.putF g p q x v u
 exact⟨{i with sp:=(i.sp.put j o a).1},c,⟨V,r,y,t,f⟩,s,λh=>⟨(n h).1,(n h).2,wt I.ok p q h⟩⟩
theorem pX{kind:Int}(I:Inv i.sp b)(e:1<=kind/\kind<=13)(C: ∀w∈a,aG w)(A:a.length<=62)(z: ∀w∈a,Good i.sp.mem b w)(V:View k (some ⟨d.h,0,none⟩) (nm (some (d,i)) kind 0 a))(f:Fr (own (some (d,i))) H k):
  ∃j c,Went H k d i b j c/\Kp i.sp.mem b j.sp.mem c (∀w∈a,FW w) True/\((kZ (some (d,i)) kind 0 a).2=0->aG (kZ (some (d,i)) kind 0 a).1/\Good j.sp.mem c (kZ (some (d,i)) kind 0 a).1/\ ¬i.sp.mem.used ((kZ (some (d,i)) kind 0 a).1 / 8)/\cE (kZ (some (d,i)) kind 0 a).1):=by
 have s:nm (some (d,i)) kind 0 a=putO (some (d,i)) (rawK kind) 3 ((0*65536+a.length*256+kind*8+5)::a):=by
  unfold nm;rw[if_neg (λq=>q ⟨e,by decide⟩),if_neg (by omega)]
 have t:kZ (some (d,i)) kind 0 a=putR (some (d,i)) (rawK kind) 3 ((0*65536+a.length*256+kind*8+5)::a):=by
  unfold kZ;rw[if_neg (λq=>q ⟨e,by decide⟩),if_neg (by omega)]
 rw[s]at V
 rw[t]
 obtain⟨r,D,E,G⟩:=tl (kind:=kind) (more:=0) (n:=a.length) e ⟨by decide,by decide⟩ A
 have F:rawK kind=2\/rawK kind=3:=by unfold rawK;split<;>omega
 have m: ∀w∈((0*65536+a.length*256+kind*8+5:Int)::a),aG w:=λw g=>by
  rcases List.mem_cons.1 g with rfl | h
  ·exact⟨by omega,by omega⟩
  ·exact C w h
 have l: ∀w∈((0*65536+a.length*256+kind*8+5:Int)::a),Good i.sp.mem b w:=λw g=>by
  rcases List.mem_cons.1 g with rfl | h
  ·have:=r.1
   exact⟨by omega,λB=>by unfold cE at B;omega⟩
  ·exact z w h
 obtain⟨j,c,u,v,x⟩:=oy I (show 0<=rawK kind/\rawK kind<=3 by omega) (by unfold tagK;rw[if_neg (by omega),if_neg (by omega)]) m (λh=>by omega) (λ_=>⟨_,a,rfl,r,by rw[D],E⟩) (λ_=>l) V f
 exact⟨j,c,u,v.mono (λy J p _ o=>by
  cases J with
  | zero=>exact absurd rfl (o (by omega))
  | succ J=>exact y (a[J]'(Nat.lt_of_succ_lt_succ p)) (List.getElem_mem (Nat.lt_of_succ_lt_succ p))) (λ_=>by omega),x⟩
structure Act (H H':zV) (b:Blk) (x:Hp) (sz:Int->Nat) (mB:zW) (made:List Int) (x':Hp) (sz':Int->Nat) (B':zW) (c':Nat) (made':List Int):Prop where
 view:View H' (some ⟨b.h,0,none⟩) (some (b,x'))
 inv:Inv x'.sp sz'
 cf:x'.sp.cf=x.sp.cf
 fr:Fr ([b.sp,b.m,b.s]++blks mB) H H'
 own:Own H' 40 1 B' made'.length c' (wvs made')
 good: ∀w∈made',aG w/\Good x'.sp.mem sz' w
 len:made'.length<=made.length+1
 blk: ∀j∈blks B',j∈blks mB\/H.size<=j
 news:made'=made\/ ∃w,made'=made++[w]/\w ∉ made/\cE w
set_option maxRecDepth 100000 in
theorem uy{c8:lT}{Y:Nat}(V:View H (some ⟨d.h,0,none⟩) (some (d,i)))(I:Inv i.sp b)(b2:i.sp.cf<4611686018427387904)(G:Own H 40 1 q a.length Y (wvs a))(hd: ∀j∈blks q,j ∉ d.all)
  (N: ∀w∈a,aG w/\Good i.sp.mem b w) (hl:a.length<=1000000000) (hA:lT.OK maxLen H c8):
  dF.C (some ⟨d.h,0,none⟩) c8.dov c8.kind c8.n c8.x.w c8.x.ofv c8.y.w c8.y.ofv c8.l.p c8.l.n c8.l.c q a.length Y H (λv H'=> ∃(B':zW) (T:Nat) (z:List Int) (u:Hp) (o:Int->Nat),v=vs B' z.length T/\Act H H' d i b q a u o B' T z/\Kp i.sp.mem b u.sp.mem o (∀w∈a,FW w) (c8.dov≠1)/\((∀w∈a,FW w)-> ∀w∈z,FW w)/\Lift i.sp.mem b u.sp.mem o):=by
 refine HC.via λR hR=>dF.link ?_
 unfold dF.pt
 intro bU H1 aZ aa
 have e1:Ext H H1:=Ext.push' aa
 have g1:=aH aZ aa
 have ae: ∀j∈blks q,j ∉ [d.sp,d.m,d.s]:=λj D cc=>hd j D (by simp at cc;simp[Blk.all];omega)
 have ba:=hA.x
 have bb:=hA.y
 have iw: ∀(v:lJ),jv.ok maxLen H v->aG v.w/\I64 v.ofv:=λv h=>⟨wf_u64 h.w,wf_i64 h.ofv⟩
 obtain⟨xw,xo⟩:=iw _ ba
 obtain⟨yw,yo⟩:=iw _ bb
 have gw: ∀w∈a,aG w:=λw h=>(N w h).1
 have gg: ∀w∈a,Good i.sp.mem b w:=λw h=>(N w h).2
 refine⟨c8.x.w,c8.x.ofv,⟨by rw[addr_add_mk,addr_add_mk,aP g1];rfl,by rw[addr_add_mk,addr_add_mk,aP g1];rfl,trivial⟩,c8.y.w,c8.y.ofv,⟨by rw[addr_add_mk,addr_add_mk,aP g1];rfl,by rw[addr_add_mk,addr_add_mk,aP g1];rfl,trivial⟩,?_⟩
 refine HC.mono (nX xw xo (G.ext e1)) ?_
 rintro _ H2 ⟨rfl,e2⟩
 have g2:=e2.get g1
 refine⟨_,rfl,⟨by rw[addr_add_mk,addr_add_mk,aP g2];rfl,by rw[addr_add_mk,addr_add_mk,aP g2];rfl,trivial⟩,?_⟩
 refine HC.mono (nX yw yo (G.ext (e1.trans e2))) ?_
 rintro _ H3 ⟨rfl,e3⟩
 have g3:=e3.get g2
 have E:=(e1.trans e2).trans e3
 have aw:=m0 xw (Of:=c8.x.ofv) gw
 have bu:=m4 (W:=c8.x.w) (Of:=c8.x.ofv) gg
 have cd:=m0 yw (Of:=c8.y.ofv) gw
 have bg:=m4 (W:=c8.y.w) (Of:=c8.y.ofv) gg
 have bs:(∀w∈a,FW w)->FW (valW c8.x.w c8.x.ofv a):=λh=>pl h
 have bf:(∀w∈a,FW w)->FW (valW c8.y.w c8.y.ofv a):=λh=>pl h
 generalize valW c8.x.w c8.x.ofv a=Z at*
 generalize valW c8.y.w c8.y.ofv a=vb at*
 have V3:=V.ext E
 have a7:(∀w∈a,FW w)-> ∀(c9:Nat) (h:c9< [Z,vb].length),FW [Z,vb][c9]:=λM c9 O=>by
  have hm:[Z,vb][c9]∈[Z,vb]:=List.getElem_mem O
  simp only[List.mem_cons,List.not_mem_nil,or_false]at hm
  rcases hm with e | e
  ·rw[e];exact bs M
  ·rw[e];exact bf M
 have hc:si (some (d,i)):=Sp.cf_count I.ok b2
 have bC:=G.lt
 have bP:=E.size
 have W3:Went H H3 d i b i b:=Went.ext V I E
 have ag: ∀{A:zV},Fr [d.sp,d.m,d.s] H A->Own A 40 1 q a.length Y (wvs a):=λ{A} f=>G.keep f ae
 have t: ∀{A:zV} {u:Hp} {o:Int->Nat},Went H A d i b u o->Kp i.sp.mem b u.sp.mem o (∀w∈a,FW w) (c8.dov≠1)->R (vs q a.length Y) A:=λ{A u o} W K=>
  hR _ _ ⟨q,Y,a,u,o,rfl,⟨W.view,W.inv,W.cf,W.fr.mono (λj D _=>List.mem_append_left _ D),ag W.fr,λw h=>⟨(N w h).1,W.lift _ (N w h).2⟩,by omega,λj D=> .inl D,.inl rfl⟩,K,λh=>h,W.lift⟩
 have J: ∀{A:zV} {u:Hp} {o:Int->Nat} (w:Int),Went H A d i b u o->Kp i.sp.mem b u.sp.mem o (∀w∈a,FW w) (c8.dov≠1)->aG w->Good u.sp.mem o w-> ¬i.sp.mem.used (w / 8)/\cE w-> ∀(a5:Nat) (H5:zV),a5=A.size->H5=A.push (.cells #[vu w] 40)->
   bR 1 40 8 [vu 0] q a.length Y (some (Addr.mk a5 0 none)) 1 H5 (λbw ap S=>R (vs bw (a.length+1) ap) S):=λ{A u o} w W K hw b5 L bV H5 b0 ac=>by
  have U:Ext A H5:=Ext.push' ac
  refine dD (ys:=wvs [w]) ((ag W.fr).ext U) (dV (aH b0 ac) _ 0 0 (λj D=>by
   simp only[wvs,List.map_cons,List.map_nil,List.length_cons,List.length_nil]at D
   obtain rfl:j=0:=by omega
   rfl)) rfl (gT _) rfl (by omega) ?_
  intro B' T S b9 X b7
  have zA:=W.fr.size
  have z5:=U.size
  have F:(a++[w]).length=a.length+1:=by simp
  have V5:=W.view.ext U
  have V6:View S (some ⟨d.h,0,none⟩) (some (d,u)):=by
   obtain⟨-,hp,ok⟩:=V5.inv
   exact .real (hp.keep X (λc9 O=>hd c9 O)) ok
  have:=hR (.slice B' (a++[w]).length T) S ⟨B',T,a++[w],u,o,rfl,⟨V6,W.inv,W.cf,((W.fr.trans U.fr).mono (λj D _=>List.mem_append_left _ D)).trans (X.mono (λj D _=>List.mem_append_right _ D)),by rw[F];simpa[wvs]using b9,λv P=>?_,by rw[F];exact Nat.le_refl _,λj D=>?_,.inr ⟨w,rfl,λhm=>L.1 (I.sound.used _ ((N w hm).2.2 L.2).1).1,L.2⟩⟩,K,λh v P=>(List.mem_append.1 P).elim (λcc=>h v cc) (λcc=>by simp at cc;rw[cc];exact .inr (.inr L.2)),W.lift⟩
  ·rw[F]at this;exact this
  ·rcases List.mem_append.1 P with cc | cc
   ·exact⟨(N v cc).1,W.lift _ (N v cc).2⟩
   ·simp at cc;rw[cc];exact⟨hw,b5⟩
  ·rcases b7 j D with cc | cc
   ·exact .inl cc
   ·exact .inr (by omega)
 refine⟨_,rfl,c8.dov,by rw[aP g3];rfl,?_⟩
 by_cases h0:c8.dov=0
 ·rw[if_pos h0]
  refine HC.mono (pL V3 aw cd hc) ?_
  rintro _ Q ⟨rfl,V4,f4⟩
  obtain⟨u,o,W4,K0,x⟩:=oy I (by decide) rfl (λw g=>by simp at g;rcases g with rfl | rfl<;>assumption) (λ_=>rfl) (λh=>by omega) (λ_ w g=>by simp at g;rcases g with rfl | rfl<;>assumption) V4 f4
  have K:=K0.mono (F':= ∀w∈a,FW w) (W':=c8.dov≠1) (λM c9 O _ _=>a7 M c9 O) (λ_=>by decide)
  refine⟨_,_,rfl,?_⟩
  have W:=W3.trans W4
  by_cases r:(putR (some (d,i)) 0 1 [Z,vb]).2=0
  ·rw[if_pos r];exact J _ W K (x r).1 (x r).2.1 (x r).2.2
  ·rw[if_neg r];exact t W K
 rw[if_neg h0]
 by_cases h1:c8.dov=1
 ·rw[if_pos h1]
  refine HC.mono (pM V3 aw cd hc) ?_
  rintro _ Q ⟨rfl,V4,f4⟩
  obtain⟨u,o,W4,K0,x⟩:=oy I (by decide) rfl (λw g=>by simp at g;rcases g with rfl | rfl<;>assumption) (λ_=>rfl) (λh=>by omega) (λ_ w g=>by simp at g;rcases g with rfl | rfl<;>assumption) V4 f4
  have K:=K0.mono (F':= ∀w∈a,FW w) (W':=c8.dov≠1) (λM c9 O _ _=>a7 M c9 O) (λcc=>absurd h1 cc)
  refine⟨_,_,rfl,?_⟩
  have W:=W3.trans W4
  by_cases r:(putR (some (d,i)) 1 2 [Z,vb]).2=0
  ·rw[if_pos r];exact J _ W K (x r).1 (x r).2.1 (x r).2.2
  ·rw[if_neg r];exact t W K
 rw[if_neg h1]
 by_cases h2:c8.dov=2
 ·rw[if_pos h2]
  refine⟨c8.kind,by rw[addr_add_mk,aP g3];rfl,c8.l.p,c8.l.n,c8.l.c,by rw[addr_add_mk,aP g3];rfl,?_⟩
  refine HC.mono vn ?_
  rintro _ Q ⟨k,rfl,hk,e4⟩
  have g4:=e4.get g3
  refine⟨_,rfl,⟨by rw[addr_add_mk,addr_add_mk,aP g4];rfl,trivial⟩,?_⟩
  have B:=E.trans e4
  refine HC.mono (uw (SlOK.ext hA.l B) (G.ext B)) ?_
  rintro _ H5 ⟨cc,n',T,rfl,b6,bl,b8,U,hq⟩
  refine⟨_,_,_,rfl,?_⟩
  have a6:=B.trans U
  have af: ∀w∈(c8.l.xs.take 62).map (λv=>valW v.w v.ofv a),aG w:=λw g=>by
   obtain⟨v,P,rfl⟩:=List.mem_map.1 g
   exact m0 (wf_u64 (hA.l.each v (List.mem_of_mem_take P)).w) gw
  have b4: ∀w∈(c8.l.xs.take 62).map (λv=>valW v.w v.ofv a),Good i.sp.mem b w:=λw g=>by
   obtain⟨v,P,rfl⟩:=List.mem_map.1 g
   exact m4 gg
  have b3:(∀w∈a,FW w)-> ∀w∈(c8.l.xs.take 62).map (λv=>valW v.w v.ofv a),FW w:=λM w g=>by
   obtain⟨v,P,rfl⟩:=List.mem_map.1 g
   exact pl M
  generalize (c8.l.xs.take 62).map (λv=>valW v.w v.ofv a)=ws at*
  refine HC.mono (pJ (ws:=ws) (V.ext a6) b8.src b6 af (by omega) (by decide) hc (by omega)) ?_
  rintro _ S ⟨rfl,V6,X⟩
  obtain⟨u,o,W6,K0,x⟩:=pX I (by omega) af (by omega) b4 V6 X
  have K:=K0.mono (F':= ∀w∈a,FW w) (W':=c8.dov≠1) b3 (λ_=>trivial)
  refine⟨_,_,rfl,?_⟩
  have W:=(Went.ext V I a6).trans W6
  by_cases r:(kZ (some (d,i)) k 0 ws).2=0
  ·rw[if_pos r];exact J _ W K (x r).1 (x r).2.1 (x r).2.2
  ·rw[if_neg r];exact t W K
 rw[if_neg h2]
 by_cases h3:c8.dov=3
 ·rw[if_pos h3]
  refine⟨c8.n,by rw[addr_add_mk,aP g3];rfl,?_⟩
  refine HC.mono (vo V3 I aw bu cd bg) ?_
  rintro _ Q ⟨⟨k,rfl⟩,u,W4,K4⟩
  exact⟨_,rfl,t (W3.trans W4) (K4.mono bf (λ_=>trivial))⟩
 rw[if_neg h3]
 by_cases h4:c8.dov=4
 ·rw[if_pos h4]
  intro bz Q b1 ab
  have e4:Ext H3 Q:=Ext.push' ab
  have B:=E.trans e4
  have ah: ∀w∈([20,20]:List Int),aG w:=λw h=>by simp at h;rw[h];decide
  have aB: ∀w∈([20,20]:List Int),Good i.sp.mem b w:=λw h=>by simp at h;rw[h];exact⟨by decide,λht=>absurd ht (by decide)⟩
  refine HC.mono (pJ (ws:=[20,20]) (V.ext B) (show fB Q (some ⟨bz,0,none⟩) (wvs [20,20])from ls (vs:=[vu 20,vu 20]) (aH b1 ab)) rfl ah (by decide) (by decide) hc (by decide)) ?_
  rintro _ S ⟨rfl,V6,X⟩
  obtain⟨u,o,W6,K0,x⟩:=pX I (by decide) ah (by decide) aB V6 X
  have K:=K0.mono (F':= ∀w∈a,FW w) (W':=c8.dov≠1) (λ_ w g=>by simp at g;rw[g];exact .inr (.inl ⟨by decide,by decide⟩)) (λ_=>trivial)
  refine⟨_,_,rfl,?_⟩
  have W:=(Went.ext V I B).trans W6
  by_cases r:(kZ (some (d,i)) 10 0 [20,20]).2=0
  ·rw[if_pos r];exact J _ W K (x r).1 (x r).2.1 (x r).2.2
  ·rw[if_neg r];exact t W K
 rw[if_neg h4]
 exact t W3 .refl
variable{a:Mem}
@[irreducible] def tops:Nat:=65536
theorem wu:tops=65536:=by unfold tops;rfl
def Mem.cnt(m:Mem)(p:Int->Bool):Nat:=(List.range tops).countP λx:Nat=>decide (m.used x) && p x
theorem Mem.words_to(m:Mem)(d:bJ m)(a:List Int): ∀k,k<=m.limit->m.sumN (m.takenTo a k)=((List.range (64*k)).countP λx:Nat=>decide (m.used x) && decide (a=[]\/m.gAt x∈a):Nat)
 | 0,_=>rfl
 | k+1,h=>by
  have hn:=(d.seg k).n
  have p:=(d.seg k).taken
  rw[Mem.takenTo_succ,oO,Mem.words_to m d a k (by omega),show 64*(k+1)=64*k+64 by omega,List.range_add,List.countP_append,List.countP_map]
  have e: ∀i:Nat,i<64->((decide (m.used ((64*k+i:Nat):Int)) && decide (a=[]\/m.gAt ((64*k+i:Nat):Int)∈a))=(decide (0< (m.seg k).taken/\(a=[]\/(m.seg k).gen∈a)) && inR 0 (m.seg k).n.toNat i)):=λi c=>by
   have f:(((64*k+i:Nat):Int) / 64).toNat=k:=by omega
   have g:((64*k+i:Nat):Int) % 64=i:=by omega
   have l:m.gAt ((64*k+i:Nat):Int)=(m.seg k).gen:=by unfold Mem.gAt;rw[f]
   have o:m.used ((64*k+i:Nat):Int) ↔ 0< (m.seg k).taken/\(i:Int)< (m.seg k).n:=by
    unfold Mem.used Mem.has
    rw[f,g]
    exact⟨λq=>⟨by omega,by omega⟩,λq=>⟨by omega,⟨by omega,by omega,by omega⟩,by omega⟩⟩
   rw[Bool.eq_iff_iff]
   unfold inR
   simp only[Bool.and_eq_true,decide_eq_true_eq]
   rw[o,l]
   exact⟨λq=>⟨⟨q.1.1,q.2⟩,by omega,by omega⟩,λq=>⟨⟨q.1.1,by omega⟩,q.1.2⟩⟩
  have j:(List.range 64).countP ((λx:Nat=>decide (m.used x) && decide (a=[]\/m.gAt x∈a)) ∘ λx=>64*k+x)=if 0< (m.seg k).taken/\(a=[]\/(m.seg k).gen∈a)then(m.seg k).n.toNat else 0:=by
   rw[List.countP_congr (q:=λi=>decide (0< (m.seg k).taken/\(a=[]\/(m.seg k).gen∈a)) && inR 0 (m.seg k).n.toNat i) (λi c=>by
    rw[List.mem_range]at c
    show((decide (m.used ((64*k+i:Nat):Int)) && decide (a=[]\/m.gAt ((64*k+i:Nat):Int)∈a))=true) ↔ _
    rw[e i c])]
   by_cases b:0< (m.seg k).taken/\(a=[]\/(m.seg k).gen∈a)
   ·rw[if_pos b]
    simp only[zX b,Bool.true_and]
    exact nD (by omega) 64 _ (by omega)
   ·rw[if_neg b]
    simp only[zQ b,Bool.false_and]
    exact List.countP_eq_zero.2 (λ_ _=>by simp)
  rw[j]
  by_cases b:0< (m.seg k).taken/\(a=[]\/(m.seg k).gen∈a)
  ·rw[if_pos b,if_pos b]
   simp[Mem.sumN];omega
  ·rw[if_neg b,if_neg b]
   simp[Mem.sumN]
theorem Mem.words_cnt(c:bJ a)(b:List Int):a.words b=(a.cnt λx=>decide (b=[]\/a.gAt x∈b):Nat):=by
 unfold Mem.words Mem.cnt
 have f:=c.lim
 rw[Mem.words_to a c b _ (Nat.le_refl _)]
 congr 1
 have g:=wu
 rw[show tops=64*a.limit+(tops-64*a.limit)by omega]
 refine(mM _ _ _ (λi d e=>?_)).symm
 rw[Bool.and_eq_false_iff]
 left
 refine zQ λq=>?_
 have:=q.2.1.2.1
 omega
theorem ku(m:Mem)(w:Int):0<=m.sizeOf w/\m.sizeOf w<=63:=by
 have:=m.len_rng w
 unfold Mem.sizeOf
 split
 ·omega
 ·split<;>omega
theorem dK.all{l:List Nat}(h:dK a [] l)(b:bJ a){k:Int}(hk:a.has k):k.toNat∈l:=by
 refine h.perm.mem_iff.2 ?_
 unfold Mem.takenTo
 rw[List.mem_filter,List.mem_range]
 obtain⟨c,d,e⟩:=hk
 have:=(b.seg k.toNat).taken
 refine⟨by omega,?_⟩
 simp
 omega
theorem lI{H:zV}{p:zW}{b:List Int}(h:fB H p (wvs b)){i:Nat}(c:i<b.length): ∃a,p=some a/\hat H (a.add (i*1))=some (vu b[i]):=by
 cases p with
 | none=>rw[SrcAt_none]at h;simp[wvs]at h;subst h;simp at c
 | some a=>
  refine⟨a,rfl,?_⟩
  have:=fD (show aQ H a 0 (wvs b)from h) i (vu b[i]) (by simp[wvs,c])
  rw[Nat.zero_add]at this;rw[Nat.mul_one];exact this
structure Alls (m:Mem) (all:List Int):Prop where
 nodup:all.Nodup
 good: ∀w∈all,aG w/\m.sizeOf w≠0
theorem uz{w:Int}(h:a.sizeOf w≠0):iZ w:=by
 unfold Mem.sizeOf at h
 by_cases c:a.isPair w
 ·rcases c.1 with q | q<;>exact q.1
 ·rw[if_neg c]at h
  by_cases b:a.isObj w
  ·exact b.1.1
  ·rw[if_neg b]at h;exact absurd rfl h
theorem Alls.len{m:Mem}{c:List Int}(h:Alls m c):c.length<=524288:=by
 have d:=mZ (λ_=>1) 524288 c h.nodup (λa f=>by
  obtain⟨i,j⟩:=h.good a f
  have:=(uz j).2
  exact⟨i.1,by show a+1<=524288;omega⟩) (λa _ b _ g=>by show a+1<=b;omega)
 have e:(c.map λ_=>1).sum=c.length:=by
  induction c with
  | nil=>rfl
  | cons a l _=>simp[List.map_const'];omega
 rw[e]at d
 rw[d]
 exact Nat.le_trans List.countP_le_length (by rw[List.length_range];exact Nat.le_refl _)
structure St (H0 H:zV) (b:Blk) (x:Hp) (sz:Int->Nat) (mB:zW) (mC:Nat) (made:List Int):Prop where
 e:Ext H0 H
 view:View H (some ⟨b.h,0,none⟩) (some (b,x))
 inv:Inv x.sp sz
 own:Own H 40 1 mB made.length mC (wvs made)
 good: ∀w∈made,aG w/\Good x.sp.mem sz w
 hb: ∀j∈b.all,H0.size<=j
 hm: ∀j∈blks mB,H0.size<=j/\j ∉ b.all
theorem St.ext{H0 H c:zV}{b:Blk}{x:Hp}{g:Int->Nat}{d:zW}{f:Nat}{a:List Int}(h:St H0 H b x g d f a)(e:Ext H c):St H0 c b x g d f a:=
 ⟨h.e.trans e,h.view.ext e,h.inv,h.own.ext e,h.good,h.hb,h.hm⟩
theorem St.blt{c H:zV}{b:Blk}{x:Hp}{g:Int->Nat}{e:zW}{f:Nat}{a:List Int}(h:St c H b x g e f a): ∀j∈b.all,j<H.size:=by
 obtain⟨-,d,-⟩:=h.view.inv
 exact d.lt
def Sp.visL(O:Nat->Bool)(T:Int)(s:Sp)(l:List Int):Sp×List Int:=l.foldl (λst w=>((st.1.visit O T w).1,st.2++[(st.1.visit O T w).2])) (s,[])
theorem Sp.visL_snoc(O:Nat->Bool)(T:Int)(s:Sp)(l:List Int)(w:Int):s.visL O T (l++[w])=(((s.visL O T l).1.visit O T w).1,(s.visL O T l).2++[((s.visL O T l).1.visit O T w).2]):=by
 unfold Sp.visL
 rw[List.foldl_append];rfl
theorem Sp.visL_len(O:Nat->Bool)(T:Int)(s:Sp)(l:List Int):(s.visL O T l).2.length=l.length:=by
 have: ∀(l:List Int) (a:Sp×List Int),(l.foldl (λa w=>((a.1.visit O T w).1,a.2++[(a.1.visit O T w).2])) a).2.length=a.2.length+l.length:=λl=>by
  induction l with
  | nil=>intro a;rfl
  | cons w l b=>intro a;simp only[List.foldl_cons];rw[b];simp;omega
 unfold Sp.visL
 rw[this];simp
def brk(O:Nat->Bool)(m:Mem)(a:Int):Mem:=if aV O (m.read a)then m.wr a 44 else m
theorem ss(O:Nat->Bool)(m:Mem)(a:Int):bS m (brk O m a):=by
 unfold brk
 split
 ·exact bS.wr m a 44
 ·exact bS.refl m
theorem xi{s:Sp}(b:SpOK s)(O:Nat->Bool)(a:Int):SpOK {s with mem:=brk O s.mem a}:=by
 unfold brk
 split
 ·exact b.wr a (by decide)
 ·exact b
theorem qP(O:Nat->Bool): ∀(l:List Int) (m:Mem),bS m (l.foldl (brk O) m)
 | [],m=>bS.refl m
 | a::l,m=>(ss O m a).trans (qP O l _)
theorem uc(O:Nat->Bool): ∀(l:List Int) {s:Sp},SpOK s->SpOK {s with mem:=l.foldl (brk O) s.mem}
 | [],s,ok=>ok
 | a::l,s,ok=>uc O l (xi ok O a)
variable{a:Tr}{b:Mem}
theorem jJ{k b x:Int}{n:Nat}:x∈jV k b n ↔ ∃j:Nat,j<n/\x=k*64+(b+2*(j:Int)):=by
 unfold jV
 rw[List.mem_map]
 constructor
 ·rintro⟨j,a,rfl⟩;rw[List.mem_range]at a;exact⟨j,a,rfl⟩
 ·rintro⟨j,a,rfl⟩;exact⟨j,by rw[List.mem_range];exact a,rfl⟩
theorem qQ(O:Nat->Bool): ¬aV O 44:=λh=>by have:=h.1.1;omega
theorem wx{O:Nat->Bool}{a x:Int}(f:b.used x):(brk O b a).get x=if x=a/\aV O (b.get x)then 44 else b.get x:=by
 have h:=f.1
 unfold brk
 by_cases e:x=a
 ·subst e
  have i:b.read x=b.get x:=by unfold Mem.read;rw[if_pos f]
  rw[i]
  by_cases c:aV O (b.get x)
  ·rw[if_pos c,if_pos ⟨rfl,c⟩]
   unfold Mem.wr;rw[if_pos f,Mem.set_get x h h,if_pos rfl]
  ·rw[if_neg c,if_neg (λq=>c q.2)]
 ·rw[if_neg (show ¬(x=a/\aV O (b.get x))from λq=>e q.1)]
  split
  ·unfold Mem.wr
   by_cases d:b.used a
   ·rw[if_pos d,Mem.set_get x h d.1,if_neg e]
   ·rw[if_neg d]
  ·rfl
theorem pY(O:Nat->Bool): ∀(l:List Int) {m:Mem} {x:Int},m.used x->(l.foldl (brk O) m).get x=if x∈l/\aV O (m.get x)then 44 else m.get x
 | [],m,x,hx=>by rw[if_neg (λq=>by simp at q)];rfl
 | a::l,m,x,hx=>by
  have b:=pY O l (m:=brk O m a) ((ss O m a).used.2 hx)
  show(l.foldl (brk O) (brk O m a)).get x=_
  rw[b,wx hx]
  by_cases e:x=a/\aV O (m.get x)
  ·rw[if_pos e,if_neg (λq=>qQ O q.2),if_pos ⟨by rw[e.1];simp,e.2⟩]
  ·rw[if_neg e]
   by_cases h:x∈l/\aV O (m.get x)
   ·rw[if_pos h,if_pos ⟨by simp[h.1],h.2⟩]
   ·rw[if_neg h,if_neg (λq=>?_)]
    rcases List.mem_cons.1 q.1 with r | r
    ·exact e ⟨r,q.2⟩
    ·exact h ⟨r,q.2⟩
theorem jZ{b a:Int}{j:Nat}:j<iH b a ↔ b+2*(j:Int)<a:=by
 unfold iH;omega
section
variable {Z:TZ} {g F0:Int} {fw:Int->Option Int} {al:List Int} {s:Sp} {sz:Int->Nat}
theorem kl.frmAt(B:kl Z.m g Z.T a){k:Int}(hk:0<=k):seenAt a.frm k=if Z.m.has k/\(Z.m.seg k.toNat).gen=Z.T then(Z.m.seg k.toNat).n else 0:=by
 unfold seenAt
 rw[B.frm k hk]
 by_cases h:Z.m.has k/\(Z.m.seg k.toNat).gen=Z.T
 ·rw[if_pos h,if_pos h]
 ·rw[if_neg h,if_neg h]
theorem qR(S:fN Z g F0)(t:Tri Z F0 fw al s sz)(B:kl Z.m g Z.T a){l:List Nat}(z:dK s.mem [Z.T] l): ∀H∈s.mem.weaks a l,s.mem.kAt H=1/\H % 2=0/\H<=1000000:=by
 intro H o
 have p:=t.ok.mem.lim
 unfold Mem.weaks at o
 rcases List.mem_append.1 o with h | h
 ·obtain⟨k,hk,h⟩:=List.mem_flatMap.1 h
  obtain⟨r,u,_,_⟩:=z.has hk
  have i:((k:Nat):Int).toNat=k:=by omega
  unfold Mem.weakSeg at h
  by_cases b:(s.mem.seg k).kind=1/\a.old k=false
  case neg=>rw[if_neg b]at h;simp at h
  rw[if_pos b]at h
  obtain⟨j,d,rfl⟩:=jJ.1 h
  rw[jZ]at d
  have hn:=(t.ok.mem.seg k).n
  have x:=B.frmAt (k:=k) (by omega)
  have w:seenAt a.frm k % 2=0/\0<=seenAt a.frm k:=by
   rw[x,i]
   by_cases q:Z.m.has k/\(Z.m.seg k).gen=Z.T
   ·rw[if_pos q]
    have A:=(t.heads.seg k (by have:=q.1.2.2;rw[i]at this;exact this)).2.1
    exact⟨S.even k (by rw[<-A,b.1];decide),(S.ok.seg k).n.1⟩
   ·rw[if_neg q];exact⟨rfl,Int.le_refl _⟩
  refine⟨?_,by omega,by omega⟩
  unfold Mem.kAt
  rw[show((k:Int)*64+(seenAt a.frm k+2*(j:Int))) / 64=k by omega,i];exact b.1
 ·obtain⟨c,b,h⟩:=List.mem_flatMap.1 h
  obtain⟨v,C,D,E⟩:=B.cardOf S c b
  have e:=t.heads.has v
  have f:s.mem.segOr c.1=s.mem.seg c.1.toNat:=by unfold Mem.segOr;rw[if_pos e]
  unfold Mem.weakCard at h
  rw[f]at h
  by_cases hk:(s.mem.seg c.1.toNat).kind=1
  case neg=>rw[if_neg hk]at h;simp at h
  rw[if_pos hk]at h
  obtain⟨j,d,rfl⟩:=jJ.1 h
  rw[jZ]at d
  have hn:=(t.ok.mem.seg c.1.toNat).n
  have F:=e.1
  have G:=e.2.1
  have y:c.2*16+2*(j:Int)< (s.mem.seg c.1.toNat).n/\c.2*16+2*(j:Int)< (c.2+1)*16:=by omega
  refine⟨?_,by omega,by omega⟩
  unfold Mem.kAt
  rw[show(c.1*64+(c.2*16+2*(j:Int))) / 64=c.1 by omega];exact hk
theorem qS(S:fN Z g F0)(t:Tri Z F0 fw al s sz)(hm:mj Z.m)(B:kl Z.m g Z.T a)(E:a.old=Z.O){l:List Nat}(G:dK s.mem [Z.T] l){x v:Int}(c:s.mem.used x)(D:Z.O (x / 64).toNat=false)(hk:s.mem.kAt x=1)(P:x % 2=0)(I:Was Z fw x v)(h:aV Z.O v):x∈s.mem.weaks a l:=by
 have C:=t.ok.mem.lim
 have L:=c.1
 have Q:=c.2.1.2.1
 unfold Mem.weaks
 rcases I with⟨d,A,o⟩ | ⟨R,b,i,d,A,o,M⟩
 ·subst o
  have f:Z.m.kAt x=1:=by rw[<-(t.kAt d).1];exact hk
  have F:=B.dirty S hm d D (by rw[f];decide) h (S.sound.good x d (by rw[f];decide))
  refine List.mem_append_right _ (List.mem_flatMap.2 ⟨_,F,?_⟩)
  have y:s.mem.segOr (x / 64)=s.mem.seg (x / 64).toNat:=by unfold Mem.segOr;rw[if_pos c.2.1]
  unfold Mem.weakCard
  rw[y,if_pos hk]
  have hn:=c.2.2
  refine jJ.2 ⟨((x % 64 % 16) / 2).toNat,?_,?_⟩
  ·rw[jZ]
   show x % 64 / 16*16+2*((((x % 64 % 16) / 2).toNat:Nat):Int)<min (s.mem.seg (x / 64).toNat).n ((x % 64 / 16+1)*16)
   omega
  ·show x=x / 64*64+(x % 64 / 16*16+2*((((x % 64 % 16) / 2).toNat:Nat):Int))
   omega
 ·have z:=(t.img R b d).2
  have N:=z.fit
  have j:x / 64=b / 64:=by omega
  have e:(s.mem.seg (x / 64).toNat).gen=Z.T:=by rw[j];exact z.gen
  have u:(x / 64).toNat∈l:=by
   refine G.perm.mem_iff.2 ?_
   unfold Mem.takenTo
   rw[List.mem_filter,List.mem_range]
   have:=c.2.1.2.2
   have:=(t.ok.mem.seg (x / 64).toNat).taken
   refine⟨by omega,?_⟩
   simp only[Bool.and_eq_true,decide_eq_true_eq,Bool.or_eq_true,List.mem_singleton]
   exact⟨by omega,.inr e⟩
  refine List.mem_append_left _ (List.mem_flatMap.2 ⟨_,u,?_⟩)
  unfold Mem.weakSeg
  rw[if_pos ⟨hk,by rw[E];exact D⟩]
  have K:(((x / 64).toNat:Nat):Int)=x / 64:=by omega
  rw[K]
  have p:=B.frmAt (k:=x / 64) (by omega)
  have w: ¬Z.m.used x:=by rw[o];exact z.new i A
  have H:seenAt a.frm (x / 64) % 2=0/\0<=seenAt a.frm (x / 64)/\seenAt a.frm (x / 64)<=x % 64:=by
   rw[p]
   by_cases q:Z.m.has (x / 64)/\(Z.m.seg (x / 64).toNat).gen=Z.T
   ·rw[if_pos q]
    have J:=(t.heads.seg (x / 64).toNat q.1.2.2).2.1
    refine⟨S.even _ (by rw[<-J];show s.mem.kAt x<=1;rw[hk];decide),(S.ok.seg _).n.1,?_⟩
    rcases Int.lt_or_le (x % 64) (Z.m.seg (x / 64).toNat).n with r | r
    ·exact absurd ⟨L,q.1,r⟩ w
    ·exact r
   ·rw[if_neg q];exact⟨rfl,Int.le_refl _,by omega⟩
  have hn:=c.2.2
  refine jJ.2 ⟨((x % 64-seenAt a.frm (x / 64)) / 2).toNat,?_,?_⟩
  ·rw[jZ];omega
  ·omega
theorem Broke.of{tr:Tr}(S:fN Z g F0)(t:Tri Z F0 fw al s sz)(hm:mj Z.m)(B:kl Z.m g Z.T tr)(o:tr.old=Z.O){l:List Nat}(f:dK s.mem [Z.T] l):Broke Z fw s {s with mem:=(s.mem.weaks tr l).foldl (brk Z.O) s.mem}:=by
 refine⟨qP _ _ _,rfl,uc _ _ t.ok,λx d i p=>?_,λx d i hk u=>?_⟩
 ·show((s.mem.weaks tr l).foldl (brk Z.O) s.mem).get x=_
  rw[pY _ _ d,if_neg (λq=>?_)]
  obtain⟨k,n,_⟩:=qR S t B f x q.1
  exact p ⟨k,n⟩
 ·show((s.mem.weaks tr l).foldl (brk Z.O) s.mem).get x=44\/ ∀v,Was Z fw x v->Dn Z.O fw v/\((s.mem.weaks tr l).foldl (brk Z.O) s.mem).get x=Fw Z.O fw v
  rw[pY _ _ d]
  by_cases q:x∈s.mem.weaks tr l/\aV Z.O (s.mem.get x)
  ·rw[if_pos q];exact .inl rfl
  ·rw[if_neg q]
   right
   intro v j
   have a:s.mem.get x=v:=by
    rcases t.val x v j with r | ⟨r,_⟩
    ·exact r
    ·have:=r.2.resolve_left (λe=>e hk);omega
   have b: ¬aV Z.O v:=λc=>q ⟨qS S t hm B o f d i hk u j c,by rw[a];exact c⟩
   exact⟨λh=>absurd h b,by rw[kA b];exact a⟩
theorem Tri.visL(S:fN Z g F0): ∀(l:List Int) {fw:Int->Option Int} {al:List Int} {s:Sp} {sz:Int->Nat} {acc:List Int} (t:Tri Z F0 fw al s sz),(∀w∈l,Z.V w)-> ∃b d j,Tri Z F0 b d (l.foldl (λ(c:Sp×List Int) w=>((c.1.visit Z.O Z.T w).1,c.2++[(c.1.visit Z.O Z.T w).2])) (s,acc)).1 j/\Le fw b/\
  (l.foldl (λ(c:Sp×List Int) w=>((c.1.visit Z.O Z.T w).1,c.2++[(c.1.visit Z.O Z.T w).2])) (s,acc)).2=acc++l.map (Fw Z.O b)/\ ∀w∈l,Dn Z.O b w
 | [],fw,al,s,sz,acc,t,_=>⟨fw,al,sz,t,Le.refl _,by simp,λw h=>by cases h⟩
 | w::l,fw,al,s,sz,acc,t,h=>by
  have n:=h w (by simp)
  obtain⟨y,z⟩:=S.V w n
  obtain⟨q,o,v,V⟩:=t.visit S y z (λr=> .root n r)
  obtain⟨f,e,k,x,i,u,p⟩:=Tri.visL S l (acc:=acc++[(s.visit Z.O Z.T w).2]) V.tri (λm a=>h m (by simp[a]))
  refine⟨f,e,k,x,V.le.trans i,?_,λm a=>?_⟩
  ·simp only[List.foldl_cons]
   rw[u,V.val,<-pj V.dn i]
   simp
  ·rcases List.mem_cons.1 a with rfl | a
   ·exact V.dn.mono i
   ·exact p m a
end
theorem Sp.look_cf(s:Sp)(old:Nat->Bool)(T seg a b:Int): ∀n,(s.look old T seg a b n).cf=s.cf
 | 0=>rfl
 | n+1=>by
  unfold Sp.look
  split
  ·rw[Sp.lookAt_cf,Sp.look_cf s old T seg a b n]
  ·exact Sp.look_cf s old T seg a b n
theorem Sp.visL_cf(O:Nat->Bool)(T:Int)(s:Sp)(l:List Int):(s.visL O T l).1.cf=s.cf:=by
 have: ∀(l:List Int) (a:Sp×List Int),(l.foldl (λa w=>((a.1.visit O T w).1,a.2++[(a.1.visit O T w).2])) a).1.cf=a.1.cf:=λl=>by
  induction l with
  | nil=>intro a;rfl
  | cons w l b=>intro a;simp only[List.foldl_cons];rw[b];exact Sp.visit_cf _ _ _ _
 exact this l (s,[])
theorem Sp.lookCards_cf(old:Nat->Bool)(T:Int): ∀(l:List (Int×Int)) (s:Sp),(s.lookCards old T l).cf=s.cf
 | [],s=>rfl
 | c::l,s=>by
  show((s.lookCard old T c).lookCards old T l).cf=_
  rw[Sp.lookCards_cf old T l]
  exact Sp.look_cf _ _ _ _ _ _ _
theorem uA{old:Nat->Bool}{T:Int}{a s:Sp}{c d:List (Int×Value)}(h:jQ old T a c s d):s.cf=a.cf:=by
 induction h with
 | refl=>rfl
 | step k _ hk e f hn b=>rw[Sp.look_cf,b]
theorem Mem.again_lim(m:Mem)(k c:Int):(m.again k c).count=m.count/\(m.again k c).free=m.free:=by
 unfold Mem.again
 split
 ·exact⟨Mem.mark_lim.2.2,Mem.mark_lim.2.1⟩
 ·exact⟨rfl,rfl⟩
theorem Sp.agains_cf: ∀(l:List (Int×Int)) (s:Sp),(s.agains l).cf=s.cf
 | [],s=>rfl
 | c::l,s=>by
  show(({s with mem:=s.mem.again c.1 c.2}:Sp).agains l).cf=_
  rw[Sp.agains_cf l]
  unfold Sp.cf
  show(s.mem.again c.1 c.2).count+(s.mem.again c.1 c.2).free=_
  rw[(Mem.again_lim _ _ _).1,(Mem.again_lim _ _ _).2]
theorem Sp.give_cf(s:Sp)(k:Int):(s.give k).cf<=s.cf+1:=by
 unfold Sp.give
 split
 ·rename_i h
  unfold Sp.cf
  show(s.mem.give k).count+(s.mem.give k).free<=_
  unfold Mem.give
  rw[if_pos h]
  show s.mem.count+(s.mem.free+1)<=_
  omega
 ·omega
theorem Sp.gives_cf(s:Sp)(old:Nat->Bool): ∀n:Nat,(s.gives old n).cf<=s.cf+n
 | 0=>by show s.cf<=s.cf+0;omega
 | n+1=>by
  have:=Sp.gives_cf s old n
  unfold Sp.gives
  split
  ·have:=Sp.give_cf (s.gives old n) n
   omega
  ·omega
theorem Sp.ended_cf(s:Sp)(t:Tr):(s.ended t).cf<=s.cf+1024:=by
 unfold Sp.ended
 rw[Sp.agains_cf]
 exact Sp.gives_cf s t.old 1024
theorem tF{s:Sp}(c:SpOK s)(b:s.mem.Even)(t:Tr):(s.ended t).mem.Even:=by
 obtain⟨_,a⟩:=Sp.gives_seg s t.old 1024
 obtain⟨u,_⟩:=Sp.agains_spec t.cards (Sp.gives_ok c t.old 1024)
 intro k
 show((s.gives t.old 1024).agains t.cards |>.mem.seg k).kind<=1->_
 obtain⟨f,d,e,_⟩:=u.seg k
 show(((s.gives t.old 1024).agains t.cards).mem.seg k).kind<=1->(((s.gives t.old 1024).agains t.cards).mem.seg k).n % 2=0
 rw[d,e,a k]
 split
 ·intro _;rfl
 ·exact b k
theorem su(c:bJ b){g:Int}(d:0<=g):(List.range 1024).countP (λk=>b.young g k)=b.nyoung g:=by
 have m:=c.lim
 have a:fM g≠[]:=λh=>by
  have:(0:Int)∈fM g:=lG.2 ⟨Int.le_refl _,d⟩
  rw[h]at this;cases this
 unfold Mem.nyoung Mem.takenTo
 rw[<-List.countP_eq_length_filter,show(1024:Nat)=b.limit+(1024-b.limit)by omega,mM _ _ _ (λi j l=>?_)]
 ·refine List.countP_congr λk hk=>?_
  rw[List.mem_range]at hk
  have f:=(c.seg k).taken
  have e:=(c.seg k).gen
  unfold Mem.young Mem.has
  simp only[decide_eq_true_eq,Bool.and_eq_true,Bool.or_eq_true,List.isEmpty_iff,a,false_or,lG]
  rw[show((k:Nat):Int).toNat=k by omega]
  exact⟨λq=>⟨by omega,by omega⟩,λq=>⟨⟨by omega,by omega,by omega⟩,by omega⟩⟩
 ·unfold Mem.young
  refine zQ λq=>?_
  have:=q.1.2.1
  omega
theorem xj{Z:TZ}{g:Int}(f:bJ Z.m)(d:0<=g)(c: ∀k:Nat,k<1024->Z.O k=Z.m.young g k):(Z.yk 0:Int)+Z.yk 1+Z.yk 2+Z.yk 3<=Z.m.nyoung g:=by
 rw[<-su f d]
 have h:Z.yk 0+Z.yk 1+Z.yk 2+Z.yk 3<=(List.range 1024).countP (λk=>Z.m.young g k):=by
  unfold TZ.yk
  rw[<-mi,<-mi,<-mi]
  ·refine List.countP_mono_left λk hk h=>?_
   rw[List.mem_range]at hk
   rw[<-c k hk]
   cases e:Z.O k with
   | true=>rfl
   | false=>rw[e]at h;simp at h
  all_goals
   intro x _ a b
   simp only[Bool.and_eq_true,Bool.or_eq_true,decide_eq_true_eq]at a b
   simp[b.2]at a
 omega
theorem kl.frmOK{g T:Int}(h:kl b g T a)(d:bJ b):jT a.frm:=by
 intro k v c
 rcases Int.lt_or_le k 0 with hk | hk
 ·rw[h.frm0 k hk]at c;cases c
 rw[h.frm k hk]at c
 split at c
 ·cases c
  exact⟨_,rfl,(d.seg _).n⟩
 ·cases c
theorem vq{l:List Nat}{T:Int}(p:bJ b)(t:jT a.frm)(e:nT a.cards)(r:dK b [T] l): ∀u∈b.weaks a l,u<=1000000:=by
 intro u i
 have m:=p.lim
 unfold Mem.weaks at i
 rcases List.mem_append.1 i with h | h
 ·obtain⟨k,hk,h⟩:=List.mem_flatMap.1 h
  obtain⟨_,o,_,_⟩:=r.has hk
  unfold Mem.weakSeg at h
  by_cases d:(b.seg k).kind=1/\a.old k=false
  case neg=>rw[if_neg d]at h;simp at h
  rw[if_pos d]at h
  obtain⟨j,f,rfl⟩:=jJ.1 h
  rw[jZ]at f
  have hn:=(p.seg k).n
  omega
 ·obtain⟨c,d,h⟩:=List.mem_flatMap.1 h
  have q:=e c d
  unfold Mem.weakCard at h
  by_cases hk:(b.segOr c.1).kind=1
  case neg=>rw[if_neg hk]at h;simp at h
  rw[if_pos hk]at h
  obtain⟨j,f,rfl⟩:=jJ.1 h
  rw[jZ]at f
  omega
theorem ml{H:zV}{b:Blk}{x:Hp}{q:TB}{t:Tr}(T:Tc H b x q t):iW.C (some ⟨q.t,0,none⟩) H (λv a=>v=.bool t.over/\a=H):=by
 refine HC.via λR c=>iW.link ?_
 unfold iW.pt
 rw[onPtr_some]
 have h:eN.C (some ⟨q.t,0,none⟩) H (λv a=>v=.bool t.over/\a=H):=by
  refine HC.via λR c=>eN.link ?_
  unfold eN.pt
  refine HC.mono (lu T) ?_
  rintro _ _ ⟨rfl,rfl⟩
  exact⟨_,rfl,c _ _ ⟨rfl,rfl⟩⟩
 refine HC.mono h ?_
 rintro _ _ ⟨rfl,rfl⟩
 exact⟨_,rfl,c _ _ ⟨rfl,rfl⟩⟩
variable{H:zV}{a:Blk}{b:Hp}{d:Tr}{i:Mem}{j:TB}{k:zW}
def brkR(O:Nat->Bool)(m:Mem)(a:Int):Mem:=if aV O (m.read a)then m.wr a ((m.fwd (m.read a)).getD 44)else m
theorem qT(a:bJ i)(w:Int):aG ((i.fwd w).getD 44):=by
 unfold Mem.fwd
 split
 ·have:=(a.seg (w / 8 / 64).toNat).words (w / 8 % 64).toNat
  have h:aG (i.get (w / 8)):=(a.seg _).words _
  unfold aG at h⊢
  show 0<=i.get (w / 8) / 8*8+w % 8/\_
  simp only[Option.getD_some]
  omega
 ·decide
theorem lV(O:Nat->Bool)(m:Mem)(a:Int):bS m (brkR O m a):=by
 unfold brkR
 split
 ·exact bS.wr m a _
 ·exact bS.refl m
theorem wy{s:Sp}(b:SpOK s)(O:Nat->Bool)(a:Int):SpOK {s with mem:=brkR O s.mem a}:=by
 unfold brkR
 split
 ·exact b.wr a (qT b.mem _)
 ·exact b
theorem pZ(O:Nat->Bool): ∀(l:List Int) (m:Mem),bS m (l.foldl (brkR O) m)
 | [],m=>bS.refl m
 | a::l,m=>(lV O m a).trans (pZ O l _)
theorem sv(O:Nat->Bool): ∀(l:List Int) {s:Sp},SpOK s->SpOK {s with mem:=l.foldl (brkR O) s.mem}
 | [],s,ok=>ok
 | a::l,s,ok=>sv O l (wy ok O a)
theorem qa{O:Nat->Bool}{m:Mem}{a x:Int}(d:m.used x):(brkR O m a).get x=if x=a/\aV O (m.get x)then(m.fwd (m.get x)).getD 44 else m.get x:=by
 have f:=d.1
 unfold brkR
 by_cases e:x=a
 ·subst e
  have h:m.read x=m.get x:=by unfold Mem.read;rw[if_pos d]
  rw[h]
  by_cases b:aV O (m.get x)
  ·rw[if_pos b,if_pos ⟨rfl,b⟩]
   unfold Mem.wr;rw[if_pos d,Mem.set_get x f f,if_pos rfl]
  ·rw[if_neg b,if_neg (λq=>b q.2)]
 ·rw[if_neg (show ¬(x=a/\aV O (m.get x))from λq=>e q.1)]
  split
  ·unfold Mem.wr
   by_cases c:m.used a
   ·rw[if_pos c,Mem.set_get x f c.1,if_neg e]
   ·rw[if_neg c]
  ·rfl
theorem vt{O:Nat->Bool}{a w:Int}(d:O (a / 64).toNat=false)(f:aV O w):(brkR O i a).fwd w=i.fwd w:=by
 unfold Mem.fwd
 by_cases b:i.used (w / 8)
 ·have e:(brkR O i a).get (w / 8)=i.get (w / 8):=by
   rw[qa b,if_neg]
   rintro⟨h,_⟩
   have:=f.2.2
   rw[h,d]at this;cases this
  rw[e]
  have c:=(lV O i a).used.2 b
  exact kH ⟨λq=>⟨b,q.2⟩,λq=>⟨c,q.2⟩⟩ _ _
 ·rw[if_neg (λq=>b ((lV O i a).used.1 q.1)),if_neg (λq=>b q.1)]
theorem qU(O:Nat->Bool): ∀(l:List Int) {m:Mem} {x:Int},(∀a∈l,O (a / 64).toNat=false)->(aV O (m.get x)-> ∀v,m.fwd (m.get x)=some v-> ¬aV O v)->m.used x->
  (l.foldl (brkR O) m).get x=if x∈l/\aV O (m.get x)then(m.fwd (m.get x)).getD 44 else m.get x
 | [],m,x,_,_,hx=>by rw[if_neg (λq=>by simp at q)];rfl
 | a::l,m,x,hl,hf,hx=>by
  have k:=hl a (by simp)
  have d: ∀w,aV O w->(brkR O m a).fwd w=m.fwd w:=λw o=>vt k o
  have f:aV O (m.get x)-> ¬aV O ((m.fwd (m.get x)).getD 44):=λe=>by
   cases i:m.fwd (m.get x)with
   | none=>exact qQ O
   | some v=>exact hf e v i
  have j:=qa (O:=O) (a:=a) hx
  have p:=qU O l (m:=brkR O m a) (x:=x) (λb n=>hl b (by simp[n])) (λc v i=>by
   by_cases e:x=a/\aV O (m.get x)
   ·rw[j,if_pos e]at c;exact absurd c (f e.2)
   ·rw[j,if_neg e]at c i
    exact hf c v (by rw[<-d _ c];exact i)) ((lV O m a).used.2 hx)
  show(l.foldl (brkR O) (brkR O m a)).get x=_
  rw[p,j]
  by_cases e:x=a/\aV O (m.get x)
  ·rw[if_pos e,if_neg (λq=>f e.2 q.2),if_pos ⟨by rw[e.1];simp,e.2⟩]
  ·rw[if_neg e]
   by_cases h:x∈l/\aV O (m.get x)
   ·rw[if_pos h,if_pos ⟨by simp[h.1],h.2⟩,d _ h.2]
   ·rw[if_neg h,if_neg (λq=>?_)]
    rcases List.mem_cons.1 q.1 with r | r
    ·exact e ⟨r,q.2⟩
    ·exact h ⟨r,q.2⟩
section
variable {Z:TZ} {g F0:Int} {fw:Int->Option Int} {al:List Int} {s:Sp} {sz:Int->Nat}
theorem uB(S:fN Z g F0)(t:Tri Z F0 fw al s sz)(B:kl Z.m g Z.T d)(r:d.old=Z.O){l:List Nat}(y:dK s.mem [Z.T] l): ∀a∈s.mem.weaks d l,Z.O (a / 64).toNat=false:=by
 intro a f
 have i:=t.ok.mem.lim
 unfold Mem.weaks at f
 rcases List.mem_append.1 f with h | h
 ·obtain⟨k,hk,h⟩:=List.mem_flatMap.1 h
  have v:((k:Nat):Int).toNat=k:=by omega
  unfold Mem.weakSeg at h
  by_cases b:(s.mem.seg k).kind=1/\d.old k=false
  case neg=>rw[if_neg b]at h;simp at h
  rw[if_pos b]at h
  obtain⟨j,e,rfl⟩:=jJ.1 h
  rw[jZ]at e
  have hn:=(t.ok.mem.seg k).n
  have u:=B.frmAt (k:=k) (by omega)
  have q:0<=seenAt d.frm k:=by
   rw[u]
   split
   ·exact(S.ok.seg _).n.1
   ·exact Int.le_refl _
  rw[show((k:Int)*64+(seenAt d.frm k+2*(j:Int))) / 64=k by omega,v,<-r];exact b.2
 ·obtain⟨c,b,h⟩:=List.mem_flatMap.1 h
  obtain⟨o,p,w,x⟩:=B.cardOf S c b
  unfold Mem.weakCard at h
  by_cases hk:(s.mem.segOr c.1).kind=1
  case neg=>rw[if_neg hk]at h;simp at h
  rw[if_pos hk]at h
  obtain⟨j,e,rfl⟩:=jJ.1 h
  rw[jZ]at e
  have q:=o.1
  rw[show(c.1*64+(c.2*16+2*(j:Int))) / 64=c.1 by omega];exact p
theorem Tri.was_any(S:fN Z g F0)(t:Tri Z F0 fw al s sz){x v:Int}(l:Was Z fw x v)(hk:s.mem.kAt x≠3):aG v/\Good Z.m Z.sz v:=by
 rcases l with⟨c,f,rfl⟩ | ⟨a,b,i,c,f,j,rfl⟩
 ·exact⟨(S.ok.seg _).words _,S.sound.good x c (by rw[<-(t.kAt c).1];exact hk)⟩
 ·have h:=(t.img a b c).2
  have e:=(t.olds.mem a ((t.al a).2 ⟨b,c⟩)).1
  have d:=S.sound.usedAt e f (λk=>(S.ok.seg k).n.2)
  have o:=h.fit
  refine⟨(S.ok.seg _).words _,S.sound.good _ d.1 ?_⟩
  have:s.mem.kAt x=Z.m.kAt (a+i):=by
   unfold Mem.kAt
   rw[j,show(b+i) / 64=b / 64 by omega,d.2.1];exact h.kind
  rw[<-this];exact hk
theorem Tri.fwd_is(S:fN Z g F0)(t:Tri Z F0 fw al s sz){w:Int}(k:aG w)(d:Good Z.m Z.sz w)(f:aV Z.O w):s.mem.fwd w=(fw (w / 8)).map λb=>b*8+w % 8:=by
 obtain⟨h,o,p,q⟩:=S.oldWord d f
 obtain⟨n,r⟩:=S.sound.used _ h
 cases c:fw (w / 8)with
 | none=>exact(t.same_size S k d f c).2.1
 | some b=>
  obtain⟨_,l⟩:=t.img _ _ c
  have a:s.mem.used b:=by simpa using l.here 0 (by omega)
  have e:=t.ok.mem.lim
  have i:=a.2.1.2.1
  have j:=a.1
  unfold Mem.fwd
  rw[t.word _ _ c,if_pos ⟨t.heads.used n,⟨by omega,by omega⟩,by omega⟩]
  show some _=some _
  congr 2;omega
structure rx (Z:TZ) (fw:Int->Option Int) (s s':Sp):Prop extends Broke Z fw s s' where
 exact: ∀x v,s.mem.used x->Z.O (x / 64).toNat=false->s.mem.kAt x=1->x % 2=0->Was Z fw x v->s'.mem.get x=if aV Z.O v/\fw (v / 8)=none then 44 else Fw Z.O fw v
 old: ∀x,s.mem.used x->Z.O (x / 64).toNat=true->s'.mem.get x=s.mem.get x
theorem rx.of{tr:Tr}(S:fN Z g F0)(t:Tri Z F0 fw al s sz)(hm:mj Z.m)(B:kl Z.m g Z.T tr)(D:tr.old=Z.O){l:List Nat}(A:dK s.mem [Z.T] l):rx Z fw s {s with mem:=(s.mem.weaks tr l).foldl (brkR Z.O) s.mem}:=by
 have i:=uB S t B D A
 have key: ∀x v,s.mem.used x->Z.O (x / 64).toNat=false->s.mem.kAt x=1->x % 2=0->Was Z fw x v->((s.mem.weaks tr l).foldl (brkR Z.O) s.mem).get x=if aV Z.O v/\fw (v / 8)=none then 44 else Fw Z.O fw v:=λx v d f hk y n=>by
  have j:s.mem.get x=v:=by
   rcases t.val x v n with r | ⟨r,_⟩
   ·exact r
   ·have:=r.2.resolve_left (λe=>e hk);omega
  obtain⟨J,K⟩:=t.was_any S n (by rw[hk];decide)
  have p:aV Z.O v->s.mem.fwd v=(fw (v / 8)).map λb=>b*8+v % 8:=λo=>t.fwd_is S J K o
  rw[qU Z.O _ i (λo C c=>?_) d,j]
  ·by_cases o:aV Z.O v
   ·have z:=qS S t hm B D A d f hk y n o
    rw[if_pos ⟨z,o⟩,p o]
    cases k:fw (v / 8)with
    | none=>rw[if_pos ⟨o,rfl⟩];rfl
    | some b=>rw[if_neg (λq=>by cases q.2),kf o k];rfl
   ·rw[if_neg (λq=>o q.2),if_neg (λq=>o q.1),kA o]
  ·rw[j]at o c
   rw[p o]at c
   cases k:fw (v / 8)with
   | none=>rw[k]at c;cases c
   | some b=>
    rw[k]at c;cases c
    have I:=(t.img _ _ k).2
    intro q
    have:=q.2.2
    rw[show(b*8+v % 8) / 8=b by omega,I.out]at this
    cases this
 have u: ∀(l:List Int) (m:Mem) (x:Int),m.used x->x ∉ l->(l.foldl (brkR Z.O) m).get x=m.get x:=λl=>by
  induction l with
  | nil=>intro m x _ _;rfl
  | cons a l H=>
   intro m x hm hn
   show(l.foldl (brkR Z.O) (brkR Z.O m a)).get x=_
   rw[H _ x ((lV _ m a).used.2 hm) (λq=>hn (by simp[q])),qa hm,if_neg (λq=>hn (by simp[q.1]))]
 refine⟨⟨pZ _ _ _,rfl,sv _ _ t.ok,λx d f G=>?_,λx d f hk y=>?_⟩,key,λx d f=>u _ _ x d (λq=>by have:=i x q;rw[f]at this;cases this)⟩
 ·show((s.mem.weaks tr l).foldl (brkR Z.O) s.mem).get x=_
  have w:x ∉ s.mem.weaks tr l:=λq=>by
   obtain⟨E,F,_⟩:=qR S t B A x q
   exact G ⟨E,F⟩
  exact u _ _ x d w
 ·obtain⟨v,n⟩:=t.was d f
  show((s.mem.weaks tr l).foldl (brkR Z.O) s.mem).get x=44\/_
  by_cases o:aV Z.O v/\fw (v / 8)=none
  ·left;rw[key x v d f hk y n,if_pos o]
  ·right
   intro C c
   obtain rfl:=t.was_one c n
   refine⟨λh=>?_,?_⟩
   ·cases k:fw (C / 8)with
    | none=>exact absurd ⟨h,k⟩ o
    | some b=>exact⟨b,rfl⟩
   ·show((s.mem.weaks tr l).foldl (brkR Z.O) s.mem).get x=_
    rw[key x C d f hk y n,if_neg o]
end
structure ry (s0:Sp) (sz0:Int->Nat) (g T:Int) (tr:Tr) (roots young:List Int) (fw:Int->Option Int) (al:List Int) (sz:Int->Nat) (s3 s4 s5:Sp):Prop where
 t:eZ ⟨s0.mem,sz0,tr.old,T,(· ∈roots)⟩ g s0.mem.free fw al sz tr s3 s4 s5.mem
 brk:rx ⟨s0.mem,sz0,tr.old,T,(· ∈roots)⟩ fw s3 s4
 yg:young=roots.map (Fw tr.old fw)
 inv:Inv s5 (szE tr.old sz)
 good: ∀w∈young,aG w/\Good s5.mem (szE tr.old sz) w
 cf:s5.cf<=s0.cf+1024
theorem qb{c:Sp}{g T a:Int}(hm:0<=a)(b:jy c g T a=0):(0<=g/\g<4/\g<=T/\T<=g+1)/\2*(c.mem.nyoung g:Int)+8+a<=c.mem.free:=by
 unfold jy at b
 by_cases d:g<0\/4<=g\/T<g\/g+1<T\/a<0
 ·rw[if_pos d]at b;exact absurd b (by decide)
 ·rw[if_neg d]at b
  by_cases e:c.mem.free-2*c.mem.nyoung g-8<a
  ·rw[if_pos e]at b;exact absurd b (by decide)
  ·omega
theorem sw{c:Sp}{e:Int->Nat}{g T p:Int}{tr:Tr}{a:List Int}{b:Sp}{Q:List (Int×Value)}{l:List Nat}(I:Inv c e)(G:0<=p)(H:jy c g T p=0)(B:kl c.mem g T tr)(P: ∀w∈a,aG w/\Good c.mem e w)
  (N:jQ tr.old T (((c.fresh (fM g)).visL tr.old T a).1.lookCards tr.old T tr.cards) tr.seen b Q) (D:pi tr.old T b Q) (hl:dK b.mem [T] l):
  ∃fw al sz,ry c e g T tr a ((c.fresh (fM g)).visL tr.old T a).2 fw al sz b {b with mem:=(b.mem.weaks tr l).foldl (brkR tr.old) b.mem} (({b with mem:=(b.mem.weaks tr l).foldl (brkR tr.old) b.mem}:Sp).ended tr):=by
 have h:=qb G H
 have S:fN ⟨c.mem,e,tr.old,T,(· ∈a)⟩ g c.mem.free:=by
  refine⟨I.ok.mem,I.even,I.sound,λk hk=>?_,h.1,?_,λv o=>P v o⟩
  ·show tr.old k=true ↔ _
   rw[B.old k hk]
   unfold Mem.young
   rw[decide_eq_true_eq]
  ·have hy: ∀Z:TZ,Z.m=c.mem->Z.O=tr.old->2*((Z.yk 0:Int)+Z.yk 1+Z.yk 2+Z.yk 3)+8<=c.mem.free:=λZ A W=>by
    have q:=xj (Z:=Z) (g:=g) (by rw[A];exact I.ok.mem) h.1.1 (λk hk=>by rw[A,W];exact B.old k hk)
    have K:=h.2
    rw[A]at q
    omega
   exact hy _ rfl rfl
 have t0:Tri ⟨c.mem,e,tr.old,T,(· ∈a)⟩ c.mem.free (λ_=>none) [] (c.fresh (fM g)) e:=
  Tri.begin' S (Sp.fresh_ok I.ok _) rfl rfl (λi j Y=>by
   show(if fM g=[]\/((i:Nat):Int)∈fM g then(0:Int)else c.cur i j)=0
   rw[if_pos (.inr (lG.2 ⟨by omega,Y⟩))])
 obtain⟨X,V,a4,t1,_,r1,J⟩:=Tri.visL S a (acc:=[]) t0 (λw z=>z)
 obtain⟨fw,al,sz,y,R,C⟩:=Tri.final S t1 I.marked B rfl N D
 have f: ∀v,v∈a->Dn tr.old fw v:=λv o=>(J v o).mono R
 have n:((c.fresh (fM g)).visL tr.old T a).2=a.map (Fw tr.old fw):=by
  refine Eq.trans r1 ?_
  rw[List.nil_append]
  exact List.map_congr_left λv o=>(pj (J v o) R).symm
 have d:=rx.of S y I.marked B rfl hl
 have u: ∀k:Nat,k<1024->tr.old k=true->({b with mem:=(b.mem.weaks tr l).foldl (brkR tr.old) b.mem}:Sp).mem.has k:=λk hk ho=>d.same.has.2 (y.heads.has ((S.old k hk).1 ho).1)
 obtain⟨E,x⟩:=Sp.ended_spec (Z:=⟨c.mem,e,tr.old,T,(· ∈a)⟩) (tr:=tr) rfl d.ok u
 have F:({b with mem:=(b.mem.weaks tr l).foldl (brkR tr.old) b.mem}:Sp).mem.Even:=d.same.even y.even
 have r:=tF d.ok F tr
 have L:({b with mem:=(b.mem.weaks tr l).foldl (brkR tr.old) b.mem}:Sp).cf=c.cf:=by
  have q:=uA N
  rw[Sp.lookCards_cf,Sp.visL_cf]at q
  have K:(c.fresh (fM g)).cf=c.cf:=rfl
  rw[K]at q
  rw[<-q]
  unfold Sp.cf
  show((b.mem.weaks tr l).foldl (brkR tr.old) b.mem).count+((b.mem.weaks tr l).foldl (brkR tr.old) b.mem).free=_
  rw[d.same.count,d.same.free]
 have M:=Sp.ended_cf ({b with mem:=(b.mem.weaks tr l).foldl (brkR tr.old) b.mem}:Sp) tr
 have t:eZ ⟨c.mem,e,tr.old,T,(· ∈a)⟩ g c.mem.free fw al sz tr b _ _:=⟨S,y,C,f,d.toBroke,E,B,I.marked⟩
 refine⟨fw,al,sz,t,d,n,⟨x,r,t.sound,t.marks⟩,λw z=>?_,by omega⟩
 rw[n]at z
 obtain⟨v,o,rfl⟩:=List.mem_map.1 z
 obtain⟨U,v2⟩:=P v o
 exact⟨y.fw_word S U,(t.good U v2 (f v o)).1⟩
theorem wz{b d:Nat}{a:Int}(h:cX H b d i)(f:bJ i)(e:a<=9223372036854775807):
  cK.C (some ⟨b,0,none⟩) a H (λv c=>v=.tuple #[vu (i.read a),vi (if i.used a then 0 else 18)]/\c=H):=
 HC.mono (jX h f e) (by
  rintro _ _ ⟨rfl,rfl⟩
  refine⟨?_,rfl⟩
  unfold Mem.read
  split<;>rfl)
theorem tG{b o:Nat}{a:Array Value}{T:TypeId}{v:Value}(g:H[b]?=some (.cells a T (0,0)))(f:a[o]?=some v):aK H ((Addr.mk b 0 none).add o) 0 1/\ ∀c,c=aR H ((Addr.mk b 0 none).add o) [v] 0->c=H:=by
 have j:o<a.size:=by
  rcases Nat.lt_or_ge o a.size with h | h
  ·exact h
  ·rw[Array.getElem?_eq_none h]at f;cases f
 rw[addr_add_mk,Nat.zero_add]
 refine⟨cW g 1 o 0 (by omega),λc d=>?_⟩
 rw[cH [v] H a o 0 g,Nat.add_zero]at d
 have e:splice a o [v]=a:=by
  refine Array.ext_getElem? λi=>?_
  rcases Nat.lt_or_ge i o with h | h
  ·exact dU a [v] o i h
  ·by_cases e:i=o
   ·subst e
    have:=fF a [v] i 0 (by simp;omega) (by simp)
    rw[Nat.add_zero]at this
    rw[this,f];rfl
   ·exact gW a [v] o i (by simp;omega)
 rw[e,oG g]at d
 exact d
theorem qs(T:Tc H a b j d)(Y:d.over=false):jq.C (some ⟨j.t,0,none⟩) none 0 0 H (λv J=>v=VN/\Ext H J):=by
 refine HC.via λR S=>jq.link ?_
 unfold jq.pt zY
 intro c x U i M K t k
 have Q:=aH U i
 have B:Ext H x:=Ext.push' i
 have p:Ext x K:=Ext.push' k
 have E:=aH t k
 refine⟨_,aP (p.get Q),?_⟩
 refine HC.mono (ml (T.ext (B.trans p))) ?_
 rintro _ y ⟨rfl,rfl⟩
 refine⟨_,rfl,?_⟩
 rw[if_neg (by rw[Y];decide)]
 refine⟨_,_,_,aP E,by decide,by decide,by decide,by decide,?_⟩
 intro N z V q c4 L u l
 have D:Ext y z:=Ext.push' q
 have O:Ext z L:=Ext.push' l
 obtain⟨w,X⟩:=jP (n:=1) (vs:=[vs (some (Addr.mk N 0 none)) 0 0]) (aH u l) rfl rfl
 refine⟨w,λm r=>?_⟩
 obtain⟨g7,P⟩:=X m r
 have h:Ext y m:=(D.trans O).fr_trans P (λa2 W=>by simp at W;have:=D.size;omega)
 have o:=(B.trans p).trans h
 have e:hat m (Addr.mk M 0 none)=some (VN):=aP (h.get E)
 refine⟨_,_,_,e,λs A=>s=0/\A=m,λ_ _=>0,⟨rfl,rfl⟩,?_⟩
 rintro s A ⟨rfl,rfl⟩
 rw[if_neg (by decide)]
 refine⟨λf=>f=A,λ_=>0,rfl,?_⟩
 rintro f rfl
 refine⟨_,_,_,e,λs A=>s=0/\A=f,λ_ _=>0,⟨rfl,rfl⟩,?_⟩
 rintro s f ⟨rfl,rfl⟩
 rw[if_neg (by decide)]
 refine⟨_,_,_,e,λF I G s A=>F=none/\I=0/\G=0/\s=0/\A=f,λ_ _ _ _ _=>0,⟨rfl,rfl,rfl,rfl,rfl⟩,?_⟩
 rintro F I G s A ⟨rfl,rfl,rfl,rfl,rfl⟩
 rw[if_neg (by decide)]
 exact S _ _ ⟨rfl,o⟩
set_option maxRecDepth 100000 in
theorem qt(T:Tg H a b j d)(hf:jT d.frm)(J:nT d.cards):
  jr.C (some ⟨j.t,0,none⟩) H (λ_ H'=> ∃l,dK b.sp.mem [d.tgt] l/\Tg H' a {b with sp:={b.sp with mem:=(b.sp.mem.weaks d l).foldl (brkR d.old) b.sp.mem}} j d/\Fr (spB a) H H'):=by
 refine HC.via λR hR=>jr.link ?_
 unfold jr.pt zY
 refine HC.mono (ml T.toTc) ?_
 rintro _ H1 ⟨rfl,rfl⟩
 refine⟨_,rfl,?_⟩
 rw[if_neg (by rw[T.on];decide)]
 refine HC.mono (tC T hf J) ?_
 rintro _ H2 ⟨l,wB,wN,wC,hl,rfl,X,hr,a5,ao,e2⟩
 have hw:=vq T.ok.mem hf J hl
 have a2: ∀aB∈blks wB,aB ∉ a.all:=λaB hj h=>by have:=a5 aB hj;have:=T.lt (.inl h);omega
 refine⟨_,_,_,rfl,?_⟩
 generalize V:b.sp.mem.weaks d l=W at*
 subst X
 refine⟨λk A=>(0<=k/\k<=W.length)/\Tg A a {b with sp:={b.sp with mem:=(W.take k.toNat).foldl (brkR d.old) b.sp.mem}} j d/\Fr (spB a) H2 A,λk _=>(W.length-k).toNat,
  ⟨⟨by omega,by omega⟩,T.grow e2,Fr.refl _ _⟩,?_⟩
 rintro k A ⟨hk,q,N⟩
 by_cases x:k< (W.length:Int)
 case neg=>
  rw[if_neg x]
  rw[List.take_of_length_le (by omega)]at q
  exact hR _ _ ⟨l,hl,by rw[V];exact q,e2.fr.trans N⟩
 rw[if_pos x]
 have u:k.toNat<W.length:=by omega
 have L:=List.getElem_mem u
 have a1:=hr.keep N (λaB hj hs=>a2 aB hj (kV hs))
 obtain⟨az,ha,I⟩:=nS a1.src (i:=k.toNat) u
 have a3:W.take (k+1).toNat=W.take k.toNat++[W[k.toNat]]:=by rw[show(k+1).toNat=k.toNat+1 by omega,List.take_succ_eq_append_getElem u]
 have K:(W.take (k+1).toNat).foldl (brkR d.old) b.sp.mem=brkR d.old ((W.take k.toNat).foldl (brkR d.old) b.sp.mem) W[k.toNat]:=by rw[a3,List.foldl_append];rfl
 have ap:=hw _ L
 generalize W[k.toNat]=w at*
 have O:=q.hp
 have hd:((W.length:Int)-(k+1)).toNat< ((W.length:Int)-k).toNat:=by omega
 refine⟨az,ha,⟨hk.1,x⟩,_,I,_,rfl,_,q.tr.hPtr,_,rfl,_,O.hPtr,_,rfl,_,O.cd.cPtr,_,rfl,_,O.cd.sp.memPtr,?_⟩
 rw[w64 (n:=k+1) (by omega)]
 generalize ai:(W.take k.toNat).foldl (brkR d.old) b.sp.mem=m at*
 refine HC.mono (wz O.cd.sp.mem q.ok.mem (by omega)) ?_
 rintro _ A1 ⟨rfl,rfl⟩
 refine⟨_,_,rfl,?_⟩
 have z:aG (m.read w):=Mem.read_word q.ok.mem w
 refine HC.mono (pP q.toTc z) ?_
 rintro _ A2 ⟨rfl,t⟩
 refine⟨_,rfl,?_⟩
 have Q:=q.grow t
 by_cases y:aV d.old (m.read w)
 case neg=>
  rw[if_neg (by simp[y])]
  have S:brkR d.old m w=m:=by unfold brkR;rw[if_neg y]
  exact⟨⟨⟨by omega,by omega⟩,by rw[K,S];exact Q,N.trans t.fr⟩,hd⟩
 rw[if_pos (zX ⟨q.on,y⟩)]
 refine HC.mono (nO Q.toTc z) ?_
 rintro _ A3 ⟨rfl,e3⟩
 refine⟨_,rfl,?_⟩
 have D:=Q.grow e3
 have c:=D.hp
 have F:=t.trans e3
 have G: ∀(B p:zV) (v:Int),aG v->v=(m.fwd (m.read w)).getD 44->Tg B a {b with sp:={b.sp with mem:=m}} j d->Fr (spB a) A1 B->cX p a.m a.s (if m.used w then m.set w v else m)->Fr [a.s] B p->
   (((0<=k+1/\k+1<=(W.length:Int))/\Tg p a {b with sp:={b.sp with mem:=(W.take (k+1).toNat).foldl (brkR d.old) b.sp.mem}} j d/\Fr (spB a) H2 p)/\((W.length:Int)-(k+1)).toNat< ((W.length:Int)-k).toNat):=by
  intro B p v P a4 e U o E
  have S:brkR d.old m w=m.wr w v:=by unfold brkR;rw[if_pos y,<-a4]
  refine⟨⟨⟨by omega,by omega⟩,?_,(N.trans U).trans (E.mono (λi Y _=>by simp at Y;simp[spB];omega))⟩,hd⟩
  rw[K,S]
  refine⟨e.toTc.withMem (m:=m.wr w v) E (λi Y=>by simp at Y;omega) o (e.ok.wr w P),(bS.wr m w v).even e.even,?_,e.on⟩
  have:=e.cf
  unfold Sp.cf at this⊢
  show(m.wr w v).count+(m.wr w v).free<_
  rw[(bS.wr m w v).count,(bS.wr m w v).free];exact this
 have aj: ¬ ¬(d.over=false/\aV d.old (m.read w)):=λh=>h ⟨T.on,y⟩
 cases f:m.fwd (m.read w)with
 | some v=>
  rw[if_pos (by simp[f])]
  refine⟨_,D.tr.hPtr,_,rfl,_,c.hPtr,_,rfl,_,c.cd.cPtr,_,rfl,_,c.cd.sp.memPtr,?_⟩
  have M:=Sp.visit_fwd (s:={b.sp with mem:=m}) (T:=d.tgt) y f
  refine HC.mono (mg D z) ?_
  rintro _ B ⟨rfl,e,U⟩
  rw[M]at e⊢
  have r:=e.hp
  refine⟨_,rfl,row1 e.tr.hPtr,row1 r.hPtr,row1 r.cd.cPtr,row1 r.cd.sp.memPtr,?_⟩
  refine HC.mono (jH r.cd.sp.mem e.ok.mem (by omega)) ?_
  rintro _ p ⟨rfl,o,E⟩
  have P:v=(m.fwd (m.read w)).getD 44:=by rw[f];rfl
  exact⟨_,rfl,G B p v (by rw[P];exact qT e.ok.mem _) P e (F.fr.trans U) o E⟩
 | none=>
  rw[if_neg (by simp[f,T.on,y])]
  refine⟨_,D.tr.hPtr,_,rfl,_,c.hPtr,_,rfl,_,c.cd.cPtr,_,rfl,_,c.cd.sp.memPtr,?_⟩
  refine HC.mono (jH c.cd.sp.mem D.ok.mem (by omega)) ?_
  rintro _ p ⟨rfl,o,E⟩
  exact⟨_,rfl,G A3 p 44 (by decide) (by rw[f];rfl) D F.fr o E⟩
def ptrs(k:Nat)(a:Addr)(n:Nat):List Value:=List.replicate k (vp none)++(List.range n).map λi=> Vq (a.add (i*1))
theorem wA{k n i:Nat}{a:Addr}(h:i<k):(ptrs k a n)[i]?=some (vp none):=by
 unfold ptrs
 rw[List.getElem?_append_left (by simpa using h),List.getElem?_replicate,if_pos h]
theorem wD{k n i:Nat}{a:Addr}(h:i<n):(ptrs k a n)[k+i]?=some (Vq (a.add (i*1))):=by
 unfold ptrs
 rw[List.getElem?_append_right (by simp),List.length_replicate,show k+i-k=i by omega,List.getElem?_map,List.getElem?_range h];rfl
theorem rz{B:zW}{vs:List Value}(h:fB H B vs){k:Nat}{v:Value}(hk:vs[k]?=some v): ∃a,B=some a/\hat H (a.add (k*1))=some v:=by
 have b:k<vs.length:=by
  rcases Nat.lt_or_ge k vs.length with h | h
  ·exact h
  ·simp[List.getElem?_eq_none h]at hk
 cases B with
 | none=>have e:vs=[]:=h;rw[e]at b;simp at b
 | some a=>
  refine⟨a,rfl,?_⟩
  have c:aQ H a 0 vs:=h
  have:=fD c k v hk
  rw[Nat.zero_add]at this
  rw[Nat.mul_one];exact this
structure Cel (S:List Nat) (ra:Addr) (K:zV->List Int->Prop):Prop where
 keep: ∀{T:List Nat} {A A':zV} {ws:List Int},K A ws->Fr T A A'->(∀j∈S,j ∉ T)->K A' ws
 at': ∀{A:zV} {ws:List Int} {i:Nat},K A ws->(h:i<ws.length)->hat A (ra.add (i*1))=some (vu ws[i])
 put: ∀{A:zV} {ws:List Int} {i:Nat} (v:Int),K A ws->i<ws.length->aK A (ra.add (i*1)) 0 1/\ ∀A',A'=aR A (ra.add (i*1)) [vu v] 0->K A' (ws.set i v)/\Fr S A A'
 lt: ∀{A:zV} {ws:List Int},K A ws-> ∀j∈S,j<A.size
theorem Cel.own(l:zW)(n t:Nat):Cel (blks l) (l.getD default) (λA ws=>ws.length=n/\Own A 40 1 l n t (wvs ws)):=by
 refine⟨λ{T A m ws} h f r=>⟨h.1,h.2.keep f r⟩,λ{A ws i} h b=>?_,λ{A ws i} v h b=>?_,λh=>h.2.lt⟩
 ·obtain⟨a,k,c⟩:=h.2.at (j:=i) (v:=vu ws[i]) (by unfold wvs;rw[List.getElem?_map,List.getElem?_eq_getElem b];rfl)
  subst k
  rw[Option.getD_some,Nat.mul_one];exact c
 ·obtain⟨a,k,_⟩:=h.2.at (j:=i) (v:=vu ws[i]) (by unfold wvs;rw[List.getElem?_map,List.getElem?_eq_getElem b];rfl)
  subst k
  obtain⟨c,o⟩:=h.2.put (i:=i) (by rw[<-h.1];exact b) (vu v)
  rw[Option.getD_some,Nat.mul_one]
  refine⟨c,λm d=>?_⟩
  obtain⟨p,q⟩:=o m d
  refine⟨⟨by rw[List.length_set];exact h.1,?_⟩,by simpa using q⟩
  have e:(wvs ws).set i (vu v)=wvs (ws.set i v):=by unfold wvs;rw[List.map_set]
  rw[<-e];exact p
theorem HpAt.putSy2(h:HpAt H a b)(v:Value):aK H ((Addr.mk a.h 0 none).add 1) 0 1/\HpAt (aR H ((Addr.mk a.h 0 none).add 1) [v] 0) a {b with sy:=v}/\Fr [a.h] H (aR H ((Addr.mk a.h 0 none).add 1) [v] 0):=by
 obtain⟨c,d⟩:=mX h.h 1 v (by simp)
 obtain⟨g,f⟩:=d _ rfl
 refine⟨c,⟨h.cd.keep f ?_ ?_ ?_ ?_,h.ne,g⟩,f⟩<;>have:=h.ne<;>simp<;>omega
theorem Tg.putSy{c:zV}{v:Value}(T:Tg H a b j d)(k:HpAt c a {b with sy:=v})(f:Fr [a.h] H c):Tg c a {b with sy:=v} j d:=
 ⟨⟨k,T.ok,T.tr.keep f (λi e h=>by
  simp at e
  exact T.apart i h (by rw[e];simp[Blk.all])),T.apart⟩,T.even,T.cf,T.on⟩
def ju(O:Nat->Bool)(m:Mem)(l:List Int):List Int:=(l.filter λw=>decide (¬aV O w) || (m.fwd w).isSome).map λw=>if aV O w then(m.fwd w).getD 0 else w
theorem mm{O:Nat->Bool}{l:List Int}{w:Int}:ju O i (l++[w])=ju O i l++if(decide (¬aV O w) || (i.fwd w).isSome)=true then[if aV O w then(i.fwd w).getD 0 else w]else[]:=by
 unfold ju
 rw[List.filter_append,List.map_append]
 congr 1
 rw[List.filter_cons]
 by_cases h:(decide (¬aV O w) || (i.fwd w).isSome)=true
 ·rw[if_pos h,if_pos h];rfl
 ·rw[if_neg h,if_neg h];rfl
set_option maxRecDepth 100000 in
theorem rD{G:zW}{lC:Nat}{l:List Int}(T:Tg H a b j d)(hs:fB H G (wvs l))(hw: ∀w∈l,aG w)(Q: ∀au∈blks G,au ∉ a.all)(hl:l.length<=1000000):
  jM.C (some ⟨j.t,0,none⟩) G l.length lC H (λv K=> ∃B c,v=.slice B (ju d.old b.sp.mem l).length c/\Own K 40 1 B (ju d.old b.sp.mem l).length c (wvs (ju d.old b.sp.mem l))/\(∀au∈blks B,H.size<=au)/\Tg K a b j d/\Fr (spB a) H K):=by
 refine HC.via λR hR=>jM.link ?_
 unfold jM.pt zY
 refine HC.mono (ml T.toTc) ?_
 rintro _ W ⟨rfl,rfl⟩
 refine⟨_,rfl,?_⟩
 rw[if_neg (by rw[T.on];decide)]
 refine⟨λB n c i A=> ∃k:Nat,i=k/\k<=l.length/\n=(ju d.old b.sp.mem (l.take k)).length/\Own A 40 1 B n c (wvs (ju d.old b.sp.mem (l.take k)))/\(∀au∈blks B,W.size<=au)/\Tg A a b j d/\Fr (spB a) W A,λ_ _ _ i _=>(l.length-i).toNat,
  ⟨0,rfl,by omega,rfl,iY,by simp,T,Fr.refl _ _⟩,?_⟩
 rintro B n c i A ⟨k,rfl,hk,rfl,J,m,L,t⟩
 by_cases f:(k:Int)< (l.length:Int)
 case neg=>
  rw[if_neg f]
  obtain rfl:k=l.length:=by omega
  rw[List.take_length]at J⊢
  exact hR _ _ ⟨B,c,rfl,J,m,L,t⟩
 rw[if_pos f]
 have o:k<l.length:=by omega
 have hd:((l.length:Int)-((k:Int)+1)).toNat< ((l.length:Int)-(k:Int)).toNat:=by omega
 rw[w64 (n:=(k:Int)+1) (by omega)]
 have V:fB A G (wvs l):=by
  cases G with
  | none=>exact hs
  | some ap=>exact t.rowAt (λh=>Q ap.block (by simp) (kV h)) hs
 obtain⟨ap,ha,x⟩:=rz V (k:=k) (v:=vu l[k]) (by unfold wvs;rw[List.getElem?_map,List.getElem?_eq_getElem o];rfl)
 have F:=hw _ (List.getElem_mem o)
 have q:l.take (k+1)=l.take k++[l[k]]:=List.take_succ_eq_append_getElem o
 have a4:(ju d.old b.sp.mem (l.take k)).length<=k:=by
  unfold ju
  rw[List.length_map]
  refine Nat.le_trans (List.length_filter_le _ _) ?_
  rw[List.length_take];omega
 generalize l[k]=w at*
 refine⟨ap,ha,⟨by omega,f⟩,_,x,?_⟩
 refine HC.mono (nO L.toTc F) ?_
 rintro _ H4 ⟨rfl,r⟩
 refine⟨_,rfl,?_⟩
 have U:decide (¬(d.over=false/\aV d.old w))=decide (¬aV d.old w):=by
  by_cases h:aV d.old w
  ·rw[zQ (show ¬ ¬(d.over=false/\aV d.old w)from λj=>j ⟨T.on,h⟩),zQ (show ¬ ¬aV d.old w from λj=>j h)]
  ·rw[zX (show ¬(d.over=false/\aV d.old w)from λj=>h j.2),zX (show ¬aV d.old w from h)]
 rw[U]
 have Y:=L.grow r
 have z4:=r.size
 have zA:=t.size
 by_cases p:(decide (¬aV d.old w) || (b.sp.mem.fwd w).isSome)=true
 case neg=>
  rw[if_neg p]
  exact⟨⟨k+1,by omega,by omega,by rw[q,mm,if_neg p,List.append_nil],by rw[q,mm,if_neg p,List.append_nil];exact J.ext r,m,Y,t.trans r.fr⟩,hd⟩
 rw[if_pos p]
 have E:b.sp.visit d.old d.tgt w=(b.sp,if aV d.old w then(b.sp.mem.fwd w).getD 0 else w):=by
  by_cases h:aV d.old w
  ·rw[if_pos h]
   cases hf:b.sp.mem.fwd w with
   | none=>rw[hf,zQ (show ¬ ¬aV d.old w from λj=>j h)]at p;exact absurd p (by decide)
   | some v=>rw[Sp.visit_fwd h hf];rfl
  ·rw[if_neg h];exact Sp.visit_no h
 refine HC.mono (mg Y F) ?_
 rintro _ H5 ⟨rfl,T5,M⟩
 rw[E]at T5⊢
 refine⟨_,rfl,λb6 X N u=>?_⟩
 have I:Ext H5 X:=Ext.push' u
 have T6:Tg X a b j d:=T5.grow I
 have D: ∀au∈spB a,au∈a.all:=λau e=>kV e
 have O: ∀au∈blks B,au ∉ spB a:=λau e h=>by have:=T.lt (.inl (D au h));have:=m au e;omega
 have z5:=M.size
 have z6:=I.size
 refine dD (ys:=wvs [if aV d.old w then(b.sp.mem.fwd w).getD 0 else w]) (((J.ext r).keep M (λau e=>O au e)).ext I) (dV (aH N u) _ 0 0 (λau e=>by
  simp only[wvs,List.map_cons,List.map_nil,List.length_cons,List.length_nil]at e
  obtain rfl:au=0:=by omega
  rfl)) rfl (gT _) rfl (by omega) ?_
 intro B' c' H7 y f7 S
 have T7:Tg H7 a b j d:=T6.stay f7 (λau e h=>by have:=T.lt (.inl h);have:=m au e;omega) (λau e h=>by have:=T.lt (.inr h);have:=m au e;omega)
 have z:ju d.old b.sp.mem (l.take (k+1))=ju d.old b.sp.mem (l.take k)++[if aV d.old w then(b.sp.mem.fwd w).getD 0 else w]:=by rw[q,mm,if_pos p]
 have P:(ju d.old b.sp.mem (l.take (k+1))).length=(ju d.old b.sp.mem (l.take k)).length+1:=by rw[z,List.length_append];rfl
 refine⟨⟨k+1,by omega,by omega,P.symm,?_,λau e=>?_,T7,?_⟩,hd⟩
 ·rw[z]
  unfold wvs at y⊢
  rw[List.map_append]
  exact y
 ·rcases S au e with h | h
  ·exact m au h
  ·omega
 ·exact(((t.trans r.fr).trans M).trans I.fr).trans' f7 (λau e _=>e) (λau e f=>by have:=m au e;omega)
def qV(O:Nat->Bool)(fw:Int->Option Int)(w:Int):Bool:=decide (¬aV O w) || (fw (w / 8)).isSome
def qc(O:Nat->Bool)(fw:Int->Option Int)(l:List Int):List Int:=(l.filter (qV O fw)).map (Fw O fw)
theorem ry.pruned{r y k B:Sp}{e sz:Int->Nat}{g T:Int}{c f:List Int}{fw:Int->Option Int}{al:List Int}(C:ry r e g T d c f fw al sz y k B){l:List Int}(x: ∀w∈l,aG w/\Good r.mem e w):
  ju d.old k.mem l=qc d.old fw l:=by
 have t:=C.t
 have S:=t.S
 have key: ∀w,aG w->Good r.mem e w->aV d.old w->k.mem.fwd w=(fw (w / 8)).map λb=>b*8+w % 8:=λw n h a=>by
  rw[<-t.tri.fwd_is S n h a]
  obtain⟨z,A,D,E⟩:=S.oldWord h a
  have o:=t.tri.heads.used (S.sound.used _ z).1
  have i:=C.brk.old _ o A
  unfold Mem.fwd
  rw[i]
  have p:k.mem.used (w / 8) ↔ y.mem.used (w / 8):=C.brk.same.used
  exact kH ⟨λq=>⟨o,q.2⟩,λq=>⟨p.2 o,q.2⟩⟩ _ _
 induction l with
 | nil=>rfl
 | cons w l j=>
  have j:=j (λv m=>x v (by simp[m]))
  obtain⟨n,h⟩:=x w (by simp)
  have u:(decide (¬aV d.old w) || (k.mem.fwd w).isSome)=qV d.old fw w:=by
   unfold qV
   by_cases a:aV d.old w
   ·rw[key w n h a,Option.isSome_map]
   ·rw[zX (show ¬aV d.old w from a)];rfl
  unfold ju qc at j⊢
  by_cases hk:qV d.old fw w=true
  ·rw[List.filter_cons_of_pos (by rw[u];exact hk),List.filter_cons_of_pos hk,List.map_cons,List.map_cons,j]
   congr 1
   by_cases a:aV d.old w
   ·rw[if_pos a,key w n h a]
    unfold qV at hk
    rw[zQ (show ¬ ¬aV d.old w from λq=>q a)]at hk
    obtain⟨v,m⟩:=Option.isSome_iff_exists.1 (by simpa using hk)
    rw[m,kf a m];rfl
   ·rw[if_neg a,kA a]
  ·rw[List.filter_cons_of_neg (by rw[u];exact hk),List.filter_cons_of_neg hk,j]
structure xv (K:zV->List Int->Prop) (S:List Nat) (H H':zV) (b:Blk) (x:Hp) (sz:Int->Nat) (g T:Int) (roots young:List Int) (fw:Int->Option Int) (al:List Int) (sz':Int->Nat) (tr:Tr) (s3 s4 s5:Sp) (syl:List Int):Prop where
 col:ry x.sp sz g T tr roots young fw al sz' s3 s4 s5
 own:K H' young
 fr:Fr (b.all++S) H H'
 free:2*(x.sp.mem.nyoung g:Int)+9<=x.sp.mem.free
 sym: ∃B c,HpAt H' b {x with sp:=s5,sy:=.slice B (qc tr.old fw syl).length c,ep:=IntKind.wrap .u64 (x.ep+1)}/\Own H' 40 1 B (qc tr.old fw syl).length c (wvs (qc tr.old fw syl))/\ ∀j∈blks B,H.size<=j
set_option maxRecDepth 100000 in
theorem rE{K:zV->List Int->Prop}{S:List Nat}{ra:Addr}(Ce:Cel S ra K){cR:Blk}{sz:Int->Nat}{g T:Int}{k:Nat}{pB:zW}{X pC:Nat}{c:List Int}(hp:HpAt H cR b)(I:Inv b.sp sz)(bs:b.sp.cf<4611686018427387904)(aw:b.en=VN){Y:zW}{sC:Nat}{f:List Int}(bN:b.sy=vs Y f.length sC)(b4:Own H 40 1 Y f.length sC (wvs f))(m: ∀j∈blks Y,j ∉ cR.all/\j ∉ S)(b6: ∀w∈f,aG w/\Good b.sp.mem sz w)(bM:f.length<=1000000)(hg:I64 g)(hT:I64 T)
  (hr:K H c) (N: ∀j∈S,j ∉ cR.all) (aZ:fB H pB (ptrs k ra c.length)) (cz:X=k+c.length) (aN: ∀j∈blks pB,j ∉ cR.all/\j ∉ S/\j<H.size) (z: ∀w∈c,aG w/\Good b.sp.mem sz w) (hl:X<=1000000000):
  iV.C (some ⟨cR.h,0,none⟩) g T pB X pC H (λv H'=>(jy b.sp g T 1≠0->v=vi (jy b.sp g T 1)/\Ext H H')/\
   (jy b.sp g T 1=0->v=vi 0/\ ∃ac fw al ab tr s3 s4 s5,xv K S H H' cR b sz g T c ac fw al ab tr s3 s4 s5 f)):=by
 refine HC.via λR hR=>iV.link ?_
 unfold iV.pt zY
 rw[onPtr_some]
 have ok:=I.ok
 have a5:ln.C (some ⟨cR.h,0,none⟩) H (λv H'=>v=vi 1/\H'=H):=by
  refine HC.via λR hR=>ln.link ?_
  unfold ln.pt zY
  refine⟨_,rfl,none,0,0,?_,hR _ _ ⟨rfl,rfl⟩⟩
  rw[eO hp.h 2];exact congrArg some aw
 refine HC.mono a5 ?_
 rintro _ H1 ⟨rfl,rfl⟩
 refine⟨_,rfl,?_⟩
 refine HC.mono (tB hp ok I.even bs hg hT (by decide)) ?_
 rintro v2 H2 ⟨bB,b8⟩
 by_cases p:jy b.sp g T 1=0
 case neg=>
  obtain⟨rfl,e2⟩:=bB p
  refine⟨_,_,rfl,?_⟩
  rw[if_neg p]
  exact hR _ _ ⟨λ_=>⟨rfl,e2⟩,λh=>absurd h p⟩
 obtain⟨q,t,rfl,T2,B,hq,f2⟩:=b8 p
 refine⟨_,_,rfl,?_⟩
 rw[if_pos rfl]
 obtain rfl:=B.tgt
 have ce:=qb (by decide) p
 have c8:=hp.lt
 have b0:=Ce.lt hr
 have e: ∀j∈spB cR,j∈cR.all:=λj d=>kV d
 have z2:=f2.size
 have b1: ∀j∈S,j ∉ q.all:=λj d h=>by have:=b0 j d;have:=hq j h;omega
 have hw: ∀w∈c,aG w:=λw h=>(z w h).1
 have bH:=Ce.keep hr f2 (λj d h=>N j d (e j h))
 have U:fB H2 pB (ptrs k ra c.length):=by
  cases pB with
  | none=>exact aZ
  | some a=>
   have r:=aN a.block (by simp)
   exact f2.rowAt (λh=>r.1 (e _ h)) aZ
 have ey:({b with sp:=b.sp.fresh (fM g)}:Hp).sp=b.sp.fresh (fM g):=rfl
 generalize D:({b with sp:=b.sp.fresh (fM g)}:Hp)=y at*
 refine⟨λi A=>(0<=i/\i<=X)/\Tg A cR {y with sp:=(y.sp.visL t.old t.tgt (c.take (i-k).toNat)).1} q t/\K A ((y.sp.visL t.old t.tgt (c.take (i-k).toNat)).2++c.drop (i-k).toNat)/\Fr (spB cR++S) H2 A,λi _=>(X-i).toNat,
  ⟨⟨by omega,by omega⟩,?_,?_,Fr.refl _ _⟩,?_⟩
 ·rw[show((0:Int)-(k:Int)).toNat=0 by omega];exact T2
 ·rw[show((0:Int)-(k:Int)).toNat=0 by omega];exact bH
 rintro i A ⟨E,TA,hA,fA⟩
 by_cases L:i< (X:Int)
 case pos=>
  rw[if_pos L]
  have hd:((X:Int)-(i+1)).toNat< ((X:Int)-i).toNat:=by omega
  rw[w64 (n:=i+1) (by omega)]
  have V:fB A pB (ptrs k ra c.length):=by
   cases pB with
   | none=>exact U
   | some a=>
    have r:=aN a.block (by simp)
    exact fA.rowAt (λh=>by rcases List.mem_append.1 h with h | h;exact r.1 (e _ h);exact r.2.1 h) U
  by_cases cx:i<k
  ·obtain⟨a,ha,x⟩:=rz V (wA (k:=k) (i:=i.toNat) (by omega))
   refine⟨a,ha,⟨E.1,L⟩,_,x,?_⟩
   rw[onPtr_none]
   rw[show(i-(k:Int)).toNat=0 by omega]at TA hA
   exact⟨⟨⟨by omega,by omega⟩,by rw[show(i+1-(k:Int)).toNat=0 by omega];exact TA,by rw[show(i+1-(k:Int)).toNat=0 by omega];exact hA,fA⟩,hd⟩
  ·obtain⟨j,d⟩: ∃j:Nat,i=k+j:=⟨(i-k).toNat,by omega⟩
   have J:j<c.length:=by omega
   subst d
   rw[show((k:Int)+(j:Int)-(k:Int)).toNat=j by omega]at TA hA
   obtain⟨a,ha,x⟩:=rz V (wD (k:=k) (a:=ra) J)
   refine⟨a,ha,⟨E.1,L⟩,_,by rw[show((k:Int)+(j:Int)).toNat=k+j by omega];exact x,?_⟩
   rw[onPtr_some]
   have a9:=Sp.visL_len t.old t.tgt y.sp (c.take j)
   rw[List.length_take,Nat.min_eq_left (by omega)]at a9
   have ay:j< ((y.sp.visL t.old t.tgt (c.take j)).2++c.drop j).length:=by rw[List.length_append,List.length_drop];omega
   have bA:((y.sp.visL t.old t.tgt (c.take j)).2++c.drop j)[j]=c[j]:=by
    rw[List.getElem_append_right (by omega)]
    simp only[a9,Nat.sub_self,List.getElem_drop,Nat.add_zero]
   have O:=Ce.at' hA ay
   rw[bA]at O
   refine⟨_,O,?_⟩
   have az:=List.getElem_mem J
   refine HC.mono (mg TA (hw _ az)) ?_
   rintro _ A2 ⟨rfl,bk,ao⟩
   have bo:=Ce.keep hA ao (λj d h=>N j d (e j h))
   obtain⟨bu,hs⟩:=Ce.put ((y.sp.visL t.old t.tgt (c.take j)).1.visit t.old t.tgt c[j]).2 bo ay
   refine⟨_,rfl,bu,λA3 bp=>?_⟩
   obtain⟨aB,f3⟩:=hs A3 bp
   have bP:c.take (j+1)=c.take j++[c[j]]:=List.take_succ_eq_append_getElem J
   have b7:y.sp.visL t.old t.tgt (c.take (j+1))=(((y.sp.visL t.old t.tgt (c.take j)).1.visit t.old t.tgt c[j]).1,(y.sp.visL t.old t.tgt (c.take j)).2++[((y.sp.visL t.old t.tgt (c.take j)).1.visit t.old t.tgt c[j]).2]):=by rw[bP,Sp.visL_snoc]
   have b3:((y.sp.visL t.old t.tgt (c.take j)).2++c.drop j).set j ((y.sp.visL t.old t.tgt (c.take j)).1.visit t.old t.tgt c[j]).2=(y.sp.visL t.old t.tgt (c.take (j+1))).2++c.drop (j+1):=by
    rw[b7,List.set_append,if_neg (by omega),a9,Nat.sub_self,List.drop_eq_getElem_cons J,List.set_cons_zero,List.append_assoc]
    rfl
   rw[b3]at aB
   refine⟨⟨⟨by omega,by omega⟩,?_,?_,?_⟩,hd⟩
   ·rw[show((k:Int)+(j:Int)+1-(k:Int)).toNat=j+1 by omega,b7]
    exact bk.stay f3 (λi E h=>N i E h) (λi E h=>b1 i E h)
   ·rw[show((k:Int)+(j:Int)+1-(k:Int)).toNat=j+1 by omega];exact aB
   ·exact(fA.trans (ao.mono (λi E _=>List.mem_append_left _ E))).trans (f3.mono (λi E _=>List.mem_append_right _ E))
 rw[if_neg L]
 have P:(i-(k:Int)).toNat=c.length:=by omega
 rw[P,List.take_length]at TA
 rw[P,List.take_length,List.drop_length,List.append_nil]at hA
 refine HC.mono (tw TA (B.cardsOK ok.mem)) ?_
 rintro _ H6 ⟨T6,f6⟩
 refine HC.mono (tz T6 (B.seenOK ok.mem) (by omega)) ?_
 rintro _ H7 ⟨s3,bU,bz,bw,T7,cg,f7⟩
 have W:y.en=VN:=by rw[<-D];exact aw
 have ba:y.sy=vs Y f.length sC:=by rw[<-D];exact bN
 have cc:y.ep=b.ep:=by rw[<-D]
 refine⟨none,0,0,by rw[eO T7.hp.h 2];exact congrArg some W,?_⟩
 refine HC.mono (qs T7.toTc T7.on) ?_
 rintro _ H8 ⟨rfl,e8⟩
 have T8:=T7.grow e8
 obtain⟨au,bI⟩:=tG (o:=2) (v:=VN) T8.hp.h (by rw[<-W];rfl)
 refine⟨_,_,_,rfl,au,λH9 bq=>?_⟩
 obtain rfl:=bI H9 bq
 refine HC.mono (qt T8 (B.frmOK ok.mem) (B.cardsOK ok.mem)) ?_
 rintro _ a0 ⟨l,ax,u,a1⟩
 refine⟨Y,f.length,sC,by rw[eO u.hp.h 1,<-ba];rfl,?_⟩
 have b2: ∀j∈blks Y,j ∉ cR.all++q.all:=λj d h=>by
  rcases List.mem_append.1 h with h | h
  ·exact(m j d).1 h
  ·have:=b4.lt j d;have:=hq j h;omega
 have b5:Own A 40 1 Y f.length sC (wvs f):=(b4.keep f2 (λj d h=>(m j d).1 (e j h))).keep fA (λj d h=>by
  rcases List.mem_append.1 h with h | h
  ·exact(m j d).1 (e j h)
  ·exact(m j d).2 h)
 have a8:Own a0 40 1 Y f.length sC (wvs f):=(((b5.keep f6 (λj d h=>(m j d).1 (e j h))).keep f7 (λj d h=>b2 j d (by
  rcases List.mem_cons.1 h with h | h
  ·rw[h];simp[TB.all]
  ·exact List.mem_append_left _ (e j h)))).ext e8).keep a1 (λj d h=>(m j d).1 (e j h))
 refine HC.mono (rD u a8.src (λw h=>(b6 w h).1) (λj d=>(m j d).1) bM) ?_
 rintro _ cm ⟨oB,oC,rfl,bC,a6,am,bl⟩
 obtain⟨a3,Q,F⟩:=am.hp.putSy2 (.slice oB (ju t.old _ f).length oC)
 refine⟨_,_,_,rfl,a3,λaj ap=>?_⟩
 rw[<-ap]at Q F
 have bj:=am.putSy Q F
 refine HD.mono (vk bj) ?_
 rintro ak ⟨aC,bT,an⟩
 have b9:y.sp=b.sp.fresh (fM g):=by rw[<-D]
 have av:jQ t.old t.tgt (((b.sp.fresh (fM g)).visL t.old t.tgt c).1.lookCards t.old t.tgt t.cards) t.seen s3 bU:=by rw[<-b9];exact bz
 obtain⟨fw,al,ab,C⟩:=sw I (by decide) p B z av bw (l:=l) ax
 have sX: ∀j∈spB cR,j∈cR.all++q.all:=λj d=>List.mem_append_left _ (e j d)
 have G:Fr (cR.all++q.all) A ak:=by
  have cq:Fr (cR.all++q.all) A H6:=f6.mono (λj d _=>sX j d)
  have a2:Fr (cR.all++q.all) H6 H7:=f7.mono (λj d _=>by
   rcases List.mem_cons.1 d with h | h
   ·rw[h];simp[TB.all]
   ·exact sX j h)
  have cs:Fr (cR.all++q.all) H7 aj:=((e8.fr.trans (a1.mono (λj d _=>sX j d))).trans (bl.mono (λj d _=>sX j d))).trans (F.mono (λj d _=>by simp at d;rw[d];simp[Blk.all]))
  have ct:Fr (cR.all++q.all) aj ak:=an.mono (λj d _=>by
   rcases List.mem_cons.1 d with h | h
   ·rw[h];simp[Blk.all]
   ·rcases List.mem_cons.1 h with h | h
    ·rw[h];simp[TB.all]
    ·exact sX j h)
  exact((cq.trans a2).trans cs).trans ct
 have M:=Ce.keep hA G (λj d h=>by
  rcases List.mem_append.1 h with h | h
  ·exact N j d h
  ·exact b1 j d h)
 have FA:Fr (cR.all++S) H1 A:=(f2.mono (λj d _=>List.mem_append_left _ (e j d))).trans (fA.mono (λj d _=>by
  rcases List.mem_append.1 d with h | h
  ·exact List.mem_append_left _ (e j h)
  ·exact List.mem_append_right _ h))
 have aT:=C.pruned b6
 have zb:=u.lt (i:=cR.h) (.inl (by simp[Blk.all]))
 have cK:H1.size<=a0.size:=by
  have:=f2.size;have:=fA.size;have:=f6.size;have:=f7.size;have:=e8.size;have:=a1.size
  omega
 have a4: ∀j∈cR.h::q.t::spB cR,j<a0.size:=λj d=>by
  rcases List.mem_cons.1 d with h | h
  ·rw[h];exact zb
  rcases List.mem_cons.1 h with h | h
  ·rw[h];exact u.lt (.inr (by simp[TB.all]))
  ·exact u.lt (.inl (e j h))
 have a7:=(bC.keep F (λj d h=>by simp at h;have:=a6 j d;omega)).keep an (λj d h=>by have:=a6 j d;have:=a4 j h;omega)
 refine hR _ _ ⟨λh=>absurd p h,λ_=>⟨rfl,_,fw,al,ab,t,s3,_,_,⟨C,?_,?_,by omega,oB,oC,?_,?_,λj d=>by have:=a6 j d;omega⟩⟩⟩
 ·rw[<-b9];exact M
 ·exact FA.trans' G (λj d _=>d) (λj d hl=>by
   rcases List.mem_append.1 d with h | h
   ·exact List.mem_append_left _ h
   ·have:=hq j h;omega)
 ·have:=aC
  rw[<-D]at this
  rw[<-aT]
  exact this
 ·rw[<-aT];exact a7
