/-
 All things of a heap, one behind the other, as audit goes over them. Proves nothing of any one statement.
-/
import Derived.Test.YtojbbgcjiaphjaaGreatColS
import Derived.Test.YtojbbgcjiaphjaaGreatFaudit1
import Derived.Test.YtojbbgcjiaphjaaGreatWord
import Derived.Test.YtojbbgcjiaphjaaGreatWords
import Derived.Test.YtojbbgcjiaphjaaGreatPair
import Derived.Test.YtojbbgcjiaphjaaGreatFcardx
import Derived.Test.YtojbbgcjiaphjaaGreatRef01
set_option linter.unusedVariables false
set_option linter.unusedSimpArgs false
namespace Go.Proofs.YtojbbgcjiaphjaaGreat
open Go Go.Proofs.Tryz
variable{H:zV}{a:Int}{b:Blk}{d:Hp}{i:Nat}
theorem mO(a:HpAt H b d):iX.C (some ⟨b.h,0,none⟩) H (λv f=>v=VF/\f=H):=by
 refine HC.via λR g=>iX.link ?_
 unfold iX.pt
 rw[onPtr_some]
 have e:hat H ⟨b.h,0,none⟩=some (vp (some ⟨b.c,0,none⟩)):=by rw[aP a.h];rfl
 refine⟨_,e,?_⟩
 rw[onPtr_some]
 refine⟨_,e,_,rfl,_,a.cd.cPtr,?_⟩
 rw[onPtr_some]
 refine⟨_,e,_,rfl,_,a.cd.cPtr,_,rfl,_,a.cd.sp.memPtr,?_⟩
 rw[onPtr_some]
 exact g _ _ ⟨rfl,rfl⟩
def tagA(k:Int):Int:=if k=0 then 1 else if k=1 then 2 else 3
theorem sx(hk:0<=a/\a<=3):jN.C a H (λv b=>v=vi (tagA a)/\b=H):=by
 refine HC.via λR c=>jN.link ?_
 unfold jN.pt
 refine⟨tagA a,⟨⟨hk.1,by omega⟩,?_⟩,c _ _ ⟨rfl,rfl⟩⟩
 rcases(show a=0\/a=1\/a=2\/a=3 by omega)with rfl | rfl | rfl | rfl<;>rfl
def kI(m:Mem)(k at':Int):Nat->List (Int×Int)
 | 0=> []
 | f+1=>if at'< (m.seg k.toNat).n then((k*64+at')*8+tagA (m.seg k.toNat).kind,m.sizeOf ((k*64+at')*8+tagA (m.seg k.toNat).kind))::
   (if m.sizeOf ((k*64+at')*8+tagA (m.seg k.toNat).kind)=0 then[]else kI m k (at'+m.sizeOf ((k*64+at')*8+tagA (m.seg k.toNat).kind)) f)else[]
theorem uC(m:Mem)(k a:Int)(h: ¬a< (m.seg k.toNat).n): ∀f,kI m k a f=[]
 | 0=>rfl
 | f+1=>by unfold kI;rw[if_neg h]
def bO(m:Mem)(l:List Nat):List (Int×Int):=l.flatMap λk:Nat=>kI m (k:Int) 0 64
theorem rF(m:Mem){l:List Nat}(h:i<l.length):bO m (l.take (i+1))=bO m (l.take i)++kI m (l[i]:Nat) 0 64:=by
 rw[List.take_succ_eq_append_getElem h]
 unfold bO
 rw[List.flatMap_append];simp
theorem qu(m:Mem)(l:List Nat)(i:Nat):bO m l=bO m (l.take i)++bO m (l.drop i):=by
 unfold bO
 rw[<-List.flatMap_append,List.take_append_drop]
set_option maxRecDepth 100000 in
set_option maxHeartbeats 1000000 in
theorem qW{S:List Nat}{J:List (Int×Int)->List Nat->zV->Prop}{u:Value}{R:zv}
  (Z:HpAt H b d) (ok:SpOK d.sp) (a7:H[i]?=some (.cells #[vp (some ⟨b.h,0,none⟩)] 28 (0,0))) (hS: ∀c9∈S,c9<H.size/\c9 ∉ b.all/\c9≠i)
  (hE: ∀l T A Y,J l T A->Ext A Y->J l T Y) (hT: ∀l T A,J l T A-> ∀j∈T,H.size<=j/\j<A.size)
  (hy: ∀l m w n al T A,dK d.sp.mem [] l->bO d.sp.mem l=m++(w,n)::al->Fr S H A->J m T A->FC prog u #[vu w,vi n] A (λv Y=>(v=VT/\ ∃T',J (m++[(w,n)]) T' Y/\Fr (S++T) A Y/\ ∀j∈T',j∈T\/A.size<=j)\/(v=VF/\R (.tuple #[]) Y)))
  (h0:J [] [] H) (hR: ∀l T A,dK d.sp.mem [] l->J (bO d.sp.mem l) T A->Fr S H A->R (.tuple #[]) A):iC.C u (some ⟨i,0,none⟩) H R:=by
 refine iC.link ?_
 unfold iC.pt zY
 have o: ∀{A},Fr S H A->hat A ⟨i,0,none⟩=some (vp (some ⟨b.h,0,none⟩)):=λ{A} f=>by
  rw[aP (f.get (λh=>(hS _ h).2.2 rfl) a7)];rfl
 have af: ∀{A},Fr S H A->HpAt A b d:=λ{A} f=>Z.keep f (λc9 hi=>(hS c9 hi).2.1)
 have p1: ∀{A},HpAt A b d->hat A ⟨b.h,0,none⟩=some (vp (some ⟨b.c,0,none⟩)):=λ{A} h=>by rw[aP h.h];rfl
 refine⟨_,rfl,_,o (Fr.refl _ _),HC.mono (mO Z) ?_⟩
 rintro _ AA ⟨rfl,aC⟩
 obtain rfl:H=AA:=aC.symm
 refine⟨_,rfl,?_⟩
 rw[if_neg (by decide)]
 refine⟨_,o (Fr.refl _ _),_,rfl,_,p1 Z,_,rfl,_,Z.cd.cPtr,_,rfl,_,Z.cd.sp.memPtr,?_⟩
 refine HC.mono (jI (gs:=[]) Z.cd.sp.mem ok.mem (by rw[SrcAt_none];rfl) rfl (by decide)) ?_
 rintro _ H2 ⟨B,c,l,rfl,hl,ae,b3,e2⟩
 have bj:=ok.mem.lim
 have bi:=hl.len
 have z2:=e2.size
 have aN: ∀j∈blks B,j ∉ S:=λj g h=>by have:=b3 j g;have:=(hS j h).1;omega
 refine⟨_,_,_,rfl,λc9 A=>(0<=c9/\c9<=l.length)/\Fr S H A/\Own A 3 1 B l.length c (ivs (l.map λc9:Nat=>(c9:Int)))/\H2.size<=A.size/\ ∃T,J (bO d.sp.mem (l.take c9.toNat)) T A/\ ∀j∈T,H2.size<=j,λc9 _=>(l.length-c9).toNat,⟨⟨by omega,by omega⟩,e2.fr,ae,Nat.le_refl _,[],by rw[show Int.toNat 0=0 from rfl,List.take_zero];exact hE [] _ _ _ h0 e2,by simp⟩,?_⟩
 rintro c9 A ⟨hi,x,M,zA,T,jA,b1⟩
 have aT: ∀j∈blks B,j<H2.size:=ae.lt
 by_cases X:c9< (l.length:Int)
 case neg=>
  rw[if_neg X]
  rw[List.take_of_length_le (by omega)]at jA
  exact hR l T A hl jA x
 rw[if_pos X]
 have V:c9.toNat<l.length:=by omega
 obtain⟨a,ha,a4⟩:=mL M V
 obtain⟨aj,bn,bo,bm⟩:=hl.has (List.getElem_mem V)
 have b7:=rF d.sp.mem V
 have b6:=qu d.sp.mem l (c9.toNat+1)
 generalize bB:l[c9.toNat]=k at*
 have E:=af x
 refine⟨a,ha,⟨hi.1,X⟩,(k:Int),a4,_,o x,_,rfl,_,p1 E,_,rfl,_,E.cd.cPtr,_,rfl,_,E.cd.sp.memPtr,?_⟩
 refine HC.mono (gL E.cd.sp.mem) ?_
 rintro _ H4 ⟨rfl,e4⟩
 refine⟨_,_,_,_,_,_,_,_,rfl,λq H5 a5 U=>?_⟩
 obtain⟨b2,hs⟩:=jC (d.sp.mem.segOr k) a5 U
 refine⟨b2,λH6 a3=>?_⟩
 obtain⟨e5,_,a9,ac,bC⟩:=hs H6 a3
 have ay:d.sp.mem.segOr (k:Int)=d.sp.mem.seg k:=by unfold Mem.segOr;rw[if_pos aj];rfl
 rw[ay]at a9 ac
 have bk:=(ok.mem.seg k).n
 have W:=(ok.mem.seg k).kind
 have ah:IntKind.wrap .i64 (c9+1)=c9+1:=w64 (by omega)
 have ag:(c9+1).toNat=c9.toNat+1:=by omega
 have L:((l.length:Int)-(c9+1)).toNat< ((l.length:Int)-c9).toNat:=by omega
 have z4:=e4.size
 have a6:q ∉ S:=λh=>by
  have:=(hS _ h).1
  omega
 have Q:=e4.trans e5
 have z5:=e5.size
 have bN:H5.size=H4.size+1:=by rw[U];simp
 have be:q<H6.size:=by
  have h6:H6.size=H5.size:=by rw[a3,cH _ _ _ _ _ (aH a5 U)];simp
  omega
 refine⟨λt D=>0<=t/\Fr S H D/\Own D 3 1 B l.length c (ivs (l.map λc9:Nat=>(c9:Int)))/\(H6.size<=D.size/\hat D ((Addr.mk q 0 none).add 2)=some (vi (d.sp.mem.seg k).n)/\hat D ((Addr.mk q 0 none).add 1)=some (vi (d.sp.mem.seg k).kind))/\ ∃m f T,(∀j∈T,H2.size<=j/\j≠q)/\((d.sp.mem.seg k).n-t).toNat<=f/\J m T D/\m++kI d.sp.mem k t f=bO d.sp.mem (l.take (c9.toNat+1)),λt _=>((d.sp.mem.seg k).n-t).toNat,
  ⟨by omega,x.trans Q.fr,M.ext Q,⟨Nat.le_refl _,ac,a9⟩,_,64,T,λj g=>⟨b1 j g,by have:=(hT _ _ _ jA j g).2;omega⟩,by omega,hE _ _ _ _ jA Q,b7.symm⟩,?_⟩
 rintro t D ⟨ht,y,N,⟨zD,ab,a8⟩,m,f,T1,z,hf,jD,e⟩
 refine⟨_,ab,?_⟩
 by_cases F:t< (d.sp.mem.seg k).n
 case neg=>
  rw[if_neg F,ah]
  rw[uC _ _ _ (by simpa using F),List.append_nil]at e
  exact⟨⟨⟨by omega,by omega⟩,y,N,by omega,T1,by rw[ag,<-e];exact jD,λj g=>(z j g).1⟩,L⟩
 rw[if_pos F]
 refine⟨_,a8,HC.mono (sx W) ?_⟩
 rintro _ _ ⟨rfl,rfl⟩
 have b8:IntKind.wrap .i64 ((k:Int)*64)=(k:Int)*64:=w64 (by omega)
 have b9:IntKind.wrap .i64 ((k:Int)*64+t)=(k:Int)*64+t:=w64 (by omega)
 have bl:tagA (d.sp.mem.seg k).kind=1\/tagA (d.sp.mem.seg k).kind=2\/tagA (d.sp.mem.seg k).kind=3:=by unfold tagA;split<;>(try split)<;>omega
 rw[b8,b9]
 refine⟨_,rfl,HC.mono (lU (by omega) (by omega)) ?_⟩
 rintro _ H9 ⟨rfl,e9⟩
 rw[if_neg (by omega),if_pos (by omega)]
 have b5:=af (y.trans e9.fr)
 refine⟨_,_,rfl,_,o (y.trans e9.fr),?_⟩
 refine HC.mono (kN (.real b5 ok) (by omega)) ?_
 rintro _ av ⟨rfl,P⟩
 have hm:mof (some (b,d))=d.sp.mem:=rfl
 rw[hm]
 have hr:=ku d.sp.mem (((k:Int)*64+t)*8+tagA (d.sp.mem.seg k).kind)
 obtain⟨f,rfl⟩: ∃f',f=f'+1:=⟨f-1,by omega⟩
 have hu:kI d.sp.mem k t (f+1)=(((k:Int)*64+t)*8+tagA (d.sp.mem.seg k).kind,d.sp.mem.sizeOf (((k:Int)*64+t)*8+tagA (d.sp.mem.seg k).kind))::
   (if d.sp.mem.sizeOf (((k:Int)*64+t)*8+tagA (d.sp.mem.seg k).kind)=0 then[]else kI d.sp.mem k (t+d.sp.mem.sizeOf (((k:Int)*64+t)*8+tagA (d.sp.mem.seg k).kind)) f):=by
  rw[kI];rw[if_pos (by simpa using F)];rfl
 rw[hu]at e
 generalize ((k:Int)*64+t)*8+tagA (d.sp.mem.seg k).kind=w at*
 generalize d.sp.mem.sizeOf w=n at*
 have G:=y.trans (e9.trans P).fr
 refine⟨_,rfl,FC.mono (hy l m w n _ T1 av hl (by rw[b6,<-e,List.append_assoc,List.cons_append]) G (hE _ _ _ _ jD (e9.trans P))) ?_⟩
 rintro v O (⟨rfl,T2,ai,r,b0⟩ | ⟨rfl,bb⟩)
 ·refine⟨_,rfl,?_⟩
  rw[if_pos rfl]
  have p:=e9.trans P
  have bq:=p.size
  have bM:=r.size
  have jS: ∀j∈T1,H.size<=j:=λj g=>(hT _ _ _ jD j g).1
  have I:Fr S H O:=G.trans' r (λ_ h _=>h) (λj g hl=>by
   rcases List.mem_append.1 g with h | h
   ·exact h
   ·have:=jS j h;omega)
  have s:=(N.ext p).keep r (λj g h=>by
   rcases List.mem_append.1 h with h | h
   ·exact aN j g h
   ·have:=aT j g;have:=(z j h).1;omega)
  have K: ∀j∈T2,H2.size<=j/\j≠q:=λj g=>by
   rcases b0 j g with h | h
   ·exact z j h
   ·omega
  have a1:q ∉ S++T1:=λh=>by
   rcases List.mem_append.1 h with h | h
   ·exact a6 h
   ·exact(z q h).2 rfl
  have aB:hat O ((Addr.mk q 0 none).add 2)=some (vi (d.sp.mem.seg k).n):=r.hat (a:=⟨q,2,none⟩) a1 (p.hat ab)
  have az:hat O ((Addr.mk q 0 none).add 1)=some (vi (d.sp.mem.seg k).kind):=r.hat (a:=⟨q,1,none⟩) a1 (p.hat a8)
  by_cases hz:n=0
  ·rw[if_pos hz,ah]
   rw[if_pos hz]at e
   exact⟨⟨⟨by omega,by omega⟩,I,s,by omega,T2,by rw[ag,<-e];exact ai,λj g=>(K j g).1⟩,L⟩
  ·rw[if_neg hz,w64 (n:=t+n) (by omega)]
   rw[if_neg hz]at e
   exact⟨⟨by omega,I,s,⟨by omega,aB,az⟩,_,f,T2,K,by omega,ai,by rw[List.append_assoc];exact e⟩,by show((d.sp.mem.seg k).n-(t+n)).toNat< ((d.sp.mem.seg k).n-t).toNat;omega⟩
 ·refine⟨_,rfl,?_⟩
  rw[if_neg (by decide)]
  exact bb
theorem qX(m:Mem)(k:Int): ∀(f:Nat) (t:Int),(kI m k t f).length<=f
 | 0,t=>Nat.le_refl _
 | f+1,t=>by
  unfold kI
  by_cases h:t< (m.seg k.toNat).n
  ·rw[if_pos h]
   by_cases a:m.sizeOf ((k*64+t)*8+tagA (m.seg k.toNat).kind)=0
   ·rw[if_pos a];simp
   ·rw[if_neg a]
    have:=qX m k f (t+m.sizeOf ((k*64+t)*8+tagA (m.seg k.toNat).kind))
    simp only[List.length_cons];omega
  ·rw[if_neg h];simp
theorem mP(m:Mem): ∀l:List Nat,(bO m l).length<=64*l.length
 | []=>by simp[bO]
 | k::l=>by
  have a:=qX m (k:Int) 64 0
  have b:=mP m l
  have e:bO m (k::l)=kI m (k:Int) 0 64++bO m l:=by unfold bO;rw[List.flatMap_cons]
  rw[e,List.length_append,List.length_cons];omega
def wsOf(l:List (Int×Int)):List Int:=(l.filter λp=>decide (p.2>0)).map Prod.fst
theorem sD(l:List (Int×Int)):(wsOf l).length<=l.length:=by
 unfold wsOf;rw[List.length_map];exact List.length_filter_le _ _
theorem sE(l:List (Int×Int)){n:Int}(h:n>0):wsOf (l++[(a,n)])=wsOf l++[a]:=by
 unfold wsOf
 rw[List.filter_append,List.filter_cons_of_pos (by simpa using h),List.map_append];rfl
theorem sF(l:List (Int×Int)){n:Int}(h: ¬n>0):wsOf (l++[(a,n)])=wsOf l:=by
 unfold wsOf
 rw[List.filter_append,List.filter_cons_of_neg (by simpa using h)];simp
set_option maxRecDepth 100000 in
set_option maxHeartbeats 1000000 in
theorem sG(hp:HpAt H b d)(ok:SpOK d.sp)(hb: ∀j∈b.all,j<H.size):
  gX.C (some ⟨b.h,0,none⟩) H (λv A'=> ∃(B:zW) (c:Nat) (l:List Nat),dK d.sp.mem [] l/\v=.slice B (wsOf (bO d.sp.mem l)).length c/\Own A' 40 1 B (wsOf (bO d.sp.mem l)).length c (wvs (wsOf (bO d.sp.mem l)))/\(∀j∈blks B,H.size<=j)/\Ext H A'):=by
 refine HC.via λR hR=>gX.link ?_
 unfold gX.pt
 intro bv H1 aw E
 have e1:Ext H H1:=Ext.push' E
 refine fP.link ?_
 unfold fP.pt
 intro ak s a1 F
 have e2:Ext H1 s:=Ext.push' F
 have z1:H1.size=H.size+1:=by rw[E];simp
 have z2:s.size=H1.size+1:=by rw[F];simp
 refine⟨rfl,λrc m x be u vY hY=>?_⟩
 have e3:Ext s x:=(Ext.push' rfl).trans (Ext.push' u)
 have z3:x.size=s.size+2:=by rw[u];simp
 have V:x[s.size]?=some (.deferred (some [])):=by
  have:(s.push (.deferred (some [])))[s.size]?=some (.deferred (some [])):=aH rfl rfl
  exact(Ext.push' u).get this
 have an:x[m]?=some (rc .ready none):=aH (by simp;omega) u
 have am:x[bv]?=some (.cells #[VN] 29 (0,0)):=(e2.trans e3).get (aH aw E)
 have U:x[ak]?=some (.cells #[vp (some ⟨b.h,0,none⟩)] 28 (0,0)):=e3.get (aH a1 F)
 have N:=(e1.trans e2).trans e3
 have k:bv≠m:=by omega
 refine FE.of2 (enters_of func101 (by kernel_rfl) rfl) rfl (qW (S:=[m,bv])
  (J:=λl T D=>D[m]?=some (rc .ready none)/\ ∃(B:zW) (c:Nat),D[bv]?=some (.cells #[.slice B (wsOf l).length c] 29 (0,0))/\Own D 40 1 B (wsOf l).length c (wvs (wsOf l))/\T=blks B/\(∀j∈blks B,x.size<=j/\j<D.size))
  (hp.ext N) ok U (λi g=>by
   simp at g
   refine⟨by omega,λh=>by have:=hb i h;omega,by omega⟩) (λl T D D' ⟨h1,B,c,h2,h3,h4,h5⟩ e=>⟨e.get h1,B,c,e.get h2,h3.ext e,h4,λj f=>⟨(h5 j f).1,by have:=(h5 j f).2;have:=e.size;omega⟩⟩)
  (λl T D ⟨_,B,c,_,_,h4,h5⟩ j f=>by subst h4;exact h5 j f) (λl p w n b4 T D hl Z f0 hJ=>?_) ⟨an,none,0,am,iY,rfl,by simp⟩ (λl T D hl hJ f0=>?_))
 ·obtain⟨q,B,c,I,L,rfl,r⟩:=hJ
  have b2:(wsOf p).length<=65536:=by
   have h1:=sD p
   have h2:=mP d.sp.mem l
   rw[Z,List.length_append]at h2
   have h3:=hl.len
   have h4:=ok.mem.lim
   omega
  refine hY w n D _ q ⟨q,λM X=>?_⟩
  have Q:Fr [m] D M:=by rw[X];exact Fr.set
  have K:M[m]?=some (rc .busy none):=by rw[X];exact aY (aW q)
  have G:=Q.get (by simp;exact k) I
  have z: ∀j∈blks B,j ∉ [m]:=λj f h=>by have:=(r j f).1;simp at h;omega
  have a5:=L.keep Q z
  have z5:=Q.size
  by_cases hn:n>0
  ·rw[if_pos hn]
   refine⟨B,_,c,by rw[aP G];rfl,λbi H6 av Y=>?_⟩
   have O:Ext M H6:=Ext.push' Y
   have z6:=O.size
   refine dD (ys:=wvs [w]) (a5.ext O) (dV (aH av Y) _ 0 0 (λj f=>by simp at f;subst f;rfl)) rfl (gT _) rfl (by omega) ?_
   intro p' c' H7 o7 f7 a3
   have a0:bv ∉ blks B:=λh=>by have:=(r _ h).1;omega
   have a2:m ∉ blks B:=λh=>by have:=(r _ h).1;omega
   have az:=f7.get a0 (O.get G)
   have aB:=f7.get a2 (O.get K)
   obtain⟨c8,s8⟩:=mX az 0 (vs p' ((wsOf p).length+1) c') (by simp)
   rw[nz]at c8 s8
   refine⟨c8,λH8 ap=>?_⟩
   obtain⟨g8,f8⟩:=s8 H8 ap
   have a8:=f8.get (by simp;omega) aB
   have z7:=f7.size
   have z8:=f8.size
   have a4: ∀j∈blks p',j∈blks B\/H6.size<=j:=a3
   have o: ∀j∈blks p',x.size<=j:=λj f=>by
    rcases a4 j f with h | h
    ·exact(r j h).1
    ·have:=f0.size;omega
   have ay:=o7.keep f8 (λj f h=>by have:=o j f;simp at h;omega)
   have y:Fr [m] H8 (aO H8 m (rc .ready none)):=Fr.set
   have a6:=ay.keep y (λj f h=>by have:=o j f;simp at h;omega)
   refine⟨a8,.inl ⟨rfl,_,⟨aY (aW a8),p',c',?_,?_,rfl,λj f=>⟨o j f,?_⟩⟩,?_,λj f=>?_⟩⟩
   ·rw[sE _ hn,List.length_append]
    exact y.get (by simp;exact k) g8
   ·rw[sE _ hn,List.length_append]
    have e:wvs (wsOf p++[w])=wvs (wsOf p)++wvs [w]:=by unfold wvs;rw[List.map_append]
    rw[e];exact a6
   ·have:=a6.lt j f;exact this
   ·have a:Fr ([m,bv]++blks B) D H6:=(Q.mono (λi g _=>by simp at g;simp[g])).trans O.fr
    have b':Fr ([m,bv]++blks B) H6 H7:=f7.mono (λi g _=>List.mem_append_right _ g)
    exact((a.trans b').trans (f8.mono (λi g _=>by simp at g;simp[g]))).trans (y.mono (λi g _=>by simp at g;simp[g]))
   ·rcases a4 j f with h | h
    ·exact .inl h
    ·right;omega
  ·rw[if_neg hn]
   have y:Fr [m] M (aO M m (rc .ready none)):=Fr.set
   refine⟨K,.inl ⟨rfl,_,⟨aY (aW K),B,c,?_,?_,rfl,λj f=>⟨(r j f).1,?_⟩⟩,?_,λj f=> .inl f⟩⟩
   ·rw[sF _ hn];exact y.get (by simp;exact k) G
   ·rw[sF _ hn];exact a5.keep y z
   ·have:=(r j f).2;have:=y.size;omega
   ·exact(Q.mono (λi g _=>by simp at g;simp[g])).trans (y.mono (λi g _=>by simp at g;simp[g]))
 ·obtain⟨q,B,c,I,L,rfl,r⟩:=hJ
  refine⟨q,λA W=>?_⟩
  have t:Fr [m] D A:=by rw[W];exact Fr.set
  have a7:=t.get (by simp;exact k) I
  have gd:=t.get (by simp;omega) (f0.get (by simp;omega) V)
  refine⟨B,_,c,by rw[aP a7];rfl,gd,?_⟩
  have P:Fr [s.size] A (A.setIfInBounds s.size (.deferred none)):=Fr.set
  refine hR _ _ ⟨B,c,l,hl,rfl,(L.keep t (λj f h=>by have:=(r j f).1;simp at h;omega)).keep P (λj f h=>by have:=(r j f).1;simp at h;omega),λj f=>by have:=(r j f).1;omega,?_⟩
  exact((N.fr_trans f0 (λi g=>by simp at g;omega)).fr_trans t (λi g=>by simp at g;omega)).fr_trans P (λi g=>by simp at g;omega)
def aOf(w:Int):Int:=if(w % 8=1\/w % 8=2\/w % 8=3\/w % 8=6)/\w / 8<65536 then w / 8 else 0
theorem wE(b:aG a):0<=aOf a/\aOf a<65536:=by
 unfold aOf
 obtain⟨c,d⟩:=b
 split<;>omega
theorem m7(e:aG a):fI.C a H (λv d=>v=vi (aOf a)/\Ext H d):=by
 refine HC.via λR b=>fI.link ?_
 unfold fI.pt
 refine HC.mono (jW e) ?_
 rintro _ f ⟨rfl,c⟩
 unfold aOf at b
 split
 ·rename_i h
  rw[if_pos h]at b
  exact⟨_,_,rfl,b _ _ ⟨rfl,c⟩⟩
 ·rename_i h
  rw[if_neg h]at b
  exact⟨_,_,rfl,b _ _ ⟨rfl,c⟩⟩
theorem wF{d:Nat}{m:Mem}(h:cX H i d m)(g:bJ m)(f:a<=9223372036854775807):
  cK.C (some ⟨i,0,none⟩) a H (λv c=>(∃e:Int,v=.tuple #[vu (m.read a),vi e])/\c=H):=by
 refine HC.mono (jX h g f) ?_
 rintro _ _ ⟨rfl,rfl⟩
 unfold Mem.read
 by_cases b:m.used a
 ·rw[if_pos b,if_pos b];exact⟨⟨_,rfl⟩,rfl⟩
 ·rw[if_neg b,if_neg b];exact⟨⟨_,rfl⟩,rfl⟩
def cV(m:Mem)(w:Int):Int:=if m.typ w>0 then 1 else 0
def aX(m:Mem)(w:Int):List (Int×Int):=if m.typ w=2\/m.typ w=3 then[]else(List.range (m.sizeOf w-cV m w).toNat).map λi:Nat=>(aOf w+(cV m w+i),m.read (aOf w+(cV m w+i)))
set_option maxRecDepth 100000 in
set_option maxHeartbeats 1000000 in
theorem oz{G:Nat}{w:Int}{S:List Nat}{J:List (Int×Int)->List Nat->zV->Prop}{e:Value}{R:zv}
  (hp:HpAt H b d) (ok:SpOK d.sp) (X:H[i]?=some (.cells #[vp (some ⟨b.h,0,none⟩)] 28 (0,0))) (Y:H[G]?=some (.cells #[vu w] 40 (0,0))) (D:aG w)
  (W: ∀az∈S,az ∉ b.all/\az≠i/\az≠G)
  (M: ∀l T A s,J l T A->Ext A s->J l T s) (hT: ∀l T A,J l T A-> ∀j∈T,H.size<=j)
  (hy: ∀q a v F T A,aX d.sp.mem w=q++(a,v)::F->Fr S H A->J q T A->FC prog e #[vi a,vu v] A (λr s=>(r=VT/\ ∃T',J (q++[(a,v)]) T' s/\Fr (S++T) A s/\ ∀j∈T',j∈T\/A.size<=j)\/(r=VF/\R (.tuple #[]) s)))
  (h0:J [] [] H) (hR: ∀T A,J (aX d.sp.mem w) T A->Fr S H A->R (.tuple #[]) A):iB.C e (some ⟨i,0,none⟩) (some ⟨G,0,none⟩) H R:=by
 refine iB.link ?_
 unfold iB.pt zY
 have O: ∀{A},Fr S H A->hat A ⟨i,0,none⟩=some (vp (some ⟨b.h,0,none⟩)):=λ{A} f=>by
  rw[aP (f.get (λh=>(W _ h).2.1 rfl) X)];rfl
 have P: ∀{A},Fr S H A->hat A ⟨G,0,none⟩=some (vu w):=λ{A} f=>by
  rw[aP (f.get (λh=>(W _ h).2.2 rfl) Y)];rfl
 have p: ∀{A},Fr S H A->HpAt A b d:=λ{A} f=>hp.keep f (λaz hi=>(W az hi).1)
 have p1: ∀{A},HpAt A b d->hat A ⟨b.h,0,none⟩=some (vp (some ⟨b.c,0,none⟩)):=λ{A} h=>by rw[aP h.h];rfl
 have u:=Fr.refl S H
 refine⟨_,rfl,_,O u,_,rfl,w,P u,HC.mono (jY (.real hp ok) D) ?_⟩
 have hm:mof (some (b,d))=d.sp.mem:=rfl
 rw[hm]
 rintro _ H1 ⟨rfl,I⟩
 refine⟨_,rfl,?_⟩
 have hr:=ku d.sp.mem w
 have ak:=wE D
 by_cases g:d.sp.mem.typ w=2\/d.sp.mem.typ w=3
 ·rw[if_pos (by rcases g with h | h<;>rw[h]<;>rfl)]
  have m:aX d.sp.mem w=[]:=by unfold aX;rw[if_pos g]
  exact hR [] _ (by rw[m];exact M _ _ _ _ h0 I) I.fr
 rw[if_neg (by simpa using g)]
 have m:aX d.sp.mem w=(List.range (d.sp.mem.sizeOf w-cV d.sp.mem w).toNat).map λaz:Nat=>(aOf w+(cV d.sp.mem w+az),d.sp.mem.read (aOf w+(cV d.sp.mem w+az))):=by unfold aX;rw[if_neg g]
 have hF:cV d.sp.mem w=0\/cV d.sp.mem w=1:=by unfold cV;split<;>omega
 refine⟨λf H'=>f=cV d.sp.mem w/\H1=H',?_,?_⟩
 ·unfold cV
  by_cases h:d.sp.mem.typ w>0
  ·rw[if_pos h,if_pos h];exact⟨rfl,rfl⟩
  ·rw[if_neg h,if_neg h];exact⟨rfl,rfl⟩
 rintro _ _ ⟨rfl,rfl⟩
 have Z:(aX d.sp.mem w).length=(d.sp.mem.sizeOf w-cV d.sp.mem w).toNat:=by rw[m];simp
 refine⟨λaz A=> ∃k:Nat,az=cV d.sp.mem w+k/\k<=(aX d.sp.mem w).length/\Fr S H A/\ ∃T,J ((aX d.sp.mem w).take k) T A,λaz _=>(d.sp.mem.sizeOf w-az).toNat,⟨0,by omega,by omega,I.fr,[],by rw[List.take_zero];exact M _ _ _ _ h0 I⟩,?_⟩
 rintro _ A ⟨k,rfl,hk,L,T,N⟩
 refine⟨_,O L,w,P L,HC.mono (kN (.real (p L) ok) D) ?_⟩
 rw[hm]
 rintro _ H4 ⟨rfl,Q⟩
 have t:=L.trans Q.fr
 refine⟨_,rfl,?_⟩
 by_cases B:cV d.sp.mem w+(k:Int)<d.sp.mem.sizeOf w
 case neg=>
  rw[if_neg B]
  rw[List.take_of_length_le (by omega)]at N
  exact hR T _ (M _ _ _ _ N Q) t
 rw[if_pos B]
 have z:k< (aX d.sp.mem w).length:=by omega
 have o:=p t
 refine⟨_,O t,_,rfl,_,p1 o,_,rfl,_,o.cd.cPtr,_,rfl,_,o.cd.sp.memPtr,w,P t,?_⟩
 refine HC.mono (m7 D) ?_
 rintro _ H5 ⟨rfl,e5⟩
 have K:=t.trans e5.fr
 have n:=p K
 have row: ∀{a:Addr} {v:Value},hat H5 a=some v->aQ H5 a 0 [v]:=λh=>⟨by rw[show Addr.add _ 0=_ from rfl];exact h,trivial⟩
 have E:IntKind.wrap .i64 (aOf w+(cV d.sp.mem w+(k:Int)))=aOf w+(cV d.sp.mem w+(k:Int)):=w64 (by omega)
 refine⟨_,rfl,row (O K),row (p1 n),row n.cd.cPtr,row n.cd.sp.memPtr,?_⟩
 rw[E]
 refine HC.mono (wF n.cd.sp.mem ok.mem (by omega)) ?_
 rintro _ _ ⟨⟨er,rfl⟩,rfl⟩
 refine⟨_,_,rfl,w,P K,?_⟩
 refine HC.mono (m7 D) ?_
 rintro _ H7 ⟨rfl,e7⟩
 refine⟨_,rfl,?_⟩
 rw[E]
 have U:=(Q.trans e5).trans e7
 have f7:=K.trans e7.fr
 have y:(aX d.sp.mem w)[k]=(aOf w+(cV d.sp.mem w+(k:Int)),d.sp.mem.read (aOf w+(cV d.sp.mem w+(k:Int)))):=by
  simp only[m,List.getElem_map,List.getElem_range]
 have x:aX d.sp.mem w=(aX d.sp.mem w).take k++(aOf w+(cV d.sp.mem w+(k:Int)),d.sp.mem.read (aOf w+(cV d.sp.mem w+(k:Int))))::(aX d.sp.mem w).drop (k+1):=by
  rw[<-y,<-List.drop_eq_getElem_cons z,List.take_append_drop]
 refine FC.mono (hy _ _ _ _ T H7 x f7 (M _ _ _ _ N U)) ?_
 rintro v H8 (⟨rfl,T2,j8,f8,aj⟩ | ⟨rfl,r8⟩)
 ·refine⟨_,rfl,?_⟩
  rw[if_pos rfl]
  have a0:IntKind.wrap .i64 (cV d.sp.mem w+(k:Int)+1)=cV d.sp.mem w+((k+1:Nat):Int):=by rw[w64 (by omega)];omega
  rw[a0]
  have V:Fr S H H8:=f7.trans' f8 (λ_ h _=>h) (λj hj hl=>by
   rcases List.mem_append.1 hj with h | h
   ·exact h
   ·have:=hT _ _ _ N j h;omega)
  refine⟨⟨k+1,rfl,by omega,V,T2,?_⟩,by show(d.sp.mem.sizeOf w-(cV d.sp.mem w+((k+1:Nat):Int))).toNat< (d.sp.mem.sizeOf w-(cV d.sp.mem w+(k:Int))).toNat;omega⟩
  rw[List.take_succ_eq_append_getElem z,y]
  exact j8
 ·refine⟨_,rfl,?_⟩
  rw[if_neg (by decide)]
  exact r8
variable{a:Mem}
def addW(m:Mem)(L:List Int)(w:Int):List Int:=if m.sizeOf w>0/\w ∉ L then L++[w]else L
structure CmAt (m:Mem) (A:zV) (b3 b4 mr n0:Nat) (L:List Int) (T:List Nat):Prop where
 num:A[b3]?=some (.cells #[.map (some mr)] 100 (0,0))
 map: ∃(es:Array MapEntry) (cl:Nat) (ks:List (Int×Value)),A[mr]?=some (.map es cl)/\Ents (bF .u64) es.toList ks/\ ∀w,mget ks w=if w∈L then some (vi (L.idxOf w+1:Nat))else none
 lst: ∃(B:zW) (c:Nat),A[b4]?=some (.cells #[vs B L.length c] 29 (0,0))/\Own A 40 1 B L.length c (wvs L)/\T=blks B/\ ∀j∈blks B,n0<=j/\j<A.size
 ne:(b3≠b4/\b3≠mr/\b4≠mr)/\b3<n0/\b4<n0/\mr<n0
 nod:L.Nodup
 pos: ∀w∈L,m.sizeOf w>0/\aG w
theorem CmAt.ext{A d:zV}{b3 b4 mr n0:Nat}{L:List Int}{T:List Nat}(h:CmAt a A b3 b4 mr n0 L T)(e:Ext A d):CmAt a d b3 b4 mr n0 L T:=by
 obtain⟨k,i,r,l,m,n⟩:=h.map
 obtain⟨B,c,o,p,q,g⟩:=h.lst
 exact⟨e.get h.num,⟨k,i,r,e.get l,m,n⟩,⟨B,c,e.get o,p.ext e,q,λj f=>⟨(g j f).1,by have:=(g j f).2;have:=e.size;omega⟩⟩,h.ne,h.nod,h.pos⟩
theorem CmAt.at(m:Mem){A:zV}{b3 b4 mr n0:Nat}{L:List Int}{T:List Nat}(h:CmAt m A b3 b4 mr n0 L T): ∀j∈T,n0<=j/\j<A.size:=by
 obtain⟨B,c,d,e,rfl,a⟩:=h.lst
 exact a
set_option maxRecDepth 100000 in
set_option maxHeartbeats 1000000 in
theorem ud{A:zV}{b:Blk}{x:Hp}{b0 b3 b4 mr n0:Nat}{L:List Int}{T:List Nat}{w:Int}(hp:HpAt A b x)(ok:SpOK x.sp)(h0:A[b0]?=some (.cells #[vp (some ⟨b.h,0,none⟩)] 28 (0,0)))
  (C:CmAt x.sp.mem A b3 b4 mr n0 L T) (hw:aG w) (hl:L.length<=1000000) (ao:n0<=A.size):
  jt.C w (some ⟨b0,0,none⟩) (some ⟨b3,0,none⟩) (some ⟨b4,0,none⟩) A (λv W=>v=.tuple #[]/\ ∃T',CmAt x.sp.mem W b3 b4 mr n0 (addW x.sp.mem L w) T'/\Fr ([b4,mr]++T) A W/\ ∀j∈T',j∈T\/A.size<=j):=by
 refine HC.via λR hR=>jt.link ?_
 unfold jt.pt
 have hm:mof (some (b,x))=x.sp.mem:=rfl
 refine⟨_,rfl,_,by rw[aP h0];rfl,HC.mono (mO hp) ?_⟩
 rintro _ AA ⟨rfl,Q⟩
 obtain rfl:A=AA:=Q.symm
 refine⟨_,rfl,?_⟩
 rw[if_neg (by decide)]
 refine⟨_,by rw[aP h0];rfl,HC.mono (kN (.real hp ok) hw) ?_⟩
 rw[hm]
 rintro _ X ⟨rfl,O⟩
 refine⟨_,rfl,?_⟩
 have y:=C.ext O
 have z2:=O.size
 have s:addW x.sp.mem L w=L->R (.tuple #[]) X:=λe=>hR _ _ ⟨rfl,T,by rw[e];exact y,O.fr,λj g=> .inl g⟩
 by_cases M:x.sp.mem.sizeOf w>0
 case neg=>rw[if_neg M];exact s (by unfold addW;rw[if_neg (λh=>M h.1)])
 rw[if_pos M]
 obtain⟨es,cl,ks,m1,m2,m3⟩:=y.map
 obtain⟨⟨n1,n2,n3⟩,n4,n5,n6⟩:=y.ne
 refine⟨_,rfl,some mr,by rw[aP y.num];rfl,mr,rfl,es,cl,ks,m1,m2,(if w∈L then((L.idxOf w+1:Nat):Int)else 0),by rw[m3 w];split<;>rfl,?_⟩
 by_cases k:w∈L
 ·rw[if_pos k,if_neg (by omega)]
  exact s (by unfold addW;rw[if_neg (λh=>h.2 k)])
 rw[if_neg k,if_pos rfl]
 have f:addW x.sp.mem L w=L++[w]:=by unfold addW;rw[if_pos ⟨M,k⟩]
 obtain⟨B,c,k1,k2,rfl,k4⟩:=y.lst
 refine⟨_,rfl,B,_,c,by rw[aP k1];rfl,λb5 Y V I=>?_⟩
 have z:Ext X Y:=Ext.push' I
 have z3:=z.size
 refine dD (ys:=wvs [w]) (k2.ext z) (dV (aH V I) _ 0 0 (λj g=>by simp at g;subst g;rfl)) rfl (gT _) rfl (by omega) ?_
 intro P c' H4 o4 F o
 have S: ∀i,i<n0->i ∉ blks B:=λi n h=>by have:=(k4 i h).1;omega
 obtain⟨c5,s5⟩:=mX (F.get (S b4 n5) (z.get k1)) 0 (vs P (L.length+1) c') (by simp)
 rw[nz]at c5 s5
 refine⟨c5,λZ U=>?_⟩
 obtain⟨g5,G⟩:=s5 Z U
 have r:=G.get (by simp;exact n1) (F.get (S b3 n4) (z.get y.num))
 have p:=G.get (by simp;omega) (F.get (S mr n6) (z.get m1))
 have l: ∀j∈blks P,n0<=j:=λj g=>by
  rcases o j g with h | h
  ·exact(k4 j h).1
  ·omega
 have z4:=F.size
 have z5:=G.size
 have o5:=o4.keep G (λj g h=>by have:=l j g;simp at h;omega)
 refine⟨some mr,by rw[aP r];rfl,_,_,_,by rw[aP g5];rfl,mr,rfl,es,cl,ks,p,m2,λE D H6 J K=>?_⟩
 have H:Fr [mr] Z H6:=by rw[J];exact Fr.set
 have N:H6[mr]?=some (.map E D):=by rw[J];exact aY (aW p)
 have o6:=o5.keep H (λj g h=>by have:=l j g;simp at h;omega)
 have z6:=H.size
 refine hR _ _ ⟨rfl,blks P,⟨H.get (by simp;exact n2) r,⟨E,D,_,N,K,λu=>?_⟩,⟨P,c',?_,?_,rfl,λj g=>⟨l j g,o6.lt j g⟩⟩,C.ne,?_,λu hu=>?_⟩,?_,λj g=>?_⟩
 ·rw[kO,m3 u,f]
  by_cases t:u=w
  ·subst t
   rw[if_pos rfl,if_pos (by simp),List.idxOf_append,if_neg k]
   simp
  ·rw[if_neg t]
   by_cases m:u∈L
   ·rw[if_pos m,if_pos (by simp[m]),List.idxOf_append,if_pos m]
   ·rw[if_neg m,if_neg (by simp[m,t])]
 ·rw[f,List.length_append]
  exact H.get (by simp;exact n3) g5
 ·rw[f,List.length_append]
  have e:wvs (L++[w])=wvs L++wvs [w]:=by unfold wvs;rw[List.map_append]
  rw[e];exact o6
 ·rw[f,List.nodup_append]
  exact⟨C.nod,by simp,λa ha d hd=>by simp at hd;rw[hd];exact λq=>k (q▸ha)⟩
 ·rw[f]at hu
  rcases List.mem_append.1 hu with h | h
  ·exact C.pos u h
  ·simp at h;subst h;exact⟨M,hw⟩
 ·have a:Fr ([b4,mr]++blks B) A Y:=(O.trans z).fr
  exact((a.trans (F.mono (λi n _=>List.mem_append_right _ n))).trans (G.mono (λi n _=>by simp at n;simp[n]))).trans (H.mono (λi n _=>by simp at n;simp[n]))
 ·rcases o j g with h | h
  ·exact .inl h
  ·right;omega
theorem qd: ∀(n:Nat) (L:List Int),L.Nodup->(∀k∈L,0<=k/\k<n)->L.length<=n
  | 0,[],_,_=>Nat.le_refl _
  | 0,a::L,_,h=>by have:=h a (by simp);omega
  | n+1,L,hn,h=>by
    have i:=qd n (L.filter λk:Int=>decide (k≠(n:Int))) (hn.filter _) (λk hk=>by
      rw[List.mem_filter,decide_eq_true_eq]at hk
      have:=h k hk.1;omega)
    have j:L.length<=(L.filter λk:Int=>decide (k≠(n:Int))).length+1:=by
      by_cases hm:(n:Int)∈L
      · obtain⟨f,g,rfl⟩:=List.append_of_mem hm
        have c:=List.nodup_append.1 hn
        have d: ∀k∈f,decide (k≠(n:Int))=true:=λk hk=>by
          rw[decide_eq_true_eq];exact λq=>c.2.2 k hk (n:Int) (by simp) q
        have e: ∀k∈g,decide (k≠(n:Int))=true:=λk hk=>by
          rw[decide_eq_true_eq];exact λq=>(List.nodup_cons.1 c.2.1).1 (q▸hk)
        rw[List.filter_append,List.filter_cons_of_neg (by simp),List.filter_eq_self.2 d,List.filter_eq_self.2 e]
        simp only[List.length_append,List.length_cons];omega
      · have d: ∀k∈L,decide (k≠(n:Int))=true:=λk hk=>by
          rw[decide_eq_true_eq];exact λq=>hm (q▸hk)
        rw[List.filter_eq_self.2 d];omega
    omega
theorem CmAt.len{A:zV}{b3 b4 mr n0:Nat}{L:List Int}{T:List Nat}(h:CmAt a A b3 b4 mr n0 L T):L.length<=524288:=by
  refine qd 524288 L h.nod λk hk=>?_
  obtain⟨g,d⟩:=h.pos k hk
  have c:a.sizeOf k≠0:=by omega
  unfold Mem.sizeOf at c
  by_cases f:a.isPair k
  · rcases f.1 with q | q
    · have:=q.1.2;have:=d.1;omega
    · have:=q.1.2;have:=d.1;omega
  · rw[if_neg f]at c
    by_cases e:a.isObj k
    · have:=e.1.1.2;have:=d.1;omega
    · rw[if_neg e]at c;exact absurd rfl c
theorem nY{K:zV->Prop}: ∀(a:List Nat) (A:zV),a.Nodup->(∀D∈a,A[D]?=some (.deferred (some [])))->(∀c,Fr a A c->K c)->Shut a A K
  | [],A,_,_,h=>h A (Fr.refl _ _)
  | D::a,A,hn,hd,h=>by
    rw[List.nodup_cons]at hn
    have f:Fr [D] A (A.setIfInBounds D (.deferred none)):=Fr.set
    refine⟨hd D (by simp),nY a _ hn.2 (λE e=>f.get (by simp;exact λq=>hn.1 (q▸e)) (hd E (by simp[e]))) λc g=>h c ?_⟩
    exact(f.mono (λi d _=>by simp at d;simp[d])).trans (g.mono (λi d _=>by simp[d]))
theorem vv(m:Mem)(L:List Int)(w:Int){k:Nat}{v:Int}(h:L[k]?=some v):(addW m L w)[k]?=some v:=by
  unfold addW
  split
  · rw[List.getElem?_append_left (by exact(List.getElem?_eq_some_iff.1 h).1)];exact h
  · exact h
theorem m8(m:Mem): ∀(vs L:List Int) {k:Nat} {v:Int},L[k]?=some v->(vs.foldl (addW m) L)[k]?=some v
  | [],_,_,_,h=>h
  | w::vs,L,_,_,h=>m8 m vs _ (vv m L w h)
set_option maxRecDepth 100000 in
theorem uD{A:zV}{b:Blk}{x:Hp}{b0 b3 b4 b5 mr n0:Nat}{Q:zV->Prop}{D:zW}{m:Nat}{c:List Int}(Z:HpAt A b x)(ok:SpOK x.sp)(hb: ∀j∈b.all,j<n0)(R:A[b0]?=some (.cells #[vp (some ⟨b.h,0,none⟩)] 28 (0,0)))
    (V:A[b5]?=some (.cells #[.func (.func 93) #[] #[Vq (Addr.mk b0 0 none),Vq (Addr.mk b3 0 none),Vq (Addr.mk b4 0 none)]] 165 (0,0)))
    (g:b0<n0/\b5<n0/\n0<=A.size/\b4 ∉ b.all/\mr ∉ b.all/\b4≠b0/\b4≠b5/\mr≠b0/\mr≠b5) (C:CmAt x.sp.mem A b3 b4 mr n0 [] [])
    (M:Nums A .u64 D m c) (a1:m<=1000000) (y: ∀j∈blks D,j<n0/\j≠b4/\j≠mr) (I: ∀w∈c,aG w)
    (W: ∀l T,CmAt x.sp.mem l b3 b4 mr n0 (c.foldl (addW x.sp.mem) []) T->(∀j∈T,A.size<=j)->Fr [b4,mr] A l->Q l):
    ∃(p:zw) (z:Int->zV->Nat),p 0 A/\ ∀(f:Int) (s:zV),p f s->
    if f< (m:Int)then(
     ∃e:Addr,D=some e/\
     ((0:Int)<=f/\f< (m:Int))/\
     ∃x:Int,hat s (e.add (Int.toNat f*1))=some (vu x)/\
     ∃B:Value,hat s (Addr.mk b5 0 none)=some (B)/\
     FC prog B #[vu x] s (λ_ J=>
      (p (IntKind.wrap .i64 (f+1)) J/\z (IntKind.wrap .i64 (f+1)) J<z f s)))
    else Q s:=by
  obtain⟨q0,q5,qn,p4,p5,p6,p7,p8,p9⟩:=g
  have a0:=M.len
  refine⟨λi l=> ∃k:Nat,i=k/\k<=m/\Fr [b4,mr] A l/\ ∃T,CmAt x.sp.mem l b3 b4 mr n0 ((c.take k).foldl (addW x.sp.mem) []) T/\ ∀j∈T,A.size<=j,λi _=>((m:Int)-i).toNat,⟨0,rfl,by omega,Fr.refl _ _,[],by rw[List.take_zero];exact C,by simp⟩,?_⟩
  rintro _ l ⟨k,rfl,hk,o,T,t,d⟩
  by_cases g:(k:Int)< (m:Int)
  case neg=>
    rw[if_neg g]
    rw[List.take_of_length_le (by omega)]at t
    exact W l T t d o
  rw[if_pos g]
  have q:k<c.length:=by omega
  obtain⟨a,u,Y⟩:=M.at q
  have v:a.block∈blks D:=by rw[u];simp
  have r: ∀j,j≠b4->j≠mr->j ∉ [b4,mr]:=λj S U=>by simp;exact⟨S,U⟩
  have F:hat l (a.add (k*1))=some (vu c[k]):=o.hat (by
    rw[show(a.add (k*1)).block=a.block by unfold Addr.add;split<;>rfl]
    exact r _ (y _ v).2.1 (y _ v).2.2) Y
  refine⟨a,u,⟨by omega,g⟩,_,by rw[show Int.toNat (k:Int)=k by omega];exact F,_,by rw[aP (o.get (r _ p7.symm p9.symm) V)];rfl,?_⟩
  have H:=Z.keep o (λi K=>by simp at K;rcases K with rfl | rfl<;>assumption)
  refine FC.of (enters_of func93 (by kernel_rfl) rfl) (HC.mono (ud H ok (o.get (r _ p6.symm p8.symm) R) t (I _ (List.getElem_mem q)) (by have:=t.len;omega) (by have:=o.size;omega)) ?_)
  rintro _ A2 ⟨rfl,O,N,P,E⟩
  have hw:IntKind.wrap .i64 ((k:Int)+1)=((k+1:Nat):Int):=by rw[w64 (n:=(k:Int)+1) (by omega)];omega
  rw[hw]
  have X:=t.at
  refine⟨⟨k+1,rfl,by omega,o.trans' P (λ_ h _=>h) (λj G hl=>?_),O,?_,λj G=>?_⟩,by show((m:Int)-((k+1:Nat):Int)).toNat< ((m:Int)-(k:Int)).toNat;omega⟩
  · rcases List.mem_append.1 G with h | h
    · exact h
    · have:=d j h;omega
  · rw[List.take_succ_eq_append_getElem q,List.foldl_append];exact N
  · rcases E j G with h | h
    · exact d j h
    · have:=o.size;omega
def mQ(w:Int)(p:Int×Int):Bool:=decide (w % 8≠2\/p.1>aOf w)
def visL(w:Int)(l:List (Int×Int)):List Int:=(l.filter (mQ w)).map Prod.snd
theorem vx(w:Int)(l:List (Int×Int)){p:Int×Int}(h:mQ w p=true):visL w (l++[p])=visL w l++[p.2]:=by
  unfold visL;rw[List.filter_append,List.filter_cons_of_pos h,List.map_append];rfl
theorem wG(w:Int)(l:List (Int×Int)){p:Int×Int}(h: ¬mQ w p=true):visL w (l++[p])=visL w l:=by
  unfold visL;rw[List.filter_append,List.filter_cons_of_neg h];simp
def iF(m:Mem)(L:List Int)(i:Nat):List Int:=match L[i]? with | none=>L | some w=>(visL w (aX m w)).foldl (addW m) L
def bD(m:Mem)(roots:List Int):Nat->List Int
  | 0=>roots.foldl (addW m) []
  | i+1=>iF m (bD m roots i) i
theorem CmAt.keep{A e:zV}{b3 b4 mr n0:Nat}{L:List Int}{T S:List Nat}(h:CmAt a A b3 b4 mr n0 L T)(f:Fr S A e)(d:b3 ∉ S/\b4 ∉ S/\mr ∉ S)(p: ∀j∈T,j ∉ S):CmAt a e b3 b4 mr n0 L T:=by
  obtain⟨l,k,s,m,n,o⟩:=h.map
  obtain⟨B,c,q,r,rfl,i⟩:=h.lst
  exact⟨f.get d.1 h.num,⟨l,k,s,f.get d.2.2 m,n,o⟩,⟨B,c,f.get d.2.1 q,r.keep f p,rfl,λj g=>⟨(i j g).1,by have:=(i j g).2;have:=f.size;omega⟩⟩,h.ne,h.nod,h.pos⟩
section
variable {A:zV} {b:Blk} {x:Hp} {b0 b3 b4 b5 mr n0:Nat} {L:List Int} {T:List Nat} {w:Int}
set_option maxRecDepth 100000 in
theorem ue{H f:zV}{v:Int}{K:zv}(p:HpAt H b x)(s:SpOK x.sp)(l:H[b0]?=some (.cells #[vp (some ⟨b.h,0,none⟩)] 28 (0,0)))
    (m:H[b5]?=some (.cells #[.func (.func 93) #[] #[Vq (Addr.mk b0 0 none),Vq (Addr.mk b3 0 none),Vq (Addr.mk b4 0 none)]] 165 (0,0)))
    (C:CmAt x.sp.mem H b3 b4 mr n0 L T) (q:aG v) (hn:n0<=H.size) (c:Ext H f)
    (n: ∀r d e,CmAt x.sp.mem d b3 b4 mr n0 (addW x.sp.mem L v) e->Fr ([b4,mr]++T) H d->(∀j∈e,j∈T\/H.size<=j)->K r d):
    ∃a:Value,hat f (Addr.mk b5 0 none)=some (a)/\FC prog a #[vu v] f K:=by
  have t:=c.size
  refine⟨_,by rw[aP (c.get m)];rfl,?_⟩
  refine FC.of (enters_of func93 (by kernel_rfl) rfl) (HC.mono (ud (p.ext c) s (c.get l) (C.ext c) q (by have:=C.len;omega) (by omega)) ?_)
  rintro _ d ⟨rfl,e,i,k,g⟩
  refine n _ _ e i (c.fr.trans k) (λj o=>?_)
  rcases g j o with h | h
  · exact .inl h
  · right;omega
theorem wH{D c f:zV}{a z:Nat}{l:LoopState->Option Code->Obj}{m n U:List Nat}{v:List Int}(M:D.size<=c.size)(J:Fr [a] D c)(N:z<=D.size)(t:a<D.size/\a ∉ m/\a≠b3/\a≠b4/\a≠mr)(q:c[a]?=some (l .busy none))(o: ∀j∈m,j∈T\/j∈U)(K: ∀j∈U,z<=j)
    (C:CmAt x.sp.mem f b3 b4 mr n0 v n) (B:Fr ([b4,mr]++m) c f) (p: ∀j∈n,j∈m\/c.size<=j):
    f[a]?=some (l .busy none)/\ ∃s:List Nat,((aO f a (l .ready none))[a]?=some (l .ready none)/\(∀j∈s,z<=j)/\ ∃y:List Nat,CmAt x.sp.mem (aO f a (l .ready none)) b3 b4 mr n0 v y/\ ∀j∈y,j∈T\/j∈s)/\
      Fr (([a,b4,mr]++T)++U) D (aO f a (l .ready none))/\ ∀j∈s,j∈U\/D.size<=j:=by
  obtain⟨O,F,P,Q,R⟩:=t
  have u:a ∉ [b4,mr]++m:=λh=>by
    rcases List.mem_append.1 h with h | h
    · simp at h;omega
    · exact F h
  have G:=B.get u q
  have E:Fr [a] f (aO f a (l .ready none)):=Fr.set
  have g: ∀j∈n,j≠a:=λj d e=>by
    rcases p j d with h | h
    · exact F (e▸h)
    · omega
  refine⟨G,n.filter (λj=>decide (D.size<=j))++U,⟨aY (aW G),λj d=>?_,n,C.keep E ⟨by simp;omega,by simp;omega,by simp;omega⟩ (λj d=>by simp;exact g j d),λj d=>?_⟩,?_,λj d=>?_⟩
  · rcases List.mem_append.1 d with h | h
    · have r:=(List.mem_filter.1 h).2
      rw[decide_eq_true_eq]at r;omega
    · exact K j h
  · rcases p j d with h | h
    · rcases o j h with h | h
      · exact .inl h
      · exact .inr (List.mem_append_right _ h)
    · exact .inr (List.mem_append_left _ (List.mem_filter.2 ⟨d,by rw[decide_eq_true_eq];omega⟩))
  · have H:Fr (([a,b4,mr]++T)++U) D c:=J.mono (λi k _=>by simp at k;simp[k])
    have I:Fr (([a,b4,mr]++T)++U) c f:=B.mono (λi k _=>by
      rcases List.mem_append.1 k with h | h
      · simp at h;rcases h with h | h<;>simp[h]
      · rcases o i h with h | h<;>simp[h])
    exact(H.trans I).trans (E.mono (λi k _=>by simp at k;simp[k]))
  · rcases List.mem_append.1 d with h | h
    · have r:=(List.mem_filter.1 h).2
      rw[decide_eq_true_eq]at r;exact .inr r
    · exact .inl h
set_option maxRecDepth 100000 in
theorem wI{D:zV}{k iA f:Nat}{a v:Int}{s:LoopState->Option Code->Obj}{T1:List Nat}{E:List Int}{K:zv}(hp:HpAt D b x)(ok:SpOK x.sp)(h0:D[b0]?=some (.cells #[vp (some ⟨b.h,0,none⟩)] 28 (0,0)))
    (h5:D[b5]?=some (.cells #[.func (.func 93) #[] #[Vq (Addr.mk b0 0 none),Vq (Addr.mk b3 0 none),Vq (Addr.mk b4 0 none)]] 165 (0,0)))
    (C:CmAt x.sp.mem D b3 b4 mr n0 E T1) (hk:E[k]?=some w) (hw:aG w) (hv:aG v) (hi:D[iA]?=some (.cells #[vi (k:Int)] 3 (0,0)))
    (ql:D[f]?=some (s .ready none)) (hl:f ∉ b.all/\f ∉ T1/\f≠b0/\f≠b5/\f≠iA/\f≠b3/\f≠b4/\f≠mr) (hn:n0<=D.size)
    (hK: ∀d t L2 T2,Fr [f] D d->d.size=D.size->d[f]?=some (s .busy none)->L2=(if mQ w (a,v)=true then addW x.sp.mem E v else E)->CmAt x.sp.mem t b3 b4 mr n0 L2 T2->Fr ([b4,mr]++T1) d t->(∀j∈T2,j∈T1\/d.size<=j)->t[f]?=some (s .busy none)/\K VT (aO t f (s .ready none))):
    (D[f]?=some (s .ready none)/\ ∀d:zV,d=aO D f (s .busy none)->
    ∃N:zW,∃P:Nat,∃aa:Nat,hat d (Addr.mk b4 0 none)=some (vs N P aa)/\
    ∃m:Int,hat d (Addr.mk iA 0 none)=some (vi m)/\
    ∃J:Addr,N=some J/\
    ((0:Int)<=m/\m< (P:Int))/\
    ∃R:Int,hat d (J.add (Int.toNat m*1))=some (vu R)/\
    cS.C R d (λan g=> ∃S:Int,an=vi S/\
     if S=2 then(
      ∃O:zW,∃Q:Nat,∃ab:Nat,hat g (Addr.mk b4 0 none)=some (vs O Q ab)/\
      ∃n:Int,hat g (Addr.mk iA 0 none)=some (vi n)/\
      ∃M:Addr,O=some M/\
      ((0:Int)<=n/\n< (Q:Int))/\
      ∃U:Int,hat g (M.add (Int.toNat n*1))=some (vu U)/\
      fI.C U g (λao o=> ∃V:Int,ao=vi V/\
       if a>V then(
        ∃W:Value,hat o (Addr.mk b5 0 none)=some (W)/\
        FC prog W #[vu v] o (λ_ a4=>
         a4[f]?=some (s .busy none)/\
         K VT (aO a4 f (s .ready none))))
       else
       o[f]?=some (s .busy none)/\
       K VT (aO o f (s .ready none))))
     else
     ∃X:Value,hat g (Addr.mk b5 0 none)=some (X)/\
     FC prog X #[vu v] g (λ_ a5=>
      a5[f]?=some (s .busy none)/\
      K VT (aO a5 f (s .ready none))))):=by
  obtain⟨l1,l2,l3,l4,l5,l6,l7,l8⟩:=hl
  refine⟨ql,λd l=>?_⟩
  have H:Fr [f] D d:=by rw[l];exact Fr.set
  have a2:d.size=D.size:=by rw[l];unfold aO;simp
  have u:d[f]?=some (s .busy none):=by rw[l];exact aY (aW ql)
  have ns: ∀j,f≠j->j ∉ [f]:=λj h=>by simp;exact λe=>h e.symm
  have y:=C.keep H ⟨ns _ l6,ns _ l7,ns _ l8⟩ (λj hj=>ns _ (λe=>l2 (e▸hj)))
  have a9:=H.get (ns _ l5) hi
  have G:=H.get (ns _ l4) h5
  have F:=H.get (ns _ l3) h0
  have I:=hp.keep H (λi a7 hq=>by simp at a7;exact l1 (a7▸hq))
  clear l
  have a8:k<E.length:=(List.getElem?_eq_some_iff.1 hk).1
  have ah:E[k]=w:=by rw[List.getElem?_eq_getElem a8]at hk;exact Option.some.inj hk
  have rd: ∀{t:zV},Ext d t-> ∃(B:zW) (c:Nat) (pa:Addr),hat t (Addr.mk b4 0 none)=some (vs B E.length c)/\B=some pa/\hat t (pa.add (Int.toNat (k:Int)*1))=some (vu w):=λex=>by
    obtain⟨B,c,k1,k2,_,_⟩:=y.lst
    obtain⟨pa,h1,Z⟩:=lI k2.src a8
    rw[ah]at Z
    exact⟨B,c,pa,by rw[aP (ex.get k1)];rfl,h1,by rw[show Int.toNat (k:Int)=k by omega];exact ex.hat Z⟩
  obtain⟨B,c,pa,r1,r2,r3⟩:=rd (Ext.refl _)
  refine⟨B,_,c,r1,(k:Int),by rw[aP a9];rfl,pa,r2,⟨by omega,by omega⟩,w,r3,?_⟩
  refine HC.mono (gK hw) ?_
  rintro _ g ⟨rfl,p⟩
  refine⟨_,rfl,?_⟩
  by_cases Z:w % 8=2
  · rw[if_pos Z]
    obtain⟨B',c',aj,ak,al,am⟩:=rd p
    refine⟨B',_,c',ak,(k:Int),by rw[aP (p.get a9)];rfl,aj,al,⟨by omega,by omega⟩,w,am,?_⟩
    refine HC.mono (m7 hw) ?_
    rintro _ o ⟨rfl,Y⟩
    refine⟨_,rfl,?_⟩
    by_cases z:a>aOf w
    · rw[if_pos z]
      refine ue I ok F G y hv (by omega) (p.trans Y) λr t T2 C2 f2 a0=>hK d t _ T2 H a2 u ?_ C2 f2 a0
      rw[if_pos (by unfold mQ;rw[decide_eq_true_eq];exact .inr z)]
    · rw[if_neg z]
      refine hK d o E T1 H a2 u ?_ (y.ext (p.trans Y)) (p.trans Y).fr (λj hj=> .inl hj)
      rw[if_neg (by unfold mQ;rw[decide_eq_true_eq];intro q;rcases q with q | q;exact q Z;exact z q)]
  · rw[if_neg Z]
    refine ue I ok F G y hv (by omega) p λr t T2 C2 f2 a0=>hK d t _ T2 H a2 u ?_ C2 f2 a0
    rw[if_pos (by unfold mQ;rw[decide_eq_true_eq];exact .inl Z)]
set_option maxRecDepth 100000 in
theorem tH{k iA:Nat}{Kp:(LoopState->Option Code->Obj)->Nat->zV->zV->Prop}(hp:HpAt A b x)(ok:SpOK x.sp)(hb: ∀j∈b.all,j<n0)(h0:A[b0]?=some (.cells #[vp (some ⟨b.h,0,none⟩)] 28 (0,0)))
    (h5:A[b5]?=some (.cells #[.func (.func 93) #[] #[Vq (Addr.mk b0 0 none),Vq (Addr.mk b3 0 none),Vq (Addr.mk b4 0 none)]] 165 (0,0)))
    (bb:b0<n0/\b5<n0/\n0<=A.size/\b4 ∉ b.all/\mr ∉ b.all/\b4≠b0/\b4≠b5/\mr≠b0/\mr≠b5) (C:CmAt x.sp.mem A b3 b4 mr n0 L T) (hk:L[k]?=some w) (hw:aG w)
    (hi:A[iA]?=some (.cells #[vi (k:Int)] 3 (0,0))) (aj:iA ∉ T/\n0<=iA)
    (hK: ∀g c f t M,CmAt x.sp.mem t b3 b4 mr n0 ((visL w (aX x.sp.mem w)).foldl (addW x.sp.mem) L) M->A.size<=f.size->c=f.size+1->t[f.size]?=some (.deferred (some []))->t[c]?=some (g .ready none)->f.size ∉ M->c ∉ M->Fr ([b4,mr]++T) A t->(∀j∈M,j∈T\/A.size<=j)->Kp g c f t):
    bY.C (some ⟨b.h,0,none⟩) w A (λaa f=>aa=aa/\
   ∀(g:LoopState->Option Code->Obj) (c:Nat) (d:zV),c=f.size+1->d=(f.push (.deferred (some []))).push (g .ready none)->
   ∀vY:Value,(∀(an:Int) (ab:Int) (B:zV) (I:zv),B[c]?=some (g .ready none)->
   (B[c]?=some (g .ready none)/\ ∀p:zV,p=aO B c (g .busy none)->
    ∃V:zW,∃X:Nat,∃al:Nat,hat p (Addr.mk b4 0 none)=some (vs V X al)/\
    ∃n:Int,hat p (Addr.mk iA 0 none)=some (vi n)/\
    ∃Q:Addr,V=some Q/\
    ((0:Int)<=n/\n< (X:Int))/\
    ∃Z:Int,hat p (Q.add (Int.toNat n*1))=some (vu Z)/\
    cS.C Z p (λbg r=> ∃a0:Int,bg=vi a0/\
     if a0=2 then(
      ∃W:zW,∃Y:Nat,∃am:Nat,hat r (Addr.mk b4 0 none)=some (vs W Y am)/\
      ∃o:Int,hat r (Addr.mk iA 0 none)=some (vi o)/\
      ∃R:Addr,W=some R/\
      ((0:Int)<=o/\o< (Y:Int))/\
      ∃a1:Int,hat r (R.add (Int.toNat o*1))=some (vu a1)/\
      fI.C a1 r (λbh E=> ∃a2:Int,bh=vi a2/\
       if an>a2 then(
        ∃a3:Value,hat E (Addr.mk b5 0 none)=some (a3)/\
        FC prog a3 #[vu ab] E (λ_ af=>
         af[c]?=some (g .busy none)/\
         I VT (aO af c (g .ready none))))
       else
       E[c]?=some (g .busy none)/\
       I VT (aO E c (g .ready none))))
     else
     ∃a4:Value,hat r (Addr.mk b5 0 none)=some (a4)/\
     FC prog a4 #[vu ab] r (λ_ ag=>
      ag[c]?=some (g .busy none)/\
      I VT (aO ag c (g .ready none)))))->
   FC prog vY #[vi an,vu ab] B I)->
   FE prog aa #[vY] d (λ_ av=>Kp g c f av)):=by
  obtain⟨q0,q5,qn,p4,p5,p6,p7,p8,p9⟩:=bb
  obtain⟨⟨n1,n2,n3⟩,n4,n5,n6⟩:=C.ne
  have F:=C.at
  have bU:=aW hi
  refine bY.link ?_
  unfold bY.pt
  intro c0 H1 b7 a5 c1 y b8 a6
  have e1:Ext A H1:=Ext.push' a5
  have e2:Ext H1 y:=Ext.push' a6
  have z1:H1.size=A.size+1:=by rw[a5];simp
  have z2:y.size=H1.size+1:=by rw[a6];simp
  refine⟨rfl,λg c d ba m vY hY=>?_⟩
  have e3:Ext y d:=(Ext.push' rfl).trans (Ext.push' m)
  have z3:d.size=y.size+2:=by rw[m];simp
  have ah:d[y.size]?=some (.deferred (some [])):=by
    have:(y.push (.deferred (some [])))[y.size]?=some (.deferred (some [])):=aH rfl rfl
    exact(Ext.push' m).get this
  have aC:d[c]?=some (g .ready none):=aH (by simp;omega) m
  have e:=(e1.trans e2).trans e3
  have u: ∀j,j∈[c,b4,mr]++T->j=c\/j=b4\/j=mr\/(n0<=j/\j<A.size):=λj G=>by
    rcases List.mem_append.1 G with h | h
    · simp at h;omega
    · exact .inr (.inr (.inr (F j h)))
  have iS:iA ∉ [c,b4,mr]++T:=λh=>by
    rcases List.mem_append.1 h with h | h
    · simp at h;omega
    · exact aj.1 h
  have dS:y.size ∉ [c,b4,mr]++T:=λh=>by have:=u _ h;omega
  have az:b5 ∉ [c,b4,mr]++T:=λh=>by have:=u _ h;omega
  have ax:b0 ∉ [c,b4,mr]++T:=λh=>by have:=u _ h;omega
  refine FE.of2 (enters_of func97 (by kernel_rfl) rfl) rfl (oz (w:=w) (S:=[c,b4,mr]++T)
    (J:=λl U D=>D[c]?=some (g .ready none)/\(∀j∈U,d.size<=j)/\ ∃N,CmAt x.sp.mem D b3 b4 mr n0 ((visL w l).foldl (addW x.sp.mem) L) N/\ ∀j∈N,j∈T\/j∈U)
    (hp.ext e) ok ((e2.trans e3).get (aH b7 a5)) (e3.get (aH b8 a6)) hw (λi a7=>by
      have h:=u i a7
      refine⟨λH=>?_,by omega,by omega⟩
      have:=hb i H
      rcases h with h | h | h | h
      · omega
      · exact p4 (h▸H)
      · exact p5 (h▸H)
      · omega) (λl U D D' ⟨h1,h2,N,h3,h4⟩ ee=>⟨ee.get h1,h2,N,h3.ext ee,h4⟩) (λl U D h j G=>h.2.1 j G)
    (λa9 a v bq U D ai O hJ=>?_) ⟨aC,by simp,T,C.ext e,λj G=> .inl G⟩ (λU D hJ O=>?_))
  · obtain⟨ql,hU,N,C1,s⟩:=hJ
    have bd:aG v:=by
      have hm:(a,v)∈aX x.sp.mem w:=by rw[ai];simp
      unfold aX at hm
      split at hm
      · cases hm
      · obtain⟨i,_,H⟩:=List.mem_map.1 hm
        cases H
        exact Mem.read_word ok.mem _
    have z0:=O.size
    have P: ∀j∈N,j≠c/\j≠iA/\j≠y.size:=λj G=>by
      rcases s j G with h | h
      · have:=F j h
        exact⟨by omega,λq=>aj.1 (q▸h),by omega⟩
      · have:=hU j h;omega
    have bc:=(hp.ext e).keep O (λi a7 H=>by
      have h:=u i a7
      have:=hb i H
      rcases h with h | h | h | h
      · omega
      · exact p4 (h▸H)
      · exact p5 (h▸H)
      · omega)
    have iD:=O.get iS (e.get hi)
    have ay:=O.get az (e.get h5)
    have aw:=O.get ax (e.get h0)
    have be:c ∉ b.all:=λq=>by have:=hb c q;omega
    refine(show∀K:zv,(∀t,(∃M:List Nat,(t[c]?=some (g .ready none)/\(∀j∈M,d.size<=j)/\ ∃T3:List Nat,CmAt x.sp.mem t b3 b4 mr n0 ((visL w (a9++[(a,v)])).foldl (addW x.sp.mem) L) T3/\ ∀j∈T3,j∈T\/j∈M)/\
        Fr (([c,b4,mr]++T)++U) D t/\ ∀j∈M,j∈U\/D.size<=j)->K VT t)->FC prog vY #[vi a,vu v] D K from λK aT=>hY a v D K ql (wI (K:=K) bc ok aw ay C1 (m8 x.sp.mem (visL w a9) L hk) hw bd iD ql ⟨be,λq=>(P c q).1 rfl,by omega,by omega,by omega,by omega,by omega,by omega⟩ (by omega) (λp Hx L2 T2 g5 gz gq aZ C2 f2 b2=>?_))) _ (λt h=> .inl ⟨rfl,h⟩)
    have b1:L2=(visL w (a9++[(a,v)])).foldl (addW x.sp.mem) L:=by
      rw[aZ]
      split
      · rename_i hg;rw[vx _ _ hg,List.foldl_append];rfl
      · rename_i hg;rw[wG _ _ hg]
    obtain⟨d1,d2⟩:=wH (z:=d.size) (by omega) g5 (by omega) ⟨aW ql,λq=>(P c q).1 rfl,by omega,by omega,by omega⟩ gq s hU C2 f2 b2
    rw[b1]at d2
    exact⟨d1,aT _ d2⟩
  · obtain⟨ql,hU,N,C1,s⟩:=hJ
    refine hK g c y D N C1 (by omega) ba (O.get dS ah) ql (λh=>?_) (λh=>?_) (e.fr.trans' O (λi hi _=>hi) (λi hi hl=>?_)) (λj G=>?_)
    · rcases s _ h with q | q
      · have:=F _ q;omega
      · have:=hU _ q;omega
    · rcases s _ h with q | q
      · have:=F _ q;omega
      · have:=hU _ q;omega
    · rcases List.mem_append.1 hi with h | h
      · simp at h
        rcases h with h | h | h
        · omega
        · simp[h]
        · simp[h]
      · exact List.mem_append_right _ h
    · rcases s _ G with q | q
      · exact .inl q
      · have:=hU _ q;right;omega
end
end Go.Proofs.YtojbbgcjiaphjaaGreat
namespace Go.Proofs.YtojbbgcjiaphjaaGreat
open Go
def isN(ks:List (Int×Value))(w:Int):Int:=match(mget ks w).getD (vi 0)with | .int .i64 n=>n | _=>0
def mn(ks:List (Int×Value))(w:Int):Int:=
  if w % 8=5\/w % 8=6 then 1 else if(w % 8=1\/w % 8=2\/w % 8=3)/\mayW w=true/\isN ks w=0 then 18 else if mayW w=true then 0 else 1
set_option maxRecDepth 100000 in
theorem wJ{A:zV}{B:Nat}{p:Array MapEntry}{x:Nat}{f:List (Int×Value)}{w:Int}(hm:A[B]?=some (.map p x))(P:Ents (bF .u64) p.toList f)(S: ∀w,∃n:Int,(mget f w).getD (vi 0)=vi n)(z:aG w):
    fW.C w (some B) A (λv N=>v=vi (mn f w)/\Ext A N):=by
  refine HC.via λR l=>fW.link ?_
  unfold fW.pt
  obtain⟨n,hn⟩:=S w
  have L:isN f w=n:=by unfold isN;rw[hn]
  refine HC.mono (gK z) ?_
  rintro _ O ⟨rfl,h⟩
  refine⟨_,rfl,?_⟩
  by_cases G:w % 8=5
  · rw[if_pos G];exact l _ _ ⟨by unfold mn;rw[if_pos (.inl G)],h⟩
  rw[if_neg G]
  by_cases H:w % 8=6
  · rw[if_pos H];exact l _ _ ⟨by unfold mn;rw[if_pos (.inr H)],h⟩
  rw[if_neg H]
  have c: ¬(w % 8=5\/w % 8=6):=by omega
  have b:(w % 8=1\/w % 8=2\/w % 8=3)->eM.C w O (λI g=> ∃s:Bool,I=.bool s/\
    if s=true then(
     ∃j:Nat,(some B:Option Nat)=some j/\
     ∃(p:Array MapEntry) (x:Nat) (f:List (Int×Value)),g[j]?=some (.map p x)/\Ents (bF .u64) p.toList f/\
     ∃t:Int,(mget f w).getD (vi 0)=vi t/\
     if t=0 then(
      R (vi 18) g)
     else
     eM.C w g (λo k=> ∃d:Bool,o=.bool d/\
      if d=true then(
       R (vi 0) k)
      else
      R (vi 1) k))
    else
    eM.C w g (λJ K=> ∃u:Bool,J=.bool u/\
     if u=true then(
      R (vi 0) K)
     else
     R (vi 1) K)):=λQ=>by
    refine HC.mono (lF z) ?_
    rintro _ g ⟨rfl,y⟩
    refine⟨_,rfl,?_⟩
    have i: ∀{g:zV},Ext A g-> ¬(mayW w=true/\isN f w=0)->eM.C w g (λo k=> ∃d:Bool,o=.bool d/\
      if d=true then(
       R (vi 0) k)
      else
      R (vi 1) k):=λe M=>by
      refine HC.mono (lF z) ?_
      rintro _ k ⟨rfl,r⟩
      refine⟨_,rfl,?_⟩
      by_cases a:mayW w=true
      · rw[if_pos a];exact l _ _ ⟨by unfold mn;rw[if_neg c,if_neg (λq=>M q.2),if_pos a],e.trans r⟩
      · rw[if_neg a];exact l _ _ ⟨by unfold mn;rw[if_neg c,if_neg (λq=>M q.2),if_neg a],e.trans r⟩
    by_cases a:mayW w=true
    · rw[if_pos a]
      refine⟨B,rfl,p,x,f,(h.trans y).get hm,P,n,hn,?_⟩
      by_cases m:n=0
      · rw[if_pos m];exact l _ _ ⟨by unfold mn;rw[if_neg c,if_pos ⟨Q,a,by omega⟩],h.trans y⟩
      · rw[if_neg m];exact i (h.trans y) (λq=>m (by omega))
    · rw[if_neg a];exact i (h.trans y) (λq=>a q.1)
  by_cases D:w % 8=1
  · rw[if_pos D];exact b (.inl D)
  rw[if_neg D]
  by_cases E:w % 8=2
  · rw[if_pos E];exact b (.inr (.inl E))
  rw[if_neg E]
  by_cases F:w % 8=3
  · rw[if_pos F];exact b (.inr (.inr F))
  rw[if_neg F]
  refine HC.mono (lF z) ?_
  rintro _ k ⟨rfl,r⟩
  refine⟨_,rfl,?_⟩
  by_cases a:mayW w=true
  · rw[if_pos a];exact l _ _ ⟨by unfold mn;rw[if_neg c,if_neg (by omega),if_pos a],h.trans r⟩
  · rw[if_neg a];exact l _ _ ⟨by unfold mn;rw[if_neg c,if_neg (by omega),if_neg a],h.trans r⟩
end Go.Proofs.YtojbbgcjiaphjaaGreat
namespace Go.Proofs.YtojbbgcjiaphjaaGreat
open Go
open Go.ChangeShapes Go.WideShapes
structure iK where
 tag:Int
 type:Int
 more:Int
 words:Sl Int
 is:Sl Int
abbrev iK.cells(rr:iK):List Value:=[vi rr.tag,vi rr.type,vu rr.more,vs rr.words.p rr.words.n rr.words.c,vs rr.is.p rr.is.n rr.is.c]
structure iK.OK (B:Nat) (H:zV) (rr:iK):Prop where
 tag:(intR .i64).ok B H rr.tag
 type:(intR .i64).ok B H rr.type
 more:(intR .u64).ok B H rr.more
 words:(slR 1 (intR .u64)).ok B H rr.words
 is:(slR 1 (intR .i64)).ok B H rr.is
def k9:Rdr iK:=⟨iK.cells,iK.OK,λe h=>⟨(intR .i64).mono e h.tag,(intR .i64).mono e h.type,(intR .u64).mono e h.more,(slR 1 (intR .u64)).mono e h.words,(slR 1 (intR .i64)).mono e h.is⟩⟩
end Go.Proofs.YtojbbgcjiaphjaaGreat
namespace Go.Proofs.YtojbbgcjiaphjaaGreat
open Go Go.Proofs.Tryz
open Go.ChangeShapes Go.WideShapes
theorem gU{A a A3:zV}{b:Nat}{c:Array Value}{T:TypeId}(j:b=A.size)(d:a=A.push (.cells c T (0,0)))(vs:List Value)(l:vs.length=c.size):
  aK a (Addr.mk b 0 none) 0 vs.length/\(A3=aR a (Addr.mk b 0 none) vs 0->A3[b]?=some (.cells (splice c 0 vs) T (0,0))/\Ext A A3):=by
 have g:=aH j d
 have e:Ext A a:=Ext.push' d
 refine⟨cW g _ _ _ (by omega),λh=>?_⟩
 rw[cH vs a c 0 0 g]at h
 rw[h]
 have f:Fr [b] a (aO a b (.cells (splice c (0+0) vs) T (0,0))):=Fr.set
 exact⟨aY (aW g),e.fr_trans f (λi k=>by simp at k;omega)⟩
theorem vy{H:zV}{p q:zW}{n m c d:Nat}{g l:List Int}(A:Nums H .u64 p n g)(B:Nums H .u64 q m l)(hn:n<=maxLen):
  bG.C p n c q m d H (λv D=>v=.bool (decide (g=l))/\D=H):=by
 refine HC.via λR t=>bG.link ?_
 unfold bG.pt zY
 have K:=A.len
 have M:=B.len
 have L:maxLen=9223372036854775807:=rfl
 by_cases s:(n:Int)=(m:Int)
 case neg=>rw[if_neg s];exact t _ _ ⟨by rw[zQ];intro q;rw[q]at K;omega,rfl⟩
 rw[if_pos s]
 refine⟨λi z=>z=H/\ ∃k:Nat,i=k/\k<=n/\ ∀j,j<k->g[j]?=l[j]?,λi _=>((n:Int)-i).toNat,⟨rfl,0,rfl,by omega,λj h=>by omega⟩,?_⟩
 rintro _ _ ⟨rfl,k,rfl,hk,y⟩
 by_cases f:(k:Int)< (n:Int)
 case neg=>
  rw[if_neg f]
  have I:g=l:=List.ext_getElem? λj=>by
   by_cases G:j<k
   ·exact y j G
   ·rw[List.getElem?_eq_none (by omega),List.getElem?_eq_none (by omega)]
  exact t _ _ ⟨by rw[zX I],rfl⟩
 rw[if_pos f]
 have o:k<g.length:=by omega
 have r:k<l.length:=by omega
 obtain⟨a,u,E⟩:=A.at o
 obtain⟨b,w,F⟩:=B.at r
 refine⟨a,u,⟨by omega,f⟩,_,by rw[show Int.toNat (k:Int)=k by omega];exact E,b,w,⟨by omega,by omega⟩,_,by rw[show Int.toNat (k:Int)=k by omega];exact F,?_⟩
 by_cases e:g[k]=l[k]
 ·rw[if_pos e]
  have J:IntKind.wrap .i64 ((k:Int)+1)=((k+1:Nat):Int):=by rw[w64 (n:=(k:Int)+1) (by omega)];omega
  rw[J]
  refine⟨⟨rfl,k+1,rfl,by omega,λj h=>?_⟩,by show((n:Int)-((k+1:Nat):Int)).toNat< ((n:Int)-(k:Int)).toNat;omega⟩
  by_cases x:j=k
  ·subst x;rw[List.getElem?_eq_getElem o,List.getElem?_eq_getElem r,e]
  ·exact y j (by omega)
 ·rw[if_neg e]
  exact t _ _ ⟨by rw[zQ];intro q;subst q;exact e rfl,rfl⟩
theorem vz{H:zV}{p q:zW}{n m c d:Nat}{g l:List Int}(A:Nums H .i64 p n g)(B:Nums H .i64 q m l)(hn:n<=maxLen):
  cR.C p n c q m d H (λv D=>v=.bool (decide (g=l))/\D=H):=by
 refine HC.via λR t=>cR.link ?_
 unfold cR.pt zY
 have K:=A.len
 have M:=B.len
 have L:maxLen=9223372036854775807:=rfl
 by_cases s:(n:Int)=(m:Int)
 case neg=>rw[if_neg s];exact t _ _ ⟨by rw[zQ];intro q;rw[q]at K;omega,rfl⟩
 rw[if_pos s]
 refine⟨λi z=>z=H/\ ∃k:Nat,i=k/\k<=n/\ ∀j,j<k->g[j]?=l[j]?,λi _=>((n:Int)-i).toNat,⟨rfl,0,rfl,by omega,λj h=>by omega⟩,?_⟩
 rintro _ _ ⟨rfl,k,rfl,hk,y⟩
 by_cases f:(k:Int)< (n:Int)
 case neg=>
  rw[if_neg f]
  have I:g=l:=List.ext_getElem? λj=>by
   by_cases G:j<k
   ·exact y j G
   ·rw[List.getElem?_eq_none (by omega),List.getElem?_eq_none (by omega)]
  exact t _ _ ⟨by rw[zX I],rfl⟩
 rw[if_pos f]
 have o:k<g.length:=by omega
 have r:k<l.length:=by omega
 obtain⟨a,u,E⟩:=A.at o
 obtain⟨b,w,F⟩:=B.at r
 refine⟨a,u,⟨by omega,f⟩,_,by rw[show Int.toNat (k:Int)=k by omega];exact E,b,w,⟨by omega,by omega⟩,_,by rw[show Int.toNat (k:Int)=k by omega];exact F,?_⟩
 by_cases e:g[k]=l[k]
 ·rw[if_pos e]
  have J:IntKind.wrap .i64 ((k:Int)+1)=((k+1:Nat):Int):=by rw[w64 (n:=(k:Int)+1) (by omega)];omega
  rw[J]
  refine⟨⟨rfl,k+1,rfl,by omega,λj h=>?_⟩,by show((n:Int)-((k+1:Nat):Int)).toNat< ((n:Int)-(k:Int)).toNat;omega⟩
  by_cases x:j=k
  ·subst x;rw[List.getElem?_eq_getElem o,List.getElem?_eq_getElem r,e]
  ·exact y j (by omega)
 ·rw[if_neg e]
  exact t _ _ ⟨by rw[zQ];intro q;subst q;exact e rfl,rfl⟩
def keyK(x:iK):Int×Int×Int×List Int×List Int:=(x.tag,x.type,x.more,x.words.xs,x.is.xs)
set_option maxRecDepth 100000 in
theorem wK{H:zV}{x y:iK}(m:k9.ok maxLen H x)(u:k9.ok maxLen H y):
  jo.C x.tag x.type x.more x.words.p x.words.n x.words.c x.is.p x.is.n x.is.c y.tag y.type y.more y.words.p y.words.n y.words.c y.is.p y.is.n y.is.c H (λv w=>v=.bool (decide (keyK x=keyK y))/\Ext H w):=by
 refine HC.via λR t=>jo.link ?_
 unfold jo.pt
 intro b r G f I B o g
 have D:Ext H r:=Ext.push' f
 have s:Ext r B:=Ext.push' g
 have a:=s.get (aH G f)
 have d:=aH o g
 have e:=D.trans s
 have no: ∀{A:zV},Ext H A->keyK x≠keyK y->R VF A:=λE h=>t _ _ ⟨by rw[zQ h],E⟩
 refine⟨x.tag,by rw[aP a];rfl,y.tag,by rw[aP d];rfl,?_⟩
 by_cases i:x.tag=y.tag
 case neg=>rw[if_neg i];exact no e (λq=>i (congrArg (λz=>z.1) q))
 rw[if_pos i]
 refine⟨x.type,by rw[eO a];rfl,y.type,by rw[eO d];rfl,?_⟩
 by_cases j:x.type=y.type
 case neg=>rw[if_neg j];exact no e (λq=>j (congrArg (λz=>z.2.1) q))
 rw[if_pos j]
 refine⟨x.more,by rw[eO a];rfl,y.more,by rw[eO d];rfl,?_⟩
 by_cases k:x.more=y.more
 case neg=>rw[if_neg k];exact no e (λq=>k (congrArg (λz=>z.2.2.1) q))
 rw[if_pos k]
 refine⟨_,_,_,by rw[eO a];rfl,_,_,_,by rw[eO d];rfl,?_⟩
 refine HC.mono (vy ((SlOK.nums m.words).ext e) ((SlOK.nums u.words).ext e) m.words.le) ?_
 rintro _ _ ⟨rfl,rfl⟩
 refine⟨_,rfl,?_⟩
 by_cases l:x.words.xs=y.words.xs
 case neg=>rw[if_neg (by rw[decide_eq_true_eq];exact l)];exact no e (λq=>l (congrArg (λz=>z.2.2.2.1) q))
 rw[if_pos (zX l)]
 refine⟨_,_,_,by rw[eO a];rfl,_,_,_,by rw[eO d];rfl,?_⟩
 refine HC.mono (vz ((SlOK.nums m.is).ext e) ((SlOK.nums u.is).ext e) m.is.le) ?_
 rintro _ _ ⟨rfl,rfl⟩
 refine⟨_,rfl,t _ _ ⟨?_,e⟩⟩
 congr 1
 rw[decide_eq_decide]
 exact⟨λF=>by unfold keyK;rw[i,j,k,l,F],λq=>congrArg (λz=>z.2.2.2.2) q⟩
theorem wL{a b:List iK}{k:Nat}(c:k<a.length)(d:k<b.length)(h:keyK a[k]≠keyK b[k]):a.map keyK≠b.map keyK:=λq=>h (by
 have e:(a.map keyK)[k]?=(b.map keyK)[k]?:=by rw[q]
 rw[List.getElem?_map,List.getElem?_map,List.getElem?_eq_getElem c,List.getElem?_eq_getElem d]at e
 simpa using e)
theorem vA{a b:List iK}(e:a.length=b.length)(h: ∀(j:Nat) (c:j<a.length) (d:j<b.length),keyK a[j]=keyK b[j]):a.map keyK=b.map keyK:=by
 refine List.ext_getElem (by simpa using e) λj c d=>?_
 rw[List.getElem_map,List.getElem_map]
 exact h j (by simpa using c) (by simpa using d)
set_option maxRecDepth 100000 in
theorem wM{H:zV}{a b:Sl iK}(A:SlOK 5 k9 maxLen H a)(B:SlOK 5 k9 maxLen H b):
  jL.C a.p a.n a.c b.p b.n b.c H (λv y=>v=.bool (decide (a.xs.map keyK=b.xs.map keyK))/\Ext H y):=by
 refine HC.via λR t=>jL.link ?_
 unfold jL.pt
 refine HC.mono (R:=λv y=>v=.bool (decide (a.xs.map keyK=b.xs.map keyK))/\Ext H y) ?_ (λv y ⟨l,m⟩=>⟨_,l,t _ _ ⟨rfl,m⟩⟩)
 refine HC.via λR t=>aT.link ?_
 unfold aT.pt zY
 have W:=A.len
 have Y:=B.len
 have X:=A.le
 by_cases x:(a.n:Int)=(b.n:Int)
 case neg=>rw[if_neg x];exact t _ _ ⟨by rw[zQ];intro q;have:=congrArg List.length q;simp at this;omega,Ext.refl _⟩
 rw[if_pos x]
 have hM:maxLen=9223372036854775807:=rfl
 refine⟨λi O=>Ext H O/\ ∃k:Nat,i=k/\k<=a.n/\ ∀(j:Nat) (l:j<a.xs.length) (m:j<b.xs.length),j<k->keyK a.xs[j]=keyK b.xs[j],λi _=>((a.n:Int)-i).toNat,⟨Ext.refl _,0,rfl,by omega,λj _ _ h=>by omega⟩,?_⟩
 rintro _ H1 ⟨z,k,rfl,hk,N⟩
 by_cases g:(k:Int)< (a.n:Int)
 case neg=>rw[if_neg g];exact t _ _ ⟨by rw[zX (vA (by omega) (λj l m=>N j l m (by omega)))],z⟩
 rw[if_pos g]
 have e:k<a.xs.length:=by omega
 have f:k<b.xs.length:=by omega
 obtain⟨pa,J,ra⟩:=(A.ext z).row k e
 have oa:=(A.ext z).each _ (List.getElem_mem e)
 refine⟨pa,J,⟨by omega,g⟩,_,_,_,_,_,_,_,_,_,by rw[show Int.toNat (k:Int)=k by omega];exact ra,λb1 P u r=>?_⟩
 refine⟨(gU (A3:=P) u r (k9.cells a.xs[k]) rfl).1,λH3 E=>?_⟩
 obtain⟨U,T⟩:=(gU u r (k9.cells a.xs[k]) rfl).2 E
 have o:=z.trans T
 obtain⟨pb,K,rb⟩:=(B.ext o).row k f
 refine⟨pb,K,⟨by omega,by omega⟩,_,_,_,_,_,_,_,_,_,by rw[show Int.toNat (k:Int)=k by omega];exact rb,λb2 Q w s=>?_⟩
 refine⟨(gU (A3:=Q) w s (k9.cells b.xs[k]) rfl).1,λS F=>?_⟩
 obtain⟨V,L⟩:=(gU w s (k9.cells b.xs[k]) rfl).2 F
 have d:=o.trans L
 refine⟨_,_,_,_,_,_,_,_,_,dV (L.get U) (k9.cells a.xs[k]) 0 0 (λj G=>?_),_,_,_,_,_,_,_,_,_,dV V (k9.cells b.xs[k]) 0 0 (λj G=>?_),?_⟩
 ·rcases(show j=0\/j=1\/j=2\/j=3\/j=4 by have:j<5:=G;omega)with rfl | rfl | rfl | rfl | rfl<;>rfl
 ·rcases(show j=0\/j=1\/j=2\/j=3\/j=4 by have:j<5:=G;omega)with rfl | rfl | rfl | rfl | rfl<;>rfl
 refine FC.of (enters_of func24 (by kernel_rfl) rfl) (HC.mono (wK (H:=S) ((A.ext d).each _ (List.getElem_mem e)) ((B.ext d).each _ (List.getElem_mem f))) ?_)
 rintro _ H6 ⟨rfl,M⟩
 refine⟨_,rfl,?_⟩
 by_cases D:keyK a.xs[k]=keyK b.xs[k]
 case neg=>rw[if_neg (by rw[decide_eq_true_eq];exact D)];exact t _ _ ⟨by rw[zQ (wL e f D)],d.trans M⟩
 rw[if_pos (zX D)]
 have Z:IntKind.wrap .i64 ((k:Int)+1)=((k+1:Nat):Int):=by rw[w64 (n:=(k:Int)+1) (by omega)];omega
 rw[Z]
 refine⟨⟨d.trans M,k+1,rfl,by omega,λj l m h=>?_⟩,by show((a.n:Int)-((k+1:Nat):Int)).toNat< ((a.n:Int)-(k:Int)).toNat;omega⟩
 by_cases I:j=k
 ·subst I;exact D
 ·exact N j l m (by omega)
variable{a d:Nat}{H k:zV}{b:List Int}{i:Hp}{j:List (Int×Int)}
theorem vB{q:zW}(l:fB H q (wvs b))(hn:a=b.length)(x:a<=1000000):
  bE.C q a d H (λv r=> ∃(B:zW) (c:Nat),v=vs B b.length c/\Own r 40 1 B b.length c (wvs b)/\(∀j∈blks B,H.size<=j)/\Ext H r):=by
 refine HC.via λR t=>bE.link ?_
 unfold bE.pt
 subst hn
 cases q with
 | none=>
  rw[onPtr_none]
  rw[SrcAt_none]at l
  have:b=[]:=by unfold wvs at l;simpa using l
  subst this
  exact t _ _ ⟨none,0,rfl,iY,by simp,Ext.refl _⟩
 | some z=>
  rw[onPtr_some]
  intro A s n e
  have m:Ext H s:=Ext.push' e
  have u:Own s 40 1 (some ⟨A,0,none⟩) 0 0 []:=⟨rfl,_,aH n e,rfl,Nat.le_refl _,rfl,λj y=>by omega⟩
  refine dD (ys:=wvs b) u (m.rowAt l) (by simp[wvs]) (gT _) rfl (by omega) ?_
  intro p c w k f g
  rw[Nat.zero_add]at k⊢
  refine t _ _ ⟨p,c,rfl,by simpa using k,λi o=>?_,m.fr_trans f (λi o=>by simp at o;omega)⟩
  rcases g i o with h | h
  ·simp at h;omega
  ·have:=m.size;omega
def gM(roots syms:List Int)(es:List (Int×Int)):List Int:=roots++syms++es.flatMap λe=> [e.1,e.2]
structure oA (H:zV) (b:Blk) (x:Hp) (syms:List Int) (es:List (Int×Int)):Prop where
 sy: ∃(B:zW) (c:Nat),x.sy=vs B syms.length c/\fB H B (wvs syms)
 en: ∃(B:zW) (c:Nat),x.en=vs B es.length c/\ ∀i (h:i<es.length),∃a,B=some a/\aQ H (a.add (i*2)) 0 [vu es[i].1,vu es[i].2]
 len:syms.length<=1000000/\es.length<=1000000
theorem oA.ext{b:Blk}{x:Hp}{syms:List Int}(h:oA H b x syms j)(e:Ext H k):oA k b x syms j:=by
 obtain⟨B,c,l,m⟩:=h.sy
 obtain⟨D,d,o,p⟩:=h.en
 exact⟨⟨B,c,l,m.ext e⟩,⟨D,d,o,λi n=>by obtain⟨a,f,g⟩:=p i n;exact⟨a,f,e.rowAt g⟩⟩,h.len⟩
theorem sH{roots syms:List Int}(h:a<j.length):gM roots syms (j.take (a+1))=gM roots syms (j.take a)++[j[a].1,j[a].2]:=by
 unfold gM
 rw[List.take_succ_eq_append_getElem h,List.flatMap_append];simp
set_option maxRecDepth 100000 in
theorem vC{b:Blk}{rB:zW}{roots syms:List Int}(hp:HpAt H b i)(S:oA H b i syms j)(hr:fB H rB (wvs roots))(x:a=roots.length)(N:a<=1000000):
  iL.C (some ⟨b.h,0,none⟩) rB a d H (λv T=> ∃(B:zW) (c:Nat),v=.slice B (gM roots syms j).length c/\Own T 40 1 B (gM roots syms j).length c (wvs (gM roots syms j))/\(∀ba∈blks B,H.size<=ba)/\Ext H T):=by
 refine HC.via λR hR=>iL.link ?_
 unfold iL.pt zY
 obtain⟨S1,S2,S3⟩:=S
 obtain⟨yB,yC,y1,y2⟩:=S1
 obtain⟨eB,eC,n1,n2⟩:=S2
 refine HC.mono (vB hr x N) ?_
 rintro _ H1 ⟨B,c,rfl,o1,hB,A⟩
 refine⟨B,_,c,rfl,?_⟩
 rw[onPtr_some]
 have L:=hp.ext A
 have z1:=A.size
 have g1:hat H1 ((Addr.mk b.h 0 none).add 1)=some i.sy:=eO L.h 1
 refine⟨yB,syms.length,yC,by rw[g1,y1],?_⟩
 subst x
 refine dD (ys:=wvs syms) o1 (y2.ext A) (by simp[wvs]) (gT _) rfl (by omega) ?_
 intro p2 c2 V o2 f2 J
 have U:Ext H V:=A.fr_trans f2 hB
 have M:=hp.ext U
 have g2:hat V ((Addr.mk b.h 0 none).add 2)=some i.en:=eO M.h 2
 have w: ∀ba∈blks p2,H.size<=ba:=λba I=>by
  rcases J ba I with h | h
  ·exact hB ba h
  ·omega
 have ew:wvs roots++wvs syms=wvs (roots++syms):=by unfold wvs;rw[List.map_append]
 rw[ew]at o2
 have ol: ∀k,(gM roots syms (j.take k)).length<=4000000:=λk=>by
  have h1: ∀l:List (Int×Int),(l.flatMap λe=> [e.1,e.2]).length=2*l.length:=λl=>by
   induction l with
   | nil=>rfl
   | cons b9 l ih=>rw[List.flatMap_cons,List.length_append,ih];simp;omega
  unfold gM
  rw[List.length_append,List.length_append,h1,List.length_take];omega
 refine⟨eB,j.length,eC,by rw[g2,n1],λD P O s z=> ∃k:Nat,s=k/\k<=j.length/\P=(gM roots syms (j.take k)).length/\Own z 40 1 D P O (wvs (gM roots syms (j.take k)))/\(∀ba∈blks D,H.size<=ba)/\Ext H z,λ_ _ _ s _=>((j.length:Int)-s).toNat,
  ⟨0,rfl,by omega,by rw[List.take_zero];simp[gM],by rw[List.take_zero];simpa[gM]using o2,w,U⟩,?_⟩
 rintro D P O _ z ⟨k,rfl,hk,o,Q,m,y⟩
 by_cases p:(k:Int)< (j.length:Int)
 case neg=>
  rw[if_neg p]
  rw[List.take_of_length_le (by omega)]at Q o
  subst o
  exact hR _ _ ⟨D,O,rfl,Q,m,y⟩
 rw[if_pos p]
 have g:k<j.length:=by omega
 obtain⟨b9,ha,row⟩:=n2 k g
 refine⟨b9,ha,⟨by omega,p⟩,j[k].1,j[k].2,by rw[show Int.toNat (k:Int)=k by omega];exact y.rowAt row,λY W F r=>?_⟩
 have e4:Ext z W:=Ext.push' r
 obtain⟨c4,s4⟩:=gU (A3:=aR W (Addr.mk Y 0 none) [vu j[k].1,vu j[k].2] 0) F r [vu j[k].1,vu j[k].2] rfl
 refine⟨c4,λX E=>?_⟩
 obtain⟨g5,Z⟩:=s4 rfl
 rw[<-E]at g5 Z
 have q:X[Y]?=some (.cells #[vu j[k].1,vu j[k].2] 83 (0,0)):=g5
 refine⟨_,by rw[aP q];rfl,_,eO q 1,λb6 H6 G t=>?_⟩
 have e6:Ext X H6:=Ext.push' t
 have f:=Z.trans e6
 have aZ:=f.size
 have b0:=y.size
 have:=ol k
 refine dD (ys:=wvs [j[k].1,j[k].2]) (Q.ext f) (ls (aH G t)) rfl (gT _) rfl (by omega) ?_
 intro p7 c7 H7 o7 f7 K
 have hw:IntKind.wrap .i64 ((k:Int)+1)=((k+1:Nat):Int):=by rw[w64 (n:=(k:Int)+1) (by omega)];omega
 rw[hw]
 have u:=sH (roots:=roots) (syms:=syms) g
 refine⟨⟨k+1,rfl,g,by rw[u,List.length_append,o];rfl,?_,λba I=>?_,(y.trans f).fr_trans f7 m⟩,by show((j.length:Int)-((k+1:Nat):Int)).toNat< ((j.length:Int)-(k:Int)).toNat;omega⟩
 ·have e:wvs (gM roots syms (j.take (k+1)))=wvs (gM roots syms (j.take k))++wvs [j[k].1,j[k].2]:=by rw[u];unfold wvs;rw[List.map_append]
  rw[e];exact o7
 ·rcases K ba I with h | h
  ·exact m ba h
  ·omega
def fO(ws:List Int)(w:Int):Int:=
  if w % 8=5\/w % 8=6 then 1 else if(w % 8=1\/w % 8=2\/w % 8=3)/\mayW w=true/\w ∉ ws then 18 else if mayW w=true then 0 else 1
structure IsMap (A:zV) (mr:Nat) (ws:List Int):Prop where
  map: ∃(es:Array MapEntry) (cl:Nat) (ks:List (Int×Value)),A[mr]?=some (.map es cl)/\Ents (bF .u64) es.toList ks/\ ∀w,(w∈ws-> ∃n:Int,n≠0/\mget ks w=some (vi n))/\(w ∉ ws->mget ks w=none)
theorem IsMap.keep{S:List Nat}(h:IsMap H a b)(f:Fr S H k)(hm:a ∉ S):IsMap k a b:=by
  obtain⟨d,c,j,e,g,i⟩:=h.map
  exact⟨d,c,j,f.get hm e,g,i⟩
theorem IsMap.ext{ws:List Int}(h:IsMap H a ws)(e:Ext H k):IsMap k a ws:=h.keep (S:=[]) e.fr (by simp)
theorem IsMap.lt(h:IsMap H a b):a<H.size:=by
  obtain⟨e,d,i,c,f,g⟩:=h.map
  exact aW c
theorem IsMap.fault{w:Int}(h:IsMap H a b)(j:aG w):fW.C w (some a) H (λv f=>v=vi (fO b w)/\Ext H f):=by
  obtain⟨m,l,k,g,i,d⟩:=h.map
  refine HC.mono (wJ g i (λu=>?_) j) ?_
  · by_cases c:u∈b
    · obtain⟨n,_,e⟩:=(d u).1 c
      exact⟨n,by rw[e];rfl⟩
    · exact⟨0,by rw[(d u).2 c];rfl⟩
  · rintro _ f ⟨rfl,e⟩
    refine⟨?_,e⟩
    have q:isN k w=0 ↔ w ∉ b:=by
      unfold isN
      by_cases c:w∈b
      · obtain⟨n,hn,e⟩:=(d w).1 c
        rw[e]
        exact⟨λh=>absurd h hn,λh=>absurd c h⟩
      · rw[(d w).2 c]
        exact⟨λ_=>c,λ_=>rfl⟩
    unfold mn fO
    simp only[q]
set_option maxRecDepth 100000 in
theorem wO{I F c:Nat}{a7 v x1 x2:Int}{m:LoopState->Option Code->Obj}{K:zv}
    (P:H[a]?=some (.cells #[vi x1] 3 (0,0))) (Q:H[d]?=some (.cells #[vi x2] 45 (0,0))) (R:H[I]?=some (.cells #[.map (some F)] 100 (0,0))) (M:IsMap H F b) (V:aG v) (L:H[c]?=some (m .ready none)) (U:c≠a/\c≠d/\c≠I/\c≠F/\a≠d)
    (T:fO b v=0-> ∀t,t[c]?=some (m .ready none)->Fr [c] H t->K VT t)
    (S:fO b v≠0-> ∀t,t[c]?=some (m .done (some .ret))->t[a]?=some (.cells #[vi a7] 3 (0,0))->t[d]?=some (.cells #[vi (fO b v)] 45 (0,0))->Fr [a,d,c] H t->K VF t):
       (H[c]?=some (m .ready none)/\ ∀k:zV,k=aO H c (m .busy none)->
        ∃w:Option Nat,hat k (Addr.mk I 0 none)=some (.map w)/\
        fW.C v w k (λJ f=> ∃s:Int,J=vi s/\
         if s=0 then(
          f[c]?=some (m .busy none)/\
          K VT (aO f c (m .ready none)))
         else
         (aK f (Addr.mk a 0 none) 0 1)/\ ∀o:zV,o=aR f (Addr.mk a 0 none) [vi a7] 0->
         (aK o (Addr.mk d 0 none) 0 1)/\ ∀g:zV,g=aR o (Addr.mk d 0 none) [vi s] 0->
         g[c]?=some (m .busy none)/\
         K VF (aO g c (m .done (some .ret))))):=by
  obtain⟨Y,l2,l4,l5,Z⟩:=U
  refine⟨L,λk p=>?_⟩
  have z:Fr [c] H k:=by rw[p];exact Fr.set
  have u:k[c]?=some (m .busy none):=by rw[p];exact aY (aW L)
  have G: ∀j,c≠j->j ∉ [c]:=λj h=>by simp;exact λe=>h e.symm
  clear p
  refine⟨some F,by rw[aP (z.get (G _ l4) R)];rfl,HC.mono ((M.keep z (G _ l5)).fault V) ?_⟩
  rintro _ f ⟨rfl,l⟩
  refine⟨_,rfl,?_⟩
  by_cases E:fO b v=0
  · rw[if_pos E]
    have q:=l.get u
    have A:Fr [c] f (aO f c (m .ready none)):=Fr.set
    exact⟨q,T E _ (aY (aW q)) ((z.trans l.fr).trans A)⟩
  rw[if_neg E]
  obtain⟨N,s1⟩:=jP (n:=1) (vs:=[vi a7]) (l.get (z.get (G _ Y) P)) rfl rfl
  refine⟨N,λo B=>?_⟩
  obtain⟨W,x⟩:=s1 o B
  obtain⟨O,s2⟩:=jP (n:=1) (vs:=[vi (fO b v)]) (x.get (by simp;omega) (l.get (z.get (G _ l2) Q))) rfl rfl
  refine⟨O,λg D=>?_⟩
  obtain⟨X,y⟩:=s2 g D
  have q:=y.get (by simp;omega) (x.get (by simp;omega) (l.get u))
  have A:Fr [c] g (aO g c (m .done (some .ret))):=Fr.set
  refine⟨q,S E _ (aY (aW q)) (A.get (by simp;omega) (y.get (by simp;omega) W)) (A.get (by simp;omega) X) ?_⟩
  exact(((z.mono (λi r _=>by simp at r;simp[r])).trans l.fr).trans (x.mono (λi r _=>by simp at r;simp[r]))).trans ((y.mono (λi r _=>by simp at r;simp[r])).trans (A.mono (λi r _=>by simp at r;simp[r])))
set_option maxRecDepth 100000 in
set_option maxHeartbeats 1000000 in
theorem uE{bl:Blk}{b4 mr:Nat}{w x1 x2:Int}{K1 K2:zV->zV->Prop}(hp:HpAt H bl i)(ok:SpOK i.sp)
    (g1:H[a]?=some (.cells #[vi x1] 3 (0,0))) (g2:H[d]?=some (.cells #[vi x2] 45 (0,0))) (g4:H[b4]?=some (.cells #[.map (some mr)] 100 (0,0))) (M:IsMap H mr b) (hw:aG w) (ac:a≠d)
    (af:(∀p∈aX i.sp.mem w,fO b p.2=0)-> ∀m k:zV,m.size=H.size+2->k[m.size]?=some (.deferred (some []))->Ext H k->K1 m k)
    (ag: ∀O bk v E,aX i.sp.mem w=O++(bk,v)::E->(∀p∈O,fO b p.2=0)->fO b v≠0-> ∀m k:zV,m.size=H.size+2->k[m.size]?=some (.deferred (some []))->k[a]?=some (.cells #[vi bk] 3 (0,0))->k[d]?=some (.cells #[vi (fO b v)] 45 (0,0))->Fr [a,d] H k->K2 m k):
      bY.C (some ⟨bl.h,0,none⟩) w H (λa1 m=>a1=a1/\
       ∀(g:LoopState->Option Code->Obj) (c:Nat) (r:zV),c=m.size+1->r=(m.push (.deferred (some []))).push (g .ready none)->
       ∀R:Value,(∀(a2:Int) (a3:Int) (I:zV) (x:zv),I[c]?=some (g .ready none)->
       (I[c]?=some (g .ready none)/\ ∀V:zV,V=aO I c (g .busy none)->
        ∃T:Option Nat,hat V (Addr.mk b4 0 none)=some (.map T)/\
        fW.C a3 T V (λan L=> ∃F:Int,an=vi F/\
         if F=0 then(
          L[c]?=some (g .busy none)/\
          x VT (aO L c (g .ready none)))
         else
         (aK L (Addr.mk a 0 none) 0 1)/\ ∀W:zV,W=aR L (Addr.mk a 0 none) [vi a2] 0->
         (aK W (Addr.mk d 0 none) 0 1)/\ ∀X:zV,X=aR W (Addr.mk d 0 none) [vi F] 0->
         X[c]?=some (g .busy none)/\
         x VF (aO X c (g .done (some .ret)))))->
       FC prog R #[vi a2,vu a3] I x)->
       FE prog a1 #[R] r (λ_ N=>
        (N[c]?=some (g .ready none)/\ ∀n:zV,n=aO N c (g .exhausted none)->K1 m n)\/
        (N[c]?=some (g .done (some .ret))/\ ∀n:zV,n=aO N c (g .exhausted (some .ret))->K2 m n))):=by
  refine bY.link ?_
  unfold bY.pt
  intro c0 H1 ah Y c1 G ai Z
  have e1:Ext H H1:=Ext.push' Y
  have e2:Ext H1 G:=Ext.push' Z
  have z1:H1.size=H.size+1:=by rw[Y];simp
  have z2:G.size=H1.size+1:=by rw[Z];simp
  refine⟨rfl,λrc t r b0 y vY hY=>?_⟩
  have e3:Ext G r:=(Ext.push' rfl).trans (Ext.push' y)
  have z3:r.size=G.size+2:=by rw[y];simp
  have P:r[G.size]?=some (.deferred (some [])):=by
    have:(G.push (.deferred (some [])))[G.size]?=some (.deferred (some [])):=aH rfl rfl
    exact(Ext.push' y).get this
  have aa:r[t]?=some (rc .ready none):=aH (by simp;omega) y
  have e:=(e1.trans e2).trans e3
  have l1:=aW g1
  have l2:=aW g2
  have l4:=aW g4
  have lm:=M.lt
  have lb:=hp.lt
  refine FE.of2 (enters_of func97 (by kernel_rfl) rfl) rfl (oz (w:=w) (S:=[t])
    (J:=λl U D=>D[t]?=some (rc .ready none)/\U=[]/\ ∀p∈l,fO b p.2=0)
    (hp.ext e) ok ((e2.trans e3).get (aH ah Y)) (e3.get (aH ai Z)) hw (λbm o=>⟨λhq=>by have:=lb bm hq;simp at o;omega,by simp at o;omega,by simp at o;omega⟩)
    (λl U D D' ⟨h1,h2,h3⟩ ee=>⟨ee.get h1,h2,h3⟩) (λl U D h j hj=>by rw[h.2.1]at hj;cases hj)
    (λO bk v E U D z A hJ=>?_) ⟨aa,rfl,by simp⟩ (λU D hJ A=>?_))
  · obtain⟨ql,rfl,Q⟩:=hJ
    have am:aG v:=by
      have h:(bk,v)∈aX i.sp.mem w:=by rw[z];simp
      unfold aX at h
      split at h
      · cases h
      · obtain⟨bm,_,hq⟩:=List.mem_map.1 h
        cases hq
        exact Mem.read_word ok.mem _
    have z0:=A.size
    have nl: ∀j,j<H.size->j ∉ [t]:=λj hj=>by simp;omega
    refine(show∀K:zv,(∀k,fO b v=0->k[t]?=some (rc .ready none)->Fr [t] D k->K VT k)->(∀k,fO b v≠0->k[t]?=some (rc .done (some .ret))->k[a]?=some (.cells #[vi bk] 3 (0,0))->k[d]?=some (.cells #[vi (fO b v)] 45 (0,0))->Fr [a,d,t] D k->K VF k)->FC prog vY #[vi bk,vu v] D K from λK aj ak=>
      hY bk v D K ql (wO (K:=K) (A.get (nl _ l1) (e.get g1)) (A.get (nl _ l2) (e.get g2)) (A.get (nl _ l4) (e.get g4)) ((M.ext e).keep A (nl _ lm)) am ql ⟨by omega,by omega,by omega,by omega,ac⟩ (λh k=>aj k h) (λh k=>ak k h))) _ (λk h0 q f=> .inl ⟨rfl,[],⟨q,rfl,λp hp=>?_⟩,by simpa using f,by simp⟩) (λk h0 q k1 k2 f=> .inr ⟨rfl,.inr ⟨q,λn B=>?_⟩⟩)
    · rcases List.mem_append.1 hp with h | h
      · exact Q p h
      · simp at h;rw[h];exact h0
    · have s:Fr [t] k n:=by rw[B];exact Fr.set
      have u: ∀j,j≠t->j ∉ [t]:=λj hj=>by simp;exact hj
      refine ag O bk v E z Q h0 G n (by omega) (s.get (u _ (by omega)) (f.get (by simp;omega) (A.get (u _ (by omega)) P))) (s.get (u _ (by omega)) k1) (s.get (u _ (by omega)) k2) ?_
      refine e.fr.trans' ((A.mono (λbm o _=>by simp at o;simp[o]) (S':=[a,d,t])).trans (f.trans (s.mono (λbm o _=>by simp at o;simp[o])))) (S:=[]) (λbm o _=>by simp at o) (λbm o hl=>?_)
      simp at o
      simp;omega
  · obtain⟨ql,rfl,z⟩:=hJ
    refine .inl ⟨ql,λn B=>?_⟩
    have s:Fr [t] D n:=by rw[B];exact Fr.set
    have z0:=A.size
    have u: ∀j,j≠t->j ∉ [t]:=λj hj=>by simp;exact hj
    exact af z G n (by omega) (s.get (u _ (by omega)) (A.get (u _ (by omega)) P)) ((e.fr_trans A (λbm o=>by simp at o;omega)).fr_trans s (λbm o=>by simp at o;omega))
end Go.Proofs.YtojbbgcjiaphjaaGreat
namespace Go.Proofs.YtojbbgcjiaphjaaGreat
open Go
variable{H:zV}
def oR(m:Mem):List Value:=(List.range (m.limit*72)).map λj:Nat=>(m.seg (j / 72)).cell (j % 72)
theorem sI(m:Mem){k j:Nat}(hk:k<m.limit)(b:j<72):(oR m)[k*72+j]?=some ((m.seg k).cell j):=by
 unfold oR
 have a:(k+1)*72<=m.limit*72:=Nat.mul_le_mul_right _ hk
 rw[List.getElem?_map,List.getElem?_range (by omega)]
 show some ((m.seg ((k*72+j) / 72)).cell ((k*72+j) % 72))=_
 rw[show(k*72+j) / 72=k by omega,show(k*72+j) % 72=j by omega]
theorem rG(m:Mem):kr (oR m)=true:=by
 have key: ∀l:List Nat,kr (l.map λj:Nat=>(m.seg (j / 72)).cell (j % 72))=true:=by
  intro l
  induction l with
  | nil=>rfl
  | cons j l b=>
   have a: ∀i:Nat,∃(k:IntKind) (n:Int),(m.seg (j / 72)).cell i=.int k n:=λi=>by
    match i with
    | 0 | 1 | 2 | 3 | 4 | 5 | 6 | 7=>exact⟨_,_,rfl⟩
    | i+8=>exact⟨_,_,rfl⟩
   obtain⟨k,n,e⟩:=a (j % 72)
   rw[List.map_cons,e]
   show(true && _)=true
   rw[b];rfl
 exact key _
theorem tI{F D:Nat}{m:Mem}{r:Nat}(h:cX H F D m)(M:bJ m):
  aZ.C (some ⟨D,0,none⟩) m.limit r H (λv A=> ∃(q c:Nat),v=vs (some ⟨q,0,none⟩) m.limit c/\H.size<=q/\(∃e:Array Value,A[q]?=some (.cells e 134 (0,0))/\m.limit*72<=e.size/\ ∀k,k<m.limit-> ∀j,j<72->e[k*72+j]?=some ((m.seg k).cell j))/\Ext H A):=by
 refine HC.via λR G=>aZ.link ?_
 unfold aZ.pt
 rw[onPtr_some]
 intro b B u g
 have s:Ext H B:=Ext.push' g
 have E:=M.lim
 have L:Own B 134 72 (some ⟨b,0,none⟩) 0 0 []:=⟨rfl,_,aH u g,rfl,Nat.le_refl _,rfl,λj x=>by omega⟩
 have n:(oR m).length=m.limit*72:=by unfold oR;simp
 refine dD (ys:=oR m) L ?_ n (rG m) (by simp) (by omega) ?_
 ·refine kE λj v z=>?_
  have x:j<m.limit*72:=by
   rw[<-n]
   rcases Nat.lt_or_ge j (oR m).length with h | h
   ·exact h
   ·rw[List.getElem?_eq_none h]at z;cases z
  have o:(oR m)[j / 72*72+j % 72]?=some ((m.seg (j / 72)).cell (j % 72)):=sI m (by omega) (by omega)
  rw[show j / 72*72+j % 72=j by omega,z]at o
  have t:=(h.ext s).at (k:=j / 72) (j:=j % 72) (by omega) (by omega)
  rw[addr_add_mk,Option.some.inj o,<-t]
  congr 2;omega
 ·intro p c N d f l
  rw[Nat.zero_add]at d⊢
  cases p with
  | none=>obtain⟨O,_,_⟩:=d;omega
  | some a=>
   obtain⟨t,e,I,w,y,Q,J⟩:=d
   have o:H.size<=a.block:=by
    rcases l a.block (by simp)with h | h
    ·simp at h;omega
    ·have:=s.size;omega
   rw[t]
   refine G _ _ ⟨a.block,c,rfl,o,⟨e,I,by rw[w];exact Nat.mul_le_mul_right _ y,λk hk j x=>?_⟩,s.fr_trans f (λi K=>by simp at K;omega)⟩
   have P:(k+1)*72<=m.limit*72:=Nat.mul_le_mul_right _ hk
   rw[J _ (by omega),List.nil_append,sI m hk x]
theorem uF{k r:Nat}{m:Mem}(h:cX H k r m)(A:bJ m):
  iP.C (some ⟨k,0,none⟩) H (λv j=> ∃a d,v=vp (some ⟨a,0,none⟩)/\cX j a d m/\H.size<=a/\H.size<=d/\Ext H j):=by
 refine HC.via λR w=>iP.link ?_
 unfold iP.pt
 rw[onPtr_some]
 refine⟨_,_,_,h.segsAt.choose_spec,_,h.countAt,_,h.freeAt,HC.mono (tI h A) ?_⟩
 rintro _ o ⟨q,c,rfl,y,i,f⟩
 have n:=h.ext f
 refine⟨_,_,_,rfl,⟨n.countAt,trivial⟩,⟨n.freeAt,trivial⟩,λb p x e=>?_⟩
 have l:Ext o p:=Ext.push' e
 obtain⟨s,g,t,u⟩:=i
 have z:=aW g
 have:=f.size
 exact w _ _ ⟨b,q,rfl,⟨⟨c,aH x e⟩,by omega,s,l.get g,t,u⟩,by omega,y,f.trans l⟩
set_option maxRecDepth 100000 in
theorem vD{b:Blk}{s:Sp}(h:SpAt H b s)(D:SpOK s):
  eX.C (some ⟨b.sp,0,none⟩) H (λv l=> ∃a:Blk,v=vp (some ⟨a.sp,0,none⟩)/\SpAt l a s/\(H.size<=a.sp/\H.size<=a.m/\H.size<=a.s)/\Ext H l):=by
 refine HC.via λR x=>eX.link ?_
 unfold eX.pt
 rw[onPtr_some]
 have row: ∀{n:zV},Ext H n->aQ n ((Addr.mk b.sp 0 none).add 1) 0 ((List.range 20).map λj:Nat=>Value.int .i64 (s.cur (j / 4) (j % 4))):=λe=>by
  refine kE λj v f=>?_
  have A:j<20:=by
   rcases Nat.lt_or_ge j 20 with h | h
   ·exact h
   ·rw[List.getElem?_eq_none (by simpa using h)]at f;cases f
  rw[List.getElem?_map,List.getElem?_range A]at f
  have y:=(h.ext e).curAt (g:=j / 4) (k:=j % 4) (by omega) (by omega)
  rw[addr_add_mk,addr_add_mk,<-Option.some.inj f,<-y]
  congr 2;omega
 refine⟨_,h.memPtr,s.cur 0 0,s.cur 0 1,s.cur 0 2,s.cur 0 3,s.cur 1 0,s.cur 1 1,s.cur 1 2,s.cur 1 3,s.cur 2 0,s.cur 2 1,s.cur 2 2,s.cur 2 3,s.cur 3 0,s.cur 3 1,s.cur 3 2,s.cur 3 3,s.cur 4 0,s.cur 4 1,s.cur 4 2,s.cur 4 3,row (Ext.refl _),HC.mono (uF h.mem D.mem) ?_⟩
 rintro _ r ⟨o,p,rfl,M,u,w,i⟩
 refine⟨_,rfl,row i,λd t z c=>?_⟩
 have q:Ext r t:=Ext.push' c
 have B:=M.lt
 have:=i.size
 refine x _ _ ⟨⟨0,0,d,o,p⟩,rfl,⟨M.ext q,⟨by show d≠o;omega,by show d≠p;omega⟩,_,aH z c,rfl,rfl,λg k E hk=>?_⟩,⟨by show H.size<=d;omega,u,w⟩,i.trans q⟩
 rcases(show g=0\/g=1\/g=2\/g=3\/g=4 by omega)with rfl | rfl | rfl | rfl | rfl<;>rcases(show k=0\/k=1\/k=2\/k=3 by omega)with rfl | rfl | rfl | rfl<;>rfl
theorem vE{b:Blk}{s:Sp}(h:CdAt H b s)(u:SpOK s):
  fQ.C (some ⟨b.c,0,none⟩) H (λv f=> ∃a:Blk,v=vp (some ⟨a.c,0,none⟩)/\CdAt f a s/\(∀j∈[a.c,a.sp,a.m,a.s],H.size<=j/\j<f.size)/\Ext H f):=by
 refine HC.via λR o=>fQ.link ?_
 unfold fQ.pt
 rw[onPtr_some]
 refine⟨_,h.cPtr,HC.mono (vD h.sp u) ?_⟩
 rintro _ i ⟨a,rfl,S,⟨x,y,z⟩,l⟩
 refine⟨_,rfl,λe k p d=>?_⟩
 have g:Ext i k:=Ext.push' d
 have A:k.size=i.size+1:=by rw[d];simp
 have q:=S.mem.lt
 obtain⟨w,r,_⟩:=S.sp
 have t:=aW r
 have:=l.size
 refine o _ _ ⟨⟨a.h,e,a.sp,a.m,a.s⟩,rfl,⟨⟨S.mem.ext g,S.ne,(S.ext g).sp⟩,⟨by show e≠a.sp;omega,by show e≠a.m;omega,by show e≠a.s;omega⟩,aH p d⟩,λj n=>?_,l.trans g⟩
 simp only[List.mem_cons,List.not_mem_nil,or_false]at n
 rcases n with rfl | rfl | rfl | rfl<;>omega
end Go.Proofs.YtojbbgcjiaphjaaGreat
namespace Go.Proofs.YtojbbgcjiaphjaaGreat
open Go
set_option maxRecDepth 100000 in
set_option maxHeartbeats 1000000 in
theorem wP{A:zV}{b:Blk}{x:Hp}(S:HpAt A b x)(X:SpOK x.sp)(ai: ∀k:Nat,x.sp.mem.has k-> ∀c:Nat,c<4->(x.sp.mem.seg k).cards c<=x.sp.mem.mark1 k c):
  js.C (some ⟨b.h,0,none⟩) A (λv A'=>v=.tuple #[vi 0,vi 0]/\Ext A A'):=by
 refine HC.via λR hR=>js.link ?_
 unfold js.pt zY
 refine HC.mono (mO S) ?_
 rintro _ AA ⟨rfl,a7⟩
 obtain rfl:A=AA:=a7.symm
 refine⟨_,rfl,?_⟩
 rw[if_neg (by decide)]
 refine⟨_,rfl,_,S.hPtr,HC.mono (vE S.cd X) ?_⟩
 rintro _ Y ⟨o,rfl,C2,O,e2⟩
 have q:=S.ext e2
 refine⟨_,rfl,_,q.hPtr,_,rfl,_,q.cd.cPtr,_,rfl,_,q.cd.sp.memPtr,?_⟩
 refine HC.mono (jI (gs:=[]) q.cd.sp.mem X.mem (by rw[SrcAt_none];rfl) rfl (by decide)) ?_
 rintro _ H3 ⟨B,c,l,rfl,hl,aj,ag,e3⟩
 have ax:=X.mem.lim
 have aw:=hl.len
 have z3:=e3.size
 have hS: ∀i∈[o.m,o.s],A.size<=i/\i<Y.size:=λi I=>O i (by simp at I;rcases I with rfl | rfl<;>simp)
 have a8: ∀j∈blks B,j ∉ [o.m,o.s]:=λj hj h=>by have:=ag j hj;have:=(hS j h).2;omega
 refine⟨_,_,_,rfl,λi H=>(0<=i/\i<=l.length)/\Ext A H/\Y.size<=H.size/\Own H 3 1 B l.length c (ivs (l.map λi:Nat=>(i:Int)))/\ ∃w:Sp,CdAt H o w/\SpOK w/\Unm x.sp.mem w.mem,λi _=>(l.length-i).toNat,
  ⟨⟨by omega,by omega⟩,e2.trans e3,z3,aj,x.sp,C2.ext e3,X,Unm.refl _⟩,?_⟩
 rintro i H4 ⟨I,e4,z4,y,w,C4,am,u4⟩
 by_cases G:i< (l.length:Int)
 case neg=>
  rw[if_neg G]
  exact hR _ _ ⟨rfl,e4⟩
 rw[if_pos G]
 have Q:i.toNat<l.length:=by omega
 obtain⟨a,ha,N⟩:=mL y Q
 obtain⟨e,aB,aC,az⟩:=hl.has (List.getElem_mem Q)
 generalize ba:l[i.toNat]=k at*
 have r:=S.ext e4
 refine⟨a,ha,⟨I.1,G⟩,(k:Int),N,_,r.hPtr,_,rfl,_,r.cd.cPtr,_,rfl,_,r.cd.sp.memPtr,?_⟩
 refine HC.mono (gL r.cd.sp.mem) ?_
 rintro _ H5 ⟨rfl,e5⟩
 refine⟨_,_,_,_,_,_,_,_,rfl,λc6 H6 ac a9=>?_⟩
 obtain⟨af,hs⟩:=jC (x.sp.mem.segOr k) ac a9
 refine⟨af,λH7 aa=>?_⟩
 obtain⟨a4,_,_,_,T⟩:=hs H7 aa
 have a5:x.sp.mem.segOr (k:Int)=x.sp.mem.seg k:=by unfold Mem.segOr;rw[if_pos e];rfl
 rw[a5]at T
 have al:IntKind.wrap .i64 (i+1)=i+1:=w64 (by omega)
 have p:=e5.trans a4
 have bk:=p.size
 refine⟨_,_,_,_,aQ.sub 3 T rfl,λt H=>(0<=t/\t<=4)/\Ext A H/\Y.size<=H.size/\Own H 3 1 B l.length c (ivs (l.map λi:Nat=>(i:Int)))/\ ∃w:Sp,CdAt H o w/\SpOK w/\Unm x.sp.mem w.mem,λt _=>(4-t).toNat,
  ⟨⟨by omega,by omega⟩,e4.trans p,by omega,y.ext p,w,C4.ext p,am,u4⟩,?_⟩
 rintro t H8 ⟨ht,e8,z8,z,g,C8,u,V⟩
 by_cases f:t<4
 case neg=>
  rw[if_neg f,al]
  exact⟨⟨⟨by omega,by omega⟩,e8,z8,z,g,C8,u,V⟩,by show((l.length:Int)-(i+1)).toNat< ((l.length:Int)-i).toNat;omega⟩
 rw[if_pos f]
 refine⟨(x.sp.mem.seg k).cards t.toNat,⟨⟨ht.1,f⟩,by
  rcases(show t.toNat=0\/t.toNat=1\/t.toNat=2\/t.toNat=3 by omega)with h | h | h | h<;>rw[h]<;>rfl⟩,?_⟩
 have ab: ∀j∈[o.c,o.sp,o.m,o.s],j<H8.size:=λj hj=>by have:=(O j hj).2;omega
 refine HC.mono (nU C8 u ab) ?_
 rintro _ H9 ⟨⟨er,rfl⟩,W,f9⟩
 refine⟨er,rfl,_,rfl,_,W.cPtr,_,rfl,_,W.sp.memPtr,?_⟩
 refine HC.mono (gL W.sp.mem) ?_
 rintro _ b2 ⟨rfl,a0⟩
 refine⟨_,_,_,_,_,_,_,_,rfl,λZ b3 P L=>?_⟩
 obtain⟨F,U⟩:=jC ((g.mem.again k t).segOr k) P L
 refine⟨F,λJ M=>⟨⟨ht.1,f⟩,?_⟩⟩
 obtain⟨a1,_,_,_,D⟩:=U J M
 have u9:Unm x.sp.mem (g.mem.again k t):=V.trans (Unm.again _ _ _)
 have K:(g.mem.again k t).segOr (k:Int)=(g.mem.again k t).seg k:=by unfold Mem.segOr;rw[if_pos (u9.has.2 e)];rfl
 rw[K]at D
 have ae:((g.mem.again k t).seg k).cards t.toNat=x.sp.mem.mark1 k t.toNat:=by
  rw[Mem.again_cards u.mem,if_pos ⟨by rw[show((t.toNat:Nat):Int)=t by omega],V.has.2 e,f⟩]
  unfold Mem.mark1
  rw[V.markOf,V.cardLen,show((t.toNat:Nat):Int)=t by omega]
 have bb:=ai k e t.toNat (by omega)
 have z9:=f9.size
 have E:hat J (((Addr.mk Z 0 none).add 3).add (Int.toNat t*1))=some (vi (((g.mem.again k t).seg k).cards t.toNat)):=by
  have ak:=aQ.sub (us:=[vi (((g.mem.again k t).seg k).cards 0),vi (((g.mem.again k t).seg k).cards 1),vi (((g.mem.again k t).seg k).cards 2),vi (((g.mem.again k t).seg k).cards 3)]) 3 D rfl
  obtain⟨q0,q1,q2,q3,_⟩:=ak
  rcases(show t.toNat=0\/t.toNat=1\/t.toNat=2\/t.toNat=3 by omega)with h | h | h | h<;>rw[h]
  ·exact q0
  ·exact q1
  ·exact q2
  ·exact q3
 refine⟨_,E,?_⟩
 rw[if_neg (by rw[ae];omega),w64 (n:=t+1) (by omega)]
 have d:=a0.trans a1
 have bi:=d.size
 exact⟨⟨⟨by omega,by omega⟩,(e8.fr_trans f9 (λi I=>(hS i I).1)).trans d,by omega,(z.keep f9 a8).ext d,_,W.ext d,u.again k t,u9⟩,by show(4-(t+1)).toNat< (4-t).toNat;omega⟩
