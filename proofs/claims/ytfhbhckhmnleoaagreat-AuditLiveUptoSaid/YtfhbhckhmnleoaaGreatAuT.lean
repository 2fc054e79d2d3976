/-
 All things of a heap, one behind the other, as audit goes over them. Proves nothing of any one statement.
-/
import Derived.Test.YtfhbhckhmnleoaaGreatGcJ
import Derived.Test.YtfhbhckhmnleoaaGreatFaudit1
import Derived.Test.YtfhbhckhmnleoaaGreatWord
import Derived.Test.YtfhbhckhmnleoaaGreatWords
import Derived.Test.YtfhbhckhmnleoaaGreatPair
import Derived.Test.YtfhbhckhmnleoaaGreatFref01
import Derived.Test.YtfhbhckhmnleoaaGreatRef01
set_option linter.unusedVariables false
set_option linter.unusedSimpArgs false
set_option maxRecDepth 100000
namespace Go.Proofs.YtfhbhckhmnleoaaGreat
open Go Go.Proofs.Tryz
variable{H:zV}{d:Int}{i:Blk}{j:Hp}{k:Nat}
theorem mW(a:HpAt H i j):iV.C (some ⟨i.h,0,none⟩) H (λv d=>v=VF/\d=H):=by
 refine HC.via λR e=>iV.link ?_
 unfold iV.pt
 rw[CK]
 have b:hat H ⟨i.h,0,none⟩=some (vp (some ⟨i.c,0,none⟩)):=by rw[aI a.h];rfl
 refine⟨_,b,?_⟩
 rw[CK]
 refine⟨_,b,_,rfl,_,a.cd.cPtr,?_⟩
 rw[CK]
 refine⟨_,b,_,rfl,_,a.cd.cPtr,_,rfl,_,a.cd.sp.memPtr,?_⟩
 rw[CK]
 exact e _ _ ⟨rfl,rfl⟩
def y8(k:Int):Int:=if k=0 then 1 else if k=1 then 2 else 3
theorem tl(hk:0<=d/\d<=3):jM.C d H (λv a=>v=vi (y8 d)/\a=H):=by
 refine HC.via λR b=>jM.link ?_
 unfold jM.pt
 refine⟨y8 d,⟨⟨hk.1,by omega⟩,?_⟩,b _ _ ⟨rfl,rfl⟩⟩
 rcases(show d=0\/d=1\/d=2\/d=3 by omega)with rfl | rfl | rfl | rfl<;>rfl
def kS(m:Mem)(k at':Int):Nat->List (Int×Int)
 | 0=> []
 | f+1=>if at'< (m.seg k.toNat).n then((k*64+at')*8+y8 (m.seg k.toNat).kind,m.sizeOf ((k*64+at')*8+y8 (m.seg k.toNat).kind))::
   (if m.sizeOf ((k*64+at')*8+y8 (m.seg k.toNat).kind)=0 then[]else kS m k (at'+m.sizeOf ((k*64+at')*8+y8 (m.seg k.toNat).kind)) f)else[]
theorem u7(m:Mem)(k a:Int)(h: ¬a< (m.seg k.toNat).n): ∀f,kS m k a f=[]
 | 0=>rfl
 | f+1=>by unfold kS;rw[za h]
def bF(m:Mem)(l:List Nat):List (Int×Int):=l.flatMap λk:Nat=>kS m (k:Int) 0 64
theorem sd(m:Mem){l:List Nat}(h:k<l.length):bF m (l.take (k+1))=bF m (l.take k)++kS m (l[k]:Nat) 0 64:=by
 rw[Db h]
 unfold bF
 rw[DQ];simp
theorem qL(m:Mem)(l:List Nat)(i:Nat):bF m l=bF m (l.take i)++bF m (l.drop i):=by
 unfold bF
 rw[<-DQ,EG]
set_option maxHeartbeats 1000000 in
theorem rx{S:List Nat}{J:List (Int×Int)->List Nat->zV->Prop}{r:Value}{R:zv}
  (X:HpAt H i j) (ok:SpOK j.sp) (a5:H[k]?=some (.cells #[vp (some ⟨i.h,0,none⟩)] 23 (0,0))) (hS: ∀ce∈S,ce<H.size/\ce ∉ i.all/\ce≠k)
  (hE: ∀l T A W,J l T A->Ext A W->J l T W) (hT: ∀l T A,J l T A-> ∀cf∈T,H.size<=cf/\cf<A.size)
  (hy: ∀l e w n aj T A,dA j.sp.mem [] l->bF j.sp.mem l=e++(w,n)::aj->Fr S H A->J e T A->FC prog r #[vu w,vi n] A (λv W=>(v=VT/\ ∃T',J (e++[(w,n)]) T' W/\Fr (S++T) A W/\ ∀cf∈T',cf∈T\/A.size<=cf)\/(v=VF/\R (.tuple #[]) W)))
  (h0:J [] [] H) (hR: ∀l T A,dA j.sp.mem [] l->J (bF j.sp.mem l) T A->Fr S H A->R (.tuple #[]) A):gY.C r (some ⟨k,0,none⟩) H R:=by
 refine gY.link ?_
 unfold gY.pt zY
 have g: ∀{A},Fr S H A->hat A ⟨k,0,none⟩=some (vp (some ⟨i.h,0,none⟩)):=λ{A} f=>by
  rw[aI (f.get (λh=>(hS _ h).2.2 rfl) a5)];rfl
 have ac: ∀{A},Fr S H A->HpAt A i j:=λ{A} f=>X.keep f (λce hi=>(hS ce hi).2.1)
 have p1: ∀{A},HpAt A i j->hat A ⟨i.h,0,none⟩=some (vp (some ⟨i.c,0,none⟩)):=λ{A} h=>by rw[aI h.h];rfl
 refine⟨_,rfl,_,g (Fr.refl _ _),HC.mono (mW X) ?_⟩
 rintro _ AA ⟨rfl,az⟩
 obtain rfl:H=AA:=az.symm
 refine⟨_,rfl,?_⟩
 rw[za (by decide)]
 refine⟨_,g (Fr.refl _ _),_,rfl,_,p1 X,_,rfl,_,X.cd.cPtr,_,rfl,_,X.cd.sp.memPtr,?_⟩
 refine HC.mono (jG (gs:=[]) X.cd.sp.mem ok.mem (by rw[DF];rfl) rfl (by decide)) ?_
 rintro _ Y ⟨B,c,l,rfl,hl,ab,b3,e2⟩
 have bj:=ok.mem.lim
 have bi:=hl.len
 have z2:=e2.size
 have aU: ∀cf∈kd B,cf ∉ S:=λcf d h=>by have:=b3 cf d;have:=(hS cf h).1;omega
 refine⟨_,_,_,rfl,λce A=>(0<=ce/\ce<=l.length)/\Fr S H A/\Own A 3 1 B l.length c (zf (l.map λce:Nat=>(ce:Int)))/\Y.size<=A.size/\ ∃T,J (bF j.sp.mem (l.take ce.toNat)) T A/\ ∀cf∈T,Y.size<=cf,λce _=>(l.length-ce).toNat,⟨⟨by omega,by omega⟩,e2.fr,ab,CU _,[],by rw[show Int.toNat 0=0 from rfl,List.take_zero];exact hE [] _ _ _ h0 e2,by simp⟩,?_⟩
 rintro ce A ⟨hi,s,K,zA,T,jA,b1⟩
 have aV: ∀cf∈kd B,cf<Y.size:=ab.lt
 by_cases V:ce< (l.length:Int)
 case neg=>
  rw[za V]
  rw[De (by omega)]at jA
  exact hR l T A hl jA s
 rw[qB V]
 have Q:ce.toNat<l.length:=by omega
 obtain⟨a,ha,a2⟩:=mS K Q
 obtain⟨ah,bn,bo,bm⟩:=hl.has (CS Q)
 have b7:=sd j.sp.mem Q
 have b6:=qL j.sp.mem l (ce.toNat+1)
 generalize bB:l[ce.toNat]=cg at*
 have y:=ac s
 refine⟨a,ha,⟨hi.1,V⟩,(cg:Int),a2,_,g s,_,rfl,_,p1 y,_,rfl,_,y.cd.cPtr,_,rfl,_,y.cd.sp.memPtr,?_⟩
 refine HC.mono (gt y.cd.sp.mem) ?_
 rintro _ H4 ⟨rfl,e4⟩
 refine⟨_,_,_,_,_,_,_,_,rfl,λo H5 a3 P=>?_⟩
 obtain⟨b2,hs⟩:=jB (j.sp.mem.segOr cg) a3 P
 refine⟨b2,λH6 a1=>?_⟩
 obtain⟨e5,_,a7,aa,bC⟩:=hs H6 a1
 have aw:j.sp.mem.segOr (cg:Int)=j.sp.mem.seg cg:=by unfold Mem.segOr;rw[qB ah];rfl
 rw[aw]at a7 aa
 have bk:=(ok.mem.seg cg).n
 have U:=(ok.mem.seg cg).kind
 have af:IntKind.wrap .i64 (ce+1)=ce+1:=xT (by omega)
 have ae:(ce+1).toNat=ce.toNat+1:=by omega
 have I:((l.length:Int)-(ce+1)).toNat< ((l.length:Int)-ce).toNat:=by omega
 have z4:=e4.size
 have a4:o ∉ S:=λh=>by
  have:=(hS _ h).1
  omega
 have O:=e4.trans e5
 have z5:=e5.size
 have bR:H5.size=H4.size+1:=by rw[P];simp
 have be:o<H6.size:=by
  have h6:H6.size=H5.size:=by rw[a1,bY _ _ _ _ _ (aF a3 P)];simp
  omega
 refine⟨λt D=>0<=t/\Fr S H D/\Own D 3 1 B l.length c (zf (l.map λce:Nat=>(ce:Int)))/\(H6.size<=D.size/\hat D ((Addr.mk o 0 none).add 2)=some (vi (j.sp.mem.seg cg).n)/\hat D ((Addr.mk o 0 none).add 1)=some (vi (j.sp.mem.seg cg).kind))/\ ∃e f T,(∀cf∈T,Y.size<=cf/\cf≠o)/\((j.sp.mem.seg cg).n-t).toNat<=f/\J e T D/\e++kS j.sp.mem cg t f=bF j.sp.mem (l.take (ce.toNat+1)),λt _=>((j.sp.mem.seg cg).n-t).toNat,
  ⟨by omega,s.trans O.fr,K.ext O,⟨CU _,aa,a7⟩,_,64,T,λcf d=>⟨b1 cf d,by have:=(hT _ _ _ jA cf d).2;omega⟩,by omega,hE _ _ _ _ jA O,b7.symm⟩,?_⟩
 rintro t D ⟨ht,u,L,⟨zD,a9,a6⟩,e,f,T1,x,hf,jD,b⟩
 refine⟨_,a9,?_⟩
 by_cases z:t< (j.sp.mem.seg cg).n
 case neg=>
  rw[za z,af]
  rw[u7 _ _ _ (by simpa using z),DC]at b
  exact⟨⟨⟨by omega,by omega⟩,u,L,by omega,T1,by rw[ae,<-b];exact jD,λcf d=>(x cf d).1⟩,I⟩
 rw[qB z]
 refine⟨_,a6,HC.mono (tl U) ?_⟩
 rintro _ _ ⟨rfl,rfl⟩
 have b8:IntKind.wrap .i64 ((cg:Int)*64)=(cg:Int)*64:=xT (by omega)
 have b9:IntKind.wrap .i64 ((cg:Int)*64+t)=(cg:Int)*64+t:=xT (by omega)
 have bl:y8 (j.sp.mem.seg cg).kind=1\/y8 (j.sp.mem.seg cg).kind=2\/y8 (j.sp.mem.seg cg).kind=3:=by unfold y8;split<;>(try split)<;>omega
 rw[b8,b9]
 refine⟨_,rfl,HC.mono (lG (by omega) (by omega)) ?_⟩
 rintro _ H9 ⟨rfl,e9⟩
 rw[za (by omega),qB (by omega)]
 have b5:=ac (u.trans e9.fr)
 refine⟨_,_,rfl,_,g (u.trans e9.fr),?_⟩
 refine HC.mono (kZ (.real b5 ok) (by omega)) ?_
 rintro _ ap ⟨rfl,N⟩
 have hm:yP (some (i,j))=j.sp.mem:=rfl
 rw[hm]
 have hr:=lc j.sp.mem (((cg:Int)*64+t)*8+y8 (j.sp.mem.seg cg).kind)
 obtain⟨f,rfl⟩: ∃f',f=f'+1:=⟨f-1,by omega⟩
 have hu:kS j.sp.mem cg t (f+1)=(((cg:Int)*64+t)*8+y8 (j.sp.mem.seg cg).kind,j.sp.mem.sizeOf (((cg:Int)*64+t)*8+y8 (j.sp.mem.seg cg).kind))::
   (if j.sp.mem.sizeOf (((cg:Int)*64+t)*8+y8 (j.sp.mem.seg cg).kind)=0 then[]else kS j.sp.mem cg (t+j.sp.mem.sizeOf (((cg:Int)*64+t)*8+y8 (j.sp.mem.seg cg).kind)) f):=by
  rw[kS];rw[qB (by simpa using z)];rfl
 rw[hu]at b
 generalize ((cg:Int)*64+t)*8+y8 (j.sp.mem.seg cg).kind=w at*
 generalize j.sp.mem.sizeOf w=n at*
 have E:=u.trans (e9.trans N).fr
 refine⟨_,rfl,FC.mono (hy l e w n _ T1 ap hl (by rw[b6,<-b,DL,List.cons_append]) E (hE _ _ _ _ jD (e9.trans N))) ?_⟩
 rintro v M (⟨rfl,T2,ag,p,b0⟩ | ⟨rfl,bb⟩)
 ·refine⟨_,rfl,?_⟩
  rw[qB rfl]
  have m:=e9.trans N
  have bq:=m.size
  have bO:=p.size
  have jS: ∀cf∈T1,H.size<=cf:=λcf d=>(hT _ _ _ jD cf d).1
  have F:Fr S H M:=E.trans' p (λ_ h _=>h) (λcf d hl=>by
   rcases CM.1 d with h | h
   ·exact h
   ·have:=jS cf h;omega)
  have q:=(L.ext m).keep p (λcf d h=>by
   rcases CM.1 h with h | h
   ·exact aU cf d h
   ·have:=aV cf d;have:=(x cf h).1;omega)
  have G: ∀cf∈T2,Y.size<=cf/\cf≠o:=λcf d=>by
   rcases b0 cf d with h | h
   ·exact x cf h
   ·omega
  have Z:o ∉ S++T1:=λh=>by
   rcases CM.1 h with h | h
   ·exact a4 h
   ·exact(x o h).2 rfl
  have ay:hat M ((Addr.mk o 0 none).add 2)=some (vi (j.sp.mem.seg cg).n):=p.hat (a:=⟨o,2,none⟩) Z (m.hat a9)
  have ax:hat M ((Addr.mk o 0 none).add 1)=some (vi (j.sp.mem.seg cg).kind):=p.hat (a:=⟨o,1,none⟩) Z (m.hat a6)
  by_cases hz:n=0
  ·rw[qB hz,af]
   rw[qB hz]at b
   exact⟨⟨⟨by omega,by omega⟩,F,q,by omega,T2,by rw[ae,<-b];exact ag,λcf d=>(G cf d).1⟩,I⟩
  ·rw[za hz,xT (n:=t+n) (by omega)]
   rw[za hz]at b
   exact⟨⟨by omega,F,q,⟨by omega,ay,ax⟩,_,f,T2,G,by omega,ag,by rw[DL];exact b⟩,by show((j.sp.mem.seg cg).n-(t+n)).toNat< ((j.sp.mem.seg cg).n-t).toNat;omega⟩
 ·refine⟨_,rfl,?_⟩
  rw[za (by decide)]
  exact bb
theorem ry(m:Mem)(k:Int): ∀(f:Nat) (t:Int),(kS m k t f).length<=f
 | 0,t=>CU _
 | f+1,t=>by
  unfold kS
  by_cases h:t< (m.seg k.toNat).n
  ·rw[qB h]
   by_cases a:m.sizeOf ((k*64+t)*8+y8 (m.seg k.toNat).kind)=0
   ·rw[qB a];simp
   ·rw[za a]
    have:=ry m k f (t+m.sizeOf ((k*64+t)*8+y8 (m.seg k.toNat).kind))
    simp only[List.length_cons];omega
  ·rw[za h];simp
theorem mX(m:Mem): ∀l:List Nat,(bF m l).length<=64*l.length
 | []=>by simp[bF]
 | k::l=>by
  have a:=ry m (k:Int) 64 0
  have b:=mX m l
  have e:bF m (k::l)=kS m (k:Int) 0 64++bF m l:=by unfold bF;rw[List.flatMap_cons]
  rw[e,CV,List.length_cons];omega
def zm(l:List (Int×Int)):List Int:=(l.filter λp=>decide (p.2>0)).map Prod.fst
theorem tn(l:List (Int×Int)):(zm l).length<=l.length:=by
 unfold zm;rw[Dl];exact En _ _
theorem tp(l:List (Int×Int)){n:Int}(h:n>0):zm (l++[(d,n)])=zm l++[d]:=by
 unfold zm
 rw[D7,EI (by simpa using h),C7];rfl
theorem tq(l:List (Int×Int)){n:Int}(h: ¬n>0):zm (l++[(d,n)])=zm l:=by
 unfold zm
 rw[D7,EA (by simpa using h)];simp
set_option maxHeartbeats 1000000 in
theorem tt(hp:HpAt H i j)(ok:SpOK j.sp)(hb: ∀bs∈i.all,bs<H.size):
  gT.C (some ⟨i.h,0,none⟩) H (λv A'=> ∃(B:zW) (c:Nat) (l:List Nat),dA j.sp.mem [] l/\v=.slice B (zm (bF j.sp.mem l)).length c/\Own A' 28 1 B (zm (bF j.sp.mem l)).length c (yE (zm (bF j.sp.mem l)))/\(∀bs∈kd B,H.size<=bs)/\Ext H A'):=by
 refine HC.via λR hR=>gT.link ?_
 unfold gT.pt
 intro bv H1 au z
 have e1:Ext H H1:=CI z
 refine fE.link ?_
 unfold fE.pt
 intro ai q Z A
 have e2:Ext H1 q:=CI A
 have z1:H1.size=H.size+1:=by rw[z];simp
 have z2:q.size=H1.size+1:=by rw[A];simp
 refine⟨rfl,λrc g t be s vY hY=>?_⟩
 have e3:Ext q t:=(CI rfl).trans (CI s)
 have z3:t.size=q.size+2:=by rw[s];simp
 have Q:t[q.size]?=some (.deferred (some [])):=by
  have:(q.push (.deferred (some [])))[q.size]?=some (.deferred (some [])):=aF rfl rfl
  exact(CI s).get this
 have al:t[g]?=some (rc .ready none):=aF (by simp;omega) s
 have ak:t[bv]?=some (.cells #[VN] 32 (0,0)):=(e2.trans e3).get (aF au z)
 have P:t[ai]?=some (.cells #[vp (some ⟨i.h,0,none⟩)] 23 (0,0)):=e3.get (aF Z A)
 have L:=(e1.trans e2).trans e3
 have f:bv≠g:=by omega
 refine FE.of2 (DU func136 (by kernel_rfl) rfl) rfl (rx (S:=[g,bv])
  (J:=λl T D=>D[g]?=some (rc .ready none)/\ ∃(B:zW) (c:Nat),D[bv]?=some (.cells #[.slice B (zm l).length c] 32 (0,0))/\Own D 28 1 B (zm l).length c (yE (zm l))/\T=kd B/\(∀bs∈kd B,t.size<=bs/\bs<D.size))
  (hp.ext L) ok P (λbr d=>by
   simp at d
   refine⟨by omega,λh=>by have:=hb br h;omega,by omega⟩) (λl T D D' ⟨h1,B,c,h2,h3,h4,h5⟩ e=>⟨e.get h1,B,c,e.get h2,h3.ext e,h4,λbs b=>⟨(h5 bs b).1,by have:=(h5 bs b).2;have:=e.size;omega⟩⟩)
  (λl T D ⟨_,B,c,_,_,h4,h5⟩ bs b=>by subst h4;exact h5 bs b) (λl m w n b4 T D hl X f0 hJ=>?_) ⟨al,none,0,ak,gI,rfl,by simp⟩ (λl T D hl hJ f0=>?_))
 ·obtain⟨o,B,c,F,I,rfl,p⟩:=hJ
  have b2:(zm m).length<=65536:=by
   have h1:=tn m
   have h2:=mX j.sp.mem l
   rw[X,CV]at h2
   have h3:=hl.len
   have h4:=ok.mem.lim
   omega
  refine hY w n D _ o ⟨o,λK V=>?_⟩
  have O:Fr [g] D K:=by rw[V];exact Fr.set
  have G:K[g]?=some (rc .busy none):=by rw[V];exact aT (aS o)
  have E:=O.get (by simp;exact f) F
  have x: ∀bs∈kd B,bs ∉ [g]:=λbs b h=>by have:=(p bs b).1;simp at h;omega
  have a3:=I.keep O x
  have z5:=O.size
  by_cases hn:n>0
  ·rw[qB hn]
   refine⟨B,_,c,by rw[aI E];rfl,λbi H6 ap W=>?_⟩
   have M:Ext K H6:=CI W
   have z6:=M.size
   refine cI (ys:=yE [w]) (a3.ext M) (eJ (aF ap W) _ 0 0 (λbs b=>by simp at b;subst b;rfl)) rfl (gO _) rfl (by omega) ?_
   intro p' c' H7 o7 f7 a1
   have Y:bv ∉ kd B:=λh=>by have:=(p _ h).1;omega
   have a0:g ∉ kd B:=λh=>by have:=(p _ h).1;omega
   have ax:=f7.get Y (M.get E)
   have ay:=f7.get a0 (M.get G)
   obtain⟨c8,s8⟩:=mx ax 0 (vs p' ((zm m).length+1) c') (by simp)
   rw[nE]at c8 s8
   refine⟨c8,λH8 an=>?_⟩
   obtain⟨g8,f8⟩:=s8 H8 an
   have a6:=f8.get (by simp;omega) ay
   have z7:=f7.size
   have z8:=f8.size
   have a2: ∀bs∈kd p',bs∈kd B\/H6.size<=bs:=a1
   have k: ∀bs∈kd p',t.size<=bs:=λbs b=>by
    rcases a2 bs b with h | h
    ·exact(p bs h).1
    ·have:=f0.size;omega
   have aw:=o7.keep f8 (λbs b h=>by have:=k bs b;simp at h;omega)
   have u:Fr [g] H8 (aM H8 g (rc .ready none)):=Fr.set
   have a4:=aw.keep u (λbs b h=>by have:=k bs b;simp at h;omega)
   refine⟨a6,.inl ⟨rfl,_,⟨aT (aS a6),p',c',?_,?_,rfl,λbs b=>⟨k bs b,?_⟩⟩,?_,λbs b=>?_⟩⟩
   ·rw[tp _ hn,CV]
    exact u.get (by simp;exact f) g8
   ·rw[tp _ hn,CV]
    have e:yE (zm m++[w])=yE (zm m)++yE [w]:=by unfold yE;rw[C7]
    rw[e];exact a4
   ·have:=a4.lt bs b;exact this
   ·have a:Fr ([g,bv]++kd B) D H6:=(O.mono (λbr d _=>by simp at d;simp[d])).trans M.fr
    have b':Fr ([g,bv]++kd B) H6 H7:=f7.mono (λbr d _=>Du _ d)
    exact((a.trans b').trans (f8.mono (λbr d _=>by simp at d;simp[d]))).trans (u.mono (λbr d _=>by simp at d;simp[d]))
   ·rcases a2 bs b with h | h
    ·exact .inl h
    ·right;omega
  ·rw[za hn]
   have u:Fr [g] K (aM K g (rc .ready none)):=Fr.set
   refine⟨G,.inl ⟨rfl,_,⟨aT (aS G),B,c,?_,?_,rfl,λbs b=>⟨(p bs b).1,?_⟩⟩,?_,λbs b=> .inl b⟩⟩
   ·rw[tq _ hn];exact u.get (by simp;exact f) E
   ·rw[tq _ hn];exact a3.keep u x
   ·have:=(p bs b).2;have:=u.size;omega
   ·exact(O.mono (λbr d _=>by simp at d;simp[d])).trans (u.mono (λbr d _=>by simp at d;simp[d]))
 ·obtain⟨o,B,c,F,I,rfl,p⟩:=hJ
  refine⟨o,λy U=>?_⟩
  have r:Fr [g] D y:=by rw[U];exact Fr.set
  have a5:=r.get (by simp;exact f) F
  have gd:=r.get (by simp;omega) (f0.get (by simp;omega) Q)
  refine⟨B,_,c,by rw[aI a5];rfl,gd,?_⟩
  have N:Fr [q.size] y (y.setIfInBounds q.size (.deferred none)):=Fr.set
  refine hR _ _ ⟨B,c,l,hl,rfl,(I.keep r (λbs b h=>by have:=(p bs b).1;simp at h;omega)).keep N (λbs b h=>by have:=(p bs b).1;simp at h;omega),λbs b=>by have:=(p bs b).1;omega,?_⟩
  exact((L.fr_trans f0 (λbr d=>by simp at d;omega)).fr_trans r (λbr d=>by simp at d;omega)).fr_trans N (λbr d=>by simp at d;omega)
def Aj(w:Int):Int:=if(w % 8=1\/w % 8=2\/w % 8=3\/w % 8=6)/\w / 8<65536 then w / 8 else 0
theorem xq(a:aD d):0<=Aj d/\Aj d<65536:=by
 unfold Aj
 obtain⟨b,c⟩:=a
 split<;>omega
theorem ng(e:aD d):eY.C d H (λv c=>v=vi (Aj d)/\Ext H c):=by
 refine HC.via λR a=>eY.link ?_
 unfold eY.pt
 refine HC.mono (jW e) ?_
 rintro _ f ⟨rfl,b⟩
 unfold Aj at a
 split
 ·rename_i h
  rw[qB h]at a
  exact⟨_,_,rfl,a _ _ ⟨rfl,b⟩⟩
 ·rename_i h
  rw[za h]at a
  exact⟨_,_,rfl,a _ _ ⟨rfl,b⟩⟩
theorem xr{c:Nat}{m:Mem}(h:cS H k c m)(g:bD m)(f:d<=9223372036854775807):
  cG.C (some ⟨k,0,none⟩) d H (λv b=>(∃e:Int,v=.tuple #[vu (m.read d),vi e])/\b=H):=by
 refine HC.mono (jX h g f) ?_
 rintro _ _ ⟨rfl,rfl⟩
 unfold Mem.read
 by_cases a:m.used d
 ·rw[qB a,qB a];exact⟨⟨_,rfl⟩,rfl⟩
 ·rw[za a,za a];exact⟨⟨_,rfl⟩,rfl⟩
def eS(m:Mem)(w:Int):Int:=if m.typ w>0 then 1 else 0
def bP(m:Mem)(w:Int):List (Int×Int):=if m.typ w=2\/m.typ w=3 then[]else(List.range (m.sizeOf w-eS m w).toNat).map λi:Nat=>(Aj w+(eS m w+i),m.read (Aj w+(eS m w+i)))
set_option maxHeartbeats 1000000 in
theorem oL{E:Nat}{w:Int}{S:List Nat}{J:List (Int×Int)->List Nat->zV->Prop}{b:Value}{R:zv}
  (hp:HpAt H i j) (Z:SpOK j.sp) (V:H[k]?=some (.cells #[vp (some ⟨i.h,0,none⟩)] 23 (0,0))) (W:H[E]?=some (.cells #[vu w] 28 (0,0))) (z:aD w)
  (U: ∀ax∈S,ax ∉ i.all/\ax≠k/\ax≠E)
  (K: ∀l T A p,J l T A->Ext A p->J l T p) (hT: ∀l T A,J l T A-> ∀ay∈T,H.size<=ay)
  (hy: ∀o a v D T A,bP j.sp.mem w=o++(a,v)::D->Fr S H A->J o T A->FC prog b #[vi a,vu v] A (λr p=>(r=VT/\ ∃T',J (o++[(a,v)]) T' p/\Fr (S++T) A p/\ ∀ay∈T',ay∈T\/A.size<=ay)\/(r=VF/\R (.tuple #[]) p)))
  (h0:J [] [] H) (hR: ∀T A,J (bP j.sp.mem w) T A->Fr S H A->R (.tuple #[]) A):gZ.C b (some ⟨k,0,none⟩) (some ⟨E,0,none⟩) H R:=by
 refine gZ.link ?_
 unfold gZ.pt zY
 have M: ∀{A},Fr S H A->hat A ⟨k,0,none⟩=some (vp (some ⟨i.h,0,none⟩)):=λ{A} f=>by
  rw[aI (f.get (λh=>(U _ h).2.1 rfl) V)];rfl
 have N: ∀{A},Fr S H A->hat A ⟨E,0,none⟩=some (vu w):=λ{A} f=>by
  rw[aI (f.get (λh=>(U _ h).2.2 rfl) W)];rfl
 have n: ∀{A},Fr S H A->HpAt A i j:=λ{A} f=>hp.keep f (λax hi=>(U ax hi).1)
 have p1: ∀{A},HpAt A i j->hat A ⟨i.h,0,none⟩=some (vp (some ⟨i.c,0,none⟩)):=λ{A} h=>by rw[aI h.h];rfl
 have s:=Fr.refl S H
 refine⟨_,rfl,_,M s,_,rfl,w,N s,HC.mono (jN (.real hp Z) z) ?_⟩
 have hm:yP (some (i,j))=j.sp.mem:=rfl
 rw[hm]
 rintro _ H1 ⟨rfl,F⟩
 refine⟨_,rfl,?_⟩
 have hr:=lc j.sp.mem w
 have ai:=xq z
 by_cases d:j.sp.mem.typ w=2\/j.sp.mem.typ w=3
 ·rw[qB (by rcases d with h | h<;>rw[h]<;>rfl)]
  have e:bP j.sp.mem w=[]:=by unfold bP;rw[qB d]
  exact hR [] _ (by rw[e];exact K _ _ _ _ h0 F) F.fr
 rw[za (by simpa using d)]
 have e:bP j.sp.mem w=(List.range (j.sp.mem.sizeOf w-eS j.sp.mem w).toNat).map λax:Nat=>(Aj w+(eS j.sp.mem w+ax),j.sp.mem.read (Aj w+(eS j.sp.mem w+ax))):=by unfold bP;rw[za d]
 have hF:eS j.sp.mem w=0\/eS j.sp.mem w=1:=by unfold eS;split<;>omega
 refine⟨λf H'=>f=eS j.sp.mem w/\H1=H',?_,?_⟩
 ·unfold eS
  by_cases h:j.sp.mem.typ w>0
  ·rw[qB h,qB h];exact⟨rfl,rfl⟩
  ·rw[za h,za h];exact⟨rfl,rfl⟩
 rintro _ _ ⟨rfl,rfl⟩
 have X:(bP j.sp.mem w).length=(j.sp.mem.sizeOf w-eS j.sp.mem w).toNat:=by rw[e];simp
 refine⟨λax A=> ∃az:Nat,ax=eS j.sp.mem w+az/\az<=(bP j.sp.mem w).length/\Fr S H A/\ ∃T,J ((bP j.sp.mem w).take az) T A,λax _=>(j.sp.mem.sizeOf w-ax).toNat,⟨0,by omega,by omega,F.fr,[],by rw[List.take_zero];exact K _ _ _ _ h0 F⟩,?_⟩
 rintro _ A ⟨az,rfl,hk,I,T,L⟩
 refine⟨_,M I,w,N I,HC.mono (kZ (.real (n I) Z) z) ?_⟩
 rw[hm]
 rintro _ H4 ⟨rfl,O⟩
 have q:=I.trans O.fr
 refine⟨_,rfl,?_⟩
 by_cases y:eS j.sp.mem w+(az:Int)<j.sp.mem.sizeOf w
 case neg=>
  rw[za y]
  rw[De (by omega)]at L
  exact hR T _ (K _ _ _ _ L O) q
 rw[qB y]
 have x:az< (bP j.sp.mem w).length:=by omega
 have m:=n q
 refine⟨_,M q,_,rfl,_,p1 m,_,rfl,_,m.cd.cPtr,_,rfl,_,m.cd.sp.memPtr,w,N q,?_⟩
 refine HC.mono (ng z) ?_
 rintro _ H5 ⟨rfl,e5⟩
 have G:=q.trans e5.fr
 have g:=n G
 have row: ∀{a:Addr} {v:Value},hat H5 a=some v->aL H5 a 0 [v]:=λh=>⟨by rw[show Addr.add _ 0=_ from rfl];exact h,EO⟩
 have B:IntKind.wrap .i64 (Aj w+(eS j.sp.mem w+(az:Int)))=Aj w+(eS j.sp.mem w+(az:Int)):=xT (by omega)
 refine⟨_,rfl,row (M G),row (p1 g),row g.cd.cPtr,row g.cd.sp.memPtr,?_⟩
 rw[B]
 refine HC.mono (xr g.cd.sp.mem Z.mem (by omega)) ?_
 rintro _ _ ⟨⟨er,rfl⟩,rfl⟩
 refine⟨_,_,rfl,w,N G,?_⟩
 refine HC.mono (ng z) ?_
 rintro _ H7 ⟨rfl,e7⟩
 refine⟨_,rfl,?_⟩
 rw[B]
 have P:=(O.trans e5).trans e7
 have f7:=G.trans e7.fr
 have u:(bP j.sp.mem w)[az]=(Aj w+(eS j.sp.mem w+(az:Int)),j.sp.mem.read (Aj w+(eS j.sp.mem w+(az:Int)))):=by
  simp only[e,List.getElem_map,List.getElem_range]
 have t:bP j.sp.mem w=(bP j.sp.mem w).take az++(Aj w+(eS j.sp.mem w+(az:Int)),j.sp.mem.read (Aj w+(eS j.sp.mem w+(az:Int))))::(bP j.sp.mem w).drop (az+1):=by
  rw[<-u,<-EN x,EG]
 refine FC.mono (hy _ _ _ _ T H7 t f7 (K _ _ _ _ L P)) ?_
 rintro v H8 (⟨rfl,T2,j8,f8,ah⟩ | ⟨rfl,r8⟩)
 ·refine⟨_,rfl,?_⟩
  rw[qB rfl]
  have Y:IntKind.wrap .i64 (eS j.sp.mem w+(az:Int)+1)=eS j.sp.mem w+((az+1:Nat):Int):=by rw[xT (by omega)];omega
  rw[Y]
  have Q:Fr S H H8:=f7.trans' f8 (λ_ h _=>h) (λay hj hl=>by
   rcases CM.1 hj with h | h
   ·exact h
   ·have:=hT _ _ _ L ay h;omega)
  refine⟨⟨az+1,rfl,by omega,Q,T2,?_⟩,by show(j.sp.mem.sizeOf w-(eS j.sp.mem w+((az+1:Nat):Int))).toNat< (j.sp.mem.sizeOf w-(eS j.sp.mem w+(az:Int))).toNat;omega⟩
  rw[Db x,u]
  exact j8
 ·refine⟨_,rfl,?_⟩
  rw[za (by decide)]
  exact r8
variable{d:Mem}
def zl(m:Mem)(L:List Int)(w:Int):List Int:=if m.sizeOf w>0/\w ∉ L then L++[w]else L
structure CmAt (m:Mem) (A:zV) (b3 b4 mr n0:Nat) (L:List Int) (T:List Nat):Prop where
 num:A[b3]?=some (.cells #[.map (some mr)] 149 (0,0))
 map: ∃(es:Array MapEntry) (cl:Nat) (ks:List (Int×Value)),A[mr]?=some (.map es cl)/\vb (aY .u64) es.toList ks/\ ∀w,yG ks w=if w∈L then some (vi (L.idxOf w+1:Nat))else none
 lst: ∃(B:zW) (c:Nat),A[b4]?=some (.cells #[vs B L.length c] 32 (0,0))/\Own A 28 1 B L.length c (yE L)/\T=kd B/\ ∀j∈kd B,n0<=j/\j<A.size
 ne:(b3≠b4/\b3≠mr/\b4≠mr)/\b3<n0/\b4<n0/\mr<n0
 nod:L.Nodup
 pos: ∀w∈L,m.sizeOf w>0/\aD w
theorem CmAt.ext{A a:zV}{b3 b4 mr n0:Nat}{L:List Int}{T:List Nat}(h:CmAt d A b3 b4 mr n0 L T)(e:Ext A a):CmAt d a b3 b4 mr n0 L T:=by
 obtain⟨k,i,r,l,m,n⟩:=h.map
 obtain⟨B,c,o,p,q,g⟩:=h.lst
 exact⟨e.get h.num,⟨k,i,r,e.get l,m,n⟩,⟨B,c,e.get o,p.ext e,q,λj f=>⟨(g j f).1,by have:=(g j f).2;have:=e.size;omega⟩⟩,h.ne,h.nod,h.pos⟩
theorem CmAt.at(m:Mem){A:zV}{b3 b4 mr n0:Nat}{L:List Int}{T:List Nat}(h:CmAt m A b3 b4 mr n0 L T): ∀j∈T,n0<=j/\j<A.size:=by
 obtain⟨B,c,d,e,rfl,a⟩:=h.lst
 exact a
set_option maxHeartbeats 1000000 in
theorem uK{A:zV}{b:Blk}{x:Hp}{b0 b3 b4 mr n0:Nat}{L:List Int}{T:List Nat}{w:Int}(hp:HpAt A b x)(ok:SpOK x.sp)(h0:A[b0]?=some (.cells #[vp (some ⟨b.h,0,none⟩)] 23 (0,0)))
  (C:CmAt x.sp.mem A b3 b4 mr n0 L T) (hw:aD w) (hl:L.length<=1000000) (ao:n0<=A.size):
  jr.C w (some ⟨b0,0,none⟩) (some ⟨b3,0,none⟩) (some ⟨b4,0,none⟩) A (λv W=>v=.tuple #[]/\ ∃T',CmAt x.sp.mem W b3 b4 mr n0 (zl x.sp.mem L w) T'/\Fr ([b4,mr]++T) A W/\ ∀j∈T',j∈T\/A.size<=j):=by
 refine HC.via λR hR=>jr.link ?_
 unfold jr.pt
 have hm:yP (some (b,x))=x.sp.mem:=rfl
 refine⟨_,rfl,_,by rw[aI h0];rfl,HC.mono (mW hp) ?_⟩
 rintro _ AA ⟨rfl,Q⟩
 obtain rfl:A=AA:=Q.symm
 refine⟨_,rfl,?_⟩
 rw[za (by decide)]
 refine⟨_,by rw[aI h0];rfl,HC.mono (kZ (.real hp ok) hw) ?_⟩
 rw[hm]
 rintro _ X ⟨rfl,O⟩
 refine⟨_,rfl,?_⟩
 have y:=C.ext O
 have z2:=O.size
 have s:zl x.sp.mem L w=L->R (.tuple #[]) X:=λe=>hR _ _ ⟨rfl,T,by rw[e];exact y,O.fr,λj g=> .inl g⟩
 by_cases M:x.sp.mem.sizeOf w>0
 case neg=>rw[za M];exact s (by unfold zl;rw[za (λh=>M h.1)])
 rw[qB M]
 obtain⟨es,cl,ks,m1,m2,m3⟩:=y.map
 obtain⟨⟨n1,n2,n3⟩,n4,n5,n6⟩:=y.ne
 refine⟨_,rfl,some mr,by rw[aI y.num];rfl,mr,rfl,es,cl,ks,m1,m2,(if w∈L then((L.idxOf w+1:Nat):Int)else 0),by rw[m3 w];split<;>rfl,?_⟩
 by_cases k:w∈L
 ·rw[qB k,za (by omega)]
  exact s (by unfold zl;rw[za (λh=>h.2 k)])
 rw[za k,qB rfl]
 have f:zl x.sp.mem L w=L++[w]:=by unfold zl;rw[qB ⟨M,k⟩]
 obtain⟨B,c,k1,k2,rfl,k4⟩:=y.lst
 refine⟨_,rfl,B,_,c,by rw[aI k1];rfl,λb5 Y V I=>?_⟩
 have z:Ext X Y:=CI I
 have z3:=z.size
 refine cI (ys:=yE [w]) (k2.ext z) (eJ (aF V I) _ 0 0 (λj g=>by simp at g;subst g;rfl)) rfl (gO _) rfl (by omega) ?_
 intro P c' H4 o4 F o
 have S: ∀i,i<n0->i ∉ kd B:=λi n h=>by have:=(k4 i h).1;omega
 obtain⟨c5,s5⟩:=mx (F.get (S b4 n5) (z.get k1)) 0 (vs P (L.length+1) c') (by simp)
 rw[nE]at c5 s5
 refine⟨c5,λZ U=>?_⟩
 obtain⟨g5,G⟩:=s5 Z U
 have r:=G.get (by simp;exact n1) (F.get (S b3 n4) (z.get y.num))
 have p:=G.get (by simp;omega) (F.get (S mr n6) (z.get m1))
 have l: ∀j∈kd P,n0<=j:=λj g=>by
  rcases o j g with h | h
  ·exact(k4 j h).1
  ·omega
 have z4:=F.size
 have z5:=G.size
 have o5:=o4.keep G (λj g h=>by have:=l j g;simp at h;omega)
 refine⟨some mr,by rw[aI r];rfl,_,_,_,by rw[aI g5];rfl,mr,rfl,es,cl,ks,p,m2,λE D H6 J K=>?_⟩
 have H:Fr [mr] Z H6:=by rw[J];exact Fr.set
 have N:H6[mr]?=some (.map E D):=by rw[J];exact aT (aS p)
 have o6:=o5.keep H (λj g h=>by have:=l j g;simp at h;omega)
 have z6:=H.size
 refine hR _ _ ⟨rfl,kd P,⟨H.get (by simp;exact n2) r,⟨E,D,_,N,K,λu=>?_⟩,⟨P,c',?_,?_,rfl,λj g=>⟨l j g,o6.lt j g⟩⟩,C.ne,?_,λu hu=>?_⟩,?_,λj g=>?_⟩
 ·rw[kA,m3 u,f]
  by_cases t:u=w
  ·subst t
   rw[qB rfl,qB (by simp),List.idxOf_append,za k]
   simp
  ·rw[za t]
   by_cases m:u∈L
   ·rw[qB m,qB (by simp[m]),List.idxOf_append,qB m]
   ·rw[za m,za (by simp[m,t])]
 ·rw[f,CV]
  exact H.get (by simp;exact n3) g5
 ·rw[f,CV]
  have e:yE (L++[w])=yE L++yE [w]:=by unfold yE;rw[C7]
  rw[e];exact o6
 ·rw[f,List.nodup_append]
  exact⟨C.nod,by simp,λa ha d hd=>by simp at hd;rw[hd];exact λq=>k (q▸ha)⟩
 ·rw[f]at hu
  rcases CM.1 hu with h | h
  ·exact C.pos u h
  ·simp at h;subst h;exact⟨M,hw⟩
 ·have a:Fr ([b4,mr]++kd B) A Y:=(O.trans z).fr
  exact((a.trans (F.mono (λi n _=>Du _ n))).trans (G.mono (λi n _=>by simp at n;simp[n]))).trans (H.mono (λi n _=>by simp at n;simp[n]))
 ·rcases o j g with h | h
  ·exact .inl h
  ·right;omega
theorem qu: ∀(n:Nat) (L:List Int),L.Nodup->(∀k∈L,0<=k/\k<n)->L.length<=n
  | 0,[],_,_=>CU _
  | 0,a::L,_,h=>by have:=h a (by simp);omega
  | n+1,L,hn,h=>by
    have i:=qu n (L.filter λk:Int=>decide (k≠(n:Int))) (hn.filter _) (λk hk=>by
      rw[Dm,CN]at hk
      have:=h k hk.1;omega)
    have j:L.length<=(L.filter λk:Int=>decide (k≠(n:Int))).length+1:=by
      by_cases hm:(n:Int)∈L
      · obtain⟨f,g,rfl⟩:=List.append_of_mem hm
        have c:=List.nodup_append.1 hn
        have d: ∀k∈f,decide (k≠(n:Int))=true:=λk hk=>by
          rw[CN];exact λq=>c.2.2 k hk (n:Int) (by simp) q
        have e: ∀k∈g,decide (k≠(n:Int))=true:=λk hk=>by
          rw[CN];exact λq=>(D2.1 c.2.1).1 (q▸hk)
        rw[D7,EA (by simp),List.filter_eq_self.2 d,List.filter_eq_self.2 e]
        simp only[CV,List.length_cons];omega
      · have d: ∀k∈L,decide (k≠(n:Int))=true:=λk hk=>by
          rw[CN];exact λq=>hm (q▸hk)
        rw[List.filter_eq_self.2 d];omega
    omega
theorem CmAt.len{A:zV}{b3 b4 mr n0:Nat}{L:List Int}{T:List Nat}(h:CmAt d A b3 b4 mr n0 L T):L.length<=524288:=by
  refine qu 524288 L h.nod λk hk=>?_
  obtain⟨g,c⟩:=h.pos k hk
  have a:d.sizeOf k≠0:=by omega
  unfold Mem.sizeOf at a
  by_cases f:d.isPair k
  · rcases f.1 with q | q
    · have:=q.1.2;have:=c.1;omega
    · have:=q.1.2;have:=c.1;omega
  · rw[za f]at a
    by_cases e:d.isObj k
    · have:=e.1.1.2;have:=c.1;omega
    · rw[za e]at a;exact absurd rfl a
theorem oe{K:zV->Prop}: ∀(a:List Nat) (A:zV),a.Nodup->(∀D∈a,A[D]?=some (.deferred (some [])))->(∀c,Fr a A c->K c)->Shut a A K
  | [],A,_,_,h=>h A (Fr.refl _ _)
  | D::a,A,hn,hd,h=>by
    rw[D2]at hn
    have f:Fr [D] A (A.setIfInBounds D (.deferred none)):=Fr.set
    refine⟨hd D (by simp),oe a _ hn.2 (λE e=>f.get (by simp;exact λq=>hn.1 (q▸e)) (hd E (by simp[e]))) λc g=>h c ?_⟩
    exact(f.mono (λi d _=>by simp at d;simp[d])).trans (g.mono (λi d _=>by simp[d]))
theorem wk(m:Mem)(L:List Int)(w:Int){k:Nat}{v:Int}(h:L[k]?=some v):(zl m L w)[k]?=some v:=by
  unfold zl
  split
  · rw[List.getElem?_append_left (by exact(List.getElem?_eq_some_iff.1 h).1)];exact h
  · exact h
theorem nh(m:Mem): ∀(vs L:List Int) {k:Nat} {v:Int},L[k]?=some v->(vs.foldl (zl m) L)[k]?=some v
  | [],_,_,_,h=>h
  | w::vs,L,_,_,h=>nh m vs _ (wk m L w h)
theorem vc{A:zV}{b:Blk}{x:Hp}{b0 b3 b4 b5 mr n0:Nat}{Q:zV->Prop}{D:zW}{m:Nat}{c:List Int}(Z:HpAt A b x)(ok:SpOK x.sp)(hb: ∀j∈b.all,j<n0)(R:A[b0]?=some (.cells #[vp (some ⟨b.h,0,none⟩)] 23 (0,0)))
    (V:A[b5]?=some (.cells #[.func (.func 123) #[] #[Vq (Addr.mk b0 0 none),Vq (Addr.mk b3 0 none),Vq (Addr.mk b4 0 none)]] 198 (0,0)))
    (g:b0<n0/\b5<n0/\n0<=A.size/\b4 ∉ b.all/\mr ∉ b.all/\b4≠b0/\b4≠b5/\mr≠b0/\mr≠b5) (C:CmAt x.sp.mem A b3 b4 mr n0 [] [])
    (M:Nums A .u64 D m c) (a1:m<=1000000) (y: ∀j∈kd D,j<n0/\j≠b4/\j≠mr) (I: ∀w∈c,aD w)
    (W: ∀l T,CmAt x.sp.mem l b3 b4 mr n0 (c.foldl (zl x.sp.mem) []) T->(∀j∈T,A.size<=j)->Fr [b4,mr] A l->Q l):
    ∃(p:zw) (z:Int->zV->Nat),p 0 A/\ ∀(f:Int) (s:zV),p f s->
    if f< (m:Int)then(
     ∃e:Addr,D=some e/\
     ((0:Int)<=f/\f< (m:Int))/\
     ∃x:Int,hat s (e.add (Int.toNat f*1))=some (vu x)/\
     ∃B:Value,hat s (Addr.mk b5 0 none)=some (B)/\
     FC prog B #[vu x] s (λ_ J=>
      (p (IntKind.wrap .i64 (f+1)) J/\z (IntKind.wrap .i64 (f+1)) J<z f s)))
    else Q s:=by
  obtain⟨q0,q5,qn,p4,p5,p6,p7,p8,p9⟩:=g
  have a0:=M.len
  refine⟨λi l=> ∃k:Nat,i=k/\k<=m/\Fr [b4,mr] A l/\ ∃T,CmAt x.sp.mem l b3 b4 mr n0 ((c.take k).foldl (zl x.sp.mem) []) T/\ ∀j∈T,A.size<=j,λi _=>((m:Int)-i).toNat,⟨0,rfl,by omega,Fr.refl _ _,[],by rw[List.take_zero];exact C,by simp⟩,?_⟩
  rintro _ l ⟨k,rfl,hk,o,T,t,d⟩
  by_cases g:(k:Int)< (m:Int)
  case neg=>
    rw[za g]
    rw[De (by omega)]at t
    exact W l T t d o
  rw[qB g]
  have q:k<c.length:=by omega
  obtain⟨a,u,Y⟩:=M.at q
  have v:a.block∈kd D:=by rw[u];simp
  have r: ∀j,j≠b4->j≠mr->j ∉ [b4,mr]:=λj S U=>by simp;exact⟨S,U⟩
  have F:hat l (a.add (k*1))=some (vu c[k]):=o.hat (by
    rw[show(a.add (k*1)).block=a.block by unfold Addr.add;split<;>rfl]
    exact r _ (y _ v).2.1 (y _ v).2.2) Y
  refine⟨a,u,⟨by omega,g⟩,_,by rw[show Int.toNat (k:Int)=k by omega];exact F,_,by rw[aI (o.get (r _ p7.symm p9.symm) V)];rfl,?_⟩
  have H:=Z.keep o (λi K=>by simp at K;rcases K with rfl | rfl<;>assumption)
  refine FC.of (DU func123 (by kernel_rfl) rfl) (HC.mono (uK H ok (o.get (r _ p6.symm p8.symm) R) t (I _ (CS q)) (by have:=t.len;omega) (by have:=o.size;omega)) ?_)
  rintro _ A2 ⟨rfl,O,N,P,E⟩
  have hw:IntKind.wrap .i64 ((k:Int)+1)=((k+1:Nat):Int):=by rw[xT (n:=(k:Int)+1) (by omega)];omega
  rw[hw]
  have X:=t.at
  refine⟨⟨k+1,rfl,by omega,o.trans' P (λ_ h _=>h) (λj G hl=>?_),O,?_,λj G=>?_⟩,by show((m:Int)-((k+1:Nat):Int)).toNat< ((m:Int)-(k:Int)).toNat;omega⟩
  · rcases CM.1 G with h | h
    · exact h
    · have:=d j h;omega
  · rw[Db q,D5];exact N
  · rcases E j G with h | h
    · exact d j h
    · have:=o.size;omega
def mY(w:Int)(p:Int×Int):Bool:=decide (w % 8≠2\/p.1>Aj w)
def visL(w:Int)(l:List (Int×Int)):List Int:=(l.filter (mY w)).map Prod.snd
theorem wm(w:Int)(l:List (Int×Int)){p:Int×Int}(h:mY w p=true):visL w (l++[p])=visL w l++[p.2]:=by
  unfold visL;rw[D7,EI h,C7];rfl
theorem xt(w:Int)(l:List (Int×Int)){p:Int×Int}(h: ¬mY w p=true):visL w (l++[p])=visL w l:=by
  unfold visL;rw[D7,EA h];simp
def jC(m:Mem)(L:List Int)(i:Nat):List Int:=match L[i]? with | none=>L | some w=>(visL w (bP m w)).foldl (zl m) L
def bZ(m:Mem)(roots:List Int):Nat->List Int
  | 0=>roots.foldl (zl m) []
  | i+1=>jC m (bZ m roots i) i
theorem CmAt.keep{A e:zV}{b3 b4 mr n0:Nat}{L:List Int}{T S:List Nat}(h:CmAt d A b3 b4 mr n0 L T)(f:Fr S A e)(a:b3 ∉ S/\b4 ∉ S/\mr ∉ S)(p: ∀j∈T,j ∉ S):CmAt d e b3 b4 mr n0 L T:=by
  obtain⟨l,k,s,m,n,o⟩:=h.map
  obtain⟨B,c,q,r,rfl,i⟩:=h.lst
  exact⟨f.get a.1 h.num,⟨l,k,s,f.get a.2.2 m,n,o⟩,⟨B,c,f.get a.2.1 q,r.keep f p,rfl,λj g=>⟨(i j g).1,by have:=(i j g).2;have:=f.size;omega⟩⟩,h.ne,h.nod,h.pos⟩
section
variable {A:zV} {b:Blk} {x:Hp} {b0 b3 b4 b5 mr n0:Nat} {L:List Int} {T:List Nat} {w:Int}
theorem uL{H f:zV}{v:Int}{K:zv}(p:HpAt H b x)(s:SpOK x.sp)(l:H[b0]?=some (.cells #[vp (some ⟨b.h,0,none⟩)] 23 (0,0)))
    (m:H[b5]?=some (.cells #[.func (.func 123) #[] #[Vq (Addr.mk b0 0 none),Vq (Addr.mk b3 0 none),Vq (Addr.mk b4 0 none)]] 198 (0,0)))
    (C:CmAt x.sp.mem H b3 b4 mr n0 L T) (q:aD v) (hn:n0<=H.size) (c:Ext H f)
    (n: ∀r d e,CmAt x.sp.mem d b3 b4 mr n0 (zl x.sp.mem L v) e->Fr ([b4,mr]++T) H d->(∀j∈e,j∈T\/H.size<=j)->K r d):
    ∃a:Value,hat f (Addr.mk b5 0 none)=some (a)/\FC prog a #[vu v] f K:=by
  have t:=c.size
  refine⟨_,by rw[aI (c.get m)];rfl,?_⟩
  refine FC.of (DU func123 (by kernel_rfl) rfl) (HC.mono (uK (p.ext c) s (c.get l) (C.ext c) q (by have:=C.len;omega) (by omega)) ?_)
  rintro _ d ⟨rfl,e,i,k,g⟩
  refine n _ _ e i (c.fr.trans k) (λj o=>?_)
  rcases g j o with h | h
  · exact .inl h
  · right;omega
theorem xu{D c f:zV}{a z:Nat}{l:LoopState->Option Code->Obj}{m n U:List Nat}{v:List Int}(M:D.size<=c.size)(J:Fr [a] D c)(N:z<=D.size)(t:a<D.size/\a ∉ m/\a≠b3/\a≠b4/\a≠mr)(q:c[a]?=some (l .busy none))(o: ∀j∈m,j∈T\/j∈U)(K: ∀j∈U,z<=j)
    (C:CmAt x.sp.mem f b3 b4 mr n0 v n) (B:Fr ([b4,mr]++m) c f) (p: ∀j∈n,j∈m\/c.size<=j):
    f[a]?=some (l .busy none)/\ ∃s:List Nat,((aM f a (l .ready none))[a]?=some (l .ready none)/\(∀j∈s,z<=j)/\ ∃y:List Nat,CmAt x.sp.mem (aM f a (l .ready none)) b3 b4 mr n0 v y/\ ∀j∈y,j∈T\/j∈s)/\
      Fr (([a,b4,mr]++T)++U) D (aM f a (l .ready none))/\ ∀j∈s,j∈U\/D.size<=j:=by
  obtain⟨O,F,P,Q,R⟩:=t
  have u:a ∉ [b4,mr]++m:=λh=>by
    rcases CM.1 h with h | h
    · simp at h;omega
    · exact F h
  have G:=B.get u q
  have E:Fr [a] f (aM f a (l .ready none)):=Fr.set
  have g: ∀j∈n,j≠a:=λj d e=>by
    rcases p j d with h | h
    · exact F (e▸h)
    · omega
  refine⟨G,n.filter (λj=>decide (D.size<=j))++U,⟨aT (aS G),λj d=>?_,n,C.keep E ⟨by simp;omega,by simp;omega,by simp;omega⟩ (λj d=>by simp;exact g j d),λj d=>?_⟩,?_,λj d=>?_⟩
  · rcases CM.1 d with h | h
    · have r:=(Dm.1 h).2
      rw[CN]at r;omega
    · exact K j h
  · rcases p j d with h | h
    · rcases o j h with h | h
      · exact .inl h
      · exact .inr (Du _ h)
    · exact .inr (Dg _ (Dm.2 ⟨d,by rw[CN];omega⟩))
  · have H:Fr (([a,b4,mr]++T)++U) D c:=J.mono (λi k _=>by simp at k;simp[k])
    have I:Fr (([a,b4,mr]++T)++U) c f:=B.mono (λi k _=>by
      rcases CM.1 k with h | h
      · simp at h;rcases h with h | h<;>simp[h]
      · rcases o i h with h | h<;>simp[h])
    exact(H.trans I).trans (E.mono (λi k _=>by simp at k;simp[k]))
  · rcases CM.1 d with h | h
    · have r:=(Dm.1 h).2
      rw[CN]at r;exact .inr r
    · exact .inl h
theorem xv{D:zV}{k iA f:Nat}{a v:Int}{s:LoopState->Option Code->Obj}{T1:List Nat}{E:List Int}{K:zv}(hp:HpAt D b x)(ok:SpOK x.sp)(h0:D[b0]?=some (.cells #[vp (some ⟨b.h,0,none⟩)] 23 (0,0)))
    (h5:D[b5]?=some (.cells #[.func (.func 123) #[] #[Vq (Addr.mk b0 0 none),Vq (Addr.mk b3 0 none),Vq (Addr.mk b4 0 none)]] 198 (0,0)))
    (C:CmAt x.sp.mem D b3 b4 mr n0 E T1) (hk:E[k]?=some w) (hw:aD w) (hv:aD v) (hi:D[iA]?=some (.cells #[vi (k:Int)] 3 (0,0)))
    (ql:D[f]?=some (s .ready none)) (hl:f ∉ b.all/\f ∉ T1/\f≠b0/\f≠b5/\f≠iA/\f≠b3/\f≠b4/\f≠mr) (hn:n0<=D.size)
    (hK: ∀d t L2 T2,Fr [f] D d->d.size=D.size->d[f]?=some (s .busy none)->L2=(if mY w (a,v)=true then zl x.sp.mem E v else E)->CmAt x.sp.mem t b3 b4 mr n0 L2 T2->Fr ([b4,mr]++T1) d t->(∀j∈T2,j∈T1\/d.size<=j)->t[f]?=some (s .busy none)/\K VT (aM t f (s .ready none))):
    (D[f]?=some (s .ready none)/\ ∀d:zV,d=aM D f (s .busy none)->
    ∃N:zW,∃P:Nat,∃aa:Nat,hat d (Addr.mk b4 0 none)=some (vs N P aa)/\
    ∃m:Int,hat d (Addr.mk iA 0 none)=some (vi m)/\
    ∃J:Addr,N=some J/\
    ((0:Int)<=m/\m< (P:Int))/\
    ∃R:Int,hat d (J.add (Int.toNat m*1))=some (vu R)/\
    cM.C R d (λan g=> ∃S:Int,an=vi S/\
     if S=2 then(
      ∃O:zW,∃Q:Nat,∃ab:Nat,hat g (Addr.mk b4 0 none)=some (vs O Q ab)/\
      ∃n:Int,hat g (Addr.mk iA 0 none)=some (vi n)/\
      ∃M:Addr,O=some M/\
      ((0:Int)<=n/\n< (Q:Int))/\
      ∃U:Int,hat g (M.add (Int.toNat n*1))=some (vu U)/\
      eY.C U g (λao o=> ∃V:Int,ao=vi V/\
       if a>V then(
        ∃W:Value,hat o (Addr.mk b5 0 none)=some (W)/\
        FC prog W #[vu v] o (λ_ a4=>
         a4[f]?=some (s .busy none)/\
         K VT (aM a4 f (s .ready none))))
       else
       o[f]?=some (s .busy none)/\
       K VT (aM o f (s .ready none))))
     else
     ∃X:Value,hat g (Addr.mk b5 0 none)=some (X)/\
     FC prog X #[vu v] g (λ_ a5=>
      a5[f]?=some (s .busy none)/\
      K VT (aM a5 f (s .ready none))))):=by
  obtain⟨l1,l2,l3,l4,l5,l6,l7,l8⟩:=hl
  refine⟨ql,λd l=>?_⟩
  have H:Fr [f] D d:=by rw[l];exact Fr.set
  have a2:d.size=D.size:=by rw[l];unfold aM;simp
  have u:d[f]?=some (s .busy none):=by rw[l];exact aT (aS ql)
  have ns: ∀j,f≠j->j ∉ [f]:=λj h=>by simp;exact λe=>h e.symm
  have y:=C.keep H ⟨ns _ l6,ns _ l7,ns _ l8⟩ (λj hj=>ns _ (λe=>l2 (e▸hj)))
  have a9:=H.get (ns _ l5) hi
  have G:=H.get (ns _ l4) h5
  have F:=H.get (ns _ l3) h0
  have I:=hp.keep H (λi a7 hq=>by simp at a7;exact l1 (a7▸hq))
  clear l
  have a8:k<E.length:=(List.getElem?_eq_some_iff.1 hk).1
  have ah:E[k]=w:=by rw[List.getElem?_eq_getElem a8]at hk;exact DH hk
  have rd: ∀{t:zV},Ext d t-> ∃(B:zW) (c:Nat) (pa:Addr),hat t (Addr.mk b4 0 none)=some (vs B E.length c)/\B=some pa/\hat t (pa.add (Int.toNat (k:Int)*1))=some (vu w):=λex=>by
    obtain⟨B,c,k1,k2,_,_⟩:=y.lst
    obtain⟨pa,h1,Z⟩:=mb k2.src a8
    rw[ah]at Z
    exact⟨B,c,pa,by rw[aI (ex.get k1)];rfl,h1,by rw[show Int.toNat (k:Int)=k by omega];exact ex.hat Z⟩
  obtain⟨B,c,pa,r1,r2,r3⟩:=rd (CW _)
  refine⟨B,_,c,r1,(k:Int),by rw[aI a9];rfl,pa,r2,⟨by omega,by omega⟩,w,r3,?_⟩
  refine HC.mono (fZ hw) ?_
  rintro _ g ⟨rfl,p⟩
  refine⟨_,rfl,?_⟩
  by_cases Z:w % 8=2
  · rw[qB Z]
    obtain⟨B',c',aj,ak,al,am⟩:=rd p
    refine⟨B',_,c',ak,(k:Int),by rw[aI (p.get a9)];rfl,aj,al,⟨by omega,by omega⟩,w,am,?_⟩
    refine HC.mono (ng hw) ?_
    rintro _ o ⟨rfl,Y⟩
    refine⟨_,rfl,?_⟩
    by_cases z:a>Aj w
    · rw[qB z]
      refine uL I ok F G y hv (by omega) (p.trans Y) λr t T2 C2 f2 a0=>hK d t _ T2 H a2 u ?_ C2 f2 a0
      rw[qB (by unfold mY;rw[CN];exact .inr z)]
    · rw[za z]
      refine hK d o E T1 H a2 u ?_ (y.ext (p.trans Y)) (p.trans Y).fr (λj hj=> .inl hj)
      rw[za (by unfold mY;rw[CN];intro q;rcases q with q | q;exact q Z;exact z q)]
  · rw[za Z]
    refine uL I ok F G y hv (by omega) p λr t T2 C2 f2 a0=>hK d t _ T2 H a2 u ?_ C2 f2 a0
    rw[qB (by unfold mY;rw[CN];exact .inl Z)]
theorem um{k iA:Nat}{Kp:(LoopState->Option Code->Obj)->Nat->zV->zV->Prop}(hp:HpAt A b x)(ok:SpOK x.sp)(hb: ∀j∈b.all,j<n0)(h0:A[b0]?=some (.cells #[vp (some ⟨b.h,0,none⟩)] 23 (0,0)))
    (h5:A[b5]?=some (.cells #[.func (.func 123) #[] #[Vq (Addr.mk b0 0 none),Vq (Addr.mk b3 0 none),Vq (Addr.mk b4 0 none)]] 198 (0,0)))
    (bd:b0<n0/\b5<n0/\n0<=A.size/\b4 ∉ b.all/\mr ∉ b.all/\b4≠b0/\b4≠b5/\mr≠b0/\mr≠b5) (C:CmAt x.sp.mem A b3 b4 mr n0 L T) (hk:L[k]?=some w) (hw:aD w)
    (hi:A[iA]?=some (.cells #[vi (k:Int)] 3 (0,0))) (aj:iA ∉ T/\n0<=iA)
    (hK: ∀g c f t M,CmAt x.sp.mem t b3 b4 mr n0 ((visL w (bP x.sp.mem w)).foldl (zl x.sp.mem) L) M->A.size<=f.size->c=f.size+1->t[f.size]?=some (.deferred (some []))->t[c]?=some (g .ready none)->f.size ∉ M->c ∉ M->Fr ([b4,mr]++T) A t->(∀j∈M,j∈T\/A.size<=j)->Kp g c f t):
    bT.C (some ⟨b.h,0,none⟩) w A (λaa f=>aa=aa/\
   ∀(g:LoopState->Option Code->Obj) (c:Nat) (d:zV),c=f.size+1->d=(f.push (.deferred (some []))).push (g .ready none)->
   ∀vY:Value,(∀(an:Int) (ab:Int) (B:zV) (I:zv),B[c]?=some (g .ready none)->
   (B[c]?=some (g .ready none)/\ ∀p:zV,p=aM B c (g .busy none)->
    ∃V:zW,∃X:Nat,∃al:Nat,hat p (Addr.mk b4 0 none)=some (vs V X al)/\
    ∃n:Int,hat p (Addr.mk iA 0 none)=some (vi n)/\
    ∃Q:Addr,V=some Q/\
    ((0:Int)<=n/\n< (X:Int))/\
    ∃Z:Int,hat p (Q.add (Int.toNat n*1))=some (vu Z)/\
    cM.C Z p (λbi r=> ∃a0:Int,bi=vi a0/\
     if a0=2 then(
      ∃W:zW,∃Y:Nat,∃am:Nat,hat r (Addr.mk b4 0 none)=some (vs W Y am)/\
      ∃o:Int,hat r (Addr.mk iA 0 none)=some (vi o)/\
      ∃R:Addr,W=some R/\
      ((0:Int)<=o/\o< (Y:Int))/\
      ∃a1:Int,hat r (R.add (Int.toNat o*1))=some (vu a1)/\
      eY.C a1 r (λbj E=> ∃a2:Int,bj=vi a2/\
       if an>a2 then(
        ∃a3:Value,hat E (Addr.mk b5 0 none)=some (a3)/\
        FC prog a3 #[vu ab] E (λ_ af=>
         af[c]?=some (g .busy none)/\
         I VT (aM af c (g .ready none))))
       else
       E[c]?=some (g .busy none)/\
       I VT (aM E c (g .ready none))))
     else
     ∃a4:Value,hat r (Addr.mk b5 0 none)=some (a4)/\
     FC prog a4 #[vu ab] r (λ_ ag=>
      ag[c]?=some (g .busy none)/\
      I VT (aM ag c (g .ready none)))))->
   FC prog vY #[vi an,vu ab] B I)->
   FE prog aa #[vY] d (λ_ av=>Kp g c f av)):=by
  obtain⟨q0,q5,qn,p4,p5,p6,p7,p8,p9⟩:=bd
  obtain⟨⟨n1,n2,n3⟩,n4,n5,n6⟩:=C.ne
  have F:=C.at
  have c6:=aS hi
  refine bT.link ?_
  unfold bT.pt
  intro c0 H1 b9 a5 c1 y ba a6
  have e1:Ext A H1:=CI a5
  have e2:Ext H1 y:=CI a6
  have z1:H1.size=A.size+1:=by rw[a5];simp
  have z2:y.size=H1.size+1:=by rw[a6];simp
  refine⟨rfl,λg c d bc m vY hY=>?_⟩
  have e3:Ext y d:=(CI rfl).trans (CI m)
  have z3:d.size=y.size+2:=by rw[m];simp
  have ah:d[y.size]?=some (.deferred (some [])):=by
    have:(y.push (.deferred (some [])))[y.size]?=some (.deferred (some [])):=aF rfl rfl
    exact(CI m).get this
  have aV:d[c]?=some (g .ready none):=aF (by simp;omega) m
  have e:=(e1.trans e2).trans e3
  have u: ∀j,j∈[c,b4,mr]++T->j=c\/j=b4\/j=mr\/(n0<=j/\j<A.size):=λj G=>by
    rcases CM.1 G with h | h
    · simp at h;omega
    · exact .inr (.inr (.inr (F j h)))
  have iS:iA ∉ [c,b4,mr]++T:=λh=>by
    rcases CM.1 h with h | h
    · simp at h;omega
    · exact aj.1 h
  have dS:y.size ∉ [c,b4,mr]++T:=λh=>by have:=u _ h;omega
  have az:b5 ∉ [c,b4,mr]++T:=λh=>by have:=u _ h;omega
  have ax:b0 ∉ [c,b4,mr]++T:=λh=>by have:=u _ h;omega
  refine FE.of2 (DU func138 (by kernel_rfl) rfl) rfl (oL (w:=w) (S:=[c,b4,mr]++T)
    (J:=λl U D=>D[c]?=some (g .ready none)/\(∀j∈U,d.size<=j)/\ ∃N,CmAt x.sp.mem D b3 b4 mr n0 ((visL w l).foldl (zl x.sp.mem) L) N/\ ∀j∈N,j∈T\/j∈U)
    (hp.ext e) ok ((e2.trans e3).get (aF b9 a5)) (e3.get (aF ba a6)) hw (λi a7=>by
      have h:=u i a7
      refine⟨λH=>?_,by omega,by omega⟩
      have:=hb i H
      rcases h with h | h | h | h
      · omega
      · exact p4 (h▸H)
      · exact p5 (h▸H)
      · omega) (λl U D D' ⟨h1,h2,N,h3,h4⟩ ee=>⟨ee.get h1,h2,N,h3.ext ee,h4⟩) (λl U D h j G=>h.2.1 j G)
    (λa9 a v bs U D ai O hJ=>?_) ⟨aV,by simp,T,C.ext e,λj G=> .inl G⟩ (λU D hJ O=>?_))
  · obtain⟨ql,hU,N,C1,s⟩:=hJ
    have bf:aD v:=by
      have hm:(a,v)∈bP x.sp.mem w:=by rw[ai];simp
      unfold bP at hm
      split at hm
      · cases hm
      · obtain⟨i,_,H⟩:=CT.1 hm
        cases H
        exact DY ok.mem _
    have z0:=O.size
    have P: ∀j∈N,j≠c/\j≠iA/\j≠y.size:=λj G=>by
      rcases s j G with h | h
      · have:=F j h
        exact⟨by omega,λq=>aj.1 (q▸h),by omega⟩
      · have:=hU j h;omega
    have be:=(hp.ext e).keep O (λi a7 H=>by
      have h:=u i a7
      have:=hb i H
      rcases h with h | h | h | h
      · omega
      · exact p4 (h▸H)
      · exact p5 (h▸H)
      · omega)
    have iD:=O.get iS (e.get hi)
    have ay:=O.get az (e.get h5)
    have aw:=O.get ax (e.get h0)
    have bg:c ∉ b.all:=λq=>by have:=hb c q;omega
    refine(show∀K:zv,(∀t,(∃M:List Nat,(t[c]?=some (g .ready none)/\(∀j∈M,d.size<=j)/\ ∃T3:List Nat,CmAt x.sp.mem t b3 b4 mr n0 ((visL w (a9++[(a,v)])).foldl (zl x.sp.mem) L) T3/\ ∀j∈T3,j∈T\/j∈M)/\
        Fr (([c,b4,mr]++T)++U) D t/\ ∀j∈M,j∈U\/D.size<=j)->K VT t)->FC prog vY #[vi a,vu v] D K from λK b1=>hY a v D K ql (xv (K:=K) be ok aw ay C1 (nh x.sp.mem (visL w a9) L hk) hw bf iD ql ⟨bg,λq=>(P c q).1 rfl,by omega,by omega,by omega,by omega,by omega,by omega⟩ (by omega) (λp Hx L2 T2 g5 gz gq b2 C2 f2 b7=>?_))) _ (λt h=> .inl ⟨rfl,h⟩)
    have b6:L2=(visL w (a9++[(a,v)])).foldl (zl x.sp.mem) L:=by
      rw[b2]
      split
      · rename_i hg;rw[wm _ _ hg,D5];rfl
      · rename_i hg;rw[xt _ _ hg]
    obtain⟨d1,d2⟩:=xu (z:=d.size) (by omega) g5 (by omega) ⟨aS ql,λq=>(P c q).1 rfl,by omega,by omega,by omega⟩ gq s hU C2 f2 b7
    rw[b6]at d2
    exact⟨d1,b1 _ d2⟩
  · obtain⟨ql,hU,N,C1,s⟩:=hJ
    refine hK g c y D N C1 (by omega) bc (O.get dS ah) ql (λh=>?_) (λh=>?_) (e.fr.trans' O (λi hi _=>hi) (λi hi hl=>?_)) (λj G=>?_)
    · rcases s _ h with q | q
      · have:=F _ q;omega
      · have:=hU _ q;omega
    · rcases s _ h with q | q
      · have:=F _ q;omega
      · have:=hU _ q;omega
    · rcases CM.1 hi with h | h
      · simp at h
        rcases h with h | h | h
        · omega
        · simp[h]
        · simp[h]
      · exact Du _ h
    · rcases s _ G with q | q
      · exact .inl q
      · have:=hU _ q;right;omega
end
end Go.Proofs.YtfhbhckhmnleoaaGreat
namespace Go.Proofs.YtfhbhckhmnleoaaGreat
open Go
def BS(ks:List (Int×Value))(w:Int):Int:=match(yG ks w).getD (vi 0)with | .int .i64 n=>n | _=>0
def mF(ks:List (Int×Value))(w:Int):Int:=
  if w % 8=5\/w % 8=6 then 1 else if(w % 8=1\/w % 8=2\/w % 8=3)/\yU w=true/\BS ks w=0 then 18 else if yU w=true then 0 else 1
set_option maxRecDepth 100000 in
theorem xx{A:zV}{B:Nat}{p:Array MapEntry}{x:Nat}{f:List (Int×Value)}{w:Int}(hm:A[B]?=some (.map p x))(P:vb (aY .u64) p.toList f)(S: ∀w,∃n:Int,(yG f w).getD (vi 0)=vi n)(z:aD w):
    fK.C w (some B) A (λv N=>v=vi (mF f w)/\Ext A N):=by
  refine HC.via λR l=>fK.link ?_
  unfold fK.pt
  obtain⟨n,hn⟩:=S w
  have L:BS f w=n:=by unfold BS;rw[hn]
  refine HC.mono (fZ z) ?_
  rintro _ O ⟨rfl,h⟩
  refine⟨_,rfl,?_⟩
  by_cases G:w % 8=5
  · rw[qB G];exact l _ _ ⟨by unfold mF;rw[qB (.inl G)],h⟩
  rw[za G]
  by_cases H:w % 8=6
  · rw[qB H];exact l _ _ ⟨by unfold mF;rw[qB (.inr H)],h⟩
  rw[za H]
  have c: ¬(w % 8=5\/w % 8=6):=by omega
  have b:(w % 8=1\/w % 8=2\/w % 8=3)->dX.C w O (λI g=> ∃s:Bool,I=.bool s/\
    if s=true then(
     ∃j:Nat,(some B:Option Nat)=some j/\
     ∃(p:Array MapEntry) (x:Nat) (f:List (Int×Value)),g[j]?=some (.map p x)/\vb (aY .u64) p.toList f/\
     ∃t:Int,(yG f w).getD (vi 0)=vi t/\
     if t=0 then(
      R (vi 18) g)
     else
     dX.C w g (λo k=> ∃d:Bool,o=.bool d/\
      if d=true then(
       R (vi 0) k)
      else
      R (vi 1) k))
    else
    dX.C w g (λJ K=> ∃u:Bool,J=.bool u/\
     if u=true then(
      R (vi 0) K)
     else
     R (vi 1) K)):=λQ=>by
    refine HC.mono (lP z) ?_
    rintro _ g ⟨rfl,y⟩
    refine⟨_,rfl,?_⟩
    have i: ∀{g:zV},Ext A g-> ¬(yU w=true/\BS f w=0)->dX.C w g (λo k=> ∃d:Bool,o=.bool d/\
      if d=true then(
       R (vi 0) k)
      else
      R (vi 1) k):=λe M=>by
      refine HC.mono (lP z) ?_
      rintro _ k ⟨rfl,r⟩
      refine⟨_,rfl,?_⟩
      by_cases a:yU w=true
      · rw[qB a];exact l _ _ ⟨by unfold mF;rw[za c,za (λq=>M q.2),qB a],e.trans r⟩
      · rw[za a];exact l _ _ ⟨by unfold mF;rw[za c,za (λq=>M q.2),za a],e.trans r⟩
    by_cases a:yU w=true
    · rw[qB a]
      refine⟨B,rfl,p,x,f,(h.trans y).get hm,P,n,hn,?_⟩
      by_cases m:n=0
      · rw[qB m];exact l _ _ ⟨by unfold mF;rw[za c,qB ⟨Q,a,by omega⟩],h.trans y⟩
      · rw[za m];exact i (h.trans y) (λq=>m (by omega))
    · rw[za a];exact i (h.trans y) (λq=>a q.1)
  by_cases D:w % 8=1
  · rw[qB D];exact b (.inl D)
  rw[za D]
  by_cases E:w % 8=2
  · rw[qB E];exact b (.inr (.inl E))
  rw[za E]
  by_cases F:w % 8=3
  · rw[qB F];exact b (.inr (.inr F))
  rw[za F]
  refine HC.mono (lP z) ?_
  rintro _ k ⟨rfl,r⟩
  refine⟨_,rfl,?_⟩
  by_cases a:yU w=true
  · rw[qB a];exact l _ _ ⟨by unfold mF;rw[za c,za (by omega),qB a],h.trans r⟩
  · rw[za a];exact l _ _ ⟨by unfold mF;rw[za c,za (by omega),za a],h.trans r⟩
end Go.Proofs.YtfhbhckhmnleoaaGreat
namespace Go.Proofs.YtfhbhckhmnleoaaGreat
open Go
open Go.ChangeShapes Go.WideShapes
structure kx where
 tag:Int
 type:Int
 more:Int
 words:Sl Int
 is:Sl Int
abbrev kx.cells(rr:kx):List Value:=[vi rr.tag,vi rr.type,vu rr.more,vs rr.words.p rr.words.n rr.words.c,vs rr.is.p rr.is.n rr.is.c]
theorem jP{A a A3:zV}{b:Nat}{c:Array Value}{T:TypeId}(j:b=A.size)(d:a=A.push (.cells c T (0,0)))(vs:List Value)(l:vs.length=c.size):
  aH a (Addr.mk b 0 none) 0 vs.length/\(A3=aP a (Addr.mk b 0 none) vs 0->A3[b]?=some (.cells (splice c 0 vs) T (0,0))/\Ext A A3):=by
 have g:=aF j d
 have e:Ext A a:=CI d
 refine⟨cR g _ _ _ (by omega),λh=>?_⟩
 rw[bY vs a c 0 0 g]at h
 rw[h]
 have f:Fr [b] a (aM a b (.cells (splice c (0+0) vs) T (0,0))):=Fr.set
 exact⟨aT (aS g),e.fr_trans f (λi k=>by simp at k;omega)⟩
def AF(x:kx):Int×Int×Int×List Int×List Int:=(x.tag,x.type,x.more,x.words.xs,x.is.xs)
end Go.Proofs.YtfhbhckhmnleoaaGreat
namespace Go.Proofs.YtfhbhckhmnleoaaGreat
open Go Go.Proofs.Tryz
variable{d j:Nat}{H r:zV}{i:List Int}{k:Hp}{o:List (Int×Int)}
theorem wn{q:zW}(l:dO H q (yE i))(hn:d=i.length)(x:d<=1000000):
  aW.C q d j H (λv r=> ∃(B:zW) (c:Nat),v=vs B i.length c/\Own r 28 1 B i.length c (yE i)/\(∀A∈kd B,H.size<=A)/\Ext H r):=by
 refine HC.via λR t=>aW.link ?_
 unfold aW.pt
 subst hn
 cases q with
 | none=>
  rw[CP]
  rw[DF]at l
  have:i=[]:=by unfold yE at l;simpa using l
  subst this
  exact t _ _ ⟨none,0,rfl,gI,by simp,CW _⟩
 | some a=>
  rw[CK]
  intro b s n e
  have m:Ext H s:=CI e
  have u:Own s 28 1 (some ⟨b,0,none⟩) 0 0 []:=⟨rfl,_,aF n e,rfl,CU _,rfl,λA y=>by omega⟩
  refine cI (ys:=yE i) u (m.rowAt l) (by simp[yE]) (gO _) rfl (by omega) ?_
  intro p c w k f g
  rw[CQ]at k⊢
  refine t _ _ ⟨p,c,rfl,by simpa using k,λz o=>?_,m.fr_trans f (λz o=>by simp at o;omega)⟩
  rcases g z o with h | h
  ·simp at h;omega
  ·have:=m.size;omega
def gG(roots syms:List Int)(es:List (Int×Int)):List Int:=roots++syms++es.flatMap λe=> [e.1,e.2]
structure oM (H:zV) (b:Blk) (x:Hp) (syms:List Int) (es:List (Int×Int)):Prop where
 sy: ∃(B:zW) (c:Nat),x.sy=vs B syms.length c/\dO H B (yE syms)
 en: ∃(B:zW) (c:Nat),x.en=vs B es.length c/\ ∀i (h:i<es.length),∃a,B=some a/\aL H (a.add (i*2)) 0 [vu es[i].1,vu es[i].2]
 len:syms.length<=1000000/\es.length<=1000000
theorem oM.ext{b:Blk}{syms:List Int}(h:oM H b k syms o)(e:Ext H r):oM r b k syms o:=by
 obtain⟨B,c,j,l⟩:=h.sy
 obtain⟨D,d,n,p⟩:=h.en
 exact⟨⟨B,c,j,l.ext e⟩,⟨D,d,n,λi m=>by obtain⟨a,f,g⟩:=p i m;exact⟨a,f,e.rowAt g⟩⟩,h.len⟩
theorem tu{roots syms:List Int}(h:d<o.length):gG roots syms (o.take (d+1))=gG roots syms (o.take d)++[o[d].1,o[d].2]:=by
 unfold gG
 rw[Db h,DQ];simp
theorem wo{b:Blk}{rB:zW}{roots syms:List Int}(hp:HpAt H b k)(S:oM H b k syms o)(hr:dO H rB (yE roots))(x:d=roots.length)(N:d<=1000000):
  iJ.C (some ⟨b.h,0,none⟩) rB d j H (λv T=> ∃(B:zW) (c:Nat),v=.slice B (gG roots syms o).length c/\Own T 28 1 B (gG roots syms o).length c (yE (gG roots syms o))/\(∀bb∈kd B,H.size<=bb)/\Ext H T):=by
 refine HC.via λR hR=>iJ.link ?_
 unfold iJ.pt zY
 obtain⟨S1,S2,S3⟩:=S
 obtain⟨yB,yC,y1,y2⟩:=S1
 obtain⟨eB,eC,n1,n2⟩:=S2
 refine HC.mono (wn hr x N) ?_
 rintro _ H1 ⟨B,c,rfl,o1,hB,A⟩
 refine⟨B,_,c,rfl,?_⟩
 rw[CK]
 have L:=hp.ext A
 have z1:=A.size
 have g1:hat H1 ((Addr.mk b.h 0 none).add 1)=some k.sy:=fG L.h 1
 refine⟨yB,syms.length,yC,by rw[g1,y1],?_⟩
 subst x
 refine cI (ys:=yE syms) o1 (y2.ext A) (by simp[yE]) (gO _) rfl (by omega) ?_
 intro p2 c2 V o2 f2 J
 have U:Ext H V:=A.fr_trans f2 hB
 have M:=hp.ext U
 have g2:hat V ((Addr.mk b.h 0 none).add 2)=some k.en:=fG M.h 2
 have w: ∀bb∈kd p2,H.size<=bb:=λbb I=>by
  rcases J bb I with h | h
  ·exact hB bb h
  ·omega
 have ew:yE roots++yE syms=yE (roots++syms):=by unfold yE;rw[C7]
 rw[ew]at o2
 have ol: ∀bc,(gG roots syms (o.take bc)).length<=4000000:=λbc=>by
  have h1: ∀l:List (Int×Int),(l.flatMap λe=> [e.1,e.2]).length=2*l.length:=λl=>by
   induction l with
   | nil=>rfl
   | cons a l ih=>rw[List.flatMap_cons,CV,ih];simp;omega
  unfold gG
  rw[CV,CV,h1,Di];omega
 refine⟨eB,o.length,eC,by rw[g2,n1],λD P O s z=> ∃bc:Nat,s=bc/\bc<=o.length/\P=(gG roots syms (o.take bc)).length/\Own z 28 1 D P O (yE (gG roots syms (o.take bc)))/\(∀bb∈kd D,H.size<=bb)/\Ext H z,λ_ _ _ s _=>((o.length:Int)-s).toNat,
  ⟨0,rfl,by omega,by rw[List.take_zero];simp[gG],by rw[List.take_zero];simpa[gG]using o2,w,U⟩,?_⟩
 rintro D P O _ z ⟨bc,rfl,hk,m,Q,i,y⟩
 by_cases p:(bc:Int)< (o.length:Int)
 case neg=>
  rw[za p]
  rw[De (by omega)]at Q m
  subst m
  exact hR _ _ ⟨D,O,rfl,Q,i,y⟩
 rw[qB p]
 have g:bc<o.length:=by omega
 obtain⟨a,ha,row⟩:=n2 bc g
 refine⟨a,ha,⟨by omega,p⟩,o[bc].1,o[bc].2,by rw[show Int.toNat (bc:Int)=bc by omega];exact y.rowAt row,λY W F r=>?_⟩
 have e4:Ext z W:=CI r
 obtain⟨c4,s4⟩:=jP (A3:=aP W (Addr.mk Y 0 none) [vu o[bc].1,vu o[bc].2] 0) F r [vu o[bc].1,vu o[bc].2] rfl
 refine⟨c4,λX E=>?_⟩
 obtain⟨g5,Z⟩:=s4 rfl
 rw[<-E]at g5 Z
 have q:X[Y]?=some (.cells #[vu o[bc].1,vu o[bc].2] 36 (0,0)):=g5
 refine⟨_,by rw[aI q];rfl,_,fG q 1,λb6 H6 G t=>?_⟩
 have e6:Ext X H6:=CI t
 have f:=Z.trans e6
 have b1:=f.size
 have b2:=y.size
 have:=ol bc
 refine cI (ys:=yE [o[bc].1,o[bc].2]) (Q.ext f) (kl (aF G t)) rfl (gO _) rfl (by omega) ?_
 intro p7 c7 H7 o7 f7 K
 have hw:IntKind.wrap .i64 ((bc:Int)+1)=((bc+1:Nat):Int):=by rw[xT (n:=(bc:Int)+1) (by omega)];omega
 rw[hw]
 have u:=tu (roots:=roots) (syms:=syms) g
 refine⟨⟨bc+1,rfl,g,by rw[u,CV,m];rfl,?_,λbb I=>?_,(y.trans f).fr_trans f7 i⟩,by show((o.length:Int)-((bc+1:Nat):Int)).toNat< ((o.length:Int)-(bc:Int)).toNat;omega⟩
 ·have e:yE (gG roots syms (o.take (bc+1)))=yE (gG roots syms (o.take bc))++yE [o[bc].1,o[bc].2]:=by rw[u];unfold yE;rw[C7]
  rw[e];exact o7
 ·rcases K bb I with h | h
  ·exact i bb h
  ·omega
def fB(ws:List Int)(w:Int):Int:=
  if w % 8=5\/w % 8=6 then 1 else if(w % 8=1\/w % 8=2\/w % 8=3)/\yU w=true/\w ∉ ws then 18 else if yU w=true then 0 else 1
structure IsMap (A:zV) (mr:Nat) (ws:List Int):Prop where
  map: ∃(es:Array MapEntry) (cl:Nat) (ks:List (Int×Value)),A[mr]?=some (.map es cl)/\vb (aY .u64) es.toList ks/\ ∀w,(w∈ws-> ∃n:Int,n≠0/\yG ks w=some (vi n))/\(w ∉ ws->yG ks w=none)
theorem IsMap.keep{S:List Nat}(h:IsMap H d i)(f:Fr S H r)(hm:d ∉ S):IsMap r d i:=by
  obtain⟨b,a,j,c,e,g⟩:=h.map
  exact⟨b,a,j,f.get hm c,e,g⟩
theorem IsMap.ext{ws:List Int}(h:IsMap H d ws)(e:Ext H r):IsMap r d ws:=h.keep (S:=[]) e.fr (by simp)
theorem IsMap.lt(h:IsMap H d i):d<H.size:=by
  obtain⟨c,b,g,a,e,f⟩:=h.map
  exact aS a
theorem IsMap.fault{w:Int}(h:IsMap H d i)(j:aD w):fK.C w (some d) H (λv c=>v=vi (fB i w)/\Ext H c):=by
  obtain⟨m,l,k,f,g,b⟩:=h.map
  refine HC.mono (xx f g (λu=>?_) j) ?_
  · by_cases a:u∈i
    · obtain⟨n,_,e⟩:=(b u).1 a
      exact⟨n,by rw[e];rfl⟩
    · exact⟨0,by rw[(b u).2 a];rfl⟩
  · rintro _ c ⟨rfl,e⟩
    refine⟨?_,e⟩
    have q:BS k w=0 ↔ w ∉ i:=by
      unfold BS
      by_cases a:w∈i
      · obtain⟨n,hn,e⟩:=(b w).1 a
        rw[e]
        exact⟨λh=>absurd h hn,λh=>absurd a h⟩
      · rw[(b w).2 a]
        exact⟨λ_=>a,λ_=>rfl⟩
    unfold mF fB
    simp only[q]
theorem xy{G E b:Nat}{a v x1 x2:Int}{l:LoopState->Option Code->Obj}{K:zv}
    (O:H[d]?=some (.cells #[vi x1] 3 (0,0))) (P:H[j]?=some (.cells #[vi x2] 24 (0,0))) (Q:H[G]?=some (.cells #[.map (some E)] 149 (0,0))) (M:IsMap H E i) (U:aD v) (J:H[b]?=some (l .ready none)) (T:b≠d/\b≠j/\b≠G/\b≠E/\d≠j)
    (S:fB i v=0-> ∀s,s[b]?=some (l .ready none)->Fr [b] H s->K VT s)
    (R:fB i v≠0-> ∀s,s[b]?=some (l .done (some .ret))->s[d]?=some (.cells #[vi a] 3 (0,0))->s[j]?=some (.cells #[vi (fB i v)] 24 (0,0))->Fr [d,j,b] H s->K VF s):
       (H[b]?=some (l .ready none)/\ ∀g:zV,g=aM H b (l .busy none)->
        ∃u:Option Nat,hat g (Addr.mk G 0 none)=some (.map u)/\
        fK.C v u g (λI c=> ∃r:Int,I=vi r/\
         if r=0 then(
          c[b]?=some (l .busy none)/\
          K VT (aM c b (l .ready none)))
         else
         (aH c (Addr.mk d 0 none) 0 1)/\ ∀m:zV,m=aP c (Addr.mk d 0 none) [vi a] 0->
         (aH m (Addr.mk j 0 none) 0 1)/\ ∀f:zV,f=aP m (Addr.mk j 0 none) [vi r] 0->
         f[b]?=some (l .busy none)/\
         K VF (aM f b (l .done (some .ret))))):=by
  obtain⟨X,Z,l4,l5,Y⟩:=T
  refine⟨J,λg o=>?_⟩
  have y:Fr [b] H g:=by rw[o];exact Fr.set
  have t:g[b]?=some (l .busy none):=by rw[o];exact aT (aS J)
  have F: ∀a7,b≠a7->a7 ∉ [b]:=λa7 h=>by simp;exact λe=>h e.symm
  clear o
  refine⟨some E,by rw[aI (y.get (F _ l4) Q)];rfl,HC.mono ((M.keep y (F _ l5)).fault U) ?_⟩
  rintro _ c ⟨rfl,k⟩
  refine⟨_,rfl,?_⟩
  by_cases D:fB i v=0
  · rw[qB D]
    have q:=k.get t
    have z:Fr [b] c (aM c b (l .ready none)):=Fr.set
    exact⟨q,S D _ (aT (aS q)) ((y.trans k.fr).trans z)⟩
  rw[za D]
  obtain⟨L,s1⟩:=ko (n:=1) (vs:=[vi a]) (k.get (y.get (F _ X) O)) rfl rfl
  refine⟨L,λm A=>?_⟩
  obtain⟨V,w⟩:=s1 m A
  obtain⟨N,s2⟩:=ko (n:=1) (vs:=[vi (fB i v)]) (w.get (by simp;omega) (k.get (y.get (F _ Z) P))) rfl rfl
  refine⟨N,λf B=>?_⟩
  obtain⟨W,x⟩:=s2 f B
  have q:=x.get (by simp;omega) (w.get (by simp;omega) (k.get t))
  have z:Fr [b] f (aM f b (l .done (some .ret))):=Fr.set
  refine⟨q,R D _ (aT (aS q)) (z.get (by simp;omega) (x.get (by simp;omega) V)) (z.get (by simp;omega) W) ?_⟩
  exact(((y.mono (λa6 p _=>by simp at p;simp[p])).trans k.fr).trans (w.mono (λa6 p _=>by simp at p;simp[p]))).trans ((x.mono (λa6 p _=>by simp at p;simp[p])).trans (z.mono (λa6 p _=>by simp at p;simp[p])))
set_option maxHeartbeats 1000000 in
theorem vd{b:Blk}{b4 mr:Nat}{w x1 x2:Int}{K1 K2:zV->zV->Prop}(hp:HpAt H b k)(ok:SpOK k.sp)
    (g1:H[d]?=some (.cells #[vi x1] 3 (0,0))) (g2:H[j]?=some (.cells #[vi x2] 24 (0,0))) (g4:H[b4]?=some (.cells #[.map (some mr)] 149 (0,0))) (M:IsMap H mr i) (hw:aD w) (ae:d≠j)
    (ag:(∀p∈bP k.sp.mem w,fB i p.2=0)-> ∀n m:zV,n.size=H.size+2->m[n.size]?=some (.deferred (some []))->Ext H m->K1 n m)
    (ah: ∀P a v F,bP k.sp.mem w=P++(a,v)::F->(∀p∈P,fB i p.2=0)->fB i v≠0-> ∀n m:zV,n.size=H.size+2->m[n.size]?=some (.deferred (some []))->m[d]?=some (.cells #[vi a] 3 (0,0))->m[j]?=some (.cells #[vi (fB i v)] 24 (0,0))->Fr [d,j] H m->K2 n m):
      bT.C (some ⟨b.h,0,none⟩) w H (λa2 n=>a2=a2/\
       ∀(g:LoopState->Option Code->Obj) (c:Nat) (s:zV),c=n.size+1->s=(n.push (.deferred (some []))).push (g .ready none)->
       ∀T:Value,(∀(a3:Int) (a4:Int) (L:zV) (y:zv),L[c]?=some (g .ready none)->
       (L[c]?=some (g .ready none)/\ ∀W:zV,W=aM L c (g .busy none)->
        ∃V:Option Nat,hat W (Addr.mk b4 0 none)=some (.map V)/\
        fK.C a4 V W (λao N=> ∃G:Int,ao=vi G/\
         if G=0 then(
          N[c]?=some (g .busy none)/\
          y VT (aM N c (g .ready none)))
         else
         (aH N (Addr.mk d 0 none) 0 1)/\ ∀X:zV,X=aP N (Addr.mk d 0 none) [vi a3] 0->
         (aH X (Addr.mk j 0 none) 0 1)/\ ∀Y:zV,Y=aP X (Addr.mk j 0 none) [vi G] 0->
         Y[c]?=some (g .busy none)/\
         y VF (aM Y c (g .done (some .ret)))))->
       FC prog T #[vi a3,vu a4] L y)->
       FE prog a2 #[T] s (λ_ O=>
        (O[c]?=some (g .ready none)/\ ∀o:zV,o=aM O c (g .exhausted none)->K1 n o)\/
        (O[c]?=some (g .done (some .ret))/\ ∀o:zV,o=aM O c (g .exhausted (some .ret))->K2 n o))):=by
  refine bT.link ?_
  unfold bT.pt
  intro c0 H1 ai Z c1 I aj a0
  have e1:Ext H H1:=CI Z
  have e2:Ext H1 I:=CI a0
  have z1:H1.size=H.size+1:=by rw[Z];simp
  have z2:I.size=H1.size+1:=by rw[a0];simp
  refine⟨rfl,λrc u s b3 z vY hY=>?_⟩
  have e3:Ext I s:=(CI rfl).trans (CI z)
  have z3:s.size=I.size+2:=by rw[z];simp
  have Q:s[I.size]?=some (.deferred (some [])):=by
    have:(I.push (.deferred (some [])))[I.size]?=some (.deferred (some [])):=aF rfl rfl
    exact(CI z).get this
  have ab:s[u]?=some (rc .ready none):=aF (by simp;omega) z
  have e:=(e1.trans e2).trans e3
  have l1:=aS g1
  have l2:=aS g2
  have l4:=aS g4
  have lm:=M.lt
  have lb:=hp.lt
  refine FE.of2 (DU func138 (by kernel_rfl) rfl) rfl (oL (w:=w) (S:=[u])
    (J:=λl U D=>D[u]?=some (rc .ready none)/\U=[]/\ ∀p∈l,fB i p.2=0)
    (hp.ext e) ok ((e2.trans e3).get (aF ai Z)) (e3.get (aF aj a0)) hw (λbn r=>⟨λhq=>by have:=lb bn hq;simp at r;omega,by simp at r;omega,by simp at r;omega⟩)
    (λl U D D' ⟨h1,h2,h3⟩ ee=>⟨ee.get h1,h2,h3⟩) (λl U D h bo hj=>by rw[h.2.1]at hj;cases hj)
    (λP a v F U D A B hJ=>?_) ⟨ab,rfl,by simp⟩ (λU D hJ B=>?_))
  · obtain⟨ql,rfl,R⟩:=hJ
    have an:aD v:=by
      have h:(a,v)∈bP k.sp.mem w:=by rw[A];simp
      unfold bP at h
      split at h
      · cases h
      · obtain⟨bn,_,hq⟩:=CT.1 h
        cases hq
        exact DY ok.mem _
    have z0:=B.size
    have nl: ∀bo,bo<H.size->bo ∉ [u]:=λbo hj=>by simp;omega
    refine(show∀K:zv,(∀m,fB i v=0->m[u]?=some (rc .ready none)->Fr [u] D m->K VT m)->(∀m,fB i v≠0->m[u]?=some (rc .done (some .ret))->m[d]?=some (.cells #[vi a] 3 (0,0))->m[j]?=some (.cells #[vi (fB i v)] 24 (0,0))->Fr [d,j,u] D m->K VF m)->FC prog vY #[vi a,vu v] D K from λK ak al=>
      hY a v D K ql (xy (K:=K) (B.get (nl _ l1) (e.get g1)) (B.get (nl _ l2) (e.get g2)) (B.get (nl _ l4) (e.get g4)) ((M.ext e).keep B (nl _ lm)) an ql ⟨by omega,by omega,by omega,by omega,ae⟩ (λh m=>ak m h) (λh m=>al m h))) _ (λm h0 q f=> .inl ⟨rfl,[],⟨q,rfl,λp hp=>?_⟩,by simpa using f,by simp⟩) (λm h0 q k1 k2 f=> .inr ⟨rfl,.inr ⟨q,λo E=>?_⟩⟩)
    · rcases CM.1 hp with h | h
      · exact R p h
      · simp at h;rw[h];exact h0
    · have t:Fr [u] m o:=by rw[E];exact Fr.set
      have x: ∀bo,bo≠u->bo ∉ [u]:=λbo hj=>by simp;exact hj
      refine ah P a v F A R h0 I o (by omega) (t.get (x _ (by omega)) (f.get (by simp;omega) (B.get (x _ (by omega)) Q))) (t.get (x _ (by omega)) k1) (t.get (x _ (by omega)) k2) ?_
      refine e.fr.trans' ((B.mono (λbn r _=>by simp at r;simp[r]) (S':=[d,j,u])).trans (f.trans (t.mono (λbn r _=>by simp at r;simp[r])))) (S:=[]) (λbn r _=>by simp at r) (λbn r hl=>?_)
      simp at r
      simp;omega
  · obtain⟨ql,rfl,A⟩:=hJ
    refine .inl ⟨ql,λo E=>?_⟩
    have t:Fr [u] D o:=by rw[E];exact Fr.set
    have z0:=B.size
    have x: ∀bo,bo≠u->bo ∉ [u]:=λbo hj=>by simp;exact hj
    exact ag A I o (by omega) (t.get (x _ (by omega)) (B.get (x _ (by omega)) Q)) ((e.fr_trans B (λbn r=>by simp at r;omega)).fr_trans t (λbn r=>by simp at r;omega))
end Go.Proofs.YtfhbhckhmnleoaaGreat
namespace Go.Proofs.YtfhbhckhmnleoaaGreat
open Go
variable{H:zV}
def o9(m:Mem):List Value:=(List.range (m.limit*72)).map λj:Nat=>(m.seg (j / 72)).cell (j % 72)
theorem tw(m:Mem){k j:Nat}(hk:k<m.limit)(b:j<72):(o9 m)[k*72+j]?=some ((m.seg k).cell j):=by
 unfold o9
 have a:(k+1)*72<=m.limit*72:=DV _ hk
 rw[List.getElem?_map,List.getElem?_range (by omega)]
 show some ((m.seg ((k*72+j) / 72)).cell ((k*72+j) % 72))=_
 rw[show(k*72+j) / 72=k by omega,show(k*72+j) % 72=j by omega]
theorem se(m:Mem):kz (o9 m)=true:=by
 have key: ∀l:List Nat,kz (l.map λj:Nat=>(m.seg (j / 72)).cell (j % 72))=true:=by
  intro l
  induction l with
  | nil=>rfl
  | cons j l b=>
   have a: ∀i:Nat,∃(k:IntKind) (n:Int),(m.seg (j / 72)).cell i=.int k n:=λi=>by
    match i with
    | 0 | 1 | 2 | 3 | 4 | 5 | 6 | 7=>exact⟨_,_,rfl⟩
    | i+8=>exact⟨_,_,rfl⟩
   obtain⟨k,n,e⟩:=a (j % 72)
   rw[List.map_cons,e]
   show(true && _)=true
   rw[b];rfl
 exact key _
theorem un{F D:Nat}{m:Mem}{r:Nat}(h:cS H F D m)(M:bD m):
  aU.C (some ⟨D,0,none⟩) m.limit r H (λv A=> ∃(q c:Nat),v=vs (some ⟨q,0,none⟩) m.limit c/\H.size<=q/\(∃e:Array Value,A[q]?=some (.cells e 161 (0,0))/\m.limit*72<=e.size/\ ∀k,k<m.limit-> ∀j,j<72->e[k*72+j]?=some ((m.seg k).cell j))/\Ext H A):=by
 refine HC.via λR G=>aU.link ?_
 unfold aU.pt
 rw[CK]
 intro b B u g
 have s:Ext H B:=CI g
 have E:=M.lim
 have L:Own B 161 72 (some ⟨b,0,none⟩) 0 0 []:=⟨rfl,_,aF u g,rfl,CU _,rfl,λj x=>by omega⟩
 have n:(o9 m).length=m.limit*72:=by unfold o9;simp
 refine cI (ys:=o9 m) L ?_ n (se m) (by simp) (by omega) ?_
 ·refine kL λj v z=>?_
  have x:j<m.limit*72:=by
   rw[<-n]
   rcases C6 j (o9 m).length with h | h
   ·exact h
   ·rw[List.getElem?_eq_none h]at z;cases z
  have o:(o9 m)[j / 72*72+j % 72]?=some ((m.seg (j / 72)).cell (j % 72)):=tw m (by omega) (by omega)
  rw[show j / 72*72+j % 72=j by omega,z]at o
  have t:=(h.ext s).at (k:=j / 72) (j:=j % 72) (by omega) (by omega)
  rw[CH,DH o,<-t]
  congr 2;omega
 ·intro p c N d f l
  rw[CQ]at d⊢
  cases p with
  | none=>obtain⟨O,_,_⟩:=d;omega
  | some a=>
   obtain⟨t,e,I,w,y,Q,J⟩:=d
   have o:H.size<=a.block:=by
    rcases l a.block (by simp)with h | h
    ·simp at h;omega
    ·have:=s.size;omega
   rw[t]
   refine G _ _ ⟨a.block,c,rfl,o,⟨e,I,by rw[w];exact DV _ y,λk hk j x=>?_⟩,s.fr_trans f (λi K=>by simp at K;omega)⟩
   have P:(k+1)*72<=m.limit*72:=DV _ hk
   rw[J _ (by omega),List.nil_append,tw m hk x]
theorem ve{k r:Nat}{m:Mem}(h:cS H k r m)(A:bD m):
  iK.C (some ⟨k,0,none⟩) H (λv j=> ∃a d,v=vp (some ⟨a,0,none⟩)/\cS j a d m/\H.size<=a/\H.size<=d/\Ext H j):=by
 refine HC.via λR w=>iK.link ?_
 unfold iK.pt
 rw[CK]
 refine⟨_,_,_,h.segsAt.choose_spec,_,h.countAt,_,h.freeAt,HC.mono (un h A) ?_⟩
 rintro _ o ⟨q,c,rfl,y,i,f⟩
 have n:=h.ext f
 refine⟨_,_,_,rfl,⟨n.countAt,EO⟩,⟨n.freeAt,EO⟩,λb p x e=>?_⟩
 have l:Ext o p:=CI e
 obtain⟨s,g,t,u⟩:=i
 have z:=aS g
 have:=f.size
 exact w _ _ ⟨b,q,rfl,⟨⟨c,aF x e⟩,by omega,s,l.get g,t,u⟩,by omega,y,f.trans l⟩
set_option maxRecDepth 100000 in
theorem wq{b:Blk}{s:Sp}(h:SpAt H b s)(D:SpOK s):
  eO.C (some ⟨b.sp,0,none⟩) H (λv l=> ∃a:Blk,v=vp (some ⟨a.sp,0,none⟩)/\SpAt l a s/\(H.size<=a.sp/\H.size<=a.m/\H.size<=a.s)/\Ext H l):=by
 refine HC.via λR x=>eO.link ?_
 unfold eO.pt
 rw[CK]
 have row: ∀{n:zV},Ext H n->aL n ((Addr.mk b.sp 0 none).add 1) 0 ((List.range 20).map λj:Nat=>Value.int .i64 (s.cur (j / 4) (j % 4))):=λe=>by
  refine kL λj v f=>?_
  have A:j<20:=by
   rcases C6 j 20 with h | h
   ·exact h
   ·rw[List.getElem?_eq_none (by simpa using h)]at f;cases f
  rw[List.getElem?_map,List.getElem?_range A]at f
  have y:=(h.ext e).curAt (g:=j / 4) (k:=j % 4) (by omega) (by omega)
  rw[CH,CH,<-DH f,<-y]
  congr 2;omega
 refine⟨_,h.memPtr,s.cur 0 0,s.cur 0 1,s.cur 0 2,s.cur 0 3,s.cur 1 0,s.cur 1 1,s.cur 1 2,s.cur 1 3,s.cur 2 0,s.cur 2 1,s.cur 2 2,s.cur 2 3,s.cur 3 0,s.cur 3 1,s.cur 3 2,s.cur 3 3,s.cur 4 0,s.cur 4 1,s.cur 4 2,s.cur 4 3,row (CW _),HC.mono (ve h.mem D.mem) ?_⟩
 rintro _ r ⟨o,p,rfl,M,u,w,i⟩
 refine⟨_,rfl,row i,λd t z c=>?_⟩
 have q:Ext r t:=CI c
 have B:=M.lt
 have:=i.size
 refine x _ _ ⟨⟨0,0,d,o,p⟩,rfl,⟨M.ext q,⟨by show d≠o;omega,by show d≠p;omega⟩,_,aF z c,rfl,rfl,λg k E hk=>?_⟩,⟨by show H.size<=d;omega,u,w⟩,i.trans q⟩
 rcases(show g=0\/g=1\/g=2\/g=3\/g=4 by omega)with rfl | rfl | rfl | rfl | rfl<;>rcases(show k=0\/k=1\/k=2\/k=3 by omega)with rfl | rfl | rfl | rfl<;>rfl
theorem wt{b:Blk}{s:Sp}(h:CdAt H b s)(u:SpOK s):
  fF.C (some ⟨b.c,0,none⟩) H (λv f=> ∃a:Blk,v=vp (some ⟨a.c,0,none⟩)/\CdAt f a s/\(∀j∈[a.c,a.sp,a.m,a.s],H.size<=j/\j<f.size)/\Ext H f):=by
 refine HC.via λR o=>fF.link ?_
 unfold fF.pt
 rw[CK]
 refine⟨_,h.cPtr,HC.mono (wq h.sp u) ?_⟩
 rintro _ i ⟨a,rfl,S,⟨x,y,z⟩,l⟩
 refine⟨_,rfl,λe k p d=>?_⟩
 have g:Ext i k:=CI d
 have A:k.size=i.size+1:=by rw[d];simp
 have q:=S.mem.lt
 obtain⟨w,r,_⟩:=S.sp
 have t:=aS r
 have:=l.size
 refine o _ _ ⟨⟨a.h,e,a.sp,a.m,a.s⟩,rfl,⟨⟨S.mem.ext g,S.ne,(S.ext g).sp⟩,⟨by show e≠a.sp;omega,by show e≠a.m;omega,by show e≠a.s;omega⟩,aF p d⟩,λj n=>?_,l.trans g⟩
 simp only[CR,List.not_mem_nil,or_false]at n
 rcases n with rfl | rfl | rfl | rfl<;>omega
set_option maxRecDepth 100000 in
set_option maxHeartbeats 1000000 in
theorem xz{A:zV}{b:Blk}{x:Hp}(S:HpAt A b x)(X:SpOK x.sp)(ai: ∀k:Nat,x.sp.mem.has k-> ∀c:Nat,c<4->(x.sp.mem.seg k).cards c<=x.sp.mem.mark1 k c):
  jq.C (some ⟨b.h,0,none⟩) A (λv A'=>v=.tuple #[vi 0,vi 0]/\Ext A A'):=by
 refine HC.via λR hR=>jq.link ?_
 unfold jq.pt zY
 refine HC.mono (mW S) ?_
 rintro _ AA ⟨rfl,a7⟩
 obtain rfl:A=AA:=a7.symm
 refine⟨_,rfl,?_⟩
 rw[za (by decide)]
 refine⟨_,rfl,_,S.hPtr,HC.mono (wt S.cd X) ?_⟩
 rintro _ Y ⟨o,rfl,C2,O,e2⟩
 have q:=S.ext e2
 refine⟨_,rfl,_,q.hPtr,_,rfl,_,q.cd.cPtr,_,rfl,_,q.cd.sp.memPtr,?_⟩
 refine HC.mono (jG (gs:=[]) q.cd.sp.mem X.mem (by rw[DF];rfl) rfl (by decide)) ?_
 rintro _ H3 ⟨B,c,l,rfl,hl,aj,ag,e3⟩
 have ax:=X.mem.lim
 have aw:=hl.len
 have z3:=e3.size
 have hS: ∀i∈[o.m,o.s],A.size<=i/\i<Y.size:=λi I=>O i (by simp at I;rcases I with rfl | rfl<;>simp)
 have a8: ∀j∈kd B,j ∉ [o.m,o.s]:=λj hj h=>by have:=ag j hj;have:=(hS j h).2;omega
 refine⟨_,_,_,rfl,λi H=>(0<=i/\i<=l.length)/\Ext A H/\Y.size<=H.size/\Own H 3 1 B l.length c (zf (l.map λi:Nat=>(i:Int)))/\ ∃w:Sp,CdAt H o w/\SpOK w/\Unm x.sp.mem w.mem,λi _=>(l.length-i).toNat,
  ⟨⟨by omega,by omega⟩,e2.trans e3,z3,aj,x.sp,C2.ext e3,X,Unm.refl _⟩,?_⟩
 rintro i H4 ⟨I,e4,z4,y,w,C4,am,u4⟩
 by_cases G:i< (l.length:Int)
 case neg=>
  rw[za G]
  exact hR _ _ ⟨rfl,e4⟩
 rw[qB G]
 have Q:i.toNat<l.length:=by omega
 obtain⟨a,ha,N⟩:=mS y Q
 obtain⟨e,aU,aV,az⟩:=hl.has (CS Q)
 generalize bc:l[i.toNat]=k at*
 have r:=S.ext e4
 refine⟨a,ha,⟨I.1,G⟩,(k:Int),N,_,r.hPtr,_,rfl,_,r.cd.cPtr,_,rfl,_,r.cd.sp.memPtr,?_⟩
 refine HC.mono (gt r.cd.sp.mem) ?_
 rintro _ H5 ⟨rfl,e5⟩
 refine⟨_,_,_,_,_,_,_,_,rfl,λc6 H6 ac a9=>?_⟩
 obtain⟨af,hs⟩:=jB (x.sp.mem.segOr k) ac a9
 refine⟨af,λH7 aa=>?_⟩
 obtain⟨a4,_,_,_,T⟩:=hs H7 aa
 have a5:x.sp.mem.segOr (k:Int)=x.sp.mem.seg k:=by unfold Mem.segOr;rw[qB e];rfl
 rw[a5]at T
 have al:IntKind.wrap .i64 (i+1)=i+1:=xT (by omega)
 have p:=e5.trans a4
 have bm:=p.size
 refine⟨_,_,_,_,aL.sub 3 T rfl,λt H=>(0<=t/\t<=4)/\Ext A H/\Y.size<=H.size/\Own H 3 1 B l.length c (zf (l.map λi:Nat=>(i:Int)))/\ ∃w:Sp,CdAt H o w/\SpOK w/\Unm x.sp.mem w.mem,λt _=>(4-t).toNat,
  ⟨⟨by omega,by omega⟩,e4.trans p,by omega,y.ext p,w,C4.ext p,am,u4⟩,?_⟩
 rintro t H8 ⟨ht,e8,z8,z,g,C8,u,V⟩
 by_cases f:t<4
 case neg=>
  rw[za f,al]
  exact⟨⟨⟨by omega,by omega⟩,e8,z8,z,g,C8,u,V⟩,by show((l.length:Int)-(i+1)).toNat< ((l.length:Int)-i).toNat;omega⟩
 rw[qB f]
 refine⟨(x.sp.mem.seg k).cards t.toNat,⟨⟨ht.1,f⟩,by
  rcases(show t.toNat=0\/t.toNat=1\/t.toNat=2\/t.toNat=3 by omega)with h | h | h | h<;>rw[h]<;>rfl⟩,?_⟩
 have ab: ∀j∈[o.c,o.sp,o.m,o.s],j<H8.size:=λj hj=>by have:=(O j hj).2;omega
 refine HC.mono (n8 C8 u ab) ?_
 rintro _ H9 ⟨⟨er,rfl⟩,W,f9⟩
 refine⟨er,rfl,_,rfl,_,W.cPtr,_,rfl,_,W.sp.memPtr,?_⟩
 refine HC.mono (gt W.sp.mem) ?_
 rintro _ b4 ⟨rfl,a0⟩
 refine⟨_,_,_,_,_,_,_,_,rfl,λZ b5 P L=>?_⟩
 obtain⟨F,U⟩:=jB ((g.mem.again k t).segOr k) P L
 refine⟨F,λJ M=>⟨⟨ht.1,f⟩,?_⟩⟩
 obtain⟨a1,_,_,_,D⟩:=U J M
 have u9:Unm x.sp.mem (g.mem.again k t):=V.trans (Unm.again _ _ _)
 have K:(g.mem.again k t).segOr (k:Int)=(g.mem.again k t).seg k:=by unfold Mem.segOr;rw[qB (u9.has.2 e)];rfl
 rw[K]at D
 have ae:((g.mem.again k t).seg k).cards t.toNat=x.sp.mem.mark1 k t.toNat:=by
  rw[Mem.again_cards u.mem,qB ⟨by rw[show((t.toNat:Nat):Int)=t by omega],V.has.2 e,f⟩]
  unfold Mem.mark1
  rw[V.markOf,V.cardLen,show((t.toNat:Nat):Int)=t by omega]
 have bd:=ai k e t.toNat (by omega)
 have z9:=f9.size
 have E:hat J (((Addr.mk Z 0 none).add 3).add (Int.toNat t*1))=some (vi (((g.mem.again k t).seg k).cards t.toNat)):=by
  have ak:=aL.sub (us:=[vi (((g.mem.again k t).seg k).cards 0),vi (((g.mem.again k t).seg k).cards 1),vi (((g.mem.again k t).seg k).cards 2),vi (((g.mem.again k t).seg k).cards 3)]) 3 D rfl
  obtain⟨q0,q1,q2,q3,_⟩:=ak
  rcases(show t.toNat=0\/t.toNat=1\/t.toNat=2\/t.toNat=3 by omega)with h | h | h | h<;>rw[h]
  ·exact q0
  ·exact q1
  ·exact q2
  ·exact q3
 refine⟨_,E,?_⟩
 rw[za (by rw[ae];omega),xT (n:=t+1) (by omega)]
 have d:=a0.trans a1
 have bk:=d.size
 exact⟨⟨⟨by omega,by omega⟩,(e8.fr_trans f9 (λi I=>(hS i I).1)).trans d,by omega,(z.keep f9 a8).ext d,_,W.ext d,u.again k t,u9⟩,by show(4-(t+1)).toNat< (4-t).toNat;omega⟩
end Go.Proofs.YtfhbhckhmnleoaaGreat
namespace Go.Proofs.YtfhbhckhmnleoaaGreat
open Go Go.Proofs.Tryz
variable{d i:Nat}{H:zV}
set_option maxHeartbeats 1000000 in
theorem vf{b:Blk}{x:Hp}{b4 m:Nat}{K1 K2:zV->zV->Prop}(hp:HpAt H b x)(ok:SpOK x.sp)
    (g4:H[b4]?=some (.cells #[.map (some m)] 149 (0,0))) (M:IsMap H m []) (am:m ∉ b.all/\m≠b4) (an: ∀l,dA x.sp.mem [] l-> ∀p∈bF x.sp.mem l,p.2≠0)
    (ak: ∀l,dA x.sp.mem [] l-> ∀y A':zV,y.size=H.size+1->A'[y.size]?=some (.deferred (some []))->IsMap A' m ((bF x.sp.mem l).map Prod.fst)->Fr [m] H A'->K1 y A'):
 fE.C (some ⟨b.h,0,none⟩) H (λv y=>v=v/\
  ∀(k:LoopState->Option Code->Obj) (a:Nat) (F:zV),a=y.size+1->F=(y.push (.deferred (some []))).push (k .ready none)->
  ∀vY:Value,(∀(L:Int) (N:Int) (H8:zV) (K:zv),H8[a]?=some (k .ready none)->
  (H8[a]?=some (k .ready none)/\ ∀r:zV,r=aM H8 a (k .busy none)->
   if N=0 then(
    eY.C L r (λau P=> ∃a5:Int,au=vi a5/\
     (aH P (Addr.mk d 0 none) 0 1)/\ ∀B:zV,B=aP P (Addr.mk d 0 none) [vi a5] 0->
     (aH B (Addr.mk i 0 none) 0 1)/\ ∀E:zV,E=aP B (Addr.mk i 0 none) [vi 9] 0->
     E[a]?=some (k .busy none)/\
     K VF (aM E a (k .done (some .ret)))))
   else
   ∃a6:Option Nat,hat r (Addr.mk b4 0 none)=some (.map a6)/\
   ∃m:Nat,a6=some m/\
   ∃(es:Array MapEntry) (cl:Nat) (ks:List (Int×Value)),r[m]?=some (.map es cl)/\vb (aY .u64) es.toList ks/\
   ∀(z:Array MapEntry) (R:Nat) (f:zV),f=aM r m (.map z R)->vb (aY .u64) z.toList (yM ks L (vi N))->
   f[a]?=some (k .busy none)/\
   K VT (aM f a (k .ready none)))->
  FC prog vY #[vu L,vi N] H8 K)->
  FE prog v #[vY] F (λ_ o=>
   (o[a]?=some (k .ready none)/\ ∀g:zV,g=aM o a (k .exhausted none)->K1 y g)\/
   (o[a]?=some (k .done (some .ret))/\ ∀g:zV,g=aM o a (k .exhausted (some .ret))->K2 y g))):=by
  refine fE.link ?_
  unfold fE.pt
  intro b0 t a0 I
  have e2:Ext H t:=CI I
  have z2:t.size=H.size+1:=by rw[I];simp
  refine⟨rfl,λk a F b7 s vY hY=>?_⟩
  have e3:Ext t F:=(CI rfl).trans (CI s)
  have z3:F.size=t.size+2:=by rw[s];simp
  have W:F[t.size]?=some (.deferred (some [])):=by
    have:(t.push (.deferred (some [])))[t.size]?=some (.deferred (some [])):=aF rfl rfl
    exact(CI s).get this
  have ai:F[a]?=some (k .ready none):=aF (by simp;omega) s
  have e:=e2.trans e3
  have l4:=aS g4
  have lm:=M.lt
  have lb:=hp.lt
  refine FE.of2 (DU func136 (by kernel_rfl) rfl) rfl (rx (S:=[a,m])
    (J:=λl T D=>D[a]?=some (k .ready none)/\T=[]/\IsMap D m (l.map Prod.fst))
    (hp.ext e) ok (e3.get (aF a0 I)) (λbi c=>by
      simp at c
      rcases c with rfl | rfl
      · exact⟨by omega,λh=>by have:=lb _ h;omega,by omega⟩
      · exact⟨by omega,am.1,by omega⟩) (λl T D D' ⟨h1,h2,h3⟩ ee=>⟨ee.get h1,h2,h3.ext ee⟩)
    (λl T D h j hj=>by rw[h.2.1]at hj;cases hj) (λl a2 w n aW T D hl Z O hJ=>?_) ⟨ai,rfl,M.ext e⟩ (λl T D hl hJ O=>?_))
  · obtain⟨ql,rfl,hM⟩:=hJ
    have hn:n≠0:=an l hl (w,n) (by rw[Z];simp)
    have z0:=O.size
    refine hY w n D _ ql ⟨ql,λr Y=>?_⟩
    have f5:Fr [a] D r:=by rw[Y];exact Fr.set
    have ao:r[a]?=some (k .busy none):=by rw[Y];exact aT (aS ql)
    rw[za hn]
    have g9:=f5.get (by simp;omega) (O.get (by simp;omega) (e.get g4))
    obtain⟨es,cl,ks,m1,m2,m3⟩:=(hM.keep f5 (by simp;omega)).map
    refine⟨some m,by rw[aI g9];rfl,m,rfl,es,cl,ks,m1,m2,λU Q f A a1=>?_⟩
    have V:Fr [m] r f:=by rw[A];exact Fr.set
    have ah:f[m]?=some (.map U Q):=by rw[A];exact aT (aS m1)
    have a3:=V.get (by simp;omega) ao
    have f9:Fr [a] f (aM f a (k .ready none)):=Fr.set
    refine⟨a3,.inl ⟨rfl,[],⟨aT (aS a3),rfl,⟨U,Q,_,f9.get (by simp;omega) ah,a1,λu=>?_⟩⟩,?_,by simp⟩⟩
    · rw[kA,C7]
      by_cases hu:u=w
      · rw[qB hu]
        exact⟨λ_=>⟨n,hn,rfl⟩,λh=>absurd (by simp[hu]) h⟩
      · rw[za hu]
        have q:u∈a2.map Prod.fst++[(w,n)].map Prod.fst ↔ u∈a2.map Prod.fst:=by simp[hu]
        rw[q];exact m3 u
    · exact((f5.mono (λbi c _=>by simp at c;simp[c])).trans (V.mono (λbi c _=>by simp at c;simp[c]))).trans (f9.mono (λbi c _=>by simp at c;simp[c]))
  · obtain⟨ql,rfl,hM⟩:=hJ
    refine .inl ⟨ql,λg X=>?_⟩
    have G:Fr [a] D g:=by rw[X];exact Fr.set
    have z0:=O.size
    refine ak l hl t g (by omega) (G.get (by simp;omega) (O.get (by simp;omega) W)) (hM.keep G (by simp;omega)) ?_
    refine e.fr.trans' ((O.mono (λbi c _=>c)).trans (G.mono (λbi c _=>by simp at c;simp[c]))) (S:=[]) (λbi c _=>by simp at c) (λbi c hl=>?_)
    simp at c
    simp;omega
theorem sf{α:Type}{q:α->Bool}{p:α}{b:List α}(c:q p=true): ∀a:List α,(∀y∈a,¬q y=true)->(a++p::b).find? q=some p
  | [],_=>by rw[List.nil_append,List.find?_cons_of_pos c]
  | y::a,h=>by rw[List.cons_append,List.find?_cons_of_neg (h y (by simp))];exact sf c a (λz d=>h z (by simp[d]))
def BM(m:Mem)(ws1 ws2:List Int):Option (Int×Int):=(ws2.flatMap (bP m)).find? λp=>decide (fB ws1 p.2≠0)
def AZ(m:Mem)(ws1 ws2 ot:List Int):Int×Int:=
  match BM m ws1 ws2 with
  | some p=>(p.1,fB ws1 p.2)
  | none=>match ot.find? λw=>decide (fB ws1 w≠0)with
    | some w=>(-1,fB ws1 w)
    | none=>(0,0)
theorem vh{m:Mem}(d:bD m){l:List Nat}(i: ∀k∈l,k<1024): ∀w∈zm (bF m l),aD w:=by
  intro w c
  unfold zm at c
  obtain⟨p,a,rfl⟩:=CT.1 c
  have a:=(Dm.1 a).1
  unfold bF at a
  obtain⟨k,hk,j⟩:=Dv.1 a
  have hk:=i k hk
  have key: ∀(f:Nat) (t:Int),0<=t->p∈kS m (k:Int) t f->aD p.1:=by
    intro f
    induction f with
    | zero=>intro t o h;cases h
    | succ f q=>
      intro t o h
      unfold kS at h
      by_cases hn:t< (m.seg (k:Int).toNat).n
      · rw[qB hn]at h
        have e:=(d.seg (k:Int).toNat).n
        have g:=(d.seg (k:Int).toNat).kind
        rcases CR.1 h with h | h
        · rw[h]
          have:y8 (m.seg (k:Int).toNat).kind=1\/y8 (m.seg (k:Int).toNat).kind=2\/y8 (m.seg (k:Int).toNat).kind=3:=by unfold y8;split<;>(try split)<;>omega
          show aD (((k:Int)*64+t)*8+y8 (m.seg (k:Int).toNat).kind)
          generalize y8 (m.seg (k:Int).toNat).kind=s at*
          constructor<;>omega
        · have r:=lc m (((k:Int)*64+t)*8+y8 (m.seg (k:Int).toNat).kind)
          by_cases b:m.sizeOf (((k:Int)*64+t)*8+y8 (m.seg (k:Int).toNat).kind)=0
          · rw[qB b]at h;cases h
          · rw[za b]at h
            exact q _ (by omega) h
      · rw[za hn]at h;cases h
  exact key 64 0 (by omega) j
theorem uo{j k:Int}{b:List Nat}{R:zv}(n:H[d]?=some (.cells #[vi j] 3 (0,0)))(o:H[i]?=some (.cells #[vi k] 24 (0,0)))
  (g:b.Nodup) (f: ∀D∈b,H[D]?=some (.deferred (some []))/\D≠d/\D≠i) (p: ∀l,Fr b H l->R (.tuple #[vi j,vi k]) l):
  Shut b H (λa=>
     ∃r:Int,hat a (Addr.mk d 0 none)=some (vi r)/\
     ∃c:Int,hat a (Addr.mk i 0 none)=some (vi c)/\
     R (.tuple #[vi r,vi c]) a):=
 oe b H g (λD h=>(f D h).1) (λm e=>⟨j,by rw[aI (e.get (λh=>(f _ h).2.1 rfl) n)];rfl,k,by rw[aI (e.get (λh=>(f _ h).2.2 rfl) o)];rfl,p m e⟩)
set_option maxHeartbeats 2000000 in
theorem si{b:Blk}{x:Hp}{rB:zW}{roots syms:List Int}{es:List (Int×Int)}(hp:HpAt H b x)(ok:SpOK x.sp)(S:oM H b x syms es)(hr:dO H rB (yE roots))(bU:d=roots.length)(bT:d<=1000000)
  (c6: ∀w∈gG roots syms es,aD w) (bX: ∀l,dA x.sp.mem [] l-> ∀p∈bF x.sp.mem l,p.2≠0) (bO: ∀k:Nat,x.sp.mem.has k-> ∀c:Nat,c<4->(x.sp.mem.seg k).cards c<=x.sp.mem.mark1 k c):
  fI.C (some ⟨b.h,0,none⟩) rB d i H (λv A'=> ∃l O:List Nat,dA x.sp.mem [] l/\dA x.sp.mem [] O/\v=.tuple #[vi (AZ x.sp.mem ((bF x.sp.mem l).map Prod.fst) (zm (bF x.sp.mem O)) (gG roots syms es)).1,vi (AZ x.sp.mem ((bF x.sp.mem l).map Prod.fst) (zm (bF x.sp.mem O)) (gG roots syms es)).2]/\Ext H A'):=by
 refine HC.via λR hR=>fI.link ?_
 unfold fI.pt zY
 intro bd H1 bM a8 be H2 bN a9 mr H3 bR aa br H4 b4 ab
 have hb:=hp.lt
 have e1:Ext H H1:=CI a8
 have e2:Ext H1 H2:=CI a9
 have e3:Ext H2 H3:=CI aa
 have z1:H1.size=H.size+1:=by rw[a8];simp
 have z2:H2.size=H1.size+1:=by rw[a9];simp
 have z3:H3.size=H2.size+1:=by rw[aa];simp
 have z4:H4.size=H3.size+1:=by rw[ab];simp
 obtain⟨c4,s4⟩:=jP (A3:=aP H4 (Addr.mk br 0 none) [.map (some mr)] 0) b4 ab [.map (some mr)] rfl
 refine⟨c4,λH5 b2=>?_⟩
 obtain⟨g4,e5⟩:=s4 rfl
 rw[<-b2]at g4 e5
 have ay:H5[br]?=some (.cells #[.map (some mr)] 149 (0,0)):=g4
 have z5:H5.size=H4.size:=by rw[b2,bY _ _ _ _ _ (aF b4 ab)];simp
 have Z:=e3.trans e5
 have E5:=(e1.trans e2).trans Z
 have g1:=(e2.trans Z).get (aF bM a8)
 have g2:=Z.get (aF bN a9)
 have gm:=e5.get (aF bR aa)
 have M0:IsMap H5 mr []:=⟨#[],0,[],gm,rfl,λw=>⟨λh=>(by cases h),λ_=>rfl⟩⟩
 refine vf (hp.ext E5) ok ay M0 ⟨λh=>by have:=hb _ h;omega,by omega⟩ bX ?_
 intro l hl H6 bh h6 az bq G
 have cV:=G.size
 have aw:Ext H bh:=E5.fr_trans G (λda u=>by simp at u;omega)
 have a5:=G.get (by simp;omega) g1
 have a6:=G.get (by simp;omega) g2
 have a7:=G.get (by simp;omega) ay
 refine HC.mono (tt (hp.ext aw) ok (λj hj=>by have:=hb j hj;omega)) ?_
 rintro _ cx ⟨B,c,O,ac,rfl,Ax,cL,z⟩
 have af:=vh ok.mem (l:=O) (λk hk=>by have:=(ac.has hk).2.1;have:=ok.mem.lim;omega)
 have ct:(zm (bF x.sp.mem O)).length<=65536:=by
  have h1:=tn (bF x.sp.mem O)
  have h2:=mX x.sp.mem O
  have h3:=ac.len
  have h4:=ok.mem.lim
  omega
 generalize b7:(bF x.sp.mem l).map Prod.fst=g at*
 generalize b8:zm (bF x.sp.mem O)=f at*
 have L: ∀{A':zV} {r1 r2:Int},Ext H A'->r1=(AZ x.sp.mem g f (gG roots syms es)).1->r2=(AZ x.sp.mem g f (gG roots syms es)).2->R (.tuple #[vi r1,vi r2]) A':=λe q1 q2=>hR _ _ ⟨l,O,hl,ac,by rw[b7,b8,q1,q2],e⟩
 have cW:=z.size
 have T: ∀D:Nat,D>=H5.size->D≠bd/\D≠be:=λD h=>by omega
 refine⟨B,_,c,rfl,λs ms M=> ∃k:Nat,s=k/\k<=f.length/\(∀w∈f.take k,∀p∈bP x.sp.mem w,fB g p.2=0)/\ms.Nodup/\(∀D∈ms,M[D]?=some (.deferred (some []))/\H5.size<=D)/\Ext H M/\H5.size<=M.size/\
   M[bd]?=some (.cells #[vi 0] 3 (0,0))/\M[be]?=some (.cells #[vi 0] 24 (0,0))/\M[br]?=some (.cells #[.map (some mr)] 149 (0,0))/\IsMap M mr g/\Own M 28 1 B f.length c (yE f),
  λs _ _=>((f.length:Int)-s).toNat,
  ⟨0,rfl,by omega,by simp,by simp,λD A=>by simp at A;rw[A];exact⟨z.get az,by omega⟩,aw.trans z,by omega,z.get a5,z.get a6,z.get a7,bq.ext z,Ax⟩,?_⟩
 rintro _ ms M ⟨k,rfl,hk,V,U,A,N,cX,k1,k2,k4,kM,Y⟩
 have aU: ∀D∈ms,M[D]?=some (.deferred (some []))/\D≠bd/\D≠be:=λD h=>⟨(A D h).1,T D (A D h).2⟩
 by_cases ae:(k:Int)< (f.length:Int)
 ·rw[qB ae]
  have J:k<f.length:=by omega
  obtain⟨pa,p1,p2⟩:=mb Y.src J
  refine⟨pa,p1,⟨by omega,ae⟩,f[k],by rw[show Int.toNat (k:Int)=k by omega];exact p2,?_⟩
  have ag:IntKind.wrap .i64 ((k:Int)+1)=((k+1:Nat):Int):=by rw[xT (n:=(k:Int)+1) (by omega)];omega
  rw[ag]
  refine vd (hp.ext N) ok k1 k2 k4 kM (af _ (CS J)) (by omega) ?_ ?_
  ·intro hf bi A' bK gd t
   have ck:=t.size
   refine⟨⟨k+1,rfl,J,λw hw=>?_,?_,λD h=>?_,N.trans t,by omega,t.get k1,t.get k2,t.get k4,kM.ext t,Y.ext t⟩,by show((f.length:Int)-((k+1:Nat):Int)).toNat< ((f.length:Int)-(k:Int)).toNat;omega⟩
   ·rw[Db J]at hw
    rcases CM.1 hw with h | h
    ·exact V w h
    ·simp at h;rw[h];exact hf
   ·rw[D2]
    exact⟨λh=>by have:=aS (A _ h).1;omega,U⟩
   ·rcases CR.1 h with h | h
    ·rw[h];exact⟨gd,by omega⟩
    ·exact⟨t.get (A D h).1,(A D h).2⟩
  ·intro cf a v ba b3 b5 c5 bi A' bK gd q1 q2 a4
   have ck:=a4.size
   have W:AZ x.sp.mem g f (gG roots syms es)=(a,fB g v):=by
    unfold AZ
    have:BM x.sp.mem g f=some (a,v):=by
     unfold BM
     have e:f.flatMap (bP x.sp.mem)=((f.take k).flatMap (bP x.sp.mem)++cf)++(a,v)::(ba++(f.drop (k+1)).flatMap (bP x.sp.mem)):=by
      have e1:f=f.take k++f[k]::f.drop (k+1):=by rw[<-EN J,EG]
      conv=>lhs;rw[e1]
      rw[DQ,List.flatMap_cons,b3];simp
     rw[e]
     refine sf (q:=λp:Int×Int=>decide (fB g p.2≠0)) (p:=(a,v)) (zX c5) _ (λy hy=>?_)
     rw[CN,Classical.not_not]
     rcases CM.1 hy with h | h
     ·obtain⟨w,h1,h2⟩:=Dv.1 h
      exact V w h1 y h2
     ·exact b5 y h
    rw[this]
   refine uo q1 q2 ?_ (λD h=>?_) (λA2 f2=>L ((N.fr_trans a4 (λda u=>by simp at u;omega)).fr_trans f2 (λda u=>?_)) (by rw[W]) (by rw[W]))
   ·rw[D2]
    exact⟨λh=>by have:=aS (A _ h).1;omega,U⟩
   ·rcases CR.1 h with h | h
    ·rw[h];exact⟨gd,T _ (by omega)⟩
    ·exact⟨a4.get (by have:=T _ (A D h).2;simp;omega) (A D h).1,T _ (A D h).2⟩
   ·rcases CR.1 u with h | h
    ·omega
    ·have:=(A da h).2;omega
 rw[za ae]
 rw[De (by omega)]at V
 have X:BM x.sp.mem g f=none:=by
  unfold BM
  rw[List.find?_eq_none]
  intro y hy
  rw[CN,Classical.not_not]
  obtain⟨w,h1,h2⟩:=Dv.1 hy
  exact V w h1 y h2
 refine HC.mono (wo (hp.ext N) (S.ext N) (hr.ext N) bU bT) ?_
 rintro _ A2 ⟨B2,c2,rfl,o2,cq,bA⟩
 generalize bS:gG roots syms es=o at*
 refine⟨B2,_,c2,rfl,λs d9=> ∃k:Nat,s=k/\k<=o.length/\(∀w∈o.take k,fB g w=0)/\Ext A2 d9,λs _=>((o.length:Int)-s).toNat,⟨0,rfl,by omega,by simp,CW _⟩,?_⟩
 rintro _ bj ⟨j,rfl,hj,E,P⟩
 have r:=bA.trans P
 have zz:=r.size
 have m: ∀D∈ms,bj[D]?=some (.deferred (some []))/\D≠bd/\D≠be:=λD h=>⟨r.get (aU D h).1,(aU D h).2⟩
 have q1:=r.get k1
 have q2:=r.get k2
 have q4:=r.get k4
 by_cases K:(j:Int)< (o.length:Int)
 ·rw[qB K]
  have I:j<o.length:=by omega
  obtain⟨pa,p1,p2⟩:=mb (o2.ext P).src I
  refine⟨pa,p1,⟨by omega,K⟩,o[j],by rw[show Int.toNat (j:Int)=j by omega];exact p2,some mr,by rw[aI q4];rfl,HC.mono ((kM.ext r).fault (c6 _ (CS I))) ?_⟩
  rintro _ cy ⟨rfl,F⟩
  refine⟨_,rfl,?_⟩
  by_cases h0:fB g o[j]=0
  ·rw[qB h0]
   have ag:IntKind.wrap .i64 ((j:Int)+1)=((j+1:Nat):Int):=by
    have:o.length<=9000000000:=by
     have:=(o2.ext P).le
     have h1: ∀l:List (Int×Int),(l.flatMap λe=> [e.1,e.2]).length=2*l.length:=λl=>by
      induction l with
      | nil=>rfl
      | cons a l ih=>rw[List.flatMap_cons,CV,ih];simp;omega
     rw[<-bS]
     unfold gG
     rw[CV,CV,h1]
     have:=S.len;omega
    rw[xT (n:=(j:Int)+1) (by omega)];omega
   rw[ag]
   refine⟨⟨j+1,rfl,I,λw hw=>?_,P.trans F⟩,by show((o.length:Int)-((j+1:Nat):Int)).toNat< ((o.length:Int)-(j:Int)).toNat;omega⟩
   rw[Db I]at hw
   rcases CM.1 hw with h | h
   ·exact E w h
   ·simp at h;rw[h];exact h0
  ·rw[za h0]
   obtain⟨bs,cg⟩:=ko (n:=1) (vs:=[vi (-1)]) (F.get q1) rfl rfl
   refine⟨bs,λbl aV=>?_⟩
   obtain⟨r1,a0⟩:=cg bl aV
   obtain⟨bu,ch⟩:=ko (n:=1) (vs:=[vi (fB g o[j])]) (a0.get (by simp;omega) (F.get q2)) rfl rfl
   refine⟨bu,λbm aW=>?_⟩
   obtain⟨r2,a1⟩:=ch bm aW
   have W:AZ x.sp.mem g f o=(-1,fB g o[j]):=by
    unfold AZ
    rw[X]
    have:o.find? (λw=>decide (fB g w≠0))=some o[j]:=by
     have e1:o=o.take j++o[j]::o.drop (j+1):=by rw[<-EN I,EG]
     conv=>lhs;rw[e1]
     refine sf (q:=λw:Int=>decide (fB g w≠0)) (zX h0) _ (λy hy=>?_)
     rw[CN,Classical.not_not]
     exact E y hy
    simp only[this]
   refine uo (a1.get (by simp;omega) r1) r2 U (λD h=>⟨a1.get (by have:=(m D h).2;simp;omega) (a0.get (by have:=(m D h).2;simp;omega) (F.get (m D h).1)),(m D h).2⟩) (λA3 f3=>L ?_ (by rw[W]) (by rw[W]))
   have cY:=N.size
   exact(((N.trans (r.trans F)).fr_trans a0 (λda u=>by simp at u;omega)).fr_trans a1 (λda u=>by simp at u;omega)).fr_trans f3 (λda u=>by have:=(A da u).2;omega)
 rw[za K]
 rw[De (by omega)]at E
 refine HC.mono (xz (hp.ext (N.trans r)) ok bO) ?_
 rintro _ cz ⟨rfl,Q⟩
 obtain⟨bw,ci⟩:=ko (n:=1) (vs:=[vi 0]) (Q.get q1) rfl rfl
 refine⟨_,_,rfl,bw,λbn b0=>?_⟩
 obtain⟨r1,a2⟩:=ci bn b0
 obtain⟨bz,cj⟩:=ko (n:=1) (vs:=[vi 0]) (a2.get (by simp;omega) (Q.get q2)) rfl rfl
 refine⟨bz,λbo b1=>?_⟩
 obtain⟨r2,a3⟩:=cj bo b1
 have W:AZ x.sp.mem g f o=(0,0):=by
  unfold AZ
  rw[X]
  have:o.find? (λw=>decide (fB g w≠0))=none:=by
   rw[List.find?_eq_none]
   intro y hy
   rw[CN,Classical.not_not]
   exact E y hy
  simp only[this]
 refine uo (a3.get (by simp;omega) r1) r2 U (λD h=>⟨a3.get (by have:=(m D h).2;simp;omega) (a2.get (by have:=(m D h).2;simp;omega) (Q.get (m D h).1)),(m D h).2⟩) (λA3 f3=>L ?_ (by rw[W]) (by rw[W]))
 exact(((N.trans (r.trans Q)).fr_trans a2 (λda u=>by simp at u;omega)).fr_trans a3 (λda u=>by simp at u;omega)).fr_trans f3 (λda u=>by have:=(A da u).2;omega)
