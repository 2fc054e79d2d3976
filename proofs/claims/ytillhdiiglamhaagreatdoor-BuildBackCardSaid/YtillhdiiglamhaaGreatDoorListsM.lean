/-
 Rows of cells with a block of their own: laid by make, written, read in part; slices.Repeat's loop. Proves nothing of any one program.
-/
import Derived.Test.YtillhdiiglamhaaGreatDoorPair
import Derived.Test.YtillhdiiglamhaaGreatDoorFref02
import Derived.Laws.RangeAny
set_option linter.unusedVariables false
set_option linter.unusedSimpArgs false
namespace Go.Proofs.YtillhdiiglamhaaGreatDoor
open Go
theorem Gu:type_of% @List.getElem_cons_zero:=@List.getElem_cons_zero
theorem Gm:type_of% @List.map_congr_left:=@List.map_congr_left
theorem F6:type_of% @List.length_drop:=@List.length_drop
theorem F5:type_of% @List.drop_zero:=@List.drop_zero
theorem FS:type_of% @List.ext_getElem:=@List.ext_getElem
theorem Ft:type_of% @List.append_assoc:=@List.append_assoc
theorem Fn:type_of% @List.drop_eq_getElem_cons:=@List.drop_eq_getElem_cons
theorem Fa:type_of% @List.drop_eq_nil_of_le:=@List.drop_eq_nil_of_le
theorem ES:type_of% @List.take_of_length_le:=@List.take_of_length_le
variable{H:zV}{a:TypeId}{b:Nat}{d:zW}{g:Array Value}{i:Option (Blk×Hp)}{j:Addr}{k:List Value}
theorem yn{c:zV}{z:Value}{n b:Nat}(e:b=H.size)(d:c=H.push (.cells (Builtin.zeroCells #[z] n) a)):Own c a 1 (some ⟨b,0,none⟩) n n (List.replicate n z):=by
 refine⟨rfl,_,aK e d,by rw[lu];rfl,Er _,GH,λj f=>?_⟩;have:=np (z:= #[z]) (n:=n) (k:=j) (j:=0) GF GH;simp only[List.size_toArray,List.length_singleton,EG,Nat.add_zero]at this;rw[this,List.getElem?_replicate,ka GF];rfl
theorem Own.put{n c i:Nat}{t:Addr}(h:Own H a 1 (some t) n c k)(s:i<n)(v:Value):
  aF H (t.add i) 0 1/\ ∀e,e=aL H (t.add i) [v] 0->Own e a 1 (some t) n c (k.set i v)/\Fr [t.block] H e:=by
 obtain⟨l,g,f,r,hn,q,o⟩:=h;have m:t.add i=⟨t.block,i,none⟩:=by rw[l];simp
 rw[m];refine⟨cZ f _ _ _ GF,λe b=>?_⟩;rw[dX _ H g i 0 f]at b;subst b;refine⟨⟨l,_,bL (aS f),by rw[Fo];exact r,hn,by rw[List.length_set];exact q,λj p=>?_⟩,Ez⟩;rw[List.getElem?_set];by_cases d:i=j
 ·subst d;rw[ka rfl,ka GF];have:=fE g [v] (i+0) 0 (by simp;omega) GH;simpa using this
 ·rw[kb d,<-o j p];rcases EC j i with h | h
  ·exact eN _ _ _ _ GF
  ·exact gt _ _ _ _ (by simp;omega)
theorem Own.puts{d n c o:Nat}{k vs:List Value}(h:Own H a d (some j) n c k)(w:o+vs.length<=n*d):
  aF H (j.add o) 0 vs.length/\ ∀f,f=aL H (j.add o) vs 0->Own f a d (some j) n c (k.take o++vs++k.drop (o+vs.length))/\Fr [j.block] H f:=by
 obtain⟨p,l,i,u,hn,v,q⟩:=h;have t:n*d<=c*d:=FV _ hn;have s:j.add o=⟨j.block,o,none⟩:=by rw[p];simp
 rw[s];refine⟨cZ i _ _ _ GF,λf b=>?_⟩;rw[dX _ H l o 0 i]at b;subst b;refine⟨⟨p,_,bL (aS i),by rw[Fo];exact u,hn,by simp;omega,λx r=>?_⟩,Ez⟩;rw[Nat.add_zero];rcases EC x o with g | g
 ·rw[eN _ _ _ _ g,q x r,Ft,List.getElem?_append_left (by simp;omega),List.getElem?_take,ka g]
 rcases EC x (o+vs.length)with m | m
 ·have e:=fE l vs o (x-o) GF GF;rw[show o+(x-o)=x by omega]at e;rw[e,Ft,List.getElem?_append_right (by simp;omega),E6,FG GF,List.getElem?_append_left GF]
 ·rw[gt _ _ _ _ m,q x r,List.getElem?_append_right (by simp;omega),List.getElem?_drop];simp only[E3,E6];rw[FG GF];congr 1;omega
theorem Own.part{n c o p:Nat}(h:Own H a b (some j) n c k):aI H (j.add o) 0 ((k.drop o).take p):=by
 refine jS λm v d=>?_
 have e:k[o+m]?=some v:=by
  rw[List.getElem?_take]at d;split at d
  ·rw[List.getElem?_drop]at d;exact d
  ·cases d
 obtain⟨l,i,f⟩:=h.at e;cases i;rw[Eo];obtain⟨g,_⟩:=h;rw[g]at f⊢;simpa using f
theorem flat_get{α:Type}{f:α->List Value}{b:Nat}(c: ∀a,(f a).length=b): ∀(l:List α) (k r:Nat) (hk:k<l.length),r<b->(l.flatMap f)[k*b+r]?=(f l[k])[r]?
 | [],k,r,hk,hr=>by simp at hk
 | a::l,0,r,hk,hr=>by
  simp only[List.flatMap_cons,Nat.zero_mul,Eo,Gu];rw[List.getElem?_append_left (by rw[c];exact hr)]
 | a::l,k+1,r,hk,hr=>by
  simp only[List.flatMap_cons,List.getElem_cons_succ];rw[List.getElem?_append_right (by rw[c,Fz];omega),c,show(k+1)*b+r-b=k*b+r by rw[Fz];omega];exact flat_get c l k r (by simpa using hk) hr
theorem Own.elem{α:Type}{f:α->List Value}{H:zV}{T:TypeId}{sz n c:Nat}{l:List α}(h:Own H T sz d n c (l.flatMap f))(i: ∀a,(f a).length=sz)(u:0<sz){k:Nat}(hk:k<l.length):
  ∃a,d=some a/\(∀r v,(f l[k])[r]?=some v->hat H ((a.add (k*sz)).add r)=some v)/\aI H (a.add (k*sz)) 0 (f l[k]):=by
 have p: ∃v,(f l[k])[0]?=some v:=⟨(f l[k])[0]'(by rw[i];exact u),GH⟩;obtain⟨z,s⟩:=p;have t:=flat_get i l k 0 hk u;rw[s,Nat.add_zero]at t;obtain⟨a,x,_⟩:=h.at t;subst x;have g: ∀r,(a.add (k*sz)).add r=a.add (k*sz+r):=λr=>by rw[h.1];simp
 have w: ∀r v,(f l[k])[r]?=some v->hat H ((a.add (k*sz)).add r)=some v:=λr v m=>by
  have q:r<sz:=by
   rcases EC r (f l[k]).length with b | b
   ·rw[i]at b;exact b
   ·simp[List.getElem?_eq_none b]at m
  have e:=flat_get i l k r hk q;rw[m]at e;obtain⟨y,o,b⟩:=h.at e;cases o;rw[g];exact b
 exact⟨a,rfl,w,jS λj v m=>by rw[Eo];exact w j v m⟩
theorem lW(a:Addr)(i j:Nat):(a.add i).add j=a.add (i+j):=by
 by_cases b:i=0<;>by_cases c:j=0<;>simp[Addr.add,b,c,Nat.add_assoc]
theorem Ff{α:Type}{l:List α}(h:b<l.length)(d:α):l.getD b d=l[b]:=by
 rw[List.getD,List.getElem?_eq_getElem h];rfl
theorem og(h:g.size=k.length):splice g 0 k=k.toArray:=by
 refine Gs λi=>?_;have e:k.toArray[i]?=k[i]?:=GH;rw[e];rcases EC i k.length with a | a
 ·have:=fE g k 0 i GF a;rw[Eo]at this;exact this
 ·rw[List.getElem?_eq_none a,Array.getElem?_eq_none (by rw[Fo];omega)]
theorem fe{c:zV}{b n:Nat}{vs:List Value}(h:b=H.size)(f:c=H.push (.cells g a))(hn:g.size=n)(i:vs.length=n):
  aF c ⟨b,0,none⟩ 0 n/\ ∀d,d=aL c ⟨b,0,none⟩ vs 0->d[b]?=some (.cells vs.toArray a (0,0))/\Ext H d:=by
 have j:=aK h f;refine⟨cZ j n 0 0 GF,λd e=>?_⟩;rw[dX vs c g 0 0 j,Nat.add_zero,og GF]at e;subst e;exact⟨bL (aS j),(Eh f).set GF⟩
theorem ie(f:H[b]?=some (.cells g a (0,0)))(o:Nat)(v:Value)(e:o<g.size):
  aF H ((Addr.mk b 0 none).add o) 0 1/\ ∀c,c=aL H ((Addr.mk b 0 none).add o) [v] 0->c[b]?=some (.cells (g.setIfInBounds o v) a (0,0))/\Fr [b] H c:=by
 rw[Ej,Eo];refine⟨cZ f 1 o 0 GF,λc d=>?_⟩;rw[dX _ H g o 0 f]at d;subst d;exact⟨bL (aS f),Ez⟩
theorem fu{c:Nat×Nat}(d:H[b]?=some (.cells g a c))(o:Nat):hat H ((Addr.mk b 0 none).add o)=g[o]?:=by
 rw[Ej,Eo];exact aW d
theorem aI.sub{b:List Value}(f:Nat)(h:aI H j 0 k)(e:(k.drop f).take b.length=b):aI H (j.add f) 0 b:=by
 refine jS λd v a=>?_
 have c:k[f+d]?=some v:=by
  rw[<-e,List.getElem?_take]at a;split at a
  ·rw[List.getElem?_drop]at a;exact a
  ·cases a
 have:=gM h (f+d) v c;rw[lW,Eo];rw[Eo]at this;exact this
theorem bA{vs:List Value}{c:Nat×Nat}(g:H[b]?=some (.cells vs.toArray a c)):aI H ⟨b,0,none⟩ 0 vs:=
 cX g vs 0 0 (λj d=>GH)
theorem ff{b n:Nat}{vs:List Value}(f:H[b]?=some (.cells g a (0,0)))(hn:g.size=n)(e:vs.length=n):
  aF H ⟨b,0,none⟩ 0 n/\ ∀c,c=aL H ⟨b,0,none⟩ vs 0->c[b]?=some (.cells vs.toArray a (0,0))/\Fr [b] H c:=by
 refine⟨cZ f n 0 0 GF,λc d=>?_⟩;rw[dX vs H g 0 0 f,Nat.add_zero,og GF]at d;subst d;exact⟨bL (aS f),Ez⟩
theorem mj(a:Addr):a.add 0=a:=by unfold Addr.add;cases a;split<;>simp_all
theorem nL(s:ByteArray)(pos:Nat):1<=(Utf8.decode s pos).2:=by
 unfold Utf8.decode;simp only[]
 repeat' split
 all_goals simp
def runesFrom(s:ByteArray):Nat->Nat->List Int
 | 0,_=> []
 | f+1,pos=>if pos<s.size then((Utf8.decode s pos).1:Int)::runesFrom s f (pos+(Utf8.decode s pos).2)else[]
theorem mS(s:ByteArray): ∀(f g pos:Nat),s.size<=pos+f->s.size<=pos+g->runesFrom s f pos=runesFrom s g pos
 | 0,0,_,_,_=>rfl
 | 0,g+1,pos,h,_=>by simp only[runesFrom];rw[kb GF]
 | f+1,0,pos,_,h=>by simp only[runesFrom];rw[kb GF]
 | f+1,g+1,pos,h1,h2=>by
  have:=nL s pos;simp only[runesFrom];by_cases a:pos<s.size
  ·rw[ka a,ka a,mS s f g _ GF GF]
  ·rw[kb a,kb a]
def iH(s:ByteArray)(pos:Nat):List Int:=runesFrom s (s.size-pos) pos
def cF(s:ByteArray):List Int:=iH s 0
theorem lc{s:ByteArray}(h:b<s.size):iH s b=((Utf8.decode s b).1:Int)::iH s (b+(Utf8.decode s b).2):=by
 have a:=nL s b;unfold iH;rw[show s.size-b=(s.size-b-1)+1 by omega];simp only[runesFrom];rw[ka h,mS s _ (s.size-(b+(Utf8.decode s b).2)) _ GF GF]
theorem kh{s:ByteArray}(h: ¬b<s.size):iH s b=[]:=by
 unfold iH;rw[show s.size-b=0 by omega];rfl
theorem wW(s:ByteArray)(pos:Nat):aO ((Utf8.decode s pos).1:Int):=by
 have:=decode_le s pos;exact⟨GF,GF⟩
theorem mT(s:ByteArray): ∀(f pos:Nat),∀r∈runesFrom s f pos,0<=r/\r<=2147483647
 | 0,_,r,h=>by simp[runesFrom]at h
 | f+1,pos,r,h=>by
  simp only[runesFrom]at h;by_cases a:pos<s.size
  ·rw[ka a]at h;rcases Ew.1 h with rfl | h
   ·have:=decode_le s pos;omega
   ·exact mT s f _ r h
  ·rw[kb a]at h;simp at h
theorem jf(s:ByteArray): ∀r∈cF s,aO r:=λr h=>by
 have:=mT s _ _ r h;exact⟨GF,GF⟩
theorem nz(s:ByteArray): ∀(f pos:Nat),(runesFrom s f pos).length<=f
 | 0,_=>Er _
 | f+1,pos=>by
  simp only[runesFrom];by_cases a:pos<s.size
  ·rw[ka a];simp;exact nz s f _
  ·rw[kb a];simp
def Cl(o:Option (Blk×Hp))(s:ByteArray):Int×Int:=if 62< (cF s).length then(0,6)else iT o 2 0 (cF s)
def Cw(o:Option (Blk×Hp))(s:ByteArray):Option (Blk×Hp):=if 62< (cF s).length then o else js o 2 0 (cF s)
theorem oh{s:ByteArray}(V:View H d i)(Y:uf i):
  fi.C d s H (λv m=>v=.tuple #[vu (Cl i s).1,vi (Cl i s).2]/\View m d (Cw i s)/\Fr (own i) H m):=by
 refine Ei λR Q=>fi.link ?_;unfold fi.pt;intro b T S q;have X:Ext H T:=Eh q;refine⟨λp n c m=> ∃(pos:Nat) (k:List Int),m[b]?=some (.stringIter s pos)/\cF s=k++iH s pos/\Own m 37 1 p n c (Bi k)/\n=k.length/\n<=62/\Ext H m/\(∀a6,a6∈l6 p->H.size<=a6/\a6≠b)/\b<m.size,λ_ n _ _=>63-n,⟨0,[],aK S q,rfl,gW,rfl,GF,X,GH,aS (aK S q)⟩,?_⟩;rintro p n c N ⟨pos,k,M,a,B,hn,Z,J,f,K⟩;subst hn;refine⟨s,pos,M,?_⟩;by_cases I:pos<s.size
 case neg=>
  rw[kb I];rw[kh I,E9]at a;refine gc (mi (ws:=k) (V.ext J) B.src rfl (by rw[<-a];exact jf s) GG GG Y GF) ?_;rintro _ u ⟨rfl,W,G⟩;have A: ¬62< (cF s).length:=by rw[a];omega
  refine⟨_,_,rfl,Q _ _ ⟨?_,?_,J.fr.trans G⟩⟩
  ·unfold Cl;rw[kb A,a]
  ·unfold Cw;rw[kb A,a];exact W
 rw[ka I];intro u r b4 U L t;have hw:=wW s pos;rw[BN (n:=((Utf8.decode s pos).1:Int)) (by have:=hw.2;omega)]at t;have G:Fr [b] N u:=by rw[r];exact Ez
 have F:Ext u U:=Eh t;have a0:u.size=N.size:=by rw[r];simp
 have D:=(B.keep G (λa6 g=>by have:=(f a6 g).2;simp;exact this)).ext F;have w:Ext H u:=J.fr_trans G (λa6 g=>by simp at g;omega);have y:u[b]?=some (.stringIter s (pos+(Utf8.decode s pos).2)):=by rw[r];exact bL K
 refine dE (ys:=Bi [((Utf8.decode s pos).1:Int)]) D (cX (aK L t) _ 0 0 (λj hj=>GH)) GH (j3 _) rfl GF ?_;intro p' c' O E P z;have o:Ext H O:=(w.trans F).fr_trans P (λa6 g=>(f a6 g).1);rw[lc I]at a;by_cases x:(k.length:Int)+1>62
 ·rw[ka x];have e:62< (cF s).length:=by rw[a];simp;omega
  refine Q _ _ ⟨?_,?_,o.fr⟩
  ·unfold Cl;rw[ka e]
  ·unfold Cw;rw[ka e];exact V.ext o
 ·rw[kb x];have l:O[b]?=some (.stringIter s (pos+(Utf8.decode s pos).2)):=P.get (λg=>(f b g).2 rfl) (F.get y);refine⟨⟨_,k++[((Utf8.decode s pos).1:Int)],l,by rw[a];simp,by simpa[Bi]using E,GH,GF,o,λa6 g=>?_,aS l⟩,by show 63-(k.length+1)<63-k.length;omega⟩;rcases z a6 g with h | h
  ·exact f a6 h
  ·have:=F.size;exact⟨by have:=w.size;omega,GF⟩
def AL(o:Option (Blk×Hp)):Option (Blk×Hp):=match o with | none=>none | some (b,x)=>some (b,{x with ep:=IntKind.wrap .u64 (x.ep+1)})
def CZ(o:Option (Blk×Hp)):List Nat:=match o with | none=> [] | some (b,_)=> [b.h]
theorem HpAt.epAt{b:Blk}{x:Hp}(h:HpAt H b x):hat H ⟨b.h,3,none⟩=some (vu x.ep):=by rw[aW h.h];rfl
theorem HpAt.putEp{b:Blk}{x:Hp}(h:HpAt H b x)(e:Int):aF H ⟨b.h,3,none⟩ 0 1/\HpAt (aL H ⟨b.h,3,none⟩ [vu e] 0) b {x with ep:=e}/\Fr [b.h] H (aL H ⟨b.h,3,none⟩ [vu e] 0):=by
 refine⟨cZ h.h _ _ _ GH,?_⟩;rw[dX _ _ _ _ _ h.h];have f:Fr [b.h] H (bR H b.h (.cells (splice #[vp (some ⟨b.c,0,none⟩),x.sy,x.en,vu x.ep] (3+0) [vu e]) 56 (0,0))):=Ez;refine⟨⟨h.cd.keep f ?_ ?_ ?_ ?_,h.ne,by rw[bL (aS h.h)];rfl⟩,f⟩<;>have:=h.ne<;>simp<;>omega
theorem vn(V:View H d i):gE.C d H (λv e=>View e d (AL i)/\Fr (CZ i) H e):=by
 refine Ei λR c=>gE.link ?_;unfold gE.pt;refine gc (nJ V) ?_;rintro _ k ⟨rfl,rfl⟩;refine⟨_,rfl,?_⟩
 cases V with
 | nobody=>rw[ka (show(none:Option (Blk×Hp)).isNone=true from rfl)];exact c _ _ ⟨.nobody,Ey _ _⟩
 | empty h=>rw[ka (show(none:Option (Blk×Hp)).isNone=true from rfl)];exact c _ _ ⟨.empty h,Ey _ _⟩
 | @real b x h j=>
  rw[kb (show ¬(some (b,x)).isNone=true from Bool.false_ne_true)];obtain⟨g,f⟩:=h.putEp (IntKind.wrap .u64 (x.ep+1));refine⟨_,rfl,_,by rw[Ej];exact h.epAt,by rw[Ej];exact g,λl a=>?_⟩;rw[Ej]at a;subst a;exact c _ _ ⟨.real f.1 j,f.2⟩
def Mem.objWords(m:Mem)(w:Int):List Int:=(List.range (m.len w).toNat).map λ(i:Nat)=>m.get (w / 8+1+(i:Int))
theorem Mem.objWords_len(m:Mem)(w:Int):(m.objWords w).length=(m.len w).toNat:=by unfold Mem.objWords;simp
theorem Gd:type_of% @Mem.objWords_len:=@Mem.objWords_len
theorem Mem.objWords_get(m:Mem)(w:Int)(h:b< (m.objWords w).length):(m.objWords w)[b]=m.get (w / 8+1+(b:Int)):=by simp[Mem.objWords]
theorem fC.words{m:Mem}{w a b:Int}{c:List Int}(h:fC m w a b c):m.objWords w=c:=by
 refine FS (by rw[Gd,h.len];omega) λi e d=>?_;rw[Mem.objWords_get];exact h.get i d
theorem View.objWord(V:View H d i)(w:Int): ∀x∈(nc i).objWords w,aO x:=λx a=>by
 unfold Mem.objWords at a;obtain⟨b,_,rfl⟩:=EZ.1 a;exact V.word _
theorem pf{o:Option (Blk×Hp)}{w a:Int}(V:View H d o)(E:aO w):
  fI.C d w a H (λv m=>Ext H m/\((¬((nc o).isObj w/\(nc o).typ w=a)/\v=.tuple #[VN,VF])\/
   ((nc o).isObj w/\(nc o).typ w=a/\ ∃b:Nat,H.size<=b/\v=.tuple #[.slice (some ⟨b,0,none⟩) ((nc o).objWords w).length ((nc o).objWords w).length,VT]/\Own m 37 1 (some ⟨b,0,none⟩) ((nc o).objWords w).length ((nc o).objWords w).length (Bi ((nc o).objWords w))))):=by
 refine Ei λR F=>fI.link ?_;unfold fI.pt zY;refine gc (jl V E) ?_;rintro _ Y ⟨rfl,t⟩;refine⟨_,_,_,_,_,rfl,?_⟩;by_cases hk:(nc o).isObj w/\(nc o).typ w=a
 case neg=>
  rw[ka (by
   by_cases h:(nc o).isObj w
   ·have: ¬(nc o).typ w=a:=λe=>hk ⟨h,e⟩;simp[h,this]
   ·simp[h])]
  exact F _ _ ⟨t,.inl ⟨hk,rfl⟩⟩
 obtain⟨k,I⟩:=hk;rw[kb (by simp[k,I])];have hl:=V.len_bd w;have W:w / 8<65536:=k.1.1.2;have U:0<=w / 8:=by have:=E.1;omega
 refine⟨GF,GF,GF,GF,λb Z Q p=>?_⟩;have M:=t.trans (Eh p);have r:=(nc o).objWords_len w;have y:H.size<=b:=by have:=t.size;omega
 refine⟨λi m=>(0<=i/\i<=(nc o).len w)/\Ext H m/\Own m 37 1 (some ⟨b,0,none⟩) ((nc o).len w).toNat ((nc o).len w).toNat (Bi (((nc o).objWords w).take i.toNat)++List.replicate (((nc o).len w).toNat-i.toNat) (vu 0)),λi _=>((nc o).len w-i).toNat,⟨⟨GF,GF⟩,M,by simpa using yn Q p⟩,?_⟩;rintro i H3 ⟨G,u,f⟩;by_cases l:i< ((((nc o).len w).toNat:Nat):Int)
 case neg=>
  rw[kb l];have e:(((nc o).objWords w).take i.toNat)=(nc o).objWords w:=ES GF;have K:((nc o).len w).toNat-i.toNat=0:=GF;rw[e,K]at f;rw[<-r]at f⊢;exact F _ _ ⟨u,.inr ⟨k,I,b,y,rfl,by simpa using f⟩⟩
 rw[ka l];have T:=k.used E (V.n64 _) (i:=i) ⟨G.1,GF⟩
 cases V with
 | nobody=>exact absurd k.1.2.2.1 ny
 | empty h=>exact absurd k.1.2.2.1 ny
 | @real g x h X=>
  have s:=h.ext u;refine⟨_,rfl,_,s.hPtr,_,rfl,_,s.cd.cPtr,_,rfl,_,s.cd.sp.memPtr,?_⟩;rw[ka k,n5 (n:=w / 8+1) GF,n5 (n:=w / 8+1+i) GF,n5 (n:=i+1) GF];refine gc (je s.cd.sp.mem X.mem GF) ?_;rintro _ H4 ⟨rfl,rfl⟩;have D:x.sp.mem.used (w / 8+1+i):=T;rw[ka D];obtain⟨z,B⟩:=f.put (i:=i.toNat) GF (vu (x.sp.mem.get (w / 8+1+i)));refine⟨_,_,rfl,⟨G.1,l⟩,by rw[EG];exact z,λJ q=>?_⟩;rw[EG]at q;obtain⟨c,P⟩:=B J q;refine⟨⟨⟨GF,GF⟩,u.fr_trans P (λj S=>by simp at S;omega),?_⟩,by show((nc (some (g,x))).len w-(i+1)).toNat< ((nc (some (g,x))).len w-i).toNat;omega⟩;have A:i.toNat< ((nc (some (g,x))).objWords w).length:=GF
  have N:((nc (some (g,x))).objWords w)[i.toNat]=x.sp.mem.get (w / 8+1+i):=by
   rw[Mem.objWords_get,show((i.toNat:Nat):Int)=i by omega];rfl
  rw[show(i+1).toNat=i.toNat+1 by omega,EL A,N];have O:((nc (some (g,x))).len w).toNat-i.toNat=(((nc (some (g,x))).len w).toNat-(i.toNat+1))+1:=GF;rw[O,List.replicate_succ,List.set_append_right _ _ (by simp;omega)]at c;have L:i.toNat-(Bi (((nc (some (g,x))).objWords w).take i.toNat)).length=0:=by simp;omega
  rw[L,List.set_cons_zero]at c;simpa[Bi]using c
def kI(ws:List Int):ByteArray:=jT (ws.map λx=>if x>1114111 then 65533 else x)
theorem qs{w:Int}(V:View H d i)(hw:aO w):
  fO.C d w H (λv E=>v=(if(nc i).isObj w/\(nc i).typ w=2 then .tuple #[.string (kI ((nc i).objWords w)),vi 0]else .tuple #[.string ⟨#[]⟩,vi 3])/\Ext H E):=by
 refine Ei λR Q=>fO.link ?_;unfold fO.pt zY;refine gc (pf V hw) ?_;rintro _ A ⟨P,⟨M,rfl⟩ | ⟨W,ht,b,hb,rfl,B⟩⟩
 ·refine⟨_,_,_,_,rfl,?_⟩;rw[kb GG];exact Q _ _ ⟨by rw[kb M],P⟩
 refine⟨_,_,_,_,rfl,?_⟩;rw[ka rfl];have N:=V.objWord w;have T:((nc i).objWords w).length<=62:=by rw[Gd];have:=V.len_bd w;omega
 generalize (nc i).objWords w=f at*;have Y:b<A.size:=B.lt b GH;refine⟨λp n c a8 E=>(0<=a8/\a8<=f.length)/\Ext A E/\Own E 21 1 p n c (((f.take a8.toNat).map λx=>if x>1114111 then 65533 else x).map (Value.int .i32))/\n=a8.toNat/\(∀j,j∈l6 p->A.size<=j),λ_ _ _ a8 _=>(f.length-a8).toNat,⟨⟨GF,GF⟩,ED _,by simpa using gW,rfl,GH⟩,?_⟩;rintro p n c a8 G ⟨Z,F,l,rfl,r⟩;by_cases z:a8< (f.length:Int)
 case neg=>
  rw[kb z];have e:f.take a8.toNat=f:=ES GF;rw[e]at l;refine⟨f.map λx=>if x>1114111 then 65533 else x,⟨l.src,λ_=>by have:=l.len;simpa using this⟩,Q _ _ ⟨?_,P.trans F⟩⟩;rw[ka ⟨W,ht⟩];rfl
 rw[ka z];have u:a8.toNat<f.length:=GF;have m:=(B.ext F).at (j:=a8.toNat) (v:=vu f[a8.toNat]) (by simp[Bi,u]);obtain⟨a,X,m⟩:=m;obtain rfl:=FN X;refine⟨_,rfl,⟨Z.1,z⟩,f[a8.toNat],by rw[EG];exact m,?_⟩;have hx:=N _ (Eu u)
 have s: ∀(y:Int) (t:Nat) (q:zV),(if f[a8.toNat]>1114111 then(65533:Int)else f[a8.toNat])=y->t=G.size->q=G.push (.cells #[.int .i32 y] 21)->
   dY 1 21 4 [.int .i32 0] p a8.toNat c (some (Addr.mk t 0 none)) 1 q (λO J I=>((0<=IntKind.wrap .i64 (a8+1)/\IntKind.wrap .i64 (a8+1)<=f.length)/\Ext A I/\Own I 21 1 O (a8.toNat+1) J (((f.take (IntKind.wrap .i64 (a8+1)).toNat).map λx=>if x>1114111 then 65533 else x).map (Value.int .i32))/\a8.toNat+1=(IntKind.wrap .i64 (a8+1)).toNat/\(∀j,j∈l6 O->A.size<=j))/\((f.length:Int)-IntKind.wrap .i64 (a8+1)).toNat< ((f.length:Int)-a8).toNat):=by
  intro y t q hy o g;have K:Ext G q:=Eh g;rw[n5 (n:=a8+1) GF];refine dE (ys:=[.int .i32 y]) (l.ext K) (cX (aK o g) _ 0 0 (λj S=>GH)) GH rfl rfl GF ?_;intro p' c' I D U L;refine⟨⟨⟨GF,GF⟩,(F.trans K).fr_trans U r,?_,GF,λj S=>?_⟩,GF⟩
  ·rw[show(a8+1).toNat=a8.toNat+1 by omega,EL u,E4,E4];simpa[hy]using D
  ·rcases L j S with h | h
   ·exact r j h
   ·have:=(F.trans K).size;omega
 by_cases k:f[a8.toNat]>1114111
 ·rw[ka k];intro t q o g;exact s 65533 t q (by rw[ka k]) o g
 ·rw[kb k];intro t q o g;have a3:=hx.1;rw[CQ (n:=f[a8.toNat]) GF]at g;exact s _ t q (by rw[kb k]) o g
end Go.Proofs.YtillhdiiglamhaaGreatDoor
namespace Go.Proofs.YtillhdiiglamhaaGreatDoor
open Go
open Int(toNat)
variable{a:List Int}{H:zV}{b:zW}{d g:Nat}{i:Bool}{j:Int}
abbrev Br(ls:List Int):List Value:=ls.map (Value.int .u32)
theorem ly: ∀a:List Int,kF (Br a)=true
  | []=>rfl
  | w::ws=>by show(true && kF (Br ws))=true;rw[ly ws];rfl
abbrev gK(x:Int):Prop:=0<=x/\x<4294967296
def Bz(ls:List Int):Nat->Nat
  | 0=>0
  | k+1=>if ls.getD k 0=0 then Bz ls k else k+1
theorem wz(a:List Int): ∀k,Bz a k<=k
  | 0=>Er _
  | k+1=>by unfold Bz;split<;>have:=wz a k<;>omega
theorem sf(a:List Int): ∀k i,Bz a k<=i->i<k->a.getD i 0=0
  | 0,i,_,h=>GF
  | k+1,i,h,hi=>by
    unfold Bz at h;by_cases c:a.getD k 0=0
    · rw[ka c]at h;by_cases b:i=k
      · rw[b];exact c
      · exact sf a k i h GF
    · rw[kb c]at h;omega
theorem lX(a:List Int): ∀k,Bz a k≠0->a.getD (Bz a k-1) 0≠0
  | 0,h=>absurd rfl h
  | k+1,h=>by
    unfold Bz at h⊢;by_cases b:a.getD k 0=0
    · rw[ka b]at h⊢;exact lX a k h
    · rw[kb b]at h⊢;exact b
abbrev wg(ls:List Int):Nat:=Bz ls ls.length
theorem oK(a:List Int):wg a<=a.length:=wz _ _
def oo(ls:List Int):List Int:=ls.take (wg ls)
theorem jU(a:List Int):(oo a).length=wg a:=by unfold oo;rw[E6];have:=oK a;omega
theorem lY(a:List Int)(i:Nat)(h:wg a<=i):a.getD i 0=0:=by
  by_cases b:i<a.length
  · exact sf a _ i h b
  · rw[List.getD,List.getElem?_eq_none GF];rfl
theorem oL(a:List Int)(i:Nat):(oo a).getD i 0=a.getD i 0:=by
  by_cases b:i<wg a
  · rw[List.getD,List.getD,oo,List.getElem?_take,ka b]
  · rw[lY a i GF,List.getD,List.getElem?_eq_none (by rw[jU];omega)];rfl
theorem qt{a b:List Int}(h: ∀i,a.getD i 0=b.getD i 0): ∀k,Bz a k=Bz b k
  | 0=>rfl
  | k+1=>by unfold Bz;rw[h k,qt h k]
theorem oM(a:List Int)(h: ∀i,a.length<=i->a.getD i 0=0): ∀d,Bz a (a.length+d)=Bz a a.length
  | 0=>rfl
  | d+1=>by
    show(if a.getD (a.length+d) 0=0 then Bz a (a.length+d)else _)=_;rw[ka (h _ GF),oM a h d]
theorem nj(a:List Int)(i:Nat)(h:a.length<=i):a.getD i 0=0:=by rw[List.getD,List.getElem?_eq_none h];rfl
theorem qu{b:List Int}(h: ∀i,a.getD i 0=b.getD i 0):oo a=oo b:=by
  have e:wg a=wg b:=by
    have c:=oM a (nj a) b.length;have d:=oM b (nj b) a.length;show Bz a a.length=Bz b b.length;rw[<-c,<-d,Nat.add_comm b.length,qt h]
  refine FS (by rw[jU,jU,e]) λi c d=>?_;have:=h i;rw[<-oL a,<-oL b,Ff c,Ff d]at this;exact this
theorem si(a:List Int):oo (oo a)=oo a:=qu (oL a)
theorem mU(a:List Int):wg (oo a)=wg a:=by rw[<-jU (oo a),si,jU]
theorem uh(h:j∈oo a):j∈a:=FR h
theorem Cd{c:Addr}(h:aI H c 0 (Br a)){i:Nat}(b:i<a.length):hat H (c.add i)=some (.int .u32 (a.getD i 0)):=by
  have:=gM h i (.int .u32 (a.getD i 0)) (by simp[Br,b]);rw[Eo]at this;exact this
theorem kB(h:bV H b (Br a))(c:0<a.length): ∃d,b=some d/\aI H d 0 (Br a):=by
  cases b with
  | none=>rw[Ge]at h;simp[Br]at h;subst h;simp at c
  | some d=>exact⟨d,rfl,h⟩
theorem ui{vs:List Value}(h:bV H b vs)(k:Nat):bV H b (vs.take k):=by
  cases b with
  | none=>rw[Ge]at h;subst h;simp
  | some a=>
    rw[SrcAt_some]at h⊢;refine jS λj v c=>?_
    have d:vs[j]?=some v:=by
      rw[List.getElem?_take]at c;split at c
      · exact c
      · cases c
    exact gM h j v d
theorem yo(a:List Int)(k:Nat):Br (a.take k)=(Br a).take k:=by simp[Br,List.map_take]
theorem nM(u:bV H b (Br a))(hn:d=a.length)(y:d<=g)(r:d<4611686018427387904):
    jw.C b d g H (λv m=> ∃c,v=vs b (wg a) c/\wg a<=c/\m=H):=by
  refine Ei λR p=>jw.link ?_;unfold jw.pt zY;refine⟨λl m=> ∃k:Nat,l=k/\k<=d/\Bz a k=wg a/\m=H,λl _=>l.toNat,⟨d,rfl,Er _,by rw[hn],rfl⟩,?_⟩;rintro l x ⟨k,rfl,hk,h,rfl⟩;by_cases o:(k:Int)>0
  · rw[ka o];obtain⟨j,rfl⟩: ∃j,k=j+1:=⟨k-1,GF⟩;have w:IntKind.wrap .i64 (((j+1:Nat):Int)-1)=(j:Int):=by rw[n5 GF];omega
    rw[w];obtain⟨z,rfl,t⟩:=kB u GF;refine⟨z,rfl,⟨GF,GF⟩,a.getD j 0,by rw[show toNat (j:Int)*1=j by omega];exact Cd t GF,?_⟩;by_cases i:a.getD j 0=0
    · rw[ka i];refine⟨⟨j,rfl,GF,?_,rfl⟩,by show((j:Int)).toNat< (((j+1:Nat):Int)).toNat;omega⟩;rw[<-h];show _=(if _=0 then _ else _);rw[ka i]
    · rw[kb i];have s:wg a=j+1:=by rw[<-h];show(if _=0 then _ else _)=_;rw[kb i]
      refine⟨0,j+1,rfl,rfl,GF,GF,λq e=>?_⟩;rw[kb GF]at e;simp only[Option.map_some,Nat.zero_mul,mj]at e;refine p _ _ ⟨g-0,?_,GF,rfl⟩;rw[e,s,Nat.sub_zero]
  · rw[kb o];have n:k=0:=GF;subst n;refine⟨0,0,rfl,rfl,GF,GF,λq e=>?_⟩
    have f:q=b:=by
      rw[e];by_cases hm:g=0
      · rw[ka hm]
      · rw[kb hm];cases b<;>simp[mj]
    refine p _ _ ⟨g-0,?_,?_,rfl⟩
    · rw[f,<-h];rfl
    · rw[<-h];exact Fm _
structure iU (lo:Nat) (H:zV) (B:zW) (n c:Nat) (ls:List Int):Prop where
  own:Own H 91 1 B n c (Br ls)
  young: ∀i,i∈l6 B->lo<=i
theorem iU.len{H:zV}{B:zW}{n c:Nat}(h:iU d H B n c a):n=a.length:=by
  have:=h.own.len;simp at this;omega
theorem iU.le{n c:Nat}(h:iU d H b n c a):n<=c:=h.own.le
theorem iU.ext{f:zV}{n c:Nat}(h:iU d H b n c a)(e:Ext H f):iU d f b n c a:=⟨h.own.ext e,h.young⟩
theorem iU.keep{S:List Nat}{f:zV}{n c:Nat}(h:iU d H b n c a)(k:Fr S H f)(g: ∀i,i∈S->i<d):iU d f b n c a:=
  ⟨h.own.keep k (λl j e=>by have:=h.young l j;have:=g l e;omega),h.young⟩
theorem iU.low{n c:Nat}(h:iU d H b n c a)(f:g<=d):iU g H b n c a:=⟨h.own,λi e=>Fe f (h.young i e)⟩
theorem uj{ls:List Int}(m:bV H b (Br ls))(hn:d=ls.length)(x:d<=1000000):
    bH.C b d g H (λv r=> ∃B c,v=vs B d c/\iU H.size r B d c ls/\Ext H r):=by
  refine Ei λR t=>bH.link ?_;unfold bH.pt
  cases b with
  | none=>
    rw[Ev];rw[Ge]at m;simp[Br]at m;subst m;simp at hn;subst hn;exact t _ _ ⟨none,0,rfl,⟨gW,GH⟩,ED _⟩
  | some a=>
    rw[El];intro z s o e;have n:Ext H s:=Eh e;have u:Own s 91 1 (some ⟨z,0,none⟩) 0 0 []:=⟨rfl,_,aK o e,rfl,Er _,rfl,λj y=>GF⟩;refine dE u (n.rowAt m) (by simp[Br,hn]) (ly _) rfl GF ?_;intro p c w l f k;rw[Eo]at l⊢;refine t _ _ ⟨p,c,rfl,⟨by simpa using l,λi q=>?_⟩,n.fr_trans f (λi q=>by simp at q;omega)⟩;rcases k i q with h | h
    · simp at h;omega
    · have:=n.size;omega
def eL(neg:Bool)(ls:List Int):Bool×List Int×Int:=if 48<wg ls then(false,[],6)else(neg && decide (0<wg ls),oo ls,0)
theorem qv:iU d H none 0 0 []:=⟨gW,GH⟩
theorem qw{ls:List Int}(Z:bV H b (Br ls))(hn:d=ls.length)(W:d<=g)(U:d<=1000000):
    jj.C i b d g H (λv F=> ∃B n c,v=.tuple #[.agg #[.bool (eL i ls).1,vs B n c],vi (eL i ls).2.2]/\iU H.size F B n c (eL i ls).2.1/\Ext H F):=by
  refine Ei λR L=>jj.link ?_;unfold jj.pt;intro a1 G M o;have y:Ext H G:=Eh o;have u:bV G b (Br ls):=Z.ext y;refine gc (nM u hn W GF) ?_;rintro _ O ⟨c,rfl,a0,rfl⟩;refine⟨_,_,_,rfl,?_⟩;have N:=aK M o;have X:=oK ls;by_cases s:(wg ls:Int)>48
  · rw[ka s];obtain⟨p,q⟩:=fe (vs:=[VF,VN]) M o rfl rfl;refine⟨p,λP z=>?_⟩;obtain⟨S,Q⟩:=q P z;refine⟨_,_,_,_,bA S,L _ _ ⟨none,0,0,?_,?_,Q⟩⟩
    · unfold eL;rw[ka GF]
    · unfold eL;rw[ka GF];exact qv
  rw[kb s];have t: ¬48<wg ls:=GF
  have key: ∀(w:Bool),w=(i && decide (0<wg ls))->bH.C b (wg ls) c O (λv x=> ∃k:zW,∃m:Nat,∃l:Nat,v=vs k m l/\(aF x (Addr.mk a1 0 none) 0 2)/\ ∀r:zV,r=aL x (Addr.mk a1 0 none) [.bool w,vs k m l] 0->
    ∃j:Bool,∃a:zW,∃f:Nat,∃e:Nat,aI r (Addr.mk a1 0 none) 0 [.bool j,vs a f e]/\R (.tuple #[.agg #[.bool j,vs a f e],vi 0]) r):=by
    intro w E;refine gc (uj (ls:=oo ls) (by unfold oo;rw[yo];exact ui u _) (jU ls).symm GF) ?_;rintro _ x ⟨B,I,rfl,Y,J⟩;refine⟨_,_,_,rfl,?_⟩;obtain⟨p,q⟩:=ff (vs:=[.bool w,vs B (wg ls) I]) (J.get N) rfl rfl;refine⟨p,λr A=>?_⟩;obtain⟨T,K⟩:=q r A;have V:=aS N;refine⟨_,_,_,_,bA T,L _ _ ⟨B,wg ls,I,?_,?_,(y.trans J).fr_trans K (λa2 D=>by simp at D;omega)⟩⟩
    · unfold eL;rw[kb t,E]
    · unfold eL;rw[kb t];refine(Y.keep K (λa2 D=>by simp at D;omega)).low (by have:=y.size;omega)
  by_cases h:i=true
  · rw[ka h];exact key _ (by rw[h,Bool.true_and];exact F2.2 GF)
  · rw[kb h];exact key _ (by rw[show i=false by simpa using h,FM])
theorem vo(K:bV H b (Br a))(hn:d=a.length)(I:d<=g)(l:d<=1000000):
    kw.C i b d g H (λv s=> ∃B n c,v=.tuple #[.agg #[.bool (eL i a).1,vs B n c],vi (eL i a).2.2]/\iU H.size s B n c (eL i a).2.1/\Ext H s):=by
  refine Ei λR F=>kw.link ?_;unfold kw.pt;intro N t G e M z o f;have k:Ext H t:=Eh e;have j:Ext t z:=Eh f;have y:=j.get (aK G e);have h:=aK o f;refine⟨i,by rw[aW y];rfl,b,d,g,by rw[fu y];rfl,?_⟩;refine gc (qw (K.ext (k.trans j)) hn I l) ?_;rintro _ L ⟨B,n,c,rfl,J,u⟩;refine⟨_,_,_,_,_,rfl,?_⟩;obtain⟨p,r⟩:=ff (vs:=[.bool (eL i a).1,vs B n c]) (u.get h) rfl rfl;refine⟨p,λA m=>?_⟩;obtain⟨D,w⟩:=r A m;have x:=aS h;have E:=k.size;refine⟨_,_,_,_,bA D,F _ _ ⟨B,n,c,rfl,?_,((k.trans j).trans u).fr_trans w (λO q=>by simp at q;omega)⟩⟩;exact(J.keep w (λO q=>by simp at q;omega)).low (by have:=j.size;omega)
def sj(ls:List Int):Int:=ls.getD 0 0+4294967296*ls.getD 1 0
def Db(ls:List Int)(k:Int):Int:=if k=0 then 0 else if k=1 then ls.getD 0 0 else sj ls
def Bg(neg:Bool)(ls:List Int):Int×Bool:=
  if 2<wg ls then(0,false)else if sj ls>1152921504606846976 then(0,false)else if sj ls=1152921504606846976/\neg=false then(0,false)
  else if neg=true then(-sj ls,true)else(sj ls,true)
theorem jM(h: ∀x∈a,gK x)(i:Nat):gK (a.getD i 0):=by
  by_cases b:i<a.length
  · rw[Ff b];exact h _ (Eu b)
  · rw[nj a i GF];exact⟨GF,GF⟩
theorem Au{h:Int}(a:gK j)(c:gK h):mp .u64 j (h*4294967296)=j+4294967296*h:=by
  have b:mp .u64 j (h*4294967296)=mp .u64 (h*4294967296) j:=by
    rw[mb ⟨a.1,GF⟩ ⟨GF,GF⟩,mb ⟨GF,GF⟩ ⟨a.1,GF⟩,Nat.or_comm]
  rw[b,lI 32 ⟨GF,GF⟩ (by show _ % (4294967296:Int)=0;omega) ⟨a.1,by show _< (4294967296:Int);omega⟩ GG];omega
theorem yp(h:wg a<=2):Db a (wg a)=sj a:=by
  unfold Db sj;by_cases b:wg a=0
  · rw[ka GF,lY a 0 GF,lY a 1 GF];rfl
  rw[kb GF];by_cases c:wg a=1
  · rw[ka GF,lY a 1 GF];omega
  rw[kb GF]
theorem wX(U:bV H b (Br a))(hn:d=a.length)(Q:d<=g)(M:d<=1000000)(y: ∀x∈a,gK x):
    k7.C i b d g H (λv D=>v=.tuple #[vi (Bg i a).1,.bool (Bg i a).2]/\Ext H D):=by
  refine Ei λR t=>k7.link ?_;unfold k7.pt zY;intro a0 I P w;have o:Ext H I:=Eh w;have L:=aK P w;have B:bV I b (Br a):=U.ext o;have k:=jM y 0;have q:=jM y 1;have N:sj a=a.getD 0 0+4294967296*a.getD 1 0:=rfl;refine⟨b,d,g,by rw[fu L];rfl,?_⟩;refine gc (nM B hn Q GF) ?_;rintro _ J ⟨c,rfl,X,rfl⟩;have S:=oK a;have l:hat J (Addr.mk a0 0 none)=some (.bool i):=by rw[aW L];rfl
  refine⟨_,_,_,rfl,?_⟩;refine⟨λx s D=>D=J/\(0<=s/\s<=2/\s<=(wg a:Int))/\x=Db a s,λx s D=>(2-s).toNat,⟨rfl,⟨GF,GF,GF⟩,rfl⟩,?_⟩;rintro x s Y ⟨rfl,⟨F,V,W⟩,rfl⟩;by_cases m:s< (if 2< (wg a:Int)then 2 else(wg a:Int))
  · rw[ka m];have z:s<2/\s< (wg a:Int):=by split at m<;>omega
    obtain⟨Z,rfl,T⟩:=kB B GF;have u:IntKind.wrap .i64 (32*s)=32*s:=n5 GF;refine⟨Z,rfl,⟨F,z.2⟩,a.getD s.toNat 0,by rw[EG];exact Cd T GF,by rw[u];omega,⟨rfl,⟨by rw[n5 GF];omega,by rw[n5 GF];omega,by rw[n5 GF];omega⟩,?_⟩,by show(2-IntKind.wrap .i64 (s+1)).toNat< (2-s).toNat;rw[n5 GF];omega⟩;rw[u,n5 (n:=s+1) GF];rcases(show s=0\/s=1 by omega)with rfl | rfl
    · rw[show(0:Int).toNat=0 from rfl,BN (n:=a.getD 0 0) ⟨k.1,GF⟩,kt (32*0) 0 rfl GG];show mp .u64 0 _=a.getD 0 0;rw[show a.getD 0 0*2 ^ 0 % 18446744073709551616=a.getD 0 0 by rw[Int.pow_zero,Int.mul_one];omega,mb ⟨GG,GG⟩ ⟨k.1,GF⟩];rw[show(0:Int).toNat=0 from rfl,Nat.zero_or];have:=k.1;omega
    · rw[show(1:Int).toNat=1 from rfl,BN (n:=a.getD 1 0) ⟨q.1,GF⟩,kt (32*1) 32 rfl GG];show mp .u64 (a.getD 0 0) _=sj a;rw[show a.getD 1 0*2 ^ 32 % 18446744073709551616=a.getD 1 0*4294967296 by show a.getD 1 0*(4294967296:Int) % 18446744073709551616=_;omega,Au k q];rfl
  rw[kb m];by_cases K:(wg a:Int)>2
  · rw[ka K];refine t _ _ ⟨?_,o⟩;unfold Bg;rw[ka GF]
  rw[kb K]
  have G:s=(wg a:Int):=by
    rw[kb GF]at m;omega
  subst G;rw[yp GF];have f: ¬2<wg a:=GF;by_cases p:sj a>1152921504606846976
  · rw[ka p];refine t _ _ ⟨?_,o⟩;unfold Bg;rw[kb f,ka p]
  rw[kb p];have O:0<=sj a:=by rw[N];exact Int.add_nonneg k.1 (by have:=q.1;omega)
  have j:IntKind.wrap .i64 (0-IntKind.wrap .i64 (sj a))= -sj a:=by rw[n5 (n:=sj a) GF,n5 GF];omega
  have r:IntKind.wrap .i64 (sj a)=sj a:=n5 GF;by_cases E:sj a=1152921504606846976
  · rw[ka E];refine⟨i,l,?_⟩;by_cases e:i=true
    · rw[ka e];refine⟨i,l,?_⟩;rw[ka e,j];refine t _ _ ⟨?_,o⟩;unfold Bg;rw[kb f,kb p,kb (λh=>by rw[e]at h;exact absurd h.2 GG),ka e]
    · rw[kb e];refine t _ _ ⟨?_,o⟩;unfold Bg;rw[kb f,kb p,ka ⟨E,by simpa using e⟩]
  rw[kb E];refine⟨i,l,?_⟩;have A: ¬(sj a=1152921504606846976/\i=false):=λh=>E h.1;by_cases e:i=true
  · rw[ka e,j];refine t _ _ ⟨?_,o⟩;unfold Bg;rw[kb f,kb p,kb A,ka e]
  · rw[kb e,r];refine t _ _ ⟨?_,o⟩;unfold Bg;rw[kb f,kb p,kb A,kb e]
def mag(x:Int):Int:=if x<0 then-x else x
def Ca(x:Int):List Int:=[mag x % 4294967296,mag x / 4294967296]
theorem yr(hx:BT j):
    mf.C j H (λv U=> ∃B n c,v=.agg #[.bool (eL (decide (j<0)) (Ca j)).1,vs B n c]/\iU H.size U B n c (eL (decide (j<0)) (Ca j)).2.1/\Ext H U):=by
  refine Ei λR hR=>mf.link ?_;unfold mf.pt;intro b G hb D;have V:Ext H G:=Eh D;have Z:=aK hb D;have a5:=aS Z
  have key: ∀(x:Nat) (t:zV),x=G.size->t=G.push (.cells #[.int .u32 (mag j % 4294967296),.int .u32 (mag j / 4294967296)] 91)->
      jj.C (decide (j<0)) (some (Addr.mk x 0 none)) 2 2 t (λv J=> ∃o:Bool,∃e:zW,∃g:Nat,∃f:Nat,∃rb:Int,v=.tuple #[.agg #[.bool o,vs e g f],vi rb]/\
       ∀(s:Nat) (I:zV),s=J.size->I=J.push (.cells #[VF,VN] 24)->
       (aF I (Addr.mk s 0 none) 0 2)/\ ∀y:zV,y=aL I (Addr.mk s 0 none) [.bool o,vs e g f] 0->
       ∃w:Bool,∃p:zW,∃r:Nat,∃q:Nat,aI y (Addr.mk s 0 none) 0 [.bool w,vs p r q]/\
       (aF y (Addr.mk b 0 none) 0 2)/\ ∀z:zV,z=aL y (Addr.mk b 0 none) [.bool w,vs p r q] 0->
       ∃u:Bool,∃k:zW,∃m:Nat,∃l:Nat,aI z (Addr.mk b 0 none) 0 [.bool u,vs k m l]/\
       R (.agg #[.bool u,vs k m l]) z):=by
    intro x t h d;have W:Ext G t:=Eh d;have P:=aK h d;refine gc (qw (ls:=Ca j) (cX P _ 0 0 (λab hj=>by simp[Ca,Br])) rfl (Er _) GG) ?_;rintro _ J ⟨B,n,c,rfl,hr,e3⟩;refine⟨_,_,_,_,_,rfl,?_⟩;intro b3 I N K;obtain⟨O,T⟩:=fe (vs:=[.bool (eL (decide (j<0)) (Ca j)).1,vs B n c]) N K rfl rfl;refine⟨O,λy L=>?_⟩;obtain⟨g5,X⟩:=T y L;refine⟨_,_,_,_,bA g5,?_⟩;have A:=(W.trans e3).trans X;obtain⟨E,F⟩:=ff (vs:=[.bool (eL (decide (j<0)) (Ca j)).1,vs B n c]) (A.get Z) rfl rfl;refine⟨E,λz M=>?_⟩;obtain⟨g6,Y⟩:=F z M;refine⟨_,_,_,_,bA g6,hR _ _ ⟨B,n,c,rfl,?_,(V.trans A).fr_trans Y (λi Q=>by simp at Q;omega)⟩⟩;have:=W.size;exact((hr.ext X).keep Y (λi Q=>by simp at Q;omega)).low (by have:=V.size;omega)
  by_cases a:j<0
  · rw[ka a];intro x t h d;have hm:IntKind.wrap .u64 (0-IntKind.wrap .u64 j)=mag j:=by rw[nX,nX];unfold mag;rw[ka a];omega
    have S:0<=mag j/\mag j<=9223372036854775808:=by unfold mag;rw[ka a];omega
    rw[hm,kr 32 32 rfl GG,nY,nY,show(2 ^ 32:Int)=4294967296 from rfl,show mag j / 4294967296 % 4294967296=mag j / 4294967296 by omega]at d;exact key x t h d
  · rw[kb a];intro x t h d;have hm:IntKind.wrap .u64 j=mag j:=by rw[nX];unfold mag;rw[kb a];omega
    have S:0<=mag j/\mag j<=9223372036854775808:=by unfold mag;rw[kb a];omega
    rw[hm,kr 32 32 rfl GG,nY,nY,show(2 ^ 32:Int)=4294967296 from rfl,show mag j / 4294967296 % 4294967296=mag j / 4294967296 by omega]at d;exact key x t h d
def Bv(neg:Bool)(ls:List Int):Bool:=decide (ls.length<=48) && (decide (wg ls=ls.length) && (!neg || decide (0<ls.length)))
theorem sn(x:bV H b (Br a))(hn:d=a.length)(w:d<=g)(t:d<=1000000):
    kP.C i b d g H (λv s=>v=.bool (Bv i a)/\Ext H s):=by
  refine Ei λR l=>kP.link ?_;unfold kP.pt;intro A m u j;have f:Ext H m:=Eh j;have q:=aK u j;have hm:hat m ((Addr.mk A 0 none).add 1)=some (vs b d g):=by rw[fu q];rfl
  have k:hat m (Addr.mk A 0 none)=some (.bool i):=by rw[aW q];rfl
  refine⟨b,d,g,hm,?_⟩;by_cases h:(d:Int)<=48
  · rw[ka h];refine⟨b,d,g,hm,b,d,g,hm,i,k,b,d,g,hm,?_⟩;refine gc (nM (x.ext f) hn w GF) ?_;rintro _ z ⟨c,rfl,y,rfl⟩;refine⟨_,_,_,rfl,⟨hm,GB⟩,⟨k,GB⟩,⟨hm,GB⟩,?_⟩;have n:decide (a.length<=48)=true:=zX GF;by_cases r:(wg a:Int)=(d:Int)
    · rw[ka r];have o:decide (wg a=a.length)=true:=zX GF;by_cases e:i=true
      · rw[ka e];refine l _ _ ⟨?_,f⟩;unfold Bv;rw[n,o,e];simp;rw[hn]
      · rw[kb e];refine l _ _ ⟨?_,f⟩;unfold Bv;rw[n,o,show i=false by simpa using e];rfl
    · rw[kb r];refine l _ _ ⟨?_,f⟩;unfold Bv;rw[zQ (p:=wg a=a.length) GF];simp
  · rw[kb h];refine l _ _ ⟨?_,f⟩;unfold Bv;rw[zQ (p:=a.length<=48) GF];rfl
theorem qx{z:Bool}{B:zW}{u P:Nat}{m:List Int}(V:bV H b (Br a))(L:d=a.length)(W:bV H B (Br m))(M:u=m.length)(U:d<=1000000):
    dP.C i b d g z B u P H (λv A=>v=.bool (decide (i=z/\a=m))/\Ext H A):=by
  refine Ei λR x=>dP.link ?_;unfold dP.pt zY;intro a1 O F o T t G p;have n:Ext H O:=Eh o;have e:Ext O t:=Eh p;have Q:=e.get (aK F o);have r:=aK G p;have E:=V.ext (n.trans e);have q:=W.ext (n.trans e);have l:hat t ((Addr.mk a1 0 none).add 1)=some (vs b d g):=by rw[fu Q];rfl
  have s:hat t ((Addr.mk T 0 none).add 1)=some (vs B u P):=by rw[fu r];rfl
  refine⟨i,by rw[aW Q];rfl,z,by rw[aW r];rfl,?_⟩;by_cases w:i=z
  case neg=>rw[kb w];exact x _ _ ⟨by rw[zQ (λh=>w h.1)],n.trans e⟩
  rw[ka w];refine⟨_,_,_,l,_,_,_,s,?_⟩;by_cases D:(d:Int)=(u:Int)
  case neg=>rw[kb D];exact x _ _ ⟨by rw[zQ (λh=>D (by rw[L,M,h.2]))],n.trans e⟩
  rw[ka D];refine⟨λa2 A=>A=t/\ ∃k:Nat,a2=k/\k<=d/\ ∀j,j<k->a.getD j 0=m.getD j 0,λa2 _=>(d-a2).toNat,⟨rfl,0,rfl,GF,λj I=>GF⟩,?_⟩;rintro a2 Z ⟨rfl,k,rfl,hk,c⟩;refine⟨_,_,_,l,?_⟩;by_cases f:(k:Int)< (d:Int)
  · rw[ka f];obtain⟨a0,rfl,Y⟩:=kB E GF;obtain⟨S,rfl,N⟩:=kB q GF;refine⟨_,_,_,l,a0,rfl,⟨GF,f⟩,a.getD k 0,by rw[show toNat (k:Int)*1=k by omega];exact Cd Y GF,_,_,_,s,S,rfl,⟨GF,GF⟩,m.getD k 0,by rw[show toNat (k:Int)*1=k by omega];exact Cd N GF,?_⟩;by_cases y:a.getD k 0=m.getD k 0
    · rw[ka y];refine⟨⟨rfl,k+1,by rw[n5 GF];omega,GF,λj I=>?_⟩,by show((d:Int)-IntKind.wrap .i64 ((k:Int)+1)).toNat< ((d:Int)-(k:Int)).toNat;rw[n5 GF];omega⟩;by_cases K:j=k
      · rw[K];exact y
      · exact c j GF
    · rw[kb y];exact x _ _ ⟨by rw[zQ (λh=>y (by rw[h.2]))],n.trans e⟩
  · rw[kb f]
    have X:a=m:=FS GF λj I J=>by
      have:=c j GF;rw[Ff I,Ff J]at this;exact this
    exact x _ _ ⟨by rw[zX ⟨w,X⟩],n.trans e⟩
theorem zo(b: ∀x∈a,gK x)(h:(Bg i a).2=true): -1152921504606846976<=(Bg i a).1/\(Bg i a).1<1152921504606846976:=by
 have j:=jM b 0;have k:=jM b 1;have l:sj a=a.getD 0 0+4294967296*a.getD 1 0:=rfl;unfold Bg at h⊢;by_cases f:2<wg a
 ·rw[ka f]at h;exact absurd h GG
 rw[kb f]at h⊢;by_cases g:sj a>1152921504606846976
 ·rw[ka g]at h;exact absurd h GG
 rw[kb g]at h⊢;by_cases c:sj a=1152921504606846976/\i=false
 ·rw[ka c]at h;exact absurd h GG
 rw[kb c]at h⊢;by_cases d:i=true
 ·rw[ka d];exact⟨by show _<= -sj a;omega,by show-sj a<_;omega⟩
 ·rw[kb d];have:sj a≠1152921504606846976:=λe=>c ⟨e,by simpa using d⟩;exact⟨by show _<=sj a;omega,by show sj a<_;omega⟩
theorem vq(h: ∀x∈a,gK x): ∀x∈a,aO x:=λx b=>by have:=h x b;exact⟨this.1,GF⟩
theorem lz(h: ∀x∈a,gK x): ∀x∈oo a,gK x:=λx b=>h x (uh b)
def Ci(o:Option (Blk×Hp))(neg:Bool)(ls:List Int):Int×Int:=
 if 48<wg ls then(0,6)else if(Bg (eL neg ls).1 (oo ls)).2=true then(Cr (Bg (eL neg ls).1 (oo ls)).1,0)else iT o 3 (if(eL neg ls).1=true then 1 else 0) (oo ls)
def Cf(o:Option (Blk×Hp))(neg:Bool)(ls:List Int):Option (Blk×Hp):=
 if 48<wg ls then o else if(Bg (eL neg ls).1 (oo ls)).2=true then o else js o 3 (if(eL neg ls).1=true then 1 else 0) (oo ls)
theorem wY{o:Option (Blk×Hp)}{mB:zW}(V:View H b o)(a2:uf o)
  (hs:bV H mB (Br a)) (hn:d=a.length) (hc:d<=g) (W:d<=1000000) (l: ∀x∈a,gK x):
  gX.C b i mB d g H (λv D=>v=.tuple #[vu (Ci o i a).1,vi (Ci o i a).2]/\View D b (Cf o i a)/\Fr (own o) H D):=by
 refine Ei λR Z=>gX.link ?_;unfold gX.pt zY;intro b6 H1 hb I;have e1:Ext H H1:=Eh I;refine⟨_,_,_,_,bA (aK hb I),?_⟩;refine gc (vo (hs.ext e1) hn hc W) ?_;rintro _ H2 ⟨B,n,c,rfl,M,e2⟩;refine⟨_,_,_,_,_,rfl,?_⟩;intro b2 H3 a0 X;obtain⟨a3,a9⟩:=fe (vs:=[.bool (eL i a).1,vs B n c]) a0 X rfl rfl;refine⟨a3,λH4 Y=>?_⟩;obtain⟨g4,e4⟩:=a9 H4 Y;have t:=(e1.trans e2).trans e4;by_cases e:48<wg a
 ·have h6:(eL i a).2.2=6:=by unfold eL;rw[ka e]
  rw[h6,kb GG];refine Z _ _ ⟨?_,?_,t.fr⟩
  ·unfold Ci;rw[ka e]
  ·unfold Cf;rw[ka e];exact V.ext t
 have h0:(eL i a).2.2=0:=by unfold eL;rw[kb e]
 have ht:(eL i a).2.1=oo a:=by unfold eL;rw[kb e]
 rw[ht]at M;rw[h0,ka rfl];refine⟨_,_,_,_,bA g4,?_⟩;have N:=M.ext e4;have aN:=jU a;have az:=M.len;refine gc (wX N.own.src M.len M.le GF (lz l)) ?_;rintro _ H5 ⟨rfl,S⟩;refine⟨_,_,rfl,?_⟩;have u:=t.trans S;by_cases f:(Bg (eL i a).1 (oo a)).2=true
 ·rw[ka f];have a4:=zo (lz l) f;refine gc (va ⟨GF,GF⟩) ?_;rintro _ H6 ⟨rfl,e6⟩;rw[ka a4];refine⟨_,_,rfl,Z _ _ ⟨?_,?_,(u.trans e6).fr⟩⟩
  ·unfold Ci;rw[kb e,ka f]
  ·unfold Cf;rw[kb e,ka f];exact V.ext (u.trans e6)
 rw[kb f];have g5:=S.get g4;have aa:=N.ext S;refine⟨B,n,c,by rw[fu g5];rfl,?_⟩;refine⟨λp m b7 b8 D=> ∃k:Nat,b8=k/\k<=(oo a).length/\Ext H5 D/\Own D 37 1 p m b7 (Bi ((oo a).take k))/\m=k/\(∀j,j∈l6 p->H5.size<=j),λ_ _ _ b8 _=>((oo a).length-b8).toNat,⟨0,rfl,GF,ED _,by simpa using gW,rfl,GH⟩,?_⟩;rintro p m b7 b8 H7 ⟨k,rfl,hk,G,A,a7,J⟩;obtain rfl:=a7.symm;by_cases y:(k:Int)< (n:Int)
 ·rw[ka y];obtain⟨b5,rfl,O⟩:=kB (aa.ext G).own.src GF;refine⟨b5,rfl,⟨GF,y⟩,(oo a).getD k 0,by rw[show toNat (k:Int)*1=k by omega];exact Cd O GF,?_⟩;have a6:=jM (lz l) k;intro b3 H8 a1 w;rw[BN (n:=(oo a).getD k 0) ⟨a6.1,GF⟩]at w;have T:Ext H7 H8:=Eh w;refine dE (ys:=Bi [(oo a).getD k 0]) (A.ext T) (cX (aK a1 w) _ 0 0 (λj hj=>GH)) GH (j3 _) rfl GF ?_;intro p' c' H9 L f9 K;refine⟨⟨k+1,by rw[n5 GF];omega,GF,(G.trans T).fr_trans f9 J,?_,rfl,λj hj=>?_⟩,by show(((oo a).length:Int)-IntKind.wrap .i64 ((k:Int)+1)).toNat< (((oo a).length:Int)-(k:Int)).toNat;rw[n5 GF];omega⟩
  ·rw[EL GF,<-Ff GF 0];simpa[Bi]using L
  ·rcases K j hj with h | h
   ·exact J j h
   ·have:=(G.trans T).size;omega
 rw[kb y];have a5:k=(oo a).length:=GF;rw[a5,Fq]at A;refine⟨_,by rw[aW (G.get g5)];rfl,?_⟩;have F:=u.trans G
 have key: ∀P:Int,P=(if(eL i a).1=true then 1 else 0)->dO.C b 3 P p k b7 H7 (λab E=> ∃r:Int,∃s:Int,ab=.tuple #[vu r,vi s]/\R (.tuple #[vu r,vi s]) E):=by
  intro P z;have a8:aO P:=by rw[z];split<;>exact⟨GG,GG⟩
  refine gc (mi (ws:=oo a) (V.ext F) A.src GF (vq (lz l)) GG a8 a2 GF) ?_;rintro _ E ⟨rfl,Q,U⟩;refine⟨_,_,rfl,Z _ _ ⟨?_,?_,F.fr.trans U⟩⟩
  ·unfold Ci;rw[kb e,kb f,z]
  ·unfold Cf;rw[kb e,kb f,<-z];exact Q
 by_cases q:(eL i a).1=true
 ·rw[ka q];exact key 1 (by rw[ka q])
 ·rw[kb q];exact key 0 (by rw[kb q])
def Be(m:Mem)(w:Int):Bool×List Int×Int:=
 if w % 8=0 then((eL (decide (signed w / 8<0)) (Ca (signed w / 8))).1,(eL (decide (signed w / 8<0)) (Ca (signed w / 8))).2.1,0)
 else if m.isObj w/\m.typ w=3 then
  (if Bv (m.more w==1) ((m.objWords w).map (· % 4294967296))=true/\ ¬m.more w>1 then(m.more w==1,(m.objWords w).map (· % 4294967296),0)else(false,[],3))
 else(false,[],3)
theorem wZ{o:Option (Blk×Hp)}{w:Int}(V:View H b o)(hw:aO w):
  gY.C b w H (λv Z=> ∃B n c,v=.tuple #[.agg #[.bool (Be (nc o) w).1,vs B n c],vi (Be (nc o) w).2.2]/\iU H.size Z B n c (Be (nc o) w).2.1/\Ext H Z):=by
 refine Ei λR hR=>gY.link ?_;unfold gY.pt zY;intro cf H1 hb ab;have e1:Ext H H1:=Eh ab;have hg:=aK hb ab;have bT:=aS hg;refine gc (vb hw) ?_;rintro _ H2 ⟨rfl,e2⟩;have r:=e1.trans e2;have T:=e2.get hg
 have x: ∀(H5:zV),Ext H2 H5->Be (nc o) w=(false,[],3)->(aF H5 (Addr.mk cf 0 none) 0 2)/\ ∀Q:zV,Q=aL H5 (Addr.mk cf 0 none) [VF,VN] 0->
   ∃z:Bool,∃l:zW,∃q:Nat,∃m:Nat,aI Q (Addr.mk cf 0 none) 0 [.bool z,vs l q m]/\R (.tuple #[.agg #[.bool z,vs l q m],vi 3]) Q:=by
  intro H5 A O;obtain⟨G,K⟩:=ff (vs:=[VF,VN]) (A.get T) rfl rfl;refine⟨G,λH6 aX=>?_⟩;obtain⟨g6,f6⟩:=K H6 aX;refine⟨_,_,_,_,bA g6,hR _ _ ⟨none,0,0,by rw[O],by rw[O];exact qv,(r.trans A).fr_trans f6 (λi u=>by simp at u;omega)⟩⟩
 by_cases hf:w % 8=0
 ·rw[ka hf];refine⟨_,_,rfl,?_⟩;rw[ka rfl];have b7:BT (signed w / 8):=by unfold signed;split<;>exact⟨GF,GF⟩
  refine gc (yr b7) ?_;rintro _ H3 ⟨B,n,c,rfl,hr,e3⟩;refine⟨_,_,_,_,rfl,?_⟩;obtain⟨G,K⟩:=ff (vs:=[.bool (eL (decide (signed w / 8<0)) (Ca (signed w / 8))).1,vs B n c]) (e3.get T) rfl rfl;refine⟨G,λH4 aV=>?_⟩;obtain⟨g4,f4⟩:=K H4 aV;have c6:=e2.size;refine⟨_,_,_,_,bA g4,hR _ _ ⟨B,n,c,?_,?_,(r.trans e3).fr_trans f4 (λi u=>by simp at u;omega)⟩⟩
  ·unfold Be;rw[ka hf]
  ·unfold Be;rw[ka hf];exact(hr.keep f4 (λi u=>by simp at u;omega)).low (by have:=r.size;omega)
 rw[kb hf];refine⟨_,_,rfl,?_⟩;rw[kb GG];refine gc (pf (V.ext r) hw) ?_;rintro _ H5 ⟨A,⟨O,rfl⟩ | ⟨hO,b9,bw,bU,rfl,ai⟩⟩
 ·refine⟨_,_,_,_,rfl,?_⟩;rw[kb GG];exact x H5 A (by unfold Be;rw[kb hf,kb O])
 refine⟨_,_,_,_,rfl,?_⟩;rw[ka rfl];have bb:=V.objWord w;have bq:((nc o).objWords w).length<=62:=by rw[Gd];have:=V.len_bd w;omega
 have y:Be (nc o) w=(if Bv ((nc o).more w==1) (((nc o).objWords w).map (· % 4294967296))=true/\ ¬(nc o).more w>1 then((nc o).more w==1,((nc o).objWords w).map (· % 4294967296),0)else(false,[],3)):=by
  unfold Be;rw[kb hf,ka ⟨hO,b9⟩]
 refine gc (qo (V.ext (r.trans A)) hw) ?_;rintro _ H6 ⟨rfl,N⟩;refine⟨_,rfl,?_⟩;intro b2 H7 b3 b0;obtain⟨ag,aj⟩:=fe (vs:=[.bool ((nc o).more w==1),VN]) b3 b0 rfl rfl;refine⟨ag,λH8 b1=>?_⟩;obtain⟨g8,e8⟩:=aj H8 b1;have a3:=((r.trans A).trans N).trans e8;have P:=ai.ext (N.trans e8);have bo:=P.lt bw GH;have bn:=ai.lt bw GH;have bm:=aS g8;have bH:=N.size;generalize br:(nc o).objWords w=D at*;generalize b6:(nc o).more w=mo at*;refine⟨λs Z=> ∃(k:Nat) (p:zW) (d:Nat),s=k/\k<=D.length/\Z[b2]?=some (.cells #[.bool (mo==1),vs p k d] 24 (0,0))/\Own Z 91 1 p k d (Br ((D.map (· % 4294967296)).take k))/\(∀j,j∈l6 p->H8.size<=j)/\Fr [b2] H8 Z,λs _=>(D.length-s).toNat,⟨0,none,0,rfl,GF,g8,by simpa using gW,GH,Ey _ _⟩,?_⟩;rintro s H9 ⟨k,p,d,rfl,hk,g9,g,e,f9⟩;have ba:=P.keep f9 (λj L=>by simp at L⊢;omega);have a4:Ext H H9:=a3.fr_trans f9 (λi u=>by simp at u;have:=(((r.trans A).trans N)).size;omega);by_cases U:(k:Int)< (D.length:Int)
 ·rw[ka U];have hx:=bb _ (Eu (show k<D.length by omega));obtain⟨a,ha,af⟩:=ba.at (j:=k) (v:=vu D[k]) (by simp[Bi]);cases ha;refine⟨_,rfl,⟨GF,U⟩,D[k],by rw[show toNat (k:Int)*1=k by omega];exact af,p,k,d,by rw[fu g9];rfl,?_⟩;intro cc au b4 F;rw[nY]at F;have M:Ext H9 au:=Eh F;refine dE (ys:=Br [D[k] % 4294967296]) (g.ext M) (cX (aK b4 F) _ 0 0 (λj L=>GH)) GH (ly _) rfl GF ?_;intro p' c' bu W a8 ah;have az:=a8.get (λu=>by have:=e _ u;omega) (M.get g9);obtain⟨S,Y⟩:=ie az 1 (vs p' (k+1) c') (by show 1<2;omega);refine⟨S,λav ac=>?_⟩;obtain⟨aB,a9⟩:=Y av ac;have c7:=f9.size;have b8:=M.size
  have J: ∀j,j∈l6 p'->H8.size<=j:=λj L=>by
   rcases ah j L with h | h
   ·exact e j h
   ·omega
  refine⟨⟨k+1,p',c',by rw[n5 GF];omega,GF,aB,?_,J,?_⟩,by show((D.length:Int)-IntKind.wrap .i64 ((k:Int)+1)).toNat< ((D.length:Int)-(k:Int)).toNat;rw[n5 GF];omega⟩
  ·have aT:=W.keep a9 (λj L=>by have:=J j L;simp;omega);rw[EL (by simp;omega)];simpa[Br]using aT
  ·exact((f9.trans' M.fr (S'':=[b2]) (λi h _=>h) (λi h _=>h)).trans' a8 (S'':=[b2]) (λi h _=>h) (λi h hs=>absurd (e i h) GF)).trans a9
 rw[kb U];have bX:k=D.length:=GF;rw[ES (by simp;omega)]at g;refine⟨_,_,_,_,bA g9,?_⟩;refine gc (sn g.src (by simp;omega) g.le GF) ?_;rintro _ aw ⟨rfl,t⟩;refine⟨_,rfl,?_⟩;have b5:H9[cf]?=some (.cells #[VF,VN] 24 (0,0)):=f9.get (λu=>by simp at u;have:=(((e2.trans A).trans N)).size;omega) (((A.trans N).trans e8).get T);have a6:Ext H2 H9:=((A.trans N).trans e8).fr_trans f9 (λi u=>by simp at u;have:=((A.trans N)).size;omega);by_cases f:Bv (mo==1) (D.map (· % 4294967296))=true
 case neg=>
  rw[kb f];exact x aw (a6.trans t) (by rw[y,kb (λh=>f h.1)])
 rw[ka f];refine gc (qo (V.ext (a4.trans t)) hw) ?_;rintro _ ax ⟨rfl,E⟩;refine⟨_,rfl,?_⟩;rw[b6];by_cases I:mo>1
 ·rw[ka I];exact x ax ((a6.trans t).trans E) (by rw[y,kb (λh=>h.2 I)])
 rw[kb I];have aC:=(t.trans E).get g9;have X:=g.ext (t.trans E);refine⟨_,_,_,_,bA aC,?_⟩;obtain⟨G,K⟩:=ff (vs:=[.bool (mo==1),vs p k d]) ((t.trans E).get b5) rfl rfl;refine⟨G,λay ae=>?_⟩;obtain⟨aN,aa⟩:=K ay ae;have bk:=a3.size;have bE:=e2.size;have bl:=((A.trans N).trans e8).size;refine⟨_,_,_,_,bA aN,hR _ _ ⟨p,k,d,by rw[y,ka ⟨f,I⟩],?_,((a4.trans t).trans E).fr_trans aa (λi u=>by simp at u;omega)⟩⟩;rw[y,ka ⟨f,I⟩];exact⟨X.keep aa (λj L=>by have:=e j L;simp;omega),λj L=>by have:=e j L;omega⟩
end Go.Proofs.YtillhdiiglamhaaGreatDoor
namespace Go.Proofs.YtillhdiiglamhaaGreatDoor
open Go
variable{a:List Int}{b d:Nat}{H:zV}{g:zW}{i:Int}{j:Bool}
def CC(m k:Int):Int:=IntKind.wrap .u8 (l3 .u32 (o0 .u32 m k) 1)
def gV(m:Int):List Int:=(List.range 32).map λ(k:Nat)=>CC m (k:Int)
def bitsOf(ls:List Int):List Int:=ls.flatMap gV
abbrev Cn(l:List Int):List Value:=l.map (Value.int .u8)
theorem qy: ∀l:List Int,kF (Cn l)=true
 | []=>rfl
 | x::l=>by have:=qy l;simp only[Cn,List.map_cons];exact this
theorem iI(m:Int):(gV m).length=32:=by simp[gV]
theorem nN: ∀a:List Int,(bitsOf a).length=32*a.length
 | []=>rfl
 | m::a=>by simp only[bitsOf,List.flatMap_cons,E3,iI,List.length_cons];have:=nN a;unfold bitsOf at this;omega
theorem um(a:List Int)(m:Int):bitsOf (a++[m])=bitsOf a++gV m:=by simp[bitsOf]
theorem yt:((List.range 32).all λ(k:Nat)=>CC 0 (k:Int)==0)=true:=by kernel_rfl
theorem un(h:(bitsOf a)[b]?=some i)(d:i≠0):a.getD (b / 32) 0≠0:=by
 induction a generalizing b with
 | nil=>simp[bitsOf]at h
 | cons m r e=>
  simp only[bitsOf,List.flatMap_cons]at h;by_cases hn:b<32
  ·rw[List.getElem?_append_left (by rw[iI];exact hn)]at h;have:b / 32=0:=GF;rw[this];intro c;have c:m=0:=c;subst c;have:=F3.1 yt b (by simpa using hn);simp[gV,hn]at h;rw[<-h]at d;exact d (by simpa using this)
  ·rw[List.getElem?_append_right (by rw[iI];omega),iI]at h;have:=e h;rw[show b / 32=(b-32) / 32+1 by omega];simpa using this
theorem wA(h:bV H g (Cn a))(c:b<a.length): ∃d,g=some d/\hat H (d.add (b*1))=some (.int .u8 a[b]):=by
 cases g with
 | none=>simp[Cn]at h;subst h;simp at c
 | some d=>
  refine⟨d,rfl,?_⟩;have:=gM h b (.int .u8 a[b]) (by simp[Cn,c]);simpa using this
theorem yu(l:List Int)(k:Nat):Cn (l.take k)=(Cn l).take k:=by simp[Cn,List.map_take]
def gl:List Int->Int
 | []=>0
 | b::r=>(if b=1 then 1 else 0)+2*gl r
theorem so: ∀l:List Int,0<=gl l/\gl l<2 ^ l.length
 | []=>by simp[gl]
 | b::r=>by
  have:=so r;simp only[gl,List.length_cons,Int.pow_succ];split<;>omega
theorem mV: ∀(l:List Int) (b:Int),gl (l++[b])=gl l+(if b=1 then 2 ^ l.length else 0)
 | [],b=>by simp[gl]
 | a::r,b=>by
  simp only[List.cons_append,gl,mV r b,List.length_cons,Int.pow_succ];split<;>split<;>omega
theorem lK: ∀{l:List Int},(∀b∈l,b=0)->gl l=0
 | [],_=>rfl
 | b::r,h=>by
  simp only[gl];rw[h b GH,lK (λx a=>h x (by simp[a]))];decide
theorem qz: ∀(l r:List Int),gl (l++r)=gl l+2 ^ l.length*gl r
 | [],r=>by simp[gl]
 | a::l,r=>by
  simp only[List.cons_append,gl,qz l r,List.length_cons,Int.pow_succ];rw[show(2:Int) ^ l.length*2*gl r=2*(2 ^ l.length*gl r)by rw[Int.mul_comm (2 ^ l.length) 2,Int.mul_assoc]];omega
def ml(xs:List Int)(i:Nat):List Int:=(List.range ((i+31) / 32)).map λj=>gl (((xs.take i).drop (32*j)).take 32)
theorem pg(a:List Int)(i:Nat):(ml a i).length=(i+31) / 32:=by simp[ml]
theorem uo(a:List Int)(i:Nat)(h:b< (ml a i).length):(ml a i)[b]=gl (((a.take i).drop (32*b)).take 32):=by simp[ml]
theorem nO(h:32*d+32<=b):((a.take b).drop (32*d)).take 32=(a.drop (32*d)).take 32:=by
 rw[List.drop_take,List.take_take,FG GF]
theorem vt(h:b<=32*d+32):((a.take b).drop (32*d)).take 32=(a.drop (32*d)).take (b-32*d):=by
 rw[List.drop_take,List.take_take,Nat.min_eq_right GF]
theorem zp{x:Int}(j:0<=x/\x<2 ^ d)(hk:d<32):mp .u32 x (k8 .u32 1 (d:Int))=x+2 ^ d:=by
 have a:((2 ^ d:Nat):Int)=(2:Int) ^ d:=GH;have g:(2:Nat) ^ d<=2 ^ 31:=Gq GG GF
 have h:k8 .u32 1 (d:Int)=2 ^ d:=by
  unfold k8;rw[show min (d:Int).toNat IntKind.u32.bits=d by rw[F4];exact FG (by show d<=32;omega),Int.one_mul,Df GF]
 rw[h];unfold mp;rw[BitVec.toNat_or]
 have e:(BitVec.ofInt IntKind.u32.bits x).toNat=x.toNat:=by
  rw[Gr];show(x % ((2 ^ 32:Nat):Int)).toNat=_;rw[Fu j.1 (by simp;omega)]
 have f:(BitVec.ofInt IntKind.u32.bits (2 ^ d)).toNat=2 ^ d:=by
  rw[Gr];show(((2:Int) ^ d) % ((2 ^ 32:Nat):Int)).toNat=_;rw[Fu GF (by simp;omega)];omega
 rw[e,f,Nat.or_comm];have c:=Nat.two_pow_add_eq_or_of_lt (i:=d) (b:=x.toNat) GF 1;rw[EG]at c;rw[<-c,Df GF];omega
theorem zr(hm:0<=i/\i<4294967296){k:Nat}(hk:k<32):CC i (k:Int)=i / 2 ^ k % 2:=by
 have e:(0:Int)<2 ^ k:=Int.pow_pos GG;unfold CC;rw[kr (k:=.u32) (x:=i) (k:Int) k rfl (by show k<=32;omega)];have d:0<=i / 2 ^ k/\i / 2 ^ k<=i:=⟨Int.ediv_nonneg hm.1 GF,Int.ediv_le_self _ hm.1⟩;generalize i / 2 ^ k=q at*
 have a:(BitVec.ofInt IntKind.u32.bits q).toNat=q.toNat:=by
  rw[Gr];show(q % ((2 ^ 32:Nat):Int)).toNat=_;rw[Fu d.1 (by simp;omega)]
 have b:(BitVec.ofInt IntKind.u32.bits 1).toNat=1:=GG
 have c:l3 .u32 q 1=q % 2:=by
  unfold l3;rw[BitVec.toNat_and,a,b,Nat.and_one_is_mod,Df GF];omega
 rw[c];unfold IntKind.wrap;simp only[IntKind.bits,IntKind.signed,FM,EV,EM];omega
theorem ol(m:Int)(hm:0<=m): ∀n:Nat,gl ((List.range n).map λk=>m / 2 ^ k % 2)=m % 2 ^ n
 | 0=>by simp[gl,Int.emod_one]
 | n+1=>by
  rw[Fs,E4,List.map_singleton,mV,ol m hm n];simp only[E2,List.length_range,Int.pow_succ];have e:(0:Int)<2 ^ n:=Int.pow_pos GG;have g:=Int.emod_add_mul_ediv m (2 ^ n);have c:=Int.emod_add_mul_ediv (m / 2 ^ n) 2
  have d:m % (2 ^ n*2)=m % 2 ^ n+2 ^ n*(m / 2 ^ n % 2):=by
   have b:m=(2 ^ n*2)*(m / 2 ^ n / 2)+(m % 2 ^ n+2 ^ n*(m / 2 ^ n % 2)):=by
    rw[Int.mul_assoc];have f:2 ^ n*(m / 2 ^ n)=2 ^ n*(m / 2 ^ n % 2)+2 ^ n*(2*(m / 2 ^ n / 2)):=by rw[<-Int.mul_add,c]
    omega
   have i:0<=m % 2 ^ n/\m % 2 ^ n<2 ^ n:=⟨Int.emod_nonneg _ GF,Int.emod_lt_of_pos _ e⟩
   have a:0<=m % 2 ^ n+2 ^ n*(m / 2 ^ n % 2)/\m % 2 ^ n+2 ^ n*(m / 2 ^ n % 2)<2 ^ n*2:=by
    rcases Int.emod_two_eq (m / 2 ^ n)with h | h<;>rw[h]<;>omega
   conv=>lhs;rw[b]
   rw[Int.mul_add_emod_self_left,Fu a.1 a.2]
  rw[d];rcases Int.emod_two_eq (m / 2 ^ n)with h | h<;>rw[h]<;>simp
theorem lR(hm:0<=i/\i<4294967296):gl (gV i)=i:=by
 have:gV i=(List.range 32).map λk=>i / 2 ^ k % 2:=by
  unfold gV;refine Gm λk hk=>zr hm (ER.1 hk)
 rw[this,ol i hm.1,Fu hm.1 (by simpa using hm.2)]
theorem lf: ∀(a:List Int) (j:Nat),j<a.length->((bitsOf a).drop (32*j)).take 32=gV (a.getD j 0)
 | [],_,h=>by simp at h
 | m::r,0,_=>by
  simp only[bitsOf,List.flatMap_cons,Nat.mul_zero,F5];rw[List.take_append_of_le_length (by rw[iI];exact Er _),ES (by rw[iI];exact Er _)];rfl
 | m::r,j+1,h=>by
  have:=lf r j (by simpa using h);simp only[bitsOf,List.flatMap_cons]at this⊢;rw[show 32*(j+1)=(gV m).length+32*j by rw[iI];omega,<-FH,List.drop_left,this];rfl
theorem vv(k: ∀x∈a,0<=x/\x<4294967296)(hk:(b+31) / 32=a.length)(n: ∀p∈(bitsOf a).drop b,p=0):ml ((bitsOf a).take b) b=a:=by
 refine FS (by rw[pg,hk]) λj o f=>?_;rw[uo];have g:=lf a j f;have c:=lR (k _ (Eu f));rw[Ff f]at g;rw[List.take_take,Nat.min_self];by_cases i:32*j+32<=b
 ·rw[nO i,g,c]
 ·rw[vt GF];rw[<-g]at c
  have m:((bitsOf a).drop (32*j)).take 32=((bitsOf a).drop (32*j)).take (b-32*j)++(((bitsOf a).drop (32*j)).take 32).drop (b-32*j):=by
   have h:=List.take_append_drop (b-32*j) (((bitsOf a).drop (32*j)).take 32);rw[List.take_take,FG GF]at h;exact h.symm
  rw[m,qz]at c;rw[lK (l:=(((bitsOf a).drop (32*j)).take 32).drop (b-32*j)) (λp d=>n p ?_),Int.mul_zero,Int.add_zero]at c
  ·exact c
  ·rw[List.drop_take]at d;have e:=FR d;rw[FH,show 32*j+(b-32*j)=b by omega]at e;exact e
def gT(xs:List Int)(i n:Nat):List Int:=(List.range n).map λj=>gl (((xs.take i).drop (32*j)).take 32)
theorem uq(h:b<=32*d):gT a b (d+1)=gT a b d++[0]:=by
 unfold gT;rw[Fs,E4,List.map_singleton,Fa (by rw[E6];omega)];rfl
theorem ph{i n:Nat}(h:i<a.length)(hn:i / 32<n):gT a (i+1) n=(gT a i n).set (i / 32) ((gT a i n).getD (i / 32) 0+(if a[i]=1 then 2 ^ (i % 32)else 0)):=by
 refine FS (by simp[gT]) λj f p=>?_;have g:j<n:=by simpa[gT]using f
 rw[List.getElem_set];have e:(gT a (i+1) n)[j]=gl (((a.take (i+1)).drop (32*j)).take 32):=by simp[gT]
 have d: ∀(j:Nat) (b:j< (gT a i n).length),(gT a i n)[j]=gl (((a.take i).drop (32*j)).take 32):=λj b=>by simp[gT]
 rw[e];by_cases b:i / 32=j
 ·rw[ka b,Ff (by simp[gT];exact hn),d];rw[b,List.take_add_one (l:=a),List.getElem?_eq_getElem h];simp only[Option.toList_some];rw[List.drop_append_of_le_length (by rw[E6];omega)];have c:((a.take i).drop (32*j)).length=i % 32:=by rw[F6,E6];omega
  have m:((a.take i).drop (32*j)++[a[i]]).take 32=(a.take i).drop (32*j)++[a[i]]:=ES (by rw[E3,c];simp;omega);have o:((a.take i).drop (32*j)).take 32=(a.take i).drop (32*j):=ES (by rw[c];omega);rw[m,o,mV,c]
 ·rw[kb b,d];by_cases k:j<i / 32
  ·rw[nO GF,nO GF]
  ·rw[Fa (by rw[E6];omega),Fa (by rw[E6];omega)]
theorem w4{i n:Nat}(h:i<a.length)(hn:i / 32<n):0<=(gT a i n).getD (i / 32) 0/\(gT a i n).getD (i / 32) 0<2 ^ (i % 32):=by
 rw[Ff (by simp[gT];exact hn)];have e:(gT a i n)[i / 32]'(by simp[gT];exact hn)=gl (((a.take i).drop (32*(i / 32))).take 32):=by simp[gT]
 rw[e];have b:((a.take i).drop (32*(i / 32))).length=i % 32:=by rw[F6,E6];omega
 rw[ES (by rw[b];omega)];have:=so ((a.take i).drop (32*(i / 32)));rw[b]at this;exact this
theorem w5{n c:Nat}(w:bV H g (Cn a))(hn:n=a.length)(B:n<=c)(o:n<=100000):
  ft.C g n c H (λv u=> ∃(k q:Nat),v=vs g k q/\k<=n/\k<=q/\(∀h:k≠0,∃b,a[k-1]?=some b/\b≠0)/\(∀b∈a.drop k,b=0)/\H=u):=by
 refine Ei λR r=>ft.link ?_;unfold ft.pt zY;refine⟨λd A=>H=A/\(0<=d/\d<=n)/\ ∀b∈a.drop d.toNat,b=0,λd _=>d.toNat,⟨rfl,⟨GF,EN _⟩,by rw[Fa GF];simp⟩,?_⟩;rintro d A ⟨rfl,⟨y,z⟩,f⟩
 have i: ∀m:zW,m=(if c=0 then g else Option.map (λD:Addr=>D.add (0*1)) g)->m=g:=by
  rintro m rfl;by_cases l:c=0
  ·rw[ka l]
  ·rw[kb l];cases g with
   | none=>rfl
   | some D=>simp[mj]
 by_cases t:d>0
 ·rw[ka t];have p:(d-1).toNat<a.length:=GF;obtain⟨D,s,x⟩:=wA w p;rw[n5 GF];refine⟨D,s,⟨GF,GF⟩,_,x,?_⟩;by_cases l:a[(d-1).toNat]=0
  ·rw[ka l];refine⟨⟨rfl,⟨GF,GF⟩,λb o=>?_⟩,by show(d-1).toNat<d.toNat;omega⟩;rw[Fn p,show(d-1).toNat+1=d.toNat by omega]at o;rcases Ew.1 o with e | o
   ·rw[e,l]
   ·exact f b o
  ·rw[kb l];refine⟨0,d.toNat,rfl,GF,GF,GF,λm j=>?_⟩;have:=i m (by rw[j,s]);subst this;refine r _ _ ⟨d.toNat,_,rfl,GF,GF,λhk=>⟨a[(d-1).toNat],?_,l⟩,f,rfl⟩;rw[show d.toNat-1=(d-1).toNat by omega];exact List.getElem?_eq_getElem p
 ·rw[kb t];refine⟨0,0,rfl,GF,GF,GF,λm j=>?_⟩;have:=i m j;subst this;exact r _ _ ⟨0,_,rfl,GF,GF,λhk=>absurd rfl hk,by rw[show d.toNat=0 by omega]at f;exact f,rfl⟩
theorem ur(hs:bV H g (Br a))(hn:b=a.length)(hb:b<=1000):
  eD.C j g b d H (λv Q=> ∃(B:zW) (k c:Nat),v=.agg #[.bool (j && decide ((k:Int)>0)),vs B k c]/\k<=32*a.length/\k<=c/\(∀h:k≠0,∃aN,(bitsOf a)[k-1]?=some aN/\aN≠0)/\(∀aN∈(bitsOf a).drop k,aN=0)/\bV Q B (Cn ((bitsOf a).take k))/\Ext H Q):=by
 refine Ei λR hR=>eD.link ?_;unfold eD.pt zY;intro aN H1 a1 w b2 t a2 x;have e1:=Eh w;have e2:=Eh x;have Y:=e2.get (aK a1 w);have Z:=aK a2 x;have F:=e1.trans e2;have an:H.size<t.size:=by rw[x,w];simp;omega
 have al:=aS Z;refine⟨λB n c i A=>(0<=i/\i<=b)/\Ext t A/\n=32*i.toNat/\Own A 5 1 B n c (Cn (bitsOf (a.take i.toNat)))/\(∀aT∈l6 B,t.size<=aT),λ_ _ _ i _=>(b-i).toNat,⟨GF,ED _,rfl,gW,GH⟩,?_⟩;rintro B n c i A ⟨hi,G,D,o,u⟩;refine⟨_,_,_,by rw[fu (G.get Y)];rfl,?_⟩;by_cases m:i< (b:Int)
 ·rw[ka m];have z:i.toNat<a.length:=GF;refine⟨λB n c k P=>(0<=k/\k<=32)/\Ext t P/\n=32*i.toNat+k.toNat/\Own P 5 1 B n c (Cn (bitsOf (a.take i.toNat)++(gV a[i.toNat]).take k.toNat))/\(∀aT∈l6 B,t.size<=aT),λ_ _ _ k _=>(32-k).toNat,⟨GF,G,by simpa using D,by simpa using o,u⟩,?_⟩;clear o u D;rintro B n c k P ⟨hk,l,D,o,u⟩;by_cases s:k<32
  ·rw[ka s];obtain⟨aC,ha,hx⟩:=kB (hs.ext (F.trans l)) GF;have K:=Cd hx z;rw[Ff z]at K;refine⟨_,_,_,by rw[fu (l.get Y)];rfl,aC,ha,⟨hi.1,m⟩,_,by rw[EG];exact K,hk.1,λb3 S p f=>?_⟩;have W:=Eh f;refine dE (ys:=Cn [CC a[i.toNat] k]) (o.ext W) (cX (aK p f) _ 0 0 (λaT q=>by simp at q;subst q;rfl)) rfl (qy _) rfl GF ?_;intro p' r H6 a3 f6 L;have e6:Ext t H6:=(l.trans W).fr_trans f6 (λaT q=>u aT q);rw[n5 GF];refine⟨⟨GF,e6,GF,?_,λaT q=>?_⟩,by show(32-(k+1)).toNat< (32-k).toNat;omega⟩
   ·have ht:(gV a[i.toNat]).take (k+1).toNat=(gV a[i.toNat]).take k.toNat++[CC a[i.toNat] k]:=by
     rw[show(k+1).toNat=k.toNat+1 by omega,List.take_add_one];congr 1;have:k.toNat<32:=GF;simp[gV,this];rw[show max k 0=k by omega]
    rw[ht,<-Ft];simpa[Cn]using a3
   ·rcases L aT q with h | h
    ·exact u aT h
    ·have:=l.size;have:=W.size;omega
  ·rw[kb s,n5 GF];refine⟨⟨GF,l,GF,?_,u⟩,by show((b:Int)-(i+1)).toNat< ((b:Int)-i).toNat;omega⟩;rw[show(i+1).toNat=i.toNat+1 by omega,List.take_add_one,List.getElem?_eq_getElem z];have:(gV a[i.toNat]).take k.toNat=gV a[i.toNat]:=ES (by rw[iI];omega);rw[this]at o;show Own P _ 1 B n c (Cn (bitsOf (a.take i.toNat++[a[i.toNat]])));rw[um];exact o
 ·rw[kb m];have J:a.take i.toNat=a:=ES GF;rw[J]at o;refine⟨_,by rw[aW (G.get Y)];rfl,?_⟩;have aj:=nN a;refine gc (R:=λv Q=> ∃(k c:Nat),v=.agg #[.bool (j && decide ((k:Int)>0)),vs B k c]/\k<=32*a.length/\k<=c/\(∀h:k≠0,∃aN,(bitsOf a)[k-1]?=some aN/\aN≠0)/\(∀aN∈(bitsOf a).drop k,aN=0)/\Ext A Q) ?_ ?_
  ·refine Ei λR2 I=>fg.link ?_;unfold fg.pt;intro b3 H3 p y;have e3:=Eh y;refine gc (w5 ((o.ext e3).src) GF o.le GF) ?_;rintro _ H4 ⟨k,r,rfl,q1,T,U,V,rfl⟩;refine⟨_,_,_,rfl,?_⟩;by_cases e:j=true
   ·rw[ka e];obtain⟨M,N⟩:=fe (vs:=[.bool (decide ((k:Int)>0)),vs B k r]) (n:=2) p y rfl rfl;refine⟨M,λS f=>?_⟩;obtain⟨O,E⟩:=N S f;exact⟨_,_,_,_,bA O,I _ _ ⟨k,r,by rw[e];rfl,GF,T,U,V,E⟩⟩
   ·rw[kb e];obtain⟨M,N⟩:=fe (vs:=[VF,vs B k r]) (n:=2) p y rfl rfl;refine⟨M,λS f=>?_⟩;obtain⟨O,E⟩:=N S f;exact⟨_,_,_,_,bA O,I _ _ ⟨k,r,by rw[show j=false by simpa using e];rfl,GF,T,U,V,E⟩⟩
  ·rintro _ H7 ⟨k,r,rfl,q1,T,U,V,X⟩;refine⟨_,_,_,_,rfl,?_⟩;obtain⟨M,N⟩:=ff (vs:=[.bool (j && decide ((k:Int)>0)),vs B k r]) (n:=2) ((G.trans X).get Z) rfl rfl;refine⟨M,λH8 a0=>?_⟩;obtain⟨O,E⟩:=N H8 a0;have a7:b2<t.size:=aS Z;refine⟨_,_,_,_,bA O,hR _ _ ⟨B,k,r,rfl,q1,T,U,V,?_,(F.trans (G.trans X)).fr_trans E (λaT q=>?_)⟩⟩
   ·rw[yu];refine ui ?_ _;have h7:=(o.ext X).src
    cases B with
    | none=>exact h7
    | some aC=>exact E.rowAt (by have:=u aC.block GH;simp;omega) h7
   ·simp at q;subst q;have:=e1.size;omega
theorem w6{n c:Nat}(hs:bV H g (Cn a))(hn:n=a.length)(hb:n<=100000):
  fq.C j g n c H (λv H'=> ∃(z:Bool) (m:zW) (mN o:Nat) (k:List Int) (e:Int),v=.tuple #[.agg #[.bool z,vs m mN o],vi e]/\((e=0 ↔ n<=1536)/\(e≠0->e=6))/\(e=0->z=j/\mN=k.length/\bV H' m (Br k)/\k=ml a n/\ ∀bn∈l6 m,H.size<=bn)/\Ext H H'):=by
 refine Ei λR hR=>fq.link ?_;unfold fq.pt zY;intro b H1 S E b2 u T F;have e1:=Eh E;have e2:=Eh F;have D:=e1.trans e2;have g1:=e2.get (aK S E);have g2:=aK T F;have aX:b2<u.size:=aS g2;have aV:b<H1.size:=aS (aK S E);have b7:H.size<=b:=GF;have ba:b≠b2:=GF;refine⟨_,_,_,by rw[fu g1];rfl,?_⟩;by_cases w:(n:Int)>1536
 ·rw[ka w];obtain⟨r1,r2⟩:=fe (vs:=[VF,VN]) (n:=2) T F rfl rfl;refine⟨r1,λH3 ag=>?_⟩;obtain⟨r3,r4⟩:=r2 H3 ag;exact⟨_,_,_,_,bA r3,hR _ _ ⟨_,_,_,_,[],6,rfl,⟨GF,λ_=>rfl⟩,λh=>GF,e1.trans r4⟩⟩
 rw[kb w];refine⟨_,by rw[aW g1];rfl,λB H4 U P=>?_⟩;have e4:=Eh P;obtain⟨r1,r2⟩:=fe (vs:=[.bool j,VN]) (n:=2) U P rfl rfl;refine⟨r1,λH5 ah=>?_⟩;obtain⟨g5,e5⟩:=r2 H5 ah;have b0:B=u.size:=U
 refine⟨λi A=>(0<=i/\i<=n)/\Ext u A/\ ∃(m:zW) (mN o:Nat) (k:List Int),A[B]?=some (.cells #[.bool j,vs m mN o] 24 (0,0))/\Own A 91 1 m mN o (Br k)/\mN=(i.toNat+31) / 32/\k=gT a i.toNat mN/\(∀bn∈l6 m,u.size<=bn/\bn≠B),λi _=>(n-i).toNat,
  ⟨GF,e5,none,0,0,[],g5,gW,rfl,rfl,GH⟩,?_⟩
 rintro i A ⟨I,p,m,mN,o,k,q,y,r,d,f⟩;have s:=p.get g1;refine⟨_,_,_,by rw[fu s];rfl,?_⟩;by_cases G:i< (n:Int)
 ·rw[ka G];have t:i.toNat<a.length:=GF;refine⟨λA'=>Ext u A'/\ ∃(m:zW) (mN o:Nat) (k:List Int),A'[B]?=some (.cells #[.bool j,vs m mN o] 24 (0,0))/\Own A' 91 1 m mN o (Br k)/\mN=((i+1).toNat+31) / 32/\k=gT a i.toNat mN/\(∀bn∈l6 m,u.size<=bn/\bn≠B),?_,?_⟩
  ·by_cases hm:Int.tmod i 32=0
   ·rw[ka hm];have an:i % 32=0:=by rw[Gx I.1]at hm;exact hm
    refine⟨_,_,_,by rw[fu q];rfl,λb4 H9 al Q=>?_⟩;have e9:=Eh Q;refine dE (ys:=Br [0]) (y.ext e9) (cX (aK al Q) _ 0 0 (λbn l=>by simp at l;subst l;rfl)) rfl (ly _) rfl GF ?_;intro p' c' J Y K X;have ac:J[B]?=_:=K.get (λx=>(f _ x).2 rfl) (e9.get q);obtain⟨s1,s2⟩:=ie ac 1 (vs p' (mN+1) c') GH;refine⟨s1,λa8 N=>?_⟩;obtain⟨ae,L⟩:=s2 a8 N;have ab:Ext u J:=(p.trans e9).fr_trans K (λbn l=>(f bn l).1)
    have Z: ∀bn∈l6 p',u.size<=bn/\bn≠B:=λbn l=>by
     rcases X bn l with h | h
     ·exact f bn h
     ·have:=p.size;have:=e9.size;have:=aS q;exact⟨GF,GF⟩
    refine⟨ab.fr_trans L (λbn l=>by simp at l;omega),p',mN+1,c',k++[0],ae,?_,GF,by rw[d,uq GF],Z⟩;have:=Y.keep L (λbn l x=>by simp at x;exact(Z bn l).2 x);simpa[Br]using this
   ·rw[kb hm];have an:i % 32≠0:=by rw[Gx I.1]at hm;exact hm
    exact⟨p,m,mN,o,k,q,y,GF,d,f⟩
  clear y r d f q p s;rintro H7 ⟨p,m,mN,o,k,q,y,r,d,f⟩;have s:=p.get g1;obtain⟨bm,ha,hx⟩:=wA (hs.ext (D.trans p)) t;have W:IntKind.wrap .i64 (Int.tdiv i 32)=i / 32:=by rw[Int.tdiv_eq_ediv_of_nonneg I.1,n5 GF]
  rw[W];refine⟨_,_,_,by rw[fu s];rfl,bm,ha,⟨I.1,G⟩,_,hx,?_⟩;rw[n5 (n:=i+1) GF];by_cases h1:a[i.toNat]=1
  ·rw[ka h1];have b9:k.length=mN:=by rw[d];simp[gT]
   have hq:(i / 32).toNat<k.length:=GF;have V:=w4 (n:=mN) t GF;obtain⟨a5,aj,ap⟩:=kB y.src GF;have am:=Cd ap hq;subst aj;refine⟨_,_,_,by rw[fu q];rfl,_,_,_,by rw[fu q];rfl,a5,rfl,⟨GF,GF⟩,_,by rw[EG];exact am,Int.tmod_nonneg _ I.1,a5,rfl,⟨GF,GF⟩,?_⟩;rw[EG];obtain⟨s1,s2⟩:=y.put (i:=(i / 32).toNat) GF (.int .u32 (mp .u32 (k.getD (i / 32).toNat 0) (k8 .u32 1 (Int.tmod i 32))));refine⟨s1,λH8 ai=>?_⟩;obtain⟨ao,f8⟩:=s2 H8 ai;have ak:=f a5.block GH;refine⟨⟨GF,p.fr_trans f8 (λbn l=>by simp at l;omega),some a5,mN,o,k.set (i / 32).toNat (mp .u32 (k.getD (i / 32).toNat 0) (k8 .u32 1 (Int.tmod i 32))),f8.get (by simp;exact λx=>ak.2 x.symm) q,?_,r,?_,f⟩,by show((n:Int)-(i+1)).toNat< ((n:Int)-i).toNat;omega⟩
   ·simpa[Br,List.map_set]using ao
   ·rw[show(i+1).toNat=i.toNat+1 by omega,ph t GF,ka h1,<-d];rw[<-d]at V;rw[show(i / 32).toNat=i.toNat / 32 by omega,Gx I.1,show i % 32=((i.toNat % 32:Nat):Int)by omega,zp V GF]
  ·rw[kb h1];have a0:=ph (n:=mN) t GF;rw[kb h1,Int.add_zero,Ff (by simp[gT];omega),List.set_getElem_self]at a0;exact⟨⟨GF,p,m,mN,o,k,q,y,r,by rw[show(i+1).toNat=i.toNat+1 by omega,a0];exact d,f⟩,by show((n:Int)-(i+1)).toNat< ((n:Int)-i).toNat;omega⟩
 ·rw[kb G];refine⟨_,_,_,_,bA q,?_⟩;obtain⟨s1,s2⟩:=ff (vs:=[.bool j,vs m mN o]) (n:=2) (p.get g2) rfl rfl;refine⟨s1,λa9 O=>?_⟩;obtain⟨af,M⟩:=s2 a9 O;refine⟨_,_,_,_,bA af,hR _ _ ⟨j,m,mN,o,k,0,rfl,⟨GF,λh=>absurd rfl h⟩,λ_=>⟨rfl,by rw[d];simp[gT],?_,by rw[d,r,show i.toNat=n by omega];rfl,λbn l=>by have:=(f bn l).1;have:=D.size;omega⟩,(D.trans p).fr_trans M (λbn l=>by simp at l;have:=e1.size;omega)⟩⟩;exact(y.keep M (λbn l x=>by simp at x;have:=(f bn l).1;omega)).src
theorem w7(hs:bV H g (Br a))(hn:b=a.length)(u:b<=1000)(r: ∀x∈a,gK x):
  fl.C j g b d H (λv H'=>(∃q:Bool,v=.bool q/\(q=true ↔ Bv j a=true))/\Ext H H'):=by
 refine Ei λR hR=>fl.link ?_;unfold fl.pt;intro aB H1 M t;have Y:=Eh t;have g1:=aK M t;refine⟨_,_,_,_,bA g1,?_⟩;refine gc (ur (hs.ext Y) hn u) ?_;rintro _ H2 ⟨B,k,c,rfl,q1,q2,q3,X,q4,Z⟩;refine⟨_,_,_,_,rfl,?_⟩;refine gc (w6 q4 (by rw[E6,nN];omega) GF) ?_;rintro _ H3 ⟨F,U,W,V,T,e,rfl,⟨p,_⟩,S,e3⟩;refine⟨_,_,_,_,_,rfl,λb2 H4 o J=>?_⟩;have i:=(Y.trans Z).trans e3;obtain⟨r1,r2⟩:=fe (vs:=[.bool F,vs U W V]) (n:=2) o J rfl rfl;refine⟨r1,λH5 K=>?_⟩;obtain⟨g5,s⟩:=r2 H5 K
 have E:k≠0->wg a=(k+31) / 32:=λhk=>by
  obtain⟨a9,w,L⟩:=q3 hk;have hz:=un w L;have Q:=oK a
  have h1:(k-1) / 32<wg a:=by
   rcases EC ((k-1) / 32) (wg a)with A | A
   ·exact A
   ·exact absurd (lY a _ A) hz
  rcases EC ((k-1) / 32+1) (wg a)with A | A
  case inr=>omega
  exfalso;have m:a.getD (wg a-1) 0≠0:=lX a a.length (show wg a≠0 by omega);have f:wg a-1<a.length:=GF;have y:=lf a (wg a-1) f;have D:=lR (r _ (Eu f));rw[Ff f]at y m;rw[<-y,lK (λaB u=>X aB ?_)]at D
  ·exact m D.symm
  ·have o:=FR u;have:32*(wg a-1)=k+(32*(wg a-1)-k):=GF;rw[this,<-FH]at o;exact List.mem_of_mem_drop o
 have N:k=0->wg a=0:=λhk=>by
  subst hk;rcases Nat.eq_zero_or_pos (wg a)with h | h
  ·exact h
  exfalso;have Q:=oK a;have m:a.getD (wg a-1) 0≠0:=lX a a.length (show wg a≠0 by omega);have f:wg a-1<a.length:=GF;have y:=lf a (wg a-1) f;have D:=lR (r _ (Eu f));rw[Ff f]at y m;rw[<-y,lK (l:=((bitsOf a).drop (32*(wg a-1))).take 32) (λaB u=>X aB (by rw[F5];exact List.mem_of_mem_drop (FR u)))]at D;exact m D.symm
 have hT:wg a=(k+31) / 32:=by
  by_cases hk:k=0
  ·rw[N hk,hk]
  ·exact E hk
 by_cases z:e=0
 ·rw[ka z];obtain⟨h2,h3,h4,h5,_⟩:=S z;refine⟨_,_,_,_,bA g5,_,_,_,_,bA ((Z.trans (e3.trans s)).get g1),?_⟩;have P:T.length=(k+31) / 32:=by rw[h5,pg]
  refine gc (qx (h4.ext s) h3 (hs.ext (i.trans s)) hn GF) ?_;rintro _ H6 ⟨rfl,e6⟩;refine⟨_,rfl,hR _ _ ⟨⟨_,rfl,?_⟩,(i.trans s).trans e6⟩⟩;have O:=p.1 z;rw[Ex];unfold Bv;simp only[EF,Ex,EU,Bool.not_eq_true'];constructor
  ·rintro⟨G,I⟩;have af:a.length=(k+31) / 32:=by rw[<-I];exact P
   refine⟨GF,GF,?_⟩;rw[<-G,h2];by_cases hk:k=0
   ·left;simp[hk]
   ·right;omega
  ·rintro⟨G,I,a3⟩;refine⟨?_,?_⟩
   ·rw[h2]
    cases j with
    | false=>rfl
    | true=>simp at a3⊢;omega
   ·rw[h5];exact vv (λx hx=>r x hx) GF X
 ·rw[kb z];refine hR _ _ ⟨⟨_,rfl,?_⟩,i.trans s⟩;have O: ¬k<=1536:=λh=>z (p.2 h);unfold Bv;simp;intro G I;omega
variable{a b i o:Int}{d:Blk}{H k:zV}{g:Hp}{j:Mem}{q:List Int}
theorem View.inv{a:zW}(V:View H a (some (d,g))):a=some ⟨d.h,0,none⟩/\HpAt H d g/\SpOK g.sp:=by
 cases V with
 | real h b=>exact⟨rfl,h,b⟩
structure Live (H0 H:zV) (b:Blk) (x:Hp):Prop where
 at':HpAt H b x
 ok:SpOK x.sp
 ext:Ext H0 H
 young: ∀i,i∈b.all->H0.size<=i
theorem Live.view(h:Live H k d g):View k (some ⟨d.h,0,none⟩) (some (d,g)):=.real h.at' h.ok
theorem Live.grow{a:zV}(h:Live H k d g)(e:Ext k a):Live H a d g:=⟨h.at'.ext e,h.ok,h.ext.trans e,h.young⟩
theorem Live.step{d H a:zV}{b:Blk}{x e:Hp}(h:Live d H b x)(V:View a (some ⟨b.h,0,none⟩) (some (b,e)))(f:Fr (own (some (b,x))) H a):Live d a b e:=by
 obtain⟨_,g,c⟩:=V.inv;exact⟨g,c,h.ext.fr_trans f (λi j=>h.young i (by simp[own]at j;simp[Blk.all];omega)),h.young⟩
theorem Live.others(f:Fr (own (some (d,g))) H k):Fr d.all H k:=f.mono (λi a _=>by simp[own]at a;simp[Blk.all];omega)
theorem FK:type_of% @Live.others:=@Live.others
theorem Live.n64(h:Live H k d g)(a:Nat):(g.sp.mem.seg a).n<=64:=(h.ok.mem.seg a).n.2
theorem oO(b:Blk)(x:Hp)(a c:Int)(d:List Int):iT (some (b,x)) a c d=(x.sp.make a c d).2/\js (some (b,x)) a c d=some (b,{x with sp:=(x.sp.make a c d).1}):=by
 unfold iT js Sp.make;split
 ·exact⟨rfl,rfl⟩
 split
 ·exact⟨rfl,rfl⟩
 ·exact⟨rfl,rfl⟩
structure Av (x x':Hp) (w kind more:Int) (ws:List Int):Prop where
 thing:fC x'.sp.mem w kind more ws
 made:Made x.sp.mem x'.sp.mem w ws.length
theorem w8(L:Live H k d g)(c:1<=a/\a<=13)(e:0<=b/\b<281474976710656)(o:q.length<=62)(p: ∀w∈q,aO w)(n:1<=g.sp.mem.free):
  ∃(w:Int) (f:Hp),iT (some (d,g)) a b q=(w,0)/\js (some (d,g)) a b q=some (d,f)/\Av g f w a b q:=by
 obtain⟨j,l,r,m⟩:=Sp.make_ok L.ok c e o p n;obtain⟨h,i⟩:=oO d g a b q;exact⟨_,_,by rw[h,<-j],i,⟨l,m⟩⟩
def Mem.Even(m:Mem):Prop:= ∀k,(m.seg k).kind<=1->(m.seg k).n % 2=0
theorem nP(a:Nat):(Mem.fresh a).Even:=λ_ _=>rfl
theorem bQ.even{m a:Mem}(h:bQ m a)(b:m.Even):a.Even:=λk hk=>by
 rw[(h.seg k).2.2.1];exact b k (by rw[<-(h.seg k).2.1];exact hk)
theorem Mem.Even.store{m:Mem}(h:m.Even)(a w:Int):(m.store a w).1.Even:=λk hk=>by
 rw[(EP k).2.2];exact h k (by rw[<-(EP k).2.1];exact hk)
theorem Grown.even{m i:Mem}{a n g k:Int}(b:Grown m i a n g k)(f:m.Even)(hn:k<=1->n % 2=0):i.Even/\(k<=1->a % 2=0):=by
 obtain⟨r,s,t⟩:=b.addr
 have d:k<=1->a % 64 % 2=0:=λhk=>by
  by_cases h:(m.seg (a / 64).toNat).taken=0
  ·rw[b.fresh h];rfl
  ·obtain⟨_,p,q,_⟩:=b.old h;rw[<-q];exact f _ (by rw[p];exact hk)
 refine⟨λj c=>?_,λhk=>by have:=d hk;omega⟩;by_cases e:j=(a / 64).toNat
 ·subst e;obtain⟨_,_,l,o⟩:=b.new;rw[l]at c;have:=d c;have:=hn c;rw[o];omega
 ·rw[b.others j e]at c⊢;exact f j c
structure Pr (m:Mem) (w tag a d:Int):Prop where
 word:aO w
 istag:tag=1\/tag=2
 at':m.atW w tag (tag-1)
 even:w / 8 % 2=0
 used:m.used (w / 8+1)
 car:m.get (w / 8)=a
 cdr:m.get (w / 8+1)=d
theorem Pr.isPair(h:Pr j a b i o):j.isPair a:=by
 refine⟨?_,h.even⟩;rcases h.istag with e | e
 ·have:=h.at';rw[e]at this;exact .inl this
 ·have:=h.at';rw[e]at this;exact .inr this
theorem Pr.half(h:Pr j a b i o):j.halfE a 0=0/\j.halfE a 1=0:=by
 unfold Mem.halfE;rw[ka h.isPair,ka h.isPair,ka h.used];refine⟨?_,rfl⟩;rw[ka];rw[show a / 8+0=a / 8 by omega];exact h.at'.used h.word
theorem Pr.notObj(h:Pr j a b i o): ¬j.isObj a:=As (by have:=h.at'.2.1;have:=h.istag;omega)
theorem fC.notPair(h:fC j a b i q): ¬j.isPair a:=λc=>by
 have d:=h.obj.1.2.1;rcases c.1 with c | c<;>have:=c.2.1<;>omega
theorem Pr.size(h:Pr j a b i o):j.sizeOf a=2:=by unfold Mem.sizeOf;rw[ka h.isPair]
theorem fC.size{ws:List Int}(h:fC j a b i ws):j.sizeOf a=ws.length+1:=by
 unfold Mem.sizeOf;rw[kb h.notPair,ka h.obj,h.len]
theorem Pr.keep{c:Mem}{w b a d:Int}(h:Pr j w b a d)(k:Keep j c):Pr c w b a d:=by
 obtain⟨e,f,g,_,_⟩:=k.used _ (h.at'.used h.word);obtain⟨i,l,_⟩:=k.used _ h.used;exact⟨h.word,h.istag,⟨h.at'.1,h.at'.2.1,e.2.1,by rw[g];exact h.at'.2.2.2.1,e.2.2⟩,h.even,i,by rw[f];exact h.car,by rw[l];exact h.cdr⟩
theorem Sp.cons_ok0{s:Sp}(u:SpOK s)(D:s.mem.Even){tag x y:Int}(E:tag=1\/tag=2)(J:aO x)(K:aO y)(g:(s.alloc 0 (tag-1) 2).2.2=0):
  (s.put (tag-1) tag [x,y]).2.2=0/\Pr (s.put (tag-1) tag [x,y]).1.mem (s.put (tag-1) tag [x,y]).2.1 tag x y/\SpOK (s.put (tag-1) tag [x,y]).1/\Made s.mem (s.put (tag-1) tag [x,y]).1.mem (s.put (tag-1) tag [x,y]).2.1 1/\(s.put (tag-1) tag [x,y]).1.mem.Even:=by
 have k:BP 0 (tag-1) (([x,y]:List Int).length:Nat):=⟨GF,.inl ⟨GF,rfl⟩⟩;have g:(s.alloc 0 (tag-1) (([x,y]:List Int).length:Nat)).2.2=0:=g
 have j: ∀w∈[x,y],aO w:=λw t=>by
  simp at t;rcases t with rfl | rfl<;>assumption
 obtain⟨a,l,f,n,p,A,_⟩:=Sp.put_ok (tag:=tag) u k GF j g;obtain⟨F,d,b⟩:=f.lay u.mem;have m:=bQ.sets [x,y] (s.alloc 0 (tag-1) (([x,y]:List Int).length:Nat)).1.mem a;obtain⟨B,e⟩:=f.even D (λ_=>GH);have e:=e GF;rw[l,n];obtain⟨v,G,z⟩:=f.addr;simp only[List.length_cons,List.length_nil]at z;have c:(a*8+tag) / 8=a:=GF;have h:=b 0 GH;have o:=b 1 GH;rw[show a+((0:Nat):Int)=a by omega]at h;refine⟨rfl,⟨⟨GF,GF⟩,E,⟨⟨GF,GF⟩,GF,by rw[c];exact h.2.1,?_,by rw[c];exact h.2.2⟩,by rw[c];exact e,by rw[c];exact o,?_,?_⟩,p,⟨F,?_,?_,?_⟩,m.even B⟩
 ·rw[c,(m.seg _).2.1,f.new.2.2.1]
 ·rw[c,d a v,ka ⟨GF,by simp<;>omega⟩];simp
 ·rw[c,d _ GF,ka ⟨GF,by simp<;>omega⟩,show(a+1-a).toNat=1 by omega];rfl
 ·rw[m.free];exact f.free
 ·rw[m.count];exact f.count
 ·rw[c];intro i I r;have l:(a+i) / 64=a / 64:=GF;have n:(a+i) % 64=a % 64+i:=GF;by_cases q:(s.mem.seg (a / 64).toNat).taken=0
  ·have:=r.2.1.2.2;rw[l]at this;exact this q
  ·have H:=(f.old q).2.2.1;have C:=r.2.2;rw[l,n]at C;omega
theorem Sp.cons_ok{s:Sp}(c:SpOK s)(d:s.mem.Even)(f:a=1\/a=2)(g:aO b)(h:aO i)(e:1<=s.mem.free):
  (s.put (a-1) a [b,i]).2.2=0/\Pr (s.put (a-1) a [b,i]).1.mem (s.put (a-1) a [b,i]).2.1 a b i/\SpOK (s.put (a-1) a [b,i]).1/\Made s.mem (s.put (a-1) a [b,i]).1.mem (s.put (a-1) a [b,i]).2.1 1/\(s.put (a-1) a [b,i]).1.mem.Even:=
 Sp.cons_ok0 c d f g h (Sp.alloc_can c ⟨GF,.inl ⟨GF,rfl⟩⟩ e)
theorem Sp.cons_no{s:Sp}{tag x y:Int}(a:(s.alloc 0 (tag-1) 2).2.2≠0):(s.put (tag-1) tag [x,y]).1=s/\(s.put (tag-1) tag [x,y]).2.2≠0:=by
 have b: ¬(s.alloc 0 (tag-1) (([x,y]:List Int).length:Nat)).2.2=0:=a;unfold Sp.put;rw[kb b];exact⟨rfl,a⟩
theorem Sp.make_even{s:Sp}(g:SpOK s)(c:s.mem.Even)(a b:Int)(d:List Int)(k: ∀w∈d,aO w):(s.make a b d).1.mem.Even:=by
 unfold Sp.make;split
 ·exact c
 split
 ·exact c
 ·rename_i i j
  generalize (b*65536+d.length*256+a*8+5)::d=h;unfold Sp.put;split
  ·rename_i f
   obtain⟨_,e⟩:=FB g f;exact(bQ.sets h _ _).even (e.even c (λhk=>by unfold oN at hk;split at hk<;>omega)).1
  ·exact c
theorem Pr.set{m:Mem}{w c a d v:Int}(h:Pr m w c a d)(j:bP m)(e:b=0\/b=1):Pr (m.store (w / 8+b) v).1 w c (if b=0 then v else a) (if b=0 then d else v):=by
 have i:0<=w / 8:=by have:=h.word.1;omega
 have f:=h.at'.used h.word
 have g:m.used (w / 8+b):=by
  rcases e with rfl | rfl
  ·rw[Int.add_zero];exact f
  ·exact h.used
 refine⟨h.word,h.istag,⟨h.at'.1,h.at'.2.1,FJ.2 h.at'.2.2.1,by rw[(EP _).2.1];exact h.at'.2.2.2.1,by rw[(EP _).2.2];exact h.at'.2.2.2.2⟩,h.even,FO.2 h.used,?_,?_⟩
 ·rw[Fk g _ i];rcases e with rfl | rfl
  ·rw[ka GF,ka rfl]
  ·rw[kb GF,kb GG];exact h.car
 ·rw[Fk g _ GF];rcases e with rfl | rfl
  ·rw[kb GF,ka rfl];exact h.cdr
  ·rw[ka rfl,kb GG]
theorem Pr.setOther{v x:Int}(h:Pr j a b i o)(c:j.used x)(d:x≠a / 8)(f:x≠a / 8+1):Pr (j.store x v).1 a b i o:=by
 have g:0<=a / 8:=by have:=h.word.1;omega
 exact⟨h.word,h.istag,⟨h.at'.1,h.at'.2.1,FJ.2 h.at'.2.2.1,by rw[(EP _).2.1];exact h.at'.2.2.2.1,by rw[(EP _).2.2];exact h.at'.2.2.2.2⟩,h.even,FO.2 h.used,
  by rw[Fk c _ g,kb (λe=>d e.symm)];exact h.car,by rw[Fk c _ GF,kb (λe=>f e.symm)];exact h.cdr⟩
theorem fC.setFar{x:Int}(h:fC j a b i q)(f:j.used x)(e: ∀l:Nat,l<=q.length->a / 8+l≠x):fC (j.store x o).1 a b i q:=by
 have k:0<=a / 8:=by have:=h.word.1;omega
 have c:=h.obj
 have d:(j.store x o).1.get (a / 8)=j.get (a / 8):=by
  rw[Fk f _ k,kb (by have:=e 0 GF;simpa using this)]
 refine⟨h.word,⟨⟨c.1.1,c.1.2.1,FJ.2 c.1.2.2.1,?_,?_⟩,by rw[d];exact c.2.1,?_⟩,by rw[d];exact h.kindEq,by rw[d];exact h.lenEq,by rw[d];exact h.moreEq,λl g=>?_⟩
 ·rw[d,(EP _).2.1];exact c.1.2.2.2.1
 ·rw[(EP _).2.2];exact c.1.2.2.2.2
 ·rw[d,(EP _).2.2];exact c.2.2
 ·rw[Fk f _ GF,kb (by have:=e (l+1) GF;omega)];exact h.get l g
structure ti (x x':Hp) (w tag a d:Int):Prop where
 pr:Pr x'.sp.mem w tag a d
 made:Made x.sp.mem x'.sp.mem w 1
 even:x'.sp.mem.Even
 rest:x'.sy=x.sy/\x'.en=x.en/\x'.ep=x.ep
theorem xd(L:Live H k d g)(l:g.sp.mem.Even){tag a p:Int}(n:tag=1\/tag=2)(i:aO a)(j:aO p)(m:1<=g.sp.mem.free):
  ∃(w:Int) (b:Hp),BG (some (d,g)) (tag-1) tag [a,p]=(w,0)/\BV (some (d,g)) (tag-1) tag [a,p]=some (d,b)/\ti g b w tag a p:=by
 obtain⟨c,e,o,f,h⟩:=Sp.cons_ok L.ok l n i j m;exact⟨_,_,by show(g.sp.put (tag-1) tag [a,p]).2=_;rw[<-c],rfl,⟨e,f,h,rfl,rfl,rfl⟩⟩
theorem qA{c:Hp}(L:Live H k d g)(e:g.sp.mem.Even)(f: ∀w∈q,aO w)(h:js (some (d,g)) a b q=some (d,c)):c.sp.mem.Even/\c.sy=g.sy/\c.en=g.en/\c.ep=g.ep:=by
 rw[(oO d g a b q).2]at h;cases h;exact⟨Sp.make_even L.ok e a b q f,rfl,rfl,rfl⟩
theorem rt{x:Hp}(L:Live H k d x)(m:x.sp.mem.Even){tag a p:Int}(n:tag=1\/tag=2)(j:aO a)(l:aO p):
  ∃(w e:Int) (g:Hp),BG (some (d,x)) (tag-1) tag [a,p]=(w,e)/\BV (some (d,x)) (tag-1) tag [a,p]=some (d,g)/\((e=0/\ti x g w tag a p)\/(e≠0/\g=x)):=by
 by_cases b:(x.sp.alloc 0 (tag-1) 2).2.2=0
 ·obtain⟨c,f,o,h,i⟩:=Sp.cons_ok0 L.ok m n j l b;exact⟨_,_,_,by show(x.sp.put (tag-1) tag [a,p]).2=_;rw[<-c],rfl,.inl ⟨rfl,f,h,i,rfl,rfl,rfl⟩⟩
 ·obtain⟨c,f⟩:=Sp.cons_no (s:=x.sp) (tag:=tag) (x:=a) (y:=p) b;exact⟨_,_,_,rfl,rfl,.inr ⟨f,by show{x with sp:=(x.sp.put (tag-1) tag [a,p]).1}=x;rw[c]⟩⟩
structure tj (x x':Hp) (w kind more:Int) (ws:List Int):Prop where
 thing:fC x'.sp.mem w kind more ws
 made:Made x.sp.mem x'.sp.mem w ws.length
 even:x'.sp.mem.Even
 rest:x'.sy=x.sy/\x'.en=x.en/\x'.ep=x.ep
theorem xe(L:Live H k d g)(p:g.sp.mem.Even)(e:1<=a/\a<=13)(f:0<=b/\b<281474976710656)(s:q.length<=62)(i: ∀w∈q,aO w)(r:1<=g.sp.mem.free):
  ∃(w:Int) (c:Hp),iT (some (d,g)) a b q=(w,0)/\js (some (d,g)) a b q=some (d,c)/\tj g c w a b q:=by
 obtain⟨w,c,j,h,hm⟩:=w8 L e f s i r;obtain⟨l,m,n,o⟩:=qA L p i h;exact⟨w,c,j,h,hm.thing,hm.made,l,m,n,o⟩
theorem ru(L:Live H k d g)(t:g.sp.mem.Even){kind more:Int}(r: ∀w∈q,aO w)(n:aO more):
  ∃(w e:Int) (o:Hp),iT (some (d,g)) kind more q=(w,e)/\js (some (d,g)) kind more q=some (d,o)/\((e=0/\(1<=kind/\kind<=13)/\tj g o w kind more q)\/(e≠0/\o=g)):=by
 obtain⟨i,j⟩:=oO d g kind more q;by_cases a:(1<=kind/\kind<=13)/\more<281474976710656
 case neg=>
  have c:g.sp.make kind more q=(g.sp,0,1):=by unfold Sp.make;rw[ka a]
  exact⟨0,1,g,by rw[i,c],by rw[j,c],.inr ⟨GG,rfl⟩⟩
 by_cases p:q.length<=62
 case neg=>
  have c:g.sp.make kind more q=(g.sp,0,6):=by unfold Sp.make;rw[kb (λh=>h a),ka GF]
  exact⟨0,6,g,by rw[i,c],by rw[j,c],.inr ⟨GG,rfl⟩⟩
 have b:0<=more/\more<281474976710656:=⟨n.1,a.2⟩;by_cases f:(g.sp.alloc 0 (oN kind) ((q.length+1:Nat):Int)).2.2=0
 ·obtain⟨l,m,u,s⟩:=Sp.make_ok0 L.ok a.1 b p r f;exact⟨_,_,_,i,j,.inl ⟨l,a.1,m,s,Sp.make_even L.ok t kind more q r,rfl,rfl,rfl⟩⟩
 ·obtain⟨l,m⟩:=Sp.make_no L.ok a.1 b p f;exact⟨_,_,_,i,by rw[j,l],.inr ⟨m,rfl⟩⟩
theorem Pr.type(h:Pr j a b i o):j.typ a=0:=ug h.notObj
def Sp.room(s:Sp):Int:=32*s.mem.free+(if s.cur 0 0≠0 then(64-(s.mem.seg (s.cur 0 0-1).toNat).n) / 2 else 0)
variable{H b:zV}{a:List (Nat×Obj)}{d:Nat}{g:Obj}{i:Hp}{j k:Int}{o:Mem}
def nA(m:Mem):Int->List (Int×Int)->Int->Prop
 | w,[],last=>w=last/\aO last/\ ¬m.isPair last
 | w,pa::l,last=>w=pa.1/\ ∃tag d,Pr m pa.1 tag pa.2 d/\nA m d l last
theorem nA.word: ∀{l:List (Int×Int)},nA o j l k->aO j
 | [],h=>by obtain⟨rfl,h,_⟩:=h;exact h
 | _::_,h=>by obtain⟨rfl,_,_,h,_⟩:=h;exact h.word
structure tl (H0:zV) (hv:zW) (m:Mem) (rc:LoopState->Option Code->Obj) (st:LoopState) (pe:Option Code) (lp D b b2 b3 b4 lo:Nat) (cars:List Int) (H:zV):Prop where
 view: ∃o,View H hv o/\nc o=m
 loop:H[lp]?=some (rc st pe)
 dfr:H[D]?=some (.deferred (some []))
 gb:H[b]?=some (.cells #[vp hv] 31 (0,0))
 gb2:H[b2]?=some (.cells #[VN] 53 (0,0))
 gb3:H[b3]?=some (.cells #[VF] 4 (0,0))
 row: ∃(B:zW) (c:Nat),H[b4]?=some (.cells #[vs B cars.length c] 53 (0,0))/\Own H 37 1 B cars.length c (Bi cars)/\ ∀i∈l6 B,lo<=i
 ext:Ext H0 H
theorem tl.keep{p:zW}{u:LoopState->Option Code->Obj}{v:LoopState}{t:Option Code}{D y k l m r:Nat}{e:List Int}{j:zV}{S:List Nat}
  (h:tl H p o u v t d D y k l m r e b) (f:Fr S b j) (g: ∀i∈S,H.size<=i/\i<r/\i≠d/\i≠D/\i≠y/\i≠k/\i≠l/\i≠m) (q: ∃z,View j p z/\nc z=o):tl H p o u v t d D y k l m r e j:=by
 obtain⟨B,c,w,n,s⟩:=h.row
 refine⟨q,f.get (λa=>(g _ a).2.2.1 rfl) h.loop,f.get (λa=>(g _ a).2.2.2.1 rfl) h.dfr,f.get (λa=>(g _ a).2.2.2.2.1 rfl) h.gb,f.get (λa=>(g _ a).2.2.2.2.2.1 rfl) h.gb2,f.get (λa=>(g _ a).2.2.2.2.2.2.1 rfl) h.gb3,
  ⟨B,c,f.get (λa=>(g _ a).2.2.2.2.2.2.2 rfl) w,n.keep f (λi a x=>by have:=s i a;have:=(g _ x).2.1;omega),s⟩,h.ext.fr_trans f (λi a=>(g _ a).1)⟩
theorem nA.nth{m:Mem}{w b:Int}: ∀{l:List (Int×Int)},nA m w l b-> ∀(k:Nat) (h:k<l.length),∃a d,Pr m l[k].1 a l[k].2 d
 | [],_,k,h=>by simp at h
 | pa::l,hc,0,_=>by obtain⟨_,a,d,c,_⟩:=hc;exact⟨a,d,c⟩
 | pa::l,hc,k+1,h=>by
  obtain⟨_,a,d,_,e⟩:=hc;exact nA.nth e k (by simpa using h)
theorem nk{a:Obj}(h:H[d]?=some g):(bR H d a)[d]?=some a:=bL (aS h)
def Bx(l:List (Nat×Obj))(H:zV):Prop:= ∀p∈l,H[p.1]?=some p.2
theorem Bx.fr{S:List Nat}(h:Bx a H)(f:Fr S H b)(d: ∀p∈a,p.1 ∉ S):Bx a b:=λp c=>f.get (d p c) (h p c)
theorem Bx.ext(h:Bx a H)(e:Ext H b):Bx a b:=λp c=>e.get (h p c)
theorem Bx.nil:Bx [] H:=λp a=>by cases a
theorem Bx.cons(h:H[d]?=some g)(k:Bx a H):Bx ((d,g)::a) H:=λp b=>by
 rcases Ew.1 b with rfl | b
 ·exact h
 ·exact k p b
theorem Bx.head(h:Bx ((d,g)::a) H):H[d]?=some g:=h (d,g) (FT ..)
theorem Bx.tail{p:Nat×Obj}(h:Bx (p::a) H):Bx a H:=λq b=>h q (FF _ b)
theorem Bx.nth(h:Bx a H)(i:Nat){b:Nat}(e:a[i]?=some (b,g)):H[b]?=some g:=h (b,g) (List.mem_of_getElem? e)
theorem Bx.lt(h:Bx a H): ∀p∈a,p.1<H.size:=λp b=>aS (h p b)
theorem bV.keep{S:List Nat}{p:zW}{c:List Value}(h:bV H p c)(f:Fr S H b)(d: ∀i∈l6 p,i ∉ S):bV b p c:=by
 cases p with
 | none=>exact h
 | some a=>exact f.rowAt (d _ GH) h
theorem Live.lt{c:zV}{b:Blk}{x:Hp}(L:Live H c b x){i:Nat}(a:i∈b.all):i<c.size:=L.at'.lt i a
theorem Live.keep{S:List Nat}{a:zV}{e:Blk}{x:Hp}(L:Live H b e x)(f:Fr S b a)(c: ∀i∈S,H.size<=i)(d: ∀i∈S,i ∉ e.all):Live H a e x:=
 ⟨L.at'.keep f d,L.ok,L.ext.fr_trans f c,L.young⟩
theorem nA.keep{m b:Mem}{a:Int}(k:Keep m b)(e: ∀m:Mem,¬m.isPair a): ∀{l:List (Int×Int)} {w:Int},nA m w l a->nA b w l a
 | [],w,h=>⟨h.1,h.2.1,e b⟩
 | pa::l,w,h=>by
  obtain⟨rfl,c,d,f,g⟩:=h;exact⟨rfl,c,d,f.keep k,nA.keep k e g⟩
def pi(m:Mem):Int->List (Int×Int)->Int->Prop
 | w,[],last=>w=last
 | w,pa::l,last=>w=pa.1/\ ∃d,Pr m pa.1 1 pa.2 d/\pi m d l last
theorem pi.keep{m b:Mem}{a:Int}(k:Keep m b): ∀{l:List (Int×Int)} {w:Int},pi m w l a->pi b w l a
 | [],w,h=>h
 | pa::l,w,h=>by
  obtain⟨rfl,d,c,e⟩:=h;exact⟨rfl,d,c.keep k,pi.keep k e⟩
theorem pi.word(a:aO k): ∀{l:List (Int×Int)},pi o j l k->aO j
 | [],h=>by
  have h:j=k:=h;rw[h];exact a
 | _::_,h=>by obtain⟨rfl,_,h,_⟩:=h;exact h.word
structure yv (x x':Hp) (w tail:Int) (l:List (Int×Int)):Prop where
 links:pi x'.sp.mem w l tail
 keep:Keep x.sp.mem x'.sp.mem
 even:x'.sp.mem.Even
 room:x.sp.room-l.length<=x'.sp.room
 count:x'.sp.mem.count<=x.sp.mem.count+l.length
 rest:x'.sy=x.sy/\x'.en=x.en/\x'.ep=x.ep
theorem yv.cons{d e:Hp}{b a:Int}{l:List (Int×Int)}(h:yv i d j b l)(c:ti d e k 1 a j)(f:d.sp.room-1<=e.sp.room):yv i e k b ((k,a)::l):=
 ⟨⟨rfl,j,c.pr,h.links.keep c.made.keep⟩,h.keep.trans c.made.keep,c.even,by have:=h.room;simp;omega,by have:=h.count;have:=c.made.count;simp;omega,⟨c.rest.1.trans h.rest.1,c.rest.2.1.trans h.rest.2.1,c.rest.2.2.trans h.rest.2.2⟩⟩
