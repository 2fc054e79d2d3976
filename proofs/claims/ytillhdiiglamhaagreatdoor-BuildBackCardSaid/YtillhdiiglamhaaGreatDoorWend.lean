/-
 build.Datum: what is read of a heap, ring or not, is what a walk on the memory reads. Proves nothing of any one statement.
-/
import Derived.Test.YtillhdiiglamhaaGreatDoorDatR
import Derived.Test.YtillhdiiglamhaaGreatDoorDatM
import Derived.Test.YtillhdiiglamhaaGreatDoorBuildP
import Derived.Test.YtillhdiiglamhaaGreatDoorGcB
import Derived.Test.YtillhdiiglamhaaGreatDoorTrB
import Derived.Test.YtillhdiiglamhaaGreatDoorFweak
set_option linter.unusedVariables false
set_option linter.unusedSimpArgs false
set_option maxHeartbeats 1000000
namespace Go.Proofs.YtillhdiiglamhaaGreatDoor
open Go Go.Proofs.Tryz
variable{H i:zV}{a u:Int}{b:Mem}{d w:Nat}{g z:Dt}{j:List Int}{k:TypeId}{o:Blk}{q:Dv}{r:Hp}{v:Int->Prop}{x:Nat->Prop}{y:zW}{A:List Dt}{B:List Dv}{C:Value}
abbrev mK:=Int×Dt×Int
def zD:Dt:=.mk 0 0 false [] tE []
inductive kW where
 | leaf (d:Dt)
 | bad (e:Int)
 | vec (ws:List Int)
 | pair (a d:Int)
def kW.isP:kW->Bool | .pair _ _=>true | _=>false
def kW.car:kW->Int | .pair a _=>a | _=>0
def kW.cdr:kW->Int | .pair _ d=>d | _=>0
def BI(rd:Int->Int->mK):Int->List Int->List Dt->mK
 | n,[],acc=>(0,.mk 8 0 false [] tE acc,n)
 | n,w::ws,acc=>if(rd n w).1=0 then BI rd (rd n w).2.2 ws (acc++[(rd n w).2.1])else((rd n w).1,zD,0)
def kK(rd:Int->Int->mK)(vw:Int->kW):Nat->Int->Int->List Dt->mK
 | 0,_,_,_=>(6,zD,0)
 | f+1,n,w,acc=>
  if(rd n (vw w).car).1=0 then
   (if(vw (vw w).cdr).isP=true then
    (if 4096< (rd n (vw w).car).2.2+1 then(6,zD,0)else kK rd vw f ((rd n (vw w).car).2.2+1) (vw w).cdr (acc++[(rd n (vw w).car).2.1]))
   else if(rd (rd n (vw w).car).2.2 (vw w).cdr).1=0 then(0,ju (acc++[(rd n (vw w).car).2.1]) (rd (rd n (vw w).car).2.2 (vw w).cdr).2.1,(rd (rd n (vw w).car).2.2 (vw w).cdr).2.2)
   else((rd (rd n (vw w).car).2.2 (vw w).cdr).1,zD,0))
  else((rd n (vw w).car).1,zD,0)
def iJ(vw:Int->kW):Nat->Int->Int->Int->mK
 | 0,_,_,_=>(6,zD,0)
 | f+1,n,w,deep=>if 4096<n+1 then(6,zD,0)else match vw w with
  | .leaf d=>(0,d,n+1)
  | .bad e=>(e,zD,0)
  | .vec ws=>if deep=64 then(10,zD,0)else BI (λn w=>iJ vw f n w (deep+1)) (n+1) ws []
  | .pair _ _=>if deep=64 then(10,zD,0)else kK (λn w=>iJ vw f n w (deep+1)) vw f (n+1) w []
theorem wG{b:Int->Int->mK}(h: ∀n w,(b n w).1=0->n< (b n w).2.2/\(n<=4096->(b n w).2.2<=4096)): ∀(c:List Int) (n:Int) (a:List Dt),(BI b n c a).1=0->n<=(BI b n c a).2.2/\(n<=4096->(BI b n c a).2.2<=4096)
 | [],n,a,_=>by simp only[BI];exact⟨EN _,λh=>h⟩
 | w::c,n,a,hz=>by
  unfold BI at hz⊢;by_cases d:(b n w).1=0
  ·rw[ka d]at hz⊢;have e:=h n w d;have f:=wG h c (b n w).2.2 _ hz;exact⟨GF,λh=>f.2 (e.2 h)⟩
  ·rw[kb d]at hz;exact absurd hz d
theorem sK{a:Int->Int->mK}{c:Int->kW}(h: ∀n w,(a n w).1=0->n< (a n w).2.2/\(n<=4096->(a n w).2.2<=4096)): ∀(f:Nat) (n w:Int) (b:List Dt),(kK a c f n w b).1=0->n<=(kK a c f n w b).2.2/\(n<=4096->(kK a c f n w b).2.2<=4096)
 | 0,n,w,b,hz=>by simp[kK]at hz
 | f+1,n,w,b,hz=>by
  unfold kK at hz⊢;by_cases e:(a n (c w).car).1=0
  ·rw[ka e]at hz⊢;have j:=h n _ e;by_cases i:(c (c w).cdr).isP=true
   ·rw[ka i]at hz⊢;by_cases g:4096< (a n (c w).car).2.2+1
    ·rw[ka g]at hz;cases hz
    ·rw[kb g]at hz⊢;have d:=sK h f _ _ _ hz;exact⟨GF,λh=>d.2 GF⟩
   ·rw[kb i]at hz⊢;by_cases d:(a (a n (c w).car).2.2 (c w).cdr).1=0
    ·rw[ka d];have k:=h _ _ d;exact⟨by show n<=(a (a n (c w).car).2.2 (c w).cdr).2.2;omega,λh=>k.2 (j.2 h)⟩
    ·rw[kb d]at hz;exact absurd hz d
  ·rw[kb e]at hz;exact absurd hz e
theorem qV(c:Int->kW)(k: ∀w e,c w=.bad e->e≠0): ∀(f:Nat) (n w b:Int),(iJ c f n w b).1=0->n< (iJ c f n w b).2.2/\(n<=4096->(iJ c f n w b).2.2<=4096)
 | 0,n,w,b,hz=>by simp[iJ]at hz
 | f+1,n,w,b,hz=>by
  unfold iJ at hz⊢;by_cases j:4096<n+1
  ·rw[ka j]at hz;cases hz
  rw[kb j]at hz⊢;have l:=λn w=>qV c k f n w (b+1)
  cases i:c w with
  | leaf d=>simp only;omega
  | bad e=>rw[i]at hz;exact absurd hz (k w e i)
  | vec m=>
   rw[i]at hz;simp only at hz⊢;by_cases g:b=64
   ·rw[ka g]at hz;cases hz
   rw[kb g]at hz⊢;have:=wG l m (n+1) [] hz;exact⟨GF,λh=>this.2 GF⟩
  | pair a d=>
   rw[i]at hz;simp only at hz⊢;by_cases g:b=64
   ·rw[ka g]at hz;cases hz
   rw[kb g]at hz⊢;have:=sK l f (n+1) w [] hz;exact⟨GF,λh=>this.2 GF⟩
def iX(w:Int):Option Dt:=
 if w=12 then some (.mk 1 0 false [] tE [])else if w=4 then some (.mk 2 0 false [] tE [])else if w=36 then some (.mk 9 0 false [] tE [])else if w=28 then some (.mk 10 0 false [] tE [])else if w=20 then some (.mk 0 0 false [] tE [])
 else if w % 8=4/\w / 8 % 32=7/\iG (w / 256)=true then some (.mk 3 (w / 256) false [] tE [])else none
def dD(m:Mem)(w:Int):kW:=
 match iX w with
 | some d=> .leaf d
 | none=>if(Be m w).2.2=0 then .leaf (.mk 4 0 (Be m w).1 (Be m w).2.1 tE [])else if m.typ w=2 then .leaf (.mk 5 0 false [] (kI (m.objWords w)) [])
  else if m.typ w=4 then(if(iP m w).2=0 then .leaf (.mk 6 0 false [] (iP m w).1 [])else .bad 3)else if m.typ w=1 then .vec (m.objWords w)
  else if w % 8=1/\m.isPair w then .pair (if m.halfE w 0=0 then m.get (w / 8+0)else 0) (if m.halfE w 1=0 then m.get (w / 8+1)else 0)else .bad 3
theorem mE{w:Int}(h:iX w=some g):w % 8=4:=by
 unfold iX at h;by_cases b:w=12
 ·omega
 rw[kb b]at h;by_cases c:w=4
 ·omega
 rw[kb c]at h;by_cases d:w=36
 ·omega
 rw[kb d]at h;by_cases e:w=28
 ·omega
 rw[kb e]at h;by_cases f:w=20
 ·omega
 rw[kb f]at h;by_cases a:w % 8=4/\w / 8 % 32=7/\iG (w / 256)=true
 ·exact a.1
 ·rw[kb a]at h;cases h
theorem pV{m:Mem}{w:Int}(h:m.typ w≠0):m.isObj w/\w % 8=3:=by
 have a:m.isObj w:=by
  by_cases a:m.isObj w
  ·exact a
  ·unfold Mem.typ at h;rw[kb a]at h;exact absurd rfl h
 exact⟨a,a.1.2.1⟩
theorem sL(h:dD b a=.bad u):u≠0:=by
 unfold dD at h
 cases c:iX a with
 | some d=>rw[c]at h;cases h
 | none=>
  rw[c]at h;simp only at h;split at h
  ·cases h
  split at h
  ·cases h
  split at h
  ·split at h
   ·cases h
   ·cases h;decide
  split at h
  ·cases h
  split at h
  ·cases h
  ·cases h;decide
theorem uO(h:a % 8=1):(Be b a).2.2=3:=by
 unfold Be;rw[kb GF,kb (λc=>by have:=c.1.1.2.1;omega)]
theorem kL{m:Mem}{w:Int}:(dD m w).isP=true ↔ (w % 8=1/\m.isPair w):=by
 constructor
 ·intro h;unfold dD at h
  cases a:iX w with
  | some d=>rw[a]at h;cases h
  | none=>
   rw[a]at h;simp only at h;split at h
   ·cases h
   split at h
   ·cases h
   split at h
   ·split at h<;>cases h
   split at h
   ·cases h
   split at h
   ·assumption
   ·cases h
 ·intro h
  have a:iX w=none:=by
   cases a:iX w with
   | none=>rfl
   | some d=>have:=mE a;omega
  have b: ∀k,k≠0->m.typ w≠k:=λk hk c=>by have:=(pV (m:=m) (w:=w) GF).2;omega
  unfold dD;rw[a];simp only;rw[kb (by rw[uO h.1];decide),kb (b 2 GG),kb (b 4 GG),kb (b 1 GG),ka h];rfl
theorem pD{m:Mem}{w:Int}(h:(dD m w).isP=true):dD m w=.pair (if m.halfE w 0=0 then m.get (w / 8+0)else 0) (if m.halfE w 1=0 then m.get (w / 8+1)else 0):=by
 have c:=kL.1 h
 have a:iX w=none:=by
  cases a:iX w with
  | none=>rfl
  | some d=>have:=mE a;omega
 have b: ∀k,k≠0->m.typ w≠k:=λk hk e=>by have:=(pV (m:=m) (w:=w) GF).2;omega
 unfold dD;rw[a];simp only;rw[kb (by rw[uO c.1];decide),kb (b 2 GG),kb (b 4 GG),kb (b 1 GG),ka c]
theorem xH(d:aO a): ∀x∈(Be b a).2.1,gK x:=by
 intro x c;unfold Be at c;split at c
 ·have e:0<=a/\a<18446744073709551616:=d;unfold eL at c;split at c
  ·simp at c
  ·have:=uh c;unfold Ca at this;simp at this;unfold gK
   have hm:0<=mag (signed a / 8)/\mag (signed a / 8)<18446744073709551616:=by
    unfold mag signed;omega
   rcases this with rfl | rfl<;>omega
 split at c
 ·split at c
  ·obtain⟨z,_,rfl⟩:=EZ.1 c;unfold gK;omega
  ·simp at c
 ·simp at c
def Dk(H H':zV)(i:Nat):Prop:=H.size<=i/\i<H'.size
structure RowD (lo:Nat) (H:zV) (B:zW) (n c:Nat) (us:List Dv) (ds:List Dt):Prop where
 own:Own H 27 6 B n c (us.flatMap Dv.cells)
 len:us.length=n
 dlen:ds.length=n
 row: ∀i∈l6 B,lo<=i
 each: ∀(i:Nat) (h1:i<us.length) (h2:i<ds.length),cD (λj=>(lo<=j/\j<H.size)/\j ∉ l6 B) H us[i] ds[i]
theorem RowD.nil:RowD d H none 0 0 [] []:=⟨gW,rfl,rfl,GH,λi a=>by simp at a⟩
theorem RowD.keep{S:List Nat}{g:zV}{n c:Nat}(h:RowD d H y n c B A)(f:Fr S H g)(j: ∀i∈S,i<d\/H.size<=i):RowD d g y n c B A:=
 ⟨h.own.keep f (λi k e=>by
  rcases j i e with b | b
  ·have:=h.row i k;omega
  ·have:=h.own.lt i k;omega),h.len,h.dlen,h.row,λi l m=>(h.each i l m).keep f (λi e a=>by
  rcases j i e with b | b
  ·have:=a.1.1;omega
  ·have:=a.1.2;omega) (λi a=>⟨⟨a.1.1,Fh a.1.2 f.size⟩,a.2⟩)⟩
theorem RowD.ext{n c:Nat}(h:RowD d H y n c B A)(e:Ext H i):RowD d i y n c B A:=h.keep (S:=[]) e.fr GH
theorem RowD.push{F p:zW}{n c s:Nat}(h:RowD d H F n c B A)(f:Fr (l6 F) H i)(o:Own i 27 6 p (n+1) s (B.flatMap Dv.cells++q.cells))
  (a: ∀G∈l6 p,G∈l6 F\/H.size<=G) (z:d<=H.size) (D:cD (λj=>w<=j/\j<H.size) H q g) (u:d<=w) (t: ∀G∈l6 F,G<w):RowD d i p (n+1) s (B++[q]) (A++[g]):=by
 have E:=f.size;refine⟨by simpa using o,by simp[h.len],by simp[h.dlen],λG l=>?_,λG y C=>?_⟩
 ·rcases a G l with b | b
  ·exact h.row G b
  ·omega
 ·by_cases l:G<B.length
  ·rw[Gt l,Gt (by rw[h.dlen,<-h.len];exact l)];refine(h.each G l (by rw[h.dlen,<-h.len];exact l)).keep f (λj e k=>k.2 e) (λj k=>⟨⟨k.1.1,GF⟩,λe=>?_⟩);rcases a j e with b | b
   ·exact k.2 b
   ·have:=k.1.2;omega
  ·have m:G=B.length:=by simp at y;omega
   have r:G=A.length:=by rw[m,h.len,h.dlen]
   have v:(B++[q])[G]=q:=by simp[m]
   have x:(A++[g])[G]=g:=by simp[r]
   rw[v,x];refine D.keep f (λj e k=>by have:=t j e;omega) (λj k=>⟨⟨GF,GF⟩,λe=>?_⟩);rcases a j e with b | b
   ·have:=t j b;omega
   ·omega
def CF(B:zW)(n c:Nat):Dv:=⟨8,0,false,none,0,0,tE,B,n,c⟩
theorem RowD.vec{e:Nat}{H:zV}{B:zW}{n c:Nat}{g:List Dv}{d:List Dt}(h:RowD e H B n c g d)(hn:n<4611686018427387904):cD (λj=>e<=j/\j<H.size) H (CF B n c) (.mk 8 0 false [] tE d):=by
 refine .mk _ 8 0 false [] tE d g rfl rfl rfl rfl GG GG rfl (Er _) (by show(0:Nat)<_;decide) rfl GH h.dlen.symm h.own.le (by show n<_;omega) (h.len.trans h.dlen.symm) (λo=>absurd rfl o) (λ_ i b=>⟨h.row i b,h.own.lt i b⟩) (λi b=>?_) (λi k l=>?_)
 ·obtain⟨a,m,_,q⟩:=h.own.elem (f:=Dv.cells) (λ_=>rfl) GG b;exact⟨a,m,q⟩
 ·exact(h.each i k l).keep (S:=[]) (Ey _ _) GH (λj p=>p.1)
def sM(b:Nat):Dv:=⟨7,0,false,none,0,0,tE,some ⟨b,0,none⟩,2,2⟩
theorem uP{b:Dv}{f:Nat×Nat}(o:H[d]?=some (.cells (q.cells++b.cells).toArray k f))(h:cD x H q g)(j:cD x H b z)(l:x d):cD x H (sM d) (gL g z):=by
 refine .mk _ 7 0 false [] tE [g,z] [q,b] rfl rfl rfl rfl GG GG rfl (Er _) (by show(0:Nat)<_;decide) rfl GH rfl (Er _) (by show(2:Nat)<_;decide) rfl (λm=>absurd rfl m) (λ_ i a=>by simp[sM]at a;subst a;exact l) (λi a=>⟨_,rfl,?_⟩) (λi c n=>?_)
 ·have e:=bA (vs:=q.cells++b.cells) o
  match i,a with
  | 0,_=>exact aI.sub 0 e rfl
  | 1,_=>exact aI.sub 6 e rfl
 ·match i,c with
  | 0,_=>exact h
  | 1,_=>exact j
def jv(k c:Int):Dv:=⟨k,c,false,none,0,0,tE,none,0,0⟩
theorem qW(hk:BT a)(c: -2147483648<=u/\u<=2147483647):cD x H (jv a u) (.mk a u false [] tE []):=
 .mk _ a u false [] tE [] [] rfl rfl rfl rfl hk c rfl (Er _) (by show(0:Nat)<_;decide) rfl GH rfl (Er _) (by show(0:Nat)<_;decide) rfl (λb=>absurd rfl b) (λb=>absurd rfl b) (λi h=>by simp at h) (λi h=>by simp at h)
def CK(k:Int)(t:ByteArray):Dv:=⟨k,0,false,none,0,0,t,none,0,0⟩
theorem tG{t:ByteArray}(hk:BT a):cD x H (CK a t) (.mk a 0 false [] t []):=
 .mk _ a 0 false [] t [] [] rfl rfl rfl rfl hk GG rfl (Er _) (by show(0:Nat)<_;decide) rfl GH rfl (Er _) (by show(0:Nat)<_;decide) rfl (λb=>absurd rfl b) (λb=>absurd rfl b) (λi h=>by simp at h) (λi h=>by simp at h)
def Dp(neg:Bool)(B:zW)(n c:Nat):Dv:=⟨4,0,neg,B,n,c,tE,none,0,0⟩
theorem zR{neg:Bool}{c:Nat}(b:iU d H y w c j)(k: ∀x∈j,gK x)(f:j.length<=62):cD (λl=>d<=l/\l<H.size) H (Dp neg y w c) (.mk 4 0 neg j tE []):=by
 have a:w=j.length:=by have:=b.1.len;simp at this;omega
 exact .mk _ 4 0 neg j tE [] [] rfl rfl rfl rfl GG GG a b.1.le (by show w<_;omega) b.1.src k rfl (Er _) (by show(0:Nat)<_;decide) rfl (λ_ i e=>⟨b.2 i e,b.1.lt i e⟩) (λg=>absurd rfl g) (λi h=>by simp at h) (λi h=>by simp at h)
theorem y9:(Be b a).2.1.length<=62:=by
 unfold Be;split
 ·unfold eL;split
  ·simp
  ·show(oo _).length<=62;rw[jU];have:=oK (Ca (signed a / 8));simp[Ca]at this;omega
 split
 ·rename_i h
  split
  ·show(List.map _ _).length<=62;rw[E2,Gd];have:=h.1.len_lt;unfold Mem.len;rw[ka h.1];omega
  ·simp
 ·simp
theorem oW(Y:aO a):fT.C a H (λv H'=> ∃(k c:Int) (b:Bool),v=.tuple #[.agg (jv k c).cells.toArray,.bool b]/\(iX a=if b=true then some (.mk k c false [] tE [])else none)/\(BT k/\ -2147483648<=c/\c<=2147483647)/\Ext H H'):=by
 refine Ei λR hR=>fT.link ?_;unfold fT.pt;intro b H1 hb s f H2 O L;have V:=Eh s;have X:=aK hb s;obtain⟨s3,p3⟩:=fe (vs:=(jv 0 0).cells) O L rfl rfl;refine⟨s3,λD M=>?_⟩;obtain⟨q,W⟩:=p3 D M;have I:=W.get X;have ap:=aS X;have E:=V.trans W;have av:=V.size;have ax:0<=a/\a<18446744073709551616:=Y
 have e: ∀(k c:Int) (t:Bool) (A:zV),A[f]?=some (.cells (jv k c).cells.toArray 27 (0,0))->Fr [f] D A->(iX a=if t=true then some (.mk k c false [] tE [])else none)->(BT k/\ -2147483648<=c/\c<=2147483647)->
   ∃xK:Int,∃xC:Int,∃xN:Bool,∃xB:zW,∃xM:Nat,∃xD:Nat,∃xT:ByteArray,∃xE:zW,∃xF:Nat,∃xG:Nat,aI A (Addr.mk f 0 none) 0 [vi xK,.int .i32 xC,.bool xN,vs xB xM xD,.string xT,vs xE xF xG]/\
    (aF A (Addr.mk b 0 none) 0 6)/\ ∀r:zV,r=aL A (Addr.mk b 0 none) [vi xK,.int .i32 xC,.bool xN,vs xB xM xD,.string xT,vs xE xF xG] 0->
    ∃rK:Int,∃rC:Int,∃rN:Bool,∃Z:zW,∃rM:Nat,∃rD:Nat,∃rT:ByteArray,∃rE:zW,∃rF:Nat,∃rG:Nat,aI r (Addr.mk b 0 none) 0 [vi rK,.int .i32 rC,.bool rN,vs Z rM rD,.string rT,vs rE rF rG]/\
    R (.tuple #[.agg #[vi rK,.int .i32 rC,.bool rN,vs Z rM rD,.string rT,vs rE rF rG],.bool t]) r:=λk c t A gA G hk Q=>by
  refine⟨_,_,_,_,_,_,_,_,_,_,bA gA,?_⟩;obtain⟨s5,T⟩:=ff (vs:=(jv k c).cells) (G.get (by simp;omega) I) rfl rfl;refine⟨s5,λr K=>?_⟩;obtain⟨J,F⟩:=T r K;have aw:=G.size;exact⟨_,_,_,_,_,_,_,_,_,_,bA J,hR _ _ ⟨k,c,t,rfl,hk,Q,(E.fr_trans G (λi P=>by simp at P;omega)).fr_trans F (λi P=>by simp at P;omega)⟩⟩
 by_cases x:a=12
 ·rw[ka x];obtain⟨g,l⟩:=ie q 0 (vi 1) (by show 0<6;omega);rw[show(Addr.mk f 0 none).add 0=Addr.mk f 0 none from rfl]at g l;refine⟨g,λm d=>?_⟩;obtain⟨o,n⟩:=l m d;exact e 1 0 true m o n (by subst x;rfl) GG
 rw[kb x];by_cases y:a=4
 ·rw[ka y];obtain⟨g,l⟩:=ie q 0 (vi 2) (by show 0<6;omega);rw[show(Addr.mk f 0 none).add 0=Addr.mk f 0 none from rfl]at g l;refine⟨g,λm d=>?_⟩;obtain⟨o,n⟩:=l m d;exact e 2 0 true m o n (by subst y;rfl) GG
 rw[kb y];by_cases z:a=36
 ·rw[ka z];obtain⟨g,l⟩:=ie q 0 (vi 9) (by show 0<6;omega);rw[show(Addr.mk f 0 none).add 0=Addr.mk f 0 none from rfl]at g l;refine⟨g,λm d=>?_⟩;obtain⟨o,n⟩:=l m d;exact e 9 0 true m o n (by subst z;rfl) GG
 rw[kb z];by_cases p:a=28
 ·rw[ka p];obtain⟨g,l⟩:=ie q 0 (vi 10) (by show 0<6;omega);rw[show(Addr.mk f 0 none).add 0=Addr.mk f 0 none from rfl]at g l;refine⟨g,λm d=>?_⟩;obtain⟨o,n⟩:=l m d;exact e 10 0 true m o n (by subst p;rfl) GG
 rw[kb p];by_cases w:a=20
 ·rw[ka w];exact e 0 0 true D q (Ey _ _) (by subst w;rfl) GG
 rw[kb w]
 have u:iX a=if a % 8=4/\a / 8 % 32=7/\iG (a / 256)=true then some (.mk 3 (a / 256) false [] tE [])else none:=by
  unfold iX;rw[kb x,kb y,kb z,kb p,kb w]
 refine gc (t6 Y) ?_;rintro _ B ⟨rfl,j⟩;by_cases h:a % 8=4/\a / 8 % 32=7/\iG (a / 256)=true
 ·rw[ka h]at u⊢;refine⟨_,_,rfl,?_⟩;rw[ka rfl]
  have au:a / 256<=1114111:=by
   have:=h.2.2;unfold iG at this;simp at this;omega
  obtain⟨g,l⟩:=ie (j.get q) 0 (vi 3) (by show 0<6;omega);rw[show(Addr.mk f 0 none).add 0=Addr.mk f 0 none from rfl]at g l;refine⟨g,λm d=>?_⟩;obtain⟨o,n⟩:=l m d;obtain⟨c5,T⟩:=ie o 1 (.int .i32 (a / 256)) (by show 1<6;omega);refine⟨c5,λU N=>?_⟩;obtain⟨J,F⟩:=T U N;exact e 3 (a / 256) true U J ((j.fr (S:=[f])).trans (n.trans F)) (by rw[ka rfl];exact u) ⟨GG,GF,GF⟩
 ·rw[kb h]at u⊢;refine⟨_,_,rfl,?_⟩;rw[kb GG];exact e 0 0 false B (j.get q) j.fr (by rw[kb GG];exact u) GG
theorem oE(g:H[d]?=some (.cells #[C,vi a] k (0,0)))(hn:0<=a/\a<=4096):
  eO.C (some ⟨d,0,none⟩) H (λv e=>v=vi (if 4096<a+1 then 6 else 0)/\e[d]?=some (.cells #[C,vi (a+1)] k (0,0))/\Fr [d] H e):=by
 refine Ei λR i=>eO.link ?_;unfold eO.pt zY;refine⟨_,rfl,_,by rw[fu g];rfl,?_⟩;obtain⟨l,m⟩:=ie g 1 (vi (a+1)) (by show 1<2;omega);rw[n5 GF];refine⟨l,λj c=>?_⟩;obtain⟨b,f⟩:=m j c;refine⟨_,by rw[fu b];rfl,?_⟩;by_cases h:a+1>4096
 ·rw[ka h];exact i _ _ ⟨by rw[ka GF],b,f⟩
 ·rw[kb h];exact i _ _ ⟨by rw[kb GF],b,f⟩
def vX(H:zV)(rb:Nat)(k:Blk)(T:TypeId)(r:mK)(v:Value)(H':zV):Prop:=
 ∃(u:Dv),v=.tuple #[.agg u.cells.toArray,vi r.1]/\Fr [rb] H H'/\(r.1=0->H'[rb]?=some (.cells #[vp (some ⟨k.h,0,none⟩),vi r.2.2] T (0,0))/\cD (Dk H H') H' u r.2.1)
def vZ(f:Nat):Prop:= ∀{H0 H:zV} {k:Blk} {x:Hp} {rb:Nat} {n w deep:Int} {T:TypeId} (L:Live H0 H k x) (g:H[rb]?=some (.cells #[vp (some ⟨k.h,0,none⟩),vi n] T (0,0))) (hrb:rb ∉ k.all) (hrb0:H0.size<=rb) (hw:aO w) (hn:0<=n/\n<=4096) (hf:4097-n<=f) (hd:0<=deep/\deep<=64),
  cM.C (some ⟨rb,0,none⟩) w deep H (vX H rb k T (iJ (dD x.sp.mem) f n w deep))
theorem iK{a:Array Value}{b:Nat×Nat}(g:H[d]?=some (.cells a k b))(h:a[0]?=some C):hat H ⟨d,0,none⟩=some C:=by rw[aW g];exact h
theorem pK(ih:vZ d){z:Nat}{n w a:Int}(L:Live H i o r)(g:i[z]?=some (.cells #[vp (some ⟨o.h,0,none⟩),vi n] k (0,0)))(av:z ∉ o.all)(aw:H.size<=z)(hw:aO w)(hn:0<=n/\n<=4096)(hf:4097-n<=d)(hd:0<=a/\a<=64)(ht:r.sp.mem.typ w=1):
  dJ.C (some ⟨z,0,none⟩) w a i (vX i z o k (if a=64 then(10,zD,0)else BI (λn w=>iJ (dD r.sp.mem) d n w (a+1)) n (r.sp.mem.objWords w) [])):=by
 refine Ei λR hR=>dJ.link ?_;unfold dJ.pt zY;generalize hr:(if a=64 then((10,zD,0):mK)else BI (λn w=>iJ (dD r.sp.mem) d n w (a+1)) n (r.sp.mem.objWords w) [])=d3 at hR;intro b H1 hb ai d4 H2 b6 b3;have e1:=Eh ai;have g1:=aK hb ai;obtain⟨s3,p3⟩:=fe (vs:=(CF none 0 0).cells) b6 b3 rfl rfl;refine⟨s3,λH3 b4=>?_⟩;obtain⟨g3,e3⟩:=p3 H3 b4;have af:=e3.get g1;have ck:=aS g1;have cm:=aS g3;have O:=e1.trans e3;have cr:=aS g;have cs:=e1.size;have ct:=e3.size
 have a1: ∀(u:Dv) (A:zV),A[d4]?=some (.cells u.cells.toArray 27 (0,0))->A[b]?=some (.cells (jv 0 0).cells.toArray 27 (0,0))->Fr [z] i A->(d3.1=0->A[z]?=some (.cells #[vp (some ⟨o.h,0,none⟩),vi d3.2.2] k (0,0))/\cD (λj=>H3.size<=j/\j<A.size) A u d3.2.1)->
   ∃xK:Int,∃xC:Int,∃xN:Bool,∃xB:zW,∃xM:Nat,∃xD:Nat,∃xT:ByteArray,∃xE:zW,∃xF:Nat,∃xG:Nat,aI A (Addr.mk d4 0 none) 0 [vi xK,.int .i32 xC,.bool xN,vs xB xM xD,.string xT,vs xE xF xG]/\
    (aF A (Addr.mk b 0 none) 0 6)/\ ∀A':zV,A'=aL A (Addr.mk b 0 none) [vi xK,.int .i32 xC,.bool xN,vs xB xM xD,.string xT,vs xE xF xG] 0->
    ∃rK:Int,∃rC:Int,∃rN:Bool,∃rB:zW,∃rM:Nat,∃rD:Nat,∃rT:ByteArray,∃rE:zW,∃rF:Nat,∃rG:Nat,aI A' (Addr.mk b 0 none) 0 [vi rK,.int .i32 rC,.bool rN,vs rB rM rD,.string rT,vs rE rF rG]/\
    R (.tuple #[.agg #[vi rK,.int .i32 rC,.bool rN,vs rB rM rD,.string rT,vs rE rF rG],vi d3.1]) A':=λu A gA I fA a3=>by
  refine⟨_,_,_,_,_,_,_,_,_,_,bA gA,?_⟩;obtain⟨s5,p5⟩:=ff (vs:=u.cells) I rfl rfl;refine⟨s5,λA' b2=>?_⟩;obtain⟨g5,f5⟩:=p5 A' b2;refine⟨_,_,_,_,_,_,_,_,_,_,bA g5,hR _ _ ⟨u,rfl,fA.trans' f5 (λd1 f _=>f) (λd1 f _=>by simp at f;omega),λU=>?_⟩⟩;obtain⟨o1,o2⟩:=a3 U;have b9:=f5.size;exact⟨f5.get (by simp;omega) o1,o2.keep f5 (λd1 f hp=>by simp at f;omega) (λj hj=>⟨GF,GF⟩)⟩
 by_cases ah:a=64
 ·rw[ka ah]at hr⊢;subst hr;exact a1 (CF none 0 0) H3 g3 af O.fr (λh=>absurd h GG)
 rw[kb ah]at hr⊢;refine⟨_,rfl,_,iK (O.get g) rfl,?_⟩;refine gc (wU (L.grow O).view hw) ?_;rintro _ H5 ⟨rfl,e5⟩;refine⟨_,rfl,?_⟩;have aa:=O.trans e5;rw[show(nc (some (o,r)))=r.sp.mem from rfl];have M:=(pV (m:=r.sp.mem) (w:=w) GF).1
 have q:r.sp.mem.len w=((r.sp.mem.objWords w).length:Int):=by
  rw[Gd];have:=M.len_lt;unfold Mem.len;rw[ka M];omega
 rw[q];have a4:=L.view.objWord w;rw[show(nc (some (o,r)))=r.sp.mem from rfl]at a4
 have Y:(r.sp.mem.objWords w).length<=62:=by
  have:=M.len_lt;unfold Mem.len at q;rw[ka M]at q;omega
 have am: ∀(d1:Nat) (f:d1< (r.sp.mem.objWords w).length),(if r.sp.mem.fieldE w 1 (d1:Int)=0 then r.sp.mem.get (w / 8+1+(d1:Int))else 0)=(r.sp.mem.objWords w)[d1]:=λd1 f=>by
  rw[ka (by unfold Mem.fieldE;rw[kb (by rw[ht];simp[M]),kb (by rw[q];omega)]),Mem.objWords_get]
 generalize cz:r.sp.mem.objWords w=V at hr q a4 Y am⊢;have cu:=e5.size
 refine⟨λs A=> ∃(l:List Dv) (ds:List Dt) (B:zW) (c:Nat) (n1:Int),s=l.length/\l.length<=V.length/\(Fr [z] i A/\H5.size<=A.size)/\A[b]?=some (.cells (jv 0 0).cells.toArray 27 (0,0))/\A[d4]?=some (.cells (CF B l.length c).cells.toArray 27 (0,0))/\RowD H3.size A B l.length c l ds/\
   A[z]?=some (.cells #[vp (some ⟨o.h,0,none⟩),vi n1] k (0,0))/\(n<=n1/\n1<=4096)/\BI (λn w=>iJ (dD r.sp.mem) d n w (a+1)) n1 (V.drop l.length) ds=d3,λs _=>(V.length-s).toNat,
  ⟨[],[],none,0,n,rfl,Fm _,⟨aa.fr,Er _⟩,e5.get af,e5.get g3,RowD.nil,aa.get g,⟨EN _,hn.2⟩,hr⟩,?_⟩
 rintro s A ⟨l,ds,B,c,n1,rfl,cy,⟨fA,ci⟩,I,a2,v,gA,cp,p⟩;have b9:=fA.size;have LA:Live H A o r:=L.keep fA (λd1 f=>by simp at f;omega) (λd1 f=>by simp at f;subst f;exact av);by_cases an:(l.length:Int)< (V.length:Int)
 ·rw[ka an];have K:l.length<V.length:=GF;rw[Fn K]at p;unfold BI at p;refine⟨_,iK gA rfl,?_⟩;refine gc (rZ LA.view hw (by constructor<;>omega)) ?_;rintro _ H7 ⟨rfl,e7⟩;refine⟨_,_,rfl,?_⟩;rw[show(nc (some (o,r)))=r.sp.mem from rfl,am _ K,n5 (n:=a+1) GF];refine gc (ih (LA.grow e7) (e7.get gA) av aw (a4 _ (Eu K)) GF GF GF) ?_;rintro _ H8 ⟨u,rfl,f8,a3⟩;refine⟨_,_,_,_,_,_,_,_,_,_,_,rfl,λcO H9 al b5=>?_⟩;obtain⟨bc,ba⟩:=fe (vs:=u.cells) al b5 rfl rfl;refine⟨bc,λD aj=>?_⟩;obtain⟨aX,N⟩:=ba D aj;have b8:=aS I;have bk:=aS a2;have t:Fr [z] A D:=((e7.fr (S:=[z])).trans f8).trans N.fr;have ab:Fr [z] i D:=fA.trans t;have W:=t.get (by simp;omega) I;have G:=t.get (by simp;omega) a2;have cv:=e7.size;have cw:=f8.size;have bl:=N.size;by_cases U:(iJ (dD r.sp.mem) d n1 V[l.length] (a+1)).1=0
  ·rw[ka U];rw[ka U]at p;obtain⟨g8,D8⟩:=a3 U;have cn:=qV (dD r.sp.mem) (λw e h=>sL h) d n1 V[l.length] (a+1) U;refine⟨B,l.length,c,by rw[fu G];rfl,_,_,_,_,_,_,_,_,_,_,bA aX,λcQ Z b7 X=>?_⟩;have y:=Eh X;have bm:=y.size;have x:RowD H3.size Z B l.length c l ds:=(v.keep t (λd1 f=>by simp at f;omega)).ext y;have J: ∀d1∈l6 B,H3.size<=d1/\d1<A.size:=λd1 f=>⟨v.row d1 f,v.own.lt d1 f⟩;refine dE (ys:=u.cells) x.own (cX (aK b7 X) _ 0 0 (λj hj=>GH)) rfl (by rfl) rfl (by have ch:=Y;omega) ?_;intro p' c' cc ap F ao;have bn:=F.size;have ac:=F.get (λf=>by have:=J _ f;omega) (y.get G);obtain⟨aT,bb⟩:=ie ac 5 (vs p' (l.length+1) c') (by show 5<6;omega);refine⟨aT,λa8 ak=>?_⟩;obtain⟨b0,P⟩:=bb a8 ak;have bo:=P.size;have aN:cD (λj=>H7.size<=j/\j<Z.size) Z u _:=D8.keep (S:=[]) (N.trans y).fr GH (λj hj=>⟨hj.1,by have:=hj.2;omega⟩);have ag:H3.size<=H7.size:=GF;have Q:=x.push F ap ao GF aN ag (λd1 f=>by have:=J d1 f;omega);have T:=Q.keep P (λd1 f=>by simp at f;omega);have E: ∀{d1:Nat},d1<A.size->d1 ∉ l6 B->d1≠d4-> ∀{d2:Obj},D[d1]?=some d2->a8[d1]?=some d2:=λh1 h2 h3 d2 ho=>P.get (by simp;omega) (F.get h2 (y.get ho));refine⟨⟨l++[u],ds++[_],p',c',_,by rw[n5 GF];simp,by simp;omega,?_,?_,?_,by simpa using T,?_,?_,by simpa using p⟩,by rw[n5 GF];show((V.length:Int)-((l.length:Int)+1)).toNat< ((V.length:Int)-(l.length:Int)).toNat;omega⟩
   ·exact⟨((ab.trans y.fr).trans' F (λd1 f _=>f) (λd1 f hl=>by have:=J d1 f;omega)).trans' P (λd1 f _=>f) (λd1 f hl=>by simp at f;omega),GF⟩
   ·exact E b8 (λf=>by have:=J _ f;omega) GF W
   ·rw[show(l++[u]).length=l.length+1 by simp];exact b0
   ·exact E GF (λf=>by have:=J _ f;omega) GF (N.get g8)
   ·omega
  ·rw[kb U];rw[kb U]at p;subst p;exact a1 (CF B l.length c) D G W ab (λh=>absurd h U)
 ·rw[kb an];rw[Fa GF]at p;unfold BI at p;subst p;exact a1 (CF B l.length c) A a2 I fA (λ_=>⟨gA,v.vec GF⟩)
theorem mF(h:b.isObj a):iX a=none:=by
 cases c:iX a with
 | none=>rfl
 | some d=>have:=mE c;have:=h.1.2.1;omega
theorem qX(h:b.isObj a)(d:b.typ a≠3):(Be b a).2.2=3:=by
 unfold Be;rw[kb (by have:=h.1.2.1;omega),kb (λc=>d c.2)]
theorem qY(h:fZ v b j a g):
  (g.kind=7-> ∃x y G H,g=gL x y/\dD b a=.pair G H/\fZ v b j G x/\fZ v b j H y)/\
  (g.kind=8-> ∃n l,g=.mk 8 0 false [] tE l/\dD b a=.vec n/\n.length=l.length/\ ∀(i:Nat) (d:i<n.length) (m:i<l.length),fZ v b j n[i] l[i])/\
  (g.kind≠7->g.kind≠8->dD b a=.leaf g):=by
 cases h with
 | @con a k h=>
  have hk:k=0\/k=1\/k=2\/k=9\/k=10:=by
   unfold CI at h;by_cases d:k=0
   ·omega
   rw[kb d]at h;by_cases m:k=1
   ·omega
   rw[kb m]at h;by_cases u:k=2
   ·omega
   rw[kb u]at h;by_cases w:k=9
   ·omega
   rw[kb w]at h;by_cases C:k=10
   ·omega
   rw[kb C]at h;cases h
  refine⟨λe=>?_,λe=>?_,λ_ _=>?_⟩
  ·have e:k=7:=e;omega
  ·have e:k=8:=e;omega
  ·have f:iX a=some (.mk k 0 false [] tE []):=by
    rcases hk with rfl | rfl | rfl | rfl | rfl<;>(simp[CI]at h;subst h;rfl)
   unfold dD;rw[f]
 | @chr c h=>
  refine⟨λe=>absurd (show(3:Int)=7 from e) GG,λe=>absurd (show(3:Int)=8 from e) GG,λ_ _=>?_⟩;have A:=uF h
  have p:iG ((c*256+60) / 256)=true:=by
   rw[show(c*256+60) / 256=c by omega];have E:(0<=c/\c<=1114111)/\(c<55296\/57343<c):=by simpa[jW]using h
   unfold iG;simp;omega
  have f:iX (c*256+60)=some (.mk 3 c false [] tE []):=by
   unfold iX;rw[kb GF,kb GF,kb GF,kb GF,kb GF,ka ⟨GF,GF,p⟩,show(c*256+60) / 256=c by omega]
  unfold dD;rw[f]
 | @num a neg mag h hm p=>
  refine⟨λe=>absurd (show(4:Int)=7 from e) GG,λe=>absurd (show(4:Int)=8 from e) GG,λ_ _=>?_⟩;rcases h with⟨d,m,u,w⟩ | h
  ·have f:iX a=none:=by
    cases f:iX a with
    | none=>rfl
    | some g=>have:=mE f;omega
   have hn:Be b a=(neg,mag,0):=by unfold Be;rw[ka d,u,w]
   unfold dD;rw[f];simp only;rw[ka (by rw[hn]),hn]
  ·have q:(b.objWords a).map (· % 4294967296)=mag:=by
    rw[h.words];refine FS GH λi d m=>?_;rw[List.getElem_map];have:=p _ (Eu m);unfold gK at this;omega
   have r:(b.more a==1)=neg/\ ¬b.more a>1:=by
    rw[h.more'];cases neg
    ·rw[kb GG];decide
    ·rw[ka rfl];decide
   have hn:Be b a=(neg,mag,0):=by
    unfold Be;rw[kb (by have:=h.obj.1.2.1;omega),ka ⟨h.obj,h.typ⟩,q,r.1,ka ⟨hm,r.2⟩]
   unfold dD;rw[mF h.obj];simp only;rw[ka (by rw[hn]),hn]
 | @str a t h z=>
  refine⟨λe=>absurd (show(5:Int)=7 from e) GG,λe=>absurd (show(5:Int)=8 from e) GG,λ_ _=>?_⟩;unfold dD;rw[mF h.obj];simp only;rw[kb (by rw[qX h.obj (by rw[h.typ];decide)];decide),ka h.typ,h.words,sE z]
 | @sym a t h B z=>
  refine⟨λe=>absurd (show(6:Int)=7 from e) GG,λe=>absurd (show(6:Int)=8 from e) GG,λ_ _=>?_⟩;have hn:=iW B z;obtain⟨s,d,m⟩:=B;unfold dD;rw[mF d.obj];simp only;rw[kb (by rw[qX d.obj (by rw[d.typ];decide)];decide),kb (by rw[d.typ];decide),ka d.typ,hn,ka rfl]
 | @vec a n l h p o=>
  refine⟨λe=>absurd (show(8:Int)=7 from e) GG,λ_=>⟨n,l,rfl,?_,p,o⟩,λ_ e=>absurd rfl e⟩;unfold dD;rw[mF h.obj];simp only;rw[kb (by rw[qX h.obj (by rw[h.typ];decide)];decide),kb (by rw[h.typ];decide),kb (by rw[h.typ];decide),ka h.typ,h.words]
 | @pair a G H x y h F D A=>
  refine⟨λ_=>⟨x,y,G,H,rfl,?_,D,A⟩,λe=>absurd (show(7:Int)=8 from e) GG,λe=>absurd rfl e⟩;rw[pD (kL.2 ⟨h.at'.2.1,h.isPair⟩),ka h.half.1,ka h.half.2,h.cdr];congr 1;have:=h.car;simpa using this
theorem qZ(x y:Dt):bZ x+1<=bZ (gL x y)/\(y.kind≠7->bZ y+1<=bZ (gL x y))/\bZ y<=bZ (gL x y):=by
 have e:bZ (gL x y)=mx (mx 0 (Bf 7 x [y])) (Bf 7 y []):=rfl;have b:Bf 7 x [y]=bZ x+1:=by unfold Bf;rw[kb GH]
 have c:=su (mx 0 (Bf 7 x [y])) (Bf 7 y []);have d:=su 0 (Bf 7 x [y]);rw[e];refine⟨GF,λa=>?_,?_⟩
 ·have:Bf 7 y []=bZ y+1:=by unfold Bf;rw[kb (λh=>a h.2.2)]
  omega
 ·have:bZ y<=Bf 7 y []:=by unfold Bf;split<;>omega
  omega
theorem xI(l:List Dt):1<=bZ (.mk 8 0 false [] tE l)/\ ∀x∈l,bZ x+1<=bZ (.mk 8 0 false [] tE l):=by
 have e:bZ (.mk 8 0 false [] tE l)=iu 8 l 1:=rfl
 have key: ∀(l:List Dt) (n:Int),n<=iu 8 l n/\ ∀x∈l,bZ x+1<=iu 8 l n:=by
  intro l
  induction l with
  | nil=>intro n;exact⟨EN _,GH⟩
  | cons y r c=>
   intro n;rw[kj];have b:=c (mx n (Bf 8 y r));have d:=su n (Bf 8 y r);have f:Bf 8 y r=bZ y+1:=by unfold Bf;rw[kb GH]
   refine⟨GF,λx a=>?_⟩;rcases Ew.1 a with rfl | a
   ·omega
   ·exact b.2 x a
 rw[e];exact key l 1
theorem rf{e:Int->Int->mK}: ∀(l:List Dt) (b:List Int) (n:Int) (a:List Dt),b.length=l.length->n+bO l<=4096->
  (∀(i:Nat) (f:i<b.length) (d:i<l.length) (n:Int),n+aY l[i]<=4096->e n b[i]=(0,l[i],n+aY l[i]))->BI e n b a=(0,.mk 8 0 false [] tE (a++l),n+bO l)
 | [],[],n,a,_,_,_=>by simp[BI,bO]
 | x::l,w::b,n,a,hl,hn,h=>by
  simp only[bO]at hn;have d:=(ir l).1;have c:=h 0 GH GH n (by simp;omega);simp only[Gu]at c;unfold BI;rw[c,ka rfl]
  rw[rf l b (n+aY x) (a++[x]) (by simpa using hl) GF (λi f d n hn=>by
   have:=h (i+1) (by simp;omega) (by simp;omega) n (by simpa using hn);simpa using this)]
  simp only[bO,Ft,List.singleton_append];congr 2;omega
theorem rg(a:List Dt)(x y:Dt):ju (a++[x]) y=ju a (gL x y):=by unfold ju;rw[List.foldr_append];rfl
theorem uQ(N:Nat): ∀(d:Dt) (w:Int),aY d<=N->fZ v b j w d-> ∀(f:Nat) (n c:Int),aY d<=f->n+aY d<=4096->c+bZ d<=64->
  iJ (dD b) f n w c=(0,d,n+aY d):=by
 induction N with
 | zero=>intro d w h;have:=cV d;omega
 | succ N R=>
 intro d w hN Y f n c hf hn H;have hp:=cV d;obtain⟨f,rfl⟩: ∃C,f=C+1:=⟨f-1,GF⟩;obtain⟨v7,v8,vl⟩:=qY Y;unfold iJ;rw[kb GF];by_cases E:d.kind=7
 ·obtain⟨x,y,a,am,e,t,O,B⟩:=v7 E;rw[t];simp only;have a6:0<=bZ x:=(oQ x).1;have p:=qZ x y;rw[<-e]at p;rw[kb GF]
  have o: ∀(M:Nat) (m:Nat) (n:Int) (w:Int) (x y:Dt) (a am:Int) (g:List Dt),aY (gL x y)<=M->aY (gL x y)<=N+1->dD b w=.pair a am->fZ v b j a x->fZ v b j am y->aY (gL x y)<=m+1->aY (gL x y)<=f+1->n+aY (gL x y)-1<=4096->c+bZ (gL x y)<=64->
    kK (λn w=>iJ (dD b) f n w (c+1)) (dD b) m n w g=(0,ju g (gL x y),n+aY (gL x y)-1):=by
   intro M
   induction M with
   | zero=>intro m n w x y a am g h;have:=cV (gL x y);omega
   | succ M S=>
   intro m n w x y a am g hM a1 t O B a8 a9 hn H;rw[lQ]at*;have px:=cV x;have py:=cV y;obtain⟨m,rfl⟩: ∃C,m=C+1:=⟨m-1,GF⟩;have p:=qZ x y;unfold kK;rw[t];simp only[kW.car,kW.cdr];have K:iJ (dD b) f n a (c+1)=(0,x,n+aY x):=R x a GF O f n (c+1) GF GF GF;simp only[K];rw[ka trivial];obtain⟨u7,u8,ul⟩:=qY B;by_cases q:y.kind=7
   ·obtain⟨U,V,W,X,r,k,P,Q⟩:=u7 q;rw[k,ka (show(kW.pair W X).isP=true from rfl),kb GF];have a2:aY y=aY (gL U V):=by rw[<-r]
    have a4:bZ y=bZ (gL U V):=by rw[<-r]
    rw[S m (n+aY x+1) am U V W X (g++[x]) GF GF k P Q GF GF GF GF,rg,<-r];congr 2;omega
   ·have J: ¬(dD b am).isP=true:=by
     by_cases s:y.kind=8
     ·obtain⟨T,l,_,k,_⟩:=u8 s;rw[k];simp[kW.isP]
     ·rw[ul q s];simp[kW.isP]
    rw[kb J];have L:iJ (dD b) f (n+aY x) am (c+1)=(0,y,n+aY x+aY y):=R y am GF B f _ (c+1) GF GF (by have:=p.2.1 q;omega);simp only[L];rw[ka trivial,rg];congr 2;omega
  have G:aY d=aY (gL x y):=by rw[e]
  have z:bZ d=bZ (gL x y):=by rw[e]
  rw[G]at hN hf hn;rw[z]at H;have a3:=lQ x y;have px:=cV x;have py:=cV y;rw[e,o (aY (gL x y)).toNat f (n+1) w x y a am [] GF GF t O B GF GF GF H];show((0:Int),gL x y,_)=_;congr 2;omega
 by_cases s:d.kind=8
 ·obtain⟨T,l,e,t,hl,u⟩:=v8 s;rw[t];simp only;have A:=xI l;rw[<-e]at A;have F:aY d=1+bO l:=by rw[e];rfl
  rw[kb GF]
  rw[rf l T (n+1) [] hl GF (λi Z D n' I=>by
   have hm:=j4 (Eu D);have a5:=A.2 _ (Eu D);exact R l[i] T[i] GF (u i Z D) f n' (c+1) GF I GF)]
  rw[F,e];simp only[List.nil_append];congr 2;omega
 ·rw[vl E s]
  have F:aY d=1:=by
   cases Y with
   | con _=>rfl
   | chr _=>rfl
   | num _ _ _=>rfl
   | str _ _=>rfl
   | sym _ _ _=>rfl
   | vec _ _ _=>exact absurd rfl s
   | pair _ _ _ _=>exact absurd rfl E
  rw[F]
theorem pE(h:fZ v b j a g)(c:aY g<=4096)(d:bZ g<=64):iJ (dD b) 4097 0 a 0=(0,g,aY g):=by
 have:=uQ (aY g).toNat g a GF h 4097 0 0 GF GF GF;rw[Int.zero_add]at this;exact this
theorem sO(hm: ∀c,aO (b.get c))(j:Int):aO (if b.halfE a u=0 then b.get j else 0):=by
 split
 ·exact hm _
 ·exact⟨GG,GG⟩
set_option maxRecDepth 20000 in
theorem rh{f:Nat}(ih:vZ f){n w l:Int}(L:Live H i o r)(g:i[d]?=some (.cells #[vp (some ⟨o.h,0,none⟩),vi n] k (0,0)))(a2:d ∉ o.all)(a9:H.size<=d)(hw:aO w)(hn:0<=n/\n<=4096)(hf:4097-n<=f)(hd:0<=l/\l<=64)(hp:(dD r.sp.mem w).isP=true):
  eC.C (some ⟨d,0,none⟩) w l i (vX i d o k (if l=64 then(10,zD,0)else kK (λn w=>iJ (dD r.sp.mem) f n w (l+1)) (dD r.sp.mem) f n w [])):=by
 refine Ei λR hR=>eC.link ?_;unfold eC.pt zY;generalize hr:(if l=64 then((10,zD,0):mK)else kK (λn w=>iJ (dD r.sp.mem) f n w (l+1)) (dD r.sp.mem) f n w [])=e2 at hR;intro b H1 hb aX;have e4:=Eh aX;have g1:=aK hb aX;have dn:=aS g1;have dw:=aS g;have dx:=e4.size;have b8: ∀a,aO (r.sp.mem.get a):=λa=>L.view.word a
 have Z: ∀(u:Dv) (er:Int) (A:zV),A[b]?=some (.cells (jv 0 0).cells.toArray 27 (0,0))->Fr [d] i A->er=e2.1->(e2.1=0->A[d]?=some (.cells #[vp (some ⟨o.h,0,none⟩),vi e2.2.2] k (0,0))/\cD (λj=>H1.size<=j/\j<A.size) A u e2.2.1)->
   (aF A (Addr.mk b 0 none) 0 6)/\ ∀I:zV,I=aL A (Addr.mk b 0 none) u.cells 0->
    ∃rK:Int,∃rC:Int,∃rN:Bool,∃rB:zW,∃rM:Nat,∃rD:Nat,∃rT:ByteArray,∃rE:zW,∃rF:Nat,∃rG:Nat,aI I (Addr.mk b 0 none) 0 [vi rK,.int .i32 rC,.bool rN,vs rB rM rD,.string rT,vs rE rF rG]/\
    R (.tuple #[.agg #[vi rK,.int .i32 rC,.bool rN,vs rB rM rD,.string rT,vs rE rF rG],vi er]) I:=λu er A a1 fA cg ai=>by
  subst cg;obtain⟨s5,p5⟩:=ff (vs:=u.cells) a1 rfl rfl;refine⟨s5,λI c5=>?_⟩;obtain⟨g5,f5⟩:=p5 I c5;refine⟨_,_,_,_,_,_,_,_,_,_,bA g5,hR _ _ ⟨u,rfl,fA.trans' f5 (λe1 p _=>p) (λe1 p _=>by simp at p;omega),λhz=>?_⟩⟩;obtain⟨o1,o2⟩:=ai hz;have dF:=f5.size;exact⟨f5.get (by simp;omega) o1,o2.keep f5 (λe1 p hp=>by simp at p;omega) (λj s=>⟨GF,GF⟩)⟩
 by_cases aT:l=64
 ·rw[ka aT]at hr⊢;subst hr;exact Z (jv 0 0) 10 H1 g1 e4.fr rfl (λh=>absurd h GG)
 rw[kb aT]at hr⊢
 refine⟨λU B cN c A=> ∃(D:List Dv) (V:List Dt) (T:Int) (f1:Nat),cN=D.length/\(Fr [d] i A/\H1.size<=A.size)/\A[b]?=some (.cells (jv 0 0).cells.toArray 27 (0,0))/\RowD H1.size A B D.length c D V/\A[d]?=some (.cells #[vp (some ⟨o.h,0,none⟩),vi T] k (0,0))/\
   ((n<=T/\T<=4096)/\D.length<=T/\4097-T<=f1)/\(aO U/\(dD r.sp.mem U).isP=true)/\kK (λn w=>iJ (dD r.sp.mem) f n w (l+1)) (dD r.sp.mem) f1 T U V=e2,λ_ _ cN _ _=>5000-cN,
  ⟨[],[],n,f,rfl,⟨e4.fr,Er _⟩,g1,RowD.nil,e4.get g,⟨⟨EN _,hn.2⟩,by simp;omega,hf⟩,⟨hw,hp⟩,hr⟩,?_⟩
 rintro U B cN c A ⟨D,V,T,f1,rfl,⟨fA,dl⟩,a1,P,gA,⟨ci,dG,ds⟩,⟨bc,ck⟩,m⟩;have LA:Live H A o r:=L.keep fA (λe1 p=>by simp at p;omega) (λe1 p=>by simp at p;subst p;exact a2);have cn:=pD ck;obtain⟨f1,rfl⟩: ∃f2,f1=f2+1:=⟨f1-1,GF⟩;unfold kK at m;generalize ha:(dD r.sp.mem U).car=a at m;generalize ag:(dD r.sp.mem U).cdr=e0 at m;rw[cn]at ha ag;have co:aO a:=by rw[<-ha];exact sO b8 _
 have F:aO e0:=by rw[<-ag];exact sO b8 _
 refine⟨_,rfl,_,iK gA rfl,?_⟩;refine gc (se LA.view bc) ?_;rintro _ H4 ⟨rfl,e5⟩;refine⟨_,_,rfl,?_⟩;rw[show(nc (some (o,r)))=r.sp.mem from rfl,show(if r.sp.mem.halfE U 0=0 then r.sp.mem.get (U / 8+0)else 0)=a from ha,n5 (n:=l+1) GF];refine gc (ih (LA.grow e5) (e5.get gA) a2 a9 co GF GF GF) ?_;rintro _ H5 ⟨u,rfl,f5,ai⟩;refine⟨_,_,_,_,_,_,_,_,_,_,_,rfl,λdS H6 cc c6=>?_⟩;obtain⟨s7,p7⟩:=fe (vs:=u.cells) cc c6 rfl rfl;refine⟨s7,λH7 c7=>?_⟩;obtain⟨g7,e7⟩:=p7 H7 c7;have dp:=aS a1;have ae:Fr [d] A H7:=((e5.fr (S:=[d])).trans f5).trans e7.fr;have f7:Fr [d] i H7:=fA.trans ae;have aN:=ae.get (by simp;omega) a1;have dy:=e5.size;have dz:=f5.size;have dA:=e7.size;by_cases hz:(iJ (dD r.sp.mem) f T a (l+1)).1=0
 case neg=>
  rw[kb hz];rw[kb hz]at m;refine Z (jv 0 0) _ H7 aN f7 (by rw[<-m]) (λh=>absurd (by rw[<-m]at h;exact h) hz)
 rw[ka hz];rw[ka hz]at m;obtain⟨g5,D5⟩:=ai hz;have b5:=qV (dD r.sp.mem) (λw e h=>sL h) f T a (l+1) hz;generalize du:(iJ (dD r.sp.mem) f T a (l+1)).2.2=n2 at m g5 b5;generalize dq:(iJ (dD r.sp.mem) f T a (l+1)).2.1=d2 at m D5;have cI:=b5.2 ci.2;refine⟨_,_,_,_,_,_,_,_,_,_,bA g7,λdT H8 cd b3=>?_⟩;have e8:=Eh b3;have dB:=e8.size;have Q:RowD H1.size H8 B D.length c D V:=(P.keep ae (λe1 p=>by simp at p;omega)).ext e8;have hB: ∀e1∈l6 B,H1.size<=e1/\e1<A.size:=λe1 p=>⟨P.row e1 p,P.own.lt e1 p⟩;refine dE (ys:=u.cells) Q.own (cX (aK cd b3) _ 0 0 (λj s=>GH)) rfl (by rfl) rfl GF ?_;intro p' c' H9 cj f9 b9;have dC:=f9.size;have D8:cD (λj=>H4.size<=j/\j<H8.size) H8 u d2:=D5.keep (S:=[]) (e7.trans e8).fr GH (λj s=>⟨s.1,by have:=s.2;omega⟩);have ak:=Q.push f9 cj b9 GF D8 GF (λe1 p=>by have:=hB e1 p;omega);have av:Fr [d] i H9:=(f7.trans e8.fr).trans' f9 (λe1 p _=>p) (λe1 p hl=>by have:=hB e1 p;omega);have bX:=f9.get (λp=>by have:=hB _ p;omega) (e8.get aN);have g9:H9[d]?=_:=f9.get (λp=>by have:=hB _ p;omega) (e8.get (e7.get g5));have L9:Live H H9 o r:=L.keep av (λe1 p=>by simp at p;omega) (λe1 p=>by simp at p;subst p;exact a2);refine⟨_,iK g9 rfl,?_⟩;refine gc (wV L9.view bc) ?_;rintro _ bp ⟨rfl,ab⟩;refine⟨_,_,rfl,?_⟩;rw[show(nc (some (o,r)))=r.sp.mem from rfl,show(if r.sp.mem.halfE U 1=0 then r.sp.mem.get (U / 8+1)else 0)=e0 from ag];refine⟨λbb I=>bb= !(dD r.sp.mem e0).isP/\Ext bp I,?_,?_⟩
 ·refine gc (gk F) ?_;rintro _ de ⟨rfl,X⟩;refine⟨_,rfl,?_⟩;by_cases h1:e0 % 8=1
  ·rw[ka h1];refine⟨_,iK ((ab.trans X).get g9) rfl,?_⟩;refine gc (nK (L9.grow (ab.trans X)).view F) ?_;rintro _ df ⟨rfl,bD⟩;refine⟨_,rfl,?_,X.trans bD⟩;rw[show(nc (some (o,r)))=r.sp.mem from rfl];congr 1;by_cases hq:r.sp.mem.isPair e0
   ·rw[zX hq,kL.2 ⟨h1,hq⟩]
   ·have: ¬(dD r.sp.mem e0).isP=true:=λh=>hq (kL.1 h).2;rw[zQ hq];simpa using this
  ·rw[kb h1];refine⟨?_,X⟩;have: ¬(dD r.sp.mem e0).isP=true:=λh=>h1 (kL.1 h).1;simpa using this
 rintro bb aa ⟨rfl,bC⟩;have x:=ab.trans bC;have cK:=x.size;have bz:=L9.grow x;have ax:=x.get g9;have a5:=x.get bX;have t:=ak.ext x;have ap:Fr [d] i aa:=av.trans x.fr;by_cases O:(dD r.sp.mem e0).isP=true
 case pos=>
  rw[ka O]at m;rw[kb (by simp[O])];refine gc (oE ax GF) ?_;rintro _ an ⟨rfl,bT,Y⟩;have cS:=Y.size;refine⟨_,rfl,?_⟩;have a6:=Y.get (by simp;omega) a5;have K:Fr [d] i an:=ap.trans Y;by_cases h4:4096<n2+1
  ·rw[ka h4]at m;rw[ka h4,kb GG];exact Z (jv 0 0) 6 an a6 K (by rw[<-m]) (λh=>by rw[<-m]at h;cases h)
  ·rw[kb h4]at m;rw[kb h4,ka rfl];refine⟨⟨D++[u],V++[d2],n2+1,f1,GH,⟨K,GF⟩,a6,?_,bT,⟨⟨GF,GF⟩,by simp;omega,GF⟩,⟨F,O⟩,m⟩,by show 5000-(D.length+1)<5000-D.length;omega⟩;have:=t.keep Y (λe1 p=>by simp at p;omega);simpa using this
 case neg=>
  rw[kb O]at m;rw[ka (by simpa using O)];refine gc (ih bz ax a2 a9 F GF GF GF) ?_;rintro _ bq ⟨u4,rfl,au,N⟩;refine⟨_,_,_,_,_,_,_,_,_,_,_,rfl,λe3 dc b4 b0=>?_⟩;obtain⟨cs,cq⟩:=fe (vs:=u4.cells) b4 b0 rfl rfl;refine⟨cs,λG b1=>?_⟩;obtain⟨ay,W⟩:=cq G b1;have cL:=au.size;have cM:=W.size;have y:Fr [d] aa G:=au.trans W.fr;have bH:Fr [d] i G:=ap.trans y;have aB:=y.get (by simp;omega) a5;have z:=t.keep y (λe1 p=>by simp at p;omega);generalize hq:iJ (dD r.sp.mem) f n2 e0 (l+1)=q at m N;have cm:(D++[u]).length=D.length+1:=GH;have cf:(V++[d2]).length=D.length+1:=by have:=z.dlen;simpa using this
  have dv: ∀e1∈l6 p',e1<G.size:=λe1 p=>z.own.lt e1 p;rw[show(((D.length:Nat):Int)+1-1)=D.length by omega,n5 (n:=(D.length:Int)) GF]
  refine⟨λe1 I=>(-1<=e1/\e1<=D.length)/\ ∃u':Dv,I[e3]?=some (.cells u'.cells.toArray 27 (0,0))/\Fr [e3] G I/\(q.1=0->cD (λj=>(H1.size<=j/\j<I.size)/\j≠e3) I u' (ju ((V++[d2]).drop (e1+1).toNat) q.2.1)),λe1 _=>(e1+1).toNat,
   ⟨⟨GF,EN _⟩,u4,ay,Ey _ _,λv=>?_⟩,?_⟩
  ·obtain⟨_,bo⟩:=N v;rw[Fa GF];exact bo.keep (S:=[]) W.fr GH (λj s=>⟨⟨by have:=s.1;omega,by have:=s.2;omega⟩,by have:=s.2;omega⟩)
  rintro e1 br ⟨p,u',a0,E,hD⟩;have cO:=E.size;by_cases ah:e1>=0
  ·rw[ka ah];have b6:e1.toNat< (D++[u]).length:=by rw[cm];omega
   have cE:e3=bq.size:=b4;have ba:=z.own.keep E (λj s h=>by simp at h;have:=t.own.lt j s;omega);obtain⟨di,c9,_,aj⟩:=ba.elem (f:=Dv.cells) (λ_=>rfl) GG b6;refine⟨di,c9,⟨ah,GF⟩,_,_,_,_,_,_,_,_,_,_,aj,_,_,_,_,_,_,_,_,_,_,bA a0,λcw dd ce a7=>?_⟩;have J:=Eh a7;have az:=aK ce a7;have cQ:=J.size;obtain⟨ct,cr⟩:=ff (vs:=(sM cw).cells) (J.get a0) rfl rfl;refine⟨ct,λbs b2=>?_⟩;obtain⟨bS,M⟩:=cr bs b2;have cR:=M.size;have b7:=aS a0;rw[n5 (n:=e1-1) GF];refine⟨⟨GF,sM cw,bS,(E.trans J.fr).trans M,λv=>?_⟩,by show(e1-1+1).toNat< (e1+1).toNat;omega⟩;have a8:e1.toNat< (V++[d2]).length:=by rw[cf];omega
   rw[show(e1-1+1).toNat=e1.toNat by omega,Fn a8,jh,show e1.toNat+1=(e1+1).toNat by omega];have D1:cD (λj=>H1.size<=j/\j<aa.size) G (D++[u])[e1.toNat] (V++[d2])[e1.toNat]:=(t.each e1.toNat b6 a8).keep y (λj s h=>by simp at s;have:=h.1.1;omega) (λj s=>s.1);have cH:=aS az;refine uP (M.get (by simp;omega) az) (D1.keep ((E.trans J.fr).trans M) (λj s h=>by simp at s;have:=h.2;omega) (λj s=>⟨⟨s.1,by have:=s.2;omega⟩,by have:=s.2;omega⟩)) ((hD v).keep ((J.fr (S:=[e3])).trans M) (λj s h=>by simp at s;exact h.2 s) (λj s=>⟨⟨s.1.1,by have:=s.1.2;omega⟩,s.2⟩)) ⟨⟨GF,GF⟩,GF⟩
  ·rw[kb ah];have ch:e1= -1:=GF;subst ch;refine⟨_,_,_,_,_,_,_,_,_,_,bA a0,?_⟩;have b7:=aS ay;have aC:=E.get (by simp;omega) aB;refine Z u' q.1 br aC (bH.trans' E (λj s _=>s) (λj s hl=>by simp at s;omega)) ?_ (λh0=>?_)
   ·rw[<-m];split
    ·assumption
    ·rfl
   ·have v:q.1=0:=by
     by_cases v:q.1=0
     ·exact v
     ·rw[kb v]at m;rw[<-m]at h0;exact absurd h0 v
    rw[ka v]at m;subst m;have aV:=hD v;simp only[Int.reduceNeg,Int.reduceAdd,Int.toNat_zero,F5]at aV;obtain⟨bN,_⟩:=N v;exact⟨E.get (by simp;omega) (W.get bN),aV.keep (S:=[]) (Ey _ _) GH (λj s=>s.1)⟩
theorem xJ(h:(iP b a).2≠0):(iP b a).2=3:=by
 unfold iP at h⊢;split
 ·split
  ·rename_i c d;rw[ka c,ka d]at h;exact absurd rfl h
  ·rfl
 ·rfl
set_option maxRecDepth 20000 in
theorem ri(f:Nat):vZ f:=by
 induction f with
 | zero=>intro H0 H k x K n w M T L g J y z hn hf hd;omega
 | succ f ih=>
 intro H0 H k x K n w M T L g J y z hn hf hd;refine Ei λR hR=>cM.link ?_;unfold cM.pt;generalize a:iJ (dD x.sp.mem) (f+1) n w M=r at hR;unfold iJ at a;intro b W hb a4;have e1:=Eh a4;have g1:=aK hb a4;have bw:=aS g1;have bB:=aS g;have bC:=e1.size
 have l: ∀(u:Dv) (er:Int) (A:zV),Fr [K] W A->er=r.1->(r.1=0->A[K]?=some (.cells #[vp (some ⟨k.h,0,none⟩),vi r.2.2] T (0,0))/\cD (λj=>W.size<=j/\j<A.size) A u r.2.1)->
   (aF A (Addr.mk b 0 none) 0 6)/\ ∀V:zV,V=aL A (Addr.mk b 0 none) u.cells 0->
    ∃rK:Int,∃rC:Int,∃rN:Bool,∃rB:zW,∃rM:Nat,∃rD:Nat,∃rT:ByteArray,∃rE:zW,∃rF:Nat,∃rG:Nat,aI V (Addr.mk b 0 none) 0 [vi rK,.int .i32 rC,.bool rN,vs rB rM rD,.string rT,vs rE rF rG]/\
    R (.tuple #[.agg #[vi rK,.int .i32 rC,.bool rN,vs rB rM rD,.string rT,vs rE rF rG],vi er]) V:=λu er A fA az p=>by
  subst az;obtain⟨s5,p5⟩:=ff (vs:=u.cells) (fA.get (by simp;omega) g1) rfl rfl;refine⟨s5,λV an=>?_⟩;obtain⟨g5,N⟩:=p5 V an;refine⟨_,_,_,_,_,_,_,_,_,_,bA g5,hR _ _ ⟨u,rfl,((e1.fr (S:=[K])).trans fA).trans' N (λi C _=>C) (λi C _=>by simp at C;omega),λU=>?_⟩⟩;obtain⟨o1,o2⟩:=p U;have bK:=N.size;exact⟨N.get (by simp;omega) o1,o2.keep N (λi C hp=>by simp at C;omega) (λj G=>⟨GF,GF⟩)⟩
 refine gc (oE (e1.get g) hn) ?_;rintro _ H2 ⟨rfl,g2,f2⟩;refine⟨_,rfl,?_⟩;have bD:=f2.size;by_cases h4:4096<n+1
 ·rw[ka h4]at a;rw[ka h4,kb GG];exact l (jv 0 0) 6 H2 f2 (by rw[<-a]) (λh=>by rw[<-a]at h;cases h)
 rw[kb h4]at a;rw[kb h4,ka rfl];refine gc (oW z) ?_;rintro _ H3 ⟨kk,c,bb,rfl,hk,a5,e3⟩;refine⟨_,_,_,_,_,_,_,_,_,_,_,rfl,λb2 H4 aw ao=>?_⟩;obtain⟨s5,p5⟩:=fe (vs:=(jv kk c).cells) aw ao rfl rfl;refine⟨s5,λY ap=>?_⟩;obtain⟨g5,e5⟩:=p5 Y ap;have E:=e3.trans e5;have bE:=E.size;have N:Fr [K] W Y:=f2.trans E.fr
 cases bb with
 | true=>
  rw[ka rfl]at hk⊢;have e:dD x.sp.mem w=.leaf (.mk kk c false [] tE []):=by unfold dD;rw[hk]
  rw[e]at a;subst a;exact⟨_,_,_,_,_,_,_,_,_,_,bA g5,l (jv kk c) 0 Y N rfl (λ_=>⟨E.get g2,qW a5.1 a5.2⟩)⟩
 | false=>
 rw[kb GG]at hk⊢
 have e:dD x.sp.mem w=(if(Be x.sp.mem w).2.2=0 then .leaf (.mk 4 0 (Be x.sp.mem w).1 (Be x.sp.mem w).2.1 tE [])else if x.sp.mem.typ w=2 then .leaf (.mk 5 0 false [] (kI (x.sp.mem.objWords w)) [])
  else if x.sp.mem.typ w=4 then(if(iP x.sp.mem w).2=0 then .leaf (.mk 6 0 false [] (iP x.sp.mem w).1 [])else .bad 3)else if x.sp.mem.typ w=1 then .vec (x.sp.mem.objWords w)
  else if w % 8=1/\x.sp.mem.isPair w then .pair (if x.sp.mem.halfE w 0=0 then x.sp.mem.get (w / 8+0)else 0) (if x.sp.mem.halfE w 1=0 then x.sp.mem.get (w / 8+1)else 0)else .bad 3):=by unfold dD;rw[hk]
 have ak:Fr [K] H Y:=(e1.fr (S:=[K])).trans N;have L5:Live H0 Y k x:=L.keep ak (λi C=>by simp at C;omega) (λi C=>by simp at C;subst C;exact J);have F:=E.get g2;refine⟨_,rfl,_,iK F rfl,?_⟩;refine gc (wZ L5.view z) ?_;rintro _ H7 ⟨B,nn,c',rfl,P,e7⟩;rw[show(nc (some (k,x)))=x.sp.mem from rfl]at P⊢;refine⟨_,_,_,_,_,rfl,λb3 H8 ax au=>?_⟩;obtain⟨s9,p9⟩:=fe (vs:=[.bool (Be x.sp.mem w).1,vs B nn c']) ax au rfl rfl;refine⟨s9,λH9 av=>?_⟩;obtain⟨g9,e9⟩:=p9 H9 av;have q:=e7.trans e9;have bH:=q.size;have f9:Fr [K] W H9:=N.trans q.fr;by_cases O:(Be x.sp.mem w).2.2=0
 ·rw[ka O]at e⊢;rw[e]at a;subst a;refine⟨_,_,_,_,bA g9,l (Dp (Be x.sp.mem w).1 B nn c') 0 H9 f9 rfl (λ_=>⟨q.get F,(zR P (xH z) y9).keep (S:=[]) e9.fr GH (λj G=>⟨by have:=G.1;omega,by have:=G.2;have:=e9.size;omega⟩)⟩)⟩
 rw[kb O]at e⊢;refine⟨_,iK (q.get F) rfl,?_⟩;refine gc (vj (L5.grow q).view z) ?_;rintro _ a8 ⟨rfl,Z⟩;rw[show(nc (some (k,x)))=x.sp.mem from rfl];refine⟨_,rfl,?_⟩;have t:=q.trans Z;have b6:=t.size;have m:Fr [K] W a8:=f9.trans Z.fr;have o:=t.get F;have s:=L5.grow t;by_cases t2:x.sp.mem.typ w=2
 ·rw[ka t2]at e⊢;rw[e]at a;subst a;refine⟨_,iK o rfl,?_⟩;refine gc (qs s.view z) ?_;rintro _ a9 ⟨rfl,a0⟩;rw[show(nc (some (k,x)))=x.sp.mem from rfl,ka ⟨(pV GF).1,t2⟩];exact⟨_,_,rfl,l (CK 5 _) 0 a9 (m.trans a0.fr) rfl (λ_=>⟨a0.get o,tG GG⟩)⟩
 rw[kb t2]at e⊢;by_cases t4:x.sp.mem.typ w=4
 ·rw[ka t4]at e⊢;refine⟨_,iK o rfl,?_⟩;refine gc (pj s.view z) ?_;rintro _ X ⟨rfl,Q⟩;rw[show(nc (some (k,x)))=x.sp.mem from rfl];by_cases I:(iP x.sp.mem w).2=0
  ·rw[ka I]at e;rw[e]at a;subst a;exact⟨_,_,rfl,l (CK 6 _) _ X (m.trans Q.fr) I (λ_=>⟨Q.get o,tG GG⟩)⟩
  ·rw[kb I]at e;rw[e]at a;subst a;exact⟨_,_,rfl,l (CK 6 _) _ X (m.trans Q.fr) (xJ I) (λh=>absurd (show(3:Int)=0 from h) GG)⟩
 rw[kb t4]at e⊢;by_cases t1:x.sp.mem.typ w=1
 ·rw[ka t1]at e⊢;rw[e]at a;simp only at a;refine gc (pK ih s o J y z GF GF hd t1) ?_;rw[a];rintro _ aa ⟨u,rfl,a1,p⟩;have b7:=a1.size;refine⟨_,_,_,_,_,_,_,_,_,_,_,rfl,l u r.1 aa (m.trans a1) rfl (λU=>⟨(p U).1,(p U).2.keep (S:=[]) (Ey _ _) GH (λj G=>⟨by have:=G.1;omega,G.2⟩)⟩)⟩
 rw[kb t1]at e⊢;refine gc (gk z) ?_;rintro _ ab ⟨rfl,D⟩;refine⟨_,rfl,?_⟩;by_cases h1:w % 8=1
 case neg=>
  rw[kb h1];rw[kb (λh=>h1 h.1)]at e;rw[e]at a;subst a;exact l (jv 0 0) 3 ab (m.trans D.fr) rfl (λh=>absurd (show(3:Int)=0 from h) GG)
 rw[ka h1];refine⟨_,iK (D.get o) rfl,?_⟩;refine gc (nK (s.grow D).view z) ?_;rintro _ ac ⟨rfl,ah⟩;rw[show(nc (some (k,x)))=x.sp.mem from rfl];refine⟨_,rfl,?_⟩;have d:=D.trans ah;have b8:=d.size;by_cases v:x.sp.mem.isPair w
 case neg=>
  rw[kb (by simpa using v)];rw[kb (λh=>v h.2)]at e;rw[e]at a;subst a;exact l (jv 0 0) 3 ac (m.trans d.fr) rfl (λh=>absurd (show(3:Int)=0 from h) GG)
 rw[ka (by simpa using v)];rw[ka ⟨h1,v⟩]at e;rw[e]at a;simp only at a;refine gc (rh ih (s.grow d) (d.get o) J y z GF GF hd (kL.2 ⟨h1,v⟩)) ?_;rw[a];rintro _ ae ⟨u,rfl,a2,p⟩;have b9:=a2.size;refine⟨_,_,_,_,_,_,_,_,_,_,_,rfl,l u r.1 ae ((m.trans d.fr).trans a2) rfl (λU=>⟨(p U).1,(p U).2.keep (S:=[]) (Ey _ _) GH (λj G=>⟨by have:=G.1;omega,G.2⟩)⟩)⟩
def m8(m:Mem)(w:Int):mK:=iJ (dD m) 4097 0 w 0
theorem nF(L:Live H i o r)(hw:aO a):
  ig.C (some ⟨o.h,0,none⟩) a i (λv s=> ∃u:Dv,v=.tuple #[.agg u.cells.toArray,vi (m8 r.sp.mem a).1]/\Ext i s/\((m8 r.sp.mem a).1=0->cD (Dk i s) s u (m8 r.sp.mem a).2.1)/\((m8 r.sp.mem a).1≠0->u=jv 0 0)):=by
 refine Ei λR N=>ig.link ?_;unfold ig.pt;intro b H1 V m;have J:=Eh m;have K:=aK V m;have W:=aS K;have X:=J.size;rw[El];intro b2 T D n;have x:=Eh n;have M:=aK D n;have g:=J.trans x;have Y:=x.size;have O:=aS M;have h0:=L.ext.size;refine gc (ri 4097 (L.grow g) M (λhk=>by have:=L.lt hk;omega) GF hw GF GF GF) ?_;rintro _ H4 ⟨u,rfl,y,p⟩;rw[show iJ (dD r.sp.mem) 4097 0 a 0=m8 r.sp.mem a from rfl]at p⊢;have Z:=y.size;refine⟨_,_,_,_,_,_,_,_,_,_,_,rfl,λb3 H5 E A=>?_⟩;obtain⟨s6,p6⟩:=fe (vs:=u.cells) E A rfl rfl;refine⟨s6,λt B=>?_⟩;obtain⟨U,q⟩:=p6 t B;have a0:=q.size;have l:=q.get (y.get (by simp;omega) (x.get K));have c:Ext i t:=(g.fr_trans y (λac e=>by simp at e;omega)).trans q;by_cases f:(m8 r.sp.mem a).1=0
 ·rw[ka f];obtain⟨_,P⟩:=p f;refine⟨_,_,_,_,_,_,_,_,_,_,bA U,?_⟩;obtain⟨I,G⟩:=ff (vs:=u.cells) l rfl rfl;refine⟨I,λw d=>?_⟩;obtain⟨z,k⟩:=G w d;have a1:=k.size;refine⟨_,_,_,_,_,_,_,_,_,_,bA z,N _ _ ⟨u,by rw[f],c.fr_trans k (λac e=>by simp at e;omega),λ_=>?_,λh=>absurd f h⟩⟩;exact(P.keep (S:=[]) q.fr GH (Q:=λj=>T.size<=j/\j<t.size) (λj F=>⟨F.1,by have:=F.2;omega⟩)).keep k (λac e hp=>by simp at e;omega) (λj F=>⟨GF,GF⟩)
 ·rw[kb f];obtain⟨I,G⟩:=ff (vs:=(jv 0 0).cells) l rfl rfl;refine⟨I,λw d=>?_⟩;obtain⟨z,k⟩:=G w d;exact⟨_,_,_,_,_,_,_,_,_,_,bA z,N _ _ ⟨jv 0 0,rfl,c.fr_trans k (λac e=>by simp at e;omega),λh=>absurd h f,λ_=>rfl⟩⟩
theorem oF(O:Plain g)(N:gP g)(x:bZ g<=64)(L:Live H i o r)(T:lA H)(F:r.sp.mem.Even)(S:SyAt H i o r j)(G:iO r.sp.mem j)(D:cD (Out i o r) i q g)
  (hs:(j.length:Int)+2*aY g<=100000) (hc:r.sp.mem.count+2*aY g<=100000):
  gg.C (some ⟨o.h,0,none⟩) q.kind q.c q.neg q.mB q.mN q.mC q.t q.lB q.lN q.lC i (Dd H i o r j g):=by
 refine Ei λR hR=>gg.link ?_;unfold gg.pt;intro b H1 hb k b2 H2 A l;have J:=Eh k;have u:=aK hb k;have p:=Eh l;have M:=aK A l;have d:=J.trans p;refine⟨_,iK (p.get u) rfl,?_⟩;rw[El];refine⟨_,_,_,_,_,_,_,_,_,_,bA (vs:=q.cells) M,?_⟩;have a7:=cV g;refine gc (xi (T.ext (L.ext.trans d)) (D.ext d) N GF O x) ?_;rintro _ H3 ⟨rfl,K⟩;refine⟨_,rfl,?_⟩;rw[ka rfl];intro s H4 B y;obtain⟨s5,p5⟩:=fe (vs:=[.func (.func 19) #[] #[Vq (Addr.mk b 0 none),Vq (Addr.mk s 0 none)]]) B y rfl rfl;refine⟨s5,λn z=>?_⟩;obtain⟨v,X⟩:=p5 n z;have f:=K.trans X;have a:=d.trans f;have P:=d.size;have ab:=K.size;have Q:=f.size;have a5:=aS u;have a9:=J.size;have aa:=p.size;refine⟨_,iK v rfl,_,_,_,_,_,_,_,_,_,_,bA (vs:=q.cells) (f.get M),?_⟩;refine FC.of (enters_of func19 GE rfl) ?_;show gx.C q.kind q.c q.neg q.mB q.mN q.mC q.t q.lB q.lN q.lC (some ⟨b,0,none⟩) (some ⟨s,0,none⟩) n _;have U:=L.grow a;have W:SyAt H n o r j:=S.keep rfl (a.fr (S:=[])) GH;have E:PEnv n o r b s:=⟨iK ((p.trans f).get u) rfl,iK v rfl,Out.fresh L S GF GF,Out.fresh L S GF (aS v)⟩;refine gc (AQ (aY g).toNat g GF O N U T F W G (D.grow a) E hs hc) ?_;rintro _ H6 ⟨w,e,x',rfl,V,I⟩;refine⟨_,_,rfl,hR _ _ ⟨w,e,x',rfl,V,?_⟩⟩;rcases I with⟨Z,h2,h⟩ | ⟨Y,m,st,hB,hJ⟩
 ·exact .inl ⟨Z,h2,(Fell.after ((Step.refl S F G).grow a) h).le GF⟩
 ·refine .inr ⟨Y,m,?_,hB,hJ⟩;have:=((Step.refl S F G).grow a).trans st;exact(this.le GF).at GF (λt=>GH)
theorem zS{a:Addr}(h:hat H a=some C):a.block<H.size:=by
 unfold hat at h;rcases EC a.block H.size with b | b
 ·exact b
 ·simp[b]at h
theorem jA{u c d v tag a w:Int}(h:fC b u c d j)(m:Pr b v 1 a w)(hn: ∀q,(b.seg q).n<=64): ∀x:Nat,x<=j.length->u / 8+x≠v / 8+0:=by
 intro x r e;have i:=h.obj.1;have p:=h.obj.2.2;have k:=m.at';have s:=h.lenEq;have l:=hn (u / 8 / 64).toNat;have t:0<=u / 8:=by have:=h.word.1;omega
 have g:v / 8 / 64=u / 8 / 64:=GF;have o:=i.2.2.2.1;have f:=k.2.2.2.1;rw[g,o]at f;unfold oN at f;split at f<;>cases f
theorem fZ.store{Q:Int->Prop}{m:Mem}{w v a b e:Int}(c:Pr m v 1 a b)(z: ∀u,Q u->u≠v)(hn: ∀q,(m.seg q).n<=64)(h:fZ Q m j w g):fZ Q (m.store (v / 8+0) e).1 j w g:=by
 have d:m.used (v / 8+0):=by have:=c.at'.used c.word;simpa using this
 induction h with
 | con h=>exact .con h
 | chr h=>exact .chr h
 | num h hm f=>
  rcases h with h | h
  ·exact .num (.inl h) hm f
  ·exact .num (.inr (h.setFar d (jA (tag:=1) h c hn))) hm f
 | str h i=>exact .str (h.setFar d (jA (tag:=1) h c hn)) i
 | sym h A i=>
  obtain⟨s,p,r⟩:=A;exact .sym h ⟨s,p.setFar d (jA (tag:=1) p c hn),r.setFar d (jA (tag:=1) r c hn)⟩ i
 | vec h f o B=>exact .vec (h.setFar d (jA (tag:=1) h c hn)) f B
 | @pair K C D x y h t G H k l=>
  refine .pair (h.setOther d ?_ ?_) t k l
  ·intro e;have:=z _ t;have I:=h.at'.2.1;have J:=c.at'.2.1;omega
  ·have E:=h.even;have F:=c.even;omega
theorem v6{P:Nat->Prop}{us:List Dv}{ds:List Dt}(a1:us.length=d)(ae:ds.length=d)(B: ∀j,P j->j<H.size)(x: ∀(i:Nat) (h:i<us.length),∃a,y=some a/\aI H (a.add (i*6)) 0 us[i].cells)
  (p: ∀(i:Nat) (h1:i<us.length) (h2:i<ds.length),cD P H us[i] ds[i]) (hn:d<1000000000):
  eR.C y d w H (λv D=> ∃u:Dv,v=.agg u.cells.toArray/\cD (λj=>P j\/Dk H D j) D u (ju ds zD)/\Ext H D):=by
 refine Ei λR hR=>eR.link ?_;unfold eR.pt zY;intro b H1 hb r z H2 N J;have V:=Eh r;have W:=aK hb r;obtain⟨s3,p3⟩:=fe (vs:=(jv 0 0).cells) N J rfl rfl;refine⟨s3,λT K=>?_⟩;obtain⟨X,E⟩:=p3 T K;have G:=E.get W;have ab:=aS W;have ac:=aS X;have g:=V.trans E;have ag:=V.size;have ah:=E.size;rw[n5 (n:=(d:Int)-1) GF]
 refine⟨λi A=>(-1<=i/\i<d)/\ ∃u:Dv,A[z]?=some (.cells u.cells.toArray 27 (0,0))/\Fr [z] T A/\cD (λj=>(P j\/Dk H A j)/\j≠z/\j≠b) A u (ju (ds.drop (i+1).toNat) zD),λi _=>(i+1).toNat,
  ⟨⟨GF,GF⟩,jv 0 0,X,Ey _ _,by rw[Fa GF];exact qW GG GG⟩,?_⟩
 rintro i A ⟨hi,u,e,m,I⟩;have al:=m.size;have Z:=aS e;by_cases k:i>=0
 ·rw[ka k];have t:i.toNat<us.length:=GF;have f:i.toNat<ds.length:=GF;obtain⟨a,ha,hr⟩:=x i.toNat t;have a9:a.block<H.size:=by have:=zS hr.1;simpa[iV]using this
  refine⟨a,ha,⟨k,hi.2⟩,_,_,_,_,_,_,_,_,_,_,m.rowAt (by rw[iV];simp;omega) (g.rowAt hr),_,_,_,_,_,_,_,_,_,_,bA e,λU H5 O s=>?_⟩;have o:=Eh s;have Y:=aK O s;have ai:=o.size;have a0:=aS Y;obtain⟨s6,p6⟩:=ff (vs:=(sM U).cells) (o.get e) rfl rfl;refine⟨s6,λH6 L=>?_⟩;obtain⟨g6,q⟩:=p6 H6 L;have aj:=q.size;rw[n5 (n:=i-1) GF];refine⟨⟨GF,sM U,g6,(m.trans o.fr).trans q,?_⟩,by show(i-1+1).toNat< (i+1).toNat;omega⟩;rw[show(i-1+1).toNat=i.toNat by omega,Fn f,jh,show i.toNat+1=(i+1).toNat by omega];refine uP (q.get (by simp;omega) Y) ?_ ?_ ⟨.inr ⟨GF,GF⟩,GF,GF⟩
  ·refine((((p i.toNat t f).ext g).keep m (λj c l=>by simp at c;have:=B j l;omega) (λj c=>c)).ext o).keep q (λj c l=>by simp at c;have:=B j l;omega) (λj c=>⟨.inl c,?_,?_⟩)
   ·have:=B j c;omega
   ·have:=B j c;omega
  ·exact I.keep ((o.fr (S:=[z])).trans q) (λj c l=>by simp at c;exact l.2.1 c) (λj c=>⟨c.1.imp id (λh=>⟨h.1,by have:=h.2;omega⟩),c.2⟩)
 ·rw[kb k];have Q:i= -1:=GF;subst Q;refine⟨_,_,_,_,_,_,_,_,_,_,bA e,?_⟩;obtain⟨s7,p7⟩:=ff (vs:=u.cells) (m.get (by simp;omega) G) rfl rfl;refine⟨s7,λH7 M=>?_⟩;obtain⟨g7,F⟩:=p7 H7 M;have ak:=F.size;simp only[Int.reduceNeg,Int.reduceAdd,Int.toNat_zero,F5]at I;exact⟨_,_,_,_,_,_,_,_,_,_,bA g7,hR _ _ ⟨u,rfl,I.keep F (λj c l=>by simp at c;exact l.2.2 c) (λj c=>c.1.imp id (λh=>⟨h.1,by have:=h.2;omega⟩)),(g.fr_trans m (λj c=>by simp at c;omega)).fr_trans F (λj c=>by simp at c;omega)⟩⟩
def Dj:ByteArray:=⟨#[97]⟩
theorem sP:cF Dj=[97]:=by kernel_rfl
theorem za:jp Dj:=⟨GE,by rw[sP];decide⟩
def C5:Dt:=ju [.mk 1 0 false [] tE [],.mk 6 0 false [] Dj []] zD
theorem wH(hk:0<=a/\a<=10)(c:a≠3)(d:a≠4)(e:a≠5)(b:a≠6)(f:a≠7)(g:a≠8):Plain (.mk a 0 false [] tE []):=
 .mk hk (λ_=>rfl) (λh=>absurd h c) (λ_=>⟨rfl,rfl⟩) (λh=>absurd h d) (λ_ _=>rfl) (λh=>h.elim (λh=>absurd h e) (λh=>absurd h b)) (λh=>absurd h b) (λ_ _=>rfl) (λh=>absurd h f) GH GH
theorem wI(b:Plain g)(c:Plain z):Plain (gL g z):=
 .mk GG (λ_=>rfl) (λh=>absurd h GG) (λ_=>⟨rfl,rfl⟩) (λh=>absurd h GG) (λ_ _=>rfl) (λh=>h.elim (λh=>absurd h GG) (λh=>absurd h GG)) (λh=>absurd h GG) (λh=>absurd rfl h) (λ_=>rfl) GH (λd a=>by
  simp at a;rcases a with rfl | rfl<;>assumption)
theorem zT:Plain C5:=by
 refine wI (wH GG GG GG GG GG GG GG) (wI ?_ (wH GG GG GG GG GG GG GG));exact .mk GG (λ_=>rfl) (λh=>absurd h GG) (λ_=>⟨rfl,rfl⟩) (λh=>absurd h GG) (λ_ h=>absurd rfl h) (λ_=>za) (λ_=>by rw[sP];decide) (λ_ _=>rfl) (λh=>absurd h GG) GH GH
theorem tH{t:ByteArray}(h:t.size<=1000):gP (.mk a u false [] t []):=.mk h GH GH
theorem wJ(b:gP g)(c:gP z):gP (gL g z):=.mk GG GH (λd a=>by simp at a;rcases a with rfl | rfl<;>assumption)
theorem wK:gP C5:=wJ (tH GG) (wJ (tH GG) (tH GG))
theorem pW:aY C5=5:=by decide
theorem wL:bZ C5=1:=by decide
set_option maxRecDepth 100000 in
theorem oX(T:lA H):bS.C H (λv H'=>v=VT/\Ext H H'):=by
 refine Ei λR hR=>bS.link ?_;unfold bS.pt;refine gc (sc ⟨GG,GG⟩) ?_;rintro _ H1 (⟨hn,_⟩ | ⟨_,k,x,rfl,A,q,e1,hy⟩)
 ·exact absurd ⟨GG,GG⟩ hn
 have L1:Live H H1 k x:=⟨A.inv.2.1,A.inv.2.2,e1,hy⟩;have hc:x.sp.mem.count=0:=by subst q;rfl
 have hv:x.sp.mem.Even:=by subst q;exact nP _
 have hf:x.sp.mem.free=16:=by subst q;rfl
 have g:x.sy=VN:=by subst q;rfl
 clear q A;refine⟨_,_,rfl,?_⟩;rw[ka rfl];intro b W hb o;have e2:=Eh o;have g2:=aK hb o;have Y:=L1.grow e2;have d:=bA (vs:=(jv 1 0).cells++(CK 6 Dj).cells) g2
 refine gc (v6 (P:=λ_=>False) (us:=[jv 1 0,CK 6 Dj]) (ds:=[.mk 1 0 false [] tE [],.mk 6 0 false [] Dj []]) rfl rfl (λj h=>h.elim) (λi hi=>⟨_,rfl,by
  match i,hi with
  | 0,_=>exact aI.sub 0 d rfl
  | 1,_=>exact aI.sub 6 d rfl⟩) (λi n h2=>by
  match i,n with
  | 0,_=>exact qW GG GG
  | 1,_=>exact tG GG) GG) ?_
 rintro _ X ⟨u,rfl,y,e3⟩;have Z:=Y.grow e3;have y:cD (λj=>False\/Dk W X j) X u C5:=y;refine⟨_,_,_,_,_,_,_,_,_,_,rfl,λb2 H4 p J=>?_⟩;obtain⟨s5,p5⟩:=fe (vs:=u.cells) p J rfl rfl;refine⟨s5,λl K=>?_⟩;obtain⟨F,D⟩:=p5 l K;have L5:=Z.grow D;have S2:SyAt H W k x []:=SyAt.nil g;have S5:SyAt H l k x []:=SyAt.nil g;have ap:=D.size
 have V:cD (Out l k x) l u C5:=y.keep (S:=[]) D.fr GH (λj hj=>by
  rcases hj with h | h
  ·exact h.elim
  ·exact Out.fresh Y S2 h.1 (by have:=h.2;omega))
 refine⟨_,_,_,_,_,_,_,_,_,_,bA F,?_⟩;refine gc (oF zT wK (by rw[wL];decide) L5 T hv S5 (λw hw=>by simp at hw) V (by rw[pW];decide) (by rw[pW,hc];decide)) ?_;rintro _ H6 ⟨w,e,r,rfl,z,U⟩;refine⟨_,_,rfl,?_⟩;rcases U with⟨_,_,f⟩ | ⟨rfl,a3,st,t,_⟩
 ·have:=f.1;rw[pW]at this;omega
 refine gc (nF z t.word) ?_;have Q:m8 r.sp.mem w=(0,C5,aY C5):=pE t (by rw[pW];decide) (by rw[wL];decide);rw[Q];rintro _ H7 ⟨u7,rfl,s,G,_⟩;refine⟨_,_,_,_,_,_,_,_,_,_,_,rfl,λb3 H8 N L=>?_⟩;obtain⟨s9,p9⟩:=fe (vs:=u7.cells) N L rfl rfl;refine⟨s9,λH9 M=>?_⟩;obtain⟨g9,m⟩:=p9 H9 M;have L9:=(z.grow s).grow m;refine gc (se L9.view t.word) ?_;rintro _ a6 ⟨rfl,a⟩;refine⟨_,_,rfl,?_⟩;rw[ka rfl,ka rfl]
 have c:r.sp.mem.halfE w 0=0/\r.sp.mem.get (w / 8+0)=12:=by
  cases t with
  | pair h hq ha hb=>
   refine⟨h.half.1,?_⟩
   cases ha with
   | con n=>
    have n:some (12:Int)=some _:=n;have O:=h.car;rw[Int.add_zero,O];exact(FN n).symm
 rw[show nc (some (k,r))=r.sp.mem from rfl,ka c.1,c.1,c.2];have I:b2 ∉ k.all++syB x.sy:=(Out.fresh Z (SyAt.nil g) (Nat.le_of_eq p.symm) (aS F):Out l k x b2).not;have E:=((s.trans m).trans a).get (st.fr.get I F);refine⟨_,_,_,_,_,_,_,_,_,_,bA (a.get g9),_,_,_,_,_,_,_,_,_,_,bA E,?_⟩;refine gc (mq C5 ((G rfl).ext (m.trans a)) ((((V.step st).ext s).ext m).ext a) wK) ?_;rintro _ a7 ⟨rfl,B⟩;exact⟨_,rfl,hR _ _ ⟨rfl,((((z.ext.trans s).trans m).trans a).trans B)⟩⟩
theorem wM(D:cD (DE H) H q g)(e:Ext H i)(a: ∀b,b<H.size->x b):cD x i q g:=D.keep (S:=[]) e.fr GH a
structure wO (H0 H:zV) (k:Blk) (x:Hp) (n:Int):Prop where
 live:Live H0 H k x
 count:x.sp.mem.count=0
 even:x.sp.mem.Even
 free:x.sp.mem.free=n
 sy:x.sy=VN
 words:x.sp.mem.words [0]=0
 en:x.en=VN
 inv:Inv x.sp (λ_=>0)
theorem zc{n:Int}(hn:8<=n/\n<=1024):ku.C n H (λv f=> ∃(k:Blk) (x:Hp),v=.tuple #[vp (some ⟨k.h,0,none⟩),vi 0]/\wO H f k x n):=by
 refine gc (sc ⟨GF,GF⟩) ?_;rintro _ j (⟨c,_⟩ | ⟨_,k,x,rfl,e,d,g,i⟩)
 ·exact absurd hn c
 refine⟨k,x,rfl,⟨e.inv.2.1,e.inv.2.2,g,i⟩,by subst d;rfl,by subst d;exact nP _,?_,by subst d;rfl,?_,by subst d;rfl,?_⟩
 ·subst d;show((n.toNat:Nat):Int)=n;omega
 ·subst d;exact uD _ _
 ·have c: ∀a,¬x.sp.mem.used a:=λa h=>by
   rw[d]at h;exact absurd rfl h.2.1.2.2
  exact⟨e.inv.2.2,by rw[d];exact nP _,⟨λa h=>absurd rfl h,λa b h=>absurd rfl h,λa h=>absurd rfl h,λa h=>absurd rfl h,λa h=>absurd h (c a)⟩,λa h=>absurd h (c a)⟩
end Go.Proofs.YtillhdiiglamhaaGreatDoor
namespace Go.Proofs.YtillhdiiglamhaaGreatDoor
open Go
theorem wa{d:Dt}{P:Nat->Prop}{H:zV}{v:Dv}(T:lA H)(D:cD P H v d)(f:gP d)(b:aY d<=1000000)(hn: ¬(Plain d/\bZ d<=64)):
  iS.C v.kind v.c v.neg v.mB v.mN v.mC v.t v.lB v.lN v.lC H (λw a=>w=VF/\Ext H a):=
 gc (qG T D f b) λ_ _ ⟨⟨q,h,g⟩,e⟩=>⟨by rw[h,zZ λh=>hn (g.1 h)],e⟩
theorem pF: ∀(l:List Dt) (n:Nat),bO (l.take n)<=bO l
 | [],n=>GH
 | z::l,0=>by have:=ir (z::l);simp only[List.take_zero,bO]at this⊢;omega
 | z::l,n+1=>by simp only[List.take_succ_cons,bO];have:=pF l n;omega
theorem ry(d:Dt): ∀{P:Nat->Prop} {H:zV} {v:Dv} (D:cD P H v d) (hl:aY d<=1000000),
  dF.C v.kind v.c v.neg v.mB v.mN v.mC v.t v.lB v.lN v.lC H (λw y=>w=vi (aY d)/\Ext H y):=by
 induction d using Dt.ind with
 | h k c neg mag t l W=>
 intro P H v D e
 cases D with
 | mk _ _ _ _ _ _ _ vs Z Y en et hk hc hm S Q x O N M L V mP lP row m=>
 refine Ei λR F=>dF.link ?_;unfold dF.pt zY;intro b z I o;have s:=Eh o;have B:=E5 (v:=v) I o;simp only[aY]at e;refine⟨λn i A=>(0<=i/\i<=v.lN)/\n=1+bO (l.take i.toNat)/\Ext z A,λ_ i _=>(v.lN-i).toNat,⟨GF,by simp[bO],ED _⟩,?_⟩;rintro n i A ⟨K,hn,p⟩;have r:=B.ext p;refine⟨_,_,_,r.l,?_⟩;by_cases j:i< (v.lN:Int)
 ·rw[ka j];obtain⟨a,G,U⟩:=row i.toNat GF;have g:i.toNat<l.length:=GF;have f:l[i.toNat]∈l:=Eu g;have J:=j4 f;have T:=cV l[i.toNat];have u:=s.trans p;refine⟨_,_,_,r.l,a,G,⟨K.1,j⟩,_,_,_,_,_,_,_,_,_,_,u.rowAt U,gc (W l[i.toNat] f ((m i.toNat GF g).ext u) GF) ?_⟩;rintro _ X ⟨rfl,E⟩;have q:l.take (i+1).toNat=l.take i.toNat++[l[i.toNat]]:=by rw[show(i+1).toNat=i.toNat+1 by omega,EL g]
  have h1:=pF l i.toNat;have h2:=ir (l.take i.toNat);refine⟨_,rfl,?_⟩;rw[n5 (n:=n+aY l[i.toNat]) GF,n5 (n:=i+1) GF];refine⟨⟨GF,by rw[q,lO,hn];omega,p.trans E⟩,?_⟩;show((v.lN:Int)-(i+1)).toNat< ((v.lN:Int)-i).toNat;omega
 ·rw[kb j];rw[ES GF]at hn;exact F _ _ ⟨by rw[hn];simp only[aY],s.trans p⟩
theorem xL{H a:zV}{T:TypeId}{b:Nat}(d:b=H.size)(c:a=H.push (.cells #[] T)):Own a T 1 (some ⟨b,0,none⟩) 0 0 []:=
 ⟨rfl,#[],aK d c,rfl,Er _,rfl,λj e=>by simp at e⟩
set_option maxRecDepth 100000 in
theorem tI(d:Dt): ∀{P:Nat->Prop} {H:zV} {v:Dv} (D:cD P H v d) (hl:gP d) (bD:aY d<=1000000),
  dM.C v.kind v.c v.neg v.mB v.mN v.mC v.t v.lB v.lN v.lC H (λw H'=> ∃u:Dv,w=.agg u.cells.toArray/\cD (Dk H H') H' u d/\Ext H H'):=by
 induction d using Dt.ind with
 | h k c neg mag t l ih=>
 intro P H v D F E;obtain⟨bH,bK,au⟩:=mZ F
 cases D with
 | mk _ _ _ _ _ _ _ vs ek ec en et hk hc hm bT ax a5 aw av bS bN bX mP lP row Z=>
 refine Ei λR hR=>dM.link ?_;unfold dM.pt zY;intro b H1 hb K b2 H2 an L b3 H3 ao M;simp only[aY]at E;have e1:=Eh K;have e2:=Eh L;have e3:=Eh M;have Y:=(e1.trans e2).trans e3;have z1:=e1.size;have z2:H2.size=H1.size+1:=by rw[L];simp
 have c7:H1.size=H.size+1:=by rw[K];simp
 have z3:H3.size=H2.size+1:=by rw[M];simp
 have g1:H3[b]?=some (.cells v.cells.toArray 27 (0,0)):=e3.get (e2.get (aK hb K));have g2:=e3.get (aK an L);have B3:=DBox.of g1;refine⟨_,_,_,B3.mag,?_⟩;refine dE (ys:=Br mag) (xL ao M) (a5.ext Y) (by simp[Br,hm]) (ly _) rfl GF ?_;intro W mc H4 mo f4 a7;rw[Eo,List.nil_append]at mo;have p: ∀j∈l6 (some (Addr.mk b3 0 none)),j=b3:=λj e=>by simpa using e
 have e4:Ext H H4:=Y.fr_trans f4 (λj e=>by have:=p j e;omega);have aj:H4[b]?=_:=f4.get (λh=>by have:=p _ h;omega) g1;have ak:=f4.get (λh=>by have:=p _ h;omega) g2;have z4:=f4.size
 have G: ∀j∈l6 W,H2.size<=j:=λj e=>by
  rcases a7 j e with h | h
  ·have:=p j h;omega
  ·omega
 obtain⟨p5,s5⟩:=ie aj 3 (.slice W v.mN mc) (by show 3<6;omega);rw[show((Addr.mk b 0 none).add 2).add 1=(Addr.mk b 0 none).add 3 by rw[lW]];refine⟨p5,λV a2=>?_⟩;rw[Eo]at a2;obtain⟨g5,f5⟩:=s5 V a2;have e5:Ext H V:=e4.fr_trans f5 (λj e=>by simp at e;omega);have z5:=f5.size;have g5:V[b]?=some (.cells (Dv.cells ⟨v.kind,v.c,v.neg,W,v.mN,mc,v.t,v.lB,v.lN,v.lC⟩).toArray 27 (0,0)):=g5;have al:=f5.get (by simp;omega) ak;have aB:=mo.keep f5 (λj e h=>by simp at h;have:=G j e;omega);refine⟨λT lN U i A=> ∃m:List Dv,i=m.length/\m.length<=l.length/\lN=m.length/\Ext V A/\RowD V.size A T m.length U m (l.take m.length),λ_ _ _ i _=>(v.lN-i).toNat,⟨[],rfl,Fm _,rfl,ED _,RowD.nil⟩,?_⟩;rintro T lN U i A ⟨m,rfl,bU,rfl,I,o⟩;have zA:=I.size;have BA:=DBox.of (I.get g5);refine⟨_,_,_,BA.l,?_⟩;have bf:v.lN=l.length:=av;by_cases O:(m.length:Int)< (v.lN:Int)
 ·rw[ka O];have N:m.length<l.length:=GF;obtain⟨a,ha,hr⟩:=row m.length GF;have r:l[m.length]∈l:=Eu N;have bE:=j4 r;have eT:=e5.trans I;refine⟨_,_,_,BA.l,a,ha,⟨GF,O⟩,_,_,_,_,_,_,_,_,_,_,by rw[show Int.toNat (m.length:Int)=m.length by omega];exact eT.rowAt hr,gc (ih l[m.length] r ((Z m.length GF N).ext eT) (au _ r) GF) ?_⟩;rintro _ H7 ⟨u,rfl,D7,e7⟩;refine⟨_,_,_,_,_,_,_,_,_,_,rfl,λb4 H8 ap a3=>?_⟩;have e8:=Eh a3;have z7:=e7.size;have z8:=e8.size;have s:=(o.ext e7).ext e8;have hB: ∀j∈l6 T,V.size<=j/\j<A.size:=λj e=>⟨o.row j e,o.own.lt j e⟩
  have bd:l.length<=bO l:=by
   have: ∀l:List Dt,(l.length:Int)<=bO l:=λl=>by
    induction l with
    | nil=>simp[bO]
    | cons x l ih=>simp only[bO,List.length_cons];have:=cV x;omega
   exact_mod_cast this l
  refine dE (ys:=u.cells) s.own (cX (aK ap a3) _ 0 0 (λj e=>GH)) rfl (by rfl) rfl GF ?_;intro p' c' H9 ay f9 a4;have D8:cD (λj=>A.size<=j/\j<H8.size) H8 u l[m.length]:=D7.keep (S:=[]) e8.fr GH (λj e=>⟨e.1,by have:=e.2;omega⟩);have Q:=s.push f9 ay a4 GF D8 GF (λj e=>(hB j e).2);refine⟨⟨m++[u],?_,by simp;omega,GH,(I.trans (e7.trans e8)).fr_trans f9 (λj e=>(hB j e).1),?_⟩,?_⟩
  ·rw[n5 GF];simp
  ·rw[show(m++[u]).length=m.length+1 by simp,EL N];exact Q
  ·rw[n5 GF];show((v.lN:Int)-((m.length:Int)+1)).toNat< ((v.lN:Int)-(m.length:Int)).toNat;omega
 rw[kb O];have y:m.length=l.length:=GF;rw[y,Fq]at o;obtain⟨aC,aT⟩:=ie (I.get g5) 5 (.slice T m.length U) (by show 5<6;omega);refine⟨aC,λX a0=>?_⟩;obtain⟨J,q⟩:=aT X a0;have J:X[b]?=some (.cells (Dv.cells ⟨v.kind,v.c,v.neg,W,v.mN,mc,v.t,T,m.length,U⟩).toArray 27 (0,0)):=J;refine⟨_,_,_,_,_,_,_,_,_,_,bA J,?_⟩;have bc:b2≠b:=GF;obtain⟨aN,aV⟩:=ff (vs:=(Dv.cells ⟨v.kind,v.c,v.neg,W,v.mN,mc,v.t,T,m.length,U⟩)) (n:=6) (q.get (by simp;omega) (I.get al)) rfl rfl;refine⟨aN,λae a1=>?_⟩;obtain⟨ai,B⟩:=aV ae a1;have c8:=q.size;have c9:=B.size;refine⟨_,_,_,_,_,_,_,_,_,_,bA ai,hR _ _ ⟨⟨v.kind,v.c,v.neg,W,v.mN,mc,v.t,T,m.length,U⟩,rfl,?_,?_⟩⟩
 ·have z:=((aB.ext I).keep q (λj e h=>by simp at h;have:=G j e;omega)).keep B (λj e h=>by simp at h;have:=G j e;omega);have g:=(o.keep q (λj e=>by simp at e;omega)).keep B (λj e=>by simp at e;omega);refine .mk _ k c neg mag t l m ek ec en et hk hc hm z.le ax z.src aw y (by show m.length<=U;have:=g.own.le;omega) (by show m.length<_;omega) y (λ_ j e=>⟨by have:=G j e;omega,z.lt j e⟩) (λ_ j e=>⟨by have:=g.row j e;omega,g.own.lt j e⟩) (λj e=>?_) (λj h1 h2=>?_)
  ·obtain⟨a,ha,_,hr⟩:=g.own.elem (f:=Dv.cells) (λ_=>rfl) GG e;exact⟨a,ha,hr⟩
  ·exact(g.each j h1 h2).keep (S:=[]) (Ey _ _) GH (λi hi=>⟨by have:=hi.1.1;omega,hi.1.2⟩)
 ·exact(((e5.trans I).fr_trans q (λj e=>by simp at e;omega)).fr_trans B (λj e=>by simp at e;omega))
theorem rz{d:Dt}(q:gP d)(h:aY d<=1000000)(hn: ¬(Plain d/\bZ d<=64)){P:Nat->Prop}{H:zV}{s:Addr}{v:Dv}(T:lA H)(D:cD P H v d):
  gg.C (some s) v.kind v.c v.neg v.mB v.mN v.mC v.t v.lB v.lN v.lC H (λr j=>r=.tuple #[vu 0,vi 1]/\Ext H j):=by
 refine Ei λR o=>gg.link ?_;unfold gg.pt;intro b u p e y w g f;have k:=Eh e;have m:=aK p e;have i:=Eh f;have n:=aK g f;have a:=k.trans i;refine⟨_,by rw[aW (i.get m)];rfl,?_⟩;rw[El];refine⟨_,_,_,_,_,_,_,_,_,_,bA (vs:=v.cells) n,?_⟩;refine gc (wa (T.ext a) (D.ext a) q h hn) ?_;rintro _ x ⟨rfl,l⟩;refine⟨_,rfl,?_⟩;rw[kb GG];exact o _ _ ⟨rfl,a.trans l⟩
variable{a:Mem}{b:Tr}
section
variable {Z:TZ} {g F0:Int} {fw:Int->Option Int} {al:List Int} {s:Sp} {sz:Int->Nat}
def GW(Z:TZ)(fw:Int->Option Int)(v:Int):Prop:=aO v/\Good Z.m Z.sz v/\Dn Z.O fw v
theorem fy.at'{B:Sp}(t:fy Z g F0 fw al sz b s B a)(A:bP a){w:Int}(z:GW Z fw w)(r:gf w): ∀i:Nat,i<Z.sz (w / 8)->Was Z fw (Fw Z.O fw w / 8+i) (Z.m.get (w / 8+i))/\a.used (Fw Z.O fw w / 8+i)/\s.mem.kAt (Fw Z.O fw w / 8+i)=Z.m.kAt (w / 8)/\Z.m.used (w / 8+i)/\Z.m.kAt (w / 8+i)=Z.m.kAt (w / 8):=by
 intro i j;obtain⟨D,x,v⟩:=z;obtain⟨E,y,F⟩:=t.good D x v;obtain⟨G,u,C,H⟩:=y r;have S:=t.S;have f:=(x.2 r).1;have d:=S.sound.usedAt f j (λk=>(S.ok.seg k).n.2);have o:Z.m.kAt (w / 8+i)=Z.m.kAt (w / 8):=by unfold Mem.kAt;rw[d.2.1]
 have h:B9 Z.O sz (Fw Z.O fw w / 8)≠0:=by rw[u];exact f
 have e: ∀k,(a.seg k).n<=64:=λk=>(A.seg k).n.2;have c:=t.sound.usedAt h (by rw[u];exact j) e;have l:=(t.kind c.1).1;have m:a.kAt (Fw Z.O fw w / 8+i)=Z.m.kAt (w / 8):=by rw[<-C];unfold Mem.kAt;rw[c.2.1]
 refine⟨?_,c.1,by rw[<-l,m],d.1,o⟩;by_cases p:aU Z.O w
 ·obtain⟨I,q⟩:=v p;rw[jO p q,show(I*8+w % 8) / 8=I by omega];exact .inr ⟨w / 8,I,i,q,j,rfl,rfl⟩
 ·rw[km p]at c⊢;exact .inl ⟨d.1,(t.used.1 c.1).2,rfl⟩
theorem fy.gw_at{q:Sp}(t:fy Z g F0 fw al sz b s q a)(p:bP a){w:Int}(o:GW Z fw w)(n:gf w){i:Nat}(l:i<Z.sz (w / 8))(f:Z.m.kAt (w / 8)≠3)(m: ¬(Z.m.kAt (w / 8)=1/\(Fw Z.O fw w / 8+i) % 2=0)):GW Z fw (Z.m.get (w / 8+i))/\a.get (Fw Z.O fw w / 8+i)=Fw Z.O fw (Z.m.get (w / 8+i)):=by
 obtain⟨h,r,e,j,k⟩:=t.at' p o n i l;have hk:s.mem.kAt (Fw Z.O fw w / 8+i)≠3:=by rw[e];exact f
 rcases t.get h with⟨c,d⟩ | ⟨_,c,d⟩
 ·rw[kb hk]at c;exact⟨⟨(t.S.ok.seg _).words _,t.S.sound.good _ j (by rw[k];exact f),d hk⟩,c⟩
 ·exact absurd ⟨by rw[<-e];exact c,d⟩ m
theorem GW.old{v:Int}(h:GW Z fw v): ∀_:gf v,Z.sz (v / 8)≠0/\v % 8=BQ (Z.m.kAt (v / 8)):=h.2.1.2
theorem fy.inj{A:Sp}(t:fy Z g F0 fw al sz b s A a){v i:Int}(h:GW Z fw v)(f:GW Z fw i)(e:Fw Z.O fw v=Fw Z.O fw i):v=i:=by
 have S:=t.S;have y:=(t.good h.1 h.2.1 h.2.2).2.2;have z:=(t.good f.1 f.2.1 f.2.2).2.2;have m:v % 8=i % 8:=by rw[<-y,<-z,e]
 have key: ∀{u d:Int},GW Z fw u->GW Z fw d->aU Z.O u-> ¬aU Z.O d->u % 8=d % 8->Fw Z.O fw u≠Fw Z.O fw d:=λ{u d} q n o c m e=>by
  obtain⟨C,j⟩:=q.2.2 o;have x:=(t.tri.img _ _ j).2;have B:=(S.oldWord q.2.1 o).1;have l:=x.new 0 GF;rw[jO o j,km c]at e;have w:gf d:=by have:=wE o;unfold gf at*;omega
  have p:=(S.sound.used _ (n.2.1.2 w).1).1;apply l;rw[show C+((0:Nat):Int)=d / 8 by omega];exact p
 by_cases o:aU Z.O v
 ·by_cases c:aU Z.O i
  ·obtain⟨C,j⟩:=h.2.2 o;obtain⟨r,k⟩:=f.2.2 c;rw[jO o j,jO c k]at e;have:C=r:=GF;subst this;have:=t.tri.inj _ _ _ j k;omega
  ·exact absurd e (key h f o c m)
 ·by_cases c:aU Z.O i
  ·exact absurd e.symm (key f h c o m.symm)
  ·rw[km o,km c]at e;exact e
theorem AD{k:Int}(h:1=BQ k):k=0:=by
 unfold BQ at h;by_cases a:k=0
 ·exact a
 ·rw[kb a]at h;split at h<;>omega
theorem AE{k:Int}(c:0<=k)(h:3=BQ k):2<=k:=by
 unfold BQ at h;by_cases a:k=0
 ·rw[ka a]at h;omega
 ·rw[kb a]at h;by_cases b:k=1
  ·rw[ka b]at h;omega
  ·omega
theorem sQ{w:Int}(d:a.limit<=1024)(c:gf w)(b:a.used (w / 8)):ic w:=by
 have:=b.2.1.2.1;have:=b.1;unfold gf at c;exact⟨GF,GF⟩
theorem fy.pr{G:Sp}(t:fy Z g F0 fw al sz b s G a)(m:bP a){w L d:Int}(h:Pr Z.m w 1 L d)(c:GW Z fw w):Pr a (Fw Z.O fw w) 1 (Fw Z.O fw L) (Fw Z.O fw d)/\GW Z fw L/\GW Z fw d:=by
 have S:=t.S;have f:=h.at'.2.1;have j:gf w:=.inl f;obtain⟨y,A⟩:=c.old j;rw[f]at A;have hk:=AD A;obtain⟨K,H⟩:=S.sound.two _ y (by rw[hk];decide);obtain⟨I,D,E⟩:=t.good c.1 c.2.1 c.2.2;obtain⟨o,F,B,J⟩:=D j;obtain⟨r,u⟩:=t.gw_at m c j (i:=0) GF (by rw[hk];decide) (λq=>by rw[hk]at q;exact absurd q.1 GG);obtain⟨v,x⟩:=t.gw_at m c j (i:=1) GF (by rw[hk];decide) (λq=>by rw[hk]at q;exact absurd q.1 GG);have k:=(t.at' m c j 1 GF).2.1;have n: ∀z:Int,z+((0:Nat):Int)=z:=λz=>GF;have l: ∀z:Int,z+((1:Nat):Int)=z+1:=λz=>GF;rw[n]at r;rw[n,n]at u;rw[l]at v;rw[l,l]at x;rw[h.car]at r u;rw[h.cdr]at v x;rw[l]at k;have C:Fw Z.O fw w % 8=1:=E.trans f;have p:gf (Fw Z.O fw w):=.inl C;refine⟨⟨t.tri.fw_word S c.1,.inl rfl,⟨sQ m.lim.2 p o,C,o.2.1,?_,o.2.2⟩,?_,k,u,x⟩,r,v⟩
 ·have e:a.kAt (Fw Z.O fw w / 8)=0:=by rw[B,hk]
  exact e
 ·exact(t.sound.two _ (by rw[F];exact y) (by rw[B,hk];decide)).2
theorem fy.thg{X:Sp}(t:fy Z g F0 fw al sz b s X a)(B:bP a){w k H:Int}{o:List Int}(h:fC Z.m w k H o)(l:GW Z fw w):(oN k=2->fC a (Fw Z.O fw w) k H (o.map (Fw Z.O fw))/\ ∀v∈o,GW Z fw v)/\(oN k=3->fC a (Fw Z.O fw w) k H o):=by
 have S:=t.S;have m:=h.obj.1.2.1;have y:gf w:=.inr (.inr m);obtain⟨J,K⟩:=l.old y;rw[m]at K;have F:=(S.ok.seg (w / 8 / 64).toNat).kind;have E:=AE (k:=Z.m.kAt (w / 8)) F.1 K;obtain⟨N,A,W⟩:=S.sound.obj _ J E;rw[h.kindEq]at A;rw[h.lenEq]at W;obtain⟨Y,R,T⟩:=t.good l.1 l.2.1 l.2.2;obtain⟨D,L,U,g7⟩:=R y;have M:Fw Z.O fw w % 8=3:=T.trans m;have G:gf (Fw Z.O fw w):=.inr (.inr M);have C: ∀z:Int,z+((0:Nat):Int)=z:=λz=>GF
 have n:a.get (Fw Z.O fw w / 8)=Z.m.get (w / 8):=by
  obtain⟨p,Q,r,_⟩:=t.at' B l y 0 GF;rw[C,C]at p;rw[C]at r;rcases t.get p with⟨q,_⟩ | ⟨_,q,_⟩
  ·rw[q];split
   ·rfl
   ·exact km (pw N _)
  ·rw[r]at q;omega
 have x:B9 Z.O sz (Fw Z.O fw w / 8)≠0:=by rw[L];exact J
 have u:=(t.sound.used _ x).2;rw[L]at u
 have j:a.isObj (Fw Z.O fw w):=by
  unfold Mem.isObj;rw[n,h.kindEq,h.lenEq];refine⟨⟨sQ B.lim.2 G D,M,D.2.1,?_,D.2.2⟩,N,GF⟩;have e:a.kAt (Fw Z.O fw w / 8)=oN k:=by rw[U,A]
  exact e
 have d:=t.tri.fw_word S l.1;constructor
 ·intro hk;have c:Z.m.kAt (w / 8)=2:=by rw[A,hk]
  have key: ∀(i:Nat) (f:i<o.length),GW Z fw o[i]/\a.get (Fw Z.O fw w / 8+1+i)=Fw Z.O fw o[i]:=λi f=>by
   obtain⟨P,I⟩:=t.gw_at B l y (i:=i+1) GF (by rw[c];decide) (λq=>by rw[c]at q;exact absurd q.1 GG);rw[show w / 8+((i+1:Nat):Int)=w / 8+1+i by omega,h.get i f]at P I;rw[show Fw Z.O fw w / 8+((i+1:Nat):Int)=Fw Z.O fw w / 8+1+i by omega]at I;exact⟨P,I⟩
  refine⟨⟨d,j,by rw[n];exact h.kindEq,by rw[n,E2];exact h.lenEq,by rw[n];exact h.moreEq,λi f=>?_⟩,λv V=>?_⟩
  ·rw[E2]at f;rw[List.getElem_map];exact(key i f).2
  ·obtain⟨i,f,rfl⟩:=Gh V;exact(key i f).1
 ·intro hk;have c:Z.m.kAt (w / 8)=3:=by rw[A,hk]
  refine⟨d,j,by rw[n];exact h.kindEq,by rw[n];exact h.lenEq,by rw[n];exact h.moreEq,λi f=>?_⟩;obtain⟨p,Q,r,_⟩:=t.at' B l y (i+1) GF;rw[show w / 8+((i+1:Nat):Int)=w / 8+1+i by omega,h.get i f]at p;rw[show Fw Z.O fw w / 8+((i+1:Nat):Int)=Fw Z.O fw w / 8+1+i by omega]at p r;rcases t.get p with⟨q,_⟩ | ⟨_,q,_⟩
  ·rw[q,ka (by rw[r];exact c)]
  ·rw[r,c]at q;exact absurd q GG
end
variable{a:Mem}
theorem iw.all{l:List Nat}(h:iw a [] l)(b:bP a){k:Int}(hk:a.has k):k.toNat∈l:=by
 refine h.perm.mem_iff.2 ?_;unfold Mem.takenTo;rw[Fg,ER];obtain⟨c,d,e⟩:=hk;have:=(b.seg k.toNat).taken;refine⟨GF,?_⟩;simp;omega
structure Alls (m:Mem) (all:List Int):Prop where
 nodup:all.Nodup
 good: ∀w∈all,aO w/\m.sizeOf w≠0
theorem xO{w:Int}(h:a.sizeOf w≠0):ic w:=by
 unfold Mem.sizeOf at h;by_cases c:a.isPair w
 ·rcases c.1 with q | q<;>exact q.1
 ·rw[kb c]at h;by_cases b:a.isObj w
  ·exact b.1.1
  ·rw[kb b]at h;exact absurd rfl h
theorem Alls.len{m:Mem}{c:List Int}(h:Alls m c):c.length<=524288:=by
 have d:=oT (λ_=>1) 524288 c h.nodup (λa f=>by
  obtain⟨i,j⟩:=h.good a f;have:=(xO j).2;exact⟨i.1,by show a+1<=524288;omega⟩) (λa _ b _ g=>by show a+1<=b;omega)
 have e:(c.map λ_=>1).sum=c.length:=by
  induction c with
  | nil=>rfl
  | cons a l _=>simp[List.map_const'];omega
 rw[e]at d;rw[d];exact Fe List.countP_le_length (by rw[List.length_range];exact Er _)
def Sp.visL(O:Nat->Bool)(T:Int)(s:Sp)(l:List Int):Sp×List Int:=l.foldl (λst w=>((st.1.visit O T w).1,st.2++[(st.1.visit O T w).2])) (s,[])
theorem Sp.visL_snoc(O:Nat->Bool)(T:Int)(s:Sp)(l:List Int)(w:Int):s.visL O T (l++[w])=(((s.visL O T l).1.visit O T w).1,(s.visL O T l).2++[((s.visL O T l).1.visit O T w).2]):=by
 unfold Sp.visL;rw[Gp];rfl
theorem Sp.visL_len(O:Nat->Bool)(T:Int)(s:Sp)(l:List Int):(s.visL O T l).2.length=l.length:=by
 have: ∀(l:List Int) (a:Sp×List Int),(l.foldl (λa w=>((a.1.visit O T w).1,a.2++[(a.1.visit O T w).2])) a).2.length=a.2.length+l.length:=λl=>by
  induction l with
  | nil=>intro a;rfl
  | cons w l b=>intro a;simp only[List.foldl_cons];rw[b];simp;omega
 unfold Sp.visL;rw[this];simp
def brk(O:Nat->Bool)(m:Mem)(a:Int):Mem:=if aU O (m.read a)then m.wr a 44 else m
theorem uR(O:Nat->Bool)(m:Mem)(a:Int):bQ m (brk O m a):=by
 unfold brk;split
 ·exact bQ.wr m a 44
 ·exact bQ.refl m
theorem AF{s:Sp}(b:SpOK s)(O:Nat->Bool)(a:Int):SpOK {s with mem:=brk O s.mem a}:=by
 unfold brk;split
 ·exact b.wr a GG
 ·exact b
theorem sR(O:Nat->Bool): ∀(l:List Int) (m:Mem),bQ m (l.foldl (brk O) m)
 | [],m=>bQ.refl m
 | a::l,m=>(uR O m a).trans (sR O l _)
theorem wP(O:Nat->Bool): ∀(l:List Int) {s:Sp},SpOK s->SpOK {s with mem:=l.foldl (brk O) s.mem}
 | [],s,ok=>ok
 | a::l,s,ok=>wP O l (AF ok O a)
variable{a:Tr}{b:Mem}
theorem iZ{k b x:Int}{n:Nat}:x∈jt k b n ↔ ∃j:Nat,j<n/\x=k*64+(b+2*(j:Int)):=by
 unfold jt;rw[EZ];constructor
 ·rintro⟨j,a,rfl⟩;rw[ER]at a;exact⟨j,a,rfl⟩
 ·rintro⟨j,a,rfl⟩;exact⟨j,by rw[ER];exact a,rfl⟩
theorem sS(O:Nat->Bool): ¬aU O 44:=λh=>by have:=h.1.1;omega
theorem zU{O:Nat->Bool}{a x:Int}(f:b.used x):(brk O b a).get x=if x=a/\aU O (b.get x)then 44 else b.get x:=by
 have h:=f.1;unfold brk;by_cases e:x=a
 ·subst e;have i:b.read x=b.get x:=by unfold Mem.read;rw[ka f]
  rw[i];by_cases c:aU O (b.get x)
  ·rw[ka c,ka ⟨rfl,c⟩];unfold Mem.wr;rw[ka f,Fv x h h,ka rfl]
  ·rw[kb c,kb (λq=>c q.2)]
 ·rw[kb (show ¬(x=a/\aU O (b.get x))from λq=>e q.1)];split
  ·unfold Mem.wr;by_cases d:b.used a
   ·rw[ka d,Fv x h d.1,kb e]
   ·rw[kb d]
  ·rfl
theorem rj(O:Nat->Bool): ∀(l:List Int) {m:Mem} {x:Int},m.used x->(l.foldl (brk O) m).get x=if x∈l/\aU O (m.get x)then 44 else m.get x
 | [],m,x,hx=>by rw[kb (λq=>by simp at q)];rfl
 | a::l,m,x,hx=>by
  have b:=rj O l (m:=brk O m a) ((uR O m a).used.2 hx);show(l.foldl (brk O) (brk O m a)).get x=_;rw[b,zU hx];by_cases e:x=a/\aU O (m.get x)
  ·rw[ka e,kb (λq=>sS O q.2),ka ⟨by rw[e.1];simp,e.2⟩]
  ·rw[kb e];by_cases h:x∈l/\aU O (m.get x)
   ·rw[ka h,ka ⟨by simp[h.1],h.2⟩]
   ·rw[kb h,kb (λq=>?_)];rcases Ew.1 q.1 with r | r
    ·exact e ⟨r,q.2⟩
    ·exact h ⟨r,q.2⟩
theorem jB{b a:Int}{j:Nat}:j<gQ b a ↔ b+2*(j:Int)<a:=by
 unfold gQ;omega
section
variable {Z:TZ} {g F0:Int} {fw:Int->Option Int} {al:List Int} {s:Sp} {sz:Int->Nat}
theorem jX.frmAt(B:jX Z.m g Z.T a){k:Int}(hk:0<=k):seenAt a.frm k=if Z.m.has k/\(Z.m.seg k.toNat).gen=Z.T then(Z.m.seg k.toNat).n else 0:=by
 unfold seenAt;rw[B.frm k hk];by_cases h:Z.m.has k/\(Z.m.seg k.toNat).gen=Z.T
 ·rw[ka h,ka h]
 ·rw[kb h,kb h]
theorem sU(S:fK Z g F0)(t:Tri Z F0 fw al s sz)(B:jX Z.m g Z.T a){l:List Nat}(z:iw s.mem [Z.T] l): ∀H∈s.mem.weaks a l,s.mem.kAt H=1/\H % 2=0/\H<=1000000:=by
 intro H o;have p:=t.ok.mem.lim;unfold Mem.weaks at o;rcases EH.1 o with h | h
 ·obtain⟨k,hk,h⟩:=FI.1 h;obtain⟨r,u,_,_⟩:=z.has hk;have i:((k:Nat):Int).toNat=k:=GF;unfold Mem.weakSeg at h;by_cases b:(s.mem.seg k).kind=1/\a.old k=false
  case neg=>rw[kb b]at h;simp at h
  rw[ka b]at h;obtain⟨j,d,rfl⟩:=iZ.1 h;rw[jB]at d;have hn:=(t.ok.mem.seg k).n;have x:=B.frmAt (k:=k) GF
  have w:seenAt a.frm k % 2=0/\0<=seenAt a.frm k:=by
   rw[x,i];by_cases q:Z.m.has k/\(Z.m.seg k).gen=Z.T
   ·rw[ka q];have A:=(t.heads.seg k (by have:=q.1.2.2;rw[i]at this;exact this)).2.1;exact⟨S.even k (by rw[<-A,b.1];decide),(S.ok.seg k).n.1⟩
   ·rw[kb q];exact⟨rfl,EN _⟩
  refine⟨?_,GF,GF⟩;unfold Mem.kAt;rw[show((k:Int)*64+(seenAt a.frm k+2*(j:Int))) / 64=k by omega,i];exact b.1
 ·obtain⟨c,b,h⟩:=FI.1 h;obtain⟨v,C,D,E⟩:=B.cardOf S c b;have e:=t.heads.has v;have f:s.mem.segOr c.1=s.mem.seg c.1.toNat:=by unfold Mem.segOr;rw[ka e]
  unfold Mem.weakCard at h;rw[f]at h;by_cases hk:(s.mem.seg c.1.toNat).kind=1
  case neg=>rw[kb hk]at h;simp at h
  rw[ka hk]at h;obtain⟨j,d,rfl⟩:=iZ.1 h;rw[jB]at d;have hn:=(t.ok.mem.seg c.1.toNat).n;have F:=e.1;have G:=e.2.1;have y:c.2*16+2*(j:Int)< (s.mem.seg c.1.toNat).n/\c.2*16+2*(j:Int)< (c.2+1)*16:=GF;refine⟨?_,GF,GF⟩;unfold Mem.kAt;rw[show(c.1*64+(c.2*16+2*(j:Int))) / 64=c.1 by omega];exact hk
theorem sV(S:fK Z g F0)(t:Tri Z F0 fw al s sz)(hm:mD Z.m)(B:jX Z.m g Z.T a)(E:a.old=Z.O){l:List Nat}(G:iw s.mem [Z.T] l){x v:Int}(c:s.mem.used x)(D:Z.O (x / 64).toNat=false)(hk:s.mem.kAt x=1)(P:x % 2=0)(I:Was Z fw x v)(h:aU Z.O v):x∈s.mem.weaks a l:=by
 have C:=t.ok.mem.lim;have L:=c.1;have Q:=c.2.1.2.1;unfold Mem.weaks;rcases I with⟨d,A,o⟩ | ⟨R,b,i,d,A,o,M⟩
 ·subst o;have f:Z.m.kAt x=1:=by rw[<-(t.kAt d).1];exact hk
  have F:=B.dirty S hm d D (by rw[f];decide) h (S.sound.good x d (by rw[f];decide));refine Gn _ (FI.2 ⟨_,F,?_⟩);have y:s.mem.segOr (x / 64)=s.mem.seg (x / 64).toNat:=by unfold Mem.segOr;rw[ka c.2.1]
  unfold Mem.weakCard;rw[y,ka hk];have hn:=c.2.2;refine iZ.2 ⟨((x % 64 % 16) / 2).toNat,?_,?_⟩
  ·rw[jB];show x % 64 / 16*16+2*((((x % 64 % 16) / 2).toNat:Nat):Int)<min (s.mem.seg (x / 64).toNat).n ((x % 64 / 16+1)*16);omega
  ·show x=x / 64*64+(x % 64 / 16*16+2*((((x % 64 % 16) / 2).toNat:Nat):Int));omega
 ·have z:=(t.img R b d).2;have N:=z.fit;have j:x / 64=b / 64:=GF;have e:(s.mem.seg (x / 64).toNat).gen=Z.T:=by rw[j];exact z.gen
  have u:(x / 64).toNat∈l:=by
   refine G.perm.mem_iff.2 ?_;unfold Mem.takenTo;rw[Fg,ER];have:=c.2.1.2.2;have:=(t.ok.mem.seg (x / 64).toNat).taken;refine⟨GF,?_⟩;simp only[EF,Ex,EU,List.mem_singleton];exact⟨GF,.inr e⟩
  refine Fp _ (FI.2 ⟨_,u,?_⟩);unfold Mem.weakSeg;rw[ka ⟨hk,by rw[E];exact D⟩];have K:(((x / 64).toNat:Nat):Int)=x / 64:=GF;rw[K];have p:=B.frmAt (k:=x / 64) GF;have w: ¬Z.m.used x:=by rw[o];exact z.new i A
  have H:seenAt a.frm (x / 64) % 2=0/\0<=seenAt a.frm (x / 64)/\seenAt a.frm (x / 64)<=x % 64:=by
   rw[p];by_cases q:Z.m.has (x / 64)/\(Z.m.seg (x / 64).toNat).gen=Z.T
   ·rw[ka q];have J:=(t.heads.seg (x / 64).toNat q.1.2.2).2.1;refine⟨S.even _ (by rw[<-J];show s.mem.kAt x<=1;rw[hk];decide),(S.ok.seg _).n.1,?_⟩;rcases FD (x % 64) (Z.m.seg (x / 64).toNat).n with r | r
    ·exact absurd ⟨L,q.1,r⟩ w
    ·exact r
   ·rw[kb q];exact⟨rfl,EN _,GF⟩
  have hn:=c.2.2;refine iZ.2 ⟨((x % 64-seenAt a.frm (x / 64)) / 2).toNat,?_,?_⟩
  ·rw[jB];omega
  ·omega
theorem Broke.of{tr:Tr}(S:fK Z g F0)(t:Tri Z F0 fw al s sz)(hm:mD Z.m)(B:jX Z.m g Z.T tr)(o:tr.old=Z.O){l:List Nat}(f:iw s.mem [Z.T] l):Broke Z fw s {s with mem:=(s.mem.weaks tr l).foldl (brk Z.O) s.mem}:=by
 refine⟨sR _ _ _,rfl,wP _ _ t.ok,λx d i p=>?_,λx d i hk u=>?_⟩
 ·show((s.mem.weaks tr l).foldl (brk Z.O) s.mem).get x=_;rw[rj _ _ d,kb (λq=>?_)];obtain⟨k,n,_⟩:=sU S t B f x q.1;exact p ⟨k,n⟩
 ·show((s.mem.weaks tr l).foldl (brk Z.O) s.mem).get x=44\/ ∀v,Was Z fw x v->Dn Z.O fw v/\((s.mem.weaks tr l).foldl (brk Z.O) s.mem).get x=Fw Z.O fw v;rw[rj _ _ d];by_cases q:x∈s.mem.weaks tr l/\aU Z.O (s.mem.get x)
  ·rw[ka q];exact .inl rfl
  ·rw[kb q];right;intro v j
   have a:s.mem.get x=v:=by
    rcases t.val x v j with r | ⟨r,_⟩
    ·exact r
    ·have:=r.2.resolve_left (λe=>e hk);omega
   have b: ¬aU Z.O v:=λc=>q ⟨sV S t hm B o f d i hk u j c,by rw[a];exact c⟩;exact⟨λh=>absurd h b,by rw[km b];exact a⟩
theorem Tri.visL(S:fK Z g F0): ∀(l:List Int) {fw:Int->Option Int} {al:List Int} {s:Sp} {sz:Int->Nat} {acc:List Int} (t:Tri Z F0 fw al s sz),(∀w∈l,Z.V w)-> ∃b d j,Tri Z F0 b d (l.foldl (λ(c:Sp×List Int) w=>((c.1.visit Z.O Z.T w).1,c.2++[(c.1.visit Z.O Z.T w).2])) (s,acc)).1 j/\Le fw b/\
  (l.foldl (λ(c:Sp×List Int) w=>((c.1.visit Z.O Z.T w).1,c.2++[(c.1.visit Z.O Z.T w).2])) (s,acc)).2=acc++l.map (Fw Z.O b)/\ ∀w∈l,Dn Z.O b w
 | [],fw,al,s,sz,acc,t,_=>⟨fw,al,sz,t,Le.refl _,GH,λw h=>by cases h⟩
 | w::l,fw,al,s,sz,acc,t,h=>by
  have n:=h w GH;obtain⟨y,z⟩:=S.V w n;obtain⟨q,o,v,V⟩:=t.visit S y z (λr=> .root n r);obtain⟨f,e,k,x,i,u,p⟩:=Tri.visL S l (acc:=acc++[(s.visit Z.O Z.T w).2]) V.tri (λm a=>h m (by simp[a]));refine⟨f,e,k,x,V.le.trans i,?_,λm a=>?_⟩
  ·simp only[List.foldl_cons];rw[u,V.val,<-pU V.dn i];simp
  ·rcases Ew.1 a with rfl | a
   ·exact V.dn.mono i
   ·exact p m a
end
theorem Sp.look_cf(s:Sp)(old:Nat->Bool)(T seg a b:Int): ∀n,(s.look old T seg a b n).cf=s.cf
 | 0=>rfl
 | n+1=>by
  unfold Sp.look;split
  ·rw[Sp.lookAt_cf,Sp.look_cf s old T seg a b n]
  ·exact Sp.look_cf s old T seg a b n
theorem Sp.visL_cf(O:Nat->Bool)(T:Int)(s:Sp)(l:List Int):(s.visL O T l).1.cf=s.cf:=by
 have: ∀(l:List Int) (a:Sp×List Int),(l.foldl (λa w=>((a.1.visit O T w).1,a.2++[(a.1.visit O T w).2])) a).1.cf=a.1.cf:=λl=>by
  induction l with
  | nil=>intro a;rfl
  | cons w l b=>intro a;simp only[List.foldl_cons];rw[b];exact Sp.visit_cf _ _ _ _
 exact this l (s,[])
theorem Sp.lookCards_cf(old:Nat->Bool)(T:Int): ∀(l:List (Int×Int)) (s:Sp),(s.lookCards old T l).cf=s.cf
 | [],s=>rfl
 | c::l,s=>by
  show((s.lookCard old T c).lookCards old T l).cf=_;rw[Sp.lookCards_cf old T l];exact Sp.look_cf _ _ _ _ _ _ _
theorem xP{old:Nat->Bool}{T:Int}{a s:Sp}{c d:List (Int×Value)}(h:jg old T a c s d):s.cf=a.cf:=by
 induction h with
 | refl=>rfl
 | step k _ hk e f hn b=>rw[Sp.look_cf,b]
theorem Mem.again_lim(m:Mem)(k c:Int):(m.again k c).count=m.count/\(m.again k c).free=m.free:=by
 unfold Mem.again;split
 ·exact⟨Mem.mark_lim.2.2,Mem.mark_lim.2.1⟩
 ·exact⟨rfl,rfl⟩
theorem Sp.agains_cf: ∀(l:List (Int×Int)) (s:Sp),(s.agains l).cf=s.cf
 | [],s=>rfl
 | c::l,s=>by
  show(({s with mem:=s.mem.again c.1 c.2}:Sp).agains l).cf=_;rw[Sp.agains_cf l];unfold Sp.cf;show(s.mem.again c.1 c.2).count+(s.mem.again c.1 c.2).free=_;rw[(Mem.again_lim _ _ _).1,(Mem.again_lim _ _ _).2]
theorem Sp.give_cf(s:Sp)(k:Int):(s.give k).cf<=s.cf+1:=by
 unfold Sp.give;split
 ·rename_i h
  unfold Sp.cf;show(s.mem.give k).count+(s.mem.give k).free<=_;unfold Mem.give;rw[ka h];show s.mem.count+(s.mem.free+1)<=_;omega
 ·omega
theorem Sp.gives_cf(s:Sp)(old:Nat->Bool): ∀n:Nat,(s.gives old n).cf<=s.cf+n
 | 0=>by show s.cf<=s.cf+0;omega
 | n+1=>by
  have:=Sp.gives_cf s old n;unfold Sp.gives;split
  ·have:=Sp.give_cf (s.gives old n) n;omega
  ·omega
theorem Sp.ended_cf(s:Sp)(t:Tr):(s.ended t).cf<=s.cf+1024:=by
 unfold Sp.ended;rw[Sp.agains_cf];exact Sp.gives_cf s t.old 1024
theorem wb{s:Sp}(c:SpOK s)(b:s.mem.Even)(t:Tr):(s.ended t).mem.Even:=by
 obtain⟨_,a⟩:=Sp.gives_seg s t.old 1024;obtain⟨u,_⟩:=Sp.agains_spec t.cards (Sp.gives_ok c t.old 1024);intro k;show((s.gives t.old 1024).agains t.cards |>.mem.seg k).kind<=1->_;obtain⟨f,d,e,_⟩:=u.seg k;show(((s.gives t.old 1024).agains t.cards).mem.seg k).kind<=1->(((s.gives t.old 1024).agains t.cards).mem.seg k).n % 2=0;rw[d,e,a k];split
 ·intro _;rfl
 ·exact b k
theorem uS(c:bP b){g:Int}(d:0<=g):(List.range 1024).countP (λk=>b.young g k)=b.nyoung g:=by
 have m:=c.lim
 have a:fJ g≠[]:=λh=>by
  have:(0:Int)∈fJ g:=lG.2 ⟨EN _,d⟩;rw[h]at this;cases this
 unfold Mem.nyoung Mem.takenTo;rw[<-List.countP_eq_length_filter,show(1024:Nat)=b.limit+(1024-b.limit)by omega,pv _ _ _ (λi j l=>?_)]
 ·refine List.countP_congr λk hk=>?_;rw[ER]at hk;have f:=(c.seg k).taken;have e:=(c.seg k).gen;unfold Mem.young Mem.has;simp only[Ex,EF,EU,List.isEmpty_iff,a,false_or,lG];rw[show((k:Nat):Int).toNat=k by omega];exact⟨λq=>⟨GF,GF⟩,λq=>⟨⟨GF,GF,GF⟩,GF⟩⟩
 ·unfold Mem.young;refine zQ λq=>?_;have:=q.1.2.1;omega
theorem AG{Z:TZ}{g:Int}(f:bP Z.m)(d:0<=g)(c: ∀k:Nat,k<1024->Z.O k=Z.m.young g k):(Z.yk 0:Int)+Z.yk 1+Z.yk 2+Z.yk 3<=Z.m.nyoung g:=by
 rw[<-uS f d]
 have h:Z.yk 0+Z.yk 1+Z.yk 2+Z.yk 3<=(List.range 1024).countP (λk=>Z.m.young g k):=by
  unfold TZ.yk;rw[<-mz,<-mz,<-mz]
  ·refine List.countP_mono_left λk hk h=>?_;rw[ER]at hk;rw[<-c k hk]
   cases e:Z.O k with
   | true=>rfl
   | false=>rw[e]at h;simp at h
  all_goals
   intro x _ a b;simp only[EF,EU,Ex]at a b;simp[b.2]at a
 omega
theorem jX.frmOK{g T:Int}(h:jX b g T a)(d:bP b):jq a.frm:=by
 intro k v c;rcases FD k 0 with hk | hk
 ·rw[h.frm0 k hk]at c;cases c
 rw[h.frm k hk]at c;split at c
 ·cases c;exact⟨_,rfl,(d.seg _).n⟩
 ·cases c
theorem zd{l:List Nat}{T:Int}(p:bP b)(t:jq a.frm)(e:oz a.cards)(r:iw b [T] l): ∀u∈b.weaks a l,u<=1000000:=by
 intro u i;have m:=p.lim;unfold Mem.weaks at i;rcases EH.1 i with h | h
 ·obtain⟨k,hk,h⟩:=FI.1 h;obtain⟨_,o,_,_⟩:=r.has hk;unfold Mem.weakSeg at h;by_cases d:(b.seg k).kind=1/\a.old k=false
  case neg=>rw[kb d]at h;simp at h
  rw[ka d]at h;obtain⟨j,f,rfl⟩:=iZ.1 h;rw[jB]at f;have hn:=(p.seg k).n;omega
 ·obtain⟨c,d,h⟩:=FI.1 h;have q:=e c d;unfold Mem.weakCard at h;by_cases hk:(b.segOr c.1).kind=1
  case neg=>rw[kb hk]at h;simp at h
  rw[ka hk]at h;obtain⟨j,f,rfl⟩:=iZ.1 h;rw[jB]at f;omega
theorem mG{H:zV}{b:Blk}{x:Hp}{q:TB}{t:Tr}(T:Tc H b x q t):ip.C (some ⟨q.t,0,none⟩) H (λv a=>v=.bool t.over/\a=H):=by
 refine Ei λR c=>ip.link ?_;unfold ip.pt;rw[El]
 have h:eZ.C (some ⟨q.t,0,none⟩) H (λv a=>v=.bool t.over/\a=H):=by
  refine Ei λR c=>eZ.link ?_;unfold eZ.pt;refine gc (li T) ?_;rintro _ _ ⟨rfl,rfl⟩;exact⟨_,rfl,c _ _ ⟨rfl,rfl⟩⟩
 refine gc h ?_;rintro _ _ ⟨rfl,rfl⟩;exact⟨_,rfl,c _ _ ⟨rfl,rfl⟩⟩
