/-
 build.Datum: what is read of a heap, ring or not, is what a walk on the memory reads. Proves nothing of any one statement.
-/
import Derived.Test.YtibpklpgmgakcaaGreatDoorBuildQ
import Derived.Test.YtibpklpgmgakcaaGreatDoorFbuild
import Derived.Test.YtibpklpgmgakcaaGreatDoorFbuild1
import Derived.Test.YtibpklpgmgakcaaGreatDoorFref03
import Derived.Test.YtibpklpgmgakcaaGreatDoorFref031
import Derived.Test.YtibpklpgmgakcaaGreatDoorLx
import Derived.Test.YtibpklpgmgakcaaGreatDoorDatR
import Derived.Test.YtibpklpgmgakcaaGreatDoorFnsC
set_option linter.unusedVariables false
set_option linter.unusedSimpArgs false
set_option maxHeartbeats 1000000
namespace Go.Proofs.YtibpklpgmgakcaaGreatDoor
open Go

abbrev RdOut:=Int×Dt×Int
def zD:Dt:=.mk 0 0 false [] tE []
inductive NodeV where
 | leaf (d:Dt)
 | bad (e:Int)
 | vec (ws:List Int)
 | pair (a d:Int)
def NodeV.isP:NodeV->Bool | .pair _ _=>true | _=>false
def NodeV.car:NodeV->Int | .pair a _=>a | _=>0
def NodeV.cdr:NodeV->Int | .pair _ d=>d | _=>0
def vecG(rd:Int->Int->RdOut):Int->List Int->List Dt->RdOut
 | n,[],acc=>(0,.mk 8 0 false [] tE acc,n)
 | n,w::ws,acc=>if(rd n w).1=0 then vecG rd (rd n w).2.2 ws (acc++[(rd n w).2.1])else((rd n w).1,zD,0)
def chainG(rd:Int->Int->RdOut)(vw:Int->NodeV):Nat->Int->Int->List Dt->RdOut
 | 0,_,_,_=>(6,zD,0)
 | f+1,n,w,acc=>
  if(rd n (vw w).car).1=0 then
   (if(vw (vw w).cdr).isP=true then
    (if 4096< (rd n (vw w).car).2.2+1 then(6,zD,0)else chainG rd vw f ((rd n (vw w).car).2.2+1) (vw w).cdr (acc++[(rd n (vw w).car).2.1]))
   else if(rd (rd n (vw w).car).2.2 (vw w).cdr).1=0 then(0,consD (acc++[(rd n (vw w).car).2.1]) (rd (rd n (vw w).car).2.2 (vw w).cdr).2.1,(rd (rd n (vw w).car).2.2 (vw w).cdr).2.2)
   else((rd (rd n (vw w).car).2.2 (vw w).cdr).1,zD,0))
  else((rd n (vw w).car).1,zD,0)
def readG(vw:Int->NodeV):Nat->Int->Int->Int->RdOut
 | 0,_,_,_=>(6,zD,0)
 | f+1,n,w,deep=>if 4096<n+1 then(6,zD,0)else match vw w with
  | .leaf d=>(0,d,n+1)
  | .bad e=>(e,zD,0)
  | .vec ws=>if deep=64 then(10,zD,0)else vecG (λn w=>readG vw f n w (deep+1)) (n+1) ws []
  | .pair _ _=>if deep=64 then(10,zD,0)else chainG (λn w=>readG vw f n w (deep+1)) vw f (n+1) w []
theorem vecG_bd{rd:Int->Int->RdOut}(h: ∀n w,(rd n w).1=0->n< (rd n w).2.2/\(n<=4096->(rd n w).2.2<=4096)): ∀(ws:List Int) (n:Int) (acc:List Dt),(vecG rd n ws acc).1=0->n<=(vecG rd n ws acc).2.2/\(n<=4096->(vecG rd n ws acc).2.2<=4096)
 | [],n,acc,_=>by simp only[vecG];exact⟨Int.le_refl _,λh=>h⟩
 | w::ws,n,acc,hz=>by
  unfold vecG at hz⊢
  by_cases h0:(rd n w).1=0
  ·rw[if_pos h0]at hz⊢
   have h1:=h n w h0
   have h2:=vecG_bd h ws (rd n w).2.2 _ hz
   exact⟨by omega,λh=>h2.2 (h1.2 h)⟩
  ·rw[if_neg h0]at hz;exact absurd hz h0
theorem chainG_bd{rd:Int->Int->RdOut}{vw:Int->NodeV}(h: ∀n w,(rd n w).1=0->n< (rd n w).2.2/\(n<=4096->(rd n w).2.2<=4096)): ∀(f:Nat) (n w:Int) (acc:List Dt),(chainG rd vw f n w acc).1=0->n<=(chainG rd vw f n w acc).2.2/\(n<=4096->(chainG rd vw f n w acc).2.2<=4096)
 | 0,n,w,acc,hz=>by simp[chainG]at hz
 | f+1,n,w,acc,hz=>by
  unfold chainG at hz⊢
  by_cases h0:(rd n (vw w).car).1=0
  ·rw[if_pos h0]at hz⊢
   have h1:=h n _ h0
   by_cases hp:(vw (vw w).cdr).isP=true
   ·rw[if_pos hp]at hz⊢
    by_cases hb:4096< (rd n (vw w).car).2.2+1
    ·rw[if_pos hb]at hz;cases hz
    ·rw[if_neg hb]at hz⊢
     have h2:=chainG_bd h f _ _ _ hz
     exact⟨by omega,λh=>h2.2 (by omega)⟩
   ·rw[if_neg hp]at hz⊢
    by_cases h2:(rd (rd n (vw w).car).2.2 (vw w).cdr).1=0
    ·rw[if_pos h2]
     have h3:=h _ _ h2
     exact⟨by show n<=(rd (rd n (vw w).car).2.2 (vw w).cdr).2.2;omega,λh=>h3.2 (h1.2 h)⟩
    ·rw[if_neg h2]at hz;exact absurd hz h2
  ·rw[if_neg h0]at hz;exact absurd hz h0
theorem readG_bd(vw:Int->NodeV)(hv: ∀w e,vw w=.bad e->e≠0): ∀(f:Nat) (n w deep:Int),(readG vw f n w deep).1=0->n< (readG vw f n w deep).2.2/\(n<=4096->(readG vw f n w deep).2.2<=4096)
 | 0,n,w,deep,hz=>by simp[readG]at hz
 | f+1,n,w,deep,hz=>by
  unfold readG at hz⊢
  by_cases hb:4096<n+1
  ·rw[if_pos hb]at hz;cases hz
  rw[if_neg hb]at hz⊢
  have ih:=λn w=>readG_bd vw hv f n w (deep+1)
  cases hw:vw w with
  | leaf d=>simp only;omega
  | bad e=>rw[hw]at hz;exact absurd hz (hv w e hw)
  | vec ws=>
   rw[hw]at hz
   simp only at hz⊢
   by_cases hd:deep=64
   ·rw[if_pos hd]at hz;cases hz
   rw[if_neg hd]at hz⊢
   have:=vecG_bd ih ws (n+1) [] hz
   exact⟨by omega,λh=>this.2 (by omega)⟩
  | pair a d=>
   rw[hw]at hz
   simp only at hz⊢
   by_cases hd:deep=64
   ·rw[if_pos hd]at hz;cases hz
   rw[if_neg hd]at hz⊢
   have:=chainG_bd ih f (n+1) w [] hz
   exact⟨by omega,λh=>this.2 (by omega)⟩

def constD(w:Int):Option Dt:=
 if w=12 then some (.mk 1 0 false [] tE [])else if w=4 then some (.mk 2 0 false [] tE [])else if w=36 then some (.mk 9 0 false [] tE [])else if w=28 then some (.mk 10 0 false [] tE [])else if w=20 then some (.mk 0 0 false [] tE [])
 else if w % 8=4/\w / 8 % 32=7/\letterB (w / 256)=true then some (.mk 3 (w / 256) false [] tE [])else none
def viewM(m:Mem)(w:Int):NodeV:=
 match constD w with
 | some d=> .leaf d
 | none=>if(numW m w).2.2=0 then .leaf (.mk 4 0 (numW m w).1 (numW m w).2.1 tE [])else if m.typ w=2 then .leaf (.mk 5 0 false [] (wordsText (m.objWords w)) [])
  else if m.typ w=4 then(if(nameR m w).2=0 then .leaf (.mk 6 0 false [] (nameR m w).1 [])else .bad 3)else if m.typ w=1 then .vec (m.objWords w)
  else if w % 8=1/\m.isPair w then .pair (if m.halfE w 0=0 then m.get (w / 8+0)else 0) (if m.halfE w 1=0 then m.get (w / 8+1)else 0)else .bad 3
theorem constD_tag{w:Int}{d:Dt}(h:constD w=some d):w % 8=4:=by
 unfold constD at h
 by_cases h1:w=12
 ·omega
 rw[if_neg h1]at h
 by_cases h2:w=4
 ·omega
 rw[if_neg h2]at h
 by_cases h3:w=36
 ·omega
 rw[if_neg h3]at h
 by_cases h4:w=28
 ·omega
 rw[if_neg h4]at h
 by_cases h5:w=20
 ·omega
 rw[if_neg h5]at h
 by_cases h6:w % 8=4/\w / 8 % 32=7/\letterB (w / 256)=true
 ·exact h6.1
 ·rw[if_neg h6]at h;cases h
theorem typ_tag{m:Mem}{w:Int}(h:m.typ w≠0):m.isObj w/\w % 8=3:=by
 have h1:m.isObj w:=by
  by_cases h1:m.isObj w
  ·exact h1
  ·unfold Mem.typ at h;rw[if_neg h1]at h;exact absurd rfl h
 exact⟨h1,h1.1.2.1⟩
theorem viewM_bad{m:Mem}{w e:Int}(h:viewM m w=.bad e):e≠0:=by
 unfold viewM at h
 cases hc:constD w with
 | some d=>rw[hc]at h;cases h
 | none=>
  rw[hc]at h
  simp only at h
  split at h
  ·cases h
  split at h
  ·cases h
  split at h
  ·split at h
   ·cases h
   ·cases h;decide
  split at h
  ·cases h
  split at h
  ·cases h
  ·cases h;decide
theorem numW_tag{m:Mem}{w:Int}(h:w % 8=1):(numW m w).2.2=3:=by
 unfold numW
 rw[if_neg (by omega),if_neg (λhh=>by have:=hh.1.1.2.1;omega)]
theorem viewM_pair{m:Mem}{w:Int}:(viewM m w).isP=true ↔ (w % 8=1/\m.isPair w):=by
 constructor
 ·intro h
  unfold viewM at h
  cases hc:constD w with
  | some d=>rw[hc]at h;cases h
  | none=>
   rw[hc]at h
   simp only at h
   split at h
   ·cases h
   split at h
   ·cases h
   split at h
   ·split at h<;>cases h
   split at h
   ·cases h
   split at h
   ·assumption
   ·cases h
 ·intro h
  have hc:constD w=none:=by
   cases hc:constD w with
   | none=>rfl
   | some d=>have:=constD_tag hc;omega
  have ht: ∀k,k≠0->m.typ w≠k:=λk hk hh=>by have:=(typ_tag (m:=m) (w:=w) (by omega)).2;omega
  unfold viewM
  rw[hc]
  simp only
  rw[if_neg (by rw[numW_tag h.1];decide),if_neg (ht 2 (by decide)),if_neg (ht 4 (by decide)),if_neg (ht 1 (by decide)),if_pos h]
  rfl
theorem viewM_parts{m:Mem}{w:Int}(h:(viewM m w).isP=true):viewM m w=.pair (if m.halfE w 0=0 then m.get (w / 8+0)else 0) (if m.halfE w 1=0 then m.get (w / 8+1)else 0):=by
 have hp:=viewM_pair.1 h
 have hc:constD w=none:=by
  cases hc:constD w with
  | none=>rfl
  | some d=>have:=constD_tag hc;omega
 have ht: ∀k,k≠0->m.typ w≠k:=λk hk hh=>by have:=(typ_tag (m:=m) (w:=w) (by omega)).2;omega
 unfold viewM
 rw[hc]
 simp only
 rw[if_neg (by rw[numW_tag hp.1];decide),if_neg (ht 2 (by decide)),if_neg (ht 4 (by decide)),if_neg (ht 1 (by decide)),if_pos hp]
theorem numW_limb{m:Mem}{w:Int}(hw:IsWord w): ∀x∈(numW m w).2.1,IsLimb x:=by
 intro x hx
 unfold numW at hx
 split at hx
 ·have hww:0<=w/\w<18446744073709551616:=hw
  unfold normR at hx
  split at hx
  ·simp at hx
  ·have:=trim_mem hx
   unfold ofL at this
   simp at this
   unfold IsLimb
   have hm:0<=mag (signed w / 8)/\mag (signed w / 8)<18446744073709551616:=by
    unfold mag signed
    omega
   rcases this with rfl | rfl<;>omega
 split at hx
 ·split at hx
  ·obtain⟨z,_,rfl⟩:=List.mem_map.1 hx
   unfold IsLimb;omega
  ·simp at hx
 ·simp at hx

def Yng(H H':Array Obj)(i:Nat):Prop:=H.size<=i/\i<H'.size
structure RowD (lo:Nat) (H:Array Obj) (B:Option Addr) (n c:Nat) (us:List Dv) (ds:List Dt):Prop where
 own:Own H 51 6 B n c (us.flatMap Dv.cells)
 len:us.length=n
 dlen:ds.length=n
 row: ∀i∈blks B,lo<=i
 each: ∀(i:Nat) (h1:i<us.length) (h2:i<ds.length),DatAt (λj=>(lo<=j/\j<H.size)/\j ∉ blks B) H us[i] ds[i]
theorem RowD.nil{lo:Nat}{H:Array Obj}:RowD lo H none 0 0 [] []:=⟨own_nil,rfl,rfl,by simp,λi h1=>by simp at h1⟩
theorem RowD.keep{lo:Nat}{S:List Nat}{H H':Array Obj}{B:Option Addr}{n c:Nat}{us:List Dv}{ds:List Dt}(h:RowD lo H B n c us ds)(f:Fr S H H')(hS: ∀i∈S,i<lo\/H.size<=i):RowD lo H' B n c us ds:=
 ⟨h.own.keep f (λi hi hs=>by
  rcases hS i hs with h' | h'
  ·have:=h.row i hi;omega
  ·have:=h.own.lt i hi;omega),h.len,h.dlen,h.row,λi h1 h2=>(h.each i h1 h2).keep f (λi hs hp=>by
  rcases hS i hs with h' | h'
  ·have:=hp.1.1;omega
  ·have:=hp.1.2;omega) (λi hp=>⟨⟨hp.1.1,Nat.lt_of_lt_of_le hp.1.2 f.size⟩,hp.2⟩)⟩
theorem RowD.ext{lo:Nat}{H H':Array Obj}{B:Option Addr}{n c:Nat}{us:List Dv}{ds:List Dt}(h:RowD lo H B n c us ds)(e:Ext H H'):RowD lo H' B n c us ds:=h.keep (S:=[]) e.fr (by simp)
theorem RowD.push{lo lo':Nat}{H H2:Array Obj}{B p:Option Addr}{n c c':Nat}{us:List Dv}{ds:List Dt}{u:Dv}{d:Dt}(h:RowD lo H B n c us ds)(f:Fr (blks B) H H2)(o:Own H2 51 6 p (n+1) c' (us.flatMap Dv.cells++u.cells))
  (hnew: ∀i∈blks p,i∈blks B\/H.size<=i) (hlo:lo<=H.size) (D:DatAt (λj=>lo'<=j/\j<H.size) H u d) (hlo':lo<=lo') (hB: ∀i∈blks B,i<lo'):RowD lo H2 p (n+1) c' (us++[u]) (ds++[d]):=by
 have hs:=f.size
 refine⟨by simpa using o,by simp[h.len],by simp[h.dlen],λi hi=>?_,λi h1 h2=>?_⟩
 ·rcases hnew i hi with h' | h'
  ·exact h.row i h'
  ·omega
 ·by_cases hi:i<us.length
  ·rw[List.getElem_append_left hi,List.getElem_append_left (by rw[h.dlen,<-h.len];exact hi)]
   refine(h.each i hi (by rw[h.dlen,<-h.len];exact hi)).keep f (λj hj hp=>hp.2 hj) (λj hp=>⟨⟨hp.1.1,by omega⟩,λhj=>?_⟩)
   rcases hnew j hj with h' | h'
   ·exact hp.2 h'
   ·have:=hp.1.2;omega
  ·have hiu:i=us.length:=by simp at h1;omega
   have hid:i=ds.length:=by rw[hiu,h.len,h.dlen]
   have e1:(us++[u])[i]=u:=by simp[hiu]
   have e2:(ds++[d])[i]=d:=by simp[hid]
   rw[e1,e2]
   refine D.keep f (λj hj hp=>by have:=hB j hj;omega) (λj hp=>⟨⟨by omega,by omega⟩,λhj=>?_⟩)
   rcases hnew j hj with h' | h'
   ·have:=hB j h';omega
   ·omega
def vecV(B:Option Addr)(n c:Nat):Dv:=⟨8,0,false,none,0,0,tE,B,n,c⟩
theorem RowD.vec{lo:Nat}{H:Array Obj}{B:Option Addr}{n c:Nat}{us:List Dv}{ds:List Dt}(h:RowD lo H B n c us ds)(hn:n<4611686018427387904):DatAt (λj=>lo<=j/\j<H.size) H (vecV B n c) (.mk 8 0 false [] tE ds):=by
 refine .mk _ 8 0 false [] tE ds us rfl rfl rfl rfl (by decide) (by decide) rfl (Nat.le_refl _) (by show(0:Nat)<_;decide) rfl (by simp) h.dlen.symm h.own.le (by show n<_;omega) (h.len.trans h.dlen.symm) (λhh=>absurd rfl hh) (λ_ i hi=>⟨h.row i hi,h.own.lt i hi⟩) (λi hi=>?_) (λi h1 h2=>?_)
 ·obtain⟨a,ha,_,hr⟩:=h.own.elem (f:=Dv.cells) (λ_=>rfl) (by decide) hi
  exact⟨a,ha,hr⟩
 ·exact(h.each i h1 h2).keep (S:=[]) (Fr.refl _ _) (by simp) (λj hj=>hj.1)
def pairV(b:Nat):Dv:=⟨7,0,false,none,0,0,tE,some ⟨b,0,none⟩,2,2⟩
theorem dat_pair{P:Nat->Prop}{H:Array Obj}{u1 u2:Dv}{d1 d2:Dt}{b:Nat}{T:TypeId}{fz:Nat×Nat}(g:H[b]?=some (.cells (u1.cells++u2.cells).toArray T fz))(h1:DatAt P H u1 d1)(h2:DatAt P H u2 d2)(hb:P b):DatAt P H (pairV b) (pairD d1 d2):=by
 refine .mk _ 7 0 false [] tE [d1,d2] [u1,u2] rfl rfl rfl rfl (by decide) (by decide) rfl (Nat.le_refl _) (by show(0:Nat)<_;decide) rfl (by simp) rfl (Nat.le_refl _) (by show(2:Nat)<_;decide) rfl (λhh=>absurd rfl hh) (λ_ i hi=>by simp[pairV]at hi;subst hi;exact hb) (λi hi=>⟨_,rfl,?_⟩) (λi hi1 hi2=>?_)
 ·have hr:=box_row (vs:=u1.cells++u2.cells) g
  match i,hi with
  | 0,_=>exact RowAt.sub 0 hr rfl
  | 1,_=>exact RowAt.sub 6 hr rfl
 ·match i,hi1 with
  | 0,_=>exact h1
  | 1,_=>exact h2
end Go.Proofs.YtibpklpgmgakcaaGreatDoor

namespace Go.Proofs.YtibpklpgmgakcaaGreatDoor
open Go

def leafV(k c:Int):Dv:=⟨k,c,false,none,0,0,tE,none,0,0⟩
theorem dat_leaf{P:Nat->Prop}{H:Array Obj}{k c:Int}(hk:I64 k)(hc: -2147483648<=c/\c<=2147483647):DatAt P H (leafV k c) (.mk k c false [] tE []):=
 .mk _ k c false [] tE [] [] rfl rfl rfl rfl hk hc rfl (Nat.le_refl _) (by show(0:Nat)<_;decide) rfl (by simp) rfl (Nat.le_refl _) (by show(0:Nat)<_;decide) rfl (λhh=>absurd rfl hh) (λhh=>absurd rfl hh) (λi h=>by simp at h) (λi h=>by simp at h)
def strV(k:Int)(t:ByteArray):Dv:=⟨k,0,false,none,0,0,t,none,0,0⟩
theorem dat_str{P:Nat->Prop}{H:Array Obj}{k:Int}{t:ByteArray}(hk:I64 k):DatAt P H (strV k t) (.mk k 0 false [] t []):=
 .mk _ k 0 false [] t [] [] rfl rfl rfl rfl hk (by decide) rfl (Nat.le_refl _) (by show(0:Nat)<_;decide) rfl (by simp) rfl (Nat.le_refl _) (by show(0:Nat)<_;decide) rfl (λhh=>absurd rfl hh) (λhh=>absurd rfl hh) (λi h=>by simp at h) (λi h=>by simp at h)
def numV(neg:Bool)(B:Option Addr)(n c:Nat):Dv:=⟨4,0,neg,B,n,c,tE,none,0,0⟩
theorem dat_num{lo:Nat}{H:Array Obj}{neg:Bool}{B:Option Addr}{n c:Nat}{ls:List Int}(hr:NumRow lo H B n c ls)(hl: ∀x∈ls,IsLimb x)(h62:ls.length<=62):DatAt (λj=>lo<=j/\j<H.size) H (numV neg B n c) (.mk 4 0 neg ls tE []):=by
 have hlen:n=ls.length:=by have:=hr.1.len;simp at this;omega
 exact .mk _ 4 0 neg ls tE [] [] rfl rfl rfl rfl (by decide) (by decide) hlen hr.1.le (by show n<_;omega) hr.1.src hl rfl (Nat.le_refl _) (by show(0:Nat)<_;decide) rfl (λ_ i hi=>⟨hr.2 i hi,hr.1.lt i hi⟩) (λhh=>absurd rfl hh) (λi h=>by simp at h) (λi h=>by simp at h)
theorem numW_len{m:Mem}{w:Int}:(numW m w).2.1.length<=62:=by
 unfold numW
 split
 ·unfold normR
  split
  ·simp
  ·show(trim _).length<=62
   rw[trim_len]
   have:=top_le (ofL (signed w / 8))
   simp[ofL]at this
   omega
 split
 ·rename_i h
  split
  ·show(List.map _ _).length<=62
   rw[List.length_map,Mem.objWords_len]
   have:=h.1.len_lt
   unfold Mem.len
   rw[if_pos h.1]
   omega
  ·simp
 ·simp
theorem build_constant_c{H:Array Obj}{w:Int}(hw:IsWord w):build_constant.C w H (λv H'=> ∃(k c:Int) (b:Bool),v=.tuple #[.agg (leafV k c).cells.toArray,.bool b]/\(constD w=if b=true then some (.mk k c false [] tE [])else none)/\(I64 k/\ -2147483648<=c/\c<=2147483647)/\Ext H H'):=by
 refine HC.via λR hR=>build_constant.link ?_
 unfold build_constant.pt
 intro b H1 hb hH1 b2 H2 hb2 hH2
 have e1:=Ext.push' hH1
 have g1:=push_get hb hH1
 obtain⟨s3,p3⟩:=box_new (vs:=(leafV 0 0).cells) hb2 hH2 rfl rfl
 refine⟨s3,λH3 hH3=>?_⟩
 obtain⟨g3,e3⟩:=p3 H3 hH3
 have g31:=e3.get g1
 have hb1:=lt_size g1
 have e13:=e1.trans e3
 have hs1:=e1.size
 have hw0:0<=w/\w<18446744073709551616:=hw
 have fin: ∀(k c:Int) (bb:Bool) (A:Array Obj),A[b2]?=some (.cells (leafV k c).cells.toArray 51 (0,0))->Fr [b2] H3 A->(constD w=if bb=true then some (.mk k c false [] tE [])else none)->(I64 k/\ -2147483648<=c/\c<=2147483647)->
   ∃xK:Int,∃xC:Int,∃xN:Bool,∃xB:Option Addr,∃xM:Nat,∃xD:Nat,∃xT:ByteArray,∃xE:Option Addr,∃xF:Nat,∃xG:Nat,RowAt A (Addr.mk b2 0 none) 0 [.int .i64 xK,.int .i32 xC,.bool xN,.slice xB xM xD,.string xT,.slice xE xF xG]/\
    (CanPuts A (Addr.mk b 0 none) 0 6)/\ ∀A':Array Obj,A'=hputs A (Addr.mk b 0 none) [.int .i64 xK,.int .i32 xC,.bool xN,.slice xB xM xD,.string xT,.slice xE xF xG] 0->
    ∃rK:Int,∃rC:Int,∃rN:Bool,∃rB:Option Addr,∃rM:Nat,∃rD:Nat,∃rT:ByteArray,∃rE:Option Addr,∃rF:Nat,∃rG:Nat,RowAt A' (Addr.mk b 0 none) 0 [.int .i64 rK,.int .i32 rC,.bool rN,.slice rB rM rD,.string rT,.slice rE rF rG]/\
    R (.tuple #[.agg #[.int .i64 rK,.int .i32 rC,.bool rN,.slice rB rM rD,.string rT,.slice rE rF rG],.bool bb]) A':=λk c bb A gA fA hk hkc=>by
  refine⟨_,_,_,_,_,_,_,_,_,_,box_row gA,?_⟩
  obtain⟨s5,p5⟩:=box_set (vs:=(leafV k c).cells) (fA.get (by simp;omega) g31) rfl rfl
  refine⟨s5,λA' hA'=>?_⟩
  obtain⟨g5,f5⟩:=p5 A' hA'
  have hsA:=fA.size
  exact⟨_,_,_,_,_,_,_,_,_,_,box_row g5,hR _ _ ⟨k,c,bb,rfl,hk,hkc,(e13.fr_trans fA (λi hi=>by simp at hi;omega)).fr_trans f5 (λi hi=>by simp at hi;omega)⟩⟩
 by_cases q1:w=12
 ·rw[if_pos q1]
  obtain⟨c4,p4⟩:=box_put g3 0 (.int .i64 1) (by show 0<6;omega)
  rw[show(Addr.mk b2 0 none).add 0=Addr.mk b2 0 none from rfl]at c4 p4
  refine⟨c4,λH4 hH4=>?_⟩
  obtain⟨g4,f4⟩:=p4 H4 hH4
  exact fin 1 0 true H4 g4 f4 (by subst q1;rfl) (by decide)
 rw[if_neg q1]
 by_cases q2:w=4
 ·rw[if_pos q2]
  obtain⟨c4,p4⟩:=box_put g3 0 (.int .i64 2) (by show 0<6;omega)
  rw[show(Addr.mk b2 0 none).add 0=Addr.mk b2 0 none from rfl]at c4 p4
  refine⟨c4,λH4 hH4=>?_⟩
  obtain⟨g4,f4⟩:=p4 H4 hH4
  exact fin 2 0 true H4 g4 f4 (by subst q2;rfl) (by decide)
 rw[if_neg q2]
 by_cases q9:w=36
 ·rw[if_pos q9]
  obtain⟨c4,p4⟩:=box_put g3 0 (.int .i64 9) (by show 0<6;omega)
  rw[show(Addr.mk b2 0 none).add 0=Addr.mk b2 0 none from rfl]at c4 p4
  refine⟨c4,λH4 hH4=>?_⟩
  obtain⟨g4,f4⟩:=p4 H4 hH4
  exact fin 9 0 true H4 g4 f4 (by subst q9;rfl) (by decide)
 rw[if_neg q9]
 by_cases q10:w=28
 ·rw[if_pos q10]
  obtain⟨c4,p4⟩:=box_put g3 0 (.int .i64 10) (by show 0<6;omega)
  rw[show(Addr.mk b2 0 none).add 0=Addr.mk b2 0 none from rfl]at c4 p4
  refine⟨c4,λH4 hH4=>?_⟩
  obtain⟨g4,f4⟩:=p4 H4 hH4
  exact fin 10 0 true H4 g4 f4 (by subst q10;rfl) (by decide)
 rw[if_neg q10]
 by_cases q0:w=20
 ·rw[if_pos q0]
  exact fin 0 0 true H3 g3 (Fr.refl _ _) (by subst q0;rfl) (by decide)
 rw[if_neg q0]
 have hc:constD w=if w % 8=4/\w / 8 % 32=7/\letterB (w / 256)=true then some (.mk 3 (w / 256) false [] tE [])else none:=by
  unfold constD;rw[if_neg q1,if_neg q2,if_neg q9,if_neg q10,if_neg q0]
 refine HC.mono (word_Rune_c hw) ?_
 rintro _ H13 ⟨rfl,e13'⟩
 by_cases h:w % 8=4/\w / 8 % 32=7/\letterB (w / 256)=true
 ·rw[if_pos h]at hc⊢
  refine⟨_,_,rfl,?_⟩
  rw[if_pos rfl]
  have hlt:w / 256<=1114111:=by
   have:=h.2.2
   unfold letterB at this
   simp at this
   omega
  obtain⟨c4,p4⟩:=box_put (e13'.get g3) 0 (.int .i64 3) (by show 0<6;omega)
  rw[show(Addr.mk b2 0 none).add 0=Addr.mk b2 0 none from rfl]at c4 p4
  refine⟨c4,λH4 hH4=>?_⟩
  obtain⟨g4,f4⟩:=p4 H4 hH4
  obtain⟨c5,p5⟩:=box_put g4 1 (.int .i32 (w / 256)) (by show 1<6;omega)
  refine⟨c5,λH5 hH5=>?_⟩
  obtain⟨g5,f5⟩:=p5 H5 hH5
  exact fin 3 (w / 256) true H5 g5 ((e13'.fr (S:=[b2])).trans (f4.trans f5)) (by rw[if_pos rfl];exact hc) ⟨by decide,by omega,by omega⟩
 ·rw[if_neg h]at hc⊢
  refine⟨_,_,rfl,?_⟩
  rw[if_neg (by decide)]
  exact fin 0 0 false H13 (e13'.get g3) e13'.fr (by rw[if_neg (by decide)];exact hc) (by decide)
theorem reader_one_c{H:Array Obj}{rb:Nat}{n:Int}{p:Value}{T:TypeId}(g:H[rb]?=some (.cells #[p,.int .i64 n] T (0,0)))(hn:0<=n/\n<=4096):
  build_reader_one.C (some ⟨rb,0,none⟩) H (λv H'=>v=.int .i64 (if 4096<n+1 then 6 else 0)/\H'[rb]?=some (.cells #[p,.int .i64 (n+1)] T (0,0))/\Fr [rb] H H'):=by
 refine HC.via λR hR=>build_reader_one.link ?_
 unfold build_reader_one.pt
 refine⟨_,rfl,_,by rw[box_get g];rfl,?_⟩
 obtain⟨c1,p1⟩:=box_put g 1 (.int .i64 (n+1)) (by show 1<2;omega)
 rw[w64 (by omega)]
 refine⟨c1,λH1 hH1=>?_⟩
 obtain⟨g1,f1⟩:=p1 H1 hH1
 refine⟨_,by rw[box_get g1];rfl,?_⟩
 by_cases h:n+1>4096
 ·rw[if_pos h];exact hR _ _ ⟨by rw[if_pos (by omega)],g1,f1⟩
 ·rw[if_neg h];exact hR _ _ ⟨by rw[if_neg (by omega)],g1,f1⟩
def RdPost(H:Array Obj)(rb:Nat)(k:Blk)(T:TypeId)(r:RdOut)(v:Value)(H':Array Obj):Prop:=
 ∃(u:Dv),v=.tuple #[.agg u.cells.toArray,.int .i64 r.1]/\Fr [rb] H H'/\(r.1=0->H'[rb]?=some (.cells #[.pointer (some ⟨k.h,0,none⟩),.int .i64 r.2.2] T (0,0))/\DatAt (Yng H H') H' u r.2.1)
def DatumC(f:Nat):Prop:= ∀{H0 H:Array Obj} {k:Blk} {x:Hp} {rb:Nat} {n w deep:Int} {T:TypeId} (L:Live H0 H k x) (g:H[rb]?=some (.cells #[.pointer (some ⟨k.h,0,none⟩),.int .i64 n] T (0,0))) (hrb:rb ∉ k.all) (hrb0:H0.size<=rb) (hw:IsWord w) (hn:0<=n/\n<=4096) (hf:4097-n<=f) (hd:0<=deep/\deep<=64),
  build_reader_datum.C (some ⟨rb,0,none⟩) w deep H (RdPost H rb k T (readG (viewM x.sp.mem) f n w deep))
theorem hat_box0{v:Value}{H:Array Obj}{b:Nat}{cs:Array Value}{T:TypeId}{fz:Nat×Nat}(g:H[b]?=some (.cells cs T fz))(h:cs[0]?=some v):hat H ⟨b,0,none⟩=some v:=by rw[hat_blk g];exact h
theorem reader_vector_c{f:Nat}(ih:DatumC f){H0 H:Array Obj}{k:Blk}{x:Hp}{rb:Nat}{n w deep:Int}{T:TypeId}(L:Live H0 H k x)(g:H[rb]?=some (.cells #[.pointer (some ⟨k.h,0,none⟩),.int .i64 n] T (0,0)))(hrb:rb ∉ k.all)(hrb0:H0.size<=rb)(hw:IsWord w)(hn:0<=n/\n<=4096)(hf:4097-n<=f)(hd:0<=deep/\deep<=64)(ht:x.sp.mem.typ w=1):
  build_reader_vector.C (some ⟨rb,0,none⟩) w deep H (RdPost H rb k T (if deep=64 then(10,zD,0)else vecG (λn w=>readG (viewM x.sp.mem) f n w (deep+1)) n (x.sp.mem.objWords w) [])):=by
 refine HC.via λR hR=>build_reader_vector.link ?_
 unfold build_reader_vector.pt
 generalize hr:(if deep=64 then((10,zD,0):RdOut)else vecG (λn w=>readG (viewM x.sp.mem) f n w (deep+1)) n (x.sp.mem.objWords w) [])=r at hR
 intro b H1 hb hH1 b2 H2 hb2 hH2
 have e1:=Ext.push' hH1
 have g1:=push_get hb hH1
 obtain⟨s3,p3⟩:=box_new (vs:=(vecV none 0 0).cells) hb2 hH2 rfl rfl
 refine⟨s3,λH3 hH3=>?_⟩
 obtain⟨g3,e3⟩:=p3 H3 hH3
 have gb3:=e3.get g1
 have hb1:=lt_size g1
 have hb3:=lt_size g3
 have e13:=e1.trans e3
 have hrl:=lt_size g
 have hs1:=e1.size
 have hs3:=e3.size
 have fin: ∀(u:Dv) (A:Array Obj),A[b2]?=some (.cells u.cells.toArray 51 (0,0))->A[b]?=some (.cells (leafV 0 0).cells.toArray 51 (0,0))->Fr [rb] H A->(r.1=0->A[rb]?=some (.cells #[.pointer (some ⟨k.h,0,none⟩),.int .i64 r.2.2] T (0,0))/\DatAt (λj=>H3.size<=j/\j<A.size) A u r.2.1)->
   ∃xK:Int,∃xC:Int,∃xN:Bool,∃xB:Option Addr,∃xM:Nat,∃xD:Nat,∃xT:ByteArray,∃xE:Option Addr,∃xF:Nat,∃xG:Nat,RowAt A (Addr.mk b2 0 none) 0 [.int .i64 xK,.int .i32 xC,.bool xN,.slice xB xM xD,.string xT,.slice xE xF xG]/\
    (CanPuts A (Addr.mk b 0 none) 0 6)/\ ∀A':Array Obj,A'=hputs A (Addr.mk b 0 none) [.int .i64 xK,.int .i32 xC,.bool xN,.slice xB xM xD,.string xT,.slice xE xF xG] 0->
    ∃rK:Int,∃rC:Int,∃rN:Bool,∃rB:Option Addr,∃rM:Nat,∃rD:Nat,∃rT:ByteArray,∃rE:Option Addr,∃rF:Nat,∃rG:Nat,RowAt A' (Addr.mk b 0 none) 0 [.int .i64 rK,.int .i32 rC,.bool rN,.slice rB rM rD,.string rT,.slice rE rF rG]/\
    R (.tuple #[.agg #[.int .i64 rK,.int .i32 rC,.bool rN,.slice rB rM rD,.string rT,.slice rE rF rG],.int .i64 r.1]) A':=λu A gA gbA fA hok=>by
  refine⟨_,_,_,_,_,_,_,_,_,_,box_row gA,?_⟩
  obtain⟨s5,p5⟩:=box_set (vs:=u.cells) gbA rfl rfl
  refine⟨s5,λA' hA'=>?_⟩
  obtain⟨g5,f5⟩:=p5 A' hA'
  refine⟨_,_,_,_,_,_,_,_,_,_,box_row g5,hR _ _ ⟨u,rfl,fA.trans' f5 (λi hi _=>hi) (λi hi _=>by simp at hi;omega),λhz=>?_⟩⟩
  obtain⟨o1,o2⟩:=hok hz
  have hsA:=f5.size
  exact⟨f5.get (by simp;omega) o1,o2.keep f5 (λi hi hp=>by simp at hi;omega) (λj hj=>⟨by omega,by omega⟩)⟩
 by_cases h64:deep=64
 ·rw[if_pos h64]at hr⊢
  subst hr
  exact fin (vecV none 0 0) H3 g3 gb3 e13.fr (λh=>absurd h (by decide))
 rw[if_neg h64]at hr⊢
 refine⟨_,rfl,_,hat_box0 (e13.get g) rfl,?_⟩
 refine HC.mono (obj_Len_c (L.grow e13).view hw) ?_
 rintro _ H5 ⟨rfl,e5⟩
 refine⟨_,rfl,?_⟩
 have e15:=e13.trans e5
 rw[show(mof (some (k,x)))=x.sp.mem from rfl]
 have hob:=(typ_tag (m:=x.sp.mem) (w:=w) (by omega)).1
 have hlen:x.sp.mem.len w=((x.sp.mem.objWords w).length:Int):=by
  rw[Mem.objWords_len]
  have:=hob.len_lt
  unfold Mem.len
  rw[if_pos hob]
  omega
 rw[hlen]
 have hwd:=L.view.objWord w
 rw[show(mof (some (k,x)))=x.sp.mem from rfl]at hwd
 have hw62:(x.sp.mem.objWords w).length<=62:=by
  have:=hob.len_lt
  unfold Mem.len at hlen
  rw[if_pos hob]at hlen
  omega
 have hgw: ∀(i:Nat) (hi:i< (x.sp.mem.objWords w).length),(if x.sp.mem.fieldE w 1 (i:Int)=0 then x.sp.mem.get (w / 8+1+(i:Int))else 0)=(x.sp.mem.objWords w)[i]:=λi hi=>by
  rw[if_pos (by unfold Mem.fieldE;rw[if_neg (by rw[ht];simp[hob]),if_neg (by rw[hlen];omega)]),Mem.objWords_get]
 generalize hws:x.sp.mem.objWords w=ws at hr hlen hwd hw62 hgw⊢
 have hs5:=e5.size
 refine⟨λs A=> ∃(us:List Dv) (ds:List Dt) (B:Option Addr) (c:Nat) (n1:Int),s=us.length/\us.length<=ws.length/\(Fr [rb] H A/\H5.size<=A.size)/\A[b]?=some (.cells (leafV 0 0).cells.toArray 51 (0,0))/\A[b2]?=some (.cells (vecV B us.length c).cells.toArray 51 (0,0))/\RowD H3.size A B us.length c us ds/\
   A[rb]?=some (.cells #[.pointer (some ⟨k.h,0,none⟩),.int .i64 n1] T (0,0))/\(n<=n1/\n1<=4096)/\vecG (λn w=>readG (viewM x.sp.mem) f n w (deep+1)) n1 (ws.drop us.length) ds=r,λs _=>(ws.length-s).toNat,
  ⟨[],[],none,0,n,rfl,Nat.zero_le _,⟨e15.fr,Nat.le_refl _⟩,e5.get gb3,e5.get g3,RowD.nil,e15.get g,⟨Int.le_refl _,hn.2⟩,hr⟩,?_⟩
 rintro s A ⟨us,ds,B,c,n1,rfl,hul,⟨fA,hA5⟩,gbA,g2A,hrow,gA,hn1,hrr⟩
 have hsA:=fA.size
 have LA:Live H0 A k x:=L.keep fA (λi hi=>by simp at hi;omega) (λi hi=>by simp at hi;subst hi;exact hrb)
 by_cases hlt:(us.length:Int)< (ws.length:Int)
 ·rw[if_pos hlt]
  have hlt':us.length<ws.length:=by omega
  rw[List.drop_eq_getElem_cons hlt']at hrr
  unfold vecG at hrr
  refine⟨_,hat_box0 gA rfl,?_⟩
  refine HC.mono (obj_Get_c LA.view hw (by constructor<;>omega)) ?_
  rintro _ H7 ⟨rfl,e7⟩
  refine⟨_,_,rfl,?_⟩
  rw[show(mof (some (k,x)))=x.sp.mem from rfl,hgw _ hlt',w64 (n:=deep+1) (by omega)]
  refine HC.mono (ih (LA.grow e7) (e7.get gA) hrb hrb0 (hwd _ (List.getElem_mem hlt')) (by omega) (by omega) (by omega)) ?_
  rintro _ H8 ⟨u,rfl,f8,hok⟩
  refine⟨_,_,_,_,_,_,_,_,_,_,_,rfl,λb3 H9 hb3' hH9=>?_⟩
  obtain⟨s10,p10⟩:=box_new (vs:=u.cells) hb3' hH9 rfl rfl
  refine⟨s10,λH10 hH10=>?_⟩
  obtain⟨g10,e10⟩:=p10 H10 hH10
  have hbA:=lt_size gbA
  have hb2A:=lt_size g2A
  have f810:Fr [rb] A H10:=((e7.fr (S:=[rb])).trans f8).trans e10.fr
  have f10:Fr [rb] H H10:=fA.trans f810
  have gb10:=f810.get (by simp;omega) gbA
  have g210:=f810.get (by simp;omega) g2A
  have hs7:=e7.size
  have hs8:=f8.size
  have hs10:=e10.size
  by_cases hz:(readG (viewM x.sp.mem) f n1 ws[us.length] (deep+1)).1=0
  ·rw[if_pos hz]
   rw[if_pos hz]at hrr
   obtain⟨g8,D8⟩:=hok hz
   have hbd:=readG_bd (viewM x.sp.mem) (λw e h=>viewM_bad h) f n1 ws[us.length] (deep+1) hz
   refine⟨B,us.length,c,by rw[box_get g210];rfl,_,_,_,_,_,_,_,_,_,_,box_row g10,λb4 H11 hb4 hH11=>?_⟩
   have e11:=Ext.push' hH11
   have hs11:=e11.size
   have hrow11:RowD H3.size H11 B us.length c us ds:=(hrow.keep f810 (λi hi=>by simp at hi;omega)).ext e11
   have hB7: ∀i∈blks B,H3.size<=i/\i<A.size:=λi hi=>⟨hrow.row i hi,hrow.own.lt i hi⟩
   refine own_append (ys:=u.cells) hrow11.own (rowAt_blk (push_get hb4 hH11) _ 0 0 (λj hj=>by simp)) rfl (by rfl) rfl (by have h62:=hw62;omega) ?_
   intro p' c' H12 ho12 f12 hnew
   have hs12:=f12.size
   have g212:=f12.get (λhi=>by have:=hB7 _ hi;omega) (e11.get g210)
   obtain⟨c13,p13⟩:=box_put g212 5 (.slice p' (us.length+1) c') (by show 5<6;omega)
   refine⟨c13,λH13 hH13=>?_⟩
   obtain⟨g13,f13⟩:=p13 H13 hH13
   have hs13:=f13.size
   have D11:DatAt (λj=>H7.size<=j/\j<H11.size) H11 u _:=D8.keep (S:=[]) (e10.trans e11).fr (by simp) (λj hj=>⟨hj.1,by have:=hj.2;omega⟩)
   have h3le:H3.size<=H7.size:=by omega
   have hrow12:=hrow11.push f12 ho12 hnew (by omega) D11 h3le (λi hi=>by have:=hB7 i hi;omega)
   have hrow13:=hrow12.keep f13 (λi hi=>by simp at hi;omega)
   have f1013: ∀{i:Nat},i<A.size->i ∉ blks B->i≠b2-> ∀{o:Obj},H10[i]?=some o->H13[i]?=some o:=λh1 h2 h3 o ho=>f13.get (by simp;omega) (f12.get h2 (e11.get ho))
   refine⟨⟨us++[u],ds++[_],p',c',_,by rw[w64 (by omega)];simp,by simp;omega,?_,?_,?_,by simpa using hrow13,?_,?_,by simpa using hrr⟩,by rw[w64 (by omega)];show((ws.length:Int)-((us.length:Int)+1)).toNat< ((ws.length:Int)-(us.length:Int)).toNat;omega⟩
   ·exact⟨((f10.trans e11.fr).trans' f12 (λi hi _=>hi) (λi hi hl=>by have:=hB7 i hi;omega)).trans' f13 (λi hi _=>hi) (λi hi hl=>by simp at hi;omega),by omega⟩
   ·exact f1013 hbA (λhi=>by have:=hB7 _ hi;omega) (by omega) gb10
   ·rw[show(us++[u]).length=us.length+1 by simp];exact g13
   ·exact f1013 (by omega) (λhi=>by have:=hB7 _ hi;omega) (by omega) (e10.get g8)
   ·omega
  ·rw[if_neg hz]
   rw[if_neg hz]at hrr
   subst hrr
   exact fin (vecV B us.length c) H10 g210 gb10 f10 (λh=>absurd h hz)
 ·rw[if_neg hlt]
  rw[List.drop_eq_nil_of_le (by omega)]at hrr
  unfold vecG at hrr
  subst hrr
  exact fin (vecV B us.length c) A g2A gbA fA (λ_=>⟨gA,hrow.vec (by omega)⟩)
end Go.Proofs.YtibpklpgmgakcaaGreatDoor

namespace Go.Proofs.YtibpklpgmgakcaaGreatDoor
open Go

theorem constD_obj{m:Mem}{w:Int}(h:m.isObj w):constD w=none:=by
 cases hc:constD w with
 | none=>rfl
 | some d=>have:=constD_tag hc;have:=h.1.2.1;omega
theorem numW_typ{m:Mem}{w:Int}(h:m.isObj w)(ht:m.typ w≠3):(numW m w).2.2=3:=by
 unfold numW
 rw[if_neg (by have:=h.1.2.1;omega),if_neg (λhh=>ht hh.2)]
theorem built_view{Q:Int->Prop}{m:Mem}{syl:List Int}{w:Int}{d:Dt}(h:Built Q m syl w d):
  (d.kind=7-> ∃x y a b,d=pairD x y/\viewM m w=.pair a b/\Built Q m syl a x/\Built Q m syl b y)/\
  (d.kind=8-> ∃ws l,d=.mk 8 0 false [] tE l/\viewM m w=.vec ws/\ws.length=l.length/\ ∀(i:Nat) (h1:i<ws.length) (h2:i<l.length),Built Q m syl ws[i] l[i])/\
  (d.kind≠7->d.kind≠8->viewM m w=.leaf d):=by
 cases h with
 | @con w k h=>
  have hk:k=0\/k=1\/k=2\/k=9\/k=10:=by
   unfold conW at h
   by_cases h1:k=0
   ·omega
   rw[if_neg h1]at h
   by_cases h2:k=1
   ·omega
   rw[if_neg h2]at h
   by_cases h3:k=2
   ·omega
   rw[if_neg h3]at h
   by_cases h4:k=9
   ·omega
   rw[if_neg h4]at h
   by_cases h5:k=10
   ·omega
   rw[if_neg h5]at h;cases h
  refine⟨λe=>?_,λe=>?_,λ_ _=>?_⟩
  ·have e:k=7:=e;omega
  ·have e:k=8:=e;omega
  ·have hc:constD w=some (.mk k 0 false [] tE []):=by
    rcases hk with rfl | rfl | rfl | rfl | rfl<;>(simp[conW]at h;subst h;rfl)
   unfold viewM;rw[hc]
 | @chr c h=>
  refine⟨λe=>absurd (show(3:Int)=7 from e) (by decide),λe=>absurd (show(3:Int)=8 from e) (by decide),λ_ _=>?_⟩
  have hb:=charB_bd h
  have hl:letterB ((c*256+60) / 256)=true:=by
   rw[show(c*256+60) / 256=c by omega]
   have hp:(0<=c/\c<=1114111)/\(c<55296\/57343<c):=by simpa[charB]using h
   unfold letterB;simp;omega
  have hc:constD (c*256+60)=some (.mk 3 c false [] tE []):=by
   unfold constD
   rw[if_neg (by omega),if_neg (by omega),if_neg (by omega),if_neg (by omega),if_neg (by omega),if_pos ⟨by omega,by omega,hl⟩,show(c*256+60) / 256=c by omega]
  unfold viewM;rw[hc]
 | @num w neg mag h hm hl=>
  refine⟨λe=>absurd (show(4:Int)=7 from e) (by decide),λe=>absurd (show(4:Int)=8 from e) (by decide),λ_ _=>?_⟩
  rcases h with⟨h1,h2,h3,h4⟩ | h
  ·have hc:constD w=none:=by
    cases hc:constD w with
    | none=>rfl
    | some d=>have:=constD_tag hc;omega
   have hn:numW m w=(neg,mag,0):=by unfold numW;rw[if_pos h1,h3,h4]
   unfold viewM
   rw[hc]
   simp only
   rw[if_pos (by rw[hn]),hn]
  ·have hmap:(m.objWords w).map (· % 4294967296)=mag:=by
    rw[h.words]
    refine List.ext_getElem (by simp) λi h1 h2=>?_
    rw[List.getElem_map]
    have:=hl _ (List.getElem_mem h2)
    unfold IsLimb at this
    omega
   have hmo:(m.more w==1)=neg/\ ¬m.more w>1:=by
    rw[h.more']
    cases neg
    ·rw[if_neg (by decide)];decide
    ·rw[if_pos rfl];decide
   have hn:numW m w=(neg,mag,0):=by
    unfold numW
    rw[if_neg (by have:=h.obj.1.2.1;omega),if_pos ⟨h.obj,h.typ⟩,hmap,hmo.1,if_pos ⟨hm,hmo.2⟩]
   unfold viewM
   rw[constD_obj h.obj]
   simp only
   rw[if_pos (by rw[hn]),hn]
 | @str w t h ht=>
  refine⟨λe=>absurd (show(5:Int)=7 from e) (by decide),λe=>absurd (show(5:Int)=8 from e) (by decide),λ_ _=>?_⟩
  unfold viewM
  rw[constD_obj h.obj]
  simp only
  rw[if_neg (by rw[numW_typ h.obj (by rw[h.typ];decide)];decide),if_pos h.typ,h.words,text_back ht]
 | @sym w t h hs ht=>
  refine⟨λe=>absurd (show(6:Int)=7 from e) (by decide),λe=>absurd (show(6:Int)=8 from e) (by decide),λ_ _=>?_⟩
  have hn:=nameR_sym hs ht
  obtain⟨s,h1,h2⟩:=hs
  unfold viewM
  rw[constD_obj h1.obj]
  simp only
  rw[if_neg (by rw[numW_typ h1.obj (by rw[h1.typ];decide)];decide),if_neg (by rw[h1.typ];decide),if_pos h1.typ,hn,if_pos rfl]
 | @vec w ws l h hl each=>
  refine⟨λe=>absurd (show(8:Int)=7 from e) (by decide),λ_=>⟨ws,l,rfl,?_,hl,each⟩,λ_ e=>absurd rfl e⟩
  unfold viewM
  rw[constD_obj h.obj]
  simp only
  rw[if_neg (by rw[numW_typ h.obj (by rw[h.typ];decide)];decide),if_neg (by rw[h.typ];decide),if_neg (by rw[h.typ];decide),if_pos h.typ,h.words]
 | @pair w a b x y h hq ha hb=>
  refine⟨λ_=>⟨x,y,a,b,rfl,?_,ha,hb⟩,λe=>absurd (show(7:Int)=8 from e) (by decide),λe=>absurd rfl e⟩
  rw[viewM_parts (viewM_pair.2 ⟨h.at'.2.1,h.isPair⟩),if_pos h.half.1,if_pos h.half.2,h.cdr]
  congr 1
  have:=h.car
  simpa using this
theorem depth_pair(x y:Dt):depthD x+1<=depthD (pairD x y)/\(y.kind≠7->depthD y+1<=depthD (pairD x y))/\depthD y<=depthD (pairD x y):=by
 have e:depthD (pairD x y)=mx (mx 0 (innD 7 x [y])) (innD 7 y []):=rfl
 have h1:innD 7 x [y]=depthD x+1:=by unfold innD;rw[if_neg (by simp)]
 have h2:=le_mx (mx 0 (innD 7 x [y])) (innD 7 y [])
 have h3:=le_mx 0 (innD 7 x [y])
 rw[e]
 refine⟨by omega,λhy=>?_,?_⟩
 ·have:innD 7 y []=depthD y+1:=by unfold innD;rw[if_neg (λh=>hy h.2.2)]
  omega
 ·have:depthD y<=innD 7 y []:=by unfold innD;split<;>omega
  omega
theorem depth_vec(l:List Dt):1<=depthD (.mk 8 0 false [] tE l)/\ ∀x∈l,depthD x+1<=depthD (.mk 8 0 false [] tE l):=by
 have e:depthD (.mk 8 0 false [] tE l)=depthL 8 l 1:=rfl
 have key: ∀(l:List Dt) (n:Int),n<=depthL 8 l n/\ ∀x∈l,depthD x+1<=depthL 8 l n:=by
  intro l
  induction l with
  | nil=>intro n;exact⟨Int.le_refl _,by simp⟩
  | cons y r ih=>
   intro n
   rw[depthL_cons]
   have h1:=ih (mx n (innD 8 y r))
   have h2:=le_mx n (innD 8 y r)
   have h3:innD 8 y r=depthD y+1:=by unfold innD;rw[if_neg (by simp)]
   refine⟨by omega,λx hx=>?_⟩
   rcases List.mem_cons.1 hx with rfl | hx
   ·omega
   ·exact h1.2 x hx
 rw[e]
 exact key l 1
theorem vecG_built{rd:Int->Int->RdOut}: ∀(l:List Dt) (ws:List Int) (n:Int) (acc:List Dt),ws.length=l.length->n+countL l<=4096->
  (∀(i:Nat) (h1:i<ws.length) (h2:i<l.length) (n:Int),n+countD l[i]<=4096->rd n ws[i]=(0,l[i],n+countD l[i]))->vecG rd n ws acc=(0,.mk 8 0 false [] tE (acc++l),n+countL l)
 | [],[],n,acc,_,_,_=>by simp[vecG,countL]
 | x::l,w::ws,n,acc,hl,hn,h=>by
  simp only[countL]at hn
  have h2:=(countL_pos l).1
  have h0:=h 0 (by simp) (by simp) n (by simp;omega)
  simp only[List.getElem_cons_zero]at h0
  unfold vecG
  rw[h0,if_pos rfl]
  rw[vecG_built l ws (n+countD x) (acc++[x]) (by simpa using hl) (by omega) (λi h1 h2 n hn=>by
   have:=h (i+1) (by simp;omega) (by simp;omega) n (by simpa using hn)
   simpa using this)]
  simp only[countL,List.append_assoc,List.singleton_append]
  congr 2
  omega
theorem consD_snoc(acc:List Dt)(x y:Dt):consD (acc++[x]) y=consD acc (pairD x y):=by unfold consD;rw[List.foldr_append];rfl
theorem readG_built{Q:Int->Prop}{m:Mem}{syl:List Int}(N:Nat): ∀(d:Dt) (w:Int),countD d<=N->Built Q m syl w d-> ∀(f:Nat) (n deep:Int),countD d<=f->n+countD d<=4096->deep+depthD d<=64->
  readG (viewM m) f n w deep=(0,d,n+countD d):=by
 induction N with
 | zero=>intro d w h;have:=countD_pos d;omega
 | succ N ih=>
 intro d w hN hB f n deep hf hn hd
 have hp:=countD_pos d
 obtain⟨f,rfl⟩: ∃f',f=f'+1:=⟨f-1,by omega⟩
 obtain⟨v7,v8,vl⟩:=built_view hB
 unfold readG
 rw[if_neg (by omega)]
 by_cases h7:d.kind=7
 ·obtain⟨x,y,a,b,hdd,hv,hx,hy⟩:=v7 h7
  rw[hv]
  simp only
  have hdp:0<=depthD x:=(depthD_of x).1
  have hdq:=depth_pair x y
  rw[<-hdd]at hdq
  rw[if_neg (by omega)]
  have chain: ∀(M:Nat) (f1:Nat) (n:Int) (w:Int) (x y:Dt) (a b:Int) (acc:List Dt),countD (pairD x y)<=M->countD (pairD x y)<=N+1->viewM m w=.pair a b->Built Q m syl a x->Built Q m syl b y->countD (pairD x y)<=f1+1->countD (pairD x y)<=f+1->n+countD (pairD x y)-1<=4096->deep+depthD (pairD x y)<=64->
    chainG (λn w=>readG (viewM m) f n w (deep+1)) (viewM m) f1 n w acc=(0,consD acc (pairD x y),n+countD (pairD x y)-1):=by
   intro M
   induction M with
   | zero=>intro f1 n w x y a b acc h;have:=countD_pos (pairD x y);omega
   | succ M ihM=>
   intro f1 n w x y a b acc hM hN1 hv hx hy hf1 hff hn hd
   rw[countD_pair]at*
   have px:=countD_pos x
   have py:=countD_pos y
   obtain⟨f1,rfl⟩: ∃f',f1=f'+1:=⟨f1-1,by omega⟩
   have hdq:=depth_pair x y
   unfold chainG
   rw[hv]
   simp only[NodeV.car,NodeV.cdr]
   have hrx:readG (viewM m) f n a (deep+1)=(0,x,n+countD x):=ih x a (by omega) hx f n (deep+1) (by omega) (by omega) (by omega)
   simp only[hrx]
   rw[if_pos trivial]
   obtain⟨u7,u8,ul⟩:=built_view hy
   by_cases hy7:y.kind=7
   ·obtain⟨x2,y2,a2,b2,hyy,hv2,hx2,hy2⟩:=u7 hy7
    rw[hv2,if_pos (show(NodeV.pair a2 b2).isP=true from rfl),if_neg (by omega)]
    have hc2:countD y=countD (pairD x2 y2):=by rw[<-hyy]
    have hd2:depthD y=depthD (pairD x2 y2):=by rw[<-hyy]
    rw[ihM f1 (n+countD x+1) b x2 y2 a2 b2 (acc++[x]) (by omega) (by omega) hv2 hx2 hy2 (by omega) (by omega) (by omega) (by omega),consD_snoc,<-hyy]
    congr 2
    omega
   ·have hnp: ¬(viewM m b).isP=true:=by
     by_cases h8:y.kind=8
     ·obtain⟨ws,l,_,hv2,_⟩:=u8 h8;rw[hv2];simp[NodeV.isP]
     ·rw[ul hy7 h8];simp[NodeV.isP]
    rw[if_neg hnp]
    have hry:readG (viewM m) f (n+countD x) b (deep+1)=(0,y,n+countD x+countD y):=ih y b (by omega) hy f _ (deep+1) (by omega) (by omega) (by have:=hdq.2.1 hy7;omega)
    simp only[hry]
    rw[if_pos trivial,consD_snoc]
    congr 2
    omega
  have hcd:countD d=countD (pairD x y):=by rw[hdd]
  have hdd2:depthD d=depthD (pairD x y):=by rw[hdd]
  rw[hcd]at hN hf hn
  rw[hdd2]at hd
  have hcp:=countD_pair x y
  have px:=countD_pos x
  have py:=countD_pos y
  rw[hdd,chain (countD (pairD x y)).toNat f (n+1) w x y a b [] (by omega) (by omega) hv hx hy (by omega) (by omega) (by omega) hd]
  show((0:Int),pairD x y,_)=_
  congr 2
  omega
 by_cases h8:d.kind=8
 ·obtain⟨ws,l,hdd,hv,hl,each⟩:=v8 h8
  rw[hv]
  simp only
  have hdv:=depth_vec l
  rw[<-hdd]at hdv
  have hc:countD d=1+countL l:=by rw[hdd];rfl
  rw[if_neg (by omega)]
  rw[vecG_built l ws (n+1) [] hl (by omega) (λi h1 h2 n' hn'=>by
   have hm:=countL_mem (List.getElem_mem h2)
   have hdm:=hdv.2 _ (List.getElem_mem h2)
   exact ih l[i] ws[i] (by omega) (each i h1 h2) f n' (deep+1) (by omega) hn' (by omega))]
  rw[hc,hdd]
  simp only[List.nil_append]
  congr 2
  omega
 ·rw[vl h7 h8]
  have hc:countD d=1:=by
   cases hB with
   | con _=>rfl
   | chr _=>rfl
   | num _ _ _=>rfl
   | str _ _=>rfl
   | sym _ _ _=>rfl
   | vec _ _ _=>exact absurd rfl h8
   | pair _ _ _ _=>exact absurd rfl h7
  rw[hc]
theorem datum_built{Q:Int->Prop}{m:Mem}{syl:List Int}{d:Dt}{w:Int}(h:Built Q m syl w d)(hc:countD d<=4096)(hd:depthD d<=64):readG (viewM m) 4097 0 w 0=(0,d,countD d):=by
 have:=readG_built (countD d).toNat d w (by omega) h 4097 0 0 (by omega) (by omega) (by omega)
 rw[Int.zero_add]at this;exact this
end Go.Proofs.YtibpklpgmgakcaaGreatDoor

namespace Go.Proofs.YtibpklpgmgakcaaGreatDoor
open Go

theorem half_word{m:Mem}{w i:Int}(hm: ∀a,IsWord (m.get a))(j:Int):IsWord (if m.halfE w i=0 then m.get j else 0):=by
 split
 ·exact hm _
 ·exact⟨by decide,by decide⟩
set_option maxRecDepth 20000 in
theorem reader_pairs_c{f:Nat}(ih:DatumC f){H0 H:Array Obj}{k:Blk}{x:Hp}{rb:Nat}{n w deep:Int}{T:TypeId}(L:Live H0 H k x)(g:H[rb]?=some (.cells #[.pointer (some ⟨k.h,0,none⟩),.int .i64 n] T (0,0)))(hrb:rb ∉ k.all)(hrb0:H0.size<=rb)(hw:IsWord w)(hn:0<=n/\n<=4096)(hf:4097-n<=f)(hd:0<=deep/\deep<=64)(hp:(viewM x.sp.mem w).isP=true):
  build_reader_pairs.C (some ⟨rb,0,none⟩) w deep H (RdPost H rb k T (if deep=64 then(10,zD,0)else chainG (λn w=>readG (viewM x.sp.mem) f n w (deep+1)) (viewM x.sp.mem) f n w [])):=by
 refine HC.via λR hR=>build_reader_pairs.link ?_
 unfold build_reader_pairs.pt
 generalize hr:(if deep=64 then((10,zD,0):RdOut)else chainG (λn w=>readG (viewM x.sp.mem) f n w (deep+1)) (viewM x.sp.mem) f n w [])=r at hR
 intro b H1 hb hH1
 have e1:=Ext.push' hH1
 have g1:=push_get hb hH1
 have hb1:=lt_size g1
 have hrl:=lt_size g
 have hs1:=e1.size
 have hmw: ∀a,IsWord (x.sp.mem.get a):=λa=>L.view.word a
 have fin: ∀(u:Dv) (er:Int) (A:Array Obj),A[b]?=some (.cells (leafV 0 0).cells.toArray 51 (0,0))->Fr [rb] H A->er=r.1->(r.1=0->A[rb]?=some (.cells #[.pointer (some ⟨k.h,0,none⟩),.int .i64 r.2.2] T (0,0))/\DatAt (λj=>H1.size<=j/\j<A.size) A u r.2.1)->
   (CanPuts A (Addr.mk b 0 none) 0 6)/\ ∀A':Array Obj,A'=hputs A (Addr.mk b 0 none) u.cells 0->
    ∃rK:Int,∃rC:Int,∃rN:Bool,∃rB:Option Addr,∃rM:Nat,∃rD:Nat,∃rT:ByteArray,∃rE:Option Addr,∃rF:Nat,∃rG:Nat,RowAt A' (Addr.mk b 0 none) 0 [.int .i64 rK,.int .i32 rC,.bool rN,.slice rB rM rD,.string rT,.slice rE rF rG]/\
    R (.tuple #[.agg #[.int .i64 rK,.int .i32 rC,.bool rN,.slice rB rM rD,.string rT,.slice rE rF rG],.int .i64 er]) A':=λu er A gbA fA her hok=>by
  subst her
  obtain⟨s5,p5⟩:=box_set (vs:=u.cells) gbA rfl rfl
  refine⟨s5,λA' hA'=>?_⟩
  obtain⟨g5,f5⟩:=p5 A' hA'
  refine⟨_,_,_,_,_,_,_,_,_,_,box_row g5,hR _ _ ⟨u,rfl,fA.trans' f5 (λi hi _=>hi) (λi hi _=>by simp at hi;omega),λhz=>?_⟩⟩
  obtain⟨o1,o2⟩:=hok hz
  have hsA:=f5.size
  exact⟨f5.get (by simp;omega) o1,o2.keep f5 (λi hi hp=>by simp at hi;omega) (λj hj=>⟨by omega,by omega⟩)⟩
 by_cases h64:deep=64
 ·rw[if_pos h64]at hr⊢
  subst hr
  exact fin (leafV 0 0) 10 H1 g1 e1.fr rfl (λh=>absurd h (by decide))
 rw[if_neg h64]at hr⊢
 refine⟨λw1 B cN c A=> ∃(us:List Dv) (ds:List Dt) (n1:Int) (f1:Nat),cN=us.length/\(Fr [rb] H A/\H1.size<=A.size)/\A[b]?=some (.cells (leafV 0 0).cells.toArray 51 (0,0))/\RowD H1.size A B us.length c us ds/\A[rb]?=some (.cells #[.pointer (some ⟨k.h,0,none⟩),.int .i64 n1] T (0,0))/\
   ((n<=n1/\n1<=4096)/\us.length<=n1/\4097-n1<=f1)/\(IsWord w1/\(viewM x.sp.mem w1).isP=true)/\chainG (λn w=>readG (viewM x.sp.mem) f n w (deep+1)) (viewM x.sp.mem) f1 n1 w1 ds=r,λ_ _ cN _ _=>5000-cN,
  ⟨[],[],n,f,rfl,⟨e1.fr,Nat.le_refl _⟩,g1,RowD.nil,e1.get g,⟨⟨Int.le_refl _,hn.2⟩,by simp;omega,hf⟩,⟨hw,hp⟩,hr⟩,?_⟩
 rintro w1 B cN c A ⟨us,ds,n1,f1,rfl,⟨fA,hA1⟩,gbA,hrow,gA,⟨hn1,hun,hf1⟩,⟨hw1,hp1⟩,hrr⟩
 have LA:Live H0 A k x:=L.keep fA (λi hi=>by simp at hi;omega) (λi hi=>by simp at hi;subst hi;exact hrb)
 have hv1:=viewM_parts hp1
 obtain⟨f1,rfl⟩: ∃f2,f1=f2+1:=⟨f1-1,by omega⟩
 unfold chainG at hrr
 generalize ha:(viewM x.sp.mem w1).car=a at hrr
 generalize hdw:(viewM x.sp.mem w1).cdr=d at hrr
 rw[hv1]at ha hdw
 have hwa:IsWord a:=by rw[<-ha];exact half_word hmw _
 have hwdd:IsWord d:=by rw[<-hdw];exact half_word hmw _
 refine⟨_,rfl,_,hat_box0 gA rfl,?_⟩
 refine HC.mono (obj_Car_c LA.view hw1) ?_
 rintro _ H4 ⟨rfl,e4⟩
 refine⟨_,_,rfl,?_⟩
 rw[show(mof (some (k,x)))=x.sp.mem from rfl,show(if x.sp.mem.halfE w1 0=0 then x.sp.mem.get (w1 / 8+0)else 0)=a from ha,w64 (n:=deep+1) (by omega)]
 refine HC.mono (ih (LA.grow e4) (e4.get gA) hrb hrb0 hwa (by omega) (by omega) (by omega)) ?_
 rintro _ H5 ⟨u,rfl,f5,hok⟩
 refine⟨_,_,_,_,_,_,_,_,_,_,_,rfl,λb2 H6 hb2 hH6=>?_⟩
 obtain⟨s7,p7⟩:=box_new (vs:=u.cells) hb2 hH6 rfl rfl
 refine⟨s7,λH7 hH7=>?_⟩
 obtain⟨g7,e7⟩:=p7 H7 hH7
 have hbA:=lt_size gbA
 have f47:Fr [rb] A H7:=((e4.fr (S:=[rb])).trans f5).trans e7.fr
 have f7:Fr [rb] H H7:=fA.trans f47
 have gb7:=f47.get (by simp;omega) gbA
 have hs4:=e4.size
 have hs5:=f5.size
 have hs7:=e7.size
 by_cases hz:(readG (viewM x.sp.mem) f n1 a (deep+1)).1=0
 case neg=>
  rw[if_neg hz]
  rw[if_neg hz]at hrr
  refine fin (leafV 0 0) _ H7 gb7 f7 (by rw[<-hrr]) (λh=>absurd (by rw[<-hrr]at h;exact h) hz)
 rw[if_pos hz]
 rw[if_pos hz]at hrr
 obtain⟨g5,D5⟩:=hok hz
 have hbd:=readG_bd (viewM x.sp.mem) (λw e h=>viewM_bad h) f n1 a (deep+1) hz
 generalize hn2:(readG (viewM x.sp.mem) f n1 a (deep+1)).2.2=n2 at hrr g5 hbd
 generalize hd2:(readG (viewM x.sp.mem) f n1 a (deep+1)).2.1=d2 at hrr D5
 have hn2b:=hbd.2 hn1.2
 refine⟨_,_,_,_,_,_,_,_,_,_,box_row g7,λb3 H8 hb3 hH8=>?_⟩
 have e8:=Ext.push' hH8
 have hs8:=e8.size
 have hrow8:RowD H1.size H8 B us.length c us ds:=(hrow.keep f47 (λi hi=>by simp at hi;omega)).ext e8
 have hB: ∀i∈blks B,H1.size<=i/\i<A.size:=λi hi=>⟨hrow.row i hi,hrow.own.lt i hi⟩
 refine own_append (ys:=u.cells) hrow8.own (rowAt_blk (push_get hb3 hH8) _ 0 0 (λj hj=>by simp)) rfl (by rfl) rfl (by omega) ?_
 intro p' c' H9 ho9 f9 hnew
 have hs9:=f9.size
 have D8:DatAt (λj=>H4.size<=j/\j<H8.size) H8 u d2:=D5.keep (S:=[]) (e7.trans e8).fr (by simp) (λj hj=>⟨hj.1,by have:=hj.2;omega⟩)
 have hrow9:=hrow8.push f9 ho9 hnew (by omega) D8 (by omega) (λi hi=>by have:=hB i hi;omega)
 have f79:Fr [rb] H H9:=(f7.trans e8.fr).trans' f9 (λi hi _=>hi) (λi hi hl=>by have:=hB i hi;omega)
 have gb9:=f9.get (λhi=>by have:=hB _ hi;omega) (e8.get gb7)
 have g9:H9[rb]?=_:=f9.get (λhi=>by have:=hB _ hi;omega) (e8.get (e7.get g5))
 have L9:Live H0 H9 k x:=L.keep f79 (λi hi=>by simp at hi;omega) (λi hi=>by simp at hi;subst hi;exact hrb)
 refine⟨_,hat_box0 g9 rfl,?_⟩
 refine HC.mono (obj_Cdr_c L9.view hw1) ?_
 rintro _ H10 ⟨rfl,e10⟩
 refine⟨_,_,rfl,?_⟩
 rw[show(mof (some (k,x)))=x.sp.mem from rfl,show(if x.sp.mem.halfE w1 1=0 then x.sp.mem.get (w1 / 8+1)else 0)=d from hdw]
 refine⟨λbb A'=>bb= !(viewM x.sp.mem d).isP/\Ext H10 A',?_,?_⟩
 ·refine HC.mono (word_Tag_c hwdd) ?_
  rintro _ H21 ⟨rfl,e21⟩
  refine⟨_,rfl,?_⟩
  by_cases h1:d % 8=1
  ·rw[if_pos h1]
   refine⟨_,hat_box0 ((e10.trans e21).get g9) rfl,?_⟩
   refine HC.mono (obj_Pair_c (L9.grow (e10.trans e21)).view hwdd) ?_
   rintro _ H22 ⟨rfl,e22⟩
   refine⟨_,rfl,?_,e21.trans e22⟩
   rw[show(mof (some (k,x)))=x.sp.mem from rfl]
   congr 1
   by_cases hq:x.sp.mem.isPair d
   ·rw[decide_eq_true hq,viewM_pair.2 ⟨h1,hq⟩]
   ·have: ¬(viewM x.sp.mem d).isP=true:=λh=>hq (viewM_pair.1 h).2
    rw[decide_eq_false hq];simpa using this
  ·rw[if_neg h1]
   refine⟨?_,e21⟩
   have: ¬(viewM x.sp.mem d).isP=true:=λh=>h1 (viewM_pair.1 h).1
   simpa using this
 rintro bb H11 ⟨rfl,e11⟩
 have e911:=e10.trans e11
 have hs11:=e911.size
 have L11:=L9.grow e911
 have g11:=e911.get g9
 have gb11:=e911.get gb9
 have hrow11:=hrow9.ext e911
 have f11:Fr [rb] H H11:=f79.trans e911.fr
 by_cases hpd:(viewM x.sp.mem d).isP=true
 case pos=>
  rw[if_pos hpd]at hrr
  rw[if_neg (by simp[hpd])]
  refine HC.mono (reader_one_c g11 (by omega)) ?_
  rintro _ H19 ⟨rfl,g19,f19⟩
  have hs19:=f19.size
  refine⟨_,rfl,?_⟩
  have gb19:=f19.get (by simp;omega) gb11
  have f1119:Fr [rb] H H19:=f11.trans f19
  by_cases h4:4096<n2+1
  ·rw[if_pos h4]at hrr
   rw[if_pos h4,if_neg (by decide)]
   exact fin (leafV 0 0) 6 H19 gb19 f1119 (by rw[<-hrr]) (λh=>by rw[<-hrr]at h;cases h)
  ·rw[if_neg h4]at hrr
   rw[if_neg h4,if_pos rfl]
   refine⟨⟨us++[u],ds++[d2],n2+1,f1,by simp,⟨f1119,by omega⟩,gb19,?_,g19,⟨⟨by omega,by omega⟩,by simp;omega,by omega⟩,⟨hwdd,hpd⟩,hrr⟩,by show 5000-(us.length+1)<5000-us.length;omega⟩
   have:=hrow11.keep f19 (λi hi=>by simp at hi;omega)
   simpa using this
 case neg=>
  rw[if_neg hpd]at hrr
  rw[if_pos (by simpa using hpd)]
  refine HC.mono (ih L11 g11 hrb hrb0 hwdd (by omega) (by omega) (by omega)) ?_
  rintro _ H12 ⟨u4,rfl,f12,hok4⟩
  refine⟨_,_,_,_,_,_,_,_,_,_,_,rfl,λb4 H13 hb4 hH13=>?_⟩
  obtain⟨s14,p14⟩:=box_new (vs:=u4.cells) hb4 hH13 rfl rfl
  refine⟨s14,λH14 hH14=>?_⟩
  obtain⟨g14,e14⟩:=p14 H14 hH14
  have hs12:=f12.size
  have hs14:=e14.size
  have f1114:Fr [rb] H11 H14:=f12.trans e14.fr
  have f14:Fr [rb] H H14:=f11.trans f1114
  have gb14:=f1114.get (by simp;omega) gb11
  have hrow14:=hrow11.keep f1114 (λi hi=>by simp at hi;omega)
  generalize hq:readG (viewM x.sp.mem) f n2 d (deep+1)=q at hrr hok4
  have hus:(us++[u]).length=us.length+1:=by simp
  have hdl:(ds++[d2]).length=us.length+1:=by have:=hrow14.dlen;simpa using this
  have hpb: ∀i∈blks p',i<H14.size:=λi hi=>hrow14.own.lt i hi
  rw[show(((us.length:Nat):Int)+1-1)=us.length by omega,w64 (n:=(us.length:Int)) (by omega)]
  refine⟨λi A'=>(-1<=i/\i<=us.length)/\ ∃u':Dv,A'[b4]?=some (.cells u'.cells.toArray 51 (0,0))/\Fr [b4] H14 A'/\(q.1=0->DatAt (λj=>(H1.size<=j/\j<A'.size)/\j≠b4) A' u' (consD ((ds++[d2]).drop (i+1).toNat) q.2.1)),λi _=>(i+1).toNat,
   ⟨⟨by omega,Int.le_refl _⟩,u4,g14,Fr.refl _ _,λhz4=>?_⟩,?_⟩
  ·obtain⟨_,D12⟩:=hok4 hz4
   rw[List.drop_eq_nil_of_le (by omega)]
   exact D12.keep (S:=[]) e14.fr (by simp) (λj hj=>⟨⟨by have:=hj.1;omega,by have:=hj.2;omega⟩,by have:=hj.2;omega⟩)
  rintro i H15 ⟨hi,u',g15,f15,hD⟩
  have hs15:=f15.size
  by_cases hi0:i>=0
  ·rw[if_pos hi0]
   have hin:i.toNat< (us++[u]).length:=by rw[hus];omega
   have hb4':b4=H12.size:=hb4
   have ho15:=hrow14.own.keep f15 (λj hj h=>by simp at h;have:=hrow11.own.lt j hj;omega)
   obtain⟨a5,ha5,_,hrow5⟩:=ho15.elem (f:=Dv.cells) (λ_=>rfl) (by decide) hin
   refine⟨a5,ha5,⟨hi0,by omega⟩,_,_,_,_,_,_,_,_,_,_,hrow5,_,_,_,_,_,_,_,_,_,_,box_row g15,λb5 H16 hb5 hH16=>?_⟩
   have e16:=Ext.push' hH16
   have g16:=push_get hb5 hH16
   have hs16:=e16.size
   obtain⟨s17,p17⟩:=box_set (vs:=(pairV b5).cells) (e16.get g15) rfl rfl
   refine⟨s17,λH17 hH17=>?_⟩
   obtain⟨g17,f17⟩:=p17 H17 hH17
   have hs17:=f17.size
   have hlt4:=lt_size g15
   rw[w64 (n:=i-1) (by omega)]
   refine⟨⟨by omega,pairV b5,g17,(f15.trans e16.fr).trans f17,λhz4=>?_⟩,by show(i-1+1).toNat< (i+1).toNat;omega⟩
   have hind:i.toNat< (ds++[d2]).length:=by rw[hdl];omega
   rw[show(i-1+1).toNat=i.toNat by omega,List.drop_eq_getElem_cons hind,consD_cons,show i.toNat+1=(i+1).toNat by omega]
   have D1:DatAt (λj=>H1.size<=j/\j<H11.size) H14 (us++[u])[i.toNat] (ds++[d2])[i.toNat]:=(hrow11.each i.toNat hin hind).keep f1114 (λj hj h=>by simp at hj;have:=h.1.1;omega) (λj hj=>hj.1)
   have hl16:=lt_size g16
   refine dat_pair (f17.get (by simp;omega) g16) (D1.keep ((f15.trans e16.fr).trans f17) (λj hj h=>by simp at hj;have:=h.2;omega) (λj hj=>⟨⟨hj.1,by have:=hj.2;omega⟩,by have:=hj.2;omega⟩)) ((hD hz4).keep ((e16.fr (S:=[b4])).trans f17) (λj hj h=>by simp at hj;exact h.2 hj) (λj hj=>⟨⟨hj.1.1,by have:=hj.1.2;omega⟩,hj.2⟩)) ⟨⟨by omega,by omega⟩,by omega⟩
  ·rw[if_neg hi0]
   have hi1:i= -1:=by omega
   subst hi1
   refine⟨_,_,_,_,_,_,_,_,_,_,box_row g15,?_⟩
   have hlt4:=lt_size g14
   have gb15:=f15.get (by simp;omega) gb14
   refine fin u' q.1 H15 gb15 (f14.trans' f15 (λj hj _=>hj) (λj hj hl=>by simp at hj;omega)) ?_ (λh0=>?_)
   ·rw[<-hrr];split
    ·assumption
    ·rfl
   ·have hz4:q.1=0:=by
     by_cases hz4:q.1=0
     ·exact hz4
     ·rw[if_neg hz4]at hrr;rw[<-hrr]at h0;exact absurd h0 hz4
    rw[if_pos hz4]at hrr
    subst hrr
    have hD0:=hD hz4
    simp only[Int.reduceNeg,Int.reduceAdd,Int.toNat_zero,List.drop_zero]at hD0
    obtain⟨g12,_⟩:=hok4 hz4
    exact⟨f15.get (by simp;omega) (e14.get g12),hD0.keep (S:=[]) (Fr.refl _ _) (by simp) (λj hj=>hj.1)⟩
end Go.Proofs.YtibpklpgmgakcaaGreatDoor

namespace Go.Proofs.YtibpklpgmgakcaaGreatDoor
open Go

theorem nameR_err{m:Mem}{w:Int}(h:(nameR m w).2≠0):(nameR m w).2=3:=by
 unfold nameR at h⊢
 split
 ·split
  ·rename_i h1 h2;rw[if_pos h1,if_pos h2]at h;exact absurd rfl h
  ·rfl
 ·rfl
set_option maxRecDepth 20000 in
theorem reader_datum_c(f:Nat):DatumC f:=by
 induction f with
 | zero=>intro H0 H k x rb n w deep T L g hrb hrb0 hw hn hf hd;omega
 | succ f ih=>
 intro H0 H k x rb n w deep T L g hrb hrb0 hw hn hf hd
 refine HC.via λR hR=>build_reader_datum.link ?_
 unfold build_reader_datum.pt
 generalize hr:readG (viewM x.sp.mem) (f+1) n w deep=r at hR
 unfold readG at hr
 intro b H1 hb hH1
 have e1:=Ext.push' hH1
 have g1:=push_get hb hH1
 have hb1:=lt_size g1
 have hrl:=lt_size g
 have hs1:=e1.size
 have fin: ∀(u:Dv) (er:Int) (A:Array Obj),Fr [rb] H1 A->er=r.1->(r.1=0->A[rb]?=some (.cells #[.pointer (some ⟨k.h,0,none⟩),.int .i64 r.2.2] T (0,0))/\DatAt (λj=>H1.size<=j/\j<A.size) A u r.2.1)->
   (CanPuts A (Addr.mk b 0 none) 0 6)/\ ∀A':Array Obj,A'=hputs A (Addr.mk b 0 none) u.cells 0->
    ∃rK:Int,∃rC:Int,∃rN:Bool,∃rB:Option Addr,∃rM:Nat,∃rD:Nat,∃rT:ByteArray,∃rE:Option Addr,∃rF:Nat,∃rG:Nat,RowAt A' (Addr.mk b 0 none) 0 [.int .i64 rK,.int .i32 rC,.bool rN,.slice rB rM rD,.string rT,.slice rE rF rG]/\
    R (.tuple #[.agg #[.int .i64 rK,.int .i32 rC,.bool rN,.slice rB rM rD,.string rT,.slice rE rF rG],.int .i64 er]) A':=λu er A fA her hok=>by
  subst her
  obtain⟨s5,p5⟩:=box_set (vs:=u.cells) (fA.get (by simp;omega) g1) rfl rfl
  refine⟨s5,λA' hA'=>?_⟩
  obtain⟨g5,f5⟩:=p5 A' hA'
  refine⟨_,_,_,_,_,_,_,_,_,_,box_row g5,hR _ _ ⟨u,rfl,((e1.fr (S:=[rb])).trans fA).trans' f5 (λi hi _=>hi) (λi hi _=>by simp at hi;omega),λhz=>?_⟩⟩
  obtain⟨o1,o2⟩:=hok hz
  have hsA:=f5.size
  exact⟨f5.get (by simp;omega) o1,o2.keep f5 (λi hi hp=>by simp at hi;omega) (λj hj=>⟨by omega,by omega⟩)⟩
 refine HC.mono (reader_one_c (e1.get g) hn) ?_
 rintro _ H2 ⟨rfl,g2,f2⟩
 refine⟨_,rfl,?_⟩
 have hs2:=f2.size
 by_cases h4:4096<n+1
 ·rw[if_pos h4]at hr
  rw[if_pos h4,if_neg (by decide)]
  exact fin (leafV 0 0) 6 H2 f2 (by rw[<-hr]) (λh=>by rw[<-hr]at h;cases h)
 rw[if_neg h4]at hr
 rw[if_neg h4,if_pos rfl]
 refine HC.mono (build_constant_c hw) ?_
 rintro _ H3 ⟨kk,c,bb,rfl,hk,hkc,e3⟩
 refine⟨_,_,_,_,_,_,_,_,_,_,_,rfl,λb2 H4 hb2 hH4=>?_⟩
 obtain⟨s5,p5⟩:=box_new (vs:=(leafV kk c).cells) hb2 hH4 rfl rfl
 refine⟨s5,λH5 hH5=>?_⟩
 obtain⟨g5,e5⟩:=p5 H5 hH5
 have e25:=e3.trans e5
 have hs5:=e25.size
 have f5:Fr [rb] H1 H5:=f2.trans e25.fr
 cases bb with
 | true=>
  rw[if_pos rfl]at hk⊢
  have hv:viewM x.sp.mem w=.leaf (.mk kk c false [] tE []):=by unfold viewM;rw[hk]
  rw[hv]at hr
  subst hr
  exact⟨_,_,_,_,_,_,_,_,_,_,box_row g5,fin (leafV kk c) 0 H5 f5 rfl (λ_=>⟨e25.get g2,dat_leaf hkc.1 hkc.2⟩)⟩
 | false=>
 rw[if_neg (by decide)]at hk⊢
 have hv:viewM x.sp.mem w=(if(numW x.sp.mem w).2.2=0 then .leaf (.mk 4 0 (numW x.sp.mem w).1 (numW x.sp.mem w).2.1 tE [])else if x.sp.mem.typ w=2 then .leaf (.mk 5 0 false [] (wordsText (x.sp.mem.objWords w)) [])
  else if x.sp.mem.typ w=4 then(if(nameR x.sp.mem w).2=0 then .leaf (.mk 6 0 false [] (nameR x.sp.mem w).1 [])else .bad 3)else if x.sp.mem.typ w=1 then .vec (x.sp.mem.objWords w)
  else if w % 8=1/\x.sp.mem.isPair w then .pair (if x.sp.mem.halfE w 0=0 then x.sp.mem.get (w / 8+0)else 0) (if x.sp.mem.halfE w 1=0 then x.sp.mem.get (w / 8+1)else 0)else .bad 3):=by unfold viewM;rw[hk]
 have f05:Fr [rb] H H5:=(e1.fr (S:=[rb])).trans f5
 have L5:Live H0 H5 k x:=L.keep f05 (λi hi=>by simp at hi;omega) (λi hi=>by simp at hi;subst hi;exact hrb)
 have g5r:=e25.get g2
 refine⟨_,rfl,_,hat_box0 g5r rfl,?_⟩
 refine HC.mono (obj_Num_c L5.view hw) ?_
 rintro _ H7 ⟨B,nn,c',rfl,hrow,e7⟩
 rw[show(mof (some (k,x)))=x.sp.mem from rfl]at hrow⊢
 refine⟨_,_,_,_,_,rfl,λb3 H8 hb3 hH8=>?_⟩
 obtain⟨s9,p9⟩:=box_new (vs:=[.bool (numW x.sp.mem w).1,.slice B nn c']) hb3 hH8 rfl rfl
 refine⟨s9,λH9 hH9=>?_⟩
 obtain⟨g9,e9⟩:=p9 H9 hH9
 have e59:=e7.trans e9
 have hs9:=e59.size
 have f9:Fr [rb] H1 H9:=f5.trans e59.fr
 by_cases hnum:(numW x.sp.mem w).2.2=0
 ·rw[if_pos hnum]at hv⊢
  rw[hv]at hr
  subst hr
  refine⟨_,_,_,_,box_row g9,fin (numV (numW x.sp.mem w).1 B nn c') 0 H9 f9 rfl (λ_=>⟨e59.get g5r,(dat_num hrow (numW_limb hw) numW_len).keep (S:=[]) e9.fr (by simp) (λj hj=>⟨by have:=hj.1;omega,by have:=hj.2;have:=e9.size;omega⟩)⟩)⟩
 rw[if_neg hnum]at hv⊢
 refine⟨_,hat_box0 (e59.get g5r) rfl,?_⟩
 refine HC.mono (obj_Type_c (L5.grow e59).view hw) ?_
 rintro _ H11 ⟨rfl,e11⟩
 rw[show(mof (some (k,x)))=x.sp.mem from rfl]
 refine⟨_,rfl,?_⟩
 have e511:=e59.trans e11
 have hs11:=e511.size
 have f11:Fr [rb] H1 H11:=f9.trans e11.fr
 have g11:=e511.get g5r
 have L11:=L5.grow e511
 by_cases t2:x.sp.mem.typ w=2
 ·rw[if_pos t2]at hv⊢
  rw[hv]at hr
  subst hr
  refine⟨_,hat_box0 g11 rfl,?_⟩
  refine HC.mono (obj_Text_c L11.view hw) ?_
  rintro _ H12 ⟨rfl,e12⟩
  rw[show(mof (some (k,x)))=x.sp.mem from rfl,if_pos ⟨(typ_tag (by omega)).1,t2⟩]
  exact⟨_,_,rfl,fin (strV 5 _) 0 H12 (f11.trans e12.fr) rfl (λ_=>⟨e12.get g11,dat_str (by decide)⟩)⟩
 rw[if_neg t2]at hv⊢
 by_cases t4:x.sp.mem.typ w=4
 ·rw[if_pos t4]at hv⊢
  refine⟨_,hat_box0 g11 rfl,?_⟩
  refine HC.mono (syms_Name_c L11.view hw) ?_
  rintro _ H14 ⟨rfl,e14⟩
  rw[show(mof (some (k,x)))=x.sp.mem from rfl]
  by_cases hne:(nameR x.sp.mem w).2=0
  ·rw[if_pos hne]at hv
   rw[hv]at hr
   subst hr
   exact⟨_,_,rfl,fin (strV 6 _) _ H14 (f11.trans e14.fr) hne (λ_=>⟨e14.get g11,dat_str (by decide)⟩)⟩
  ·rw[if_neg hne]at hv
   rw[hv]at hr
   subst hr
   exact⟨_,_,rfl,fin (strV 6 _) _ H14 (f11.trans e14.fr) (nameR_err hne) (λh=>absurd (show(3:Int)=0 from h) (by decide))⟩
 rw[if_neg t4]at hv⊢
 by_cases t1:x.sp.mem.typ w=1
 ·rw[if_pos t1]at hv⊢
  rw[hv]at hr
  simp only at hr
  refine HC.mono (reader_vector_c ih L11 g11 hrb hrb0 hw (by omega) (by omega) hd t1) ?_
  rw[hr]
  rintro _ H16 ⟨u,rfl,f16,hok⟩
  have hs16:=f16.size
  refine⟨_,_,_,_,_,_,_,_,_,_,_,rfl,fin u r.1 H16 (f11.trans f16) rfl (λhz=>⟨(hok hz).1,(hok hz).2.keep (S:=[]) (Fr.refl _ _) (by simp) (λj hj=>⟨by have:=hj.1;omega,hj.2⟩)⟩)⟩
 rw[if_neg t1]at hv⊢
 refine HC.mono (word_Tag_c hw) ?_
 rintro _ H18 ⟨rfl,e18⟩
 refine⟨_,rfl,?_⟩
 by_cases h1:w % 8=1
 case neg=>
  rw[if_neg h1]
  rw[if_neg (λh=>h1 h.1)]at hv
  rw[hv]at hr
  subst hr
  exact fin (leafV 0 0) 3 H18 (f11.trans e18.fr) rfl (λh=>absurd (show(3:Int)=0 from h) (by decide))
 rw[if_pos h1]
 refine⟨_,hat_box0 (e18.get g11) rfl,?_⟩
 refine HC.mono (obj_Pair_c (L11.grow e18).view hw) ?_
 rintro _ H19 ⟨rfl,e19⟩
 rw[show(mof (some (k,x)))=x.sp.mem from rfl]
 refine⟨_,rfl,?_⟩
 have e1119:=e18.trans e19
 have hs19:=e1119.size
 by_cases hpr:x.sp.mem.isPair w
 case neg=>
  rw[if_neg (by simpa using hpr)]
  rw[if_neg (λh=>hpr h.2)]at hv
  rw[hv]at hr
  subst hr
  exact fin (leafV 0 0) 3 H19 (f11.trans e1119.fr) rfl (λh=>absurd (show(3:Int)=0 from h) (by decide))
 rw[if_pos (by simpa using hpr)]
 rw[if_pos ⟨h1,hpr⟩]at hv
 rw[hv]at hr
 simp only at hr
 refine HC.mono (reader_pairs_c ih (L11.grow e1119) (e1119.get g11) hrb hrb0 hw (by omega) (by omega) hd (viewM_pair.2 ⟨h1,hpr⟩)) ?_
 rw[hr]
 rintro _ H20 ⟨u,rfl,f20,hok⟩
 have hs20:=f20.size
 refine⟨_,_,_,_,_,_,_,_,_,_,_,rfl,fin u r.1 H20 ((f11.trans e1119.fr).trans f20) rfl (λhz=>⟨(hok hz).1,(hok hz).2.keep (S:=[]) (Fr.refl _ _) (by simp) (λj hj=>⟨by have:=hj.1;omega,hj.2⟩)⟩)⟩
def datumR(m:Mem)(w:Int):RdOut:=readG (viewM m) 4097 0 w 0
theorem build_Datum_c{H0 H:Array Obj}{k:Blk}{x:Hp}{w:Int}(L:Live H0 H k x)(hw:IsWord w):
  build_Datum.C (some ⟨k.h,0,none⟩) w H (λv H'=> ∃u:Dv,v=.tuple #[.agg u.cells.toArray,.int .i64 (datumR x.sp.mem w).1]/\Ext H H'/\((datumR x.sp.mem w).1=0->DatAt (Yng H H') H' u (datumR x.sp.mem w).2.1)/\((datumR x.sp.mem w).1≠0->u=leafV 0 0)):=by
 refine HC.via λR hR=>build_Datum.link ?_
 unfold build_Datum.pt
 intro b H1 hb hH1
 have e1:=Ext.push' hH1
 have g1:=push_get hb hH1
 have hb1:=lt_size g1
 have hs1:=e1.size
 rw[onPtr_some]
 intro b2 H3 hb2 hH3
 have e3:=Ext.push' hH3
 have g3:=push_get hb2 hH3
 have e13:=e1.trans e3
 have hs3:=e3.size
 have hb3l:=lt_size g3
 have h0:=L.ext.size
 refine HC.mono (reader_datum_c 4097 (L.grow e13) g3 (λhk=>by have:=L.lt hk;omega) (by omega) hw (by omega) (by omega) (by omega)) ?_
 rintro _ H4 ⟨u,rfl,f4,hok⟩
 rw[show readG (viewM x.sp.mem) 4097 0 w 0=datumR x.sp.mem w from rfl]at hok⊢
 have hs4:=f4.size
 refine⟨_,_,_,_,_,_,_,_,_,_,_,rfl,λb3 H5 hb3 hH5=>?_⟩
 obtain⟨s6,p6⟩:=box_new (vs:=u.cells) hb3 hH5 rfl rfl
 refine⟨s6,λH6 hH6=>?_⟩
 obtain⟨g6,e6⟩:=p6 H6 hH6
 have hs6:=e6.size
 have gb6:=e6.get (f4.get (by simp;omega) (e3.get g1))
 have ext6:Ext H H6:=(e13.fr_trans f4 (λi hi=>by simp at hi;omega)).trans e6
 by_cases hz:(datumR x.sp.mem w).1=0
 ·rw[if_pos hz]
  obtain⟨_,D4⟩:=hok hz
  refine⟨_,_,_,_,_,_,_,_,_,_,box_row g6,?_⟩
  obtain⟨s7,p7⟩:=box_set (vs:=u.cells) gb6 rfl rfl
  refine⟨s7,λH7 hH7=>?_⟩
  obtain⟨g7,f7⟩:=p7 H7 hH7
  have hs7:=f7.size
  refine⟨_,_,_,_,_,_,_,_,_,_,box_row g7,hR _ _ ⟨u,by rw[hz],ext6.fr_trans f7 (λi hi=>by simp at hi;omega),λ_=>?_,λh=>absurd hz h⟩⟩
  exact(D4.keep (S:=[]) e6.fr (by simp) (Q:=λj=>H3.size<=j/\j<H6.size) (λj hj=>⟨hj.1,by have:=hj.2;omega⟩)).keep f7 (λi hi hp=>by simp at hi;omega) (λj hj=>⟨by omega,by omega⟩)
 ·rw[if_neg hz]
  obtain⟨s7,p7⟩:=box_set (vs:=(leafV 0 0).cells) gb6 rfl rfl
  refine⟨s7,λH7 hH7=>?_⟩
  obtain⟨g7,f7⟩:=p7 H7 hH7
  exact⟨_,_,_,_,_,_,_,_,_,_,box_row g7,hR _ _ ⟨leafV 0 0,rfl,ext6.fr_trans f7 (λi hi=>by simp at hi;omega),λh=>absurd h hz,λ_=>rfl⟩⟩
theorem build_Heap_c{d:Dt}(hp:Plain d)(hl:Light d)(h64:depthD d<=64){H0 H:Array Obj}{k:Blk}{x:Hp}{syl:List Int}{v:Dv}(L:Live H0 H k x)(T:Tabs8 H0)(he:x.sp.mem.Even)(S:SyAt H0 H k x syl)(hi:SymInv x.sp.mem syl)(D:DatAt (Out H k x) H v d)
  (hs:(syl.length:Int)+2*countD d<=100000) (hc:x.sp.mem.count+2*countD d<=100000):
  build_Heap.C (some ⟨k.h,0,none⟩) v.kind v.c v.neg v.mB v.mN v.mC v.t v.lB v.lN v.lC H (PutR H0 H k x syl d):=by
 refine HC.via λR hR=>build_Heap.link ?_
 unfold build_Heap.pt
 intro b H1 hb hH1 b2 H2 hb2 hH2
 have e1:=Ext.push' hH1
 have g1:=push_get hb hH1
 have e2:=Ext.push' hH2
 have g2:=push_get hb2 hH2
 have e12:=e1.trans e2
 refine⟨_,hat_box0 (e2.get g1) rfl,?_⟩
 rw[onPtr_some]
 refine⟨_,_,_,_,_,_,_,_,_,_,box_row (vs:=v.cells) g2,?_⟩
 have hcp:=countD_pos d
 refine HC.mono (dat_May_c (T.ext (L.ext.trans e12)) (D.ext e12) hl (by omega) hp h64) ?_
 rintro _ H3 ⟨rfl,e3⟩
 refine⟨_,rfl,?_⟩
 rw[if_pos rfl]
 intro b3 H4 hb3 hH4
 obtain⟨s5,p5⟩:=box_new (vs:=[.func (.func 28) #[] #[.pointer (some (Addr.mk b 0 none)),.pointer (some (Addr.mk b3 0 none))]]) hb3 hH4 rfl rfl
 refine⟨s5,λH5 hH5=>?_⟩
 obtain⟨g5,e5⟩:=p5 H5 hH5
 have e25:=e3.trans e5
 have e05:=e12.trans e25
 have hs12:=e12.size
 have hs3:=e3.size
 have hs25:=e25.size
 have hb1:=lt_size g1
 have hs1:=e1.size
 have hs2:=e2.size
 refine⟨_,hat_box0 g5 rfl,_,_,_,_,_,_,_,_,_,_,box_row (vs:=v.cells) (e25.get g2),?_⟩
 refine FC.of (enters_of Tryz.func28 (by kernel_rfl) rfl) ?_
 show build_Heap_1.C v.kind v.c v.neg v.mB v.mN v.mC v.t v.lB v.lN v.lC (some ⟨b,0,none⟩) (some ⟨b3,0,none⟩) H5 _
 have L5:=L.grow e05
 have S5:SyAt H0 H5 k x syl:=S.keep rfl (e05.fr (S:=[])) (by simp)
 have E:PEnv H5 k x b b3:=⟨hat_box0 ((e2.trans e25).get g1) rfl,hat_box0 g5 rfl,Out.fresh L S (by omega) (by omega),Out.fresh L S (by omega) (lt_size g5)⟩
 refine HC.mono (put_c (countD d).toNat d (by omega) hp hl L5 T he S5 hi (D.grow e05) E hs hc) ?_
 rintro _ H6 ⟨w,e,x',rfl,L6,hor⟩
 refine⟨_,_,rfl,hR _ _ ⟨w,e,x',rfl,L6,?_⟩⟩
 rcases hor with⟨h1,h2,h⟩ | ⟨h0,syl',st,hB⟩
 ·exact .inl ⟨h1,h2,(Fell.after ((Step.refl S he hi).grow e05) h).le (by omega)⟩
 ·refine .inr ⟨h0,syl',?_,hB⟩
  have:=((Step.refl S he hi).grow e05).trans st
  exact(this.le (by omega)).at (by omega) (λt=>by simp)
end Go.Proofs.YtibpklpgmgakcaaGreatDoor

namespace Go.Proofs.YtibpklpgmgakcaaGreatDoor
open Go

theorem hat_lt2{H:Array Obj}{a:Addr}{v:Value}(h:hat H a=some v):a.block<H.size:=by
 unfold hat at h
 rcases Nat.lt_or_ge a.block H.size with h1 | h1
 ·exact h1
 ·simp[h1]at h
theorem thing_pair_far{m:Mem}{u kind more v tag a b:Int}{ws:List Int}(h:Thing m u kind more ws)(hv:Pr m v 1 a b)(hn: ∀q,(m.seg q).n<=64): ∀j:Nat,j<=ws.length->u / 8+j≠v / 8+0:=by
 intro j hj e
 have h1:=h.obj.1
 have h3:=h.obj.2.2
 have h4:=hv.at'
 have hl:=h.lenEq
 have hn2:=hn (u / 8 / 64).toNat
 have w0:0<=u / 8:=by have:=h.word.1;omega
 have es:v / 8 / 64=u / 8 / 64:=by omega
 have k1:=h1.2.2.2.1
 have k2:=h4.2.2.2.1
 rw[es,k1]at k2
 unfold rawK at k2
 split at k2<;>cases k2
theorem Built.store{Q:Int->Prop}{m:Mem}{syl:List Int}{w v a b e:Int}{d:Dt}(hv:Pr m v 1 a b)(hQ: ∀u,Q u->u≠v)(hn: ∀q,(m.seg q).n<=64)(h:Built Q m syl w d):Built Q (m.store (v / 8+0) e).1 syl w d:=by
 have hu:m.used (v / 8+0):=by have:=hv.at'.used hv.word;simpa using this
 induction h with
 | con h=>exact .con h
 | chr h=>exact .chr h
 | num h hm hl=>
  rcases h with h | h
  ·exact .num (.inl h) hm hl
  ·exact .num (.inr (h.setFar hu (thing_pair_far (tag:=1) h hv hn))) hm hl
 | str h ht=>exact .str (h.setFar hu (thing_pair_far (tag:=1) h hv hn)) ht
 | sym h hs ht=>
  obtain⟨s,h1,h2⟩:=hs
  exact .sym h ⟨s,h1.setFar hu (thing_pair_far (tag:=1) h1 hv hn),h2.setFar hu (thing_pair_far (tag:=1) h2 hv hn)⟩ ht
 | vec h hl each ih=>exact .vec (h.setFar hu (thing_pair_far (tag:=1) h hv hn)) hl ih
 | @pair w1 a1 b1 x y h hq ha hb iha ihb=>
  refine .pair (h.setOther hu ?_ ?_) hq iha ihb
  ·intro e
   have:=hQ _ hq
   have t1:=h.at'.2.1
   have t2:=hv.at'.2.1
   omega
  ·have e1:=h.even
   have e2:=hv.even
   omega
theorem ref_List_c{P:Nat->Prop}{H:Array Obj}{lB:Option Addr}{lN lC:Nat}{us:List Dv}{ds:List Dt}(hlen:us.length=lN)(hdl:ds.length=lN)(hP: ∀j,P j->j<H.size)(hrow: ∀(i:Nat) (h:i<us.length),∃a,lB=some a/\RowAt H (a.add (i*6)) 0 us[i].cells)
  (each: ∀(i:Nat) (h1:i<us.length) (h2:i<ds.length),DatAt P H us[i] ds[i]) (hn:lN<1000000000):
  moraineref03_List.C lB lN lC H (λv H'=> ∃u:Dv,v=.agg u.cells.toArray/\DatAt (λj=>P j\/Yng H H' j) H' u (consD ds zD)/\Ext H H'):=by
 refine HC.via λR hR=>moraineref03_List.link ?_
 unfold moraineref03_List.pt
 intro b H1 hb hH1 b2 H2 hb2 hH2
 have e1:=Ext.push' hH1
 have g1:=push_get hb hH1
 obtain⟨s3,p3⟩:=box_new (vs:=(leafV 0 0).cells) hb2 hH2 rfl rfl
 refine⟨s3,λH3 hH3=>?_⟩
 obtain⟨g3,e3⟩:=p3 H3 hH3
 have gb3:=e3.get g1
 have hb1:=lt_size g1
 have hb3:=lt_size g3
 have e13:=e1.trans e3
 have hs1:=e1.size
 have hs3:=e3.size
 rw[w64 (n:=(lN:Int)-1) (by omega)]
 refine⟨λi A=>(-1<=i/\i<lN)/\ ∃u:Dv,A[b2]?=some (.cells u.cells.toArray 51 (0,0))/\Fr [b2] H3 A/\DatAt (λj=>(P j\/Yng H A j)/\j≠b2/\j≠b) A u (consD (ds.drop (i+1).toNat) zD),λi _=>(i+1).toNat,
  ⟨⟨by omega,by omega⟩,leafV 0 0,g3,Fr.refl _ _,by rw[List.drop_eq_nil_of_le (by omega)];exact dat_leaf (by decide) (by decide)⟩,?_⟩
 rintro i A ⟨hi,u,g2A,fA,hD⟩
 have hsA:=fA.size
 have hb2A:=lt_size g2A
 by_cases hi0:i>=0
 ·rw[if_pos hi0]
  have hin:i.toNat<us.length:=by omega
  have hind:i.toNat<ds.length:=by omega
  obtain⟨a,ha,hr⟩:=hrow i.toNat hin
  have hab:a.block<H.size:=by have:=hat_lt2 hr.1;simpa[addr_block_add]using this
  refine⟨a,ha,⟨hi0,hi.2⟩,_,_,_,_,_,_,_,_,_,_,fA.rowAt (by rw[addr_block_add];simp;omega) (e13.rowAt hr),_,_,_,_,_,_,_,_,_,_,box_row g2A,λb5 H5 hb5 hH5=>?_⟩
  have e5:=Ext.push' hH5
  have g5:=push_get hb5 hH5
  have hs5:=e5.size
  have hb5l:=lt_size g5
  obtain⟨s6,p6⟩:=box_set (vs:=(pairV b5).cells) (e5.get g2A) rfl rfl
  refine⟨s6,λH6 hH6=>?_⟩
  obtain⟨g6,f6⟩:=p6 H6 hH6
  have hs6:=f6.size
  rw[w64 (n:=i-1) (by omega)]
  refine⟨⟨by omega,pairV b5,g6,(fA.trans e5.fr).trans f6,?_⟩,by show(i-1+1).toNat< (i+1).toNat;omega⟩
  rw[show(i-1+1).toNat=i.toNat by omega,List.drop_eq_getElem_cons hind,consD_cons,show i.toNat+1=(i+1).toNat by omega]
  refine dat_pair (f6.get (by simp;omega) g5) ?_ ?_ ⟨.inr ⟨by omega,by omega⟩,by omega,by omega⟩
  ·refine((((each i.toNat hin hind).ext e13).keep fA (λj hj hp=>by simp at hj;have:=hP j hp;omega) (λj hj=>hj)).ext e5).keep f6 (λj hj hp=>by simp at hj;have:=hP j hp;omega) (λj hj=>⟨.inl hj,?_,?_⟩)
   ·have:=hP j hj;omega
   ·have:=hP j hj;omega
  ·exact hD.keep ((e5.fr (S:=[b2])).trans f6) (λj hj hp=>by simp at hj;exact hp.2.1 hj) (λj hj=>⟨hj.1.imp id (λh=>⟨h.1,by have:=h.2;omega⟩),hj.2⟩)
 ·rw[if_neg hi0]
  have hi1:i= -1:=by omega
  subst hi1
  refine⟨_,_,_,_,_,_,_,_,_,_,box_row g2A,?_⟩
  obtain⟨s7,p7⟩:=box_set (vs:=u.cells) (fA.get (by simp;omega) gb3) rfl rfl
  refine⟨s7,λH7 hH7=>?_⟩
  obtain⟨g7,f7⟩:=p7 H7 hH7
  have hs7:=f7.size
  simp only[Int.reduceNeg,Int.reduceAdd,Int.toNat_zero,List.drop_zero]at hD
  exact⟨_,_,_,_,_,_,_,_,_,_,box_row g7,hR _ _ ⟨u,rfl,hD.keep f7 (λj hj hp=>by simp at hj;exact hp.2.2 hj) (λj hj=>hj.1.imp id (λh=>⟨h.1,by have:=h.2;omega⟩)),(e13.fr_trans fA (λj hj=>by simp at hj;omega)).fr_trans f7 (λj hj=>by simp at hj;omega)⟩⟩
def a17:ByteArray:=⟨#[97]⟩
theorem runes_a17:runesOf a17=[97]:=by kernel_rfl
theorem text_a17:textOK a17:=⟨by kernel_rfl,by rw[runes_a17];decide⟩
def d17:Dt:=consD [.mk 1 0 false [] tE [],.mk 6 0 false [] a17 []] zD
theorem plain_k{k:Int}(hk:0<=k/\k<=10)(h3:k≠3)(h4:k≠4)(h5:k≠5)(h6:k≠6)(h7:k≠7)(h8:k≠8):Plain (.mk k 0 false [] tE []):=
 .mk hk (λ_=>rfl) (λh=>absurd h h3) (λ_=>⟨rfl,rfl⟩) (λh=>absurd h h4) (λ_ _=>rfl) (λh=>h.elim (λh=>absurd h h5) (λh=>absurd h h6)) (λh=>absurd h h6) (λ_ _=>rfl) (λh=>absurd h h7) (by simp) (by simp)
theorem plain_p{x y:Dt}(hx:Plain x)(hy:Plain y):Plain (pairD x y):=
 .mk (by decide) (λ_=>rfl) (λh=>absurd h (by decide)) (λ_=>⟨rfl,rfl⟩) (λh=>absurd h (by decide)) (λ_ _=>rfl) (λh=>h.elim (λh=>absurd h (by decide)) (λh=>absurd h (by decide))) (λh=>absurd h (by decide)) (λh=>absurd rfl h) (λ_=>rfl) (by simp) (λz hz=>by
  simp at hz;rcases hz with rfl | rfl<;>assumption)
theorem plain17:Plain d17:=by
 refine plain_p (plain_k (by decide) (by decide) (by decide) (by decide) (by decide) (by decide) (by decide)) (plain_p ?_ (plain_k (by decide) (by decide) (by decide) (by decide) (by decide) (by decide) (by decide)))
 exact .mk (by decide) (λ_=>rfl) (λh=>absurd h (by decide)) (λ_=>⟨rfl,rfl⟩) (λh=>absurd h (by decide)) (λ_ h=>absurd rfl h) (λ_=>text_a17) (λ_=>by rw[runes_a17];decide) (λ_ _=>rfl) (λh=>absurd h (by decide)) (by simp) (by simp)
theorem light_k{k c:Int}{t:ByteArray}(h:t.size<=1000):Light (.mk k c false [] t []):=.mk h (by simp) (by simp)
theorem light_p{x y:Dt}(hx:Light x)(hy:Light y):Light (pairD x y):=.mk (by decide) (by simp) (λz hz=>by simp at hz;rcases hz with rfl | rfl<;>assumption)
theorem light17:Light d17:=light_p (light_k (by decide)) (light_p (light_k (by decide)) (light_k (by decide)))
theorem count17:countD d17=5:=by decide
theorem depth17:depthD d17=1:=by decide
set_option maxRecDepth 100000 in
theorem awake17_c{H:Array Obj}(T:Tabs8 H):morainelaw17_awake.C H (λv H'=>v=.bool true/\Ext H H'):=by
 refine HC.via λR hR=>morainelaw17_awake.link ?_
 unfold morainelaw17_awake.pt
 refine HC.mono (obj_New_c ⟨by decide,by decide⟩) ?_
 rintro _ H1 (⟨hn,_⟩ | ⟨_,k,x,rfl,V1,hx,e1,hy⟩)
 ·exact absurd ⟨by decide,by decide⟩ hn
 have L1:Live H H1 k x:=⟨V1.inv.2.1,V1.inv.2.2,e1,hy⟩
 have hc:x.sp.mem.count=0:=by subst hx;rfl
 have hv:x.sp.mem.Even:=by subst hx;exact even_fresh _
 have hf:x.sp.mem.free=16:=by subst hx;rfl
 have hsy:x.sy=.slice none 0 0:=by subst hx;rfl
 clear hx V1
 refine⟨_,_,rfl,?_⟩
 rw[if_pos rfl]
 intro b H2 hb hH2
 have e2:=Ext.push' hH2
 have g2:=push_get hb hH2
 have L2:=L1.grow e2
 have hrow:=box_row (vs:=(leafV 1 0).cells++(strV 6 a17).cells) g2
 refine HC.mono (ref_List_c (P:=λ_=>False) (us:=[leafV 1 0,strV 6 a17]) (ds:=[.mk 1 0 false [] tE [],.mk 6 0 false [] a17 []]) rfl rfl (λj h=>h.elim) (λi hi=>⟨_,rfl,by
  match i,hi with
  | 0,_=>exact RowAt.sub 0 hrow rfl
  | 1,_=>exact RowAt.sub 6 hrow rfl⟩) (λi h1 h2=>by
  match i,h1 with
  | 0,_=>exact dat_leaf (by decide) (by decide)
  | 1,_=>exact dat_str (by decide)) (by decide)) ?_
 rintro _ H3 ⟨u,rfl,D3,e3⟩
 have L3:=L2.grow e3
 have D3:DatAt (λj=>False\/Yng H2 H3 j) H3 u d17:=D3
 refine⟨_,_,_,_,_,_,_,_,_,_,rfl,λb2 H4 hb2 hH4=>?_⟩
 obtain⟨s5,p5⟩:=box_new (vs:=u.cells) hb2 hH4 rfl rfl
 refine⟨s5,λH5 hH5=>?_⟩
 obtain⟨g5,e5⟩:=p5 H5 hH5
 have L5:=L3.grow e5
 have S2:SyAt H H2 k x []:=SyAt.nil hsy
 have S5:SyAt H H5 k x []:=SyAt.nil hsy
 have hs5:=e5.size
 have D5:DatAt (Out H5 k x) H5 u d17:=D3.keep (S:=[]) e5.fr (by simp) (λj hj=>by
  rcases hj with h | h
  ·exact h.elim
  ·exact Out.fresh L2 S2 h.1 (by have:=h.2;omega))
 refine⟨_,_,_,_,_,_,_,_,_,_,box_row g5,?_⟩
 refine HC.mono (build_Heap_c plain17 light17 (by rw[depth17];decide) L5 T hv S5 (λw hw=>by simp at hw) D5 (by rw[count17];decide) (by rw[count17,hc];decide)) ?_
 rintro _ H6 ⟨w,e,x6,rfl,L6,hor⟩
 refine⟨_,_,rfl,?_⟩
 rcases hor with⟨_,_,hfell⟩ | ⟨rfl,syl',st,hB⟩
 ·have:=hfell.1;rw[count17]at this;omega
 refine HC.mono (build_Datum_c L6 hB.word) ?_
 have hdr:datumR x6.sp.mem w=(0,d17,countD d17):=datum_built hB (by rw[count17];decide) (by rw[depth17];decide)
 rw[hdr]
 rintro _ H7 ⟨u7,rfl,e7,hD7,_⟩
 refine⟨_,_,_,_,_,_,_,_,_,_,_,rfl,λb3 H8 hb3 hH8=>?_⟩
 obtain⟨s9,p9⟩:=box_new (vs:=u7.cells) hb3 hH8 rfl rfl
 refine⟨s9,λH9 hH9=>?_⟩
 obtain⟨g9,e9⟩:=p9 H9 hH9
 have L9:=(L6.grow e7).grow e9
 refine HC.mono (obj_Car_c L9.view hB.word) ?_
 rintro _ H10 ⟨rfl,e10⟩
 refine⟨_,_,rfl,?_⟩
 rw[if_pos rfl,if_pos rfl]
 have hcar:x6.sp.mem.halfE w 0=0/\x6.sp.mem.get (w / 8+0)=12:=by
  cases hB with
  | pair h hq ha hb=>
   refine⟨h.half.1,?_⟩
   cases ha with
   | con h1=>
    have h1:some (12:Int)=some _:=h1
    have hcr:=h.car
    rw[Int.add_zero,hcr]
    exact(Option.some.inj h1).symm
 rw[show mof (some (k,x6))=x6.sp.mem from rfl,if_pos hcar.1,hcar.1,hcar.2]
 have hDb:b2 ∉ k.all++syB x.sy:=(Out.fresh L3 (SyAt.nil hsy) (Nat.le_of_eq hb2.symm) (lt_size g5):Out H5 k x b2).not
 have g10:=((e7.trans e9).trans e10).get (st.fr.get hDb g5)
 refine⟨_,_,_,_,_,_,_,_,_,_,box_row (e10.get g9),_,_,_,_,_,_,_,_,_,_,box_row g10,?_⟩
 refine HC.mono (ref03_Same_c d17 ((hD7 rfl).ext (e9.trans e10)) ((((D5.step st).ext e7).ext e9).ext e10) light17) ?_
 rintro _ H11 ⟨rfl,e11⟩
 exact⟨_,rfl,hR _ _ ⟨rfl,((((L6.ext.trans e7).trans e9).trans e10).trans e11)⟩⟩
end Go.Proofs.YtibpklpgmgakcaaGreatDoor

namespace Go.Proofs.YtibpklpgmgakcaaGreatDoor
open Go

structure NewHeap (H0 H:Array Obj) (k:Blk) (x:Hp) (n:Int):Prop where
 live:Live H0 H k x
 count:x.sp.mem.count=0
 even:x.sp.mem.Even
 free:x.sp.mem.free=n
 sy:x.sy=.slice none 0 0
 words:x.sp.mem.words [0]=0
theorem new_heap{H:Array Obj}{n:Int}(hn:8<=n/\n<=1024):obj_New.C n H (λv H'=> ∃(k:Blk) (x:Hp),v=.tuple #[.pointer (some ⟨k.h,0,none⟩),.int .i64 0]/\NewHeap H H' k x n):=by
 refine HC.mono (obj_New_c ⟨by omega,by omega⟩) ?_
 rintro _ H1 (⟨hno,_⟩ | ⟨_,k,x,rfl,V1,hx,e1,hy⟩)
 ·exact absurd hn hno
 refine⟨k,x,rfl,⟨V1.inv.2.1,V1.inv.2.2,e1,hy⟩,by subst hx;rfl,by subst hx;exact even_fresh _,?_,by subst hx;rfl,?_⟩
 ·subst hx
  show((n.toNat:Nat):Int)=n
  omega
 ·subst hx
  exact words_fresh _ _
end Go.Proofs.YtibpklpgmgakcaaGreatDoor

