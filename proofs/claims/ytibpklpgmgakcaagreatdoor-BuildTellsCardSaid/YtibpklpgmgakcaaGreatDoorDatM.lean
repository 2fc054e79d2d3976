/-
 Data (api.Datum) as trees on the heap: weigh, heavy, Depth, bare, plain, May of the document, Same. Proves nothing of any one program.
-/
import Derived.Test.YtibpklpgmgakcaaGreatDoorRunesR
import Derived.Test.YtibpklpgmgakcaaGreatDoorNumH
import Derived.Test.YtibpklpgmgakcaaGreatDoorRef02M
import Derived.Test.YtibpklpgmgakcaaGreatDoorRow
import Derived.Test.YtibpklpgmgakcaaGreatDoorLiveT
import Derived.Test.YtibpklpgmgakcaaGreatDoorFnsC
import Derived.Test.YtibpklpgmgakcaaGreatDoorFref03
import Derived.Test.YtibpklpgmgakcaaGreatDoorFref031
import Derived.Test.YtibpklpgmgakcaaGreatDoorFdatum
import Derived.Test.YtibpklpgmgakcaaGreatDoorValid
import Derived.Test.YtibpklpgmgakcaaGreatDoorSyms
import Derived.Test.YtibpklpgmgakcaaGreatDoorLx
import Derived.Test.YtibpklpgmgakcaaGreatDoorFunicodeutf8
set_option linter.unusedVariables false
set_option linter.unusedSimpArgs false
namespace Go.Proofs.YtibpklpgmgakcaaGreatDoor
open Go

theorem addr_block_add(a:Addr)(n:Nat):(a.add n).block=a.block:=by unfold Addr.add;split<;>rfl
inductive Dt where
 | mk (k c:Int) (neg:Bool) (mag:List Int) (t:ByteArray) (l:List Dt):Dt
theorem Dt.ind{P:Dt->Prop}(h: ∀k c n m t l,(∀x∈l,P x)->P (.mk k c n m t l))(d:Dt):P d:=
 Dt.rec (motive_1:=P) (motive_2:=λl=> ∀x∈l,P x) (λk c n m t l ih=>h k c n m t l ih) (by simp) (λd r hd hr x hx=>by
  rcases List.mem_cons.1 hx with e | e
  ·subst e;exact hd
  ·exact hr x e) d
theorem SrcAt.stay{S:List Nat}{H H':Array Obj}{p:Option Addr}{xs:List Value}(h:SrcAt H p xs)(f:Fr S H H')(hd: ∀i∈blks p,i ∉ S):SrcAt H' p xs:=by
 cases p with
 | none=>exact h
 | some a=>exact f.rowAt (hd _ (by simp)) h
def Dt.kind:Dt->Int | .mk k _ _ _ _ _=>k
def Dt.l:Dt->List Dt | .mk _ _ _ _ _ l=>l
structure Dv where
 kind:Int
 c:Int
 neg:Bool
 mB:Option Addr
 mN:Nat
 mC:Nat
 t:ByteArray
 lB:Option Addr
 lN:Nat
 lC:Nat
abbrev Dv.cells(v:Dv):List Value:=[.int .i64 v.kind,.int .i32 v.c,.bool v.neg,.slice v.mB v.mN v.mC,.string v.t,.slice v.lB v.lN v.lC]
inductive DatAt (P:Nat->Prop) (H:Array Obj):Dv->Dt->Prop
 | mk (v:Dv) (k c:Int) (neg:Bool) (mag:List Int) (t:ByteArray) (l:List Dt) (vs:List Dv) (ek:v.kind=k) (ec:v.c=c) (en:v.neg=neg) (et:v.t=t) (hk:I64 k) (hc: -2147483648<=c/\c<=2147483647)
  (hm:v.mN=mag.length) (hmc:v.mN<=v.mC) (hmb:v.mN<9223372036854775808) (hsrc:SrcAt H v.mB (lvs mag)) (hlm: ∀x∈mag,IsLimb x) (hl:v.lN=l.length) (hlc:v.lN<=v.lC) (hlb:v.lN<9223372036854775808) (hvs:vs.length=l.length)
  (mP:mag≠[]-> ∀i∈blks v.mB,P i) (lP:l≠[]-> ∀i∈blks v.lB,P i)
  (row: ∀(i:Nat) (h:i<vs.length),∃a,v.lB=some a/\RowAt H (a.add (i*6)) 0 vs[i].cells)
  (each: ∀(i:Nat) (h1:i<vs.length) (h2:i<l.length),DatAt P H vs[i] l[i]):DatAt P H v (.mk k c neg mag t l)
theorem DatAt.keep{P Q:Nat->Prop}{S:List Nat}{H H':Array Obj}(f:Fr S H H')(hS: ∀i∈S,¬P i)(hQ: ∀i,P i->Q i){v:Dv}{d:Dt}(h:DatAt P H v d):DatAt Q H' v d:=by
 induction h with
 | mk v k c neg mag t l vs ek ec en et hk hc hm hmc hmb hsrc hlm hl hlc hlb hvs mP lP row each ih=>
  refine .mk v k c neg mag t l vs ek ec en et hk hc hm hmc hmb ?_ hlm hl hlc hlb hvs (λh0 i hi=>hQ i (mP h0 i hi)) (λh0 i hi=>hQ i (lP h0 i hi)) (λi h=>?_) ih
  ·by_cases h0:mag=[]
   ·subst h0
    unfold SrcAt at hsrc⊢
    cases hB:v.mB with
    | none=>rfl
    | some a=>exact rowAt_of λj v hv=>by simp[lvs]at hv
   ·exact SrcAt.stay hsrc f (λi hi hs=>hS i hs (mP h0 i hi))
  obtain⟨a,ha,hr⟩:=row i h
  have hb:=lP (λh0=>by subst h0;rw[hvs]at h;simp at h) a.block (by rw[ha];simp)
  exact⟨a,ha,f.rowAt (by rw[addr_block_add];exact λhs=>hS _ hs hb) hr⟩
theorem DatAt.ext{P:Nat->Prop}{H H':Array Obj}{v:Dv}{d:Dt}(h:DatAt P H v d)(e:Ext H H'):DatAt P H' v d:=h.keep (S:=[]) e.fr (by simp) (λ_ h=>h)
theorem DatAt.any{P:Nat->Prop}{H:Array Obj}{v:Dv}{d:Dt}(h:DatAt P H v d):DatAt (λ_=>True) H v d:=h.keep (S:=[]) (Fr.refl _ _) (by simp) (λ_ _=>trivial)
structure DBox (H:Array Obj) (b:Nat) (v:Dv):Prop where
 kind:hat H (Addr.mk b 0 none)=some (.int .i64 v.kind)
 c:hat H ((Addr.mk b 0 none).add 1)=some (.int .i32 v.c)
 neg:hat H ((Addr.mk b 0 none).add 2)=some (.bool v.neg)
 mag:hat H (((Addr.mk b 0 none).add 2).add 1)=some (.slice v.mB v.mN v.mC)
 num:RowAt H ((Addr.mk b 0 none).add 2) 0 [.bool v.neg,.slice v.mB v.mN v.mC]
 t:hat H ((Addr.mk b 0 none).add 4)=some (.string v.t)
 l:hat H ((Addr.mk b 0 none).add 5)=some (.slice v.lB v.lN v.lC)
 row:RowAt H (Addr.mk b 0 none) 0 v.cells
theorem DBox.of{H:Array Obj}{b:Nat}{v:Dv}{T:TypeId}{fz:Nat×Nat}(g:H[b]?=some (.cells v.cells.toArray T fz)):DBox H b v:=by
 have hr:RowAt H (Addr.mk b 0 none) 0 v.cells:=box_row g
 refine⟨by rw[hat_blk g];rfl,by rw[box_get g];rfl,by rw[box_get g];rfl,by rw[addr_add2,box_get g];rfl,RowAt.sub 2 hr rfl,by rw[box_get g];rfl,by rw[box_get g];rfl,hr⟩
theorem DBox.new{H H1:Array Obj}{b:Nat}{v:Dv}{T:TypeId}(hb:b=H.size)(hH:H1=H.push (.cells #[.int .i64 v.kind,.int .i32 v.c,.bool v.neg,.slice v.mB v.mN v.mC,.string v.t,.slice v.lB v.lN v.lC] T)):DBox H1 b v:=.of (push_get hb hH)
theorem DBox.ext{H H':Array Obj}{b:Nat}{v:Dv}(h:DBox H b v)(e:Ext H H'):DBox H' b v:=
 ⟨e.hat h.kind,e.hat h.c,e.hat h.neg,e.hat h.mag,e.rowAt h.num,e.hat h.t,e.hat h.l,e.rowAt h.row⟩
theorem DBox.keep{S:List Nat}{H H':Array Obj}{b:Nat}{v:Dv}(h:DBox H b v)(f:Fr S H H')(hb:b ∉ S):DBox H' b v:=
 ⟨f.hat hb h.kind,f.hat (by simpa using hb) h.c,f.hat (by simpa using hb) h.neg,f.hat (by simpa using hb) h.mag,f.rowAt (by simpa using hb) h.num,f.hat (by simpa using hb) h.t,f.hat (by simpa using hb) h.l,f.rowAt hb h.row⟩

mutual
def countD:Dt->Int
 | .mk _ _ _ _ _ l=>1+countL l
def countL:List Dt->Int
 | []=>0
 | d::r=>countD d+countL r
end
theorem countL_of{l:List Dt}(h: ∀x∈l,1<=countD x):0<=countL l/\(l.length:Int)<=countL l:=by
 induction l with
 | nil=>simp[countL]
 | cons d r ih=>
  have h1:=h d (by simp)
  have h2:=ih (λx hx=>h x (by simp[hx]))
  simp only[countL,List.length_cons]
  omega
theorem countD_pos(d:Dt):1<=countD d:=by
 induction d using Dt.ind with
 | h k c n m t l ih=>have:=countL_of ih;simp only[countD];omega
theorem countL_pos(l:List Dt):0<=countL l/\(l.length:Int)<=countL l:=countL_of (λx _=>countD_pos x)
theorem countL_mem{l:List Dt}{x:Dt}(h:x∈l):countD x<=countL l:=by
 induction l with
 | nil=>simp at h
 | cons d r ih=>
  simp only[countL]
  have h1:=countD_pos d
  have h2:=(countL_pos r).1
  rcases List.mem_cons.1 h with e | h
  ·subst e;omega
  ·have:=ih h;omega
inductive Light:Dt->Prop
 | mk {k c neg mag t l} (ht:t.size<=1000) (hm:mag.length<=300) (each: ∀x∈l,Light x):Light (.mk k c neg mag t l)
def mx(a b:Int):Int:=if a<b then b else a
theorem mx_le{a b c:Int}(h1:a<=c)(h2:b<=c):mx a b<=c:=by unfold mx;split<;>assumption
theorem le_mx(a b:Int):a<=mx a b/\b<=mx a b:=by unfold mx;split<;>omega
theorem mx_max(a b:Int):mx a b=max a b:=by unfold mx;rw[Int.max_def];split<;>split<;>omega
theorem mx_mx(a b c:Int):mx (mx a b) c=mx (mx a c) b:=by simp only[mx_max];omega
mutual
def depthD:Dt->Int
 | .mk k _ _ _ _ l=>depthL k l (if k=8 then 1 else 0)
def depthL(k:Int):List Dt->Int->Int
 | [],n=>n
 | x::r,n=>depthL k r (mx n (if k=7/\r=[]/\x.kind=7 then depthD x else depthD x+1))
end
def innD(k:Int)(x:Dt)(r:List Dt):Int:=if k=7/\r=[]/\x.kind=7 then depthD x else depthD x+1
theorem depthL_cons(k:Int)(x:Dt)(r:List Dt)(n:Int):depthL k (x::r) n=depthL k r (mx n (innD k x r)):=rfl
theorem depthL_mx(k:Int): ∀(l:List Dt) (n m:Int),depthL k l (mx n m)=mx (depthL k l n) m
 | [],n,m=>rfl
 | x::r,n,m=>by rw[depthL_cons,depthL_cons,mx_mx,depthL_mx k r]
theorem depthL_of{k:Int}{l:List Dt}(h: ∀x∈l,0<=depthD x/\depthD x<=countD x): ∀n,n<=depthL k l n/\depthL k l n<=mx n (countL l+1):=by
 induction l with
 | nil=>intro n;exact⟨Int.le_refl _,(le_mx _ _).1⟩
 | cons x r ih=>
  intro n
  rw[depthL_cons]
  have hx:=h x (by simp)
  have ih:=ih (λy hy=>h y (by simp[hy])) (mx n (innD k x r))
  have h1:=le_mx n (innD k x r)
  have hi:innD k x r<=countD x+1:=by unfold innD;split<;>omega
  refine⟨by omega,Int.le_trans ih.2 ?_⟩
  simp only[countL]
  have hc:=(countL_pos r).1
  have hcx:=countD_pos x
  have h2:=le_mx n (countD x+countL r+1)
  refine mx_le (mx_le h2.1 (by omega)) (by omega)
theorem depthD_of(d:Dt):0<=depthD d/\depthD d<=countD d:=by
 induction d using Dt.ind with
 | h k c n m t l ih=>
  simp only[depthD,countD]
  have hc:=(countL_pos l).1
  have h:=depthL_of (k:=k) ih (if k=8 then 1 else 0)
  have h2:mx (if k=8 then 1 else 0) (countL l+1)<=1+countL l:=mx_le (by split<;>omega) (by omega)
  refine⟨?_,by omega⟩
  have:(0:Int)<=if k=8 then 1 else 0:=by split<;>omega
  omega
theorem drop_nil{α:Type}{l:List α}{i:Nat}(h:i<l.length):l.drop (i+1)=[] ↔ i+1=l.length:=by
 rw[List.drop_eq_nil_iff];omega
theorem DatAt.vkind{P:Nat->Prop}{H:Array Obj}{v:Dv}{d:Dt}(h:DatAt P H v d):v.kind=d.kind:=by cases h;simp only[Dt.kind];assumption
theorem ref_Depth_c(d:Dt): ∀{P:Nat->Prop} {H:Array Obj} {v:Dv} (D:DatAt P H v d) (hl:countD d<=1000000),
  moraineref03_Depth.C v.kind v.c v.neg v.mB v.mN v.mC v.t v.lB v.lN v.lC H (λw H'=>w=.int .i64 (depthD d)/\Ext H H'):=by
 induction d using Dt.ind with
 | h k c neg mag t l ih=>
 intro P H v D hcount
 cases D with
 | mk _ _ _ _ _ _ _ vs ek ec en et hk hc hm hmc hmb hsrc hlm hll hlc hlb hvs mP lP row each=>
 refine HC.via λR hR=>moraineref03_Depth.link ?_
 unfold moraineref03_Depth.pt
 intro b H1 hb hH1
 have e1:=Ext.push' hH1
 have B:=DBox.new (v:=v) hb hH1
 simp only[countD]at hcount
 have hcl:=countL_pos l
 refine⟨λn i A=>(0<=i/\i<=v.lN)/\(0<=n/\n<=2000000)/\depthL k (l.drop i.toNat) n=depthL k l 0/\Ext H1 A,λ_ i _=>(v.lN-i).toNat,⟨by omega,by omega,rfl,Ext.refl _⟩,?_⟩
 rintro n i A ⟨hi,hn,hw,eA⟩
 have BA:=B.ext eA
 refine⟨_,_,_,BA.l,?_⟩
 by_cases hlt:i< (v.lN:Int)
 ·rw[if_pos hlt]
  obtain⟨a,ha,hr⟩:=row i.toNat (by omega)
  have hin:i.toNat<l.length:=by omega
  have hmem:l[i.toNat]∈l:=List.getElem_mem hin
  have hcx:=countL_mem hmem
  have hdx:=depthD_of l[i.toNat]
  have hD:=(each i.toNat (by omega) hin).ext (e1.trans eA)
  refine⟨_,_,_,BA.l,a,ha,⟨hi.1,hlt⟩,_,_,_,_,_,_,_,_,_,_,(e1.trans eA).rowAt hr,?_⟩
  refine HC.mono (ih l[i.toNat] hmem hD (by omega)) ?_
  rintro _ H3 ⟨rfl,e3⟩
  rw[List.drop_eq_getElem_cons hin,depthL_cons]at hw
  have B3:=BA.ext e3
  have w1:IntKind.wrap .i64 (depthD l[i.toNat]+1)=depthD l[i.toNat]+1:=w64 (by omega)
  have w2:IntKind.wrap .i64 (i+1)=i+1:=w64 (by omega)
  have w3:IntKind.wrap .i64 ((v.lN:Int)-1)=(v.lN:Int)-1:=w64 (by omega)
  have fin: ∀x:Int,innD k l[i.toNat] (l.drop (i.toNat+1))=x->(0<=x/\x<=2000000)->((0<=i+1/\i+1<=(v.lN:Int))/\(0<=(if n<x then x else n)/\(if n<x then x else n)<=2000000)/\depthL k (l.drop (i+1).toNat) (if n<x then x else n)=depthL k l 0/\Ext H1 H3)/\((v.lN:Int)-(i+1)).toNat< ((v.lN:Int)-i).toNat:=λx hx hb=>by
   refine⟨⟨by omega,by split<;>omega,?_,eA.trans e3⟩,by omega⟩
   rw[hx]at hw
   rw[show(i+1).toNat=i.toNat+1 by omega];exact hw
  have hdn:=drop_nil hin
  refine⟨_,rfl,_,B3.kind,?_⟩
  rw[ek,w1,w2]
  by_cases h7:k=7
  ·rw[if_pos h7]
   refine⟨_,_,_,B3.l,?_⟩
   rw[w3]
   by_cases hlast:i=(v.lN:Int)-1
   ·rw[if_pos hlast]
    refine⟨_,_,_,B3.l,a,ha,⟨hi.1,hlt⟩,vs[i.toNat].kind,?_,?_⟩
    ·have:=rowAt_hat (((e1.trans eA).trans e3).rowAt hr) 0 (.int .i64 vs[i.toNat].kind) rfl
     simpa[addr_plus0]using this
    rw[hD.vkind]
    by_cases hx7:l[i.toNat].kind=7
    ·rw[if_pos hx7]
     exact fin _ (by unfold innD;rw[if_pos ⟨h7,hdn.2 (by omega),hx7⟩]) (by omega)
    ·rw[if_neg hx7]
     exact fin _ (by unfold innD;rw[if_neg (λh=>hx7 h.2.2)]) (by omega)
   ·rw[if_neg hlast]
    exact fin _ (by unfold innD;rw[if_neg (λh=>hlast (by have:=hdn.1 h.2.1;omega))]) (by omega)
  ·rw[if_neg h7]
   exact fin _ (by unfold innD;rw[if_neg (λh=>h7 h.1)]) (by omega)
 ·rw[if_neg hlt]
  rw[List.drop_eq_nil_of_le (by omega)]at hw
  have hw:n=depthL k l 0:=hw
  refine⟨_,BA.kind,?_⟩
  rw[ek]
  by_cases h8:k=8
  ·rw[if_pos h8]
   refine hR _ _ ⟨?_,e1.trans eA⟩
   have:depthD (.mk k c neg mag t l)=mx (depthL k l 0) 1:=by
    simp only[depthD];rw[if_pos h8,<-depthL_mx];rfl
   rw[this,<-hw];rfl
  ·rw[if_neg h8]
   refine hR _ _ ⟨?_,e1.trans eA⟩
   simp only[depthD];rw[if_neg h8,<-hw]
theorem dat_Depth_c(d:Dt): ∀{P:Nat->Prop} {H:Array Obj} {v:Dv} (D:DatAt P H v d) (hl:countD d<=1000000),
  datum_Depth.C v.kind v.c v.neg v.mB v.mN v.mC v.t v.lB v.lN v.lC H (λw H'=>w=.int .i64 (depthD d)/\Ext H H'):=by
 induction d using Dt.ind with
 | h k c neg mag t l ih=>
 intro P H v D hcount
 cases D with
 | mk _ _ _ _ _ _ _ vs ek ec en et hk hc hm hmc hmb hsrc hlm hll hlc hlb hvs mP lP row each=>
 refine HC.via λR hR=>datum_Depth.link ?_
 unfold datum_Depth.pt
 intro b H1 hb hH1
 have e1:=Ext.push' hH1
 have B:=DBox.new (v:=v) hb hH1
 simp only[countD]at hcount
 have hcl:=countL_pos l
 refine⟨_,B.kind,λn A=>n=(if k=8 then 1 else 0)/\H1=A,?_,?_⟩
 ·rw[ek]
  by_cases h8:k=8
  ·rw[if_pos h8,if_pos h8];exact⟨rfl,rfl⟩
  ·rw[if_neg h8,if_neg h8];exact⟨rfl,rfl⟩
 rintro n0 _ ⟨hn0,rfl⟩
 have hn0b:0<=n0/\n0<=1:=by rw[hn0];split<;>omega
 have hdd:depthD (.mk k c neg mag t l)=depthL k l n0:=by simp only[depthD];rw[hn0]
 refine⟨_,_,_,B.l,λn i A=>(0<=i/\i<=v.lN)/\(0<=n/\n<=2000000)/\depthL k (l.drop i.toNat) n=depthL k l n0/\Ext H1 A,λ_ i _=>(v.lN-i).toNat,⟨by omega,by omega,rfl,Ext.refl _⟩,?_⟩
 rintro n i A ⟨hi,hn,hw,eA⟩
 have BA:=B.ext eA
 by_cases hlt:i< (v.lN:Int)
 ·rw[if_pos hlt]
  obtain⟨a,ha,hr⟩:=row i.toNat (by omega)
  have hin:i.toNat<l.length:=by omega
  have hmem:l[i.toNat]∈l:=List.getElem_mem hin
  have hcx:=countL_mem hmem
  have hdx:=depthD_of l[i.toNat]
  have hD:=(each i.toNat (by omega) hin).ext (e1.trans eA)
  refine⟨a,ha,⟨hi.1,hlt⟩,_,_,_,_,_,_,_,_,_,_,(e1.trans eA).rowAt hr,λb2 H4 hb2 hH4=>?_⟩
  obtain⟨r1,r2⟩:=box_new (vs:=vs[i.toNat].cells) (n:=6) hb2 hH4 rfl rfl
  refine⟨r1,λH5 hH5=>?_⟩
  obtain⟨g5,e5⟩:=r2 H5 hH5
  have B5:=DBox.of g5
  refine⟨_,_,_,_,_,_,_,_,_,_,B5.row,?_⟩
  refine HC.mono (ih l[i.toNat] hmem (hD.ext e5) (by omega)) ?_
  rintro _ H3 ⟨rfl,e3⟩
  rw[List.drop_eq_getElem_cons hin,depthL_cons]at hw
  have B3:=BA.ext (e5.trans e3)
  have w1:IntKind.wrap .i64 (depthD l[i.toNat]+1)=depthD l[i.toNat]+1:=w64 (by omega)
  have w2:IntKind.wrap .i64 (i+1)=i+1:=w64 (by omega)
  have fin: ∀x:Int,innD k l[i.toNat] (l.drop (i.toNat+1))=x->(0<=x/\x<=2000000)->((0<=i+1/\i+1<=(v.lN:Int))/\(0<=(if n<x then x else n)/\(if n<x then x else n)<=2000000)/\depthL k (l.drop (i+1).toNat) (if n<x then x else n)=depthL k l n0/\Ext H1 H3)/\((v.lN:Int)-(i+1)).toNat< ((v.lN:Int)-i).toNat:=λx hx hb=>by
   refine⟨⟨by omega,by split<;>omega,?_,eA.trans (e5.trans e3)⟩,by omega⟩
   rw[hx]at hw
   rw[show(i+1).toNat=i.toNat+1 by omega];exact hw
  have hdn:=drop_nil hin
  refine⟨_,rfl,_,B3.kind,?_⟩
  rw[ek,w1,w2]
  by_cases h7:k=7
  ·rw[if_pos h7]
   refine⟨_,_,_,B3.l,?_⟩
   by_cases hlast:i+1< (v.lN:Int)
   ·rw[if_pos hlast]
    exact fin _ (by unfold innD;rw[if_neg (λh=>by have:=hdn.1 h.2.1;omega)]) (by omega)
   ·rw[if_neg hlast]
    refine⟨_,(B5.ext e3).kind,?_⟩
    rw[hD.vkind]
    by_cases hx7:l[i.toNat].kind=7
    ·rw[if_pos hx7]
     exact fin _ (by unfold innD;rw[if_pos ⟨h7,hdn.2 (by omega),hx7⟩]) (by omega)
    ·rw[if_neg hx7]
     exact fin _ (by unfold innD;rw[if_neg (λh=>hx7 h.2.2)]) (by omega)
  ·rw[if_neg h7]
   exact fin _ (by unfold innD;rw[if_neg (λh=>h7 h.1)]) (by omega)
 ·rw[if_neg hlt]
  rw[List.drop_eq_nil_of_le (by omega)]at hw
  have hw:n=depthL k l n0:=hw
  exact hR _ _ ⟨by rw[hdd,hw],e1.trans eA⟩
end Go.Proofs.YtibpklpgmgakcaaGreatDoor

namespace Go.Proofs.YtibpklpgmgakcaaGreatDoor
open Go

theorem nil_text(s:ByteArray):s.toList=(ByteArray.mk #[]).toList ↔ s.size=0:=by
  rw[Lib.toList_data,Lib.toList_data]
  constructor
  · intro h
    have:s.data.size=0:=by simpa using congrArg List.length h
    exact this
  · intro h
    have h:s.data.size=0:=h
    rw[Array.size_eq_zero_iff.1 h]
def BareP(has:Int)(v:Dv):Prop:=(iand .i64 has 1=0->v.c=0)/\(iand .i64 has 2=0->v.neg=false/\v.mN=0)/\(iand .i64 has 4=0->v.t.size=0)/\(iand .i64 has 8=0->v.lN=0)
theorem ref_bare_c{H:Array Obj}{v:Dv}{has:Int}:
    moraineref03_bare.C v.kind v.c v.neg v.mB v.mN v.mC v.t v.lB v.lN v.lC has H (λw H'=>(∃q:Bool,w=.bool q/\(q=true ↔ BareP has v))/\Ext H H'):=by
  refine HC.via λR hR=>moraineref03_bare.link ?_
  unfold moraineref03_bare.pt
  intro b H1 hb hH1
  have e1:=Ext.push' hH1
  have B:=DBox.new (v:=v) hb hH1
  have no: ¬BareP has v->R (.bool false) H1:=λh=>hR _ _ ⟨⟨_,rfl,by simp[h]⟩,e1⟩
  have k8:(iand .i64 has 1=0->v.c=0)->(iand .i64 has 2=0->v.neg=false/\v.mN=0)->(iand .i64 has 4=0->v.t.size=0)->
      (if iand .i64 has 8=0 then(∃xB:Option Addr,∃xN:Nat,∃xC:Nat,hat H1 ((Addr.mk b 0 none).add 5)=some (.slice xB xN xC)/\R (.bool ((xN:Int)==0)) H1)else R (.bool true) H1):=λh1 h2 h4=>by
    by_cases h:iand .i64 has 8=0
    · rw[if_pos h]
      refine⟨_,_,_,B.l,hR _ _ ⟨⟨_,rfl,?_⟩,e1⟩⟩
      constructor
      · intro hq
        exact⟨h1,h2,h4,λ_=>by simpa using hq⟩
      · intro hq
        simp[hq.2.2.2 h]
    · rw[if_neg h]
      exact hR _ _ ⟨⟨_,rfl,by simp;exact⟨h1,h2,h4,λh'=>absurd h' h⟩⟩,e1⟩
  have k4:(iand .i64 has 1=0->v.c=0)->(iand .i64 has 2=0->v.neg=false/\v.mN=0)->
      (if iand .i64 has 4=0 then(∃x_3:ByteArray,hat H1 ((Addr.mk b 0 none).add 4)=some (.string x_3)/\
        if x_3.toList=(ByteArray.mk #[]).toList then(if iand .i64 has 8=0 then(∃xB:Option Addr,∃xN:Nat,∃xC:Nat,hat H1 ((Addr.mk b 0 none).add 5)=some (.slice xB xN xC)/\R (.bool ((xN:Int)==0)) H1)else R (.bool true) H1)else R (.bool false) H1)
       else(if iand .i64 has 8=0 then(∃xB:Option Addr,∃xN:Nat,∃xC:Nat,hat H1 ((Addr.mk b 0 none).add 5)=some (.slice xB xN xC)/\R (.bool ((xN:Int)==0)) H1)else R (.bool true) H1)):=λh1 h2=>by
    by_cases h:iand .i64 has 4=0
    · rw[if_pos h]
      refine⟨_,B.t,?_⟩
      by_cases ht:v.t.toList=(ByteArray.mk #[]).toList
      · rw[if_pos ht];exact k8 h1 h2 (λ_=>(nil_text _).1 ht)
      · rw[if_neg ht];exact no λhb=>ht ((nil_text _).2 (hb.2.2.1 h))
    · rw[if_neg h];exact k8 h1 h2 (λh'=>absurd h' h)
  by_cases h1:iand .i64 has 1=0
  · rw[if_pos h1]
    refine⟨_,B.c,?_⟩
    by_cases hc:v.c=0
    · rw[if_pos hc]
      by_cases h2:iand .i64 has 2=0
      · rw[if_pos h2]
        refine⟨_,B.neg,?_⟩
        by_cases hn:v.neg=true
        · rw[if_pos hn];exact no λhb=>by have:=(hb.2.1 h2).1;rw[hn]at this;cases this
        · rw[if_neg hn]
          refine⟨_,_,_,B.mag,?_⟩
          by_cases hm:(v.mN:Int)=0
          · rw[if_pos hm];exact k4 (λ_=>hc) (λ_=>⟨by simpa using hn,by omega⟩)
          · rw[if_neg hm];exact no λhb=>by have:=(hb.2.1 h2).2;omega
      · rw[if_neg h2];exact k4 (λ_=>hc) (λh'=>absurd h' h2)
    · rw[if_neg hc];exact no λhb=>hc (hb.1 h1)
  · rw[if_neg h1]
    by_cases h2:iand .i64 has 2=0
    · rw[if_pos h2]
      refine⟨_,B.neg,?_⟩
      by_cases hn:v.neg=true
      · rw[if_pos hn];exact no λhb=>by have:=(hb.2.1 h2).1;rw[hn]at this;cases this
      · rw[if_neg hn]
        refine⟨_,_,_,B.mag,?_⟩
        by_cases hm:(v.mN:Int)=0
        · rw[if_pos hm];exact k4 (λh'=>absurd h' h1) (λ_=>⟨by simpa using hn,by omega⟩)
        · rw[if_neg hm];exact no λhb=>by have:=(hb.2.1 h2).2;omega
    · rw[if_neg h2];exact k4 (λh'=>absurd h' h1) (λh'=>absurd h' h2)
def textOK(t:ByteArray):Prop:=Lib.validD t.data.toList=true/\(runesOf t).length<=62
inductive Plain:Dt->Prop
  | mk {k c neg mag t l} (hk:0<=k/\k<=10) (hc:k≠3->c=0) (hc3:k=3->charB c=true) (hn:k≠4->neg=false/\mag=[]) (h4:k=4->mayR neg mag=true)
    (ht:k≠5->k≠6->t.size=0) (h56:k=5\/k=6->textOK t) (h6:k=6->1<=(runesOf t).length) (hl:k≠7->k≠8->l=[]) (h7:k=7->l.length=2) (h62:l.length<=62) (each: ∀x∈l,Plain x):Plain (.mk k c neg mag t l)
theorem ref_plain_c(d:Dt): ∀{P:Nat->Prop} {H:Array Obj} {v:Dv} (D:DatAt P H v d) (hl:Light d),
    moraineref03_plain.C v.kind v.c v.neg v.mB v.mN v.mC v.t v.lB v.lN v.lC H (λw H'=>(∃q:Bool,w=.bool q/\(q=true ↔ Plain d))/\Ext H H'):=by
  induction d using Dt.ind with
  | h k c neg mag t l ih=>
  intro P H v D hlight
  cases D with
  | mk _ _ _ _ _ _ _ vs ek ec en et hk hc hm hmc hmb hsrc hlm hll hlc hlb hvs mP lP row each=>
  subst et
  have hli:v.t.size<=1000/\mag.length<=300/\ ∀x∈l,Light x:=by cases hlight;exact⟨by assumption,by assumption,by assumption⟩
  obtain⟨hl1,hl2,hl3⟩:=hli
  refine HC.via λR hR=>moraineref03_plain.link ?_
  unfold moraineref03_plain.pt
  intro b H1 hb hH1
  have e1:=Ext.push' hH1
  have B:=DBox.new (v:=v) hb hH1
  have no: ∀A,Ext H1 A-> ¬Plain (.mk k c neg mag v.t l)->R (.bool false) A:=λA eA hno=>hR _ _ ⟨⟨_,rfl,by simp[hno]⟩,e1.trans eA⟩
  have pl:Plain (.mk k c neg mag v.t l)->(0<=k/\k<=10)/\(k≠3->c=0)/\(k=3->charB c=true)/\(k≠4->neg=false/\mag=[])/\(k=4->mayR neg mag=true)/\(k≠5->k≠6->v.t.size=0)/\(k=5\/k=6->textOK v.t)/\(k=6->1<=(runesOf v.t).length)/\(k≠7->k≠8->l=[])/\(k=7->l.length=2)/\l.length<=62/\ ∀x∈l,Plain x:=λh=>by
    cases h with
    | mk a1 a2 a3 a4 a5 a6 a7 a8 a9 a10 a11 a12=>exact⟨a1,a2,a3,a4,a5,a6,a7,a8,a9,a10,a11,a12⟩
  have bits: ∀has:Int,(has=0\/has=1\/has=2\/has=4\/has=8)->(iand .i64 has 1=0 ↔ has≠1)/\(iand .i64 has 2=0 ↔ has≠2)/\(iand .i64 has 4=0 ↔ has≠4)/\(iand .i64 has 8=0 ↔ has≠8):=λhas h=>by
    rcases h with h | h | h | h | h<;>subst h<;>decide
  have bare: ∀has:Int,(has=0\/has=1\/has=2\/has=4\/has=8)->BareP has v->(has≠1->c=0)/\(has≠2->neg=false/\mag=[])/\(has≠4->v.t.size=0)/\(has≠8->l=[]):=λhas h hb=>by
    obtain⟨b1,b2,b4,b8⟩:=bits has h
    obtain⟨p1,p2,p4,p8⟩:=hb
    exact⟨λh=>ec▸p1 (b1.2 h),λh=>⟨en▸(p2 (b2.2 h)).1,List.eq_nil_of_length_eq_zero (by rw[<-hm];exact(p2 (b2.2 h)).2)⟩,λh=>p4 (b4.2 h),λh=>List.eq_nil_of_length_eq_zero (by rw[<-hll];exact p8 (b8.2 h))⟩
  have nob: ∀has:Int,(has=0\/has=1\/has=2\/has=4\/has=8)->(has=1\/k≠3)->(has=2\/k≠4)->(has=4\/(k≠5/\k≠6))->(has=8\/(k≠7/\k≠8))-> ¬BareP has v-> ¬Plain (.mk k c neg mag v.t l):=λhas h x1 x2 x4 x8 hn hp=>by
    obtain⟨b1,b2,b4,b8⟩:=bits has h
    obtain⟨_,a2,_,a4,_,a6,_,_,a9,_⟩:=pl hp
    refine hn ⟨λh=>?_,λh=>?_,λh=>?_,λh=>?_⟩
    · rw[ec];exact a2 (x1.resolve_left (b1.1 h))
    · have:=a4 (x2.resolve_left (b2.1 h));exact⟨by rw[en];exact this.1,by rw[hm,this.2];rfl⟩
    · have:=x4.resolve_left (b4.1 h);exact a6 this.1 this.2
    · have:=x8.resolve_left (b8.1 h);rw[hll,a9 this.1 this.2];rfl
  refine⟨_,B.kind,?_⟩
  rw[ek]
  refine⟨λq A=>(q=true ↔ (k=0\/k=1\/k=2\/k=9\/k=10))/\H1=A,?_,?_⟩
  · by_cases h0:k=0
    · rw[if_pos h0];exact⟨by simp[h0],rfl⟩
    rw[if_neg h0]
    by_cases h1:k=1
    · rw[if_pos h1];exact⟨by simp[h1],rfl⟩
    rw[if_neg h1]
    by_cases h2:k=2
    · rw[if_pos h2];exact⟨by simp[h2],rfl⟩
    rw[if_neg h2]
    by_cases h9:k=9
    · rw[if_pos h9];exact⟨by simp[h9],rfl⟩
    rw[if_neg h9]
    exact⟨by simp[h0,h1,h2,h9],rfl⟩
  rintro q _ ⟨hq,rfl⟩
  by_cases hq1:q=true
  · rw[if_pos hq1]
    have hq:=hq.1 hq1
    refine⟨_,_,_,_,_,_,_,_,_,_,B.row,HC.mono ref_bare_c ?_⟩
    rintro _ H2 ⟨⟨q2,rfl,h2⟩,e2⟩
    refine⟨_,rfl,hR _ _ ⟨⟨_,rfl,⟨λhh=>?_,λhp=>?_⟩⟩,e1.trans e2⟩⟩
    case refine_2=>
      by_cases hh:q2=true
      · exact hh
      · exact absurd hp (nob 0 (by simp) (.inr (by omega)) (.inr (by omega)) (.inr (by omega)) (.inr (by omega)) (λhb=>hh (h2.2 hb)))
    obtain⟨p1,p2,p4,p8⟩:=bare 0 (by simp) (h2.1 hh)
    have p1:=p1 (by decide);have p2:=p2 (by decide);have p4:=p4 (by decide);have p8:=p8 (by decide)
    exact .mk (by omega) (λ_=>p1) (λh=>by omega) (λ_=>p2) (λh=>by omega) (λ_ _=>p4) (λh=>by omega) (λh=>by omega) (λ_ _=>p8) (λh=>by omega) (by rw[p8];simp) (by rw[p8];simp)
  rw[if_neg hq1]
  have hq: ¬(k=0\/k=1\/k=2\/k=9\/k=10):=λh=>hq1 (hq.2 h)
  by_cases h3:k=3
  · rw[if_pos h3]
    refine⟨_,_,_,_,_,_,_,_,_,_,B.row,HC.mono ref_bare_c ?_⟩
    rintro _ H2 ⟨⟨q2,rfl,h2⟩,e2⟩
    refine⟨_,rfl,?_⟩
    by_cases hh:q2=true
    · rw[if_pos hh]
      refine⟨_,(B.ext e2).c,HC.mono ref_Char_c ?_⟩
      rintro _ H3 ⟨rfl,rfl⟩
      refine⟨_,rfl,hR _ _ ⟨⟨_,rfl,⟨λhch=>?_,λhp=>by rw[ec];exact(pl hp).2.2.1 h3⟩⟩,e1.trans e2⟩⟩
      obtain⟨p1,p2,p4,p8⟩:=bare 1 (by simp) (h2.1 hh)
      have p2:=p2 (by decide);have p4:=p4 (by decide);have p8:=p8 (by decide)
      exact .mk (by omega) (λh=>absurd h3 h) (λ_=>ec▸hch) (λ_=>p2) (λh=>by omega) (λ_ _=>p4) (λh=>by omega) (λh=>by omega) (λ_ _=>p8) (λh=>by omega) (by rw[p8];simp) (by rw[p8];simp)
    · rw[if_neg hh];exact no _ e2 (nob 1 (by simp) (.inl rfl) (.inr (by omega)) (.inr (by omega)) (.inr (by omega)) (λhb=>hh (h2.2 hb)))
  rw[if_neg h3]
  by_cases h4:k=4
  · rw[if_pos h4]
    refine⟨_,_,_,_,_,_,_,_,_,_,B.row,HC.mono ref_bare_c ?_⟩
    rintro _ H2 ⟨⟨q2,rfl,h2⟩,e2⟩
    refine⟨_,rfl,?_⟩
    by_cases hh:q2=true
    · rw[if_pos hh]
      refine⟨_,_,_,_,(B.ext e2).num,HC.mono (ref_May_c (hsrc.ext (e1.trans e2)) hm (by omega) hlm) ?_⟩
      rintro _ H3 ⟨⟨q3,rfl,h3'⟩,e3⟩
      refine⟨_,rfl,hR _ _ ⟨⟨_,rfl,⟨λhch=>?_,λhp=>h3'.2 (by rw[en];exact(pl hp).2.2.2.2.1 h4)⟩⟩,(e1.trans e2).trans e3⟩⟩
      obtain⟨p1,p2,p4,p8⟩:=bare 2 (by simp) (h2.1 hh)
      have p1:=p1 (by decide);have p4:=p4 (by decide);have p8:=p8 (by decide)
      exact .mk (by omega) (λ_=>p1) (λh=>by omega) (λh=>absurd h4 h) (λ_=>en▸h3'.1 hch) (λ_ _=>p4) (λh=>by omega) (λh=>by omega) (λ_ _=>p8) (λh=>by omega) (by rw[p8];simp) (by rw[p8];simp)
    · rw[if_neg hh];exact no _ e2 (nob 2 (by simp) (.inr (by omega)) (.inl rfl) (.inr (by omega)) (.inr (by omega)) (λhb=>hh (h2.2 hb)))
  rw[if_neg h4]
  refine⟨λq A=>(q=true ↔ (k=5\/k=6))/\H1=A,?_,?_⟩
  · by_cases h5:k=5
    · rw[if_pos h5];exact⟨by simp[h5],rfl⟩
    rw[if_neg h5]
    exact⟨by simp[h5],rfl⟩
  rintro q _ ⟨hq5,rfl⟩
  by_cases hq1:q=true
  · rw[if_pos hq1]
    have hq5:=hq5.1 hq1
    refine⟨_,B.t,HC.mono (ref_Runes_c (by omega)) ?_⟩
    rintro _ H2 ⟨rB,rN,rC,rfl,hr,e2⟩
    refine⟨_,_,_,_,rfl,_,_,_,_,_,_,_,_,_,_,(B.ext e2).row,HC.mono ref_bare_c ?_⟩
    rintro _ H3 ⟨⟨q2,rfl,h2⟩,e3⟩
    refine⟨_,rfl,?_⟩
    have e23:=e2.trans e3
    by_cases hh:q2=true
    · rw[if_pos hh]
      by_cases hv:Lib.validD v.t.data.toList=true
      · rw[if_pos hv]
        obtain⟨hrn,_,_⟩:=hr hv
        by_cases h62:(rN:Int)<=62
        · rw[if_pos h62]
          refine⟨_,(B.ext e23).kind,hR _ _ ⟨⟨_,rfl,⟨λhch=>?_,λhp=>?_⟩⟩,e1.trans e23⟩⟩
          case refine_2=>
            rw[ek]
            rcases hq5 with h | h
            · simp[h]
            · have:=(pl hp).2.2.2.2.2.2.2.1 h;simp;right;omega
          rw[ek]at hch
          obtain⟨p1,p2,p4,p8⟩:=bare 4 (by simp) (h2.1 hh)
          have p1:=p1 (by decide);have p2:=p2 (by decide);have p8:=p8 (by decide)
          have hch:k=5\/0<rN:=by simpa using hch
          exact .mk (by omega) (λ_=>p1) (λh=>by omega) (λ_=>p2) (λh=>by omega) (λh5 h6=>by omega) (λ_=>⟨hv,by omega⟩) (λh=>by omega) (λ_ _=>p8) (λh=>by omega) (by rw[p8];simp) (by rw[p8];simp)
        · rw[if_neg h62];exact no _ e23 (λhp=>h62 (by have:=((pl hp).2.2.2.2.2.2.1 hq5).2;omega))
      · rw[if_neg hv];exact no _ e23 (λhp=>hv ((pl hp).2.2.2.2.2.2.1 hq5).1)
    · rw[if_neg hh];exact no _ e23 (nob 4 (by simp) (.inr (by omega)) (.inr (by omega)) (.inl rfl) (.inr (by omega)) (λhb=>hh (h2.2 hb)))
  rw[if_neg hq1]
  have hq5: ¬(k=5\/k=6):=λh=>hq1 (hq5.2 h)
  clear hq1
  refine⟨λq A=>(q=true ↔ (k=7\/k=8))/\H1=A,?_,?_⟩
  · by_cases h7:k=7
    · rw[if_pos h7];exact⟨by simp[h7],rfl⟩
    rw[if_neg h7]
    exact⟨by simp[h7],rfl⟩
  rintro q _ ⟨hq7,rfl⟩
  by_cases hq1:q=true
  · rw[if_pos hq1]
    have hq7:=hq7.1 hq1
    refine⟨λq A=>(q=false ↔ BareP 8 v/\(k=7->l.length=2)/\l.length<=62)/\Ext H1 A,?_,?_⟩
    · refine⟨_,_,_,_,_,_,_,_,_,_,B.row,HC.mono ref_bare_c ?_⟩
      rintro _ H2 ⟨⟨q2,rfl,h2⟩,e2⟩
      refine⟨_,rfl,?_⟩
      have B2:=B.ext e2
      by_cases hh:q2=true
      · rw[if_pos hh]
        refine⟨_,B2.kind,?_⟩
        rw[ek]
        by_cases h7:k=7
        · rw[if_pos h7]
          refine⟨_,_,_,B2.l,?_⟩
          by_cases hl2':(v.lN:Int)=2
          · rw[if_pos hl2']
            refine⟨_,_,_,B2.l,⟨⟨λhf=>⟨h2.1 hh,λ_=>by omega,?_⟩,λhx=>decide_eq_false (by omega)⟩,e2⟩⟩
            have:=of_decide_eq_false hf;omega
          · rw[if_neg hl2'];exact⟨⟨(λh=>by cases h),λhx=>absurd (hx.2.1 h7) (by omega)⟩,e2⟩
        · rw[if_neg h7]
          refine⟨_,_,_,B2.l,⟨⟨λhf=>⟨h2.1 hh,λh=>absurd h h7,?_⟩,λhx=>decide_eq_false (by omega)⟩,e2⟩⟩
          have:=of_decide_eq_false hf;omega
      · rw[if_neg hh];exact⟨⟨(λh=>by cases h),λhx=>absurd (h2.2 hx.1) hh⟩,e2⟩
    rintro q2 H2 ⟨h2,e2⟩
    by_cases hq2:q2=true
    · rw[if_pos hq2]
      refine no _ e2 (λhp=>?_)
      have h7l:=(pl hp).2.2.2.2.2.2.2.2.2.1
      have h62:=(pl hp).2.2.2.2.2.2.2.2.2.2.1
      by_cases hb:BareP 8 v
      · have:=h2.2 ⟨hb,h7l,h62⟩;rw[hq2]at this;cases this
      · exact nob 8 (by simp) (.inr (by omega)) (.inr (by omega)) (.inr (by omega)) (.inl rfl) hb hp
    rw[if_neg hq2]
    obtain⟨hb8,hl7,h62⟩:=h2.1 (by simpa using hq2)
    refine⟨λi A=>(0<=i/\i<=v.lN)/\(∀j,j<i.toNat-> ∀hj:j<l.length,Plain l[j])/\Ext H2 A,λi _=>(v.lN-i).toNat,⟨by omega,λj hj=>by simp at hj,Ext.refl _⟩,?_⟩
    rintro i A ⟨hi,hpl,eA⟩
    have BA:=B.ext (e2.trans eA)
    refine⟨_,_,_,BA.l,?_⟩
    by_cases hlt:i< (v.lN:Int)
    · rw[if_pos hlt]
      obtain⟨a,ha,hr⟩:=row i.toNat (by omega)
      have hin:i.toNat<l.length:=by omega
      have eT:=(e1.trans e2).trans eA
      refine⟨_,_,_,BA.l,a,ha,⟨hi.1,hlt⟩,_,_,_,_,_,_,_,_,_,_,eT.rowAt hr,?_⟩
      refine HC.mono (ih l[i.toNat] (List.getElem_mem hin) ((each i.toNat (by omega) hin).ext eT) (hl3 _ (List.getElem_mem hin))) ?_
      rintro _ H3 ⟨⟨q3,rfl,h3'⟩,e3⟩
      refine⟨_,rfl,?_⟩
      by_cases hq3:q3=true
      · rw[if_pos hq3]
        rw[w64 (n:=i+1) (by omega)]
        refine⟨⟨by omega,λj hj hjl=>?_,eA.trans e3⟩,by show((v.lN:Int)-(i+1)).toNat< ((v.lN:Int)-i).toNat;omega⟩
        by_cases hji:j=i.toNat
        · subst hji;exact h3'.1 hq3
        · exact hpl j (by omega) hjl
      · rw[if_neg hq3];exact no _ ((e2.trans eA).trans e3) (λhp=>hq3 (h3'.2 ((pl hp).2.2.2.2.2.2.2.2.2.2.2 _ (List.getElem_mem hin))))
    · rw[if_neg hlt]
      refine hR _ _ ⟨⟨_,rfl,⟨λ_=>?_,λ_=>rfl⟩⟩,(e1.trans e2).trans eA⟩
      obtain⟨p1,p2,p4,p8⟩:=bare 8 (by simp) hb8
      have p1:=p1 (by decide);have p2:=p2 (by decide);have p4:=p4 (by decide)
      refine .mk (by omega) (λ_=>p1) (λh=>by omega) (λ_=>p2) (λh=>by omega) (λ_ _=>p4) (λh=>by omega) (λh=>by omega) (λh h'=>by omega) hl7 h62 (λx hx=>?_)
      obtain⟨j,hj,rfl⟩:=List.getElem_of_mem hx
      exact hpl j (by omega) hj
  · rw[if_neg hq1];exact no _ (Ext.refl _) (λhp=>by have:=(pl hp).1;have:=mt hq7.2 hq1;omega)
theorem ref03_May_c{d:Dt}{P:Nat->Prop}{H:Array Obj}{v:Dv}(D:DatAt P H v d)(hl:Light d)(hc:countD d<=1000000):
    moraineref03_May.C v.kind v.c v.neg v.mB v.mN v.mC v.t v.lB v.lN v.lC H (λw H'=>(∃q:Bool,w=.bool q/\(q=true ↔ Plain d/\depthD d<=64))/\Ext H H'):=by
  refine HC.via λR hR=>moraineref03_May.link ?_
  unfold moraineref03_May.pt
  intro b H1 hb hH1
  have e1:=Ext.push' hH1
  have B:=DBox.new (v:=v) hb hH1
  refine⟨_,_,_,_,_,_,_,_,_,_,B.row,HC.mono (ref_plain_c d (D.ext e1) hl) ?_⟩
  rintro _ H2 ⟨⟨q,rfl,hq⟩,e2⟩
  refine⟨_,rfl,?_⟩
  by_cases h:q=true
  · rw[if_pos h]
    refine⟨_,_,_,_,_,_,_,_,_,_,(B.ext e2).row,HC.mono (ref_Depth_c d (D.ext (e1.trans e2)) hc) ?_⟩
    rintro _ H3 ⟨rfl,e3⟩
    exact⟨_,rfl,hR _ _ ⟨⟨_,rfl,⟨λhd=>⟨hq.1 h,of_decide_eq_true hd⟩,λhx=>decide_eq_true hx.2⟩⟩,(e1.trans e2).trans e3⟩⟩
  · rw[if_neg h];exact hR _ _ ⟨⟨_,rfl,by simp;exact λhp=>absurd (hq.2 hp) h⟩,e1.trans e2⟩
theorem ref03_Same_c(d:Dt): ∀{P Q:Nat->Prop} {H:Array Obj} {v u:Dv} (D:DatAt P H v d) (D2:DatAt Q H u d) (hl:Light d),
    moraineref03_Same.C v.kind v.c v.neg v.mB v.mN v.mC v.t v.lB v.lN v.lC u.kind u.c u.neg u.mB u.mN u.mC u.t u.lB u.lN u.lC H (λw H'=>w=.bool true/\Ext H H'):=by
  induction d using Dt.ind with
  | h k c neg mag t l ih=>
  intro P Q H v u D D2 hlight
  have hli:t.size<=1000/\mag.length<=300/\ ∀x∈l,Light x:=by cases hlight;exact⟨by assumption,by assumption,by assumption⟩
  obtain⟨hl1,hl2,hl3⟩:=hli
  cases D with
  | mk _ _ _ _ _ _ _ vs ek ec en et hk hc hm hmc hmb hsrc hlm hll hlc hlb hvs mP lP row each=>
  cases D2 with
  | mk _ _ _ _ _ _ _ us ek' ec' en' et' hk' hc' hm' hmc' hmb' hsrc' hlm' hll' hlc' hlb' hvs' mP' lP' row' each'=>
  refine HC.via λR hR=>moraineref03_Same.link ?_
  unfold moraineref03_Same.pt
  intro b H1 hb hH1 b2 H2 hb2 hH2
  have e1:=Ext.push' hH1
  have e2:=Ext.push' hH2
  have e12:=e1.trans e2
  have B:=(DBox.new (v:=v) hb hH1).ext e2
  have C:=DBox.new (v:=u) hb2 hH2
  refine⟨_,B.kind,_,C.kind,?_⟩
  rw[if_pos (by rw[ek,ek'])]
  refine⟨_,B.c,_,C.c,?_⟩
  rw[if_pos (by rw[ec,ec'])]
  refine⟨_,_,_,_,B.num,_,_,_,_,C.num,HC.mono (ref_Same_c (hsrc.ext e12) hm (hsrc'.ext e12) hm' (by omega)) ?_⟩
  rintro _ H3 ⟨rfl,e3⟩
  refine⟨_,rfl,?_⟩
  rw[if_pos (decide_eq_true ⟨by rw[en,en'],rfl⟩)]
  have B3:=B.ext e3
  have C3:=C.ext e3
  refine⟨_,B3.t,_,C3.t,?_⟩
  rw[if_pos (by rw[et,et'])]
  refine⟨_,_,_,B3.l,_,_,_,C3.l,?_⟩
  rw[if_pos (by rw[hll,hll'])]
  have e13:=e12.trans e3
  refine⟨λi A=>(0<=i/\i<=v.lN)/\Ext H3 A,λi _=>(v.lN-i).toNat,⟨by omega,Ext.refl _⟩,?_⟩
  rintro i A ⟨hi,eA⟩
  have BA:=B3.ext eA
  have CA:=C3.ext eA
  refine⟨_,_,_,BA.l,?_⟩
  by_cases hlt:i< (v.lN:Int)
  · rw[if_pos hlt]
    obtain⟨a,ha,hr⟩:=row i.toNat (by omega)
    obtain⟨a',ha',hr'⟩:=row' i.toNat (by omega)
    have hin:i.toNat<l.length:=by omega
    have eT:=e13.trans eA
    refine⟨_,_,_,BA.l,a,ha,⟨hi.1,hlt⟩,_,_,_,_,_,_,_,_,_,_,eT.rowAt hr,_,_,_,CA.l,a',ha',⟨hi.1,by omega⟩,_,_,_,_,_,_,_,_,_,_,eT.rowAt hr',?_⟩
    refine HC.mono (ih l[i.toNat] (List.getElem_mem hin) ((each i.toNat (by omega) hin).ext eT) ((each' i.toNat (by omega) hin).ext eT) (hl3 _ (List.getElem_mem hin))) ?_
    rintro _ H4 ⟨rfl,e4⟩
    refine⟨_,rfl,?_⟩
    rw[if_pos rfl,w64 (n:=i+1) (by omega)]
    exact⟨⟨by omega,eA.trans e4⟩,by show((v.lN:Int)-(i+1)).toNat< ((v.lN:Int)-i).toNat;omega⟩
  · rw[if_neg hlt];exact hR _ _ ⟨rfl,e13.trans eA⟩
theorem box_puts{H:Array Obj}{b o n:Nat}{cs:Array Value}{T:TypeId}{vs:List Value}(g:H[b]?=some (.cells cs T (0,0)))(hn:vs.length=n)(ho:o+n<=cs.size):
    CanPuts H ((Addr.mk b 0 none).add o) 0 n/\ ∀H1,H1=hputs H ((Addr.mk b 0 none).add o) vs 0->H1[b]?=some (.cells (splice cs o vs) T (0,0))/\Fr [b] H H1:=by
  rw[addr_add_mk,Nat.zero_add]
  refine⟨canPuts_blk g n o 0 (by omega),λH1 h1=>?_⟩
  rw[hputs_blk _ H cs o 0 g]at h1
  subst h1
  exact⟨setBlk_get (lt_size g),Fr.set⟩
theorem equal_u32_c{H:Array Obj}{p q:Option Addr}{n m c c':Nat}{ls:List Int}(hp:SrcAt H p (lvs ls))(hq:SrcAt H q (lvs ls))(hn:n=ls.length)(hm:m=ls.length)(hb:n<9223372036854775808):
    slices_Equal_uint32_uint32.C p n c q m c' H (λw H'=>w=.bool true/\H=H'):=by
  refine HC.via λR hR=>slices_Equal_uint32_uint32.link ?_
  unfold slices_Equal_uint32_uint32.pt
  rw[if_pos (by rw[hn,hm])]
  refine⟨λi A=>(0<=i/\i<=n)/\H=A,λi _=>(n-i).toNat,⟨by omega,rfl⟩,?_⟩
  rintro i _ ⟨hi,rfl⟩
  by_cases hlt:i< (n:Int)
  · rw[if_pos hlt]
    have hin:i.toNat<ls.length:=by omega
    obtain⟨a,ha,hx⟩:=src_some hp (by omega)
    obtain⟨a',ha',hx'⟩:=src_some hq (by omega)
    refine⟨a,ha,⟨hi.1,hlt⟩,_,by rw[Nat.mul_one];exact rowD hx hin,a',ha',⟨hi.1,by omega⟩,_,by rw[Nat.mul_one];exact rowD hx' hin,?_⟩
    rw[if_pos rfl,w64 (n:=i+1) (by omega)]
    exact⟨⟨by omega,rfl⟩,by show((n:Int)-(i+1)).toNat< ((n:Int)-i).toNat;omega⟩
  · rw[if_neg hlt];exact hR _ _ ⟨rfl,rfl⟩
structure OwnD (H:Array Obj) (v u:Dv) (mag:List Int):Prop where
  kind:u.kind=v.kind
  c:u.c=v.c
  neg:u.neg=v.neg
  mN:u.mN=v.mN
  src:SrcAt H u.mB (lvs mag)
  t:u.t.toList=v.t.toList
  lN:u.lN=v.lN
theorem src_nil(H:Array Obj)(B:Option Addr):SrcAt H B (lvs []):=by cases B<;>simp[lvs,RowAt]
theorem dat_own_c{k c:Int}{neg:Bool}{mag:List Int}{t:ByteArray}{l:List Dt}{P:Nat->Prop}{H:Array Obj}{v:Dv}(D:DatAt P H v (.mk k c neg mag t l))(hp:Plain (.mk k c neg mag t l)):
    datum_own.C v.kind v.c v.neg v.mB v.mN v.mC v.t v.lB v.lN v.lC H (λw H'=>(∃u:Dv,w=.agg u.cells.toArray/\OwnD H' v u mag)/\Ext H H'):=by
  cases D with
  | mk _ _ _ _ _ _ _ vs ek ec en et hk hc hm hmc hmb hsrc hlm hll hlc hlb hvs mP lP row each=>
  cases hp with
  | mk pk pc pc3 pn p4 pt p56 p6 pl p7 p62 peach=>
  refine HC.via λR hR=>datum_own.link ?_
  unfold datum_own.pt
  intro b H1 hb hH1 b2 H2 hb2 hH2
  have e1:=Ext.push' hH1
  have e2:=Ext.push' hH2
  have e12:=e1.trans e2
  have B:=(DBox.new (v:=v) hb hH1).ext e2
  have g2:=push_get hb2 hH2
  refine⟨_,B.kind,λb3 H3 hb3 hH3=>?_⟩
  have e3:=Ext.push' hH3
  obtain⟨r1,r2⟩:=box_new (vs:=[.int .i64 v.kind,.int .i32 0,.bool false,.slice none 0 0,.string (ByteArray.mk #[]),.slice none 0 0]) (n:=6) hb3 hH3 rfl rfl
  refine⟨r1,λH4 hH4=>?_⟩
  obtain⟨g4,e4⟩:=r2 H4 hH4
  have B4:=B.ext e4
  have hb3':b3=H2.size:=hb3
  have fin: ∀(A:Array Obj) (u:Dv),Ext H2 A->A[b3]?=some (.cells u.cells.toArray 51 (0,0))->OwnD H v u mag->
      (∃xKind:Int,∃xC:Int,∃xNNeg:Bool,∃xNMagB:Option Addr,∃xNMagN:Nat,∃xNMagC:Nat,∃xT:ByteArray,∃xLB:Option Addr,∃xLN:Nat,∃xLC:Nat,RowAt A (Addr.mk b3 0 none) 0 [.int .i64 xKind,.int .i32 xC,.bool xNNeg,.slice xNMagB xNMagN xNMagC,.string xT,.slice xLB xLN xLC]/\
       (CanPuts A (Addr.mk b2 0 none) 0 6)/\ ∀H6:Array Obj,H6=hputs A (Addr.mk b2 0 none) [.int .i64 xKind,.int .i32 xC,.bool xNNeg,.slice xNMagB xNMagN xNMagC,.string xT,.slice xLB xLN xLC] 0->
       ∃rKind:Int,∃rC:Int,∃rNNeg:Bool,∃rNMagB:Option Addr,∃rNMagN:Nat,∃rNMagC:Nat,∃rT:ByteArray,∃rLB:Option Addr,∃rLN:Nat,∃rLC:Nat,RowAt H6 (Addr.mk b2 0 none) 0 [.int .i64 rKind,.int .i32 rC,.bool rNNeg,.slice rNMagB rNMagN rNMagC,.string rT,.slice rLB rLN rLC]/\
       R (.agg #[.int .i64 rKind,.int .i32 rC,.bool rNNeg,.slice rNMagB rNMagN rNMagC,.string rT,.slice rLB rLN rLC]) H6):=λA u eA gA hu=>by
    refine⟨_,_,_,_,_,_,_,_,_,_,box_row gA,?_⟩
    obtain⟨s1,s2⟩:=box_set (vs:=u.cells) (n:=6) (eA.get g2) rfl rfl
    refine⟨s1,λH6 hH6=>?_⟩
    obtain⟨g6,f6⟩:=s2 H6 hH6
    have e6:Ext H H6:=(e12.trans eA).fr_trans f6 (λj hj=>by simp at hj;have:=e1.size;omega)
    refine⟨_,_,_,_,_,_,_,_,_,_,box_row g6,hR _ _ ⟨⟨u,rfl,⟨hu.kind,hu.c,hu.neg,hu.mN,hu.src.ext e6,hu.t,hu.lN⟩⟩,e6⟩⟩
  have fr3: ∀{A:Array Obj},Fr [b3] H4 A->Ext H2 A:=λf=>e4.fr_trans f (λj hj=>by simp at hj;omega)
  have q0c:k≠3->0=v.c:=λh=>by rw[ec,pc h]
  have q0n:k≠4->false=v.neg/\0=v.mN/\mag=[]:=λh=>by have:=pn h;exact⟨by rw[en,this.1],by rw[hm,this.2];rfl,this.2⟩
  have q0t:k≠5->k≠6->(ByteArray.mk #[]).toList=v.t.toList:=λh h'=>by rw[et];exact((nil_text _).2 (pt h h')).symm
  have q0l:k≠7->k≠8->0=v.lN:=λh h'=>by rw[hll,pl h h'];rfl
  have q0m:k≠4->SrcAt H none (lvs mag):=λh=>by rw[(q0n h).2.2];exact src_nil _ _
  refine⟨_,B4.kind,?_⟩
  rw[ek]
  by_cases h3:k=3
  · rw[if_pos h3]
    obtain⟨s1,s2⟩:=box_put g4 1 (.int .i32 v.c) (by simp)
    refine⟨_,B4.c,s1,λH5 hH5=>?_⟩
    obtain⟨g5,f5⟩:=s2 H5 hH5
    exact fin H5 ⟨v.kind,v.c,false,none,0,0,ByteArray.mk #[],none,0,0⟩ (fr3 f5) g5 ⟨rfl,rfl,(q0n (by omega)).1,(q0n (by omega)).2.1,q0m (by omega),q0t (by omega) (by omega),q0l (by omega) (by omega)⟩
  rw[if_neg h3]
  by_cases h4:k=4
  · rw[if_pos h4]
    obtain⟨s1,s2⟩:=box_puts (o:=2) (n:=2) (vs:=[.bool v.neg,.slice v.mB v.mN v.mC]) g4 rfl (by simp)
    refine⟨_,_,_,_,B4.num,s1,λH5 hH5=>?_⟩
    obtain⟨g5,f5⟩:=s2 H5 hH5
    exact fin H5 ⟨v.kind,0,v.neg,v.mB,v.mN,v.mC,ByteArray.mk #[],none,0,0⟩ (fr3 f5) g5 ⟨rfl,q0c (by omega),rfl,rfl,hsrc,q0t (by omega) (by omega),q0l (by omega) (by omega)⟩
  rw[if_neg h4]
  by_cases h5:k=5
  · rw[if_pos h5]
    obtain⟨s1,s2⟩:=box_put g4 4 (.string v.t) (by simp)
    refine⟨_,B4.t,s1,λH5 hH5=>?_⟩
    obtain⟨g5,f5⟩:=s2 H5 hH5
    exact fin H5 ⟨v.kind,0,false,none,0,0,v.t,none,0,0⟩ (fr3 f5) g5 ⟨rfl,q0c (by omega),(q0n (by omega)).1,(q0n (by omega)).2.1,q0m (by omega),rfl,q0l (by omega) (by omega)⟩
  rw[if_neg h5]
  by_cases h6:k=6
  · rw[if_pos h6]
    obtain⟨s1,s2⟩:=box_put g4 4 (.string v.t) (by simp)
    refine⟨_,B4.t,s1,λH5 hH5=>?_⟩
    obtain⟨g5,f5⟩:=s2 H5 hH5
    exact fin H5 ⟨v.kind,0,false,none,0,0,v.t,none,0,0⟩ (fr3 f5) g5 ⟨rfl,q0c (by omega),(q0n (by omega)).1,(q0n (by omega)).2.1,q0m (by omega),rfl,q0l (by omega) (by omega)⟩
  rw[if_neg h6]
  by_cases h7:k=7
  · rw[if_pos h7]
    obtain⟨s1,s2⟩:=box_put g4 5 (.slice v.lB v.lN v.lC) (by simp)
    refine⟨_,_,_,B4.l,s1,λH5 hH5=>?_⟩
    obtain⟨g5,f5⟩:=s2 H5 hH5
    exact fin H5 ⟨v.kind,0,false,none,0,0,ByteArray.mk #[],v.lB,v.lN,v.lC⟩ (fr3 f5) g5 ⟨rfl,q0c (by omega),(q0n (by omega)).1,(q0n (by omega)).2.1,q0m (by omega),q0t (by omega) (by omega),rfl⟩
  rw[if_neg h7]
  by_cases h8:k=8
  · rw[if_pos h8]
    obtain⟨s1,s2⟩:=box_put g4 5 (.slice v.lB v.lN v.lC) (by simp)
    refine⟨_,_,_,B4.l,s1,λH5 hH5=>?_⟩
    obtain⟨g5,f5⟩:=s2 H5 hH5
    exact fin H5 ⟨v.kind,0,false,none,0,0,ByteArray.mk #[],v.lB,v.lN,v.lC⟩ (fr3 f5) g5 ⟨rfl,q0c (by omega),(q0n (by omega)).1,(q0n (by omega)).2.1,q0m (by omega),q0t (by omega) (by omega),rfl⟩
  rw[if_neg h8]
  exact fin H4 ⟨v.kind,0,false,none,0,0,ByteArray.mk #[],none,0,0⟩ e4 g4 ⟨rfl,q0c (by omega),(q0n (by omega)).1,(q0n (by omega)).2.1,q0m (by omega),q0t (by omega) (by omega),q0l (by omega) (by omega)⟩
theorem dat_flat_c{P:Nat->Prop}{d:Dt}{mag:List Int}{H:Array Obj}{v u:Dv}(hv:SrcAt H v.mB (lvs mag))(hm:v.mN=mag.length)(hb:v.mN<9223372036854775808)(h:OwnD H v u mag):
    datum_flat.C v.kind v.c v.neg v.mB v.mN v.mC v.t v.lB v.lN v.lC u.kind u.c u.neg u.mB u.mN u.mC u.t u.lB u.lN u.lC H (λw H'=>w=.bool true/\Ext H H'):=by
  refine HC.via λR hR=>datum_flat.link ?_
  unfold datum_flat.pt
  intro b H1 hb hH1 b2 H2 hb2 hH2
  have e1:=Ext.push' hH1
  have e2:=Ext.push' hH2
  have e12:=e1.trans e2
  have B:=(DBox.new (v:=v) hb hH1).ext e2
  have C:=DBox.new (v:=u) hb2 hH2
  refine⟨_,B.kind,_,C.kind,?_⟩
  rw[if_pos h.kind.symm]
  refine⟨_,B.c,_,C.c,?_⟩
  rw[if_pos h.c.symm]
  refine⟨_,B.neg,_,C.neg,?_⟩
  rw[if_pos h.neg.symm]
  refine⟨_,_,_,B.mag,_,_,_,C.mag,HC.mono (equal_u32_c (hv.ext e12) (h.src.ext e12) hm (by rw[h.mN,hm]) (by omega)) ?_⟩
  rintro _ H3 ⟨rfl,rfl⟩
  refine⟨_,rfl,?_⟩
  rw[if_pos rfl]
  refine⟨_,B.t,_,C.t,?_⟩
  rw[if_pos h.t.symm]
  exact⟨_,_,_,B.l,_,_,_,C.l,hR _ _ ⟨by rw[h.lN];simp,e12⟩⟩
theorem dat_text_c{H:Array Obj}{t:ByteArray}{least:Int}(T:Tabs8 H)(ht:textOK t)(hs:t.size<=1000000)(hl:least<=(runesOf t).length):
    datum_text.C t least H (λw H'=>w=.bool true/\Ext H H'):=by
  refine HC.via λR hR=>datum_text.link ?_
  unfold datum_text.pt
  have:=ht.2
  refine HC.mono (RuneCount_c (by omega)) ?_
  rintro _ H1 ⟨rfl,e1⟩
  refine⟨_,rfl,HC.mono (ValidString_c (T.ext e1) hs) ?_⟩
  rintro _ H2 ⟨rfl,e2⟩
  refine⟨_,rfl,hR _ _ ⟨?_,e1.trans e2⟩⟩
  rw[ht.1]
  simp
  omega
theorem validRune_c{H:Array Obj}{c:Int}(h:charB c=true):unicode_utf8_ValidRune.C c H (λw H'=>w=.bool true/\H=H'):=by
  refine HC.via λR hR=>unicode_utf8_ValidRune.link ?_
  unfold unicode_utf8_ValidRune.pt
  have hp:(0<=c/\c<=1114111)/\(c<55296\/57343<c):=by simpa[charB]using h
  by_cases h1:c<55296
  · rw[if_pos (by simp[h1,hp.1.1])];exact hR _ _ ⟨rfl,rfl⟩
  · rw[if_neg (by simp[h1]),if_pos (by simp[hp.1.2];omega)];exact hR _ _ ⟨rfl,rfl⟩
theorem dat_plain_c(d:Dt): ∀{P:Nat->Prop} {H:Array Obj} {v:Dv} (T:Tabs8 H) (D:DatAt P H v d) (hl:Light d) (hp:Plain d),
    datum_plain.C v.kind v.c v.neg v.mB v.mN v.mC v.t v.lB v.lN v.lC H (λw H'=>w=.bool true/\Ext H H'):=by
  induction d using Dt.ind with
  | h k c neg mag t l ih=>
  intro P H v T D hlight hplain
  have hli:t.size<=1000/\mag.length<=300/\ ∀x∈l,Light x:=by cases hlight;exact⟨by assumption,by assumption,by assumption⟩
  obtain⟨hl1,hl2,hl3⟩:=hli
  have D0:=D
  have hplain0:=hplain
  cases D with
  | mk _ _ _ _ _ _ _ vs ek ec en et hk hc hm hmc hmb hsrc hlm hll hlc hlb hvs mP lP row each=>
  cases hplain with
  | mk pk pc pc3 pn p4 pt p56 p6 pl p7 p62 peach=>
  refine HC.via λR hR=>datum_plain.link ?_
  unfold datum_plain.pt
  intro b H1 hb hH1
  have e1:=Ext.push' hH1
  have B:=DBox.new (v:=v) hb hH1
  refine⟨_,B.kind,?_⟩
  rw[if_neg (by omega)]
  refine⟨_,B.kind,?_⟩
  rw[if_neg (by omega)]
  refine⟨_,_,_,_,_,_,_,_,_,_,B.row,_,_,_,_,_,_,_,_,_,_,B.row,HC.mono (dat_own_c (D0.ext e1) hplain0) ?_⟩
  rintro _ H2 ⟨⟨u,rfl,hu⟩,e2⟩
  refine⟨_,_,_,_,_,_,_,_,_,_,rfl,(B.ext e2).row,HC.mono (dat_flat_c (P:=P) (d:=.mk k c neg mag t l) (hsrc.ext (e1.trans e2)) hm hmb hu) ?_⟩
  rintro _ H3 ⟨rfl,e3⟩
  refine⟨_,rfl,?_⟩
  rw[if_pos rfl]
  have e23:=e2.trans e3
  have e13:=e1.trans e23
  have B3:=B.ext e23
  refine⟨_,B3.kind,?_⟩
  rw[ek]
  have items: ∀(K:Value->Array Obj->Prop),(∀A,Ext H3 A->K (.bool false) A)->slices_ContainsFunc_api_Datum_api_Datum.C v.lB v.lN v.lC (.func (.func 86) #[] #[]) H3 K:=λK hK=>by
    refine HC.via λR2 hR2=>slices_ContainsFunc_api_Datum_api_Datum.link ?_
    unfold slices_ContainsFunc_api_Datum_api_Datum.pt
    refine HC.mono (R:=λw A=>w=.int .i64 (-1)/\Ext H3 A) ?_ ?_
    · refine HC.via λR3 hR3=>slices_IndexFunc_api_Datum_api_Datum.link ?_
      unfold slices_IndexFunc_api_Datum_api_Datum.pt
      refine⟨λi A=>(0<=i/\i<=v.lN)/\Ext H3 A,λi _=>(v.lN-i).toNat,⟨by omega,Ext.refl _⟩,?_⟩
      rintro i A ⟨hi,eA⟩
      by_cases hlt:i< (v.lN:Int)
      · rw[if_pos hlt]
        obtain⟨a,ha,hr⟩:=row i.toNat (by omega)
        have hin:i.toNat<l.length:=by omega
        have eT:=e13.trans eA
        refine⟨a,ha,⟨hi.1,hlt⟩,_,_,_,_,_,_,_,_,_,_,eT.rowAt hr,FC.of (enters_of Tryz.func86 (by kernel_rfl) rfl) ?_⟩
        show datum_plain_1.C _ _ _ _ _ _ _ _ _ _ A _
        refine HC.via λR4 hR4=>datum_plain_1.link ?_
        unfold datum_plain_1.pt
        intro b4 H5 hb4 hH5
        have e5:=Ext.push' hH5
        have B5:=DBox.new (v:=vs[i.toNat]) hb4 hH5
        refine⟨_,_,_,_,_,_,_,_,_,_,B5.row,?_⟩
        refine HC.mono (ih l[i.toNat] (List.getElem_mem hin) (T.ext (eT.trans e5)) ((each i.toNat (by omega) hin).ext (eT.trans e5)) (hl3 _ (List.getElem_mem hin)) (peach _ (List.getElem_mem hin))) ?_
        rintro _ H6 ⟨rfl,e6⟩
        refine⟨_,rfl,hR4 _ _ ⟨_,rfl,?_⟩⟩
        rw[if_neg (by decide),w64 (n:=i+1) (by omega)]
        exact⟨⟨by omega,eA.trans (e5.trans e6)⟩,by show((v.lN:Int)-(i+1)).toNat< ((v.lN:Int)-i).toNat;omega⟩
      · rw[if_neg hlt];exact hR3 _ _ ⟨rfl,eA⟩
    · rintro _ A ⟨rfl,eA⟩
      exact⟨_,rfl,hR2 _ _ (hK A eA)⟩
  by_cases h3:k=3
  · rw[if_pos h3]
    refine⟨_,B3.c,HC.mono (validRune_c (by rw[ec];exact pc3 h3)) ?_⟩
    rintro _ H4 ⟨rfl,rfl⟩
    exact⟨_,rfl,hR _ _ ⟨rfl,e13⟩⟩
  rw[if_neg h3]
  by_cases h4:k=4
  · rw[if_pos h4]
    refine⟨_,_,_,_,B3.num,HC.mono (num_May_c (hsrc.ext e13) hm hmc (by omega)) ?_⟩
    rintro _ H4 ⟨rfl,e4⟩
    exact⟨_,rfl,hR _ _ ⟨by rw[en,p4 h4],e13.trans e4⟩⟩
  rw[if_neg h4]
  by_cases h6:k=6
  · rw[if_pos h6]
    refine⟨_,B3.t,HC.mono (dat_text_c (T.ext e13) (by rw[et];exact p56 (.inr h6)) (by rw[et];omega) (by rw[et];have:=p6 h6;omega)) ?_⟩
    rintro _ H4 ⟨rfl,e4⟩
    exact⟨_,rfl,hR _ _ ⟨rfl,e13.trans e4⟩⟩
  rw[if_neg h6]
  by_cases h5:k=5
  · rw[if_pos h5]
    refine⟨_,B3.t,HC.mono (dat_text_c (T.ext e13) (by rw[et];exact p56 (.inl h5)) (by rw[et];omega) (by omega)) ?_⟩
    rintro _ H4 ⟨rfl,e4⟩
    exact⟨_,rfl,hR _ _ ⟨rfl,e13.trans e4⟩⟩
  rw[if_neg h5]
  by_cases h7:k=7
  · rw[if_pos h7]
    refine⟨_,_,_,B3.l,?_⟩
    rw[if_pos (by rw[hll,p7 h7];rfl)]
    refine⟨_,_,_,B3.l,?_⟩
    rw[if_pos (by omega)]
    refine⟨_,_,_,B3.l,items _ λA eA=>⟨_,rfl,hR _ _ ⟨rfl,e13.trans eA⟩⟩⟩
  rw[if_neg h7]
  by_cases h8:k=8
  · rw[if_pos h8]
    refine⟨_,_,_,B3.l,?_⟩
    rw[if_pos (by omega)]
    refine⟨_,_,_,B3.l,items _ λA eA=>⟨_,rfl,hR _ _ ⟨rfl,e13.trans eA⟩⟩⟩
  rw[if_neg h8]
  exact hR _ _ ⟨rfl,e13⟩
theorem dat_May_c{d:Dt}{P:Nat->Prop}{H:Array Obj}{v:Dv}(T:Tabs8 H)(D:DatAt P H v d)(hl:Light d)(hc:countD d<=1000000)(hp:Plain d)(hd:depthD d<=64):
    datum_May.C v.kind v.c v.neg v.mB v.mN v.mC v.t v.lB v.lN v.lC H (λw H'=>w=.bool true/\Ext H H'):=by
  refine HC.via λR hR=>datum_May.link ?_
  unfold datum_May.pt
  intro b H1 hb hH1
  have e1:=Ext.push' hH1
  have B:=DBox.new (v:=v) hb hH1
  refine⟨_,_,_,_,_,_,_,_,_,_,B.row,HC.mono (dat_plain_c d (T.ext e1) (D.ext e1) hl hp) ?_⟩
  rintro _ H2 ⟨rfl,e2⟩
  refine⟨_,rfl,?_⟩
  rw[if_pos rfl]
  refine⟨_,_,_,_,_,_,_,_,_,_,(B.ext e2).row,HC.mono (dat_Depth_c d (D.ext (e1.trans e2)) hc) ?_⟩
  rintro _ H3 ⟨rfl,e3⟩
  exact⟨_,rfl,hR _ _ ⟨by rw[decide_eq_true hd],(e1.trans e2).trans e3⟩⟩
end Go.Proofs.YtibpklpgmgakcaaGreatDoor

