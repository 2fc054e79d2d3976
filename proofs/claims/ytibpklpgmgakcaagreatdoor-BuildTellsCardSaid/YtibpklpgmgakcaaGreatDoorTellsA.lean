/-
 moraineref17: the document's walk over a picture of things is the walk readG over its view. Proves nothing of any one statement.
-/
import Derived.Test.YtibpklpgmgakcaaGreatDoorBuildTw
import Derived.Test.YtibpklpgmgakcaaGreatDoorFref17
set_option linter.unusedVariables false
set_option linter.unusedSimpArgs false
set_option maxHeartbeats 1000000
namespace Go.Proofs.YtibpklpgmgakcaaGreatDoor
open Go

structure RowP (P0:Nat->Prop) (lo:Nat) (H:Array Obj) (B:Option Addr) (n c:Nat) (us:List Dv) (ds:List Dt):Prop where
 own:Own H 51 6 B n c (us.flatMap Dv.cells)
 len:us.length=n
 dlen:ds.length=n
 row: ∀i∈blks B,lo<=i
 old: ∀i,P0 i->i<lo
 each: ∀(i:Nat) (h1:i<us.length) (h2:i<ds.length),DatAt (λj=>(P0 j\/(lo<=j/\j<H.size))/\j ∉ blks B) H us[i] ds[i]
theorem RowP.nil{P0:Nat->Prop}{lo:Nat}{H:Array Obj}(h: ∀i,P0 i->i<lo):RowP P0 lo H none 0 0 [] []:=⟨own_nil,rfl,rfl,by simp,h,λi h1=>by simp at h1⟩
theorem RowP.keep{P0:Nat->Prop}{lo:Nat}{S:List Nat}{H H':Array Obj}{B:Option Addr}{n c:Nat}{us:List Dv}{ds:List Dt}(h:RowP P0 lo H B n c us ds)(f:Fr S H H')(hS: ∀i∈S,(i<lo\/H.size<=i)/\ ¬P0 i):RowP P0 lo H' B n c us ds:=
 ⟨h.own.keep f (λi hi hs=>by
  rcases(hS i hs).1 with h' | h'
  ·have:=h.row i hi;omega
  ·have:=h.own.lt i hi;omega),h.len,h.dlen,h.row,h.old,λi h1 h2=>(h.each i h1 h2).keep f (λi hs hp=>by
  rcases hp.1 with h' | h'
  ·exact(hS i hs).2 h'
  ·rcases(hS i hs).1 with h'' | h''<;>omega) (λi hp=>⟨hp.1.imp id (λh=>⟨h.1,Nat.lt_of_lt_of_le h.2 f.size⟩),hp.2⟩)⟩
theorem RowP.ext{P0:Nat->Prop}{lo:Nat}{H H':Array Obj}{B:Option Addr}{n c:Nat}{us:List Dv}{ds:List Dt}(h:RowP P0 lo H B n c us ds)(e:Ext H H'):RowP P0 lo H' B n c us ds:=h.keep (S:=[]) e.fr (by simp)
theorem RowP.push{P0:Nat->Prop}{lo lo':Nat}{H H2:Array Obj}{B p:Option Addr}{n c c':Nat}{us:List Dv}{ds:List Dt}{u:Dv}{d:Dt}(h:RowP P0 lo H B n c us ds)(f:Fr (blks B) H H2)(o:Own H2 51 6 p (n+1) c' (us.flatMap Dv.cells++u.cells))
  (hnew: ∀i∈blks p,i∈blks B\/H.size<=i) (hlo:lo<=H.size) (D:DatAt (λj=>P0 j\/(lo'<=j/\j<H.size)) H u d) (hlo':lo<=lo') (hB: ∀i∈blks B,i<lo'):RowP P0 lo H2 p (n+1) c' (us++[u]) (ds++[d]):=by
 have hs:=f.size
 have hbl:=h.row
 have hold:=h.old
 refine⟨by simpa using o,by simp[h.len],by simp[h.dlen],λi hi=>?_,h.old,λi h1 h2=>?_⟩
 ·rcases hnew i hi with h' | h'
  ·exact h.row i h'
  ·omega
 ·by_cases hi:i<us.length
  ·rw[List.getElem_append_left hi,List.getElem_append_left (by rw[h.dlen,<-h.len];exact hi)]
   refine(h.each i hi (by rw[h.dlen,<-h.len];exact hi)).keep f (λj hj hp=>hp.2 hj) (λj hp=>⟨hp.1.imp id (λh=>⟨h.1,by omega⟩),λhj=>?_⟩)
   rcases hnew j hj with h' | h'
   ·exact hp.2 h'
   ·rcases hp.1 with h'' | h''
    ·have:=hold j h'';omega
    ·omega
  ·have hiu:i=us.length:=by simp at h1;omega
   have hid:i=ds.length:=by rw[hiu,h.len,h.dlen]
   have e1:(us++[u])[i]=u:=by simp[hiu]
   have e2:(ds++[d])[i]=d:=by simp[hid]
   rw[e1,e2]
   refine D.keep f (λj hj hp=>?_) (λj hp=>⟨hp.imp id (λh=>⟨by omega,by omega⟩),λhj=>?_⟩)
   ·have h3:=hB j hj
    have h4:=hbl j hj
    rcases hp with h' | h'
    ·have:=hold j h';omega
    ·omega
   ·rcases hnew j hj with h' | h'
    ·have h3:=hB j h'
     have h4:=hbl j h'
     rcases hp with h'' | h''
     ·have:=hold j h'';omega
     ·omega
    ·rcases hp with h'' | h''
     ·have:=hold j h'';omega
     ·omega
theorem RowP.vec{P0:Nat->Prop}{lo:Nat}{H:Array Obj}{B:Option Addr}{n c:Nat}{us:List Dv}{ds:List Dt}(h:RowP P0 lo H B n c us ds)(hn:n<4611686018427387904):DatAt (λj=>P0 j\/(lo<=j/\j<H.size)) H (vecV B n c) (.mk 8 0 false [] tE ds):=by
 refine .mk _ 8 0 false [] tE ds us rfl rfl rfl rfl (by decide) (by decide) rfl (Nat.le_refl _) (by show(0:Nat)<_;decide) rfl (by simp) h.dlen.symm h.own.le (by show n<_;omega) (h.len.trans h.dlen.symm) (λhh=>absurd rfl hh) (λ_ i hi=> .inr ⟨h.row i hi,h.own.lt i hi⟩) (λi hi=>?_) (λi h1 h2=>?_)
 ·obtain⟨a,ha,_,hr⟩:=h.own.elem (f:=Dv.cells) (λ_=>rfl) (by decide) hi
  exact⟨a,ha,hr⟩
 ·exact(h.each i h1 h2).keep (S:=[]) (Fr.refl _ _) (by simp) (λj hj=>hj.1)

structure TV where
 d:Dv
 lB:Option Addr
 lN:Nat
 lC:Nat
abbrev TV.cells(t:TV):List Value:=[.int .i64 t.d.kind,.int .i32 t.d.c,.bool t.d.neg,.slice t.d.mB t.d.mN t.d.mC,.string t.d.t,.slice t.d.lB t.d.lN t.d.lC,.slice t.lB t.lN t.lC]
def viewT(ths:List (Dt×List Int))(k:Int):NodeV:=
 match ths[k.toNat]? with
 | none=> .bad 3
 | some (d,l)=>if d.kind= -1 then .bad 3 else if d.kind=8 then .vec l else if d.kind=7 then .pair (l.getD 0 0) (l.getD 1 0)else .leaf d
theorem viewT_bad{ths:List (Dt×List Int)}{k e:Int}(h:viewT ths k=.bad e):e≠0:=by
 unfold viewT at h
 split at h
 ·cases h;decide
 ·split at h
  ·cases h;decide
  split at h
  ·cases h
  split at h<;>cases h
structure Pict (P0:Nat->Prop) (H:Array Obj) (B:Option Addr) (n:Nat) (ts:List TV) (ths:List (Dt×List Int)):Prop where
 len:ts.length=n
 tlen:ths.length=n
 small:n<=1000
 row: ∀(i:Nat) (h:i<ts.length),∃a,B=some a/\RowAt H (a.add (i*7)) 0 ts[i].cells
 blk: ∀i∈blks B,P0 i
 dat: ∀(i:Nat) (h1:i<ts.length) (h2:i<ths.length),DatAt P0 H ts[i].d ths[i].1
 ints: ∀(i:Nat) (h1:i<ts.length) (h2:i<ths.length),ts[i].lN=ths[i].2.length/\SrcAt H ts[i].lB (ivs ths[i].2)/\(∀j∈blks ts[i].lB,P0 j)
 range: ∀(i:Nat) (h:i<ths.length),∀k∈ths[i].2,0<=k/\k<n
 pair: ∀(i:Nat) (h:i<ths.length),ths[i].1.kind=7->ths[i].2.length=2
 vec: ∀(i:Nat) (h:i<ths.length),ths[i].2.length<=5
theorem Pict.keep{P0:Nat->Prop}{S:List Nat}{H H':Array Obj}{B:Option Addr}{n:Nat}{ts:List TV}{ths:List (Dt×List Int)}(p:Pict P0 H B n ts ths)(f:Fr S H H')(hS: ∀i∈S,¬P0 i):Pict P0 H' B n ts ths:=
 ⟨p.len,p.tlen,p.small,λi h=>by
  obtain⟨a,ha,hr⟩:=p.row i h
  exact⟨a,ha,f.rowAt (by rw[addr_block_add];exact λhs=>hS _ hs (p.blk _ (by rw[ha];simp))) hr⟩,p.blk,λi h1 h2=>(p.dat i h1 h2).keep f hS (λ_ h=>h),λi h1 h2=>by
  obtain⟨a,b,c⟩:=p.ints i h1 h2
  exact⟨a,SrcAt.stay b f (λj hj hs=>hS j hs (c j hj)),c⟩,p.range,p.pair,p.vec⟩
end Go.Proofs.YtibpklpgmgakcaaGreatDoor
