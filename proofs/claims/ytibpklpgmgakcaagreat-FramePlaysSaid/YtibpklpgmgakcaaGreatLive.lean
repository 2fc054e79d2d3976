/-
 A heap of a law's own: what is made on it. Proves nothing of any one statement.
-/
import Derived.Test.YtibpklpgmgakcaaGreatThing
set_option linter.unusedVariables false
set_option linter.unusedSimpArgs false
namespace Go.Proofs.YtibpklpgmgakcaaGreat
open Go

theorem View.inv{H:Array Obj}{hv:Option Addr}{b:Blk}{x:Hp}(V:View H hv (some (b,x))):hv=some ⟨b.h,0,none⟩/\HpAt H b x/\SpOK x.sp:=by
 cases V with
 | real h ok=>exact⟨rfl,h,ok⟩

structure Live (H0 H:Array Obj) (b:Blk) (x:Hp):Prop where
 at':HpAt H b x
 ok:SpOK x.sp
 ext:Ext H0 H
 young: ∀i,i∈b.all->H0.size<=i
theorem Live.view{H0 H:Array Obj}{b:Blk}{x:Hp}(h:Live H0 H b x):View H (some ⟨b.h,0,none⟩) (some (b,x)):=.real h.at' h.ok
theorem Live.grow{H0 H H':Array Obj}{b:Blk}{x:Hp}(h:Live H0 H b x)(e:Ext H H'):Live H0 H' b x:=⟨h.at'.ext e,h.ok,h.ext.trans e,h.young⟩
theorem Live.step{H0 H H':Array Obj}{b:Blk}{x x':Hp}(h:Live H0 H b x)(V:View H' (some ⟨b.h,0,none⟩) (some (b,x')))(f:Fr (own (some (b,x))) H H'):Live H0 H' b x':=by
 obtain⟨_,h',ok'⟩:=V.inv
 exact⟨h',ok',h.ext.fr_trans f (λi hi=>h.young i (by simp[own]at hi;simp[Blk.all];omega)),h.young⟩
theorem Live.others{H H':Array Obj}{b:Blk}{x:Hp}(f:Fr (own (some (b,x))) H H'):Fr b.all H H':=f.mono (λi hi _=>by simp[own]at hi;simp[Blk.all];omega)
theorem Live.n64{H0 H:Array Obj}{b:Blk}{x:Hp}(h:Live H0 H b x)(k:Nat):(x.sp.mem.seg k).n<=64:=(h.ok.mem.seg k).n.2

theorem make_some(b:Blk)(x:Hp)(kind more:Int)(ws:List Int):makeR (some (b,x)) kind more ws=(x.sp.make kind more ws).2/\makeO (some (b,x)) kind more ws=some (b,{x with sp:=(x.sp.make kind more ws).1}):=by
 unfold makeR makeO Sp.make
 split
 ·exact⟨rfl,rfl⟩
 split
 ·exact⟨rfl,rfl⟩
 ·exact⟨rfl,rfl⟩

structure MadeAs (x x':Hp) (w kind more:Int) (ws:List Int):Prop where
 thing:Thing x'.sp.mem w kind more ws
 made:Made x.sp.mem x'.sp.mem w ws.length
theorem live_make{H0 H:Array Obj}{b:Blk}{x:Hp}(L:Live H0 H b x){kind more:Int}{ws:List Int}(hkd:1<=kind/\kind<=13)(hmo:0<=more/\more<281474976710656)(hl:ws.length<=62)(hw: ∀w∈ws,IsWord w)(hf:1<=x.sp.mem.free):
  ∃(w:Int) (x':Hp),makeR (some (b,x)) kind more ws=(w,0)/\makeO (some (b,x)) kind more ws=some (b,x')/\MadeAs x x' w kind more ws:=by
 obtain⟨h1,h2,h3,h4⟩:=Sp.make_ok L.ok hkd hmo hl hw hf
 obtain⟨e1,e2⟩:=make_some b x kind more ws
 exact⟨_,_,by rw[e1,<-h1],e2,⟨h2,h4⟩⟩
theorem Thing.get0{m:Mem}{w kind more p:Int}{ws:List Int}(h:Thing m w kind more (p::ws)):m.get (w / 8+1)=p:=by
 have:=h.get 0 (by simp);simpa using this
theorem nil_not{m:Mem}: ¬m.isObj 20:=noAddr (by decide)
end Go.Proofs.YtibpklpgmgakcaaGreat
