/-
 A heap of a law's own: what is made on it. Proves nothing of any one statement.
-/
import Derived.Test.YtiebboaeaoobmaaGreatPair
set_option linter.unusedVariables false
set_option linter.unusedSimpArgs false
namespace Go.Proofs.YtiebboaeaoobmaaGreat
open Go

theorem View.inv{H:zV}{hv:zW}{b:Blk}{x:Hp}(V:View H hv (some (b,x))):hv=some ⟨b.h,0,none⟩/\HpAt H b x/\SpOK x.sp:=by
 cases V with
 | real h ok=>exact⟨rfl,h,ok⟩

structure Live (H0 H:zV) (b:Blk) (x:Hp):Prop where
 at':HpAt H b x
 ok:SpOK x.sp
 ext:Ext H0 H
 young: ∀i,i∈b.all->H0.size<=i
theorem Live.view{H0 H:zV}{b:Blk}{x:Hp}(h:Live H0 H b x):View H (some ⟨b.h,0,none⟩) (some (b,x)):=.real h.at' h.ok
theorem Live.grow{H0 H H':zV}{b:Blk}{x:Hp}(h:Live H0 H b x)(e:Ext H H'):Live H0 H' b x:=⟨h.at'.ext e,h.ok,h.ext.trans e,h.young⟩
theorem Live.step{H0 H H':zV}{b:Blk}{x x':Hp}(h:Live H0 H b x)(V:View H' (some ⟨b.h,0,none⟩) (some (b,x')))(f:Fr (own (some (b,x))) H H'):Live H0 H' b x':=by
 obtain⟨_,h',ok'⟩:=V.inv
 exact⟨h',ok',h.ext.fr_trans f (λi hi=>h.young i (by simp[own]at hi;simp[Blk.all];omega)),h.young⟩
theorem Live.others{H H':zV}{b:Blk}{x:Hp}(f:Fr (own (some (b,x))) H H'):Fr b.all H H':=f.mono (λi hi _=>by simp[own]at hi;simp[Blk.all];omega)
theorem Live.n64{H0 H:zV}{b:Blk}{x:Hp}(h:Live H0 H b x)(k:Nat):(x.sp.mem.seg k).n<=64:=(h.ok.mem.seg k).n.2

theorem qI(b:Blk)(x:Hp)(kind more:Int)(ws:List Int):iK (some (b,x)) kind more ws=(x.sp.make kind more ws).2/\iO (some (b,x)) kind more ws=some (b,{x with sp:=(x.sp.make kind more ws).1}):=by
 unfold iK iO Sp.make
 split
 ·exact⟨rfl,rfl⟩
 split
 ·exact⟨rfl,rfl⟩
 ·exact⟨rfl,rfl⟩

