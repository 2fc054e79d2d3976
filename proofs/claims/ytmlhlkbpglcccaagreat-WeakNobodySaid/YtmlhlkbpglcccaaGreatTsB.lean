/-
 A round of the law of traces (package morainelaw11): its acts, its roots. Proves nothing of any one statement.
-/
import Derived.Test.YtmlhlkbpglcccaaGreatMadeB
import Derived.Test.YtmlhlkbpglcccaaGreatCnt
set_option linter.unusedVariables false
set_option linter.unusedSimpArgs false
namespace Go.Proofs.YtmlhlkbpglcccaaGreat
open Go

structure St (H0 H:zV) (b:Blk) (x:Hp) (sz:Int->Nat) (mB:zW) (mC:Nat) (made:List Int):Prop where
 e:Ext H0 H
 view:View H (some ⟨b.h,0,none⟩) (some (b,x))
 inv:Inv x.sp sz
 own:Own H 28 1 mB made.length mC (wvs made)
 good: ∀w∈made,aH w/\Good x.sp.mem sz w
 hb: ∀j∈b.all,H0.size<=j
 hm: ∀j∈blks mB,H0.size<=j/\j ∉ b.all
theorem St.ext{H0 H H':zV}{b:Blk}{x:Hp}{sz:Int->Nat}{mB:zW}{mC:Nat}{made:List Int}(h:St H0 H b x sz mB mC made)(e:Ext H H'):St H0 H' b x sz mB mC made:=
 ⟨h.e.trans e,h.view.ext e,h.inv,h.own.ext e,h.good,h.hb,h.hm⟩
theorem St.blt{H0 H:zV}{b:Blk}{x:Hp}{sz:Int->Nat}{mB:zW}{mC:Nat}{made:List Int}(h:St H0 H b x sz mB mC made): ∀j∈b.all,j<H.size:=by
 obtain⟨-,hp,-⟩:=h.view.inv
 exact hp.lt

def brk(O:Nat->Bool)(m:Mem)(a:Int):Mem:=if aQ O (m.read a)then m.wr a 44 else m
theorem ly(O:Nat->Bool)(m:Mem)(a:Int):aZ m (brk O m a):=by
 unfold brk
 split
 ·exact aZ.wr m a 44
 ·exact aZ.refl m
theorem oZ{s:Sp}(ok:SpOK s)(O:Nat->Bool)(a:Int):SpOK {s with mem:=brk O s.mem a}:=by
 unfold brk
 split
 ·exact ok.wr a (by decide)
 ·exact ok
theorem kB(O:Nat->Bool): ∀(l:List Int) (m:Mem),aZ m (l.foldl (brk O) m)
 | [],m=>aZ.refl m
 | a::l,m=>(ly O m a).trans (kB O l _)
theorem mL(O:Nat->Bool): ∀(l:List Int) {s:Sp},SpOK s->SpOK {s with mem:=l.foldl (brk O) s.mem}
 | [],s,ok=>ok
 | a::l,s,ok=>mL O l (oZ ok O a)
