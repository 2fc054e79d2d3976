/-
 Acts of the law of traces (package morainelaw11): words of values, what is set. Proves nothing of any one statement.
-/
import Derived.Test.YtmlhlkbpglcccaaGreatGcH
import Derived.Test.YtmlhlkbpglcccaaGreatRef01
import Derived.Test.YtmlhlkbpglcccaaGreatAct11
set_option linter.unusedVariables false
set_option linter.unusedSimpArgs false
namespace Go.Proofs.YtmlhlkbpglcccaaGreat
open Go

theorem OfIs.none{w k t a x m:Int}(h:OfIs w k t a x m):k=0 ↔ mayW w=false:=by
 unfold OfIs at h
 unfold mayW
 rcases h with h | h | h | h | h | h
 ·rw[if_pos h.1];exact⟨λe=>by omega,λe=>by simp at e⟩
 ·rw[if_neg (by omega),if_pos h.1,zX h.2.1];exact⟨λe=>by omega,λe=>by simp at e⟩
 ·rw[if_neg (by omega),if_neg (by omega),if_pos h.1,if_neg (by omega),zX (by omega)];exact⟨λe=>by omega,λe=>by simp at e⟩
 ·rw[if_neg (by omega),if_neg (by omega),if_pos h.1,if_pos h.2.1,h.2.2.1];exact⟨λe=>by omega,λe=>by simp at e⟩
 ·rw[if_neg (by omega),if_neg (by omega),if_neg (by omega),if_pos h.1,zX h.2.1];exact⟨λe=>by omega,λe=>by simp at e⟩
 ·exact⟨λ_=>h.1,λ_=>h.2.1⟩
structure Went (H H':zV) (b:Blk) (x:Hp) (sz:Int->Nat) (x':Hp) (sz':Int->Nat):Prop where
 view:View H' (some ⟨b.h,0,none⟩) (some (b,x'))
 inv:Inv x'.sp sz'
 lift:Lift x.sp.mem sz x'.sp.mem sz'
 cf:x'.sp.cf=x.sp.cf
 fr:Fr [b.sp,b.m,b.s] H H'
theorem Went.ext{H H':zV}{b:Blk}{x:Hp}{sz:Int->Nat}(V:View H (some ⟨b.h,0,none⟩) (some (b,x)))(I:Inv x.sp sz)(e:Ext H H'):Went H H' b x sz x sz:=⟨V.ext e,I,Lift.refl _ _,rfl,e.fr⟩
theorem Went.trans{A B C:zV}{b:Blk}{x y z:Hp}{f g h:Int->Nat}(p:Went A B b x f y g)(q:Went B C b y g z h):Went A C b x f z h:=⟨q.view,q.inv,p.lift.trans q.lift,q.cf.trans p.cf,p.fr.trans q.fr⟩

structure Act (H H':zV) (b:Blk) (x:Hp) (sz:Int->Nat) (mB:zW) (made:List Int) (x':Hp) (sz':Int->Nat) (B':zW) (c':Nat) (made':List Int):Prop where
 view:View H' (some ⟨b.h,0,none⟩) (some (b,x'))
 inv:Inv x'.sp sz'
 cf:x'.sp.cf=x.sp.cf
 fr:Fr ([b.sp,b.m,b.s]++blks mB) H H'
 own:Own H' 28 1 B' made'.length c' (wvs made')
 good: ∀w∈made',aH w/\Good x'.sp.mem sz' w
 len:made'.length<=made.length+1
 blk: ∀j∈blks B',j∈blks mB\/H.size<=j
 news:made'=made\/ ∃w,made'=made++[w]/\w ∉ made/\fD w
