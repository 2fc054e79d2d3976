/-
 Rounds of calls and collections (package morainelaw13). Proves nothing of any one statement.
-/
import Derived.Test.YtgnokbjknicahaaGreatCol
import Derived.Test.YtgnokbjknicahaaGreatTsB
import Derived.Test.YtgnokbjknicahaaGreatFnsC
set_option linter.unusedVariables false
set_option linter.unusedSimpArgs false
namespace Go.Proofs.YtgnokbjknicahaaGreat
open Go

def Bare(x:Hp):Prop:=x.en=.slice none 0 0/\x.sy=.slice none 0 0
theorem Bare.keep{S:List Nat}{H H':Array Obj}{b:Blk}{x x':Hp}(h:Bare x)(hp:HpAt H b x)(hp':HpAt H' b x')(f:Fr S H H')(hn:b.h ∉ S):Bare x':=by
 have h1:=f.get hn hp.h
 rw[hp'.h]at h1
 simp only[Option.some.injEq,Obj.cells.injEq,Array.mk.injEq,List.cons.injEq]at h1
 obtain⟨⟨_,h2,h3,_⟩,_⟩:=h1
 exact⟨h3.trans h.1,h2.trans h.2⟩
theorem St.collected{H0 H H':Array Obj}{b:Blk}{x:Hp}{sz:Int->Nat}{mB:Option Addr}{mC:Nat}{made:List Int}{g T:Int}{roots young:List Int}{rB:Option Addr}{rC:Nat}{fw:Int->Option Int}{al:List Int}{sz':Int->Nat}{tr:Tr}{s3 s4 s5:Sp}(S:St H0 H b x sz mB mC made)
  (W:Went13 H H' b x sz g T roots young rB rC fw al sz' tr s3 s4 s5) (hrb: ∀j∈blks rB,H0.size<=j/\j ∉ b.all):St H0 H' b {x with sp:=s5,ep:=IntKind.wrap .u64 (x.ep+1)} (szE tr.old sz') rB rC young/\young.length=roots.length:=by
 have hyl:young.length=roots.length:=by rw[W.col.yg,List.length_map]
 refine⟨⟨?_,.real W.hp W.col.inv.ok,W.col.inv,by rw[hyl];exact W.own,W.col.good,S.hb,hrb⟩,hyl⟩
 refine S.e.fr_trans W.fr (λj hj=>?_)
 rcases List.mem_append.1 hj with q | q
 ·exact S.hb j q
 ·exact(hrb j q).1
theorem Own.some{H:Array Obj}{T:TypeId}{n c:Nat}{p:Option Addr}{xs:List Value}(h:Own H T 1 p n c xs):0<n-> ∃a,p=Option.some a:=by
 cases p with
 | none=>obtain⟨rfl,_⟩:=h;intro q;omega
 | some a=>exact λ_=>⟨a,rfl⟩
end Go.Proofs.YtgnokbjknicahaaGreat
