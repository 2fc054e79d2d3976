/-
 A round of the law of traces (package morainelaw11): older words are told, roots are visited, weak cars are broken. Proves nothing of any one statement.
-/
import Derived.Test.YtffacgdneichhaaGreatDoorCnt
import Derived.Test.YtffacgdneichhaaGreatDoorGcH
set_option linter.unusedVariables false
set_option linter.unusedSimpArgs false
namespace Go.Proofs.YtffacgdneichhaaGreatDoor
open Go

def Sp.visL(O:Nat->Bool)(T:Int)(s:Sp)(l:List Int):Sp×List Int:=l.foldl (λst w=>((st.1.visit O T w).1,st.2++[(st.1.visit O T w).2])) (s,[])
theorem Sp.visL_snoc(O:Nat->Bool)(T:Int)(s:Sp)(l:List Int)(w:Int):s.visL O T (l++[w])=(((s.visL O T l).1.visit O T w).1,(s.visL O T l).2++[((s.visL O T l).1.visit O T w).2]):=by
 unfold Sp.visL
 rw[List.foldl_append];rfl
theorem Sp.visL_len(O:Nat->Bool)(T:Int)(s:Sp)(l:List Int):(s.visL O T l).2.length=l.length:=by
 have: ∀(l:List Int) (st:Sp×List Int),(l.foldl (λst w=>((st.1.visit O T w).1,st.2++[(st.1.visit O T w).2])) st).2.length=st.2.length+l.length:=λl=>by
  induction l with
  | nil=>intro st;rfl
  | cons w l ih=>intro st;simp only[List.foldl_cons];rw[ih];simp;omega
 unfold Sp.visL
 rw[this];simp
def brk(O:Nat->Bool)(m:Mem)(a:Int):Mem:=if aM O (m.read a)then m.wr a 44 else m
theorem oh(O:Nat->Bool)(m:Mem)(a:Int):bD m (brk O m a):=by
 unfold brk
 split
 ·exact bD.wr m a 44
 ·exact bD.refl m
theorem sK{s:Sp}(ok:SpOK s)(O:Nat->Bool)(a:Int):SpOK {s with mem:=brk O s.mem a}:=by
 unfold brk
 split
 ·exact ok.wr a (by decide)
 ·exact ok
theorem mW(O:Nat->Bool): ∀(l:List Int) (m:Mem),bD m (l.foldl (brk O) m)
 | [],m=>bD.refl m
 | a::l,m=>(oh O m a).trans (mW O l _)
theorem pO(O:Nat->Bool): ∀(l:List Int) {s:Sp},SpOK s->SpOK {s with mem:=l.foldl (brk O) s.mem}
 | [],s,ok=>ok
 | a::l,s,ok=>pO O l (sK ok O a)
