/-
 A round of the law of traces (package morainelaw11): its acts, its roots. Proves nothing of any one statement.
-/
import Derived.Test.YtgnokbjknicahaaGreatMadeB
import Derived.Test.YtgnokbjknicahaaGreatCnt
set_option linter.unusedVariables false
set_option linter.unusedSimpArgs false
namespace Go.Proofs.YtgnokbjknicahaaGreat
open Go

structure St (H0 H:zV) (b:Blk) (x:Hp) (sz:Int->Nat) (mB:zW) (mC:Nat) (made:List Int):Prop where
 e:Ext H0 H
 view:View H (some ⟨b.h,0,none⟩) (some (b,x))
 inv:Inv x.sp sz
 own:Own H 24 1 mB made.length mC (wvs made)
 good: ∀w∈made,IsWord w/\Good x.sp.mem sz w
 hb: ∀j∈b.all,H0.size<=j
 hm: ∀j∈blks mB,H0.size<=j/\j ∉ b.all
theorem St.ext{H0 H H':zV}{b:Blk}{x:Hp}{sz:Int->Nat}{mB:zW}{mC:Nat}{made:List Int}(h:St H0 H b x sz mB mC made)(e:Ext H H'):St H0 H' b x sz mB mC made:=
 ⟨h.e.trans e,h.view.ext e,h.inv,h.own.ext e,h.good,h.hb,h.hm⟩
theorem St.blt{H0 H:zV}{b:Blk}{x:Hp}{sz:Int->Nat}{mB:zW}{mC:Nat}{made:List Int}(h:St H0 H b x sz mB mC made): ∀j∈b.all,j<H.size:=by
 obtain⟨-,hp,-⟩:=h.view.inv
 exact hp.lt

def Sp.visL(O:Nat->Bool)(T:Int)(s:Sp)(l:List Int):Sp×List Int:=l.foldl (λst w=>((st.1.visit O T w).1,st.2++[(st.1.visit O T w).2])) (s,[])
theorem Sp.visL_snoc(O:Nat->Bool)(T:Int)(s:Sp)(l:List Int)(w:Int):s.visL O T (l++[w])=(((s.visL O T l).1.visit O T w).1,(s.visL O T l).2++[((s.visL O T l).1.visit O T w).2]):=by
 unfold Sp.visL
 rw[List.foldl_append];rfl
theorem Sp.visL_len(O:Nat->Bool)(T:Int)(s:Sp)(l:List Int):(s.visL O T l).2.length=l.length:=by
 have: ∀(l:List Int) (st:Sp×List Int),(l.foldl (λst w=>((st.1.visit O T w).1,st.2++[(st.1.visit O T w).2])) st).2.length=st.2.length+l.length:=λl=>by
  induction l with
  | nil=>intro st;rfl
  | cons w l ih=>intro st;simp only[List.foldl_cons];rw[ih];simp;omega
 unfold Sp.visL
 rw[this];simp
def brk(O:Nat->Bool)(m:Mem)(a:Int):Mem:=if isOldW O (m.read a)then m.wr a 44 else m
theorem brk_same(O:Nat->Bool)(m:Mem)(a:Int):Same' m (brk O m a):=by
 unfold brk
 split
 ·exact Same'.wr m a 44
 ·exact Same'.refl m
theorem brk_ok{s:Sp}(ok:SpOK s)(O:Nat->Bool)(a:Int):SpOK {s with mem:=brk O s.mem a}:=by
 unfold brk
 split
 ·exact ok.wr a (by decide)
 ·exact ok
theorem brks_same(O:Nat->Bool): ∀(l:List Int) (m:Mem),Same' m (l.foldl (brk O) m)
 | [],m=>Same'.refl m
 | a::l,m=>(brk_same O m a).trans (brks_same O l _)
theorem brks_ok(O:Nat->Bool): ∀(l:List Int) {s:Sp},SpOK s->SpOK {s with mem:=l.foldl (brk O) s.mem}
 | [],s,ok=>ok
 | a::l,s,ok=>brks_ok O l (brk_ok ok O a)
