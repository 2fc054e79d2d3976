/-
 Rows of seven whole numbers, the last four an array, compared as values. Proves nothing of any one program.
-/
import Derived.Test.YtmlhlkbpglcccaaGreatRange
import Derived.Laws.StructEq
import Derived.ChangeKeysEq
set_option linter.unusedVariables false
set_option linter.unusedSimpArgs false
namespace Go.Proofs.YtmlhlkbpglcccaaGreat
open Go

theorem pb{p:Prop} [Decidable p] (h:p):(!(decide p))=false:=by rw[zX h];rfl
theorem pc{p:Prop} [Decidable p] (h: ¬p):(!(decide p))=true:=by rw[zQ h];rfl
theorem lD{P:Program}{I:TypeId}(gI: ∀w,(isAgg I).run P w=.ok false w){cs:Array Value}{k:Nat}{v:Value}(h:cs[k]?=some v)(w:World):(part I cs k).run P w=.ok v w:=by
 simp[part,Sem.run_bind,gI w,h,Result.andThen]
theorem mM{P:Program}{d:Nat}{f:Field}{fs:List Field}{xs ys:Array Value}{a b:Int}{k:IntKind}(hn:f.name≠ "_")(hI:P.underlying f.type=some (.int k))(gI: ∀w,(isAgg f.type).run P w=.ok false w)(hx:xs[f.offset]?=some (.int k a))(hy:ys[f.offset]?=some (.int k b))(w:World):
  (Op.eqFields (d+1) xs ys (f::fs)).run P w=if a=b then(Op.eqFields (d+1) xs ys fs).run P w else .ok false w:=by
 rw[show Op.eqFields (d+1) xs ys (f::fs)=(if f.name≠ "_" then do
   let a<-part f.type xs f.offset
   let b<-part f.type ys f.offset
   let r<-Op.equalIn (d+1) f.type a b
   if(!r)=true then pure false else Op.eqFields (d+1) xs ys fs
  else Op.eqFields (d+1) xs ys fs)from rfl]
 rw[if_pos hn]
 simp only[Sem.run_bind,lD gI hx,lD gI hy,Result.andThen_ok,run_equalIn_int w d f.type k k a b hI]
 by_cases h:a=b
 ·rw[if_pos h,h];simp
 ·rw[if_neg h]
  have:(a==b)=false:=by simpa using h
  simp[this]
theorem mP{P:Program}{T I:TypeId}{k:IntKind}{f0 f1:Field}(hT:P.underlying T=some (.struct #[f0,f1]))(hp:P.stoodInHeld T=false)(hI:P.underlying I=some (.int k))
  (hn:f0.name≠ "_" /\f1.name≠ "_") (ht:f0.type=I/\f1.type=I) (ho:f0.offset=0/\f1.offset=1) (gI: ∀w,(isAgg I).run P w=.ok false w) {a0 a1 b0 b1:Int} (d:Nat) (w:World):
  (Op.equalIn (d+2) T (.agg #[.int k a0,.int k a1]) (.agg #[.int k b0,.int k b1])).run P w=.ok (decide (a0=b0/\a1=b1)) w:=by
 obtain⟨n0,n1⟩:=hn
 obtain⟨t0,t1⟩:=ht
 obtain⟨o0,o1⟩:=ho
 have hfs:(P.fieldsOf T)= #[f0,f1]:=by unfold Program.fieldsOf;rw[hT]
 rw[run_equalIn_struct w (d+1) T _ _ (by rw[hfs];exact hT) hp,hfs]
 show(Op.eqFields (d+1) #[.int k a0,.int k a1] #[.int k b0,.int k b1] [f0,f1]).run P w=_
 rw[mM n0 (by rw[t0];exact hI) (by rw[t0];exact gI) (by rw[o0];rfl) (by rw[o0];rfl)]
 by_cases c0:a0=b0
 case neg=>rw[if_neg c0,zQ (λh=>c0 h.1)]
 rw[if_pos c0,mM n1 (by rw[t1];exact hI) (by rw[t1];exact gI) (by rw[o1];rfl) (by rw[o1];rfl)]
 by_cases c1:a1=b1
 case neg=>rw[if_neg c1,zQ (λh=>c1 h.2)]
 rw[if_pos c1,zX ⟨c0,c1⟩]
 rfl
theorem nS{P:Program}{T I:TypeId}{k:IntKind}{f0 f1:Field}(hT:P.underlying T=some (.struct #[f0,f1]))(hp:P.stoodInHeld T=false)(hI:P.underlying I=some (.int k))
  (hn:f0.name≠ "_" /\f1.name≠ "_") (ht:f0.type=I/\f1.type=I) (ho:f0.offset=0/\f1.offset=1) (gI: ∀w,(isAgg I).run P w=.ok false w) {a0 a1 b0 b1:Int} (w:World):
  (binN .neq T (.agg #[.int k a0,.int k a1]) (.agg #[.int k b0,.int k b1])).run P w=.ok (.value (.bool (!(decide (a0=b0/\a1=b1))))) w:=by
 unfold binN
 rw[run_bind_ok (x:=.bool (!(decide (a0=b0/\a1=b1)))) (w':=w)]
 ·rfl
 ·rw[run_neq_struct,show(10000:Nat)=9998+2 from rfl,mP hT hp hI hn ht ho gI 9998];rfl
theorem nT{P:Program}{T I:TypeId}{k:IntKind}{f0 f1:Field}(hT:P.underlying T=some (.struct #[f0,f1]))(hp:P.stoodInHeld T=false)(hI:P.underlying I=some (.int k))
  (hn:f0.name≠ "_" /\f1.name≠ "_") (ht:f0.type=I/\f1.type=I) (ho:f0.offset=0/\f1.offset=1) (gI: ∀w,(isAgg I).run P w=.ok false w) {a0 a1 b0 b1:Int} (w:World):
  (binN .eql T (.agg #[.int k a0,.int k a1]) (.agg #[.int k b0,.int k b1])).run P w=.ok (.value (.bool (decide (a0=b0/\a1=b1)))) w:=by
 unfold binN
 rw[run_bind_ok (x:=.bool (decide (a0=b0/\a1=b1))) (w':=w)]
 ·rfl
 ·rw[run_eql_struct,show(10000:Nat)=9998+2 from rfl,mP hT hp hI hn ht ho gI 9998];rfl
