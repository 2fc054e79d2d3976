/-
 Rows of seven whole numbers, the last four an array, compared as values. Proves nothing of any one program.
-/
import Derived.Test.YtihdffpekpnglaaGreatRange
import Derived.Laws.StructEq
import Derived.ChangeKeysEq
set_option linter.unusedVariables false
set_option linter.unusedSimpArgs false
namespace Go.Proofs.YtihdffpekpnglaaGreat
open Go

theorem su{p:Prop} [Decidable p] (h:p):(!(decide p))=false:=by rw[zQ h];rfl
theorem sv{p:Prop} [Decidable p] (h: ¬p):(!(decide p))=true:=by rw[zJ h];rfl
theorem lD{P:Program}{I:TypeId}(gI: ∀w,(isAgg I).run P w=.ok false w){cs:Array Value}{k:Nat}{v:Value}(h:cs[k]?=some v)(w:World):(part I cs k).run P w=.ok v w:=by
 simp[part,Sem.run_bind,gI w,h,Result.andThen]
theorem sw{P:Program}{A:TypeId}{n:Nat}(gA: ∀w,(isAgg A).run P w=.ok true w)(sA: ∀w,(sizeOf A).run P w=.ok n w){cs:Array Value}{k:Nat}(w:World):(part A cs k).run P w=.ok (.agg (cs.extract k (k+n))) w:=by
 simp[part,Sem.run_bind,gA w,sA w,Result.andThen]
theorem oz{P:Program}{d:Nat}{f:Field}{fs:List Field}{xs ys:Array Value}{a b:Int}{k:IntKind}(hn:f.name≠ "_")(hI:P.underlying f.type=some (.int k))(gI: ∀w,(isAgg f.type).run P w=.ok false w)(hx:xs[f.offset]?=some (.int k a))(hy:ys[f.offset]?=some (.int k b))(w:World):
  (Op.eqFields (d+1) xs ys (f::fs)).run P w=if a=b then(Op.eqFields (d+1) xs ys fs).run P w else .ok false w:=by
 rw[show Op.eqFields (d+1) xs ys (f::fs)=(if f.name≠ "_" then do
   let a<-part f.type xs f.offset
   let b<-part f.type ys f.offset
   let r<-Op.equalIn (d+1) f.type a b
   if(!r)=true then pure false else Op.eqFields (d+1) xs ys fs
  else Op.eqFields (d+1) xs ys fs)from rfl]
 rw[if_pos hn]
 simp only[Sem.run_bind,lD gI hx,lD gI hy,Result.andThen_ok,run_equalIn_int w d f.type k k a b hI]
 by_cases h:a=b
 ·rw[if_pos h,h];simp
 ·rw[if_neg h]
  have:(a==b)=false:=by simpa using h
  simp[this]
theorem mv{P:Program}{d:Nat}{I:TypeId}{i:Nat}{is:List Nat}{xs ys:Array Value}{a b:Int}{k:IntKind}(hI:P.underlying I=some (.int k))(gI: ∀w,(isAgg I).run P w=.ok false w)(hx:xs[i*1]?=some (.int k a))(hy:ys[i*1]?=some (.int k b))(w:World):
  (Op.eqItems (d+1) I 1 xs ys (i::is)).run P w=if a=b then(Op.eqItems (d+1) I 1 xs ys is).run P w else .ok false w:=by
 rw[show Op.eqItems (d+1) I 1 xs ys (i::is)=(do
   let a<-part I xs (i*1)
   let b<-part I ys (i*1)
   let r<-Op.equalIn (d+1) I a b
   if(!r)=true then pure false else Op.eqItems (d+1) I 1 xs ys is)from rfl]
 simp only[Sem.run_bind,lD gI hx,lD gI hy,Result.andThen_ok,run_equalIn_int w d I k k a b hI]
 by_cases h:a=b
 ·rw[if_pos h,h];simp
 ·rw[if_neg h]
  have:(a==b)=false:=by simpa using h
  simp[this]
theorem pO{P:Program}{T A I:TypeId}{f0 f1 f2 f3:Field}{iI:TypeInfo}(hT:P.underlying T=some (.struct #[f0,f1,f2,f3]))(hp:P.stoodInHeld T=false)(hI:P.underlying I=some (.int .i64))(hA:P.underlying A=some (.array 4 I))(iI':P.info? I=some iI)(cI:P.cellsOf I=1)
  (hn:f0.name≠ "_" /\f1.name≠ "_" /\f2.name≠ "_" /\f3.name≠ "_") (ht:f0.type=I/\f1.type=I/\f2.type=I/\f3.type=A) (ho:f0.offset=0/\f1.offset=1/\f2.offset=2/\f3.offset=3)
  (gI: ∀w,(isAgg I).run P w=.ok false w) (gA: ∀w,(isAgg A).run P w=.ok true w) (sA: ∀w,(sizeOf A).run P w=.ok 4 w)
  {a0 a1 a2 a3 a4 a5 a6 b0 b1 b2 b3 b4 b5 b6:Int} (w:World):
  (binN .neq T (.agg #[.int .i64 a0,.int .i64 a1,.int .i64 a2,.int .i64 a3,.int .i64 a4,.int .i64 a5,.int .i64 a6]) (.agg #[.int .i64 b0,.int .i64 b1,.int .i64 b2,.int .i64 b3,.int .i64 b4,.int .i64 b5,.int .i64 b6])).run P w=
   .ok (.value (.bool (!(decide (a0=b0/\a1=b1/\a2=b2/\a3=b3/\a4=b4/\a5=b5/\a6=b6))))) w:=by
 obtain⟨n0,n1,n2,n3⟩:=hn
 obtain⟨t0,t1,t2,t3⟩:=ht
 obtain⟨o0,o1,o2,o3⟩:=ho
 have hfs:(P.fieldsOf T)= #[f0,f1,f2,f3]:=by unfold Program.fieldsOf;rw[hT]
 have main: ∀(d:Nat) (xs ys:Array Value),xs= #[.int .i64 a0,.int .i64 a1,.int .i64 a2,.int .i64 a3,.int .i64 a4,.int .i64 a5,.int .i64 a6]->ys= #[.int .i64 b0,.int .i64 b1,.int .i64 b2,.int .i64 b3,.int .i64 b4,.int .i64 b5,.int .i64 b6]->
   (Op.equalIn (d+3) T (.agg xs) (.agg ys)).run P w=.ok (decide (a0=b0/\a1=b1/\a2=b2/\a3=b3/\a4=b4/\a5=b5/\a6=b6)) w:=by
  intro d xs ys hxs hys
  rw[run_equalIn_struct w (d+2) T xs ys (by rw[hfs];exact hT) hp,hfs]
  show(Op.eqFields (d+1+1) xs ys [f0,f1,f2,f3]).run P w=_
  rw[oz n0 (by rw[t0];exact hI) (by rw[t0];exact gI) (by rw[o0,hxs];rfl) (by rw[o0,hys];rfl)]
  by_cases c0:a0=b0
  case neg=>rw[if_neg c0,zJ (λh=>c0 h.1)]
  rw[if_pos c0,oz n1 (by rw[t1];exact hI) (by rw[t1];exact gI) (by rw[o1,hxs];rfl) (by rw[o1,hys];rfl)]
  by_cases c1:a1=b1
  case neg=>rw[if_neg c1,zJ (λh=>c1 h.2.1)]
  rw[if_pos c1,oz n2 (by rw[t2];exact hI) (by rw[t2];exact gI) (by rw[o2,hxs];rfl) (by rw[o2,hys];rfl)]
  by_cases c2:a2=b2
  case neg=>rw[if_neg c2,zJ (λh=>c2 h.2.2.1)]
  rw[if_pos c2]
  have inner:(Op.equalIn (d+1+1) f3.type (.agg (xs.extract f3.offset (f3.offset+4))) (.agg (ys.extract f3.offset (f3.offset+4)))).run P w=.ok (decide (a3=b3/\a4=b4/\a5=b5/\a6=b6)) w:=by
   rw[t3,o3,hxs,hys]
   rw[run_equalIn_array w (d+1) (e:=I) (n:=4) (i:=iI) _ _ hA iI',cI]
   show(Op.eqItems (d+1) I 1 #[.int .i64 a3,.int .i64 a4,.int .i64 a5,.int .i64 a6] #[.int .i64 b3,.int .i64 b4,.int .i64 b5,.int .i64 b6] [0,1,2,3]).run P w=_
   rw[mv hI gI (a:=a3) (b:=b3) rfl rfl]
   by_cases c3:a3=b3
   case neg=>rw[if_neg c3,zJ (λh=>c3 h.1)]
   rw[if_pos c3,mv hI gI (a:=a4) (b:=b4) rfl rfl]
   by_cases c4:a4=b4
   case neg=>rw[if_neg c4,zJ (λh=>c4 h.2.1)]
   rw[if_pos c4,mv hI gI (a:=a5) (b:=b5) rfl rfl]
   by_cases c5:a5=b5
   case neg=>rw[if_neg c5,zJ (λh=>c5 h.2.2.1)]
   rw[if_pos c5,mv hI gI (a:=a6) (b:=b6) rfl rfl]
   by_cases c6:a6=b6
   case neg=>rw[if_neg c6,zJ (λh=>c6 h.2.2.2)]
   rw[if_pos c6,zQ ⟨c3,c4,c5,c6⟩]
   rfl
  rw[show Op.eqFields (d+1+1) xs ys [f3]=(if f3.name≠ "_" then do
   let a<-part f3.type xs f3.offset
   let b<-part f3.type ys f3.offset
   let r<-Op.equalIn (d+1+1) f3.type a b
   if(!r)=true then pure false else Op.eqFields (d+1+1) xs ys []
  else Op.eqFields (d+1+1) xs ys [])from rfl]
  rw[if_pos n3]
  simp only[Sem.run_bind,sw (A:=f3.type) (by rw[t3];exact gA) (by rw[t3];exact sA),Result.andThen_ok]
  rw[inner]
  simp only[Result.andThen_ok]
  have ed:decide (a0=b0/\a1=b1/\a2=b2/\a3=b3/\a4=b4/\a5=b5/\a6=b6)=decide (a3=b3/\a4=b4/\a5=b5/\a6=b6):=by
   rw[decide_eq_decide];exact⟨λh=>h.2.2.2,λh=>⟨c0,c1,c2,h⟩⟩
  rw[ed]
  by_cases c:a3=b3/\a4=b4/\a5=b5/\a6=b6
  ·rw[zQ c];rfl
  ·rw[zJ c];rfl
 unfold binN
 rw[run_bind_ok (x:=.bool (!(decide (a0=b0/\a1=b1/\a2=b2/\a3=b3/\a4=b4/\a5=b5/\a6=b6)))) (w':=w)]
 ·rfl
 ·rw[run_neq_struct,show(10000:Nat)=9997+3 from rfl,main 9997 _ _ rfl rfl];rfl
