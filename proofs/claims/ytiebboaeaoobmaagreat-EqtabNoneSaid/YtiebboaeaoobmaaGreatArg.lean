/-
 From a walk over heaps to the row of a law: it answers true, and whatever lay there lies as it lay. Proves nothing of any one statement.
-/
import Derived.Test.YtiebboaeaoobmaaGreatRows
import Derived.WalkKit
import Derived.ProofKit
import Derived.SizedLaws
import Derived.OpenShut
import Derived.ShutString
import Derived.JoinedCond
import Derived.Test.YtiebboaeaoobmaaGreatOwn
set_option linter.unusedVariables false
set_option linter.unusedSimpArgs false
namespace Go.Proofs.YtiebboaeaoobmaaGreat
open Go
open Go.ChangeShapes Go.WideShapes Go.ChangeAt Go.RowKit

theorem ownNone:ownKnob Tryz.prog.godebug=none:=by kernel_rfl
theorem laidOut:laidOutB Tryz.prog=true:=by kernel_rfl

theorem trodAll_stays{H:Type}{enc:TypeId×Value->H}{P:Program}(hl:laidOutB P=true){W W':World}(hb:Below W.heap.size W W'):
  ∀{ts:List TypeId} {vs:List Value} {ds:List (DataW H)} {ps:List MemPlace},(∀t∈ts,P.readableRec t=true/\t<P.types.size)->DataW.TrodAll enc P W 0 (λ_=>true) true ts vs ds ps->(∀x∈ps,x.block<W.heap.size)->
   DataW.TrodAll enc P W' 0 (λb=>decide (b<W.heap.size)) true ts vs ds ps
 | [],[],[],_,_,h,_=>h
 | [],[],_::_,_,_,h,_=>h.elim
 | [],_::_,_,_,_,h,_=>h.elim
 | _::_,[],_,_,_,h,_=>h.elim
 | _::_,_::_,[],_,_,h,_=>h.elim
 | t::ts,v::vs,d::ds,ps,hr,h,hlt=>by
  obtain⟨p,q,h1,h2,rfl⟩:=h
  exact⟨p,q,Below.trod hl (hr t (List.mem_cons_self ..)).1 (hr t (List.mem_cons_self ..)).2 h1 hb (λx hx=>hlt x (List.mem_append_left _ hx)),
   trodAll_stays hl hb (λu hu=>hr u (List.mem_cons_of_mem _ hu)) h2 (λx hx=>hlt x (List.mem_append_right _ hx)),rfl⟩

theorem law_post{H:Type}{enc:TypeId×Value->H}{P:Program}{fn:Func}{s:ChangeSpec}{W W':World}{args:Array Value}{ds gs:List (DataW H)}{before:List MemPlace}{tb:TypeId}
  (hl:laidOutB P=true) (hvars:s.vars=[]) (hpar: ∀t∈fn.params.toList,P.readableRec t=true/\t<P.types.size) (hrt:fn.resultTypes= #[tb]) (hbool:P.underlying tb=some .bool)
  (hspec:s.fn H ds={results:=[.lit (.bool true)],args:=ds})
  (hW:DataW.Whole enc P fn.params.toList s.vars false W args.toList ds gs before) (hb:Below W.heap.size W W'):
  s.post enc P fn false true false false W args (.bool true) W':=by
 have hW':=hW
 have hlt:=hW.lt
 obtain⟨p,q,hA,hV,rfl,_,_⟩:=hW
 have hgs:gs=[]/\q=[]:=by
  rw[hvars]at hV
  cases gs with
  | nil=>exact⟨rfl,hV⟩
  | cons g gs=>exact hV.elim
 obtain⟨rfl,rfl⟩:=hgs
 refine⟨ds,[],p++[],[],p,[],hW',?_,?_,?_,hb.frame _,by simp⟩
 ·rw[List.append_nil,hspec,hrt]
  exact trodAll_cons_mk (shut_bool hbool _) trodAll_mk0
 ·rw[List.append_nil,hspec]
  exact trodAll_stays hl hb hpar hA (λx hx=>hlt x (List.mem_append_left _ hx))
 ·rw[List.append_nil,hspec,hvars]
  rfl

set_option maxRecDepth 100000 in
theorem law_lifted{os:Os}(started:os.Started){H:Type}{enc:TypeId×Value->H}{f:FuncId}{fn:Func}{s:ChangeSpec}{tb:TypeId}
  (noInit:Tryz.checked.prog.inits.idxOf? f=none) (hfn:Tryz.prog.funcs[f]?=some fn)
  (witness: ∃(w:World) (tape:Tape) (i:Input),w.os=os/\(w.forCall tape i).Shaped Tryz.checked.prog/\i.vars=[]/\Input.okWide Tryz.checked.prog (w.forCall tape i) .any w.heap.size f i/\
   s.pre6 enc Tryz.checked.prog fn [] false (w.forCall tape i).memory i.args/\Assume.holds {} Tryz.checked.prog (lone (Frame.enter Tryz.checked.prog f i.args .normal) [] (w.forCall tape i)))
  (hvars:s.vars=[]) (hpar:(fn.params.toList.all λt=>Tryz.prog.readableRec t && decide (t<Tryz.prog.types.size))=true) (hrt:fn.resultTypes= #[tb]) (hbool:Tryz.prog.underlying tb=some .bool)
  (hspec: ∀ds:List (DataW H),ds.length=fn.params.size->s.fn H ds={results:=[.lit (.bool true)],args:=ds})
  (walk: ∀(W:World) (base:Nat) (args:Array Value) (ds:List (DataW H)) (p:List MemPlace),
   (∀(j:Nat) t v,fn.params[j]?=some t->args[j]?=some v->Value.okWide Tryz.prog W .any base t v)->
   DataW.TrodAll enc Tryz.prog W 0 (λ_=>true) true fn.params.toList args.toList ds p->
   (DataW.weightsEach Tryz.prog fn.params.toList ds).all (· <=reachBytes)=true->
   HC Tryz.prog f args W.heap (λv H'=>v=.bool true/\Ext W.heap H')):
  ReturnsInHanded {} Tryz.checked os f .any (s.pre6 enc Tryz.prog fn [] false) (s.post enc Tryz.prog fn false true false false):=by
 refine returnsInHanded_of_change_sized (C:=Tryz.checked) ownNone started noInit hfn witness ?_
 intro W base args ds gs before hval hW _ hsz _
 have hW':=hW
 obtain⟨p,q,hA,hV,rfl,_,_⟩:=hW
 have hgs:gs=[]:=by
  rw[hvars]at hV
  cases gs with
  | nil=>rfl
  | cons g gs=>exact hV.elim
 subst hgs
 have hlen:ds.length=fn.params.size:=by
  have: ∀(ts:List TypeId) (vs:List Value) (ds:List (DataW H)) (ps:List MemPlace),DataW.TrodAll enc Tryz.prog W 0 (λ_=>true) true ts vs ds ps->ds.length=ts.length:=by
   intro ts
   induction ts with
   | nil=>intro vs ds ps h;cases vs<;>cases ds<;>first | rfl | exact h.elim
   | cons t ts ih=>intro vs ds ps h;cases vs<;>cases ds<;>first | exact h.elim | (obtain⟨p,q,_,h2,_⟩:=h;simp[ih _ _ _ h2])
  simpa using this _ _ _ _ hA
 have hsz':(DataW.weightsEach Tryz.prog fn.params.toList ds).all (· <=reachBytes)=true:=by
  have e:s.plain.varTypes Tryz.prog=[]:=by unfold ChangeSpec.plain DataSpec.varTypes;simp[hvars]
  rw[List.append_nil]at hsz
  have:=hsz
  rw[show fn.params.toList++s.plain.varTypes Tryz.checked.prog=fn.params.toList by rw[show s.plain.varTypes Tryz.checked.prog=[]from e,List.append_nil]]at this
  exact this
 refine(walk W base args ds p hval hA hsz' W rfl).mono λe W' ⟨v,he,hs,hv,hx⟩=>?_
 subst hv
 refine⟨_,he,law_post laidOut hvars (λt ht=>?_) hrt hbool (hspec ds hlen) hW' ⟨hs.os,hs.tape,hs.output,hx.size,hx.old⟩⟩
 have:=List.all_eq_true.1 hpar t ht
 rw[Bool.and_eq_true]at this
 exact⟨this.1,of_decide_eq_true this.2⟩

theorem wf_u64{n:Int}(h:(Lit.int .u64 n).wf=true):IsWord n:=by
 simp only[Lit.wf,Bool.and_eq_true,decide_eq_true_eq]at h
 have h2:n<=18446744073709551615:=h.2
 have h1:(0:Int)<=n:=h.1
 exact⟨h1,by omega⟩
open Go.ChangeShapes Go.WideShapes

def Small{Hd:Type}(B:Nat)(d:DataW Hd):Prop:=B=maxLen\/Rows.uptoBulk d<=B
theorem bulk_part{Hd:Type}{d:DataW Hd}{l:List (DataW Hd)}(h:d∈l):Rows.uptoBulk d<=Rows.uptoBulkAll l:=by
 induction l with
 | nil=>cases h
 | cons x r ih=>
  simp only[Rows.uptoBulkAll]
  cases List.mem_cons.1 h with
  | inl e=>subst e;omega
  | inr e=>have:=ih e;omega
theorem Small.elem{Hd:Type}{B:Nat}{es sp:List (DataW Hd)}(h:Small B (.slice es sp)){d:DataW Hd}(hd:d∈es):Small B d:=by
 rcases h with h | h
 ·exact .inl h
 ·have:=bulk_part hd;simp only[Rows.uptoBulk]at h;exact .inr (by omega)
theorem Small.part{Hd:Type}{B:Nat}{es:List (DataW Hd)}(h:Small B (.agg es)){d:DataW Hd}(hd:d∈es):Small B d:=by
 rcases h with h | h
 ·exact .inl h
 ·have:=bulk_part hd;simp only[Rows.uptoBulk]at h;exact .inr (by omega)

section
variable {Hd:Type} {enc:TypeId×Value->Hd} {P:Program} {w:World} {base:Nat} {spare:Nat->Bool} {held:Bool} {B:Nat}
end

structure Nums (H:zV) (k:IntKind) (p:zW) (n:Nat) (xs:List Int):Prop where
 len:xs.length=n
 src:SrcAt H p (xs.map (Value.int k))
 wf: ∀x∈xs,(Lit.int k x).wf=true
theorem Nums.ext{H H':zV}{k:IntKind}{p:zW}{n:Nat}{xs:List Int}(h:Nums H k p n xs)(e:Ext H H'):Nums H' k p n xs:=by
 refine⟨h.len,?_,h.wf⟩
 cases p with
 | none=>exact h.src
 | some a=>exact e.rowAt h.src
theorem Nums.at{H:zV}{k:IntKind}{p:zW}{n:Nat}{xs:List Int}(h:Nums H k p n xs){i:Nat}(hi:i<xs.length): ∃a,p=some a/\hat H (a.add (i*1))=some (.int k xs[i]):=by
 cases p with
 | none=>have:xs.map (Value.int k)=[]:=h.src;simp at this;subst this;simp at hi
 | some a=>
  refine⟨a,rfl,?_⟩
  have:=rowAt_hat (show RowAt H a 0 _ from h.src) i (.int k xs[i]) (by simp[hi])
  rw[Nat.zero_add]at this;rw[Nat.mul_one];exact this
structure NumsOf where
 p:zW
 n:Nat
 c:Nat
 xs:List Int
structure Numss (B:Nat) (H:zV) (k:IntKind) (p:zW) (n:Nat) (L:List NumsOf):Prop where
 len:L.length=n
 src:SrcAt H p (L.map λy=>Value.slice y.p y.n y.c)
 each: ∀y∈L,Nums H k y.p y.n y.xs/\y.n<=B
theorem Numss.ext{B:Nat}{H H':zV}{k:IntKind}{p:zW}{n:Nat}{L:List NumsOf}(h:Numss B H k p n L)(e:Ext H H'):Numss B H' k p n L:=by
 refine⟨h.len,?_,λy hy=>⟨(h.each y hy).1.ext e,(h.each y hy).2⟩⟩
 cases p with
 | none=>exact h.src
 | some a=>exact e.rowAt h.src
theorem Numss.at{B:Nat}{H:zV}{k:IntKind}{p:zW}{n:Nat}{L:List NumsOf}(h:Numss B H k p n L){i:Nat}(hi:i<L.length): ∃a,p=some a/\hat H (a.add (i*1))=some (.slice L[i].p L[i].n L[i].c)/\Nums H k L[i].p L[i].n L[i].xs/\L[i].n<=B:=by
 cases p with
 | none=>have:L.map (λy=>Value.slice y.p y.n y.c)=[]:=h.src;simp at this;subst this;simp at hi
 | some a=>
  refine⟨a,rfl,?_,h.each _ (List.getElem_mem _)⟩
  have:=rowAt_hat (show RowAt H a 0 _ from h.src) i (.slice L[i].p L[i].n L[i].c) (by simp[hi])
  rw[Nat.zero_add]at this;rw[Nat.mul_one];exact this
section
variable {Hd:Type} {enc:TypeId×Value->Hd} {P:Program} {w:World} {base:Nat} {spare:Nat->Bool} {held:Bool} {B:Nat}
end
