/-
 From a walk over heaps to the row of a law whose row says how tables lie. Proves nothing of any one statement.
-/
import Derived.Test.YtffacgdneichhaaGreatDoorRead
import Derived.LaidMore
import Derived.Lay
import Derived.SevenTiedAt
import Derived.Stop.Joined
set_option linter.unusedVariables false
set_option linter.unusedSimpArgs false
namespace Go.Proofs.YtffacgdneichhaaGreatDoor
open Go
open Go.ChangeShapes Go.WideShapes Go.ChangeAt Go.RowKit

set_option maxRecDepth 100000 in
theorem lb{os:Os}(started:os.Started){H:Type}{enc:TypeId×Value->H}{f:FuncId}{fn:Func}{s:ChangeSpec}{tb:TypeId}{laid:List (String×DataW Unit)}
  (noInit:Tryz.checked.prog.inits.idxOf? f=none) (hfn:Tryz.prog.funcs[f]?=some fn)
  (witness: ∃(w:World) (tape:Tape) (i:Input),w.os=os/\(w.forCall tape i).Shaped Tryz.checked.prog/\i.vars=[]/\Input.okWide Tryz.checked.prog (w.forCall tape i) .any w.heap.size f i/\
   ((s.pre enc Tryz.checked.prog fn [] false (w.forCall tape i).memory i.args/\laidMetH Tryz.prog laid (w.forCall tape i).memory)/\sizedMet enc Tryz.checked.prog fn (OpenSpec.ofChange s) false (w.forCall tape i).memory i.args)/\Assume.holds {} Tryz.checked.prog (lone (Frame.enter Tryz.checked.prog f i.args .normal) [] (w.forCall tape i)))
  (hvars:s.vars=[]) (hpar:(fn.params.toList.all λt=>Tryz.prog.readableRec t && decide (t<Tryz.prog.types.size))=true) (hrt:fn.resultTypes= #[tb]) (hbool:Tryz.prog.underlying tb=some .bool)
  (hspec: ∀ds:List (DataW H),ds.length=fn.params.size->s.fn H ds={results:=[.lit (.bool true)],args:=ds})
  (walk: ∀(W:World) (base:Nat) (args:Array Value) (ds:List (DataW H)) (p:List MemPlace),laidMetH Tryz.prog laid W->
   (∀(j:Nat) t v,fn.params[j]?=some t->args[j]?=some v->Value.okWide Tryz.prog W .any base t v)->
   DataW.TrodAll enc Tryz.prog W 0 (λ_=>true) true fn.params.toList args.toList ds p->
   (DataW.weightsEach Tryz.prog fn.params.toList ds).all (· <=reachBytes)=true->
   HC Tryz.prog f args W.heap (λv H'=>v=.bool true/\Ext W.heap H')):
  ReturnsInHanded {} Tryz.checked os f .any (λw args=>(s.pre enc Tryz.prog fn [] false w args/\laidMetH Tryz.prog laid w)/\sizedMet enc Tryz.prog fn (OpenSpec.ofChange s) false w args) (s.post enc Tryz.prog fn false true false false):=by
 refine returnsInHanded_of_change_and (C:=Tryz.checked) (X:=λw _=>laidMetH Tryz.prog laid w) (λ_ _ _ hh h=>h.of_heap hh) rV started noInit hfn witness ?_
 intro W base args ds gs before hval hW _ hsz hL _
 have hW':=hW
 obtain⟨p,q,hA,hV,rfl,_,_⟩:=hW
 have hgs:gs=[]:=by
  rw[hvars]at hV
  cases gs with
  | nil=>rfl
  | cons g gs=>exact hV.elim
 subst hgs
 have hlen:ds.length=fn.params.size:=by
  have: ∀(ts:List TypeId) (vs:List Value) (ds:List (DataW H)) (ps:List MemPlace),DataW.TrodAll enc Tryz.prog W 0 (λ_=>true) true ts vs ds ps->ds.length=ts.length:=by
   intro ts
   induction ts with
   | nil=>intro vs ds ps h;cases vs<;>cases ds<;>first | rfl | exact h.elim
   | cons t ts ih=>intro vs ds ps h;cases vs<;>cases ds<;>first | exact h.elim | (obtain⟨p,q,_,h2,_⟩:=h;simp[ih _ _ _ h2])
  simpa using this _ _ _ _ hA
 have hsz':(DataW.weightsEach Tryz.prog fn.params.toList ds).all (· <=reachBytes)=true:=by
  have e:s.plain.varTypes Tryz.prog=[]:=by unfold ChangeSpec.plain DataSpec.varTypes;simp[hvars]
  rw[List.append_nil]at hsz
  have:=hsz
  rw[show fn.params.toList++s.plain.varTypes Tryz.checked.prog=fn.params.toList by rw[show s.plain.varTypes Tryz.checked.prog=[]from e,List.append_nil]]at this
  exact this
 refine(walk W base args ds p hL hval hA hsz' W rfl).mono λe W' ⟨v,he,hs,hv,hx⟩=>?_
 subst hv
 refine⟨_,he,ri laidOut hvars (λt ht=>?_) hrt hbool (hspec ds hlen) hW' ⟨hs.os,hs.tape,hs.output,hx.size,hx.old⟩⟩
 have:=List.all_eq_true.1 hpar t ht
 rw[Bool.and_eq_true]at this
 exact⟨this.1,of_decide_eq_true this.2⟩

