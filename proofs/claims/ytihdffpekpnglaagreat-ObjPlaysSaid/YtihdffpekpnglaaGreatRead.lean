/-
 From a walk over heaps to the row of a law: it answers true, and whatever lay there lies as it lay. Proves nothing of any one statement.
-/
import Derived.Test.YtihdffpekpnglaaGreatRows
import Derived.WalkKit
import Derived.ProofKit
import Derived.SizedLaws
import Derived.OpenShut
import Derived.ShutString
import Derived.JoinedCond
import Derived.Test.YtihdffpekpnglaaGreatOwn
set_option linter.unusedVariables false
set_option linter.unusedSimpArgs false
namespace Go.Proofs.YtihdffpekpnglaaGreat
open Go
open Go.ChangeShapes Go.WideShapes Go.ChangeAt Go.RowKit

theorem sL:ownKnob Tryz.prog.godebug=none:=by kernel_rfl
theorem laidOut:laidOutB Tryz.prog=true:=by kernel_rfl

theorem kX{H:Type}{enc:TypeId×Value->H}{P:Program}(hl:laidOutB P=true){W W':World}(hb:Below W.heap.size W W'):
  ∀{ts:List TypeId} {vs:List Value} {ds:List (DataW H)} {ps:List MemPlace},(∀t∈ts,P.readableRec t=true/\t<P.types.size)->DataW.TrodAll enc P W 0 (λ_=>true) true ts vs ds ps->(∀x∈ps,x.block<W.heap.size)->
   DataW.TrodAll enc P W' 0 (λb=>decide (b<W.heap.size)) true ts vs ds ps
 | [],[],[],_,_,h,_=>h
 | [],[],_::_,_,_,h,_=>h.elim
 | [],_::_,_,_,_,h,_=>h.elim
 | _::_,[],_,_,_,h,_=>h.elim
 | _::_,_::_,[],_,_,h,_=>h.elim
 | t::ts,v::vs,d::ds,ps,hr,h,hlt=>by
  obtain⟨p,q,h1,h2,rfl⟩:=h
  exact⟨p,q,Below.trod hl (hr t (List.mem_cons_self ..)).1 (hr t (List.mem_cons_self ..)).2 h1 hb (λx hx=>hlt x (List.mem_append_left _ hx)),
   kX hl hb (λu hu=>hr u (List.mem_cons_of_mem _ hu)) h2 (λx hx=>hlt x (List.mem_append_right _ hx)),rfl⟩

theorem sf{H:Type}{enc:TypeId×Value->H}{P:Program}{fn:Func}{s:ChangeSpec}{W W':World}{args:Array Value}{ds gs:List (DataW H)}{before:List MemPlace}{tb:TypeId}
  (hl:laidOutB P=true) (hvars:s.vars=[]) (hpar: ∀t∈fn.params.toList,P.readableRec t=true/\t<P.types.size) (hrt:fn.resultTypes= #[tb]) (hbool:P.underlying tb=some .bool)
  (hspec:s.fn H ds={results:=[.lit (.bool true)],args:=ds})
  (hW:DataW.Whole enc P fn.params.toList s.vars false W args.toList ds gs before) (hb:Below W.heap.size W W'):
  s.post enc P fn false true false false W args (.bool true) W':=by
 have hW':=hW
 have hlt:=hW.lt
 obtain⟨p,q,hA,hV,rfl,_,_⟩:=hW
 have hgs:gs=[]/\q=[]:=by
  rw[hvars]at hV
  cases gs with
  | nil=>exact⟨rfl,hV⟩
  | cons g gs=>exact hV.elim
 obtain⟨rfl,rfl⟩:=hgs
 refine⟨ds,[],p++[],[],p,[],hW',?_,?_,?_,hb.frame _,by simp⟩
 ·rw[List.append_nil,hspec,hrt]
  exact trodAll_cons_mk (shut_bool hbool _) trodAll_mk0
 ·rw[List.append_nil,hspec]
  exact kX hl hb hpar hA (λx hx=>hlt x (List.mem_append_left _ hx))
 ·rw[List.append_nil,hspec,hvars]
  rfl

set_option maxRecDepth 100000 in
theorem qu{os:Os}(started:os.Started){H:Type}{enc:TypeId×Value->H}{f:FuncId}{fn:Func}{s:ChangeSpec}{tb:TypeId}
  (noInit:Tryz.checked.prog.inits.idxOf? f=none) (hfn:Tryz.prog.funcs[f]?=some fn)
  (witness: ∃(w:World) (tape:Tape) (i:Input),w.os=os/\(w.forCall tape i).Shaped Tryz.checked.prog/\i.vars=[]/\Input.okWide Tryz.checked.prog (w.forCall tape i) .any w.heap.size f i/\
   s.pre6 enc Tryz.checked.prog fn [] false (w.forCall tape i).memory i.args/\Assume.holds {} Tryz.checked.prog (lone (Frame.enter Tryz.checked.prog f i.args .normal) [] (w.forCall tape i)))
  (hvars:s.vars=[]) (hpar:(fn.params.toList.all λt=>Tryz.prog.readableRec t && decide (t<Tryz.prog.types.size))=true) (hrt:fn.resultTypes= #[tb]) (hbool:Tryz.prog.underlying tb=some .bool)
  (hspec: ∀ds:List (DataW H),ds.length=fn.params.size->s.fn H ds={results:=[.lit (.bool true)],args:=ds})
  (walk: ∀(W:World) (base:Nat) (args:Array Value) (ds:List (DataW H)) (p:List MemPlace),
   (∀(j:Nat) t v,fn.params[j]?=some t->args[j]?=some v->Value.okWide Tryz.prog W .any base t v)->
   DataW.TrodAll enc Tryz.prog W 0 (λ_=>true) true fn.params.toList args.toList ds p->
   (DataW.weightsEach Tryz.prog fn.params.toList ds).all (· <=reachBytes)=true->
   HC Tryz.prog f args W.heap (λv H'=>v=.bool true/\Ext W.heap H')):
  ReturnsInHanded {} Tryz.checked os f .any (s.pre6 enc Tryz.prog fn [] false) (s.post enc Tryz.prog fn false true false false):=by
 refine returnsInHanded_of_change_sized (C:=Tryz.checked) sL started noInit hfn witness ?_
 intro W base args ds gs before hval hW _ hsz _
 have hW':=hW
 obtain⟨p,q,hA,hV,rfl,_,_⟩:=hW
 have hgs:gs=[]:=by
  rw[hvars]at hV
  cases gs with
  | nil=>rfl
  | cons g gs=>exact hV.elim
 subst hgs
 have hlen:ds.length=fn.params.size:=by
  have: ∀(ts:List TypeId) (vs:List Value) (ds:List (DataW H)) (ps:List MemPlace),DataW.TrodAll enc Tryz.prog W 0 (λ_=>true) true ts vs ds ps->ds.length=ts.length:=by
   intro ts
   induction ts with
   | nil=>intro vs ds ps h;cases vs<;>cases ds<;>first | rfl | exact h.elim
   | cons t ts ih=>intro vs ds ps h;cases vs<;>cases ds<;>first | exact h.elim | (obtain⟨p,q,_,h2,_⟩:=h;simp[ih _ _ _ h2])
  simpa using this _ _ _ _ hA
 have hsz':(DataW.weightsEach Tryz.prog fn.params.toList ds).all (· <=reachBytes)=true:=by
  have e:s.plain.varTypes Tryz.prog=[]:=by unfold ChangeSpec.plain DataSpec.varTypes;simp[hvars]
  rw[List.append_nil]at hsz
  have:=hsz
  rw[show fn.params.toList++s.plain.varTypes Tryz.checked.prog=fn.params.toList by rw[show s.plain.varTypes Tryz.checked.prog=[]from e,List.append_nil]]at this
  exact this
 refine(walk W base args ds p hval hA hsz' W rfl).mono λe W' ⟨v,he,hs,hv,hx⟩=>?_
 subst hv
 refine⟨_,he,sf laidOut hvars (λt ht=>?_) hrt hbool (hspec ds hlen) hW' ⟨hs.os,hs.tape,hs.output,hx.size,hx.old⟩⟩
 have:=List.all_eq_true.1 hpar t ht
 rw[Bool.and_eq_true]at this
 exact⟨this.1,of_decide_eq_true this.2⟩

theorem wf_i64{n:Int}(h:(Lit.int .i64 n).wf=true): -9223372036854775808<=n/\n<=9223372036854775807:=by
 simp only[Lit.wf,Bool.and_eq_true,decide_eq_true_eq]at h
 exact h
theorem wf_u64{n:Int}(h:(Lit.int .u64 n).wf=true):aM n:=by
 simp only[Lit.wf,Bool.and_eq_true,decide_eq_true_eq]at h
 have h2:n<=18446744073709551615:=h.2
 have h1:(0:Int)<=n:=h.1
 exact⟨h1,by omega⟩
open Go.ChangeShapes Go.WideShapes

inductive Shape where
 | int (k:IntKind)
 | bool
 | str
 | slice (sz:Nat) (e:Shape)
 | pair (n:Nat) (a b:Shape)
 | unit
def Rd(B:Nat)(H:zW):Shape->List Value->Prop
 | .int k,cs=> ∃n,cs=[.int k n]/\(Lit.int k n).wf=true
 | .bool,cs=> ∃b,cs=[.bool b]
 | .str,cs=> ∃s:ByteArray,cs=[.string s]/\s.size<=B
 | .slice sz e,cs=> ∃p n c,cs=[.slice p n c]/\n<=c/\n<=B/\(p=none->n=0)/\ ∀a,p=some a-> ∀i,i<n-> ∃vs,vs.length=sz/\aG H (a.add (i*sz)) 0 vs/\Rd B H e vs
 | .pair n a b,cs=>Rd B H a (cs.take n)/\Rd B H b (cs.drop n)
 | .unit,cs=>cs=[]

def j9{Hd:Type}(B:Nat)(d:DataW Hd):Prop:=B=maxLen\/Rows.uptoBulk d<=B
theorem nV{Hd:Type}{d:DataW Hd}{l:List (DataW Hd)}(h:d∈l):Rows.uptoBulk d<=Rows.uptoBulkAll l:=by
 induction l with
 | nil=>cases h
 | cons x r ih=>
  simp only[Rows.uptoBulkAll]
  cases List.mem_cons.1 h with
  | inl e=>subst e;omega
  | inr e=>have:=ih e;omega
theorem si{Hd:Type}(d:DataW Hd):1<=Rows.uptoBulk d:=by
 cases d with
 | lit l=>cases l<;>simp[Rows.uptoBulk]
 | nil=>simp[Rows.uptoBulk]
 | ptr d=>simp[Rows.uptoBulk]
 | slice elems spare=>simp[Rows.uptoBulk]
 | agg parts=>simp[Rows.uptoBulk]
 | iface t d=>simp[Rows.uptoBulk]
 | map entries=>simp[Rows.uptoBulk]
 | held h=>simp[Rows.uptoBulk]
theorem sj{Hd:Type}(l:List (DataW Hd)):l.length<=Rows.uptoBulkAll l:=by
 induction l with
 | nil=>simp[Rows.uptoBulkAll]
 | cons x r ih=>have:=si x;simp only[Rows.uptoBulkAll,List.length_cons];omega
theorem j9.elem{Hd:Type}{B:Nat}{es sp:List (DataW Hd)}(h:j9 B (.slice es sp)){d:DataW Hd}(hd:d∈es):j9 B d:=by
 rcases h with h | h
 ·exact .inl h
 ·have:=nV hd;simp only[Rows.uptoBulk]at h;exact .inr (by omega)
theorem j9.part{Hd:Type}{B:Nat}{es:List (DataW Hd)}(h:j9 B (.agg es)){d:DataW Hd}(hd:d∈es):j9 B d:=by
 rcases h with h | h
 ·exact .inl h
 ·have:=nV hd;simp only[Rows.uptoBulk]at h;exact .inr (by omega)

section
variable {Hd:Type} {enc:TypeId×Value->Hd} {P:Program} {w:World} {base:Nat} {spare:Nat->Bool} {held:Bool} {B:Nat}
theorem tn{t:TypeId}{k:IntKind}(ht:P.underlying t=some (.int k)){fuel:Nat}{cs:List Value}{x:DataW Hd×List MemPlace}(h:DataW.trod enc P w base spare held fuel t cs=some x)(_:j9 B x.1):Rd B w.heap (.int k) cs:=by
 obtain⟨n,h1,_,h3⟩:=DataW.trod_int ht h
 exact⟨n,h1,h3⟩
theorem sM{t:TypeId}(ht:P.underlying t=some .bool){fuel:Nat}{cs:List Value}{x:DataW Hd×List MemPlace}(h:DataW.trod enc P w base spare held fuel t cs=some x)(_:j9 B x.1):Rd B w.heap .bool cs:=by
 cases fuel with
 | zero=>simp[DataW.trod]at h
 | succ n=>
  unfold DataW.trod at h
  rw[ht]at h
  split at h<;>simp_all
  exact⟨_,rfl⟩
theorem tp{t:TypeId}(ht:P.underlying t=some .string){fuel:Nat}{cs:List Value}{x:DataW Hd×List MemPlace}(h:DataW.trod enc P w base spare held fuel t cs=some x)(hB:j9 B x.1):Rd B w.heap .str cs:=by
 cases fuel with
 | zero=>simp[DataW.trod]at h
 | succ n=>
  unfold DataW.trod at h
  rw[ht]at h
  split at h<;>simp_all
  rename_i s
  obtain⟨h1,rfl⟩:=h
  refine⟨_,rfl,?_⟩
  rcases hB with h | h
  ·rw[h];exact h1
  ·simp only[Rows.uptoBulk]at h
   have e:s.data.toList.length=s.size:=by rw[Array.length_toList];rfl
   omega
theorem ns{a:Addr}{n:Nat}{cs:List Value}(h:w.cells? base a n=some cs):cs.length=n/\aG w.heap a 0 cs:=by
 obtain⟨_,h2,h3⟩:=World.cells?_some h
 refine⟨h2,iO λj v hv=>?_⟩
 have hj:j<cs.length:=by
  rcases Nat.lt_or_ge j cs.length with h | h
  ·exact h
  ·simp[List.getElem?_eq_none h]at hv
 rw[Nat.zero_add,<-mE,h3 j (by omega),hv]
theorem lS{t:TypeId}{fs:Array Field}(ht:P.underlying t=some (.struct fs)){fuel:Nat}{cs:List Value}{x:DataW Hd×List MemPlace}(h:DataW.trod enc P w base spare held fuel t cs=some x)(hB:j9 B x.1):
  cs.length=P.cellsOf t/\ ∀(i:Nat) (f:Field),fs[i]?=some f-> ∃(n:Nat) (y:DataW Hd×List MemPlace),DataW.trod enc P w base spare held n f.type ((cs.drop f.offset).take (P.cellsOf f.type))=some y/\j9 B y.1:=by
 obtain⟨xs,n,_,hx,h1,h2,h3⟩:=DataW.trod_struct ht h
 rw[hx]at hB
 refine⟨h1,λi f hf=>?_⟩
 have hi:i<xs.length:=by
  rw[h2]
  rcases Nat.lt_or_ge i fs.size with h | h
  ·exact h
  ·simp[Array.getElem?_eq_none h]at hf
 exact⟨n,xs[i],by rw[h3 i f hf];simp[hi],hB.part (List.mem_map.2 ⟨_,List.getElem_mem _,rfl⟩)⟩
end

theorem pC{α:Type}{n:Nat}{Q:Nat->α->Prop}(h: ∀i,i<n-> ∃y,Q i y): ∃L:List α,L.length=n/\ ∀i (hi:i<L.length),Q i L[i]:=by
 induction n with
 | zero=>exact⟨[],rfl,λi hi=>by simp at hi⟩
 | succ n ih=>
  obtain⟨L,h1,h2⟩:=ih (λi hi=>h i (by omega))
  obtain⟨y,hy⟩:=h n (by omega)
  refine⟨L++[y],by simp[h1],λi hi=>?_⟩
  by_cases hl:i<L.length
  ·rw[List.getElem_append_left hl];exact h2 i hl
  ·have:i=L.length:=by simp at hi;omega
   subst this
   rw[List.getElem_append_right (Nat.le_refl _)]
   simpa[h1]using hy
theorem rk(a:Addr):a.add 0=a:=by unfold Addr.add;cases a;split<;>simp_all

structure Nums (H:zW) (k:IntKind) (p:zY) (n:Nat) (xs:List Int):Prop where
 len:xs.length=n
 src:cY H p (xs.map (Value.int k))
 wf: ∀x∈xs,(Lit.int k x).wf=true
theorem Nums.ext{H H':zW}{k:IntKind}{p:zY}{n:Nat}{xs:List Int}(h:Nums H k p n xs)(e:Ext H H'):Nums H' k p n xs:=by
 refine⟨h.len,?_,h.wf⟩
 cases p with
 | none=>exact h.src
 | some a=>exact e.rowAt h.src
theorem Nums.at{H:zW}{k:IntKind}{p:zY}{n:Nat}{xs:List Int}(h:Nums H k p n xs){i:Nat}(hi:i<xs.length): ∃a,p=some a/\hat H (a.add (i*1))=some (.int k xs[i]):=by
 cases p with
 | none=>have:xs.map (Value.int k)=[]:=h.src;simp at this;subst this;simp at hi
 | some a=>
  refine⟨a,rfl,?_⟩
  have:=gZ (show aG H a 0 _ from h.src) i (.int k xs[i]) (by simp[hi])
  rw[Nat.zero_add]at this;rw[Nat.mul_one];exact this
structure qv where
 p:zY
 n:Nat
 c:Nat
 xs:List Int
structure pD (B:Nat) (H:zW) (k:IntKind) (p:zY) (n:Nat) (L:List qv):Prop where
 len:L.length=n
 src:cY H p (L.map λy=>Value.slice y.p y.n y.c)
 each: ∀y∈L,Nums H k y.p y.n y.xs/\y.n<=B
theorem pD.ext{B:Nat}{H H':zW}{k:IntKind}{p:zY}{n:Nat}{L:List qv}(h:pD B H k p n L)(e:Ext H H'):pD B H' k p n L:=by
 refine⟨h.len,?_,λy hy=>⟨(h.each y hy).1.ext e,(h.each y hy).2⟩⟩
 cases p with
 | none=>exact h.src
 | some a=>exact e.rowAt h.src
theorem pD.at{B:Nat}{H:zW}{k:IntKind}{p:zY}{n:Nat}{L:List qv}(h:pD B H k p n L){i:Nat}(hi:i<L.length): ∃a,p=some a/\hat H (a.add (i*1))=some (.slice L[i].p L[i].n L[i].c)/\Nums H k L[i].p L[i].n L[i].xs/\L[i].n<=B:=by
 cases p with
 | none=>have:L.map (λy=>Value.slice y.p y.n y.c)=[]:=h.src;simp at this;subst this;simp at hi
 | some a=>
  refine⟨a,rfl,?_,h.each _ (List.getElem_mem _)⟩
  have:=gZ (show aG H a 0 _ from h.src) i (.slice L[i].p L[i].n L[i].c) (by simp[hi])
  rw[Nat.zero_add]at this;rw[Nat.mul_one];exact this
section
variable {Hd:Type} {enc:TypeId×Value->Hd} {P:Program} {w:World} {base:Nat} {spare:Nat->Bool} {held:Bool} {B:Nat}
end
theorem wf_u32{n:Int}(h:(Lit.int .u32 n).wf=true):0<=n/\n<=4294967295:=by
 simp only[Lit.wf,Bool.and_eq_true,decide_eq_true_eq]at h
 exact h
open Go.ChangeShapes Go.WideShapes

structure Rdr (α:Type)where
 cells:α->List Value
 ok:Nat->zW->α->Prop
 mono: ∀{B:Nat} {H H':zW} {y:α},Ext H H'->ok B H y->ok B H' y
structure Sl (α:Type)where
 p:zY
 n:Nat
 c:Nat
 xs:List α
structure SlOK {α:Type} (sz:Nat) (r:Rdr α) (B:Nat) (H:zW) (s:Sl α):Prop where
 len:s.xs.length=s.n
 le:s.n<=B
 cap:s.n<=s.c
 row: ∀(i:Nat) (h:i<s.xs.length),∃a,s.p=some a/\aG H (a.add (i*sz)) 0 (r.cells s.xs[i])
 each: ∀y∈s.xs,r.ok B H y
theorem SlOK.ext{α:Type}{sz:Nat}{r:Rdr α}{B:Nat}{H H':zW}{s:Sl α}(h:SlOK sz r B H s)(e:Ext H H'):SlOK sz r B H' s:=
 ⟨h.len,h.le,h.cap,λi hi=>by obtain⟨a,h1,h2⟩:=h.row i hi;exact⟨a,h1,e.rowAt h2⟩,λy hy=>r.mono e (h.each y hy)⟩
def slR{α:Type}(sz:Nat)(r:Rdr α):Rdr (Sl α):=⟨λs=> [.slice s.p s.n s.c],SlOK sz r,λe h=>SlOK.ext h e⟩
def intR(k:IntKind):Rdr Int:=⟨λn=> [.int k n],λ_ _ n=>(Lit.int k n).wf=true,λ_ h=>h⟩
def qK:Rdr Bool:=⟨λb=> [.bool b],λ_ _ _=>True,λ_ h=>h⟩
def qL:Rdr ByteArray:=⟨λs=> [.string s],λB _ s=>s.size<=B,λ_ h=>h⟩
theorem SlOK.nums{k:IntKind}{B:Nat}{H:zW}{s:Sl Int}(h:SlOK 1 (intR k) B H s):Nums H k s.p s.n s.xs:=by
 refine⟨h.len,?_,λx hx=>h.each x hx⟩
 cases hp:s.p with
 | none=>
  have:s.xs=[]:=by
   cases hx:s.xs with
   | nil=>rfl
   | cons a l=>obtain⟨a,ha,_⟩:=h.row 0 (by rw[hx];simp);rw[hp]at ha;cases ha
  rw[this];rfl
 | some a=>
  refine iO λj v hv=>?_
  have hj:j<s.xs.length:=by
   rcases Nat.lt_or_ge j s.xs.length with h | h
   ·exact h
   ·simp[List.getElem?_eq_none h]at hv
  obtain⟨a',ha,hr⟩:=h.row j hj
  rw[hp]at ha;cases ha
  have:=hr.1
  rw[rk,Nat.mul_one]at this
  have e:v=.int k s.xs[j]:=by simpa[hj]using hv.symm
  rw[Nat.zero_add,e];exact this

section
variable {Hd:Type} {enc:TypeId×Value->Hd} {P:Program} {w:World} {base:Nat} {spare:Nat->Bool} {held:Bool} {B:Nat}
def Reads{α:Type}(enc:TypeId×Value->Hd)(P:Program)(w:World)(base:Nat)(spare:Nat->Bool)(held:Bool)(B:Nat)(t:TypeId)(r:Rdr α):Prop:=
 ∀{fuel:Nat} {cs:List Value} {x:DataW Hd×List MemPlace},DataW.trod enc P w base spare held fuel t cs=some x->j9 B x.1-> ∃y,cs=r.cells y/\r.ok B w.heap y
theorem jk{t:TypeId}{k:IntKind}(ht:P.underlying t=some (.int k)):Reads enc P w base spare held B t (intR k):=λh hs=>by
 obtain⟨n,h1,h2⟩:=tn ht h hs
 exact⟨n,h1,h2⟩
theorem qw{t:TypeId}(ht:P.underlying t=some .bool):Reads enc P w base spare held B t qK:=λh hs=>by
 obtain⟨n,h1⟩:=sM ht h hs
 exact⟨n,h1,trivial⟩
theorem rl{t:TypeId}(ht:P.underlying t=some .string):Reads enc P w base spare held B t qL:=λh hs=>by
 obtain⟨n,h1,h2⟩:=tp ht h hs
 exact⟨n,h1,h2⟩
theorem kE{α:Type}{t e:TypeId}{sz:Nat}{r:Rdr α}(ht:P.underlying t=some (.slice e))(hc:P.cellsOf e=sz)(hE:Reads enc P w base spare held B e r):Reads enc P w base spare held B t (slR sz r):=λ{fuel cs x} h hB=>by
 rcases DataW.trod_slice ht h with⟨h0,_⟩ | ⟨a,len,cap,elems,rest,n,_,h1,hx,_,hl,hm,hlen,hel,_⟩
 ·exact⟨⟨none,0,0,[]⟩,h0,rfl,Nat.zero_le _,Nat.le_refl _,λi hi=>by simp at hi,by simp⟩
 ·rw[hx]at hB
  obtain⟨L,hL1,hL2⟩:=pC (n:=len) (Q:=λi (y:α)=>aG w.heap (a.add (i*sz)) 0 (r.cells y)/\r.ok B w.heap y) (λi hi=>by
   have:=hel i hi
   rw[hc]at this
   have he:elems[i]?=some elems[i]:=by simp[hlen,hi]
   rw[he]at this
   obtain⟨vs,hv1,hv2⟩:=Option.bind_eq_some_iff.1 this
   obtain⟨hv3,hv4⟩:=ns hv1
   obtain⟨y,rfl,hy⟩:=hE hv2 (hB.elem (List.mem_map.2 ⟨_,List.getElem_mem _,rfl⟩))
   exact⟨y,hv4,hy⟩)
  refine⟨⟨some a,len,cap,L⟩,h1,hL1,?_,hl,λi hi=>⟨a,rfl,(hL2 i hi).1⟩,λy hy=>by obtain⟨i,hi,rfl⟩:=List.getElem_of_mem hy;exact(hL2 i hi).2⟩
  rcases hB with h | h
  ·rw[h];exact Nat.le_trans hl hm
  ·simp only[Rows.uptoBulk]at h
   have:=sj (elems.map (·.1))
   rw[List.length_map,hlen]at this
   show len<=B
   omega
theorem rm{α:Type}{r:Reach}{b0:Nat}{t e:TypeId}{sz:Nat}{v:Value}{d:DataW Hd}{ps:List MemPlace}{rd:Rdr α}(ht:P.underlying t=some (.slice e))(hc:P.cellsOf e=sz)(hE:Reads enc P w base spare held B e rd)
  (hB:j9 B d) (hval:Value.okWide P w r b0 t v) (hd:DataW.Trod enc P w base spare held t v d ps): ∃s:Sl α,v=.slice s.p s.n s.c/\SlOK sz rd B w.heap s:=by
 obtain⟨a,len,cap,rfl⟩:=okWide_slice ht hval
 obtain⟨fuel,hf⟩:=hd
 obtain⟨s,h1,h2⟩:=kE ht hc hE hf hB
 simp[Value.cells,slR]at h1
 obtain⟨rfl,rfl,rfl⟩:=h1
 exact⟨s,rfl,h2⟩
end
