/-
 From a walk over heaps to the row of a law: it answers true, and whatever lay there lies as it lay. Proves nothing of any one statement.
-/
import Derived.Test.YtojbbgcjiaphjaaGreatRows
import Derived.WalkKit
import Derived.ProofKit
import Derived.SizedLaws
import Derived.OpenShut
import Derived.ShutString
import Derived.JoinedCond
import Derived.Test.YtojbbgcjiaphjaaGreatOwn
import Derived.Test.YtojbbgcjiaphjaaGreatFword
set_option linter.unusedVariables false
set_option linter.unusedSimpArgs false
namespace Go.Proofs.YtojbbgcjiaphjaaGreat
open Go Go.Proofs.Tryz
open Go.ChangeShapes Go.WideShapes Go.ChangeAt Go.RowKit
variable{H b:zV}{a:IntKind}
theorem wa:ownKnob prog.godebug=none:=by kernel_rfl
theorem laidOut:laidOutB prog=true:=by kernel_rfl
theorem nd{H:Type}{enc:TypeId×Value->H}{P:Program}(i:laidOutB P=true){W f:World}(g:Below W.heap.size W f):
  ∀{a:List TypeId} {vs:List Value} {c:List (DataW H)} {ps:List MemPlace},(∀t∈a,P.readableRec t=true/\t<P.types.size)->DataW.TrodAll enc P W 0 (λ_=>true) true a vs c ps->(∀x∈ps,x.block<W.heap.size)->
   DataW.TrodAll enc P f 0 (λb=>decide (b<W.heap.size)) true a vs c ps
 | [],[],[],_,_,h,_=>h
 | [],[],_::_,_,_,h,_=>h.elim
 | [],_::_,_,_,_,h,_=>h.elim
 | _::_,[],_,_,_,h,_=>h.elim
 | _::_,_::_,[],_,_,h,_=>h.elim
 | t::a,v::vs,d::c,ps,hr,h,hlt=>by
  obtain⟨p,q,j,k,rfl⟩:=h
  exact⟨p,q,Below.trod i (hr t (List.mem_cons_self ..)).1 (hr t (List.mem_cons_self ..)).2 j g (λx e=>hlt x (List.mem_append_left _ e)),
   nd i g (λu l=>hr u (List.mem_cons_of_mem _ l)) k (λx e=>hlt x (List.mem_append_right _ e)),rfl⟩
theorem uT{H:Type}{enc:TypeId×Value->H}{P:Program}{fn:Func}{s:ChangeSpec}{W o:World}{args:Array Value}{f h:List (DataW H)}{c:List MemPlace}{u:TypeId}
  (y:laidOutB P=true) (b:s.vars=[]) (e: ∀t∈fn.params.toList,P.readableRec t=true/\t<P.types.size) (n:fn.resultTypes= #[u]) (d:P.underlying u=some .bool)
  (a:s.fn H f={results:=[.lit (.bool true)],args:=f})
  (j:DataW.Whole enc P fn.params.toList s.vars false W args.toList f h c) (r:Below W.heap.size W o):
  s.post enc P fn false true false false W args VT o:=by
 have k:=j
 have m:=j.lt
 obtain⟨p,q,v,i,rfl,_,_⟩:=j
 have l:h=[]/\q=[]:=by
  rw[b]at i
  cases h with
  | nil=>exact⟨rfl,i⟩
  | cons g h=>exact i.elim
 obtain⟨rfl,rfl⟩:=l
 refine⟨f,[],p++[],[],p,[],k,?_,?_,?_,r.frame _,by simp⟩
 ·rw[List.append_nil,a,n]
  exact trodAll_cons_mk (shut_bool d _) trodAll_mk0
 ·rw[List.append_nil,a]
  exact nd y r e v (λx z=>m x (List.mem_append_left _ z))
 ·rw[List.append_nil,a,b]
  rfl
set_option maxRecDepth 100000 in
theorem oZ{M:Os}(d:M.Started){H:Type}{enc:TypeId×Value->H}{F:Stop.Interp}{f:FuncId}{fn:Func}{s:ChangeSpec}{tb:TypeId}
  (n:Tryz.checked.prog.inits.idxOf? f=none) (I:prog.funcs[f]?=some fn)
  (l: ∃(w:World) (b:Tape) (i:Input),w.os=M/\(w.forCall b i).Shaped Tryz.checked.prog/\i.vars=[]/\Input.okWide Tryz.checked.prog (w.forCall b i) .any w.heap.size f i/\
   (Rows.OpenSpec.upto s).pre6 enc Tryz.checked.prog fn [] false (w.forCall b i).memory i.args/\Assume.holds {} Tryz.checked.prog (lone (Frame.enter Tryz.checked.prog f i.args .normal) [] (w.forCall b i)))
  (c:s.vars=[]) (x:(fn.params.toList.all λt=>prog.readableRec t && decide (t<prog.types.size))=true) (K:fn.resultTypes= #[tb]) (o:prog.underlying tb=some .bool)
  (r: ∀a:List (DataW H),a.length=fn.params.size->s.fn H a={results:=[.lit (.bool true)],args:=a})
  (A: ∀(W:World) (base:Nat) (args:Array Value) (a:List (DataW H)) (p:List MemPlace),
   (∀(j:Nat) t v,fn.params[j]?=some t->args[j]?=some v->Value.okWide prog W .any base t v)->
   DataW.TrodAll enc prog W 0 (λ_=>true) true fn.params.toList args.toList a p->
   Rows.uptoBulkAll a<=1048576->
   HC prog f args W.heap (λv S=>v=VT/\Ext W.heap S)):
  ReturnsInHanded {} Tryz.checked M f .any ((Rows.OpenSpec.upto s).pre6 enc prog fn [] false) (((Rows.OpenSpec.upto s).at F).post enc prog fn false true false false):=by
 refine returnsInHanded_of_cond (C:=Tryz.checked) (s:=Rows.OpenSpec.upto s) (k:=Rows.uptoSmall) rfl wa d n I l ?_
 intro W base args a D m y G _ hk _
 have Q:DataW.Whole enc prog fn.params.toList s.vars false W args.toList a D m:=G
 have E:=Q
 obtain⟨p,q,N,O,rfl,_,_⟩:=Q
 have J:D=[]:=by
  rw[c]at O
  cases D with
  | nil=>rfl
  | cons g D=>exact O.elim
 subst J
 have u:a.length=fn.params.size:=by
  have: ∀(z:List TypeId) (vs:List Value) (a:List (DataW H)) (ps:List MemPlace),DataW.TrodAll enc prog W 0 (λ_=>true) true z vs a ps->a.length=z.length:=by
   intro z
   induction z with
   | nil=>intro vs a ps h;cases vs<;>cases a<;>first | rfl | exact h.elim
   | cons t z Z=>intro vs a ps h;cases vs<;>cases a<;>first | exact h.elim | (obtain⟨p,q,_,T,_⟩:=h;simp[Z _ _ _ T])
  simpa using this _ _ _ _ N
 have U:Rows.uptoBulkAll a<=1048576:=by
  rw[List.append_nil]at hk
  exact of_decide_eq_true hk
 refine(A W base args a p y N U W rfl).mono λe W' ⟨v,V,L,Y,R⟩=>?_
 subst Y
 refine⟨_,V,uT laidOut c (λt X=>?_) K o (r a u) E ⟨L.os,L.tape,L.output,R.size,R.old⟩⟩
 have:=List.all_eq_true.1 x t X
 rw[Bool.and_eq_true]at this
 exact⟨this.1,of_decide_eq_true this.2⟩
theorem wf_i64{n:Int}(h:(Lit.int .i64 n).wf=true): -9223372036854775808<=n/\n<=9223372036854775807:=by
 simp only[Lit.wf,Bool.and_eq_true,decide_eq_true_eq]at h
 exact h
theorem wf_u64{n:Int}(h:(Lit.int .u64 n).wf=true):aG n:=by
 simp only[Lit.wf,Bool.and_eq_true,decide_eq_true_eq]at h
 have b:n<=18446744073709551615:=h.2
 have a:(0:Int)<=n:=h.1
 exact⟨a,by omega⟩
open Go.ChangeShapes Go.WideShapes
inductive Shape where
 | int (k:IntKind)
 | bool
 | str
 | slice (sz:Nat) (e:Shape)
 | pair (n:Nat) (a b:Shape)
 | unit
def Rd(B:Nat)(H:zV):Shape->List Value->Prop
 | .int k,cs=> ∃n,cs=[.int k n]/\(Lit.int k n).wf=true
 | .bool,cs=> ∃b,cs=[.bool b]
 | .str,cs=> ∃s:ByteArray,cs=[.string s]/\s.size<=B
 | .slice sz e,cs=> ∃p n c,cs=[vs p n c]/\n<=c/\n<=B/\(p=none->n=0)/\ ∀a,p=some a-> ∀i,i<n-> ∃vs,vs.length=sz/\aQ H (a.add (i*sz)) 0 vs/\Rd B H e vs
 | .pair n a b,cs=>Rd B H a (cs.take n)/\Rd B H b (cs.drop n)
 | .unit,cs=>cs=[]
def mI{Hd:Type}(B:Nat)(d:DataW Hd):Prop:=B=maxLen\/Rows.uptoBulk d<=B
theorem og{Hd:Type}{d:DataW Hd}{l:List (DataW Hd)}(h:d∈l):Rows.uptoBulk d<=Rows.uptoBulkAll l:=by
 induction l with
 | nil=>cases h
 | cons x r a=>
  simp only[Rows.uptoBulkAll]
  cases List.mem_cons.1 h with
  | inl e=>subst e;omega
  | inr e=>have:=a e;omega
theorem uU{Hd:Type}(d:DataW Hd):1<=Rows.uptoBulk d:=by
 cases d with
 | lit l=>cases l<;>simp[Rows.uptoBulk]
 | nil=>simp[Rows.uptoBulk]
 | ptr d=>simp[Rows.uptoBulk]
 | slice b spare=>simp[Rows.uptoBulk]
 | agg c=>simp[Rows.uptoBulk]
 | iface t d=>simp[Rows.uptoBulk]
 | map a=>simp[Rows.uptoBulk]
 | held h=>simp[Rows.uptoBulk]
theorem uV{Hd:Type}(l:List (DataW Hd)):l.length<=Rows.uptoBulkAll l:=by
 induction l with
 | nil=>simp[Rows.uptoBulkAll]
 | cons x r a=>have:=uU x;simp only[Rows.uptoBulkAll,List.length_cons];omega
theorem mI.elem{Hd:Type}{B:Nat}{a sp:List (DataW Hd)}(h:mI B (.slice a sp)){d:DataW Hd}(b:d∈a):mI B d:=by
 rcases h with h | h
 ·exact .inl h
 ·have:=og b;simp only[Rows.uptoBulk]at h;exact .inr (by omega)
theorem mI.part{Hd:Type}{B:Nat}{a:List (DataW Hd)}(h:mI B (.agg a)){d:DataW Hd}(b:d∈a):mI B d:=by
 rcases h with h | h
 ·exact .inl h
 ·have:=og b;simp only[Rows.uptoBulk]at h;exact .inr (by omega)
section
variable {Hd:Type} {enc:TypeId×Value->Hd} {P:Program} {w:World} {base:Nat} {spare:Nat->Bool} {held:Bool} {B:Nat}
theorem xa{t:TypeId}(f:P.underlying t=some (.int a)){b:Nat}{c:List Value}{x:DataW Hd×List MemPlace}(h:DataW.trod enc P w base spare held b t c=some x)(_:mI B x.1):Rd B w.heap (.int a) c:=by
 obtain⟨n,d,_,e⟩:=DataW.trod_int f h
 exact⟨n,d,e⟩
theorem px{a:Addr}{n:Nat}{b:List Value}(h:w.cells? base a n=some b):b.length=n/\aQ w.heap a 0 b:=by
 obtain⟨_,d,e⟩:=World.cells?_some h
 refine⟨d,kE λj v c=>?_⟩
 have f:j<b.length:=by
  rcases Nat.lt_or_ge j b.length with h | h
  ·exact h
  ·simp[List.getElem?_eq_none h]at c
 rw[Nat.zero_add,<-pq,e j (by omega),c]
theorem oh{t:TypeId}{c:Array Field}(o:P.underlying t=some (.struct c)){a:Nat}{b:List Value}{x:DataW Hd×List MemPlace}(h:DataW.trod enc P w base spare held a t b=some x)(d:mI B x.1):
  b.length=P.cellsOf t/\ ∀(i:Nat) (f:Field),c[i]?=some f-> ∃(n:Nat) (y:DataW Hd×List MemPlace),DataW.trod enc P w base spare held n f.type ((b.drop f.offset).take (P.cellsOf f.type))=some y/\mI B y.1:=by
 obtain⟨g,n,_,p,j,k,l⟩:=DataW.trod_struct o h
 rw[p]at d
 refine⟨j,λi f e=>?_⟩
 have m:i<g.length:=by
  rw[k]
  rcases Nat.lt_or_ge i c.size with h | h
  ·exact h
  ·simp[Array.getElem?_eq_none h]at e
 exact⟨n,g[i],by rw[l i f e];simp[m],d.part (List.mem_map.2 ⟨_,List.getElem_mem _,rfl⟩)⟩
end
theorem rT{α:Type}{n:Nat}{Q:Nat->α->Prop}(h: ∀i,i<n-> ∃y,Q i y): ∃L:List α,L.length=n/\ ∀i (a:i<L.length),Q i L[i]:=by
 induction n with
 | zero=>exact⟨[],rfl,λi a=>by simp at a⟩
 | succ n f=>
  obtain⟨L,b,d⟩:=f (λi a=>h i (by omega))
  obtain⟨y,e⟩:=h n (by omega)
  refine⟨L++[y],by simp[b],λi a=>?_⟩
  by_cases c:i<L.length
  ·rw[List.getElem_append_left c];exact d i c
  ·have:i=L.length:=by simp at a;omega
   subst this
   rw[List.getElem_append_right (Nat.le_refl _)]
   simpa[b]using e
theorem lS(a:Addr):a.add 0=a:=by unfold Addr.add;cases a;split<;>simp_all
structure Nums (H:zV) (k:IntKind) (p:zW) (n:Nat) (xs:List Int):Prop where
 len:xs.length=n
 src:fB H p (xs.map (Value.int k))
 wf: ∀x∈xs,(Lit.int k x).wf=true
theorem Nums.ext{k:IntKind}{p:zW}{n:Nat}{c:List Int}(h:Nums H k p n c)(e:Ext H b):Nums b k p n c:=by
 refine⟨h.len,?_,h.wf⟩
 cases p with
 | none=>exact h.src
 | some a=>exact e.rowAt h.src
theorem Nums.at{H:zV}{k:IntKind}{p:zW}{n:Nat}{b:List Int}(h:Nums H k p n b){i:Nat}(c:i<b.length): ∃a,p=some a/\hat H (a.add (i*1))=some (.int k b[i]):=by
 cases p with
 | none=>have:b.map (Value.int k)=[]:=h.src;simp at this;subst this;simp at c
 | some a=>
  refine⟨a,rfl,?_⟩
  have:=fD (show aQ H a 0 _ from h.src) i (.int k b[i]) (by simp[c])
  rw[Nat.zero_add]at this;rw[Nat.mul_one];exact this
structure tc where
 p:zW
 n:Nat
 c:Nat
 xs:List Int
structure rU (B:Nat) (H:zV) (k:IntKind) (p:zW) (n:Nat) (L:List tc):Prop where
 len:L.length=n
 src:fB H p (L.map λy=>Value.slice y.p y.n y.c)
 each: ∀y∈L,Nums H k y.p y.n y.xs/\y.n<=B
theorem rU.ext{B:Nat}{k:IntKind}{p:zW}{n:Nat}{L:List tc}(h:rU B H k p n L)(e:Ext H b):rU B b k p n L:=by
 refine⟨h.len,?_,λy c=>⟨(h.each y c).1.ext e,(h.each y c).2⟩⟩
 cases p with
 | none=>exact h.src
 | some a=>exact e.rowAt h.src
theorem rU.at{B:Nat}{H:zV}{k:IntKind}{p:zW}{n:Nat}{L:List tc}(h:rU B H k p n L){i:Nat}(b:i<L.length): ∃a,p=some a/\hat H (a.add (i*1))=some (.slice L[i].p L[i].n L[i].c)/\Nums H k L[i].p L[i].n L[i].xs/\L[i].n<=B:=by
 cases p with
 | none=>have:L.map (λy=>Value.slice y.p y.n y.c)=[]:=h.src;simp at this;subst this;simp at b
 | some a=>
  refine⟨a,rfl,?_,h.each _ (List.getElem_mem _)⟩
  have:=fD (show aQ H a 0 _ from h.src) i (.slice L[i].p L[i].n L[i].c) (by simp[b])
  rw[Nat.zero_add]at this;rw[Nat.mul_one];exact this
section
variable {Hd:Type} {enc:TypeId×Value->Hd} {P:Program} {w:World} {base:Nat} {spare:Nat->Bool} {held:Bool} {B:Nat}
end
open Go.ChangeShapes Go.WideShapes
structure Rdr (α:Type)where
 cells:α->List Value
 ok:Nat->zV->α->Prop
 mono: ∀{B:Nat} {H H':zV} {y:α},Ext H H'->ok B H y->ok B H' y
structure Sl (α:Type)where
 p:zW
 n:Nat
 c:Nat
 xs:List α
structure SlOK {α:Type} (sz:Nat) (r:Rdr α) (B:Nat) (H:zV) (s:Sl α):Prop where
 len:s.xs.length=s.n
 le:s.n<=B
 cap:s.n<=s.c
 row: ∀(i:Nat) (h:i<s.xs.length),∃a,s.p=some a/\aQ H (a.add (i*sz)) 0 (r.cells s.xs[i])
 each: ∀y∈s.xs,r.ok B H y
theorem SlOK.ext{α:Type}{c:Nat}{r:Rdr α}{B:Nat}{s:Sl α}(h:SlOK c r B H s)(e:Ext H b):SlOK c r B b s:=
 ⟨h.len,h.le,h.cap,λi g=>by obtain⟨a,d,f⟩:=h.row i g;exact⟨a,d,e.rowAt f⟩,λy j=>r.mono e (h.each y j)⟩
def slR{α:Type}(sz:Nat)(r:Rdr α):Rdr (Sl α):=⟨λs=> [vs s.p s.n s.c],SlOK sz r,λe h=>SlOK.ext h e⟩
def intR(k:IntKind):Rdr Int:=⟨λn=> [.int k n],λ_ _ n=>(Lit.int k n).wf=true,λ_ h=>h⟩
theorem SlOK.nums{B:Nat}{s:Sl Int}(h:SlOK 1 (intR a) B H s):Nums H a s.p s.n s.xs:=by
 refine⟨h.len,?_,λx c=>h.each x c⟩
 cases f:s.p with
 | none=>
  have:s.xs=[]:=by
   cases c:s.xs with
   | nil=>rfl
   | cons m l=>obtain⟨m,b,_⟩:=h.row 0 (by rw[c];simp);rw[f]at b;cases b
  rw[this];rfl
 | some m=>
  refine kE λj v g=>?_
  have d:j<s.xs.length:=by
   rcases Nat.lt_or_ge j s.xs.length with h | h
   ·exact h
   ·simp[List.getElem?_eq_none h]at g
  obtain⟨k,b,i⟩:=h.row j d
  rw[f]at b;cases b
  have:=i.1
  rw[lS,Nat.mul_one]at this
  have e:v=.int a s.xs[j]:=by simpa[d]using g.symm
  rw[Nat.zero_add,e];exact this
section
variable {Hd:Type} {enc:TypeId×Value->Hd} {P:Program} {w:World} {base:Nat} {spare:Nat->Bool} {held:Bool} {B:Nat}
def Reads{α:Type}(enc:TypeId×Value->Hd)(P:Program)(w:World)(base:Nat)(spare:Nat->Bool)(held:Bool)(B:Nat)(t:TypeId)(r:Rdr α):Prop:=
 ∀{fuel:Nat} {cs:List Value} {x:DataW Hd×List MemPlace},DataW.trod enc P w base spare held fuel t cs=some x->mI B x.1-> ∃y,cs=r.cells y/\r.ok B w.heap y
theorem kx{t:TypeId}(e:P.underlying t=some (.int a)):Reads enc P w base spare held B t (intR a):=λh d=>by
 obtain⟨n,b,c⟩:=xa e h d
 exact⟨n,b,c⟩
theorem kW{α:Type}{t e:TypeId}{u:Nat}{r:Rdr α}(H:P.underlying t=some (.slice e))(F:P.cellsOf e=u)(E:Reads enc P w base spare held B e r):Reads enc P w base spare held B t (slR u r):=λ{v K x} h k=>by
 rcases DataW.trod_slice H h with⟨C,_⟩ | ⟨a,f,j,b,A,n,_,D,J,_,z,hm,d,m,_⟩
 ·exact⟨⟨none,0,0,[]⟩,C,rfl,Nat.zero_le _,Nat.le_refl _,λi c=>by simp at c,by simp⟩
 ·rw[J]at k
  obtain⟨L,l,g⟩:=rT (n:=f) (Q:=λi (y:α)=>aQ w.heap (a.add (i*u)) 0 (r.cells y)/\r.ok B w.heap y) (λi c=>by
   have:=m i c
   rw[F]at this
   have G:b[i]?=some b[i]:=by simp[d,c]
   rw[G]at this
   obtain⟨vs,o,p⟩:=Option.bind_eq_some_iff.1 this
   obtain⟨I,q⟩:=px o
   obtain⟨y,rfl,s⟩:=E p (k.elem (List.mem_map.2 ⟨_,List.getElem_mem _,rfl⟩))
   exact⟨y,q,s⟩)
  refine⟨⟨some a,f,j,L⟩,D,l,?_,z,λi c=>⟨a,rfl,(g i c).1⟩,λy s=>by obtain⟨i,c,rfl⟩:=List.getElem_of_mem s;exact(g i c).2⟩
  rcases k with h | h
  ·rw[h];exact Nat.le_trans z hm
  ·simp only[Rows.uptoBulk]at h
   have:=uV (b.map (·.1))
   rw[List.length_map,d]at this
   show f<=B
   omega
theorem un{α:Type}{r:Reach}{k:Nat}{t e:TypeId}{j:Nat}{v:Value}{d:DataW Hd}{ps:List MemPlace}{i:Rdr α}(h:P.underlying t=some (.slice e))(u:P.cellsOf e=j)(q:Reads enc P w base spare held B e i)
  (o:mI B d) (b:Value.okWide P w r k t v) (x:DataW.Trod enc P w base spare held t v d ps): ∃s:Sl α,v=vs s.p s.n s.c/\SlOK j i B w.heap s:=by
 obtain⟨a,z,l,rfl⟩:=okWide_slice h b
 obtain⟨f,y⟩:=x
 obtain⟨s,g,m⟩:=kW h u q y o
 simp[Value.cells,slR]at g
 obtain⟨rfl,rfl,rfl⟩:=g
 exact⟨s,rfl,m⟩
end
end Go.Proofs.YtojbbgcjiaphjaaGreat
namespace Go.Proofs.YtojbbgcjiaphjaaGreat
open Go Go.Proofs.Tryz
open Go.ChangeShapes Go.WideShapes
structure lJ where
 w:Int
 ofv:Int
abbrev lJ.cells(rr:lJ):List Value:=[vu rr.w,vi rr.ofv]
structure lJ.OK (B:Nat) (H:zV) (rr:lJ):Prop where
 w:(intR .u64).ok B H rr.w
 ofv:(intR .i64).ok B H rr.ofv
def jv:Rdr lJ:=⟨lJ.cells,lJ.OK,λe h=>⟨(intR .u64).mono e h.w,(intR .i64).mono e h.ofv⟩⟩
set_option maxRecDepth 100000 in
theorem lK{l:Type}{d:TypeId×Value->l}{w:World}{b:Nat}{a:Nat->Bool}{c:Bool}{B:Nat}:Reads d prog w b a c B 55 jv:=λ{j o x} h r=>by
 have f:prog.cellsOf 55=2:=by kernel_rfl
 obtain⟨e,k⟩:=oh underlying55 h r
 rw[f]at e
 match o,e with
 | [a0,a1],_=>
  obtain⟨u,D,g,A⟩:=k 0 _ rfl
  have m:prog.cellsOf 40=1:=by kernel_rfl
  have p:([a0,a1].drop 0).take (prog.cellsOf 40)=[a0]:=by rw[m];rfl
  replace g:DataW.trod d prog w b a c u 40 [a0]=some D:=by rw[<-p];exact g
  obtain⟨F,s,y⟩:=(kx underlying40:Reads d prog w b a c B 40 (intR .u64)) g A
  obtain⟨v,E,i,C⟩:=k 1 _ rfl
  have n:prog.cellsOf 3=1:=by kernel_rfl
  have q:([a0,a1].drop 1).take (prog.cellsOf 3)=[a1]:=by rw[n];rfl
  replace i:DataW.trod d prog w b a c v 3 [a1]=some E:=by rw[<-q];exact i
  obtain⟨G,t,z⟩:=(kx underlying3:Reads d prog w b a c B 3 (intR .i64)) i C
  cases s
  cases t
  exact⟨⟨F,G⟩,rfl,⟨y,z⟩⟩
structure lT where
 dov:Int
 kind:Int
 n:Int
 x:lJ
 y:lJ
 l:Sl lJ
abbrev lT.cells(rr:lT):List Value:=[vi rr.dov,vi rr.kind,vi rr.n,vu rr.x.w,vi rr.x.ofv,vu rr.y.w,vi rr.y.ofv,vs rr.l.p rr.l.n rr.l.c]
structure lT.OK (B:Nat) (H:zV) (rr:lT):Prop where
 dov:(intR .i64).ok B H rr.dov
 kind:(intR .i64).ok B H rr.kind
 n:(intR .i64).ok B H rr.n
 x:jv.ok B H rr.x
 y:jv.ok B H rr.y
 l:(slR 2 jv).ok B H rr.l
def lQ:Rdr lT:=⟨lT.cells,lT.OK,λe h=>⟨(intR .i64).mono e h.dov,(intR .i64).mono e h.kind,(intR .i64).mono e h.n,jv.mono e h.x,jv.mono e h.y,(slR 2 jv).mono e h.l⟩⟩
set_option maxRecDepth 100000 in
theorem rV{p:Type}{d:TypeId×Value->p}{w:World}{b:Nat}{a:Nat->Bool}{c:Bool}{B:Nat}:Reads d prog w b a c B 57 lQ:=λ{o y x} h G=>by
 have g:prog.cellsOf 57=8:=by kernel_rfl
 obtain⟨e,f⟩:=oh underlying57 h G
 rw[g]at e
 match y,e with
 | [a0,a1,a2,a3,a4,a5,a6,a7],_=>
  obtain⟨N,y0,i,Z⟩:=f 0 _ rfl
  have q:prog.cellsOf 3=1:=by kernel_rfl
  have z:([a0,a1,a2,a3,a4,a5,a6,a7].drop 0).take (prog.cellsOf 3)=[a0]:=by rw[q];rfl
  replace i:DataW.trod d prog w b a c N 3 [a0]=some y0:=by rw[<-z];exact i
  obtain⟨z0,H,T⟩:=(kx underlying3:Reads d prog w b a c B 3 (intR .i64)) i Z
  obtain⟨O,y1,j,s1⟩:=f 1 _ rfl
  have r:prog.cellsOf 3=1:=by kernel_rfl
  have A:([a0,a1,a2,a3,a4,a5,a6,a7].drop 1).take (prog.cellsOf 3)=[a1]:=by rw[r];rfl
  replace j:DataW.trod d prog w b a c O 3 [a1]=some y1:=by rw[<-A];exact j
  obtain⟨z1,I,U⟩:=(kx underlying3:Reads d prog w b a c B 3 (intR .i64)) j s1
  obtain⟨P,y2,k,s2⟩:=f 2 _ rfl
  have s:prog.cellsOf 3=1:=by kernel_rfl
  have C:([a0,a1,a2,a3,a4,a5,a6,a7].drop 2).take (prog.cellsOf 3)=[a2]:=by rw[s];rfl
  replace k:DataW.trod d prog w b a c P 3 [a2]=some y2:=by rw[<-C];exact k
  obtain⟨z2,J,V⟩:=(kx underlying3:Reads d prog w b a c B 3 (intR .i64)) k s2
  obtain⟨Q,y3,l,s3⟩:=f 3 _ rfl
  have t:prog.cellsOf 55=2:=by kernel_rfl
  have D:([a0,a1,a2,a3,a4,a5,a6,a7].drop 3).take (prog.cellsOf 55)=[a3,a4]:=by rw[t];rfl
  replace l:DataW.trod d prog w b a c Q 55 [a3,a4]=some y3:=by rw[<-D];exact l
  obtain⟨z3,K,W⟩:=(lK:Reads d prog w b a c B 55 jv) l s3
  obtain⟨R,y4,m,s4⟩:=f 4 _ rfl
  have u:prog.cellsOf 55=2:=by kernel_rfl
  have E:([a0,a1,a2,a3,a4,a5,a6,a7].drop 5).take (prog.cellsOf 55)=[a5,a6]:=by rw[u];rfl
  replace m:DataW.trod d prog w b a c R 55 [a5,a6]=some y4:=by rw[<-E];exact m
  obtain⟨z4,L,X⟩:=(lK:Reads d prog w b a c B 55 jv) m s4
  obtain⟨S,y5,n,s5⟩:=f 5 _ rfl
  have v:prog.cellsOf 50=1:=by kernel_rfl
  have F:([a0,a1,a2,a3,a4,a5,a6,a7].drop 7).take (prog.cellsOf 50)=[a7]:=by rw[v];rfl
  replace n:DataW.trod d prog w b a c S 50 [a7]=some y5:=by rw[<-F];exact n
  obtain⟨z5,M,Y⟩:=(kW underlying50 (by kernel_rfl) (lK):Reads d prog w b a c B 50 (slR 2 jv)) n s5
  cases H
  cases I
  cases J
  cases K
  cases L
  cases M
  exact⟨⟨z0,z1,z2,z3,z4,z5⟩,rfl,⟨T,U,V,W,X,Y⟩⟩
end Go.Proofs.YtojbbgcjiaphjaaGreat
namespace Go.Proofs.YtojbbgcjiaphjaaGreat
open Go Go.Proofs.Tryz
open Go.ChangeShapes Go.WideShapes
def anyR:Rdr (List Value):=⟨λl=>l,λ_ _ _=>True,λ_ h=>h⟩
theorem uo{e:Type}{d:TypeId×Value->e}{P:Program}{w:World}{b:Nat}{a:Nat->Bool}{c:Bool}{B:Nat}{t:TypeId}:Reads d P w b a c B t anyR:=λ{_ f _} _ _=>⟨f,rfl,trivial⟩
structure gO where
 acts:Sl lT
 guard:Sl (List Value)
 symbols:Sl lJ
 g:Int
 target:Int
 keep:Int
abbrev gO.cells(rr:gO):List Value:=[vs rr.acts.p rr.acts.n rr.acts.c,vs rr.guard.p rr.guard.n rr.guard.c,vs rr.symbols.p rr.symbols.n rr.symbols.c,vi rr.g,vi rr.target,.int .u32 rr.keep]
structure gO.OK (B:Nat) (H:zV) (rr:gO):Prop where
 acts:(slR 8 lQ).ok B H rr.acts
 guard:(slR 4 anyR).ok B H rr.guard
 symbols:(slR 2 jv).ok B H rr.symbols
 g:(intR .i64).ok B H rr.g
 target:(intR .i64).ok B H rr.target
 keep:(intR .u32).ok B H rr.keep
def kX:Rdr gO:=⟨gO.cells,gO.OK,λe h=>⟨(slR 8 lQ).mono e h.acts,(slR 4 anyR).mono e h.guard,(slR 2 jv).mono e h.symbols,(intR .i64).mono e h.g,(intR .i64).mono e h.target,(intR .u32).mono e h.keep⟩⟩
set_option maxRecDepth 100000 in
theorem qi{p:Type}{d:TypeId×Value->p}{w:World}{b:Nat}{a:Nat->Bool}{c:Bool}{B:Nat}:Reads d prog w b a c B 53 kX:=λ{o y x} h G=>by
 have g:prog.cellsOf 53=6:=by kernel_rfl
 obtain⟨e,f⟩:=oh underlying53 h G
 rw[g]at e
 match y,e with
 | [a0,a1,a2,a3,a4,a5],_=>
  obtain⟨N,y0,i,Z⟩:=f 0 _ rfl
  have q:prog.cellsOf 48=1:=by kernel_rfl
  have z:([a0,a1,a2,a3,a4,a5].drop 0).take (prog.cellsOf 48)=[a0]:=by rw[q];rfl
  replace i:DataW.trod d prog w b a c N 48 [a0]=some y0:=by rw[<-z];exact i
  obtain⟨z0,H,T⟩:=(kW underlying48 (by kernel_rfl) (rV):Reads d prog w b a c B 48 (slR 8 lQ)) i Z
  obtain⟨O,y1,j,s1⟩:=f 1 _ rfl
  have r:prog.cellsOf 49=1:=by kernel_rfl
  have A:([a0,a1,a2,a3,a4,a5].drop 1).take (prog.cellsOf 49)=[a1]:=by rw[r];rfl
  replace j:DataW.trod d prog w b a c O 49 [a1]=some y1:=by rw[<-A];exact j
  obtain⟨z1,I,U⟩:=(kW underlying49 (by kernel_rfl) (uo):Reads d prog w b a c B 49 (slR 4 anyR)) j s1
  obtain⟨P,y2,k,s2⟩:=f 2 _ rfl
  have s:prog.cellsOf 50=1:=by kernel_rfl
  have C:([a0,a1,a2,a3,a4,a5].drop 2).take (prog.cellsOf 50)=[a2]:=by rw[s];rfl
  replace k:DataW.trod d prog w b a c P 50 [a2]=some y2:=by rw[<-C];exact k
  obtain⟨z2,J,V⟩:=(kW underlying50 (by kernel_rfl) (lK):Reads d prog w b a c B 50 (slR 2 jv)) k s2
  obtain⟨Q,y3,l,s3⟩:=f 3 _ rfl
  have t:prog.cellsOf 3=1:=by kernel_rfl
  have D:([a0,a1,a2,a3,a4,a5].drop 3).take (prog.cellsOf 3)=[a3]:=by rw[t];rfl
  replace l:DataW.trod d prog w b a c Q 3 [a3]=some y3:=by rw[<-D];exact l
  obtain⟨z3,K,W⟩:=(kx underlying3:Reads d prog w b a c B 3 (intR .i64)) l s3
  obtain⟨R,y4,m,s4⟩:=f 4 _ rfl
  have u:prog.cellsOf 3=1:=by kernel_rfl
  have E:([a0,a1,a2,a3,a4,a5].drop 4).take (prog.cellsOf 3)=[a4]:=by rw[u];rfl
  replace m:DataW.trod d prog w b a c R 3 [a4]=some y4:=by rw[<-E];exact m
  obtain⟨z4,L,X⟩:=(kx underlying3:Reads d prog w b a c B 3 (intR .i64)) m s4
  obtain⟨S,y5,n,s5⟩:=f 5 _ rfl
  have v:prog.cellsOf 51=1:=by kernel_rfl
  have F:([a0,a1,a2,a3,a4,a5].drop 5).take (prog.cellsOf 51)=[a5]:=by rw[v];rfl
  replace n:DataW.trod d prog w b a c S 51 [a5]=some y5:=by rw[<-F];exact n
  obtain⟨z5,M,Y⟩:=(kx underlying51:Reads d prog w b a c B 51 (intR .u32)) n s5
  cases H
  cases I
  cases J
  cases K
  cases L
  cases M
  exact⟨⟨z0,z1,z2,z3,z4,z5⟩,rfl,⟨T,U,V,W,X,Y⟩⟩
end Go.Proofs.YtojbbgcjiaphjaaGreat
namespace Go.Proofs.YtojbbgcjiaphjaaGreat
open Go
variable{a:Int}{H:zV}
theorem sa(c:Prop) [Decidable c] (d e:IntKind)(a b f g:Int):(if c then Value.tuple #[.int d a,.int e b]else .tuple #[.int d f,.int e g])=.tuple #[.int d (if c then a else f),.int e (if c then b else g)]:=by split<;>rfl
abbrev IsW(w:Int):Prop:=aG w
theorem gK(c:IsW a):cS.C a H (λv b=>v=vi (a % 8)/\Ext H b):=by
 refine cS.link ?_
 unfold cS.pt zY
 rw[oe 3 (by decide) c 7 (by decide),w64 (by omega)]
 exact⟨rfl,Ext.refl _⟩
theorem lE{f n:Nat}{b:Nat}(d:IsW a)(g:H[b]?=some (.cells #[vu a] 40 (0,0)))(i:f<=64)(hn:n<64):
  gJ.C f n (some ⟨b,0,none⟩) H (λv e=>v=vu (a / 2 ^ f % 2 ^ n)/\Ext H e):=by
 refine gJ.link ?_
 unfold gJ.pt
 have l:(0:Int)<2 ^ f:=Int.pow_pos (by decide)
 have m:(0:Int)<2 ^ n:=Int.pow_pos (by decide)
 have j:(2:Nat) ^ n<=2 ^ 63:=Nat.pow_le_pow_right (by decide) (by omega)
 have c:((2 ^ n:Nat):Int)=(2:Int) ^ n:=by simp
 have o:0<=a / 2 ^ f:=Int.ediv_nonneg d.1 (Int.le_of_lt l)
 have h:a / 2 ^ f<=a:=Int.ediv_le_self _ d.1
 refine⟨_,rfl,a,by rw[aP g];rfl,by omega,by omega,?_⟩
 rw[nH (k:=.u64) (f:Int) f rfl i,mG (n:Int) n rfl (by omega)]
 rw[show(1*2 ^ n:Int) % 18446744073709551616=2 ^ n by rw[Int.one_mul];exact Int.emod_eq_of_lt (by omega) (by omega)]
 rw[wu64 (by omega),oe n hn (by omega) _ rfl]
 exact⟨rfl,Ext.refl _⟩
theorem nK(e:IsW a):jx.C a H (λv i=>v=.tuple #[vi (a / 8 % 32),vi (a / 256 % 256),vu (a / 65536)]/\Ext H i):=by
 refine jx.link ?_
 unfold jx.pt zY
 intro b j q h
 have o:Ext H j:=Ext.push' h
 have d:=aH q h
 refine HC.mono (lE (f:=3) (n:=5) e d (by omega) (by omega)) ?_
 rintro _ r ⟨rfl,c⟩
 refine⟨_,rfl,?_⟩
 refine HC.mono (lE (f:=8) (n:=8) e (c.get d) (by omega) (by omega)) ?_
 rintro _ s ⟨rfl,g⟩
 refine⟨_,rfl,?_⟩
 refine HC.mono (lE (f:=16) (n:=48) e ((c.trans g).get d) (by omega) (by omega)) ?_
 rintro _ t ⟨rfl,p⟩
 refine⟨_,rfl,?_⟩
 have k:a / 2 ^ 3 % 2 ^ 5=a / 8 % 32:=rfl
 have l:a / 2 ^ 8 % 2 ^ 8=a / 256 % 256:=rfl
 have m:a / 2 ^ 16 % 2 ^ 48=a / 65536:=by
  show a / 65536 % 281474976710656=_
  omega
 rw[k,l,m,w64 (by omega),w64 (by omega)]
 exact⟨rfl,((o.trans c).trans g).trans p⟩
def lr(c:Int):Bool:=decide (c<=1114111) && (decide (c<55296) || decide (c>57343))
theorem qp:jG.C a H (λv b=>v=.bool (lr a)/\Ext H b):=jG.link ⟨rfl,Ext.refl _⟩
def om(t:Int):Bool:=(decide (t>=1) && decide (t<=3)) || (t==6)
theorem nL:jO.C a H (λv b=>v=.bool (om a)/\Ext H b):=jO.link ⟨rfl,Ext.refl _⟩
def mayW(w:Int):Bool:=
 if w % 8=0 then true
 else if w % 8=1\/w % 8=2\/w % 8=3\/w % 8=6 then decide (w / 8<65536)
 else if w % 8=4 then(if w / 8 % 32=7 then lr (w / 256)else decide (w / 8<=6))
 else if w % 8=5 then decide (1<=w / 8 % 32/\w / 8 % 32<=13/\w / 256 % 256<=62)
 else false
theorem u7(h:a % 8=0):mayW a=true:=by unfold mayW;rw[if_pos h]
theorem pD(h:a % 8=1\/a % 8=2\/a % 8=3\/a % 8=6):mayW a=decide (a / 8<65536):=by unfold mayW;rw[if_neg (by omega),if_pos h]
theorem tf(h:a % 8=4):mayW a=(if a / 8 % 32=7 then lr (a / 256)else decide (a / 8<=6)):=by unfold mayW;rw[if_neg (by omega),if_neg (by omega),if_pos h]
theorem vc(h:a % 8=5):mayW a=decide (1<=a / 8 % 32/\a / 8 % 32<=13/\a / 256 % 256<=62):=by unfold mayW;rw[if_neg (by omega),if_neg (by omega),if_neg (by omega),if_pos h]
theorem vd(h:a % 8=7):mayW a=false:=by unfold mayW;rw[if_neg (by omega),if_neg (by omega),if_neg (by omega),if_neg (by omega)]
theorem lF(l:IsW a):eM.C a H (λv m=>v=.bool (mayW a)/\Ext H m):=by
 refine HC.via λR c=>eM.link ?_
 unfold eM.pt
 refine HC.mono (nK l) ?_
 rintro _ s ⟨rfl,n⟩
 refine⟨_,_,_,rfl,?_⟩
 refine HC.mono (gK l) ?_
 rintro _ t ⟨rfl,o⟩
 refine⟨_,rfl,?_⟩
 have b:=n.trans o
 have q:ishr .u64 a 3=a / 8:=nH 3 3 rfl (by decide)
 have r:ishr .u64 a 8=a / 256:=nH 8 8 rfl (by decide)
 rw[q,r]
 by_cases f:a % 8=0
 ·rw[if_pos f];exact c _ _ ⟨by rw[u7 f],b⟩
 rw[if_neg f]
 by_cases h:a % 8=1
 ·rw[if_pos h];exact c _ _ ⟨by rw[pD (by omega)],b⟩
 rw[if_neg h]
 by_cases i:a % 8=2
 ·rw[if_pos i];exact c _ _ ⟨by rw[pD (by omega)],b⟩
 rw[if_neg i]
 by_cases j:a % 8=3
 ·rw[if_pos j];exact c _ _ ⟨by rw[pD (by omega)],b⟩
 rw[if_neg j]
 by_cases k:a % 8=6
 ·rw[if_pos k];exact c _ _ ⟨by rw[pD (by omega)],b⟩
 rw[if_neg k]
 by_cases d:a % 8=4
 ·rw[if_pos d]
  by_cases e:a / 8 % 32=7
  ·rw[if_pos e]
   refine HC.mono qp ?_
   rintro _ u ⟨rfl,p⟩
   exact⟨_,rfl,c _ _ ⟨by rw[tf d,if_pos e],b.trans p⟩⟩
  ·rw[if_neg e];exact c _ _ ⟨by rw[tf d,if_neg e],b⟩
 rw[if_neg d]
 by_cases g:a % 8=5
 ·rw[if_pos g]
  refine c _ _ ⟨?_,b⟩
  rw[vc g]
  congr 1
  rw[Bool.eq_iff_iff]
  simp
  omega
 ·rw[if_neg g];exact c _ _ ⟨by rw[vd (by omega)],b⟩
def signed(w:Int):Int:=if w>=9223372036854775808 then w-18446744073709551616 else w
theorem jW(g:IsW a):gR.C a H (λv h=>v=(if(a % 8=1\/a % 8=2\/a % 8=3\/a % 8=6)/\a / 8<65536 then .tuple #[vi (a / 8),VT]else .tuple #[vi 0,VF])/\Ext H h):=by
 refine gR.link ?_
 unfold gR.pt zY
 refine HC.mono (gK g) ?_
 rintro _ l ⟨rfl,i⟩
 refine⟨_,rfl,?_⟩
 refine HC.mono nL ?_
 rintro _ m ⟨rfl,j⟩
 refine⟨_,rfl,?_⟩
 have b:=i.trans j
 have k:ishr .u64 a 3=a / 8:=nH 3 3 rfl (by decide)
 split
 ·rename_i c
  have d:a % 8=1\/a % 8=2\/a % 8=3\/a % 8=6:=by unfold om at c;simp at c;omega
  refine HC.mono (lF g) ?_
  rintro _ n ⟨rfl,f⟩
  refine⟨_,rfl,?_⟩
  have hm:mayW a=decide (a / 8<65536):=by
   unfold mayW
   rw[if_neg (by omega),if_pos d]
  rw[hm,k]
  split
  ·rename_i e
   refine⟨?_,b.trans f⟩
   rw[if_pos ⟨d,by simpa using e⟩,w64 (by omega)]
  ·rename_i e
   refine⟨?_,b.trans f⟩
   rw[if_neg (by simp at e;omega)]
 ·rename_i c
  refine⟨?_,b⟩
  rw[if_neg]
  unfold om at c
  simp at c
  omega
theorem lU{b:Int}(n: -9223372036854775808<=a/\a<=9223372036854775807)(m: -9223372036854775808<=b/\b<=9223372036854775807):
  j3.C a b H (λv k=>v=(if ¬(a=1\/a=2\/a=3\/a=6)then .tuple #[vu 0,vi 1]else if 0<=b/\b<65536 then .tuple #[vu (b*8+a),vi 0]else .tuple #[vu 0,vi 18])/\Ext H k):=by
 refine HC.via λR i=>j3.link ?_
 unfold j3.pt
 refine HC.mono nL ?_
 rintro _ l ⟨rfl,g⟩
 refine⟨_,rfl,?_⟩
 by_cases c:om a=true
 ·rw[if_pos c]
  have d:a=1\/a=2\/a=3\/a=6:=by unfold om at c;simp at c;omega
  by_cases f:(decide (b<0) || decide (b>=65536))=true
  ·rw[if_pos f]
   refine i _ _ ⟨?_,g⟩
   rw[if_neg (λh=>h d),if_neg (by simp at f;omega)]
  ·rw[if_neg f]
   have j:0<=b/\b<65536:=by simp at f;omega
   refine i _ _ ⟨?_,g⟩
   rw[if_neg (λh=>h d),if_pos j,wu64 (by omega),wu64 (by omega),mG 3 3 rfl (by decide)]
   have e:b*2 ^ 3 % 18446744073709551616=b*8:=by show b*8 % _=_;omega
   rw[e,pf 3 (by omega) (by show b*8 % 8=0;omega) (by show 0<=a/\a<8;omega) (by decide)]
 ·rw[if_neg c]
  refine i _ _ ⟨?_,g⟩
  rw[if_pos]
  unfold om at c
  simp at c
  omega
theorem ni{n b:Int}(hk: -9223372036854775808<=a/\a<=9223372036854775807)(hn: -9223372036854775808<=n/\n<=9223372036854775807)(hm:IsW b):
  iQ.C a n b H (λv c=>v=(if(1<=a/\a<=13)/\(0<=n/\n<=62)/\b<281474976710656 then .tuple #[vu (b*65536+n*256+a*8+5),vi 0]else .tuple #[vu 0,vi 1])/\Ext H c):=by
 refine iQ.link ?_
 unfold iQ.pt
 split
 ·rename_i h
  refine⟨?_,Ext.refl _⟩
  rw[if_neg]
  simp at h
  omega
 ·rename_i h
  have g:(1<=a/\a<=13)/\(0<=n/\n<=62)/\b<281474976710656:=by simp at h;omega
  refine⟨?_,Ext.refl _⟩
  rw[if_pos g,wu64 (by omega),wu64 (by omega),mG 16 16 rfl (by decide),mG 8 8 rfl (by decide),mG 3 3 rfl (by decide)]
  have d:b*2 ^ 16 % 18446744073709551616=b*65536:=by show b*65536 % _=_;omega
  have e:n*2 ^ 8 % 18446744073709551616=n*256:=by show n*256 % _=_;omega
  have f:a*2 ^ 3 % 18446744073709551616=a*8:=by show a*8 % _=_;omega
  rw[d,e,f,pf (x:=b*65536) 16 (by omega) (by show b*65536 % 65536=0;omega) (by show 0<=n*256/\n*256<65536;omega) (by decide),
   pf (x:=b*65536+n*256) 8 (by omega) (by show(b*65536+n*256) % 256=0;omega) (by show 0<=a*8/\a*8<256;omega) (by decide),
   pf (x:=b*65536+n*256+a*8) 3 (by omega) (by show(b*65536+n*256+a*8) % 8=0;omega) (by decide) (by decide)]
theorem sc(d:IsW a):ke.C a H (λv f=>v=(if a % 8=5/\(1<=a / 8 % 32/\a / 8 % 32<=13/\a / 256 % 256<=62)then .tuple #[vi (a / 8 % 32),vi (a / 256 % 256),vu (a / 65536),VT]else .tuple #[vi 0,vi 0,vu 0,VF])/\Ext H f):=by
 refine ke.link ?_
 unfold ke.pt
 refine HC.mono (gK d) ?_
 rintro _ i ⟨rfl,b⟩
 refine⟨_,rfl,?_⟩
 split
 ·refine HC.mono (lF d) ?_
  rintro _ j ⟨rfl,e⟩
  refine⟨_,rfl,?_⟩
  have hm:mayW a=decide (1<=a / 8 % 32/\a / 8 % 32<=13/\a / 256 % 256<=62):=by
   unfold mayW
   rw[if_neg (by omega),if_neg (by omega),if_neg (by omega),if_pos (by omega)]
  rw[hm]
  split
  ·rename_i c
   refine HC.mono (nK d) ?_
   rintro _ k ⟨rfl,g⟩
   refine⟨_,_,_,rfl,?_,(b.trans e).trans g⟩
   rw[if_pos ⟨by omega,of_decide_eq_true c⟩]
  ·rename_i c
   refine⟨?_,b.trans e⟩
   rw[if_neg]
   rintro⟨_,h⟩
   exact c (zX h)
 ·refine⟨?_,b⟩
  rw[if_neg (by omega)]
