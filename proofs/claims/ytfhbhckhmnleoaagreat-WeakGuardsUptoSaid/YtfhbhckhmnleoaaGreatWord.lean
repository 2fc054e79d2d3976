/-
 From a walk over heaps to the row of a law: it answers true, and whatever lay there lies as it lay. Proves nothing of any one statement.
-/
import Derived.Test.YtfhbhckhmnleoaaGreatRows
import Derived.WalkKit
import Derived.ProofKit
import Derived.SizedLaws
import Derived.OpenShut
import Derived.ShutString
import Derived.JoinedCond
import Derived.Test.YtfhbhckhmnleoaaGreatOwn
import Derived.Test.YtfhbhckhmnleoaaGreatFword
set_option linter.unusedVariables false
set_option linter.unusedSimpArgs false
namespace Go.Proofs.YtfhbhckhmnleoaaGreat
open Go Go.Proofs.Tryz
open Go.ChangeShapes Go.WideShapes Go.ChangeAt Go.RowKit
variable{H d:zV}
theorem tG:ownKnob prog.godebug=none:=by kernel_rfl
theorem laidOut:laidOutB prog=true:=by kernel_rfl
theorem kM{H:Type}{enc:TypeId×Value->H}{P:Program}(i:laidOutB P=true){W f:World}(g:Below W.heap.size W f):
  ∀{a:List TypeId} {vs:List Value} {c:List (DataW H)} {ps:List MemPlace},(∀t∈a,P.readableRec t=true/\t<P.types.size)->DataW.TrodAll enc P W 0 (λ_=>true) true a vs c ps->(∀x∈ps,x.block<W.heap.size)->
   DataW.TrodAll enc P f 0 (λb=>decide (b<W.heap.size)) true a vs c ps
 | [],[],[],_,_,h,_=>h
 | [],[],_::_,_,_,h,_=>h.elim
 | [],_::_,_,_,_,h,_=>h.elim
 | _::_,[],_,_,_,h,_=>h.elim
 | _::_,_::_,[],_,_,h,_=>h.elim
 | t::a,v::vs,d::c,ps,hr,h,hlt=>by
  obtain⟨p,q,j,k,rfl⟩:=h
  exact⟨p,q,Below.trod i (hr t (List.mem_cons_self ..)).1 (hr t (List.mem_cons_self ..)).2 j g (λx e=>hlt x (List.mem_append_left _ e)),
   kM i g (λu l=>hr u (List.mem_cons_of_mem _ l)) k (λx e=>hlt x (List.mem_append_right _ e)),rfl⟩
theorem ss{H:Type}{enc:TypeId×Value->H}{P:Program}{fn:Func}{s:ChangeSpec}{W o:World}{args:Array Value}{f h:List (DataW H)}{c:List MemPlace}{u:TypeId}
  (y:laidOutB P=true) (b:s.vars=[]) (e: ∀t∈fn.params.toList,P.readableRec t=true/\t<P.types.size) (n:fn.resultTypes= #[u]) (d:P.underlying u=some .bool)
  (a:s.fn H f={results:=[.lit (.bool true)],args:=f})
  (j:DataW.Whole enc P fn.params.toList s.vars false W args.toList f h c) (r:Below W.heap.size W o):
  s.post enc P fn false true false false W args vT o:=by
 have k:=j
 have m:=j.lt
 obtain⟨p,q,v,i,rfl,_,_⟩:=j
 have l:h=[]/\q=[]:=by
  rw[b]at i
  cases h with
  | nil=>exact⟨rfl,i⟩
  | cons g h=>exact i.elim
 obtain⟨rfl,rfl⟩:=l
 refine⟨f,[],p++[],[],p,[],k,?_,?_,?_,r.frame _,by simp⟩
 ·rw[List.append_nil,a,n]
  exact trodAll_cons_mk (shut_bool d _) trodAll_mk0
 ·rw[List.append_nil,a]
  exact kM y r e v (λx z=>m x (List.mem_append_left _ z))
 ·rw[List.append_nil,a,b]
  rfl
set_option maxRecDepth 100000 in
theorem mq{M:Os}(d:M.Started){H:Type}{enc:TypeId×Value->H}{F:Stop.Interp}{f:FuncId}{fn:Func}{s:ChangeSpec}{tb:TypeId}
  (n:Tryz.checked.prog.inits.idxOf? f=none) (I:prog.funcs[f]?=some fn)
  (l: ∃(w:World) (b:Tape) (i:Input),w.os=M/\(w.forCall b i).Shaped Tryz.checked.prog/\i.vars=[]/\Input.okWide Tryz.checked.prog (w.forCall b i) .any w.heap.size f i/\
   (Rows.OpenSpec.upto s).pre6 enc Tryz.checked.prog fn [] false (w.forCall b i).memory i.args/\Assume.holds {} Tryz.checked.prog (lone (Frame.enter Tryz.checked.prog f i.args .normal) [] (w.forCall b i)))
  (c:s.vars=[]) (x:(fn.params.toList.all λt=>prog.readableRec t && decide (t<prog.types.size))=true) (K:fn.resultTypes= #[tb]) (o:prog.underlying tb=some .bool)
  (r: ∀a:List (DataW H),a.length=fn.params.size->s.fn H a={results:=[.lit (.bool true)],args:=a})
  (A: ∀(W:World) (base:Nat) (args:Array Value) (a:List (DataW H)) (p:List MemPlace),
   (∀(j:Nat) t v,fn.params[j]?=some t->args[j]?=some v->Value.okWide prog W .any base t v)->
   DataW.TrodAll enc prog W 0 (λ_=>true) true fn.params.toList args.toList a p->
   Rows.uptoBulkAll a<=1048576->
   HC prog f args W.heap (λv S=>v=vT/\Ext W.heap S)):
  ReturnsInHanded {} Tryz.checked M f .any ((Rows.OpenSpec.upto s).pre6 enc prog fn [] false) (((Rows.OpenSpec.upto s).at F).post enc prog fn false true false false):=by
 refine returnsInHanded_of_cond (C:=Tryz.checked) (s:=Rows.OpenSpec.upto s) (k:=Rows.uptoSmall) rfl tG d n I l ?_
 intro W base args a D m y G _ hk _
 have Q:DataW.Whole enc prog fn.params.toList s.vars false W args.toList a D m:=G
 have E:=Q
 obtain⟨p,q,N,O,rfl,_,_⟩:=Q
 have J:D=[]:=by
  rw[c]at O
  cases D with
  | nil=>rfl
  | cons g D=>exact O.elim
 subst J
 have u:a.length=fn.params.size:=by
  have: ∀(z:List TypeId) (vs:List Value) (a:List (DataW H)) (ps:List MemPlace),DataW.TrodAll enc prog W 0 (λ_=>true) true z vs a ps->a.length=z.length:=by
   intro z
   induction z with
   | nil=>intro vs a ps h;cases vs<;>cases a<;>first | rfl | exact h.elim
   | cons t z Z=>intro vs a ps h;cases vs<;>cases a<;>first | exact h.elim | (obtain⟨p,q,_,T,_⟩:=h;simp[Z _ _ _ T])
  simpa using this _ _ _ _ N
 have U:Rows.uptoBulkAll a<=1048576:=by
  rw[List.append_nil]at hk
  exact of_decide_eq_true hk
 refine(A W base args a p y N U W rfl).mono λe W' ⟨v,V,L,Y,R⟩=>?_
 subst Y
 refine⟨_,V,ss laidOut c (λt X=>?_) K o (r a u) E ⟨L.os,L.tape,L.output,R.size,R.old⟩⟩
 have:=List.all_eq_true.1 x t X
 rw[Bool.and_eq_true]at this
 exact⟨this.1,of_decide_eq_true this.2⟩
theorem wf_i64{n:Int}(h:(Lit.int .i64 n).wf=true): -9223372036854775808<=n/\n<=9223372036854775807:=by
 simp only[Lit.wf,Bool.and_eq_true,decide_eq_true_eq]at h
 exact h
theorem wf_u64{n:Int}(h:(Lit.int .u64 n).wf=true):aC n:=by
 simp only[Lit.wf,Bool.and_eq_true,decide_eq_true_eq]at h
 have b:n<=18446744073709551615:=h.2
 have a:(0:Int)<=n:=h.1
 exact⟨a,by omega⟩
open Go.ChangeShapes Go.WideShapes
inductive Shape where
 | int (k:IntKind)
 | bool
 | str
 | slice (sz:Nat) (e:Shape)
 | pair (n:Nat) (a b:Shape)
 | unit
def Rd(B:Nat)(H:zV):Shape->List Value->Prop
 | .int k,cs=> ∃n,cs=[.int k n]/\(Lit.int k n).wf=true
 | .bool,cs=> ∃b,cs=[.bool b]
 | .str,cs=> ∃s:ByteArray,cs=[.string s]/\s.size<=B
 | .slice sz e,cs=> ∃p n c,cs=[.slice p n c]/\n<=c/\n<=B/\(p=none->n=0)/\ ∀a,p=some a-> ∀i,i<n-> ∃vs,vs.length=sz/\aP H (a.add (i*sz)) 0 vs/\Rd B H e vs
 | .pair n a b,cs=>Rd B H a (cs.take n)/\Rd B H b (cs.drop n)
 | .unit,cs=>cs=[]
def jU{Hd:Type}(B:Nat)(d:DataW Hd):Prop:=B=maxLen\/Rows.uptoBulk d<=B
theorem lS{Hd:Type}{d:DataW Hd}{l:List (DataW Hd)}(h:d∈l):Rows.uptoBulk d<=Rows.uptoBulkAll l:=by
 induction l with
 | nil=>cases h
 | cons x r a=>
  simp only[Rows.uptoBulkAll]
  cases List.mem_cons.1 h with
  | inl e=>subst e;omega
  | inr e=>have:=a e;omega
theorem su{Hd:Type}(d:DataW Hd):1<=Rows.uptoBulk d:=by
 cases d with
 | lit l=>cases l<;>simp[Rows.uptoBulk]
 | nil=>simp[Rows.uptoBulk]
 | ptr d=>simp[Rows.uptoBulk]
 | slice b spare=>simp[Rows.uptoBulk]
 | agg c=>simp[Rows.uptoBulk]
 | iface t d=>simp[Rows.uptoBulk]
 | map a=>simp[Rows.uptoBulk]
 | held h=>simp[Rows.uptoBulk]
theorem sw{Hd:Type}(l:List (DataW Hd)):l.length<=Rows.uptoBulkAll l:=by
 induction l with
 | nil=>simp[Rows.uptoBulkAll]
 | cons x r a=>have:=su x;simp only[Rows.uptoBulkAll,List.length_cons];omega
theorem jU.elem{Hd:Type}{B:Nat}{a sp:List (DataW Hd)}(h:jU B (.slice a sp)){d:DataW Hd}(b:d∈a):jU B d:=by
 rcases h with h | h
 ·exact .inl h
 ·have:=lS b;simp only[Rows.uptoBulk]at h;exact .inr (by omega)
theorem jU.part{Hd:Type}{B:Nat}{a:List (DataW Hd)}(h:jU B (.agg a)){d:DataW Hd}(b:d∈a):jU B d:=by
 rcases h with h | h
 ·exact .inl h
 ·have:=lS b;simp only[Rows.uptoBulk]at h;exact .inr (by omega)
section
variable {Hd:Type} {enc:TypeId×Value->Hd} {P:Program} {w:World} {base:Nat} {spare:Nat->Bool} {held:Bool} {B:Nat}
theorem uo{t:TypeId}{k:IntKind}(e:P.underlying t=some (.int k)){a:Nat}{b:List Value}{x:DataW Hd×List MemPlace}(h:DataW.trod enc P w base spare held a t b=some x)(_:jU B x.1):Rd B w.heap (.int k) b:=by
 obtain⟨n,c,_,d⟩:=DataW.trod_int e h
 exact⟨n,c,d⟩
theorem mT{a:Addr}{n:Nat}{b:List Value}(h:w.cells? base a n=some b):b.length=n/\aP w.heap a 0 b:=by
 obtain⟨_,d,e⟩:=World.cells?_some h
 refine⟨d,jw λj v c=>?_⟩
 have f:j<b.length:=by
  rcases Nat.lt_or_ge j b.length with h | h
  ·exact h
  ·simp[List.getElem?_eq_none h]at c
 rw[Nat.zero_add,<-mM,e j (by omega),c]
theorem lT{t:TypeId}{c:Array Field}(o:P.underlying t=some (.struct c)){a:Nat}{b:List Value}{x:DataW Hd×List MemPlace}(h:DataW.trod enc P w base spare held a t b=some x)(d:jU B x.1):
  b.length=P.cellsOf t/\ ∀(i:Nat) (f:Field),c[i]?=some f-> ∃(n:Nat) (y:DataW Hd×List MemPlace),DataW.trod enc P w base spare held n f.type ((b.drop f.offset).take (P.cellsOf f.type))=some y/\jU B y.1:=by
 obtain⟨g,n,_,p,j,k,l⟩:=DataW.trod_struct o h
 rw[p]at d
 refine⟨j,λi f e=>?_⟩
 have m:i<g.length:=by
  rw[k]
  rcases Nat.lt_or_ge i c.size with h | h
  ·exact h
  ·simp[Array.getElem?_eq_none h]at e
 exact⟨n,g[i],by rw[l i f e];simp[m],d.part (List.mem_map.2 ⟨_,List.getElem_mem _,rfl⟩)⟩
end
theorem oW{α:Type}{n:Nat}{Q:Nat->α->Prop}(h: ∀i,i<n-> ∃y,Q i y): ∃L:List α,L.length=n/\ ∀i (a:i<L.length),Q i L[i]:=by
 induction n with
 | zero=>exact⟨[],rfl,λi a=>by simp at a⟩
 | succ n f=>
  obtain⟨L,b,d⟩:=f (λi a=>h i (by omega))
  obtain⟨y,e⟩:=h n (by omega)
  refine⟨L++[y],by simp[b],λi a=>?_⟩
  by_cases c:i<L.length
  ·rw[List.getElem_append_left c];exact d i c
  ·have:i=L.length:=by simp at a;omega
   subst this
   rw[List.getElem_append_right (Nat.le_refl _)]
   simpa[b]using e
theorem nU(a:Addr):a.add 0=a:=by unfold Addr.add;cases a;split<;>simp_all
structure Nums (H:zV) (k:IntKind) (p:zW) (n:Nat) (xs:List Int):Prop where
 len:xs.length=n
 src:gc H p (xs.map (Value.int k))
 wf: ∀x∈xs,(Lit.int k x).wf=true
theorem Nums.ext{k:IntKind}{p:zW}{n:Nat}{b:List Int}(h:Nums H k p n b)(e:Ext H d):Nums d k p n b:=by
 refine⟨h.len,?_,h.wf⟩
 cases p with
 | none=>exact h.src
 | some a=>exact e.rowAt h.src
theorem Nums.at{H:zV}{k:IntKind}{p:zW}{n:Nat}{b:List Int}(h:Nums H k p n b){i:Nat}(c:i<b.length): ∃a,p=some a/\hat H (a.add (i*1))=some (.int k b[i]):=by
 cases p with
 | none=>have:b.map (Value.int k)=[]:=h.src;simp at this;subst this;simp at c
 | some a=>
  refine⟨a,rfl,?_⟩
  have:=gy (show aP H a 0 _ from h.src) i (.int k b[i]) (by simp[c])
  rw[Nat.zero_add]at this;rw[Nat.mul_one];exact this
structure qb where
 p:zW
 n:Nat
 c:Nat
 xs:List Int
structure oX (B:Nat) (H:zV) (k:IntKind) (p:zW) (n:Nat) (L:List qb):Prop where
 len:L.length=n
 src:gc H p (L.map λy=>Value.slice y.p y.n y.c)
 each: ∀y∈L,Nums H k y.p y.n y.xs/\y.n<=B
theorem oX.ext{B:Nat}{k:IntKind}{p:zW}{n:Nat}{L:List qb}(h:oX B H k p n L)(e:Ext H d):oX B d k p n L:=by
 refine⟨h.len,?_,λy b=>⟨(h.each y b).1.ext e,(h.each y b).2⟩⟩
 cases p with
 | none=>exact h.src
 | some a=>exact e.rowAt h.src
theorem oX.at{B:Nat}{H:zV}{k:IntKind}{p:zW}{n:Nat}{L:List qb}(h:oX B H k p n L){i:Nat}(b:i<L.length): ∃a,p=some a/\hat H (a.add (i*1))=some (.slice L[i].p L[i].n L[i].c)/\Nums H k L[i].p L[i].n L[i].xs/\L[i].n<=B:=by
 cases p with
 | none=>have:L.map (λy=>Value.slice y.p y.n y.c)=[]:=h.src;simp at this;subst this;simp at b
 | some a=>
  refine⟨a,rfl,?_,h.each _ (List.getElem_mem _)⟩
  have:=gy (show aP H a 0 _ from h.src) i (.slice L[i].p L[i].n L[i].c) (by simp[b])
  rw[Nat.zero_add]at this;rw[Nat.mul_one];exact this
section
variable {Hd:Type} {enc:TypeId×Value->Hd} {P:Program} {w:World} {base:Nat} {spare:Nat->Bool} {held:Bool} {B:Nat}
end
open Go.ChangeShapes Go.WideShapes
structure Rdr (α:Type)where
 cells:α->List Value
 ok:Nat->zV->α->Prop
 mono: ∀{B:Nat} {H H':zV} {y:α},Ext H H'->ok B H y->ok B H' y
structure Sl (α:Type)where
 p:zW
 n:Nat
 c:Nat
 xs:List α
structure SlOK {α:Type} (sz:Nat) (r:Rdr α) (B:Nat) (H:zV) (s:Sl α):Prop where
 len:s.xs.length=s.n
 le:s.n<=B
 cap:s.n<=s.c
 row: ∀(i:Nat) (h:i<s.xs.length),∃a,s.p=some a/\aP H (a.add (i*sz)) 0 (r.cells s.xs[i])
 each: ∀y∈s.xs,r.ok B H y
theorem SlOK.ext{α:Type}{b:Nat}{r:Rdr α}{B:Nat}{s:Sl α}(h:SlOK b r B H s)(e:Ext H d):SlOK b r B d s:=
 ⟨h.len,h.le,h.cap,λi g=>by obtain⟨a,c,f⟩:=h.row i g;exact⟨a,c,e.rowAt f⟩,λy j=>r.mono e (h.each y j)⟩
def slR{α:Type}(sz:Nat)(r:Rdr α):Rdr (Sl α):=⟨λs=> [vs s.p s.n s.c],SlOK sz r,λe h=>SlOK.ext h e⟩
def intR(k:IntKind):Rdr Int:=⟨λn=> [.int k n],λ_ _ n=>(Lit.int k n).wf=true,λ_ h=>h⟩
section
variable {Hd:Type} {enc:TypeId×Value->Hd} {P:Program} {w:World} {base:Nat} {spare:Nat->Bool} {held:Bool} {B:Nat}
def Reads{α:Type}(enc:TypeId×Value->Hd)(P:Program)(w:World)(base:Nat)(spare:Nat->Bool)(held:Bool)(B:Nat)(t:TypeId)(r:Rdr α):Prop:=
 ∀{fuel:Nat} {cs:List Value} {x:DataW Hd×List MemPlace},DataW.trod enc P w base spare held fuel t cs=some x->jU B x.1-> ∃y,cs=r.cells y/\r.ok B w.heap y
theorem iG{t:TypeId}{k:IntKind}(d:P.underlying t=some (.int k)):Reads enc P w base spare held B t (intR k):=λh c=>by
 obtain⟨n,a,b⟩:=uo d h c
 exact⟨n,a,b⟩
theorem jJ{α:Type}{t e:TypeId}{u:Nat}{r:Rdr α}(H:P.underlying t=some (.slice e))(F:P.cellsOf e=u)(E:Reads enc P w base spare held B e r):Reads enc P w base spare held B t (slR u r):=λ{v K x} h k=>by
 rcases DataW.trod_slice H h with⟨C,_⟩ | ⟨a,f,j,b,A,n,_,D,J,_,z,hm,d,m,_⟩
 ·exact⟨⟨none,0,0,[]⟩,C,rfl,Nat.zero_le _,Nat.le_refl _,λi c=>by simp at c,by simp⟩
 ·rw[J]at k
  obtain⟨L,l,g⟩:=oW (n:=f) (Q:=λi (y:α)=>aP w.heap (a.add (i*u)) 0 (r.cells y)/\r.ok B w.heap y) (λi c=>by
   have:=m i c
   rw[F]at this
   have G:b[i]?=some b[i]:=by simp[d,c]
   rw[G]at this
   obtain⟨vs,o,p⟩:=Option.bind_eq_some_iff.1 this
   obtain⟨I,q⟩:=mT o
   obtain⟨y,rfl,s⟩:=E p (k.elem (List.mem_map.2 ⟨_,List.getElem_mem _,rfl⟩))
   exact⟨y,q,s⟩)
  refine⟨⟨some a,f,j,L⟩,D,l,?_,z,λi c=>⟨a,rfl,(g i c).1⟩,λy s=>by obtain⟨i,c,rfl⟩:=List.getElem_of_mem s;exact(g i c).2⟩
  rcases k with h | h
  ·rw[h];exact Nat.le_trans z hm
  ·simp only[Rows.uptoBulk]at h
   have:=sw (b.map (·.1))
   rw[List.length_map,d]at this
   show f<=B
   omega
theorem rE{α:Type}{r:Go.Reach}{k:Nat}{t e:TypeId}{j:Nat}{v:Value}{d:DataW Hd}{ps:List MemPlace}{i:Rdr α}(h:P.underlying t=some (.slice e))(u:P.cellsOf e=j)(q:Reads enc P w base spare held B e i)
  (o:jU B d) (b:Value.okWide P w r k t v) (x:DataW.Trod enc P w base spare held t v d ps): ∃s:Sl α,v=vs s.p s.n s.c/\SlOK j i B w.heap s:=by
 obtain⟨a,z,l,rfl⟩:=okWide_slice h b
 obtain⟨f,y⟩:=x
 obtain⟨s,g,m⟩:=jJ h u q y o
 simp[Value.cells,slR]at g
 obtain⟨rfl,rfl,rfl⟩:=g
 exact⟨s,rfl,m⟩
end
end Go.Proofs.YtfhbhckhmnleoaaGreat
namespace Go.Proofs.YtfhbhckhmnleoaaGreat
open Go Go.Proofs.Tryz
open Go.ChangeShapes Go.WideShapes
structure jc where
 w:Int
 ofv:Int
abbrev jc.cells(rr:jc):List Value:=[vu rr.w,vi rr.ofv]
structure jc.OK (B:Nat) (H:zV) (rr:jc):Prop where
 w:(intR .u64).ok B H rr.w
 ofv:(intR .i64).ok B H rr.ofv
def gI:Rdr jc:=⟨jc.cells,jc.OK,λe h=>⟨(intR .u64).mono e h.w,(intR .i64).mono e h.ofv⟩⟩
set_option maxRecDepth 100000 in
theorem jd{l:Type}{d:TypeId×Value->l}{w:World}{b:Nat}{a:Nat->Bool}{c:Bool}{B:Nat}:Reads d prog w b a c B 65 gI:=λ{j o x} h r=>by
 have f:prog.cellsOf 65=2:=by kernel_rfl
 obtain⟨e,k⟩:=lT underlying65 h r
 rw[f]at e
 match o,e with
 | [a0,a1],_=>
  obtain⟨u,D,g,A⟩:=k 0 _ rfl
  have m:prog.cellsOf 28=1:=by kernel_rfl
  have p:([a0,a1].drop 0).take (prog.cellsOf 28)=[a0]:=by rw[m];rfl
  replace g:DataW.trod d prog w b a c u 28 [a0]=some D:=by rw[<-p];exact g
  obtain⟨F,s,y⟩:=(iG underlying28:Reads d prog w b a c B 28 (intR .u64)) g A
  obtain⟨v,E,i,C⟩:=k 1 _ rfl
  have n:prog.cellsOf 3=1:=by kernel_rfl
  have q:([a0,a1].drop 1).take (prog.cellsOf 3)=[a1]:=by rw[n];rfl
  replace i:DataW.trod d prog w b a c v 3 [a1]=some E:=by rw[<-q];exact i
  obtain⟨G,t,z⟩:=(iG underlying3:Reads d prog w b a c B 3 (intR .i64)) i C
  cases s
  cases t
  exact⟨⟨F,G⟩,rfl,⟨y,z⟩⟩
structure jK where
 dov:Int
 kind:Int
 n:Int
 x:jc
 y:jc
 l:Sl jc
abbrev jK.cells(rr:jK):List Value:=[vi rr.dov,vi rr.kind,vi rr.n,vu rr.x.w,vi rr.x.ofv,vu rr.y.w,vi rr.y.ofv,vs rr.l.p rr.l.n rr.l.c]
structure jK.OK (B:Nat) (H:zV) (rr:jK):Prop where
 dov:(intR .i64).ok B H rr.dov
 kind:(intR .i64).ok B H rr.kind
 n:(intR .i64).ok B H rr.n
 x:gI.ok B H rr.x
 y:gI.ok B H rr.y
 l:(slR 2 gI).ok B H rr.l
def j4:Rdr jK:=⟨jK.cells,jK.OK,λe h=>⟨(intR .i64).mono e h.dov,(intR .i64).mono e h.kind,(intR .i64).mono e h.n,gI.mono e h.x,gI.mono e h.y,(slR 2 gI).mono e h.l⟩⟩
set_option maxRecDepth 100000 in
theorem oY{p:Type}{d:TypeId×Value->p}{w:World}{b:Nat}{a:Nat->Bool}{c:Bool}{B:Nat}:Reads d prog w b a c B 68 j4:=λ{o y x} h G=>by
 have g:prog.cellsOf 68=8:=by kernel_rfl
 obtain⟨e,f⟩:=lT underlying68 h G
 rw[g]at e
 match y,e with
 | [a0,a1,a2,a3,a4,a5,a6,a7],_=>
  obtain⟨N,y0,i,Z⟩:=f 0 _ rfl
  have q:prog.cellsOf 3=1:=by kernel_rfl
  have z:([a0,a1,a2,a3,a4,a5,a6,a7].drop 0).take (prog.cellsOf 3)=[a0]:=by rw[q];rfl
  replace i:DataW.trod d prog w b a c N 3 [a0]=some y0:=by rw[<-z];exact i
  obtain⟨z0,H,T⟩:=(iG underlying3:Reads d prog w b a c B 3 (intR .i64)) i Z
  obtain⟨O,y1,j,s1⟩:=f 1 _ rfl
  have r:prog.cellsOf 3=1:=by kernel_rfl
  have A:([a0,a1,a2,a3,a4,a5,a6,a7].drop 1).take (prog.cellsOf 3)=[a1]:=by rw[r];rfl
  replace j:DataW.trod d prog w b a c O 3 [a1]=some y1:=by rw[<-A];exact j
  obtain⟨z1,I,U⟩:=(iG underlying3:Reads d prog w b a c B 3 (intR .i64)) j s1
  obtain⟨P,y2,k,s2⟩:=f 2 _ rfl
  have s:prog.cellsOf 3=1:=by kernel_rfl
  have C:([a0,a1,a2,a3,a4,a5,a6,a7].drop 2).take (prog.cellsOf 3)=[a2]:=by rw[s];rfl
  replace k:DataW.trod d prog w b a c P 3 [a2]=some y2:=by rw[<-C];exact k
  obtain⟨z2,J,V⟩:=(iG underlying3:Reads d prog w b a c B 3 (intR .i64)) k s2
  obtain⟨Q,y3,l,s3⟩:=f 3 _ rfl
  have t:prog.cellsOf 65=2:=by kernel_rfl
  have D:([a0,a1,a2,a3,a4,a5,a6,a7].drop 3).take (prog.cellsOf 65)=[a3,a4]:=by rw[t];rfl
  replace l:DataW.trod d prog w b a c Q 65 [a3,a4]=some y3:=by rw[<-D];exact l
  obtain⟨z3,K,W⟩:=(jd:Reads d prog w b a c B 65 gI) l s3
  obtain⟨R,y4,m,s4⟩:=f 4 _ rfl
  have u:prog.cellsOf 65=2:=by kernel_rfl
  have E:([a0,a1,a2,a3,a4,a5,a6,a7].drop 5).take (prog.cellsOf 65)=[a5,a6]:=by rw[u];rfl
  replace m:DataW.trod d prog w b a c R 65 [a5,a6]=some y4:=by rw[<-E];exact m
  obtain⟨z4,L,X⟩:=(jd:Reads d prog w b a c B 65 gI) m s4
  obtain⟨S,y5,n,s5⟩:=f 5 _ rfl
  have v:prog.cellsOf 66=1:=by kernel_rfl
  have F:([a0,a1,a2,a3,a4,a5,a6,a7].drop 7).take (prog.cellsOf 66)=[a7]:=by rw[v];rfl
  replace n:DataW.trod d prog w b a c S 66 [a7]=some y5:=by rw[<-F];exact n
  obtain⟨z5,M,Y⟩:=(jJ underlying66 (by kernel_rfl) (jd):Reads d prog w b a c B 66 (slR 2 gI)) n s5
  cases H
  cases I
  cases J
  cases K
  cases L
  cases M
  exact⟨⟨z0,z1,z2,z3,z4,z5⟩,rfl,⟨T,U,V,W,X,Y⟩⟩
section
variable {Hd:Type} {enc:TypeId×Value->Hd} {P:Program} {w:World} {base:Nat} {spare:Nat->Bool} {held:Bool} {B:Nat}
theorem sx{t e:TypeId}{n:Nat}(q:P.underlying t=some (.array n e)){b:Nat}{f:List Value}{x:DataW Hd×List MemPlace}(h:DataW.trod enc P w base spare held b t f=some x)(o:jU B x.1):
  f.length=P.cellsOf t/\ ∀i:Nat,i<n-> ∃(m:Nat) (y:DataW Hd×List MemPlace),DataW.trod enc P w base spare held m e ((f.drop (i*P.cellsOf e)).take (P.cellsOf e))=some y/\jU B y.1:=by
 cases b with
 | zero=>simp[DataW.trod]at h
 | succ k=>
  unfold DataW.trod at h
  rw[q]at h
  split at h<;>simp_all
  obtain⟨r,d,l,p⟩:=h
  subst p
  intro i c
  have a:=mapM_some_length l
  rw[List.length_range]at a
  have j:=mapM_some_get l i i (by simp[c])
  have g:d[i]?=some (d[i]'(by rw[a];exact c)):=List.getElem?_eq_getElem _
  rw[g]at j
  exact⟨k,(d[i]'(by rw[a];exact c)).1,⟨(d[i]'(by rw[a];exact c)).2,j⟩,o.part (List.mem_map.2 ⟨_,List.getElem_mem (by rw[a];exact c),rfl⟩)⟩
end
structure lU where
 a:jc
 b:jc
abbrev lU.cells(rr:lU):List Value:=[vu rr.a.w,vi rr.a.ofv,vu rr.b.w,vi rr.b.ofv]
def mU:Rdr lU:=⟨lU.cells,λB H rr=>gI.ok B H rr.a/\gI.ok B H rr.b,λe h=>⟨gI.mono e h.1,gI.mono e h.2⟩⟩
set_option maxRecDepth 100000 in
theorem qc{Hd:Type}{enc:TypeId×Value->Hd}{w:World}{base:Nat}{spare:Nat->Bool}{held:Bool}{B:Nat}:Reads enc prog w base spare held B 133 mU:=λ{c j x} h k=>by
 have b:prog.cellsOf 133=4:=by kernel_rfl
 obtain⟨a,g⟩:=sx (n:=2) (e:=65) underlying133 h k
 rw[b]at a
 have i:prog.cellsOf 65=2:=by kernel_rfl
 match j,a with
 | [a0,a1,a2,a3],_=>
  obtain⟨u,y,d,q⟩:=g 0 (by decide)
  obtain⟨v,z,f,r⟩:=g 1 (by decide)
  rw[i]at d f
  obtain⟨s,l,o⟩:=(jd:Reads enc prog w base spare held B 65 gI) d q
  obtain⟨t,m,p⟩:=(jd:Reads enc prog w base spare held B 65 gI) f r
  cases l
  cases m
  exact⟨⟨s,t⟩,rfl,⟨o,p⟩⟩
structure qV where
 acts:Sl jK
 guard:Sl lU
 symbols:Sl jc
 g:Int
 target:Int
 keep:Int
abbrev qV.cells(rr:qV):List Value:=[vs rr.acts.p rr.acts.n rr.acts.c,vs rr.guard.p rr.guard.n rr.guard.c,vs rr.symbols.p rr.symbols.n rr.symbols.c,vi rr.g,vi rr.target,.int .u32 rr.keep]
structure cG where
 acts:Sl jK
 guard:Sl lU
 g:Int
 target:Int
 keep:Int
abbrev cG.cells(rr:cG):List Value:=[vs rr.acts.p rr.acts.n rr.acts.c,vs rr.guard.p rr.guard.n rr.guard.c,vi rr.g,vi rr.target,.int .u32 rr.keep]
structure cG.OK (B:Nat) (H:zV) (rr:cG):Prop where
 acts:(slR 8 j4).ok B H rr.acts
 guard:(slR 4 mU).ok B H rr.guard
 g:(intR .i64).ok B H rr.g
 target:(intR .i64).ok B H rr.target
 keep:(intR .u32).ok B H rr.keep
def jy:Rdr cG:=⟨cG.cells,cG.OK,λe h=>⟨(slR 8 j4).mono e h.acts,(slR 4 mU).mono e h.guard,(intR .i64).mono e h.g,(intR .i64).mono e h.target,(intR .u32).mono e h.keep⟩⟩
set_option maxRecDepth 100000 in
theorem ms{o:Type}{d:TypeId×Value->o}{w:World}{b:Nat}{a:Nat->Bool}{c:Bool}{B:Nat}:Reads d prog w b a c B 62 jy:=λ{n u x} h D=>by
 have g:prog.cellsOf 62=5:=by kernel_rfl
 obtain⟨e,f⟩:=lT underlying62 h D
 rw[g]at e
 match u,e with
 | [a0,a1,a2,a3,a4],_=>
  obtain⟨J,Y,i,T⟩:=f 0 _ rfl
  have p:prog.cellsOf 58=1:=by kernel_rfl
  have v:([a0,a1,a2,a3,a4].drop 0).take (prog.cellsOf 58)=[a0]:=by rw[p];rfl
  replace i:DataW.trod d prog w b a c J 58 [a0]=some Y:=by rw[<-v];exact i
  obtain⟨z0,E,O⟩:=(jJ underlying58 (by kernel_rfl) (oY):Reads d prog w b a c B 58 (slR 8 j4)) i T
  obtain⟨K,Z,j,U⟩:=f 1 _ rfl
  have q:prog.cellsOf 59=1:=by kernel_rfl
  have y:([a0,a1,a2,a3,a4].drop 1).take (prog.cellsOf 59)=[a1]:=by rw[q];rfl
  replace j:DataW.trod d prog w b a c K 59 [a1]=some Z:=by rw[<-y];exact j
  obtain⟨z1,F,P⟩:=(jJ underlying59 (by kernel_rfl) (qc):Reads d prog w b a c B 59 (slR 4 mU)) j U
  obtain⟨L,y2,k,V⟩:=f 2 _ rfl
  have r:prog.cellsOf 3=1:=by kernel_rfl
  have z:([a0,a1,a2,a3,a4].drop 2).take (prog.cellsOf 3)=[a2]:=by rw[r];rfl
  replace k:DataW.trod d prog w b a c L 3 [a2]=some y2:=by rw[<-z];exact k
  obtain⟨z2,G,Q⟩:=(iG underlying3:Reads d prog w b a c B 3 (intR .i64)) k V
  obtain⟨M,y3,l,W⟩:=f 3 _ rfl
  have s:prog.cellsOf 3=1:=by kernel_rfl
  have A:([a0,a1,a2,a3,a4].drop 3).take (prog.cellsOf 3)=[a3]:=by rw[s];rfl
  replace l:DataW.trod d prog w b a c M 3 [a3]=some y3:=by rw[<-A];exact l
  obtain⟨z3,H,R⟩:=(iG underlying3:Reads d prog w b a c B 3 (intR .i64)) l W
  obtain⟨N,y4,m,X⟩:=f 4 _ rfl
  have t:prog.cellsOf 60=1:=by kernel_rfl
  have C:([a0,a1,a2,a3,a4].drop 4).take (prog.cellsOf 60)=[a4]:=by rw[t];rfl
  replace m:DataW.trod d prog w b a c N 60 [a4]=some y4:=by rw[<-C];exact m
  obtain⟨z4,I,S⟩:=(iG underlying60:Reads d prog w b a c B 60 (intR .u32)) m X
  cases E
  cases F
  cases G
  cases H
  cases I
  exact⟨⟨z0,z1,z2,z3,z4⟩,rfl,⟨O,P,Q,R,S⟩⟩
end Go.Proofs.YtfhbhckhmnleoaaGreat
namespace Go.Proofs.YtfhbhckhmnleoaaGreat
open Go
variable{d:Int}{H:zV}
theorem o9(c:Prop) [Decidable c] (d e:IntKind)(a b f g:Int):(if c then Value.tuple #[.int d a,.int e b]else .tuple #[.int d f,.int e g])=.tuple #[.int d (if c then a else f),.int e (if c then b else g)]:=by split<;>rfl
abbrev IsW(w:Int):Prop:=aC w
theorem hM(b:IsW d):fM.C d H (λv a=>v=vi (d % 8)/\Ext H a):=by
 refine fM.link ?_
 unfold fM.pt zY
 rw[lR 3 (by decide) b 7 (by decide),w64 (by omega)]
 exact⟨rfl,Ext.refl _⟩
theorem jA{f n:Nat}{b:Nat}(c:IsW d)(g:H[b]?=some (.cells #[vu d] 28 (0,0)))(i:f<=64)(hn:n<64):
  fo.C f n (some ⟨b,0,none⟩) H (λv e=>v=vu (d / 2 ^ f % 2 ^ n)/\Ext H e):=by
 refine fo.link ?_
 unfold fo.pt
 have l:(0:Int)<2 ^ f:=Int.pow_pos (by decide)
 have m:(0:Int)<2 ^ n:=Int.pow_pos (by decide)
 have j:(2:Nat) ^ n<=2 ^ 63:=Nat.pow_le_pow_right (by decide) (by omega)
 have a:((2 ^ n:Nat):Int)=(2:Int) ^ n:=by simp
 have o:0<=d / 2 ^ f:=Int.ediv_nonneg c.1 (Int.le_of_lt l)
 have h:d / 2 ^ f<=d:=Int.ediv_le_self _ c.1
 refine⟨_,rfl,d,by rw[aK g];rfl,by omega,by omega,?_⟩
 rw[lr (k:=.u64) (f:Int) f rfl i,ku (n:Int) n rfl (by omega)]
 rw[show(1*2 ^ n:Int) % 18446744073709551616=2 ^ n by rw[Int.one_mul];exact Int.emod_eq_of_lt (by omega) (by omega)]
 rw[wu64 (by omega),lR n hn (by omega) _ rfl]
 exact⟨rfl,Ext.refl _⟩
theorem ly(e:IsW d):gQ.C d H (λv i=>v=.tuple #[vi (d / 8 % 32),vi (d / 256 % 256),vu (d / 65536)]/\Ext H i):=by
 refine gQ.link ?_
 unfold gQ.pt zY
 intro b j q h
 have o:Ext H j:=Ext.push' h
 have c:=aO q h
 refine HC.mono (jA (f:=3) (n:=5) e c (by omega) (by omega)) ?_
 rintro _ r ⟨rfl,a⟩
 refine⟨_,rfl,?_⟩
 refine HC.mono (jA (f:=8) (n:=8) e (a.get c) (by omega) (by omega)) ?_
 rintro _ s ⟨rfl,g⟩
 refine⟨_,rfl,?_⟩
 refine HC.mono (jA (f:=16) (n:=48) e ((a.trans g).get c) (by omega) (by omega)) ?_
 rintro _ t ⟨rfl,p⟩
 refine⟨_,rfl,?_⟩
 have k:d / 2 ^ 3 % 2 ^ 5=d / 8 % 32:=rfl
 have l:d / 2 ^ 8 % 2 ^ 8=d / 256 % 256:=rfl
 have m:d / 2 ^ 16 % 2 ^ 48=d / 65536:=by
  show d / 65536 % 281474976710656=_
  omega
 rw[k,l,m,w64 (by omega),w64 (by omega)]
 exact⟨rfl,((o.trans a).trans g).trans p⟩
def jq(c:Int):Bool:=decide (c<=1114111) && (decide (c<55296) || decide (c>57343))
theorem nL:gX.C d H (λv a=>v=.bool (jq d)/\Ext H a):=gX.link ⟨rfl,Ext.refl _⟩
def lV(t:Int):Bool:=(decide (t>=1) && decide (t<=3)) || (t==6)
theorem lz:hC.C d H (λv a=>v=.bool (lV d)/\Ext H a):=hC.link ⟨rfl,Ext.refl _⟩
def mayW(w:Int):Bool:=
 if w % 8=0 then true
 else if w % 8=1\/w % 8=2\/w % 8=3\/w % 8=6 then decide (w / 8<65536)
 else if w % 8=4 then(if w / 8 % 32=7 then jq (w / 256)else decide (w / 8<=6))
 else if w % 8=5 then decide (1<=w / 8 % 32/\w / 8 % 32<=13/\w / 256 % 256<=62)
 else false
theorem ur(h:d % 8=0):mayW d=true:=by unfold mayW;rw[if_pos h]
theorem mY(h:d % 8=1\/d % 8=2\/d % 8=3\/d % 8=6):mayW d=decide (d / 8<65536):=by unfold mayW;rw[if_neg (by omega),if_pos h]
theorem qh(h:d % 8=4):mayW d=(if d / 8 % 32=7 then jq (d / 256)else decide (d / 8<=6)):=by unfold mayW;rw[if_neg (by omega),if_neg (by omega),if_pos h]
theorem sI(h:d % 8=5):mayW d=decide (1<=d / 8 % 32/\d / 8 % 32<=13/\d / 256 % 256<=62):=by unfold mayW;rw[if_neg (by omega),if_neg (by omega),if_neg (by omega),if_pos h]
theorem sJ(h:d % 8=7):mayW d=false:=by unfold mayW;rw[if_neg (by omega),if_neg (by omega),if_neg (by omega),if_neg (by omega)]
theorem mZ(l:IsW d):iz.C d H (λv m=>v=.bool (mayW d)/\Ext H m):=by
 refine HC.via λR b=>iz.link ?_
 unfold iz.pt
 refine HC.mono (ly l) ?_
 rintro _ s ⟨rfl,n⟩
 refine⟨_,_,_,rfl,?_⟩
 refine HC.mono (hM l) ?_
 rintro _ t ⟨rfl,o⟩
 refine⟨_,rfl,?_⟩
 have a:=n.trans o
 have q:ishr .u64 d 3=d / 8:=lr 3 3 rfl (by decide)
 have r:ishr .u64 d 8=d / 256:=lr 8 8 rfl (by decide)
 rw[q,r]
 by_cases f:d % 8=0
 ·rw[if_pos f];exact b _ _ ⟨by rw[ur f],a⟩
 rw[if_neg f]
 by_cases h:d % 8=1
 ·rw[if_pos h];exact b _ _ ⟨by rw[mY (by omega)],a⟩
 rw[if_neg h]
 by_cases i:d % 8=2
 ·rw[if_pos i];exact b _ _ ⟨by rw[mY (by omega)],a⟩
 rw[if_neg i]
 by_cases j:d % 8=3
 ·rw[if_pos j];exact b _ _ ⟨by rw[mY (by omega)],a⟩
 rw[if_neg j]
 by_cases k:d % 8=6
 ·rw[if_pos k];exact b _ _ ⟨by rw[mY (by omega)],a⟩
 rw[if_neg k]
 by_cases c:d % 8=4
 ·rw[if_pos c]
  by_cases e:d / 8 % 32=7
  ·rw[if_pos e]
   refine HC.mono nL ?_
   rintro _ u ⟨rfl,p⟩
   exact⟨_,rfl,b _ _ ⟨by rw[qh c,if_pos e],a.trans p⟩⟩
  ·rw[if_neg e];exact b _ _ ⟨by rw[qh c,if_neg e],a⟩
 rw[if_neg c]
 by_cases g:d % 8=5
 ·rw[if_pos g]
  refine b _ _ ⟨?_,a⟩
  rw[sI g]
  congr 1
  rw[Bool.eq_iff_iff]
  simp
  omega
 ·rw[if_neg g];exact b _ _ ⟨by rw[sJ (by omega)],a⟩
def signed(w:Int):Int:=if w>=9223372036854775808 then w-18446744073709551616 else w
theorem iH(g:IsW d):fS.C d H (λv h=>v=(if(d % 8=1\/d % 8=2\/d % 8=3\/d % 8=6)/\d / 8<65536 then .tuple #[vi (d / 8),vT]else .tuple #[vi 0,vF])/\Ext H h):=by
 refine fS.link ?_
 unfold fS.pt zY
 refine HC.mono (hM g) ?_
 rintro _ l ⟨rfl,i⟩
 refine⟨_,rfl,?_⟩
 refine HC.mono lz ?_
 rintro _ m ⟨rfl,j⟩
 refine⟨_,rfl,?_⟩
 have a:=i.trans j
 have k:ishr .u64 d 3=d / 8:=lr 3 3 rfl (by decide)
 split
 ·rename_i b
  have c:d % 8=1\/d % 8=2\/d % 8=3\/d % 8=6:=by unfold lV at b;simp at b;omega
  refine HC.mono (mZ g) ?_
  rintro _ n ⟨rfl,f⟩
  refine⟨_,rfl,?_⟩
  have hm:mayW d=decide (d / 8<65536):=by
   unfold mayW
   rw[if_neg (by omega),if_pos c]
  rw[hm,k]
  split
  ·rename_i e
   refine⟨?_,a.trans f⟩
   rw[if_pos ⟨c,by simpa using e⟩,w64 (by omega)]
  ·rename_i e
   refine⟨?_,a.trans f⟩
   rw[if_neg (by simp at e;omega)]
 ·rename_i b
  refine⟨?_,a⟩
  rw[if_neg]
  unfold lV at b
  simp at b
  omega
theorem jV{a:Int}(n: -9223372036854775808<=d/\d<=9223372036854775807)(m: -9223372036854775808<=a/\a<=9223372036854775807):
  il.C d a H (λv k=>v=(if ¬(d=1\/d=2\/d=3\/d=6)then .tuple #[vu 0,vi 1]else if 0<=a/\a<65536 then .tuple #[vu (a*8+d),vi 0]else .tuple #[vu 0,vi 18])/\Ext H k):=by
 refine HC.via λR i=>il.link ?_
 unfold il.pt
 refine HC.mono lz ?_
 rintro _ l ⟨rfl,g⟩
 refine⟨_,rfl,?_⟩
 by_cases b:lV d=true
 ·rw[if_pos b]
  have c:d=1\/d=2\/d=3\/d=6:=by unfold lV at b;simp at b;omega
  by_cases f:(decide (a<0) || decide (a>=65536))=true
  ·rw[if_pos f]
   refine i _ _ ⟨?_,g⟩
   rw[if_neg (λh=>h c),if_neg (by simp at f;omega)]
  ·rw[if_neg f]
   have j:0<=a/\a<65536:=by simp at f;omega
   refine i _ _ ⟨?_,g⟩
   rw[if_neg (λh=>h c),if_pos j,wu64 (by omega),wu64 (by omega),ku 3 3 rfl (by decide)]
   have e:a*2 ^ 3 % 18446744073709551616=a*8:=by show a*8 % _=_;omega
   rw[e,mz 3 (by omega) (by show a*8 % 8=0;omega) (by show 0<=d/\d<8;omega) (by decide)]
 ·rw[if_neg b]
  refine i _ _ ⟨?_,g⟩
  rw[if_pos]
  unfold lV at b
  simp at b
  omega
theorem kP{n a:Int}(hk: -9223372036854775808<=d/\d<=9223372036854775807)(hn: -9223372036854775808<=n/\n<=9223372036854775807)(hm:IsW a):
  gm.C d n a H (λv b=>v=(if(1<=d/\d<=13)/\(0<=n/\n<=62)/\a<281474976710656 then .tuple #[vu (a*65536+n*256+d*8+5),vi 0]else .tuple #[vu 0,vi 1])/\Ext H b):=by
 refine gm.link ?_
 unfold gm.pt
 split
 ·rename_i h
  refine⟨?_,Ext.refl _⟩
  rw[if_neg]
  simp at h
  omega
 ·rename_i h
  have g:(1<=d/\d<=13)/\(0<=n/\n<=62)/\a<281474976710656:=by simp at h;omega
  refine⟨?_,Ext.refl _⟩
  rw[if_pos g,wu64 (by omega),wu64 (by omega),ku 16 16 rfl (by decide),ku 8 8 rfl (by decide),ku 3 3 rfl (by decide)]
  have c:a*2 ^ 16 % 18446744073709551616=a*65536:=by show a*65536 % _=_;omega
  have e:n*2 ^ 8 % 18446744073709551616=n*256:=by show n*256 % _=_;omega
  have f:d*2 ^ 3 % 18446744073709551616=d*8:=by show d*8 % _=_;omega
  rw[c,e,f,mz (x:=a*65536) 16 (by omega) (by show a*65536 % 65536=0;omega) (by show 0<=n*256/\n*256<65536;omega) (by decide),
   mz (x:=a*65536+n*256) 8 (by omega) (by show(a*65536+n*256) % 256=0;omega) (by show 0<=d*8/\d*8<256;omega) (by decide),
   mz (x:=a*65536+n*256+d*8) 3 (by omega) (by show(a*65536+n*256+d*8) % 8=0;omega) (by decide) (by decide)]
theorem pb(c:IsW d):ir.C d H (λv f=>v=(if d % 8=5/\(1<=d / 8 % 32/\d / 8 % 32<=13/\d / 256 % 256<=62)then .tuple #[vi (d / 8 % 32),vi (d / 256 % 256),vu (d / 65536),vT]else .tuple #[vi 0,vi 0,vu 0,vF])/\Ext H f):=by
 refine ir.link ?_
 unfold ir.pt
 refine HC.mono (hM c) ?_
 rintro _ i ⟨rfl,a⟩
 refine⟨_,rfl,?_⟩
 split
 ·refine HC.mono (mZ c) ?_
  rintro _ j ⟨rfl,e⟩
  refine⟨_,rfl,?_⟩
  have hm:mayW d=decide (1<=d / 8 % 32/\d / 8 % 32<=13/\d / 256 % 256<=62):=by
   unfold mayW
   rw[if_neg (by omega),if_neg (by omega),if_neg (by omega),if_pos (by omega)]
  rw[hm]
  split
  ·rename_i b
   refine HC.mono (ly c) ?_
   rintro _ k ⟨rfl,g⟩
   refine⟨_,_,_,rfl,?_,(a.trans e).trans g⟩
   rw[if_pos ⟨by omega,of_decide_eq_true b⟩]
  ·rename_i b
   refine⟨?_,a.trans e⟩
   rw[if_neg]
   rintro⟨_,h⟩
   exact b (zX h)
 ·refine⟨?_,a⟩
  rw[if_neg (by omega)]
