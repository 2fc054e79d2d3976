/-
 From a walk over heaps to the row of a law: it answers true, and whatever lay there lies as it lay. Proves nothing of any one statement.
-/
import Derived.Test.YtfhbhckhmnleoaaGreatRows
import Derived.WalkKit
import Derived.ProofKit
import Derived.SizedLaws
import Derived.OpenShut
import Derived.ShutString
import Derived.JoinedCond
import Derived.Test.YtfhbhckhmnleoaaGreatOwn
import Derived.Test.YtfhbhckhmnleoaaGreatRef01
import Derived.Test.YtfhbhckhmnleoaaGreatGcB
import Derived.Test.YtfhbhckhmnleoaaGreatWords
import Derived.Test.YtfhbhckhmnleoaaGreatFweak
import Derived.Test.YtfhbhckhmnleoaaGreatTrF
set_option linter.unusedVariables false
set_option linter.unusedSimpArgs false
namespace Go.Proofs.YtfhbhckhmnleoaaGreat
open Go Go.Proofs.Tryz
open Go.ChangeShapes Go.WideShapes Go.ChangeAt Go.RowKit
variable{H b:zV}{a:IntKind}
theorem pT:ownKnob prog.godebug=none:=by kernel_rfl
theorem laidOut:laidOutB prog=true:=by kernel_rfl
theorem iX{H:Type}{enc:TypeId×Value->H}{P:Program}(i:laidOutB P=true){W f:World}(g:Below W.heap.size W f):
  ∀{a:List TypeId} {vs:List Value} {c:List (DataW H)} {ps:List MemPlace},(∀t∈a,P.readableRec t=true/\t<P.types.size)->DataW.TrodAll enc P W 0 (λ_=>true) true a vs c ps->(∀x∈ps,x.block<W.heap.size)->
   DataW.TrodAll enc P f 0 (λb=>decide (b<W.heap.size)) true a vs c ps
 | [],[],[],_,_,h,_=>h
 | [],[],_::_,_,_,h,_=>h.elim
 | [],_::_,_,_,_,h,_=>h.elim
 | _::_,[],_,_,_,h,_=>h.elim
 | _::_,_::_,[],_,_,h,_=>h.elim
 | t::a,v::vs,d::c,ps,hr,h,hlt=>by
  obtain⟨p,q,j,k,rfl⟩:=h
  exact⟨p,q,Below.trod i (hr t (List.mem_cons_self ..)).1 (hr t (List.mem_cons_self ..)).2 j g (λx e=>hlt x (List.mem_append_left _ e)),
   iX i g (λu l=>hr u (List.mem_cons_of_mem _ l)) k (λx e=>hlt x (List.mem_append_right _ e)),rfl⟩
theorem o7{H:Type}{enc:TypeId×Value->H}{P:Program}{fn:Func}{s:ChangeSpec}{W o:World}{args:Array Value}{f h:List (DataW H)}{c:List MemPlace}{u:TypeId}
  (y:laidOutB P=true) (b:s.vars=[]) (e: ∀t∈fn.params.toList,P.readableRec t=true/\t<P.types.size) (n:fn.resultTypes= #[u]) (d:P.underlying u=some .bool)
  (a:s.fn H f={results:=[.lit (.bool true)],args:=f})
  (j:DataW.Whole enc P fn.params.toList s.vars false W args.toList f h c) (r:Below W.heap.size W o):
  s.post enc P fn false true false false W args vT o:=by
 have k:=j
 have m:=j.lt
 obtain⟨p,q,v,i,rfl,_,_⟩:=j
 have l:h=[]/\q=[]:=by
  rw[b]at i
  cases h with
  | nil=>exact⟨rfl,i⟩
  | cons g h=>exact i.elim
 obtain⟨rfl,rfl⟩:=l
 refine⟨f,[],p++[],[],p,[],k,?_,?_,?_,r.frame _,by simp⟩
 ·rw[List.append_nil,a,n]
  exact trodAll_cons_mk (shut_bool d _) trodAll_mk0
 ·rw[List.append_nil,a]
  exact iX y r e v (λx z=>m x (List.mem_append_left _ z))
 ·rw[List.append_nil,a,b]
  rfl
set_option maxRecDepth 100000 in
theorem nA{L:Os}(d:L.Started){H:Type}{enc:TypeId×Value->H}{f:FuncId}{fn:Func}{s:ChangeSpec}{tb:TypeId}
  (l:Tryz.checked.prog.inits.idxOf? f=none) (G:prog.funcs[f]?=some fn)
  (k: ∃(w:World) (c:Tape) (i:Input),w.os=L/\(w.forCall c i).Shaped Tryz.checked.prog/\i.vars=[]/\Input.okWide Tryz.checked.prog (w.forCall c i) .any w.heap.size f i/\
   s.pre6 enc Tryz.checked.prog fn [] false (w.forCall c i).memory i.args/\Assume.holds {} Tryz.checked.prog (lone (Frame.enter Tryz.checked.prog f i.args .normal) [] (w.forCall c i)))
  (b:s.vars=[]) (r:(fn.params.toList.all λt=>prog.readableRec t && decide (t<prog.types.size))=true) (J:fn.resultTypes= #[tb]) (m:prog.underlying tb=some .bool)
  (n: ∀a:List (DataW H),a.length=fn.params.size->s.fn H a={results:=[.lit (.bool true)],args:=a})
  (A: ∀(W:World) (base:Nat) (args:Array Value) (a:List (DataW H)) (p:List MemPlace),
   (∀(j:Nat) t v,fn.params[j]?=some t->args[j]?=some v->Value.okWide prog W .any base t v)->
   DataW.TrodAll enc prog W 0 (λ_=>true) true fn.params.toList args.toList a p->
   (DataW.weightsEach prog fn.params.toList a).all (· <=reachBytes)=true->
   HC prog f args W.heap (λv R=>v=vT/\Ext W.heap R)):
  ReturnsInHanded {} Tryz.checked L f .any (s.pre6 enc prog fn [] false) (s.post enc prog fn false true false false):=by
 refine returnsInHanded_of_change_sized (C:=Tryz.checked) pT d l G k ?_
 intro W base args a E D y O _ u _
 have F:=O
 obtain⟨p,q,M,N,rfl,_,_⟩:=O
 have I:E=[]:=by
  rw[b]at N
  cases E with
  | nil=>rfl
  | cons g E=>exact N.elim
 subst I
 have o:a.length=fn.params.size:=by
  have: ∀(z:List TypeId) (vs:List Value) (a:List (DataW H)) (ps:List MemPlace),DataW.TrodAll enc prog W 0 (λ_=>true) true z vs a ps->a.length=z.length:=by
   intro z
   induction z with
   | nil=>intro vs a ps h;cases vs<;>cases a<;>first | rfl | exact h.elim
   | cons t z X=>intro vs a ps h;cases vs<;>cases a<;>first | exact h.elim | (obtain⟨p,q,_,S,_⟩:=h;simp[X _ _ _ S])
  simpa using this _ _ _ _ M
 have x:(DataW.weightsEach prog fn.params.toList a).all (· <=reachBytes)=true:=by
  have e:s.plain.varTypes prog=[]:=by unfold ChangeSpec.plain DataSpec.varTypes;simp[b]
  rw[List.append_nil]at u
  have:=u
  rw[show fn.params.toList++s.plain.varTypes Tryz.checked.prog=fn.params.toList by rw[show s.plain.varTypes Tryz.checked.prog=[]from e,List.append_nil]]at this
  exact this
 refine(A W base args a p y M x W rfl).mono λe Y ⟨v,T,K,V,Q⟩=>?_
 subst V
 refine⟨_,T,o7 laidOut b (λt U=>?_) J m (n a o) F ⟨K.os,K.tape,K.output,Q.size,Q.old⟩⟩
 have:=List.all_eq_true.1 r t U
 rw[Bool.and_eq_true]at this
 exact⟨this.1,of_decide_eq_true this.2⟩
theorem wf_i64{n:Int}(h:(Lit.int .i64 n).wf=true): -9223372036854775808<=n/\n<=9223372036854775807:=by
 simp only[Lit.wf,Bool.and_eq_true,decide_eq_true_eq]at h
 exact h
open Go.ChangeShapes Go.WideShapes
inductive Shape where
 | int (k:IntKind)
 | bool
 | str
 | slice (sz:Nat) (e:Shape)
 | pair (n:Nat) (a b:Shape)
 | unit
def Rd(B:Nat)(H:zV):Shape->List Value->Prop
 | .int k,cs=> ∃n,cs=[.int k n]/\(Lit.int k n).wf=true
 | .bool,cs=> ∃b,cs=[.bool b]
 | .str,cs=> ∃s:ByteArray,cs=[.string s]/\s.size<=B
 | .slice sz e,cs=> ∃p n c,cs=[.slice p n c]/\n<=c/\n<=B/\(p=none->n=0)/\ ∀a,p=some a-> ∀i,i<n-> ∃vs,vs.length=sz/\aS H (a.add (i*sz)) 0 vs/\Rd B H e vs
 | .pair n a b,cs=>Rd B H a (cs.take n)/\Rd B H b (cs.drop n)
 | .unit,cs=>cs=[]
def kQ{Hd:Type}(B:Nat)(d:DataW Hd):Prop:=B=maxLen\/Rows.uptoBulk d<=B
theorem ox{Hd:Type}{d:DataW Hd}{l:List (DataW Hd)}(h:d∈l):Rows.uptoBulk d<=Rows.uptoBulkAll l:=by
 induction l with
 | nil=>cases h
 | cons x r a=>
  simp only[Rows.uptoBulkAll]
  cases List.mem_cons.1 h with
  | inl e=>subst e;omega
  | inr e=>have:=a e;omega
theorem o8{Hd:Type}(d:DataW Hd):1<=Rows.uptoBulk d:=by
 cases d with
 | lit l=>cases l<;>simp[Rows.uptoBulk]
 | nil=>simp[Rows.uptoBulk]
 | ptr d=>simp[Rows.uptoBulk]
 | slice b spare=>simp[Rows.uptoBulk]
 | agg c=>simp[Rows.uptoBulk]
 | iface t d=>simp[Rows.uptoBulk]
 | map a=>simp[Rows.uptoBulk]
 | held h=>simp[Rows.uptoBulk]
theorem o9{Hd:Type}(l:List (DataW Hd)):l.length<=Rows.uptoBulkAll l:=by
 induction l with
 | nil=>simp[Rows.uptoBulkAll]
 | cons x r a=>have:=o8 x;simp only[Rows.uptoBulkAll,List.length_cons];omega
theorem kQ.elem{Hd:Type}{B:Nat}{a sp:List (DataW Hd)}(h:kQ B (.slice a sp)){d:DataW Hd}(b:d∈a):kQ B d:=by
 rcases h with h | h
 ·exact .inl h
 ·have:=ox b;simp only[Rows.uptoBulk]at h;exact .inr (by omega)
section
variable {Hd:Type} {enc:TypeId×Value->Hd} {P:Program} {w:World} {base:Nat} {spare:Nat->Bool} {held:Bool} {B:Nat}
theorem qK{t:TypeId}(f:P.underlying t=some (.int a)){b:Nat}{c:List Value}{x:DataW Hd×List MemPlace}(h:DataW.trod enc P w base spare held b t c=some x)(_:kQ B x.1):Rd B w.heap (.int a) c:=by
 obtain⟨n,d,_,e⟩:=DataW.trod_int f h
 exact⟨n,d,e⟩
theorem kR{a:Addr}{n:Nat}{b:List Value}(h:w.cells? base a n=some b):b.length=n/\aS w.heap a 0 b:=by
 obtain⟨_,d,e⟩:=World.cells?_some h
 refine⟨d,ii λj v c=>?_⟩
 have f:j<b.length:=by
  rcases Nat.lt_or_ge j b.length with h | h
  ·exact h
  ·simp[List.getElem?_eq_none h]at c
 rw[Nat.zero_add,<-ko,e j (by omega),c]
theorem pb{t e:TypeId}{y:Nat}{E:Shape}(G:P.underlying t=some (.slice e))(D:P.cellsOf e=y)(C: ∀{c:Nat} {f:List Value} {x:DataW Hd×List MemPlace},DataW.trod enc P w base spare held c e f=some x->kQ B x.1->Rd B w.heap E f)
  {c:Nat} {f:List Value} {x:DataW Hd×List MemPlace} (h:DataW.trod enc P w base spare held c t f=some x) (j:kQ B x.1):Rd B w.heap (.slice y E) f:=by
 rcases DataW.trod_slice G h with⟨z,_⟩ | ⟨a,r,g,b,v,n,_,A,H,_,u,hm,d,l,_⟩
 ·exact⟨none,0,0,z,Nat.le_refl _,Nat.zero_le _,λ_=>rfl,λa k=>by cases k⟩
 ·rw[H]at j
  refine⟨some a,r,g,A,u,?_,(λh=>by cases h),λI k i s=>?_⟩
  ·rcases j with h | h
   ·rw[h];exact Nat.le_trans u hm
   ·simp only[Rows.uptoBulk]at h
    have:=o9 (b.map (·.1))
    rw[List.length_map,d]at this
    omega
  cases k
  have:=l i s
  rw[D]at this
  have F:b[i]?=some b[i]:=by simp[d,s]
  rw[F]at this
  obtain⟨vs,m,o⟩:=Option.bind_eq_some_iff.1 this
  obtain⟨p,q⟩:=kR m
  exact⟨vs,p,q,C o (j.elem (List.mem_map.2 ⟨_,List.getElem_mem _,rfl⟩))⟩
end
theorem mI{α:Type}{n:Nat}{Q:Nat->α->Prop}(h: ∀i,i<n-> ∃y,Q i y): ∃L:List α,L.length=n/\ ∀i (a:i<L.length),Q i L[i]:=by
 induction n with
 | zero=>exact⟨[],rfl,λi a=>by simp at a⟩
 | succ n f=>
  obtain⟨L,b,d⟩:=f (λi a=>h i (by omega))
  obtain⟨y,e⟩:=h n (by omega)
  refine⟨L++[y],by simp[b],λi a=>?_⟩
  by_cases c:i<L.length
  ·rw[List.getElem_append_left c];exact d i c
  ·have:i=L.length:=by simp at a;omega
   subst this
   rw[List.getElem_append_right (Nat.le_refl _)]
   simpa[b]using e
theorem oy(a:Addr):a.add 0=a:=by unfold Addr.add;cases a;split<;>simp_all
structure Nums (H:zV) (k:IntKind) (p:zW) (n:Nat) (xs:List Int):Prop where
 len:xs.length=n
 src:ec H p (xs.map (Value.int k))
 wf: ∀x∈xs,(Lit.int k x).wf=true
theorem Nums.ext{k:IntKind}{p:zW}{n:Nat}{c:List Int}(h:Nums H k p n c)(e:Ext H b):Nums b k p n c:=by
 refine⟨h.len,?_,h.wf⟩
 cases p with
 | none=>exact h.src
 | some a=>exact e.rowAt h.src
theorem Nums.at{H:zV}{k:IntKind}{p:zW}{n:Nat}{b:List Int}(h:Nums H k p n b){i:Nat}(c:i<b.length): ∃a,p=some a/\hat H (a.add (i*1))=some (.int k b[i]):=by
 cases p with
 | none=>have:b.map (Value.int k)=[]:=h.src;simp at this;subst this;simp at c
 | some a=>
  refine⟨a,rfl,?_⟩
  have:=fC (show aS H a 0 _ from h.src) i (.int k b[i]) (by simp[c])
  rw[Nat.zero_add]at this;rw[Nat.mul_one];exact this
theorem pU{B:Nat}{d:List Value}(h:Rd B H (.slice 1 (.int a)) d): ∃p n c u,d=[.slice p n c]/\Nums H a p n u/\n<=B:=by
 obtain⟨p,n,c,rfl,hn,g,m,s⟩:=h
 cases p with
 | none=>exact⟨none,n,c,[],rfl,⟨by rw[m rfl];rfl,rfl,by simp⟩,g⟩
 | some z=>
  obtain⟨L,r,f⟩:=mI (n:=n) (Q:=λi (x:Int)=>hat H (z.add i)=some (.int a x)/\(Lit.int a x).wf=true) (λi b=>by
   obtain⟨vs,y,o,x,rfl,q⟩:=s z rfl i b
   refine⟨x,?_,q⟩
   have:=o.1
   rw[oy,Nat.mul_one]at this
   exact this)
  refine⟨some z,n,c,L,rfl,⟨r,?_,λx t=>?_⟩,g⟩
  ·refine ii λj v l=>?_
   rw[Nat.zero_add]
   have k:j<L.length:=by
    rcases Nat.lt_or_ge j L.length with h | h
    ·exact h
    ·simp[List.getElem?_eq_none h]at l
   have e:v=.int a L[j]:=by simpa[k]using l.symm
   rw[e];exact(f j k).1
  ·obtain⟨i,b,rfl⟩:=List.getElem_of_mem t
   exact(f i b).2
structure nB where
 p:zW
 n:Nat
 c:Nat
 xs:List Int
structure mJ (B:Nat) (H:zV) (k:IntKind) (p:zW) (n:Nat) (L:List nB):Prop where
 len:L.length=n
 src:ec H p (L.map λy=>Value.slice y.p y.n y.c)
 each: ∀y∈L,Nums H k y.p y.n y.xs/\y.n<=B
theorem mJ.ext{B:Nat}{k:IntKind}{p:zW}{n:Nat}{L:List nB}(h:mJ B H k p n L)(e:Ext H b):mJ B b k p n L:=by
 refine⟨h.len,?_,λy c=>⟨(h.each y c).1.ext e,(h.each y c).2⟩⟩
 cases p with
 | none=>exact h.src
 | some a=>exact e.rowAt h.src
theorem mJ.at{B:Nat}{H:zV}{k:IntKind}{p:zW}{n:Nat}{L:List nB}(h:mJ B H k p n L){i:Nat}(b:i<L.length): ∃a,p=some a/\hat H (a.add (i*1))=some (.slice L[i].p L[i].n L[i].c)/\Nums H k L[i].p L[i].n L[i].xs/\L[i].n<=B:=by
 cases p with
 | none=>have:L.map (λy=>Value.slice y.p y.n y.c)=[]:=h.src;simp at this;subst this;simp at b
 | some a=>
  refine⟨a,rfl,?_,h.each _ (List.getElem_mem _)⟩
  have:=fC (show aS H a 0 _ from h.src) i (.slice L[i].p L[i].n L[i].c) (by simp[b])
  rw[Nat.zero_add]at this;rw[Nat.mul_one];exact this
section
variable {Hd:Type} {enc:TypeId×Value->Hd} {P:Program} {w:World} {base:Nat} {spare:Nat->Bool} {held:Bool} {B:Nat}
theorem oz{r:Go.Reach}{j:Nat}{t e:TypeId}{v:Value}{d:DataW Hd}{ps:List MemPlace}(i:P.underlying t=some (.slice e))(s:P.underlying e=some (.int a))(o:P.cellsOf e=1)(m:kQ B d)(b:Value.okWide P w r j t v)(q:DataW.Trod enc P w base spare held t v d ps):
  ∃p n c f,v=vs p n c/\Nums w.heap a p n f/\n<=B:=by
 obtain⟨y,x,k,rfl⟩:=okWide_slice i b
 obtain⟨g,u⟩:=q
 obtain⟨p,n,c,f,h,l⟩:=pU (pb i o (qK s) u m)
 simp[Value.cells]at h
 obtain⟨rfl,rfl,rfl⟩:=h
 exact⟨_,_,_,f,rfl,l⟩
end
open Go.ChangeShapes Go.WideShapes
structure Rdr (α:Type)where
 cells:α->List Value
 ok:Nat->zV->α->Prop
 mono: ∀{B:Nat} {H H':zV} {y:α},Ext H H'->ok B H y->ok B H' y
structure Sl (α:Type)where
 p:zW
 n:Nat
 c:Nat
 xs:List α
structure SlOK {α:Type} (sz:Nat) (r:Rdr α) (B:Nat) (H:zV) (s:Sl α):Prop where
 len:s.xs.length=s.n
 le:s.n<=B
 cap:s.n<=s.c
 row: ∀(i:Nat) (h:i<s.xs.length),∃a,s.p=some a/\aS H (a.add (i*sz)) 0 (r.cells s.xs[i])
 each: ∀y∈s.xs,r.ok B H y
theorem SlOK.ext{α:Type}{c:Nat}{r:Rdr α}{B:Nat}{s:Sl α}(h:SlOK c r B H s)(e:Ext H b):SlOK c r B b s:=
 ⟨h.len,h.le,h.cap,λi g=>by obtain⟨a,d,f⟩:=h.row i g;exact⟨a,d,e.rowAt f⟩,λy j=>r.mono e (h.each y j)⟩
section
variable {Hd:Type} {enc:TypeId×Value->Hd} {P:Program} {w:World} {base:Nat} {spare:Nat->Bool} {held:Bool} {B:Nat}
end
end Go.Proofs.YtfhbhckhmnleoaaGreat
namespace Go.Proofs.YtfhbhckhmnleoaaGreat
open Go
open Go.ChangeShapes Go.WideShapes
structure mK where
 w:Int
 ofv:Int
abbrev mK.cells(rr:mK):List Value:=[vu rr.w,vi rr.ofv]
structure qp where
 dov:Int
 kind:Int
 n:Int
 x:mK
 y:mK
 l:Sl mK
abbrev qp.cells(rr:qp):List Value:=[vi rr.dov,vi rr.kind,vi rr.n,vu rr.x.w,vi rr.x.ofv,vu rr.y.w,vi rr.y.ofv,vs rr.l.p rr.l.n rr.l.c]
end Go.Proofs.YtfhbhckhmnleoaaGreat
namespace Go.Proofs.YtfhbhckhmnleoaaGreat
open Go
theorem OfIs.none{w k t a x m:Int}(h:OfIs w k t a x m):k=0 ↔ mayW w=false:=by
 unfold OfIs at h
 unfold mayW
 rcases h with h | h | h | h | h | h
 ·rw[if_pos h.1];exact⟨λe=>by omega,λe=>by simp at e⟩
 ·rw[if_neg (by omega),if_pos h.1,zX h.2.1];exact⟨λe=>by omega,λe=>by simp at e⟩
 ·rw[if_neg (by omega),if_neg (by omega),if_pos h.1,if_neg (by omega),zX (by omega)];exact⟨λe=>by omega,λe=>by simp at e⟩
 ·rw[if_neg (by omega),if_neg (by omega),if_pos h.1,if_pos h.2.1,h.2.2.1];exact⟨λe=>by omega,λe=>by simp at e⟩
 ·rw[if_neg (by omega),if_neg (by omega),if_neg (by omega),if_pos h.1,zX h.2.1];exact⟨λe=>by omega,λe=>by simp at e⟩
 ·exact⟨λ_=>h.1,λ_=>h.2.1⟩
structure Went (H H':zV) (b:Blk) (x:Hp) (sz:Int->Nat) (x':Hp) (sz':Int->Nat):Prop where
 view:View H' (some ⟨b.h,0,none⟩) (some (b,x'))
 inv:Inv x'.sp sz'
 lift:Lift x.sp.mem sz x'.sp.mem sz'
 cf:x'.sp.cf=x.sp.cf
 fr:Fr [b.sp,b.m,b.s] H H'
theorem Went.ext{H c:zV}{b:Blk}{x:Hp}{a:Int->Nat}(V:View H (some ⟨b.h,0,none⟩) (some (b,x)))(I:Inv x.sp a)(e:Ext H c):Went H c b x a x a:=⟨V.ext e,I,Lift.refl _ _,rfl,e.fr⟩
theorem Went.trans{A B C:zV}{b:Blk}{x y z:Hp}{f g h:Int->Nat}(p:Went A B b x f y g)(q:Went B C b y g z h):Went A C b x f z h:=⟨q.view,q.inv,p.lift.trans q.lift,q.cf.trans p.cf,p.fr.trans q.fr⟩
structure Act (H H':zV) (b:Blk) (x:Hp) (sz:Int->Nat) (mB:zW) (made:List Int) (x':Hp) (sz':Int->Nat) (B':zW) (c':Nat) (made':List Int):Prop where
 view:View H' (some ⟨b.h,0,none⟩) (some (b,x'))
 inv:Inv x'.sp sz'
 cf:x'.sp.cf=x.sp.cf
 fr:Fr ([b.sp,b.m,b.s]++blks mB) H H'
 own:Own H' 28 1 B' made'.length c' (wvs made')
 good: ∀w∈made',aB w/\Good x'.sp.mem sz' w
 len:made'.length<=made.length+1
 blk: ∀j∈blks B',j∈blks mB\/H.size<=j
 news:made'=made\/ ∃w,made'=made++[w]/\w ∉ made/\isTag w
variable{a:Mem}
@[irreducible] def tops:Nat:=65536
theorem nW:tops=65536:=by unfold tops;rfl
def Mem.cnt(m:Mem)(p:Int->Bool):Nat:=(List.range tops).countP λx:Nat=>decide (m.used x) && p x
theorem Mem.words_to(m:Mem)(d:aU m)(a:List Int): ∀k,k<=m.limit->m.sumN (m.takenTo a k)=((List.range (64*k)).countP λx:Nat=>decide (m.used x) && decide (a=[]\/m.gAt x∈a):Nat)
 | 0,_=>rfl
 | k+1,h=>by
  have hn:=(d.seg k).n
  have p:=(d.seg k).taken
  rw[Mem.takenTo_succ,jT,Mem.words_to m d a k (by omega),show 64*(k+1)=64*k+64 by omega,List.range_add,List.countP_append,List.countP_map]
  have e: ∀i:Nat,i<64->((decide (m.used ((64*k+i:Nat):Int)) && decide (a=[]\/m.gAt ((64*k+i:Nat):Int)∈a))=(decide (0< (m.seg k).taken/\(a=[]\/(m.seg k).gen∈a)) && inR 0 (m.seg k).n.toNat i)):=λi c=>by
   have f:(((64*k+i:Nat):Int) / 64).toNat=k:=by omega
   have g:((64*k+i:Nat):Int) % 64=i:=by omega
   have l:m.gAt ((64*k+i:Nat):Int)=(m.seg k).gen:=by unfold Mem.gAt;rw[f]
   have o:m.used ((64*k+i:Nat):Int) ↔ 0< (m.seg k).taken/\(i:Int)< (m.seg k).n:=by
    unfold Mem.used Mem.has
    rw[f,g]
    exact⟨λq=>⟨by omega,by omega⟩,λq=>⟨by omega,⟨by omega,by omega,by omega⟩,by omega⟩⟩
   rw[Bool.eq_iff_iff]
   unfold inR
   simp only[Bool.and_eq_true,decide_eq_true_eq]
   rw[o,l]
   exact⟨λq=>⟨⟨q.1.1,q.2⟩,by omega,by omega⟩,λq=>⟨⟨q.1.1,by omega⟩,q.1.2⟩⟩
  have j:(List.range 64).countP ((λx:Nat=>decide (m.used x) && decide (a=[]\/m.gAt x∈a)) ∘ λx=>64*k+x)=if 0< (m.seg k).taken/\(a=[]\/(m.seg k).gen∈a)then(m.seg k).n.toNat else 0:=by
   rw[List.countP_congr (q:=λi=>decide (0< (m.seg k).taken/\(a=[]\/(m.seg k).gen∈a)) && inR 0 (m.seg k).n.toNat i) (λi c=>by
    rw[List.mem_range]at c
    show((decide (m.used ((64*k+i:Nat):Int)) && decide (a=[]\/m.gAt ((64*k+i:Nat):Int)∈a))=true) ↔ _
    rw[e i c])]
   by_cases b:0< (m.seg k).taken/\(a=[]\/(m.seg k).gen∈a)
   ·rw[if_pos b]
    simp only[zX b,Bool.true_and]
    exact ji (by omega) 64 _ (by omega)
   ·rw[if_neg b]
    simp only[zQ b,Bool.false_and]
    exact List.countP_eq_zero.2 (λ_ _=>by simp)
  rw[j]
  by_cases b:0< (m.seg k).taken/\(a=[]\/(m.seg k).gen∈a)
  ·rw[if_pos b,if_pos b]
   simp[Mem.sumN];omega
  ·rw[if_neg b,if_neg b]
   simp[Mem.sumN]
theorem Mem.words_cnt(c:aU a)(b:List Int):a.words b=(a.cnt λx=>decide (b=[]\/a.gAt x∈b):Nat):=by
 unfold Mem.words Mem.cnt
 have f:=c.lim
 rw[Mem.words_to a c b _ (Nat.le_refl _)]
 congr 1
 have g:=nW
 rw[show tops=64*a.limit+(tops-64*a.limit)by omega]
 refine(iJ _ _ _ (λi d e=>?_)).symm
 rw[Bool.and_eq_false_iff]
 left
 refine zQ λq=>?_
 have:=q.2.1.2.1
 omega
def Mem.above(m:Mem)(g:Int):Nat:=m.cnt λx=>decide (g<m.gAt x)
theorem de.all{l:List Nat}(h:de a [] l)(b:aU a){k:Int}(hk:a.has k):k.toNat∈l:=by
 refine h.perm.mem_iff.2 ?_
 unfold Mem.takenTo
 rw[List.mem_filter,List.mem_range]
 obtain⟨c,d,e⟩:=hk
 have:=(b.seg k.toNat).taken
 refine⟨by omega,?_⟩
 simp
 omega
structure Alls (m:Mem) (all:List Int):Prop where
 nodup:all.Nodup
 good: ∀w∈all,aB w/\m.sizeOf w≠0
theorem oA{w:Int}(h:a.sizeOf w≠0):dK w:=by
 unfold Mem.sizeOf at h
 by_cases c:a.isPair w
 ·rcases c.1 with q | q<;>exact q.1
 ·rw[if_neg c]at h
  by_cases b:a.isObj w
  ·exact b.1.1
  ·rw[if_neg b]at h;exact absurd rfl h
theorem Alls.len{m:Mem}{c:List Int}(h:Alls m c):c.length<=524288:=by
 have d:=iO (λ_=>1) 524288 c h.nodup (λa f=>by
  obtain⟨i,j⟩:=h.good a f
  have:=(oA j).2
  exact⟨i.1,by show a+1<=524288;omega⟩) (λa _ b _ g=>by show a+1<=b;omega)
 have e:(c.map λ_=>1).sum=c.length:=by
  induction c with
  | nil=>rfl
  | cons a l _=>simp[List.map_const'];omega
 rw[e]at d
 rw[d]
 exact Nat.le_trans List.countP_le_length (by rw[List.length_range];exact Nat.le_refl _)
theorem pc{α:Type}(f:α->Nat){l a:List α}(h:l.Perm a):(l.map f).sum=(a.map f).sum:=by
 induction h with
 | nil=>rfl
 | cons x _ d=>simp only[List.map_cons,List.sum_cons,d]
 | swap x y l=>simp only[List.map_cons,List.sum_cons];omega
 | trans _ _ b c=>exact b.trans c
structure St (H0 H:zV) (b:Blk) (x:Hp) (sz:Int->Nat) (mB:zW) (mC:Nat) (made:List Int):Prop where
 e:Ext H0 H
 view:View H (some ⟨b.h,0,none⟩) (some (b,x))
 inv:Inv x.sp sz
 own:Own H 28 1 mB made.length mC (wvs made)
 good: ∀w∈made,aB w/\Good x.sp.mem sz w
 hb: ∀j∈b.all,H0.size<=j
 hm: ∀j∈blks mB,H0.size<=j/\j ∉ b.all
theorem St.ext{H0 H c:zV}{b:Blk}{x:Hp}{g:Int->Nat}{d:zW}{f:Nat}{a:List Int}(h:St H0 H b x g d f a)(e:Ext H c):St H0 c b x g d f a:=
 ⟨h.e.trans e,h.view.ext e,h.inv,h.own.ext e,h.good,h.hb,h.hm⟩
theorem St.blt{c H:zV}{b:Blk}{x:Hp}{g:Int->Nat}{e:zW}{f:Nat}{a:List Int}(h:St c H b x g e f a): ∀j∈b.all,j<H.size:=by
 obtain⟨-,d,-⟩:=h.view.inv
 exact d.lt
def Sp.visL(O:Nat->Bool)(T:Int)(s:Sp)(l:List Int):Sp×List Int:=l.foldl (λst w=>((st.1.visit O T w).1,st.2++[(st.1.visit O T w).2])) (s,[])
def brk(O:Nat->Bool)(m:Mem)(a:Int):Mem:=if aE O (m.read a)then m.wr a 44 else m
theorem mL(O:Nat->Bool)(m:Mem)(a:Int):aT m (brk O m a):=by
 unfold brk
 split
 ·exact aT.wr m a 44
 ·exact aT.refl m
theorem qL{s:Sp}(b:SpOK s)(O:Nat->Bool)(a:Int):SpOK {s with mem:=brk O s.mem a}:=by
 unfold brk
 split
 ·exact b.wr a (by decide)
 ·exact b
theorem lP(O:Nat->Bool): ∀(l:List Int) (m:Mem),aT m (l.foldl (brk O) m)
 | [],m=>aT.refl m
 | a::l,m=>(mL O m a).trans (lP O l _)
theorem nX(O:Nat->Bool): ∀(l:List Int) {s:Sp},SpOK s->SpOK {s with mem:=l.foldl (brk O) s.mem}
 | [],s,ok=>ok
 | a::l,s,ok=>nX O l (qL ok O a)
variable{a:Tr}{b:Mem}
theorem eY{k b x:Int}{n:Nat}:x∈fj k b n ↔ ∃j:Nat,j<n/\x=k*64+(b+2*(j:Int)):=by
 unfold fj
 rw[List.mem_map]
 constructor
 ·rintro⟨j,a,rfl⟩;rw[List.mem_range]at a;exact⟨j,a,rfl⟩
 ·rintro⟨j,a,rfl⟩;exact⟨j,by rw[List.mem_range];exact a,rfl⟩
theorem lQ(O:Nat->Bool): ¬aE O 44:=λh=>by have:=h.1.1;omega
theorem pV{O:Nat->Bool}{a x:Int}(f:b.used x):(brk O b a).get x=if x=a/\aE O (b.get x)then 44 else b.get x:=by
 have h:=f.1
 unfold brk
 by_cases e:x=a
 ·subst e
  have i:b.read x=b.get x:=by unfold Mem.read;rw[if_pos f]
  rw[i]
  by_cases c:aE O (b.get x)
  ·rw[if_pos c,if_pos ⟨rfl,c⟩]
   unfold Mem.wr;rw[if_pos f,Mem.set_get x h h,if_pos rfl]
  ·rw[if_neg c,if_neg (λq=>c q.2)]
 ·rw[if_neg (show ¬(x=a/\aE O (b.get x))from λq=>e q.1)]
  split
  ·unfold Mem.wr
   by_cases d:b.used a
   ·rw[if_pos d,Mem.set_get x h d.1,if_neg e]
   ·rw[if_neg d]
  ·rfl
theorem kS(O:Nat->Bool): ∀(l:List Int) {m:Mem} {x:Int},m.used x->(l.foldl (brk O) m).get x=if x∈l/\aE O (m.get x)then 44 else m.get x
 | [],m,x,hx=>by rw[if_neg (λq=>by simp at q)];rfl
 | a::l,m,x,hx=>by
  have b:=kS O l (m:=brk O m a) ((mL O m a).used.2 hx)
  show(l.foldl (brk O) (brk O m a)).get x=_
  rw[b,pV hx]
  by_cases e:x=a/\aE O (m.get x)
  ·rw[if_pos e,if_neg (λq=>lQ O q.2),if_pos ⟨by rw[e.1];simp,e.2⟩]
  ·rw[if_neg e]
   by_cases h:x∈l/\aE O (m.get x)
   ·rw[if_pos h,if_pos ⟨by simp[h.1],h.2⟩]
   ·rw[if_neg h,if_neg (λq=>?_)]
    rcases List.mem_cons.1 q.1 with r | r
    ·exact e ⟨r,q.2⟩
    ·exact h ⟨r,q.2⟩
theorem fu{b a:Int}{j:Nat}:j<dX b a ↔ b+2*(j:Int)<a:=by
 unfold dX;omega
section
variable {Z:TZ} {g F0:Int} {fw:Int->Option Int} {al:List Int} {s:Sp} {sz:Int->Nat}
theorem fh.frmAt(B:fh Z.m g Z.T a){k:Int}(hk:0<=k):seenAt a.frm k=if Z.m.has k/\(Z.m.seg k.toNat).gen=Z.T then(Z.m.seg k.toNat).n else 0:=by
 unfold seenAt
 rw[B.frm k hk]
 by_cases h:Z.m.has k/\(Z.m.seg k.toNat).gen=Z.T
 ·rw[if_pos h,if_pos h]
 ·rw[if_neg h,if_neg h]
theorem lR(S:aO Z g F0)(t:Tri Z F0 fw al s sz)(B:fh Z.m g Z.T a){l:List Nat}(z:de s.mem [Z.T] l): ∀H∈s.mem.weaks a l,s.mem.kAt H=1/\H % 2=0/\H<=1000000:=by
 intro H o
 have p:=t.ok.mem.lim
 unfold Mem.weaks at o
 rcases List.mem_append.1 o with h | h
 ·obtain⟨k,hk,h⟩:=List.mem_flatMap.1 h
  obtain⟨r,u,_,_⟩:=z.has hk
  have i:((k:Nat):Int).toNat=k:=by omega
  unfold Mem.weakSeg at h
  by_cases b:(s.mem.seg k).kind=1/\a.old k=false
  case neg=>rw[if_neg b]at h;simp at h
  rw[if_pos b]at h
  obtain⟨j,d,rfl⟩:=eY.1 h
  rw[fu]at d
  have hn:=(t.ok.mem.seg k).n
  have x:=B.frmAt (k:=k) (by omega)
  have w:seenAt a.frm k % 2=0/\0<=seenAt a.frm k:=by
   rw[x,i]
   by_cases q:Z.m.has k/\(Z.m.seg k).gen=Z.T
   ·rw[if_pos q]
    have A:=(t.heads.seg k (by have:=q.1.2.2;rw[i]at this;exact this)).2.1
    exact⟨S.even k (by rw[<-A,b.1];decide),(S.ok.seg k).n.1⟩
   ·rw[if_neg q];exact⟨rfl,Int.le_refl _⟩
  refine⟨?_,by omega,by omega⟩
  unfold Mem.kAt
  rw[show((k:Int)*64+(seenAt a.frm k+2*(j:Int))) / 64=k by omega,i];exact b.1
 ·obtain⟨c,b,h⟩:=List.mem_flatMap.1 h
  obtain⟨v,C,D,E⟩:=B.cardOf S c b
  have e:=t.heads.has v
  have f:s.mem.segOr c.1=s.mem.seg c.1.toNat:=by unfold Mem.segOr;rw[if_pos e]
  unfold Mem.weakCard at h
  rw[f]at h
  by_cases hk:(s.mem.seg c.1.toNat).kind=1
  case neg=>rw[if_neg hk]at h;simp at h
  rw[if_pos hk]at h
  obtain⟨j,d,rfl⟩:=eY.1 h
  rw[fu]at d
  have hn:=(t.ok.mem.seg c.1.toNat).n
  have F:=e.1
  have G:=e.2.1
  have y:c.2*16+2*(j:Int)< (s.mem.seg c.1.toNat).n/\c.2*16+2*(j:Int)< (c.2+1)*16:=by omega
  refine⟨?_,by omega,by omega⟩
  unfold Mem.kAt
  rw[show(c.1*64+(c.2*16+2*(j:Int))) / 64=c.1 by omega];exact hk
theorem lS(S:aO Z g F0)(t:Tri Z F0 fw al s sz)(hm:hC Z.m)(B:fh Z.m g Z.T a)(E:a.old=Z.O){l:List Nat}(G:de s.mem [Z.T] l){x v:Int}(d:s.mem.used x)(D:Z.O (x / 64).toNat=false)(hk:s.mem.kAt x=1)(Q:x % 2=0)(J:Was Z fw x v)(c:aE Z.O v):x∈s.mem.weaks a l:=by
 have C:=t.ok.mem.lim
 have M:=d.1
 have R:=d.2.1.2.1
 unfold Mem.weaks
 rcases J with I | ⟨_,⟨e,A,o⟩ | ⟨U,b,i,e,A,o,N⟩⟩
 ·exact absurd c (t.qok x v I).young
 ·subst o
  have h:Z.m.kAt x=1:=by rw[<-(t.kAt e).1];exact hk
  have F:=B.dirty S hm e D (by rw[h];decide) c (S.sound.good x e (by rw[h];decide))
  refine List.mem_append_right _ (List.mem_flatMap.2 ⟨_,F,?_⟩)
  have y:s.mem.segOr (x / 64)=s.mem.seg (x / 64).toNat:=by unfold Mem.segOr;rw[if_pos d.2.1]
  unfold Mem.weakCard
  rw[y,if_pos hk]
  have hn:=d.2.2
  refine eY.2 ⟨((x % 64 % 16) / 2).toNat,?_,?_⟩
  ·rw[fu]
   show x % 64 / 16*16+2*((((x % 64 % 16) / 2).toNat:Nat):Int)<min (s.mem.seg (x / 64).toNat).n ((x % 64 / 16+1)*16)
   omega
  ·show x=x / 64*64+(x % 64 / 16*16+2*((((x % 64 % 16) / 2).toNat:Nat):Int))
   omega
 ·have z:=(t.img U b e).2
  have P:=z.fit
  have j:x / 64=b / 64:=by omega
  have f:(s.mem.seg (x / 64).toNat).gen=Z.T:=by rw[j];exact z.gen
  have u:(x / 64).toNat∈l:=by
   refine G.perm.mem_iff.2 ?_
   unfold Mem.takenTo
   rw[List.mem_filter,List.mem_range]
   have:=d.2.1.2.2
   have:=(t.ok.mem.seg (x / 64).toNat).taken
   refine⟨by omega,?_⟩
   simp only[Bool.and_eq_true,decide_eq_true_eq,Bool.or_eq_true,List.mem_singleton]
   exact⟨by omega,.inr f⟩
  refine List.mem_append_left _ (List.mem_flatMap.2 ⟨_,u,?_⟩)
  unfold Mem.weakSeg
  rw[if_pos ⟨hk,by rw[E];exact D⟩]
  have L:(((x / 64).toNat:Nat):Int)=x / 64:=by omega
  rw[L]
  have p:=B.frmAt (k:=x / 64) (by omega)
  have w: ¬Z.m.used x:=by rw[o];exact z.new i A
  have H:seenAt a.frm (x / 64) % 2=0/\0<=seenAt a.frm (x / 64)/\seenAt a.frm (x / 64)<=x % 64:=by
   rw[p]
   by_cases q:Z.m.has (x / 64)/\(Z.m.seg (x / 64).toNat).gen=Z.T
   ·rw[if_pos q]
    have K:=(t.heads.seg (x / 64).toNat q.1.2.2).2.1
    refine⟨S.even _ (by rw[<-K];show s.mem.kAt x<=1;rw[hk];decide),(S.ok.seg _).n.1,?_⟩
    rcases Int.lt_or_le (x % 64) (Z.m.seg (x / 64).toNat).n with r | r
    ·exact absurd ⟨M,q.1,r⟩ w
    ·exact r
   ·rw[if_neg q];exact⟨rfl,Int.le_refl _,by omega⟩
  have hn:=d.2.2
  refine eY.2 ⟨((x % 64-seenAt a.frm (x / 64)) / 2).toNat,?_,?_⟩
  ·rw[fu];omega
  ·omega
theorem Broke.of{tr:Tr}(S:aO Z g F0)(t:Tri Z F0 fw al s sz)(hm:hC Z.m)(B:fh Z.m g Z.T tr)(o:tr.old=Z.O){l:List Nat}(f:de s.mem [Z.T] l):Broke Z fw s {s with mem:=(s.mem.weaks tr l).foldl (brk Z.O) s.mem}:=by
 refine⟨lP _ _ _,rfl,nX _ _ t.ok,λx d i p=>?_,λx d i hk u=>?_⟩
 ·show((s.mem.weaks tr l).foldl (brk Z.O) s.mem).get x=_
  rw[kS _ _ d,if_neg (λq=>?_)]
  obtain⟨k,n,_⟩:=lR S t B f x q.1
  exact p ⟨k,n⟩
 ·show((s.mem.weaks tr l).foldl (brk Z.O) s.mem).get x=44\/ ∀v,Was Z fw x v->Dn Z.O fw v/\((s.mem.weaks tr l).foldl (brk Z.O) s.mem).get x=Fw Z.O fw v
  rw[kS _ _ d]
  by_cases q:x∈s.mem.weaks tr l/\aE Z.O (s.mem.get x)
  ·rw[if_pos q];exact .inl rfl
  ·rw[if_neg q]
   right
   intro v j
   have a:s.mem.get x=v:=by
    rcases t.val x v j with r | ⟨r,_⟩
    ·exact r
    ·have:=r.2.resolve_left (λe=>e hk);omega
   have b: ¬aE Z.O v:=λc=>q ⟨lS S t hm B o f d i hk u j c,by rw[a];exact c⟩
   exact⟨λh=>absurd h b,by rw[ee b];exact a⟩
theorem Tri.visL(S:aO Z g F0): ∀(l:List Int) {fw:Int->Option Int} {al:List Int} {s:Sp} {sz:Int->Nat} {acc:List Int} (t:Tri Z F0 fw al s sz),(∀w∈l,Z.V w)-> ∃b d j,Tri Z F0 b d (l.foldl (λ(c:Sp×List Int) w=>((c.1.visit Z.O Z.T w).1,c.2++[(c.1.visit Z.O Z.T w).2])) (s,acc)).1 j/\Le fw b/\
  (l.foldl (λ(c:Sp×List Int) w=>((c.1.visit Z.O Z.T w).1,c.2++[(c.1.visit Z.O Z.T w).2])) (s,acc)).2=acc++l.map (Fw Z.O b)/\ ∀w∈l,Dn Z.O b w
 | [],fw,al,s,sz,acc,t,_=>⟨fw,al,sz,t,Le.refl _,by simp,λw h=>by cases h⟩
 | w::l,fw,al,s,sz,acc,t,h=>by
  have n:=h w (by simp)
  obtain⟨y,z⟩:=S.V w n
  obtain⟨q,o,v,V⟩:=t.visit S y z (λr=> .root n r)
  obtain⟨f,e,k,x,i,u,p⟩:=Tri.visL S l (acc:=acc++[(s.visit Z.O Z.T w).2]) V.tri (λm a=>h m (by simp[a]))
  refine⟨f,e,k,x,V.le.trans i,?_,λm a=>?_⟩
  ·simp only[List.foldl_cons]
   rw[u,V.val,<-gK V.dn i]
   simp
  ·rcases List.mem_cons.1 a with rfl | a
   ·exact V.dn.mono i
   ·exact p m a
end
theorem Sp.look_cf(s:Sp)(old:Nat->Bool)(T seg a b:Int): ∀n,(s.look old T seg a b n).cf=s.cf
 | 0=>rfl
 | n+1=>by
  unfold Sp.look
  split
  ·rw[Sp.lookAt_cf,Sp.look_cf s old T seg a b n]
  ·exact Sp.look_cf s old T seg a b n
theorem Sp.visL_cf(O:Nat->Bool)(T:Int)(s:Sp)(l:List Int):(s.visL O T l).1.cf=s.cf:=by
 have: ∀(l:List Int) (a:Sp×List Int),(l.foldl (λa w=>((a.1.visit O T w).1,a.2++[(a.1.visit O T w).2])) a).1.cf=a.1.cf:=λl=>by
  induction l with
  | nil=>intro a;rfl
  | cons w l b=>intro a;simp only[List.foldl_cons];rw[b];exact Sp.visit_cf _ _ _ _
 exact this l (s,[])
theorem Sp.lookCards_cf(old:Nat->Bool)(T:Int): ∀(l:List (Int×Int)) (s:Sp),(s.lookCards old T l).cf=s.cf
 | [],s=>rfl
 | c::l,s=>by
  show((s.lookCard old T c).lookCards old T l).cf=_
  rw[Sp.lookCards_cf old T l]
  exact Sp.look_cf _ _ _ _ _ _ _
theorem jK{old:Nat->Bool}{T:Int}{a s:Sp}{c d:List (Int×Value)}(h:dd old T a c s d):s.cf=a.cf:=by
 induction h with
 | refl=>rfl
 | step k _ hk e f hn b=>rw[Sp.look_cf,b]
theorem nC{s:Sp}(c:SpOK s)(b:s.mem.Even)(t:Tr):(s.ended t).mem.Even:=by
 obtain⟨_,a⟩:=Sp.gives_seg s t.old 1024
 obtain⟨u,_⟩:=Sp.agains_spec t.cards (Sp.gives_ok c t.old 1024)
 intro k
 show((s.gives t.old 1024).agains t.cards |>.mem.seg k).kind<=1->_
 obtain⟨f,d,e,_⟩:=u.seg k
 show(((s.gives t.old 1024).agains t.cards).mem.seg k).kind<=1->(((s.gives t.old 1024).agains t.cards).mem.seg k).n % 2=0
 rw[d,e,a k]
 split
 ·intro _;rfl
 ·exact b k
theorem mM(c:aU b){g:Int}(d:0<=g):(List.range 1024).countP (λk=>b.young g k)=b.nyoung g:=by
 have m:=c.lim
 have a:bK g≠[]:=λh=>by
  have:(0:Int)∈bK g:=gY.2 ⟨Int.le_refl _,d⟩
  rw[h]at this;cases this
 unfold Mem.nyoung Mem.takenTo
 rw[<-List.countP_eq_length_filter,show(1024:Nat)=b.limit+(1024-b.limit)by omega,iJ _ _ _ (λi j l=>?_)]
 ·refine List.countP_congr λk hk=>?_
  rw[List.mem_range]at hk
  have f:=(c.seg k).taken
  have e:=(c.seg k).gen
  unfold Mem.young Mem.has
  simp only[decide_eq_true_eq,Bool.and_eq_true,Bool.or_eq_true,List.isEmpty_iff,a,false_or,gY]
  rw[show((k:Nat):Int).toNat=k by omega]
  exact⟨λq=>⟨by omega,by omega⟩,λq=>⟨⟨by omega,by omega,by omega⟩,by omega⟩⟩
 ·unfold Mem.young
  refine zQ λq=>?_
  have:=q.1.2.1
  omega
theorem pd{Z:TZ}{g:Int}(f:aU Z.m)(d:0<=g)(c: ∀k:Nat,k<1024->Z.O k=Z.m.young g k):(Z.yk 0:Int)+Z.yk 1+Z.yk 2+Z.yk 3<=Z.m.nyoung g:=by
 rw[<-mM f d]
 have h:Z.yk 0+Z.yk 1+Z.yk 2+Z.yk 3<=(List.range 1024).countP (λk=>Z.m.young g k):=by
  unfold TZ.yk
  rw[<-gZ,<-gZ,<-gZ]
  ·refine List.countP_mono_left λk hk h=>?_
   rw[List.mem_range]at hk
   rw[<-c k hk]
   cases e:Z.O k with
   | true=>rfl
   | false=>rw[e]at h;simp at h
  all_goals
   intro x _ a b
   simp only[Bool.and_eq_true,Bool.or_eq_true,decide_eq_true_eq]at a b
   simp[b.2]at a
 omega
theorem fh.frmOK{g T:Int}(h:fh b g T a)(d:aU b):dx a.frm:=by
 intro k v c
 rcases Int.lt_or_le k 0 with hk | hk
 ·rw[h.frm0 k hk]at c;cases c
 rw[h.frm k hk]at c
 split at c
 ·cases c
  exact⟨_,rfl,(d.seg _).n⟩
 ·cases c
theorem ph{l:List Nat}{T:Int}(p:aU b)(t:dx a.frm)(e:jx a.cards)(r:de b [T] l): ∀u∈b.weaks a l,u<=1000000:=by
 intro u i
 have m:=p.lim
 unfold Mem.weaks at i
 rcases List.mem_append.1 i with h | h
 ·obtain⟨k,hk,h⟩:=List.mem_flatMap.1 h
  obtain⟨_,o,_,_⟩:=r.has hk
  unfold Mem.weakSeg at h
  by_cases d:(b.seg k).kind=1/\a.old k=false
  case neg=>rw[if_neg d]at h;simp at h
  rw[if_pos d]at h
  obtain⟨j,f,rfl⟩:=eY.1 h
  rw[fu]at f
  have hn:=(p.seg k).n
  omega
 ·obtain⟨c,d,h⟩:=List.mem_flatMap.1 h
  have q:=e c d
  unfold Mem.weakCard at h
  by_cases hk:(b.segOr c.1).kind=1
  case neg=>rw[if_neg hk]at h;simp at h
  rw[if_pos hk]at h
  obtain⟨j,f,rfl⟩:=eY.1 h
  rw[fu]at f
  omega
theorem iz{H:zV}{b:Blk}{x:Hp}{q:TB}{t:Tr}(T:Tc H b x q t):eP.C (some ⟨q.t,0,none⟩) H (λv a=>v=.bool t.over/\a=H):=by
 refine HC.via λR c=>eP.link ?_
 unfold eP.pt
 rw[onPtr_some]
 have h:cO.C (some ⟨q.t,0,none⟩) H (λv a=>v=.bool t.over/\a=H):=by
  refine HC.via λR c=>cO.link ?_
  unfold cO.pt
  refine HC.mono (gL T) ?_
  rintro _ _ ⟨rfl,rfl⟩
  exact⟨_,rfl,c _ _ ⟨rfl,rfl⟩⟩
 refine HC.mono h ?_
 rintro _ _ ⟨rfl,rfl⟩
 exact⟨_,rfl,c _ _ ⟨rfl,rfl⟩⟩
variable{a:Mem}{b:Tr}
section
variable {Z:TZ} {g F0:Int} {fw:Int->Option Int} {al:List Int} {s:Sp} {sz:Int->Nat}
theorem dy.words{Y:Sp}(t:dy Z g F0 fw al sz b s Y a)(Q:Z.P=[])(V:aU a):a.words []=(Z.m.above g:Int)+((al.map Z.sz).sum:Nat):=by
 have S:=t.S
 have U:=nW
 rw[Mem.words_cnt V]
 have A: ∀a4∈al,∃a5,fw a4=some a5:=λa4 r=>(t.tri.al a4).1 r
 let F:=al.filterMap fw
 have v: ∀a5,a5∈F ↔ ∃a4,fw a4=some a5:=λa5=>by
  show a5∈al.filterMap fw ↔ _
  rw[List.mem_filterMap]
  constructor
  ·rintro⟨a4,_,h⟩;exact⟨a4,h⟩
  ·rintro⟨a4,h⟩;exact⟨a4,(t.tri.al a4).2 ⟨a5,h⟩,h⟩
 have y: ∀l:List Int,(∀a4∈l,∃a5,fw a4=some a5)->((l.filterMap fw).map sz).sum=(l.map Z.sz).sum:=λl=>by
  induction l with
  | nil=>intro _;rfl
  | cons a4 l D=>
   intro h
   obtain⟨a5,A⟩:=h a4 (by simp)
   rw[List.filterMap_cons_some A]
   simp only[List.map_cons,List.sum_cons,D (λx u=>h x (by simp[u])),(t.tri.img a4 a5 A).1]
 have H: ∀l:List Int,l.Nodup->(l.filterMap fw).Nodup:=λl=>by
  induction l with
  | nil=>intro _;exact List.nodup_nil
  | cons a4 l D=>
   intro h
   rw[List.nodup_cons]at h
   cases B:fw a4 with
   | none=>rw[List.filterMap_cons_none B];exact D h.2
   | some a5=>
    rw[List.filterMap_cons_some B,List.nodup_cons]
    refine⟨λq=>?_,D h.2⟩
    rw[List.mem_filterMap]at q
    obtain⟨L,W,X⟩:=q
    have:=t.tri.inj a4 L a5 B X
    exact h.1 (this▸W)
 have d: ∀a5∈F,sz a5≠0/\ ∀i:Nat,i<sz a5->s.mem.used (a5+i)/\ ¬Z.m.used (a5+i)/\Z.O ((a5+(i:Int)) / 64).toNat=false:=λa5 c=>by
  obtain⟨a4,r⟩:=(v a5).1 c
  obtain⟨e,E⟩:=t.tri.img a4 a5 r
  have I:=(t.tri.olds.mem a4 ((t.tri.al a4).2 ⟨a5,r⟩)).1
  refine⟨by rw[e];exact I,λi j=>?_⟩
  rw[e]at j
  have B:=E.fit
  exact⟨E.here i j,E.new i j,by rw[show(a5+(i:Int)) / 64=a5 / 64 by omega];exact E.out⟩
 have w: ∀a5∈F,∀x:Nat,inR a5 (sz a5) x=true-> ∃i:Nat,i<sz a5/\(x:Int)=a5+i:=λa5 c x u=>by
  unfold inR at u
  rw[decide_eq_true_eq]at u
  exact⟨((x:Int)-a5).toNat,by omega,by omega⟩
 rw[<-y al A,iO sz tops (al.filterMap fw) (H al t.tri.olds.nodup) (λa5 c=>?_) (λa4 r a5 c G=>t.tri.apart a4 a5 (d a4 r).1 (d a5 c).1 G)]
 ·unfold Mem.above Mem.cnt
  rw[<-Int.natCast_add,<-gZ]
  ·congr 1
   refine List.countP_congr λx u=>?_
   rw[List.mem_range]at u
   simp only[Bool.and_eq_true,Bool.or_eq_true,decide_eq_true_eq,true_or,and_true]
   rw[t.used]
   constructor
   ·rintro⟨C,N⟩
    rcases t.tri.cover x C with n | ⟨a4,a5,i,o,z,h3⟩ | ⟨p,K,_⟩
    ·left
     refine⟨n,?_⟩
     have k:=S.lt n
     rcases Int.lt_or_le g (Z.m.gAt x)with q | q
     ·exact q
     ·have:=(S.old _ k.1).2 ⟨by rw[show((((x:Int) / 64).toNat:Nat):Int)=(x:Int) / 64 by omega];exact n.2.1,q⟩
      rw[N]at this;cases this
    ·right
     rw[List.any_eq_true]
     refine⟨a5,(v a5).2 ⟨a4,o⟩,?_⟩
     unfold inR
     rw[decide_eq_true_eq,(t.tri.img a4 a5 o).1]
     omega
    ·rw[Q]at K;cases K
   ·rintro(⟨n,R⟩ | f)
    ·have k:=S.lt n
     refine⟨t.tri.heads.used n,?_⟩
     by_cases q:Z.O ((x:Int) / 64).toNat=true
     ·have:=((S.old _ k.1).1 q).2
      have:g< (Z.m.seg ((x:Int) / 64).toNat).gen:=R
      omega
     ·simpa using q
    ·rw[List.any_eq_true]at f
     obtain⟨a5,c,m⟩:=f
     obtain⟨i,j,e⟩:=w a5 c x m
     obtain⟨u1,u2,u3⟩:=(d a5 c).2 i j
     rw[e];exact⟨u1,u3⟩
  ·intro x _ o z
   simp only[Bool.and_eq_true,decide_eq_true_eq]at o
   rw[List.any_eq_true]at z
   obtain⟨a5,c,m⟩:=z
   obtain⟨i,j,e⟩:=w a5 c x m
   have:=((d a5 c).2 i j).2.1
   rw[<-e]at this
   exact this o.1
 ·obtain⟨n,C⟩:=d a5 c
  have M:=(C 0 (by omega)).1
  have T:=(C (sz a5-1) (by omega)).1
  have J:=t.tri.ok.mem.lim
  have o:=M.1
  have z:=T.2.1.2.1
  exact⟨by omega,by omega⟩
theorem dy.empty{z:Sp}(t:dy Z g F0 fw al sz b s z a)(v:Z.P=[])(y:aU a){k:Int}(hk:k<=g)(w:k≠Z.T):a.words [k]=0:=by
 have S:=t.S
 rw[Mem.words_cnt y]
 unfold Mem.cnt
 have:(List.range tops).countP (λx:Nat=>decide (a.used x) && decide ([k]=[]\/a.gAt x∈[k]))=0:=by
  rw[List.countP_eq_zero]
  intro x _
  simp only[Bool.and_eq_true,decide_eq_true_eq,List.mem_singleton,List.cons_ne_self,false_or,reduceCtorEq]
  rintro⟨m,d⟩
  have c:=(t.kind m).2
  obtain⟨h,u⟩:=t.used.1 m
  rcases t.tri.cover x h with j | ⟨C,D,i,q,A,r⟩ | ⟨p,l,_⟩
  ·have f:=S.lt j
   have:=(S.old _ f.1).2 ⟨by rw[show((((x:Int) / 64).toNat:Nat):Int)=(x:Int) / 64 by omega];exact j.2.1,by
    have e:=(t.tri.kAt j).2
    have:(Z.m.seg ((x:Int) / 64).toNat).gen=k:=by
     have o:Z.m.gAt x=k:=by rw[<-e,<-c];exact d
     exact o
    omega⟩
   rw[u]at this;cases this
  ·have n:=(t.tri.img C D q).2
   have B:=n.fit
   have:s.mem.gAt x=Z.T:=by
    unfold Mem.gAt
    rw[r,show(D+(i:Int)) / 64=D / 64 by omega];exact n.gen
   rw[c,this]at d
   exact w d.symm
  ·rw[v]at l;cases l
 rw[this];rfl
end
def brkR(O:Nat->Bool)(m:Mem)(a:Int):Mem:=if aE O (m.read a)then m.wr a ((m.fwd (m.read a)).getD 44)else m
theorem lT(b:aU a)(w:Int):aB ((a.fwd w).getD 44):=by
 unfold Mem.fwd
 split
 ·have:=(b.seg (w / 8 / 64).toNat).words (w / 8 % 64).toNat
  have h:aB (a.get (w / 8)):=(b.seg _).words _
  unfold aB at h⊢
  show 0<=a.get (w / 8) / 8*8+w % 8/\_
  simp only[Option.getD_some]
  omega
 ·decide
theorem io(O:Nat->Bool)(m:Mem)(a:Int):aT m (brkR O m a):=by
 unfold brkR
 split
 ·exact aT.wr m a _
 ·exact aT.refl m
theorem pW{s:Sp}(b:SpOK s)(O:Nat->Bool)(a:Int):SpOK {s with mem:=brkR O s.mem a}:=by
 unfold brkR
 split
 ·exact b.wr a (lT b.mem _)
 ·exact b
theorem kU(O:Nat->Bool): ∀(l:List Int) (m:Mem),aT m (l.foldl (brkR O) m)
 | [],m=>aT.refl m
 | a::l,m=>(io O m a).trans (kU O l _)
theorem mP(O:Nat->Bool): ∀(l:List Int) {s:Sp},SpOK s->SpOK {s with mem:=l.foldl (brkR O) s.mem}
 | [],s,ok=>ok
 | a::l,s,ok=>mP O l (pW ok O a)
theorem kV{O:Nat->Bool}{m:Mem}{a x:Int}(d:m.used x):(brkR O m a).get x=if x=a/\aE O (m.get x)then(m.fwd (m.get x)).getD 44 else m.get x:=by
 have f:=d.1
 unfold brkR
 by_cases e:x=a
 ·subst e
  have h:m.read x=m.get x:=by unfold Mem.read;rw[if_pos d]
  rw[h]
  by_cases b:aE O (m.get x)
  ·rw[if_pos b,if_pos ⟨rfl,b⟩]
   unfold Mem.wr;rw[if_pos d,Mem.set_get x f f,if_pos rfl]
  ·rw[if_neg b,if_neg (λq=>b q.2)]
 ·rw[if_neg (show ¬(x=a/\aE O (m.get x))from λq=>e q.1)]
  split
  ·unfold Mem.wr
   by_cases c:m.used a
   ·rw[if_pos c,Mem.set_get x f c.1,if_neg e]
   ·rw[if_neg c]
  ·rfl
theorem pi{O:Nat->Bool}{m:Mem}{a w:Int}(d:O (a / 64).toNat=false)(f:aE O w):(brkR O m a).fwd w=m.fwd w:=by
 unfold Mem.fwd
 by_cases b:m.used (w / 8)
 ·have e:(brkR O m a).get (w / 8)=m.get (w / 8):=by
   rw[kV b,if_neg]
   rintro⟨h,_⟩
   have:=f.2.2
   rw[h,d]at this;cases this
  rw[e]
  have c:=(io O m a).used.2 b
  exact gq ⟨λq=>⟨b,q.2⟩,λq=>⟨c,q.2⟩⟩ _ _
 ·rw[if_neg (λq=>b ((io O m a).used.1 q.1)),if_neg (λq=>b q.1)]
theorem lU(O:Nat->Bool): ∀(l:List Int) {m:Mem} {x:Int},(∀a∈l,O (a / 64).toNat=false)->(aE O (m.get x)-> ∀v,m.fwd (m.get x)=some v-> ¬aE O v)->m.used x->
  (l.foldl (brkR O) m).get x=if x∈l/\aE O (m.get x)then(m.fwd (m.get x)).getD 44 else m.get x
 | [],m,x,_,_,hx=>by rw[if_neg (λq=>by simp at q)];rfl
 | a::l,m,x,hl,hf,hx=>by
  have k:=hl a (by simp)
  have d: ∀w,aE O w->(brkR O m a).fwd w=m.fwd w:=λw o=>pi k o
  have f:aE O (m.get x)-> ¬aE O ((m.fwd (m.get x)).getD 44):=λe=>by
   cases i:m.fwd (m.get x)with
   | none=>exact lQ O
   | some v=>exact hf e v i
  have j:=kV (O:=O) (a:=a) hx
  have p:=lU O l (m:=brkR O m a) (x:=x) (λb n=>hl b (by simp[n])) (λc v i=>by
   by_cases e:x=a/\aE O (m.get x)
   ·rw[j,if_pos e]at c;exact absurd c (f e.2)
   ·rw[j,if_neg e]at c i
    exact hf c v (by rw[<-d _ c];exact i)) ((io O m a).used.2 hx)
  show(l.foldl (brkR O) (brkR O m a)).get x=_
  rw[p,j]
  by_cases e:x=a/\aE O (m.get x)
  ·rw[if_pos e,if_neg (λq=>f e.2 q.2),if_pos ⟨by rw[e.1];simp,e.2⟩]
  ·rw[if_neg e]
   by_cases h:x∈l/\aE O (m.get x)
   ·rw[if_pos h,if_pos ⟨by simp[h.1],h.2⟩,d _ h.2]
   ·rw[if_neg h,if_neg (λq=>?_)]
    rcases List.mem_cons.1 q.1 with r | r
    ·exact e ⟨r,q.2⟩
    ·exact h ⟨r,q.2⟩
section
variable {Z:TZ} {g F0:Int} {fw:Int->Option Int} {al:List Int} {s:Sp} {sz:Int->Nat}
theorem oD(S:aO Z g F0)(t:Tri Z F0 fw al s sz)(B:fh Z.m g Z.T b)(r:b.old=Z.O){l:List Nat}(y:de s.mem [Z.T] l): ∀a∈s.mem.weaks b l,Z.O (a / 64).toNat=false:=by
 intro a f
 have i:=t.ok.mem.lim
 unfold Mem.weaks at f
 rcases List.mem_append.1 f with h | h
 ·obtain⟨k,hk,h⟩:=List.mem_flatMap.1 h
  have v:((k:Nat):Int).toNat=k:=by omega
  unfold Mem.weakSeg at h
  by_cases d:(s.mem.seg k).kind=1/\b.old k=false
  case neg=>rw[if_neg d]at h;simp at h
  rw[if_pos d]at h
  obtain⟨j,e,rfl⟩:=eY.1 h
  rw[fu]at e
  have hn:=(t.ok.mem.seg k).n
  have u:=B.frmAt (k:=k) (by omega)
  have q:0<=seenAt b.frm k:=by
   rw[u]
   split
   ·exact(S.ok.seg _).n.1
   ·exact Int.le_refl _
  rw[show((k:Int)*64+(seenAt b.frm k+2*(j:Int))) / 64=k by omega,v,<-r];exact d.2
 ·obtain⟨c,d,h⟩:=List.mem_flatMap.1 h
  obtain⟨o,p,w,x⟩:=B.cardOf S c d
  unfold Mem.weakCard at h
  by_cases hk:(s.mem.segOr c.1).kind=1
  case neg=>rw[if_neg hk]at h;simp at h
  rw[if_pos hk]at h
  obtain⟨j,e,rfl⟩:=eY.1 h
  rw[fu]at e
  have q:=o.1
  rw[show(c.1*64+(c.2*16+2*(j:Int))) / 64=c.1 by omega];exact p
theorem Tri.fwd_is(S:aO Z g F0)(t:Tri Z F0 fw al s sz){w:Int}(k:aB w)(d:Good Z.m Z.sz w)(f:aE Z.O w):s.mem.fwd w=(fw (w / 8)).map λb=>b*8+w % 8:=by
 obtain⟨h,o,p,q⟩:=S.oldWord d f
 obtain⟨n,r⟩:=S.sound.used _ h
 cases c:fw (w / 8)with
 | none=>exact(t.same_size S k d f c).2.1
 | some b=>
  obtain⟨_,l⟩:=t.img _ _ c
  have a:s.mem.used b:=by simpa using l.here 0 (by omega)
  have e:=t.ok.mem.lim
  have i:=a.2.1.2.1
  have j:=a.1
  unfold Mem.fwd
  rw[t.word _ _ c,if_pos ⟨t.heads.used n,⟨by omega,by omega⟩,by omega⟩]
  show some _=some _
  congr 2;omega
structure mg (Z:TZ) (fw:Int->Option Int) (s s':Sp):Prop extends Broke Z fw s s' where
 exact: ∀x v,s.mem.used x->Z.O (x / 64).toNat=false->s.mem.kAt x=1->x % 2=0->Was Z fw x v->s'.mem.get x=if aE Z.O v/\fw (v / 8)=none then 44 else Fw Z.O fw v
 old: ∀x,s.mem.used x->Z.O (x / 64).toNat=true->s'.mem.get x=s.mem.get x
theorem mg.of{tr:Tr}(S:aO Z g F0)(t:Tri Z F0 fw al s sz)(hm:hC Z.m)(B:fh Z.m g Z.T tr)(D:tr.old=Z.O){l:List Nat}(A:de s.mem [Z.T] l):mg Z fw s {s with mem:=(s.mem.weaks tr l).foldl (brkR Z.O) s.mem}:=by
 have i:=oD S t B D A
 have key: ∀x v,s.mem.used x->Z.O (x / 64).toNat=false->s.mem.kAt x=1->x % 2=0->Was Z fw x v->((s.mem.weaks tr l).foldl (brkR Z.O) s.mem).get x=if aE Z.O v/\fw (v / 8)=none then 44 else Fw Z.O fw v:=λx v d f hk y n=>by
  have j:s.mem.get x=v:=by
   rcases t.val x v n with r | ⟨r,_⟩
   ·exact r
   ·have:=r.2.resolve_left (λe=>e hk);omega
  obtain⟨J,K⟩:=t.was_any S n (by rw[hk];decide)
  have p:aE Z.O v->s.mem.fwd v=(fw (v / 8)).map λb=>b*8+v % 8:=λo=>t.fwd_is S J (K o) o
  rw[lU Z.O _ i (λo C c=>?_) d,j]
  ·by_cases o:aE Z.O v
   ·have z:=lS S t hm B D A d f hk y n o
    rw[if_pos ⟨z,o⟩,p o]
    cases k:fw (v / 8)with
    | none=>rw[if_pos ⟨o,rfl⟩];rfl
    | some b=>rw[if_neg (λq=>by cases q.2),fk o k];rfl
   ·rw[if_neg (λq=>o q.2),if_neg (λq=>o q.1),ee o]
  ·rw[j]at o c
   rw[p o]at c
   cases k:fw (v / 8)with
   | none=>rw[k]at c;cases c
   | some b=>
    rw[k]at c;cases c
    have I:=(t.img _ _ k).2
    intro q
    have:=q.2.2
    rw[show(b*8+v % 8) / 8=b by omega,I.out]at this
    cases this
 have u: ∀(l:List Int) (m:Mem) (x:Int),m.used x->x ∉ l->(l.foldl (brkR Z.O) m).get x=m.get x:=λl=>by
  induction l with
  | nil=>intro m x _ _;rfl
  | cons a l H=>
   intro m x hm hn
   show(l.foldl (brkR Z.O) (brkR Z.O m a)).get x=_
   rw[H _ x ((io _ m a).used.2 hm) (λq=>hn (by simp[q])),kV hm,if_neg (λq=>hn (by simp[q.1]))]
 refine⟨⟨kU _ _ _,rfl,mP _ _ t.ok,λx d f G=>?_,λx d f hk y=>?_⟩,key,λx d f=>u _ _ x d (λq=>by have:=i x q;rw[f]at this;cases this)⟩
 ·show((s.mem.weaks tr l).foldl (brkR Z.O) s.mem).get x=_
  have w:x ∉ s.mem.weaks tr l:=λq=>by
   obtain⟨E,F,_⟩:=lR S t B A x q
   exact G ⟨E,F⟩
  exact u _ _ x d w
 ·obtain⟨v,n⟩:=t.was d f
  show((s.mem.weaks tr l).foldl (brkR Z.O) s.mem).get x=44\/_
  by_cases o:aE Z.O v/\fw (v / 8)=none
  ·left;rw[key x v d f hk y n,if_pos o]
  ·right
   intro C c
   obtain rfl:=t.was_one c n
   refine⟨λh=>?_,?_⟩
   ·cases k:fw (C / 8)with
    | none=>exact absurd ⟨h,k⟩ o
    | some b=>exact⟨b,rfl⟩
   ·show((s.mem.weaks tr l).foldl (brkR Z.O) s.mem).get x=_
    rw[key x C d f hk y n,if_neg o]
end
theorem kW{c:Sp}{g T a:Int}(hm:0<=a)(b:eU c g T a=0):(0<=g/\g<4/\g<=T/\T<=g+1)/\2*(c.mem.nyoung g:Int)+8+a<=c.mem.free:=by
 unfold eU at b
 by_cases d:g<0\/4<=g\/T<g\/g+1<T\/a<0
 ·rw[if_pos d]at b;exact absurd b (by decide)
 ·rw[if_neg d]at b
  by_cases e:c.mem.free-2*c.mem.nyoung g-8<a
  ·rw[if_pos e]at b;exact absurd b (by decide)
  ·omega
theorem Inv.static{a:Sp}{c:Int->Nat}{g T e:Int}{V:Int->Prop}(I:Inv a c)(h:0<=e)(l:eU a g T e=0)(B:fh a.mem g T b)(q: ∀v,V v->aB v/\Good a.mem c v):
  aO ⟨a.mem,c,b.old,T,V,λ_=>none,[]⟩ g a.mem.free/\Tri ⟨a.mem,c,b.old,T,V,λ_=>none,[]⟩ a.mem.free (λ_=>none) [] (a.fresh (bK g)) c:=by
 have d:=kW h l
 have S:aO ⟨a.mem,c,b.old,T,V,λ_=>none,[]⟩ g a.mem.free:=by
  refine⟨I.ok.mem,I.even,I.sound,λk hk=>?_,d.1,?_,q⟩
  ·show b.old k=true ↔ _
   rw[B.old k hk]
   unfold Mem.young
   rw[decide_eq_true_eq]
  ·have t: ∀Z:TZ,Z.m=a.mem->Z.O=b.old->Z.P=[]->2*((Z.yk 0:Int)+Z.yk 1+Z.yk 2+Z.yk 3)+8+((Z.P.length / 32:Nat):Int)<=a.mem.free:=λZ f n o=>by
    have p:=pd (Z:=Z) (g:=g) (by rw[f];exact I.ok.mem) d.1.1 (λk hk=>by rw[f,n];exact B.old k hk)
    have u:=d.2
    rw[f]at p
    rw[o]
    simp
    omega
   exact t _ rfl rfl rfl
 exact⟨S,Tri.begin' S (Sp.fresh_ok I.ok _) rfl rfl (λi j r=>by
   show(if bK g=[]\/((i:Nat):Int)∈bK g then(0:Int)else a.cur i j)=0
   rw[if_pos (.inr (gY.2 ⟨by omega,r⟩))]) (λ_=>rfl) rfl⟩
structure iY (Z:TZ) (s0:Sp) (g:Int) (tr:Tr) (fw:Int->Option Int) (al:List Int) (sz:Int->Nat) (s3 s4 s5:Sp):Prop where
 t:dy Z g s0.mem.free fw al sz tr s3 s4 s5.mem
 brk:mg Z fw s3 s4
 inv:Inv s5 (szE Z.O sz)
theorem Tri.ends{Z:TZ}{s0:Sp}{g:Int}{tr:Tr}{fw:Int->Option Int}{al:List Int}{sz:Int->Nat}{a:Sp}{l:List Nat}(S:aO Z g s0.mem.free)(h:Tri Z s0.mem.free fw al a sz)(hm:hC Z.m)(B:fh Z.m g Z.T tr)(j:tr.old=Z.O)(i:Fin Z fw a)(c: ∀v,Z.V v->Dn Z.O fw v)(p:de a.mem [Z.T] l):
  iY Z s0 g tr fw al sz a {a with mem:=(a.mem.weaks tr l).foldl (brkR tr.old) a.mem} (({a with mem:=(a.mem.weaks tr l).foldl (brkR tr.old) a.mem}:Sp).ended tr):=by
 have b:=mg.of S h hm B j p
 rw[j]
 have e: ∀k:Nat,k<1024->Z.O k=true->({a with mem:=(a.mem.weaks tr l).foldl (brkR Z.O) a.mem}:Sp).mem.has k:=λk hk q=>b.same.has.2 (h.heads.has ((S.old k hk).1 q).1)
 obtain⟨n,f⟩:=Sp.ended_spec (Z:=Z) (tr:=tr) j b.ok e
 have o:({a with mem:=(a.mem.weaks tr l).foldl (brkR Z.O) a.mem}:Sp).mem.Even:=b.same.even h.even
 have d:=nC b.ok o tr
 have t:dy Z g s0.mem.free fw al sz tr a _ _:=⟨S,h,i,c,b.toBroke,n,B,hm⟩
 exact⟨t,b,⟨f,d,t.sound,t.marks⟩⟩
theorem pX{H:zV}{b d:Nat}{i:Int}(h:cE H b d a)(f:aU a)(e:i<=9223372036854775807):
  bN.C (some ⟨b,0,none⟩) i H (λv c=>v=.tuple #[vu (a.read i),vi (if a.used i then 0 else 18)]/\c=H):=
 HC.mono (fq h f e) (by
  rintro _ _ ⟨rfl,rfl⟩
  refine⟨?_,rfl⟩
  unfold Mem.read
  split<;>rfl)
set_option maxRecDepth 100000 in
theorem iZ{H:zV}{b:Blk}{y:Hp}{q:TB}{t:Tr}(T:Tg H b y q t)(hf:dx t.frm)(L:jx t.cards):
  eG.C (some ⟨q.t,0,none⟩) H (λ_ H'=> ∃l,de y.sp.mem [t.tgt] l/\Tg H' b {y with sp:={y.sp with mem:=(y.sp.mem.weaks t l).foldl (brkR t.old) y.sp.mem}} q t/\Fr (spB b) H H'):=by
 refine HC.via λR hR=>eG.link ?_
 unfold eG.pt zY
 refine HC.mono (iz T.toTc) ?_
 rintro _ H1 ⟨rfl,rfl⟩
 refine⟨_,rfl,?_⟩
 rw[if_neg (by rw[T.on];decide)]
 refine HC.mono (nw T hf L) ?_
 rintro _ H2 ⟨l,wB,wN,wC,hl,rfl,a0,hr,a7,au,e2⟩
 have hw:=ph T.ok.mem hf L hl
 have a4: ∀j∈blks wB,j ∉ b.all:=λj hj h=>by have:=a7 j hj;have:=T.lt (.inl h);omega
 refine⟨_,_,_,rfl,?_⟩
 generalize Y:y.sp.mem.weaks t l=W at*
 subst a0
 refine⟨λk A=>(0<=k/\k<=W.length)/\Tg A b {y with sp:={y.sp with mem:=(W.take k.toNat).foldl (brkR t.old) y.sp.mem}} q t/\Fr (spB b) H2 A,λk _=>(W.length-k).toNat,
  ⟨⟨by omega,by omega⟩,T.grow e2,Fr.refl _ _⟩,?_⟩
 rintro k A ⟨hk,p,P⟩
 by_cases z:k< (W.length:Int)
 case neg=>
  rw[if_neg z]
  rw[List.take_of_length_le (by omega)]at p
  exact hR _ _ ⟨l,hl,by rw[Y];exact p,e2.fr.trans P⟩
 rw[if_pos z]
 have x:k.toNat<W.length:=by omega
 have N:=List.getElem_mem x
 have a3:=hr.keep P (λj hj hs=>a4 j hj (eR hs))
 obtain⟨a,ha,K⟩:=kg a3.src (i:=k.toNat) x
 have a5:W.take (k+1).toNat=W.take k.toNat++[W[k.toNat]]:=by rw[show(k+1).toNat=k.toNat+1 by omega,List.take_succ_eq_append_getElem x]
 have M:(W.take (k+1).toNat).foldl (brkR t.old) y.sp.mem=brkR t.old ((W.take k.toNat).foldl (brkR t.old) y.sp.mem) W[k.toNat]:=by rw[a5,List.foldl_append];rfl
 have av:=hw _ N
 generalize W[k.toNat]=w at*
 have Q:=p.hp
 have hd:((W.length:Int)-(k+1)).toNat< ((W.length:Int)-k).toNat:=by omega
 refine⟨a,ha,⟨hk.1,z⟩,_,K,_,rfl,_,p.tr.hPtr,_,rfl,_,Q.hPtr,_,rfl,_,Q.cd.cPtr,_,rfl,_,Q.cd.sp.memPtr,?_⟩
 rw[w64 (n:=k+1) (by omega)]
 generalize ak:(W.take k.toNat).foldl (brkR t.old) y.sp.mem=m at*
 refine HC.mono (pX Q.cd.sp.mem p.ok.mem (by omega)) ?_
 rintro _ A1 ⟨rfl,rfl⟩
 refine⟨_,_,rfl,?_⟩
 have D:aB (m.read w):=Mem.read_word p.ok.mem w
 refine HC.mono (kK p.toTc D) ?_
 rintro _ A2 ⟨rfl,u⟩
 refine⟨_,rfl,?_⟩
 have U:=p.grow u
 by_cases B:aE t.old (m.read w)
 case neg=>
  rw[if_neg (by simp[B])]
  have V:brkR t.old m w=m:=by unfold brkR;rw[if_neg B]
  exact⟨⟨⟨by omega,by omega⟩,by rw[M,V];exact U,P.trans u.fr⟩,hd⟩
 rw[if_pos (zX ⟨p.on,B⟩)]
 refine HC.mono (fI U.toTc D) ?_
 rintro _ A3 ⟨rfl,e3⟩
 refine⟨_,rfl,?_⟩
 have F:=U.grow e3
 have c:=F.hp
 have I:=u.trans e3
 have J: ∀(E o:zV) (v:Int),aB v->v=(m.fwd (m.read w)).getD 44->Tg E b {y with sp:={y.sp with mem:=m}} q t->Fr (spB b) A1 E->cE o b.m b.s (if m.used w then m.set w v else m)->Fr [b.s] E o->
   (((0<=k+1/\k+1<=(W.length:Int))/\Tg o b {y with sp:={y.sp with mem:=(W.take (k+1).toNat).foldl (brkR t.old) y.sp.mem}} q t/\Fr (spB b) H2 o)/\((W.length:Int)-(k+1)).toNat< ((W.length:Int)-k).toNat):=by
  intro E o v S a6 d X f G
  have V:brkR t.old m w=m.wr w v:=by unfold brkR;rw[if_pos B,<-a6]
  refine⟨⟨⟨by omega,by omega⟩,?_,(P.trans X).trans (G.mono (λi hi _=>by simp at hi;simp[spB];omega))⟩,hd⟩
  rw[M,V]
  refine⟨d.toTc.withMem (m:=m.wr w v) G (λi hi=>by simp at hi;omega) f (d.ok.wr w S),(aT.wr m w v).even d.even,?_,d.on⟩
  have:=d.cf
  unfold Sp.cf at this⊢
  show(m.wr w v).count+(m.wr w v).free<_
  rw[(aT.wr m w v).count,(aT.wr m w v).free];exact this
 have am: ¬ ¬(t.over=false/\aE t.old (m.read w)):=λh=>h ⟨T.on,B⟩
 cases e:m.fwd (m.read w)with
 | some v=>
  rw[if_pos (by simp[e])]
  refine⟨_,F.tr.hPtr,_,rfl,_,c.hPtr,_,rfl,_,c.cd.cPtr,_,rfl,_,c.cd.sp.memPtr,?_⟩
  have O:=Sp.visit_fwd (s:={y.sp with mem:=m}) (T:=t.tgt) B e
  refine HC.mono (dZ F D) ?_
  rintro _ E ⟨rfl,d,X⟩
  rw[O]at d⊢
  have r:=d.hp
  refine⟨_,rfl,row1 d.tr.hPtr,row1 r.hPtr,row1 r.cd.cPtr,row1 r.cd.sp.memPtr,?_⟩
  refine HC.mono (eM r.cd.sp.mem d.ok.mem (by omega)) ?_
  rintro _ o ⟨rfl,f,G⟩
  have S:v=(m.fwd (m.read w)).getD 44:=by rw[e];rfl
  exact⟨_,rfl,J E o v (by rw[S];exact lT d.ok.mem _) S d (I.fr.trans X) f G⟩
 | none=>
  rw[if_neg (by simp[e,T.on,B])]
  refine⟨_,F.tr.hPtr,_,rfl,_,c.hPtr,_,rfl,_,c.cd.cPtr,_,rfl,_,c.cd.sp.memPtr,?_⟩
  refine HC.mono (eM c.cd.sp.mem F.ok.mem (by omega)) ?_
  rintro _ o ⟨rfl,f,G⟩
  exact⟨_,rfl,J A3 o 44 (by decide) (by rw[e];rfl) F I.fr f G⟩
structure Cel (S:List Nat) (ra:Addr) (K:zV->List Int->Prop):Prop where
 keep: ∀{T:List Nat} {A A':zV} {ws:List Int},K A ws->Fr T A A'->(∀j∈S,j ∉ T)->K A' ws
 at': ∀{A:zV} {ws:List Int} {i:Nat},K A ws->(h:i<ws.length)->hat A (ra.add (i*1))=some (vu ws[i])
 put: ∀{A:zV} {ws:List Int} {i:Nat} (v:Int),K A ws->i<ws.length->aL A (ra.add (i*1)) 0 1/\ ∀A',A'=aN A (ra.add (i*1)) [vu v] 0->K A' (ws.set i v)/\Fr S A A'
 lt: ∀{A:zV} {ws:List Int},K A ws-> ∀j∈S,j<A.size
theorem Cel.own(l:zW)(n t:Nat):Cel (blks l) (l.getD default) (λA ws=>ws.length=n/\Own A 28 1 l n t (wvs ws)):=by
 refine⟨λ{T A m ws} h f r=>⟨h.1,h.2.keep f r⟩,λ{A ws i} h b=>?_,λ{A ws i} v h b=>?_,λh=>h.2.lt⟩
 ·obtain⟨a,k,c⟩:=h.2.at (j:=i) (v:=vu ws[i]) (by unfold wvs;rw[List.getElem?_map,List.getElem?_eq_getElem b];rfl)
  subst k
  rw[Option.getD_some,Nat.mul_one];exact c
 ·obtain⟨a,k,_⟩:=h.2.at (j:=i) (v:=vu ws[i]) (by unfold wvs;rw[List.getElem?_map,List.getElem?_eq_getElem b];rfl)
  subst k
  obtain⟨c,o⟩:=h.2.put (i:=i) (by rw[<-h.1];exact b) (vu v)
  rw[Option.getD_some,Nat.mul_one]
  refine⟨c,λm d=>?_⟩
  obtain⟨p,q⟩:=o m d
  refine⟨⟨by rw[List.length_set];exact h.1,?_⟩,by simpa using q⟩
  have e:(wvs ws).set i (vu v)=wvs (ws.set i v):=by unfold wvs;rw[List.map_set]
  rw[<-e];exact p
variable{a d o:Int}{b:Hp}{g:TB}{i:Tr}{j:Blk}{k:Sp}{H r:zV}{u:Addr}{v:Mem}{z:Nat}
theorem eO{A a A3:zV}{b:Array Value}{T:TypeId}(h:z=A.size)(c:a=A.push (.cells b T (0,0)))(vs:List Value)(k:vs.length=b.size):
  aL a (Addr.mk z 0 none) 0 vs.length/\(A3=aN a (Addr.mk z 0 none) vs 0->A3[z]?=some (.cells (splice b 0 vs) T (0,0))/\Ext A A3):=by
 have g:=aK h c
 have e:Ext A a:=Ext.push' c
 refine⟨bR g _ _ _ (by omega),λd=>?_⟩
 rw[cT vs a b 0 0 g]at d
 rw[d]
 have f:Fr [z] a (bH a z (.cells (splice b (0+0) vs) T (0,0))):=Fr.set
 exact⟨aW (aZ g),e.fr_trans f (λi j=>by simp at j;omega)⟩
def Sp.putT(s:Sp)(T car cdr:Int):Sp×Int:=
 if(s.alloc T 0 2).2.2=0 then({(s.alloc T 0 2).1 with mem:=(s.alloc T 0 2).1.mem.sets (s.alloc T 0 2).2.1 [car,cdr]},(s.alloc T 0 2).2.1*8+1)else(s,20)
theorem Sp.putT_word(b:SpOK k):aB (k.putT a d o).2:=by
 unfold Sp.putT
 split
 ·rename_i h
  obtain⟨e,c⟩:=Sp.alloc_ok b h
  obtain⟨f,g,i⟩:=c.addr
  have:=b.mem.lim
  show aB ((k.alloc a 0 2).2.1*8+1)
  constructor<;>omega
 ·exact(by decide:aB 20)
set_option maxRecDepth 100000 in
theorem pj(T:Tg H j b g i)(q:aB a)(Q:aB d):
  dp.C (some ⟨g.t,0,none⟩) a d H (λv J=>v=vu (b.sp.putT i.tgt a d).2/\Tg J j {b with sp:=(b.sp.putT i.tgt a d).1} g i/\Fr (spB j) H J):=by
 refine HC.via λR p=>dp.link ?_
 unfold dp.pt zY
 refine HC.mono (gL T.toTc) ?_
 rintro _ W ⟨rfl,B⟩
 obtain rfl:H=W:=B.symm
 refine⟨_,rfl,?_⟩
 rw[if_neg (by rw[T.on];decide)]
 obtain⟨Y,Z,p3,p4⟩:=T.s1
 refine⟨_,rfl,_,Y,_,rfl,_,Z,_,rfl,_,p3,_,by rw[addr_add_mk];exact T.tr.tgtAt,?_⟩
 refine HC.mono (ib T.hp.cd.sp T.ok (Sp.cf_count T.ok T.cf)) ?_
 rintro _ K ⟨rfl,F,M⟩
 refine⟨_,_,rfl,?_⟩
 have A:=T.hp.withSp M (λah f=>by simp at f;omega) F
 have k:Fr (spB j) H K:=M
 by_cases o:(b.sp.alloc i.tgt 0 2).2.2=0
 case neg=>
  rw[if_neg o]
  have z:b.sp.putT i.tgt a d=(b.sp,20):=by unfold Sp.putT;rw[if_neg o]
  rw[z]at p
  rw[Sp.alloc_fail T.ok o]at A
  exact p _ _ ⟨rfl,⟨T.toTc.step k (λah f=>eR f) A T.ok,T.even,T.cf,T.on⟩,k⟩
 rw[if_pos o]
 have z:b.sp.putT i.tgt a d=({(b.sp.alloc i.tgt 0 2).1 with mem:=(b.sp.alloc i.tgt 0 2).1.mem.sets (b.sp.alloc i.tgt 0 2).2.1 [a,d]},(b.sp.alloc i.tgt 0 2).2.1*8+1):=by unfold Sp.putT;rw[if_pos o]
 rw[z]at p
 obtain⟨l,P⟩:=Sp.alloc_ok T.ok o
 have t:=(P.even T.even (λ_=>by decide)).1
 have s:(b.sp.alloc i.tgt 0 2).1.cf=b.sp.cf:=Sp.alloc_cf _ _ _ _
 simp only at p
 generalize hr:b.sp.alloc i.tgt 0 2=r at*
 obtain⟨c,ag,e⟩:=r
 simp only at*
 have S:=T.ok.mem.lim
 obtain⟨a0,a1,a2⟩:=P.addr
 have x:Tc K j {b with sp:=c} g i:=T.toTc.step k (λah f=>eR f) A l
 obtain⟨r1,r2,r3,r4⟩:=x.s1
 refine⟨_,r1,_,rfl,_,r2,_,rfl,_,r3,_,rfl,_,r4,?_⟩
 refine HC.mono (eM x.hp.cd.sp.mem x.ok.mem (by omega)) ?_
 rintro _ U ⟨rfl,D,N⟩
 have G:SpOK {c with mem:=if c.mem.used ag then c.mem.set ag a else c.mem}:=l.sets ag (ws:=[a]) (by intro w u;simp at u;rw[u];exact q)
 have y:Tc U j {b with sp:={c with mem:=if c.mem.used ag then c.mem.set ag a else c.mem}} g i:=x.withMem N (λah f=>by simp at f;exact .inr f) D G
 obtain⟨q1,q2,q3,q4⟩:=y.s1
 refine⟨_,rfl,_,q1,_,rfl,_,q2,_,rfl,_,q3,_,rfl,_,q4,?_⟩
 rw[w64 (n:=ag+1) (by omega)]
 refine HC.mono (eM y.hp.cd.sp.mem y.ok.mem (by omega)) ?_
 rintro _ V ⟨rfl,E,O⟩
 have I:SpOK {c with mem:=c.mem.sets ag [a,d]}:=l.sets ag (ws:=[a,d]) (by intro w u;simp at u;rcases u with rfl | rfl<;>assumption)
 have X:Tc V j {b with sp:={c with mem:=c.mem.sets ag [a,d]}} g i:=y.withMem (m:=c.mem.sets ag [a,d]) O (λah f=>by simp at f;exact .inr f) E I
 refine⟨_,rfl,HC.mono (ij (by omega) (by omega)) ?_⟩
 rintro _ H5 ⟨rfl,L⟩
 rw[if_neg (by decide),if_pos (by omega)]
 refine⟨_,_,rfl,p _ _ ⟨rfl,⟨X.ext L,(aT.sets _ _ _).even t,?_,T.on⟩,?_⟩⟩
 ·have h:=aT.sets [a,d] c.mem ag
  show({c with mem:=c.mem.sets ag [a,d]}:Sp).cf<_
  have:({c with mem:=c.mem.sets ag [a,d]}:Sp).cf=c.cf:=by unfold Sp.cf;simp only[];rw[h.count,h.free]
  rw[this,s];exact T.cf
 ·exact((k.trans (N.mono (λah f _=>by simp at f;simp[spB];omega))).trans (O.mono (λah f _=>by simp at f;simp[spB];omega))).trans L.fr
theorem Mem.store_even{m:Mem}(h:m.Even)(a w:Int):(m.store a w).1.Even:=λk hk=>by
 obtain⟨_,b,c⟩:=Mem.store_seg (m:=m) (a:=a) (w:=w) k
 rw[c];exact h k (by rw[<-b];exact hk)
theorem Tg.set(T:Tg H j b g i)(V:View r (some ⟨j.h,0,none⟩) (some (j,b.setMem v)))(f:Fr (own (some (j,b))) H r)(c:v.Even)(a:v.free=b.sp.mem.free/\v.count=b.sp.mem.count):Tg r j (b.setMem v) g i/\Fr (spB j) H r:=by
 obtain⟨-,e,k⟩:=V.inv
 refine⟨⟨T.toTc.step f (λl d=>eR d) e k,c,?_,T.on⟩,f⟩
 have:(b.setMem v).sp.cf=b.sp.cf:=by unfold Sp.cf Hp.setMem;simp only[];rw[a.1,a.2]
 rw[this];exact T.cf
def Mem.hset(m:Mem)(w i v:Int):Mem:=if m.isPair w then(m.store (w / 8+i) v).1 else m
def Mem.hsetE(m:Mem)(w i v:Int):Int:=if m.isPair w then(m.store (w / 8+i) v).2 else 3
def Mem.fset(m:Mem)(w kind i v:Int):Mem:=if m.fieldE w kind i=0 then(m.store (w / 8+1+i) v).1 else m
theorem Mem.hset_fc(m:Mem)(w i v:Int):(m.hset w i v).free=m.free/\(m.hset w i v).count=m.count:=by
 unfold Mem.hset
 split
 ·exact(Mem.store_lim (m:=m)).2
 ·exact⟨rfl,rfl⟩
theorem Mem.fset_fc(m:Mem)(w k i v:Int):(m.fset w k i v).free=m.free/\(m.fset w k i v).count=m.count:=by
 unfold Mem.fset
 split
 ·exact(Mem.store_lim (m:=m)).2
 ·exact⟨rfl,rfl⟩
theorem Mem.hset_even(h:v.Even)(w i a:Int):(v.hset w i a).Even:=by
 unfold Mem.hset;split
 ·exact Mem.store_even h _ _
 ·exact h
theorem Mem.fset_even(h:v.Even)(w k i a:Int):(v.fset w k i a).Even:=by
 unfold Mem.fset;split
 ·exact Mem.store_even h _ _
 ·exact h
def Mem.lastG(m:Mem)(g:Int):Int:=if m.fieldE g 10 1=0 then m.get (g / 8+1+1)else 0
def Mem.queued(m:Mem)(g p:Int):Mem:=
 if m.hsetE (m.lastG g) 1 p=0 then(m.hset (m.lastG g) 1 p).fset g 10 1 p else((m.hset (m.lastG g) 1 p).fset g 10 0 p).fset g 10 1 p
def Sp.putsG(s:Sp)(T g th:Int):Sp:=
 if s.mem.typ g=10/\s.mem.len g=2 then(if(s.putT T th 20).2=20 then(s.putT T th 20).1 else{(s.putT T th 20).1 with mem:=(s.putT T th 20).1.mem.queued g (s.putT T th 20).2})else s
theorem mh(a:SpOK k)(g d i p:Int)(b:aB p)(c:aB g):SpOK {k with mem:=k.mem.fset g d i p}:=by
 unfold Mem.fset
 split
 ·exact SpOK.store a _ b
 ·exact a
theorem pY(a:SpOK k)(w i p:Int)(b:aB p):SpOK {k with mem:=k.mem.hset w i p}:=by
 unfold Mem.hset
 split
 ·exact SpOK.store a _ b
 ·exact a
theorem oE(d:SpOK k)(g p:Int)(a:aB p)(b:aB g):SpOK {k with mem:=k.mem.queued g p}:=by
 unfold Mem.queued
 have c:=pY d (k.mem.lastG g) 1 p a
 split
 ·exact mh c g 10 1 p a b
 ·exact mh (mh c g 10 0 p a b) g 10 1 p a b
theorem nY(c:SpOK k)(T:Int)(e:aB a)(f:aB d):SpOK (k.putT T a d).1:=by
 unfold Sp.putT
 split
 ·rename_i h
  exact(Sp.alloc_ok c h).1.sets _ (by intro w b;simp at b;rcases b with rfl | rfl<;>assumption)
 ·exact c
theorem pl(b:SpOK k){T:Int}(e:(0:Int)<=0)(g c:Int)(d:aB g)(a:aB c):SpOK (k.putsG T g c):=by
 unfold Sp.putsG
 split
 ·split
  ·exact nY b T a (by decide)
  ·exact oE (nY b T a (by decide)) g _ (Sp.putT_word b) d
 ·exact b
set_option maxRecDepth 100000 in
theorem pm(T:Tg H j b g i)(G:aB a)(P:aB d):
  fE.C (some ⟨g.t,0,none⟩) a d H (λ_ Q=>Tg Q j {b with sp:=b.sp.putsG i.tgt a d} g i/\Fr (spB j) H Q):=by
 refine HC.via λR l=>fE.link ?_
 unfold fE.pt
 have hm: ∀y:Hp,mof (some (j,y))=y.sp.mem:=λ_=>rfl
 refine⟨_,rfl,_,T.s1.1,HC.mono (nj T.view G) ?_⟩
 rw[hm]
 rintro _ H1 ⟨rfl,q⟩
 refine⟨_,rfl,?_⟩
 by_cases w:b.sp.mem.typ a=10
 case neg=>
  rw[if_neg w]
  have m:b.sp.putsG i.tgt a d=b.sp:=by unfold Sp.putsG;rw[if_neg (λh=>w h.1)]
  rw[m]at l
  exact l _ _ ⟨T.grow q,q.fr⟩
 rw[if_pos w]
 have z:=T.grow q
 refine⟨_,z.s1.1,HC.mono (oh z.view G) ?_⟩
 rw[hm]
 rintro _ H2 ⟨rfl,E⟩
 refine⟨_,rfl,?_⟩
 by_cases t:b.sp.mem.len a=2
 case neg=>
  rw[if_neg t]
  have m:b.sp.putsG i.tgt a d=b.sp:=by unfold Sp.putsG;rw[if_neg (λh=>t h.2)]
  rw[m]at l
  exact l _ _ ⟨z.grow E,(q.trans E).fr⟩
 rw[if_pos t]
 have T2:=z.grow E
 refine HC.mono (pj T2 P (by decide)) ?_
 rintro _ X ⟨rfl,o,f3⟩
 refine⟨_,rfl,?_⟩
 have r:Fr (spB j) H X:=(q.trans E).fr.trans f3
 by_cases hn:(b.sp.putT i.tgt d 20).2=20
 ·rw[if_pos hn]
  have m:b.sp.putsG i.tgt a d=(b.sp.putT i.tgt d 20).1:=by unfold Sp.putsG;rw[if_pos ⟨w,t⟩,if_pos hn]
  rw[m]at l
  exact l _ _ ⟨o,r⟩
 rw[if_neg hn]
 have m:b.sp.putsG i.tgt a d={(b.sp.putT i.tgt d 20).1 with mem:=(b.sp.putT i.tgt d 20).1.mem.queued a (b.sp.putT i.tgt d 20).2}:=by unfold Sp.putsG;rw[if_pos ⟨w,t⟩,if_neg hn]
 rw[m]at l
 have u:aB (b.sp.putT i.tgt d 20).2:=Sp.putT_word T.ok
 generalize b.sp.putT i.tgt d 20=pr at*
 obtain⟨c,p⟩:=pr
 simp only at*
 refine⟨_,o.s1.1,HC.mono (iM o.view G (by decide)) ?_⟩
 rw[hm]
 rintro _ H4 ⟨rfl,S⟩
 have I:=o.grow S
 have O:aB (c.mem.lastG a):=by
  unfold Mem.lastG
  split
  ·exact(o.ok.mem.seg _).words _
  ·decide
 refine⟨c.mem.lastG a,_,rfl,_,I.s1.1,HC.mono (l9 I.view O u) ?_⟩
 rintro _ Y ⟨rfl,V5,f5⟩
 have W:hsetE (some (j,({b with sp:=c}:Hp))) (c.mem.lastG a) 1 p=c.mem.hsetE (c.mem.lastG a) 1 p:=rfl
 have L:View Y (some ⟨j.h,0,none⟩) (some (j,({b with sp:=c}:Hp).setMem (c.mem.hset (c.mem.lastG a) 1 p))):=V5
 obtain⟨B,M⟩:=I.set L f5 (Mem.hset_even o.even _ _ _) (Mem.hset_fc _ _ _ _)
 have s:=(r.trans S.fr).trans M
 refine⟨_,rfl,?_⟩
 rw[W]
 have e: ∀{A:zV} {y:Hp} {af:Int} {K:zV->Prop},Tg A j y g i->I64 af->(∀k,Tg k j (y.setMem (y.sp.mem.fset a 10 af p)) g i->Fr (spB j) A k->K k)->dt.C (some ⟨j.h,0,none⟩) a 10 af p A (λv k=> ∃x:Int,v=vi x/\K k):=λ{A y af K} J hi hK=>by
  refine HC.mono (ol J.view G hi u) ?_
  rintro _ k ⟨rfl,V,f⟩
  have V':View k (some ⟨j.h,0,none⟩) (some (j,y.setMem (y.sp.mem.fset a 10 af p))):=V
  obtain⟨Z,f'⟩:=J.set V' f (Mem.fset_even J.even _ _ _ _) (Mem.fset_fc _ _ _ _ _)
  exact⟨_,rfl,hK k Z f'⟩
 by_cases F:c.mem.hsetE (c.mem.lastG a) 1 p=0
 ·rw[if_pos F]
  refine⟨_,B.s1.1,e B (by decide) λk D N=>l _ _ ⟨?_,s.trans N⟩⟩
  have n:c.mem.queued a p=(c.mem.hset (c.mem.lastG a) 1 p).fset a 10 1 p:=by unfold Mem.queued;rw[if_pos F]
  rw[n];exact D
 ·rw[if_neg F]
  refine⟨_,B.s1.1,e B (by decide) λk D N=>?_⟩
  refine⟨_,D.s1.1,e D (by decide) λU T7 f7=>l _ _ ⟨?_,(s.trans N).trans f7⟩⟩
  have n:c.mem.queued a p=((c.mem.hset (c.mem.lastG a) 1 p).fset a 10 0 p).fset a 10 1 p:=by unfold Mem.queued;rw[if_neg F]
  rw[n];exact T7
def nZ(old:Nat->Bool)(T:Int)(m:Mem):Prop:= ∀k i:Nat,m.has k->(m.seg k).gen=T->old k=false->(i:Int)< (m.seg k).n->looks (m.seg k).kind i-> ¬aE old (m.read ((k:Int)*64+i))
theorem Mem.wr_read(m:Mem)(a:Int):m.wr a (m.read a)=m:=by
 unfold Mem.wr Mem.read
 by_cases h:m.used a
 ·rw[if_pos h,if_pos h]
  unfold Mem.set Mem.get Mem.upd
  cases m with
  | mk f seg b l=>
   simp only[Mem.mk.injEq,true_and,and_true]
   funext i
   split
   ·rename_i d
    subst d
    cases o:seg (a / 64).toNat with
    | mk g k n c t w=>
     simp only[Seg.set,Seg.mk.injEq,true_and]
     funext j
     split
     ·rename_i e;rw[e]
     ·rfl
   ·rfl
 ·rw[if_neg h]
theorem Sp.lookAt_settled{old:Nat->Bool}(h: ¬aE old (k.mem.read d)):k.lookAt old a d=k:=by
 unfold Sp.lookAt
 rw[Sp.visit_no h]
 simp only[]
 rw[Mem.wr_read]
theorem Sp.look_settled{s:Sp}{old:Nat->Bool}{T k a b:Int}: ∀n:Nat,(∀j:Nat,j<n->looks a (b+j)-> ¬aE old (s.mem.read (k*64+(b+j))))->s.look old T k a b n=s
 | 0,_=>rfl
 | n+1,h=>by
  unfold Sp.look
  rw[Sp.look_settled n (λj d=>h j (by omega))]
  split
  ·rename_i c;exact Sp.lookAt_settled (h n (by omega) c)
  ·rfl
theorem dd.settled{old:Nat->Bool}{s:Sp}{f g:List (Int×Value)}(h:dd old a k f s g)(p:nZ old a k.mem)(r:aU k.mem)(hk:dx f):s=k/\dx g:=by
 induction h with
 | refl=>exact⟨rfl,hk⟩
 | @step w b y _ hk i o hn q=>
  obtain⟨rfl,c⟩:=q
  have e:=(r.seg y.toNat).n
  refine⟨Sp.look_settled _ (λj u m=>?_),λx v d=>?_⟩
  ·have t:=(gi c y).2.1
   have l:=hk.1
   have:=p y.toNat (seenAt b y+j).toNat (by rw[show((y.toNat:Nat):Int)=y by omega];exact hk) i o (by omega) (by rw[show(((seenAt b y+j).toNat:Nat):Int)=seenAt b y+j by omega];exact m)
   rw[show((y.toNat:Nat):Int)=y by omega,show(((seenAt b y+j).toNat:Nat):Int)=seenAt b y+j by omega]at this
   exact this
  ·rw[gX]at d
   split at d
   ·cases d;exact⟨_,rfl,e⟩
   ·exact c x v d
theorem Tg.withOld(T:Tg H j b g i){old:Nat->Bool}(h: ∀k,k<1024->i.old k=old k):Tg H j b g {i with old:=old}:=by
 obtain⟨⟨n,o,p,q⟩,r,s,t⟩:=T
 obtain⟨u,v,w,x,y,z,A⟩:=p
 obtain⟨m,a,c,d,e,f,l⟩:=u
 exact⟨⟨n,o,⟨⟨m,a,c,d,e,λk hk=>by rw[f k hk,h k hk],l⟩,v,w,x,y,z,A⟩,q⟩,r,s,t⟩
def kX(A:zV)(c:Nat):Nat:=match A[c]? with | some (Obj.cells cs _ _)=>(match(cs[0]?:Option Value)with | some (Value.int _ n)=>(2-n).toNat | _=>0) | _=>0
structure GdSt (H:zV) (b:Blk) (x:Hp) (q:TB) (t:Tr) (c c2 c3 c4:Nat) (a:Addr) (o g lv:Int) (A:zV):Prop where
 tg:Tg A b x q t
 g0:A[c]?=some (.cells #[vp (some ⟨q.t,0,none⟩)] 37 (0,0))
 g2:A[c2]?=some (.cells #[vs (some a) 1 1] 31 (0,0))
 g4:A[c4]?=some (.cells #[vs (some ⟨c3,0,none⟩) 1 1] 75 (0,0))
 g3:A[c3]?=some (.cells #[vi lv] 3 (0,0))
 row:aS A a 0 [vu o,vu g]
 fr:Fr (q.s::spB b) H A
 new:H.size<=c/\H.size<=c2/\H.size<=c3/\H.size<=c4/\c≠c3/\c2≠c3/\c4≠c3/\a.block<H.size
theorem GdSt.ext{f:zV}{b:Blk}{x:Hp}{c j k l:Nat}{a:Addr}{m:Int}(h:GdSt H b x g i c j k l a d o m r)(e:Ext r f):GdSt H b x g i c j k l a d o m f:=
 ⟨h.tg.grow e,e.get h.g0,e.get h.g2,e.get h.g4,e.get h.g3,e.rowAt h.row,h.fr.trans e.fr,h.new⟩
theorem GdSt.go{H A e:zV}{t:Hp}{r:Tr}{c m n p:Nat}(h:GdSt H j b g i c m n p u a d o A)(T:Tg e j t g r)(f:Fr (g.s::spB j) A e)(q:u.block ∉ j.all/\u.block ∉ g.all)(v: ∀G∈g.s::spB j,G<H.size):GdSt H j t g r c m n p u a d o e:=by
 obtain⟨w,x,y,z,C,D,E,F⟩:=h.new
 have no: ∀I,H.size<=I->I ∉ g.s::spB j:=λI B k=>by have:=v I k;omega
 refine⟨T,f.get (no _ w) h.g0,f.get (no _ x) h.g2,f.get (no _ z) h.g4,f.get (no _ y) h.g3,f.rowAt (λk=>?_) h.row,h.fr.trans f,h.new⟩
 rcases List.mem_cons.1 k with l | l
 ·exact q.2 (by rw[l];simp[TB.all])
 ·exact q.1 (eR l)
theorem GdSt.lost{k:zV}{p l q:Nat}{e:Int}(h:GdSt H j b g i z p l q u a d o r)(v:k=aN r (Addr.mk l 0 none) [vi e] 0)(t: ∀J,J∈j.all\/J∈g.all->J<H.size):GdSt H j b g i z p l q u a d e k:=by
 obtain⟨A,B,C,D,E,F,G,I⟩:=h.new
 obtain⟨_,s⟩:=ju (n:=1) (vs:=[vi e]) h.g3 rfl rfl
 obtain⟨w,f⟩:=s k v
 have y:=aZ h.g3
 refine⟨h.tg.stay f (λJ c m=>by simp at c;have:=t J (.inl m);omega) (λJ c m=>by simp at c;have:=t J (.inr m);omega),f.get (by simp;omega) h.g0,f.get (by simp;omega) h.g2,f.get (by simp;omega) h.g4,w,f.rowAt (by simp;omega) h.row,h.fr.trans' f (λJ c _=>c) (λJ c x=>by simp at c;omega),h.new⟩
theorem qq{l h m:Nat}(S:GdSt H j b g i z l h m u a d o r)(p:aB d):
  cS.C 0 (some (Addr.mk m 0 none)) (some (Addr.mk z 0 none)) (some (Addr.mk l 0 none)) r (λv k=>v=.bool (decide (o=1) && (decide (¬(i.over=false/\aE i.old d)) || (b.sp.mem.fwd d).isSome))/\Ext r k):=by
 refine HC.via λR n=>cS.link ?_
 unfold cS.pt
 refine⟨_,rfl,_,_,_,by rw[aG S.g4];rfl,_,rfl,⟨by decide,by decide⟩,o,by rw[show(Addr.mk h 0 none).add (Int.toNat 0*1)=Addr.mk h 0 none from rfl,aG S.g3];rfl,?_⟩
 by_cases f:o=1
 ·rw[if_pos f]
  have c:=S.row.2.1
  refine⟨_,rfl,_,by rw[aG S.g0];rfl,_,rfl,_,_,_,by rw[aG S.g2];rfl,_,rfl,⟨by decide,by decide⟩,d,by
   have e:(u.add (Int.toNat 0*2)).add 1=u.add (0+1):=by unfold Addr.add;split<;>simp_all
   rw[e];exact c,HC.mono (fI S.tg.toTc p) ?_⟩
  rintro _ k ⟨rfl,e⟩
  exact⟨_,rfl,n _ _ ⟨by rw[zX f,Bool.true_and],e⟩⟩
 ·rw[if_neg f]
  exact n _ _ ⟨by rw[zQ f,Bool.false_and],Ext.refl _⟩
set_option maxRecDepth 100000 in
set_option maxHeartbeats 1000000 in
theorem mi{q:TB}{a:Addr}{o g:Int}(T:Tg H j b q i)(bB:dx i.seen)(bC:0<=i.tgt)(ho:aB o)(hg:aB g)(az:aS H a 0 [vu o,vu g])(ha:a.block ∉ j.all/\a.block ∉ q.all)(bq:a.block<H.size)
  (I:aE i.old o/\b.sp.mem.fwd o=none) (af: ¬aE i.old g\/(b.sp.mem.fwd g).isSome=true):
  du.C (some ⟨q.t,0,none⟩) (some a) 1 1 H (λv H'=>v=vN/\ ∃(w:Sp) (d:List (Int×Value)),
   dd i.old i.tgt (((b.sp.visit i.old i.tgt o).1.visit i.old i.tgt g).1.putsG i.tgt ((b.sp.visit i.old i.tgt o).1.visit i.old i.tgt g).2 (b.sp.visit i.old i.tgt o).2) i.seen w d/\fP i.old i.tgt w d/\Tg H' j {b with sp:=w} q {i with seen:=d}/\dx d/\Fr (q.s::spB j) H H'):=by
 refine HC.via λR hR=>du.link ?_
 unfold du.pt zY
 intro c H1 hc ab D H2 br ac
 have e1:Ext H H1:=Ext.push' ab
 have e2:Ext H1 H2:=Ext.push' ac
 have z1:H1.size=H.size+1:=by rw[ab];simp
 have z2:H2.size=H1.size+1:=by rw[ac];simp
 have k0:=e2.get (aK hc ab)
 have k2:=aK br ac
 refine⟨_,by rw[aG k0];rfl,HC.mono (iz (T.grow (e1.trans e2)).toTc) ?_⟩
 rintro _ HH ⟨rfl,bp⟩
 obtain rfl:H2=HH:=bp.symm
 refine⟨_,rfl,?_⟩
 rw[if_neg (by rw[T.on];decide)]
 refine⟨some a,1,1,by rw[aG k2];rfl,by decide,by decide,by decide,by decide,λe H5 bs ae E H6 bu aw=>?_⟩
 have e5:Ext H2 H5:=Ext.push' ae
 have z5:H5.size=H2.size+1:=by rw[ae];simp
 have z6:H6.size=H5.size+1:=by rw[aw];simp
 obtain⟨q6,s6⟩:=eO (A3:=aN H6 (Addr.mk E 0 none) [vs (some (Addr.mk e 0 none)) 1 1] 0) bu aw [vs (some (Addr.mk e 0 none)) 1 1] rfl
 refine⟨q6,λH7 bn=>?_⟩
 have ax:H7=aN H6 (Addr.mk E 0 none) [vs (some (Addr.mk e 0 none)) 1 1] 0:=bn
 obtain⟨k4,e7⟩:=s6 rfl
 rw[<-ax]at k4 e7
 have k3:H5[e]?=some (.cells #[vi 0] 3 (0,0)):=by
  have:=aK bs ae
  rw[show Builtin.zeroCells #[vi 0] (Int.toNat ((1:Nat):Int))=(#[vi 0]:Array Value)from by kernel_rfl]at this
  exact this
 have E7:=((e1.trans e2).trans e5).trans e7
 have a9:=e5.trans e7
 have Q: ∀cw,cw∈j.all\/cw∈q.all->cw<H.size:=λcw t=>T.lt t
 have J: ∀cw∈q.s::spB j,cw<H.size:=λcw t=>by
  rcases List.mem_cons.1 t with h | h
  ·exact Q cw (.inr (by rw[h];simp[TB.all]))
  ·exact Q cw (.inl (eR h))
 have S0:GdSt H j b q i c D e E a o g 0 H7:=⟨T.grow E7,a9.get k0,a9.get k2,k4,e7.get k3,E7.rowAt az,E7.fr,by omega,by omega,by omega,by omega,by omega,by omega,by omega,bq⟩
 have ag:IntKind.wrap .i64 ((0:Int)+1)=1:=by decide
 refine⟨some a,1,1,by rw[aG (a9.get k2)];rfl,λcw A=>(cw=0/\GdSt H j b q i c D e E a o g 0 A)\/(cw=1/\GdSt H j b q i c D e E a o g 1 A),λcw _=>(1-cw).toNat,.inl ⟨rfl,S0⟩,?_⟩
 rintro cw H8 (⟨rfl,S8⟩ | ⟨rfl,S8⟩)
 ·rw[if_pos (by decide)]
  refine⟨a,rfl,⟨by decide,by decide⟩,o,g,by rw[show a.add (Int.toNat 0*2)=a from by unfold Addr.add;simp];exact S8.row,λcx H9 bw bo=>?_⟩
  obtain⟨q9,s9⟩:=eO (A3:=aN H9 (Addr.mk cx 0 none) [vu o,vu g] 0) bw bo [vu o,vu g] rfl
  refine⟨q9,λb5 au=>?_⟩
  obtain⟨k5,ao⟩:=s9 rfl
  rw[<-au]at k5 ao
  have bG:b5[cx]?=some (.cells #[vu o,vu g] 36 (0,0)):=k5
  have a4:=S8.ext ao
  refine⟨_,by rw[aG a4.g0];rfl,o,by rw[aG bG];rfl,HC.mono (fI a4.tg.toTc ho) ?_⟩
  rintro _ bY ⟨rfl,bf⟩
  refine⟨_,rfl,?_⟩
  rw[if_neg (by rw[I.2];simp[T.on,I.1])]
  have a5:=a4.ext bf
  refine⟨_,_,_,by rw[aG a5.g4];rfl,_,rfl,⟨by decide,by decide⟩,?_⟩
  rw[show(Addr.mk e 0 none).add (Int.toNat 0*1)=Addr.mk e 0 none from rfl,ag]
  refine⟨bR a5.g3 _ _ _ (by simp),λc5 av=>⟨.inr ⟨rfl,a5.lost av Q⟩,show((1:Int)-1).toNat< ((1:Int)-0).toNat by decide⟩⟩
 rw[if_neg (by decide)]
 obtain⟨s3,aQ⟩: ∃s3:Sp,s3=((b.sp.visit i.old i.tgt o).1.visit i.old i.tgt g).1.putsG i.tgt ((b.sp.visit i.old i.tgt o).1.visit i.old i.tgt g).2 (b.sp.visit i.old i.tgt o).2:=⟨_,rfl⟩
 rw[<-aQ]at hR
 obtain⟨S2,F⟩: ∃S2:zV->Prop,S2=λA=> ∃(w:Sp) (d:List (Int×Value)),dd i.old i.tgt s3 i.seen w d/\fP i.old i.tgt w d/\dx d/\GdSt H j {b with sp:=w} q {i with seen:=d} c D e E a o g 2 A:=⟨_,rfl⟩
 have m1: ∀{A:zV} {y:Hp} {u:Tr} {lv:Int},GdSt H j y q u c D e E a o g lv A->kX A e=(2-lv).toNat:=λS=>by unfold kX;rw[S.g3];rfl
 refine⟨λA=>GdSt H j b q i c D e E a o g 1 A\/S2 A,λA=>kX A e,.inl S8,?_⟩
 intro a1 ap
 have aa:a1[D]?=some (.cells #[vs (some a) 1 1] 31 (0,0)):=by
  rcases ap with S | S
  ·exact S.g2
  ·rw[F]at S;obtain⟨_,_,_,_,_,S⟩:=S;exact S.g2
 refine⟨some a,1,1,by rw[aG aa];rfl,λcw A=>(cw=0/\GdSt H j b q i c D e E a o g 1 A/\GdSt H j b q i c D e E a o g 1 a1)\/((cw=0\/cw=1)/\S2 A),λcw _=>(1-cw).toNat,?_,?_⟩
 ·rcases ap with S | S
  ·exact .inl ⟨rfl,S,S⟩
  ·exact .inr ⟨.inl rfl,S⟩
 rintro cw aj bm
 have ce:S2 aj-> ∃Z:zW,∃a0:Nat,∃aV:Nat,hat aj (Addr.mk D 0 none)=some (vs Z a0 aV)/\Z=some a/\a0=1:=λS=>by
  rw[F]at S;obtain⟨_,_,_,_,_,S⟩:=S
  exact⟨_,_,_,by rw[aG S.g2];rfl,rfl,rfl⟩
 rcases bm with⟨rfl,r,b9⟩ | ⟨t,r⟩
 ·rw[if_pos (by decide)]
  refine⟨a,rfl,⟨by decide,by decide⟩,o,g,by rw[show a.add (Int.toNat 0*2)=a from by unfold Addr.add;simp];exact r.row,λO x G l=>?_⟩
  obtain⟨L,M⟩:=eO (A3:=aN x (Addr.mk O 0 none) [vu o,vu g] 0) G l [vu o,vu g] rfl
  refine⟨L,λa2 m=>?_⟩
  obtain⟨k6,k⟩:=M rfl
  rw[<-m]at k6 k
  have bJ:a2[O]?=some (.cells #[vu o,vu g] 36 (0,0)):=k6
  have f:=r.ext k
  refine HC.mono (qq f hg) ?_
  rintro _ ak ⟨rfl,P⟩
  refine⟨_,rfl,?_⟩
  rw[if_pos (by
   rcases af with h | h
   ·simp[h]
   ·simp[h])]
  have z:=f.ext P
  refine⟨_,_,_,by rw[aG z.g4];rfl,_,rfl,⟨by decide,by decide⟩,?_⟩
  rw[show(Addr.mk e 0 none).add (Int.toNat 0*1)=Addr.mk e 0 none from rfl]
  refine⟨bR z.g3 _ _ _ (by simp),λa3 Y=>?_⟩
  have a6:=z.lost Y Q
  have cp:=r.fr.size
  have l3:=aZ z.g3
  have ay:O≠e:=by have:=aZ r.g3;omega
  have bh:Fr [e] ak a3:=(ju (n:=1) (vs:=[vi 2]) z.g3 rfl rfl).2 a3 Y |>.2
  have K:=bh.get (by simp;exact ay) (P.get bJ)
  refine⟨_,by rw[aG a6.g0];rfl,o,by rw[aG K];rfl,HC.mono (dZ a6.tg ho) ?_⟩
  rintro _ b6 ⟨rfl,ba,bi⟩
  have X:Fr (q.s::spB j) a3 b6:=bi.mono (λcw t _=>List.mem_cons_of_mem _ t)
  have B:=a6.go ba X ha J
  have be:O ∉ q.s::spB j:=λh=>by have:=J O h;omega
  have ah:=X.get be K
  refine⟨_,rfl,_,by rw[aG B.g0];rfl,_,by rw[aG B.g0];rfl,g,iN ah 1,HC.mono (dZ B.tg hg) ?_⟩
  rintro _ c6 ⟨rfl,bb,bj⟩
  have a7:=B.go bb (bj.mono (λcw t _=>List.mem_cons_of_mem _ t)) ha J
  refine⟨_,rfl,iw a7.g0,HC.mono (pm a7.tg (Sp.visit_word B.tg.ok hg) (Sp.visit_word T.ok ho)) ?_⟩
  rintro _ c7 ⟨bc,bk⟩
  have a8:=a7.go bc (bk.mono (λcw t _=>List.mem_cons_of_mem _ t)) ha J
  refine⟨_,by rw[aG a8.g0];rfl,HC.mono (ix a8.tg bB bC) ?_⟩
  rintro _ b7 ⟨w,d,V,U,bd,p,bl⟩
  have an:=a8.go bd bl ha J
  refine⟨.inr ?_,?_⟩
  ·rw[F];exact⟨w,d,by rw[aQ];exact V,U,p,an⟩
  ·show kX b7 e<kX a1 e
   rw[m1 an,m1 b9];decide
 ·have W:=r
  rw[F]at W
  obtain⟨w,d,V,U,p,S⟩:=W
  rcases t with rfl | rfl
  ·rw[if_pos (by decide)]
   refine⟨a,rfl,⟨by decide,by decide⟩,o,g,by rw[show a.add (Int.toNat 0*2)=a from by unfold Addr.add;simp];exact S.row,λO x G l=>?_⟩
   obtain⟨L,M⟩:=eO (A3:=aN x (Addr.mk O 0 none) [vu o,vu g] 0) G l [vu o,vu g] rfl
   refine⟨L,λa2 m=>?_⟩
   obtain⟨k6,k⟩:=M rfl
   rw[<-m]at k6 k
   have f:=S.ext k
   refine HC.mono (qq f hg) ?_
   rintro _ ak ⟨rfl,P⟩
   refine⟨_,rfl,?_⟩
   rw[if_neg (by simp),ag]
   exact⟨.inr ⟨.inr rfl,by rw[F];exact⟨w,d,V,U,p,f.ext P⟩⟩,show((1:Int)-1).toNat< ((1:Int)-0).toNat by decide⟩
  rw[if_neg (by decide)]
  refine⟨some a,1,1,by rw[aG S.g2];rfl,λoB oN oC cw A=>oB=none/\oN=0/\oC=0/\(cw=0\/cw=1)/\GdSt H j {b with sp:=w} q {i with seen:=d} c D e E a o g 2 A,λ_ _ _ cw _=>(1-cw).toNat,⟨rfl,rfl,rfl,.inl rfl,S⟩,?_⟩
  rintro _ _ _ cw c8 ⟨rfl,rfl,rfl,t,N⟩
  rcases t with rfl | rfl
  ·rw[if_pos (by decide)]
   refine⟨a,rfl,⟨by decide,by decide⟩,o,g,by rw[show a.add (Int.toNat 0*2)=a from by unfold Addr.add;simp];exact N.row,λO x G l=>?_⟩
   obtain⟨L,M⟩:=eO (A3:=aN x (Addr.mk O 0 none) [vu o,vu g] 0) G l [vu o,vu g] rfl
   refine⟨L,λa2 m=>?_⟩
   obtain⟨k6,k⟩:=M rfl
   rw[<-m]at k6 k
   have f:=N.ext k
   refine⟨_,_,_,by rw[aG f.g4];rfl,_,rfl,⟨by decide,by decide⟩,2,by rw[show(Addr.mk e 0 none).add (Int.toNat 0*1)=Addr.mk e 0 none from rfl,aG f.g3];rfl,?_⟩
   rw[if_neg (by decide),ag]
   exact⟨⟨rfl,rfl,rfl,.inr rfl,f⟩,show((1:Int)-1).toNat< ((1:Int)-0).toNat by decide⟩
  ·rw[if_neg (by decide)]
   exact hR _ _ ⟨rfl,w,d,V,U,N.tg,p,N.fr⟩
