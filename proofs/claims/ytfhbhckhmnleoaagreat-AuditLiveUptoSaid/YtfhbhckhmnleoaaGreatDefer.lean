/-
 Maps whose keys are numbers or strings, said of heaps. Proves nothing of any one program.
-/
import Derived.Test.YtfhbhckhmnleoaaGreatOwn
import Derived.Laws.Externs
import Derived.Laws.IdiomStrings
import Derived.Shelf.Abstract
import Derived.RangeFuncNested
import Derived.Scope
set_option linter.unusedVariables false
set_option linter.unusedSimpArgs false
namespace Go.Proofs.YtfhbhckhmnleoaaGreat
open Go
theorem Ew:type_of% @List.nodup_nil:=@List.nodup_nil
theorem Ev:type_of% @Array.toList_modify:=@Array.toList_modify
theorem Eu:type_of% @Array.toList_push:=@Array.toList_push
theorem Dk:type_of% @bind_assoc:=@bind_assoc
theorem C7:type_of% @List.map_append:=@List.map_append
theorem CM:type_of% @List.mem_append:=@List.mem_append
variable{d j:Nat}{i:Array MapEntry}{k o r:TypeId}
structure uC (α:Type) [DecidableEq α]where
 cell:α->Value
 desc:TypeDesc
 same: ∀a b,Instr.sameNow desc (cell a) (cell b)=some (decide (a=b))
 bits: ∀a,Instr.sameBits 10000 (cell a) (cell a)=true
 plain: ∀(P:Program) (t:TypeId) (e:Bool) (w:World) (a:α),P.underlying t=some desc->(Instr.checkKey e 10000 t (cell a)).run P w=.ok () w
def aY(k:IntKind):uC Int where
 cell:=Value.int k
 desc:=.int k
 same a b:=by
  simp only[Instr.sameNow,if_true,Dp]
  by_cases h:a=b<;>simp[h]
 bits a:=by simp[Instr.sameBits]
 plain P t e w a h:=by
  unfold Instr.checkKey
  rw[CL (x:=TypeDesc.int k) (w':=w) (by simp[underlying,program,Sem.run,h,Dr,pure,Result.andThen])]
  rfl
section
variable {α:Type} [DecidableEq α] (kk:uC α)
def vb(es:List MapEntry)(ks:List (α×Value)):Prop:=es.map (λe=>(e.key,e.val))=ks.map (λp=>(kk.cell p.1,p.2))
def yG(ks:List (α×Value))(k:α):Option Value:=(ks.find? (λp=>decide (k=p.1))).map (·.2)
def yM:List (α×Value)->α->Value->List (α×Value)
 | [],k,v=> [(k,v)]
 | p::r,k,v=>if k=p.1 then(k,v)::r else p::yM r k v
theorem ly{k:α}: ∀(d:List MapEntry) (f:List (α×Value)) (i:Nat),vb kk d f-> ∃r:Option (Nat×Value),Instr.findNow kk.desc (kk.cell k) d i=some r/\r.map (·.2)=yG f k/\
  (∀j v,r=some (j,v)->i<=j/\ ∃e,d[j-i]?=some e/\e.key=kk.cell k/\ ∀a,vb kk (d.modify (j-i) λe=>{e with key:=kk.cell k,val:=a}) (yM f k a))/\
  (r=none-> ∀a b,vb kk (d++[{key:=kk.cell k,val:=a,born:=b}]) (yM f k a))
 | [],[],i,_=>⟨none,rfl,rfl,λ_ _ h=>(by cases h),λ_ a b=>rfl⟩
 | [],_::_,_,h=>by simp[vb]at h
 | _::_,[],_,h=>by simp[vb]at h
 | e::d,p::f,i,h=>by
  have B:=h
  simp only[vb,List.map_cons,D8,DB]at h
  obtain⟨⟨hk,m⟩,n⟩:=h
  unfold Instr.findNow
  rw[hk,kk.same]
  by_cases c:k=p.1
  ·rw[zX c]
   refine⟨some (i,e.val),rfl,by simp[yG,c,m],λj v l=>?_,λh=>by cases h⟩
   cases l
   refine⟨CU _,e,by simp,by rw[hk,c],λa=>?_⟩
   rw[Nat.sub_self]
   simp only[yM,qB c]
   simp[vb,n]
  ·rw[zQ c]
   obtain⟨r,u,x,y,z⟩:=ly (k:=k) d f (i+1) n
   refine⟨r,u,by rw[x];simp[yG,c],λj v l=>?_,λhn a b=>?_⟩
   ·obtain⟨A,o,q,s,t⟩:=y j v l
    have g:j-i=(j-(i+1))+1:=by omega
    refine⟨by omega,o,by rw[g];simpa using q,s,λa=>?_⟩
    have:=t a
    rw[g]
    simp only[yM,za c]
    simp only[vb,List.modify_succ_cons,List.map_cons]at this⊢
    rw[this,hk,m]
   ·have:=z hn a b
    simp only[yM,za c]
    simp only[vb,List.cons_append,List.map_cons]at this⊢
    rw[this,hk,m]
def jR(t:TypeId)(x i:Value)(ok:Bool):Sem Next:=do pure (.value (<-Instr.lookup t x i ok))
def m8(t:TypeId)(m k v:Value):Sem Next:=do Instr.mapUpdate t m k v;pure .skip
variable {kk}
variable {P:Program} {w:World}
theorem kX(h:w.heap[d]?=some (.map i j)):(getObj d).run P w=.ok (.map i j) w:=by
 show Sem.run P (Sem.getObj d Sem.pure) w=_
 simp only[Sem.run,h]
theorem lM{o:Obj}(h:w.heap[d]?=some (.map i j)):(setObj d o).run P w=.ok () {w with heap:=w.heap.setIfInBounds d o}:=by
 show Sem.run P (Sem.setObj d o (Sem.pure ())) w=_
 simp only[Sem.run,h]
theorem jy{d:TypeDesc}(h:P.underlying k=some d):(underlying k).run P w=.ok d w:=by
 simp[underlying,program,Sem.run,h,Dr,pure,Result.andThen]
theorem ln{b:α}{a:List MapEntry}{r:Option (Nat×Value)}(hk:P.underlying k=some kk.desc)(h:Instr.findNow kk.desc (kk.cell b) a 0=some r):(Instr.findKey k (kk.cell b) a).run P w=.ok r w:=by
 unfold Instr.findKey
 rw[CL (jy hk)]
 rw[h];rfl
theorem iB{c:TypeId}{z:Value}{a:List (α×Value)}{k:α}(h:P.underlying o=some (.map r c))(hk:P.underlying r=some kk.desc)(l: ∀w,(zeroValue c).run P w=.ok z w)
  (hm:w.heap[d]?=some (.map i j)) (g:vb kk i.toList a) (b:Bool):
  (jR o (.map (some d)) (kk.cell k) b).run P w=.ok (.value (if b then .tuple #[(yG a k).getD z,.bool (yG a k).isSome]else(yG a k).getD z)) w:=by
 obtain⟨q,f,e,-,-⟩:=ly (k:=k) kk i.toList a 0 g
 unfold jR Instr.lookup
 simp only[Dk]
 rw[CL (jy h)]
 simp only[Dk]
 rw[CL (kX hm)]
 simp only[DD,Dk]
 rw[CL (kk.plain P r i.isEmpty w k hk),CL (ln hk f)]
 cases q with
 | none=>
  simp only[Dk]
  rw[CL (l w)]
  rw[<-e]
  cases b<;>rfl
 | some q=>
  obtain⟨m,v⟩:=q
  rw[<-e]
  cases b<;>rfl
theorem nz{m:TypeId}{c:List (α×Value)}{k:α}{v:Value}(l:P.underlying o=some (.map r m))(hk:P.underlying r=some kk.desc)
  (hm:w.heap[d]?=some (.map i j)) (u:vb kk i.toList c):
  ∃(a:Array MapEntry) (b:Nat),(m8 o (.map (some d)) (kk.cell k) v).run P w=.ok .skip {w with heap:=aM w.heap d (.map a b)}/\vb kk a.toList (yM c k v):=by
 obtain⟨q,h,y,s,t⟩:=ly (k:=k) kk i.toList c 0 u
 cases q with
 | none=>
  refine⟨i.push {key:=kk.cell k,val:=v,born:=j},j+1,?_,by rw[Eu];exact t rfl v j⟩
  unfold m8 Instr.mapUpdate
  simp only[Dk]
  rw[CL (jy l)]
  simp only[Dk]
  rw[CL (kX hm)]
  simp only[Dk]
  rw[CL (kk.plain P r false w k hk),CL (ln hk h)]
  simp only[]
  rw[CL (lM hm)]
  rfl
 | some q=>
  obtain⟨z,x⟩:=q
  obtain⟨-,e,f,n,g⟩:=s z x rfl
  rw[Nat.sub_zero]at f g
  refine⟨i.modify z λe=>{e with key:=kk.cell k,val:=v},j,?_,by rw[Ev];exact g v⟩
  have p:(i[z]?).map (·.key)=some (kk.cell k):=by rw[<-Array.getElem?_toList,f];simp[n]
  unfold m8 Instr.mapUpdate
  simp only[Dk]
  rw[CL (jy l)]
  simp only[Dk]
  rw[CL (kX hm)]
  simp only[Dk]
  rw[CL (kk.plain P r false w k hk),CL (ln hk h)]
  simp only[Dk]
  rw[p]
  unfold Instr.keyThatStays
  simp only[Option.getD_some,kk.bits,if_true,DD]
  rw[CL (lM hm)]
  rfl
def Born(es:Array MapEntry)(cl:Nat):Prop:=(es.toList.map (·.born)).Nodup/\ ∀e∈es.toList,e.born<cl
def lT(es:Array MapEntry)(k:Value)(s:Int):Prop:= ∃(i:Nat) (e:MapEntry),es.toList[i]?=some e/\e.key=k/\(e.born:Int)=s/\ ∀j e',j<i->es.toList[j]?=some e'->e'.key≠k
theorem sF:Born #[] 0:=⟨Ew,λ_ h=>by cases h⟩
def nO(t:TypeId)(m k:Value):Sem Next:=do pure (.value (<-Instr.mapEntry t m k))
def po(t:TypeId)(m s v:Value):Sem Next:=do Instr.entryStore t m s v;pure .skip
theorem nm{k:α}: ∀(b:List MapEntry) (f:List (α×Value)) (i j:Nat) (v:Value),vb kk b f->Instr.findNow kk.desc (kk.cell k) b i=some (some (j,v))-> ∀(q:Nat) c,i+q<j->b[q]?=some c->c.key≠kk.cell k
 | [],_,i,j,v,_,h=>by simp[Instr.findNow]at h
 | e::b,[],i,j,v,h,_=>by simp[vb]at h
 | e::b,p::f,i,j,v,h,hf=>by
  simp only[vb,List.map_cons,D8,DB]at h
  obtain⟨⟨hk,r⟩,n⟩:=h
  unfold Instr.findNow at hf
  rw[hk,kk.same]at hf
  intro q c o a
  by_cases d:k=p.1
  ·rw[zX d]at hf
   simp only[Dp,DB]at hf
   omega
  ·rw[zQ d]at hf
   cases q with
   | zero=>
    simp only[List.getElem?_cons_zero,Dp]at a
    subst a
    rw[hk]
    intro l
    have g:=kk.same k p.1
    have m:=kk.same k k
    rw[l,m]at g
    simp[d]at g
   | succ q=>
    rw[List.getElem?_cons_succ]at a
    exact nm b f (i+1) j v n hf q c (by omega) a
theorem uD{k:α}{v:Value}: ∀(b:List MapEntry) (f:List (α×Value)) (i:Nat) (e:MapEntry),vb kk b f->b[i]?=some e->e.key=kk.cell k->(∀j d,j<i->b[j]?=some d->d.key≠kk.cell k)->vb kk (b.modify i λe=>{e with val:=v}) (yM f k v)
 | [],_,i,e,_,h,_,_=>by simp at h
 | e0::b,[],i,e,h,_,_,_=>by simp[vb]at h
 | e0::b,p::f,i,e,h,he,hk,hf=>by
  simp only[vb,List.map_cons,D8,DB]at h
  obtain⟨⟨c,g⟩,m⟩:=h
  cases i with
  | zero=>
   simp only[List.getElem?_cons_zero,Dp]at he
   subst he
   have a:k=p.1:=by
    by_cases a:k=p.1
    ·exact a
    have l:=kk.same k p.1
    have o:=kk.same k k
    rw[<-c,hk,o]at l
    simp[a]at l
   simp only[yM,qB a]
   simp[vb,m,hk]
  | succ i=>
   rw[List.getElem?_cons_succ]at he
   have a: ¬k=p.1:=λa=>hf 0 e0 (by omega) rfl (by rw[c,a])
   simp only[yM,za a]
   have:=uD (v:=v) b f i e m he hk (λj d q n=>hf (j+1) d (by omega) (by rw[List.getElem?_cons_succ];exact n))
   simp only[vb,List.modify_succ_cons,List.map_cons]at this⊢
   rw[this,c,g]
theorem nP{k:α}: ∀(b:List MapEntry) (f:List (α×Value)) (i:Nat),vb kk b f->Instr.findNow kk.desc (kk.cell k) b i=some none-> ∀(q:Nat) c,b[q]?=some c->c.key≠kk.cell k
 | [],_,i,_,_=>λq c h=>by simp at h
 | e::b,[],i,h,_=>by simp[vb]at h
 | e::b,p::f,i,h,hf=>by
  simp only[vb,List.map_cons,D8,DB]at h
  obtain⟨⟨hk,n⟩,m⟩:=h
  unfold Instr.findNow at hf
  rw[hk,kk.same]at hf
  intro q c a
  by_cases d:k=p.1
  ·rw[zX d]at hf
   simp at hf
  ·rw[zQ d]at hf
   cases q with
   | zero=>
    simp only[List.getElem?_cons_zero,Dp]at a
    subst a
    rw[hk]
    intro j
    have g:=kk.same k p.1
    have l:=kk.same k k
    rw[j,l]at g
    simp[d]at g
   | succ q=>
    rw[List.getElem?_cons_succ]at a
    exact nP b f (i+1) m hf q c a
theorem qR{k:α}{v:Value}: ∀(b:List (α×Value)),yG b k=some v->yM b k v=b
 | [],h=>by simp[yG]at h
 | p::b,h=>by
  by_cases a:k=p.1
  ·simp only[yM,qB a]
   simp[yG,a]at h
   rw[<-h,a]
  ·simp only[yM,za a]
   rw[qR b (by simpa[yG,a]using h)]
theorem oS{β:Type}: ∀(l:List β) (j:Nat) (f:β->β),(∀e,l[j]?=some e->f e=e)->l.modify j f=l
 | [],j,f,_=>by simp
 | a::l,0,f,h=>by simp[h a rfl]
 | a::l,j+1,f,h=>by rw[List.modify_succ_cons,oS l j f (λe b=>h e (by simpa using b))]
theorem oT{l:List MapEntry}{f:MapEntry->MapEntry}(b: ∀e,(f e).born=e.born):(l.modify d f).map (·.born)=l.map (·.born):=by
 induction l generalizing d with
 | nil=>simp
 | cons a l c=>cases d<;>simp[b,c]
theorem Born.modify{f:MapEntry->MapEntry}(h:Born i d)(a: ∀e,(f e).born=e.born):Born (i.modify j f) d:=by
 unfold Born at*
 rw[Ev]
 refine⟨by rw[oT a];exact h.1,λe k=>?_⟩
 have:e.born∈(i.toList.modify j f).map (·.born):=List.mem_map_of_mem k
 rw[oT a,CT]at this
 obtain⟨b,c,g⟩:=this
 rw[<-g];exact h.2 b c
theorem pK{E:TypeId}{z:Value}{H:zV}{g:List (α×Value)}{k:α}(I:P.underlying o=some (.map r E))(hk:P.underlying r=some kk.desc)(V: ∀w,(zeroValue E).run P w=.ok z w)
  (hm:H[d]?=some (.map i j)) (y:vb kk i.toList g) (v:Born i j):
  SS P (nO o (.map (some d)) (kk.cell k)) H (λu J=> ∃f n sp l,J=aM H d (.map f n)/\vb kk f.toList (yM g k l)/\Born f n/\lT f (kk.cell k) sp/\u=.tuple #[l,vi sp]):=by
 intro w U
 subst U
 obtain⟨q,t,O,Q,R⟩:=ly (k:=k) kk i.toList g 0 y
 cases q with
 | none=>
  refine⟨_,{w with heap:=aM w.heap d (.map (i.push {key:=kk.cell k,val:=z,born:=j}) (j+1))},?_,⟨rfl,rfl,rfl,CU _⟩,_,_,j,z,rfl,by rw[Eu];exact R rfl z j,⟨?_,?_⟩,⟨i.toList.length,_,by rw[Eu,List.getElem?_append_right (CU _),Nat.sub_self];rfl,rfl,rfl,?_⟩,rfl⟩
  ·unfold nO Instr.mapEntry
   simp only[Dk]
   rw[CL (jy I)]
   simp only[Dk]
   rw[CL (kX hm)]
   simp only[Dk]
   rw[CL (kk.plain P r false w k hk),CL (ln hk t)]
   simp only[Dk]
   rw[CL (V w),CL (lM hm)]
   rfl
  ·rw[Eu,C7]
   refine List.nodup_append.2 ⟨v.1,by simp,λa S b B=>?_⟩
   obtain⟨e,K,m⟩:=CT.1 S
   have:=v.2 e K
   simp at B
   omega
  ·intro e c
   rw[Eu]at c
   rcases CM.1 c with h | h
   ·have:=v.2 e h;omega
   ·simp at h;rw[h];show j<j+1;omega
  ·intro W p T c
   rw[Eu,List.getElem?_append_left T]at c
   exact nP i.toList g 0 y t W p c
 | some q=>
  obtain⟨W,l⟩:=q
  obtain⟨-,e,m,F,L⟩:=Q W l rfl
  rw[Nat.sub_zero]at m L
  have N:(i[W]?).map (·.key)=some (kk.cell k):=by rw[<-Array.getElem?_toList,m];simp[F]
  have s:(i[W]?).map (·.born)=some e.born:=by rw[<-Array.getElem?_toList,m];rfl
  refine⟨_,{w with heap:=aM w.heap d (.map (i.modify W λe=>{e with key:=kk.cell k}) j)},?_,⟨rfl,rfl,rfl,CU _⟩,_,_,e.born,l,rfl,?_,v.modify (λ_=>rfl),⟨W,{e with key:=kk.cell k},by rw[Ev,List.getElem?_modify,m];simp,rfl,rfl,?_⟩,rfl⟩
  ·unfold nO Instr.mapEntry
   simp only[Dk]
   rw[CL (jy I)]
   simp only[Dk]
   rw[CL (kX hm)]
   simp only[Dk]
   rw[CL (kk.plain P r false w k hk),CL (ln hk t)]
   simp only[Dk]
   rw[N]
   unfold Instr.keyThatStays
   simp only[Option.getD_some,kk.bits,if_true,DD]
   rw[CL (lM hm)]
   have M:(i[W]?).map (λx=>(x.born:Nat))=some e.born:=s
   cases D:i[W]? with
   | none=>rw[D]at s;cases s
   | some A=>
    rw[D]at s
    have:A.born=e.born:=by simpa using s
    rw[<-this];rfl
  ·have A:yG g k=some l:=O.symm
   rw[Ev,qR g A,oS i.toList W _ (λp G=>by rw[m]at G;cases G;rw[<-F])]
   exact y
  ·intro q p D c
   rw[Ev,List.getElem?_modify]at c
   have:i.toList[q]?=some p:=by
    have C: ¬W=q:=λe=>by omega
    simpa[C]using c
   exact nm i.toList g 0 W l y t q p (by omega) this
theorem pL{H:zV}{h:List (α×Value)}{F:α}{s:Int}{v:Value}(hm:H[d]?=some (.map i j))(x:vb kk i.toList h)(n:Born i j)(z:lT i (kk.cell F) s):
  ∀w,w.heap=H-> ∃l,(po k (.map (some d)) (vi s) v).run P w=.ok .skip l/\Same w l/\(λo=> ∃a,o=aM H d (.map a j)/\vb kk a.toList (yM h F v)/\Born a j) l.heap:=by
 intro w A
 subst A
 obtain⟨D,e,c,p,q,r⟩:=z
 refine⟨{w with heap:=aM w.heap d (.map (i.modify D λe=>{e with val:=v}) j)},?_,⟨rfl,rfl,rfl,CU _⟩,_,rfl,by rw[Ev];exact uD i.toList h D e x c p r,n.modify (λ_=>rfl)⟩
 have f:D<i.toList.length:=(List.getElem?_eq_some_iff.1 c).1
 have y:i.findIdx? (λe=>(e.born:Int)==s)=some D:=by
  rw[Array.findIdx?_eq_some_iff_getElem]
  refine⟨by simpa using f,?_,λE C=>?_⟩
  ·have:i[D]'(by simpa using f)=e:=by
    have:=c;rw[Array.getElem?_toList,Array.getElem?_eq_getElem (by simpa using f)]at this;simpa using this
   simp[this,q]
  ·have b:E<i.size:=by simp at f;omega
   have m:(i.toList.map (·.born))[E]?≠(i.toList.map (·.born))[D]?:=by
    intro g
    have:=(List.getElem?_inj (by simpa using b) n.1).1 g
    omega
   have t:(i.toList.map (·.born))[D]?=some e.born:=by rw[List.getElem?_map,c];rfl
   have u:(i.toList.map (·.born))[E]?=some i[E].born:=by rw[List.getElem?_map,Array.getElem?_toList,Array.getElem?_eq_getElem b];rfl
   rw[t,u]at m
   have B:i[E].born≠e.born:=λg=>m (by rw[g])
   have: ¬((i[E].born:Int)=s):=by omega
   simpa using this
 unfold po Instr.entryStore
 simp only[Dk,DD]
 rw[CL (kX hm)]
 simp only[Dk,asInt,asIntOf,DD]
 rw[y]
 simp only[]
 rw[CL (lM hm)]
 rfl
end
variable{d:zv}{j:Facts}{k:Bool}{o:Value}{r:FuncId}{u:Addr}
variable {ds:List Deferred} {ro:Option Nat}
def qS(fv:Value)(args:Array Value):Sem Next:=do
 let d<-Deferred.ofValue fv args
 invoke d.target d.args
def AL(R:zv)(w:World):Ending->World->Prop:=λe w'=> ∃v,e=.returned v/\Same w w'/\R v w'.heap
def FE(P:Program)(fv:Value)(args:Array Value)(H:zV)(R:zv):Prop:=
 ∃(f:FuncId) (first caps:Array Value),fv=.func (.func f) first caps/\Enters P f/\HC P f (first++args++caps) H R
def YC(P:Program)(fv:Value)(args:Array Value)(H:zV)(R:zv):Prop:=
 ∃l,fv=.func (.yield l) #[] #[]/\ ∀w,w.heap=H-> ∃fn tmps assign body,(Instr.yield l args).run P w=.ok (.round l fn tmps assign body) w/\RoundIn Fence.wide 0 P l fn tmps assign body w (AL R w)
def FC(P:Program)(fv:Value)(args:Array Value)(H:zV)(R:zv):Prop:=FE P fv args H R\/YC P fv args H R
theorem FE.mono{P:Program}{args:Array Value}{H:zV}{R b:zv}(h:FE P o args H R)(k: ∀v H',R v H'->b v H'):FE P o args H b:=by
 obtain⟨f,first,a,j,g,d⟩:=h
 exact⟨f,first,a,j,g,d.mono k⟩
theorem YC.mono{P:Program}{args:Array Value}{H:zV}{R d:zv}(h:YC P o args H R)(r: ∀v H',R v H'->d v H'):YC P o args H d:=by
 obtain⟨l,q,p⟩:=h
 refine⟨l,q,λw s=>?_⟩
 obtain⟨fn,tmps,a,b,f,g⟩:=p w s
 exact⟨fn,tmps,a,b,f,g.mono λe t ⟨v,j,k,m⟩=>⟨v,j,k,r _ _ m⟩⟩
theorem FC.mono{P:Program}{args:Array Value}{H:zV}{R a:zv}(h:FC P o args H R)(b: ∀v H',R v H'->a v H'):FC P o args H a:=
 h.elim (λh=> .inl (h.mono b)) (λh=> .inr (h.mono b))
theorem FE.of{P:Program}{first a args:Array Value}{H:zV}(b:Enters P r)(h:HC P r (first++args++a) H d):FE P (.func (.func r) first a) args H d:=⟨r,first,a,rfl,b,h⟩
theorem FE.of2{P:Program}{first a args b:Array Value}{H:zV}(g:Enters P r)(f:first++args++a=b)(h:HC P r b H d):FE P (.func (.func r) first a) args H d:=.of g (f▸h)
theorem FC.of{P:Program}{first a args:Array Value}{H:zV}(b:Enters P r)(h:HC P r (first++args++a) H d):FC P (.func (.func r) first a) args H d:=.inl (.of b h)
theorem vG{P:Program}{first a args:Array Value}{w:World}(b:Enters P r):(qS (.func (.func r) first a) args).run P w=.ok (.enter r (first++args++a)) w:=by
 have h:=b (first++args++a) w
 simpa[qS,Deferred.ofValue,invoke]using h
theorem sG{P:Program}{l:Nat}{args:Array Value}{w:World}:(qS (.func (.yield l) #[] #[]) args).run P w=(Instr.yield l args).run P w:=by
 simp[qS,Deferred.ofValue,invoke]
section
variable {P:Program} {n:Nat} {w0:World} {e e':Env} {H H':zV} {Q:Exit->Act->World->Prop} {K:Act->World->Prop} {c x y:Code}
theorem pi{D:Oper}{a:Act}{w:World}{args:Array Value}{C:Option Tmp}{K:Act->World->Prop}(p:D.dst=C)(q:(D.semAt (Am ro).round a.eval).run P w=(qS o args).run P w)
  (m:FC P o args w.heap d) (h: ∀v j,Same w j->d v j.heap->K (a.put C v) j):D.wpIn (Am ro) 0 P a w K Q:=by
 refine⟨λ_ _=>trivial,?_⟩
 rw[q]
 subst p
 rcases m with⟨f,first,u,rfl,B,m⟩ | ⟨l,rfl,m⟩
 ·rw[vG B]
  simp only[Oper.uponIn]
  refine⟨λs=>(by cases s),Ex (show CallsIn (Am ro) _ P f _ w _ from Ey.2 (m w rfl)) λen j ⟨v,g,t,r⟩=>?_⟩
  subst g
  exact h v j t r
 ·obtain⟨fn,tmps,b,k,z,A⟩:=m w rfl
  rw[sG,z]
  simp only[Oper.uponIn]
  refine⟨λs=>(by cases s),RoundIn.mono (show RoundIn (Am ro) _ P l fn tmps b k w _ from A) λen j ⟨v,g,t,r⟩=>?_⟩
  subst g
  exact h v j t r
theorem na{ops:Array Oper}{i:Nat}(B:Option Tmp)(p:Value)(args:Array Value)(z: ∀w,dE P ops i e w=some (B,(qS p args).run P w))(r:FC P p args H d)
  (h: ∀v H',d v H'-> ∃e',fU n e B v e'/\u3 ro P n ds w0 ops (i+1) e' H' Q):u3 ro P n ds w0 ops i e H Q:=λa w k u t=>by
 obtain⟨o,s,f,m,g,j⟩:=jE (z w)
 rw[s]
 unfold wpListIn
 rw[k.wanted f]
 simp only[if_true]
 refine pi (ro:=ro) g (by rw[k.sem m,j]) (by rw[u];exact r) λv A b q=>?_
 obtain⟨e',l,hk⟩:=h v _ q
 exact hk _ _ (k.putSub l) rfl (t.trans b)
def qT(fn:FuncId)(tm:Array Value)(ps:Array Tmp)(assign body:Code)(D:Nat):LoopState->Option Code->Obj:=λst pe=> .loop {state:=st,pending:=pe,fn,tmps:=tm,params:=ps,assign,body,defers:=D}
def sH(rc:LoopState->Option Code->Obj):Prop:= ∃fn tm ps assign body D,rc=qT fn tm ps assign body D
def mp(e:Env):List Tmp->List Value->Env
 | t::ts,v::vs=>mp ((t,v)::e) ts vs
 | _,_=>e
theorem nn: ∀(a:List Tmp) (vs:List Value) (e:Env) (b:Array Value),Agree n ds e {tmps:=b,defers:=ds}->a.all (λt=>Nat.blt t n)=true->
  Agree n ds (mp e a vs) {tmps:=(a.zip vs).foldl (λtmps p=>tmps.setIfInBounds p.1 p.2) b,defers:=ds}
 | [],_,e,b,h,_=>by simpa[mp]using h
 | t::a,[],e,b,h,_=>by simpa[mp]using h
 | t::a,v::vs,e,b,h,hn=>by
  simp only[List.all_cons,CZ]at hn
  simp only[mp,List.zip_cons_cons,List.foldl_cons]
  refine nn a vs _ _ ?_ hn.2
  have f:=h.put (d:=some t) (v:=v) (e':=(t,v)::e) (by simp[yN,hn.1])
  exact f
theorem qF(w:World)(l:Nat)(o:Obj):(w.putObj l o).heap=aM w.heap l o:=rfl
theorem lz{j:LoopState->Option Code->Obj}{l:Nat}(g:sH j)(r:H[l]?=some (j .ready none))
  (h: ∀k,k=aM H l (j .busy none)->At n [] w0 e k (x.wpR (some l) P (roundPost P l (AL d w0)))):
  At n [] w0 e H (λa w=> ∃p,(Instr.beginRound l).run P w=.ok () p/\x.wpR (some l) P (roundPost P l (AL d w0)) a p):=λa w q o f=>by
 obtain⟨fn,s,ps,b,m,D,rfl⟩:=g
 refine⟨_,run_beginRound (by rw[o];exact r) rfl,h _ rfl _ _ q (by rw[qF,o];rfl) ⟨f.os,f.tape,f.output,f.drawn⟩⟩
theorem qU{j:LoopState->Option Code->Obj}{l:Nat}{w:World}(a:Option Code)(g:sH j)(o:w.heap[l]?=some (j .busy none))(f:Same w0 w)
  (h:d (.bool a.isNone) (aM w.heap l (j (if a.isNone then .ready else .done) a))): ∃v m,(Instr.endRound l a).run P w=.ok v m/\AL d w0 (.returned v) m:=by
 obtain⟨fn,p,ps,b,k,D,rfl⟩:=g
 exact⟨_,_,run_endRound a o,_,rfl,⟨f.os,f.tape,f.output,f.drawn⟩,h⟩
theorem bW{f:LoopState->Option Code->Obj}{l:Nat}(b:sH f)(j:H[l]?=some (f .busy none))(h:d VT (aM H l (f .ready none))):At n ds w0 e H (roundPost P l (AL d w0) .normal):=λa w m g k=>
 qU none b (by rw[g];exact j) k (by rw[g];exact h)
theorem vH{f:LoopState->Option Code->Obj}{l:Nat}(b:sH f)(j:H[l]?=some (f .busy none))(h:d VF (aM H l (f .done (some .ret)))):At n ds w0 e H (roundPost P l (AL d w0) .ret):=λa w m g k=>
 qU (some .ret) b (by rw[g];exact j) k (by rw[g];exact h)
theorem tS{a:Act}{ps:Array Tmp}{b f:Code}{D l:Nat}{args:Array Value}(m:Agree n ds e a)(g:ps.toList.all (λt=>Nat.blt t n)=true)(j:args.size=ps.size)(v:H[l]?=some (qT r a.tmps ps b f D .ready none))
  (h: ∀q,At n [] q (mp e ps.toList args.toList) H (b.wpR (some l) P (Exit.then (λa w=> ∃s,(Instr.beginRound l).run P w=.ok () s/\f.wpR (some l) P (roundPost P l (AL d q)) a s) (λ_ _ _=>False)))):
  FC P (.func (.yield l) #[] #[]) args H d:=by
 refine .inr ⟨l,rfl,λw o=>⟨_,_,_,_,run_yield (by rw[o];exact v) j,?_⟩⟩
 refine roundIn_of_wpIn (F:=Fence.wide) trivial ?_
 refine h w _ w ?_ o (D0 w)
 have k:=nn (n:=n) (ds:=[]) ps.toList args.toList e a.tmps ⟨m.size,rfl,m.vals⟩ g
 have u:(ps.zip args).foldl (λtmps (x:Tmp×Value)=>tmps.setIfInBounds x.1 x.2) a.tmps=(ps.toList.zip args.toList).foldl (λtmps p=>tmps.setIfInBounds p.1 p.2) a.tmps:=by
  rw[<-Array.foldl_toList,Array.toList_zip]
 rw[<-u]at k
 exact k
theorem lA{g:Operand}{ps:Array Tmp}{assign body:Code}(L:Value)(R:c=.rangeFunc g ps assign body)(U:kt e g=some L)(G:ps.toList.all (λt=>Nat.blt t n)=true)
  (h: ∀(r:LoopState->Option Code->Obj) (l:Nat) (J:zV),sH r->l=H.size+1->J=(H.push (.deferred (some []))).push (r .ready none)->
   (∀(args:Array Value) (H':zV) (B:zv),args.size=ps.size->H'[l]?=some (r .ready none)->
    (∀M,At n [] M (mp e ps.toList args.toList) H' (assign.wpR (some l) P (Exit.then (λa w=> ∃N,(Instr.beginRound l).run P w=.ok () N/\body.wpR (some l) P (roundPost P l (AL B M)) a N) (λ_ _ _=>False))))->
    FC P (.func (.yield l) #[] #[]) args H' B)->
   FE P L #[.func (.yield l) #[] #[]] J (λ_ z=>
    (z[l]?=some (r .ready none)/\ ∀s,s=aM z l (r .exhausted none)->At n ({target:=.collected H.size,args:= #[]}::ds) w0 e s (Q .normal))\/
    (∃j,z[l]?=some (r .done (some j))/\ ∀s,s=aM z l (r .exhausted (some j))->At n ({target:=.collected H.size,args:= #[]}::ds) w0 e s (j.wpR none P Q)))):
  At n ds w0 e H (c.wpR none P Q):=λa w m A X=>by
 rw[R]
 refine wpIn_rangeFunc λfn T=>?_
 obtain⟨f,first,d,rfl,S,p⟩:=h (qT fn a.tmps ps assign body w.heap.size) (w.heap.size+1) ((w.heap.push (.deferred (some []))).push (qT fn a.tmps ps assign body w.heap.size .ready none)) ⟨_,_,_,_,_,_,rfl⟩ (by rw[A]) (by rw[A])
  (λargs H' B I u W=>tS m G I u W)
 have F:=m.eval U
 obtain⟨k,o⟩: ∃k,(w.alloc (.deferred (some []))).alloc (qT fn a.tmps ps assign body w.heap.size .ready none)=k:=⟨_,rfl⟩
 have C:k.heap=(w.heap.push (.deferred (some []))).push (qT fn a.tmps ps assign body w.heap.size .ready none):=by rw[<-o];rfl
 have D:Same w k:=by rw[<-o];exact⟨rfl,rfl,rfl,CU _⟩
 refine⟨w.heap.size+1,[{target:=.collected w.heap.size,args:= #[]}],k,{target:=.fn (.func f) d,args:=first++ #[.func (.yield (w.heap.size+1)) #[] #[]]},k,f,first++ #[.func (.yield (w.heap.size+1)) #[] #[]]++d,k,by rw[<-o];exact run_enterLoop_outer _ _ _ _ _,?_,?_,?_,λV=>(by cases V),?_⟩
 ·have hm:(rangeCall g (w.heap.size+1)).args.map a.eval= #[.func (.yield (w.heap.size+1)) #[] #[]]:=by simp[rangeCall,Act.eval]
  show(Deferred.ofValue (a.eval g) ((rangeCall g (w.heap.size+1)).args.map a.eval)).run P k=_
  rw[hm,F];rfl
 ·intro _ _;trivial
 ·have:=S (first++ #[.func (.yield (w.heap.size+1)) #[] #[]]++d)
  simpa[invoke]using this _
 ·refine Ex (Ey.2 (p k C)) λen Y ⟨v,E,q,O⟩=>?_
  subst E
  have b:Same w0 Y:=(X.trans D).trans q
  rcases O with⟨u,hk⟩ | ⟨j,u,hk⟩
  ·refine⟨none,_,run_endLoop u (by simp),?_⟩
   refine hk _ rfl _ _ ⟨m.size,?_,m.vals⟩ rfl ⟨b.os,b.tape,b.output,b.drawn⟩
   simp[m.defers,A]
  ·refine⟨some j,_,run_endLoop u (by simp),?_⟩
   refine hk _ rfl _ _ ⟨m.size,?_,m.vals⟩ rfl ⟨b.os,b.tape,b.output,b.drawn⟩
   simp[m.defers,A]
end
theorem sI{ro:Option Nat}{P:Program}{j:Region.Mode}{ops:Array Oper}{Q:Exit->Act->World->Prop}{S d:Array Bool->World->Prop}(g: ∀L w,d L w->S L w): ∀(b:Nat) (L:Array Bool) (a:Act) (w:World),BB ro P j ops Q d b L a w->BB ro P j ops Q S b L a w
 | 0,_,_,_,h=>h
 | b+1,_,_,_,h=>⟨h.1,λi l=>wpOpIn_mono (λk m f=>⟨g _ _ f.1,sI g b _ k m f.2⟩) (h.2 i l)⟩
theorem vI{P:Program}{n:Nat}{ds:List Deferred}{ro:Option Nat}{w0:World}{e:Env}{H:zV}{Q:Exit->Act->World->Prop}{ops:Array Oper}{b:Nat}{L:Array Bool}(f:Nat×Addr×List Value)(q:aL H f.2.1 0 f.2.2)
  (h:yO ro P n ds w0 ops (f::j) b L e H Q):yO ro P n ds w0 ops j b L e H Q:=λa w o m r p k=>
 sI (λL w h g l d=>h g (Dt _ l) d) b L a w (h a w o m r p (λg l d=>by
  cases l with
  | head=>rw[m];exact q
  | tail _ hm=>exact k g hm d))
abbrev pa(b:Nat):zW:=some (Addr.mk b 0 none)
theorem BL:(∀b:Bool,(true || b)=true)/\(∀b:Bool,(false || b)=b)/\(∀b:Bool,(b || true)=true)/\(∀b:Bool,(b || false)=b)/\(∀b:Bool,(true && b)=b)/\(∀b:Bool,(false && b)=false)/\(∀b:Bool,(b && true)=b)/\(∀b:Bool,(b && false)=false)/\((!true)=false)/\((!false)=true)/\(∀x y:Bool,cond true x y=x)/\(∀x y:Bool,cond false x y=y):=
 ⟨by simp,by simp,by simp,by simp,by simp,by simp,by simp,by simp,rfl,rfl,by simp,by simp⟩
abbrev ca(c:Code):Code:=Code.fa c
abbrev cb(c:Code):Code:=Code.fb c
def bv(n m:Nat):Array Bool:=((List.range n).map λi=>m.testBit i).toArray
abbrev ad(b:Nat):Addr:=Addr.mk b 0 none
abbrev DR(a b:Int)(c:Bool)(d:zW)(e f:Nat)(g:ByteArray)(i:zW)(j k:Nat):List Value:=[vi a,.int .i32 b,.bool c,vs d e f,.string g,vs i j k]
def mN(k:Nat)(l:List Nat):Bool:=l.foldr (λx r=>cond (Nat.beq x k) true r) false
def ed(d:List Nat)(a:Env)(e:Env):Env:=e.foldr (λp r=>cond (mN p.1 d) r (p::r)) a
theorem sa{P:Program}{fn:Func}(c:Code)(n:Nat){args:Array Value}{H:zV}(g:P.funcs[r]?=some fn)
  (h: ∀(w0:World) (Q:Exit->Act->World->Prop),(∀a w,kI P fn w0 d a w->Q .ret a w/\Q .normal a w)->At n [] w0 (Bd 0 args.toList) H (c.wpR none P Q)) (f:fn.body=some c:=by kernel_rfl) (hn:fn.ntmps=n:=by kernel_rfl) (b:Nat.ble args.size n=true:=by kernel_rfl):HC P r args H d:=
 wP n g f hn (Nat.le_of_ble_eq_true b) h
section
variable {P:Program} {n:Nat} {ds:List Deferred} {ro:Option Nat} {w0:World} {e:Env} {H:zV} {Q Q':Exit->Act->World->Prop} {K:Act->World->Prop} {c:Code} {ops:Array Oper} {i:Nat}
theorem sk{e' e:Env}(h:e'.map (λp=>e.get p.1)=e'.map (λp=>some p.2):=by kernel_rfl):Sub e' e:=h
theorem pk{n:Nat}{e:Env}{d:Option Nat}{e':Env}(h:(yN n e d o).map (λa=>e'.map (λp=>a.get p.1))=some (e'.map (λp=>some p.2)):=by kernel_rfl):fU n e d o e':=h
theorem Cx(id:Nat)(x y:Code)(h:u3 ro P n ds w0 (Code.ops x) 0 e H (Exit.then (y.wpR ro P Q) Q))(a:c=.seq x y:=by kernel_rfl)(b:x=.region id (Code.ops x) false:=by kernel_rfl):At n ds w0 e H (c.wpR ro P Q):=
 vq x y a (pv id (Code.ops x) b h)
theorem yH(h:At n ds w0 e H K)(a:ops.toList.drop i=[]:=by kernel_rfl):u3 ro P n ds w0 ops i e H (Exit.then K Q):=uv a (aC h)
theorem va(k:Nat)(e':Env)(h:u3 ro P n ds w0 ops (i+k) e' H Q)(a: ∀w,BC e' (Ao P n ops ((ops.toList.drop i).take k) e w)=keep e' w:=by intro _;kernel_rfl):u3 ro P n ds w0 ops i e H Q:=ux k e' a h
theorem u5(k:Nat)(e':Env)(h:At n ds w0 e' H K)(b: ∀w,BC e' (Ao P n ops ((ops.toList.drop i).take k) e w)=keep e' w:=by intro _;kernel_rfl)(a:ops.toList.drop (i+k)=[]:=by kernel_rfl):u3 ro P n ds w0 ops i e H (Exit.then K Q):=
 ux k e' b (uv a (aC h))
theorem T_s(x y:Code)(h:At n ds w0 e H (x.wpR ro P (Exit.then (y.wpR ro P Q) Q)))(a:c=.seq x y:=by kernel_rfl):At n ds w0 e H (c.wpR ro P Q):=vq x y a h
theorem T_t(o:Tmp)(x y:Code)(h:At n ds w0 e H (x.wpR ro P Q))(a:c=.cond (.tmp o) x y:=by kernel_rfl)(b:kt e (.tmp o)=some (VT):=by kernel_rfl):At n ds w0 e H (c.wpR ro P Q):=m0 (.tmp o) x y a b h
theorem T_f(o:Tmp)(x y:Code)(h:At n ds w0 e H (y.wpR ro P Q))(a:c=.cond (.tmp o) x y:=by kernel_rfl)(b:kt e (.tmp o)=some (VF):=by kernel_rfl):At n ds w0 e H (c.wpR ro P Q):=m4 (.tmp o) x y a b h
theorem T_cT(o:Tmp)(x y:Code)(a:k=true)(h:At n ds w0 e H (x.wpR ro P Q))(b:c=.cond (.tmp o) x y:=by kernel_rfl)(d:kt e (.tmp o)=some (.bool k):=by kernel_rfl):At n ds w0 e H (c.wpR ro P Q):=m0 (.tmp o) x y b (by rw[d,a]) h
theorem T_cF(o:Tmp)(x y:Code)(a:k=false)(h:At n ds w0 e H (y.wpR ro P Q))(b:c=.cond (.tmp o) x y:=by kernel_rfl)(d:kt e (.tmp o)=some (.bool k):=by kernel_rfl):At n ds w0 e H (c.wpR ro P Q):=m4 (.tmp o) x y b (by rw[d,a]) h
theorem T_nT(o:Tmp)(x y:Code)(a:k=false)(h:At n ds w0 e H (x.wpR ro P Q))(b:c=.cond (.tmp o) x y:=by kernel_rfl)(d:kt e (.tmp o)=some (.bool (!k)):=by kernel_rfl):At n ds w0 e H (c.wpR ro P Q):=m0 (.tmp o) x y b (by rw[d,a];rfl) h
theorem T_nF(o:Tmp)(x y:Code)(a:k=true)(h:At n ds w0 e H (y.wpR ro P Q))(b:c=.cond (.tmp o) x y:=by kernel_rfl)(d:kt e (.tmp o)=some (.bool (!k)):=by kernel_rfl):At n ds w0 e H (c.wpR ro P Q):=m4 (.tmp o) x y b (by rw[d,a];rfl) h
theorem zp(h:At n ds w0 e H (Q .normal))(a:c=.skip:=by kernel_rfl):At n ds w0 e H (c.wpR ro P Q):=vt a h
theorem nc(h:At n ds w0 e H K)(a:c=.skip:=by kernel_rfl):At n ds w0 e H (c.wpR ro P (Exit.then K Q)):=vt a (aC h)
theorem T_b(id:Nat)(x:Code)(h:At n ds w0 e H (x.wpR ro P (Exit.inBlock id Q)))(a:c=.block id x:=by kernel_rfl):At n ds w0 e H (c.wpR ro P Q):=ut id x a h
theorem T_r(id:Nat)(x:Code)(h:u3 ro P n ds w0 (Code.ops x) 0 e H Q)(a:c=.region id (Code.ops x) false:=by kernel_rfl):At n ds w0 e H (c.wpR ro P Q):=pv id (Code.ops x) a h
theorem T_rq(id:Nat)(x:Code)(h:zs P n ds w0 (Code.ops x) 0 e H Q)(b:c=.region id (Code.ops x) true:=by kernel_rfl)(hm:P.follows .mixedOrders=true:=by kernel_rfl)(a:Region.lexB .any (Code.ops x)=true:=by kernel_rfl):At n ds w0 e H (c.wpR none P Q):=qN id (Code.ops x) b hm a h
theorem nx(e':Env)(h:At n ds w0 e' H K)(a:e'.map (λp=>e.get p.1)=e'.map (λp=>some p.2):=by kernel_rfl):At n ds w0 e H K:=vo e' a h
theorem Ac(e':Env)(h:u3 ro P n ds w0 ops i e' H Q)(a:e'.map (λp=>e.get p.1)=e'.map (λp=>some p.2):=by kernel_rfl):u3 ro P n ds w0 ops i e H Q:=vv e' a h
theorem hX{fn:Func}(f:List Nat)(vs:List Value)(j: ∀a w,kI P fn w0 d a w->Q .ret a w/\Q .normal a w)(h:d (AX vs) H)(k:c=.ret:=by kernel_rfl)(m:Q' .ret=Q .ret:=by exact rfl)
  (g:fn.results.toList=f.map .tmp:=by kernel_rfl) (b:f.map e.get=vs.map some:=by kernel_rfl):At n [] w0 e H (c.wpR ro P Q'):=by
 refine uu k ?_
 rw[m]
 refine kW vs j ?_ h
 rw[g];clear g h
 induction f generalizing vs with
 | nil=>cases vs with | nil=>exact .nil | cons v l=>cases b
 | cons t f o=>
  cases vs with
  | nil=>cases b
  | cons v l=>
   rw[List.map_cons,List.map_cons,D8]at b
   exact .tmp b.1 (o l b.2)
theorem BP(d:Option Tmp)(v:Value)(e':Env)(h:zs P n ds w0 ops (i+1) e' H Q)(b:(ops.toList.drop i).head?.map (·.dst)=some d:=by kernel_rfl)
  (g: ∀w,((ops.toList.drop i).head?.bind λo=>px P ops o e w)=some (v,w):=by intro _;kernel_rfl) (f:(yN n e d v).map (λa=>e'.map (λp=>a.get p.1))=some (e'.map (λp=>some p.2)):=by kernel_rfl):zs P n ds w0 ops i e H Q:=xL v e' d b g f h
theorem AC(h:At n ds w0 e H K)(a:ops.toList.drop i=[]:=by kernel_rfl):zs P n ds w0 ops i e H (Exit.then K Q):=yi a (aC h)
theorem T_v(d:Option Tmp)(S:Sem Next)(v:Value)(b: ∀w,w.heap=H->S.run P w=.ok (.value v) w)(e':Env)(h:u3 ro P n ds w0 ops (i+1) e' H Q)(g: ∀w,dE P ops i e w=some (d,S.run P w):=by intro _;kernel_rfl)
  (f:(yN n e d v).map (λa=>e'.map (λp=>a.get p.1))=some (e'.map (λp=>some p.2)):=by kernel_rfl):u3 ro P n ds w0 ops i e H Q:=qO d S v g b e' f h
theorem CC(d:Option Tmp)(t:TypeId)(q:hat H u=some o)(e':Env)(h:u3 ro P n ds w0 ops (i+1) e' H Q)(g: ∀w,dE P ops i e w=some (d,(aQ t (Vq u)).run P w):=by intro _;kernel_rfl)
  (f: ∀w,(isAgg t).run P w=.ok false w:=by intro _;kernel_rfl) (b:(yN n e d o).map (λa=>e'.map (λp=>a.get p.1))=some (e'.map (λp=>some p.2)):=by kernel_rfl):u3 ro P n ds w0 ops i e H Q:=
 qO d (aQ t (Vq u)) o g (ke (gJ f q)) e' b h
theorem B8(d:Option Tmp)(t:TypeId){a:Addr}(q:hat H a=some o)(e':Env)(h:zs P n ds w0 ops (i+1) e' H Q)(j: ∀w,dE P ops i e w=some (d,(aQ t (Vq a)).run P w):=by intro _;kernel_rfl)
  (g: ∀w,(isAgg t).run P w=.ok false w:=by intro _;kernel_rfl) (f:(yN n e d o).map (λb=>e'.map (λp=>b.get p.1))=some (e'.map (λp=>some p.2)):=by kernel_rfl):zs P n ds w0 ops i e H Q:=
 AD d (aQ t (Vq a)) o j (ke (gJ g q)) e' f h
theorem BH(d:Option Tmp)(t b l:Nat)(a:Addr)(f g:Nat)(k:IntKind)(j:Int)(s:P.underlying t=some (.slice b))(o:0<=j)(q:j<f)(e':Env)(h:u3 ro P n ds w0 ops (i+1) e' H Q)
  (v: ∀w,(sizeOf b).run P w=.ok l w:=by intro _;kernel_rfl) (u: ∀w,dE P ops i e w=some (d,(bE t (vs (some a) f g) (.int k j)).run P w):=by intro _;kernel_rfl)
  (r:(yN n e d (Vq (a.add (Int.toNat j*l)))).map (λm=>e'.map (λp=>m.get p.1))=some (e'.map (λp=>some p.2)):=by kernel_rfl):u3 ro P n ds w0 ops i e H Q:=
 qO d (bE t (vs (some a) f g) (.int k j)) (Vq (a.add (Int.toNat j*l))) u (λw _=>dZ s v o q w) e' r h
theorem zB{a:Nat}{L:Array Bool}(i:Nat)(d:Option Tmp)(v:Value)(k:Array Bool)(e':Env)(S:Sem Next)(q: ∀L w,Closed .any ops L->L.getD i true=false->fV j L w->S.run P w=.ok (.value v) w)
  (h:yO ro P n ds w0 ops j a k e' H Q) (u: ∀w,dE P ops i e w=some (d,S.run P w):=by intro _;kernel_rfl)
  (t:(Region.ready .any ops L).contains i=true:=by kernel_rfl) (g:Region.noSelect ops=true:=by kernel_rfl) (b:kK ops=true:=by kernel_rfl) (s:Region.free .any ops L i=true:=by kernel_rfl) (l:j.all (λf=>f.1 !=i)=true:=by kernel_rfl) (o:L.setIfInBounds i true=k:=by kernel_rfl)
  (r:(yN n e d v).map (λm=>e'.map (λp=>m.get p.1))=some (e'.map (λp=>some p.2)):=by kernel_rfl):yO ro P n ds w0 ops j (a+1) L e H Q:=ow i d v k e' S u q t g b s l o r h
theorem zC{args:Array Value}(f:Option Tmp)(a:HC P r args H d)(h: ∀v H',d v H'-> ∃e',fU n e f v e'/\u3 ro P n ds w0 ops (i+1) e' H' Q)(b: ∀w,dE P ops i e w=some (f,.ok (.enter r args) w):=by intro _;kernel_rfl):u3 ro P n ds w0 ops i e H Q:=xQ f r args b a h
theorem t1(d:Option Tmp)(f:Nat->Value)(o:Obj)(h: ∀b H',b=H.size->H'=H.push o-> ∃e',fU n e d (f b) e'/\u3 ro P n ds w0 ops (i+1) e' H' Q)(a: ∀w,dE P ops i e w=some (d,.ok (.value (f w.heap.size)) {w with heap:=w.heap.push o}):=by intro _;kernel_rfl):u3 ro P n ds w0 ops i e H Q:=yj d f o a h
theorem T_gs{a:Nat}{L:Array Bool}(i:Nat)(d:Option Tmp)(l:Array Bool)(e':Env)(h:yO ro P n ds w0 ops j a l e' H Q)(v:(ops[i]?).bind (λo=>(lH ops e o).map (λb=>(o.dst,b)))=some (d,false):=by kernel_rfl)
  (u:(Region.ready .any ops L).contains i=true:=by kernel_rfl) (k:Region.noSelect ops=true:=by kernel_rfl) (g:kK ops=true:=by kernel_rfl) (t:Region.free .any ops L i=true:=by kernel_rfl) (m:j.all (λf=>f.1 !=i)=true:=by kernel_rfl) (r:L.setIfInBounds i true=l:=by kernel_rfl)
  (s:(yN n e d undef).map (λq=>e'.map (λp=>q.get p.1))=some (e'.map (λp=>some p.2)):=by kernel_rfl):yO ro P n ds w0 ops j (a+1) L e H Q:=vz i d l e' v u k g t m r s h
theorem zr{a:Nat}{L:Array Bool}(i:Nat)(d:Option Tmp)(v:Value)(k:Array Bool)(e':Env)
  (h:yO ro P n ds w0 ops j a k e' H Q) (t: ∀w,dE P ops i e w=some (d,(pure (.value v):Sem Next).run P w):=by intro _;kernel_rfl)
  (s:(Region.ready .any ops L).contains i=true:=by kernel_rfl) (g:Region.noSelect ops=true:=by kernel_rfl) (b:kK ops=true:=by kernel_rfl) (r:Region.free .any ops L i=true:=by kernel_rfl) (l:j.all (λf=>f.1 !=i)=true:=by kernel_rfl) (o:L.setIfInBounds i true=k:=by kernel_rfl)
  (q:(yN n e d v).map (λm=>e'.map (λp=>m.get p.1))=some (e'.map (λp=>some p.2)):=by kernel_rfl):yO ro P n ds w0 ops j (a+1) L e H Q:=ow i d v k e' (pure (.value v)) t (λ_ _ _ _ _=>rfl) s g b r l o q h
theorem eH(k:Nat)(b:List Nat)(a:Env)(h:u3 ro P n ds w0 ops (i+k) (ed b a e) H Q)(d: ∀w,BC (ed b a e) (Ao P n ops ((ops.toList.drop i).take k) e w)=keep (ed b a e) w:=by intro _;kernel_rfl):u3 ro P n ds w0 ops i e H Q:=ux k _ d h
theorem eT(k:Nat)(b:List Nat)(a:Env)(h:At n ds w0 (ed b a e) H K)(f: ∀w,BC (ed b a e) (Ao P n ops ((ops.toList.drop i).take k) e w)=keep (ed b a e) w:=by intro _;kernel_rfl)(d:ops.toList.drop (i+k)=[]:=by kernel_rfl):u3 ro P n ds w0 ops i e H (Exit.then K Q):=
 ux k _ f (uv d (aC h))
theorem Ai(b:List Nat)(a:Env)(h:At n ds w0 (ed b a e) H K)(d:(ed b a e).map (λp=>e.get p.1)=(ed b a e).map (λp=>some p.2):=by kernel_rfl):At n ds w0 e H K:=vo _ d h
theorem yS(b:List Nat)(a:Env)(h:u3 ro P n ds w0 ops i (ed b a e) H Q)(d:(ed b a e).map (λp=>e.get p.1)=(ed b a e).map (λp=>some p.2):=by kernel_rfl):u3 ro P n ds w0 ops i e H Q:=vv _ d h
theorem Cp(d:Option Tmp)(v:Value)(b:List Nat)(a:Env)(h:zs P n ds w0 ops (i+1) (ed b a e) H Q)(g:(ops.toList.drop i).head?.map (·.dst)=some d:=by kernel_rfl)
  (k: ∀w,((ops.toList.drop i).head?.bind λo=>px P ops o e w)=some (v,w):=by intro _;kernel_rfl) (j:(yN n e d v).map (λf=>(ed b a e).map (λp=>f.get p.1))=some ((ed b a e).map (λp=>some p.2)):=by kernel_rfl):zs P n ds w0 ops i e H Q:=xL v _ d g k j h
theorem BV(d:Option Tmp)(S:Sem Next)(v:Value)(g: ∀w,w.heap=H->S.run P w=.ok (.value v) w)(b:List Nat)(a:Env)(h:u3 ro P n ds w0 ops (i+1) (ed b a e) H Q)(k: ∀w,dE P ops i e w=some (d,S.run P w):=by intro _;kernel_rfl)
  (j:(yN n e d v).map (λf=>(ed b a e).map (λp=>f.get p.1))=some ((ed b a e).map (λp=>some p.2)):=by kernel_rfl):u3 ro P n ds w0 ops i e H Q:=qO d S v k g _ j h
theorem As(d:Option Tmp)(t:TypeId)(q:hat H u=some o)(b:List Nat)(a:Env)(h:u3 ro P n ds w0 ops (i+1) (ed b a e) H Q)(k: ∀w,dE P ops i e w=some (d,(aQ t (Vq u)).run P w):=by intro _;kernel_rfl)
  (j: ∀w,(isAgg t).run P w=.ok false w:=by intro _;kernel_rfl) (g:(yN n e d o).map (λf=>(ed b a e).map (λp=>f.get p.1))=some ((ed b a e).map (λp=>some p.2)):=by kernel_rfl):u3 ro P n ds w0 ops i e H Q:=
 qO d (aQ t (Vq u)) o k (ke (gJ j q)) _ g h
theorem np(d:Option Tmp)(t:TypeId){a:Addr}(q:hat H a=some o)(f:List Nat)(b:Env)(h:zs P n ds w0 ops (i+1) (ed f b e) H Q)(l: ∀w,dE P ops i e w=some (d,(aQ t (Vq a)).run P w):=by intro _;kernel_rfl)
  (k: ∀w,(isAgg t).run P w=.ok false w:=by intro _;kernel_rfl) (j:(yN n e d o).map (λg=>(ed f b e).map (λp=>g.get p.1))=some ((ed f b e).map (λp=>some p.2)):=by kernel_rfl):zs P n ds w0 ops i e H Q:=
 AD d (aQ t (Vq a)) o l (ke (gJ k q)) _ j h
theorem yI(d:Option Tmp)(t elem sz:Nat)(a:Addr)(b f:Nat)(k:IntKind)(j:Int)(s:P.underlying t=some (.slice elem))(o:0<=j)(q:j<b)(l:List Nat)(g:Env)(h:u3 ro P n ds w0 ops (i+1) (ed l g e) H Q)
  (v: ∀w,(sizeOf elem).run P w=.ok sz w:=by intro _;kernel_rfl) (u: ∀w,dE P ops i e w=some (d,(bE t (vs (some a) b f) (.int k j)).run P w):=by intro _;kernel_rfl)
  (r:(yN n e d (Vq (a.add (Int.toNat j*sz)))).map (λm=>(ed l g e).map (λp=>m.get p.1))=some ((ed l g e).map (λp=>some p.2)):=by kernel_rfl):u3 ro P n ds w0 ops i e H Q:=
 qO d (bE t (vs (some a) b f) (.int k j)) (Vq (a.add (Int.toNat j*sz))) u (λw _=>dZ s v o q w) _ r h
theorem Ck{a:Nat}{L:Array Bool}(i:Nat)(d:Option Tmp)(v:Value)(k:Array Bool)(m:List Nat)(l:Env)(S:Sem Next)(s: ∀L w,Closed .any ops L->L.getD i true=false->fV j L w->S.run P w=.ok (.value v) w)
  (h:yO ro P n ds w0 ops j a k (ed m l e) H Q) (A: ∀w,dE P ops i e w=some (d,S.run P w):=by intro _;kernel_rfl)
  (z:(Region.ready .any ops L).contains i=true:=by kernel_rfl) (g:Region.noSelect ops=true:=by kernel_rfl) (b:kK ops=true:=by kernel_rfl) (u:Region.free .any ops L i=true:=by kernel_rfl) (o:j.all (λf=>f.1 !=i)=true:=by kernel_rfl) (r:L.setIfInBounds i true=k:=by kernel_rfl)
  (t:(yN n e d v).map (λq=>(ed m l e).map (λp=>q.get p.1))=some ((ed m l e).map (λp=>some p.2)):=by kernel_rfl):yO ro P n ds w0 ops j (a+1) L e H Q:=ow i d v k _ S A s z g b u o r t h
theorem jz{a:Nat}{L:Array Bool}(i:Nat)(d:Option Tmp)(l:Array Bool)(q:List Nat)(m:Env)(h:yO ro P n ds w0 ops j a l (ed q m e) H Q)(z:(ops[i]?).bind (λo=>(lH ops e o).map (λb=>(o.dst,b)))=some (d,false):=by kernel_rfl)
  (w:(Region.ready .any ops L).contains i=true:=by kernel_rfl) (k:Region.noSelect ops=true:=by kernel_rfl) (g:kK ops=true:=by kernel_rfl) (v:Region.free .any ops L i=true:=by kernel_rfl) (r:j.all (λf=>f.1 !=i)=true:=by kernel_rfl) (t:L.setIfInBounds i true=l:=by kernel_rfl)
  (u:(yN n e d undef).map (λs=>(ed q m e).map (λp=>s.get p.1))=some ((ed q m e).map (λp=>some p.2)):=by kernel_rfl):yO ro P n ds w0 ops j (a+1) L e H Q:=vz i d l _ z w k g v r t u h
theorem yy{a:Nat}{L:Array Bool}(i:Nat)(d:Option Tmp)(v:Value)(k:Array Bool)(m:List Nat)(l:Env)
  (h:yO ro P n ds w0 ops j a k (ed m l e) H Q) (z: ∀w,dE P ops i e w=some (d,(pure (.value v):Sem Next).run P w):=by intro _;kernel_rfl)
  (u:(Region.ready .any ops L).contains i=true:=by kernel_rfl) (g:Region.noSelect ops=true:=by kernel_rfl) (b:kK ops=true:=by kernel_rfl) (t:Region.free .any ops L i=true:=by kernel_rfl) (o:j.all (λf=>f.1 !=i)=true:=by kernel_rfl) (r:L.setIfInBounds i true=k:=by kernel_rfl)
  (s:(yN n e d v).map (λq=>(ed m l e).map (λp=>q.get p.1))=some ((ed m l e).map (λp=>some p.2)):=by kernel_rfl):yO ro P n ds w0 ops j (a+1) L e H Q:=ow i d v k _ (pure (.value v)) z (λ_ _ _ _ _=>rfl) u g b t o r s h
theorem kc{o:Option Tmp}{v:Value}{K:Env->Prop}(b:List Nat)(a:Env)(h:K (ed b a e))(f:(yN n e o v).map (λd=>(ed b a e).map (λp=>d.get p.1))=some ((ed b a e).map (λp=>some p.2)):=by kernel_rfl): ∃e',fU n e o v e'/\K e':=⟨_,f,h⟩
theorem sv{r:FuncId}{args:Array Value}{α:Type}{F:α->Value}{R:α->zV->Prop}(k:Nat)(dl:List Nat)(a:HC P r args H (λv H'=> ∃x1,v=F x1/\R x1 H'))(h: ∀x1 H',R x1 H'->u3 ro P n ds w0 ops (i+1) (ed dl [(k,F x1)] e) H' Q)(b: ∀w,dE P ops i e w=some (some k,.ok (.enter r args) w):=by intro _;kernel_rfl)(c: ∀x1,(yN n e (some k) (F x1)).map (λe1=>(ed dl [(k,F x1)] e).map (λp=>e1.get p.1))=some ((ed dl [(k,F x1)] e).map (λp=>some p.2)):=by intros;kernel_rfl):u3 ro P n ds w0 ops i e H Q:=zC (some k) a (λ_ H' ⟨x1,q,h'⟩=>by subst q;exact⟨_,c x1,h x1 H' h'⟩) b
theorem yT{r:FuncId}{args:Array Value}{α β:Type}{F:α->β->Value}{R:α->β->zV->Prop}(k:Nat)(dl:List Nat)(a:HC P r args H (λv H'=> ∃x1 x2,v=F x1 x2/\R x1 x2 H'))(h: ∀x1 x2 H',R x1 x2 H'->u3 ro P n ds w0 ops (i+1) (ed dl [(k,F x1 x2)] e) H' Q)(b: ∀w,dE P ops i e w=some (some k,.ok (.enter r args) w):=by intro _;kernel_rfl)(c: ∀x1 x2,(yN n e (some k) (F x1 x2)).map (λe1=>(ed dl [(k,F x1 x2)] e).map (λp=>e1.get p.1))=some ((ed dl [(k,F x1 x2)] e).map (λp=>some p.2)):=by intros;kernel_rfl):u3 ro P n ds w0 ops i e H Q:=zC (some k) a (λ_ H' ⟨x1,x2,q,h'⟩=>by subst q;exact⟨_,c x1 x2,h x1 x2 H' h'⟩) b
theorem zO{r:FuncId}{args:Array Value}{α β γ:Type}{F:α->β->γ->Value}{R:α->β->γ->zV->Prop}(k:Nat)(dl:List Nat)(a:HC P r args H (λv H'=> ∃x1 x2 x3,v=F x1 x2 x3/\R x1 x2 x3 H'))(h: ∀x1 x2 x3 H',R x1 x2 x3 H'->u3 ro P n ds w0 ops (i+1) (ed dl [(k,F x1 x2 x3)] e) H' Q)(b: ∀w,dE P ops i e w=some (some k,.ok (.enter r args) w):=by intro _;kernel_rfl)(c: ∀x1 x2 x3,(yN n e (some k) (F x1 x2 x3)).map (λe1=>(ed dl [(k,F x1 x2 x3)] e).map (λp=>e1.get p.1))=some ((ed dl [(k,F x1 x2 x3)] e).map (λp=>some p.2)):=by intros;kernel_rfl):u3 ro P n ds w0 ops i e H Q:=zC (some k) a (λ_ H' ⟨x1,x2,x3,q,h'⟩=>by subst q;exact⟨_,c x1 x2 x3,h x1 x2 x3 H' h'⟩) b
theorem BD{r:FuncId}{args:Array Value}{α β γ δ:Type}{F:α->β->γ->δ->Value}{R:α->β->γ->δ->zV->Prop}(k:Nat)(dl:List Nat)(a:HC P r args H (λv H'=> ∃x1 x2 x3 x4,v=F x1 x2 x3 x4/\R x1 x2 x3 x4 H'))(h: ∀x1 x2 x3 x4 H',R x1 x2 x3 x4 H'->u3 ro P n ds w0 ops (i+1) (ed dl [(k,F x1 x2 x3 x4)] e) H' Q)(b: ∀w,dE P ops i e w=some (some k,.ok (.enter r args) w):=by intro _;kernel_rfl)(c: ∀x1 x2 x3 x4,(yN n e (some k) (F x1 x2 x3 x4)).map (λe1=>(ed dl [(k,F x1 x2 x3 x4)] e).map (λp=>e1.get p.1))=some ((ed dl [(k,F x1 x2 x3 x4)] e).map (λp=>some p.2)):=by intros;kernel_rfl):u3 ro P n ds w0 ops i e H Q:=zC (some k) a (λ_ H' ⟨x1,x2,x3,x4,q,h'⟩=>by subst q;exact⟨_,c x1 x2 x3 x4,h x1 x2 x3 x4 H' h'⟩) b
theorem BF{r:FuncId}{args:Array Value}{α β γ δ ε:Type}{F:α->β->γ->δ->ε->Value}{R:α->β->γ->δ->ε->zV->Prop}(k:Nat)(dl:List Nat)(a:HC P r args H (λv H'=> ∃x1 x2 x3 x4 x5,v=F x1 x2 x3 x4 x5/\R x1 x2 x3 x4 x5 H'))(h: ∀x1 x2 x3 x4 x5 H',R x1 x2 x3 x4 x5 H'->u3 ro P n ds w0 ops (i+1) (ed dl [(k,F x1 x2 x3 x4 x5)] e) H' Q)(b: ∀w,dE P ops i e w=some (some k,.ok (.enter r args) w):=by intro _;kernel_rfl)(c: ∀x1 x2 x3 x4 x5,(yN n e (some k) (F x1 x2 x3 x4 x5)).map (λe1=>(ed dl [(k,F x1 x2 x3 x4 x5)] e).map (λp=>e1.get p.1))=some ((ed dl [(k,F x1 x2 x3 x4 x5)] e).map (λp=>some p.2)):=by intros;kernel_rfl):u3 ro P n ds w0 ops i e H Q:=zC (some k) a (λ_ H' ⟨x1,x2,x3,x4,x5,q,h'⟩=>by subst q;exact⟨_,c x1 x2 x3 x4 x5,h x1 x2 x3 x4 x5 H' h'⟩) b
theorem zU{r:FuncId}{args:Array Value}{α β γ δ ε ζ η θ:Type}{F:α->β->γ->δ->ε->ζ->η->θ->Value}{R:α->β->γ->δ->ε->ζ->η->θ->zV->Prop}(k:Nat)(dl:List Nat)(a:HC P r args H (λv H'=> ∃x1 x2 x3 x4 x5 x6 x7 x8,v=F x1 x2 x3 x4 x5 x6 x7 x8/\R x1 x2 x3 x4 x5 x6 x7 x8 H'))(h: ∀x1 x2 x3 x4 x5 x6 x7 x8 H',R x1 x2 x3 x4 x5 x6 x7 x8 H'->u3 ro P n ds w0 ops (i+1) (ed dl [(k,F x1 x2 x3 x4 x5 x6 x7 x8)] e) H' Q)(b: ∀w,dE P ops i e w=some (some k,.ok (.enter r args) w):=by intro _;kernel_rfl)(c: ∀x1 x2 x3 x4 x5 x6 x7 x8,(yN n e (some k) (F x1 x2 x3 x4 x5 x6 x7 x8)).map (λe1=>(ed dl [(k,F x1 x2 x3 x4 x5 x6 x7 x8)] e).map (λp=>e1.get p.1))=some ((ed dl [(k,F x1 x2 x3 x4 x5 x6 x7 x8)] e).map (λp=>some p.2)):=by intros;kernel_rfl):u3 ro P n ds w0 ops i e H Q:=zC (some k) a (λ_ H' ⟨x1,x2,x3,x4,x5,x6,x7,x8,q,h'⟩=>by subst q;exact⟨_,c x1 x2 x3 x4 x5 x6 x7 x8,h x1 x2 x3 x4 x5 x6 x7 x8 H' h'⟩) b
theorem zo{r:FuncId}{args:Array Value}{α:Type}{F:α->Value}{R:α->zV->Prop}(k:Nat)(E:α->Env)(a:HC P r args H (λv H'=> ∃x1,v=F x1/\R x1 H'))(h: ∀x1 H',R x1 H'->u3 ro P n ds w0 ops (i+1) (E x1) H' Q)(b: ∀w,dE P ops i e w=some (some k,.ok (.enter r args) w):=by intro _;kernel_rfl)(c: ∀x1,(yN n e (some k) (F x1)).map (λe1=>(E x1).map (λp=>e1.get p.1))=some ((E x1).map (λp=>some p.2)):=by intros;kernel_rfl):u3 ro P n ds w0 ops i e H Q:=zC (some k) a (λ_ H' ⟨x1,q,h'⟩=>by subst q;exact⟨_,c x1,h x1 H' h'⟩) b
theorem zI{r:FuncId}{args:Array Value}{α β:Type}{F:α->β->Value}{R:α->β->zV->Prop}(k:Nat)(E:α->β->Env)(a:HC P r args H (λv H'=> ∃x1 x2,v=F x1 x2/\R x1 x2 H'))(h: ∀x1 x2 H',R x1 x2 H'->u3 ro P n ds w0 ops (i+1) (E x1 x2) H' Q)(b: ∀w,dE P ops i e w=some (some k,.ok (.enter r args) w):=by intro _;kernel_rfl)(c: ∀x1 x2,(yN n e (some k) (F x1 x2)).map (λe1=>(E x1 x2).map (λp=>e1.get p.1))=some ((E x1 x2).map (λp=>some p.2)):=by intros;kernel_rfl):u3 ro P n ds w0 ops i e H Q:=zC (some k) a (λ_ H' ⟨x1,x2,q,h'⟩=>by subst q;exact⟨_,c x1 x2,h x1 x2 H' h'⟩) b
theorem BI{r:FuncId}{args:Array Value}{α β γ:Type}{F:α->β->γ->Value}{R:α->β->γ->zV->Prop}(k:Nat)(E:α->β->γ->Env)(a:HC P r args H (λv H'=> ∃x1 x2 x3,v=F x1 x2 x3/\R x1 x2 x3 H'))(h: ∀x1 x2 x3 H',R x1 x2 x3 H'->u3 ro P n ds w0 ops (i+1) (E x1 x2 x3) H' Q)(b: ∀w,dE P ops i e w=some (some k,.ok (.enter r args) w):=by intro _;kernel_rfl)(c: ∀x1 x2 x3,(yN n e (some k) (F x1 x2 x3)).map (λe1=>(E x1 x2 x3).map (λp=>e1.get p.1))=some ((E x1 x2 x3).map (λp=>some p.2)):=by intros;kernel_rfl):u3 ro P n ds w0 ops i e H Q:=zC (some k) a (λ_ H' ⟨x1,x2,x3,q,h'⟩=>by subst q;exact⟨_,c x1 x2 x3,h x1 x2 x3 H' h'⟩) b
theorem Bq{r:FuncId}{args:Array Value}{α β γ δ ε:Type}{F:α->β->γ->δ->ε->Value}{R:α->β->γ->δ->ε->zV->Prop}(k:Nat)(E:α->β->γ->δ->ε->Env)(a:HC P r args H (λv H'=> ∃x1 x2 x3 x4 x5,v=F x1 x2 x3 x4 x5/\R x1 x2 x3 x4 x5 H'))(h: ∀x1 x2 x3 x4 x5 H',R x1 x2 x3 x4 x5 H'->u3 ro P n ds w0 ops (i+1) (E x1 x2 x3 x4 x5) H' Q)(b: ∀w,dE P ops i e w=some (some k,.ok (.enter r args) w):=by intro _;kernel_rfl)(c: ∀x1 x2 x3 x4 x5,(yN n e (some k) (F x1 x2 x3 x4 x5)).map (λe1=>(E x1 x2 x3 x4 x5).map (λp=>e1.get p.1))=some ((E x1 x2 x3 x4 x5).map (λp=>some p.2)):=by intros;kernel_rfl):u3 ro P n ds w0 ops i e H Q:=zC (some k) a (λ_ H' ⟨x1,x2,x3,x4,x5,q,h'⟩=>by subst q;exact⟨_,c x1 x2 x3 x4 x5,h x1 x2 x3 x4 x5 H' h'⟩) b
theorem Cf{r:FuncId}{args:Array Value}{α β γ δ ε ζ η θ:Type}{F:α->β->γ->δ->ε->ζ->η->θ->Value}{R:α->β->γ->δ->ε->ζ->η->θ->zV->Prop}(k:Nat)(E:α->β->γ->δ->ε->ζ->η->θ->Env)(a:HC P r args H (λv H'=> ∃x1 x2 x3 x4 x5 x6 x7 x8,v=F x1 x2 x3 x4 x5 x6 x7 x8/\R x1 x2 x3 x4 x5 x6 x7 x8 H'))(h: ∀x1 x2 x3 x4 x5 x6 x7 x8 H',R x1 x2 x3 x4 x5 x6 x7 x8 H'->u3 ro P n ds w0 ops (i+1) (E x1 x2 x3 x4 x5 x6 x7 x8) H' Q)(b: ∀w,dE P ops i e w=some (some k,.ok (.enter r args) w):=by intro _;kernel_rfl)(c: ∀x1 x2 x3 x4 x5 x6 x7 x8,(yN n e (some k) (F x1 x2 x3 x4 x5 x6 x7 x8)).map (λe1=>(E x1 x2 x3 x4 x5 x6 x7 x8).map (λp=>e1.get p.1))=some ((E x1 x2 x3 x4 x5 x6 x7 x8).map (λp=>some p.2)):=by intros;kernel_rfl):u3 ro P n ds w0 ops i e H Q:=zC (some k) a (λ_ H' ⟨x1,x2,x3,x4,x5,x6,x7,x8,q,h'⟩=>by subst q;exact⟨_,c x1 x2 x3 x4 x5 x6 x7 x8,h x1 x2 x3 x4 x5 x6 x7 x8 H' h'⟩) b
theorem o0(k:Nat){b v:Bool}(a:b=v)(h:u3 ro P n ds w0 ops i (ed [k] [(k,.bool v)] e) H Q)(d:(ed [k] [(k,.bool b)] e).map (λp=>e.get p.1)=(ed [k] [(k,.bool b)] e).map (λp=>some p.2):=by kernel_rfl):u3 ro P n ds w0 ops i e H Q:=by
 subst a;exact vv _ d h
theorem xl(k:Nat){b v:Bool}(a:b=v)(h:At n ds w0 (ed [k] [(k,.bool v)] e) H K)(d:(ed [k] [(k,.bool b)] e).map (λp=>e.get p.1)=(ed [k] [(k,.bool b)] e).map (λp=>some p.2):=by kernel_rfl):At n ds w0 e H K:=by
 subst a;exact vo _ d h
theorem Ba(d:Nat){v:Bool}(a:k=v)(h:zs P n ds w0 ops i (ed [d] [(d,.bool v)] e) H Q)(b:(ed [d] [(d,.bool k)] e).map (λp=>e.get p.1)=(ed [d] [(d,.bool k)] e).map (λp=>some p.2):=by kernel_rfl):zs P n ds w0 ops i e H Q:=by
 subst a;exact ni _ b h
theorem Bb{a:Nat}{L:Array Bool}(k:Nat){b v:Bool}(d:b=v)(h:yO ro P n ds w0 ops j a L (ed [k] [(k,.bool v)] e) H Q)(f:(ed [k] [(k,.bool b)] e).map (λp=>e.get p.1)=(ed [k] [(k,.bool b)] e).map (λp=>some p.2):=by kernel_rfl):yO ro P n ds w0 ops j a L e H Q:=by
 subst d;exact eq _ f h
theorem fN{a:Addr}{k:Nat}(t:TypeId)(vs:List Value)(q:aH H a 0 k)(h: ∀H',H'=aP H a vs 0-> ∃e',fU n e none undef e'/\u3 ro P n ds w0 ops (i+1) e' H' Q)(g: ∀w,dE P ops i e w=some (none,(jJ t (Vq a) (.agg vs.toArray)).run P w):=by intro _;kernel_rfl)
  (f:(Value.agg vs.toArray).cells.toList=vs:=by kernel_rfl) (hk:vs.length=k:=by kernel_rfl) (hn: ∀w,(sizeOf t).run P w=.ok k w:=by intro _;kernel_rfl) (d:kz vs=true:=by kernel_rfl):u3 ro P n ds w0 ops i e H Q:=
 mK none (jJ t (Vq a) (.agg vs.toArray)) (λb=>b=aP H a vs 0) g (iR vs k f hk hn d q) h
theorem eQ{a:Addr}{k:Nat}(t:TypeId)(v:Value)(q:aH H a 0 k)(h: ∀H',H'=aP H a [v] 0-> ∃e',fU n e none undef e'/\u3 ro P n ds w0 ops (i+1) e' H' Q)(g: ∀w,dE P ops i e w=some (none,(jJ t (Vq a) v).run P w):=by intro _;kernel_rfl)
  (f:v.cells.toList=[v]:=by kernel_rfl) (hk:[v].length=k:=by kernel_rfl) (hn: ∀w,(sizeOf t).run P w=.ok k w:=by intro _;kernel_rfl) (d:kz [v]=true:=by kernel_rfl):u3 ro P n ds w0 ops i e H Q:=
 mK none (jJ t (Vq a) v) (λb=>b=aP H a [v] 0) g (iR [v] k f hk hn d q) h
theorem ar(id:Nat)(h:u3 ro P n ds w0 (Code.ops (ca c)) 0 e H (Exit.then ((cb c).wpR ro P Q) Q))(a:c=.seq (ca c) (cb c):=by kernel_rfl)(b:ca c=.region id (Code.ops (ca c)) false:=by kernel_rfl):At n ds w0 e H (c.wpR ro P Q):=Cx id (ca c) (cb c) h a b
theorem ge(h:At n ds w0 e H ((ca c).wpR ro P (Exit.then ((cb c).wpR ro P Q) Q)))(a:c=.seq (ca c) (cb c):=by kernel_rfl):At n ds w0 e H (c.wpR ro P Q):=vq (ca c) (cb c) a h
theorem wc(o:Tmp)(h:At n ds w0 e H ((ca c).wpR ro P Q))(a:c=.cond (.tmp o) (ca c) (cb c):=by kernel_rfl)(b:kt e (.tmp o)=some (VT):=by kernel_rfl):At n ds w0 e H (c.wpR ro P Q):=m0 (.tmp o) _ _ a b h
theorem yL(o:Tmp)(h:At n ds w0 e H ((cb c).wpR ro P Q))(a:c=.cond (.tmp o) (ca c) (cb c):=by kernel_rfl)(b:kt e (.tmp o)=some (VF):=by kernel_rfl):At n ds w0 e H (c.wpR ro P Q):=m4 (.tmp o) _ _ a b h
theorem aJ(o:Tmp){b:Bool}(a:b=true)(h:At n ds w0 e H ((ca c).wpR ro P Q))(d:c=.cond (.tmp o) (ca c) (cb c):=by kernel_rfl)(f:kt e (.tmp o)=some (.bool b):=by kernel_rfl):At n ds w0 e H (c.wpR ro P Q):=m0 (.tmp o) _ _ d (by rw[f,a]) h
theorem aK(o:Tmp)(a:k=false)(h:At n ds w0 e H ((cb c).wpR ro P Q))(b:c=.cond (.tmp o) (ca c) (cb c):=by kernel_rfl)(d:kt e (.tmp o)=some (.bool k):=by kernel_rfl):At n ds w0 e H (c.wpR ro P Q):=m4 (.tmp o) _ _ b (by rw[d,a]) h
theorem yA(o:Tmp)(a:k=false)(h:At n ds w0 e H ((ca c).wpR ro P Q))(b:c=.cond (.tmp o) (ca c) (cb c):=by kernel_rfl)(d:kt e (.tmp o)=some (.bool (!k)):=by kernel_rfl):At n ds w0 e H (c.wpR ro P Q):=m0 (.tmp o) _ _ b (by rw[d,a];rfl) h
theorem yD(o:Tmp)(a:k=true)(h:At n ds w0 e H ((cb c).wpR ro P Q))(b:c=.cond (.tmp o) (ca c) (cb c):=by kernel_rfl)(d:kt e (.tmp o)=some (.bool (!k)):=by kernel_rfl):At n ds w0 e H (c.wpR ro P Q):=m4 (.tmp o) _ _ b (by rw[d,a];rfl) h
theorem p0(id:Nat)(h:At n ds w0 e H ((ca c).wpR ro P (Exit.inBlock id Q)))(a:c=.block id (ca c):=by kernel_rfl):At n ds w0 e H (c.wpR ro P Q):=ut id _ a h
theorem oo(id:Nat)(h:u3 ro P n ds w0 (Code.ops c) 0 e H Q)(a:c=.region id (Code.ops c) false:=by kernel_rfl):At n ds w0 e H (c.wpR ro P Q):=pv id (Code.ops c) a h
theorem qV(id:Nat)(h:zs P n ds w0 (Code.ops c) 0 e H Q)(b:c=.region id (Code.ops c) true:=by kernel_rfl)(hm:P.follows .mixedOrders=true:=by kernel_rfl)(a:Region.lexB .any (Code.ops c)=true:=by kernel_rfl):At n ds w0 e H (c.wpR none P Q):=qN id (Code.ops c) b hm a h
theorem hH(k:Nat)(t:TypeId){a:Addr}{v:Value}(q:hat H a=some v)(b:List Nat)(h:u3 ro P n ds w0 ops (i+1) (ed b [(k,v)] e) H Q)(j: ∀w,dE P ops i e w=some (some k,(aQ t (Vq a)).run P w):=by intro _;kernel_rfl)
  (g: ∀w,(isAgg t).run P w=.ok false w:=by intro _;kernel_rfl) (f:(yN n e (some k) v).map (λd=>(ed b [(k,v)] e).map (λp=>d.get p.1))=some ((ed b [(k,v)] e).map (λp=>some p.2)):=by kernel_rfl):u3 ro P n ds w0 ops i e H Q:=As (some k) t q b [(k,v)] h j g f
theorem zN(k:Nat)(t:TypeId){vs:List Value}(q:aL H u 0 vs)(a:List Nat)(h:u3 ro P n ds w0 ops (i+1) (ed a [(k,.agg vs.toArray)] e) H Q)(g: ∀w,dE P ops i e w=some (some k,(aQ t (Vq u)).run P w):=by intro _;kernel_rfl)
  (f: ∀w,(isAgg t).run P w=.ok true w:=by intro _;kernel_rfl) (hn: ∀w,(sizeOf t).run P w=.ok vs.length w:=by intro _;kernel_rfl) (d:(yN n e (some k) (.agg vs.toArray)).map (λb=>(ed a [(k,.agg vs.toArray)] e).map (λp=>b.get p.1))=some ((ed a [(k,.agg vs.toArray)] e).map (λp=>some p.2)):=by kernel_rfl):u3 ro P n ds w0 ops i e H Q:=
 BV (some k) (aQ t (Vq u)) (.agg vs.toArray) (ke (eR f hn q)) a [(k,.agg vs.toArray)] h g d
theorem u8(k:Nat)(v:Value)(a:List Nat)(h:zs P n ds w0 ops (i+1) (ed a [(k,v)] e) H Q)(d:(ops.toList.drop i).head?.map (·.dst)=some (some k):=by kernel_rfl)
  (g: ∀w,((ops.toList.drop i).head?.bind λo=>px P ops o e w)=some (v,w):=by intro _;kernel_rfl) (f:(yN n e (some k) v).map (λb=>(ed a [(k,v)] e).map (λp=>b.get p.1))=some ((ed a [(k,v)] e).map (λp=>some p.2)):=by kernel_rfl):zs P n ds w0 ops i e H Q:=Cp (some k) v a [(k,v)] h d g f
theorem zd(k:Nat)(S:Sem Next)(v:Value)(d: ∀w,w.heap=H->S.run P w=.ok (.value v) w)(a:List Nat)(h:u3 ro P n ds w0 ops (i+1) (ed a [(k,v)] e) H Q)(g: ∀w,dE P ops i e w=some (some k,S.run P w):=by intro _;kernel_rfl)
  (f:(yN n e (some k) v).map (λb=>(ed a [(k,v)] e).map (λp=>b.get p.1))=some ((ed a [(k,v)] e).map (λp=>some p.2)):=by kernel_rfl):u3 ro P n ds w0 ops i e H Q:=BV (some k) S v d a [(k,v)] h g f
theorem kT{a:Nat}{L:Array Bool}(i:Nat)(k:Nat)(v:Value)(g:Array Bool)(l:List Nat)(S:Sem Next)(r: ∀L w,Closed .any ops L->L.getD i true=false->fV j L w->S.run P w=.ok (.value v) w)
  (h:yO ro P n ds w0 ops j a g (ed l [(k,v)] e) H Q) (z: ∀w,dE P ops i e w=some (some k,S.run P w):=by intro _;kernel_rfl)
  (u:(Region.ready .any ops L).contains i=true:=by kernel_rfl) (d:Region.noSelect ops=true:=by kernel_rfl) (b:kK ops=true:=by kernel_rfl) (t:Region.free .any ops L i=true:=by kernel_rfl) (m:j.all (λf=>f.1 !=i)=true:=by kernel_rfl) (q:L.setIfInBounds i true=g:=by kernel_rfl)
  (s:(yN n e (some k) v).map (λo=>(ed l [(k,v)] e).map (λp=>o.get p.1))=some ((ed l [(k,v)] e).map (λp=>some p.2)):=by kernel_rfl):yO ro P n ds w0 ops j (a+1) L e H Q:=ow i (some k) v g _ S z r u d b t m q s h
theorem aG{a:Nat}{L:Array Bool}(i:Nat)(k:Nat)(v:Value)(g:Array Bool)(l:List Nat)
  (h:yO ro P n ds w0 ops j a g (ed l [(k,v)] e) H Q) (u: ∀w,dE P ops i e w=some (some k,(pure (.value v):Sem Next).run P w):=by intro _;kernel_rfl)
  (t:(Region.ready .any ops L).contains i=true:=by kernel_rfl) (d:Region.noSelect ops=true:=by kernel_rfl) (b:kK ops=true:=by kernel_rfl) (s:Region.free .any ops L i=true:=by kernel_rfl) (m:j.all (λf=>f.1 !=i)=true:=by kernel_rfl) (q:L.setIfInBounds i true=g:=by kernel_rfl)
  (r:(yN n e (some k) v).map (λo=>(ed l [(k,v)] e).map (λp=>o.get p.1))=some ((ed l [(k,v)] e).map (λp=>some p.2)):=by kernel_rfl):yO ro P n ds w0 ops j (a+1) L e H Q:=ow i (some k) v g _ (pure (.value v)) u (λ_ _ _ _ _=>rfl) t d b s m q r h
theorem kb{fn:Func}{f:Exit->Act->World->Prop}(k:Nat)(b:List Nat)(vs:List Value)(g: ∀a w,kI P fn w0 d a w->Q .ret a w/\Q .normal a w)(h:d (AX vs) H)(p: ∀w,BC (b.zip vs) (Ao P n ops ((ops.toList.drop i).take k) e w)=keep (b.zip vs) w:=by intro _;kernel_rfl)(m:ops.toList.drop (i+k)=[]:=by kernel_rfl)(j:c=.ret:=by kernel_rfl)(o:Q' .ret=Q .ret:=by exact rfl)
  (l:fn.results.toList=b.map .tmp:=by kernel_rfl) (q:b.map (Env.get (b.zip vs))=vs.map some:=by kernel_rfl):u3 ro P n [] w0 ops i e H (Exit.then (c.wpR ro P Q') f):=u5 k (b.zip vs) (hX b vs g h j o l q) p m
end
variable{d:zv}{i:Array Value}
def HD(P:Program)(f:FuncId)(args:Array Value)(H:zV)(R:zV->Prop):Prop:=
 ∀w,w.heap=H->CallsDIn Fence.wide 0 P f args .returning w (λen u w'=>u=.returning/\ ∃v,en=.returned v/\Same w w'/\R w'.heap)
theorem HD.mono{P:Program}{f:FuncId}{H:zV}{R a:zV->Prop}(h:HD P f i H R)(g: ∀H',R H'->a H'):HD P f i H a:=
 λw l=>(h w l).mono λ_ _ _ ⟨k,v,d,j,b⟩=>⟨k,v,d,j,g _ b⟩
def nd(f:FuncId)(args:Array Value):Deferred:={target:=.fn (.func f) #[],args:=args}
section
variable {P:Program} {n:Nat} {w0:World} {e e':Env} {H H':zV} {Q:Exit->Act->World->Prop} {K:Act->World->Prop} {c x y:Code} {ds:List Deferred} {ro:Option Nat}
theorem vJ{f:FuncId}{fn:Func}{R:zv}(n:Nat)(o:P.funcs[f]?=some fn)(l:fn.body=some c)(hn:fn.ntmps=n)(p:i.size<=n)
  (h: ∀(w0:World) (Q:Exit->Act->World->Prop),
   (∀a w,a.defers=[]->kI P fn w0 R a w->Q .ret a w/\Q .normal a w)->At n [] w0 (Bd 0 i.toList) H (c.wpR none P Q)):HD P f i H (λH'=> ∃v,R v H'):=λw z=>by
 refine(callsDIn_of_wp (R:=λen g=> ∃v,en=.returned v/\Same w g/\R v g.heap) o l trivial (n:=0) ?_).mono ?_
 ·refine h w (bodyPost P fn _) (λa g j d=>?_) _ _ ?_ z (D0 w)
  ·unfold kI at d
   rw[j]at d
   exact⟨⟨j,d⟩,⟨j,d⟩⟩
  ·refine⟨?_,rfl,λt v s=>?_⟩
   ·simp only[Array.size_append,Array.size_replicate];omega
   ·obtain⟨_,b⟩:=pz _ _ _ _ s
    simp only[Nat.sub_zero,Array.getElem?_toList]at b
    show(i++Array.replicate (fn.ntmps-i.size) undef)[t]?=some v
    have:t<i.size:=by
     rcases C6 t i.size with h | h
     ·exact h
     ·rw[Array.getElem?_eq_none h]at b;cases b
    rw[Array.getElem?_append_left this];exact b
 ·rintro en u g ⟨r,v,m,q,k⟩
  exact⟨r,v,m,q,v,k⟩
theorem wU{fn:Func}(vs:List Value)
  (g: ∀a w,a.defers=[]->kI P fn w0 d a w->Q .ret a w/\Q .normal a w)
  (b:bV P H e fn.results.toList vs) (h:d (AX vs) H):At n [] w0 e H (Q .ret):=λa w f k j=>
 (g a w f.defers (by unfold kI;rw[f.defers];exact Shut.leave (λl vs i=>i.run f rfl) [] w j (by rw[k];exact⟨vs,b,h⟩))).1
theorem vK{fn:Func}(vs:List Value)
  (g: ∀a w,a.defers=[]->kI P fn w0 d a w->Q .ret a w/\Q .normal a w)
  (b:bV P H e fn.results.toList vs) (h:d (AX vs) H):At n [] w0 e H (Q .normal):=λa w f k j=>
 (g a w f.defers (by unfold kI;rw[f.defers];exact Shut.leave (λl vs i=>i.run f rfl) [] w j (by rw[k];exact⟨vs,b,h⟩))).2
def xM(P:Program)(ops:Array Oper)(i:Nat)(e:Env)(w:World):Option (Option Tmp×Result Next):=
 match ops.toList.drop i with
 | []=>none
 | o::_=>
  match lH ops e o with
  | some true=>bif (match o.op with | .select .. =>false | _=>true) && allIn e o.op.operands.toList then some (o.dst,(execOp (Be e) o).run P w)else none
  | _=>none
theorem wV{j:Array Oper}{i:Nat}(d:Option Tmp)(f:FuncId)(args:Array Value)(A: ∀w,xM P j i e w=some (d,.ok (.defer (nd f args)) w))(e':Env)(D:fU n e d undef e')
  (h:u3 none P n (nd f args::ds) w0 j (i+1) e' H Q):u3 none P n ds w0 j i e H Q:=λa w s F z=>by
 have k:=A w
 unfold xM at k
 cases t:j.toList.drop i with
 | nil=>simp[t]at k
 | cons o l=>
  simp only[t]at k
  cases m:lH j e o with
  | none=>simp[m]at k
  | some b=>
   cases b with
   | false=>simp[m]at k
   | true=>
    simp only[m]at k
    by_cases g:((match o.op with | .select .. =>false | _=>true) && allIn e o.op.operands.toList)=true
    ·rw[g]at k
     simp only[cond_true,Dp,DB]at k
     obtain⟨q,r⟩:=k
     rw[CZ]at g
     have u:execOp a.eval o=execOp (Be e) o:=by
      refine execOp_congr o (λG b z=>by rw[z]at g;simp at g) λx A=>?_
      have C:=ou g.2 x (by simpa using A)
      obtain⟨v,B⟩:=D4.1 C
      rw[s.eval B]
      simp[Be,B]
     have E:j.toList.drop (i+1)=l:=by rw[<-List.drop_drop,t];rfl
     unfold wpListIn
     rw[s.wanted m]
     simp only[if_true]
     refine⟨λ_ _=>trivial,?_⟩
     rw[show o.semAt (Am none).round a.eval=execOp a.eval o from rfl,u,r]
     simp only[Oper.uponIn]
     rw[q]
     have p:=s.putSub D
     have:=h ({a with defers:=nd f args::a.defers}.put d undef) w ⟨by cases d<;>exact p.size,by cases d<;>(show _::a.defers=_;rw[s.defers]),by cases d<;>exact p.vals⟩ F z
     rw[E]at this
     exact this
    ·rw[Bool.not_eq_true]at g
     rw[g]at k;simp at k
theorem leaveD{fn:Func}{f:FuncId}(k:Enters P f){a:Act}{w:World}(g:Agree n [nd f i] e a)(o:w.heap=H)(m:Same w0 w)
  (h:HD P f i H (λH'=> ∃vs,bV P H' e fn.results.toList vs/\d (AX vs) H')):kI P fn w0 d a w:=by
 unfold kI
 rw[g.defers]
 refine⟨by simp,.inr ⟨λq=>by simp[Fence.wide]at q,.func f,#[],f,i,rfl,?_,λ_ _=>trivial,?_⟩⟩
 ·have:=k i w
  simpa[invoke,nd]using this
 ·refine(h w o).mono ?_
  rintro en u p ⟨rfl,v,rfl,b,vs,l,j⟩
  show LeavesInM Fence.wide 0 P fn a.tmps _ [] (settle .returning) p
  exact⟨_,l.run g rfl,_,rfl,m.trans b,j⟩
theorem wW{fn:Func}{f:FuncId}{args:Array Value}(i:Enters P f)(b: ∀a w,kI P fn w0 d a w->Q .ret a w/\Q .normal a w)
  (h:HD P f args H (λH'=> ∃vs,bV P H' e fn.results.toList vs/\d (AX vs) H')):At n [nd f args] w0 e H (Q .ret):=λa w g k j=>(b a w (leaveD i g k j h)).1
end
def Exit.jump(l:Nat)(J:Act->World->Prop)(Q:Exit->Act->World->Prop):Exit->Act->World->Prop
 | .goto l',a,w=>l'=l/\J a w
 | e,a,w=>Q e a w
def pp(P:Program)(x:Code)(l:Nat)(Q:Exit->Act->World->Prop)(a:Act)(w:World):Prop:=
 ∀r,findLabel x l=some r-> ∀b k cs,∃e a₁ w₁,Q e a₁ w₁/\Arrives P (lone (b.at a (.code r::.inScope x::k)) cs w) b k cs e a₁ w₁
section
variable {P:Program} {n:Nat} {w0:World} {e e':Env} {H H':zV} {Q:Exit->Act->World->Prop} {K:Act->World->Prop} {c x y:Code} {ds:List Deferred} {ro:Option Nat}
theorem qG{l:Nat}{a:Act}{w:World}(u:(findLabel x l).isSome=true)(h:x.wp P (Exit.jump l (pp P x l Q) Q) a w):(Code.scope x).wp P Q a w:=by
 obtain⟨r,q⟩:=D4.1 u
 intro b k p
 obtain⟨e,i,m,g,d⟩:=h b (.inScope x::k) p
 cases e with
 | normal=>exact⟨.normal,i,m,g,.head step_scope (Steps.trans d (.one step_inScope))⟩
 | exit id=>exact⟨.exit id,i,m,g,λv hk=> .head step_scope (d v (by simp[exitTo,hk]))⟩
 | goto B=>
  obtain⟨rfl,j⟩:=g
  obtain⟨t,s,z,o,f⟩:=j r q b k p
  exact⟨t,s,z,o,.of_steps (.head step_scope (d _ (by simp[gotoIn,q]))) f⟩
 | ret=>exact⟨_,i,m,g,.of_steps (.one step_scope) d⟩
 | panic A=>exact⟨_,i,m,g,.of_steps (.one step_scope) d⟩
 | outgrown=>exact⟨_,i,m,g,.of_steps (.one step_scope) d⟩
theorem tT{l:Nat}{B:Code}(t:findLabel x l=some (.seq .skip B))(I:Act->World->Prop)(μ:Act->World->Nat)(round: ∀a w,I a w->B.wp P (Exit.jump l (λj m=>I j m/\μ j m<μ a w) Q) a w):
  ∀(k:Nat) (a:Act) (w:World),μ a w=k->I a w->pp P x l Q a w:=by
 intro k
 induction k using Nat.strongRecOn with
 | ind k E=>
  intro a w hk D r u b v s
  obtain rfl:Code.seq .skip B=r:=DH (t.symm.trans u)
  have C:(Code.seq .skip B).wp P (Exit.jump l (λj m=>I j m/\μ j m<μ a w) Q) a w:=wp_seq (wp_skip (round a w D))
  obtain⟨e,g,i,h,d⟩:=C b (.inScope x::v) s
  cases e with
  | normal=>exact⟨.normal,g,i,h,Steps.trans d (.one step_inScope)⟩
  | exit id=>exact⟨.exit id,g,i,h,λF hk=>d F (by simp[exitTo,hk])⟩
  | goto L=>
   obtain⟨rfl,o,p⟩:=h
   obtain⟨A,z,G,q,f⟩:=E _ (hk▸p) g i rfl o _ u b v s
   exact⟨A,z,G,q,.of_steps (d _ (by simp[gotoIn,t])) f⟩
  | ret=>exact⟨_,g,i,h,d⟩
  | panic J=>exact⟨_,g,i,h,d⟩
  | outgrown=>exact⟨_,g,i,h,d⟩
theorem vL(x:Code)(l:Nat)(d:c=.scope x)(f:(findLabel x l).isSome=true)(h:At n ds w0 e H (x.wpR none P (Exit.jump l (pp P x l Q) Q))):At n ds w0 e H (c.wpR none P Q):=
 λa w b i g=>by
  rw[d]
  exact wpIn_wide.2 (qG f (wpIn_wide.1 (h a w b i g)))
theorem vM(l:Nat)(B:Code)(d:Env)(I:zV->Prop)(μ:zV->Nat)(v:c=.seq (.label l) B)(A:findLabel x l=some (.seq .skip B))(h:I H)(z:Sub d e)
  (round: ∀H',I H'->At n ds w0 d H' (B.wpR none P (Exit.jump l (λa w=>Agree n ds d a/\Same w0 w/\I w.heap/\μ w.heap<μ H') Q))):
  At n ds w0 e H (c.wpR none P (Exit.jump l (pp P x l Q) Q)):=λa w i C j=>by
 have key: ∀a w,(Agree n ds d a/\Same w0 w/\I w.heap)->B.wp P (Exit.jump l (λp k=>(Agree n ds d p/\Same w0 k/\I k.heap)/\μ k.heap<μ w.heap) Q) a w:=by
  rintro a w ⟨i,j,h⟩
  refine wp_mono (wpIn_wide.1 (round w.heap h a w i rfl j)) ?_
  intro g m o b
  cases g with
  | goto D=>
   obtain⟨rfl,r,s,t,u⟩:=b
   exact⟨rfl,⟨r,s,t⟩,u⟩
  | normal=>exact b
  | exit id=>exact b
  | ret=>exact b
  | panic q=>exact b
  | outgrown=>exact b
 have f:=tT (x:=x) A (λa w=>Agree n ds d a/\Same w0 w/\I w.heap) (λ_ w=>μ w.heap) key
 rw[v]
 refine wpIn_wide.2 (wp_seq (wp_label ?_))
 refine wp_mono (key a w ⟨i.sub z,j,C▸h⟩) ?_
 intro g m o b
 cases g with
 | goto D=>exact⟨b.1,f _ m o rfl b.2.1⟩
 | normal=>exact b
 | exit id=>exact b
 | ret=>exact b
 | panic q=>exact b
 | outgrown=>exact b
theorem xU(l:Nat)(d:c=.goto l)(h:At n ds w0 e H (Q (.goto l))):At n ds w0 e H (c.wpR ro P Q):=
 λa w b g f=>by rw[d];exact wpIn_goto (h a w b g f)
theorem nA{l:Nat}(h:At n ds w0 e H (Q (.goto l))):At n ds w0 e H (Exit.then K Q (.goto l)):=h
theorem oU{id l:Nat}(h:At n ds w0 e H (Q (.goto l))):At n ds w0 e H (Exit.inBlock id Q (.goto l)):=h
theorem xV{l:Nat}{d:Env}{I:zV->Prop}{μ:zV->Nat}{b:zV}(i:Sub d e)(f:I H/\μ H<μ b):
  At n ds w0 e H (Exit.jump l (λa w=>Agree n ds d a/\Same w0 w/\I w.heap/\μ w.heap<μ b) Q (.goto l)):=
 λa w h g j=>⟨rfl,h.sub i,j,by rw[g];exact f.1,by rw[g];exact f.2⟩
end
