/-
 Maps whose keys are numbers or strings, said of heaps. Proves nothing of any one program.
-/
import Derived.Test.YtfhbhckhmnleoaaGreatOwn
import Derived.Laws.Externs
import Derived.Laws.IdiomStrings
import Derived.Shelf.Abstract
import Derived.RangeFuncNested
import Derived.Scope
set_option linter.unusedVariables false
set_option linter.unusedSimpArgs false
namespace Go.Proofs.YtfhbhckhmnleoaaGreat
open Go
variable{d j:Nat}{i:Array MapEntry}{k o u:TypeId}
structure qW (α:Type) [DecidableEq α]where
 cell:α->Value
 desc:TypeDesc
 same: ∀a b,Instr.sameNow desc (cell a) (cell b)=some (decide (a=b))
 bits: ∀a,Instr.sameBits 10000 (cell a) (cell a)=true
 plain: ∀(P:Program) (t:TypeId) (e:Bool) (w:World) (a:α),P.underlying t=some desc->(Instr.checkKey e 10000 t (cell a)).run P w=.ok () w
def dX(k:IntKind):qW Int where
 cell:=Value.int k
 desc:=.int k
 same a b:=by
  simp only[Instr.sameNow,if_true,Option.some.injEq]
  by_cases h:a=b<;>simp[h]
 bits a:=by simp[Instr.sameBits]
 plain P t e w a h:=by
  unfold Instr.checkKey
  rw[run_bind_ok (x:=TypeDesc.int k) (w':=w) (by simp[underlying,program,Sem.run,h,Sem.run_bind,pure,Result.andThen])]
  rfl
section
variable {α:Type} [DecidableEq α] (kk:qW α)
def Ents(es:List MapEntry)(ks:List (α×Value)):Prop:=es.map (λe=>(e.key,e.val))=ks.map (λp=>(kk.cell p.1,p.2))
def mget(ks:List (α×Value))(k:α):Option Value:=(ks.find? (λp=>decide (k=p.1))).map (·.2)
def mput:List (α×Value)->α->Value->List (α×Value)
 | [],k,v=> [(k,v)]
 | p::r,k,v=>if k=p.1 then(k,v)::r else p::mput r k v
theorem jo{k:α}: ∀(d:List MapEntry) (f:List (α×Value)) (i:Nat),Ents kk d f-> ∃r:Option (Nat×Value),Instr.findNow kk.desc (kk.cell k) d i=some r/\r.map (·.2)=mget f k/\
  (∀j v,r=some (j,v)->i<=j/\ ∃e,d[j-i]?=some e/\e.key=kk.cell k/\ ∀a,Ents kk (d.modify (j-i) λe=>{e with key:=kk.cell k,val:=a}) (mput f k a))/\
  (r=none-> ∀a b,Ents kk (d++[{key:=kk.cell k,val:=a,born:=b}]) (mput f k a))
 | [],[],i,_=>⟨none,rfl,rfl,λ_ _ h=>(by cases h),λ_ a b=>rfl⟩
 | [],_::_,_,h=>by simp[Ents]at h
 | _::_,[],_,h=>by simp[Ents]at h
 | e::d,p::f,i,h=>by
  have B:=h
  simp only[Ents,List.map_cons,List.cons.injEq,Prod.mk.injEq]at h
  obtain⟨⟨hk,m⟩,n⟩:=h
  unfold Instr.findNow
  rw[hk,kk.same]
  by_cases c:k=p.1
  ·rw[zX c]
   refine⟨some (i,e.val),rfl,by simp[mget,c,m],λj v l=>?_,λh=>by cases h⟩
   cases l
   refine⟨Nat.le_refl _,e,by simp,by rw[hk,c],λa=>?_⟩
   rw[Nat.sub_self]
   simp only[mput,if_pos c]
   simp[Ents,n]
  ·rw[zQ c]
   obtain⟨r,u,x,y,z⟩:=jo (k:=k) d f (i+1) n
   refine⟨r,u,by rw[x];simp[mget,c],λj v l=>?_,λhn a b=>?_⟩
   ·obtain⟨A,o,q,s,t⟩:=y j v l
    have g:j-i=(j-(i+1))+1:=by omega
    refine⟨by omega,o,by rw[g];simpa using q,s,λa=>?_⟩
    have:=t a
    rw[g]
    simp only[mput,if_neg c]
    simp only[Ents,List.modify_succ_cons,List.map_cons]at this⊢
    rw[this,hk,m]
   ·have:=z hn a b
    simp only[mput,if_neg c]
    simp only[Ents,List.cons_append,List.map_cons]at this⊢
    rw[this,hk,m]
def lu(t:TypeId)(x i:Value)(ok:Bool):Sem Next:=do pure (.value (<-Instr.lookup t x i ok))
def mD(t:TypeId)(m k v:Value):Sem Next:=do Instr.mapUpdate t m k v;pure .skip
variable {kk}
variable {P:Program} {w:World}
theorem iT(h:w.heap[d]?=some (.map i j)):(getObj d).run P w=.ok (.map i j) w:=by
 show Sem.run P (Sem.getObj d Sem.pure) w=_
 simp only[Sem.run,h]
theorem jz{o:Obj}(h:w.heap[d]?=some (.map i j)):(setObj d o).run P w=.ok () {w with heap:=w.heap.setIfInBounds d o}:=by
 show Sem.run P (Sem.setObj d o (Sem.pure ())) w=_
 simp only[Sem.run,h]
theorem gV{d:TypeDesc}(h:P.underlying k=some d):(underlying k).run P w=.ok d w:=by
 simp[underlying,program,Sem.run,h,Sem.run_bind,pure,Result.andThen]
theorem je{b:α}{a:List MapEntry}{r:Option (Nat×Value)}(hk:P.underlying k=some kk.desc)(h:Instr.findNow kk.desc (kk.cell b) a 0=some r):(Instr.findKey k (kk.cell b) a).run P w=.ok r w:=by
 unfold Instr.findKey
 rw[run_bind_ok (gV hk)]
 rw[h];rfl
theorem kU{c:TypeId}{z:Value}{a:List (α×Value)}{k:α}(h:P.underlying o=some (.map u c))(hk:P.underlying u=some kk.desc)(l: ∀w,(zeroValue c).run P w=.ok z w)
  (hm:w.heap[d]?=some (.map i j)) (g:Ents kk i.toList a) (b:Bool):
  (lu o (.map (some d)) (kk.cell k) b).run P w=.ok (.value (if b then .tuple #[(mget a k).getD z,.bool (mget a k).isSome]else(mget a k).getD z)) w:=by
 obtain⟨q,f,e,-,-⟩:=jo (k:=k) kk i.toList a 0 g
 unfold lu Instr.lookup
 simp only[bind_assoc]
 rw[run_bind_ok (gV h)]
 simp only[bind_assoc]
 rw[run_bind_ok (iT hm)]
 simp only[pure_bind,bind_assoc]
 rw[run_bind_ok (kk.plain P u i.isEmpty w k hk),run_bind_ok (je hk f)]
 cases q with
 | none=>
  simp only[bind_assoc]
  rw[run_bind_ok (l w)]
  rw[<-e]
  cases b<;>rfl
 | some q=>
  obtain⟨m,v⟩:=q
  rw[<-e]
  cases b<;>rfl
theorem qd{m:TypeId}{c:List (α×Value)}{k:α}{v:Value}(l:P.underlying o=some (.map u m))(hk:P.underlying u=some kk.desc)
  (hm:w.heap[d]?=some (.map i j)) (t:Ents kk i.toList c):
  ∃(a:Array MapEntry) (b:Nat),(mD o (.map (some d)) (kk.cell k) v).run P w=.ok .skip {w with heap:=bN w.heap d (.map a b)}/\Ents kk a.toList (mput c k v):=by
 obtain⟨q,h,y,r,s⟩:=jo (k:=k) kk i.toList c 0 t
 cases q with
 | none=>
  refine⟨i.push {key:=kk.cell k,val:=v,born:=j},j+1,?_,by rw[Array.toList_push];exact s rfl v j⟩
  unfold mD Instr.mapUpdate
  simp only[bind_assoc]
  rw[run_bind_ok (gV l)]
  simp only[bind_assoc]
  rw[run_bind_ok (iT hm)]
  simp only[bind_assoc]
  rw[run_bind_ok (kk.plain P u false w k hk),run_bind_ok (je hk h)]
  simp only[]
  rw[run_bind_ok (jz hm)]
  rfl
 | some q=>
  obtain⟨z,x⟩:=q
  obtain⟨-,e,f,n,g⟩:=r z x rfl
  rw[Nat.sub_zero]at f g
  refine⟨i.modify z λe=>{e with key:=kk.cell k,val:=v},j,?_,by rw[Array.toList_modify];exact g v⟩
  have p:(i[z]?).map (·.key)=some (kk.cell k):=by rw[<-Array.getElem?_toList,f];simp[n]
  unfold mD Instr.mapUpdate
  simp only[bind_assoc]
  rw[run_bind_ok (gV l)]
  simp only[bind_assoc]
  rw[run_bind_ok (iT hm)]
  simp only[bind_assoc]
  rw[run_bind_ok (kk.plain P u false w k hk),run_bind_ok (je hk h)]
  simp only[bind_assoc]
  rw[p]
  unfold Instr.keyThatStays
  simp only[Option.getD_some,kk.bits,if_true,pure_bind]
  rw[run_bind_ok (jz hm)]
  rfl
def Born(es:Array MapEntry)(cl:Nat):Prop:=(es.toList.map (·.born)).Nodup/\ ∀e∈es.toList,e.born<cl
def jL(es:Array MapEntry)(k:Value)(s:Int):Prop:= ∃(i:Nat) (e:MapEntry),es.toList[i]?=some e/\e.key=k/\(e.born:Int)=s/\ ∀j e',j<i->es.toList[j]?=some e'->e'.key≠k
theorem oZ:Born #[] 0:=⟨List.nodup_nil,λ_ h=>by cases h⟩
def lw(t:TypeId)(m k:Value):Sem Next:=do pure (.value (<-Instr.mapEntry t m k))
def mE(t:TypeId)(m s v:Value):Sem Next:=do Instr.entryStore t m s v;pure .skip
theorem kN{k:α}: ∀(b:List MapEntry) (f:List (α×Value)) (i j:Nat) (v:Value),Ents kk b f->Instr.findNow kk.desc (kk.cell k) b i=some (some (j,v))-> ∀(q:Nat) c,i+q<j->b[q]?=some c->c.key≠kk.cell k
 | [],_,i,j,v,_,h=>by simp[Instr.findNow]at h
 | e::b,[],i,j,v,h,_=>by simp[Ents]at h
 | e::b,p::f,i,j,v,h,hf=>by
  simp only[Ents,List.map_cons,List.cons.injEq,Prod.mk.injEq]at h
  obtain⟨⟨hk,r⟩,n⟩:=h
  unfold Instr.findNow at hf
  rw[hk,kk.same]at hf
  intro q c o a
  by_cases d:k=p.1
  ·rw[zX d]at hf
   simp only[Option.some.injEq,Prod.mk.injEq]at hf
   omega
  ·rw[zQ d]at hf
   cases q with
   | zero=>
    simp only[List.getElem?_cons_zero,Option.some.injEq]at a
    subst a
    rw[hk]
    intro l
    have g:=kk.same k p.1
    have m:=kk.same k k
    rw[l,m]at g
    simp[d]at g
   | succ q=>
    rw[List.getElem?_cons_succ]at a
    exact kN b f (i+1) j v n hf q c (by omega) a
theorem qX{k:α}{v:Value}: ∀(b:List MapEntry) (f:List (α×Value)) (i:Nat) (e:MapEntry),Ents kk b f->b[i]?=some e->e.key=kk.cell k->(∀j d,j<i->b[j]?=some d->d.key≠kk.cell k)->Ents kk (b.modify i λe=>{e with val:=v}) (mput f k v)
 | [],_,i,e,_,h,_,_=>by simp at h
 | e0::b,[],i,e,h,_,_,_=>by simp[Ents]at h
 | e0::b,p::f,i,e,h,he,hk,hf=>by
  simp only[Ents,List.map_cons,List.cons.injEq,Prod.mk.injEq]at h
  obtain⟨⟨c,g⟩,m⟩:=h
  cases i with
  | zero=>
   simp only[List.getElem?_cons_zero,Option.some.injEq]at he
   subst he
   have a:k=p.1:=by
    by_cases a:k=p.1
    ·exact a
    have l:=kk.same k p.1
    have o:=kk.same k k
    rw[<-c,hk,o]at l
    simp[a]at l
   simp only[mput,if_pos a]
   simp[Ents,m,hk]
  | succ i=>
   rw[List.getElem?_cons_succ]at he
   have a: ¬k=p.1:=λa=>hf 0 e0 (by omega) rfl (by rw[c,a])
   simp only[mput,if_neg a]
   have:=qX (v:=v) b f i e m he hk (λj d q n=>hf (j+1) d (by omega) (by rw[List.getElem?_cons_succ];exact n))
   simp only[Ents,List.modify_succ_cons,List.map_cons]at this⊢
   rw[this,c,g]
theorem lx{k:α}: ∀(b:List MapEntry) (f:List (α×Value)) (i:Nat),Ents kk b f->Instr.findNow kk.desc (kk.cell k) b i=some none-> ∀(q:Nat) c,b[q]?=some c->c.key≠kk.cell k
 | [],_,i,_,_=>λq c h=>by simp at h
 | e::b,[],i,h,_=>by simp[Ents]at h
 | e::b,p::f,i,h,hf=>by
  simp only[Ents,List.map_cons,List.cons.injEq,Prod.mk.injEq]at h
  obtain⟨⟨hk,n⟩,m⟩:=h
  unfold Instr.findNow at hf
  rw[hk,kk.same]at hf
  intro q c a
  by_cases d:k=p.1
  ·rw[zX d]at hf
   simp at hf
  ·rw[zQ d]at hf
   cases q with
   | zero=>
    simp only[List.getElem?_cons_zero,Option.some.injEq]at a
    subst a
    rw[hk]
    intro j
    have g:=kk.same k p.1
    have l:=kk.same k k
    rw[j,l]at g
    simp[d]at g
   | succ q=>
    rw[List.getElem?_cons_succ]at a
    exact lx b f (i+1) m hf q c a
theorem nV{k:α}{v:Value}: ∀(b:List (α×Value)),mget b k=some v->mput b k v=b
 | [],h=>by simp[mget]at h
 | p::b,h=>by
  by_cases a:k=p.1
  ·simp only[mput,if_pos a]
   simp[mget,a]at h
   rw[<-h,a]
  ·simp only[mput,if_neg a]
   rw[nV b (by simpa[mget,a]using h)]
theorem mg{β:Type}: ∀(l:List β) (j:Nat) (f:β->β),(∀e,l[j]?=some e->f e=e)->l.modify j f=l
 | [],j,f,_=>by simp
 | a::l,0,f,h=>by simp[h a rfl]
 | a::l,j+1,f,h=>by rw[List.modify_succ_cons,mg l j f (λe b=>h e (by simpa using b))]
theorem mh{l:List MapEntry}{f:MapEntry->MapEntry}(b: ∀e,(f e).born=e.born):(l.modify d f).map (·.born)=l.map (·.born):=by
 induction l generalizing d with
 | nil=>simp
 | cons a l c=>cases d<;>simp[b,c]
theorem Born.modify{f:MapEntry->MapEntry}(h:Born i d)(a: ∀e,(f e).born=e.born):Born (i.modify j f) d:=by
 unfold Born at*
 rw[Array.toList_modify]
 refine⟨by rw[mh a];exact h.1,λe k=>?_⟩
 have:e.born∈(i.toList.modify j f).map (·.born):=List.mem_map_of_mem k
 rw[mh a,List.mem_map]at this
 obtain⟨b,c,g⟩:=this
 rw[<-g];exact h.2 b c
theorem mV{D:TypeId}{z:Value}{H:zV}{g:List (α×Value)}{k:α}(G:P.underlying o=some (.map u D))(hk:P.underlying u=some kk.desc)(U: ∀w,(zeroValue D).run P w=.ok z w)
  (hm:H[d]?=some (.map i j)) (v:Ents kk i.toList g) (t:Born i j):
  SS P (lw o (.map (some d)) (kk.cell k)) H (λW I=> ∃f n sp l,I=bN H d (.map f n)/\Ents kk f.toList (mput g k l)/\Born f n/\jL f (kk.cell k) sp/\W=.tuple #[l,vi sp]):=by
 intro w T
 subst T
 obtain⟨q,s,N,O,Q⟩:=jo (k:=k) kk i.toList g 0 v
 cases q with
 | none=>
  refine⟨_,{w with heap:=bN w.heap d (.map (i.push {key:=kk.cell k,val:=z,born:=j}) (j+1))},?_,⟨rfl,rfl,rfl,Nat.le_refl _⟩,_,_,j,z,rfl,by rw[Array.toList_push];exact Q rfl z j,⟨?_,?_⟩,⟨i.toList.length,_,by rw[Array.toList_push,List.getElem?_append_right (Nat.le_refl _),Nat.sub_self];rfl,rfl,rfl,?_⟩,rfl⟩
  ·unfold lw Instr.mapEntry
   simp only[bind_assoc]
   rw[run_bind_ok (gV G)]
   simp only[bind_assoc]
   rw[run_bind_ok (iT hm)]
   simp only[bind_assoc]
   rw[run_bind_ok (kk.plain P u false w k hk),run_bind_ok (je hk s)]
   simp only[bind_assoc]
   rw[run_bind_ok (U w),run_bind_ok (jz hm)]
   rfl
  ·rw[Array.toList_push,List.map_append]
   refine List.nodup_append.2 ⟨t.1,by simp,λa R b A=>?_⟩
   obtain⟨e,J,m⟩:=List.mem_map.1 R
   have:=t.2 e J
   simp at A
   omega
  ·intro e c
   rw[Array.toList_push]at c
   rcases List.mem_append.1 c with h | h
   ·have:=t.2 e h;omega
   ·simp at h;rw[h];show j<j+1;omega
  ·intro V p S c
   rw[Array.toList_push,List.getElem?_append_left S]at c
   exact lx i.toList g 0 v s V p c
 | some q=>
  obtain⟨V,l⟩:=q
  obtain⟨-,e,m,E,K⟩:=O V l rfl
  rw[Nat.sub_zero]at m K
  have M:(i[V]?).map (·.key)=some (kk.cell k):=by rw[<-Array.getElem?_toList,m];simp[E]
  have r:(i[V]?).map (·.born)=some e.born:=by rw[<-Array.getElem?_toList,m];rfl
  refine⟨_,{w with heap:=bN w.heap d (.map (i.modify V λe=>{e with key:=kk.cell k}) j)},?_,⟨rfl,rfl,rfl,Nat.le_refl _⟩,_,_,e.born,l,rfl,?_,t.modify (λ_=>rfl),⟨V,{e with key:=kk.cell k},by rw[Array.toList_modify,List.getElem?_modify,m];simp,rfl,rfl,?_⟩,rfl⟩
  ·unfold lw Instr.mapEntry
   simp only[bind_assoc]
   rw[run_bind_ok (gV G)]
   simp only[bind_assoc]
   rw[run_bind_ok (iT hm)]
   simp only[bind_assoc]
   rw[run_bind_ok (kk.plain P u false w k hk),run_bind_ok (je hk s)]
   simp only[bind_assoc]
   rw[M]
   unfold Instr.keyThatStays
   simp only[Option.getD_some,kk.bits,if_true,pure_bind]
   rw[run_bind_ok (jz hm)]
   have L:(i[V]?).map (λx=>(x.born:Nat))=some e.born:=r
   cases C:i[V]? with
   | none=>rw[C]at r;cases r
   | some y=>
    rw[C]at r
    have:y.born=e.born:=by simpa using r
    rw[<-this];rfl
  ·have y:mget g k=some l:=N.symm
   rw[Array.toList_modify,nV g y,mg i.toList V _ (λp F=>by rw[m]at F;cases F;rw[<-E])]
   exact v
  ·intro q p C c
   rw[Array.toList_modify,List.getElem?_modify]at c
   have:i.toList[q]?=some p:=by
    have B: ¬V=q:=λe=>by omega
    simpa[B]using c
   exact kN i.toList g 0 V l v s q p (by omega) this
theorem mW{H:zV}{h:List (α×Value)}{F:α}{s:Int}{v:Value}(hm:H[d]?=some (.map i j))(x:Ents kk i.toList h)(n:Born i j)(z:jL i (kk.cell F) s):
  ∀w,w.heap=H-> ∃l,(mE k (.map (some d)) (vi s) v).run P w=.ok .skip l/\Same w l/\(λo=> ∃a,o=bN H d (.map a j)/\Ents kk a.toList (mput h F v)/\Born a j) l.heap:=by
 intro w A
 subst A
 obtain⟨D,e,c,p,q,r⟩:=z
 refine⟨{w with heap:=bN w.heap d (.map (i.modify D λe=>{e with val:=v}) j)},?_,⟨rfl,rfl,rfl,Nat.le_refl _⟩,_,rfl,by rw[Array.toList_modify];exact qX i.toList h D e x c p r,n.modify (λ_=>rfl)⟩
 have f:D<i.toList.length:=(List.getElem?_eq_some_iff.1 c).1
 have y:i.findIdx? (λe=>(e.born:Int)==s)=some D:=by
  rw[Array.findIdx?_eq_some_iff_getElem]
  refine⟨by simpa using f,?_,λE C=>?_⟩
  ·have:i[D]'(by simpa using f)=e:=by
    have:=c;rw[Array.getElem?_toList,Array.getElem?_eq_getElem (by simpa using f)]at this;simpa using this
   simp[this,q]
  ·have b:E<i.size:=by simp at f;omega
   have m:(i.toList.map (·.born))[E]?≠(i.toList.map (·.born))[D]?:=by
    intro g
    have:=(List.getElem?_inj (by simpa using b) n.1).1 g
    omega
   have t:(i.toList.map (·.born))[D]?=some e.born:=by rw[List.getElem?_map,c];rfl
   have u:(i.toList.map (·.born))[E]?=some i[E].born:=by rw[List.getElem?_map,Array.getElem?_toList,Array.getElem?_eq_getElem b];rfl
   rw[t,u]at m
   have B:i[E].born≠e.born:=λg=>m (by rw[g])
   have: ¬((i[E].born:Int)=s):=by omega
   simpa using this
 unfold mE Instr.entryStore
 simp only[bind_assoc,pure_bind]
 rw[run_bind_ok (iT hm)]
 simp only[bind_assoc,asInt,asIntOf,pure_bind]
 rw[y]
 simp only[]
 rw[run_bind_ok (jz hm)]
 rfl
end
variable{d z:zk}{j:Facts}{k:Value}{o:Bool}{u:FuncId}{v:Addr}
variable {ds:List Deferred} {ro:Option Nat}
def nW(fv:Value)(args:Array Value):Sem Next:=do
 let d<-Deferred.ofValue fv args
 invoke d.target d.args
def Back(R:zk)(w:World):Ending->World->Prop:=λe w'=> ∃v,e=.returned v/\Same w w'/\R v w'.heap
def FE(P:Program)(fv:Value)(args:Array Value)(H:zV)(R:zk):Prop:=
 ∃(f:FuncId) (first caps:Array Value),fv=.func (.func f) first caps/\Enters P f/\HC P f (first++args++caps) H R
def YC(P:Program)(fv:Value)(args:Array Value)(H:zV)(R:zk):Prop:=
 ∃l,fv=.func (.yield l) #[] #[]/\ ∀w,w.heap=H-> ∃fn tmps assign body,(Instr.yield l args).run P w=.ok (.round l fn tmps assign body) w/\RoundIn Fence.wide 0 P l fn tmps assign body w (Back R w)
def FC(P:Program)(fv:Value)(args:Array Value)(H:zV)(R:zk):Prop:=FE P fv args H R\/YC P fv args H R
theorem FE.mono{P:Program}{args:Array Value}{H:zV}(h:FE P k args H d)(l: ∀v H',d v H'->z v H'):FE P k args H z:=by
 obtain⟨f,first,a,j,g,b⟩:=h
 exact⟨f,first,a,j,g,b.mono l⟩
theorem YC.mono{P:Program}{args:Array Value}{H:zV}(h:YC P k args H d)(r: ∀v H',d v H'->z v H'):YC P k args H z:=by
 obtain⟨l,q,p⟩:=h
 refine⟨l,q,λw s=>?_⟩
 obtain⟨fn,tmps,a,b,f,g⟩:=p w s
 exact⟨fn,tmps,a,b,f,g.mono λe t ⟨v,j,m,o⟩=>⟨v,j,m,r _ _ o⟩⟩
theorem FC.mono{P:Program}{args:Array Value}{H:zV}(h:FC P k args H d)(a: ∀v H',d v H'->z v H'):FC P k args H z:=
 h.elim (λh=> .inl (h.mono a)) (λh=> .inr (h.mono a))
theorem FE.of{P:Program}{first a args:Array Value}{H:zV}(b:Enters P u)(h:HC P u (first++args++a) H d):FE P (.func (.func u) first a) args H d:=⟨u,first,a,rfl,b,h⟩
theorem FE.of2{P:Program}{first a args b:Array Value}{H:zV}(g:Enters P u)(f:first++args++a=b)(h:HC P u b H d):FE P (.func (.func u) first a) args H d:=.of g (f▸h)
theorem FC.of{P:Program}{first a args:Array Value}{H:zV}(b:Enters P u)(h:HC P u (first++args++a) H d):FC P (.func (.func u) first a) args H d:=.inl (.of b h)
theorem sD{P:Program}{first a args:Array Value}{w:World}(b:Enters P u):(nW (.func (.func u) first a) args).run P w=.ok (.enter u (first++args++a)) w:=by
 have h:=b (first++args++a) w
 simpa[nW,Deferred.ofValue,invoke]using h
theorem o7{P:Program}{l:Nat}{args:Array Value}{w:World}:(nW (.func (.yield l) #[] #[]) args).run P w=(Instr.yield l args).run P w:=by
 simp[nW,Deferred.ofValue,invoke]
section
variable {P:Program} {n:Nat} {w0:World} {e e':Env} {H H':zV} {Q:Exit->Act->World->Prop} {K:Act->World->Prop} {c x y:Code}
theorem mt{o:Oper}{a:Act}{w:World}{args:Array Value}{E:Option Tmp}{K:Act->World->Prop}(q:o.dst=E)(r:(o.semAt (fen ro).round a.eval).run P w=(nW k args).run P w)
  (p:FC P k args w.heap d) (h: ∀v j,Same w j->d v j.heap->K (a.put E v) j):o.wpIn (fen ro) 0 P a w K Q:=by
 refine⟨λ_ _=>trivial,?_⟩
 rw[r]
 subst q
 rcases p with⟨f,first,z,rfl,D,p⟩ | ⟨l,rfl,p⟩
 ·rw[sD D]
  simp only[Oper.uponIn]
  refine⟨λt=>(by cases t),CallsIn.mono (show CallsIn (fen ro) _ P f _ w _ from callsIn_wide.2 (p w rfl)) λA j ⟨v,g,u,s⟩=>?_⟩
  subst g
  exact h v j u s
 ·obtain⟨fn,tmps,b,m,B,C⟩:=p w rfl
  rw[o7,B]
  simp only[Oper.uponIn]
  refine⟨λt=>(by cases t),RoundIn.mono (show RoundIn (fen ro) _ P l fn tmps b m w _ from C) λA j ⟨v,g,u,s⟩=>?_⟩
  subst g
  exact h v j u s
theorem tH{ops:Array Oper}{i:Nat}(B:Option Tmp)(p:Value)(args:Array Value)(z: ∀w,cO P ops i e w=some (B,(nW p args).run P w))(r:FC P p args H d)
  (h: ∀v H',d v H'-> ∃e',fx n e B v e'/\RegN ro P n ds w0 ops (i+1) e' H' Q):RegN ro P n ds w0 ops i e H Q:=λa w k u t=>by
 obtain⟨o,s,f,m,g,j⟩:=gW (z w)
 rw[s]
 unfold wpListIn
 rw[k.wanted f]
 simp only[if_true]
 refine mt (ro:=ro) g (by rw[k.sem m,j]) (by rw[u];exact r) λv A b q=>?_
 obtain⟨e',l,hk⟩:=h v _ q
 exact hk _ _ (k.putSub l) rfl (t.trans b)
def nX(fn:FuncId)(tm:Array Value)(ps:Array Tmp)(assign body:Code)(D:Nat):LoopState->Option Code->Obj:=λst pe=> .loop {state:=st,pending:=pe,fn,tmps:=tm,params:=ps,assign,body,defers:=D}
def qY(rc:LoopState->Option Code->Obj):Prop:= ∃fn tm ps assign body D,rc=nX fn tm ps assign body D
def j5(e:Env):List Tmp->List Value->Env
 | t::ts,v::vs=>j5 ((t,v)::e) ts vs
 | _,_=>e
theorem kO: ∀(a:List Tmp) (vs:List Value) (e:Env) (b:Array Value),Agree n ds e {tmps:=b,defers:=ds}->a.all (λt=>Nat.blt t n)=true->
  Agree n ds (j5 e a vs) {tmps:=(a.zip vs).foldl (λtmps p=>tmps.setIfInBounds p.1 p.2) b,defers:=ds}
 | [],_,e,b,h,_=>by simpa[j5]using h
 | t::a,[],e,b,h,_=>by simpa[j5]using h
 | t::a,v::vs,e,b,h,hn=>by
  simp only[List.all_cons,Bool.and_eq_true]at hn
  simp only[j5,List.zip_cons_cons,List.foldl_cons]
  refine kO a vs _ _ ?_ hn.2
  have f:=h.put (d:=some t) (v:=v) (e':=(t,v)::e) (by simp[putS,hn.1])
  exact f
theorem nJ(w:World)(l:Nat)(o:Obj):(w.putObj l o).heap=bN w.heap l o:=rfl
theorem tI{j:LoopState->Option Code->Obj}{l:Nat}(g:qY j)(r:H[l]?=some (j .ready none))
  (h: ∀k,k=bN H l (j .busy none)->At n [] w0 e k (x.wpR (some l) P (roundPost P l (Back d w0)))):
  At n [] w0 e H (λa w=> ∃p,(Instr.beginRound l).run P w=.ok () p/\x.wpR (some l) P (roundPost P l (Back d w0)) a p):=λa w q o f=>by
 obtain⟨fn,s,ps,b,m,D,rfl⟩:=g
 refine⟨_,run_beginRound (by rw[o];exact r) rfl,h _ rfl _ _ q (by rw[nJ,o];rfl) ⟨f.os,f.tape,f.output,f.drawn⟩⟩
theorem rF{j:LoopState->Option Code->Obj}{l:Nat}{w:World}(a:Option Code)(g:qY j)(o:w.heap[l]?=some (j .busy none))(f:Same w0 w)
  (h:d (.bool a.isNone) (bN w.heap l (j (if a.isNone then .ready else .done) a))): ∃v m,(Instr.endRound l a).run P w=.ok v m/\Back d w0 (.returned v) m:=by
 obtain⟨fn,p,ps,b,k,D,rfl⟩:=g
 exact⟨_,_,run_endRound a o,_,rfl,⟨f.os,f.tape,f.output,f.drawn⟩,h⟩
theorem rG{f:LoopState->Option Code->Obj}{l:Nat}(b:qY f)(j:H[l]?=some (f .busy none))(h:d vT (bN H l (f .ready none))):At n ds w0 e H (roundPost P l (Back d w0) .normal):=λa w m g k=>
 rF none b (by rw[g];exact j) k (by rw[g];exact h)
theorem qe{a:Act}{ps:Array Tmp}{b f:Code}{D l:Nat}{args:Array Value}(m:Agree n ds e a)(g:ps.toList.all (λt=>Nat.blt t n)=true)(j:args.size=ps.size)(v:H[l]?=some (nX u a.tmps ps b f D .ready none))
  (h: ∀q,At n [] q (j5 e ps.toList args.toList) H (b.wpR (some l) P (Exit.then (λa w=> ∃r,(Instr.beginRound l).run P w=.ok () r/\f.wpR (some l) P (roundPost P l (Back d q)) a r) (λ_ _ _=>False)))):
  FC P (.func (.yield l) #[] #[]) args H d:=by
 refine .inr ⟨l,rfl,λw o=>⟨_,_,_,_,run_yield (by rw[o];exact v) j,?_⟩⟩
 refine roundIn_of_wpIn (F:=Fence.wide) trivial ?_
 refine h w _ w ?_ o (Same.refl w)
 have k:=kO (n:=n) (ds:=[]) ps.toList args.toList e a.tmps ⟨m.size,rfl,m.vals⟩ g
 have s:(ps.zip args).foldl (λtmps (x:Tmp×Value)=>tmps.setIfInBounds x.1 x.2) a.tmps=(ps.toList.zip args.toList).foldl (λtmps p=>tmps.setIfInBounds p.1 p.2) a.tmps:=by
  rw[<-Array.foldl_toList,Array.toList_zip]
 rw[<-s]at k
 exact k
theorem tJ{g:Operand}{ps:Array Tmp}{assign body:Code}(L:Value)(R:c=.rangeFunc g ps assign body)(U:iv e g=some L)(G:ps.toList.all (λt=>Nat.blt t n)=true)
  (h: ∀(r:LoopState->Option Code->Obj) (l:Nat) (J:zV),qY r->l=H.size+1->J=(H.push (.deferred (some []))).push (r .ready none)->
   (∀(args:Array Value) (H':zV) (B:zk),args.size=ps.size->H'[l]?=some (r .ready none)->
    (∀M,At n [] M (j5 e ps.toList args.toList) H' (assign.wpR (some l) P (Exit.then (λa w=> ∃N,(Instr.beginRound l).run P w=.ok () N/\body.wpR (some l) P (roundPost P l (Back B M)) a N) (λ_ _ _=>False))))->
    FC P (.func (.yield l) #[] #[]) args H' B)->
   FE P L #[.func (.yield l) #[] #[]] J (λ_ z=>
    (z[l]?=some (r .ready none)/\ ∀s,s=bN z l (r .exhausted none)->At n ({target:=.collected H.size,args:= #[]}::ds) w0 e s (Q .normal))\/
    (∃j,z[l]?=some (r .done (some j))/\ ∀s,s=bN z l (r .exhausted (some j))->At n ({target:=.collected H.size,args:= #[]}::ds) w0 e s (j.wpR none P Q)))):
  At n ds w0 e H (c.wpR none P Q):=λa w m A X=>by
 rw[R]
 refine wpIn_rangeFunc λfn T=>?_
 obtain⟨f,first,d,rfl,S,p⟩:=h (nX fn a.tmps ps assign body w.heap.size) (w.heap.size+1) ((w.heap.push (.deferred (some []))).push (nX fn a.tmps ps assign body w.heap.size .ready none)) ⟨_,_,_,_,_,_,rfl⟩ (by rw[A]) (by rw[A])
  (λargs H' B I u W=>qe m G I u W)
 have F:=m.eval U
 obtain⟨k,o⟩: ∃k,(w.alloc (.deferred (some []))).alloc (nX fn a.tmps ps assign body w.heap.size .ready none)=k:=⟨_,rfl⟩
 have C:k.heap=(w.heap.push (.deferred (some []))).push (nX fn a.tmps ps assign body w.heap.size .ready none):=by rw[<-o];rfl
 have D:Same w k:=by rw[<-o];exact⟨rfl,rfl,rfl,Nat.le_refl _⟩
 refine⟨w.heap.size+1,[{target:=.collected w.heap.size,args:= #[]}],k,{target:=.fn (.func f) d,args:=first++ #[.func (.yield (w.heap.size+1)) #[] #[]]},k,f,first++ #[.func (.yield (w.heap.size+1)) #[] #[]]++d,k,by rw[<-o];exact run_enterLoop_outer _ _ _ _ _,?_,?_,?_,λV=>(by cases V),?_⟩
 ·have hm:(rangeCall g (w.heap.size+1)).args.map a.eval= #[.func (.yield (w.heap.size+1)) #[] #[]]:=by simp[rangeCall,Act.eval]
  show(Deferred.ofValue (a.eval g) ((rangeCall g (w.heap.size+1)).args.map a.eval)).run P k=_
  rw[hm,F];rfl
 ·intro _ _;trivial
 ·have:=S (first++ #[.func (.yield (w.heap.size+1)) #[] #[]]++d)
  simpa[invoke]using this _
 ·refine CallsIn.mono (callsIn_wide.2 (p k C)) λZ Y ⟨v,E,q,O⟩=>?_
  subst E
  have b:Same w0 Y:=(X.trans D).trans q
  rcases O with⟨u,hk⟩ | ⟨j,u,hk⟩
  ·refine⟨none,_,run_endLoop u (by simp),?_⟩
   refine hk _ rfl _ _ ⟨m.size,?_,m.vals⟩ rfl ⟨b.os,b.tape,b.output,b.drawn⟩
   simp[m.defers,A]
  ·refine⟨some j,_,run_endLoop u (by simp),?_⟩
   refine hk _ rfl _ _ ⟨m.size,?_,m.vals⟩ rfl ⟨b.os,b.tape,b.output,b.drawn⟩
   simp[m.defers,A]
end
theorem o8{ro:Option Nat}{P:Program}{j:Region.Mode}{ops:Array Oper}{Q:Exit->Act->World->Prop}{S d:Array Bool->World->Prop}(g: ∀L w,d L w->S L w): ∀(b:Nat) (L:Array Bool) (a:Act) (w:World),wpG ro P j ops Q d b L a w->wpG ro P j ops Q S b L a w
 | 0,_,_,_,h=>h
 | b+1,_,_,_,h=>⟨h.1,λi l=>wpOpIn_mono (λk m f=>⟨g _ _ f.1,o8 g b _ k m f.2⟩) (h.2 i l)⟩
theorem sE{P:Program}{n:Nat}{ds:List Deferred}{ro:Option Nat}{w0:World}{e:Env}{H:zV}{Q:Exit->Act->World->Prop}{ops:Array Oper}{b:Nat}{L:Array Bool}(f:Nat×Addr×List Value)(q:aP H f.2.1 0 f.2.2)
  (h:RegG ro P n ds w0 ops (f::j) b L e H Q):RegG ro P n ds w0 ops j b L e H Q:=λa w o m r p k=>
 o8 (λL w h g l d=>h g (List.mem_cons_of_mem _ l) d) b L a w (h a w o m r p (λg l d=>by
  cases l with
  | head=>rw[m];exact q
  | tail _ hm=>exact k g hm d))
abbrev pa(b:Nat):zW:=some (Addr.mk b 0 none)
theorem BL:(∀b:Bool,(true || b)=true)/\(∀b:Bool,(false || b)=b)/\(∀b:Bool,(b || true)=true)/\(∀b:Bool,(b || false)=b)/\(∀b:Bool,(true && b)=b)/\(∀b:Bool,(false && b)=false)/\(∀b:Bool,(b && true)=b)/\(∀b:Bool,(b && false)=false)/\((!true)=false)/\((!false)=true)/\(∀x y:Bool,cond true x y=x)/\(∀x y:Bool,cond false x y=y):=
 ⟨by simp,by simp,by simp,by simp,by simp,by simp,by simp,by simp,rfl,rfl,by simp,by simp⟩
abbrev ca(c:Code):Code:=Code.fa c
abbrev cb(c:Code):Code:=Code.fb c
def bv(n m:Nat):Array Bool:=((List.range n).map λi=>m.testBit i).toArray
abbrev ad(b:Nat):Addr:=Addr.mk b 0 none
abbrev ar{α:Type}(l:List α):Array α:=l.toArray
abbrev DR(a b:Int)(c:Bool)(d:zW)(e f:Nat)(g:ByteArray)(i:zW)(j k:Nat):List Value:=[vi a,.int .i32 b,.bool c,vs d e f,.string g,vs i j k]
def mN(k:Nat)(l:List Nat):Bool:=l.foldr (λx r=>cond (Nat.beq x k) true r) false
def ed(d:List Nat)(a:Env)(e:Env):Env:=e.foldr (λp r=>cond (mN p.1 d) r (p::r)) a
theorem T_en{P:Program}{fn:Func}(c:Code)(n:Nat){args:Array Value}{H:zV}(g:P.funcs[u]?=some fn)
  (h: ∀(w0:World) (Q:Exit->Act->World->Prop),(∀a w,kK P fn w0 d a w->Q .ret a w/\Q .normal a w)->At n [] w0 (env0 0 args.toList) H (c.wpR none P Q)) (f:fn.body=some c:=by kernel_rfl) (hn:fn.ntmps=n:=by kernel_rfl) (b:Nat.ble args.size n=true:=by kernel_rfl):HC P u args H d:=
 tB n g f hn (Nat.le_of_ble_eq_true b) h
section
variable {P:Program} {n:Nat} {ds:List Deferred} {ro:Option Nat} {w0:World} {e:Env} {H:zV} {Q Q':Exit->Act->World->Prop} {K:Act->World->Prop} {c:Code} {ops:Array Oper} {i:Nat}
theorem sk{e' e:Env}(h:e'.map (λp=>e.get p.1)=e'.map (λp=>some p.2):=by kernel_rfl):Sub e' e:=h
theorem pk{n:Nat}{e:Env}{d:Option Nat}{e':Env}(h:(putS n e d k).map (λa=>e'.map (λp=>a.get p.1))=some (e'.map (λp=>some p.2)):=by kernel_rfl):fx n e d k e':=h
theorem T_sr(id:Nat)(x y:Code)(h:RegN ro P n ds w0 (Code.ops x) 0 e H (Exit.then (y.wpR ro P Q) Q))(a:c=.seq x y:=by kernel_rfl)(b:x=.region id (Code.ops x) false:=by kernel_rfl):At n ds w0 e H (c.wpR ro P Q):=
 sd x y a (mI id (Code.ops x) b h)
theorem T_e(h:At n ds w0 e H K)(a:ops.toList.drop i=[]:=by kernel_rfl):RegN ro P n ds w0 ops i e H (Exit.then K Q):=qN a (aD h)
theorem T_n(k:Nat)(e':Env)(h:RegN ro P n ds w0 ops (i+k) e' H Q)(a: ∀w,sel e' (runS P n ops ((ops.toList.drop i).take k) e w)=keep e' w:=by intro _;kernel_rfl):RegN ro P n ds w0 ops i e H Q:=qP k e' a h
theorem T_ne(k:Nat)(e':Env)(h:At n ds w0 e' H K)(b: ∀w,sel e' (runS P n ops ((ops.toList.drop i).take k) e w)=keep e' w:=by intro _;kernel_rfl)(a:ops.toList.drop (i+k)=[]:=by kernel_rfl):RegN ro P n ds w0 ops i e H (Exit.then K Q):=
 qP k e' b (qN a (aD h))
theorem T_s(x y:Code)(h:At n ds w0 e H (x.wpR ro P (Exit.then (y.wpR ro P Q) Q)))(a:c=.seq x y:=by kernel_rfl):At n ds w0 e H (c.wpR ro P Q):=sd x y a h
theorem T_t(o:Tmp)(x y:Code)(h:At n ds w0 e H (x.wpR ro P Q))(a:c=.cond (.tmp o) x y:=by kernel_rfl)(b:iv e (.tmp o)=some (vT):=by kernel_rfl):At n ds w0 e H (c.wpR ro P Q):=kA (.tmp o) x y a b h
theorem T_f(o:Tmp)(x y:Code)(h:At n ds w0 e H (y.wpR ro P Q))(a:c=.cond (.tmp o) x y:=by kernel_rfl)(b:iv e (.tmp o)=some (vF):=by kernel_rfl):At n ds w0 e H (c.wpR ro P Q):=kB (.tmp o) x y a b h
theorem T_cT(f:Tmp)(x y:Code)(a:o=true)(h:At n ds w0 e H (x.wpR ro P Q))(b:c=.cond (.tmp f) x y:=by kernel_rfl)(d:iv e (.tmp f)=some (.bool o):=by kernel_rfl):At n ds w0 e H (c.wpR ro P Q):=kA (.tmp f) x y b (by rw[d,a]) h
theorem T_cF(f:Tmp)(x y:Code)(a:o=false)(h:At n ds w0 e H (y.wpR ro P Q))(b:c=.cond (.tmp f) x y:=by kernel_rfl)(d:iv e (.tmp f)=some (.bool o):=by kernel_rfl):At n ds w0 e H (c.wpR ro P Q):=kB (.tmp f) x y b (by rw[d,a]) h
theorem T_nT(f:Tmp)(x y:Code)(a:o=false)(h:At n ds w0 e H (x.wpR ro P Q))(b:c=.cond (.tmp f) x y:=by kernel_rfl)(d:iv e (.tmp f)=some (.bool (!o)):=by kernel_rfl):At n ds w0 e H (c.wpR ro P Q):=kA (.tmp f) x y b (by rw[d,a];rfl) h
theorem T_nF(f:Tmp)(x y:Code)(a:o=true)(h:At n ds w0 e H (y.wpR ro P Q))(b:c=.cond (.tmp f) x y:=by kernel_rfl)(d:iv e (.tmp f)=some (.bool (!o)):=by kernel_rfl):At n ds w0 e H (c.wpR ro P Q):=kB (.tmp f) x y b (by rw[d,a];rfl) h
theorem T_k(h:At n ds w0 e H (Q .normal))(a:c=.skip:=by kernel_rfl):At n ds w0 e H (c.wpR ro P Q):=se a h
theorem T_kt(h:At n ds w0 e H K)(a:c=.skip:=by kernel_rfl):At n ds w0 e H (c.wpR ro P (Exit.then K Q)):=se a (aD h)
theorem T_b(id:Nat)(x:Code)(h:At n ds w0 e H (x.wpR ro P (Exit.inBlock id Q)))(a:c=.block id x:=by kernel_rfl):At n ds w0 e H (c.wpR ro P Q):=qM id x a h
theorem T_r(id:Nat)(x:Code)(h:RegN ro P n ds w0 (Code.ops x) 0 e H Q)(a:c=.region id (Code.ops x) false:=by kernel_rfl):At n ds w0 e H (c.wpR ro P Q):=mI id (Code.ops x) a h
theorem T_rq(id:Nat)(x:Code)(h:RegQ P n ds w0 (Code.ops x) 0 e H Q)(b:c=.region id (Code.ops x) true:=by kernel_rfl)(hm:P.follows .mixedOrders=true:=by kernel_rfl)(a:Region.lexB .any (Code.ops x)=true:=by kernel_rfl):At n ds w0 e H (c.wpR none P Q):=nP id (Code.ops x) b hm a h
theorem T_su(e':Env)(h:At n ds w0 e' H K)(a:e'.map (λp=>e.get p.1)=e'.map (λp=>some p.2):=by kernel_rfl):At n ds w0 e H K:=sc e' a h
theorem T_nu(e':Env)(h:RegN ro P n ds w0 ops i e' H Q)(a:e'.map (λp=>e.get p.1)=e'.map (λp=>some p.2):=by kernel_rfl):RegN ro P n ds w0 ops i e H Q:=sf e' a h
theorem ia{fn:Func}(f:List Nat)(vs:List Value)(j: ∀a w,kK P fn w0 d a w->Q .ret a w/\Q .normal a w)(h:d (tup vs) H)(k:c=.ret:=by kernel_rfl)(m:Q' .ret=Q .ret:=by exact rfl)
  (g:fn.results.toList=f.map .tmp:=by kernel_rfl) (b:f.map e.get=vs.map some:=by kernel_rfl):At n [] w0 e H (c.wpR ro P Q'):=by
 refine ug k ?_
 rw[m]
 refine iS vs j ?_ h
 rw[g];clear g h
 induction f generalizing vs with
 | nil=>cases vs with | nil=>exact .nil | cons v l=>cases b
 | cons t f o=>
  cases vs with
  | nil=>cases b
  | cons v l=>
   rw[List.map_cons,List.map_cons,List.cons.injEq]at b
   exact .tmp b.1 (o l b.2)
theorem T_q(d:Option Tmp)(v:Value)(e':Env)(h:RegQ P n ds w0 ops (i+1) e' H Q)(b:(ops.toList.drop i).head?.map (·.dst)=some d:=by kernel_rfl)
  (g: ∀w,((ops.toList.drop i).head?.bind λo=>mL P ops o e w)=some (v,w):=by intro _;kernel_rfl) (f:(putS n e d v).map (λa=>e'.map (λp=>a.get p.1))=some (e'.map (λp=>some p.2)):=by kernel_rfl):RegQ P n ds w0 ops i e H Q:=uh v e' d b g f h
theorem T_qe(h:At n ds w0 e H K)(a:ops.toList.drop i=[]:=by kernel_rfl):RegQ P n ds w0 ops i e H (Exit.then K Q):=uJ a (aD h)
theorem T_v(d:Option Tmp)(S:Sem Next)(v:Value)(b: ∀w,w.heap=H->S.run P w=.ok (.value v) w)(e':Env)(h:RegN ro P n ds w0 ops (i+1) e' H Q)(g: ∀w,cO P ops i e w=some (d,S.run P w):=by intro _;kernel_rfl)
  (f:(putS n e d v).map (λa=>e'.map (λp=>a.get p.1))=some (e'.map (λp=>some p.2)):=by kernel_rfl):RegN ro P n ds w0 ops i e H Q:=nQ d S v g b e' f h
theorem T_l(d:Option Tmp)(t:TypeId)(q:hat H v=some k)(e':Env)(h:RegN ro P n ds w0 ops (i+1) e' H Q)(g: ∀w,cO P ops i e w=some (d,(aR t (vq v)).run P w):=by intro _;kernel_rfl)
  (f: ∀w,(isAgg t).run P w=.ok false w:=by intro _;kernel_rfl) (b:(putS n e d k).map (λa=>e'.map (λp=>a.get p.1))=some (e'.map (λp=>some p.2)):=by kernel_rfl):RegN ro P n ds w0 ops i e H Q:=
 nQ d (aR t (vq v)) k g (iE (jt f q)) e' b h
theorem T_ql(d:Option Tmp)(t:TypeId){a:Addr}(q:hat H a=some k)(e':Env)(h:RegQ P n ds w0 ops (i+1) e' H Q)(j: ∀w,cO P ops i e w=some (d,(aR t (vq a)).run P w):=by intro _;kernel_rfl)
  (g: ∀w,(isAgg t).run P w=.ok false w:=by intro _;kernel_rfl) (f:(putS n e d k).map (λb=>e'.map (λp=>b.get p.1))=some (e'.map (λp=>some p.2)):=by kernel_rfl):RegQ P n ds w0 ops i e H Q:=
 Q_op d (aR t (vq a)) k j (iE (jt g q)) e' f h
theorem T_ix(d:Option Tmp)(t b l:Nat)(a:Addr)(f g:Nat)(k:IntKind)(j:Int)(s:P.underlying t=some (.slice b))(o:0<=j)(q:j<f)(e':Env)(h:RegN ro P n ds w0 ops (i+1) e' H Q)
  (v: ∀w,(sizeOf b).run P w=.ok l w:=by intro _;kernel_rfl) (u: ∀w,cO P ops i e w=some (d,(bA t (vs (some a) f g) (.int k j)).run P w):=by intro _;kernel_rfl)
  (r:(putS n e d (vq (a.add (Int.toNat j*l)))).map (λm=>e'.map (λp=>m.get p.1))=some (e'.map (λp=>some p.2)):=by kernel_rfl):RegN ro P n ds w0 ops i e H Q:=
 nQ d (bA t (vs (some a) f g) (.int k j)) (vq (a.add (Int.toNat j*l))) u (λw _=>cZ s v o q w) e' r h
theorem T_g{a:Nat}{L:Array Bool}(i:Nat)(d:Option Tmp)(v:Value)(k:Array Bool)(e':Env)(S:Sem Next)(q: ∀L w,Closed .any ops L->L.getD i true=false->eY j L w->S.run P w=.ok (.value v) w)
  (h:RegG ro P n ds w0 ops j a k e' H Q) (u: ∀w,cO P ops i e w=some (d,S.run P w):=by intro _;kernel_rfl)
  (t:(Region.ready .any ops L).contains i=true:=by kernel_rfl) (g:Region.noSelect ops=true:=by kernel_rfl) (b:iL ops=true:=by kernel_rfl) (s:Region.free .any ops L i=true:=by kernel_rfl) (l:j.all (λf=>f.1 !=i)=true:=by kernel_rfl) (o:L.setIfInBounds i true=k:=by kernel_rfl)
  (r:(putS n e d v).map (λm=>e'.map (λp=>m.get p.1))=some (e'.map (λp=>some p.2)):=by kernel_rfl):RegG ro P n ds w0 ops j (a+1) L e H Q:=lQ i d v k e' S u q t g b s l o r h
theorem T_c{args:Array Value}(f:Option Tmp)(a:HC P u args H d)(h: ∀v H',d v H'-> ∃e',fx n e f v e'/\RegN ro P n ds w0 ops (i+1) e' H' Q)(b: ∀w,cO P ops i e w=some (f,.ok (.enter u args) w):=by intro _;kernel_rfl):RegN ro P n ds w0 ops i e H Q:=um f u args b a h
theorem T_nw(d:Option Tmp)(f:Nat->Value)(o:Obj)(h: ∀b H',b=H.size->H'=H.push o-> ∃e',fx n e d (f b) e'/\RegN ro P n ds w0 ops (i+1) e' H' Q)(a: ∀w,cO P ops i e w=some (d,.ok (.value (f w.heap.size)) {w with heap:=w.heap.push o}):=by intro _;kernel_rfl):RegN ro P n ds w0 ops i e H Q:=uK d f o a h
theorem T_gs{a:Nat}{L:Array Bool}(i:Nat)(d:Option Tmp)(l:Array Bool)(e':Env)(h:RegG ro P n ds w0 ops j a l e' H Q)(v:(ops[i]?).bind (λo=>(jT ops e o).map (λb=>(o.dst,b)))=some (d,false):=by kernel_rfl)
  (u:(Region.ready .any ops L).contains i=true:=by kernel_rfl) (k:Region.noSelect ops=true:=by kernel_rfl) (g:iL ops=true:=by kernel_rfl) (t:Region.free .any ops L i=true:=by kernel_rfl) (m:j.all (λf=>f.1 !=i)=true:=by kernel_rfl) (r:L.setIfInBounds i true=l:=by kernel_rfl)
  (s:(putS n e d undef).map (λq=>e'.map (λp=>q.get p.1))=some (e'.map (λp=>some p.2)):=by kernel_rfl):RegG ro P n ds w0 ops j (a+1) L e H Q:=sl i d l e' v u k g t m r s h
theorem T_gp{a:Nat}{L:Array Bool}(i:Nat)(d:Option Tmp)(v:Value)(k:Array Bool)(e':Env)
  (h:RegG ro P n ds w0 ops j a k e' H Q) (t: ∀w,cO P ops i e w=some (d,(pure (.value v):Sem Next).run P w):=by intro _;kernel_rfl)
  (s:(Region.ready .any ops L).contains i=true:=by kernel_rfl) (g:Region.noSelect ops=true:=by kernel_rfl) (b:iL ops=true:=by kernel_rfl) (r:Region.free .any ops L i=true:=by kernel_rfl) (l:j.all (λf=>f.1 !=i)=true:=by kernel_rfl) (o:L.setIfInBounds i true=k:=by kernel_rfl)
  (q:(putS n e d v).map (λm=>e'.map (λp=>m.get p.1))=some (e'.map (λp=>some p.2)):=by kernel_rfl):RegG ro P n ds w0 ops j (a+1) L e H Q:=lQ i d v k e' (pure (.value v)) t (λ_ _ _ _ _=>rfl) s g b r l o q h
theorem T_nd(k:Nat)(b:List Nat)(a:Env)(h:RegN ro P n ds w0 ops (i+k) (ed b a e) H Q)(d: ∀w,sel (ed b a e) (runS P n ops ((ops.toList.drop i).take k) e w)=keep (ed b a e) w:=by intro _;kernel_rfl):RegN ro P n ds w0 ops i e H Q:=qP k _ d h
theorem T_ed(k:Nat)(b:List Nat)(a:Env)(h:At n ds w0 (ed b a e) H K)(f: ∀w,sel (ed b a e) (runS P n ops ((ops.toList.drop i).take k) e w)=keep (ed b a e) w:=by intro _;kernel_rfl)(d:ops.toList.drop (i+k)=[]:=by kernel_rfl):RegN ro P n ds w0 ops i e H (Exit.then K Q):=
 qP k _ f (qN d (aD h))
theorem T_sd(b:List Nat)(a:Env)(h:At n ds w0 (ed b a e) H K)(d:(ed b a e).map (λp=>e.get p.1)=(ed b a e).map (λp=>some p.2):=by kernel_rfl):At n ds w0 e H K:=sc _ d h
theorem T_ud(b:List Nat)(a:Env)(h:RegN ro P n ds w0 ops i (ed b a e) H Q)(d:(ed b a e).map (λp=>e.get p.1)=(ed b a e).map (λp=>some p.2):=by kernel_rfl):RegN ro P n ds w0 ops i e H Q:=sf _ d h
theorem T_qd(d:Option Tmp)(v:Value)(b:List Nat)(a:Env)(h:RegQ P n ds w0 ops (i+1) (ed b a e) H Q)(g:(ops.toList.drop i).head?.map (·.dst)=some d:=by kernel_rfl)
  (k: ∀w,((ops.toList.drop i).head?.bind λo=>mL P ops o e w)=some (v,w):=by intro _;kernel_rfl) (j:(putS n e d v).map (λf=>(ed b a e).map (λp=>f.get p.1))=some ((ed b a e).map (λp=>some p.2)):=by kernel_rfl):RegQ P n ds w0 ops i e H Q:=uh v _ d g k j h
theorem T_vd(d:Option Tmp)(S:Sem Next)(v:Value)(g: ∀w,w.heap=H->S.run P w=.ok (.value v) w)(b:List Nat)(a:Env)(h:RegN ro P n ds w0 ops (i+1) (ed b a e) H Q)(k: ∀w,cO P ops i e w=some (d,S.run P w):=by intro _;kernel_rfl)
  (j:(putS n e d v).map (λf=>(ed b a e).map (λp=>f.get p.1))=some ((ed b a e).map (λp=>some p.2)):=by kernel_rfl):RegN ro P n ds w0 ops i e H Q:=nQ d S v k g _ j h
theorem T_ld(d:Option Tmp)(t:TypeId)(q:hat H v=some k)(b:List Nat)(a:Env)(h:RegN ro P n ds w0 ops (i+1) (ed b a e) H Q)(l: ∀w,cO P ops i e w=some (d,(aR t (vq v)).run P w):=by intro _;kernel_rfl)
  (j: ∀w,(isAgg t).run P w=.ok false w:=by intro _;kernel_rfl) (g:(putS n e d k).map (λf=>(ed b a e).map (λp=>f.get p.1))=some ((ed b a e).map (λp=>some p.2)):=by kernel_rfl):RegN ro P n ds w0 ops i e H Q:=
 nQ d (aR t (vq v)) k l (iE (jt j q)) _ g h
theorem mX(d:Option Tmp)(t:TypeId){a:Addr}(q:hat H a=some k)(f:List Nat)(b:Env)(h:RegQ P n ds w0 ops (i+1) (ed f b e) H Q)(m: ∀w,cO P ops i e w=some (d,(aR t (vq a)).run P w):=by intro _;kernel_rfl)
  (l: ∀w,(isAgg t).run P w=.ok false w:=by intro _;kernel_rfl) (j:(putS n e d k).map (λg=>(ed f b e).map (λp=>g.get p.1))=some ((ed f b e).map (λp=>some p.2)):=by kernel_rfl):RegQ P n ds w0 ops i e H Q:=
 Q_op d (aR t (vq a)) k m (iE (jt l q)) _ j h
theorem T_xd(d:Option Tmp)(t elem sz:Nat)(a:Addr)(b f:Nat)(k:IntKind)(j:Int)(s:P.underlying t=some (.slice elem))(o:0<=j)(q:j<b)(l:List Nat)(g:Env)(h:RegN ro P n ds w0 ops (i+1) (ed l g e) H Q)
  (v: ∀w,(sizeOf elem).run P w=.ok sz w:=by intro _;kernel_rfl) (u: ∀w,cO P ops i e w=some (d,(bA t (vs (some a) b f) (.int k j)).run P w):=by intro _;kernel_rfl)
  (r:(putS n e d (vq (a.add (Int.toNat j*sz)))).map (λm=>(ed l g e).map (λp=>m.get p.1))=some ((ed l g e).map (λp=>some p.2)):=by kernel_rfl):RegN ro P n ds w0 ops i e H Q:=
 nQ d (bA t (vs (some a) b f) (.int k j)) (vq (a.add (Int.toNat j*sz))) u (λw _=>cZ s v o q w) _ r h
theorem T_gd{a:Nat}{L:Array Bool}(i:Nat)(d:Option Tmp)(v:Value)(k:Array Bool)(m:List Nat)(l:Env)(S:Sem Next)(s: ∀L w,Closed .any ops L->L.getD i true=false->eY j L w->S.run P w=.ok (.value v) w)
  (h:RegG ro P n ds w0 ops j a k (ed m l e) H Q) (A: ∀w,cO P ops i e w=some (d,S.run P w):=by intro _;kernel_rfl)
  (z:(Region.ready .any ops L).contains i=true:=by kernel_rfl) (g:Region.noSelect ops=true:=by kernel_rfl) (b:iL ops=true:=by kernel_rfl) (u:Region.free .any ops L i=true:=by kernel_rfl) (o:j.all (λf=>f.1 !=i)=true:=by kernel_rfl) (r:L.setIfInBounds i true=k:=by kernel_rfl)
  (t:(putS n e d v).map (λq=>(ed m l e).map (λp=>q.get p.1))=some ((ed m l e).map (λp=>some p.2)):=by kernel_rfl):RegG ro P n ds w0 ops j (a+1) L e H Q:=lQ i d v k _ S A s z g b u o r t h
theorem cH{a:Nat}{L:Array Bool}(i:Nat)(d:Option Tmp)(l:Array Bool)(q:List Nat)(m:Env)(h:RegG ro P n ds w0 ops j a l (ed q m e) H Q)(z:(ops[i]?).bind (λo=>(jT ops e o).map (λb=>(o.dst,b)))=some (d,false):=by kernel_rfl)
  (w:(Region.ready .any ops L).contains i=true:=by kernel_rfl) (k:Region.noSelect ops=true:=by kernel_rfl) (g:iL ops=true:=by kernel_rfl) (v:Region.free .any ops L i=true:=by kernel_rfl) (r:j.all (λf=>f.1 !=i)=true:=by kernel_rfl) (t:L.setIfInBounds i true=l:=by kernel_rfl)
  (u:(putS n e d undef).map (λs=>(ed q m e).map (λp=>s.get p.1))=some ((ed q m e).map (λp=>some p.2)):=by kernel_rfl):RegG ro P n ds w0 ops j (a+1) L e H Q:=sl i d l _ z w k g v r t u h
theorem uU{a:Nat}{L:Array Bool}(i:Nat)(d:Option Tmp)(v:Value)(k:Array Bool)(m:List Nat)(l:Env)
  (h:RegG ro P n ds w0 ops j a k (ed m l e) H Q) (z: ∀w,cO P ops i e w=some (d,(pure (.value v):Sem Next).run P w):=by intro _;kernel_rfl)
  (u:(Region.ready .any ops L).contains i=true:=by kernel_rfl) (g:Region.noSelect ops=true:=by kernel_rfl) (b:iL ops=true:=by kernel_rfl) (t:Region.free .any ops L i=true:=by kernel_rfl) (o:j.all (λf=>f.1 !=i)=true:=by kernel_rfl) (r:L.setIfInBounds i true=k:=by kernel_rfl)
  (s:(putS n e d v).map (λq=>(ed m l e).map (λp=>q.get p.1))=some ((ed m l e).map (λp=>some p.2)):=by kernel_rfl):RegG ro P n ds w0 ops j (a+1) L e H Q:=lQ i d v k _ (pure (.value v)) z (λ_ _ _ _ _=>rfl) u g b t o r s h
theorem T_pd{o:Option Tmp}{v:Value}{K:Env->Prop}(b:List Nat)(a:Env)(h:K (ed b a e))(f:(putS n e o v).map (λd=>(ed b a e).map (λp=>d.get p.1))=some ((ed b a e).map (λp=>some p.2)):=by kernel_rfl): ∃e',fx n e o v e'/\K e':=⟨_,f,h⟩
theorem N_bd(k:Nat){b v:Bool}(a:b=v)(h:RegN ro P n ds w0 ops i (ed [k] [(k,.bool v)] e) H Q)(d:(ed [k] [(k,.bool b)] e).map (λp=>e.get p.1)=(ed [k] [(k,.bool b)] e).map (λp=>some p.2):=by kernel_rfl):RegN ro P n ds w0 ops i e H Q:=by
 subst a;exact sf _ d h
theorem S_bd(k:Nat){b v:Bool}(a:b=v)(h:At n ds w0 (ed [k] [(k,.bool v)] e) H K)(d:(ed [k] [(k,.bool b)] e).map (λp=>e.get p.1)=(ed [k] [(k,.bool b)] e).map (λp=>some p.2):=by kernel_rfl):At n ds w0 e H K:=by
 subst a;exact sc _ d h
theorem Q_bd(k:Nat){v:Bool}(a:o=v)(h:RegQ P n ds w0 ops i (ed [k] [(k,.bool v)] e) H Q)(b:(ed [k] [(k,.bool o)] e).map (λp=>e.get p.1)=(ed [k] [(k,.bool o)] e).map (λp=>some p.2):=by kernel_rfl):RegQ P n ds w0 ops i e H Q:=by
 subst a;exact me _ b h
theorem G_bd{a:Nat}{L:Array Bool}(k:Nat){v:Bool}(b:o=v)(h:RegG ro P n ds w0 ops j a L (ed [k] [(k,.bool v)] e) H Q)(d:(ed [k] [(k,.bool o)] e).map (λp=>e.get p.1)=(ed [k] [(k,.bool o)] e).map (λp=>some p.2):=by kernel_rfl):RegG ro P n ds w0 ops j a L e H Q:=by
 subst b;exact fQ _ d h
theorem fL{a:Addr}{k:Nat}(t:TypeId)(vs:List Value)(q:aN H a 0 k)(h: ∀H',H'=aV H a vs 0-> ∃e',fx n e none undef e'/\RegN ro P n ds w0 ops (i+1) e' H' Q)(g: ∀w,cO P ops i e w=some (none,(iR t (vq a) (.agg vs.toArray)).run P w):=by intro _;kernel_rfl)
  (f:(Value.agg vs.toArray).cells.toList=vs:=by kernel_rfl) (hk:vs.length=k:=by kernel_rfl) (hn: ∀w,(sizeOf t).run P w=.ok k w:=by intro _;kernel_rfl) (d:jR vs=true:=by kernel_rfl):RegN ro P n ds w0 ops i e H Q:=
 mK none (iR t (vq a) (.agg vs.toArray)) (λb=>b=aV H a vs 0) g (iK vs k f hk hn d q) h
theorem jf{a:Addr}{k:Nat}(t:TypeId)(v:Value)(q:aN H a 0 k)(h: ∀H',H'=aV H a [v] 0-> ∃e',fx n e none undef e'/\RegN ro P n ds w0 ops (i+1) e' H' Q)(g: ∀w,cO P ops i e w=some (none,(iR t (vq a) v).run P w):=by intro _;kernel_rfl)
  (f:v.cells.toList=[v]:=by kernel_rfl) (hk:[v].length=k:=by kernel_rfl) (hn: ∀w,(sizeOf t).run P w=.ok k w:=by intro _;kernel_rfl) (d:jR [v]=true:=by kernel_rfl):RegN ro P n ds w0 ops i e H Q:=
 mK none (iR t (vq a) v) (λb=>b=aV H a [v] 0) g (iK [v] k f hk hn d q) h
theorem aA(id:Nat)(h:RegN ro P n ds w0 (Code.ops (ca c)) 0 e H (Exit.then ((cb c).wpR ro P Q) Q))(a:c=.seq (ca c) (cb c):=by kernel_rfl)(b:ca c=.region id (Code.ops (ca c)) false:=by kernel_rfl):At n ds w0 e H (c.wpR ro P Q):=T_sr id (ca c) (cb c) h a b
theorem T_sz(h:At n ds w0 e H ((ca c).wpR ro P (Exit.then ((cb c).wpR ro P Q) Q)))(a:c=.seq (ca c) (cb c):=by kernel_rfl):At n ds w0 e H (c.wpR ro P Q):=sd (ca c) (cb c) a h
theorem T_tz(o:Tmp)(h:At n ds w0 e H ((ca c).wpR ro P Q))(a:c=.cond (.tmp o) (ca c) (cb c):=by kernel_rfl)(b:iv e (.tmp o)=some (vT):=by kernel_rfl):At n ds w0 e H (c.wpR ro P Q):=kA (.tmp o) _ _ a b h
theorem T_fz(o:Tmp)(h:At n ds w0 e H ((cb c).wpR ro P Q))(a:c=.cond (.tmp o) (ca c) (cb c):=by kernel_rfl)(b:iv e (.tmp o)=some (vF):=by kernel_rfl):At n ds w0 e H (c.wpR ro P Q):=kB (.tmp o) _ _ a b h
theorem aI(o:Tmp){b:Bool}(a:b=true)(h:At n ds w0 e H ((ca c).wpR ro P Q))(d:c=.cond (.tmp o) (ca c) (cb c):=by kernel_rfl)(f:iv e (.tmp o)=some (.bool b):=by kernel_rfl):At n ds w0 e H (c.wpR ro P Q):=kA (.tmp o) _ _ d (by rw[f,a]) h
theorem aJ(o:Tmp){b:Bool}(a:b=false)(h:At n ds w0 e H ((cb c).wpR ro P Q))(d:c=.cond (.tmp o) (ca c) (cb c):=by kernel_rfl)(f:iv e (.tmp o)=some (.bool b):=by kernel_rfl):At n ds w0 e H (c.wpR ro P Q):=kB (.tmp o) _ _ d (by rw[f,a]) h
theorem uV(f:Tmp)(a:o=false)(h:At n ds w0 e H ((ca c).wpR ro P Q))(b:c=.cond (.tmp f) (ca c) (cb c):=by kernel_rfl)(d:iv e (.tmp f)=some (.bool (!o)):=by kernel_rfl):At n ds w0 e H (c.wpR ro P Q):=kA (.tmp f) _ _ b (by rw[d,a];rfl) h
theorem uW(f:Tmp)(a:o=true)(h:At n ds w0 e H ((cb c).wpR ro P Q))(b:c=.cond (.tmp f) (ca c) (cb c):=by kernel_rfl)(d:iv e (.tmp f)=some (.bool (!o)):=by kernel_rfl):At n ds w0 e H (c.wpR ro P Q):=kB (.tmp f) _ _ b (by rw[d,a];rfl) h
theorem T_bz(id:Nat)(h:At n ds w0 e H ((ca c).wpR ro P (Exit.inBlock id Q)))(a:c=.block id (ca c):=by kernel_rfl):At n ds w0 e H (c.wpR ro P Q):=qM id _ a h
theorem T_rz(id:Nat)(h:RegN ro P n ds w0 (Code.ops c) 0 e H Q)(a:c=.region id (Code.ops c) false:=by kernel_rfl):At n ds w0 e H (c.wpR ro P Q):=mI id (Code.ops c) a h
theorem qZ(id:Nat)(h:RegQ P n ds w0 (Code.ops c) 0 e H Q)(b:c=.region id (Code.ops c) true:=by kernel_rfl)(hm:P.follows .mixedOrders=true:=by kernel_rfl)(a:Region.lexB .any (Code.ops c)=true:=by kernel_rfl):At n ds w0 e H (c.wpR none P Q):=nP id (Code.ops c) b hm a h
theorem T_l1(k:Nat)(t:TypeId){a:Addr}{v:Value}(q:hat H a=some v)(b:List Nat)(h:RegN ro P n ds w0 ops (i+1) (ed b [(k,v)] e) H Q)(j: ∀w,cO P ops i e w=some (some k,(aR t (vq a)).run P w):=by intro _;kernel_rfl)
  (g: ∀w,(isAgg t).run P w=.ok false w:=by intro _;kernel_rfl) (f:(putS n e (some k) v).map (λd=>(ed b [(k,v)] e).map (λp=>d.get p.1))=some ((ed b [(k,v)] e).map (λp=>some p.2)):=by kernel_rfl):RegN ro P n ds w0 ops i e H Q:=T_ld (some k) t q b [(k,v)] h j g f
theorem T_lr(k:Nat)(t:TypeId){vs:List Value}(q:aP H v 0 vs)(a:List Nat)(h:RegN ro P n ds w0 ops (i+1) (ed a [(k,.agg vs.toArray)] e) H Q)(g: ∀w,cO P ops i e w=some (some k,(aR t (vq v)).run P w):=by intro _;kernel_rfl)
  (f: ∀w,(isAgg t).run P w=.ok true w:=by intro _;kernel_rfl) (hn: ∀w,(sizeOf t).run P w=.ok vs.length w:=by intro _;kernel_rfl) (d:(putS n e (some k) (.agg vs.toArray)).map (λb=>(ed a [(k,.agg vs.toArray)] e).map (λp=>b.get p.1))=some ((ed a [(k,.agg vs.toArray)] e).map (λp=>some p.2)):=by kernel_rfl):RegN ro P n ds w0 ops i e H Q:=
 T_vd (some k) (aR t (vq v)) (.agg vs.toArray) (iE (eL f hn q)) a [(k,.agg vs.toArray)] h g d
theorem T_q1(k:Nat)(v:Value)(a:List Nat)(h:RegQ P n ds w0 ops (i+1) (ed a [(k,v)] e) H Q)(d:(ops.toList.drop i).head?.map (·.dst)=some (some k):=by kernel_rfl)
  (g: ∀w,((ops.toList.drop i).head?.bind λo=>mL P ops o e w)=some (v,w):=by intro _;kernel_rfl) (f:(putS n e (some k) v).map (λb=>(ed a [(k,v)] e).map (λp=>b.get p.1))=some ((ed a [(k,v)] e).map (λp=>some p.2)):=by kernel_rfl):RegQ P n ds w0 ops i e H Q:=T_qd (some k) v a [(k,v)] h d g f
theorem T_v1(k:Nat)(S:Sem Next)(v:Value)(d: ∀w,w.heap=H->S.run P w=.ok (.value v) w)(a:List Nat)(h:RegN ro P n ds w0 ops (i+1) (ed a [(k,v)] e) H Q)(g: ∀w,cO P ops i e w=some (some k,S.run P w):=by intro _;kernel_rfl)
  (f:(putS n e (some k) v).map (λb=>(ed a [(k,v)] e).map (λp=>b.get p.1))=some ((ed a [(k,v)] e).map (λp=>some p.2)):=by kernel_rfl):RegN ro P n ds w0 ops i e H Q:=T_vd (some k) S v d a [(k,v)] h g f
theorem T_g1{a:Nat}{L:Array Bool}(i:Nat)(k:Nat)(v:Value)(g:Array Bool)(l:List Nat)(S:Sem Next)(r: ∀L w,Closed .any ops L->L.getD i true=false->eY j L w->S.run P w=.ok (.value v) w)
  (h:RegG ro P n ds w0 ops j a g (ed l [(k,v)] e) H Q) (z: ∀w,cO P ops i e w=some (some k,S.run P w):=by intro _;kernel_rfl)
  (u:(Region.ready .any ops L).contains i=true:=by kernel_rfl) (d:Region.noSelect ops=true:=by kernel_rfl) (b:iL ops=true:=by kernel_rfl) (t:Region.free .any ops L i=true:=by kernel_rfl) (m:j.all (λf=>f.1 !=i)=true:=by kernel_rfl) (q:L.setIfInBounds i true=g:=by kernel_rfl)
  (s:(putS n e (some k) v).map (λo=>(ed l [(k,v)] e).map (λp=>o.get p.1))=some ((ed l [(k,v)] e).map (λp=>some p.2)):=by kernel_rfl):RegG ro P n ds w0 ops j (a+1) L e H Q:=lQ i (some k) v g _ S z r u d b t m q s h
theorem aF{a:Nat}{L:Array Bool}(i:Nat)(k:Nat)(v:Value)(g:Array Bool)(l:List Nat)
  (h:RegG ro P n ds w0 ops j a g (ed l [(k,v)] e) H Q) (u: ∀w,cO P ops i e w=some (some k,(pure (.value v):Sem Next).run P w):=by intro _;kernel_rfl)
  (t:(Region.ready .any ops L).contains i=true:=by kernel_rfl) (d:Region.noSelect ops=true:=by kernel_rfl) (b:iL ops=true:=by kernel_rfl) (s:Region.free .any ops L i=true:=by kernel_rfl) (m:j.all (λf=>f.1 !=i)=true:=by kernel_rfl) (q:L.setIfInBounds i true=g:=by kernel_rfl)
  (r:(putS n e (some k) v).map (λo=>(ed l [(k,v)] e).map (λp=>o.get p.1))=some ((ed l [(k,v)] e).map (λp=>some p.2)):=by kernel_rfl):RegG ro P n ds w0 ops j (a+1) L e H Q:=lQ i (some k) v g _ (pure (.value v)) u (λ_ _ _ _ _=>rfl) t d b s m q r h
theorem T_nr{fn:Func}{f:Exit->Act->World->Prop}(k:Nat)(b:List Nat)(vs:List Value)(g: ∀a w,kK P fn w0 d a w->Q .ret a w/\Q .normal a w)(h:d (tup vs) H)(p: ∀w,sel (b.zip vs) (runS P n ops ((ops.toList.drop i).take k) e w)=keep (b.zip vs) w:=by intro _;kernel_rfl)(m:ops.toList.drop (i+k)=[]:=by kernel_rfl)(j:c=.ret:=by kernel_rfl)(o:Q' .ret=Q .ret:=by exact rfl)
  (l:fn.results.toList=b.map .tmp:=by kernel_rfl) (q:b.map (Env.get (b.zip vs))=vs.map some:=by kernel_rfl):RegN ro P n [] w0 ops i e H (Exit.then (c.wpR ro P Q') f):=T_ne k (b.zip vs) (ia b vs g h j o l q) p m
end
def HD(P:Program)(f:FuncId)(args:Array Value)(H:zV)(R:zV->Prop):Prop:=
 ∀w,w.heap=H->CallsDIn Fence.wide 0 P f args .returning w (λen u w'=>u=.returning/\ ∃v,en=.returned v/\Same w w'/\R w'.heap)
theorem HD.mono{P:Program}{f:FuncId}{args:Array Value}{H:zV}{R a:zV->Prop}(h:HD P f args H R)(g: ∀H',R H'->a H'):HD P f args H a:=
 λw k=>(h w k).mono λ_ _ _ ⟨j,v,d,i,b⟩=>⟨j,v,d,i,g _ b⟩
section
variable {P:Program} {n:Nat} {w0:World} {e e':Env} {H H':zV} {Q:Exit->Act->World->Prop} {K:Act->World->Prop} {c x y:Code} {ds:List Deferred} {ro:Option Nat}
end
def Exit.jump(l:Nat)(J:Act->World->Prop)(Q:Exit->Act->World->Prop):Exit->Act->World->Prop
 | .goto l',a,w=>l'=l/\J a w
 | e,a,w=>Q e a w
def mF(P:Program)(x:Code)(l:Nat)(Q:Exit->Act->World->Prop)(a:Act)(w:World):Prop:=
 ∀r,findLabel x l=some r-> ∀b k cs,∃e a₁ w₁,Q e a₁ w₁/\Arrives P (lone (b.at a (.code r::.inScope x::k)) cs w) b k cs e a₁ w₁
section
variable {P:Program} {n:Nat} {w0:World} {e e':Env} {H H':zV} {Q:Exit->Act->World->Prop} {K:Act->World->Prop} {c x y:Code} {ds:List Deferred} {ro:Option Nat}
theorem nK{l:Nat}{a:Act}{w:World}(u:(findLabel x l).isSome=true)(h:x.wp P (Exit.jump l (mF P x l Q) Q) a w):(Code.scope x).wp P Q a w:=by
 obtain⟨r,q⟩:=Option.isSome_iff_exists.1 u
 intro b k p
 obtain⟨e,i,m,g,d⟩:=h b (.inScope x::k) p
 cases e with
 | normal=>exact⟨.normal,i,m,g,.head step_scope (Steps.trans d (.one step_inScope))⟩
 | exit id=>exact⟨.exit id,i,m,g,λv hk=> .head step_scope (d v (by simp[exitTo,hk]))⟩
 | goto B=>
  obtain⟨rfl,j⟩:=g
  obtain⟨t,s,z,o,f⟩:=j r q b k p
  exact⟨t,s,z,o,.of_steps (.head step_scope (d _ (by simp[gotoIn,q]))) f⟩
 | ret=>exact⟨_,i,m,g,.of_steps (.one step_scope) d⟩
 | panic A=>exact⟨_,i,m,g,.of_steps (.one step_scope) d⟩
 | outgrown=>exact⟨_,i,m,g,.of_steps (.one step_scope) d⟩
theorem qf{l:Nat}{B:Code}(t:findLabel x l=some (.seq .skip B))(I:Act->World->Prop)(μ:Act->World->Nat)(round: ∀a w,I a w->B.wp P (Exit.jump l (λj m=>I j m/\μ j m<μ a w) Q) a w):
  ∀(k:Nat) (a:Act) (w:World),μ a w=k->I a w->mF P x l Q a w:=by
 intro k
 induction k using Nat.strongRecOn with
 | ind k E=>
  intro a w hk D r u b v s
  obtain rfl:Code.seq .skip B=r:=Option.some.inj (t.symm.trans u)
  have C:(Code.seq .skip B).wp P (Exit.jump l (λj m=>I j m/\μ j m<μ a w) Q) a w:=wp_seq (wp_skip (round a w D))
  obtain⟨e,g,i,h,d⟩:=C b (.inScope x::v) s
  cases e with
  | normal=>exact⟨.normal,g,i,h,Steps.trans d (.one step_inScope)⟩
  | exit id=>exact⟨.exit id,g,i,h,λF hk=>d F (by simp[exitTo,hk])⟩
  | goto L=>
   obtain⟨rfl,o,p⟩:=h
   obtain⟨A,z,G,q,f⟩:=E _ (hk▸p) g i rfl o _ u b v s
   exact⟨A,z,G,q,.of_steps (d _ (by simp[gotoIn,t])) f⟩
  | ret=>exact⟨_,g,i,h,d⟩
  | panic J=>exact⟨_,g,i,h,d⟩
  | outgrown=>exact⟨_,g,i,h,d⟩
theorem sG(x:Code)(l:Nat)(d:c=.scope x)(f:(findLabel x l).isSome=true)(h:At n ds w0 e H (x.wpR none P (Exit.jump l (mF P x l Q) Q))):At n ds w0 e H (c.wpR none P Q):=
 λa w b i g=>by
  rw[d]
  exact wpIn_wide.2 (nK f (wpIn_wide.1 (h a w b i g)))
theorem sH(l:Nat)(B:Code)(d:Env)(I:zV->Prop)(μ:zV->Nat)(v:c=.seq (.label l) B)(A:findLabel x l=some (.seq .skip B))(h:I H)(z:Sub d e)
  (round: ∀H',I H'->At n ds w0 d H' (B.wpR none P (Exit.jump l (λa w=>Agree n ds d a/\Same w0 w/\I w.heap/\μ w.heap<μ H') Q))):
  At n ds w0 e H (c.wpR none P (Exit.jump l (mF P x l Q) Q)):=λa w i C j=>by
 have key: ∀a w,(Agree n ds d a/\Same w0 w/\I w.heap)->B.wp P (Exit.jump l (λp k=>(Agree n ds d p/\Same w0 k/\I k.heap)/\μ k.heap<μ w.heap) Q) a w:=by
  rintro a w ⟨i,j,h⟩
  refine wp_mono (wpIn_wide.1 (round w.heap h a w i rfl j)) ?_
  intro g m o b
  cases g with
  | goto D=>
   obtain⟨rfl,r,s,t,u⟩:=b
   exact⟨rfl,⟨r,s,t⟩,u⟩
  | normal=>exact b
  | exit id=>exact b
  | ret=>exact b
  | panic q=>exact b
  | outgrown=>exact b
 have f:=qf (x:=x) A (λa w=>Agree n ds d a/\Same w0 w/\I w.heap) (λ_ w=>μ w.heap) key
 rw[v]
 refine wpIn_wide.2 (wp_seq (wp_label ?_))
 refine wp_mono (key a w ⟨i.sub z,j,C▸h⟩) ?_
 intro g m o b
 cases g with
 | goto D=>exact⟨b.1,f _ m o rfl b.2.1⟩
 | normal=>exact b
 | exit id=>exact b
 | ret=>exact b
 | panic q=>exact b
 | outgrown=>exact b
theorem up(l:Nat)(d:c=.goto l)(h:At n ds w0 e H (Q (.goto l))):At n ds w0 e H (c.wpR ro P Q):=
 λa w b g f=>by rw[d];exact wpIn_goto (h a w b g f)
theorem kV{l:Nat}(h:At n ds w0 e H (Q (.goto l))):At n ds w0 e H (Exit.then K Q (.goto l)):=h
theorem mi{id l:Nat}(h:At n ds w0 e H (Q (.goto l))):At n ds w0 e H (Exit.inBlock id Q (.goto l)):=h
theorem uq{l:Nat}{d:Env}{I:zV->Prop}{μ:zV->Nat}{b:zV}(i:Sub d e)(f:I H/\μ H<μ b):
  At n ds w0 e H (Exit.jump l (λa w=>Agree n ds d a/\Same w0 w/\I w.heap/\μ w.heap<μ b) Q (.goto l)):=
 λa w h g j=>⟨rfl,h.sub i,j,by rw[g];exact f.1,by rw[g];exact f.2⟩
end
