/-
 Maps whose keys are numbers or strings, said of heaps. Proves nothing of any one program.
-/
import Derived.Test.YtfhbhckhmnleoaaGreatOwn
import Derived.Laws.Externs
import Derived.Laws.IdiomStrings
import Derived.Shelf.Abstract
import Derived.RangeFuncNested
import Derived.Scope
set_option linter.unusedVariables false
set_option linter.unusedSimpArgs false
namespace Go.Proofs.YtfhbhckhmnleoaaGreat
open Go
variable{a d:Nat}{b:Array MapEntry}{g i j:TypeId}
structure oD (α:Type) [DecidableEq α]where
 cell:α->Value
 desc:TypeDesc
 same: ∀a b,Instr.sameNow desc (cell a) (cell b)=some (decide (a=b))
 bits: ∀a,Instr.sameBits 10000 (cell a) (cell a)=true
 plain: ∀(P:Program) (t:TypeId) (e:Bool) (w:World) (a:α),P.underlying t=some desc->(Instr.checkKey e 10000 t (cell a)).run P w=.ok () w
def cU(k:IntKind):oD Int where
 cell:=Value.int k
 desc:=.int k
 same a b:=by
  simp only[Instr.sameNow,if_true,Option.some.injEq]
  by_cases h:a=b<;>simp[h]
 bits a:=by simp[Instr.sameBits]
 plain P t e w a h:=by
  unfold Instr.checkKey
  rw[run_bind_ok (x:=TypeDesc.int k) (w':=w) (by simp[underlying,program,Sem.run,h,Sem.run_bind,pure,Result.andThen])]
  rfl
section
variable {α:Type} [DecidableEq α] (kk:oD α)
def Ents(es:List MapEntry)(ks:List (α×Value)):Prop:=es.map (λe=>(e.key,e.val))=ks.map (λp=>(kk.cell p.1,p.2))
def mget(ks:List (α×Value))(k:α):Option Value:=(ks.find? (λp=>decide (k=p.1))).map (·.2)
def mput:List (α×Value)->α->Value->List (α×Value)
 | [],k,v=> [(k,v)]
 | p::r,k,v=>if k=p.1 then(k,v)::r else p::mput r k v
theorem gQ{k:α}: ∀(d:List MapEntry) (f:List (α×Value)) (i:Nat),Ents kk d f-> ∃r:Option (Nat×Value),Instr.findNow kk.desc (kk.cell k) d i=some r/\r.map (·.2)=mget f k/\
  (∀j v,r=some (j,v)->i<=j/\ ∃e,d[j-i]?=some e/\e.key=kk.cell k/\ ∀a,Ents kk (d.modify (j-i) λe=>{e with key:=kk.cell k,val:=a}) (mput f k a))/\
  (r=none-> ∀a b,Ents kk (d++[{key:=kk.cell k,val:=a,born:=b}]) (mput f k a))
 | [],[],i,_=>⟨none,rfl,rfl,λ_ _ h=>(by cases h),λ_ a b=>rfl⟩
 | [],_::_,_,h=>by simp[Ents]at h
 | _::_,[],_,h=>by simp[Ents]at h
 | e::d,p::f,i,h=>by
  have B:=h
  simp only[Ents,List.map_cons,List.cons.injEq,Prod.mk.injEq]at h
  obtain⟨⟨hk,m⟩,n⟩:=h
  unfold Instr.findNow
  rw[hk,kk.same]
  by_cases c:k=p.1
  ·rw[zX c]
   refine⟨some (i,e.val),rfl,by simp[mget,c,m],λj v l=>?_,λh=>by cases h⟩
   cases l
   refine⟨Nat.le_refl _,e,by simp,by rw[hk,c],λa=>?_⟩
   rw[Nat.sub_self]
   simp only[mput,if_pos c]
   simp[Ents,n]
  ·rw[zQ c]
   obtain⟨r,u,x,y,z⟩:=gQ (k:=k) d f (i+1) n
   refine⟨r,u,by rw[x];simp[mget,c],λj v l=>?_,λhn a b=>?_⟩
   ·obtain⟨A,o,q,s,t⟩:=y j v l
    have g:j-i=(j-(i+1))+1:=by omega
    refine⟨by omega,o,by rw[g];simpa using q,s,λa=>?_⟩
    have:=t a
    rw[g]
    simp only[mput,if_neg c]
    simp only[Ents,List.modify_succ_cons,List.map_cons]at this⊢
    rw[this,hk,m]
   ·have:=z hn a b
    simp only[mput,if_neg c]
    simp only[Ents,List.cons_append,List.map_cons]at this⊢
    rw[this,hk,m]
def jw(t:TypeId)(x i:Value)(ok:Bool):Sem Next:=do pure (.value (<-Instr.lookup t x i ok))
def ku(t:TypeId)(m k v:Value):Sem Next:=do Instr.mapUpdate t m k v;pure .skip
variable {kk}
variable {P:Program} {w:World}
theorem gy(h:w.heap[a]?=some (.map b d)):(getObj a).run P w=.ok (.map b d) w:=by
 show Sem.run P (Sem.getObj a Sem.pure) w=_
 simp only[Sem.run,h]
theorem ia{o:Obj}(h:w.heap[a]?=some (.map b d)):(setObj a o).run P w=.ok () {w with heap:=w.heap.setIfInBounds a o}:=by
 show Sem.run P (Sem.setObj a o (Sem.pure ())) w=_
 simp only[Sem.run,h]
theorem fe{d:TypeDesc}(h:P.underlying g=some d):(underlying g).run P w=.ok d w:=by
 simp[underlying,program,Sem.run,h,Sem.run_bind,pure,Result.andThen]
theorem gK{k:α}{a:List MapEntry}{r:Option (Nat×Value)}(hk:P.underlying g=some kk.desc)(h:Instr.findNow kk.desc (kk.cell k) a 0=some r):(Instr.findKey g (kk.cell k) a).run P w=.ok r w:=by
 unfold Instr.findKey
 rw[run_bind_ok (fe hk)]
 rw[h];rfl
theorem ji{z:Value}{c:List (α×Value)}{k:α}(m:P.underlying g=some (.map i j))(hk:P.underlying i=some kk.desc)(n: ∀w,(zeroValue j).run P w=.ok z w)
  (hm:w.heap[a]?=some (.map b d)) (l:Ents kk b.toList c) (e:Bool):
  (jw g (.map (some a)) (kk.cell k) e).run P w=.ok (.value (if e then .tuple #[(mget c k).getD z,.bool (mget c k).isSome]else(mget c k).getD z)) w:=by
 obtain⟨q,h,f,-,-⟩:=gQ (k:=k) kk b.toList c 0 l
 unfold jw Instr.lookup
 simp only[bind_assoc]
 rw[run_bind_ok (fe m)]
 simp only[bind_assoc]
 rw[run_bind_ok (gy hm)]
 simp only[pure_bind,bind_assoc]
 rw[run_bind_ok (kk.plain P i b.isEmpty w k hk),run_bind_ok (gK hk h)]
 cases q with
 | none=>
  simp only[bind_assoc]
  rw[run_bind_ok (n w)]
  rw[<-f]
  cases e<;>rfl
 | some q=>
  obtain⟨o,v⟩:=q
  rw[<-f]
  cases e<;>rfl
theorem nH{h:List (α×Value)}{k:α}{v:Value}(o:P.underlying g=some (.map i j))(hk:P.underlying i=some kk.desc)
  (hm:w.heap[a]?=some (.map b d)) (u:Ents kk b.toList h):
  ∃(c:Array MapEntry) (f:Nat),(ku g (.map (some a)) (kk.cell k) v).run P w=.ok .skip {w with heap:=bH w.heap a (.map c f)}/\Ents kk c.toList (mput h k v):=by
 obtain⟨q,n,y,s,t⟩:=gQ (k:=k) kk b.toList h 0 u
 cases q with
 | none=>
  refine⟨b.push {key:=kk.cell k,val:=v,born:=d},d+1,?_,by rw[Array.toList_push];exact t rfl v d⟩
  unfold ku Instr.mapUpdate
  simp only[bind_assoc]
  rw[run_bind_ok (fe o)]
  simp only[bind_assoc]
  rw[run_bind_ok (gy hm)]
  simp only[bind_assoc]
  rw[run_bind_ok (kk.plain P i false w k hk),run_bind_ok (gK hk n)]
  simp only[]
  rw[run_bind_ok (ia hm)]
  rfl
 | some q=>
  obtain⟨z,x⟩:=q
  obtain⟨-,e,l,p,m⟩:=s z x rfl
  rw[Nat.sub_zero]at l m
  refine⟨b.modify z λe=>{e with key:=kk.cell k,val:=v},d,?_,by rw[Array.toList_modify];exact m v⟩
  have r:(b[z]?).map (·.key)=some (kk.cell k):=by rw[<-Array.getElem?_toList,l];simp[p]
  unfold ku Instr.mapUpdate
  simp only[bind_assoc]
  rw[run_bind_ok (fe o)]
  simp only[bind_assoc]
  rw[run_bind_ok (gy hm)]
  simp only[bind_assoc]
  rw[run_bind_ok (kk.plain P i false w k hk),run_bind_ok (gK hk n)]
  simp only[bind_assoc]
  rw[r]
  unfold Instr.keyThatStays
  simp only[Option.getD_some,kk.bits,if_true,pure_bind]
  rw[run_bind_ok (ia hm)]
  rfl
def Born(es:Array MapEntry)(cl:Nat):Prop:=(es.toList.map (·.born)).Nodup/\ ∀e∈es.toList,e.born<cl
def ij(es:Array MapEntry)(k:Value)(s:Int):Prop:= ∃(i:Nat) (e:MapEntry),es.toList[i]?=some e/\e.key=k/\(e.born:Int)=s/\ ∀j e',j<i->es.toList[j]?=some e'->e'.key≠k
theorem mS:Born #[] 0:=⟨List.nodup_nil,λ_ h=>by cases h⟩
def jx(t:TypeId)(m k:Value):Sem Next:=do pure (.value (<-Instr.mapEntry t m k))
def kv(t:TypeId)(m s v:Value):Sem Next:=do Instr.entryStore t m s v;pure .skip
theorem jb{k:α}: ∀(b:List MapEntry) (f:List (α×Value)) (i j:Nat) (v:Value),Ents kk b f->Instr.findNow kk.desc (kk.cell k) b i=some (some (j,v))-> ∀(q:Nat) c,i+q<j->b[q]?=some c->c.key≠kk.cell k
 | [],_,i,j,v,_,h=>by simp[Instr.findNow]at h
 | e::b,[],i,j,v,h,_=>by simp[Ents]at h
 | e::b,p::f,i,j,v,h,hf=>by
  simp only[Ents,List.map_cons,List.cons.injEq,Prod.mk.injEq]at h
  obtain⟨⟨hk,r⟩,n⟩:=h
  unfold Instr.findNow at hf
  rw[hk,kk.same]at hf
  intro q c o a
  by_cases d:k=p.1
  ·rw[zX d]at hf
   simp only[Option.some.injEq,Prod.mk.injEq]at hf
   omega
  ·rw[zQ d]at hf
   cases q with
   | zero=>
    simp only[List.getElem?_cons_zero,Option.some.injEq]at a
    subst a
    rw[hk]
    intro l
    have g:=kk.same k p.1
    have m:=kk.same k k
    rw[l,m]at g
    simp[d]at g
   | succ q=>
    rw[List.getElem?_cons_succ]at a
    exact jb b f (i+1) j v n hf q c (by omega) a
theorem oE{k:α}{v:Value}: ∀(b:List MapEntry) (f:List (α×Value)) (i:Nat) (e:MapEntry),Ents kk b f->b[i]?=some e->e.key=kk.cell k->(∀j d,j<i->b[j]?=some d->d.key≠kk.cell k)->Ents kk (b.modify i λe=>{e with val:=v}) (mput f k v)
 | [],_,i,e,_,h,_,_=>by simp at h
 | e0::b,[],i,e,h,_,_,_=>by simp[Ents]at h
 | e0::b,p::f,i,e,h,he,hk,hf=>by
  simp only[Ents,List.map_cons,List.cons.injEq,Prod.mk.injEq]at h
  obtain⟨⟨c,g⟩,m⟩:=h
  cases i with
  | zero=>
   simp only[List.getElem?_cons_zero,Option.some.injEq]at he
   subst he
   have a:k=p.1:=by
    by_cases a:k=p.1
    ·exact a
    have l:=kk.same k p.1
    have o:=kk.same k k
    rw[<-c,hk,o]at l
    simp[a]at l
   simp only[mput,if_pos a]
   simp[Ents,m,hk]
  | succ i=>
   rw[List.getElem?_cons_succ]at he
   have a: ¬k=p.1:=λa=>hf 0 e0 (by omega) rfl (by rw[c,a])
   simp only[mput,if_neg a]
   have:=oE (v:=v) b f i e m he hk (λj d q n=>hf (j+1) d (by omega) (by rw[List.getElem?_cons_succ];exact n))
   simp only[Ents,List.modify_succ_cons,List.map_cons]at this⊢
   rw[this,c,g]
theorem jy{k:α}: ∀(b:List MapEntry) (f:List (α×Value)) (i:Nat),Ents kk b f->Instr.findNow kk.desc (kk.cell k) b i=some none-> ∀(q:Nat) c,b[q]?=some c->c.key≠kk.cell k
 | [],_,i,_,_=>λq c h=>by simp at h
 | e::b,[],i,h,_=>by simp[Ents]at h
 | e::b,p::f,i,h,hf=>by
  simp only[Ents,List.map_cons,List.cons.injEq,Prod.mk.injEq]at h
  obtain⟨⟨hk,n⟩,m⟩:=h
  unfold Instr.findNow at hf
  rw[hk,kk.same]at hf
  intro q c a
  by_cases d:k=p.1
  ·rw[zX d]at hf
   simp at hf
  ·rw[zQ d]at hf
   cases q with
   | zero=>
    simp only[List.getElem?_cons_zero,Option.some.injEq]at a
    subst a
    rw[hk]
    intro j
    have g:=kk.same k p.1
    have l:=kk.same k k
    rw[j,l]at g
    simp[d]at g
   | succ q=>
    rw[List.getElem?_cons_succ]at a
    exact jy b f (i+1) m hf q c a
theorem lS{k:α}{v:Value}: ∀(b:List (α×Value)),mget b k=some v->mput b k v=b
 | [],h=>by simp[mget]at h
 | p::b,h=>by
  by_cases a:k=p.1
  ·simp only[mput,if_pos a]
   simp[mget,a]at h
   rw[<-h,a]
  ·simp only[mput,if_neg a]
   rw[lS b (by simpa[mget,a]using h)]
theorem kf{β:Type}: ∀(l:List β) (j:Nat) (f:β->β),(∀e,l[j]?=some e->f e=e)->l.modify j f=l
 | [],j,f,_=>by simp
 | a::l,0,f,h=>by simp[h a rfl]
 | a::l,j+1,f,h=>by rw[List.modify_succ_cons,kf l j f (λe b=>h e (by simpa using b))]
theorem kg{l:List MapEntry}{f:MapEntry->MapEntry}(b: ∀e,(f e).born=e.born):(l.modify a f).map (·.born)=l.map (·.born):=by
 induction l generalizing a with
 | nil=>simp
 | cons d l c=>cases a<;>simp[b,c]
theorem Born.modify{f:MapEntry->MapEntry}(h:Born b a)(c: ∀e,(f e).born=e.born):Born (b.modify d f) a:=by
 unfold Born at*
 rw[Array.toList_modify]
 refine⟨by rw[kg c];exact h.1,λe k=>?_⟩
 have:e.born∈(b.toList.modify d f).map (·.born):=List.mem_map_of_mem k
 rw[kg c,List.mem_map]at this
 obtain⟨g,i,j⟩:=this
 rw[<-j];exact h.2 g i
theorem kJ{z:Value}{H:zV}{l:List (α×Value)}{k:α}(F:P.underlying g=some (.map i j))(hk:P.underlying i=some kk.desc)(T: ∀w,(zeroValue j).run P w=.ok z w)
  (hm:H[a]?=some (.map b d)) (v:Ents kk b.toList l) (t:Born b d):
  SS P (jx g (.map (some a)) (kk.cell k)) H (λu G=> ∃f o sp m,G=bH H a (.map f o)/\Ents kk f.toList (mput l k m)/\Born f o/\ij f (kk.cell k) sp/\u=.tuple #[m,vi sp]):=by
 intro w S
 subst S
 obtain⟨q,s,M,N,O⟩:=gQ (k:=k) kk b.toList l 0 v
 cases q with
 | none=>
  refine⟨_,{w with heap:=bH w.heap a (.map (b.push {key:=kk.cell k,val:=z,born:=d}) (d+1))},?_,⟨rfl,rfl,rfl,Nat.le_refl _⟩,_,_,d,z,rfl,by rw[Array.toList_push];exact O rfl z d,⟨?_,?_⟩,⟨b.toList.length,_,by rw[Array.toList_push,List.getElem?_append_right (Nat.le_refl _),Nat.sub_self];rfl,rfl,rfl,?_⟩,rfl⟩
  ·unfold jx Instr.mapEntry
   simp only[bind_assoc]
   rw[run_bind_ok (fe F)]
   simp only[bind_assoc]
   rw[run_bind_ok (gy hm)]
   simp only[bind_assoc]
   rw[run_bind_ok (kk.plain P i false w k hk),run_bind_ok (gK hk s)]
   simp only[bind_assoc]
   rw[run_bind_ok (T w),run_bind_ok (ia hm)]
   rfl
  ·rw[Array.toList_push,List.map_append]
   refine List.nodup_append.2 ⟨t.1,by simp,λU Q V A=>?_⟩
   obtain⟨e,I,n⟩:=List.mem_map.1 Q
   have:=t.2 e I
   simp at A
   omega
  ·intro e c
   rw[Array.toList_push]at c
   rcases List.mem_append.1 c with h | h
   ·have:=t.2 e h;omega
   ·simp at h;rw[h];show d<d+1;omega
  ·intro W p R c
   rw[Array.toList_push,List.getElem?_append_left R]at c
   exact jy b.toList l 0 v s W p c
 | some q=>
  obtain⟨W,m⟩:=q
  obtain⟨-,e,n,D,J⟩:=N W m rfl
  rw[Nat.sub_zero]at n J
  have L:(b[W]?).map (·.key)=some (kk.cell k):=by rw[<-Array.getElem?_toList,n];simp[D]
  have r:(b[W]?).map (·.born)=some e.born:=by rw[<-Array.getElem?_toList,n];rfl
  refine⟨_,{w with heap:=bH w.heap a (.map (b.modify W λe=>{e with key:=kk.cell k}) d)},?_,⟨rfl,rfl,rfl,Nat.le_refl _⟩,_,_,e.born,m,rfl,?_,t.modify (λ_=>rfl),⟨W,{e with key:=kk.cell k},by rw[Array.toList_modify,List.getElem?_modify,n];simp,rfl,rfl,?_⟩,rfl⟩
  ·unfold jx Instr.mapEntry
   simp only[bind_assoc]
   rw[run_bind_ok (fe F)]
   simp only[bind_assoc]
   rw[run_bind_ok (gy hm)]
   simp only[bind_assoc]
   rw[run_bind_ok (kk.plain P i false w k hk),run_bind_ok (gK hk s)]
   simp only[bind_assoc]
   rw[L]
   unfold Instr.keyThatStays
   simp only[Option.getD_some,kk.bits,if_true,pure_bind]
   rw[run_bind_ok (ia hm)]
   have K:(b[W]?).map (λx=>(x.born:Nat))=some e.born:=r
   cases C:b[W]? with
   | none=>rw[C]at r;cases r
   | some y=>
    rw[C]at r
    have:y.born=e.born:=by simpa using r
    rw[<-this];rfl
  ·have y:mget l k=some m:=M.symm
   rw[Array.toList_modify,lS l y,kf b.toList W _ (λp E=>by rw[n]at E;cases E;rw[<-D])]
   exact v
  ·intro q p C c
   rw[Array.toList_modify,List.getElem?_modify]at c
   have:b.toList[q]?=some p:=by
    have B: ¬W=q:=λe=>by omega
    simpa[B]using c
   exact jb b.toList l 0 W m v s q p (by omega) this
theorem kK{H:zV}{n:List (α×Value)}{k:α}{s:Int}{v:Value}(hm:H[a]?=some (.map b d))(A:Ents kk b.toList n)(q:Born b d)(C:ij b (kk.cell k) s):
  ∀w,w.heap=H-> ∃o,(kv g (.map (some a)) (vi s) v).run P w=.ok .skip o/\Same w o/\(λr=> ∃c,r=bH H a (.map c d)/\Ents kk c.toList (mput n k v)/\Born c d) o.heap:=by
 intro w D
 subst D
 obtain⟨i,e,h,t,u,x⟩:=C
 refine⟨{w with heap:=bH w.heap a (.map (b.modify i λe=>{e with val:=v}) d)},?_,⟨rfl,rfl,rfl,Nat.le_refl _⟩,_,rfl,by rw[Array.toList_modify];exact oE b.toList n i e A h t x,q.modify (λ_=>rfl)⟩
 have l:i<b.toList.length:=(List.getElem?_eq_some_iff.1 h).1
 have B:b.findIdx? (λe=>(e.born:Int)==s)=some i:=by
  rw[Array.findIdx?_eq_some_iff_getElem]
  refine⟨by simpa using l,?_,λj F=>?_⟩
  ·have:b[i]'(by simpa using l)=e:=by
    have:=h;rw[Array.getElem?_toList,Array.getElem?_eq_getElem (by simpa using l)]at this;simpa using this
   simp[this,u]
  ·have f:j<b.size:=by simp at l;omega
   have p:(b.toList.map (·.born))[j]?≠(b.toList.map (·.born))[i]?:=by
    intro m
    have:=(List.getElem?_inj (by simpa using f) q.1).1 m
    omega
   have y:(b.toList.map (·.born))[i]?=some e.born:=by rw[List.getElem?_map,h];rfl
   have z:(b.toList.map (·.born))[j]?=some b[j].born:=by rw[List.getElem?_map,Array.getElem?_toList,Array.getElem?_eq_getElem f];rfl
   rw[y,z]at p
   have E:b[j].born≠e.born:=λm=>p (by rw[m])
   have: ¬((b[j].born:Int)=s):=by omega
   simpa using this
 unfold kv Instr.entryStore
 simp only[bind_assoc,pure_bind]
 rw[run_bind_ok (gy hm)]
 simp only[bind_assoc,asInt,asIntOf,pure_bind]
 rw[B]
 simp only[]
 rw[run_bind_ok (ia hm)]
 rfl
end
variable{a o:zj}{b:Bool}{d:Facts}{g:Value}{j:FuncId}{k:Addr}
variable {ds:List Deferred} {ro:Option Nat}
def lT(fv:Value)(args:Array Value):Sem Next:=do
 let d<-Deferred.ofValue fv args
 invoke d.target d.args
def Back(R:zj)(w:World):Ending->World->Prop:=λe w'=> ∃v,e=.returned v/\Same w w'/\R v w'.heap
def FE(P:Program)(fv:Value)(args:Array Value)(H:zV)(R:zj):Prop:=
 ∃(f:FuncId) (first caps:Array Value),fv=.func (.func f) first caps/\Enters P f/\HC P f (first++args++caps) H R
def YC(P:Program)(fv:Value)(args:Array Value)(H:zV)(R:zj):Prop:=
 ∃l,fv=.func (.yield l) #[] #[]/\ ∀w,w.heap=H-> ∃fn tmps assign body,(Instr.yield l args).run P w=.ok (.round l fn tmps assign body) w/\RoundIn Fence.wide 0 P l fn tmps assign body w (Back R w)
def FC(P:Program)(fv:Value)(args:Array Value)(H:zV)(R:zj):Prop:=FE P fv args H R\/YC P fv args H R
theorem FE.mono{P:Program}{args:Array Value}{H:zV}(h:FE P g args H a)(l: ∀v H',a v H'->o v H'):FE P g args H o:=by
 obtain⟨f,first,b,k,j,d⟩:=h
 exact⟨f,first,b,k,j,d.mono l⟩
theorem YC.mono{P:Program}{args:Array Value}{H:zV}(h:YC P g args H a)(s: ∀v H',a v H'->o v H'):YC P g args H o:=by
 obtain⟨l,r,q⟩:=h
 refine⟨l,r,λw t=>?_⟩
 obtain⟨fn,tmps,b,d,f,j⟩:=q w t
 exact⟨fn,tmps,b,d,f,j.mono λe u ⟨v,k,m,p⟩=>⟨v,k,m,s _ _ p⟩⟩
theorem FC.mono{P:Program}{args:Array Value}{H:zV}(h:FC P g args H a)(b: ∀v H',a v H'->o v H'):FC P g args H o:=
 h.elim (λh=> .inl (h.mono b)) (λh=> .inr (h.mono b))
theorem FE.of{P:Program}{first b args:Array Value}{H:zV}(d:Enters P j)(h:HC P j (first++args++b) H a):FE P (.func (.func j) first b) args H a:=⟨j,first,b,rfl,d,h⟩
theorem FE.of2{P:Program}{first b args d:Array Value}{H:zV}(g:Enters P j)(f:first++args++b=d)(h:HC P j d H a):FE P (.func (.func j) first b) args H a:=.of g (f▸h)
theorem FC.of{P:Program}{first b args:Array Value}{H:zV}(d:Enters P j)(h:HC P j (first++args++b) H a):FC P (.func (.func j) first b) args H a:=.inl (.of d h)
theorem pI{P:Program}{first a args:Array Value}{w:World}(b:Enters P j):(lT (.func (.func j) first a) args).run P w=.ok (.enter j (first++args++a)) w:=by
 have h:=b (first++args++a) w
 simpa[lT,Deferred.ofValue,invoke]using h
theorem mT{P:Program}{l:Nat}{args:Array Value}{w:World}:(lT (.func (.yield l) #[] #[]) args).run P w=(Instr.yield l args).run P w:=by
 simp[lT,Deferred.ofValue,invoke]
section
variable {P:Program} {n:Nat} {w0:World} {e e':Env} {H H':zV} {Q:Exit->Act->World->Prop} {K:Act->World->Prop} {c x y:Code}
theorem ko{o:Oper}{E:Act}{w:World}{args:Array Value}{d:Option Tmp}{K:Act->World->Prop}(q:o.dst=d)(r:(o.semAt (fen ro).round E.eval).run P w=(lT g args).run P w)
  (p:FC P g args w.heap a) (h: ∀v k,Same w k->a v k.heap->K (E.put d v) k):o.wpIn (fen ro) 0 P E w K Q:=by
 refine⟨λ_ _=>trivial,?_⟩
 rw[r]
 subst q
 rcases p with⟨f,first,z,rfl,D,p⟩ | ⟨l,rfl,p⟩
 ·rw[pI D]
  simp only[Oper.uponIn]
  refine⟨λt=>(by cases t),CallsIn.mono (show CallsIn (fen ro) _ P f _ w _ from callsIn_wide.2 (p w rfl)) λA k ⟨v,j,u,s⟩=>?_⟩
  subst j
  exact h v k u s
 ·obtain⟨fn,tmps,b,m,B,C⟩:=p w rfl
  rw[mT,B]
  simp only[Oper.uponIn]
  refine⟨λt=>(by cases t),RoundIn.mono (show RoundIn (fen ro) _ P l fn tmps b m w _ from C) λA k ⟨v,j,u,s⟩=>?_⟩
  subst j
  exact h v k u s
theorem qx{ops:Array Oper}{i:Nat}(d:Option Tmp)(p:Value)(args:Array Value)(z: ∀w,bX P ops i e w=some (d,(lT p args).run P w))(r:FC P p args H a)
  (h: ∀v H',a v H'-> ∃e',dF n e d v e'/\RegN ro P n ds w0 ops (i+1) e' H' Q):RegN ro P n ds w0 ops i e H Q:=λB w k u t=>by
 obtain⟨o,s,f,m,g,j⟩:=ff (z w)
 rw[s]
 unfold wpListIn
 rw[k.wanted f]
 simp only[if_true]
 refine ko (ro:=ro) g (by rw[k.sem m,j]) (by rw[u];exact r) λv A b q=>?_
 obtain⟨e',l,hk⟩:=h v _ q
 exact hk _ _ (k.putSub l) rfl (t.trans b)
def lU(fn:FuncId)(tm:Array Value)(ps:Array Tmp)(assign body:Code)(D:Nat):LoopState->Option Code->Obj:=λst pe=> .loop {state:=st,pending:=pe,fn,tmps:=tm,params:=ps,assign,body,defers:=D}
def oF(rc:LoopState->Option Code->Obj):Prop:= ∃fn tm ps assign body D,rc=lU fn tm ps assign body D
def iD(e:Env):List Tmp->List Value->Env
 | t::ts,v::vs=>iD ((t,v)::e) ts vs
 | _,_=>e
theorem jc: ∀(a:List Tmp) (vs:List Value) (e:Env) (b:Array Value),Agree n ds e {tmps:=b,defers:=ds}->a.all (λt=>Nat.blt t n)=true->
  Agree n ds (iD e a vs) {tmps:=(a.zip vs).foldl (λtmps p=>tmps.setIfInBounds p.1 p.2) b,defers:=ds}
 | [],_,e,b,h,_=>by simpa[iD]using h
 | t::a,[],e,b,h,_=>by simpa[iD]using h
 | t::a,v::vs,e,b,h,hn=>by
  simp only[List.all_cons,Bool.and_eq_true]at hn
  simp only[iD,List.zip_cons_cons,List.foldl_cons]
  refine jc a vs _ _ ?_ hn.2
  have f:=h.put (d:=some t) (v:=v) (e':=(t,v)::e) (by simp[putS,hn.1])
  exact f
theorem lF(w:World)(l:Nat)(o:Obj):(w.putObj l o).heap=bH w.heap l o:=rfl
theorem qy{g:LoopState->Option Code->Obj}{l:Nat}(f:oF g)(q:H[l]?=some (g .ready none))
  (h: ∀j,j=bH H l (g .busy none)->At n [] w0 e j (x.wpR (some l) P (roundPost P l (Back a w0)))):
  At n [] w0 e H (λs w=> ∃o,(Instr.beginRound l).run P w=.ok () o/\x.wpR (some l) P (roundPost P l (Back a w0)) s o):=λs w p m d=>by
 obtain⟨fn,r,ps,b,k,D,rfl⟩:=f
 refine⟨_,run_beginRound (by rw[m];exact q) rfl,h _ rfl _ _ p (by rw[lF,m];rfl) ⟨d.os,d.tape,d.output,d.drawn⟩⟩
theorem oW{j:LoopState->Option Code->Obj}{l:Nat}{w:World}(b:Option Code)(g:oF j)(o:w.heap[l]?=some (j .busy none))(f:Same w0 w)
  (h:a (.bool b.isNone) (bH w.heap l (j (if b.isNone then .ready else .done) b))): ∃v m,(Instr.endRound l b).run P w=.ok v m/\Back a w0 (.returned v) m:=by
 obtain⟨fn,p,ps,d,k,D,rfl⟩:=g
 exact⟨_,_,run_endRound b o,_,rfl,⟨f.os,f.tape,f.output,f.drawn⟩,h⟩
theorem oX{d:LoopState->Option Code->Obj}{l:Nat}(b:oF d)(g:H[l]?=some (d .busy none))(h:a vT (bH H l (d .ready none))):At n ds w0 e H (roundPost P l (Back a w0) .normal):=λm w k f j=>
 oW none b (by rw[f];exact g) j (by rw[f];exact h)
theorem nI{v:Act}{ps:Array Tmp}{b d:Code}{D l:Nat}{args:Array Value}(m:Agree n ds e v)(f:ps.toList.all (λt=>Nat.blt t n)=true)(g:args.size=ps.size)(u:H[l]?=some (lU j v.tmps ps b d D .ready none))
  (h: ∀q,At n [] q (iD e ps.toList args.toList) H (b.wpR (some l) P (Exit.then (λv w=> ∃r,(Instr.beginRound l).run P w=.ok () r/\d.wpR (some l) P (roundPost P l (Back a q)) v r) (λ_ _ _=>False)))):
  FC P (.func (.yield l) #[] #[]) args H a:=by
 refine .inr ⟨l,rfl,λw o=>⟨_,_,_,_,run_yield (by rw[o];exact u) g,?_⟩⟩
 refine roundIn_of_wpIn (F:=Fence.wide) trivial ?_
 refine h w _ w ?_ o (Same.refl w)
 have k:=jc (n:=n) (ds:=[]) ps.toList args.toList e v.tmps ⟨m.size,rfl,m.vals⟩ f
 have s:(ps.zip args).foldl (λtmps (x:Tmp×Value)=>tmps.setIfInBounds x.1 x.2) v.tmps=(ps.toList.zip args.toList).foldl (λtmps p=>tmps.setIfInBounds p.1 p.2) v.tmps:=by
  rw[<-Array.foldl_toList,Array.toList_zip]
 rw[<-s]at k
 exact k
theorem qA{g:Operand}{ps:Array Tmp}{assign body:Code}(L:Value)(R:c=.rangeFunc g ps assign body)(U:fS e g=some L)(G:ps.toList.all (λt=>Nat.blt t n)=true)
  (h: ∀(r:LoopState->Option Code->Obj) (l:Nat) (J:zV),oF r->l=H.size+1->J=(H.push (.deferred (some []))).push (r .ready none)->
   (∀(args:Array Value) (H':zV) (B:zj),args.size=ps.size->H'[l]?=some (r .ready none)->
    (∀M,At n [] M (iD e ps.toList args.toList) H' (assign.wpR (some l) P (Exit.then (λa w=> ∃N,(Instr.beginRound l).run P w=.ok () N/\body.wpR (some l) P (roundPost P l (Back B M)) a N) (λ_ _ _=>False))))->
    FC P (.func (.yield l) #[] #[]) args H' B)->
   FE P L #[.func (.yield l) #[] #[]] J (λ_ z=>
    (z[l]?=some (r .ready none)/\ ∀s,s=bH z l (r .exhausted none)->At n ({target:=.collected H.size,args:= #[]}::ds) w0 e s (Q .normal))\/
    (∃j,z[l]?=some (r .done (some j))/\ ∀s,s=bH z l (r .exhausted (some j))->At n ({target:=.collected H.size,args:= #[]}::ds) w0 e s (j.wpR none P Q)))):
  At n ds w0 e H (c.wpR none P Q):=λa w m A X=>by
 rw[R]
 refine wpIn_rangeFunc λfn T=>?_
 obtain⟨f,first,d,rfl,S,p⟩:=h (lU fn a.tmps ps assign body w.heap.size) (w.heap.size+1) ((w.heap.push (.deferred (some []))).push (lU fn a.tmps ps assign body w.heap.size .ready none)) ⟨_,_,_,_,_,_,rfl⟩ (by rw[A]) (by rw[A])
  (λargs H' B I u W=>nI m G I u W)
 have F:=m.eval U
 obtain⟨k,o⟩: ∃k,(w.alloc (.deferred (some []))).alloc (lU fn a.tmps ps assign body w.heap.size .ready none)=k:=⟨_,rfl⟩
 have C:k.heap=(w.heap.push (.deferred (some []))).push (lU fn a.tmps ps assign body w.heap.size .ready none):=by rw[<-o];rfl
 have D:Same w k:=by rw[<-o];exact⟨rfl,rfl,rfl,Nat.le_refl _⟩
 refine⟨w.heap.size+1,[{target:=.collected w.heap.size,args:= #[]}],k,{target:=.fn (.func f) d,args:=first++ #[.func (.yield (w.heap.size+1)) #[] #[]]},k,f,first++ #[.func (.yield (w.heap.size+1)) #[] #[]]++d,k,by rw[<-o];exact run_enterLoop_outer _ _ _ _ _,?_,?_,?_,λV=>(by cases V),?_⟩
 ·have hm:(rangeCall g (w.heap.size+1)).args.map a.eval= #[.func (.yield (w.heap.size+1)) #[] #[]]:=by simp[rangeCall,Act.eval]
  show(Deferred.ofValue (a.eval g) ((rangeCall g (w.heap.size+1)).args.map a.eval)).run P k=_
  rw[hm,F];rfl
 ·intro _ _;trivial
 ·have:=S (first++ #[.func (.yield (w.heap.size+1)) #[] #[]]++d)
  simpa[invoke]using this _
 ·refine CallsIn.mono (callsIn_wide.2 (p k C)) λZ Y ⟨v,E,q,O⟩=>?_
  subst E
  have b:Same w0 Y:=(X.trans D).trans q
  rcases O with⟨u,hk⟩ | ⟨j,u,hk⟩
  ·refine⟨none,_,run_endLoop u (by simp),?_⟩
   refine hk _ rfl _ _ ⟨m.size,?_,m.vals⟩ rfl ⟨b.os,b.tape,b.output,b.drawn⟩
   simp[m.defers,A]
  ·refine⟨some j,_,run_endLoop u (by simp),?_⟩
   refine hk _ rfl _ _ ⟨m.size,?_,m.vals⟩ rfl ⟨b.os,b.tape,b.output,b.drawn⟩
   simp[m.defers,A]
end
abbrev pa(b:Nat):zW:=some (Addr.mk b 0 none)
theorem BL:(∀b:Bool,(true || b)=true)/\(∀b:Bool,(false || b)=b)/\(∀b:Bool,(b || true)=true)/\(∀b:Bool,(b || false)=b)/\(∀b:Bool,(true && b)=b)/\(∀b:Bool,(false && b)=false)/\(∀b:Bool,(b && true)=b)/\(∀b:Bool,(b && false)=false)/\((!true)=false)/\((!false)=true)/\(∀x y:Bool,cond true x y=x)/\(∀x y:Bool,cond false x y=y):=
 ⟨by simp,by simp,by simp,by simp,by simp,by simp,by simp,by simp,rfl,rfl,by simp,by simp⟩
abbrev ca(c:Code):Code:=Code.fa c
abbrev cb(c:Code):Code:=Code.fb c
def bv(n m:Nat):Array Bool:=((List.range n).map λi=>m.testBit i).toArray
abbrev ad(b:Nat):Addr:=Addr.mk b 0 none
abbrev ar{α:Type}(l:List α):Array α:=l.toArray
abbrev DR(a b:Int)(c:Bool)(d:zW)(e f:Nat)(g:ByteArray)(i:zW)(j k:Nat):List Value:=[vi a,.int .i32 b,.bool c,vs d e f,.string g,vs i j k]
def mN(k:Nat)(l:List Nat):Bool:=l.foldr (λx r=>cond (Nat.beq x k) true r) false
def ed(d:List Nat)(a:Env)(e:Env):Env:=e.foldr (λp r=>cond (mN p.1 d) r (p::r)) a
theorem T_en{P:Program}{fn:Func}(c:Code)(n:Nat){args:Array Value}{H:zV}(f:P.funcs[j]?=some fn)
  (h: ∀(w0:World) (Q:Exit->Act->World->Prop),(∀a w,i0 P fn w0 o a w->Q .ret a w/\Q .normal a w)->At n [] w0 (env0 0 args.toList) H (c.wpR none P Q)) (d:fn.body=some c:=by kernel_rfl) (hn:fn.ntmps=n:=by kernel_rfl) (b:Nat.ble args.size n=true:=by kernel_rfl):HC P j args H o:=
 qs n f d hn (Nat.le_of_ble_eq_true b) h
section
variable {P:Program} {n:Nat} {ds:List Deferred} {ro:Option Nat} {w0:World} {e:Env} {H:zV} {Q Q':Exit->Act->World->Prop} {K:Act->World->Prop} {c:Code} {ops:Array Oper} {i:Nat}
theorem sk{e' e:Env}(h:e'.map (λp=>e.get p.1)=e'.map (λp=>some p.2):=by kernel_rfl):Sub e' e:=h
theorem pk{n:Nat}{e:Env}{d:Option Nat}{e':Env}(h:(putS n e d g).map (λa=>e'.map (λp=>a.get p.1))=some (e'.map (λp=>some p.2)):=by kernel_rfl):dF n e d g e':=h
theorem T_sr(id:Nat)(x y:Code)(h:RegN ro P n ds w0 (Code.ops x) 0 e H (Exit.then (y.wpR ro P Q) Q))(a:c=.seq x y:=by kernel_rfl)(b:x=.region id (Code.ops x) false:=by kernel_rfl):At n ds w0 e H (c.wpR ro P Q):=
 px x y a (kC id (Code.ops x) b h)
theorem T_e(h:At n ds w0 e H K)(a:ops.toList.drop i=[]:=by kernel_rfl):RegN ro P n ds w0 ops i e H (Exit.then K Q):=ot a (aE h)
theorem T_n(k:Nat)(e':Env)(h:RegN ro P n ds w0 ops (i+k) e' H Q)(a: ∀w,sel e' (runS P n ops ((ops.toList.drop i).take k) e w)=keep e' w:=by intro _;kernel_rfl):RegN ro P n ds w0 ops i e H Q:=ov k e' a h
theorem T_ne(k:Nat)(e':Env)(h:At n ds w0 e' H K)(b: ∀w,sel e' (runS P n ops ((ops.toList.drop i).take k) e w)=keep e' w:=by intro _;kernel_rfl)(a:ops.toList.drop (i+k)=[]:=by kernel_rfl):RegN ro P n ds w0 ops i e H (Exit.then K Q):=
 ov k e' b (ot a (aE h))
theorem T_s(x y:Code)(h:At n ds w0 e H (x.wpR ro P (Exit.then (y.wpR ro P Q) Q)))(a:c=.seq x y:=by kernel_rfl):At n ds w0 e H (c.wpR ro P Q):=px x y a h
theorem T_t(o:Tmp)(x y:Code)(h:At n ds w0 e H (x.wpR ro P Q))(a:c=.cond (.tmp o) x y:=by kernel_rfl)(b:fS e (.tmp o)=some (vT):=by kernel_rfl):At n ds w0 e H (c.wpR ro P Q):=iT (.tmp o) x y a b h
theorem T_f(o:Tmp)(x y:Code)(h:At n ds w0 e H (y.wpR ro P Q))(a:c=.cond (.tmp o) x y:=by kernel_rfl)(b:fS e (.tmp o)=some (vF):=by kernel_rfl):At n ds w0 e H (c.wpR ro P Q):=iU (.tmp o) x y a b h
theorem T_cT(o:Tmp)(x y:Code)(a:b=true)(h:At n ds w0 e H (x.wpR ro P Q))(d:c=.cond (.tmp o) x y:=by kernel_rfl)(f:fS e (.tmp o)=some (.bool b):=by kernel_rfl):At n ds w0 e H (c.wpR ro P Q):=iT (.tmp o) x y d (by rw[f,a]) h
theorem T_cF(o:Tmp)(x y:Code)(a:b=false)(h:At n ds w0 e H (y.wpR ro P Q))(d:c=.cond (.tmp o) x y:=by kernel_rfl)(f:fS e (.tmp o)=some (.bool b):=by kernel_rfl):At n ds w0 e H (c.wpR ro P Q):=iU (.tmp o) x y d (by rw[f,a]) h
theorem T_nT(o:Tmp)(x y:Code)(a:b=false)(h:At n ds w0 e H (x.wpR ro P Q))(d:c=.cond (.tmp o) x y:=by kernel_rfl)(f:fS e (.tmp o)=some (.bool (!b)):=by kernel_rfl):At n ds w0 e H (c.wpR ro P Q):=iT (.tmp o) x y d (by rw[f,a];rfl) h
theorem T_nF(o:Tmp)(x y:Code)(a:b=true)(h:At n ds w0 e H (y.wpR ro P Q))(d:c=.cond (.tmp o) x y:=by kernel_rfl)(f:fS e (.tmp o)=some (.bool (!b)):=by kernel_rfl):At n ds w0 e H (c.wpR ro P Q):=iU (.tmp o) x y d (by rw[f,a];rfl) h
theorem T_k(h:At n ds w0 e H (Q .normal))(a:c=.skip:=by kernel_rfl):At n ds w0 e H (c.wpR ro P Q):=pz a h
theorem T_kt(h:At n ds w0 e H K)(a:c=.skip:=by kernel_rfl):At n ds w0 e H (c.wpR ro P (Exit.then K Q)):=pz a (aE h)
theorem T_b(id:Nat)(x:Code)(h:At n ds w0 e H (x.wpR ro P (Exit.inBlock id Q)))(a:c=.block id x:=by kernel_rfl):At n ds w0 e H (c.wpR ro P Q):=om id x a h
theorem T_r(id:Nat)(x:Code)(h:RegN ro P n ds w0 (Code.ops x) 0 e H Q)(a:c=.region id (Code.ops x) false:=by kernel_rfl):At n ds w0 e H (c.wpR ro P Q):=kC id (Code.ops x) a h
theorem T_rq(id:Nat)(x:Code)(h:RegQ P n ds w0 (Code.ops x) 0 e H Q)(b:c=.region id (Code.ops x) true:=by kernel_rfl)(hm:P.follows .mixedOrders=true:=by kernel_rfl)(a:Region.lexB .any (Code.ops x)=true:=by kernel_rfl):At n ds w0 e H (c.wpR none P Q):=lM id (Code.ops x) b hm a h
theorem T_su(e':Env)(h:At n ds w0 e' H K)(a:e'.map (λp=>e.get p.1)=e'.map (λp=>some p.2):=by kernel_rfl):At n ds w0 e H K:=pw e' a h
theorem T_nu(e':Env)(h:RegN ro P n ds w0 ops i e' H Q)(a:e'.map (λp=>e.get p.1)=e'.map (λp=>some p.2):=by kernel_rfl):RegN ro P n ds w0 ops i e H Q:=pA e' a h
theorem fB{fn:Func}(d:List Nat)(vs:List Value)(g: ∀a w,i0 P fn w0 o a w->Q .ret a w/\Q .normal a w)(h:o (tup vs) H)(j:c=.ret:=by kernel_rfl)(k:Q' .ret=Q .ret:=by exact rfl)
  (f:fn.results.toList=d.map .tmp:=by kernel_rfl) (b:d.map e.get=vs.map some:=by kernel_rfl):At n [] w0 e H (c.wpR ro P Q'):=by
 refine oq j ?_
 rw[k]
 refine nF vs g ?_ h
 rw[f];clear f h
 induction d generalizing vs with
 | nil=>cases vs with | nil=>exact .nil | cons v l=>cases b
 | cons t d m=>
  cases vs with
  | nil=>cases b
  | cons v l=>
   rw[List.map_cons,List.map_cons,List.cons.injEq]at b
   exact .tmp b.1 (m l b.2)
theorem T_q(d:Option Tmp)(v:Value)(e':Env)(h:RegQ P n ds w0 ops (i+1) e' H Q)(b:(ops.toList.drop i).head?.map (·.dst)=some d:=by kernel_rfl)
  (g: ∀w,((ops.toList.drop i).head?.bind λo=>kF P ops o e w)=some (v,w):=by intro _;kernel_rfl) (f:(putS n e d v).map (λa=>e'.map (λp=>a.get p.1))=some (e'.map (λp=>some p.2)):=by kernel_rfl):RegQ P n ds w0 ops i e H Q:=qW v e' d b g f h
theorem T_qe(h:At n ds w0 e H K)(a:ops.toList.drop i=[]:=by kernel_rfl):RegQ P n ds w0 ops i e H (Exit.then K Q):=rJ a (aE h)
theorem T_v(d:Option Tmp)(S:Sem Next)(v:Value)(b: ∀w,w.heap=H->S.run P w=.ok (.value v) w)(e':Env)(h:RegN ro P n ds w0 ops (i+1) e' H Q)(g: ∀w,bX P ops i e w=some (d,S.run P w):=by intro _;kernel_rfl)
  (f:(putS n e d v).map (λa=>e'.map (λp=>a.get p.1))=some (e'.map (λp=>some p.2)):=by kernel_rfl):RegN ro P n ds w0 ops i e H Q:=lO d S v g b e' f h
theorem T_l(d:Option Tmp)(t:TypeId)(q:hat H k=some g)(e':Env)(h:RegN ro P n ds w0 ops (i+1) e' H Q)(j: ∀w,bX P ops i e w=some (d,(aQ t (vq k)).run P w):=by intro _;kernel_rfl)
  (f: ∀w,(isAgg t).run P w=.ok false w:=by intro _;kernel_rfl) (b:(putS n e d g).map (λa=>e'.map (λp=>a.get p.1))=some (e'.map (λp=>some p.2)):=by kernel_rfl):RegN ro P n ds w0 ops i e H Q:=
 lO d (aQ t (vq k)) g j (fZ (gW f q)) e' b h
theorem T_ql(d:Option Tmp)(t:TypeId){a:Addr}(q:hat H a=some g)(e':Env)(h:RegQ P n ds w0 ops (i+1) e' H Q)(k: ∀w,bX P ops i e w=some (d,(aQ t (vq a)).run P w):=by intro _;kernel_rfl)
  (j: ∀w,(isAgg t).run P w=.ok false w:=by intro _;kernel_rfl) (f:(putS n e d g).map (λb=>e'.map (λp=>b.get p.1))=some (e'.map (λp=>some p.2)):=by kernel_rfl):RegQ P n ds w0 ops i e H Q:=
 Q_op d (aQ t (vq a)) g k (fZ (gW j q)) e' f h
theorem T_ix(d:Option Tmp)(t b l:Nat)(a:Addr)(f g:Nat)(k:IntKind)(j:Int)(s:P.underlying t=some (.slice b))(o:0<=j)(q:j<f)(e':Env)(h:RegN ro P n ds w0 ops (i+1) e' H Q)
  (v: ∀w,(sizeOf b).run P w=.ok l w:=by intro _;kernel_rfl) (u: ∀w,bX P ops i e w=some (d,(bE t (vs (some a) f g) (.int k j)).run P w):=by intro _;kernel_rfl)
  (r:(putS n e d (vq (a.add (Int.toNat j*l)))).map (λm=>e'.map (λp=>m.get p.1))=some (e'.map (λp=>some p.2)):=by kernel_rfl):RegN ro P n ds w0 ops i e H Q:=
 lO d (bE t (vs (some a) f g) (.int k j)) (vq (a.add (Int.toNat j*l))) u (λw _=>fg s v o q w) e' r h
theorem T_g{a:Nat}{L:Array Bool}(i:Nat)(u:Option Tmp)(v:Value)(j:Array Bool)(e':Env)(S:Sem Next)(o: ∀L w,Closed .any ops L->L.getD i true=false->dx d L w->S.run P w=.ok (.value v) w)
  (h:RegG ro P n ds w0 ops d a j e' H Q) (t: ∀w,bX P ops i e w=some (u,S.run P w):=by intro _;kernel_rfl)
  (s:(Region.ready .any ops L).contains i=true:=by kernel_rfl) (g:Region.noSelect ops=true:=by kernel_rfl) (b:gf ops=true:=by kernel_rfl) (r:Region.free .any ops L i=true:=by kernel_rfl) (k:d.all (λf=>f.1 !=i)=true:=by kernel_rfl) (m:L.setIfInBounds i true=j:=by kernel_rfl)
  (q:(putS n e u v).map (λl=>e'.map (λp=>l.get p.1))=some (e'.map (λp=>some p.2)):=by kernel_rfl):RegG ro P n ds w0 ops d (a+1) L e H Q:=jP i u v j e' S t o s g b r k m q h
theorem T_c{args:Array Value}(d:Option Tmp)(b:HC P j args H a)(h: ∀v H',a v H'-> ∃e',dF n e d v e'/\RegN ro P n ds w0 ops (i+1) e' H' Q)(f: ∀w,bX P ops i e w=some (d,.ok (.enter j args) w):=by intro _;kernel_rfl):RegN ro P n ds w0 ops i e H Q:=ri d j args f b h
theorem T_nw(d:Option Tmp)(f:Nat->Value)(o:Obj)(h: ∀b H',b=H.size->H'=H.push o-> ∃e',dF n e d (f b) e'/\RegN ro P n ds w0 ops (i+1) e' H' Q)(a: ∀w,bX P ops i e w=some (d,.ok (.value (f w.heap.size)) {w with heap:=w.heap.push o}):=by intro _;kernel_rfl):RegN ro P n ds w0 ops i e H Q:=rK d f o a h
theorem T_gs{a:Nat}{L:Array Bool}(i:Nat)(v:Option Tmp)(k:Array Bool)(e':Env)(h:RegG ro P n ds w0 ops d a k e' H Q)(u:(ops[i]?).bind (λo=>(iv ops e o).map (λb=>(o.dst,b)))=some (v,false):=by kernel_rfl)
  (t:(Region.ready .any ops L).contains i=true:=by kernel_rfl) (j:Region.noSelect ops=true:=by kernel_rfl) (g:gf ops=true:=by kernel_rfl) (s:Region.free .any ops L i=true:=by kernel_rfl) (l:d.all (λf=>f.1 !=i)=true:=by kernel_rfl) (q:L.setIfInBounds i true=k:=by kernel_rfl)
  (r:(putS n e v undef).map (λm=>e'.map (λp=>m.get p.1))=some (e'.map (λp=>some p.2)):=by kernel_rfl):RegG ro P n ds w0 ops d (a+1) L e H Q:=pE i v k e' u t j g s l q r h
theorem T_gp{a:Nat}{L:Array Bool}(i:Nat)(t:Option Tmp)(v:Value)(j:Array Bool)(e':Env)
  (h:RegG ro P n ds w0 ops d a j e' H Q) (s: ∀w,bX P ops i e w=some (t,(pure (.value v):Sem Next).run P w):=by intro _;kernel_rfl)
  (r:(Region.ready .any ops L).contains i=true:=by kernel_rfl) (g:Region.noSelect ops=true:=by kernel_rfl) (b:gf ops=true:=by kernel_rfl) (q:Region.free .any ops L i=true:=by kernel_rfl) (k:d.all (λf=>f.1 !=i)=true:=by kernel_rfl) (m:L.setIfInBounds i true=j:=by kernel_rfl)
  (o:(putS n e t v).map (λl=>e'.map (λp=>l.get p.1))=some (e'.map (λp=>some p.2)):=by kernel_rfl):RegG ro P n ds w0 ops d (a+1) L e H Q:=jP i t v j e' (pure (.value v)) s (λ_ _ _ _ _=>rfl) r g b q k m o h
theorem T_nd(k:Nat)(b:List Nat)(a:Env)(h:RegN ro P n ds w0 ops (i+k) (ed b a e) H Q)(d: ∀w,sel (ed b a e) (runS P n ops ((ops.toList.drop i).take k) e w)=keep (ed b a e) w:=by intro _;kernel_rfl):RegN ro P n ds w0 ops i e H Q:=ov k _ d h
theorem T_ed(k:Nat)(b:List Nat)(a:Env)(h:At n ds w0 (ed b a e) H K)(f: ∀w,sel (ed b a e) (runS P n ops ((ops.toList.drop i).take k) e w)=keep (ed b a e) w:=by intro _;kernel_rfl)(d:ops.toList.drop (i+k)=[]:=by kernel_rfl):RegN ro P n ds w0 ops i e H (Exit.then K Q):=
 ov k _ f (ot d (aE h))
theorem T_sd(b:List Nat)(a:Env)(h:At n ds w0 (ed b a e) H K)(d:(ed b a e).map (λp=>e.get p.1)=(ed b a e).map (λp=>some p.2):=by kernel_rfl):At n ds w0 e H K:=pw _ d h
theorem T_ud(b:List Nat)(a:Env)(h:RegN ro P n ds w0 ops i (ed b a e) H Q)(d:(ed b a e).map (λp=>e.get p.1)=(ed b a e).map (λp=>some p.2):=by kernel_rfl):RegN ro P n ds w0 ops i e H Q:=pA _ d h
theorem T_qd(d:Option Tmp)(v:Value)(b:List Nat)(a:Env)(h:RegQ P n ds w0 ops (i+1) (ed b a e) H Q)(g:(ops.toList.drop i).head?.map (·.dst)=some d:=by kernel_rfl)
  (k: ∀w,((ops.toList.drop i).head?.bind λo=>kF P ops o e w)=some (v,w):=by intro _;kernel_rfl) (j:(putS n e d v).map (λf=>(ed b a e).map (λp=>f.get p.1))=some ((ed b a e).map (λp=>some p.2)):=by kernel_rfl):RegQ P n ds w0 ops i e H Q:=qW v _ d g k j h
theorem T_vd(d:Option Tmp)(S:Sem Next)(v:Value)(g: ∀w,w.heap=H->S.run P w=.ok (.value v) w)(b:List Nat)(a:Env)(h:RegN ro P n ds w0 ops (i+1) (ed b a e) H Q)(k: ∀w,bX P ops i e w=some (d,S.run P w):=by intro _;kernel_rfl)
  (j:(putS n e d v).map (λf=>(ed b a e).map (λp=>f.get p.1))=some ((ed b a e).map (λp=>some p.2)):=by kernel_rfl):RegN ro P n ds w0 ops i e H Q:=lO d S v k g _ j h
theorem T_ld(d:Option Tmp)(t:TypeId)(q:hat H k=some g)(b:List Nat)(a:Env)(h:RegN ro P n ds w0 ops (i+1) (ed b a e) H Q)(m: ∀w,bX P ops i e w=some (d,(aQ t (vq k)).run P w):=by intro _;kernel_rfl)
  (l: ∀w,(isAgg t).run P w=.ok false w:=by intro _;kernel_rfl) (j:(putS n e d g).map (λf=>(ed b a e).map (λp=>f.get p.1))=some ((ed b a e).map (λp=>some p.2)):=by kernel_rfl):RegN ro P n ds w0 ops i e H Q:=
 lO d (aQ t (vq k)) g m (fZ (gW l q)) _ j h
theorem kL(d:Option Tmp)(t:TypeId){a:Addr}(q:hat H a=some g)(f:List Nat)(b:Env)(h:RegQ P n ds w0 ops (i+1) (ed f b e) H Q)(m: ∀w,bX P ops i e w=some (d,(aQ t (vq a)).run P w):=by intro _;kernel_rfl)
  (l: ∀w,(isAgg t).run P w=.ok false w:=by intro _;kernel_rfl) (k:(putS n e d g).map (λj=>(ed f b e).map (λp=>j.get p.1))=some ((ed f b e).map (λp=>some p.2)):=by kernel_rfl):RegQ P n ds w0 ops i e H Q:=
 Q_op d (aQ t (vq a)) g m (fZ (gW l q)) _ k h
theorem T_xd(d:Option Tmp)(t elem sz:Nat)(a:Addr)(b f:Nat)(k:IntKind)(j:Int)(s:P.underlying t=some (.slice elem))(o:0<=j)(q:j<b)(l:List Nat)(g:Env)(h:RegN ro P n ds w0 ops (i+1) (ed l g e) H Q)
  (v: ∀w,(sizeOf elem).run P w=.ok sz w:=by intro _;kernel_rfl) (u: ∀w,bX P ops i e w=some (d,(bE t (vs (some a) b f) (.int k j)).run P w):=by intro _;kernel_rfl)
  (r:(putS n e d (vq (a.add (Int.toNat j*sz)))).map (λm=>(ed l g e).map (λp=>m.get p.1))=some ((ed l g e).map (λp=>some p.2)):=by kernel_rfl):RegN ro P n ds w0 ops i e H Q:=
 lO d (bE t (vs (some a) b f) (.int k j)) (vq (a.add (Int.toNat j*sz))) u (λw _=>fg s v o q w) _ r h
theorem T_gd{a:Nat}{L:Array Bool}(i:Nat)(A:Option Tmp)(v:Value)(j:Array Bool)(l:List Nat)(k:Env)(S:Sem Next)(r: ∀L w,Closed .any ops L->L.getD i true=false->dx d L w->S.run P w=.ok (.value v) w)
  (h:RegG ro P n ds w0 ops d a j (ed l k e) H Q) (z: ∀w,bX P ops i e w=some (A,S.run P w):=by intro _;kernel_rfl)
  (u:(Region.ready .any ops L).contains i=true:=by kernel_rfl) (g:Region.noSelect ops=true:=by kernel_rfl) (b:gf ops=true:=by kernel_rfl) (t:Region.free .any ops L i=true:=by kernel_rfl) (m:d.all (λf=>f.1 !=i)=true:=by kernel_rfl) (q:L.setIfInBounds i true=j:=by kernel_rfl)
  (s:(putS n e A v).map (λo=>(ed l k e).map (λp=>o.get p.1))=some ((ed l k e).map (λp=>some p.2)):=by kernel_rfl):RegG ro P n ds w0 ops d (a+1) L e H Q:=jP i A v j _ S z r u g b t m q s h
theorem kM{a:Nat}{L:Array Bool}(i:Nat)(z:Option Tmp)(k:Array Bool)(m:List Nat)(l:Env)(h:RegG ro P n ds w0 ops d a k (ed m l e) H Q)(w:(ops[i]?).bind (λo=>(iv ops e o).map (λb=>(o.dst,b)))=some (z,false):=by kernel_rfl)
  (v:(Region.ready .any ops L).contains i=true:=by kernel_rfl) (j:Region.noSelect ops=true:=by kernel_rfl) (g:gf ops=true:=by kernel_rfl) (u:Region.free .any ops L i=true:=by kernel_rfl) (q:d.all (λf=>f.1 !=i)=true:=by kernel_rfl) (s:L.setIfInBounds i true=k:=by kernel_rfl)
  (t:(putS n e z undef).map (λr=>(ed m l e).map (λp=>r.get p.1))=some ((ed m l e).map (λp=>some p.2)):=by kernel_rfl):RegG ro P n ds w0 ops d (a+1) L e H Q:=pE i z k _ w v j g u q s t h
theorem rX{a:Nat}{L:Array Bool}(i:Nat)(z:Option Tmp)(v:Value)(j:Array Bool)(l:List Nat)(k:Env)
  (h:RegG ro P n ds w0 ops d a j (ed l k e) H Q) (u: ∀w,bX P ops i e w=some (z,(pure (.value v):Sem Next).run P w):=by intro _;kernel_rfl)
  (t:(Region.ready .any ops L).contains i=true:=by kernel_rfl) (g:Region.noSelect ops=true:=by kernel_rfl) (b:gf ops=true:=by kernel_rfl) (s:Region.free .any ops L i=true:=by kernel_rfl) (m:d.all (λf=>f.1 !=i)=true:=by kernel_rfl) (q:L.setIfInBounds i true=j:=by kernel_rfl)
  (r:(putS n e z v).map (λo=>(ed l k e).map (λp=>o.get p.1))=some ((ed l k e).map (λp=>some p.2)):=by kernel_rfl):RegG ro P n ds w0 ops d (a+1) L e H Q:=jP i z v j _ (pure (.value v)) u (λ_ _ _ _ _=>rfl) t g b s m q r h
theorem T_pd{o:Option Tmp}{v:Value}{K:Env->Prop}(b:List Nat)(a:Env)(h:K (ed b a e))(f:(putS n e o v).map (λd=>(ed b a e).map (λp=>d.get p.1))=some ((ed b a e).map (λp=>some p.2)):=by kernel_rfl): ∃e',dF n e o v e'/\K e':=⟨_,f,h⟩
theorem N_bd(k:Nat){b v:Bool}(a:b=v)(h:RegN ro P n ds w0 ops i (ed [k] [(k,.bool v)] e) H Q)(d:(ed [k] [(k,.bool b)] e).map (λp=>e.get p.1)=(ed [k] [(k,.bool b)] e).map (λp=>some p.2):=by kernel_rfl):RegN ro P n ds w0 ops i e H Q:=by
 subst a;exact pA _ d h
theorem S_bd(k:Nat){b v:Bool}(a:b=v)(h:At n ds w0 (ed [k] [(k,.bool v)] e) H K)(d:(ed [k] [(k,.bool b)] e).map (λp=>e.get p.1)=(ed [k] [(k,.bool b)] e).map (λp=>some p.2):=by kernel_rfl):At n ds w0 e H K:=by
 subst a;exact pw _ d h
theorem Q_bd(k:Nat){v:Bool}(a:b=v)(h:RegQ P n ds w0 ops i (ed [k] [(k,.bool v)] e) H Q)(d:(ed [k] [(k,.bool b)] e).map (λp=>e.get p.1)=(ed [k] [(k,.bool b)] e).map (λp=>some p.2):=by kernel_rfl):RegQ P n ds w0 ops i e H Q:=by
 subst a;exact j4 _ d h
theorem G_bd{a:Nat}{L:Array Bool}(k:Nat){v:Bool}(f:b=v)(h:RegG ro P n ds w0 ops d a L (ed [k] [(k,.bool v)] e) H Q)(g:(ed [k] [(k,.bool b)] e).map (λp=>e.get p.1)=(ed [k] [(k,.bool b)] e).map (λp=>some p.2):=by kernel_rfl):RegG ro P n ds w0 ops d a L e H Q:=by
 subst f;exact fE _ g h
theorem fT{a:Addr}{k:Nat}(t:TypeId)(vs:List Value)(q:aM H a 0 k)(h: ∀H',H'=aP H a vs 0-> ∃e',dF n e none undef e'/\RegN ro P n ds w0 ops (i+1) e' H' Q)(g: ∀w,bX P ops i e w=some (none,(gZ t (vq a) (.agg vs.toArray)).run P w):=by intro _;kernel_rfl)
  (f:(Value.agg vs.toArray).cells.toList=vs:=by kernel_rfl) (hk:vs.length=k:=by kernel_rfl) (hn: ∀w,(sizeOf t).run P w=.ok k w:=by intro _;kernel_rfl) (d:ir vs=true:=by kernel_rfl):RegN ro P n ds w0 ops i e H Q:=
 kE none (gZ t (vq a) (.agg vs.toArray)) (λb=>b=aP H a vs 0) g (hC vs k f hk hn d q) h
theorem gL{a:Addr}{k:Nat}(t:TypeId)(v:Value)(q:aM H a 0 k)(h: ∀H',H'=aP H a [v] 0-> ∃e',dF n e none undef e'/\RegN ro P n ds w0 ops (i+1) e' H' Q)(g: ∀w,bX P ops i e w=some (none,(gZ t (vq a) v).run P w):=by intro _;kernel_rfl)
  (f:v.cells.toList=[v]:=by kernel_rfl) (hk:[v].length=k:=by kernel_rfl) (hn: ∀w,(sizeOf t).run P w=.ok k w:=by intro _;kernel_rfl) (d:ir [v]=true:=by kernel_rfl):RegN ro P n ds w0 ops i e H Q:=
 kE none (gZ t (vq a) v) (λb=>b=aP H a [v] 0) g (hC [v] k f hk hn d q) h
theorem aA(id:Nat)(h:RegN ro P n ds w0 (Code.ops (ca c)) 0 e H (Exit.then ((cb c).wpR ro P Q) Q))(a:c=.seq (ca c) (cb c):=by kernel_rfl)(b:ca c=.region id (Code.ops (ca c)) false:=by kernel_rfl):At n ds w0 e H (c.wpR ro P Q):=T_sr id (ca c) (cb c) h a b
theorem T_sz(h:At n ds w0 e H ((ca c).wpR ro P (Exit.then ((cb c).wpR ro P Q) Q)))(a:c=.seq (ca c) (cb c):=by kernel_rfl):At n ds w0 e H (c.wpR ro P Q):=px (ca c) (cb c) a h
theorem T_tz(o:Tmp)(h:At n ds w0 e H ((ca c).wpR ro P Q))(a:c=.cond (.tmp o) (ca c) (cb c):=by kernel_rfl)(b:fS e (.tmp o)=some (vT):=by kernel_rfl):At n ds w0 e H (c.wpR ro P Q):=iT (.tmp o) _ _ a b h
theorem T_fz(o:Tmp)(h:At n ds w0 e H ((cb c).wpR ro P Q))(a:c=.cond (.tmp o) (ca c) (cb c):=by kernel_rfl)(b:fS e (.tmp o)=some (vF):=by kernel_rfl):At n ds w0 e H (c.wpR ro P Q):=iU (.tmp o) _ _ a b h
theorem aJ(o:Tmp){b:Bool}(a:b=true)(h:At n ds w0 e H ((ca c).wpR ro P Q))(d:c=.cond (.tmp o) (ca c) (cb c):=by kernel_rfl)(f:fS e (.tmp o)=some (.bool b):=by kernel_rfl):At n ds w0 e H (c.wpR ro P Q):=iT (.tmp o) _ _ d (by rw[f,a]) h
theorem aK(o:Tmp)(a:b=false)(h:At n ds w0 e H ((cb c).wpR ro P Q))(d:c=.cond (.tmp o) (ca c) (cb c):=by kernel_rfl)(f:fS e (.tmp o)=some (.bool b):=by kernel_rfl):At n ds w0 e H (c.wpR ro P Q):=iU (.tmp o) _ _ d (by rw[f,a]) h
theorem rY(o:Tmp)(a:b=false)(h:At n ds w0 e H ((ca c).wpR ro P Q))(d:c=.cond (.tmp o) (ca c) (cb c):=by kernel_rfl)(f:fS e (.tmp o)=some (.bool (!b)):=by kernel_rfl):At n ds w0 e H (c.wpR ro P Q):=iT (.tmp o) _ _ d (by rw[f,a];rfl) h
theorem rZ(o:Tmp)(a:b=true)(h:At n ds w0 e H ((cb c).wpR ro P Q))(d:c=.cond (.tmp o) (ca c) (cb c):=by kernel_rfl)(f:fS e (.tmp o)=some (.bool (!b)):=by kernel_rfl):At n ds w0 e H (c.wpR ro P Q):=iU (.tmp o) _ _ d (by rw[f,a];rfl) h
theorem T_bz(id:Nat)(h:At n ds w0 e H ((ca c).wpR ro P (Exit.inBlock id Q)))(a:c=.block id (ca c):=by kernel_rfl):At n ds w0 e H (c.wpR ro P Q):=om id _ a h
theorem T_rz(id:Nat)(h:RegN ro P n ds w0 (Code.ops c) 0 e H Q)(a:c=.region id (Code.ops c) false:=by kernel_rfl):At n ds w0 e H (c.wpR ro P Q):=kC id (Code.ops c) a h
theorem oG(id:Nat)(h:RegQ P n ds w0 (Code.ops c) 0 e H Q)(b:c=.region id (Code.ops c) true:=by kernel_rfl)(hm:P.follows .mixedOrders=true:=by kernel_rfl)(a:Region.lexB .any (Code.ops c)=true:=by kernel_rfl):At n ds w0 e H (c.wpR none P Q):=lM id (Code.ops c) b hm a h
theorem T_l1(k:Nat)(t:TypeId){a:Addr}{v:Value}(q:hat H a=some v)(b:List Nat)(h:RegN ro P n ds w0 ops (i+1) (ed b [(k,v)] e) H Q)(j: ∀w,bX P ops i e w=some (some k,(aQ t (vq a)).run P w):=by intro _;kernel_rfl)
  (g: ∀w,(isAgg t).run P w=.ok false w:=by intro _;kernel_rfl) (f:(putS n e (some k) v).map (λd=>(ed b [(k,v)] e).map (λp=>d.get p.1))=some ((ed b [(k,v)] e).map (λp=>some p.2)):=by kernel_rfl):RegN ro P n ds w0 ops i e H Q:=T_ld (some k) t q b [(k,v)] h j g f
theorem T_lr(j:Nat)(t:TypeId){vs:List Value}(q:aU H k 0 vs)(a:List Nat)(h:RegN ro P n ds w0 ops (i+1) (ed a [(j,.agg vs.toArray)] e) H Q)(g: ∀w,bX P ops i e w=some (some j,(aQ t (vq k)).run P w):=by intro _;kernel_rfl)
  (f: ∀w,(isAgg t).run P w=.ok true w:=by intro _;kernel_rfl) (hn: ∀w,(sizeOf t).run P w=.ok vs.length w:=by intro _;kernel_rfl) (d:(putS n e (some j) (.agg vs.toArray)).map (λb=>(ed a [(j,.agg vs.toArray)] e).map (λp=>b.get p.1))=some ((ed a [(j,.agg vs.toArray)] e).map (λp=>some p.2)):=by kernel_rfl):RegN ro P n ds w0 ops i e H Q:=
 T_vd (some j) (aQ t (vq k)) (.agg vs.toArray) (fZ (gX f hn q)) a [(j,.agg vs.toArray)] h g d
theorem T_q1(k:Nat)(v:Value)(a:List Nat)(h:RegQ P n ds w0 ops (i+1) (ed a [(k,v)] e) H Q)(d:(ops.toList.drop i).head?.map (·.dst)=some (some k):=by kernel_rfl)
  (g: ∀w,((ops.toList.drop i).head?.bind λo=>kF P ops o e w)=some (v,w):=by intro _;kernel_rfl) (f:(putS n e (some k) v).map (λb=>(ed a [(k,v)] e).map (λp=>b.get p.1))=some ((ed a [(k,v)] e).map (λp=>some p.2)):=by kernel_rfl):RegQ P n ds w0 ops i e H Q:=T_qd (some k) v a [(k,v)] h d g f
theorem T_v1(k:Nat)(S:Sem Next)(v:Value)(d: ∀w,w.heap=H->S.run P w=.ok (.value v) w)(a:List Nat)(h:RegN ro P n ds w0 ops (i+1) (ed a [(k,v)] e) H Q)(g: ∀w,bX P ops i e w=some (some k,S.run P w):=by intro _;kernel_rfl)
  (f:(putS n e (some k) v).map (λb=>(ed a [(k,v)] e).map (λp=>b.get p.1))=some ((ed a [(k,v)] e).map (λp=>some p.2)):=by kernel_rfl):RegN ro P n ds w0 ops i e H Q:=T_vd (some k) S v d a [(k,v)] h g f
theorem T_g1{a:Nat}{L:Array Bool}(i:Nat)(k:Nat)(v:Value)(j:Array Bool)(l:List Nat)(S:Sem Next)(r: ∀L w,Closed .any ops L->L.getD i true=false->dx d L w->S.run P w=.ok (.value v) w)
  (h:RegG ro P n ds w0 ops d a j (ed l [(k,v)] e) H Q) (z: ∀w,bX P ops i e w=some (some k,S.run P w):=by intro _;kernel_rfl)
  (u:(Region.ready .any ops L).contains i=true:=by kernel_rfl) (g:Region.noSelect ops=true:=by kernel_rfl) (b:gf ops=true:=by kernel_rfl) (t:Region.free .any ops L i=true:=by kernel_rfl) (m:d.all (λf=>f.1 !=i)=true:=by kernel_rfl) (q:L.setIfInBounds i true=j:=by kernel_rfl)
  (s:(putS n e (some k) v).map (λo=>(ed l [(k,v)] e).map (λp=>o.get p.1))=some ((ed l [(k,v)] e).map (λp=>some p.2)):=by kernel_rfl):RegG ro P n ds w0 ops d (a+1) L e H Q:=jP i (some k) v j _ S z r u g b t m q s h
theorem aG{a:Nat}{L:Array Bool}(i:Nat)(k:Nat)(v:Value)(j:Array Bool)(l:List Nat)
  (h:RegG ro P n ds w0 ops d a j (ed l [(k,v)] e) H Q) (u: ∀w,bX P ops i e w=some (some k,(pure (.value v):Sem Next).run P w):=by intro _;kernel_rfl)
  (t:(Region.ready .any ops L).contains i=true:=by kernel_rfl) (g:Region.noSelect ops=true:=by kernel_rfl) (b:gf ops=true:=by kernel_rfl) (s:Region.free .any ops L i=true:=by kernel_rfl) (m:d.all (λf=>f.1 !=i)=true:=by kernel_rfl) (q:L.setIfInBounds i true=j:=by kernel_rfl)
  (r:(putS n e (some k) v).map (λo=>(ed l [(k,v)] e).map (λp=>o.get p.1))=some ((ed l [(k,v)] e).map (λp=>some p.2)):=by kernel_rfl):RegG ro P n ds w0 ops d (a+1) L e H Q:=jP i (some k) v j _ (pure (.value v)) u (λ_ _ _ _ _=>rfl) t g b s m q r h
theorem T_nr{fn:Func}{d:Exit->Act->World->Prop}(k:Nat)(b:List Nat)(vs:List Value)(f: ∀a w,i0 P fn w0 o a w->Q .ret a w/\Q .normal a w)(h:o (tup vs) H)(p: ∀w,sel (b.zip vs) (runS P n ops ((ops.toList.drop i).take k) e w)=keep (b.zip vs) w:=by intro _;kernel_rfl)(l:ops.toList.drop (i+k)=[]:=by kernel_rfl)(g:c=.ret:=by kernel_rfl)(m:Q' .ret=Q .ret:=by exact rfl)
  (j:fn.results.toList=b.map .tmp:=by kernel_rfl) (q:b.map (Env.get (b.zip vs))=vs.map some:=by kernel_rfl):RegN ro P n [] w0 ops i e H (Exit.then (c.wpR ro P Q') d):=T_ne k (b.zip vs) (fB b vs f h g m j q) p l
end
def HD(P:Program)(f:FuncId)(args:Array Value)(H:zV)(R:zV->Prop):Prop:=
 ∀w,w.heap=H->CallsDIn Fence.wide 0 P f args .returning w (λen u w'=>u=.returning/\ ∃v,en=.returned v/\Same w w'/\R w'.heap)
theorem HD.mono{P:Program}{f:FuncId}{args:Array Value}{H:zV}{R a:zV->Prop}(h:HD P f args H R)(g: ∀H',R H'->a H'):HD P f args H a:=
 λw k=>(h w k).mono λ_ _ _ ⟨j,v,d,i,b⟩=>⟨j,v,d,i,g _ b⟩
section
variable {P:Program} {n:Nat} {w0:World} {e e':Env} {H H':zV} {Q:Exit->Act->World->Prop} {K:Act->World->Prop} {c x y:Code} {ds:List Deferred} {ro:Option Nat}
end
def Exit.jump(l:Nat)(J:Act->World->Prop)(Q:Exit->Act->World->Prop):Exit->Act->World->Prop
 | .goto l',a,w=>l'=l/\J a w
 | e,a,w=>Q e a w
def kw(P:Program)(x:Code)(l:Nat)(Q:Exit->Act->World->Prop)(a:Act)(w:World):Prop:=
 ∀r,findLabel x l=some r-> ∀b k cs,∃e a₁ w₁,Q e a₁ w₁/\Arrives P (lone (b.at a (.code r::.inScope x::k)) cs w) b k cs e a₁ w₁
section
variable {P:Program} {n:Nat} {w0:World} {e e':Env} {H H':zV} {Q:Exit->Act->World->Prop} {K:Act->World->Prop} {c x y:Code} {ds:List Deferred} {ro:Option Nat}
theorem lG{l:Nat}{a:Act}{w:World}(u:(findLabel x l).isSome=true)(h:x.wp P (Exit.jump l (kw P x l Q) Q) a w):(Code.scope x).wp P Q a w:=by
 obtain⟨r,q⟩:=Option.isSome_iff_exists.1 u
 intro b k p
 obtain⟨e,i,m,g,d⟩:=h b (.inScope x::k) p
 cases e with
 | normal=>exact⟨.normal,i,m,g,.head step_scope (Steps.trans d (.one step_inScope))⟩
 | exit id=>exact⟨.exit id,i,m,g,λv hk=> .head step_scope (d v (by simp[exitTo,hk]))⟩
 | goto B=>
  obtain⟨rfl,j⟩:=g
  obtain⟨t,s,z,o,f⟩:=j r q b k p
  exact⟨t,s,z,o,.of_steps (.head step_scope (d _ (by simp[gotoIn,q]))) f⟩
 | ret=>exact⟨_,i,m,g,.of_steps (.one step_scope) d⟩
 | panic A=>exact⟨_,i,m,g,.of_steps (.one step_scope) d⟩
 | outgrown=>exact⟨_,i,m,g,.of_steps (.one step_scope) d⟩
theorem nJ{l:Nat}{B:Code}(t:findLabel x l=some (.seq .skip B))(I:Act->World->Prop)(μ:Act->World->Nat)(round: ∀a w,I a w->B.wp P (Exit.jump l (λj m=>I j m/\μ j m<μ a w) Q) a w):
  ∀(k:Nat) (a:Act) (w:World),μ a w=k->I a w->kw P x l Q a w:=by
 intro k
 induction k using Nat.strongRecOn with
 | ind k E=>
  intro a w hk D r u b v s
  obtain rfl:Code.seq .skip B=r:=Option.some.inj (t.symm.trans u)
  have C:(Code.seq .skip B).wp P (Exit.jump l (λj m=>I j m/\μ j m<μ a w) Q) a w:=wp_seq (wp_skip (round a w D))
  obtain⟨e,g,i,h,d⟩:=C b (.inScope x::v) s
  cases e with
  | normal=>exact⟨.normal,g,i,h,Steps.trans d (.one step_inScope)⟩
  | exit id=>exact⟨.exit id,g,i,h,λF hk=>d F (by simp[exitTo,hk])⟩
  | goto L=>
   obtain⟨rfl,o,p⟩:=h
   obtain⟨A,z,G,q,f⟩:=E _ (hk▸p) g i rfl o _ u b v s
   exact⟨A,z,G,q,.of_steps (d _ (by simp[gotoIn,t])) f⟩
  | ret=>exact⟨_,g,i,h,d⟩
  | panic J=>exact⟨_,g,i,h,d⟩
  | outgrown=>exact⟨_,g,i,h,d⟩
theorem pJ(x:Code)(l:Nat)(d:c=.scope x)(f:(findLabel x l).isSome=true)(h:At n ds w0 e H (x.wpR none P (Exit.jump l (kw P x l Q) Q))):At n ds w0 e H (c.wpR none P Q):=
 λa w b i g=>by
  rw[d]
  exact wpIn_wide.2 (lG f (wpIn_wide.1 (h a w b i g)))
theorem pK(l:Nat)(B:Code)(d:Env)(I:zV->Prop)(μ:zV->Nat)(v:c=.seq (.label l) B)(A:findLabel x l=some (.seq .skip B))(h:I H)(z:Sub d e)
  (round: ∀H',I H'->At n ds w0 d H' (B.wpR none P (Exit.jump l (λa w=>Agree n ds d a/\Same w0 w/\I w.heap/\μ w.heap<μ H') Q))):
  At n ds w0 e H (c.wpR none P (Exit.jump l (kw P x l Q) Q)):=λa w i C j=>by
 have key: ∀a w,(Agree n ds d a/\Same w0 w/\I w.heap)->B.wp P (Exit.jump l (λp k=>(Agree n ds d p/\Same w0 k/\I k.heap)/\μ k.heap<μ w.heap) Q) a w:=by
  rintro a w ⟨i,j,h⟩
  refine wp_mono (wpIn_wide.1 (round w.heap h a w i rfl j)) ?_
  intro g m o b
  cases g with
  | goto D=>
   obtain⟨rfl,r,s,t,u⟩:=b
   exact⟨rfl,⟨r,s,t⟩,u⟩
  | normal=>exact b
  | exit id=>exact b
  | ret=>exact b
  | panic q=>exact b
  | outgrown=>exact b
 have f:=nJ (x:=x) A (λa w=>Agree n ds d a/\Same w0 w/\I w.heap) (λ_ w=>μ w.heap) key
 rw[v]
 refine wpIn_wide.2 (wp_seq (wp_label ?_))
 refine wp_mono (key a w ⟨i.sub z,j,C▸h⟩) ?_
 intro g m o b
 cases g with
 | goto D=>exact⟨b.1,f _ m o rfl b.2.1⟩
 | normal=>exact b
 | exit id=>exact b
 | ret=>exact b
 | panic q=>exact b
 | outgrown=>exact b
theorem rm(l:Nat)(d:c=.goto l)(h:At n ds w0 e H (Q (.goto l))):At n ds w0 e H (c.wpR ro P Q):=
 λa w b g f=>by rw[d];exact wpIn_goto (h a w b g f)
theorem jj{l:Nat}(h:At n ds w0 e H (Q (.goto l))):At n ds w0 e H (Exit.then K Q (.goto l)):=h
theorem kh{id l:Nat}(h:At n ds w0 e H (Q (.goto l))):At n ds w0 e H (Exit.inBlock id Q (.goto l)):=h
theorem rn{l:Nat}{d:Env}{I:zV->Prop}{μ:zV->Nat}{b:zV}(i:Sub d e)(f:I H/\μ H<μ b):
  At n ds w0 e H (Exit.jump l (λa w=>Agree n ds d a/\Same w0 w/\I w.heap/\μ w.heap<μ b) Q (.goto l)):=
 λa w h g j=>⟨rfl,h.sub i,j,by rw[g];exact f.1,by rw[g];exact f.2⟩
end
