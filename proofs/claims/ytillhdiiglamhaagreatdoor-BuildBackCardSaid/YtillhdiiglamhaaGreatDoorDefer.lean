/-
 Maps whose keys are numbers or strings, said of heaps. Proves nothing of any one program.
-/
import Derived.Test.YtillhdiiglamhaaGreatDoorOwn
import Derived.Laws.Externs
import Derived.Laws.IdiomStrings
import Derived.Shelf.Abstract
import Derived.RangeFuncNested
import Derived.Scope
set_option linter.unusedVariables false
set_option linter.unusedSimpArgs false
namespace Go.Proofs.YtillhdiiglamhaaGreatDoor
open Go
theorem Gc:type_of% @Array.toList_modify:=@Array.toList_modify
theorem Gb:type_of% @Array.toList_push:=@Array.toList_push
theorem F7:type_of% @Nat.sub_self:=@Nat.sub_self
theorem E4:type_of% @List.map_append:=@List.map_append
theorem EH:type_of% @List.mem_append:=@List.mem_append
variable{a d:Nat}{b:Array MapEntry}{g i j:TypeId}
structure wo (α:Type) [DecidableEq α]where
 cell:α->Value
 desc:TypeDesc
 same: ∀a b,Instr.sameNow desc (cell a) (cell b)=some (decide (a=b))
 bits: ∀a,Instr.sameBits 10000 (cell a) (cell a)=true
 plain: ∀(P:Program) (t:TypeId) (e:Bool) (w:World) (a:α),P.underlying t=some desc->(Instr.checkKey e 10000 t (cell a)).run P w=.ok () w
def fB(k:IntKind):wo Int where
 cell:=Value.int k
 desc:=.int k
 same a b:=by
  simp only[Instr.sameNow,EE,EQ];by_cases h:a=b<;>simp[h]
 bits a:=by simp[Instr.sameBits]
 plain P t e w a h:=by
  unfold Instr.checkKey;rw[Ek (x:=TypeDesc.int k) (w':=w) (by simp[underlying,program,Sem.run,h,EO,pure,Result.andThen])];rfl
section
variable {α:Type} [DecidableEq α] (kk:wo α)
def p8(es:List MapEntry)(ks:List (α×Value)):Prop:=es.map (λe=>(e.key,e.val))=ks.map (λp=>(kk.cell p.1,p.2))
def Bb(ks:List (α×Value))(k:α):Option Value:=(ks.find? (λp=>decide (k=p.1))).map (·.2)
def vg:List (α×Value)->α->Value->List (α×Value)
 | [],k,v=> [(k,v)]
 | p::r,k,v=>if k=p.1 then(k,v)::r else p::vg r k v
theorem kZ{k:α}: ∀(d:List MapEntry) (f:List (α×Value)) (i:Nat),p8 kk d f-> ∃r:Option (Nat×Value),Instr.findNow kk.desc (kk.cell k) d i=some r/\r.map (·.2)=Bb f k/\
  (∀j v,r=some (j,v)->i<=j/\ ∃e,d[j-i]?=some e/\e.key=kk.cell k/\ ∀a,p8 kk (d.modify (j-i) λe=>{e with key:=kk.cell k,val:=a}) (vg f k a))/\
  (r=none-> ∀a b,p8 kk (d++[{key:=kk.cell k,val:=a,born:=b}]) (vg f k a))
 | [],[],i,_=>⟨none,rfl,rfl,λ_ _ h=>(by cases h),λ_ a b=>rfl⟩
 | [],_::_,_,h=>by simp[p8]at h
 | _::_,[],_,h=>by simp[p8]at h
 | e::d,p::f,i,h=>by
  have B:=h;simp only[p8,List.map_cons,Ga,EX]at h;obtain⟨⟨hk,m⟩,n⟩:=h;unfold Instr.findNow;rw[hk,kk.same];by_cases c:k=p.1
  ·rw[zX c];refine⟨some (i,e.val),rfl,by simp[Bb,c,m],λj v l=>?_,λh=>by cases h⟩;cases l;refine⟨Er _,e,GH,by rw[hk,c],λa=>?_⟩;rw[F7];simp only[vg,ka c];simp[p8,n]
  ·rw[zQ c];obtain⟨r,u,x,y,z⟩:=kZ (k:=k) d f (i+1) n;refine⟨r,u,by rw[x];simp[Bb,c],λj v l=>?_,λhn a b=>?_⟩
   ·obtain⟨A,o,q,s,t⟩:=y j v l;have g:j-i=(j-(i+1))+1:=GF;refine⟨GF,o,by rw[g];simpa using q,s,λa=>?_⟩;have:=t a;rw[g];simp only[vg,kb c];simp only[p8,List.modify_succ_cons,List.map_cons]at this⊢;rw[this,hk,m]
   ·have:=z hn a b;simp only[vg,kb c];simp only[p8,List.cons_append,List.map_cons]at this⊢;rw[this,hk,m]
def nZ(t:TypeId)(x i:Value)(ok:Bool):Sem Next:=do pure (.value (<-Instr.lookup t x i ok))
def pO(t:TypeId)(m k v:Value):Sem Next:=do Instr.mapUpdate t m k v;pure .skip
variable {kk}
variable {P:Program} {w:World}
theorem kG(h:w.heap[a]?=some (.map b d)):(getObj a).run P w=.ok (.map b d) w:=by
 show Sem.run P (Sem.getObj a Sem.pure) w=_;simp only[Sem.run,h]
theorem lv{o:Obj}(h:w.heap[a]?=some (.map b d)):(setObj a o).run P w=.ok () {w with heap:=w.heap.setIfInBounds a o}:=by
 show Sem.run P (Sem.setObj a o (Sem.pure ())) w=_;simp only[Sem.run,h]
theorem iR{d:TypeDesc}(h:P.underlying g=some d):(underlying g).run P w=.ok d w:=by
 simp[underlying,program,Sem.run,h,EO,pure,Result.andThen]
theorem kS{k:α}{a:List MapEntry}{r:Option (Nat×Value)}(hk:P.underlying g=some kk.desc)(h:Instr.findNow kk.desc (kk.cell k) a 0=some r):(Instr.findKey g (kk.cell k) a).run P w=.ok r w:=by
 unfold Instr.findKey;rw[Ek (iR hk)];rw[h];rfl
theorem nG{z:Value}{c:List (α×Value)}{k:α}(m:P.underlying g=some (.map i j))(hk:P.underlying i=some kk.desc)(n: ∀w,(zeroValue j).run P w=.ok z w)
  (hm:w.heap[a]?=some (.map b d)) (l:p8 kk b.toList c) (e:Bool):
  (nZ g (.map (some a)) (kk.cell k) e).run P w=.ok (.value (if e then .tuple #[(Bb c k).getD z,.bool (Bb c k).isSome]else(Bb c k).getD z)) w:=by
 obtain⟨q,h,f,-,-⟩:=kZ (k:=k) kk b.toList c 0 l;unfold nZ Instr.lookup;simp only[EJ];rw[Ek (iR m)];simp only[EJ];rw[Ek (kG hm)];simp only[Fj,EJ];rw[Ek (kk.plain P i b.isEmpty w k hk),Ek (kS hk h)]
 cases q with
 | none=>
  simp only[EJ];rw[Ek (n w)];rw[<-f];cases e<;>rfl
 | some q=>
  obtain⟨o,v⟩:=q;rw[<-f];cases e<;>rfl
theorem u0{h:List (α×Value)}{k:α}{v:Value}(o:P.underlying g=some (.map i j))(hk:P.underlying i=some kk.desc)
  (hm:w.heap[a]?=some (.map b d)) (u:p8 kk b.toList h):
  ∃(c:Array MapEntry) (f:Nat),(pO g (.map (some a)) (kk.cell k) v).run P w=.ok .skip {w with heap:=bR w.heap a (.map c f)}/\p8 kk c.toList (vg h k v):=by
 obtain⟨q,n,y,s,t⟩:=kZ (k:=k) kk b.toList h 0 u
 cases q with
 | none=>
  refine⟨b.push {key:=kk.cell k,val:=v,born:=d},d+1,?_,by rw[Gb];exact t rfl v d⟩;unfold pO Instr.mapUpdate;simp only[EJ];rw[Ek (iR o)];simp only[EJ];rw[Ek (kG hm)];simp only[EJ];rw[Ek (kk.plain P i false w k hk),Ek (kS hk n)];simp only[];rw[Ek (lv hm)];rfl
 | some q=>
  obtain⟨z,x⟩:=q;obtain⟨-,e,l,p,m⟩:=s z x rfl;rw[Nat.sub_zero]at l m;refine⟨b.modify z λe=>{e with key:=kk.cell k,val:=v},d,?_,by rw[Gc];exact m v⟩;have r:(b[z]?).map (·.key)=some (kk.cell k):=by rw[<-Array.getElem?_toList,l];simp[p]
  unfold pO Instr.mapUpdate;simp only[EJ];rw[Ek (iR o)];simp only[EJ];rw[Ek (kG hm)];simp only[EJ];rw[Ek (kk.plain P i false w k hk),Ek (kS hk n)];simp only[EJ];rw[r];unfold Instr.keyThatStays;simp only[Option.getD_some,kk.bits,EE,Fj];rw[Ek (lv hm)];rfl
def Born(es:Array MapEntry)(cl:Nat):Prop:=(es.toList.map (·.born)).Nodup/\ ∀e∈es.toList,e.born<cl
def lJ(es:Array MapEntry)(k:Value)(s:Int):Prop:= ∃(i:Nat) (e:MapEntry),es.toList[i]?=some e/\e.key=k/\(e.born:Int)=s/\ ∀j e',j<i->es.toList[j]?=some e'->e'.key≠k
theorem tS:Born #[] 0:=⟨List.nodup_nil,λ_ h=>by cases h⟩
def n8(t:TypeId)(m k:Value):Sem Next:=do pure (.value (<-Instr.mapEntry t m k))
def pP(t:TypeId)(m s v:Value):Sem Next:=do Instr.entryStore t m s v;pure .skip
theorem nq{k:α}: ∀(b:List MapEntry) (f:List (α×Value)) (i j:Nat) (v:Value),p8 kk b f->Instr.findNow kk.desc (kk.cell k) b i=some (some (j,v))-> ∀(q:Nat) c,i+q<j->b[q]?=some c->c.key≠kk.cell k
 | [],_,i,j,v,_,h=>by simp[Instr.findNow]at h
 | e::b,[],i,j,v,h,_=>by simp[p8]at h
 | e::b,p::f,i,j,v,h,hf=>by
  simp only[p8,List.map_cons,Ga,EX]at h;obtain⟨⟨hk,r⟩,n⟩:=h;unfold Instr.findNow at hf;rw[hk,kk.same]at hf;intro q c o a;by_cases d:k=p.1
  ·rw[zX d]at hf;simp only[EQ,EX]at hf;omega
  ·rw[zQ d]at hf
   cases q with
   | zero=>
    simp only[List.getElem?_cons_zero,EQ]at a;subst a;rw[hk];intro l;have g:=kk.same k p.1;have m:=kk.same k k;rw[l,m]at g;simp[d]at g
   | succ q=>
    rw[List.getElem?_cons_succ]at a;exact nq b f (i+1) j v n hf q c GF a
theorem wq{k:α}{v:Value}: ∀(b:List MapEntry) (f:List (α×Value)) (i:Nat) (e:MapEntry),p8 kk b f->b[i]?=some e->e.key=kk.cell k->(∀j d,j<i->b[j]?=some d->d.key≠kk.cell k)->p8 kk (b.modify i λe=>{e with val:=v}) (vg f k v)
 | [],_,i,e,_,h,_,_=>by simp at h
 | e0::b,[],i,e,h,_,_,_=>by simp[p8]at h
 | e0::b,p::f,i,e,h,he,hk,hf=>by
  simp only[p8,List.map_cons,Ga,EX]at h;obtain⟨⟨c,g⟩,m⟩:=h
  cases i with
  | zero=>
   simp only[List.getElem?_cons_zero,EQ]at he;subst he
   have a:k=p.1:=by
    by_cases a:k=p.1
    ·exact a
    have l:=kk.same k p.1;have o:=kk.same k k;rw[<-c,hk,o]at l;simp[a]at l
   simp only[vg,ka a];simp[p8,m,hk]
  | succ i=>
   rw[List.getElem?_cons_succ]at he;have a: ¬k=p.1:=λa=>hf 0 e0 GF rfl (by rw[c,a]);simp only[vg,kb a];have:=wq (v:=v) b f i e m he hk (λj d q n=>hf (j+1) d GF (by rw[List.getElem?_cons_succ];exact n));simp only[p8,List.modify_succ_cons,List.map_cons]at this⊢;rw[this,c,g]
theorem oa{k:α}: ∀(b:List MapEntry) (f:List (α×Value)) (i:Nat),p8 kk b f->Instr.findNow kk.desc (kk.cell k) b i=some none-> ∀(q:Nat) c,b[q]?=some c->c.key≠kk.cell k
 | [],_,i,_,_=>λq c h=>by simp at h
 | e::b,[],i,h,_=>by simp[p8]at h
 | e::b,p::f,i,h,hf=>by
  simp only[p8,List.map_cons,Ga,EX]at h;obtain⟨⟨hk,n⟩,m⟩:=h;unfold Instr.findNow at hf;rw[hk,kk.same]at hf;intro q c a;by_cases d:k=p.1
  ·rw[zX d]at hf;simp at hf
  ·rw[zQ d]at hf
   cases q with
   | zero=>
    simp only[List.getElem?_cons_zero,EQ]at a;subst a;rw[hk];intro j;have g:=kk.same k p.1;have l:=kk.same k k;rw[j,l]at g;simp[d]at g
   | succ q=>
    rw[List.getElem?_cons_succ]at a;exact oa b f (i+1) m hf q c a
theorem rS{k:α}{v:Value}: ∀(b:List (α×Value)),Bb b k=some v->vg b k v=b
 | [],h=>by simp[Bb]at h
 | p::b,h=>by
  by_cases a:k=p.1
  ·simp only[vg,ka a];simp[Bb,a]at h;rw[<-h,a]
  ·simp only[vg,kb a];rw[rS b (by simpa[Bb,a]using h)]
theorem o7{β:Type}: ∀(l:List β) (j:Nat) (f:β->β),(∀e,l[j]?=some e->f e=e)->l.modify j f=l
 | [],j,f,_=>GH
 | a::l,0,f,h=>by simp[h a rfl]
 | a::l,j+1,f,h=>by rw[List.modify_succ_cons,o7 l j f (λe b=>h e (by simpa using b))]
theorem o9{l:List MapEntry}{f:MapEntry->MapEntry}(b: ∀e,(f e).born=e.born):(l.modify a f).map (·.born)=l.map (·.born):=by
 induction l generalizing a with
 | nil=>simp
 | cons d l c=>cases a<;>simp[b,c]
theorem Born.modify{f:MapEntry->MapEntry}(h:Born b a)(c: ∀e,(f e).born=e.born):Born (b.modify d f) a:=by
 unfold Born at*;rw[Gc];refine⟨by rw[o9 c];exact h.1,λe k=>?_⟩;have:e.born∈(b.toList.modify d f).map (·.born):=List.mem_map_of_mem k;rw[o9 c,EZ]at this;obtain⟨g,i,j⟩:=this;rw[<-j];exact h.2 g i
theorem qd{z:Value}{H:zV}{l:List (α×Value)}{k:α}(F:P.underlying g=some (.map i j))(hk:P.underlying i=some kk.desc)(T: ∀w,(zeroValue j).run P w=.ok z w)
  (hm:H[a]?=some (.map b d)) (v:p8 kk b.toList l) (t:Born b d):
  SS P (n8 g (.map (some a)) (kk.cell k)) H (λu G=> ∃f o sp m,G=bR H a (.map f o)/\p8 kk f.toList (vg l k m)/\Born f o/\lJ f (kk.cell k) sp/\u=.tuple #[m,vi sp]):=by
 intro w S;subst S;obtain⟨q,s,M,N,O⟩:=kZ (k:=k) kk b.toList l 0 v
 cases q with
 | none=>
  refine⟨_,{w with heap:=bR w.heap a (.map (b.push {key:=kk.cell k,val:=z,born:=d}) (d+1))},?_,⟨rfl,rfl,rfl,Er _⟩,_,_,d,z,rfl,by rw[Gb];exact O rfl z d,⟨?_,?_⟩,⟨b.toList.length,_,by rw[Gb,List.getElem?_append_right (Er _),F7];rfl,rfl,rfl,?_⟩,rfl⟩
  ·unfold n8 Instr.mapEntry;simp only[EJ];rw[Ek (iR F)];simp only[EJ];rw[Ek (kG hm)];simp only[EJ];rw[Ek (kk.plain P i false w k hk),Ek (kS hk s)];simp only[EJ];rw[Ek (T w),Ek (lv hm)];rfl
  ·rw[Gb,E4];refine List.nodup_append.2 ⟨t.1,GH,λU Q V A=>?_⟩;obtain⟨e,I,n⟩:=EZ.1 Q;have:=t.2 e I;simp at A;omega
  ·intro e c;rw[Gb]at c;rcases EH.1 c with h | h
   ·have:=t.2 e h;omega
   ·simp at h;rw[h];show d<d+1;omega
  ·intro W p R c;rw[Gb,List.getElem?_append_left R]at c;exact oa b.toList l 0 v s W p c
 | some q=>
  obtain⟨W,m⟩:=q;obtain⟨-,e,n,D,J⟩:=N W m rfl;rw[Nat.sub_zero]at n J;have L:(b[W]?).map (·.key)=some (kk.cell k):=by rw[<-Array.getElem?_toList,n];simp[D]
  have r:(b[W]?).map (·.born)=some e.born:=by rw[<-Array.getElem?_toList,n];rfl
  refine⟨_,{w with heap:=bR w.heap a (.map (b.modify W λe=>{e with key:=kk.cell k}) d)},?_,⟨rfl,rfl,rfl,Er _⟩,_,_,e.born,m,rfl,?_,t.modify (λ_=>rfl),⟨W,{e with key:=kk.cell k},by rw[Gc,List.getElem?_modify,n];simp,rfl,rfl,?_⟩,rfl⟩
  ·unfold n8 Instr.mapEntry;simp only[EJ];rw[Ek (iR F)];simp only[EJ];rw[Ek (kG hm)];simp only[EJ];rw[Ek (kk.plain P i false w k hk),Ek (kS hk s)];simp only[EJ];rw[L];unfold Instr.keyThatStays;simp only[Option.getD_some,kk.bits,EE,Fj];rw[Ek (lv hm)];have K:(b[W]?).map (λx=>(x.born:Nat))=some e.born:=r
   cases C:b[W]? with
   | none=>rw[C]at r;cases r
   | some y=>
    rw[C]at r;have:y.born=e.born:=by simpa using r
    rw[<-this];rfl
  ·have y:Bb l k=some m:=M.symm;rw[Gc,rS l y,o7 b.toList W _ (λp E=>by rw[n]at E;cases E;rw[<-D])];exact v
  ·intro q p C c;rw[Gc,List.getElem?_modify]at c
   have:b.toList[q]?=some p:=by
    have B: ¬W=q:=λe=>GF;simpa[B]using c
   exact nq b.toList l 0 W m v s q p GF this
theorem qe{H:zV}{n:List (α×Value)}{k:α}{s:Int}{v:Value}(hm:H[a]?=some (.map b d))(A:p8 kk b.toList n)(q:Born b d)(C:lJ b (kk.cell k) s):
  ∀w,w.heap=H-> ∃o,(pP g (.map (some a)) (vi s) v).run P w=.ok .skip o/\Same w o/\(λr=> ∃c,r=bR H a (.map c d)/\p8 kk c.toList (vg n k v)/\Born c d) o.heap:=by
 intro w D;subst D;obtain⟨i,e,h,t,u,x⟩:=C;refine⟨{w with heap:=bR w.heap a (.map (b.modify i λe=>{e with val:=v}) d)},?_,⟨rfl,rfl,rfl,Er _⟩,_,rfl,by rw[Gc];exact wq b.toList n i e A h t x,q.modify (λ_=>rfl)⟩;have l:i<b.toList.length:=(List.getElem?_eq_some_iff.1 h).1
 have B:b.findIdx? (λe=>(e.born:Int)==s)=some i:=by
  rw[Array.findIdx?_eq_some_iff_getElem];refine⟨by simpa using l,?_,λj F=>?_⟩
  ·have:b[i]'(by simpa using l)=e:=by
    have:=h;rw[Array.getElem?_toList,Array.getElem?_eq_getElem (by simpa using l)]at this;simpa using this
   simp[this,u]
  ·have f:j<b.size:=by simp at l;omega
   have p:(b.toList.map (·.born))[j]?≠(b.toList.map (·.born))[i]?:=by
    intro m;have:=(List.getElem?_inj (by simpa using f) q.1).1 m;omega
   have y:(b.toList.map (·.born))[i]?=some e.born:=by rw[List.getElem?_map,h];rfl
   have z:(b.toList.map (·.born))[j]?=some b[j].born:=by rw[List.getElem?_map,Array.getElem?_toList,Array.getElem?_eq_getElem f];rfl
   rw[y,z]at p;have E:b[j].born≠e.born:=λm=>p (by rw[m]);have: ¬((b[j].born:Int)=s):=GF;simpa using this
 unfold pP Instr.entryStore;simp only[EJ,Fj];rw[Ek (kG hm)];simp only[EJ,asInt,asIntOf,Fj];rw[B];simp only[];rw[Ek (lv hm)];rfl
end
variable{a:zk}{b:Facts}{d:Value}{g:Bool}{j:FuncId}{k:Addr}{o:ByteArray}
def pb(it:Value)(st:Bool)(ty:TypeId):Sem Next:=do pure (.value (<-Instr.next it st ty))
theorem pd{P:Program}{w:World}{r pos:Nat}(h:w.heap[r]?=some (.stringIter o pos)):(getObj r).run P w=.ok (.stringIter o pos) w:=by
 show Sem.run P (Sem.getObj r Sem.pure) w=_;simp only[Sem.run,h]
theorem tT{P:Program}{w:World}{r pos:Nat}{a:Obj}(h:w.heap[r]?=some (.stringIter o pos)):(setObj r a).run P w=.ok () {w with heap:=w.heap.setIfInBounds r a}:=by
 show Sem.run P (Sem.setObj r a (Sem.pure ())) w=_;simp only[Sem.run,h]
theorem wt{P:Program}{H:zV}{b:Nat}{pos:Nat}{h:TypeId}(f:H[b]?=some (.stringIter o pos))(g:pos<o.size):
  SS P (pb (vp (some ⟨b,0,none⟩)) true h) H (λv H'=>v=.tuple #[VT,vi pos,.int .i32 (Utf8.decode o pos).1]/\H'=bR H b (.stringIter o (pos+(Utf8.decode o pos).2))):=λw d=>by
 have a:w.heap[b]?=some (.stringIter o pos):=by rw[d];exact f
 refine⟨_,{w with heap:=w.heap.setIfInBounds b (.stringIter o (pos+(Utf8.decode o pos).2))},?_,⟨rfl,rfl,rfl,Er _⟩,rfl,by rw[<-d];rfl⟩;unfold pb Instr.next;simp only[EJ];rw[Ek (pd a)];simp only[g,EE];rw[EJ,Ek (tT a)];rfl
theorem tU{P:Program}{H:zV}{b:Nat}{pos:Nat}{h:TypeId}(f:H[b]?=some (.stringIter o pos))(g: ¬pos<o.size):
  SS P (pb (vp (some ⟨b,0,none⟩)) true h) H (λv H'=>v=.tuple #[VF]/\H'=H):=λw d=>by
 have a:w.heap[b]?=some (.stringIter o pos):=by rw[d];exact f
 refine⟨_,w,?_,Fy w,rfl,d⟩;unfold pb Instr.next;simp only[EJ];rw[Ek (pd a)];simp only[g,EM];rfl
def jT(rs:List Int):ByteArray:=rs.foldl (λs n=>s++Utf8.encode n) ByteArray.empty
def qf(src dst:TypeId)(x:Value):Sem Next:=do pure (.value (<-convert src dst x))
theorem qg{P:Program}{w:World}(f:Value->ByteArray->Sem (ForInStep ByteArray))(b: ∀n s,f (.int .i32 n) s=pure (ForInStep.yield (s++Utf8.encode n))): ∀(a:List Int) (s:ByteArray),
  (forIn (a.map (Value.int .i32)) s f).run P w=.ok (a.foldl (λs n=>s++Utf8.encode n) s) w
 | [],s=>rfl
 | r::a,s=>by
  simp only[List.map_cons,List.forIn_cons,List.foldl_cons];rw[b];exact qg f b a (s++Utf8.encode r)
theorem oc{P:Program}{w:World}{b:zW}{n c:Nat}{d:List Int}(h:bV w.heap b (d.map (Value.int .i32)))(g:b≠none->d.length=n):(Conv.runesToString (vs b n c)).run P w=.ok (.string (jT d)) w:=by
 cases b with
 | none=>
  have:d.map (Value.int .i32)=[]:=h;simp at this;subst this;rfl
 | some a=>
  have hn:=g GH;unfold Conv.runesToString;simp only
  have f:(loadCells a n).run P w=.ok (d.map (Value.int .i32)).toArray w:=by
   unfold loadCells;have:=kM (P:=P) (d.map (Value.int .i32)) 0 #[] h;rw[E2,hn]at this;simpa using this
  rw[Ek f];rw[List.forIn_toArray];refine(Ek (qg _ (λn s=>rfl) d ByteArray.empty)).trans ?_;rfl
theorem rp{P:Program}{w:World}{f a e:TypeId}{b:zW}{n c:Nat}{d:List Int}(l:P.underlying f=some (.slice e))(g:P.underlying a=some .string)(j:P.underlying e=some (.int .i32))(h:bV w.heap b (d.map (Value.int .i32)))(k:b≠none->d.length=n):
  (qf f a (vs b n c)).run P w=.ok (.value (.string (jT d))) w:=by
 have p: ∀w,(underlying f).run P w=.ok (.slice e) w:=λw=>by simp[underlying,program,Sem.run,l,EO,pure,Result.andThen]
 have m: ∀w,(underlying a).run P w=.ok .string w:=λw=>by simp[underlying,program,Sem.run,g,EO,pure,Result.andThen]
 have o: ∀w,(underlying e).run P w=.ok (.int .i32) w:=λw=>by simp[underlying,program,Sem.run,j,EO,pure,Result.andThen]
 unfold qf convert;simp only[EJ];rw[Ek (p w),Ek (m w)];simp only[EJ];rw[Ek (o w)];simp only[];rw[Ek (oc h k)];rfl
variable {ds:List Deferred} {ro:Option Nat}
def qh(fv:Value)(args:Array Value):Sem Next:=do
 let d<-Deferred.ofValue fv args
 invoke d.target d.args
def Cj(R:zk)(w:World):Ending->World->Prop:=λe w'=> ∃v,e=.returned v/\Same w w'/\R v w'.heap
def FE(P:Program)(fv:Value)(args:Array Value)(H:zV)(R:zk):Prop:=
 ∃(f:FuncId) (first caps:Array Value),fv=.func (.func f) first caps/\Enters P f/\HC P f (first++args++caps) H R
def YC(P:Program)(fv:Value)(args:Array Value)(H:zV)(R:zk):Prop:=
 ∃l,fv=.func (.yield l) #[] #[]/\ ∀w,w.heap=H-> ∃fn tmps assign body,(Instr.yield l args).run P w=.ok (.round l fn tmps assign body) w/\RoundIn Fence.wide 0 P l fn tmps assign body w (Cj R w)
def FC(P:Program)(fv:Value)(args:Array Value)(H:zV)(R:zk):Prop:=FE P fv args H R\/YC P fv args H R
theorem FE.mono{P:Program}{args:Array Value}{H:zV}{R b:zk}(h:FE P d args H R)(l: ∀v H',R v H'->b v H'):FE P d args H b:=by
 obtain⟨f,first,a,k,j,g⟩:=h;exact⟨f,first,a,k,j,g.mono l⟩
theorem YC.mono{P:Program}{args:Array Value}{H:zV}{R f:zk}(h:YC P d args H R)(r: ∀v H',R v H'->f v H'):YC P d args H f:=by
 obtain⟨l,q,p⟩:=h;refine⟨l,q,λw s=>?_⟩;obtain⟨fn,tmps,a,b,g,j⟩:=p w s;exact⟨fn,tmps,a,b,g,j.mono λe t ⟨v,k,m,o⟩=>⟨v,k,m,r _ _ o⟩⟩
theorem FC.mono{P:Program}{args:Array Value}{H:zV}{R a:zk}(h:FC P d args H R)(b: ∀v H',R v H'->a v H'):FC P d args H a:=
 h.elim (λh=> .inl (h.mono b)) (λh=> .inr (h.mono b))
theorem FE.of{P:Program}{first b args:Array Value}{H:zV}(d:Enters P j)(h:HC P j (first++args++b) H a):FE P (.func (.func j) first b) args H a:=⟨j,first,b,rfl,d,h⟩
theorem FE.of2{P:Program}{first b args d:Array Value}{H:zV}(g:Enters P j)(f:first++args++b=d)(h:HC P j d H a):FE P (.func (.func j) first b) args H a:=.of g (f▸h)
theorem FC.of{P:Program}{first b args:Array Value}{H:zV}(d:Enters P j)(h:HC P j (first++args++b) H a):FC P (.func (.func j) first b) args H a:=.inl (.of d h)
theorem yd{P:Program}{first a args:Array Value}{w:World}(b:Enters P j):(qh (.func (.func j) first a) args).run P w=.ok (.enter j (first++args++a)) w:=by
 have h:=b (first++args++a) w;simpa[qh,Deferred.ofValue,invoke]using h
theorem tV{P:Program}{l:Nat}{args:Array Value}{w:World}:(qh (.func (.yield l) #[] #[]) args).run P w=(Instr.yield l args).run P w:=by
 simp[qh,Deferred.ofValue,invoke]
section
variable {P:Program} {n:Nat} {w0:World} {e e':Env} {H H':zV} {Q:Exit->Act->World->Prop} {K:Act->World->Prop} {c x y:Code}
theorem mJ{o:Oper}{D:Act}{w:World}{args:Array Value}{E:Option Tmp}{K:Act->World->Prop}(p:o.dst=E)(q:(o.semAt (BW ro).round D.eval).run P w=(qh d args).run P w)
  (m:FC P d args w.heap a) (h: ∀v j,Same w j->a v j.heap->K (D.put E v) j):o.wpIn (BW ro) 0 P D w K Q:=by
 refine⟨λ_ _=>trivial,?_⟩;rw[q];subst p;rcases m with⟨f,first,u,rfl,C,m⟩ | ⟨l,rfl,m⟩
 ·rw[yd C];simp only[Oper.uponIn];refine⟨λs=>(by cases s),Gk (show CallsIn (BW ro) _ P f _ w _ from Gl.2 (m w rfl)) λz j ⟨v,g,t,r⟩=>?_⟩;subst g;exact h v j t r
 ·obtain⟨fn,tmps,b,k,A,B⟩:=m w rfl;rw[tV,A];simp only[Oper.uponIn];refine⟨λs=>(by cases s),RoundIn.mono (show RoundIn (BW ro) _ P l fn tmps b k w _ from B) λz j ⟨v,g,t,r⟩=>?_⟩;subst g;exact h v j t r
theorem ng{ops:Array Oper}{i:Nat}(d:Option Tmp)(p:Value)(args:Array Value)(z: ∀w,dU P ops i e w=some (d,(qh p args).run P w))(r:FC P p args H a)
  (h: ∀v H',a v H'-> ∃e',fM n e d v e'/\ms ro P n ds w0 ops (i+1) e' H' Q):ms ro P n ds w0 ops i e H Q:=λB w k u t=>by
 obtain⟨o,s,f,m,g,j⟩:=iY (z w);rw[s];unfold wpListIn;rw[k.wanted f];simp only[EE];refine mJ (ro:=ro) g (by rw[k.sem m,j]) (by rw[u];exact r) λv A b q=>?_;obtain⟨e',l,hk⟩:=h v _ q;exact hk _ _ (k.putSub l) rfl (t.trans b)
theorem zi{ops:Array Oper}{f:Nat}{L:Array Bool}(i:Nat)(d:Option Tmp)(r:Array Bool)(B:Value)(args:Array Value)(z:Region.ready .any ops L=[i])(N: ∀w,dU P ops i e w=some (d,(qh B args).run P w))(g:FC P B args H a)(E:L.setIfInBounds i true=r)
  (h: ∀v H',a v H'-> ∃e',fM n e d v e'/\aP b r H'/\u5 ro P n ds w0 ops b f r e' H' Q):u5 ro P n ds w0 ops b (f+1) L e H Q:=λR w s M J G _=>by
 obtain⟨o,I,l,u,m,q⟩:=jE (N w);refine⟨λC=>(by rw[z]at C;cases C),λj D=>?_⟩;have A:i∈Region.ready .any ops L:=by rw[z];simp
 rw[z]at D;obtain rfl:j=i:=by simpa using D
 unfold wpOpIn;simp only[I];rw[s.wanted l];simp only[EE];refine mJ (ro:=ro) m (by rw[s.sem u,q]) (by rw[M];exact g) λv O k F=>?_;obtain⟨e',t,p,hk⟩:=h v _ F;subst E;exact⟨aP.ok p,hk _ _ (s.putSub t) rfl (J.trans k) (G.set A) (aP.ok p)⟩
def rU(fn:FuncId)(tm:Array Value)(ps:Array Tmp)(assign body:Code)(D:Nat):LoopState->Option Code->Obj:=λst pe=> .loop {state:=st,pending:=pe,fn,tmps:=tm,params:=ps,assign,body,defers:=D}
def tW(rc:LoopState->Option Code->Obj):Prop:= ∃fn tm ps assign body D,rc=rU fn tm ps assign body D
def me(e:Env):List Tmp->List Value->Env
 | t::ts,v::vs=>me ((t,v)::e) ts vs
 | _,_=>e
theorem nr: ∀(a:List Tmp) (vs:List Value) (e:Env) (b:Array Value),Agree n ds e {tmps:=b,defers:=ds}->a.all (λt=>Nat.blt t n)=true->
  Agree n ds (me e a vs) {tmps:=(a.zip vs).foldl (λtmps p=>tmps.setIfInBounds p.1 p.2) b,defers:=ds}
 | [],_,e,b,h,_=>by simpa[me]using h
 | t::a,[],e,b,h,_=>by simpa[me]using h
 | t::a,v::vs,e,b,h,hn=>by
  simp only[List.all_cons,EF]at hn;simp only[me,List.zip_cons_cons,List.foldl_cons];refine nr a vs _ _ ?_ hn.2;have f:=h.put (d:=some t) (v:=v) (e':=(t,v)::e) (by simp[u3,hn.1]);exact f
theorem rq(w:World)(l:Nat)(o:Obj):(w.putObj l o).heap=bR w.heap l o:=rfl
theorem wu{g:LoopState->Option Code->Obj}{l:Nat}(f:tW g)(q:H[l]?=some (g .ready none))
  (h: ∀j,j=bR H l (g .busy none)->At n [] w0 e j (x.wpR (some l) P (roundPost P l (Cj a w0)))):
  At n [] w0 e H (λs w=> ∃o,(Instr.beginRound l).run P w=.ok () o/\x.wpR (some l) P (roundPost P l (Cj a w0)) s o):=λs w p m d=>by
 obtain⟨fn,r,ps,b,k,D,rfl⟩:=f;refine⟨_,run_beginRound (by rw[m];exact q) rfl,h _ rfl _ _ p (by rw[rq,m];rfl) ⟨d.os,d.tape,d.output,d.drawn⟩⟩
theorem rV{j:LoopState->Option Code->Obj}{l:Nat}{w:World}(b:Option Code)(g:tW j)(o:w.heap[l]?=some (j .busy none))(f:Same w0 w)
  (h:a (.bool b.isNone) (bR w.heap l (j (if b.isNone then .ready else .done) b))): ∃v m,(Instr.endRound l b).run P w=.ok v m/\Cj a w0 (.returned v) m:=by
 obtain⟨fn,p,ps,d,k,D,rfl⟩:=g;exact⟨_,_,run_endRound b o,_,rfl,⟨f.os,f.tape,f.output,f.drawn⟩,h⟩
theorem rW{d:LoopState->Option Code->Obj}{l:Nat}(b:tW d)(g:H[l]?=some (d .busy none))(h:a VT (bR H l (d .ready none))):At n ds w0 e H (roundPost P l (Cj a w0) .normal):=λm w k f j=>
 rV none b (by rw[f];exact g) j (by rw[f];exact h)
theorem Ao{d:LoopState->Option Code->Obj}{l:Nat}(b:tW d)(g:H[l]?=some (d .busy none))(h:a VF (bR H l (d .done (some .ret)))):At n ds w0 e H (roundPost P l (Cj a w0) .ret):=λm w k f j=>
 rV (some .ret) b (by rw[f];exact g) j (by rw[f];exact h)
theorem u6{v:Act}{ps:Array Tmp}{b d:Code}{D l:Nat}{args:Array Value}(m:Agree n ds e v)(f:ps.toList.all (λt=>Nat.blt t n)=true)(g:args.size=ps.size)(u:H[l]?=some (rU j v.tmps ps b d D .ready none))
  (h: ∀q,At n [] q (me e ps.toList args.toList) H (b.wpR (some l) P (Exit.then (λv w=> ∃r,(Instr.beginRound l).run P w=.ok () r/\d.wpR (some l) P (roundPost P l (Cj a q)) v r) (λ_ _ _=>False)))):
  FC P (.func (.yield l) #[] #[]) args H a:=by
 refine .inr ⟨l,rfl,λw o=>⟨_,_,_,_,run_yield (by rw[o];exact u) g,?_⟩⟩;refine roundIn_of_wpIn (F:=Fence.wide) trivial ?_;refine h w _ w ?_ o (Fy w);have k:=nr (n:=n) (ds:=[]) ps.toList args.toList e v.tmps ⟨m.size,rfl,m.vals⟩ f
 have s:(ps.zip args).foldl (λtmps (x:Tmp×Value)=>tmps.setIfInBounds x.1 x.2) v.tmps=(ps.toList.zip args.toList).foldl (λtmps p=>tmps.setIfInBounds p.1 p.2) v.tmps:=by
  rw[<-Array.foldl_toList,Array.toList_zip]
 rw[<-s]at k;exact k
theorem wx{g:Operand}{ps:Array Tmp}{assign body:Code}(L:Value)(R:c=.rangeFunc g ps assign body)(U:jP e g=some L)(G:ps.toList.all (λt=>Nat.blt t n)=true)
  (h: ∀(r:LoopState->Option Code->Obj) (l:Nat) (J:zV),tW r->l=H.size+1->J=(H.push (.deferred (some []))).push (r .ready none)->
   (∀(args:Array Value) (H':zV) (B:zk),args.size=ps.size->H'[l]?=some (r .ready none)->
    (∀M,At n [] M (me e ps.toList args.toList) H' (assign.wpR (some l) P (Exit.then (λa w=> ∃N,(Instr.beginRound l).run P w=.ok () N/\body.wpR (some l) P (roundPost P l (Cj B M)) a N) (λ_ _ _=>False))))->
    FC P (.func (.yield l) #[] #[]) args H' B)->
   FE P L #[.func (.yield l) #[] #[]] J (λ_ z=>
    (z[l]?=some (r .ready none)/\ ∀s,s=bR z l (r .exhausted none)->At n ({target:=.collected H.size,args:= #[]}::ds) w0 e s (Q .normal))\/
    (∃j,z[l]?=some (r .done (some j))/\ ∀s,s=bR z l (r .exhausted (some j))->At n ({target:=.collected H.size,args:= #[]}::ds) w0 e s (j.wpR none P Q)))):
  At n ds w0 e H (c.wpR none P Q):=λa w m A X=>by
 rw[R];refine wpIn_rangeFunc λfn T=>?_
 obtain⟨f,first,d,rfl,S,p⟩:=h (rU fn a.tmps ps assign body w.heap.size) (w.heap.size+1) ((w.heap.push (.deferred (some []))).push (rU fn a.tmps ps assign body w.heap.size .ready none)) ⟨_,_,_,_,_,_,rfl⟩ (by rw[A]) (by rw[A])
  (λargs H' B I u W=>u6 m G I u W)
 have F:=m.eval U;obtain⟨k,o⟩: ∃k,(w.alloc (.deferred (some []))).alloc (rU fn a.tmps ps assign body w.heap.size .ready none)=k:=⟨_,rfl⟩;have C:k.heap=(w.heap.push (.deferred (some []))).push (rU fn a.tmps ps assign body w.heap.size .ready none):=by rw[<-o];rfl
 have D:Same w k:=by rw[<-o];exact⟨rfl,rfl,rfl,Er _⟩
 refine⟨w.heap.size+1,[{target:=.collected w.heap.size,args:= #[]}],k,{target:=.fn (.func f) d,args:=first++ #[.func (.yield (w.heap.size+1)) #[] #[]]},k,f,first++ #[.func (.yield (w.heap.size+1)) #[] #[]]++d,k,by rw[<-o];exact run_enterLoop_outer _ _ _ _ _,?_,?_,?_,λV=>(by cases V),?_⟩
 ·have hm:(rangeCall g (w.heap.size+1)).args.map a.eval= #[.func (.yield (w.heap.size+1)) #[] #[]]:=by simp[rangeCall,Act.eval]
  show(Deferred.ofValue (a.eval g) ((rangeCall g (w.heap.size+1)).args.map a.eval)).run P k=_;rw[hm,F];rfl
 ·intro _ _;trivial
 ·have:=S (first++ #[.func (.yield (w.heap.size+1)) #[] #[]]++d);simpa[invoke]using this _
 ·refine Gk (Gl.2 (p k C)) λZ Y ⟨v,E,q,O⟩=>?_;subst E;have b:Same w0 Y:=(X.trans D).trans q;rcases O with⟨u,hk⟩ | ⟨j,u,hk⟩
  ·refine⟨none,_,run_endLoop u GH,?_⟩;refine hk _ rfl _ _ ⟨m.size,?_,m.vals⟩ rfl ⟨b.os,b.tape,b.output,b.drawn⟩;simp[m.defers,A]
  ·refine⟨some j,_,run_endLoop u GH,?_⟩;refine hk _ rfl _ _ ⟨m.size,?_,m.vals⟩ rfl ⟨b.os,b.tape,b.output,b.drawn⟩;simp[m.defers,A]
end
abbrev pa(b:Nat):zW:=some (Addr.mk b 0 none)
theorem BL:(∀b:Bool,(true || b)=true)/\(∀b:Bool,(false || b)=b)/\(∀b:Bool,(b || true)=true)/\(∀b:Bool,(b || false)=b)/\(∀b:Bool,(true && b)=b)/\(∀b:Bool,(false && b)=false)/\(∀b:Bool,(b && true)=b)/\(∀b:Bool,(b && false)=false)/\((!true)=false)/\((!false)=true)/\(∀x y:Bool,cond true x y=x)/\(∀x y:Bool,cond false x y=y):=
 ⟨GH,GH,GH,GH,GH,GH,GH,GH,rfl,rfl,GH,GH⟩
abbrev ca(c:Code):Code:=Code.fa c
abbrev cb(c:Code):Code:=Code.fb c
def bv(n m:Nat):Array Bool:=((List.range n).map λi=>m.testBit i).toArray
abbrev ad(b:Nat):Addr:=Addr.mk b 0 none
abbrev DR(a b:Int)(c:Bool)(d:zW)(e f:Nat)(g:ByteArray)(i:zW)(j k:Nat):List Value:=[vi a,.int .i32 b,.bool c,vs d e f,.string g,vs i j k]
def mN(k:Nat)(l:List Nat):Bool:=l.foldr (λx r=>cond (Nat.beq x k) true r) false
def ed(d:List Nat)(a:Env)(e:Env):Env:=e.foldr (λp r=>cond (mN p.1 d) r (p::r)) a
theorem l2{P:Program}{fn:Func}(c:Code)(n:Nat){args:Array Value}{H:zV}{R:zk}(f:P.funcs[j]?=some fn)
  (h: ∀(w0:World) (Q:Exit->Act->World->Prop),(∀a w,kn P fn w0 R a w->Q .ret a w/\Q .normal a w)->At n [] w0 (CE 0 args.toList) H (c.wpR none P Q)) (d:fn.body=some c:=by kernel_rfl) (hn:fn.ntmps=n:=by kernel_rfl) (b:Nat.ble args.size n=true:=by kernel_rfl):HC P j args H R:=
 zf n f d hn (Nat.le_of_ble_eq_true b) h
section
variable {P:Program} {n:Nat} {ds:List Deferred} {ro:Option Nat} {w0:World} {e:Env} {H:zV} {Q Q':Exit->Act->World->Prop} {K:Act->World->Prop} {c:Code} {ops:Array Oper} {i:Nat}
theorem sk{e' e:Env}(h:e'.map (λp=>e.get p.1)=e'.map (λp=>some p.2):=by kernel_rfl):Sub e' e:=h
theorem pk{n:Nat}{e:Env}{b:Option Nat}{e':Env}(h:(u3 n e b d).map (λa=>e'.map (λp=>a.get p.1))=some (e'.map (λp=>some p.2)):=by kernel_rfl):fM n e b d e':=h
theorem DU(id:Nat)(x y:Code)(h:ms ro P n ds w0 (Code.ops x) 0 e H (Exit.then (y.wpR ro P Q) Q))(a:c=.seq x y:=by kernel_rfl)(b:x=.region id (Code.ops x) false:=by kernel_rfl):At n ds w0 e H (c.wpR ro P Q):=
 xS x y a (pX id (Code.ops x) b h)
theorem ue(h:At n ds w0 e H K)(a:ops.toList.drop i=[]:=by kernel_rfl):ms ro P n ds w0 ops i e H (Exit.then K Q):=wi a (aE h)
theorem nb(k:Nat)(e':Env)(h:ms ro P n ds w0 ops (i+k) e' H Q)(a: ∀w,Da e' (BX P n ops ((ops.toList.drop i).take k) e w)=keep e' w:=by intro _;kernel_rfl):ms ro P n ds w0 ops i e H Q:=wk k e' a h
theorem nx(k:Nat)(e':Env)(h:At n ds w0 e' H K)(b: ∀w,Da e' (BX P n ops ((ops.toList.drop i).take k) e w)=keep e' w:=by intro _;kernel_rfl)(a:ops.toList.drop (i+k)=[]:=by kernel_rfl):ms ro P n ds w0 ops i e H (Exit.then K Q):=
 wk k e' b (wi a (aE h))
theorem T_s(x y:Code)(h:At n ds w0 e H (x.wpR ro P (Exit.then (y.wpR ro P Q) Q)))(a:c=.seq x y:=by kernel_rfl):At n ds w0 e H (c.wpR ro P Q):=xS x y a h
theorem T_t(o:Tmp)(x y:Code)(h:At n ds w0 e H (x.wpR ro P Q))(a:c=.cond (.tmp o) x y:=by kernel_rfl)(b:jP e (.tmp o)=some (VT):=by kernel_rfl):At n ds w0 e H (c.wpR ro P Q):=nd (.tmp o) x y a b h
theorem T_f(o:Tmp)(x y:Code)(h:At n ds w0 e H (y.wpR ro P Q))(a:c=.cond (.tmp o) x y:=by kernel_rfl)(b:jP e (.tmp o)=some (VF):=by kernel_rfl):At n ds w0 e H (c.wpR ro P Q):=ma (.tmp o) x y a b h
theorem T_cT(o:Tmp)(x y:Code)(a:g=true)(h:At n ds w0 e H (x.wpR ro P Q))(b:c=.cond (.tmp o) x y:=by kernel_rfl)(d:jP e (.tmp o)=some (.bool g):=by kernel_rfl):At n ds w0 e H (c.wpR ro P Q):=nd (.tmp o) x y b (by rw[d,a]) h
theorem T_cF(o:Tmp)(x y:Code)(a:g=false)(h:At n ds w0 e H (y.wpR ro P Q))(b:c=.cond (.tmp o) x y:=by kernel_rfl)(d:jP e (.tmp o)=some (.bool g):=by kernel_rfl):At n ds w0 e H (c.wpR ro P Q):=ma (.tmp o) x y b (by rw[d,a]) h
theorem T_nT(o:Tmp)(x y:Code)(a:g=false)(h:At n ds w0 e H (x.wpR ro P Q))(b:c=.cond (.tmp o) x y:=by kernel_rfl)(d:jP e (.tmp o)=some (.bool (!g)):=by kernel_rfl):At n ds w0 e H (c.wpR ro P Q):=nd (.tmp o) x y b (by rw[d,a];rfl) h
theorem T_nF(o:Tmp)(x y:Code)(a:g=true)(h:At n ds w0 e H (y.wpR ro P Q))(b:c=.cond (.tmp o) x y:=by kernel_rfl)(d:jP e (.tmp o)=some (.bool (!g)):=by kernel_rfl):At n ds w0 e H (c.wpR ro P Q):=ma (.tmp o) x y b (by rw[d,a];rfl) h
theorem Bn(h:At n ds w0 e H (Q .normal))(a:c=.skip:=by kernel_rfl):At n ds w0 e H (c.wpR ro P Q):=xU a h
theorem kT(h:At n ds w0 e H K)(a:c=.skip:=by kernel_rfl):At n ds w0 e H (c.wpR ro P (Exit.then K Q)):=xU a (aE h)
theorem T_b(id:Nat)(x:Code)(h:At n ds w0 e H (x.wpR ro P (Exit.inBlock id Q)))(a:c=.block id x:=by kernel_rfl):At n ds w0 e H (c.wpR ro P Q):=wh id x a h
theorem T_r(id:Nat)(x:Code)(h:ms ro P n ds w0 (Code.ops x) 0 e H Q)(a:c=.region id (Code.ops x) false:=by kernel_rfl):At n ds w0 e H (c.wpR ro P Q):=pX id (Code.ops x) a h
theorem T_rq(id:Nat)(x:Code)(h:Bl P n ds w0 (Code.ops x) 0 e H Q)(b:c=.region id (Code.ops x) true:=by kernel_rfl)(hm:P.follows .mixedOrders=true:=by kernel_rfl)(a:Region.lexB .any (Code.ops x)=true:=by kernel_rfl):At n ds w0 e H (c.wpR none P Q):=rJ id (Code.ops x) b hm a h
theorem ki(e':Env)(h:At n ds w0 e' H K)(a:e'.map (λp=>e.get p.1)=e'.map (λp=>some p.2):=by kernel_rfl):At n ds w0 e H K:=xR e' a h
theorem BM(e':Env)(h:ms ro P n ds w0 ops i e' H Q)(a:e'.map (λp=>e.get p.1)=e'.map (λp=>some p.2):=by kernel_rfl):ms ro P n ds w0 ops i e H Q:=xW e' a h
theorem ix{fn:Func}(d:List Nat)(vs:List Value)(g: ∀o w,kn P fn w0 a o w->Q .ret o w/\Q .normal o w)(h:a (Cz vs) H)(j:c=.ret:=by kernel_rfl)(k:Q' .ret=Q .ret:=by exact rfl)
  (f:fn.results.toList=d.map .tmp:=by kernel_rfl) (b:d.map e.get=vs.map some:=by kernel_rfl):At n [] w0 e H (c.wpR ro P Q'):=by
 refine xV j ?_;rw[k];refine bY vs g ?_ h;rw[f];clear f h
 induction d generalizing vs with
 | nil=>cases vs with | nil=>exact .nil | cons v l=>cases b
 | cons t d m=>
  cases vs with
  | nil=>cases b
  | cons v l=>
   rw[List.map_cons,List.map_cons,Ga]at b;exact .tmp b.1 (m l b.2)
theorem BU(d:Option Tmp)(v:Value)(e':Env)(h:Bl P n ds w0 ops (i+1) e' H Q)(b:(ops.toList.drop i).head?.map (·.dst)=some d:=by kernel_rfl)
  (g: ∀w,((ops.toList.drop i).head?.bind λo=>qa P ops o e w)=some (v,w):=by intro _;kernel_rfl) (f:(u3 n e d v).map (λa=>e'.map (λp=>a.get p.1))=some (e'.map (λp=>some p.2)):=by kernel_rfl):Bl P n ds w0 ops i e H Q:=Ag v e' d b g f h
theorem Bk(h:At n ds w0 e H K)(a:ops.toList.drop i=[]:=by kernel_rfl):Bl P n ds w0 ops i e H (Exit.then K Q):=AH a (aE h)
theorem T_v(d:Option Tmp)(S:Sem Next)(v:Value)(b: ∀w,w.heap=H->S.run P w=.ok (.value v) w)(e':Env)(h:ms ro P n ds w0 ops (i+1) e' H Q)(g: ∀w,dU P ops i e w=some (d,S.run P w):=by intro _;kernel_rfl)
  (f:(u3 n e d v).map (λa=>e'.map (λp=>a.get p.1))=some (e'.map (λp=>some p.2)):=by kernel_rfl):ms ro P n ds w0 ops i e H Q:=rL d S v g b e' f h
theorem T_l(j:Option Tmp)(t:TypeId)(q:hat H k=some d)(e':Env)(h:ms ro P n ds w0 ops (i+1) e' H Q)(g: ∀w,dU P ops i e w=some (j,(aZ t (Vq k)).run P w):=by intro _;kernel_rfl)
  (f: ∀w,(isAgg t).run P w=.ok false w:=by intro _;kernel_rfl) (b:(u3 n e j d).map (λa=>e'.map (λp=>a.get p.1))=some (e'.map (λp=>some p.2)):=by kernel_rfl):ms ro P n ds w0 ops i e H Q:=
 rL j (aZ t (Vq k)) d g (jC (io f q)) e' b h
theorem CM(k:Option Tmp)(t:TypeId){a:Addr}(q:hat H a=some d)(e':Env)(h:Bl P n ds w0 ops (i+1) e' H Q)(j: ∀w,dU P ops i e w=some (k,(aZ t (Vq a)).run P w):=by intro _;kernel_rfl)
  (g: ∀w,(isAgg t).run P w=.ok false w:=by intro _;kernel_rfl) (f:(u3 n e k d).map (λb=>e'.map (λp=>b.get p.1))=some (e'.map (λp=>some p.2)):=by kernel_rfl):Bl P n ds w0 ops i e H Q:=
 Bc k (aZ t (Vq a)) d j (jC (io g q)) e' f h
theorem DX(d:Option Tmp)(t b l:Nat)(a:Addr)(f g:Nat)(k:IntKind)(j:Int)(s:P.underlying t=some (.slice b))(o:0<=j)(q:j<f)(e':Env)(h:ms ro P n ds w0 ops (i+1) e' H Q)
  (v: ∀w,(sizeOf b).run P w=.ok l w:=by intro _;kernel_rfl) (u: ∀w,dU P ops i e w=some (d,(bJ t (vs (some a) f g) (.int k j)).run P w):=by intro _;kernel_rfl)
  (r:(u3 n e d (Vq (a.add (Int.toNat j*l)))).map (λm=>e'.map (λp=>m.get p.1))=some (e'.map (λp=>some p.2)):=by kernel_rfl):ms ro P n ds w0 ops i e H Q:=
 rL d (bJ t (vs (some a) f g) (.int k j)) (Vq (a.add (Int.toNat j*l))) u (λw _=>dV s v o q w) e' r h
theorem BS{a:Nat}{L:Array Bool}(i:Nat)(d:Option Tmp)(v:Value)(k:Array Bool)(e':Env)(S:Sem Next)(q: ∀L w,Closed .any ops L->L.getD i true=false->fS b L w->S.run P w=.ok (.value v) w)
  (h:u5 ro P n ds w0 ops b a k e' H Q) (u: ∀w,dU P ops i e w=some (d,S.run P w):=by intro _;kernel_rfl)
  (t:(Region.ready .any ops L).contains i=true:=by kernel_rfl) (j:Region.noSelect ops=true:=by kernel_rfl) (g:ko ops=true:=by kernel_rfl) (s:Region.free .any ops L i=true:=by kernel_rfl) (l:b.all (λf=>f.1 !=i)=true:=by kernel_rfl) (o:L.setIfInBounds i true=k:=by kernel_rfl)
  (r:(u3 n e d v).map (λm=>e'.map (λp=>m.get p.1))=some (e'.map (λp=>some p.2)):=by kernel_rfl):u5 ro P n ds w0 ops b (a+1) L e H Q:=oI i d v k e' S u q t j g s l o r h
theorem Bs{args:Array Value}(d:Option Tmp)(b:HC P j args H a)(h: ∀v H',a v H'-> ∃e',fM n e d v e'/\ms ro P n ds w0 ops (i+1) e' H' Q)(f: ∀w,dU P ops i e w=some (d,.ok (.enter j args) w):=by intro _;kernel_rfl):ms ro P n ds w0 ops i e H Q:=Am d j args f b h
theorem l1(d:Option Tmp)(f:Nat->Value)(o:Obj)(h: ∀b H',b=H.size->H'=H.push o-> ∃e',fM n e d (f b) e'/\ms ro P n ds w0 ops (i+1) e' H' Q)(a: ∀w,dU P ops i e w=some (d,.ok (.value (f w.heap.size)) {w with heap:=w.heap.push o}):=by intro _;kernel_rfl):ms ro P n ds w0 ops i e H Q:=AJ d f o a h
theorem T_gs{a:Nat}{L:Array Bool}(i:Nat)(d:Option Tmp)(k:Array Bool)(e':Env)(h:u5 ro P n ds w0 ops b a k e' H Q)(u:(ops[i]?).bind (λo=>(lm ops e o).map (λv=>(o.dst,v)))=some (d,false):=by kernel_rfl)
  (t:(Region.ready .any ops L).contains i=true:=by kernel_rfl) (j:Region.noSelect ops=true:=by kernel_rfl) (g:ko ops=true:=by kernel_rfl) (s:Region.free .any ops L i=true:=by kernel_rfl) (l:b.all (λf=>f.1 !=i)=true:=by kernel_rfl) (q:L.setIfInBounds i true=k:=by kernel_rfl)
  (r:(u3 n e d undef).map (λm=>e'.map (λp=>m.get p.1))=some (e'.map (λp=>some p.2)):=by kernel_rfl):u5 ro P n ds w0 ops b (a+1) L e H Q:=xZ i d k e' u t j g s l q r h
theorem Bp{a:Nat}{L:Array Bool}(i:Nat)(d:Option Tmp)(v:Value)(k:Array Bool)(e':Env)
  (h:u5 ro P n ds w0 ops b a k e' H Q) (t: ∀w,dU P ops i e w=some (d,(pure (.value v):Sem Next).run P w):=by intro _;kernel_rfl)
  (s:(Region.ready .any ops L).contains i=true:=by kernel_rfl) (j:Region.noSelect ops=true:=by kernel_rfl) (g:ko ops=true:=by kernel_rfl) (r:Region.free .any ops L i=true:=by kernel_rfl) (l:b.all (λf=>f.1 !=i)=true:=by kernel_rfl) (o:L.setIfInBounds i true=k:=by kernel_rfl)
  (q:(u3 n e d v).map (λm=>e'.map (λp=>m.get p.1))=some (e'.map (λp=>some p.2)):=by kernel_rfl):u5 ro P n ds w0 ops b (a+1) L e H Q:=oI i d v k e' (pure (.value v)) t (λ_ _ _ _ _=>rfl) s j g r l o q h
theorem fd(k:Nat)(b:List Nat)(a:Env)(h:ms ro P n ds w0 ops (i+k) (ed b a e) H Q)(d: ∀w,Da (ed b a e) (BX P n ops ((ops.toList.drop i).take k) e w)=keep (ed b a e) w:=by intro _;kernel_rfl):ms ro P n ds w0 ops i e H Q:=wk k _ d h
theorem gi(k:Nat)(b:List Nat)(a:Env)(h:At n ds w0 (ed b a e) H K)(f: ∀w,Da (ed b a e) (BX P n ops ((ops.toList.drop i).take k) e w)=keep (ed b a e) w:=by intro _;kernel_rfl)(d:ops.toList.drop (i+k)=[]:=by kernel_rfl):ms ro P n ds w0 ops i e H (Exit.then K Q):=
 wk k _ f (wi d (aE h))
theorem CP(b:List Nat)(a:Env)(h:At n ds w0 (ed b a e) H K)(d:(ed b a e).map (λp=>e.get p.1)=(ed b a e).map (λp=>some p.2):=by kernel_rfl):At n ds w0 e H K:=xR _ d h
theorem p0(b:List Nat)(a:Env)(h:ms ro P n ds w0 ops i (ed b a e) H Q)(d:(ed b a e).map (λp=>e.get p.1)=(ed b a e).map (λp=>some p.2):=by kernel_rfl):ms ro P n ds w0 ops i e H Q:=xW _ d h
theorem DC(d:Option Tmp)(v:Value)(b:List Nat)(a:Env)(h:Bl P n ds w0 ops (i+1) (ed b a e) H Q)(g:(ops.toList.drop i).head?.map (·.dst)=some d:=by kernel_rfl)
  (k: ∀w,((ops.toList.drop i).head?.bind λo=>qa P ops o e w)=some (v,w):=by intro _;kernel_rfl) (j:(u3 n e d v).map (λf=>(ed b a e).map (λp=>f.get p.1))=some ((ed b a e).map (λp=>some p.2)):=by kernel_rfl):Bl P n ds w0 ops i e H Q:=Ag v _ d g k j h
theorem Dm(d:Option Tmp)(S:Sem Next)(v:Value)(g: ∀w,w.heap=H->S.run P w=.ok (.value v) w)(b:List Nat)(a:Env)(h:ms ro P n ds w0 ops (i+1) (ed b a e) H Q)(k: ∀w,dU P ops i e w=some (d,S.run P w):=by intro _;kernel_rfl)
  (j:(u3 n e d v).map (λf=>(ed b a e).map (λp=>f.get p.1))=some ((ed b a e).map (λp=>some p.2)):=by kernel_rfl):ms ro P n ds w0 ops i e H Q:=rL d S v k g _ j h
theorem Cp(m:Option Tmp)(t:TypeId)(q:hat H k=some d)(b:List Nat)(a:Env)(h:ms ro P n ds w0 ops (i+1) (ed b a e) H Q)(l: ∀w,dU P ops i e w=some (m,(aZ t (Vq k)).run P w):=by intro _;kernel_rfl)
  (j: ∀w,(isAgg t).run P w=.ok false w:=by intro _;kernel_rfl) (g:(u3 n e m d).map (λf=>(ed b a e).map (λp=>f.get p.1))=some ((ed b a e).map (λp=>some p.2)):=by kernel_rfl):ms ro P n ds w0 ops i e H Q:=
 rL m (aZ t (Vq k)) d l (jC (io j q)) _ g h
theorem lw(m:Option Tmp)(t:TypeId){a:Addr}(q:hat H a=some d)(f:List Nat)(b:Env)(h:Bl P n ds w0 ops (i+1) (ed f b e) H Q)(l: ∀w,dU P ops i e w=some (m,(aZ t (Vq a)).run P w):=by intro _;kernel_rfl)
  (k: ∀w,(isAgg t).run P w=.ok false w:=by intro _;kernel_rfl) (j:(u3 n e m d).map (λg=>(ed f b e).map (λp=>g.get p.1))=some ((ed f b e).map (λp=>some p.2)):=by kernel_rfl):Bl P n ds w0 ops i e H Q:=
 Bc m (aZ t (Vq a)) d l (jC (io k q)) _ j h
theorem ww(d:Option Tmp)(t elem sz:Nat)(a:Addr)(b f:Nat)(k:IntKind)(j:Int)(s:P.underlying t=some (.slice elem))(o:0<=j)(q:j<b)(l:List Nat)(g:Env)(h:ms ro P n ds w0 ops (i+1) (ed l g e) H Q)
  (v: ∀w,(sizeOf elem).run P w=.ok sz w:=by intro _;kernel_rfl) (u: ∀w,dU P ops i e w=some (d,(bJ t (vs (some a) b f) (.int k j)).run P w):=by intro _;kernel_rfl)
  (r:(u3 n e d (Vq (a.add (Int.toNat j*sz)))).map (λm=>(ed l g e).map (λp=>m.get p.1))=some ((ed l g e).map (λp=>some p.2)):=by kernel_rfl):ms ro P n ds w0 ops i e H Q:=
 rL d (bJ t (vs (some a) b f) (.int k j)) (Vq (a.add (Int.toNat j*sz))) u (λw _=>dV s v o q w) _ r h
theorem T_gd{a:Nat}{L:Array Bool}(i:Nat)(d:Option Tmp)(v:Value)(k:Array Bool)(m:List Nat)(l:Env)(S:Sem Next)(s: ∀L w,Closed .any ops L->L.getD i true=false->fS b L w->S.run P w=.ok (.value v) w)
  (h:u5 ro P n ds w0 ops b a k (ed m l e) H Q) (A: ∀w,dU P ops i e w=some (d,S.run P w):=by intro _;kernel_rfl)
  (z:(Region.ready .any ops L).contains i=true:=by kernel_rfl) (j:Region.noSelect ops=true:=by kernel_rfl) (g:ko ops=true:=by kernel_rfl) (u:Region.free .any ops L i=true:=by kernel_rfl) (o:b.all (λf=>f.1 !=i)=true:=by kernel_rfl) (r:L.setIfInBounds i true=k:=by kernel_rfl)
  (t:(u3 n e d v).map (λq=>(ed m l e).map (λp=>q.get p.1))=some ((ed m l e).map (λp=>some p.2)):=by kernel_rfl):u5 ro P n ds w0 ops b (a+1) L e H Q:=oI i d v k _ S A s z j g u o r t h
theorem cP{a:Nat}{L:Array Bool}(i:Nat)(d:Option Tmp)(k:Array Bool)(m:List Nat)(l:Env)(h:u5 ro P n ds w0 ops b a k (ed m l e) H Q)(w:(ops[i]?).bind (λo=>(lm ops e o).map (λz=>(o.dst,z)))=some (d,false):=by kernel_rfl)
  (v:(Region.ready .any ops L).contains i=true:=by kernel_rfl) (j:Region.noSelect ops=true:=by kernel_rfl) (g:ko ops=true:=by kernel_rfl) (u:Region.free .any ops L i=true:=by kernel_rfl) (q:b.all (λf=>f.1 !=i)=true:=by kernel_rfl) (s:L.setIfInBounds i true=k:=by kernel_rfl)
  (t:(u3 n e d undef).map (λr=>(ed m l e).map (λp=>r.get p.1))=some ((ed m l e).map (λp=>some p.2)):=by kernel_rfl):u5 ro P n ds w0 ops b (a+1) L e H Q:=xZ i d k _ w v j g u q s t h
theorem AY{a:Nat}{L:Array Bool}(i:Nat)(d:Option Tmp)(v:Value)(k:Array Bool)(m:List Nat)(l:Env)
  (h:u5 ro P n ds w0 ops b a k (ed m l e) H Q) (z: ∀w,dU P ops i e w=some (d,(pure (.value v):Sem Next).run P w):=by intro _;kernel_rfl)
  (u:(Region.ready .any ops L).contains i=true:=by kernel_rfl) (j:Region.noSelect ops=true:=by kernel_rfl) (g:ko ops=true:=by kernel_rfl) (t:Region.free .any ops L i=true:=by kernel_rfl) (o:b.all (λf=>f.1 !=i)=true:=by kernel_rfl) (r:L.setIfInBounds i true=k:=by kernel_rfl)
  (s:(u3 n e d v).map (λq=>(ed m l e).map (λp=>q.get p.1))=some ((ed m l e).map (λp=>some p.2)):=by kernel_rfl):u5 ro P n ds w0 ops b (a+1) L e H Q:=oI i d v k _ (pure (.value v)) z (λ_ _ _ _ _=>rfl) u j g t o r s h
theorem im{o:Option Tmp}{v:Value}{K:Env->Prop}(b:List Nat)(a:Env)(h:K (ed b a e))(f:(u3 n e o v).map (λd=>(ed b a e).map (λp=>d.get p.1))=some ((ed b a e).map (λp=>some p.2)):=by kernel_rfl): ∃e',fM n e o v e'/\K e':=⟨_,f,h⟩
theorem l5{r:FuncId}{args:Array Value}{α:Type}{F:α->Value}{R:α->zV->Prop}(k:Nat)(dl:List Nat)(a:HC P r args H (λv H'=> ∃x1,v=F x1/\R x1 H'))(h: ∀x1 H',R x1 H'->ms ro P n ds w0 ops (i+1) (ed dl [(k,F x1)] e) H' Q)(b: ∀w,dU P ops i e w=some (some k,.ok (.enter r args) w):=by intro _;kernel_rfl)(c: ∀x1,(u3 n e (some k) (F x1)).map (λe1=>(ed dl [(k,F x1)] e).map (λp=>e1.get p.1))=some ((ed dl [(k,F x1)] e).map (λp=>some p.2)):=by intros;kernel_rfl):ms ro P n ds w0 ops i e H Q:=Bs (some k) a (λ_ H' ⟨x1,q,h'⟩=>by subst q;exact⟨_,c x1,h x1 H' h'⟩) b
theorem vr{r:FuncId}{args:Array Value}{α β:Type}{F:α->β->Value}{R:α->β->zV->Prop}(k:Nat)(dl:List Nat)(a:HC P r args H (λv H'=> ∃x1 x2,v=F x1 x2/\R x1 x2 H'))(h: ∀x1 x2 H',R x1 x2 H'->ms ro P n ds w0 ops (i+1) (ed dl [(k,F x1 x2)] e) H' Q)(b: ∀w,dU P ops i e w=some (some k,.ok (.enter r args) w):=by intro _;kernel_rfl)(c: ∀x1 x2,(u3 n e (some k) (F x1 x2)).map (λe1=>(ed dl [(k,F x1 x2)] e).map (λp=>e1.get p.1))=some ((ed dl [(k,F x1 x2)] e).map (λp=>some p.2)):=by intros;kernel_rfl):ms ro P n ds w0 ops i e H Q:=Bs (some k) a (λ_ H' ⟨x1,x2,q,h'⟩=>by subst q;exact⟨_,c x1 x2,h x1 x2 H' h'⟩) b
theorem BO{r:FuncId}{args:Array Value}{α β γ:Type}{F:α->β->γ->Value}{R:α->β->γ->zV->Prop}(k:Nat)(dl:List Nat)(a:HC P r args H (λv H'=> ∃x1 x2 x3,v=F x1 x2 x3/\R x1 x2 x3 H'))(h: ∀x1 x2 x3 H',R x1 x2 x3 H'->ms ro P n ds w0 ops (i+1) (ed dl [(k,F x1 x2 x3)] e) H' Q)(b: ∀w,dU P ops i e w=some (some k,.ok (.enter r args) w):=by intro _;kernel_rfl)(c: ∀x1 x2 x3,(u3 n e (some k) (F x1 x2 x3)).map (λe1=>(ed dl [(k,F x1 x2 x3)] e).map (λp=>e1.get p.1))=some ((ed dl [(k,F x1 x2 x3)] e).map (λp=>some p.2)):=by intros;kernel_rfl):ms ro P n ds w0 ops i e H Q:=Bs (some k) a (λ_ H' ⟨x1,x2,x3,q,h'⟩=>by subst q;exact⟨_,c x1 x2 x3,h x1 x2 x3 H' h'⟩) b
theorem C4{r:FuncId}{args:Array Value}{α β γ δ:Type}{F:α->β->γ->δ->Value}{R:α->β->γ->δ->zV->Prop}(k:Nat)(dl:List Nat)(a:HC P r args H (λv H'=> ∃x1 x2 x3 x4,v=F x1 x2 x3 x4/\R x1 x2 x3 x4 H'))(h: ∀x1 x2 x3 x4 H',R x1 x2 x3 x4 H'->ms ro P n ds w0 ops (i+1) (ed dl [(k,F x1 x2 x3 x4)] e) H' Q)(b: ∀w,dU P ops i e w=some (some k,.ok (.enter r args) w):=by intro _;kernel_rfl)(c: ∀x1 x2 x3 x4,(u3 n e (some k) (F x1 x2 x3 x4)).map (λe1=>(ed dl [(k,F x1 x2 x3 x4)] e).map (λp=>e1.get p.1))=some ((ed dl [(k,F x1 x2 x3 x4)] e).map (λp=>some p.2)):=by intros;kernel_rfl):ms ro P n ds w0 ops i e H Q:=Bs (some k) a (λ_ H' ⟨x1,x2,x3,x4,q,h'⟩=>by subst q;exact⟨_,c x1 x2 x3 x4,h x1 x2 x3 x4 H' h'⟩) b
theorem Cm{r:FuncId}{args:Array Value}{α β γ δ ε:Type}{F:α->β->γ->δ->ε->Value}{R:α->β->γ->δ->ε->zV->Prop}(k:Nat)(dl:List Nat)(a:HC P r args H (λv H'=> ∃x1 x2 x3 x4 x5,v=F x1 x2 x3 x4 x5/\R x1 x2 x3 x4 x5 H'))(h: ∀x1 x2 x3 x4 x5 H',R x1 x2 x3 x4 x5 H'->ms ro P n ds w0 ops (i+1) (ed dl [(k,F x1 x2 x3 x4 x5)] e) H' Q)(b: ∀w,dU P ops i e w=some (some k,.ok (.enter r args) w):=by intro _;kernel_rfl)(c: ∀x1 x2 x3 x4 x5,(u3 n e (some k) (F x1 x2 x3 x4 x5)).map (λe1=>(ed dl [(k,F x1 x2 x3 x4 x5)] e).map (λp=>e1.get p.1))=some ((ed dl [(k,F x1 x2 x3 x4 x5)] e).map (λp=>some p.2)):=by intros;kernel_rfl):ms ro P n ds w0 ops i e H Q:=Bs (some k) a (λ_ H' ⟨x1,x2,x3,x4,x5,q,h'⟩=>by subst q;exact⟨_,c x1 x2 x3 x4 x5,h x1 x2 x3 x4 x5 H' h'⟩) b
theorem B7{r:FuncId}{args:Array Value}{α β γ δ ε ζ η θ:Type}{F:α->β->γ->δ->ε->ζ->η->θ->Value}{R:α->β->γ->δ->ε->ζ->η->θ->zV->Prop}(k:Nat)(dl:List Nat)(a:HC P r args H (λv H'=> ∃x1 x2 x3 x4 x5 x6 x7 x8,v=F x1 x2 x3 x4 x5 x6 x7 x8/\R x1 x2 x3 x4 x5 x6 x7 x8 H'))(h: ∀x1 x2 x3 x4 x5 x6 x7 x8 H',R x1 x2 x3 x4 x5 x6 x7 x8 H'->ms ro P n ds w0 ops (i+1) (ed dl [(k,F x1 x2 x3 x4 x5 x6 x7 x8)] e) H' Q)(b: ∀w,dU P ops i e w=some (some k,.ok (.enter r args) w):=by intro _;kernel_rfl)(c: ∀x1 x2 x3 x4 x5 x6 x7 x8,(u3 n e (some k) (F x1 x2 x3 x4 x5 x6 x7 x8)).map (λe1=>(ed dl [(k,F x1 x2 x3 x4 x5 x6 x7 x8)] e).map (λp=>e1.get p.1))=some ((ed dl [(k,F x1 x2 x3 x4 x5 x6 x7 x8)] e).map (λp=>some p.2)):=by intros;kernel_rfl):ms ro P n ds w0 ops i e H Q:=Bs (some k) a (λ_ H' ⟨x1,x2,x3,x4,x5,x6,x7,x8,q,h'⟩=>by subst q;exact⟨_,c x1 x2 x3 x4 x5 x6 x7 x8,h x1 x2 x3 x4 x5 x6 x7 x8 H' h'⟩) b
theorem BD{r:FuncId}{args:Array Value}{α:Type}{F:α->Value}{R:α->zV->Prop}(k:Nat)(E:α->Env)(a:HC P r args H (λv H'=> ∃x1,v=F x1/\R x1 H'))(h: ∀x1 H',R x1 H'->ms ro P n ds w0 ops (i+1) (E x1) H' Q)(b: ∀w,dU P ops i e w=some (some k,.ok (.enter r args) w):=by intro _;kernel_rfl)(c: ∀x1,(u3 n e (some k) (F x1)).map (λe1=>(E x1).map (λp=>e1.get p.1))=some ((E x1).map (λp=>some p.2)):=by intros;kernel_rfl):ms ro P n ds w0 ops i e H Q:=Bs (some k) a (λ_ H' ⟨x1,q,h'⟩=>by subst q;exact⟨_,c x1,h x1 H' h'⟩) b
theorem Bh{r:FuncId}{args:Array Value}{α β:Type}{F:α->β->Value}{R:α->β->zV->Prop}(k:Nat)(E:α->β->Env)(a:HC P r args H (λv H'=> ∃x1 x2,v=F x1 x2/\R x1 x2 H'))(h: ∀x1 x2 H',R x1 x2 H'->ms ro P n ds w0 ops (i+1) (E x1 x2) H' Q)(b: ∀w,dU P ops i e w=some (some k,.ok (.enter r args) w):=by intro _;kernel_rfl)(c: ∀x1 x2,(u3 n e (some k) (F x1 x2)).map (λe1=>(E x1 x2).map (λp=>e1.get p.1))=some ((E x1 x2).map (λp=>some p.2)):=by intros;kernel_rfl):ms ro P n ds w0 ops i e H Q:=Bs (some k) a (λ_ H' ⟨x1,x2,q,h'⟩=>by subst q;exact⟨_,c x1 x2,h x1 x2 H' h'⟩) b
theorem Dc{r:FuncId}{args:Array Value}{α β γ:Type}{F:α->β->γ->Value}{R:α->β->γ->zV->Prop}(k:Nat)(E:α->β->γ->Env)(a:HC P r args H (λv H'=> ∃x1 x2 x3,v=F x1 x2 x3/\R x1 x2 x3 H'))(h: ∀x1 x2 x3 H',R x1 x2 x3 H'->ms ro P n ds w0 ops (i+1) (E x1 x2 x3) H' Q)(b: ∀w,dU P ops i e w=some (some k,.ok (.enter r args) w):=by intro _;kernel_rfl)(c: ∀x1 x2 x3,(u3 n e (some k) (F x1 x2 x3)).map (λe1=>(E x1 x2 x3).map (λp=>e1.get p.1))=some ((E x1 x2 x3).map (λp=>some p.2)):=by intros;kernel_rfl):ms ro P n ds w0 ops i e H Q:=Bs (some k) a (λ_ H' ⟨x1,x2,x3,q,h'⟩=>by subst q;exact⟨_,c x1 x2 x3,h x1 x2 x3 H' h'⟩) b
theorem DN{r:FuncId}{args:Array Value}{α β γ δ:Type}{F:α->β->γ->δ->Value}{R:α->β->γ->δ->zV->Prop}(k:Nat)(E:α->β->γ->δ->Env)(a:HC P r args H (λv H'=> ∃x1 x2 x3 x4,v=F x1 x2 x3 x4/\R x1 x2 x3 x4 H'))(h: ∀x1 x2 x3 x4 H',R x1 x2 x3 x4 H'->ms ro P n ds w0 ops (i+1) (E x1 x2 x3 x4) H' Q)(b: ∀w,dU P ops i e w=some (some k,.ok (.enter r args) w):=by intro _;kernel_rfl)(c: ∀x1 x2 x3 x4,(u3 n e (some k) (F x1 x2 x3 x4)).map (λe1=>(E x1 x2 x3 x4).map (λp=>e1.get p.1))=some ((E x1 x2 x3 x4).map (λp=>some p.2)):=by intros;kernel_rfl):ms ro P n ds w0 ops i e H Q:=Bs (some k) a (λ_ H' ⟨x1,x2,x3,x4,q,h'⟩=>by subst q;exact⟨_,c x1 x2 x3 x4,h x1 x2 x3 x4 H' h'⟩) b
theorem C0{r:FuncId}{args:Array Value}{α β γ δ ε:Type}{F:α->β->γ->δ->ε->Value}{R:α->β->γ->δ->ε->zV->Prop}(k:Nat)(E:α->β->γ->δ->ε->Env)(a:HC P r args H (λv H'=> ∃x1 x2 x3 x4 x5,v=F x1 x2 x3 x4 x5/\R x1 x2 x3 x4 x5 H'))(h: ∀x1 x2 x3 x4 x5 H',R x1 x2 x3 x4 x5 H'->ms ro P n ds w0 ops (i+1) (E x1 x2 x3 x4 x5) H' Q)(b: ∀w,dU P ops i e w=some (some k,.ok (.enter r args) w):=by intro _;kernel_rfl)(c: ∀x1 x2 x3 x4 x5,(u3 n e (some k) (F x1 x2 x3 x4 x5)).map (λe1=>(E x1 x2 x3 x4 x5).map (λp=>e1.get p.1))=some ((E x1 x2 x3 x4 x5).map (λp=>some p.2)):=by intros;kernel_rfl):ms ro P n ds w0 ops i e H Q:=Bs (some k) a (λ_ H' ⟨x1,x2,x3,x4,x5,q,h'⟩=>by subst q;exact⟨_,c x1 x2 x3 x4 x5,h x1 x2 x3 x4 x5 H' h'⟩) b
theorem DO{r:FuncId}{args:Array Value}{α β γ δ ε ζ η θ:Type}{F:α->β->γ->δ->ε->ζ->η->θ->Value}{R:α->β->γ->δ->ε->ζ->η->θ->zV->Prop}(k:Nat)(E:α->β->γ->δ->ε->ζ->η->θ->Env)(a:HC P r args H (λv H'=> ∃x1 x2 x3 x4 x5 x6 x7 x8,v=F x1 x2 x3 x4 x5 x6 x7 x8/\R x1 x2 x3 x4 x5 x6 x7 x8 H'))(h: ∀x1 x2 x3 x4 x5 x6 x7 x8 H',R x1 x2 x3 x4 x5 x6 x7 x8 H'->ms ro P n ds w0 ops (i+1) (E x1 x2 x3 x4 x5 x6 x7 x8) H' Q)(b: ∀w,dU P ops i e w=some (some k,.ok (.enter r args) w):=by intro _;kernel_rfl)(c: ∀x1 x2 x3 x4 x5 x6 x7 x8,(u3 n e (some k) (F x1 x2 x3 x4 x5 x6 x7 x8)).map (λe1=>(E x1 x2 x3 x4 x5 x6 x7 x8).map (λp=>e1.get p.1))=some ((E x1 x2 x3 x4 x5 x6 x7 x8).map (λp=>some p.2)):=by intros;kernel_rfl):ms ro P n ds w0 ops i e H Q:=Bs (some k) a (λ_ H' ⟨x1,x2,x3,x4,x5,x6,x7,x8,q,h'⟩=>by subst q;exact⟨_,c x1 x2 x3 x4 x5 x6 x7 x8,h x1 x2 x3 x4 x5 x6 x7 x8 H' h'⟩) b
theorem kc(k:Nat){b v:Bool}(a:b=v)(h:ms ro P n ds w0 ops i (ed [k] [(k,.bool v)] e) H Q)(d:(ed [k] [(k,.bool b)] e).map (λp=>e.get p.1)=(ed [k] [(k,.bool b)] e).map (λp=>some p.2):=by kernel_rfl):ms ro P n ds w0 ops i e H Q:=by
 subst a;exact xW _ d h
theorem n7(k:Nat){b v:Bool}(a:b=v)(h:At n ds w0 (ed [k] [(k,.bool v)] e) H K)(d:(ed [k] [(k,.bool b)] e).map (λp=>e.get p.1)=(ed [k] [(k,.bool b)] e).map (λp=>some p.2):=by kernel_rfl):At n ds w0 e H K:=by
 subst a;exact xR _ d h
theorem Bd(k:Nat){v:Bool}(a:g=v)(h:Bl P n ds w0 ops i (ed [k] [(k,.bool v)] e) H Q)(b:(ed [k] [(k,.bool g)] e).map (λp=>e.get p.1)=(ed [k] [(k,.bool g)] e).map (λp=>some p.2):=by kernel_rfl):Bl P n ds w0 ops i e H Q:=by
 subst a;exact iQ _ b h
theorem BJ{d:Facts}{a:Nat}{L:Array Bool}(k:Nat){b v:Bool}(f:b=v)(h:u5 ro P n ds w0 ops d a L (ed [k] [(k,.bool v)] e) H Q)(g:(ed [k] [(k,.bool b)] e).map (λp=>e.get p.1)=(ed [k] [(k,.bool b)] e).map (λp=>some p.2):=by kernel_rfl):u5 ro P n ds w0 ops d a L e H Q:=by
 subst f;exact gm _ g h
theorem bF{g:Nat}(t:TypeId)(vs:List Value)(q:aF H k 0 g)(h: ∀H',H'=aL H k vs 0-> ∃e',fM n e none undef e'/\ms ro P n ds w0 ops (i+1) e' H' Q)(f: ∀w,dU P ops i e w=some (none,(jR t (Vq k) (.agg vs.toArray)).run P w):=by intro _;kernel_rfl)
  (d:(Value.agg vs.toArray).cells.toList=vs:=by kernel_rfl) (hk:vs.length=g:=by kernel_rfl) (hn: ∀w,(sizeOf t).run P w=.ok g w:=by intro _;kernel_rfl) (b:kF vs=true:=by kernel_rfl):ms ro P n ds w0 ops i e H Q:=
 pZ none (jR t (Vq k) (.agg vs.toArray)) (λa=>a=aL H k vs 0) f (ji vs g d hk hn b q) h
theorem fj{a:Addr}{k:Nat}(t:TypeId)(v:Value)(q:aF H a 0 k)(h: ∀H',H'=aL H a [v] 0-> ∃e',fM n e none undef e'/\ms ro P n ds w0 ops (i+1) e' H' Q)(g: ∀w,dU P ops i e w=some (none,(jR t (Vq a) v).run P w):=by intro _;kernel_rfl)
  (f:v.cells.toList=[v]:=by kernel_rfl) (hk:[v].length=k:=by kernel_rfl) (hn: ∀w,(sizeOf t).run P w=.ok k w:=by intro _;kernel_rfl) (d:kF [v]=true:=by kernel_rfl):ms ro P n ds w0 ops i e H Q:=
 pZ none (jR t (Vq a) v) (λb=>b=aL H a [v] 0) g (ji [v] k f hk hn d q) h
theorem ar(id:Nat)(h:ms ro P n ds w0 (Code.ops (ca c)) 0 e H (Exit.then ((cb c).wpR ro P Q) Q))(a:c=.seq (ca c) (cb c):=by kernel_rfl)(b:ca c=.region id (Code.ops (ca c)) false:=by kernel_rfl):At n ds w0 e H (c.wpR ro P Q):=DU id (ca c) (cb c) h a b
theorem gv(h:At n ds w0 e H ((ca c).wpR ro P (Exit.then ((cb c).wpR ro P Q) Q)))(a:c=.seq (ca c) (cb c):=by kernel_rfl):At n ds w0 e H (c.wpR ro P Q):=xS (ca c) (cb c) a h
theorem l7(o:Tmp)(h:At n ds w0 e H ((ca c).wpR ro P Q))(a:c=.cond (.tmp o) (ca c) (cb c):=by kernel_rfl)(b:jP e (.tmp o)=some (VT):=by kernel_rfl):At n ds w0 e H (c.wpR ro P Q):=nd (.tmp o) _ _ a b h
theorem pN(o:Tmp)(h:At n ds w0 e H ((cb c).wpR ro P Q))(a:c=.cond (.tmp o) (ca c) (cb c):=by kernel_rfl)(b:jP e (.tmp o)=some (VF):=by kernel_rfl):At n ds w0 e H (c.wpR ro P Q):=ma (.tmp o) _ _ a b h
theorem aH(o:Tmp){b:Bool}(a:b=true)(h:At n ds w0 e H ((ca c).wpR ro P Q))(d:c=.cond (.tmp o) (ca c) (cb c):=by kernel_rfl)(f:jP e (.tmp o)=some (.bool b):=by kernel_rfl):At n ds w0 e H (c.wpR ro P Q):=nd (.tmp o) _ _ d (by rw[f,a]) h
theorem aG(o:Tmp)(a:g=false)(h:At n ds w0 e H ((cb c).wpR ro P Q))(b:c=.cond (.tmp o) (ca c) (cb c):=by kernel_rfl)(d:jP e (.tmp o)=some (.bool g):=by kernel_rfl):At n ds w0 e H (c.wpR ro P Q):=ma (.tmp o) _ _ b (by rw[d,a]) h
theorem AZ(o:Tmp)(a:g=false)(h:At n ds w0 e H ((ca c).wpR ro P Q))(b:c=.cond (.tmp o) (ca c) (cb c):=by kernel_rfl)(d:jP e (.tmp o)=some (.bool (!g)):=by kernel_rfl):At n ds w0 e H (c.wpR ro P Q):=nd (.tmp o) _ _ b (by rw[d,a];rfl) h
theorem Ba(o:Tmp)(a:g=true)(h:At n ds w0 e H ((cb c).wpR ro P Q))(b:c=.cond (.tmp o) (ca c) (cb c):=by kernel_rfl)(d:jP e (.tmp o)=some (.bool (!g)):=by kernel_rfl):At n ds w0 e H (c.wpR ro P Q):=ma (.tmp o) _ _ b (by rw[d,a];rfl) h
theorem k5(id:Nat)(h:At n ds w0 e H ((ca c).wpR ro P (Exit.inBlock id Q)))(a:c=.block id (ca c):=by kernel_rfl):At n ds w0 e H (c.wpR ro P Q):=wh id _ a h
theorem k4(id:Nat)(h:ms ro P n ds w0 (Code.ops c) 0 e H Q)(a:c=.region id (Code.ops c) false:=by kernel_rfl):At n ds w0 e H (c.wpR ro P Q):=pX id (Code.ops c) a h
theorem mO(id:Nat)(h:Bl P n ds w0 (Code.ops c) 0 e H Q)(b:c=.region id (Code.ops c) true:=by kernel_rfl)(hm:P.follows .mixedOrders=true:=by kernel_rfl)(a:Region.lexB .any (Code.ops c)=true:=by kernel_rfl):At n ds w0 e H (c.wpR none P Q):=rJ id (Code.ops c) b hm a h
theorem hV(k:Nat)(t:TypeId){a:Addr}{v:Value}(q:hat H a=some v)(b:List Nat)(h:ms ro P n ds w0 ops (i+1) (ed b [(k,v)] e) H Q)(j: ∀w,dU P ops i e w=some (some k,(aZ t (Vq a)).run P w):=by intro _;kernel_rfl)
  (g: ∀w,(isAgg t).run P w=.ok false w:=by intro _;kernel_rfl) (f:(u3 n e (some k) v).map (λd=>(ed b [(k,v)] e).map (λp=>d.get p.1))=some ((ed b [(k,v)] e).map (λp=>some p.2)):=by kernel_rfl):ms ro P n ds w0 ops i e H Q:=Cp (some k) t q b [(k,v)] h j g f
theorem na(j:Nat)(t:TypeId){vs:List Value}(q:aI H k 0 vs)(a:List Nat)(h:ms ro P n ds w0 ops (i+1) (ed a [(j,.agg vs.toArray)] e) H Q)(g: ∀w,dU P ops i e w=some (some j,(aZ t (Vq k)).run P w):=by intro _;kernel_rfl)
  (f: ∀w,(isAgg t).run P w=.ok true w:=by intro _;kernel_rfl) (hn: ∀w,(sizeOf t).run P w=.ok vs.length w:=by intro _;kernel_rfl) (d:(u3 n e (some j) (.agg vs.toArray)).map (λb=>(ed a [(j,.agg vs.toArray)] e).map (λp=>b.get p.1))=some ((ed a [(j,.agg vs.toArray)] e).map (λp=>some p.2)):=by kernel_rfl):ms ro P n ds w0 ops i e H Q:=
 Dm (some j) (aZ t (Vq k)) (.agg vs.toArray) (jC (aR f hn q)) a [(j,.agg vs.toArray)] h g d
theorem hX(k:Nat)(v:Value)(a:List Nat)(h:Bl P n ds w0 ops (i+1) (ed a [(k,v)] e) H Q)(d:(ops.toList.drop i).head?.map (·.dst)=some (some k):=by kernel_rfl)
  (g: ∀w,((ops.toList.drop i).head?.bind λo=>qa P ops o e w)=some (v,w):=by intro _;kernel_rfl) (f:(u3 n e (some k) v).map (λb=>(ed a [(k,v)] e).map (λp=>b.get p.1))=some ((ed a [(k,v)] e).map (λp=>some p.2)):=by kernel_rfl):Bl P n ds w0 ops i e H Q:=DC (some k) v a [(k,v)] h d g f
theorem wd(k:Nat)(S:Sem Next)(v:Value)(d: ∀w,w.heap=H->S.run P w=.ok (.value v) w)(a:List Nat)(h:ms ro P n ds w0 ops (i+1) (ed a [(k,v)] e) H Q)(g: ∀w,dU P ops i e w=some (some k,S.run P w):=by intro _;kernel_rfl)
  (f:(u3 n e (some k) v).map (λb=>(ed a [(k,v)] e).map (λp=>b.get p.1))=some ((ed a [(k,v)] e).map (λp=>some p.2)):=by kernel_rfl):ms ro P n ds w0 ops i e H Q:=Dm (some k) S v d a [(k,v)] h g f
theorem lb{a:Nat}{L:Array Bool}(i:Nat)(k:Nat)(v:Value)(j:Array Bool)(l:List Nat)(S:Sem Next)(r: ∀L w,Closed .any ops L->L.getD i true=false->fS b L w->S.run P w=.ok (.value v) w)
  (h:u5 ro P n ds w0 ops b a j (ed l [(k,v)] e) H Q) (z: ∀w,dU P ops i e w=some (some k,S.run P w):=by intro _;kernel_rfl)
  (u:(Region.ready .any ops L).contains i=true:=by kernel_rfl) (g:Region.noSelect ops=true:=by kernel_rfl) (d:ko ops=true:=by kernel_rfl) (t:Region.free .any ops L i=true:=by kernel_rfl) (m:b.all (λf=>f.1 !=i)=true:=by kernel_rfl) (q:L.setIfInBounds i true=j:=by kernel_rfl)
  (s:(u3 n e (some k) v).map (λo=>(ed l [(k,v)] e).map (λp=>o.get p.1))=some ((ed l [(k,v)] e).map (λp=>some p.2)):=by kernel_rfl):u5 ro P n ds w0 ops b (a+1) L e H Q:=oI i (some k) v j _ S z r u g d t m q s h
theorem aM{a:Nat}{L:Array Bool}(i:Nat)(k:Nat)(v:Value)(j:Array Bool)(l:List Nat)
  (h:u5 ro P n ds w0 ops b a j (ed l [(k,v)] e) H Q) (u: ∀w,dU P ops i e w=some (some k,(pure (.value v):Sem Next).run P w):=by intro _;kernel_rfl)
  (t:(Region.ready .any ops L).contains i=true:=by kernel_rfl) (g:Region.noSelect ops=true:=by kernel_rfl) (d:ko ops=true:=by kernel_rfl) (s:Region.free .any ops L i=true:=by kernel_rfl) (m:b.all (λf=>f.1 !=i)=true:=by kernel_rfl) (q:L.setIfInBounds i true=j:=by kernel_rfl)
  (r:(u3 n e (some k) v).map (λo=>(ed l [(k,v)] e).map (λp=>o.get p.1))=some ((ed l [(k,v)] e).map (λp=>some p.2)):=by kernel_rfl):u5 ro P n ds w0 ops b (a+1) L e H Q:=oI i (some k) v j _ (pure (.value v)) u (λ_ _ _ _ _=>rfl) t g d s m q r h
theorem hH{fn:Func}{R:zk}{d:Exit->Act->World->Prop}(k:Nat)(b:List Nat)(vs:List Value)(f: ∀a w,kn P fn w0 R a w->Q .ret a w/\Q .normal a w)(h:R (Cz vs) H)(o: ∀w,Da (b.zip vs) (BX P n ops ((ops.toList.drop i).take k) e w)=keep (b.zip vs) w:=by intro _;kernel_rfl)(l:ops.toList.drop (i+k)=[]:=by kernel_rfl)(g:c=.ret:=by kernel_rfl)(m:Q' .ret=Q .ret:=by exact rfl)
  (j:fn.results.toList=b.map .tmp:=by kernel_rfl) (p:b.map (Env.get (b.zip vs))=vs.map some:=by kernel_rfl):ms ro P n [] w0 ops i e H (Exit.then (c.wpR ro P Q') d):=nx k (b.zip vs) (ix b vs f h g m j p) o l
end
variable{a:zk}{b:Array Value}
def HD(P:Program)(f:FuncId)(args:Array Value)(H:zV)(R:zV->Prop):Prop:=
 ∀w,w.heap=H->CallsDIn Fence.wide 0 P f args .returning w (λen u w'=>u=.returning/\ ∃v,en=.returned v/\Same w w'/\R w'.heap)
theorem HD.mono{P:Program}{f:FuncId}{H:zV}{R a:zV->Prop}(h:HD P f b H R)(i: ∀H',R H'->a H'):HD P f b H a:=
 λw l=>(h w l).mono λ_ _ _ ⟨k,v,g,j,d⟩=>⟨k,v,g,j,i _ d⟩
def nh(f:FuncId)(args:Array Value):Deferred:={target:=.fn (.func f) #[],args:=args}
section
variable {P:Program} {n:Nat} {w0:World} {e e':Env} {H H':zV} {Q:Exit->Act->World->Prop} {K:Act->World->Prop} {c x y:Code} {ds:List Deferred} {ro:Option Nat}
theorem ye{f:FuncId}{fn:Func}{R:zk}(n:Nat)(p:P.funcs[f]?=some fn)(m:fn.body=some c)(hn:fn.ntmps=n)(q:b.size<=n)
  (h: ∀(w0:World) (Q:Exit->Act->World->Prop),
   (∀a w,a.defers=[]->kn P fn w0 R a w->Q .ret a w/\Q .normal a w)->At n [] w0 (CE 0 b.toList) H (c.wpR none P Q)):HD P f b H (λH'=> ∃v,R v H'):=λw A=>by
 refine(callsDIn_of_wp (R:=λk i=> ∃v,k=.returned v/\Same w i/\R v i.heap) p m trivial (n:=0) ?_).mono ?_
 ·refine h w (bodyPost P fn _) (λa i j g=>?_) _ _ ?_ A (Fy w)
  ·unfold kn at g;rw[j]at g;exact⟨⟨j,g⟩,⟨j,g⟩⟩
  ·refine⟨?_,rfl,λt v z=>?_⟩
   ·simp only[Array.size_append,Array.size_replicate];omega
   ·obtain⟨_,d⟩:=qb _ _ _ _ z;simp only[Nat.sub_zero,Array.getElem?_toList]at d;show(b++Array.replicate (fn.ntmps-b.size) undef)[t]?=some v
    have:t<b.size:=by
     rcases EC t b.size with h | h
     ·exact h
     ·rw[Array.getElem?_eq_none h]at d;cases d
    rw[Array.getElem?_append_left this];exact d
 ·rintro k u i ⟨s,v,o,r,l⟩;exact⟨s,v,o,r,v,l⟩
theorem zl{fn:Func}(vs:List Value)
  (f: ∀l w,l.defers=[]->kn P fn w0 a l w->Q .ret l w/\Q .normal l w)
  (b:bG P H e fn.results.toList vs) (h:a (Cz vs) H):At n [] w0 e H (Q .ret):=λl w d j i=>
 (f l w d.defers (by unfold kn;rw[d.defers];exact Shut.leave (λk vs g=>g.run d rfl) [] w i (by rw[j];exact⟨vs,b,h⟩))).1
theorem yf{fn:Func}(vs:List Value)
  (f: ∀l w,l.defers=[]->kn P fn w0 a l w->Q .ret l w/\Q .normal l w)
  (b:bG P H e fn.results.toList vs) (h:a (Cz vs) H):At n [] w0 e H (Q .normal):=λl w d j i=>
 (f l w d.defers (by unfold kn;rw[d.defers];exact Shut.leave (λk vs g=>g.run d rfl) [] w i (by rw[j];exact⟨vs,b,h⟩))).2
def Ai(P:Program)(ops:Array Oper)(i:Nat)(e:Env)(w:World):Option (Option Tmp×Result Next):=
 match ops.toList.drop i with
 | []=>none
 | o::_=>
  match lm ops e o with
  | some true=>bif (match o.op with | .select .. =>false | _=>true) && allIn e o.op.operands.toList then some (o.dst,(execOp (CB e) o).run P w)else none
  | _=>none
theorem zm{j:Array Oper}{i:Nat}(d:Option Tmp)(f:FuncId)(args:Array Value)(A: ∀w,Ai P j i e w=some (d,.ok (.defer (nh f args)) w))(e':Env)(D:fM n e d undef e')
  (h:ms none P n (nh f args::ds) w0 j (i+1) e' H Q):ms none P n ds w0 j i e H Q:=λa w s F z=>by
 have k:=A w;unfold Ai at k
 cases t:j.toList.drop i with
 | nil=>simp[t]at k
 | cons o l=>
  simp only[t]at k
  cases m:lm j e o with
  | none=>simp[m]at k
  | some b=>
   cases b with
   | false=>simp[m]at k
   | true=>
    simp only[m]at k;by_cases g:((match o.op with | .select .. =>false | _=>true) && allIn e o.op.operands.toList)=true
    ·rw[g]at k;simp only[cond_true,EQ,EX]at k;obtain⟨q,r⟩:=k;rw[EF]at g
     have u:execOp a.eval o=execOp (CB e) o:=by
      refine execOp_congr o (λG b z=>by rw[z]at g;simp at g) λx A=>?_;have C:=oG g.2 x (by simpa using A);obtain⟨v,B⟩:=FQ.1 C;rw[s.eval B];simp[CB,B]
     have E:j.toList.drop (i+1)=l:=by rw[<-FH,t];rfl
     unfold wpListIn;rw[s.wanted m];simp only[EE];refine⟨λ_ _=>trivial,?_⟩;rw[show o.semAt (BW none).round a.eval=execOp a.eval o from rfl,u,r];simp only[Oper.uponIn];rw[q];have p:=s.putSub D;have:=h ({a with defers:=nh f args::a.defers}.put d undef) w ⟨by cases d<;>exact p.size,by cases d<;>(show _::a.defers=_;rw[s.defers]),by cases d<;>exact p.vals⟩ F z;rw[E]at this;exact this
    ·rw[Bool.not_eq_true]at g;rw[g]at k;simp at k
theorem leaveD{fn:Func}{f:FuncId}(j:Enters P f){r:Act}{w:World}(g:Agree n [nh f b] e r)(m:w.heap=H)(l:Same w0 w)
  (h:HD P f b H (λH'=> ∃vs,bG P H' e fn.results.toList vs/\a (Cz vs) H')):kn P fn w0 a r w:=by
 unfold kn;rw[g.defers];refine⟨GH,.inr ⟨λq=>by simp[Fence.wide]at q,.func f,#[],f,b,rfl,?_,λ_ _=>trivial,?_⟩⟩
 ·have:=j b w;simpa[invoke,nh]using this
 ·refine(h w m).mono ?_;rintro p u o ⟨rfl,v,rfl,d,vs,k,i⟩;show LeavesInM Fence.wide 0 P fn r.tmps _ [] (settle .returning) o;exact⟨_,k.run g rfl,_,rfl,l.trans d,i⟩
theorem zn{fn:Func}{f:FuncId}{args:Array Value}(g:Enters P f)(b: ∀k w,kn P fn w0 a k w->Q .ret k w/\Q .normal k w)
  (h:HD P f args H (λH'=> ∃vs,bG P H' e fn.results.toList vs/\a (Cz vs) H')):At n [nh f args] w0 e H (Q .ret):=λk w d j i=>(b k w (leaveD g d j i h)).1
end
def Exit.jump(l:Nat)(J:Act->World->Prop)(Q:Exit->Act->World->Prop):Exit->Act->World->Prop
 | .goto l',a,w=>l'=l/\J a w
 | e,a,w=>Q e a w
def pQ(P:Program)(x:Code)(l:Nat)(Q:Exit->Act->World->Prop)(a:Act)(w:World):Prop:=
 ∀r,findLabel x l=some r-> ∀b k cs,∃e a₁ w₁,Q e a₁ w₁/\Arrives P (lone (b.at a (.code r::.inScope x::k)) cs w) b k cs e a₁ w₁
section
variable {P:Program} {n:Nat} {w0:World} {e e':Env} {H H':zV} {Q:Exit->Act->World->Prop} {K:Act->World->Prop} {c x y:Code} {ds:List Deferred} {ro:Option Nat}
theorem rr{l:Nat}{a:Act}{w:World}(u:(findLabel x l).isSome=true)(h:x.wp P (Exit.jump l (pQ P x l Q) Q) a w):(Code.scope x).wp P Q a w:=by
 obtain⟨r,q⟩:=FQ.1 u;intro b k p;obtain⟨e,i,m,g,d⟩:=h b (.inScope x::k) p
 cases e with
 | normal=>exact⟨.normal,i,m,g,.head step_scope (Steps.trans d (.one step_inScope))⟩
 | exit id=>exact⟨.exit id,i,m,g,λv hk=> .head step_scope (d v (by simp[exitTo,hk]))⟩
 | goto B=>
  obtain⟨rfl,j⟩:=g;obtain⟨t,s,z,o,f⟩:=j r q b k p;exact⟨t,s,z,o,.of_steps (.head step_scope (d _ (by simp[gotoIn,q]))) f⟩
 | ret=>exact⟨_,i,m,g,.of_steps (.one step_scope) d⟩
 | panic A=>exact⟨_,i,m,g,.of_steps (.one step_scope) d⟩
 | outgrown=>exact⟨_,i,m,g,.of_steps (.one step_scope) d⟩
theorem u9{l:Nat}{B:Code}(t:findLabel x l=some (.seq .skip B))(I:Act->World->Prop)(μ:Act->World->Nat)(round: ∀a w,I a w->B.wp P (Exit.jump l (λj m=>I j m/\μ j m<μ a w) Q) a w):
  ∀(k:Nat) (a:Act) (w:World),μ a w=k->I a w->pQ P x l Q a w:=by
 intro k
 induction k using Nat.strongRecOn with
 | ind k E=>
  intro a w hk D r u b v s;obtain rfl:Code.seq .skip B=r:=FN (t.symm.trans u);have C:(Code.seq .skip B).wp P (Exit.jump l (λj m=>I j m/\μ j m<μ a w) Q) a w:=wp_seq (wp_skip (round a w D));obtain⟨e,g,i,h,d⟩:=C b (.inScope x::v) s
  cases e with
  | normal=>exact⟨.normal,g,i,h,Steps.trans d (.one step_inScope)⟩
  | exit id=>exact⟨.exit id,g,i,h,λF hk=>d F (by simp[exitTo,hk])⟩
  | goto L=>
   obtain⟨rfl,o,p⟩:=h;obtain⟨A,z,G,q,f⟩:=E _ (hk▸p) g i rfl o _ u b v s;exact⟨A,z,G,q,.of_steps (d _ (by simp[gotoIn,t])) f⟩
  | ret=>exact⟨_,g,i,h,d⟩
  | panic J=>exact⟨_,g,i,h,d⟩
  | outgrown=>exact⟨_,g,i,h,d⟩
theorem yh(x:Code)(l:Nat)(d:c=.scope x)(f:(findLabel x l).isSome=true)(h:At n ds w0 e H (x.wpR none P (Exit.jump l (pQ P x l Q) Q))):At n ds w0 e H (c.wpR none P Q):=
 λa w b i g=>by
  rw[d];exact wpIn_wide.2 (rr f (wpIn_wide.1 (h a w b i g)))
theorem yi(l:Nat)(B:Code)(d:Env)(I:zV->Prop)(μ:zV->Nat)(v:c=.seq (.label l) B)(A:findLabel x l=some (.seq .skip B))(h:I H)(z:Sub d e)
  (round: ∀H',I H'->At n ds w0 d H' (B.wpR none P (Exit.jump l (λa w=>Agree n ds d a/\Same w0 w/\I w.heap/\μ w.heap<μ H') Q))):
  At n ds w0 e H (c.wpR none P (Exit.jump l (pQ P x l Q) Q)):=λa w i C j=>by
 have key: ∀a w,(Agree n ds d a/\Same w0 w/\I w.heap)->B.wp P (Exit.jump l (λp k=>(Agree n ds d p/\Same w0 k/\I k.heap)/\μ k.heap<μ w.heap) Q) a w:=by
  rintro a w ⟨i,j,h⟩;refine wp_mono (wpIn_wide.1 (round w.heap h a w i rfl j)) ?_;intro g m o b
  cases g with
  | goto D=>
   obtain⟨rfl,r,s,t,u⟩:=b;exact⟨rfl,⟨r,s,t⟩,u⟩
  | normal=>exact b
  | exit id=>exact b
  | ret=>exact b
  | panic q=>exact b
  | outgrown=>exact b
 have f:=u9 (x:=x) A (λa w=>Agree n ds d a/\Same w0 w/\I w.heap) (λ_ w=>μ w.heap) key;rw[v];refine wpIn_wide.2 (wp_seq (wp_label ?_));refine wp_mono (key a w ⟨i.sub z,j,C▸h⟩) ?_;intro g m o b
 cases g with
 | goto D=>exact⟨b.1,f _ m o rfl b.2.1⟩
 | normal=>exact b
 | exit id=>exact b
 | ret=>exact b
 | panic q=>exact b
 | outgrown=>exact b
end
