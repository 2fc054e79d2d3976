/-
 Maps whose keys are numbers or strings, said of heaps. Proves nothing of any one program.
-/
import Derived.Test.YtmlhlkbpglcccaaGreatOwn
set_option linter.unusedVariables false
set_option linter.unusedSimpArgs false
namespace Go.Proofs.YtmlhlkbpglcccaaGreat
open Go

structure mz (α:Type) [DecidableEq α]where
 cell:α->Value
 desc:TypeDesc
 same: ∀a b,Instr.sameNow desc (cell a) (cell b)=some (decide (a=b))
 bits: ∀a,Instr.sameBits 10000 (cell a) (cell a)=true
 plain: ∀(P:Program) (t:TypeId) (e:Bool) (w:World) (a:α),P.underlying t=some desc->(Instr.checkKey e 10000 t (cell a)).run P w=.ok () w
def cV(k:IntKind):mz Int where
 cell:=Value.int k
 desc:=.int k
 same a b:=by
  simp only[Instr.sameNow,if_true,Option.some.injEq]
  by_cases h:a=b<;>simp[h]
 bits a:=by simp[Instr.sameBits]
 plain P t e w a h:=by
  unfold Instr.checkKey
  rw[run_bind_ok (x:=TypeDesc.int k) (w':=w) (by simp[underlying,program,Sem.run,h,Sem.run_bind,pure,Result.andThen])]
  rfl
section
variable {α:Type} [DecidableEq α] (kk:mz α)
def Ents(es:List MapEntry)(ks:List (α×Value)):Prop:=es.map (λe=>(e.key,e.val))=ks.map (λp=>(kk.cell p.1,p.2))
def mget(ks:List (α×Value))(k:α):Option Value:=(ks.find? (λp=>decide (k=p.1))).map (·.2)
def mput:List (α×Value)->α->Value->List (α×Value)
 | [],k,v=> [(k,v)]
 | p::r,k,v=>if k=p.1 then(k,v)::r else p::mput r k v
theorem fV{k:α}: ∀(es:List MapEntry) (ks:List (α×Value)) (i:Nat),Ents kk es ks-> ∃r:Option (Nat×Value),Instr.findNow kk.desc (kk.cell k) es i=some r/\r.map (·.2)=mget ks k/\
  (∀j v,r=some (j,v)->i<=j/\ ∃e,es[j-i]?=some e/\e.key=kk.cell k/\ ∀v',Ents kk (es.modify (j-i) λe=>{e with key:=kk.cell k,val:=v'}) (mput ks k v'))/\
  (r=none-> ∀v' b,Ents kk (es++[{key:=kk.cell k,val:=v',born:=b}]) (mput ks k v'))
 | [],[],i,_=>⟨none,rfl,rfl,λ_ _ h=>(by cases h),λ_ v' b=>rfl⟩
 | [],_::_,_,h=>by simp[Ents]at h
 | _::_,[],_,h=>by simp[Ents]at h
 | e::es,p::ks,i,h=>by
  have h':=h
  simp only[Ents,List.map_cons,List.cons.injEq,Prod.mk.injEq]at h
  obtain⟨⟨hk,hv⟩,hr⟩:=h
  unfold Instr.findNow
  rw[hk,kk.same]
  by_cases hp:k=p.1
  ·rw[zX hp]
   refine⟨some (i,e.val),rfl,by simp[mget,hp,hv],λj v hj=>?_,λh=>by cases h⟩
   cases hj
   refine⟨Nat.le_refl _,e,by simp,by rw[hk,hp],λv'=>?_⟩
   rw[Nat.sub_self]
   simp only[mput,if_pos hp]
   simp[Ents,hr]
  ·rw[zQ hp]
   obtain⟨r,q1,q2,q3,q4⟩:=fV (k:=k) es ks (i+1) hr
   refine⟨r,q1,by rw[q2];simp[mget,hp],λj v hj=>?_,λhn v' b=>?_⟩
   ·obtain⟨g1,e',g2,g3,g4⟩:=q3 j v hj
    have hji:j-i=(j-(i+1))+1:=by omega
    refine⟨by omega,e',by rw[hji];simpa using g2,g3,λv'=>?_⟩
    have:=g4 v'
    rw[hji]
    simp only[mput,if_neg hp]
    simp only[Ents,List.modify_succ_cons,List.map_cons]at this⊢
    rw[this,hk,hv]
   ·have:=q4 hn v' b
    simp only[mput,if_neg hp]
    simp only[Ents,List.cons_append,List.map_cons]at this⊢
    rw[this,hk,hv]

def iy(t:TypeId)(x i:Value)(ok:Bool):Sem Next:=do pure (.value (<-Instr.lookup t x i ok))
def jk(t:TypeId)(m k v:Value):Sem Next:=do Instr.mapUpdate t m k v;pure .skip
variable {kk}
variable {P:Program} {w:World}
theorem fH{r:Nat}{es:Array MapEntry}{cl:Nat}(h:w.heap[r]?=some (.map es cl)):(getObj r).run P w=.ok (.map es cl) w:=by
 show Sem.run P (Sem.getObj r Sem.pure) w=_
 simp only[Sem.run,h]
theorem gi{r:Nat}{es:Array MapEntry}{cl:Nat}{o:Obj}(h:w.heap[r]?=some (.map es cl)):(setObj r o).run P w=.ok () {w with heap:=w.heap.setIfInBounds r o}:=by
 show Sem.run P (Sem.setObj r o (Sem.pure ())) w=_
 simp only[Sem.run,h]
theorem eE{t:TypeId}{d:TypeDesc}(h:P.underlying t=some d):(underlying t).run P w=.ok d w:=by
 simp[underlying,program,Sem.run,h,Sem.run_bind,pure,Result.andThen]
theorem fQ{kT:TypeId}{k:α}{es:List MapEntry}{r:Option (Nat×Value)}(hk:P.underlying kT=some kk.desc)(h:Instr.findNow kk.desc (kk.cell k) es 0=some r):(Instr.findKey kT (kk.cell k) es).run P w=.ok r w:=by
 unfold Instr.findKey
 rw[run_bind_ok (eE hk)]
 rw[h];rfl
theorem ij{t kT eT:TypeId}{z:Value}{r:Nat}{es:Array MapEntry}{cl:Nat}{ks:List (α×Value)}{k:α}(hu:P.underlying t=some (.map kT eT))(hk:P.underlying kT=some kk.desc)(hz: ∀w,(zeroValue eT).run P w=.ok z w)
  (hm:w.heap[r]?=some (.map es cl)) (he:Ents kk es.toList ks) (ok:Bool):
  (iy t (.map (some r)) (kk.cell k) ok).run P w=.ok (.value (if ok then .tuple #[(mget ks k).getD z,.bool (mget ks k).isSome]else(mget ks k).getD z)) w:=by
 obtain⟨q,h1,h2,-,-⟩:=fV (k:=k) kk es.toList ks 0 he
 unfold iy Instr.lookup
 simp only[bind_assoc]
 rw[run_bind_ok (eE hu)]
 simp only[bind_assoc]
 rw[run_bind_ok (fH hm)]
 simp only[pure_bind,bind_assoc]
 rw[run_bind_ok (kk.plain P kT es.isEmpty w k hk),run_bind_ok (fQ hk h1)]
 cases q with
 | none=>
  simp only[bind_assoc]
  rw[run_bind_ok (hz w)]
  rw[<-h2]
  cases ok<;>rfl
 | some q=>
  obtain⟨j,v⟩:=q
  rw[<-h2]
  cases ok<;>rfl
theorem lL{t kT eT:TypeId}{r:Nat}{es:Array MapEntry}{cl:Nat}{ks:List (α×Value)}{k:α}{v:Value}(hu:P.underlying t=some (.map kT eT))(hk:P.underlying kT=some kk.desc)
  (hm:w.heap[r]?=some (.map es cl)) (he:Ents kk es.toList ks):
  ∃(es':Array MapEntry) (cl':Nat),(jk t (.map (some r)) (kk.cell k) v).run P w=.ok .skip {w with heap:=bL w.heap r (.map es' cl')}/\Ents kk es'.toList (mput ks k v):=by
 obtain⟨q,h1,h2,h3,h4⟩:=fV (k:=k) kk es.toList ks 0 he
 cases q with
 | none=>
  refine⟨es.push {key:=kk.cell k,val:=v,born:=cl},cl+1,?_,by rw[Array.toList_push];exact h4 rfl v cl⟩
  unfold jk Instr.mapUpdate
  simp only[bind_assoc]
  rw[run_bind_ok (eE hu)]
  simp only[bind_assoc]
  rw[run_bind_ok (fH hm)]
  simp only[bind_assoc]
  rw[run_bind_ok (kk.plain P kT false w k hk),run_bind_ok (fQ hk h1)]
  simp only[]
  rw[run_bind_ok (gi hm)]
  rfl
 | some q=>
  obtain⟨j,v0⟩:=q
  obtain⟨-,e,g2,g3,g4⟩:=h3 j v0 rfl
  rw[Nat.sub_zero]at g2 g4
  refine⟨es.modify j λe=>{e with key:=kk.cell k,val:=v},cl,?_,by rw[Array.toList_modify];exact g4 v⟩
  have ge:(es[j]?).map (·.key)=some (kk.cell k):=by rw[<-Array.getElem?_toList,g2];simp[g3]
  unfold jk Instr.mapUpdate
  simp only[bind_assoc]
  rw[run_bind_ok (eE hu)]
  simp only[bind_assoc]
  rw[run_bind_ok (fH hm)]
  simp only[bind_assoc]
  rw[run_bind_ok (kk.plain P kT false w k hk),run_bind_ok (fQ hk h1)]
  simp only[bind_assoc]
  rw[ge]
  unfold Instr.keyThatStays
  simp only[Option.getD_some,kk.bits,if_true,pure_bind]
  rw[run_bind_ok (gi hm)]
  rfl
def Born(es:Array MapEntry)(cl:Nat):Prop:=(es.toList.map (·.born)).Nodup/\ ∀e∈es.toList,e.born<cl
def gp(es:Array MapEntry)(k:Value)(s:Int):Prop:= ∃(i:Nat) (e:MapEntry),es.toList[i]?=some e/\e.key=k/\(e.born:Int)=s/\ ∀j e',j<i->es.toList[j]?=some e'->e'.key≠k
theorem k9:Born #[] 0:=⟨List.nodup_nil,λ_ h=>by cases h⟩
def iz(t:TypeId)(m k:Value):Sem Next:=do pure (.value (<-Instr.mapEntry t m k))
def jl(t:TypeId)(m s v:Value):Sem Next:=do Instr.entryStore t m s v;pure .skip
theorem hZ{k:α}: ∀(es:List MapEntry) (ks:List (α×Value)) (i j:Nat) (v:Value),Ents kk es ks->Instr.findNow kk.desc (kk.cell k) es i=some (some (j,v))-> ∀(q:Nat) e',i+q<j->es[q]?=some e'->e'.key≠kk.cell k
 | [],_,i,j,v,_,h=>by simp[Instr.findNow]at h
 | e::es,[],i,j,v,h,_=>by simp[Ents]at h
 | e::es,p::ks,i,j,v,h,hf=>by
  simp only[Ents,List.map_cons,List.cons.injEq,Prod.mk.injEq]at h
  obtain⟨⟨hk,hv⟩,hr⟩:=h
  unfold Instr.findNow at hf
  rw[hk,kk.same]at hf
  intro q e' hq he'
  by_cases hp:k=p.1
  ·rw[zX hp]at hf
   simp only[Option.some.injEq,Prod.mk.injEq]at hf
   omega
  ·rw[zQ hp]at hf
   cases q with
   | zero=>
    simp only[List.getElem?_cons_zero,Option.some.injEq]at he'
    subst he'
    rw[hk]
    intro e2
    have h1:=kk.same k p.1
    have h2:=kk.same k k
    rw[e2,h2]at h1
    simp[hp]at h1
   | succ q=>
    rw[List.getElem?_cons_succ]at he'
    exact hZ es ks (i+1) j v hr hf q e' (by omega) he'
theorem mD{k:α}{v:Value}: ∀(es:List MapEntry) (ks:List (α×Value)) (i:Nat) (e:MapEntry),Ents kk es ks->es[i]?=some e->e.key=kk.cell k->(∀j e',j<i->es[j]?=some e'->e'.key≠kk.cell k)->Ents kk (es.modify i λe=>{e with val:=v}) (mput ks k v)
 | [],_,i,e,_,h,_,_=>by simp at h
 | e0::es,[],i,e,h,_,_,_=>by simp[Ents]at h
 | e0::es,p::ks,i,e,h,he,hk,hf=>by
  simp only[Ents,List.map_cons,List.cons.injEq,Prod.mk.injEq]at h
  obtain⟨⟨hk0,hv0⟩,hr⟩:=h
  cases i with
  | zero=>
   simp only[List.getElem?_cons_zero,Option.some.injEq]at he
   subst he
   have hp:k=p.1:=by
    by_cases hp:k=p.1
    ·exact hp
    have h1:=kk.same k p.1
    have h2:=kk.same k k
    rw[<-hk0,hk,h2]at h1
    simp[hp]at h1
   simp only[mput,if_pos hp]
   simp[Ents,hr,hk]
  | succ i=>
   rw[List.getElem?_cons_succ]at he
   have hp: ¬k=p.1:=λhp=>hf 0 e0 (by omega) rfl (by rw[hk0,hp])
   simp only[mput,if_neg hp]
   have:=mD (v:=v) es ks i e hr he hk (λj e' hj h'=>hf (j+1) e' (by omega) (by rw[List.getElem?_cons_succ];exact h'))
   simp only[Ents,List.modify_succ_cons,List.map_cons]at this⊢
   rw[this,hk0,hv0]
theorem iA{k:α}: ∀(es:List MapEntry) (ks:List (α×Value)) (i:Nat),Ents kk es ks->Instr.findNow kk.desc (kk.cell k) es i=some none-> ∀(q:Nat) e',es[q]?=some e'->e'.key≠kk.cell k
 | [],_,i,_,_=>λq e' h=>by simp at h
 | e::es,[],i,h,_=>by simp[Ents]at h
 | e::es,p::ks,i,h,hf=>by
  simp only[Ents,List.map_cons,List.cons.injEq,Prod.mk.injEq]at h
  obtain⟨⟨hk,hv⟩,hr⟩:=h
  unfold Instr.findNow at hf
  rw[hk,kk.same]at hf
  intro q e' he'
  by_cases hp:k=p.1
  ·rw[zX hp]at hf
   simp at hf
  ·rw[zQ hp]at hf
   cases q with
   | zero=>
    simp only[List.getElem?_cons_zero,Option.some.injEq]at he'
    subst he'
    rw[hk]
    intro e2
    have h1:=kk.same k p.1
    have h2:=kk.same k k
    rw[e2,h2]at h1
    simp[hp]at h1
   | succ q=>
    rw[List.getElem?_cons_succ]at he'
    exact iA es ks (i+1) hr hf q e' he'
theorem ko{k:α}{v:Value}: ∀(ks:List (α×Value)),mget ks k=some v->mput ks k v=ks
 | [],h=>by simp[mget]at h
 | p::ks,h=>by
  by_cases hp:k=p.1
  ·simp only[mput,if_pos hp]
   simp[mget,hp]at h
   rw[<-h,hp]
  ·simp only[mput,if_neg hp]
   rw[ko ks (by simpa[mget,hp]using h)]
theorem iZ{β:Type}: ∀(l:List β) (j:Nat) (f:β->β),(∀e,l[j]?=some e->f e=e)->l.modify j f=l
 | [],j,f,_=>by simp
 | a::l,0,f,h=>by simp[h a rfl]
 | a::l,j+1,f,h=>by rw[List.modify_succ_cons,iZ l j f (λe he=>h e (by simpa using he))]
theorem i0{l:List MapEntry}{i:Nat}{f:MapEntry->MapEntry}(hf: ∀e,(f e).born=e.born):(l.modify i f).map (·.born)=l.map (·.born):=by
 induction l generalizing i with
 | nil=>simp
 | cons a l ih=>cases i<;>simp[hf,ih]
theorem Born.modify{es:Array MapEntry}{cl i:Nat}{f:MapEntry->MapEntry}(h:Born es cl)(hf: ∀e,(f e).born=e.born):Born (es.modify i f) cl:=by
 unfold Born at*
 rw[Array.toList_modify]
 refine⟨by rw[i0 hf];exact h.1,λe he=>?_⟩
 have:e.born∈(es.toList.modify i f).map (·.born):=List.mem_map_of_mem he
 rw[i0 hf,List.mem_map]at this
 obtain⟨e',h1,h2⟩:=this
 rw[<-h2];exact h.2 e' h1
theorem jB{t kT eT:TypeId}{z:Value}{H:zV}{r:Nat}{es:Array MapEntry}{cl:Nat}{ks:List (α×Value)}{k:α}(hu:P.underlying t=some (.map kT eT))(hk:P.underlying kT=some kk.desc)(hz: ∀w,(zeroValue eT).run P w=.ok z w)
  (hm:H[r]?=some (.map es cl)) (he:Ents kk es.toList ks) (hb:Born es cl):
  SS P (iz t (.map (some r)) (kk.cell k)) H (λu Hz=> ∃es2 cl2 sp v0,Hz=bL H r (.map es2 cl2)/\Ents kk es2.toList (mput ks k v0)/\Born es2 cl2/\gp es2 (kk.cell k) sp/\u=.tuple #[v0,.int .i64 sp]):=by
 intro w hw
 subst hw
 obtain⟨q,h1,h2,h3,h4⟩:=fV (k:=k) kk es.toList ks 0 he
 cases q with
 | none=>
  refine⟨_,{w with heap:=bL w.heap r (.map (es.push {key:=kk.cell k,val:=z,born:=cl}) (cl+1))},?_,⟨rfl,rfl,rfl,Nat.le_refl _⟩,_,_,cl,z,rfl,by rw[Array.toList_push];exact h4 rfl z cl,⟨?_,?_⟩,⟨es.toList.length,_,by rw[Array.toList_push,List.getElem?_append_right (Nat.le_refl _),Nat.sub_self];rfl,rfl,rfl,?_⟩,rfl⟩
  ·unfold iz Instr.mapEntry
   simp only[bind_assoc]
   rw[run_bind_ok (eE hu)]
   simp only[bind_assoc]
   rw[run_bind_ok (fH hm)]
   simp only[bind_assoc]
   rw[run_bind_ok (kk.plain P kT false w k hk),run_bind_ok (fQ hk h1)]
   simp only[bind_assoc]
   rw[run_bind_ok (hz w),run_bind_ok (gi hm)]
   rfl
  ·rw[Array.toList_push,List.map_append]
   refine List.nodup_append.2 ⟨hb.1,by simp,λa ha b hb'=>?_⟩
   obtain⟨e,g1,g2⟩:=List.mem_map.1 ha
   have:=hb.2 e g1
   simp at hb'
   omega
  ·intro e he'
   rw[Array.toList_push]at he'
   rcases List.mem_append.1 he' with h | h
   ·have:=hb.2 e h;omega
   ·simp at h;rw[h];show cl<cl+1;omega
  ·intro j e' hj he'
   rw[Array.toList_push,List.getElem?_append_left hj]at he'
   exact iA es.toList ks 0 he h1 j e' he'
 | some q=>
  obtain⟨j,v0⟩:=q
  obtain⟨-,e,g2,g3,g4⟩:=h3 j v0 rfl
  rw[Nat.sub_zero]at g2 g4
  have ge:(es[j]?).map (·.key)=some (kk.cell k):=by rw[<-Array.getElem?_toList,g2];simp[g3]
  have gb:(es[j]?).map (·.born)=some e.born:=by rw[<-Array.getElem?_toList,g2];rfl
  refine⟨_,{w with heap:=bL w.heap r (.map (es.modify j λe=>{e with key:=kk.cell k}) cl)},?_,⟨rfl,rfl,rfl,Nat.le_refl _⟩,_,_,e.born,v0,rfl,?_,hb.modify (λ_=>rfl),⟨j,{e with key:=kk.cell k},by rw[Array.toList_modify,List.getElem?_modify,g2];simp,rfl,rfl,?_⟩,rfl⟩
  ·unfold iz Instr.mapEntry
   simp only[bind_assoc]
   rw[run_bind_ok (eE hu)]
   simp only[bind_assoc]
   rw[run_bind_ok (fH hm)]
   simp only[bind_assoc]
   rw[run_bind_ok (kk.plain P kT false w k hk),run_bind_ok (fQ hk h1)]
   simp only[bind_assoc]
   rw[ge]
   unfold Instr.keyThatStays
   simp only[Option.getD_some,kk.bits,if_true,pure_bind]
   rw[run_bind_ok (gi hm)]
   have gb':(es[j]?).map (λx=>(x.born:Nat))=some e.born:=gb
   cases hq:es[j]? with
   | none=>rw[hq]at gb;cases gb
   | some e1=>
    rw[hq]at gb
    have:e1.born=e.born:=by simpa using gb
    rw[<-this];rfl
  ·have e1:mget ks k=some v0:=h2.symm
   rw[Array.toList_modify,ko ks e1,iZ es.toList j _ (λe' h'=>by rw[g2]at h';cases h';rw[<-g3])]
   exact he
  ·intro q e' hq he'
   rw[Array.toList_modify,List.getElem?_modify]at he'
   have:es.toList[q]?=some e':=by
    have hne: ¬j=q:=λe=>by omega
    simpa[hne]using he'
   exact hZ es.toList ks 0 j v0 he h1 q e' (by omega) this
theorem jC{t:TypeId}{H:zV}{r:Nat}{es:Array MapEntry}{cl:Nat}{ks:List (α×Value)}{k:α}{s:Int}{v:Value}(hm:H[r]?=some (.map es cl))(he:Ents kk es.toList ks)(hb:Born es cl)(hs:gp es (kk.cell k) s):
  ∀w,w.heap=H-> ∃w',(jl t (.map (some r)) (.int .i64 s) v).run P w=.ok .skip w'/\Same w w'/\(λHz=> ∃es2,Hz=bL H r (.map es2 cl)/\Ents kk es2.toList (mput ks k v)/\Born es2 cl) w'.heap:=by
 intro w hw
 subst hw
 obtain⟨i,e,h1,h2,h3,h4⟩:=hs
 refine⟨{w with heap:=bL w.heap r (.map (es.modify i λe=>{e with val:=v}) cl)},?_,⟨rfl,rfl,rfl,Nat.le_refl _⟩,_,rfl,by rw[Array.toList_modify];exact mD es.toList ks i e he h1 h2 h4,hb.modify (λ_=>rfl)⟩
 have hi:i<es.toList.length:=(List.getElem?_eq_some_iff.1 h1).1
 have hf:es.findIdx? (λe=>(e.born:Int)==s)=some i:=by
  rw[Array.findIdx?_eq_some_iff_getElem]
  refine⟨by simpa using hi,?_,λj hj=>?_⟩
  ·have:es[i]'(by simpa using hi)=e:=by
    have:=h1;rw[Array.getElem?_toList,Array.getElem?_eq_getElem (by simpa using hi)]at this;simpa using this
   simp[this,h3]
  ·have hjl:j<es.size:=by simp at hi;omega
   have h5:(es.toList.map (·.born))[j]?≠(es.toList.map (·.born))[i]?:=by
    intro hh
    have:=(List.getElem?_inj (by simpa using hjl) hb.1).1 hh
    omega
   have h6:(es.toList.map (·.born))[i]?=some e.born:=by rw[List.getElem?_map,h1];rfl
   have h7:(es.toList.map (·.born))[j]?=some es[j].born:=by rw[List.getElem?_map,Array.getElem?_toList,Array.getElem?_eq_getElem hjl];rfl
   rw[h6,h7]at h5
   have h8:es[j].born≠e.born:=λhh=>h5 (by rw[hh])
   have: ¬((es[j].born:Int)=s):=by omega
   simpa using this
 unfold jl Instr.entryStore
 simp only[bind_assoc,pure_bind]
 rw[run_bind_ok (fH hm)]
 simp only[bind_assoc,asInt,asIntOf,pure_bind]
 rw[hf]
 simp only[]
 rw[run_bind_ok (gi hm)]
 rfl
end
