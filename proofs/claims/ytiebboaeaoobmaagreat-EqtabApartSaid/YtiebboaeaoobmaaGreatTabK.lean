/-
 What the document's table and the heap's table have in common, in plain words. Proves nothing of any one statement.
-/
import Derived.Test.YtiebboaeaoobmaaGreatTabJ
set_option linter.unusedVariables false
set_option linter.unusedSimpArgs false
namespace Go.Proofs.YtiebboaeaoobmaaGreat
open Go

theorem few_of: ∀(n:Nat) (l:List Nat),l.Nodup->(∀a∈l,a<n)->l.length<=n
 | 0,[],_,_=>by simp
 | 0,a::l,_,h=>absurd (h a (by simp)) (by omega)
 | n+1,l,hn,h=>by
  have:=few_of n (l.erase n) (hn.erase n) (λa ha=>by
   rw[hn.mem_erase_iff]at ha
   have:=h a ha.2
   omega)
  by_cases hm:n∈l
  ·rw[List.length_erase_of_mem hm]at this;omega
  ·rw[List.erase_of_not_mem hm]at this;omega
def kOf(keys:List Int)(i:Int):Int:=keys.getD i.toNat 0
theorem kOf_inj{keys:List Int}(hn:keys.Nodup)(hl:keys.length=40){i j:Int}(hi:0<=i/\i<40)(hj:0<=j/\j<40)(h:kOf keys i=kOf keys j):i=j:=by
 unfold kOf at h
 rw[List.getD_eq_getElem?_getD,List.getD_eq_getElem?_getD,List.getElem?_eq_getElem (by omega),List.getElem?_eq_getElem (by omega)]at h
 simp only[Option.getD_some]at h
 have:=(List.getElem_inj hn).1 h
 omega
theorem kOf_mem{keys:List Int}(hl:keys.length=40){i:Int}(hi:0<=i/\i<40):kOf keys i∈keys:=by
 unfold kOf
 rw[List.getD_eq_getElem?_getD,List.getElem?_eq_getElem (by omega)]
 exact List.getElem_mem _
inductive RL (keys:List Int):List Ent->List (Int×Int)->Prop
 | nil:RL keys [] []
 | cons {y:Ent} {p:Int×Int} {E:List Ent} {L:List (Int×Int)}:y.k=kOf keys p.1->y.v=8*p.2->(0<=p.1/\p.1<40)->(0<=p.2/\p.2<1000)->RL keys E L->RL keys (y::E) (p::L)
theorem Rel.rl{keys:List Int}: ∀{E:List Ent} {L:List (Int×Int)},Rel keys E L->RL keys E L
 | [],[],_=> .nil
 | [],p::L,h=>by have:=h.1;simp at this
 | y::E,[],h=>by have:=h.1;simp at this
 | y::E,p::L,h=>by
  have h1:=h.1
  simp only[List.map_cons,List.cons.injEq,Prod.mk.injEq]at h1
  obtain⟨h2,h3⟩:=h.2 p (by simp)
  exact .cons h1.1.1 h1.1.2 h2 h3 (Rel.rl ⟨h1.2,λq hq=>h.2 q (by simp[hq])⟩)
theorem RL.rel{keys:List Int}{E:List Ent}{L:List (Int×Int)}(h:RL keys E L):Rel keys E L:=by
 induction h with
 | nil=>exact⟨rfl,by simp⟩
 | cons h1 h2 h3 h4 _ ih=>
  refine⟨?_,λq hq=>?_⟩
  ·rw[List.map_cons,List.map_cons,ih.1,h1,h2];rfl
  ·rcases List.mem_cons.1 hq with rfl | h
   ·exact⟨h3,h4⟩
   ·exact ih.2 q h
section
variable {keys:List Int} {E:List Ent} {L:List (Int×Int)} {i v:Int}
theorem RL.len(h:RL keys E L):E.length=L.length:=by
 induction h with
 | nil=>rfl
 | cons _ _ _ _ _ ih=>simp[ih]
theorem RL.has(h:RL keys E L){p:Int×Int}(hp:p∈L): ∃y∈E,y.k=kOf keys p.1/\y.v=8*p.2:=by
 induction h with
 | nil=>cases hp
 | cons h1 h2 _ _ _ ih=>
  rcases List.mem_cons.1 hp with rfl | h
  ·exact⟨_,by simp,h1,h2⟩
  ·obtain⟨y,hy,h⟩:=ih h
   exact⟨y,by simp[hy],h⟩
theorem RL.from(h:RL keys E L){y:Ent}(hy:y∈E): ∃p∈L,y.k=kOf keys p.1/\y.v=8*p.2/\(0<=p.1/\p.1<40):=by
 induction h with
 | nil=>cases hy
 | cons h1 h2 h3 _ _ ih=>
  rcases List.mem_cons.1 hy with rfl | h
  ·exact⟨_,by simp,h1,h2,h3⟩
  ·obtain⟨p,hp,h⟩:=ih h
   exact⟨p,by simp[hp],h⟩
theorem RL.none(h:RL keys E L)(hn:keys.Nodup)(hl:keys.length=40)(hi:0<=i/\i<40):(∀p∈L,p.1≠i) ↔ ∀y∈E,y.k≠kOf keys i:=by
 refine⟨λg y hy e=>?_,λg p hp e=>?_⟩
 ·obtain⟨p,hp,h1,_,h3⟩:=h.from hy
  exact g p hp (kOf_inj hn hl h3 hi (h1.symm.trans e))
 ·obtain⟨y,hy,h1,_⟩:=h.has hp
  exact g y hy (by rw[h1,e])
theorem setV_none{k:Int}: ∀{E:List Ent},(∀y∈E,y.k≠k)->setV E k v=E
 | [],_=>rfl
 | y::E,h=>by
  show(if y.k=k then _ else y)::setV E k v=_
  rw[if_neg (h y (by simp)),setV_none (λz hz=>h z (by simp[hz]))]
theorem delK_none{k:Int}: ∀{E:List Ent},(∀y∈E,y.k≠k)->delK E k=E
 | [],_=>rfl
 | y::E,h=>by
  unfold delK
  rw[List.filter_cons_of_pos (by simpa using h y (by simp))]
  exact congrArg _ (delK_none (λz hz=>h z (by simp[hz])))
theorem RL.put(h:RL keys E L)(hn:keys.Nodup)(hl:keys.length=40)(hi:0<=i/\i<40)(hv:0<=v/\v<1000)(hk:(E.map Ent.k).Nodup)(hin: ∃y∈E,y.k=kOf keys i):RL keys (setV E (kOf keys i) (8*v)) (putL L i v):=by
 induction h with
 | nil=>obtain⟨y,hy,_⟩:=hin;cases hy
 | @cons y p E' L' h1 h2 h3 h4 hr ih=>
  rw[List.map_cons,List.nodup_cons]at hk
  show RL keys ((if y.k=kOf keys i then⟨y.e,y.k,8*v⟩else y)::setV E' (kOf keys i) (8*v)) (if p.1=i then(i,v)::L' else p::putL L' i v)
  by_cases e:p.1=i
  ·have ey:y.k=kOf keys i:=by rw[h1,e]
   rw[if_pos e,if_pos ey,setV_none (λz hz q=>hk.1 (by rw[ey];exact List.mem_map.2 ⟨z,hz,q⟩))]
   exact .cons ey rfl hi hv hr
  ·have ey:y.k≠kOf keys i:=λq=>e (kOf_inj hn hl h3 hi (h1.symm.trans q))
   rw[if_neg e,if_neg ey]
   refine .cons h1 h2 h3 h4 (ih hk.2 ?_)
   obtain⟨z,hz,q⟩:=hin
   rcases List.mem_cons.1 hz with rfl | h
   ·exact absurd q ey
   ·exact⟨z,h,q⟩
theorem RL.new(h:RL keys E L)(hi:0<=i/\i<40)(hv:0<=v/\v<1000)(hno: ∀p∈L,p.1≠i)(e:Int):RL keys (E++[⟨e,kOf keys i,8*v⟩]) (putL L i v):=by
 induction h with
 | nil=>exact .cons rfl rfl hi hv .nil
 | @cons y p E' L' h1 h2 h3 h4 hr ih=>
  show RL keys (y::(E'++_)) (if p.1=i then(i,v)::L' else p::putL L' i v)
  rw[if_neg (hno p (by simp))]
  exact .cons h1 h2 h3 h4 (ih (λq hq=>hno q (by simp[hq])))
theorem RL.del(h:RL keys E L)(hn:keys.Nodup)(hl:keys.length=40)(hi:0<=i/\i<40)(hk:(E.map Ent.k).Nodup):RL keys (delK E (kOf keys i)) (delL L i):=by
 induction h with
 | nil=>exact .nil
 | @cons y p E' L' h1 h2 h3 h4 hr ih=>
  rw[List.map_cons,List.nodup_cons]at hk
  show RL keys (delK (y::E') (kOf keys i)) (if p.1=i then L' else p::delL L' i)
  by_cases e:p.1=i
  ·have ey:y.k=kOf keys i:=by rw[h1,e]
   rw[if_pos e]
   unfold delK
   rw[List.filter_cons_of_neg (by simp[ey])]
   have:=delK_none (E:=E') (λz hz q=>hk.1 (by rw[ey];exact List.mem_map.2 ⟨z,hz,q⟩))
   unfold delK at this
   rw[this];exact hr
  ·have ey:y.k≠kOf keys i:=λq=>e (kOf_inj hn hl h3 hi (h1.symm.trans q))
   rw[if_neg e]
   unfold delK
   rw[List.filter_cons_of_pos (by simpa using ey)]
   exact .cons h1 h2 h3 h4 (ih hk.2)
theorem RL.nth(h:RL keys E L){n:Nat}(hn:n<L.length): ∃hE:n<E.length,E[n].k=kOf keys L[n].1/\E[n].v=8*L[n].2/\(0<=L[n].1/\L[n].1<40)/\(0<=L[n].2/\L[n].2<1000):=by
 induction h generalizing n with
 | nil=>exact absurd hn (by simp)
 | cons h1 h2 h3 h4 _ ih=>
  cases n with
  | zero=>exact⟨by simp,h1,h2,h3,h4⟩
  | succ n=>
   obtain⟨hE,h⟩:=ih (n:=n) (by simpa using hn)
   exact⟨by simpa using hE,h⟩
theorem RL.once(h:RL keys E L)(hk:(E.map Ent.k).Nodup):(L.map Prod.fst).Nodup:=by
 induction h with
 | nil=>exact List.nodup_nil
 | @cons y p E' L' h1 h2 h3 h4 hr ih=>
  rw[List.map_cons,List.nodup_cons]at hk⊢
  refine⟨λhm=>?_,ih hk.2⟩
  obtain⟨q,hq,e⟩:=List.mem_map.1 hm
  obtain⟨z,hz,hzk,_⟩:=hr.has hq
  exact hk.1 (by rw[h1,<-e,<-hzk];exact List.mem_map_of_mem hz)
theorem RL.few(h:RL keys E L)(hk:(E.map Ent.k).Nodup):E.length<=40:=by
 rw[h.len]
 have h1:=h.once hk
 have h2: ∀p∈L,0<=p.1/\p.1<40:=λp hp=>((RL.rel h).2 p hp).1
 have h3:((L.map Prod.fst).map Int.toNat).Nodup:=by
  unfold List.Nodup
  rw[List.pairwise_map]
  refine List.Pairwise.imp_of_mem (λha hb hne e=>?_) h1
  obtain⟨p,hp,rfl⟩:=List.mem_map.1 ha
  obtain⟨q,hq,rfl⟩:=List.mem_map.1 hb
  have:=h2 p hp;have:=h2 q hq
  omega
 have h4:((L.map Prod.fst).map Int.toNat) ⊆ List.range 40:=λa ha=>by
  simp only[List.mem_map,List.mem_range]at ha⊢
  obtain⟨_,⟨p,hp,rfl⟩,rfl⟩:=ha
  have:=h2 p hp;omega
 have:=few_of 40 _ h3 (λa ha=>List.mem_range.1 (h4 ha))
 simpa using this
end
