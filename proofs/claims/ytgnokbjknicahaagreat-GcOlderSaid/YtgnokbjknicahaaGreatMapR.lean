/-
 Ranges over maps that stay as they are, said of heaps. Proves nothing of any one program.
-/
import Derived.Test.YtgnokbjknicahaaGreatMap
import Derived.Test.YtgnokbjknicahaaGreatIter
set_option linter.unusedVariables false
set_option linter.unusedSimpArgs false
namespace Go.Proofs.YtgnokbjknicahaaGreat
open Go

section
variable {α:Type} [DecidableEq α] {kk:KeyKind α} {P:Program}
theorem mapPut_runB{w:World}{t kT eT:TypeId}{r:Nat}{es:Array MapEntry}{cl:Nat}{ks:List (α×Value)}{k:α}{v:Value}(hu:P.underlying t=some (.map kT eT))(hk:P.underlying kT=some kk.desc)
  (hm:w.heap[r]?=some (.map es cl)) (he:Ents kk es.toList ks):
  ∃(es':Array MapEntry) (cl':Nat),(mapPutN t (.map (some r)) (kk.cell k) v).run P w=.ok .skip {w with heap:=setBlk w.heap r (.map es' cl')}/\Ents kk es'.toList (mput ks k v)/\(Born es cl->Born es' cl'):=by
 obtain⟨q,h1,h2,h3,h4⟩:=findNow_ents (k:=k) kk es.toList ks 0 he
 cases q with
 | none=>
  refine⟨es.push {key:=kk.cell k,val:=v,born:=cl},cl+1,?_,by rw[Array.toList_push];exact h4 rfl v cl,λhb=>⟨?_,?_⟩⟩
  ·unfold mapPutN Instr.mapUpdate
   simp only[bind_assoc]
   rw[run_bind_ok (underlying_run hu)]
   simp only[bind_assoc]
   rw[run_bind_ok (getObj_map hm)]
   simp only[bind_assoc]
   rw[run_bind_ok (kk.plain P kT false w k hk),run_bind_ok (findKey_run hk h1)]
   simp only[]
   rw[run_bind_ok (setObj_map hm)]
   rfl
  ·rw[Array.toList_push,List.map_append]
   refine List.nodup_append.2 ⟨hb.1,by simp,λa ha b hb'=>?_⟩
   obtain⟨e,g1,g2⟩:=List.mem_map.1 ha
   have:=hb.2 e g1
   simp at hb'
   omega
  ·intro e he'
   rw[Array.toList_push]at he'
   rcases List.mem_append.1 he' with h | h
   ·have:=hb.2 e h;omega
   ·simp at h;rw[h];show cl<cl+1;omega
 | some q=>
  obtain⟨j,v0⟩:=q
  obtain⟨-,e,g2,g3,g4⟩:=h3 j v0 rfl
  rw[Nat.sub_zero]at g2 g4
  refine⟨es.modify j λe=>{e with key:=kk.cell k,val:=v},cl,?_,by rw[Array.toList_modify];exact g4 v,λhb=>hb.modify (λ_=>rfl)⟩
  have ge:(es[j]?).map (·.key)=some (kk.cell k):=by rw[<-Array.getElem?_toList,g2];simp[g3]
  unfold mapPutN Instr.mapUpdate
  simp only[bind_assoc]
  rw[run_bind_ok (underlying_run hu)]
  simp only[bind_assoc]
  rw[run_bind_ok (getObj_map hm)]
  simp only[bind_assoc]
  rw[run_bind_ok (kk.plain P kT false w k hk),run_bind_ok (findKey_run hk h1)]
  simp only[bind_assoc]
  rw[ge]
  unfold Instr.keyThatStays
  simp only[Option.getD_some,kk.bits,if_true,pure_bind]
  rw[run_bind_ok (setObj_map hm)]
  rfl

def rangeN(t:TypeId)(x:Value):Sem Next:=do pure (.value (<-Instr.range t x))
def entryN(x:Value):Sem Next:=do pure (.value (<-Instr.entry x))
theorem range_map{H:Array Obj}{t kT eT:TypeId}{r:Nat}{es:Array MapEntry}{cl:Nat}(hu:P.underlying t=some (.map kT eT))(hm:H[r]?=some (.map es cl)):
  SS P (rangeN t (.map (some r))) H (λv Hz=> ∃b,b=H.size/\v=.pointer (some ⟨b,0,none⟩)/\Hz=H.push (.mapIter (some r) cl #[] cl)):=λw hw=>by
 have hm':w.heap[r]?=some (.map es cl):=by rw[hw];exact hm
 refine⟨_,{w with heap:=w.heap.push (.mapIter (some r) cl #[] cl)},?_,⟨rfl,rfl,rfl,Nat.le_refl _⟩,w.heap.size,by rw[hw],rfl,by rw[hw]⟩
 unfold rangeN Instr.range
 simp only[bind_assoc]
 rw[run_bind_ok (underlying_run hu)]
 simp only[bind_assoc]
 rw[run_bind_ok (getObj_map hm')]
 rfl
theorem getObj_mit{w:World}{r:Nat}{m:Option Nat}{a c:Nat}{sn:Array Nat}(h:w.heap[r]?=some (.mapIter m a sn c)):(getObj r).run P w=.ok (.mapIter m a sn c) w:=by
 show Sem.run P (Sem.getObj r Sem.pure) w=_
 simp only[Sem.run,h]
theorem setObj_mit{w:World}{r:Nat}{m:Option Nat}{a c:Nat}{sn:Array Nat}{o':Obj}(h:w.heap[r]?=some (.mapIter m a sn c)):(setObj r o').run P w=.ok () {w with heap:=w.heap.setIfInBounds r o'}:=by
 show Sem.run P (Sem.setObj r o' (Sem.pure ())) w=_
 simp only[Sem.run,h]
theorem choose_run{w:World}{n:Nat}(hn:0<n): ∃(i:Nat) (w':World),(choose (.mapNext n)).run P w=.ok i w'/\i<n/\Same w w'/\w'.heap=w.heap:=by
 by_cases h:n<=1
 ·refine⟨0,w,?_,hn,Same.refl w,rfl⟩
  show Sem.run P (Sem.choose (.mapNext n) Sem.pure) w=_
  simp only[Sem.run]
  rw[if_pos (by simp[Question.forced,h])]
 ·refine⟨(Question.mapNext n).cut (w.tape w.drawn (.mapNext n)),{w with drawn:=w.drawn+1},?_,?_,⟨rfl,rfl,rfl,Nat.le_succ _⟩,rfl⟩
  ·show Sem.run P (Sem.choose (.mapNext n) Sem.pure) w=_
   simp only[Sem.run]
   rw[if_neg (by simp[Question.forced,h])]
  ·exact Nat.mod_lt _ hn
theorem next_map{H:Array Obj}{it r:Nat}{es:Array MapEntry}{cl:Nat}{seen:Array Nat}{ty:TypeId}(hi:H[it]?=some (.mapIter (some r) cl seen cl))(hm:H[r]?=some (.map es cl))(hb:Born es cl):
  SS P (nextN (.pointer (some ⟨it,0,none⟩)) false ty) H (λv Hz=>(∃e∈es.toList,e.born ∉ seen.toList/\v=.tuple #[.bool true,e.key,e.val]/\Hz=setBlk H it (.mapIter (some r) cl (seen.push e.born) cl))\/(v=.tuple #[.bool false]/\H=Hz)):=λw hw=>by
 have hi':w.heap[it]?=some (.mapIter (some r) cl seen cl):=by rw[hw];exact hi
 have hm':w.heap[r]?=some (.map es cl):=by rw[hw];exact hm
 have hc1:(!seen.isEmpty && !es.isEmpty && es.all (λx=>decide (x.born>=cl)))=false:=by
  rw[Bool.eq_false_iff]
  intro h
  simp only[Bool.and_eq_true,Bool.not_eq_true',Array.all_eq_true,decide_eq_true_eq]at h
  obtain⟨⟨_,h2⟩,h3⟩:=h
  have hpos:0<es.size:=by
   rcases Nat.eq_zero_or_pos es.size with q | q
   ·rw[Array.isEmpty_iff_size_eq_zero.2 q]at h2;cases h2
   ·exact q
  have h4:=h3 0 hpos
  have h5:=hb.2 es[0] (by simp)
  omega
 have hnew:(es.filter λe=> !seen.contains e.born).filter (λx=>decide (x.born>=cl))= #[]:=by
  rw[Array.filter_eq_empty_iff]
  intro e he
  have:=hb.2 e (by rw[Array.mem_filter]at he;simpa using he.1)
  simp;omega
 have hold: ∀e,e∈(es.filter λe=> !seen.contains e.born).filter (λx=>decide (x.born<cl))->e∈es.toList/\e.born ∉ seen.toList:=λe he=>by
  rw[Array.mem_filter,Array.mem_filter]at he
  refine⟨by simpa using he.1.1,λhs=>?_⟩
  have:=he.1.2
  simp at this
  exact this (by simpa using hs)
 obtain⟨old,hod⟩: ∃old,old=(es.filter λe=> !seen.contains e.born).filter (λx=>decide (x.born<cl)):=⟨_,rfl⟩
 rw[<-hod]at hold
 have hrun: ∀(R:Result Next),((do
   let i<-choose (.mapNext ((if old.isEmpty then #[none]else #[])++(old++ #[]).map some).size)
   match((if old.isEmpty then #[none]else #[])++(old++ #[]).map some)[i]? with
   | some (some e)=>
    setObj it (.mapIter (some r) cl (seen.push e.born) cl)
    pure (Next.value (Value.tuple #[.bool true,e.key,e.val]))
   | some none=>pure (Next.value (Value.tuple #[.bool false]))
   | none=>stuck "Next: no such candidate" :Sem Next)).run P w=R->(nextN (.pointer (some ⟨it,0,none⟩)) false ty).run P w=R:=λR h=>by
  rw[<-h]
  unfold nextN Instr.next
  simp only[bind_assoc]
  rw[run_bind_ok (getObj_mit hi')]
  simp only[bind_assoc]
  rw[run_bind_ok (getObj_map hm')]
  simp only[hc1,hnew,<-hod,Bool.false_eq_true,if_false,pure_bind,bind_assoc]
  congr 1
  congr 1
  funext i
  cases ((if old.isEmpty then #[none]else #[])++(old++ #[]).map some)[i]? with
  | none=>rfl
  | some o=>cases o<;>simp[bind_assoc]
 by_cases he:old.isEmpty=true
 ·have h0:old= #[]:=by simpa using he
  have hcand:((if old.isEmpty then #[none]else #[])++(old++ #[]).map some:Array (Option MapEntry))= #[none]:=by rw[h0];simp
  obtain⟨i,w',hi2,hlt,hs,hh⟩:=choose_run (P:=P) (w:=w) (n:=((if old.isEmpty then #[none]else #[])++(old++ #[]).map some:Array (Option MapEntry)).size) (by rw[hcand];exact Nat.zero_lt_one)
  refine⟨_,w',hrun _ ?_,hs,.inr ⟨rfl,by rw[hh,hw]⟩⟩
  rw[run_bind_ok hi2]
  rw[hcand]at hlt⊢
  have hi0:i=0:=by
   have:i<1:=hlt
   omega
  subst hi0
  rfl
 ·have hpos:0<old.size:=by
   rcases Nat.eq_zero_or_pos old.size with q | q
   ·exact absurd (Array.isEmpty_iff_size_eq_zero.2 q) he
   ·exact q
  have hcand:((if old.isEmpty then #[none]else #[])++(old++ #[]).map some:Array (Option MapEntry))=old.map some:=by rw[if_neg he];simp
  obtain⟨i,w',hi2,hlt,hs,hh⟩:=choose_run (P:=P) (w:=w) (n:=((if old.isEmpty then #[none]else #[])++(old++ #[]).map some:Array (Option MapEntry)).size) (by rw[hcand];simpa using hpos)
  have hlt':i<old.size:=by rw[hcand]at hlt;simpa using hlt
  obtain⟨m1,m2⟩:=hold old[i] (Array.getElem_mem hlt')
  have hi'':w'.heap[it]?=some (.mapIter (some r) cl seen cl):=by rw[hh];exact hi'
  refine⟨_,{w' with heap:=w'.heap.setIfInBounds it (.mapIter (some r) cl (seen.push old[i].born) cl)},hrun _ ?_,⟨hs.os,hs.tape,hs.output,hs.drawn⟩,.inl ⟨old[i],m1,m2,rfl,?_⟩⟩
  ·rw[run_bind_ok hi2,hcand]
   have:(old.map some)[i]?=some (some old[i]):=by simp[hlt']
   rw[this]
   simp only[]
   rw[run_bind_ok (setObj_mit hi'')]
   rfl
  ·show w'.heap.setIfInBounds it _=_
   rw[hh,hw];rfl
theorem entry_map{H:Array Obj}{it r q:Nat}{es:Array MapEntry}{cl:Nat}{seen:Array Nat}{ks:List (α×Value)}(hi:H[it]?=some (.mapIter (some r) cl seen cl))(hm:H[r]?=some (.map es cl))(hq:seen.back?=some q)(he: ∃e∈es.toList,e.born=q)(hks:Ents kk es.toList ks):
  SS P (entryN (.pointer (some ⟨it,0,none⟩))) H (λv Hz=> ∃p∈ks,v=.tuple #[kk.cell p.1,p.2]/\H=Hz):=λw hw=>by
 have hi':w.heap[it]?=some (.mapIter (some r) cl seen cl):=by rw[hw];exact hi
 have hm':w.heap[r]?=some (.map es cl):=by rw[hw];exact hm
 obtain⟨e,h1,h2⟩: ∃e,es.find? (λx=>x.born==q)=some e/\e∈es.toList:=by
  cases hf:es.find? (λx=>x.born==q)with
  | none=>
   rw[Array.find?_eq_none]at hf
   obtain⟨e,g1,g2⟩:=he
   exact absurd (by simpa using g2) (hf e (by simpa using g1))
  | some e=>exact⟨e,rfl,by simpa using Array.mem_of_find?_eq_some hf⟩
 have hm2:(e.key,e.val)∈ks.map (λp=>(kk.cell p.1,p.2)):=by
  have:(e.key,e.val)∈es.toList.map (λe=>(e.key,e.val)):=List.mem_map_of_mem h2
  rw[show es.toList.map (λe=>(e.key,e.val))=_ from hks]at this
  exact this
 obtain⟨p,p1,p2⟩:=List.mem_map.1 hm2
 refine⟨.tuple #[e.key,e.val],w,?_,Same.refl w,p,p1,?_,by rw[hw]⟩
 ·unfold entryN Instr.entry
  simp only[bind_assoc]
  rw[run_bind_ok (getObj_mit hi')]
  simp only[hq,bind_assoc]
  rw[run_bind_ok (getObj_map hm')]
  simp only[bne_self_eq_false,Bool.false_eq_true,if_false,pure_bind,h1]
  rfl
 ·rw[Prod.mk.injEq]at p2
  rw[<-p2.1,<-p2.2]
end
def toCome(es:Array MapEntry)(it:Nat)(H:Array Obj):Nat:=
 match H[it]? with
 | some (.mapIter _ _ seen _)=>(es.toList.filter λe=>decide (e.born ∉ seen.toList)).length
 | _=>0
theorem toCome_lt{es:Array MapEntry}{it:Nat}{H:Array Obj}{r:Option Nat}{a b:Nat}{seen:Array Nat}{e:MapEntry}(hi:H[it]?=some (.mapIter r a seen b))(he:e∈es.toList)(hs:e.born ∉ seen.toList){H':Array Obj}(hi':H'[it]?=some (.mapIter r a (seen.push e.born) b)):toCome es it H'<toCome es it H:=by
 unfold toCome
 rw[hi,hi']
 simp only[<-List.countP_eq_length_filter]
 have key: ∀l:List MapEntry,e∈l->l.countP (λx=>decide (x.born ∉ (seen.push e.born).toList))<l.countP (λx=>decide (x.born ∉ seen.toList)):=λl=>by
  induction l with
  | nil=>intro h;cases h
  | cons a l ih=>
   intro h
   have hle:l.countP (λx=>decide (x.born ∉ (seen.push e.born).toList))<=l.countP (λx=>decide (x.born ∉ seen.toList)):=List.countP_mono_left λx _ q=>by
    simp only[decide_eq_true_eq,Array.toList_push,List.mem_append,not_or]at q⊢
    exact q.1
   rw[List.countP_cons,List.countP_cons]
   by_cases hae:a=e
   ·subst hae
    rw[if_neg (by simp),if_pos (by simpa using hs)];omega
   ·have:=ih (by rcases List.mem_cons.1 h with q | q;exact absurd q.symm hae;exact q)
    by_cases q:decide (a.born ∉ (seen.push e.born).toList)=true
    ·rw[if_pos q,if_pos (by simp only[decide_eq_true_eq,Array.toList_push,List.mem_append,not_or]at q⊢;exact q.1)];omega
    ·rw[if_neg q];split<;>omega
 exact key _ he
end Go.Proofs.YtgnokbjknicahaaGreat
