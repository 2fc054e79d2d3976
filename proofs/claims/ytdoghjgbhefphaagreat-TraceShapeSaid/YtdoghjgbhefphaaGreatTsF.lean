/-
 How long a picture is at most. Proves nothing of any one statement.
-/
import Derived.Test.YtdoghjgbhefphaaGreatWkH
set_option linter.unusedVariables false
set_option linter.unusedSimpArgs false
namespace Go.Proofs.YtdoghjgbhefphaaGreat
open Go

theorem puts_alls{m:Mem}: ∀(l:List Int) (st:List Int×Kn),Alls m st.1->(∀v∈l,IsWord v)->Alls m (l.foldl (putP m) st).1
 | [],st,h,_=>h
 | v::l,st,h,hl=>puts_alls l (putP m st v) (h.of (hl v (by simp))) (λu hu=>hl u (by simp[hu]))
theorem objs_alls{m:Mem}{w:Int}: ∀(l:List Int) (st:List Int×Kn),Alls m st.1->(∀v∈l,IsWord v)->Alls m (l.foldl (objStep m w) st).1
 | [],st,h,_=>h
 | v::l,st,h,hl=>objs_alls l (objStep m w st v) (by
  unfold objStep
  split
  ·exact h
  ·exact h.of (hl v (by simp))) (λu hu=>hl u (by simp[hu]))
theorem knot_alls{m:Mem}(ok:MemOK m){all:List Int}(h:Alls m all)(w:Int):Alls m (knotOf m all w).1:=by
 unfold knotOf
 split
 ·exact h.of (half_word ok w 1)
 ·split
  ·exact(h.of (half_word ok w 0)).of (half_word ok w 1)
  ·refine objs_alls _ _ h (λv hv=>?_)
   unfold Mem.objs at hv
   obtain⟨i,_,rfl⟩:=List.mem_map.1 hv
   exact field_word ok w i
theorem picN_alls{m:Mem}(ok:MemOK m){roots:List Int}(hr: ∀v∈roots,IsWord v): ∀n,Alls m (picN m (pic0 m roots) n).1
 | 0=>puts_alls roots ([],⟨-1,[],[]⟩) (Alls.nil m) hr
 | n+1=>by
  have ih:=picN_alls ok hr n
  show Alls m (picStep m (picN m (pic0 m roots) n)).1
  unfold picStep
  split
  ·exact knot_alls ok ih _
  ·exact ih
theorem IsPic.len{m:Mem}(ok:MemOK m){roots:List Int}(hr: ∀v∈roots,IsWord v){ks:List Kn}(h:IsPic m roots ks):ks.length<=600000:=by
 obtain⟨n,rfl,hn⟩:=h
 have:=(picN_alls ok hr n).len
 omega
end Go.Proofs.YtdoghjgbhefphaaGreat
