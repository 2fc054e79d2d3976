/-
 How many words are used of a memory of which something holds. Proves nothing of any one statement.
-/
import Derived.Test.YtojbbgcjiaphjaaGreatGcB
set_option linter.unusedVariables false
set_option linter.unusedSimpArgs false
namespace Go.Proofs.YtojbbgcjiaphjaaGreat
open Go

theorem hP(m:Mem)(w:Int):0<=m.sizeOf w/\m.sizeOf w<=63:=by
 have:=m.len_rng w
 unfold Mem.sizeOf
 split
 ·omega
 ·split<;>omega
theorem eW.all{m:Mem}{l:List Nat}(h:eW m [] l)(ok:bO m){k:Int}(hk:m.has k):k.toNat∈l:=by
 refine h.perm.mem_iff.2 ?_
 unfold Mem.takenTo
 rw[List.mem_filter,List.mem_range]
 obtain⟨h1,h2,h3⟩:=hk
 have:=(ok.seg k.toNat).taken
 refine⟨by omega,?_⟩
 simp
 omega

theorem jZ{H:zV}{p:zW}{ws:List Int}(h:fY H p (wvs ws)){i:Nat}(hi:i<ws.length): ∃a,p=some a/\hat H (a.add (i*1))=some (.int .u64 ws[i]):=by
 cases p with
 | none=>rw[SrcAt_none]at h;simp[wvs]at h;subst h;simp at hi
 | some a=>
  refine⟨a,rfl,?_⟩
  have:=gZ (show aS H a 0 (wvs ws)from h) i (.int .u64 ws[i]) (by simp[wvs,hi])
  rw[Nat.zero_add]at this;rw[Nat.mul_one];exact this
structure Alls (m:Mem) (all:List Int):Prop where
 nodup:all.Nodup
 good: ∀w∈all,aP w/\m.sizeOf w≠0
theorem oS{m:Mem}{w:Int}(h:m.sizeOf w≠0):hG w:=by
 unfold Mem.sizeOf at h
 by_cases hp:m.isPair w
 ·rcases hp.1 with q | q<;>exact q.1
 ·rw[if_neg hp]at h
  by_cases ho:m.isObj w
  ·exact ho.1.1
  ·rw[if_neg ho]at h;exact absurd rfl h
theorem Alls.len{m:Mem}{all:List Int}(h:Alls m all):all.length<=524288:=by
 have h1:=kP (λ_=>1) 524288 all h.nodup (λa ha=>by
  obtain⟨q1,q2⟩:=h.good a ha
  have:=(oS q2).2
  exact⟨q1.1,by show a+1<=524288;omega⟩) (λa _ b _ hab=>by show a+1<=b;omega)
 have h2:(all.map λ_=>1).sum=all.length:=by
  induction all with
  | nil=>rfl
  | cons a l _=>simp[List.map_const'];omega
 rw[h2]at h1
 rw[h1]
 exact Nat.le_trans List.countP_le_length (by rw[List.length_range];exact Nat.le_refl _)
