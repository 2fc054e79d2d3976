/-
 A heap of pairs alone, in generation 0: a pair more. Proves nothing of any one statement.
-/
import Derived.Test.YtgnokbjknicahaaGreatGcH
import Derived.Test.YtgnokbjknicahaaGreatCons
set_option linter.unusedVariables false
set_option linter.unusedSimpArgs false
namespace Go.Proofs.YtgnokbjknicahaaGreat
open Go

theorem young_free{m:Mem}(ok:MemOK m)(g:Int):(m.nyoung g:Int)+m.free<=m.limit:=by
 rw[ok.free]
 unfold Mem.nyoung Mem.takenTo Mem.nfree
 rw[<-List.countP_eq_length_filter]
 have h:=countP_two (λi=>decide (0< (m.seg i).taken) && ((gensTo g).isEmpty || decide ((m.seg i).gen∈gensTo g))) (λk=>(m.seg k).taken==0) (List.range m.limit) (λx _ h1 h2=>by
  simp only[Bool.and_eq_true,decide_eq_true_eq,beq_iff_eq]at h1 h2
  omega)
 have h2:=List.countP_le_length (p:=λx=>(decide (0< (m.seg x).taken) && ((gensTo g).isEmpty || decide ((m.seg x).gen∈gensTo g))) || ((m.seg x).taken==0)) (l:=List.range m.limit)
 rw[List.length_range]at h2
 omega
def Plain0(m:Mem):Prop:= ∀k,(m.seg k).taken≠0->(m.seg k).gen=0/\(m.seg k).kind=0
theorem cons_step{s:Sp}{sz:Int->Nat}(I:Inv s sz)(hP:Plain0 s.mem)(hf:1<=s.mem.free){x y:Int}(hx:IsWord x)(hy:IsWord y)(gx:Good s.mem sz x)(gy:Good s.mem sz y):
  ∃sz',(s.put 0 1 [x,y]).2.2=0/\Inv (s.put 0 1 [x,y]).1 sz'/\Lift s.mem sz (s.put 0 1 [x,y]).1.mem sz'/\Pr (s.put 0 1 [x,y]).1.mem (s.put 0 1 [x,y]).2.1 1 x y/\Made s.mem (s.put 0 1 [x,y]).1.mem (s.put 0 1 [x,y]).2.1 1/\Plain0 (s.put 0 1 [x,y]).1.mem/\Good (s.put 0 1 [x,y]).1.mem sz' (s.put 0 1 [x,y]).2.1/\(s.put 0 1 [x,y]).1.cf=s.cf:=by
 have hal:(s.alloc 0 0 (([x,y]:List Int).length:Nat)).2.2=0:=Sp.alloc_can I.ok ⟨by omega,.inl ⟨by omega,rfl⟩⟩ hf
 have hall: ∀w∈([x,y]:List Int),IsWord w:=λw hw=>by simp at hw;rcases hw with rfl | rfl<;>assumption
 have hgg: ∀w∈([x,y]:List Int),Good s.mem sz w:=λw hw=>by simp at hw;rcases hw with rfl | rfl<;>assumption
 have hc:=Sp.cons_ok (tag:=1) I.ok I.even (.inl rfl) hx hy hf
 rw[show(1:Int)-1=0 from rfl]at hc
 obtain⟨c1,c2,c3,c4,c5⟩:=hc
 obtain⟨sz',I',l',g',f'⟩:=I.put (kind:=0) (tag:=1) (ws:=[x,y]) (by decide) rfl hall (λ_=>rfl) (λh=>by omega) (λ_=>hgg)
 refine⟨sz',c1,I',l',c2,c4,?_,(g' c1).2,f'⟩
 obtain⟨a,e1,gr,e2,_⟩:=Sp.put_ok (tag:=1) I.ok (alloc_may' hal) (.inl rfl) hall hal
 have sm:=Same'.sets [x,y] (s.alloc 0 0 (([x,y]:List Int).length:Nat)).1.mem a
 intro k hk
 rw[e2]at hk⊢
 obtain⟨q1,q2,q3,q4,_⟩:=sm.seg k
 rw[q4]at hk
 rw[q1,q2]
 by_cases hka:k=(a / 64).toNat
 ·rw[hka];exact⟨gr.new.2.1,gr.new.2.2.1⟩
 ·rw[gr.others k hka]at hk⊢
  exact hP k hk
end Go.Proofs.YtgnokbjknicahaaGreat
