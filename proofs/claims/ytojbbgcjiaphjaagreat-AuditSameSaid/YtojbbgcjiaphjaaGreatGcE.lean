/-
 A trace begins over a sound memory whose cards are marked, and comes to its end. Proves nothing of any one statement.
-/
import Derived.Test.YtojbbgcjiaphjaaGreatGcD
set_option linter.unusedVariables false
set_option linter.unusedSimpArgs false
namespace Go.Proofs.YtojbbgcjiaphjaaGreat
open Go

def qH(m:Mem):Prop:= ∀x,m.used x->m.kAt x≠3->(m.genOf (m.get x)).2=true->(m.genOf (m.get x)).1<m.gAt x->(m.seg (x / 64).toNat).cards (x % 64 / 16).toNat<=(m.genOf (m.get x)).1
section
variable {Z:TZ} {g F0:Int}
def Fin(Z:TZ)(fw:Int->Option Int)(s:Sp):Prop:= ∀x,s.mem.used x->Z.O (x / 64).toNat=false->s.mem.strong x->Done Z fw s x
theorem Fin.reach{fw:Int->Option Int}{al:List Int}{s:Sp}{sz:Int->Nat}(S:gt Z g F0)(t:Tri Z F0 fw al s sz)(f:Fin Z fw s)(hV: ∀v,Z.V v->Dn Z.O fw v){a:Int}(h:Reach Z a): ∃b,fw a=some b:=by
 induction h with
 | root h ho=>exact hV _ h ho
 | @older x hu hn hs ho=>
  have hst:s.mem.strong x:=by unfold Mem.strong at*;rw[(t.kAt hu).1];exact hs
  exact(f x (t.heads.used hu) hn hst _ (.inl ⟨hu,hn,rfl⟩)).1 ho
 | @step a i h hi hs ho ih=>
  obtain⟨b,hb⟩:=ih
  have im:=(t.img a b hb).2
  have hsa:=(t.olds.mem a ((t.al a).2 ⟨b,hb⟩)).1
  have hai:=S.sound.usedAt hsa hi (λk=>(S.ok.seg k).n.2)
  have hf:=im.fit
  have e64:(b+(i:Int)) / 64=b / 64:=by omega
  have hkb:s.mem.kAt (b+i)=Z.m.kAt (a+i):=by unfold Mem.kAt;rw[e64,hai.2.1];exact im.kind
  have hka:Z.m.kAt (a+i)=Z.m.kAt a:=by unfold Mem.kAt;rw[hai.2.1]
  have hst:s.mem.strong (b+i):=by
   unfold Mem.strong at*
   rw[hkb]
   refine⟨hs.1,?_⟩
   by_cases h1k:Z.m.kAt (a+i)=1
   ·right
    have:=hs.2.resolve_left (λq=>q h1k)
    have:=im.even (by rw[<-hka,h1k];decide)
    have:=(S.sound.two a hsa (by rw[<-hka,h1k];decide)).2
    omega
   ·exact .inl h1k
  exact(f (b+i) (im.here i hi) (by rw[e64];exact im.out) hst _ (.inr ⟨a,b,i,hb,hi,rfl,rfl⟩)).1 ho
end
