/-
 Strings, vectors on the heap (package obj): the contracts. Proves nothing of any one statement.
-/
import Derived.Test.YtgnokbjknicahaaGreatPair
import Derived.Test.YtgnokbjknicahaaGreatRow
import Derived.Laws.RangeAny
set_option linter.unusedVariables false
set_option linter.unusedSimpArgs false
namespace Go.Proofs.YtgnokbjknicahaaGreat
open Go

def nextO(o:Option (Blk×Hp)):Option (Blk×Hp):=match o with | none=>none | some (b,x)=>some (b,{x with ep:=IntKind.wrap .u64 (x.ep+1)})
def hown(o:Option (Blk×Hp)):List Nat:=match o with | none=> [] | some (b,_)=> [b.h]
theorem HpAt.epAt{H:zV}{b:Blk}{x:Hp}(h:HpAt H b x):hat H ⟨b.h,3,none⟩=some (.int .u64 x.ep):=by rw[hat_blk h.h];rfl
theorem HpAt.putEp{H:zV}{b:Blk}{x:Hp}(h:HpAt H b x)(e:Int):CanPuts H ⟨b.h,3,none⟩ 0 1/\HpAt (hputs H ⟨b.h,3,none⟩ [.int .u64 e] 0) b {x with ep:=e}/\Fr [b.h] H (hputs H ⟨b.h,3,none⟩ [.int .u64 e] 0):=by
 refine⟨canPuts_blk h.h _ _ _ (by simp),?_⟩
 rw[hputs_blk _ _ _ _ _ h.h]
 have f:Fr [b.h] H (setBlk H b.h (.cells (splice #[.pointer (some ⟨b.c,0,none⟩),x.sy,x.en,.int .u64 x.ep] (3+0) [.int .u64 e]) 30 (0,0))):=Fr.set
 refine⟨⟨h.cd.keep f ?_ ?_ ?_ ?_,h.ne,by rw[setBlk_get (lt_size h.h)];rfl⟩,f⟩<;>have:=h.ne<;>simp<;>omega
theorem obj_Next_c{H:zV}{hv:zW}{o:Option (Blk×Hp)}(V:View H hv o):obj_Heap_Next.C hv H (λv H'=>View H' hv (nextO o)/\Fr (hown o) H H'):=by
 refine HC.via λR hR=>obj_Heap_Next.link ?_
 unfold obj_Heap_Next.pt
 refine HC.mono (obj_none_c V) ?_
 rintro _ H1 ⟨rfl,rfl⟩
 refine⟨_,rfl,?_⟩
 cases V with
 | nobody=>rw[if_pos (show(none:Option (Blk×Hp)).isNone=true from rfl)];exact hR _ _ ⟨.nobody,Fr.refl _ _⟩
 | empty h=>rw[if_pos (show(none:Option (Blk×Hp)).isNone=true from rfl)];exact hR _ _ ⟨.empty h,Fr.refl _ _⟩
 | @real b x h ok=>
  rw[if_neg (show ¬(some (b,x)).isNone=true from Bool.false_ne_true)]
  obtain⟨h1,h2⟩:=h.putEp (IntKind.wrap .u64 (x.ep+1))
  refine⟨_,rfl,_,by rw[addr_add_mk];exact h.epAt,by rw[addr_add_mk];exact h1,λH2 hH2=>?_⟩
  rw[addr_add_mk]at hH2
  subst hH2
  exact hR _ _ ⟨.real h2.1 ok,h2.2⟩
def Mem.objWords(m:Mem)(w:Int):List Int:=(List.range (m.len w).toNat).map λ(i:Nat)=>m.get (w / 8+1+(i:Int))
theorem Mem.objWords_len(m:Mem)(w:Int):(m.objWords w).length=(m.len w).toNat:=by unfold Mem.objWords;simp
theorem Mem.objWords_get(m:Mem)(w:Int){i:Nat}(h:i< (m.objWords w).length):(m.objWords w)[i]=m.get (w / 8+1+(i:Int)):=by simp[Mem.objWords]
theorem Thing.words{m:Mem}{w kind more:Int}{ws:List Int}(h:Thing m w kind more ws):m.objWords w=ws:=by
 refine List.ext_getElem (by rw[Mem.objWords_len,h.len];omega) λi h1 h2=>?_
 rw[Mem.objWords_get]
 exact h.get i h2
