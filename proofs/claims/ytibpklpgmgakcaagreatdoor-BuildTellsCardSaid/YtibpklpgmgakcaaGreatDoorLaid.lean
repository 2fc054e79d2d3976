/-
 What is laid on a heap: how many words are used, which were free before. Proves nothing of any one statement.
-/
import Derived.Test.YtibpklpgmgakcaaGreatDoorWords
import Derived.Test.YtibpklpgmgakcaaGreatDoorLiveT
import Derived.Test.YtibpklpgmgakcaaGreatDoorCons
import Derived.Test.YtibpklpgmgakcaaGreatDoorNumH
set_option linter.unusedVariables false
set_option linter.unusedSimpArgs false
namespace Go.Proofs.YtibpklpgmgakcaaGreatDoor
open Go

theorem sum_filter(f:Nat->Int)(p:Nat->Bool): ∀l:List Nat,((l.filter p).map f).sum=(l.map λi=>if p i=true then f i else 0).sum
 | []=>rfl
 | i::l=>by
  have ih:=sum_filter f p l
  by_cases h:p i=true
  ·rw[List.filter_cons_of_pos h,List.map_cons,List.sum_cons,List.map_cons,List.sum_cons,ih,if_pos h]
  ·rw[List.filter_cons_of_neg h,List.map_cons,List.sum_cons,ih,if_neg h];omega
theorem sum_one{f g:Nat->Int}{d:Int}{j:Nat}(h1: ∀i,i≠j->g i=f i)(h2:g j=f j+d): ∀k,((List.range k).map g).sum=((List.range k).map f).sum+(if j<k then d else 0)
 | 0=>by simp
 | k+1=>by
  have ih:=sum_one h1 h2 k
  rw[List.range_succ,List.map_append,List.sum_append,List.map_append,List.sum_append,ih]
  simp only[List.map_cons,List.map_nil,List.sum_cons,List.sum_nil]
  by_cases hk:k=j
  ·subst hk
   rw[if_neg (by omega),if_pos (by omega),h2];omega
  ·rw[h1 k hk]
   by_cases hl:j<k
   ·rw[if_pos hl,if_pos (by omega)];omega
   ·rw[if_neg hl,if_neg (by omega)];omega
def Mem.wordsAt(m:Mem)(gs:List Int)(i:Nat):Int:=if(decide (0< (m.seg i).taken) && (gs.isEmpty || decide ((m.seg i).gen∈gs)))=true then(m.seg i).n else 0
theorem words_sum(m:Mem)(gs:List Int):m.words gs=((List.range m.limit).map (m.wordsAt gs)).sum:=by
 unfold Mem.words Mem.sumN Mem.takenTo
 rw[sum_filter];rfl
def Mem.Gen0(m:Mem):Prop:= ∀i,(m.seg i).taken≠0->(m.seg i).gen=0
structure Laid (m m':Mem) (w:Int) (n:Nat):Prop where
 words: ∀gs:List Int,gs=[]\/gs=[0]->m'.words gs=m.words gs+n
 gen0:m.Gen0->m'.Gen0
 addr:isAddr w/\w % 8≠6/\w % 8≠0
 one:w / 8 / 64=(w / 8+n-1) / 64/\0<=w / 8
 gen:m'.genOf w=(0,true)
 fresh: ∀i:Nat,i<n-> ¬m.used (w / 8+i)
 keep: ∀x,m.used x->m'.used x
 mine: ∀i:Nat,i<n->m'.used (w / 8+i)
theorem Grown.laid{m m1 m':Mem}{a k tag:Int}{n:Nat}(ok:MemOK m)(ok':MemOK m')(gr:Grown m m1 a n 0 k)(s:Same' m1 m')(hn:1<=n)(ht:tag=1\/tag=2\/tag=3)(ha:a<65536):Laid m m' (a*8+tag) n:=by
 obtain⟨a0,a1,a2⟩:=gr.addr
 have e8:(a*8+tag) / 8=a:=by omega
 have hlim:m'.limit=m.limit:=s.limit.trans gr.limit
 have sj:=s.seg (a / 64).toNat
 have okj:=(ok.seg (a / 64).toNat).taken
 have okj':=(ok'.seg (a / 64).toNat).taken
 obtain⟨n1,n2,n3,n4⟩:=gr.new
 have hhas:m'.has (a / 64):=⟨by omega,by rw[hlim];exact a1,by rw[sj.2.2.2.1];exact n1⟩
 have hother: ∀i,i≠(a / 64).toNat->(m'.seg i).gen=(m.seg i).gen/\(m'.seg i).n=(m.seg i).n/\(m'.seg i).taken=(m.seg i).taken:=λi hi=>by
  have h1:=s.seg i
  rw[gr.others i hi]at h1
  exact⟨h1.1,h1.2.2.1,h1.2.2.2.1⟩
 have hkeep: ∀x,m.used x->m'.used x:=λx hx=>by
  obtain⟨x0,x1,x2⟩:=hx
  by_cases hi:(x / 64).toNat=(a / 64).toNat
  ·have hx64:x / 64=a / 64:=by have:=x1.1;omega
   rw[hx64]at x1 x2
   obtain⟨_,_,o3,_⟩:=gr.old x1.2.2
   refine⟨x0,by rw[hx64];exact hhas,?_⟩
   rw[hx64,sj.2.2.1,n4];omega
  ·obtain⟨h1,h2,h3⟩:=hother _ hi
   exact⟨x0,⟨x1.1,by rw[hlim];exact x1.2.1,by rw[h3];exact x1.2.2⟩,by rw[h2];exact x2⟩
 refine⟨λgs hgs=>?_,λh i hi=>?_,⟨⟨by omega,by omega⟩,by omega,by omega⟩,by rw[e8];omega,?_,λi hi hu=>?_,hkeep,λi hi=>?_⟩
 ·have h1: ∀i,i≠(a / 64).toNat->m'.wordsAt gs i=m.wordsAt gs i:=λi hi=>by
   obtain⟨h1,h2,h3⟩:=hother i hi
   unfold Mem.wordsAt;rw[h1,h2,h3]
  have h2:m'.wordsAt gs (a / 64).toNat=m.wordsAt gs (a / 64).toNat+n:=by
   have hin:(gs.isEmpty || decide ((0:Int)∈gs))=true:=by rcases hgs with rfl | rfl<;>rfl
   unfold Mem.wordsAt
   rw[sj.1,sj.2.2.1,sj.2.2.2.1,n2,n4,decide_eq_true (show 0< (m1.seg (a / 64).toNat).taken by rw[sj.2.2.2.1]at okj';omega),hin,if_pos (show(true && true)=true from rfl)]
   by_cases ht0:(m.seg (a / 64).toNat).taken=0
   ·rw[ht0,if_neg (by simp),gr.fresh ht0]
   ·obtain⟨o1,_,o3,_⟩:=gr.old ht0
    rw[o1,o3,hin,decide_eq_true (show 0< (m.seg (a / 64).toNat).taken by omega),if_pos (show(true && true)=true from rfl)]
  rw[words_sum,words_sum,hlim,sum_one h1 h2,if_pos (by omega)]
 ·by_cases hj:i=(a / 64).toNat
  ·subst hj;rw[sj.1];exact n2
  ·obtain⟨h1,h2,h3⟩:=hother i hj
   rw[h1];exact h i (by rw[<-h3];exact hi)
 ·unfold Mem.genOf
  rw[e8,if_pos ⟨⟨by omega,by omega⟩,by omega⟩,if_pos hhas,decide_eq_true hhas,sj.1,n2]
 ·rw[e8]at hu
  obtain⟨x0,x1,x2⟩:=hu
  have h64:(a+(i:Int)) / 64=a / 64:=by omega
  rw[h64]at x1 x2
  obtain⟨_,_,o3,_⟩:=gr.old x1.2.2
  omega
 ·rw[e8]
  have h64:(a+(i:Int)) / 64=a / 64:=by omega
  refine⟨by omega,by rw[h64];exact hhas,?_⟩
  rw[h64,sj.2.2.1,n4];omega
theorem alloc_may{s:Sp}{g k n:Int}(h:(s.alloc g k n).2.2=0):may g k n:=by
 by_cases hm:may g k n
 ·exact hm
 ·unfold Sp.alloc at h
  rw[if_pos hm]at h
  exact absurd h (by show¬((1:Int)=0);decide)
theorem put_laid{s:Sp}(ok:SpOK s){kind tag:Int}{ws:List Int}(ht:tag=1\/tag=2\/tag=3)(hw: ∀w∈ws,IsWord w)(h1:1<=ws.length)(h:(s.put kind tag ws).2.2=0):Laid s.mem (s.put kind tag ws).1.mem (s.put kind tag ws).2.1 ws.length:=by
 by_cases hal:(s.alloc 0 kind ws.length).2.2=0
 ·have ht':tag=1\/tag=2\/tag=3\/tag=6:=by omega
  obtain⟨a,e1,gr,e2,ok',ha,_⟩:=Sp.put_ok ok (alloc_may hal) ht' hw hal
  rw[e1]
  exact gr.laid ok.mem ok'.mem (by rw[e2];exact Same'.sets _ _ _) h1 ht ha
 ·unfold Sp.put at h
  rw[if_neg hal]at h
  exact absurd h hal
theorem make_laid{b:Blk}{x x':Hp}{kind more w:Int}{ws:List Int}(ok:SpOK x.sp)(hw: ∀w∈ws,IsWord w)(hmo:IsWord more)(q1:makeR (some (b,x)) kind more ws=(w,0))(q2:makeO (some (b,x)) kind more ws=some (b,x')):Laid x.sp.mem x'.sp.mem w (ws.length+1):=by
 unfold makeR at q1
 unfold makeO at q2
 by_cases hk:(1<=kind/\kind<=13)/\more<281474976710656
 case neg=>rw[if_pos hk]at q1;simp at q1
 rw[if_neg (λh=>h hk)]at q1 q2
 by_cases hl:62<ws.length
 ·rw[if_pos hl]at q1;simp at q1
 rw[if_neg hl]at q1 q2
 have e1:(x.sp.put (rawK kind) 3 ((more*65536+ws.length*256+kind*8+5)::ws)).2=(w,0):=q1
 have e2:{x with sp:=(x.sp.put (rawK kind) 3 ((more*65536+ws.length*256+kind*8+5)::ws)).1}=x':=by
  have h:some (b,{x with sp:=(x.sp.put (rawK kind) 3 ((more*65536+ws.length*256+kind*8+5)::ws)).1})=some (b,x'):=q2
  simpa using h
 have h:=put_laid (kind:=rawK kind) (tag:=3) (ws:=(more*65536+ws.length*256+kind*8+5)::ws) ok (by omega) (λv hv=>by
  rcases List.mem_cons.1 hv with rfl | hv
  ·have:=hmo.1;exact⟨by omega,by omega⟩
  ·exact hw v hv) (by simp) (by rw[e1])
 rw[e1]at h
 subst e2
 exact h
end Go.Proofs.YtibpklpgmgakcaaGreatDoor
