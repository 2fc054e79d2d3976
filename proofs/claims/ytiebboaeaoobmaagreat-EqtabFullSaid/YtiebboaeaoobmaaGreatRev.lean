/-
 slices.Reverse of words. Proves nothing of any one statement.
-/
import Derived.Test.YtiebboaeaoobmaaGreatRow
import Derived.Test.YtiebboaeaoobmaaGreatPair
import Derived.Test.YtiebboaeaoobmaaGreatFslices
set_option linter.unusedVariables false
set_option linter.unusedSimpArgs false
namespace Go.Proofs.YtiebboaeaoobmaaGreat
open Go

theorem qj(l:List Int)(i:Nat)(v:Int):wvs (l.set i v)=(wvs l).set i (.int .u64 v):=by unfold wvs;rw[List.map_set]
theorem qk?(l:List Int)(i:Nat):(wvs l)[i]?=l[i]?.map (Value.int .u64):=by unfold wvs;rw[List.getElem?_map]
theorem ls{H:zV}{T:TypeId}{B:zW}{n c:Nat}{ws:List Int}(how:Own H T 1 B n c (wvs ws))(hn:n=ws.length)(hl:n<=1000000):
  aX.C B n c H (λv H'=>Own H' T 1 B n c (wvs ws.reverse)/\Fr (blks B) H H'):=by
 subst hn
 refine HC.via λR hR=>aX.link ?_
 unfold aX.pt zY
 refine⟨λi j A=> ∃(k:Nat) (cs:List Int),i=k/\j=(ws.length:Int)-1-k/\2*k<=ws.length/\Own A T 1 B ws.length c (wvs cs)/\cs.length=ws.length/\(∀t,t<ws.length->cs[t]?=if t<k\/ws.length-1-k<t then ws[ws.length-1-t]? else ws[t]?)/\Fr (blks B) H A,
  λi _ _=>((ws.length:Int)-i).toNat,⟨0,ws,rfl,by rw[w64 (by omega)];omega,by omega,how,rfl,λt ht=>by rw[if_neg (by omega)],Fr.refl _ _⟩,?_⟩
 rintro i j A ⟨k,cs,rfl,rfl,hk,hA,hcl,hcs,fA⟩
 by_cases hlt:(k:Int)< (ws.length:Int)-1-k
 ·rw[if_pos hlt]
  have hkj:k<ws.length-1-k:=by omega
  have hj:((ws.length:Int)-1-k).toNat=ws.length-1-k:=by omega
  have g1:(wvs cs)[ws.length-1-k]?=some (.int .u64 (cs[ws.length-1-k]'(by omega))):=by rw[qk?,List.getElem?_eq_getElem (by omega)];rfl
  have g2:(wvs cs)[k]?=some (.int .u64 (cs[k]'(by omega))):=by rw[qk?,List.getElem?_eq_getElem (by omega)];rfl
  obtain⟨a,ha,h1⟩:=hA.at g1
  obtain⟨a',ha',h2⟩:=hA.at g2
  obtain rfl:a=a':=by rw[ha]at ha';exact Option.some.inj ha'
  subst ha
  refine⟨a,rfl,⟨by omega,by omega⟩,_,by rw[hj,Nat.mul_one];exact h1,⟨by omega,by omega⟩,_,by rw[show Int.toNat (k:Int)*1=k by omega];exact h2,⟨by omega,by omega⟩,?_⟩
  rw[show Int.toNat (k:Int)*1=k by omega,hj,Nat.mul_one]
  obtain⟨c2,p2⟩:=hA.put (i:=k) (by omega) (.int .u64 (cs[ws.length-1-k]'(by omega)))
  refine⟨c2,λH2 hH2=>⟨⟨by omega,by omega⟩,?_⟩⟩
  obtain⟨o2,f2⟩:=p2 H2 hH2
  obtain⟨c3,p3⟩:=o2.put (i:=ws.length-1-k) (by omega) (.int .u64 (cs[k]'(by omega)))
  refine⟨c3,λH3 hH3=>?_⟩
  obtain⟨o3,f3⟩:=p3 H3 hH3
  rw[<-qj,<-qj]at o3
  rw[w64 (n:=(k:Int)+1) (by omega),w64 (n:=(ws.length:Int)-1-k-1) (by omega)]
  refine⟨⟨k+1,_,by omega,by omega,by omega,o3,by simp[hcl],λt ht=>?_,(fA.trans (by simpa using f2)).trans (by simpa using f3)⟩,by show((ws.length:Int)-(k+1)).toNat< ((ws.length:Int)-k).toNat;omega⟩
  rw[List.getElem?_set,List.length_set]
  by_cases ht1:ws.length-1-k=t
  ·rw[if_pos ht1,if_pos (by omega),if_pos (by omega)]
   have e:=hcs k (by omega)
   rw[if_neg (by omega),List.getElem?_eq_getElem (by omega)]at e
   rw[show ws.length-1-t=k by omega,<-e]
  rw[if_neg ht1,List.getElem?_set]
  by_cases ht2:k=t
  ·rw[if_pos ht2,if_pos (by omega),if_pos (by omega)]
   have e:=hcs (ws.length-1-k) (by omega)
   rw[if_neg (by omega),List.getElem?_eq_getElem (by omega)]at e
   rw[<-ht2,<-e]
  rw[if_neg ht2,hcs t ht]
  by_cases h3:t<k\/ws.length-1-k<t
  ·rw[if_pos h3,if_pos (by omega)]
  ·rw[if_neg h3,if_neg (by omega)]
 ·rw[if_neg hlt]
  refine hR _ _ ⟨?_,fA⟩
  have:cs=ws.reverse:=by
   refine List.ext_getElem? λt=>?_
   rcases Nat.lt_or_ge t ws.length with ht | ht
   ·rw[hcs t ht,List.getElem?_reverse ht]
    by_cases h3:t<k\/ws.length-1-k<t
    ·rw[if_pos h3]
    ·rw[if_neg h3];congr 1;omega
   ·rw[List.getElem?_eq_none (by omega),List.getElem?_eq_none (by simp;omega)]
  rw[<-this];exact hA
