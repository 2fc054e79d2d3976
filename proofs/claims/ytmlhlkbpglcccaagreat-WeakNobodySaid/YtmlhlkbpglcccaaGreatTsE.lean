/-
 A round of the law of traces (package morainelaw11): weak cars behind it; what a trace leaves. Proves nothing of any one statement.
-/
import Derived.Test.YtmlhlkbpglcccaaGreatTsB
set_option linter.unusedVariables false
set_option linter.unusedSimpArgs false
namespace Go.Proofs.YtmlhlkbpglcccaaGreat
open Go

theorem eJ{k lo x:Int}{n:Nat}:x∈eU k lo n ↔ ∃j:Nat,j<n/\x=k*64+(lo+2*(j:Int)):=by
 unfold eU
 rw[List.mem_map]
 constructor
 ·rintro⟨j,hj,rfl⟩;rw[List.mem_range]at hj;exact⟨j,hj,rfl⟩
 ·rintro⟨j,hj,rfl⟩;exact⟨j,by rw[List.mem_range];exact hj,rfl⟩
theorem kC(O:Nat->Bool): ¬aQ O 44:=λh=>by have:=h.1.1;omega
theorem ow{O:Nat->Bool}{m:Mem}{a x:Int}(hx:m.used x):(brk O m a).get x=if x=a/\aQ O (m.get x)then 44 else m.get x:=by
 have x0:=hx.1
 unfold brk
 by_cases e:x=a
 ·subst e
  have hr:m.read x=m.get x:=by unfold Mem.read;rw[if_pos hx]
  rw[hr]
  by_cases ho:aQ O (m.get x)
  ·rw[if_pos ho,if_pos ⟨rfl,ho⟩]
   unfold Mem.wr;rw[if_pos hx,Mem.set_get x x0 x0,if_pos rfl]
  ·rw[if_neg ho,if_neg (λq=>ho q.2)]
 ·rw[if_neg (show ¬(x=a/\aQ O (m.get x))from λq=>e q.1)]
  split
  ·unfold Mem.wr
   by_cases hu:m.used a
   ·rw[if_pos hu,Mem.set_get x x0 hu.1,if_neg e]
   ·rw[if_neg hu]
  ·rfl
theorem jW(O:Nat->Bool): ∀(l:List Int) {m:Mem} {x:Int},m.used x->(l.foldl (brk O) m).get x=if x∈l/\aQ O (m.get x)then 44 else m.get x
 | [],m,x,hx=>by rw[if_neg (λq=>by simp at q)];rfl
 | a::l,m,x,hx=>by
  have ih:=jW O l (m:=brk O m a) ((ly O m a).used.2 hx)
  show(l.foldl (brk O) (brk O m a)).get x=_
  rw[ih,ow hx]
  by_cases e:x=a/\aQ O (m.get x)
  ·rw[if_pos e,if_neg (λq=>kC O q.2),if_pos ⟨by rw[e.1];simp,e.2⟩]
  ·rw[if_neg e]
   by_cases h:x∈l/\aQ O (m.get x)
   ·rw[if_pos h,if_pos ⟨by simp[h.1],h.2⟩]
   ·rw[if_neg h,if_neg (λq=>?_)]
    rcases List.mem_cons.1 q.1 with r | r
    ·exact e ⟨r,q.2⟩
    ·exact h ⟨r,q.2⟩
theorem eY{lo hi:Int}{j:Nat}:j<dW lo hi ↔ lo+2*(j:Int)<hi:=by
 unfold dW;omega

section
variable {Z:TZ} {g F0:Int} {fw:Int->Option Int} {al:List Int} {s:Sp} {sz:Int->Nat}
theorem gm.frmAt{tr:Tr}(B:gm Z.m g Z.T tr){k:Int}(hk:0<=k):seenAt tr.frm k=if Z.m.has k/\(Z.m.seg k.toNat).gen=Z.T then(Z.m.seg k.toNat).n else 0:=by
 unfold seenAt
 rw[B.frm k hk]
 by_cases h:Z.m.has k/\(Z.m.seg k.toNat).gen=Z.T
 ·rw[if_pos h,if_pos h]
 ·rw[if_neg h,if_neg h]
theorem kD{tr:Tr}(S:dT Z g F0)(t:Tri Z F0 fw al s sz)(B:gm Z.m g Z.T tr){l:List Nat}(hl:dP s.mem [Z.T] l): ∀a∈s.mem.weaks tr l,s.mem.kAt a=1/\a % 2=0/\a<=1000000:=by
 intro a ha
 have hlim:=t.ok.mem.lim
 unfold Mem.weaks at ha
 rcases List.mem_append.1 ha with h | h
 ·obtain⟨k,hk,h⟩:=List.mem_flatMap.1 h
  obtain⟨khas,klim,_,_⟩:=hl.has hk
  have kd:((k:Nat):Int).toNat=k:=by omega
  unfold Mem.weakSeg at h
  by_cases hc:(s.mem.seg k).kind=1/\tr.old k=false
  case neg=>rw[if_neg hc]at h;simp at h
  rw[if_pos hc]at h
  obtain⟨j,hj,rfl⟩:=eJ.1 h
  rw[eY]at hj
  have hn:=(t.ok.mem.seg k).n
  have hf:=B.frmAt (k:=k) (by omega)
  have hev:seenAt tr.frm k % 2=0/\0<=seenAt tr.frm k:=by
   rw[hf,kd]
   by_cases q:Z.m.has k/\(Z.m.seg k).gen=Z.T
   ·rw[if_pos q]
    have hz:=(t.heads.seg k (by have:=q.1.2.2;rw[kd]at this;exact this)).2.1
    exact⟨S.even k (by rw[<-hz,hc.1];decide),(S.ok.seg k).n.1⟩
   ·rw[if_neg q];exact⟨rfl,Int.le_refl _⟩
  refine⟨?_,by omega,by omega⟩
  unfold Mem.kAt
  rw[show((k:Int)*64+(seenAt tr.frm k+2*(j:Int))) / 64=k by omega,kd];exact hc.1
 ·obtain⟨c,hc,h⟩:=List.mem_flatMap.1 h
  obtain⟨c1,c2,c3,c4⟩:=B.cardOf S c hc
  have hs:=t.heads.has c1
  have hsg:s.mem.segOr c.1=s.mem.seg c.1.toNat:=by unfold Mem.segOr;rw[if_pos hs]
  unfold Mem.weakCard at h
  rw[hsg]at h
  by_cases hk:(s.mem.seg c.1.toNat).kind=1
  case neg=>rw[if_neg hk]at h;simp at h
  rw[if_pos hk]at h
  obtain⟨j,hj,rfl⟩:=eJ.1 h
  rw[eY]at hj
  have hn:=(t.ok.mem.seg c.1.toNat).n
  have h0:=hs.1
  have h1:=hs.2.1
  have hj2:c.2*16+2*(j:Int)< (s.mem.seg c.1.toNat).n/\c.2*16+2*(j:Int)< (c.2+1)*16:=by omega
  refine⟨?_,by omega,by omega⟩
  unfold Mem.kAt
  rw[show(c.1*64+(c.2*16+2*(j:Int))) / 64=c.1 by omega];exact hk
theorem kE{tr:Tr}(S:dT Z g F0)(t:Tri Z F0 fw al s sz)(hm:iu Z.m)(B:gm Z.m g Z.T tr)(hO:tr.old=Z.O){l:List Nat}(hl:dP s.mem [Z.T] l){x v:Int}(hu:s.mem.used x)(ho:Z.O (x / 64).toNat=false)(hk:s.mem.kAt x=1)(hx:x % 2=0)(hv:Was Z fw x v)(hold:aQ Z.O v):x∈s.mem.weaks tr l:=by
 have hlim:=t.ok.mem.lim
 have x0:=hu.1
 have xl:=hu.2.1.2.1
 unfold Mem.weaks
 rcases hv with⟨h1,h2,h3⟩ | ⟨a,b,i,h1,h2,h3,h4⟩
 ·subst h3
  have hkz:Z.m.kAt x=1:=by rw[<-(t.kAt h1).1];exact hk
  have hd:=B.dirty S hm h1 ho (by rw[hkz];decide) hold (S.sound.good x h1 (by rw[hkz];decide))
  refine List.mem_append_right _ (List.mem_flatMap.2 ⟨_,hd,?_⟩)
  have hsg:s.mem.segOr (x / 64)=s.mem.seg (x / 64).toNat:=by unfold Mem.segOr;rw[if_pos hu.2.1]
  unfold Mem.weakCard
  rw[hsg,if_pos hk]
  have hn:=hu.2.2
  refine eJ.2 ⟨((x % 64 % 16) / 2).toNat,?_,?_⟩
  ·rw[eY]
   show x % 64 / 16*16+2*((((x % 64 % 16) / 2).toNat:Nat):Int)<min (s.mem.seg (x / 64).toNat).n ((x % 64 / 16+1)*16)
   omega
  ·show x=x / 64*64+(x % 64 / 16*16+2*((((x % 64 % 16) / 2).toNat:Nat):Int))
   omega
 ·have im:=(t.img a b h1).2
  have hf:=im.fit
  have e64:x / 64=b / 64:=by omega
  have hgen:(s.mem.seg (x / 64).toNat).gen=Z.T:=by rw[e64];exact im.gen
  have hkl:(x / 64).toNat∈l:=by
   refine hl.perm.mem_iff.2 ?_
   unfold Mem.takenTo
   rw[List.mem_filter,List.mem_range]
   have:=hu.2.1.2.2
   have:=(t.ok.mem.seg (x / 64).toNat).taken
   refine⟨by omega,?_⟩
   simp only[Bool.and_eq_true,decide_eq_true_eq,Bool.or_eq_true,List.mem_singleton]
   exact⟨by omega,.inr hgen⟩
  refine List.mem_append_left _ (List.mem_flatMap.2 ⟨_,hkl,?_⟩)
  unfold Mem.weakSeg
  rw[if_pos ⟨hk,by rw[hO];exact ho⟩]
  have kd:(((x / 64).toNat:Nat):Int)=x / 64:=by omega
  rw[kd]
  have hfr:=B.frmAt (k:=x / 64) (by omega)
  have hnz: ¬Z.m.used x:=by rw[h3];exact im.new i h2
  have hlo:seenAt tr.frm (x / 64) % 2=0/\0<=seenAt tr.frm (x / 64)/\seenAt tr.frm (x / 64)<=x % 64:=by
   rw[hfr]
   by_cases q:Z.m.has (x / 64)/\(Z.m.seg (x / 64).toNat).gen=Z.T
   ·rw[if_pos q]
    have hz:=(t.heads.seg (x / 64).toNat q.1.2.2).2.1
    refine⟨S.even _ (by rw[<-hz];show s.mem.kAt x<=1;rw[hk];decide),(S.ok.seg _).n.1,?_⟩
    rcases Int.lt_or_le (x % 64) (Z.m.seg (x / 64).toNat).n with r | r
    ·exact absurd ⟨x0,q.1,r⟩ hnz
    ·exact r
   ·rw[if_neg q];exact⟨rfl,Int.le_refl _,by omega⟩
  have hn:=hu.2.2
  refine eJ.2 ⟨((x % 64-seenAt tr.frm (x / 64)) / 2).toNat,?_,?_⟩
  ·rw[eY];omega
  ·omega
theorem mK.of{tr:Tr}(S:dT Z g F0)(t:Tri Z F0 fw al s sz)(hm:iu Z.m)(B:gm Z.m g Z.T tr)(hO:tr.old=Z.O){l:List Nat}(hl:dP s.mem [Z.T] l):mK Z fw s {s with mem:=(s.mem.weaks tr l).foldl (brk Z.O) s.mem}:=by
 refine⟨kB _ _ _,rfl,mL _ _ t.ok,λx hu ho hw=>?_,λx hu ho hk hx=>?_⟩
 ·show((s.mem.weaks tr l).foldl (brk Z.O) s.mem).get x=_
  rw[jW _ _ hu,if_neg (λq=>?_)]
  obtain⟨h1,h2,_⟩:=kD S t B hl x q.1
  exact hw ⟨h1,h2⟩
 ·show((s.mem.weaks tr l).foldl (brk Z.O) s.mem).get x=44\/ ∀v,Was Z fw x v->Dn Z.O fw v/\((s.mem.weaks tr l).foldl (brk Z.O) s.mem).get x=Fw Z.O fw v
  rw[jW _ _ hu]
  by_cases q:x∈s.mem.weaks tr l/\aQ Z.O (s.mem.get x)
  ·rw[if_pos q];exact .inl rfl
  ·rw[if_neg q]
   right
   intro v hv
   have hval:s.mem.get x=v:=by
    rcases t.val x v hv with r | ⟨r,_⟩
    ·exact r
    ·have:=r.2.resolve_left (λe=>e hk);omega
   have hno: ¬aQ Z.O v:=λho'=>q ⟨kE S t hm B hO hl hu ho hk hx hv ho',by rw[hval];exact ho'⟩
   exact⟨λh=>absurd h hno,by rw[iM hno];exact hval⟩
end

theorem nN{m:Mem}{tr:Tr}{l:List Nat}{T:Int}(ok:bI m)(hf:ej tr.frm)(hcs:jr tr.cards)(hl:dP m [T] l): ∀a∈m.weaks tr l,a<=1000000:=by
 intro a ha
 have hlim:=ok.lim
 unfold Mem.weaks at ha
 rcases List.mem_append.1 ha with h | h
 ·obtain⟨k,hk,h⟩:=List.mem_flatMap.1 h
  obtain⟨_,klim,_,_⟩:=hl.has hk
  unfold Mem.weakSeg at h
  by_cases hc:(m.seg k).kind=1/\tr.old k=false
  case neg=>rw[if_neg hc]at h;simp at h
  rw[if_pos hc]at h
  obtain⟨j,hj,rfl⟩:=eJ.1 h
  rw[eY]at hj
  have hn:=(ok.seg k).n
  omega
 ·obtain⟨c,hc,h⟩:=List.mem_flatMap.1 h
  have hck:=hcs c hc
  unfold Mem.weakCard at h
  by_cases hk:(m.segOr c.1).kind=1
  case neg=>rw[if_neg hk]at h;simp at h
  rw[if_pos hk]at h
  obtain⟨j,hj,rfl⟩:=eJ.1 h
  rw[eY]at hj
  omega
