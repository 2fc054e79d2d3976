/-
 A round of the law of traces (package morainelaw11): weak cars behind it; what a trace leaves. Proves nothing of any one statement.
-/
import Derived.Test.YtffacgdneichhaaGreatDoorTsB
set_option linter.unusedVariables false
set_option linter.unusedSimpArgs false
namespace Go.Proofs.YtffacgdneichhaaGreatDoor
open Go

theorem fm{k lo x:Int}{n:Nat}:x∈fI k lo n ↔ ∃j:Nat,j<n/\x=k*64+(lo+2*(j:Int)):=by
 unfold fI
 rw[List.mem_map]
 constructor
 ·rintro⟨j,hj,rfl⟩;rw[List.mem_range]at hj;exact⟨j,hj,rfl⟩
 ·rintro⟨j,hj,rfl⟩;exact⟨j,by rw[List.mem_range];exact hj,rfl⟩
theorem mX(O:Nat->Bool): ¬aM O 44:=λh=>by have:=h.1.1;omega
theorem rQ{O:Nat->Bool}{m:Mem}{a x:Int}(hx:m.used x):(brk O m a).get x=if x=a/\aM O (m.get x)then 44 else m.get x:=by
 have x0:=hx.1
 unfold brk
 by_cases e:x=a
 ·subst e
  have hr:m.read x=m.get x:=by unfold Mem.read;rw[if_pos hx]
  rw[hr]
  by_cases ho:aM O (m.get x)
  ·rw[if_pos ho,if_pos ⟨rfl,ho⟩]
   unfold Mem.wr;rw[if_pos hx,Mem.set_get x x0 x0,if_pos rfl]
  ·rw[if_neg ho,if_neg (λq=>ho q.2)]
 ·rw[if_neg (show ¬(x=a/\aM O (m.get x))from λq=>e q.1)]
  split
  ·unfold Mem.wr
   by_cases hu:m.used a
   ·rw[if_pos hu,Mem.set_get x x0 hu.1,if_neg e]
   ·rw[if_neg hu]
  ·rfl
theorem mc(O:Nat->Bool): ∀(l:List Int) {m:Mem} {x:Int},m.used x->(l.foldl (brk O) m).get x=if x∈l/\aM O (m.get x)then 44 else m.get x
 | [],m,x,hx=>by rw[if_neg (λq=>by simp at q)];rfl
 | a::l,m,x,hx=>by
  have ih:=mc O l (m:=brk O m a) ((oh O m a).used.2 hx)
  show(l.foldl (brk O) (brk O m a)).get x=_
  rw[ih,rQ hx]
  by_cases e:x=a/\aM O (m.get x)
  ·rw[if_pos e,if_neg (λq=>mX O q.2),if_pos ⟨by rw[e.1];simp,e.2⟩]
  ·rw[if_neg e]
   by_cases h:x∈l/\aM O (m.get x)
   ·rw[if_pos h,if_pos ⟨by simp[h.1],h.2⟩]
   ·rw[if_neg h,if_neg (λq=>?_)]
    rcases List.mem_cons.1 q.1 with r | r
    ·exact e ⟨r,q.2⟩
    ·exact h ⟨r,q.2⟩
theorem fL{lo hi:Int}{j:Nat}:j<ee lo hi ↔ lo+2*(j:Int)<hi:=by
 unfold ee;omega

section
variable {Z:TZ} {g F0:Int} {fw:Int->Option Int} {al:List Int} {s:Sp} {sz:Int->Nat}
theorem gi.frmAt{tr:Tr}(B:gi Z.m g Z.T tr){k:Int}(hk:0<=k):seenAt tr.frm k=if Z.m.has k/\(Z.m.seg k.toNat).gen=Z.T then(Z.m.seg k.toNat).n else 0:=by
 unfold seenAt
 rw[B.frm k hk]
 by_cases h:Z.m.has k/\(Z.m.seg k.toNat).gen=Z.T
 ·rw[if_pos h,if_pos h]
 ·rw[if_neg h,if_neg h]
theorem mY{tr:Tr}(S:du Z g F0)(t:Tri Z F0 fw al s sz)(B:gi Z.m g Z.T tr){l:List Nat}(hl:eP s.mem [Z.T] l): ∀a∈s.mem.weaks tr l,s.mem.kAt a=1/\a % 2=0/\a<=1000000:=by
 intro a ha
 have hlim:=t.ok.mem.lim
 unfold Mem.weaks at ha
 rcases List.mem_append.1 ha with h | h
 ·obtain⟨k,hk,h⟩:=List.mem_flatMap.1 h
  obtain⟨khas,klim,_,_⟩:=hl.has hk
  have kd:((k:Nat):Int).toNat=k:=by omega
  unfold Mem.weakSeg at h
  by_cases hc:(s.mem.seg k).kind=1/\tr.old k=false
  case neg=>rw[if_neg hc]at h;simp at h
  rw[if_pos hc]at h
  obtain⟨j,hj,rfl⟩:=fm.1 h
  rw[fL]at hj
  have hn:=(t.ok.mem.seg k).n
  have hf:=B.frmAt (k:=k) (by omega)
  have hev:seenAt tr.frm k % 2=0/\0<=seenAt tr.frm k:=by
   rw[hf,kd]
   by_cases q:Z.m.has k/\(Z.m.seg k).gen=Z.T
   ·rw[if_pos q]
    have hz:=(t.heads.seg k (by have:=q.1.2.2;rw[kd]at this;exact this)).2.1
    exact⟨S.even k (by rw[<-hz,hc.1];decide),(S.ok.seg k).n.1⟩
   ·rw[if_neg q];exact⟨rfl,Int.le_refl _⟩
  refine⟨?_,by omega,by omega⟩
  unfold Mem.kAt
  rw[show((k:Int)*64+(seenAt tr.frm k+2*(j:Int))) / 64=k by omega,kd];exact hc.1
 ·obtain⟨c,hc,h⟩:=List.mem_flatMap.1 h
  obtain⟨c1,c2,c3,c4⟩:=B.cardOf S c hc
  have hs:=t.heads.has c1
  have hsg:s.mem.segOr c.1=s.mem.seg c.1.toNat:=by unfold Mem.segOr;rw[if_pos hs]
  unfold Mem.weakCard at h
  rw[hsg]at h
  by_cases hk:(s.mem.seg c.1.toNat).kind=1
  case neg=>rw[if_neg hk]at h;simp at h
  rw[if_pos hk]at h
  obtain⟨j,hj,rfl⟩:=fm.1 h
  rw[fL]at hj
  have hn:=(t.ok.mem.seg c.1.toNat).n
  have h0:=hs.1
  have h1:=hs.2.1
  have hj2:c.2*16+2*(j:Int)< (s.mem.seg c.1.toNat).n/\c.2*16+2*(j:Int)< (c.2+1)*16:=by omega
  refine⟨?_,by omega,by omega⟩
  unfold Mem.kAt
  rw[show(c.1*64+(c.2*16+2*(j:Int))) / 64=c.1 by omega];exact hk
theorem mZ{tr:Tr}(S:du Z g F0)(t:Tri Z F0 fw al s sz)(hm:jc Z.m)(B:gi Z.m g Z.T tr)(hO:tr.old=Z.O){l:List Nat}(hl:eP s.mem [Z.T] l){x v:Int}(hu:s.mem.used x)(ho:Z.O (x / 64).toNat=false)(hk:s.mem.kAt x=1)(hx:x % 2=0)(hv:Was Z fw x v)(hold:aM Z.O v):x∈s.mem.weaks tr l:=by
 have hlim:=t.ok.mem.lim
 have x0:=hu.1
 have xl:=hu.2.1.2.1
 unfold Mem.weaks
 rcases hv with⟨h1,h2,h3⟩ | ⟨a,b,i,h1,h2,h3,h4⟩
 ·subst h3
  have hkz:Z.m.kAt x=1:=by rw[<-(t.kAt h1).1];exact hk
  have hd:=B.dirty S hm h1 ho (by rw[hkz];decide) hold (S.sound.good x h1 (by rw[hkz];decide))
  refine List.mem_append_right _ (List.mem_flatMap.2 ⟨_,hd,?_⟩)
  have hsg:s.mem.segOr (x / 64)=s.mem.seg (x / 64).toNat:=by unfold Mem.segOr;rw[if_pos hu.2.1]
  unfold Mem.weakCard
  rw[hsg,if_pos hk]
  have hn:=hu.2.2
  refine fm.2 ⟨((x % 64 % 16) / 2).toNat,?_,?_⟩
  ·rw[fL]
   show x % 64 / 16*16+2*((((x % 64 % 16) / 2).toNat:Nat):Int)<min (s.mem.seg (x / 64).toNat).n ((x % 64 / 16+1)*16)
   omega
  ·show x=x / 64*64+(x % 64 / 16*16+2*((((x % 64 % 16) / 2).toNat:Nat):Int))
   omega
 ·have im:=(t.img a b h1).2
  have hf:=im.fit
  have e64:x / 64=b / 64:=by omega
  have hgen:(s.mem.seg (x / 64).toNat).gen=Z.T:=by rw[e64];exact im.gen
  have hkl:(x / 64).toNat∈l:=by
   refine hl.perm.mem_iff.2 ?_
   unfold Mem.takenTo
   rw[List.mem_filter,List.mem_range]
   have:=hu.2.1.2.2
   have:=(t.ok.mem.seg (x / 64).toNat).taken
   refine⟨by omega,?_⟩
   simp only[Bool.and_eq_true,decide_eq_true_eq,Bool.or_eq_true,List.mem_singleton]
   exact⟨by omega,.inr hgen⟩
  refine List.mem_append_left _ (List.mem_flatMap.2 ⟨_,hkl,?_⟩)
  unfold Mem.weakSeg
  rw[if_pos ⟨hk,by rw[hO];exact ho⟩]
  have kd:(((x / 64).toNat:Nat):Int)=x / 64:=by omega
  rw[kd]
  have hfr:=B.frmAt (k:=x / 64) (by omega)
  have hnz: ¬Z.m.used x:=by rw[h3];exact im.new i h2
  have hlo:seenAt tr.frm (x / 64) % 2=0/\0<=seenAt tr.frm (x / 64)/\seenAt tr.frm (x / 64)<=x % 64:=by
   rw[hfr]
   by_cases q:Z.m.has (x / 64)/\(Z.m.seg (x / 64).toNat).gen=Z.T
   ·rw[if_pos q]
    have hz:=(t.heads.seg (x / 64).toNat q.1.2.2).2.1
    refine⟨S.even _ (by rw[<-hz];show s.mem.kAt x<=1;rw[hk];decide),(S.ok.seg _).n.1,?_⟩
    rcases Int.lt_or_le (x % 64) (Z.m.seg (x / 64).toNat).n with r | r
    ·exact absurd ⟨x0,q.1,r⟩ hnz
    ·exact r
   ·rw[if_neg q];exact⟨rfl,Int.le_refl _,by omega⟩
  have hn:=hu.2.2
  refine fm.2 ⟨((x % 64-seenAt tr.frm (x / 64)) / 2).toNat,?_,?_⟩
  ·rw[fL];omega
  ·omega
theorem Broke.of{tr:Tr}(S:du Z g F0)(t:Tri Z F0 fw al s sz)(hm:jc Z.m)(B:gi Z.m g Z.T tr)(hO:tr.old=Z.O){l:List Nat}(hl:eP s.mem [Z.T] l):Broke Z fw s {s with mem:=(s.mem.weaks tr l).foldl (brk Z.O) s.mem}:=by
 refine⟨mW _ _ _,rfl,pO _ _ t.ok,λx hu ho hw=>?_,λx hu ho hk hx=>?_⟩
 ·show((s.mem.weaks tr l).foldl (brk Z.O) s.mem).get x=_
  rw[mc _ _ hu,if_neg (λq=>?_)]
  obtain⟨h1,h2,_⟩:=mY S t B hl x q.1
  exact hw ⟨h1,h2⟩
 ·show((s.mem.weaks tr l).foldl (brk Z.O) s.mem).get x=44\/ ∀v,Was Z fw x v->Dn Z.O fw v/\((s.mem.weaks tr l).foldl (brk Z.O) s.mem).get x=Fw Z.O fw v
  rw[mc _ _ hu]
  by_cases q:x∈s.mem.weaks tr l/\aM Z.O (s.mem.get x)
  ·rw[if_pos q];exact .inl rfl
  ·rw[if_neg q]
   right
   intro v hv
   have hval:s.mem.get x=v:=by
    rcases t.val x v hv with r | ⟨r,_⟩
    ·exact r
    ·have:=r.2.resolve_left (λe=>e hk);omega
   have hno: ¬aM Z.O v:=λho'=>q ⟨mZ S t hm B hO hl hu ho hk hx hv ho',by rw[hval];exact ho'⟩
   exact⟨λh=>absurd h hno,by rw[gF hno];exact hval⟩
theorem Tri.visL(S:du Z g F0): ∀(l:List Int) {fw:Int->Option Int} {al:List Int} {s:Sp} {sz:Int->Nat} {acc:List Int} (t:Tri Z F0 fw al s sz),(∀w∈l,Z.V w)-> ∃fw' al' sz',Tri Z F0 fw' al' (l.foldl (λ(st:Sp×List Int) w=>((st.1.visit Z.O Z.T w).1,st.2++[(st.1.visit Z.O Z.T w).2])) (s,acc)).1 sz'/\Le fw fw'/\
  (l.foldl (λ(st:Sp×List Int) w=>((st.1.visit Z.O Z.T w).1,st.2++[(st.1.visit Z.O Z.T w).2])) (s,acc)).2=acc++l.map (Fw Z.O fw')/\ ∀w∈l,Dn Z.O fw' w
 | [],fw,al,s,sz,acc,t,_=>⟨fw,al,sz,t,Le.refl _,by simp,λw h=>by cases h⟩
 | w::l,fw,al,s,sz,acc,t,h=>by
  have hV:=h w (by simp)
  obtain⟨v1,v2⟩:=S.V w hV
  obtain⟨fw1,al1,sz1,V⟩:=t.visit S v1 v2 (λho=> .root hV ho)
  obtain⟨fw2,al2,sz2,t2,l2,r2,d2⟩:=Tri.visL S l (acc:=acc++[(s.visit Z.O Z.T w).2]) V.tri (λw' hw'=>h w' (by simp[hw']))
  refine⟨fw2,al2,sz2,t2,V.le.trans l2,?_,λw' hw'=>?_⟩
  ·simp only[List.foldl_cons]
   rw[r2,V.val,<-lr V.dn l2]
   simp
  ·rcases List.mem_cons.1 hw' with rfl | hw'
   ·exact V.dn.mono l2
   ·exact d2 w' hw'
end

theorem Sp.look_cf(s:Sp)(old:Nat->Bool)(T seg kind lo:Int): ∀n,(s.look old T seg kind lo n).cf=s.cf
 | 0=>rfl
 | n+1=>by
  unfold Sp.look
  split
  ·rw[Sp.lookAt_cf,Sp.look_cf s old T seg kind lo n]
  ·exact Sp.look_cf s old T seg kind lo n
theorem Sp.visL_cf(O:Nat->Bool)(T:Int)(s:Sp)(l:List Int):(s.visL O T l).1.cf=s.cf:=by
 have: ∀(l:List Int) (st:Sp×List Int),(l.foldl (λst w=>((st.1.visit O T w).1,st.2++[(st.1.visit O T w).2])) st).1.cf=st.1.cf:=λl=>by
  induction l with
  | nil=>intro st;rfl
  | cons w l ih=>intro st;simp only[List.foldl_cons];rw[ih];exact Sp.visit_cf _ _ _ _
 exact this l (s,[])
theorem Sp.lookCards_cf(old:Nat->Bool)(T:Int): ∀(l:List (Int×Int)) (s:Sp),(s.lookCards old T l).cf=s.cf
 | [],s=>rfl
 | c::l,s=>by
  show((s.lookCard old T c).lookCards old T l).cf=_
  rw[Sp.lookCards_cf old T l]
  exact Sp.look_cf _ _ _ _ _ _ _
theorem qd{old:Nat->Bool}{T:Int}{s0 s:Sp}{k0 ks:List (Int×Value)}(h:fx old T s0 k0 s ks):s.cf=s0.cf:=by
 induction h with
 | refl=>rfl
 | step k _ hk hg ho hn ih=>rw[Sp.look_cf,ih]
theorem Mem.again_lim(m:Mem)(k c:Int):(m.again k c).count=m.count/\(m.again k c).free=m.free:=by
 unfold Mem.again
 split
 ·exact⟨Mem.mark_lim.2.2,Mem.mark_lim.2.1⟩
 ·exact⟨rfl,rfl⟩
theorem Sp.agains_cf: ∀(l:List (Int×Int)) (s:Sp),(s.agains l).cf=s.cf
 | [],s=>rfl
 | c::l,s=>by
  show(({s with mem:=s.mem.again c.1 c.2}:Sp).agains l).cf=_
  rw[Sp.agains_cf l]
  unfold Sp.cf
  show(s.mem.again c.1 c.2).count+(s.mem.again c.1 c.2).free=_
  rw[(Mem.again_lim _ _ _).1,(Mem.again_lim _ _ _).2]
theorem Sp.give_cf(s:Sp)(k:Int):(s.give k).cf<=s.cf+1:=by
 unfold Sp.give
 split
 ·rename_i h
  unfold Sp.cf
  show(s.mem.give k).count+(s.mem.give k).free<=_
  unfold Mem.give
  rw[if_pos h]
  show s.mem.count+(s.mem.free+1)<=_
  omega
 ·omega
theorem Sp.gives_cf(s:Sp)(old:Nat->Bool): ∀n:Nat,(s.gives old n).cf<=s.cf+n
 | 0=>by show s.cf<=s.cf+0;omega
 | n+1=>by
  have:=Sp.gives_cf s old n
  unfold Sp.gives
  split
  ·have:=Sp.give_cf (s.gives old n) n
   omega
  ·omega
theorem Sp.ended_cf(s:Sp)(t:Tr):(s.ended t).cf<=s.cf+1024:=by
 unfold Sp.ended
 rw[Sp.agains_cf]
 exact Sp.gives_cf s t.old 1024
theorem pn{s:Sp}(ok:SpOK s)(he:s.mem.Even)(t:Tr):(s.ended t).mem.Even:=by
 obtain⟨_,g2⟩:=Sp.gives_seg s t.old 1024
 obtain⟨u,_⟩:=Sp.agains_spec t.cards (Sp.gives_ok ok t.old 1024)
 intro k
 show((s.gives t.old 1024).agains t.cards |>.mem.seg k).kind<=1->_
 obtain⟨u1,u2,u3,_⟩:=u.seg k
 show(((s.gives t.old 1024).agains t.cards).mem.seg k).kind<=1->(((s.gives t.old 1024).agains t.cards).mem.seg k).n % 2=0
 rw[u2,u3,g2 k]
 split
 ·intro _;rfl
 ·exact he k

theorem ol{m:Mem}(ok:aY m){g:Int}(hg:0<=g):(List.range 1024).countP (λk=>m.young g k)=m.nyoung g:=by
 have hl:=ok.lim
 have hne:dt g≠[]:=λh=>by
  have:(0:Int)∈dt g:=iD.2 ⟨Int.le_refl _,hg⟩
  rw[h]at this;cases this
 unfold Mem.nyoung Mem.takenTo
 rw[<-List.countP_eq_length_filter,show(1024:Nat)=m.limit+(1024-m.limit)by omega,kX _ _ _ (λi h1 h2=>?_)]
 ·refine List.countP_congr λk hk=>?_
  rw[List.mem_range]at hk
  have htk:=(ok.seg k).taken
  have hgn:=(ok.seg k).gen
  unfold Mem.young Mem.has
  simp only[decide_eq_true_eq,Bool.and_eq_true,Bool.or_eq_true,List.isEmpty_iff,hne,false_or,iD]
  rw[show((k:Nat):Int).toNat=k by omega]
  exact⟨λq=>⟨by omega,by omega⟩,λq=>⟨⟨by omega,by omega,by omega⟩,by omega⟩⟩
 ·unfold Mem.young
  refine zQ λq=>?_
  have:=q.1.2.1
  omega
theorem sL{Z:TZ}{g:Int}(ok:aY Z.m)(hg:0<=g)(hO: ∀k:Nat,k<1024->Z.O k=Z.m.young g k):(Z.yk 0:Int)+Z.yk 1+Z.yk 2+Z.yk 3<=Z.m.nyoung g:=by
 rw[<-ol ok hg]
 have h:Z.yk 0+Z.yk 1+Z.yk 2+Z.yk 3<=(List.range 1024).countP (λk=>Z.m.young g k):=by
  unfold TZ.yk
  rw[<-jb,<-jb,<-jb]
  ·refine List.countP_mono_left λk hk h=>?_
   rw[List.mem_range]at hk
   rw[<-hO k hk]
   cases hz:Z.O k with
   | true=>rfl
   | false=>rw[hz]at h;simp at h
  all_goals
   intro x _ h1 h2
   simp only[Bool.and_eq_true,Bool.or_eq_true,decide_eq_true_eq]at h1 h2
   simp[h2.2]at h1
 omega
theorem gi.frmOK{m:Mem}{g T:Int}{t:Tr}(h:gi m g T t)(ok:aY m):fE t.frm:=by
 intro k v hv
 rcases Int.lt_or_le k 0 with hk | hk
 ·rw[h.frm0 k hk]at hv;cases hv
 rw[h.frm k hk]at hv
 split at hv
 ·cases hv
  exact⟨_,rfl,(ok.seg _).n⟩
 ·cases hv


theorem qZ{m:Mem}{tr:Tr}{l:List Nat}{T:Int}(ok:aY m)(hf:fE tr.frm)(hcs:kw tr.cards)(hl:eP m [T] l): ∀a∈m.weaks tr l,a<=1000000:=by
 intro a ha
 have hlim:=ok.lim
 unfold Mem.weaks at ha
 rcases List.mem_append.1 ha with h | h
 ·obtain⟨k,hk,h⟩:=List.mem_flatMap.1 h
  obtain⟨_,klim,_,_⟩:=hl.has hk
  unfold Mem.weakSeg at h
  by_cases hc:(m.seg k).kind=1/\tr.old k=false
  case neg=>rw[if_neg hc]at h;simp at h
  rw[if_pos hc]at h
  obtain⟨j,hj,rfl⟩:=fm.1 h
  rw[fL]at hj
  have hn:=(ok.seg k).n
  omega
 ·obtain⟨c,hc,h⟩:=List.mem_flatMap.1 h
  have hck:=hcs c hc
  unfold Mem.weakCard at h
  by_cases hk:(m.segOr c.1).kind=1
  case neg=>rw[if_neg hk]at h;simp at h
  rw[if_pos hk]at h
  obtain⟨j,hj,rfl⟩:=fm.1 h
  rw[fL]at hj
  omega
