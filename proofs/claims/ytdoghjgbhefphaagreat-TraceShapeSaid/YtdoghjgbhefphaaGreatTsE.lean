/-
 A round of the law of traces (package morainelaw11): weak cars behind it; what a trace leaves. Proves nothing of any one statement.
-/
import Derived.Test.YtdoghjgbhefphaaGreatTsB
set_option linter.unusedVariables false
set_option linter.unusedSimpArgs false
namespace Go.Proofs.YtdoghjgbhefphaaGreat
open Go

theorem mem_weakRow{k lo x:Int}{n:Nat}:x∈weakRow k lo n ↔ ∃j:Nat,j<n/\x=k*64+(lo+2*(j:Int)):=by
 unfold weakRow
 rw[List.mem_map]
 constructor
 ·rintro⟨j,hj,rfl⟩;rw[List.mem_range]at hj;exact⟨j,hj,rfl⟩
 ·rintro⟨j,hj,rfl⟩;exact⟨j,by rw[List.mem_range];exact hj,rfl⟩
theorem not_old44(O:Nat->Bool): ¬isOldW O 44:=λh=>by have:=h.1.1;omega
theorem brk_get{O:Nat->Bool}{m:Mem}{a x:Int}(hx:m.used x):(brk O m a).get x=if x=a/\isOldW O (m.get x)then 44 else m.get x:=by
 have x0:=hx.1
 unfold brk
 by_cases e:x=a
 ·subst e
  have hr:m.read x=m.get x:=by unfold Mem.read;rw[if_pos hx]
  rw[hr]
  by_cases ho:isOldW O (m.get x)
  ·rw[if_pos ho,if_pos ⟨rfl,ho⟩]
   unfold Mem.wr;rw[if_pos hx,Mem.set_get x x0 x0,if_pos rfl]
  ·rw[if_neg ho,if_neg (λq=>ho q.2)]
 ·rw[if_neg (show ¬(x=a/\isOldW O (m.get x))from λq=>e q.1)]
  split
  ·unfold Mem.wr
   by_cases hu:m.used a
   ·rw[if_pos hu,Mem.set_get x x0 hu.1,if_neg e]
   ·rw[if_neg hu]
  ·rfl
theorem brks_get(O:Nat->Bool): ∀(l:List Int) {m:Mem} {x:Int},m.used x->(l.foldl (brk O) m).get x=if x∈l/\isOldW O (m.get x)then 44 else m.get x
 | [],m,x,hx=>by rw[if_neg (λq=>by simp at q)];rfl
 | a::l,m,x,hx=>by
  have ih:=brks_get O l (m:=brk O m a) ((brk_same O m a).used.2 hx)
  show(l.foldl (brk O) (brk O m a)).get x=_
  rw[ih,brk_get hx]
  by_cases e:x=a/\isOldW O (m.get x)
  ·rw[if_pos e,if_neg (λq=>not_old44 O q.2),if_pos ⟨by rw[e.1];simp,e.2⟩]
  ·rw[if_neg e]
   by_cases h:x∈l/\isOldW O (m.get x)
   ·rw[if_pos h,if_pos ⟨by simp[h.1],h.2⟩]
   ·rw[if_neg h,if_neg (λq=>?_)]
    rcases List.mem_cons.1 q.1 with r | r
    ·exact e ⟨r,q.2⟩
    ·exact h ⟨r,q.2⟩
theorem weakLen_lt{lo hi:Int}{j:Nat}:j<weakLen lo hi ↔ lo+2*(j:Int)<hi:=by
 unfold weakLen;omega

section
variable {Z:TZ} {g F0:Int} {fw:Int->Option Int} {al:List Int} {s:Sp} {sz:Int->Nat}
theorem Begun.frmAt{tr:Tr}(B:Begun Z.m g Z.T tr){k:Int}(hk:0<=k):seenAt tr.frm k=if Z.m.has k/\(Z.m.seg k.toNat).gen=Z.T then(Z.m.seg k.toNat).n else 0:=by
 unfold seenAt
 rw[B.frm k hk]
 by_cases h:Z.m.has k/\(Z.m.seg k.toNat).gen=Z.T
 ·rw[if_pos h,if_pos h]
 ·rw[if_neg h,if_neg h]
theorem weaks_are{tr:Tr}(S:Static Z g F0)(t:Tri Z F0 fw al s sz)(B:Begun Z.m g Z.T tr){l:List Nat}(hl:IsTaken s.mem [Z.T] l): ∀a∈s.mem.weaks tr l,s.mem.kAt a=1/\a % 2=0/\a<=1000000:=by
 intro a ha
 have hlim:=t.ok.mem.lim
 unfold Mem.weaks at ha
 rcases List.mem_append.1 ha with h | h
 ·obtain⟨k,hk,h⟩:=List.mem_flatMap.1 h
  obtain⟨khas,klim,_,_⟩:=hl.has hk
  have kd:((k:Nat):Int).toNat=k:=by omega
  unfold Mem.weakSeg at h
  by_cases hc:(s.mem.seg k).kind=1/\tr.old k=false
  case neg=>rw[if_neg hc]at h;simp at h
  rw[if_pos hc]at h
  obtain⟨j,hj,rfl⟩:=mem_weakRow.1 h
  rw[weakLen_lt]at hj
  have hn:=(t.ok.mem.seg k).n
  have hf:=B.frmAt (k:=k) (by omega)
  have hev:seenAt tr.frm k % 2=0/\0<=seenAt tr.frm k:=by
   rw[hf,kd]
   by_cases q:Z.m.has k/\(Z.m.seg k).gen=Z.T
   ·rw[if_pos q]
    have hz:=(t.heads.seg k (by have:=q.1.2.2;rw[kd]at this;exact this)).2.1
    exact⟨S.even k (by rw[<-hz,hc.1];decide),(S.ok.seg k).n.1⟩
   ·rw[if_neg q];exact⟨rfl,Int.le_refl _⟩
  refine⟨?_,by omega,by omega⟩
  unfold Mem.kAt
  rw[show((k:Int)*64+(seenAt tr.frm k+2*(j:Int))) / 64=k by omega,kd];exact hc.1
 ·obtain⟨c,hc,h⟩:=List.mem_flatMap.1 h
  obtain⟨c1,c2,c3,c4⟩:=B.cardOf S c hc
  have hs:=t.heads.has c1
  have hsg:s.mem.segOr c.1=s.mem.seg c.1.toNat:=by unfold Mem.segOr;rw[if_pos hs]
  unfold Mem.weakCard at h
  rw[hsg]at h
  by_cases hk:(s.mem.seg c.1.toNat).kind=1
  case neg=>rw[if_neg hk]at h;simp at h
  rw[if_pos hk]at h
  obtain⟨j,hj,rfl⟩:=mem_weakRow.1 h
  rw[weakLen_lt]at hj
  have hn:=(t.ok.mem.seg c.1.toNat).n
  have h0:=hs.1
  have h1:=hs.2.1
  have hj2:c.2*16+2*(j:Int)< (s.mem.seg c.1.toNat).n/\c.2*16+2*(j:Int)< (c.2+1)*16:=by omega
  refine⟨?_,by omega,by omega⟩
  unfold Mem.kAt
  rw[show(c.1*64+(c.2*16+2*(j:Int))) / 64=c.1 by omega];exact hk
theorem weaks_all{tr:Tr}(S:Static Z g F0)(t:Tri Z F0 fw al s sz)(hm:Marked Z.m)(B:Begun Z.m g Z.T tr)(hO:tr.old=Z.O){l:List Nat}(hl:IsTaken s.mem [Z.T] l){x v:Int}(hu:s.mem.used x)(ho:Z.O (x / 64).toNat=false)(hk:s.mem.kAt x=1)(hx:x % 2=0)(hv:Was Z fw x v)(hold:isOldW Z.O v):x∈s.mem.weaks tr l:=by
 have hlim:=t.ok.mem.lim
 have x0:=hu.1
 have xl:=hu.2.1.2.1
 unfold Mem.weaks
 rcases hv with⟨h1,h2,h3⟩ | ⟨a,b,i,h1,h2,h3,h4⟩
 ·subst h3
  have hkz:Z.m.kAt x=1:=by rw[<-(t.kAt h1).1];exact hk
  have hd:=B.dirty S hm h1 ho (by rw[hkz];decide) hold (S.sound.good x h1 (by rw[hkz];decide))
  refine List.mem_append_right _ (List.mem_flatMap.2 ⟨_,hd,?_⟩)
  have hsg:s.mem.segOr (x / 64)=s.mem.seg (x / 64).toNat:=by unfold Mem.segOr;rw[if_pos hu.2.1]
  unfold Mem.weakCard
  rw[hsg,if_pos hk]
  have hn:=hu.2.2
  refine mem_weakRow.2 ⟨((x % 64 % 16) / 2).toNat,?_,?_⟩
  ·rw[weakLen_lt]
   show x % 64 / 16*16+2*((((x % 64 % 16) / 2).toNat:Nat):Int)<min (s.mem.seg (x / 64).toNat).n ((x % 64 / 16+1)*16)
   omega
  ·show x=x / 64*64+(x % 64 / 16*16+2*((((x % 64 % 16) / 2).toNat:Nat):Int))
   omega
 ·have im:=(t.img a b h1).2
  have hf:=im.fit
  have e64:x / 64=b / 64:=by omega
  have hgen:(s.mem.seg (x / 64).toNat).gen=Z.T:=by rw[e64];exact im.gen
  have hkl:(x / 64).toNat∈l:=by
   refine hl.perm.mem_iff.2 ?_
   unfold Mem.takenTo
   rw[List.mem_filter,List.mem_range]
   have:=hu.2.1.2.2
   have:=(t.ok.mem.seg (x / 64).toNat).taken
   refine⟨by omega,?_⟩
   simp only[Bool.and_eq_true,decide_eq_true_eq,Bool.or_eq_true,List.mem_singleton]
   exact⟨by omega,.inr hgen⟩
  refine List.mem_append_left _ (List.mem_flatMap.2 ⟨_,hkl,?_⟩)
  unfold Mem.weakSeg
  rw[if_pos ⟨hk,by rw[hO];exact ho⟩]
  have kd:(((x / 64).toNat:Nat):Int)=x / 64:=by omega
  rw[kd]
  have hfr:=B.frmAt (k:=x / 64) (by omega)
  have hnz: ¬Z.m.used x:=by rw[h3];exact im.new i h2
  have hlo:seenAt tr.frm (x / 64) % 2=0/\0<=seenAt tr.frm (x / 64)/\seenAt tr.frm (x / 64)<=x % 64:=by
   rw[hfr]
   by_cases q:Z.m.has (x / 64)/\(Z.m.seg (x / 64).toNat).gen=Z.T
   ·rw[if_pos q]
    have hz:=(t.heads.seg (x / 64).toNat q.1.2.2).2.1
    refine⟨S.even _ (by rw[<-hz];show s.mem.kAt x<=1;rw[hk];decide),(S.ok.seg _).n.1,?_⟩
    rcases Int.lt_or_le (x % 64) (Z.m.seg (x / 64).toNat).n with r | r
    ·exact absurd ⟨x0,q.1,r⟩ hnz
    ·exact r
   ·rw[if_neg q];exact⟨rfl,Int.le_refl _,by omega⟩
  have hn:=hu.2.2
  refine mem_weakRow.2 ⟨((x % 64-seenAt tr.frm (x / 64)) / 2).toNat,?_,?_⟩
  ·rw[weakLen_lt];omega
  ·omega
theorem Broke.of{tr:Tr}(S:Static Z g F0)(t:Tri Z F0 fw al s sz)(hm:Marked Z.m)(B:Begun Z.m g Z.T tr)(hO:tr.old=Z.O){l:List Nat}(hl:IsTaken s.mem [Z.T] l):Broke Z fw s {s with mem:=(s.mem.weaks tr l).foldl (brk Z.O) s.mem}:=by
 refine⟨brks_same _ _ _,rfl,brks_ok _ _ t.ok,λx hu ho hw=>?_,λx hu ho hk hx=>?_⟩
 ·show((s.mem.weaks tr l).foldl (brk Z.O) s.mem).get x=_
  rw[brks_get _ _ hu,if_neg (λq=>?_)]
  obtain⟨h1,h2,_⟩:=weaks_are S t B hl x q.1
  exact hw ⟨h1,h2⟩
 ·show((s.mem.weaks tr l).foldl (brk Z.O) s.mem).get x=44\/ ∀v,Was Z fw x v->Dn Z.O fw v/\((s.mem.weaks tr l).foldl (brk Z.O) s.mem).get x=Fw Z.O fw v
  rw[brks_get _ _ hu]
  by_cases q:x∈s.mem.weaks tr l/\isOldW Z.O (s.mem.get x)
  ·rw[if_pos q];exact .inl rfl
  ·rw[if_neg q]
   right
   intro v hv
   have hval:s.mem.get x=v:=by
    rcases t.val x v hv with r | ⟨r,_⟩
    ·exact r
    ·have:=r.2.resolve_left (λe=>e hk);omega
   have hno: ¬isOldW Z.O v:=λho'=>q ⟨weaks_all S t hm B hO hl hu ho hk hx hv ho',by rw[hval];exact ho'⟩
   exact⟨λh=>absurd h hno,by rw[Fw_no hno];exact hval⟩
theorem Tri.visL(S:Static Z g F0): ∀(l:List Int) {fw:Int->Option Int} {al:List Int} {s:Sp} {sz:Int->Nat} {acc:List Int} (t:Tri Z F0 fw al s sz),(∀w∈l,Z.V w)-> ∃fw' al' sz',Tri Z F0 fw' al' (l.foldl (λ(st:Sp×List Int) w=>((st.1.visit Z.O Z.T w).1,st.2++[(st.1.visit Z.O Z.T w).2])) (s,acc)).1 sz'/\Le fw fw'/\
  (l.foldl (λ(st:Sp×List Int) w=>((st.1.visit Z.O Z.T w).1,st.2++[(st.1.visit Z.O Z.T w).2])) (s,acc)).2=acc++l.map (Fw Z.O fw')/\ ∀w∈l,Dn Z.O fw' w
 | [],fw,al,s,sz,acc,t,_=>⟨fw,al,sz,t,Le.refl _,by simp,λw h=>by cases h⟩
 | w::l,fw,al,s,sz,acc,t,h=>by
  have hV:=h w (by simp)
  obtain⟨v1,v2⟩:=S.V w hV
  obtain⟨fw1,al1,sz1,V⟩:=t.visit S v1 v2 (λho=> .root hV ho)
  obtain⟨fw2,al2,sz2,t2,l2,r2,d2⟩:=Tri.visL S l (acc:=acc++[(s.visit Z.O Z.T w).2]) V.tri (λw' hw'=>h w' (by simp[hw']))
  refine⟨fw2,al2,sz2,t2,V.le.trans l2,?_,λw' hw'=>?_⟩
  ·simp only[List.foldl_cons]
   rw[r2,V.val,<-Fw_mono V.dn l2]
   simp
  ·rcases List.mem_cons.1 hw' with rfl | hw'
   ·exact V.dn.mono l2
   ·exact d2 w' hw'
end
end Go.Proofs.YtdoghjgbhefphaaGreat

namespace Go.Proofs.YtdoghjgbhefphaaGreat
open Go

theorem Sp.look_cf(s:Sp)(old:Nat->Bool)(T seg kind lo:Int): ∀n,(s.look old T seg kind lo n).cf=s.cf
 | 0=>rfl
 | n+1=>by
  unfold Sp.look
  split
  ·rw[Sp.lookAt_cf,Sp.look_cf s old T seg kind lo n]
  ·exact Sp.look_cf s old T seg kind lo n
theorem Sp.visL_cf(O:Nat->Bool)(T:Int)(s:Sp)(l:List Int):(s.visL O T l).1.cf=s.cf:=by
 have: ∀(l:List Int) (st:Sp×List Int),(l.foldl (λst w=>((st.1.visit O T w).1,st.2++[(st.1.visit O T w).2])) st).1.cf=st.1.cf:=λl=>by
  induction l with
  | nil=>intro st;rfl
  | cons w l ih=>intro st;simp only[List.foldl_cons];rw[ih];exact Sp.visit_cf _ _ _ _
 exact this l (s,[])
theorem Sp.lookCards_cf(old:Nat->Bool)(T:Int): ∀(l:List (Int×Int)) (s:Sp),(s.lookCards old T l).cf=s.cf
 | [],s=>rfl
 | c::l,s=>by
  show((s.lookCard old T c).lookCards old T l).cf=_
  rw[Sp.lookCards_cf old T l]
  exact Sp.look_cf _ _ _ _ _ _ _
theorem drains_cf{old:Nat->Bool}{T:Int}{s0 s:Sp}{k0 ks:List (Int×Value)}(h:Drains old T s0 k0 s ks):s.cf=s0.cf:=by
 induction h with
 | refl=>rfl
 | step k _ hk hg ho hn ih=>rw[Sp.look_cf,ih]
theorem Mem.again_lim(m:Mem)(k c:Int):(m.again k c).count=m.count/\(m.again k c).free=m.free:=by
 unfold Mem.again
 split
 ·exact⟨Mem.mark_lim.2.2,Mem.mark_lim.2.1⟩
 ·exact⟨rfl,rfl⟩
theorem Sp.agains_cf: ∀(l:List (Int×Int)) (s:Sp),(s.agains l).cf=s.cf
 | [],s=>rfl
 | c::l,s=>by
  show(({s with mem:=s.mem.again c.1 c.2}:Sp).agains l).cf=_
  rw[Sp.agains_cf l]
  unfold Sp.cf
  show(s.mem.again c.1 c.2).count+(s.mem.again c.1 c.2).free=_
  rw[(Mem.again_lim _ _ _).1,(Mem.again_lim _ _ _).2]
theorem Sp.give_cf(s:Sp)(k:Int):(s.give k).cf<=s.cf+1:=by
 unfold Sp.give
 split
 ·rename_i h
  unfold Sp.cf
  show(s.mem.give k).count+(s.mem.give k).free<=_
  unfold Mem.give
  rw[if_pos h]
  show s.mem.count+(s.mem.free+1)<=_
  omega
 ·omega
theorem Sp.gives_cf(s:Sp)(old:Nat->Bool): ∀n:Nat,(s.gives old n).cf<=s.cf+n
 | 0=>by show s.cf<=s.cf+0;omega
 | n+1=>by
  have:=Sp.gives_cf s old n
  unfold Sp.gives
  split
  ·have:=Sp.give_cf (s.gives old n) n
   omega
  ·omega
theorem Sp.ended_cf(s:Sp)(t:Tr):(s.ended t).cf<=s.cf+1024:=by
 unfold Sp.ended
 rw[Sp.agains_cf]
 exact Sp.gives_cf s t.old 1024
theorem ended_even{s:Sp}(ok:SpOK s)(he:s.mem.Even)(t:Tr):(s.ended t).mem.Even:=by
 obtain⟨_,g2⟩:=Sp.gives_seg s t.old 1024
 obtain⟨u,_⟩:=Sp.agains_spec t.cards (Sp.gives_ok ok t.old 1024)
 intro k
 show((s.gives t.old 1024).agains t.cards |>.mem.seg k).kind<=1->_
 obtain⟨u1,u2,u3,_⟩:=u.seg k
 show(((s.gives t.old 1024).agains t.cards).mem.seg k).kind<=1->(((s.gives t.old 1024).agains t.cards).mem.seg k).n % 2=0
 rw[u2,u3,g2 k]
 split
 ·intro _;rfl
 ·exact he k

theorem young_count{m:Mem}(ok:MemOK m){g:Int}(hg:0<=g):(List.range 1024).countP (λk=>m.young g k)=m.nyoung g:=by
 have hl:=ok.lim
 have hne:gensTo g≠[]:=λh=>by
  have:(0:Int)∈gensTo g:=mem_gensTo.2 ⟨Int.le_refl _,hg⟩
  rw[h]at this;cases this
 unfold Mem.nyoung Mem.takenTo
 rw[<-List.countP_eq_length_filter,show(1024:Nat)=m.limit+(1024-m.limit)by omega,countP_past _ _ _ (λi h1 h2=>?_)]
 ·refine List.countP_congr λk hk=>?_
  rw[List.mem_range]at hk
  have htk:=(ok.seg k).taken
  have hgn:=(ok.seg k).gen
  unfold Mem.young Mem.has
  simp only[decide_eq_true_eq,Bool.and_eq_true,Bool.or_eq_true,List.isEmpty_iff,hne,false_or,mem_gensTo]
  rw[show((k:Nat):Int).toNat=k by omega]
  exact⟨λq=>⟨by omega,by omega⟩,λq=>⟨⟨by omega,by omega,by omega⟩,by omega⟩⟩
 ·unfold Mem.young
  refine decide_eq_false λq=>?_
  have:=q.1.2.1
  omega
theorem yk_sum{Z:TZ}{g:Int}(ok:MemOK Z.m)(hg:0<=g)(hO: ∀k:Nat,k<1024->Z.O k=Z.m.young g k):(Z.yk 0:Int)+Z.yk 1+Z.yk 2+Z.yk 3<=Z.m.nyoung g:=by
 rw[<-young_count ok hg]
 have h:Z.yk 0+Z.yk 1+Z.yk 2+Z.yk 3<=(List.range 1024).countP (λk=>Z.m.young g k):=by
  unfold TZ.yk
  rw[<-countP_two,<-countP_two,<-countP_two]
  ·refine List.countP_mono_left λk hk h=>?_
   rw[List.mem_range]at hk
   rw[<-hO k hk]
   cases hz:Z.O k with
   | true=>rfl
   | false=>rw[hz]at h;simp at h
  all_goals
   intro x _ h1 h2
   simp only[Bool.and_eq_true,Bool.or_eq_true,decide_eq_true_eq]at h1 h2
   simp[h2.2]at h1
 omega
theorem Begun.frmOK{m:Mem}{g T:Int}{t:Tr}(h:Begun m g T t)(ok:MemOK m):SeenOK t.frm:=by
 intro k v hv
 rcases Int.lt_or_le k 0 with hk | hk
 ·rw[h.frm0 k hk]at hv;cases hv
 rw[h.frm k hk]at hv
 split at hv
 ·cases hv
  exact⟨_,rfl,(ok.seg _).n⟩
 ·cases hv

structure Rounded (s0:Sp) (sz0:Int->Nat) (g T:Int) (roots:List Int) (young:List Int) (s5:Sp):Prop where
 well: ∃sz5,Inv s5 sz5/\ ∀w∈young,IsWord w/\Good s5.mem sz5 w
 cf:s5.cf<=s0.cf+1024
 len:young.length=roots.length
 pic: ∀ks ks',IsPic s0.mem roots ks->IsPic s5.mem young ks'->ks'=ks
 words: ∀all,Reached s0.mem g roots all->s5.mem.words []=s0.mem.above g+(all.map s0.mem.sizeOf).sum
 empty: ∀k,k<=g->k≠T->s5.mem.words [k]=0
theorem round_law{s0:Sp}{sz0:Int->Nat}{g T:Int}{tr:Tr}{roots:List Int}{s3:Sp}{ks:List (Int×Value)}{l:List Nat}(I:Inv s0 sz0)(hst:startE s0 g T 0=0)(B:Begun s0.mem g T tr)(hr: ∀w∈roots,IsWord w/\Good s0.mem sz0 w)
  (hd:Drains tr.old T (((s0.fresh (gensTo g)).visL tr.old T roots).1.lookCards tr.old T tr.cards) tr.seen s3 ks) (hdd:Drained tr.old T s3 ks) (hl:IsTaken s3.mem [T] l):
  Rounded s0 sz0 g T roots ((s0.fresh (gensTo g)).visL tr.old T roots).2 (({s3 with mem:=(s3.mem.weaks tr l).foldl (brk tr.old) s3.mem}:Sp).ended tr):=by
 have hrng:(0<=g/\g<4/\g<=T/\T<=g+1)/\2*(s0.mem.nyoung g:Int)+8<=s0.mem.free:=by
  unfold startE at hst
  by_cases h1:g<0\/4<=g\/T<g\/g+1<T\/(0:Int)<0
  ·rw[if_pos h1]at hst;exact absurd hst (by decide)
  ·rw[if_neg h1]at hst
   by_cases h2:s0.mem.free-2*s0.mem.nyoung g-8<0
   ·rw[if_pos h2]at hst;exact absurd hst (by decide)
   ·omega
 have S:Static ⟨s0.mem,sz0,tr.old,T,(· ∈roots)⟩ g s0.mem.free:=by
  refine⟨I.ok.mem,I.even,I.sound,λk hk=>?_,hrng.1,?_,λv hv=>hr v hv⟩
  ·show tr.old k=true ↔ _
   rw[B.old k hk]
   unfold Mem.young
   rw[decide_eq_true_eq]
  ·have hy: ∀Z:TZ,Z.m=s0.mem->Z.O=tr.old->2*((Z.yk 0:Int)+Z.yk 1+Z.yk 2+Z.yk 3)+8<=s0.mem.free:=λZ e1 e2=>by
    have h1:=yk_sum (Z:=Z) (g:=g) (by rw[e1];exact I.ok.mem) hrng.1.1 (λk hk=>by rw[e1,e2];exact B.old k hk)
    have h2:=hrng.2
    rw[e1]at h1
    omega
   exact hy _ rfl rfl
 have t0:Tri ⟨s0.mem,sz0,tr.old,T,(· ∈roots)⟩ s0.mem.free (λ_=>none) [] (s0.fresh (gensTo g)) sz0:=
  Tri.begin' S (Sp.fresh_ok I.ok _) rfl rfl (λi j hi=>by
   show(if gensTo g=[]\/((i:Nat):Int)∈gensTo g then(0:Int)else s0.cur i j)=0
   rw[if_pos (.inr (mem_gensTo.2 ⟨by omega,hi⟩))])
 obtain⟨fw1,al1,sz1,t1,_,r1,d1⟩:=Tri.visL S roots (acc:=[]) t0 (λw hw=>hw)
 obtain⟨fw,al,sz,t3,le,fin⟩:=Tri.final S t1 I.marked B rfl hd hdd
 have hroots: ∀v,v∈roots->Dn tr.old fw v:=λv hv=>(d1 v hv).mono le
 have hres:((s0.fresh (gensTo g)).visL tr.old T roots).2=roots.map (Fw tr.old fw):=by
  refine Eq.trans r1 ?_
  rw[List.nil_append]
  exact List.map_congr_left λv hv=>(Fw_mono (d1 v hv) le).symm
 have hbr:Broke ⟨s0.mem,sz0,tr.old,T,(· ∈roots)⟩ fw s3 {s3 with mem:=(s3.mem.weaks tr l).foldl (brk tr.old) s3.mem}:=Broke.of S t3 I.marked B rfl hl
 have hhas: ∀k:Nat,k<1024->tr.old k=true->({s3 with mem:=(s3.mem.weaks tr l).foldl (brk tr.old) s3.mem}:Sp).mem.has k:=λk hk ho=>hbr.same.has.2 (t3.heads.has ((S.old k hk).1 ho).1)
 obtain⟨hen,hok5⟩:=Sp.ended_spec (Z:=⟨s0.mem,sz0,tr.old,T,(· ∈roots)⟩) (tr:=tr) rfl hbr.ok hhas
 have hev:({s3 with mem:=(s3.mem.weaks tr l).foldl (brk tr.old) s3.mem}:Sp).mem.Even:=hbr.same.even t3.even
 have hev5:=ended_even hbr.ok hev tr
 have hcf4:({s3 with mem:=(s3.mem.weaks tr l).foldl (brk tr.old) s3.mem}:Sp).cf=s0.cf:=by
  have h1:=drains_cf hd
  rw[Sp.lookCards_cf,Sp.visL_cf]at h1
  have h2:(s0.fresh (gensTo g)).cf=s0.cf:=rfl
  rw[h2]at h1
  rw[<-h1]
  unfold Sp.cf
  show((s3.mem.weaks tr l).foldl (brk tr.old) s3.mem).count+((s3.mem.weaks tr l).foldl (brk tr.old) s3.mem).free=_
  rw[hbr.same.count,hbr.same.free]
 have hcf5:=Sp.ended_cf ({s3 with mem:=(s3.mem.weaks tr l).foldl (brk tr.old) s3.mem}:Sp) tr
 generalize ({s3 with mem:=(s3.mem.weaks tr l).foldl (brk tr.old) s3.mem}:Sp)=s4 at*
 generalize s4.ended tr=s5 at*
 have t:Traced ⟨s0.mem,sz0,tr.old,T,(· ∈roots)⟩ g s0.mem.free fw al sz tr s3 s4 s5.mem:=⟨S,t3,fin,hroots,hbr,hen,B,I.marked⟩
 have hgw: ∀v∈roots,GW ⟨s0.mem,sz0,tr.old,T,(· ∈roots)⟩ fw v:=λv hv=>⟨(hr v hv).1,(hr v hv).2,hroots v hv⟩
 rw[hres]
 refine⟨⟨_,⟨hok5,hev5,t.sound,t.marks⟩,λw hw=>?_⟩,by omega,by simp,λk1 k2 h1 h2=>(t.sim hok5.mem).pic hgw h1 h2,λall ha=>?_,λk hk hkT=>t.empty hok5.mem hk hkT⟩
 ·obtain⟨v,hv,rfl⟩:=List.mem_map.1 hw
  obtain⟨v1,v2,v3⟩:=hgw v hv
  exact⟨t3.fw_word S v1,(t.good v1 v2 v3).1⟩
 ·rw[t.words hok5.mem,t.reached (λv=>Iff.rfl) ha]
end Go.Proofs.YtdoghjgbhefphaaGreat

namespace Go.Proofs.YtdoghjgbhefphaaGreat
open Go

theorem weaks_le{m:Mem}{tr:Tr}{l:List Nat}{T:Int}(ok:MemOK m)(hf:SeenOK tr.frm)(hcs:CardsOK tr.cards)(hl:IsTaken m [T] l): ∀a∈m.weaks tr l,a<=1000000:=by
  intro a ha
  have hlim:=ok.lim
  unfold Mem.weaks at ha
  rcases List.mem_append.1 ha with h | h
  · obtain⟨k,hk,h⟩:=List.mem_flatMap.1 h
    obtain⟨_,klim,_,_⟩:=hl.has hk
    unfold Mem.weakSeg at h
    by_cases hc:(m.seg k).kind=1/\tr.old k=false
    case neg=>rw[if_neg hc]at h;simp at h
    rw[if_pos hc]at h
    obtain⟨j,hj,rfl⟩:=mem_weakRow.1 h
    rw[weakLen_lt]at hj
    have hn:=(ok.seg k).n
    omega
  · obtain⟨c,hc,h⟩:=List.mem_flatMap.1 h
    have hck:=hcs c hc
    unfold Mem.weakCard at h
    by_cases hk:(m.segOr c.1).kind=1
    case neg=>rw[if_neg hk]at h;simp at h
    rw[if_pos hk]at h
    obtain⟨j,hj,rfl⟩:=mem_weakRow.1 h
    rw[weakLen_lt]at hj
    omega
set_option maxRecDepth 100000 in
theorem check_loop{Q:Array Obj->Prop}{R:Value->Array Obj->Prop}{H39:Array Obj}{b:Blk}{y:Hp}{c:Nat}{r:RoundOf}(hp:HpAt H39 b y)(ok:SpOK y.sp)(hs:Slot H39 c r)(hg:0<=r.g/\r.g<4)(he: ∀k,k<=r.g->k≠r.target->y.sp.mem.words [k]=0)
    (hQ : ∀ A, Ext H39 A → Q A) :
                 ∃(I163:Int->Array Obj->Prop) (m163:Int->Array Obj->Nat),I163 0 H39/\ ∀(g_2:Int) (H40:Array Obj),I163 g_2 H40->
                 ∃x_35:Int,hat H40 ((Addr.mk c 0 none).add 1)=some (.int .i64 x_35)/\
                 if g_2<=x_35 then(
                  ∃x_36:Int,hat H40 ((Addr.mk c 0 none).add 2)=some (.int .i64 x_36)/\
                  if g_2=x_36 then(
                   (I163 (IntKind.wrap .i64 (g_2+1)) H40/\m163 (IntKind.wrap .i64 (g_2+1)) H40<m163 g_2 H40))
                  else
                  ∃x_37:Option Addr,hat H40 ⟨b.h,0,none⟩=some (.pointer x_37)/\
                  ∃x37A:Addr,x_37=some x37A/\
                  ∃x_38:Option Addr,hat H40 x37A=some (.pointer x_38)/\
                  ∀(b_6:Nat) (H41:Array Obj),b_6=H40.size->H41=H40.push (.cells #[.int .i64 g_2] 3)->
                  space_Space_Words.C x_38 (some (Addr.mk b_6 0 none)) 1 1 H41 (λv_23 H42=> ∃x_39:Int,v_23=.int .i64 x_39/\
                   if x_39=0 then(
                    (I163 (IntKind.wrap .i64 (g_2+1)) H42/\m163 (IntKind.wrap .i64 (g_2+1)) H42<m163 g_2 H40))
                   else
                   R (.bool false) H42))
                 else
                 Q H40:=by
  refine⟨λg A=>(0<=g/\g<=4)/\Ext H39 A,λg _=>(5-g).toNat,⟨by omega,Ext.refl _⟩,?_⟩
  rintro g A ⟨hgr,eA⟩
  have hsA:=hs.ext eA
  refine⟨_,hsA.g,?_⟩
  by_cases hlt:g<=r.g
  case neg=>rw[if_neg hlt];exact hQ A eA
  rw[if_pos hlt]
  have hd:(5-(g+1)).toNat< (5-g).toNat:=by omega
  rw[w64 (n:=g+1) (by omega)]
  refine⟨_,hsA.target,?_⟩
  by_cases ht:g=r.target
  · rw[if_pos ht]
    exact⟨⟨by omega,eA⟩,hd⟩
  rw[if_neg ht]
  have hpA:=hp.ext eA
  refine⟨_,hpA.hPtr,_,rfl,_,hpA.cd.cPtr,λb6 H1 hb6 hH1=>?_⟩
  have e1:Ext A H1:=Ext.push' hH1
  refine HC.mono (space_Words_c (gs:=[g]) (hpA.ext e1).cd.sp ok (show SrcAt H1 (some ⟨b6,0,none⟩) (ivs [g])from⟨by rw[addr_add_mk,hat_blk (push_get hb6 hH1)];rfl,trivial⟩) rfl (by decide)) ?_
  rintro _ H2 ⟨rfl,e2⟩
  refine⟨_,rfl,?_⟩
  rw[if_pos (he g hlt ht)]
  exact⟨⟨by omega,(eA.trans e1).trans e2⟩,hd⟩
theorem full_free{s:Sp}{g T:Int}{l:List Nat}(ok:MemOK s.mem)(h:startE s g T 0=2)(hl:IsTaken s.mem [] l):s.mem.free<2*(l.length:Int)+8:=by
  unfold startE at h
  by_cases h1:g<0\/4<=g\/T<g\/g+1<T\/(0:Int)<0
  · rw[if_pos h1]at h;exact absurd h (by decide)
  rw[if_neg h1]at h
  by_cases h2:s.mem.free-2*s.mem.nyoung g-8<0
  case neg=>rw[if_neg h2]at h;exact absurd h (by decide)
  have hle:s.mem.nyoung g<=l.length:=by
    rw[hl.perm.length_eq]
    unfold Mem.nyoung Mem.takenTo
    rw[<-List.countP_eq_length_filter,<-List.countP_eq_length_filter]
    refine List.countP_mono_left λk _ hk=>?_
    simp only[Bool.and_eq_true,decide_eq_true_eq]at hk⊢
    exact⟨hk.1,rfl⟩
  omega
end Go.Proofs.YtdoghjgbhefphaaGreat

