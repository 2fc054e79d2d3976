/-
 Behind a trace things stand as they stood, elsewhere: pairs and things by their words. Proves nothing of any one statement.
-/
import Derived.Test.YtiebboaeaoobmaaGreatGcH
import Derived.Test.YtiebboaeaoobmaaGreatTabF
set_option linter.unusedVariables false
set_option linter.unusedSimpArgs false
namespace Go.Proofs.YtiebboaeaoobmaaGreat
open Go

section
variable {Z:TZ} {g F0:Int} {fw:Int->Option Int} {al:List Int} {s:Sp} {sz:Int->Nat}
def GW(Z:TZ)(fw:Int->Option Int)(v:Int):Prop:=aG v/\Good Z.m Z.sz v/\Dn Z.O fw v
theorem dj.at'{tr:Tr}{s':Sp}{m:Mem}(t:dj Z g F0 fw al sz tr s s' m)(ok:bC m){w:Int}(hw:GW Z fw w)(ht:dX w): ∀i:Nat,i<Z.sz (w / 8)->Was Z fw (Fw Z.O fw w / 8+i) (Z.m.get (w / 8+i))/\m.used (Fw Z.O fw w / 8+i)/\s.mem.kAt (Fw Z.O fw w / 8+i)=Z.m.kAt (w / 8)/\Z.m.used (w / 8+i)/\Z.m.kAt (w / 8+i)=Z.m.kAt (w / 8):=by
 intro i hi
 obtain⟨ww,wg,wd⟩:=hw
 obtain⟨g1,g2,g3⟩:=t.good ww wg wd
 obtain⟨u1,u2,u3,u4⟩:=g2 ht
 have S:=t.S
 have hsz:=(wg.2 ht).1
 have hai:=S.sound.usedAt hsz hi (λk=>(S.ok.seg k).n.2)
 have hkz:Z.m.kAt (w / 8+i)=Z.m.kAt (w / 8):=by unfold Mem.kAt;rw[hai.2.1]
 have hsz':szE Z.O sz (Fw Z.O fw w / 8)≠0:=by rw[u2];exact hsz
 have hn64: ∀k,(m.seg k).n<=64:=λk=>(ok.seg k).n.2
 have hbi:=t.sound.usedAt hsz' (by rw[u2];exact hi) hn64
 have hk1:=(t.kind hbi.1).1
 have hk2:m.kAt (Fw Z.O fw w / 8+i)=Z.m.kAt (w / 8):=by rw[<-u3];unfold Mem.kAt;rw[hbi.2.1]
 refine⟨?_,hbi.1,by rw[<-hk1,hk2],hai.1,hkz⟩
 by_cases ho:aW Z.O w
 ·obtain⟨b,hb⟩:=wd ho
  rw[ib ho hb,show(b*8+w % 8) / 8=b by omega]
  exact .inr ⟨w / 8,b,i,hb,hi,rfl,rfl⟩
 ·rw[ij ho]at hbi⊢
  exact .inl ⟨hai.1,(t.used.1 hbi.1).2,rfl⟩
theorem dj.gw_at{tr:Tr}{s':Sp}{m:Mem}(t:dj Z g F0 fw al sz tr s s' m)(ok:bC m){w:Int}(hw:GW Z fw w)(ht:dX w){i:Nat}(hi:i<Z.sz (w / 8))(h3:Z.m.kAt (w / 8)≠3)(hs: ¬(Z.m.kAt (w / 8)=1/\(Fw Z.O fw w / 8+i) % 2=0)):GW Z fw (Z.m.get (w / 8+i))/\m.get (Fw Z.O fw w / 8+i)=Fw Z.O fw (Z.m.get (w / 8+i)):=by
 obtain⟨a1,a2,a3,a4,a5⟩:=t.at' ok hw ht i hi
 have hk:s.mem.kAt (Fw Z.O fw w / 8+i)≠3:=by rw[a3];exact h3
 rcases t.get a1 with⟨q1,q2⟩ | ⟨_,q1,q2⟩
 ·rw[if_neg hk]at q1
  exact⟨⟨(t.S.ok.seg _).words _,t.S.sound.good _ a4 (by rw[a5];exact h3),q2 hk⟩,q1⟩
 ·exact absurd ⟨by rw[<-a3];exact q1,q2⟩ hs
theorem GW.old{v:Int}(h:GW Z fw v): ∀_:dX v,Z.sz (v / 8)≠0/\v % 8=tagK (Z.m.kAt (v / 8)):=h.2.1.2
theorem dj.inj{tr:Tr}{s':Sp}{m:Mem}(t:dj Z g F0 fw al sz tr s s' m){v v':Int}(h:GW Z fw v)(h':GW Z fw v')(e:Fw Z.O fw v=Fw Z.O fw v'):v=v':=by
 have S:=t.S
 have m1:=(t.good h.1 h.2.1 h.2.2).2.2
 have m2:=(t.good h'.1 h'.2.1 h'.2.2).2.2
 have em:v % 8=v' % 8:=by rw[<-m1,<-m2,e]
 have key: ∀{u u':Int},GW Z fw u->GW Z fw u'->aW Z.O u-> ¬aW Z.O u'->u % 8=u' % 8->Fw Z.O fw u≠Fw Z.O fw u':=λ{u u'} hu hu' o o' em e=>by
  obtain⟨b,hb⟩:=hu.2.2 o
  have im:=(t.tri.img _ _ hb).2
  have h0:=(S.oldWord hu.2.1 o).1
  have hnew:=im.new 0 (by omega)
  rw[ib o hb,ij o']at e
  have ht:dX u':=by have:=l7 o;unfold dX at*;omega
  have hu2:=(S.sound.used _ (hu'.2.1.2 ht).1).1
  apply hnew
  rw[show b+((0:Nat):Int)=u' / 8 by omega];exact hu2
 by_cases o:aW Z.O v
 ·by_cases o':aW Z.O v'
  ·obtain⟨b,hb⟩:=h.2.2 o
   obtain⟨b',hb'⟩:=h'.2.2 o'
   rw[ib o hb,ib o' hb']at e
   have:b=b':=by omega
   subst this
   have:=t.tri.inj _ _ _ hb hb'
   omega
  ·exact absurd e (key h h' o o' em)
 ·by_cases o':aW Z.O v'
  ·exact absurd e.symm (key h' h o' o em.symm)
  ·rw[ij o,ij o']at e;exact e
theorem tH{k:Int}(h:1=tagK k):k=0:=by
 unfold tagK at h
 by_cases h0:k=0
 ·exact h0
 ·rw[if_neg h0]at h;split at h<;>omega
theorem tI{k:Int}(h0:0<=k)(h:3=tagK k):2<=k:=by
 unfold tagK at h
 by_cases h1:k=0
 ·rw[if_pos h1]at h;omega
 ·rw[if_neg h1]at h
  by_cases h2:k=1
  ·rw[if_pos h2]at h;omega
  ·omega
theorem nD{m:Mem}{w:Int}(hl:m.limit<=1024)(ht:dX w)(hu:m.used (w / 8)):fL w:=by
 have:=hu.2.1.2.1
 have:=hu.1
 unfold dX at ht
 exact⟨by omega,by omega⟩
theorem dj.pr{tr:Tr}{s':Sp}{m:Mem}(t:dj Z g F0 fw al sz tr s s' m)(ok:bC m){w a d:Int}(h:Pr Z.m w 1 a d)(hw:GW Z fw w):Pr m (Fw Z.O fw w) 1 (Fw Z.O fw a) (Fw Z.O fw d)/\GW Z fw a/\GW Z fw d:=by
 have S:=t.S
 have h81:=h.at'.2.1
 have ht:dX w:=.inl h81
 obtain⟨d1,d2⟩:=hw.old ht
 rw[h81]at d2
 have hk:=tH d2
 obtain⟨z2,zev⟩:=S.sound.two _ d1 (by rw[hk];decide)
 obtain⟨g1,g2,g3⟩:=t.good hw.1 hw.2.1 hw.2.2
 obtain⟨g4,g5,g6,g7⟩:=g2 ht
 obtain⟨p1,p2⟩:=t.gw_at ok hw ht (i:=0) (by omega) (by rw[hk];decide) (λq=>by rw[hk]at q;exact absurd q.1 (by decide))
 obtain⟨q1,q2⟩:=t.gw_at ok hw ht (i:=1) (by omega) (by rw[hk];decide) (λq=>by rw[hk]at q;exact absurd q.1 (by decide))
 have hu1:=(t.at' ok hw ht 1 (by omega)).2.1
 have e0: ∀z:Int,z+((0:Nat):Int)=z:=λz=>by omega
 have e1: ∀z:Int,z+((1:Nat):Int)=z+1:=λz=>by omega
 rw[e0]at p1
 rw[e0,e0]at p2
 rw[e1]at q1
 rw[e1,e1]at q2
 rw[h.car]at p1 p2
 rw[h.cdr]at q1 q2
 rw[e1]at hu1
 have h8:Fw Z.O fw w % 8=1:=g3.trans h81
 have ht':dX (Fw Z.O fw w):=.inl h8
 refine⟨⟨t.tri.fw_word S hw.1,.inl rfl,⟨nD ok.lim.2 ht' g4,h8,g4.2.1,?_,g4.2.2⟩,?_,hu1,p2,q2⟩,p1,q1⟩
 ·have e:m.kAt (Fw Z.O fw w / 8)=0:=by rw[g6,hk]
  exact e
 ·exact(t.sound.two _ (by rw[g5];exact d1) (by rw[g6,hk];decide)).2
theorem dj.thg{tr:Tr}{s':Sp}{m:Mem}(t:dj Z g F0 fw al sz tr s s' m)(ok:bC m){w k mo:Int}{ws:List Int}(h:dA Z.m w k mo ws)(hw:GW Z fw w):(rawK k=2->dA m (Fw Z.O fw w) k mo (ws.map (Fw Z.O fw))/\ ∀v∈ws,GW Z fw v)/\(rawK k=3->dA m (Fw Z.O fw w) k mo ws):=by
 have S:=t.S
 have h83:=h.obj.1.2.1
 have ht:dX w:=.inr (.inr h83)
 obtain⟨d1,d2⟩:=hw.old ht
 rw[h83]at d2
 have hkr:=(S.ok.seg (w / 8 / 64).toNat).kind
 have hk2:=tI (k:=Z.m.kAt (w / 8)) hkr.1 d2
 obtain⟨o1,o2,o3⟩:=S.sound.obj _ d1 hk2
 rw[h.kindEq]at o2
 rw[h.lenEq]at o3
 obtain⟨g1,g2,g3⟩:=t.good hw.1 hw.2.1 hw.2.2
 obtain⟨g4,g5,g6,g7⟩:=g2 ht
 have h8:Fw Z.O fw w % 8=3:=g3.trans h83
 have ht':dX (Fw Z.O fw w):=.inr (.inr h8)
 have e0: ∀z:Int,z+((0:Nat):Int)=z:=λz=>by omega
 have hd:m.get (Fw Z.O fw w / 8)=Z.m.get (w / 8):=by
  obtain⟨a1,a2,a3,_⟩:=t.at' ok hw ht 0 (by omega)
  rw[e0,e0]at a1
  rw[e0]at a3
  rcases t.get a1 with⟨q,_⟩ | ⟨_,q,_⟩
  ·rw[q]
   split
   ·rfl
   ·exact ij (lM o1 _)
  ·rw[a3]at q;omega
 have hsz':szE Z.O sz (Fw Z.O fw w / 8)≠0:=by rw[g5];exact d1
 have hfit:=(t.sound.used _ hsz').2
 rw[g5]at hfit
 have hobj:m.isObj (Fw Z.O fw w):=by
  unfold Mem.isObj
  rw[hd,h.kindEq,h.lenEq]
  refine⟨⟨nD ok.lim.2 ht' g4,h8,g4.2.1,?_,g4.2.2⟩,o1,by omega⟩
  have e:m.kAt (Fw Z.O fw w / 8)=rawK k:=by rw[g6,o2]
  exact e
 have hword:=t.tri.fw_word S hw.1
 constructor
 ·intro hk
  have hk3:Z.m.kAt (w / 8)=2:=by rw[o2,hk]
  have key: ∀(i:Nat) (hi:i<ws.length),GW Z fw ws[i]/\m.get (Fw Z.O fw w / 8+1+i)=Fw Z.O fw ws[i]:=λi hi=>by
   obtain⟨q1,q2⟩:=t.gw_at ok hw ht (i:=i+1) (by omega) (by rw[hk3];decide) (λq=>by rw[hk3]at q;exact absurd q.1 (by decide))
   rw[show w / 8+((i+1:Nat):Int)=w / 8+1+i by omega,h.get i hi]at q1 q2
   rw[show Fw Z.O fw w / 8+((i+1:Nat):Int)=Fw Z.O fw w / 8+1+i by omega]at q2
   exact⟨q1,q2⟩
  refine⟨⟨hword,hobj,by rw[hd];exact h.kindEq,by rw[hd,List.length_map];exact h.lenEq,by rw[hd];exact h.moreEq,λi hi=>?_⟩,λv hv=>?_⟩
  ·rw[List.length_map]at hi
   rw[List.getElem_map];exact(key i hi).2
  ·obtain⟨i,hi,rfl⟩:=List.getElem_of_mem hv
   exact(key i hi).1
 ·intro hk
  have hk3:Z.m.kAt (w / 8)=3:=by rw[o2,hk]
  refine⟨hword,hobj,by rw[hd];exact h.kindEq,by rw[hd];exact h.lenEq,by rw[hd];exact h.moreEq,λi hi=>?_⟩
  obtain⟨a1,a2,a3,_⟩:=t.at' ok hw ht (i+1) (by omega)
  rw[show w / 8+((i+1:Nat):Int)=w / 8+1+i by omega,h.get i hi]at a1
  rw[show Fw Z.O fw w / 8+((i+1:Nat):Int)=Fw Z.O fw w / 8+1+i by omega]at a1 a3
  rcases t.get a1 with⟨q,_⟩ | ⟨_,q,_⟩
  ·rw[q,if_pos (by rw[a3];exact hk3)]
  ·rw[a3,hk3]at q;exact absurd q (by decide)
theorem dj.sep{tr:Tr}{s':Sp}{m:Mem}(t:dj Z g F0 fw al sz tr s s' m)(ok:bC m){w w':Int}(hw:GW Z fw w)(hw':GW Z fw w')(ht:dX w)(ht':dX w')(hm:w % 8=w' % 8)(hne:w≠w'){n n':Nat}(hn:n+1=Z.sz (w / 8))(hn':n'+1=Z.sz (w' / 8)):Sep (Fw Z.O fw w) n (Fw Z.O fw w') n':=by
 obtain⟨g1,g2,g3⟩:=t.good hw.1 hw.2.1 hw.2.2
 obtain⟨f1,f2,f3⟩:=t.good hw'.1 hw'.2.1 hw'.2.2
 obtain⟨_,g5,_⟩:=g2 ht
 obtain⟨_,f5,_⟩:=f2 ht'
 have hne':Fw Z.O fw w / 8≠Fw Z.O fw w' / 8:=λe=>hne (t.inj hw hw' (by omega))
 intro i j hi hj e
 have h1:szE Z.O sz (Fw Z.O fw w / 8)≠0:=by omega
 have h2:szE Z.O sz (Fw Z.O fw w' / 8)≠0:=by omega
 rcases Int.lt_or_gt_of_ne hne' with q | q
 ·have:=t.sound.apart _ _ h1 h2 q;omega
 ·have:=t.sound.apart _ _ h2 h1 q;omega
end

def J2(c:Int)(s:Sp)(G:Int->Prop):Prop:= ∃sz,Inv s sz/\s.cf<=c/\ ∀v,G v ↔ Good s.mem sz v
theorem mO{m:Mem}{sz:Int->Nat}{x v u:Int}:Good (m.store x v).1 sz u ↔ Good m sz u:=by
 have e:(m.store x v).1.kAt (u / 8)=m.kAt (u / 8):=(Mem.store_seg _).2.1
 unfold Good
 rw[e]
theorem Pr.kat{m:Mem}{w a d:Int}(p:Pr m w 1 a d):m.kAt (w / 8)=0/\m.kAt (w / 8+1)=0:=by
 have h:m.kAt (w / 8)=0:=p.at'.2.2.2.1
 have he:=p.even
 refine⟨h,?_⟩
 unfold Mem.kAt at*
 rw[show(w / 8+1) / 64=w / 8 / 64 by omega];exact h
theorem dA.szk{m:Mem}{sz:Int->Nat}{w k mo:Int}{ws:List Int}(t:dA m w k mo ws)(S:iv m sz)(hg:Good m sz w):sz (w / 8)=ws.length+1/\m.kAt (w / 8)=rawK k:=by
 have h3:=t.obj.1.2.1
 obtain⟨h1,h2⟩:=hg.2 (.inr (.inr h3))
 have hk:m.kAt (w / 8)=rawK k:=by have:=t.obj.1.2.2.2.1;rw[t.kindEq]at this;exact this
 have hr:rawK k=2\/rawK k=3:=by unfold rawK;split<;>omega
 have:=(S.obj _ h1 (by omega)).2.2
 rw[t.lenEq]at this
 exact⟨by omega,hk⟩
theorem rY{c:Int}(hc:c<4611686018427387904):JOK (J2 c):=by
 refine⟨λ⟨_,I,_⟩=>I.ok,λ⟨_,I,_⟩=>I.even,λ⟨_,I,h,_⟩=>Sp.cf_count I.ok (by omega),λ⟨_,_,_,g⟩ v h6 ht=>(g v).2 ⟨h6,λt=>absurd t ht⟩,?_,?_,?_,?_,?_⟩
 ·rintro s G w a d v i ⟨sz,I,h,g⟩ p gw hv gv hi
  have hk:=p.kat
  have hh: ∀a',sz a'≠0->2<=s.mem.kAt a'->w / 8+i≠a':=λa' _ h2 e=>by
   rw[<-e]at h2
   rcases hi with rfl | rfl
   ·rw[Int.add_zero,hk.1]at h2;omega
   ·rw[hk.2]at h2;omega
  obtain⟨I',_,hcf⟩:=I.store hv ((g v).1 gv) hh
  exact⟨sz,I',by omega,λu=>(g u).trans mO.symm⟩
 ·rintro s G w k v ws i ⟨sz,I,h,g⟩ t gw hv gv hi
  have hs:=t.szk I.sound ((g w).1 gw)
  have hh: ∀a',sz a'≠0->2<=s.mem.kAt a'->w / 8+1+i≠a':=λa' h0 _ e=>by
   have h1:sz (w / 8)≠0:=by omega
   apply h0
   rw[<-e,show w / 8+1+(i:Int)=w / 8+((i+1:Nat):Int)by omega]
   exact I.sound.within h1 (by omega) (by omega)
  obtain⟨I',_,hcf⟩:=I.store hv ((g v).1 gv) hh
  exact⟨sz,I',by omega,λu=>(g u).trans mO.symm⟩
 ·rintro s G w a d ⟨sz,I,h,g⟩ p gw
  have hk:=p.kat
  have h1:=I.sound.good _ (p.at'.used p.word) (by rw[hk.1];decide)
  have h2:=I.sound.good _ p.used (by rw[hk.2];decide)
  rw[p.car]at h1
  rw[p.cdr]at h2
  exact⟨(g a).2 h1,(g d).2 h2⟩
 ·rintro s G w k ws ⟨sz,I,h,g⟩ t hk gw v hv
  obtain⟨i,hi,rfl⟩:=List.getElem_of_mem hv
  have hs:=t.szk I.sound ((g w).1 gw)
  have hn64: ∀k,(s.mem.seg k).n<=64:=λk=>(I.ok.mem.seg k).n.2
  have hu:=I.sound.usedAt (a:=w / 8) (i:=i+1) (by omega) (by omega) hn64
  rw[show w / 8+((i+1:Nat):Int)=w / 8+1+i by omega]at hu
  have hk3:s.mem.kAt (w / 8+1+i)=2:=by
   have e:s.mem.kAt (w / 8+1+i)=s.mem.kAt (w / 8):=by unfold Mem.kAt;rw[hu.2.1]
   rw[e,hs.2,hk]
  have h1:=I.sound.good _ hu.1 (by rw[hk3];decide)
  rw[t.get i hi]at h1
  exact(g _).2 h1
 ·rintro s G kind tag ws ⟨sz,I,h,g⟩ hkt hw hg
  have ht:tag=tagK kind:=by
   rcases hkt with⟨rfl,rfl,_⟩ | ⟨rfl,rfl,_⟩ | ⟨hk,rfl,_⟩
   ·rfl
   ·rfl
   ·unfold tagK;rw[if_neg (by omega),if_neg (by omega)]
  obtain⟨sz',I',lift,hnew,hcf⟩:=I.put (kind:=kind) (tag:=tag) (ws:=ws) (by rcases hkt with⟨rfl,_⟩ | ⟨rfl,_⟩ | ⟨hk,_⟩<;>omega) ht hw (λhk=>by
   rcases hkt with⟨_,_,hl⟩ | ⟨_,_,hl⟩ | ⟨hk',_⟩
   ·exact hl
   ·exact hl
   ·omega) (λhk=>by
   rcases hkt with⟨rfl,_⟩ | ⟨rfl,_⟩ | ⟨_,_,hd,fs,h1,h2,h3,h4⟩
   ·omega
   ·omega
   ·exact⟨hd,fs,h1,h2,h3,h4⟩) (λhk w hm=>(g w).1 (hg hk w hm))
  exact⟨_,⟨sz',I',by omega,λ_=>Iff.rfl⟩,λv hv=>lift v ((g v).1 hv),λe=>(hnew e).2⟩
theorem rZ{c:Int}{n:Nat}(hn:8<=n/\n<=1024)(hc:(n:Int)<=c):J2 c ⟨Mem.fresh n,λ_ _=>0⟩ (λv=>Good (Mem.fresh n) (λ_=>0) v):=by
 refine⟨λ_=>0,⟨kF hn,my _,?_,?_⟩,?_,λ_=>Iff.rfl⟩
 ·refine⟨λa h=>absurd rfl h,λa b h=>absurd rfl h,λa h=>absurd rfl h,λa h=>absurd rfl h,λa h=>?_⟩
  exact absurd rfl h.2.1.2.2
 ·intro a h
  exact absurd rfl h.2.1.2.2
 ·show(0:Int)+(n:Int)<=c
  omega
theorem J2.le{c c':Int}{s:Sp}{G:Int->Prop}(h:J2 c s G)(hc:c<=c'):J2 c' s G:=by
 obtain⟨sz,I,h1,g⟩:=h
 exact⟨sz,I,by omega,g⟩

theorem pP{β:Type}(F:Int->Int)(D:Int->Prop)(hinj: ∀w w',D w->D w'->F w=F w'->w=w')(g:Int->β)(z:β): ∃h:Int->β,(∀w,D w->h (F w)=g w)/\ ∀u,(∀w,D w->F w≠u)->h u=z:=by
 classical
 refine⟨λu=>if h: ∃w,D w/\F w=u then g h.choose else z,λw hw=>?_,λu hu=>?_⟩
 ·have h: ∃w',D w'/\F w'=F w:=⟨w,hw,rfl⟩
  show(if h: ∃w',D w'/\F w'=F w then g h.choose else z)=_
  rw[dif_pos h,hinj _ _ h.choose_spec.1 hw h.choose_spec.2]
 ·show(if h: ∃w,D w/\F w=u then g h.choose else z)=_
  rw[dif_neg (λ⟨w,h1,h2⟩=>hu w h1 h2)]
theorem iX{α β:Type}{l:List α}{g:α->β}(h:l.Nodup)(hi: ∀a∈l,∀b∈l,g a=g b->a=b):(l.map g).Nodup:=by
 unfold List.Nodup at*
 rw[List.pairwise_map]
 exact List.Pairwise.imp_of_mem (λha hb hne e=>hne (hi _ ha _ hb e)) h
def mapP(F:Int->Int)(p:Int×Int):Int×Int:=(F p.1,F p.2)
def EntF(F:Int->Int)(y:Ent):Ent:=⟨F y.e,F y.k,F y.v⟩
def TWF(F:Int->Int)(W:TW):TW:=⟨F W.vb,F W.ents,W.ws.map F,W.sp.map (mapP F),λi=>(W.bs i).map (mapP F)⟩
section
variable {f f':PF} {th th':TF} {t ew:Int} {E:List Ent} {W:TW} {F:Int->Int} {P:Int->Prop}
theorem Chn.all(hp: ∀w a d,f w=Option.some (a,d)->P w->P a/\P d): ∀{l:List (Int×Int)} {w:Int},Chn f w l->P w-> ∀p∈l,P p.1/\P p.2
 | [],_,_,_,p,h=>by simp at h
 | q::l,w,⟨h1,d,h2,h3⟩,hw,p,h=>by
  rw[h1]at hw
  obtain⟨k1,k2⟩:=hp _ _ _ h2 hw
  rcases List.mem_cons.1 h with rfl | h
  ·exact⟨hw,k1⟩
  ·exact h3.all hp k2 p h
theorem Chn.img(h20:F 20=20): ∀{l:List (Int×Int)} {w:Int},Chn f w l->(∀p∈l,f' (F p.1)=(f p.1).map (mapP F))->Chn f' (F w) (l.map (mapP F))
 | [],w,h,_=>by
  have h:w=20:=h
  rw[h];exact h20
 | q::l,w,⟨h1,d,h2,h3⟩,hf=>by
  refine⟨by rw[h1];rfl,F d,?_,h3.img h20 (λp hp=>hf p (by simp[hp]))⟩
  have:=hf q (by simp)
  rw[h2]at this;exact this
structure Tw (P:Int->Prop) (E:List Ent) (W:TW):Prop where
 own: ∀u,OwnW E W u->P u
 vb:P W.vb
 ents:P W.ents
 ws: ∀v∈W.ws,P v
 kv: ∀y∈E,P y.k/\P y.v
 bs: ∀i,i<31-> ∀p∈W.bs i,P p.2
theorem Tb.tw(T:Tb f th t ew E W)(hp: ∀w a d,f w=some (a,d)->P w->P a/\P d)(ht: ∀w k ws,th w=some (k,ws)->rawK k=2->P w-> ∀v∈ws,P v)(h20:P 20)(gt:P t):Tw P E W:=by
 have h1:=ht _ _ _ T.tab (by decide) gt
 have he:=h1 W.ents (by simp)
 have hv:=h1 W.vb (by simp)
 have h2:=ht _ _ _ T.vec (by decide) hv
 have hb: ∀i,i<31-> ∀p∈W.bs i,P p.1/\P p.2:=λi hi=>(T.bkc i hi).all hp (by
  rw[List.getD_eq_getElem?_getD,List.getElem?_eq_getElem (by rw[T.len];exact hi)]
  exact h2 _ (List.getElem_mem _))
 have hs:=T.spc.all hp he
 have hee: ∀y∈E,P y.e:=λy hy=>by
  have:y.e∈W.sp.map Prod.snd:=by rw[T.spe,List.mem_reverse];exact List.mem_map_of_mem hy
  obtain⟨p,hp,e⟩:=List.mem_map.1 this
  rw[<-e];exact(hs p hp).2
 refine⟨λu hu=>?_,hv,he,h2,λy hy=>hp _ _ _ (T.ent y hy) (hee y hy),λi hi p hp=>(hb i hi p hp).2⟩
 rcases hu with⟨y,hy,rfl⟩ | ⟨p,hp,rfl⟩ | ⟨i,hi,p,hp,rfl⟩
 ·exact hee y hy
 ·exact(hs p hp).1
 ·exact(hb i hi p hp).1
theorem Tb.img(T:Tb f th t ew E W)(hw:Tw P E W)(gt:P t)(inj: ∀v v',P v->P v'->F v=F v'->v=v')(imm: ∀v,¬dX v->F v=v)(hew:ew % 8=0)(hf: ∀u,OwnW E W u->f' (F u)=(f u).map (mapP F))(h1:th' (F t)=(th t).map λp=>(p.1,p.2.map F))(h2:th' (F W.vb)=(th W.vb).map λp=>(p.1,p.2.map F)):
  Tb f' th' (F t) ew (E.map (EntF F)) (TWF F W):=by
 have h20:F 20=20:=imm 20 (by decide)
 have im8: ∀n:Int,n % 8=0->F n=n:=λn h=>imm n (by unfold dX;omega)
 have injP: ∀i j,i<31->j<31-> ∀p∈W.bs i,∀q∈W.bs j,F p.2=F q.2->i=j/\p=q:=λi j hi hj p hp q hq e=>T.bk1 i j hi hj p hp q hq (inj _ _ (hw.bs i hi p hp) (hw.bs j hj q hq) e)
 have oE: ∀y∈E,P y.e:=λy hy=>hw.own _ (.inl ⟨y,hy,rfl⟩)
 refine⟨?_,?_,λe=>T.ne (inj _ _ gt hw.vb e),by show(W.ws.map F).length=31;rw[List.length_map];exact T.len,T.spc.img h20 (λp hp=>hf _ (.inr (.inl ⟨p,hp,rfl⟩))),?_,λi hi=>?_,λy hy=>?_,λi hi p hp=>?_,λy hy=>?_,λi j hi hj p hp q hq e=>?_,λi hi=>?_,?_,?_,?_⟩
 ·rw[h1,T.tab,List.length_map]
  show some (11,[F (8*(E.length:Int)),F W.ents,F W.vb,F ew])=_
  rw[im8 (8*(E.length:Int)) (by omega),im8 ew hew];rfl
 ·show th' (F W.vb)=some (1,W.ws.map F)
  rw[h2,T.vec];rfl
 ·show(W.sp.map (mapP F)).map Prod.snd=((E.map (EntF F)).map Ent.e).reverse
  rw[List.map_map,List.map_map]
  have a1:W.sp.map (Prod.snd ∘ mapP F)=(W.sp.map Prod.snd).map F:=by rw[List.map_map];rfl
  have a2:E.map (Ent.e ∘ EntF F)=(E.map Ent.e).map F:=by rw[List.map_map];rfl
  rw[a1,a2,T.spe,List.map_reverse]
 ·show Chn f' ((W.ws.map F).getD i 20) ((W.bs i).map (mapP F))
  have e:(W.ws.map F).getD i 20=F (W.ws.getD i 20):=by
   rw[List.getD_eq_getElem?_getD,List.getD_eq_getElem?_getD,List.getElem?_map]
   cases W.ws[i]? with
   | none=>exact h20.symm
   | some v=>rfl
  rw[e]
  exact(T.bkc i hi).img h20 (λp hp=>hf _ (.inr (.inr ⟨i,hi,p,hp,rfl⟩)))
 ·obtain⟨z,hz,rfl⟩:=List.mem_map.1 hy
  show f' (F z.e)=_
  rw[hf _ (.inl ⟨z,hz,rfl⟩),T.ent z hz];rfl
 ·obtain⟨q,hq,rfl⟩:=List.mem_map.1 hp
  obtain⟨y,hy,e⟩:=T.bke i hi q hq
  exact⟨_,List.mem_map_of_mem hy,congrArg F e⟩
 ·obtain⟨z,hz,rfl⟩:=List.mem_map.1 hy
  obtain⟨i,hi,p,hp,e⟩:=T.bkx z hz
  exact⟨i,hi,_,List.mem_map_of_mem hp,congrArg F e⟩
 ·obtain⟨p0,hp0,rfl⟩:=List.mem_map.1 hp
  obtain⟨q0,hq0,rfl⟩:=List.mem_map.1 hq
  obtain⟨e1,e2⟩:=injP i j hi hj p0 hp0 q0 hq0 e
  exact⟨e1,by rw[e2]⟩
 ·exact iX (T.bkn i hi) (λa ha b hb e=>(injP i i hi hi a ha b hb (congrArg Prod.snd e)).2)
 ·have a2:(E.map (EntF F)).map Ent.e=(E.map Ent.e).map F:=by rw[List.map_map,List.map_map];rfl
  rw[a2]
  refine iX T.en (λa ha b hb e=>?_)
  obtain⟨y,hy,rfl⟩:=List.mem_map.1 ha
  obtain⟨z,hz,rfl⟩:=List.mem_map.1 hb
  exact inj _ _ (oE y hy) (oE z hz) e
 ·have a2:(E.map (EntF F)).map Ent.k=(E.map Ent.k).map F:=by rw[List.map_map,List.map_map];rfl
  rw[a2]
  refine iX T.keys (λa ha b hb e=>?_)
  obtain⟨y,hy,rfl⟩:=List.mem_map.1 ha
  obtain⟨z,hz,rfl⟩:=List.mem_map.1 hb
  exact inj _ _ (hw.kv y hy).1 (hw.kv z hz).1 e
 ·obtain⟨ρ,r1,r2,r3⟩:=T.rol
  obtain⟨ρ',hr,_⟩:=pP F (OwnW E W) (λw w' h h' e=>inj _ _ (hw.own w h) (hw.own w' h') e) ρ 0
  refine⟨ρ',λy hy=>?_,λp hp=>?_,λi hi p hp=>?_⟩
  ·obtain⟨z,hz,rfl⟩:=List.mem_map.1 hy
   exact(hr _ (.inl ⟨z,hz,rfl⟩)).trans (r1 z hz)
  ·obtain⟨q,hq,rfl⟩:=List.mem_map.1 hp
   exact(hr _ (.inr (.inl ⟨q,hq,rfl⟩))).trans (r2 q hq)
  ·obtain⟨q,hq,rfl⟩:=List.mem_map.1 hp
   exact(hr _ (.inr (.inr ⟨i,hi,q,hq,rfl⟩))).trans (r3 i hi q hq)
end
section
variable {Z:TZ} {g F0:Int} {fw:Int->Option Int} {al:List Int} {s s':Sp} {sz:Int->Nat} {tr:Tr} {m:Mem} {f:PF} {th:TF} {t ew:Int} {E:List Ent} {W:TW}
theorem dj.table(T:dj Z g F0 fw al sz tr s s' m)(ok:bC m)(hp:HPic Z.m f th)(tb:Tb f th t ew E W)(hew:ew % 8=0)(gt:GW Z fw t):
  ∃f' th',HPic m f' th'/\Tb f' th' (Fw Z.O fw t) ew (E.map (EntF (Fw Z.O fw))) (TWF (Fw Z.O fw) W)/\(∀u p,f' u=some p-> ∃w,GW Z fw w/\u=Fw Z.O fw w)/\(∀u p,th' u=some p-> ∃w,GW Z fw w/\u=Fw Z.O fw w)/\Tw (GW Z fw) E W:=by
 have g20:GW Z fw 20:=⟨by decide,⟨by decide,λh=>absurd h (by decide)⟩,λh=>absurd (l7 h) (by decide)⟩
 have hprs: ∀w a d,f w=some (a,d)->GW Z fw w->GW Z fw a/\GW Z fw d:=λw a d e gw=>(T.pr ok (hp.prs w a d e) gw).2
 have hths: ∀w k ws,th w=some (k,ws)->rawK k=2->GW Z fw w-> ∀v∈ws,GW Z fw v:=λw k ws e hk gw=>((T.thg ok (hp.ths w k ws e) gw).1 hk).2
 have hw:=tb.tw hprs hths g20 gt
 have inj: ∀v v',GW Z fw v->GW Z fw v'->Fw Z.O fw v=Fw Z.O fw v'->v=v':=λv v' h h' e=>T.inj h h' e
 have imm: ∀v,¬dX v->Fw Z.O fw v=v:=λv h=>ij (λq=>h (l7 q))
 obtain⟨f',hf,hf0⟩:=pP (Fw Z.O fw) (OwnW E W) (λw w' h h' e=>inj _ _ (hw.own w h) (hw.own w' h') e) (λw=>(f w).map (mapP (Fw Z.O fw))) none
 have gD: ∀w,(w=t\/w=W.vb)->GW Z fw w:=λw h=>by rcases h with rfl | rfl;exact gt;exact hw.vb
 obtain⟨th',ht,ht0⟩:=pP (Fw Z.O fw) (λw=>w=t\/w=W.vb) (λw w' h h' e=>inj _ _ (gD w h) (gD w' h') e) (λw=>(th w).map λp=>(p.1,p.2.map (Fw Z.O fw))) none
 have bf: ∀u p,f' u=some p-> ∃w a d,OwnW E W w/\u=Fw Z.O fw w/\f w=some (a,d)/\p=(Fw Z.O fw a,Fw Z.O fw d):=λu p e=>by
  by_cases q: ∃w,OwnW E W w/\Fw Z.O fw w=u
  ·obtain⟨w,h1,rfl⟩:=q
   rw[hf w h1]at e
   cases hfw:f w with
   | none=>rw[hfw]at e;cases e
   | some p0=>rw[hfw]at e;cases e;exact⟨w,p0.1,p0.2,h1,rfl,hfw,rfl⟩
  ·rw[hf0 u (λw h1 h2=>q ⟨w,h1,h2⟩)]at e;cases e
 have bt: ∀u p,th' u=some p-> ∃w k ws,(w=t\/w=W.vb)/\u=Fw Z.O fw w/\th w=some (k,ws)/\rawK k=2/\p=(k,ws.map (Fw Z.O fw)):=λu p e=>by
  by_cases q: ∃w,(w=t\/w=W.vb)/\Fw Z.O fw w=u
  ·obtain⟨w,h1,rfl⟩:=q
   rw[ht w h1]at e
   rcases h1 with rfl | rfl
   ·rw[tb.tab]at e;cases e;exact⟨w,_,_,.inl rfl,rfl,tb.tab,by decide,rfl⟩
   ·rw[tb.vec]at e;cases e;exact⟨_,_,_,.inr rfl,rfl,tb.vec,by decide,rfl⟩
  ·rw[ht0 u (λw h1 h2=>q ⟨w,h1,h2⟩)]at e;cases e
 refine⟨f',th',⟨λu a d e=>?_,λu k ws e=>?_,λu k ws u' k' ws' e e' hne=>?_⟩,tb.img hw gt inj imm hew hf (ht t (.inl rfl)) (ht _ (.inr rfl)),λu p e=>?_,λu p e=>?_,hw⟩
 ·obtain⟨w,a0,d0,h1,rfl,h2,h3⟩:=bf u _ e
  cases h3
  exact(T.pr ok (hp.prs _ _ _ h2) (hw.own w h1)).1
 ·obtain⟨w,k0,ws0,h1,rfl,h2,h3,h4⟩:=bt u _ e
  cases h4
  exact((T.thg ok (hp.ths _ _ _ h2) (gD w h1)).1 h3).1
 ·obtain⟨w,k0,ws0,h1,rfl,h2,h3,h4⟩:=bt u _ e
  obtain⟨w',k0',ws0',h1',rfl,h2',h3',h4'⟩:=bt u' _ e'
  cases h4;cases h4'
  have t1:=hp.ths _ _ _ h2
  have t2:=hp.ths _ _ _ h2'
  have z1:=t1.szk T.S.sound (gD w h1).2.1
  have z2:=t2.szk T.S.sound (gD w' h1').2.1
  have m1:=t1.obj.1.2.1
  have m2:=t2.obj.1.2.1
  rw[List.length_map,List.length_map]
  exact T.sep ok (gD w h1) (gD w' h1') (.inr (.inr m1)) (.inr (.inr m2)) (by omega) (λq=>hne (by rw[q])) z1.1.symm z2.1.symm
 ·obtain⟨w,a0,d0,h1,e1,_⟩:=bf u _ e
  exact⟨w,hw.own w h1,e1⟩
 ·obtain⟨w,k0,ws0,h1,e1,_⟩:=bt u _ e
  exact⟨w,gD w h1,e1⟩
end
