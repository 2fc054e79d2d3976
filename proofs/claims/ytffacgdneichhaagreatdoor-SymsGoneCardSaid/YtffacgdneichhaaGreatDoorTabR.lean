/-
 Behind a trace things stand as they stood, elsewhere: pairs and things by their words. Proves nothing of any one statement.
-/
import Derived.Test.YtffacgdneichhaaGreatDoorGcH
import Derived.Test.YtffacgdneichhaaGreatDoorTabC
set_option linter.unusedVariables false
set_option linter.unusedSimpArgs false
namespace Go.Proofs.YtffacgdneichhaaGreatDoor
open Go

theorem sH{β:Type}(F:Int->Int)(D:Int->Prop)(hinj: ∀w w',D w->D w'->F w=F w'->w=w')(g:Int->β)(z:β): ∃h:Int->β,(∀w,D w->h (F w)=g w)/\ ∀u,(∀w,D w->F w≠u)->h u=z:=by
 classical
 refine⟨λu=>if h: ∃w,D w/\F w=u then g h.choose else z,λw hw=>?_,λu hu=>?_⟩
 ·have h: ∃w',D w'/\F w'=F w:=⟨w,hw,rfl⟩
  show(if h: ∃w',D w'/\F w'=F w then g h.choose else z)=_
  rw[dif_pos h,hinj _ _ h.choose_spec.1 hw h.choose_spec.2]
 ·show(if h: ∃w,D w/\F w=u then g h.choose else z)=_
  rw[dif_neg (λ⟨w,h1,h2⟩=>hu w h1 h2)]
section
variable {Z:TZ} {g F0:Int} {fw:Int->Option Int} {al:List Int} {s:Sp} {sz:Int->Nat}
def GW(Z:TZ)(fw:Int->Option Int)(v:Int):Prop:=aJ v/\Good Z.m Z.sz v/\Dn Z.O fw v
theorem cZ.at'{tr:Tr}{s':Sp}{m:Mem}(t:cZ Z g F0 fw al sz tr s s' m)(ok:aY m){w:Int}(hw:GW Z fw w)(ht:dK w): ∀i:Nat,i<Z.sz (w / 8)->Was Z fw (Fw Z.O fw w / 8+i) (Z.m.get (w / 8+i))/\m.used (Fw Z.O fw w / 8+i)/\s.mem.kAt (Fw Z.O fw w / 8+i)=Z.m.kAt (w / 8)/\Z.m.used (w / 8+i)/\Z.m.kAt (w / 8+i)=Z.m.kAt (w / 8):=by
 intro i hi
 obtain⟨ww,wg,wd⟩:=hw
 obtain⟨g1,g2,g3⟩:=t.good ww wg wd
 obtain⟨u1,u2,u3,u4⟩:=g2 ht
 have S:=t.S
 have hsz:=(wg.2 ht).1
 have hai:=S.sound.usedAt hsz hi (λk=>(S.ok.seg k).n.2)
 have hkz:Z.m.kAt (w / 8+i)=Z.m.kAt (w / 8):=by unfold Mem.kAt;rw[hai.2.1]
 have hsz':szE Z.O sz (Fw Z.O fw w / 8)≠0:=by rw[u2];exact hsz
 have hn64: ∀k,(m.seg k).n<=64:=λk=>(ok.seg k).n.2
 have hbi:=t.sound.usedAt hsz' (by rw[u2];exact hi) hn64
 have hk1:=(t.kind hbi.1).1
 have hk2:m.kAt (Fw Z.O fw w / 8+i)=Z.m.kAt (w / 8):=by rw[<-u3];unfold Mem.kAt;rw[hbi.2.1]
 refine⟨?_,hbi.1,by rw[<-hk1,hk2],hai.1,hkz⟩
 by_cases ho:aM Z.O w
 ·obtain⟨b,hb⟩:=wd ho
  rw[fS ho hb,show(b*8+w % 8) / 8=b by omega]
  exact .inr ⟨w / 8,b,i,hb,hi,rfl,rfl⟩
 ·rw[gF ho]at hbi⊢
  exact .inl ⟨hai.1,(t.used.1 hbi.1).2,rfl⟩
theorem cZ.gw_at{tr:Tr}{s':Sp}{m:Mem}(t:cZ Z g F0 fw al sz tr s s' m)(ok:aY m){w:Int}(hw:GW Z fw w)(ht:dK w){i:Nat}(hi:i<Z.sz (w / 8))(h3:Z.m.kAt (w / 8)≠3)(hs: ¬(Z.m.kAt (w / 8)=1/\(Fw Z.O fw w / 8+i) % 2=0)):GW Z fw (Z.m.get (w / 8+i))/\m.get (Fw Z.O fw w / 8+i)=Fw Z.O fw (Z.m.get (w / 8+i)):=by
 obtain⟨a1,a2,a3,a4,a5⟩:=t.at' ok hw ht i hi
 have hk:s.mem.kAt (Fw Z.O fw w / 8+i)≠3:=by rw[a3];exact h3
 rcases t.get a1 with⟨q1,q2⟩ | ⟨_,q1,q2⟩
 ·rw[if_neg hk]at q1
  exact⟨⟨(t.S.ok.seg _).words _,t.S.sound.good _ a4 (by rw[a5];exact h3),q2 hk⟩,q1⟩
 ·exact absurd ⟨by rw[<-a3];exact q1,q2⟩ hs
theorem GW.old{v:Int}(h:GW Z fw v): ∀_:dK v,Z.sz (v / 8)≠0/\v % 8=tagK (Z.m.kAt (v / 8)):=h.2.1.2
theorem cZ.inj{tr:Tr}{s':Sp}{m:Mem}(t:cZ Z g F0 fw al sz tr s s' m){v v':Int}(h:GW Z fw v)(h':GW Z fw v')(e:Fw Z.O fw v=Fw Z.O fw v'):v=v':=by
 have S:=t.S
 have m1:=(t.good h.1 h.2.1 h.2.2).2.2
 have m2:=(t.good h'.1 h'.2.1 h'.2.2).2.2
 have em:v % 8=v' % 8:=by rw[<-m1,<-m2,e]
 have key: ∀{u u':Int},GW Z fw u->GW Z fw u'->aM Z.O u-> ¬aM Z.O u'->u % 8=u' % 8->Fw Z.O fw u≠Fw Z.O fw u':=λ{u u'} hu hu' o o' em e=>by
  obtain⟨b,hb⟩:=hu.2.2 o
  have im:=(t.tri.img _ _ hb).2
  have h0:=(S.oldWord hu.2.1 o).1
  have hnew:=im.new 0 (by omega)
  rw[fS o hb,gF o']at e
  have ht:dK u':=by have:=nA o;unfold dK at*;omega
  have hu2:=(S.sound.used _ (hu'.2.1.2 ht).1).1
  apply hnew
  rw[show b+((0:Nat):Int)=u' / 8 by omega];exact hu2
 by_cases o:aM Z.O v
 ·by_cases o':aM Z.O v'
  ·obtain⟨b,hb⟩:=h.2.2 o
   obtain⟨b',hb'⟩:=h'.2.2 o'
   rw[fS o hb,fS o' hb']at e
   have:b=b':=by omega
   subst this
   have:=t.tri.inj _ _ _ hb hb'
   omega
  ·exact absurd e (key h h' o o' em)
 ·by_cases o':aM Z.O v'
  ·exact absurd e.symm (key h' h o' o em.symm)
  ·rw[gF o,gF o']at e;exact e
theorem sI{k:Int}(h:1=tagK k):k=0:=by
 unfold tagK at h
 by_cases h0:k=0
 ·exact h0
 ·rw[if_neg h0]at h;split at h<;>omega
theorem sJ{k:Int}(h0:0<=k)(h:3=tagK k):2<=k:=by
 unfold tagK at h
 by_cases h1:k=0
 ·rw[if_pos h1]at h;omega
 ·rw[if_neg h1]at h
  by_cases h2:k=1
  ·rw[if_pos h2]at h;omega
  ·omega
theorem mV{m:Mem}{w:Int}(hl:m.limit<=1024)(ht:dK w)(hu:m.used (w / 8)):eN w:=by
 have:=hu.2.1.2.1
 have:=hu.1
 unfold dK at ht
 exact⟨by omega,by omega⟩
theorem cZ.pr{tr:Tr}{s':Sp}{m:Mem}(t:cZ Z g F0 fw al sz tr s s' m)(ok:aY m){w a d:Int}(h:Pr Z.m w 1 a d)(hw:GW Z fw w):Pr m (Fw Z.O fw w) 1 (Fw Z.O fw a) (Fw Z.O fw d)/\GW Z fw a/\GW Z fw d:=by
 have S:=t.S
 have h81:=h.at'.2.1
 have ht:dK w:=.inl h81
 obtain⟨d1,d2⟩:=hw.old ht
 rw[h81]at d2
 have hk:=sI d2
 obtain⟨z2,zev⟩:=S.sound.two _ d1 (by rw[hk];decide)
 obtain⟨g1,g2,g3⟩:=t.good hw.1 hw.2.1 hw.2.2
 obtain⟨g4,g5,g6,g7⟩:=g2 ht
 obtain⟨p1,p2⟩:=t.gw_at ok hw ht (i:=0) (by omega) (by rw[hk];decide) (λq=>by rw[hk]at q;exact absurd q.1 (by decide))
 obtain⟨q1,q2⟩:=t.gw_at ok hw ht (i:=1) (by omega) (by rw[hk];decide) (λq=>by rw[hk]at q;exact absurd q.1 (by decide))
 have hu1:=(t.at' ok hw ht 1 (by omega)).2.1
 have e0: ∀z:Int,z+((0:Nat):Int)=z:=λz=>by omega
 have e1: ∀z:Int,z+((1:Nat):Int)=z+1:=λz=>by omega
 rw[e0]at p1
 rw[e0,e0]at p2
 rw[e1]at q1
 rw[e1,e1]at q2
 rw[h.car]at p1 p2
 rw[h.cdr]at q1 q2
 rw[e1]at hu1
 have h8:Fw Z.O fw w % 8=1:=g3.trans h81
 have ht':dK (Fw Z.O fw w):=.inl h8
 refine⟨⟨t.tri.fw_word S hw.1,.inl rfl,⟨mV ok.lim.2 ht' g4,h8,g4.2.1,?_,g4.2.2⟩,?_,hu1,p2,q2⟩,p1,q1⟩
 ·have e:m.kAt (Fw Z.O fw w / 8)=0:=by rw[g6,hk]
  exact e
 ·exact(t.sound.two _ (by rw[g5];exact d1) (by rw[g6,hk];decide)).2
theorem cZ.thg{tr:Tr}{s':Sp}{m:Mem}(t:cZ Z g F0 fw al sz tr s s' m)(ok:aY m){w k mo:Int}{ws:List Int}(h:cE Z.m w k mo ws)(hw:GW Z fw w):(rawK k=2->cE m (Fw Z.O fw w) k mo (ws.map (Fw Z.O fw))/\ ∀v∈ws,GW Z fw v)/\(rawK k=3->cE m (Fw Z.O fw w) k mo ws):=by
 have S:=t.S
 have h83:=h.obj.1.2.1
 have ht:dK w:=.inr (.inr h83)
 obtain⟨d1,d2⟩:=hw.old ht
 rw[h83]at d2
 have hkr:=(S.ok.seg (w / 8 / 64).toNat).kind
 have hk2:=sJ (k:=Z.m.kAt (w / 8)) hkr.1 d2
 obtain⟨o1,o2,o3⟩:=S.sound.obj _ d1 hk2
 rw[h.kindEq]at o2
 rw[h.lenEq]at o3
 obtain⟨g1,g2,g3⟩:=t.good hw.1 hw.2.1 hw.2.2
 obtain⟨g4,g5,g6,g7⟩:=g2 ht
 have h8:Fw Z.O fw w % 8=3:=g3.trans h83
 have ht':dK (Fw Z.O fw w):=.inr (.inr h8)
 have e0: ∀z:Int,z+((0:Nat):Int)=z:=λz=>by omega
 have hd:m.get (Fw Z.O fw w / 8)=Z.m.get (w / 8):=by
  obtain⟨a1,a2,a3,_⟩:=t.at' ok hw ht 0 (by omega)
  rw[e0,e0]at a1
  rw[e0]at a3
  rcases t.get a1 with⟨q,_⟩ | ⟨_,q,_⟩
  ·rw[q]
   split
   ·rfl
   ·exact gF (jw o1 _)
  ·rw[a3]at q;omega
 have hsz':szE Z.O sz (Fw Z.O fw w / 8)≠0:=by rw[g5];exact d1
 have hfit:=(t.sound.used _ hsz').2
 rw[g5]at hfit
 have hobj:m.isObj (Fw Z.O fw w):=by
  unfold Mem.isObj
  rw[hd,h.kindEq,h.lenEq]
  refine⟨⟨mV ok.lim.2 ht' g4,h8,g4.2.1,?_,g4.2.2⟩,o1,by omega⟩
  have e:m.kAt (Fw Z.O fw w / 8)=rawK k:=by rw[g6,o2]
  exact e
 have hword:=t.tri.fw_word S hw.1
 constructor
 ·intro hk
  have hk3:Z.m.kAt (w / 8)=2:=by rw[o2,hk]
  have key: ∀(i:Nat) (hi:i<ws.length),GW Z fw ws[i]/\m.get (Fw Z.O fw w / 8+1+i)=Fw Z.O fw ws[i]:=λi hi=>by
   obtain⟨q1,q2⟩:=t.gw_at ok hw ht (i:=i+1) (by omega) (by rw[hk3];decide) (λq=>by rw[hk3]at q;exact absurd q.1 (by decide))
   rw[show w / 8+((i+1:Nat):Int)=w / 8+1+i by omega,h.get i hi]at q1 q2
   rw[show Fw Z.O fw w / 8+((i+1:Nat):Int)=Fw Z.O fw w / 8+1+i by omega]at q2
   exact⟨q1,q2⟩
  refine⟨⟨hword,hobj,by rw[hd];exact h.kindEq,by rw[hd,List.length_map];exact h.lenEq,by rw[hd];exact h.moreEq,λi hi=>?_⟩,λv hv=>?_⟩
  ·rw[List.length_map]at hi
   rw[List.getElem_map];exact(key i hi).2
  ·obtain⟨i,hi,rfl⟩:=List.getElem_of_mem hv
   exact(key i hi).1
 ·intro hk
  have hk3:Z.m.kAt (w / 8)=3:=by rw[o2,hk]
  refine⟨hword,hobj,by rw[hd];exact h.kindEq,by rw[hd];exact h.lenEq,by rw[hd];exact h.moreEq,λi hi=>?_⟩
  obtain⟨a1,a2,a3,_⟩:=t.at' ok hw ht (i+1) (by omega)
  rw[show w / 8+((i+1:Nat):Int)=w / 8+1+i by omega,h.get i hi]at a1
  rw[show Fw Z.O fw w / 8+((i+1:Nat):Int)=Fw Z.O fw w / 8+1+i by omega]at a1 a3
  rcases t.get a1 with⟨q,_⟩ | ⟨_,q,_⟩
  ·rw[q,if_pos (by rw[a3];exact hk3)]
  ·rw[a3,hk3]at q;exact absurd q (by decide)
theorem cZ.sep{tr:Tr}{s':Sp}{m:Mem}(t:cZ Z g F0 fw al sz tr s s' m)(ok:aY m){w w':Int}(hw:GW Z fw w)(hw':GW Z fw w')(ht:dK w)(ht':dK w')(hm:w % 8=w' % 8)(hne:w≠w'){n n':Nat}(hn:n+1=Z.sz (w / 8))(hn':n'+1=Z.sz (w' / 8)):Sep (Fw Z.O fw w) n (Fw Z.O fw w') n':=by
 obtain⟨g1,g2,g3⟩:=t.good hw.1 hw.2.1 hw.2.2
 obtain⟨f1,f2,f3⟩:=t.good hw'.1 hw'.2.1 hw'.2.2
 obtain⟨_,g5,_⟩:=g2 ht
 obtain⟨_,f5,_⟩:=f2 ht'
 have hne':Fw Z.O fw w / 8≠Fw Z.O fw w' / 8:=λe=>hne (t.inj hw hw' (by omega))
 intro i j hi hj e
 have h1:szE Z.O sz (Fw Z.O fw w / 8)≠0:=by omega
 have h2:szE Z.O sz (Fw Z.O fw w' / 8)≠0:=by omega
 rcases Int.lt_or_gt_of_ne hne' with q | q
 ·have:=t.sound.apart _ _ h1 h2 q;omega
 ·have:=t.sound.apart _ _ h2 h1 q;omega
theorem cZ.gens{tr:Tr}{s':Sp}{m:Mem}(t:cZ Z g F0 fw al sz tr s s' m)(hg: ∀x,Z.m.used x->Z.m.gAt x<=3)(hT:Z.T<=3): ∀x,m.used x->m.gAt x<=3:=λx hx=>by
 obtain⟨h1,h2⟩:=t.used.1 hx
 rw[(t.kind hx).2]
 rcases t.tri.cover x h1 with hz | ⟨a,b,i,q1,q2,q3⟩
 ·rw[(t.tri.kAt hz).2];exact hg x hz
 ·have im:=(t.tri.img a b q1).2
  have hf:=im.fit
  have:=im.gen
  unfold Mem.gAt at this⊢
  rw[q3,show(b+(i:Int)) / 64=b / 64 by omega,this];exact hT
end

def J2(c:Int)(s:Sp)(G:Int->Prop):Prop:= ∃sz,Inv s sz/\s.cf<=c/\ ∀v,G v ↔ Good s.mem sz v
theorem mb{m:Mem}{sz:Int->Nat}{x v u:Int}:Good (m.store x v).1 sz u ↔ Good m sz u:=by
 have e:(m.store x v).1.kAt (u / 8)=m.kAt (u / 8):=(Mem.store_seg _).2.1
 unfold Good
 rw[e]
theorem Pr.kat{m:Mem}{w a d:Int}(p:Pr m w 1 a d):m.kAt (w / 8)=0/\m.kAt (w / 8+1)=0:=by
 have h:m.kAt (w / 8)=0:=p.at'.2.2.2.1
 have he:=p.even
 refine⟨h,?_⟩
 unfold Mem.kAt at*
 rw[show(w / 8+1) / 64=w / 8 / 64 by omega];exact h
theorem cE.szk{m:Mem}{sz:Int->Nat}{w k mo:Int}{ws:List Int}(t:cE m w k mo ws)(S:gQ m sz)(hg:Good m sz w):sz (w / 8)=ws.length+1/\m.kAt (w / 8)=rawK k:=by
 have h3:=t.obj.1.2.1
 obtain⟨h1,h2⟩:=hg.2 (.inr (.inr h3))
 have hk:m.kAt (w / 8)=rawK k:=by have:=t.obj.1.2.2.2.1;rw[t.kindEq]at this;exact this
 have hr:rawK k=2\/rawK k=3:=by unfold rawK;split<;>omega
 have:=(S.obj _ h1 (by omega)).2.2
 rw[t.lenEq]at this
 exact⟨by omega,hk⟩
theorem ta{c:Int}(hc:c<4611686018427387904):JOK (J2 c):=by
 refine⟨λ⟨_,I,_⟩=>I.ok,λ⟨_,I,_⟩=>I.even,λ⟨_,I,h,_⟩=>Sp.cf_count I.ok (by omega),λ⟨_,_,_,g⟩ v h6 ht=>(g v).2 ⟨h6,λt=>absurd t ht⟩,?_,?_,?_,?_,?_⟩
 ·rintro s G w a d v i ⟨sz,I,h,g⟩ p gw hv gv hi
  have hk:=p.kat
  have hh: ∀a',sz a'≠0->2<=s.mem.kAt a'->w / 8+i≠a':=λa' _ h2 e=>by
   rw[<-e]at h2
   rcases hi with rfl | rfl
   ·rw[Int.add_zero,hk.1]at h2;omega
   ·rw[hk.2]at h2;omega
  obtain⟨I',_,hcf⟩:=I.store hv ((g v).1 gv) hh
  exact⟨sz,I',by omega,λu=>(g u).trans mb.symm⟩
 ·rintro s G w k v ws i ⟨sz,I,h,g⟩ t gw hv gv hi
  have hs:=t.szk I.sound ((g w).1 gw)
  have hh: ∀a',sz a'≠0->2<=s.mem.kAt a'->w / 8+1+i≠a':=λa' h0 _ e=>by
   have h1:sz (w / 8)≠0:=by omega
   apply h0
   rw[<-e,show w / 8+1+(i:Int)=w / 8+((i+1:Nat):Int)by omega]
   exact I.sound.within h1 (by omega) (by omega)
  obtain⟨I',_,hcf⟩:=I.store hv ((g v).1 gv) hh
  exact⟨sz,I',by omega,λu=>(g u).trans mb.symm⟩
 ·rintro s G w a d ⟨sz,I,h,g⟩ p gw
  have hk:=p.kat
  have h1:=I.sound.good _ (p.at'.used p.word) (by rw[hk.1];decide)
  have h2:=I.sound.good _ p.used (by rw[hk.2];decide)
  rw[p.car]at h1
  rw[p.cdr]at h2
  exact⟨(g a).2 h1,(g d).2 h2⟩
 ·rintro s G w k ws ⟨sz,I,h,g⟩ t hk gw v hv
  obtain⟨i,hi,rfl⟩:=List.getElem_of_mem hv
  have hs:=t.szk I.sound ((g w).1 gw)
  have hn64: ∀k,(s.mem.seg k).n<=64:=λk=>(I.ok.mem.seg k).n.2
  have hu:=I.sound.usedAt (a:=w / 8) (i:=i+1) (by omega) (by omega) hn64
  rw[show w / 8+((i+1:Nat):Int)=w / 8+1+i by omega]at hu
  have hk3:s.mem.kAt (w / 8+1+i)=2:=by
   have e:s.mem.kAt (w / 8+1+i)=s.mem.kAt (w / 8):=by unfold Mem.kAt;rw[hu.2.1]
   rw[e,hs.2,hk]
  have h1:=I.sound.good _ hu.1 (by rw[hk3];decide)
  rw[t.get i hi]at h1
  exact(g _).2 h1
 ·rintro s G kind tag ws ⟨sz,I,h,g⟩ hkt hw hg
  have ht:tag=tagK kind:=by
   rcases hkt with⟨rfl,rfl,_⟩ | ⟨rfl,rfl,_⟩ | ⟨hk,rfl,_⟩
   ·rfl
   ·rfl
   ·unfold tagK;rw[if_neg (by omega),if_neg (by omega)]
  obtain⟨sz',I',lift,hnew,hcf⟩:=I.put (kind:=kind) (tag:=tag) (ws:=ws) (by rcases hkt with⟨rfl,_⟩ | ⟨rfl,_⟩ | ⟨hk,_⟩<;>omega) ht hw (λhk=>by
   rcases hkt with⟨_,_,hl⟩ | ⟨_,_,hl⟩ | ⟨hk',_⟩
   ·exact hl
   ·exact hl
   ·omega) (λhk=>by
   rcases hkt with⟨rfl,_⟩ | ⟨rfl,_⟩ | ⟨_,_,hd,fs,h1,h2,h3,h4⟩
   ·omega
   ·omega
   ·exact⟨hd,fs,h1,h2,h3,h4⟩) (λhk w hm=>(g w).1 (hg hk w hm))
  exact⟨_,⟨sz',I',by omega,λ_=>Iff.rfl⟩,λv hv=>lift v ((g v).1 hv),λe=>(hnew e).2⟩
theorem qY{c:Int}{n:Nat}(hn:8<=n/\n<=1024)(hc:(n:Int)<=c):J2 c ⟨Mem.fresh n,λ_ _=>0⟩ (λv=>Good (Mem.fresh n) (λ_=>0) v):=by
 refine⟨λ_=>0,⟨lI hn,lM _,?_,?_⟩,?_,λ_=>Iff.rfl⟩
 ·refine⟨λa h=>absurd rfl h,λa b h=>absurd rfl h,λa h=>absurd rfl h,λa h=>absurd rfl h,λa h=>?_⟩
  exact absurd rfl h.2.1.2.2
 ·intro a h
  exact absurd rfl h.2.1.2.2
 ·show(0:Int)+(n:Int)<=c
  omega
theorem J2.le{c c':Int}{s:Sp}{G:Int->Prop}(h:J2 c s G)(hc:c<=c'):J2 c' s G:=by
 obtain⟨sz,I,h1,g⟩:=h
 exact⟨sz,I,by omega,g⟩
