/-
 Two memories of one shape have the same pictures. Proves nothing of any one statement.
-/
import Derived.Test.YtdoghjgbhefphaaGreatWkC
import Derived.Test.YtdoghjgbhefphaaGreatGcH
import Derived.Test.YtdoghjgbhefphaaGreatWkE
set_option linter.unusedVariables false
set_option linter.unusedSimpArgs false
namespace Go.Proofs.YtdoghjgbhefphaaGreat
open Go

structure Sim (m m':Mem) (f:Int->Int) (G:Int->Prop):Prop where
 size: ∀v,G v->m'.sizeOf (f v)=m.sizeOf v
 no: ∀v,G v->m.sizeOf v=0->f v=v
 inj: ∀v v',G v->G v'->f v=f v'->v=v'
 thing: ∀w,G w->m.sizeOf w≠0->(m'.isPair (f w) ↔ m.isPair w)/\f w % 8=w % 8/\m'.typ (f w)=m.typ w/\m'.len (f w)=m.len w
 half0: ∀w,G w->m.isPair w->w % 8≠2->G (m.halfW w 0)/\m'.halfW (f w) 0=f (m.halfW w 0)
 half1: ∀w,G w->m.isPair w->G (m.halfW w 1)/\m'.halfW (f w) 1=f (m.halfW w 1)
 raw: ∀w,G w->m.sizeOf w≠0-> ¬m.isPair w->m.rawT w-> ∀i:Nat,(i:Int)<m.len w->m'.fieldW (f w) i=m.fieldW w i
 field: ∀w,G w->m.sizeOf w≠0-> ¬m.isPair w-> ¬m.rawT w-> ∀i:Nat,(i:Int)<m.len w->G (m.fieldW w i)/\m'.fieldW (f w) i=f (m.fieldW w i)

section
variable {m m':Mem} {f:Int->Int} {G:Int->Prop}
theorem Sim.mem(S:Sim m m' f G){all:List Int}(hall: ∀v∈all,G v){v:Int}(hv:G v):f v∈all.map f ↔ v∈all:=by
 rw[List.mem_map]
 constructor
 ·rintro⟨u,hu,e⟩
  rw[<-S.inj u v (hall u hu) hv e];exact hu
 ·intro h;exact⟨v,h,rfl⟩
theorem Sim.of(S:Sim m m' f G){all:List Int}(hall: ∀v∈all,G v){v:Int}(hv:G v):ofW m' (all.map f) (f v)=(ofW m all v).map f/\ ∀u∈ofW m all v,G u:=by
 unfold ofW
 rw[S.size v hv]
 have hm:=S.mem hall hv
 by_cases h:m.sizeOf v=0\/v∈all
 ·rw[if_pos h,if_pos (h.imp id hm.2)];exact⟨rfl,hall⟩
 ·rw[if_neg h,if_neg (λq=>h (q.imp id hm.1))]
  refine⟨by simp,λu hu=>?_⟩
  rcases List.mem_append.1 hu with q | q
  ·exact hall u q
  ·simp at q;rw[q];exact hv
theorem Sim.idx(S:Sim m m' f G){v:Int}(hv:G v): ∀(all:List Int),(∀u∈all,G u)->(all.map f).idxOf (f v)=all.idxOf v
 | [],_=>rfl
 | a::l,h=>by
  simp only[List.map_cons,List.idxOf_cons]
  have ih:=S.idx hv l (λu hu=>h u (by simp[hu]))
  by_cases e:a=v
  ·subst e;simp
  ·have e2: ¬f a=f v:=λq=>e (S.inj a v (h a (by simp)) hv q)
   have b1:(f a==f v)=false:=by simpa using e2
   have b2:(a==v)=false:=by simpa using e
   rw[b1,b2,ih]
theorem Sim.num(S:Sim m m' f G){all:List Int}(hall: ∀v∈all,G v){v:Int}(hv:G v):numW m' (all.map f) (f v)=numW m all v:=by
 unfold numW
 rw[S.size v hv,(S.of hall hv).1,S.idx hv _ (S.of hall hv).2]
def Along(f:Int->Int)(G:Int->Prop)(st st':List Int×Kn):Prop:=st'=(st.1.map f,st.2)/\ ∀v∈st.1,G v
theorem Sim.put(S:Sim m m' f G){st st':List Int×Kn}(h:Along f G st st'){v:Int}(hv:G v):Along f G (putP m st v) (putP m' st' (f v)):=by
 obtain⟨rfl,hall⟩:=h
 refine⟨?_,(S.of hall hv).2⟩
 unfold putP
 show(ofW m' (st.1.map f) (f v),st.2.add (numW m' (st.1.map f) (f v)) (f v))=_
 rw[(S.of hall hv).1,S.num hall hv]
 refine Prod.ext rfl ?_
 show st.2.add _ (f v)=st.2.add _ v
 unfold Kn.add
 by_cases h0:numW m st.1 v>0
 ·rw[if_pos h0,if_pos h0]
 ·have:m.sizeOf v=0:=by
   by_cases q:m.sizeOf v=0
   ·exact q
   ·exfalso;apply h0;unfold numW;rw[if_neg q];omega
  rw[S.no v hv this]
theorem Sim.puts(S:Sim m m' f G): ∀(l:List Int) {st st':List Int×Kn},Along f G st st'->(∀v∈l,G v)->Along f G (l.foldl (putP m) st) ((l.map f).foldl (putP m') st')
 | [],_,_,h,_=>h
 | v::l,_,_,h,hl=>S.puts l (S.put h (hl v (by simp))) (λu hu=>hl u (by simp[hu]))
theorem Sim.fields(S:Sim m m' f G){w:Int}(hw:G w)(hs:m.sizeOf w≠0)(hp: ¬m.isPair w): ∀(l:List Nat) {st st':List Int×Kn},Along f G st st'->(∀i∈l,(i:Int)<m.len w)->
  Along f G ((l.map λi:Nat=>m.fieldW w i).foldl (objStep m w) st) ((l.map λi:Nat=>m'.fieldW (f w) i).foldl (objStep m' (f w)) st')
 | [],_,_,h,_=>h
 | i::l,st,st',h,hl=>by
  have hi:=hl i (by simp)
  have ht:=(S.thing w hw hs).2.2.1
  refine S.fields hw hs hp l ?_ (λu hu=>hl u (by simp[hu]))
  have hr:m'.rawT (f w) ↔ m.rawT w:=by unfold Mem.rawT;rw[ht]
  show Along f G (objStep m w st (m.fieldW w i)) (objStep m' (f w) st' (m'.fieldW (f w) i))
  unfold objStep
  by_cases q:m.rawT w
  ·rw[if_pos q,if_pos (hr.2 q),S.raw w hw hs hp q i hi]
   obtain⟨rfl,hall⟩:=h
   exact⟨rfl,hall⟩
  ·rw[if_neg q,if_neg (λr=>q (hr.1 r))]
   obtain⟨g1,g2⟩:=S.field w hw hs hp q i hi
   rw[g2]
   exact S.put h g1
theorem Sim.knot(S:Sim m m' f G){all:List Int}(hall: ∀v∈all,G v){w:Int}(hw:G w)(hs:m.sizeOf w≠0):Along f G (knotOf m all w) (knotOf m' (all.map f) (f w)):=by
 obtain⟨h1,h2,h3,h4⟩:=S.thing w hw hs
 have h0: ∀k:Kn,Along f G (all,k) (all.map f,k):=λk=>⟨rfl,hall⟩
 unfold knotOf
 by_cases hp:m.isPair w
 ·by_cases h8:w % 8=2
  ·rw[if_pos ⟨hp,h8⟩,if_pos ⟨h1.2 hp,by rw[h2];exact h8⟩,(S.half1 w hw hp).2]
   exact S.put (h0 _) (S.half1 w hw hp).1
  ·rw[if_neg (show ¬(m.isPair w/\w % 8=2)from λq=>h8 q.2),if_neg (show ¬(m'.isPair (f w)/\f w % 8=2)from λq=>h8 (by rw[<-h2];exact q.2)),if_pos hp,if_pos (h1.2 hp),(S.half0 w hw hp h8).2,(S.half1 w hw hp).2]
   exact S.put (S.put (h0 _) (S.half0 w hw hp h8).1) (S.half1 w hw hp).1
 ·have hp': ¬m'.isPair (f w):=λq=>hp (h1.1 q)
  rw[if_neg (show ¬(m.isPair w/\w % 8=2)from λq=>hp q.1),if_neg (show ¬(m'.isPair (f w)/\f w % 8=2)from λq=>hp' q.1),if_neg hp,if_neg hp',h3,h4]
  exact S.fields hw hs hp _ (h0 _) (λi hi=>by
   rw[List.mem_range]at hi
   have:=m.len_rng w
   omega)
def AlongP(m:Mem)(f:Int->Int)(G:Int->Prop)(st st':List Int×List Kn):Prop:=st'=(st.1.map f,st.2)/\ ∀v∈st.1,G v/\m.sizeOf v≠0
theorem ofW_thing{m:Mem}{all:List Int}(h: ∀v∈all,m.sizeOf v≠0)(v:Int): ∀u∈ofW m all v,m.sizeOf u≠0:=by
 unfold ofW
 split
 ·exact h
 ·rename_i q
  intro u hu
  rcases List.mem_append.1 hu with r | r
  ·exact h u r
  ·simp at r;rw[r];exact λe=>q (.inl e)
theorem puts_thing{m:Mem}: ∀(l:List Int) (st:List Int×Kn),(∀v∈st.1,m.sizeOf v≠0)-> ∀v∈(l.foldl (putP m) st).1,m.sizeOf v≠0
 | [],st,h=>h
 | v::l,st,h=>puts_thing l (putP m st v) (ofW_thing h v)
theorem objs_thing{m:Mem}{w:Int}: ∀(l:List Int) (st:List Int×Kn),(∀v∈st.1,m.sizeOf v≠0)-> ∀v∈(l.foldl (objStep m w) st).1,m.sizeOf v≠0
 | [],st,h=>h
 | v::l,st,h=>objs_thing l (objStep m w st v) (by
  unfold objStep
  split
  ·exact h
  ·exact ofW_thing h v)
theorem knot_thing{m:Mem}{all:List Int}(h: ∀v∈all,m.sizeOf v≠0)(w:Int): ∀v∈(knotOf m all w).1,m.sizeOf v≠0:=by
 unfold knotOf
 split
 ·exact ofW_thing h _
 ·split
  ·exact ofW_thing (ofW_thing h _) _
  ·exact objs_thing _ _ h
theorem Sim.step(S:Sim m m' f G){st st':List Int×List Kn}(h:AlongP m f G st st'):AlongP m f G (picStep m st) (picStep m' st'):=by
 obtain⟨rfl,hall⟩:=h
 unfold picStep
 show AlongP m f G (match st.1[st.2.length-1]? with
  | some w=>((knotOf m st.1 w).1,st.2++[(knotOf m st.1 w).2])
  | none=>st) (match(st.1.map f)[st.2.length-1]? with
  | some w=>((knotOf m' (st.1.map f) w).1,st.2++[(knotOf m' (st.1.map f) w).2])
  | none=>(st.1.map f,st.2))
 rw[List.getElem?_map]
 cases hw:st.1[st.2.length-1]? with
 | none=>exact⟨rfl,hall⟩
 | some w=>
  have hmem:=List.mem_of_getElem? hw
  obtain⟨k1,k2⟩:=S.knot (λv hv=>(hall v hv).1) (hall w hmem).1 (hall w hmem).2
  refine⟨?_,λv hv=>⟨k2 v hv,knot_thing (λv hv=>(hall v hv).2) w v hv⟩⟩
  show((knotOf m' (st.1.map f) (f w)).1,st.2++[(knotOf m' (st.1.map f) (f w)).2])=_
  rw[k1]
theorem Sim.picN(S:Sim m m' f G){roots:List Int}(hr: ∀v∈roots,G v): ∀n,AlongP m f G (picN m (pic0 m roots) n) (picN m' (pic0 m' (roots.map f)) n)
 | 0=>by
  obtain⟨h1,h2⟩:=S.puts roots (st:=([],⟨-1,[],[]⟩)) (st':=([],⟨-1,[],[]⟩)) ⟨rfl,λv hv=>by simp at hv⟩ hr
  refine⟨?_,λv hv=>⟨h2 v hv,puts_thing roots ([],⟨-1,[],[]⟩) (λv hv=>by simp at hv) v hv⟩⟩
  show(((roots.map f).foldl (putP m') ([],⟨-1,[],[]⟩)).1,[((roots.map f).foldl (putP m') ([],⟨-1,[],[]⟩)).2])=_
  rw[h1];rfl
 | n+1=>S.step (S.picN hr n)
theorem picN_stop{m:Mem}{st:List Int×List Kn}{n:Nat}(h:(picN m st n).2.length=(picN m st n).1.length+1): ∀d,picN m st (n+d)=picN m st n
 | 0=>rfl
 | d+1=>by
  show picStep m (picN m st (n+d))=_
  rw[picN_stop h d]
  unfold picStep
  rw[h,Nat.add_sub_cancel,List.getElem?_eq_none (Nat.le_refl _)]
theorem Sim.pic(S:Sim m m' f G){roots:List Int}(hr: ∀v∈roots,G v){ks ks':List Kn}(h:IsPic m roots ks)(h':IsPic m' (roots.map f) ks'):ks'=ks:=by
 obtain⟨n,rfl,hn⟩:=h
 obtain⟨n',rfl,hn'⟩:=h'
 have e1:=picN_stop hn n'
 have e2:=picN_stop hn' n
 rw[<-e1,<-e2,Nat.add_comm n' n]
 have:=(S.picN hr (n+n')).1
 rw[this]
end
end Go.Proofs.YtdoghjgbhefphaaGreat

namespace Go.Proofs.YtdoghjgbhefphaaGreat
open Go

theorem isPair_iff{m:Mem}{w:Int}(h:m.sizeOf w≠0):m.isPair w ↔ w % 8≠3:=by
 constructor
 ·intro hp
  rcases hp.1 with q | q
  ·have:=q.2.1;omega
  ·have:=q.2.1;omega
 ·intro h3
  by_cases hp:m.isPair w
  ·exact hp
  ·exfalso
   unfold Mem.sizeOf at h
   rw[if_neg hp]at h
   by_cases ho:m.isObj w
   ·exact h3 ho.1.2.1
   ·rw[if_neg ho]at h;exact h rfl
theorem isObj_of{m:Mem}{w:Int}(h:m.sizeOf w≠0)(hp: ¬m.isPair w):m.isObj w:=by
 by_cases ho:m.isObj w
 ·exact ho
 ·unfold Mem.sizeOf at h
  rw[if_neg hp,if_neg ho]at h;exact absurd rfl h
theorem pair_noObj{m:Mem}{w:Int}(hp:m.isPair w): ¬m.isObj w:=λho=>by
 have:=ho.1.2.1
 exact(isPair_iff (pair_size hp)).1 hp this

theorem fieldE_in{m:Mem}{w i:Int}(ho:m.isObj w)(h0:0<=i)(hi:i<m.len w):m.fieldE w (m.typ w) i=0:=by
 unfold Mem.fieldE
 rw[if_neg (show ¬(¬m.isObj w\/m.typ w≠m.typ w)from λq=>q.elim (λr=>r ho) (λr=>r rfl)),if_neg (by omega)]

section
variable {Z:TZ} {g F0:Int} {fw:Int->Option Int} {al:List Int} {s:Sp} {sz:Int->Nat}
def GW(Z:TZ)(fw:Int->Option Int)(v:Int):Prop:=IsWord v/\Good Z.m Z.sz v/\Dn Z.O fw v
theorem thing_tag{m:Mem}{w:Int}(h:m.sizeOf w≠0):isTag w:=by
 by_cases q:isTag w
 ·exact q
 ·exact absurd (sizeOf_no q) h
theorem old_tag{O:Nat->Bool}{v:Int}(h:isOldW O v):isTag v:=by have:=h.1.1;have:=h.2.1;unfold isTag;omega
theorem Traced.at'{tr:Tr}{s':Sp}{m:Mem}(t:Traced Z g F0 fw al sz tr s s' m)(ok:MemOK m){w:Int}(hw:GW Z fw w)(ht:isTag w): ∀i:Nat,i<Z.sz (w / 8)->Was Z fw (Fw Z.O fw w / 8+i) (Z.m.get (w / 8+i))/\m.used (Fw Z.O fw w / 8+i)/\s.mem.kAt (Fw Z.O fw w / 8+i)=Z.m.kAt (w / 8)/\Z.m.used (w / 8+i)/\Z.m.kAt (w / 8+i)=Z.m.kAt (w / 8):=by
 intro i hi
 obtain⟨ww,wg,wd⟩:=hw
 obtain⟨g1,g2,g3⟩:=t.good ww wg wd
 obtain⟨u1,u2,u3,u4⟩:=g2 ht
 have S:=t.S
 have hsz:=(wg.2 ht).1
 have hai:=S.sound.usedAt hsz hi (λk=>(S.ok.seg k).n.2)
 have hkz:Z.m.kAt (w / 8+i)=Z.m.kAt (w / 8):=by unfold Mem.kAt;rw[hai.2.1]
 have hsz':szE Z.O sz (Fw Z.O fw w / 8)≠0:=by rw[u2];exact hsz
 have hn64: ∀k,(m.seg k).n<=64:=λk=>(ok.seg k).n.2
 have hbi:=t.sound.usedAt hsz' (by rw[u2];exact hi) hn64
 have hk1:=(t.kind hbi.1).1
 have hk2:m.kAt (Fw Z.O fw w / 8+i)=Z.m.kAt (w / 8):=by rw[<-u3];unfold Mem.kAt;rw[hbi.2.1]
 refine⟨?_,hbi.1,by rw[<-hk1,hk2],hai.1,hkz⟩
 by_cases ho:isOldW Z.O w
 ·obtain⟨b,hb⟩:=wd ho
  rw[Fw_some ho hb,show(b*8+w % 8) / 8=b by omega]
  exact .inr ⟨w / 8,b,i,hb,hi,rfl,rfl⟩
 ·rw[Fw_no ho]at hbi⊢
  exact .inl ⟨hai.1,(t.used.1 hbi.1).2,rfl⟩
theorem Traced.gw_at{tr:Tr}{s':Sp}{m:Mem}(t:Traced Z g F0 fw al sz tr s s' m)(ok:MemOK m){w:Int}(hw:GW Z fw w)(ht:isTag w){i:Nat}(hi:i<Z.sz (w / 8))(h3:Z.m.kAt (w / 8)≠3)(hs: ¬(Z.m.kAt (w / 8)=1/\(Fw Z.O fw w / 8+i) % 2=0)):GW Z fw (Z.m.get (w / 8+i))/\m.get (Fw Z.O fw w / 8+i)=Fw Z.O fw (Z.m.get (w / 8+i)):=by
 obtain⟨a1,a2,a3,a4,a5⟩:=t.at' ok hw ht i hi
 have hk:s.mem.kAt (Fw Z.O fw w / 8+i)≠3:=by rw[a3];exact h3
 rcases t.get a1 with⟨q1,q2⟩ | ⟨_,q1,q2⟩
 ·rw[if_neg hk]at q1
  exact⟨⟨(t.S.ok.seg _).words _,t.S.sound.good _ a4 (by rw[a5];exact h3),q2 hk⟩,q1⟩
 ·exact absurd ⟨by rw[<-a3];exact q1,q2⟩ hs
theorem Traced.sim{tr:Tr}{s':Sp}{m:Mem}(t:Traced Z g F0 fw al sz tr s s' m)(ok:MemOK m):Sim Z.m m (Fw Z.O fw) (GW Z fw):=by
 have S:=t.S
 have hfw: ∀v,GW Z fw v->IsWord (Fw Z.O fw v):=λv h=>t.tri.fw_word S h.1
 have hmod: ∀v,GW Z fw v->Fw Z.O fw v % 8=v % 8:=λv h=>(t.good h.1 h.2.1 h.2.2).2.2
 have htag: ∀v,GW Z fw v->isTag v->isTag (Fw Z.O fw v):=λv h ht=>by unfold isTag at*;rw[hmod v h];exact ht
 have hZ: ∀v,GW Z fw v->isTag v->Z.m.sizeOf v=Z.sz (v / 8):=λv h ht=>S.sound.size S.ok h.1 h.2.1 ht
 have hsize: ∀v,GW Z fw v->m.sizeOf (Fw Z.O fw v)=Z.m.sizeOf v:=λv h=>by
  by_cases ht:isTag v
  ·obtain⟨g1,g2,_⟩:=t.good h.1 h.2.1 h.2.2
   rw[t.sound.size ok (hfw v h) g1 (htag v h ht),(g2 ht).2.1,hZ v h ht]
  ·rw[sizeOf_no ht,sizeOf_no (λq=>ht (by unfold isTag at*;rw[hmod v h]at q;exact q))]
 have hno: ∀v,GW Z fw v->Z.m.sizeOf v=0-> ¬isTag v:=λv h h0 ht=>by
  rw[hZ v h ht]at h0
  exact(h.2.1.2 ht).1 (by omega)
 have hpair: ∀w,GW Z fw w->Z.m.sizeOf w≠0->(m.isPair (Fw Z.O fw w) ↔ Z.m.isPair w):=λw h hs=>by
  rw[isPair_iff (by rw[hsize w h];exact hs),isPair_iff hs,hmod w h]
 have hob: ∀w,GW Z fw w->Z.m.sizeOf w≠0-> ¬Z.m.isPair w->m.isObj (Fw Z.O fw w)/\Z.m.isObj w/\2<=Z.m.kAt (w / 8)/\m.get (Fw Z.O fw w / 8)=Z.m.get (w / 8):=λw h hs hp=>by
  have ht:=thing_tag hs
  have ho:=isObj_of hs hp
  have h3:=ho.1.2.1
  obtain⟨d1,d2⟩:=h.2.1.2 ht
  have hk2:2<=Z.m.kAt (w / 8):=by
   unfold tagK at d2
   by_cases q0:Z.m.kAt (w / 8)=0
   ·rw[if_pos q0]at d2;omega
   ·rw[if_neg q0]at d2
    by_cases q1:Z.m.kAt (w / 8)=1
    ·rw[if_pos q1]at d2;omega
    ·have:=(S.ok.seg (w / 8 / 64).toNat).kind.1
     have e:Z.m.kAt (w / 8)=(Z.m.seg (w / 8 / 64).toNat).kind:=rfl
     rw[e]at q0 q1⊢
     omega
  refine⟨isObj_of (by rw[hsize w h];exact hs) (λq=>hp ((hpair w h hs).1 q)),ho,hk2,?_⟩
  obtain⟨a1,a2,a3,_⟩:=t.at' ok h ht 0 (by omega)
  have e0: ∀z:Int,z+((0:Nat):Int)=z:=λz=>by omega
  rw[e0,e0]at a1
  rw[e0]at a3
  rcases t.get a1 with⟨q,_⟩ | ⟨_,q,_⟩
  ·rw[q]
   split
   ·rfl
   ·exact Fw_no (head_noAddr ho.2.1 _)
  ·rw[a3]at q;omega
 have hhalf: ∀w,GW Z fw w->Z.m.isPair w-> ∀i:Nat,i<2->(i=1\/w % 8≠2)->GW Z fw (Z.m.halfW w i)/\m.halfW (Fw Z.O fw w) i=Fw Z.O fw (Z.m.halfW w i):=λw h hp i hi hiw=>by
  have hs:=pair_size hp
  have ht:=thing_tag hs
  obtain⟨d1,d2⟩:=h.2.1.2 ht
  have hp':=(hpair w h hs).2 hp
  have h3:=(isPair_iff hs).1 hp
  have hk1:Z.m.kAt (w / 8)<=1:=by
   unfold tagK at d2
   by_cases q0:Z.m.kAt (w / 8)=0
   ·rw[q0];decide
   ·rw[if_neg q0]at d2
    by_cases q1:Z.m.kAt (w / 8)=1
    ·rw[q1];decide
    ·rw[if_neg q1]at d2;exact absurd d2 h3
  obtain⟨z2,zev⟩:=S.sound.two _ d1 hk1
  obtain⟨a1,a2,a3,a4,a5⟩:=t.at' ok h ht i (by omega)
  have hev:=hp'.2
  obtain⟨q1,q2⟩:=t.gw_at ok h ht (i:=i) (by omega) (λq=>by rw[q]at hk1;exact absurd hk1 (by decide)) (λq=>by
   obtain⟨r1,r2⟩:=q
   rcases hiw with e | e
   ·subst e;omega
   ·unfold tagK at d2
    rw[r1]at d2
    exact e d2)
  have e1:Z.m.halfW w i=Z.m.get (w / 8+i):=by unfold Mem.halfW Mem.halfE;rw[if_pos hp,if_pos a4,if_pos rfl]
  have e2:m.halfW (Fw Z.O fw w) i=m.get (Fw Z.O fw w / 8+i):=by unfold Mem.halfW Mem.halfE;rw[if_pos hp',if_pos a2,if_pos rfl]
  rw[e1,e2]
  exact⟨q1,q2⟩
 have hfield: ∀w,GW Z fw w->Z.m.sizeOf w≠0-> ¬Z.m.isPair w-> ∀i:Nat,(i:Int)<Z.m.len w->i+1<Z.sz (w / 8)/\Z.m.fieldW w i=Z.m.get (w / 8+((i+1:Nat):Int))/\m.fieldW (Fw Z.O fw w) i=m.get (Fw Z.O fw w / 8+((i+1:Nat):Int))/\Z.m.kAt (w / 8)=rawK (Z.m.typ w):=λw h hs hp i hi=>by
  obtain⟨o1,o2,o3,o4⟩:=hob w h hs hp
  obtain⟨d1,d2⟩:=h.2.1.2 (thing_tag hs)
  obtain⟨p1,p2,p3⟩:=S.sound.obj _ d1 o3
  have hl:Z.m.len w=hn (Z.m.get (w / 8)):=by unfold Mem.len;rw[if_pos o2]
  have hl':m.len (Fw Z.O fw w)=Z.m.len w:=by rw[hl];unfold Mem.len;rw[if_pos o1,o4]
  have hty:Z.m.typ w=hk (Z.m.get (w / 8)):=by unfold Mem.typ;rw[if_pos o2]
  refine⟨by omega,?_,?_,by rw[hty];exact p2⟩
  ·unfold Mem.fieldW
   rw[if_pos (fieldE_in o2 (by omega) hi)]
   congr 1;omega
  ·unfold Mem.fieldW
   rw[if_pos (fieldE_in o1 (by omega) (by rw[hl'];exact hi))]
   congr 1;omega
 refine⟨hsize,λv h h0=>Fw_no (λq=>hno v h h0 (old_tag q)),λv v' h h' e=>?_,λw h hs=>⟨hpair w h hs,hmod w h,?_,?_⟩,λw h hp h8=>hhalf w h hp 0 (by decide) (.inr h8),λw h hp=>hhalf w h hp 1 (by decide) (.inl rfl),λw h hs hp hr i hi=>?_,λw h hs hp hr i hi=>?_⟩
 ·-- no two words become one
  have key: ∀u u',GW Z fw u->GW Z fw u'->isOldW Z.O u-> ¬isOldW Z.O u'->Fw Z.O fw u≠Fw Z.O fw u':=λu u' hu hu' ho hno' e=>by
   obtain⟨b,hb⟩:=hu.2.2 ho
   have im:=(t.tri.img _ _ hb).2
   rw[Fw_some ho hb,Fw_no hno']at e
   have ht':isTag u':=by
    have:=old_tag ho
    unfold isTag at*
    rw[<-e];omega
   have hu8:u' / 8=b:=by rw[<-e];omega
   obtain⟨r1,_⟩:=S.sound.used _ (hu'.2.1.2 ht').1
   rw[hu8]at r1
   have hz:=S.oldWord hu.2.1 ho
   have:=im.new 0 (by omega)
   exact this (by simpa using r1)
  by_cases ho:isOldW Z.O v<;>by_cases ho':isOldW Z.O v'
  ·obtain⟨b,hb⟩:=h.2.2 ho
   obtain⟨b',hb'⟩:=h'.2.2 ho'
   rw[Fw_some ho hb,Fw_some ho' hb']at e
   have eb:b=b':=by omega
   subst eb
   have:=t.tri.inj _ _ _ hb hb'
   omega
  ·exact absurd e (key v v' h h' ho ho')
  ·exact absurd e.symm (key v' v h' h ho' ho)
  ·rw[Fw_no ho,Fw_no ho']at e;exact e
 ·by_cases hp:Z.m.isPair w
  ·unfold Mem.typ;rw[if_neg (pair_noObj hp),if_neg (pair_noObj ((hpair w h hs).2 hp))]
  ·obtain⟨o1,o2,o3,o4⟩:=hob w h hs hp
   unfold Mem.typ;rw[if_pos o1,if_pos o2,o4]
 ·by_cases hp:Z.m.isPair w
  ·unfold Mem.len;rw[if_neg (pair_noObj hp),if_neg (pair_noObj ((hpair w h hs).2 hp))]
  ·obtain⟨o1,o2,o3,o4⟩:=hob w h hs hp
   unfold Mem.len;rw[if_pos o1,if_pos o2,o4]
 ·obtain⟨f1,f2,f3,f4⟩:=hfield w h hs hp i hi
  rw[f2,f3]
  have hk3:Z.m.kAt (w / 8)=3:=by rw[f4];unfold rawK;rw[if_pos (show Z.m.typ w=2\/Z.m.typ w=3 from hr)]
  obtain⟨a1,a2,a3,_⟩:=t.at' ok h (thing_tag hs) _ f1
  rcases t.get a1 with⟨q,_⟩ | ⟨_,q,_⟩
  ·rw[q,if_pos (by rw[a3];exact hk3)]
  ·rw[a3,hk3]at q;exact absurd q (by decide)
 ·obtain⟨f1,f2,f3,f4⟩:=hfield w h hs hp i hi
  have hk2:Z.m.kAt (w / 8)=2:=by rw[f4];unfold rawK;rw[if_neg (show ¬(Z.m.typ w=2\/Z.m.typ w=3)from hr)]
  rw[f2,f3]
  exact t.gw_at ok h (thing_tag hs) f1 (by rw[hk2];decide) (λq=>by rw[hk2]at q;exact absurd q.1 (by decide))
end
end Go.Proofs.YtdoghjgbhefphaaGreat

namespace Go.Proofs.YtdoghjgbhefphaaGreat
open Go

@[irreducible] def tops:Nat:=65536
theorem tops_eq:tops=65536:=by unfold tops;rfl
def Mem.cnt(m:Mem)(p:Int->Bool):Nat:=(List.range tops).countP λx:Nat=>decide (m.used x) && p x
theorem Mem.words_to(m:Mem)(ok:MemOK m)(gs:List Int): ∀k,k<=m.limit->m.sumN (m.takenTo gs k)=((List.range (64*k)).countP λx:Nat=>decide (m.used x) && decide (gs=[]\/m.gAt x∈gs):Nat)
 | 0,_=>rfl
 | k+1,h=>by
  have hn:=(ok.seg k).n
  have htk:=(ok.seg k).taken
  rw[Mem.takenTo_succ,sumN_append,Mem.words_to m ok gs k (by omega),show 64*(k+1)=64*k+64 by omega,List.range_add,List.countP_append,List.countP_map]
  have e: ∀i:Nat,i<64->((decide (m.used ((64*k+i:Nat):Int)) && decide (gs=[]\/m.gAt ((64*k+i:Nat):Int)∈gs))=(decide (0< (m.seg k).taken/\(gs=[]\/(m.seg k).gen∈gs)) && inR 0 (m.seg k).n.toNat i)):=λi hi=>by
   have e1:(((64*k+i:Nat):Int) / 64).toNat=k:=by omega
   have e2:((64*k+i:Nat):Int) % 64=i:=by omega
   have eg:m.gAt ((64*k+i:Nat):Int)=(m.seg k).gen:=by unfold Mem.gAt;rw[e1]
   have eu:m.used ((64*k+i:Nat):Int) ↔ 0< (m.seg k).taken/\(i:Int)< (m.seg k).n:=by
    unfold Mem.used Mem.has
    rw[e1,e2]
    exact⟨λq=>⟨by omega,by omega⟩,λq=>⟨by omega,⟨by omega,by omega,by omega⟩,by omega⟩⟩
   rw[Bool.eq_iff_iff]
   unfold inR
   simp only[Bool.and_eq_true,decide_eq_true_eq]
   rw[eu,eg]
   exact⟨λq=>⟨⟨q.1.1,q.2⟩,by omega,by omega⟩,λq=>⟨⟨q.1.1,by omega⟩,q.1.2⟩⟩
  have e3:(List.range 64).countP ((λx:Nat=>decide (m.used x) && decide (gs=[]\/m.gAt x∈gs)) ∘ λx=>64*k+x)=if 0< (m.seg k).taken/\(gs=[]\/(m.seg k).gen∈gs)then(m.seg k).n.toNat else 0:=by
   rw[List.countP_congr (q:=λi=>decide (0< (m.seg k).taken/\(gs=[]\/(m.seg k).gen∈gs)) && inR 0 (m.seg k).n.toNat i) (λi hi=>by
    rw[List.mem_range]at hi
    show((decide (m.used ((64*k+i:Nat):Int)) && decide (gs=[]\/m.gAt ((64*k+i:Nat):Int)∈gs))=true) ↔ _
    rw[e i hi])]
   by_cases h1:0< (m.seg k).taken/\(gs=[]\/(m.seg k).gen∈gs)
   ·rw[if_pos h1]
    simp only[decide_eq_true h1,Bool.true_and]
    exact countP_inR (by omega) 64 _ (by omega)
   ·rw[if_neg h1]
    simp only[decide_eq_false h1,Bool.false_and]
    exact List.countP_eq_zero.2 (λ_ _=>by simp)
  rw[e3]
  by_cases h1:0< (m.seg k).taken/\(gs=[]\/(m.seg k).gen∈gs)
  ·rw[if_pos h1,if_pos h1]
   simp[Mem.sumN];omega
  ·rw[if_neg h1,if_neg h1]
   simp[Mem.sumN]
theorem Mem.words_cnt{m:Mem}(ok:MemOK m)(gs:List Int):m.words gs=(m.cnt λx=>decide (gs=[]\/m.gAt x∈gs):Nat):=by
 unfold Mem.words Mem.cnt
 have hl:=ok.lim
 rw[Mem.words_to m ok gs _ (Nat.le_refl _)]
 congr 1
 have ht:=tops_eq
 rw[show tops=64*m.limit+(tops-64*m.limit)by omega]
 refine(countP_past _ _ _ (λi h1 h2=>?_)).symm
 rw[Bool.and_eq_false_iff]
 left
 refine decide_eq_false λq=>?_
 have:=q.2.1.2.1
 omega
theorem Mem.cnt_congr{m m':Mem}{p q:Int->Bool}(h: ∀x:Int,(m.used x/\p x=true) ↔ (m'.used x/\q x=true)):m.cnt p=m'.cnt q:=by
 unfold Mem.cnt
 refine List.countP_congr λx _=>?_
 have:=h x
 simp only[Bool.and_eq_true,decide_eq_true_eq]
 exact this
theorem Mem.cnt_split{m:Mem}{p q r:Int->Bool}(h: ∀x,m.used x->r x=(p x || q x))(hd: ∀x,m.used x->p x=true->q x=true->False):m.cnt r=m.cnt p+m.cnt q:=by
 unfold Mem.cnt
 rw[<-countP_two]
 ·refine List.countP_congr λx _=>?_
  by_cases hu:m.used x
  ·simp[hu,h x hu]
  ·simp[hu]
 ·intro x _ h1 h2
  simp only[Bool.and_eq_true,decide_eq_true_eq]at h1 h2
  exact hd x h1.1 h1.2 h2.2
def Mem.above(m:Mem)(g:Int):Nat:=m.cnt λx=>decide (g<m.gAt x)
theorem Mem.above_4{m:Mem}(ok:MemOK m){g:Int}(h:4<=g):m.above g=0:=by
 unfold Mem.above Mem.cnt
 rw[List.countP_eq_zero]
 intro x _
 have:=(ok.seg ((x:Int) / 64).toNat).gen
 simp only[Bool.and_eq_true,decide_eq_true_eq]
 intro q
 have:(m.seg ((x:Int) / 64).toNat).gen<=4:=this.2
 have:g< (m.seg ((x:Int) / 64).toNat).gen:=q.2
 omega
theorem Mem.above_step{m:Mem}(ok:MemOK m)(g:Int):(m.above (g-1):Int)=m.words [g]+m.above g:=by
 rw[Mem.words_cnt ok]
 unfold Mem.above
 rw[Mem.cnt_split (p:=λx=>decide ([g]=[]\/m.gAt x∈[g])) (q:=λx=>decide (g<m.gAt x)) (r:=λx=>decide (g-1<m.gAt x)) (λx _=>?_) (λx _ h1 h2=>?_)]
 ·rw[Int.natCast_add]
 ·simp only[List.mem_singleton,List.cons_ne_self,false_or,reduceCtorEq]
  by_cases h:m.gAt x=g
  ·rw[h];simp;omega
  ·simp only[h,decide_false,Bool.false_or]
   exact decide_eq_decide.2 ⟨λq=>by generalize m.gAt x=y at*;omega,λq=>by generalize m.gAt x=y at*;omega⟩
 ·simp at h1 h2
  generalize m.gAt x=y at*
  omega

theorem come_old{m:Mem}{O:Nat->Bool}{g w:Int}(ok:MemOK m)(hO: ∀k:Nat,k<1024->(O k=true ↔ m.has k/\(m.seg k).gen<=g))(hw:IsWord w)(h:m.come g w):isOldW O w:=by
 have hl:=ok.lim
 obtain⟨h1,h2⟩:=h
 unfold Mem.genOf at h1 h2
 by_cases ha:isAddr w/\w % 8≠6
 ·rw[if_pos ha]at h1 h2
  have hh:m.has (w / 8 / 64):=by simpa using h1
  simp only[if_pos hh]at h2
  have hlt:=hh.2.1
  refine⟨ha.1,ha.2,(hO _ (by omega)).2 ⟨?_,h2⟩⟩
  have:=hw.1
  rw[show(((w / 8 / 64).toNat:Nat):Int)=w / 8 / 64 by omega];exact hh
 ·rw[if_neg ha]at h1;cases h1
theorem old_come{m:Mem}{O:Nat->Bool}{g w:Int}(ok:MemOK m)(hO: ∀k:Nat,k<1024->(O k=true ↔ m.has k/\(m.seg k).gen<=g))(hlt:(w / 8 / 64).toNat<1024)(hw:IsWord w)(h:isOldW O w):m.come g w:=by
 obtain⟨q1,q2⟩:=(hO _ hlt).1 h.2.2
 have:=hw.1
 rw[show(((w / 8 / 64).toNat:Nat):Int)=w / 8 / 64 by omega]at q1
 rw[Mem.come,genOf_old h.1 h.2.1 q1]
 exact⟨rfl,q2⟩

section
variable {Z:TZ} {g F0:Int} {fw:Int->Option Int} {al:List Int} {s:Sp} {sz:Int->Nat}
theorem Static.reached(S:Static Z g F0){roots all:List Int}(hV: ∀v,Z.V v ↔ v∈roots)(h:Reached Z.m g roots all):(∀w∈all,IsWord w/\Good Z.m Z.sz w/\isOldW Z.O w/\Reach Z (w / 8))/\ ∀a,Reach Z a-> ∃w∈all,w / 8=a:=by
 have hstrong: ∀w,Good Z.m Z.sz w->isTag w->IsWord w-> ∀k:Nat,k<Z.sz (w / 8)->(Z.m.kid w k ↔ Z.m.strong (w / 8+k)):=λw hg ht hw k hkz=>by
  obtain⟨d1,d2⟩:=hg.2 ht
  have hai:=S.sound.usedAt d1 hkz (λk=>(S.ok.seg k).n.2)
  have hka:Z.m.kAt (w / 8+k)=Z.m.kAt (w / 8):=by unfold Mem.kAt;rw[hai.2.1]
  have hsz:=S.sound.size S.ok hw hg ht
  unfold Mem.kid Mem.strong
  rw[hka]
  have hkr:0<=Z.m.kAt (w / 8)/\Z.m.kAt (w / 8)<=3:=(S.ok.seg _).kind
  by_cases h1:Z.m.kAt (w / 8)<=1
  ·obtain⟨z2,zev⟩:=S.sound.two _ d1 h1
   have hnr: ¬Z.m.rawT w:=λq=>by
    have hp:Z.m.isPair w:=(isPair_iff (by omega)).2 (by unfold tagK at d2;split at d2;omega;split at d2;omega;generalize Z.m.kAt (w / 8)=y at*;omega)
    unfold Mem.rawT Mem.typ at q
    rw[if_neg (pair_noObj hp)]at q;omega
   unfold tagK at d2
   generalize Z.m.kAt (w / 8)=y at*
   constructor
   ·rintro⟨_,q⟩
    refine⟨by omega,?_⟩
    split at d2
    ·omega
    ·split at d2
     ·rcases q with q | q
      ·omega
      ·right;omega
     ·omega
   ·rintro⟨_,q⟩
    refine⟨hnr,?_⟩
    split at d2
    ·left;omega
    ·split at d2
     ·right;omega
     ·omega
  ·obtain⟨p1,p2,p3⟩:=S.sound.obj _ d1 (by omega)
   have h83:w % 8=3:=by unfold tagK at d2;rw[if_neg (by omega),if_neg (by omega)]at d2;exact d2
   have ho:Z.m.isObj w:=isObj_of (by omega) (λq=>(isPair_iff (by omega)).1 q h83)
   have hty:Z.m.typ w=hk (Z.m.get (w / 8)):=by unfold Mem.typ;rw[if_pos ho]
   rw[<-hty]at p2
   unfold rawK at p2
   unfold Mem.rawT
   constructor
   ·rintro⟨q,_⟩
    rw[if_neg q]at p2
    exact⟨by omega,.inl (by omega)⟩
   ·rintro⟨q,_⟩
    refine⟨λr=>?_,.inl (by omega)⟩
    rw[if_pos r]at p2
    omega
 have hread: ∀w,Good Z.m Z.sz w->isTag w-> ∀k:Nat,k<Z.sz (w / 8)->Z.m.used (w / 8+k)/\Z.m.read (w / 8+k)=Z.m.get (w / 8+k):=λw hg ht k hk=>by
  have hai:=S.sound.usedAt (hg.2 ht).1 hk (λk=>(S.ok.seg k).n.2)
  refine⟨hai.1,?_⟩
  unfold Mem.read;rw[if_pos hai.1]
 have hcome: ∀w,IsWord w->Z.m.come g w->isOldW Z.O w:=λw hw hc=>come_old S.ok S.old hw hc
 have hold: ∀w,IsWord w->Good Z.m Z.sz w->isOldW Z.O w->Z.m.come g w/\Z.m.sizeOf w≠0:=λw hw hg ho=>by
  obtain⟨h1,h2,h3,h4⟩:=S.oldWord hg ho
  obtain⟨u1,_⟩:=S.sound.used _ h1
  refine⟨old_come S.ok S.old (S.lt u1).1 hw ho,?_⟩
  rw[S.sound.size S.ok hw hg h3];omega
 constructor
 ·refine h.min _ ⟨λw hw hc hs=>?_,λx hu hgx hst hc hs=>?_,λw hP hw hs k hk0 hk hkid hc hs2=>?_⟩
  ·obtain⟨v1,v2⟩:=S.V w ((hV w).2 hw)
   have ho:=hcome w v1 hc
   exact⟨v1,v2,ho,.root ((hV w).2 hw) ho⟩
  ·have hw:IsWord (Z.m.get x):=(S.ok.seg _).words _
   have ho:=hcome _ hw hc
   have hlx:=S.lt hu
   have hn:Z.O (x / 64).toNat=false:=by
    by_cases q:Z.O (x / 64).toNat=true
    ·have:=((S.old _ hlx.1).1 q).2
     have:g< (Z.m.seg (x / 64).toNat).gen:=hgx
     omega
    ·simpa using q
   exact⟨hw,S.sound.good x hu hst.1,ho,.older hu hn hst ho⟩
  ·obtain⟨p1,p2,p3,p4⟩:=hP
   have ht:=old_tag p3
   have hsz:=S.sound.size S.ok p1 p2 ht
   have hkn:((k.toNat:Nat):Int)=k:=by omega
   have hkl:k.toNat<Z.sz (w / 8):=by omega
   obtain⟨r1,r2⟩:=hread w p2 ht k.toNat hkl
   have hst:=(hstrong w p2 ht p1 k.toNat hkl).1 (by rw[hkn];exact hkid)
   rw[hkn]at r1 r2 hst
   rw[r2]at hc⊢
   have hw':IsWord (Z.m.get (w / 8+k)):=(S.ok.seg _).words _
   have ho:=hcome _ hw' hc
   refine⟨hw',S.sound.good _ r1 hst.1,ho,?_⟩
   have:=Reach.step (i:=k.toNat) p4 hkl (by rw[hkn];exact hst) (by rw[hkn];exact ho)
   rw[hkn]at this;exact this
 ·intro a ha
  have: ∀a,Reach Z a-> ∃w∈all,w / 8=a/\IsWord w/\Good Z.m Z.sz w/\isTag w:=by
   intro a ha
   induction ha with
   | @root v hv ho=>
    obtain⟨v1,v2⟩:=S.V v hv
    obtain⟨c1,c2⟩:=hold v v1 v2 ho
    exact⟨v,h.cl.root v ((hV v).1 hv) c1 c2,rfl,v1,v2,old_tag ho⟩
   | @older x hu hn hs ho=>
    have hw:IsWord (Z.m.get x):=(S.ok.seg _).words _
    have hg:=S.sound.good x hu hs.1
    obtain⟨c1,c2⟩:=hold _ hw hg ho
    have hlx:=S.lt hu
    have hx0:=hu.1
    refine⟨_,h.cl.older x hu ?_ hs c1 c2,rfl,hw,hg,old_tag ho⟩
    rcases Int.lt_or_le g (Z.m.gAt x)with q | q
    ·exact q
    ·have:=(S.old _ hlx.1).2 ⟨by rw[show(((x / 64).toNat:Nat):Int)=x / 64 by omega];exact hu.2.1,q⟩
     rw[hn]at this;cases this
   | @step a i hr hi hs ho ih=>
    obtain⟨w,w1,w2,w3,w4,w5⟩:=ih
    subst w2
    obtain⟨r1,r2⟩:=hread w w4 w5 i hi
    have hw:IsWord (Z.m.get (w / 8+i)):=(S.ok.seg _).words _
    have hg:=S.sound.good _ r1 hs.1
    obtain⟨c1,c2⟩:=hold _ hw hg ho
    have hsz:=S.sound.size S.ok w3 w4 w5
    have:=h.cl.kid w w1 w3 (by omega) i (by omega) (by omega) ((hstrong w w4 w5 w3 i hi).2 hs) (by rw[r2];exact c1) (by rw[r2];exact c2)
    rw[r2]at this
    exact⟨_,this,rfl,hw,hg,old_tag ho⟩
  obtain⟨w,w1,w2,_⟩:=this a ha
  exact⟨w,w1,w2⟩
theorem perm_sum{α:Type}(f:α->Nat){l l':List α}(h:l.Perm l'):(l.map f).sum=(l'.map f).sum:=by
 induction h with
 | nil=>rfl
 | cons x _ ih=>simp only[List.map_cons,List.sum_cons,ih]
 | swap x y l=>simp only[List.map_cons,List.sum_cons];omega
 | trans _ _ h1 h2=>exact h1.trans h2
theorem Traced.reached{tr:Tr}{s':Sp}{m:Mem}(t:Traced Z g F0 fw al sz tr s s' m){roots all:List Int}(hV: ∀v,Z.V v ↔ v∈roots)(h:Reached Z.m g roots all):(all.map Z.m.sizeOf).sum=((al.map Z.sz).sum:Nat):=by
 have S:=t.S
 obtain⟨h1,h2⟩:=S.reached hV h
 have hp:(all.map (· / 8)).Perm al:=by
  rw[List.perm_ext_iff_of_nodup _ t.tri.olds.nodup]
  ·intro a
   rw[t.tri.al,List.mem_map]
   constructor
   ·rintro⟨w,hw,rfl⟩
    exact t.fin.reach S t.tri t.roots (h1 w hw).2.2.2
   ·rintro⟨b,hb⟩
    exact h2 a (t.tri.reach a b hb)
  ·unfold List.Nodup
   rw[List.pairwise_map]
   refine List.Pairwise.imp_of_mem (λ{a b} ha hb hne e=>hne ?_) h.alls.nodup
   obtain⟨_,a2,a3,_⟩:=h1 a ha
   obtain⟨_,b2,b3,_⟩:=h1 b hb
   have e1:=(a2.2 (old_tag a3)).2
   have e2:=(b2.2 (old_tag b3)).2
   rw[e]at e1
   omega
 rw[<-perm_sum Z.sz hp,List.map_map]
 have: ∀l:List Int,(∀w∈l,w∈all)->(l.map Z.m.sizeOf).sum=((l.map (Z.sz ∘ (· / 8))).sum:Nat):=λl=>by
  induction l with
  | nil=>intro _;rfl
  | cons w l ih=>
   intro hl
   obtain⟨w1,w2,w3,_⟩:=h1 w (hl w (by simp))
   simp only[List.map_cons,List.sum_cons,ih (λv hv=>hl v (by simp[hv])),Function.comp]
   rw[S.sound.size S.ok w1 w2 (old_tag w3)]
   omega
 exact this all (λw hw=>hw)
theorem Traced.words{tr:Tr}{s':Sp}{m:Mem}(t:Traced Z g F0 fw al sz tr s s' m)(ok:MemOK m):m.words []=(Z.m.above g:Int)+((al.map Z.sz).sum:Nat):=by
 have S:=t.S
 have htp:=tops_eq
 rw[Mem.words_cnt ok]
 have hb: ∀a∈al,∃b,fw a=some b:=λa ha=>(t.tri.al a).1 ha
 let bs:=al.filterMap fw
 have hbs: ∀b,b∈bs ↔ ∃a,fw a=some b:=λb=>by
  show b∈al.filterMap fw ↔ _
  rw[List.mem_filterMap]
  constructor
  ·rintro⟨a,_,h⟩;exact⟨a,h⟩
  ·rintro⟨a,h⟩;exact⟨a,(t.tri.al a).2 ⟨b,h⟩,h⟩
 have hsum: ∀l:List Int,(∀a∈l,∃b,fw a=some b)->((l.filterMap fw).map sz).sum=(l.map Z.sz).sum:=λl=>by
  induction l with
  | nil=>intro _;rfl
  | cons a l ih=>
   intro h
   obtain⟨b,hb⟩:=h a (by simp)
   rw[List.filterMap_cons_some hb]
   simp only[List.map_cons,List.sum_cons,ih (λx hx=>h x (by simp[hx])),(t.tri.img a b hb).1]
 have hnd: ∀l:List Int,l.Nodup->(l.filterMap fw).Nodup:=λl=>by
  induction l with
  | nil=>intro _;exact List.nodup_nil
  | cons a l ih=>
   intro h
   rw[List.nodup_cons]at h
   cases hf:fw a with
   | none=>rw[List.filterMap_cons_none hf];exact ih h.2
   | some b=>
    rw[List.filterMap_cons_some hf,List.nodup_cons]
    refine⟨λq=>?_,ih h.2⟩
    rw[List.mem_filterMap]at q
    obtain⟨a',q1,q2⟩:=q
    have:=t.tri.inj a a' b hf q2
    exact h.1 (this▸q1)
 have hbu: ∀b∈bs,sz b≠0/\ ∀i:Nat,i<sz b->s.mem.used (b+i)/\ ¬Z.m.used (b+i)/\Z.O ((b+(i:Int)) / 64).toNat=false:=λb hbm=>by
  obtain⟨a,ha⟩:=(hbs b).1 hbm
  obtain⟨e,im⟩:=t.tri.img a b ha
  have hza:=(t.tri.olds.mem a ((t.tri.al a).2 ⟨b,ha⟩)).1
  refine⟨by rw[e];exact hza,λi hi=>?_⟩
  rw[e]at hi
  have hf:=im.fit
  exact⟨im.here i hi,im.new i hi,by rw[show(b+(i:Int)) / 64=b / 64 by omega];exact im.out⟩
 have hin: ∀b∈bs,∀x:Nat,inR b (sz b) x=true-> ∃i:Nat,i<sz b/\(x:Int)=b+i:=λb hbm x hx=>by
  unfold inR at hx
  rw[decide_eq_true_eq]at hx
  exact⟨((x:Int)-b).toNat,by omega,by omega⟩
 rw[<-hsum al hb,sum_cover sz tops (al.filterMap fw) (hnd al t.tri.olds.nodup) (λb hbm=>?_) (λa ha b hbm hab=>t.tri.apart a b (hbu a ha).1 (hbu b hbm).1 hab)]
 ·unfold Mem.above Mem.cnt
  rw[<-Int.natCast_add,<-countP_two]
  ·congr 1
   refine List.countP_congr λx hx=>?_
   rw[List.mem_range]at hx
   simp only[Bool.and_eq_true,Bool.or_eq_true,decide_eq_true_eq,true_or,and_true]
   rw[t.used]
   constructor
   ·rintro⟨hu,hO⟩
    rcases t.tri.cover x hu with hz | ⟨a,b,i,h1,h2,h3⟩
    ·left
     refine⟨hz,?_⟩
     have hlx:=S.lt hz
     rcases Int.lt_or_le g (Z.m.gAt x)with q | q
     ·exact q
     ·have:=(S.old _ hlx.1).2 ⟨by rw[show((((x:Int) / 64).toNat:Nat):Int)=(x:Int) / 64 by omega];exact hz.2.1,q⟩
      rw[hO]at this;cases this
    ·right
     rw[List.any_eq_true]
     refine⟨b,(hbs b).2 ⟨a,h1⟩,?_⟩
     unfold inR
     rw[decide_eq_true_eq,(t.tri.img a b h1).1]
     omega
   ·rintro(⟨hz,hg⟩ | hany)
    ·have hlx:=S.lt hz
     refine⟨t.tri.heads.used hz,?_⟩
     by_cases q:Z.O ((x:Int) / 64).toNat=true
     ·have:=((S.old _ hlx.1).1 q).2
      have:g< (Z.m.seg ((x:Int) / 64).toNat).gen:=hg
      omega
     ·simpa using q
    ·rw[List.any_eq_true]at hany
     obtain⟨b,hbm,hx2⟩:=hany
     obtain⟨i,hi,e⟩:=hin b hbm x hx2
     obtain⟨u1,u2,u3⟩:=(hbu b hbm).2 i hi
     rw[e];exact⟨u1,u3⟩
  ·intro x _ h1 h2
   simp only[Bool.and_eq_true,decide_eq_true_eq]at h1
   rw[List.any_eq_true]at h2
   obtain⟨b,hbm,hx2⟩:=h2
   obtain⟨i,hi,e⟩:=hin b hbm x hx2
   have:=((hbu b hbm).2 i hi).2.1
   rw[<-e]at this
   exact this h1.1
 ·obtain⟨hz,hu⟩:=hbu b hbm
  have h0:=(hu 0 (by omega)).1
  have hl:=(hu (sz b-1) (by omega)).1
  have hlim:=t.tri.ok.mem.lim
  have h1:=h0.1
  have h2:=hl.2.1.2.1
  exact⟨by omega,by omega⟩
theorem Traced.empty{tr:Tr}{s':Sp}{m:Mem}(t:Traced Z g F0 fw al sz tr s s' m)(ok:MemOK m){k:Int}(hk:k<=g)(hT:k≠Z.T):m.words [k]=0:=by
 have S:=t.S
 rw[Mem.words_cnt ok]
 unfold Mem.cnt
 have:(List.range tops).countP (λx:Nat=>decide (m.used x) && decide ([k]=[]\/m.gAt x∈[k]))=0:=by
  rw[List.countP_eq_zero]
  intro x _
  simp only[Bool.and_eq_true,decide_eq_true_eq,List.mem_singleton,List.cons_ne_self,false_or,reduceCtorEq]
  rintro⟨hu,hg⟩
  have hg2:=(t.kind hu).2
  obtain⟨hus,hO⟩:=t.used.1 hu
  rcases t.tri.cover x hus with hz | ⟨a,b,i,h1,h2,h3⟩
  ·have hlx:=S.lt hz
   have:=(S.old _ hlx.1).2 ⟨by rw[show((((x:Int) / 64).toNat:Nat):Int)=(x:Int) / 64 by omega];exact hz.2.1,by
    have e:=(t.tri.kAt hz).2
    have:(Z.m.seg ((x:Int) / 64).toNat).gen=k:=by
     have e2:Z.m.gAt x=k:=by rw[<-e,<-hg2];exact hg
     exact e2
    omega⟩
   rw[hO]at this;cases this
  ·have im:=(t.tri.img a b h1).2
   have hf:=im.fit
   have:s.mem.gAt x=Z.T:=by
    unfold Mem.gAt
    rw[h3,show(b+(i:Int)) / 64=b / 64 by omega];exact im.gen
   rw[hg2,this]at hg
   exact hT hg.symm
 rw[this];rfl
end
end Go.Proofs.YtdoghjgbhefphaaGreat

