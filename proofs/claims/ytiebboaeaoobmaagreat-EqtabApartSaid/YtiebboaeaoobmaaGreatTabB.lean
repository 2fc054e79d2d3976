/-
 Tables in plain words: a list of entries, and 31 buckets of them. Proves nothing of any one statement.
-/
import Derived.Test.YtiebboaeaoobmaaGreatTabA
set_option linter.unusedVariables false
set_option linter.unusedSimpArgs false
namespace Go.Proofs.YtiebboaeaoobmaaGreat
open Go

structure Ent where
 e:Int
 k:Int
 v:Int
structure TW where
 vb:Int
 ents:Int
 ws:List Int
 sp:List (Int×Int)
 bs:Nat->List (Int×Int)
def idxK(k:Int):Nat:=(k / 8 % 31).toNat
theorem idxK_lt(k:Int):idxK k<31:=by unfold idxK;omega
structure Tb (f:PF) (th:TF) (t ew:Int) (E:List Ent) (W:TW):Prop where
 tab:th t=some (11,[8*(E.length:Int),W.ents,W.vb,ew])
 vec:th W.vb=some (1,W.ws)
 ne:t≠W.vb
 len:W.ws.length=31
 spc:Chn f W.ents W.sp
 spe:W.sp.map Prod.snd=(E.map Ent.e).reverse
 bkc: ∀i,i<31->Chn f (W.ws.getD i 20) (W.bs i)
 ent: ∀y∈E,f y.e=some (y.k,y.v)
 bke: ∀i,i<31-> ∀p∈W.bs i,∃y∈E,y.e=p.2
 bkx: ∀y∈E,∃i,i<31/\ ∃p∈W.bs i,p.2=y.e
 bk1: ∀i j,i<31->j<31-> ∀p∈W.bs i,∀q∈W.bs j,p.2=q.2->i=j/\p=q
 bkn: ∀i,i<31->(W.bs i).Nodup
 en:(E.map Ent.e).Nodup
 keys:(E.map Ent.k).Nodup
 rol: ∃ρ:Int->Nat,(∀y∈E,ρ y.e=0)/\(∀p∈W.sp,ρ p.1=1)/\ ∀i,i<31-> ∀p∈W.bs i,ρ p.1=i+2
def Right(E:List Ent)(W:TW):Prop:= ∀i,i<31-> ∀p∈W.bs i,∀y∈E,y.e=p.2->idxK y.k=i

section
variable {f:PF} {th:TF} {t ew:Int} {E:List Ent} {W:TW}
theorem Tb.one(T:Tb f th t ew E W){y z:Ent}(hy:y∈E)(hz:z∈E)(h:y.e=z.e):y=z:=by
 have h1:=T.ent y hy
 have h2:=T.ent z hz
 rw[h,h2]at h1
 simp only[Option.some.injEq,Prod.mk.injEq]at h1
 cases y;cases z
 simp only at h h1⊢
 obtain⟨rfl,rfl⟩:=h1
 rw[h]
theorem Tb.oneK(T:Tb f th t ew E W){y z:Ent}(hy:y∈E)(hz:z∈E)(h:y.k=z.k):y=z:=by
 obtain⟨i,hi,rfl⟩:=List.getElem_of_mem hy
 obtain⟨j,hj,rfl⟩:=List.getElem_of_mem hz
 have hn:=T.keys
 have:i=j:=(List.getElem_inj (i:=i) (j:=j) (h₀:=by simpa using hi) (h₁:=by simpa using hj) hn).1 (by simpa using h)
 subst this;rfl
theorem Tb.cong{g:PF}{th':TF}(T:Tb f th t ew E W)(hs: ∀p∈W.sp,g p.1=f p.1)(hb: ∀i,i<31-> ∀p∈W.bs i,g p.1=f p.1)(he: ∀y∈E,g y.e=f y.e)(h1:th' t=th t)(h2:th' W.vb=th W.vb):Tb g th' t ew E W:=
 ⟨h1.trans T.tab,h2.trans T.vec,T.ne,T.len,T.spc.cong hs,T.spe,λi hi=>(T.bkc i hi).cong (hb i hi),λy hy=>(he y hy).trans (T.ent y hy),T.bke,T.bkx,T.bk1,T.bkn,T.en,T.keys,T.rol⟩
theorem Tb.known(T:Tb f th t ew E W){u:Int}(hu:f u=none):(∀p∈W.sp,p.1≠u)/\(∀i,i<31-> ∀p∈W.bs i,p.1≠u)/\ ∀y∈E,y.e≠u:=by
 refine⟨λp hp e=>?_,λi hi p hp e=>?_,λy hy e=>?_⟩
 ·obtain⟨d,h⟩:=T.spc.some p hp
  rw[e,hu]at h;cases h
 ·obtain⟨d,h⟩:=(T.bkc i hi).some p hp
  rw[e,hu]at h;cases h
 ·have h:=T.ent y hy
  rw[e,hu]at h;cases h
theorem Tb.grow(T:Tb f th t ew E W){u:Int}{q:Int×Int}(hu:f u=none):Tb (f.upd u q) th t ew E W:=by
 obtain⟨k1,k2,k3⟩:=T.known hu
 exact T.cong (λp hp=>PF.upd_ne f q (k1 p hp)) (λi hi p hp=>PF.upd_ne f q (k2 i hi p hp)) (λy hy=>PF.upd_ne f q (k3 y hy)) rfl rfl
theorem Tb.new{g:PF}{th':TF}{e a o k v:Int}(T:Tb f th t ew E W)(R:Right E W)(hk: ∀y∈E,y.k≠k)(f1:f e=none)(f2:f a=none)(f3:f o=none)(n1:a≠e)(n2:o≠e)(n3:o≠a)
  (g1:g e=some (k,v)) (g2:g a=some (e,W.ents)) (g3:g o=some (e,W.ws.getD (idxK k) 20)) (gu: ∀u,u≠e->u≠a->u≠o->g u=f u)
  (h1:th' t=some (11,[8*((E.length:Int)+1),a,W.vb,ew])) (h2:th' W.vb=some (1,W.ws.set (idxK k) o)):
  Tb g th' t ew (E++[⟨e,k,v⟩]) ⟨W.vb,a,W.ws.set (idxK k) o,(a,e)::W.sp,λj=>if j=idxK k then(o,e)::W.bs j else W.bs j⟩/\Right (E++[⟨e,k,v⟩]) ⟨W.vb,a,W.ws.set (idxK k) o,(a,e)::W.sp,λj=>if j=idxK k then(o,e)::W.bs j else W.bs j⟩:=by
 obtain⟨a1,a2,a3⟩:=T.known f1
 obtain⟨b1,b2,b3⟩:=T.known f2
 obtain⟨c1,c2,c3⟩:=T.known f3
 have hi:=idxK_lt k
 have hsp: ∀p∈W.sp,g p.1=f p.1:=λp hp=>gu _ (a1 p hp) (b1 p hp) (c1 p hp)
 have hbs: ∀i,i<31-> ∀p∈W.bs i,g p.1=f p.1:=λi hi p hp=>gu _ (a2 i hi p hp) (b2 i hi p hp) (c2 i hi p hp)
 have hen: ∀y∈E,g y.e=f y.e:=λy hy=>gu _ (a3 y hy) (b3 y hy) (c3 y hy)
 have hbe: ∀i,i<31-> ∀p∈W.bs i,p.2≠e:=λi hi p hp q=>by
  obtain⟨y,hy,he⟩:=T.bke i hi p hp
  exact a3 y hy (he.trans q)
 have hmem: ∀(j:Nat) (p:Int×Int),p∈(if j=idxK k then(o,e)::W.bs j else W.bs j)->(j=idxK k/\p=(o,e))\/p∈W.bs j:=λj p hp=>by
  by_cases q:j=idxK k
  ·rw[if_pos q]at hp
   rcases List.mem_cons.1 hp with r | r
   ·exact .inl ⟨q,r⟩
   ·exact .inr r
  ·rw[if_neg q]at hp;exact .inr hp
 have hin: ∀(j:Nat) (p:Int×Int),p∈W.bs j->p∈(if j=idxK k then(o,e)::W.bs j else W.bs j):=λj p hp=>by
  split
  ·exact List.mem_cons_of_mem _ hp
  ·exact hp
 obtain⟨ρ,r1,r2,r3⟩:=T.rol
 refine⟨⟨by rw[h1];simp,h2,T.ne,by simpa using T.len,.cons g2 (T.spc.cong hsp),?_,λj hj=>?_,λy hy=>?_,λj hj p hp=>?_,λy hy=>?_,λi j hi' hj p hp q hq e'=>?_,λj hj=>?_,?_,?_,?_⟩,λj hj p hp y hy e'=>?_⟩
 ·simp[T.spe]
 ·show Chn g ((W.ws.set (idxK k) o).getD j 20) (if j=idxK k then(o,e)::W.bs j else W.bs j)
  rw[List.getD_eq_getElem?_getD,List.getElem?_set]
  by_cases q:j=idxK k
  ·rw[if_pos q,if_pos q.symm,if_pos (by rw[T.len];exact hi)]
   refine .cons g3 ?_
   rw[<-q]
   exact(T.bkc j hj).cong (hbs j hj)
  ·rw[if_neg q,if_neg (λr=>q r.symm),<-List.getD_eq_getElem?_getD]
   exact(T.bkc j hj).cong (hbs j hj)
 ·rcases List.mem_append.1 hy with h | h
  ·rw[hen y h];exact T.ent y h
  ·simp at h;rw[h];exact g1
 ·rcases hmem j p hp with⟨_,rfl⟩ | h
  ·exact⟨⟨e,k,v⟩,by simp,rfl⟩
  ·obtain⟨y,hy,he⟩:=T.bke j hj p h
   exact⟨y,List.mem_append_left _ hy,he⟩
 ·rcases List.mem_append.1 hy with h | h
  ·obtain⟨i,hi',p,hp,he⟩:=T.bkx y h
   exact⟨i,hi',p,hin i p hp,he⟩
  ·simp at h
   rw[h]
   exact⟨idxK k,hi,(o,e),by show(o,e)∈(if idxK k=idxK k then _ else _);rw[if_pos rfl];simp,rfl⟩
 ·rcases hmem i p hp with⟨q1,rfl⟩ | h
  ·rcases hmem j q hq with⟨q2,rfl⟩ | h'
   ·exact⟨q1.trans q2.symm,rfl⟩
   ·exact absurd e'.symm (hbe j hj q h')
  ·rcases hmem j q hq with⟨q2,rfl⟩ | h'
   ·exact absurd e' (hbe i hi' p h)
   ·exact T.bk1 i j hi' hj p h q h' e'
 ·show(if j=idxK k then(o,e)::W.bs j else W.bs j).Nodup
  split
  ·exact List.nodup_cons.2 ⟨λh=>hbe j hj _ h rfl,T.bkn j hj⟩
  ·exact T.bkn j hj
 ·rw[List.map_append,List.nodup_append]
  refine⟨T.en,by simp,λu hu w hw=>?_⟩
  obtain⟨y,hy,rfl⟩:=List.mem_map.1 hu
  simp at hw
  rw[hw];exact a3 y hy
 ·rw[List.map_append,List.nodup_append]
  refine⟨T.keys,by simp,λu hu w hw=>?_⟩
  obtain⟨y,hy,rfl⟩:=List.mem_map.1 hu
  simp at hw
  rw[hw];exact hk y hy
 ·refine⟨λu=>if u=e then 0 else if u=a then 1 else if u=o then idxK k+2 else ρ u,λy hy=>?_,λp hp=>?_,λi hi' p hp=>?_⟩
  ·rcases List.mem_append.1 hy with h | h
   ·simp only[]
    rw[if_neg (a3 y h),if_neg (b3 y h),if_neg (c3 y h)];exact r1 y h
   ·simp at h;rw[h];simp
  ·rcases List.mem_cons.1 hp with rfl | h
   ·show(if a=e then 0 else if a=a then 1 else if a=o then idxK k+2 else ρ a)=1
    rw[if_neg n1,if_pos rfl]
   ·simp only[]
    rw[if_neg (a1 p h),if_neg (b1 p h),if_neg (c1 p h)];exact r2 p h
  ·rcases hmem i p hp with⟨q1,rfl⟩ | h
   ·show(if o=e then 0 else if o=a then 1 else if o=o then idxK k+2 else ρ o)=i+2
    rw[if_neg n2,if_neg n3,if_pos rfl,q1]
   ·simp only[]
    rw[if_neg (a2 i hi' p h),if_neg (b2 i hi' p h),if_neg (c2 i hi' p h)];exact r3 i hi' p h
 ·rcases hmem j p hp with⟨q1,rfl⟩ | h
  ·rcases List.mem_append.1 hy with h | h
   ·exact absurd e' (a3 y h)
   ·simp at h;rw[h];exact q1.symm
  ·rcases List.mem_append.1 hy with h' | h'
   ·exact R j hj p h y h' e'
   ·simp at h'
    rw[h']at e'
    exact absurd e'.symm (hbe j hj p h)
def setV(E:List Ent)(k v:Int):List Ent:=E.map λz=>if z.k=k then⟨z.e,z.k,v⟩else z
theorem setV_e(E:List Ent)(k v:Int):(setV E k v).map Ent.e=E.map Ent.e:=by
 unfold setV
 rw[List.map_map]
 refine List.map_congr_left λz _=>?_
 simp only[Function.comp]
 split<;>rfl
theorem setV_k(E:List Ent)(k v:Int):(setV E k v).map Ent.k=E.map Ent.k:=by
 unfold setV
 rw[List.map_map]
 refine List.map_congr_left λz _=>?_
 simp only[Function.comp]
 split<;>rfl
theorem mem_setV{E:List Ent}{k v:Int}{z:Ent}(h:z∈setV E k v): ∃y∈E,z.e=y.e/\z.k=y.k/\z.v=if y.k=k then v else y.v:=by
 unfold setV at h
 obtain⟨y,hy,rfl⟩:=List.mem_map.1 h
 refine⟨y,hy,?_⟩
 by_cases q:y.k=k
 ·rw[if_pos q,if_pos q];exact⟨rfl,rfl,rfl⟩
 ·rw[if_neg q,if_neg q];exact⟨rfl,rfl,rfl⟩
theorem setV_mem{E:List Ent}{k v:Int}{y:Ent}(h:y∈E): ∃z∈setV E k v,z.e=y.e/\z.k=y.k:=by
 refine⟨_,List.mem_map_of_mem h,?_⟩
 split<;>exact⟨rfl,rfl⟩
theorem Tb.old(T:Tb f th t ew E W)(R:Right E W){y:Ent}(hy:y∈E)(v:Int):Tb (f.upd y.e (y.k,v)) th t ew (setV E y.k v) W/\Right (setV E y.k v) W:=by
 obtain⟨ρ,r1,r2,r3⟩:=T.rol
 have h1: ∀p∈W.sp,(f.upd y.e (y.k,v)) p.1=f p.1:=λp hp=>PF.upd_ne f _ (λe=>by have:=r2 p hp;rw[e,r1 y hy]at this;cases this)
 have h2: ∀i,i<31-> ∀p∈W.bs i,(f.upd y.e (y.k,v)) p.1=f p.1:=λi hi p hp=>PF.upd_ne f _ (λe=>by have:=r3 i hi p hp;rw[e,r1 y hy]at this;omega)
 have hl:(setV E y.k v).length=E.length:=by unfold setV;simp
 refine⟨⟨by rw[hl];exact T.tab,T.vec,T.ne,T.len,T.spc.cong h1,by rw[setV_e];exact T.spe,λi hi=>(T.bkc i hi).cong (h2 i hi),λz hz=>?_,λi hi p hp=>?_,λz hz=>?_,T.bk1,T.bkn,by rw[setV_e];exact T.en,by rw[setV_k];exact T.keys,⟨ρ,λz hz=>?_,r2,r3⟩⟩,λi hi p hp z hz e=>?_⟩
 ·obtain⟨z',hz',e1,e2,e3⟩:=mem_setV hz
  by_cases q:z'.k=y.k
  ·have:=T.oneK hz' hy q
   subst this
   rw[if_pos rfl]at e3
   rw[e1,e2,e3,PF.upd_at]
  ·rw[if_neg q]at e3
   rw[e1,e2,e3,PF.upd_ne f _ (λe=>q (by rw[T.one hz' hy e]))]
   exact T.ent z' hz'
 ·obtain⟨z,hz,e⟩:=T.bke i hi p hp
  obtain⟨z',hz',e1,_⟩:=setV_mem (k:=y.k) (v:=v) hz
  exact⟨z',hz',e1.trans e⟩
 ·obtain⟨z',hz',e1,_⟩:=mem_setV hz
  obtain⟨i,hi,p,hp,e⟩:=T.bkx z' hz'
  exact⟨i,hi,p,hp,e.trans e1.symm⟩
 ·obtain⟨z',hz',e1,_⟩:=mem_setV hz
  rw[e1];exact r1 z' hz'
 ·obtain⟨z',hz',e1,e2,_⟩:=mem_setV hz
  rw[e2];exact R i hi p hp z' hz' (e1.symm.trans e)
def delK(E:List Ent)(k:Int):List Ent:=E.filter λz=>decide (z.k≠k)
theorem mem_delK{E:List Ent}{k:Int}{z:Ent}:z∈delK E k ↔ z∈E/\z.k≠k:=by unfold delK;rw[List.mem_filter,decide_eq_true_eq]
theorem Tb.del{g:PF}{th':TF}{r1 r2:Int}(T:Tb f th t ew E W)(R:Right E W){y:Ent}(hy:y∈E){A B A2 B2:List (Int×Int)}{o a:Int}
  (hb:W.bs (idxK y.k)=A++(o,y.e)::B) (hs:W.sp=A2++(a,y.e)::B2) (c1:Chn g r1 (A++B)) (c2:Chn g r2 (A2++B2))
  (ge: ∀z∈E,z.k≠y.k->g z.e=f z.e) (gb: ∀i,i<31->i≠idxK y.k-> ∀p∈W.bs i,g p.1=f p.1)
  (h1:th' t=some (11,[8*((E.length:Int)-1),r2,W.vb,ew])) (h2:th' W.vb=some (1,W.ws.set (idxK y.k) r1)):
  Tb g th' t ew (delK E y.k) ⟨W.vb,r2,W.ws.set (idxK y.k) r1,A2++B2,λj=>if j=idxK y.k then A++B else W.bs j⟩/\Right (delK E y.k) ⟨W.vb,r2,W.ws.set (idxK y.k) r1,A2++B2,λj=>if j=idxK y.k then A++B else W.bs j⟩:=by
 have hi:=idxK_lt y.k
 have hsub: ∀(j:Nat) (p:Int×Int),p∈(if j=idxK y.k then A++B else W.bs j)->p∈W.bs j:=λj p hp=>by
  by_cases q:j=idxK y.k
  ·rw[if_pos q]at hp
   rw[q,hb]
   rcases List.mem_append.1 hp with h | h
   ·exact List.mem_append_left _ h
   ·exact List.mem_append_right _ (List.mem_cons_of_mem _ h)
  ·rw[if_neg q]at hp;exact hp
 have hnd:=T.bkn _ hi
 rw[hb]at hnd
 have hnd1:(A++B).Nodup/\(o,y.e) ∉ A++B:=by
  rw[List.nodup_append]at hnd
  obtain⟨n1,n2,n3⟩:=hnd
  rw[List.nodup_cons]at n2
  refine⟨List.nodup_append.2 ⟨n1,n2.2,λu hu w hw=>n3 u hu w (by simp[hw])⟩,λh=>?_⟩
  rcases List.mem_append.1 h with h | h
  ·exact n3 _ h _ (by simp) rfl
  ·exact n2.1 h
 have hoi:(o,y.e)∈W.bs (idxK y.k):=by rw[hb];simp
 have hnone: ∀j,j<31-> ∀p∈(if j=idxK y.k then A++B else W.bs j),p.2≠y.e:=λj hj p hp e=>by
  obtain⟨q1,q2⟩:=T.bk1 j (idxK y.k) hj hi p (hsub j p hp) _ hoi e
  rw[if_pos q1,q2]at hp
  exact hnd1.2 hp
 have hEs:(E.map Ent.e).reverse=A2.map Prod.snd++y.e::B2.map Prod.snd:=by rw[<-T.spe,hs];simp
 have hE:E.map Ent.e=(B2.map Prod.snd).reverse++y.e::(A2.map Prod.snd).reverse:=by
  have:=congrArg List.reverse hEs
  rw[List.reverse_reverse]at this
  rw[this];simp
 obtain⟨E1,E2,hE12⟩:=List.append_of_mem hy
 have hk:=T.keys
 rw[hE12,List.map_append,List.map_cons,List.nodup_append]at hk
 obtain⟨k1,k2,k3⟩:=hk
 rw[List.nodup_cons]at k2
 have hdel:delK E y.k=E1++E2:=by
  rw[hE12]
  unfold delK
  rw[List.filter_append,List.filter_cons_of_neg (by simp),List.filter_eq_self.2 (λz hz=>?_),List.filter_eq_self.2 (λz hz=>?_)]
  ·rw[decide_eq_true_eq];exact λe=>k2.1 (by rw[<-e];exact List.mem_map_of_mem hz)
  ·rw[decide_eq_true_eq];exact λe=>k3 z.k (List.mem_map_of_mem hz) y.k (by simp) e
 have hen:=T.en
 have hE':(E1.map Ent.e)=(B2.map Prod.snd).reverse/\E2.map Ent.e=(A2.map Prod.snd).reverse:=by
  have e1:E1.map Ent.e++y.e::E2.map Ent.e=(B2.map Prod.snd).reverse++y.e::(A2.map Prod.snd).reverse:=by rw[<-hE,hE12];simp
  have n1:y.e ∉ E1.map Ent.e:=by
   rw[hE12,List.map_append,List.map_cons,List.nodup_append]at hen
   exact λh=>hen.2.2 _ h _ (by simp) rfl
  have n2:y.e ∉ (B2.map Prod.snd).reverse:=by
   rw[hE,List.nodup_append]at hen
   exact λh=>hen.2.2 _ h _ (by simp) rfl
  have key: ∀(l1 l2 m1 m2:List Int),l1++y.e::l2=m1++y.e::m2->y.e ∉ l1->y.e ∉ m1->l1=m1/\l2=m2:=by
   intro l1
   induction l1 with
   | nil=>
    intro l2 m1 m2 h _ h2
    cases m1 with
    | nil=>simp at h;exact⟨rfl,h⟩
    | cons c m1=>simp at h;exact absurd (by rw[h.1];simp) h2
   | cons c l1 ih=>
    intro l2 m1 m2 h h1 h2
    cases m1 with
    | nil=>simp at h;exact absurd (by rw[h.1];simp) h1
    | cons c' m1=>
     simp at h
     obtain⟨q1,q2⟩:=ih l2 m1 m2 h.2 (λh'=>h1 (by simp[h'])) (λh'=>h2 (by simp[h']))
     exact⟨by rw[h.1,q1],q2⟩
  exact key _ _ _ _ e1 n1 n2
 have hlen:(delK E y.k).length+1=E.length:=by rw[hdel,hE12];simp;omega
 obtain⟨ρ,r1',r2',r3'⟩:=T.rol
 refine⟨⟨by rw[h1,<-hlen];simp,h2,T.ne,by simpa using T.len,c2,?_,λj hj=>?_,λz hz=>?_,λj hj p hp=>?_,λz hz=>?_,λi j hi' hj p hp q hq e'=>T.bk1 i j hi' hj p (hsub i p hp) q (hsub j q hq) e',λj hj=>?_,?_,?_,⟨ρ,λz hz=>r1' z (mem_delK.1 hz).1,λp hp=>r2' p ?_,λi hi' p hp=>r3' i hi' p (hsub i p hp)⟩⟩,λj hj p hp z hz e'=>R j hj p (hsub j p hp) z (mem_delK.1 hz).1 e'⟩
 ·show(A2++B2).map Prod.snd=((delK E y.k).map Ent.e).reverse
  rw[hdel,List.map_append,List.map_append,hE'.1,hE'.2];simp
 ·show Chn g ((W.ws.set (idxK y.k) r1).getD j 20) (if j=idxK y.k then A++B else W.bs j)
  rw[List.getD_eq_getElem?_getD,List.getElem?_set]
  by_cases q:j=idxK y.k
  ·rw[if_pos q,if_pos q.symm,if_pos (by rw[T.len];exact hi)]
   exact c1
  ·rw[if_neg q,if_neg (λr=>q r.symm),<-List.getD_eq_getElem?_getD]
   exact(T.bkc j hj).cong (gb j hj q)
 ·obtain⟨z1,z2⟩:=mem_delK.1 hz
  rw[ge z z1 z2];exact T.ent z z1
 ·obtain⟨z,hz,e⟩:=T.bke j hj p (hsub j p hp)
  refine⟨z,mem_delK.2 ⟨hz,λq=>?_⟩,e⟩
  have:=T.oneK hz hy q
  subst this
  exact hnone j hj p hp e.symm
 ·obtain⟨z1,z2⟩:=mem_delK.1 hz
  obtain⟨i,hi',p,hp,e⟩:=T.bkx z z1
  refine⟨i,hi',p,?_,e⟩
  show p∈(if i=idxK y.k then A++B else W.bs i)
  by_cases q:i=idxK y.k
  ·rw[if_pos q]
   rw[q,hb]at hp
   rcases List.mem_append.1 hp with h | h
   ·exact List.mem_append_left _ h
   ·rcases List.mem_cons.1 h with h | h
    ·rw[h]at e
     exact absurd (by rw[T.one z1 hy e.symm]) z2
    ·exact List.mem_append_right _ h
  ·rw[if_neg q];exact hp
 ·show(if j=idxK y.k then A++B else W.bs j).Nodup
  split
  ·exact hnd1.1
  ·exact T.bkn j hj
 ·exact(T.en.sublist (List.Sublist.map _ (List.filter_sublist)))
 ·exact(T.keys.sublist (List.Sublist.map _ (List.filter_sublist)))
 ·rw[hs]
  rcases List.mem_append.1 hp with h | h
  ·exact List.mem_append_left _ h
  ·exact List.mem_append_right _ (List.mem_cons_of_mem _ h)
end
