/-
 A heap on which all goes well, what is made on it; a new table. Proves nothing of any one statement.
-/
import Derived.Test.YtiebboaeaoobmaaGreatTabG
set_option linter.unusedVariables false
set_option linter.unusedSimpArgs false
namespace Go.Proofs.YtiebboaeaoobmaaGreat
open Go

def J1(s:Sp)(G:Int->Prop):Prop:=SpOK s/\s.mem.Even/\s.cf<4611686018427387904/\ ∀v,G v
theorem store_cf(s:Sp)(a v:Int):({s with mem:=(s.mem.store a v).1}:Sp).cf=s.cf:=by
 unfold Sp.cf
 show(s.mem.store a v).1.count+(s.mem.store a v).1.free=_
 rw[Mem.store_lim.2.1,Mem.store_lim.2.2]
theorem J1_ok:JOK J1:=by
 refine⟨λh=>h.1,λh=>h.2.1,λh=>Sp.cf_count h.1 h.2.2.1,λh v _ _=>h.2.2.2 v,λ{s G w a d v i} h p gw hv gv hi=>⟨h.1.store _ hv,h.2.1.store _ _,by rw[store_cf];exact h.2.2.1,h.2.2.2⟩,λ{s G w k v ws i} h t gw hv gv hi=>⟨h.1.store _ hv,h.2.1.store _ _,by rw[store_cf];exact h.2.2.1,h.2.2.2⟩,λh _ _=>⟨h.2.2.2 _,h.2.2.2 _⟩,λh _ _ _ v _=>h.2.2.2 v,λ{s G kind tag ws} h hk hw hg=>⟨G,?_,λ_ h=>h,λ_=>h.2.2.2 _⟩⟩
 by_cases hal:(s.alloc 0 kind ws.length).2.2=0
 ·obtain⟨ok2,gr⟩:=Sp.alloc_ok h.1 hal
  have e:(s.put kind tag ws).1={(s.alloc 0 kind ws.length).1 with mem:=(s.alloc 0 kind ws.length).1.mem.sets (s.alloc 0 kind ws.length).2.1 ws}:=by unfold Sp.put;rw[if_pos hal]
  have sm:=Same'.sets ws (s.alloc 0 kind ws.length).1.mem (s.alloc 0 kind ws.length).2.1
  rw[e]
  refine⟨ok2.sets _ hw,sm.even (gr.even h.2.1 (λhk1=>?_)).1,?_,h.2.2.2⟩
  ·rcases hk with⟨_,_,hl⟩ | ⟨_,_,hl⟩ | ⟨hk,_⟩
   ·omega
   ·omega
   ·omega
  ·have hcf:=Sp.alloc_cf s 0 kind ws.length
   unfold Sp.cf at hcf⊢
   show((s.alloc 0 kind ws.length).1.mem.sets _ ws).count+((s.alloc 0 kind ws.length).1.mem.sets _ ws).free<_
   rw[sm.count,sm.free,hcf];exact h.2.2.1
 ·have e:(s.put kind tag ws).1=s:=by unfold Sp.put;rw[if_neg hal]
  rw[e];exact h
section
variable {J:Sp->(Int->Prop)->Prop} {H0 H H':zV} {b:Blk} {x x':Hp} {G G':Int->Prop} {f f':PF} {th th':TF} {t ew:Int} {E E':List Ent} {W W':TW} {n:Int}
theorem HS.made(O:JOK J)(S:HS J H0 H b x G f th){kind:Int}{ws:List Int}(hkd:1<=kind/\kind<=13)(hl:ws.length<=62)(hw: ∀w∈ws,IsWord w)(hg:rawK kind≠3-> ∀w∈ws,G w)(hf:1<=x.sp.mem.free)(V:View H' (some ⟨b.h,0,none⟩) (makeO (some (b,x)) kind 0 ws))(fr:Fr (own (some (b,x))) H H'):
  ∃w x' G',makeR (some (b,x)) kind 0 ws=(w,0)/\HS J H0 H' b x' G' f (th.upd w (kind,ws))/\Rest 1 x x'/\(∀v,G v->G' v)/\G' w/\th w=none/\IsWord w/\w % 8=3/\ ¬x.sp.mem.used (w / 8)/\x'.sp.mem.used (w / 8)/\Fr [b.sp,b.m,b.s] H H':=by
 have okS:=O.ok S.j
 obtain⟨h1,h2,h3,h4⟩:=Sp.make_ok okS (more:=0) hkd (by decide) hl hw hf
 obtain⟨e1,e2⟩:=make_some b x kind 0 ws
 have q1:makeO (some (b,x)) kind 0 ws=putO (some (b,x)) (rawK kind) 3 ((0*65536+ws.length*256+kind*8+5)::ws):=by
  unfold makeO;rw[if_neg (λq=>q ⟨hkd,by decide⟩),if_neg (by omega)]
 have q2:makeR (some (b,x)) kind 0 ws=putR (some (b,x)) (rawK kind) 3 ((0*65536+ws.length*256+kind*8+5)::ws):=by
  unfold makeR;rw[if_neg (λq=>q ⟨hkd,by decide⟩),if_neg (by omega)]
 obtain⟨p1,p2,p3,p4⟩:=head_parts (kind:=kind) (more:=0) (n:=ws.length) hkd ⟨by decide,by decide⟩ hl
 have hr:rawK kind=2\/rawK kind=3:=by unfold rawK;split<;>omega
 obtain⟨G',j1,j2,j3⟩:=O.put S.j (kind:=rawK kind) (tag:=3) (ws:=(0*65536+ws.length*256+kind*8+5)::ws) (.inr (.inr ⟨hr,rfl,_,ws,rfl,p1,by rw[p2],p3⟩)) (λw hwm=>by
  rcases List.mem_cons.1 hwm with rfl | h
  ·exact⟨by omega,by omega⟩
  ·exact hw w h) (λhk3 w hwm=>by
  rcases List.mem_cons.1 hwm with rfl | h
  ·have:=p1.1
   exact O.imm S.j _ (by omega) (by omega)
  ·exact hg hk3 w h)
 have eq1:(x.sp.make kind 0 ws).1=(x.sp.put (rawK kind) 3 ((0*65536+ws.length*256+kind*8+5)::ws)).1:=by
  have:=e2.symm.trans q1
  have h':(some (b,({x with sp:=(x.sp.make kind 0 ws).1}:Hp)):Option (Blk×Hp))=some (b,{x with sp:=(x.sp.put (rawK kind) 3 ((0*65536+ws.length*256+kind*8+5)::ws)).1}):=this
  simp only[Option.some.injEq,Prod.mk.injEq,Hp.mk.injEq,true_and,and_true]at h'
  exact h'
 have eq2:(x.sp.make kind 0 ws).2=(x.sp.put (rawK kind) 3 ((0*65536+ws.length*256+kind*8+5)::ws)).2:=e1.symm.trans q2
 rw[<-eq1]at j1
 rw[<-eq2]at j3
 rw[e2]at V
 have h0: ∀j∈own (some (b,x)),H0.size<=j:=λj hj=>S.hb j (by simp[own]at hj;simp[Blk.all];omega)
 have hnu: ¬x.sp.mem.used ((x.sp.make kind 0 ws).2.1 / 8):=by
  have:=h4.fresh 0 (by omega)
  rw[show(x.sp.make kind 0 ws).2.1 / 8+((0:Nat):Int)=(x.sp.make kind 0 ws).2.1 / 8 by omega]at this
  exact this
 refine⟨_,{x with sp:=(x.sp.make kind 0 ws).1},G',e1.trans (Prod.ext rfl h1),⟨S.e.fr_trans fr h0,V,j1,S.pic.make okS.mem h4 h2,λw' p' e=>j2 _ (S.gf _ _ e),λw' p' e=>?_,S.hb⟩,⟨rfl,rfl,rfl,h4.free,λa h=>(h4.keep.used a h).1⟩,j2,j3 h1,S.pic.freshT h4,h2.word,h2.obj.1.2.1,hnu,h2.usedHead,fr⟩
 by_cases q:w'=(x.sp.make kind 0 ws).2.1
 ·rw[q];exact j3 h1
 ·rw[TF.upd_ne th _ q]at e;exact j2 _ (S.gt _ _ e)
theorem HS.vector_c(O:JOK J)(S:HS J H0 H b x G f th){n fill:Int}(hn:0<=n/\n<=62)(hfl:IsWord fill)(gf:G fill)(hf:1<=x.sp.mem.free):
  obj_Heap_Vector.C (some ⟨b.h,0,none⟩) n fill H (λv H'=> ∃w x' G',v=.tuple #[.int .u64 w,.int .i64 0]/\HS J H0 H' b x' G' f (th.upd w (1,List.replicate n.toNat fill))/\Rest 1 x x'/\(∀v,G v->G' v)/\G' w/\th w=none/\IsWord w/\Fr [b.sp,b.m,b.s] H H'):=by
 refine HC.mono (obj_Vector_c (n:=n) S.view hfl (O.cnt S.j)) ?_
 rintro _ H1 ⟨rfl,V,fr⟩
 have hw: ∀w∈List.replicate n.toNat fill,IsWord w:=λw hw=>by rw[List.eq_of_mem_replicate hw];exact hfl
 have e4:vecO (some (b,x)) n fill=makeO (some (b,x)) 1 0 (List.replicate n.toNat fill):=by unfold vecO;rw[if_neg (by omega)]
 have e3:vecR (some (b,x)) n fill=makeR (some (b,x)) 1 0 (List.replicate n.toNat fill):=by unfold vecR;rw[if_neg (by omega),if_neg (by omega)]
 rw[e4]at V
 obtain⟨w,x',G',h1,h2,h3,h4,h5,h6,h7,_,_,_,h8⟩:=S.made O (by decide) (by simp;omega) hw (λ_ w hw=>by rw[List.eq_of_mem_replicate hw];exact gf) hf V fr
 exact⟨w,x',G',by rw[e3,h1],h2,h3,h4,h5,h6,h7,h8⟩
theorem HS.string_c(O:JOK J)(S:HS J H0 H b x G f th){s:ByteArray}(hl:(runesOf s).length<=62)(hf:1<=x.sp.mem.free):
  obj_Heap_String.C (some ⟨b.h,0,none⟩) s H (λv H'=> ∃w x' G',v=.tuple #[.int .u64 w,.int .i64 0]/\HS J H0 H' b x' G' f th/\Rest 1 x x'/\(∀v,G v->G' v)/\G' w/\IsWord w/\w % 8=3/\ ¬x.sp.mem.used (w / 8)/\x'.sp.mem.used (w / 8)/\Fr [b.sp,b.m,b.s] H H'):=by
 refine HC.mono (obj_String_c (s:=s) S.view (O.cnt S.j)) ?_
 rintro _ H1 ⟨rfl,V,fr⟩
 have e4:strO (some (b,x)) s=makeO (some (b,x)) 2 0 (runesOf s):=by unfold strO;rw[if_neg (by omega)]
 have e3:strR (some (b,x)) s=makeR (some (b,x)) 2 0 (runesOf s):=by unfold strR;rw[if_neg (by omega)]
 rw[e4]at V
 obtain⟨w,x',G',h1,h2,h3,h4,h5,h6,h7,h7b,h7c,h7d,h8⟩:=S.made O (kind:=2) (by decide) hl (runesOf_word s) (λh=>absurd (show rawK 2=3 by decide) h) hf V fr
 exact⟨w,x',G',by rw[e3,h1],h2.less (λ_ _ e=>e) (λu p e=>(TF.upd_ne th _ (λq=>by rw[q,h6]at e;cases e)).trans e),h3,h4,h5,h7,h7b,h7c,h7d,h8⟩
theorem HS.weak_c(O:JOK J)(S:HS J H0 H b x G f th){a d:Int}(ha:IsWord a)(hd:IsWord d)(ga:G a)(gd:G d)(hf:1<=x.sp.mem.free):
  obj_Heap_Weak.C (some ⟨b.h,0,none⟩) a d H (λv H'=> ∃w x' G',v=.tuple #[.int .u64 w,.int .i64 0]/\HS J H0 H' b x' G' f th/\Rest 1 x x'/\(∀v,G v->G' v)/\G' w/\IsWord w/\w % 8=2/\ ¬x.sp.mem.used (w / 8)/\x'.sp.mem.used (w / 8)/\Fr [b.sp,b.m,b.s] H H'):=by
 have okS:=O.ok S.j
 refine HC.mono (obj_Weak_c S.view ha hd (O.cnt S.j)) ?_
 rintro _ H' ⟨rfl,V,fr⟩
 have hp2:putO (some (b,x)) 1 2 [a,d]=some (b,{x with sp:=(x.sp.put 1 2 [a,d]).1}):=rfl
 have hr2:putR (some (b,x)) 1 2 [a,d]=(x.sp.put 1 2 [a,d]).2:=rfl
 rw[hp2]at V
 rw[hr2]
 have h0: ∀j∈own (some (b,x)),H0.size<=j:=λj hj=>S.hb j (by simp[own]at hj;simp[Blk.all];omega)
 obtain⟨G',j1,j2,j3⟩:=O.put S.j (kind:=1) (tag:=2) (ws:=[a,d]) (.inr (.inl ⟨rfl,rfl,rfl⟩)) (λw hw=>by simp at hw;rcases hw with rfl | rfl<;>assumption) (λ_ w hw=>by simp at hw;rcases hw with rfl | rfl<;>assumption)
 have hok:(x.sp.put 1 2 [a,d]).2.2=0/\Pr (x.sp.put 1 2 [a,d]).1.mem (x.sp.put 1 2 [a,d]).2.1 2 a d/\SpOK (x.sp.put 1 2 [a,d]).1/\Made x.sp.mem (x.sp.put 1 2 [a,d]).1.mem (x.sp.put 1 2 [a,d]).2.1 1/\(x.sp.put 1 2 [a,d]).1.mem.Even:=Sp.cons_ok okS (O.even S.j) (tag:=2) (.inr rfl) ha hd hf
 obtain⟨h1,h2,h3,h4,h5⟩:=hok
 have hk:=S.pic.keep okS.mem h4.keep
 have hnu: ¬x.sp.mem.used ((x.sp.put 1 2 [a,d]).2.1 / 8):=by
  have:=h4.fresh 0 (by omega)
  rw[show(x.sp.put 1 2 [a,d]).2.1 / 8+((0:Nat):Int)=(x.sp.put 1 2 [a,d]).2.1 / 8 by omega]at this
  exact this
 exact⟨_,{x with sp:=(x.sp.put 1 2 [a,d]).1},G',by rw[<-h1],⟨S.e.fr_trans fr h0,V,j1,hk,λw' p' e=>j2 _ (S.gf _ _ e),λw' p' e=>j2 _ (S.gt _ _ e),S.hb⟩,⟨rfl,rfl,rfl,h4.free,λa h=>(h4.keep.used a h).1⟩,j2,j3 h1,h2.word,h2.at'.2.1,hnu,h2.at'.used h2.word,fr⟩
def W0(vb:Int):TW:=⟨vb,20,List.replicate 31 20,[],λ_=> []⟩
theorem New_c(O:JOK J)(S:HS J H0 H b x G f th)(hep:0<=x.ep/\x.ep<1152921504606846976)(hf:2<=x.sp.mem.free):
  eqtab_New.C (some ⟨b.h,0,none⟩) H (λv H'=> ∃t vb x' G' th',v=.tuple #[.int .u64 t,.int .i64 0]/\TS J H0 H' b x' G' f th' t (8*x'.ep) [] (W0 vb)/\Right [] (W0 vb)/\Rest 2 x x'/\(∀v,G v->G' v)/\G' t/\IsWord t/\t % 8=3/\th t=none/\th vb=none/\(∀u,th u≠none->th' u=th u)/\Fr [b.sp,b.m,b.s] H H'):=by
 refine HC.via λR hR=>eqtab_New.link ?_
 unfold eqtab_New.pt zY
 rw[onPtr_some]
 refine HC.mono (S.vector_c O (n:=31) (by decide) word20 (O.nil S.j) (by omega)) ?_
 rintro _ H1 ⟨vb,x1,G1,rfl,S1,r1,gg1,gvb,fvb,wvb,fr1⟩
 refine⟨_,_,rfl,?_⟩
 rw[if_pos rfl]
 refine HC.mono (fix_c (n:=0) (by decide)) ?_
 rintro _ H2 ⟨rfl,e2⟩
 refine⟨_,rfl,?_⟩
 refine HC.mono (obj_Epoch_c (S1.view.ext e2)) ?_
 rintro _ H3 ⟨rfl,rfl⟩
 have hE:epO (some (b,x1))=x.ep:=r1.ep
 rw[hE]
 refine⟨_,rfl,?_⟩
 rw[w64 (n:=x.ep) (by omega)]
 refine HC.mono (fix_c hep) ?_
 rintro _ H4 ⟨rfl,e4⟩
 refine⟨_,rfl,λc H5 hc hH5=>?_⟩
 have e5:Ext H4 H5:=Ext.push' hH5
 have S5:=S1.ext ((e2.trans e4).trans e5)
 have hblt:=S1.blt
 have z2:=e2.size
 have z4:=e4.size
 have hfr:=r1.free
 have hw4: ∀w∈[8*0,20,vb,8*x.ep],IsWord w:=λw hw=>by
  simp only[List.mem_cons,List.not_mem_nil,or_false]at hw
  rcases hw with rfl | rfl | rfl | rfl
  ·decide
  ·decide
  ·exact wvb
  ·exact isW8 hep
 refine HC.mono (obj_Make_c (kind:=11) (more:=0) (ws:=[8*0,20,vb,8*x.ep]) S5.view (rowAt_blk (push_get hc hH5) _ 0 0 (λj hj=>by
  simp only[wvs,List.map_cons,List.map_nil,List.length_cons,List.length_nil]at hj
  rcases(show j=0\/j=1\/j=2\/j=3 by omega)with rfl | rfl | rfl | rfl<;>rfl)) rfl hw4 ⟨by decide,by decide⟩ (by decide) (O.cnt S5.j) (by simp)) ?_
 rintro _ H6 ⟨rfl,V,fr6⟩
 obtain⟨t,x2,G2,h1,S6,r2,gg2,gt,ft,wt,w3,_,_,fr7⟩:=S5.made O (kind:=11) (by decide) (by simp) hw4 (λ_ w hw=>by
  simp only[List.mem_cons,List.not_mem_nil,or_false]at hw
  rcases hw with rfl | rfl | rfl | rfl
  ·exact O.fix S5.j 0
  ·exact O.nil S5.j
  ·exact gvb
  ·exact O.fix S5.j _) (by omega) V fr6
 rw[h1]
 have hne:t≠vb:=λq=>by rw[q,TF.upd_at]at ft;cases ft
 rw[TF.upd_ne th _ hne]at ft
 have rr:Rest 2 x x2:=r1.trans r2
 have he:=rr.ep
 refine⟨_,_,rfl,hR _ _ ⟨t,vb,x2,G2,_,rfl,⟨S6,?_,λ_ i hi p hp=>(by cases hp),by rw[he];exact hep,by decide⟩,λi hi p hp=>(by cases hp),rr,λv h=>gg2 v (gg1 v h),gt,wt,w3,ft,fvb,λu hu=>?_,fr1.trans (((e2.trans e4).trans e5).fr.trans fr7)⟩⟩
 ·refine⟨by rw[TF.upd_at,he];rfl,(TF.upd_ne _ _ (λq=>hne q.symm)).trans (TF.upd_at _ _ _),hne,by simp[W0],rfl,rfl,λi hi=>?_,λy hy=>by simp at hy,λi hi p hp=>(by cases hp),λy hy=>by simp at hy,λi j _ _ p hp=>(by cases hp),λi hi=>List.nodup_nil,List.nodup_nil,List.nodup_nil,⟨λ_=>0,λy hy=>by simp at hy,λp hp=>(by cases hp),λi hi p hp=>(by cases hp)⟩⟩
  show(List.replicate 31 (20:Int)).getD i 20=20
  rw[List.getD_eq_getElem?_getD,List.getElem?_replicate,if_pos hi];rfl
 ·rw[TF.upd_ne _ _ (λq=>hu (by rw[q];exact ft)),TF.upd_ne _ _ (λq=>hu (by rw[q];exact fvb))]
end
