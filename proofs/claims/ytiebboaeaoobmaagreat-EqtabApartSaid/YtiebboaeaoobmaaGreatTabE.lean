/-
 Contracts of package eqtab: find, Get, Put, Count. Proves nothing of any one statement.
-/
import Derived.Test.YtiebboaeaoobmaaGreatTabD
set_option linter.unusedVariables false
set_option linter.unusedSimpArgs false
namespace Go.Proofs.YtiebboaeaoobmaaGreat
open Go

def OwnW(E:List Ent)(W:TW)(u:Int):Prop:=(∃y∈E,y.e=u)\/(∃p∈W.sp,p.1=u)\/ ∃i,i<31/\ ∃p∈W.bs i,p.1=u
structure TS (J:Sp->(Int->Prop)->Prop) (H0 H:zV) (b:Blk) (x:Hp) (G:Int->Prop) (f:PF) (th:TF) (t ew:Int) (E:List Ent) (W:TW):Prop where
 hs:HS J H0 H b x G f th
 tb:Tb f th t ew E W
 right:ew=8*x.ep->Right E W
 ep:0<=x.ep/\x.ep<1152921504606846976
 few:E.length<=100000000
structure Op (J:Sp->(Int->Prop)->Prop) (H0 H H':zV) (b:Blk) (x x':Hp) (G G':Int->Prop) (f f':PF) (th th':TF) (t:Int) (E E':List Ent) (W W':TW) (n:Int):Prop where
 ts:TS J H0 H' b x' G' f' th' t (8*x'.ep) E' W'
 rest:Rest n x x'
 gg: ∀v,G v->G' v
 fr:Fr [b.sp,b.m,b.s] H H'
 far: ∀u,¬OwnW E W u->f u≠none->f' u=f u
 farT: ∀u,u≠t->u≠W.vb->th' u=th u
 vb:W'.vb=W.vb
 new: ∀u,OwnW E' W' u->OwnW E W u\/f u=none
 some: ∀u,f u≠none->f' u≠none
section
variable {J:Sp->(Int->Prop)->Prop} {H0 H H':zV} {b:Blk} {x x':Hp} {G G':Int->Prop} {f f':PF} {th th':TF} {t ew:Int} {E E':List Ent} {W W':TW} {n:Int}
theorem TS.ext(S:TS J H0 H b x G f th t ew E W)(e:Ext H H'):TS J H0 H' b x G f th t ew E W:=⟨S.hs.ext e,S.tb,S.right,S.ep,S.few⟩
theorem Op.ext{A:zV}(P:Op J H0 H H' b x x' G G' f f' th th' t E E' W W' n)(e:Ext H' A):Op J H0 H A b x x' G G' f f' th th' t E E' W W' n:=⟨P.ts.ext e,P.rest,P.gg,P.fr.trans e.fr,P.far,P.farT,P.vb,P.new,P.some⟩
theorem Op.pre{A:zV}(e:Ext A H)(P:Op J H0 H H' b x x' G G' f f' th th' t E E' W W' n):Op J H0 A H' b x x' G G' f f' th th' t E E' W W' n:=⟨P.ts,P.rest,P.gg,e.fr.trans P.fr,P.far,P.farT,P.vb,P.new,P.some⟩
theorem Op.loc{A:zV}{T:List Nat}(hblt: ∀j∈b.all,j<H.size)(h0:H0.size<=H.size)(P:Op J H0 H H' b x x' G G' f f' th th' t E E' W W' n)(fr:Fr T H' A)(hT: ∀j∈T,H.size<=j):Op J H0 H A b x x' G G' f f' th th' t E E' W W' n:=by
 refine⟨⟨P.ts.hs.keep fr (λj hj=>Nat.le_trans h0 (hT j hj)) (λj hj q=>by have:=hT j hj;have:=hblt j q;omega),P.ts.tb,P.ts.right,P.ts.ep,P.ts.few⟩,P.rest,P.gg,P.fr.trans' fr (λj hj _=>hj) (λj hj hl=>by have:=hT j hj;omega),P.far,P.farT,P.vb,P.new,P.some⟩
theorem Op.stay(S:TS J H0 H b x G f th t ew E W)(hn:ew=8*x.ep)(e:Ext H H'):Op J H0 H H' b x x G G f f th th t E E W W 0:=by
 subst hn
 exact⟨S.ext e,Rest.refl x,λ_ h=>h,e.fr,λ_ _ _=>rfl,λ_ _ _=>rfl,rfl,λ_ h=> .inl h,λ_ h=>h⟩
theorem Op.trans{A:zV}{x2:Hp}{G2:Int->Prop}{f2:PF}{th2:TF}{E2:List Ent}{W2:TW}{k m:Int}(P:Op J H0 H H' b x x' G G' f f' th th' t E E' W W' n)(Q:Op J H0 H' A b x' x2 G' G2 f' f2 th' th2 t E' E2 W' W2 k)(hm:n+k<=m:=by omega):Op J H0 H A b x x2 G G2 f f2 th th2 t E E2 W W2 m:=by
 refine⟨Q.ts,P.rest.trans Q.rest hm,λv h=>Q.gg v (P.gg v h),P.fr.trans Q.fr,λu hu hn=>?_,λu h1 h2=>?_,Q.vb.trans P.vb,λu hu=>?_,λu h=>Q.some u (P.some u h)⟩
 ·have h1:=P.far u hu hn
  rw[Q.far u (λh=>?_) (by rw[h1];exact hn),h1]
  rcases P.new u h with h | h
  ·exact hu h
  ·exact hn h
 ·rw[Q.farT u h1 (by rw[P.vb];exact h2),P.farT u h1 h2]
 ·rcases Q.new u hu with h | h
  ·exact P.new u h
  ·by_cases q:f u=none
   ·exact .inr q
   ·exact absurd h (P.some u q)
def Found(E:List Ent)(key e:Int)(ok:Bool):Prop:=(ok=true/\ ∃y∈E,y.k=key/\e=y.e)\/(ok=false/\e=0/\ ∀y∈E,y.k≠key)
theorem fresh_c(O:JOK J)(S:TS J H0 H b x G f th t ew E W)(hn:ew=8*x.ep):
  eqtab_table_fresh.C (some ⟨b.h,0,none⟩) t H (λ_ H'=> ∃x' f' th' W',Op J H0 H H' b x x' G G f f' th th' t E E W W' 0):=by
 refine HC.via λR hR=>eqtab_table_fresh.link ?_
 unfold eqtab_table_fresh.pt zY
 intro c H1 hc hH1
 have e1:Ext H H1:=Ext.push' hH1
 have g1:=push_get hc hH1
 refine⟨_,_,box_row g1,_,_,box_row g1,?_⟩
 refine HC.mono (tget_c (S.hs.ext e1) S.tb.tab (by decide) rfl) ?_
 rintro _ H2 ⟨rfl,e2⟩
 refine⟨_,rfl,box_row (e2.get g1),?_⟩
 refine HC.mono (now_c (S.hs.ext (e1.trans e2)) S.ep) ?_
 rintro _ H3 ⟨rfl,e3⟩
 refine⟨_,rfl,?_⟩
 rw[if_pos hn]
 exact hR _ _ ⟨x,f,th,W,.stay S hn ((e1.trans e2).trans e3)⟩
structure FindI (A0:zV) (rc:LoopState->Option Code->Obj) (st:LoopState) (pe:Option Code) (lp D b1 b2 b3 b4:Nat) (c1:Obj) (c2 c3 c4:Value) (T2 T3 T4:TypeId) (A:zV):Prop where
 e:Fr [b3,b4] A0 A
 loop:A[lp]?=some (rc st pe)
 dfr:A[D]?=some (.deferred (some []))
 g1:A[b1]?=some c1
 g2:A[b2]?=some (.cells #[c2] T2 (0,0))
 g3:A[b3]?=some (.cells #[c3] T3 (0,0))
 g4:A[b4]?=some (.cells #[c4] T4 (0,0))
theorem FindI.keep{A0 A A':zV}{rc:LoopState->Option Code->Obj}{st:LoopState}{pe:Option Code}{lp D b1 b2 b3 b4:Nat}{c1:Obj}{c2 c3 c4:Value}{T2 T3 T4:TypeId}{S:List Nat}(h:FindI A0 rc st pe lp D b1 b2 b3 b4 c1 c2 c3 c4 T2 T3 T4 A)(f:Fr S A A')
  (hS: ∀i∈S,A0.size<=i/\i≠lp/\i≠D/\i≠b1/\i≠b2/\i≠b3/\i≠b4):FindI A0 rc st pe lp D b1 b2 b3 b4 c1 c2 c3 c4 T2 T3 T4 A':=
 ⟨h.e.trans' f (λj hj _=>hj) (λi hi hl=>by have:=(hS i hi).1;omega),f.get (λhi=>(hS _ hi).2.1 rfl) h.loop,f.get (λhi=>(hS _ hi).2.2.1 rfl) h.dfr,f.get (λhi=>(hS _ hi).2.2.2.1 rfl) h.g1,f.get (λhi=>(hS _ hi).2.2.2.2.1 rfl) h.g2,f.get (λhi=>(hS _ hi).2.2.2.2.2.1 rfl) h.g3,f.get (λhi=>(hS _ hi).2.2.2.2.2.2 rfl) h.g4⟩
theorem FindI.turn{A0 A A':zV}{rc:LoopState->Option Code->Obj}{st st':LoopState}{pe pe':Option Code}{lp D b1 b2 b3 b4:Nat}{c1:Obj}{c2 c3 c4:Value}{T2 T3 T4:TypeId}(h:FindI A0 rc st pe lp D b1 b2 b3 b4 c1 c2 c3 c4 T2 T3 T4 A)(hA:A'=setBlk A lp (rc st' pe'))
  (hl:A0.size<=lp/\lp≠D/\lp≠b1/\lp≠b2/\lp≠b3/\lp≠b4):FindI A0 rc st' pe' lp D b1 b2 b3 b4 c1 c2 c3 c4 T2 T3 T4 A'/\Fr [lp] A A':=by
 have f:Fr [lp] A A':=by rw[hA];exact Fr.set
 refine⟨⟨h.e.trans' f (λj hj _=>hj) (λi hi hl'=>by simp at hi;omega),by rw[hA];exact setBlk_at h.loop,f.get (by simp;omega) h.dfr,f.get (by simp;omega) h.g1,f.get (by simp;omega) h.g2,f.get (by simp;omega) h.g3,f.get (by simp;omega) h.g4⟩,f⟩
theorem FindI.put3{A0 A A':zV}{rc:LoopState->Option Code->Obj}{st:LoopState}{pe:Option Code}{lp D b1 b2 b3 b4:Nat}{c1:Obj}{c2 c3 c3' c4:Value}{T2 T3 T4:TypeId}(h:FindI A0 rc st pe lp D b1 b2 b3 b4 c1 c2 c3 c4 T2 T3 T4 A)(f:Fr [b3] A A')(g:A'[b3]?=some (.cells #[c3'] T3 (0,0)))
  (hl:b3≠lp/\b3≠D/\b3≠b1/\b3≠b2/\b3≠b4):FindI A0 rc st pe lp D b1 b2 b3 b4 c1 c2 c3' c4 T2 T3 T4 A':=
 ⟨h.e.trans (f.mono (λi hi _=>by simp at hi;simp[hi])),f.get (by simp;omega) h.loop,f.get (by simp;omega) h.dfr,f.get (by simp;omega) h.g1,f.get (by simp;omega) h.g2,g,f.get (by simp;omega) h.g4⟩
theorem FindI.put4{A0 A A':zV}{rc:LoopState->Option Code->Obj}{st:LoopState}{pe:Option Code}{lp D b1 b2 b3 b4:Nat}{c1:Obj}{c2 c3 c4 c4':Value}{T2 T3 T4:TypeId}(h:FindI A0 rc st pe lp D b1 b2 b3 b4 c1 c2 c3 c4 T2 T3 T4 A)(f:Fr [b4] A A')(g:A'[b4]?=some (.cells #[c4'] T4 (0,0)))
  (hl:b4≠lp/\b4≠D/\b4≠b1/\b4≠b2/\b4≠b3):FindI A0 rc st pe lp D b1 b2 b3 b4 c1 c2 c3 c4' T2 T3 T4 A':=
 ⟨h.e.trans (f.mono (λi hi _=>by simp at hi;simp[hi])),f.get (by simp;omega) h.loop,f.get (by simp;omega) h.dfr,f.get (by simp;omega) h.g1,f.get (by simp;omega) h.g2,f.get (by simp;omega) h.g3,g⟩
theorem shut_one{D:Nat}{A:zV}{K:zV->Prop}(hd:A[D]?=some (.deferred (some [])))(hk:K (A.setIfInBounds D (.deferred none))):Shut (D::[]) A K:=⟨hd,hk⟩
set_option maxRecDepth 100000 in
theorem find_c(O:JOK J)(S:TS J H0 H b x G f th t ew E W)(hn:ew=8*x.ep){key:Int}(hk:IsWord key):
  eqtab_table_find.C (some ⟨b.h,0,none⟩) t key H (λv H'=> ∃e ok x' f' th' W',v=.tuple #[.int .u64 e,.bool ok]/\Found E key e ok/\Op J H0 H H' b x x' G G f f' th th' t E E W W' 0):=by
 refine HC.via λR hR=>eqtab_table_find.link ?_
 unfold eqtab_table_find.pt
 intro b1 H1 hb1 hH1 b2 H2 hb2 hH2 b3 H3 hb3 hH3 b4 H4 hb4 hH4
 have e1:Ext H H1:=Ext.push' hH1
 have e2:Ext H1 H2:=Ext.push' hH2
 have e3:Ext H2 H3:=Ext.push' hH3
 have e4:Ext H3 H4:=Ext.push' hH4
 have g1:=((e2.trans e3).trans e4).get (push_get hb1 hH1)
 have g2:=(e3.trans e4).get (push_get hb2 hH2)
 have g3:=e4.get (push_get hb3 hH3)
 have g4:=push_get hb4 hH4
 have s1:H1.size=H.size+1:=by rw[hH1];simp
 have s2:H2.size=H1.size+1:=by rw[hH2];simp
 have s3:H3.size=H2.size+1:=by rw[hH3];simp
 have s4:H4.size=H3.size+1:=by rw[hH4];simp
 have e04:=((e1.trans e2).trans e3).trans e4
 refine⟨_,_,box_row g1,?_⟩
 have hblt:=S.hs.blt
 refine HC.mono (fresh_c O (S.ext e04) hn) ?_
 rintro _ H5 ⟨x',f',th',W',P⟩
 have nb: ∀j,H.size<=j->j ∉ [b.sp,b.m,b.s]:=λj hj h=>by
  have:=hblt j (by simp at h;simp[Blk.all];omega)
  omega
 have g15:=P.fr.get (nb _ (by omega)) g1
 have g25:=P.fr.get (nb _ (by omega)) g2
 have g35:=P.fr.get (nb _ (by omega)) g3
 have g45:=P.fr.get (nb _ (by omega)) g4
 have s5:=P.fr.size
 refine⟨_,_,box_row g15,_,_,box_row g15,_,hat_blk g25,?_⟩
 refine HC.mono (index_c hk) ?_
 rintro _ H6 ⟨rfl,rfl⟩
 refine⟨_,rfl,box_row g15,box_row g15,?_⟩
 have T':=P.ts.tb
 have hi:=idxK_lt key
 have hw:W'.ws[((idxK key:Nat):Int).toNat]?=some (W'.ws.getD (idxK key) 20):=by
  rw[show((idxK key:Nat):Int).toNat=idxK key by omega,List.getD_eq_getElem?_getD,List.getElem?_eq_getElem (by rw[T'.len];exact hi)];rfl
 refine HC.mono (bucket_c P.ts.hs T'.tab rfl T'.vec (by omega) hw) ?_
 rintro _ H7 ⟨rfl,e7⟩
 refine⟨_,rfl,box_row (e7.get g15),?_⟩
 refine HC.mono pairs_c ?_
 rintro v H8 ⟨p,q,rfl,gp,gq,hpq,hp,hq,e8⟩
 refine⟨rfl,?_⟩
 intro rc lp H9 hlp hH9 vY hY
 have s7:=e7.size
 have s8:=e8.size
 have hq8:=lt_size gq
 have hp8:=lt_size gp
 have hl9:H9[lp]?=some (rc .ready none):=push_get (by simp;omega) hH9
 have e89:Ext (H8.push (.deferred (some []))) H9:=Ext.push' hH9
 have hd9:H9[H8.size]?=some (.deferred (some [])):=e89.get (push_get rfl rfl)
 have e9:Ext H8 H9:=(Ext.push H8 _).trans e89
 have s9:H9.size=H8.size+2:=by rw[hH9];simp
 have e59:Ext H6 H9:=(e7.trans e8).trans e9
 have hch:=T'.bkc _ hi
 have h20:=P.ts.hs.pic.no20
 have hnb: ∀p'∈W'.bs (idxK key),∃y∈E,y.e=p'.2:=T'.bke _ hi
 have P':=P.pre e04
 have h0s:H0.size<=H.size:=S.hs.e.size
 have loc: ∀{A:zV},Fr [b3,b4] H6 A->Op J H0 H A b x x' G G f f' th th' t E E W W' 0:=λfr=>P'.loc hblt h0s fr (λj hj=>by simp at hj;omega)
 have I0:FindI H6 rc .ready none lp H8.size b1 b2 b3 b4 (.cells #[.pointer (some ⟨b.h,0,none⟩),.int .u64 t] 72 (0,0)) (.int .u64 key) (.int .u64 0) (.bool false) 31 31 4 H9:=⟨e59.fr,hl9,hd9,e59.get g15,e59.get g25,e59.get g35,e59.get g45⟩
 have z5:H4.size<=H6.size:=s5
 have hlt:H6.size<=lp/\lp≠H8.size/\lp≠b1/\lp≠b2/\lp≠b3/\lp≠b4:=by omega
 have fin: ∀(A:zV) (e:Int) (ok:Bool),Fr [b3,b4] H6 A->Found E key e ok->A[H8.size]?=some (.deferred (some []))->A[b3]?=some (.cells #[.int .u64 e] 31 (0,0))->A[b4]?=some (.cells #[.bool ok] 4 (0,0))->
   Shut (H8.size::[]) A (λH19=> ∃r:Int,hat H19 (Addr.mk b3 0 none)=some (.int .u64 r)/\ ∃r_2:Bool,hat H19 (Addr.mk b4 0 none)=some (.bool r_2)/\R (.tuple #[.int .u64 r,.bool r_2]) H19):=λA e ok eA hF hd h3 h4=>by
  have fD:Fr [H8.size] A (A.setIfInBounds H8.size (.deferred none)):=Fr.set
  refine shut_one hd ⟨e,hat_blk (fD.get (by simp;omega) h3),ok,hat_blk (fD.get (by simp;omega) h4),?_⟩
  exact hR _ _ ⟨e,ok,x',f',th',W',rfl,hF,loc (eA.trans' fD (λj hj _=>hj) (λj hj hl=>by simp at hj;omega))⟩
 refine FE.of2 (enters_of Tryz.func92 (by kernel_rfl) rfl) rfl (HC.mono (tpairs_loop (J:=J) (H0:=H0) (b:=b) (x:=x') (G:=G) (f:=f') (th:=th')
  (R0:=λA=>((∀p'∈W'.bs (idxK key),∀y∈E,y.e=p'.2->y.k≠key)/\FindI H6 rc .ready none lp H8.size b1 b2 b3 b4 (.cells #[.pointer (some ⟨b.h,0,none⟩),.int .u64 t] 72 (0,0)) (.int .u64 key) (.int .u64 0) (.bool false) 31 31 4 A)\/
   (∃y∈E,y.k=key/\FindI H6 rc (.done) (some .ret) lp H8.size b1 b2 b3 b4 (.cells #[.pointer (some ⟨b.h,0,none⟩),.int .u64 t] 72 (0,0)) (.int .u64 key) (.int .u64 y.e) (.bool true) 31 31 4 A))
  (λk A=>(∀p'∈(W'.bs (idxK key)).take k,∀y∈E,y.e=p'.2->y.k≠key)/\FindI H6 rc .ready none lp H8.size b1 b2 b3 b4 (.cells #[.pointer (some ⟨b.h,0,none⟩),.int .u64 t] 72 (0,0)) (.int .u64 key) (.int .u64 0) (.bool false) 31 31 4 A)
  h20 hch (e9.get gp) (e9.get gq) hpq ⟨λp' hp'=>by simp at hp',I0⟩ (λk A h=>(loc h.2.e).ts.hs) ?_ ?_ ?_) (λv A h=>?_))
 ·rintro k A A' ⟨h1,h2⟩ fr
  exact⟨h1,h2.keep fr (λi hi=>by simp at hi;omega)⟩
 ·rintro k hkl A ⟨hno,hI⟩
  refine hY _ A _ hI.loop ⟨hI.loop,λH11 hH11=>?_⟩
  obtain⟨I11,f11⟩:=hI.turn hH11 hlt
  have hmem:=List.getElem_mem hkl
  have htk:(W'.bs (idxK key)).take (k+1)=(W'.bs (idxK key)).take k++[(W'.bs (idxK key))[k]]:=List.take_succ_eq_append_getElem hkl
  obtain⟨y,hy,hye⟩:=hnb _ hmem
  obtain⟨d,hfd⟩:=hch.some _ hmem
  generalize (W'.bs (idxK key))[k]=pk at*
  have hfe:=T'.ent y hy
  rw[hye]at hfe
  refine⟨_,_,box_row I11.g1,?_⟩
  refine HC.mono (key_c (loc I11.e).ts.hs hfd hfe) ?_
  rintro _ H12 ⟨rfl,e12⟩
  have I12:=I11.keep (S:=[]) e12.fr (by simp)
  refine⟨_,_,rfl,_,hat_blk I12.g2,?_⟩
  have zA:=lt_size hI.loop
  have z11:=f11.size
  have z12:=e12.size
  by_cases hyk:y.k=key
  ·rw[if_pos hyk]
   obtain⟨hcp,hs⟩:=box_set (vs:=[.int .u64 pk.2]) I12.g3 rfl rfl
   refine⟨hcp,λH13 hH13=>?_⟩
   obtain⟨g13,f13⟩:=hs H13 hH13
   have I13:=I12.put3 f13 g13 (by omega)
   obtain⟨hcp4,hs4⟩:=box_set (vs:=[.bool true]) I13.g4 rfl rfl
   refine⟨hcp4,λH14 hH14=>?_⟩
   obtain⟨g14,f14⟩:=hs4 H14 hH14
   have I14:=I13.put4 f14 g14 (by omega)
   obtain⟨I15,f15⟩:=I14.turn (st':=.done) (pe':=some .ret) rfl hlt
   refine⟨I14.loop,false,rfl,λh=>by(cases h),λ_=> .inr ⟨y,hy,hyk,?_⟩⟩
   rw[hye];exact I15
  ·rw[if_neg hyk]
   obtain⟨I15,f15⟩:=I12.turn (st':=.ready) (pe':=none) rfl hlt
   refine⟨I12.loop,true,rfl,λ_=>⟨⟨λp' hp' z hz hze=>?_,I15⟩,?_,?_⟩,λh=>by(cases h)⟩
   ·rw[htk]at hp'
    rcases List.mem_append.1 hp' with h | h
    ·exact hno p' h z hz hze
    ·simp at h
     subst h
     have:=T'.one hz hy (hze.trans hye.symm)
     subst this
     exact hyk
   ·rw[f15.2 p (by omega) (by simp;omega),(e12.fr (S:=[])).2 p (by omega) (by simp),f11.2 p (by omega) (by simp;omega)]
   ·rw[f15.2 q (by omega) (by simp;omega),(e12.fr (S:=[])).2 q (by omega) (by simp),f11.2 q (by omega) (by simp;omega)]
 ·rintro A ⟨hno,hI⟩
  rw[List.take_length]at hno
  exact .inl ⟨hno,hI⟩
 ·rcases h.2 with⟨hno,hI⟩ | ⟨y,hy,hyk,hI⟩
  ·left
   refine⟨hI.loop,λH16 hH16=>?_⟩
   obtain⟨I16,f16⟩:=hI.turn hH16 hlt
   obtain⟨hcp,hs⟩:=box_set (vs:=[.int .u64 0]) I16.g3 rfl rfl
   refine⟨hcp,λH17 hH17=>?_⟩
   obtain⟨g17,f17⟩:=hs H17 hH17
   have I17:=I16.put3 f17 g17 (by omega)
   obtain⟨hcp4,hs4⟩:=box_set (vs:=[.bool false]) I17.g4 rfl rfl
   refine⟨hcp4,λH18 hH18=>?_⟩
   obtain⟨g18,f18⟩:=hs4 H18 hH18
   have I18:=I17.put4 f18 g18 (by omega)
   refine fin H18 0 false I18.e (.inr ⟨rfl,rfl,λy hy hyk=>?_⟩) I18.dfr I18.g3 I18.g4
   obtain⟨j,hj,p',hp',he⟩:=T'.bkx y hy
   have hj':=P.ts.right rfl j hj p' hp' y hy he.symm
   rw[hyk]at hj'
   subst hj'
   exact hno p' hp' y hy he.symm hyk
  ·right
   refine⟨hI.loop,λH16 hH16=>?_⟩
   obtain⟨I16,f16⟩:=hI.turn hH16 hlt
   exact fin H16 y.e true I16.e (.inl ⟨rfl,y,hy,hyk,rfl⟩) I16.dfr I16.g3 I16.g4
end
