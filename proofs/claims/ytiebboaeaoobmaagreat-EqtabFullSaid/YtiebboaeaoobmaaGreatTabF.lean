/-
 Contracts of package eqtab: find, Get, Put, Count. Proves nothing of any one statement.
-/
import Derived.Test.YtiebboaeaoobmaaGreatTabT
set_option linter.unusedVariables false
set_option linter.unusedSimpArgs false
namespace Go.Proofs.YtiebboaeaoobmaaGreat
open Go

def OwnW(E:List Ent)(W:TW)(u:Int):Prop:=(∃y∈E,y.e=u)\/(∃p∈W.sp,p.1=u)\/ ∃i,i<31/\ ∃p∈W.bs i,p.1=u
structure TS (J:Sp->(Int->Prop)->Prop) (H0 H:zV) (b:Blk) (x:Hp) (G:Int->Prop) (f:PF) (th:TF) (t ew:Int) (E:List Ent) (W:TW):Prop where
 hs:HS J H0 H b x G f th
 tb:Tb f th t ew E W
 right:ew=8*x.ep->jW E W
 ep:0<=x.ep/\x.ep<1152921504606846976
 few:E.length<=900000
structure Op (J:Sp->(Int->Prop)->Prop) (H0 H H':zV) (b:Blk) (x x':Hp) (G G':Int->Prop) (f f':PF) (th th':TF) (t:Int) (E E':List Ent) (W W':TW) (n:Int):Prop where
 ts:TS J H0 H' b x' G' f' th' t (8*x'.ep) E' W'
 rest:Rest n x x'
 gg: ∀v,G v->G' v
 fr:Fr [b.sp,b.m,b.s] H H'
 far: ∀u,¬OwnW E W u->f u≠none->f' u=f u
 farT: ∀u,u≠t->u≠W.vb->th' u=th u
 vb:W'.vb=W.vb
 new: ∀u,OwnW E' W' u->OwnW E W u\/f u=none
 some: ∀u,f u≠none->f' u≠none
section
variable {J:Sp->(Int->Prop)->Prop} {H0 H H':zV} {b:Blk} {x x':Hp} {G G':Int->Prop} {f f':PF} {th th':TF} {t ew:Int} {E E':List Ent} {W W':TW} {n:Int}
theorem TS.ext(S:TS J H0 H b x G f th t ew E W)(e:Ext H H'):TS J H0 H' b x G f th t ew E W:=⟨S.hs.ext e,S.tb,S.right,S.ep,S.few⟩
theorem Op.ext{A:zV}(P:Op J H0 H H' b x x' G G' f f' th th' t E E' W W' n)(e:Ext H' A):Op J H0 H A b x x' G G' f f' th th' t E E' W W' n:=⟨P.ts.ext e,P.rest,P.gg,P.fr.trans e.fr,P.far,P.farT,P.vb,P.new,P.some⟩
theorem Op.pre{A:zV}(e:Ext A H)(P:Op J H0 H H' b x x' G G' f f' th th' t E E' W W' n):Op J H0 A H' b x x' G G' f f' th th' t E E' W W' n:=⟨P.ts,P.rest,P.gg,e.fr.trans P.fr,P.far,P.farT,P.vb,P.new,P.some⟩
theorem Op.loc{A:zV}{T:List Nat}(hblt: ∀j∈b.all,j<H.size)(h0:H0.size<=H.size)(P:Op J H0 H H' b x x' G G' f f' th th' t E E' W W' n)(fr:Fr T H' A)(hT: ∀j∈T,H.size<=j):Op J H0 H A b x x' G G' f f' th th' t E E' W W' n:=by
 refine⟨⟨P.ts.hs.keep fr (λj hj=>Nat.le_trans h0 (hT j hj)) (λj hj q=>by have:=hT j hj;have:=hblt j q;omega),P.ts.tb,P.ts.right,P.ts.ep,P.ts.few⟩,P.rest,P.gg,P.fr.trans' fr (λj hj _=>hj) (λj hj hl=>by have:=hT j hj;omega),P.far,P.farT,P.vb,P.new,P.some⟩
theorem Op.stay(S:TS J H0 H b x G f th t ew E W)(hn:ew=8*x.ep)(e:Ext H H'):Op J H0 H H' b x x G G f f th th t E E W W 0:=by
 subst hn
 exact⟨S.ext e,Rest.refl x,λ_ h=>h,e.fr,λ_ _ _=>rfl,λ_ _ _=>rfl,rfl,λ_ h=> .inl h,λ_ h=>h⟩
theorem Op.trans{A:zV}{x2:Hp}{G2:Int->Prop}{f2:PF}{th2:TF}{E2:List Ent}{W2:TW}{k m:Int}(P:Op J H0 H H' b x x' G G' f f' th th' t E E' W W' n)(Q:Op J H0 H' A b x' x2 G' G2 f' f2 th' th2 t E' E2 W' W2 k)(hm:n+k<=m:=by omega):Op J H0 H A b x x2 G G2 f f2 th th2 t E E2 W W2 m:=by
 refine⟨Q.ts,P.rest.trans Q.rest hm,λv h=>Q.gg v (P.gg v h),P.fr.trans Q.fr,λu hu hn=>?_,λu h1 h2=>?_,Q.vb.trans P.vb,λu hu=>?_,λu h=>Q.some u (P.some u h)⟩
 ·have h1:=P.far u hu hn
  rw[Q.far u (λh=>?_) (by rw[h1];exact hn),h1]
  rcases P.new u h with h | h
  ·exact hu h
  ·exact hn h
 ·rw[Q.farT u h1 (by rw[P.vb];exact h2),P.farT u h1 h2]
 ·rcases Q.new u hu with h | h
  ·exact P.new u h
  ·by_cases q:f u=none
   ·exact .inr q
   ·exact absurd h (P.some u q)
def Found(E:List Ent)(key e:Int)(ok:Bool):Prop:=(ok=true/\ ∃y∈E,y.k=key/\e=y.e)\/(ok=false/\e=0/\ ∀y∈E,y.k≠key)
theorem rJ.op(S:TS J H0 H b x G f th t ew E W)(h:rJ J H0 H H' b x G f th t E W x' f' th' W'):Op J H0 H H' b x x' G G f f' th th' t E E W W' 0:=by
 have he:=h.rest.ep
 refine⟨⟨h.hs,by rw[he];exact h.tb,λ_=>h.right,by rw[he];exact S.ep,S.few⟩,h.rest,λ_ g=>g,h.fr,λu hu _=>h.far u (λp hp e=>hu ?_),h.farT,h.vb,λu hu=> .inl ?_,h.some⟩
 ·obtain⟨i,hi,hp⟩:=jj.1 hp
  exact .inr (.inr ⟨i,hi,p,hp,e⟩)
 ·rcases hu with h1 | ⟨p,hp,e⟩ | ⟨i,hi,p,hp,e⟩
  ·exact .inl h1
  ·rw[h.sp]at hp
   exact .inr (.inl ⟨p,hp,e⟩)
  ·rw[h.bs]at hp
   obtain⟨j,hj,hp⟩:=jj.1 (jr.1 hp).1
   exact .inr (.inr ⟨j,hj,p,hp,e⟩)
theorem sL(O:JOK J)(S:TS J H0 H b x G f th t ew E W):
  bW.C (some ⟨b.h,0,none⟩) t H (λ_ H'=> ∃x' f' th' W',Op J H0 H H' b x x' G G f f' th th' t E E W W' 0):=by
 by_cases hn:ew=8*x.ep
 case neg=>
  refine HC.mono (sK O S.hs S.tb hn S.ep S.few) ?_
  rintro _ H1 ⟨x',f',th',W',h⟩
  exact⟨x',f',th',W',h.op S⟩
 refine HC.via λR hR=>bW.link ?_
 unfold bW.pt zY
 intro c H1 hc hH1
 have e1:Ext H H1:=Ext.push' hH1
 have g1:=aF hc hH1
 refine⟨_,_,bA g1,_,_,bA g1,?_⟩
 refine HC.mono (ju (S.hs.ext e1) S.tb.tab (by decide) rfl) ?_
 rintro _ H2 ⟨rfl,e2⟩
 refine⟨_,rfl,bA (e2.get g1),?_⟩
 refine HC.mono (rG (S.hs.ext (e1.trans e2)) S.ep) ?_
 rintro _ H3 ⟨rfl,e3⟩
 refine⟨_,rfl,?_⟩
 rw[if_pos hn]
 exact hR _ _ ⟨x,f,th,W,.stay S hn ((e1.trans e2).trans e3)⟩
structure iw (A0:zV) (rc:LoopState->Option Code->Obj) (st:LoopState) (pe:Option Code) (lp D b1 b2 b3 b4:Nat) (c1:Obj) (c2 c3 c4:Value) (T2 T3 T4:TypeId) (A:zV):Prop where
 e:Fr [b3,b4] A0 A
 loop:A[lp]?=some (rc st pe)
 dfr:A[D]?=some (.deferred (some []))
 g1:A[b1]?=some c1
 g2:A[b2]?=some (.cells #[c2] T2 (0,0))
 g3:A[b3]?=some (.cells #[c3] T3 (0,0))
 g4:A[b4]?=some (.cells #[c4] T4 (0,0))
theorem iw.keep{A0 A A':zV}{rc:LoopState->Option Code->Obj}{st:LoopState}{pe:Option Code}{lp D b1 b2 b3 b4:Nat}{c1:Obj}{c2 c3 c4:Value}{T2 T3 T4:TypeId}{S:List Nat}(h:iw A0 rc st pe lp D b1 b2 b3 b4 c1 c2 c3 c4 T2 T3 T4 A)(f:Fr S A A')
  (hS: ∀i∈S,A0.size<=i/\i≠lp/\i≠D/\i≠b1/\i≠b2/\i≠b3/\i≠b4):iw A0 rc st pe lp D b1 b2 b3 b4 c1 c2 c3 c4 T2 T3 T4 A':=
 ⟨h.e.trans' f (λj hj _=>hj) (λi hi hl=>by have:=(hS i hi).1;omega),f.get (λhi=>(hS _ hi).2.1 rfl) h.loop,f.get (λhi=>(hS _ hi).2.2.1 rfl) h.dfr,f.get (λhi=>(hS _ hi).2.2.2.1 rfl) h.g1,f.get (λhi=>(hS _ hi).2.2.2.2.1 rfl) h.g2,f.get (λhi=>(hS _ hi).2.2.2.2.2.1 rfl) h.g3,f.get (λhi=>(hS _ hi).2.2.2.2.2.2 rfl) h.g4⟩
theorem iw.turn{A0 A A':zV}{rc:LoopState->Option Code->Obj}{st st':LoopState}{pe pe':Option Code}{lp D b1 b2 b3 b4:Nat}{c1:Obj}{c2 c3 c4:Value}{T2 T3 T4:TypeId}(h:iw A0 rc st pe lp D b1 b2 b3 b4 c1 c2 c3 c4 T2 T3 T4 A)(hA:A'=aV A lp (rc st' pe'))
  (hl:A0.size<=lp/\lp≠D/\lp≠b1/\lp≠b2/\lp≠b3/\lp≠b4):iw A0 rc st' pe' lp D b1 b2 b3 b4 c1 c2 c3 c4 T2 T3 T4 A'/\Fr [lp] A A':=by
 have f:Fr [lp] A A':=by rw[hA];exact Fr.set
 refine⟨⟨h.e.trans' f (λj hj _=>hj) (λi hi hl'=>by simp at hi;omega),by rw[hA];exact kh h.loop,f.get (by simp;omega) h.dfr,f.get (by simp;omega) h.g1,f.get (by simp;omega) h.g2,f.get (by simp;omega) h.g3,f.get (by simp;omega) h.g4⟩,f⟩
theorem iw.put3{A0 A A':zV}{rc:LoopState->Option Code->Obj}{st:LoopState}{pe:Option Code}{lp D b1 b2 b3 b4:Nat}{c1:Obj}{c2 c3 c3' c4:Value}{T2 T3 T4:TypeId}(h:iw A0 rc st pe lp D b1 b2 b3 b4 c1 c2 c3 c4 T2 T3 T4 A)(f:Fr [b3] A A')(g:A'[b3]?=some (.cells #[c3'] T3 (0,0)))
  (hl:b3≠lp/\b3≠D/\b3≠b1/\b3≠b2/\b3≠b4):iw A0 rc st pe lp D b1 b2 b3 b4 c1 c2 c3' c4 T2 T3 T4 A':=
 ⟨h.e.trans (f.mono (λi hi _=>by simp at hi;simp[hi])),f.get (by simp;omega) h.loop,f.get (by simp;omega) h.dfr,f.get (by simp;omega) h.g1,f.get (by simp;omega) h.g2,g,f.get (by simp;omega) h.g4⟩
theorem iw.put4{A0 A A':zV}{rc:LoopState->Option Code->Obj}{st:LoopState}{pe:Option Code}{lp D b1 b2 b3 b4:Nat}{c1:Obj}{c2 c3 c4 c4':Value}{T2 T3 T4:TypeId}(h:iw A0 rc st pe lp D b1 b2 b3 b4 c1 c2 c3 c4 T2 T3 T4 A)(f:Fr [b4] A A')(g:A'[b4]?=some (.cells #[c4'] T4 (0,0)))
  (hl:b4≠lp/\b4≠D/\b4≠b1/\b4≠b2/\b4≠b3):iw A0 rc st pe lp D b1 b2 b3 b4 c1 c2 c3 c4' T2 T3 T4 A':=
 ⟨h.e.trans (f.mono (λi hi _=>by simp at hi;simp[hi])),f.get (by simp;omega) h.loop,f.get (by simp;omega) h.dfr,f.get (by simp;omega) h.g1,f.get (by simp;omega) h.g2,f.get (by simp;omega) h.g3,g⟩
set_option maxRecDepth 100000 in
theorem pz(O:JOK J)(S:TS J H0 H b x G f th t ew E W){key:Int}(hk:aG key):
  cL.C (some ⟨b.h,0,none⟩) t key H (λv H'=> ∃e ok x' f' th' W',v=.tuple #[.int .u64 e,.bool ok]/\Found E key e ok/\Op J H0 H H' b x x' G G f f' th th' t E E W W' 0):=by
 refine HC.via λR hR=>cL.link ?_
 unfold cL.pt
 intro b1 H1 hb1 hH1 b2 H2 hb2 hH2 b3 H3 hb3 hH3 b4 H4 hb4 hH4
 have e1:Ext H H1:=Ext.push' hH1
 have e2:Ext H1 H2:=Ext.push' hH2
 have e3:Ext H2 H3:=Ext.push' hH3
 have e4:Ext H3 H4:=Ext.push' hH4
 have g1:=((e2.trans e3).trans e4).get (aF hb1 hH1)
 have g2:=(e3.trans e4).get (aF hb2 hH2)
 have g3:=e4.get (aF hb3 hH3)
 have g4:=aF hb4 hH4
 have s1:H1.size=H.size+1:=by rw[hH1];simp
 have s2:H2.size=H1.size+1:=by rw[hH2];simp
 have s3:H3.size=H2.size+1:=by rw[hH3];simp
 have s4:H4.size=H3.size+1:=by rw[hH4];simp
 have e04:=((e1.trans e2).trans e3).trans e4
 refine⟨_,_,bA g1,?_⟩
 have hblt:=S.hs.blt
 refine HC.mono (sL O (S.ext e04)) ?_
 rintro _ H5 ⟨x',f',th',W',P⟩
 have nb: ∀j,H.size<=j->j ∉ [b.sp,b.m,b.s]:=λj hj h=>by
  have:=hblt j (by simp at h;simp[Blk.all];omega)
  omega
 have g15:=P.fr.get (nb _ (by omega)) g1
 have g25:=P.fr.get (nb _ (by omega)) g2
 have g35:=P.fr.get (nb _ (by omega)) g3
 have g45:=P.fr.get (nb _ (by omega)) g4
 have s5:=P.fr.size
 refine⟨_,_,bA g15,_,_,bA g15,_,aK g25,?_⟩
 refine HC.mono (lW hk) ?_
 rintro _ H6 ⟨rfl,rfl⟩
 refine⟨_,rfl,bA g15,bA g15,?_⟩
 have T':=P.ts.tb
 have hi:=jH key
 have hw:W'.ws[((idxK key:Nat):Int).toNat]?=some (W'.ws.getD (idxK key) 20):=by
  rw[show((idxK key:Nat):Int).toNat=idxK key by omega,List.getD_eq_getElem?_getD,List.getElem?_eq_getElem (by rw[T'.len];exact hi)];rfl
 refine HC.mono (j4 P.ts.hs T'.tab rfl T'.vec (by omega) hw) ?_
 rintro _ H7 ⟨rfl,e7⟩
 refine⟨_,rfl,bA (e7.get g15),?_⟩
 refine HC.mono lX ?_
 rintro v H8 ⟨p,q,rfl,gp,gq,hpq,hp,hq,e8⟩
 refine⟨rfl,?_⟩
 intro rc lp H9 hlp hH9 vY hY
 have s7:=e7.size
 have s8:=e8.size
 have hq8:=aY gq
 have hp8:=aY gp
 have hl9:H9[lp]?=some (rc .ready none):=aF (by simp;omega) hH9
 have e89:Ext (H8.push (.deferred (some []))) H9:=Ext.push' hH9
 have hd9:H9[H8.size]?=some (.deferred (some [])):=e89.get (aF rfl rfl)
 have e9:Ext H8 H9:=(Ext.push H8 _).trans e89
 have s9:H9.size=H8.size+2:=by rw[hH9];simp
 have e59:Ext H6 H9:=(e7.trans e8).trans e9
 have hch:=T'.bkc _ hi
 have h20:=P.ts.hs.pic.no20
 have hnb: ∀p'∈W'.bs (idxK key),∃y∈E,y.e=p'.2:=T'.bke _ hi
 have P':=P.pre e04
 have h0s:H0.size<=H.size:=S.hs.e.size
 have loc: ∀{A:zV},Fr [b3,b4] H6 A->Op J H0 H A b x x' G G f f' th th' t E E W W' 0:=λfr=>P'.loc hblt h0s fr (λj hj=>by simp at hj;omega)
 have I0:iw H6 rc .ready none lp H8.size b1 b2 b3 b4 (.cells #[.pointer (some ⟨b.h,0,none⟩),.int .u64 t] 72 (0,0)) (.int .u64 key) (.int .u64 0) (.bool false) 31 31 4 H9:=⟨e59.fr,hl9,hd9,e59.get g15,e59.get g25,e59.get g35,e59.get g45⟩
 have z5:H4.size<=H6.size:=s5
 have hlt:H6.size<=lp/\lp≠H8.size/\lp≠b1/\lp≠b2/\lp≠b3/\lp≠b4:=by omega
 have fin: ∀(A:zV) (e:Int) (ok:Bool),Fr [b3,b4] H6 A->Found E key e ok->A[H8.size]?=some (.deferred (some []))->A[b3]?=some (.cells #[.int .u64 e] 31 (0,0))->A[b4]?=some (.cells #[.bool ok] 4 (0,0))->
   Shut (H8.size::[]) A (λH19=> ∃r:Int,hat H19 (Addr.mk b3 0 none)=some (.int .u64 r)/\ ∃r_2:Bool,hat H19 (Addr.mk b4 0 none)=some (.bool r_2)/\R (.tuple #[.int .u64 r,.bool r_2]) H19):=λA e ok eA hF hd h3 h4=>by
  have fD:Fr [H8.size] A (A.setIfInBounds H8.size (.deferred none)):=Fr.set
  refine k6 hd ⟨e,aK (fD.get (by simp;omega) h3),ok,aK (fD.get (by simp;omega) h4),?_⟩
  exact hR _ _ ⟨e,ok,x',f',th',W',rfl,hF,loc (eA.trans' fD (λj hj _=>hj) (λj hj hl=>by simp at hj;omega))⟩
 refine FE.of2 (enters_of Tryz.func92 (by kernel_rfl) rfl) rfl (HC.mono (jq (J:=J) (H0:=H0) (b:=b) (x:=x') (G:=G) (f:=f') (th:=th')
  (R0:=λA=>((∀p'∈W'.bs (idxK key),∀y∈E,y.e=p'.2->y.k≠key)/\iw H6 rc .ready none lp H8.size b1 b2 b3 b4 (.cells #[.pointer (some ⟨b.h,0,none⟩),.int .u64 t] 72 (0,0)) (.int .u64 key) (.int .u64 0) (.bool false) 31 31 4 A)\/
   (∃y∈E,y.k=key/\iw H6 rc (.done) (some .ret) lp H8.size b1 b2 b3 b4 (.cells #[.pointer (some ⟨b.h,0,none⟩),.int .u64 t] 72 (0,0)) (.int .u64 key) (.int .u64 y.e) (.bool true) 31 31 4 A))
  (λk A=>(∀p'∈(W'.bs (idxK key)).take k,∀y∈E,y.e=p'.2->y.k≠key)/\iw H6 rc .ready none lp H8.size b1 b2 b3 b4 (.cells #[.pointer (some ⟨b.h,0,none⟩),.int .u64 t] 72 (0,0)) (.int .u64 key) (.int .u64 0) (.bool false) 31 31 4 A)
  h20 hch (e9.get gp) (e9.get gq) hpq ⟨λp' hp'=>by simp at hp',I0⟩ (λk A h=>(loc h.2.e).ts.hs) ?_ ?_ ?_) (λv A h=>?_))
 ·rintro k A A' ⟨h1,h2⟩ fr
  exact⟨h1,h2.keep fr (λi hi=>by simp at hi;omega)⟩
 ·rintro k hkl A ⟨hno,hI⟩
  refine hY _ A _ hI.loop ⟨hI.loop,λH11 hH11=>?_⟩
  obtain⟨I11,f11⟩:=hI.turn hH11 hlt
  have hmem:=List.getElem_mem hkl
  have htk:(W'.bs (idxK key)).take (k+1)=(W'.bs (idxK key)).take k++[(W'.bs (idxK key))[k]]:=List.take_succ_eq_append_getElem hkl
  obtain⟨y,hy,hye⟩:=hnb _ hmem
  obtain⟨d,hfd⟩:=hch.some _ hmem
  generalize (W'.bs (idxK key))[k]=pk at*
  have hfe:=T'.ent y hy
  rw[hye]at hfe
  refine⟨_,_,bA I11.g1,?_⟩
  refine HC.mono (tl (loc I11.e).ts.hs hfd hfe) ?_
  rintro _ H12 ⟨rfl,e12⟩
  have I12:=I11.keep (S:=[]) e12.fr (by simp)
  refine⟨_,_,rfl,_,aK I12.g2,?_⟩
  have zA:=aY hI.loop
  have z11:=f11.size
  have z12:=e12.size
  by_cases hyk:y.k=key
  ·rw[if_pos hyk]
   obtain⟨hcp,hs⟩:=eF (vs:=[.int .u64 pk.2]) I12.g3 rfl rfl
   refine⟨hcp,λH13 hH13=>?_⟩
   obtain⟨g13,f13⟩:=hs H13 hH13
   have I13:=I12.put3 f13 g13 (by omega)
   obtain⟨hcp4,hs4⟩:=eF (vs:=[.bool true]) I13.g4 rfl rfl
   refine⟨hcp4,λH14 hH14=>?_⟩
   obtain⟨g14,f14⟩:=hs4 H14 hH14
   have I14:=I13.put4 f14 g14 (by omega)
   obtain⟨I15,f15⟩:=I14.turn (st':=.done) (pe':=some .ret) rfl hlt
   refine⟨I14.loop,false,rfl,λh=>by(cases h),λ_=> .inr ⟨y,hy,hyk,?_⟩⟩
   rw[hye];exact I15
  ·rw[if_neg hyk]
   obtain⟨I15,f15⟩:=I12.turn (st':=.ready) (pe':=none) rfl hlt
   refine⟨I12.loop,true,rfl,λ_=>⟨⟨λp' hp' z hz hze=>?_,I15⟩,?_,?_⟩,λh=>by(cases h)⟩
   ·rw[htk]at hp'
    rcases List.mem_append.1 hp' with h | h
    ·exact hno p' h z hz hze
    ·simp at h
     subst h
     have:=T'.one hz hy (hze.trans hye.symm)
     subst this
     exact hyk
   ·rw[f15.2 p (by omega) (by simp;omega),(e12.fr (S:=[])).2 p (by omega) (by simp),f11.2 p (by omega) (by simp;omega)]
   ·rw[f15.2 q (by omega) (by simp;omega),(e12.fr (S:=[])).2 q (by omega) (by simp),f11.2 q (by omega) (by simp;omega)]
 ·rintro A ⟨hno,hI⟩
  rw[List.take_length]at hno
  exact .inl ⟨hno,hI⟩
 ·rcases h.2 with⟨hno,hI⟩ | ⟨y,hy,hyk,hI⟩
  ·left
   refine⟨hI.loop,λH16 hH16=>?_⟩
   obtain⟨I16,f16⟩:=hI.turn hH16 hlt
   obtain⟨hcp,hs⟩:=eF (vs:=[.int .u64 0]) I16.g3 rfl rfl
   refine⟨hcp,λH17 hH17=>?_⟩
   obtain⟨g17,f17⟩:=hs H17 hH17
   have I17:=I16.put3 f17 g17 (by omega)
   obtain⟨hcp4,hs4⟩:=eF (vs:=[.bool false]) I17.g4 rfl rfl
   refine⟨hcp4,λH18 hH18=>?_⟩
   obtain⟨g18,f18⟩:=hs4 H18 hH18
   have I18:=I17.put4 f18 g18 (by omega)
   refine fin H18 0 false I18.e (.inr ⟨rfl,rfl,λy hy hyk=>?_⟩) I18.dfr I18.g3 I18.g4
   obtain⟨j,hj,p',hp',he⟩:=T'.bkx y hy
   have hj':=P.ts.right rfl j hj p' hp' y hy he.symm
   rw[hyk]at hj'
   subst hj'
   exact hno p' hp' y hy he.symm hyk
  ·right
   refine⟨hI.loop,λH16 hH16=>?_⟩
   obtain⟨I16,f16⟩:=hI.turn hH16 hlt
   exact fin H16 y.e true I16.e (.inl ⟨rfl,y,hy,hyk,rfl⟩) I16.dfr I16.g3 I16.g4
end

theorem n5{n:Int}(h:0<=n/\n<1152921504606846976):signed (8*n) / 8=n:=by
 unfold signed
 split<;>omega
theorem isW8{n:Int}(h:0<=n/\n<1152921504606846976):aG (8*n):=by unfold aG;omega
section
variable {J:Sp->(Int->Prop)->Prop} {H0 H H':zV} {b:Blk} {x x':Hp} {G G':Int->Prop} {f f':PF} {th th':TF} {t ew:Int} {E E':List Ent} {W W':TW} {n:Int}
theorem HS.chn(O:JOK J)(S:HS J H0 H b x G f th){l:List (Int×Int)}{w:Int}(h:Chn f w l):aG w/\G w:=by
 cases l with
 | nil=>have h:w=20:=h;rw[h];exact⟨iN,O.nil S.j⟩
 | cons p l=>
  obtain⟨h1,d,h2,_⟩:=h
  rw[h1]
  exact⟨(S.pic.prs _ _ _ h2).word,S.gf _ _ h2⟩
theorem Op.grow(S:TS J H0 H b x G f th t (8*x.ep) E W)(hr:Rest n x x')(gg: ∀v,G v->G' v)(fr:Fr [b.sp,b.m,b.s] H H')(h':HS J H0 H' b x' G' f' th)(T:Tb f' th t (8*x.ep) E W)(hf: ∀u,f u≠none->f' u=f u):Op J H0 H H' b x x' G G' f f' th th t E E W W n:=by
 have he:x'.ep=x.ep:=hr.ep
 refine⟨⟨h',by rw[he];exact T,λ_=>S.right rfl,by rw[he];exact S.ep,S.few⟩,hr,gg,fr,λu _ hn=>hf u hn,λ_ _ _=>rfl,rfl,λ_ h=> .inl h,λu hn=>by rw[hf u hn];exact hn⟩
theorem tR(O:JOK J)(S:TS J H0 H b x G f th t ew E W){key:Int}(hk:aG key):
  gU.C (some ⟨b.h,0,none⟩) t key H (λv H'=> ∃u ok x' f' th' W',v=.tuple #[.int .u64 u,.bool ok,.int .i64 0]/\((ok=true/\ ∃y∈E,y.k=key/\u=y.v)\/(ok=false/\u=0/\ ∀y∈E,y.k≠key))/\Op J H0 H H' b x x' G G f f' th th' t E E W W' 0):=by
 refine HC.via λR hR=>gU.link ?_
 unfold gU.pt
 refine HC.mono (mB S.hs S.tb.tab rfl) ?_
 rintro _ H1 ⟨rfl,e1⟩
 refine⟨_,_,_,rfl,λc H2 hc hH2=>?_⟩
 have e2:Ext H1 H2:=Ext.push' hH2
 obtain⟨hcp,hs⟩:=eF (vs:=[.pointer (some ⟨b.h,0,none⟩),.int .u64 t]) (aF hc hH2) rfl rfl
 refine⟨hcp,λH3 hH3=>?_⟩
 obtain⟨g3,f3⟩:=hs H3 hH3
 have z1:=e1.size
 have e03:Ext H H3:=(e1.trans e2).fr_trans f3 (λj hj=>by simp at hj;omega)
 rw[if_pos rfl]
 refine⟨_,_,bA g3,?_⟩
 refine HC.mono (pz O (S.ext e03) hk) ?_
 rintro _ H4 ⟨e,ok,x',f',th',W',rfl,hF,P⟩
 refine⟨_,_,rfl,?_⟩
 rcases hF with⟨rfl,y,hy,hyk,rfl⟩ | ⟨rfl,rfl,hno⟩
 ·rw[if_pos rfl]
  refine HC.mono (P.ts.hs.cdr_c (P.ts.tb.ent y hy)) ?_
  rintro _ H5 ⟨rfl,e5⟩
  exact⟨_,_,rfl,hR _ _ ⟨_,_,x',f',th',W',rfl,.inl ⟨rfl,y,hy,hyk,rfl⟩,(P.pre e03).ext e5⟩⟩
 ·rw[if_neg (by decide)]
  exact hR _ _ ⟨_,_,x',f',th',W',rfl,.inr ⟨rfl,rfl,hno⟩,P.pre e03⟩
theorem sM(S:TS J H0 H b x G f th t ew E W):fQ.C (some ⟨b.h,0,none⟩) t H (λv H'=>v=.tuple #[.int .i64 E.length,.int .i64 0]/\Ext H H'):=by
 refine HC.via λR hR=>fQ.link ?_
 unfold fQ.pt
 refine HC.mono (mB S.hs S.tb.tab rfl) ?_
 rintro _ H1 ⟨rfl,e1⟩
 refine⟨_,_,_,rfl,λc H2 hc hH2=>?_⟩
 have e2:Ext H1 H2:=Ext.push' hH2
 obtain⟨hcp,hs⟩:=eF (vs:=[.pointer (some ⟨b.h,0,none⟩),.int .u64 t]) (aF hc hH2) rfl rfl
 refine⟨hcp,λH3 hH3=>?_⟩
 obtain⟨g3,f3⟩:=hs H3 hH3
 have z1:=e1.size
 have e03:Ext H H3:=(e1.trans e2).fr_trans f3 (λj hj=>by simp at hj;omega)
 rw[if_pos rfl]
 refine⟨_,_,bA g3,?_⟩
 refine HC.mono (ju (S.hs.ext e03) S.tb.tab (by decide) rfl) ?_
 rintro _ H4 ⟨rfl,e4⟩
 refine⟨_,rfl,?_⟩
 have hf:=S.few
 have hw:=isW8 (n:=E.length) (by omega)
 refine HC.mono (kD hw) ?_
 rintro _ H5 ⟨rfl,e5⟩
 rw[if_pos (by omega),n5 (by omega)]
 exact⟨_,_,rfl,hR _ _ ⟨rfl,(e03.trans e4).trans e5⟩⟩
set_option maxRecDepth 100000 in
set_option maxHeartbeats 1000000 in
theorem tn(O:JOK J)(S:TS J H0 H b x G f th t ew E W){key value:Int}(hk:aG key)(hv:aG value)(gk:G key)(gv:G value)(hfew:E.length<900000):
  gK.C (some ⟨b.h,0,none⟩) t key value H (λv H'=> ∃r x' G' f' th' E' W',v=.int .i64 r/\Op J H0 H H' b x x' G G' f f' th th' t E E' W W' 3/\((∃y∈E,y.k=key)->r=0/\E'=setV E key value)/\((∀y∈E,y.k≠key)->(r=0/\ ∃e,E'=E++[⟨e,key,value⟩]/\ ¬Full x.sp)\/(r=2/\E'=E/\x.sp.mem.free<3))):=by
 refine HC.via λR hR=>gK.link ?_
 unfold gK.pt zY
 refine HC.mono (mB S.hs S.tb.tab rfl) ?_
 rintro _ H1 ⟨rfl,e1⟩
 refine⟨_,_,_,rfl,λc H2 hc hH2=>?_⟩
 have e2:Ext H1 H2:=Ext.push' hH2
 obtain⟨hcp,hs⟩:=eF (vs:=[.pointer (some ⟨b.h,0,none⟩),.int .u64 t]) (aF hc hH2) rfl rfl
 refine⟨hcp,λH3 hH3=>?_⟩
 obtain⟨g3,f3⟩:=hs H3 hH3
 have z1:=e1.size
 have e03:Ext H H3:=(e1.trans e2).fr_trans f3 (λj hj=>by simp at hj;omega)
 have hblt:=S.hs.blt
 have hcb:c ∉ [b.sp,b.m,b.s]:=λh=>by
  have:=hblt c (by simp at h;simp[Blk.all];omega)
  omega
 rw[if_pos rfl]
 refine⟨_,_,bA g3,?_⟩
 refine HC.mono (pz O (S.ext e03) hk) ?_
 rintro _ H4 ⟨e0,ok,x1,f1,th1,W1,rfl,hF,P0⟩
 have P:=P0.pre e03
 refine⟨_,_,rfl,?_⟩
 have T:=P.ts.tb
 have RR:=P.ts.right rfl
 rcases hF with⟨rfl,y,hy,hyk,rfl⟩ | ⟨rfl,rfl,hno⟩
 ·-- it is there
  rw[if_pos rfl]
  refine HC.mono (P.ts.hs.setCdr_c O (T.ent y hy) hv gv) ?_
  rintro _ H5 ⟨rfl,x2,S2,r2,f2⟩
  refine⟨_,rfl,hR _ _ ⟨0,x2,G,f1.upd y.e (y.k,value),th1,setV E y.k value,W1,rfl,?_,λ_=>⟨rfl,by rw[hyk]⟩,λh=>absurd hyk (h y hy)⟩⟩
  obtain⟨T2,R2⟩:=T.old RR hy value
  have he:x2.ep=x1.ep:=r2.ep
  refine P.trans ⟨⟨S2,by rw[he];exact T2,λ_=>R2,by rw[he];exact P.ts.ep,by unfold setV;simpa using P.ts.few⟩,r2,λ_ h=>h,f2,λu hu hnn=>PF.upd_ne f1 _ (λq=>hu (.inl ⟨y,hy,q.symm⟩)),λ_ _ _=>rfl,rfl,λu hu=> .inl ?_,λu hnn=>?_⟩
  ·rcases hu with⟨z,hz,q⟩ | h
   ·obtain⟨z',hz',q1,_⟩:=jX hz
    exact .inl ⟨z',hz',q1.symm.trans q⟩
   ·exact .inr h
  ·by_cases q:u=y.e
   ·rw[q,PF.upd_at];simp
   ·rw[PF.upd_ne f1 _ q];exact hnn
 rw[if_neg (by decide)]
 have notin: ¬ ∃y∈E,y.k=key:=λ⟨y,hy,q⟩=>hno y hy q
 refine HC.mono (lW hk) ?_
 rintro _ H6 ⟨rfl,rfl⟩
 refine⟨_,rfl,?_⟩
 have g6:=P0.fr.get hcb g3
 have full: ∀{A:zV} {x2:Hp} {G2:Int->Prop} {f2:PF},Rest 3 x1 x2->x1.sp.mem.free<3->(∀v,G v->G2 v)->Fr [b.sp,b.m,b.s] H6 A->HS J H0 A b x2 G2 f2 th1->Tb f2 th1 t (8*x1.ep) E W1->(∀u,f1 u≠none->f2 u=f1 u)->R (.int .i64 2) A:=λh1 h0 h2 h3 h4 h5 h6=>
  hR _ _ ⟨2,_,_,_,th1,E,W1,rfl,P.trans (.grow P.ts h1 h2 h3 h4 h5 h6),λh=>absurd h notin,λ_=> .inr ⟨rfl,rfl,by have:=P.rest.free;omega⟩⟩
 refine HC.mono (P.ts.hs.cons_c O hk hv gk gv) ?_
 rintro _ H7 ⟨e,er,x2,G2,rfl,r2,gg2,fr2,hcase⟩
 refine⟨_,_,rfl,?_⟩
 rcases hcase with⟨rfl,fe,we,S2⟩ | ⟨rfl,rfl,⟨hfr,-⟩,S2⟩
 case inr=>
  rw[if_neg (by decide)]
  exact full r2.le (by omega) gg2 fr2 S2 T (λ_ _=>rfl)
 rw[if_pos rfl]
 have T2:=T.grow (q:=(key,value)) fe
 refine⟨_,_,bA (fr2.get hcb g6),?_⟩
 refine HC.mono (ju S2 T.tab (by decide) rfl) ?_
 rintro _ H8 ⟨rfl,e8⟩
 refine⟨_,rfl,?_⟩
 have S2':=S2.ext e8
 obtain⟨wE,gE⟩:=S2.chn O T2.spc
 have ge:G2 e:=S2.gf e _ (PF.upd_at f1 e _)
 refine HC.mono (S2'.cons_c O we.1 wE ge gE) ?_
 rintro _ H9 ⟨a,er,x3,G3,rfl,r3,gg3,fr3,hcase⟩
 refine⟨_,_,rfl,?_⟩
 have fr13:Fr [b.sp,b.m,b.s] H6 H9:=fr2.trans (e8.fr.trans fr3)
 have hne: ∀u,f1 u≠none->(f1.upd e (key,value)) u=f1 u:=λu hu=>PF.upd_ne f1 _ (λq=>hu (by rw[q];exact fe))
 rcases hcase with⟨rfl,fa,wa,S3⟩ | ⟨rfl,rfl,⟨hfr,-⟩,S3⟩
 case inr=>
  rw[if_neg (by decide)]
  exact full (r2.trans r3) (by have:=r2.free;omega) (λv h=>gg3 v (gg2 v h)) fr13 S3 T2 hne
 rw[if_pos rfl]
 have T3:=T2.grow (q:=(e,W1.ents)) fa
 have hae:a≠e:=λq=>by rw[q,PF.upd_at]at fa;cases fa
 have fa1:f1 a=none:=by rw[PF.upd_ne f1 _ hae]at fa;exact fa
 have hi:=jH key
 have g9:=fr3.get hcb (e8.get (fr2.get hcb g6))
 refine⟨_,_,bA g9,?_⟩
 have hw:W1.ws[((idxK key:Nat):Int).toNat]?=some (W1.ws.getD (idxK key) 20):=by
  rw[show((idxK key:Nat):Int).toNat=idxK key by omega,List.getD_eq_getElem?_getD,List.getElem?_eq_getElem (by rw[T.len];exact hi)];rfl
 refine HC.mono (j4 S3 T.tab rfl T.vec (by omega) hw) ?_
 rintro _ H10 ⟨rfl,e10⟩
 refine⟨_,rfl,?_⟩
 obtain⟨wB,gB⟩:=S3.chn O (T3.bkc _ hi)
 refine HC.mono ((S3.ext e10).cons_c O we.1 wB (gg3 _ ge) gB) ?_
 rintro _ H11 ⟨o,er,x4,G4,rfl,r4,gg4,fr4,hcase⟩
 refine⟨_,_,rfl,?_⟩
 have fr14:Fr [b.sp,b.m,b.s] H6 H11:=fr13.trans (e10.fr.trans fr4)
 have r23:Rest 2 x1 x3:=r2.trans r3
 have r14:Rest 3 x1 x4:=r23.trans r4
 have gg14: ∀v,G v->G4 v:=λv h=>gg4 v (gg3 v (gg2 v h))
 rcases hcase with⟨rfl,fo,wo,S4⟩ | ⟨rfl,rfl,⟨hfr,-⟩,S4⟩
 case inr=>
  rw[if_neg (by decide)]
  exact full r14 (by have:=r2.free;have:=r3.free;omega) gg14 fr14 S4 T3 (λu hu=>(PF.upd_ne _ _ (λq=>hu (by rw[q];exact fa1))).trans (hne u hu))
 rw[if_pos rfl]
 have hoa:o≠a:=λq=>by rw[q,PF.upd_at]at fo;cases fo
 rw[PF.upd_ne _ _ hoa]at fo
 have hoe:o≠e:=λq=>by rw[q,PF.upd_at]at fo;cases fo
 rw[PF.upd_ne _ _ hoe]at fo
 have g11:=fr4.get hcb (e10.get g9)
 refine⟨_,_,bA g11,?_⟩
 refine HC.mono (ju S4 T.tab (by decide) rfl) ?_
 rintro _ H12 ⟨rfl,e12⟩
 refine⟨_,rfl,?_⟩
 have hw8:=isW8 (n:=E.length) (by omega)
 refine HC.mono (kD hw8) ?_
 rintro _ H13 ⟨rfl,e13⟩
 rw[if_pos (by omega),n5 (by omega)]
 have g13:=(e12.trans e13).get g11
 refine⟨_,_,rfl,_,_,bA g13,?_⟩
 rw[w64 (n:=(E.length:Int)+1) (by omega)]
 refine HC.mono (oM (n:=(E.length:Int)+1) (by omega)) ?_
 rintro _ H14 ⟨rfl,e14⟩
 have g14:=e14.get g13
 refine⟨_,rfl,bA g14,?_⟩
 have S14:=S4.ext ((e12.trans e13).trans e14)
 refine HC.mono (mC O S14 T.tab (by decide) (by simp) (isW8 (by omega)) (O.fix S14.j _)) ?_
 rintro _ H15 ⟨x5,S15,r5,fr5⟩
 refine⟨_,_,bA (fr5.get hcb g14),?_⟩
 refine HC.mono (mC O S15 (TF.upd_at _ _ _) (by decide) (by simp) wa.1 (gg4 _ (S3.gf a _ (PF.upd_at _ _ _)))) ?_
 rintro _ H16 ⟨x6,S16,r6,fr6⟩
 rw[TF.upd_upd]at S16
 refine⟨_,_,bA (fr6.get hcb (fr5.get hcb g14)),?_⟩
 have hvb:(th1.upd t (11,[8*((E.length:Int)+1),a,W1.vb,8*x1.ep])) W1.vb=some (1,W1.ws):=(TF.upd_ne th1 _ (λq=>T.ne q.symm)).trans T.vec
 refine HC.mono (jp O S16 (fs:=[8*((E.length:Int)+1),a,W1.vb,8*x1.ep]) (TF.upd_at _ _ _) rfl hvb (by omega) (by rw[T.len];omega) wo.1 (S4.gf o _ (PF.upd_at _ _ _))) ?_
 rintro _ H17 ⟨x7,S17,r7,fr7⟩
 rw[show((idxK key:Nat):Int).toNat=idxK key by omega]at S17
 have r15:Rest 3 x1 x5:=r14.trans r5
 have r16:Rest 3 x1 x6:=r15.trans r6
 have rr:Rest 3 x1 x7:=r16.trans r7
 have he:x7.ep=x1.ep:=rr.ep
 obtain⟨T7,R7⟩:=Tb.new (g:=((f1.upd e (key,value)).upd a (e,W1.ents)).upd o (e,W1.ws.getD (idxK key) 20)) (th':=(th1.upd t (11,[8*((E.length:Int)+1),a,W1.vb,8*x1.ep])).upd W1.vb (1,W1.ws.set (idxK key) o)) T RR hno fe fa1 fo hae hoe hoa
  (by rw[PF.upd_ne _ _ (λq=>hoe q.symm),PF.upd_ne _ _ (λq=>hae q.symm),PF.upd_at]) (by rw[PF.upd_ne _ _ (λq=>hoa q.symm),PF.upd_at]) (PF.upd_at _ _ _) (λu h1 h2 h3=>by rw[PF.upd_ne _ _ h3,PF.upd_ne _ _ h2,PF.upd_ne _ _ h1])
  (by rw[TF.upd_ne _ _ T.ne,TF.upd_at]) (TF.upd_at _ _ _)
 have fu: ∀u,f1 u≠none->(((f1.upd e (key,value)).upd a (e,W1.ents)).upd o (e,W1.ws.getD (idxK key) 20)) u=f1 u:=λu hu=>by
  rw[PF.upd_ne _ _ (λq=>hu (by rw[q];exact fo)),PF.upd_ne _ _ (λq=>hu (by rw[q];exact fa1)),PF.upd_ne _ _ (λq=>hu (by rw[q];exact fe))]
 have fr17:Fr [b.sp,b.m,b.s] H6 H17:=fr14.trans ((((e12.trans e13).trans e14).fr.trans fr5).trans (fr6.trans fr7))
 refine hR _ _ ⟨0,x7,G4,_,_,_,_,rfl,P.trans ⟨⟨S17,by rw[he];exact T7,λ_=>R7,by rw[he];exact P.ts.ep,by simp;omega⟩,rr,gg14,fr17,λu _ hnn=>fu u hnn,λu h1 h2=>?_,rfl,λu hu=>?_,λu hnn=>by rw[fu u hnn];exact hnn⟩,λh=>absurd h notin,λ_=> .inl ⟨rfl,e,rfl,λq=>we.2.2 (P.rest.full q)⟩⟩
 ·rw[TF.upd_ne _ _ h2,TF.upd_ne _ _ h1]
 ·rcases hu with⟨z,hz,q⟩ | ⟨p,hp,q⟩ | ⟨i,hi',p,hp,q⟩
  ·rcases List.mem_append.1 hz with h | h
   ·exact .inl (.inl ⟨z,h,q⟩)
   ·simp at h;rw[<-q,h];exact .inr fe
  ·rcases List.mem_cons.1 hp with rfl | h
   ·rw[<-q];exact .inr fa1
   ·exact .inl (.inr (.inl ⟨p,h,q⟩))
  ·have hp:p∈(if i=idxK key then(o,e)::W1.bs i else W1.bs i):=hp
   by_cases r:i=idxK key
   ·rw[if_pos r]at hp
    rcases List.mem_cons.1 hp with rfl | h
    ·rw[<-q];exact .inr fo
    ·exact .inl (.inr (.inr ⟨i,hi',p,h,q⟩))
   ·rw[if_neg r]at hp;exact .inl (.inr (.inr ⟨i,hi',p,hp,q⟩))
end
