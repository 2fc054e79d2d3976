/-
 Contracts of package eqtab: Get, Put, Count. Proves nothing of any one statement.
-/
import Derived.Test.YtiebboaeaoobmaaGreatTabE
set_option linter.unusedVariables false
set_option linter.unusedSimpArgs false
namespace Go.Proofs.YtiebboaeaoobmaaGreat
open Go

theorem signed8{n:Int}(h:0<=n/\n<1152921504606846976):signed (8*n) / 8=n:=by
 unfold signed
 split<;>omega
theorem isW8{n:Int}(h:0<=n/\n<1152921504606846976):IsWord (8*n):=by unfold IsWord;omega
section
variable {J:Sp->(Int->Prop)->Prop} {H0 H H':zV} {b:Blk} {x x':Hp} {G G':Int->Prop} {f f':PF} {th th':TF} {t ew:Int} {E E':List Ent} {W W':TW} {n:Int}
theorem HS.chn(O:JOK J)(S:HS J H0 H b x G f th){l:List (Int×Int)}{w:Int}(h:Chn f w l):IsWord w/\G w:=by
 cases l with
 | nil=>have h:w=20:=h;rw[h];exact⟨word20,O.nil S.j⟩
 | cons p l=>
  obtain⟨h1,d,h2,_⟩:=h
  rw[h1]
  exact⟨(S.pic.prs _ _ _ h2).word,S.gf _ _ h2⟩
theorem Op.grow(S:TS J H0 H b x G f th t (8*x.ep) E W)(hr:Rest n x x')(gg: ∀v,G v->G' v)(fr:Fr [b.sp,b.m,b.s] H H')(h':HS J H0 H' b x' G' f' th)(T:Tb f' th t (8*x.ep) E W)(hf: ∀u,f u≠none->f' u=f u):Op J H0 H H' b x x' G G' f f' th th t E E W W n:=by
 have he:x'.ep=x.ep:=hr.ep
 refine⟨⟨h',by rw[he];exact T,λ_=>S.right rfl,by rw[he];exact S.ep,S.few⟩,hr,gg,fr,λu _ hn=>hf u hn,λ_ _ _=>rfl,rfl,λ_ h=> .inl h,λu hn=>by rw[hf u hn];exact hn⟩
theorem Get_c(O:JOK J)(S:TS J H0 H b x G f th t ew E W)(hn:ew=8*x.ep){key:Int}(hk:IsWord key):
  eqtab_Get.C (some ⟨b.h,0,none⟩) t key H (λv H'=> ∃u ok x' f' th' W',v=.tuple #[.int .u64 u,.bool ok,.int .i64 0]/\((ok=true/\ ∃y∈E,y.k=key/\u=y.v)\/(ok=false/\u=0/\ ∀y∈E,y.k≠key))/\Op J H0 H H' b x x' G G f f' th th' t E E W W' 0):=by
 refine HC.via λR hR=>eqtab_Get.link ?_
 unfold eqtab_Get.pt
 refine HC.mono (open_c S.hs S.tb.tab rfl) ?_
 rintro _ H1 ⟨rfl,e1⟩
 refine⟨_,_,_,rfl,λc H2 hc hH2=>?_⟩
 have e2:Ext H1 H2:=Ext.push' hH2
 obtain⟨hcp,hs⟩:=box_set (vs:=[.pointer (some ⟨b.h,0,none⟩),.int .u64 t]) (push_get hc hH2) rfl rfl
 refine⟨hcp,λH3 hH3=>?_⟩
 obtain⟨g3,f3⟩:=hs H3 hH3
 have z1:=e1.size
 have e03:Ext H H3:=(e1.trans e2).fr_trans f3 (λj hj=>by simp at hj;omega)
 rw[if_pos rfl]
 refine⟨_,_,box_row g3,?_⟩
 refine HC.mono (find_c O (S.ext e03) hn hk) ?_
 rintro _ H4 ⟨e,ok,x',f',th',W',rfl,hF,P⟩
 refine⟨_,_,rfl,?_⟩
 rcases hF with⟨rfl,y,hy,hyk,rfl⟩ | ⟨rfl,rfl,hno⟩
 ·rw[if_pos rfl]
  refine HC.mono (P.ts.hs.cdr_c (P.ts.tb.ent y hy)) ?_
  rintro _ H5 ⟨rfl,e5⟩
  exact⟨_,_,rfl,hR _ _ ⟨_,_,x',f',th',W',rfl,.inl ⟨rfl,y,hy,hyk,rfl⟩,(P.pre e03).ext e5⟩⟩
 ·rw[if_neg (by decide)]
  exact hR _ _ ⟨_,_,x',f',th',W',rfl,.inr ⟨rfl,rfl,hno⟩,P.pre e03⟩
theorem Count_c(S:TS J H0 H b x G f th t ew E W):eqtab_Count.C (some ⟨b.h,0,none⟩) t H (λv H'=>v=.tuple #[.int .i64 E.length,.int .i64 0]/\Ext H H'):=by
 refine HC.via λR hR=>eqtab_Count.link ?_
 unfold eqtab_Count.pt
 refine HC.mono (open_c S.hs S.tb.tab rfl) ?_
 rintro _ H1 ⟨rfl,e1⟩
 refine⟨_,_,_,rfl,λc H2 hc hH2=>?_⟩
 have e2:Ext H1 H2:=Ext.push' hH2
 obtain⟨hcp,hs⟩:=box_set (vs:=[.pointer (some ⟨b.h,0,none⟩),.int .u64 t]) (push_get hc hH2) rfl rfl
 refine⟨hcp,λH3 hH3=>?_⟩
 obtain⟨g3,f3⟩:=hs H3 hH3
 have z1:=e1.size
 have e03:Ext H H3:=(e1.trans e2).fr_trans f3 (λj hj=>by simp at hj;omega)
 rw[if_pos rfl]
 refine⟨_,_,box_row g3,?_⟩
 refine HC.mono (tget_c (S.hs.ext e03) S.tb.tab (by decide) rfl) ?_
 rintro _ H4 ⟨rfl,e4⟩
 refine⟨_,rfl,?_⟩
 have hf:=S.few
 have hw:=isW8 (n:=E.length) (by omega)
 refine HC.mono (word_Int_c hw) ?_
 rintro _ H5 ⟨rfl,e5⟩
 rw[if_pos (by omega),signed8 (by omega)]
 exact⟨_,_,rfl,hR _ _ ⟨rfl,(e03.trans e4).trans e5⟩⟩
set_option maxRecDepth 100000 in
set_option maxHeartbeats 1000000 in
theorem Put_c(O:JOK J)(S:TS J H0 H b x G f th t ew E W)(hn:ew=8*x.ep){key value:Int}(hk:IsWord key)(hv:IsWord value)(gk:G key)(gv:G value)(hfew:E.length<100000000):
  eqtab_Put.C (some ⟨b.h,0,none⟩) t key value H (λv H'=> ∃r x' G' f' th' E' W',v=.int .i64 r/\Op J H0 H H' b x x' G G' f f' th th' t E E' W W' 3/\((∃y∈E,y.k=key)->r=0/\E'=setV E key value)/\((∀y∈E,y.k≠key)->(r=0/\ ∃e,E'=E++[⟨e,key,value⟩])\/(r=2/\E'=E/\x.sp.mem.free<3))):=by
 refine HC.via λR hR=>eqtab_Put.link ?_
 unfold eqtab_Put.pt zY
 refine HC.mono (open_c S.hs S.tb.tab rfl) ?_
 rintro _ H1 ⟨rfl,e1⟩
 refine⟨_,_,_,rfl,λc H2 hc hH2=>?_⟩
 have e2:Ext H1 H2:=Ext.push' hH2
 obtain⟨hcp,hs⟩:=box_set (vs:=[.pointer (some ⟨b.h,0,none⟩),.int .u64 t]) (push_get hc hH2) rfl rfl
 refine⟨hcp,λH3 hH3=>?_⟩
 obtain⟨g3,f3⟩:=hs H3 hH3
 have z1:=e1.size
 have e03:Ext H H3:=(e1.trans e2).fr_trans f3 (λj hj=>by simp at hj;omega)
 have hblt:=S.hs.blt
 have hcb:c ∉ [b.sp,b.m,b.s]:=λh=>by
  have:=hblt c (by simp at h;simp[Blk.all];omega)
  omega
 rw[if_pos rfl]
 refine⟨_,_,box_row g3,?_⟩
 refine HC.mono (find_c O (S.ext e03) hn hk) ?_
 rintro _ H4 ⟨e0,ok,x1,f1,th1,W1,rfl,hF,P0⟩
 have P:=P0.pre e03
 refine⟨_,_,rfl,?_⟩
 have T:=P.ts.tb
 have RR:=P.ts.right rfl
 rcases hF with⟨rfl,y,hy,hyk,rfl⟩ | ⟨rfl,rfl,hno⟩
 ·-- it is there
  rw[if_pos rfl]
  refine HC.mono (P.ts.hs.setCdr_c O (T.ent y hy) hv gv) ?_
  rintro _ H5 ⟨rfl,x2,S2,r2,f2⟩
  refine⟨_,rfl,hR _ _ ⟨0,x2,G,f1.upd y.e (y.k,value),th1,setV E y.k value,W1,rfl,?_,λ_=>⟨rfl,by rw[hyk]⟩,λh=>absurd hyk (h y hy)⟩⟩
  obtain⟨T2,R2⟩:=T.old RR hy value
  have he:x2.ep=x1.ep:=r2.ep
  refine P.trans ⟨⟨S2,by rw[he];exact T2,λ_=>R2,by rw[he];exact P.ts.ep,by unfold setV;simpa using P.ts.few⟩,r2,λ_ h=>h,f2,λu hu hnn=>PF.upd_ne f1 _ (λq=>hu (.inl ⟨y,hy,q.symm⟩)),λ_ _ _=>rfl,rfl,λu hu=> .inl ?_,λu hnn=>?_⟩
  ·rcases hu with⟨z,hz,q⟩ | h
   ·obtain⟨z',hz',q1,_⟩:=mem_setV hz
    exact .inl ⟨z',hz',q1.symm.trans q⟩
   ·exact .inr h
  ·by_cases q:u=y.e
   ·rw[q,PF.upd_at];simp
   ·rw[PF.upd_ne f1 _ q];exact hnn
 rw[if_neg (by decide)]
 have notin: ¬ ∃y∈E,y.k=key:=λ⟨y,hy,q⟩=>hno y hy q
 refine HC.mono (index_c hk) ?_
 rintro _ H6 ⟨rfl,rfl⟩
 refine⟨_,rfl,?_⟩
 have g6:=P0.fr.get hcb g3
 have full: ∀{A:zV} {x2:Hp} {G2:Int->Prop} {f2:PF},Rest 3 x1 x2->x1.sp.mem.free<3->(∀v,G v->G2 v)->Fr [b.sp,b.m,b.s] H6 A->HS J H0 A b x2 G2 f2 th1->Tb f2 th1 t (8*x1.ep) E W1->(∀u,f1 u≠none->f2 u=f1 u)->R (.int .i64 2) A:=λh1 h0 h2 h3 h4 h5 h6=>
  hR _ _ ⟨2,_,_,_,th1,E,W1,rfl,P.trans (.grow P.ts h1 h2 h3 h4 h5 h6),λh=>absurd h notin,λ_=> .inr ⟨rfl,rfl,by have:=P.rest.free;omega⟩⟩
 refine HC.mono (P.ts.hs.cons_c O hk hv gk gv) ?_
 rintro _ H7 ⟨e,er,x2,G2,rfl,r2,gg2,fr2,hcase⟩
 refine⟨_,_,rfl,?_⟩
 rcases hcase with⟨rfl,fe,we,S2⟩ | ⟨rfl,rfl,hfr,S2⟩
 case inr=>
  rw[if_neg (by decide)]
  exact full r2.le (by omega) gg2 fr2 S2 T (λ_ _=>rfl)
 rw[if_pos rfl]
 have T2:=T.grow (q:=(key,value)) fe
 refine⟨_,_,box_row (fr2.get hcb g6),?_⟩
 refine HC.mono (tget_c S2 T.tab (by decide) rfl) ?_
 rintro _ H8 ⟨rfl,e8⟩
 refine⟨_,rfl,?_⟩
 have S2':=S2.ext e8
 obtain⟨wE,gE⟩:=S2.chn O T2.spc
 have ge:G2 e:=S2.gf e _ (PF.upd_at f1 e _)
 refine HC.mono (S2'.cons_c O we.1 wE ge gE) ?_
 rintro _ H9 ⟨a,er,x3,G3,rfl,r3,gg3,fr3,hcase⟩
 refine⟨_,_,rfl,?_⟩
 have fr13:Fr [b.sp,b.m,b.s] H6 H9:=fr2.trans (e8.fr.trans fr3)
 have hne: ∀u,f1 u≠none->(f1.upd e (key,value)) u=f1 u:=λu hu=>PF.upd_ne f1 _ (λq=>hu (by rw[q];exact fe))
 rcases hcase with⟨rfl,fa,wa,S3⟩ | ⟨rfl,rfl,hfr,S3⟩
 case inr=>
  rw[if_neg (by decide)]
  exact full (r2.trans r3) (by have:=r2.free;omega) (λv h=>gg3 v (gg2 v h)) fr13 S3 T2 hne
 rw[if_pos rfl]
 have T3:=T2.grow (q:=(e,W1.ents)) fa
 have hae:a≠e:=λq=>by rw[q,PF.upd_at]at fa;cases fa
 have fa1:f1 a=none:=by rw[PF.upd_ne f1 _ hae]at fa;exact fa
 have hi:=idxK_lt key
 have g9:=fr3.get hcb (e8.get (fr2.get hcb g6))
 refine⟨_,_,box_row g9,?_⟩
 have hw:W1.ws[((idxK key:Nat):Int).toNat]?=some (W1.ws.getD (idxK key) 20):=by
  rw[show((idxK key:Nat):Int).toNat=idxK key by omega,List.getD_eq_getElem?_getD,List.getElem?_eq_getElem (by rw[T.len];exact hi)];rfl
 refine HC.mono (bucket_c S3 T.tab rfl T.vec (by omega) hw) ?_
 rintro _ H10 ⟨rfl,e10⟩
 refine⟨_,rfl,?_⟩
 obtain⟨wB,gB⟩:=S3.chn O (T3.bkc _ hi)
 refine HC.mono ((S3.ext e10).cons_c O we.1 wB (gg3 _ ge) gB) ?_
 rintro _ H11 ⟨o,er,x4,G4,rfl,r4,gg4,fr4,hcase⟩
 refine⟨_,_,rfl,?_⟩
 have fr14:Fr [b.sp,b.m,b.s] H6 H11:=fr13.trans (e10.fr.trans fr4)
 have r23:Rest 2 x1 x3:=r2.trans r3
 have r14:Rest 3 x1 x4:=r23.trans r4
 have gg14: ∀v,G v->G4 v:=λv h=>gg4 v (gg3 v (gg2 v h))
 rcases hcase with⟨rfl,fo,wo,S4⟩ | ⟨rfl,rfl,hfr,S4⟩
 case inr=>
  rw[if_neg (by decide)]
  exact full r14 (by have:=r2.free;have:=r3.free;omega) gg14 fr14 S4 T3 (λu hu=>(PF.upd_ne _ _ (λq=>hu (by rw[q];exact fa1))).trans (hne u hu))
 rw[if_pos rfl]
 have hoa:o≠a:=λq=>by rw[q,PF.upd_at]at fo;cases fo
 rw[PF.upd_ne _ _ hoa]at fo
 have hoe:o≠e:=λq=>by rw[q,PF.upd_at]at fo;cases fo
 rw[PF.upd_ne _ _ hoe]at fo
 have g11:=fr4.get hcb (e10.get g9)
 refine⟨_,_,box_row g11,?_⟩
 refine HC.mono (tget_c S4 T.tab (by decide) rfl) ?_
 rintro _ H12 ⟨rfl,e12⟩
 refine⟨_,rfl,?_⟩
 have hw8:=isW8 (n:=E.length) (by omega)
 refine HC.mono (word_Int_c hw8) ?_
 rintro _ H13 ⟨rfl,e13⟩
 rw[if_pos (by omega),signed8 (by omega)]
 have g13:=(e12.trans e13).get g11
 refine⟨_,_,rfl,_,_,box_row g13,?_⟩
 rw[w64 (n:=(E.length:Int)+1) (by omega)]
 refine HC.mono (fix_c (n:=(E.length:Int)+1) (by omega)) ?_
 rintro _ H14 ⟨rfl,e14⟩
 have g14:=e14.get g13
 refine⟨_,rfl,box_row g14,?_⟩
 have S14:=S4.ext ((e12.trans e13).trans e14)
 refine HC.mono (tset_c O S14 T.tab (by decide) (by simp) (isW8 (by omega)) (O.fix S14.j _)) ?_
 rintro _ H15 ⟨x5,S15,r5,fr5⟩
 refine⟨_,_,box_row (fr5.get hcb g14),?_⟩
 refine HC.mono (tset_c O S15 (TF.upd_at _ _ _) (by decide) (by simp) wa.1 (gg4 _ (S3.gf a _ (PF.upd_at _ _ _)))) ?_
 rintro _ H16 ⟨x6,S16,r6,fr6⟩
 rw[TF.upd_upd]at S16
 refine⟨_,_,box_row (fr6.get hcb (fr5.get hcb g14)),?_⟩
 have hvb:(th1.upd t (11,[8*((E.length:Int)+1),a,W1.vb,8*x1.ep])) W1.vb=some (1,W1.ws):=(TF.upd_ne th1 _ (λq=>T.ne q.symm)).trans T.vec
 refine HC.mono (setBucket_c O S16 (fs:=[8*((E.length:Int)+1),a,W1.vb,8*x1.ep]) (TF.upd_at _ _ _) rfl hvb (by omega) (by rw[T.len];omega) wo.1 (S4.gf o _ (PF.upd_at _ _ _))) ?_
 rintro _ H17 ⟨x7,S17,r7,fr7⟩
 rw[show((idxK key:Nat):Int).toNat=idxK key by omega]at S17
 have r15:Rest 3 x1 x5:=r14.trans r5
 have r16:Rest 3 x1 x6:=r15.trans r6
 have rr:Rest 3 x1 x7:=r16.trans r7
 have he:x7.ep=x1.ep:=rr.ep
 obtain⟨T7,R7⟩:=Tb.new (g:=((f1.upd e (key,value)).upd a (e,W1.ents)).upd o (e,W1.ws.getD (idxK key) 20)) (th':=(th1.upd t (11,[8*((E.length:Int)+1),a,W1.vb,8*x1.ep])).upd W1.vb (1,W1.ws.set (idxK key) o)) T RR hno fe fa1 fo hae hoe hoa
  (by rw[PF.upd_ne _ _ (λq=>hoe q.symm),PF.upd_ne _ _ (λq=>hae q.symm),PF.upd_at]) (by rw[PF.upd_ne _ _ (λq=>hoa q.symm),PF.upd_at]) (PF.upd_at _ _ _) (λu h1 h2 h3=>by rw[PF.upd_ne _ _ h3,PF.upd_ne _ _ h2,PF.upd_ne _ _ h1])
  (by rw[TF.upd_ne _ _ T.ne,TF.upd_at]) (TF.upd_at _ _ _)
 have fu: ∀u,f1 u≠none->(((f1.upd e (key,value)).upd a (e,W1.ents)).upd o (e,W1.ws.getD (idxK key) 20)) u=f1 u:=λu hu=>by
  rw[PF.upd_ne _ _ (λq=>hu (by rw[q];exact fo)),PF.upd_ne _ _ (λq=>hu (by rw[q];exact fa1)),PF.upd_ne _ _ (λq=>hu (by rw[q];exact fe))]
 have fr17:Fr [b.sp,b.m,b.s] H6 H17:=fr14.trans ((((e12.trans e13).trans e14).fr.trans fr5).trans (fr6.trans fr7))
 refine hR _ _ ⟨0,x7,G4,_,_,_,_,rfl,P.trans ⟨⟨S17,by rw[he];exact T7,λ_=>R7,by rw[he];exact P.ts.ep,by simp;omega⟩,rr,gg14,fr17,λu _ hnn=>fu u hnn,λu h1 h2=>?_,rfl,λu hu=>?_,λu hnn=>by rw[fu u hnn];exact hnn⟩,λh=>absurd h notin,λ_=> .inl ⟨rfl,e,rfl⟩⟩
 ·rw[TF.upd_ne _ _ h2,TF.upd_ne _ _ h1]
 ·rcases hu with⟨z,hz,q⟩ | ⟨p,hp,q⟩ | ⟨i,hi',p,hp,q⟩
  ·rcases List.mem_append.1 hz with h | h
   ·exact .inl (.inl ⟨z,h,q⟩)
   ·simp at h;rw[<-q,h];exact .inr fe
  ·rcases List.mem_cons.1 hp with rfl | h
   ·rw[<-q];exact .inr fa1
   ·exact .inl (.inr (.inl ⟨p,h,q⟩))
  ·have hp:p∈(if i=idxK key then(o,e)::W1.bs i else W1.bs i):=hp
   by_cases r:i=idxK key
   ·rw[if_pos r]at hp
    rcases List.mem_cons.1 hp with rfl | h
    ·rw[<-q];exact .inr fo
    ·exact .inl (.inr (.inr ⟨i,hi',p,h,q⟩))
   ·rw[if_neg r]at hp;exact .inl (.inr (.inr ⟨i,hi',p,hp,q⟩))
end
