/-
 Contracts of package eqtab: Delete; and the document's Delete. Proves nothing of any one statement.
-/
import Derived.Test.YtiebboaeaoobmaaGreatTabN
import Derived.Test.YtiebboaeaoobmaaGreatTabI
set_option linter.unusedVariables false
set_option linter.unusedSimpArgs false
namespace Go.Proofs.YtiebboaeaoobmaaGreat
open Go

section
variable {J:Sp->(Int->Prop)->Prop} {H0 H H':zV} {b:Blk} {x x':Hp} {G G':Int->Prop} {f f':PF} {th th':TF} {t ew:Int} {E E':List Ent} {W W':TW} {n:Int}
set_option maxRecDepth 100000 in
set_option maxHeartbeats 1000000 in
theorem Delete_c(O:JOK J)(S:TS J H0 H b x G f th t ew E W)(hn:ew=8*x.ep){key:Int}(hk:IsWord key):
  eqtab_Delete.C (some ⟨b.h,0,none⟩) t key H (λv H'=> ∃ok x' f' th' E' W',v=.tuple #[.bool ok,.int .i64 0]/\Op J H0 H H' b x x' G G f f' th th' t E E' W W' 0/\((ok=true/\(∃y∈E,y.k=key)/\E'=delK E key)\/(ok=false/\E'=E/\ ∀y∈E,y.k≠key))):=by
 refine HC.via λR hR=>eqtab_Delete.link ?_
 unfold eqtab_Delete.pt zY
 refine HC.mono (open_c S.hs S.tb.tab rfl) ?_
 rintro _ H1 ⟨rfl,e1⟩
 refine⟨_,_,_,rfl,λc H2 hc hH2=>?_⟩
 have e2:Ext H1 H2:=Ext.push' hH2
 obtain⟨hcp,hs⟩:=box_set (vs:=[.pointer (some ⟨b.h,0,none⟩),.int .u64 t]) (push_get hc hH2) rfl rfl
 refine⟨hcp,λH3 hH3=>?_⟩
 obtain⟨g3,f3⟩:=hs H3 hH3
 have z1:=e1.size
 have e03:Ext H H3:=(e1.trans e2).fr_trans f3 (λj hj=>by simp at hj;omega)
 have hblt:=S.hs.blt
 have hcb:c ∉ [b.sp,b.m,b.s]:=λh=>by
  have:=hblt c (by simp at h;simp[Blk.all];omega)
  omega
 rw[if_pos rfl]
 refine⟨_,_,box_row g3,?_⟩
 refine HC.mono (find_c O (S.ext e03) hn hk) ?_
 rintro _ H4 ⟨e0,ok,x1,f1,th1,W1,rfl,hF,P0⟩
 have P:=P0.pre e03
 refine⟨_,_,rfl,?_⟩
 rcases hF with⟨rfl,y,hy,hyk,rfl⟩ | ⟨rfl,rfl,hno⟩
 case inr=>
  rw[if_neg (by decide)]
  exact hR _ _ ⟨false,x1,f1,th1,E,W1,rfl,P,.inr ⟨rfl,rfl,hno⟩⟩
 rw[if_pos rfl]
 subst hyk
 have T:=P.ts.tb
 have RR:=P.ts.right rfl
 have hi:=idxK_lt y.k
 refine HC.mono (index_c hk) ?_
 rintro _ H5 ⟨rfl,rfl⟩
 have g5:=P0.fr.get hcb g3
 refine⟨_,rfl,_,_,box_row g5,_,_,box_row g5,?_⟩
 have hw:W1.ws[((idxK y.k:Nat):Int).toNat]?=some (W1.ws.getD (idxK y.k) 20):=by
  rw[show((idxK y.k:Nat):Int).toNat=idxK y.k by omega,List.getD_eq_getElem?_getD,List.getElem?_eq_getElem (by rw[T.len];exact hi)];rfl
 refine HC.mono (bucket_c P.ts.hs T.tab rfl T.vec (by omega) hw) ?_
 rintro _ H6 ⟨rfl,e6⟩
 refine⟨_,rfl,box_row (e6.get g5),?_⟩
 obtain⟨o,A,B,hAB⟩: ∃o A B,W1.bs (idxK y.k)=A++(o,y.e)::B:=by
  obtain⟨i,hi',p,hp,hpe⟩:=T.bkx y hy
  obtain rfl:idxK y.k=i:=RR i hi' p hp y hy hpe.symm
  obtain⟨A,B,hAB⟩:=List.append_of_mem hp
  exact⟨p.1,A,B,by rw[hAB,<-hpe]⟩
 have hinB: ∀p,p∈A++(o,y.e)::B->p∈W1.bs (idxK y.k):=λp hp=>by rw[hAB];exact hp
 have hoi:(o,y.e)∈W1.bs (idxK y.k):=hinB _ (by simp)
 have hAi: ∀p∈A,p∈W1.bs (idxK y.k):=λp hp=>hinB _ (by simp[hp])
 have hBi: ∀p∈B,p∈W1.bs (idxK y.k):=λp hp=>hinB _ (by simp[hp])
 have hA: ∀p∈A,p.2≠y.e:=λp hp e=>by
  have h1:=(T.bk1 _ _ hi hi p (hAi p hp) _ hoi e).2
  have h2:=T.bkn _ hi
  rw[hAB,List.nodup_append]at h2
  exact h2.2.2 p hp (o,y.e) (by simp) h1
 have hch:=T.bkc _ hi
 rw[hAB]at hch
 refine HC.mono (without_c O (P.ts.hs.ext e6) hch hA) ?_
 rintro _ H7 ⟨r1,x2,f2,rfl,S2,q2,fr2,g2⟩
 have g7:=fr2.get hcb (e6.get g5)
 refine⟨_,rfl,_,_,box_row g7,?_⟩
 obtain⟨w1,gr1⟩:=S2.chn O g2.chn
 refine HC.mono (setBucket_c O S2 T.tab rfl T.vec (by omega) (by rw[T.len];omega) w1 gr1) ?_
 rintro _ H8 ⟨x3,S3,q3,fr3⟩
 rw[show((idxK y.k:Nat):Int).toNat=idxK y.k by omega]at S3
 have g8:=fr3.get hcb g7
 have htab:(th1.upd W1.vb (1,W1.ws.set (idxK y.k) r1)) t=some (11,[8*(E.length:Int),W1.ents,W1.vb,8*x1.ep]):=(TF.upd_ne th1 _ T.ne).trans T.tab
 refine⟨_,_,box_row g8,_,_,box_row g8,?_⟩
 refine HC.mono (tget_c S3 htab (by decide) rfl) ?_
 rintro _ H9 ⟨rfl,e9⟩
 refine⟨_,rfl,box_row (e9.get g8),?_⟩
 obtain⟨ρ,r1',r2',r3'⟩:=T.rol
 have ro:=r3' _ hi _ hoi
 have rA: ∀p∈A,ρ p.1=idxK y.k+2:=λp hp=>r3' _ hi p (hAi p hp)
 have rB: ∀p∈B,ρ p.1=idxK y.k+2:=λp hp=>r3' _ hi p (hBi p hp)
 have far2: ∀u,ρ u≠idxK y.k+2->f2 u=f1 u:=λu hu=>g2.far u (λe=>hu (by rw[e];exact ro)) (λp hp e=>hu (by rw[<-e];exact rA p hp))
 obtain⟨a,A2,B2,hAB2⟩: ∃a A B,W1.sp=A++(a,y.e)::B:=by
  have h1:y.e∈W1.sp.map Prod.snd:=by rw[T.spe,List.mem_reverse];exact List.mem_map_of_mem hy
  obtain⟨p,hp,hpe⟩:=List.mem_map.1 h1
  obtain⟨A,B,h⟩:=List.append_of_mem hp
  exact⟨p.1,A,B,by rw[h,<-hpe]⟩
 have hinS: ∀p,p∈A2++(a,y.e)::B2->p∈W1.sp:=λp hp=>by rw[hAB2];exact hp
 have hai:=r2' _ (hinS (a,y.e) (by simp))
 have rA2: ∀p∈A2,ρ p.1=1:=λp hp=>r2' p (hinS p (by simp[hp]))
 have rB2: ∀p∈B2,ρ p.1=1:=λp hp=>r2' p (hinS p (by simp[hp]))
 have hA2: ∀p∈A2,p.2≠y.e:=λp hp e=>by
  have h1:(W1.sp.map Prod.snd).Nodup:=by
   have h2:=T.en
   rw[T.spe]
   unfold List.Nodup at h2⊢
   rw[List.pairwise_reverse]
   exact h2.imp (λh=>h.symm)
  rw[hAB2,List.map_append,List.nodup_append]at h1
  exact h1.2.2 p.2 (List.mem_map_of_mem hp) y.e (by simp) e
 have hchS:Chn f2 W1.ents (A2++(a,y.e)::B2):=by
  rw[<-hAB2]
  exact T.spc.cong (λp hp=>far2 _ (by rw[r2' p hp];omega))
 refine HC.mono (without_c O (S3.ext e9) hchS hA2) ?_
 rintro _ H10 ⟨r2,x4,f3',rfl,S4,q4,fr4,g3'⟩
 have g10:=fr4.get hcb (e9.get g8)
 have far3: ∀u,ρ u≠1->f3' u=f2 u:=λu hu=>g3'.far u (λe=>hu (by rw[e];exact hai)) (λp hp e=>hu (by rw[<-e];exact rA2 p hp))
 refine⟨_,rfl,_,_,box_row g10,?_⟩
 obtain⟨w2,gr2⟩:=S4.chn O g3'.chn
 refine HC.mono (tset_c O S4 htab (by decide) (by simp) w2 gr2) ?_
 rintro _ H11 ⟨x5,S5,q5,fr5⟩
 have g11:=fr5.get hcb g10
 refine⟨_,_,box_row g11,?_⟩
 have hye:f3' y.e=some (y.k,y.v):=by rw[far3 _ (by rw[r1' y hy];omega),far2 _ (by rw[r1' y hy];omega)];exact T.ent y hy
 refine HC.mono (clear_c O S5 hye) ?_
 rintro _ H12 ⟨x6,S6,q6,fr6⟩
 have g12:=fr6.get hcb g11
 refine⟨_,_,box_row g12,?_⟩
 refine HC.mono (tget_c S6 (TF.upd_at _ _ _) (by decide) rfl) ?_
 rintro _ H13 ⟨rfl,e13⟩
 refine⟨_,rfl,?_⟩
 have hf:=P.ts.few
 have hpos:0<E.length:=List.length_pos_of_mem hy
 have hw8:=isW8 (n:=E.length) (by omega)
 refine HC.mono (word_Int_c hw8) ?_
 rintro _ H14 ⟨rfl,e14⟩
 rw[if_pos (by omega),signed8 (by omega)]
 have g14:=(e13.trans e14).get g12
 refine⟨_,_,rfl,_,_,box_row g14,?_⟩
 rw[w64 (n:=(E.length:Int)-1) (by omega)]
 refine HC.mono (fix_c (n:=(E.length:Int)-1) (by omega)) ?_
 rintro _ H15 ⟨rfl,e15⟩
 refine⟨_,rfl,box_row (e15.get g14),?_⟩
 have S15:=S6.ext ((e13.trans e14).trans e15)
 refine HC.mono (tset_c O S15 (TF.upd_at _ _ _) (by decide) (by simp) (isW8 (by omega)) (O.fix S15.j _)) ?_
 rintro _ H16 ⟨x7,S7,q7,fr7⟩
 rw[TF.upd_upd]at S7
 have rr:Rest 0 x1 x7:=((((((q2.trans q3:Rest 0 x1 x3).trans q4:Rest 0 x1 x4).trans q5:Rest 0 x1 x5).trans q6:Rest 0 x1 x6).trans q7))
 have he:x7.ep=x1.ep:=rr.ep
 have F1:Fr [b.sp,b.m,b.s] H5 H8:=(e6.fr.trans fr2).trans fr3
 have F2:Fr [b.sp,b.m,b.s] H5 H12:=((F1.trans (e9.fr.trans fr4)).trans fr5).trans fr6
 have F:Fr [b.sp,b.m,b.s] H5 H16:=F2.trans (((e13.trans e14).trans e15).fr.trans fr7)
 have hg: ∀u,ρ u≠0->ρ u≠1->ρ u≠idxK y.k+2->(f3'.upd y.e (20,20)) u=f1 u:=λu h0 h1 h2=>by
  rw[PF.upd_ne _ _ (λe=>h0 (by rw[e];exact r1' y hy)),far3 u h1,far2 u h2]
 have hye0:=r1' y hy
 obtain⟨T7,R7⟩:=Tb.del (g:=f3'.upd y.e (20,20)) (th':=(th1.upd W1.vb (1,W1.ws.set (idxK y.k) r1)).upd t (11,[8*((E.length:Int)-1),r2,W1.vb,8*x1.ep])) T RR hy hAB hAB2
  (g2.chn.cong (λp hp=>by
   have hp2:ρ p.1=idxK y.k+2:=by
    rcases List.mem_append.1 hp with h | h
    ·exact rA p h
    ·exact rB p h
   rw[PF.upd_ne _ _ (λe=>by rw[e,hye0]at hp2;omega),far3 _ (by rw[hp2];omega)]))
  (g3'.chn.cong (λp hp=>by
   have hp2:ρ p.1=1:=by
    rcases List.mem_append.1 hp with h | h
    ·exact rA2 p h
    ·exact rB2 p h
   exact PF.upd_ne _ _ (λe=>by rw[e,hye0]at hp2;omega)))
  (λz hz hzk=>by
   have hz0:=r1' z hz
   rw[PF.upd_ne _ _ (λe=>hzk (by rw[T.one hz hy e])),far3 _ (by rw[hz0];omega),far2 _ (by rw[hz0];omega)])
  (λi hi' hne p hp=>by
   have hp3:=r3' i hi' p hp
   exact hg _ (by rw[hp3];omega) (by rw[hp3];omega) (by rw[hp3];omega))
  (TF.upd_at _ _ _) ((TF.upd_ne _ _ (λe=>T.ne e.symm)).trans (TF.upd_at _ _ _))
 refine hR _ _ ⟨true,x7,_,_,_,_,rfl,P.trans ⟨⟨S7,by rw[he];exact T7,λ_=>R7,by rw[he];exact P.ts.ep,Nat.le_trans (List.length_filter_le _ _) P.ts.few⟩,rr,λ_ h=>h,F,λu hu hnn=>?_,λu h1 h2=>?_,rfl,λu hu=> .inl ?_,λu hnn=>?_⟩,.inl ⟨rfl,⟨y,hy,rfl⟩,rfl⟩⟩
 ·rw[PF.upd_ne _ _ (λe=>hu (.inl ⟨y,hy,e.symm⟩)),g3'.far u (λe=>hu (.inr (.inl ⟨(a,y.e),hinS _ (by simp),e.symm⟩))) (λp hp e=>hu (.inr (.inl ⟨p,hinS p (by simp[hp]),e⟩))),
   g2.far u (λe=>hu (.inr (.inr ⟨_,hi,_,hoi,e.symm⟩))) (λp hp e=>hu (.inr (.inr ⟨_,hi,p,hAi p hp,e⟩)))]
 ·rw[TF.upd_ne _ _ h1,TF.upd_ne _ _ h2]
 ·rcases hu with⟨z,hz,q⟩ | ⟨p,hp,q⟩ | ⟨i,hi',p,hp,q⟩
  ·exact .inl ⟨z,(mem_delK.1 hz).1,q⟩
  ·refine .inr (.inl ⟨p,hinS p ?_,q⟩)
   rcases List.mem_append.1 hp with h | h
   ·simp[h]
   ·simp[h]
  ·have hp:p∈(if i=idxK y.k then A++B else W1.bs i):=hp
   by_cases r:i=idxK y.k
   ·rw[if_pos r]at hp
    refine .inr (.inr ⟨_,hi,p,?_,q⟩)
    rcases List.mem_append.1 hp with h | h
    ·exact hAi p h
    ·exact hBi p h
   ·rw[if_neg r]at hp;exact .inr (.inr ⟨i,hi',p,hp,q⟩)
 ·by_cases q:u=y.e
  ·rw[q,PF.upd_at];simp
  ·rw[PF.upd_ne _ _ q];exact g3'.some u (g2.some u hnn)
end
theorem flat_take: ∀(L:List (Int×Int)) (j:Nat),(L.flatMap refCells).take (j*2)=(L.take j).flatMap refCells
 | [],_=>by simp
 | p::l,0=>by simp
 | p::l,j+1=>by
  show(refCells p++l.flatMap refCells).take ((j+1)*2)=refCells p++(l.take j).flatMap refCells
  rw[List.take_append,refCells_len,<-flat_take l j,List.take_of_length_le (by rw[refCells_len];omega),show(j+1)*2-2=j*2 by omega]
theorem flat_drop: ∀(L:List (Int×Int)) (j:Nat),(L.flatMap refCells).drop (j*2)=(L.drop j).flatMap refCells
 | [],_=>by simp
 | p::l,0=>by simp
 | p::l,j+1=>by
  show(refCells p++l.flatMap refCells).drop ((j+1)*2)=(l.drop j).flatMap refCells
  rw[List.drop_append,refCells_len,<-flat_drop l j,List.drop_of_length_le (by rw[refCells_len];omega),List.nil_append,show(j+1)*2-2=j*2 by omega]
theorem allOne_ref: ∀L:List (Int×Int),allOne (L.flatMap refCells)=true
 | []=>rfl
 | p::l=>by show(true && (true && allOne (l.flatMap refCells)))=true;rw[allOne_ref l];rfl
theorem refDelete_c{H:zV}{q c:Nat}{B:zW}{L:List (Int×Int)}{key:Int}(h:RefT H q B c L)(hl:L.length<=1000000):
  moraineref15_Table_Delete.C (some ⟨q,0,none⟩) key H (λv H'=> ∃ok B' c',v=.bool ok/\RefT H' q B' c' (delL L key)/\Fr (q::blks B) H H'/\(∀j∈blks B',j∈blks B\/H.size<=j)/\((ok=true/\ ∃p∈L,p.1=key)\/(ok=false/\ ∀p∈L,p.1≠key))):=by
 refine HC.via λR hR=>moraineref15_Table_Delete.link ?_
 unfold moraineref15_Table_Delete.pt zY
 refine HC.mono (refFind_c (key:=key) h hl) ?_
 rintro _ H1 ⟨i,rfl,hF,rfl⟩
 refine⟨_,rfl,?_⟩
 rcases hF with⟨j,hj,rfl,hk,hno⟩ | ⟨rfl,hno⟩
 case inr=>
  rw[if_pos (by decide)]
  exact hR _ _ ⟨false,B,c,rfl,by rw[delL_no L hno];exact h,Fr.refl _ _,λj hj=> .inl hj,.inr ⟨rfl,hno⟩⟩
 rw[if_neg (by omega)]
 intro b H2 hb hH2
 have e2:Ext H1 H2:=Ext.push' hH2
 have hle:=h.own.le
 have hq:=lt_size h.cell
 have h2:=h.ext e2
 have gb:=push_get hb hH2
 obtain⟨a,ha,-,-⟩:=h2.at' hj
 subst ha
 refine⟨_,rfl,_,_,_,hat_blk h2.cell,0,j,rfl,rfl,Nat.zero_le _,by omega,λsl hsl=>?_⟩
 rw[if_neg (by omega),Option.map_some]at hsl
 subst hsl
 refine own_append (H:=H2) (n:=0) (c:=0) (xs:=[]) (ys:=(L.take j).flatMap refCells) ⟨rfl,#[],gb,rfl,Nat.le_refl _,rfl,λj hj=>by simp at hj⟩ ?_ (by rw[flatR_len,List.length_take];omega) (allOne_ref _) rfl (by omega) ?_
 ·have:=h2.own.part (o:=0) (k:=j*2)
  rw[List.drop_zero,flat_take]at this
  exact this
 intro ap apC H3 ho3 f3 hn3
 have hqb:q≠b:=by omega
 have h3:RefT H3 q (some a) c L:=h2.keep f3 (λi hi=>by
  simp at hi
  rw[hi]
  refine⟨λe=>hqb e.symm,λhm=>?_⟩
  have:=h.own.lt b (by simpa using hm)
  omega)
 have hap: ∀i∈blks ap,H1.size<=i:=λi hi=>by
  have:=e2.size
  rcases hn3 i hi with h' | h'
  ·simp at h';omega
  ·omega
 refine⟨_,_,_,hat_blk h3.cell,j+1,L.length,by rw[w64 (n:=(j:Int)+1) (by omega)];omega,rfl,by omega,hle,λsl hsl=>?_⟩
 refine own_append (ys:=(L.drop (j+1)).flatMap refCells) ho3 ?_ (by rw[flatR_len,List.length_drop]) (allOne_ref _) rfl (by omega) ?_
 ·rw[hsl]
  by_cases hc:c=j+1
  ·rw[if_pos hc,List.drop_of_length_le (by omega)]
   trivial
  ·rw[if_neg hc,Option.map_some]
   have:=h3.own.part (o:=(j+1)*2) (k:=L.length*2)
   rw[flat_drop,List.take_of_length_le (by rw[flatR_len,List.length_drop];omega)]at this
   exact this
 intro B' c' H4 ho4 f4 hn4
 have hqa:q ∉ blks ap:=λhm=>by have:=hap q hm;omega
 obtain⟨hcp,hs⟩:=box_set (vs:=[.slice B' ((0+(j-0))+(L.length-(j+1))) c']) (f4.get hqa h3.cell) rfl rfl
 refine⟨hcp,λH5 hH5=>?_⟩
 obtain⟨g5,f5⟩:=hs H5 hH5
 have hdl:=delL_at L hj hk hno
 have hlen:(delL L key).length=(0+(j-0))+(L.length-(j+1)):=by rw[hdl,List.length_append,List.length_take,List.length_drop];omega
 have z3:=f3.size
 have z2:=e2.size
 have hB': ∀i∈blks B',H1.size<=i:=λi hi=>by
  rcases hn4 i hi with h' | h'
  ·exact hap i h'
  ·omega
 have hqn:q ∉ blks B':=λhm=>by have:=hB' q hm;omega
 refine hR _ _ ⟨true,B',c',rfl,⟨by rw[hlen];exact g5,?_,hqn⟩,?_,λi hi=> .inr (hB' i hi),.inl ⟨rfl,_,List.getElem_mem hj,hk⟩⟩
 ·rw[hlen,hdl,List.flatMap_append]
  have:=ho4.keep f5 (λi hi hm=>by simp at hm;exact hqn (hm▸hi))
  simpa using this
 ·have F:Fr (b::q::blks ap) H2 H5:=((f3.mono (λi hi _=>by simp at hi;simp[hi])).trans (f4.mono (λi hi _=>by simp[hi]))).trans (f5.mono (λi hi _=>by simp at hi;simp[hi]))
  refine(e2.fr (S:=q::blks (some a))).trans' F (λi hi _=>hi) (λi hi hl=>?_)
  rcases List.mem_cons.1 hi with h' | h'
  ·omega
  rcases List.mem_cons.1 h' with h' | h'
  ·simp[h']
  ·have:=hap i h';omega
