/-
 Contracts of package eqtab: Keys, Values. Proves nothing of any one statement.
-/
import Derived.Test.YtiebboaeaoobmaaGreatTabF
import Derived.Test.YtiebboaeaoobmaaGreatRev
set_option linter.unusedVariables false
set_option linter.unusedSimpArgs false
namespace Go.Proofs.YtiebboaeaoobmaaGreat
open Go

section
variable {J:Sp->(Int->Prop)->Prop} {H0 H H':zV} {b:Blk} {x x':Hp} {G G':Int->Prop} {f f':PF} {th th':TF} {t ew:Int} {E E':List Ent} {W W':TW} {n:Int}
set_option maxRecDepth 100000 in
set_option maxHeartbeats 1000000 in
theorem told_c(S:TS J H0 H b x G f th t ew E W){F:FuncId}{C:Array Value}(g:Ent->Int)(hT: ∀y∈E,∀A,Ext H A->FC Tryz.prog (.func (.func F) #[] C) #[.int .u64 y.e] A (λv A'=>v=.tuple #[.int .u64 (g y),.int .i64 0]/\Ext A A'))(hf6:E.length<=1000000):
  eqtab_told.C (some ⟨b.h,0,none⟩) t (.func (.func F) #[] C) H (λv H'=> ∃B c,v=.tuple #[.slice B E.length c,.int .i64 0]/\Own H' 31 1 B E.length c (wvs (E.map g))/\(∀j∈blks B,H.size<=j)/\Ext H H'):=by
 refine HC.via λR hR=>eqtab_told.link ?_
 unfold eqtab_told.pt
 refine⟨F,C,rfl,?_⟩
 intro b1 H1 hb1 hH1 b2 H2 hb2 hH2
 have e1:Ext H H1:=Ext.push' hH1
 have e2:Ext H1 H2:=Ext.push' hH2
 have g1:=e2.get (push_get hb1 hH1)
 have g2:=push_get hb2 hH2
 have s1:H1.size=H.size+1:=by rw[hH1];simp
 have s2:H2.size=H1.size+1:=by rw[hH2];simp
 refine⟨_,hat_blk g1,?_⟩
 have e02:=e1.trans e2
 refine HC.mono (open_c (S.hs.ext e02) S.tb.tab rfl) ?_
 rintro _ H3 ⟨rfl,e3⟩
 refine⟨_,_,_,rfl,λb3 H4 hb3 hH4=>?_⟩
 have e4:Ext H3 H4:=Ext.push' hH4
 obtain⟨hcp,hs⟩:=box_set (vs:=[.pointer (some ⟨b.h,0,none⟩),.int .u64 t]) (push_get hb3 hH4) rfl rfl
 refine⟨hcp,λH5 hH5=>?_⟩
 obtain⟨g3,f5⟩:=hs H5 hH5
 have z3:=e3.size
 have z5:=f5.size
 have s4:H4.size=H3.size+1:=by rw[hH4];simp
 have e35:Ext H3 H5:=e4.fr_trans f5 (λj hj=>by simp at hj;omega)
 rw[if_pos rfl]
 intro b4 H6 hb4 hH6
 have e6:Ext H5 H6:=Ext.push' hH6
 have s6:H6.size=H5.size+1:=by rw[hH6];simp
 have g4:=push_get hb4 hH6
 have g36:=e6.get g3
 have e26:=(e3.trans e35).trans e6
 refine⟨_,_,box_row g36,_,_,box_row g36,?_⟩
 refine HC.mono (tget_c (S.hs.ext (e02.trans e26)) S.tb.tab (by decide) rfl) ?_
 rintro _ H7 ⟨rfl,e7⟩
 refine⟨_,rfl,box_row (e7.get g36),?_⟩
 refine HC.mono pairs_c ?_
 rintro v H8 ⟨p,q,rfl,gp,gq,hpq,hp,hq,e8⟩
 refine⟨rfl,?_⟩
 intro rc lp H9 hlp hH9 vY hY
 have s7:=e7.size
 have s8:=e8.size
 have hq8:=lt_size gq
 have hp8:=lt_size gp
 have hl9:H9[lp]?=some (rc .ready none):=push_get (by simp;omega) hH9
 have e89:Ext (H8.push (.deferred (some []))) H9:=Ext.push' hH9
 have hd9:H9[H8.size]?=some (.deferred (some [])):=e89.get (push_get rfl rfl)
 have e9:Ext H8 H9:=(Ext.push H8 _).trans e89
 have s9:H9.size=H8.size+2:=by rw[hH9];simp
 have e69:Ext H6 H9:=(e7.trans e8).trans e9
 have e09:Ext H H9:=(e02.trans e26).trans e69
 have hch:=S.tb.spc
 have h20:=S.hs.pic.no20
 have hb12:b1=H.size/\b2=H1.size/\b3=H3.size/\b4=H5.size:=⟨hb1,hb2,hb3,hb4⟩
 have hlt:H.size<=lp/\lp≠H8.size/\lp≠b3/\lp≠b1/\lp≠b2/\lp≠b4:=by omega
 have hspl:W.sp.length=E.length:=by have:=congrArg List.length S.tb.spe;simpa using this
 have hent: ∀(k:Nat) (h:k<W.sp.length),∃y∈E,E.reverse[k]?=some y/\W.sp[k].2=y.e:=λk h=>by
  have h1:(W.sp.map Prod.snd)[k]?=some W.sp[k].2:=by rw[List.getElem?_map,List.getElem?_eq_getElem h];rfl
  rw[S.tb.spe,<-List.map_reverse,List.getElem?_map]at h1
  cases hy:E.reverse[k]? with
  | none=>rw[hy]at h1;cases h1
  | some y=>
   rw[hy]at h1
   exact⟨y,by rw[<-List.mem_reverse];exact List.mem_of_getElem? hy,rfl,(Option.some.inj h1).symm⟩
 have ext: ∀{A:zV},Fr [b2,b4] H A->Ext H A:=λfr=>(Ext.refl H).fr_trans fr (λj hj=>by simp at hj;omega)
 refine FE.of2 (enters_of Tryz.func92 (by kernel_rfl) rfl) rfl (HC.mono (tpairs_loop (J:=J) (H0:=H0) (b:=b) (x:=x) (G:=G) (f:=f) (th:=th)
  (R0:=λA=> ∃(B:zW) (c:Nat),Own A 31 1 B E.length c (wvs (E.reverse.map g))/\(∀j∈blks B,H9.size<=j)/\FindI H rc .ready none lp H8.size b3 b1 b2 b4 (.cells #[.pointer (some ⟨b.h,0,none⟩),.int .u64 t] 72 (0,0)) (.pointer (some ⟨b.h,0,none⟩)) (.func (.func F) #[] C) (.slice B E.length c) 34 88 54 A)
  (λk A=> ∃(B:zW) (c:Nat),Own A 31 1 B k c (wvs ((E.reverse.take k).map g))/\(∀j∈blks B,H9.size<=j)/\FindI H rc .ready none lp H8.size b3 b1 b2 b4 (.cells #[.pointer (some ⟨b.h,0,none⟩),.int .u64 t] 72 (0,0)) (.pointer (some ⟨b.h,0,none⟩)) (.func (.func F) #[] C) (.slice B k c) 34 88 54 A)
  h20 hch (e9.get gp) (e9.get gq) hpq ⟨none,0,by simpa using own_nil,by simp,⟨e09.fr,hl9,hd9,e69.get g36,(e26.trans e69).get g1,(e26.trans e69).get g2,e69.get g4⟩⟩ ?_ ?_ ?_ ?_) (λv A h=>?_))
 ·rintro k A ⟨B,c,_,_,hI⟩
  exact S.hs.ext (ext hI.e)
 ·rintro k A A' ⟨B,c,ho,hB,hI⟩ fr
  exact⟨B,c,ho.keep fr (λj hj h=>by simp at h;have:=hB j hj;omega),hB,hI.keep fr (λi hi=>by simp at hi;omega)⟩
 ·rintro k hkl A ⟨B,c,ho,hB,hI⟩
  refine hY _ A _ hI.loop ⟨hI.loop,λH11 hH11=>?_⟩
  obtain⟨I11,f11⟩:=hI.turn hH11 hlt
  have hmem:=List.getElem_mem hkl
  obtain⟨y,hy,hyk,hye⟩:=hent k hkl
  obtain⟨d,hfd⟩:=hch.some _ hmem
  generalize W.sp[k]=pk at*
  have zl:=lt_size hI.loop
  have z11:=f11.size
  refine⟨_,hat_blk I11.g2,?_⟩
  refine HC.mono ((S.hs.ext (ext I11.e)).car_c hfd) ?_
  rintro _ H12 ⟨rfl,e12⟩
  have I12:=I11.keep (S:=[]) e12.fr (by simp)
  refine⟨_,_,rfl,_,hat_blk I12.g3,?_⟩
  rw[hye]
  refine(hT y hy H12 (ext I12.e)).mono ?_
  rintro _ H13 ⟨rfl,e13⟩
  have I13:=I12.keep (S:=[]) e13.fr (by simp)
  refine⟨_,_,rfl,_,_,_,hat_blk I13.g4,λb5 H14 hb5 hH14=>?_⟩
  have e14:Ext H13 H14:=Ext.push' hH14
  have I14:=I13.keep (S:=[]) e14.fr (by simp)
  have e1114:=(e12.trans e13).trans e14
  have z14:=e1114.size
  have hBn: ∀j∈blks B,j≠lp/\j≠H8.size/\j≠b3/\j≠b1/\j≠b2/\j≠b4:=λj hj=>by have:=hB j hj;omega
  have ho14:=(ho.keep f11 (λj hj h=>by simp at h;exact(hBn j hj).1 h)).ext e1114
  refine own_append (ys:=wvs [g y]) ho14 (rowAt_blk (push_get hb5 hH14) _ 0 0 (λj hj=>by
   simp only[wvs,List.map_cons,List.map_nil,List.length_cons,List.length_nil]at hj
   obtain rfl:j=0:=by omega
   rfl)) rfl (allOne_wvs _) rfl (by omega) ?_
  intro B' c' H15 ho15 f15 hn15
  have I15:=I14.keep f15 (λi hi=>by have:=hB i hi;have:=hBn i hi;omega)
  obtain⟨hcp,hs⟩:=box_set (vs:=[.slice B' (k+1) c']) I15.g4 rfl rfl
  refine⟨hcp,λH16 hH16=>?_⟩
  obtain⟨g16,f16⟩:=hs H16 hH16
  have hB': ∀j∈blks B',H9.size<=j:=λj hj=>by
   rcases hn15 j hj with h | h
   ·exact hB j h
   ·omega
  have ho16:=ho15.keep f16 (λj hj h=>by simp at h;have:=hB' j hj;omega)
  have I16:=I15.put4 f16 g16 (by omega)
  obtain⟨I17,f17⟩:=I16.turn (st':=.ready) (pe':=none) rfl hlt
  have htk:(E.reverse.take (k+1)).map g=(E.reverse.take k).map g++[g y]:=by
   obtain⟨hl,hy'⟩:=List.getElem?_eq_some_iff.1 hyk
   rw[List.take_succ_eq_append_getElem hl,List.map_append,hy'];rfl
  have F:Fr (lp::b4::blks B) A (setBlk H16 lp (rc .ready none)):=(((f11.mono (λi hi _=>by simp at hi;simp[hi])).trans e1114.fr).trans (f15.mono (λi hi _=>by simp[hi]))).trans ((f16.mono (λi hi _=>by simp at hi;simp[hi])).trans (f17.mono (λi hi _=>by simp at hi;simp[hi])))
  have hpn: ∀j,j=p\/j=q->j ∉ lp::b4::blks B:=λj hj h=>by
   rcases List.mem_cons.1 h with h | h
   ·omega
   rcases List.mem_cons.1 h with h | h
   ·omega
   have:=hB j h;omega
  refine⟨I16.loop,true,rfl,λ_=>⟨⟨B',c',?_,hB',I17⟩,F.2 p (by omega) (hpn p (.inl rfl)),F.2 q (by omega) (hpn q (.inr rfl))⟩,λh=>by(cases h)⟩
  rw[htk]
  have:=ho16.keep f17 (λj hj h=>by simp at h;have:=hB' j hj;omega)
  simpa[wvs]using this
 ·rintro A ⟨B,c,ho,hB,hI⟩
  rw[hspl]at ho hI
  rw[List.take_of_length_le (by simp)]at ho
  exact⟨B,c,ho,hB,hI⟩
 ·obtain⟨B,c,ho,hB,hI⟩:=h.2
  refine⟨hI.loop,λH16 hH16=>?_⟩
  obtain⟨I16,f16⟩:=hI.turn hH16 hlt
  refine⟨_,_,_,hat_blk I16.g4,?_⟩
  have hBn: ∀j∈blks B,j≠lp/\j≠H8.size/\j≠b3/\j≠b1/\j≠b2/\j≠b4:=λj hj=>by have:=hB j hj;omega
  have ho16:=ho.keep f16 (λj hj h=>by simp at h;exact(hBn j hj).1 h)
  refine HC.mono (slices_Reverse_c ho16 (by simp) (by omega)) ?_
  rintro _ H17 ⟨ho17,f17⟩
  have I17:=I16.keep f17 (λi hi=>by have:=hB i hi;have:=hBn i hi;omega)
  refine⟨_,_,_,hat_blk I17.g4,?_⟩
  have fD:Fr [H8.size] H17 (H17.setIfInBounds H8.size (.deferred none)):=Fr.set
  refine shut_one I17.dfr (hR _ _ ⟨B,c,rfl,?_,λj hj=>by have:=hB j hj;omega,(ext I17.e).fr_trans fD (λj hj=>by simp at hj;omega)⟩)
  have:=ho17.keep fD (λj hj h=>by simp at h;exact(hBn j hj).2.1 h)
  rw[<-List.map_reverse,List.reverse_reverse]at this
  exact this
theorem Keys_c(S:TS J H0 H b x G f th t ew E W)(hf6:E.length<=1000000):
  eqtab_Keys.C (some ⟨b.h,0,none⟩) t H (λv H'=> ∃B c,v=.tuple #[.slice B E.length c,.int .i64 0]/\Own H' 31 1 B E.length c (wvs (E.map Ent.k))/\(∀j∈blks B,H.size<=j)/\Ext H H'):=by
 refine HC.via λR hR=>eqtab_Keys.link ?_
 unfold eqtab_Keys.pt
 intro c H1 hc hH1
 have e1:Ext H H1:=Ext.push' hH1
 have g1:=push_get hc hH1
 have z1:=e1.size
 refine⟨_,hat_blk g1,?_⟩
 refine HC.mono (told_c (S.ext e1) Ent.k (λy hy A eA=> .inl (FE.of2 (enters_of Tryz.func45 (by kernel_rfl) rfl) rfl ?_)) hf6) ?_
 ·have h:eqtab_Keys_1.C y.e (some ⟨c,0,none⟩) A (λv A'=>v=.tuple #[.int .u64 y.k,.int .i64 0]/\Ext A A'):=by
   refine HC.via λR hR=>eqtab_Keys_1.link ?_
   unfold eqtab_Keys_1.pt
   refine⟨_,rfl,_,hat_blk (eA.get g1),?_⟩
   refine HC.mono ((S.hs.ext (e1.trans eA)).car_c (S.tb.ent y hy)) ?_
   rintro _ A' ⟨rfl,e'⟩
   exact⟨_,_,rfl,hR _ _ ⟨rfl,e'⟩⟩
  exact h
 rintro _ H2 ⟨B,c2,rfl,ho,hB,e2⟩
 exact⟨_,_,_,_,rfl,hR _ _ ⟨B,c2,rfl,ho,λj hj=>by have:=hB j hj;omega,e1.trans e2⟩⟩
theorem Values_c(S:TS J H0 H b x G f th t ew E W)(hf6:E.length<=1000000):
  eqtab_Values.C (some ⟨b.h,0,none⟩) t H (λv H'=> ∃B c,v=.tuple #[.slice B E.length c,.int .i64 0]/\Own H' 31 1 B E.length c (wvs (E.map Ent.v))/\(∀j∈blks B,H.size<=j)/\Ext H H'):=by
 refine HC.via λR hR=>eqtab_Values.link ?_
 unfold eqtab_Values.pt
 intro c H1 hc hH1
 have e1:Ext H H1:=Ext.push' hH1
 have g1:=push_get hc hH1
 have z1:=e1.size
 refine⟨_,hat_blk g1,?_⟩
 refine HC.mono (told_c (S.ext e1) Ent.v (λy hy A eA=> .inl (FE.of2 (enters_of Tryz.func50 (by kernel_rfl) rfl) rfl ?_)) hf6) ?_
 ·have h:eqtab_Values_1.C y.e (some ⟨c,0,none⟩) A (λv A'=>v=.tuple #[.int .u64 y.v,.int .i64 0]/\Ext A A'):=by
   refine HC.via λR hR=>eqtab_Values_1.link ?_
   unfold eqtab_Values_1.pt
   refine⟨_,rfl,_,hat_blk (eA.get g1),?_⟩
   refine HC.mono ((S.hs.ext (e1.trans eA)).cdr_c (S.tb.ent y hy)) ?_
   rintro _ A' ⟨rfl,e'⟩
   exact⟨_,_,rfl,hR _ _ ⟨rfl,e'⟩⟩
  exact h
 rintro _ H2 ⟨B,c2,rfl,ho,hB,e2⟩
 exact⟨_,_,_,_,rfl,hR _ _ ⟨B,c2,rfl,ho,λj hj=>by have:=hB j hj;omega,e1.trans e2⟩⟩
end
