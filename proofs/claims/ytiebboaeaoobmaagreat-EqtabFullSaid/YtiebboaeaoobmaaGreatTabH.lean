/-
 Contracts of package eqtab: Keys, Values. Proves nothing of any one statement.
-/
import Derived.Test.YtiebboaeaoobmaaGreatTabF
import Derived.Test.YtiebboaeaoobmaaGreatRev
set_option linter.unusedVariables false
set_option linter.unusedSimpArgs false
namespace Go.Proofs.YtiebboaeaoobmaaGreat
open Go

section
variable {J:Sp->(Int->Prop)->Prop} {H0 H H':zV} {b:Blk} {x x':Hp} {G G':Int->Prop} {f f':PF} {th th':TF} {t ew:Int} {E E':List Ent} {W W':TW} {n:Int}
set_option maxRecDepth 100000 in
set_option maxHeartbeats 1000000 in
theorem rK(S:TS J H0 H b x G f th t ew E W){F:FuncId}{C:Array Value}(g:Ent->Int)(hT: ∀y∈E,∀A,Ext H A->FC Tryz.prog (.func (.func F) #[] C) #[.int .u64 y.e] A (λv A'=>v=.tuple #[.int .u64 (g y),.int .i64 0]/\Ext A A'))(hf6:E.length<=1000000):
  fX.C (some ⟨b.h,0,none⟩) t (.func (.func F) #[] C) H (λv H'=> ∃B c,v=.tuple #[.slice B E.length c,.int .i64 0]/\Own H' 31 1 B E.length c (wvs (E.map g))/\(∀j∈blks B,H.size<=j)/\Ext H H'):=by
 refine HC.via λR hR=>fX.link ?_
 unfold fX.pt
 refine⟨F,C,rfl,?_⟩
 intro b1 H1 hb1 hH1 b2 H2 hb2 hH2
 have e1:Ext H H1:=Ext.push' hH1
 have e2:Ext H1 H2:=Ext.push' hH2
 have g1:=e2.get (aF hb1 hH1)
 have g2:=aF hb2 hH2
 have s1:H1.size=H.size+1:=by rw[hH1];simp
 have s2:H2.size=H1.size+1:=by rw[hH2];simp
 refine⟨_,aK g1,?_⟩
 have e02:=e1.trans e2
 refine HC.mono (mB (S.hs.ext e02) S.tb.tab rfl) ?_
 rintro _ H3 ⟨rfl,e3⟩
 refine⟨_,_,_,rfl,λb3 H4 hb3 hH4=>?_⟩
 have e4:Ext H3 H4:=Ext.push' hH4
 obtain⟨hcp,hs⟩:=eF (vs:=[.pointer (some ⟨b.h,0,none⟩),.int .u64 t]) (aF hb3 hH4) rfl rfl
 refine⟨hcp,λH5 hH5=>?_⟩
 obtain⟨g3,f5⟩:=hs H5 hH5
 have z3:=e3.size
 have z5:=f5.size
 have s4:H4.size=H3.size+1:=by rw[hH4];simp
 have e35:Ext H3 H5:=e4.fr_trans f5 (λj hj=>by simp at hj;omega)
 rw[if_pos rfl]
 intro b4 H6 hb4 hH6
 have e6:Ext H5 H6:=Ext.push' hH6
 have s6:H6.size=H5.size+1:=by rw[hH6];simp
 have g4:=aF hb4 hH6
 have g36:=e6.get g3
 have e26:=(e3.trans e35).trans e6
 refine⟨_,_,bA g36,_,_,bA g36,?_⟩
 refine HC.mono (ju (S.hs.ext (e02.trans e26)) S.tb.tab (by decide) rfl) ?_
 rintro _ H7 ⟨rfl,e7⟩
 refine⟨_,rfl,bA (e7.get g36),?_⟩
 refine HC.mono lX ?_
 rintro v H8 ⟨p,q,rfl,gp,gq,hpq,hp,hq,e8⟩
 refine⟨rfl,?_⟩
 intro rc lp H9 hlp hH9 vY hY
 have s7:=e7.size
 have s8:=e8.size
 have hq8:=aY gq
 have hp8:=aY gp
 have hl9:H9[lp]?=some (rc .ready none):=aF (by simp;omega) hH9
 have e89:Ext (H8.push (.deferred (some []))) H9:=Ext.push' hH9
 have hd9:H9[H8.size]?=some (.deferred (some [])):=e89.get (aF rfl rfl)
 have e9:Ext H8 H9:=(Ext.push H8 _).trans e89
 have s9:H9.size=H8.size+2:=by rw[hH9];simp
 have e69:Ext H6 H9:=(e7.trans e8).trans e9
 have e09:Ext H H9:=(e02.trans e26).trans e69
 have hch:=S.tb.spc
 have h20:=S.hs.pic.no20
 have hb12:b1=H.size/\b2=H1.size/\b3=H3.size/\b4=H5.size:=⟨hb1,hb2,hb3,hb4⟩
 have hlt:H.size<=lp/\lp≠H8.size/\lp≠b3/\lp≠b1/\lp≠b2/\lp≠b4:=by omega
 have hspl:W.sp.length=E.length:=by have:=congrArg List.length S.tb.spe;simpa using this
 have hent: ∀(k:Nat) (h:k<W.sp.length),∃y∈E,E.reverse[k]?=some y/\W.sp[k].2=y.e:=λk h=>by
  have h1:(W.sp.map Prod.snd)[k]?=some W.sp[k].2:=by rw[List.getElem?_map,List.getElem?_eq_getElem h];rfl
  rw[S.tb.spe,<-List.map_reverse,List.getElem?_map]at h1
  cases hy:E.reverse[k]? with
  | none=>rw[hy]at h1;cases h1
  | some y=>
   rw[hy]at h1
   exact⟨y,by rw[<-List.mem_reverse];exact List.mem_of_getElem? hy,rfl,(Option.some.inj h1).symm⟩
 have ext: ∀{A:zV},Fr [b2,b4] H A->Ext H A:=λfr=>(Ext.refl H).fr_trans fr (λj hj=>by simp at hj;omega)
 refine FE.of2 (enters_of Tryz.func92 (by kernel_rfl) rfl) rfl (HC.mono (jq (J:=J) (H0:=H0) (b:=b) (x:=x) (G:=G) (f:=f) (th:=th)
  (R0:=λA=> ∃(B:zW) (c:Nat),Own A 31 1 B E.length c (wvs (E.reverse.map g))/\(∀j∈blks B,H9.size<=j)/\iw H rc .ready none lp H8.size b3 b1 b2 b4 (.cells #[.pointer (some ⟨b.h,0,none⟩),.int .u64 t] 72 (0,0)) (.pointer (some ⟨b.h,0,none⟩)) (.func (.func F) #[] C) (.slice B E.length c) 34 88 54 A)
  (λk A=> ∃(B:zW) (c:Nat),Own A 31 1 B k c (wvs ((E.reverse.take k).map g))/\(∀j∈blks B,H9.size<=j)/\iw H rc .ready none lp H8.size b3 b1 b2 b4 (.cells #[.pointer (some ⟨b.h,0,none⟩),.int .u64 t] 72 (0,0)) (.pointer (some ⟨b.h,0,none⟩)) (.func (.func F) #[] C) (.slice B k c) 34 88 54 A)
  h20 hch (e9.get gp) (e9.get gq) hpq ⟨none,0,by simpa using iS,by simp,⟨e09.fr,hl9,hd9,e69.get g36,(e26.trans e69).get g1,(e26.trans e69).get g2,e69.get g4⟩⟩ ?_ ?_ ?_ ?_) (λv A h=>?_))
 ·rintro k A ⟨B,c,_,_,hI⟩
  exact S.hs.ext (ext hI.e)
 ·rintro k A A' ⟨B,c,ho,hB,hI⟩ fr
  exact⟨B,c,ho.keep fr (λj hj h=>by simp at h;have:=hB j hj;omega),hB,hI.keep fr (λi hi=>by simp at hi;omega)⟩
 ·rintro k hkl A ⟨B,c,ho,hB,hI⟩
  refine hY _ A _ hI.loop ⟨hI.loop,λH11 hH11=>?_⟩
  obtain⟨I11,f11⟩:=hI.turn hH11 hlt
  have hmem:=List.getElem_mem hkl
  obtain⟨y,hy,hyk,hye⟩:=hent k hkl
  obtain⟨d,hfd⟩:=hch.some _ hmem
  generalize W.sp[k]=pk at*
  have zl:=aY hI.loop
  have z11:=f11.size
  refine⟨_,aK I11.g2,?_⟩
  refine HC.mono ((S.hs.ext (ext I11.e)).car_c hfd) ?_
  rintro _ H12 ⟨rfl,e12⟩
  have I12:=I11.keep (S:=[]) e12.fr (by simp)
  refine⟨_,_,rfl,_,aK I12.g3,?_⟩
  rw[hye]
  refine(hT y hy H12 (ext I12.e)).mono ?_
  rintro _ H13 ⟨rfl,e13⟩
  have I13:=I12.keep (S:=[]) e13.fr (by simp)
  refine⟨_,_,rfl,_,_,_,aK I13.g4,λb5 H14 hb5 hH14=>?_⟩
  have e14:Ext H13 H14:=Ext.push' hH14
  have I14:=I13.keep (S:=[]) e14.fr (by simp)
  have e1114:=(e12.trans e13).trans e14
  have z14:=e1114.size
  have hBn: ∀j∈blks B,j≠lp/\j≠H8.size/\j≠b3/\j≠b1/\j≠b2/\j≠b4:=λj hj=>by have:=hB j hj;omega
  have ho14:=(ho.keep f11 (λj hj h=>by simp at h;exact(hBn j hj).1 h)).ext e1114
  refine fi (ys:=wvs [g y]) ho14 (eC (aF hb5 hH14) _ 0 0 (λj hj=>by
   simp only[wvs,List.map_cons,List.map_nil,List.length_cons,List.length_nil]at hj
   obtain rfl:j=0:=by omega
   rfl)) rfl (ji _) rfl (by omega) ?_
  intro B' c' H15 ho15 f15 hn15
  have I15:=I14.keep f15 (λi hi=>by have:=hB i hi;have:=hBn i hi;omega)
  obtain⟨hcp,hs⟩:=eF (vs:=[.slice B' (k+1) c']) I15.g4 rfl rfl
  refine⟨hcp,λH16 hH16=>?_⟩
  obtain⟨g16,f16⟩:=hs H16 hH16
  have hB': ∀j∈blks B',H9.size<=j:=λj hj=>by
   rcases hn15 j hj with h | h
   ·exact hB j h
   ·omega
  have ho16:=ho15.keep f16 (λj hj h=>by simp at h;have:=hB' j hj;omega)
  have I16:=I15.put4 f16 g16 (by omega)
  obtain⟨I17,f17⟩:=I16.turn (st':=.ready) (pe':=none) rfl hlt
  have htk:(E.reverse.take (k+1)).map g=(E.reverse.take k).map g++[g y]:=by
   obtain⟨hl,hy'⟩:=List.getElem?_eq_some_iff.1 hyk
   rw[List.take_succ_eq_append_getElem hl,List.map_append,hy'];rfl
  have F:Fr (lp::b4::blks B) A (aV H16 lp (rc .ready none)):=(((f11.mono (λi hi _=>by simp at hi;simp[hi])).trans e1114.fr).trans (f15.mono (λi hi _=>by simp[hi]))).trans ((f16.mono (λi hi _=>by simp at hi;simp[hi])).trans (f17.mono (λi hi _=>by simp at hi;simp[hi])))
  have hpn: ∀j,j=p\/j=q->j ∉ lp::b4::blks B:=λj hj h=>by
   rcases List.mem_cons.1 h with h | h
   ·omega
   rcases List.mem_cons.1 h with h | h
   ·omega
   have:=hB j h;omega
  refine⟨I16.loop,true,rfl,λ_=>⟨⟨B',c',?_,hB',I17⟩,F.2 p (by omega) (hpn p (.inl rfl)),F.2 q (by omega) (hpn q (.inr rfl))⟩,λh=>by(cases h)⟩
  rw[htk]
  have:=ho16.keep f17 (λj hj h=>by simp at h;have:=hB' j hj;omega)
  simpa[wvs]using this
 ·rintro A ⟨B,c,ho,hB,hI⟩
  rw[hspl]at ho hI
  rw[List.take_of_length_le (by simp)]at ho
  exact⟨B,c,ho,hB,hI⟩
 ·obtain⟨B,c,ho,hB,hI⟩:=h.2
  refine⟨hI.loop,λH16 hH16=>?_⟩
  obtain⟨I16,f16⟩:=hI.turn hH16 hlt
  refine⟨_,_,_,aK I16.g4,?_⟩
  have hBn: ∀j∈blks B,j≠lp/\j≠H8.size/\j≠b3/\j≠b1/\j≠b2/\j≠b4:=λj hj=>by have:=hB j hj;omega
  have ho16:=ho.keep f16 (λj hj h=>by simp at h;exact(hBn j hj).1 h)
  refine HC.mono (ls ho16 (by simp) (by omega)) ?_
  rintro _ H17 ⟨ho17,f17⟩
  have I17:=I16.keep f17 (λi hi=>by have:=hB i hi;have:=hBn i hi;omega)
  refine⟨_,_,_,aK I17.g4,?_⟩
  have fD:Fr [H8.size] H17 (H17.setIfInBounds H8.size (.deferred none)):=Fr.set
  refine k6 I17.dfr (hR _ _ ⟨B,c,rfl,?_,λj hj=>by have:=hB j hj;omega,(ext I17.e).fr_trans fD (λj hj=>by simp at hj;omega)⟩)
  have:=ho17.keep fD (λj hj h=>by simp at h;exact(hBn j hj).2.1 h)
  rw[<-List.map_reverse,List.reverse_reverse]at this
  exact this
theorem tC(S:TS J H0 H b x G f th t ew E W)(hf6:E.length<=1000000):
  gz.C (some ⟨b.h,0,none⟩) t H (λv H'=> ∃B c,v=.tuple #[.slice B E.length c,.int .i64 0]/\Own H' 31 1 B E.length c (wvs (E.map Ent.k))/\(∀j∈blks B,H.size<=j)/\Ext H H'):=by
 refine HC.via λR hR=>gz.link ?_
 unfold gz.pt
 intro c H1 hc hH1
 have e1:Ext H H1:=Ext.push' hH1
 have g1:=aF hc hH1
 have z1:=e1.size
 refine⟨_,aK g1,?_⟩
 refine HC.mono (rK (S.ext e1) Ent.k (λy hy A eA=> .inl (FE.of2 (enters_of Tryz.func45 (by kernel_rfl) rfl) rfl ?_)) hf6) ?_
 ·have h:fR.C y.e (some ⟨c,0,none⟩) A (λv A'=>v=.tuple #[.int .u64 y.k,.int .i64 0]/\Ext A A'):=by
   refine HC.via λR hR=>fR.link ?_
   unfold fR.pt
   refine⟨_,rfl,_,aK (eA.get g1),?_⟩
   refine HC.mono ((S.hs.ext (e1.trans eA)).car_c (S.tb.ent y hy)) ?_
   rintro _ A' ⟨rfl,e'⟩
   exact⟨_,_,rfl,hR _ _ ⟨rfl,e'⟩⟩
  exact h
 rintro _ H2 ⟨B,c2,rfl,ho,hB,e2⟩
 exact⟨_,_,_,_,rfl,hR _ _ ⟨B,c2,rfl,ho,λj hj=>by have:=hB j hj;omega,e1.trans e2⟩⟩
theorem rL(S:TS J H0 H b x G f th t ew E W)(hf6:E.length<=1000000):
  fy.C (some ⟨b.h,0,none⟩) t H (λv H'=> ∃B c,v=.tuple #[.slice B E.length c,.int .i64 0]/\Own H' 31 1 B E.length c (wvs (E.map Ent.v))/\(∀j∈blks B,H.size<=j)/\Ext H H'):=by
 refine HC.via λR hR=>fy.link ?_
 unfold fy.pt
 intro c H1 hc hH1
 have e1:Ext H H1:=Ext.push' hH1
 have g1:=aF hc hH1
 have z1:=e1.size
 refine⟨_,aK g1,?_⟩
 refine HC.mono (rK (S.ext e1) Ent.v (λy hy A eA=> .inl (FE.of2 (enters_of Tryz.func50 (by kernel_rfl) rfl) rfl ?_)) hf6) ?_
 ·have h:eZ.C y.e (some ⟨c,0,none⟩) A (λv A'=>v=.tuple #[.int .u64 y.v,.int .i64 0]/\Ext A A'):=by
   refine HC.via λR hR=>eZ.link ?_
   unfold eZ.pt
   refine⟨_,rfl,_,aK (eA.get g1),?_⟩
   refine HC.mono ((S.hs.ext (e1.trans eA)).cdr_c (S.tb.ent y hy)) ?_
   rintro _ A' ⟨rfl,e'⟩
   exact⟨_,_,rfl,hR _ _ ⟨rfl,e'⟩⟩
  exact h
 rintro _ H2 ⟨B,c2,rfl,ho,hB,e2⟩
 exact⟨_,_,_,_,rfl,hR _ _ ⟨B,c2,rfl,ho,λj hj=>by have:=hB j hj;omega,e1.trans e2⟩⟩
end

def J1(s:Sp)(G:Int->Prop):Prop:=SpOK s/\s.mem.Even/\s.cf<4611686018427387904/\ ∀v,G v
theorem oP(s:Sp)(a v:Int):({s with mem:=(s.mem.store a v).1}:Sp).cf=s.cf:=by
 unfold Sp.cf
 show(s.mem.store a v).1.count+(s.mem.store a v).1.free=_
 rw[Mem.store_lim.2.1,Mem.store_lim.2.2]
theorem qo:JOK J1:=by
 refine⟨λh=>h.1,λh=>h.2.1,λh=>Sp.cf_count h.1 h.2.2.1,λh v _ _=>h.2.2.2 v,λ{s G w a d v i} h p gw hv gv hi=>⟨h.1.store _ hv,h.2.1.store _ _,by rw[oP];exact h.2.2.1,h.2.2.2⟩,λ{s G w k v ws i} h t gw hv gv hi=>⟨h.1.store _ hv,h.2.1.store _ _,by rw[oP];exact h.2.2.1,h.2.2.2⟩,λh _ _=>⟨h.2.2.2 _,h.2.2.2 _⟩,λh _ _ _ v _=>h.2.2.2 v,λ{s G kind tag ws} h hk hw hg=>⟨G,?_,λ_ h=>h,λ_=>h.2.2.2 _⟩⟩
 by_cases hal:(s.alloc 0 kind ws.length).2.2=0
 ·obtain⟨ok2,gr⟩:=Sp.alloc_ok h.1 hal
  have e:(s.put kind tag ws).1={(s.alloc 0 kind ws.length).1 with mem:=(s.alloc 0 kind ws.length).1.mem.sets (s.alloc 0 kind ws.length).2.1 ws}:=by unfold Sp.put;rw[if_pos hal]
  have sm:=bG.sets ws (s.alloc 0 kind ws.length).1.mem (s.alloc 0 kind ws.length).2.1
  rw[e]
  refine⟨ok2.sets _ hw,sm.even (gr.even h.2.1 (λhk1=>?_)).1,?_,h.2.2.2⟩
  ·rcases hk with⟨_,_,hl⟩ | ⟨_,_,hl⟩ | ⟨hk,_⟩
   ·omega
   ·omega
   ·omega
  ·have hcf:=Sp.alloc_cf s 0 kind ws.length
   unfold Sp.cf at hcf⊢
   show((s.alloc 0 kind ws.length).1.mem.sets _ ws).count+((s.alloc 0 kind ws.length).1.mem.sets _ ws).free<_
   rw[sm.count,sm.free,hcf];exact h.2.2.1
 ·have e:(s.put kind tag ws).1=s:=by unfold Sp.put;rw[if_neg hal]
  rw[e];exact h
section
variable {J:Sp->(Int->Prop)->Prop} {H0 H H':zV} {b:Blk} {x x':Hp} {G G':Int->Prop} {f f':PF} {th th':TF} {t ew:Int} {E E':List Ent} {W W':TW} {n:Int}
theorem HS.made(O:JOK J)(S:HS J H0 H b x G f th){kind:Int}{ws:List Int}(hkd:1<=kind/\kind<=13)(hl:ws.length<=62)(hw: ∀w∈ws,aG w)(hg:rawK kind≠3-> ∀w∈ws,G w)(hf:1<=x.sp.mem.free)(V:View H' (some ⟨b.h,0,none⟩) (iO (some (b,x)) kind 0 ws))(fr:Fr (own (some (b,x))) H H'):
  ∃w x' G',iK (some (b,x)) kind 0 ws=(w,0)/\HS J H0 H' b x' G' f (th.upd w (kind,ws))/\Rest 1 x x'/\(∀v,G v->G' v)/\G' w/\th w=none/\aG w/\w % 8=3/\ ¬x.sp.mem.used (w / 8)/\x'.sp.mem.used (w / 8)/\Fr [b.sp,b.m,b.s] H H':=by
 have okS:=O.ok S.j
 obtain⟨h1,h2,h3,h4⟩:=Sp.make_ok okS (more:=0) hkd (by decide) hl hw hf
 obtain⟨e1,e2⟩:=qI b x kind 0 ws
 have q1:iO (some (b,x)) kind 0 ws=putO (some (b,x)) (rawK kind) 3 ((0*65536+ws.length*256+kind*8+5)::ws):=by
  unfold iO;rw[if_neg (λq=>q ⟨hkd,by decide⟩),if_neg (by omega)]
 have q2:iK (some (b,x)) kind 0 ws=putR (some (b,x)) (rawK kind) 3 ((0*65536+ws.length*256+kind*8+5)::ws):=by
  unfold iK;rw[if_neg (λq=>q ⟨hkd,by decide⟩),if_neg (by omega)]
 obtain⟨p1,p2,p3,p4⟩:=ms (kind:=kind) (more:=0) (n:=ws.length) hkd ⟨by decide,by decide⟩ hl
 have hr:rawK kind=2\/rawK kind=3:=by unfold rawK;split<;>omega
 obtain⟨G',j1,j2,j3⟩:=O.put S.j (kind:=rawK kind) (tag:=3) (ws:=(0*65536+ws.length*256+kind*8+5)::ws) (.inr (.inr ⟨hr,rfl,_,ws,rfl,p1,by rw[p2],p3⟩)) (λw hwm=>by
  rcases List.mem_cons.1 hwm with rfl | h
  ·exact⟨by omega,by omega⟩
  ·exact hw w h) (λhk3 w hwm=>by
  rcases List.mem_cons.1 hwm with rfl | h
  ·have:=p1.1
   exact O.imm S.j _ (by omega) (by omega)
  ·exact hg hk3 w h)
 have eq1:(x.sp.make kind 0 ws).1=(x.sp.put (rawK kind) 3 ((0*65536+ws.length*256+kind*8+5)::ws)).1:=by
  have:=e2.symm.trans q1
  have h':(some (b,({x with sp:=(x.sp.make kind 0 ws).1}:Hp)):Option (Blk×Hp))=some (b,{x with sp:=(x.sp.put (rawK kind) 3 ((0*65536+ws.length*256+kind*8+5)::ws)).1}):=this
  simp only[Option.some.injEq,Prod.mk.injEq,Hp.mk.injEq,true_and,and_true]at h'
  exact h'
 have eq2:(x.sp.make kind 0 ws).2=(x.sp.put (rawK kind) 3 ((0*65536+ws.length*256+kind*8+5)::ws)).2:=e1.symm.trans q2
 rw[<-eq1]at j1
 rw[<-eq2]at j3
 rw[e2]at V
 have h0: ∀j∈own (some (b,x)),H0.size<=j:=λj hj=>S.hb j (by simp[own]at hj;simp[Blk.all];omega)
 have hnu: ¬x.sp.mem.used ((x.sp.make kind 0 ws).2.1 / 8):=by
  have:=h4.fresh 0 (by omega)
  rw[show(x.sp.make kind 0 ws).2.1 / 8+((0:Nat):Int)=(x.sp.make kind 0 ws).2.1 / 8 by omega]at this
  exact this
 refine⟨_,{x with sp:=(x.sp.make kind 0 ws).1},G',e1.trans (Prod.ext rfl h1),⟨S.e.fr_trans fr h0,V,j1,S.pic.make okS.mem h4 h2,λw' p' e=>j2 _ (S.gf _ _ e),λw' p' e=>?_,S.hb⟩,⟨rfl,rfl,rfl,h4.free,λa h=>(h4.keep.used a h).1,by omega,λh=>absurd h (by omega)⟩,j2,j3 h1,S.pic.freshT h4,h2.word,h2.obj.1.2.1,hnu,h2.usedHead,fr⟩
 by_cases q:w'=(x.sp.make kind 0 ws).2.1
 ·rw[q];exact j3 h1
 ·rw[TF.upd_ne th _ q]at e;exact j2 _ (S.gt _ _ e)
theorem HS.vector_c(O:JOK J)(S:HS J H0 H b x G f th){n fill:Int}(hn:0<=n/\n<=62)(hfl:aG fill)(gf:G fill)(hf:1<=x.sp.mem.free):
  du.C (some ⟨b.h,0,none⟩) n fill H (λv H'=> ∃w x' G',v=.tuple #[.int .u64 w,.int .i64 0]/\HS J H0 H' b x' G' f (th.upd w (1,List.replicate n.toNat fill))/\Rest 1 x x'/\(∀v,G v->G' v)/\G' w/\th w=none/\aG w/\Fr [b.sp,b.m,b.s] H H'):=by
 refine HC.mono (nZ (n:=n) S.view hfl (O.cnt S.j)) ?_
 rintro _ H1 ⟨rfl,V,fr⟩
 have hw: ∀w∈List.replicate n.toNat fill,aG w:=λw hw=>by rw[List.eq_of_mem_replicate hw];exact hfl
 have e4:vecO (some (b,x)) n fill=iO (some (b,x)) 1 0 (List.replicate n.toNat fill):=by unfold vecO;rw[if_neg (by omega)]
 have e3:vecR (some (b,x)) n fill=iK (some (b,x)) 1 0 (List.replicate n.toNat fill):=by unfold vecR;rw[if_neg (by omega),if_neg (by omega)]
 rw[e4]at V
 obtain⟨w,x',G',h1,h2,h3,h4,h5,h6,h7,_,_,_,h8⟩:=S.made O (by decide) (by simp;omega) hw (λ_ w hw=>by rw[List.eq_of_mem_replicate hw];exact gf) hf V fr
 exact⟨w,x',G',by rw[e3,h1],h2,h3,h4,h5,h6,h7,h8⟩
theorem HS.string_c(O:JOK J)(S:HS J H0 H b x G f th){s:ByteArray}(hl:(gZ s).length<=62)(hf:1<=x.sp.mem.free):
  dt.C (some ⟨b.h,0,none⟩) s H (λv H'=> ∃w x' G',v=.tuple #[.int .u64 w,.int .i64 0]/\HS J H0 H' b x' G' f th/\Rest 1 x x'/\(∀v,G v->G' v)/\G' w/\aG w/\w % 8=3/\ ¬x.sp.mem.used (w / 8)/\x'.sp.mem.used (w / 8)/\Fr [b.sp,b.m,b.s] H H'):=by
 refine HC.mono (nY (s:=s) S.view (O.cnt S.j)) ?_
 rintro _ H1 ⟨rfl,V,fr⟩
 have e4:strO (some (b,x)) s=iO (some (b,x)) 2 0 (gZ s):=by unfold strO;rw[if_neg (by omega)]
 have e3:strR (some (b,x)) s=iK (some (b,x)) 2 0 (gZ s):=by unfold strR;rw[if_neg (by omega)]
 rw[e4]at V
 obtain⟨w,x',G',h1,h2,h3,h4,h5,h6,h7,h7b,h7c,h7d,h8⟩:=S.made O (kind:=2) (by decide) hl (kZ s) (λh=>absurd (show rawK 2=3 by decide) h) hf V fr
 exact⟨w,x',G',by rw[e3,h1],h2.less (λ_ _ e=>e) (λu p e=>(TF.upd_ne th _ (λq=>by rw[q,h6]at e;cases e)).trans e),h3,h4,h5,h7,h7b,h7c,h7d,h8⟩
theorem HS.weak_c(O:JOK J)(S:HS J H0 H b x G f th){a d:Int}(ha:aG a)(hd:aG d)(ga:G a)(gd:G d)(hf:1<=x.sp.mem.free):
  dY.C (some ⟨b.h,0,none⟩) a d H (λv H'=> ∃w x' G',v=.tuple #[.int .u64 w,.int .i64 0]/\HS J H0 H' b x' G' f th/\Rest 1 x x'/\(∀v,G v->G' v)/\G' w/\aG w/\w % 8=2/\ ¬x.sp.mem.used (w / 8)/\x'.sp.mem.used (w / 8)/\Fr [b.sp,b.m,b.s] H H'):=by
 have okS:=O.ok S.j
 refine HC.mono (pv S.view ha hd (O.cnt S.j)) ?_
 rintro _ H' ⟨rfl,V,fr⟩
 have hp2:putO (some (b,x)) 1 2 [a,d]=some (b,{x with sp:=(x.sp.put 1 2 [a,d]).1}):=rfl
 have hr2:putR (some (b,x)) 1 2 [a,d]=(x.sp.put 1 2 [a,d]).2:=rfl
 rw[hp2]at V
 rw[hr2]
 have h0: ∀j∈own (some (b,x)),H0.size<=j:=λj hj=>S.hb j (by simp[own]at hj;simp[Blk.all];omega)
 obtain⟨G',j1,j2,j3⟩:=O.put S.j (kind:=1) (tag:=2) (ws:=[a,d]) (.inr (.inl ⟨rfl,rfl,rfl⟩)) (λw hw=>by simp at hw;rcases hw with rfl | rfl<;>assumption) (λ_ w hw=>by simp at hw;rcases hw with rfl | rfl<;>assumption)
 have hok:(x.sp.put 1 2 [a,d]).2.2=0/\Pr (x.sp.put 1 2 [a,d]).1.mem (x.sp.put 1 2 [a,d]).2.1 2 a d/\SpOK (x.sp.put 1 2 [a,d]).1/\Made x.sp.mem (x.sp.put 1 2 [a,d]).1.mem (x.sp.put 1 2 [a,d]).2.1 1/\(x.sp.put 1 2 [a,d]).1.mem.Even:=Sp.cons_ok okS (O.even S.j) (tag:=2) (.inr rfl) ha hd hf
 obtain⟨h1,h2,h3,h4,h5⟩:=hok
 have hk:=S.pic.keep okS.mem h4.keep
 have hnu: ¬x.sp.mem.used ((x.sp.put 1 2 [a,d]).2.1 / 8):=by
  have:=h4.fresh 0 (by omega)
  rw[show(x.sp.put 1 2 [a,d]).2.1 / 8+((0:Nat):Int)=(x.sp.put 1 2 [a,d]).2.1 / 8 by omega]at this
  exact this
 exact⟨_,{x with sp:=(x.sp.put 1 2 [a,d]).1},G',by rw[<-h1],⟨S.e.fr_trans fr h0,V,j1,hk,λw' p' e=>j2 _ (S.gf _ _ e),λw' p' e=>j2 _ (S.gt _ _ e),S.hb⟩,⟨rfl,rfl,rfl,h4.free,λa h=>(h4.keep.used a h).1,by omega,λh=>absurd h (by omega)⟩,j2,j3 h1,h2.word,h2.at'.2.1,hnu,h2.at'.used h2.word,fr⟩
def W0(vb:Int):TW:=⟨vb,20,List.replicate 31 20,[],λ_=> []⟩
theorem tS(O:JOK J)(S:HS J H0 H b x G f th)(hep:0<=x.ep/\x.ep<1152921504606846976)(hf:2<=x.sp.mem.free):
  gV.C (some ⟨b.h,0,none⟩) H (λv H'=> ∃t vb x' G' th',v=.tuple #[.int .u64 t,.int .i64 0]/\TS J H0 H' b x' G' f th' t (8*x'.ep) [] (W0 vb)/\jW [] (W0 vb)/\Rest 2 x x'/\(∀v,G v->G' v)/\G' t/\aG t/\t % 8=3/\th t=none/\th vb=none/\(∀u,th u≠none->th' u=th u)/\Fr [b.sp,b.m,b.s] H H'):=by
 refine HC.via λR hR=>gV.link ?_
 unfold gV.pt zY
 rw[onPtr_some]
 refine HC.mono (S.vector_c O (n:=31) (by decide) iN (O.nil S.j) (by omega)) ?_
 rintro _ H1 ⟨vb,x1,G1,rfl,S1,r1,gg1,gvb,fvb,wvb,fr1⟩
 refine⟨_,_,rfl,?_⟩
 rw[if_pos rfl]
 refine HC.mono (oM (n:=0) (by decide)) ?_
 rintro _ H2 ⟨rfl,e2⟩
 refine⟨_,rfl,?_⟩
 refine HC.mono (lH (S1.view.ext e2)) ?_
 rintro _ H3 ⟨rfl,rfl⟩
 have hE:epO (some (b,x1))=x.ep:=r1.ep
 rw[hE]
 refine⟨_,rfl,?_⟩
 rw[w64 (n:=x.ep) (by omega)]
 refine HC.mono (oM hep) ?_
 rintro _ H4 ⟨rfl,e4⟩
 refine⟨_,rfl,λc H5 hc hH5=>?_⟩
 have e5:Ext H4 H5:=Ext.push' hH5
 have S5:=S1.ext ((e2.trans e4).trans e5)
 have hblt:=S1.blt
 have z2:=e2.size
 have z4:=e4.size
 have hfr:=r1.free
 have hw4: ∀w∈[8*0,20,vb,8*x.ep],aG w:=λw hw=>by
  simp only[List.mem_cons,List.not_mem_nil,or_false]at hw
  rcases hw with rfl | rfl | rfl | rfl
  ·decide
  ·decide
  ·exact wvb
  ·exact isW8 hep
 refine HC.mono (kG (kind:=11) (more:=0) (ws:=[8*0,20,vb,8*x.ep]) S5.view (eC (aF hc hH5) _ 0 0 (λj hj=>by
  simp only[wvs,List.map_cons,List.map_nil,List.length_cons,List.length_nil]at hj
  rcases(show j=0\/j=1\/j=2\/j=3 by omega)with rfl | rfl | rfl | rfl<;>rfl)) rfl hw4 ⟨by decide,by decide⟩ (by decide) (O.cnt S5.j) (by simp)) ?_
 rintro _ H6 ⟨rfl,V,fr6⟩
 obtain⟨t,x2,G2,h1,S6,r2,gg2,gt,ft,wt,w3,_,_,fr7⟩:=S5.made O (kind:=11) (by decide) (by simp) hw4 (λ_ w hw=>by
  simp only[List.mem_cons,List.not_mem_nil,or_false]at hw
  rcases hw with rfl | rfl | rfl | rfl
  ·exact O.fix S5.j 0
  ·exact O.nil S5.j
  ·exact gvb
  ·exact O.fix S5.j _) (by omega) V fr6
 rw[h1]
 have hne:t≠vb:=λq=>by rw[q,TF.upd_at]at ft;cases ft
 rw[TF.upd_ne th _ hne]at ft
 have rr:Rest 2 x x2:=r1.trans r2
 have he:=rr.ep
 refine⟨_,_,rfl,hR _ _ ⟨t,vb,x2,G2,_,rfl,⟨S6,?_,λ_ i hi p hp=>(by cases hp),by rw[he];exact hep,by decide⟩,λi hi p hp=>(by cases hp),rr,λv h=>gg2 v (gg1 v h),gt,wt,w3,ft,fvb,λu hu=>?_,fr1.trans (((e2.trans e4).trans e5).fr.trans fr7)⟩⟩
 ·refine⟨by rw[TF.upd_at,he];rfl,(TF.upd_ne _ _ (λq=>hne q.symm)).trans (TF.upd_at _ _ _),hne,by simp[W0],rfl,rfl,λi hi=>?_,λy hy=>by simp at hy,λi hi p hp=>(by cases hp),λy hy=>by simp at hy,λi j _ _ p hp=>(by cases hp),λi hi=>List.nodup_nil,List.nodup_nil,List.nodup_nil,⟨λ_=>0,λy hy=>by simp at hy,λp hp=>(by cases hp),λi hi p hp=>(by cases hp)⟩⟩
  show(List.replicate 31 (20:Int)).getD i 20=20
  rw[List.getD_eq_getElem?_getD,List.getElem?_replicate,if_pos hi];rfl
 ·rw[TF.upd_ne _ _ (λq=>hu (by rw[q];exact ft)),TF.upd_ne _ _ (λq=>hu (by rw[q];exact fvb))]
end
