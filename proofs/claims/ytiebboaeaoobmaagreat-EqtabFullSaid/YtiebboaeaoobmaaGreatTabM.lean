/-
 Laws of tables: what is told of a play, and its puts. Proves nothing of any one statement.
-/
import Derived.Test.YtiebboaeaoobmaaGreatTabK
import Derived.Test.YtiebboaeaoobmaaGreatFmorainelaw15
set_option linter.unusedVariables false
set_option linter.unusedSimpArgs false
namespace Go.Proofs.YtiebboaeaoobmaaGreat
open Go

structure Mv (x x':Hp) (G G':Int->Prop) (f f':PF) (th th':TF) (t:Int) (E E':List Ent) (W W':TW) (n:Int):Prop where
 rest:Rest n x x'
 gg: ∀v,G v->G' v
 far: ∀u,¬OwnW E W u->f u≠none->f' u=f u
 farT: ∀u,u≠t->u≠W.vb->th' u=th u
 vb:W'.vb=W.vb
 new: ∀u,OwnW E' W' u->OwnW E W u\/f u=none
 some: ∀u,f u≠none->f' u≠none
section
variable {J:Sp->(Int->Prop)->Prop} {H0 A A' H H':zV} {b:Blk} {x x':Hp} {G G':Int->Prop} {f f':PF} {th th':TF} {t ew:Int} {E E':List Ent} {W W':TW} {n:Int} {P q c:Nat} {keys:List Int} {B:zW} {L:List (Int×Int)}
theorem Op.mv(Q:Op J H0 H H' b x x' G G' f f' th th' t E E' W W' n):Mv x x' G G' f f' th th' t E E' W W' n:=⟨Q.rest,Q.gg,Q.far,Q.farT,Q.vb,Q.new,Q.some⟩
theorem TS.keep{T:List Nat}(S:TS J H0 H b x G f th t ew E W)(fr:Fr T H H')(h0: ∀j∈T,H0.size<=j)(hT: ∀j∈T,j ∉ b.all):TS J H0 H' b x G f th t ew E W:=⟨S.hs.keep fr h0 hT,S.tb,S.right,S.ep,S.few⟩
theorem PS.few(S:PS J H0 A b x G f th t ew E W P q keys B c L):E.length<=40:=S.rel.rl.few S.ts.tb.keys
theorem PS.len(S:PS J H0 A b x G f th t ew E W P q keys B c L):E.length=L.length:=S.rel.rl.len
theorem rowH{H:zV}{a:Addr}{v:Value}(h:hat H a=Option.some v):aL H a 0 [v]:=by
 refine⟨?_,trivial⟩
 rw[show a.add 0=a from rfl];exact h
theorem eG{j:Nat}(h:j∈[b.sp,b.m,b.s]):j∈b.all:=by simp at h;simp[Blk.all];omega
theorem rO{ws:List Int}{j:Nat}(h:j<ws.length):(wvs ws)[j]?=Option.some (.int .u64 ws[j]):=by
 unfold wvs
 rw[List.getElem?_map,List.getElem?_eq_getElem h];rfl
theorem k7{i:Int}(hl:keys.length=40)(hi:0<=i/\i<40):keys[i.toNat]'(by omega)=kOf keys i:=by
 unfold kOf
 rw[List.getD_eq_getElem?_getD,List.getElem?_eq_getElem (by omega)];rfl
theorem oT(S:PS J H0 A b x G f th t ew E W P q keys B c L):bD.C (some ⟨P,0,none⟩) A (λv A'=>v=.bool true/\Ext A A'):=by
 refine HC.via λR hR=>bD.link ?_
 unfold bD.pt zY
 have hfew:=S.few
 have hlen:=S.len
 have rl:=S.rel.rl
 refine⟨_,rfl,_,S.play.heap,_,S.play.table,?_⟩
 refine HC.mono (sM S.ts) ?_
 rintro _ H1 ⟨rfl,e1⟩
 have S1:=S.ext e1
 refine⟨_,_,rfl,_,S1.play.heap,_,S1.play.table,?_⟩
 refine HC.mono (tC S1.ts (by omega)) ?_
 rintro _ H2 ⟨kB,kc,rfl,ho,hkB,e2⟩
 have S2:=S1.ext e2
 refine⟨_,_,_,_,rfl,_,S2.play.heap,_,S2.play.table,?_⟩
 refine HC.mono (rL S2.ts (by omega)) ?_
 rintro _ H3 ⟨vB,vc,rfl,hov,hvB,e3⟩
 have S3:=S2.ext e3
 have ho3:=ho.ext e3
 refine⟨_,_,_,_,rfl,?_⟩
 rw[if_pos rfl,if_pos rfl,if_pos rfl]
 refine⟨_,S3.play.ref,_,rfl,_,_,_,aK S3.ref.cell,?_⟩
 rw[if_neg (by simp[hlen])]
 refine⟨λi A=>A=H3/\0<=i/\i<=(E.length:Int),λi _=>((E.length:Int)-i).toNat,⟨rfl,by omega,by omega⟩,?_⟩
 rintro i A ⟨rfl,hi0,hil⟩
 by_cases hlt:i< (E.length:Int)
 ·rw[if_pos hlt]
  have hj:i.toNat<L.length:=by omega
  obtain⟨hE,r1,r2,r3,r4⟩:=rl.nth hj
  obtain⟨ka,hka,hk1⟩:=ho3.at (rO (ws:=E.map Ent.k) (j:=i.toNat) (by simpa using hE))
  obtain⟨va,hva,hv1⟩:=hov.at (rO (ws:=E.map Ent.v) (j:=i.toNat) (by simpa using hE))
  obtain⟨ra,hra,h1,h2⟩:=S3.ref.at' hj
  rw[List.getElem_map]at hk1 hv1
  have hkl:=S3.play.len
  refine⟨ka,hka,⟨hi0,hlt⟩,_,by rw[Nat.mul_one];exact hk1,_,S3.play.ref,_,rfl,_,_,_,aK S3.ref.cell,ra,hra,⟨hi0,by omega⟩,_,h1,r3,_,S3.play.key (by omega),?_⟩
  rw[k7 hkl r3,if_pos r1]
  refine⟨va,hva,⟨hi0,hlt⟩,_,by rw[Nat.mul_one];exact hv1,_,S3.play.ref,_,rfl,_,_,_,aK S3.ref.cell,ra,hra,⟨hi0,by omega⟩,_,h2,?_⟩
  refine HC.mono (kI r4) ?_
  rintro _ H4 ⟨rfl,rfl⟩
  refine⟨_,rfl,?_,?_⟩
  ·have hv1':hat H4 (va.add (i.toNat*1))=Option.some (.int .u64 E[i.toNat].v):=by rw[Nat.mul_one];exact hv1
   exact⟨by rw[show va.add (i.toNat*1)=(va.add (i.toNat*1)).add 0 from rfl]at hv1';exact hv1',trivial⟩
  ·rw[if_pos r2]
   have hd:((E.length:Int)-(i+1)).toNat< ((E.length:Int)-i).toNat:=by omega
   rw[w64 (n:=i+1) (by omega)]
   exact⟨⟨rfl,by omega,by omega⟩,hd⟩
 ·rw[if_neg hlt]
  exact hR _ _ ⟨rfl,(e1.trans e2).trans e3⟩
def mD(J:Sp->(Int->Prop)->Prop)(H0 A:zV)(b:Blk)(x:Hp)(G:Int->Prop)(f:PF)(th:TF)(t:Int)(E:List Ent)(W:TW)(P q:Nat)(keys:List Int)(B:zW)(n:Int)(Q:List (Int×Int)->Prop)(v:Value)(A':zV):Prop:=
 ∃x' G' f' th' E' W' B' c' L',v=.bool true/\PS J H0 A' b x' G' f' th' t (8*x'.ep) E' W' P q keys B' c' L'/\Mv x x' G G' f f' th th' t E E' W W' n/\Fr ([b.sp,b.m,b.s]++q::blks B) A A'/\(∀j∈blks B',j∈blks B\/A.size<=j)/\Q L'
theorem PS.after(S:PS J H0 A b x G f th t ew E W P q keys B c L){A1 A2:zV}{B':zW}{c':Nat}{L':List (Int×Int)}(fr:Fr [b.sp,b.m,b.s] A A1)(T:TS J H0 A1 b x' G' f' th' t (8*x'.ep) E' W')(hr:RefT A2 q B' c' L')(fr2:Fr (q::blks B) A1 A2)(hB: ∀j∈blks B',j∈blks B\/A1.size<=j)(hrel:Rel keys E' L')(gg: ∀v,G v->G' v):
  PS J H0 A2 b x' G' f' th' t (8*x'.ep) E' W' P q keys B' c' L'/\Fr ([b.sp,b.m,b.s]++q::blks B) A A2/\ ∀j∈blks B',j∈blks B\/A.size<=j:=by
 obtain⟨d1,d2,d3,d4,d5⟩:=S.dis
 obtain⟨g1,g2,g3⟩:=S.ge
 have hblt:=S.ts.hs.blt
 have hP:=aY S.play.cell
 have z1:=fr.size
 have z0:=S.ts.hs.e.size
 have hq: ∀j∈q::blks B,H0.size<=j/\j ∉ b.all/\P≠j:=λj hj=>by
  rcases List.mem_cons.1 hj with rfl | h
  ·exact⟨g2,d2,d3⟩
  ·exact⟨g3 j h,d5 j h,λe=>d4 (e▸h)⟩
 refine⟨⟨T.keep fr2 (λj hj=>(hq j hj).1) (λj hj=>(hq j hj).2.1),(S.play.keep fr (λh=>d1 (eG h))).keep fr2 (λh=>(hq P h).2.2 rfl),hr,⟨d1,d2,d3,λh=>?_,λj hj h=>?_⟩,⟨g1,g2,λj hj=>?_⟩,hrel,λk hk=>⟨(S.kw k hk).1,gg k (S.kw k hk).2⟩,S.nod⟩,(fr.mono (λi hi _=>by simp at hi⊢;omega)).trans (fr2.mono (λi hi _=>by simp at hi⊢;rcases hi with h | h<;>simp[h])),λj hj=>(hB j hj).imp_right (λh=>by omega)⟩
 ·rcases hB P h with h | h
  ·exact d4 h
  ·omega
 ·rcases hB j hj with h' | h'
  ·exact d5 j h' h
  ·have:=hblt j h;omega
 ·rcases hB j hj with h' | h'
  ·exact g3 j h'
  ·omega
set_option maxRecDepth 100000 in
theorem ki(O:JOK J)(S:PS J H0 A b x G f th t ew E W P q keys B c L){what key val gen:Int}{up:Bool}(hw:atR what 6=0\/atR what 6=1):
  aO.C (some ⟨P,0,none⟩) what key val gen up A (mD J H0 A b x G f th t E W P q keys B 3 (λL'=>3<=x.sp.mem.free->L'=putL L (atR key 40) (atR val 1000))):=by
 refine HC.via λR hR=>aO.link ?_
 unfold aO.pt zY
 intro b0 H1 hb0 hH1
 have e1:Ext A H1:=Ext.push' hH1
 have g1:=aF hb0 hH1
 refine⟨key,by rw[fF g1];rfl,?_⟩
 refine HC.mono (at_c (x:=key) (n:=40) (by decide)) ?_
 rintro _ H2 ⟨rfl,rfl⟩
 refine⟨_,rfl,val,by rw[fF g1];rfl,?_⟩
 refine HC.mono (at_c (x:=val) (n:=1000) (by decide)) ?_
 rintro _ H3 ⟨rfl,rfl⟩
 refine⟨_,rfl,what,by rw[aK g1];rfl,?_⟩
 refine HC.mono (at_c (x:=what) (n:=6) (by decide)) ?_
 rintro _ H4 ⟨rfl,rfl⟩
 have hk:=iF (x:=key) (n:=40) (by decide)
 have hv:=iF (x:=val) (n:=1000) (by decide)
 refine⟨_,rfl,?_⟩
 rw[if_neg (by omega),if_neg (by omega),if_neg (by omega),if_neg (by omega)]
 have S4:=S.ext e1
 have hkl:=S4.play.len
 have hkey:=S4.play.key (i:=(atR key 40).toNat) (by omega)
 refine⟨_,rfl,_,S4.play.heap,_,S4.play.table,hk,_,hkey,?_⟩
 refine HC.mono (kI hv) ?_
 rintro _ H5 ⟨rfl,rfl⟩
 refine⟨_,rfl,rowH S4.play.heap,rowH S4.play.table,rowH hkey,?_⟩
 rw[k7 hkl hk]
 have hkm:=S4.kw _ (n9 hkl hk)
 have rl:=S4.rel.rl
 have hkeys:=S4.ts.tb.keys
 have hfew:=S4.few
 have hlen:=S4.len
 refine HC.mono (tn O S4.ts hkm.1 (isW8 (n:=atR val 1000) (by omega)) hkm.2 (O.fix S4.ts.hs.j _) (by omega)) ?_
 rintro _ H6 ⟨r,x1,G1,f1,th1,E1,W1,rfl,P1,c1,c2⟩
 refine⟨_,rfl,?_⟩
 have fr1:=P1.fr
 obtain⟨d1,d2,d3,d4,d5⟩:=S4.dis
 have hr6:RefT H6 q B c L:=S4.ref.keep fr1 (λj hj=>⟨λe=>d2 (e▸eG hj),λh=>d5 j h (eG hj)⟩)
 have pl6:=S4.play.keep fr1 (λh=>d1 (eG h))
 have go:r=0->Rel keys E1 (putL L (atR key 40) (atR val 1000))->(if r=2 then∃x_33,hat H6 ((Addr.mk P 0 none).add 42)=some (.pointer x_33)/\aU.C x_33 (atR key 40) H6 (λv_15 H19=> ∃x_34:Int,v_15=.int .i64 x_34/\R (.bool (decide (x_34<0))) H19)else∃x_35:zW,hat H6 ((Addr.mk P 0 none).add 42)=some (.pointer x_35)/\bF.C x_35 (atR key 40) (atR val 1000) H6 (λ_ H20=>R (.bool (r==0)) H20)):=λr0 hrel=>by
  subst r0
  rw[if_neg (by decide)]
  refine⟨_,pl6.ref,?_⟩
  refine HC.mono (oS hr6 (by omega)) ?_
  rintro _ H7 ⟨B',c',hr7,fr7,hB'⟩
  obtain⟨S7,fr,hb⟩:=S4.after fr1 P1.ts hr7 fr7 hB' hrel P1.gg
  exact hR _ _ ⟨x1,G1,f1,th1,E1,W1,B',c',_,rfl,S7,P1.mv,e1.fr.trans fr,λj hj=>(hb j hj).imp_right (λh=>by have:=e1.size;omega),λ_=>rfl⟩
 by_cases hin: ∃y∈E,y.k=kOf keys (atR key 40)
 ·obtain⟨r0,rfl⟩:=c1 hin
  exact go r0 (rl.put S4.nod hkl hk hv hkeys hin).rel
 ·have hno: ∀y∈E,y.k≠kOf keys (atR key 40):=λy hy e=>hin ⟨y,hy,e⟩
  have hnoL:=(rl.none S4.nod hkl hk).2 hno
  rcases c2 hno with⟨r0,e,rfl,-⟩ | ⟨r2,rfl,hf⟩
  ·exact go r0 (rl.new hk hv hnoL e).rel
  ·rw[if_pos r2]
   refine⟨_,pl6.ref,?_⟩
   refine HC.mono (jz hr6 (by omega)) ?_
   rintro _ H7 ⟨i,rfl,hF,rfl⟩
   rcases hF with⟨j,hj,rfl,hk',_⟩ | ⟨rfl,_⟩
   ·exact absurd hk' (hnoL _ (List.getElem_mem hj))
   ·obtain⟨S7,fr,hb⟩:=S4.after fr1 P1.ts hr6 (Fr.refl _ _) (λj hj=> .inl hj) rl.rel P1.gg
    exact⟨_,rfl,hR _ _ ⟨x1,G1,f1,th1,_,W1,B,c,L,rfl,S7,P1.mv,e1.fr.trans fr,λj hj=> .inl hj,λh=>absurd hf (by omega)⟩⟩
end

theorem rP:J1 ⟨Mem.fresh 200,λ_ _=>0⟩ (λ_=>True):=⟨kF (by decide),my _,by decide,λ_=>trivial⟩
theorem qK{H:zV}:bM.C H (λv H'=>v=.bool true/\Ext H H'):=by
 refine HC.via λR hR=>bM.link ?_
 unfold bM.pt
 refine HC.mono (qr qo rP) ?_
 rintro _ H1 ⟨b,x,G,f,th,t,W,P,q,keys,rfl,S,hep,hfr,-,-⟩
 refine⟨_,rfl,?_⟩
 rw[onPtr_some]
 refine HC.mono (ki qo S (what:=0) (key:=0) (val:=1) (gen:=0) (up:=false) (.inl (by decide))) ?_
 rintro _ H2 ⟨x2,G2,f2,th2,E2,W2,B2,c2,L2,rfl,S2,mv2,-,-,hL2⟩
 have hL2:=hL2 (by omega)
 have hf2:=mv2.rest.free
 refine⟨_,rfl,?_⟩
 rw[if_pos rfl]
 refine HC.mono (ki qo S2 (what:=0) (key:=1) (val:=2) (gen:=0) (up:=false) (.inl (by decide))) ?_
 rintro _ H3 ⟨x3,G3,f3,th3,E3,W3,B3,c3,L3,rfl,S3,mv3,-,-,hL3⟩
 have hL3:=hL3 (by omega)
 have hf3:=mv3.rest.free
 refine⟨_,rfl,?_⟩
 rw[if_pos rfl]
 refine HC.mono (ki qo S3 (what:=0) (key:=0) (val:=3) (gen:=0) (up:=false) (.inl (by decide))) ?_
 rintro _ H4 ⟨x4,G4,f4,th4,E4,W4,B4,c4,L4,rfl,S4,mv4,-,-,hL4⟩
 have hL4:=hL4 (by omega)
 refine⟨_,rfl,?_⟩
 rw[if_pos rfl]
 refine HC.mono (oT S4) ?_
 rintro _ H5 ⟨rfl,e5⟩
 refine⟨_,rfl,?_⟩
 rw[if_pos rfl]
 have S5:=S4.ext e5
 refine⟨_,S5.play.ref,_,rfl,_,_,_,aK S5.ref.cell,hR _ _ ⟨?_,S5.ts.hs.e⟩⟩
 have hlen:L4.length=2:=by rw[hL4,hL3,hL2];decide
 rw[hlen];rfl
