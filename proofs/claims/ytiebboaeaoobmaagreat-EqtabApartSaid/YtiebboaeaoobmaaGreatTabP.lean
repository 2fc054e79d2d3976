/-
 Laws of tables: calls that collect nothing; two tables on one heap. Proves nothing of any one statement.
-/
import Derived.Test.YtiebboaeaoobmaaGreatTabL
import Derived.Test.YtiebboaeaoobmaaGreatTabO
set_option linter.unusedVariables false
set_option linter.unusedSimpArgs false
namespace Go.Proofs.YtiebboaeaoobmaaGreat
open Go

section
variable {J:Sp->(Int->Prop)->Prop} {H0 A A' H H':zV} {b:Blk} {x x':Hp} {G G':Int->Prop} {f f':PF} {th th':TF} {t t2 ew ew2:Int} {E E' E2:List Ent} {W W' W2:TW} {n:Int} {P q c:Nat} {keys:List Int} {B:zW} {L:List (Int×Int)}
theorem Mv.le{m:Int}(h:Mv x x' G G' f f' th th' t E E' W W' n)(hm:n<=m):Mv x x' G G' f f' th th' t E E' W W' m:=⟨h.rest.le hm,h.gg,h.far,h.farT,h.vb,h.new,h.some⟩
theorem Called.le{m:Int}{Q Q2:List (Int×Int)->Prop}{v:Value}(h:Called J H0 A b x G f th t E W P q keys B n Q v A')(hm:n<=m)(hq: ∀l,Q l->Q2 l):Called J H0 A b x G f th t E W P q keys B m Q2 v A':=by
 obtain⟨x',G',f',th',E',W',B',c',L',h1,h2,h3,h4,h5,h6⟩:=h
 exact⟨x',G',f',th',E',W',B',c',L',h1,h2,h3.le hm,h4,h5,hq _ h6⟩
structure Two (f:PF) (th:TF) (t:Int) (E:List Ent) (W:TW) (t2 ew2:Int) (E2:List Ent) (W2:TW):Prop where
 tb:Tb f th t2 ew2 E2 W2
 right:Right E2 W2
 ap: ∀u,OwnW E W u-> ¬OwnW E2 W2 u
 ne:t2≠t/\t2≠W.vb/\W2.vb≠t/\W2.vb≠W.vb
theorem Tb.own(T:Tb f th t ew E W){u:Int}(h:OwnW E W u):f u≠none:=by
 rcases h with⟨y,hy,e⟩ | ⟨p,hp,e⟩ | ⟨i,hi,p,hp,e⟩
 ·rw[<-e,T.ent y hy];simp
 ·obtain⟨d,h⟩:=T.spc.some p hp
  rw[<-e,h];simp
 ·obtain⟨d,h⟩:=(T.bkc i hi).some p hp
  rw[<-e,h];simp
theorem Two.mv(D:Two f th t E W t2 ew2 E2 W2)(m:Mv x x' G G' f f' th th' t E E' W W' n):Two f' th' t E' W' t2 ew2 E2 W2:=by
 have hf: ∀u,OwnW E2 W2 u->f' u=f u:=λu hu=>m.far u (λh=>D.ap u h hu) (D.tb.own hu)
 obtain⟨n1,n2,n3,n4⟩:=D.ne
 refine⟨D.tb.cong (λp hp=>hf _ (.inr (.inl ⟨p,hp,rfl⟩))) (λi hi p hp=>hf _ (.inr (.inr ⟨i,hi,p,hp,rfl⟩))) (λy hy=>hf _ (.inl ⟨y,hy,rfl⟩)) (m.farT _ n1 n2) (m.farT _ n3 n4),D.right,λu hu h2=>?_,⟨n1,by rw[m.vb];exact n2,n3,by rw[m.vb];exact n4⟩⟩
 rcases m.new u hu with h | h
 ·exact D.ap u h h2
 ·exact D.tb.own h2 h
theorem Two.swap(D:Two f th t E W t2 ew2 E2 W2)(T:Tb f th t ew E W)(R:Right E W):Two f th t2 E2 W2 t ew E W:=
 ⟨T,R,λu h1 h2=>D.ap u h2 h1,D.ne.1.symm,D.ne.2.2.1.symm,D.ne.2.1.symm,D.ne.2.2.2.symm⟩
set_option maxRecDepth 100000 in
set_option maxHeartbeats 2000000 in
theorem call14_c(O:JOK J)(S:PS J H0 A b x G f th t (8*x.ep) E W P q keys B c L){what key val gen:Int}{up:Bool}(hw:atR what 6≠5):
  morainelaw15_play_call.C (some ⟨P,0,none⟩) what key val gen up A (Called J H0 A b x G f th t E W P q keys B 40 (λ_=>True)):=by
 have hwr:=atR_rng (x:=what) (n:=6) (by decide)
 by_cases h01:atR what 6=0\/atR what 6=1
 ·exact HC.mono (callPut_c O S h01) (λv A' h=>h.le (by omega) (λ_ _=>trivial))
 refine HC.via λR hR=>morainelaw15_play_call.link ?_
 unfold morainelaw15_play_call.pt zY
 intro b0 H1 hb0 hH1
 have e1:Ext A H1:=Ext.push' hH1
 have g1:=push_get hb0 hH1
 refine⟨key,by rw[box_get g1];rfl,?_⟩
 refine HC.mono (at_c (x:=key) (n:=40) (by decide)) ?_
 rintro _ H2 ⟨rfl,rfl⟩
 refine⟨_,rfl,val,by rw[box_get g1];rfl,?_⟩
 refine HC.mono (at_c (x:=val) (n:=1000) (by decide)) ?_
 rintro _ H3 ⟨rfl,rfl⟩
 refine⟨_,rfl,what,by rw[hat_blk g1];rfl,?_⟩
 refine HC.mono (at_c (x:=what) (n:=6) (by decide)) ?_
 rintro _ H4 ⟨rfl,rfl⟩
 have hk:=atR_rng (x:=key) (n:=40) (by decide)
 have hv:=atR_rng (x:=val) (n:=1000) (by decide)
 refine⟨_,rfl,?_⟩
 have S4:=S.ext e1
 have hkl:=S4.play.len
 have hkey:=S4.play.key (i:=(atR key 40).toNat) (by omega)
 have hkm:=S4.kw _ (kOf_mem hkl hk)
 have rl:=S4.rel.rl
 have hkeys:=S4.ts.tb.keys
 have hfew:=S4.few
 have hlen:=S4.len
 obtain⟨d1,d2,d3,d4,d5⟩:=S4.dis
 have z1:=e1.size
 have stay: ∀{A2:zV} {x1:Hp} {G1:Int->Prop} {f1:PF} {th1:TF} {W1:TW} {n:Int},Op J H0 H4 A2 b x x1 G G1 f f1 th th1 t E E W W1 n->n<=40->R (.bool true) A2:=λ{A2 x1 G1 f1 th1 W1 n} P1 hn=>by
  have hr6:RefT A2 q B c L:=S4.ref.keep P1.fr (λj hj=>⟨λe=>d2 (e▸sub_all hj),λh=>d5 j h (sub_all hj)⟩)
  obtain⟨S7,fr,hb⟩:=S4.after P1.fr P1.ts hr6 (Fr.refl _ _) (λj hj=> .inl hj) rl.rel P1.gg
  exact hR _ _ ⟨x1,G1,f1,th1,_,W1,B,c,L,rfl,S7,P1.mv.le hn,e1.fr.trans fr,λj hj=> .inl hj,trivial⟩
 by_cases h2:atR what 6=2
 ·rw[if_pos h2]
  refine⟨_,rfl,_,S4.play.heap,_,S4.play.table,hk,_,hkey,?_⟩
  rw[kOf_get hkl hk]
  refine HC.mono (Get_c O S4.ts rfl hkm.1) ?_
  rintro _ H5 ⟨u,ok,x1,f1,th1,W1,rfl,hor,P1⟩
  have fr1:=P1.fr
  have hr5:RefT H5 q B c L:=S4.ref.keep fr1 (λj hj=>⟨λe=>d2 (e▸sub_all hj),λh=>d5 j h (sub_all hj)⟩)
  have pl5:=S4.play.keep fr1 (λh=>d1 (sub_all h))
  refine⟨_,_,_,rfl,_,pl5.ref,?_⟩
  refine HC.mono (refFind_c hr5 (by omega)) ?_
  rintro _ H6 ⟨i,rfl,hF,rfl⟩
  refine⟨_,rfl,?_⟩
  rcases hF with⟨j,hj,rfl,hjk,_⟩ | ⟨rfl,hnoL⟩
  ·rw[if_neg (by omega)]
   obtain⟨hE,q1,q2,q3,q4⟩:=rl.nth hj
   rw[hjk]at q1
   refine⟨λs A2=>A2=H6/\s=true,?_,λs A2 h=>?_⟩
   ·rcases hor with⟨rfl,y,hy,hyk,rfl⟩ | ⟨_,_,hno⟩
    case inr=>exact absurd q1 (hno _ (List.getElem_mem hE))
    have hye:=P1.ts.tb.oneK hy (List.getElem_mem hE) (hyk.trans q1.symm)
    rw[if_pos rfl,if_pos rfl]
    obtain⟨ra,hra,_,h2'⟩:=hr5.at' hj
    refine⟨_,pl5.ref,_,rfl,_,_,_,hat_blk hr5.cell,ra,hra,⟨by omega,by omega⟩,_,by rw[show Int.toNat (j:Int)*2=j*2 by omega];exact h2',?_⟩
    refine HC.mono (lfix_c q4) ?_
    rintro _ H8 ⟨rfl,rfl⟩
    exact⟨_,rfl,rfl,by rw[hye,q2];simp⟩
   ·obtain⟨rfl,rfl⟩:=h
    exact stay P1 (by omega)
  ·rw[if_pos (by decide)]
   rcases hor with⟨_,y,hy,hyk,_⟩ | ⟨rfl,rfl,hno⟩
   ·exact absurd hyk ((rl.none S4.nod hkl hk).1 hnoL y hy)
   ·exact stay P1 (by omega)
 rw[if_neg h2]
 by_cases h3:atR what 6=3
 ·rw[if_pos h3]
  refine⟨_,rfl,_,S4.play.heap,_,S4.play.table,hk,_,hkey,?_⟩
  rw[kOf_get hkl hk]
  refine HC.mono (Delete_c O S4.ts rfl hkm.1) ?_
  rintro _ H5 ⟨ok,x1,f1,th1,E1,W1,rfl,P1,hor⟩
  have fr1:=P1.fr
  have hr5:RefT H5 q B c L:=S4.ref.keep fr1 (λj hj=>⟨λe=>d2 (e▸sub_all hj),λh=>d5 j h (sub_all hj)⟩)
  have pl5:=S4.play.keep fr1 (λh=>d1 (sub_all h))
  refine⟨_,_,rfl,λs A2=>R (.bool s) A2,?_,λs A2 h=>h⟩
  rw[if_pos rfl]
  refine⟨_,pl5.ref,?_⟩
  refine HC.mono (refDelete_c hr5 (by omega)) ?_
  rintro _ H11 ⟨ok2,B',c',rfl,hr11,fr11,hB',hor2⟩
  refine⟨_,rfl,?_⟩
  have hno:=rl.none S4.nod hkl hk
  have hfin:ok=ok2/\Rel keys E1 (delL L (atR key 40)):=by
   rcases hor with⟨rfl,hin,rfl⟩ | ⟨rfl,rfl,hnoE⟩
   ·refine⟨?_,(rl.del S4.nod hkl hk hkeys).rel⟩
    rcases hor2 with⟨rfl,_⟩ | ⟨_,h⟩
    ·rfl
    ·obtain⟨y,hy,e⟩:=hin
     exact absurd e (hno.1 h y hy)
   ·have hnoL:=hno.2 hnoE
    refine⟨?_,by rw[delL_no L hnoL];exact rl.rel⟩
    rcases hor2 with⟨_,p,hp,e⟩ | ⟨rfl,_⟩
    ·exact absurd e (hnoL p hp)
    ·rfl
  obtain⟨rfl,hrel⟩:=hfin
  obtain⟨S7,fr,hb⟩:=S4.after fr1 P1.ts hr11 fr11 hB' hrel P1.gg
  rw[show(ok==ok)=true by simp]
  exact hR _ _ ⟨x1,G,f1,th1,E1,W1,B',c',_,rfl,S7,P1.mv.le (by omega),e1.fr.trans fr,λj hj=>(hb j hj).imp_right (λh=>by omega),trivial⟩
 rw[if_neg h3]
 have h4:atR what 6=4:=by omega
 rw[if_pos h4]
 have hn:=atR_rng (x:=val) (n:=40) (by decide)
 have hb0b:b0 ∉ [b.sp,b.m,b.s]:=λh=>by
  have:=S.ts.hs.blt b0 (sub_all h)
  omega
 refine⟨λi A2=>(0<=i/\i<=40)/\ ∃x' G' f',Op J H0 H4 A2 b x x' G G' f f' th th t E E W W i,λi _=>(40-i).toNat,⟨⟨by omega,by omega⟩,x,G,f,Op.stay S4.ts rfl (Ext.refl _)⟩,?_⟩
 rintro i A2 ⟨hi,x1,G1,f1,P1⟩
 refine⟨val,by rw[box_get (P1.fr.get hb0b g1)];rfl,?_⟩
 refine HC.mono (at_c (x:=val) (n:=40) (by decide)) ?_
 rintro _ A3 ⟨rfl,rfl⟩
 refine⟨_,rfl,?_⟩
 by_cases hlt:i<atR val 40
 case neg=>rw[if_neg hlt];exact stay P1 (by omega)
 rw[if_pos hlt]
 have pl:=S4.play.keep P1.fr (λh=>d1 (sub_all h))
 refine⟨_,rfl,_,pl.heap,?_⟩
 refine HC.mono (P1.ts.hs.cons_c O word20 word20 (O.nil P1.ts.hs.j) (O.nil P1.ts.hs.j)) ?_
 rintro _ A4 ⟨w,er,x2,G2,rfl,r2,gg2,fr2,hcase⟩
 refine⟨_,_,rfl,?_⟩
 have hd:((40:Int)-(i+1)).toNat< ((40:Int)-i).toNat:=by omega
 rw[w64 (n:=i+1) (by omega)]
 rcases hcase with⟨rfl,fw,_,S2⟩ | ⟨rfl,rfl,_,S2⟩
 ·exact⟨⟨⟨by omega,by omega⟩,x2,G2,_,P1.trans (Op.grow P1.ts r2 gg2 fr2 S2 (P1.ts.tb.grow fw) (λu hu=>PF.upd_ne _ _ (λe=>hu (by rw[e];exact fw)))) (by omega)⟩,hd⟩
 ·exact⟨⟨⟨by omega,by omega⟩,x2,G2,_,P1.trans (Op.grow P1.ts r2 gg2 fr2 S2 P1.ts.tb (λ_ _=>rfl)) (by omega)⟩,hd⟩
end
