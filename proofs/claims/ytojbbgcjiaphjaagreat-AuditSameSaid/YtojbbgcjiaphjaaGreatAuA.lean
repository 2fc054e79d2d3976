/-
 Pictures that are the same, or are not. Proves nothing of any one statement.
-/
import Derived.Test.YtojbbgcjiaphjaaGreatText
import Derived.Test.YtojbbgcjiaphjaaGreatAct14
import Derived.Test.YtojbbgcjiaphjaaGreatFaudit2
import Derived.Test.YtojbbgcjiaphjaaGreatFref14
set_option linter.unusedVariables false
set_option linter.unusedSimpArgs false
namespace Go.Proofs.YtojbbgcjiaphjaaGreat
open Go
open Go.ChangeShapes Go.WideShapes

theorem dQ{A A2 A3:zV}{b:Nat}{cs:Array Value}{T:TypeId}(hb:b=A.size)(hA2:A2=A.push (.cells cs T (0,0)))(vs:List Value)(hl:vs.length=cs.size):
  aK A2 (Addr.mk b 0 none) 0 vs.length/\(A3=aU A2 (Addr.mk b 0 none) vs 0->A3[b]?=some (.cells (splice cs 0 vs) T (0,0))/\Ext A A3):=by
 have g:=aG hb hA2
 have e:Ext A A2:=Ext.push' hA2
 refine⟨cU g _ _ _ (by omega),λhA3=>?_⟩
 rw[bV vs A2 cs 0 0 g]at hA3
 rw[hA3]
 have f:Fr [b] A2 (aF A2 b (.cells (splice cs (0+0) vs) T (0,0))):=Fr.set
 exact⟨aX (aO g),e.fr_trans f (λi hi=>by simp at hi;omega)⟩

theorem pB{H:zV}{p q:zW}{n m c d:Nat}{xs ys:List Int}(A:Nums H .u64 p n xs)(B:Nums H .u64 q m ys)(hn:n<=maxLen):
  aV.C p n c q m d H (λv H'=>v=.bool (decide (xs=ys))/\H'=H):=by
 refine HC.via λR hR=>aV.link ?_
 unfold aV.pt zY
 have hx:=A.len
 have hy:=B.len
 have hM:maxLen=9223372036854775807:=rfl
 by_cases hnm:(n:Int)=(m:Int)
 case neg=>rw[if_neg hnm];exact hR _ _ ⟨by rw[zQ];intro q;rw[q]at hx;omega,rfl⟩
 rw[if_pos hnm]
 refine⟨λi A'=>A'=H/\ ∃k:Nat,i=k/\k<=n/\ ∀j,j<k->xs[j]?=ys[j]?,λi _=>((n:Int)-i).toNat,⟨rfl,0,rfl,by omega,λj h=>by omega⟩,?_⟩
 rintro _ _ ⟨rfl,k,rfl,hk,he⟩
 by_cases hlt:(k:Int)< (n:Int)
 case neg=>
  rw[if_neg hlt]
  have hq:xs=ys:=List.ext_getElem? λj=>by
   by_cases hj:j<k
   ·exact he j hj
   ·rw[List.getElem?_eq_none (by omega),List.getElem?_eq_none (by omega)]
  exact hR _ _ ⟨by rw[zX hq],rfl⟩
 rw[if_pos hlt]
 have hkx:k<xs.length:=by omega
 have hky:k<ys.length:=by omega
 obtain⟨a,ha1,ha⟩:=A.at hkx
 obtain⟨b,hb1,hb⟩:=B.at hky
 refine⟨a,ha1,⟨by omega,hlt⟩,_,by rw[show Int.toNat (k:Int)=k by omega];exact ha,b,hb1,⟨by omega,by omega⟩,_,by rw[show Int.toNat (k:Int)=k by omega];exact hb,?_⟩
 by_cases hxy:xs[k]=ys[k]
 ·rw[if_pos hxy]
  have hw:IntKind.wrap .i64 ((k:Int)+1)=((k+1:Nat):Int):=by rw[w64 (n:=(k:Int)+1) (by omega)];omega
  rw[hw]
  refine⟨⟨rfl,k+1,rfl,by omega,λj h=>?_⟩,by show((n:Int)-((k+1:Nat):Int)).toNat< ((n:Int)-(k:Int)).toNat;omega⟩
  by_cases hjk:j=k
  ·subst hjk;rw[List.getElem?_eq_getElem hkx,List.getElem?_eq_getElem hky,hxy]
  ·exact he j (by omega)
 ·rw[if_neg hxy]
  exact hR _ _ ⟨by rw[zQ];intro q;subst q;exact hxy rfl,rfl⟩
theorem pC{H:zV}{p q:zW}{n m c d:Nat}{xs ys:List Int}(A:Nums H .i64 p n xs)(B:Nums H .i64 q m ys)(hn:n<=maxLen):
  bP.C p n c q m d H (λv H'=>v=.bool (decide (xs=ys))/\H'=H):=by
 refine HC.via λR hR=>bP.link ?_
 unfold bP.pt zY
 have hx:=A.len
 have hy:=B.len
 have hM:maxLen=9223372036854775807:=rfl
 by_cases hnm:(n:Int)=(m:Int)
 case neg=>rw[if_neg hnm];exact hR _ _ ⟨by rw[zQ];intro q;rw[q]at hx;omega,rfl⟩
 rw[if_pos hnm]
 refine⟨λi A'=>A'=H/\ ∃k:Nat,i=k/\k<=n/\ ∀j,j<k->xs[j]?=ys[j]?,λi _=>((n:Int)-i).toNat,⟨rfl,0,rfl,by omega,λj h=>by omega⟩,?_⟩
 rintro _ _ ⟨rfl,k,rfl,hk,he⟩
 by_cases hlt:(k:Int)< (n:Int)
 case neg=>
  rw[if_neg hlt]
  have hq:xs=ys:=List.ext_getElem? λj=>by
   by_cases hj:j<k
   ·exact he j hj
   ·rw[List.getElem?_eq_none (by omega),List.getElem?_eq_none (by omega)]
  exact hR _ _ ⟨by rw[zX hq],rfl⟩
 rw[if_pos hlt]
 have hkx:k<xs.length:=by omega
 have hky:k<ys.length:=by omega
 obtain⟨a,ha1,ha⟩:=A.at hkx
 obtain⟨b,hb1,hb⟩:=B.at hky
 refine⟨a,ha1,⟨by omega,hlt⟩,_,by rw[show Int.toNat (k:Int)=k by omega];exact ha,b,hb1,⟨by omega,by omega⟩,_,by rw[show Int.toNat (k:Int)=k by omega];exact hb,?_⟩
 by_cases hxy:xs[k]=ys[k]
 ·rw[if_pos hxy]
  have hw:IntKind.wrap .i64 ((k:Int)+1)=((k+1:Nat):Int):=by rw[w64 (n:=(k:Int)+1) (by omega)];omega
  rw[hw]
  refine⟨⟨rfl,k+1,rfl,by omega,λj h=>?_⟩,by show((n:Int)-((k+1:Nat):Int)).toNat< ((n:Int)-(k:Int)).toNat;omega⟩
  by_cases hjk:j=k
  ·subst hjk;rw[List.getElem?_eq_getElem hkx,List.getElem?_eq_getElem hky,hxy]
  ·exact he j (by omega)
 ·rw[if_neg hxy]
  exact hR _ _ ⟨by rw[zQ];intro q;subst q;exact hxy rfl,rfl⟩
def keyK(x:eM):Int×Int×Int×List Int×List Int:=(x.tag,x.type,x.more,x.words.xs,x.is.xs)
set_option maxRecDepth 100000 in
theorem qc{H:zV}{x y:eM}(hx:eU.ok maxLen H x)(hy:eU.ok maxLen H y):
  fC.C x.tag x.type x.more x.words.p x.words.n x.words.c x.is.p x.is.n x.is.c y.tag y.type y.more y.words.p y.words.n y.words.c y.is.p y.is.n y.is.c H (λv H'=>v=.bool (decide (keyK x=keyK y))/\Ext H H'):=by
 refine HC.via λR hR=>fC.link ?_
 unfold fC.pt
 intro b H1 hb hH1 b2 H2 hb2 hH2
 have e1:Ext H H1:=Ext.push' hH1
 have e2:Ext H1 H2:=Ext.push' hH2
 have g1:=e2.get (aG hb hH1)
 have g2:=aG hb2 hH2
 have e:=e1.trans e2
 have no: ∀{A:zV},Ext H A->keyK x≠keyK y->R (.bool false) A:=λeA h=>hR _ _ ⟨by rw[zQ h],eA⟩
 refine⟨x.tag,by rw[aI g1];rfl,y.tag,by rw[aI g2];rfl,?_⟩
 by_cases h1:x.tag=y.tag
 case neg=>rw[if_neg h1];exact no e (λq=>h1 (congrArg (λz=>z.1) q))
 rw[if_pos h1]
 refine⟨x.type,by rw[cD g1];rfl,y.type,by rw[cD g2];rfl,?_⟩
 by_cases h2:x.type=y.type
 case neg=>rw[if_neg h2];exact no e (λq=>h2 (congrArg (λz=>z.2.1) q))
 rw[if_pos h2]
 refine⟨x.more,by rw[cD g1];rfl,y.more,by rw[cD g2];rfl,?_⟩
 by_cases h3:x.more=y.more
 case neg=>rw[if_neg h3];exact no e (λq=>h3 (congrArg (λz=>z.2.2.1) q))
 rw[if_pos h3]
 refine⟨_,_,_,by rw[cD g1];rfl,_,_,_,by rw[cD g2];rfl,?_⟩
 refine HC.mono (pB ((SlOK.nums hx.words).ext e) ((SlOK.nums hy.words).ext e) hx.words.le) ?_
 rintro _ _ ⟨rfl,rfl⟩
 refine⟨_,rfl,?_⟩
 by_cases h4:x.words.xs=y.words.xs
 case neg=>rw[if_neg (by rw[decide_eq_true_eq];exact h4)];exact no e (λq=>h4 (congrArg (λz=>z.2.2.2.1) q))
 rw[if_pos (zX h4)]
 refine⟨_,_,_,by rw[cD g1];rfl,_,_,_,by rw[cD g2];rfl,?_⟩
 refine HC.mono (pC ((SlOK.nums hx.is).ext e) ((SlOK.nums hy.is).ext e) hx.is.le) ?_
 rintro _ _ ⟨rfl,rfl⟩
 refine⟨_,rfl,hR _ _ ⟨?_,e⟩⟩
 congr 1
 rw[decide_eq_decide]
 exact⟨λh5=>by unfold keyK;rw[h1,h2,h3,h4,h5],λq=>congrArg (λz=>z.2.2.2.2) q⟩
theorem oq{a b:List eM}{k:Nat}(h1:k<a.length)(h2:k<b.length)(h:keyK a[k]≠keyK b[k]):a.map keyK≠b.map keyK:=λq=>h (by
 have e:(a.map keyK)[k]?=(b.map keyK)[k]?:=by rw[q]
 rw[List.getElem?_map,List.getElem?_map,List.getElem?_eq_getElem h1,List.getElem?_eq_getElem h2]at e
 simpa using e)
theorem m7{a b:List eM}(hl:a.length=b.length)(h: ∀(j:Nat) (h1:j<a.length) (h2:j<b.length),keyK a[j]=keyK b[j]):a.map keyK=b.map keyK:=by
 refine List.ext_getElem (by simpa using hl) λj h1 h2=>?_
 rw[List.getElem_map,List.getElem_map]
 exact h j (by simpa using h1) (by simpa using h2)
set_option maxRecDepth 100000 in
theorem ou{H:zV}{a b:Sl eM}(A:SlOK 5 eU maxLen H a)(B:SlOK 5 eU maxLen H b):
  fH.C a.p a.n a.c b.p b.n b.c H (λv H'=>v=.bool (decide (a.xs.map keyK=b.xs.map keyK))/\Ext H H'):=by
 refine HC.via λR hR=>fH.link ?_
 unfold fH.pt
 refine HC.mono (R:=λv H'=>v=.bool (decide (a.xs.map keyK=b.xs.map keyK))/\Ext H H') ?_ (λv H' ⟨h1,h2⟩=>⟨_,h1,hR _ _ ⟨rfl,h2⟩⟩)
 refine HC.via λR hR=>aH.link ?_
 unfold aH.pt zY
 have hal:=A.len
 have hbl:=B.len
 have han:=A.le
 by_cases hnm:(a.n:Int)=(b.n:Int)
 case neg=>rw[if_neg hnm];exact hR _ _ ⟨by rw[zQ];intro q;have:=congrArg List.length q;simp at this;omega,Ext.refl _⟩
 rw[if_pos hnm]
 have hM:maxLen=9223372036854775807:=rfl
 refine⟨λi A'=>Ext H A'/\ ∃k:Nat,i=k/\k<=a.n/\ ∀(j:Nat) (h1:j<a.xs.length) (h2:j<b.xs.length),j<k->keyK a.xs[j]=keyK b.xs[j],λi _=>((a.n:Int)-i).toNat,⟨Ext.refl _,0,rfl,by omega,λj _ _ h=>by omega⟩,?_⟩
 rintro _ H1 ⟨e1,k,rfl,hk,he⟩
 by_cases hlt:(k:Int)< (a.n:Int)
 case neg=>rw[if_neg hlt];exact hR _ _ ⟨by rw[zX (m7 (by omega) (λj h1 h2=>he j h1 h2 (by omega)))],e1⟩
 rw[if_pos hlt]
 have hka:k<a.xs.length:=by omega
 have hkb:k<b.xs.length:=by omega
 obtain⟨pa,hpa,ra⟩:=(A.ext e1).row k hka
 have oa:=(A.ext e1).each _ (List.getElem_mem hka)
 refine⟨pa,hpa,⟨by omega,hlt⟩,_,_,_,_,_,_,_,_,_,by rw[show Int.toNat (k:Int)=k by omega];exact ra,λb1 H2 hb1 hH2=>?_⟩
 refine⟨(dQ (A3:=H2) hb1 hH2 (eU.cells a.xs[k]) rfl).1,λH3 hH3=>?_⟩
 obtain⟨g3,e3⟩:=(dQ hb1 hH2 (eU.cells a.xs[k]) rfl).2 hH3
 have e13:=e1.trans e3
 obtain⟨pb,hpb,rb⟩:=(B.ext e13).row k hkb
 refine⟨pb,hpb,⟨by omega,by omega⟩,_,_,_,_,_,_,_,_,_,by rw[show Int.toNat (k:Int)=k by omega];exact rb,λb2 H4 hb2 hH4=>?_⟩
 refine⟨(dQ (A3:=H4) hb2 hH4 (eU.cells b.xs[k]) rfl).1,λH5 hH5=>?_⟩
 obtain⟨g5,e5⟩:=(dQ hb2 hH4 (eU.cells b.xs[k]) rfl).2 hH5
 have e15:=e13.trans e5
 refine⟨_,_,_,_,_,_,_,_,_,fL (e5.get g3) (eU.cells a.xs[k]) 0 0 (λj hj=>?_),_,_,_,_,_,_,_,_,_,fL g5 (eU.cells b.xs[k]) 0 0 (λj hj=>?_),?_⟩
 ·rcases(show j=0\/j=1\/j=2\/j=3\/j=4 by have:j<5:=hj;omega)with rfl | rfl | rfl | rfl | rfl<;>rfl
 ·rcases(show j=0\/j=1\/j=2\/j=3\/j=4 by have:j<5:=hj;omega)with rfl | rfl | rfl | rfl | rfl<;>rfl
 refine FC.of (enters_of Tryz.func24 (by kernel_rfl) rfl) (HC.mono (qc (H:=H5) ((A.ext e15).each _ (List.getElem_mem hka)) ((B.ext e15).each _ (List.getElem_mem hkb))) ?_)
 rintro _ H6 ⟨rfl,e6⟩
 refine⟨_,rfl,?_⟩
 by_cases hq:keyK a.xs[k]=keyK b.xs[k]
 case neg=>rw[if_neg (by rw[decide_eq_true_eq];exact hq)];exact hR _ _ ⟨by rw[zQ (oq hka hkb hq)],e15.trans e6⟩
 rw[if_pos (zX hq)]
 have hw:IntKind.wrap .i64 ((k:Int)+1)=((k+1:Nat):Int):=by rw[w64 (n:=(k:Int)+1) (by omega)];omega
 rw[hw]
 refine⟨⟨e15.trans e6,k+1,rfl,by omega,λj h1 h2 h=>?_⟩,by show((a.n:Int)-((k+1:Nat):Int)).toNat< ((a.n:Int)-(k:Int)).toNat;omega⟩
 by_cases hjk:j=k
 ·subst hjk;exact hq
 ·exact he j h1 h2 (by omega)
theorem kD{A:zV}{b:Nat}{cs:Array Value}{T:TypeId}(g:A[b]?=some (.cells cs T (0,0)))(vs:List Value)(hl:vs.length=cs.size):
  aK A (Addr.mk b 0 none) 0 vs.length/\ ∀A',A'=aU A (Addr.mk b 0 none) vs 0->A'[b]?=some (.cells (splice cs 0 vs) T (0,0))/\Fr [b] A A':=by
 refine⟨cU g _ _ _ (by omega),λA' hA'=>?_⟩
 rw[bV vs A cs 0 0 g]at hA'
 rw[hA']
 exact⟨aX (aO g),Fr.set⟩
set_option maxRecDepth 100000 in
set_option maxHeartbeats 2000000 in
theorem qd{H:zV}{a b:Sl eM}(A:SlOK 5 eU maxLen H a)(B:SlOK 5 eU maxLen H b):
  cF.C a.p a.n a.c b.p b.n b.c H (λv H'=>v=.bool (decide (a.xs.map keyK=b.xs.map keyK))/\Ext H H'):=by
 refine HC.via λR hR=>cF.link ?_
 unfold cF.pt zY
 have hal:=A.len
 have hbl:=B.len
 have han:=A.le
 by_cases hnm:(a.n:Int)=(b.n:Int)
 case neg=>rw[if_neg hnm];exact hR _ _ ⟨by rw[zQ];intro q;have:=congrArg List.length q;simp at this;omega,Ext.refl _⟩
 rw[if_pos hnm]
 have hM:maxLen=9223372036854775807:=rfl
 refine⟨λi A'=>Ext H A'/\ ∃k:Nat,i=k/\k<=a.n/\ ∀(j:Nat) (h1:j<a.xs.length) (h2:j<b.xs.length),j<k->keyK a.xs[j]=keyK b.xs[j],λi _=>((a.n:Int)-i).toNat,⟨Ext.refl _,0,rfl,by omega,λj _ _ h=>by omega⟩,?_⟩
 rintro _ H1 ⟨e1,k,rfl,hk,he⟩
 by_cases hlt:(k:Int)< (a.n:Int)
 case neg=>rw[if_neg hlt];exact hR _ _ ⟨by rw[zX (m7 (by omega) (λj h1 h2=>he j h1 h2 (by omega)))],e1⟩
 rw[if_pos hlt]
 have hka:k<a.xs.length:=by omega
 have hkb:k<b.xs.length:=by omega
 obtain⟨pa,hpa,ra⟩:=(A.ext e1).row k hka
 obtain⟨pb,hpb,rb⟩:=(B.ext e1).row k hkb
 have oa:=(A.ext e1).each _ (List.getElem_mem hka)
 have ob:=(B.ext e1).each _ (List.getElem_mem hkb)
 have hw:IntKind.wrap .i64 ((k:Int)+1)=((k+1:Nat):Int):=by rw[w64 (n:=(k:Int)+1) (by omega)];omega
 have fin: ∀{A':zV},Ext H A'->keyK a.xs[k]=keyK b.xs[k]->(Ext H A'/\ ∃k':Nat,IntKind.wrap .i64 ((k:Int)+1)=k'/\k'<=a.n/\ ∀(j:Nat) (h1:j<a.xs.length) (h2:j<b.xs.length),j<k'->keyK a.xs[j]=keyK b.xs[j])/\((a.n:Int)-IntKind.wrap .i64 ((k:Int)+1)).toNat< ((a.n:Int)-(k:Int)).toNat:=λeA hq=>by
  rw[hw]
  refine⟨⟨eA,k+1,rfl,by omega,λj h1 h2 h=>?_⟩,by omega⟩
  by_cases hjk:j=k
  ·subst hjk;exact hq
  ·exact he j h1 h2 (by omega)
 have no1: ∀{A':zV},Ext H A'->keyK a.xs[k]≠keyK b.xs[k]->R (.bool false) A':=λeA h=>hR _ _ ⟨by rw[zQ (oq hka hkb h)],eA⟩
 have hk0:Int.toNat (k:Int)=k:=by omega
 have hkb2:(k:Int)< (b.n:Int):=by omega
 generalize a.xs[k]=x at*
 generalize b.xs[k]=y at*
 refine⟨pa,hpa,⟨by omega,hlt⟩,x.tag,x.type,x.more,x.words.p,x.words.n,x.words.c,x.is.p,x.is.n,x.is.c,by rw[hk0];exact ra,pb,hpb,⟨by omega,hkb2⟩,y.tag,y.type,y.more,y.words.p,y.words.n,y.words.c,y.is.p,y.is.n,y.is.c,by rw[hk0];exact rb,?gl14,?gr14⟩
 case' gl14=>
  intro b1 H2 hb1 hH2
  have e2:Ext H1 H2:=Ext.push' hH2
  refine⟨by rw[hk0];exact e2.rowAt ra,by rw[hk0];exact e2.rowAt rb,λb2 H3 hb2 hH3=>?_⟩
  have e3:Ext H2 H3:=Ext.push' hH3
  have e13:=e2.trans e3
  have z2:=e2.size
  obtain⟨c4,s4⟩:=kD (e3.get (aG hb1 hH2)) (eU.cells x) rfl
  refine⟨by rw[hk0];exact e13.rowAt ra,by rw[hk0];exact e13.rowAt rb,c4,λH4 hH4=>?_⟩
  obtain⟨gx,f4⟩:=s4 H4 hH4
  have e4:Ext H1 H4:=e13.fr_trans f4 (λi hi=>by simp at hi;omega)
  have hne:b2≠b1:=by have:=aO (aG hb1 hH2);omega
  obtain⟨c5,s5⟩:=kD (f4.get (by simp;exact hne) (aG hb2 hH3)) (eU.cells y) rfl
  refine⟨by rw[hk0];exact e4.rowAt rb,c5,λH5 hH5=>?_⟩
  obtain⟨gy,f5⟩:=s5 H5 hH5
  replace gx:=f5.get (by simp;omega) gx
  have e5:Ext H1 H5:=e4.fr_trans f5 (λi hi=>by simp at hi;omega)
  clear s4 s5 c4 c5 f4 f5 hH4 hH5
 case' gr14=>
  intro b2 H2 hb2 hH2
  have e2:Ext H1 H2:=Ext.push' hH2
  refine⟨by rw[hk0];exact e2.rowAt ra,by rw[hk0];exact e2.rowAt rb,λb1 H3 hb1 hH3=>?_⟩
  have e3:Ext H2 H3:=Ext.push' hH3
  have e13:=e2.trans e3
  have z2:=e2.size
  obtain⟨c4,s4⟩:=kD (aG hb1 hH3) (eU.cells x) rfl
  refine⟨by rw[hk0];exact e13.rowAt ra,by rw[hk0];exact e13.rowAt rb,c4,λH4 hH4=>?_⟩
  obtain⟨gx,f4⟩:=s4 H4 hH4
  have e4:Ext H1 H4:=e13.fr_trans f4 (λi hi=>by simp at hi;omega)
  have hne:b2≠b1:=by have:=aO (aG hb2 hH2);omega
  obtain⟨c5,s5⟩:=kD (f4.get (by simp;exact hne) (e3.get (aG hb2 hH2))) (eU.cells y) rfl
  refine⟨by rw[hk0];exact e4.rowAt rb,c5,λH5 hH5=>?_⟩
  obtain⟨gy,f5⟩:=s5 H5 hH5
  replace gx:=f5.get (by simp;omega) gx
  have e5:Ext H1 H5:=e4.fr_trans f5 (λi hi=>by simp at hi;omega)
  clear s4 s5 c4 c5 f4 f5 hH4 hH5
 all_goals
  have e15:=e1.trans e5
  have no:keyK x≠keyK y->R (.bool false) H5:=no1 e15
  have ox:=eU.mono e5 oa
  have oy:=eU.mono e5 ob
  refine⟨x.tag,by rw[aI gx];rfl,y.tag,by rw[aI gy];rfl,?_⟩
  by_cases h1:x.tag=y.tag
  case neg=>rw[if_neg h1];exact no (λq=>h1 (congrArg (λz=>z.1) q))
  rw[if_pos h1]
  refine⟨x.type,by rw[cD gx];rfl,y.type,by rw[cD gy];rfl,?_⟩
  by_cases h2:x.type=y.type
  case neg=>rw[if_neg h2];exact no (λq=>h2 (congrArg (λz=>z.2.1) q))
  rw[if_pos h2]
  refine⟨x.more,by rw[cD gx];rfl,y.more,by rw[cD gy];rfl,?_⟩
  by_cases h3:x.more=y.more
  case neg=>rw[if_neg h3];exact no (λq=>h3 (congrArg (λz=>z.2.2.1) q))
  rw[if_pos h3]
  refine⟨_,_,_,by rw[cD gx];rfl,_,_,_,by rw[cD gy];rfl,?_⟩
  by_cases hw4:(x.words.n:Int)=(y.words.n:Int)
  case neg=>rw[if_neg hw4];exact no (λq=>hw4 (by have q2:x.words.xs=y.words.xs:=congrArg (λz=>z.2.2.2.1) q;have:=ox.words.len;have:=oy.words.len;rw[q2]at*;omega))
  rw[if_pos hw4]
  refine⟨_,_,_,by rw[cD gx];rfl,_,_,_,by rw[cD gy];rfl,?_⟩
  by_cases hi4:(x.is.n:Int)=(y.is.n:Int)
  case neg=>rw[if_neg hi4];exact no (λq=>hi4 (by have q2:x.is.xs=y.is.xs:=congrArg (λz=>z.2.2.2.2) q;have:=ox.is.len;have:=oy.is.len;rw[q2]at*;omega))
  rw[if_pos hi4]
  refine⟨λi A'=>H5=A'/\ ∃j:Nat,i=j/\j<=x.words.n/\ ∀t,t<j->x.words.xs[t]?=y.words.xs[t]?,λi _=>((x.words.n:Int)-i).toNat,⟨rfl,0,rfl,by omega,λj h=>by omega⟩,?_⟩
  rintro _ _ ⟨rfl,j,rfl,hj,hej⟩
  refine⟨_,_,_,by rw[cD gx];rfl,?_⟩
  by_cases hlt2:(j:Int)< (x.words.n:Int)
  ·rw[if_pos hlt2]
   have hlx:=ox.words.len
   have hly:=oy.words.len
   have hlm:=ox.words.le
   have hkx:j<x.words.xs.length:=by omega
   have hky:j<y.words.xs.length:=by omega
   obtain⟨pa,ha1,ha⟩:=(SlOK.nums ox.words).at hkx
   obtain⟨pb,hb1,hb⟩:=(SlOK.nums oy.words).at hky
   refine⟨_,_,_,by rw[cD gx];rfl,pa,ha1,⟨by omega,hlt2⟩,_,by rw[show Int.toNat (j:Int)=j by omega];exact ha,_,_,_,by rw[cD gy];rfl,pb,hb1,⟨by omega,by omega⟩,_,by rw[show Int.toNat (j:Int)=j by omega];exact hb,?_⟩
   by_cases hxy:x.words.xs[j]=y.words.xs[j]
   ·rw[if_pos hxy]
    have hw:IntKind.wrap .i64 ((j:Int)+1)=((j+1:Nat):Int):=by rw[w64 (n:=(j:Int)+1) (by omega)];omega
    rw[hw]
    refine⟨⟨rfl,j+1,rfl,by omega,λt h=>?_⟩,by show((x.words.n:Int)-((j+1:Nat):Int)).toNat< ((x.words.n:Int)-(j:Int)).toNat;omega⟩
    by_cases hjk:t=j
    ·subst hjk;rw[List.getElem?_eq_getElem hkx,List.getElem?_eq_getElem hky,hxy]
    ·exact hej t (by omega)
   ·rw[if_neg hxy]
    exact no (λq=>hxy (by
     have q2:x.words.xs=y.words.xs:=congrArg (λz=>z.2.2.2.1) q
     have q3:x.words.xs[j]?=y.words.xs[j]?:=by rw[q2]
     rw[List.getElem?_eq_getElem hkx,List.getElem?_eq_getElem hky]at q3
     exact Option.some.inj q3))
  rw[if_neg hlt2]
  have h4:x.words.xs=y.words.xs:=List.ext_getElem? λt=>by
   by_cases ht:t<j
   ·exact hej t ht
   ·have hlx:=ox.words.len
    have hly:=oy.words.len
    rw[List.getElem?_eq_none (by omega),List.getElem?_eq_none (by omega)]
  clear hej hlt2
  refine⟨λi A'=>H5=A'/\ ∃j:Nat,i=j/\j<=x.is.n/\ ∀t,t<j->x.is.xs[t]?=y.is.xs[t]?,λi _=>((x.is.n:Int)-i).toNat,⟨rfl,0,rfl,by omega,λj h=>by omega⟩,?_⟩
  rintro _ _ ⟨rfl,j,rfl,hj,hej⟩
  refine⟨_,_,_,by rw[cD gx];rfl,?_⟩
  by_cases hlt2:(j:Int)< (x.is.n:Int)
  ·rw[if_pos hlt2]
   have hlx:=ox.is.len
   have hly:=oy.is.len
   have hlm:=ox.is.le
   have hkx:j<x.is.xs.length:=by omega
   have hky:j<y.is.xs.length:=by omega
   obtain⟨pa,ha1,ha⟩:=(SlOK.nums ox.is).at hkx
   obtain⟨pb,hb1,hb⟩:=(SlOK.nums oy.is).at hky
   refine⟨_,_,_,by rw[cD gx];rfl,pa,ha1,⟨by omega,hlt2⟩,_,by rw[show Int.toNat (j:Int)=j by omega];exact ha,_,_,_,by rw[cD gy];rfl,pb,hb1,⟨by omega,by omega⟩,_,by rw[show Int.toNat (j:Int)=j by omega];exact hb,?_⟩
   by_cases hxy:x.is.xs[j]=y.is.xs[j]
   ·rw[if_pos hxy]
    have hw:IntKind.wrap .i64 ((j:Int)+1)=((j+1:Nat):Int):=by rw[w64 (n:=(j:Int)+1) (by omega)];omega
    rw[hw]
    refine⟨⟨rfl,j+1,rfl,by omega,λt h=>?_⟩,by show((x.is.n:Int)-((j+1:Nat):Int)).toNat< ((x.is.n:Int)-(j:Int)).toNat;omega⟩
    by_cases hjk:t=j
    ·subst hjk;rw[List.getElem?_eq_getElem hkx,List.getElem?_eq_getElem hky,hxy]
    ·exact hej t (by omega)
   ·rw[if_neg hxy]
    exact no (λq=>hxy (by
     have q2:x.is.xs=y.is.xs:=congrArg (λz=>z.2.2.2.2) q
     have q3:x.is.xs[j]?=y.is.xs[j]?:=by rw[q2]
     rw[List.getElem?_eq_getElem hkx,List.getElem?_eq_getElem hky]at q3
     exact Option.some.inj q3))
  rw[if_neg hlt2]
  have h5:x.is.xs=y.is.xs:=List.ext_getElem? λt=>by
   by_cases ht:t<j
   ·exact hej t ht
   ·have hlx:=ox.is.len
    have hly:=oy.is.len
    rw[List.getElem?_eq_none (by omega),List.getElem?_eq_none (by omega)]
  clear hej hlt2
  exact fin e15 (by unfold keyK;rw[h1,h2,h3,h4,h5])
theorem m8{H:zV}{l:Sl eM}(A:SlOK 5 eU maxLen H l):bS.C l.p l.n l.c H (λv H'=>(∃x:Bool,v=.bool x)/\H'=H):=by
 refine HC.via λR hR=>bS.link ?_
 unfold bS.pt zY
 by_cases hn:(l.n:Int)>200
 ·rw[if_pos hn];exact hR _ _ ⟨⟨_,rfl⟩,rfl⟩
 rw[if_neg hn]
 have hll:=A.len
 refine⟨λi A'=>A'=H/\ ∃k:Nat,i=k/\k<=l.n,λi _=>((l.n:Int)-i).toNat,⟨rfl,0,rfl,by omega⟩,?_⟩
 rintro _ _ ⟨rfl,k,rfl,hk⟩
 by_cases hlt:(k:Int)< (l.n:Int)
 case neg=>rw[if_neg hlt];exact hR _ _ ⟨⟨_,rfl⟩,rfl⟩
 rw[if_pos hlt]
 obtain⟨a,ha,r1,r2,r3,r4,r5,-⟩:=A.row k (by omega)
 have hk0:Int.toNat (k:Int)=k:=by omega
 refine⟨a,ha,⟨by omega,hlt⟩,_,_,_,by rw[hk0];exact r4,?_⟩
 by_cases h1:(((l.xs[k]'(by omega)).words.n:Nat):Int)>200
 ·rw[if_pos h1];exact hR _ _ ⟨⟨_,rfl⟩,rfl⟩
 rw[if_neg h1]
 refine⟨⟨by omega,hlt⟩,_,_,_,by rw[hk0];exact r5,?_⟩
 by_cases h2:(((l.xs[k]'(by omega)).is.n:Nat):Int)>200
 ·rw[if_pos h2];exact hR _ _ ⟨⟨_,rfl⟩,rfl⟩
 rw[if_neg h2]
 have hw:IntKind.wrap .i64 ((k:Int)+1)=((k+1:Nat):Int):=by rw[w64 (n:=(k:Int)+1) (by omega)];omega
 rw[hw]
 exact⟨⟨rfl,k+1,rfl,by omega⟩,by show((l.n:Int)-((k+1:Nat):Int)).toNat< ((l.n:Int)-(k:Int)).toNat;omega⟩
