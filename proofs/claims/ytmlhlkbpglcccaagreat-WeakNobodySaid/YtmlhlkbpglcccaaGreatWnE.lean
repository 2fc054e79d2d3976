/-
 Without a trace nothing is done (weak): entries and words, copied. Proves nothing of any one statement.
-/
import Derived.Test.YtmlhlkbpglcccaaGreatActE
import Derived.Test.YtmlhlkbpglcccaaGreatText
import Derived.Test.YtmlhlkbpglcccaaGreatFweak
import Derived.Test.YtmlhlkbpglcccaaGreatFslices
import Derived.Test.YtmlhlkbpglcccaaGreatFref12
import Derived.Test.YtmlhlkbpglcccaaGreatL12words
import Derived.Test.YtmlhlkbpglcccaaGreatL12WeakNobody
set_option linter.unusedVariables false
set_option linter.unusedSimpArgs false
namespace Go.Proofs.YtmlhlkbpglcccaaGreat
open Go
open Go.ChangeShapes Go.WideShapes

theorem iO: ∀(xs:List dw) (i:Nat) (h:i<xs.length),(xs.flatMap dw.cells)[i*2]?=some (.int .u64 xs[i].obj)/\(xs.flatMap dw.cells)[i*2+1]?=some (.int .u64 xs[i].guardian)
 | x::xs,0,_=>⟨rfl,rfl⟩
 | x::xs,i+1,h=>by
  have:=iO xs i (by simpa using h)
  rw[List.flatMap_cons,show(i+1)*2=i*2+2 by omega]
  exact this
theorem j3: ∀xs:List dw,(xs.flatMap dw.cells).length=xs.length*2
 | []=>rfl
 | x::xs=>by rw[List.flatMap_cons,List.length_append,j3 xs];simp;omega
theorem lE: ∀xs:List dw,fG (xs.flatMap dw.cells)=true
 | []=>rfl
 | x::xs=>by rw[List.flatMap_cons];exact lE xs
theorem nU{H:zV}{s:Sl dw}(A:SlOK 2 j2 maxLen H s):dd H s.p (s.xs.flatMap dw.cells):=by
 cases hp:s.p with
 | none=>
  have:s.xs=[]:=by
   cases hx:s.xs with
   | nil=>rfl
   | cons x r=>
    obtain⟨a,ha,_⟩:=A.row 0 (by rw[hx];simp)
    rw[hp]at ha;cases ha
  rw[this];rfl
 | some a=>
  refine fP λj v hv=>?_
  have hj:j<s.xs.length*2:=by
   rw[<-j3]
   rcases Nat.lt_or_ge j (s.xs.flatMap dw.cells).length with h | h
   ·exact h
   ·rw[List.getElem?_eq_none h]at hv;cases hv
  have hi:j / 2<s.xs.length:=by omega
  obtain⟨a',ha,row⟩:=A.row (j / 2) hi
  rw[hp]at ha
  cases ha
  obtain⟨g0,g1⟩:=iO s.xs (j / 2) hi
  obtain⟨r0,r1,_⟩:=row
  rw[Nat.zero_add]
  rcases(show j=j / 2*2\/j=j / 2*2+1 by omega)with e | e
  ·rw[e,g0]at hv
   cases hv
   have e2:a.add j=(a.add (j / 2*2)).add 0:=by rw[fI];congr 1
   rw[e2];exact r0
  ·rw[e,g1]at hv
   cases hv
   have e2:a.add j=(a.add (j / 2*2)).add 1:=by rw[fI];congr 1
   rw[e2];exact r1
theorem lF{H:zV}{p:zW}{xs:List dw}(h:dd H p (xs.flatMap dw.cells)){k:Nat}(hk:k<xs.length): ∃a,p=some a/\aT H (a.add (k*2)) 0 [.int .u64 xs[k].obj,.int .u64 xs[k].guardian]:=by
 obtain⟨g0,g1⟩:=iO xs k hk
 cases p with
 | none=>
  rw[SrcAt_none]at h
  rw[h]at g0;simp at g0
 | some a=>
  refine⟨a,rfl,?_,?_,trivial⟩
  ·have:=er h (k*2) _ g0
   rw[Nat.zero_add]at this
   rw[iW];exact this
  ·have:=er h (k*2+1) _ g1
   rw[Nat.zero_add]at this
   have e:a.add (k*2+1)=(a.add (k*2)).add (0+1):=by rw[fI]
   rw[<-e];exact this
theorem lG{H:zV}{p:zW}{ws:List Int}(h:dd H p (wvs ws)){i:Nat}(hi:i<ws.length): ∃a,p=some a/\hat H (a.add (i*1))=some (.int .u64 ws[i]):=by
 cases p with
 | none=>rw[SrcAt_none]at h;simp[wvs]at h;subst h;simp at hi
 | some a=>
  refine⟨a,rfl,?_⟩
  have:=er h i (.int .u64 ws[i]) (by simp[wvs,hi])
  simpa using this
theorem nV{H:zV}{sB:zW}{sN sC:Nat}{vs:List Value}(hs:dd H sB vs)(hl:vs.length=sN*2)(h1:fG vs=true)(hn:sN<=1000000):
  aR.C sB sN sC H (λv H'=> ∃(B:zW) (c:Nat),v=.slice B sN c/\Own H' 36 2 B sN c vs/\(∀j∈blks B,H.size<=j)/\Ext H H'):=by
 refine HC.via λR hR=>aR.link ?_
 unfold aR.pt
 cases sB with
 | none=>
  rw[onPtr_none]
  rw[SrcAt_none]at hs
  subst hs
  have:sN=0:=by simp at hl;omega
  subst this
  exact hR _ _ ⟨none,0,rfl,gJ,by simp,Ext.refl _⟩
 | some a=>
  rw[onPtr_some]
  intro b H1 hb1 hH1
  have e1:Ext H H1:=Ext.push' hH1
  have ho:Own H1 36 2 (some ⟨b,0,none⟩) 0 0 []:=⟨rfl,_,aL hb1 hH1,rfl,Nat.le_refl _,rfl,λj hj=>by omega⟩
  refine ft (ys:=vs) ho (e1.rowAt hs) hl h1 rfl (by omega) ?_
  intro p c H2 how f hnew
  rw[Nat.zero_add]at how⊢
  refine hR _ _ ⟨p,c,rfl,by simpa using how,λi hi=>?_,e1.fr_trans f (λi hi=>by simp at hi;omega)⟩
  rcases hnew i hi with h | h
  ·simp at h;omega
  ·have:=e1.size;omega
theorem ml{H:zV}{sB:zW}{sN sC:Nat}{ws:List Int}(hs:dd H sB (wvs ws))(hn:sN=ws.length)(hb:sN<=1000000):
  aV.C sB sN sC H (λv H'=> ∃(B:zW) (c:Nat),v=.slice B ws.length c/\Own H' 28 1 B ws.length c (wvs ws)/\(∀j∈blks B,H.size<=j)/\Ext H H'):=by
 refine HC.via λR hR=>aV.link ?_
 unfold aV.pt
 subst hn
 cases sB with
 | none=>
  rw[onPtr_none]
  rw[SrcAt_none]at hs
  have:ws=[]:=by unfold wvs at hs;simpa using hs
  subst this
  exact hR _ _ ⟨none,0,rfl,gJ,by simp,Ext.refl _⟩
 | some a=>
  rw[onPtr_some]
  intro b H1 hb1 hH1
  have e1:Ext H H1:=Ext.push' hH1
  have ho:Own H1 28 1 (some ⟨b,0,none⟩) 0 0 []:=⟨rfl,_,aL hb1 hH1,rfl,Nat.le_refl _,rfl,λj hj=>by omega⟩
  refine ft (ys:=wvs ws) ho (e1.rowAt hs) (by simp[wvs]) (ip _) rfl (by omega) ?_
  intro p c H2 how f hnew
  rw[Nat.zero_add]at how⊢
  refine hR _ _ ⟨p,c,rfl,by simpa using how,λi hi=>?_,e1.fr_trans f (λi hi=>by simp at hi;omega)⟩
  rcases hnew i hi with h | h
  ·simp at h;omega
  ·have:=e1.size;omega
theorem iX{H:zV}:dq.C none H (λv H'=>v=.bool true/\H'=H):=by
 refine HC.via λR hR=>dq.link ?_
 unfold dq.pt
 rw[onPtr_none]
 exact hR _ _ ⟨rfl,rfl⟩
theorem mm{H:zV}:dg.C none H (λ_ H'=>H'=H):=by
 refine HC.via λR hR=>dg.link ?_
 unfold dg.pt zY
 refine HC.mono iX ?_
 rintro _ _ ⟨rfl,rfl⟩
 refine⟨_,rfl,?_⟩
 rw[if_pos rfl]
 exact hR _ _ rfl
theorem nj{H:zV}{sB:zW}{sN sC:Nat}{ws:List Int}(hs:dd H sB (wvs ws))(hn:sN=ws.length)(hb:sN<=1000000):
  eL.C none sB sN sC H (λv H'=> ∃(B:zW) (c:Nat),v=.slice B ws.length c/\Own H' 28 1 B ws.length c (wvs ws)/\(∀j∈blks B,H.size<=j)/\Ext H H'):=by
 refine HC.via λR hR=>eL.link ?_
 unfold eL.pt zY
 refine HC.mono iX ?_
 rintro _ H1 ⟨rfl,rfl⟩
 refine⟨_,rfl,?_⟩
 rw[if_pos rfl]
 refine HC.mono (ml hs hn hb) ?_
 rintro _ H2 ⟨B,c,rfl,h1,h2,h3⟩
 exact⟨_,_,_,rfl,hR _ _ ⟨B,c,rfl,h1,h2,h3⟩⟩
theorem mn{H:zV}{sB:zW}{sN sC:Nat}{vs:List Value}(hs:dd H sB vs)(hl:vs.length=sN*2)(h1:fG vs=true)(hn:sN<=1000000):
  df.C none sB sN sC H (λv H'=> ∃(B:zW) (c:Nat),v=.slice B sN c/\Own H' 36 2 B sN c vs/\(∀j∈blks B,H.size<=j)/\Ext H H'):=by
 refine HC.via λR hR=>df.link ?_
 unfold df.pt zY
 intro c H1 hc hH1 c2 H2 hc2 hH2
 have e1:Ext H H1:=Ext.push' hH1
 have e2:Ext H1 H2:=Ext.push' hH2
 have e12:=e1.trans e2
 refine⟨_,by rw[aM (e2.get (aL hc hH1))];rfl,HC.mono iX ?_⟩
 rintro _ H3 ⟨rfl,rfl⟩
 refine⟨_,rfl,?_⟩
 rw[if_pos rfl]
 refine⟨sB,sN,sC,by rw[aM (aL hc2 hH2)];rfl,HC.mono (nV (hs.ext e12) hl h1 hn) ?_⟩
 rintro _ H4 ⟨B,c,rfl,k1,k2,k3⟩
 exact⟨_,_,_,rfl,hR _ _ ⟨B,c,rfl,k1,λj hj=>by have:=k2 j hj;have:=e12.size;omega,e12.trans k3⟩⟩
theorem nk{H:zV}{aB bB:zW}{n aC bC:Nat}{ws:List Int}(ha:dd H aB (wvs ws))(hb:dd H bB (wvs ws))(hn:n=ws.length)(hl:n<=1000000):
  cv.C aB n aC bB n bC H (λv H'=>v=.bool true/\H'=H):=by
 refine HC.via λR hR=>cv.link ?_
 unfold cv.pt zY
 subst hn
 rw[if_pos rfl]
 refine⟨λi A=> ∃k:Nat,i=k/\k<=ws.length/\A=H,λi _=>((ws.length:Int)-i).toNat,⟨0,rfl,by omega,rfl⟩,?_⟩
 rintro _ _ ⟨k,rfl,hk,rfl⟩
 by_cases hlt:(k:Int)< (ws.length:Int)
 case neg=>rw[if_neg hlt];exact hR _ _ ⟨rfl,rfl⟩
 rw[if_pos hlt]
 have hkl:k<ws.length:=by omega
 obtain⟨a,a1,a2⟩:=lG ha hkl
 obtain⟨b,b1,b2⟩:=lG hb hkl
 refine⟨a,a1,⟨by omega,hlt⟩,ws[k],by rw[show Int.toNat (k:Int)=k by omega];exact a2,b,b1,⟨by omega,hlt⟩,ws[k],by rw[show Int.toNat (k:Int)=k by omega];exact b2,?_⟩
 rw[if_pos rfl]
 have hw:IntKind.wrap .i64 ((k:Int)+1)=((k+1:Nat):Int):=by rw[w64 (n:=(k:Int)+1) (by omega)];omega
 rw[hw]
 exact⟨⟨k+1,rfl,hkl,rfl⟩,by show((ws.length:Int)-((k+1:Nat):Int)).toNat< ((ws.length:Int)-(k:Int)).toNat;omega⟩
theorem nW{H:zV}{aB bB:zW}{n aC bC:Nat}{xs:List dw}(ha:dd H aB (xs.flatMap dw.cells))(hb:dd H bB (xs.flatMap dw.cells))(hn:n=xs.length)(hl:n<=1000000):
  cF.C aB n aC bB n bC H (λv H'=>v=.bool true/\H'=H):=by
 refine HC.via λR hR=>cF.link ?_
 unfold cF.pt zY
 subst hn
 rw[if_pos rfl]
 refine⟨λi A=> ∃k:Nat,i=k/\k<=xs.length/\A=H,λi _=>((xs.length:Int)-i).toNat,⟨0,rfl,by omega,rfl⟩,?_⟩
 rintro _ _ ⟨k,rfl,hk,rfl⟩
 by_cases hlt:(k:Int)< (xs.length:Int)
 case neg=>rw[if_neg hlt];exact hR _ _ ⟨rfl,rfl⟩
 rw[if_pos hlt]
 have hkl:k<xs.length:=by omega
 obtain⟨a,a1,a2⟩:=lF ha hkl
 obtain⟨b,b1,b2⟩:=lF hb hkl
 refine⟨a,a1,⟨by omega,hlt⟩,_,_,by rw[show Int.toNat (k:Int)=k by omega];exact a2,b,b1,⟨by omega,hlt⟩,_,_,by rw[show Int.toNat (k:Int)=k by omega];exact b2,trivial,?_⟩
 rw[if_pos ⟨rfl,rfl⟩]
 have hw:IntKind.wrap .i64 ((k:Int)+1)=((k+1:Nat):Int):=by rw[w64 (n:=(k:Int)+1) (by omega)];omega
 rw[hw]
 exact⟨⟨k+1,rfl,hkl,rfl⟩,by show((xs.length:Int)-((k+1:Nat):Int)).toNat< ((xs.length:Int)-(k:Int)).toNat;omega⟩
